import PyProof.Rows.All
import Wide.All
import OpenK.AllK
import Wide.FinOn
import HandS.ForMost
import HandS.Zip
import HandS.Deep
import HandS.IsInst
import HandS.Defaults
import HandS.Wide
import HandS.WideBits
import PySem.Challenge.RW_roundglass_k28_whole_corners_and_most
set_option linter.all false
namespace Rg
/-! plane geometry over Rat: signed lines, the body that they bound, its outermost points -/
structure Ln where
  p : Rat
  q : Rat
  r : Rat
deriving DecidableEq
abbrev Ray := Rat × Rat
def dt (h : Ln) (x : Ray) : Rat := h.p * x.1 + h.q * x.2
def cx (h k : Ln) : Rat := h.p * k.q - h.q * k.p
def cr (a b : Ray) : Rat := a.1 * b.2 - a.2 * b.1
def ng (h : Ln) : Ln := ⟨-h.p, -h.q, h.r⟩
def op (x : Ray) : Ray := (-x.1, -x.2)
def HH (L : List Ln) (h : Ln) : Prop := h ∈ L ∨ ng h ∈ L
def inP (L : List Ln) (x : Ray) : Prop := ∀ h, HH L h → dt h x ≤ h.r
def isV (L : List Ln) (x : Ray) : Prop := inP L x ∧ ∃ h k, HH L h ∧ HH L k ∧ cx h k ≠ 0 ∧ dt h x = h.r ∧ dt k x = k.r

theorem ng_ng (h : Ln) : ng (ng h) = h := by cases h; simp [ng]
theorem HH.ng {L : List Ln} {h : Ln} (a : HH L h) : HH L (ng h) := by
  rcases a with a | a
  · right; rw [ng_ng]; exact a
  · left; exact a
theorem HH.pos {L : List Ln} {h : Ln} (a : HH L h) (hr : ∀ l ∈ L, 0 < l.r) : 0 < h.r := by
  rcases a with a | a
  · exact hr _ a
  · exact hr (Rg.ng h) a

theorem pp {a b : Rat} (h : 0 < a) (k : 0 < b) : 0 < a * b := Rat.mul_pos h k
theorem nn {a b : Rat} (h : 0 ≤ a) (k : 0 ≤ b) : 0 ≤ a * b := Rat.mul_nonneg h k

/-- a product's sign -/
theorem pos_of {c b t : Rat} (e : c * b = t) (hb : 0 < b) (ht : 0 < t) : 0 < c := by
  rcases @Rat.le_total c 0 with h | h
  · have := nn (show 0 ≤ -c by grind) (show 0 ≤ b by grind)
    grind
  · by_cases z : c = 0
    · rw [z] at e; grind
    · grind
theorem nn_of {c b t : Rat} (e : c * b = t) (hb : 0 < b) (ht : 0 ≤ t) : 0 ≤ c := by
  by_cases z : t = 0
  · have : c * b = 0 := e.trans z
    rcases Rat.mul_eq_zero.mp this with h | h <;> grind
  · have := pos_of e hb (show 0 < t by grind)
    grind
theorem cancel {a b d : Rat} (hd : d ≠ 0) (h : a * d = b * d) : a = b := by
  have : (a - b) * d = 0 := by grind
  rcases Rat.mul_eq_zero.mp this with h | h
  · grind
  · exact absurd h hd
theorem quot (t : Rat) {b : Rat} (hb : b ≠ 0) : ∃ c, c * b = t := ⟨t / b, by grind⟩
theorem worth_lt {c b t a hr kr gr s : Rat} (e : c * b = t) (h : 0 < c * (a * hr + b * kr - gr)) : (s - c * a) * hr + c * gr < s * hr + t * kr := by
  have e2 : c * b * kr = t * kr := by rw [e]
  grind
/-- the pivot: k is put in the place of h2 -/
theorem pivot {hp hq hr kp kq kr gp gq gr s t p q x y : Rat} (D : Rat) (hD : D = hp * kq - hq * kp) (hD0 : D ≠ 0)
    (ep : p = s * hp + t * kp) (eq : q = s * hq + t * kq) (ht : 0 < t) (hs : 0 ≤ s)
    (ex : hp * x + hq * y = hr) (ey : kp * x + kq * y = kr) (big : gr < gp * x + gq * y)
    (a b : Rat) (ea : a * D = gp * kq - gq * kp) (eb : b * D = hp * gq - hq * gp) (hb : 0 < b) (hc : t * a ≤ s * b) :
    ∃ s' t', 0 ≤ s' ∧ 0 < t' ∧ p = s' * hp + t' * gp ∧ q = s' * hq + t' * gq ∧ hp * gq - hq * gp ≠ 0 ∧ s' * hr + t' * gr < s * hr + t * kr := by
  have g1 : gp = a * hp + b * kp := cancel hD0 (by grind)
  have g2 : gq = a * hq + b * kq := cancel hD0 (by grind)
  have hb0 : b ≠ 0 := by grind
  obtain ⟨c, e⟩ := quot t hb0
  have tb : 0 < c := pos_of e hb ht
  refine ⟨s - c * a, c, ?_, tb, ?_, ?_, ?_, ?_⟩
  · have e2 : (s - c * a) * b = s * b - t * a := by
      rw [← e]
      grind
    exact nn_of e2 hb (by grind)
  · rw [ep, g1, ← e]; grind
  · rw [eq, g2, ← e]; grind
  · intro z
    have : b * D = 0 := by grind
    rcases Rat.mul_eq_zero.mp this with h | h <;> grind
  · have e0 : gp * x + gq * y = a * hr + b * kr := by
      rw [g1, g2, ← ex, ← ey]
      grind
    exact worth_lt e (pp tb (by grind))

/-- m is the worth of shares, from nought on, of two signed lines that aren't along one another -/
def Sh (L : List Ln) (p q w : Rat) : Prop :=
  ∃ h k s t, HH L h ∧ HH L k ∧ cx h k ≠ 0 ∧ 0 ≤ s ∧ 0 ≤ t ∧ p = s * h.p + t * k.p ∧ q = s * h.q + t * k.q ∧ w = s * h.r + t * k.r
theorem Sh.le {L : List Ln} {p q m : Rat} {x : Ray} (a : Sh L p q m) (hx : inP L x) : p * x.1 + q * x.2 ≤ m := by
  obtain ⟨h, k, s, t, hh, hk, _, hs, ht, rfl, rfl, rfl⟩ := a
  have h1 := nn hs (show 0 ≤ h.r - dt h x by have := hx h hh; grind)
  have h2 := nn ht (show 0 ≤ k.r - dt k x by have := hx k hk; grind)
  unfold dt at h1 h2
  grind
/-- where two lines are at their ends -/
theorem meet (h k : Ln) (hc : cx h k ≠ 0) : ∃ x : Ray, dt h x = h.r ∧ dt k x = k.r := by
  obtain ⟨a, ha⟩ := quot (h.r * k.q - k.r * h.q) hc
  obtain ⟨b, hb⟩ := quot (k.r * h.p - h.r * k.p) hc
  refine ⟨(a, b), ?_, ?_⟩
  · refine cancel hc ?_
    unfold dt; unfold cx at *
    grind
  · refine cancel hc ?_
    unfold dt; unfold cx at *
    grind
/-- both shares above nought: their meeting is let by -/
theorem strong2 {L : List Ln} (hr : ∀ l ∈ L, 0 < l.r) {p q m : Rat} {h k : Ln} {s t : Rat} (hh : HH L h) (hk : HH L k) (hc : cx h k ≠ 0) (hs : 0 < s) (ht : 0 < t)
    (ep : p = s * h.p + t * k.p) (eq : q = s * h.q + t * k.q) (em : m = s * h.r + t * k.r) (mn : ∀ w, Sh L p q w → m ≤ w) : ∃ x, isV L x ∧ p * x.1 + q * x.2 = m := by
  obtain ⟨x, e1, e2⟩ := meet h k hc
  refine ⟨x, ⟨fun g hg => ?_, h, k, hh, hk, hc, e1, e2⟩, ?_⟩
  · rcases @Rat.le_total (dt g x) g.r with z | z
    · exact z
    · by_cases z2 : dt g x = g.r
      · grind
      · exfalso
        have big : g.r < dt g x := by grind
        obtain ⟨a, ha⟩ := quot (cx g k) hc
        obtain ⟨b, hb⟩ := quot (cx h g) hc
        have hrp := hh.pos hr
        have krp := hk.pos hr
        have grp := hg.pos hr
        have e0 : dt g x = a * h.r + b * k.r := by
          refine cancel hc ?_
          rw [← e1, ← e2]
          unfold cx dt at *
          grind
        unfold cx at ha hb hc
        unfold dt at e1 e2 big
        -- which of both is put away
        have key : (0 < b ∧ t * a ≤ s * b) ∨ (0 < a ∧ s * b ≤ t * a) := by
          rcases @Rat.le_total a 0 with za | za
          · left
            have h1 := nn (show 0 ≤ -a by grind) (show 0 ≤ h.r by grind)
            have hbk : 0 < b * k.r := by grind
            have hb0 : 0 < b := pos_of rfl krp hbk
            have h2 := nn (show 0 ≤ -a by grind) (show 0 ≤ t by grind)
            have h3 := pp hs hb0
            exact ⟨hb0, by grind⟩
          · rcases @Rat.le_total b 0 with zb | zb
            · right
              have h1 := nn (show 0 ≤ -b by grind) (show 0 ≤ k.r by grind)
              have hak : 0 < a * h.r := by grind
              have ha0 : 0 < a := pos_of rfl hrp hak
              have h2 := nn (show 0 ≤ -b by grind) (show 0 ≤ s by grind)
              have h3 := pp ht ha0
              exact ⟨ha0, by grind⟩
            · rcases @Rat.le_total (t * a) (s * b) with y | y
              · by_cases b0 : b = 0
                · right
                  have hak : 0 < a * h.r := by rw [b0] at e0; grind
                  have ha0 : 0 < a := pos_of rfl hrp hak
                  have := pp ht ha0
                  exact ⟨ha0, by rw [b0]; grind⟩
                · left; exact ⟨by grind, y⟩
              · by_cases a0 : a = 0
                · left
                  have hbk : 0 < b * k.r := by rw [a0] at e0; grind
                  have hb0 : 0 < b := pos_of rfl krp hbk
                  have := pp hs hb0
                  exact ⟨hb0, by rw [a0]; grind⟩
                · right; exact ⟨by grind, y⟩
        rcases key with ⟨hb0, hle⟩ | ⟨ha0, hle⟩
        · obtain ⟨s', t', h1, h2, h3, h4, h5, h6⟩ := pivot (h.p * k.q - h.q * k.p) rfl hc ep eq ht (by grind) e1 e2 big a b ha hb hb0 hle
          have := mn _ ⟨h, g, s', t', hh, hg, h5, h1, by grind, h3, h4, rfl⟩
          grind
        · obtain ⟨s', t', h1, h2, h3, h4, h5, h6⟩ := pivot (p := p) (q := q) (s := t) (t := s) (k.p * h.q - k.q * h.p) rfl (by grind) (by grind) (by grind) hs (by grind) e2 e1 big b a (by grind) (by grind) ha0 hle
          have := mn _ ⟨k, g, s', t', hk, hg, h5, h1, by grind, h3, h4, rfl⟩
          grind
  · rw [ep, eq, em, ← e1, ← e2]
    unfold dt
    grind
/-- the least by a number -/
theorem least_by {α : Type} (f : α → Rat) : ∀ l : List α, l ≠ [] → ∃ a ∈ l, ∀ b ∈ l, f a ≤ f b
  | [], h => absurd rfl h
  | [a], _ => ⟨a, by simp, fun b hb => by simp at hb; rw [hb]; exact Rat.le_refl⟩
  | a :: b :: r, _ => by
    obtain ⟨c, hc, h⟩ := least_by f (b :: r) (by simp)
    rcases @Rat.le_total (f a) (f c) with z | z
    · refine ⟨a, by simp, fun d hd => ?_⟩
      rcases List.mem_cons.mp hd with e | e
      · rw [e]; exact Rat.le_refl
      · exact Rat.le_trans z (h d e)
    · refine ⟨c, List.mem_cons_of_mem _ hc, fun d hd => ?_⟩
      rcases List.mem_cons.mp hd with e | e
      · rw [e]; exact z
      · exact h d e
/-- both ways of each line -/
def both (L : List Ln) : List Ln := L ++ L.map ng
theorem mem_both {L : List Ln} {h : Ln} : h ∈ both L ↔ HH L h := by
  unfold both HH
  simp only [List.mem_append, List.mem_map]
  constructor
  · rintro (h1 | ⟨a, ha, e⟩)
    · exact .inl h1
    · right; rw [← e, ng_ng]; exact ha
  · rintro (h1 | h1)
    · exact .inl h1
    · exact .inr ⟨_, h1, ng_ng h⟩
theorem sq_pos {a b : Rat} (h : a ≠ 0 ∨ b ≠ 0) : 0 < a * a + b * b := by
  have sq : ∀ c : Rat, 0 ≤ c * c ∧ (c ≠ 0 → 0 < c * c) := fun c => by
    rcases @Rat.le_total 0 c with z | z
    · exact ⟨nn z z, fun n => pp (by grind) (by grind)⟩
    · have h1 := nn (show 0 ≤ -c by grind) (show 0 ≤ -c by grind)
      refine ⟨by grind, fun n => ?_⟩
      have h2 := pp (show 0 < -c by grind) (show 0 < -c by grind)
      grind
  have h1 := sq a
  have h2 := sq b
  rcases h with h | h
  · have := h1.2 h; grind
  · have := h2.2 h; grind
/-- along one line alone -/
theorem strong1 {L : List Ln} (hr : ∀ l ∈ L, 0 < l.r) {p q m : Rat} {h k : Ln} {s : Rat} (hh : HH L h) (hk : HH L k) (hc : cx h k ≠ 0) (hs : 0 < s)
    (ep : p = s * h.p) (eq : q = s * h.q) (em : m = s * h.r) (mn : ∀ w, Sh L p q w → m ≤ w) : ∃ x, isV L x ∧ p * x.1 + q * x.2 = m := by
  have hN : 0 < h.p * h.p + h.q * h.q := by
    refine sq_pos ?_
    by_cases z : h.p = 0
    · right; intro z2; apply hc; unfold cx; rw [z, z2]; grind
    · exact .inl z
  have hN0 : h.p * h.p + h.q * h.q ≠ 0 := by grind
  -- the place on the line where g ends it
  let T : Ln → Rat := fun g => (g.r * (h.p * h.p + h.q * h.q) - h.r * (h.p * g.p + h.q * g.q)) / cx h g
  have hT : ∀ g, cx h g ≠ 0 → T g * cx h g = g.r * (h.p * h.p + h.q * h.q) - h.r * (h.p * g.p + h.q * g.q) := fun g hg => by
    show _ / _ * _ = _
    grind
  have ne : (both L).filter (fun g => decide (0 < cx h g)) ≠ [] := by
    intro z
    have all := List.filter_eq_nil_iff.mp z
    have n1 := all k (mem_both.mpr hk)
    have n2 := all (ng k) (mem_both.mpr hk.ng)
    simp only [decide_eq_true_eq] at n1 n2
    have e : cx h (ng k) = - cx h k := by unfold cx ng; grind
    grind
  obtain ⟨g, hg, best⟩ := least_by T _ ne
  obtain ⟨hg1, hg2⟩ := List.mem_filter.mp hg
  have gH := mem_both.mp hg1
  have g0 : 0 < cx h g := of_decide_eq_true hg2
  have g00 : cx h g ≠ 0 := by grind
  have hrp := hh.pos hr
  obtain ⟨x, e1, e2⟩ := meet h g g00
  -- along the line
  have along : ∀ u : Ln, dt u x * (h.p * h.p + h.q * h.q) = h.r * (h.p * u.p + h.q * u.q) + T g * cx h u := fun u => by
    have t1 := hT g g00
    refine cancel g00 ?_
    have t2 : T g * cx h u * cx h g = (g.r * (h.p * h.p + h.q * h.q) - h.r * (h.p * g.p + h.q * g.q)) * cx h u := by rw [← t1]; grind
    have t3 : (h.r * (h.p * u.p + h.q * u.q) + T g * cx h u) * cx h g = h.r * (h.p * u.p + h.q * u.q) * cx h g + (g.r * (h.p * h.p + h.q * h.q) - h.r * (h.p * g.p + h.q * g.q)) * cx h u := by rw [← t2]; grind
    rw [t3, ← e1, ← e2]
    unfold cx dt
    grind
  refine ⟨x, ⟨fun u hu => ?_, h, g, hh, gH, g00, e1, e2⟩, ?_⟩
  · have urp := hu.pos hr
    rcases @Rat.le_total (cx h u) 0 with z | z
    · by_cases z0 : cx h u = 0
      · -- along h
        have a1 := along u
        obtain ⟨c, hc1⟩ := quot (h.p * u.p + h.q * u.q) hN0
        have up : u.p = c * h.p := cancel hN0 (by unfold cx at z0; grind)
        have uq : u.q = c * h.q := cancel hN0 (by unfold cx at z0; grind)
        have eu : dt u x = c * h.r := by unfold dt at *; rw [up, uq, ← e1]; grind
        rcases @Rat.le_total c 0 with y | y
        · have := nn (show 0 ≤ -c by grind) (show 0 ≤ h.r by grind)
          grind
        · by_cases y0 : c = 0
          · rw [eu, y0]; grind
          · have c0 : 0 < c := by grind
            obtain ⟨d, hd⟩ := quot s y0
            have d0 : 0 < d := pos_of hd c0 hs
            have ck : cx u k ≠ 0 := by
              intro w0
              apply hc
              refine cancel (a := cx h k) (b := 0) y0 ?_
              unfold cx at *
              rw [up, uq] at w0
              grind
            have := mn _ ⟨u, k, d, 0, hu, hk, ck, by grind, by grind, by rw [ep, ← hd, up]; grind, by rw [eq, ← hd, uq]; grind, rfl⟩
            rw [em, ← hd] at this
            rw [eu]
            rcases @Rat.le_total (c * h.r) u.r with y | y
            · exact y
            · have := nn (show 0 ≤ d by grind) (show 0 ≤ c * h.r - u.r by grind)
              have y3 : d * (c * h.r - u.r) = 0 := by grind
              rcases Rat.mul_eq_zero.mp y3 with w1 | w1 <;> grind
      · -- on the other side
        have neg : cx h u < 0 := by grind
        rcases @Rat.le_total (dt u x) u.r with y | y
        · exact y
        · by_cases y0 : dt u x = u.r
          · grind
          · exfalso
            have big : u.r < dt u x := by grind
            obtain ⟨a, ha⟩ := quot (cx u g) g00
            obtain ⟨b, hb⟩ := quot (cx h u) g00
            have grp := gH.pos hr
            have b0 : 0 < -b := pos_of (show -b * cx h g = -cx h u by grind) g0 (by grind)
            have eu : dt u x = a * h.r + b * g.r := by
              refine cancel g00 ?_
              rw [← e1, ← e2]
              unfold cx dt at *
              grind
            have h1 := pp b0 grp
            have a0 : 0 < a := pos_of (show a * h.r = a * h.r from rfl) hrp (by grind)
            have a00 : a ≠ 0 := by grind
            obtain ⟨d, hd⟩ := quot s a00
            have d0 : 0 < d := pos_of hd a0 hs
            have up : u.p = a * h.p + b * g.p := cancel g00 (by unfold cx at ha hb ⊢; grind)
            have uq : u.q = a * h.q + b * g.q := cancel g00 (by unfold cx at ha hb ⊢; grind)
            have cu : cx u g ≠ 0 := by
              intro w0
              rw [w0] at ha
              rcases Rat.mul_eq_zero.mp ha with w1 | w1 <;> grind
            have h2 := pp d0 b0
            have := mn _ ⟨u, g, d, d * -b, hu, gH, cu, by grind, by grind, by rw [ep, ← hd, up]; grind, by rw [eq, ← hd, uq]; grind, rfl⟩
            have h3 := pp d0 (show 0 < a * h.r + b * g.r - u.r by grind)
            have e9 : m = d * a * h.r := by rw [em, ← hd]
            clear hd ep eq em hT best along e1 e2 up uq ha hb
            grind
    · by_cases z0 : cx h u = 0
      · -- once more along h: by the other way
        have a1 := along u
        obtain ⟨c, hc1⟩ := quot (h.p * u.p + h.q * u.q) hN0
        have up : u.p = c * h.p := cancel hN0 (by unfold cx at z0; grind)
        have uq : u.q = c * h.q := cancel hN0 (by unfold cx at z0; grind)
        have eu : dt u x = c * h.r := by unfold dt at *; rw [up, uq, ← e1]; grind
        rcases @Rat.le_total c 0 with y | y
        · have := nn (show 0 ≤ -c by grind) (show 0 ≤ h.r by grind)
          grind
        · by_cases y0 : c = 0
          · rw [eu, y0]; grind
          · have c0 : 0 < c := by grind
            obtain ⟨d, hd⟩ := quot s y0
            have d0 : 0 < d := pos_of hd c0 hs
            have ck : cx u k ≠ 0 := by
              intro w0
              apply hc
              refine cancel (a := cx h k) (b := 0) y0 ?_
              unfold cx at *
              rw [up, uq] at w0
              grind
            have := mn _ ⟨u, k, d, 0, hu, hk, ck, by grind, by grind, by rw [ep, ← hd, up]; grind, by rw [eq, ← hd, uq]; grind, rfl⟩
            rw [em, ← hd] at this
            rw [eu]
            rcases @Rat.le_total (c * h.r) u.r with y | y
            · exact y
            · have := nn (show 0 ≤ d by grind) (show 0 ≤ c * h.r - u.r by grind)
              have y3 : d * (c * h.r - u.r) = 0 := by grind
              rcases Rat.mul_eq_zero.mp y3 with w1 | w1 <;> grind
      · have pos : 0 < cx h u := by grind
        have hu2 : u ∈ (both L).filter (fun g => decide (0 < cx h g)) := List.mem_filter.mpr ⟨mem_both.mpr hu, decide_eq_true pos⟩
        have b1 := best u hu2
        have b2 := nn (show 0 ≤ T u - T g by grind) (show 0 ≤ cx h u by grind)
        have a1 := along u
        have t1 := hT u (by grind)
        have e3 : dt u x * (h.p * h.p + h.q * h.q) ≤ u.r * (h.p * h.p + h.q * h.q) := by
          rw [a1]
          have e4 : (T u - T g) * cx h u = T u * cx h u - T g * cx h u := by grind
          rw [e4, t1] at b2
          grind
        have e5 : 0 ≤ u.r - dt u x := nn_of rfl hN (by grind)
        grind
  · rw [ep, eq, em, ← e1]
    unfold dt
    grind
theorem strong {L : List Ln} (hr : ∀ l ∈ L, 0 < l.r) {p q m : Rat} (hpq : p ≠ 0 ∨ q ≠ 0) (hm : Sh L p q m) (mn : ∀ w, Sh L p q w → m ≤ w) : ∃ x, isV L x ∧ p * x.1 + q * x.2 = m := by
  obtain ⟨h, k, s, t, hh, hk, hc, hs, ht, ep, eq, em⟩ := hm
  by_cases s0 : s = 0
  · by_cases t0 : t = 0
    · exfalso
      rw [s0, t0] at ep eq
      rcases hpq with z | z <;> grind
    · refine strong1 hr hk hh (by unfold cx at *; grind) (show 0 < t by grind) ?_ ?_ ?_ mn
      · rw [ep, s0]; grind
      · rw [eq, s0]; grind
      · rw [em, s0]; grind
  · by_cases t0 : t = 0
    · refine strong1 hr hh hk hc (show 0 < s by grind) ?_ ?_ ?_ mn
      · rw [ep, t0]; grind
      · rw [eq, t0]; grind
      · rw [em, t0]; grind
    · exact strong2 hr hh hk hc (by grind) (by grind) ep eq em mn
end Rg


set_option linter.all false
namespace Rg
/-! the outermost points and which comes next -/
theorem dt_op (h : Ln) (x : Ray) : dt h (op x) = - dt h x := by unfold dt op; grind
theorem dt_ng (h : Ln) (x : Ray) : dt (ng h) x = - dt h x := by unfold dt ng; grind
theorem op_op (x : Ray) : op (op x) = x := by cases x; simp [op]
theorem inP.op {L : List Ln} {x : Ray} (a : inP L x) : inP L (op x) := fun h hh => by
  have := a _ hh.ng
  rw [dt_ng] at this
  rw [dt_op]
  exact this
theorem isV.op {L : List Ln} {x : Ray} (a : isV L x) : isV L (op x) := by
  obtain ⟨a, h, k, hh, hk, hc, e1, e2⟩ := a
  refine ⟨a.op, ng h, ng k, hh.ng, hk.ng, ?_, ?_, ?_⟩
  · unfold cx ng at *; grind
  · rw [dt_ng, dt_op, e1]; unfold ng; grind
  · rw [dt_ng, dt_op, e2]; unfold ng; grind
theorem cr_op1 (a b : Ray) : cr (op a) b = - cr a b := by unfold cr op; grind
theorem cr_op2 (a b : Ray) : cr a (op b) = - cr a b := by unfold cr op; grind
theorem cr_swap (a b : Ray) : cr b a = - cr a b := by unfold cr; grind
theorem cr_self (a : Ray) : cr a a = 0 := by unfold cr; grind
/-- the three of any four rays -/
theorem cr3 (u v w z : Ray) : cr u v * cr w z + cr v w * cr u z + cr w u * cr v z = 0 := by unfold cr; grind
theorem ray_ext {a b : Ray} (h1 : a.1 = b.1) (h2 : a.2 = b.2) : a = b := by cases a; cases b; simp_all
theorem isV.ne {L : List Ln} {x : Ray} (hr : ∀ l ∈ L, 0 < l.r) (a : isV L x) : x.1 ≠ 0 ∨ x.2 ≠ 0 := by
  obtain ⟨_, h, _, hh, _, _, e1, _⟩ := a
  have := hh.pos hr
  by_cases z : x.1 = 0
  · right
    intro z2
    unfold dt at e1
    rw [z, z2] at e1
    grind
  · exact .inl z
/-- a multiple -/
theorem along_of {a b : Ray} (ha : a.1 ≠ 0 ∨ a.2 ≠ 0) (h : cr a b = 0) : ∃ c, b.1 = c * a.1 ∧ b.2 = c * a.2 := by
  unfold cr at h
  rcases ha with z | z
  · obtain ⟨c, e⟩ := quot b.1 z
    exact ⟨c, e.symm, cancel z (by grind)⟩
  · obtain ⟨c, e⟩ := quot b.2 z
    exact ⟨c, cancel z (by grind), e.symm⟩
theorem isV.along {L : List Ln} (hr : ∀ l ∈ L, 0 < l.r) {v w : Ray} (hv : isV L v) (hw : isV L w) (h : cr v w = 0) : w = v ∨ w = Rg.op v := by
  obtain ⟨c, e1, e2⟩ := along_of (hv.ne hr) h
  have f : ∀ g, dt g w = c * dt g v := fun g => by unfold dt; rw [e1, e2]; grind
  obtain ⟨pv, h1, _, hh1, _, _, t1, _⟩ := hv
  obtain ⟨pw, h2, _, hh2, _, _, t2, _⟩ := hw
  have r1 := hh1.pos hr
  have r2 := hh2.pos hr
  -- c is from -1 to 1
  have a1 := pw _ hh1
  have a2 := pw _ hh1.ng
  rw [dt_ng] at a2
  rw [f, t1] at a1 a2
  have n1 : (ng h1).r = h1.r := rfl
  rw [n1] at a2
  have b1 := pv _ hh2
  have b2 := pv _ hh2.ng
  rw [dt_ng] at b2
  have n2 : (ng h2).r = h2.r := rfl
  rw [n2] at b2
  have b3 := f h2
  rw [t2] at b3
  have c1 : 0 ≤ 1 - c := nn_of (show (1 - c) * h1.r = h1.r - c * h1.r by grind) r1 (by grind)
  have c2 : 0 ≤ 1 + c := nn_of (show (1 + c) * h1.r = h1.r + c * h1.r by grind) r1 (by grind)
  have c3 : c = 1 ∨ c = -1 := by
    rcases @Rat.le_total 0 c with z | z
    · left
      have := nn (show 0 ≤ 1 - c by grind) (show 0 ≤ h2.r + dt h2 v by grind)
      have g1 := nn z (show 0 ≤ h2.r - dt h2 v by grind)
      have g2 : 0 ≤ (c - 1) * h2.r := by grind
      have g3 : 0 ≤ c - 1 := nn_of rfl r2 g2
      grind
    · right
      have g1 := nn (show 0 ≤ -c by grind) (show 0 ≤ h2.r + dt h2 v by grind)
      have g2 : 0 ≤ (-c - 1) * h2.r := by grind
      have g3 : 0 ≤ -c - 1 := nn_of rfl r2 g2
      grind
  rcases c3 with rfl | rfl
  · left; exact ray_ext (by grind) (by grind)
  · right; refine ray_ext ?_ ?_
    · rw [e1]; unfold Rg.op; grind
    · rw [e2]; unfold Rg.op; grind
/-- no outermost point lies within those of others: b is no s w + t a with s, t from 0 on, s + t below 1 -/
theorem no_within {L : List Ln} (hr : ∀ l ∈ L, 0 < l.r) {a b w : Ray} (hb : isV L b) (ha : inP L a) (hw : inP L w) {n s t : Rat} (hs : 0 ≤ s) (ht : 0 ≤ t) (hn : s + t < n)
    (e1 : n * b.1 = s * w.1 + t * a.1) (e2 : n * b.2 = s * w.2 + t * a.2) : False := by
  obtain ⟨_, h, _, hh, _, _, tb, _⟩ := hb
  have r := hh.pos hr
  have h1 := nn hs (show 0 ≤ h.r - dt h w by have := hw _ hh; grind)
  have h2 := nn ht (show 0 ≤ h.r - dt h a by have := ha _ hh; grind)
  have h3 := pp (show 0 < n - (s + t) by grind) r
  have e : n * dt h b = s * dt h w + t * dt h a := by
    unfold dt
    grind
  rw [tb] at e
  grind
def isNext (L : List Ln) (a b : Ray) : Prop := isV L b ∧ 0 < cr a b ∧ ∀ c, isV L c → 0 < cr a c → 0 ≤ cr b c
/-- how far c lies beyond the way from a to b: above nought on the middle's side -/
def side (a b x : Ray) : Rat := cr (b.1 - a.1, b.2 - a.2) (x.1 - a.1, x.2 - a.2)
theorem side_eq (a b x : Ray) : side a b x = cr a b + cr b x + cr x a := by unfold side cr; grind
/-- two lines at least that aren't along one another -/
def two (L : List Ln) : Prop := ∃ h k, h ∈ L ∧ k ∈ L ∧ cx h k ≠ 0
theorem most_at {L : List Ln} (hr : ∀ l ∈ L, 0 < l.r) (mn : ∀ p q, (p ≠ 0 ∨ q ≠ 0) → ∃ m, Sh L p q m ∧ ∀ w, Sh L p q w → m ≤ w) {p q : Rat} (hpq : p ≠ 0 ∨ q ≠ 0) :
    ∃ v, isV L v ∧ ∀ x, inP L x → p * x.1 + q * x.2 ≤ p * v.1 + q * v.2 := by
  obtain ⟨m, hm, hmin⟩ := mn p q hpq
  obtain ⟨v, hv, e⟩ := strong hr hpq hm hmin
  exact ⟨v, hv, fun x hx => by rw [e]; exact hm.le hx⟩
theorem next_side {L : List Ln} (hr : ∀ l ∈ L, 0 < l.r) (mn : ∀ p q, (p ≠ 0 ∨ q ≠ 0) → ∃ m, Sh L p q m ∧ ∀ w, Sh L p q w → m ≤ w)
    {a b x : Ray} (ha : isV L a) (hb : isNext L a b) (hx : inP L x) : 0 ≤ side a b x := by
  obtain ⟨hbV, hab, hnext⟩ := hb
  rcases @Rat.le_total 0 (side a b x) with z | z
  · exact z
  · by_cases z0 : side a b x = 0
    · grind
    · exfalso
      rw [side_eq] at z z0
      -- the most of what is the same at a and at b
      have pq : b.2 - a.2 ≠ 0 ∨ a.1 - b.1 ≠ 0 := by
        by_cases y : b.2 - a.2 = 0
        · right
          intro y2
          have : b = a := ray_ext (by grind) (by grind)
          rw [this, cr_self] at hab
          grind
        · exact .inl y
      obtain ⟨w, hw, mx⟩ := most_at hr mn pq
      have big := mx x hx
      have val : ∀ y : Ray, (b.2 - a.2) * y.1 + (a.1 - b.1) * y.2 = cr y b + cr a y := fun y => by unfold cr; grind
      rw [val, val] at big
      have wb : cr a b < cr w b + cr a w := by
        have s1 := cr_swap x b
        have s2 := cr_swap a x
        grind
      -- w of a and b
      have d1 : cr a b * w.1 = cr w b * a.1 + cr a w * b.1 := by unfold cr; grind
      have d2 : cr a b * w.2 = cr w b * a.2 + cr a w * b.2 := by unfold cr; grind
      rcases @Rat.le_total (cr a w) 0 with y | y
      · by_cases y0 : cr a w = 0
        · rcases ha.along hr hw y0 with e | e
          · rw [e, cr_self] at wb; grind
          · rw [e, cr_op1, cr_op2, cr_self] at wb; grind
        · -- a within w and b
          exact no_within hr ha hbV.1 hw.1 (n := cr w b) (s := cr a b) (t := - cr a w) (by grind) (by grind) (by grind) (by grind) (by grind)
      · by_cases y0 : cr a w = 0
        · rcases ha.along hr hw y0 with e | e
          · rw [e, cr_self] at wb; grind
          · rw [e, cr_op1, cr_op2, cr_self] at wb; grind
        · have nx := hnext w hw (by grind)
          have sw := cr_swap b w
          by_cases x0 : cr b w = 0
          · rcases hbV.along hr hw x0 with e | e
            · rw [e, cr_self] at wb; grind
            · rw [e, cr_op2] at y; grind
          · exact no_within hr hbV ha.1 hw.1 (n := cr a w) (s := cr a b) (t := - cr w b) (by grind) (by grind) (by grind) (by grind) (by grind)
/-- of rays on one side of x the nearest to x -/
theorem nearest (x : Ray) : ∀ l : List Ray, l ≠ [] → (∀ v ∈ l, 0 < cr v x) → ∃ a ∈ l, ∀ v ∈ l, cr a v ≤ 0
  | [], h, _ => absurd rfl h
  | [a], _, _ => ⟨a, by simp, fun b hb => by simp at hb; rw [hb, cr_self]; exact Rat.le_refl⟩
  | a :: b :: r, _, H => by
    obtain ⟨c, hc, h⟩ := nearest x (b :: r) (by simp) fun v hv => H v (List.mem_cons_of_mem _ hv)
    rcases @Rat.le_total (cr c a) 0 with z | z
    · refine ⟨c, List.mem_cons_of_mem _ hc, fun d hd => ?_⟩
      rcases List.mem_cons.mp hd with e | e
      · rw [e]; exact z
      · exact h d e
    · refine ⟨a, by simp, fun d hd => ?_⟩
      rcases List.mem_cons.mp hd with e | e
      · rw [e, cr_self]; exact Rat.le_refl
      · have h1 := h d e
        have h2 := H a (by simp)
        have h3 := H d hd
        have h4 := H c (List.mem_cons_of_mem _ hc)
        have i := cr3 a d c x
        have p1 := nn z (show 0 ≤ cr d x by grind)
        have s := cr_swap c d
        have p2 := nn (show 0 ≤ cr d c by grind) (show 0 ≤ cr a x by grind)
        rcases @Rat.le_total (cr a d) 0 with y | y
        · exact y
        · have p3 := nn y (show 0 ≤ cr c x by grind)
          have p4 : cr a d * cr c x = 0 := by grind
          rcases Rat.mul_eq_zero.mp p4 with w | w <;> grind
theorem inP.zero {L : List Ln} (hr : ∀ l ∈ L, 0 < l.r) : inP L (0, 0) := fun h hh => by
  have := hh.pos hr
  unfold dt
  grind
theorem comb {k p q t da db dx r : Rat} (d : k * dx = (-p) * da + q * db) (sw : t = -q) (g1 : 0 ≤ (-p) * (r - da)) (g2 : 0 ≤ q * (r - db)) (g3 : 0 ≤ (k + p + t) * r) : 0 ≤ (r - dx) * k := by
  rw [sw] at g3
  grind
/-- what lies on the middle's side of each way from one to the next is let by. l: all outermost points -/
theorem side_in {L : List Ln} (hr : ∀ l ∈ L, 0 < l.r) {l : List Ray} (hl : ∀ v, v ∈ l ↔ isV L v) (ne : l ≠ []) (nxt : Ray → Ray) (hn : ∀ v ∈ l, isNext L v (nxt v))
    {x : Ray} (hx : ∀ v ∈ l, 0 ≤ side v (nxt v) x) : inP L x := by
  by_cases al : ∃ v ∈ l, cr v x = 0
  · -- along one
    obtain ⟨v, hv, z⟩ := al
    obtain ⟨c, e1, e2⟩ := along_of (((hl v).mp hv).ne hr) z
    have key : ∀ (v : Ray) (c : Rat), v ∈ l → x.1 = c * v.1 → x.2 = c * v.2 → c ≤ 1 := fun v c hv e1 e2 => by
      have s := hx v hv
      have n := (hn v hv).2.1
      rw [side_eq] at s
      have f1 : cr (nxt v) x = - (c * cr v (nxt v)) := by unfold cr; rw [e1, e2]; grind
      have f2 : cr x v = 0 := by unfold cr; rw [e1, e2]; grind
      rw [f1, f2] at s
      have : 0 ≤ 1 - c := nn_of (show (1 - c) * cr v (nxt v) = cr v (nxt v) - c * cr v (nxt v) by grind) n (by grind)
      grind
    have k1 := key v c hv e1 e2
    have k2 := key (op v) (-c) ((hl _).mpr ((hl v).mp hv).op) (by unfold op; grind) (by unfold op; grind)
    intro h hh
    have f : dt h x = c * dt h v := by unfold dt; rw [e1, e2]; grind
    have i1 := ((hl v).mp hv).1 h hh
    have i2 := ((hl v).mp hv).1 _ hh.ng
    have rp := hh.pos hr
    rw [dt_ng] at i2
    have nr : (ng h).r = h.r := rfl
    rw [nr] at i2
    rw [f]
    rcases @Rat.le_total 0 c with y | y
    · have g1 := nn y (show 0 ≤ h.r - dt h v by grind)
      have g2 := nn (show 0 ≤ 1 - c by grind) (show 0 ≤ h.r by grind)
      grind
    · have g1 := nn (show 0 ≤ -c by grind) (show 0 ≤ h.r + dt h v by grind)
      have g2 := nn (show 0 ≤ 1 + c by grind) (show 0 ≤ h.r by grind)
      grind
  · have nal : ∀ v ∈ l, cr v x ≠ 0 := fun v hv z => al ⟨v, hv, z⟩
    have nf : l.filter (fun v => decide (0 < cr v x)) ≠ [] := by
      intro z
      have all := List.filter_eq_nil_iff.mp z
      obtain ⟨v, hv⟩ := List.exists_mem_of_ne_nil l ne
      have hv2 : op v ∈ l := (hl _).mpr ((hl v).mp hv).op
      have n1 := all v hv
      have n2 := all _ hv2
      simp only [decide_eq_true_eq] at n1 n2
      rw [cr_op1] at n2
      have := nal v hv
      grind
    obtain ⟨a, ha, best⟩ := nearest x _ nf fun v hv => of_decide_eq_true (List.mem_filter.mp hv).2
    obtain ⟨ha1, ha2⟩ := List.mem_filter.mp ha
    have ax : 0 < cr a x := of_decide_eq_true ha2
    obtain ⟨bV, ab, _⟩ := hn a ha1
    have bl : nxt a ∈ l := (hl _).mpr bV
    have bx : cr (nxt a) x < 0 := by
      rcases @Rat.le_total (cr (nxt a) x) 0 with y | y
      · have := nal _ bl; grind
      · exfalso
        have := nal _ bl
        have hb : nxt a ∈ l.filter (fun v => decide (0 < cr v x)) := List.mem_filter.mpr ⟨bl, decide_eq_true (by grind)⟩
        have := best _ hb
        grind
    have s := hx a ha1
    rw [side_eq] at s
    have sw := cr_swap a x
    intro h hh
    have rp := hh.pos hr
    have i1 := ((hl a).mp ha1).1 h hh
    have i2 := bV.1 h hh
    have d : cr a (nxt a) * dt h x = (- cr (nxt a) x) * dt h a + cr a x * dt h (nxt a) := by unfold dt cr; grind
    have g1 := nn (show 0 ≤ - cr (nxt a) x by grind) (show 0 ≤ h.r - dt h a by grind)
    have g2 := nn (show 0 ≤ cr a x by grind) (show 0 ≤ h.r - dt h (nxt a) by grind)
    have g3 := nn (show 0 ≤ cr a (nxt a) + cr (nxt a) x + cr x a by grind) (show 0 ≤ h.r by grind)
    have g4 : 0 ≤ (h.r - dt h x) * cr a (nxt a) := comb d sw g1 g2 g3
    have := nn_of rfl ab g4
    grind
end Rg


set_option linter.all false
namespace Rg
/-! once around: the order from a first one on -/
def hf (z v : Ray) : Prop := 0 < cr z v ∨ v = z
def be (z u w : Ray) : Prop := (hf z u ∧ ¬ hf z w) ∨ ((hf z u ↔ hf z w) ∧ 0 < cr u w)
section
variable {L : List Ln} (hr : ∀ l ∈ L, 0 < l.r) {z : Ray} (hz : isV L z)
include hr hz
/-- not in the first half -/
theorem not_hf {v : Ray} (hv : isV L v) (h : ¬ hf z v) : cr z v < 0 ∨ v = op z := by
  unfold hf at h
  by_cases e : cr z v = 0
  · rcases hz.along hr hv e with x | x
    · exact absurd (.inr x) h
    · exact .inr x
  · left
    rcases @Rat.le_total (cr z v) 0 with y | y
    · grind
    · exact absurd (.inl (by grind)) h
theorem op_not_hf : ¬ hf z (op z) := by
  rintro (h | h)
  · rw [cr_op2, cr_self] at h; grind
  · rcases hz.ne hr with n | n
    · have := congrArg Prod.fst h
      unfold op at this
      apply n
      grind
    · have := congrArg Prod.snd h
      unfold op at this
      apply n
      grind
/-- in one half the crosses with the first one are of one sign -/
theorem base_hf {v : Ray} (h : hf z v) : 0 ≤ cr z v := by
  rcases h with h | h
  · grind
  · rw [h, cr_self]; exact Rat.le_refl
theorem base_nhf {v : Ray} (hv : isV L v) (h : ¬ hf z v) : cr z v ≤ 0 := by
  rcases not_hf hr hz hv h with h | h
  · grind
  · rw [h, cr_op2, cr_self]; grind
theorem hf_pos {u v : Ray} (h : hf z v) (hu : hf z u) (c : 0 < cr u v) : 0 < cr z v := by
  rcases h with h | h
  · exact h
  · exfalso
    have := base_hf hr hz hu
    rw [h, cr_swap] at c
    grind
theorem nhf_neg {u v : Ray} (hv : isV L v) (hu' : isV L u) (h : ¬ hf z v) (hu : ¬ hf z u) (c : 0 < cr u v) : cr z v < 0 := by
  rcases not_hf hr hz hv h with h | h
  · exact h
  · exfalso
    have := base_nhf hr hz hu' hu
    rw [h, cr_op2, cr_swap] at c
    grind
theorem be_irrefl {u : Ray} : ¬ be z u u := by
  rintro (h | h)
  · exact h.2 h.1
  · rw [cr_self] at h; grind
theorem be_tri {u w : Ray} (hu : isV L u) (hw : isV L w) : u = w ∨ be z u w ∨ be z w u := by
  by_cases h1 : hf z u
  · by_cases h2 : hf z w
    · by_cases e : cr u w = 0
      · rcases hu.along hr hw e with x | x
        · exact .inl x.symm
        · exfalso
          have b1 := base_hf hr hz h1
          have b2 := base_hf hr hz h2
          rw [x, cr_op2] at b2
          have b0 : cr z u = 0 := by grind
          rcases h1 with h1 | h1
          · grind
          · rw [h1] at x
            rw [x] at h2
            exact op_not_hf hr hz h2
      · rcases @Rat.le_total (cr u w) 0 with y | y
        · right; right; right
          refine ⟨by simp [h1, h2], ?_⟩
          have := cr_swap u w
          grind
        · right; left; right
          exact ⟨by simp [h1, h2], by grind⟩
    · right; left; left; exact ⟨h1, h2⟩
  · by_cases h2 : hf z w
    · right; right; left; exact ⟨h2, h1⟩
    · by_cases e : cr u w = 0
      · rcases hu.along hr hw e with x | x
        · exact .inl x.symm
        · exfalso
          have b1 := not_hf hr hz hu h1
          have b2 := not_hf hr hz hw h2
          rcases b1 with b1 | b1
          · rcases b2 with b2 | b2
            · rw [x, cr_op2] at b2; grind
            · rw [b2] at x
              have : u = z := by
                have := congrArg op x
                rw [op_op, op_op] at this
                exact this.symm
              exact h1 (.inr this)
          · rw [b1, op_op] at x
            exact h2 (.inr x)
      · rcases @Rat.le_total (cr u w) 0 with y | y
        · right; right; right
          refine ⟨by simp [h1, h2], ?_⟩
          have := cr_swap u w
          grind
        · right; left; right
          exact ⟨by simp [h1, h2], by grind⟩
theorem sgn3 {a b c d e f : Rat} (i : a * b + c * d + e * f = 0) (h1 : 0 < a) (h2 : b < 0) (h3 : 0 < c) (h4 : d ≤ 0) (h5 : f < 0) : e < 0 := by
  have p1 := pp h1 (show 0 < -b by grind)
  have p2 := nn (show 0 ≤ c by grind) (show 0 ≤ -d by grind)
  rcases @Rat.le_total 0 e with y | y
  · have p3 := nn y (show 0 ≤ -f by grind)
    grind
  · by_cases e0 : e = 0
    · rw [e0] at i; grind
    · grind
theorem be_trans {u v w : Ray} (hu : isV L u) (hv : isV L v) (hw : isV L w) (a : be z u v) (b : be z v w) : be z u w := by
  rcases a with ⟨a1, a2⟩ | ⟨a1, a2⟩
  · rcases b with ⟨b1, _⟩ | ⟨b1, _⟩
    · exact absurd b1 a2
    · left; exact ⟨a1, fun h => a2 (b1.mpr h)⟩
  · rcases b with ⟨b1, b2⟩ | ⟨b1, b2⟩
    · left; exact ⟨a1.mpr b1, b2⟩
    · right
      refine ⟨a1.trans b1, ?_⟩
      have i := cr3 u v w z
      have sw := cr_swap u w
      have s1 := cr_swap z w
      have s2 := cr_swap z u
      have s3 := cr_swap z v
      by_cases h : hf z u
      · have hv' := a1.mp h
        have hw' := b1.mp hv'
        have n1 := hf_pos hr hz hv' h a2
        have n2 := hf_pos hr hz hw' hv' b2
        have n3 := base_hf hr hz h
        have := sgn3 hr hz i a2 (by grind) b2 (by grind) (by grind)
        grind
      · have hv' : ¬ hf z v := fun x => h (a1.mpr x)
        have hw' : ¬ hf z w := fun x => hv' (b1.mpr x)
        have n1 := nhf_neg hr hz hv hu hv' h a2
        have n2 := nhf_neg hr hz hw hv hw' hv' b2
        have n3 := base_nhf hr hz hu h
        have := sgn3 hr hz (show cr u v * (- cr w z) + cr v w * (- cr u z) + cr w u * (- cr v z) = 0 by grind) a2 (by grind) b2 (by grind) (by grind)
        grind
/-- the next one comes next in the order, or is the first one where none comes behind -/
theorem next_first {a b : Ray} (ha : isV L a) (hb : isNext L a b) (h1 : ¬ hf z a) (h2 : hf z b) : b = z := by
  obtain ⟨hbV, hab, hn⟩ := hb
  have sw := cr_swap z a
  rcases not_hf hr hz ha h1 with h | h
  · have nz := hn z hz (by grind)
    have s2 := cr_swap z b
    rcases h2 with h2 | h2
    · grind
    · exact h2
  · rw [h, cr_op1] at hab
    rcases h2 with h2 | h2
    · grind
    · exact h2
theorem next_gap {a b w : Ray} (ha : isV L a) (hb : isNext L a b) (hw : isV L w) (h : be z a w) : w = b ∨ be z b w := by
  obtain ⟨hbV, hab, hn⟩ := hb
  have sbw := cr_swap b w
  have saz := cr_swap z a
  have sbz := cr_swap z b
  have swz := cr_swap z w
  have saw := cr_swap a w
  have sab := cr_swap a b
  by_cases c : 0 < cr a w
  · have nb := hn w hw c
    by_cases e : cr b w = 0
    · rcases hbV.along hr hw e with x | x
      · exact .inl x
      · rw [x, cr_op2] at c; grind
    · have pos : 0 < cr b w := by grind
      by_cases h1 : hf z b
      · by_cases h2 : hf z w
        · right; right; exact ⟨by simp [h1, h2], pos⟩
        · right; left; exact ⟨h1, h2⟩
      · by_cases h2 : hf z w
        · exfalso
          have h3 : hf z a := by
            rcases h with h | h
            · exact h.1
            · exact h.1.mpr h2
          have p1 := hf_pos hr hz h2 h3 c
          have p2 := base_hf hr hz h3
          rcases not_hf hr hz hbV h1 with y | y
          · have i := cr3 a w b z
            have q1 := pp c (show 0 < cr b z by grind)
            have q2 := nn (show 0 ≤ - cr w b by grind) (show 0 ≤ - cr a z by grind)
            have q3 := pp hab p1
            have q4 : cr b a * cr w z = cr a b * cr z w := by rw [sab, swz]; grind
            grind
          · rw [y, cr_op1] at pos
            grind
        · right; right; exact ⟨by simp [h1, h2], pos⟩
  · rcases h with ⟨h1, h2⟩ | ⟨_, h2⟩
    · by_cases hb' : hf z b
      · right; left; exact ⟨hb', h2⟩
      · have az : 0 < cr z a := by
          rcases h1 with y | y
          · exact y
          · exfalso
            rw [y] at hab
            exact hb' (.inl hab)
        rcases not_hf hr hz hbV hb' with y | y
        · rcases not_hf hr hz hw h2 with x | x
          · have i := cr3 a b w z
            have q1 := pp hab (show 0 < cr w z by grind)
            have q3 := nn (show 0 ≤ cr w a by grind) (show 0 ≤ cr b z by grind)
            right; right
            refine ⟨by simp [hb', h2], ?_⟩
            have q4 : 0 < cr b w * cr z a := by rw [saz] at i; grind
            exact pos_of rfl az q4
          · exfalso
            rw [x, cr_op2] at c
            grind
        · rcases not_hf hr hz hw h2 with x | x
          · right; right
            refine ⟨by simp [hb', h2], ?_⟩
            rw [y, cr_op1]
            grind
          · left; rw [x, y]
    · exact absurd h2 c
theorem next_wrap {a w : Ray} (ha : isV L a) (hb : isNext L a z) (hw : isV L w) (h : be z a w) : False := by
  obtain ⟨_, hab, hn⟩ := hb
  have saz := cr_swap z a
  have n1 : ¬ hf z a := by
    rintro (x | x)
    · grind
    · rw [x, cr_self] at hab; grind
  rcases h with h | ⟨h1, h2⟩
  · exact n1 h.1
  · have n2 : ¬ hf z w := fun x => n1 (h1.mpr x)
    have := hn w hw h2
    rcases not_hf hr hz hw n2 with x | x
    · grind
    · rw [x, cr_op2] at h2; grind
theorem next_after {a b w : Ray} (ha : isV L a) (hb : isNext L a b) (hw : isV L w) (h : be z a w) : be z a b := by
  by_cases h1 : hf z a
  · by_cases h2 : hf z b
    · right; exact ⟨by simp [h1, h2], hb.2.1⟩
    · left; exact ⟨h1, h2⟩
  · by_cases h2 : hf z b
    · exfalso
      have e := next_first hr hz ha hb h1 h2
      rw [e] at hb
      exact next_wrap hr hz ha hb hw h
    · right; exact ⟨by simp [h1, h2], hb.2.1⟩
theorem next_last {a b : Ray} (ha : isV L a) (hb : isNext L a b) (h : ∀ w, isV L w → ¬ be z a w) : b = z := by
  by_cases h1 : hf z a
  · by_cases h2 : hf z b
    · exact absurd (.inr ⟨by simp [h1, h2], hb.2.1⟩) (h b hb.1)
    · exact absurd (.inl ⟨h1, h2⟩) (h b hb.1)
  · by_cases h2 : hf z b
    · exact next_first hr hz ha hb h1 h2
    · exact absurd (.inr ⟨by simp [h1, h2], hb.2.1⟩) (h b hb.1)
theorem first_be {w : Ray} (hw : isV L w) : w = z ∨ be z z w := by
  rcases be_tri hr hz hz hw with h | h | h
  · exact .inl h.symm
  · exact .inr h
  · exfalso
    rcases h with h | ⟨h1, h2⟩
    · exact h.2 (.inr rfl)
    · have := base_hf hr hz (h1.mpr (.inr rfl))
      have s := cr_swap z w
      grind
end
end Rg


set_option linter.all false
namespace Rg
/-! what the defs reckon, over Rat -/
def ab (x : Rat) : Rat := if x < 0 then -x else x
def lb (l : Ln) (x : Ray) : Bool := !decide (l.r < ab (l.p * x.1 + l.q * x.2))
def lts (L : List Ln) (x : Ray) : Bool := L.all fun l => lb l x
def pq (l : Ln) : Ray := (l.p, l.q)
def byTwo (l m : Ln) (w z : Rat) : Ray := ((w * m.q - z * l.q) / cr (pq l) (pq m), (z * l.p - w * m.p) / cr (pq l) (pq m))
/-- one pair of lines -/
def metOne (L : List Ln) (one : Ln) (found : List Ray) (other : Ln) : List Ray :=
  if cr (pq one) (pq other) ≠ 0 then found ++ [byTwo one other one.r other.r, byTwo one other one.r (-other.r)].filter fun x => !decide (x ∈ found) && lts L x else found
def metUp (L : List Ln) : Nat → List Ray
  | 0 => []
  | k + 1 => match L[k]? with
    | some one => (L.take k).foldl (metOne L one) (metUp L k)
    | none => metUp L k
def metBoth (F : List Ray) : List Ray := F ++ (F.filter fun x => !decide (op x ∈ F)).map op
def met (L : List Ln) : List Ray := metBoth (metUp L L.length)
def ltR (a b : Ray) : Bool := if a.1 ≠ b.1 then decide (a.1 - b.1 < 0) else if a.2 ≠ b.2 then decide (a.2 - b.2 < 0) else false
def least (V : List Ray) : Ray := match V with
  | [] => (0, 0)
  | v :: _ => V.foldl (fun f x => if ltR x f then x else f) v
def next (V : List Ray) (a : Ray) : Ray := match V.filter fun o => decide (0 < cr a o) with
  | [] => (0, 0)
  | v :: r => (v :: r).foldl (fun f o => if 0 < cr o f then o else f) v
/-- n more, each the next of the one ahead -/
def goOn (V : List Ray) : Nat → List Ray → List Ray
  | 0, F => F
  | n + 1, F => goOn V n (F ++ [next V (F.getLastD (0, 0))])
def corn (L : List Ln) : Option (List Ray) := if met L = [] then none else some (goOn (met L) ((met L).length - 1) [least (met L)])

abbrev Share := Nat × Rat
def shTwo (L : List Ln) (i j : Nat) (l m : Ln) (p q : Rat) : List Share :=
  [(i, cr (p, q) (pq m) / cr (pq l) (pq m)), (j, cr (pq l) (p, q) / cr (pq l) (pq m))].filter fun s => decide (s.2 ≠ 0)
def shOne (i : Nat) (l : Ln) (p q : Rat) : List Share := if l.p ≠ 0 then [(i, p / l.p)] else [(i, q / l.q)]
def shIn (L : List Ln) (p q : Rat) (j : Nat) (m : Ln) : Nat → List (List Share) → List (List Share)
  | 0, F => F
  | i + 1, F => match L[i]? with
    | some l => if cr (pq l) (pq m) ≠ 0 then shIn L p q j m i F ++ [shTwo L i j l m p q] else shIn L p q j m i F
    | none => shIn L p q j m i F
def shUp (L : List Ln) (p q : Rat) : Nat → List (List Share)
  | 0 => []
  | j + 1 => match L[j]? with
    | some m => shIn L p q j m j (if cr (pq m) (p, q) = 0 then shUp L p q j ++ [shOne j m p q] else shUp L p q j)
    | none => shUp L p q j
def allSh (L : List Ln) (p q : Rat) : List (List Share) := shUp L p q L.length
def rOf (L : List Ln) (i : Nat) : Rat := match L[i]? with
  | some l => l.r
  | none => 0
def worth (L : List Ln) (s : List Share) : Rat := s.foldl (fun w a => w + ab a.2 * rOf L a.1) 0
def leastSh (L : List Ln) (S : List (List Share)) : List Share := match S with
  | [] => []
  | s :: r => (s :: r).foldl (fun f t => if worth L t < worth L f then t else f) s
def rayOn (l : Ln) (w : Rat) : Ray := if l.p ≠ 0 then (w / l.p, 0) else (0, w / l.q)
def freeRay (L : List Ln) (p q : Rat) : Ray := match L with
  | [] => (p, q)
  | l :: _ => if 0 < p * (0 - l.q) + q * l.p then (0 - l.q, l.p) else (l.q, 0 - l.p)
end Rg


set_option linter.all false
namespace Rg
/-! sizes: common denominators -/
theorem p2 {m n : Nat} (h : m ≤ n) : 2 ^ m ≤ 2 ^ n := Nat.pow_le_pow_right (by decide) h
/-- x is a whole number over D -/
def Hn (n : Nat) (D : Int) (x : Rat) : Prop := ∃ A : Int, A.natAbs < 2 ^ n ∧ x * (D : Rat) = (A : Rat)
theorem Hn.mono {m n : Nat} {D : Int} {x : Rat} (h : Hn m D x) (l : m ≤ n) : Hn n D x := by
  obtain ⟨A, a, e⟩ := h
  exact ⟨A, Nat.lt_of_lt_of_le a (p2 l), e⟩
theorem lt_mul2 {a b m n : Nat} (h : a < 2 ^ m) (k : b < 2 ^ n) : a * b < 2 ^ (m + n) := by
  rw [Nat.pow_add]
  exact Nat.mul_lt_mul'' h k
theorem Hn.neg {n : Nat} {D : Int} {x : Rat} (h : Hn n D x) : Hn n D (-x) := by
  obtain ⟨A, a, e⟩ := h
  exact ⟨-A, by rw [Int.natAbs_neg]; exact a, by rw [Rat.neg_mul, e, Rat.intCast_neg]⟩
theorem Hn.add {m n : Nat} {D : Int} {x y : Rat} (h : Hn m D x) (k : Hn m D y) (l : m + 1 ≤ n) : Hn n D (x + y) := by
  obtain ⟨A, a, e⟩ := h
  obtain ⟨B, b, f⟩ := k
  refine ⟨A + B, ?_, by rw [Rat.add_mul, e, f, Rat.intCast_add]⟩
  have h1 := Int.natAbs_add_le A B
  have h2 := p2 l
  rw [Nat.pow_succ] at h2
  omega
theorem Hn.mul {m n k : Nat} {D E : Int} {x y : Rat} (h : Hn m D x) (g : Hn n E y) (l : m + n ≤ k) : Hn k (D * E) (x * y) := by
  obtain ⟨A, a, e⟩ := h
  obtain ⟨B, b, f⟩ := g
  refine ⟨A * B, ?_, ?_⟩
  · rw [Int.natAbs_mul]
    exact Nat.lt_of_lt_of_le (lt_mul2 a b) (p2 l)
  · rw [Rat.intCast_mul, Rat.intCast_mul, ← e, ← f]
    grind
/-- with a further factor -/
theorem Hn.wide {m n k : Nat} {D E : Int} {x : Rat} (h : Hn m D x) (hE : E.natAbs < 2 ^ n) (l : m + n ≤ k) : Hn k (D * E) x := by
  have g : Hn n E 1 := ⟨E, hE, by rw [Rat.one_mul]⟩
  have := h.mul g l
  rw [Rat.mul_one] at this
  exact this
theorem Hn.comm {m : Nat} {D E : Int} {x : Rat} (h : Hn m (D * E) x) : Hn m (E * D) x := by rw [Int.mul_comm]; exact h
theorem Hn.sz {n : Nat} {D : Int} {x : Rat} (h : Hn n D x) (hD : D ≠ 0) (hz : D.natAbs < 2 ^ n) : ∃ A : Int, A.natAbs < 2 ^ n ∧ x = Rat.divInt A D := by
  obtain ⟨A, a, e⟩ := h
  refine ⟨A, a, ?_⟩
  have hD0 : (D : Rat) ≠ 0 := fun z => hD (by
    have := congrArg Rat.num z
    simpa using this)
  rw [Rat.divInt_eq_div, ← e, Rat.mul_div_cancel hD0]
theorem Hn.of_self {n : Nat} {x : Rat} (h : x.num.natAbs < 2 ^ n) : Hn n (x.den : Int) x := by
  refine ⟨x.num, h, ?_⟩
  have e := Rat.num_divInt_den x
  have hD0 : ((x.den : Int) : Rat) ≠ 0 := fun z => by
    have := congrArg Rat.num z
    have h2 := x.den_pos
    simp at this
    omega
  have e3 : x * ((x.den : Int) : Rat) = (Rat.divInt x.num (x.den : Int)) * ((x.den : Int) : Rat) := by rw [e]
  rw [e3, Rat.divInt_eq_div, Rat.div_mul_cancel hD0]
/-- a line's p and q over one denominator -/
def Cd (n : Nat) (l : Ln) : Prop := ∃ D : Int, 0 < D ∧ D.natAbs < 2 ^ n ∧ Hn n D l.p ∧ Hn n D l.q
theorem Cd.mono {m n : Nat} {l : Ln} (h : Cd m l) (e : m ≤ n) : Cd n l := by
  obtain ⟨D, d0, d1, hp, hq⟩ := h
  exact ⟨D, d0, Nat.lt_of_lt_of_le d1 (p2 e), hp.mono e, hq.mono e⟩
/-- four ratios, over one denominator -/
structure Tb where
  a : Rat
  b : Rat
  c : Rat
  d : Rat
structure TOk (n : Nat) (t : Tb) : Prop where
  den : ∃ D : Int, 0 < D ∧ D.natAbs < 2 ^ n ∧ Hn n D t.a ∧ Hn n D t.b ∧ Hn n D t.c ∧ Hn n D t.d
  det : t.a * t.d - t.b * t.c = 1
def same : Tb := ⟨1, 0, 0, 1⟩
/-- o put behind t -/
def behind (t o : Tb) : Tb := ⟨o.a * t.a + o.b * t.c, o.a * t.b + o.b * t.d, o.c * t.a + o.d * t.c, o.c * t.b + o.d * t.d⟩
theorem same_ok : TOk 2 same := by
  refine ⟨⟨1, by decide, by decide, ?_, ?_, ?_, ?_⟩, by unfold same; grind⟩
  · exact ⟨1, by decide, by show (1 : Rat) * _ = _; rw [Rat.one_mul]⟩
  · exact ⟨0, by decide, by show (0 : Rat) * _ = _; rw [Rat.zero_mul]; rfl⟩
  · exact ⟨0, by decide, by show (0 : Rat) * _ = _; rw [Rat.zero_mul]; rfl⟩
  · exact ⟨1, by decide, by show (1 : Rat) * _ = _; rw [Rat.one_mul]⟩
theorem behind_ok {m n k : Nat} {t o : Tb} (h : TOk m t) (g : TOk n o) (l : m + n + 1 ≤ k) : TOk k (behind t o) := by
  obtain ⟨⟨D, d0, d1, ha, hb, hc, hd⟩, e1⟩ := h
  obtain ⟨⟨E, f0, f1, ga, gb, gc, gd⟩, e2⟩ := g
  have le : n + m ≤ n + m := Nat.le_refl _
  refine ⟨⟨E * D, Int.mul_pos f0 d0, ?_, ?_, ?_, ?_, ?_⟩, ?_⟩
  · rw [Int.natAbs_mul]
    exact Nat.lt_of_lt_of_le (lt_mul2 f1 d1) (p2 (by omega))
  · exact (ga.mul ha le).add (gb.mul hc le) (by omega)
  · exact (ga.mul hb le).add (gb.mul hd le) (by omega)
  · exact (gc.mul ha le).add (gd.mul hc le) (by omega)
  · exact (gc.mul hb le).add (gd.mul hd le) (by omega)
  · unfold behind
    grind
theorem den_cast (x : Rat) : (0 : Int) < (x.den : Int) := by have := x.den_pos; omega
theorem gap_ok {n : Nat} {g : Rat} (h : g.num.natAbs < 2 ^ n) (k : g.den < 2 ^ n) : TOk (n + 1) ⟨1, g, 0, 1⟩ := by
  have one : Hn (n + 1) (g.den : Int) 1 := ⟨(g.den : Int), Nat.lt_of_lt_of_le (by omega) (p2 (Nat.le_succ n)), by rw [Rat.one_mul]⟩
  have zero : Hn (n + 1) (g.den : Int) 0 := ⟨0, Nat.two_pow_pos _, by rw [Rat.zero_mul]; rfl⟩
  exact ⟨⟨(g.den : Int), den_cast g, Nat.lt_of_lt_of_le (by omega) (p2 (Nat.le_succ n)), one, (Hn.of_self h).mono (Nat.le_succ n), zero, one⟩, by grind⟩
theorem glass_ok {n : Nat} {g : Rat} (h : g.num.natAbs < 2 ^ n) (k : g.den < 2 ^ n) : TOk (n + 1) ⟨1, 0, 0 - g, 1⟩ := by
  have one : Hn (n + 1) (g.den : Int) 1 := ⟨(g.den : Int), Nat.lt_of_lt_of_le (by omega) (p2 (Nat.le_succ n)), by rw [Rat.one_mul]⟩
  have zero : Hn (n + 1) (g.den : Int) 0 := ⟨0, Nat.two_pow_pos _, by rw [Rat.zero_mul]; rfl⟩
  have e : (0 : Rat) - g = -g := by grind
  exact ⟨⟨(g.den : Int), den_cast g, Nat.lt_of_lt_of_le (by omega) (p2 (Nat.le_succ n)), one, zero, by rw [e]; exact ((Hn.of_self h).neg).mono (Nat.le_succ n), one⟩, by grind⟩
/-- a corner of two lines is small -/
theorem byTwo_sz {n k s : Nat} {l m : Ln} (hl : Cd n l) (hm : Cd n m) {w z : Rat} (hw : w.num.natAbs < 2 ^ s ∧ w.den < 2 ^ s) (hz : z.num.natAbs < 2 ^ s ∧ z.den < 2 ^ s) (hc : cr (pq l) (pq m) ≠ 0) (hk : 2 * s + 2 * n + 1 ≤ k) :
    (∃ A B : Int, A.natAbs < 2 ^ k ∧ B.natAbs < 2 ^ k ∧ B ≠ 0 ∧ (byTwo l m w z).1 = Rat.divInt A B) ∧ (∃ A B : Int, A.natAbs < 2 ^ k ∧ B.natAbs < 2 ^ k ∧ B ≠ 0 ∧ (byTwo l m w z).2 = Rat.divInt A B) := by
  obtain ⟨D, d0, d1, hp, hq⟩ := hl
  obtain ⟨E, e0, e1, gp, gq⟩ := hm
  have sw : s ≤ s := Nat.le_refl s
  have W : Hn s (w.den : Int) w := Hn.of_self hw.1
  have Z : Hn s (z.den : Int) z := Hn.of_self hz.1
  have wd : ((w.den : Int)).natAbs < 2 ^ s := hw.2
  have zd : ((z.den : Int)).natAbs < 2 ^ s := hz.2
  have w0 := den_cast w
  have z0 := den_cast z
  -- the cross over D E
  have U : Hn (2 * n + 1) (D * E) (cr (pq l) (pq m)) := by
    have h1 := hp.mul gq (Nat.le_refl (n + n))
    have h2 := (hq.mul gp (Nat.le_refl (n + n))).neg
    have h3 := h1.add h2 (n := 2 * n + 1) (by omega)
    have e : cr (pq l) (pq m) = l.p * m.q + -(l.q * m.p) := by unfold cr pq; grind
    rw [e]; exact h3
  -- a top over w.den z.den D E
  have top : ∀ {x y : Rat}, Hn n E x → Hn n D y → Hn (2 * s + 2 * n + 1) (((w.den : Int) * z.den) * (D * E)) (w * x - z * y) := fun {x y} hx hy => by
    have a1 : Hn (s + s) ((w.den : Int) * z.den) w := W.wide zd (Nat.le_refl _)
    have a2 : Hn (s + s) ((w.den : Int) * z.den) z := (Z.wide wd (Nat.le_refl _)).comm
    have b1 : Hn (n + n) (D * E) x := (hx.wide d1 (Nat.le_refl _)).comm
    have b2 : Hn (n + n) (D * E) y := hy.wide e1 (Nat.le_refl _)
    have c1 := a1.mul b1 (Nat.le_refl _)
    have c2 := (a2.mul b2 (Nat.le_refl _)).neg
    have c3 := c1.add c2 (n := 2 * s + 2 * n + 1) (by omega)
    have e : w * x - z * y = w * x + -(z * y) := by grind
    rw [e]; exact c3
  have fin : ∀ {x y : Rat}, Hn n E x → Hn n D y → ∃ A B : Int, A.natAbs < 2 ^ k ∧ B.natAbs < 2 ^ k ∧ B ≠ 0 ∧ (w * x - z * y) / cr (pq l) (pq m) = Rat.divInt A B := fun {x y} hx hy => by
    obtain ⟨A, a1, a2⟩ := top hx hy
    obtain ⟨B, b1, b2⟩ := U
    have De : (D * E) ≠ 0 := Int.mul_ne_zero (by omega) (by omega)
    have We : ((w.den : Int) * z.den) ≠ 0 := Int.mul_ne_zero (by omega) (by omega)
    have c0 : ∀ {i : Int}, i ≠ 0 → (i : Rat) ≠ 0 := fun {i} hi z => hi (by
      have := congrArg Rat.num z
      simpa using this)
    have B0 : B ≠ 0 := by
      intro e
      rw [e] at b2
      have : cr (pq l) (pq m) * ((D * E : Int) : Rat) = 0 := b2
      rcases Rat.mul_eq_zero.mp this with y | y
      · exact hc y
      · exact c0 De y
    refine ⟨A, ((w.den : Int) * z.den) * B, Nat.lt_of_lt_of_le a1 (p2 hk), ?_, Int.mul_ne_zero We B0, ?_⟩
    · rw [Int.natAbs_mul]
      have h1 : ((w.den : Int) * z.den).natAbs < 2 ^ (s + s) := by rw [Int.natAbs_mul]; exact lt_mul2 wd zd
      exact Nat.lt_of_lt_of_le (lt_mul2 h1 b1) (p2 (by omega))
    · rw [Rat.divInt_eq_div, ← a2, Rat.intCast_mul ((w.den : Int) * z.den) B, ← b2, Rat.intCast_mul ((w.den : Int) * z.den)]
      have r1 := c0 De
      have r2 := c0 We
      generalize ((D * E : Int) : Rat) = f at *
      generalize (((w.den : Int) * z.den : Int) : Rat) = g at *
      generalize cr (pq l) (pq m) = u at *
      grind
  exact ⟨fin gq hq, by
    have h := fin (x := -m.p) (y := -l.p) gp.neg hp.neg
    have e : (byTwo l m w z).2 = (w * -m.p - z * -l.p) / cr (pq l) (pq m) := by
      show (z * l.p - w * m.p) / _ = _
      congr 1
      grind
    rw [e]
    exact h⟩
end Rg


set_option linter.all false
namespace Rg
/-! the corners found are the outermost points -/
def OkL (L : List Ln) : Prop := ∀ l ∈ L, 0 < l.r ∧ (l.p ≠ 0 ∨ l.q ≠ 0)
theorem OkL.r {L : List Ln} (h : OkL L) : ∀ l ∈ L, 0 < l.r := fun l hl => (h l hl).1
theorem cr_pq (l m : Ln) : cr (pq l) (pq m) = cx l m := rfl
theorem ab_le {x r : Rat} : ab x ≤ r ↔ x ≤ r ∧ -x ≤ r := by
  unfold ab
  split
  · constructor
    · intro h; exact ⟨by grind, h⟩
    · intro h; exact h.2
  · constructor
    · intro h; exact ⟨h, by grind⟩
    · intro h; exact h.1
theorem ab_nn (x : Rat) : 0 ≤ ab x := by
  unfold ab
  split <;> grind
theorem lb_iff (l : Ln) (x : Ray) : lb l x = true ↔ dt l x ≤ l.r ∧ - dt l x ≤ l.r := by
  unfold lb
  rw [Bool.not_eq_true', decide_eq_false_iff_not, Rat.not_lt, ab_le]
  rfl
theorem lts_iff {L : List Ln} {x : Ray} : lts L x = true ↔ inP L x := by
  unfold lts
  rw [List.all_eq_true]
  constructor
  · intro h g hg
    rcases hg with hg | hg
    · exact ((lb_iff g x).mp (h g hg)).1
    · have := ((lb_iff _ x).mp (h _ hg)).2
      rw [dt_ng] at this
      have e : (ng g).r = g.r := rfl
      rw [e] at this
      grind
  · intro h l hl
    rw [lb_iff]
    refine ⟨h l (.inl hl), ?_⟩
    have := h (ng l) (.inr (by rw [ng_ng]; exact hl))
    rw [dt_ng] at this
    exact this
theorem byTwo_dt {l m : Ln} (h : cx l m ≠ 0) (w z : Rat) : dt l (byTwo l m w z) = w ∧ dt m (byTwo l m w z) = z := by
  obtain ⟨a, ha⟩ := quot (w * m.q - z * l.q) h
  obtain ⟨b, hb⟩ := quot (z * l.p - w * m.p) h
  have e : byTwo l m w z = (a, b) := by
    unfold byTwo
    rw [cr_pq]
    refine Prod.ext ?_ ?_
    · show (w * m.q - z * l.q) / cx l m = a
      rw [← ha, Rat.mul_div_cancel h]
    · show (z * l.p - w * m.p) / cx l m = b
      rw [← hb, Rat.mul_div_cancel h]
  rw [e]
  constructor
  · refine cancel h ?_
    unfold dt; unfold cx at *
    grind
  · refine cancel h ?_
    unfold dt; unfold cx at *
    grind
theorem dt_eq {l m : Ln} (h : cx l m ≠ 0) {x y : Ray} (h1 : dt l x = dt l y) (h2 : dt m x = dt m y) : x = y := by
  unfold dt at h1 h2
  refine ray_ext ?_ ?_
  · refine cancel h ?_
    unfold cx
    grind
  · refine cancel h ?_
    unfold cx
    grind
theorem byTwo_eq {l m : Ln} (h : cx l m ≠ 0) {x : Ray} {w z : Rat} (h1 : dt l x = w) (h2 : dt m x = z) : x = byTwo l m w z := by
  obtain ⟨e1, e2⟩ := byTwo_dt h w z
  exact dt_eq h (h1.trans e1.symm) (h2.trans e2.symm)
/-- a pair's two rays -/
def ofPair (l m : Ln) (x : Ray) : Prop := cx l m ≠ 0 ∧ (x = byTwo l m l.r m.r ∨ x = byTwo l m l.r (-m.r))
theorem mem_metOne {L : List Ln} {one other : Ln} {F : List Ray} {x : Ray} : x ∈ metOne L one F other ↔ x ∈ F ∨ (ofPair one other x ∧ lts L x = true) := by
  unfold metOne ofPair
  rw [cr_pq]
  by_cases h : cx one other ≠ 0
  · rw [if_pos h, List.mem_append, List.mem_filter]
    simp only [List.mem_cons, List.not_mem_nil, or_false, Bool.and_eq_true, Bool.not_eq_true', decide_eq_false_iff_not]
    constructor
    · rintro (a | ⟨a, _, b⟩)
      · exact .inl a
      · exact .inr ⟨⟨h, a⟩, b⟩
    · rintro (a | ⟨⟨_, a⟩, b⟩)
      · exact .inl a
      · by_cases z : x ∈ F
        · exact .inl z
        · exact .inr ⟨a, z, b⟩
  · rw [if_neg h]
    constructor
    · exact .inl
    · rintro (a | ⟨⟨c, _⟩, _⟩)
      · exact a
      · exact absurd c h
theorem mem_fold {L : List Ln} {one : Ln} {x : Ray} : ∀ (M : List Ln) (F : List Ray), x ∈ M.foldl (metOne L one) F ↔ x ∈ F ∨ ∃ other ∈ M, ofPair one other x ∧ lts L x = true
  | [], F => by simp
  | m :: M, F => by
    rw [List.foldl_cons, mem_fold M, mem_metOne]
    simp only [List.mem_cons]
    constructor
    · rintro ((a | a) | ⟨o, h, b⟩)
      · exact .inl a
      · exact .inr ⟨m, .inl rfl, a⟩
      · exact .inr ⟨o, .inr h, b⟩
    · rintro (a | ⟨o, (h | h), b⟩)
      · exact .inl (.inl a)
      · rw [h] at b; exact .inl (.inr b)
      · exact .inr ⟨o, h, b⟩
theorem mem_metUp {L : List Ln} {x : Ray} : ∀ k, x ∈ metUp L k ↔ ∃ j i l m, j < k ∧ i < j ∧ L[j]? = some l ∧ L[i]? = some m ∧ ofPair l m x ∧ lts L x = true
  | 0 => by
    unfold metUp
    simp
  | k + 1 => by
    unfold metUp
    cases e : L[k]? with
    | none =>
      show x ∈ metUp L k ↔ _
      rw [mem_metUp k]
      constructor
      · rintro ⟨j, i, l, m, a, r⟩
        exact ⟨j, i, l, m, by omega, r⟩
      · rintro ⟨j, i, l, m, a, b, c, r⟩
        have : j ≠ k := fun z => by rw [z, e] at c; cases c
        exact ⟨j, i, l, m, by omega, b, c, r⟩
    | some one =>
      show x ∈ (L.take k).foldl (metOne L one) (metUp L k) ↔ _
      rw [mem_fold, mem_metUp k]
      constructor
      · rintro (⟨j, i, l, m, a, r⟩ | ⟨o, h, b⟩)
        · exact ⟨j, i, l, m, by omega, r⟩
        · obtain ⟨i, hi⟩ := List.getElem?_of_mem h
          have hl := (List.getElem?_eq_some_iff.mp hi).1
          rw [List.length_take] at hl
          rw [List.getElem?_take_of_lt (by omega)] at hi
          exact ⟨k, i, one, o, Nat.lt_succ_self k, by omega, e, hi, b⟩
      · rintro ⟨j, i, l, m, a, b, c, d, r⟩
        by_cases z : j = k
        · subst z
          rw [e] at c
          cases c
          refine .inr ⟨m, ?_, r⟩
          exact List.mem_of_getElem? (i := i) (by rw [List.getElem?_take_of_lt b]; exact d)
        · exact .inl ⟨j, i, l, m, by omega, b, c, d, r⟩
theorem nd_metOne {L : List Ln} (h : OkL L) {one other : Ln} (ho : other ∈ L) {F : List Ray} (hF : F.Nodup) : (metOne L one F other).Nodup := by
  unfold metOne
  rw [cr_pq]
  by_cases c : cx one other ≠ 0
  · rw [if_pos c, List.nodup_append]
    have ne : byTwo one other one.r other.r ≠ byTwo one other one.r (-other.r) := by
      intro e
      have e1 := (byTwo_dt c one.r other.r).2
      have e2 := (byTwo_dt c one.r (-other.r)).2
      rw [e, e2] at e1
      have := (h other ho).1
      grind
    refine ⟨hF, ?_, ?_⟩
    · refine List.Nodup.sublist (List.filter_sublist) ?_
      simp [ne]
    · intro a ha b hb e
      subst e
      have := (List.mem_filter.mp hb).2
      simp only [Bool.and_eq_true, Bool.not_eq_true', decide_eq_false_iff_not] at this
      exact this.1 ha
  · rw [if_neg c]; exact hF
theorem nd_fold {L : List Ln} (h : OkL L) {one : Ln} : ∀ (M : List Ln) (F : List Ray), (∀ m ∈ M, m ∈ L) → F.Nodup → (M.foldl (metOne L one) F).Nodup
  | [], F, _, hF => hF
  | m :: M, F, hM, hF => nd_fold h M _ (fun x hx => hM x (List.mem_cons_of_mem _ hx)) (nd_metOne h (hM m List.mem_cons_self) hF)
theorem nd_metUp {L : List Ln} (h : OkL L) : ∀ k, (metUp L k).Nodup
  | 0 => by unfold metUp; exact List.nodup_nil
  | k + 1 => by
    unfold metUp
    cases e : L[k]? with
    | none => exact nd_metUp h k
    | some one => exact nd_fold h _ _ (fun m hm => List.mem_of_mem_take hm) (nd_metUp h k)
theorem op_inj {a b : Ray} (h : op a = op b) : a = b := by
  have := congrArg op h
  rw [op_op, op_op] at this
  exact this
theorem nd_map {α β : Type} {f : α → β} (hf : ∀ a b, f a = f b → a = b) : ∀ {l : List α}, l.Nodup → (l.map f).Nodup
  | [], _ => List.nodup_nil
  | a :: l, h => by
    rw [List.map_cons, List.nodup_cons]
    rw [List.nodup_cons] at h
    refine ⟨fun z => ?_, nd_map hf h.2⟩
    obtain ⟨b, hb, e⟩ := List.mem_map.mp z
    rw [← hf _ _ e] at h
    exact h.1 hb
theorem nd_met {L : List Ln} (h : OkL L) : (met L).Nodup := by
  unfold met metBoth
  rw [List.nodup_append]
  refine ⟨nd_metUp h _, nd_map (fun a b => op_inj) (List.Nodup.sublist List.filter_sublist (nd_metUp h _)), ?_⟩
  intro a ha b hb e
  subst e
  obtain ⟨c, hc, e⟩ := List.mem_map.mp hb
  have := (List.mem_filter.mp hc).2
  simp only [Bool.not_eq_true', decide_eq_false_iff_not] at this
  rw [e] at this
  exact this ha
theorem mem_metBoth {F : List Ray} {x : Ray} : x ∈ metBoth F ↔ x ∈ F ∨ op x ∈ F := by
  unfold metBoth
  rw [List.mem_append, List.mem_map]
  constructor
  · rintro (a | ⟨y, h, e⟩)
    · exact .inl a
    · right
      rw [← e, op_op]
      exact (List.mem_filter.mp h).1
  · rintro (a | a)
    · exact .inl a
    · by_cases z : x ∈ F
      · exact .inl z
      · refine .inr ⟨op x, List.mem_filter.mpr ⟨a, ?_⟩, op_op x⟩
        simp only [Bool.not_eq_true', decide_eq_false_iff_not]
        rw [op_op]
        exact z
theorem pair_isV {L : List Ln} {l m : Ln} (hl : l ∈ L) (hm : m ∈ L) {x : Ray} (hx : ofPair l m x) (hp : inP L x) : isV L x := by
  obtain ⟨c, hx⟩ := hx
  refine ⟨hp, ?_⟩
  rcases hx with e | e
  · obtain ⟨e1, e2⟩ := byTwo_dt c l.r m.r
    exact ⟨l, m, .inl hl, .inl hm, c, by rw [e]; exact e1, by rw [e]; exact e2⟩
  · obtain ⟨e1, e2⟩ := byTwo_dt c l.r (-m.r)
    refine ⟨l, ng m, .inl hl, (HH.ng (.inl hm)), ?_, by rw [e]; exact e1, ?_⟩
    · unfold cx ng at *; grind
    · rw [e, dt_ng, e2]; unfold ng; grind
theorem mem_met {L : List Ln} {x : Ray} : x ∈ met L ↔ isV L x := by
  unfold met
  rw [mem_metBoth]
  constructor
  · rintro (h | h)
    · obtain ⟨j, i, l, m, _, _, hl, hm, hx, ht⟩ := (mem_metUp _).mp h
      exact pair_isV (List.mem_of_getElem? hl) (List.mem_of_getElem? hm) hx (lts_iff.mp ht)
    · obtain ⟨j, i, l, m, _, _, hl, hm, hx, ht⟩ := (mem_metUp _).mp h
      have := (pair_isV (List.mem_of_getElem? hl) (List.mem_of_getElem? hm) hx (lts_iff.mp ht)).op
      rw [op_op] at this
      exact this
  · rintro ⟨hp, h, k, hh, hk, hc, t1, t2⟩
    -- the lines themselves
    have un : ∀ {g : Ln}, HH L g → dt g x = g.r → ∃ l ∈ L, (l.p = g.p ∧ l.q = g.q ∨ l.p = -g.p ∧ l.q = -g.q) ∧ (dt l x = l.r ∨ dt l x = -l.r) := fun {g} hg t => by
      rcases hg with hg | hg
      · exact ⟨g, hg, .inl ⟨rfl, rfl⟩, .inl t⟩
      · exact ⟨ng g, hg, .inr ⟨rfl, rfl⟩, .inr (by rw [dt_ng, t]; rfl)⟩
    obtain ⟨l, hl, sl, tl⟩ := un hh t1
    obtain ⟨m, hm, sm, tm⟩ := un hk t2
    have c : cx l m ≠ 0 := by
      unfold cx at *
      rcases sl with ⟨a, b⟩ | ⟨a, b⟩ <;> rcases sm with ⟨a2, b2⟩ | ⟨a2, b2⟩ <;> rw [a, b, a2, b2] <;> grind
    obtain ⟨i, hi⟩ := List.getElem?_of_mem hl
    obtain ⟨j, hj⟩ := List.getElem?_of_mem hm
    -- in the order of the list
    have key : ∀ {a b : Nat} {l m : Ln}, b < a → L[a]? = some l → L[b]? = some m → cx l m ≠ 0 → (dt l x = l.r ∨ dt l x = -l.r) → (dt m x = m.r ∨ dt m x = -m.r) → x ∈ metUp L L.length ∨ op x ∈ metUp L L.length := fun {a b l m} hab ha hb c tl tm => by
      have hlen := (List.getElem?_eq_some_iff.mp ha).1
      rcases tl with tl | tl
      · left
        refine (mem_metUp _).mpr ⟨a, b, l, m, hlen, hab, ha, hb, ⟨c, ?_⟩, lts_iff.mpr hp⟩
        rcases tm with tm | tm
        · exact .inl (byTwo_eq c tl tm)
        · exact .inr (byTwo_eq c tl tm)
      · right
        refine (mem_metUp _).mpr ⟨a, b, l, m, hlen, hab, ha, hb, ⟨c, ?_⟩, lts_iff.mpr hp.op⟩
        rcases tm with tm | tm
        · exact .inr (byTwo_eq c (by rw [dt_op, tl]; grind) (by rw [dt_op, tm]))
        · exact .inl (byTwo_eq c (by rw [dt_op, tl]; grind) (by rw [dt_op, tm]; grind))
    rcases Nat.lt_trichotomy j i with z | z | z
    · exact key z hi hj c tl tm
    · exfalso
      subst z
      rw [hi] at hj
      cases hj
      apply c
      unfold cx
      grind
    · exact key z hj hi (by unfold cx at *; grind) tm tl
end Rg


set_option linter.all false
namespace Rg
/-! least shares there are; the outermost points are more than two -/
theorem two_iff {L : List Ln} : two L ↔ ∃ h k, HH L h ∧ HH L k ∧ cx h k ≠ 0 := by
  constructor
  · rintro ⟨h, k, a, b, c⟩
    exact ⟨h, k, .inl a, .inl b, c⟩
  · rintro ⟨h, k, a, b, c⟩
    have un : ∀ {g : Ln}, HH L g → ∃ l ∈ L, (l.p = g.p ∧ l.q = g.q ∨ l.p = -g.p ∧ l.q = -g.q) := fun {g} hg => by
      rcases hg with hg | hg
      · exact ⟨g, hg, .inl ⟨rfl, rfl⟩⟩
      · exact ⟨ng g, hg, .inr ⟨rfl, rfl⟩⟩
    obtain ⟨l, hl, sl⟩ := un a
    obtain ⟨m, hm, sm⟩ := un b
    refine ⟨l, m, hl, hm, ?_⟩
    unfold cx at *
    rcases sl with ⟨a, b⟩ | ⟨a, b⟩ <;> rcases sm with ⟨a2, b2⟩ | ⟨a2, b2⟩ <;> rw [a, b, a2, b2] <;> grind
/-- the shares of two signed lines -/
def sA (p q : Rat) (h k : Ln) : Rat := cr (p, q) (pq k) / cx h k
def sB (p q : Rat) (h k : Ln) : Rat := cr (pq h) (p, q) / cx h k
theorem sAB {p q : Rat} {h k : Ln} (hc : cx h k ≠ 0) : p = sA p q h k * h.p + sB p q h k * k.p ∧ q = sA p q h k * h.q + sB p q h k * k.q := by
  have e1 : sA p q h k * cx h k = cr (p, q) (pq k) := Rat.div_mul_cancel hc
  have e2 : sB p q h k * cx h k = cr (pq h) (p, q) := Rat.div_mul_cancel hc
  generalize sA p q h k = s at *
  generalize sB p q h k = t at *
  unfold cr pq at e1 e2
  unfold cx at *
  constructor
  · refine cancel hc ?_
    grind
  · refine cancel hc ?_
    grind
theorem sAB_uniq {p q s t : Rat} {h k : Ln} (hc : cx h k ≠ 0) (e1 : p = s * h.p + t * k.p) (e2 : q = s * h.q + t * k.q) : s = sA p q h k ∧ t = sB p q h k := by
  obtain ⟨f1, f2⟩ := sAB (p := p) (q := q) hc
  generalize sA p q h k = s' at *
  generalize sB p q h k = t' at *
  unfold cx at hc
  constructor
  · refine cancel hc ?_
    grind
  · refine cancel hc ?_
    grind
def pairs (L : List Ln) : List (Ln × Ln) := (both L).flatMap fun h => (both L).map fun k => (h, k)
theorem mem_pairs {L : List Ln} {h k : Ln} : (h, k) ∈ pairs L ↔ HH L h ∧ HH L k := by
  unfold pairs
  simp only [List.mem_flatMap, List.mem_map, Prod.mk.injEq]
  constructor
  · rintro ⟨a, ha, b, hb, rfl, rfl⟩
    exact ⟨mem_both.mp ha, mem_both.mp hb⟩
  · rintro ⟨a, b⟩
    exact ⟨h, mem_both.mpr a, k, mem_both.mpr b, rfl, rfl⟩
/-- signs that make shares at least nought -/
theorem signed {L : List Ln} {p q : Rat} {h k : Ln} (hh : HH L h) (hk : HH L k) (hc : cx h k ≠ 0) {s t : Rat} (e1 : p = s * h.p + t * k.p) (e2 : q = s * h.q + t * k.q) : Sh L p q (ab s * h.r + ab t * k.r) := by
  unfold ab
  by_cases a : s < 0
  · by_cases b : t < 0
    · rw [if_pos a, if_pos b]
      exact ⟨ng h, ng k, -s, -t, hh.ng, hk.ng, by unfold cx ng at *; grind, by grind, by grind, by unfold ng; grind, by unfold ng; grind, rfl⟩
    · rw [if_pos a, if_neg b]
      exact ⟨ng h, k, -s, t, hh.ng, hk, by unfold cx ng at *; grind, by grind, by grind, by unfold ng; grind, by unfold ng; grind, rfl⟩
  · by_cases b : t < 0
    · rw [if_neg a, if_pos b]
      exact ⟨h, ng k, s, -t, hh, hk.ng, by unfold cx ng at *; grind, by grind, by grind, by unfold ng; grind, by unfold ng; grind, rfl⟩
    · rw [if_neg a, if_neg b]
      exact ⟨h, k, s, t, hh, hk, hc, by grind, by grind, e1, e2, rfl⟩
theorem least_sh {L : List Ln} (h2 : two L) (p q : Rat) : ∃ m, Sh L p q m ∧ ∀ w, Sh L p q w → m ≤ w := by
  let c : Ln × Ln → Bool := fun x => decide (cx x.1 x.2 ≠ 0) && (decide (0 ≤ sA p q x.1 x.2) && decide (0 ≤ sB p q x.1 x.2))
  let f : Ln × Ln → Rat := fun x => sA p q x.1 x.2 * x.1.r + sB p q x.1 x.2 * x.2.r
  have of_in : ∀ x, x ∈ (pairs L).filter c → Sh L p q (f x) := fun x hx => by
    obtain ⟨h1, h2⟩ := List.mem_filter.mp hx
    obtain ⟨h, k⟩ := x
    obtain ⟨hh, hk⟩ := mem_pairs.mp h1
    have h2 : (decide (cx h k ≠ 0) && (decide (0 ≤ sA p q h k) && decide (0 ≤ sB p q h k))) = true := h2
    simp only [Bool.and_eq_true, decide_eq_true_eq] at h2
    obtain ⟨e1, e2⟩ := sAB (p := p) (q := q) h2.1
    exact ⟨h, k, _, _, hh, hk, h2.1, h2.2.1, h2.2.2, e1, e2, rfl⟩
  have to_in : ∀ w, Sh L p q w → ∃ x ∈ (pairs L).filter c, w = f x := fun w hw => by
    obtain ⟨h, k, s, t, hh, hk, hc, hs, ht, e1, e2, rfl⟩ := hw
    obtain ⟨r1, r2⟩ := sAB_uniq hc e1 e2
    refine ⟨(h, k), List.mem_filter.mpr ⟨mem_pairs.mpr ⟨hh, hk⟩, ?_⟩, ?_⟩
    · show (decide (cx h k ≠ 0) && (decide (0 ≤ sA p q h k) && decide (0 ≤ sB p q h k))) = true
      simp only [Bool.and_eq_true, decide_eq_true_eq]
      exact ⟨hc, by rw [← r1]; exact hs, by rw [← r2]; exact ht⟩
    · show _ = sA p q h k * h.r + sB p q h k * k.r
      rw [← r1, ← r2]
  obtain ⟨h, k, hh, hk, hc⟩ := two_iff.mp h2
  obtain ⟨e1, e2⟩ := sAB (p := p) (q := q) hc
  obtain ⟨x0, hx0, _⟩ := to_in _ (signed hh hk hc e1 e2)
  have ne : (pairs L).filter c ≠ [] := fun z => by rw [z] at hx0; cases hx0
  obtain ⟨x, hx, best⟩ := least_by f _ ne
  refine ⟨f x, of_in x hx, fun w hw => ?_⟩
  obtain ⟨y, hy, e⟩ := to_in w hw
  rw [e]
  exact best y hy
section
variable {L : List Ln} (h : OkL L)
include h
theorem two_of_isV {v : Ray} (hv : isV L v) : two L := by
  obtain ⟨_, g, k, hg, hk, hc, _⟩ := hv
  exact two_iff.mpr ⟨g, k, hg, hk, hc⟩
theorem most_isV (h2 : two L) {p q : Rat} (hpq : p ≠ 0 ∨ q ≠ 0) : ∃ v, isV L v ∧ ∀ x, inP L x → p * x.1 + q * x.2 ≤ p * v.1 + q * v.2 :=
  most_at h.r (fun p q _ => least_sh h2 p q) hpq
theorem some_isV (h2 : two L) : ∃ v, isV L v := by
  obtain ⟨v, hv, _⟩ := most_isV h h2 (p := 1) (q := 0) (.inl (by decide))
  exact ⟨v, hv⟩
theorem met_nil : met L = [] ↔ ¬ two L := by
  constructor
  · intro e h2
    obtain ⟨v, hv⟩ := some_isV h h2
    have := mem_met.mpr hv
    rw [e] at this
    cases this
  · intro n
    rw [List.eq_nil_iff_forall_not_mem]
    intro v hv
    exact n (two_of_isV h (mem_met.mp hv))
theorem sh_pos {p q w : Rat} (hpq : p ≠ 0 ∨ q ≠ 0) (hw : Sh L p q w) : 0 < w := by
  obtain ⟨g, k, s, t, hg, hk, hc, hs, ht, e1, e2, rfl⟩ := hw
  have r1 := hg.pos h.r
  have r2 := hk.pos h.r
  by_cases s0 : s = 0
  · by_cases t0 : t = 0
    · exfalso
      rw [s0, t0] at e1 e2
      rcases hpq with z | z <;> grind
    · have := pp (show 0 < t by grind) r2
      have := nn hs (show 0 ≤ g.r by grind)
      grind
  · have := pp (show 0 < s by grind) r1
    have := nn ht (show 0 ≤ k.r by grind)
    grind
/-- to the left of each there is another one -/
theorem left {v : Ray} (hv : isV L v) : ∃ w, isV L w ∧ 0 < cr v w := by
  have h2 := two_of_isV h hv
  obtain ⟨_, g, k, hg, hk, hc, t1, t2⟩ := hv
  have r1 := hg.pos h.r
  have r2 := hk.pos h.r
  have pq : k.r * g.p - g.r * k.p ≠ 0 ∨ k.r * g.q - g.r * k.q ≠ 0 := by
    by_cases z : k.r * g.p - g.r * k.p = 0
    · right
      intro z2
      apply hc
      refine cancel (d := k.r) (by grind) ?_
      unfold cx
      grind
    · exact .inl z
  obtain ⟨m, hm, hmin⟩ := least_sh h2 (k.r * g.p - g.r * k.p) (k.r * g.q - g.r * k.q)
  obtain ⟨w, hw, e⟩ := strong h.r pq hm hmin
  have m0 := sh_pos h pq hm
  have ne : cr v w ≠ 0 := by
    intro z
    have hv : isV L v := ⟨by assumption, g, k, hg, hk, hc, t1, t2⟩
    have t3 : (k.r * g.p - g.r * k.p) * v.1 + (k.r * g.q - g.r * k.q) * v.2 = 0 := by
      unfold dt at t1 t2
      have : k.r * (g.p * v.1 + g.q * v.2) = g.r * (k.p * v.1 + k.q * v.2) := by rw [t1, t2]; grind
      grind
    rcases hv.along h.r hw z with x | x
    · rw [x] at e; grind
    · rw [x] at e; unfold op at e; grind
  rcases @Rat.le_total 0 (cr v w) with y | y
  · exact ⟨w, hw, by grind⟩
  · exact ⟨op w, hw.op, by rw [cr_op2]; grind⟩
omit h in
theorem le_of3 {vb xa bx va xv ba ax av ab : Rat} (i : vb * xa + bx * va + xv * ba = 0) (s2 : xa = -ax) (s3 : va = -av) (s4 : ba = -ab) (p1 : 0 ≤ bx * av) (p2 : 0 ≤ xv * ab) (hx : 0 < ax) : vb ≤ 0 := by
  rw [s2, s3, s4] at i
  have : 0 ≤ -vb := nn_of (show -vb * ax = bx * av + xv * ab by grind) hx (by grind)
  grind
/-- the scan for the next one -/
theorem scan {a : Ray} : ∀ (r : List Ray) (v : Ray), 0 < cr a v → (∀ x ∈ r, 0 < cr a x) → (r.foldl (fun f o => if 0 < cr o f then o else f) v ∈ v :: r) ∧ ∀ c ∈ v :: r, cr c (r.foldl (fun f o => if 0 < cr o f then o else f) v) ≤ 0
  | [], v, _, _ => ⟨by simp, fun c hc => by simp at hc; rw [hc]; show cr v v ≤ 0; rw [cr_self]; exact Rat.le_refl⟩
  | x :: r, v, hv, hr => by
    rw [List.foldl_cons]
    have hx := hr x List.mem_cons_self
    have hr' : ∀ y ∈ r, 0 < cr a y := fun y hy => hr y (List.mem_cons_of_mem _ hy)
    by_cases z : 0 < cr x v
    · rw [if_pos z]
      obtain ⟨i1, i2⟩ := scan r x hx hr'
      generalize r.foldl (fun f o => if 0 < cr o f then o else f) x = b at *
      refine ⟨List.mem_cons_of_mem _ i1, fun c hc => ?_⟩
      rcases List.mem_cons.mp hc with e | hc
      · rw [e]
        -- v behind x behind b
        have xb := i2 x List.mem_cons_self
        have hb : 0 < cr a b := by
          rcases List.mem_cons.mp i1 with e | hm
          · rw [e]; exact hx
          · exact hr' b hm
        have i := cr3 v b x a
        have s1 := cr_swap x b
        have s2 := cr_swap a x
        have s3 := cr_swap a v
        have s4 := cr_swap a b
        have p1 := nn (show 0 ≤ cr b x by grind) (show 0 ≤ cr a v by grind)
        have p2 := nn (show 0 ≤ cr x v by grind) (show 0 ≤ cr a b by grind)
        exact le_of3 i s2 s3 s4 p1 p2 hx
      · exact i2 c hc
    · rw [if_neg z]
      obtain ⟨i1, i2⟩ := scan r v hv hr'
      generalize r.foldl (fun f o => if 0 < cr o f then o else f) v = b at *
      refine ⟨?_, fun c hc => ?_⟩
      · rcases List.mem_cons.mp i1 with e | hm
        · rw [e]; exact List.mem_cons_self
        · exact List.mem_cons_of_mem _ (List.mem_cons_of_mem _ hm)
      · rcases List.mem_cons.mp hc with e | hc
        · rw [e]; exact i2 v List.mem_cons_self
        · rcases List.mem_cons.mp hc with e | hc
          · rw [e]
            have vb := i2 v List.mem_cons_self
            have hb : 0 < cr a b := by
              rcases List.mem_cons.mp i1 with e | hm
              · rw [e]; exact hv
              · exact hr' b hm
            have i := cr3 x b v a
            have s1 := cr_swap v b
            have s2 := cr_swap a x
            have s3 := cr_swap a v
            have s4 := cr_swap a b
            have s5 := cr_swap x v
            have p1 := nn (show 0 ≤ cr b v by grind) (show 0 ≤ cr a x by grind)
            have p2 := nn (show 0 ≤ cr v x by grind) (show 0 ≤ cr a b by grind)
            exact le_of3 i s3 s2 s4 p1 p2 hv
          · exact i2 c (List.mem_cons_of_mem _ hc)
theorem next_is {V : List Ray} (hV : ∀ v, v ∈ V ↔ isV L v) {a : Ray} (ha : isV L a) : isNext L a (next V a) ∧ next V a ∈ V ∧ V.filter (fun o => decide (0 < cr a o)) ≠ [] := by
  obtain ⟨w, hw, aw⟩ := left h ha
  have ne : V.filter (fun o => decide (0 < cr a o)) ≠ [] := fun z => by
    have : w ∈ V.filter (fun o => decide (0 < cr a o)) := List.mem_filter.mpr ⟨(hV w).mpr hw, decide_eq_true aw⟩
    rw [z] at this
    cases this
  refine ⟨?_, ?_, ne⟩ <;> unfold next
  all_goals
    cases e : V.filter (fun o => decide (0 < cr a o)) with
    | nil => exact absurd e ne
    | cons v r =>
      have all : ∀ x ∈ v :: r, x ∈ V ∧ 0 < cr a x := fun x hx => by
        rw [← e] at hx
        obtain ⟨h1, h2⟩ := List.mem_filter.mp hx
        exact ⟨h1, of_decide_eq_true h2⟩
      have hv := (all v List.mem_cons_self).2
      have e2 : (v :: r).foldl (fun f o => if 0 < cr o f then o else f) v = r.foldl (fun f o => if 0 < cr o f then o else f) v := by
        rw [List.foldl_cons, cr_self, if_neg (by decide)]
      obtain ⟨i1, i2⟩ := scan h r v hv fun x hx => (all x (List.mem_cons_of_mem _ hx)).2
      show _
      first
        | (refine ⟨?_, ?_, fun c hc ac => ?_⟩
           · show isV L ((v :: r).foldl (fun f o => if 0 < cr o f then o else f) v)
             rw [e2]; exact (hV _).mp (all _ i1).1
           · show 0 < cr a ((v :: r).foldl (fun f o => if 0 < cr o f then o else f) v)
             rw [e2]; exact (all _ i1).2
           · show 0 ≤ cr ((v :: r).foldl (fun f o => if 0 < cr o f then o else f) v) c
             rw [e2]
             have hc2 : c ∈ v :: r := by rw [← e]; exact List.mem_filter.mpr ⟨(hV c).mpr hc, decide_eq_true ac⟩
             have := i2 c hc2
             have s := cr_swap c (r.foldl (fun f o => if 0 < cr o f then o else f) v)
             grind)
        | (show (v :: r).foldl (fun f o => if 0 < cr o f then o else f) v ∈ V
           rw [e2]; exact (all _ i1).1)
end
end Rg


set_option linter.all false
namespace Rg
/-! once around, and all of them -/
theorem nd_len {α : Type} [DecidableEq α] : ∀ {l m : List α}, l.Nodup → (∀ x ∈ l, x ∈ m) → l.length ≤ m.length
  | [], m, _, _ => Nat.zero_le _
  | a :: l, m, h, s => by
    rw [List.nodup_cons] at h
    have ha := s a List.mem_cons_self
    have : l.length ≤ (m.erase a).length := nd_len h.2 fun x hx => by
      have ne : x ≠ a := fun e => h.1 (e ▸ hx)
      exact (List.mem_erase_of_ne ne).mpr (s x (List.mem_cons_of_mem _ hx))
    rw [List.length_erase_of_mem ha] at this
    have pos := List.length_pos_of_mem ha
    rw [List.length_cons]
    omega
theorem ltR_iff {a b : Ray} : ltR a b = true ↔ a.1 < b.1 ∨ (a.1 = b.1 ∧ a.2 < b.2) := by
  unfold ltR
  by_cases h : a.1 = b.1
  · rw [if_neg (by simp [h])]
    by_cases k : a.2 = b.2
    · rw [if_neg (by simp [k])]
      constructor
      · intro z; cases z
      · rintro (z | ⟨_, z⟩) <;> grind
    · rw [if_pos k, decide_eq_true_eq]
      constructor
      · intro z; exact .inr ⟨h, by grind⟩
      · rintro (z | ⟨_, z⟩) <;> grind
  · rw [if_pos h, decide_eq_true_eq]
    constructor
    · intro z; exact .inl (by grind)
    · rintro (z | ⟨z, _⟩) <;> grind
theorem ltR_trans {a b c : Ray} (h : ltR a b = true) (k : ltR b c = true) : ltR a c = true := by
  rw [ltR_iff] at *
  rcases h with h | ⟨h, h'⟩ <;> rcases k with k | ⟨k, k'⟩
  · left; grind
  · left; grind
  · left; grind
  · right; exact ⟨by grind, by grind⟩
theorem ltR_tri {a b : Ray} (h : ltR a b = false) (k : ltR b a = false) : a = b := by
  have h' : ¬ ltR a b = true := by rw [h]; decide
  have k' : ¬ ltR b a = true := by rw [k]; decide
  rw [ltR_iff] at h' k'
  refine ray_ext ?_ ?_
  · grind
  · grind
theorem ltR_irrefl {a : Ray} : ltR a a = false := by
  cases h : ltR a a with
  | false => rfl
  | true => rw [ltR_iff] at h; grind
theorem least_scan : ∀ (r : List Ray) (v : Ray), (r.foldl (fun f x => if ltR x f then x else f) v ∈ v :: r) ∧ ∀ c ∈ v :: r, ltR c (r.foldl (fun f x => if ltR x f then x else f) v) = false
  | [], v => ⟨by simp, fun c hc => by simp at hc; rw [hc]; exact ltR_irrefl⟩
  | x :: r, v => by
    rw [List.foldl_cons]
    by_cases z : ltR x v = true
    · rw [if_pos z]
      obtain ⟨i1, i2⟩ := least_scan r x
      refine ⟨List.mem_cons_of_mem _ i1, fun c hc => ?_⟩
      rcases List.mem_cons.mp hc with e | hc
      · rw [e]
        cases y : ltR v (r.foldl (fun f x => if ltR x f then x else f) x) with
        | false => rfl
        | true =>
          have := i2 x List.mem_cons_self
          rw [ltR_trans z y] at this
          cases this
      · exact i2 c hc
    · rw [if_neg z]
      obtain ⟨i1, i2⟩ := least_scan r v
      refine ⟨?_, fun c hc => ?_⟩
      · rcases List.mem_cons.mp i1 with e | hm
        · rw [e]; exact List.mem_cons_self
        · exact List.mem_cons_of_mem _ (List.mem_cons_of_mem _ hm)
      · rcases List.mem_cons.mp hc with e | hc
        · rw [e]; exact i2 v List.mem_cons_self
        · rcases List.mem_cons.mp hc with e | hc
          · rw [e]
            cases y : ltR x (r.foldl (fun f x => if ltR x f then x else f) v) with
            | false => rfl
            | true =>
              exfalso
              have hv := i2 v List.mem_cons_self
              generalize r.foldl (fun f x => if ltR x f then x else f) v = b at *
              -- x below b, b not above v, so x below v
              by_cases w : ltR b v = true
              · exact z (ltR_trans y w)
              · have : b = v := ltR_tri (by simpa using w) hv
                rw [this] at y
                exact z y
          · exact i2 c (List.mem_cons_of_mem _ hc)
theorem least_is {V : List Ray} (ne : V ≠ []) : least V ∈ V ∧ ∀ c ∈ V, ltR c (least V) = false := by
  cases V with
  | nil => exact absurd rfl ne
  | cons v r =>
    have e : least (v :: r) = r.foldl (fun f x => if ltR x f then x else f) v := by
      show (v :: r).foldl (fun f x => if ltR x f then x else f) v = _
      rw [List.foldl_cons, if_neg (by rw [ltR_irrefl]; decide)]
    rw [e]
    exact least_scan r v
/-- so many rays, from z on, each the next one -/
structure Go (L : List Ln) (V : List Ray) (z : Ray) (G : List Ray) (l : Ray) : Prop where
  isV : ∀ x ∈ G ++ [l], isV L x
  pw : (G ++ [l]).Pairwise (be z)
  first : (G ++ [l])[0]? = some z
  cov : ∀ w, Rg.isV L w → w ∈ G ++ [l] ∨ be z l w
  nx : ∀ (i : Nat) a b, (G ++ [l])[i]? = some a → (G ++ [l])[i + 1]? = some b → b = next V a
section
variable {L : List Ln} (h : OkL L) {V : List Ray} (hV : ∀ v, v ∈ V ↔ isV L v) (nd : V.Nodup) {z : Ray} (hz : isV L z)
include h hV hz
theorem pw_nd {F : List Ray} (hF : F.Pairwise (be z)) : F.Nodup := by
  refine List.Pairwise.imp (fun {a b} hab e => ?_) hF
  rw [e] at hab
  exact be_irrefl h.r hz hab
omit hV in
theorem go_start : Go L V z [] z := by
  refine ⟨fun x hx => ?_, List.pairwise_singleton _ _, rfl, fun w hw => ?_, fun i a b _ hb => ?_⟩
  · have : x = z := by simpa using hx
    rw [this]; exact hz
  · rcases first_be h.r hz hw with e | e
    · left; rw [e]; exact List.mem_singleton.mpr rfl
    · exact .inr e
  · have hb : ([z] : List Ray)[i + 1]? = some b := hb
    rw [List.getElem?_eq_none (by simp)] at hb
    cases hb
theorem go_last {G : List Ray} {l : Ray} (g : Go L V z G l) {w : Ray} (hw : w ∈ G ++ [l]) : ¬ be z l w := by
  intro hb
  rcases List.mem_append.mp hw with hm | hm
  · have pw := g.pw
    rw [List.pairwise_append] at pw
    have h1 := pw.2.2 w hm l (List.mem_singleton.mpr rfl)
    have lV := g.isV l (List.mem_append_right _ (List.mem_singleton.mpr rfl))
    have wV := g.isV w hw
    exact be_irrefl h.r hz (be_trans h.r hz wV lV wV h1 hb)
  · rw [List.mem_singleton] at hm
    rw [hm] at hb
    exact be_irrefl h.r hz hb
theorem go_step {G : List Ray} {l : Ray} (g : Go L V z G l) (hlt : (G ++ [l]).length < V.length) (nd : V.Nodup) : Go L V z (G ++ [l]) (next V l) := by
  have lV := g.isV l (List.mem_append_right _ (List.mem_singleton.mpr rfl))
  obtain ⟨nx, nV, _⟩ := next_is h hV lV
  -- one is left
  have ex : ∃ w, isV L w ∧ be z l w := by
    apply Classical.byContradiction
    intro no
    have : V.length ≤ (G ++ [l]).length := nd_len nd fun x hx => by
      rcases g.cov x ((hV x).mp hx) with y | y
      · exact y
      · exact absurd ⟨x, (hV x).mp hx, y⟩ no
    omega
  obtain ⟨w, hw, lw⟩ := ex
  have ln := next_after h.r hz lV nx hw lw
  refine ⟨fun x hx => ?_, ?_, ?_, fun w hw => ?_, fun i a b ha hb => ?_⟩
  · rcases List.mem_append.mp hx with hm | hm
    · exact g.isV x hm
    · rw [List.mem_singleton] at hm
      rw [hm]; exact nx.1
  · rw [List.pairwise_append]
    refine ⟨g.pw, List.pairwise_singleton _ _, fun a ha b hb => ?_⟩
    rw [List.mem_singleton] at hb
    rw [hb]
    rcases List.mem_append.mp ha with hm | hm
    · have pw := g.pw
      rw [List.pairwise_append] at pw
      exact be_trans h.r hz (g.isV a ha) lV nx.1 (pw.2.2 a hm l (List.mem_singleton.mpr rfl)) ln
    · rw [List.mem_singleton] at hm
      rw [hm]; exact ln
  · have := g.first
    rw [List.getElem?_append_left (by simp)]
    exact this
  · rcases g.cov w hw with y | y
    · exact .inl (List.mem_append_left _ y)
    · rcases next_gap h.r hz lV nx hw y with e | e
      · left; rw [e]; exact List.mem_append_right _ (List.mem_singleton.mpr rfl)
      · exact .inr e
  · by_cases e : i + 1 < (G ++ [l]).length
    · rw [List.getElem?_append_left (by omega)] at ha
      rw [List.getElem?_append_left e] at hb
      exact g.nx i a b ha hb
    · have hl := (List.getElem?_eq_some_iff.mp hb).1
      rw [List.length_append] at hl
      have hl : i + 1 < (G ++ [l]).length + 1 := hl
      have hi : i = G.length := by
        rw [List.length_append] at e hl
        have e : ¬ (i + 1 < G.length + 1) := e
        have hl : i + 1 < G.length + 1 + 1 := hl
        omega
      subst hi
      rw [List.getElem?_append_left (by simp), List.getElem?_append_right (Nat.le_refl _), Nat.sub_self] at ha
      have ha : l = a := Option.some.inj ha
      rw [List.getElem?_append_right (by simp), show G.length + 1 - (G ++ [l]).length = 0 by simp] at hb
      have hb : next V l = b := Option.some.inj hb
      rw [← ha, ← hb]
theorem go_on (nd : V.Nodup) : ∀ (n : Nat) (G : List Ray) (l : Ray), Go L V z G l → (G ++ [l]).length + n ≤ V.length → ∃ G' l', goOn V n (G ++ [l]) = G' ++ [l'] ∧ Go L V z G' l' ∧ (G' ++ [l']).length = (G ++ [l]).length + n
  | 0, G, l, g, _ => ⟨G, l, rfl, g, rfl⟩
  | n + 1, G, l, g, hn => by
    unfold goOn
    have e : (G ++ [l]).getLastD (0, 0) = l := by simp
    rw [e]
    obtain ⟨G', l', h1, h2, h3⟩ := go_on nd n (G ++ [l]) (next V l) (go_step h hV hz g (by omega) nd) (by rw [List.length_append]; show _ + 1 + n ≤ _; omega)
    refine ⟨G', l', h1, h2, ?_⟩
    rw [h3, List.length_append]
    show _ + 1 + n = _
    omega
end
/-- what corners tells -/
structure Cyc (L : List Ln) (F : List Ray) : Prop where
  pos : 0 < F.length
  mem : ∀ v, v ∈ F ↔ isV L v
  nxt : ∀ (i : Nat) a, F[i]? = some a → ∃ b, F[(i + 1) % F.length]? = some b ∧ isNext L a b
theorem cyc_of {L : List Ln} (h : OkL L) {V : List Ray} (hV : ∀ v, v ∈ V ↔ isV L v) (nd : V.Nodup) (ne : V ≠ []) : Cyc L (goOn V (V.length - 1) [least V]) := by
  have hz : isV L (least V) := (hV _).mp (least_is ne).1
  have pos : 0 < V.length := List.length_pos_iff.mpr ne
  obtain ⟨G, l, e, g, hl⟩ := go_on h hV hz nd (V.length - 1) [] (least V) (go_start h hz) (by show 1 + _ ≤ _; omega)
  have e : goOn V (V.length - 1) [least V] = G ++ [l] := e
  have hl : (G ++ [l]).length = 1 + (V.length - 1) := hl
  rw [e]
  have hl2 : (G ++ [l]).length = V.length := by omega
  have ndF := pw_nd h hV hz g.pw
  have mem : ∀ v, v ∈ G ++ [l] ↔ isV L v := fun v => ⟨g.isV v, fun hv => by
    apply Classical.byContradiction
    intro no
    have : (v :: (G ++ [l])).length ≤ V.length := nd_len (List.nodup_cons.mpr ⟨no, ndF⟩) fun x hx => by
      rcases List.mem_cons.mp hx with y | y
      · rw [y]; exact (hV v).mpr hv
      · exact (hV x).mpr (g.isV x y)
    rw [List.length_cons] at this
    omega⟩
  have lV := g.isV l (List.mem_append_right _ (List.mem_singleton.mpr rfl))
  refine ⟨by rw [hl2]; exact pos, mem, fun i a ha => ?_⟩
  have hi := (List.getElem?_eq_some_iff.mp ha).1
  by_cases c : i + 1 < (G ++ [l]).length
  · rw [Nat.mod_eq_of_lt c]
    obtain ⟨b, hb⟩ : ∃ b, (G ++ [l])[i + 1]? = some b := ⟨_, List.getElem?_eq_getElem c⟩
    refine ⟨b, hb, ?_⟩
    rw [g.nx i a b ha hb]
    exact (next_is h hV (g.isV a (List.mem_of_getElem? ha))).1
  · have hi2 : i + 1 = (G ++ [l]).length := by omega
    rw [hi2, Nat.mod_self]
    refine ⟨least V, g.first, ?_⟩
    have ei : i = G.length := by
      rw [List.length_append] at hi2
      have hi2 : i + 1 = G.length + 1 := hi2
      omega
    subst ei
    rw [List.getElem?_append_right (Nat.le_refl _), Nat.sub_self] at ha
    have ha : l = a := Option.some.inj ha
    subst ha
    have nx := (next_is h hV lV).1
    have := next_last h.r hz lV nx fun w hw => go_last h hV hz g ((mem w).mpr hw)
    rw [this] at nx
    exact nx
theorem corn_some {L : List Ln} (h : OkL L) {F : List Ray} (e : corn L = some F) : Cyc L F := by
  unfold corn at e
  by_cases c : met L = []
  · rw [if_pos c] at e; cases e
  · rw [if_neg c] at e
    cases e
    exact cyc_of h (fun v => mem_met) (nd_met h) c
theorem corn_none {L : List Ln} (h : OkL L) : corn L = none ↔ ¬ two L := by
  rw [← met_nil h]
  unfold corn
  by_cases c : met L = []
  · rw [if_pos c]; exact ⟨fun _ => c, fun _ => rfl⟩
  · rw [if_neg c]
    constructor
    · intro e; cases e
    · intro e; exact absurd e c
theorem next_uniq {L : List Ln} (h : OkL L) {a b c : Ray} (hb : isNext L a b) (hc : isNext L a c) : b = c := by
  have h1 := hb.2.2 c hc.1 hc.2.1
  have h2 := hc.2.2 b hb.1 hb.2.1
  have s := cr_swap b c
  have z : cr b c = 0 := by grind
  rcases hb.1.along h.r hc.1 z with e | e
  · exact e.symm
  · exfalso
    have := hc.2.1
    rw [e, cr_op2] at this
    have := hb.2.1
    grind
theorem goOn_eq {L : List Ln} (h : OkL L) {V W : List Ray} (hV : ∀ v, v ∈ V ↔ isV L v) (hW : ∀ v, v ∈ W ↔ isV L v) : ∀ (n : Nat) (G : List Ray) (l : Ray), isV L l → goOn V n (G ++ [l]) = goOn W n (G ++ [l])
  | 0, G, l, _ => rfl
  | n + 1, G, l, hl => by
    unfold goOn
    have e : (G ++ [l]).getLastD (0, 0) = l := by simp
    rw [e]
    have a := (next_is h hV hl).1
    have b := (next_is h hW hl).1
    rw [next_uniq h a b]
    exact goOn_eq h hV hW n (G ++ [l]) _ b.1
/-- the same outermost points, the same corners -/
theorem corn_eq {L M : List Ln} (h : OkL L) (k : OkL M) (hv : ∀ x, isV L x ↔ isV M x) : corn L = corn M := by
  have hW : ∀ v, v ∈ met M ↔ isV L v := fun v => mem_met.trans (hv v).symm
  have hV : ∀ v, v ∈ met L ↔ isV L v := fun v => mem_met
  unfold corn
  by_cases c : met L = []
  · have c2 : met M = [] := by
      rw [List.eq_nil_iff_forall_not_mem]
      intro v hm
      have := (hV v).mpr ((hW v).mp hm)
      rw [c] at this
      cases this
    rw [if_pos c, if_pos c2]
  · have c2 : met M ≠ [] := by
      intro e
      apply c
      rw [List.eq_nil_iff_forall_not_mem]
      intro v hm
      have := (hW v).mpr ((hV v).mp hm)
      rw [e] at this
      cases this
    rw [if_neg c, if_neg c2]
    obtain ⟨l1, l2⟩ := least_is c
    obtain ⟨m1, m2⟩ := least_is c2
    have el : least (met L) = least (met M) := ltR_tri (m2 _ ((hW _).mpr ((hV _).mp l1))) (l2 _ ((hV _).mpr ((hW _).mp m1)))
    have en : (met L).length = (met M).length := by
      have a := nd_len (nd_met h) fun x hx => (hW x).mpr ((hV x).mp hx)
      have b := nd_len (nd_met k) fun x hx => (hV x).mpr ((hW x).mp hx)
      omega
    rw [el, en]
    exact congrArg some (goOn_eq h hV hW _ [] _ ((hW _).mp m1))
/-- a ray is let by just where it lies on the middle's side of each two neighbouring corners -/
theorem inside_iff {L : List Ln} (h : OkL L) {F : List Ray} (c : Cyc L F) (x : Ray) : inP L x ↔ ∀ (i : Nat) a b, F[i]? = some a → F[(i + 1) % F.length]? = some b → 0 ≤ side a b x := by
  have ne : F ≠ [] := List.length_pos_iff.mp c.pos
  obtain ⟨v, hv⟩ := List.exists_mem_of_ne_nil F ne
  have h2 := two_of_isV h ((c.mem v).mp hv)
  constructor
  · intro hx i a b ha hb
    obtain ⟨b', hb', nx⟩ := c.nxt i a ha
    rw [hb] at hb'
    cases hb'
    exact next_side h.r (fun p q _ => least_sh h2 p q) ((c.mem a).mp (List.mem_of_getElem? ha)) nx hx
  · intro hs
    refine side_in h.r c.mem ne (next F) (fun v hv => (next_is h c.mem ((c.mem v).mp hv)).1) (x := x) fun v hv => ?_
    obtain ⟨i, hi⟩ := List.getElem?_of_mem hv
    obtain ⟨b, hb, nx⟩ := c.nxt i v hi
    have e := next_uniq h nx (next_is h c.mem ((c.mem v).mp hv)).1
    rw [← e]
    exact hs i v b hi hb
end Rg


set_option linter.all false
namespace Rg
/-! shares, most, idle -/
theorem mem_shIn {L : List Ln} {p q : Rat} {j : Nat} {m : Ln} {s : List Share} {F : List (List Share)} : ∀ n, s ∈ shIn L p q j m n F ↔ s ∈ F ∨ ∃ i l, i < n ∧ L[i]? = some l ∧ cx l m ≠ 0 ∧ s = shTwo L i j l m p q
  | 0 => by unfold shIn; simp
  | n + 1 => by
    unfold shIn
    cases e : L[n]? with
    | none =>
      show s ∈ shIn L p q j m n F ↔ _
      rw [mem_shIn n]
      constructor
      · rintro (a | ⟨i, l, a, r⟩)
        · exact .inl a
        · exact .inr ⟨i, l, by omega, r⟩
      · rintro (a | ⟨i, l, a, b, r⟩)
        · exact .inl a
        · have : i ≠ n := fun z => by rw [z, e] at b; cases b
          exact .inr ⟨i, l, by omega, b, r⟩
    | some l =>
      show s ∈ (if cr (pq l) (pq m) ≠ 0 then shIn L p q j m n F ++ [shTwo L n j l m p q] else shIn L p q j m n F) ↔ _
      rw [cr_pq]
      by_cases c : cx l m ≠ 0
      · rw [if_pos c, List.mem_append, List.mem_singleton, mem_shIn n]
        constructor
        · rintro ((a | ⟨i, l, a, r⟩) | a)
          · exact .inl a
          · exact .inr ⟨i, l, by omega, r⟩
          · exact .inr ⟨n, l, Nat.lt_succ_self n, e, c, a⟩
        · rintro (a | ⟨i, l', a, b, r⟩)
          · exact .inl (.inl a)
          · by_cases z : i = n
            · subst z
              rw [e] at b
              cases b
              exact .inr r.2
            · exact .inl (.inr ⟨i, l', by omega, b, r⟩)
      · rw [if_neg c, mem_shIn n]
        constructor
        · rintro (a | ⟨i, l, a, r⟩)
          · exact .inl a
          · exact .inr ⟨i, l, by omega, r⟩
        · rintro (a | ⟨i, l', a, b, r⟩)
          · exact .inl a
          · have : i ≠ n := fun z => by
              rw [z, e] at b
              cases b
              exact c r.1
            exact .inr ⟨i, l', by omega, b, r⟩
def isOne (L : List Ln) (p q : Rat) (s : List Share) : Prop := ∃ j m, L[j]? = some m ∧ cr (pq m) (p, q) = 0 ∧ s = shOne j m p q
def isTwo (L : List Ln) (p q : Rat) (s : List Share) : Prop := ∃ j i l m, i < j ∧ L[j]? = some m ∧ L[i]? = some l ∧ cx l m ≠ 0 ∧ s = shTwo L i j l m p q
theorem mem_shUp {L : List Ln} {p q : Rat} {s : List Share} : ∀ n, s ∈ shUp L p q n ↔ (∃ j m, j < n ∧ L[j]? = some m ∧ cr (pq m) (p, q) = 0 ∧ s = shOne j m p q) ∨ (∃ j i l m, j < n ∧ i < j ∧ L[j]? = some m ∧ L[i]? = some l ∧ cx l m ≠ 0 ∧ s = shTwo L i j l m p q)
  | 0 => by unfold shUp; simp
  | n + 1 => by
    unfold shUp
    have base : ∀ {m : Ln}, L[n]? = some m → (s ∈ (if cr (pq m) (p, q) = 0 then shUp L p q n ++ [shOne n m p q] else shUp L p q n) ↔ s ∈ shUp L p q n ∨ (cr (pq m) (p, q) = 0 ∧ s = shOne n m p q)) := fun {m} _ => by
      by_cases c : cr (pq m) (p, q) = 0
      · rw [if_pos c, List.mem_append, List.mem_singleton]
        constructor
        · rintro (a | a)
          · exact .inl a
          · exact .inr ⟨c, a⟩
        · rintro (a | ⟨_, a⟩)
          · exact .inl a
          · exact .inr a
      · rw [if_neg c]
        constructor
        · exact .inl
        · rintro (a | ⟨a, _⟩)
          · exact a
          · exact absurd a c
    cases e : L[n]? with
    | none =>
      show s ∈ shUp L p q n ↔ _
      rw [mem_shUp n]
      constructor
      · rintro (⟨j, m, a, r⟩ | ⟨j, i, l, m, a, r⟩)
        · exact .inl ⟨j, m, by omega, r⟩
        · exact .inr ⟨j, i, l, m, by omega, r⟩
      · rintro (⟨j, m, a, b, r⟩ | ⟨j, i, l, m, a, c, b, r⟩)
        · have : j ≠ n := fun z => by rw [z, e] at b; cases b
          exact .inl ⟨j, m, by omega, b, r⟩
        · have : j ≠ n := fun z => by rw [z, e] at b; cases b
          exact .inr ⟨j, i, l, m, by omega, c, b, r⟩
    | some m =>
      show s ∈ shIn L p q n m n (if cr (pq m) (p, q) = 0 then shUp L p q n ++ [shOne n m p q] else shUp L p q n) ↔ _
      rw [mem_shIn, base e, mem_shUp n]
      constructor
      · rintro (((⟨j, m', a, r⟩ | ⟨j, i, l, m', a, r⟩) | ⟨a, b⟩) | ⟨i, l, a, b, c, d⟩)
        · exact .inl ⟨j, m', by omega, r⟩
        · exact .inr ⟨j, i, l, m', by omega, r⟩
        · exact .inl ⟨n, m, Nat.lt_succ_self n, e, a, b⟩
        · exact .inr ⟨n, i, l, m, Nat.lt_succ_self n, a, e, b, c, d⟩
      · rintro (⟨j, m', a, b, r⟩ | ⟨j, i, l, m', a, c, b, d, r⟩)
        · by_cases z : j = n
          · subst z
            rw [e] at b
            cases b
            exact .inl (.inr r)
          · exact .inl (.inl (.inl ⟨j, m', by omega, b, r⟩))
        · by_cases z : j = n
          · subst z
            rw [e] at b
            cases b
            exact .inr ⟨i, l, c, d, r⟩
          · exact .inl (.inl (.inr ⟨j, i, l, m', by omega, c, b, d, r⟩))
theorem mem_allSh {L : List Ln} {p q : Rat} {s : List Share} : s ∈ allSh L p q ↔ isOne L p q s ∨ isTwo L p q s := by
  unfold allSh
  rw [mem_shUp]
  constructor
  · rintro (⟨j, m, a, r⟩ | ⟨j, i, l, m, a, r⟩)
    · exact .inl ⟨j, m, r⟩
    · exact .inr ⟨j, i, l, m, r⟩
  · rintro (⟨j, m, b, r⟩ | ⟨j, i, l, m, c, b, r⟩)
    · exact .inl ⟨j, m, (List.getElem?_eq_some_iff.mp b).1, b, r⟩
    · exact .inr ⟨j, i, l, m, (List.getElem?_eq_some_iff.mp b).1, c, b, r⟩
theorem ab_zero : ab 0 = 0 := by decide
theorem worth_two {L : List Ln} {i j : Nat} {l m : Ln} {p q : Rat} (hi : L[i]? = some l) (hj : L[j]? = some m) : worth L (shTwo L i j l m p q) = ab (sA p q l m) * l.r + ab (sB p q l m) * m.r := by
  have e1 : cr (p, q) (pq m) / cr (pq l) (pq m) = sA p q l m := rfl
  have e2 : cr (pq l) (p, q) / cr (pq l) (pq m) = sB p q l m := rfl
  unfold shTwo
  rw [e1, e2]
  have r1 : rOf L i = l.r := by unfold rOf; rw [hi]
  have r2 : rOf L j = m.r := by unfold rOf; rw [hj]
  generalize sA p q l m = a at *
  generalize sB p q l m = b at *
  unfold worth
  by_cases a0 : a = 0
  · by_cases b0 : b = 0
    · subst a0; subst b0
      rw [ab_zero]
      show (0 : Rat) = _
      grind
    · rw [List.filter_cons_of_neg (by simp [a0]), List.filter_cons_of_pos (by simp [b0])]
      subst a0
      rw [ab_zero]
      show (0 : Rat) + ab b * rOf L j = _
      rw [r2]
      grind
  · by_cases b0 : b = 0
    · rw [List.filter_cons_of_pos (by simp [a0]), List.filter_cons_of_neg (by simp [b0])]
      subst b0
      rw [ab_zero]
      show (0 : Rat) + ab a * rOf L i = _
      rw [r1]
      grind
    · rw [List.filter_cons_of_pos (by simp [a0]), List.filter_cons_of_pos (by simp [b0])]
      show (0 : Rat) + ab a * rOf L i + ab b * rOf L j = _
      rw [r1, r2]
      grind
/-- one line's share -/
theorem shOne_is {j : Nat} {m : Ln} {p q : Rat} (hm : m.p ≠ 0 ∨ m.q ≠ 0) (hc : cr (pq m) (p, q) = 0) : ∃ a, shOne j m p q = [(j, a)] ∧ p = a * m.p ∧ q = a * m.q := by
  unfold cr pq at hc
  unfold shOne
  by_cases z : m.p ≠ 0
  · rw [if_pos z]
    refine ⟨p / m.p, rfl, (Rat.div_mul_cancel z).symm, ?_⟩
    have e := Rat.div_mul_cancel (a := p) z
    refine cancel z ?_
    generalize p / m.p = a at *
    rw [← e] at hc
    grind
  · rw [if_neg z]
    have z0 : m.p = 0 := by simpa using z
    have z1 : m.q ≠ 0 := by
      rcases hm with h | h
      · exact absurd h z
      · exact h
    refine ⟨q / m.q, rfl, ?_, (Rat.div_mul_cancel z1).symm⟩
    rw [z0] at hc ⊢
    have : p * m.q = 0 := by grind
    rcases Rat.mul_eq_zero.mp this with h | h
    · rw [h]; grind
    · exact absurd h z1
theorem worth_one {L : List Ln} {j : Nat} {m : Ln} {a : Rat} (hj : L[j]? = some m) : worth L [(j, a)] = ab a * m.r := by
  unfold worth
  show (0 : Rat) + ab a * rOf L j = _
  unfold rOf
  rw [hj]
  grind
theorem leastSh_scan {L : List Ln} : ∀ (r : List (List Share)) (s : List Share), (r.foldl (fun f t => if worth L t < worth L f then t else f) s ∈ s :: r) ∧ ∀ c ∈ s :: r, worth L (r.foldl (fun f t => if worth L t < worth L f then t else f) s) ≤ worth L c
  | [], s => ⟨by simp, fun c hc => by simp at hc; rw [hc]; exact Rat.le_refl⟩
  | x :: r, s => by
    rw [List.foldl_cons]
    by_cases z : worth L x < worth L s
    · rw [if_pos z]
      obtain ⟨i1, i2⟩ := leastSh_scan r x
      refine ⟨List.mem_cons_of_mem _ i1, fun c hc => ?_⟩
      rcases List.mem_cons.mp hc with e | hc
      · have := i2 x List.mem_cons_self
        rw [e]
        grind
      · exact i2 c hc
    · rw [if_neg z]
      obtain ⟨i1, i2⟩ := leastSh_scan r s
      refine ⟨?_, fun c hc => ?_⟩
      · rcases List.mem_cons.mp i1 with e | hm
        · rw [e]; exact List.mem_cons_self
        · exact List.mem_cons_of_mem _ (List.mem_cons_of_mem _ hm)
      · rcases List.mem_cons.mp hc with e | hc
        · rw [e]; exact i2 s List.mem_cons_self
        · rcases List.mem_cons.mp hc with e | hc
          · have := i2 s List.mem_cons_self
            rw [e]
            grind
          · exact i2 c (List.mem_cons_of_mem _ hc)
theorem leastSh_is {L : List Ln} {S : List (List Share)} (ne : S ≠ []) : leastSh L S ∈ S ∧ ∀ c ∈ S, worth L (leastSh L S) ≤ worth L c := by
  cases S with
  | nil => exact absurd rfl ne
  | cons s r =>
    have e : leastSh L (s :: r) = r.foldl (fun f t => if worth L t < worth L f then t else f) s := by
      show (s :: r).foldl (fun f t => if worth L t < worth L f then t else f) s = _
      rw [List.foldl_cons, if_neg (by exact Rat.lt_irrefl)]
    rw [e]
    exact leastSh_scan r s
section
variable {L : List Ln} (h : OkL L)
include h
theorem sh_of_all (h2 : two L) {p q : Rat} {s : List Share} (hs : s ∈ allSh L p q) : Sh L p q (worth L s) := by
  rcases mem_allSh.mp hs with ⟨j, m, hj, hc, rfl⟩ | ⟨j, i, l, m, _, hj, hi, hc, rfl⟩
  · have hm := List.mem_of_getElem? hj
    obtain ⟨a, e, e1, e2⟩ := shOne_is (j := j) (h m hm).2 hc
    rw [e, worth_one hj]
    -- another line that isn't along it
    obtain ⟨k, hk, ck⟩ : ∃ k ∈ L, cx m k ≠ 0 := by
      obtain ⟨x, y, hx, hy, c⟩ := h2
      by_cases z : cx m x = 0
      · refine ⟨y, hy, fun z2 => c ?_⟩
        have nm := (h m hm).2
        unfold cx at *
        rcases nm with n | n
        · refine cancel n ?_
          grind
        · refine cancel n ?_
          grind
      · exact ⟨x, hx, z⟩
    have := signed (.inl hm) (.inl hk) ck (s := a) (t := 0) (p := p) (q := q) (by rw [e1]; grind) (by rw [e2]; grind)
    rw [ab_zero] at this
    have e3 : ab a * m.r + 0 * k.r = ab a * m.r := by grind
    rw [e3] at this
    exact this
  · rw [worth_two hi hj]
    obtain ⟨e1, e2⟩ := sAB (p := p) (q := q) hc
    exact signed (.inl (List.mem_of_getElem? hi)) (.inl (List.mem_of_getElem? hj)) hc e1 e2
omit h in
theorem all_of_sh {p q w : Rat} (hw : Sh L p q w) : ∃ s ∈ allSh L p q, worth L s = w := by
  obtain ⟨g, k, s, t, hg, hk, hc, hs, ht, e1, e2, rfl⟩ := hw
  have un : ∀ {g : Ln} (s : Rat), 0 ≤ s → HH L g → ∃ l ∈ L, ∃ a, (a * l.p = s * g.p ∧ a * l.q = s * g.q) ∧ ab a = s ∧ l.r = g.r ∧ (l.p = g.p ∧ l.q = g.q ∨ l.p = -g.p ∧ l.q = -g.q) := fun {g} s hs hg => by
    rcases hg with hg | hg
    · exact ⟨g, hg, s, ⟨rfl, rfl⟩, by unfold ab; rw [if_neg (by grind)], rfl, .inl ⟨rfl, rfl⟩⟩
    · refine ⟨ng g, hg, -s, ⟨by unfold ng; grind, by unfold ng; grind⟩, ?_, rfl, .inr ⟨rfl, rfl⟩⟩
      unfold ab
      by_cases z : s = 0
      · rw [z]; decide
      · rw [if_pos (by grind)]; grind
  obtain ⟨l, hl, a, ⟨a1, a2⟩, a3, a4, a5⟩ := un s hs hg
  obtain ⟨m, hm, b, ⟨b1, b2⟩, b3, b4, b5⟩ := un t ht hk
  have c : cx l m ≠ 0 := by
    unfold cx at *
    rcases a5 with ⟨x, y⟩ | ⟨x, y⟩ <;> rcases b5 with ⟨x2, y2⟩ | ⟨x2, y2⟩ <;> rw [x, y, x2, y2] <;> grind
  have f1 : p = a * l.p + b * m.p := by rw [a1, b1]; exact e1
  have f2 : q = a * l.q + b * m.q := by rw [a2, b2]; exact e2
  obtain ⟨i, hi⟩ := List.getElem?_of_mem hl
  obtain ⟨j, hj⟩ := List.getElem?_of_mem hm
  rcases Nat.lt_trichotomy i j with z | z | z
  · refine ⟨_, mem_allSh.mpr (.inr ⟨j, i, l, m, z, hj, hi, c, rfl⟩), ?_⟩
    rw [worth_two hi hj]
    obtain ⟨u1, u2⟩ := sAB_uniq c f1 f2
    rw [← u1, ← u2, a3, b3, a4, b4]
  · exfalso
    subst z
    rw [hi] at hj
    cases hj
    apply c
    unfold cx
    grind
  · have c2 : cx m l ≠ 0 := by unfold cx at *; grind
    refine ⟨_, mem_allSh.mpr (.inr ⟨i, j, m, l, z, hi, hj, c2, rfl⟩), ?_⟩
    rw [worth_two hj hi]
    obtain ⟨u1, u2⟩ := sAB_uniq (s := b) (t := a) (p := p) (q := q) c2 (by rw [f1]; grind) (by rw [f2]; grind)
    rw [← u1, ← u2, a3, b3, a4, b4]
    grind
theorem most_two (h2 : two L) {p q : Rat} (hpq : p ≠ 0 ∨ q ≠ 0) : allSh L p q ≠ [] ∧ (∃ x, isV L x ∧ p * x.1 + q * x.2 = worth L (leastSh L (allSh L p q))) ∧ ∀ x, inP L x → p * x.1 + q * x.2 ≤ worth L (leastSh L (allSh L p q)) := by
  obtain ⟨w, hw, _⟩ := least_sh h2 p q
  obtain ⟨s, hs, _⟩ := all_of_sh hw
  have ne : allSh L p q ≠ [] := fun e => by rw [e] at hs; cases hs
  obtain ⟨m1, m2⟩ := leastSh_is (L := L) ne
  have sh := sh_of_all h h2 m1
  refine ⟨ne, strong h.r hpq sh fun w hw => ?_, fun x hx => sh.le hx⟩
  obtain ⟨t, ht, e⟩ := all_of_sh hw
  rw [← e]
  exact m2 t ht
/-- all lines along one another -/
theorem not_two (h2 : ¬ two L) : ∀ l ∈ L, ∀ m ∈ L, cx l m = 0 := fun l hl m hm => by
  apply Classical.byContradiction
  intro c
  exact h2 ⟨l, m, hl, hm, c⟩
theorem le_ab {x w : Rat} (h1 : x ≤ w) (h2 : -x ≤ w) (a : Rat) : a * x ≤ ab a * w := by
  unfold ab
  by_cases z : a < 0
  · rw [if_pos z]
    have := nn (show 0 ≤ -a by grind) (show 0 ≤ w + x by grind)
    grind
  · rw [if_neg z]
    have := nn (show 0 ≤ a by grind) (show 0 ≤ w - x by grind)
    grind
theorem most_one (h2 : ¬ two L) {p q : Rat} (hpq : p ≠ 0 ∨ q ≠ 0) (ne : allSh L p q ≠ []) : ∃ i l a, leastSh L (allSh L p q) = [(i, a)] ∧ L[i]? = some l ∧ a ≠ 0 ∧ p = a * l.p ∧ q = a * l.q ∧ worth L (leastSh L (allSh L p q)) = ab a * l.r ∧
    inP L (rayOn l (ab a * l.r / a)) ∧ p * (rayOn l (ab a * l.r / a)).1 + q * (rayOn l (ab a * l.r / a)).2 = ab a * l.r ∧ (ab a * l.r / a = l.r ∨ ab a * l.r / a = - l.r) ∧ (∀ y, inP L y → p * y.1 + q * y.2 ≤ ab a * l.r) := by
  obtain ⟨m1, m2⟩ := leastSh_is (L := L) ne
  have nt := not_two h h2
  have one : ∀ s ∈ allSh L p q, isOne L p q s := fun s hs => by
    rcases mem_allSh.mp hs with o | ⟨j, i, l, m, _, hj, hi, hc, _⟩
    · exact o
    · exact absurd (nt l (List.mem_of_getElem? hi) m (List.mem_of_getElem? hj)) hc
  obtain ⟨i, l, hi, hc, e⟩ := one _ m1
  have hl := List.mem_of_getElem? hi
  obtain ⟨a, ea, e1, e2⟩ := shOne_is (j := i) (h l hl).2 hc
  have a0 : a ≠ 0 := fun z => by
    rw [z] at e1 e2
    rcases hpq with n | n <;> grind
  have rp := (h l hl).1
  have hw : worth L (leastSh L (allSh L p q)) = ab a * l.r := by rw [e, ea, worth_one hi]
  have sg : ab a * l.r / a = l.r ∨ ab a * l.r / a = - l.r := by
    unfold ab
    by_cases z : a < 0
    · right
      rw [if_pos z]
      refine cancel a0 ?_
      rw [Rat.div_mul_cancel a0]
      grind
    · left
      rw [if_neg z]
      refine cancel a0 ?_
      rw [Rat.div_mul_cancel a0]
      grind
  have don : dt l (rayOn l (ab a * l.r / a)) = ab a * l.r / a := by
    generalize ab a * l.r / a = w
    unfold rayOn dt
    by_cases z : l.p ≠ 0
    · rw [if_pos z]
      show l.p * (w / l.p) + l.q * 0 = w
      have := Rat.div_mul_cancel (a := w) z
      grind
    · rw [if_neg z]
      have z0 : l.p = 0 := by simpa using z
      have z1 : l.q ≠ 0 := by
        rcases (h l hl).2 with n | n
        · exact absurd n z
        · exact n
      show l.p * 0 + l.q * (w / l.q) = w
      have := Rat.div_mul_cancel (a := w) z1
      grind
  refine ⟨i, l, a, by rw [e, ea], hi, a0, e1, e2, hw, ?_, ?_, sg, fun y hy => ?_⟩
  · -- let by: the share is the least
    intro g hg
    have key : ∀ m ∈ L, dt m (rayOn l (ab a * l.r / a)) ≤ m.r ∧ - dt m (rayOn l (ab a * l.r / a)) ≤ m.r := fun m hm => by
      obtain ⟨j, hj⟩ := List.getElem?_of_mem hm
      have z := nt l hl m hm
      -- m of (p, q)
      have hc2 : cr (pq m) (p, q) = 0 := by
        unfold cr pq
        unfold cx at z
        rw [e1, e2]
        grind
      have mem : shOne j m p q ∈ allSh L p q := mem_allSh.mpr (.inl ⟨j, m, hj, hc2, rfl⟩)
      have le := m2 _ mem
      obtain ⟨b, eb, f1, f2⟩ := shOne_is (j := j) (h m hm).2 hc2
      rw [hw, eb, worth_one hj] at le
      have b0 : b ≠ 0 := fun z => by
        rw [z] at f1 f2
        rcases hpq with n | n <;> grind
      have mr := (h m hm).1
      generalize hx : rayOn l (ab a * l.r / a) = x at *
      -- b times m's is a times l's
      have eq : b * dt m x = a * dt l x := by
        have u1 : b * m.p = a * l.p := by rw [← f1, ← e1]
        have u2 : b * m.q = a * l.q := by rw [← f2, ← e2]
        unfold dt
        grind
      rw [don, Rat.mul_comm a, Rat.div_mul_cancel a0] at eq
      have bp : 0 < ab b := by
        unfold ab
        by_cases y : b < 0
        · rw [if_pos y]; grind
        · rw [if_neg y]; grind
      have nnr : 0 ≤ ab a * l.r := nn (ab_nn a) (by grind)
      constructor
      · by_cases y : b < 0
        · have : 0 ≤ - dt m x := nn_of (show - dt m x * -b = ab a * l.r by grind) (by grind) nnr
          grind
        · have e9 : ab b = b := by unfold ab; rw [if_neg y]
          rw [e9] at le bp
          have : 0 ≤ m.r - dt m x := nn_of (show (m.r - dt m x) * b = b * m.r - ab a * l.r by grind) bp (by grind)
          grind
      · by_cases y : b < 0
        · have e9 : ab b = -b := by unfold ab; rw [if_pos y]
          rw [e9] at le bp
          have : 0 ≤ m.r + dt m x := nn_of (show (m.r + dt m x) * -b = -b * m.r - ab a * l.r by grind) bp (by grind)
          grind
        · have : 0 ≤ dt m x := nn_of (show dt m x * b = ab a * l.r by grind) (by grind) nnr
          grind
    rcases hg with hg | hg
    · exact (key g hg).1
    · have := (key _ hg).2
      rw [dt_ng] at this
      have e9 : (ng g).r = g.r := rfl
      rw [e9] at this
      grind
  · have : p * (rayOn l (ab a * l.r / a)).1 + q * (rayOn l (ab a * l.r / a)).2 = a * dt l (rayOn l (ab a * l.r / a)) := by
      unfold dt
      rw [e1, e2]
      grind
    rw [this, don, Rat.mul_comm a, Rat.div_mul_cancel a0]
  · have e3 : p * y.1 + q * y.2 = a * dt l y := by unfold dt; rw [e1, e2]; grind
    rw [e3]
    refine le_ab h (hy l (.inl hl)) ?_ a
    have := hy (ng l) (.inr (by rw [ng_ng]; exact hl))
    rw [dt_ng] at this
    exact this
/-- free -/
theorem most_free {p q : Rat} (hpq : p ≠ 0 ∨ q ≠ 0) (e : allSh L p q = []) : ¬ two L ∧ (∀ m ∈ L, cr (pq m) (p, q) ≠ 0) ∧ (∀ m ∈ L, dt m (freeRay L p q) = 0) ∧ 0 < p * (freeRay L p q).1 + q * (freeRay L p q).2 := by
  have n2 : ¬ two L := fun h2 => (most_two h h2 hpq).1 e
  have nt := not_two h n2
  have na : ∀ m ∈ L, cr (pq m) (p, q) ≠ 0 := fun m hm z => by
    obtain ⟨j, hj⟩ := List.getElem?_of_mem hm
    have : shOne j m p q ∈ allSh L p q := mem_allSh.mpr (.inl ⟨j, m, hj, z, rfl⟩)
    rw [e] at this
    cases this
  refine ⟨n2, na, ?_, ?_⟩
  · intro m hm
    cases L with
    | nil => cases hm
    | cons l r =>
      have z := nt l List.mem_cons_self m hm
      unfold cx at z
      show dt m (if 0 < p * (0 - l.q) + q * l.p then (0 - l.q, l.p) else (l.q, 0 - l.p)) = 0
      split <;> (unfold dt; grind)
  · cases L with
    | nil => exact sq_pos hpq
    | cons l r =>
      have z := na l List.mem_cons_self
      unfold cr pq at z
      show 0 < p * (if 0 < p * (0 - l.q) + q * l.p then (0 - l.q, l.p) else (l.q, 0 - l.p)).1 + q * (if 0 < p * (0 - l.q) + q * l.p then (0 - l.q, l.p) else (l.q, 0 - l.p)).2
      by_cases c : 0 < p * (0 - l.q) + q * l.p
      · rw [if_pos c]; exact c
      · rw [if_neg c]
        show 0 < p * l.q + q * (0 - l.p)
        have z : l.p * q - l.q * p ≠ 0 := z
        grind
end
end Rg


set_option linter.all false
namespace Rg
/-! what most tells, and what idle does -/
inductive Told where
  | most (v : Rat) (x : Ray) (s : List Share)
  | free (x : Ray)
def rayWith (L : List Ln) (s : List Share) (p q v : Rat) : Ray := match corn L with
  | some V => (V.filter fun x => decide (p * x.1 + q * x.2 = v)).headD (0, 0)
  | none => match s with
    | (i, a) :: _ => (match L[i]? with
      | some l => rayOn l (v / a)
      | none => (0, 0))
    | [] => (0, 0)
def mostT (L : List Ln) (p q : Rat) : Told :=
  if p = 0 ∧ q = 0 then .most 0 (0, 0) [] else if allSh L p q = [] then .free (freeRay L p q)
  else .most (worth L (leastSh L (allSh L p q))) (rayWith L (leastSh L (allSh L p q)) p q (worth L (leastSh L (allSh L p q)))) (leastSh L (allSh L p q))
theorem rayWith_some {L : List Ln} {s : List Share} {p q v : Rat} {V : List Ray} (e : corn L = some V) : rayWith L s p q v = (V.filter fun x => decide (p * x.1 + q * x.2 = v)).headD (0, 0) := by
  unfold rayWith
  rw [e]
theorem rayWith_none {L : List Ln} {i : Nat} {a p q v : Rat} {l : Ln} (e : corn L = none) (hi : L[i]? = some l) : rayWith L [(i, a)] p q v = rayOn l (v / a) := by
  unfold rayWith
  rw [e]
  simp only [hi]
section
variable {L : List Ln} (h : OkL L) {p q : Rat} (hpq : p ≠ 0 ∨ q ≠ 0)
include h hpq
/-- among the corners there is one with the value -/
theorem filter_ne {V : List Ray} (e : corn L = some V) {v : Rat} (hv : v = worth L (leastSh L (allSh L p q))) : (V.filter fun x => decide (p * x.1 + q * x.2 = v)) ≠ [] := by
  have c := corn_some h e
  have h2 : two L := by
    apply Classical.byContradiction
    intro n
    rw [(corn_none h).mpr n] at e
    cases e
  obtain ⟨_, ⟨x, hx, ex⟩, _⟩ := most_two h h2 hpq
  rw [← hv] at ex
  intro z
  have : x ∈ V.filter fun x => decide (p * x.1 + q * x.2 = v) := List.mem_filter.mpr ⟨(c.mem x).mpr hx, decide_eq_true ex⟩
  rw [z] at this
  cases this
theorem told_ne (ne : allSh L p q ≠ []) {s : List Share} {v : Rat} (hs : s = leastSh L (allSh L p q)) (hv : v = worth L s) : inP L (rayWith L s p q v) ∧
    p * (rayWith L s p q v).1 + q * (rayWith L s p q v).2 = v ∧ (∀ y, inP L y → p * y.1 + q * y.2 ≤ v) ∧ (∀ V, corn L = some V → rayWith L s p q v ∈ V) := by
  cases e : corn L with
  | some V =>
    have c := corn_some h e
    have h2 : two L := by
      apply Classical.byContradiction
      intro n
      rw [(corn_none h).mpr n] at e
      cases e
    obtain ⟨_, _, mx⟩ := most_two h h2 hpq
    rw [hs] at hv
    rw [← hv] at mx
    have ne2 := filter_ne h hpq e hv
    rw [rayWith_some e]
    cases f : V.filter fun x => decide (p * x.1 + q * x.2 = v) with
    | nil => exact absurd f ne2
    | cons x r =>
      have hx : x ∈ V.filter fun x => decide (p * x.1 + q * x.2 = v) := by rw [f]; exact List.mem_cons_self
      obtain ⟨x1, x2⟩ := List.mem_filter.mp hx
      rw [List.headD_cons]
      refine ⟨((c.mem x).mp x1).1, of_decide_eq_true x2, mx, fun W hW => ?_⟩
      cases hW
      exact x1
  | none =>
    have n2 := (corn_none h).mp e
    obtain ⟨i, l, a, e1, hi, a0, e2, e3, ew, ip, val, _, mx⟩ := most_one h n2 hpq ne
    rw [← hs] at e1 ew
    rw [← hv] at ew
    subst e1
    rw [rayWith_none e hi]
    subst ew
    exact ⟨ip, val, mx, fun V hV => nomatch hV⟩
end
section
variable {L M : List Ln} (h : OkL L) {k : Ln} (hk : k ∈ L) (hM : ∀ m ∈ M, m ∈ L) (hL : ∀ l ∈ L, l = k ∨ l ∈ M)
include h hk hM hL
theorem okM : OkL M := fun m hm => h m (hM m hm)
omit h in
theorem inP_eq (hi : ∀ x, inP M x → dt k x ≤ k.r) (x : Ray) : inP M x ↔ inP L x := by
  constructor
  · intro hx g hg
    have h1 := hi x hx
    have h2 := hi _ hx.op
    rw [dt_op] at h2
    rcases hg with hg | hg
    · rcases hL g hg with e | e
      · rw [e]; exact h1
      · exact hx g (.inl e)
    · rcases hL _ hg with e | e
      · have e2 : g = ng k := by rw [← e, ng_ng]
        rw [e2, dt_ng]
        exact h2
      · exact hx g (.inr e)
  · intro hx g hg
    refine hx g ?_
    rcases hg with hg | hg
    · exact .inl (hM g hg)
    · exact .inr (hM _ hg)
theorem isV_eq (h2 : two M) (hi : ∀ x, inP M x → dt k x ≤ k.r) (x : Ray) : isV M x ↔ isV L x := by
  have ip := inP_eq hk hM hL hi
  constructor
  · rintro ⟨a, g, u, hg, hu, c⟩
    have up : ∀ {g : Ln}, HH M g → HH L g := fun {g} hg => by
      rcases hg with hg | hg
      · exact .inl (hM g hg)
      · exact .inr (hM _ hg)
    exact ⟨(ip x).mp a, g, u, up hg, up hu, c⟩
  · rintro ⟨a, g, u, hg, hu, c, t1, t2⟩
    have pq : g.p + u.p ≠ 0 ∨ g.q + u.q ≠ 0 := by
      by_cases z : g.p + u.p = 0
      · right
        intro z2
        apply c
        unfold cx
        have e1 : u.p = -g.p := by grind
        have e2 : u.q = -g.q := by grind
        rw [e1, e2]
        grind
      · exact .inl z
    obtain ⟨w, hw, mx⟩ := most_isV (okM h hk hM hL) h2 pq
    have big := mx x ((ip x).mpr a)
    have w1 := (ip w).mp hw.1 g hg
    have w2 := (ip w).mp hw.1 u hu
    have e1 : (g.p + u.p) * x.1 + (g.q + u.q) * x.2 = dt g x + dt u x := by unfold dt; grind
    have e2 : (g.p + u.p) * w.1 + (g.q + u.q) * w.2 = dt g w + dt u w := by unfold dt; grind
    rw [e1, e2, t1, t2] at big
    have : x = w := dt_eq c (by rw [t1]; grind) (by rw [t2]; grind)
    rw [this]
    exact hw
/-- an idle line: the corners are the same without it -/
theorem idle_corn (ne : allSh M k.p k.q ≠ []) (le : worth M (leastSh M (allSh M k.p k.q)) ≤ k.r) : corn M = corn L := by
  have oM := okM h hk hM hL
  have kq := (h k hk).2
  by_cases h2 : two M
  · obtain ⟨_, _, mx⟩ := most_two oM h2 kq
    exact corn_eq oM h (isV_eq h hk hM hL h2 fun x hx => by
      have := mx x hx
      unfold dt
      grind)
  · -- along one another, the line too
    obtain ⟨i, l, a, _, hi, a0, e1, e2, _⟩ := most_one oM h2 kq ne
    have hl := List.mem_of_getElem? hi
    have nt := not_two oM h2
    have nL : ¬ two L := by
      rintro ⟨x, y, hx, hy, c⟩
      have al : ∀ m ∈ L, cx l m = 0 := fun m hm => by
        rcases hL m hm with e | e
        · rw [e]
          unfold cx
          rw [e1, e2]
          grind
        · exact nt l hl m e
      have z1 := al x hx
      have z2 := al y hy
      apply c
      have ln := (oM l hl).2
      unfold cx at *
      rcases ln with n | n
      · refine cancel n ?_
        grind
      · refine cancel n ?_
        grind
    rw [(corn_none oM).mpr h2, (corn_none h).mpr nL]
end
end Rg


set_option linter.all false
namespace Rg
/-! what the law asks of most and of idle -/
def Told.isMost : Told → Bool
  | .most _ _ _ => true
  | .free _ => false
theorem ne_or {p q : Rat} (h : ¬ (p = 0 ∧ q = 0)) : p ≠ 0 ∨ q ≠ 0 := by
  by_cases z : p = 0
  · right; exact fun y => h ⟨z, y⟩
  · exact .inl z
theorem most_none {L : List Ln} (h : OkL L) (p q : Rat) (e : corn L = none) : (mostT L p q).isMost = ((L.any fun l => decide (cr (pq l) (p, q) = 0)) || decide (p = 0 ∧ q = 0)) := by
  have n2 := (corn_none h).mp e
  unfold mostT
  by_cases z : p = 0 ∧ q = 0
  · rw [if_pos z, decide_eq_true z, Bool.or_true]; rfl
  · rw [if_neg z, decide_eq_false z, Bool.or_false]
    by_cases a : allSh L p q = []
    · rw [if_pos a]
      obtain ⟨_, na, _⟩ := most_free h (ne_or z) a
      show false = _
      symm
      rw [List.any_eq_false]
      intro l hl hc
      exact na l hl (of_decide_eq_true hc)
    · rw [if_neg a]
      show true = _
      symm
      rw [List.any_eq_true]
      cases b : allSh L p q with
      | nil => exact absurd b a
      | cons s r =>
        have hs : s ∈ allSh L p q := by rw [b]; exact List.mem_cons_self
        rcases mem_allSh.mp hs with ⟨j, m, hm, c, _⟩ | ⟨j, i, l, m, _, hm, hl, c, _⟩
        · exact ⟨m, List.mem_of_getElem? hm, decide_eq_true c⟩
        · exact absurd ⟨l, m, List.mem_of_getElem? hl, List.mem_of_getElem? hm, c⟩ n2
theorem most_some {L : List Ln} (h : OkL L) (p q : Rat) {V : List Ray} (e : corn L = some V) : ∃ v x s, mostT L p q = .most v x s ∧ (∃ y, y ∈ V ∧ p * y.1 + q * y.2 = v) ∧ ∀ y, y ∈ V → p * y.1 + q * y.2 ≤ v := by
  have c := corn_some h e
  have h2 : two L := by
    apply Classical.byContradiction
    intro n
    rw [(corn_none h).mpr n] at e
    cases e
  unfold mostT
  by_cases z : p = 0 ∧ q = 0
  · rw [if_pos z]
    have k : ∀ y : Ray, p * y.1 + q * y.2 = 0 := fun y => by rw [z.1, z.2]; grind
    refine ⟨0, (0, 0), [], rfl, ⟨V[0]'c.pos, List.getElem_mem _, k _⟩, fun y _ => by rw [k y]; exact Rat.le_refl⟩
  · rw [if_neg z]
    obtain ⟨ne, ⟨x, hx, ex⟩, mx⟩ := most_two h h2 (ne_or z)
    rw [if_neg ne]
    exact ⟨_, _, _, rfl, ⟨x, (c.mem x).mpr hx, ex⟩, fun y hy => mx y ((c.mem y).mp hy).1⟩
/-- the ray that shows a line needed -/
theorem needed_free {M : List Ln} (h : OkL M) {k : Ln} (kr : 0 < k.r) (kn : k.p ≠ 0 ∨ k.q ≠ 0) {x : Ray} (e : mostT M k.p k.q = .free x) :
    inP M ((k.r + 1) / (k.p * x.1 + k.q * x.2) * x.1, (k.r + 1) / (k.p * x.1 + k.q * x.2) * x.2) ∧ ¬ (k.p * ((k.r + 1) / (k.p * x.1 + k.q * x.2) * x.1) + k.q * ((k.r + 1) / (k.p * x.1 + k.q * x.2) * x.2) ≤ k.r) := by
  unfold mostT at e
  have z : ¬ (k.p = 0 ∧ k.q = 0) := fun z => by
    rcases kn with n | n
    · exact n z.1
    · exact n z.2
  rw [if_neg z] at e
  by_cases a : allSh M k.p k.q = []
  · rw [if_pos a] at e
    obtain ⟨_, _, f, g⟩ := most_free h kn a
    cases e
    generalize freeRay M k.p k.q = x at f g
    have w0 : k.p * x.1 + k.q * x.2 ≠ 0 := by grind
    obtain ⟨c, hc⟩ := quot (k.r + 1) w0
    have e2 : (k.r + 1) / (k.p * x.1 + k.q * x.2) = c := by rw [← hc]; grind
    rw [e2]
    constructor
    · intro m hm
      have d0 : dt m (c * x.1, c * x.2) = c * dt m x := by unfold dt; grind
      have d1 : dt m x = 0 := by
        rcases hm with hm | hm
        · exact f m hm
        · have := f _ hm
          rw [dt_ng] at this
          grind
      have := HH.pos hm (OkL.r h)
      rw [d0, d1]
      grind
    · have : k.p * (c * x.1) + k.q * (c * x.2) = k.r + 1 := by rw [← hc]; grind
      rw [this]
      grind
  · rw [if_neg a] at e
    cases e
theorem needed_most {M : List Ln} (h : OkL M) {k : Ln} (kn : k.p ≠ 0 ∨ k.q ≠ 0) {x : Ray} {v : Rat} {s : List Share} (e : mostT M k.p k.q = .most v x s) (hv : k.r < v) :
    inP M x ∧ ¬ (k.p * x.1 + k.q * x.2 ≤ k.r) := by
  unfold mostT at e
  have z : ¬ (k.p = 0 ∧ k.q = 0) := fun z => by
    rcases kn with n | n
    · exact n z.1
    · exact n z.2
  rw [if_neg z] at e
  by_cases a : allSh M k.p k.q = []
  · rw [if_pos a] at e
    cases e
  · rw [if_neg a] at e
    cases e
    obtain ⟨i1, i2, _, _⟩ := told_ne h kn a rfl rfl
    exact ⟨i1, by rw [i2]; exact Rat.not_le.mpr hv⟩
theorem idle_same {L M : List Ln} (h : OkL L) {k : Ln} (hk : k ∈ L) (hM : ∀ m ∈ M, m ∈ L) (hL : ∀ l ∈ L, l = k ∨ l ∈ M) {x : Ray} {v : Rat} {s : List Share} (e : mostT M k.p k.q = .most v x s) (hv : ¬ k.r < v) : corn M = corn L := by
  have kn := (h k hk).2
  unfold mostT at e
  have z : ¬ (k.p = 0 ∧ k.q = 0) := fun z => by
    rcases kn with n | n
    · exact n z.1
    · exact n z.2
  rw [if_neg z] at e
  by_cases a : allSh M k.p k.q = []
  · rw [if_pos a] at e
    cases e
  · rw [if_neg a] at e
    cases e
    exact idle_corn h hk hM hL a (Rat.not_lt.mp hv)
theorem not_lets {L : List Ln} {k : Ln} (hk : k ∈ L) {x : Ray} (h : ¬ (k.p * x.1 + k.q * x.2 ≤ k.r)) : lts L x = false := by
  cases e : lts L x with
  | false => rfl
  | true => exact absurd (lts_iff.mp e k (.inl hk)) h
end Rg


set_option Elab.async false
set_option linter.all false
set_option maxRecDepth 100000
set_option maxHeartbeats 4000000
/-! readings over data: values as data, names as data or lists of one's own -/
namespace Lg
open PySem PySem.Spec PyProof.Rows L2

def Ex (H H' : Hp) : Prop := ∀ a o, H a = some o → H' a = some o
theorem Ex.refl (H : Hp) : Ex H H := fun _ _ h => h
theorem Ex.trans {H H1 H2 : Hp} (a : Ex H H1) (b : Ex H1 H2) : Ex H H2 := fun x o h => b x o (a x o h)
theorem Ex.new {H : Hp} {p : Addr} {o : HO} (h : H p = none) : Ex H (upd H p o) := fun a u e => by
  rw [upd_ne (ne_of_none e h)]
  exact e
theorem Ex.mut {H H' : Hp} {p : Addr} {o : HO} (e : Ex H H') (h : H p = none) : Ex H (upd H' p o) := fun a u ha => by
  rw [upd_ne (ne_of_none ha h)]
  exact e a u ha
theorem Ex.back {H H' : Hp} {p : Addr} (e : Ex H H') (h : H' p = none) : H p = none := by
  cases h1 : H p with
  | none => rfl
  | some o => rw [e p o h1] at h; cases h
theorem ex_rd {H H' : Hp} {a : Addr} {u : HO} (e : Ex H H') (h : Rd H a u) : Rd H' a u := by
  rcases h with h | ⟨o, h⟩
  · exact Or.inl (e a _ h)
  · exact Or.inr ⟨o, e a _ h⟩
theorem ex_l {K : PySem.W.Frag} {H H' : Hp} {a : Addr} {xs : List V} (e : Ex H H') (h : SqL K H a xs) : SqL K H' a xs := by
  rcases h with h | h
  · exact Or.inl (ex_rd e h)
  · exact Or.inr h
theorem ex_t {K : PySem.W.Frag} {H H' : Hp} {a : Addr} {xs : List V} (e : Ex H H') (h : SqT K H a xs) : SqT K H' a xs := by
  rcases h with h | h
  · exact Or.inl (ex_rd e h)
  · exact Or.inr h

/-! ### values as data -/
mutual
inductive Rv (K : PySem.W.Frag) (H : Hp) : V → PyData → Prop
  | non : Rv K H .non .none
  | bl (b : Bool) : Rv K H (.bl b) (.bool b)
  | int (i : Int) : Rv K H (.int i) (.int i)
  | str (x : Str) : Rv K H (.str x) (.str x)
  | lst {a : Addr} {xs : List V} {ds : List PyData} : H a = some (.lst xs) → RvAll K H xs ds → Rv K H (.ref a) (.list ds)
  | tup {a : Addr} {xs : List V} {ds : List PyData} : SqT K H a xs → RvAll K H xs ds → Rv K H (.ref a) (.tuple ds)
inductive RvAll (K : PySem.W.Frag) (H : Hp) : List V → List PyData → Prop
  | nil : RvAll K H [] []
  | cons {v : V} {vs : List V} {d : PyData} {ds : List PyData} : Rv K H v d → RvAll K H vs ds → RvAll K H (v :: vs) (d :: ds)
end
section
variable {K : PySem.W.Frag} {H H' : Hp}
mutual
theorem Rv.mono (e : Ex H H') : ∀ {v : V} {d : PyData}, Rv K H v d → Rv K H' v d
  | _, _, .non => .non
  | _, _, .bl b => .bl b
  | _, _, .int i => .int i
  | _, _, .str x => .str x
  | _, _, .lst h r => .lst (e _ _ h) (RvAll.mono e r)
  | _, _, .tup h r => .tup (ex_t e h) (RvAll.mono e r)
theorem RvAll.mono (e : Ex H H') : ∀ {vs : List V} {ds : List PyData}, RvAll K H vs ds → RvAll K H' vs ds
  | _, _, .nil => .nil
  | _, _, .cons a r => .cons (Rv.mono e a) (RvAll.mono e r)
end
mutual
theorem Rv.dp : ∀ {v : V} {d : PyData}, Rv K H v d → Dp K H v d
  | _, _, .non => .non
  | _, _, .bl b => .bl b
  | _, _, .int i => .int i
  | _, _, .str x => .str x
  | _, _, .lst h r => .lst (SqL.of h) (RvAll.dp r)
  | _, _, .tup h r => .tup h (RvAll.dp r)
theorem RvAll.dp : ∀ {vs : List V} {ds : List PyData}, RvAll K H vs ds → DpAll K H vs ds
  | _, _, .nil => .nil
  | _, _, .cons a r => .cons (Rv.dp a) (RvAll.dp r)
end
theorem RvAll.length : ∀ {vs : List V} {ds : List PyData}, RvAll K H vs ds → vs.length = ds.length
  | _, _, .nil => rfl
  | _, _, .cons _ r => by rw [List.length_cons, List.length_cons, RvAll.length r]
theorem RvAll.get : ∀ {vs : List V} {ds : List PyData} {i : Nat} {d : PyData}, RvAll K H vs ds → ds[i]? = some d → ∃ v, vs[i]? = some v ∧ Rv K H v d
  | _, _, _, _, .nil, h => by simp at h
  | _, _, 0, d, .cons a _, h => by
    simp at h
    subst h
    exact ⟨_, rfl, a⟩
  | _, _, i + 1, d, .cons _ r, h => by
    simp at h
    obtain ⟨v, h1, h2⟩ := RvAll.get r h
    exact ⟨v, by simpa using h1, h2⟩
theorem RvAll.get' : ∀ {vs : List V} {ds : List PyData} {i : Nat} {v : V}, RvAll K H vs ds → vs[i]? = some v → ∃ d, ds[i]? = some d ∧ Rv K H v d
  | _, _, _, _, .nil, h => by simp at h
  | _, _, 0, v, .cons a _, h => by
    simp at h
    subst h
    exact ⟨_, rfl, a⟩
  | _, _, i + 1, v, .cons _ r, h => by
    simp at h
    obtain ⟨d, h1, h2⟩ := RvAll.get' r h
    exact ⟨d, by simpa using h1, h2⟩
theorem RvAll.append : ∀ {vs ws : List V} {ds es : List PyData}, RvAll K H vs ds → RvAll K H ws es → RvAll K H (vs ++ ws) (ds ++ es)
  | _, _, _, _, .nil, b => b
  | _, _, _, _, .cons a r, b => .cons a (RvAll.append r b)
theorem RvAll.take : ∀ {vs : List V} {ds : List PyData} (n : Nat), RvAll K H vs ds → RvAll K H (vs.take n) (ds.take n)
  | _, _, 0, _ => .nil
  | _, _, _ + 1, .nil => .nil
  | _, _, n + 1, .cons a r => .cons a (RvAll.take n r)
theorem RvAll.drop : ∀ {vs : List V} {ds : List PyData} (n : Nat), RvAll K H vs ds → RvAll K H (vs.drop n) (ds.drop n)
  | _, _, 0, r => r
  | _, _, _ + 1, .nil => .nil
  | _, _, n + 1, .cons _ r => RvAll.drop n r
theorem RvAll.set : ∀ {vs : List V} {ds : List PyData} {v : V} {d : PyData} (n : Nat), RvAll K H vs ds → Rv K H v d → RvAll K H (vs.set n v) (ds.set n d)
  | _, _, _, _, _, .nil, _ => .nil
  | _, _, _, _, 0, .cons _ r, b => .cons b r
  | _, _, _, _, n + 1, .cons a r, b => .cons a (RvAll.set n r b)
theorem RvAll.ints : ∀ (ns : List Int), RvAll K H (ns.map V.int) (ns.map PyData.int)
  | [] => .nil
  | n :: r => .cons (.int n) (RvAll.ints r)
theorem RvAll.bls : ∀ {vs : List V} (bs : List Bool), RvAll K H vs (bs.map PyData.bool) → vs = bs.map V.bl
  | _, [], .nil => rfl
  | _, b :: bs, .cons (.bl _) r => by rw [RvAll.bls bs r]; rfl
theorem RvAll.intsV : ∀ {vs : List V} (ns : List Int), RvAll K H vs (ns.map PyData.int) → vs = ns.map V.int
  | _, [], .nil => rfl
  | _, b :: bs, .cons (.int _) r => by rw [RvAll.intsV bs r]; rfl
theorem Rv.tuple_inv {v : V} {ds : List PyData} (h : Rv K H v (.tuple ds)) : ∃ a vs, v = .ref a ∧ SqT K H a vs ∧ RvAll K H vs ds := by
  cases h with
  | tup h r => exact ⟨_, _, rfl, h, r⟩
theorem Rv.list_inv {v : V} {ds : List PyData} (h : Rv K H v (.list ds)) : ∃ a vs, v = .ref a ∧ H a = some (.lst vs) ∧ RvAll K H vs ds := by
  cases h with
  | lst h r => exact ⟨_, _, rfl, h, r⟩
theorem Rv.int_inv {v : V} {i : Int} (h : Rv K H v (.int i)) : v = .int i := by cases h; rfl
theorem Rv.bool_inv {v : V} {i : Bool} (h : Rv K H v (.bool i)) : v = .bl i := by cases h; rfl
theorem Rv.str_inv {v : V} {i : Str} (h : Rv K H v (.str i)) : v = .str i := by cases h; rfl
theorem Rv.none_inv {v : V} (h : Rv K H v .none) : v = .non := by cases h; rfl
end

/-! ### names -/
inductive Sl where
  | dat (d : PyData)
  | own (o : Addr) (ds : List PyData)
  | scr (a : Addr) (ns : List Int)
  | no
structure Rep (K : PySem.W.Frag) (Fr : Hp) (ρ : List Sl) (σ : L2.St) (H0 H : Hp) : Prop where
  ex : Ex H0 H
  len : σ.length = ρ.length
  dat : ∀ (i : Nat) (d : PyData), ρ[i]? = some (Sl.dat d) → ∃ v, σ[i]? = some (some v) ∧ Rv K H0 v d
  own : ∀ (i : Nat) (o : Addr) (ds : List PyData), ρ[i]? = some (Sl.own o ds) → σ[i]? = some (some (V.ref o)) ∧ H0 o = none ∧ Fr o = none ∧ ∃ vs, H o = some (.lst vs) ∧ RvAll K H0 vs ds
  scr : ∀ (i : Nat) (a : Addr) (ns : List Int), ρ[i]? = some (Sl.scr a ns) → σ[i]? = some (some (V.ref a)) ∧ SqL K H0 a (ns.map V.int)
  sep : ∀ (i j : Nat) (o : Addr) (ds es : List PyData), ρ[i]? = some (Sl.own o ds) → ρ[j]? = some (Sl.own o es) → i = j
  fr : ∀ b x, Fr b = some x → H b = some x ∧ H0 b = none
/-- the rest of the heap is kept -/
def Keeps (H0 H H0' H' : Hp) : Prop := ∀ b x, H b = some x → H0 b = none → H' b = some x ∧ H0' b = none
section
variable {K : PySem.W.Frag} {Fr H0 H H0' H' : Hp} {ρ : List Sl} {σ : L2.St}
theorem Rep.grow (r : Rep K Fr ρ σ H0 H) (e : Ex H0 H0') (e2 : Ex H0' H') (k : Keeps H0 H H0' H') : Rep K Fr ρ σ H0' H' where
  ex := e2
  len := r.len
  dat := fun i d h => let ⟨v, h1, h2⟩ := r.dat i d h; ⟨v, h1, h2.mono e⟩
  own := fun i o ds h => by
    obtain ⟨h1, h2, h3, vs, h4, h5⟩ := r.own i o ds h
    obtain ⟨k1, k2⟩ := k o _ h4 h2
    exact ⟨h1, k2, h3, vs, k1, h5.mono e⟩
  scr := fun i a ns h => let ⟨h1, h2⟩ := r.scr i a ns h; ⟨h1, ex_l e h2⟩
  sep := r.sep
  fr := fun b x h => by
    obtain ⟨h1, h2⟩ := r.fr b x h
    exact k b x h1 h2
/-- a new tuple, or what is held as data -/
theorem Keeps.new {p : Addr} {o : HO} (h : H p = none) : Keeps H0 H (upd H0 p o) (upd H p o) := fun b x e n => by
  have : b ≠ p := ne_of_none e h
  rw [upd_ne this, upd_ne this]
  exact ⟨e, n⟩
theorem Rep.new (r : Rep K Fr ρ σ H0 H) {p : Addr} {o : HO} (h : H p = none) : Rep K Fr ρ σ (upd H0 p o) (upd H p o) :=
  r.grow (Ex.new (r.ex.back h)) (fun a u e => by
    by_cases z : a = p
    · rw [z, upd_same] at e; rw [z, upd_same]; exact e
    · rw [upd_ne z] at e; rw [upd_ne z]; exact r.ex a u e) (Keeps.new h)
theorem Rep.set (r : Rep K Fr ρ σ H0 H) {v : V} {d : PyData} (i : Nat) (h : Rv K H0 v d) : Rep K Fr (ρ.set i (.dat d)) (σ.set i (some v)) H0 H where
  ex := r.ex
  len := by rw [List.length_set, List.length_set]; exact r.len
  dat := fun j e hj => by
    by_cases z : i = j
    · subst z
      by_cases l : i < ρ.length
      · rw [List.getElem?_set_self l] at hj
        cases hj
        exact ⟨v, List.getElem?_set_self (by rw [r.len]; exact l), h⟩
      · rw [List.getElem?_eq_none (by simpa using l)] at hj; cases hj
    · rw [List.getElem?_set_ne z] at hj
      obtain ⟨w, h1, h2⟩ := r.dat j e hj
      exact ⟨w, by rw [List.getElem?_set_ne z]; exact h1, h2⟩
  own := fun j o ds hj => by
    by_cases z : i = j
    · subst z
      by_cases l : i < ρ.length
      · rw [List.getElem?_set_self l] at hj; cases hj
      · rw [List.getElem?_eq_none (by simpa using l)] at hj; cases hj
    · rw [List.getElem?_set_ne z] at hj
      rw [List.getElem?_set_ne z]
      exact r.own j o ds hj
  scr := fun j a ns hj => by
    by_cases z : i = j
    · subst z
      by_cases l : i < ρ.length
      · rw [List.getElem?_set_self l] at hj; cases hj
      · rw [List.getElem?_eq_none (by simpa using l)] at hj; cases hj
    · rw [List.getElem?_set_ne z] at hj
      rw [List.getElem?_set_ne z]
      exact r.scr j a ns hj
  sep := fun j k o ds es hj hk => by
    have f : ∀ (j : Nat) (ds : List PyData), (ρ.set i (Sl.dat d))[j]? = some (Sl.own o ds) → ρ[j]? = some (Sl.own o ds) := fun j ds hj => by
      by_cases z : i = j
      · subst z
        by_cases l : i < ρ.length
        · rw [List.getElem?_set_self l] at hj; cases hj
        · rw [List.getElem?_eq_none (by simpa using l)] at hj; cases hj
      · rw [List.getElem?_set_ne z] at hj
        exact hj
    exact r.sep j k o ds es (f j ds hj) (f k es hk)
  fr := r.fr
/-- a list of one's own at a name -/
theorem Rep.setOwn (r : Rep K Fr ρ σ H0 H) {p : Addr} {vs : List V} {ds : List PyData} (i : Nat) (h0 : H0 p = none) (hf : Fr p = none) (h : H p = some (.lst vs)) (hd : RvAll K H0 vs ds) (hn : ∀ (j : Nat) (o : Addr) (es : List PyData), ρ[j]? = some (Sl.own o es) → o ≠ p) :
    Rep K Fr (ρ.set i (.own p ds)) (σ.set i (some (.ref p))) H0 H where
  ex := r.ex
  len := by rw [List.length_set, List.length_set]; exact r.len
  dat := fun j e hj => by
    by_cases z : i = j
    · subst z
      by_cases l : i < ρ.length
      · rw [List.getElem?_set_self l] at hj; cases hj
      · rw [List.getElem?_eq_none (by simpa using l)] at hj; cases hj
    · rw [List.getElem?_set_ne z] at hj
      rw [List.getElem?_set_ne z]
      exact r.dat j e hj
  own := fun j o es hj => by
    by_cases z : i = j
    · subst z
      by_cases l : i < ρ.length
      · rw [List.getElem?_set_self l] at hj
        cases hj
        exact ⟨List.getElem?_set_self (by rw [r.len]; exact l), h0, hf, vs, h, hd⟩
      · rw [List.getElem?_eq_none (by simpa using l)] at hj; cases hj
    · rw [List.getElem?_set_ne z] at hj
      rw [List.getElem?_set_ne z]
      exact r.own j o es hj
  scr := fun j a ns hj => by
    by_cases z : i = j
    · subst z
      by_cases l : i < ρ.length
      · rw [List.getElem?_set_self l] at hj; cases hj
      · rw [List.getElem?_eq_none (by simpa using l)] at hj; cases hj
    · rw [List.getElem?_set_ne z] at hj
      rw [List.getElem?_set_ne z]
      exact r.scr j a ns hj
  sep := fun j k o es fs hj hk => by
    have f : ∀ (j : Nat) (es : List PyData), (ρ.set i (Sl.own p ds))[j]? = some (Sl.own o es) → (j = i ∧ o = p) ∨ (j ≠ i ∧ ρ[j]? = some (Sl.own o es)) := fun j es hj => by
      by_cases z : i = j
      · subst z
        by_cases l : i < ρ.length
        · rw [List.getElem?_set_self l] at hj; cases hj; exact .inl ⟨rfl, rfl⟩
        · rw [List.getElem?_eq_none (by simpa using l)] at hj; cases hj
      · rw [List.getElem?_set_ne z] at hj
        exact .inr ⟨fun e => z e.symm, hj⟩
    rcases f j es hj with ⟨a1, a2⟩ | ⟨a1, a2⟩
    · rcases f k fs hk with ⟨b1, b2⟩ | ⟨b1, b2⟩
      · rw [a1, b1]
      · exact absurd a2 (hn k o fs b2)
    · rcases f k fs hk with ⟨b1, b2⟩ | ⟨b1, b2⟩
      · exact absurd b2 (hn j o es a2)
      · exact r.sep j k o es fs a2 b2
  fr := r.fr
/-- the list of one's own at a name is another one -/
theorem Rep.change (r : Rep K Fr ρ σ H0 H) {i : Nat} {p : Addr} {vs : List V} {ds es : List PyData} (hi : ρ[i]? = some (Sl.own p ds)) (hd : RvAll K H0 vs es) :
    Rep K Fr (ρ.set i (.own p es)) σ H0 (upd H p (.lst vs)) := by
  obtain ⟨h1, h2, h3, ws, h4, h5⟩ := r.own i p ds hi
  have li : i < ρ.length := (List.getElem?_eq_some_iff.mp hi).1
  have other : ∀ (j : Nat) (o : Addr) (fs : List PyData), i ≠ j → ρ[j]? = some (Sl.own o fs) → o ≠ p := fun j o fs z hj e => by
    subst e
    exact z (r.sep i j o ds fs hi hj)
  refine ⟨fun a u e => ?_, by rw [List.length_set]; exact r.len, fun j e hj => ?_, fun j o fs hj => ?_, fun j a ns hj => ?_, fun j k o fs gs hj hk => ?_, fun b x hb => ?_⟩
  · rw [upd_ne (ne_of_none e h2)]; exact r.ex a u e
  · by_cases z : i = j
    · subst z; rw [List.getElem?_set_self li] at hj; cases hj
    · rw [List.getElem?_set_ne z] at hj; exact r.dat j e hj
  · by_cases z : i = j
    · subst z
      rw [List.getElem?_set_self li] at hj
      cases hj
      exact ⟨h1, h2, h3, vs, upd_same, hd⟩
    · rw [List.getElem?_set_ne z] at hj
      obtain ⟨k1, k2, k3, us, k4, k5⟩ := r.own j o fs hj
      exact ⟨k1, k2, k3, us, by rw [upd_ne (other j o fs z hj)]; exact k4, k5⟩
  · by_cases z : i = j
    · subst z; rw [List.getElem?_set_self li] at hj; cases hj
    · rw [List.getElem?_set_ne z] at hj; exact r.scr j a ns hj
  · have f : ∀ (j : Nat) (es' : List PyData), (ρ.set i (Sl.own p es))[j]? = some (Sl.own o es') → ∃ es'', ρ[j]? = some (Sl.own o es'') := fun j es' hj => by
      by_cases z : i = j
      · subst z
        rw [List.getElem?_set_self li] at hj
        cases hj
        exact ⟨_, hi⟩
      · rw [List.getElem?_set_ne z] at hj
        exact ⟨_, hj⟩
    obtain ⟨_, a⟩ := f j fs hj
    obtain ⟨_, b⟩ := f k gs hk
    exact r.sep j k o _ _ a b
  · obtain ⟨k1, k2⟩ := r.fr b x hb
    exact ⟨by rw [upd_ne (ne_of_none hb h3)]; exact k1, k2⟩
/-- the list of one's own at a name is held as data from now on -/
theorem Rep.freeze (r : Rep K Fr ρ σ H0 H) {i : Nat} {p : Addr} {ds : List PyData} (hi : ρ[i]? = some (Sl.own p ds)) :
    ∃ H0', Ex H0 H0' ∧ Rep K Fr (ρ.set i (.dat (.list ds))) σ H0' H := by
  obtain ⟨h1, h2, h3, ws, h4, h5⟩ := r.own i p ds hi
  have li : i < ρ.length := (List.getElem?_eq_some_iff.mp hi).1
  have other : ∀ (j : Nat) (o : Addr) (fs : List PyData), i ≠ j → ρ[j]? = some (Sl.own o fs) → o ≠ p := fun j o fs z hj e => by
    subst e
    exact z (r.sep i j o ds fs hi hj)
  have e0 : Ex H0 (upd H0 p (.lst ws)) := Ex.new h2
  refine ⟨upd H0 p (.lst ws), e0, fun a u e => ?_, by rw [List.length_set]; exact r.len, fun j e hj => ?_, fun j o fs hj => ?_, fun j a ns hj => ?_, fun j k o fs gs hj hk => ?_, fun b x hb => ?_⟩
  · by_cases z : a = p
    · rw [z, upd_same] at e; rw [z, h4]; exact e
    · rw [upd_ne z] at e; exact r.ex a u e
  · by_cases z : i = j
    · subst z
      rw [List.getElem?_set_self li] at hj
      cases hj
      exact ⟨.ref p, h1, .lst upd_same (h5.mono e0)⟩
    · rw [List.getElem?_set_ne z] at hj
      obtain ⟨v, k1, k2⟩ := r.dat j e hj
      exact ⟨v, k1, k2.mono e0⟩
  · by_cases z : i = j
    · subst z; rw [List.getElem?_set_self li] at hj; cases hj
    · rw [List.getElem?_set_ne z] at hj
      obtain ⟨k1, k2, k3, us, k4, k5⟩ := r.own j o fs hj
      exact ⟨k1, by rw [upd_ne (other j o fs z hj)]; exact k2, k3, us, k4, k5.mono e0⟩
  · by_cases z : i = j
    · subst z; rw [List.getElem?_set_self li] at hj; cases hj
    · rw [List.getElem?_set_ne z] at hj
      obtain ⟨k1, k2⟩ := r.scr j a ns hj
      exact ⟨k1, ex_l e0 k2⟩
  · have f : ∀ (j : Nat) (es' : List PyData), (ρ.set i (Sl.dat (.list ds)))[j]? = some (Sl.own o es') → ρ[j]? = some (Sl.own o es') := fun j es' hj => by
      by_cases z : i = j
      · subst z
        rw [List.getElem?_set_self li] at hj; cases hj
      · rw [List.getElem?_set_ne z] at hj
        exact hj
    exact r.sep j k o _ _ (f j fs hj) (f k gs hk)
  · obtain ⟨k1, k2⟩ := r.fr b x hb
    exact ⟨k1, by rw [upd_ne (ne_of_none hb h3)]; exact k2⟩
end
end Lg


set_option Elab.async false
set_option linter.all false
set_option maxRecDepth 100000
set_option maxHeartbeats 4000000
namespace Lg
open PySem PySem.Spec PyProof.Rows L2

/-! ### what a reading comes to -/
def WE (K : PySem.W.Frag) (te : TE) (ρ : List Sl) (Q : PyData → List Sl → Prop) : Prop :=
  ∀ (Fr : Hp) (σ : L2.St) (H0 H : Hp), Rep K Fr ρ σ H0 H → ∀ k : VK,
    (∀ (v : V) (d : PyData) (ρ' : List Sl) (H0' H' : Hp), Ex H0 H0' → Rep K Fr ρ' σ H0' H' → Rv K H0' v d → Q d ρ' → k v H') → te σ H k
/-- it comes to a new list -/
def WL (K : PySem.W.Frag) (te : TE) (ρ : List Sl) (Q : List PyData → List Sl → Prop) : Prop :=
  ∀ (Fr : Hp) (σ : L2.St) (H0 H : Hp), Rep K Fr ρ σ H0 H → ∀ k : VK,
    (∀ (p : Addr) (vs : List V) (ds : List PyData) (ρ' : List Sl) (H0' H' : Hp), Ex H0 H0' → Rep K Fr ρ' σ H0' H' → H0' p = none → Fr p = none → H' p = some (.lst vs) → RvAll K H0' vs ds →
      (∀ (j : Nat) (o : Addr) (es : List PyData), ρ'[j]? = some (Sl.own o es) → o ≠ p) → Q ds ρ' → k (.ref p) H') → te σ H k
def WA (K : PySem.W.Frag) (ta : TA) (ρ : List Sl) (Q : List PyData → List Sl → Prop) : Prop :=
  ∀ (Fr : Hp) (σ : L2.St) (H0 H : Hp), Rep K Fr ρ σ H0 H → ∀ k : List V → Hp → Prop,
    (∀ (vs : List V) (ds : List PyData) (ρ' : List Sl) (H0' H' : Hp), Ex H0 H0' → Rep K Fr ρ' σ H0' H' → RvAll K H0' vs ds → Q ds ρ' → k vs H') → ta σ H k
def WT (K : PySem.W.Frag) (tt : TT) (ρ : List Sl) (Q : Bool → List Sl → Prop) : Prop :=
  ∀ (Fr : Hp) (σ : L2.St) (H0 H : Hp), Rep K Fr ρ σ H0 H → ∀ k : Bool → Hp → Prop,
    (∀ (b : Bool) (ρ' : List Sl) (H0' H' : Hp), Ex H0 H0' → Rep K Fr ρ' σ H0' H' → Q b ρ' → k b H') → tt σ H k
def WS (K : PySem.W.Frag) (ts : TS) (ρ : List Sl) (N : List Sl → Prop) (R : PyData → List Sl → Prop) : Prop :=
  ∀ (Fr : Hp) (σ : L2.St) (H0 H : Hp), Rep K Fr ρ σ H0 H → ∀ D : Ends,
    (∀ (ρ' : List Sl) (σ' : L2.St) (H0' H' : Hp), Ex H0 H0' → Rep K Fr ρ' σ' H0' H' → N ρ' → D.nx σ' H') →
    (∀ (v : V) (d : PyData) (ρ' : List Sl) (σ' : L2.St) (H0' H' : Hp), Ex H0 H0' → Rep K Fr ρ' σ' H0' H' → Rv K H0' v d → R d ρ' → D.rt v H') → ts D σ H
/-- a target takes data -/
def WG (K : PySem.W.Frag) (g : TG) (d : PyData) (ρ : List Sl) (N : List Sl → Prop) : Prop :=
  ∀ (Fr : Hp) (σ : L2.St) (H0 H : Hp) (v : V), Rep K Fr ρ σ H0 H → Rv K H0 v d → ∀ k : L2.St → Hp → Prop,
    (∀ (ρ' : List Sl) (σ' : L2.St), Rep K Fr ρ' σ' H0 H → N ρ' → k σ' H) → g v σ H k
def WGs (K : PySem.W.Frag) (g : TGs) (ds : List PyData) (ρ : List Sl) (N : List Sl → Prop) : Prop :=
  ∀ (Fr : Hp) (σ : L2.St) (H0 H : Hp) (vs : List V), Rep K Fr ρ σ H0 H → RvAll K H0 vs ds → ∀ k : L2.St → Hp → Prop,
    (∀ (ρ' : List Sl) (σ' : L2.St), Rep K Fr ρ' σ' H0 H → N ρ' → k σ' H) → g vs σ H k

section
variable {K : PySem.W.Frag} {te ta tb tl : TE} {tr tas : TA} {tt tu : TT} {ρ : List Sl} {Q : PyData → List Sl → Prop} {QL : List PyData → List Sl → Prop} {QT : Bool → List Sl → Prop} {N : List Sl → Prop} {R : PyData → List Sl → Prop} {ts tz : TS}

theorem WE.imp {Q' : PyData → List Sl → Prop} (h : WE K te ρ Q) (i : ∀ d ρ', Q d ρ' → Q' d ρ') : WE K te ρ Q' := fun Fr σ H0 H r k q =>
  h Fr σ H0 H r k fun v d ρ' H0' H' e r' rv x => q v d ρ' H0' H' e r' rv (i d ρ' x)
theorem WL.we (h : WL K te ρ fun ds ρ' => Q (.list ds) ρ') : WE K te ρ Q := fun Fr σ H0 H r k q =>
  h Fr σ H0 H r k fun p vs ds ρ' H0' H' e r' hp hf hh hd ho x => by
    have e0 : Ex H0' (upd H0' p (.lst vs)) := Ex.new hp
    refine q (.ref p) (.list ds) ρ' (upd H0' p (.lst vs)) H' (e.trans e0) ?_ (.lst upd_same (hd.mono e0)) x
    refine ⟨fun a u z => ?_, r'.len, fun i d h => ?_, fun i o es h => ?_, fun i a ns h => ?_, r'.sep, fun b y h => ?_⟩
    · by_cases w : a = p
      · rw [w, upd_same] at z; rw [w, hh]; exact z
      · rw [upd_ne w] at z; exact r'.ex a u z
    · obtain ⟨v, h1, h2⟩ := r'.dat i d h; exact ⟨v, h1, h2.mono e0⟩
    · obtain ⟨h1, h2, h3, us, h4, h5⟩ := r'.own i o es h
      exact ⟨h1, by rw [upd_ne (ho i o es h)]; exact h2, h3, us, h4, h5.mono e0⟩
    · obtain ⟨h1, h2⟩ := r'.scr i a ns h; exact ⟨h1, ex_l e0 h2⟩
    · obtain ⟨h1, h2⟩ := r'.fr b y h
      exact ⟨h1, by rw [upd_ne (ne_of_none h hf)]; exact h2⟩

/-! ### expressions -/
theorem we_var {i : Nat} {d : PyData} (h : ρ[i]? = some (Sl.dat d)) (q : Q d ρ) : WE K (tVar i) ρ Q := fun Fr σ H0 H r k f => by
  obtain ⟨v, h1, h2⟩ := r.dat i d h
  exact ⟨v, h1, f v d ρ H0 H (Ex.refl H0) r h2 q⟩
theorem we_c {v : V} {d : PyData} (h : ∀ H, Rv K H v d) (q : Q d ρ) : WE K (tC v) ρ Q := fun Fr σ H0 H r k f => f v d ρ H0 H (Ex.refl H0) r (h H0) q
theorem we_int {n : Int} (q : Q (.int n) ρ) : WE K (tC (.int n)) ρ Q := we_c (fun _ => .int n) q
theorem we_str {n : Str} (q : Q (.str n) ρ) : WE K (tC (.str n)) ρ Q := we_c (fun _ => .str n) q
theorem we_bl {n : Bool} (q : Q (.bool n) ρ) : WE K (tC (.bl n)) ρ Q := we_c (fun _ => .bl n) q
theorem we_non (q : Q .none ρ) : WE K (tC .non) ρ Q := we_c (fun _ => .non) q
theorem wa_nil (q : QL [] ρ) : WA K tNil ρ QL := fun Fr σ H0 H r k f => f [] [] ρ H0 H (Ex.refl H0) r .nil q
theorem wa_cons (h : WE K te ρ fun d ρ1 => WA K tr ρ1 fun ds ρ2 => QL (d :: ds) ρ2) : WA K (tCons te tr) ρ QL := fun Fr σ H0 H r k f =>
  h Fr σ H0 H r _ fun v d ρ1 H1 H' e r1 rv q => q Fr σ H1 H' r1 _ fun vs ds ρ2 H2 H'' e2 r2 rvs q2 =>
    f (v :: vs) (d :: ds) ρ2 H2 H'' (e.trans e2) r2 (.cons (rv.mono e2) rvs) q2
theorem small {n : Nat} (h : n ≤ 1000000) : n ≤ sizeLine := Nat.le_trans h (by decide)
theorem we_tup (h : WA K tas ρ fun ds ρ' => ds.length ≤ 1000000 ∧ Q (.tuple ds) ρ') : WE K (tTup tas) ρ Q := fun Fr σ H0 H r k f =>
  h Fr σ H0 H r _ fun vs ds ρ' H1 H' e r1 rvs q => ⟨small (by rw [rvs.length]; exact q.1), fun p hp =>
    f (.ref p) (.tuple ds) ρ' _ _ (e.trans (Ex.new (r1.ex.back hp))) (r1.new hp) (.tup (SqT.of upd_same) (rvs.mono (Ex.new (r1.ex.back hp)))) q.2⟩
/-- a list that was just laid -/
theorem laid {Fr : Hp} {σ : L2.St} {H0 H : Hp} (r : Rep K Fr ρ σ H0 H) {p : Addr} (hp : H p = none) (vs : List V) :
    Rep K Fr ρ σ H0 (upd H p (.lst vs)) ∧ H0 p = none ∧ Fr p = none ∧ ∀ (j : Nat) (o : Addr) (es : List PyData), ρ[j]? = some (Sl.own o es) → o ≠ p := by
  have h0 := r.ex.back hp
  have hf : Fr p = none := by
    cases z : Fr p with
    | none => rfl
    | some x => rw [(r.fr p x z).1] at hp; cases hp
  refine ⟨r.grow (Ex.refl H0) (r.ex.mut h0) fun b x e n => ?_, h0, hf, fun j o es h z => ?_⟩
  · exact ⟨by rw [upd_ne (ne_of_none e hp)]; exact e, n⟩
  · obtain ⟨_, _, _, us, h4, _⟩ := r.own j o es h
    rw [z, hp] at h4; cases h4
theorem wl_lst (h : WA K tas ρ fun ds ρ' => ds.length ≤ 1000000 ∧ QL ds ρ') : WL K (tLst tas) ρ QL := fun Fr σ H0 H r k f =>
  h Fr σ H0 H r _ fun vs ds ρ' H1 H' e r1 rvs q => ⟨small (by rw [rvs.length]; exact q.1), fun p hp => by
    obtain ⟨r2, h0, hf, ho⟩ := laid r1 hp vs
    exact f p vs ds ρ' H1 _ e r2 h0 hf upd_same rvs ho q.2⟩
/-- an operation that leaves the heap -/
def RD (K : PySem.W.Frag) (r : R2) (d e : PyData) (P : PyData → Prop) : Prop :=
  ∀ (H0 H : Hp) (x y : V), Ex H0 H → Rv K H0 x d → Rv K H0 y e → ∀ k : VK, (∀ z a, Rv K H0 z a → P a → k z H) → r x y H k
theorem we_op {r : R2} (h : WE K ta ρ fun d ρ1 => WE K tb ρ1 fun e ρ2 => RD K r d e fun z => Q z ρ2) : WE K (tOp r ta tb) ρ Q := fun Fr σ H0 H rp k f =>
  h Fr σ H0 H rp _ fun v d ρ1 H1 H' e r1 rv q => q Fr σ H1 H' r1 _ fun w d2 ρ2 H2 H'' e2 r2 rw q2 =>
    q2 H2 H'' v w r2.ex (rv.mono e2) rw _ fun z a hz pz => f z a ρ2 H2 H'' (e.trans e2) r2 hz pz
theorem rd_i0 {f : Int → Int → Int} {i j : Int} {P : PyData → Prop} (q : P (.int (f i j))) : RD K (rI0 fun i j => .int (f i j)) (.int i) (.int j) P := fun H0 H x y e hx hy k g => by
  rw [hx.int_inv, hy.int_inv]
  exact ⟨i, j, rfl, rfl, g _ _ (.int _) q⟩
theorem rd_b0 {f : Int → Int → Bool} {i j : Int} {P : PyData → Prop} (q : P (.bool (f i j))) : RD K (rI0 fun i j => .bl (f i j)) (.int i) (.int j) P := fun H0 H x y e hx hy k g => by
  rw [hx.int_inv, hy.int_inv]
  exact ⟨i, j, rfl, rfl, g _ _ (.bl _) q⟩
theorem rd_i {C : Int → Int → Prop} {f : Int → Int → Int} {i j : Int} {P : PyData → Prop} (c : C i j) (q : P (.int (f i j))) : RD K (rI C fun i j => .int (f i j)) (.int i) (.int j) P := fun H0 H x y e hx hy k g => by
  rw [hx.int_inv, hy.int_inv]
  exact ⟨i, j, rfl, rfl, c, g _ _ (.int _) q⟩
theorem rd_eqI {i j : Int} {P : PyData → Prop} (q : P (.bool (decide (i = j)))) : RD K rEq (.int i) (.int j) P := fun H0 H x y e hx hy k g => by
  rw [hx.int_inv, hy.int_inv]
  refine ⟨rfl, ?_⟩
  have : decide (V.int i = V.int j) = decide (i = j) := decide_eq_decide.mpr ⟨fun h => V.int.inj h, fun h => by rw [h]⟩
  rw [this]
  exact g _ _ (.bl _) q
theorem rd_neI {i j : Int} {P : PyData → Prop} (q : P (.bool (!decide (i = j)))) : RD K rNe (.int i) (.int j) P := fun H0 H x y e hx hy k g => by
  rw [hx.int_inv, hy.int_inv]
  refine ⟨rfl, ?_⟩
  have : decide (V.int i = V.int j) = decide (i = j) := decide_eq_decide.mpr ⟨fun h => V.int.inj h, fun h => by rw [h]⟩
  rw [this]
  exact g _ _ (.bl _) q
theorem rd_eqS {i j : Str} {P : PyData → Prop} (q : P (.bool (decide (i = j)))) : RD K rEq (.str i) (.str j) P := fun H0 H x y e hx hy k g => by
  rw [hx.str_inv, hy.str_inv]
  refine ⟨rfl, ?_⟩
  have : decide (V.str i = V.str j) = decide (i = j) := decide_eq_decide.mpr ⟨fun h => V.str.inj h, fun h => by rw [h]⟩
  rw [this]
  exact g _ _ (.bl _) q
theorem rd_neS {i j : Str} {P : PyData → Prop} (q : P (.bool (!decide (i = j)))) : RD K rNe (.str i) (.str j) P := fun H0 H x y e hx hy k g => by
  rw [hx.str_inv, hy.str_inv]
  refine ⟨rfl, ?_⟩
  have : decide (V.str i = V.str j) = decide (i = j) := decide_eq_decide.mpr ⟨fun h => V.str.inj h, fun h => by rw [h]⟩
  rw [this]
  exact g _ _ (.bl _) q
theorem rd_eqB {i j : Bool} {P : PyData → Prop} (q : P (.bool (decide (i = j)))) : RD K rEq (.bool i) (.bool j) P := fun H0 H x y e hx hy k g => by
  rw [hx.bool_inv, hy.bool_inv]
  refine ⟨rfl, ?_⟩
  have : decide (V.bl i = V.bl j) = decide (i = j) := decide_eq_decide.mpr ⟨fun h => V.bl.inj h, fun h => by rw [h]⟩
  rw [this]
  exact g _ _ (.bl _) q
theorem rd_neB {i j : Bool} {P : PyData → Prop} (q : P (.bool (!decide (i = j)))) : RD K rNe (.bool i) (.bool j) P := fun H0 H x y e hx hy k g => by
  rw [hx.bool_inv, hy.bool_inv]
  refine ⟨rfl, ?_⟩
  have : decide (V.bl i = V.bl j) = decide (i = j) := decide_eq_decide.mpr ⟨fun h => V.bl.inj h, fun h => by rw [h]⟩
  rw [this]
  exact g _ _ (.bl _) q
theorem rd_eqD {d e : PyData} {P : PyData → Prop} (h1 : SeqAt.shaped d = true) (h2 : SeqAt.shaped e = true) (q : P (.bool (PyData.eqv d e))) : RD K (rEqD K) d e P := fun H0 H x y ex hx hy k g =>
  ⟨d, e, (hx.mono ex).dp, (hy.mono ex).dp, h1, h2, g _ _ (.bl _) q⟩
theorem rd_neD {d e : PyData} {P : PyData → Prop} (h1 : SeqAt.shaped d = true) (h2 : SeqAt.shaped e = true) (q : P (.bool (!PyData.eqv d e))) : RD K (rNeD K) d e P := fun H0 H x y ex hx hy k g =>
  ⟨d, e, (hx.mono ex).dp, (hy.mono ex).dp, h1, h2, g _ _ (.bl _) q⟩
theorem rd_notInD {d : PyData} {ds : List PyData} {P : PyData → Prop} (h1 : SeqAt.shaped d = true) (h2 : SeqAt.shaped (.list ds) = true) (q : P (.bool (!ds.any fun z => PyData.eqv z d))) : RD K (rNotInD K) d (.list ds) P := fun H0 H x y ex hx hy k g =>
  ⟨d, ds, (hx.mono ex).dp, (hy.mono ex).dp, h1, h2, g _ _ (.bl _) q⟩
theorem rd_isN {d : PyData} {P : PyData → Prop} {b : Bool} (hb : (match d with | .none => true | _ => false) = b) (q : P (.bool b)) : RD K (fun x y H Q => y = .non ∧ Q (.bl (decide (x = .non))) H) d .none P := fun H0 H x y ex hx hy k g => by
  subst hb
  refine ⟨hy.none_inv, ?_⟩
  cases hx <;> exact g _ _ (.bl _) q
theorem rd_notN {d : PyData} {P : PyData → Prop} {b : Bool} (hb : (match d with | .none => false | _ => true) = b) (q : P (.bool b)) : RD K (fun x y H Q => y = .non ∧ Q (.bl (!decide (x = .non))) H) d .none P := fun H0 H x y ex hx hy k g => by
  subst hb
  refine ⟨hy.none_inv, ?_⟩
  cases hx <;> exact g _ _ (.bl _) q
theorem atI_rv {H : Hp} {vs : List V} {ds : List PyData} {i : Int} {d : PyData} (r : RvAll K H vs ds) (h : atI ds i = some d) : ∃ v, atI vs i = some v ∧ Rv K H v d := by
  unfold atI at *
  rw [r.length]
  cases z : ixN ds.length i with
  | none => rw [z] at h; cases h
  | some j =>
    rw [z] at h
    exact r.get h
theorem rd_ixT {ds : List PyData} {i : Int} {d : PyData} {P : PyData → Prop} (h : atI ds i = some d) (q : P d) : RD K (rIxT K) (.tuple ds) (.int i) P := fun H0 H x y ex hx hy k g => by
  obtain ⟨a, vs, rfl, h1, h2⟩ := hx.tuple_inv
  rw [hy.int_inv]
  obtain ⟨v, e1, e2⟩ := atI_rv h2 h
  exact ⟨a, vs, i, v, rfl, rfl, ex_t ex h1, e1, g v d e2 q⟩
theorem rd_ixL {ds : List PyData} {i : Int} {d : PyData} {P : PyData → Prop} (h : atI ds i = some d) (q : P d) : RD K (rIxL K) (.list ds) (.int i) P := fun H0 H x y ex hx hy k g => by
  obtain ⟨a, vs, rfl, h1, h2⟩ := hx.list_inv
  rw [hy.int_inv]
  obtain ⟨v, e1, e2⟩ := atI_rv h2 h
  exact ⟨a, vs, i, v, rfl, rfl, SqL.of (ex _ _ h1), e1, g v d e2 q⟩
/-- an operation on one -/
theorem we_un {f : Int → Int} (h : WE K ta ρ fun d ρ1 => ∃ i, d = .int i ∧ Q (.int (f i)) ρ1) : WE K (tUn (rU fun i => .int (f i)) ta) ρ Q := fun Fr σ H0 H rp k g =>
  h Fr σ H0 H rp _ fun v d ρ1 H1 H' e r1 rv ⟨i, hi, q⟩ => by
    subst hi
    exact ⟨i, rv.int_inv, g _ _ ρ1 H1 H' e r1 (.int _) q⟩
/-- a list of one's own, asked by its name -/
theorem we_ixO {i : Nat} {o : Addr} {ds0 : List PyData} (hi : ρ[i]? = some (Sl.own o ds0)) (h : WE K tb ρ fun e ρ' => ∃ n ds d, e = .int n ∧ ρ'[i]? = some (Sl.own o ds) ∧ atI ds n = some d ∧ Q d ρ') : WE K (tOp (rIxL K) (tVar i) tb) ρ Q := fun Fr σ H0 H rp k g => by
  obtain ⟨h1, _⟩ := rp.own i o ds0 hi
  refine ⟨.ref o, h1, h Fr σ H0 H rp _ fun v d ρ1 H1 H' e r1 rv q => ?_⟩
  obtain ⟨n, ds, d', rfl, hj, ha, q⟩ := q
  obtain ⟨_, _, _, vs, k4, k5⟩ := r1.own i o ds hj
  obtain ⟨w, e1, e2⟩ := atI_rv k5 ha
  exact ⟨o, vs, n, w, rfl, rv.int_inv, SqL.of k4, e1, g w d' ρ1 H1 H' e r1 e2 q⟩
theorem we_ixS {i : Nat} {o : Addr} {ns : List Int} (hi : ρ[i]? = some (Sl.scr o ns)) (h : WE K tb ρ fun e ρ' => ∃ n d, e = .int n ∧ atI ns n = some d ∧ Q (.int d) ρ') : WE K (tOp (rIxL K) (tVar i) tb) ρ Q := fun Fr σ H0 H rp k g => by
  obtain ⟨h1, h2⟩ := rp.scr i o ns hi
  refine ⟨.ref o, h1, h Fr σ H0 H rp _ fun v d ρ1 H1 H' e r1 rv q => ?_⟩
  obtain ⟨n, d', rfl, ha, q⟩ := q
  have e1 : atI (ns.map V.int) n = some (.int d') := by
    unfold atI at *
    rw [List.length_map]
    cases z : ixN ns.length n with
    | none => rw [z] at ha; cases ha
    | some j =>
      rw [z] at ha
      have ha : ns[j]? = some d' := ha
      show (ns.map V.int)[j]? = _
      rw [List.getElem?_map, ha]; rfl
  exact ⟨o, _, n, _, rfl, rv.int_inv, ex_l (e.trans r1.ex) h2, e1, g _ _ ρ1 H1 H' e r1 (.int _) q⟩
theorem we_notInO {i : Nat} (h : WE K ta ρ fun d ρ' => ∃ o ds, ρ'[i]? = some (Sl.own o ds) ∧ SeqAt.shaped d = true ∧ SeqAt.shaped (.list ds) = true ∧ Q (.bool (!ds.any fun z => PyData.eqv z d)) ρ') : WE K (tOp (rNotInD K) ta (tVar i)) ρ Q := fun Fr σ H0 H rp k g =>
  h Fr σ H0 H rp _ fun v d ρ1 H1 H' e r1 rv q => by
    obtain ⟨o, ds, hj, s1, s2, q⟩ := q
    obtain ⟨k1, _, _, vs, k4, k5⟩ := r1.own i o ds hj
    exact ⟨.ref o, k1, d, ds, (rv.mono r1.ex).dp, .lst (SqL.of k4) (k5.mono r1.ex).dp, s1, s2, g _ _ ρ1 H1 H' e r1 (.bl _) q⟩
/-- + of lists: both new, or one's own and a new one -/
theorem wl_cat (h : WL K ta ρ fun ds ρ1 => WL K tb ρ1 fun es ρ2 => ds.length + es.length ≤ 1000000 ∧ QL (ds ++ es) ρ2) : WL K (tOp rCat ta tb) ρ QL := fun Fr σ H0 H rp k g =>
  h Fr σ H0 H rp _ fun p vs ds ρ1 H1 H' e r1 hp hf hh hd ho q => by
    -- the first list stays as part of the frame
    have r1' : Rep K (upd Fr p (.lst vs)) ρ1 σ H1 H' := ⟨r1.ex, r1.len, r1.dat, fun i o es h => by
      obtain ⟨k1, k2, k3, k4⟩ := r1.own i o es h
      exact ⟨k1, k2, by rw [upd_ne (ho i o es h)]; exact k3, k4⟩, r1.scr, r1.sep, fun b x h => by
      by_cases z : b = p
      · rw [z, upd_same] at h; rw [z]; cases h; exact ⟨hh, hp⟩
      · rw [upd_ne z] at h; exact r1.fr b x h⟩
    refine q _ σ H1 H' r1' _ fun p2 ws es ρ2 H2 H'' e2 r2 hp2 hf2 hh2 hd2 ho2 q2 => ?_
    obtain ⟨f1, f2⟩ := r2.fr p _ upd_same
    have l1 := hd.length
    have l2 := hd2.length
    refine ⟨p, p2, vs, ws, rfl, rfl, f1, hh2, small (by rw [l1, l2]; exact q2.1), fun p3 hp3 => ?_⟩
    have r3 : Rep K Fr ρ2 σ H2 H'' := ⟨r2.ex, r2.len, r2.dat, fun i o es h => by
      obtain ⟨k1, k2, k3, k4⟩ := r2.own i o es h
      have : o ≠ p := fun z => by rw [z, upd_same] at k3; cases k3
      exact ⟨k1, k2, by rw [upd_ne this] at k3; exact k3, k4⟩, r2.scr, r2.sep, fun b x h => by
      by_cases z : b = p
      · rw [z, hf] at h; cases h
      · exact r2.fr b x (by rw [upd_ne z]; exact h)⟩
    obtain ⟨r4, h0, hf4, ho4⟩ := laid r3 hp3 (vs ++ ws)
    exact g p3 (vs ++ ws) (ds ++ es) ρ2 H2 _ (e.trans e2) r4 h0 hf4 upd_same ((hd.mono e2).append hd2) ho4 q2.2
theorem wl_catO {i : Nat} {o : Addr} {ds : List PyData} (hi : ρ[i]? = some (Sl.own o ds)) (h : WL K tb ρ fun es ρ2 => ∃ ds', ρ2[i]? = some (Sl.own o ds') ∧ ds'.length + es.length ≤ 1000000 ∧ QL (ds' ++ es) ρ2) : WL K (tOp rCat (tVar i) tb) ρ QL := fun Fr σ H0 H rp k g => by
  obtain ⟨h1, _⟩ := rp.own i o ds hi
  refine ⟨.ref o, h1, h Fr σ H0 H rp _ fun p2 ws es ρ2 H2 H'' e2 r2 hp2 hf2 hh2 hd2 ho2 q2 => ?_⟩
  obtain ⟨ds', hj, len, q⟩ := q2
  obtain ⟨_, _, _, vs, k4, k5⟩ := r2.own i o ds' hj
  have l1 := k5.length
  have l2 := hd2.length
  refine ⟨o, p2, vs, ws, rfl, rfl, k4, hh2, small (by rw [l1, l2]; exact len), fun p3 hp3 => ?_⟩
  obtain ⟨r4, h0, hf4, ho4⟩ := laid r2 hp3 (vs ++ ws)
  exact g p3 (vs ++ ws) (ds' ++ es) ρ2 H2 _ e2 r4 h0 hf4 upd_same (k5.append hd2) ho4 q
/-- + of lists that are data -/
theorem wl_catD (h : WE K ta ρ fun d ρ1 => WE K tb ρ1 fun e ρ2 => ∃ ds es, d = .list ds ∧ e = .list es ∧ ds.length + es.length ≤ 1000000 ∧ QL (ds ++ es) ρ2) : WL K (tOp rCat ta tb) ρ QL := fun Fr σ H0 H rp k g =>
  h Fr σ H0 H rp _ fun v d ρ1 H1 H' e r1 rv q => q Fr σ H1 H' r1 _ fun w d2 ρ2 H2 H'' e2 r2 rw q2 => by
    obtain ⟨ds, es, rfl, rfl, len, q⟩ := q2
    obtain ⟨a, vs, rfl, h1, h2⟩ := (rv.mono e2).list_inv
    obtain ⟨b, ws, rfl, h3, h4⟩ := rw.list_inv
    have l1 := h2.length
    have l2 := h4.length
    refine ⟨a, b, vs, ws, rfl, rfl, r2.ex _ _ h1, r2.ex _ _ h3, small (by rw [l1, l2]; exact len), fun p3 hp3 => ?_⟩
    obtain ⟨r4, h0, hf4, ho4⟩ := laid r2 hp3 (vs ++ ws)
    exact g p3 (vs ++ ws) (ds ++ es) ρ2 H2 _ (e.trans e2) r4 h0 hf4 upd_same (h2.append h4) ho4 q
end
end Lg


set_option Elab.async false
set_option linter.all false
set_option maxRecDepth 100000
set_option maxHeartbeats 4000000
namespace Lg
open PySem PySem.Spec PyProof.Rows L2

/-! ### slices -/
def WO (K : PySem.W.Frag) (to : TO) (ρ : List Sl) (Q : Option Int → List Sl → Prop) : Prop :=
  ∀ (Fr : Hp) (σ : L2.St) (H0 H : Hp), Rep K Fr ρ σ H0 H → ∀ k : Option Int → Hp → Prop,
    (∀ (b : Option Int) (ρ' : List Sl) (H0' H' : Hp), Ex H0 H0' → Rep K Fr ρ' σ H0' H' → Q b ρ' → k b H') → to σ H k
def cutD {α : Type} (xs : List α) (lo hi : Option Int) : List α := (xs.drop (HT.sIx xs.length 0 lo)).take (HT.sIx xs.length xs.length hi - HT.sIx xs.length 0 lo)
theorem cutD_head {α : Type} (xs : List α) (k : Nat) : cutD xs none (some (k : Int)) = xs.take k := by
  unfold cutD
  rw [HT.sIx_none, HT.sIx_nat]
  show (xs.drop 0).take (min k xs.length - 0) = xs.take k
  rw [List.drop_zero, Nat.sub_zero]
  by_cases h : k ≤ xs.length
  · rw [Nat.min_eq_left h]
  · rw [Nat.min_eq_right (by omega), List.take_length, List.take_of_length_le (by omega)]
theorem cutD_tail {α : Type} (xs : List α) (k : Nat) : cutD xs (some (k : Int)) none = xs.drop k := by
  unfold cutD
  rw [HT.sIx_none, HT.sIx_nat]
  by_cases h : k ≤ xs.length
  · rw [Nat.min_eq_left h, ← List.length_drop, List.take_length]
  · rw [Nat.min_eq_right (by omega), List.drop_length, List.drop_eq_nil_of_le (by omega), List.take_nil]
section
variable {K : PySem.W.Frag} {te ta tb tl : TE} {tr tas : TA} {tt tu : TT} {to tp : TO} {ρ : List Sl} {Q : PyData → List Sl → Prop} {QL : List PyData → List Sl → Prop} {QT : Bool → List Sl → Prop} {QO : Option Int → List Sl → Prop} {N : List Sl → Prop} {R : PyData → List Sl → Prop} {ts tz : TS}
theorem wo_none (q : QO none ρ) : WO K tNoPart ρ QO := fun Fr σ H0 H r k f => f none ρ H0 H (Ex.refl H0) r q
theorem wo_some (h : WE K te ρ fun d ρ' => ∃ i, d = .int i ∧ QO (some i) ρ') : WO K (tPart te) ρ QO := fun Fr σ H0 H r k f =>
  h Fr σ H0 H r _ fun v d ρ' H0' H' e r' rv ⟨i, hi, q⟩ => by
    subst hi
    exact ⟨i, rv.int_inv, f (some i) ρ' H0' H' e r' q⟩
theorem wl_sl (h : WE K te ρ fun d ρ1 => WO K to ρ1 fun lo ρ2 => WO K tp ρ2 fun hi ρ3 => ∃ ds, d = .list ds ∧ QL (cutD ds lo hi) ρ3) : WL K (tSl (rSlL K) te to tp) ρ QL := fun Fr σ H0 H r k f =>
  h Fr σ H0 H r _ fun v d ρ1 H1 H1' e1 r1 rv q => q Fr σ H1 H1' r1 _ fun lo ρ2 H2 H2' e2 r2 q => q Fr σ H2 H2' r2 _ fun hi ρ3 H3 H3' e3 r3 ⟨ds, hd, q9⟩ => by
    subst hd
    obtain ⟨a, vs, rfl, h1, h2⟩ := (rv.mono (e2.trans e3)).list_inv
    refine ⟨a, vs, rfl, SqL.of (r3.ex _ _ h1), fun p hp => ?_⟩
    obtain ⟨r4, h0, hf, ho⟩ := laid r3 hp (cutV vs lo hi)
    refine f p _ (cutD ds lo hi) ρ3 H3 _ ((e1.trans e2).trans e3) r4 h0 hf upd_same ?_ ho q9
    unfold cutV cutD
    rw [h2.length]
    exact (h2.drop _).take _
theorem wl_slS {i : Nat} {a : Addr} {ns : List Int} (hi : ρ[i]? = some (Sl.scr a ns)) (h : WO K to ρ fun lo ρ2 => WO K tp ρ2 fun hi ρ3 => QL ((cutD ns lo hi).map PyData.int) ρ3) : WL K (tSl (rSlL K) (tVar i) to tp) ρ QL := fun Fr σ H0 H r k f => by
  obtain ⟨h1, h2⟩ := r.scr i a ns hi
  refine ⟨.ref a, h1, h Fr σ H0 H r _ fun lo ρ2 H2 H2' e2 r2 q => q Fr σ H2 H2' r2 _ fun hi ρ3 H3 H3' e3 r3 q => ⟨a, _, rfl, ex_l ((e2.trans e3).trans r3.ex) h2, fun p hp => ?_⟩⟩
  obtain ⟨r4, h0, hf, ho⟩ := laid r3 hp (cutV (ns.map V.int) lo hi)
  refine f p _ ((cutD ns lo hi).map PyData.int) ρ3 H3 _ (e2.trans e3) r4 h0 hf upd_same ?_ ho q
  have e : cutV (ns.map V.int) lo hi = (cutD ns lo hi).map V.int := by
    unfold cutV cutD
    rw [List.length_map, ← List.map_drop, ← List.map_take]
  rw [e]
  exact RvAll.ints _
theorem we_slT (h : WE K te ρ fun d ρ1 => WO K to ρ1 fun lo ρ2 => WO K tp ρ2 fun hi ρ3 => ∃ ds, d = .tuple ds ∧ ¬ (HT.sIx ds.length 0 lo = 0 ∧ HT.sIx ds.length ds.length hi = ds.length) ∧ Q (.tuple (cutD ds lo hi)) ρ3) : WE K (tSl (rSlT K) te to tp) ρ Q := fun Fr σ H0 H r k f =>
  h Fr σ H0 H r _ fun v d ρ1 H1 H1' e1 r1 rv q => q Fr σ H1 H1' r1 _ fun lo ρ2 H2 H2' e2 r2 q => q Fr σ H2 H2' r2 _ fun hi ρ3 H3 H3' e3 r3 ⟨ds, hd, nw, q9⟩ => by
    subst hd
    obtain ⟨a, vs, rfl, h1, h2⟩ := (rv.mono (e2.trans e3)).tuple_inv
    refine ⟨a, vs, rfl, ex_t r3.ex h1, by rw [h2.length]; exact nw, fun p hp => ?_⟩
    have hp0 := r3.ex.back hp
    refine f (.ref p) (.tuple (cutD ds lo hi)) ρ3 _ _ (((e1.trans e2).trans e3).trans (Ex.new hp0)) (r3.new hp) (.tup (SqT.of upd_same) (RvAll.mono (Ex.new hp0) ?_)) q9
    unfold cutV cutD
    rw [h2.length]
    exact (h2.drop _).take _

/-! ### calls of built-in defs -/
/-- a call that leaves the heap -/
def CD (K : PySem.W.Frag) (r : List V → Hp → VK → Prop) (ds : List PyData) (P : PyData → Prop) : Prop :=
  ∀ (H0 H : Hp) (vs : List V), Ex H0 H → RvAll K H0 vs ds → ∀ k : VK, (∀ z a, Rv K H0 z a → P a → k z H) → r vs H k
theorem we_cb {r : List V → Hp → VK → Prop} (h : WA K tas ρ fun ds ρ1 => CD K r ds fun d => Q d ρ1) : WE K (tCB r tas) ρ Q := fun Fr σ H0 H rp k f =>
  h Fr σ H0 H rp _ fun vs ds ρ1 H1 H' e r1 rv q => q H1 H' vs r1.ex rv _ fun z a hz pz => f z a ρ1 H1 H' e r1 hz pz
theorem rv1 {H : Hp} {vs : List V} {d : PyData} (h : RvAll K H vs [d]) : ∃ v, vs = [v] ∧ Rv K H v d := by
  cases h with
  | cons a r => cases r; exact ⟨_, rfl, a⟩
theorem rv2 {H : Hp} {vs : List V} {d e : PyData} (h : RvAll K H vs [d, e]) : ∃ v w, vs = [v, w] ∧ Rv K H v d ∧ Rv K H w e := by
  cases h with
  | cons a r =>
    obtain ⟨w, rfl, b⟩ := rv1 r
    exact ⟨_, w, rfl, a, b⟩
theorem cd_abs {i : Int} {P : PyData → Prop} (q : P (.int (if i < 0 then -i else i))) : CD K (fun xs H Q => ∃ i, xs = [V.int i] ∧ Q (.int (if i < 0 then -i else i)) H) [.int i] P := fun H0 H vs e rv k f => by
  obtain ⟨v, rfl, a⟩ := rv1 rv
  rw [a.int_inv]
  exact ⟨i, rfl, f _ _ (.int _) q⟩
theorem cd_max {i j : Int} {P : PyData → Prop} (q : P (.int (if j > i then j else i))) : CD K (fun xs H Q => ∃ i j, xs = [V.int i, V.int j] ∧ Q (.int (if j > i then j else i)) H) [.int i, .int j] P := fun H0 H vs e rv k f => by
  obtain ⟨v, w, rfl, a, b⟩ := rv2 rv
  rw [a.int_inv, b.int_inv]
  exact ⟨i, j, rfl, f _ _ (.int _) q⟩
theorem cd_min {i j : Int} {P : PyData → Prop} (q : P (.int (if j < i then j else i))) : CD K (fun xs H Q => ∃ i j, xs = [V.int i, V.int j] ∧ Q (.int (if j < i then j else i)) H) [.int i, .int j] P := fun H0 H vs e rv k f => by
  obtain ⟨v, w, rfl, a, b⟩ := rv2 rv
  rw [a.int_inv, b.int_inv]
  exact ⟨i, j, rfl, f _ _ (.int _) q⟩
theorem cd_intB {b : Bool} {P : PyData → Prop} (q : P (.int (if b then 1 else 0))) : CD K (fun xs H Q => (∃ i, xs = [V.int i] ∧ Q (.int i) H) ∨ ∃ k, xs = [V.bl k] ∧ Q (.int (if k then 1 else 0)) H) [.bool b] P := fun H0 H vs e rv k f => by
  obtain ⟨v, rfl, a⟩ := rv1 rv
  rw [a.bool_inv]
  exact .inr ⟨b, rfl, f _ _ (.int _) q⟩
theorem cd_len {ds : List PyData} {P : PyData → Prop} (q : P (.int ds.length)) : CD K (fun xs H Q => ∃ p ys, xs = [V.ref p] ∧ (SqL K H p ys ∨ SqT K H p ys) ∧ Q (.int (ys.length : Nat)) H) [.list ds] P := fun H0 H vs e rv k f => by
  obtain ⟨v, rfl, rva⟩ := rv1 rv
  obtain ⟨a, ws, rfl, h1, h2⟩ := rva.list_inv
  refine ⟨a, ws, rfl, .inl (SqL.of (e _ _ h1)), ?_⟩
  rw [h2.length]
  exact f _ _ (.int _) q
theorem cd_all {bs : List Bool} {P : PyData → Prop} (q : P (.bool (bs.all id))) : CD K (rAll K) [.list (bs.map PyData.bool)] P := fun H0 H vs e rv k f => by
  obtain ⟨v, rfl, rva⟩ := rv1 rv
  obtain ⟨a, ws, rfl, h1, h2⟩ := rva.list_inv
  rw [RvAll.bls bs h2] at h1
  exact ⟨a, bs, rfl, SqL.of (e _ _ h1), f _ _ (.bl _) q⟩
theorem cd_any {bs : List Bool} {P : PyData → Prop} (q : P (.bool (bs.any id))) : CD K (rAny K) [.list (bs.map PyData.bool)] P := fun H0 H vs e rv k f => by
  obtain ⟨v, rfl, rva⟩ := rv1 rv
  obtain ⟨a, ws, rfl, h1, h2⟩ := rva.list_inv
  rw [RvAll.bls bs h2] at h1
  exact ⟨a, bs, rfl, SqL.of (e _ _ h1), f _ _ (.bl _) q⟩
theorem we_lenO {i : Nat} {o : Addr} {ds : List PyData} (hi : ρ[i]? = some (Sl.own o ds)) (q : Q (.int ds.length) ρ) : WE K (tCB (fun xs H Q => ∃ p ys, xs = [V.ref p] ∧ (SqL K H p ys ∨ SqT K H p ys) ∧ Q (.int (ys.length : Nat)) H) (tCons (tVar i) tNil)) ρ Q := fun Fr σ H0 H rp k f => by
  obtain ⟨h1, _, _, vs, h4, h5⟩ := rp.own i o ds hi
  refine ⟨.ref o, h1, o, vs, rfl, .inl (SqL.of h4), ?_⟩
  rw [h5.length]
  exact f _ _ ρ H0 H (Ex.refl H0) rp (.int _) q
theorem we_lenS {i : Nat} {a : Addr} {ns : List Int} (hi : ρ[i]? = some (Sl.scr a ns)) (q : Q (.int ns.length) ρ) : WE K (tCB (fun xs H Q => ∃ p ys, xs = [V.ref p] ∧ (SqL K H p ys ∨ SqT K H p ys) ∧ Q (.int (ys.length : Nat)) H) (tCons (tVar i) tNil)) ρ Q := fun Fr σ H0 H rp k f => by
  obtain ⟨h1, h2⟩ := rp.scr i a ns hi
  refine ⟨.ref a, h1, a, _, rfl, .inl (ex_l rp.ex h2), ?_⟩
  rw [List.length_map]
  exact f _ _ ρ H0 H (Ex.refl H0) rp (.int _) q
/-- list(xs): a new list -/
theorem wl_list (h : WE K te ρ fun d ρ1 => ∃ ds, d = .list ds ∧ QL ds ρ1) : WL K (tCB (fun xs H Q => ∃ p ys, xs = [V.ref p] ∧ (SqL K H p ys ∨ SqT K H p ys) ∧ ∀ l, H l = none → Q (.ref l) (upd H l (.lst ys))) (tCons te tNil)) ρ QL := fun Fr σ H0 H r k f =>
  h Fr σ H0 H r _ fun v d ρ1 H1 H1' e1 r1 rv ⟨ds, hd, q⟩ => by
    subst hd
    obtain ⟨a, vs, rfl, h1, h2⟩ := rv.list_inv
    refine ⟨a, vs, rfl, .inl (SqL.of (r1.ex _ _ h1)), fun p hp => ?_⟩
    obtain ⟨r4, h0, hf, ho⟩ := laid r1 hp vs
    exact f p vs ds ρ1 H1 _ e1 r4 h0 hf upd_same h2 ho q

/-! ### tests -/
theorem wt_test (h : WE K te ρ fun d ρ1 => ∃ b, d = .bool b ∧ QT b ρ1) : WT K (tTest te) ρ QT := fun Fr σ H0 H r k f =>
  h Fr σ H0 H r _ fun v d ρ1 H1 H1' e1 r1 rv ⟨b, hd, q⟩ => by
    subst hd
    exact ⟨b, rv.bool_inv, f b ρ1 H1 H1' e1 r1 q⟩
theorem wt_b (h : WE K te ρ fun d ρ1 => ∃ b, d = .bool b ∧ QT b ρ1) : WT K (tB te) ρ QT := fun Fr σ H0 H r k f =>
  h Fr σ H0 H r _ fun v d ρ1 H1 H1' e1 r1 rv ⟨b, hd, q⟩ => by
    subst hd
    exact ⟨b, rv.bool_inv, f b ρ1 H1 H1' e1 r1 q⟩
theorem wt_and (h : WT K tt ρ fun b ρ1 => (b = true → WT K tu ρ1 QT) ∧ (b = false → QT false ρ1)) : WT K (tAnd tt tu) ρ QT := fun Fr σ H0 H r k f =>
  h Fr σ H0 H r _ fun b ρ1 H1 H1' e1 r1 ⟨q1, q2⟩ => by
    cases b with
    | true => exact q1 rfl Fr σ H1 H1' r1 k fun b ρ2 H2 H2' e2 r2 q => f b ρ2 H2 H2' (e1.trans e2) r2 q
    | false => exact f false ρ1 H1 H1' e1 r1 (q2 rfl)
theorem wt_or (h : WT K tt ρ fun b ρ1 => (b = false → WT K tu ρ1 QT) ∧ (b = true → QT true ρ1)) : WT K (tOr tt tu) ρ QT := fun Fr σ H0 H r k f =>
  h Fr σ H0 H r _ fun b ρ1 H1 H1' e1 r1 ⟨q1, q2⟩ => by
    cases b with
    | false => exact q1 rfl Fr σ H1 H1' r1 k fun b ρ2 H2 H2' e2 r2 q => f b ρ2 H2 H2' (e1.trans e2) r2 q
    | true => exact f true ρ1 H1 H1' e1 r1 (q2 rfl)
theorem wt_not (h : WT K tt ρ fun b ρ1 => QT (!b) ρ1) : WT K (tNot tt) ρ QT := fun Fr σ H0 H r k f =>
  h Fr σ H0 H r _ fun b ρ1 H1 H1' e1 r1 q => f (!b) ρ1 H1 H1' e1 r1 q
theorem wt_yes (q : QT true ρ) : WT K tYes ρ QT := fun Fr σ H0 H r k f => f true ρ H0 H (Ex.refl H0) r q
theorem we_andV (h : WE K ta ρ fun d ρ1 => ∃ b, d = .bool b ∧ (b = true → WE K tb ρ1 Q) ∧ (b = false → Q (.bool false) ρ1)) : WE K (tAndV ta tb) ρ Q := fun Fr σ H0 H r k f =>
  h Fr σ H0 H r _ fun v d ρ1 H1 H1' e1 r1 rv ⟨b, hd, q1, q2⟩ => by
    subst hd
    refine ⟨b, rv.bool_inv, ?_⟩
    cases b with
    | true => exact q1 rfl Fr σ H1 H1' r1 k fun v d ρ2 H2 H2' e2 r2 rv q => f v d ρ2 H2 H2' (e1.trans e2) r2 rv q
    | false => exact f _ _ ρ1 H1 H1' e1 r1 (.bl _) (q2 rfl)
theorem we_orV (h : WE K ta ρ fun d ρ1 => ∃ b, d = .bool b ∧ (b = false → WE K tb ρ1 Q) ∧ (b = true → Q (.bool true) ρ1)) : WE K (tOrV ta tb) ρ Q := fun Fr σ H0 H r k f =>
  h Fr σ H0 H r _ fun v d ρ1 H1 H1' e1 r1 rv ⟨b, hd, q1, q2⟩ => by
    subst hd
    refine ⟨b, rv.bool_inv, ?_⟩
    cases b with
    | false => exact q1 rfl Fr σ H1 H1' r1 k fun v d ρ2 H2 H2' e2 r2 rv q => f v d ρ2 H2 H2' (e1.trans e2) r2 rv q
    | true => exact f _ _ ρ1 H1 H1' e1 r1 (.bl _) (q2 rfl)
theorem we_notV (h : WE K ta ρ fun d ρ1 => ∃ b, d = .bool b ∧ Q (.bool (!b)) ρ1) : WE K (tNotV ta) ρ Q := fun Fr σ H0 H r k f =>
  h Fr σ H0 H r _ fun v d ρ1 H1 H1' e1 r1 rv ⟨b, hd, q⟩ => by
    subst hd
    exact ⟨b, rv.bool_inv, f _ _ ρ1 H1 H1' e1 r1 (.bl _) q⟩

/-! ### statements -/
theorem ws_seq (h : WS K ts ρ (fun ρ1 => WS K tz ρ1 N R) R) : WS K (tSeq ts tz) ρ N R := fun Fr σ H0 H r D fn fr =>
  h Fr σ H0 H r { D with nx := tz D } (fun ρ1 σ1 H1 H1' e1 r1 q => q Fr σ1 H1 H1' r1 D (fun ρ2 σ2 H2 H2' e2 r2 q2 => fn ρ2 σ2 H2 H2' (e1.trans e2) r2 q2) (fun v d ρ2 σ2 H2 H2' e2 r2 rv q2 => fr v d ρ2 σ2 H2 H2' (e1.trans e2) r2 rv q2)) fr
theorem ws_next (q : N ρ) : WS K tNext ρ N R := fun Fr σ H0 H r D fn fr => fn ρ σ H0 H (Ex.refl H0) r q
theorem ws_ret (h : WE K te ρ R) : WS K (tRet te) ρ N R := fun Fr σ H0 H r D fn fr =>
  h Fr σ H0 H r D.rt fun v d ρ1 H1 H1' e1 r1 rv q => fr v d ρ1 σ H1 H1' e1 r1 rv q
theorem ws_freeze {i : Nat} {o : Addr} {ds : List PyData} (hi : ρ[i]? = some (Sl.own o ds)) (h : WS K ts (ρ.set i (.dat (.list ds))) N R) : WS K ts ρ N R := fun Fr σ H0 H r D fn fr => by
  obtain ⟨H0', e, r'⟩ := r.freeze hi
  exact h Fr σ H0' H r' D (fun ρ1 σ1 H1 H1' e1 r1 q => fn ρ1 σ1 H1 H1' (e.trans e1) r1 q) (fun v d ρ1 σ1 H1 H1' e1 r1 rv q => fr v d ρ1 σ1 H1 H1' (e.trans e1) r1 rv q)
theorem we_freeze {i : Nat} {o : Addr} {ds : List PyData} (hi : ρ[i]? = some (Sl.own o ds)) (h : WE K te (ρ.set i (.dat (.list ds))) Q) : WE K te ρ Q := fun Fr σ H0 H r k f => by
  obtain ⟨H0', e, r'⟩ := r.freeze hi
  exact h Fr σ H0' H r' k fun v d ρ1 H1 H1' e1 r1 rv q => f v d ρ1 H1 H1' (e.trans e1) r1 rv q
theorem ws_asg {i : Nat} (h : WE K te ρ fun d ρ1 => N (ρ1.set i (.dat d))) : WS K (tAsg te (gName i)) ρ N R := fun Fr σ H0 H r D fn fr =>
  h Fr σ H0 H r _ fun v d ρ1 H1 H1' e1 r1 rv q => fn _ _ H1 H1' e1 (r1.set i rv) q
theorem ws_asgO {i : Nat} (h : WL K te ρ fun ds ρ1 => ∀ o, N (ρ1.set i (.own o ds))) : WS K (tAsg te (gName i)) ρ N R := fun Fr σ H0 H r D fn fr =>
  h Fr σ H0 H r _ fun p vs ds ρ1 H1 H1' e1 r1 h0 hf hh hd ho q => fn _ _ H1 H1' e1 (r1.setOwn i h0 hf hh hd ho) (q p)
theorem ws_if {tx ty : TS} (h : WT K tt ρ fun b ρ1 => (b = true → WS K tx ρ1 N R) ∧ (b = false → WS K ty ρ1 N R)) : WS K (tIfS tt tx ty) ρ N R := fun Fr σ H0 H r D fn fr =>
  h Fr σ H0 H r _ fun b ρ1 H1 H1' e1 r1 ⟨q1, q2⟩ => by
    cases b with
    | true => exact q1 rfl Fr σ H1 H1' r1 D (fun ρ2 σ2 H2 H2' e2 r2 q => fn ρ2 σ2 H2 H2' (e1.trans e2) r2 q) (fun v d ρ2 σ2 H2 H2' e2 r2 rv q => fr v d ρ2 σ2 H2 H2' (e1.trans e2) r2 rv q)
    | false => exact q2 rfl Fr σ H1 H1' r1 D (fun ρ2 σ2 H2 H2' e2 r2 q => fn ρ2 σ2 H2 H2' (e1.trans e2) r2 q) (fun v d ρ2 σ2 H2 H2' e2 r2 rv q => fr v d ρ2 σ2 H2 H2' (e1.trans e2) r2 rv q)
theorem ws_append {i : Nat} {o : Addr} {ds0 : List PyData} (hi : ρ[i]? = some (Sl.own o ds0)) (h : WE K te ρ fun d ρ1 => ∃ ds, ρ1[i]? = some (Sl.own o ds) ∧ ds.length ≤ 1000000 ∧ N (ρ1.set i (.own o (ds ++ [d])))) :
    WS K (tDrop (tBM K "list" rAppend (tVar i) (tCons te tNil))) ρ N R := fun Fr σ H0 H r D fn fr => by
  obtain ⟨h1, h2, h3, vs, h4, h5⟩ := r.own i o ds0 hi
  refine ⟨.ref o, h1, .inl ⟨rfl, _, SqL.of h4⟩, h Fr σ H0 H r _ fun v d ρ1 H1 H1' e1 r1 rv ⟨ds, hj, len, q⟩ => ?_⟩
  obtain ⟨k1, k2, k3, ws, k4, k5⟩ := r1.own i o ds hj
  refine ⟨o, ws, v, rfl, rfl, k4, Nat.lt_of_le_of_lt (by rw [k5.length]; exact len) (by decide), ?_⟩
  exact fn _ _ H1 _ e1 (r1.change hj (k5.append (.cons rv .nil))) q
theorem ws_extend {i : Nat} {o : Addr} {ds0 : List PyData} (hi : ρ[i]? = some (Sl.own o ds0)) (h : WE K te ρ fun d ρ1 => ∃ ds es, d = .list es ∧ ρ1[i]? = some (Sl.own o ds) ∧ ds.length + es.length ≤ 1000000 ∧ N (ρ1.set i (.own o (ds ++ es)))) :
    WS K (tDrop (tBM K "list" rExtend (tVar i) (tCons te tNil))) ρ N R := fun Fr σ H0 H r D fn fr => by
  obtain ⟨h1, h2, h3, vs, h4, h5⟩ := r.own i o ds0 hi
  refine ⟨.ref o, h1, .inl ⟨rfl, _, SqL.of h4⟩, h Fr σ H0 H r _ fun v d ρ1 H1 H1' e1 r1 rv ⟨ds, es, hd, hj, len, q⟩ => ?_⟩
  subst hd
  obtain ⟨k1, k2, k3, ws, k4, k5⟩ := r1.own i o ds hj
  obtain ⟨b, us, rfl, b1, b2⟩ := rv.list_inv
  refine ⟨o, b, ws, us, rfl, rfl, k4, r1.ex _ _ b1, small (by rw [k5.length, b2.length]; exact len), ?_⟩
  exact fn _ _ H1 _ e1 (r1.change hj (k5.append b2)) q
theorem ws_setO {i : Nat} (h : WE K te ρ fun d ρ1 => ∃ o ds0, ρ1[i]? = some (Sl.own o ds0) ∧ WE K tb ρ1 fun e ρ2 => ∃ n j ds, e = .int n ∧ ρ2[i]? = some (Sl.own o ds) ∧ ixN ds.length n = some j ∧ N (ρ2.set i (.own o (ds.set j d)))) :
    WS K (tAsg te (gSub (tVar i) tb rSetL)) ρ N R := fun Fr σ H0 H r D fn fr =>
  h Fr σ H0 H r _ fun v d ρ1 H1 H1' e1 r1 rv ⟨o, ds0, hj, q⟩ => by
    obtain ⟨k1, _⟩ := r1.own i o ds0 hj
    refine ⟨.ref o, k1, q Fr σ H1 H1' r1 _ fun w e ρ2 H2 H2' e2 r2 rw ⟨n, j, ds, he, hj2, ix, q2⟩ => ?_⟩
    subst he
    obtain ⟨l1, l2, l3, ws, l4, l5⟩ := r2.own i o ds hj2
    refine ⟨o, ws, n, j, rfl, rw.int_inv, l4, by rw [l5.length]; exact ix, ?_⟩
    exact fn _ _ H2 _ (e1.trans e2) (r2.change hj2 (l5.set j (rv.mono e2))) q2
theorem ws_par {i j : Nat} (h : WA K tas ρ fun ds ρ1 => ∃ a b, ds = [a, b] ∧ N ((ρ1.set i (.dat a)).set j (.dat b))) : WS K (tPar i j tas) ρ N R := fun Fr σ H0 H r D fn fr =>
  h Fr σ H0 H r _ fun vs ds ρ1 H1 H1' e1 r1 rv ⟨a, b, hd, q⟩ => by
    subst hd
    obtain ⟨v, w, rfl, ra, rb⟩ := rv2 rv
    exact ⟨v, w, rfl, fn _ _ H1 H1' e1 ((r1.set i ra).set j rb) q⟩
theorem ws_asgG {g : TG} (h : WE K te ρ fun d ρ1 => WG K g d ρ1 N) : WS K (tAsg te g) ρ N R := fun Fr σ H0 H r D fn fr =>
  h Fr σ H0 H r _ fun v d ρ1 H1 H1' e1 r1 rv q => q Fr σ H1 H1' v r1 rv _ fun ρ2 σ2 r2 q2 => fn ρ2 σ2 H1 H1' e1 r2 q2
theorem ws_never (h : False) : WS K ts ρ N R := h.elim
theorem wg_name {i : Nat} {d : PyData} (q : N (ρ.set i (.dat d))) : WG K (gName i) d ρ N := fun Fr σ H0 H v r rv k f => f _ _ (r.set i rv) q
theorem wg_tup {n : Nat} {g : TGs} {ds : List PyData} (hn : ds.length = n) (h : WGs K g ds ρ N) : WG K (gTup K n g) (.tuple ds) ρ N := fun Fr σ H0 H v r rv k f => by
  obtain ⟨a, vs, rfl, h1, h2⟩ := rv.tuple_inv
  exact ⟨a, vs, rfl, ex_t r.ex h1, by rw [h2.length]; exact hn, h Fr σ H0 H vs r h2 k f⟩
theorem wgs_nil (q : N ρ) : WGs K gNil [] ρ N := fun Fr σ H0 H vs r rv k f => by
  cases rv
  exact ⟨rfl, f _ _ r q⟩
theorem wgs_cons {g : TG} {gs : TGs} {d : PyData} {ds : List PyData} (h : WG K g d ρ fun ρ1 => WGs K gs ds ρ1 N) : WGs K (gCons g gs) (d :: ds) ρ N := fun Fr σ H0 H vs r rv k f => by
  cases rv with
  | cons a rr => exact ⟨_, _, rfl, h Fr σ H0 H _ r a _ fun ρ1 σ1 r1 q => q Fr σ1 H0 H _ r1 rr k f⟩
end
end Lg


set_option Elab.async false
set_option linter.all false
set_option maxRecDepth 100000
set_option maxHeartbeats 4000000
namespace Lg
open PySem PySem.Spec PyProof.Rows L2

/-! ### loops -/
section
variable {K : PySem.W.Frag} {te ta tb tl : TE} {tr tas : TA} {tt tu : TT} {ρ : List Sl} {Q : PyData → List Sl → Prop} {QL : List PyData → List Sl → Prop} {N : List Sl → Prop} {R : PyData → List Sl → Prop} {ts tz tbd : TS} {g : TG}
/-- a body within a loop -/
theorem ws_body {Fr : Hp} {σ : L2.St} {H0 H1 H : Hp} {ρ1 : List Sl} {I : List Sl → Prop} {D : Ends} {A B C : L2.St → Hp → Prop} (h : WS K tbd ρ1 I R) (e : Ex H0 H1) (r : Rep K Fr ρ1 σ H1 H)
    (hA : ∀ (ρ2 : List Sl) (σ2 : L2.St) (H2 H2' : Hp), Ex H0 H2 → Rep K Fr ρ2 σ2 H2 H2' → I ρ2 → A σ2 H2')
    (fr : ∀ (v : V) (d : PyData) (ρ' : List Sl) (σ' : L2.St) (H0' H' : Hp), Ex H0 H0' → Rep K Fr ρ' σ' H0' H' → Rv K H0' v d → R d ρ' → D.rt v H') : tbd { D with nx := A, ct := B, bk := C } σ H :=
  h Fr σ H1 H r _ (fun ρ2 σ2 H2 H2' e2 r2 q => hA ρ2 σ2 H2 H2' (e.trans e2) r2 q) fun v d ρ2 σ2 H2 H2' e2 r2 rv q => fr v d ρ2 σ2 H2 H2' (e.trans e2) r2 rv q
theorem ws_while (I : List Sl → Prop) (μ : List Sl → Nat) (h0 : I ρ) (hs : ∀ ρ1, I ρ1 → WT K tt ρ1 fun b ρ2 => (b = true → WS K tbd ρ2 (fun ρ3 => I ρ3 ∧ μ ρ3 < μ ρ1) R) ∧ (b = false → N ρ2)) : WS K (tWhile tt tbd) ρ N R := fun Fr σ H0 H r D fn fr => by
  refine ⟨fun m σ1 H1' => ∃ (ρ1 : List Sl) (H1 : Hp), Ex H0 H1 ∧ Rep K Fr ρ1 σ1 H1 H1' ∧ I ρ1 ∧ μ ρ1 = m, ⟨μ ρ, ρ, H0, Ex.refl H0, r, h0, rfl⟩, ?_⟩
  rintro m σ1 H1' ⟨ρ1, H1, e1, r1, i1, rfl⟩
  refine hs ρ1 i1 Fr σ1 H1 H1' r1 _ fun b ρ2 H2 H2' e2 r2 ⟨q1, q2⟩ => ?_
  cases b with
  | true =>
    refine ⟨fun σ3 H3' => ∃ (ρ3 : List Sl) (H3 : Hp), Ex H0 H3 ∧ Rep K Fr ρ3 σ3 H3 H3' ∧ I ρ3 ∧ μ ρ3 < μ ρ1, fun σ3 H3' ⟨ρ3, H3, e3, r3, i3, l3⟩ => ⟨μ ρ3, l3, ρ3, H3, e3, r3, i3, rfl⟩, ?_⟩
    exact ws_body (q1 rfl) (e1.trans e2) r2 (fun ρ3 σ3 H3 H3' e3 r3 q3 => ⟨ρ3, H3, e3, r3, q3.1, q3.2⟩) fr
  | false => exact fn ρ2 σ1 H2 H2' (e1.trans e2) r2 (q2 rfl)
/-- what holds between two turns -/
def LI (K : PySem.W.Frag) (Fr : Hp) (H0 : Hp) (I : Nat → List Sl → Prop) (i : Nat) (σ : L2.St) (H : Hp) : Prop := ∃ (ρ : List Sl) (H1 : Hp), Ex H0 H1 ∧ Rep K Fr ρ σ H1 H ∧ I i ρ
theorem ws_for (h : WE K tl ρ fun d ρ1 => ∃ ds, ∃ I : Nat → List Sl → Prop, d = .list ds ∧ I 0 ρ1 ∧ (∀ (i : Nat) x ρ2, ds[i]? = some x → I i ρ2 → WG K g x ρ2 fun ρ3 => WS K tbd ρ3 (I (i + 1)) R) ∧ ∀ ρ2, I ds.length ρ2 → N ρ2) :
    WS K (tFor (iList K tl) g tbd) ρ N R := fun Fr σ H0 H r D fn fr =>
  h Fr σ H0 H r _ fun v d ρ1 H1 H1' e1 r1 rv ⟨ds, I, hd, i0, hs, hN⟩ => by
    subst hd
    obtain ⟨a, vs, rfl, h1, h2⟩ := rv.list_inv
    refine ⟨a, rfl, ⟨vs, SqL.of (r1.ex _ _ h1)⟩, for_list (xs := vs) (LI K Fr H1 I) ⟨ρ1, H1, Ex.refl H1, r1, i0⟩ (fun i σ2 H2' _ ⟨ρ2, H2, e2, r2, _⟩ => SqL.of (r2.ex _ _ (e2 _ _ h1))) (fun i x σ2 H2' hx ⟨ρ2, H2, e2, r2, i2⟩ => ?_) fun σ2 H2' ⟨ρ2, H2, e2, r2, i2⟩ => ?_⟩
    · obtain ⟨d, hd, rd⟩ := h2.get' hx
      refine hs i d ρ2 hd i2 Fr σ2 H2 H2' x r2 (rd.mono e2) _ fun ρ3 σ3 r3 q => ?_
      exact ws_body q e2 r3 (fun ρ4 σ4 H4 H4' e4 r4 q4 => ⟨ρ4, H4, e4, r4, q4⟩) fun v d ρ4 σ4 H4 H4' e4 r4 rv q4 => fr v d ρ4 σ4 H4 H4' (e1.trans e4) r4 rv q4
    · rw [h2.length] at i2
      exact fn ρ2 σ2 H2 H2' (e1.trans e2) r2 (hN ρ2 i2)
theorem ws_range1 (h : WA K tas ρ fun ds ρ1 => ∃ n : Int, ∃ I : Nat → List Sl → Prop, ds = [.int n] ∧ n < 2 ^ 62 ∧ -(2 ^ 62) ≤ n ∧ I 0 ρ1 ∧ (∀ (i : Nat) ρ2, (i : Int) < n → I i ρ2 → WG K g (.int (i : Int)) ρ2 fun ρ3 => WS K tbd ρ3 (I (i + 1)) R) ∧ ∀ ρ2, I n.toNat ρ2 → N ρ2) :
    WS K (tFor (iRng1 tas) g tbd) ρ N R := fun Fr σ H0 H r D fn fr =>
  h Fr σ H0 H r _ fun vs ds ρ1 H1 H1' e1 r1 rv ⟨n, I, hd, b1, b2, i0, hs, hN⟩ => by
    subst hd
    obtain ⟨v, rfl, rn⟩ := rv1 rv
    rw [rn.int_inv]
    refine ⟨n, rfl, b2, b1, for_range (LI K Fr H1 I) ⟨ρ1, H1, Ex.refl H1, r1, i0⟩ (fun i σ2 H2' hi ⟨ρ2, H2, e2, r2, i2⟩ => ?_) fun σ2 H2' ⟨ρ2, H2, e2, r2, i2⟩ => fn ρ2 σ2 H2 H2' (e1.trans e2) r2 (hN ρ2 i2)⟩
    have e : (0 : Int) + (i : Int) = (i : Int) := Int.zero_add _
    rw [e]
    refine hs i ρ2 (by omega) i2 Fr σ2 H2 H2' (.int (i : Int)) r2 (.int _) _ fun ρ3 σ3 r3 q => ?_
    exact ws_body q e2 r3 (fun ρ4 σ4 H4 H4' e4 r4 q4 => ⟨ρ4, H4, e4, r4, q4⟩) fun v d ρ4 σ4 H4 H4' e4 r4 rv q4 => fr v d ρ4 σ4 H4 H4' (e1.trans e4) r4 rv q4
theorem ws_range2 (h : WA K tas ρ fun ds ρ1 => ∃ lo n : Int, ∃ I : Nat → List Sl → Prop, ds = [.int lo, .int n] ∧ (-(2 ^ 62) ≤ lo ∧ lo < 2 ^ 62 ∧ -(2 ^ 62) ≤ n ∧ n < 2 ^ 62) ∧ I 0 ρ1 ∧ (∀ (i : Nat) ρ2, lo + (i : Int) < n → I i ρ2 → WG K g (.int (lo + (i : Int))) ρ2 fun ρ3 => WS K tbd ρ3 (I (i + 1)) R) ∧ ∀ ρ2, I (n - lo).toNat ρ2 → N ρ2) :
    WS K (tFor (iRng2 tas) g tbd) ρ N R := fun Fr σ H0 H r D fn fr =>
  h Fr σ H0 H r _ fun vs ds ρ1 H1 H1' e1 r1 rv ⟨lo, n, I, hd, b1, i0, hs, hN⟩ => by
    subst hd
    obtain ⟨v, w, rfl, rn, rm⟩ := rv2 rv
    rw [rn.int_inv, rm.int_inv]
    refine ⟨lo, n, rfl, b1, for_range (LI K Fr H1 I) ⟨ρ1, H1, Ex.refl H1, r1, i0⟩ (fun i σ2 H2' hi ⟨ρ2, H2, e2, r2, i2⟩ => ?_) fun σ2 H2' ⟨ρ2, H2, e2, r2, i2⟩ => fn ρ2 σ2 H2 H2' (e1.trans e2) r2 (hN ρ2 i2)⟩
    refine hs i ρ2 (by omega) i2 Fr σ2 H2 H2' (.int (lo + (i : Int))) r2 (.int _) _ fun ρ3 σ3 r3 q => ?_
    exact ws_body q e2 r3 (fun ρ4 σ4 H4 H4' e4 r4 q4 => ⟨ρ4, H4, e4, r4, q4⟩) fun v d ρ4 σ4 H4 H4' e4 r4 rv q4 => fr v d ρ4 σ4 H4 H4' (e1.trans e4) r4 rv q4
theorem ws_enum (h : WA K tas ρ fun es ρ1 => ∃ ds, ∃ I : Nat → List Sl → Prop, es = [.list ds] ∧ I 0 ρ1 ∧ (∀ (i : Nat) x ρ2, ds[i]? = some x → I i ρ2 → WG K g (.tuple [.int (i : Int), x]) ρ2 fun ρ3 => WS K tbd ρ3 (I (i + 1)) R) ∧ ∀ ρ2, I ds.length ρ2 → N ρ2) :
    WS K (tFor (iEnum K tas) g tbd) ρ N R := fun Fr σ H0 H r D fn fr =>
  h Fr σ H0 H r _ fun vs es ρ1 H1 H1' e1 r1 rv ⟨ds, I, hd, i0, hs, hN⟩ => by
    subst hd
    obtain ⟨v, rfl, rn⟩ := rv1 rv
    obtain ⟨a, ws, rfl, h1, h2⟩ := rn.list_inv
    refine ⟨a, ws, rfl, SqL.of (r1.ex _ _ h1), fun i m σ2 H2' => m = ws.length - i ∧ i ≤ ws.length ∧ LI K Fr H1 I i σ2 H2', ⟨ws.length, rfl, Nat.zero_le _, ρ1, H1, Ex.refl H1, r1, i0⟩, ?_⟩
    rintro i m σ2 H2' ⟨rfl, hi, ρ2, H2, e2, r2, i2⟩
    have sq : SqL K H2' a ws := SqL.of (r2.ex _ _ (e2 _ _ h1))
    by_cases hlt : i < ws.length
    · have hx : ws[i]? = some ws[i] := List.getElem?_eq_getElem hlt
      refine .inr ⟨⟨ws, _, sq, hx⟩, fun σ3 H3' => i + 1 ≤ ws.length ∧ LI K Fr H1 I (i + 1) σ3 H3', fun σ3 H3' ⟨l3, p3⟩ => ⟨ws.length - (i + 1), by omega, rfl, l3, p3⟩, fun x H3' y => ?_⟩
      obtain ⟨T, x', rfl, hT, rfl, fx⟩ := y
      obtain ⟨d, hd, rd⟩ := h2.get' (fx ws sq)
      have eT := Ex.new (o := .tup [.int (i : Nat), x']) (r2.ex.back hT)
      refine hs i d ρ2 hd i2 Fr σ2 _ _ (.ref T) (r2.new hT) (.tup (SqT.of upd_same) (.cons (.int _) (.cons ((rd.mono e2).mono eT) .nil))) _ fun ρ3 σ3 r3 q => ?_
      exact ws_body q (e2.trans eT) r3 (fun ρ4 σ4 H4 H4' e4 r4 q4 => ⟨hlt, ρ4, H4, e4, r4, q4⟩) fun v d ρ4 σ4 H4 H4' e4 r4 rv q4 => fr v d ρ4 σ4 H4 H4' (e1.trans e4) r4 rv q4
    · have e : i = ws.length := by omega
      subst e
      rw [h2.length] at i2
      exact .inl ⟨⟨ws, sq, Nat.le_refl _⟩, fn ρ2 σ2 H2 H2' (e1.trans e2) r2 (hN ρ2 i2)⟩
theorem ws_zipT (h : WA K tas ρ fun es ρ1 => ∃ ds fs, ∃ I : Nat → List Sl → Prop, es = [.tuple ds, .tuple fs] ∧ ds.length = fs.length ∧ I 0 ρ1 ∧ (∀ (i : Nat) x y ρ2, ds[i]? = some x → fs[i]? = some y → I i ρ2 → WG K g (.tuple [x, y]) ρ2 fun ρ3 => WS K tbd ρ3 (I (i + 1)) R) ∧ ∀ ρ2, I ds.length ρ2 → N ρ2) :
    WS K (tFor (RZ.iZipA K tas) g tbd) ρ N R := fun Fr σ H0 H r D fn fr =>
  h Fr σ H0 H r _ fun vs es ρ1 H1 H1' e1 r1 rv ⟨ds, fs, I, hd, hl, i0, hs, hN⟩ => by
    subst hd
    obtain ⟨v, w, rfl, rn, rm⟩ := rv2 rv
    obtain ⟨a, ws, rfl, h1, h2⟩ := rn.tuple_inv
    obtain ⟨b, us, rfl, h3, h4⟩ := rm.tuple_inv
    refine ⟨a, b, ws, us, rfl, .inr ⟨ex_t r1.ex h1, ex_t r1.ex h3, RZ.for_zipT (by rw [h2.length, h4.length]; exact hl) (LI K Fr H1 I) ⟨ρ1, H1, Ex.refl H1, r1, i0⟩ (fun i σ2 H2' ⟨ρ2, H2, e2, r2, _⟩ => ⟨ex_t (e2.trans r2.ex) h1, ex_t (e2.trans r2.ex) h3⟩) (fun i x y T σ2 H2' hx hy ⟨ρ2, H2, e2, r2, i2⟩ hT => ?_) fun σ2 H2' ⟨ρ2, H2, e2, r2, i2⟩ => ?_⟩⟩
    · obtain ⟨d, hd, rd⟩ := h2.get' hx
      obtain ⟨d2, hd2, rd2⟩ := h4.get' hy
      have eT := Ex.new (o := .tup [x, y]) (r2.ex.back hT)
      refine hs i d d2 ρ2 hd hd2 i2 Fr σ2 _ _ (.ref T) (r2.new hT) (.tup (SqT.of upd_same) (.cons ((rd.mono e2).mono eT) (.cons ((rd2.mono e2).mono eT) .nil))) _ fun ρ3 σ3 r3 q => ?_
      exact ws_body q (e2.trans eT) r3 (fun ρ4 σ4 H4 H4' e4 r4 q4 => ⟨ρ4, H4, e4, r4, q4⟩) fun v d ρ4 σ4 H4 H4' e4 r4 rv q4 => fr v d ρ4 σ4 H4 H4' (e1.trans e4) r4 rv q4
    · rw [h2.length] at i2
      exact fn ρ2 σ2 H2 H2' (e1.trans e2) r2 (hN ρ2 i2)
end

/-! ### comprehensions -/
def wipeR (ρ : List Sl) : List Nat → List Sl
  | [] => ρ
  | v :: vs => (wipeR ρ vs).set v .no
section
variable {K : PySem.W.Frag} {Fr H0 H H0' H' : Hp} {ρ : List Sl} {σ : L2.St}
theorem wipeR_len (ρ : List Sl) : ∀ vs : List Nat, (wipeR ρ vs).length = ρ.length
  | [] => rfl
  | v :: vs => by unfold wipeR; rw [List.length_set, wipeR_len ρ vs]
theorem wipeR_get {ρ : List Sl} {i : Nat} {x : Sl} (hx : x ≠ .no) : ∀ {vs : List Nat}, (wipeR ρ vs)[i]? = some x → ρ[i]? = some x ∧ i ∉ vs
  | [], h => ⟨h, by simp⟩
  | v :: vs, h => by
    unfold wipeR at h
    by_cases hi : v = i
    · subst hi
      by_cases hv : v < (wipeR ρ vs).length
      · rw [List.getElem?_set_self hv] at h; cases h; exact absurd rfl hx
      · rw [List.getElem?_eq_none (by simpa using hv)] at h; cases h
    · rw [List.getElem?_set_ne hi] at h
      obtain ⟨h1, h2⟩ := wipeR_get hx h
      exact ⟨h1, by simp only [List.mem_cons, not_or]; exact ⟨fun e => hi e.symm, h2⟩⟩
theorem wipe_out {σ : L2.St} {i : Nat} : ∀ {vs : List Nat}, i ∉ vs → (wipe σ vs)[i]? = σ[i]?
  | [], _ => rfl
  | v :: vs, h => by
    simp only [List.mem_cons, not_or] at h
    unfold wipe
    rw [List.getElem?_set_ne (fun e => h.1 e.symm)]
    exact wipe_out h.2
/-- what a Rep is, name by name, for other names' values -/
theorem Rep.remap (r : Rep K Fr ρ σ H0 H) {ρ' : List Sl} {σ' : L2.St} (hl : σ'.length = ρ'.length) (h : ∀ (i : Nat) (x : Sl), x ≠ .no → ρ'[i]? = some x → ρ[i]? = some x ∧ σ'[i]? = σ[i]?) : Rep K Fr ρ' σ' H0 H where
  ex := r.ex
  len := hl
  dat := fun i d hi => by
    obtain ⟨h1, h2⟩ := h i (.dat d) Sl.noConfusion hi
    rw [h2]
    exact r.dat i d h1
  own := fun i o ds hi => by
    obtain ⟨h1, h2⟩ := h i (.own o ds) Sl.noConfusion hi
    rw [h2]
    exact r.own i o ds h1
  scr := fun i o ds hi => by
    obtain ⟨h1, h2⟩ := h i (.scr o ds) Sl.noConfusion hi
    rw [h2]
    exact r.scr i o ds h1
  sep := fun i j o ds es hi hj => r.sep i j o ds es (h i (.own o ds) Sl.noConfusion hi).1 (h j (.own o es) Sl.noConfusion hj).1
  fr := r.fr
theorem Rep.wipe (r : Rep K Fr ρ σ H0 H) (vs : List Nat) : Rep K Fr (wipeR ρ vs) (L2.wipe σ vs) H0 H :=
  r.remap (by rw [wipe_length, wipeR_len]; exact r.len) fun i x hx hi => by
    obtain ⟨h1, h2⟩ := wipeR_get hx hi
    exact ⟨h1, wipe_out h2⟩
theorem Rep.unwipe {vs : List Nat} (r : Rep K Fr ρ (L2.wipe σ vs) H0 H) : Rep K Fr (wipeR ρ vs) σ H0 H :=
  r.remap (by rw [wipeR_len, ← r.len, wipe_length]) fun i x hx hi => by
    obtain ⟨h1, h2⟩ := wipeR_get hx hi
    exact ⟨h1, (wipe_out h2).symm⟩
theorem Rep.frameIn (r : Rep K Fr ρ σ H0 H) {p : Addr} {vs : List V} (hh : H p = some (.lst vs)) (hp : H0 p = none) (ho : ∀ (j : Nat) (o : Addr) (es : List PyData), ρ[j]? = some (Sl.own o es) → o ≠ p) : Rep K (upd Fr p (.lst vs)) ρ σ H0 H :=
  ⟨r.ex, r.len, r.dat, fun i o es h => by
    obtain ⟨k1, k2, k3, k4⟩ := r.own i o es h
    exact ⟨k1, k2, by rw [upd_ne (ho i o es h)]; exact k3, k4⟩, r.scr, r.sep, fun b x h => by
    by_cases z : b = p
    · rw [z, upd_same] at h; rw [z]; cases h; exact ⟨hh, hp⟩
    · rw [upd_ne z] at h; exact r.fr b x h⟩
theorem Rep.frameOut {p : Addr} {vs : List V} (r : Rep K (upd Fr p (.lst vs)) ρ σ H0 H) (hf : Fr p = none) : Rep K Fr ρ σ H0 H ∧ H p = some (.lst vs) ∧ H0 p = none ∧ ∀ (j : Nat) (o : Addr) (es : List PyData), ρ[j]? = some (Sl.own o es) → o ≠ p := by
  obtain ⟨f1, f2⟩ := r.fr p _ upd_same
  have ho : ∀ (j : Nat) (o : Addr) (es : List PyData), ρ[j]? = some (Sl.own o es) → o ≠ p := fun i o es h z => by
    obtain ⟨k1, k2, k3, k4⟩ := r.own i o es h
    rw [z, upd_same] at k3; cases k3
  refine ⟨⟨r.ex, r.len, r.dat, fun i o es h => ?_, r.scr, r.sep, fun b x h => ?_⟩, f1, f2, ho⟩
  · obtain ⟨k1, k2, k3, k4⟩ := r.own i o es h
    exact ⟨k1, k2, by rw [upd_ne (ho i o es h)] at k3; exact k3, k4⟩
  · by_cases z : b = p
    · rw [z, hf] at h; cases h
    · exact r.fr b x (by rw [upd_ne z]; exact h)
theorem Rep.upFree (r : Rep K Fr ρ σ H0 H) {p : Addr} {u : HO} (hp : H0 p = none) (hf : Fr p = none) (ho : ∀ (j : Nat) (o : Addr) (es : List PyData), ρ[j]? = some (Sl.own o es) → o ≠ p) : Rep K Fr ρ σ H0 (upd H p u) :=
  ⟨r.ex.mut hp, r.len, r.dat, fun i o es h => by
    obtain ⟨k1, k2, k3, vs, k4, k5⟩ := r.own i o es h
    exact ⟨k1, k2, k3, vs, by rw [upd_ne (ho i o es h)]; exact k4, k5⟩, r.scr, r.sep, fun b x h => by
    obtain ⟨f1, f2⟩ := r.fr b x h
    exact ⟨by rw [upd_ne (ne_of_none h hf)]; exact f1, f2⟩⟩
theorem own_wipe {vs : List Nat} {p : Addr} (ho : ∀ (j : Nat) (o : Addr) (es : List PyData), ρ[j]? = some (Sl.own o es) → o ≠ p) : ∀ (j : Nat) (o : Addr) (es : List PyData), (wipeR ρ vs)[j]? = some (Sl.own o es) → o ≠ p :=
  fun j o es h => ho j o es (wipeR_get (x := .own o es) Sl.noConfusion h).1
end
/-- a comprehension's target -/
def WC (K : PySem.W.Frag) (vs : List Nat) (g : TG) (d : PyData) (ρ : List Sl) (N : List Sl → Prop) : Prop :=
  ∀ (Fr : Hp) (σ : L2.St) (H0 H : Hp) (v : V), Rep K Fr ρ (L2.wipe σ vs) H0 H → Rv K H0 v d → ∀ k : L2.St → Hp → Prop,
    (∀ (ρ' : List Sl) (σ' : L2.St), L2.wipe σ' vs = L2.wipe σ vs → Rep K Fr ρ' σ' H0 H → N ρ' → k σ' H) → g v (L2.wipe σ vs) H k
section
variable {K : PySem.W.Frag} {te ta tb tl : TE} {tr tas : TA} {tt tu : TT} {ρ : List Sl} {Q : PyData → List Sl → Prop} {QL : List PyData → List Sl → Prop} {N : List Sl → Prop} {R : PyData → List Sl → Prop} {g : TG} {vs : List Nat}
theorem wc_1 {i : Nat} {d : PyData} (q : N (ρ.set i (.dat d))) : WC K [i] (gName i) d ρ N := fun Fr σ H0 H v r rv k f =>
  f _ _ (by show ((σ.set i none).set i (some v)).set i none = σ.set i none; rw [List.set_set, List.set_set]) (r.set i rv) q
theorem wc_2 {i j : Nat} (hij : i ≠ j) {a b : PyData} (q : N ((ρ.set i (.dat a)).set j (.dat b))) : WC K [i, j] (gTup K 2 (gCons (gName i) (gCons (gName j) gNil))) (.tuple [a, b]) ρ N := fun Fr σ H0 H v r rv k f => by
  obtain ⟨p, ws, rfl, h1, h2⟩ := rv.tuple_inv
  obtain ⟨x, y, rfl, rx, ry⟩ := rv2 h2
  refine ⟨p, _, rfl, ex_t r.ex h1, rfl, x, [y], rfl, y, [], rfl, rfl, f _ _ ?_ ((r.set i rx).set j ry) q⟩
  show ((((((σ.set j none).set i none).set i (some x)).set j (some y)).set j none).set i none) = (σ.set j none).set i none
  rw [List.set_set, List.set_set, List.set_comm (l := σ.set j none) _ _ hij, List.set_set, List.set_set]
/-- within a comprehension -/
def CI (K : PySem.W.Frag) (Fr H0 : Hp) (vs : List Nat) (σ : L2.St) (D : Addr) (I : Nat → List PyData → List Sl → Prop) (i : Nat) (H : Hp) : Prop :=
  ∃ (acc : List PyData) (us : List V) (ρ : List Sl) (H1 : Hp), Ex H0 H1 ∧ Rep K Fr ρ (L2.wipe σ vs) H1 H ∧ H1 D = none ∧ Fr D = none ∧ H D = some (.lst us) ∧ RvAll K H1 us acc ∧
    (∀ (j : Nat) (o : Addr) (es : List PyData), ρ[j]? = some (Sl.own o es) → o ≠ D) ∧ acc.length ≤ i ∧ I i acc ρ
theorem ci_turn {Fr H0 : Hp} {σ : L2.St} {D : Addr} {I : Nat → List PyData → List Sl → Prop} {i : Nat} {H : Hp} {x : V} {d : PyData} (c : CI K Fr H0 vs σ D I i H) (hi : i ≤ 1000000) (hx : ∀ H1, Ex H0 H1 → Rv K H1 x d)
    (hs : ∀ acc ρ2, I i acc ρ2 → WC K vs g d ρ2 fun ρ3 => WT K tt ρ3 fun b ρ4 => (b = true → WE K te ρ4 fun y ρ5 => I (i + 1) (acc ++ [y]) (wipeR ρ5 vs)) ∧ (b = false → I (i + 1) acc (wipeR ρ4 vs))) :
    g x (L2.wipe σ vs) H fun σ2 H2 => L2.wipe σ2 vs = L2.wipe σ vs ∧ tt σ2 H2 fun b H3 => if b = true then te σ2 H3 fun y H4 => ∃ acc, H4 D = some (.lst acc) ∧ acc.length < sizeLine ∧ CI K Fr H0 vs σ D I (i + 1) (upd H4 D (.lst (acc ++ [y]))) else CI K Fr H0 vs σ D I (i + 1) H3 := by
  obtain ⟨acc, us, ρ, H1, e1, r, hD, hF, hh, rv, ho, hl, q⟩ := c
  have rin := r.frameIn hh hD ho
  refine hs acc ρ q _ σ H1 H x rin (hx H1 e1) _ fun ρ3 σ3 w3 r3 q3 => ⟨w3, ?_⟩
  refine q3 _ σ3 H1 H r3 _ fun b ρ4 H4 H4' e4 r4 ⟨qt, qf⟩ => ?_
  cases b with
  | true =>
    show te σ3 H4' _
    refine qt rfl _ σ3 H4 H4' r4 _ fun y d5 ρ5 H5 H5' e5 r5 ry q5 => ?_
    obtain ⟨r6, a1, a2, a3⟩ := r5.frameOut hF
    refine ⟨us, a1, Nat.lt_of_le_of_lt (by rw [rv.length]; exact Nat.le_trans hl hi) (by decide), acc ++ [d5], us ++ [y], wipeR ρ5 vs, H5, e1.trans (e4.trans e5), ?_, a2, hF, upd_same, ((rv.mono e4).mono e5).append (.cons ry .nil), own_wipe a3, by rw [List.length_append]; exact Nat.succ_le_succ hl, q5⟩
    have := (r6.wipe vs)
    rw [w3] at this
    exact this.upFree a2 hF (own_wipe a3)
  | false =>
    show CI K Fr H0 vs σ D I (i + 1) H4'
    obtain ⟨r6, a1, a2, a3⟩ := r4.frameOut hF
    refine ⟨acc, us, wipeR ρ4 vs, H4, e1.trans e4, ?_, a2, hF, a1, rv.mono e4, own_wipe a3, Nat.le_succ_of_le hl, qf rfl⟩
    have := (r6.wipe vs)
    rw [w3] at this
    exact this
theorem ci_start {Fr H0 H : Hp} {ρ : List Sl} {σ : L2.St} (r : Rep K Fr ρ σ H0 H) {D : Addr} (hD : H D = none) {I : Nat → List PyData → List Sl → Prop} (h : I 0 [] (wipeR ρ vs)) : CI K Fr H0 vs σ D I 0 (upd H D (.lst [])) := by
  obtain ⟨r2, h0, hf, ho⟩ := laid r hD []
  exact ⟨[], [], wipeR ρ vs, H0, Ex.refl H0, r2.wipe vs, h0, hf, upd_same, .nil, own_wipe ho, Nat.le_refl _, h⟩
theorem wl_lc (h : WE K tl ρ fun d ρ1 => ∃ ds, ∃ I : Nat → List PyData → List Sl → Prop, d = .list ds ∧ ds.length ≤ 1000000 ∧ I 0 [] (wipeR ρ1 vs) ∧
    (∀ (i : Nat) x acc ρ2, ds[i]? = some x → I i acc ρ2 → WC K vs g x ρ2 fun ρ3 => WT K tt ρ3 fun b ρ4 => (b = true → WE K te ρ4 fun y ρ5 => I (i + 1) (acc ++ [y]) (wipeR ρ5 vs)) ∧ (b = false → I (i + 1) acc (wipeR ρ4 vs))) ∧
    ∀ acc ρ2, I ds.length acc ρ2 → QL acc (wipeR ρ2 vs)) : WL K (tLc (iList K tl) g tt te vs) ρ QL := fun Fr σ H0 H r k f =>
  h Fr σ H0 H r _ fun v d ρ1 H1 H1' e1 r1 rv ⟨ds, I, hd, hz, i0, hs, hQ⟩ => by
    subst hd
    obtain ⟨a, ws, rfl, h1, h2⟩ := rv.list_inv
    refine ⟨a, rfl, ⟨ws, SqL.of (r1.ex _ _ h1)⟩, fun D hD => lc_list (xs := ws) (CI K Fr H1 vs σ D I) (ci_start r1 hD i0) (fun i H2 _ c => ?_) (fun i x H2 hx c => ?_) fun H2 c => ?_⟩
    · obtain ⟨acc, us, ρ2, H3, e3, r3, _⟩ := c
      exact SqL.of (r3.ex _ _ (e3 _ _ h1))
    · obtain ⟨d, hd, rd⟩ := h2.get' hx
      exact ci_turn c (by have := (List.getElem?_eq_some_iff.mp hd).1; omega) (fun H3 e3 => rd.mono e3) fun acc ρ2 q => hs i d acc ρ2 hd q
    · obtain ⟨acc, us, ρ2, H3, e3, r3, c1, c2, c3, c4, c5, c6, c7⟩ := c
      rw [h2.length] at c7
      exact f D us acc (wipeR ρ2 vs) H3 H2 (e1.trans e3) r3.unwipe c1 c2 c3 c4 (own_wipe c5) (hQ acc ρ2 c7)
theorem wl_lcR (h : WA K tas ρ fun ds ρ1 => ∃ n : Int, ∃ I : Nat → List PyData → List Sl → Prop, ds = [.int n] ∧ 0 ≤ n ∧ n ≤ 1000000 ∧ I 0 [] (wipeR ρ1 vs) ∧
    (∀ (i : Nat) acc ρ2, (i : Int) < n → I i acc ρ2 → WC K vs g (.int (i : Int)) ρ2 fun ρ3 => WT K tt ρ3 fun b ρ4 => (b = true → WE K te ρ4 fun y ρ5 => I (i + 1) (acc ++ [y]) (wipeR ρ5 vs)) ∧ (b = false → I (i + 1) acc (wipeR ρ4 vs))) ∧
    ∀ acc ρ2, I n.toNat acc ρ2 → QL acc (wipeR ρ2 vs)) : WL K (tLc (iRng1 tas) g tt te vs) ρ QL := fun Fr σ H0 H r k f =>
  h Fr σ H0 H r _ fun ws ds ρ1 H1 H1' e1 r1 rv ⟨n, I, hd, hz, hz2, i0, hs, hQ⟩ => by
    subst hd
    obtain ⟨v, rfl, rn⟩ := rv1 rv
    rw [rn.int_inv]
    refine ⟨n, rfl, by omega, by omega, fun D hD => lc_range (CI K Fr H1 vs σ D I) (ci_start r1 hD i0) (fun i H2 hi c => ?_) fun H2 c => ?_⟩
    · have e : (0 : Int) + (i : Int) = (i : Int) := Int.zero_add _
      rw [e]
      exact ci_turn c (by omega) (fun H3 e3 => .int _) fun acc ρ2 q => hs i acc ρ2 (by omega) q
    · obtain ⟨acc, us, ρ2, H3, e3, r3, c1, c2, c3, c4, c5, c6, c7⟩ := c
      exact f D us acc (wipeR ρ2 vs) H3 H2 (e1.trans e3) r3.unwipe c1 c2 c3 c4 (own_wipe c5) (hQ acc ρ2 c7)
end
end Lg


set_option Elab.async false
set_option linter.all false
set_option maxRecDepth 100000
set_option maxHeartbeats 4000000
namespace Lg
open PySem PySem.Spec PyProof.Rows L2

/-! ### promises -/
/-- what a def does with data -/
structure Fs where
  run : List PyData → (PyData → Prop) → Prop
  mono : ∀ ds (k k' : PyData → Prop), (∀ d, k d → k' d) → run ds k → run ds k'
/-- with a list of ints of the caller's own ahead, which it may change -/
structure Ps where
  run : List Int → List PyData → (List Int → PyData → Prop) → Prop
  mono : ∀ xs ds (k k' : List Int → PyData → Prop), (∀ ys d, k ys d → k' ys d) → run xs ds k → run xs ds k'
def SpF (K : PySem.W.Frag) (S : Fs) : Sp := fun vs H Q _ => ∃ (H0 : Hp) (ds : List PyData), Ex H0 H ∧ RvAll K H0 vs ds ∧
  S.run ds fun d => ∀ (v : V) (H0' H' : Hp), Ex H0 H0' → Ex H0' H' → Keeps H0 H H0' H' → Rv K H0' v d → Q v H'
def KeepsBut (a : Addr) (H0 H H0' H' : Hp) : Prop := ∀ b x, b ≠ a → H b = some x → H0 b = none → H' b = some x ∧ H0' b = none
def SpP (K : PySem.W.Frag) (S : Ps) : Sp := fun ws H Q _ => ∃ (H0 : Hp) (a : Addr) (xs : List Int) (vs : List V) (ds : List PyData), ws = .ref a :: vs ∧ Ex H0 H ∧ H0 a = none ∧ H a = some (.lst (xs.map V.int)) ∧ RvAll K H0 vs ds ∧
  S.run xs ds fun ys d => ∀ (v : V) (H0' H' : Hp), Ex H0 H0' → Ex H0' H' → KeepsBut a H0 H H0' H' → H0' a = none → H' a = some (.lst (ys.map V.int)) → Rv K H0' v d → Q v H'
/-- of the script and an int -/
def SpC (K : PySem.W.Frag) (S : List Int → Int → (PyData → Prop) → Prop) : Sp := fun ws H Q _ => ∃ (H0 : Hp) (a : Addr) (ns : List Int) (n : Int), ws = [.ref a, .int n] ∧ Ex H0 H ∧ SqL K H0 a (ns.map V.int) ∧
  S ns n fun d => ∀ (v : V) (H0' H' : Hp), Ex H0 H0' → Ex H0' H' → Keeps H0 H H0' H' → Rv K H0' v d → Q v H'

section
variable {K : PySem.W.Frag} {te ta tb tl : TE} {tr tas : TA} {tt tu : TT} {ρ : List Sl} {Q : PyData → List Sl → Prop}
theorem we_call {S : Fs} {E : XK} (h : WA K tas ρ fun ds ρ1 => S.run ds fun d => Q d ρ1) : WE K (tCall (SpF K S) [] E tas) ρ Q := fun Fr σ H0 H r k f =>
  h Fr σ H0 H r _ fun vs ds ρ1 H1 H1' e1 r1 rv q => by
    rw [List.append_nil]
    exact ⟨H1, ds, r1.ex, rv, S.mono ds _ _ (fun d q v H2 H2' e2 ee kp rw => f v d ρ1 H2 H2' (e1.trans e2) (r1.grow e2 ee kp) rw q) q⟩
theorem Rep.growBut {Fr H0 H H0' H' : Hp} {σ : L2.St} {i : Nat} {a : Addr} {ds es : List PyData} {us : List V} (r : Rep K Fr ρ σ H0 H) (hi : ρ[i]? = some (Sl.own a ds)) (e : Ex H0 H0') (e2 : Ex H0' H') (k : KeepsBut a H0 H H0' H')
    (ha : H0' a = none) (hh : H' a = some (.lst us)) (hd : RvAll K H0' us es) : Rep K Fr (ρ.set i (.own a es)) σ H0' H' := by
  obtain ⟨h1, h2, h3, ws, h4, h5⟩ := r.own i a ds hi
  have li : i < ρ.length := (List.getElem?_eq_some_iff.mp hi).1
  have other : ∀ (j : Nat) (o : Addr) (fs : List PyData), i ≠ j → ρ[j]? = some (Sl.own o fs) → o ≠ a := fun j o fs z hj e => by
    subst e
    exact z (r.sep i j o ds fs hi hj)
  refine ⟨e2, by rw [List.length_set]; exact r.len, fun j d hj => ?_, fun j o fs hj => ?_, fun j a ns hj => ?_, fun j k o fs gs hj hk => ?_, fun b x hb => ?_⟩
  · by_cases z : i = j
    · subst z; rw [List.getElem?_set_self li] at hj; cases hj
    · rw [List.getElem?_set_ne z] at hj
      obtain ⟨v, k1, k2⟩ := r.dat j d hj
      exact ⟨v, k1, k2.mono e⟩
  · by_cases z : i = j
    · subst z
      rw [List.getElem?_set_self li] at hj
      cases hj
      exact ⟨h1, ha, h3, us, hh, hd⟩
    · rw [List.getElem?_set_ne z] at hj
      obtain ⟨k1, k2, k3, us', k4, k5⟩ := r.own j o fs hj
      obtain ⟨m1, m2⟩ := k o _ (other j o fs z hj) k4 k2
      exact ⟨k1, m2, k3, us', m1, k5.mono e⟩
  · by_cases z : i = j
    · subst z; rw [List.getElem?_set_self li] at hj; cases hj
    · rw [List.getElem?_set_ne z] at hj
      obtain ⟨k1, k2⟩ := r.scr j a ns hj
      exact ⟨k1, ex_l e k2⟩
  · have f : ∀ (j : Nat) (es' : List PyData), (ρ.set i (Sl.own a es))[j]? = some (Sl.own o es') → ∃ es'', ρ[j]? = some (Sl.own o es'') := fun j es' hj => by
      by_cases z : i = j
      · subst z
        rw [List.getElem?_set_self li] at hj
        cases hj
        exact ⟨_, hi⟩
      · rw [List.getElem?_set_ne z] at hj
        exact ⟨_, hj⟩
    obtain ⟨_, a1⟩ := f j fs hj
    obtain ⟨_, b1⟩ := f k gs hk
    exact r.sep j k o _ _ a1 b1
  · obtain ⟨k1, k2⟩ := r.fr b x hb
    have : b ≠ a := ne_of_none hb h3
    exact k b x this k1 k2
theorem we_callP {S : Ps} {E : XK} {i : Nat} {o : Addr} {ds0 : List PyData} (hi : ρ[i]? = some (Sl.own o ds0)) (h : WA K tr ρ fun ds ρ1 => ∃ xs : List Int, ρ1[i]? = some (Sl.own o (xs.map PyData.int)) ∧ S.run xs ds fun ys d => Q d (ρ1.set i (.own o (ys.map PyData.int)))) :
    WE K (tCall (SpP K S) [] E (tCons (tVar i) tr)) ρ Q := fun Fr σ H0 H r k f => by
  obtain ⟨h1, _⟩ := r.own i o ds0 hi
  refine ⟨.ref o, h1, h Fr σ H0 H r _ fun vs ds ρ1 H1 H1' e1 r1 rv ⟨xs, hj, q⟩ => ?_⟩
  obtain ⟨k1, k2, k3, ws, k4, k5⟩ := r1.own i o _ hj
  rw [RvAll.intsV xs k5] at k4
  rw [List.append_nil]
  exact ⟨H1, o, xs, vs, ds, rfl, r1.ex, k2, k4, rv, S.mono xs ds _ _ (fun ys d q v H2 H2' e2 ee kp ha hh rw => f v d _ H2 H2' (e1.trans e2) (r1.growBut hj e2 ee kp ha hh (RvAll.ints ys)) rw q) q⟩
theorem we_callC {S : List Int → Int → (PyData → Prop) → Prop} {E : XK} {i : Nat} {a : Addr} {ns : List Int} {n : Int} (hi : ρ[i]? = some (Sl.scr a ns)) (mono : ∀ (k k' : PyData → Prop), (∀ d, k d → k' d) → S ns n k → S ns n k') (h : S ns n fun d => Q d ρ) :
    WE K (tCall (SpC K S) [] E (tCons (tVar i) (tCons (tC (.int n)) tNil))) ρ Q := fun Fr σ H0 H r k f => by
  obtain ⟨h1, h2⟩ := r.scr i a ns hi
  refine ⟨.ref a, h1, ?_⟩
  show SpC K S _ H _ E
  exact ⟨H0, a, ns, n, rfl, r.ex, h2, mono _ _ (fun d q v H2 H2' e2 ee kp rw => f v d ρ H2 H2' e2 (r.grow e2 ee kp) rw q) h⟩
end

/-! ### defs -/
structure Ok (P : Program) (w : World) (K : PySem.W.Frag) (mg : Str → Option Value) (base : Heap) (x : Str) (ps : List Str) (k : Nat) (sp : Sp) : Prop where
  ex : ∃ (f : Addr) (fd : FuncData), mg x = some (.ref f) ∧ PySem.W.keepIn K (.ref f) = true ∧ Binds K fd ps [] ∧ FnOk P w K mg base CX0 k f fd ps sp
structure Df (K : PySem.W.Frag) (mg : Str → Option Value) (x : Str) (st : Stmt) (ps : List Str) : Prop where
  ex : ∃ (f : Addr) (fd : FuncData), Fun K x x st f fd ∧ mg x = some (.ref f) ∧ Binds K fd ps []
theorem pe_ok {X : Cx} {P : Program} {w : World} {K : PySem.W.Frag} {mg : Str → Option Value} {base : Heap} {x : Str} {ps : List Str} {j k : Nat} {sp : Sp} {p pos : Pos} {e : Expr} {es : List Expr} {t : TA} (h : Ok P w K mg base x ps j sp) (hr : Room k X.A) (hj : j ≤ k) (hg : Gl X x) (ha : PA X (e :: es) t)
    (eP : X.prog = P := by rfl) (ew : X.w = w := by rfl) (eK : X.K = K := by rfl) (em : X.mg = mg := by rfl) (eb : X.base = base := by rfl)
    (hdb : (x == ("__debug__" : Str)) = false := by decide) (he : starEach (e :: es) X.env = (false, eval e X.env) :: starEach es X.env := by rfl) (hpl : (backTo pos (starEach es X.env)).any (·.1) = false := by rfl) :
    PE X (.Call (.Name x p) (e :: es) [] pos) (tCall sp [] E0 t) := by
  subst eP ew eK em eb
  obtain ⟨f, fd, h1, h2, h3, h4⟩ := h.ex
  exact pe_call h4 (hr.mono hj) hg h1 h2 h3 .nil pass0 ha hdb he hpl
theorem nox_K {CX : CXT} {P : Program} {w : World} {K : PySem.W.Frag} {mg : Str → Option Value} {base : Heap} {N : List Str} {q : Str} {sc : Scope} {f : Addr} {cd : Value} {A : Around} {o : List PySem.Env} {s : Shared} {H : Hp} {E : XK} : (cxOf CX P w K mg base N q sc f cd A o s H E).K = K := rfl
/-- the names at the entry -/
def ent (n : Nat) (ds : List PyData) : List Sl := ds.map Sl.dat ++ List.replicate (n - ds.length) .no
theorem get_start {N : List Str} {vs : List V} {i : Nat} {v : V} (h : vs[i]? = some v) : (L2.start N vs)[i]? = some (some v) := by
  unfold L2.start
  have l := (List.getElem?_eq_some_iff.mp h).1
  rw [List.getElem?_append_left (by rw [List.length_map]; exact l), List.getElem?_map, h]
  rfl
theorem start_len {N : List Str} {vs : List V} : (L2.start N vs).length = vs.length + (N.length - vs.length) := by
  unfold L2.start
  rw [List.length_append, List.length_map, List.length_replicate]
theorem ent_get {n : Nat} {ds : List PyData} {i : Nat} {x : Sl} (hx : x ≠ .no) (h : (ent n ds)[i]? = some x) : ∃ d, x = .dat d ∧ ds[i]? = some d := by
  unfold ent at h
  by_cases l : i < ds.length
  · rw [List.getElem?_append_left (by rw [List.length_map]; exact l), List.getElem?_map] at h
    cases e : ds[i]? with
    | none => rw [e] at h; cases h
    | some d =>
      rw [e] at h
      exact ⟨d, (Option.some.inj h).symm, rfl⟩
  · rw [List.getElem?_append_right (by rw [List.length_map]; omega), List.getElem?_replicate] at h
    split at h
    · exact absurd (Option.some.inj h).symm hx
    · cases h
/-- the part of the heap that is not lent -/
def kept (H0 H : Hp) : Hp := fun b => match H0 b with
  | none => H b
  | some _ => none
theorem kept_get {H0 H : Hp} {b : Addr} {x : HO} : kept H0 H b = some x ↔ H b = some x ∧ H0 b = none := by
  unfold kept
  cases e : H0 b with
  | none => simp
  | some y => simp
theorem rep_start {K : PySem.W.Frag} {N : List Str} {H0 H : Hp} {vs : List V} {ds : List PyData} (e : Ex H0 H) (rv : RvAll K H0 vs ds) : Rep K (kept H0 H) (ent N.length ds) (L2.start N vs) H0 H where
  ex := e
  len := by
    rw [start_len, rv.length]
    unfold ent
    rw [List.length_append, List.length_map, List.length_replicate]
  dat := fun i d h => by
    obtain ⟨d', h1, h2⟩ := ent_get Sl.noConfusion h
    cases h1
    obtain ⟨v, e1, e2⟩ := rv.get h2
    exact ⟨v, get_start e1, e2⟩
  own := fun i o ds h => by
    obtain ⟨d', h1, h2⟩ := ent_get Sl.noConfusion h
    cases h1
  scr := fun i o ds h => by
    obtain ⟨d', h1, h2⟩ := ent_get Sl.noConfusion h
    cases h1
  sep := fun i j o ds es h _ => by
    obtain ⟨d', h1, h2⟩ := ent_get Sl.noConfusion h
    cases h1
  fr := fun b x h => kept_get.mp h
section
variable {P : Program} {w : World} {K : PySem.W.Frag} {mg : Str → Option Value} {base : Heap} {x : Str} {st : Stmt} {N ps : List Str} {k : Nat}
theorem okF {S : Fs} (D : Df K mg x st ps) (sc : FnScope N ps (defScope st)) (len : ∀ ds k, S.run ds k → ds.length = ps.length)
    (body : ∀ (cdv : Value) (A : Around) (outer : List Env) (s : Shared) (H : Hp) (E : XK) (f : Addr), Room k (A.deeper (envOfC x (defScope st) s.heap.objs.size f cdv)) →
      ∃ t, PSs (cxOf CX0 P w K mg base N x (defScope st) f cdv A outer s H E).nox (defBody st) t ∧ ∀ ds kq, S.run ds kq → WS K t (ent N.length ds) (fun _ => False) (fun d _ => kq d)) : Ok P w K mg base x ps (k + 1) (SpF K S) := by
  obtain ⟨f, fd, F, hm, hb⟩ := D.ex
  refine ⟨f, fd, hm, F.kp, hb, F.ok sc (fun vs H Q E h => ?_) fun cdv A outer s H vs Q E hr h => ?_⟩
  · obtain ⟨H0, ds, e, rv, q⟩ := h
    rw [rv.length]
    exact len ds _ q
  · obtain ⟨H0, ds, e, rv, q⟩ := h
    obtain ⟨t, ht, hq⟩ := body cdv A outer s H E f hr
    refine ⟨t, ht, hq ds _ q (kept H0 H) (L2.start N vs) H0 H (rep_start e rv) _ (fun _ _ _ _ _ _ z => z.elim) fun v d ρ σ H1 H1' e1 r1 rw q1 => ?_⟩
    exact q1 v H1 H1' e1 r1.ex (fun b y hb h0 => r1.fr b y (kept_get.mpr ⟨hb, h0⟩)) rw
theorem okP {S : Ps} (D : Df K mg x st ps) (sc : FnScope N ps (defScope st)) (len : ∀ xs ds k, S.run xs ds k → ds.length + 1 = ps.length)
    (body : ∀ (cdv : Value) (A : Around) (outer : List Env) (s : Shared) (H : Hp) (E : XK) (f : Addr), Room k (A.deeper (envOfC x (defScope st) s.heap.objs.size f cdv)) →
      ∃ t, PSs (cxOf CX0 P w K mg base N x (defScope st) f cdv A outer s H E).nox (defBody st) t ∧
        ∀ (a : Addr) xs ds kq, S.run xs ds kq → WS K t (.own a (xs.map PyData.int) :: ent (N.length - 1) ds) (fun _ => False) (fun d ρ' => ∃ ys : List Int, ρ'[0]? = some (Sl.own a (ys.map PyData.int)) ∧ kq ys d)) : Ok P w K mg base x ps (k + 1) (SpP K S) := by
  obtain ⟨f, fd, F, hm, hb⟩ := D.ex
  refine ⟨f, fd, hm, F.kp, hb, F.ok sc (fun vs H Q E h => ?_) fun cdv A outer s H vs Q E hr h => ?_⟩
  · obtain ⟨H0, a, xs, vs, ds, rfl, e, h0, hh, rv, q⟩ := h
    rw [List.length_cons, rv.length]
    exact len xs ds _ q
  · obtain ⟨H0, a, xs, vs, ds, rfl, e, h0, hh, rv, q⟩ := h
    obtain ⟨t, ht, hq⟩ := body cdv A outer s H E f hr
    have hN : N.length ≠ 0 := by
      have l1 := len xs ds _ q
      have l2 := congrArg List.length sc.pre
      rw [List.length_take] at l2
      omega
    have rep : Rep K (fun b => if b = a then none else kept H0 H b) (.own a (xs.map PyData.int) :: ent (N.length - 1) ds) (L2.start N (.ref a :: vs)) H0 H := by
      refine ⟨e, ?_, fun i d h => ?_, fun i o es h => ?_, fun i o es h => ?_, fun i j o es fs hi hj => ?_, fun b y h => ?_⟩
      · rw [start_len, List.length_cons, rv.length, List.length_cons]
        unfold ent
        rw [List.length_append, List.length_map, List.length_replicate]
        omega
      · cases i with
        | zero => cases h
        | succ i =>
          rw [List.getElem?_cons_succ] at h
          obtain ⟨d', h1, h2⟩ := ent_get Sl.noConfusion h
          cases h1
          obtain ⟨v, e1, e2⟩ := rv.get h2
          exact ⟨v, get_start (by rw [List.getElem?_cons_succ]; exact e1), e2⟩
      · cases i with
        | zero =>
          cases h
          exact ⟨get_start rfl, h0, if_pos rfl, _, hh, RvAll.ints xs⟩
        | succ i =>
          rw [List.getElem?_cons_succ] at h
          obtain ⟨d', h1, h2⟩ := ent_get Sl.noConfusion h
          cases h1
      · cases i with
        | zero => cases h
        | succ i =>
          rw [List.getElem?_cons_succ] at h
          obtain ⟨d', h1, h2⟩ := ent_get Sl.noConfusion h
          cases h1
      · cases i with
        | zero =>
          cases j with
          | zero => rfl
          | succ j =>
            rw [List.getElem?_cons_succ] at hj
            obtain ⟨d', h1, h2⟩ := ent_get Sl.noConfusion hj
            cases h1
        | succ i =>
          rw [List.getElem?_cons_succ] at hi
          obtain ⟨d', h1, h2⟩ := ent_get Sl.noConfusion hi
          cases h1
      · by_cases z : b = a
        · rw [if_pos z] at h; cases h
        · rw [if_neg z] at h; exact kept_get.mp h
    refine ⟨t, ht, hq a xs ds _ q _ _ H0 H rep _ (fun _ _ _ _ _ _ z => z.elim) fun v d ρ σ H1 H1' e1 r1 rw q1 => ?_⟩
    obtain ⟨ys, hy, q2⟩ := q1
    obtain ⟨k1, k2, k3, us, k4, k5⟩ := r1.own 0 a _ hy
    refine q2 v H1 H1' e1 r1.ex (fun b y hn hb h0 => r1.fr b y ?_) k2 ?_ rw
    · show (if b = a then none else kept H0 H b) = some y
      rw [if_neg hn]
      exact kept_get.mpr ⟨hb, h0⟩
    · rw [RvAll.intsV ys k5] at k4
      exact k4
theorem okC {S : List Int → Int → (PyData → Prop) → Prop} (D : Df K mg x st ps) (hps : ps.length = 2) (sc : FnScope N ps (defScope st))
    (body : ∀ (cdv : Value) (A : Around) (outer : List Env) (s : Shared) (H : Hp) (E : XK) (f : Addr), Room k (A.deeper (envOfC x (defScope st) s.heap.objs.size f cdv)) →
      ∃ t, PSs (cxOf CX0 P w K mg base N x (defScope st) f cdv A outer s H E).nox (defBody st) t ∧
        ∀ (a : Addr) ns n kq, S ns n kq → WS K t (.scr a ns :: ent (N.length - 1) [.int n]) (fun _ => False) (fun d ρ' => kq d)) : Ok P w K mg base x ps (k + 1) (SpC K S) := by
  obtain ⟨f, fd, F, hm, hb⟩ := D.ex
  refine ⟨f, fd, hm, F.kp, hb, F.ok sc (fun vs H Q E h => ?_) fun cdv A outer s H vs Q E hr h => ?_⟩
  · obtain ⟨H0, a, ns, n, rfl, e, hs, q⟩ := h
    rw [hps]
    rfl
  · obtain ⟨H0, a, ns, n, rfl, e, hs, q⟩ := h
    obtain ⟨t, ht, hq⟩ := body cdv A outer s H E f hr
    have hN : 2 ≤ N.length := by
      have l2 := congrArg List.length sc.pre
      rw [List.length_take] at l2
      omega
    have rv : RvAll K H0 [.int n] [.int n] := .cons (.int n) .nil
    have rep : Rep K (kept H0 H) (.scr a ns :: ent (N.length - 1) [.int n]) (L2.start N [.ref a, .int n]) H0 H := by
      refine ⟨e, ?_, fun i d h => ?_, fun i o es h => ?_, fun i o es h => ?_, fun i j o es fs hi hj => ?_, fun b y h => kept_get.mp h⟩
      · rw [start_len]
        unfold ent
        simp only [List.length_append, List.length_map, List.length_replicate, List.length_cons, List.length_nil]
        omega
      · cases i with
        | zero => cases h
        | succ i =>
          rw [List.getElem?_cons_succ] at h
          obtain ⟨d', h1, h2⟩ := ent_get Sl.noConfusion h
          cases h1
          obtain ⟨v, e1, e2⟩ := rv.get h2
          exact ⟨v, get_start (by rw [List.getElem?_cons_succ]; exact e1), e2⟩
      · cases i with
        | zero => cases h
        | succ i =>
          rw [List.getElem?_cons_succ] at h
          obtain ⟨d', h1, h2⟩ := ent_get Sl.noConfusion h
          cases h1
      · cases i with
        | zero =>
          cases h
          exact ⟨get_start rfl, hs⟩
        | succ i =>
          rw [List.getElem?_cons_succ] at h
          obtain ⟨d', h1, h2⟩ := ent_get Sl.noConfusion h
          cases h1
      · cases i with
        | zero => cases hi
        | succ i =>
          rw [List.getElem?_cons_succ] at hi
          obtain ⟨d', h1, h2⟩ := ent_get Sl.noConfusion hi
          cases h1
    refine ⟨t, ht, hq a ns n _ q _ _ H0 H rep _ (fun _ _ _ _ _ _ z => z.elim) fun v d ρ σ H1 H1' e1 r1 rw q1 => ?_⟩
    exact q1 v H1 H1' e1 r1.ex (fun b y hb h0 => r1.fr b y (kept_get.mpr ⟨hb, h0⟩)) rw
end
end Lg


set_option Elab.async false
set_option linter.all false
set_option maxRecDepth 100000
set_option maxHeartbeats 4000000
namespace Lg
open PySem PySem.Spec PyProof.Rows L2
/-! over lists that are images -/
section
variable {K : PySem.W.Frag} {te ta tb tl : TE} {tr tas : TA} {tt tu : TT} {ρ : List Sl} {Q : PyData → List Sl → Prop} {QL : List PyData → List Sl → Prop} {N : List Sl → Prop} {R : PyData → List Sl → Prop} {g : TG} {vs : List Nat} {tbd : TS}
theorem map_get {α : Type} {enc : α → PyData} {L : List α} {i : Nat} {x : PyData} (h : (L.map enc)[i]? = some x) : ∃ a, L[i]? = some a ∧ x = enc a := by
  rw [List.getElem?_map] at h
  cases e : L[i]? with
  | none => rw [e] at h; cases h
  | some a => rw [e] at h; exact ⟨a, rfl, (Option.some.inj h).symm⟩
theorem take_fm {α β : Type} {L : List α} {c : α → Bool} {f : α → β} {i : Nat} {a : α} (h : L[i]? = some a) : ((L.take (i + 1)).filter c).map f = ((L.take i).filter c).map f ++ (if c a = true then [f a] else []) := by
  rw [List.take_add_one, h, List.filter_append, List.map_append]
  show _ ++ (List.filter c [a]).map f = _
  cases z : c a with
  | true => rw [List.filter_cons_of_pos z]; rfl
  | false => rw [List.filter_cons_of_neg (by rw [z]; decide)]; rfl
/-- [f(x) for x in xs if c(x)], the names as they were -/
theorem wl_fm {α : Type} (enc : α → PyData) (L : List α) (c : α → Bool) (f : α → PyData) (h : WE K tl ρ fun d ρ1 => d = .list (L.map enc) ∧ L.length ≤ 1000000 ∧
    (∀ a, a ∈ L → WC K vs g (enc a) (wipeR ρ1 vs) fun ρ3 => WT K tt ρ3 fun b ρ4 => b = c a ∧ (c a = true → WE K te ρ4 fun y ρ5 => y = f a ∧ wipeR ρ5 vs = wipeR ρ1 vs) ∧ (c a = false → wipeR ρ4 vs = wipeR ρ1 vs)) ∧
    QL ((L.filter c).map f) (wipeR (wipeR ρ1 vs) vs)) : WL K (tLc (iList K tl) g tt te vs) ρ QL :=
  wl_lc (WE.imp h fun d ρ1 ⟨hd, hl, hs, hQ⟩ => ⟨L.map enc, fun i acc ρ2 => acc = ((L.take i).filter c).map f ∧ ρ2 = wipeR ρ1 vs, hd, by rw [List.length_map]; exact hl, ⟨rfl, rfl⟩, fun i x acc ρ2 hx ⟨e1, e2⟩ => by
      obtain ⟨a, ha, ex⟩ := map_get hx
      subst ex e2
      have t := take_fm (c := c) (f := f) ha
      have hm := List.mem_of_getElem? ha
      have h3 := hs a hm
      intro Fr σ H0 H v r rv k q
      refine h3 Fr σ H0 H v r rv k fun ρ3 σ3 w3 r3 q3 => q ρ3 σ3 w3 r3 ?_
      intro Fr2 σ2 H2 H2' r2 k2 f2
      refine q3 Fr2 σ2 H2 H2' r2 k2 fun b ρ4 H4 H4' e4 r4 ⟨hb, h1, h2⟩ => f2 b ρ4 H4 H4' e4 r4 ?_
      subst hb
      refine ⟨fun hc => WE.imp (h1 hc) fun y ρ5 ⟨ey, e5⟩ => ⟨?_, e5⟩, fun hc => ⟨?_, h2 hc⟩⟩
      · rw [t, if_pos hc, ey, e1]
      · rw [t, if_neg (by rw [hc]; decide), List.append_nil, e1], fun acc ρ2 ⟨e1, e2⟩ => by
      rw [List.length_map, List.take_length] at e1
      rw [e1, e2]
      exact hQ⟩)
theorem ws_forM {α : Type} (enc : α → PyData) (L : List α) (I : Nat → List Sl → Prop) (h : WE K tl ρ fun d ρ1 => d = .list (L.map enc) ∧ I 0 ρ1) (hs : ∀ (i : Nat) a ρ2, L[i]? = some a → I i ρ2 → WG K g (enc a) ρ2 fun ρ3 => WS K tbd ρ3 (I (i + 1)) R) (hN : ∀ ρ2, I L.length ρ2 → N ρ2) :
    WS K (tFor (iList K tl) g tbd) ρ N R :=
  ws_for (WE.imp h fun d ρ1 ⟨hd, h0⟩ => ⟨L.map enc, I, hd, h0, fun i x ρ2 hx hi => by
    obtain ⟨a, ha, ex⟩ := map_get hx
    subst ex
    exact hs i a ρ2 ha hi, fun ρ2 h2 => hN ρ2 (by rw [List.length_map] at h2; exact h2)⟩)
theorem ws_enumM {α : Type} (enc : α → PyData) (L : List α) (I : Nat → List Sl → Prop) (h : WE K tl ρ fun d ρ1 => d = .list (L.map enc) ∧ I 0 ρ1) (hs : ∀ (i : Nat) a ρ2, L[i]? = some a → I i ρ2 → WG K g (.tuple [.int (i : Int), enc a]) ρ2 fun ρ3 => WS K tbd ρ3 (I (i + 1)) R) (hN : ∀ ρ2, I L.length ρ2 → N ρ2) :
    WS K (tFor (iEnum K (tCons tl tNil)) g tbd) ρ N R :=
  ws_enum (wa_cons (WE.imp h fun d ρ1 ⟨hd, h0⟩ => wa_nil ⟨L.map enc, I, by rw [hd], h0, fun i x ρ2 hx hi => by
    obtain ⟨a, ha, ex⟩ := map_get hx
    subst ex
    exact hs i a ρ2 ha hi, fun ρ2 h2 => hN ρ2 (by rw [List.length_map] at h2; exact h2)⟩))
theorem WT.imp {QT QT' : Bool → List Sl → Prop} (h : WT K tt ρ QT) (i : ∀ b ρ', QT b ρ' → QT' b ρ') : WT K tt ρ QT' := fun Fr σ H0 H r k q =>
  h Fr σ H0 H r k fun b ρ' H0' H' e r' x => q b ρ' H0' H' e r' (i b ρ' x)
theorem WL.imp {Q' : List PyData → List Sl → Prop} (h : WL K te ρ QL) (i : ∀ d ρ', QL d ρ' → Q' d ρ') : WL K te ρ Q' := fun Fr σ H0 H r k q =>
  h Fr σ H0 H r k fun p vs ds ρ' H0' H' e r' a1 a2 a3 a4 a5 x => q p vs ds ρ' H0' H' e r' a1 a2 a3 a4 a5 (i ds ρ' x)
end
end Lg
namespace Lg
open PySem PySem.Spec PyProof.Rows L2
section
variable {K : PySem.W.Frag} {te ta tb tl : TE} {tr tas : TA} {tt tu : TT} {ρ : List Sl} {Q : PyData → List Sl → Prop} {QL : List PyData → List Sl → Prop} {N : List Sl → Prop} {R : PyData → List Sl → Prop} {g : TG} {vs : List Nat} {tbd : TS}
/-- not in a named list, one's own or data -/
theorem we_notInA {i : Nat} (h : WE K ta ρ fun d ρ' => ∃ ds, (ρ'[i]? = some (Sl.dat (.list ds)) ∨ ∃ o, ρ'[i]? = some (Sl.own o ds)) ∧ SeqAt.shaped d = true ∧ SeqAt.shaped (.list ds) = true ∧ Q (.bool (!ds.any fun z => PyData.eqv z d)) ρ') : WE K (tOp (rNotInD K) ta (tVar i)) ρ Q := fun Fr σ H0 H rp k g =>
  h Fr σ H0 H rp _ fun v d ρ1 H1 H' e r1 rv q => by
    obtain ⟨ds, hj, s1, s2, q⟩ := q
    rcases hj with hj | ⟨o, hj⟩
    · obtain ⟨u, k1, k2⟩ := r1.dat i _ hj
      exact ⟨u, k1, d, ds, (rv.mono r1.ex).dp, (k2.mono r1.ex).dp, s1, s2, g _ _ ρ1 H1 H' e r1 (.bl _) q⟩
    · obtain ⟨k1, _, _, vs, k4, k5⟩ := r1.own i o ds hj
      exact ⟨.ref o, k1, d, ds, (rv.mono r1.ex).dp, .lst (SqL.of k4) (k5.mono r1.ex).dp, s1, s2, g _ _ ρ1 H1 H' e r1 (.bl _) q⟩
end
end Lg
namespace Lg
open PySem PySem.Spec PyProof.Rows L2
section
variable {K : PySem.W.Frag} {ρ : List Sl} {N : List Sl → Prop} {R : PyData → List Sl → Prop} {ts tz : TS}
theorem WS.imp {N' : List Sl → Prop} (h : WS K ts ρ N R) (i : ∀ ρ1, N ρ1 → N' ρ1) : WS K ts ρ N' R := fun Fr σ H0 H r D fn fr =>
  h Fr σ H0 H r D (fun ρ1 σ1 H1 H1' e1 r1 q => fn ρ1 σ1 H1 H1' e1 r1 (i ρ1 q)) fr
/-- a word between two statements -/
theorem ws_cut (M : List Sl → Prop) (h : WS K ts ρ M R) (k : ∀ ρ1, M ρ1 → WS K tz ρ1 N R) : WS K (tSeq ts tz) ρ N R := ws_seq (h.imp k)
end
end Lg


set_option Elab.async false
set_option linter.all false
set_option maxRecDepth 100000
set_option maxHeartbeats 4000000
namespace Lg
open PySem PySem.Spec PyProof.Rows L2
/-! ### a def that hands out a new list -/
structure Ls where
  run : List PyData → (List PyData → Prop) → Prop
  mono : ∀ ds (k k' : List PyData → Prop), (∀ d, k d → k' d) → run ds k → run ds k'
def SpN (K : PySem.W.Frag) (S : Ls) : Sp := fun vs H Q _ => ∃ (H0 : Hp) (ds : List PyData), Ex H0 H ∧ RvAll K H0 vs ds ∧
  S.run ds fun es => ∀ (p : Addr) (ws : List V) (H0' H' : Hp), Ex H0 H0' → Ex H0' H' → Keeps H0 H H0' H' → H p = none → H0' p = none → H' p = some (.lst ws) → RvAll K H0' ws es → Q (.ref p) H'
section
variable {K : PySem.W.Frag} {te ta tb tl : TE} {tr tas : TA} {ρ : List Sl} {Q : PyData → List Sl → Prop} {QL : List PyData → List Sl → Prop}
theorem wl_call {S : Ls} {E : XK} (h : WA K tas ρ fun ds ρ1 => S.run ds fun es => QL es ρ1) : WL K (tCall (SpN K S) [] E tas) ρ QL := fun Fr σ H0 H r k f =>
  h Fr σ H0 H r _ fun vs ds ρ1 H1 H1' e1 r1 rv q => by
    rw [List.append_nil]
    refine ⟨H1, ds, r1.ex, rv, S.mono ds _ _ (fun es q p ws H2 H2' e2 ee kp hp h0 hh hd => f p ws es ρ1 H2 H2' (e1.trans e2) (r1.grow e2 ee kp) h0 ?_ hh hd (fun j o fs hj e => ?_) q) q⟩
    · cases hf : Fr p with
      | none => rfl
      | some x =>
        have := (r1.fr p x hf).1
        rw [hp] at this
        cases this
    · obtain ⟨_, _, _, us, k4, _⟩ := r1.own j o fs hj
      rw [e, hp] at k4
      cases k4
theorem we_bits (h : WE K te ρ fun d ρ1 => ∃ i : Int, d = .int i ∧ Q (.int (Builtin.Int.intBits i : Nat)) ρ1) : WE K (tBits te) ρ Q := fun Fr σ H0 H r k f =>
  h Fr σ H0 H r _ fun v d ρ1 H1 H1' e1 r1 rv ⟨i, hd, q⟩ => by
    subst hd
    exact ⟨i, rv.int_inv, f _ _ ρ1 H1 H1' e1 r1 (.int _) q⟩
theorem we_ixC {i : Nat} {o : Addr} {ds : List PyData} {n : Int} {d : PyData} (hi : ρ[i]? = some (Sl.own o ds)) (ha : atI ds n = some d) (q : Q d ρ) : WE K (tOp (rIxL K) (tVar i) (tC (.int n))) ρ Q := we_ixO hi (we_int ⟨n, ds, d, rfl, hi, ha, q⟩)
end
section
variable {P : Program} {w : World} {K : PySem.W.Frag} {mg : Str → Option Value} {base : Heap} {x : Str} {st : Stmt} {N ps : List Str} {k : Nat}
theorem okN {S : Ls} (D : Df K mg x st ps) (sc : FnScope N ps (defScope st)) (len : ∀ ds k, S.run ds k → ds.length = ps.length)
    (body : ∀ (cdv : Value) (A : Around) (outer : List Env) (s : Shared) (H : Hp) (E : XK) (f : Addr), Room k (A.deeper (envOfC x (defScope st) s.heap.objs.size f cdv)) →
      ∃ t, PSs (cxOf CX0 P w K mg base N x (defScope st) f cdv A outer s H E).nox (defBody st) (tRet t) ∧ ∀ ds kq, S.run ds kq → WL K t (ent N.length ds) (fun es _ => kq es)) : Ok P w K mg base x ps (k + 1) (SpN K S) := by
  obtain ⟨f, fd, F, hm, hb⟩ := D.ex
  refine ⟨f, fd, hm, F.kp, hb, F.ok sc (fun vs H Q E h => ?_) fun cdv A outer s H vs Q E hr h => ?_⟩
  · obtain ⟨H0, ds, e, rv, q⟩ := h
    rw [rv.length]
    exact len ds _ q
  · obtain ⟨H0, ds, e, rv, q⟩ := h
    obtain ⟨t, ht, hq⟩ := body cdv A outer s H E f hr
    refine ⟨tRet t, ht, hq ds _ q (kept H0 H) (L2.start N vs) H0 H (rep_start e rv) _ fun p ws es ρ H1 H1' e1 r1 h0 hf hh hd ho q1 => ?_⟩
    refine q1 p ws H1 H1' e1 r1.ex (fun b y hb h0 => r1.fr b y (kept_get.mpr ⟨hb, h0⟩)) ?_ h0 hh hd
    cases hp : H p with
    | none => rfl
    | some y =>
      cases hp0 : H0 p with
      | none => rw [kept_get.mpr ⟨hp, hp0⟩] at hf; cases hf
      | some z =>
        rw [e1 p z hp0] at h0
        cases h0
end

/-! ### the pool: a list of three ints -/
def I3 (xs : List Int) : Prop := ∃ a b c, xs = [a, b, c]
def Pst (D : List PyData → (PyData → Prop) → Prop) : Ps where
  run xs ds k := I3 xs ∧ ∃ R, D ds R ∧ ∀ ys d, I3 ys → R d → k ys d
  mono := fun xs ds k k' f h => by
    obtain ⟨j, R, d, q⟩ := h
    exact ⟨j, R, d, fun ys e a b => f ys e (q ys e a b)⟩
section
variable {K : PySem.W.Frag} {tr : TA} {ρ : List Sl} {Q : PyData → List Sl → Prop}
theorem we_pool {D : List PyData → (PyData → Prop) → Prop} {E : XK} {i : Nat} {o : Addr} {xs : List Int} (hi : ρ[i]? = some (Sl.own o (xs.map PyData.int))) (hx : I3 xs)
    (h : WA K tr ρ fun ds ρ1 => ρ1 = ρ ∧ ∃ R, D ds R ∧ ∀ ys d, I3 ys → R d → Q d (ρ.set i (.own o (ys.map PyData.int)))) : WE K (tCall (SpP K (Pst D)) [] E (tCons (tVar i) tr)) ρ Q :=
  we_callP hi fun Fr σ H0 H r k f => h Fr σ H0 H r k fun vs ds ρ1 H1 H1' e1 r1 rv ⟨er, R, hR, q⟩ => by
    subst er
    exact f vs ds ρ1 H1 H1' e1 r1 rv ⟨xs, hi, hx, R, hR, q⟩
end
end Lg


set_option Elab.async false
set_option linter.all false
set_option maxRecDepth 100000
set_option maxHeartbeats 4000000
/-! the given text by places; ratios as data; what the top has written -/
namespace Wk
open PySem PySem.Spec PyProof.Rows L2 Lg
def topS (i : Nat) : Stmt := PySem.Challenge.pw_roundglass_k28_whole_corners_and_most.main.body.getD i (.Pass ⟨0, 0, 0, 0⟩)

/-! ### ratios as data -/
abbrev rt (x : Rat) : PyData := .tuple [.int x.num, .int (x.den : Int)]
abbrev ryD (x : Rg.Ray) : PyData := .tuple [rt x.1, rt x.2]
abbrev lnD (l : Rg.Ln) : PyData := .tuple [rt l.p, rt l.q, rt l.r]
abbrev lsD (L : List Rg.Ln) : PyData := .list (L.map fun l => lnD l)
abbrev rsD (V : List Rg.Ray) : PyData := .list (V.map fun x => ryD x)
/-- below n bits -/
structure Sz (n : Nat) (x : Rat) : Prop where
  num : x.num.natAbs < 2 ^ n
  den : x.den < 2 ^ n
theorem Sz.mono {m n : Nat} {x : Rat} (h : Sz m x) (l : m ≤ n) : Sz n x := ⟨Nat.lt_of_lt_of_le h.1 (Nat.pow_le_pow_right (by decide) l), Nat.lt_of_lt_of_le h.2 (Nat.pow_le_pow_right (by decide) l)⟩
/-- any form of a ratio bounds it -/
theorem Sz.of_div {n : Nat} {t b : Int} (ht : t.natAbs < 2 ^ n) (hb : b.natAbs < 2 ^ n) (h0 : b ≠ 0) : Sz n (Rat.divInt t b) := by
  refine ⟨?_, ?_⟩
  · rw [Rat.num_divInt]
    refine Nat.lt_of_le_of_lt ?_ ht
    rw [Int.natAbs_ediv_of_dvd ?_]
    · have : (b.sign * t).natAbs ≤ t.natAbs := by
        rw [Int.natAbs_mul, Int.natAbs_sign_of_ne_zero h0, Nat.one_mul]
        exact Nat.le_refl _
      exact Nat.le_trans (Nat.div_le_self _ _) this
    · exact Int.dvd_mul_of_dvd_right (Int.gcd_dvd_right _ _)
  · rw [Rat.den_divInt, if_neg h0]
    exact Nat.lt_of_le_of_lt (Nat.div_le_self _ _) hb
theorem mul_lt2 {a b m n : Nat} (h : a < 2 ^ m) (k : b < 2 ^ n) : a * b < 2 ^ (m + n) := by
  rw [Nat.pow_add]
  exact Nat.mul_lt_mul'' h k
theorem Sz.mul {m n : Nat} {x y : Rat} (h : Sz m x) (k : Sz n y) : Sz (m + n) (x * y) := by
  rw [Rat.mul_def', ← Rat.divInt_ofNat]
  refine Sz.of_div ?_ ?_ ?_
  · rw [Int.natAbs_mul]; exact mul_lt2 h.1 k.1
  · exact mul_lt2 h.2 k.2
  · have := Nat.mul_pos x.den_pos y.den_pos
    omega
theorem Sz.add {m n : Nat} {x y : Rat} (h : Sz m x) (k : Sz n y) : Sz (m + n + 1) (x + y) := by
  rw [Rat.add_def', ← Rat.divInt_ofNat]
  refine Sz.of_div ?_ ?_ ?_
  · have h1 := mul_lt2 h.1 k.2
    have h2 := mul_lt2 k.1 h.2
    have e := Int.natAbs_add_le (x.num * y.den) (y.num * x.den)
    rw [Int.natAbs_mul, Int.natAbs_mul, Int.natAbs_natCast, Int.natAbs_natCast] at e
    rw [Nat.add_comm n m] at h2
    rw [Nat.pow_succ]
    omega
  · refine Nat.lt_trans (mul_lt2 h.2 k.2) ?_
    exact Nat.pow_lt_pow_right (by decide) (by omega)
  · have := Nat.mul_pos x.den_pos y.den_pos
    omega
theorem Sz.neg {n : Nat} {x : Rat} (h : Sz n x) : Sz n (-x) := ⟨by rw [Rat.neg_num, Int.natAbs_neg]; exact h.1, h.2⟩
theorem Sz.sub {m n : Nat} {x y : Rat} (h : Sz m x) (k : Sz n y) : Sz (m + n + 1) (x - y) := by
  rw [Rat.sub_eq_add_neg]
  exact h.add k.neg
theorem div_eq (x y : Rat) : x / y = Rat.divInt (x.num * y.den) (x.den * y.num) := by
  rw [Rat.div_def, Rat.inv_def]
  have e : x = Rat.divInt x.num x.den := (Rat.num_divInt_den x).symm
  have e2 : x * (Rat.divInt (y.den : Int) y.num) = (Rat.divInt x.num (x.den : Int)) * (Rat.divInt (y.den : Int) y.num) := by rw [← e]
  rw [e2, Rat.divInt_mul_divInt]
theorem num_ne {x : Rat} (h : x ≠ 0) : x.num ≠ 0 := fun e => h (Rat.num_eq_zero.mp e)
theorem Sz.div {m n : Nat} {x y : Rat} (h : Sz m x) (k : Sz n y) (h0 : y ≠ 0) : Sz (m + n) (x / y) := by
  rw [div_eq]
  refine Sz.of_div ?_ ?_ ?_
  · rw [Int.natAbs_mul]; exact mul_lt2 h.1 k.2
  · rw [Int.natAbs_mul]; exact mul_lt2 h.2 k.1
  · have h1 : (x.den : Int) ≠ 0 := by have := x.den_pos; omega
    exact Int.mul_ne_zero h1 (num_ne h0)
theorem sz0 : Sz 1 0 := ⟨by decide, by decide⟩
theorem sz1 : Sz 1 1 := ⟨by decide, by decide⟩
theorem eqv_rt (a b : Rat) : PyData.eqv (rt a) (rt b) = decide (a = b) := by
  show PyData.eqvAll [.int a.num, .int (a.den : Int)] [.int b.num, .int (b.den : Int)] = _
  show ((a.num == b.num) && (((a.den : Int) == (b.den : Int)) && true)) = _
  rw [Bool.and_true]
  by_cases h : a = b
  · subst h
    simp
  · rw [decide_eq_false h]
    by_cases h1 : a.num = b.num
    · have h2 : a.den ≠ b.den := fun e => h (Rat.ext h1 e)
      have : ((a.den : Int) == (b.den : Int)) = false := by
        rw [beq_eq_false_iff_ne]
        omega
      rw [this, Bool.and_false]
    · have : (a.num == b.num) = false := by
        rw [beq_eq_false_iff_ne]
        exact h1
      rw [this, Bool.false_and]
theorem eqv_ry (a b : Rg.Ray) : PyData.eqv (ryD a) (ryD b) = decide (a = b) := by
  show (PyData.eqv (rt a.1) (rt b.1) && (PyData.eqv (rt a.2) (rt b.2) && true)) = _
  rw [eqv_rt, eqv_rt, Bool.and_true]
  by_cases h : a = b
  · subst h; simp
  · rw [decide_eq_false h]
    by_cases h1 : a.1 = b.1
    · have h2 : a.2 ≠ b.2 := fun e => h (Prod.ext h1 e)
      rw [decide_eq_false h2, Bool.and_false]
    · rw [decide_eq_false h1, Bool.false_and]
theorem any_ry (V : List Rg.Ray) (x : Rg.Ray) : (V.map fun x => ryD x).any (fun z => PyData.eqv z (ryD x)) = decide (x ∈ V) := by
  induction V with
  | nil => rfl
  | cons a V ih =>
    rw [List.map_cons, List.any_cons, ih, eqv_ry]
    by_cases h : a = x
    · subst h; simp
    · have h2 : ¬ x = a := fun e => h e.symm
      rw [decide_eq_false h, Bool.false_or]
      simp [h2]
theorem any_rt (V : List Rat) (x : Rat) : (V.map fun x => rt x).any (fun z => PyData.eqv z (rt x)) = decide (x ∈ V) := by
  induction V with
  | nil => rfl
  | cons a V ih =>
    rw [List.map_cons, List.any_cons, ih, eqv_rt]
    by_cases h : a = x
    · subst h; simp
    · have h2 : ¬ x = a := fun e => h e.symm
      rw [decide_eq_false h, Bool.false_or]
      simp [h2]
theorem shaped_rt (x : Rat) : SeqAt.shaped (rt x) = true := rfl
theorem shaped_ry (x : Rg.Ray) : SeqAt.shaped (ryD x) = true := rfl
theorem depth_all {α : Type} (f : α → PyData) (n : Nat) (h : ∀ a, (f a).depth ≤ n) : ∀ V : List α, PyData.depthAll (V.map f) ≤ n
  | [] => Nat.zero_le _
  | a :: V => by
    show max (PyData.depth (f a)) (PyData.depthAll (V.map f)) ≤ n
    exact Nat.max_le.mpr ⟨h a, depth_all f n h V⟩
theorem lay_all {α : Type} (f : α → PyData) (h : ∀ a, (f a).canLay0 = true) : ∀ V : List α, PyData.canLayAll0 (V.map f) = true
  | [] => rfl
  | a :: V => by
    show (PyData.canLay0 (f a) && PyData.canLayAll0 (V.map f)) = true
    rw [h a, lay_all f h V]
    rfl
theorem shaped_list {α : Type} (f : α → PyData) (h : ∀ a, (f a).canLay0 = true ∧ (f a).depth ≤ 60) (V : List α) : SeqAt.shaped (.list (V.map f)) = true := by
  unfold SeqAt.shaped
  rw [Bool.and_eq_true]
  refine ⟨lay_all f (fun a => (h a).1) V, decide_eq_true ?_⟩
  have := depth_all f 60 (fun a => (h a).2) V
  show PyData.depthAll (V.map f) + 1 ≤ 64
  omega
theorem shaped_rs (V : List Rg.Ray) : SeqAt.shaped (rsD V) = true := shaped_list _ (fun a => ⟨rfl, by show (2 : Nat) ≤ 60; decide⟩) V
theorem shaped_rts (V : List Rat) : SeqAt.shaped (.list (V.map fun x => rt x)) = true := shaped_list _ (fun a => ⟨rfl, by show (1 : Nat) ≤ 60; decide⟩) V
theorem shaped_ls (V : List Rg.Ln) : SeqAt.shaped (lsD V) = true := shaped_list _ (fun a => ⟨rfl, by show (2 : Nat) ≤ 60; decide⟩) V

/-! ### what the top has written -/
structure Cn (K : PySem.W.Frag) (mg : Str → Option Value) (x : Str) (v : V) (d : PyData) : Prop where
  ex : ∃ u, mg x = some u ∧ RelV v u ∧ ∀ H, Rv K H v d
theorem pe_cn {X : Cx} {x : Str} {v : V} {d : PyData} {pos : Pos} (h : Cn X.K X.mg x v d) (hg : Gl X x) (hd : (x == ("__debug__" : Str)) = false := by decide) : PE X (.Name x pos) (tC v) := by
  obtain ⟨u, h1, h2, _⟩ := h.ex
  exact pe_glob hg h1 h2 hd
theorem we_cn {K : PySem.W.Frag} {mg : Str → Option Value} {x : Str} {v : V} {d : PyData} {ρ : List Sl} {Q : PyData → List Sl → Prop} (h : Cn K mg x v d) (q : Q d ρ) : WE K (tC v) ρ Q := by
  obtain ⟨u, _, _, h3⟩ := h.ex
  exact we_c h3 q
theorem pe_lcV {X : Cx} {e : Expr} {wi : TI} {g : TG} {tt : TT} {te : TE} {vs us : List Nat} (hv : us = vs) (h : PE X e (tLc wi g tt te us)) : PE X e (tLc wi g tt te vs) := by
  subst hv
  exact h
theorem ps_lcV {X : Cx} {e : Stmt} {i : Nat} {wi : TI} {g : TG} {tt : TT} {te : TE} {vs us : List Nat} (hv : us = vs) (h : PS X e (tAsg (tLc wi g tt te us) (gName i))) : PS X e (tAsg (tLc wi g tt te vs) (gName i)) := by
  subst hv
  exact h
section
variable {X : Cx} (K : PySem.W.Frag) (e : X.K = K := by rfl)
include e
theorem ixT : IxR X (rIxT K) := by subst e; exact ix_tup
theorem ixL : IxR X (rIxL K) := by subst e; exact ix_list
theorem slT : SlR X (rSlT K) := by subst e; exact sl_tup
theorem slL : SlR X (rSlL K) := by subst e; exact sl_list
theorem eqDK (hu : X.A.units + 64 < cLine) : OpR X (compareOp .Eq) (rEqD K) := by subst e; exact op_eqD hu
theorem neDK (hu : X.A.units + 64 < cLine) : OpR X (compareOp .NotEq) (rNeD K) := by subst e; exact op_neD hu
theorem inDK (hu : X.A.units + 65 < cLine) : OpR X (compareOp .In) (rInD K) := by subst e; exact op_inD hu
theorem notInDK (hu : X.A.units + 65 < cLine) : OpR X (compareOp .NotIn) (rNotInD K) := by subst e; exact op_notInD hu
theorem inSK : OpR X (compareOp .In) (rIn K false) := by subst e; exact op_in_seq
theorem allK (hc : X.calm = true) : CallR X (.builtin "all") (rAll K) := by subst e; exact cr_all hc
theorem anyK (hc : X.calm = true) : CallR X (.builtin "any") (rAny K) := by subst e; exact cr_any hc
theorem lenK : CallR X (.builtin "len") (fun xs H Q => ∃ p ys, xs = [V.ref p] ∧ (SqL K H p ys ∨ SqT K H p ys) ∧ Q (.int (ys.length : Nat)) H) := by subst e; exact call_len_seq
theorem listK : CallR X (.type "list") (fun xs H Q => ∃ p ys, xs = [V.ref p] ∧ (SqL K H p ys ∨ SqT K H p ys) ∧ ∀ l, H l = none → Q (.ref l) (upd H l (.lst ys))) := by subst e; exact call_list_of
theorem piL {l tg : Expr} {tl : TE} (hl : PE X l tl) : PI X tg l (iList K tl) := by subst e; exact pi_list hl
end
theorem tupK {X : Cx} (K : PySem.W.Frag) (n : Nat) {es : List Expr} {k : Nat} {t : TGs} {pos : Pos} (hc : X.calm = true) (h : PGs X es t) (eK : X.K = K := by rfl) (hn : (assignEach es X.env).length = n := by rfl) (hst : (assignEach es X.env).findIdx? (·.1) = none := by rfl) : PG X (.Tuple es k pos) (gTup K n t) := by
  subst eK
  exact pg_tup hc h hn hst
theorem bmK {X : Cx} (K : PySem.W.Frag) {T name id : String} {r : V → List V → Hp → VK → Prop} {o e : Expr} {es : List Expr} {to : TE} {t : TA} {apos cpos : Pos} (pa : PlainAttrs T) (slot : Slot T name id) (hty : typeOf (.builtin id) = pure (.type "method_descriptor")) (hm : MtR X id r) (ho : PE X o to) (ha : PA X (e :: es) t)
    (eK : X.K = K := by rfl) (hbase : attributeBase o name X.env (eval o X.env) = eval o X.env := by rfl)
    (hfew : ((backTo cpos (starEach (e :: es) X.env)).all (fun x => !x.1) && (backToKw cpos (keywordEach [] X.env)).all (fun x => x.1.isSome)
      && decide ((e :: es).length + ([] : List Keyword).length + (if ([] : List Keyword).isEmpty then 0 else 1) < 30)) = true := by rfl)
    (hline : (apos.endLine == cpos.line) = true := by rfl) (hs : starEach (e :: es) X.env = (false, eval e X.env) :: starEach es X.env := by rfl) (hplain : (backTo cpos (starEach es X.env)).any (·.1) = false := by rfl) :
    PE X (.Call (.Attribute o name apos) (e :: es) [] cpos) (tBM K T r to t) := by
  subst eK
  exact pe_bm pa slot hty hm ho ha hbase hfew hline hs hplain
theorem enumK {X : Cx} (K : PySem.W.Frag) {e : Expr} {ta : TA} {p pos tpos : Pos} {elts : List Expr} {kk : Nat} (hg : Gl X "enumerate") (hm : X.mg "enumerate" = none) (ha : PA X [e] ta) (eK : X.K = K := by rfl) (hs : starEach [e] X.env = [(false, eval e X.env)] := by rfl) :
    PI X (.Tuple elts kk tpos) (.Call (.Name "enumerate" p) [e] [] pos) (iEnum K ta) := by subst eK; exact pi_enum hg hm ha hs
theorem zipK {X : Cx} (K : PySem.W.Frag) {e e2 : Expr} {ta : TA} {p pos tpos : Pos} {elts : List Expr} {kk : Nat} (hg : Gl X "zip") (hm : X.mg "zip" = none) (ha : PA X [e, e2] ta) (eK : X.K = K := by rfl)
    (hs : starEach [e, e2] X.env = (false, eval e X.env) :: starEach [e2] X.env := by rfl) (hpl : (backTo pos (starEach [e2] X.env)).any (·.1) = false := by rfl) :
    PI X (.Tuple elts kk tpos) (.Call (.Name "zip" p) [e, e2] [] pos) (RZ.iZipA K ta) := by subst eK; exact RZ.pi_zipA hg hm ha hs hpl
theorem u65 {k : Nat} {A : Around} (r : Room k A) : A.units + 65 < cLine := by have := r.un; omega
theorem not_dec {p : Prop} [Decidable p] (h : (!decide p) = true) : ¬ p := by
  rw [Bool.not_eq_true'] at h
  exact of_decide_eq_false h
theorem yes_dec {p : Prop} [Decidable p] (h : (!decide p) = false) : p := by
  rw [Bool.not_eq_false'] at h
  exact of_decide_eq_true h
/-- the def with a default -/
structure DfR (K : PySem.W.Frag) (mg : Str → Option Value) : Prop where
  ex : ∃ (f : Addr) (fd : FuncData), FunD K "ratio" "ratio" (defArgs (topS 6)) (defBody (topS 6)) (defScope (topS 6)) [.int 1] [] f fd ∧ mg "ratio" = some (.ref f) ∧ Binds K fd ["top", "bottom"] []
structure Tx (K : PySem.W.Frag) (mg : Str → Option Value) : Prop where
  d_is_whole : Df K mg "is_whole" (topS 4) ["thing"]
  d_divisor : Df K mg "divisor" (topS 5) ["one", "other"]
  d_ratio : DfR K mg
  d_plus : Df K mg "plus" (topS 7) ["one", "other"]
  d_minus : Df K mg "minus" (topS 8) ["one", "other"]
  d_times : Df K mg "times" (topS 9) ["one", "other"]
  d_over : Df K mg "over" (topS 10) ["one", "other"]
  d_less : Df K mg "less" (topS 11) ["one", "other"]
  d_negative : Df K mg "negative" (topS 12) ["one"]
  d_size : Df K mg "size" (topS 13) ["one"]
  d_summed : Df K mg "summed" (topS 18) ["p", "q", "ray"]
  d_led : Df K mg "led" (topS 19) ["table", "ray"]
  d_behind : Df K mg "behind" (topS 20) ["one", "other"]
  d_cross : Df K mg "cross" (topS 21) ["one", "other"]
  d_part_table : Df K mg "part_table" (topS 27) ["part"]
  d_lines_of : Df K mg "lines_of" (topS 29) ["bench"]
  d_lets_by : Df K mg "lets_by" (topS 30) ["line", "ray"]
  d_lets : Df K mg "lets" (topS 31) ["lines", "ray"]
  d_by_two : Df K mg "by_two" (topS 33) ["one", "other", "worth", "more"]
  d_opposite : Df K mg "opposite" (topS 34) ["ray"]
  d_met_by_two : Df K mg "met_by_two" (topS 35) ["lines"]
  d_is_least : Df K mg "is_least" (topS 36) ["ray", "other"]
  d_least_ray : Df K mg "least_ray" (topS 37) ["rays"]
  d_next_around : Df K mg "next_around" (topS 38) ["rays", "ray"]
  d_corners : Df K mg "corners" (topS 39) ["lines"]
  d_shares_of_two : Df K mg "shares_of_two" (topS 41) ["lines", "i", "j", "p", "q"]
  d_shares_of_one : Df K mg "shares_of_one" (topS 42) ["lines", "i", "p", "q"]
  d_all_shares : Df K mg "all_shares" (topS 43) ["lines", "p", "q"]
  d_worth_of : Df K mg "worth_of" (topS 44) ["lines", "shares"]
  d_least_shares : Df K mg "least_shares" (topS 45) ["lines", "some"]
  d_ray_on : Df K mg "ray_on" (topS 46) ["line", "worth", "p", "q"]
  d_ray_with : Df K mg "ray_with" (topS 47) ["lines", "shares", "p", "q", "value"]
  d_free_ray : Df K mg "free_ray" (topS 48) ["lines", "p", "q"]
  d_most : Df K mg "most" (topS 49) ["lines", "p", "q"]
  d_numbered : Df K mg "numbered" (topS 51) ["shares", "k"]
  d_idle : Df K mg "idle" (topS 52) ["lines", "k"]
  d_law_pool : Df K mg "_law_pool" (topS 54) ["cell"]
  d_law_next : Df K mg "_law_next" (topS 55) ["pool", "base"]
  d_law_cells : Df K mg "_law_cells" (topS 56) ["script", "bound"]
  d_law_wide : Df K mg "_law_wide" (topS 57) ["pool", "base"]
  d_law_low : Df K mg "_law_low" (topS 58) ["top", "bottom"]
  d_law_sum : Df K mg "_law_sum" (topS 59) ["one", "other"]
  d_law_taken : Df K mg "_law_taken" (topS 60) ["one", "other"]
  d_law_back : Df K mg "_law_back" (topS 61) ["one"]
  d_law_below : Df K mg "_law_below" (topS 62) ["one", "other"]
  d_law_number : Df K mg "_law_number" (topS 63) ["pool"]
  d_law_ray : Df K mg "_law_ray" (topS 64) ["pool"]
  d_law_line : Df K mg "_law_line" (topS 65) ["pool"]
  d_law_lines : Df K mg "_law_lines" (topS 66) ["pool", "most_lines"]
  d_law_worth : Df K mg "_law_worth" (topS 67) ["p", "q", "ray"]
  d_law_bare : Df K mg "_law_bare" (topS 68) ["one"]
  d_law_part : Df K mg "_law_part" (topS 70) ["pool"]
  d_law_asked : Df K mg "_law_asked" (topS 71) ["pool", "lines"]
  d_law_less : Df K mg "_law_less" (topS 72) ["one", "other"]
  d_law_cross : Df K mg "_law_cross" (topS 73) ["one", "other"]
  d_law_inside : Df K mg "_law_inside" (topS 74) ["rays", "ray"]
  d_law_most_right : Df K mg "_law_most_right" (topS 75) ["lines", "rays", "p", "q"]
  d_law_idle_right : Df K mg "_law_idle_right" (topS 76) ["lines", "rays", "k"]
  c_NOUGHT_tables : ∃ v, Cn K mg "NOUGHT_tables" v (rt 0)
  c_ONE_tables : ∃ v, Cn K mg "ONE_tables" v (rt 1)
  c_SAME : ∃ v, Cn K mg "SAME" v (.tuple [rt 1, rt 0, rt 0, rt 1])
  c_NOUGHT_benches : ∃ v, Cn K mg "NOUGHT_benches" v (rt 0)
  c_ONE_benches : ∃ v, Cn K mg "ONE_benches" v (rt 1)
  c_GAP : ∃ v, Cn K mg "GAP" v (.str "gap")
  c_GLASS : ∃ v, Cn K mg "GLASS" v (.str "glass")
  n_isinstance : mg "isinstance" = none
  n_int : mg "int" = none
  n_bool : mg "bool" = none
  n_abs : mg "abs" = none
  n_all : mg "all" = none
  n_any : mg "any" = none
  n_len : mg "len" = none
  n_list : mg "list" = none
  n_max : mg "max" = none
  n_min : mg "min" = none
  n_range : mg "range" = none
  n_enumerate : mg "enumerate" = none
  n_zip : mg "zip" = none
end Wk


set_option Elab.async false
set_option linter.all false
set_option maxRecDepth 100000
set_option maxHeartbeats 8000000
namespace Wk
open PySem PySem.Spec PyProof.Rows L2 Lg
/-! ### further readings -/
section
variable {K : PySem.W.Frag} {te ta tb tl tk : TE} {tr tas : TA} {tt tu : TT} {ρ : List Sl} {Q : PyData → List Sl → Prop} {QL : List PyData → List Sl → Prop} {N : List Sl → Prop} {R : PyData → List Sl → Prop}
theorem we_head2 (h : WE K te ρ fun d ρ1 => ∃ a b c, d = .tuple [a, b, c] ∧ Q (.tuple [a, b]) ρ1) : WE K (tSl (rSlT K) te tNoPart (tPart (tC (.int 2)))) ρ Q :=
  we_slT (WE.imp h fun d ρ1 ⟨a, b, c, e, q⟩ => wo_none (wo_some (we_int ⟨2, rfl, [a, b, c], e, by show ¬ (HT.sIx 3 0 none = 0 ∧ HT.sIx 3 3 (some 2) = 3); decide, q⟩)))
theorem wl_head (h : WE K te ρ fun d ρ1 => WE K tk ρ1 fun e ρ2 => ∃ (ds : List PyData) (n : Nat), d = .list ds ∧ e = .int (n : Int) ∧ QL (ds.take n) ρ2) : WL K (tSl (rSlL K) te tNoPart (tPart tk)) ρ QL :=
  wl_sl (WE.imp h fun d ρ1 q => wo_none (wo_some (WE.imp q fun e ρ2 ⟨ds, n, e1, e2, q⟩ => ⟨n, e2, ds, e1, by rw [cutD_head]; exact q⟩)))
theorem wl_tail (h : WE K te ρ fun d ρ1 => WE K tk ρ1 fun e ρ2 => ∃ (ds : List PyData) (n : Nat), d = .list ds ∧ e = .int (n : Int) ∧ QL (ds.drop n) ρ2) : WL K (tSl (rSlL K) te (tPart tk) tNoPart) ρ QL :=
  wl_sl (WE.imp h fun d ρ1 q => wo_some (WE.imp q fun e ρ2 ⟨ds, n, e1, e2, q⟩ => ⟨n, e2, wo_none ⟨ds, e1, by rw [cutD_tail]; exact q⟩⟩))
theorem we_isi {j : Nat} {i : Int} {n : String} {b : Bool} (hj : ρ[j]? = some (Sl.dat (.int i))) (hk : kitB "int" n = some b) (q : Q (.bool b) ρ) : WE K (tCB (rIsi K) (tCons (tVar j) (tCons (tC (.ty n)) tNil))) ρ Q := fun Fr σ H0 H r k f => by
  obtain ⟨v, h1, h2⟩ := r.dat j _ hj
  refine ⟨v, h1, v, .ty n, _, _, b, rfl, .ty n, ?_, kit_ty hk, f _ _ ρ H0 H (Ex.refl H0) r (.bl b) q⟩
  rw [h2.int_inv]
  exact .base (.int i)
end
theorem int_ix (n : Int) : n = n := rfl
local macro_rules | `(tactic| walk_at "ev") => `(tactic| repeat (first
  | (with_reducible apply wa_nil)
  | (with_reducible apply wa_cons)
  | ((with_reducible apply we_cn); assumption)
  | (with_reducible apply we_int)
  | (with_reducible apply we_str)
  | (with_reducible apply we_bl)
  | (with_reducible apply we_non)
  | ((with_reducible apply we_var); exact rfl)
  | (with_reducible apply we_head2)
  | (with_reducible apply we_tup)
  | (with_reducible apply we_op)
  | (with_reducible apply we_un)
  | (with_reducible apply wc_1)
  | (with_reducible apply rd_i0)
  | (with_reducible apply rd_b0)
  | ((with_reducible apply rd_ixT); exact rfl)
  | (with_reducible apply rd_eqI)
  | (with_reducible apply rd_neI)
  | (with_reducible apply rd_eqS)
  | (with_reducible apply rd_neS)
  | (with_reducible apply rd_eqB)
  | (with_reducible apply rd_neB)
  | (with_reducible apply we_call)
  | (with_reducible apply we_cb)
  | (with_reducible apply cd_abs)
  | (with_reducible apply wt_test)
  | (with_reducible apply wt_b)
  | (with_reducible apply wt_not)
  | (with_reducible apply wt_and)
  | (with_reducible apply wt_or)
  | (with_reducible apply wt_yes)
  | (with_reducible apply ws_next)
  | (with_reducible apply ws_ret)
  | (with_reducible apply ws_asg)
  | (with_reducible apply ws_if)
  | (with_reducible apply ws_par)
  | (with_reducible apply ws_asgG)
  | (with_reducible apply wg_name)
  | ((with_reducible apply wg_tup); exact rfl)
  | (with_reducible apply wgs_nil)
  | (with_reducible apply wgs_cons)
  | (with_reducible apply ws_seq)
  | (refine ⟨(show List.length _ ≤ 1000000 from Nat.le_of_ble_eq_true rfl), ?_⟩)
  | (refine ⟨fun _ => ?_, fun h => absurd h (by decide)⟩)
  | (refine ⟨fun h => absurd h (by decide), fun _ => ?_⟩)
  | (refine ⟨(show Sz _ _ by walk_at "sz"), ?_⟩)
  | (refine ⟨_, rfl, ?_⟩)
  | (refine ⟨_, _, rfl, ?_⟩)
  | (refine ⟨_, _, _, rfl, ?_⟩)
  | (refine ⟨_, _, _, _, rfl, ?_⟩)))

section
variable {P : Program} {w : World} {K : PySem.W.Frag} {mg : Str → Option Value} {base : Heap}
def S_is_whole : Fs where
  run := fun ds k => ∃ i : Int, ds = [.int i] ∧ k (.bool true)
  mono := fun ds k k' h ⟨i, e, q⟩ => ⟨i, e, h _ q⟩
abbrev N_is_whole : List Str := ["thing"]
theorem sc_is_whole : FnScope N_is_whole ["thing"] (defScope (topS 4)) := ⟨rfl, rfl, rfl, by decide +kernel, rfl, by decide +kernel, by decide +kernel⟩
theorem ok_is_whole (T : Tx K mg) : Ok P w K mg base "is_whole" ["thing"] 1 (SpF K S_is_whole) := by
  refine okF T.d_is_whole sc_is_whole (fun ds k h => by obtain ⟨_, rfl, _⟩ := h; rfl) fun cdv A outer s H E f hr => ⟨_, pss_one (ps_ret (pe_and
    (pe_callB call_isi (by rfl) T.n_isinstance (by decide +kernel) (pa_cons (pv 0) (pa_cons (pe_bltn (v := .ty "int") (by rfl) T.n_int (by decide +kernel) rfl) pa_nil)))
    (pe_one (pe_not (pe_callB call_isi (by rfl) T.n_isinstance (by decide +kernel) (pa_cons (pv 0) (pa_cons (pe_bltn (v := .ty "bool") (by rfl) T.n_bool (by decide +kernel) rfl) pa_nil))))))), ?_⟩
  rintro ds kq ⟨i, rfl, q⟩
  refine ws_ret (we_andV (we_isi rfl (b := true) (by decide +kernel) ⟨_, rfl, fun _ => we_notV (we_isi rfl (b := false) (by decide +kernel) ⟨_, rfl, q⟩), fun h => nomatch h⟩))
def S_divisor : Fs where
  run := fun ds k => ∃ a b : Int, ds = [.int a, .int b] ∧ 0 < b ∧ k (.int (Int.gcd a b))
  mono := fun ds k k' h ⟨a, b, e, p, q⟩ => ⟨a, b, e, p, h _ q⟩
theorem gcd_step (x y : Int) (hx : 0 < x) : Int.gcd (y % x) x = Int.gcd x y := by
  rw [Int.gcd_comm, Int.gcd_right_eq_iff]
  intro c hc
  have e : y % x + x * (y / x) = y := Int.emod_add_mul_ediv y x
  have h1 : c ∣ x * (y / x) := Int.dvd_mul_of_dvd_left hc
  constructor
  · intro h
    rw [← e]
    exact Int.dvd_add h h1
  · intro h
    have e2 : y % x = y - x * (y / x) := by omega
    rw [e2]
    exact Int.dvd_sub h h1
abbrev N_divisor : List Str := ["one", "other"]
theorem sc_divisor : FnScope N_divisor ["one", "other"] (defScope (topS 5)) := ⟨rfl, rfl, rfl, by decide +kernel, rfl, by decide +kernel, by decide +kernel⟩
theorem ok_divisor (T : Tx K mg) : Ok P w K mg base "divisor" ["one", "other"] 1 (SpF K S_divisor) := by
  refine okF T.d_divisor sc_divisor (fun ds k h => by obtain ⟨_, _, rfl, _⟩ := h; rfl) fun cdv A outer s H E f hr => ⟨_, (pss_cons (ps_set (i := 0) sc_divisor.nd rfl (Or.inl rfl) (pe_callB call_abs (by rfl) T.n_abs (by decide +kernel) (pa_cons (pv 0) pa_nil)))
      (pss_cons (ps_while PassesOwn.never (pt_cmpR op_gt (pv 0) pe_int (nomark _)) (pss_one (ps_par (i := 0) (j := 1) (by rfl) sc_divisor.nd rfl rfl (by decide) rfl rfl (pa_cons (pe_op op_mod (pv 1) (pv 0)) (pa_cons (pv 0) pa_nil)) (by rfl))))
      (pss_one (ps_ret (pv 1))))), ?_⟩
  rintro ds kq ⟨a, b, rfl, hb, q⟩
  show WS K _ [.dat (.int a), .dat (.int b)] _ _
  walk_at "ev"
  refine ws_while (fun ρ => ∃ x y : Int, ρ = [.dat (.int x), .dat (.int y)] ∧ 0 ≤ x ∧ 0 ≤ y ∧ Int.gcd x y = Int.gcd a b) (fun ρ => match ρ with | Sl.dat (.int x) :: _ => x.toNat | _ => 0) ⟨_, b, rfl, ?_, ?_, ?_⟩ ?_
  · split <;> omega
  · omega
  · split
    · rw [Int.neg_gcd]
    · rfl
  · rintro ρ1 ⟨x, y, rfl, hx, hy, hg⟩
    walk_at "ev"
    refine ⟨fun h => ?_, fun h => ?_⟩
    · have h0 : 0 < x := of_decide_eq_true h
      walk_at "ev"
      refine rd_i h0 ?_
      walk_at "ev"
      refine ⟨⟨_, _, rfl, Int.emod_nonneg _ (by omega), hx, ?_⟩, ?_⟩
      · rw [gcd_step x y h0]; exact hg
      · have := Int.emod_lt_of_pos y h0
        have h2 := Int.emod_nonneg y (show x ≠ 0 by omega)
        show (y % x).toNat < x.toNat
        omega
    · have h0 : ¬ x > 0 := of_decide_eq_false h
      have : x = 0 := by omega
      subst this
      walk_at "ev"
      rw [Int.zero_gcd] at hg
      have e : y = (Int.gcd a b : Int) := by omega
      rw [e]
      exact q
end
end Wk


set_option Elab.async false
set_option linter.all false
set_option maxRecDepth 100000
set_option maxHeartbeats 8000000
namespace Wk
open PySem PySem.Spec PyProof.Rows L2 Lg
set_option exponentiation.threshold 20000
theorem ab_num (x : Rat) : (Rg.ab x).num = (if x.num < 0 then -x.num else x.num) := by
  unfold Rg.ab
  have h : x < 0 ↔ x.num < 0 := by
    rw [Rat.lt_iff]
    show x.num * 1 < 0 * (x.den : Int) ↔ _
    omega
  by_cases c : x.num < 0
  · rw [if_pos (h.mpr c), if_pos c]; rfl
  · rw [if_neg (fun z => c (h.mp z)), if_neg c]
theorem ab_den (x : Rat) : (Rg.ab x).den = x.den := by
  unfold Rg.ab
  split <;> rfl
theorem Sz.ab {n : Nat} {x : Rat} (h : Sz n x) : Sz n (Rg.ab x) := by
  unfold Rg.ab
  split
  · exact h.neg
  · exact h
theorem cmul {i j : Int} {m n : Nat} (h : i.natAbs < 2 ^ m) (k : j.natAbs < 2 ^ n) (l : m + n ≤ 999990) : CMulW i j := by
  have h1 : i.natAbs < 2 ^ (m + 1) := Nat.lt_trans h (Nat.pow_lt_pow_right (by decide) (by omega))
  have h2 : j.natAbs < 2 ^ (n + 1) := Nat.lt_trans k (Nat.pow_lt_pow_right (by decide) (by omega))
  exact wide_mul h1 h2 (by omega) (by omega) (by omega)
theorem Sz.d {n : Nat} {x : Rat} (h : Sz n x) : ((x.den : Int)).natAbs < 2 ^ n := h.2
theorem mul_lt9 {a b : Nat} (h : a < 2 ^ 4500) (k : b < 2 ^ 4500) : a * b < 2 ^ 9000 := mul_lt2 h k
theorem den_ne (x : Rat) : (x.den : Int) ≠ 0 := by have := x.den_pos; omega
local macro_rules | `(tactic| walk_at "ev") => `(tactic| repeat (first
  | (with_reducible apply wa_nil)
  | (with_reducible apply wa_cons)
  | ((with_reducible apply we_cn); assumption)
  | (with_reducible apply we_int)
  | (with_reducible apply we_str)
  | (with_reducible apply we_bl)
  | (with_reducible apply we_non)
  | ((with_reducible apply we_var); exact rfl)
  | (with_reducible apply we_head2)
  | (with_reducible apply we_tup)
  | (with_reducible apply we_op)
  | (with_reducible apply we_un)
  | (with_reducible apply wc_1)
  | (with_reducible apply rd_i0)
  | (with_reducible apply rd_b0)
  | ((with_reducible apply rd_ixT); exact rfl)
  | (with_reducible apply rd_eqI)
  | (with_reducible apply rd_neI)
  | (with_reducible apply rd_eqS)
  | (with_reducible apply rd_neS)
  | (with_reducible apply rd_eqB)
  | (with_reducible apply rd_neB)
  | (with_reducible apply we_call)
  | (with_reducible apply we_cb)
  | (with_reducible apply cd_abs)
  | (with_reducible apply wt_test)
  | (with_reducible apply wt_b)
  | (with_reducible apply wt_not)
  | (with_reducible apply wt_and)
  | (with_reducible apply wt_or)
  | (with_reducible apply wt_yes)
  | (with_reducible apply ws_next)
  | (with_reducible apply ws_ret)
  | (with_reducible apply ws_asg)
  | (with_reducible apply ws_if)
  | (with_reducible apply ws_par)
  | (with_reducible apply ws_asgG)
  | (with_reducible apply wg_name)
  | ((with_reducible apply wg_tup); exact rfl)
  | (with_reducible apply wgs_nil)
  | (with_reducible apply wgs_cons)
  | (with_reducible apply ws_seq)
  | (refine ⟨(show List.length _ ≤ 1000000 from Nat.le_of_ble_eq_true rfl), ?_⟩)
  | (refine ⟨fun _ => ?_, fun h => absurd h (by decide)⟩)
  | (refine ⟨fun h => absurd h (by decide), fun _ => ?_⟩)
  | (refine ⟨(show Sz _ _ by walk_at "sz"), ?_⟩)
  | (refine ⟨_, rfl, ?_⟩)
  | (refine ⟨_, _, rfl, ?_⟩)
  | (refine ⟨_, _, _, rfl, ?_⟩)
  | (refine ⟨_, _, _, _, rfl, ?_⟩)))
local macro_rules | `(tactic| walk_at "sz0") => `(tactic| first
  | assumption
  | exact sz0
  | exact sz1
  | exact Sz.add (by walk_at "sz0") (by walk_at "sz0")
  | exact Sz.sub (by walk_at "sz0") (by walk_at "sz0")
  | exact Sz.mul (by walk_at "sz0") (by walk_at "sz0")
  | exact Sz.neg (by walk_at "sz0")
  | exact Sz.ab (by walk_at "sz0")
  | exact Sz.div (by walk_at "sz0") (by walk_at "sz0") (by assumption))
local macro_rules | `(tactic| walk_at "sz") => `(tactic| first
  | assumption
  | exact Sz.mono (by walk_at "sz0") (by decide))

section
variable {P : Program} {w : World} {K : PySem.W.Frag} {mg : Str → Option Value} {base : Heap}
def S_ratio : Fs where
  run := fun ds k => ∃ t b : Int, ds = [.int t, .int b] ∧ b ≠ 0 ∧ b.natAbs < 2 ^ 9000 ∧ k (rt (Rat.divInt t b))
  mono := fun ds k k' h ⟨t, b, e, p, p2, q⟩ => ⟨t, b, e, p, p2, h _ q⟩
theorem okFR {S : Fs} {N ps : List Str} {k : Nat} (D : DfR K mg) (hps : ps = (["top", "bottom"] : List Str)) (sc : FnScope N ps (defScope (topS 6))) (len : ∀ ds k, S.run ds k → ds.length = ps.length)
    (body : ∀ (cdv : Value) (A : Around) (outer : List Env) (s : Shared) (H : Hp) (E : XK) (f : Addr), Room k (A.deeper (envOfC "ratio" (defScope (topS 6)) s.heap.objs.size f cdv)) →
      ∃ t, PSs (cxOf CX0 P w K mg base N "ratio" (defScope (topS 6)) f cdv A outer s H E).nox (defBody (topS 6)) t ∧ ∀ ds kq, S.run ds kq → WS K t (ent N.length ds) (fun _ => False) (fun d _ => kq d)) : Ok P w K mg base "ratio" ps (k + 1) (SpF K S) := by
  obtain ⟨f, fd, F, hm, hb⟩ := D.ex
  refine ⟨f, fd, hm, F.kp, by rw [hps]; exact hb, F.ok sc (fun vs H Q E h => ?_) fun cdv A outer s H vs Q E hr h => ?_⟩
  · obtain ⟨H0, ds, e, rv, q⟩ := h
    rw [rv.length]
    exact len ds _ q
  · obtain ⟨H0, ds, e, rv, q⟩ := h
    obtain ⟨t, ht, hq⟩ := body cdv A outer s H E f hr
    refine ⟨t, ht.nox, hq ds _ q (kept H0 H) (L2.start N vs) H0 H (rep_start e rv) _ (fun _ _ _ _ _ _ z => z.elim) fun v d ρ σ H1 H1' e1 r1 rw q1 => ?_⟩
    exact q1 v H1 H1' e1 r1.ex (fun b y hb h0 => r1.fr b y (kept_get.mpr ⟨hb, h0⟩)) rw
theorem divInt_pos (t b : Int) (hb : 0 < b) : (Rat.divInt t b).num = t / (Int.gcd t b : Int) ∧ ((Rat.divInt t b).den : Int) = b / (Int.gcd t b : Int) := by
  refine ⟨?_, ?_⟩
  · rw [Rat.num_divInt, Int.sign_eq_one_of_pos hb, Int.one_mul, Int.gcd_comm]
  · rw [Rat.den_divInt, if_neg (by omega), Int.gcd_comm b t]
    have e : b = (b.natAbs : Int) := by omega
    conv => rhs; rw [e]
    rw [show Int.gcd t (b.natAbs : Int) = Int.gcd t b by rw [← e]]
    rfl
abbrev N_ratio : List Str := ["top", "bottom", "by"]
theorem sc_ratio : FnScope N_ratio ["top", "bottom"] (defScope (topS 6)) := ⟨rfl, rfl, rfl, by decide +kernel, rfl, by decide +kernel, by decide +kernel⟩
theorem ok_ratio (T : Tx K mg) : Ok P w K mg base "ratio" ["top", "bottom"] 2 (SpF K S_ratio) := by
  refine okFR T.d_ratio rfl sc_ratio (fun ds k h => by obtain ⟨_, _, rfl, _⟩ := h; rfl) fun cdv A outer s H E f hr => ⟨_, (pss_cons (ps_if (PW.pt (pw_or (pt_not (pt_val (pe_ok (ok_is_whole T) hr (by decide) (by rfl) (pa_cons (pv 0) pa_nil)))) (pw_or (pt_not (pt_val (pe_ok (ok_is_whole T) hr (by decide) (by rfl) (pa_cons (pv 1) pa_nil)))) (pw_or1 (pt_cmpR op_eq (pv 1) pe_int (nomark _)))))) (pss_one ps_never) pss_nil)
      (pss_cons (ps_if (pt_cmpR op_lt (pv 1) pe_int (nomark _)) (pss_one (ps_par (i := 0) (j := 1) (by rfl) sc_ratio.nd rfl rfl (by decide) rfl rfl (pa_cons (pe_op op_sub pe_int (pv 0)) (pa_cons (pe_op op_sub pe_int (pv 1)) pa_nil)) (by rfl))) pss_nil)
      (pss_cons (ps_set (i := 2) sc_ratio.nd rfl (Or.inl rfl) (pe_ok (ok_divisor T) hr (by decide) (by rfl) (pa_cons (pv 0) (pa_cons (pv 1) pa_nil))))
      (pss_one (ps_ret (pe_tup (pa_cons (pe_op op_fdivW (pv 0) (pv 2)) (pa_cons (pe_op op_fdivW (pv 1) (pv 2)) pa_nil)))))))), ?_⟩
  rintro ds kq ⟨t, b, rfl, hb, hz, q⟩
  have hc : ∀ t b : Int, 0 < b → b.natAbs < 2 ^ 9000 → CDivW t (Int.gcd t b : Int) ∧ CDivW b (Int.gcd t b : Int) := fun t b hb hz => by
    have hg : (0 : Int) < (Int.gcd t b : Int) := by
      have := Int.gcd_pos_of_ne_zero_right t (show b ≠ 0 by omega)
      omega
    have h1 := Int.gcd_le_natAbs_right t (show b ≠ 0 by omega)
    have h2 : ((Int.gcd t b : Int)).natAbs < 2 ^ 9000 := Nat.lt_of_le_of_lt (by omega) hz
    exact ⟨wide_div hg h2 (by decide) (by decide), wide_div hg h2 (by decide) (by decide)⟩
  show WS K _ [.dat (.int t), .dat (.int b), .no] _ _
  walk_at "ev"
  refine ⟨fun h => absurd (of_decide_eq_true h) hb, fun _ => ?_⟩
  walk_at "ev"
  refine ⟨fun h => ?_, fun h => ?_⟩
  · have hlt : b < 0 := of_decide_eq_true h
    walk_at "ev"
    have hb2 : 0 < 0 - b := by omega
    obtain ⟨c1, c2⟩ := hc (0 - t) (0 - b) hb2 (by omega)
    refine ⟨hb2, ?_⟩
    walk_at "ev"
    refine rd_i c1 ?_
    walk_at "ev"
    refine rd_i c2 ?_
    walk_at "ev"
    obtain ⟨e1, e2⟩ := divInt_pos (0 - t) (0 - b) hb2
    rw [← e1, ← e2]
    have e : Rat.divInt (0 - t) (0 - b) = Rat.divInt t b := by
      rw [Int.zero_sub, Int.zero_sub, Rat.neg_divInt_neg]
    rw [e]
    exact q
  · have hlt : ¬ b < 0 := of_decide_eq_false h
    have hb2 : 0 < b := by omega
    walk_at "ev"
    obtain ⟨c1, c2⟩ := hc t b hb2 hz
    refine ⟨hb2, ?_⟩
    walk_at "ev"
    refine rd_i c1 ?_
    walk_at "ev"
    refine rd_i c2 ?_
    walk_at "ev"
    obtain ⟨e1, e2⟩ := divInt_pos t b hb2
    rw [← e1, ← e2]
    exact q
def S_plus : Fs where
  run := fun ds k => ∃ (a b : Rat), ds = [rt a, rt b] ∧ Sz 4500 a ∧ Sz 4500 b ∧ k (rt (a + b))
  mono := fun ds k k' h ⟨a, b, e, s0, s1, q⟩ => ⟨a, b, e, s0, s1, h _ q⟩
abbrev N_plus : List Str := ["one", "other"]
theorem sc_plus : FnScope N_plus ["one", "other"] (defScope (topS 7)) := ⟨rfl, rfl, rfl, by decide +kernel, rfl, by decide +kernel, by decide +kernel⟩
theorem ok_plus (T : Tx K mg) : Ok P w K mg base "plus" ["one", "other"] 3 (SpF K S_plus) := by
  refine okF T.d_plus sc_plus (fun ds k h => by obtain ⟨_, _, rfl, _⟩ := h; rfl) fun cdv A outer s H E f hr => ⟨_, (pss_one (ps_ret (pe_ok (ok_ratio T) hr (by decide) (by rfl) (pa_cons (pe_op op_add (pe_op op_mulW (pe_ix (ixT K) (pv 0) pe_int (fun _ _ => rfl)) (pe_ix (ixT K) (pv 1) pe_int (fun _ _ => rfl))) (pe_op op_mulW (pe_ix (ixT K) (pv 1) pe_int (fun _ _ => rfl)) (pe_ix (ixT K) (pv 0) pe_int (fun _ _ => rfl)))) (pa_cons (pe_op op_mulW (pe_ix (ixT K) (pv 0) pe_int (fun _ _ => rfl)) (pe_ix (ixT K) (pv 1) pe_int (fun _ _ => rfl))) pa_nil))))), ?_⟩
  rintro ds kq ⟨a, b, rfl, sa, sb, q⟩
  show WS K _ [.dat (rt a), .dat (rt b)] _ _
  walk_at "ev"
  refine rd_i (cmul sa.1 sb.d (by decide)) ?_
  walk_at "ev"
  refine rd_i (cmul sb.1 sa.d (by decide)) ?_
  walk_at "ev"
  refine rd_i (cmul sa.d sb.d (by decide)) ?_
  walk_at "ev"
  refine ⟨Int.mul_ne_zero (den_ne a) (den_ne b), by rw [Int.natAbs_mul]; exact mul_lt9 sa.2 sb.2, ?_⟩
  rw [Rat.add_def', ← Rat.divInt_ofNat] at q
  exact q
def S_minus : Fs where
  run := fun ds k => ∃ (a b : Rat), ds = [rt a, rt b] ∧ Sz 4500 a ∧ Sz 4500 b ∧ k (rt (a - b))
  mono := fun ds k k' h ⟨a, b, e, s0, s1, q⟩ => ⟨a, b, e, s0, s1, h _ q⟩
abbrev N_minus : List Str := ["one", "other"]
theorem sc_minus : FnScope N_minus ["one", "other"] (defScope (topS 8)) := ⟨rfl, rfl, rfl, by decide +kernel, rfl, by decide +kernel, by decide +kernel⟩
theorem ok_minus (T : Tx K mg) : Ok P w K mg base "minus" ["one", "other"] 3 (SpF K S_minus) := by
  refine okF T.d_minus sc_minus (fun ds k h => by obtain ⟨_, _, rfl, _⟩ := h; rfl) fun cdv A outer s H E f hr => ⟨_, (pss_one (ps_ret (pe_ok (ok_ratio T) hr (by decide) (by rfl) (pa_cons (pe_op op_sub (pe_op op_mulW (pe_ix (ixT K) (pv 0) pe_int (fun _ _ => rfl)) (pe_ix (ixT K) (pv 1) pe_int (fun _ _ => rfl))) (pe_op op_mulW (pe_ix (ixT K) (pv 1) pe_int (fun _ _ => rfl)) (pe_ix (ixT K) (pv 0) pe_int (fun _ _ => rfl)))) (pa_cons (pe_op op_mulW (pe_ix (ixT K) (pv 0) pe_int (fun _ _ => rfl)) (pe_ix (ixT K) (pv 1) pe_int (fun _ _ => rfl))) pa_nil))))), ?_⟩
  rintro ds kq ⟨a, b, rfl, sa, sb, q⟩
  show WS K _ [.dat (rt a), .dat (rt b)] _ _
  walk_at "ev"
  refine rd_i (cmul sa.1 sb.d (by decide)) ?_
  walk_at "ev"
  refine rd_i (cmul sb.1 sa.d (by decide)) ?_
  walk_at "ev"
  refine rd_i (cmul sa.d sb.d (by decide)) ?_
  walk_at "ev"
  refine ⟨Int.mul_ne_zero (den_ne a) (den_ne b), by rw [Int.natAbs_mul]; exact mul_lt9 sa.2 sb.2, ?_⟩
  rw [Rat.sub_def', ← Rat.divInt_ofNat] at q
  exact q
def S_times : Fs where
  run := fun ds k => ∃ (a b : Rat), ds = [rt a, rt b] ∧ Sz 4500 a ∧ Sz 4500 b ∧ k (rt (a * b))
  mono := fun ds k k' h ⟨a, b, e, s0, s1, q⟩ => ⟨a, b, e, s0, s1, h _ q⟩
abbrev N_times : List Str := ["one", "other"]
theorem sc_times : FnScope N_times ["one", "other"] (defScope (topS 9)) := ⟨rfl, rfl, rfl, by decide +kernel, rfl, by decide +kernel, by decide +kernel⟩
theorem ok_times (T : Tx K mg) : Ok P w K mg base "times" ["one", "other"] 3 (SpF K S_times) := by
  refine okF T.d_times sc_times (fun ds k h => by obtain ⟨_, _, rfl, _⟩ := h; rfl) fun cdv A outer s H E f hr => ⟨_, (pss_one (ps_ret (pe_ok (ok_ratio T) hr (by decide) (by rfl) (pa_cons (pe_op op_mulW (pe_ix (ixT K) (pv 0) pe_int (fun _ _ => rfl)) (pe_ix (ixT K) (pv 1) pe_int (fun _ _ => rfl))) (pa_cons (pe_op op_mulW (pe_ix (ixT K) (pv 0) pe_int (fun _ _ => rfl)) (pe_ix (ixT K) (pv 1) pe_int (fun _ _ => rfl))) pa_nil))))), ?_⟩
  rintro ds kq ⟨a, b, rfl, sa, sb, q⟩
  show WS K _ [.dat (rt a), .dat (rt b)] _ _
  walk_at "ev"
  refine rd_i (cmul sa.1 sb.1 (by decide)) ?_
  walk_at "ev"
  refine rd_i (cmul sa.d sb.d (by decide)) ?_
  walk_at "ev"
  refine ⟨Int.mul_ne_zero (den_ne a) (den_ne b), by rw [Int.natAbs_mul]; exact mul_lt9 sa.2 sb.2, ?_⟩
  rw [Rat.mul_def', ← Rat.divInt_ofNat] at q
  exact q
def S_over : Fs where
  run := fun ds k => ∃ (a b : Rat), ds = [rt a, rt b] ∧ Sz 4500 a ∧ Sz 4500 b ∧ b ≠ 0 ∧ k (rt (a / b))
  mono := fun ds k k' h ⟨a, b, e, s0, s1, s2, q⟩ => ⟨a, b, e, s0, s1, s2, h _ q⟩
abbrev N_over : List Str := ["one", "other"]
theorem sc_over : FnScope N_over ["one", "other"] (defScope (topS 10)) := ⟨rfl, rfl, rfl, by decide +kernel, rfl, by decide +kernel, by decide +kernel⟩
theorem ok_over (T : Tx K mg) : Ok P w K mg base "over" ["one", "other"] 3 (SpF K S_over) := by
  refine okF T.d_over sc_over (fun ds k h => by obtain ⟨_, _, rfl, _⟩ := h; rfl) fun cdv A outer s H E f hr => ⟨_, (pss_one (ps_ret (pe_ok (ok_ratio T) hr (by decide) (by rfl) (pa_cons (pe_op op_mulW (pe_ix (ixT K) (pv 0) pe_int (fun _ _ => rfl)) (pe_ix (ixT K) (pv 1) pe_int (fun _ _ => rfl))) (pa_cons (pe_op op_mulW (pe_ix (ixT K) (pv 0) pe_int (fun _ _ => rfl)) (pe_ix (ixT K) (pv 1) pe_int (fun _ _ => rfl))) pa_nil))))), ?_⟩
  rintro ds kq ⟨a, b, rfl, sa, sb, h0, q⟩
  show WS K _ [.dat (rt a), .dat (rt b)] _ _
  walk_at "ev"
  refine rd_i (cmul sa.1 sb.d (by decide)) ?_
  walk_at "ev"
  refine rd_i (cmul sa.d sb.1 (by decide)) ?_
  walk_at "ev"
  refine ⟨Int.mul_ne_zero (den_ne a) (num_ne h0), by rw [Int.natAbs_mul]; exact mul_lt9 sa.2 sb.1, ?_⟩
  rw [div_eq] at q
  exact q
def S_less : Fs where
  run := fun ds k => ∃ (a b : Rat), ds = [rt a, rt b] ∧ Sz 100000 a ∧ Sz 100000 b ∧ k (.bool (decide (a < b)))
  mono := fun ds k k' h ⟨a, b, e, s0, s1, q⟩ => ⟨a, b, e, s0, s1, h _ q⟩
abbrev N_less : List Str := ["one", "other"]
theorem sc_less : FnScope N_less ["one", "other"] (defScope (topS 11)) := ⟨rfl, rfl, rfl, by decide +kernel, rfl, by decide +kernel, by decide +kernel⟩
theorem ok_less (T : Tx K mg) : Ok P w K mg base "less" ["one", "other"] 1 (SpF K S_less) := by
  refine okF T.d_less sc_less (fun ds k h => by obtain ⟨_, _, rfl, _⟩ := h; rfl) fun cdv A outer s H E f hr => ⟨_, (pss_one (ps_ret (pe_cmpR op_lt (pe_op op_mulW (pe_ix (ixT K) (pv 0) pe_int (fun _ _ => rfl)) (pe_ix (ixT K) (pv 1) pe_int (fun _ _ => rfl))) (pe_op op_mulW (pe_ix (ixT K) (pv 1) pe_int (fun _ _ => rfl)) (pe_ix (ixT K) (pv 0) pe_int (fun _ _ => rfl))) (nomark _)))), ?_⟩
  rintro ds kq ⟨a, b, rfl, sa, sb, q⟩
  show WS K _ [.dat (rt a), .dat (rt b)] _ _
  walk_at "ev"
  refine rd_i (cmul sa.1 sb.d (by decide)) ?_
  walk_at "ev"
  refine rd_i (cmul sb.1 sa.d (by decide)) ?_
  walk_at "ev"
  have e : decide (a < b) = decide (a.num * (b.den : Int) < b.num * (a.den : Int)) := decide_eq_decide.mpr (Rat.lt_iff a b)
  rw [e] at q
  exact q
def S_negative : Fs where
  run := fun ds k => ∃ (a : Rat), ds = [rt a] ∧ k (rt (-a))
  mono := fun ds k k' h ⟨a, e, q⟩ => ⟨a, e, h _ q⟩
abbrev N_negative : List Str := ["one"]
theorem sc_negative : FnScope N_negative ["one"] (defScope (topS 12)) := ⟨rfl, rfl, rfl, by decide +kernel, rfl, by decide +kernel, by decide +kernel⟩
theorem ok_negative (T : Tx K mg) : Ok P w K mg base "negative" ["one"] 1 (SpF K S_negative) := by
  refine okF T.d_negative sc_negative (fun ds k h => by obtain ⟨_, rfl, _⟩ := h; rfl) fun cdv A outer s H E f hr => ⟨_, (pss_one (ps_ret (pe_tup (pa_cons (pe_op op_sub pe_int (pe_ix (ixT K) (pv 0) pe_int (fun _ _ => rfl))) (pa_cons (pe_ix (ixT K) (pv 0) pe_int (fun _ _ => rfl)) pa_nil))))), ?_⟩
  rintro ds kq ⟨a, rfl, q⟩
  show WS K _ [.dat (rt a)] _ _
  walk_at "ev"
  rw [Int.zero_sub]
  exact q
def S_size : Fs where
  run := fun ds k => ∃ (a : Rat), ds = [rt a] ∧ k (rt (Rg.ab a))
  mono := fun ds k k' h ⟨a, e, q⟩ => ⟨a, e, h _ q⟩
abbrev N_size : List Str := ["one"]
theorem sc_size : FnScope N_size ["one"] (defScope (topS 13)) := ⟨rfl, rfl, rfl, by decide +kernel, rfl, by decide +kernel, by decide +kernel⟩
theorem ok_size (T : Tx K mg) : Ok P w K mg base "size" ["one"] 1 (SpF K S_size) := by
  refine okF T.d_size sc_size (fun ds k h => by obtain ⟨_, rfl, _⟩ := h; rfl) fun cdv A outer s H E f hr => ⟨_, (pss_one (ps_ret (pe_tup (pa_cons (pe_callB call_abs (by rfl) T.n_abs (by decide +kernel) (pa_cons (pe_ix (ixT K) (pv 0) pe_int (fun _ _ => rfl)) pa_nil)) (pa_cons (pe_ix (ixT K) (pv 0) pe_int (fun _ _ => rfl)) pa_nil))))), ?_⟩
  rintro ds kq ⟨a, rfl, q⟩
  show WS K _ [.dat (rt a)] _ _
  walk_at "ev"
  rw [← ab_num, ← ab_den]
  exact q
def S_summed : Fs where
  run := fun ds k => ∃ (p q y u : Rat), ds = [rt p, rt q, .tuple [rt y, rt u]] ∧ Sz 2200 p ∧ Sz 2200 q ∧ Sz 2200 y ∧ Sz 2200 u ∧ k (rt (p * y + q * u))
  mono := fun ds k k' h ⟨p, q, y, u, e, s0, s1, s2, s3, z⟩ => ⟨p, q, y, u, e, s0, s1, s2, s3, h _ z⟩
abbrev N_summed : List Str := ["p", "q", "ray"]
theorem sc_summed : FnScope N_summed ["p", "q", "ray"] (defScope (topS 18)) := ⟨rfl, rfl, rfl, by decide +kernel, rfl, by decide +kernel, by decide +kernel⟩
theorem ok_summed (T : Tx K mg) : Ok P w K mg base "summed" ["p", "q", "ray"] 4 (SpF K S_summed) := by
  refine okF T.d_summed sc_summed (fun ds k h => by obtain ⟨_, _, _, _, rfl, _⟩ := h; rfl) fun cdv A outer s H E f hr => ⟨_, (pss_one (ps_ret (pe_ok (ok_plus T) hr (by decide) (by rfl) (pa_cons (pe_ok (ok_times T) hr (by decide) (by rfl) (pa_cons (pv 0) (pa_cons (pe_ix (ixT K) (pv 2) pe_int (fun _ _ => rfl)) pa_nil))) (pa_cons (pe_ok (ok_times T) hr (by decide) (by rfl) (pa_cons (pv 1) (pa_cons (pe_ix (ixT K) (pv 2) pe_int (fun _ _ => rfl)) pa_nil))) pa_nil))))), ?_⟩
  rintro ds kq ⟨p, q, y, u, rfl, sp, sq, sx, sy, z⟩
  show WS K _ [.dat (rt p), .dat (rt q), .dat (.tuple [rt y, rt u])] _ _
  walk_at "ev"
  exact z
end
end Wk


set_option Elab.async false
set_option linter.all false
set_option maxRecDepth 100000
set_option maxHeartbeats 8000000
namespace Wk
open PySem PySem.Spec PyProof.Rows L2 Lg
set_option exponentiation.threshold 20000
abbrev tbD (t : Rg.Tb) : PyData := .tuple [rt t.a, rt t.b, rt t.c, rt t.d]
abbrev ptD (a : Str × Rat) : PyData := .tuple [.str a.1, rt a.2]
structure LOk (l : Rg.Ln) : Prop where
  cd : Rg.Cd 400 l
  r : Sz 20 l.r
  ne : l.p ≠ 0 ∨ l.q ≠ 0
  pos : 0 < l.r
theorem sz_hn {n : Nat} {D : Int} {x : Rat} (h : Rg.Hn n D x) (hD : 0 < D) (hz : D.natAbs < 2 ^ n) : Sz n x := by
  obtain ⟨A, a, e⟩ := h.sz (by omega) hz
  rw [e]
  exact Sz.of_div a hz (by omega)
theorem LOk.sp {l : Rg.Ln} (h : LOk l) : Sz 400 l.p := by
  obtain ⟨D, d0, d1, hp, hq⟩ := h.cd
  exact sz_hn hp d0 d1
theorem LOk.sq {l : Rg.Ln} (h : LOk l) : Sz 400 l.q := by
  obtain ⟨D, d0, d1, hp, hq⟩ := h.cd
  exact sz_hn hq d0 d1
/-- a table of so many parts -/
theorem tok_sz {n m : Nat} {t : Rg.Tb} (h : Rg.TOk n t) (l : n ≤ m) : Sz m t.a ∧ Sz m t.b ∧ Sz m t.c ∧ Sz m t.d := by
  obtain ⟨D, d0, d1, ha, hb, hc, hd⟩ := h.den
  exact ⟨(sz_hn ha d0 d1).mono l, (sz_hn hb d0 d1).mono l, (sz_hn hc d0 d1).mono l, (sz_hn hd d0 d1).mono l⟩
def partTab (w : Str) (x : Rat) : Rg.Tb := if w = "gap" then ⟨1, x, 0, 1⟩ else if w = "glass" then ⟨1, 0, 0 - x, 1⟩ else ⟨1, 0, 0, 1⟩
theorem partTab_ok (w : Str) {x : Rat} (h : Sz 41 x) : Rg.TOk 42 (partTab w x) := by
  unfold partTab
  split
  · exact Rg.gap_ok h.1 h.2
  · split
    · exact Rg.glass_ok h.1 h.2
    · obtain ⟨⟨D, d0, d1, ha, hb, hc, hd⟩, e⟩ := Rg.same_ok
      have l : 2 ≤ 42 := by decide
      exact ⟨⟨D, d0, Nat.lt_of_lt_of_le d1 (Rg.p2 l), ha.mono l, hb.mono l, hc.mono l, hd.mono l⟩, e⟩
section
variable {K : PySem.W.Frag} {tas : TA} {te : TE} {ρ : List Sl} {Q : PyData → List Sl → Prop}
theorem we_lst (h : WA K tas ρ fun ds ρ' => ds.length ≤ 1000000 ∧ Q (.list ds) ρ') : WE K (tLst tas) ρ Q := WL.we (wl_lst h)
end
local macro_rules | `(tactic| walk_at "ev") => `(tactic| repeat (first
  | (with_reducible apply wa_nil)
  | (with_reducible apply wa_cons)
  | ((with_reducible apply we_cn); assumption)
  | (with_reducible apply we_int)
  | (with_reducible apply we_str)
  | (with_reducible apply we_bl)
  | (with_reducible apply we_non)
  | ((with_reducible apply we_var); exact rfl)
  | (with_reducible apply we_head2)
  | (with_reducible apply we_tup)
  | (with_reducible apply we_lst)
  | (with_reducible apply we_notInA)
  | (with_reducible apply we_op)
  | (with_reducible apply we_un)
  | (with_reducible apply wc_1)
  | (with_reducible apply rd_i0)
  | (with_reducible apply rd_b0)
  | ((with_reducible apply rd_ixT); exact rfl)
  | (with_reducible apply rd_eqI)
  | (with_reducible apply rd_neI)
  | (with_reducible apply rd_eqS)
  | (with_reducible apply rd_neS)
  | (with_reducible apply rd_eqB)
  | (with_reducible apply rd_neB)
  | (with_reducible apply we_call)
  | (with_reducible apply we_cb)
  | (with_reducible apply cd_abs)
  | (with_reducible apply wt_test)
  | (with_reducible apply wt_b)
  | (with_reducible apply wt_not)
  | (with_reducible apply wt_and)
  | (with_reducible apply wt_or)
  | (with_reducible apply wt_yes)
  | (with_reducible apply ws_next)
  | (with_reducible apply ws_ret)
  | (with_reducible apply ws_asg)
  | (with_reducible apply ws_if)
  | (with_reducible apply ws_par)
  | (with_reducible apply ws_asgG)
  | (with_reducible apply wg_name)
  | ((with_reducible apply wg_tup); exact rfl)
  | (with_reducible apply wgs_nil)
  | (with_reducible apply wgs_cons)
  | (with_reducible apply ws_seq)
  | (refine ⟨(show List.length _ ≤ 1000000 from Nat.le_of_ble_eq_true rfl), ?_⟩)
  | (refine ⟨fun _ => ?_, fun h => absurd h (by decide)⟩)
  | (refine ⟨fun h => absurd h (by decide), fun _ => ?_⟩)
  | (refine ⟨(show Sz _ _ by walk_at "sz"), ?_⟩)
  | (refine ⟨_, rfl, ?_⟩)
  | (refine ⟨_, _, rfl, ?_⟩)
  | (refine ⟨_, _, _, rfl, ?_⟩)
  | (refine ⟨_, _, _, _, rfl, ?_⟩)))
local macro_rules | `(tactic| walk_at "sz0") => `(tactic| first
  | assumption
  | exact sz0
  | exact sz1
  | exact Sz.add (by walk_at "sz0") (by walk_at "sz0")
  | exact Sz.sub (by walk_at "sz0") (by walk_at "sz0")
  | exact Sz.mul (by walk_at "sz0") (by walk_at "sz0")
  | exact Sz.neg (by walk_at "sz0")
  | exact Sz.ab (by walk_at "sz0")
  | exact Sz.div (by walk_at "sz0") (by walk_at "sz0") (by assumption))
local macro_rules | `(tactic| walk_at "sz") => `(tactic| first
  | assumption
  | exact Sz.mono (by walk_at "sz0") (by decide))

section
variable {P : Program} {w : World} {K : PySem.W.Frag} {mg : Str → Option Value} {base : Heap}
def S_led : Fs where
  run := fun ds k => ∃ (t : Rg.Tb), ∃ (y u : Rat), ds = [tbD t, .tuple [rt y, rt u]] ∧ (Sz 2200 t.a ∧ Sz 2200 t.b ∧ Sz 2200 t.c ∧ Sz 2200 t.d) ∧ Sz 2200 y ∧ Sz 2200 u ∧ k (.tuple [rt (t.a * y + t.b * u), rt (t.c * y + t.d * u)])
  mono := fun ds k k' h ⟨t, y, u, e, s0, s1, s2, q⟩ => ⟨t, y, u, e, s0, s1, s2, h _ q⟩
abbrev N_led : List Str := ["table", "ray", "a", "b", "c", "d"]
theorem sc_led : FnScope N_led ["table", "ray"] (defScope (topS 19)) := ⟨rfl, rfl, rfl, by decide +kernel, rfl, by decide +kernel, by decide +kernel⟩
theorem ok_led (T : Tx K mg) : Ok P w K mg base "led" ["table", "ray"] 5 (SpF K S_led) := by
  refine okF T.d_led sc_led (fun ds k h => by obtain ⟨_, _, _, rfl, _⟩ := h; rfl) fun cdv A outer s H E f hr => ⟨_, (pss_cons (ps_asg (pv 0) (tupK K 4 rfl (pgs_cons (pg_name (i := 2) sc_led.nd rfl (Or.inl rfl)) (pgs_cons (pg_name (i := 3) sc_led.nd rfl (Or.inl rfl)) (pgs_cons (pg_name (i := 4) sc_led.nd rfl (Or.inl rfl)) (pgs_cons (pg_name (i := 5) sc_led.nd rfl (Or.inl rfl)) pgs_nil))))))
      (pss_one (ps_ret (pe_tup (pa_cons (pe_ok (ok_summed T) hr (by decide) (by rfl) (pa_cons (pv 2) (pa_cons (pv 3) (pa_cons (pv 1) pa_nil)))) (pa_cons (pe_ok (ok_summed T) hr (by decide) (by rfl) (pa_cons (pv 4) (pa_cons (pv 5) (pa_cons (pv 1) pa_nil)))) pa_nil)))))), ?_⟩
  rintro ds kq ⟨t, y, u, rfl, ⟨s1, s2, s3, s4⟩, sy, su, q⟩
  show WS K _ [.dat (tbD t), .dat (.tuple [rt y, rt u]), .no, .no, .no, .no] _ _
  walk_at "ev"
  exact q
def S_behind : Fs where
  run := fun ds k => ∃ (t o : Rg.Tb), ds = [tbD t, tbD o] ∧ (Sz 2200 t.a ∧ Sz 2200 t.b ∧ Sz 2200 t.c ∧ Sz 2200 t.d) ∧ (Sz 2200 o.a ∧ Sz 2200 o.b ∧ Sz 2200 o.c ∧ Sz 2200 o.d) ∧ k (tbD (Rg.behind t o))
  mono := fun ds k k' h ⟨t, o, e, s0, s1, q⟩ => ⟨t, o, e, s0, s1, h _ q⟩
abbrev N_behind : List Str := ["one", "other", "first", "second"]
theorem sc_behind : FnScope N_behind ["one", "other"] (defScope (topS 20)) := ⟨rfl, rfl, rfl, by decide +kernel, rfl, by decide +kernel, by decide +kernel⟩
theorem ok_behind (T : Tx K mg) : Ok P w K mg base "behind" ["one", "other"] 6 (SpF K S_behind) := by
  refine okF T.d_behind sc_behind (fun ds k h => by obtain ⟨_, _, rfl, _⟩ := h; rfl) fun cdv A outer s H E f hr => ⟨_, (pss_cons (ps_set (i := 2) sc_behind.nd rfl (Or.inl rfl) (pe_ok (ok_led T) hr (by decide) (by rfl) (pa_cons (pv 1) (pa_cons (pe_tup (pa_cons (pe_ix (ixT K) (pv 0) pe_int (fun _ _ => rfl)) (pa_cons (pe_ix (ixT K) (pv 0) pe_int (fun _ _ => rfl)) pa_nil))) pa_nil))))
      (pss_cons (ps_set (i := 3) sc_behind.nd rfl (Or.inl rfl) (pe_ok (ok_led T) hr (by decide) (by rfl) (pa_cons (pv 1) (pa_cons (pe_tup (pa_cons (pe_ix (ixT K) (pv 0) pe_int (fun _ _ => rfl)) (pa_cons (pe_ix (ixT K) (pv 0) pe_int (fun _ _ => rfl)) pa_nil))) pa_nil))))
      (pss_one (ps_ret (pe_tup (pa_cons (pe_ix (ixT K) (pv 2) pe_int (fun _ _ => rfl)) (pa_cons (pe_ix (ixT K) (pv 3) pe_int (fun _ _ => rfl)) (pa_cons (pe_ix (ixT K) (pv 2) pe_int (fun _ _ => rfl)) (pa_cons (pe_ix (ixT K) (pv 3) pe_int (fun _ _ => rfl)) pa_nil))))))))), ?_⟩
  rintro ds kq ⟨t, o, rfl, ⟨s1, s2, s3, s4⟩, so, q⟩
  show WS K _ [.dat (tbD t), .dat (tbD o), .no, .no] _ _
  walk_at "ev"
  refine ⟨so, ?_⟩
  walk_at "ev"
  refine ⟨so, ?_⟩
  walk_at "ev"
  exact q
def S_cross : Fs where
  run := fun ds k => ∃ (a b c d : Rat), ds = [.tuple [rt a, rt b], .tuple [rt c, rt d]] ∧ Sz 2200 a ∧ Sz 2200 b ∧ Sz 2200 c ∧ Sz 2200 d ∧ k (rt (a * d - b * c))
  mono := fun ds k k' h ⟨a, b, c, d, e, s0, s1, s2, s3, q⟩ => ⟨a, b, c, d, e, s0, s1, s2, s3, h _ q⟩
abbrev N_cross : List Str := ["one", "other"]
theorem sc_cross : FnScope N_cross ["one", "other"] (defScope (topS 21)) := ⟨rfl, rfl, rfl, by decide +kernel, rfl, by decide +kernel, by decide +kernel⟩
theorem ok_cross (T : Tx K mg) : Ok P w K mg base "cross" ["one", "other"] 4 (SpF K S_cross) := by
  refine okF T.d_cross sc_cross (fun ds k h => by obtain ⟨_, _, _, _, rfl, _⟩ := h; rfl) fun cdv A outer s H E f hr => ⟨_, (pss_one (ps_ret (pe_ok (ok_minus T) hr (by decide) (by rfl) (pa_cons (pe_ok (ok_times T) hr (by decide) (by rfl) (pa_cons (pe_ix (ixT K) (pv 0) pe_int (fun _ _ => rfl)) (pa_cons (pe_ix (ixT K) (pv 1) pe_int (fun _ _ => rfl)) pa_nil))) (pa_cons (pe_ok (ok_times T) hr (by decide) (by rfl) (pa_cons (pe_ix (ixT K) (pv 0) pe_int (fun _ _ => rfl)) (pa_cons (pe_ix (ixT K) (pv 1) pe_int (fun _ _ => rfl)) pa_nil))) pa_nil))))), ?_⟩
  rintro ds kq ⟨a, b, c, d, rfl, sa, sb, sc, sd, q⟩
  show WS K _ [.dat (.tuple [rt a, rt b]), .dat (.tuple [rt c, rt d])] _ _
  walk_at "ev"
  exact q
def S_part_table : Fs where
  run := fun ds k => ∃ (w : Str), ∃ (x : Rat), ds = [.tuple [.str w, rt x]] ∧ Sz 2000 x ∧ k (tbD (partTab w x))
  mono := fun ds k k' h ⟨w, x, e, s0, q⟩ => ⟨w, x, e, s0, h _ q⟩
abbrev N_part_table : List Str := ["part", "word", "number"]
theorem sc_part_table : FnScope N_part_table ["part"] (defScope (topS 27)) := ⟨rfl, rfl, rfl, by decide +kernel, rfl, by decide +kernel, by decide +kernel⟩
theorem ok_part_table (T : Tx K mg) : Ok P w K mg base "part_table" ["part"] 4 (SpF K S_part_table) := by
  obtain ⟨v_GAP, c_GAP⟩ := T.c_GAP
  obtain ⟨v_GLASS, c_GLASS⟩ := T.c_GLASS
  obtain ⟨v_NOUGHT_benches, c_NOUGHT_benches⟩ := T.c_NOUGHT_benches
  obtain ⟨v_ONE_benches, c_ONE_benches⟩ := T.c_ONE_benches
  obtain ⟨v_SAME, c_SAME⟩ := T.c_SAME
  refine okF T.d_part_table sc_part_table (fun ds k h => by obtain ⟨_, _, rfl, _⟩ := h; rfl) fun cdv A outer s H E f hr => ⟨_, (pss_cons (ps_asg (pv 0) (tupK K 2 rfl (pgs_cons (pg_name (i := 1) sc_part_table.nd rfl (Or.inl rfl)) (pgs_cons (pg_name (i := 2) sc_part_table.nd rfl (Or.inl rfl)) pgs_nil))))
      (pss_cons (ps_if (pt_cmpR op_eq (pv 1) (pe_cn c_GAP (by rfl)) (nomark _)) (pss_one (ps_ret (pe_tup (pa_cons (pe_cn c_ONE_benches (by rfl)) (pa_cons (pv 2) (pa_cons (pe_cn c_NOUGHT_benches (by rfl)) (pa_cons (pe_cn c_ONE_benches (by rfl)) pa_nil))))))) pss_nil)
      (pss_cons (ps_if (pt_cmpR op_eq (pv 1) (pe_cn c_GLASS (by rfl)) (nomark _)) (pss_one (ps_ret (pe_tup (pa_cons (pe_cn c_ONE_benches (by rfl)) (pa_cons (pe_cn c_NOUGHT_benches (by rfl)) (pa_cons (pe_ok (ok_minus T) hr (by decide) (by rfl) (pa_cons (pe_cn c_NOUGHT_benches (by rfl)) (pa_cons (pv 2) pa_nil))) (pa_cons (pe_cn c_ONE_benches (by rfl)) pa_nil))))))) pss_nil)
      (pss_one (ps_ret (pe_cn c_SAME (by rfl))))))), ?_⟩
  rintro ds kq ⟨v, x, rfl, sx, q⟩
  show WS K _ [.dat (.tuple [.str v, rt x]), .no, .no] _ _
  walk_at "ev"
  unfold partTab at q
  refine ⟨fun h => ?_, fun h => ?_⟩
  · rw [if_pos (of_decide_eq_true h)] at q
    walk_at "ev"
    exact q
  · rw [if_neg (of_decide_eq_false h)] at q
    walk_at "ev"
    refine ⟨fun h => ?_, fun h => ?_⟩
    · rw [if_pos (of_decide_eq_true h)] at q
      walk_at "ev"
      exact q
    · rw [if_neg (of_decide_eq_false h)] at q
      walk_at "ev"
      exact q
def S_lets_by : Fs where
  run := fun ds k => ∃ (l : Rg.Ln), ∃ (y u : Rat), ds = [lnD l, .tuple [rt y, rt u]] ∧ LOk l ∧ Sz 2100 y ∧ Sz 2100 u ∧ k (.bool (Rg.lb l (y, u)))
  mono := fun ds k k' h ⟨l, y, u, e, s0, s1, s2, q⟩ => ⟨l, y, u, e, s0, s1, s2, h _ q⟩
abbrev N_lets_by : List Str := ["line", "ray"]
theorem sc_lets_by : FnScope N_lets_by ["line", "ray"] (defScope (topS 30)) := ⟨rfl, rfl, rfl, by decide +kernel, rfl, by decide +kernel, by decide +kernel⟩
theorem ok_lets_by (T : Tx K mg) : Ok P w K mg base "lets_by" ["line", "ray"] 5 (SpF K S_lets_by) := by
  refine okF T.d_lets_by sc_lets_by (fun ds k h => by obtain ⟨_, _, _, rfl, _⟩ := h; rfl) fun cdv A outer s H E f hr => ⟨_, (pss_one (ps_ret (pe_not (pe_ok (ok_less T) hr (by decide) (by rfl) (pa_cons (pe_ix (ixT K) (pv 0) pe_int (fun _ _ => rfl)) (pa_cons (pe_ok (ok_size T) hr (by decide) (by rfl) (pa_cons (pe_ok (ok_summed T) hr (by decide) (by rfl) (pa_cons (pe_ix (ixT K) (pv 0) pe_int (fun _ _ => rfl)) (pa_cons (pe_ix (ixT K) (pv 0) pe_int (fun _ _ => rfl)) (pa_cons (pv 1) pa_nil)))) pa_nil)) pa_nil)))))), ?_⟩
  rintro ds kq ⟨l, y, u, rfl, hl, sy, su, q⟩
  show WS K _ [.dat (lnD l), .dat (.tuple [rt y, rt u])] _ _
  have h1 := hl.sp
  have h2 := hl.sq
  have h3 := hl.r
  refine ws_ret (we_notV ?_)
  walk_at "ev"
  exact q
def S_lets : Fs where
  run := fun ds k => ∃ (L : List Rg.Ln), ∃ (y u : Rat), ds = [lsD L, .tuple [rt y, rt u]] ∧ (∀ l, l ∈ L → LOk l) ∧ L.length ≤ 1000 ∧ Sz 2100 y ∧ Sz 2100 u ∧ k (.bool (Rg.lts L (y, u)))
  mono := fun ds k k' h ⟨L, y, u, e, s0, s1, s2, s3, q⟩ => ⟨L, y, u, e, s0, s1, s2, s3, h _ q⟩
abbrev N_lets : List Str := ["lines", "ray", "line"]
theorem sc_lets : FnScope N_lets ["lines", "ray"] (defScope (topS 31)) := ⟨rfl, rfl, rfl, by decide +kernel, rfl, by decide +kernel, by decide +kernel⟩
theorem ok_lets (T : Tx K mg) : Ok P w K mg base "lets" ["lines", "ray"] 6 (SpF K S_lets) := by
  refine okF T.d_lets sc_lets (fun ds k h => by obtain ⟨_, _, _, rfl, _⟩ := h; rfl) fun cdv A outer s H E f hr => ⟨_, (pss_one (ps_ret (pe_callB (allK K (by rfl) rfl) (by rfl) T.n_all (by decide +kernel) (pa_cons (pe_lcV (vs := [2]) rfl (pe_lc (own := [("line", 2)]) (g := gName 2) (tt := tYes) rfl sc_lets.nd (piL K (by rfl) (pv 0)) (blkOk_by (own := [("line", 2)]) (N := N_lets) (sc := defScope (topS 31)) (by decide +kernel)) (fun _ _ _ _ _ => (pg_name (i := 2) sc_lets.nd rfl (Or.inl rfl))) (fun _ _ _ _ _ => pts_nil) (fun _ _ _ _ _ => (pe_ok (ok_lets_by T) hr (by decide) (by rfl) (pa_cons (pv 2) (pa_cons (pv 1) pa_nil)))))) pa_nil)))), ?_⟩
  rintro ds kq ⟨L, y, u, rfl, hl, hz, sy, su, q⟩
  show WS K _ [.dat (lsD L), .dat (.tuple [rt y, rt u]), .no] _ _
  refine ws_ret (we_cb (wa_cons (WL.we (wl_fm (fun l => lnD l) L (fun _ => true) (fun l => .bool (Rg.lb l (y, u))) ?_))))
  walk_at "ev"
  refine ⟨rfl, by omega, fun l hm => ?_, ?_⟩
  · walk_at "ev"
    refine ⟨rfl, fun _ => ?_, fun h => nomatch h⟩
    walk_at "ev"
    refine ⟨hl l hm, ?_⟩
    walk_at "ev"
    exact ⟨rfl, rfl⟩
  · walk_at "ev"
    have e : (L.filter (fun _ => true)).map (fun l => PyData.bool (Rg.lb l (y, u))) = (L.map fun l => Rg.lb l (y, u)).map PyData.bool := by
      rw [List.filter_eq_self.mpr (fun _ _ => rfl), List.map_map]
      rfl
    rw [e]
    refine cd_all ?_
    have e2 : (L.map fun l => Rg.lb l (y, u)).all id = Rg.lts L (y, u) := by
      unfold Rg.lts
      rw [List.all_map]
      rfl
    rw [e2]
    exact q
def S_opposite : Fs where
  run := fun ds k => ∃ (y u : Rat), ds = [.tuple [rt y, rt u]] ∧ k (.tuple [rt (-y), rt (-u)])
  mono := fun ds k k' h ⟨y, u, e, q⟩ => ⟨y, u, e, h _ q⟩
abbrev N_opposite : List Str := ["ray"]
theorem sc_opposite : FnScope N_opposite ["ray"] (defScope (topS 34)) := ⟨rfl, rfl, rfl, by decide +kernel, rfl, by decide +kernel, by decide +kernel⟩
theorem ok_opposite (T : Tx K mg) : Ok P w K mg base "opposite" ["ray"] 2 (SpF K S_opposite) := by
  refine okF T.d_opposite sc_opposite (fun ds k h => by obtain ⟨_, _, rfl, _⟩ := h; rfl) fun cdv A outer s H E f hr => ⟨_, (pss_one (ps_ret (pe_tup (pa_cons (pe_ok (ok_negative T) hr (by decide) (by rfl) (pa_cons (pe_ix (ixT K) (pv 0) pe_int (fun _ _ => rfl)) pa_nil)) (pa_cons (pe_ok (ok_negative T) hr (by decide) (by rfl) (pa_cons (pe_ix (ixT K) (pv 0) pe_int (fun _ _ => rfl)) pa_nil)) pa_nil))))), ?_⟩
  rintro ds kq ⟨y, u, rfl, q⟩
  show WS K _ [.dat (.tuple [rt y, rt u])] _ _
  walk_at "ev"
  exact q
def S_by_two : Fs where
  run := fun ds k => ∃ (l m : Rg.Ln), ∃ (v z : Rat), ds = [lnD l, lnD m, rt v, rt z] ∧ LOk l ∧ LOk m ∧ Sz 20 v ∧ Sz 20 z ∧ Rg.cr (Rg.pq l) (Rg.pq m) ≠ 0 ∧ k (ryD (Rg.byTwo l m v z))
  mono := fun ds k k' h ⟨l, m, v, z, e, s0, s1, s2, s3, s4, q⟩ => ⟨l, m, v, z, e, s0, s1, s2, s3, s4, h _ q⟩
abbrev N_by_two : List Str := ["one", "other", "worth", "more", "under", "height", "slope"]
theorem sc_by_two : FnScope N_by_two ["one", "other", "worth", "more"] (defScope (topS 33)) := ⟨rfl, rfl, rfl, by decide +kernel, rfl, by decide +kernel, by decide +kernel⟩
theorem ok_by_two (T : Tx K mg) : Ok P w K mg base "by_two" ["one", "other", "worth", "more"] 5 (SpF K S_by_two) := by
  refine okF T.d_by_two sc_by_two (fun ds k h => by obtain ⟨_, _, _, _, rfl, _⟩ := h; rfl) fun cdv A outer s H E f hr => ⟨_, (pss_cons (ps_set (i := 4) sc_by_two.nd rfl (Or.inl rfl) (pe_ok (ok_cross T) hr (by decide) (by rfl) (pa_cons (pe_slice (slT K) (pv 0) po_none (po_some pe_int)) (pa_cons (pe_slice (slT K) (pv 1) po_none (po_some pe_int)) pa_nil))))
      (pss_cons (ps_set (i := 5) sc_by_two.nd rfl (Or.inl rfl) (pe_ok (ok_minus T) hr (by decide) (by rfl) (pa_cons (pe_ok (ok_times T) hr (by decide) (by rfl) (pa_cons (pv 2) (pa_cons (pe_ix (ixT K) (pv 1) pe_int (fun _ _ => rfl)) pa_nil))) (pa_cons (pe_ok (ok_times T) hr (by decide) (by rfl) (pa_cons (pv 3) (pa_cons (pe_ix (ixT K) (pv 0) pe_int (fun _ _ => rfl)) pa_nil))) pa_nil))))
      (pss_cons (ps_set (i := 6) sc_by_two.nd rfl (Or.inl rfl) (pe_ok (ok_minus T) hr (by decide) (by rfl) (pa_cons (pe_ok (ok_times T) hr (by decide) (by rfl) (pa_cons (pv 3) (pa_cons (pe_ix (ixT K) (pv 0) pe_int (fun _ _ => rfl)) pa_nil))) (pa_cons (pe_ok (ok_times T) hr (by decide) (by rfl) (pa_cons (pv 2) (pa_cons (pe_ix (ixT K) (pv 1) pe_int (fun _ _ => rfl)) pa_nil))) pa_nil))))
      (pss_one (ps_ret (pe_tup (pa_cons (pe_ok (ok_over T) hr (by decide) (by rfl) (pa_cons (pv 5) (pa_cons (pv 4) pa_nil))) (pa_cons (pe_ok (ok_over T) hr (by decide) (by rfl) (pa_cons (pv 6) (pa_cons (pv 4) pa_nil))) pa_nil)))))))), ?_⟩
  rintro ds kq ⟨l, m, v, z, rfl, hl, hm, sv, sz, hc, q⟩
  show WS K _ [.dat (lnD l), .dat (lnD m), .dat (rt v), .dat (rt z), .no, .no, .no] _ _
  have h1 := hl.sp
  have h2 := hl.sq
  have h4 := hm.sp
  have h5 := hm.sq
  have hc2 : l.p * m.q - l.q * m.p ≠ 0 := hc
  walk_at "ev"
  refine ⟨hc2, ?_⟩
  walk_at "ev"
  refine ⟨hc2, ?_⟩
  walk_at "ev"
  exact q
end
end Wk


set_option Elab.async false
set_option linter.all false
set_option maxRecDepth 100000
set_option maxHeartbeats 8000000
namespace Wk
open PySem PySem.Spec PyProof.Rows L2 Lg
set_option exponentiation.threshold 20000
theorem num_neg (x : Rat) : decide (x.num < 0) = decide (x < 0) := decide_eq_decide.mpr (by
  rw [Rat.lt_iff]
  show _ ↔ x.num * 1 < 0 * (x.den : Int)
  omega)
theorem num_pos' (x : Rat) : decide (x.num > 0) = decide (0 < x) := decide_eq_decide.mpr (by
  rw [Rat.lt_iff]
  show _ ↔ 0 * (x.den : Int) < x.num * 1
  omega)
theorem num_zero' (x : Rat) : decide (x.num = 0) = decide (x = 0) := decide_eq_decide.mpr Rat.num_eq_zero
structure ROk (x : Rg.Ray) : Prop where
  a : Sz 900 x.1
  b : Sz 900 x.2
local macro_rules | `(tactic| walk_at "ev") => `(tactic| repeat (first
  | (with_reducible apply wa_nil)
  | (with_reducible apply wa_cons)
  | ((with_reducible apply we_cn); assumption)
  | (with_reducible apply we_int)
  | (with_reducible apply we_str)
  | (with_reducible apply we_bl)
  | (with_reducible apply we_non)
  | ((with_reducible apply we_var); exact rfl)
  | (with_reducible apply we_head2)
  | (with_reducible apply we_tup)
  | (with_reducible apply we_lst)
  | (with_reducible apply we_notInA)
  | (with_reducible apply we_op)
  | (with_reducible apply we_un)
  | (with_reducible apply wc_1)
  | (with_reducible apply rd_i0)
  | (with_reducible apply rd_b0)
  | ((with_reducible apply rd_ixT); exact rfl)
  | (with_reducible apply rd_eqI)
  | (with_reducible apply rd_neI)
  | (with_reducible apply rd_eqS)
  | (with_reducible apply rd_neS)
  | (with_reducible apply rd_eqB)
  | (with_reducible apply rd_neB)
  | (with_reducible apply we_call)
  | (with_reducible apply we_cb)
  | (with_reducible apply cd_abs)
  | (with_reducible apply wt_test)
  | (with_reducible apply wt_b)
  | (with_reducible apply wt_not)
  | (with_reducible apply wt_and)
  | (with_reducible apply wt_or)
  | (with_reducible apply wt_yes)
  | (with_reducible apply ws_next)
  | (with_reducible apply ws_ret)
  | (with_reducible apply ws_asg)
  | (with_reducible apply ws_if)
  | (with_reducible apply ws_par)
  | (with_reducible apply ws_asgG)
  | (with_reducible apply wg_name)
  | ((with_reducible apply wg_tup); exact rfl)
  | (with_reducible apply wgs_nil)
  | (with_reducible apply wgs_cons)
  | (with_reducible apply ws_seq)
  | (refine ⟨(show List.length _ ≤ 1000000 from Nat.le_of_ble_eq_true rfl), ?_⟩)
  | (refine ⟨fun _ => ?_, fun h => absurd h (by decide)⟩)
  | (refine ⟨fun h => absurd h (by decide), fun _ => ?_⟩)
  | (refine ⟨(show Sz _ _ by walk_at "sz"), ?_⟩)
  | (refine ⟨_, rfl, ?_⟩)
  | (refine ⟨_, _, rfl, ?_⟩)
  | (refine ⟨_, _, _, rfl, ?_⟩)
  | (refine ⟨_, _, _, _, rfl, ?_⟩)))
local macro_rules | `(tactic| walk_at "sz0") => `(tactic| first
  | assumption
  | exact sz0
  | exact sz1
  | exact Sz.add (by walk_at "sz0") (by walk_at "sz0")
  | exact Sz.sub (by walk_at "sz0") (by walk_at "sz0")
  | exact Sz.mul (by walk_at "sz0") (by walk_at "sz0")
  | exact Sz.neg (by walk_at "sz0")
  | exact Sz.ab (by walk_at "sz0")
  | exact Sz.div (by walk_at "sz0") (by walk_at "sz0") (by assumption))
local macro_rules | `(tactic| walk_at "sz") => `(tactic| first
  | assumption
  | exact Sz.mono (by walk_at "sz0") (by decide))

section
variable {P : Program} {w : World} {K : PySem.W.Frag} {mg : Str → Option Value} {base : Heap}
def S_lines_of : Fs where
  run := fun ds k => ∃ B : List (Str × Rat), ds = [.list (B.map fun a => ptD a)] ∧ B.length ≤ 9 ∧ (∀ a, a ∈ B → Sz 41 a.2 ∧ (a.1 = "stop" → Sz 20 a.2 ∧ 0 < a.2)) ∧ ∀ L : List Rg.Ln, L.length ≤ B.length → (∀ l, l ∈ L → LOk l) → k (lsD L)
  mono := fun ds k k' h ⟨B, e, b, c, q⟩ => ⟨B, e, b, c, fun L l1 l2 => h _ (q L l1 l2)⟩
abbrev N_lines_of : List Str := ["bench", "found", "table", "part"]
theorem sc_lines_of : FnScope N_lines_of ["bench"] (defScope (topS 29)) := ⟨rfl, rfl, rfl, by decide +kernel, rfl, by decide +kernel, by decide +kernel⟩
theorem ok_lines_of (T : Tx K mg) : Ok P w K mg base "lines_of" ["bench"] 7 (SpF K S_lines_of) := by
  obtain ⟨v_SAME, c_SAME⟩ := T.c_SAME
  refine okF T.d_lines_of sc_lines_of (fun ds k h => by obtain ⟨_, rfl, _⟩ := h; rfl) fun cdv A outer s H E f hr => ⟨_, (pss_cons (ps_set (i := 1) sc_lines_of.nd rfl (Or.inl rfl) (pe_lst pa_nil))
      (pss_cons (ps_set (i := 2) sc_lines_of.nd rfl (Or.inl rfl) (pe_cn c_SAME (by rfl)))
      (pss_cons (ps_for PassesOwn.never rfl (piL K (by rfl) (pv 0)) (pg_name (i := 3) sc_lines_of.nd rfl (Or.inl rfl)) (pss_cons (ps_if (pt_cmpR op_eq (pe_ix (ixT K) (pv 3) pe_int (fun _ _ => rfl)) pe_str (nomark _)) (pss_one (ps_expr (bmK K PySem.F.plainAttrs_list PySem.F.slot_list_append PySem.F.type_list_append mt_append (pv 1) (pa_cons (pe_tup (pa_cons (pe_ix (ixT K) (pv 2) pe_int (fun _ _ => rfl)) (pa_cons (pe_ix (ixT K) (pv 2) pe_int (fun _ _ => rfl)) (pa_cons (pe_ix (ixT K) (pv 3) pe_int (fun _ _ => rfl)) pa_nil)))) pa_nil)))) pss_nil)
      (pss_one (ps_set (i := 2) sc_lines_of.nd rfl (Or.inl rfl) (pe_ok (ok_behind T) hr (by decide) (by rfl) (pa_cons (pv 2) (pa_cons (pe_ok (ok_part_table T) hr (by decide) (by rfl) (pa_cons (pv 3) pa_nil)) pa_nil)))))))
      (pss_one (ps_ret (pv 1)))))), ?_⟩
  rintro ds kq ⟨B, rfl, hB, hp, q⟩
  show WS K _ [.dat (.list (B.map fun a => ptD a)), .no, .no, .no] _ _
  refine ws_seq (ws_asgO (wl_lst (wa_nil ⟨by decide, fun o => ?_⟩)))
  walk_at "ev"
  refine ws_forM (fun a => ptD a) B (fun i ρ => ∃ (L : List Rg.Ln) (t : Rg.Tb) (x : Sl), ρ = [.dat (.list (B.map fun a => ptD a)), .own o (L.map fun l => lnD l), .dat (tbD t), x] ∧ (∀ l, l ∈ L → LOk l) ∧ L.length ≤ i ∧ Rg.TOk (2 + 43 * i) t) ?_ ?_ ?_
  · walk_at "ev"
    exact ⟨rfl, [], Rg.same, .no, rfl, (fun l hl => nomatch hl), Nat.le_refl _, Rg.same_ok⟩
  · rintro i a ρ2 ha ⟨L, t, x, rfl, hL, hlen, hT⟩
    have hi : i < 9 := by have := (List.getElem?_eq_some_iff.mp ha).1; omega
    obtain ⟨h41, hst⟩ := hp a (List.mem_of_getElem? ha)
    walk_at "ev"
    refine ⟨fun h => ?_, fun h => ?_⟩
    · obtain ⟨s20, pos⟩ := hst (of_decide_eq_true h)
      refine ws_append rfl ?_
      walk_at "ev"
      refine ⟨by rw [List.length_map]; omega, ?_⟩
      walk_at "ev"
      refine ⟨tok_sz hT (by omega), tok_sz (partTab_ok _ h41) (by decide), ?_⟩
      walk_at "ev"
      refine ⟨L ++ [⟨t.a, t.b, a.2⟩], _, _, by rw [List.map_append]; rfl, ?_, by rw [List.length_append]; exact Nat.succ_le_succ hlen, Rg.behind_ok hT (partTab_ok _ h41) (by omega)⟩
      intro l hl
      rcases List.mem_append.mp hl with hl | hl
      · exact hL l hl
      · rw [List.mem_singleton] at hl
        subst hl
        obtain ⟨D, d0, d1, ta, tb, tc, td⟩ := hT.den
        refine ⟨⟨D, d0, Nat.lt_of_lt_of_le d1 (Rg.p2 (by omega)), ta.mono (by omega), tb.mono (by omega)⟩, s20, ?_, pos⟩
        by_cases z : t.a = 0
        · right
          intro z2
          have := hT.det
          have z2' : t.b = 0 := z2
          rw [z, z2'] at this
          exact absurd this (by grind)
        · exact .inl z
    · walk_at "ev"
      refine ⟨tok_sz hT (by omega), tok_sz (partTab_ok _ h41) (by decide), ?_⟩
      walk_at "ev"
      exact ⟨hL, by omega, Rg.behind_ok hT (partTab_ok _ h41) (by omega)⟩
  · rintro ρ2 ⟨L, t, x, rfl, hL, hlen, hT⟩
    refine ws_freeze (i := 1) rfl ?_
    walk_at "ev"
    exact q L hlen hL
def S_is_least : Fs where
  run := fun ds k => ∃ (a b c d : Rat), ds = [.tuple [rt a, rt b], .tuple [rt c, rt d]] ∧ Sz 2200 a ∧ Sz 2200 b ∧ Sz 2200 c ∧ Sz 2200 d ∧ k (.bool (Rg.ltR (a, b) (c, d)))
  mono := fun ds k k' h ⟨a, b, c, d, e, s0, s1, s2, s3, q⟩ => ⟨a, b, c, d, e, s0, s1, s2, s3, h _ q⟩
abbrev N_is_least : List Str := ["ray", "other", "one", "more"]
theorem sc_is_least : FnScope N_is_least ["ray", "other"] (defScope (topS 36)) := ⟨rfl, rfl, rfl, by decide +kernel, rfl, by decide +kernel, by decide +kernel⟩
theorem ok_is_least (T : Tx K mg) : Ok P w K mg base "is_least" ["ray", "other"] 4 (SpF K S_is_least) := by
  refine okF T.d_is_least sc_is_least (fun ds k h => by obtain ⟨_, _, _, _, rfl, _⟩ := h; rfl) fun cdv A outer s H E f hr => ⟨_, (pss_cons (ps_for PassesOwn.never rfl (zipK K (by rfl) T.n_zip (pa_cons (pv 0) (pa_cons (pv 1) pa_nil))) (tupK K 2 rfl (pgs_cons (pg_name (i := 2) sc_is_least.nd rfl (Or.inl rfl)) (pgs_cons (pg_name (i := 3) sc_is_least.nd rfl (Or.inl rfl)) pgs_nil))) (pss_one (ps_if (pt_cmpR (neDK K (by rfl) hr.units) (pv 2) (pv 3) (nomark _)) (pss_one (ps_ret (pe_cmpR op_lt (pe_ix (ixT K) (pe_ok (ok_minus T) hr (by decide) (by rfl) (pa_cons (pv 2) (pa_cons (pv 3) pa_nil))) pe_int (fun _ _ => rfl)) pe_int (nomark _)))) pss_nil)))
      (pss_one (ps_ret pe_bl))), ?_⟩
  rintro ds kq ⟨a, b, c, d, rfl, sa, sb, sc, sd, q⟩
  show WS K _ [.dat (.tuple [rt a, rt b]), .dat (.tuple [rt c, rt d]), .no, .no] _ _
  unfold Rg.ltR at q
  have turn : ∀ (one more : Rat) (z1 z2 : Sl) (I : List Sl → Prop), Sz 2200 one → Sz 2200 more → (one ≠ more → kq (.bool (decide (one - more < 0)))) → (one = more → I [.dat (.tuple [rt a, rt b]), .dat (.tuple [rt c, rt d]), .dat (rt one), .dat (rt more)]) →
      WS K (tIfS (tTest (tOp (rNeD K) (tVar 2) (tVar 3))) (tRet (tOp (rI0 fun i j => .bl (decide (i < j))) (tOp (rIxT K) (tCall (SpF K S_minus) [] E0 (tCons (tVar 2) (tCons (tVar 3) tNil))) (tC (.int 0))) (tC (.int 0)))) tNext)
        [.dat (.tuple [rt a, rt b]), .dat (.tuple [rt c, rt d]), .dat (rt one), .dat (rt more)] I (fun d _ => kq d) := fun one more z1 z2 I h1 h2 k1 k2 => by
    walk_at "ev"
    refine rd_neD (shaped_rt _) (shaped_rt _) ?_
    rw [eqv_rt]
    walk_at "ev"
    refine ⟨fun h => ?_, fun h => ?_⟩
    · walk_at "ev"
      rw [num_neg]
      exact k1 (by simpa using h)
    · walk_at "ev"
      exact k2 (by simpa using h)
  refine ws_seq (ws_zipT ?_)
  walk_at "ev"
  refine ⟨_, _, fun i ρ => ∃ z1 z2 : Sl, ρ = [.dat (.tuple [rt a, rt b]), .dat (.tuple [rt c, rt d]), z1, z2] ∧ (1 ≤ i → a = c) ∧ (2 ≤ i → b = d), rfl, rfl, ⟨.no, .no, rfl, fun h => absurd h (by decide), fun h => absurd h (by decide)⟩, ?_, ?_⟩
  · rintro i x y ρ2 hx hy ⟨z1, z2, rfl, i1, i2⟩
    match i, hx, hy, i1, i2 with
    | 0, hx, hy, i1, i2 =>
      cases hx
      cases hy
      refine wg_tup rfl (wgs_cons (wg_name (wgs_cons (wg_name (wgs_nil ?_)))))
      refine turn a c z1 z2 _ sa sc (fun ne => ?_) (fun e => ⟨_, _, rfl, fun _ => e, fun h => absurd h (by decide)⟩)
      rw [if_pos ne] at q
      exact q
    | 1, hx, hy, i1, i2 =>
      cases hx
      cases hy
      have e1 := i1 (by decide)
      refine wg_tup rfl (wgs_cons (wg_name (wgs_cons (wg_name (wgs_nil ?_)))))
      refine turn b d z1 z2 _ sb sd (fun ne => ?_) (fun e => ⟨_, _, rfl, fun _ => e1, fun _ => e⟩)
      rw [if_neg (show ¬ (a, b).1 ≠ (c, d).1 from fun h => h e1), if_pos ne] at q
      exact q
    | i + 2, hx, _, _, _ => cases hx
  · rintro ρ2 ⟨z1, z2, rfl, i1, i2⟩
    have e1 := i1 (by show 1 ≤ 2; decide)
    have e2 := i2 (by show 2 ≤ 2; decide)
    rw [if_neg (show ¬ (a, b).1 ≠ (c, d).1 from fun h => h e1), if_neg (show ¬ (a, b).2 ≠ (c, d).2 from fun h => h e2)] at q
    walk_at "ev"
    exact q
def S_least_ray : Fs where
  run := fun ds k => ∃ (V : List Rg.Ray), ds = [rsD V] ∧ V ≠ [] ∧ (∀ v, v ∈ V → ROk v) ∧ k (ryD (Rg.least V))
  mono := fun ds k k' h ⟨V, e, s0, s1, q⟩ => ⟨V, e, s0, s1, h _ q⟩
abbrev N_least_ray : List Str := ["rays", "found", "ray"]
theorem sc_least_ray : FnScope N_least_ray ["rays"] (defScope (topS 37)) := ⟨rfl, rfl, rfl, by decide +kernel, rfl, by decide +kernel, by decide +kernel⟩
theorem ok_least_ray (T : Tx K mg) : Ok P w K mg base "least_ray" ["rays"] 5 (SpF K S_least_ray) := by
  refine okF T.d_least_ray sc_least_ray (fun ds k h => by obtain ⟨_, rfl, _⟩ := h; rfl) fun cdv A outer s H E f hr => ⟨_, (pss_cons (ps_set (i := 1) sc_least_ray.nd rfl (Or.inl rfl) (pe_ix (ixL K) (pv 0) pe_int (fun _ _ => rfl)))
      (pss_cons (ps_for PassesOwn.never rfl (piL K (by rfl) (pv 0)) (pg_name (i := 2) sc_least_ray.nd rfl (Or.inl rfl)) (pss_one (ps_if (pt_val (pe_ok (ok_is_least T) hr (by decide) (by rfl) (pa_cons (pv 2) (pa_cons (pv 1) pa_nil)))) (pss_one (ps_set (i := 1) sc_least_ray.nd rfl (Or.inl rfl) (pv 2))) pss_nil)))
      (pss_one (ps_ret (pv 1))))), ?_⟩
  rintro ds kq ⟨V, rfl, hne, hv, q⟩
  show WS K _ [.dat (rsD V), .no, .no] _ _
  obtain ⟨v, r, rfl⟩ : ∃ v r, V = v :: r := by
    cases V with
    | nil => exact absurd rfl hne
    | cons v r => exact ⟨v, r, rfl⟩
  have sub : ∀ i, ROk (((v :: r).take i).foldl (fun f x => if Rg.ltR x f then x else f) v) := by
    intro i
    have : ∀ (l : List Rg.Ray) (u : Rg.Ray), ROk u → (∀ x, x ∈ l → ROk x) → ROk (l.foldl (fun f x => if Rg.ltR x f then x else f) u) := by
      intro l
      induction l with
      | nil => intro u hu _; exact hu
      | cons x l ih =>
        intro u hu hl
        rw [List.foldl_cons]
        refine ih _ ?_ fun y hy => hl y (List.mem_cons_of_mem _ hy)
        split
        · exact hl x List.mem_cons_self
        · exact hu
    exact this _ v (hv v List.mem_cons_self) fun x hx => hv x (List.mem_of_mem_take hx)
  refine ws_seq (ws_asg (we_op (we_var rfl (we_int (rd_ixL (d := ryD v) (atI_nat (j := 0) rfl) ?_)))))
  walk_at "ev"
  refine ws_forM (fun x => ryD x) (v :: r) (fun i ρ => ∃ z : Sl, ρ = [.dat (rsD (v :: r)), .dat (ryD (((v :: r).take i).foldl (fun f x => if Rg.ltR x f then x else f) v)), z]) ?_ ?_ ?_
  · walk_at "ev"
    exact ⟨rfl, .no, rfl⟩
  · rintro i x ρ2 hx ⟨z, rfl⟩
    have h1 := sub i
    have h2 := hv x (List.mem_of_getElem? hx)
    have t : ((v :: r).take (i + 1)).foldl (fun f x => if Rg.ltR x f then x else f) v = (if Rg.ltR x (((v :: r).take i).foldl (fun f x => if Rg.ltR x f then x else f) v) then x else ((v :: r).take i).foldl (fun f x => if Rg.ltR x f then x else f) v) := by
      rw [List.take_add_one, hx, List.foldl_append]
      rfl
    rw [t]
    generalize ((v :: r).take i).foldl (fun f x => if Rg.ltR x f then x else f) v = f0 at *
    obtain ⟨h1a, h1b⟩ := h1
    obtain ⟨h2a, h2b⟩ := h2
    walk_at "ev"
    refine ⟨fun h => ?_, fun h => ?_⟩
    · rw [show Rg.ltR x f0 = true from h]
      walk_at "ev"
      exact ⟨_, rfl⟩
    · rw [show Rg.ltR x f0 = false from h]
      walk_at "ev"
      exact ⟨_, rfl⟩
  · rintro ρ2 ⟨z, rfl⟩
    rw [List.take_length]
    walk_at "ev"
    exact q
def S_next_around : Fs where
  run := fun ds k => ∃ (V : List Rg.Ray), ∃ (a : Rg.Ray), ds = [rsD V, ryD a] ∧ V.length ≤ 1000 ∧ (∀ v, v ∈ V → ROk v) ∧ ROk a ∧ V.filter (fun o => decide (0 < Rg.cr a o)) ≠ [] ∧ k (ryD (Rg.next V a))
  mono := fun ds k k' h ⟨V, a, e, s0, s1, s2, s3, q⟩ => ⟨V, a, e, s0, s1, s2, s3, h _ q⟩
abbrev N_next_around : List Str := ["rays", "ray", "other", "left", "found"]
theorem sc_next_around : FnScope N_next_around ["rays", "ray"] (defScope (topS 38)) := ⟨rfl, rfl, rfl, by decide +kernel, rfl, by decide +kernel, by decide +kernel⟩
theorem ok_next_around (T : Tx K mg) : Ok P w K mg base "next_around" ["rays", "ray"] 5 (SpF K S_next_around) := by
  refine okF T.d_next_around sc_next_around (fun ds k h => by obtain ⟨_, _, rfl, _⟩ := h; rfl) fun cdv A outer s H E f hr => ⟨_, (pss_cons (ps_lcV (vs := [2]) rfl (ps_setLc (i := 3) (own := [("other", 2)]) (g := gName 2) rfl sc_next_around.nd rfl rfl (sw_true rfl rfl rfl (by decide +kernel)) (piL K (by rfl) (pv 0)) (blkOk_by (own := [("other", 2)]) (N := N_next_around) (sc := defScope (topS 38)) (by decide +kernel)) (fun _ _ _ _ _ => (pg_name (i := 2) sc_next_around.nd rfl (Or.inl rfl))) (fun _ _ _ _ _ => (pts_one (pt_cmpR op_gt (pe_ix (ixT K) (pe_ok (ok_cross T) hr (by decide) (by rfl) (pa_cons (pv 1) (pa_cons (pv 2) pa_nil))) pe_int (fun _ _ => rfl)) pe_int (nomark _)))) (fun _ _ _ _ _ => (pv 2))))
      (pss_cons (ps_set (i := 4) sc_next_around.nd rfl (Or.inl rfl) (pe_ix (ixL K) (pv 3) pe_int (fun _ _ => rfl)))
      (pss_cons (ps_for PassesOwn.never rfl (piL K (by rfl) (pv 3)) (pg_name (i := 2) sc_next_around.nd rfl (Or.inl rfl)) (pss_one (ps_if (pt_cmpR op_gt (pe_ix (ixT K) (pe_ok (ok_cross T) hr (by decide) (by rfl) (pa_cons (pv 2) (pa_cons (pv 4) pa_nil))) pe_int (fun _ _ => rfl)) pe_int (nomark _)) (pss_one (ps_set (i := 4) sc_next_around.nd rfl (Or.inl rfl) (pv 2))) pss_nil)))
      (pss_one (ps_ret (pv 4)))))), ?_⟩
  rintro ds kq ⟨V, a, rfl, hz, hv, ⟨a1, a2⟩, hne, q⟩
  show WS K _ [.dat (rsD V), .dat (ryD a), .no, .no, .no] _ _
  refine ws_seq (ws_asg (WL.we (wl_fm (fun x => ryD x) V (fun o => decide (0 < Rg.cr a o)) (fun x => ryD x) ?_)))
  walk_at "ev"
  refine ⟨rfl, by omega, fun o ho => ?_, ?_⟩
  · obtain ⟨h1, h2⟩ := hv o ho
    walk_at "ev"
    refine ⟨num_pos' _, fun _ => ?_, fun _ => rfl⟩
    walk_at "ev"
    exact ⟨rfl, rfl⟩
  · have hF : ∀ x, x ∈ V.filter (fun o => decide (0 < Rg.cr a o)) → ROk x := fun x hx => hv x (List.mem_filter.mp hx).1
    unfold Rg.next at q
    generalize V.filter (fun o => decide (0 < Rg.cr a o)) = F at hne hF q
    obtain ⟨v, r, rfl⟩ : ∃ v r, F = v :: r := by
      cases F with
      | nil => exact absurd rfl hne
      | cons v r => exact ⟨v, r, rfl⟩
    have sub : ∀ i, ROk (((v :: r).take i).foldl (fun f o => if 0 < Rg.cr o f then o else f) v) := by
      intro i
      have : ∀ (l : List Rg.Ray) (u : Rg.Ray), ROk u → (∀ x, x ∈ l → ROk x) → ROk (l.foldl (fun f o => if 0 < Rg.cr o f then o else f) u) := by
        intro l
        induction l with
        | nil => intro u hu _; exact hu
        | cons x l ih =>
          intro u hu hl
          rw [List.foldl_cons]
          refine ih _ ?_ fun y hy => hl y (List.mem_cons_of_mem _ hy)
          split
          · exact hl x List.mem_cons_self
          · exact hu
      exact this _ v (hF v List.mem_cons_self) fun x hx => hF x (List.mem_of_mem_take hx)
    show WS K _ [.dat (rsD V), .dat (ryD a), .no, .dat (rsD (v :: r)), .no] _ _
    refine ws_seq (ws_asg (we_op (we_var rfl (we_int (rd_ixL (d := ryD v) (atI_nat (j := 0) rfl) ?_)))))
    walk_at "ev"
    refine ws_forM (fun x => ryD x) (v :: r) (fun i ρ => ∃ z : Sl, ρ = [.dat (rsD V), .dat (ryD a), z, .dat (rsD (v :: r)), .dat (ryD (((v :: r).take i).foldl (fun f o => if 0 < Rg.cr o f then o else f) v))]) ?_ ?_ ?_
    · walk_at "ev"
      exact ⟨rfl, .no, rfl⟩
    · rintro i x ρ2 hx ⟨z, rfl⟩
      have h1 := sub i
      have h2 := hF x (List.mem_of_getElem? hx)
      have t : ((v :: r).take (i + 1)).foldl (fun f o => if 0 < Rg.cr o f then o else f) v = (if 0 < Rg.cr x (((v :: r).take i).foldl (fun f o => if 0 < Rg.cr o f then o else f) v) then x else ((v :: r).take i).foldl (fun f o => if 0 < Rg.cr o f then o else f) v) := by
        rw [List.take_add_one, hx, List.foldl_append]
        rfl
      rw [t]
      generalize ((v :: r).take i).foldl (fun f o => if 0 < Rg.cr o f then o else f) v = f0 at *
      obtain ⟨h1a, h1b⟩ := h1
      obtain ⟨h2a, h2b⟩ := h2
      walk_at "ev"
      have nq := num_pos' (x.1 * f0.2 - x.2 * f0.1)
      refine ⟨fun h => ?_, fun h => ?_⟩
      · rw [nq] at h
        rw [if_pos (show 0 < Rg.cr x f0 from of_decide_eq_true h)]
        walk_at "ev"
        exact ⟨_, rfl⟩
      · rw [nq] at h
        rw [if_neg (show ¬ 0 < Rg.cr x f0 from of_decide_eq_false h)]
        walk_at "ev"
        exact ⟨_, rfl⟩
    · rintro ρ2 ⟨z, rfl⟩
      rw [List.take_length]
      walk_at "ev"
      exact q
end
end Wk


set_option Elab.async false
set_option linter.all false
set_option maxRecDepth 100000
set_option maxHeartbeats 8000000
namespace Wk
open PySem PySem.Spec PyProof.Rows L2 Lg
set_option exponentiation.threshold 20000
theorem okL {L : List Rg.Ln} (h : ∀ l, l ∈ L → LOk l) : Rg.OkL L := fun l hl => ⟨(h l hl).pos, (h l hl).ne⟩
theorem rok_pair {l m : Rg.Ln} (hl : LOk l) (hm : LOk m) {x : Rg.Ray} (h : Rg.ofPair l m x) : ROk x := by
  obtain ⟨c, h⟩ := h
  have c2 : Rg.cr (Rg.pq l) (Rg.pq m) ≠ 0 := c
  have key : ∀ z : Rat, Sz 20 z → ROk (Rg.byTwo l m l.r z) := fun z hz => by
    obtain ⟨⟨A, B, a1, a2, a3, a4⟩, C, D, b1, b2, b3, b4⟩ := Rg.byTwo_sz (k := 900) hl.cd hm.cd (w := l.r) (z := z) ⟨hl.r.num, hl.r.den⟩ ⟨hz.num, hz.den⟩ c2 (by decide)
    exact ⟨by rw [a4]; exact Sz.of_div a1 a2 a3, by rw [b4]; exact Sz.of_div b1 b2 b3⟩
  rcases h with e | e
  · rw [e]; exact key _ hm.r
  · rw [e]; exact key _ hm.r.neg
theorem rok_up {L : List Rg.Ln} (h : ∀ l, l ∈ L → LOk l) {k : Nat} {x : Rg.Ray} (hx : x ∈ Rg.metUp L k) : ROk x := by
  obtain ⟨j, i, l, m, _, _, hl, hm, hp, _⟩ := (Rg.mem_metUp k).mp hx
  exact rok_pair (h l (List.mem_of_getElem? hl)) (h m (List.mem_of_getElem? hm)) hp
theorem rok_met {L : List Rg.Ln} (h : ∀ l, l ∈ L → LOk l) {x : Rg.Ray} (hx : x ∈ Rg.met L) : ROk x := by
  rcases Rg.mem_metBoth.mp hx with y | y
  · exact rok_up h y
  · obtain ⟨a, b⟩ := rok_up h y
    have e : x = Rg.op (Rg.op x) := (Rg.op_op x).symm
    rw [e]
    exact ⟨a.neg, b.neg⟩
theorem len_one {L : List Rg.Ln} {one other : Rg.Ln} {F : List Rg.Ray} : (Rg.metOne L one F other).length ≤ F.length + 2 := by
  unfold Rg.metOne
  split
  · rw [List.length_append]
    have := List.length_filter_le (fun x => !decide (x ∈ F) && Rg.lts L x) [Rg.byTwo one other one.r other.r, Rg.byTwo one other one.r (-other.r)]
    have e : [Rg.byTwo one other one.r other.r, Rg.byTwo one other one.r (-other.r)].length = 2 := rfl
    omega
  · omega
theorem len_fold {L : List Rg.Ln} {one : Rg.Ln} : ∀ (M : List Rg.Ln) (F : List Rg.Ray), (M.foldl (Rg.metOne L one) F).length ≤ F.length + 2 * M.length
  | [], F => by simp
  | m :: M, F => by
    rw [List.foldl_cons]
    have h1 := len_fold (L := L) (one := one) M (Rg.metOne L one F m)
    have h2 := len_one (L := L) (one := one) (other := m) (F := F)
    rw [List.length_cons]
    omega
theorem len_up {L : List Rg.Ln} : ∀ k, (Rg.metUp L k).length ≤ 2 * L.length * k
  | 0 => by show 0 ≤ _; exact Nat.zero_le _
  | k + 1 => by
    unfold Rg.metUp
    have ih := len_up (L := L) k
    have e : 2 * L.length * (k + 1) = 2 * L.length * k + 2 * L.length := by rw [Nat.mul_succ]
    cases L[k]? with
    | none => show (Rg.metUp L k).length ≤ _; omega
    | some one =>
      show ((L.take k).foldl (Rg.metOne L one) (Rg.metUp L k)).length ≤ _
      have h1 := len_fold (L := L) (one := one) (L.take k) (Rg.metUp L k)
      have h2 := List.length_take_le' k L
      omega
theorem len_up9 {L : List Rg.Ln} (h : L.length ≤ 9) {k : Nat} (hk : k ≤ 9) : (Rg.metUp L k).length ≤ 200 := by
  have h1 := len_up (L := L) k
  have h2 : 2 * L.length * k ≤ 18 * 9 := Nat.mul_le_mul (by omega) hk
  omega
theorem len_met {L : List Rg.Ln} (h : L.length ≤ 9) : (Rg.met L).length ≤ 400 := by
  unfold Rg.met Rg.metBoth
  rw [List.length_append, List.length_map]
  have h1 := len_up9 h h
  have h2 := List.length_filter_le (fun x => !decide (Rg.op x ∈ Rg.metUp L L.length)) (Rg.metUp L L.length)
  omega
def cornD (L : List Rg.Ln) : PyData := match Rg.corn L with
  | none => .none
  | some V => rsD V
local macro_rules | `(tactic| walk_at "ev") => `(tactic| repeat (first
  | (with_reducible apply wa_nil)
  | (with_reducible apply wa_cons)
  | ((with_reducible apply we_cn); assumption)
  | (with_reducible apply we_int)
  | (with_reducible apply we_str)
  | (with_reducible apply we_bl)
  | (with_reducible apply we_non)
  | ((with_reducible apply we_var); exact rfl)
  | (with_reducible apply we_head2)
  | (with_reducible apply we_tup)
  | (with_reducible apply we_lst)
  | (with_reducible apply we_notInA)
  | (with_reducible apply we_op)
  | (with_reducible apply we_un)
  | (with_reducible apply wc_1)
  | (with_reducible apply rd_i0)
  | (with_reducible apply rd_b0)
  | ((with_reducible apply rd_ixT); exact rfl)
  | (with_reducible apply rd_eqI)
  | (with_reducible apply rd_neI)
  | (with_reducible apply rd_eqS)
  | (with_reducible apply rd_neS)
  | (with_reducible apply rd_eqB)
  | (with_reducible apply rd_neB)
  | (with_reducible apply we_call)
  | (with_reducible apply we_cb)
  | (with_reducible apply cd_abs)
  | (with_reducible apply wt_test)
  | (with_reducible apply wt_b)
  | (with_reducible apply wt_not)
  | (with_reducible apply wt_and)
  | (with_reducible apply wt_or)
  | (with_reducible apply wt_yes)
  | (with_reducible apply ws_next)
  | (with_reducible apply ws_ret)
  | (with_reducible apply ws_asg)
  | (with_reducible apply ws_if)
  | (with_reducible apply ws_par)
  | (with_reducible apply ws_asgG)
  | (with_reducible apply wg_name)
  | ((with_reducible apply wg_tup); exact rfl)
  | (with_reducible apply wgs_nil)
  | (with_reducible apply wgs_cons)
  | (with_reducible apply ws_seq)
  | (refine ⟨(show List.length _ ≤ 1000000 from Nat.le_of_ble_eq_true rfl), ?_⟩)
  | (refine ⟨fun _ => ?_, fun h => absurd h (by decide)⟩)
  | (refine ⟨fun h => absurd h (by decide), fun _ => ?_⟩)
  | (refine ⟨(show Sz _ _ by walk_at "sz"), ?_⟩)
  | (refine ⟨_, rfl, ?_⟩)
  | (refine ⟨_, _, rfl, ?_⟩)
  | (refine ⟨_, _, _, rfl, ?_⟩)
  | (refine ⟨_, _, _, _, rfl, ?_⟩)))
local macro_rules | `(tactic| walk_at "sz0") => `(tactic| first
  | assumption
  | exact sz0
  | exact sz1
  | exact Sz.add (by walk_at "sz0") (by walk_at "sz0")
  | exact Sz.sub (by walk_at "sz0") (by walk_at "sz0")
  | exact Sz.mul (by walk_at "sz0") (by walk_at "sz0")
  | exact Sz.neg (by walk_at "sz0")
  | exact Sz.ab (by walk_at "sz0")
  | exact Sz.div (by walk_at "sz0") (by walk_at "sz0") (by assumption))
local macro_rules | `(tactic| walk_at "sz") => `(tactic| first
  | assumption
  | exact Sz.mono (by walk_at "sz0") (by decide))

section
variable {P : Program} {w : World} {K : PySem.W.Frag} {mg : Str → Option Value} {base : Heap}
def S_met_by_two : Fs where
  run := fun ds k => ∃ (L : List Rg.Ln), ds = [lsD L] ∧ (∀ l, l ∈ L → LOk l) ∧ L.length ≤ 9 ∧ k (rsD (Rg.met L))
  mono := fun ds k k' h ⟨L, e, s0, s1, q⟩ => ⟨L, e, s0, s1, h _ q⟩
abbrev N_met_by_two : List Str := ["lines", "found", "k", "one", "other", "rays", "ray"]
theorem sc_met_by_two : FnScope N_met_by_two ["lines"] (defScope (topS 35)) := ⟨rfl, rfl, rfl, by decide +kernel, rfl, by decide +kernel, by decide +kernel⟩
theorem ok_met_by_two (T : Tx K mg) : Ok P w K mg base "met_by_two" ["lines"] 7 (SpF K S_met_by_two) := by
  refine okF T.d_met_by_two sc_met_by_two (fun ds k h => by obtain ⟨_, rfl, _⟩ := h; rfl) fun cdv A outer s H E f hr => ⟨_, (pss_cons (ps_set (i := 1) sc_met_by_two.nd rfl (Or.inr rfl) (pe_lst pa_nil))
      (pss_cons (ps_for PassesOwn.never rfl (enumK K (by rfl) T.n_enumerate (pa_cons (pv 0) pa_nil)) (tupK K 2 rfl (pgs_cons (pg_name (i := 2) sc_met_by_two.nd rfl (Or.inl rfl)) (pgs_cons (pg_name (i := 3) sc_met_by_two.nd rfl (Or.inl rfl)) pgs_nil))) (pss_one (ps_for PassesOwn.never rfl (piL K (by rfl) (pe_slice (slL K) (pv 0) po_none (po_some (pv 2)))) (pg_name (i := 4) sc_met_by_two.nd rfl (Or.inl rfl)) (pss_one (ps_if (pt_cmpR op_ne (pe_ix (ixT K) (pe_ok (ok_cross T) hr (by decide) (by rfl) (pa_cons (pe_slice (slT K) (pv 3) po_none (po_some pe_int)) (pa_cons (pe_slice (slT K) (pv 4) po_none (po_some pe_int)) pa_nil))) pe_int (fun _ _ => rfl)) pe_int (nomark _)) (pss_cons (ps_set (i := 5) sc_met_by_two.nd rfl (Or.inl rfl) (pe_lst (pa_cons (pe_ok (ok_by_two T) hr (by decide) (by rfl) (pa_cons (pv 3) (pa_cons (pv 4) (pa_cons (pe_ix (ixT K) (pv 3) pe_int (fun _ _ => rfl)) (pa_cons (pe_ix (ixT K) (pv 4) pe_int (fun _ _ => rfl)) pa_nil))))) (pa_cons (pe_ok (ok_by_two T) hr (by decide) (by rfl) (pa_cons (pv 3) (pa_cons (pv 4) (pa_cons (pe_ix (ixT K) (pv 3) pe_int (fun _ _ => rfl)) (pa_cons (pe_ok (ok_negative T) hr (by decide) (by rfl) (pa_cons (pe_ix (ixT K) (pv 4) pe_int (fun _ _ => rfl)) pa_nil)) pa_nil))))) pa_nil))))
      (pss_one (ps_expr (bmK K PySem.F.plainAttrs_list PySem.F.slot_list_extend PySem.F.type_list_extend mt_extend (pv 1) (pa_cons (pe_lcV (vs := [6]) rfl (pe_lc (own := [("ray", 6)]) (g := gName 6) rfl sc_met_by_two.nd (piL K (by rfl) (pv 5)) (blkOk_by (own := [("ray", 6)]) (N := N_met_by_two) (sc := defScope (topS 35)) (by decide +kernel)) (fun _ _ _ _ _ => (pg_name (i := 6) sc_met_by_two.nd rfl (Or.inl rfl))) (fun _ _ _ _ _ => (pts_one (PW.pt (pw_and (pt_cmpR (notInDK K (by rfl) (u65 hr)) (pv 6) (pv 1) (by rfl)) (pw_and1 (pt_val (pe_ok (ok_lets T) hr (by decide) (by rfl) (pa_cons (pv 0) (pa_cons (pv 6) pa_nil))))))))) (fun _ _ _ _ _ => (pv 6)))) pa_nil))))) pss_nil)))))
      (pss_one (ps_ret (pe_op op_cat (pv 1) (pe_lcV (vs := [6]) rfl (pe_lc (own := [("ray", 6)]) (g := gName 6) rfl sc_met_by_two.nd (piL K (by rfl) (pv 1)) (blkOk_by (own := [("ray", 6)]) (N := N_met_by_two) (sc := defScope (topS 35)) (by decide +kernel)) (fun _ _ _ _ _ => (pg_name (i := 6) sc_met_by_two.nd rfl (Or.inl rfl))) (fun _ _ _ _ _ => (pts_one (pt_cmpR (notInDK K (by rfl) (u65 hr)) (pe_ok (ok_opposite T) hr (by decide) (by rfl) (pa_cons (pv 6) pa_nil)) (pv 1) (by rfl)))) (fun _ _ _ _ _ => (pe_ok (ok_opposite T) hr (by decide) (by rfl) (pa_cons (pv 6) pa_nil)))))))))), ?_⟩
  rintro ds kq ⟨L, rfl, hL, hz, q⟩
  show WS K _ [.dat (lsD L), .no, .no, .no, .no, .no, .no] _ _
  refine ws_seq (ws_asgO (wl_lst (wa_nil ⟨by decide, fun o => ?_⟩)))
  refine ws_seq (ws_enumM (fun l => lnD l) L (fun k ρ => ∃ z2 z3 z4 z5 : Sl, ρ = [.dat (lsD L), .own o ((Rg.metUp L k).map fun x => ryD x), z2, z3, z4, z5, .no]) ?_ ?_ ?_)
  · walk_at "ev"
    exact ⟨rfl, .no, .no, .no, .no, rfl⟩
  · rintro k one ρ2 hk ⟨z2, z3, z4, z5, rfl⟩
    have hone := hL one (List.mem_of_getElem? hk)
    have hk9 : k < 9 := by have := (List.getElem?_eq_some_iff.mp hk).1; omega
    have up : Rg.metUp L (k + 1) = (L.take k).foldl (Rg.metOne L one) (Rg.metUp L k) := by
      show (match L[k]? with | some one => (L.take k).foldl (Rg.metOne L one) (Rg.metUp L k) | none => Rg.metUp L k) = _
      rw [hk]
    refine wg_tup rfl (wgs_cons (wg_name (wgs_cons (wg_name (wgs_nil ?_)))))
    refine ws_forM (fun l => lnD l) (L.take k) (fun j ρ => ∃ z4 z5 : Sl, ρ = [.dat (lsD L), .own o ((((L.take k).take j).foldl (Rg.metOne L one) (Rg.metUp L k)).map fun x => ryD x), .dat (.int (k : Int)), .dat (lnD one), z4, z5, .no]) ?_ ?_ ?_
    · refine WL.we (wl_head ?_)
      walk_at "ev"
      exact ⟨_, _, rfl, rfl, by rw [List.map_take], z4, z5, rfl⟩
    · rintro j m ρ3 hj ⟨z4, z5, rfl⟩
      have hj9 : j < 9 := by have := (List.getElem?_eq_some_iff.mp hj).1; rw [List.length_take] at this; omega
      have hm := hL m (List.mem_of_mem_take (List.mem_of_getElem? hj))
      have st : ((L.take k).take (j + 1)).foldl (Rg.metOne L one) (Rg.metUp L k) = Rg.metOne L one (((L.take k).take j).foldl (Rg.metOne L one) (Rg.metUp L k)) m := by
        rw [List.take_add_one, hj, List.foldl_append]
        rfl
      rw [st]
      have hlen : (((L.take k).take j).foldl (Rg.metOne L one) (Rg.metUp L k)).length ≤ 300 := by
        have h1 := len_fold (L := L) (one := one) ((L.take k).take j) (Rg.metUp L k)
        have h2 := len_up9 hz (k := k) (by omega)
        have h3 : ((L.take k).take j).length ≤ j := List.length_take_le _ _
        omega
      generalize ((L.take k).take j).foldl (Rg.metOne L one) (Rg.metUp L k) = F at *
      have h1 := hone.sp
      have h2 := hone.sq
      have h4 := hm.sp
      have h5 := hm.sq
      have h6 := hm.r
      have h7 := hone.r
      unfold Rg.metOne
      walk_at "ev"
      have nq := num_zero' (one.p * m.q - one.q * m.p)
      rw [nq]
      refine ⟨fun h => ?_, fun h => ?_⟩
      · have hc : Rg.cr (Rg.pq one) (Rg.pq m) ≠ 0 := not_dec h
        rw [if_pos hc]
        walk_at "ev"
        refine ⟨hone, hm, ?_⟩
        walk_at "ev"
        refine ⟨hc, ?_⟩
        walk_at "ev"
        refine ⟨hone, hm, ?_⟩
        walk_at "ev"
        refine ⟨hc, ?_⟩
        walk_at "ev"
        refine ws_extend (i := 1) rfl (WL.we (wl_fm (fun x => ryD x) [Rg.byTwo one m one.r m.r, Rg.byTwo one m one.r (-m.r)] (fun x => !decide (x ∈ F) && Rg.lts L x) (fun x => ryD x) ?_))
        walk_at "ev"
        refine ⟨rfl, Nat.le_of_ble_eq_true rfl, fun x hx => ?_, ?_⟩
        · obtain ⟨hx1, hx2⟩ : ROk x := by
            simp only [List.mem_cons, List.not_mem_nil, or_false] at hx
            exact rok_pair hone hm ⟨hc, hx⟩
          walk_at "ev"
          refine ⟨_, .inr ⟨_, rfl⟩, shaped_ry _, shaped_rs _, ?_⟩
          rw [any_ry]
          walk_at "ev"
          refine ⟨fun hb => ?_, fun hb => ?_⟩
          · walk_at "ev"
            refine ⟨hL, by omega, ?_⟩
            walk_at "ev"
            refine ⟨by rw [hb]; rfl, fun _ => ?_, fun _ => rfl⟩
            walk_at "ev"
            exact ⟨rfl, rfl⟩
          · exact ⟨by rw [hb]; rfl, (fun h => by rw [hb] at h; cases h), fun _ => rfl⟩
        · refine ⟨_, _, rfl, rfl, ?_, ?_⟩
          · rw [List.length_map, List.length_map]
            have := List.length_filter_le (fun x => !decide (x ∈ F) && Rg.lts L x) [Rg.byTwo one m one.r m.r, Rg.byTwo one m one.r (-m.r)]
            have e : [Rg.byTwo one m one.r m.r, Rg.byTwo one m one.r (-m.r)].length = 2 := rfl
            omega
          · rw [← List.map_append]
            exact ⟨_, _, rfl⟩
      · have hc : ¬ Rg.cr (Rg.pq one) (Rg.pq m) ≠ 0 := fun z => z (yes_dec h)
        rw [if_neg hc]
        walk_at "ev"
        exact ⟨_, _, rfl⟩
    · rintro ρ3 ⟨z4, z5, rfl⟩
      rw [List.take_length, ← up]
      exact ⟨_, _, _, _, rfl⟩
  · rintro ρ2 ⟨z2, z3, z4, z5, rfl⟩
    refine ws_freeze (i := 1) rfl ?_
    have h200 := len_up9 hz hz
    have hF : ∀ x, x ∈ Rg.metUp L L.length → ROk x := fun x hx => rok_up hL hx
    unfold Rg.met at q
    generalize Rg.metUp L L.length = F at *
    refine ws_ret (WL.we (wl_catD (we_var rfl (WL.we (wl_fm (fun x => ryD x) F (fun x => !decide (Rg.op x ∈ F)) (fun x => ryD (Rg.op x)) ?_)))))
    walk_at "ev"
    refine ⟨rfl, by omega, fun x hx => ?_, ?_⟩
    · walk_at "ev"
      refine ⟨_, .inl rfl, shaped_ry (Rg.op x), shaped_rs _, ?_⟩
      have e := any_ry F (Rg.op x)
      rw [show (PyData.tuple [rt (-x.1), rt (-x.2)]) = ryD (Rg.op x) from rfl, e]
      walk_at "ev"
      refine ⟨rfl, fun _ => ?_, fun _ => rfl⟩
      walk_at "ev"
      exact ⟨rfl, rfl⟩
    · refine ⟨_, _, rfl, rfl, ?_, ?_⟩
      · rw [List.length_map, List.length_map]
        have := List.length_filter_le (fun x => !decide (Rg.op x ∈ F)) F
        omega
      · have e : F.map (fun x => ryD x) ++ (F.filter fun x => !decide (Rg.op x ∈ F)).map (fun x => ryD (Rg.op x)) = (Rg.metBoth F).map fun x => ryD x := by
          unfold Rg.metBoth
          rw [List.map_append, List.map_map]
          rfl
        rw [e]
        exact q
theorem cd_lenD {ds : List PyData} {P : PyData → Prop} (q : P (.int ds.length)) : CD K (fun xs H Q => ∃ p ys, xs = [V.ref p] ∧ (SqL K H p ys ∨ SqT K H p ys) ∧ Q (.int (ys.length : Nat)) H) [.list ds] P := cd_len q
theorem last_own {F : List PyData} {x : PyData} : atI (F ++ [x]) (-1) = some x := atI_last _ _
def S_corners : Fs where
  run := fun ds k => ∃ (L : List Rg.Ln), ds = [lsD L] ∧ (∀ l, l ∈ L → LOk l) ∧ L.length ≤ 9 ∧ k (cornD L)
  mono := fun ds k k' h ⟨L, e, s0, s1, q⟩ => ⟨L, e, s0, s1, h _ q⟩
abbrev N_corners : List Str := ["lines", "rays", "found"]
theorem sc_corners : FnScope N_corners ["lines"] (defScope (topS 39)) := ⟨rfl, rfl, rfl, by decide +kernel, rfl, by decide +kernel, by decide +kernel⟩
theorem ok_corners (T : Tx K mg) : Ok P w K mg base "corners" ["lines"] 8 (SpF K S_corners) := by
  refine okF T.d_corners sc_corners (fun ds k h => by obtain ⟨_, rfl, _⟩ := h; rfl) fun cdv A outer s H E f hr => ⟨_, (pss_cons (ps_set (i := 1) sc_corners.nd rfl (Or.inl rfl) (pe_ok (ok_met_by_two T) hr (by decide) (by rfl) (pa_cons (pv 0) pa_nil)))
      (pss_cons (ps_if (pt_cmpR (eqDK K (by rfl) hr.units) (pv 1) (pe_lst pa_nil) (nomark _)) (pss_one (ps_ret pe_non)) pss_nil)
      (pss_cons (ps_set (i := 2) sc_corners.nd rfl (Or.inl rfl) (pe_lst (pa_cons (pe_ok (ok_least_ray T) hr (by decide) (by rfl) (pa_cons (pv 1) pa_nil)) pa_nil)))
      (pss_cons (ps_while PassesOwn.never (pt_cmpR op_lt (pe_callB (lenK K) (by rfl) T.n_len (by decide +kernel) (pa_cons (pv 2) pa_nil)) (pe_callB (lenK K) (by rfl) T.n_len (by decide +kernel) (pa_cons (pv 1) pa_nil)) (nomark _)) (pss_one (ps_expr (bmK K PySem.F.plainAttrs_list PySem.F.slot_list_append PySem.F.type_list_append mt_append (pv 2) (pa_cons (pe_ok (ok_next_around T) hr (by decide) (by rfl) (pa_cons (pv 1) (pa_cons (pe_ix (ixL K) (pv 2) (pe_un un_neg pe_int) (fun _ _ => rfl)) pa_nil))) pa_nil)))))
      (pss_one (ps_ret (pv 2))))))), ?_⟩
  rintro ds kq ⟨L, rfl, hL, hz, q⟩
  show WS K _ [.dat (lsD L), .no, .no] _ _
  have hrok : ∀ v, v ∈ Rg.met L → ROk v := fun v hv => rok_met hL hv
  have h400 := len_met hz
  have ok := okL hL
  have isV : ∀ v, v ∈ Rg.met L ↔ Rg.isV L v := fun v => Rg.mem_met
  walk_at "ev"
  refine ⟨hL, hz, ?_⟩
  walk_at "ev"
  refine rd_eqD (shaped_rs _) rfl ?_
  walk_at "ev"
  unfold cornD Rg.corn at q
  refine ⟨fun h => ?_, fun h => ?_⟩
  · have e : Rg.met L = [] := by
      cases f : Rg.met L with
      | nil => rfl
      | cons a r =>
        rw [f] at h
        have h0 : PyData.eqv (rsD (a :: r)) (.list []) = false := rfl
        rw [h0] at h
        cases h
    rw [if_pos e] at q
    walk_at "ev"
    exact q
  · have e : Rg.met L ≠ [] := by
      intro f
      rw [f] at h
      cases h
    rw [if_neg e] at q
    have hleast := (Rg.least_is e).1
    have pos := List.length_pos_iff.mpr e
    generalize hV : Rg.met L = V at *
    refine ws_next ?_
    refine ws_seq (ws_asgO (wl_lst ?_))
    walk_at "ev"
    refine ⟨e, hrok, ?_⟩
    walk_at "ev"
    intro o
    refine ws_seq (ws_while (fun ρ => ∃ (n : Nat) (G : List Rg.Ray) (l : Rg.Ray), ρ = [.dat (lsD L), .dat (rsD V), .own o ((G ++ [l]).map fun x => ryD x)] ∧ l ∈ V ∧ (G ++ [l]).length + n = V.length ∧ Rg.goOn V n (G ++ [l]) = Rg.goOn V (V.length - 1) [Rg.least V]) (fun ρ => match ρ with | [_, _, Sl.own _ ds] => V.length - ds.length | _ => 0) ⟨V.length - 1, [], Rg.least V, rfl, hleast, by show 1 + _ = _; omega, rfl⟩ ?_)
    rintro ρ1 ⟨n, G, l, rfl, hl, hn, hg⟩
    refine wt_test (we_op (we_lenO (i := 2) rfl (we_cb (wa_cons (we_var rfl (wa_nil (cd_len (rd_b0 ?_))))))))
    refine ⟨_, rfl, fun h => ?_, fun h => ?_⟩
    · have lt : (((G ++ [l]).map fun x => ryD x).length : Int) < ((V.map fun x => ryD x).length : Int) := of_decide_eq_true h
      rw [List.length_map, List.length_map] at lt
      obtain ⟨nx, nm, nf⟩ := Rg.next_is ok isV ((isV l).mp hl)
      obtain ⟨n, rfl⟩ : ∃ m, n = m + 1 := ⟨n - 1, by omega⟩
      refine ws_append (i := 2) rfl (we_call (wa_cons (we_var rfl (wa_cons (we_ixO (i := 2) rfl (we_un (we_int ⟨1, rfl, ?_⟩)))))))
      refine ⟨-1, _, ryD l, rfl, rfl, by rw [List.map_append]; exact atI_last _ _, wa_nil ?_⟩
      refine ⟨V, l, rfl, by omega, hrok, hrok l hl, nf, _, rfl, by rw [List.length_map]; omega, ?_, ?_⟩
      · refine ⟨n, G ++ [l], Rg.next V l, by rw [show ((G ++ [l]) ++ [Rg.next V l]).map (fun x => ryD x) = (G ++ [l]).map (fun x => ryD x) ++ [ryD (Rg.next V l)] from List.map_append]; rfl, nm, ?_, ?_⟩
        · rw [List.length_append]
          show _ + 1 + n = _
          omega
        · rw [← hg]
          show Rg.goOn V n (G ++ [l] ++ [Rg.next V l]) = Rg.goOn V n ((G ++ [l]) ++ [Rg.next V ((G ++ [l]).getLastD (0, 0))])
          rw [show (G ++ [l]).getLastD (0, 0) = l by simp]
      · show V.length - (((G ++ [l]).map fun x => ryD x) ++ [ryD (Rg.next V l)]).length < V.length - ((G ++ [l]).map fun x => ryD x).length
        rw [List.length_append, List.length_map]
        show V.length - (_ + 1) < _
        omega
    · have lt : ¬ (((G ++ [l]).map fun x => ryD x).length : Int) < ((V.map fun x => ryD x).length : Int) := of_decide_eq_false h
      rw [List.length_map, List.length_map] at lt
      have n0 : n = 0 := by omega
      subst n0
      have hg : G ++ [l] = Rg.goOn V (V.length - 1) [Rg.least V] := hg
      rw [← hg] at q
      refine ws_freeze (i := 2) rfl ?_
      walk_at "ev"
      exact q
end
end Wk


set_option Elab.async false
set_option linter.all false
set_option maxRecDepth 100000
set_option maxHeartbeats 8000000
namespace Wk
open PySem PySem.Spec PyProof.Rows L2 Lg
set_option exponentiation.threshold 20000
abbrev shD (a : Rg.Share) : PyData := .tuple [.int (a.1 : Int), rt a.2]
abbrev shsD (s : List Rg.Share) : PyData := .list (s.map fun a => shD a)
structure ShOk (L : List Rg.Ln) (s : List Rg.Share) : Prop where
  len : s.length ≤ 2
  ok : ∀ a, a ∈ s → ∃ l, L[a.1]? = some l ∧ LOk l ∧ Sz 4100 a.2
theorem at_ln {L : List Rg.Ln} {i : Nat} {l : Rg.Ln} (h : L[i]? = some l) : atI (L.map fun l => lnD l) (i : Int) = some (lnD l) := atI_nat (by rw [List.getElem?_map, h]; rfl)
theorem lay_sh (s : List Rg.Share) : (shsD s).canLay0 = true ∧ (shsD s).depth ≤ 60 := by
  refine ⟨lay_all _ (fun a => rfl) s, ?_⟩
  have := depth_all (fun a => shD a) 2 (fun a => by show (2 : Nat) ≤ 2; decide) s
  show PyData.depthAll (s.map fun a => shD a) + 1 ≤ 60
  omega
theorem shaped_sss (S : List (List Rg.Share)) : SeqAt.shaped (.list (S.map fun s => shsD s)) = true := shaped_list _ (fun s => lay_sh s) S
theorem shTwo_ok {L : List Rg.Ln} {i j : Nat} {l m : Rg.Ln} (hi : L[i]? = some l) (hj : L[j]? = some m) (hl : LOk l) (hm : LOk m) {p q : Rat} (hp : Sz 810 p) (hq : Sz 810 q) (hc : Rg.cr (Rg.pq l) (Rg.pq m) ≠ 0) : ShOk L (Rg.shTwo L i j l m p q) := by
  have h1 := hl.sp
  have h2 := hl.sq
  have h4 := hm.sp
  have h5 := hm.sq
  have a1 : Sz 2421 (Rg.cr (p, q) (Rg.pq m)) := (hp.mul h5).sub (hq.mul h4)
  have a2 : Sz 2421 (Rg.cr (Rg.pq l) (p, q)) := (h1.mul hq).sub (h2.mul hp)
  have a3 : Sz 1601 (Rg.cr (Rg.pq l) (Rg.pq m)) := (h1.mul h5).sub (h2.mul h4)
  unfold Rg.shTwo
  refine ⟨Nat.le_trans (List.length_filter_le _ _) (Nat.le_refl 2), fun a ha => ?_⟩
  have ha := (List.mem_filter.mp ha).1
  simp only [List.mem_cons, List.not_mem_nil, or_false] at ha
  rcases ha with e | e
  · subst e
    exact ⟨l, hi, hl, (a1.div a3 hc).mono (by decide)⟩
  · subst e
    exact ⟨m, hj, hm, (a2.div a3 hc).mono (by decide)⟩
theorem shOne_ok {L : List Rg.Ln} {j : Nat} {m : Rg.Ln} (hj : L[j]? = some m) (hm : LOk m) {p q : Rat} (hp : Sz 810 p) (hq : Sz 810 q) : ShOk L (Rg.shOne j m p q) := by
  have h4 := hm.sp
  have h5 := hm.sq
  unfold Rg.shOne
  by_cases z : m.p ≠ 0
  · rw [if_pos z]
    refine ⟨by show 1 ≤ 2; decide, fun a ha => ?_⟩
    rw [List.mem_singleton] at ha
    subst ha
    exact ⟨m, hj, hm, (hp.div h4 z).mono (by decide)⟩
  · rw [if_neg z]
    have z1 : m.q ≠ 0 := by
      rcases hm.ne with n | n
      · exact absurd n z
      · exact n
    refine ⟨by show 1 ≤ 2; decide, fun a ha => ?_⟩
    rw [List.mem_singleton] at ha
    subst ha
    exact ⟨m, hj, hm, (hq.div h5 z1).mono (by decide)⟩
theorem allSh_ok {L : List Rg.Ln} (h : ∀ l, l ∈ L → LOk l) {p q : Rat} (hp : Sz 810 p) (hq : Sz 810 q) {s : List Rg.Share} (hs : s ∈ Rg.allSh L p q) : ShOk L s := by
  rcases Rg.mem_allSh.mp hs with ⟨j, m, hj, _, rfl⟩ | ⟨j, i, l, m, _, hj, hi, hc, rfl⟩
  · exact shOne_ok hj (h m (List.mem_of_getElem? hj)) hp hq
  · exact shTwo_ok hi hj (h l (List.mem_of_getElem? hi)) (h m (List.mem_of_getElem? hj)) hp hq hc
theorem worth_sz {L : List Rg.Ln} {s : List Rg.Share} (h : ShOk L s) : ∀ i, i ≤ 2 → Sz (1 + 4121 * i) (Rg.worth L (s.take i))
  | 0, _ => sz0
  | i + 1, hi => by
    have ih := worth_sz h i (by omega)
    cases e : s[i]? with
    | none =>
      have : s.take (i + 1) = s.take i := by
        rw [List.take_add_one, e]
        simp
      rw [this]
      exact ih.mono (by omega)
    | some a =>
      obtain ⟨l, hl, ok, sz⟩ := h.ok a (List.mem_of_getElem? e)
      have t : Rg.worth L (s.take (i + 1)) = Rg.worth L (s.take i) + Rg.ab a.2 * Rg.rOf L a.1 := by
        unfold Rg.worth
        rw [List.take_add_one, e, List.foldl_append]
        rfl
      rw [t]
      have r1 : Rg.rOf L a.1 = l.r := by unfold Rg.rOf; rw [hl]
      rw [r1]
      exact (ih.add ((sz.ab).mul ok.r)).mono (by omega)
theorem worth_sz2 {L : List Rg.Ln} {s : List Rg.Share} (h : ShOk L s) : Sz 8300 (Rg.worth L s) := by
  have := worth_sz h 2 (Nat.le_refl 2)
  rw [List.take_of_length_le h.len] at this
  exact this.mono (by decide)
theorem len_shIn {L : List Rg.Ln} {p q : Rat} {j : Nat} {m : Rg.Ln} {F : List (List Rg.Share)} : ∀ n, (Rg.shIn L p q j m n F).length ≤ F.length + n
  | 0 => by show F.length ≤ _; omega
  | n + 1 => by
    have ih := len_shIn (L := L) (p := p) (q := q) (j := j) (m := m) (F := F) n
    unfold Rg.shIn
    cases L[n]? with
    | none => show (Rg.shIn L p q j m n F).length ≤ _; omega
    | some l =>
      show (if Rg.cr (Rg.pq l) (Rg.pq m) ≠ 0 then Rg.shIn L p q j m n F ++ [Rg.shTwo L n j l m p q] else Rg.shIn L p q j m n F).length ≤ _
      split
      · rw [List.length_append]
        show _ + 1 ≤ _
        omega
      · omega
theorem len_shUp {L : List Rg.Ln} {p q : Rat} : ∀ j, j ≤ 9 → (Rg.shUp L p q j).length ≤ 10 * j
  | 0, _ => by show 0 ≤ _; omega
  | j + 1, hj => by
    have ih := len_shUp (L := L) (p := p) (q := q) j (by omega)
    unfold Rg.shUp
    cases L[j]? with
    | none => show (Rg.shUp L p q j).length ≤ _; omega
    | some m =>
      show (Rg.shIn L p q j m j (if Rg.cr (Rg.pq m) (p, q) = 0 then Rg.shUp L p q j ++ [Rg.shOne j m p q] else Rg.shUp L p q j)).length ≤ _
      have h1 := len_shIn (L := L) (p := p) (q := q) (j := j) (m := m) (F := if Rg.cr (Rg.pq m) (p, q) = 0 then Rg.shUp L p q j ++ [Rg.shOne j m p q] else Rg.shUp L p q j) j
      have h2 : (if Rg.cr (Rg.pq m) (p, q) = 0 then Rg.shUp L p q j ++ [Rg.shOne j m p q] else Rg.shUp L p q j).length ≤ (Rg.shUp L p q j).length + 1 := by
        split
        · rw [List.length_append]; exact Nat.le_refl _
        · omega
      omega
local macro_rules | `(tactic| walk_at "ev") => `(tactic| repeat (first
  | (with_reducible apply wa_nil)
  | (with_reducible apply wa_cons)
  | ((with_reducible apply we_cn); assumption)
  | (with_reducible apply we_int)
  | (with_reducible apply we_str)
  | (with_reducible apply we_bl)
  | (with_reducible apply we_non)
  | ((with_reducible apply we_var); exact rfl)
  | (with_reducible apply we_head2)
  | (with_reducible apply we_tup)
  | (with_reducible apply we_lst)
  | (with_reducible apply we_notInA)
  | (with_reducible apply we_op)
  | (with_reducible apply we_un)
  | (with_reducible apply wc_1)
  | (with_reducible apply rd_i0)
  | (with_reducible apply rd_b0)
  | ((with_reducible apply rd_ixT); exact rfl)
  | (with_reducible apply rd_eqI)
  | (with_reducible apply rd_neI)
  | (with_reducible apply rd_eqS)
  | (with_reducible apply rd_neS)
  | (with_reducible apply rd_eqB)
  | (with_reducible apply rd_neB)
  | (with_reducible apply we_call)
  | (with_reducible apply we_cb)
  | (with_reducible apply cd_abs)
  | (with_reducible apply wt_test)
  | (with_reducible apply wt_b)
  | (with_reducible apply wt_not)
  | (with_reducible apply wt_and)
  | (with_reducible apply wt_or)
  | (with_reducible apply wt_yes)
  | (with_reducible apply ws_next)
  | (with_reducible apply ws_ret)
  | (with_reducible apply ws_asg)
  | (with_reducible apply ws_if)
  | (with_reducible apply ws_par)
  | (with_reducible apply ws_asgG)
  | (with_reducible apply wg_name)
  | ((with_reducible apply wg_tup); exact rfl)
  | (with_reducible apply wgs_nil)
  | (with_reducible apply wgs_cons)
  | (with_reducible apply ws_seq)
  | (refine ⟨(show List.length _ ≤ 1000000 from Nat.le_of_ble_eq_true rfl), ?_⟩)
  | (refine ⟨fun _ => ?_, fun h => absurd h (by decide)⟩)
  | (refine ⟨fun h => absurd h (by decide), fun _ => ?_⟩)
  | (refine ⟨(show Sz _ _ by walk_at "sz"), ?_⟩)
  | (refine ⟨_, rfl, ?_⟩)
  | (refine ⟨_, _, rfl, ?_⟩)
  | (refine ⟨_, _, _, rfl, ?_⟩)
  | (refine ⟨_, _, _, _, rfl, ?_⟩)))
local macro_rules | `(tactic| walk_at "sz0") => `(tactic| first
  | assumption
  | exact sz0
  | exact sz1
  | exact Sz.add (by walk_at "sz0") (by walk_at "sz0")
  | exact Sz.sub (by walk_at "sz0") (by walk_at "sz0")
  | exact Sz.mul (by walk_at "sz0") (by walk_at "sz0")
  | exact Sz.neg (by walk_at "sz0")
  | exact Sz.ab (by walk_at "sz0")
  | exact Sz.div (by walk_at "sz0") (by walk_at "sz0") (by assumption))
local macro_rules | `(tactic| walk_at "sz") => `(tactic| first
  | assumption
  | exact Sz.mono (by walk_at "sz0") (by decide))

section
variable {P : Program} {w : World} {K : PySem.W.Frag} {mg : Str → Option Value} {base : Heap}
def S_shares_of_two : Fs where
  run := fun ds k => ∃ (L : List Rg.Ln), ∃ (i j : Nat), ∃ (l m : Rg.Ln), ∃ (p q : Rat), ds = [lsD L, .int (i : Int), .int (j : Int), rt p, rt q] ∧ L[i]? = some l ∧ L[j]? = some m ∧ LOk l ∧ LOk m ∧ Rg.cr (Rg.pq l) (Rg.pq m) ≠ 0 ∧ Sz 810 p ∧ Sz 810 q ∧ k (shsD (Rg.shTwo L i j l m p q))
  mono := fun ds k k' h ⟨L, i, j, l, m, p, q, e, s0, s1, s2, s3, s4, s5, s6, z⟩ => ⟨L, i, j, l, m, p, q, e, s0, s1, s2, s3, s4, s5, s6, h _ z⟩
abbrev N_shares_of_two : List Str := ["lines", "i", "j", "p", "q", "one", "other", "under", "first", "second", "number", "share"]
theorem sc_shares_of_two : FnScope N_shares_of_two ["lines", "i", "j", "p", "q"] (defScope (topS 41)) := ⟨rfl, rfl, rfl, by decide +kernel, rfl, by decide +kernel, by decide +kernel⟩
theorem ok_shares_of_two (T : Tx K mg) : Ok P w K mg base "shares_of_two" ["lines", "i", "j", "p", "q"] 5 (SpF K S_shares_of_two) := by
  refine okF T.d_shares_of_two sc_shares_of_two (fun ds k h => by obtain ⟨_, _, _, _, _, _, _, rfl, _⟩ := h; rfl) fun cdv A outer s H E f hr => ⟨_, (pss_cons (ps_par (i := 5) (j := 6) (by rfl) sc_shares_of_two.nd rfl rfl (by decide) rfl rfl (pa_cons (pe_ix (ixL K) (pv 0) (pv 1) (fun _ _ => rfl)) (pa_cons (pe_ix (ixL K) (pv 0) (pv 2) (fun _ _ => rfl)) pa_nil)) (by rfl))
      (pss_cons (ps_set (i := 7) sc_shares_of_two.nd rfl (Or.inl rfl) (pe_ok (ok_cross T) hr (by decide) (by rfl) (pa_cons (pe_slice (slT K) (pv 5) po_none (po_some pe_int)) (pa_cons (pe_slice (slT K) (pv 6) po_none (po_some pe_int)) pa_nil))))
      (pss_cons (ps_set (i := 8) sc_shares_of_two.nd rfl (Or.inl rfl) (pe_ok (ok_over T) hr (by decide) (by rfl) (pa_cons (pe_ok (ok_cross T) hr (by decide) (by rfl) (pa_cons (pe_tup (pa_cons (pv 3) (pa_cons (pv 4) pa_nil))) (pa_cons (pe_slice (slT K) (pv 6) po_none (po_some pe_int)) pa_nil))) (pa_cons (pv 7) pa_nil))))
      (pss_cons (ps_set (i := 9) sc_shares_of_two.nd rfl (Or.inl rfl) (pe_ok (ok_over T) hr (by decide) (by rfl) (pa_cons (pe_ok (ok_cross T) hr (by decide) (by rfl) (pa_cons (pe_slice (slT K) (pv 5) po_none (po_some pe_int)) (pa_cons (pe_tup (pa_cons (pv 3) (pa_cons (pv 4) pa_nil))) pa_nil))) (pa_cons (pv 7) pa_nil))))
      (pss_one (ps_ret (pe_lcV (vs := [10, 11]) rfl (pe_lc (own := [("number", 10), ("share", 11)]) (g := gTup K 2 (gCons (gName 10) (gCons (gName 11) gNil))) rfl sc_shares_of_two.nd (piL K (by rfl) (pe_lst (pa_cons (pe_tup (pa_cons (pv 1) (pa_cons (pv 8) pa_nil))) (pa_cons (pe_tup (pa_cons (pv 2) (pa_cons (pv 9) pa_nil))) pa_nil)))) (blkOk_by (own := [("number", 10), ("share", 11)]) (N := N_shares_of_two) (sc := defScope (topS 41)) (by decide +kernel)) (fun _ _ _ _ _ => (tupK K 2 rfl (pgs_cons (pg_name (i := 10) sc_shares_of_two.nd rfl (Or.inl rfl)) (pgs_cons (pg_name (i := 11) sc_shares_of_two.nd rfl (Or.inl rfl)) pgs_nil)))) (fun _ _ _ _ _ => (pts_one (pt_cmpR op_ne (pe_ix (ixT K) (pv 11) pe_int (fun _ _ => rfl)) pe_int (nomark _)))) (fun _ _ _ _ _ => (pe_tup (pa_cons (pv 10) (pa_cons (pv 11) pa_nil)))))))))))), ?_⟩
  rintro ds kq ⟨L, i, j, l, m, p, q, rfl, hi, hj, hl, hm, hc, hp, hq, z⟩
  show WS K _ [.dat (lsD L), .dat (.int (i : Int)), .dat (.int (j : Int)), .dat (rt p), .dat (rt q), .no, .no, .no, .no, .no, .no, .no] _ _
  have h1 := hl.sp
  have h2 := hl.sq
  have h4 := hm.sp
  have h5 := hm.sq
  walk_at "ev"
  refine rd_ixL (at_ln hi) ?_
  walk_at "ev"
  refine rd_ixL (at_ln hj) ?_
  walk_at "ev"
  refine ⟨hc, ?_⟩
  walk_at "ev"
  refine ⟨hc, ?_⟩
  walk_at "ev"
  refine WL.we (wl_fm (fun a => shD a) [(i, Rg.cr (p, q) (Rg.pq m) / Rg.cr (Rg.pq l) (Rg.pq m)), (j, Rg.cr (Rg.pq l) (p, q) / Rg.cr (Rg.pq l) (Rg.pq m))] (fun s => decide (s.2 ≠ 0)) (fun a => shD a) ?_)
  walk_at "ev"
  refine ⟨rfl, Nat.le_of_ble_eq_true rfl, fun a ha => ?_, z⟩
  refine wc_2 (by decide) ?_
  walk_at "ev"
  have e : (!decide (a.2.num = 0)) = decide (a.2 ≠ 0) := by rw [num_zero', decide_not]
  refine ⟨e, fun _ => ?_, fun _ => rfl⟩
  walk_at "ev"
  exact ⟨rfl, rfl⟩
def S_shares_of_one : Fs where
  run := fun ds k => ∃ (L : List Rg.Ln), ∃ (j : Nat), ∃ (m : Rg.Ln), ∃ (p q : Rat), ds = [lsD L, .int (j : Int), rt p, rt q] ∧ L[j]? = some m ∧ LOk m ∧ Sz 810 p ∧ Sz 810 q ∧ k (shsD (Rg.shOne j m p q))
  mono := fun ds k k' h ⟨L, j, m, p, q, e, s0, s1, s2, s3, z⟩ => ⟨L, j, m, p, q, e, s0, s1, s2, s3, h _ z⟩
abbrev N_shares_of_one : List Str := ["lines", "i", "p", "q", "one"]
theorem sc_shares_of_one : FnScope N_shares_of_one ["lines", "i", "p", "q"] (defScope (topS 42)) := ⟨rfl, rfl, rfl, by decide +kernel, rfl, by decide +kernel, by decide +kernel⟩
theorem ok_shares_of_one (T : Tx K mg) : Ok P w K mg base "shares_of_one" ["lines", "i", "p", "q"] 4 (SpF K S_shares_of_one) := by
  refine okF T.d_shares_of_one sc_shares_of_one (fun ds k h => by obtain ⟨_, _, _, _, _, rfl, _⟩ := h; rfl) fun cdv A outer s H E f hr => ⟨_, (pss_cons (ps_set (i := 4) sc_shares_of_one.nd rfl (Or.inl rfl) (pe_ix (ixL K) (pv 0) (pv 1) (fun _ _ => rfl)))
      (pss_cons (ps_if (pt_cmpR op_ne (pe_ix (ixT K) (pe_ix (ixT K) (pv 4) pe_int (fun _ _ => rfl)) pe_int (fun _ _ => rfl)) pe_int (nomark _)) (pss_one (ps_ret (pe_lst (pa_cons (pe_tup (pa_cons (pv 1) (pa_cons (pe_ok (ok_over T) hr (by decide) (by rfl) (pa_cons (pv 2) (pa_cons (pe_ix (ixT K) (pv 4) pe_int (fun _ _ => rfl)) pa_nil))) pa_nil))) pa_nil)))) pss_nil)
      (pss_one (ps_ret (pe_lst (pa_cons (pe_tup (pa_cons (pv 1) (pa_cons (pe_ok (ok_over T) hr (by decide) (by rfl) (pa_cons (pv 3) (pa_cons (pe_ix (ixT K) (pv 4) pe_int (fun _ _ => rfl)) pa_nil))) pa_nil))) pa_nil)))))), ?_⟩
  rintro ds kq ⟨L, j, m, p, q, rfl, hj, hm, hp, hq, z⟩
  show WS K _ [.dat (lsD L), .dat (.int (j : Int)), .dat (rt p), .dat (rt q), .no] _ _
  have h4 := hm.sp
  have h5 := hm.sq
  unfold Rg.shOne at z
  walk_at "ev"
  refine rd_ixL (at_ln hj) ?_
  walk_at "ev"
  rw [num_zero']
  refine ⟨fun h => ?_, fun h => ?_⟩
  · have n := not_dec h
    rw [if_pos n] at z
    walk_at "ev"
    refine ⟨n, ?_⟩
    walk_at "ev"
    exact z
  · have n0 := yes_dec h
    rw [if_neg (fun c => c n0)] at z
    have n : m.q ≠ 0 := by
      rcases hm.ne with y | y
      · exact absurd n0 y
      · exact y
    walk_at "ev"
    refine ⟨n, ?_⟩
    walk_at "ev"
    exact z
def S_all_shares : Fs where
  run := fun ds k => ∃ (L : List Rg.Ln), ∃ (p q : Rat), ds = [lsD L, rt p, rt q] ∧ (∀ l, l ∈ L → LOk l) ∧ L.length ≤ 9 ∧ Sz 810 p ∧ Sz 810 q ∧ k (.list ((Rg.allSh L p q).map fun s => shsD s))
  mono := fun ds k k' h ⟨L, p, q, e, s0, s1, s2, s3, z⟩ => ⟨L, p, q, e, s0, s1, s2, s3, h _ z⟩
abbrev N_all_shares : List Str := ["lines", "p", "q", "found", "j", "other", "i"]
theorem sc_all_shares : FnScope N_all_shares ["lines", "p", "q"] (defScope (topS 43)) := ⟨rfl, rfl, rfl, by decide +kernel, rfl, by decide +kernel, by decide +kernel⟩
theorem ok_all_shares (T : Tx K mg) : Ok P w K mg base "all_shares" ["lines", "p", "q"] 6 (SpF K S_all_shares) := by
  refine okF T.d_all_shares sc_all_shares (fun ds k h => by obtain ⟨_, _, _, rfl, _⟩ := h; rfl) fun cdv A outer s H E f hr => ⟨_, (pss_cons (ps_set (i := 3) sc_all_shares.nd rfl (Or.inl rfl) (pe_lst pa_nil))
      (pss_cons (ps_for PassesOwn.never rfl (enumK K (by rfl) T.n_enumerate (pa_cons (pv 0) pa_nil)) (tupK K 2 rfl (pgs_cons (pg_name (i := 4) sc_all_shares.nd rfl (Or.inl rfl)) (pgs_cons (pg_name (i := 5) sc_all_shares.nd rfl (Or.inl rfl)) pgs_nil))) (pss_cons (ps_if (pt_cmpR op_eq (pe_ix (ixT K) (pe_ok (ok_cross T) hr (by decide) (by rfl) (pa_cons (pe_slice (slT K) (pv 5) po_none (po_some pe_int)) (pa_cons (pe_tup (pa_cons (pv 1) (pa_cons (pv 2) pa_nil))) pa_nil))) pe_int (fun _ _ => rfl)) pe_int (nomark _)) (pss_one (ps_expr (bmK K PySem.F.plainAttrs_list PySem.F.slot_list_append PySem.F.type_list_append mt_append (pv 3) (pa_cons (pe_ok (ok_shares_of_one T) hr (by decide) (by rfl) (pa_cons (pv 0) (pa_cons (pv 4) (pa_cons (pv 1) (pa_cons (pv 2) pa_nil))))) pa_nil)))) pss_nil)
      (pss_one (ps_for PassesOwn.never rfl (pi_range1 (by rfl) T.n_range (pa_cons (pv 4) pa_nil)) (pg_name (i := 6) sc_all_shares.nd rfl (Or.inl rfl)) (pss_one (ps_if (pt_cmpR op_ne (pe_ix (ixT K) (pe_ok (ok_cross T) hr (by decide) (by rfl) (pa_cons (pe_slice (slT K) (pe_ix (ixL K) (pv 0) (pv 6) (fun _ _ => rfl)) po_none (po_some pe_int)) (pa_cons (pe_slice (slT K) (pv 5) po_none (po_some pe_int)) pa_nil))) pe_int (fun _ _ => rfl)) pe_int (nomark _)) (pss_one (ps_expr (bmK K PySem.F.plainAttrs_list PySem.F.slot_list_append PySem.F.type_list_append mt_append (pv 3) (pa_cons (pe_ok (ok_shares_of_two T) hr (by decide) (by rfl) (pa_cons (pv 0) (pa_cons (pv 6) (pa_cons (pv 4) (pa_cons (pv 1) (pa_cons (pv 2) pa_nil)))))) pa_nil)))) pss_nil))))))
      (pss_one (ps_ret (pv 3))))), ?_⟩
  rintro ds kq ⟨L, p, q, rfl, hL, hz, hp, hq, z⟩
  show WS K _ [.dat (lsD L), .dat (rt p), .dat (rt q), .no, .no, .no, .no] _ _
  refine ws_seq (ws_asgO (wl_lst (wa_nil ⟨by decide, fun o => ?_⟩)))
  refine ws_seq (ws_enumM (fun l => lnD l) L (fun j ρ => ∃ z4 z5 z6 : Sl, ρ = [.dat (lsD L), .dat (rt p), .dat (rt q), .own o ((Rg.shUp L p q j).map fun s => shsD s), z4, z5, z6]) ?_ ?_ ?_)
  · walk_at "ev"
    exact ⟨rfl, .no, .no, .no, rfl⟩
  · rintro j m ρ2 hj ⟨z4, z5, z6, rfl⟩
    have hm := hL m (List.mem_of_getElem? hj)
    have hj9 : j < 9 := by have := (List.getElem?_eq_some_iff.mp hj).1; omega
    have h4 := hm.sp
    have h5 := hm.sq
    have lu := len_shUp (L := L) (p := p) (q := q) j (by omega)
    have up : Rg.shUp L p q (j + 1) = Rg.shIn L p q j m j (if Rg.cr (Rg.pq m) (p, q) = 0 then Rg.shUp L p q j ++ [Rg.shOne j m p q] else Rg.shUp L p q j) := by
      show (match L[j]? with | some m => Rg.shIn L p q j m j (if Rg.cr (Rg.pq m) (p, q) = 0 then Rg.shUp L p q j ++ [Rg.shOne j m p q] else Rg.shUp L p q j) | none => Rg.shUp L p q j) = _
      rw [hj]
    rw [up]
    refine wg_tup rfl (wgs_cons (wg_name (wgs_cons (wg_name (wgs_nil ?_)))))
    refine ws_cut (fun ρ => ρ = [.dat (lsD L), .dat (rt p), .dat (rt q), .own o ((if Rg.cr (Rg.pq m) (p, q) = 0 then Rg.shUp L p q j ++ [Rg.shOne j m p q] else Rg.shUp L p q j).map fun s => shsD s), .dat (.int (j : Int)), .dat (lnD m), z6]) ?_ ?_
    · walk_at "ev"
      have nq := num_zero' (m.p * q - m.q * p)
      rw [nq]
      refine ⟨fun h => ?_, fun h => ?_⟩
      · have c : Rg.cr (Rg.pq m) (p, q) = 0 := of_decide_eq_true h
        rw [if_pos c]
        refine ws_append (i := 3) rfl ?_
        walk_at "ev"
        refine ⟨L, j, m, p, q, rfl, hj, hm, hp, hq, ?_⟩
        walk_at "ev"
        refine ⟨by rw [List.length_map]; omega, ?_⟩
        rw [List.map_append]
        rfl
      · have c : ¬ Rg.cr (Rg.pq m) (p, q) = 0 := of_decide_eq_false h
        rw [if_neg c]
        walk_at "ev"
        rfl
    · rintro ρ3 rfl
      have lf : (if Rg.cr (Rg.pq m) (p, q) = 0 then Rg.shUp L p q j ++ [Rg.shOne j m p q] else Rg.shUp L p q j).length ≤ 100 := by
        split
        · rw [List.length_append]
          show _ + 1 ≤ 100
          omega
        · omega
      generalize (if Rg.cr (Rg.pq m) (p, q) = 0 then Rg.shUp L p q j ++ [Rg.shOne j m p q] else Rg.shUp L p q j) = F at *
      refine ws_range1 (wa_cons (we_var rfl (wa_nil ⟨(j : Int), fun i ρ => ∃ z6 : Sl, ρ = [.dat (lsD L), .dat (rt p), .dat (rt q), .own o ((Rg.shIn L p q j m i F).map fun s => shsD s), .dat (.int (j : Int)), .dat (lnD m), z6], rfl, by omega, by omega, ⟨z6, rfl⟩, ?_, ?_⟩)))
      · rintro i ρ4 hi ⟨z6, rfl⟩
        have hi9 : i < j := by omega
        obtain ⟨l, hl⟩ : ∃ l, L[i]? = some l := ⟨_, List.getElem?_eq_getElem (by have := (List.getElem?_eq_some_iff.mp hj).1; omega)⟩
        have hlo := hL l (List.mem_of_getElem? hl)
        have h1 := hlo.sp
        have h2 := hlo.sq
        have st : Rg.shIn L p q j m (i + 1) F = (if Rg.cr (Rg.pq l) (Rg.pq m) ≠ 0 then Rg.shIn L p q j m i F ++ [Rg.shTwo L i j l m p q] else Rg.shIn L p q j m i F) := by
          show (match L[i]? with | some l => if Rg.cr (Rg.pq l) (Rg.pq m) ≠ 0 then Rg.shIn L p q j m i F ++ [Rg.shTwo L i j l m p q] else Rg.shIn L p q j m i F | none => Rg.shIn L p q j m i F) = _
          rw [hl]
        have ln := len_shIn (L := L) (p := p) (q := q) (j := j) (m := m) (F := F) i
        generalize Rg.shIn L p q j m i F = G at *
        walk_at "ev"
        refine rd_ixL (at_ln hl) ?_
        walk_at "ev"
        have nq := num_zero' (l.p * m.q - l.q * m.p)
        rw [nq]
        refine ⟨fun h => ?_, fun h => ?_⟩
        · have c : Rg.cr (Rg.pq l) (Rg.pq m) ≠ 0 := not_dec h
          rw [if_pos c] at st
          refine ws_append (i := 3) rfl ?_
          walk_at "ev"
          refine ⟨L, i, j, l, m, p, q, rfl, hl, hj, hlo, hm, c, hp, hq, ?_⟩
          walk_at "ev"
          refine ⟨by rw [List.length_map]; omega, ?_⟩
          refine ⟨.dat (.int (i : Int)), ?_⟩
          rw [st, List.map_append]
          rfl
        · have c : ¬ Rg.cr (Rg.pq l) (Rg.pq m) ≠ 0 := fun x => x (yes_dec h)
          rw [if_neg c] at st
          walk_at "ev"
          refine ⟨.dat (.int (i : Int)), ?_⟩
          rw [st]
          rfl
      · rintro ρ4 ⟨z6, rfl⟩
        exact ⟨_, _, _, rfl⟩
  · rintro ρ2 ⟨z4, z5, z6, rfl⟩
    refine ws_freeze (i := 3) rfl ?_
    walk_at "ev"
    exact z
end
end Wk


set_option Elab.async false
set_option linter.all false
set_option maxRecDepth 100000
set_option maxHeartbeats 8000000
namespace Wk
open PySem PySem.Spec PyProof.Rows L2 Lg
set_option exponentiation.threshold 20000
def toldD : Rg.Told → PyData
  | .most v x s => .tuple [.str "most", rt v, ryD x, shsD s]
  | .free x => .tuple [.str "free", ryD x]
theorem at_sh {s : List Rg.Share} {i : Nat} {a : Rg.Share} (h : s[i]? = some a) : atI (s.map fun a => shD a) (i : Int) = some (shD a) := atI_nat (by rw [List.getElem?_map, h]; rfl)
local macro_rules | `(tactic| walk_at "ev") => `(tactic| repeat (first
  | (with_reducible apply wa_nil)
  | (with_reducible apply wa_cons)
  | ((with_reducible apply we_cn); assumption)
  | (with_reducible apply we_int)
  | (with_reducible apply we_str)
  | (with_reducible apply we_bl)
  | (with_reducible apply we_non)
  | ((with_reducible apply we_var); exact rfl)
  | (with_reducible apply we_head2)
  | (with_reducible apply we_tup)
  | (with_reducible apply we_lst)
  | (with_reducible apply we_notInA)
  | (with_reducible apply we_op)
  | (with_reducible apply we_un)
  | (with_reducible apply wc_1)
  | (with_reducible apply rd_i0)
  | (with_reducible apply rd_b0)
  | ((with_reducible apply rd_ixT); exact rfl)
  | (with_reducible apply rd_eqI)
  | (with_reducible apply rd_neI)
  | (with_reducible apply rd_eqS)
  | (with_reducible apply rd_neS)
  | (with_reducible apply rd_eqB)
  | (with_reducible apply rd_neB)
  | (with_reducible apply we_call)
  | (with_reducible apply we_cb)
  | (with_reducible apply cd_abs)
  | (with_reducible apply wt_test)
  | (with_reducible apply wt_b)
  | (with_reducible apply wt_not)
  | (with_reducible apply wt_and)
  | (with_reducible apply wt_or)
  | (with_reducible apply wt_yes)
  | (with_reducible apply ws_next)
  | (with_reducible apply ws_ret)
  | (with_reducible apply ws_asg)
  | (with_reducible apply ws_if)
  | (with_reducible apply ws_par)
  | (with_reducible apply ws_asgG)
  | (with_reducible apply wg_name)
  | ((with_reducible apply wg_tup); exact rfl)
  | (with_reducible apply wgs_nil)
  | (with_reducible apply wgs_cons)
  | (with_reducible apply ws_seq)
  | (refine ⟨(show List.length _ ≤ 1000000 from Nat.le_of_ble_eq_true rfl), ?_⟩)
  | (refine ⟨fun _ => ?_, fun h => absurd h (by decide)⟩)
  | (refine ⟨fun h => absurd h (by decide), fun _ => ?_⟩)
  | (refine ⟨(show Sz _ _ by walk_at "sz"), ?_⟩)
  | (refine ⟨_, rfl, ?_⟩)
  | (refine ⟨_, _, rfl, ?_⟩)
  | (refine ⟨_, _, _, rfl, ?_⟩)
  | (refine ⟨_, _, _, _, rfl, ?_⟩)))
local macro_rules | `(tactic| walk_at "sz0") => `(tactic| first
  | assumption
  | exact sz0
  | exact sz1
  | exact Sz.add (by walk_at "sz0") (by walk_at "sz0")
  | exact Sz.sub (by walk_at "sz0") (by walk_at "sz0")
  | exact Sz.mul (by walk_at "sz0") (by walk_at "sz0")
  | exact Sz.neg (by walk_at "sz0")
  | exact Sz.ab (by walk_at "sz0")
  | exact Sz.div (by walk_at "sz0") (by walk_at "sz0") (by assumption))
local macro_rules | `(tactic| walk_at "sz") => `(tactic| first
  | assumption
  | exact Sz.mono (by walk_at "sz0") (by decide))

section
variable {P : Program} {w : World} {K : PySem.W.Frag} {mg : Str → Option Value} {base : Heap}
def S_worth_of : Fs where
  run := fun ds k => ∃ (L : List Rg.Ln), ∃ (s : List Rg.Share), ds = [lsD L, shsD s] ∧ ShOk L s ∧ k (rt (Rg.worth L s))
  mono := fun ds k k' h ⟨L, s, e, s0, q⟩ => ⟨L, s, e, s0, h _ q⟩
abbrev N_worth_of : List Str := ["lines", "shares", "found", "number", "share"]
theorem sc_worth_of : FnScope N_worth_of ["lines", "shares"] (defScope (topS 44)) := ⟨rfl, rfl, rfl, by decide +kernel, rfl, by decide +kernel, by decide +kernel⟩
theorem ok_worth_of (T : Tx K mg) : Ok P w K mg base "worth_of" ["lines", "shares"] 4 (SpF K S_worth_of) := by
  obtain ⟨v_NOUGHT_tables, c_NOUGHT_tables⟩ := T.c_NOUGHT_tables
  refine okF T.d_worth_of sc_worth_of (fun ds k h => by obtain ⟨_, _, rfl, _⟩ := h; rfl) fun cdv A outer s H E f hr => ⟨_, (pss_cons (ps_set (i := 2) sc_worth_of.nd rfl (Or.inl rfl) (pe_cn c_NOUGHT_tables (by rfl)))
      (pss_cons (ps_for PassesOwn.never rfl (piL K (by rfl) (pv 1)) (tupK K 2 rfl (pgs_cons (pg_name (i := 3) sc_worth_of.nd rfl (Or.inl rfl)) (pgs_cons (pg_name (i := 4) sc_worth_of.nd rfl (Or.inl rfl)) pgs_nil))) (pss_one (ps_set (i := 2) sc_worth_of.nd rfl (Or.inl rfl) (pe_ok (ok_plus T) hr (by decide) (by rfl) (pa_cons (pv 2) (pa_cons (pe_ok (ok_times T) hr (by decide) (by rfl) (pa_cons (pe_ok (ok_size T) hr (by decide) (by rfl) (pa_cons (pv 4) pa_nil)) (pa_cons (pe_ix (ixT K) (pe_ix (ixL K) (pv 0) (pv 3) (fun _ _ => rfl)) pe_int (fun _ _ => rfl)) pa_nil))) pa_nil))))))
      (pss_one (ps_ret (pv 2))))), ?_⟩
  rintro ds kq ⟨L, s, rfl, hs, q⟩
  show WS K _ [.dat (lsD L), .dat (shsD s), .no, .no, .no] _ _
  walk_at "ev"
  refine ws_forM (fun a => shD a) s (fun i ρ => ∃ z3 z4 : Sl, ρ = [.dat (lsD L), .dat (shsD s), .dat (rt (Rg.worth L (s.take i))), z3, z4]) ?_ ?_ ?_
  · walk_at "ev"
    exact ⟨rfl, .no, .no, rfl⟩
  · rintro i a ρ2 ha ⟨z3, z4, rfl⟩
    have hi : i < 2 := by have := (List.getElem?_eq_some_iff.mp ha).1; have := hs.len; omega
    obtain ⟨l, hl, ok, sz⟩ := hs.ok a (List.mem_of_getElem? ha)
    have sw : Sz 4122 (Rg.worth L (s.take i)) := (worth_sz hs i (by omega)).mono (by omega)
    have hr := ok.r
    have t : Rg.worth L (s.take (i + 1)) = Rg.worth L (s.take i) + Rg.ab a.2 * l.r := by
      have r1 : Rg.rOf L a.1 = l.r := by unfold Rg.rOf; rw [hl]
      rw [← r1]
      unfold Rg.worth
      rw [List.take_add_one, ha, List.foldl_append]
      rfl
    walk_at "ev"
    refine rd_ixL (at_ln hl) ?_
    walk_at "ev"
    refine ⟨.dat (.int (a.1 : Int)), .dat (rt a.2), ?_⟩
    rw [t]
    rfl
  · rintro ρ2 ⟨z3, z4, rfl⟩
    rw [List.take_length]
    walk_at "ev"
    exact q
def S_least_shares : Fs where
  run := fun ds k => ∃ (L : List Rg.Ln), ∃ (S : List (List Rg.Share)), ds = [lsD L, .list (S.map fun s => shsD s)] ∧ S ≠ [] ∧ (∀ s, s ∈ S → ShOk L s) ∧ k (shsD (Rg.leastSh L S))
  mono := fun ds k k' h ⟨L, S, e, s0, s1, q⟩ => ⟨L, S, e, s0, s1, h _ q⟩
abbrev N_least_shares : List Str := ["lines", "some", "found", "shares"]
theorem sc_least_shares : FnScope N_least_shares ["lines", "some"] (defScope (topS 45)) := ⟨rfl, rfl, rfl, by decide +kernel, rfl, by decide +kernel, by decide +kernel⟩
theorem ok_least_shares (T : Tx K mg) : Ok P w K mg base "least_shares" ["lines", "some"] 5 (SpF K S_least_shares) := by
  refine okF T.d_least_shares sc_least_shares (fun ds k h => by obtain ⟨_, _, rfl, _⟩ := h; rfl) fun cdv A outer s H E f hr => ⟨_, (pss_cons (ps_set (i := 2) sc_least_shares.nd rfl (Or.inl rfl) (pe_ix (ixL K) (pv 1) pe_int (fun _ _ => rfl)))
      (pss_cons (ps_for PassesOwn.never rfl (piL K (by rfl) (pv 1)) (pg_name (i := 3) sc_least_shares.nd rfl (Or.inl rfl)) (pss_one (ps_if (pt_val (pe_ok (ok_less T) hr (by decide) (by rfl) (pa_cons (pe_ok (ok_worth_of T) hr (by decide) (by rfl) (pa_cons (pv 0) (pa_cons (pv 3) pa_nil))) (pa_cons (pe_ok (ok_worth_of T) hr (by decide) (by rfl) (pa_cons (pv 0) (pa_cons (pv 2) pa_nil))) pa_nil)))) (pss_one (ps_set (i := 2) sc_least_shares.nd rfl (Or.inl rfl) (pv 3))) pss_nil)))
      (pss_one (ps_ret (pv 2))))), ?_⟩
  rintro ds kq ⟨L, S, rfl, hne, hS, q⟩
  obtain ⟨s0, r, rfl⟩ : ∃ s r, S = s :: r := by
    cases S with
    | nil => exact absurd rfl hne
    | cons s r => exact ⟨s, r, rfl⟩
  show WS K _ [.dat (lsD L), .dat (.list ((s0 :: r).map fun s => shsD s)), .no, .no] _ _
  have sub : ∀ i, ShOk L (((s0 :: r).take i).foldl (fun f t => if Rg.worth L t < Rg.worth L f then t else f) s0) := by
    intro i
    have : ∀ (l : List (List Rg.Share)) (u : List Rg.Share), ShOk L u → (∀ x, x ∈ l → ShOk L x) → ShOk L (l.foldl (fun f t => if Rg.worth L t < Rg.worth L f then t else f) u) := by
      intro l
      induction l with
      | nil => intro u hu _; exact hu
      | cons x l ih =>
        intro u hu hl
        rw [List.foldl_cons]
        refine ih _ ?_ fun y hy => hl y (List.mem_cons_of_mem _ hy)
        split
        · exact hl x List.mem_cons_self
        · exact hu
    exact this _ s0 (hS s0 List.mem_cons_self) fun x hx => hS x (List.mem_of_mem_take hx)
  refine ws_seq (ws_asg (we_op (we_var rfl (we_int (rd_ixL (d := shsD s0) (atI_nat (j := 0) rfl) ?_)))))
  walk_at "ev"
  refine ws_forM (fun s => shsD s) (s0 :: r) (fun i ρ => ∃ z : Sl, ρ = [.dat (lsD L), .dat (.list ((s0 :: r).map fun s => shsD s)), .dat (shsD (((s0 :: r).take i).foldl (fun f t => if Rg.worth L t < Rg.worth L f then t else f) s0)), z]) ?_ ?_ ?_
  · walk_at "ev"
    exact ⟨rfl, .no, rfl⟩
  · rintro i x ρ2 hx ⟨z, rfl⟩
    have h1 := sub i
    have h2 := hS x (List.mem_of_getElem? hx)
    have t : ((s0 :: r).take (i + 1)).foldl (fun f t => if Rg.worth L t < Rg.worth L f then t else f) s0 = (if Rg.worth L x < Rg.worth L (((s0 :: r).take i).foldl (fun f t => if Rg.worth L t < Rg.worth L f then t else f) s0) then x else ((s0 :: r).take i).foldl (fun f t => if Rg.worth L t < Rg.worth L f then t else f) s0) := by
      rw [List.take_add_one, hx, List.foldl_append]
      rfl
    generalize hf : ((s0 :: r).take i).foldl (fun f t => if Rg.worth L t < Rg.worth L f then t else f) s0 = f0 at *
    have w1 := worth_sz2 h1
    have w2 := worth_sz2 h2
    walk_at "ev"
    refine ⟨h2, ?_⟩
    walk_at "ev"
    refine ⟨h1, ?_⟩
    walk_at "ev"
    refine ⟨fun h => ?_, fun h => ?_⟩
    · rw [if_pos (of_decide_eq_true h)] at t
      walk_at "ev"
      refine ⟨.dat (shsD x), ?_⟩
      rw [t]
      rfl
    · rw [if_neg (of_decide_eq_false h)] at t
      walk_at "ev"
      refine ⟨.dat (shsD x), ?_⟩
      rw [t]
      rfl
  · rintro ρ2 ⟨z, rfl⟩
    rw [List.take_length]
    walk_at "ev"
    exact q
def S_ray_on : Fs where
  run := fun ds k => ∃ (l : Rg.Ln), ∃ (v p q : Rat), ds = [lnD l, rt v, rt p, rt q] ∧ LOk l ∧ Sz 4000 v ∧ k (ryD (Rg.rayOn l v))
  mono := fun ds k k' h ⟨l, v, p, q, e, s0, s1, z⟩ => ⟨l, v, p, q, e, s0, s1, h _ z⟩
abbrev N_ray_on : List Str := ["line", "worth", "p", "q"]
theorem sc_ray_on : FnScope N_ray_on ["line", "worth", "p", "q"] (defScope (topS 46)) := ⟨rfl, rfl, rfl, by decide +kernel, rfl, by decide +kernel, by decide +kernel⟩
theorem ok_ray_on (T : Tx K mg) : Ok P w K mg base "ray_on" ["line", "worth", "p", "q"] 4 (SpF K S_ray_on) := by
  obtain ⟨v_NOUGHT_tables, c_NOUGHT_tables⟩ := T.c_NOUGHT_tables
  refine okF T.d_ray_on sc_ray_on (fun ds k h => by obtain ⟨_, _, _, _, rfl, _⟩ := h; rfl) fun cdv A outer s H E f hr => ⟨_, (pss_cons (ps_if (pt_cmpR op_ne (pe_ix (ixT K) (pe_ix (ixT K) (pv 0) pe_int (fun _ _ => rfl)) pe_int (fun _ _ => rfl)) pe_int (nomark _)) (pss_one (ps_ret (pe_tup (pa_cons (pe_ok (ok_over T) hr (by decide) (by rfl) (pa_cons (pv 1) (pa_cons (pe_ix (ixT K) (pv 0) pe_int (fun _ _ => rfl)) pa_nil))) (pa_cons (pe_cn c_NOUGHT_tables (by rfl)) pa_nil))))) pss_nil)
      (pss_one (ps_ret (pe_tup (pa_cons (pe_cn c_NOUGHT_tables (by rfl)) (pa_cons (pe_ok (ok_over T) hr (by decide) (by rfl) (pa_cons (pv 1) (pa_cons (pe_ix (ixT K) (pv 0) pe_int (fun _ _ => rfl)) pa_nil))) pa_nil)))))), ?_⟩
  rintro ds kq ⟨l, v, p, q, rfl, hl, sv, z⟩
  show WS K _ [.dat (lnD l), .dat (rt v), .dat (rt p), .dat (rt q)] _ _
  have h4 := hl.sp
  have h5 := hl.sq
  unfold Rg.rayOn at z
  walk_at "ev"
  rw [num_zero']
  refine ⟨fun h => ?_, fun h => ?_⟩
  · have n := not_dec h
    rw [if_pos n] at z
    walk_at "ev"
    refine ⟨n, ?_⟩
    walk_at "ev"
    exact z
  · have n0 := yes_dec h
    rw [if_neg (fun c => c n0)] at z
    have n : l.q ≠ 0 := by
      rcases hl.ne with y | y
      · exact absurd n0 y
      · exact y
    walk_at "ev"
    refine ⟨n, ?_⟩
    walk_at "ev"
    exact z
def S_ray_with : Fs where
  run := fun ds k => ∃ (L : List Rg.Ln), ∃ (s : List Rg.Share), ∃ (p q v : Rat), ds = [lsD L, shsD s, rt p, rt q, rt v] ∧ (∀ l, l ∈ L → LOk l) ∧ L.length ≤ 9 ∧ Sz 810 p ∧ Sz 810 q ∧ (∀ V, Rg.corn L = some V → (V.filter fun x => decide (p * x.1 + q * x.2 = v)) ≠ []) ∧ (Rg.corn L = none → ∃ i l a, s = [(i, a)] ∧ L[i]? = some l ∧ a ≠ 0 ∧ Sz 4400 a ∧ Sz 4400 v ∧ Sz 4000 (v / a)) ∧ k (ryD (Rg.rayWith L s p q v))
  mono := fun ds k k' h ⟨L, s, p, q, v, e, s0, s1, s2, s3, s4, s5, z⟩ => ⟨L, s, p, q, v, e, s0, s1, s2, s3, s4, s5, h _ z⟩
abbrev N_ray_with : List Str := ["lines", "shares", "p", "q", "value", "found", "ray", "number", "share"]
theorem sc_ray_with : FnScope N_ray_with ["lines", "shares", "p", "q", "value"] (defScope (topS 47)) := ⟨rfl, rfl, rfl, by decide +kernel, rfl, by decide +kernel, by decide +kernel⟩
theorem ok_ray_with (T : Tx K mg) : Ok P w K mg base "ray_with" ["lines", "shares", "p", "q", "value"] 9 (SpF K S_ray_with) := by
  refine okF T.d_ray_with sc_ray_with (fun ds k h => by obtain ⟨_, _, _, _, _, rfl, _⟩ := h; rfl) fun cdv A outer s H E f hr => ⟨_, (pss_cons (ps_set (i := 5) sc_ray_with.nd rfl (Or.inl rfl) (pe_ok (ok_corners T) hr (by decide) (by rfl) (pa_cons (pv 0) pa_nil)))
      (pss_cons (ps_if (pt_cmpR op_notN (pv 5) pe_non (nomark _)) (pss_one (ps_ret (pe_ix (ixL K) (pe_lcV (vs := [6]) rfl (pe_lc (own := [("ray", 6)]) (g := gName 6) rfl sc_ray_with.nd (piL K (by rfl) (pv 5)) (blkOk_by (own := [("ray", 6)]) (N := N_ray_with) (sc := defScope (topS 47)) (by decide +kernel)) (fun _ _ _ _ _ => (pg_name (i := 6) sc_ray_with.nd rfl (Or.inl rfl))) (fun _ _ _ _ _ => (pts_one (pt_cmpR (eqDK K (by rfl) hr.units) (pe_ok (ok_summed T) hr (by decide) (by rfl) (pa_cons (pv 2) (pa_cons (pv 3) (pa_cons (pv 6) pa_nil)))) (pv 4) (nomark _)))) (fun _ _ _ _ _ => (pv 6)))) pe_int (fun _ _ => rfl)))) pss_nil)
      (pss_cons (ps_asg (pe_ix (ixL K) (pv 1) pe_int (fun _ _ => rfl)) (tupK K 2 rfl (pgs_cons (pg_name (i := 7) sc_ray_with.nd rfl (Or.inl rfl)) (pgs_cons (pg_name (i := 8) sc_ray_with.nd rfl (Or.inl rfl)) pgs_nil))))
      (pss_one (ps_ret (pe_ok (ok_ray_on T) hr (by decide) (by rfl) (pa_cons (pe_ix (ixL K) (pv 0) (pv 7) (fun _ _ => rfl)) (pa_cons (pe_ok (ok_over T) hr (by decide) (by rfl) (pa_cons (pv 4) (pa_cons (pv 8) pa_nil))) (pa_cons (pv 2) (pa_cons (pv 3) pa_nil)))))))))), ?_⟩
  rintro ds kq ⟨L, s, p, q, v, rfl, hL, hz, hp, hq, hsome, hnone, z⟩
  show WS K _ [.dat (lsD L), .dat (shsD s), .dat (rt p), .dat (rt q), .dat (rt v), .no, .no, .no, .no] _ _
  walk_at "ev"
  refine ⟨hL, hz, ?_⟩
  cases e : Rg.corn L with
  | some V =>
    have ne := hsome V e
    rw [Rg.rayWith_some e] at z
    have cD : cornD L = rsD V := by unfold cornD; rw [e]
    rw [cD]
    have cyc := Rg.corn_some (okL hL) e
    have hV : ∀ x, x ∈ V → ROk x := fun x hx => rok_met hL (Rg.mem_met.mpr ((cyc.mem x).mp hx))
    have hlen : V.length ≤ 1000000 := by
      have h400 := len_met hz
      have e2 : V = Rg.goOn (Rg.met L) ((Rg.met L).length - 1) [Rg.least (Rg.met L)] := by
        unfold Rg.corn at e
        by_cases c : Rg.met L = []
        · rw [if_pos c] at e; cases e
        · rw [if_neg c] at e; cases e; rfl
      have gl : ∀ (n : Nat) (F : List Rg.Ray), (Rg.goOn (Rg.met L) n F).length = F.length + n := by
        intro n
        induction n with
        | zero => intro F; rfl
        | succ n ih =>
          intro F
          show (Rg.goOn (Rg.met L) n (F ++ [Rg.next (Rg.met L) (F.getLastD (0, 0))])).length = _
          rw [ih, List.length_append]
          show _ + 1 + n = _
          omega
      rw [e2, gl]
      show 1 + _ ≤ _
      omega
    walk_at "ev"
    refine rd_notN (b := true) rfl ?_
    walk_at "ev"
    refine WL.we (wl_fm (fun x => ryD x) V (fun x => decide (p * x.1 + q * x.2 = v)) (fun x => ryD x) ?_)
    walk_at "ev"
    refine ⟨rfl, hlen, fun x hx => ?_, ?_⟩
    · obtain ⟨x1, x2⟩ := hV x hx
      walk_at "ev"
      refine rd_eqD (shaped_rt _) (shaped_rt _) ?_
      rw [eqv_rt]
      walk_at "ev"
      refine ⟨rfl, fun _ => ?_, fun _ => rfl⟩
      walk_at "ev"
      exact ⟨rfl, rfl⟩
    · cases f : V.filter fun x => decide (p * x.1 + q * x.2 = v) with
      | nil => exact absurd f ne
      | cons x r =>
        rw [f] at z
        refine we_int (rd_ixL (d := ryD x) (atI_nat (j := 0) rfl) ?_)
        exact z
  | none =>
    obtain ⟨i, l, a, rfl, hi, a0, sa, sv, sva⟩ := hnone e
    rw [Rg.rayWith_none e hi] at z
    have cD : cornD L = .none := by unfold cornD; rw [e]
    have hl := hL l (List.mem_of_getElem? hi)
    rw [cD]
    walk_at "ev"
    refine rd_notN (b := false) rfl ?_
    walk_at "ev"
    refine rd_ixL (d := shD (i, a)) (atI_nat (j := 0) rfl) ?_
    walk_at "ev"
    refine rd_ixL (at_ln hi) ?_
    walk_at "ev"
    refine ⟨a0, ?_⟩
    walk_at "ev"
    exact ⟨hl, sva, z⟩
def S_free_ray : Fs where
  run := fun ds k => ∃ (L : List Rg.Ln), ∃ (p q : Rat), ds = [lsD L, rt p, rt q] ∧ (∀ l, l ∈ L → LOk l) ∧ Sz 810 p ∧ Sz 810 q ∧ k (ryD (Rg.freeRay L p q))
  mono := fun ds k k' h ⟨L, p, q, e, s0, s1, s2, z⟩ => ⟨L, p, q, e, s0, s1, s2, h _ z⟩
abbrev N_free_ray : List Str := ["lines", "p", "q", "one", "back"]
theorem sc_free_ray : FnScope N_free_ray ["lines", "p", "q"] (defScope (topS 48)) := ⟨rfl, rfl, rfl, by decide +kernel, rfl, by decide +kernel, by decide +kernel⟩
theorem ok_free_ray (T : Tx K mg) : Ok P w K mg base "free_ray" ["lines", "p", "q"] 5 (SpF K S_free_ray) := by
  obtain ⟨v_NOUGHT_tables, c_NOUGHT_tables⟩ := T.c_NOUGHT_tables
  refine okF T.d_free_ray sc_free_ray (fun ds k h => by obtain ⟨_, _, _, rfl, _⟩ := h; rfl) fun cdv A outer s H E f hr => ⟨_, (pss_cons (ps_if (pt_cmpR op_eq (pe_callB (lenK K) (by rfl) T.n_len (by decide +kernel) (pa_cons (pv 0) pa_nil)) pe_int (nomark _)) (pss_one (ps_ret (pe_tup (pa_cons (pv 1) (pa_cons (pv 2) pa_nil))))) pss_nil)
      (pss_cons (ps_set (i := 3) sc_free_ray.nd rfl (Or.inl rfl) (pe_ix (ixL K) (pv 0) pe_int (fun _ _ => rfl)))
      (pss_cons (ps_set (i := 4) sc_free_ray.nd rfl (Or.inl rfl) (pe_tup (pa_cons (pe_ok (ok_minus T) hr (by decide) (by rfl) (pa_cons (pe_cn c_NOUGHT_tables (by rfl)) (pa_cons (pe_ix (ixT K) (pv 3) pe_int (fun _ _ => rfl)) pa_nil))) (pa_cons (pe_ix (ixT K) (pv 3) pe_int (fun _ _ => rfl)) pa_nil))))
      (pss_cons (ps_if (pt_cmpR op_gt (pe_ix (ixT K) (pe_ok (ok_summed T) hr (by decide) (by rfl) (pa_cons (pv 1) (pa_cons (pv 2) (pa_cons (pv 4) pa_nil)))) pe_int (fun _ _ => rfl)) pe_int (nomark _)) (pss_one (ps_ret (pv 4))) pss_nil)
      (pss_one (ps_ret (pe_tup (pa_cons (pe_ix (ixT K) (pv 3) pe_int (fun _ _ => rfl)) (pa_cons (pe_ok (ok_minus T) hr (by decide) (by rfl) (pa_cons (pe_cn c_NOUGHT_tables (by rfl)) (pa_cons (pe_ix (ixT K) (pv 3) pe_int (fun _ _ => rfl)) pa_nil))) pa_nil))))))))), ?_⟩
  rintro ds kq ⟨L, p, q, rfl, hL, hp, hq, z⟩
  show WS K _ [.dat (lsD L), .dat (rt p), .dat (rt q), .no, .no] _ _
  walk_at "ev"
  refine cd_len ?_
  walk_at "ev"
  cases L with
  | nil =>
    refine ⟨fun _ => ?_, fun h => absurd h (by decide)⟩
    walk_at "ev"
    exact z
  | cons l r =>
    have hl := hL l List.mem_cons_self
    have h4 := hl.sp
    have h5 := hl.sq
    have n0 : ¬ ((((l :: r).map fun l => lnD l).length : Int) = 0) := by
      rw [List.length_map, List.length_cons]
      omega
    have z : kq (ryD (if 0 < p * (0 - l.q) + q * l.p then (0 - l.q, l.p) else (l.q, 0 - l.p))) := z
    refine ⟨fun h => absurd (of_decide_eq_true h) n0, fun _ => ?_⟩
    walk_at "ev"
    refine rd_ixL (d := lnD l) (atI_nat (j := 0) rfl) ?_
    walk_at "ev"
    rw [num_pos']
    refine ⟨fun h => ?_, fun h => ?_⟩
    · rw [if_pos (of_decide_eq_true h)] at z
      walk_at "ev"
      exact z
    · rw [if_neg (of_decide_eq_false h)] at z
      walk_at "ev"
      exact z
theorem free_or {p q : Rat} (h : ¬ (p = 0 ∧ q = 0)) : p ≠ 0 ∨ q ≠ 0 := by
  by_cases z : p = 0
  · right; exact fun y => h ⟨z, y⟩
  · exact .inl z
def S_most : Fs where
  run := fun ds k => ∃ (L : List Rg.Ln), ∃ (p q : Rat), ds = [lsD L, rt p, rt q] ∧ (∀ l, l ∈ L → LOk l) ∧ L.length ≤ 9 ∧ Sz 810 p ∧ Sz 810 q ∧ k (toldD (Rg.mostT L p q))
  mono := fun ds k k' h ⟨L, p, q, e, s0, s1, s2, s3, z⟩ => ⟨L, p, q, e, s0, s1, s2, s3, h _ z⟩
abbrev N_most : List Str := ["lines", "p", "q", "some", "shares", "value"]
theorem sc_most : FnScope N_most ["lines", "p", "q"] (defScope (topS 49)) := ⟨rfl, rfl, rfl, by decide +kernel, rfl, by decide +kernel, by decide +kernel⟩
theorem ok_most (T : Tx K mg) : Ok P w K mg base "most" ["lines", "p", "q"] 10 (SpF K S_most) := by
  obtain ⟨v_NOUGHT_tables, c_NOUGHT_tables⟩ := T.c_NOUGHT_tables
  refine okF T.d_most sc_most (fun ds k h => by obtain ⟨_, _, _, rfl, _⟩ := h; rfl) fun cdv A outer s H E f hr => ⟨_, (pss_cons (ps_if (PW.pt (pw_and (pt_cmpR op_eq (pe_ix (ixT K) (pv 1) pe_int (fun _ _ => rfl)) pe_int (nomark _)) (pw_and1 (pt_cmpR op_eq (pe_ix (ixT K) (pv 2) pe_int (fun _ _ => rfl)) pe_int (nomark _))))) (pss_one (ps_ret (pe_tup (pa_cons pe_str (pa_cons (pe_cn c_NOUGHT_tables (by rfl)) (pa_cons (pe_tup (pa_cons (pe_cn c_NOUGHT_tables (by rfl)) (pa_cons (pe_cn c_NOUGHT_tables (by rfl)) pa_nil))) (pa_cons (pe_lst pa_nil) pa_nil))))))) pss_nil)
      (pss_cons (ps_set (i := 3) sc_most.nd rfl (Or.inl rfl) (pe_ok (ok_all_shares T) hr (by decide) (by rfl) (pa_cons (pv 0) (pa_cons (pv 1) (pa_cons (pv 2) pa_nil)))))
      (pss_cons (ps_if (pt_cmpR (eqDK K (by rfl) hr.units) (pv 3) (pe_lst pa_nil) (nomark _)) (pss_one (ps_ret (pe_tup (pa_cons pe_str (pa_cons (pe_ok (ok_free_ray T) hr (by decide) (by rfl) (pa_cons (pv 0) (pa_cons (pv 1) (pa_cons (pv 2) pa_nil)))) pa_nil))))) pss_nil)
      (pss_cons (ps_set (i := 4) sc_most.nd rfl (Or.inl rfl) (pe_ok (ok_least_shares T) hr (by decide) (by rfl) (pa_cons (pv 0) (pa_cons (pv 3) pa_nil))))
      (pss_cons (ps_set (i := 5) sc_most.nd rfl (Or.inl rfl) (pe_ok (ok_worth_of T) hr (by decide) (by rfl) (pa_cons (pv 0) (pa_cons (pv 4) pa_nil))))
      (pss_one (ps_ret (pe_tup (pa_cons pe_str (pa_cons (pv 5) (pa_cons (pe_ok (ok_ray_with T) hr (by decide) (by rfl) (pa_cons (pv 0) (pa_cons (pv 4) (pa_cons (pv 1) (pa_cons (pv 2) (pa_cons (pv 5) pa_nil)))))) (pa_cons (pv 4) pa_nil)))))))))))), ?_⟩
  rintro ds kq ⟨L, p, q, rfl, hL, hz, hp, hq, z⟩
  show WS K _ [.dat (lsD L), .dat (rt p), .dat (rt q), .no, .no, .no] _ _
  have both : ∀ (b : Bool), b = (decide (p = 0) && decide (q = 0)) → (b = true → p = 0 ∧ q = 0) ∧ (b = false → ¬ (p = 0 ∧ q = 0)) := fun b hb => by
    subst hb
    by_cases h1 : p = 0 <;> by_cases h2 : q = 0 <;> simp [h1, h2]
  refine ws_cut (fun ρ => ρ = [.dat (lsD L), .dat (rt p), .dat (rt q), .no, .no, .no] ∧ ¬ (p = 0 ∧ q = 0)) ?_ ?_
  · refine ws_if (WT.imp (QT := fun b ρ => b = (decide (p = 0) && decide (q = 0)) ∧ ρ = [.dat (lsD L), .dat (rt p), .dat (rt q), .no, .no, .no]) ?_ ?_)
    · walk_at "ev"
      rw [num_zero']
      refine ⟨fun h => ?_, fun h => ?_⟩
      · walk_at "ev"
        rw [num_zero', h]
        exact ⟨rfl, rfl⟩
      · rw [h]
        exact ⟨rfl, rfl⟩
    · rintro b ρ ⟨hb, rfl⟩
      obtain ⟨b1, b2⟩ := both b hb
      refine ⟨fun h => ?_, fun h => ?_⟩
      · obtain ⟨p0, q0⟩ := b1 h
        unfold Rg.mostT at z
        rw [if_pos ⟨p0, q0⟩] at z
        walk_at "ev"
        exact z
      · walk_at "ev"
        exact ⟨rfl, b2 h⟩
  · rintro ρ1 ⟨rfl, n0⟩
    have hpq := free_or n0
    unfold Rg.mostT at z
    rw [if_neg n0] at z
    walk_at "ev"
    refine ⟨hL, hz, ?_⟩
    walk_at "ev"
    refine rd_eqD (shaped_sss _) rfl ?_
    walk_at "ev"
    have hA : ∀ s, s ∈ Rg.allSh L p q → ShOk L s := fun s hs => allSh_ok hL hp hq hs
    refine ⟨fun h => ?_, fun h => ?_⟩
    · have e : Rg.allSh L p q = [] := by
        cases f : Rg.allSh L p q with
        | nil => rfl
        | cons a r =>
          rw [f] at h
          have h0 : PyData.eqv (.list ((a :: r).map fun s => shsD s)) (.list []) = false := rfl
          rw [h0] at h
          cases h
      rw [if_pos e] at z
      walk_at "ev"
      refine ⟨hL, ?_⟩
      walk_at "ev"
      exact z
    · have e : Rg.allSh L p q ≠ [] := by
        intro f
        rw [f] at h
        cases h
      rw [if_neg e] at z
      have hs := hA _ (Rg.leastSh_is (L := L) e).1
      have ok := okL hL
      have h1 : ∀ V, Rg.corn L = some V → (V.filter fun x => decide (p * x.1 + q * x.2 = Rg.worth L (Rg.leastSh L (Rg.allSh L p q)))) ≠ [] := fun V hV => Rg.filter_ne ok hpq hV rfl
      have h2 : Rg.corn L = none → ∃ i l a, Rg.leastSh L (Rg.allSh L p q) = [(i, a)] ∧ L[i]? = some l ∧ a ≠ 0 ∧ Sz 4400 a ∧ Sz 4400 (Rg.worth L (Rg.leastSh L (Rg.allSh L p q))) ∧ Sz 4000 (Rg.worth L (Rg.leastSh L (Rg.allSh L p q)) / a) := fun hn => by
        obtain ⟨i, l, a, e1, hi, a0, _, _, ew, _, _, sg, _⟩ := Rg.most_one ok ((Rg.corn_none ok).mp hn) hpq e
        have hl := hL l (List.mem_of_getElem? hi)
        have sa : Sz 4100 a := by
          have := hs.ok (i, a) (by rw [e1]; exact List.mem_singleton.mpr rfl)
          obtain ⟨_, _, _, s⟩ := this
          exact s
        refine ⟨i, l, a, e1, hi, a0, sa.mono (by decide), ?_, ?_⟩
        · rw [ew]
          exact ((sa.ab).mul hl.r).mono (by decide)
        · rw [ew]
          rcases sg with g | g
          · rw [g]; exact hl.r.mono (by decide)
          · rw [g]; exact hl.r.neg.mono (by decide)
      walk_at "ev"
      refine ⟨e, hA, ?_⟩
      walk_at "ev"
      refine ⟨hs, ?_⟩
      walk_at "ev"
      refine ⟨L, _, p, q, _, rfl, hL, hz, hp, hq, h1, h2, ?_⟩
      walk_at "ev"
      exact z
def numD (s : List Rg.Share) (k : Nat) : PyData := .list (s.map fun a => .tuple [.int ((a.1 : Int) + (if decide ((k : Int) ≤ (a.1 : Int)) then 1 else 0)), rt a.2])
def S_numbered : Fs where
  run := fun ds k => ∃ (s : List Rg.Share), ∃ (n : Nat), ds = [shsD s, .int (n : Int)] ∧ s.length ≤ 1000 ∧ k (numD s n)
  mono := fun ds k k' h ⟨s, n, e, s0, q⟩ => ⟨s, n, e, s0, h _ q⟩
abbrev N_numbered : List Str := ["shares", "k", "number", "share"]
theorem sc_numbered : FnScope N_numbered ["shares", "k"] (defScope (topS 51)) := ⟨rfl, rfl, rfl, by decide +kernel, rfl, by decide +kernel, by decide +kernel⟩
theorem ok_numbered (T : Tx K mg) : Ok P w K mg base "numbered" ["shares", "k"] 1 (SpF K S_numbered) := by
  refine okF T.d_numbered sc_numbered (fun ds k h => by obtain ⟨_, _, rfl, _⟩ := h; rfl) fun cdv A outer s H E f hr => ⟨_, (pss_one (ps_ret (pe_lcV (vs := [2, 3]) rfl (pe_lc (own := [("number", 2), ("share", 3)]) (g := gTup K 2 (gCons (gName 2) (gCons (gName 3) gNil))) (tt := tYes) rfl sc_numbered.nd (piL K (by rfl) (pv 0)) (blkOk_by (own := [("number", 2), ("share", 3)]) (N := N_numbered) (sc := defScope (topS 51)) (by decide +kernel)) (fun _ _ _ _ _ => (tupK K 2 rfl (pgs_cons (pg_name (i := 2) sc_numbered.nd rfl (Or.inl rfl)) (pgs_cons (pg_name (i := 3) sc_numbered.nd rfl (Or.inl rfl)) pgs_nil)))) (fun _ _ _ _ _ => pts_nil) (fun _ _ _ _ _ => (pe_tup (pa_cons (pe_op op_add (pv 2) (pe_callTy call_int1 (by rfl) T.n_int (by decide +kernel) (pa_cons (pe_cmpR op_ge (pv 2) (pv 1) (nomark _)) pa_nil))) (pa_cons (pv 3) pa_nil)))))))), ?_⟩
  rintro ds kq ⟨s, n, rfl, hs, q⟩
  show WS K _ [.dat (shsD s), .dat (.int (n : Int)), .no, .no] _ _
  refine ws_ret (WL.we (wl_fm (fun a => shD a) s (fun _ => true) (fun a => .tuple [.int ((a.1 : Int) + (if decide ((n : Int) ≤ (a.1 : Int)) then 1 else 0)), rt a.2]) ?_))
  walk_at "ev"
  refine ⟨rfl, by omega, fun a ha => ?_, ?_⟩
  · refine wc_2 (by decide) ?_
    walk_at "ev"
    refine ⟨rfl, fun _ => ?_, fun h => nomatch h⟩
    walk_at "ev"
    refine cd_intB ?_
    walk_at "ev"
    exact ⟨rfl, rfl⟩
  · rw [List.filter_eq_self.mpr (fun _ _ => rfl)]
    exact q
/-- what idle tells -/
def idleD (L : List Rg.Ln) (k : Nat) (l : Rg.Ln) : PyData := match Rg.mostT (L.take k ++ L.drop (k + 1)) l.p l.q with
  | .free x => .tuple [.str "needed", ryD ((l.r + 1) / (l.p * x.1 + l.q * x.2) * x.1, (l.r + 1) / (l.p * x.1 + l.q * x.2) * x.2)]
  | .most v x s => if l.r < v then .tuple [.str "needed", ryD x] else .tuple [.str "idle", numD s k]
theorem free_sz {L : List Rg.Ln} (h : ∀ l, l ∈ L → LOk l) {p q : Rat} (hp : Sz 400 p) (hq : Sz 400 q) : Sz 402 (Rg.freeRay L p q).1 ∧ Sz 402 (Rg.freeRay L p q).2 := by
  cases L with
  | nil => exact ⟨hp.mono (by decide), hq.mono (by decide)⟩
  | cons l r =>
    have hl := h l List.mem_cons_self
    have h4 := hl.sp
    have h5 := hl.sq
    show Sz 402 (if 0 < p * (0 - l.q) + q * l.p then (0 - l.q, l.p) else (l.q, 0 - l.p)).1 ∧ Sz 402 (if 0 < p * (0 - l.q) + q * l.p then (0 - l.q, l.p) else (l.q, 0 - l.p)).2
    split
    · exact ⟨(sz0.sub h5).mono (by decide), h4.mono (by decide)⟩
    · exact ⟨h5.mono (by decide), (sz0.sub h4).mono (by decide)⟩
theorem told_facts {L : List Rg.Ln} (h : ∀ l, l ∈ L → LOk l) {p q : Rat} (hp : Sz 400 p) (hq : Sz 400 q) (hpq : p ≠ 0 ∨ q ≠ 0) : match Rg.mostT L p q with
    | .free x => Sz 402 x.1 ∧ Sz 402 x.2 ∧ 0 < p * x.1 + q * x.2
    | .most v x s => Sz 8300 v ∧ s.length ≤ 1000 := by
  have n0 : ¬ (p = 0 ∧ q = 0) := fun z => by
    rcases hpq with n | n
    · exact n z.1
    · exact n z.2
  unfold Rg.mostT
  rw [if_neg n0]
  by_cases e : Rg.allSh L p q = []
  · rw [if_pos e]
    obtain ⟨_, _, _, f⟩ := Rg.most_free (okL h) hpq e
    exact ⟨(free_sz h hp hq).1, (free_sz h hp hq).2, f⟩
  · rw [if_neg e]
    have hs := allSh_ok h (hp.mono (by decide)) (hq.mono (by decide)) (Rg.leastSh_is (L := L) e).1
    exact ⟨worth_sz2 hs, Nat.le_trans hs.len (by decide)⟩
def S_idle : Fs where
  run := fun ds k => ∃ (L : List Rg.Ln), ∃ (n : Nat), ∃ (l : Rg.Ln), ds = [lsD L, .int (n : Int)] ∧ (∀ l, l ∈ L → LOk l) ∧ L.length ≤ 9 ∧ L[n]? = some l ∧ k (idleD L n l)
  mono := fun ds k k' h ⟨L, n, l, e, s0, s1, s2, q⟩ => ⟨L, n, l, e, s0, s1, s2, h _ q⟩
abbrev N_idle : List Str := ["lines", "k", "others", "p", "q", "r", "told", "far"]
theorem sc_idle : FnScope N_idle ["lines", "k"] (defScope (topS 52)) := ⟨rfl, rfl, rfl, by decide +kernel, rfl, by decide +kernel, by decide +kernel⟩
theorem ok_idle (T : Tx K mg) : Ok P w K mg base "idle" ["lines", "k"] 11 (SpF K S_idle) := by
  obtain ⟨v_ONE_tables, c_ONE_tables⟩ := T.c_ONE_tables
  refine okF T.d_idle sc_idle (fun ds k h => by obtain ⟨_, _, _, rfl, _⟩ := h; rfl) fun cdv A outer s H E f hr => ⟨_, (pss_cons (ps_set (i := 2) sc_idle.nd rfl (Or.inl rfl) (pe_op op_cat (pe_callTy (listK K) (by rfl) T.n_list (by decide +kernel) (pa_cons (pe_slice (slL K) (pv 0) po_none (po_some (pv 1))) pa_nil)) (pe_callTy (listK K) (by rfl) T.n_list (by decide +kernel) (pa_cons (pe_slice (slL K) (pv 0) (po_some (pe_op op_add (pv 1) pe_int)) po_none) pa_nil))))
      (pss_cons (ps_asg (pe_ix (ixL K) (pv 0) (pv 1) (fun _ _ => rfl)) (tupK K 3 rfl (pgs_cons (pg_name (i := 3) sc_idle.nd rfl (Or.inl rfl)) (pgs_cons (pg_name (i := 4) sc_idle.nd rfl (Or.inl rfl)) (pgs_cons (pg_name (i := 5) sc_idle.nd rfl (Or.inl rfl)) pgs_nil)))))
      (pss_cons (ps_set (i := 6) sc_idle.nd rfl (Or.inl rfl) (pe_ok (ok_most T) hr (by decide) (by rfl) (pa_cons (pv 2) (pa_cons (pv 3) (pa_cons (pv 4) pa_nil)))))
      (pss_cons (ps_if (pt_cmpR op_eq (pe_ix (ixT K) (pv 6) pe_int (fun _ _ => rfl)) pe_str (nomark _)) (pss_cons (ps_set (i := 7) sc_idle.nd rfl (Or.inl rfl) (pe_ok (ok_over T) hr (by decide) (by rfl) (pa_cons (pe_ok (ok_plus T) hr (by decide) (by rfl) (pa_cons (pv 5) (pa_cons (pe_cn c_ONE_tables (by rfl)) pa_nil))) (pa_cons (pe_ok (ok_summed T) hr (by decide) (by rfl) (pa_cons (pv 3) (pa_cons (pv 4) (pa_cons (pe_ix (ixT K) (pv 6) pe_int (fun _ _ => rfl)) pa_nil)))) pa_nil))))
      (pss_one (ps_ret (pe_tup (pa_cons pe_str (pa_cons (pe_tup (pa_cons (pe_ok (ok_times T) hr (by decide) (by rfl) (pa_cons (pv 7) (pa_cons (pe_ix (ixT K) (pe_ix (ixT K) (pv 6) pe_int (fun _ _ => rfl)) pe_int (fun _ _ => rfl)) pa_nil))) (pa_cons (pe_ok (ok_times T) hr (by decide) (by rfl) (pa_cons (pv 7) (pa_cons (pe_ix (ixT K) (pe_ix (ixT K) (pv 6) pe_int (fun _ _ => rfl)) pe_int (fun _ _ => rfl)) pa_nil))) pa_nil))) pa_nil)))))) pss_nil)
      (pss_cons (ps_if (pt_val (pe_ok (ok_less T) hr (by decide) (by rfl) (pa_cons (pv 5) (pa_cons (pe_ix (ixT K) (pv 6) pe_int (fun _ _ => rfl)) pa_nil)))) (pss_one (ps_ret (pe_tup (pa_cons pe_str (pa_cons (pe_ix (ixT K) (pv 6) pe_int (fun _ _ => rfl)) pa_nil))))) pss_nil)
      (pss_one (ps_ret (pe_tup (pa_cons pe_str (pa_cons (pe_ok (ok_numbered T) hr (by decide) (by rfl) (pa_cons (pe_ix (ixT K) (pv 6) pe_int (fun _ _ => rfl)) (pa_cons (pv 1) pa_nil))) pa_nil)))))))))), ?_⟩
  rintro ds kq ⟨L, n, l, rfl, hL, hz, hn, q⟩
  show WS K _ [.dat (lsD L), .dat (.int (n : Int)), .no, .no, .no, .no, .no, .no] _ _
  have hl := hL l (List.mem_of_getElem? hn)
  have h4 := hl.sp
  have h5 := hl.sq
  have h6 := hl.r
  have hM : ∀ m, m ∈ L.take n ++ L.drop (n + 1) → LOk m := fun m hm => by
    rcases List.mem_append.mp hm with hm | hm
    · exact hL m (List.mem_of_mem_take hm)
    · exact hL m (List.mem_of_mem_drop hm)
  have hMl : (L.take n ++ L.drop (n + 1)).length ≤ 9 := by
    rw [List.length_append, List.length_take, List.length_drop]
    omega
  refine ws_seq (ws_asg (WL.we (wl_cat (wl_list (WL.we (wl_head ?_))))))
  walk_at "ev"
  refine ⟨_, _, rfl, rfl, _, rfl, wl_list (WL.we (wl_tail ?_))⟩
  walk_at "ev"
  refine ⟨_, n + 1, rfl, rfl, _, rfl, ?_, ?_⟩
  · rw [List.length_take, List.length_drop, List.length_map]
    omega
  · rw [← List.map_take, ← List.map_drop, ← List.map_append]
    unfold idleD at q
    walk_at "ev"
    refine rd_ixL (at_ln hn) ?_
    walk_at "ev"
    refine ⟨hM, hMl, h4.mono (by decide), h5.mono (by decide), ?_⟩
    have facts := told_facts hM h4 h5 hl.ne
    cases e : Rg.mostT (L.take n ++ L.drop (n + 1)) l.p l.q with
    | free x =>
      rw [e] at q facts
      obtain ⟨f1, f2, f3⟩ := facts
      have ne : l.p * x.1 + l.q * x.2 ≠ 0 := by
        intro z
        rw [z] at f3
        exact absurd f3 (by decide)
      dsimp only [toldD]
      walk_at "ev"
      refine ⟨ne, ?_⟩
      walk_at "ev"
      exact q
    | most v x s =>
      rw [e] at q facts
      obtain ⟨f1, f2⟩ := facts
      dsimp only [toldD]
      walk_at "ev"
      have q : kq (if l.r < v then .tuple [.str "needed", ryD x] else .tuple [.str "idle", numD s n]) := q
      refine ⟨fun h => ?_, fun h => ?_⟩
      · rw [if_pos (of_decide_eq_true h)] at q
        walk_at "ev"
        exact q
      · rw [if_neg (of_decide_eq_false h)] at q
        walk_at "ev"
        refine ⟨f2, ?_⟩
        walk_at "ev"
        exact q
end
end Wk


set_option Elab.async false
set_option linter.all false
set_option maxRecDepth 100000
set_option maxHeartbeats 8000000
namespace Wk
open PySem PySem.Spec PyProof.Rows L2 Lg
set_option exponentiation.threshold 20000
/-- // by a divisor of either sign -/
theorem fdN {X : Cx} : OpR X (binaryOp .FloorDiv) (rI (fun _ j => j ≠ 0 ∧ j.natAbs.log2 < 9000) fun i j => .int (i.fdiv j)) := opI fun _ _ _ _ _ _ _ hc q => floordiv_int hc.1 q (.inl (PyProof.noPylong_of_log2 hc.2))
theorem fd_pos {t g : Int} (hg : 0 < g) : t.fdiv g = t / g := Int.fdiv_eq_ediv_of_nonneg t (by omega)
theorem fd_neg {t g : Int} (h : g ∣ t) : t.fdiv (0 - g) = (0 - t) / g := by
  obtain ⟨c, rfl⟩ := h
  by_cases hg : g = 0
  · subst hg; simp
  · have e1 : g * c = (0 - g) * (0 - c) := by rw [Int.zero_sub, Int.zero_sub, Int.neg_mul_neg]
    have e2 : 0 - g * c = g * (0 - c) := by rw [Int.zero_sub, Int.zero_sub, Int.mul_neg]
    rw [e2, Int.mul_ediv_cancel_left _ hg, e1, Int.mul_fdiv_cancel_left _ (by omega)]
local macro_rules | `(tactic| walk_at "ev") => `(tactic| repeat (first
  | (with_reducible apply wa_nil)
  | (with_reducible apply wa_cons)
  | ((with_reducible apply we_cn); assumption)
  | (with_reducible apply we_int)
  | (with_reducible apply we_str)
  | (with_reducible apply we_bl)
  | (with_reducible apply we_non)
  | ((with_reducible apply we_var); exact rfl)
  | (with_reducible apply we_head2)
  | (with_reducible apply we_tup)
  | (with_reducible apply we_op)
  | (with_reducible apply we_un)
  | (with_reducible apply wc_1)
  | (with_reducible apply rd_i0)
  | (with_reducible apply rd_b0)
  | ((with_reducible apply rd_ixT); exact rfl)
  | (with_reducible apply rd_eqI)
  | (with_reducible apply rd_neI)
  | (with_reducible apply rd_eqS)
  | (with_reducible apply rd_neS)
  | (with_reducible apply rd_eqB)
  | (with_reducible apply rd_neB)
  | (with_reducible apply we_call)
  | (with_reducible apply we_cb)
  | (with_reducible apply cd_abs)
  | (with_reducible apply wt_test)
  | (with_reducible apply wt_b)
  | (with_reducible apply wt_not)
  | (with_reducible apply wt_and)
  | (with_reducible apply wt_or)
  | (with_reducible apply wt_yes)
  | (with_reducible apply ws_next)
  | (with_reducible apply ws_ret)
  | (with_reducible apply ws_asg)
  | (with_reducible apply ws_if)
  | (with_reducible apply ws_par)
  | (with_reducible apply ws_asgG)
  | (with_reducible apply wg_name)
  | ((with_reducible apply wg_tup); exact rfl)
  | (with_reducible apply wgs_nil)
  | (with_reducible apply wgs_cons)
  | (with_reducible apply ws_seq)
  | (refine ⟨(show List.length _ ≤ 1000000 from Nat.le_of_ble_eq_true rfl), ?_⟩)
  | (refine ⟨fun _ => ?_, fun h => absurd h (by decide)⟩)
  | (refine ⟨fun h => absurd h (by decide), fun _ => ?_⟩)
  | (refine ⟨(show Sz _ _ by walk_at "sz"), ?_⟩)
  | (refine ⟨_, rfl, ?_⟩)
  | (refine ⟨_, _, rfl, ?_⟩)
  | (refine ⟨_, _, _, rfl, ?_⟩)
  | (refine ⟨_, _, _, _, rfl, ?_⟩)))
local macro_rules | `(tactic| walk_at "sz0") => `(tactic| first
  | assumption
  | exact sz0
  | exact sz1
  | exact Sz.add (by walk_at "sz0") (by walk_at "sz0")
  | exact Sz.sub (by walk_at "sz0") (by walk_at "sz0")
  | exact Sz.mul (by walk_at "sz0") (by walk_at "sz0")
  | exact Sz.neg (by walk_at "sz0")
  | exact Sz.ab (by walk_at "sz0")
  | exact Sz.div (by walk_at "sz0") (by walk_at "sz0") (by assumption))
local macro_rules | `(tactic| walk_at "sz") => `(tactic| first
  | assumption
  | exact Sz.mono (by walk_at "sz0") (by decide))

section
variable {P : Program} {w : World} {K : PySem.W.Frag} {mg : Str → Option Value} {base : Heap}
def S_law_low : Fs where
  run := fun ds k => ∃ t b : Int, ds = [.int t, .int b] ∧ b ≠ 0 ∧ b.natAbs < 2 ^ 9000 ∧ k (rt (Rat.divInt t b))
  mono := fun ds k k' h ⟨t, b, e, p, p2, q⟩ => ⟨t, b, e, p, p2, h _ q⟩
abbrev N_law_low : List Str := ["top", "bottom", "one", "other"]
theorem sc_law_low : FnScope N_law_low ["top", "bottom"] (defScope (topS 58)) := ⟨rfl, rfl, rfl, by decide +kernel, rfl, by decide +kernel, by decide +kernel⟩
theorem ok_law_low (T : Tx K mg) : Ok P w K mg base "_law_low" ["top", "bottom"] 1 (SpF K S_law_low) := by
  refine okF T.d_law_low sc_law_low (fun ds k h => by obtain ⟨_, _, rfl, _⟩ := h; rfl) fun cdv A outer s H E f hr => ⟨_, (pss_cons (ps_par (i := 2) (j := 3) (by rfl) sc_law_low.nd rfl rfl (by decide) rfl rfl (pa_cons (pe_callB call_abs (by rfl) T.n_abs (by decide +kernel) (pa_cons (pv 0) pa_nil)) (pa_cons (pe_callB call_abs (by rfl) T.n_abs (by decide +kernel) (pa_cons (pv 1) pa_nil)) pa_nil)) (by rfl))
      (pss_cons (ps_while PassesOwn.never (pt_cmpR op_gt (pv 3) pe_int (nomark _)) (pss_one (ps_par (i := 2) (j := 3) (by rfl) sc_law_low.nd rfl rfl (by decide) rfl rfl (pa_cons (pv 3) (pa_cons (pe_op op_mod (pv 2) (pv 3)) pa_nil)) (by rfl))))
      (pss_cons (ps_if (pt_cmpR op_lt (pv 1) pe_int (nomark _)) (pss_one (ps_set (i := 2) sc_law_low.nd rfl (Or.inl rfl) (pe_op op_sub pe_int (pv 2)))) pss_nil)
      (pss_one (ps_ret (pe_tup (pa_cons (pe_op fdN (pv 0) (pv 2)) (pa_cons (pe_op fdN (pv 1) (pv 2)) pa_nil)))))))), ?_⟩
  rintro ds kq ⟨t, b, rfl, hb, hz, q⟩
  show WS K _ [.dat (.int t), .dat (.int b), .no, .no] _ _
  have hg : (0 : Int) < (Int.gcd t b : Int) := by
    have := Int.gcd_pos_of_ne_zero_right t hb
    omega
  have hl : ((Int.gcd t b : Int)).natAbs.log2 < 9000 := PySem.Flt.log2_lt_of (by decide) (Nat.lt_of_le_of_lt (by have := Int.gcd_le_natAbs_right t hb; omega) hz)
  have d1 : (Int.gcd t b : Int) ∣ t := Int.gcd_dvd_left ..
  have d2 : (Int.gcd t b : Int) ∣ b := Int.gcd_dvd_right ..
  walk_at "ev"
  refine ws_while (fun ρ => ∃ x y : Int, ρ = [.dat (.int t), .dat (.int b), .dat (.int x), .dat (.int y)] ∧ 0 ≤ x ∧ 0 ≤ y ∧ Int.gcd x y = Int.gcd t b) (fun ρ => match ρ with | [_, _, _, Sl.dat (.int y)] => y.toNat | _ => 0) ⟨_, _, rfl, ?_, ?_, ?_⟩ ?_
  · split <;> omega
  · split <;> omega
  · split <;> split <;> simp only [Int.neg_gcd, Int.gcd_neg]
  · rintro ρ1 ⟨x, y, rfl, hx, hy, hgc⟩
    walk_at "ev"
    refine ⟨fun h => ?_, fun h => ?_⟩
    · have h0 : 0 < y := of_decide_eq_true h
      walk_at "ev"
      refine rd_i h0 ?_
      walk_at "ev"
      refine ⟨⟨_, _, rfl, hy, Int.emod_nonneg _ (by omega), ?_⟩, ?_⟩
      · rw [Int.gcd_comm, gcd_step y x h0, Int.gcd_comm]; exact hgc
      · have := Int.emod_lt_of_pos x h0
        have h2 := Int.emod_nonneg x (show y ≠ 0 by omega)
        show (x % y).toNat < y.toNat
        omega
    · have h0 : ¬ y > 0 := of_decide_eq_false h
      have : y = 0 := by omega
      subst this
      rw [Int.gcd_zero] at hgc
      have e : x = (Int.gcd t b : Int) := by omega
      rw [e]
      walk_at "ev"
      refine ⟨fun h => ?_, fun h => ?_⟩
      · have hlt : b < 0 := of_decide_eq_true h
        walk_at "ev"
        have c : (0 - (Int.gcd t b : Int)) ≠ 0 ∧ (0 - (Int.gcd t b : Int)).natAbs.log2 < 9000 := ⟨by omega, by rw [Int.zero_sub, Int.natAbs_neg]; exact hl⟩
        refine rd_i c ?_
        walk_at "ev"
        refine rd_i c ?_
        walk_at "ev"
        rw [fd_neg d1, fd_neg d2]
        have hb2 : 0 < 0 - b := by omega
        obtain ⟨e1, e2⟩ := divInt_pos (0 - t) (0 - b) hb2
        have e3 : Int.gcd (0 - t) (0 - b) = Int.gcd t b := by rw [Int.zero_sub, Int.zero_sub, Int.neg_gcd, Int.gcd_neg]
        rw [e3] at e1 e2
        rw [← e1, ← e2]
        have e : Rat.divInt (0 - t) (0 - b) = Rat.divInt t b := by
          rw [Int.zero_sub, Int.zero_sub, Rat.neg_divInt_neg]
        rw [e]
        exact q
      · have hlt : ¬ b < 0 := of_decide_eq_false h
        have hb2 : 0 < b := by omega
        walk_at "ev"
        have c : (Int.gcd t b : Int) ≠ 0 ∧ (Int.gcd t b : Int).natAbs.log2 < 9000 := ⟨by omega, hl⟩
        refine rd_i c ?_
        walk_at "ev"
        refine rd_i c ?_
        walk_at "ev"
        rw [fd_pos hg, fd_pos hg]
        obtain ⟨e1, e2⟩ := divInt_pos t b hb2
        rw [← e1, ← e2]
        exact q
def S_law_sum : Fs where
  run := fun ds k => ∃ (a b : Rat), ds = [rt a, rt b] ∧ Sz 4500 a ∧ Sz 4500 b ∧ k (rt (a + b))
  mono := fun ds k k' h ⟨a, b, e, s0, s1, q⟩ => ⟨a, b, e, s0, s1, h _ q⟩
abbrev N_law_sum : List Str := ["one", "other"]
theorem sc_law_sum : FnScope N_law_sum ["one", "other"] (defScope (topS 59)) := ⟨rfl, rfl, rfl, by decide +kernel, rfl, by decide +kernel, by decide +kernel⟩
theorem ok_law_sum (T : Tx K mg) : Ok P w K mg base "_law_sum" ["one", "other"] 2 (SpF K S_law_sum) := by
  refine okF T.d_law_sum sc_law_sum (fun ds k h => by obtain ⟨_, _, rfl, _⟩ := h; rfl) fun cdv A outer s H E f hr => ⟨_, (pss_one (ps_ret (pe_ok (ok_law_low T) hr (by decide) (by rfl) (pa_cons (pe_op op_add (pe_op op_mulW (pe_ix (ixT K) (pv 0) pe_int (fun _ _ => rfl)) (pe_ix (ixT K) (pv 1) pe_int (fun _ _ => rfl))) (pe_op op_mulW (pe_ix (ixT K) (pv 1) pe_int (fun _ _ => rfl)) (pe_ix (ixT K) (pv 0) pe_int (fun _ _ => rfl)))) (pa_cons (pe_op op_mulW (pe_ix (ixT K) (pv 0) pe_int (fun _ _ => rfl)) (pe_ix (ixT K) (pv 1) pe_int (fun _ _ => rfl))) pa_nil))))), ?_⟩
  rintro ds kq ⟨a, b, rfl, sa, sb, q⟩
  show WS K _ [.dat (rt a), .dat (rt b)] _ _
  walk_at "ev"
  refine rd_i (cmul sa.1 sb.d (by decide)) ?_
  walk_at "ev"
  refine rd_i (cmul sb.1 sa.d (by decide)) ?_
  walk_at "ev"
  refine rd_i (cmul sa.d sb.d (by decide)) ?_
  walk_at "ev"
  refine ⟨Int.mul_ne_zero (den_ne a) (den_ne b), by rw [Int.natAbs_mul]; exact mul_lt9 sa.2 sb.2, ?_⟩
  rw [Rat.add_def', ← Rat.divInt_ofNat] at q
  exact q
def S_law_taken : Fs where
  run := fun ds k => ∃ (a b : Rat), ds = [rt a, rt b] ∧ Sz 4500 a ∧ Sz 4500 b ∧ k (rt (a * b))
  mono := fun ds k k' h ⟨a, b, e, s0, s1, q⟩ => ⟨a, b, e, s0, s1, h _ q⟩
abbrev N_law_taken : List Str := ["one", "other"]
theorem sc_law_taken : FnScope N_law_taken ["one", "other"] (defScope (topS 60)) := ⟨rfl, rfl, rfl, by decide +kernel, rfl, by decide +kernel, by decide +kernel⟩
theorem ok_law_taken (T : Tx K mg) : Ok P w K mg base "_law_taken" ["one", "other"] 2 (SpF K S_law_taken) := by
  refine okF T.d_law_taken sc_law_taken (fun ds k h => by obtain ⟨_, _, rfl, _⟩ := h; rfl) fun cdv A outer s H E f hr => ⟨_, (pss_one (ps_ret (pe_ok (ok_law_low T) hr (by decide) (by rfl) (pa_cons (pe_op op_mulW (pe_ix (ixT K) (pv 0) pe_int (fun _ _ => rfl)) (pe_ix (ixT K) (pv 1) pe_int (fun _ _ => rfl))) (pa_cons (pe_op op_mulW (pe_ix (ixT K) (pv 0) pe_int (fun _ _ => rfl)) (pe_ix (ixT K) (pv 1) pe_int (fun _ _ => rfl))) pa_nil))))), ?_⟩
  rintro ds kq ⟨a, b, rfl, sa, sb, q⟩
  show WS K _ [.dat (rt a), .dat (rt b)] _ _
  walk_at "ev"
  refine rd_i (cmul sa.1 sb.1 (by decide)) ?_
  walk_at "ev"
  refine rd_i (cmul sa.d sb.d (by decide)) ?_
  walk_at "ev"
  refine ⟨Int.mul_ne_zero (den_ne a) (den_ne b), by rw [Int.natAbs_mul]; exact mul_lt9 sa.2 sb.2, ?_⟩
  rw [Rat.mul_def', ← Rat.divInt_ofNat] at q
  exact q
def S_law_back : Fs where
  run := fun ds k => ∃ (a : Rat), ds = [rt a] ∧ k (rt (-a))
  mono := fun ds k k' h ⟨a, e, q⟩ => ⟨a, e, h _ q⟩
abbrev N_law_back : List Str := ["one"]
theorem sc_law_back : FnScope N_law_back ["one"] (defScope (topS 61)) := ⟨rfl, rfl, rfl, by decide +kernel, rfl, by decide +kernel, by decide +kernel⟩
theorem ok_law_back (T : Tx K mg) : Ok P w K mg base "_law_back" ["one"] 1 (SpF K S_law_back) := by
  refine okF T.d_law_back sc_law_back (fun ds k h => by obtain ⟨_, rfl, _⟩ := h; rfl) fun cdv A outer s H E f hr => ⟨_, (pss_one (ps_ret (pe_tup (pa_cons (pe_op op_sub pe_int (pe_ix (ixT K) (pv 0) pe_int (fun _ _ => rfl))) (pa_cons (pe_ix (ixT K) (pv 0) pe_int (fun _ _ => rfl)) pa_nil))))), ?_⟩
  rintro ds kq ⟨a, rfl, q⟩
  show WS K _ [.dat (rt a)] _ _
  walk_at "ev"
  rw [Int.zero_sub]
  exact q
def S_law_below : Fs where
  run := fun ds k => ∃ (a b : Rat), ds = [rt a, rt b] ∧ Sz 100000 a ∧ Sz 100000 b ∧ k (.bool (decide (a < b)))
  mono := fun ds k k' h ⟨a, b, e, s0, s1, q⟩ => ⟨a, b, e, s0, s1, h _ q⟩
abbrev N_law_below : List Str := ["one", "other"]
theorem sc_law_below : FnScope N_law_below ["one", "other"] (defScope (topS 62)) := ⟨rfl, rfl, rfl, by decide +kernel, rfl, by decide +kernel, by decide +kernel⟩
theorem ok_law_below (T : Tx K mg) : Ok P w K mg base "_law_below" ["one", "other"] 1 (SpF K S_law_below) := by
  refine okF T.d_law_below sc_law_below (fun ds k h => by obtain ⟨_, _, rfl, _⟩ := h; rfl) fun cdv A outer s H E f hr => ⟨_, (pss_one (ps_ret (pe_cmpR op_lt (pe_op op_mulW (pe_ix (ixT K) (pv 0) pe_int (fun _ _ => rfl)) (pe_ix (ixT K) (pv 1) pe_int (fun _ _ => rfl))) (pe_op op_mulW (pe_ix (ixT K) (pv 1) pe_int (fun _ _ => rfl)) (pe_ix (ixT K) (pv 0) pe_int (fun _ _ => rfl))) (nomark _)))), ?_⟩
  rintro ds kq ⟨a, b, rfl, sa, sb, q⟩
  show WS K _ [.dat (rt a), .dat (rt b)] _ _
  walk_at "ev"
  refine rd_i (cmul sa.1 sb.d (by decide)) ?_
  walk_at "ev"
  refine rd_i (cmul sb.1 sa.d (by decide)) ?_
  walk_at "ev"
  have e : decide (a < b) = decide (a.num * (b.den : Int) < b.num * (a.den : Int)) := decide_eq_decide.mpr (Rat.lt_iff a b)
  rw [e] at q
  exact q
def S_law_bare : Fs where
  run := fun ds k => ∃ (a : Rat), ds = [rt a] ∧ k (rt (Rg.ab a))
  mono := fun ds k k' h ⟨a, e, q⟩ => ⟨a, e, h _ q⟩
abbrev N_law_bare : List Str := ["one"]
theorem sc_law_bare : FnScope N_law_bare ["one"] (defScope (topS 68)) := ⟨rfl, rfl, rfl, by decide +kernel, rfl, by decide +kernel, by decide +kernel⟩
theorem ok_law_bare (T : Tx K mg) : Ok P w K mg base "_law_bare" ["one"] 1 (SpF K S_law_bare) := by
  refine okF T.d_law_bare sc_law_bare (fun ds k h => by obtain ⟨_, rfl, _⟩ := h; rfl) fun cdv A outer s H E f hr => ⟨_, (pss_one (ps_ret (pe_tup (pa_cons (pe_callB call_abs (by rfl) T.n_abs (by decide +kernel) (pa_cons (pe_ix (ixT K) (pv 0) pe_int (fun _ _ => rfl)) pa_nil)) (pa_cons (pe_ix (ixT K) (pv 0) pe_int (fun _ _ => rfl)) pa_nil))))), ?_⟩
  rintro ds kq ⟨a, rfl, q⟩
  show WS K _ [.dat (rt a)] _ _
  walk_at "ev"
  rw [← ab_num, ← ab_den]
  exact q
def S_law_worth : Fs where
  run := fun ds k => ∃ (p q : Rat), ∃ (x : Rg.Ray), ds = [rt p, rt q, ryD x] ∧ Sz 2200 p ∧ Sz 2200 q ∧ Sz 2200 x.1 ∧ Sz 2200 x.2 ∧ k (rt (p * x.1 + q * x.2))
  mono := fun ds k k' h ⟨p, q, x, e, s0, s1, s2, s3, z⟩ => ⟨p, q, x, e, s0, s1, s2, s3, h _ z⟩
abbrev N_law_worth : List Str := ["p", "q", "ray"]
theorem sc_law_worth : FnScope N_law_worth ["p", "q", "ray"] (defScope (topS 67)) := ⟨rfl, rfl, rfl, by decide +kernel, rfl, by decide +kernel, by decide +kernel⟩
theorem ok_law_worth (T : Tx K mg) : Ok P w K mg base "_law_worth" ["p", "q", "ray"] 3 (SpF K S_law_worth) := by
  refine okF T.d_law_worth sc_law_worth (fun ds k h => by obtain ⟨_, _, _, rfl, _⟩ := h; rfl) fun cdv A outer s H E f hr => ⟨_, (pss_one (ps_ret (pe_ok (ok_law_sum T) hr (by decide) (by rfl) (pa_cons (pe_ok (ok_law_taken T) hr (by decide) (by rfl) (pa_cons (pv 0) (pa_cons (pe_ix (ixT K) (pv 2) pe_int (fun _ _ => rfl)) pa_nil))) (pa_cons (pe_ok (ok_law_taken T) hr (by decide) (by rfl) (pa_cons (pv 1) (pa_cons (pe_ix (ixT K) (pv 2) pe_int (fun _ _ => rfl)) pa_nil))) pa_nil))))), ?_⟩
  rintro ds kq ⟨p, q, x, rfl, sp, sq, sx, sy, z⟩
  show WS K _ [.dat (rt p), .dat (rt q), .dat (ryD x)] _ _
  walk_at "ev"
  exact z
def S_law_less : Fs where
  run := fun ds k => ∃ (a b : Rat), ds = [rt a, rt b] ∧ Sz 4400 a ∧ Sz 4400 b ∧ k (rt (a - b))
  mono := fun ds k k' h ⟨a, b, e, s0, s1, q⟩ => ⟨a, b, e, s0, s1, h _ q⟩
abbrev N_law_less : List Str := ["one", "other"]
theorem sc_law_less : FnScope N_law_less ["one", "other"] (defScope (topS 72)) := ⟨rfl, rfl, rfl, by decide +kernel, rfl, by decide +kernel, by decide +kernel⟩
theorem ok_law_less (T : Tx K mg) : Ok P w K mg base "_law_less" ["one", "other"] 3 (SpF K S_law_less) := by
  refine okF T.d_law_less sc_law_less (fun ds k h => by obtain ⟨_, _, rfl, _⟩ := h; rfl) fun cdv A outer s H E f hr => ⟨_, (pss_one (ps_ret (pe_ok (ok_law_sum T) hr (by decide) (by rfl) (pa_cons (pv 0) (pa_cons (pe_ok (ok_law_back T) hr (by decide) (by rfl) (pa_cons (pv 1) pa_nil)) pa_nil))))), ?_⟩
  rintro ds kq ⟨a, b, rfl, sa, sb, q⟩
  show WS K _ [.dat (rt a), .dat (rt b)] _ _
  walk_at "ev"
  rw [← Rat.sub_eq_add_neg]
  exact q
def S_law_cross : Fs where
  run := fun ds k => ∃ (x y : Rg.Ray) (d : PyData), ds = [d, ryD y] ∧ (d = ryD x ∨ ∃ r, d = .tuple [rt x.1, rt x.2, r]) ∧ Sz 2190 x.1 ∧ Sz 2190 x.2 ∧ Sz 2190 y.1 ∧ Sz 2190 y.2 ∧ k (rt (Rg.cr x y))
  mono := fun ds k k' h ⟨x, y, d, e, s0, s1, s2, s3, s4, q⟩ => ⟨x, y, d, e, s0, s1, s2, s3, s4, h _ q⟩
abbrev N_law_cross : List Str := ["one", "other"]
theorem sc_law_cross : FnScope N_law_cross ["one", "other"] (defScope (topS 73)) := ⟨rfl, rfl, rfl, by decide +kernel, rfl, by decide +kernel, by decide +kernel⟩
theorem ok_law_cross (T : Tx K mg) : Ok P w K mg base "_law_cross" ["one", "other"] 4 (SpF K S_law_cross) := by
  refine okF T.d_law_cross sc_law_cross (fun ds k h => by obtain ⟨_, _, _, rfl, _⟩ := h; rfl) fun cdv A outer s H E f hr => ⟨_, (pss_one (ps_ret (pe_ok (ok_law_less T) hr (by decide) (by rfl) (pa_cons (pe_ok (ok_law_taken T) hr (by decide) (by rfl) (pa_cons (pe_ix (ixT K) (pv 0) pe_int (fun _ _ => rfl)) (pa_cons (pe_ix (ixT K) (pv 1) pe_int (fun _ _ => rfl)) pa_nil))) (pa_cons (pe_ok (ok_law_taken T) hr (by decide) (by rfl) (pa_cons (pe_ix (ixT K) (pv 0) pe_int (fun _ _ => rfl)) (pa_cons (pe_ix (ixT K) (pv 1) pe_int (fun _ _ => rfl)) pa_nil))) pa_nil))))), ?_⟩
  rintro ds kq ⟨x, y, d, rfl, hd, s1, s2, s3, s4, q⟩
  show WS K _ [.dat d, .dat (ryD y)] _ _
  rcases hd with rfl | ⟨r, rfl⟩
  · walk_at "ev"
    exact q
  · walk_at "ev"
    exact q
end
end Wk


set_option Elab.async false
set_option linter.all false
set_option maxRecDepth 100000
set_option maxHeartbeats 8000000
namespace Wk
open PySem PySem.Spec PyProof.Rows L2 Lg
set_option exponentiation.threshold 20000
local macro_rules | `(tactic| walk_at "ev") => `(tactic| repeat (first
  | (with_reducible apply wa_nil)
  | (with_reducible apply wa_cons)
  | ((with_reducible apply we_cn); assumption)
  | (with_reducible apply we_int)
  | (with_reducible apply we_str)
  | (with_reducible apply we_bl)
  | (with_reducible apply we_non)
  | ((with_reducible apply we_var); exact rfl)
  | (with_reducible apply we_head2)
  | (with_reducible apply we_tup)
  | (with_reducible apply we_lst)
  | (with_reducible apply we_notInA)
  | ((with_reducible apply we_ixC); exact rfl; exact rfl)
  | (with_reducible apply we_op)
  | (with_reducible apply we_un)
  | (with_reducible apply wc_1)
  | (with_reducible apply rd_i0)
  | (with_reducible apply rd_b0)
  | ((with_reducible apply rd_ixT); exact rfl)
  | (with_reducible apply rd_eqI)
  | (with_reducible apply rd_neI)
  | (with_reducible apply rd_eqS)
  | (with_reducible apply rd_neS)
  | (with_reducible apply rd_eqB)
  | (with_reducible apply rd_neB)
  | (with_reducible apply we_call)
  | (with_reducible apply we_cb)
  | (with_reducible apply cd_abs)
  | (with_reducible apply wt_test)
  | (with_reducible apply wt_b)
  | (with_reducible apply wt_not)
  | (with_reducible apply wt_and)
  | (with_reducible apply wt_or)
  | (with_reducible apply wt_yes)
  | (with_reducible apply ws_next)
  | (with_reducible apply ws_ret)
  | (with_reducible apply ws_asg)
  | (with_reducible apply ws_if)
  | (with_reducible apply ws_par)
  | (with_reducible apply ws_setO)
  | (with_reducible apply ws_asgG)
  | (with_reducible apply wg_name)
  | ((with_reducible apply wg_tup); exact rfl)
  | (with_reducible apply wgs_nil)
  | (with_reducible apply wgs_cons)
  | (with_reducible apply ws_seq)
  | (refine ⟨(show List.length _ ≤ 1000000 from Nat.le_of_ble_eq_true rfl), ?_⟩)
  | (refine ⟨fun _ => ?_, fun h => absurd h (by decide)⟩)
  | (refine ⟨fun h => absurd h (by decide), fun _ => ?_⟩)
  | (refine ⟨(show Sz _ _ by walk_at "sz"), ?_⟩)
  | (refine ⟨_, rfl, ?_⟩)
  | (refine ⟨_, _, rfl, ?_⟩)
  | (refine ⟨_, _, _, rfl, ?_⟩)
  | (refine ⟨_, _, _, _, rfl, ?_⟩)))
local macro_rules | `(tactic| walk_at "sz0") => `(tactic| first
  | assumption
  | exact sz0
  | exact sz1
  | exact Sz.add (by walk_at "sz0") (by walk_at "sz0")
  | exact Sz.sub (by walk_at "sz0") (by walk_at "sz0")
  | exact Sz.mul (by walk_at "sz0") (by walk_at "sz0")
  | exact Sz.neg (by walk_at "sz0")
  | exact Sz.ab (by walk_at "sz0")
  | exact Sz.div (by walk_at "sz0") (by walk_at "sz0") (by assumption))
local macro_rules | `(tactic| walk_at "sz") => `(tactic| first
  | assumption
  | exact Sz.mono (by walk_at "sz0") (by decide))

def D_next (ds : List PyData) (R : PyData → Prop) : Prop := ∃ b : Int, ds = [.int b] ∧ 0 < b ∧ b < 2 ^ 62 ∧ R = fun d => ∃ n : Int, d = .int n ∧ 0 ≤ n ∧ n < b
abbrev S_law_next : Ps := Pst D_next
def D_wide (ds : List PyData) (R : PyData → Prop) : Prop := ∃ b : Int, ds = [.int b] ∧ 0 < b ∧ b < 2 ^ 62 ∧ R = fun d => ∃ n : Int, d = .int n ∧ 0 ≤ n ∧ n < b
abbrev S_law_wide : Ps := Pst D_wide
def D_number (ds : List PyData) (R : PyData → Prop) : Prop := ds = [] ∧ R = fun d => ∃ x : Rat, d = rt x ∧ Sz 41 x
abbrev S_law_number : Ps := Pst D_number
def D_ray (ds : List PyData) (R : PyData → Prop) : Prop := ds = [] ∧ R = fun d => ∃ x : Rg.Ray, d = ryD x ∧ Sz 41 x.1 ∧ Sz 41 x.2
abbrev S_law_ray : Ps := Pst D_ray
section
variable {K : PySem.W.Frag} {te : TE} {ρ : List Sl} {Q : PyData → List Sl → Prop}
theorem we_nextP {E : XK} {i : Nat} {o : Addr} {xs : List Int} (hi : ρ[i]? = some (Sl.own o (xs.map PyData.int))) (hx : I3 xs)
    (h : WE K te ρ fun d ρ1 => ∃ b : Int, d = .int b ∧ ρ1 = ρ ∧ 0 < b ∧ b < 2 ^ 62 ∧ ∀ ys n, I3 ys → 0 ≤ n → n < b → Q (.int n) (ρ.set i (.own o (ys.map PyData.int)))) : WE K (tCall (SpP K S_law_next) [] E (tCons (tVar i) (tCons te tNil))) ρ Q :=
  we_pool hi hx (wa_cons (h.imp fun d ρ1 ⟨b, e, e2, p1, p2, q⟩ => wa_nil ⟨e2, _, ⟨b, by rw [e], p1, p2, rfl⟩, fun ys d hy ⟨n, e, n1, n2⟩ => by rw [e]; exact q ys n hy n1 n2⟩))
theorem we_wideP {E : XK} {i : Nat} {o : Addr} {xs : List Int} (hi : ρ[i]? = some (Sl.own o (xs.map PyData.int))) (hx : I3 xs)
    (h : WE K te ρ fun d ρ1 => ∃ b : Int, d = .int b ∧ ρ1 = ρ ∧ 0 < b ∧ b < 2 ^ 62 ∧ ∀ ys n, I3 ys → 0 ≤ n → n < b → Q (.int n) (ρ.set i (.own o (ys.map PyData.int)))) : WE K (tCall (SpP K S_law_wide) [] E (tCons (tVar i) (tCons te tNil))) ρ Q :=
  we_pool hi hx (wa_cons (h.imp fun d ρ1 ⟨b, e, e2, p1, p2, q⟩ => wa_nil ⟨e2, _, ⟨b, by rw [e], p1, p2, rfl⟩, fun ys d hy ⟨n, e, n1, n2⟩ => by rw [e]; exact q ys n hy n1 n2⟩))
theorem we_numP {E : XK} {i : Nat} {o : Addr} {xs : List Int} (hi : ρ[i]? = some (Sl.own o (xs.map PyData.int))) (hx : I3 xs)
    (h : ∀ ys x, I3 ys → Sz 41 x → Q (rt x) (ρ.set i (.own o (ys.map PyData.int)))) : WE K (tCall (SpP K S_law_number) [] E (tCons (tVar i) tNil)) ρ Q :=
  we_pool hi hx (wa_nil ⟨rfl, _, ⟨rfl, rfl⟩, fun ys d hy ⟨x, e, z⟩ => by rw [e]; exact h ys x hy z⟩)
theorem we_rayP {E : XK} {i : Nat} {o : Addr} {xs : List Int} (hi : ρ[i]? = some (Sl.own o (xs.map PyData.int))) (hx : I3 xs)
    (h : ∀ ys x, I3 ys → Sz 41 x.1 → Sz 41 x.2 → Q (ryD x) (ρ.set i (.own o (ys.map PyData.int)))) : WE K (tCall (SpP K S_law_ray) [] E (tCons (tVar i) tNil)) ρ Q :=
  we_pool hi hx (wa_nil ⟨rfl, _, ⟨rfl, rfl⟩, fun ys d hy ⟨x, e, z1, z2⟩ => by rw [e]; exact h ys x hy z1 z2⟩)
end
theorem sz_low {n : Nat} {t b : Int} (ht : t.natAbs < 2 ^ n) (hb : b.natAbs < 2 ^ n) (h0 : b ≠ 0) : Sz n (Rat.divInt t b) := Sz.of_div ht hb h0
theorem small_low {b : Int} (h0 : b ≠ 0) (hb : b.natAbs < 2 ^ 62) : b ≠ 0 ∧ b.natAbs < 2 ^ 9000 := ⟨h0, Nat.lt_trans hb (Nat.pow_lt_pow_right (by decide) (by decide))⟩
section
variable {P : Program} {w : World} {K : PySem.W.Frag} {mg : Str → Option Value} {base : Heap}
def S_law_pool : Ls where
  run := fun ds k => ∃ c : Int, ds = [.int c] ∧ ∀ xs : List Int, I3 xs → k (xs.map PyData.int)
  mono := fun ds k k' f ⟨c, e, q⟩ => ⟨c, e, fun xs i => f _ (q xs i)⟩
abbrev N_law_pool : List Str := ["cell"]
theorem sc_law_pool : FnScope N_law_pool ["cell"] (defScope (topS 54)) := ⟨rfl, rfl, rfl, by decide +kernel, rfl, by decide +kernel, by decide +kernel⟩
theorem ok_law_pool (T : Tx K mg) : Ok P w K mg base "_law_pool" ["cell"] 1 (SpN K S_law_pool) := by
  refine okN T.d_law_pool sc_law_pool (fun ds k h => by obtain ⟨_, rfl, _⟩ := h; rfl) fun cdv A outer s H E f hr => ⟨_, pss_one (ps_ret (pe_lst (pa_cons (pe_callB (call_max2 rfl) (by rfl) T.n_max (by decide +kernel) (pa_cons pe_int (pa_cons (pe_op op_sub (pv 0) (pe_op op_pow pe_int pe_int)) pa_nil))) (pa_cons (pe_op op_mod (pv 0) (pe_op op_pow pe_int pe_int)) (pa_cons pe_int pa_nil))))), ?_⟩
  rintro ds kq ⟨c, rfl, q⟩
  show WL K _ [.dat (.int c)] _
  refine wl_lst ?_
  walk_at "ev"
  refine rd_i (C := CPow) ⟨by decide, by decide, by decide⟩ ?_
  walk_at "ev"
  refine cd_max ?_
  walk_at "ev"
  refine rd_i (C := CPow) ⟨by decide, by decide, by decide⟩ ?_
  walk_at "ev"
  refine rd_i (by decide) ?_
  walk_at "ev"
  exact q [_, _, _] ⟨_, _, _, rfl⟩
abbrev N_law_next : List Str := ["pool", "base", "digit", "near", "stir"]
theorem sc_law_next : FnScope N_law_next ["pool", "base"] (defScope (topS 55)) := ⟨rfl, rfl, rfl, by decide +kernel, rfl, by decide +kernel, by decide +kernel⟩
theorem ok_law_next (T : Tx K mg) : Ok P w K mg base "_law_next" ["pool", "base"] 1 (SpP K S_law_next) := by
  refine okP T.d_law_next sc_law_next (fun xs ds k h => by obtain ⟨_, _, ⟨_, rfl, _⟩, _⟩ := h; rfl) fun cdv A outer s H E f hr => ⟨_, (pss_cons (ps_if (pt_cmpR op_gt (pe_ix (ixL K) (pv 0) pe_int (fun _ _ => rfl)) pe_int (nomark _)) (pss_cons (ps_set (i := 2) sc_law_next.nd rfl (Or.inl rfl) (pe_op op_mod (pe_ix (ixL K) (pv 0) pe_int (fun _ _ => rfl)) (pv 1)))
      (pss_cons (ps_asg (pe_op op_fdivW (pe_ix (ixL K) (pv 0) pe_int (fun _ _ => rfl)) (pv 1)) (pg_sub (pv 0) pe_int set_list))
      (pss_one (ps_ret (pv 2))))) pss_nil)
      (pss_cons (ps_asg (pe_op op_add (pe_ix (ixL K) (pv 0) pe_int (fun _ _ => rfl)) pe_int) (pg_sub (pv 0) pe_int set_list))
      (pss_cons (ps_set (i := 3) sc_law_next.nd rfl (Or.inl rfl) (pe_op op_mod (pe_op op_add (pe_ix (ixL K) (pv 0) pe_int (fun _ _ => rfl)) (pe_op op_mul pe_int (pe_ix (ixL K) (pv 0) pe_int (fun _ _ => rfl)))) pe_int))
      (pss_cons (ps_set (i := 4) sc_law_next.nd rfl (Or.inl rfl) (pe_op op_mod (pe_op op_mul (pe_op op_add (pv 3) pe_int) (pe_op op_add (pv 3) pe_int)) pe_int))
      (pss_one (ps_ret (pe_op op_mod (pe_op op_fdivW (pe_op op_mod (pe_op op_mul (pv 4) (pv 4)) pe_int) pe_int) (pv 1)))))))), ?_⟩
  rintro a xs ds kq ⟨⟨x, y, z, rfl⟩, R, ⟨b, rfl, h0, hb, rfl⟩, q⟩
  show WS K _ [.own a [.int x, .int y, .int z], .dat (.int b), .no, .no, .no] _ _
  walk_at "ev"
  refine ⟨fun h => ?_, fun h => ?_⟩
  · walk_at "ev"
    refine rd_i h0 ?_
    walk_at "ev"
    refine rd_i (wide_div h0 (b := 62) (by omega) (by decide) (by decide)) ?_
    walk_at "ev"
    refine ⟨0, 0, _, rfl, rfl, rfl, ?_⟩
    walk_at "ev"
    exact ⟨[x / b, y, z], rfl, q _ _ ⟨_, _, _, rfl⟩ ⟨_, rfl, Int.emod_nonneg _ (by omega), Int.emod_lt_of_pos _ h0⟩⟩
  · walk_at "ev"
    refine ⟨2, 2, _, rfl, rfl, rfl, ?_⟩
    walk_at "ev"
    refine rd_i (C := CMul) (.inl ⟨by decide, by decide⟩) ?_
    walk_at "ev"
    refine rd_i (by decide) ?_
    walk_at "ev"
    generalize hn : (y + 7919 * (z + 1)) % 1000000007 = near
    have n1 : 0 ≤ near := by rw [← hn]; exact Int.emod_nonneg _ (by decide)
    have n2 : near < 1000000007 := by rw [← hn]; exact Int.emod_lt_of_pos _ (by decide)
    refine rd_i (C := CMul) (.inl ⟨by omega, by omega⟩) ?_
    walk_at "ev"
    refine rd_i (by decide) ?_
    walk_at "ev"
    generalize hs : (near + 11) * (near + 48271) % 998244353 = stir
    have s1 : 0 ≤ stir := by rw [← hs]; exact Int.emod_nonneg _ (by decide)
    have s2 : stir < 998244353 := by rw [← hs]; exact Int.emod_lt_of_pos _ (by decide)
    refine rd_i (C := CMul) (.inl ⟨by omega, by omega⟩) ?_
    walk_at "ev"
    refine rd_i (by decide) ?_
    walk_at "ev"
    refine rd_i (wide_div (b := 4) (by decide) (by decide) (by decide) (by decide)) ?_
    walk_at "ev"
    refine rd_i h0 ?_
    exact ⟨[x, y, z + 1], rfl, q _ _ ⟨_, _, _, rfl⟩ ⟨_, rfl, Int.emod_nonneg _ (by omega), Int.emod_lt_of_pos _ h0⟩⟩
abbrev N_law_wide : List Str := ["pool", "base", "number", "turn"]
theorem sc_law_wide : FnScope N_law_wide ["pool", "base"] (defScope (topS 57)) := ⟨rfl, rfl, rfl, by decide +kernel, rfl, by decide +kernel, by decide +kernel⟩
theorem ok_law_wide (T : Tx K mg) : Ok P w K mg base "_law_wide" ["pool", "base"] 2 (SpP K S_law_wide) := by
  refine okP T.d_law_wide sc_law_wide (fun xs ds k h => by obtain ⟨_, _, ⟨_, rfl, _⟩, _⟩ := h; rfl) fun cdv A outer s H E f hr => ⟨_, (pss_cons (ps_if (PW.pt (pw_or (pt_cmpR op_gt (pe_ix (ixL K) (pv 0) pe_int (fun _ _ => rfl)) pe_int (nomark _)) (pw_or1 (pt_cmpR op_lt (pv 1) (pe_op op_pow pe_int pe_int) (nomark _))))) (pss_one (ps_ret (pe_ok (ok_law_next T) hr (by decide) (by rfl) (pa_cons (pv 0) (pa_cons (pv 1) pa_nil))))) pss_nil)
      (pss_cons (ps_set (i := 2) sc_law_wide.nd rfl (Or.inl rfl) pe_int)
      (pss_cons (ps_for PassesOwn.never rfl (pi_range1 (by rfl) T.n_range (pa_cons (pe_op op_add pe_int (pe_op op_fdivW (pe_bits (pv 1)) pe_int)) pa_nil)) (pg_name (i := 3) sc_law_wide.nd rfl (Or.inl rfl)) (pss_one (ps_set (i := 2) sc_law_wide.nd rfl (Or.inl rfl) (pe_op op_add (pe_op op_mul (pv 2) pe_int) (pe_ok (ok_law_next T) hr (by decide) (by rfl) (pa_cons (pv 0) (pa_cons pe_int pa_nil)))))))
      (pss_one (ps_ret (pe_op op_mod (pv 2) (pv 1))))))), ?_⟩
  rintro a xs ds kq ⟨hx, R, ⟨b, rfl, h0, hb, rfl⟩, q⟩
  show WS K _ [.own a (xs.map PyData.int), .dat (.int b), .no, .no] _ _
  have next : ∀ N, WS K (tRet (tCall (SpP K S_law_next) [] E0 (tCons (tVar 0) (tCons (tVar 1) tNil)))) [.own a (xs.map PyData.int), .dat (.int b), .no, .no] N (fun d ρ' => ∃ ys : List Int, ρ'[0]? = some (Sl.own a (ys.map PyData.int)) ∧ kq ys d) := fun N => by
    refine ws_ret (we_nextP (xs := xs) rfl hx ?_)
    walk_at "ev"
    exact ⟨rfl, h0, hb, fun ys n hy n1 n2 => ⟨ys, rfl, q _ _ hy ⟨_, rfl, n1, n2⟩⟩⟩
  refine ws_cut (fun ρ1 => ρ1 = [.own a (xs.map PyData.int), .dat (.int b), .no, .no]) ?_ ?_
  · have hx2 := hx
    obtain ⟨x, y, z, rfl⟩ := hx2
    refine ws_if (wt_or (wt_b ?_))
    refine we_op (we_ixC (o := a) (ds := [.int x, .int y, .int z]) rfl rfl ?_)
    walk_at "ev"
    refine ⟨fun _ => ?_, fun h => ⟨fun _ => next _, fun h2 => by cases h2⟩⟩
    walk_at "ev"
    refine rd_i (C := CPow) ⟨by decide, by decide, by decide⟩ ?_
    walk_at "ev"
    exact ⟨fun h => next _, fun h => ws_next rfl⟩
  rintro ρ1 rfl
  refine ws_seq (ws_asg (we_int ?_))
  refine ws_cut (fun ρ => ∃ (ys : List Int) (n : Int) (z : Sl), ρ = [.own a (ys.map PyData.int), .dat (.int b), .dat (.int n), z] ∧ I3 ys) ?_ ?_
  · refine ws_range1 ?_
    refine wa_cons (we_op (we_int (we_op (we_bits ?_))))
    walk_at "ev"
    refine rd_i (wide_div (b := 6) (by decide) (by decide) (by decide) (by decide)) ?_
    walk_at "ev"
    have hbit := PyProof.Rows.intBits_le (show b.natAbs < 2 ^ 62 by omega)
    refine ⟨_, fun i ρ => ∃ (ys : List Int) (n : Int) (z : Sl), ρ = [.own a (ys.map PyData.int), .dat (.int b), .dat (.int n), z] ∧ I3 ys, rfl, ?_, ?_, ⟨xs, 0, .no, rfl, hx⟩, ?_, ?_⟩
    · omega
    · omega
    · rintro i ρ2 hi ⟨ys, n, z, rfl, hy⟩
      walk_at "ev"
      refine rd_i (C := CMul) (.inr ⟨by decide, by decide⟩) ?_
      refine we_nextP (xs := ys) rfl hy ?_
      walk_at "ev"
      refine ⟨rfl, by decide, by decide, fun zs m hz m1 m2 => ?_⟩
      walk_at "ev"
      exact hz
    · rintro ρ2 h
      exact h
  · rintro ρ2 ⟨ys, n, z, rfl, hy⟩
    walk_at "ev"
    refine rd_i h0 ?_
    exact ⟨ys, rfl, q _ _ hy ⟨_, rfl, Int.emod_nonneg _ (by omega), Int.emod_lt_of_pos _ h0⟩⟩
end
end Wk


set_option Elab.async false
set_option linter.all false
set_option maxRecDepth 100000
set_option maxHeartbeats 8000000
namespace Wk
open PySem PySem.Spec PyProof.Rows L2 Lg
set_option exponentiation.threshold 20000
local macro_rules | `(tactic| walk_at "ev") => `(tactic| repeat (first
  | (with_reducible apply wa_nil)
  | (with_reducible apply wa_cons)
  | ((with_reducible apply we_cn); assumption)
  | (with_reducible apply we_int)
  | (with_reducible apply we_str)
  | (with_reducible apply we_bl)
  | (with_reducible apply we_non)
  | ((with_reducible apply we_var); exact rfl)
  | (with_reducible apply we_head2)
  | (with_reducible apply we_tup)
  | (with_reducible apply we_lst)
  | (with_reducible apply we_notInA)
  | ((with_reducible apply we_ixC); exact rfl; exact rfl)
  | (with_reducible apply we_op)
  | (with_reducible apply we_un)
  | (with_reducible apply wc_1)
  | (with_reducible apply rd_i0)
  | (with_reducible apply rd_b0)
  | ((with_reducible apply rd_ixT); exact rfl)
  | (with_reducible apply rd_eqI)
  | (with_reducible apply rd_neI)
  | (with_reducible apply rd_eqS)
  | (with_reducible apply rd_neS)
  | (with_reducible apply rd_eqB)
  | (with_reducible apply rd_neB)
  | (with_reducible apply we_call)
  | (with_reducible apply we_cb)
  | (with_reducible apply cd_abs)
  | (with_reducible apply wt_test)
  | (with_reducible apply wt_b)
  | (with_reducible apply wt_not)
  | (with_reducible apply wt_and)
  | (with_reducible apply wt_or)
  | (with_reducible apply wt_yes)
  | (with_reducible apply ws_next)
  | (with_reducible apply ws_ret)
  | (with_reducible apply ws_asg)
  | (with_reducible apply ws_if)
  | (with_reducible apply ws_par)
  | (with_reducible apply ws_setO)
  | (with_reducible apply ws_asgG)
  | (with_reducible apply wg_name)
  | ((with_reducible apply wg_tup); exact rfl)
  | (with_reducible apply wgs_nil)
  | (with_reducible apply wgs_cons)
  | (with_reducible apply ws_seq)
  | (refine ⟨(show List.length _ ≤ 1000000 from Nat.le_of_ble_eq_true rfl), ?_⟩)
  | (refine ⟨fun _ => ?_, fun h => absurd h (by decide)⟩)
  | (refine ⟨fun h => absurd h (by decide), fun _ => ?_⟩)
  | (refine ⟨(show Sz _ _ by walk_at "sz"), ?_⟩)
  | (refine ⟨_, rfl, ?_⟩)
  | (refine ⟨_, _, rfl, ?_⟩)
  | (refine ⟨_, _, _, rfl, ?_⟩)
  | (refine ⟨_, _, _, _, rfl, ?_⟩)))
local macro_rules | `(tactic| walk_at "sz0") => `(tactic| first
  | assumption
  | exact sz0
  | exact sz1
  | exact Sz.add (by walk_at "sz0") (by walk_at "sz0")
  | exact Sz.sub (by walk_at "sz0") (by walk_at "sz0")
  | exact Sz.mul (by walk_at "sz0") (by walk_at "sz0")
  | exact Sz.neg (by walk_at "sz0")
  | exact Sz.ab (by walk_at "sz0")
  | exact Sz.div (by walk_at "sz0") (by walk_at "sz0") (by assumption))
local macro_rules | `(tactic| walk_at "sz") => `(tactic| first
  | assumption
  | exact Sz.mono (by walk_at "sz0") (by decide))

structure LQ (m n : Nat) (l : Rg.Ln) : Prop where
  p : Sz m l.p
  q : Sz m l.q
  r : Sz n l.r
  ne : l.p ≠ 0 ∨ l.q ≠ 0
  pos : 0 < l.r
theorem LQ.mono {m n a b : Nat} {l : Rg.Ln} (h : LQ m n l) (h1 : m ≤ a) (h2 : n ≤ b) : LQ a b l := ⟨h.p.mono h1, h.q.mono h1, h.r.mono h2, h.ne, h.pos⟩
def D_line (ds : List PyData) (R : PyData → Prop) : Prop := ds = [] ∧ R = fun d => ∃ l : Rg.Ln, d = lnD l ∧ LQ 41 4 l
abbrev S_law_line : Ps := Pst D_line
def PtOk (a : Str × Rat) : Prop := Sz 41 a.2 ∧ (a.1 = "stop" → Sz 20 a.2 ∧ 0 < a.2)
def D_part (ds : List PyData) (R : PyData → Prop) : Prop := ds = [] ∧ R = fun d => ∃ a : Str × Rat, d = ptD a ∧ PtOk a
abbrev S_law_part : Ps := Pst D_part
theorem at_ints (ms : List Int) {n : Int} (h0 : 0 ≤ n) (h1 : n < ms.length) {P : Int → Prop} (hP : ∀ m, m ∈ ms → P m) : ∃ m, atI (ms.map PyData.int) n = some (.int m) ∧ P m := by
  obtain ⟨j, rfl⟩ := Int.eq_ofNat_of_zero_le h0
  have hj : j < ms.length := by omega
  refine ⟨ms[j], atI_nat ?_, hP _ (List.getElem_mem hj)⟩
  rw [List.getElem?_map, List.getElem?_eq_getElem hj]
  rfl
theorem low_pos {t b : Int} (ht : 0 < t) (hb : 0 < b) : 0 < Rat.divInt t b := by
  rw [Rat.divInt_eq_div, Rat.div_def]
  exact Rat.mul_pos (Rat.intCast_lt_intCast.mpr ht) (Rat.inv_pos.mpr (Rat.intCast_lt_intCast.mpr hb))
section
variable {K : PySem.W.Frag} {te : TE} {ρ : List Sl} {Q : PyData → List Sl → Prop}
theorem we_lineP {E : XK} {i : Nat} {o : Addr} {xs : List Int} (hi : ρ[i]? = some (Sl.own o (xs.map PyData.int))) (hx : I3 xs)
    (h : ∀ ys l, I3 ys → LQ 41 4 l → Q (lnD l) (ρ.set i (.own o (ys.map PyData.int)))) : WE K (tCall (SpP K S_law_line) [] E (tCons (tVar i) tNil)) ρ Q :=
  we_pool hi hx (wa_nil ⟨rfl, _, ⟨rfl, rfl⟩, fun ys d hy ⟨x, e, z⟩ => by rw [e]; exact h ys x hy z⟩)
theorem we_partP {E : XK} {i : Nat} {o : Addr} {xs : List Int} (hi : ρ[i]? = some (Sl.own o (xs.map PyData.int))) (hx : I3 xs)
    (h : ∀ ys a, I3 ys → PtOk a → Q (ptD a) (ρ.set i (.own o (ys.map PyData.int)))) : WE K (tCall (SpP K S_law_part) [] E (tCons (tVar i) tNil)) ρ Q :=
  we_pool hi hx (wa_nil ⟨rfl, _, ⟨rfl, rfl⟩, fun ys d hy ⟨x, e, z⟩ => by rw [e]; exact h ys x hy z⟩)
end
section
variable {P : Program} {w : World} {K : PySem.W.Frag} {mg : Str → Option Value} {base : Heap}
abbrev N_law_number : List Str := ["pool", "pick", "far"]
theorem sc_law_number : FnScope N_law_number ["pool"] (defScope (topS 63)) := ⟨rfl, rfl, rfl, by decide +kernel, rfl, by decide +kernel, by decide +kernel⟩
theorem ok_law_number (T : Tx K mg) : Ok P w K mg base "_law_number" ["pool"] 3 (SpP K S_law_number) := by
  refine okP T.d_law_number sc_law_number (fun xs ds k h => by obtain ⟨_, _, ⟨rfl, _⟩, _⟩ := h; rfl) fun cdv A outer s H E f hr => ⟨_, (pss_cons (ps_set (i := 1) sc_law_number.nd rfl (Or.inl rfl) (pe_ok (ok_law_next T) hr (by decide) (by rfl) (pa_cons (pv 0) (pa_cons pe_int pa_nil))))
      (pss_cons (ps_if (pt_cmpR op_lt (pv 1) pe_int (nomark _)) (pss_one (ps_ret (pe_ok (ok_law_low T) hr (by decide) (by rfl) (pa_cons (pe_op op_sub (pe_ok (ok_law_next T) hr (by decide) (by rfl) (pa_cons (pv 0) (pa_cons pe_int pa_nil))) pe_int) (pa_cons (pe_ix (ixL K) (pe_lst (pa_cons pe_int (pa_cons pe_int (pa_cons pe_int (pa_cons pe_int (pa_cons pe_int (pa_cons pe_int pa_nil))))))) (pe_ok (ok_law_next T) hr (by decide) (by rfl) (pa_cons (pv 0) (pa_cons pe_int pa_nil))) (fun _ _ => rfl)) pa_nil))))) pss_nil)
      (pss_cons (ps_if (pt_cmpR op_eq (pv 1) pe_int (nomark _)) (pss_one (ps_ret (pe_ok (ok_law_low T) hr (by decide) (by rfl) (pa_cons (pe_op op_sub (pe_ok (ok_law_next T) hr (by decide) (by rfl) (pa_cons (pv 0) (pa_cons pe_int pa_nil))) pe_int) (pa_cons (pe_op op_add pe_int (pe_ok (ok_law_next T) hr (by decide) (by rfl) (pa_cons (pv 0) (pa_cons pe_int pa_nil)))) pa_nil))))) pss_nil)
      (pss_cons (ps_if (pt_cmpR op_eq (pv 1) pe_int (nomark _)) (pss_cons (ps_set (i := 2) sc_law_number.nd rfl (Or.inl rfl) (pe_op op_sub (pe_op op_pow pe_int pe_int) pe_int))
      (pss_one (ps_ret (pe_ok (ok_law_low T) hr (by decide) (by rfl) (pa_cons (pe_op op_sub (pe_ok (ok_law_wide T) hr (by decide) (by rfl) (pa_cons (pv 0) (pa_cons (pe_op op_add (pe_op op_mulW pe_int (pv 2)) pe_int) pa_nil))) (pv 2)) (pa_cons (pe_op op_add pe_int (pe_ok (ok_law_wide T) hr (by decide) (by rfl) (pa_cons (pv 0) (pa_cons (pv 2) pa_nil)))) pa_nil)))))) pss_nil)
      (pss_one (ps_ret (pe_tup (pa_cons pe_int (pa_cons pe_int pa_nil))))))))), ?_⟩
  rintro a xs ds kq ⟨hx, R, ⟨rfl, rfl⟩, q⟩
  show WS K _ [.own a (xs.map PyData.int), .no, .no] _ _
  have fin : ∀ (ys : List Int) (t b : Int), I3 ys → t.natAbs < 2 ^ 41 → b.natAbs < 2 ^ 41 → b ≠ 0 → b ≠ 0 ∧ b.natAbs < 2 ^ 9000 ∧ kq ys (rt (Rat.divInt t b)) := fun ys t b hy ht hb h0 =>
    ⟨h0, (small_low h0 (Nat.lt_trans hb (by decide))).2, q _ _ hy ⟨_, rfl, Sz.of_div ht hb h0⟩⟩
  refine ws_seq (ws_asg (we_nextP (xs := xs) rfl hx ?_))
  walk_at "ev"
  refine ⟨rfl, by decide, by decide, fun ys pick hy p1 p2 => ?_⟩
  walk_at "ev"
  refine ⟨fun _ => ?_, fun _ => ?_⟩
  · walk_at "ev"
    refine we_nextP (xs := ys) rfl hy ?_
    walk_at "ev"
    refine ⟨rfl, by decide, by decide, fun zs n hz n1 n2 => ?_⟩
    walk_at "ev"
    refine we_nextP (xs := zs) rfl hz ?_
    walk_at "ev"
    refine ⟨rfl, by decide, by decide, fun us m hu m1 m2 => ?_⟩
    obtain ⟨b, hb, b1, b2⟩ := at_ints [1, 1, 1, 2, 3, 4] m1 m2 (P := fun m => 1 ≤ m ∧ m ≤ 4) (by decide)
    refine rd_ixL hb ?_
    walk_at "ev"
    obtain ⟨f1, f2, f3⟩ := fin us (n - 6) b hu (by omega) (by omega) (by omega)
    exact ⟨f1, f2, us, rfl, f3⟩
  · walk_at "ev"
    refine ⟨fun _ => ?_, fun _ => ?_⟩
    · walk_at "ev"
      refine we_nextP (xs := ys) rfl hy ?_
      walk_at "ev"
      refine ⟨rfl, by decide, by decide, fun zs n hz n1 n2 => ?_⟩
      walk_at "ev"
      refine we_nextP (xs := zs) rfl hz ?_
      walk_at "ev"
      refine ⟨rfl, by decide, by decide, fun us m hu m1 m2 => ?_⟩
      walk_at "ev"
      obtain ⟨f1, f2, f3⟩ := fin us (n - 40) (1 + m) hu (by omega) (by omega) (by omega)
      exact ⟨f1, f2, us, rfl, f3⟩
    · walk_at "ev"
      refine ⟨fun _ => ?_, fun _ => ?_⟩
      · walk_at "ev"
        refine rd_i (C := CPow) ⟨by decide, by decide, by decide⟩ ?_
        walk_at "ev"
        refine we_wideP (xs := ys) rfl hy ?_
        walk_at "ev"
        refine rd_i (cmul (m := 3) (n := 41) (by decide) (by decide) (by decide)) ?_
        walk_at "ev"
        refine ⟨rfl, by decide, by decide, fun zs n hz n1 n2 => ?_⟩
        walk_at "ev"
        refine we_wideP (xs := zs) rfl hz ?_
        walk_at "ev"
        refine ⟨rfl, by decide, by decide, fun us m hu m1 m2 => ?_⟩
        walk_at "ev"
        have e : (10 : Int) ^ (12 : Int).toNat - 1 = 999999999999 := by decide
        rw [e] at n2 m2 ⊢
        obtain ⟨f1, f2, f3⟩ := fin us (n - 999999999999) (1 + m) hu (by omega) (by omega) (by omega)
        exact ⟨f1, f2, us, rfl, f3⟩
      · walk_at "ev"
        exact q _ _ hy ⟨0, rfl, sz0.mono (by decide)⟩
abbrev N_law_ray : List Str := ["pool"]
theorem sc_law_ray : FnScope N_law_ray ["pool"] (defScope (topS 64)) := ⟨rfl, rfl, rfl, by decide +kernel, rfl, by decide +kernel, by decide +kernel⟩
theorem ok_law_ray (T : Tx K mg) : Ok P w K mg base "_law_ray" ["pool"] 4 (SpP K S_law_ray) := by
  refine okP T.d_law_ray sc_law_ray (fun xs ds k h => by obtain ⟨_, _, ⟨rfl, _⟩, _⟩ := h; rfl) fun cdv A outer s H E f hr => ⟨_, (pss_one (ps_ret (pe_tup (pa_cons (pe_ok (ok_law_number T) hr (by decide) (by rfl) (pa_cons (pv 0) pa_nil)) (pa_cons (pe_ok (ok_law_number T) hr (by decide) (by rfl) (pa_cons (pv 0) pa_nil)) pa_nil))))), ?_⟩
  rintro a xs ds kq ⟨hx, R, ⟨rfl, rfl⟩, q⟩
  show WS K _ [.own a (xs.map PyData.int)] _ _
  walk_at "ev"
  refine we_numP (xs := xs) rfl hx fun ys x hy s1 => ?_
  walk_at "ev"
  refine we_numP (xs := ys) rfl hy fun zs u hz s2 => ?_
  walk_at "ev"
  exact q _ _ hz ⟨(x, u), rfl, s1, s2⟩
abbrev N_law_part : List Str := ["pool", "pick"]
theorem sc_law_part : FnScope N_law_part ["pool"] (defScope (topS 70)) := ⟨rfl, rfl, rfl, by decide +kernel, rfl, by decide +kernel, by decide +kernel⟩
theorem ok_law_part (T : Tx K mg) : Ok P w K mg base "_law_part" ["pool"] 4 (SpP K S_law_part) := by
  refine okP T.d_law_part sc_law_part (fun xs ds k h => by obtain ⟨_, _, ⟨rfl, _⟩, _⟩ := h; rfl) fun cdv A outer s H E f hr => ⟨_, (pss_cons (ps_set (i := 1) sc_law_part.nd rfl (Or.inl rfl) (pe_ok (ok_law_next T) hr (by decide) (by rfl) (pa_cons (pv 0) (pa_cons pe_int pa_nil))))
      (pss_cons (ps_if (pt_cmpR op_eq (pv 1) pe_int (nomark _)) (pss_one (ps_ret (pe_tup (pa_cons pe_str (pa_cons (pe_ok (ok_law_bare T) hr (by decide) (by rfl) (pa_cons (pe_ok (ok_law_number T) hr (by decide) (by rfl) (pa_cons (pv 0) pa_nil)) pa_nil)) pa_nil))))) pss_nil)
      (pss_cons (ps_if (pt_cmpR op_eq (pv 1) pe_int (nomark _)) (pss_one (ps_ret (pe_tup (pa_cons pe_str (pa_cons (pe_ok (ok_law_number T) hr (by decide) (by rfl) (pa_cons (pv 0) pa_nil)) pa_nil))))) pss_nil)
      (pss_one (ps_ret (pe_tup (pa_cons pe_str (pa_cons (pe_ok (ok_law_low T) hr (by decide) (by rfl) (pa_cons (pe_op op_add pe_int (pe_ok (ok_law_next T) hr (by decide) (by rfl) (pa_cons (pv 0) (pa_cons pe_int pa_nil)))) (pa_cons (pe_op op_add pe_int (pe_ok (ok_law_next T) hr (by decide) (by rfl) (pa_cons (pv 0) (pa_cons pe_int pa_nil)))) pa_nil))) pa_nil)))))))), ?_⟩
  rintro a xs ds kq ⟨hx, R, ⟨rfl, rfl⟩, q⟩
  show WS K _ [.own a (xs.map PyData.int), .no] _ _
  refine ws_seq (ws_asg (we_nextP (xs := xs) rfl hx ?_))
  walk_at "ev"
  refine ⟨rfl, by decide, by decide, fun ys pick hy p1 p2 => ?_⟩
  walk_at "ev"
  refine ⟨fun _ => ?_, fun _ => ?_⟩
  · walk_at "ev"
    refine we_numP (xs := ys) rfl hy fun zs u hz s2 => ?_
    walk_at "ev"
    exact q _ _ hz ⟨("gap", Rg.ab u), rfl, s2.ab, fun h => absurd h (by show ¬ ("gap" : Str) = "stop"; decide)⟩
  · walk_at "ev"
    refine ⟨fun _ => ?_, fun _ => ?_⟩
    · walk_at "ev"
      refine we_numP (xs := ys) rfl hy fun zs u hz s2 => ?_
      walk_at "ev"
      exact q _ _ hz ⟨("glass", u), rfl, s2, fun h => absurd h (by show ¬ ("glass" : Str) = "stop"; decide)⟩
    · walk_at "ev"
      refine we_nextP (xs := ys) rfl hy ?_
      walk_at "ev"
      refine ⟨rfl, by decide, by decide, fun zs n hz n1 n2 => ?_⟩
      walk_at "ev"
      refine we_nextP (xs := zs) rfl hz ?_
      walk_at "ev"
      refine ⟨rfl, by decide, by decide, fun us m hu m1 m2 => ?_⟩
      walk_at "ev"
      have s4 : Sz 4 (Rat.divInt (1 + n) (1 + m)) := Sz.of_div (by omega) (by omega) (by omega)
      refine ⟨(small_low (by omega) (by omega)).1, (small_low (by omega) (by omega)).2, ?_⟩
      walk_at "ev"
      exact q _ _ hu ⟨("stop", _), rfl, s4.mono (by decide), fun _ => ⟨s4.mono (by decide), low_pos (by omega) (by omega)⟩⟩
abbrev N_law_line : List Str := ["pool", "p", "q"]
theorem sc_law_line : FnScope N_law_line ["pool"] (defScope (topS 65)) := ⟨rfl, rfl, rfl, by decide +kernel, rfl, by decide +kernel, by decide +kernel⟩
theorem ok_law_line (T : Tx K mg) : Ok P w K mg base "_law_line" ["pool"] 4 (SpP K S_law_line) := by
  refine okP T.d_law_line sc_law_line (fun xs ds k h => by obtain ⟨_, _, ⟨rfl, _⟩, _⟩ := h; rfl) fun cdv A outer s H E f hr => ⟨_, (pss_cons (ps_set (i := 1) sc_law_line.nd rfl (Or.inl rfl) (pe_ok (ok_law_number T) hr (by decide) (by rfl) (pa_cons (pv 0) pa_nil)))
      (pss_cons (ps_set (i := 2) sc_law_line.nd rfl (Or.inl rfl) (pe_ok (ok_law_number T) hr (by decide) (by rfl) (pa_cons (pv 0) pa_nil)))
      (pss_cons (ps_if (PW.pt (pw_and (pt_cmpR op_eq (pe_ix (ixT K) (pv 1) pe_int (fun _ _ => rfl)) pe_int (nomark _)) (pw_and1 (pt_cmpR op_eq (pe_ix (ixT K) (pv 2) pe_int (fun _ _ => rfl)) pe_int (nomark _))))) (pss_one (ps_set (i := 1) sc_law_line.nd rfl (Or.inl rfl) (pe_tup (pa_cons (pe_op op_add pe_int (pe_ok (ok_law_next T) hr (by decide) (by rfl) (pa_cons (pv 0) (pa_cons pe_int pa_nil)))) (pa_cons pe_int pa_nil))))) pss_nil)
      (pss_one (ps_ret (pe_tup (pa_cons (pv 1) (pa_cons (pv 2) (pa_cons (pe_ok (ok_law_low T) hr (by decide) (by rfl) (pa_cons (pe_op op_add pe_int (pe_ok (ok_law_next T) hr (by decide) (by rfl) (pa_cons (pv 0) (pa_cons pe_int pa_nil)))) (pa_cons (pe_ix (ixL K) (pe_lst (pa_cons pe_int (pa_cons pe_int (pa_cons pe_int (pa_cons pe_int pa_nil))))) (pe_ok (ok_law_next T) hr (by decide) (by rfl) (pa_cons (pv 0) (pa_cons pe_int pa_nil))) (fun _ _ => rfl)) pa_nil))) pa_nil))))))))), ?_⟩
  rintro a xs ds kq ⟨hx, R, ⟨rfl, rfl⟩, q⟩
  show WS K _ [.own a (xs.map PyData.int), .no, .no] _ _
  refine ws_seq (ws_asg (we_numP (xs := xs) rfl hx fun ys p hy sp => ?_))
  refine ws_seq (ws_asg (we_numP (xs := ys) rfl hy fun zs u hz su => ?_))
  refine ws_cut (fun ρ => ∃ (ys : List Int) (x : Rat), ρ = [.own a (ys.map PyData.int), .dat (rt x), .dat (rt u)] ∧ I3 ys ∧ Sz 41 x ∧ (x ≠ 0 ∨ u ≠ 0)) ?_ ?_
  · walk_at "ev"
    refine ⟨fun h1 => ?_, fun h1 => ?_⟩
    · walk_at "ev"
      refine ⟨fun h2 => ?_, fun h2 => ?_⟩
      · walk_at "ev"
        refine we_nextP (xs := zs) rfl hz ?_
        walk_at "ev"
        refine ⟨rfl, by decide, by decide, fun us n hu n1 n2 => ?_⟩
        walk_at "ev"
        refine ⟨us, ((1 + n : Int) : Rat), rfl, hu, ⟨?_, ?_⟩, .inl ?_⟩
        · rw [Rat.num_intCast]; omega
        · rw [Rat.den_intCast]; decide
        · intro z
          have := congrArg Rat.num z
          rw [Rat.num_intCast] at this
          have e0 : (0 : Rat).num = 0 := rfl
          omega
      · walk_at "ev"
        refine ⟨hz, sp, .inr fun z => ?_⟩
        rw [z] at h2
        cases h2
    · walk_at "ev"
      refine ⟨hz, sp, .inl fun z => ?_⟩
      rw [z] at h1
      cases h1
  · rintro ρ1 ⟨ys, x, rfl, hy, sx, ne⟩
    walk_at "ev"
    refine we_nextP (xs := ys) rfl hy ?_
    walk_at "ev"
    refine ⟨rfl, by decide, by decide, fun zs n hz n1 n2 => ?_⟩
    walk_at "ev"
    refine we_nextP (xs := zs) rfl hz ?_
    walk_at "ev"
    refine ⟨rfl, by decide, by decide, fun us m hu m1 m2 => ?_⟩
    obtain ⟨b, hb, b1, b2⟩ := at_ints [1, 1, 2, 5] m1 m2 (P := fun m => 1 ≤ m ∧ m ≤ 5) (by decide)
    refine rd_ixL hb ?_
    walk_at "ev"
    have s4 : Sz 4 (Rat.divInt (1 + n) b) := Sz.of_div (by omega) (by omega) (by omega)
    refine ⟨(small_low (by omega) (by omega)).1, (small_low (by omega) (by omega)).2, ?_⟩
    walk_at "ev"
    exact q _ _ hu ⟨⟨x, u, Rat.divInt (1 + n) b⟩, rfl, sx, su, s4, ne, low_pos (by omega) (by omega)⟩
end
end Wk


set_option Elab.async false
set_option linter.all false
set_option maxRecDepth 100000
set_option maxHeartbeats 8000000
namespace Wk
open PySem PySem.Spec PyProof.Rows L2 Lg
set_option exponentiation.threshold 20000
local macro_rules | `(tactic| walk_at "ev") => `(tactic| repeat (first
  | (with_reducible apply wa_nil)
  | (with_reducible apply wa_cons)
  | ((with_reducible apply we_cn); assumption)
  | (with_reducible apply we_int)
  | (with_reducible apply we_str)
  | (with_reducible apply we_bl)
  | (with_reducible apply we_non)
  | ((with_reducible apply we_var); exact rfl)
  | (with_reducible apply we_head2)
  | (with_reducible apply we_tup)
  | (with_reducible apply we_lst)
  | (with_reducible apply we_notInA)
  | ((with_reducible apply we_ixC); exact rfl; exact rfl)
  | (with_reducible apply we_op)
  | (with_reducible apply we_un)
  | (with_reducible apply wc_1)
  | (with_reducible apply rd_i0)
  | (with_reducible apply rd_b0)
  | ((with_reducible apply rd_ixT); exact rfl)
  | (with_reducible apply rd_eqI)
  | (with_reducible apply rd_neI)
  | (with_reducible apply rd_eqS)
  | (with_reducible apply rd_neS)
  | (with_reducible apply rd_eqB)
  | (with_reducible apply rd_neB)
  | (with_reducible apply we_call)
  | (with_reducible apply we_cb)
  | (with_reducible apply cd_abs)
  | (with_reducible apply wt_test)
  | (with_reducible apply wt_b)
  | (with_reducible apply wt_not)
  | (with_reducible apply wt_and)
  | (with_reducible apply wt_or)
  | (with_reducible apply wt_yes)
  | (with_reducible apply ws_next)
  | (with_reducible apply ws_ret)
  | (with_reducible apply ws_asg)
  | (with_reducible apply ws_if)
  | (with_reducible apply ws_par)
  | (with_reducible apply ws_setO)
  | (with_reducible apply ws_asgG)
  | (with_reducible apply wg_name)
  | ((with_reducible apply wg_tup); exact rfl)
  | (with_reducible apply wgs_nil)
  | (with_reducible apply wgs_cons)
  | (with_reducible apply ws_seq)
  | (refine ⟨(show List.length _ ≤ 1000000 from Nat.le_of_ble_eq_true rfl), ?_⟩)
  | (refine ⟨fun _ => ?_, fun h => absurd h (by decide)⟩)
  | (refine ⟨fun h => absurd h (by decide), fun _ => ?_⟩)
  | (refine ⟨(show Sz _ _ by walk_at "sz"), ?_⟩)
  | (refine ⟨_, rfl, ?_⟩)
  | (refine ⟨_, _, rfl, ?_⟩)
  | (refine ⟨_, _, _, rfl, ?_⟩)
  | (refine ⟨_, _, _, _, rfl, ?_⟩)))
local macro_rules | `(tactic| walk_at "sz0") => `(tactic| first
  | assumption
  | exact sz0
  | exact sz1
  | exact Sz.add (by walk_at "sz0") (by walk_at "sz0")
  | exact Sz.sub (by walk_at "sz0") (by walk_at "sz0")
  | exact Sz.mul (by walk_at "sz0") (by walk_at "sz0")
  | exact Sz.neg (by walk_at "sz0")
  | exact Sz.ab (by walk_at "sz0")
  | exact Sz.div (by walk_at "sz0") (by walk_at "sz0") (by assumption))
local macro_rules | `(tactic| walk_at "sz") => `(tactic| first
  | assumption
  | exact Sz.mono (by walk_at "sz0") (by decide))

theorem add_pos2 {a b : Rat} (h : 0 < a) (k : 0 < b) : 0 < a + b := by grind
def bp (k : Nat) : Nat := if k ≤ 1 then 41 else if k = 2 then 45 else 100
def br (k : Nat) : Nat := if k ≤ 2 then 4 else 9
theorem bp_mono (k : Nat) : bp k ≤ bp (k + 1) := by unfold bp; split <;> split <;> (try split) <;> (try split) <;> omega
theorem br_mono (k : Nat) : br k ≤ br (k + 1) := by unfold br; split <;> split <;> omega
theorem bp_low (k : Nat) : 41 ≤ bp k := by unfold bp; split <;> (try split) <;> omega
theorem br_low (k : Nat) : 4 ≤ br k := by unfold br; split <;> omega
theorem bp_up {k : Nat} (h : k ≤ 3) : bp k ≤ 100 := by unfold bp; split <;> (try split) <;> omega
theorem br_up (k : Nat) : br k ≤ 9 := by unfold br; split <;> omega
theorem bp_by {k : Nat} (h0 : 0 < k) (h1 : k ≤ 2) : 3 + bp k ≤ bp (k + 1) := by
  have : k = 1 ∨ k = 2 := by omega
  rcases this with rfl | rfl <;> decide
theorem cd_of {m : Nat} {l : Rg.Ln} (hp : Sz m l.p) (hq : Sz m l.q) : Rg.Cd (m + m) l := by
  refine ⟨(l.p.den : Int) * (l.q.den : Int), Int.mul_pos (Rg.den_cast _) (Rg.den_cast _), ?_, (Rg.Hn.of_self hp.1).wide (n := m) (E := (l.q.den : Int)) hq.2 (Nat.le_refl _), ((Rg.Hn.of_self hq.1).wide (n := m) (E := (l.p.den : Int)) hp.2 (Nat.le_refl _)).comm⟩
  rw [Int.natAbs_mul]
  exact mul_lt2 hp.2 hq.2
theorem LQ.ok {l : Rg.Ln} (h : LQ 100 9 l) : LOk l := ⟨(cd_of h.p h.q).mono (by decide), h.r.mono (by decide), h.ne, h.pos⟩
theorem at_lnI {L : List Rg.Ln} {n : Int} (h0 : 0 ≤ n) (h1 : n < L.length) : ∃ l, l ∈ L ∧ atI (L.map fun l => lnD l) n = some (lnD l) := by
  obtain ⟨j, rfl⟩ := Int.eq_ofNat_of_zero_le h0
  have hj : j < L.length := by omega
  refine ⟨L[j], List.getElem_mem hj, atI_nat ?_⟩
  rw [List.getElem?_map, List.getElem?_eq_getElem hj]
  rfl
theorem at_rt2 {x y : Rat} {n : Int} (h0 : 0 ≤ n) (h1 : n < 2) : ∃ u : Rat, (u = x ∨ u = y) ∧ atI [rt x, rt y] n = some (rt u) := by
  have : n = 0 ∨ n = 1 := by omega
  rcases this with rfl | rfl
  · exact ⟨x, .inl rfl, rfl⟩
  · exact ⟨y, .inr rfl, rfl⟩
def D_lines (ds : List PyData) (R : PyData → Prop) : Prop := ds = [.int 3] ∧ R = fun d => ∃ L : List Rg.Ln, d = lsD L ∧ L.length ≤ 3 ∧ ∀ l, l ∈ L → LOk l
abbrev S_law_lines : Ps := Pst D_lines
def D_asked (ds : List PyData) (R : PyData → Prop) : Prop := ∃ L : List Rg.Ln, ds = [lsD L] ∧ L.length ≤ 9 ∧ (∀ l, l ∈ L → LOk l) ∧ R = fun d => ∃ p q : Rat, d = .tuple [rt p, rt q] ∧ Sz 810 p ∧ Sz 810 q
abbrev S_law_asked : Ps := Pst D_asked
def S_law_cells (ns : List Int) (n : Int) (k : PyData → Prop) : Prop := n = 3 ∧ ns.length ≤ 63 ∧ ∀ ms : List Int, ms.length ≤ 3 → k (.list (ms.map PyData.int))
section
variable {P : Program} {w : World} {K : PySem.W.Frag} {mg : Str → Option Value} {base : Heap}
abbrev N_law_lines : List Str := ["pool", "most_lines", "found", "k", "line", "pick", "ahead", "by", "one", "other"]
theorem sc_law_lines : FnScope N_law_lines ["pool", "most_lines"] (defScope (topS 66)) := ⟨rfl, rfl, rfl, by decide +kernel, rfl, by decide +kernel, by decide +kernel⟩
theorem ok_law_lines (T : Tx K mg) : Ok P w K mg base "_law_lines" ["pool", "most_lines"] 5 (SpP K S_law_lines) := by
  refine okP T.d_law_lines sc_law_lines (fun xs ds k h => by obtain ⟨_, _, ⟨rfl, _⟩, _⟩ := h; rfl) fun cdv A outer s H E f hr => ⟨_, (pss_cons (ps_set (i := 2) sc_law_lines.nd rfl (Or.inl rfl) (pe_lst pa_nil))
      (pss_cons (ps_for PassesOwn.never rfl (pi_range1 (by rfl) T.n_range (pa_cons (pe_ok (ok_law_next T) hr (by decide) (by rfl) (pa_cons (pv 0) (pa_cons (pe_op op_add (pv 1) pe_int) pa_nil))) pa_nil)) (pg_name (i := 3) sc_law_lines.nd rfl (Or.inl rfl)) (pss_cons (ps_set (i := 4) sc_law_lines.nd rfl (Or.inl rfl) (pe_ok (ok_law_line T) hr (by decide) (by rfl) (pa_cons (pv 0) pa_nil)))
      (pss_cons (ps_set (i := 5) sc_law_lines.nd rfl (Or.inl rfl) (pe_ok (ok_law_next T) hr (by decide) (by rfl) (pa_cons (pv 0) (pa_cons pe_int pa_nil))))
      (pss_cons (ps_if (PW.pt (pw_and (pt_cmpR op_gt (pv 3) pe_int (nomark _)) (pw_and1 (pt_cmpR op_lt (pv 5) pe_int (nomark _))))) (pss_cons (ps_set (i := 6) sc_law_lines.nd rfl (Or.inl rfl) (pe_ix (ixL K) (pv 2) (pe_ok (ok_law_next T) hr (by decide) (by rfl) (pa_cons (pv 0) (pa_cons (pv 3) pa_nil))) (fun _ _ => rfl)))
      (pss_cons (ps_set (i := 7) sc_law_lines.nd rfl (Or.inl rfl) (pe_ix (ixL K) (pe_lst (pa_cons (pe_tup (pa_cons pe_int (pa_cons pe_int pa_nil))) (pa_cons (pe_ok (ok_law_low T) hr (by decide) (by rfl) (pa_cons (pe_op op_sub (pe_ok (ok_law_next T) hr (by decide) (by rfl) (pa_cons (pv 0) (pa_cons pe_int pa_nil))) pe_int) (pa_cons (pe_op op_add pe_int (pe_ok (ok_law_next T) hr (by decide) (by rfl) (pa_cons (pv 0) (pa_cons pe_int pa_nil)))) pa_nil))) pa_nil))) (pv 5) (fun _ _ => rfl)))
      (pss_cons (ps_if (pt_cmpR op_eq (pe_ix (ixT K) (pv 7) pe_int (fun _ _ => rfl)) pe_int (nomark _)) (pss_one (ps_set (i := 7) sc_law_lines.nd rfl (Or.inl rfl) (pe_tup (pa_cons pe_int (pa_cons pe_int pa_nil))))) pss_nil)
      (pss_one (ps_set (i := 4) sc_law_lines.nd rfl (Or.inl rfl) (pe_tup (pa_cons (pe_ok (ok_law_taken T) hr (by decide) (by rfl) (pa_cons (pv 7) (pa_cons (pe_ix (ixT K) (pv 6) pe_int (fun _ _ => rfl)) pa_nil))) (pa_cons (pe_ok (ok_law_taken T) hr (by decide) (by rfl) (pa_cons (pv 7) (pa_cons (pe_ix (ixT K) (pv 6) pe_int (fun _ _ => rfl)) pa_nil))) (pa_cons (pe_ix (ixL K) (pe_lst (pa_cons (pe_ix (ixT K) (pv 6) pe_int (fun _ _ => rfl)) (pa_cons (pe_ix (ixT K) (pv 4) pe_int (fun _ _ => rfl)) pa_nil))) (pe_ok (ok_law_next T) hr (by decide) (by rfl) (pa_cons (pv 0) (pa_cons pe_int pa_nil))) (fun _ _ => rfl)) pa_nil))))))))) pss_nil)
      (pss_cons (ps_if (PW.pt (pw_and (pt_cmpR op_gt (pv 3) pe_int (nomark _)) (pw_and1 (pt_cmpR op_eq (pv 5) pe_int (nomark _))))) (pss_cons (ps_par (i := 8) (j := 9) (by rfl) sc_law_lines.nd rfl rfl (by decide) rfl rfl (pa_cons (pe_ix (ixL K) (pv 2) (pe_op op_sub (pv 3) pe_int) (fun _ _ => rfl)) (pa_cons (pe_ix (ixL K) (pv 2) (pe_op op_sub (pv 3) pe_int) (fun _ _ => rfl)) pa_nil)) (by rfl))
      (pss_cons (ps_set (i := 4) sc_law_lines.nd rfl (Or.inl rfl) (pe_tup (pa_cons (pe_ok (ok_law_sum T) hr (by decide) (by rfl) (pa_cons (pe_ix (ixT K) (pv 8) pe_int (fun _ _ => rfl)) (pa_cons (pe_ix (ixT K) (pv 9) pe_int (fun _ _ => rfl)) pa_nil))) (pa_cons (pe_ok (ok_law_sum T) hr (by decide) (by rfl) (pa_cons (pe_ix (ixT K) (pv 8) pe_int (fun _ _ => rfl)) (pa_cons (pe_ix (ixT K) (pv 9) pe_int (fun _ _ => rfl)) pa_nil))) (pa_cons (pe_ok (ok_law_sum T) hr (by decide) (by rfl) (pa_cons (pe_ix (ixT K) (pv 8) pe_int (fun _ _ => rfl)) (pa_cons (pe_ix (ixT K) (pv 9) pe_int (fun _ _ => rfl)) pa_nil))) pa_nil)))))
      (pss_one (ps_if (PW.pt (pw_and (pt_cmpR op_eq (pe_ix (ixT K) (pe_ix (ixT K) (pv 4) pe_int (fun _ _ => rfl)) pe_int (fun _ _ => rfl)) pe_int (nomark _)) (pw_and1 (pt_cmpR op_eq (pe_ix (ixT K) (pe_ix (ixT K) (pv 4) pe_int (fun _ _ => rfl)) pe_int (fun _ _ => rfl)) pe_int (nomark _))))) (pss_one (ps_set (i := 4) sc_law_lines.nd rfl (Or.inl rfl) (pv 8))) pss_nil)))) pss_nil)
      (pss_one (ps_expr (bmK K PySem.F.plainAttrs_list PySem.F.slot_list_append PySem.F.type_list_append mt_append (pv 2) (pa_cons (pv 4) pa_nil)))))))))
      (pss_one (ps_ret (pv 2))))), ?_⟩
  rintro a xs ds kq ⟨hx, R, ⟨rfl, rfl⟩, q⟩
  show WS K _ [.own a (xs.map PyData.int), .dat (.int 3), .no, .no, .no, .no, .no, .no, .no, .no] _ _
  refine ws_seq (ws_asgO (wl_lst (wa_nil ⟨by decide, fun o => ?_⟩)))
  refine ws_cut (fun ρ => ∃ (ys : List Int) (L : List Rg.Ln) (z3 z4 z5 z6 z7 z8 z9 : Sl), ρ = [.own a (ys.map PyData.int), .dat (.int 3), .own o (L.map fun l => lnD l), z3, z4, z5, z6, z7, z8, z9] ∧ I3 ys ∧ L.length ≤ 3 ∧ ∀ l, l ∈ L → LOk l) ?_ ?_
  · refine ws_range1 (wa_cons (we_nextP (i := 0) (xs := xs) rfl hx ?_))
    walk_at "ev"
    refine ⟨rfl, by decide, by decide, fun ys n hy n1 n2 => wa_nil ?_⟩
    refine ⟨n, fun k ρ => ∃ (ys : List Int) (L : List Rg.Ln) (z3 z4 z5 z6 z7 z8 z9 : Sl), ρ = [.own a (ys.map PyData.int), .dat (.int 3), .own o (L.map fun l => lnD l), z3, z4, z5, z6, z7, z8, z9] ∧ I3 ys ∧ L.length = k ∧ ∀ l, l ∈ L → LQ (bp k) (br k) l, rfl, by omega, by omega, ⟨ys, [], _, _, _, _, _, _, _, rfl, hy, rfl, fun l h => by cases h⟩, ?_, ?_⟩
    · rintro k ρ2 hk ⟨us, L, z3, z4, z5, z6, z7, z8, z9, rfl, hu, hl, hL⟩
      have hk2 : k ≤ 2 := by omega
      refine wg_name ?_
      refine ws_seq (ws_asg (we_pool (i := 0) (xs := us) rfl hu (wa_nil ⟨rfl, _, ⟨rfl, rfl⟩, ?_⟩)))
      rintro vs _ hv ⟨l, rfl, ql⟩
      refine ws_seq (ws_asg (we_nextP (i := 0) (xs := vs) rfl hv ?_))
      walk_at "ev"
      refine ⟨rfl, by decide, by decide, fun ts pick ht p1 p2 => ?_⟩
      refine ws_cut (fun ρ => ∃ (ys : List Int) (l : Rg.Ln) (z6 z7 z8 z9 : Sl), ρ = [.own a (ys.map PyData.int), .dat (.int 3), .own o (L.map fun l => lnD l), .dat (.int (k : Int)), .dat (lnD l), .dat (.int pick), z6, z7, z8, z9] ∧ I3 ys ∧ LQ (bp (k + 1)) (br (k + 1)) l) ?_ ?_
      · have skip : ∃ (ys : List Int) (l' : Rg.Ln) (y6 y7 y8 y9 : Sl), [Sl.own a (ts.map PyData.int), .dat (.int 3), .own o (L.map fun l => lnD l), .dat (.int (k : Int)), .dat (lnD l), .dat (.int pick), z6, z7, z8, z9] = [.own a (ys.map PyData.int), .dat (.int 3), .own o (L.map fun l => lnD l), .dat (.int (k : Int)), .dat (lnD l'), .dat (.int pick), y6, y7, y8, y9] ∧ I3 ys ∧ LQ (bp (k + 1)) (br (k + 1)) l' :=
          ⟨ts, l, z6, z7, z8, z9, rfl, ht, ql.mono (bp_low _) (br_low _)⟩
        refine ws_if (wt_and ?_)
        walk_at "ev"
        refine ⟨fun h1 => ?_, fun h1 => ⟨(fun h => by cases h), fun _ => ws_next skip⟩⟩
        have hk0 : 0 < k := by have := of_decide_eq_true h1; omega
        walk_at "ev"
        refine ⟨fun h2 => ?_, fun h2 => ws_next skip⟩
        have hp2 : pick < 2 := of_decide_eq_true h2
        refine ws_seq (ws_asg (we_ixO (i := 2) (o := o) rfl (we_nextP (i := 0) (xs := ts) rfl ht ?_)))
        walk_at "ev"
        refine ⟨rfl, by omega, by omega, fun as j ha j1 j2 => ?_⟩
        obtain ⟨ah, hm, hat⟩ := at_lnI (L := L) (n := j) j1 (by omega)
        refine ⟨j, _, _, rfl, rfl, hat, ?_⟩
        have qa := hL ah hm
        refine ws_cut (fun ρ => ∃ (ys : List Int) (y : Rat), ρ = [.own a (ys.map PyData.int), .dat (.int 3), .own o (L.map fun l => lnD l), .dat (.int (k : Int)), .dat (lnD l), .dat (.int pick), .dat (lnD ah), .dat (rt y), z8, z9] ∧ I3 ys ∧ Sz 3 y) ?_ ?_
        · refine ws_asg (we_op (we_lst ?_))
          refine wa_cons ?_
          walk_at "ev"
          refine we_nextP (i := 0) (xs := as) rfl ha ?_
          walk_at "ev"
          refine ⟨rfl, by decide, by decide, fun bs t hb t1 t2 => ?_⟩
          walk_at "ev"
          refine we_nextP (i := 0) (xs := bs) rfl hb ?_
          walk_at "ev"
          refine ⟨rfl, by decide, by decide, fun cs b hc b1 b2 => ?_⟩
          walk_at "ev"
          have s3 : Sz 3 (Rat.divInt (t - 4) (1 + b)) := Sz.of_div (by omega) (by omega) (by omega)
          refine ⟨(small_low (by omega) (by omega)).1, (small_low (by omega) (by omega)).2, ?_⟩
          walk_at "ev"
          obtain ⟨u, hu2, hat2⟩ := at_rt2 (x := 1) (y := Rat.divInt (t - 4) (1 + b)) p1 hp2
          refine rd_ixL hat2 ?_
          refine ⟨cs, u, rfl, hc, ?_⟩
          rcases hu2 with e | e
          · rw [e]; exact sz1.mono (by decide)
          · rw [e]; exact s3
        · rintro ρ1 ⟨bs, y, rfl, hb, sy⟩
          refine ws_cut (fun ρ => ∃ (y : Rat), ρ = [.own a (bs.map PyData.int), .dat (.int 3), .own o (L.map fun l => lnD l), .dat (.int (k : Int)), .dat (lnD l), .dat (.int pick), .dat (lnD ah), .dat (rt y), z8, z9] ∧ Sz 3 y ∧ y ≠ 0) ?_ ?_
          · walk_at "ev"
            refine ⟨fun h => ?_, fun h => ?_⟩
            · walk_at "ev"
              exact ⟨1, rfl, sz1.mono (by decide), by decide⟩
            · walk_at "ev"
              intro z
              rw [z] at h
              cases h
          · rintro ρ1 ⟨y, rfl, sy, y0⟩
            have sp : Sz 100 ah.p := qa.p.mono (bp_up (by omega))
            have sq : Sz 100 ah.q := qa.q.mono (bp_up (by omega))
            refine ws_asg (we_tup ?_)
            walk_at "ev"
            refine we_nextP (i := 0) (xs := bs) rfl hb ?_
            walk_at "ev"
            refine ⟨rfl, by decide, by decide, fun cs c hc c1 c2 => ?_⟩
            obtain ⟨u, hu2, hat2⟩ := at_rt2 (x := ah.r) (y := l.r) c1 c2
            refine rd_ixL hat2 ?_
            walk_at "ev"
            have hur : Sz (br (k + 1)) u ∧ 0 < u := by
              rcases hu2 with e | e
              · rw [e]; exact ⟨qa.r.mono (br_mono k), qa.pos⟩
              · rw [e]; exact ⟨ql.r.mono (br_low _), ql.pos⟩
            refine ⟨cs, ⟨y * ah.p, y * ah.q, u⟩, _, _, _, _, rfl, hc, (sy.mul qa.p).mono (bp_by hk0 hk2), (sy.mul qa.q).mono (bp_by hk0 hk2), hur.1, ?_, hur.2⟩
            rcases qa.ne with e | e
            · exact .inl fun z => (Rat.mul_eq_zero.mp z).elim y0 e
            · exact .inr fun z => (Rat.mul_eq_zero.mp z).elim y0 e
      · rintro ρ1 ⟨as, m, y6, y7, y8, y9, rfl, ha, qm⟩
        refine ws_cut (fun ρ => ∃ (l : Rg.Ln) (z6 z7 z8 z9 : Sl), ρ = [.own a (as.map PyData.int), .dat (.int 3), .own o (L.map fun l => lnD l), .dat (.int (k : Int)), .dat (lnD l), .dat (.int pick), z6, z7, z8, z9] ∧ LQ (bp (k + 1)) (br (k + 1)) l) ?_ ?_
        · refine ws_if (wt_and ?_)
          walk_at "ev"
          refine ⟨fun h1 => ?_, fun h1 => ⟨(fun h => by cases h), fun _ => ws_next ⟨m, y6, y7, y8, y9, rfl, qm⟩⟩⟩
          have hk1 : 1 < k := by have := of_decide_eq_true h1; omega
          have hk3 : k = 2 := by omega
          subst hk3
          walk_at "ev"
          refine ⟨fun h2 => ?_, fun h2 => ws_next ⟨m, y6, y7, y8, y9, rfl, qm⟩⟩
          obtain ⟨m1, hm1, hat1⟩ := at_lnI (L := L) (n := ((2 : Nat) : Int) - 1) (by decide) (by omega)
          obtain ⟨m2, hm2, hat2⟩ := at_lnI (L := L) (n := ((2 : Nat) : Int) - 2) (by decide) (by omega)
          have q1 : LQ 45 4 m1 := hL m1 hm1
          have q2 : LQ 45 4 m2 := hL m2 hm2
          have a1 := q1.p
          have a2 := q1.q
          have a3 := q1.r
          have b1 := q2.p
          have b2 := q2.q
          have b3 := q2.r
          have sum : (m1.p + m2.p ≠ 0 ∨ m1.q + m2.q ≠ 0) → LQ (bp (2 + 1)) (br (2 + 1)) ⟨m1.p + m2.p, m1.q + m2.q, m1.r + m2.r⟩ := fun ne => ⟨(a1.add b1).mono (by decide), (a2.add b2).mono (by decide), (a3.add b3).mono (by decide), ne, add_pos2 q1.pos q2.pos⟩
          refine ws_seq (ws_par (wa_cons (we_ixO (i := 2) (o := o) rfl ?_)))
          walk_at "ev"
          refine ⟨_, _, _, rfl, rfl, hat1, ?_⟩
          refine wa_cons (we_ixO (i := 2) (o := o) rfl ?_)
          walk_at "ev"
          refine ⟨_, _, _, rfl, rfl, hat2, ?_⟩
          walk_at "ev"
          refine ⟨fun h3 => ?_, fun h3 => ?_⟩
          · walk_at "ev"
            refine ⟨fun h4 => ?_, fun h4 => ?_⟩
            · walk_at "ev"
              exact ⟨m1, _, _, _, _, rfl, q1.mono (by decide) (by decide)⟩
            · walk_at "ev"
              refine ⟨⟨m1.p + m2.p, m1.q + m2.q, m1.r + m2.r⟩, _, _, _, _, rfl, sum (.inr fun z => ?_)⟩
              rw [z] at h4
              cases h4
          · walk_at "ev"
            refine ⟨⟨m1.p + m2.p, m1.q + m2.q, m1.r + m2.r⟩, _, _, _, _, rfl, sum (.inl fun z => ?_)⟩
            rw [z] at h3
            cases h3
        · rintro ρ1 ⟨l2, y6, y7, y8, y9, rfl, q2⟩
          refine ws_append (i := 2) (o := o) rfl ?_
          walk_at "ev"
          refine ⟨by rw [List.length_map]; omega, as, L ++ [l2], _, _, _, _, _, _, _, by rw [List.map_append]; rfl, ha, by rw [List.length_append, hl]; rfl, fun z hz => ?_⟩
          rcases List.mem_append.mp hz with hz | hz
          · exact (hL z hz).mono (bp_mono k) (br_mono k)
          · rw [List.mem_singleton.mp hz]; exact q2
    · rintro ρ2 ⟨us, L, z3, z4, z5, z6, z7, z8, z9, rfl, hu, hl, hL⟩
      exact ⟨us, L, _, _, _, _, _, _, _, rfl, hu, by omega, fun l h => ((hL l h).mono (bp_up (by omega)) (br_up _)).ok⟩
  · rintro ρ1 ⟨ys, L, z3, z4, z5, z6, z7, z8, z9, rfl, hy, hl, hL⟩
    refine ws_freeze (i := 2) rfl ?_
    walk_at "ev"
    exact q _ _ hy ⟨L, rfl, hl, hL⟩
end
end Wk


set_option Elab.async false
set_option linter.all false
set_option maxRecDepth 100000
set_option maxHeartbeats 8000000
namespace Wk
open PySem PySem.Spec PyProof.Rows L2 Lg
set_option exponentiation.threshold 20000
local macro_rules | `(tactic| walk_at "ev") => `(tactic| repeat (first
  | (with_reducible apply wa_nil)
  | (with_reducible apply wa_cons)
  | ((with_reducible apply we_cn); assumption)
  | (with_reducible apply we_int)
  | (with_reducible apply we_str)
  | (with_reducible apply we_bl)
  | (with_reducible apply we_non)
  | ((with_reducible apply we_var); exact rfl)
  | (with_reducible apply we_head2)
  | (with_reducible apply we_tup)
  | (with_reducible apply we_lst)
  | (with_reducible apply we_notInA)
  | ((with_reducible apply we_ixC); exact rfl; exact rfl)
  | (with_reducible apply we_op)
  | (with_reducible apply we_un)
  | (with_reducible apply wc_1)
  | (with_reducible apply rd_i0)
  | (with_reducible apply rd_b0)
  | ((with_reducible apply rd_ixT); exact rfl)
  | (with_reducible apply rd_eqI)
  | (with_reducible apply rd_neI)
  | (with_reducible apply rd_eqS)
  | (with_reducible apply rd_neS)
  | (with_reducible apply rd_eqB)
  | (with_reducible apply rd_neB)
  | (with_reducible apply we_call)
  | ((with_reducible apply we_lenS); exact rfl)
  | ((with_reducible apply we_lenO); exact rfl)
  | (with_reducible apply we_cb)
  | (with_reducible apply cd_abs)
  | (with_reducible apply wt_test)
  | (with_reducible apply wt_b)
  | (with_reducible apply wt_not)
  | (with_reducible apply wt_and)
  | (with_reducible apply wt_or)
  | (with_reducible apply wt_yes)
  | (with_reducible apply ws_next)
  | (with_reducible apply ws_ret)
  | (with_reducible apply ws_asg)
  | (with_reducible apply ws_if)
  | (with_reducible apply ws_par)
  | (with_reducible apply ws_setO)
  | (with_reducible apply ws_asgG)
  | (with_reducible apply wg_name)
  | ((with_reducible apply wg_tup); exact rfl)
  | (with_reducible apply wgs_nil)
  | (with_reducible apply wgs_cons)
  | (with_reducible apply ws_seq)
  | (refine ⟨(show List.length _ ≤ 1000000 from Nat.le_of_ble_eq_true rfl), ?_⟩)
  | (refine ⟨fun _ => ?_, fun h => absurd h (by decide)⟩)
  | (refine ⟨fun h => absurd h (by decide), fun _ => ?_⟩)
  | (refine ⟨(show Sz _ _ by walk_at "sz"), ?_⟩)
  | (refine ⟨_, rfl, ?_⟩)
  | (refine ⟨_, _, rfl, ?_⟩)
  | (refine ⟨_, _, _, rfl, ?_⟩)
  | (refine ⟨_, _, _, _, rfl, ?_⟩)))
local macro_rules | `(tactic| walk_at "sz0") => `(tactic| first
  | assumption
  | exact sz0
  | exact sz1
  | exact Sz.add (by walk_at "sz0") (by walk_at "sz0")
  | exact Sz.sub (by walk_at "sz0") (by walk_at "sz0")
  | exact Sz.mul (by walk_at "sz0") (by walk_at "sz0")
  | exact Sz.neg (by walk_at "sz0")
  | exact Sz.ab (by walk_at "sz0")
  | exact Sz.div (by walk_at "sz0") (by walk_at "sz0") (by assumption))
local macro_rules | `(tactic| walk_at "sz") => `(tactic| first
  | assumption
  | exact Sz.mono (by walk_at "sz0") (by decide))

section
variable {P : Program} {w : World} {K : PySem.W.Frag} {mg : Str → Option Value} {base : Heap}
abbrev N_law_asked : List Str := ["pool", "lines", "p", "q", "pick", "one", "by", "other"]
theorem sc_law_asked : FnScope N_law_asked ["pool", "lines"] (defScope (topS 71)) := ⟨rfl, rfl, rfl, by decide +kernel, rfl, by decide +kernel, by decide +kernel⟩
theorem ok_law_asked (T : Tx K mg) : Ok P w K mg base "_law_asked" ["pool", "lines"] 4 (SpP K S_law_asked) := by
  refine okP T.d_law_asked sc_law_asked (fun xs ds k h => by obtain ⟨_, _, ⟨_, rfl, _⟩, _⟩ := h; rfl) fun cdv A outer s H E f hr => ⟨_, (pss_cons (ps_par (i := 2) (j := 3) (by rfl) sc_law_asked.nd rfl rfl (by decide) rfl rfl (pa_cons (pe_ok (ok_law_number T) hr (by decide) (by rfl) (pa_cons (pv 0) pa_nil)) (pa_cons (pe_ok (ok_law_number T) hr (by decide) (by rfl) (pa_cons (pv 0) pa_nil)) pa_nil)) (by rfl))
      (pss_cons (ps_set (i := 4) sc_law_asked.nd rfl (Or.inl rfl) (pe_ok (ok_law_next T) hr (by decide) (by rfl) (pa_cons (pv 0) (pa_cons pe_int pa_nil))))
      (pss_cons (ps_if (pt_cmpR op_eq (pv 4) pe_int (nomark _)) (pss_one (ps_ret (pe_tup (pa_cons (pe_tup (pa_cons pe_int (pa_cons pe_int pa_nil))) (pa_cons (pe_tup (pa_cons pe_int (pa_cons pe_int pa_nil))) pa_nil))))) pss_nil)
      (pss_cons (ps_if (PW.pt (pw_or (pt_cmpR (eqDK K (by rfl) hr.units) (pv 1) (pe_lst pa_nil) (nomark _)) (pw_or1 (pt_cmpR op_lt (pv 4) pe_int (nomark _))))) (pss_one (ps_ret (pe_tup (pa_cons (pv 2) (pa_cons (pv 3) pa_nil))))) pss_nil)
      (pss_cons (ps_set (i := 5) sc_law_asked.nd rfl (Or.inl rfl) (pe_ix (ixL K) (pv 1) (pe_ok (ok_law_next T) hr (by decide) (by rfl) (pa_cons (pv 0) (pa_cons (pe_callB (lenK K) (by rfl) T.n_len (by decide +kernel) (pa_cons (pv 1) pa_nil)) pa_nil))) (fun _ _ => rfl)))
      (pss_cons (ps_if (pt_cmpR op_lt (pv 4) pe_int (nomark _)) (pss_cons (ps_set (i := 6) sc_law_asked.nd rfl (Or.inl rfl) (pe_ok (ok_law_low T) hr (by decide) (by rfl) (pa_cons (pe_op op_add pe_int (pe_ok (ok_law_next T) hr (by decide) (by rfl) (pa_cons (pv 0) (pa_cons pe_int pa_nil)))) (pa_cons (pe_ix (ixL K) (pe_lst (pa_cons pe_int (pa_cons pe_int (pa_cons (pe_un un_neg pe_int) pa_nil)))) (pe_ok (ok_law_next T) hr (by decide) (by rfl) (pa_cons (pv 0) (pa_cons pe_int pa_nil))) (fun _ _ => rfl)) pa_nil))))
      (pss_one (ps_ret (pe_tup (pa_cons (pe_ok (ok_law_taken T) hr (by decide) (by rfl) (pa_cons (pv 6) (pa_cons (pe_ix (ixT K) (pv 5) pe_int (fun _ _ => rfl)) pa_nil))) (pa_cons (pe_ok (ok_law_taken T) hr (by decide) (by rfl) (pa_cons (pv 6) (pa_cons (pe_ix (ixT K) (pv 5) pe_int (fun _ _ => rfl)) pa_nil))) pa_nil)))))) pss_nil)
      (pss_cons (ps_set (i := 7) sc_law_asked.nd rfl (Or.inl rfl) (pe_ix (ixL K) (pv 1) (pe_ok (ok_law_next T) hr (by decide) (by rfl) (pa_cons (pv 0) (pa_cons (pe_callB (lenK K) (by rfl) T.n_len (by decide +kernel) (pa_cons (pv 1) pa_nil)) pa_nil))) (fun _ _ => rfl)))
      (pss_one (ps_ret (pe_tup (pa_cons (pe_ok (ok_law_sum T) hr (by decide) (by rfl) (pa_cons (pe_ix (ixT K) (pv 5) pe_int (fun _ _ => rfl)) (pa_cons (pe_ix (ixT K) (pv 7) pe_int (fun _ _ => rfl)) pa_nil))) (pa_cons (pe_ok (ok_law_sum T) hr (by decide) (by rfl) (pa_cons (pe_ix (ixT K) (pv 5) pe_int (fun _ _ => rfl)) (pa_cons (pe_ix (ixT K) (pv 7) pe_int (fun _ _ => rfl)) pa_nil))) pa_nil)))))))))))), ?_⟩
  rintro a xs ds kq ⟨hx, R, ⟨L, rfl, hl, hL, rfl⟩, q⟩
  show WS K _ [.own a (xs.map PyData.int), .dat (lsD L), .no, .no, .no, .no, .no, .no] _ _
  refine ws_seq (ws_par (wa_cons (we_numP (i := 0) (xs := xs) rfl hx fun ys x hy s1 => ?_)))
  refine wa_cons (we_numP (i := 0) (xs := ys) rfl hy fun zs u hz s2 => ?_)
  walk_at "ev"
  refine we_nextP (i := 0) (xs := zs) rfl hz ?_
  walk_at "ev"
  refine ⟨rfl, by decide, by decide, fun us pick hu p1 p2 => ?_⟩
  walk_at "ev"
  refine ⟨fun _ => ?_, fun _ => ?_⟩
  · walk_at "ev"
    exact q _ _ hu ⟨0, 0, rfl, sz0.mono (by decide), sz0.mono (by decide)⟩
  · have two : ∀ ρ (N : List Sl → Prop), ρ[0]? = some (Sl.own a (us.map PyData.int)) → ρ[2]? = some (.dat (rt x)) → ρ[3]? = some (.dat (rt u)) → WS K (tRet (tTup (tCons (tVar 2) (tCons (tVar 3) tNil)))) ρ N (fun d ρ' => ∃ ys : List Int, ρ'[0]? = some (Sl.own a (ys.map PyData.int)) ∧ kq ys d) := fun ρ N h0 h2 h3 => by
      refine ws_ret (we_tup (wa_cons (we_var h2 (wa_cons (we_var h3 (wa_nil ⟨by show 2 ≤ 1000000; decide, us, h0, ?_⟩))))))
      exact q _ _ hu ⟨x, u, rfl, s1.mono (by decide), s2.mono (by decide)⟩
    walk_at "ev"
    refine rd_eqD (shaped_ls L) rfl ?_
    walk_at "ev"
    refine ⟨fun hb => ?_, fun _ => ⟨fun _ => two _ _ rfl rfl rfl, fun h => by cases h⟩⟩
    walk_at "ev"
    refine ⟨fun _ => two _ _ rfl rfl rfl, fun _ => ?_⟩
    have L0 : 0 < L.length := by
      cases L with
      | nil => exact absurd hb (by show ¬ (PyData.eqv (.list []) (.list []) = false); decide)
      | cons l L => show 0 < L.length + 1; omega
    walk_at "ev"
    refine we_nextP (i := 0) (xs := us) rfl hu ?_
    walk_at "ev"
    refine cd_len ?_
    walk_at "ev"
    rw [List.length_map]
    refine ⟨rfl, by omega, by omega, fun vs j hv j1 j2 => ?_⟩
    obtain ⟨one, hm, hat⟩ := at_lnI (L := L) j1 j2
    refine rd_ixL hat ?_
    have o1 := (hL one hm).sp
    have o2 := (hL one hm).sq
    walk_at "ev"
    refine ⟨fun _ => ?_, fun _ => ?_⟩
    · walk_at "ev"
      refine we_nextP (i := 0) (xs := vs) rfl hv ?_
      walk_at "ev"
      refine ⟨rfl, by decide, by decide, fun ts t ht t1 t2 => ?_⟩
      walk_at "ev"
      refine we_nextP (i := 0) (xs := ts) rfl ht ?_
      walk_at "ev"
      refine ⟨rfl, by decide, by decide, fun bs c hb2 c1 c2 => ?_⟩
      obtain ⟨b, hb3, b1⟩ := at_ints [1, 2, -1] c1 c2 (P := fun m => m = 1 ∨ m = 2 ∨ m = -1) (by decide)
      refine rd_ixL hb3 ?_
      walk_at "ev"
      have s3 : Sz 3 (Rat.divInt (1 + t) b) := Sz.of_div (by omega) (by omega) (by omega)
      refine ⟨(small_low (by omega) (by omega)).1, (small_low (by omega) (by omega)).2, ?_⟩
      walk_at "ev"
      exact q _ _ hb2 ⟨_, _, rfl, (s3.mul o1).mono (by decide), (s3.mul o2).mono (by decide)⟩
    · walk_at "ev"
      refine we_nextP (i := 0) (xs := vs) rfl hv ?_
      walk_at "ev"
      refine cd_len ?_
      walk_at "ev"
      rw [List.length_map]
      refine ⟨rfl, by omega, by omega, fun ts t ht t1 t2 => ?_⟩
      obtain ⟨two, hm2, hat2⟩ := at_lnI (L := L) t1 t2
      refine rd_ixL hat2 ?_
      have o3 := (hL two hm2).sp
      have o4 := (hL two hm2).sq
      walk_at "ev"
      exact q _ _ ht ⟨_, _, rfl, (o1.add o3).mono (by decide), (o2.add o4).mono (by decide)⟩
abbrev N_law_cells : List Str := ["script", "bound", "found", "k"]
theorem sc_law_cells : FnScope N_law_cells ["script", "bound"] (defScope (topS 56)) := ⟨rfl, rfl, rfl, by decide +kernel, rfl, by decide +kernel, by decide +kernel⟩
theorem ok_law_cells (T : Tx K mg) : Ok P w K mg base "_law_cells" ["script", "bound"] 1 (SpC K S_law_cells) := by
  refine okC T.d_law_cells rfl sc_law_cells fun cdv A outer s H E f hr => ⟨_, (pss_cons (ps_set (i := 2) sc_law_cells.nd rfl (Or.inl rfl) (pe_slice (slL K) (pe_op op_cat (pe_callTy (listK K) (by rfl) T.n_list (by decide +kernel) (pa_cons (pe_slice (slL K) (pv 0) po_none (po_some (pv 1))) pa_nil)) (pe_lst (pa_cons pe_int pa_nil))) po_none (po_some (pe_callB (call_max2 rfl) (by rfl) T.n_max (by decide +kernel) (pa_cons pe_int (pa_cons (pe_callB (call_min2 rfl) (by rfl) T.n_min (by decide +kernel) (pa_cons (pv 1) (pa_cons (pe_callB (lenK K) (by rfl) T.n_len (by decide +kernel) (pa_cons (pv 0) pa_nil)) pa_nil))) pa_nil))))))
      (pss_cons (ps_for PassesOwn.never rfl (pi_range2 (by rfl) T.n_range (pa_cons (pv 1) (pa_cons (pe_callB (lenK K) (by rfl) T.n_len (by decide +kernel) (pa_cons (pv 0) pa_nil)) pa_nil))) (pg_name (i := 3) sc_law_cells.nd rfl (Or.inl rfl)) (pss_one (ps_asg (pe_op op_add (pe_op op_mul (pe_ix (ixL K) (pv 2) (pe_op op_mod (pv 3) (pv 1)) (fun _ _ => rfl)) pe_int) (pe_ix (ixL K) (pv 0) (pv 3) (fun _ _ => rfl))) (pg_sub (pv 2) (pe_op op_mod (pv 3) (pv 1)) set_list))))
      (pss_one (ps_ret (pv 2))))), ?_⟩
  rintro a ns n kq ⟨rfl, hl, q⟩
  show WS K _ [.scr a ns, .dat (.int 3), .no, .no] _ _
  refine ws_cut (fun ρ => ∃ (o : Addr) (ms : List Int), ρ = [.scr a ns, .dat (.int 3), .own o (ms.map PyData.int), .no] ∧ ms.length ≤ 3 ∧ (3 < ns.length → ms.length = 3)) ?_ ?_
  · refine ws_asgO (wl_head (WL.we (wl_cat (wl_list (WL.we (wl_slS rfl (wo_none (wo_some ?_))))))))
    walk_at "ev"
    rw [show Lg.cutD ns none (some 3) = ns.take 3 from cutD_head ns 3]
    refine wl_lst ?_
    walk_at "ev"
    refine ⟨by rw [List.length_map, List.length_take]; show min 3 ns.length + 1 ≤ 1000000; omega, ?_⟩
    walk_at "ev"
    refine cd_min ?_
    walk_at "ev"
    refine cd_max ?_
    refine ⟨_, max 1 (min 3 ns.length), rfl, congrArg PyData.int (by split <;> split <;> omega), fun o => ⟨o, ((ns.take 3) ++ [0]).take (max 1 (min 3 ns.length)), by simp only [List.map_take, List.map_append]; rfl, ?_, ?_⟩⟩
    · rw [List.length_take]; omega
    · intro h
      rw [List.length_take, List.length_append, List.length_take]
      show min (max 1 (min 3 ns.length)) (min 3 ns.length + 1) = 3
      omega
  · rintro ρ1 ⟨o, ms, rfl, hm, hm3⟩
    refine ws_cut (fun ρ => ∃ (ms : List Int) (z : Sl), ρ = [.scr a ns, .dat (.int 3), .own o (ms.map PyData.int), z] ∧ ms.length ≤ 3) ?_ ?_
    · refine ws_range2 ?_
      walk_at "ev"
      refine ⟨3, ns.length, fun i ρ => ∃ (ms : List Int) (z : Sl), ρ = [.scr a ns, .dat (.int 3), .own o (ms.map PyData.int), z] ∧ ms.length ≤ 3 ∧ (3 < ns.length → ms.length = 3), rfl, ⟨by decide, by decide, by omega, by omega⟩, ⟨ms, .no, rfl, hm, hm3⟩, ?_, ?_⟩
      · rintro i ρ2 hi ⟨us, z, rfl, hu, hu3⟩
        have u3 := hu3 (by omega)
        have k0 : 0 ≤ (3 + (i : Int)) % 3 := Int.emod_nonneg _ (by decide)
        have k1 : (3 + (i : Int)) % 3 < 3 := Int.emod_lt_of_pos _ (by decide)
        obtain ⟨m, hat, _⟩ := at_ints us (n := (3 + (i : Int)) % 3) k0 (by omega) (P := fun _ => True) (fun _ _ => trivial)
        obtain ⟨d, hd⟩ : ∃ d, atI ns (3 + (i : Int)) = some d := by
          have hj : 3 + i < ns.length := by omega
          refine ⟨ns[3 + i], ?_⟩
          have := atI_nat (xs := ns) (j := 3 + i) (v := ns[3 + i]) (List.getElem?_eq_getElem hj)
          rw [Int.natCast_add] at this
          exact this
        obtain ⟨j, hj⟩ : ∃ j, ixN (us.map PyData.int).length ((3 + (i : Int)) % 3) = some j := by
          refine ⟨((3 + (i : Int)) % 3).toNat, ?_⟩
          unfold ixN
          rw [if_pos k0, if_pos (by rw [List.length_map]; omega)]
        refine wg_name (ws_setO (we_op (we_op (we_ixO (i := 2) (o := o) rfl (we_op ?_)))))
        walk_at "ev"
        refine rd_i (by decide) ?_
        refine ⟨_, _, _, rfl, rfl, hat, ?_⟩
        walk_at "ev"
        refine rd_i (C := CMul) (.inr ⟨by decide, by decide⟩) ?_
        refine we_ixS (i := 0) rfl ?_
        walk_at "ev"
        refine ⟨_, _, rfl, hd, ?_⟩
        walk_at "ev"
        refine rd_i (by decide) ?_
        refine ⟨_, j, _, rfl, rfl, hj, us.set j (m * 31 + d), _, by rw [List.map_set]; rfl, ?_, ?_⟩
        · rw [List.length_set]; exact hu
        · rw [List.length_set]; exact hu3
      · rintro ρ2 ⟨us, z, rfl, hu, _⟩
        exact ⟨us, z, rfl, hu⟩
    · rintro ρ2 ⟨us, z, rfl, hu⟩
      refine ws_freeze (i := 2) rfl ?_
      walk_at "ev"
      exact q us hu
end
end Wk


set_option Elab.async false
set_option linter.all false
set_option maxRecDepth 100000
set_option maxHeartbeats 8000000
namespace Wk
open PySem PySem.Spec PyProof.Rows L2 Lg
set_option exponentiation.threshold 20000
local macro_rules | `(tactic| walk_at "ev") => `(tactic| repeat (first
  | (with_reducible apply wa_nil)
  | (with_reducible apply wa_cons)
  | ((with_reducible apply we_cn); assumption)
  | (with_reducible apply we_int)
  | (with_reducible apply we_str)
  | (with_reducible apply we_bl)
  | (with_reducible apply we_non)
  | ((with_reducible apply we_var); exact rfl)
  | (with_reducible apply we_head2)
  | (with_reducible apply we_tup)
  | (with_reducible apply we_lst)
  | (with_reducible apply we_notInA)
  | ((with_reducible apply we_ixC); exact rfl; exact rfl)
  | (with_reducible apply we_op)
  | (with_reducible apply we_un)
  | (with_reducible apply wc_1)
  | (with_reducible apply rd_i0)
  | (with_reducible apply rd_b0)
  | ((with_reducible apply rd_ixT); exact rfl)
  | (with_reducible apply rd_eqI)
  | (with_reducible apply rd_neI)
  | (with_reducible apply rd_eqS)
  | (with_reducible apply rd_neS)
  | (with_reducible apply rd_eqB)
  | (with_reducible apply rd_neB)
  | (with_reducible apply we_call)
  | ((with_reducible apply we_lenS); exact rfl)
  | ((with_reducible apply we_lenO); exact rfl)
  | (with_reducible apply we_cb)
  | (with_reducible apply cd_abs)
  | (with_reducible apply wt_test)
  | (with_reducible apply wt_b)
  | (with_reducible apply wt_not)
  | (with_reducible apply wt_and)
  | (with_reducible apply wt_or)
  | (with_reducible apply wt_yes)
  | (with_reducible apply ws_next)
  | (with_reducible apply ws_ret)
  | (with_reducible apply ws_asg)
  | (with_reducible apply ws_if)
  | (with_reducible apply ws_par)
  | (with_reducible apply ws_setO)
  | (with_reducible apply ws_asgG)
  | (with_reducible apply wg_name)
  | ((with_reducible apply wg_tup); exact rfl)
  | (with_reducible apply wgs_nil)
  | (with_reducible apply wgs_cons)
  | (with_reducible apply ws_seq)
  | (refine ⟨(show List.length _ ≤ 1000000 from Nat.le_of_ble_eq_true rfl), ?_⟩)
  | (refine ⟨fun _ => ?_, fun h => absurd h (by decide)⟩)
  | (refine ⟨fun h => absurd h (by decide), fun _ => ?_⟩)
  | (refine ⟨(show Sz _ _ by walk_at "sz"), ?_⟩)
  | (refine ⟨_, rfl, ?_⟩)
  | (refine ⟨_, _, rfl, ?_⟩)
  | (refine ⟨_, _, _, rfl, ?_⟩)
  | (refine ⟨_, _, _, _, rfl, ?_⟩)))
local macro_rules | `(tactic| walk_at "sz0") => `(tactic| first
  | assumption
  | exact sz0
  | exact sz1
  | exact Sz.add (by walk_at "sz0") (by walk_at "sz0")
  | exact Sz.sub (by walk_at "sz0") (by walk_at "sz0")
  | exact Sz.mul (by walk_at "sz0") (by walk_at "sz0")
  | exact Sz.neg (by walk_at "sz0")
  | exact Sz.ab (by walk_at "sz0")
  | exact Sz.div (by walk_at "sz0") (by walk_at "sz0") (by assumption))
local macro_rules | `(tactic| walk_at "sz") => `(tactic| first
  | assumption
  | exact Sz.mono (by walk_at "sz0") (by decide))

theorem num_neg' (x : Rat) : decide (x.num < 0) = decide (x < 0) := decide_eq_decide.mpr (by
  rw [Rat.lt_iff]
  show _ ↔ x.num * 1 < 0 * (x.den : Int)
  omega)
theorem rd_inB {K : PySem.W.Frag} {b : Bool} {bs : List Bool} {P : PyData → Prop} (q : P (.bool (bs.any fun c => c == b))) : RD K (rIn K false) (.bool b) (.list (bs.map PyData.bool)) P := fun H0 H x y e hx hy k g => by
  obtain ⟨a, vs, rfl, h1, h2⟩ := hy.list_inv
  rw [hx.bool_inv]
  rw [RvAll.bls bs h2] at h1
  have fl : (bs.map V.bl).all flatV = true := by
    rw [List.all_map]
    exact List.all_eq_true.mpr fun _ _ => rfl
  have iv : inV (.bl b) (bs.map V.bl) = bs.any fun c => c == b := by
    unfold inV
    rw [List.any_map]
    rfl
  refine ⟨a, _, rfl, .inl (SqL.of (e _ _ h1)), rfl, fl, ?_⟩
  rw [if_neg (by decide), iv]
  exact g _ _ (.bl _) q
def S_law_inside : Fs where
  run := fun ds k => ∃ (V : List Rg.Ray) (x : Rg.Ray), ds = [rsD V, ryD x] ∧ (∀ v, v ∈ V → ROk v) ∧ V.length ≤ 1000 ∧ Sz 100 x.1 ∧ Sz 100 x.2 ∧
    ∀ b : Bool, (b = true ↔ ∀ (i : Nat) a c, V[i]? = some a → V[(i + 1) % V.length]? = some c → 0 ≤ Rg.side a c x) → k (.bool b)
  mono := fun ds k k' h ⟨V, x, e, s0, s1, s2, s3, q⟩ => ⟨V, x, e, s0, s1, s2, s3, fun b hb => h _ (q b hb)⟩
section
variable {P : Program} {w : World} {K : PySem.W.Frag} {mg : Str → Option Value} {base : Heap}
abbrev N_law_inside : List Str := ["rays", "ray", "k", "one", "other", "along", "to"]
theorem sc_law_inside : FnScope N_law_inside ["rays", "ray"] (defScope (topS 74)) := ⟨rfl, rfl, rfl, by decide +kernel, rfl, by decide +kernel, by decide +kernel⟩
theorem ok_law_inside (T : Tx K mg) : Ok P w K mg base "_law_inside" ["rays", "ray"] 5 (SpF K S_law_inside) := by
  refine okF T.d_law_inside sc_law_inside (fun ds k h => by obtain ⟨_, _, rfl, _⟩ := h; rfl) fun cdv A outer s H E f hr => ⟨_, (pss_cons (ps_for PassesOwn.never rfl (pi_range1 (by rfl) T.n_range (pa_cons (pe_callB (lenK K) (by rfl) T.n_len (by decide +kernel) (pa_cons (pv 0) pa_nil)) pa_nil)) (pg_name (i := 2) sc_law_inside.nd rfl (Or.inl rfl)) (pss_cons (ps_par (i := 3) (j := 4) (by rfl) sc_law_inside.nd rfl rfl (by decide) rfl rfl (pa_cons (pe_ix (ixL K) (pv 0) (pv 2) (fun _ _ => rfl)) (pa_cons (pe_ix (ixL K) (pv 0) (pe_op op_mod (pe_op op_add (pv 2) pe_int) (pe_callB (lenK K) (by rfl) T.n_len (by decide +kernel) (pa_cons (pv 0) pa_nil))) (fun _ _ => rfl)) pa_nil)) (by rfl))
      (pss_cons (ps_set (i := 5) sc_law_inside.nd rfl (Or.inl rfl) (pe_tup (pa_cons (pe_ok (ok_law_less T) hr (by decide) (by rfl) (pa_cons (pe_ix (ixT K) (pv 4) pe_int (fun _ _ => rfl)) (pa_cons (pe_ix (ixT K) (pv 3) pe_int (fun _ _ => rfl)) pa_nil))) (pa_cons (pe_ok (ok_law_less T) hr (by decide) (by rfl) (pa_cons (pe_ix (ixT K) (pv 4) pe_int (fun _ _ => rfl)) (pa_cons (pe_ix (ixT K) (pv 3) pe_int (fun _ _ => rfl)) pa_nil))) pa_nil))))
      (pss_cons (ps_set (i := 6) sc_law_inside.nd rfl (Or.inl rfl) (pe_tup (pa_cons (pe_ok (ok_law_less T) hr (by decide) (by rfl) (pa_cons (pe_ix (ixT K) (pv 1) pe_int (fun _ _ => rfl)) (pa_cons (pe_ix (ixT K) (pv 3) pe_int (fun _ _ => rfl)) pa_nil))) (pa_cons (pe_ok (ok_law_less T) hr (by decide) (by rfl) (pa_cons (pe_ix (ixT K) (pv 1) pe_int (fun _ _ => rfl)) (pa_cons (pe_ix (ixT K) (pv 3) pe_int (fun _ _ => rfl)) pa_nil))) pa_nil))))
      (pss_one (ps_if (pt_cmpR op_lt (pe_ix (ixT K) (pe_ok (ok_law_cross T) hr (by decide) (by rfl) (pa_cons (pv 5) (pa_cons (pv 6) pa_nil))) pe_int (fun _ _ => rfl)) pe_int (nomark _)) (pss_one (ps_ret pe_bl)) pss_nil))))))
      (pss_one (ps_ret pe_bl))), ?_⟩
  rintro ds kq ⟨V, x, rfl, hV, hl, s1, s2, q⟩
  show WS K _ [.dat (rsD V), .dat (ryD x), .no, .no, .no, .no, .no] _ _
  refine ws_cut (fun ρ => ∀ (i : Nat) a c, V[i]? = some a → V[(i + 1) % V.length]? = some c → 0 ≤ Rg.side a c x) ?_ ?_
  · refine ws_range1 ?_
    walk_at "ev"
    refine cd_len ?_
    walk_at "ev"
    rw [List.length_map]
    refine ⟨V.length, fun i ρ => (∃ z2 z3 z4 z5 z6 : Sl, ρ = [.dat (rsD V), .dat (ryD x), z2, z3, z4, z5, z6]) ∧ ∀ (j : Nat) a c, j < i → V[j]? = some a → V[(j + 1) % V.length]? = some c → 0 ≤ Rg.side a c x, rfl, by omega, by omega, ⟨⟨_, _, _, _, _, rfl⟩, fun j a c h => by omega⟩, ?_, ?_⟩
    · rintro i ρ2 hi ⟨⟨z2, z3, z4, z5, z6, rfl⟩, hj⟩
      have hi2 : i < V.length := by omega
      have hv0 : V[i]? = some V[i] := List.getElem?_eq_getElem hi2
      have hi3 : (i + 1) % V.length < V.length := Nat.mod_lt _ (by omega)
      have hv1 : V[(i + 1) % V.length]? = some V[(i + 1) % V.length] := List.getElem?_eq_getElem hi3
      have r0 := hV _ (List.mem_of_getElem? hv0)
      have r1 := hV _ (List.mem_of_getElem? hv1)
      generalize V[i] = a at *
      generalize V[(i + 1) % V.length] = c at *
      obtain ⟨a1, a2⟩ := r0
      obtain ⟨c1, c2⟩ := r1
      refine wg_name (ws_seq (ws_par (wa_cons (we_op ?_))))
      walk_at "ev"
      refine rd_ixL (atI_nat (j := i) (by rw [List.getElem?_map, hv0]; rfl) : atI (V.map fun x => ryD x) (i : Int) = some (ryD a)) ?_
      walk_at "ev"
      refine cd_len ?_
      rw [List.length_map]
      refine rd_i (by omega) ?_
      refine rd_ixL (d := ryD c) ?_ ?_
      · have e : ((i : Int) + 1) % (V.length : Int) = (((i + 1) % V.length : Nat) : Int) := by
          rw [Int.natCast_emod, Int.natCast_add]
          rfl
        rw [e]
        exact atI_nat (by rw [List.getElem?_map, hv1]; rfl)
      walk_at "ev"
      refine ⟨(c.1 - a.1, c.2 - a.2), (x.1 - a.1, x.2 - a.2), _, rfl, .inl rfl, (c1.sub a1).mono (by decide), (c2.sub a2).mono (by decide), (s1.sub a1).mono (by decide), (s2.sub a2).mono (by decide), ?_⟩
      walk_at "ev"
      have e : Rg.cr (c.1 - a.1, c.2 - a.2) (x.1 - a.1, x.2 - a.2) = Rg.side a c x := rfl
      rw [e, num_neg']
      refine ⟨fun h => ?_, fun h => ?_⟩
      · walk_at "ev"
        refine q false ⟨(fun h => by cases h), fun z => ?_⟩
        exact absurd (z i a c hv0 hv1) (Rat.not_le.mpr (of_decide_eq_true h))
      · walk_at "ev"
        refine ⟨⟨_, _, _, _, _, rfl⟩, fun j a2 c2 hj2 e1 e2 => ?_⟩
        by_cases hji : j < i
        · exact hj j a2 c2 hji e1 e2
        · have : j = i := by omega
          subst this
          rw [hv0] at e1
          rw [hv1] at e2
          cases e1
          cases e2
          exact Rat.not_lt.mp (of_decide_eq_false h)
    · rintro ρ2 ⟨_, hj⟩
      intro i a c h1 h2
      exact hj i a c (by have := (List.getElem?_eq_some_iff.mp h1).1; omega) h1 h2
  · intro ρ1 h
    walk_at "ev"
    exact q true ⟨fun _ => h, fun _ => rfl⟩
end
end Wk


set_option Elab.async false
set_option linter.all false
set_option maxRecDepth 100000
set_option maxHeartbeats 8000000
namespace Wk
open PySem PySem.Spec PyProof.Rows L2 Lg
set_option exponentiation.threshold 20000
local macro_rules | `(tactic| walk_at "ev") => `(tactic| repeat (first
  | (with_reducible apply wa_nil)
  | (with_reducible apply wa_cons)
  | ((with_reducible apply we_cn); assumption)
  | (with_reducible apply we_int)
  | (with_reducible apply we_str)
  | (with_reducible apply we_bl)
  | (with_reducible apply we_non)
  | ((with_reducible apply we_var); exact rfl)
  | (with_reducible apply we_head2)
  | (with_reducible apply we_tup)
  | (with_reducible apply we_lst)
  | (with_reducible apply we_notInA)
  | ((with_reducible apply we_ixC); exact rfl; exact rfl)
  | (with_reducible apply we_op)
  | (with_reducible apply we_un)
  | (with_reducible apply wc_1)
  | (with_reducible apply rd_i0)
  | (with_reducible apply rd_b0)
  | ((with_reducible apply rd_ixT); exact rfl)
  | (with_reducible apply rd_eqI)
  | (with_reducible apply rd_neI)
  | (with_reducible apply rd_eqS)
  | (with_reducible apply rd_neS)
  | (with_reducible apply rd_eqB)
  | (with_reducible apply rd_neB)
  | (with_reducible apply we_call)
  | ((with_reducible apply we_lenS); exact rfl)
  | ((with_reducible apply we_lenO); exact rfl)
  | (with_reducible apply we_cb)
  | (with_reducible apply cd_abs)
  | (with_reducible apply wt_test)
  | (with_reducible apply wt_b)
  | (with_reducible apply wt_not)
  | (with_reducible apply wt_and)
  | (with_reducible apply wt_or)
  | (with_reducible apply wt_yes)
  | (with_reducible apply ws_next)
  | (with_reducible apply ws_ret)
  | (with_reducible apply ws_asg)
  | (with_reducible apply ws_if)
  | (with_reducible apply ws_par)
  | (with_reducible apply ws_setO)
  | (with_reducible apply ws_asgG)
  | (with_reducible apply wg_name)
  | ((with_reducible apply wg_tup); exact rfl)
  | (with_reducible apply wgs_nil)
  | (with_reducible apply wgs_cons)
  | (with_reducible apply ws_seq)
  | (refine ⟨(show List.length _ ≤ 1000000 from Nat.le_of_ble_eq_true rfl), ?_⟩)
  | (refine ⟨fun _ => ?_, fun h => absurd h (by decide)⟩)
  | (refine ⟨fun h => absurd h (by decide), fun _ => ?_⟩)
  | (refine ⟨(show Sz _ _ by walk_at "sz"), ?_⟩)
  | (refine ⟨_, rfl, ?_⟩)
  | (refine ⟨_, _, rfl, ?_⟩)
  | (refine ⟨_, _, _, rfl, ?_⟩)
  | (refine ⟨_, _, _, _, rfl, ?_⟩)))
local macro_rules | `(tactic| walk_at "sz0") => `(tactic| first
  | assumption
  | exact sz0
  | exact sz1
  | exact Sz.add (by walk_at "sz0") (by walk_at "sz0")
  | exact Sz.sub (by walk_at "sz0") (by walk_at "sz0")
  | exact Sz.mul (by walk_at "sz0") (by walk_at "sz0")
  | exact Sz.neg (by walk_at "sz0")
  | exact Sz.ab (by walk_at "sz0")
  | exact Sz.div (by walk_at "sz0") (by walk_at "sz0") (by assumption))
local macro_rules | `(tactic| walk_at "sz") => `(tactic| first
  | assumption
  | exact Sz.mono (by walk_at "sz0") (by decide))

theorem map_comp {α β γ : Type} (f : β → γ) (g : α → β) (L : List α) : L.map (fun a => f (g a)) = (L.map g).map f := by rw [List.map_map]; rfl
theorem most_sz {L : List Rg.Ln} (h : ∀ l, l ∈ L → LOk l) {p q : Rat} (hp : Sz 810 p) (hq : Sz 810 q) {v : Rat} {x : Rg.Ray} {s : List Rg.Share} (e : Rg.mostT L p q = .most v x s) : Sz 8300 v := by
  unfold Rg.mostT at e
  by_cases z : p = 0 ∧ q = 0
  · rw [if_pos z] at e
    cases e
    exact sz0.mono (by decide)
  · rw [if_neg z] at e
    by_cases a : Rg.allSh L p q = []
    · rw [if_pos a] at e
      cases e
    · rw [if_neg a] at e
      cases e
      exact worth_sz2 (allSh_ok h hp hq (Rg.leastSh_is (L := L) a).1)
theorem rok_corn {L : List Rg.Ln} (h : ∀ l, l ∈ L → LOk l) {V : List Rg.Ray} (e : Rg.corn L = some V) : ∀ v, v ∈ V → ROk v := fun v hv => rok_met h ((Rg.mem_met).mpr (((Rg.corn_some (okL h) e).mem v).mp hv))
theorem goOn_len {V : List Rg.Ray} : ∀ (n : Nat) (F : List Rg.Ray), (Rg.goOn V n F).length ≤ F.length + n
  | 0, F => by show F.length ≤ _; omega
  | n + 1, F => by
    unfold Rg.goOn
    have := goOn_len (V := V) n (F ++ [Rg.next V (F.getLastD (0, 0))])
    rw [List.length_append] at this
    have e : [Rg.next V (F.getLastD (0, 0))].length = 1 := rfl
    omega
theorem corn_len {L : List Rg.Ln} (h : L.length ≤ 9) {V : List Rg.Ray} (e : Rg.corn L = some V) : V.length ≤ 1000 := by
  unfold Rg.corn at e
  split at e
  · cases e
  · cases e
    have h1 := goOn_len (V := Rg.met L) ((Rg.met L).length - 1) [Rg.least (Rg.met L)]
    have h2 := len_met h
    have h3 : [Rg.least (Rg.met L)].length = 1 := rfl
    omega
def S_law_most_right : Fs where
  run := fun ds k => ∃ (L : List Rg.Ln) (p q : Rat), ds = [lsD L, cornD L, rt p, rt q] ∧ (∀ l, l ∈ L → LOk l) ∧ L.length ≤ 9 ∧ Sz 810 p ∧ Sz 810 q ∧ k (.bool true)
  mono := fun ds k k' h ⟨L, p, q, e, s0, s1, s2, s3, z⟩ => ⟨L, p, q, e, s0, s1, s2, s3, h _ z⟩
section
variable {P : Program} {w : World} {K : PySem.W.Frag} {mg : Str → Option Value} {base : Heap}
abbrev N_law_most_right : List Str := ["lines", "rays", "p", "q", "found", "line", "along", "ray", "worths", "worth"]
theorem sc_law_most_right : FnScope N_law_most_right ["lines", "rays", "p", "q"] (defScope (topS 75)) := ⟨rfl, rfl, rfl, by decide +kernel, rfl, by decide +kernel, by decide +kernel⟩
theorem ok_law_most_right (T : Tx K mg) : Ok P w K mg base "_law_most_right" ["lines", "rays", "p", "q"] 11 (SpF K S_law_most_right) := by
  refine okF T.d_law_most_right sc_law_most_right (fun ds k h => by obtain ⟨_, _, _, rfl, _⟩ := h; rfl) fun cdv A outer s H E f hr => ⟨_, (pss_cons (ps_set (i := 4) sc_law_most_right.nd rfl (Or.inr rfl) (pe_ok (ok_most T) hr (by decide) (by rfl) (pa_cons (pv 0) (pa_cons (pv 2) (pa_cons (pv 3) pa_nil)))))
      (pss_cons (ps_if (pt_cmpR op_isN (pv 1) pe_non (nomark _)) (pss_cons (ps_lcV (vs := [5]) rfl (ps_setLc (i := 6) (own := [("line", 5)]) (g := gName 5) (tt := tYes) rfl sc_law_most_right.nd rfl rfl (sw_true rfl rfl rfl (by decide +kernel)) (piL K (by rfl) (pv 0)) (blkOk_by (own := [("line", 5)]) (N := N_law_most_right) (sc := defScope (topS 75)) (by decide +kernel)) (fun _ _ _ _ _ => (pg_name (i := 5) sc_law_most_right.nd rfl (Or.inl rfl))) (fun _ _ _ _ _ => pts_nil) (fun _ _ _ _ _ => (pe_cmpR op_eq (pe_ix (ixT K) (pe_ok (ok_law_cross T) hr (by decide) (by rfl) (pa_cons (pv 5) (pa_cons (pe_tup (pa_cons (pv 2) (pa_cons (pv 3) pa_nil))) pa_nil))) pe_int (fun _ _ => rfl)) pe_int (nomark _)))))
      (pss_one (ps_ret (pe_cmpR op_eq (pe_cmpR op_eq (pe_ix (ixT K) (pv 4) pe_int (fun _ _ => rfl)) pe_str (nomark _)) (pe_or (pe_cmpR (inSK K) pe_bl (pv 6) (by rfl)) (pe_one (pe_and (pe_cmpR op_eq (pe_ix (ixT K) (pv 2) pe_int (fun _ _ => rfl)) pe_int (nomark _)) (pe_one (pe_cmpR op_eq (pe_ix (ixT K) (pv 3) pe_int (fun _ _ => rfl)) pe_int (nomark _)))))) (nomark _))))) pss_nil)
      (pss_cons (ps_lcV (vs := [7]) rfl (ps_setLc (i := 8) (own := [("ray", 7)]) (g := gName 7) (tt := tYes) rfl sc_law_most_right.nd rfl rfl (sw_true rfl rfl rfl (by decide +kernel)) (piL K (by rfl) (pv 1)) (blkOk_by (own := [("ray", 7)]) (N := N_law_most_right) (sc := defScope (topS 75)) (by decide +kernel)) (fun _ _ _ _ _ => (pg_name (i := 7) sc_law_most_right.nd rfl (Or.inl rfl))) (fun _ _ _ _ _ => pts_nil) (fun _ _ _ _ _ => (pe_ok (ok_law_worth T) hr (by decide) (by rfl) (pa_cons (pv 2) (pa_cons (pv 3) (pa_cons (pv 7) pa_nil)))))))
      (pss_cons (ps_if (PW.pt (pw_or (pt_cmpR op_ne (pe_ix (ixT K) (pv 4) pe_int (fun _ _ => rfl)) pe_str (nomark _)) (pw_or1 (pt_cmpR (notInDK K (by rfl) (u65 hr)) (pe_ix (ixT K) (pv 4) pe_int (fun _ _ => rfl)) (pv 8) (by rfl))))) (pss_one (ps_ret pe_bl)) pss_nil)
      (pss_one (ps_ret (pe_not (pe_callB (anyK K (by rfl) rfl) (by rfl) T.n_any (by decide +kernel) (pa_cons (pe_lcV (vs := [9]) rfl (pe_lc (own := [("worth", 9)]) (g := gName 9) (tt := tYes) rfl sc_law_most_right.nd (piL K (by rfl) (pv 8)) (blkOk_by (own := [("worth", 9)]) (N := N_law_most_right) (sc := defScope (topS 75)) (by decide +kernel)) (fun _ _ _ _ _ => (pg_name (i := 9) sc_law_most_right.nd rfl (Or.inl rfl))) (fun _ _ _ _ _ => pts_nil) (fun _ _ _ _ _ => (pe_ok (ok_law_below T) hr (by decide) (by rfl) (pa_cons (pe_ix (ixT K) (pv 4) pe_int (fun _ _ => rfl)) (pa_cons (pv 9) pa_nil)))))) pa_nil))))))))), ?_⟩
  rintro ds kq ⟨L, p, q, rfl, hL, hl, sp, sq, z⟩
  show WS K _ [.dat (lsD L), .dat (cornD L), .dat (rt p), .dat (rt q), .no, .no, .no, .no, .no, .no] _ _
  refine ws_seq (ws_asg ?_)
  walk_at "ev"
  refine ⟨hL, hl, sp, sq, ?_⟩
  cases e : Rg.corn L with
  | none =>
    have cD : cornD L = .none := by unfold cornD; rw [e]
    rw [cD]
    have hn := Rg.most_none (okL hL) p q e
    walk_at "ev"
    refine rd_isN (b := true) rfl ?_
    walk_at "ev"
    refine WL.we (wl_fm (fun l => lnD l) L (fun _ => true) (fun l => .bool (decide (Rg.cr (Rg.pq l) (p, q) = 0))) ?_)
    walk_at "ev"
    refine ⟨rfl, by omega, fun l hm => ?_, ?_⟩
    · have h1 := (hL l hm).sp
      have h2 := (hL l hm).sq
      walk_at "ev"
      refine ⟨rfl, fun _ => ?_, fun h => nomatch h⟩
      walk_at "ev"
      refine ⟨Rg.pq l, (p, q), _, rfl, .inr ⟨_, rfl⟩, h1.mono (by decide), h2.mono (by decide), sp.mono (by decide), sq.mono (by decide), ?_⟩
      walk_at "ev"
      rw [num_zero']
      exact ⟨rfl, rfl⟩
    · rw [List.filter_eq_self.mpr (fun _ _ => rfl), map_comp PyData.bool]
      have hin : ((L.map fun l => decide (Rg.cr (Rg.pq l) (p, q) = 0)).any fun c => c == true) = L.any fun l => decide (Rg.cr (Rg.pq l) (p, q) = 0) := by
        rw [List.any_map]
        refine congrArg (L.any ·) (funext fun l => ?_)
        show (decide _ == true) = _
        rw [beq_true]
      refine ws_ret (we_op (we_op ?_))
      cases em : Rg.mostT L p q with
      | most v x s =>
        rw [em] at hn
        dsimp only [toldD]
        walk_at "ev"
        refine we_orV (we_op (we_bl (we_var rfl (rd_inB ⟨_, rfl, fun h1 => ?_, fun h1 => ?_⟩))))
        · refine we_andV ?_
          walk_at "ev"
          refine ⟨fun h2 => ?_, fun h2 => ?_⟩
          · walk_at "ev"
            rw [hin] at h1
            rw [h1, Bool.false_or] at hn
            rw [num_zero'] at h2
            rw [num_zero']
            have e2 : decide (q = 0) = decide (p = 0 ∧ q = 0) := decide_eq_decide.mpr ⟨fun h => ⟨of_decide_eq_true h2, h⟩, fun h => h.2⟩
            rw [e2, ← hn]
            exact z
          · walk_at "ev"
            rw [hin] at h1
            rw [h1, Bool.false_or] at hn
            rw [num_zero'] at h2
            have e2 : decide (p = 0 ∧ q = 0) = false := decide_eq_false fun h => of_decide_eq_false h2 h.1
            rw [e2] at hn
            exact absurd hn (by show ¬ true = false; decide)
        · rw [hin] at h1
          rw [h1, Bool.true_or] at hn
          walk_at "ev"
          exact z
      | free x =>
        rw [em] at hn
        dsimp only [toldD]
        walk_at "ev"
        refine we_orV (we_op (we_bl (we_var rfl (rd_inB ⟨_, rfl, fun h1 => ?_, fun h1 => ?_⟩))))
        · refine we_andV ?_
          walk_at "ev"
          refine ⟨fun h2 => ?_, fun h2 => ?_⟩
          · walk_at "ev"
            rw [hin] at h1
            rw [h1, Bool.false_or] at hn
            rw [num_zero'] at h2
            rw [num_zero']
            have e2 : decide (q = 0) = decide (p = 0 ∧ q = 0) := decide_eq_decide.mpr ⟨fun h => ⟨of_decide_eq_true h2, h⟩, fun h => h.2⟩
            rw [e2, ← hn]
            exact z
          · walk_at "ev"
            rw [hin] at h1
            rw [h1, Bool.false_or] at hn
            rw [num_zero'] at h2
            have e2 : decide (p = 0 ∧ q = 0) = false := decide_eq_false fun h => of_decide_eq_false h2 h.1
            rw [e2] at hn
            exact z
        · rw [hin] at h1
          rw [h1, Bool.true_or] at hn
          walk_at "ev"
          exact absurd hn (by show ¬ false = true; decide)
  | some V =>
    have cD : cornD L = rsD V := by unfold cornD; rw [e]
    rw [cD]
    obtain ⟨v, x, s, em, hv, mx⟩ := Rg.most_some (okL hL) p q e
    have sv := most_sz hL sp sq em
    rw [em]
    dsimp only [toldD]
    walk_at "ev"
    refine rd_isN (b := false) rfl ?_
    walk_at "ev"
    refine WL.we (wl_fm (fun x => ryD x) V (fun _ => true) (fun x => rt (p * x.1 + q * x.2)) ?_)
    walk_at "ev"
    have rV := rok_corn hL e
    have hlen := corn_len hl e
    refine ⟨rfl, by omega, fun y hy => ?_, ?_⟩
    · obtain ⟨y1, y2⟩ := rV y hy
      walk_at "ev"
      refine ⟨rfl, fun _ => ?_, fun h => nomatch h⟩
      walk_at "ev"
      exact ⟨rfl, rfl⟩
    · rw [List.filter_eq_self.mpr (fun _ _ => rfl), map_comp (fun x => rt x)]
      have hW : ∀ u, u ∈ V.map (fun x => p * x.1 + q * x.2) → Sz 100000 u ∧ u ≤ v := fun u hu => by
        obtain ⟨y, hy, rfl⟩ := List.mem_map.mp hu
        obtain ⟨y1, y2⟩ := rV y hy
        exact ⟨((sp.mul y1).add (sq.mul y2)).mono (by decide), mx y hy⟩
      have hvW : v ∈ V.map (fun x => p * x.1 + q * x.2) := by
        obtain ⟨y, hy, ey⟩ := hv
        exact List.mem_map.mpr ⟨y, hy, ey⟩
      have hlW : (V.map (fun x => p * x.1 + q * x.2)).length ≤ 1000 := by rw [List.length_map]; omega
      generalize V.map (fun x => p * x.1 + q * x.2) = W at *
      walk_at "ev"
      refine ⟨_, .inl rfl, shaped_rt _, shaped_rts _, ?_⟩
      rw [any_rt, decide_eq_true hvW]
      walk_at "ev"
      refine we_notV ?_
      walk_at "ev"
      refine WL.we (wl_fm (fun x => rt x) W (fun _ => true) (fun u => .bool (decide (v < u))) ?_)
      walk_at "ev"
      refine ⟨rfl, by omega, fun u hu => ?_, ?_⟩
      · obtain ⟨u1, u2⟩ := hW u hu
        walk_at "ev"
        refine ⟨rfl, fun _ => ?_, fun h => nomatch h⟩
        walk_at "ev"
        exact ⟨rfl, rfl⟩
      · rw [List.filter_eq_self.mpr (fun _ _ => rfl), map_comp PyData.bool]
        walk_at "ev"
        refine cd_any ?_
        have none : (W.map fun u => decide (v < u)).any id = false := by
          rw [List.any_map, List.any_eq_false]
          intro u hu
          have := (hW u hu).2
          show ¬ decide (v < u) = true
          intro h
          exact Rat.not_lt.mpr this (of_decide_eq_true h)
        rw [none]
        exact ⟨_, rfl, z⟩
end
end Wk


set_option Elab.async false
set_option linter.all false
set_option maxRecDepth 100000
set_option maxHeartbeats 8000000
namespace Wk
open PySem PySem.Spec PyProof.Rows L2 Lg
set_option exponentiation.threshold 20000
local macro_rules | `(tactic| walk_at "ev") => `(tactic| repeat (first
  | (with_reducible apply wa_nil)
  | (with_reducible apply wa_cons)
  | ((with_reducible apply we_cn); assumption)
  | (with_reducible apply we_int)
  | (with_reducible apply we_str)
  | (with_reducible apply we_bl)
  | (with_reducible apply we_non)
  | ((with_reducible apply we_var); exact rfl)
  | (with_reducible apply we_head2)
  | (with_reducible apply we_tup)
  | (with_reducible apply we_lst)
  | (with_reducible apply we_notInA)
  | ((with_reducible apply we_ixC); exact rfl; exact rfl)
  | (with_reducible apply we_op)
  | (with_reducible apply we_un)
  | (with_reducible apply wc_1)
  | (with_reducible apply rd_i0)
  | (with_reducible apply rd_b0)
  | ((with_reducible apply rd_ixT); exact rfl)
  | (with_reducible apply rd_eqI)
  | (with_reducible apply rd_neI)
  | (with_reducible apply rd_eqS)
  | (with_reducible apply rd_neS)
  | (with_reducible apply rd_eqB)
  | (with_reducible apply rd_neB)
  | (with_reducible apply we_call)
  | ((with_reducible apply we_lenS); exact rfl)
  | ((with_reducible apply we_lenO); exact rfl)
  | (with_reducible apply we_cb)
  | (with_reducible apply cd_abs)
  | (with_reducible apply wt_test)
  | (with_reducible apply wt_b)
  | (with_reducible apply wt_not)
  | (with_reducible apply wt_and)
  | (with_reducible apply wt_or)
  | (with_reducible apply wt_yes)
  | (with_reducible apply ws_next)
  | (with_reducible apply ws_ret)
  | (with_reducible apply ws_asg)
  | (with_reducible apply ws_if)
  | (with_reducible apply ws_par)
  | (with_reducible apply ws_setO)
  | (with_reducible apply ws_asgG)
  | (with_reducible apply wg_name)
  | ((with_reducible apply wg_tup); exact rfl)
  | (with_reducible apply wgs_nil)
  | (with_reducible apply wgs_cons)
  | (with_reducible apply ws_seq)
  | (refine ⟨(show List.length _ ≤ 1000000 from Nat.le_of_ble_eq_true rfl), ?_⟩)
  | (refine ⟨fun _ => ?_, fun h => absurd h (by decide)⟩)
  | (refine ⟨fun h => absurd h (by decide), fun _ => ?_⟩)
  | (refine ⟨(show Sz _ _ by walk_at "sz"), ?_⟩)
  | (refine ⟨_, rfl, ?_⟩)
  | (refine ⟨_, _, rfl, ?_⟩)
  | (refine ⟨_, _, _, rfl, ?_⟩)
  | (refine ⟨_, _, _, _, rfl, ?_⟩)))
local macro_rules | `(tactic| walk_at "sz0") => `(tactic| first
  | assumption
  | exact sz0
  | exact sz1
  | exact Sz.add (by walk_at "sz0") (by walk_at "sz0")
  | exact Sz.sub (by walk_at "sz0") (by walk_at "sz0")
  | exact Sz.mul (by walk_at "sz0") (by walk_at "sz0")
  | exact Sz.neg (by walk_at "sz0")
  | exact Sz.ab (by walk_at "sz0")
  | exact Sz.div (by walk_at "sz0") (by walk_at "sz0") (by assumption))
local macro_rules | `(tactic| walk_at "sz") => `(tactic| first
  | assumption
  | exact Sz.mono (by walk_at "sz0") (by decide))

theorem lay_corn (L : List Rg.Ln) : (cornD L).canLay0 = true := by
  unfold cornD
  cases Rg.corn L with
  | none => rfl
  | some V => exact lay_all _ (fun a => rfl) V
theorem shaped_corn (L : List Rg.Ln) : SeqAt.shaped (cornD L) = true := by
  unfold cornD
  cases Rg.corn L with
  | none => rfl
  | some V => exact shaped_rs V
theorem most_rok {L : List Rg.Ln} (h : ∀ l, l ∈ L → LOk l) {p q : Rat} (kn : p ≠ 0 ∨ q ≠ 0) {v : Rat} {x : Rg.Ray} {s : List Rg.Share} (e : Rg.mostT L p q = .most v x s) : Sz 1000 x.1 ∧ Sz 1000 x.2 := by
  unfold Rg.mostT at e
  have z : ¬ (p = 0 ∧ q = 0) := fun z => by
    rcases kn with n | n
    · exact n z.1
    · exact n z.2
  rw [if_neg z] at e
  by_cases a : Rg.allSh L p q = []
  · rw [if_pos a] at e
    cases e
  · rw [if_neg a] at e
    cases e
    cases c : Rg.corn L with
    | some V =>
      obtain ⟨_, _, _, t⟩ := Rg.told_ne (okL h) kn a rfl rfl
      obtain ⟨r1, r2⟩ := rok_corn h c _ (t V c)
      exact ⟨r1.mono (by decide), r2.mono (by decide)⟩
    | none =>
      have n2 := (Rg.corn_none (okL h)).mp c
      obtain ⟨i, l, b, e1, hi, b0, e2, e3, ew, ip, val, pm, _⟩ := Rg.most_one (okL h) n2 kn a
      rw [ew, e1, Rg.rayWith_none c hi]
      have hl := h l (List.mem_of_getElem? hi)
      have h4 := hl.sp
      have h5 := hl.sq
      have sw : Sz 20 (Rg.ab b * l.r / b) := by
        rcases pm with z | z
        · rw [z]; exact hl.r
        · rw [z]; exact hl.r.neg
      generalize Rg.ab b * l.r / b = w at sw
      unfold Rg.rayOn
      by_cases c0 : l.p ≠ 0
      · rw [if_pos c0]
        exact ⟨(sw.div h4 c0).mono (by decide), sz0.mono (by decide)⟩
      · rw [if_neg c0]
        have q0 : l.q ≠ 0 := by
          rcases hl.ne with n | n
          · exact absurd n c0
          · exact n
        exact ⟨sz0.mono (by decide), (sw.div h5 q0).mono (by decide)⟩
def S_law_idle_right : Fs where
  run := fun ds k => ∃ (L : List Rg.Ln) (n : Nat) (l : Rg.Ln), ds = [lsD L, cornD L, .int (n : Int)] ∧ (∀ l, l ∈ L → LOk l) ∧ L.length ≤ 9 ∧ L[n]? = some l ∧ k (.bool true)
  mono := fun ds k k' h ⟨L, n, l, e, s0, s1, s2, z⟩ => ⟨L, n, l, e, s0, s1, s2, h _ z⟩
section
variable {P : Program} {w : World} {K : PySem.W.Frag} {mg : Str → Option Value} {base : Heap}
abbrev N_law_idle_right : List Str := ["lines", "rays", "k", "found", "others"]
theorem sc_law_idle_right : FnScope N_law_idle_right ["lines", "rays", "k"] (defScope (topS 76)) := ⟨rfl, rfl, rfl, by decide +kernel, rfl, by decide +kernel, by decide +kernel⟩
theorem ok_law_idle_right (T : Tx K mg) : Ok P w K mg base "_law_idle_right" ["lines", "rays", "k"] 12 (SpF K S_law_idle_right) := by
  refine okF T.d_law_idle_right sc_law_idle_right (fun ds k h => by obtain ⟨_, _, _, rfl, _⟩ := h; rfl) fun cdv A outer s H E f hr => ⟨_, (pss_cons (ps_set (i := 3) sc_law_idle_right.nd rfl (Or.inl rfl) (pe_ok (ok_idle T) hr (by decide) (by rfl) (pa_cons (pv 0) (pa_cons (pv 2) pa_nil))))
      (pss_cons (ps_set (i := 4) sc_law_idle_right.nd rfl (Or.inl rfl) (pe_op op_cat (pe_slice (slL K) (pv 0) po_none (po_some (pv 2))) (pe_slice (slL K) (pv 0) (po_some (pe_op op_add (pv 2) pe_int)) po_none)))
      (pss_cons (ps_if (pt_cmpR op_eq (pe_ix (ixT K) (pv 3) pe_int (fun _ _ => rfl)) pe_str (nomark _)) (pss_one (ps_ret (pe_cmpR (eqDK K (by rfl) hr.units) (pe_ok (ok_corners T) hr (by decide) (by rfl) (pa_cons (pv 4) pa_nil)) (pv 1) (nomark _)))) pss_nil)
      (pss_one (ps_ret (pe_and (pe_ok (ok_lets T) hr (by decide) (by rfl) (pa_cons (pv 4) (pa_cons (pe_ix (ixT K) (pv 3) pe_int (fun _ _ => rfl)) pa_nil))) (pe_one (pe_not (pe_ok (ok_lets T) hr (by decide) (by rfl) (pa_cons (pv 0) (pa_cons (pe_ix (ixT K) (pv 3) pe_int (fun _ _ => rfl)) pa_nil))))))))))), ?_⟩
  rintro ds kq ⟨L, n, l, rfl, hL, hl, hn, z⟩
  show WS K _ [.dat (lsD L), .dat (cornD L), .dat (.int (n : Int)), .no, .no] _ _
  refine ws_seq (ws_asg ?_)
  walk_at "ev"
  refine ⟨L, n, l, rfl, hL, hl, hn, ?_⟩
  have hlk := hL l (List.mem_of_getElem? hn)
  have hM : ∀ m, m ∈ L.take n ++ L.drop (n + 1) → m ∈ L := fun m hm => by
    rcases List.mem_append.mp hm with hm | hm
    · exact List.mem_of_mem_take hm
    · exact List.mem_of_mem_drop hm
  have hLM : ∀ m, m ∈ L → m = l ∨ m ∈ L.take n ++ L.drop (n + 1) := fun m hm => by
    obtain ⟨j, hj⟩ := List.getElem?_of_mem hm
    by_cases c : j = n
    · subst c
      rw [hn] at hj
      cases hj
      exact .inl rfl
    · right
      refine List.mem_append.mpr ?_
      by_cases c2 : j < n
      · exact .inl (List.mem_of_getElem? (i := j) (by rw [List.getElem?_take, if_pos c2]; exact hj))
      · exact .inr (List.mem_of_getElem? (i := j - (n + 1)) (by rw [List.getElem?_drop, show n + 1 + (j - (n + 1)) = j by omega]; exact hj))
  have hMl : (L.take n ++ L.drop (n + 1)).length ≤ 9 := by
    rw [List.length_append, List.length_take, List.length_drop]
    omega
  have eM : ∀ A B : List Rg.Ln, A.map (fun l => lnD l) ++ B.map (fun l => lnD l) = (A ++ B).map (fun l => lnD l) := fun A B => List.map_append.symm
  unfold idleD
  refine ws_seq (ws_asg (WL.we (wl_cat (wl_head ?_))))
  walk_at "ev"
  refine ⟨_, _, rfl, rfl, wl_tail ?_⟩
  walk_at "ev"
  refine ⟨_, n + 1, rfl, rfl, ?_, ?_⟩
  · rw [List.length_take, List.length_drop, List.length_map]
    omega
  rw [← List.map_take, ← List.map_drop, eM]
  have hMk := fun m hm => hL m (hM m hm)
  generalize L.take n ++ L.drop (n + 1) = M at *
  cases e : Rg.mostT M l.p l.q with
  | free x =>
    have facts := told_facts hMk hlk.sp hlk.sq hlk.ne
    rw [e] at facts
    obtain ⟨f1, f2, f3⟩ := facts
    have h4 := hlk.sp
    have h5 := hlk.sq
    have h6 := hlk.r
    have ne : l.p * x.1 + l.q * x.2 ≠ 0 := by
      intro z
      rw [z] at f3
      exact absurd f3 (by decide)
    have sf : Sz 1627 ((l.r + 1) / (l.p * x.1 + l.q * x.2)) := ((h6.add sz1).div ((h4.mul f1).add (h5.mul f2)) ne).mono (by decide)
    obtain ⟨i1, i2⟩ := Rg.needed_free (okL hMk) hlk.pos hlk.ne e
    have t1 := (sf.mul f1).mono (show 1627 + 402 ≤ 2100 by decide)
    have t2 := (sf.mul f2).mono (show 1627 + 402 ≤ 2100 by decide)
    dsimp only
    generalize (l.r + 1) / (l.p * x.1 + l.q * x.2) * x.1 = y at *
    generalize (l.r + 1) / (l.p * x.1 + l.q * x.2) * x.2 = u at *
    walk_at "ev"
    refine we_andV ?_
    walk_at "ev"
    refine ⟨hMk, by omega, t1.mono (by decide), t2.mono (by decide), ?_⟩
    have y1 : Rg.lts M (y, u) = true := Rg.lts_iff.mpr i1
    have y2 : Rg.lts L (y, u) = false := Rg.not_lets (List.mem_of_getElem? hn) i2
    refine ⟨Rg.lts M (y, u), rfl, fun _ => ?_, fun h => by rw [y1] at h; cases h⟩
    refine we_notV ?_
    walk_at "ev"
    refine ⟨hL, by omega, t1.mono (by decide), t2.mono (by decide), ?_⟩
    refine ⟨Rg.lts L (y, u), rfl, ?_⟩
    rw [y2]
    exact z
  | most v x s =>
    dsimp only
    by_cases c : l.r < v
    · rw [if_pos c]
      obtain ⟨i1, i2⟩ := Rg.needed_most (okL hMk) hlk.ne e c
      obtain ⟨t1, t2⟩ := most_rok hMk hlk.ne e
      obtain ⟨y, u⟩ := x
      walk_at "ev"
      refine we_andV ?_
      walk_at "ev"
      refine ⟨hMk, by omega, t1.mono (by decide), t2.mono (by decide), ?_⟩
      have y1 : Rg.lts M (y, u) = true := Rg.lts_iff.mpr i1
      have y2 : Rg.lts L (y, u) = false := Rg.not_lets (List.mem_of_getElem? hn) i2
      refine ⟨Rg.lts M (y, u), rfl, fun _ => ?_, fun h => by rw [y1] at h; cases h⟩
      refine we_notV ?_
      walk_at "ev"
      refine ⟨hL, by omega, t1.mono (by decide), t2.mono (by decide), ?_⟩
      refine ⟨Rg.lts L (y, u), rfl, ?_⟩
      rw [y2]
      exact z
    · rw [if_neg c]
      have same := Rg.idle_same (okL hL) (List.mem_of_getElem? hn) hM hLM e c
      have cd : cornD M = cornD L := by unfold cornD; rw [same]
      walk_at "ev"
      refine ⟨hMk, hMl, ?_⟩
      walk_at "ev"
      refine rd_eqD (shaped_corn _) (shaped_corn _) ?_
      rw [cd, PySem.SeqAt.eqv_refl _ (lay_corn L)]
      exact z
end
end Wk


set_option Elab.async false
set_option linter.all false
set_option maxRecDepth 100000
set_option maxHeartbeats 8000000
namespace Wk
open PySem PySem.Spec PyProof.Rows L2 Lg
set_option exponentiation.threshold 20000
local macro_rules | `(tactic| walk_at "ev") => `(tactic| repeat (first
  | (with_reducible apply wa_nil)
  | (with_reducible apply wa_cons)
  | ((with_reducible apply we_cn); assumption)
  | (with_reducible apply we_int)
  | (with_reducible apply we_str)
  | (with_reducible apply we_bl)
  | (with_reducible apply we_non)
  | ((with_reducible apply we_var); exact rfl)
  | (with_reducible apply we_head2)
  | (with_reducible apply we_tup)
  | (with_reducible apply we_lst)
  | (with_reducible apply we_notInA)
  | ((with_reducible apply we_ixC); exact rfl; exact rfl)
  | (with_reducible apply we_op)
  | (with_reducible apply we_un)
  | (with_reducible apply wc_1)
  | (with_reducible apply rd_i0)
  | (with_reducible apply rd_b0)
  | ((with_reducible apply rd_ixT); exact rfl)
  | (with_reducible apply rd_eqI)
  | (with_reducible apply rd_neI)
  | (with_reducible apply rd_eqS)
  | (with_reducible apply rd_neS)
  | (with_reducible apply rd_eqB)
  | (with_reducible apply rd_neB)
  | (with_reducible apply we_call)
  | ((with_reducible apply we_lenS); exact rfl)
  | ((with_reducible apply we_lenO); exact rfl)
  | (with_reducible apply we_cb)
  | (with_reducible apply cd_abs)
  | (with_reducible apply wt_test)
  | (with_reducible apply wt_b)
  | (with_reducible apply wt_not)
  | (with_reducible apply wt_and)
  | (with_reducible apply wt_or)
  | (with_reducible apply wt_yes)
  | (with_reducible apply ws_next)
  | (with_reducible apply ws_ret)
  | (with_reducible apply ws_asg)
  | (with_reducible apply ws_if)
  | (with_reducible apply ws_par)
  | (with_reducible apply ws_setO)
  | (with_reducible apply ws_asgG)
  | (with_reducible apply wg_name)
  | ((with_reducible apply wg_tup); exact rfl)
  | (with_reducible apply wgs_nil)
  | (with_reducible apply wgs_cons)
  | (with_reducible apply ws_seq)
  | (refine ⟨(show List.length _ ≤ 1000000 from Nat.le_of_ble_eq_true rfl), ?_⟩)
  | (refine ⟨fun _ => ?_, fun h => absurd h (by decide)⟩)
  | (refine ⟨fun h => absurd h (by decide), fun _ => ?_⟩)
  | (refine ⟨(show Sz _ _ by walk_at "sz"), ?_⟩)
  | (refine ⟨_, rfl, ?_⟩)
  | (refine ⟨_, _, rfl, ?_⟩)
  | (refine ⟨_, _, _, rfl, ?_⟩)
  | (refine ⟨_, _, _, _, rfl, ?_⟩)))
local macro_rules | `(tactic| walk_at "sz0") => `(tactic| first
  | assumption
  | exact sz0
  | exact sz1
  | exact Sz.add (by walk_at "sz0") (by walk_at "sz0")
  | exact Sz.sub (by walk_at "sz0") (by walk_at "sz0")
  | exact Sz.mul (by walk_at "sz0") (by walk_at "sz0")
  | exact Sz.neg (by walk_at "sz0")
  | exact Sz.ab (by walk_at "sz0")
  | exact Sz.div (by walk_at "sz0") (by walk_at "sz0") (by assumption))
local macro_rules | `(tactic| walk_at "sz") => `(tactic| first
  | assumption
  | exact Sz.mono (by walk_at "sz0") (by decide))

/-- the law's own promise -/
def spLaw (K : PySem.W.Frag) : Sp := fun vs H Q _ => ∃ (a : Addr) (ns : List Int), vs = [.ref a] ∧ SqL K H a (ns.map V.int) ∧ ns.length ≤ 63 ∧ ∀ H', Q (.bl true) H'
def r13 : Rat := ⟨1, 3, by decide, by decide⟩
def r12 : Rat := ⟨-1, 2, by decide, by decide⟩
theorem sz13 : Sz 41 r13 := ⟨by decide, by decide⟩
theorem sz12 : Sz 41 r12 := ⟨by decide, by decide⟩
section
variable {P : Program} {w : World} {K : PySem.W.Frag} {mg : Str → Option Value} {base : Heap}
theorem okS {x : Str} {st : Stmt} {N : List Str} {k : Nat} {f : Addr} {fd : FuncData} (F : Fun K x x st f fd) (sc : FnScope N ["script"] (defScope st))
    (body : ∀ (cdv : Value) (A : Around) (outer : List Env) (s : Shared) (H : Hp) (E : XK), Room k (A.deeper (envOfC x (defScope st) s.heap.objs.size f cdv)) →
      ∃ t, PSs (cxOf CX0 P w K mg base N x (defScope st) f cdv A outer s H E).nox (defBody st) t ∧
        ∀ (a : Addr) ns, ns.length ≤ 63 → WS K t (.scr a ns :: ent (N.length - 1) []) (fun _ => False) (fun d ρ' => d = .bool true)) : FnOk P w K mg base CX0 (k + 1) f fd ["script"] (spLaw K) := by
  refine F.ok sc (fun vs H Q E h => ?_) fun cdv A outer s H vs Q E hr h => ?_
  · obtain ⟨a, ns, rfl, _⟩ := h
    rfl
  · obtain ⟨a, ns, rfl, hs, hl, q⟩ := h
    obtain ⟨t, ht, hq⟩ := body cdv A outer s H E hr
    have hN : 1 ≤ N.length := by
      have l2 := congrArg List.length sc.pre
      rw [List.length_take] at l2
      have : (["script"] : List Str).length = 1 := rfl
      omega
    have rep : Rep K (kept H H) (.scr a ns :: ent (N.length - 1) []) (L2.start N [.ref a]) H H := by
      refine ⟨Ex.refl H, ?_, fun i d h => ?_, fun i o es h => ?_, fun i o es h => ?_, fun i j o es fs hi hj => ?_, fun b y h => kept_get.mp h⟩
      · rw [start_len]
        unfold ent
        simp only [List.length_append, List.length_map, List.length_replicate, List.length_cons, List.length_nil]
        omega
      · cases i with
        | zero => cases h
        | succ i =>
          rw [List.getElem?_cons_succ] at h
          obtain ⟨d', h1, h2⟩ := ent_get Sl.noConfusion h
          cases h2
      · cases i with
        | zero => cases h
        | succ i =>
          rw [List.getElem?_cons_succ] at h
          obtain ⟨d', h1, h2⟩ := ent_get Sl.noConfusion h
          cases h1
      · cases i with
        | zero =>
          cases h
          exact ⟨get_start rfl, hs⟩
        | succ i =>
          rw [List.getElem?_cons_succ] at h
          obtain ⟨d', h1, h2⟩ := ent_get Sl.noConfusion h
          cases h1
      · cases i with
        | zero => cases hi
        | succ i =>
          rw [List.getElem?_cons_succ] at hi
          obtain ⟨d', h1, h2⟩ := ent_get Sl.noConfusion hi
          cases h1
    refine ⟨t, ht, hq a ns hl _ _ H H rep _ (fun _ _ _ _ _ _ z => z.elim) fun v d ρ σ H1 H1' e1 r1 rw q1 => ?_⟩
    rw [q1] at rw
    rw [rw.bool_inv]
    exact q H1'
abbrev N_law : List Str := ["script", "cell", "pool", "k", "bench", "lines", "rays", "turn", "p", "q", "ray"]
theorem sc_law : FnScope N_law ["script"] (defScope (topS 77)) := ⟨rfl, rfl, rfl, by decide +kernel, rfl, by decide +kernel, by decide +kernel⟩
theorem ok_law {f : Addr} {fd : FuncData} (T : Tx K mg) (F : Fun K "law" "law" (topS 77) f fd) : FnOk P w K mg base CX0 13 f fd ["script"] (spLaw K) := by
  refine okS F sc_law fun cdv A outer s H E hr => ⟨_, (pss_cons (ps_for PassesOwn.never rfl (piL K (by rfl) (pe_ok (ok_law_cells T) hr (by decide) (by rfl) (pa_cons (pv 0) (pa_cons pe_int pa_nil)))) (pg_name (i := 1) sc_law.nd rfl (Or.inl rfl)) (pss_cons (ps_set (i := 2) sc_law.nd rfl (Or.inr rfl) (pe_ok (ok_law_pool T) hr (by decide) (by rfl) (pa_cons (pv 1) pa_nil)))
      (pss_cons (ps_lcV (vs := [3]) rfl (ps_setLc (i := 4) (own := [("k", 3)]) (g := gName 3) (tt := tYes) rfl sc_law.nd rfl rfl (sw_true rfl rfl rfl (by decide +kernel)) (pi_range1 (by rfl) T.n_range (pa_cons (pe_ok (ok_law_next T) hr (by decide) (by rfl) (pa_cons (pv 2) (pa_cons pe_int pa_nil))) pa_nil)) (blkOk_by (own := [("k", 3)]) (N := N_law) (sc := defScope (topS 77)) (by decide +kernel)) (fun _ _ _ _ _ => (pg_name (i := 3) sc_law.nd rfl (Or.inl rfl))) (fun _ _ _ _ _ => pts_nil) (fun _ _ _ _ _ => (pe_ok (ok_law_part T) hr (by decide) (by rfl) (pa_cons (pv 2) pa_nil)))))
      (pss_cons (ps_set (i := 5) sc_law.nd rfl (Or.inl rfl) (pe_slice (slL K) (pe_op op_cat (pe_ok (ok_law_lines T) hr (by decide) (by rfl) (pa_cons (pv 2) (pa_cons pe_int pa_nil))) (pe_ok (ok_lines_of T) hr (by decide) (by rfl) (pa_cons (pv 4) pa_nil))) po_none (po_some pe_int)))
      (pss_cons (ps_set (i := 6) sc_law.nd rfl (Or.inl rfl) (pe_ok (ok_corners T) hr (by decide) (by rfl) (pa_cons (pv 5) pa_nil)))
      (pss_cons (ps_for PassesOwn.never rfl (pi_range1 (by rfl) T.n_range (pa_cons pe_int pa_nil)) (pg_name (i := 7) sc_law.nd rfl (Or.inl rfl)) (pss_cons (ps_asg (pe_ok (ok_law_asked T) hr (by decide) (by rfl) (pa_cons (pv 2) (pa_cons (pv 5) pa_nil))) (tupK K 2 rfl (pgs_cons (pg_name (i := 8) sc_law.nd rfl (Or.inl rfl)) (pgs_cons (pg_name (i := 9) sc_law.nd rfl (Or.inl rfl)) pgs_nil))))
      (pss_one (ps_if (pt_not (pt_val (pe_ok (ok_law_most_right T) hr (by decide) (by rfl) (pa_cons (pv 5) (pa_cons (pv 6) (pa_cons (pv 8) (pa_cons (pv 9) pa_nil))))))) (pss_one (ps_ret pe_bl)) pss_nil))))
      (pss_cons (ps_for PassesOwn.never rfl (piL K (by rfl) (pe_lst (pa_cons (pe_ok (ok_law_ray T) hr (by decide) (by rfl) (pa_cons (pv 2) pa_nil)) (pa_cons (pe_tup (pa_cons (pe_tup (pa_cons pe_int (pa_cons pe_int pa_nil))) (pa_cons (pe_tup (pa_cons pe_int (pa_cons pe_int pa_nil))) pa_nil))) (pa_cons (pe_tup (pa_cons (pe_tup (pa_cons pe_int (pa_cons pe_int pa_nil))) (pa_cons (pe_tup (pa_cons (pe_un un_neg pe_int) (pa_cons pe_int pa_nil))) pa_nil))) pa_nil))))) (pg_name (i := 10) sc_law.nd rfl (Or.inl rfl)) (pss_one (ps_if (PW.pt (pw_and (pt_cmpR op_notN (pv 6) pe_non (nomark _)) (pw_and1 (pt_cmpR op_ne (pe_ok (ok_lets T) hr (by decide) (by rfl) (pa_cons (pv 5) (pa_cons (pv 10) pa_nil))) (pe_ok (ok_law_inside T) hr (by decide) (by rfl) (pa_cons (pv 6) (pa_cons (pv 10) pa_nil))) (nomark _))))) (pss_one (ps_ret pe_bl)) pss_nil)))
      (pss_one (ps_for PassesOwn.never rfl (pi_range1 (by rfl) T.n_range (pa_cons (pe_callB (call_min2 rfl) (by rfl) T.n_min (by decide +kernel) (pa_cons pe_int (pa_cons (pe_callB (lenK K) (by rfl) T.n_len (by decide +kernel) (pa_cons (pv 5) pa_nil)) pa_nil))) pa_nil)) (pg_name (i := 3) sc_law.nd rfl (Or.inl rfl)) (pss_one (ps_if (pt_not (pt_val (pe_ok (ok_law_idle_right T) hr (by decide) (by rfl) (pa_cons (pv 5) (pa_cons (pv 6) (pa_cons (pv 3) pa_nil)))))) (pss_one (ps_ret pe_bl)) pss_nil)))))))))))
      (pss_one (ps_ret pe_bl))), ?_⟩
  intro a ns hl
  show WS K _ [.scr a ns, .no, .no, .no, .no, .no, .no, .no, .no, .no, .no] _ _
  refine ws_cut (fun _ => True) ?_ fun ρ1 _ => ws_ret (we_bl rfl)
  refine ws_for (we_callC (i := 0) (S := S_law_cells) rfl (fun k k' f ⟨e, l, q⟩ => ⟨e, l, fun ms hm => f _ (q ms hm)⟩) ⟨rfl, hl, fun ms hm => ?_⟩)
  refine ⟨_, fun i ρ => ∃ z1 z2 z3 z4 z5 z6 z7 z8 z9 z10 : Sl, ρ = [.scr a ns, z1, z2, z3, z4, z5, z6, z7, z8, z9, z10], rfl, ⟨_, _, _, _, _, _, _, _, _, _, rfl⟩, ?_, fun ρ2 _ => trivial⟩
  rintro i x ρ2 hx ⟨z1, z2, z3, z4, z5, z6, z7, z8, z9, z10, rfl⟩
  obtain ⟨c, hc, rfl⟩ := map_get hx
  refine wg_name (ws_seq (ws_asgO (wl_call ?_)))
  walk_at "ev"
  refine fun xs hx o => ?_
  refine ws_cut (fun ρ => ∃ (ys : List Int) (B : List (Str × Rat)), ρ = [.scr a ns, .dat (.int c), .own o (ys.map PyData.int), .no, .dat (.list (B.map fun b => ptD b)), z5, z6, z7, z8, z9, z10] ∧ I3 ys ∧ B.length ≤ 9 ∧ ∀ b, b ∈ B → PtOk b) ?_ ?_
  · refine ws_asg (WL.we (wl_lcR ?_))
    refine wa_cons (we_nextP (i := 2) (o := o) (xs := xs) rfl hx ?_)
    walk_at "ev"
    refine ⟨rfl, by decide, by decide, fun ys n hy n1 n2 => ?_⟩
    walk_at "ev"
    refine ⟨n, fun i acc ρ => ∃ (ys : List Int) (B : List (Str × Rat)), ρ = [.scr a ns, .dat (.int c), .own o (ys.map PyData.int), .no, z4, z5, z6, z7, z8, z9, z10] ∧ I3 ys ∧ acc = B.map (fun b => ptD b) ∧ B.length = i ∧ ∀ b, b ∈ B → PtOk b, rfl, n1, by omega, ⟨ys, [], rfl, hy, rfl, rfl, fun b h => by cases h⟩, ?_, ?_⟩
    · rintro i acc ρ2 hi ⟨us, B, rfl, hu, rfl, hB, hPt⟩
      walk_at "ev"
      refine we_partP (i := 2) (o := o) (xs := us) rfl hu fun vs b hv hb => ?_
      refine ⟨vs, B ++ [b], rfl, hv, by rw [List.map_append]; rfl, by rw [List.length_append, hB]; rfl, fun y hy => ?_⟩
      rcases List.mem_append.mp hy with h | h
      · exact hPt y h
      · rw [List.mem_singleton.mp h]; exact hb
    · rintro acc ρ2 ⟨us, B, rfl, hu, rfl, hB, hPt⟩
      exact ⟨us, B, rfl, hu, by omega, hPt⟩
  rintro ρ1 ⟨ys, B, rfl, hy, hB, hPt⟩
  refine ws_cut (fun ρ => ∃ (ys : List Int) (L : List Rg.Ln), ρ = [.scr a ns, .dat (.int c), .own o (ys.map PyData.int), .no, .dat (.list (B.map fun b => ptD b)), .dat (lsD L), z6, z7, z8, z9, z10] ∧ I3 ys ∧ L.length ≤ 4 ∧ ∀ l, l ∈ L → LOk l) ?_ ?_
  · refine ws_asg (WL.we (wl_head (WL.we (wl_catD (we_pool (i := 2) (o := o) (xs := ys) rfl hy ?_)))))
    walk_at "ev"
    refine ⟨rfl, _, ⟨rfl, rfl⟩, ?_⟩
    rintro us _ hu ⟨L1, rfl, l1, o1⟩
    walk_at "ev"
    refine ⟨hB, hPt, fun L2 l2 o2 => ?_⟩
    refine ⟨_, _, rfl, rfl, ?_, ?_⟩
    · rw [List.length_map, List.length_map]; omega
    · rw [← List.map_append]
      walk_at "ev"
      refine ⟨_, 4, rfl, rfl, ?_⟩
      rw [← List.map_take]
      refine ⟨us, (L1 ++ L2).take 4, rfl, hu, by rw [List.length_take]; omega, fun l h => ?_⟩
      rcases List.mem_append.mp (List.mem_of_mem_take h) with h | h
      · exact o1 l h
      · exact o2 l h
  rintro ρ1 ⟨us, L, rfl, hu, hL4, hL⟩
  refine ws_seq (ws_asg ?_)
  walk_at "ev"
  refine ⟨hL, by omega, ?_⟩
  refine ws_cut (fun ρ => ∃ (ys : List Int) (z7 z8 z9 z10 : Sl), ρ = [.scr a ns, .dat (.int c), .own o (ys.map PyData.int), .no, .dat (.list (B.map fun b => ptD b)), .dat (lsD L), .dat (cornD L), z7, z8, z9, z10] ∧ I3 ys) ?_ ?_
  · refine ws_range1 ?_
    walk_at "ev"
    refine ⟨2, fun i ρ => ∃ (ys : List Int) (z7 z8 z9 z10 : Sl), ρ = [.scr a ns, .dat (.int c), .own o (ys.map PyData.int), .no, .dat (.list (B.map fun b => ptD b)), .dat (lsD L), .dat (cornD L), z7, z8, z9, z10] ∧ I3 ys, rfl, by decide, by decide, ⟨us, _, _, _, _, rfl, hu⟩, ?_, fun ρ2 h => h⟩
    rintro i ρ2 hi ⟨vs, y7, y8, y9, y10, rfl, hv⟩
    refine wg_name (ws_seq (ws_asgG (we_pool (i := 2) (o := o) (xs := vs) rfl hv ?_)))
    walk_at "ev"
    refine ⟨rfl, _, ⟨L, rfl, by omega, hL, rfl⟩, ?_⟩
    rintro ts _ ht ⟨p, q, rfl, sp, sq⟩
    walk_at "ev"
    refine ⟨hL, by omega, sp, sq, ?_⟩
    walk_at "ev"
    exact ⟨ts, _, _, _, _, rfl, ht⟩
  rintro ρ1 ⟨vs, y7, y8, y9, y10, rfl, hv⟩
  refine ws_cut (fun ρ => ∃ (ys : List Int) (z7 z8 z9 z10 : Sl), ρ = [.scr a ns, .dat (.int c), .own o (ys.map PyData.int), .no, .dat (.list (B.map fun b => ptD b)), .dat (lsD L), .dat (cornD L), z7, z8, z9, z10]) ?_ ?_
  · have go : ∀ x : Rg.Ray, Sz 41 x.1 → Sz 41 x.2 → ∀ y, y ∈ [x, (r13, 0), (0, r12)] → Sz 41 y.1 ∧ Sz 41 y.2 := fun x s1 s2 y hy => by
      simp only [List.mem_cons, List.not_mem_nil, or_false] at hy
      rcases hy with rfl | rfl | rfl
      · exact ⟨s1, s2⟩
      · exact ⟨sz13, sz0.mono (by decide)⟩
      · exact ⟨sz0.mono (by decide), sz12⟩
    refine ws_for ?_
    walk_at "ev"
    refine we_rayP (i := 2) (o := o) (xs := vs) rfl hv fun ts x ht s1 s2 => ?_
    walk_at "ev"
    refine ⟨[x, (r13, 0), (0, r12)].map fun x => ryD x, fun i ρ => ∃ (ys : List Int) (z7 z8 z9 z10 : Sl), ρ = [.scr a ns, .dat (.int c), .own o (ys.map PyData.int), .no, .dat (.list (B.map fun b => ptD b)), .dat (lsD L), .dat (cornD L), z7, z8, z9, z10], rfl, ⟨ts, _, _, _, _, rfl⟩, ?_, fun ρ2 h => h⟩
    rintro i _ ρ2 hx ⟨us, y7, y8, y9, y10, rfl⟩
    obtain ⟨y, hy, rfl⟩ := map_get hx
    obtain ⟨t1, t2⟩ := go x s1 s2 y (List.mem_of_getElem? hy)
    refine wg_name (ws_if (wt_and ?_))
    cases e : Rg.corn L with
    | none =>
      have cD : cornD L = .none := by unfold cornD; rw [e]
      rw [cD]
      walk_at "ev"
      refine rd_notN (b := false) rfl ?_
      walk_at "ev"
      exact ⟨us, _, _, _, _, rfl⟩
    | some V =>
      have cD : cornD L = rsD V := by unfold cornD; rw [e]
      rw [cD]
      walk_at "ev"
      refine rd_notN (b := true) rfl ?_
      walk_at "ev"
      refine ⟨hL, by omega, t1.mono (by decide), t2.mono (by decide), ?_⟩
      walk_at "ev"
      refine ⟨rok_corn hL e, corn_len (by omega) e, t1.mono (by decide), t2.mono (by decide), fun b hb => ?_⟩
      walk_at "ev"
      have same : Rg.lts L (y.1, y.2) = b := by
        have k : Rg.lts L (y.1, y.2) = true ↔ b = true := Rg.lts_iff.trans ((Rg.inside_iff (okL hL) (Rg.corn_some (okL hL) e) y).trans hb.symm)
        cases b with
        | true => exact k.mpr rfl
        | false =>
          cases h : Rg.lts L (y.1, y.2) with
          | false => rfl
          | true => exact (k.mp h).symm
      rw [same, decide_eq_true rfl]
      walk_at "ev"
      exact ⟨us, _, _, _, _, rfl⟩
  rintro ρ1 ⟨ts, y7, y8, y9, y10, rfl⟩
  refine ws_range1 ?_
  walk_at "ev"
  refine cd_len ?_
  walk_at "ev"
  refine cd_min ?_
  walk_at "ev"
  rw [List.length_map]
  refine ⟨_, fun i ρ => ∃ (ys : List Int) (z3 z7 z8 z9 z10 : Sl), ρ = [.scr a ns, .dat (.int c), .own o (ys.map PyData.int), z3, .dat (.list (B.map fun b => ptD b)), .dat (lsD L), .dat (cornD L), z7, z8, z9, z10], rfl, by split <;> omega, by split <;> omega, ⟨ts, _, _, _, _, _, rfl⟩, ?_, fun ρ2 h => ?_⟩
  · rintro i ρ2 hi ⟨us, y3, y7, y8, y9, y10, rfl⟩
    have hi2 : i < L.length := by
      split at hi <;> omega
    have hg : L[i]? = some L[i] := List.getElem?_eq_getElem hi2
    refine wg_name ?_
    walk_at "ev"
    refine ⟨L, i, L[i], rfl, hL, by omega, hg, ?_⟩
    walk_at "ev"
    exact ⟨us, _, _, _, _, _, rfl⟩
  · obtain ⟨us, y3, y7, y8, y9, y10, rfl⟩ := h
    exact ⟨_, _, _, _, _, _, _, _, _, _, rfl⟩
end
end Wk


set_option Elab.async false
set_option linter.all false
set_option maxRecDepth 100000
set_option maxHeartbeats 8000000
namespace Wk
open PySem PySem.Spec PyProof.Rows L2 Lg
set_option exponentiation.threshold 20000
/-! ### what the top has written -/
structure Fx (K : PySem.W.Frag) (x : Str) (st : Stmt) (f : Addr) : Prop where
  ex : ∃ fd : FuncData, Fun K x x st f fd ∧ PySem.W.nsIn K mainGlobals x = some (some (.ref f))
theorem fx_mk {K : PySem.W.Frag} {x : Str} {st : Stmt} {f : Addr} {od an : Option Addr} {sl : Array (Option Value)} {oc kV dc pm cd ct : Value} (a : PySem.W.nsIn K mainGlobals x = some (some (.ref f)))
    (l : K.lookup f = some ⟨oc, od, .func (PySem.W.fnOf x x (defArgs st) (defBody st) (defScope st) .none kV dc pm an cd ct), sl⟩) (c : PySem.W.codeIn K cd x = true) (k : PySem.W.keepIn K (.ref f) = true) : Fx K x st f := ⟨_, fun_mk l c k, a⟩
section
variable {K : PySem.W.Frag} {h : Heap} {mg : Str → Option Value} (X : K.In h) (G : h.Ns mainGlobals mg)
include X G
theorem df_of {x : Str} {st : Stmt} {ps : List Str} {f : Addr}
    (b : ∀ (kV doc pm : Value) (an : Option Addr) (cdv ct : Value) (us : List Value), us.length = ps.length → bindArgs (PySem.W.fnOf x x (defArgs st) (defBody st) (defScope st) .none kV doc pm an cdv ct) ⟨us, []⟩ = pure (ps.zip us)) (F : Fx K x st f) : Df K mg x st ps := by
  obtain ⟨fd, F, a⟩ := F.ex
  exact ⟨f, fd, F, PySem.W.mg_of X G a, F.binds b⟩
/-- the def with a default: the tuple of its defaults stands at T2 -/
theorem dr_of {f T2 : Addr} {o : Obj} {od an : Option Addr} {sl : Array (Option Value)} {oc kV dc pm cd ct : Value} (a : PySem.W.nsIn K mainGlobals "ratio" = some (some (.ref f)))
    (l : K.lookup f = some ⟨oc, od, .func (PySem.W.fnOf "ratio" "ratio" (defArgs (topS 6)) (defBody (topS 6)) (defScope (topS 6)) (.ref T2) kV dc pm an cd ct), sl⟩) (c : PySem.W.codeIn K cd "ratio" = true) (k : PySem.W.keepIn K (.ref f) = true)
    (l3 : K.lookup T2 = some o) (t3 : ∃ (t : Tok) (n : Nat), o.data = .seq [Value.int 1 t].toArray n) : DfR K mg := by
  obtain ⟨t, n, e⟩ := t3
  have F : FunD K "ratio" "ratio" (defArgs (topS 6)) (defBody (topS 6)) (defScope (topS 6)) [.int 1] [] f _ := ⟨⟨oc, od, .ref T2, kV, dc, pm, an, cd, ct, sl, rfl, l, c, .inr ⟨List.cons_ne_nil _ _, T2, o, _, n, rfl, l3, e, .cons ⟨t, rfl⟩ .nil⟩, .inl rfl⟩, k⟩
  obtain ⟨ds, r, b⟩ := F.binds1 (ps := ["top", "bottom"]) 2 1 (List.cons_ne_nil _ _) rfl fun T kV doc pm an cdv ct us its h1 h2 => match us, its, h1, h2 with | [_, _], [_], _, _ => ⟨_, rfl, rfl⟩
  cases r
  exact ⟨f, _, F, PySem.W.mg_of X G a, b⟩
def Tup2 (o : Obj) (i j : Int) : Prop := o.cls = .type "tuple" ∧ ∃ (t u : Tok) (n : Nat), o.data = .seq [Value.int i t, Value.int j u].toArray n
omit X G in
theorem tup2_rv {f : Addr} {o : Obj} {i j : Int} (l : K.lookup f = some o) (t : Tup2 o i j) (H : Hp) : Rv K H (.ref f) (.tuple [.int i, .int j]) := by
  obtain ⟨c, t, u, n, e⟩ := t
  exact .tup (xs := [.int i, .int j]) (.inr ⟨o, _, n, l, c, e, by show 2 ≤ sizeLine; exact small (by decide), .cons ⟨t, rfl⟩ (.cons ⟨u, rfl⟩ .nil)⟩) (.cons (.int i) (.cons (.int j) .nil))
theorem cn2_of {x : Str} {f : Addr} {o : Obj} {i j : Int} (a : PySem.W.nsIn K mainGlobals x = some (some (.ref f))) (l : K.lookup f = some o) (t : Tup2 o i j) : ∃ v, Cn K mg x v (.tuple [.int i, .int j]) :=
  ⟨.ref f, ⟨_, PySem.W.mg_of X G a, rfl, tup2_rv l t⟩⟩
theorem cns_of {x y z : Str} {t : Tok} (a : PySem.W.nsIn K mainGlobals x = some (some (.str y t))) (e : y = z) : ∃ v, Cn K mg x v (.str z) :=
  ⟨.str y, ⟨_, PySem.W.mg_of X G a, ⟨t, rfl⟩, fun H => by rw [e]; exact .str z⟩⟩
def Tup4 (o : Obj) (f g : Addr) : Prop := o.cls = .type "tuple" ∧ ∃ n : Nat, o.data = .seq [Value.ref f, Value.ref g, Value.ref g, Value.ref f].toArray n
theorem cn4_of {f g s : Addr} {o p q : Obj} {i j k m : Int} (a : PySem.W.nsIn K mainGlobals "SAME" = some (some (.ref s))) (l : K.lookup s = some o) (t : Tup4 o f g) (lf : K.lookup f = some p) (tf : Tup2 p i j) (lg : K.lookup g = some q) (tg : Tup2 q k m) :
    ∃ v, Cn K mg "SAME" v (.tuple [.tuple [.int i, .int j], .tuple [.int k, .int m], .tuple [.int k, .int m], .tuple [.int i, .int j]]) := by
  obtain ⟨c, n, e⟩ := t
  refine ⟨.ref s, ⟨_, PySem.W.mg_of X G a, rfl, fun H => ?_⟩⟩
  have r1 := tup2_rv lf tf H
  have r2 := tup2_rv lg tg H
  exact .tup (xs := [.ref f, .ref g, .ref g, .ref f]) (.inr ⟨o, _, n, l, c, e, by show 4 ≤ sizeLine; exact small (by decide), .cons rfl (.cons rfl (.cons rfl (.cons rfl .nil)))⟩) (.cons r1 (.cons r2 (.cons r2 (.cons r1 .nil))))
end
theorem b_is_whole (kV doc pm : Value) (an : Option Addr) (cdv ct : Value) (us : List Value) (hl : us.length = (["thing"] : List Str).length) : bindArgs (PySem.W.fnOf "is_whole" "is_whole" (defArgs (topS 4)) (defBody (topS 4)) (defScope (topS 4)) .none kV doc pm an cdv ct) ⟨us, []⟩ = pure ((["thing"] : List Str).zip us) := match us, hl with | [_], _ => rfl
theorem b_divisor (kV doc pm : Value) (an : Option Addr) (cdv ct : Value) (us : List Value) (hl : us.length = (["one", "other"] : List Str).length) : bindArgs (PySem.W.fnOf "divisor" "divisor" (defArgs (topS 5)) (defBody (topS 5)) (defScope (topS 5)) .none kV doc pm an cdv ct) ⟨us, []⟩ = pure ((["one", "other"] : List Str).zip us) := match us, hl with | [_, _], _ => rfl
theorem b_plus (kV doc pm : Value) (an : Option Addr) (cdv ct : Value) (us : List Value) (hl : us.length = (["one", "other"] : List Str).length) : bindArgs (PySem.W.fnOf "plus" "plus" (defArgs (topS 7)) (defBody (topS 7)) (defScope (topS 7)) .none kV doc pm an cdv ct) ⟨us, []⟩ = pure ((["one", "other"] : List Str).zip us) := match us, hl with | [_, _], _ => rfl
theorem b_minus (kV doc pm : Value) (an : Option Addr) (cdv ct : Value) (us : List Value) (hl : us.length = (["one", "other"] : List Str).length) : bindArgs (PySem.W.fnOf "minus" "minus" (defArgs (topS 8)) (defBody (topS 8)) (defScope (topS 8)) .none kV doc pm an cdv ct) ⟨us, []⟩ = pure ((["one", "other"] : List Str).zip us) := match us, hl with | [_, _], _ => rfl
theorem b_times (kV doc pm : Value) (an : Option Addr) (cdv ct : Value) (us : List Value) (hl : us.length = (["one", "other"] : List Str).length) : bindArgs (PySem.W.fnOf "times" "times" (defArgs (topS 9)) (defBody (topS 9)) (defScope (topS 9)) .none kV doc pm an cdv ct) ⟨us, []⟩ = pure ((["one", "other"] : List Str).zip us) := match us, hl with | [_, _], _ => rfl
theorem b_over (kV doc pm : Value) (an : Option Addr) (cdv ct : Value) (us : List Value) (hl : us.length = (["one", "other"] : List Str).length) : bindArgs (PySem.W.fnOf "over" "over" (defArgs (topS 10)) (defBody (topS 10)) (defScope (topS 10)) .none kV doc pm an cdv ct) ⟨us, []⟩ = pure ((["one", "other"] : List Str).zip us) := match us, hl with | [_, _], _ => rfl
theorem b_less (kV doc pm : Value) (an : Option Addr) (cdv ct : Value) (us : List Value) (hl : us.length = (["one", "other"] : List Str).length) : bindArgs (PySem.W.fnOf "less" "less" (defArgs (topS 11)) (defBody (topS 11)) (defScope (topS 11)) .none kV doc pm an cdv ct) ⟨us, []⟩ = pure ((["one", "other"] : List Str).zip us) := match us, hl with | [_, _], _ => rfl
theorem b_negative (kV doc pm : Value) (an : Option Addr) (cdv ct : Value) (us : List Value) (hl : us.length = (["one"] : List Str).length) : bindArgs (PySem.W.fnOf "negative" "negative" (defArgs (topS 12)) (defBody (topS 12)) (defScope (topS 12)) .none kV doc pm an cdv ct) ⟨us, []⟩ = pure ((["one"] : List Str).zip us) := match us, hl with | [_], _ => rfl
theorem b_size (kV doc pm : Value) (an : Option Addr) (cdv ct : Value) (us : List Value) (hl : us.length = (["one"] : List Str).length) : bindArgs (PySem.W.fnOf "size" "size" (defArgs (topS 13)) (defBody (topS 13)) (defScope (topS 13)) .none kV doc pm an cdv ct) ⟨us, []⟩ = pure ((["one"] : List Str).zip us) := match us, hl with | [_], _ => rfl
theorem b_summed (kV doc pm : Value) (an : Option Addr) (cdv ct : Value) (us : List Value) (hl : us.length = (["p", "q", "ray"] : List Str).length) : bindArgs (PySem.W.fnOf "summed" "summed" (defArgs (topS 18)) (defBody (topS 18)) (defScope (topS 18)) .none kV doc pm an cdv ct) ⟨us, []⟩ = pure ((["p", "q", "ray"] : List Str).zip us) := match us, hl with | [_, _, _], _ => rfl
theorem b_led (kV doc pm : Value) (an : Option Addr) (cdv ct : Value) (us : List Value) (hl : us.length = (["table", "ray"] : List Str).length) : bindArgs (PySem.W.fnOf "led" "led" (defArgs (topS 19)) (defBody (topS 19)) (defScope (topS 19)) .none kV doc pm an cdv ct) ⟨us, []⟩ = pure ((["table", "ray"] : List Str).zip us) := match us, hl with | [_, _], _ => rfl
theorem b_behind (kV doc pm : Value) (an : Option Addr) (cdv ct : Value) (us : List Value) (hl : us.length = (["one", "other"] : List Str).length) : bindArgs (PySem.W.fnOf "behind" "behind" (defArgs (topS 20)) (defBody (topS 20)) (defScope (topS 20)) .none kV doc pm an cdv ct) ⟨us, []⟩ = pure ((["one", "other"] : List Str).zip us) := match us, hl with | [_, _], _ => rfl
theorem b_cross (kV doc pm : Value) (an : Option Addr) (cdv ct : Value) (us : List Value) (hl : us.length = (["one", "other"] : List Str).length) : bindArgs (PySem.W.fnOf "cross" "cross" (defArgs (topS 21)) (defBody (topS 21)) (defScope (topS 21)) .none kV doc pm an cdv ct) ⟨us, []⟩ = pure ((["one", "other"] : List Str).zip us) := match us, hl with | [_, _], _ => rfl
theorem b_part_table (kV doc pm : Value) (an : Option Addr) (cdv ct : Value) (us : List Value) (hl : us.length = (["part"] : List Str).length) : bindArgs (PySem.W.fnOf "part_table" "part_table" (defArgs (topS 27)) (defBody (topS 27)) (defScope (topS 27)) .none kV doc pm an cdv ct) ⟨us, []⟩ = pure ((["part"] : List Str).zip us) := match us, hl with | [_], _ => rfl
theorem b_lines_of (kV doc pm : Value) (an : Option Addr) (cdv ct : Value) (us : List Value) (hl : us.length = (["bench"] : List Str).length) : bindArgs (PySem.W.fnOf "lines_of" "lines_of" (defArgs (topS 29)) (defBody (topS 29)) (defScope (topS 29)) .none kV doc pm an cdv ct) ⟨us, []⟩ = pure ((["bench"] : List Str).zip us) := match us, hl with | [_], _ => rfl
theorem b_lets_by (kV doc pm : Value) (an : Option Addr) (cdv ct : Value) (us : List Value) (hl : us.length = (["line", "ray"] : List Str).length) : bindArgs (PySem.W.fnOf "lets_by" "lets_by" (defArgs (topS 30)) (defBody (topS 30)) (defScope (topS 30)) .none kV doc pm an cdv ct) ⟨us, []⟩ = pure ((["line", "ray"] : List Str).zip us) := match us, hl with | [_, _], _ => rfl
theorem b_lets (kV doc pm : Value) (an : Option Addr) (cdv ct : Value) (us : List Value) (hl : us.length = (["lines", "ray"] : List Str).length) : bindArgs (PySem.W.fnOf "lets" "lets" (defArgs (topS 31)) (defBody (topS 31)) (defScope (topS 31)) .none kV doc pm an cdv ct) ⟨us, []⟩ = pure ((["lines", "ray"] : List Str).zip us) := match us, hl with | [_, _], _ => rfl
theorem b_by_two (kV doc pm : Value) (an : Option Addr) (cdv ct : Value) (us : List Value) (hl : us.length = (["one", "other", "worth", "more"] : List Str).length) : bindArgs (PySem.W.fnOf "by_two" "by_two" (defArgs (topS 33)) (defBody (topS 33)) (defScope (topS 33)) .none kV doc pm an cdv ct) ⟨us, []⟩ = pure ((["one", "other", "worth", "more"] : List Str).zip us) := match us, hl with | [_, _, _, _], _ => rfl
theorem b_opposite (kV doc pm : Value) (an : Option Addr) (cdv ct : Value) (us : List Value) (hl : us.length = (["ray"] : List Str).length) : bindArgs (PySem.W.fnOf "opposite" "opposite" (defArgs (topS 34)) (defBody (topS 34)) (defScope (topS 34)) .none kV doc pm an cdv ct) ⟨us, []⟩ = pure ((["ray"] : List Str).zip us) := match us, hl with | [_], _ => rfl
theorem b_met_by_two (kV doc pm : Value) (an : Option Addr) (cdv ct : Value) (us : List Value) (hl : us.length = (["lines"] : List Str).length) : bindArgs (PySem.W.fnOf "met_by_two" "met_by_two" (defArgs (topS 35)) (defBody (topS 35)) (defScope (topS 35)) .none kV doc pm an cdv ct) ⟨us, []⟩ = pure ((["lines"] : List Str).zip us) := match us, hl with | [_], _ => rfl
theorem b_is_least (kV doc pm : Value) (an : Option Addr) (cdv ct : Value) (us : List Value) (hl : us.length = (["ray", "other"] : List Str).length) : bindArgs (PySem.W.fnOf "is_least" "is_least" (defArgs (topS 36)) (defBody (topS 36)) (defScope (topS 36)) .none kV doc pm an cdv ct) ⟨us, []⟩ = pure ((["ray", "other"] : List Str).zip us) := match us, hl with | [_, _], _ => rfl
theorem b_least_ray (kV doc pm : Value) (an : Option Addr) (cdv ct : Value) (us : List Value) (hl : us.length = (["rays"] : List Str).length) : bindArgs (PySem.W.fnOf "least_ray" "least_ray" (defArgs (topS 37)) (defBody (topS 37)) (defScope (topS 37)) .none kV doc pm an cdv ct) ⟨us, []⟩ = pure ((["rays"] : List Str).zip us) := match us, hl with | [_], _ => rfl
theorem b_next_around (kV doc pm : Value) (an : Option Addr) (cdv ct : Value) (us : List Value) (hl : us.length = (["rays", "ray"] : List Str).length) : bindArgs (PySem.W.fnOf "next_around" "next_around" (defArgs (topS 38)) (defBody (topS 38)) (defScope (topS 38)) .none kV doc pm an cdv ct) ⟨us, []⟩ = pure ((["rays", "ray"] : List Str).zip us) := match us, hl with | [_, _], _ => rfl
theorem b_corners (kV doc pm : Value) (an : Option Addr) (cdv ct : Value) (us : List Value) (hl : us.length = (["lines"] : List Str).length) : bindArgs (PySem.W.fnOf "corners" "corners" (defArgs (topS 39)) (defBody (topS 39)) (defScope (topS 39)) .none kV doc pm an cdv ct) ⟨us, []⟩ = pure ((["lines"] : List Str).zip us) := match us, hl with | [_], _ => rfl
theorem b_shares_of_two (kV doc pm : Value) (an : Option Addr) (cdv ct : Value) (us : List Value) (hl : us.length = (["lines", "i", "j", "p", "q"] : List Str).length) : bindArgs (PySem.W.fnOf "shares_of_two" "shares_of_two" (defArgs (topS 41)) (defBody (topS 41)) (defScope (topS 41)) .none kV doc pm an cdv ct) ⟨us, []⟩ = pure ((["lines", "i", "j", "p", "q"] : List Str).zip us) := match us, hl with | [_, _, _, _, _], _ => rfl
theorem b_shares_of_one (kV doc pm : Value) (an : Option Addr) (cdv ct : Value) (us : List Value) (hl : us.length = (["lines", "i", "p", "q"] : List Str).length) : bindArgs (PySem.W.fnOf "shares_of_one" "shares_of_one" (defArgs (topS 42)) (defBody (topS 42)) (defScope (topS 42)) .none kV doc pm an cdv ct) ⟨us, []⟩ = pure ((["lines", "i", "p", "q"] : List Str).zip us) := match us, hl with | [_, _, _, _], _ => rfl
theorem b_all_shares (kV doc pm : Value) (an : Option Addr) (cdv ct : Value) (us : List Value) (hl : us.length = (["lines", "p", "q"] : List Str).length) : bindArgs (PySem.W.fnOf "all_shares" "all_shares" (defArgs (topS 43)) (defBody (topS 43)) (defScope (topS 43)) .none kV doc pm an cdv ct) ⟨us, []⟩ = pure ((["lines", "p", "q"] : List Str).zip us) := match us, hl with | [_, _, _], _ => rfl
theorem b_worth_of (kV doc pm : Value) (an : Option Addr) (cdv ct : Value) (us : List Value) (hl : us.length = (["lines", "shares"] : List Str).length) : bindArgs (PySem.W.fnOf "worth_of" "worth_of" (defArgs (topS 44)) (defBody (topS 44)) (defScope (topS 44)) .none kV doc pm an cdv ct) ⟨us, []⟩ = pure ((["lines", "shares"] : List Str).zip us) := match us, hl with | [_, _], _ => rfl
theorem b_least_shares (kV doc pm : Value) (an : Option Addr) (cdv ct : Value) (us : List Value) (hl : us.length = (["lines", "some"] : List Str).length) : bindArgs (PySem.W.fnOf "least_shares" "least_shares" (defArgs (topS 45)) (defBody (topS 45)) (defScope (topS 45)) .none kV doc pm an cdv ct) ⟨us, []⟩ = pure ((["lines", "some"] : List Str).zip us) := match us, hl with | [_, _], _ => rfl
theorem b_ray_on (kV doc pm : Value) (an : Option Addr) (cdv ct : Value) (us : List Value) (hl : us.length = (["line", "worth", "p", "q"] : List Str).length) : bindArgs (PySem.W.fnOf "ray_on" "ray_on" (defArgs (topS 46)) (defBody (topS 46)) (defScope (topS 46)) .none kV doc pm an cdv ct) ⟨us, []⟩ = pure ((["line", "worth", "p", "q"] : List Str).zip us) := match us, hl with | [_, _, _, _], _ => rfl
theorem b_ray_with (kV doc pm : Value) (an : Option Addr) (cdv ct : Value) (us : List Value) (hl : us.length = (["lines", "shares", "p", "q", "value"] : List Str).length) : bindArgs (PySem.W.fnOf "ray_with" "ray_with" (defArgs (topS 47)) (defBody (topS 47)) (defScope (topS 47)) .none kV doc pm an cdv ct) ⟨us, []⟩ = pure ((["lines", "shares", "p", "q", "value"] : List Str).zip us) := match us, hl with | [_, _, _, _, _], _ => rfl
theorem b_free_ray (kV doc pm : Value) (an : Option Addr) (cdv ct : Value) (us : List Value) (hl : us.length = (["lines", "p", "q"] : List Str).length) : bindArgs (PySem.W.fnOf "free_ray" "free_ray" (defArgs (topS 48)) (defBody (topS 48)) (defScope (topS 48)) .none kV doc pm an cdv ct) ⟨us, []⟩ = pure ((["lines", "p", "q"] : List Str).zip us) := match us, hl with | [_, _, _], _ => rfl
theorem b_most (kV doc pm : Value) (an : Option Addr) (cdv ct : Value) (us : List Value) (hl : us.length = (["lines", "p", "q"] : List Str).length) : bindArgs (PySem.W.fnOf "most" "most" (defArgs (topS 49)) (defBody (topS 49)) (defScope (topS 49)) .none kV doc pm an cdv ct) ⟨us, []⟩ = pure ((["lines", "p", "q"] : List Str).zip us) := match us, hl with | [_, _, _], _ => rfl
theorem b_numbered (kV doc pm : Value) (an : Option Addr) (cdv ct : Value) (us : List Value) (hl : us.length = (["shares", "k"] : List Str).length) : bindArgs (PySem.W.fnOf "numbered" "numbered" (defArgs (topS 51)) (defBody (topS 51)) (defScope (topS 51)) .none kV doc pm an cdv ct) ⟨us, []⟩ = pure ((["shares", "k"] : List Str).zip us) := match us, hl with | [_, _], _ => rfl
theorem b_idle (kV doc pm : Value) (an : Option Addr) (cdv ct : Value) (us : List Value) (hl : us.length = (["lines", "k"] : List Str).length) : bindArgs (PySem.W.fnOf "idle" "idle" (defArgs (topS 52)) (defBody (topS 52)) (defScope (topS 52)) .none kV doc pm an cdv ct) ⟨us, []⟩ = pure ((["lines", "k"] : List Str).zip us) := match us, hl with | [_, _], _ => rfl
theorem b_law_pool (kV doc pm : Value) (an : Option Addr) (cdv ct : Value) (us : List Value) (hl : us.length = (["cell"] : List Str).length) : bindArgs (PySem.W.fnOf "_law_pool" "_law_pool" (defArgs (topS 54)) (defBody (topS 54)) (defScope (topS 54)) .none kV doc pm an cdv ct) ⟨us, []⟩ = pure ((["cell"] : List Str).zip us) := match us, hl with | [_], _ => rfl
theorem b_law_next (kV doc pm : Value) (an : Option Addr) (cdv ct : Value) (us : List Value) (hl : us.length = (["pool", "base"] : List Str).length) : bindArgs (PySem.W.fnOf "_law_next" "_law_next" (defArgs (topS 55)) (defBody (topS 55)) (defScope (topS 55)) .none kV doc pm an cdv ct) ⟨us, []⟩ = pure ((["pool", "base"] : List Str).zip us) := match us, hl with | [_, _], _ => rfl
theorem b_law_cells (kV doc pm : Value) (an : Option Addr) (cdv ct : Value) (us : List Value) (hl : us.length = (["script", "bound"] : List Str).length) : bindArgs (PySem.W.fnOf "_law_cells" "_law_cells" (defArgs (topS 56)) (defBody (topS 56)) (defScope (topS 56)) .none kV doc pm an cdv ct) ⟨us, []⟩ = pure ((["script", "bound"] : List Str).zip us) := match us, hl with | [_, _], _ => rfl
theorem b_law_wide (kV doc pm : Value) (an : Option Addr) (cdv ct : Value) (us : List Value) (hl : us.length = (["pool", "base"] : List Str).length) : bindArgs (PySem.W.fnOf "_law_wide" "_law_wide" (defArgs (topS 57)) (defBody (topS 57)) (defScope (topS 57)) .none kV doc pm an cdv ct) ⟨us, []⟩ = pure ((["pool", "base"] : List Str).zip us) := match us, hl with | [_, _], _ => rfl
theorem b_law_low (kV doc pm : Value) (an : Option Addr) (cdv ct : Value) (us : List Value) (hl : us.length = (["top", "bottom"] : List Str).length) : bindArgs (PySem.W.fnOf "_law_low" "_law_low" (defArgs (topS 58)) (defBody (topS 58)) (defScope (topS 58)) .none kV doc pm an cdv ct) ⟨us, []⟩ = pure ((["top", "bottom"] : List Str).zip us) := match us, hl with | [_, _], _ => rfl
theorem b_law_sum (kV doc pm : Value) (an : Option Addr) (cdv ct : Value) (us : List Value) (hl : us.length = (["one", "other"] : List Str).length) : bindArgs (PySem.W.fnOf "_law_sum" "_law_sum" (defArgs (topS 59)) (defBody (topS 59)) (defScope (topS 59)) .none kV doc pm an cdv ct) ⟨us, []⟩ = pure ((["one", "other"] : List Str).zip us) := match us, hl with | [_, _], _ => rfl
theorem b_law_taken (kV doc pm : Value) (an : Option Addr) (cdv ct : Value) (us : List Value) (hl : us.length = (["one", "other"] : List Str).length) : bindArgs (PySem.W.fnOf "_law_taken" "_law_taken" (defArgs (topS 60)) (defBody (topS 60)) (defScope (topS 60)) .none kV doc pm an cdv ct) ⟨us, []⟩ = pure ((["one", "other"] : List Str).zip us) := match us, hl with | [_, _], _ => rfl
theorem b_law_back (kV doc pm : Value) (an : Option Addr) (cdv ct : Value) (us : List Value) (hl : us.length = (["one"] : List Str).length) : bindArgs (PySem.W.fnOf "_law_back" "_law_back" (defArgs (topS 61)) (defBody (topS 61)) (defScope (topS 61)) .none kV doc pm an cdv ct) ⟨us, []⟩ = pure ((["one"] : List Str).zip us) := match us, hl with | [_], _ => rfl
theorem b_law_below (kV doc pm : Value) (an : Option Addr) (cdv ct : Value) (us : List Value) (hl : us.length = (["one", "other"] : List Str).length) : bindArgs (PySem.W.fnOf "_law_below" "_law_below" (defArgs (topS 62)) (defBody (topS 62)) (defScope (topS 62)) .none kV doc pm an cdv ct) ⟨us, []⟩ = pure ((["one", "other"] : List Str).zip us) := match us, hl with | [_, _], _ => rfl
theorem b_law_number (kV doc pm : Value) (an : Option Addr) (cdv ct : Value) (us : List Value) (hl : us.length = (["pool"] : List Str).length) : bindArgs (PySem.W.fnOf "_law_number" "_law_number" (defArgs (topS 63)) (defBody (topS 63)) (defScope (topS 63)) .none kV doc pm an cdv ct) ⟨us, []⟩ = pure ((["pool"] : List Str).zip us) := match us, hl with | [_], _ => rfl
theorem b_law_ray (kV doc pm : Value) (an : Option Addr) (cdv ct : Value) (us : List Value) (hl : us.length = (["pool"] : List Str).length) : bindArgs (PySem.W.fnOf "_law_ray" "_law_ray" (defArgs (topS 64)) (defBody (topS 64)) (defScope (topS 64)) .none kV doc pm an cdv ct) ⟨us, []⟩ = pure ((["pool"] : List Str).zip us) := match us, hl with | [_], _ => rfl
theorem b_law_line (kV doc pm : Value) (an : Option Addr) (cdv ct : Value) (us : List Value) (hl : us.length = (["pool"] : List Str).length) : bindArgs (PySem.W.fnOf "_law_line" "_law_line" (defArgs (topS 65)) (defBody (topS 65)) (defScope (topS 65)) .none kV doc pm an cdv ct) ⟨us, []⟩ = pure ((["pool"] : List Str).zip us) := match us, hl with | [_], _ => rfl
theorem b_law_lines (kV doc pm : Value) (an : Option Addr) (cdv ct : Value) (us : List Value) (hl : us.length = (["pool", "most_lines"] : List Str).length) : bindArgs (PySem.W.fnOf "_law_lines" "_law_lines" (defArgs (topS 66)) (defBody (topS 66)) (defScope (topS 66)) .none kV doc pm an cdv ct) ⟨us, []⟩ = pure ((["pool", "most_lines"] : List Str).zip us) := match us, hl with | [_, _], _ => rfl
theorem b_law_worth (kV doc pm : Value) (an : Option Addr) (cdv ct : Value) (us : List Value) (hl : us.length = (["p", "q", "ray"] : List Str).length) : bindArgs (PySem.W.fnOf "_law_worth" "_law_worth" (defArgs (topS 67)) (defBody (topS 67)) (defScope (topS 67)) .none kV doc pm an cdv ct) ⟨us, []⟩ = pure ((["p", "q", "ray"] : List Str).zip us) := match us, hl with | [_, _, _], _ => rfl
theorem b_law_bare (kV doc pm : Value) (an : Option Addr) (cdv ct : Value) (us : List Value) (hl : us.length = (["one"] : List Str).length) : bindArgs (PySem.W.fnOf "_law_bare" "_law_bare" (defArgs (topS 68)) (defBody (topS 68)) (defScope (topS 68)) .none kV doc pm an cdv ct) ⟨us, []⟩ = pure ((["one"] : List Str).zip us) := match us, hl with | [_], _ => rfl
theorem b_law_part (kV doc pm : Value) (an : Option Addr) (cdv ct : Value) (us : List Value) (hl : us.length = (["pool"] : List Str).length) : bindArgs (PySem.W.fnOf "_law_part" "_law_part" (defArgs (topS 70)) (defBody (topS 70)) (defScope (topS 70)) .none kV doc pm an cdv ct) ⟨us, []⟩ = pure ((["pool"] : List Str).zip us) := match us, hl with | [_], _ => rfl
theorem b_law_asked (kV doc pm : Value) (an : Option Addr) (cdv ct : Value) (us : List Value) (hl : us.length = (["pool", "lines"] : List Str).length) : bindArgs (PySem.W.fnOf "_law_asked" "_law_asked" (defArgs (topS 71)) (defBody (topS 71)) (defScope (topS 71)) .none kV doc pm an cdv ct) ⟨us, []⟩ = pure ((["pool", "lines"] : List Str).zip us) := match us, hl with | [_, _], _ => rfl
theorem b_law_less (kV doc pm : Value) (an : Option Addr) (cdv ct : Value) (us : List Value) (hl : us.length = (["one", "other"] : List Str).length) : bindArgs (PySem.W.fnOf "_law_less" "_law_less" (defArgs (topS 72)) (defBody (topS 72)) (defScope (topS 72)) .none kV doc pm an cdv ct) ⟨us, []⟩ = pure ((["one", "other"] : List Str).zip us) := match us, hl with | [_, _], _ => rfl
theorem b_law_cross (kV doc pm : Value) (an : Option Addr) (cdv ct : Value) (us : List Value) (hl : us.length = (["one", "other"] : List Str).length) : bindArgs (PySem.W.fnOf "_law_cross" "_law_cross" (defArgs (topS 73)) (defBody (topS 73)) (defScope (topS 73)) .none kV doc pm an cdv ct) ⟨us, []⟩ = pure ((["one", "other"] : List Str).zip us) := match us, hl with | [_, _], _ => rfl
theorem b_law_inside (kV doc pm : Value) (an : Option Addr) (cdv ct : Value) (us : List Value) (hl : us.length = (["rays", "ray"] : List Str).length) : bindArgs (PySem.W.fnOf "_law_inside" "_law_inside" (defArgs (topS 74)) (defBody (topS 74)) (defScope (topS 74)) .none kV doc pm an cdv ct) ⟨us, []⟩ = pure ((["rays", "ray"] : List Str).zip us) := match us, hl with | [_, _], _ => rfl
theorem b_law_most_right (kV doc pm : Value) (an : Option Addr) (cdv ct : Value) (us : List Value) (hl : us.length = (["lines", "rays", "p", "q"] : List Str).length) : bindArgs (PySem.W.fnOf "_law_most_right" "_law_most_right" (defArgs (topS 75)) (defBody (topS 75)) (defScope (topS 75)) .none kV doc pm an cdv ct) ⟨us, []⟩ = pure ((["lines", "rays", "p", "q"] : List Str).zip us) := match us, hl with | [_, _, _, _], _ => rfl
theorem b_law_idle_right (kV doc pm : Value) (an : Option Addr) (cdv ct : Value) (us : List Value) (hl : us.length = (["lines", "rays", "k"] : List Str).length) : bindArgs (PySem.W.fnOf "_law_idle_right" "_law_idle_right" (defArgs (topS 76)) (defBody (topS 76)) (defScope (topS 76)) .none kV doc pm an cdv ct) ⟨us, []⟩ = pure ((["lines", "rays", "k"] : List Str).zip us) := match us, hl with | [_, _, _], _ => rfl
theorem all_mk {l : PySem.W.OpenLaw} {w : World} {K : PySem.W.Frag} {h : Heap} {mg : Str → Option Value} {fa : Addr} (X : K.In h) (G : h.Ns mainGlobals mg) (hfa : mg "law" = some (.ref fa))
    {f0 f1 f2 f3 f4 f5 f6 f7 f8 f9 f10 f11 f12 f13 f14 f15 f16 f17 f18 f19 f20 f21 f22 f23 f24 f25 f26 f27 f28 f29 f30 f31 f32 f33 f34 f35 f36 f37 f38 f39 f40 f41 f42 f43 f44 f45 f46 f47 f48 f49 f50 f51 f52 f53 f54 f55 f56 fL fR T2 fS e0 e1 e2 e3 : Addr}
    (F0 : Fx K "is_whole" (topS 4) f0)
    (F1 : Fx K "divisor" (topS 5) f1)
    (F2 : Fx K "plus" (topS 7) f2)
    (F3 : Fx K "minus" (topS 8) f3)
    (F4 : Fx K "times" (topS 9) f4)
    (F5 : Fx K "over" (topS 10) f5)
    (F6 : Fx K "less" (topS 11) f6)
    (F7 : Fx K "negative" (topS 12) f7)
    (F8 : Fx K "size" (topS 13) f8)
    (F9 : Fx K "summed" (topS 18) f9)
    (F10 : Fx K "led" (topS 19) f10)
    (F11 : Fx K "behind" (topS 20) f11)
    (F12 : Fx K "cross" (topS 21) f12)
    (F13 : Fx K "part_table" (topS 27) f13)
    (F14 : Fx K "lines_of" (topS 29) f14)
    (F15 : Fx K "lets_by" (topS 30) f15)
    (F16 : Fx K "lets" (topS 31) f16)
    (F17 : Fx K "by_two" (topS 33) f17)
    (F18 : Fx K "opposite" (topS 34) f18)
    (F19 : Fx K "met_by_two" (topS 35) f19)
    (F20 : Fx K "is_least" (topS 36) f20)
    (F21 : Fx K "least_ray" (topS 37) f21)
    (F22 : Fx K "next_around" (topS 38) f22)
    (F23 : Fx K "corners" (topS 39) f23)
    (F24 : Fx K "shares_of_two" (topS 41) f24)
    (F25 : Fx K "shares_of_one" (topS 42) f25)
    (F26 : Fx K "all_shares" (topS 43) f26)
    (F27 : Fx K "worth_of" (topS 44) f27)
    (F28 : Fx K "least_shares" (topS 45) f28)
    (F29 : Fx K "ray_on" (topS 46) f29)
    (F30 : Fx K "ray_with" (topS 47) f30)
    (F31 : Fx K "free_ray" (topS 48) f31)
    (F32 : Fx K "most" (topS 49) f32)
    (F33 : Fx K "numbered" (topS 51) f33)
    (F34 : Fx K "idle" (topS 52) f34)
    (F35 : Fx K "_law_pool" (topS 54) f35)
    (F36 : Fx K "_law_next" (topS 55) f36)
    (F37 : Fx K "_law_cells" (topS 56) f37)
    (F38 : Fx K "_law_wide" (topS 57) f38)
    (F39 : Fx K "_law_low" (topS 58) f39)
    (F40 : Fx K "_law_sum" (topS 59) f40)
    (F41 : Fx K "_law_taken" (topS 60) f41)
    (F42 : Fx K "_law_back" (topS 61) f42)
    (F43 : Fx K "_law_below" (topS 62) f43)
    (F44 : Fx K "_law_number" (topS 63) f44)
    (F45 : Fx K "_law_ray" (topS 64) f45)
    (F46 : Fx K "_law_line" (topS 65) f46)
    (F47 : Fx K "_law_lines" (topS 66) f47)
    (F48 : Fx K "_law_worth" (topS 67) f48)
    (F49 : Fx K "_law_bare" (topS 68) f49)
    (F50 : Fx K "_law_part" (topS 70) f50)
    (F51 : Fx K "_law_asked" (topS 71) f51)
    (F52 : Fx K "_law_less" (topS 72) f52)
    (F53 : Fx K "_law_cross" (topS 73) f53)
    (F54 : Fx K "_law_inside" (topS 74) f54)
    (F55 : Fx K "_law_most_right" (topS 75) f55)
    (F56 : Fx K "_law_idle_right" (topS 76) f56)
    {oR oS o0 o1 o2 o3 : Obj} {odR anR : Option Addr} {slR : Array (Option Value)} {ocR kVR dcR pmR cdR ctR : Value}
    (aR : PySem.W.nsIn K mainGlobals "ratio" = some (some (.ref fR))) (lR : K.lookup fR = some ⟨ocR, odR, .func (PySem.W.fnOf "ratio" "ratio" (defArgs (topS 6)) (defBody (topS 6)) (defScope (topS 6)) (.ref T2) kVR dcR pmR anR cdR ctR), slR⟩) (cR : PySem.W.codeIn K cdR "ratio" = true) (kR : PySem.W.keepIn K (.ref fR) = true)
    (lT : K.lookup T2 = some oR) (tT : ∃ (t : Tok) (n : Nat), oR.data = .seq [Value.int 1 t].toArray n)
    (ca0 : PySem.W.nsIn K mainGlobals "NOUGHT_tables" = some (some (.ref e0))) (cl0 : K.lookup e0 = some o0) (ct0 : Tup2 o0 0 1)
    (ca1 : PySem.W.nsIn K mainGlobals "ONE_tables" = some (some (.ref e1))) (cl1 : K.lookup e1 = some o1) (ct1 : Tup2 o1 1 1)
    (ca2 : PySem.W.nsIn K mainGlobals "NOUGHT_benches" = some (some (.ref e2))) (cl2 : K.lookup e2 = some o2) (ct2 : Tup2 o2 0 1)
    (ca3 : PySem.W.nsIn K mainGlobals "ONE_benches" = some (some (.ref e3))) (cl3 : K.lookup e3 = some o3) (ct3 : Tup2 o3 1 1)
    (aS : PySem.W.nsIn K mainGlobals "SAME" = some (some (.ref fS))) (lS : K.lookup fS = some oS) (tS : Tup4 oS e1 e0)
    {y0 : Str} {t0 : Tok} (sa0 : PySem.W.nsIn K mainGlobals "GAP" = some (some (.str y0 t0))) (se0 : y0 = "gap")
    {y1 : Str} {t1 : Tok} (sa1 : PySem.W.nsIn K mainGlobals "GLASS" = some (some (.str y1 t1))) (se1 : y1 = "glass")
    (z0 : PySem.W.nsIn K mainGlobals "isinstance" = some none)
    (z1 : PySem.W.nsIn K mainGlobals "int" = some none)
    (z2 : PySem.W.nsIn K mainGlobals "bool" = some none)
    (z3 : PySem.W.nsIn K mainGlobals "abs" = some none)
    (z4 : PySem.W.nsIn K mainGlobals "all" = some none)
    (z5 : PySem.W.nsIn K mainGlobals "any" = some none)
    (z6 : PySem.W.nsIn K mainGlobals "len" = some none)
    (z7 : PySem.W.nsIn K mainGlobals "list" = some none)
    (z8 : PySem.W.nsIn K mainGlobals "max" = some none)
    (z9 : PySem.W.nsIn K mainGlobals "min" = some none)
    (z10 : PySem.W.nsIn K mainGlobals "range" = some none)
    (z11 : PySem.W.nsIn K mainGlobals "enumerate" = some none)
    (z12 : PySem.W.nsIn K mainGlobals "zip" = some none)
    (FL : Fx K "law" (topS 77) fL) :
    ∃ fd : FuncData, (∀ (s : Shared) (v : Value), BindsTo s fd ⟨[v], []⟩ [("script", v)]) ∧ ∀ base : Heap, K.In base → base.Ns mainGlobals mg → FnOk l.prog w K mg base CX0 13 fa fd ["script"] (spLaw K) := by
  obtain ⟨fd, F, a⟩ := FL.ex
  have e := hfa.symm.trans (PySem.W.mg_of X G a)
  cases e
  have T : Tx K mg := {
    d_is_whole := df_of X G b_is_whole F0
    d_divisor := df_of X G b_divisor F1
    d_plus := df_of X G b_plus F2
    d_minus := df_of X G b_minus F3
    d_times := df_of X G b_times F4
    d_over := df_of X G b_over F5
    d_less := df_of X G b_less F6
    d_negative := df_of X G b_negative F7
    d_size := df_of X G b_size F8
    d_summed := df_of X G b_summed F9
    d_led := df_of X G b_led F10
    d_behind := df_of X G b_behind F11
    d_cross := df_of X G b_cross F12
    d_part_table := df_of X G b_part_table F13
    d_lines_of := df_of X G b_lines_of F14
    d_lets_by := df_of X G b_lets_by F15
    d_lets := df_of X G b_lets F16
    d_by_two := df_of X G b_by_two F17
    d_opposite := df_of X G b_opposite F18
    d_met_by_two := df_of X G b_met_by_two F19
    d_is_least := df_of X G b_is_least F20
    d_least_ray := df_of X G b_least_ray F21
    d_next_around := df_of X G b_next_around F22
    d_corners := df_of X G b_corners F23
    d_shares_of_two := df_of X G b_shares_of_two F24
    d_shares_of_one := df_of X G b_shares_of_one F25
    d_all_shares := df_of X G b_all_shares F26
    d_worth_of := df_of X G b_worth_of F27
    d_least_shares := df_of X G b_least_shares F28
    d_ray_on := df_of X G b_ray_on F29
    d_ray_with := df_of X G b_ray_with F30
    d_free_ray := df_of X G b_free_ray F31
    d_most := df_of X G b_most F32
    d_numbered := df_of X G b_numbered F33
    d_idle := df_of X G b_idle F34
    d_law_pool := df_of X G b_law_pool F35
    d_law_next := df_of X G b_law_next F36
    d_law_cells := df_of X G b_law_cells F37
    d_law_wide := df_of X G b_law_wide F38
    d_law_low := df_of X G b_law_low F39
    d_law_sum := df_of X G b_law_sum F40
    d_law_taken := df_of X G b_law_taken F41
    d_law_back := df_of X G b_law_back F42
    d_law_below := df_of X G b_law_below F43
    d_law_number := df_of X G b_law_number F44
    d_law_ray := df_of X G b_law_ray F45
    d_law_line := df_of X G b_law_line F46
    d_law_lines := df_of X G b_law_lines F47
    d_law_worth := df_of X G b_law_worth F48
    d_law_bare := df_of X G b_law_bare F49
    d_law_part := df_of X G b_law_part F50
    d_law_asked := df_of X G b_law_asked F51
    d_law_less := df_of X G b_law_less F52
    d_law_cross := df_of X G b_law_cross F53
    d_law_inside := df_of X G b_law_inside F54
    d_law_most_right := df_of X G b_law_most_right F55
    d_law_idle_right := df_of X G b_law_idle_right F56
    d_ratio := dr_of X G aR lR cR kR lT tT
    c_NOUGHT_tables := cn2_of X G ca0 cl0 ct0
    c_ONE_tables := cn2_of X G ca1 cl1 ct1
    c_NOUGHT_benches := cn2_of X G ca2 cl2 ct2
    c_ONE_benches := cn2_of X G ca3 cl3 ct3
    c_SAME := cn4_of X G aS lS tS cl1 ct1 cl0 ct0
    c_GAP := cns_of X G sa0 se0
    c_GLASS := cns_of X G sa1 se1
    n_isinstance := PySem.W.mg_none_of X G z0
    n_int := PySem.W.mg_none_of X G z1
    n_bool := PySem.W.mg_none_of X G z2
    n_abs := PySem.W.mg_none_of X G z3
    n_all := PySem.W.mg_none_of X G z4
    n_any := PySem.W.mg_none_of X G z5
    n_len := PySem.W.mg_none_of X G z6
    n_list := PySem.W.mg_none_of X G z7
    n_max := PySem.W.mg_none_of X G z8
    n_min := PySem.W.mg_none_of X G z9
    n_range := PySem.W.mg_none_of X G z10
    n_enumerate := PySem.W.mg_none_of X G z11
    n_zip := PySem.W.mg_none_of X G z12
  }
  have hb : ∀ (s : Shared) (v : Value), BindsTo s fd ⟨[v], []⟩ [("script", v)] := by
    obtain ⟨oc, od, kV, doc, pm, an, cdv, ct, osl, rfl, lk, hcd⟩ := F.ex
    exact fun s v => .of_eq rfl
  exact ⟨fd, hb, fun base _ _ => ok_law T F⟩
end Wk


set_option Elab.async false
set_option linter.all false
set_option maxRecDepth 100000
open PySem PySem.W PyProof.Rows
set_option maxHeartbeats 0 in
theorem PySem.Challenge.cw_roundglass_k28_whole_corners_and_most_holds : PySem.Challenge.rw_roundglass_k28_whole_corners_and_most.Holds := by
  w_on; o_law; k_head; (case hw => w_witness2)
  k_fill
  refine L2.walk_of (l := PySem.Challenge.rw_roundglass_k28_whole_corners_and_most) (n := 63) (k := 13) (x := "script") (CX := fun _ => L2.CX0) (sp := fun w => Wk.spLaw _) rfl (by decide) rfl ⟨rfl, by decide, by decide⟩ (fun w h Y => PySem.W.kIn_of Y) ?F (fun _ _ a ns hl _ hS => ⟨a, ns, rfl, hS, hl, fun _ => rfl⟩) (fun _ _ _ _ _ h => h)
  case F =>
    intro w mg fa h KX G hmg
    refine' Wk.all_mk KX G hmg
      (Wk.fx_mk ?a0 ?l0 ?c0 ?k0)
      (Wk.fx_mk ?a1 ?l1 ?c1 ?k1)
      (Wk.fx_mk ?a2 ?l2 ?c2 ?k2)
      (Wk.fx_mk ?a3 ?l3 ?c3 ?k3)
      (Wk.fx_mk ?a4 ?l4 ?c4 ?k4)
      (Wk.fx_mk ?a5 ?l5 ?c5 ?k5)
      (Wk.fx_mk ?a6 ?l6 ?c6 ?k6)
      (Wk.fx_mk ?a7 ?l7 ?c7 ?k7)
      (Wk.fx_mk ?a8 ?l8 ?c8 ?k8)
      (Wk.fx_mk ?a9 ?l9 ?c9 ?k9)
      (Wk.fx_mk ?a10 ?l10 ?c10 ?k10)
      (Wk.fx_mk ?a11 ?l11 ?c11 ?k11)
      (Wk.fx_mk ?a12 ?l12 ?c12 ?k12)
      (Wk.fx_mk ?a13 ?l13 ?c13 ?k13)
      (Wk.fx_mk ?a14 ?l14 ?c14 ?k14)
      (Wk.fx_mk ?a15 ?l15 ?c15 ?k15)
      (Wk.fx_mk ?a16 ?l16 ?c16 ?k16)
      (Wk.fx_mk ?a17 ?l17 ?c17 ?k17)
      (Wk.fx_mk ?a18 ?l18 ?c18 ?k18)
      (Wk.fx_mk ?a19 ?l19 ?c19 ?k19)
      (Wk.fx_mk ?a20 ?l20 ?c20 ?k20)
      (Wk.fx_mk ?a21 ?l21 ?c21 ?k21)
      (Wk.fx_mk ?a22 ?l22 ?c22 ?k22)
      (Wk.fx_mk ?a23 ?l23 ?c23 ?k23)
      (Wk.fx_mk ?a24 ?l24 ?c24 ?k24)
      (Wk.fx_mk ?a25 ?l25 ?c25 ?k25)
      (Wk.fx_mk ?a26 ?l26 ?c26 ?k26)
      (Wk.fx_mk ?a27 ?l27 ?c27 ?k27)
      (Wk.fx_mk ?a28 ?l28 ?c28 ?k28)
      (Wk.fx_mk ?a29 ?l29 ?c29 ?k29)
      (Wk.fx_mk ?a30 ?l30 ?c30 ?k30)
      (Wk.fx_mk ?a31 ?l31 ?c31 ?k31)
      (Wk.fx_mk ?a32 ?l32 ?c32 ?k32)
      (Wk.fx_mk ?a33 ?l33 ?c33 ?k33)
      (Wk.fx_mk ?a34 ?l34 ?c34 ?k34)
      (Wk.fx_mk ?a35 ?l35 ?c35 ?k35)
      (Wk.fx_mk ?a36 ?l36 ?c36 ?k36)
      (Wk.fx_mk ?a37 ?l37 ?c37 ?k37)
      (Wk.fx_mk ?a38 ?l38 ?c38 ?k38)
      (Wk.fx_mk ?a39 ?l39 ?c39 ?k39)
      (Wk.fx_mk ?a40 ?l40 ?c40 ?k40)
      (Wk.fx_mk ?a41 ?l41 ?c41 ?k41)
      (Wk.fx_mk ?a42 ?l42 ?c42 ?k42)
      (Wk.fx_mk ?a43 ?l43 ?c43 ?k43)
      (Wk.fx_mk ?a44 ?l44 ?c44 ?k44)
      (Wk.fx_mk ?a45 ?l45 ?c45 ?k45)
      (Wk.fx_mk ?a46 ?l46 ?c46 ?k46)
      (Wk.fx_mk ?a47 ?l47 ?c47 ?k47)
      (Wk.fx_mk ?a48 ?l48 ?c48 ?k48)
      (Wk.fx_mk ?a49 ?l49 ?c49 ?k49)
      (Wk.fx_mk ?a50 ?l50 ?c50 ?k50)
      (Wk.fx_mk ?a51 ?l51 ?c51 ?k51)
      (Wk.fx_mk ?a52 ?l52 ?c52 ?k52)
      (Wk.fx_mk ?a53 ?l53 ?c53 ?k53)
      (Wk.fx_mk ?a54 ?l54 ?c54 ?k54)
      (Wk.fx_mk ?a55 ?l55 ?c55 ?k55)
      (Wk.fx_mk ?a56 ?l56 ?c56 ?k56)
      ?aR ?lR ?cR ?kR ?lT ?tT
      ?ca0 ?cl0 ?ct0
      ?ca1 ?cl1 ?ct1
      ?ca2 ?cl2 ?ct2
      ?ca3 ?cl3 ?ct3
      ?aS ?lS ?tS
      ?sa0 ?se0
      ?sa1 ?se1
      ?z0
      ?z1
      ?z2
      ?z3
      ?z4
      ?z5
      ?z6
      ?z7
      ?z8
      ?z9
      ?z10
      ?z11
      ?z12
      (Wk.fx_mk ?aL ?lL ?cL ?kL)
    (case a0 => k_is)
    (case l0 => k_is)
    (case c0 => k_is)
    (case k0 => k_is)
    (case a1 => k_is)
    (case l1 => k_is)
    (case c1 => k_is)
    (case k1 => k_is)
    (case a2 => k_is)
    (case l2 => k_is)
    (case c2 => k_is)
    (case k2 => k_is)
    (case a3 => k_is)
    (case l3 => k_is)
    (case c3 => k_is)
    (case k3 => k_is)
    (case a4 => k_is)
    (case l4 => k_is)
    (case c4 => k_is)
    (case k4 => k_is)
    (case a5 => k_is)
    (case l5 => k_is)
    (case c5 => k_is)
    (case k5 => k_is)
    (case a6 => k_is)
    (case l6 => k_is)
    (case c6 => k_is)
    (case k6 => k_is)
    (case a7 => k_is)
    (case l7 => k_is)
    (case c7 => k_is)
    (case k7 => k_is)
    (case a8 => k_is)
    (case l8 => k_is)
    (case c8 => k_is)
    (case k8 => k_is)
    (case a9 => k_is)
    (case l9 => k_is)
    (case c9 => k_is)
    (case k9 => k_is)
    (case a10 => k_is)
    (case l10 => k_is)
    (case c10 => k_is)
    (case k10 => k_is)
    (case a11 => k_is)
    (case l11 => k_is)
    (case c11 => k_is)
    (case k11 => k_is)
    (case a12 => k_is)
    (case l12 => k_is)
    (case c12 => k_is)
    (case k12 => k_is)
    (case a13 => k_is)
    (case l13 => k_is)
    (case c13 => k_is)
    (case k13 => k_is)
    (case a14 => k_is)
    (case l14 => k_is)
    (case c14 => k_is)
    (case k14 => k_is)
    (case a15 => k_is)
    (case l15 => k_is)
    (case c15 => k_is)
    (case k15 => k_is)
    (case a16 => k_is)
    (case l16 => k_is)
    (case c16 => k_is)
    (case k16 => k_is)
    (case a17 => k_is)
    (case l17 => k_is)
    (case c17 => k_is)
    (case k17 => k_is)
    (case a18 => k_is)
    (case l18 => k_is)
    (case c18 => k_is)
    (case k18 => k_is)
    (case a19 => k_is)
    (case l19 => k_is)
    (case c19 => k_is)
    (case k19 => k_is)
    (case a20 => k_is)
    (case l20 => k_is)
    (case c20 => k_is)
    (case k20 => k_is)
    (case a21 => k_is)
    (case l21 => k_is)
    (case c21 => k_is)
    (case k21 => k_is)
    (case a22 => k_is)
    (case l22 => k_is)
    (case c22 => k_is)
    (case k22 => k_is)
    (case a23 => k_is)
    (case l23 => k_is)
    (case c23 => k_is)
    (case k23 => k_is)
    (case a24 => k_is)
    (case l24 => k_is)
    (case c24 => k_is)
    (case k24 => k_is)
    (case a25 => k_is)
    (case l25 => k_is)
    (case c25 => k_is)
    (case k25 => k_is)
    (case a26 => k_is)
    (case l26 => k_is)
    (case c26 => k_is)
    (case k26 => k_is)
    (case a27 => k_is)
    (case l27 => k_is)
    (case c27 => k_is)
    (case k27 => k_is)
    (case a28 => k_is)
    (case l28 => k_is)
    (case c28 => k_is)
    (case k28 => k_is)
    (case a29 => k_is)
    (case l29 => k_is)
    (case c29 => k_is)
    (case k29 => k_is)
    (case a30 => k_is)
    (case l30 => k_is)
    (case c30 => k_is)
    (case k30 => k_is)
    (case a31 => k_is)
    (case l31 => k_is)
    (case c31 => k_is)
    (case k31 => k_is)
    (case a32 => k_is)
    (case l32 => k_is)
    (case c32 => k_is)
    (case k32 => k_is)
    (case a33 => k_is)
    (case l33 => k_is)
    (case c33 => k_is)
    (case k33 => k_is)
    (case a34 => k_is)
    (case l34 => k_is)
    (case c34 => k_is)
    (case k34 => k_is)
    (case a35 => k_is)
    (case l35 => k_is)
    (case c35 => k_is)
    (case k35 => k_is)
    (case a36 => k_is)
    (case l36 => k_is)
    (case c36 => k_is)
    (case k36 => k_is)
    (case a37 => k_is)
    (case l37 => k_is)
    (case c37 => k_is)
    (case k37 => k_is)
    (case a38 => k_is)
    (case l38 => k_is)
    (case c38 => k_is)
    (case k38 => k_is)
    (case a39 => k_is)
    (case l39 => k_is)
    (case c39 => k_is)
    (case k39 => k_is)
    (case a40 => k_is)
    (case l40 => k_is)
    (case c40 => k_is)
    (case k40 => k_is)
    (case a41 => k_is)
    (case l41 => k_is)
    (case c41 => k_is)
    (case k41 => k_is)
    (case a42 => k_is)
    (case l42 => k_is)
    (case c42 => k_is)
    (case k42 => k_is)
    (case a43 => k_is)
    (case l43 => k_is)
    (case c43 => k_is)
    (case k43 => k_is)
    (case a44 => k_is)
    (case l44 => k_is)
    (case c44 => k_is)
    (case k44 => k_is)
    (case a45 => k_is)
    (case l45 => k_is)
    (case c45 => k_is)
    (case k45 => k_is)
    (case a46 => k_is)
    (case l46 => k_is)
    (case c46 => k_is)
    (case k46 => k_is)
    (case a47 => k_is)
    (case l47 => k_is)
    (case c47 => k_is)
    (case k47 => k_is)
    (case a48 => k_is)
    (case l48 => k_is)
    (case c48 => k_is)
    (case k48 => k_is)
    (case a49 => k_is)
    (case l49 => k_is)
    (case c49 => k_is)
    (case k49 => k_is)
    (case a50 => k_is)
    (case l50 => k_is)
    (case c50 => k_is)
    (case k50 => k_is)
    (case a51 => k_is)
    (case l51 => k_is)
    (case c51 => k_is)
    (case k51 => k_is)
    (case a52 => k_is)
    (case l52 => k_is)
    (case c52 => k_is)
    (case k52 => k_is)
    (case a53 => k_is)
    (case l53 => k_is)
    (case c53 => k_is)
    (case k53 => k_is)
    (case a54 => k_is)
    (case l54 => k_is)
    (case c54 => k_is)
    (case k54 => k_is)
    (case a55 => k_is)
    (case l55 => k_is)
    (case c55 => k_is)
    (case k55 => k_is)
    (case a56 => k_is)
    (case l56 => k_is)
    (case c56 => k_is)
    (case k56 => k_is)
    (case aR => k_is)
    (case lR => k_is)
    (case cR => k_is)
    (case kR => k_is)
    (case lT => k_is)
    (case tT => exact ⟨_, _, rfl⟩)
    (case ca0 => k_is)
    (case cl0 => k_is)
    (case ct0 => exact ⟨rfl, _, _, _, rfl⟩)
    (case ca1 => k_is)
    (case cl1 => k_is)
    (case ct1 => exact ⟨rfl, _, _, _, rfl⟩)
    (case ca2 => k_is)
    (case cl2 => k_is)
    (case ct2 => exact ⟨rfl, _, _, _, rfl⟩)
    (case ca3 => k_is)
    (case cl3 => k_is)
    (case ct3 => exact ⟨rfl, _, _, _, rfl⟩)
    (case aS => k_is)
    (case lS => k_is)
    (case tS => exact ⟨rfl, _, rfl⟩)
    (case sa0 => k_is)
    (case se0 => rfl)
    (case sa1 => k_is)
    (case se1 => rfl)
    (case z0 => k_is)
    (case z1 => k_is)
    (case z2 => k_is)
    (case z3 => k_is)
    (case z4 => k_is)
    (case z5 => k_is)
    (case z6 => k_is)
    (case z7 => k_is)
    (case z8 => k_is)
    (case z9 => k_is)
    (case z10 => k_is)
    (case z11 => k_is)
    (case z12 => k_is)
    (case aL => k_is)
    (case lL => k_is)
    (case cL => k_is)
    (case kL => k_is)
