/- Steps of the proof of FnAdmissibleTables: an abstract machine, its runs, and the plain law. -/
import Derived.Test.YtaacdlikhkfacaaGreatC
section
set_option linter.unusedSimpArgs false
set_option linter.unusedVariables false
/- Contracts: tables. -/
namespace Go.Am
structure Tbl where
  tracked : List Int
  patterns : List (List Int)
  dists : List Int
section
variable {β X : Type} {f : AVal → AM β} {Q : AVal → AHeap → Prop} {m m2 : Md} {P P1 Pb2 Pb6 P2 P3 P4 P5 P' S T : Nat → Prop} {e e2 : TypeId} {H Hk H1 H2 H' : AHeap} {v u x y lv dv sv x1 x2 x6 x8 mv : AVal} {A B C s D r : List Int} {L : List (List Int)} {w : Bool} {n0 dd kk : Nat} {p : Puz} {cs : List AVal} {t : Tbl}
def TblA (P P2 : Nat → Prop) (H : AHeap) (v : AVal) (t : Tbl) : Prop := ∃ a b c, v = .agg [a, b, c] ∧ Ints .ro P H a t.tracked ∧ Lists .ro P P2 H b t.patterns ∧ Ints .ro P H c t.dists
theorem TblA.le (h : TblA P P2 H v t) (hl : Le H H') : TblA P P2 H' v t := by
  obtain ⟨a, b, c, h1, h2, h3, h4⟩ := h
  exact ⟨a, b, c, h1, h2.leI hl, h3.leL hl, h4.leI hl⟩
theorem cells_t {a b c : AVal} (h1 : a.isCell = true) (h2 : b.isCell = true) (h3 : c.isCell = true) : ([a, b, c] : List AVal).all AVal.isCell = true := by simp only [List.all_cons, List.all_nil, h1, h2, h3]; rfl
/-- A well-formed table. -/
def WFT (t : Tbl) : Prop := PtList 20 t.tracked ∧ (1 ≤ (t.patterns.length : Int) ∧ (t.patterns.length : Int) ≤ 3000) ∧ t.dists.length = t.patterns.length ∧
  ∀ i (h : i < t.patterns.length) (h' : i < t.dists.length), ((t.patterns[i].length : Int) = t.tracked.length ∧ Dist 20 t.patterns[i]) ∧ (0 ≤ t.dists[i] ∧ t.dists[i] ≤ 3000)
noncomputable instance : Decidable (WFT t) := Classical.propDecidable _
theorem c_spIsWellFormedTable (hp : Hp H) (h : TblA P P2 H v t) (k : ∀ H', Le H H' → Q (.bool (decide (WFT t))) H') : W (s_sp_IsWellFormedTable v) H Q := by
  obtain ⟨a, b, c, rfl, ha, hb, hc⟩ := h
  have hbb := hb.bd
  unfold s_sp_IsWellFormedTable
  refine W.box hp (by decide) rfl (cells_t ha.isCell hb.isCell hc.isCell) fun x1 H1 l1 b1 => ?_
  have ha := ha.leI l1
  have hb := hb.leL l1
  have hc := hc.leI l1
  simp only [↓XE b1, ↓wr_f1 b1, ↓XG hb, ↓wr_f0 b1, ↓wr_e (c_isPointList ha (show (20 : Int) ≤ 9223372036854775807 by decide)), ↓Xa, ↓Xb, ↓Xc, ↓Xd, ↓Xe, ↓Xf, ↓Xg, ↓Xh, ↓Xi, ↓Xj, ↓Xk, ↓Xl, ↓Xm, ↓Xn, ↓Xo, ↓Xp, ↓Xq, ↓Xr, ↓Xs, ↓Xt, ↓Xu, ↓Xv, ↓Xw, ↓Xx, ↓Xy, gx0, gx1, gx2, gx3, ife_e, ife_n, ife_r, Xz, ife_ne', XA, XB, XC, XD, decide_true, decide_false, Bool.not_true, Bool.not_false]
  by_cases h1 : PtList 20 t.tracked
  · simp only [h1, ↓Xa, ↓Xb, ↓Xc, ↓Xd, ↓Xe, ↓Xf, ↓Xg, ↓Xh, ↓Xi, ↓Xj, ↓Xk, ↓Xl, ↓Xm, ↓Xn, ↓Xo, ↓Xp, ↓Xq, ↓Xr, ↓Xs, ↓Xt, ↓Xu, ↓Xv, ↓Xw, ↓Xx, ↓Xy, gx0, gx1, gx2, gx3, ife_e, ife_n, ife_r, Xz, ife_ne', XA, XB, XC, XD, decide_true, decide_false, Bool.not_true, Bool.not_false, ↓wr_e c_inRange]
    by_cases h2 : 1 ≤ (t.patterns.length : Int) ∧ (t.patterns.length : Int) ≤ 3000
    · simp only [h2, and_self, ↓Xa, ↓Xb, ↓Xc, ↓Xd, ↓Xe, ↓Xf, ↓Xg, ↓Xh, ↓Xi, ↓Xj, ↓Xk, ↓Xl, ↓Xm, ↓Xn, ↓Xo, ↓Xp, ↓Xq, ↓Xr, ↓Xs, ↓Xt, ↓Xu, ↓Xv, ↓Xw, ↓Xx, ↓Xy, gx0, gx1, gx2, gx3, ife_e, ife_n, ife_r, Xz, ife_ne', XA, XB, XC, XD, decide_true, decide_false, Bool.not_true, Bool.not_false, ↓XE b1, ↓wr_f2 b1, ↓XG hc]
      by_cases h3 : (t.dists.length : Int) = t.patterns.length
      · simp only [h3, ↓Xa, ↓Xb, ↓Xc, ↓Xd, ↓Xe, ↓Xf, ↓Xg, ↓Xh, ↓Xi, ↓Xj, ↓Xk, ↓Xl, ↓Xm, ↓Xn, ↓Xo, ↓Xp, ↓Xq, ↓Xr, ↓Xs, ↓Xt, ↓Xu, ↓Xv, ↓Xw, ↓Xx, ↓Xy, gx0, gx1, gx2, gx3, ife_e, ife_n, ife_r, Xz, ife_ne', XA, XB, XC, XD, decide_true, decide_false, Bool.not_true, Bool.not_false]
        have h3' : t.dists.length = t.patterns.length := by omega
        refine W.scan (e := 0) (w := [.undef]) t.patterns.length (fun i => ¬∃ (h : i < t.patterns.length) (h' : i < t.dists.length), ((t.patterns[i].length : Int) = t.tracked.length ∧ Dist 20 t.patterns[i]) ∧ (0 ≤ t.dists[i] ∧ t.dists[i] ≤ 3000)) (fun _ => [.bool false]) (fun i hi Q' k1 k2 => ?_) (fun Q' k1 => ?_) (fun i hi hb' _ => ?_) fun hb' => ?_
        · have hi1 : (i : Int) < t.patterns.length := by omega
          have hi2 : i < t.dists.length := by omega
          obtain ⟨z, hz, hL, _⟩ := hb.ld1 hi
          simp only [hi1, ↓Xa, ↓Xb, ↓Xc, ↓Xd, ↓Xe, ↓Xf, ↓Xg, ↓Xh, ↓Xi, ↓Xj, ↓Xk, ↓Xl, ↓Xm, ↓Xn, ↓Xo, ↓Xp, ↓Xq, ↓Xr, ↓Xs, ↓Xt, ↓Xu, ↓Xv, ↓Xw, ↓Xx, ↓Xy, gx0, gx1, gx2, gx3, ife_e, ife_n, ife_r, Xz, ife_ne', XA, XB, XC, XD, decide_true, decide_false, Bool.not_true, Bool.not_false, ↓XE b1, ↓wr_f1 b1, ↓wr_ix hb hi, ↓wr_e hz, ↓wr_f0 b1, ↓XG ha, ↓wr_e (c_isDistinctList hL (show In64 (20 - 1) by unfold In64; decide))]
          by_cases h4 : (t.patterns[i].length : Int) = t.tracked.length ∧ Dist 20 t.patterns[i]
          · simp only [h4, and_self, ↓Xa, ↓Xb, ↓Xc, ↓Xd, ↓Xe, ↓Xf, ↓Xg, ↓Xh, ↓Xi, ↓Xj, ↓Xk, ↓Xl, ↓Xm, ↓Xn, ↓Xo, ↓Xp, ↓Xq, ↓Xr, ↓Xs, ↓Xt, ↓Xu, ↓Xv, ↓Xw, ↓Xx, ↓Xy, gx0, gx1, gx2, gx3, ife_e, ife_n, ife_r, Xz, ife_ne', XA, XB, XC, XD, decide_true, decide_false, Bool.not_true, Bool.not_false, ↓XE b1, ↓wr_f2 b1, ↓wr_ix hc hi2, ↓wr_ldI hc hi2, ↓wr_e c_inRange]
            by_cases h5 : 0 ≤ t.dists[i] ∧ t.dists[i] ≤ 3000
            · simp only [h5, and_self, ↓Xa, ↓Xb, ↓Xc, ↓Xd, ↓Xe, ↓Xf, ↓Xg, ↓Xh, ↓Xi, ↓Xj, ↓Xk, ↓Xl, ↓Xm, ↓Xn, ↓Xo, ↓Xp, ↓Xq, ↓Xr, ↓Xs, ↓Xt, ↓Xu, ↓Xv, ↓Xw, ↓Xx, ↓Xy, gx0, gx1, gx2, gx3, ife_e, ife_n, ife_r, Xz, ife_ne', XA, XB, XC, XD, decide_true, decide_false, Bool.not_true, Bool.not_false]
              rw [wr_inc (by omega)]
              exact W.ret (k2 fun h => h ⟨hi, hi2, h4, h5⟩)
            · simp only [h5, ↓Xa, ↓Xb, ↓Xc, ↓Xd, ↓Xe, ↓Xf, ↓Xg, ↓Xh, ↓Xi, ↓Xj, ↓Xk, ↓Xl, ↓Xm, ↓Xn, ↓Xo, ↓Xp, ↓Xq, ↓Xr, ↓Xs, ↓Xt, ↓Xu, ↓Xv, ↓Xw, ↓Xx, ↓Xy, gx0, gx1, gx2, gx3, ife_e, ife_n, ife_r, Xz, ife_ne', XA, XB, XC, XD, decide_true, decide_false, Bool.not_true, Bool.not_false]
              exact W.ret (k1 fun ⟨_, _, h⟩ => h5 h.2)
          · simp only [h4, ↓Xa, ↓Xb, ↓Xc, ↓Xd, ↓Xe, ↓Xf, ↓Xg, ↓Xh, ↓Xi, ↓Xj, ↓Xk, ↓Xl, ↓Xm, ↓Xn, ↓Xo, ↓Xp, ↓Xq, ↓Xr, ↓Xs, ↓Xt, ↓Xu, ↓Xv, ↓Xw, ↓Xx, ↓Xy, gx0, gx1, gx2, gx3, ife_e, ife_n, ife_r, Xz, ife_ne', XA, XB, XC, XD, decide_true, decide_false, Bool.not_true, Bool.not_false]
            exact W.ret (k1 fun ⟨_, _, h⟩ => h4 h.1)
        · simp only [↓Xa, ↓Xb, ↓Xc, ↓Xd, ↓Xe, ↓Xf, ↓Xg, ↓Xh, ↓Xi, ↓Xj, ↓Xk, ↓Xl, ↓Xm, ↓Xn, ↓Xo, ↓Xp, ↓Xq, ↓Xr, ↓Xs, ↓Xt, ↓Xu, ↓Xv, ↓Xw, ↓Xx, ↓Xy, gx0, gx1, gx2, gx3, ife_e, ife_n, ife_r, Xz, ife_ne', XA, XB, XC, XD, decide_true, decide_false, Bool.not_true, Bool.not_false, Int.lt_irrefl]
          exact W.ret k1
        · simp only [↓Xa, ↓Xb, ↓Xc, ↓Xd, ↓Xe, ↓Xf, ↓Xg, ↓Xh, ↓Xi, ↓Xj, ↓Xk, ↓Xl, ↓Xm, ↓Xn, ↓Xo, ↓Xp, ↓Xq, ↓Xr, ↓Xs, ↓Xt, ↓Xu, ↓Xv, ↓Xw, ↓Xx, ↓Xy, gx0, gx1, gx2, gx3, ife_e, ife_n, ife_r, Xz, ife_ne', XA, XB, XC, XD, decide_true, decide_false, Bool.not_true, Bool.not_false]
          have : ¬WFT t := fun h => hb' ⟨hi, by omega, h.2.2.2 i hi (by omega)⟩
          exact W.ret (by simpa only [this, decide_false] using k _ l1)
        · simp only [↓Xa, ↓Xb, ↓Xc, ↓Xd, ↓Xe, ↓Xf, ↓Xg, ↓Xh, ↓Xi, ↓Xj, ↓Xk, ↓Xl, ↓Xm, ↓Xn, ↓Xo, ↓Xp, ↓Xq, ↓Xr, ↓Xs, ↓Xt, ↓Xu, ↓Xv, ↓Xw, ↓Xx, ↓Xy, gx0, gx1, gx2, gx3, ife_e, ife_n, ife_r, Xz, ife_ne', XA, XB, XC, XD, decide_true, decide_false, Bool.not_true, Bool.not_false]
          have : WFT t := ⟨h1, h2, h3', fun i hi hi' => (Classical.not_not.1 (hb' i hi)).2.2⟩
          exact W.ret (by simpa only [this, decide_true] using k _ l1)
      · simp only [h3, ↓Xa, ↓Xb, ↓Xc, ↓Xd, ↓Xe, ↓Xf, ↓Xg, ↓Xh, ↓Xi, ↓Xj, ↓Xk, ↓Xl, ↓Xm, ↓Xn, ↓Xo, ↓Xp, ↓Xq, ↓Xr, ↓Xs, ↓Xt, ↓Xu, ↓Xv, ↓Xw, ↓Xx, ↓Xy, gx0, gx1, gx2, gx3, ife_e, ife_n, ife_r, Xz, ife_ne', XA, XB, XC, XD, decide_true, decide_false, Bool.not_true, Bool.not_false]
        have : ¬WFT t := fun h => h3 (by have := h.2.2.1; omega)
        exact W.ret (by simpa only [this, decide_false] using k _ l1)
    · simp only [h2, ↓Xa, ↓Xb, ↓Xc, ↓Xd, ↓Xe, ↓Xf, ↓Xg, ↓Xh, ↓Xi, ↓Xj, ↓Xk, ↓Xl, ↓Xm, ↓Xn, ↓Xo, ↓Xp, ↓Xq, ↓Xr, ↓Xs, ↓Xt, ↓Xu, ↓Xv, ↓Xw, ↓Xx, ↓Xy, gx0, gx1, gx2, gx3, ife_e, ife_n, ife_r, Xz, ife_ne', XA, XB, XC, XD, decide_true, decide_false, Bool.not_true, Bool.not_false]
      have : ¬WFT t := fun h => h2 h.2.1
      exact W.ret (by simpa only [this, decide_false] using k _ l1)
  · simp only [h1, ↓Xa, ↓Xb, ↓Xc, ↓Xd, ↓Xe, ↓Xf, ↓Xg, ↓Xh, ↓Xi, ↓Xj, ↓Xk, ↓Xl, ↓Xm, ↓Xn, ↓Xo, ↓Xp, ↓Xq, ↓Xr, ↓Xs, ↓Xt, ↓Xu, ↓Xv, ↓Xw, ↓Xx, ↓Xy, gx0, gx1, gx2, gx3, ife_e, ife_n, ife_r, Xz, ife_ne', XA, XB, XC, XD, decide_true, decide_false, Bool.not_true, Bool.not_false]
    have : ¬WFT t := fun h => h1 h.1
    exact W.ret (by simpa only [this, decide_false] using k _ l1)
theorem c_tableEntry (hp : Hp H) (h : TblA P P2 H v t) (ha : Ints .ro P3 H u A) (k : ∀ H', Le H H' → Q (i64 (idxL t.patterns A)) H') : W (s_sp_tableEntry v u) H Q := by
  obtain ⟨a, b, c, rfl, hta, hl, hc⟩ := h
  have hbl := hl.bd
  unfold s_sp_tableEntry
  refine W.box hp (by decide) rfl (cells_t hta.isCell hl.isCell hc.isCell) fun x1 H1 l1 b1 => ?_
  have hl := hl.leL l1
  have ha := ha.leI l1
  refine W.scan (e := 0) (w := [.undef]) t.patterns.length (fun i => t.patterns[i]? = some A) (fun i => [i64 (i : Int)]) (fun i hi Q' k1 k2 => ?_) (fun Q' k1 => ?_) (fun i hi hb hf => ?_) fun hb => ?_
  · have : (i : Int) < t.patterns.length := by omega
    obtain ⟨z, hz, hL, _⟩ := hl.ld1 hi
    simp only [↓XE b1, ↓wr_f1 b1, ↓XG hl, this, ↓Xa, ↓Xb, ↓Xc, ↓Xd, ↓Xe, ↓Xf, ↓Xg, ↓Xh, ↓Xi, ↓Xj, ↓Xk, ↓Xl, ↓Xm, ↓Xn, ↓Xo, ↓Xp, ↓Xq, ↓Xr, ↓Xs, ↓Xt, ↓Xu, ↓Xv, ↓Xw, ↓Xx, ↓Xy, gx0, gx1, gx2, gx3, ife_e, ife_n, ife_r, Xz, ife_ne', XA, XB, XC, XD, decide_true, decide_false, Bool.not_true, Bool.not_false, ↓wr_ix hl hi, ↓wr_e hz, ↓wr_e (c_equalInts hL ha)]
    by_cases h : t.patterns[i] = A
    · simp only [h, ↓Xa, ↓Xb, ↓Xc, ↓Xd, ↓Xe, ↓Xf, ↓Xg, ↓Xh, ↓Xi, ↓Xj, ↓Xk, ↓Xl, ↓Xm, ↓Xn, ↓Xo, ↓Xp, ↓Xq, ↓Xr, ↓Xs, ↓Xt, ↓Xu, ↓Xv, ↓Xw, ↓Xx, ↓Xy, gx0, gx1, gx2, gx3, ife_e, ife_n, ife_r, Xz, ife_ne', XA, XB, XC, XD, decide_true, decide_false, Bool.not_true, Bool.not_false]
      exact W.ret (k1 (by simp [hi, h]))
    · simp only [h, ↓Xa, ↓Xb, ↓Xc, ↓Xd, ↓Xe, ↓Xf, ↓Xg, ↓Xh, ↓Xi, ↓Xj, ↓Xk, ↓Xl, ↓Xm, ↓Xn, ↓Xo, ↓Xp, ↓Xq, ↓Xr, ↓Xs, ↓Xt, ↓Xu, ↓Xv, ↓Xw, ↓Xx, ↓Xy, gx0, gx1, gx2, gx3, ife_e, ife_n, ife_r, Xz, ife_ne', XA, XB, XC, XD, decide_true, decide_false, Bool.not_true, Bool.not_false]
      rw [wr_inc (by omega)]
      exact W.ret (k2 (by simp [hi, h]))
  · simp only [↓XE b1, ↓wr_f1 b1, ↓XG hl, ↓Xa, ↓Xb, ↓Xc, ↓Xd, ↓Xe, ↓Xf, ↓Xg, ↓Xh, ↓Xi, ↓Xj, ↓Xk, ↓Xl, ↓Xm, ↓Xn, ↓Xo, ↓Xp, ↓Xq, ↓Xr, ↓Xs, ↓Xt, ↓Xu, ↓Xv, ↓Xw, ↓Xx, ↓Xy, gx0, gx1, gx2, gx3, ife_e, ife_n, ife_r, Xz, ife_ne', XA, XB, XC, XD, decide_true, decide_false, Bool.not_true, Bool.not_false, Int.lt_irrefl]
    exact W.ret k1
  · simp only [↓Xa, ↓Xb, ↓Xc, ↓Xd, ↓Xe, ↓Xf, ↓Xg, ↓Xh, ↓Xi, ↓Xj, ↓Xk, ↓Xl, ↓Xm, ↓Xn, ↓Xo, ↓Xp, ↓Xq, ↓Xr, ↓Xs, ↓Xt, ↓Xu, ↓Xv, ↓Xw, ↓Xx, ↓Xy, gx0, gx1, gx2, gx3, ife_e, ife_n, ife_r, Xz, ife_ne', XA, XB, XC, XD, decide_true, decide_false, Bool.not_true, Bool.not_false]
    have h1 : t.patterns[i] = A := by simpa [hi] using hb
    have : idxL t.patterns A = (i : Int) := by
      rw [idxL, if_pos (h1 ▸ List.getElem_mem hi), idxOf_first hi h1 fun j hj h => hf j hj (by rw [List.getElem?_eq_getElem (by omega), h])]
    exact W.ret (by rw [← this]; exact k _ l1)
  · simp only [↓Xa, ↓Xb, ↓Xc, ↓Xd, ↓Xe, ↓Xf, ↓Xg, ↓Xh, ↓Xi, ↓Xj, ↓Xk, ↓Xl, ↓Xm, ↓Xn, ↓Xo, ↓Xp, ↓Xq, ↓Xr, ↓Xs, ↓Xt, ↓Xu, ↓Xv, ↓Xw, ↓Xx, ↓Xy, gx0, gx1, gx2, gx3, ife_e, ife_n, ife_r, Xz, ife_ne', XA, XB, XC, XD, decide_true, decide_false, Bool.not_true, Bool.not_false]
    have : idxL t.patterns A = -1 := if_neg fun h => by
      obtain ⟨i, hi, h⟩ := List.mem_iff_getElem.1 h
      exact hb i hi (by simp [hi, h])
    exact W.ret (by rw [← this]; exact k _ l1)
noncomputable def lookup (t : Tbl) (A : List Int) : Int := if WFT t ∧ A ∈ t.patterns then t.dists.getD (t.patterns.idxOf A) 0 else -1
theorem c_TableLookup (hp : Hp H) (h : TblA P P2 H v t) (ha : Ints .ro P3 H u A) (k : ∀ H', Le H H' → Q (i64 (lookup t A)) H') : W (s_sp_TableLookup v u) H Q := by
  have ht := h
  obtain ⟨a, b, c, rfl, hta, hl, hc⟩ := h
  unfold s_sp_TableLookup
  refine W.box hp (by decide) rfl (cells_t hta.isCell hl.isCell hc.isCell) fun x1 H1 l1 b1 => ?_
  simp only [↓wr_ld3 b1]
  refine W.bnd (c_spIsWellFormedTable l1.wf (ht.le l1) fun H2 l2 => ?_)
  have b1 := b1.le l2
  have l := l1.tr l2
  by_cases h1 : WFT t
  · simp only [h1, ↓Xa, ↓Xb, ↓Xc, ↓Xd, ↓Xe, ↓Xf, ↓Xg, ↓Xh, ↓Xi, ↓Xj, ↓Xk, ↓Xl, ↓Xm, ↓Xn, ↓Xo, ↓Xp, ↓Xq, ↓Xr, ↓Xs, ↓Xt, ↓Xu, ↓Xv, ↓Xw, ↓Xx, ↓Xy, gx0, gx1, gx2, gx3, ife_e, ife_n, ife_r, Xz, ife_ne', XA, XB, XC, XD, decide_true, decide_false, Bool.not_true, Bool.not_false, ↓wr_ld3 b1]
    refine W.bnd (c_tableEntry l2.wf (ht.le l) (ha.leI l) fun H3 l3 => ?_)
    have b1 := b1.le l3
    have l := l.tr l3
    simp only [↓Xa, ↓Xb, ↓Xc, ↓Xd, ↓Xe, ↓Xf, ↓Xg, ↓Xh, ↓Xi, ↓Xj, ↓Xk, ↓Xl, ↓Xm, ↓Xn, ↓Xo, ↓Xp, ↓Xq, ↓Xr, ↓Xs, ↓Xt, ↓Xu, ↓Xv, ↓Xw, ↓Xx, ↓Xy, gx0, gx1, gx2, gx3, ife_e, ife_n, ife_r, Xz, ife_ne', XA, XB, XC, XD, decide_true, decide_false, Bool.not_true, Bool.not_false]
    by_cases h2 : A ∈ t.patterns
    · have e1 : idxL t.patterns A = (t.patterns.idxOf A : Int) := if_pos h2
      have hlt : t.patterns.idxOf A < t.patterns.length := List.idxOf_lt_length_of_mem h2
      have hlt' : t.patterns.idxOf A < t.dists.length := by rw [h1.2.2.1]; exact hlt
      have h3 : ¬((t.patterns.idxOf A : Int) < 0) := by omega
      have hc := hc.leI l
      simp only [e1, h3, ↓Xa, ↓Xb, ↓Xc, ↓Xd, ↓Xe, ↓Xf, ↓Xg, ↓Xh, ↓Xi, ↓Xj, ↓Xk, ↓Xl, ↓Xm, ↓Xn, ↓Xo, ↓Xp, ↓Xq, ↓Xr, ↓Xs, ↓Xt, ↓Xu, ↓Xv, ↓Xw, ↓Xx, ↓Xy, gx0, gx1, gx2, gx3, ife_e, ife_n, ife_r, Xz, ife_ne', XA, XB, XC, XD, decide_true, decide_false, Bool.not_true, Bool.not_false, ↓XE b1, ↓wr_f2 b1, ↓wr_ix hc hlt', ↓wr_ldI hc hlt']
      have : lookup t A = t.dists[t.patterns.idxOf A] := by
        rw [lookup, if_pos ⟨h1, h2⟩, List.getD_eq_getElem?_getD, List.getElem?_eq_getElem hlt']; rfl
      exact W.ret (by rw [← this]; exact k _ l)
    · have e1 : idxL t.patterns A = -1 := if_neg h2
      have h3 : ((-1 : Int) < 0) := by omega
      simp only [e1, h3, ↓Xa, ↓Xb, ↓Xc, ↓Xd, ↓Xe, ↓Xf, ↓Xg, ↓Xh, ↓Xi, ↓Xj, ↓Xk, ↓Xl, ↓Xm, ↓Xn, ↓Xo, ↓Xp, ↓Xq, ↓Xr, ↓Xs, ↓Xt, ↓Xu, ↓Xv, ↓Xw, ↓Xx, ↓Xy, gx0, gx1, gx2, gx3, ife_e, ife_n, ife_r, Xz, ife_ne', XA, XB, XC, XD, decide_true, decide_false, Bool.not_true, Bool.not_false]
      have : lookup t A = -1 := if_neg fun h => h2 h.2
      exact W.ret (by rw [← this]; exact k _ l)
  · simp only [h1, ↓Xa, ↓Xb, ↓Xc, ↓Xd, ↓Xe, ↓Xf, ↓Xg, ↓Xh, ↓Xi, ↓Xj, ↓Xk, ↓Xl, ↓Xm, ↓Xn, ↓Xo, ↓Xp, ↓Xq, ↓Xr, ↓Xs, ↓Xt, ↓Xu, ↓Xv, ↓Xw, ↓Xx, ↓Xy, gx0, gx1, gx2, gx3, ife_e, ife_n, ife_r, Xz, ife_ne', XA, XB, XC, XD, decide_true, decide_false, Bool.not_true, Bool.not_false]
    have : lookup t A = -1 := if_neg fun h => h1 h.1
    exact W.ret (by rw [← this]; exact k _ l)
end
end Go.Am

end

section
set_option linter.unusedSimpArgs false
set_option linter.unusedVariables false
/- Contracts: BuildTable. -/
namespace Go.Am
section
variable {β X : Type} {f : AVal → AM β} {Q : AVal → AHeap → Prop} {m m2 : Md} {P P1 Pb2 Pb6 P2 P3 P4 P5 P' S T : Nat → Prop} {e e2 : TypeId} {H Hk H1 H2 H' : AHeap} {v u x y lv dv sv x1 x2 x6 x8 mv : AVal} {A B C s D r : List Int} {L : List (List Int)} {w : Bool} {n0 dd kk : Nat} {p : Puz} {cs : List AVal} {t : Tbl}
theorem c_searchPatterns (hp : Hp H) (h : PuzA P P2 H v p) (ha : Ints .ro P3 H u A)
    (k0 : ∀ H', Le H H' → ¬Tracked p A → Q (.tuple [.agg [.nilS, .nilS, .nilS, .bool false], .bool false]) H')
    (k : ∀ v' H' L D w dd, Le H H' → Tracked p A → SSA H.next dd H' v' L D w A.length → Found p A L D w → Q (.tuple [v', .bool w]) H') : W (s_sp_searchPatterns v u) H Q := by
  have hpz := h
  obtain ⟨mv, rfl, hm, h64, hnl⟩ := h
  unfold s_sp_searchPatterns
  refine W.box hp (by decide) rfl (cells_p hm.isCell) fun x1 H1 l1 b1 => ?_
  refine W.alloc l1.wf fun x2 H2 l2 b2 => ?_
  have b1 := b1.le l2
  have l := l1.tr l2
  have b2 := b2.mono (P' := fun id => H1.next ≤ id ∧ id < H2.next) fun id hid h => ⟨h, hid⟩
  simp only [↓wr_ld3 b1]
  refine W.bnd (c_IsTrackedSet (p := p) l.wf (hpz.le l) (ha.leI l) fun H3 l3 => ?_)
  have b1 := b1.le l3
  have b2 := b2.le l3
  have l := l.tr l3
  by_cases h1 : Tracked p A
  · simp only [h1, ↓Xa, ↓Xb, ↓Xc, ↓Xd, ↓Xe, ↓Xf, ↓Xg, ↓Xh, ↓Xi, ↓Xj, ↓Xk, ↓Xl, ↓Xm, ↓Xn, ↓Xo, ↓Xp, ↓Xq, ↓Xr, ↓Xs, ↓Xt, ↓Xu, ↓Xv, ↓Xw, ↓Xx, ↓Xy, gx0, gx1, gx2, gx3, ife_e, ife_n, ife_r, Xz, ife_ne', XA, XB, XC, XD, decide_true, decide_false, Bool.not_true, Bool.not_false, ↓wr_ld3 b1]
    have hv := h1.1
    refine W.bnd (c_searchFrom (p := p) l.wf (hpz.le l) hv (ha.leI l) h1.2.2.1 fun v' H4 L D w dd l4 ss hf => ?_)
    have b2 := b2.le l4
    have l34 := l4
    have l := l.tr l4
    refine W.alloc l.wf fun x10 H5 l5 b10 => ?_
    have b10 := b10.mono (P' := fun id => H4.next ≤ id ∧ id < H5.next) fun id hid h => ⟨h, hid⟩
    have b2 := b2.le l5
    have ss := ss.le l5
    have l := l.tr l5
    obtain ⟨lv, dv, sv, rfl, hcell⟩ := ss.agg
    refine W.fsw l.wf b10 rfl rfl hcell fun H6 f6 b10 => ?_
    have n1 : H2.next ≤ H3.next := l3.nx
    have n2 : H3.next ≤ H4.next := l4.nx
    have n3 : H.next ≤ H3.next := Nat.le_trans l1.nx (Nat.le_trans l2.nx l3.nx)
    have b2 := b2.fr f6 fun id c fz hid hP hg hb => absurd hb.1.1 (by have := hP.2; omega)
    have ss := ss.bk f6 (by decide) (by decide) (by decide)
    have l := l.nw f6 fun id hid h => absurd h.1.1 (by omega)
    simp only [↓wr_ld4 b10, ↓Xa, ↓Xb, ↓Xc, ↓Xd, ↓Xe, ↓Xf, ↓Xg, ↓Xh, ↓Xi, ↓Xj, ↓Xk, ↓Xl, ↓Xm, ↓Xn, ↓Xo, ↓Xp, ↓Xq, ↓Xr, ↓Xs, ↓Xt, ↓Xu, ↓Xv, ↓Xw, ↓Xx, ↓Xy, gx0, gx1, gx2, gx3, ife_e, ife_n, ife_r, Xz, ife_ne', XA, XB, XC, XD, decide_true, decide_false, Bool.not_true, Bool.not_false]
    refine W.fsw l.wf b2 rfl rfl hcell fun H7 f7 b2 => ?_
    have b10' := b10
    have b10 := b10.fr f7 fun id c fz hid hP hg hb => absurd hb.1.2 (by have := hP.1; omega)
    have ss := ss.bk f7 (by decide) (by decide) (by decide)
    have l := l.nw f7 fun id hid h => absurd h.1.1 (by have := l1.nx; omega)
    simp only [↓XE b10, ↓wr_f3 b10]
    refine W.agn1 (b10'.ld1 rfl) ?_
    simp only [↓wr_ld4 b2]
    refine W.ret (k _ H7 L D w dd l h1 ?_ hf)
    obtain ⟨s1, s2, S, s3, s4, s5⟩ := ss.parts
    exact ⟨_, _, _, S, rfl, (s1.mono fun id _ h => Nat.le_trans n3 h).monoR fun id _ h => ⟨Nat.le_trans n3 h.1, h.2⟩, s2.mono fun id _ h => ⟨Nat.le_trans n3 h.1, h.2⟩, s3.mono fun id _ h => Nat.le_trans n3 h, s4, s5⟩
  · simp only [h1, ↓Xa, ↓Xb, ↓Xc, ↓Xd, ↓Xe, ↓Xf, ↓Xg, ↓Xh, ↓Xi, ↓Xj, ↓Xk, ↓Xl, ↓Xm, ↓Xn, ↓Xo, ↓Xp, ↓Xq, ↓Xr, ↓Xs, ↓Xt, ↓Xu, ↓Xv, ↓Xw, ↓Xx, ↓Xy, gx0, gx1, gx2, gx3, ife_e, ife_n, ife_r, Xz, ife_ne', XA, XB, XC, XD, decide_true, decide_false, Bool.not_true, Bool.not_false, ↓XH]
    refine W.fsw l.wf b2 rfl rfl rfl fun H7 f7 b2 => ?_
    simp only [↓wr_ld4 b2]
    exact W.ret (k0 _ (l.nw f7 fun id hid h => absurd h.1.1 (by have := l1.nx; omega)) h1)
/-- The ids from lo on, below hi. -/
abbrev Iv (lo hi : Nat) : Nat → Prop := fun id => lo ≤ id ∧ id < hi
theorem c_BuildTable (hp : Hp H) (h : PuzA P P2 H v p) (ha : Ints .ro P3 H u A)
    (k0 : ∀ H', Le H H' → (Tracked p A → ∃ L D, Found p A L D false) → Q (.tuple [.agg [.nilS, .nilS, .nilS], .bool false]) H')
    (k : ∀ a b c H' L D n1 n2, Le H H' → Tracked p A → Found p A L D true → H.next ≤ n1 → n1 ≤ n2 → Ints .own (Iv H.next n1) H' a A → Lists .own (Iv n1 n2) (Iv n1 n2) H' b L → Ints .own (Iv n2 H'.next) H' c D → Q (.tuple [.agg [a, b, c], .bool true]) H') : W (s_sp_BuildTable v u) H Q := by
  have hpz := h
  obtain ⟨mv, rfl, hm, h64, hnl⟩ := h
  unfold s_sp_BuildTable
  refine W.box hp (by decide) rfl (cells_p hm.isCell) fun x1 H1 l1 b1 => ?_
  refine W.alloc l1.wf fun x2 H2 l2 b2 => ?_
  have b1 := b1.le l2
  have l := l1.tr l2
  have b2 := b2.mono (P' := fun id => H1.next ≤ id ∧ id < H2.next) fun id hid h => ⟨h, hid⟩
  simp only [↓wr_ld3 b1]
  refine W.bnd (c_searchPatterns (p := p) l.wf (hpz.le l) (ha.leI l) (fun H3 l3 hnt => ?_) fun v' H3 L D w dd l3 htr ss hf => ?_)
  · have b2 := b2.le l3
    have l := l.tr l3
    simp only [↓Xa, ↓Xb, ↓Xc, ↓Xd, ↓Xe, ↓Xf, ↓Xg, ↓Xh, ↓Xi, ↓Xj, ↓Xk, ↓Xl, ↓Xm, ↓Xn, ↓Xo, ↓Xp, ↓Xq, ↓Xr, ↓Xs, ↓Xt, ↓Xu, ↓Xv, ↓Xw, ↓Xx, ↓Xy, gx0, gx1, gx2, gx3, ife_e, ife_n, ife_r, Xz, ife_ne', XA, XB, XC, XD, decide_true, decide_false, Bool.not_true, Bool.not_false]
    refine W.alloc l.wf fun x7 H4 l4 b7 => ?_
    have b7 := b7.mono (P' := fun id => H3.next ≤ id ∧ id < H4.next) fun id hid h => ⟨h, hid⟩
    have b2 := b2.le l4
    have l := l.tr l4
    refine W.fsw l.wf b7 rfl rfl rfl fun H5 f5 b7 => ?_
    have b2 := b2.fr f5 fun id c fz hid hP hg hb => absurd hb.1.1 (by have := hP.2; have : H2.next ≤ H3.next := l3.nx; omega)
    have l := l.nw f5 fun id hid h => absurd h.1.1 (by have := l1.nx; have := l2.nx; have := l3.nx; omega)
    simp only [↓Xa, ↓Xb, ↓Xc, ↓Xd, ↓Xe, ↓Xf, ↓Xg, ↓Xh, ↓Xi, ↓Xj, ↓Xk, ↓Xl, ↓Xm, ↓Xn, ↓Xo, ↓Xp, ↓Xq, ↓Xr, ↓Xs, ↓Xt, ↓Xu, ↓Xv, ↓Xw, ↓Xx, ↓Xy, gx0, gx1, gx2, gx3, ife_e, ife_n, ife_r, Xz, ife_ne', XA, XB, XC, XD, decide_true, decide_false, Bool.not_true, Bool.not_false, ↓XH]
    refine W.fsw l.wf b2 rfl rfl rfl fun H6 f6 b2 => ?_
    have l := l.nw f6 fun id hid h => absurd h.1.1 (by have := l1.nx; omega)
    simp only [↓wr_ld3 b2]
    exact W.ret (k0 _ l fun ht => absurd ht hnt)
  · have b2 := b2.le l3
    have l := l.tr l3
    simp only [↓Xa, ↓Xb, ↓Xc, ↓Xd, ↓Xe, ↓Xf, ↓Xg, ↓Xh, ↓Xi, ↓Xj, ↓Xk, ↓Xl, ↓Xm, ↓Xn, ↓Xo, ↓Xp, ↓Xq, ↓Xr, ↓Xs, ↓Xt, ↓Xu, ↓Xv, ↓Xw, ↓Xx, ↓Xy, gx0, gx1, gx2, gx3, ife_e, ife_n, ife_r, Xz, ife_ne', XA, XB, XC, XD, decide_true, decide_false, Bool.not_true, Bool.not_false]
    refine W.alloc l.wf fun x7 H4 l4 b7 => ?_
    have b7 := b7.mono (P' := fun id => H3.next ≤ id ∧ id < H4.next) fun id hid h => ⟨h, hid⟩
    have b2 := b2.le l4
    have ss := ss.le l4
    have l := l.tr l4
    obtain ⟨lv, dv, sv, rfl, hcell⟩ := ss.agg
    refine W.fsw l.wf b7 rfl rfl hcell fun H5 f5 b7 => ?_
    have b2 := b2.fr f5 fun id c fz hid hP hg hb => absurd hb.1.1 (by have := hP.2; have : H2.next ≤ H3.next := l3.nx; omega)
    have ss := ss.bk f5 (by decide) (by decide) (by decide)
    have l := l.nw f5 fun id hid h => absurd h.1.1 (by have := l1.nx; have := l2.nx; have := l3.nx; omega)
    cases w with
    | false =>
      simp only [↓Xa, ↓Xb, ↓Xc, ↓Xd, ↓Xe, ↓Xf, ↓Xg, ↓Xh, ↓Xi, ↓Xj, ↓Xk, ↓Xl, ↓Xm, ↓Xn, ↓Xo, ↓Xp, ↓Xq, ↓Xr, ↓Xs, ↓Xt, ↓Xu, ↓Xv, ↓Xw, ↓Xx, ↓Xy, gx0, gx1, gx2, gx3, ife_e, ife_n, ife_r, Xz, ife_ne', XA, XB, XC, XD, decide_true, decide_false, Bool.not_true, Bool.not_false, ↓XH]
      refine W.fsw l.wf b2 rfl rfl rfl fun H6 f6 b2 => ?_
      have l := l.nw f6 fun id hid h => absurd h.1.1 (by have := l1.nx; omega)
      simp only [↓wr_ld3 b2]
      exact W.ret (k0 _ l fun _ => ⟨L, D, hf⟩)
    | true =>
      simp only [↓Xa, ↓Xb, ↓Xc, ↓Xd, ↓Xe, ↓Xf, ↓Xg, ↓Xh, ↓Xi, ↓Xj, ↓Xk, ↓Xl, ↓Xm, ↓Xn, ↓Xo, ↓Xp, ↓Xq, ↓Xr, ↓Xs, ↓Xt, ↓Xu, ↓Xv, ↓Xw, ↓Xx, ↓Xy, gx0, gx1, gx2, gx3, ife_e, ife_n, ife_r, Xz, ife_ne', XA, XB, XC, XD, decide_true, decide_false, Bool.not_true, Bool.not_false]
      obtain ⟨pl, pd, S, ps, sok, hDL⟩ := ss.parts
      have b75 := b7
      refine W.bnd (c_copyInts l.wf (ha.leI l) fun x12 H6 l6 h12 => ?_)
      have b7 := b7.le l6
      have b2 := b2.le l6
      have nn : H.next ≤ H5.next := l.nx
      have lf := l.tr l6
      simp only [↓XE b7, ↓wr_f0 b7]
      refine W.agn1 (b75.ld1 rfl) ?_
      have b76 := b7
      simp only [↓Xa, ↓Xb, ↓Xc, ↓Xd, ↓Xe, ↓Xf, ↓Xg, ↓Xh, ↓Xi, ↓Xj, ↓Xk, ↓Xl, ↓Xm, ↓Xn, ↓Xo, ↓Xp, ↓Xq, ↓Xr, ↓Xs, ↓Xt, ↓Xu, ↓Xv, ↓Xw, ↓Xx, ↓Xy, gx0, gx1, gx2, gx3, ife_e, ife_n, ife_r, Xz, ife_ne', XA, XB, XC, XD, decide_true, decide_false, Bool.not_true, Bool.not_false]
      refine W.bnd (c_copyLists lf.wf (pl.leL l6) fun x16 H7 l7 h16 => ?_)
      have b7 := b7.le l7
      have b2 := b2.le l7
      have lf := lf.tr l7
      simp only [↓XE b7, ↓wr_f1 b7]
      refine W.agn2 (b76.ld1 rfl) (b75.ld1 rfl) ?_
      refine W.bnd (c_copyInts lf.wf ((pd.leI l6).leI l7) fun x19 H8 l8 h19 => ?_)
      have b2 := b2.le l8
      have lf := lf.tr l8
      have h12 := (h12.mono (P' := Iv H.next H6.next) fun id hid h => ⟨Nat.le_trans nn h, hid⟩).leI (l7.tr l8)
      have h16 := ((h16.mono (P' := Iv H6.next H7.next) fun id hid h => ⟨h, hid⟩).monoR (P2' := Iv H6.next H7.next) fun id hid h => ⟨h, hid⟩).leL l8
      have h19 := h19.mono (P' := fun id => H7.next ≤ id ∧ id < H8.next) fun id hid h => ⟨h, hid⟩
      refine W.assoc (W.assoc (W.cell1 h12.isCell (W.assoc (W.cell1 h16.isCell (W.assoc (W.cell1 h19.isCell ?_))))))
      simp only [↓Xa, ↓Xb, ↓Xc, ↓Xd, ↓Xe, ↓Xf, ↓Xg, ↓Xh, ↓Xi, ↓Xj, ↓Xk, ↓Xl, ↓Xm, ↓Xn, ↓Xo, ↓Xp, ↓Xq, ↓Xr, ↓Xs, ↓Xt, ↓Xu, ↓Xv, ↓Xw, ↓Xx, ↓Xy, gx0, gx1, gx2, gx3, ife_e, ife_n, ife_r, Xz, ife_ne', XA, XB, XC, XD, decide_true, decide_false, Bool.not_true, Bool.not_false]
      refine W.fsw lf.wf b2 rfl rfl (cells_t h12.isCell h16.isCell h19.isCell) fun H9 f9 b2 => ?_
      have lf := lf.nw f9 fun id hid h => absurd h.1.1 (by have := l1.nx; omega)
      simp only [↓wr_ld3 b2]
      exact W.ret (k _ _ _ H9 L D H6.next H7.next lf htr hf (Nat.le_trans nn l6.nx) l7.nx (h12.bkI f9 (by decide)) (h16.bkL f9 (by decide) (by decide)) ((h19.bkI f9 (by decide)).mono fun id _ h => ⟨h.1, Nat.lt_of_lt_of_le h.2 f9.nx⟩))
end
end Go.Am

end

section
set_option linter.unusedSimpArgs false
set_option linter.unusedVariables false
/- Contracts: the program's own permutations, generators and names. -/
namespace Go.Am
section
variable {β X : Type} {f : AVal → AM β} {Q : AVal → AHeap → Prop} {m m2 : Md} {P P2 P3 P4 P5 P' S T : Nat → Prop} {e e2 : TypeId} {H H1 H2 H' : AHeap} {v u x y : AVal} {A B C s D r : List Int} {L LL : List (List Int)} {p : Puz} {cs : List AVal} {t : Tbl}
theorem c_within {a b c : Int} : s_im_within (i64 a) (i64 b) (i64 c) H = some (.bool (decide (b ≤ a ∧ a ≤ c)), H) := c_inRange
theorem c_length (ha : Seq RI m P e H v A) {H0 : AHeap} : s_im_length_int64 v H0 = some (i64 (A.length : Int), H0) := by
  refine eq_of_W fun Q k => ?_
  unfold s_im_length_int64
  simp only [↓XG ha]
  exact W.ret k
theorem c_lengthL (ha : Lists m P P2 H v LL) {H0 : AHeap} : s_im_length_Sint64 v H0 = some (i64 (LL.length : Int), H0) := by
  refine eq_of_W fun Q k => ?_
  unfold s_im_length_Sint64
  simp only [↓XG ha]
  exact W.ret k
theorem wr_orn {Q : β → AHeap → Prop} {a b : Nat} (ha : a < 2 ^ 62) (hb : b < 2 ^ 62) : W (bnd (abin .or (i64 (a : Int)) (i64 (b : Int))) f) H Q ↔ W (f (i64 ((a ||| b : Nat) : Int))) H Q := by
  refine wr_p ?_
  have hab : a ||| b < 2 ^ 62 := Nat.or_lt_two_pow ha hb
  have h1 : (BitVec.ofInt 64 (a : Int) ||| BitVec.ofInt 64 (b : Int)).toNat = a ||| b := by
    rw [BitVec.toNat_or, BitVec.ofInt_natCast, BitVec.ofInt_natCast, BitVec.toNat_ofNat, BitVec.toNat_ofNat, Nat.mod_eq_of_lt (by omega), Nat.mod_eq_of_lt (by omega)]
  show (if IntKind.i64 ≠ IntKind.i64 then fail else ibits .i64 (· ||| ·) (a : Int) (b : Int)) = _
  rw [if_neg (by simp)]
  simp only [ibits]
  have h2 : (BitVec.ofInt IntKind.i64.bits (a : Int) ||| BitVec.ofInt IntKind.i64.bits (b : Int)).toNat = a ||| b := h1
  rw [h2, wrap_in (by unfold In64; omega)]
theorem wr_shl1 {Q : β → AHeap → Prop} {n : Nat} (h : n ≤ 61) : W (bnd (abin .shl (i64 1) (i64 (n : Int))) f) H Q ↔ W (f (i64 ((2 ^ n : Nat) : Int))) H Q := by
  refine wr_p ?_
  have h1 : (2 : Nat) ^ n ≤ 2 ^ 61 := Nat.pow_le_pow_right (by decide) h
  have h2 : min n IntKind.i64.bits = n := Nat.min_eq_left (by show n ≤ 64; omega)
  simp only [abin, wr]
  rw [if_neg (by omega), Int.toNat_natCast, h2]
  have h3 : (1 : Int) * 2 ^ n = ((2 ^ n : Nat) : Int) := by rw [Int.one_mul]; norm_cast
  rw [h3]
  generalize (2 : Nat) ^ n = z at h1 ⊢
  rw [wrap_in (by unfold In64; omega)]
theorem c_imIsPermutation (ha : Ints .ro P H v A) : s_im_IsPermutation v H = some (.bool (decide (IsPerm A)), H) := by
  refine eq_of_W fun Q k => ?_
  have hba := ha.bd
  unfold s_im_IsPermutation
  simp only [↓wr_e (c_length ha), ↓wr_e c_within, ↓Xa, ↓Xb, ↓Xc, ↓Xd, ↓Xe, ↓Xf, ↓Xg, ↓Xh, ↓Xi, ↓Xj, ↓Xk, ↓Xl, ↓Xm, ↓Xn, ↓Xo, ↓Xp, ↓Xq, ↓Xr, ↓Xs, ↓Xt, ↓Xu, ↓Xv, ↓Xw, ↓Xx, ↓Xy, gx0, gx1, gx2, gx3, ife_e, ife_n, ife_r, Xz, ife_ne', XA, XB, XC, XD, decide_true, decide_false, Bool.not_true, Bool.not_false]
  by_cases h0 : 1 ≤ (A.length : Int) ∧ (A.length : Int) ≤ 20
  · simp only [h0, and_self, ↓Xa, ↓Xb, ↓Xc, ↓Xd, ↓Xe, ↓Xf, ↓Xg, ↓Xh, ↓Xi, ↓Xj, ↓Xk, ↓Xl, ↓Xm, ↓Xn, ↓Xo, ↓Xp, ↓Xq, ↓Xr, ↓Xs, ↓Xt, ↓Xu, ↓Xv, ↓Xw, ↓Xx, ↓Xy, gx0, gx1, gx2, gx3, ife_e, ife_n, ife_r, Xz, ife_ne', XA, XB, XC, XD, decide_true, decide_false, Bool.not_true, Bool.not_false, ↓XG ha]
    have hs : In64 ((A.length : Int) - 1) := by unfold In64; omega
    have h20 : (2 : Nat) ^ A.length ≤ 2 ^ 20 := Nat.pow_le_pow_right (by decide) (by omega)
    refine W.lq (fun q st H1 => H1 = H ∧ ∃ i sn : Nat, q = A.length - i ∧ st = [i64 (sn : Int), i64 (i : Int)] ∧ i ≤ A.length ∧ sn < 2 ^ A.length ∧ (∀ j, sn.testBit j = true ↔ ∃ t, ∃ h : t < A.length, t < i ∧ A[t] = (j : Int)) ∧ (∀ t (h : t < A.length), t < i → 0 ≤ A[t] ∧ A[t] ≤ (A.length : Int) - 1))
      (fun rr H1 => H1 = H ∧ ((∃ z, rr = (.ret, [.bool false, z]) ∧ ¬IsPerm A) ∨ (∃ sn : Nat, rr = (.exit 0, [.undef, i64 (sn : Int)]) ∧ sn < 2 ^ A.length ∧ (∀ j, sn.testBit j = true ↔ (j : Int) ∈ A) ∧ (∀ x ∈ A, 0 ≤ x ∧ x ≤ (A.length : Int) - 1)))) A.length
      ⟨rfl, 0, 0, rfl, rfl, Nat.zero_le _, Nat.two_pow_pos _, fun j => by simp, fun _ _ h => absurd h (Nat.not_lt_zero _)⟩ ?_ ?_
    · rintro q st H1 ⟨rfl, i, sn, rfl, rfl, hi, hsn, hbit, hrg⟩ Q' kn kx
      by_cases hlt : i < A.length
      · have h1 : (i : Int) < A.length := by omega
        simp only [h1, ↓Xa, ↓Xb, ↓Xc, ↓Xd, ↓Xe, ↓Xf, ↓Xg, ↓Xh, ↓Xi, ↓Xj, ↓Xk, ↓Xl, ↓Xm, ↓Xn, ↓Xo, ↓Xp, ↓Xq, ↓Xr, ↓Xs, ↓Xt, ↓Xu, ↓Xv, ↓Xw, ↓Xx, ↓Xy, gx0, gx1, gx2, gx3, ife_e, ife_n, ife_r, Xz, ife_ne', XA, XB, XC, XD, decide_true, decide_false, Bool.not_true, Bool.not_false, ↓wr_ix ha hlt, ↓wr_ldI ha hlt, ↓wr_e (c_length ha), ↓wr_sub hs, ↓wr_e c_within]
        by_cases h2 : 0 ≤ A[i] ∧ A[i] ≤ (A.length : Int) - 1
        · obtain ⟨a, hae⟩ : ∃ a : Nat, A[i] = (a : Int) := ⟨A[i].toNat, by omega⟩
          have han : a < A.length := by omega
          have hp : (2 : Nat) ^ a < 2 ^ A.length := Nat.pow_lt_pow_right (by decide) han
          have hsn62 : sn < 2 ^ 62 := by omega
          have hp62 : (2 : Nat) ^ a < 2 ^ 62 := by omega
          simp only [h2, and_self, ↓Xa, ↓Xb, ↓Xc, ↓Xd, ↓Xe, ↓Xf, ↓Xg, ↓Xh, ↓Xi, ↓Xj, ↓Xk, ↓Xl, ↓Xm, ↓Xn, ↓Xo, ↓Xp, ↓Xq, ↓Xr, ↓Xs, ↓Xt, ↓Xu, ↓Xv, ↓Xw, ↓Xx, ↓Xy, gx0, gx1, gx2, gx3, ife_e, ife_n, ife_r, Xz, ife_ne', XA, XB, XC, XD, decide_true, decide_false, Bool.not_true, Bool.not_false]
          simp only [hae, ↓wr_shl1 (show a ≤ 61 by omega), ↓wr_orn hsn62 hp62]
          rw [wr_inc (by omega)]
          refine W.ret (kn (A.length - (i + 1)) _ _ (by omega) ⟨rfl, i + 1, sn ||| 2 ^ a, rfl, rfl, hlt, Nat.or_lt_two_pow hsn hp, fun j => ?_, fun t ht hti => ?_⟩)
          · rw [Nat.testBit_or, Nat.testBit_two_pow, Bool.or_eq_true, hbit j]
            constructor
            · rintro (⟨t, ht, h3, h4⟩ | h)
              · exact ⟨t, ht, by omega, h4⟩
              · have : a = j := by simpa using h
                exact ⟨i, hlt, by omega, by rw [hae, this]⟩
            · rintro ⟨t, ht, h3, h4⟩
              by_cases hti : t = i
              · subst hti; right; rw [hae] at h4; simp; omega
              · exact .inl ⟨t, ht, by omega, h4⟩
          · by_cases hti' : t = i
            · subst hti'; exact h2
            · exact hrg t ht (by omega)
        · simp only [h2, ↓Xa, ↓Xb, ↓Xc, ↓Xd, ↓Xe, ↓Xf, ↓Xg, ↓Xh, ↓Xi, ↓Xj, ↓Xk, ↓Xl, ↓Xm, ↓Xn, ↓Xo, ↓Xp, ↓Xq, ↓Xr, ↓Xs, ↓Xt, ↓Xu, ↓Xv, ↓Xw, ↓Xx, ↓Xy, gx0, gx1, gx2, gx3, ife_e, ife_n, ife_r, Xz, ife_ne', XA, XB, XC, XD, decide_true, decide_false, Bool.not_true, Bool.not_false]
          exact W.ret (kx _ _ _ (by simp) ⟨rfl, .inl ⟨_, rfl, fun h => h2 (h.2.1 _ (List.getElem_mem hlt))⟩⟩)
      · have : i = A.length := by omega
        subst this
        simp only [Int.lt_irrefl, ↓Xa, ↓Xb, ↓Xc, ↓Xd, ↓Xe, ↓Xf, ↓Xg, ↓Xh, ↓Xi, ↓Xj, ↓Xk, ↓Xl, ↓Xm, ↓Xn, ↓Xo, ↓Xp, ↓Xq, ↓Xr, ↓Xs, ↓Xt, ↓Xu, ↓Xv, ↓Xw, ↓Xx, ↓Xy, gx0, gx1, gx2, gx3, ife_e, ife_n, ife_r, Xz, ife_ne', XA, XB, XC, XD, decide_true, decide_false, Bool.not_true, Bool.not_false]
        refine W.ret (kx _ _ _ (by simp) ⟨rfl, .inr ⟨sn, rfl, hsn, fun j => (hbit j).trans ⟨fun ⟨t, ht, _, h⟩ => h ▸ List.getElem_mem ht, fun h => ?_⟩, fun x hx => ?_⟩⟩)
        · obtain ⟨t, ht, h⟩ := List.mem_iff_getElem.1 h
          exact ⟨t, ht, ht, h⟩
        · obtain ⟨t, ht, rfl⟩ := List.mem_iff_getElem.1 hx
          exact hrg t ht ht
    · rintro rr H1 ⟨rfl, ⟨z, rfl, hn⟩ | ⟨sn, rfl, hsn, hbit, hrg⟩⟩
      · simp only [↓Xa, ↓Xb, ↓Xc, ↓Xd, ↓Xe, ↓Xf, ↓Xg, ↓Xh, ↓Xi, ↓Xj, ↓Xk, ↓Xl, ↓Xm, ↓Xn, ↓Xo, ↓Xp, ↓Xq, ↓Xr, ↓Xs, ↓Xt, ↓Xu, ↓Xv, ↓Xw, ↓Xx, ↓Xy, gx0, gx1, gx2, gx3, ife_e, ife_n, ife_r, Xz, ife_ne', XA, XB, XC, XD, decide_true, decide_false, Bool.not_true, Bool.not_false]
        exact W.ret (by simpa only [hn, decide_false] using k)
      · have hs2 : In64 (((2 ^ A.length : Nat) : Int) - 1) := by unfold In64; omega
        simp only [↓Xa, ↓Xb, ↓Xc, ↓Xd, ↓Xe, ↓Xf, ↓Xg, ↓Xh, ↓Xi, ↓Xj, ↓Xk, ↓Xl, ↓Xm, ↓Xn, ↓Xo, ↓Xp, ↓Xq, ↓Xr, ↓Xs, ↓Xt, ↓Xu, ↓Xv, ↓Xw, ↓Xx, ↓Xy, gx0, gx1, gx2, gx3, ife_e, ife_n, ife_r, Xz, ife_ne', XA, XB, XC, XD, decide_true, decide_false, Bool.not_true, Bool.not_false, ↓XG ha, ↓wr_shl1 (show A.length ≤ 61 by omega), ↓wr_sub hs2]
        have hiff : (sn : Int) = ((2 ^ A.length : Nat) : Int) - 1 ↔ IsPerm A := by
          have hpos : 0 < 2 ^ A.length := Nat.two_pow_pos _
          constructor
          · intro h
            have hsn' : sn = 2 ^ A.length - 1 := by omega
            refine ⟨h0, hrg, nodup_of_full (A := (List.range A.length).map fun (j : Nat) => (j : Int)) ?_ (fun x hx => ?_) (by simp)⟩
            · rw [List.nodup_iff_pairwise_ne, List.pairwise_map]
              exact (List.nodup_iff_pairwise_ne.1 List.nodup_range).imp fun h h' => h (by omega)
            · obtain ⟨j, hj, rfl⟩ := List.mem_map.1 hx
              refine (hbit j).1 ?_
              rw [hsn', Nat.testBit_two_pow_sub_one]
              simpa using hj
          · intro h
            have : sn = 2 ^ A.length - 1 := by
              apply Nat.eq_of_testBit_eq
              intro j
              rw [Nat.testBit_two_pow_sub_one, Bool.eq_iff_iff, hbit j, decide_eq_true_eq]
              constructor
              · intro hm
                have := hrg _ hm; omega
              · intro hj; exact h.2.surj hj
            omega
        exact W.ret (by simpa only [hiff] using k)
  · simp only [h0, ↓Xa, ↓Xb, ↓Xc, ↓Xd, ↓Xe, ↓Xf, ↓Xg, ↓Xh, ↓Xi, ↓Xj, ↓Xk, ↓Xl, ↓Xm, ↓Xn, ↓Xo, ↓Xp, ↓Xq, ↓Xr, ↓Xs, ↓Xt, ↓Xu, ↓Xv, ↓Xw, ↓Xx, ↓Xy, gx0, gx1, gx2, gx3, ife_e, ife_n, ife_r, Xz, ife_ne', XA, XB, XC, XD, decide_true, decide_false, Bool.not_true, Bool.not_false]
    have : ¬IsPerm A := fun h => h0 h.1
    exact W.ret (by simpa only [this, decide_false] using k)
end
end Go.Am

end

section
set_option linter.unusedSimpArgs false
set_option linter.unusedVariables false
/- Contracts: the program's own generators, names, puzzles, patterns. -/
namespace Go.Am
section
variable {β X : Type} {f : AVal → AM β} {Q : AVal → AHeap → Prop} {m m2 : Md} {P P2 P3 P4 P5 P' S T : Nat → Prop} {e e2 : TypeId} {H H1 H2 H' : AHeap} {v u x y : AVal} {A B C s D r : List Int} {L LL : List (List Int)} {p : Puz} {cs : List AVal} {t : Tbl}
theorem c_IsGeneratorSet_1 {n : Int} (ha : Ints .ro P H v A) (hx : Bx P2 t_int64 H x [i64 n]) : s_im_IsGeneratorSet_1 v x H = some (.bool (decide (¬((A.length : Int) = n ∧ IsPerm A))), H) := by
  refine eq_of_W fun Q k => ?_
  unfold s_im_IsGeneratorSet_1
  simp only [↓Xa, ↓Xb, ↓Xc, ↓Xd, ↓Xe, ↓Xf, ↓Xg, ↓Xh, ↓Xi, ↓Xj, ↓Xk, ↓Xl, ↓Xm, ↓Xn, ↓Xo, ↓Xp, ↓Xq, ↓Xr, ↓Xs, ↓Xt, ↓Xu, ↓Xv, ↓Xw, ↓Xx, ↓Xy, gx0, gx1, gx2, gx3, ife_e, ife_n, ife_r, Xz, ife_ne', XA, XB, XC, XD, decide_true, decide_false, Bool.not_true, Bool.not_false, ↓wr_e (c_length ha), ↓wr_fx hx]
  refine W.agn1 (hx.ld0 rfl) ?_
  by_cases h1 : (A.length : Int) = n
  · simp only [h1, ↓Xa, ↓Xb, ↓Xc, ↓Xd, ↓Xe, ↓Xf, ↓Xg, ↓Xh, ↓Xi, ↓Xj, ↓Xk, ↓Xl, ↓Xm, ↓Xn, ↓Xo, ↓Xp, ↓Xq, ↓Xr, ↓Xs, ↓Xt, ↓Xu, ↓Xv, ↓Xw, ↓Xx, ↓Xy, gx0, gx1, gx2, gx3, ife_e, ife_n, ife_r, Xz, ife_ne', XA, XB, XC, XD, decide_true, decide_false, Bool.not_true, Bool.not_false, ↓wr_e (c_imIsPermutation ha)]
    by_cases h2 : IsPerm A
    · simp only [h2, ↓Xa, ↓Xb, ↓Xc, ↓Xd, ↓Xe, ↓Xf, ↓Xg, ↓Xh, ↓Xi, ↓Xj, ↓Xk, ↓Xl, ↓Xm, ↓Xn, ↓Xo, ↓Xp, ↓Xq, ↓Xr, ↓Xs, ↓Xt, ↓Xu, ↓Xv, ↓Xw, ↓Xx, ↓Xy, gx0, gx1, gx2, gx3, ife_e, ife_n, ife_r, Xz, ife_ne', XA, XB, XC, XD, decide_true, decide_false, Bool.not_true, Bool.not_false]
      exact W.ret (by simpa only [h1, h2, and_self, not_true, decide_false] using k)
    · simp only [h2, ↓Xa, ↓Xb, ↓Xc, ↓Xd, ↓Xe, ↓Xf, ↓Xg, ↓Xh, ↓Xi, ↓Xj, ↓Xk, ↓Xl, ↓Xm, ↓Xn, ↓Xo, ↓Xp, ↓Xq, ↓Xr, ↓Xs, ↓Xt, ↓Xu, ↓Xv, ↓Xw, ↓Xx, ↓Xy, gx0, gx1, gx2, gx3, ife_e, ife_n, ife_r, Xz, ife_ne', XA, XB, XC, XD, decide_true, decide_false, Bool.not_true, Bool.not_false]
      exact W.ret (by simpa only [h2, and_false, not_false_iff, decide_true] using k)
  · simp only [h1, ↓Xa, ↓Xb, ↓Xc, ↓Xd, ↓Xe, ↓Xf, ↓Xg, ↓Xh, ↓Xi, ↓Xj, ↓Xk, ↓Xl, ↓Xm, ↓Xn, ↓Xo, ↓Xp, ↓Xq, ↓Xr, ↓Xs, ↓Xt, ↓Xu, ↓Xv, ↓Xw, ↓Xx, ↓Xy, gx0, gx1, gx2, gx3, ife_e, ife_n, ife_r, Xz, ife_ne', XA, XB, XC, XD, decide_true, decide_false, Bool.not_true, Bool.not_false]
    exact W.ret (by simpa only [h1, false_and, not_false_iff, decide_true] using k)
theorem cv_gen {a b : AVal} : callV c_s_slices_IndexFunc_SSint64_Sint64 (.func (.func k_s_im_IsGeneratorSet_1) [] [b]) [a] = s_im_IsGeneratorSet_1 a b := rfl
theorem c_gensContain {n : Int} (ha : Lists .ro P P2 H v LL) (hx : Bx P3 t_int64 H x [i64 n]) : s_slices_ContainsFunc_SSint64_Sint64 v (.func (.func k_s_im_IsGeneratorSet_1) [] [x]) H = some (.bool (decide (¬∀ i (h : i < LL.length), (LL[i].length : Int) = n ∧ IsPerm LL[i])), H) := by
  refine eq_of_W fun Q k => ?_
  have hba := ha.bd
  unfold s_slices_ContainsFunc_SSint64_Sint64 s_slices_IndexFunc_SSint64_Sint64
  simp only [↓XH, ↓XG ha]
  refine W.scan (e := 0) (w := [.undef]) LL.length (fun i => ¬∃ h : i < LL.length, (LL[i].length : Int) = n ∧ IsPerm LL[i]) (fun i => [i64 (i : Int)]) (fun i hi Q' k1 k2 => ?_) (fun Q' k1 => ?_) (fun i hi hb _ => ?_) fun hb => ?_
  · have : (i : Int) < LL.length := by omega
    obtain ⟨z, hz, hL, _⟩ := ha.ld1 hi
    simp only [this, ↓Xa, ↓Xb, ↓Xc, ↓Xd, ↓Xe, ↓Xf, ↓Xg, ↓Xh, ↓Xi, ↓Xj, ↓Xk, ↓Xl, ↓Xm, ↓Xn, ↓Xo, ↓Xp, ↓Xq, ↓Xr, ↓Xs, ↓Xt, ↓Xu, ↓Xv, ↓Xw, ↓Xx, ↓Xy, gx0, gx1, gx2, gx3, ife_e, ife_n, ife_r, Xz, ife_ne', XA, XB, XC, XD, decide_true, decide_false, Bool.not_true, Bool.not_false, ↓wr_ix ha hi, ↓wr_e hz, cv_gen, ↓wr_e (c_IsGeneratorSet_1 hL hx)]
    by_cases h : (LL[i].length : Int) = n ∧ IsPerm LL[i]
    · simp only [h, and_self, not_true, ↓Xa, ↓Xb, ↓Xc, ↓Xd, ↓Xe, ↓Xf, ↓Xg, ↓Xh, ↓Xi, ↓Xj, ↓Xk, ↓Xl, ↓Xm, ↓Xn, ↓Xo, ↓Xp, ↓Xq, ↓Xr, ↓Xs, ↓Xt, ↓Xu, ↓Xv, ↓Xw, ↓Xx, ↓Xy, gx0, gx1, gx2, gx3, ife_e, ife_n, ife_r, Xz, ife_ne', XA, XB, XC, XD, decide_true, decide_false, Bool.not_true, Bool.not_false]
      rw [wr_inc (by omega)]
      exact W.ret (k2 fun hn => hn ⟨hi, h⟩)
    · simp only [h, not_false_iff, ↓Xa, ↓Xb, ↓Xc, ↓Xd, ↓Xe, ↓Xf, ↓Xg, ↓Xh, ↓Xi, ↓Xj, ↓Xk, ↓Xl, ↓Xm, ↓Xn, ↓Xo, ↓Xp, ↓Xq, ↓Xr, ↓Xs, ↓Xt, ↓Xu, ↓Xv, ↓Xw, ↓Xx, ↓Xy, gx0, gx1, gx2, gx3, ife_e, ife_n, ife_r, Xz, ife_ne', XA, XB, XC, XD, decide_true, decide_false, Bool.not_true, Bool.not_false]
      exact W.ret (k1 fun ⟨_, h'⟩ => h h')
  · simp only [↓Xa, ↓Xb, ↓Xc, ↓Xd, ↓Xe, ↓Xf, ↓Xg, ↓Xh, ↓Xi, ↓Xj, ↓Xk, ↓Xl, ↓Xm, ↓Xn, ↓Xo, ↓Xp, ↓Xq, ↓Xr, ↓Xs, ↓Xt, ↓Xu, ↓Xv, ↓Xw, ↓Xx, ↓Xy, gx0, gx1, gx2, gx3, ife_e, ife_n, ife_r, Xz, ife_ne', XA, XB, XC, XD, decide_true, decide_false, Bool.not_true, Bool.not_false, Int.lt_irrefl]
    exact W.ret k1
  · have h0 : (0 : Int) ≤ i := by omega
    simp only [↓Xa, ↓Xb, ↓Xc, ↓Xd, ↓Xe, ↓Xf, ↓Xg, ↓Xh, ↓Xi, ↓Xj, ↓Xk, ↓Xl, ↓Xm, ↓Xn, ↓Xo, ↓Xp, ↓Xq, ↓Xr, ↓Xs, ↓Xt, ↓Xu, ↓Xv, ↓Xw, ↓Xx, ↓Xy, gx0, gx1, gx2, gx3, ife_e, ife_n, ife_r, Xz, ife_ne', XA, XB, XC, XD, decide_true, decide_false, Bool.not_true, Bool.not_false, h0]
    have : ¬∀ i (h : i < LL.length), (LL[i].length : Int) = n ∧ IsPerm LL[i] := fun h => hb ⟨hi, h i hi⟩
    exact W.ret (by simpa only [this, not_false_iff, decide_true] using k)
  · have h0 : ¬(0 : Int) ≤ -1 := by omega
    simp only [↓Xa, ↓Xb, ↓Xc, ↓Xd, ↓Xe, ↓Xf, ↓Xg, ↓Xh, ↓Xi, ↓Xj, ↓Xk, ↓Xl, ↓Xm, ↓Xn, ↓Xo, ↓Xp, ↓Xq, ↓Xr, ↓Xs, ↓Xt, ↓Xu, ↓Xv, ↓Xw, ↓Xx, ↓Xy, gx0, gx1, gx2, gx3, ife_e, ife_n, ife_r, Xz, ife_ne', XA, XB, XC, XD, decide_true, decide_false, Bool.not_true, Bool.not_false, h0]
    have : ∀ i (h : i < LL.length), (LL[i].length : Int) = n ∧ IsPerm LL[i] := fun i hi => (Classical.not_not.1 (hb i hi)).2
    rw [decide_eq_false (Classical.not_not.2 this)] at k
    exact W.ret k
theorem c_imIsGeneratorSet {n : Int} (hp : Hp H) (ha : Lists .ro P P2 H v LL) (k : ∀ H', Le H H' → Q (.bool (decide (Gens n LL))) H') : W (s_im_IsGeneratorSet (i64 n) v) H Q := by
  unfold s_im_IsGeneratorSet
  refine W.box1 hp rfl fun x1 H1 l1 b1 => ?_
  have ha := ha.leL l1
  simp only [↓wr_fx b1, ↓wr_e c_within]
  by_cases h1 : 1 ≤ n ∧ n ≤ 20
  · simp only [h1, and_self, ↓Xa, ↓Xb, ↓Xc, ↓Xd, ↓Xe, ↓Xf, ↓Xg, ↓Xh, ↓Xi, ↓Xj, ↓Xk, ↓Xl, ↓Xm, ↓Xn, ↓Xo, ↓Xp, ↓Xq, ↓Xr, ↓Xs, ↓Xt, ↓Xu, ↓Xv, ↓Xw, ↓Xx, ↓Xy, gx0, gx1, gx2, gx3, ife_e, ife_n, ife_r, Xz, ife_ne', XA, XB, XC, XD, decide_true, decide_false, Bool.not_true, Bool.not_false, ↓XG ha]
    by_cases h2 : (LL.length : Int) ≤ 8
    · simp only [h2, ↓Xa, ↓Xb, ↓Xc, ↓Xd, ↓Xe, ↓Xf, ↓Xg, ↓Xh, ↓Xi, ↓Xj, ↓Xk, ↓Xl, ↓Xm, ↓Xn, ↓Xo, ↓Xp, ↓Xq, ↓Xr, ↓Xs, ↓Xt, ↓Xu, ↓Xv, ↓Xw, ↓Xx, ↓Xy, gx0, gx1, gx2, gx3, ife_e, ife_n, ife_r, Xz, ife_ne', XA, XB, XC, XD, decide_true, decide_false, Bool.not_true, Bool.not_false, ↓wr_e (c_gensContain ha b1)]
      by_cases h3 : ∀ i (h : i < LL.length), (LL[i].length : Int) = n ∧ IsPerm LL[i]
      · simp only [h3, implies_true, not_true, and_self, ↓Xa, ↓Xb, ↓Xc, ↓Xd, ↓Xe, ↓Xf, ↓Xg, ↓Xh, ↓Xi, ↓Xj, ↓Xk, ↓Xl, ↓Xm, ↓Xn, ↓Xo, ↓Xp, ↓Xq, ↓Xr, ↓Xs, ↓Xt, ↓Xu, ↓Xv, ↓Xw, ↓Xx, ↓Xy, gx0, gx1, gx2, gx3, ife_e, ife_n, ife_r, Xz, ife_ne', XA, XB, XC, XD, decide_true, decide_false, Bool.not_true, Bool.not_false]
        have : Gens n LL := ⟨⟨h1, h2⟩, h3⟩
        exact W.ret (by simpa only [this, decide_true] using k _ l1)
      · simp only [h3, not_false_iff, ↓Xa, ↓Xb, ↓Xc, ↓Xd, ↓Xe, ↓Xf, ↓Xg, ↓Xh, ↓Xi, ↓Xj, ↓Xk, ↓Xl, ↓Xm, ↓Xn, ↓Xo, ↓Xp, ↓Xq, ↓Xr, ↓Xs, ↓Xt, ↓Xu, ↓Xv, ↓Xw, ↓Xx, ↓Xy, gx0, gx1, gx2, gx3, ife_e, ife_n, ife_r, Xz, ife_ne', XA, XB, XC, XD, decide_true, decide_false, Bool.not_true, Bool.not_false]
        have : ¬Gens n LL := fun h => h3 h.2
        exact W.ret (by simpa only [this, decide_false] using k _ l1)
    · simp only [h2, ↓Xa, ↓Xb, ↓Xc, ↓Xd, ↓Xe, ↓Xf, ↓Xg, ↓Xh, ↓Xi, ↓Xj, ↓Xk, ↓Xl, ↓Xm, ↓Xn, ↓Xo, ↓Xp, ↓Xq, ↓Xr, ↓Xs, ↓Xt, ↓Xu, ↓Xv, ↓Xw, ↓Xx, ↓Xy, gx0, gx1, gx2, gx3, ife_e, ife_n, ife_r, Xz, ife_ne', XA, XB, XC, XD, decide_true, decide_false, Bool.not_true, Bool.not_false]
      have : ¬Gens n LL := fun h => h2 h.1.2
      exact W.ret (by simpa only [this, decide_false] using k _ l1)
  · simp only [h1, ↓Xa, ↓Xb, ↓Xc, ↓Xd, ↓Xe, ↓Xf, ↓Xg, ↓Xh, ↓Xi, ↓Xj, ↓Xk, ↓Xl, ↓Xm, ↓Xn, ↓Xo, ↓Xp, ↓Xq, ↓Xr, ↓Xs, ↓Xt, ↓Xu, ↓Xv, ↓Xw, ↓Xx, ↓Xy, gx0, gx1, gx2, gx3, ife_e, ife_n, ife_r, Xz, ife_ne', XA, XB, XC, XD, decide_true, decide_false, Bool.not_true, Bool.not_false]
    have : ¬Gens n LL := fun h => h1 h.1.1
    exact W.ret (by simpa only [this, decide_false] using k _ l1)
theorem wr_eqln {b : Bool} {Q : β → AHeap → Prop} {a c : Nat} {k : IntKind} : W (bnd (abin .eql (.int k (a : Int)) (.int k (c : Int))) f) H Q ↔ W (f (.bool (decide (a = c)))) H Q := by
  rw [Xq]
  have : ((a : Int) = (c : Int)) = (a = c) := by rw [eq_iff_iff]; omega
  simp only [this]
theorem u8_in {b : UInt8} : IntKind.i64.wrap (b.toNat : Int) = (b.toNat : Int) := wrap_in (by have := b.toNat_lt; unfold In64; omega)
theorem u8_ne {b c : UInt8} : ((b.toNat : Int) = (c.toNat : Int)) ↔ b = c := by
  constructor
  · intro h
    have : b.toNat = c.toNat := by omega
    exact UInt8.toNat_inj.1 this
  · rintro rfl; rfl
def NamesOk (s : List UInt8) : Prop := (∀ i, i < s.length → NameAt s i) ∧ (1 ≤ (s.length : Int) ∧ (s.length : Int) ≤ 8)
noncomputable instance {s : List UInt8} : Decidable (NamesOk s) := Classical.propDecidable _
theorem c_isNames {s : List UInt8} (hb : s.length ≤ 1073741824) : s_im_isNames (.str s) H = some (.bool (decide (NamesOk s)), H) := by
  refine eq_of_W fun Q k => ?_
  unfold s_im_isNames
  simp only [↓Xa, ↓Xb, ↓Xc, ↓Xd, ↓Xe, ↓Xf, ↓Xg, ↓Xh, ↓Xi, ↓Xj, ↓Xk, ↓Xl, ↓Xm, ↓Xn, ↓Xo, ↓Xp, ↓Xq, ↓Xr, ↓Xs, ↓Xt, ↓Xu, ↓Xv, ↓Xw, ↓Xx, ↓Xy, gx0, gx1, gx2, gx3, ife_e, ife_n, ife_r, Xz, ife_ne', XA, XB, XC, XD, decide_true, decide_false, Bool.not_true, Bool.not_false]
  refine W.scan (e := 0) (w := [.undef]) s.length (fun i => ¬NameAt s i) (fun _ => [.bool false]) (fun i hi Q' k1 k2 => ?_) (fun Q' k1 => ?_) (fun i hi hb _ => ?_) fun hb => ?_
  · have : (i : Int) < s.length := by omega
    simp only [this, ↓Xa, ↓Xb, ↓Xc, ↓Xd, ↓Xe, ↓Xf, ↓Xg, ↓Xh, ↓Xi, ↓Xj, ↓Xk, ↓Xl, ↓Xm, ↓Xn, ↓Xo, ↓Xp, ↓Xq, ↓Xr, ↓Xs, ↓Xt, ↓Xu, ↓Xv, ↓Xw, ↓Xx, ↓Xy, gx0, gx1, gx2, gx3, ife_e, ife_n, ife_r, Xz, ife_ne', XA, XB, XC, XD, decide_true, decide_false, Bool.not_true, Bool.not_false, ↓wr_ixStr hi, u8_in, ↓wr_e c_within]
    by_cases h1 : 65 ≤ ((s[i]).toNat : Int) ∧ ((s[i]).toNat : Int) ≤ 90
    · simp only [h1, and_self, ↓Xa, ↓Xb, ↓Xc, ↓Xd, ↓Xe, ↓Xf, ↓Xg, ↓Xh, ↓Xi, ↓Xj, ↓Xk, ↓Xl, ↓Xm, ↓Xn, ↓Xo, ↓Xp, ↓Xq, ↓Xr, ↓Xs, ↓Xt, ↓Xu, ↓Xv, ↓Xw, ↓Xx, ↓Xy, gx0, gx1, gx2, gx3, ife_e, ife_n, ife_r, Xz, ife_ne', XA, XB, XC, XD, decide_true, decide_false, Bool.not_true, Bool.not_false]
      refine W.scan (e := 2) (w := [.undef]) i (fun k => s[k]? = s[i]?) (fun _ => [.bool false]) (fun j hj Q'' k3 k4 => ?_) (fun Q'' k3 => ?_) (fun j hj hb' _ => ?_) fun hb' => ?_
      · have hj' : j < s.length := by omega
        have : (j : Int) < i := by omega
        simp only [this, ↓Xa, ↓Xb, ↓Xc, ↓Xd, ↓Xe, ↓Xf, ↓Xg, ↓Xh, ↓Xi, ↓Xj, ↓Xk, ↓Xl, ↓Xm, ↓Xn, ↓Xo, ↓Xp, ↓Xq, ↓Xr, ↓Xs, ↓Xt, ↓Xu, ↓Xv, ↓Xw, ↓Xx, ↓Xy, gx0, gx1, gx2, gx3, ife_e, ife_n, ife_r, Xz, ife_ne', XA, XB, XC, XD, decide_true, decide_false, Bool.not_true, Bool.not_false, ↓wr_ixStr hj', ↓wr_ixStr hi, u8_ne]
        by_cases h2 : s[j] = s[i]
        · simp only [h2, ↓Xa, ↓Xb, ↓Xc, ↓Xd, ↓Xe, ↓Xf, ↓Xg, ↓Xh, ↓Xi, ↓Xj, ↓Xk, ↓Xl, ↓Xm, ↓Xn, ↓Xo, ↓Xp, ↓Xq, ↓Xr, ↓Xs, ↓Xt, ↓Xu, ↓Xv, ↓Xw, ↓Xx, ↓Xy, gx0, gx1, gx2, gx3, ife_e, ife_n, ife_r, Xz, ife_ne', XA, XB, XC, XD, decide_true, decide_false, Bool.not_true, Bool.not_false]
          exact W.ret (k3 (by simp [hi, hj', h2]))
        · simp only [h2, ↓Xa, ↓Xb, ↓Xc, ↓Xd, ↓Xe, ↓Xf, ↓Xg, ↓Xh, ↓Xi, ↓Xj, ↓Xk, ↓Xl, ↓Xm, ↓Xn, ↓Xo, ↓Xp, ↓Xq, ↓Xr, ↓Xs, ↓Xt, ↓Xu, ↓Xv, ↓Xw, ↓Xx, ↓Xy, gx0, gx1, gx2, gx3, ife_e, ife_n, ife_r, Xz, ife_ne', XA, XB, XC, XD, decide_true, decide_false, Bool.not_true, Bool.not_false]
          rw [wr_inc (by omega)]
          exact W.ret (k4 (by simp [hi, hj', h2]))
      · simp only [↓Xa, ↓Xb, ↓Xc, ↓Xd, ↓Xe, ↓Xf, ↓Xg, ↓Xh, ↓Xi, ↓Xj, ↓Xk, ↓Xl, ↓Xm, ↓Xn, ↓Xo, ↓Xp, ↓Xq, ↓Xr, ↓Xs, ↓Xt, ↓Xu, ↓Xv, ↓Xw, ↓Xx, ↓Xy, gx0, gx1, gx2, gx3, ife_e, ife_n, ife_r, Xz, ife_ne', XA, XB, XC, XD, decide_true, decide_false, Bool.not_true, Bool.not_false, Int.lt_irrefl]
        exact W.ret k3
      · simp only [↓Xa, ↓Xb, ↓Xc, ↓Xd, ↓Xe, ↓Xf, ↓Xg, ↓Xh, ↓Xi, ↓Xj, ↓Xk, ↓Xl, ↓Xm, ↓Xn, ↓Xo, ↓Xp, ↓Xq, ↓Xr, ↓Xs, ↓Xt, ↓Xu, ↓Xv, ↓Xw, ↓Xx, ↓Xy, gx0, gx1, gx2, gx3, ife_e, ife_n, ife_r, Xz, ife_ne', XA, XB, XC, XD, decide_true, decide_false, Bool.not_true, Bool.not_false]
        refine W.ret (k1 fun ⟨h3, h4, h5⟩ => h5 j hj ?_)
        have hj' : j < s.length := by omega
        simpa [hi, hj'] using hb'
      · simp only [↓Xa, ↓Xb, ↓Xc, ↓Xd, ↓Xe, ↓Xf, ↓Xg, ↓Xh, ↓Xi, ↓Xj, ↓Xk, ↓Xl, ↓Xm, ↓Xn, ↓Xo, ↓Xp, ↓Xq, ↓Xr, ↓Xs, ↓Xt, ↓Xu, ↓Xv, ↓Xw, ↓Xx, ↓Xy, gx0, gx1, gx2, gx3, ife_e, ife_n, ife_r, Xz, ife_ne', XA, XB, XC, XD, decide_true, decide_false, Bool.not_true, Bool.not_false]
        rw [wr_inc (by omega)]
        refine W.ret (k2 fun h => h ⟨hi, h1, fun j hj he => hb' j hj ?_⟩)
        have hj' : j < s.length := by omega
        simp [hi, hj', he]
    · simp only [h1, ↓Xa, ↓Xb, ↓Xc, ↓Xd, ↓Xe, ↓Xf, ↓Xg, ↓Xh, ↓Xi, ↓Xj, ↓Xk, ↓Xl, ↓Xm, ↓Xn, ↓Xo, ↓Xp, ↓Xq, ↓Xr, ↓Xs, ↓Xt, ↓Xu, ↓Xv, ↓Xw, ↓Xx, ↓Xy, gx0, gx1, gx2, gx3, ife_e, ife_n, ife_r, Xz, ife_ne', XA, XB, XC, XD, decide_true, decide_false, Bool.not_true, Bool.not_false]
      exact W.ret (k1 fun ⟨_, h, _⟩ => h1 h)
  · simp only [↓Xa, ↓Xb, ↓Xc, ↓Xd, ↓Xe, ↓Xf, ↓Xg, ↓Xh, ↓Xi, ↓Xj, ↓Xk, ↓Xl, ↓Xm, ↓Xn, ↓Xo, ↓Xp, ↓Xq, ↓Xr, ↓Xs, ↓Xt, ↓Xu, ↓Xv, ↓Xw, ↓Xx, ↓Xy, gx0, gx1, gx2, gx3, ife_e, ife_n, ife_r, Xz, ife_ne', XA, XB, XC, XD, decide_true, decide_false, Bool.not_true, Bool.not_false, Int.lt_irrefl]
    exact W.ret k1
  · simp only [↓Xa, ↓Xb, ↓Xc, ↓Xd, ↓Xe, ↓Xf, ↓Xg, ↓Xh, ↓Xi, ↓Xj, ↓Xk, ↓Xl, ↓Xm, ↓Xn, ↓Xo, ↓Xp, ↓Xq, ↓Xr, ↓Xs, ↓Xt, ↓Xu, ↓Xv, ↓Xw, ↓Xx, ↓Xy, gx0, gx1, gx2, gx3, ife_e, ife_n, ife_r, Xz, ife_ne', XA, XB, XC, XD, decide_true, decide_false, Bool.not_true, Bool.not_false]
    have : ¬NamesOk s := fun h => hb (h.1 i hi)
    exact W.ret (by simpa only [this, decide_false] using k)
  · simp only [↓Xa, ↓Xb, ↓Xc, ↓Xd, ↓Xe, ↓Xf, ↓Xg, ↓Xh, ↓Xi, ↓Xj, ↓Xk, ↓Xl, ↓Xm, ↓Xn, ↓Xo, ↓Xp, ↓Xq, ↓Xr, ↓Xs, ↓Xt, ↓Xu, ↓Xv, ↓Xw, ↓Xx, ↓Xy, gx0, gx1, gx2, gx3, ife_e, ife_n, ife_r, Xz, ife_ne', XA, XB, XC, XD, decide_true, decide_false, Bool.not_true, Bool.not_false, ↓wr_e c_within]
    have : ∀ i, i < s.length → NameAt s i := fun i hi => Classical.not_not.1 (hb i hi)
    refine W.ret ?_
    have h2 : NamesOk s ↔ (1 ≤ (s.length : Int) ∧ (s.length : Int) ≤ 8) := ⟨And.right, fun h => ⟨this, h⟩⟩
    simpa only [h2] using k
theorem c_imIsValidPuzzle (hp : Hp H) (h : PuzA P P2 H v p) (k : ∀ H', Le H H' → Q (.bool (decide (Valid p))) H') : W (s_im_IsValidPuzzle v) H Q := by
  obtain ⟨mv, rfl, hm, h64, hnl⟩ := h
  unfold s_im_IsValidPuzzle
  refine W.box hp (by decide) rfl (cells_p hm.isCell) fun x1 H1 l1 b1 => ?_
  have hm := hm.leL l1
  simp only [↓XE b1, ↓wr_f0 b1, ↓wr_f2 b1]
  refine W.bnd (c_imIsGeneratorSet l1.wf hm fun H2 l2 => ?_)
  have b1 := b1.le l2
  have l := l1.tr l2
  by_cases h1 : Gens p.points p.moves
  · simp only [h1, ↓Xa, ↓Xb, ↓Xc, ↓Xd, ↓Xe, ↓Xf, ↓Xg, ↓Xh, ↓Xi, ↓Xj, ↓Xk, ↓Xl, ↓Xm, ↓Xn, ↓Xo, ↓Xp, ↓Xq, ↓Xr, ↓Xs, ↓Xt, ↓Xu, ↓Xv, ↓Xw, ↓Xx, ↓Xy, gx0, gx1, gx2, gx3, ife_e, ife_n, ife_r, Xz, ife_ne', XA, XB, XC, XD, decide_true, decide_false, Bool.not_true, Bool.not_false, ↓XE b1, ↓wr_f1 b1, ↓wr_e (c_isNames hnl)]
    by_cases h2 : NamesOk p.names
    · simp only [h2, ↓Xa, ↓Xb, ↓Xc, ↓Xd, ↓Xe, ↓Xf, ↓Xg, ↓Xh, ↓Xi, ↓Xj, ↓Xk, ↓Xl, ↓Xm, ↓Xn, ↓Xo, ↓Xp, ↓Xq, ↓Xr, ↓Xs, ↓Xt, ↓Xu, ↓Xv, ↓Xw, ↓Xx, ↓Xy, gx0, gx1, gx2, gx3, ife_e, ife_n, ife_r, Xz, ife_ne', XA, XB, XC, XD, decide_true, decide_false, Bool.not_true, Bool.not_false, ↓XE b1, ↓wr_f1 b1, ↓wr_f2 b1, ↓XG hm]
      by_cases h3 : (p.names.length : Int) = p.moves.length
      · simp only [h3, ↓Xa, ↓Xb, ↓Xc, ↓Xd, ↓Xe, ↓Xf, ↓Xg, ↓Xh, ↓Xi, ↓Xj, ↓Xk, ↓Xl, ↓Xm, ↓Xn, ↓Xo, ↓Xp, ↓Xq, ↓Xr, ↓Xs, ↓Xt, ↓Xu, ↓Xv, ↓Xw, ↓Xx, ↓Xy, gx0, gx1, gx2, gx3, ife_e, ife_n, ife_r, Xz, ife_ne', XA, XB, XC, XD, decide_true, decide_false, Bool.not_true, Bool.not_false]
        have : Valid p := ⟨by have := h2.2; omega, by omega, h1, h2.1⟩
        exact W.ret (by simpa only [this, decide_true] using k _ l)
      · simp only [h3, ↓Xa, ↓Xb, ↓Xc, ↓Xd, ↓Xe, ↓Xf, ↓Xg, ↓Xh, ↓Xi, ↓Xj, ↓Xk, ↓Xl, ↓Xm, ↓Xn, ↓Xo, ↓Xp, ↓Xq, ↓Xr, ↓Xs, ↓Xt, ↓Xu, ↓Xv, ↓Xw, ↓Xx, ↓Xy, gx0, gx1, gx2, gx3, ife_e, ife_n, ife_r, Xz, ife_ne', XA, XB, XC, XD, decide_true, decide_false, Bool.not_true, Bool.not_false]
        have : ¬Valid p := fun h => h3 (by have := h.2.1; omega)
        exact W.ret (by simpa only [this, decide_false] using k _ l)
    · simp only [h2, ↓Xa, ↓Xb, ↓Xc, ↓Xd, ↓Xe, ↓Xf, ↓Xg, ↓Xh, ↓Xi, ↓Xj, ↓Xk, ↓Xl, ↓Xm, ↓Xn, ↓Xo, ↓Xp, ↓Xq, ↓Xr, ↓Xs, ↓Xt, ↓Xu, ↓Xv, ↓Xw, ↓Xx, ↓Xy, gx0, gx1, gx2, gx3, ife_e, ife_n, ife_r, Xz, ife_ne', XA, XB, XC, XD, decide_true, decide_false, Bool.not_true, Bool.not_false]
      have : ¬Valid p := fun h => h2 ⟨h.2.2.2, by have := h.2.1; have := h.1; have := h.2.2.1.1.2; omega⟩
      exact W.ret (by simpa only [this, decide_false] using k _ l)
  · simp only [h1, ↓Xa, ↓Xb, ↓Xc, ↓Xd, ↓Xe, ↓Xf, ↓Xg, ↓Xh, ↓Xi, ↓Xj, ↓Xk, ↓Xl, ↓Xm, ↓Xn, ↓Xo, ↓Xp, ↓Xq, ↓Xr, ↓Xs, ↓Xt, ↓Xu, ↓Xv, ↓Xw, ↓Xx, ↓Xy, gx0, gx1, gx2, gx3, ife_e, ife_n, ife_r, Xz, ife_ne', XA, XB, XC, XD, decide_true, decide_false, Bool.not_true, Bool.not_false]
    have : ¬Valid p := fun h => h1 h.2.2.1
    exact W.ret (by simpa only [this, decide_false] using k _ l)
theorem c_isPoint {n a : Int} (hn : In64 (n - 1)) : s_im_isPoint (i64 n) (i64 a) H = some (.bool (decide (0 ≤ a ∧ a ≤ n - 1)), H) := by
  refine eq_of_W fun Q k => ?_
  unfold s_im_isPoint
  simp only [↓wr_sub hn, ↓wr_e c_within]
  exact W.ret k
theorem incr_len {n : Int} (h1 : ∀ x ∈ A, 0 ≤ x ∧ x ≤ n - 1) (h2 : A.Pairwise (· < ·)) : (A.length : Int) ≤ n ∨ A = [] := by
  by_cases h0 : A = []
  · exact .inr h0
  · left
    have hnd : A.Nodup := by
      rw [List.nodup_iff_pairwise_ne]
      exact h2.imp fun h => by omega
    have := nodup_sub_length (B := (List.range n.toNat).map fun (j : Nat) => (j : Int)) hnd fun x hx => by
      have := h1 x hx
      exact List.mem_map.2 ⟨x.toNat, List.mem_range.2 (by omega), by omega⟩
    simp only [List.length_map, List.length_range] at this
    have : 0 < A.length := List.length_pos_iff.2 h0
    omega
theorem pairwise_lt_iff : A.Pairwise (· < ·) ↔ ∀ i (h : i < A.length), 0 < i → A.getD (i - 1) 0 < A[i] := by
  constructor
  · intro h i hi h0
    rw [List.pairwise_iff_getElem] at h
    rw [List.getD_eq_getElem?_getD, List.getElem?_eq_getElem (by omega), Option.getD_some]
    exact h (i - 1) i (by omega) hi (by omega)
  · intro h
    rw [List.pairwise_iff_getElem]
    intro i j hi hj hij
    have key : ∀ d (hd : i + d + 1 < A.length), A[i] < A[i + d + 1] := by
      intro d
      induction d with
      | zero =>
        intro hd
        have := h (i + 0 + 1) hd (by omega)
        rw [List.getD_eq_getElem?_getD, List.getElem?_eq_getElem (by omega), Option.getD_some] at this
        simpa using this
      | succ d ih =>
        intro hd
        have h1 := ih (by omega)
        have h2 := h (i + (d + 1) + 1) hd (by omega)
        rw [List.getD_eq_getElem?_getD, List.getElem?_eq_getElem (by omega), Option.getD_some] at h2
        have h3 : A[i + (d + 1) + 1 - 1]'(by omega) = A[i + d + 1]'(by omega) := by congr 1
        omega
    have := key (j - i - 1) (by omega)
    have h3 : A[i + (j - i - 1) + 1]'(by omega) = A[j] := by congr 1; omega
    omega
theorem c_isTracked {n : Int} (ha : Ints .ro P H v A) (hn : In64 (n - 1)) : s_im_isTracked (i64 n) v H = some (.bool (decide (PtList n A)), H) := by
  refine eq_of_W fun Q k => ?_
  have hba := ha.bd
  unfold s_im_isTracked
  simp only [↓XG ha]
  refine W.scan (e := 0) (w := [.undef]) A.length (fun i => ¬∃ h : i < A.length, (0 ≤ A[i] ∧ A[i] ≤ n - 1) ∧ (0 < i → A.getD (i - 1) 0 < A[i])) (fun _ => [.bool false]) (fun i hi Q' k1 k2 => ?_) (fun Q' k1 => ?_) (fun i hi hb _ => ?_) fun hb => ?_
  · have : (i : Int) < A.length := by omega
    simp only [this, ↓Xa, ↓Xb, ↓Xc, ↓Xd, ↓Xe, ↓Xf, ↓Xg, ↓Xh, ↓Xi, ↓Xj, ↓Xk, ↓Xl, ↓Xm, ↓Xn, ↓Xo, ↓Xp, ↓Xq, ↓Xr, ↓Xs, ↓Xt, ↓Xu, ↓Xv, ↓Xw, ↓Xx, ↓Xy, gx0, gx1, gx2, gx3, ife_e, ife_n, ife_r, Xz, ife_ne', XA, XB, XC, XD, decide_true, decide_false, Bool.not_true, Bool.not_false, ↓wr_ix ha hi, ↓wr_ldI ha hi, ↓wr_e (c_isPoint hn)]
    by_cases h1 : 0 ≤ A[i] ∧ A[i] ≤ n - 1
    · by_cases h0 : (0 : Int) < i
      · have hi1 : i - 1 < A.length := by omega
        have hs : In64 ((i : Int) - 1) := by unfold In64; omega
        have hc : ((i : Int) - 1) = ((i - 1 : Nat) : Int) := by omega
        simp only [h1, and_self, h0, ↓Xa, ↓Xb, ↓Xc, ↓Xd, ↓Xe, ↓Xf, ↓Xg, ↓Xh, ↓Xi, ↓Xj, ↓Xk, ↓Xl, ↓Xm, ↓Xn, ↓Xo, ↓Xp, ↓Xq, ↓Xr, ↓Xs, ↓Xt, ↓Xu, ↓Xv, ↓Xw, ↓Xx, ↓Xy, gx0, gx1, gx2, gx3, ife_e, ife_n, ife_r, Xz, ife_ne', XA, XB, XC, XD, decide_true, decide_false, Bool.not_true, Bool.not_false, ↓wr_sub hs]
        simp only [hc, ↓wr_ix ha hi1, ↓wr_ldI ha hi1, ↓Xa, ↓Xb, ↓Xc, ↓Xd, ↓Xe, ↓Xf, ↓Xg, ↓Xh, ↓Xi, ↓Xj, ↓Xk, ↓Xl, ↓Xm, ↓Xn, ↓Xo, ↓Xp, ↓Xq, ↓Xr, ↓Xs, ↓Xt, ↓Xu, ↓Xv, ↓Xw, ↓Xx, ↓Xy, gx0, gx1, gx2, gx3, ife_e, ife_n, ife_r, Xz, ife_ne', XA, XB, XC, XD, decide_true, decide_false, Bool.not_true, Bool.not_false]
        have hg : A.getD (i - 1) 0 = A[i - 1] := by rw [List.getD_eq_getElem?_getD, List.getElem?_eq_getElem hi1]; rfl
        by_cases h2 : A[i] ≤ A[i - 1]
        · simp only [h2, ↓Xa, ↓Xb, ↓Xc, ↓Xd, ↓Xe, ↓Xf, ↓Xg, ↓Xh, ↓Xi, ↓Xj, ↓Xk, ↓Xl, ↓Xm, ↓Xn, ↓Xo, ↓Xp, ↓Xq, ↓Xr, ↓Xs, ↓Xt, ↓Xu, ↓Xv, ↓Xw, ↓Xx, ↓Xy, gx0, gx1, gx2, gx3, ife_e, ife_n, ife_r, Xz, ife_ne', XA, XB, XC, XD, decide_true, decide_false, Bool.not_true, Bool.not_false]
          exact W.ret (k1 fun ⟨_, _, h⟩ => by have := h (by omega); omega)
        · simp only [h2, ↓Xa, ↓Xb, ↓Xc, ↓Xd, ↓Xe, ↓Xf, ↓Xg, ↓Xh, ↓Xi, ↓Xj, ↓Xk, ↓Xl, ↓Xm, ↓Xn, ↓Xo, ↓Xp, ↓Xq, ↓Xr, ↓Xs, ↓Xt, ↓Xu, ↓Xv, ↓Xw, ↓Xx, ↓Xy, gx0, gx1, gx2, gx3, ife_e, ife_n, ife_r, Xz, ife_ne', XA, XB, XC, XD, decide_true, decide_false, Bool.not_true, Bool.not_false]
          rw [wr_inc (by omega)]
          exact W.ret (k2 fun h => h ⟨hi, h1, fun _ => by omega⟩)
      · simp only [h1, and_self, h0, ↓Xa, ↓Xb, ↓Xc, ↓Xd, ↓Xe, ↓Xf, ↓Xg, ↓Xh, ↓Xi, ↓Xj, ↓Xk, ↓Xl, ↓Xm, ↓Xn, ↓Xo, ↓Xp, ↓Xq, ↓Xr, ↓Xs, ↓Xt, ↓Xu, ↓Xv, ↓Xw, ↓Xx, ↓Xy, gx0, gx1, gx2, gx3, ife_e, ife_n, ife_r, Xz, ife_ne', XA, XB, XC, XD, decide_true, decide_false, Bool.not_true, Bool.not_false]
        rw [wr_inc (by omega)]
        exact W.ret (k2 fun h => h ⟨hi, h1, fun h' => by omega⟩)
    · simp only [h1, ↓Xa, ↓Xb, ↓Xc, ↓Xd, ↓Xe, ↓Xf, ↓Xg, ↓Xh, ↓Xi, ↓Xj, ↓Xk, ↓Xl, ↓Xm, ↓Xn, ↓Xo, ↓Xp, ↓Xq, ↓Xr, ↓Xs, ↓Xt, ↓Xu, ↓Xv, ↓Xw, ↓Xx, ↓Xy, gx0, gx1, gx2, gx3, ife_e, ife_n, ife_r, Xz, ife_ne', XA, XB, XC, XD, decide_true, decide_false, Bool.not_true, Bool.not_false]
      exact W.ret (k1 fun ⟨_, h, _⟩ => h1 h)
  · simp only [↓Xa, ↓Xb, ↓Xc, ↓Xd, ↓Xe, ↓Xf, ↓Xg, ↓Xh, ↓Xi, ↓Xj, ↓Xk, ↓Xl, ↓Xm, ↓Xn, ↓Xo, ↓Xp, ↓Xq, ↓Xr, ↓Xs, ↓Xt, ↓Xu, ↓Xv, ↓Xw, ↓Xx, ↓Xy, gx0, gx1, gx2, gx3, ife_e, ife_n, ife_r, Xz, ife_ne', XA, XB, XC, XD, decide_true, decide_false, Bool.not_true, Bool.not_false, Int.lt_irrefl]
    exact W.ret k1
  · simp only [↓Xa, ↓Xb, ↓Xc, ↓Xd, ↓Xe, ↓Xf, ↓Xg, ↓Xh, ↓Xi, ↓Xj, ↓Xk, ↓Xl, ↓Xm, ↓Xn, ↓Xo, ↓Xp, ↓Xq, ↓Xr, ↓Xs, ↓Xt, ↓Xu, ↓Xv, ↓Xw, ↓Xx, ↓Xy, gx0, gx1, gx2, gx3, ife_e, ife_n, ife_r, Xz, ife_ne', XA, XB, XC, XD, decide_true, decide_false, Bool.not_true, Bool.not_false]
    have : ¬PtList n A := fun h => hb ⟨hi, h.2.1 _ (List.getElem_mem hi), pairwise_lt_iff.1 h.2.2 i hi⟩
    exact W.ret (by simpa only [this, decide_false] using k)
  · simp only [↓Xa, ↓Xb, ↓Xc, ↓Xd, ↓Xe, ↓Xf, ↓Xg, ↓Xh, ↓Xi, ↓Xj, ↓Xk, ↓Xl, ↓Xm, ↓Xn, ↓Xo, ↓Xp, ↓Xq, ↓Xr, ↓Xs, ↓Xt, ↓Xu, ↓Xv, ↓Xw, ↓Xx, ↓Xy, gx0, gx1, gx2, gx3, ife_e, ife_n, ife_r, Xz, ife_ne', XA, XB, XC, XD, decide_true, decide_false, Bool.not_true, Bool.not_false, ↓XG ha]
    refine W.ret ?_
    have h2 : A.Pairwise (· < ·) := pairwise_lt_iff.2 fun i hi => (Classical.not_not.1 (hb i hi)).2.2
    have h1 : ∀ x ∈ A, 0 ≤ x ∧ x ≤ n - 1 := fun x hx => by
      obtain ⟨i, hi, rfl⟩ := List.mem_iff_getElem.1 hx
      exact (Classical.not_not.1 (hb i hi)).2.1
    have : PtList n A ↔ (0 : Int) < A.length := by
      constructor
      · intro h; have := h.1.1; omega
      · intro h
        refine ⟨⟨by omega, ?_⟩, h1, h2⟩
        rcases incr_len h1 h2 with h3 | h3
        · exact h3
        · subst h3; simp at h
    simpa only [this] using k
theorem c_Contains {n : Int} (ha : Seq RI m P e H v A) : s_slices_Contains_Sint64_int64 v (i64 n) H = some (.bool (decide (n ∈ A)), H) := by
  refine eq_of_W fun Q k => ?_
  have hba := ha.bd
  unfold s_slices_Contains_Sint64_int64 s_slices_Index_Sint64_int64
  simp only [↓XH, ↓XG ha]
  refine W.scan (e := 0) (w := [.undef]) A.length (fun i => A[i]? = some n) (fun i => [i64 (i : Int)]) (fun i hi Q' k1 k2 => ?_) (fun Q' k1 => ?_) (fun i hi hb _ => ?_) fun hb => ?_
  · have : (i : Int) < A.length := by omega
    simp only [this, ↓Xa, ↓Xb, ↓Xc, ↓Xd, ↓Xe, ↓Xf, ↓Xg, ↓Xh, ↓Xi, ↓Xj, ↓Xk, ↓Xl, ↓Xm, ↓Xn, ↓Xo, ↓Xp, ↓Xq, ↓Xr, ↓Xs, ↓Xt, ↓Xu, ↓Xv, ↓Xw, ↓Xx, ↓Xy, gx0, gx1, gx2, gx3, ife_e, ife_n, ife_r, Xz, ife_ne', XA, XB, XC, XD, decide_true, decide_false, Bool.not_true, Bool.not_false, ↓wr_ix ha hi, ↓wr_ldI ha hi]
    by_cases h : n = A[i]
    · simp only [← h, ↓Xa, ↓Xb, ↓Xc, ↓Xd, ↓Xe, ↓Xf, ↓Xg, ↓Xh, ↓Xi, ↓Xj, ↓Xk, ↓Xl, ↓Xm, ↓Xn, ↓Xo, ↓Xp, ↓Xq, ↓Xr, ↓Xs, ↓Xt, ↓Xu, ↓Xv, ↓Xw, ↓Xx, ↓Xy, gx0, gx1, gx2, gx3, ife_e, ife_n, ife_r, Xz, ife_ne', XA, XB, XC, XD, decide_true, decide_false, Bool.not_true, Bool.not_false]
      exact W.ret (k1 (by simp [hi, h]))
    · simp only [h, ↓Xa, ↓Xb, ↓Xc, ↓Xd, ↓Xe, ↓Xf, ↓Xg, ↓Xh, ↓Xi, ↓Xj, ↓Xk, ↓Xl, ↓Xm, ↓Xn, ↓Xo, ↓Xp, ↓Xq, ↓Xr, ↓Xs, ↓Xt, ↓Xu, ↓Xv, ↓Xw, ↓Xx, ↓Xy, gx0, gx1, gx2, gx3, ife_e, ife_n, ife_r, Xz, ife_ne', XA, XB, XC, XD, decide_true, decide_false, Bool.not_true, Bool.not_false]
      rw [wr_inc (by omega)]
      exact W.ret (k2 (by simp [hi]; exact fun h' => h h'.symm))
  · simp only [↓Xa, ↓Xb, ↓Xc, ↓Xd, ↓Xe, ↓Xf, ↓Xg, ↓Xh, ↓Xi, ↓Xj, ↓Xk, ↓Xl, ↓Xm, ↓Xn, ↓Xo, ↓Xp, ↓Xq, ↓Xr, ↓Xs, ↓Xt, ↓Xu, ↓Xv, ↓Xw, ↓Xx, ↓Xy, gx0, gx1, gx2, gx3, ife_e, ife_n, ife_r, Xz, ife_ne', XA, XB, XC, XD, decide_true, decide_false, Bool.not_true, Bool.not_false, Int.lt_irrefl]
    exact W.ret k1
  · have h0 : (0 : Int) ≤ i := by omega
    simp only [↓Xa, ↓Xb, ↓Xc, ↓Xd, ↓Xe, ↓Xf, ↓Xg, ↓Xh, ↓Xi, ↓Xj, ↓Xk, ↓Xl, ↓Xm, ↓Xn, ↓Xo, ↓Xp, ↓Xq, ↓Xr, ↓Xs, ↓Xt, ↓Xu, ↓Xv, ↓Xw, ↓Xx, ↓Xy, gx0, gx1, gx2, gx3, ife_e, ife_n, ife_r, Xz, ife_ne', XA, XB, XC, XD, decide_true, decide_false, Bool.not_true, Bool.not_false, h0]
    exact W.ret (by simpa [List.mem_of_getElem? hb] using k)
  · have h0 : ¬(0 : Int) ≤ -1 := by omega
    simp only [↓Xa, ↓Xb, ↓Xc, ↓Xd, ↓Xe, ↓Xf, ↓Xg, ↓Xh, ↓Xi, ↓Xj, ↓Xk, ↓Xl, ↓Xm, ↓Xn, ↓Xo, ↓Xp, ↓Xq, ↓Xr, ↓Xs, ↓Xt, ↓Xu, ↓Xv, ↓Xw, ↓Xx, ↓Xy, gx0, gx1, gx2, gx3, ife_e, ife_n, ife_r, Xz, ife_ne', XA, XB, XC, XD, decide_true, decide_false, Bool.not_true, Bool.not_false, h0]
    have : n ∉ A := fun h => by
      obtain ⟨i, hi, h⟩ := List.mem_iff_getElem.1 h
      exact hb i hi (by simp [hi, h])
    exact W.ret (by simpa [this] using k)
theorem c_isPattern {n c : Int} (ha : Ints .ro P H v A) (hn : In64 (n - 1)) : s_im_isPattern (i64 n) (i64 c) v H = some (.bool (decide ((A.length : Int) = c ∧ Dist n A)), H) := by
  refine eq_of_W fun Q k => ?_
  have hba := ha.bd
  unfold s_im_isPattern
  simp only [↓XG ha]
  refine W.scan (e := 0) (w := [.undef]) A.length (fun i => ¬∃ h : i < A.length, (0 ≤ A[i] ∧ A[i] ≤ n - 1) ∧ A[i] ∉ A.take i) (fun _ => [.bool false]) (fun i hi Q' k1 k2 => ?_) (fun Q' k1 => ?_) (fun i hi hb _ => ?_) fun hb => ?_
  · have : (i : Int) < A.length := by omega
    simp only [this, ↓Xa, ↓Xb, ↓Xc, ↓Xd, ↓Xe, ↓Xf, ↓Xg, ↓Xh, ↓Xi, ↓Xj, ↓Xk, ↓Xl, ↓Xm, ↓Xn, ↓Xo, ↓Xp, ↓Xq, ↓Xr, ↓Xs, ↓Xt, ↓Xu, ↓Xv, ↓Xw, ↓Xx, ↓Xy, gx0, gx1, gx2, gx3, ife_e, ife_n, ife_r, Xz, ife_ne', XA, XB, XC, XD, decide_true, decide_false, Bool.not_true, Bool.not_false, ↓wr_ix ha hi, ↓wr_ldI ha hi, ↓wr_e (c_isPoint hn)]
    by_cases h1 : 0 ≤ A[i] ∧ A[i] ≤ n - 1
    · obtain ⟨y, hy, hsl⟩ := ha.sl (bnds_hi (k := .i64) (Nat.le_of_lt hi)) (by simp) ⟨Nat.zero_le _, Nat.le_of_lt hi⟩
      simp only [h1, and_self, ↓Xa, ↓Xb, ↓Xc, ↓Xd, ↓Xe, ↓Xf, ↓Xg, ↓Xh, ↓Xi, ↓Xj, ↓Xk, ↓Xl, ↓Xm, ↓Xn, ↓Xo, ↓Xp, ↓Xq, ↓Xr, ↓Xs, ↓Xt, ↓Xu, ↓Xv, ↓Xw, ↓Xx, ↓Xy, gx0, gx1, gx2, gx3, ife_e, ife_n, ife_r, Xz, ife_ne', XA, XB, XC, XD, decide_true, decide_false, Bool.not_true, Bool.not_false, ↓wr_p hy, ↓wr_e (c_Contains hsl), List.drop_zero]
      by_cases h2 : A[i] ∈ A.take i
      · simp only [h2, ↓Xa, ↓Xb, ↓Xc, ↓Xd, ↓Xe, ↓Xf, ↓Xg, ↓Xh, ↓Xi, ↓Xj, ↓Xk, ↓Xl, ↓Xm, ↓Xn, ↓Xo, ↓Xp, ↓Xq, ↓Xr, ↓Xs, ↓Xt, ↓Xu, ↓Xv, ↓Xw, ↓Xx, ↓Xy, gx0, gx1, gx2, gx3, ife_e, ife_n, ife_r, Xz, ife_ne', XA, XB, XC, XD, decide_true, decide_false, Bool.not_true, Bool.not_false]
        exact W.ret (k1 fun ⟨_, h⟩ => h.2 h2)
      · simp only [h2, ↓Xa, ↓Xb, ↓Xc, ↓Xd, ↓Xe, ↓Xf, ↓Xg, ↓Xh, ↓Xi, ↓Xj, ↓Xk, ↓Xl, ↓Xm, ↓Xn, ↓Xo, ↓Xp, ↓Xq, ↓Xr, ↓Xs, ↓Xt, ↓Xu, ↓Xv, ↓Xw, ↓Xx, ↓Xy, gx0, gx1, gx2, gx3, ife_e, ife_n, ife_r, Xz, ife_ne', XA, XB, XC, XD, decide_true, decide_false, Bool.not_true, Bool.not_false]
        rw [wr_inc (by omega)]
        exact W.ret (k2 fun h => h ⟨hi, h1, h2⟩)
    · simp only [h1, ↓Xa, ↓Xb, ↓Xc, ↓Xd, ↓Xe, ↓Xf, ↓Xg, ↓Xh, ↓Xi, ↓Xj, ↓Xk, ↓Xl, ↓Xm, ↓Xn, ↓Xo, ↓Xp, ↓Xq, ↓Xr, ↓Xs, ↓Xt, ↓Xu, ↓Xv, ↓Xw, ↓Xx, ↓Xy, gx0, gx1, gx2, gx3, ife_e, ife_n, ife_r, Xz, ife_ne', XA, XB, XC, XD, decide_true, decide_false, Bool.not_true, Bool.not_false]
      exact W.ret (k1 fun ⟨_, h⟩ => h1 h.1)
  · simp only [↓Xa, ↓Xb, ↓Xc, ↓Xd, ↓Xe, ↓Xf, ↓Xg, ↓Xh, ↓Xi, ↓Xj, ↓Xk, ↓Xl, ↓Xm, ↓Xn, ↓Xo, ↓Xp, ↓Xq, ↓Xr, ↓Xs, ↓Xt, ↓Xu, ↓Xv, ↓Xw, ↓Xx, ↓Xy, gx0, gx1, gx2, gx3, ife_e, ife_n, ife_r, Xz, ife_ne', XA, XB, XC, XD, decide_true, decide_false, Bool.not_true, Bool.not_false, Int.lt_irrefl]
    exact W.ret k1
  · simp only [↓Xa, ↓Xb, ↓Xc, ↓Xd, ↓Xe, ↓Xf, ↓Xg, ↓Xh, ↓Xi, ↓Xj, ↓Xk, ↓Xl, ↓Xm, ↓Xn, ↓Xo, ↓Xp, ↓Xq, ↓Xr, ↓Xs, ↓Xt, ↓Xu, ↓Xv, ↓Xw, ↓Xx, ↓Xy, gx0, gx1, gx2, gx3, ife_e, ife_n, ife_r, Xz, ife_ne', XA, XB, XC, XD, decide_true, decide_false, Bool.not_true, Bool.not_false]
    have : ¬((A.length : Int) = c ∧ Dist n A) := fun ⟨_, h1⟩ => hb ⟨hi, dist_iff.1 h1 i hi⟩
    exact W.ret (by simpa only [this, decide_false] using k)
  · simp only [↓Xa, ↓Xb, ↓Xc, ↓Xd, ↓Xe, ↓Xf, ↓Xg, ↓Xh, ↓Xi, ↓Xj, ↓Xk, ↓Xl, ↓Xm, ↓Xn, ↓Xo, ↓Xp, ↓Xq, ↓Xr, ↓Xs, ↓Xt, ↓Xu, ↓Xv, ↓Xw, ↓Xx, ↓Xy, gx0, gx1, gx2, gx3, ife_e, ife_n, ife_r, Xz, ife_ne', XA, XB, XC, XD, decide_true, decide_false, Bool.not_true, Bool.not_false, ↓XG ha]
    have h2 : Dist n A := dist_iff.2 fun i hi => (Classical.not_not.1 (hb i hi)).2
    refine W.ret ?_
    have : ((A.length : Int) = c ∧ Dist n A) ↔ (A.length : Int) = c := ⟨And.left, fun h => ⟨h, h2⟩⟩
    simpa only [this] using k
theorem c_imIsWellFormedTable (hp : Hp H) (h : TblA P P2 H v t) (k : ∀ H', Le H H' → Q (.bool (decide (WFT t))) H') : W (s_im_IsWellFormedTable v) H Q := by
  obtain ⟨a, b, c, rfl, ha, hb, hc⟩ := h
  have hbb := hb.bd
  unfold s_im_IsWellFormedTable
  refine W.box hp (by decide) rfl (cells_t ha.isCell hb.isCell hc.isCell) fun x1 H1 l1 b1 => ?_
  have ha := ha.leI l1
  have hb := hb.leL l1
  have hc := hc.leI l1
  have h19 : In64 (20 - 1) := by unfold In64; decide
  simp only [↓XE b1, ↓wr_f0 b1, ↓wr_e (c_isTracked ha h19), ↓Xa, ↓Xb, ↓Xc, ↓Xd, ↓Xe, ↓Xf, ↓Xg, ↓Xh, ↓Xi, ↓Xj, ↓Xk, ↓Xl, ↓Xm, ↓Xn, ↓Xo, ↓Xp, ↓Xq, ↓Xr, ↓Xs, ↓Xt, ↓Xu, ↓Xv, ↓Xw, ↓Xx, ↓Xy, gx0, gx1, gx2, gx3, ife_e, ife_n, ife_r, Xz, ife_ne', XA, XB, XC, XD, decide_true, decide_false, Bool.not_true, Bool.not_false]
  by_cases h1 : PtList 20 t.tracked
  · simp only [h1, ↓Xa, ↓Xb, ↓Xc, ↓Xd, ↓Xe, ↓Xf, ↓Xg, ↓Xh, ↓Xi, ↓Xj, ↓Xk, ↓Xl, ↓Xm, ↓Xn, ↓Xo, ↓Xp, ↓Xq, ↓Xr, ↓Xs, ↓Xt, ↓Xu, ↓Xv, ↓Xw, ↓Xx, ↓Xy, gx0, gx1, gx2, gx3, ife_e, ife_n, ife_r, Xz, ife_ne', XA, XB, XC, XD, decide_true, decide_false, Bool.not_true, Bool.not_false, ↓XE b1, ↓wr_f1 b1, ↓wr_f2 b1, ↓XG hb, ↓XG hc]
    by_cases h3 : (t.patterns.length : Int) = t.dists.length
    · simp only [h3, ↓Xa, ↓Xb, ↓Xc, ↓Xd, ↓Xe, ↓Xf, ↓Xg, ↓Xh, ↓Xi, ↓Xj, ↓Xk, ↓Xl, ↓Xm, ↓Xn, ↓Xo, ↓Xp, ↓Xq, ↓Xr, ↓Xs, ↓Xt, ↓Xu, ↓Xv, ↓Xw, ↓Xx, ↓Xy, gx0, gx1, gx2, gx3, ife_e, ife_n, ife_r, Xz, ife_ne', XA, XB, XC, XD, decide_true, decide_false, Bool.not_true, Bool.not_false, ↓XE b1, ↓wr_f1 b1, ↓wr_e (c_lengthL hb), ↓wr_e c_within]
      by_cases h2 : 1 ≤ (t.dists.length : Int) ∧ (t.dists.length : Int) ≤ 3000
      · simp only [h2, and_self, ↓Xa, ↓Xb, ↓Xc, ↓Xd, ↓Xe, ↓Xf, ↓Xg, ↓Xh, ↓Xi, ↓Xj, ↓Xk, ↓Xl, ↓Xm, ↓Xn, ↓Xo, ↓Xp, ↓Xq, ↓Xr, ↓Xs, ↓Xt, ↓Xu, ↓Xv, ↓Xw, ↓Xx, ↓Xy, gx0, gx1, gx2, gx3, ife_e, ife_n, ife_r, Xz, ife_ne', XA, XB, XC, XD, decide_true, decide_false, Bool.not_true, Bool.not_false, ↓XE b1, ↓wr_f1 b1, ↓XG hb]
        have h3' : t.dists.length = t.patterns.length := by omega
        refine W.scan (e := 0) (w := [.undef]) t.patterns.length (fun i => ¬∃ (h : i < t.patterns.length) (h' : i < t.dists.length), ((t.patterns[i].length : Int) = t.tracked.length ∧ Dist 20 t.patterns[i]) ∧ (0 ≤ t.dists[i] ∧ t.dists[i] ≤ 3000)) (fun _ => [.bool false]) (fun i hi Q' k1 k2 => ?_) (fun Q' k1 => ?_) (fun i hi hb' _ => ?_) fun hb' => ?_
        · have hi1 : (i : Int) < t.dists.length := by omega
          have hi2 : i < t.dists.length := by omega
          obtain ⟨z, hz, hL, _⟩ := hb.ld1 hi
          simp only [h3, hi1, ↓Xa, ↓Xb, ↓Xc, ↓Xd, ↓Xe, ↓Xf, ↓Xg, ↓Xh, ↓Xi, ↓Xj, ↓Xk, ↓Xl, ↓Xm, ↓Xn, ↓Xo, ↓Xp, ↓Xq, ↓Xr, ↓Xs, ↓Xt, ↓Xu, ↓Xv, ↓Xw, ↓Xx, ↓Xy, gx0, gx1, gx2, gx3, ife_e, ife_n, ife_r, Xz, ife_ne', XA, XB, XC, XD, decide_true, decide_false, Bool.not_true, Bool.not_false, ↓XE b1, ↓wr_f1 b1, ↓wr_ix hb hi, ↓wr_e hz, ↓wr_f0 b1, ↓XG ha, ↓wr_e (c_isPattern hL h19)]
          by_cases h4 : (t.patterns[i].length : Int) = t.tracked.length ∧ Dist 20 t.patterns[i]
          · simp only [h4, and_self, ↓Xa, ↓Xb, ↓Xc, ↓Xd, ↓Xe, ↓Xf, ↓Xg, ↓Xh, ↓Xi, ↓Xj, ↓Xk, ↓Xl, ↓Xm, ↓Xn, ↓Xo, ↓Xp, ↓Xq, ↓Xr, ↓Xs, ↓Xt, ↓Xu, ↓Xv, ↓Xw, ↓Xx, ↓Xy, gx0, gx1, gx2, gx3, ife_e, ife_n, ife_r, Xz, ife_ne', XA, XB, XC, XD, decide_true, decide_false, Bool.not_true, Bool.not_false, ↓XE b1, ↓wr_f2 b1, ↓wr_ix hc hi2, ↓wr_ldI hc hi2, ↓wr_e c_within]
            by_cases h5 : 0 ≤ t.dists[i] ∧ t.dists[i] ≤ 3000
            · simp only [h5, and_self, ↓Xa, ↓Xb, ↓Xc, ↓Xd, ↓Xe, ↓Xf, ↓Xg, ↓Xh, ↓Xi, ↓Xj, ↓Xk, ↓Xl, ↓Xm, ↓Xn, ↓Xo, ↓Xp, ↓Xq, ↓Xr, ↓Xs, ↓Xt, ↓Xu, ↓Xv, ↓Xw, ↓Xx, ↓Xy, gx0, gx1, gx2, gx3, ife_e, ife_n, ife_r, Xz, ife_ne', XA, XB, XC, XD, decide_true, decide_false, Bool.not_true, Bool.not_false]
              rw [wr_inc (by omega)]
              exact W.ret (k2 fun h => h ⟨hi, hi2, h4, h5⟩)
            · simp only [h5, ↓Xa, ↓Xb, ↓Xc, ↓Xd, ↓Xe, ↓Xf, ↓Xg, ↓Xh, ↓Xi, ↓Xj, ↓Xk, ↓Xl, ↓Xm, ↓Xn, ↓Xo, ↓Xp, ↓Xq, ↓Xr, ↓Xs, ↓Xt, ↓Xu, ↓Xv, ↓Xw, ↓Xx, ↓Xy, gx0, gx1, gx2, gx3, ife_e, ife_n, ife_r, Xz, ife_ne', XA, XB, XC, XD, decide_true, decide_false, Bool.not_true, Bool.not_false]
              exact W.ret (k1 fun ⟨_, _, h⟩ => h5 h.2)
          · simp only [h4, ↓Xa, ↓Xb, ↓Xc, ↓Xd, ↓Xe, ↓Xf, ↓Xg, ↓Xh, ↓Xi, ↓Xj, ↓Xk, ↓Xl, ↓Xm, ↓Xn, ↓Xo, ↓Xp, ↓Xq, ↓Xr, ↓Xs, ↓Xt, ↓Xu, ↓Xv, ↓Xw, ↓Xx, ↓Xy, gx0, gx1, gx2, gx3, ife_e, ife_n, ife_r, Xz, ife_ne', XA, XB, XC, XD, decide_true, decide_false, Bool.not_true, Bool.not_false]
            exact W.ret (k1 fun ⟨_, _, h⟩ => h4 h.1)
        · simp only [↓Xa, ↓Xb, ↓Xc, ↓Xd, ↓Xe, ↓Xf, ↓Xg, ↓Xh, ↓Xi, ↓Xj, ↓Xk, ↓Xl, ↓Xm, ↓Xn, ↓Xo, ↓Xp, ↓Xq, ↓Xr, ↓Xs, ↓Xt, ↓Xu, ↓Xv, ↓Xw, ↓Xx, ↓Xy, gx0, gx1, gx2, gx3, ife_e, ife_n, ife_r, Xz, ife_ne', XA, XB, XC, XD, decide_true, decide_false, Bool.not_true, Bool.not_false, Int.lt_irrefl]
          exact W.ret k1
        · simp only [↓Xa, ↓Xb, ↓Xc, ↓Xd, ↓Xe, ↓Xf, ↓Xg, ↓Xh, ↓Xi, ↓Xj, ↓Xk, ↓Xl, ↓Xm, ↓Xn, ↓Xo, ↓Xp, ↓Xq, ↓Xr, ↓Xs, ↓Xt, ↓Xu, ↓Xv, ↓Xw, ↓Xx, ↓Xy, gx0, gx1, gx2, gx3, ife_e, ife_n, ife_r, Xz, ife_ne', XA, XB, XC, XD, decide_true, decide_false, Bool.not_true, Bool.not_false]
          have : ¬WFT t := fun h => hb' ⟨hi, by omega, h.2.2.2 i hi (by omega)⟩
          exact W.ret (by simpa only [this, decide_false] using k _ l1)
        · simp only [↓Xa, ↓Xb, ↓Xc, ↓Xd, ↓Xe, ↓Xf, ↓Xg, ↓Xh, ↓Xi, ↓Xj, ↓Xk, ↓Xl, ↓Xm, ↓Xn, ↓Xo, ↓Xp, ↓Xq, ↓Xr, ↓Xs, ↓Xt, ↓Xu, ↓Xv, ↓Xw, ↓Xx, ↓Xy, gx0, gx1, gx2, gx3, ife_e, ife_n, ife_r, Xz, ife_ne', XA, XB, XC, XD, decide_true, decide_false, Bool.not_true, Bool.not_false]
          have : WFT t := ⟨h1, by omega, h3', fun i hi hi' => (Classical.not_not.1 (hb' i hi)).2.2⟩
          exact W.ret (by simpa only [this, decide_true] using k _ l1)
      · simp only [h2, ↓Xa, ↓Xb, ↓Xc, ↓Xd, ↓Xe, ↓Xf, ↓Xg, ↓Xh, ↓Xi, ↓Xj, ↓Xk, ↓Xl, ↓Xm, ↓Xn, ↓Xo, ↓Xp, ↓Xq, ↓Xr, ↓Xs, ↓Xt, ↓Xu, ↓Xv, ↓Xw, ↓Xx, ↓Xy, gx0, gx1, gx2, gx3, ife_e, ife_n, ife_r, Xz, ife_ne', XA, XB, XC, XD, decide_true, decide_false, Bool.not_true, Bool.not_false]
        have : ¬WFT t := fun h => h2 (by have := h.2.1; omega)
        exact W.ret (by simpa only [this, decide_false] using k _ l1)
    · simp only [h3, ↓Xa, ↓Xb, ↓Xc, ↓Xd, ↓Xe, ↓Xf, ↓Xg, ↓Xh, ↓Xi, ↓Xj, ↓Xk, ↓Xl, ↓Xm, ↓Xn, ↓Xo, ↓Xp, ↓Xq, ↓Xr, ↓Xs, ↓Xt, ↓Xu, ↓Xv, ↓Xw, ↓Xx, ↓Xy, gx0, gx1, gx2, gx3, ife_e, ife_n, ife_r, Xz, ife_ne', XA, XB, XC, XD, decide_true, decide_false, Bool.not_true, Bool.not_false]
      have : ¬WFT t := fun h => h3 (by have := h.2.2.1; omega)
      exact W.ret (by simpa only [this, decide_false] using k _ l1)
  · simp only [h1, ↓Xa, ↓Xb, ↓Xc, ↓Xd, ↓Xe, ↓Xf, ↓Xg, ↓Xh, ↓Xi, ↓Xj, ↓Xk, ↓Xl, ↓Xm, ↓Xn, ↓Xo, ↓Xp, ↓Xq, ↓Xr, ↓Xs, ↓Xt, ↓Xu, ↓Xv, ↓Xw, ↓Xx, ↓Xy, gx0, gx1, gx2, gx3, ife_e, ife_n, ife_r, Xz, ife_ne', XA, XB, XC, XD, decide_true, decide_false, Bool.not_true, Bool.not_false]
    have : ¬WFT t := fun h => h1 h.1
    exact W.ret (by simpa only [this, decide_false] using k _ l1)
end
end Go.Am

end

section
set_option linter.unusedSimpArgs false
set_option linter.unusedVariables false
/- Contracts: the program's own letters, keys, inverses, picked lists; maps; blocks kept for later. -/
namespace Go.Am
section
variable {β X : Type} {f : AVal → AM β} {Q : AVal → AHeap → Prop} {m m2 : Md} {P P2 P3 P4 P5 P' S T : Nat → Prop} {e e2 : TypeId} {H H0 H1 H2 H' : AHeap} {v u x y : AVal} {A B C s D r : List Int} {L LL : List (List Int)} {p : Puz} {cs : List AVal} {t : Tbl}
theorem c_imLetters {n : Nat} (hp : Hp H) (hl : n ≤ 1000000) (k : ∀ r H', Le H H' → Ints .own (Nw H) H' r (lets n) → Q r H') : W (s_im_letters (i64 (n : Int))) H Q := by
  unfold s_im_letters
  refine W.build (R := RI) (el := t_int64) (H0 := H) 0 0 n (fun i => lets i) (Le.refl hp) (by exact .nil) (Nat.zero_le _) (fun i H3 out hi0 hi f3 l3 h3 Q' kn => ?_) (fun H3 out f3 l3 h3 Q' kx => ?_) fun H3 out f3 l3 h3 => ?_
  · have : (i : Int) < n := by omega
    simp only [this, ↓Xa, ↓Xb, ↓Xc, ↓Xd, ↓Xe, ↓Xf, ↓Xg, ↓Xh, ↓Xi, ↓Xj, ↓Xk, ↓Xl, ↓Xm, ↓Xn, ↓Xo, ↓Xp, ↓Xq, ↓Xr, ↓Xs, ↓Xt, ↓Xu, ↓Xv, ↓Xw, ↓Xx, ↓Xy, gx0, gx1, gx2, gx3, ife_e, ife_n, ife_r, Xz, ife_ne', XA, XB, XC, XD, decide_true, decide_false, Bool.not_true, Bool.not_false]
    rw [wr_inc (by omega), wr_inc (by omega)]
    have hn : In64 (-((i + 1 : Nat) : Int)) := by unfold In64; omega
    simp only [↓wr_neg hn]
    refine W.lit2 (R := RI) (a := ((i + 1 : Nat) : Int)) (a' := -((i + 1 : Nat) : Int)) l3.wf rfl rfl (fun _ _ => ⟨rfl, rfl⟩) fun z H4 l4 h4 => ?_
    refine W.app (P := Nw H) l4.wf (h3.leI l4) h4 (by decide) (by rw [lets_length]; simp; omega) (fun id hid => Nat.le_trans l3.nx (Nat.le_trans l4.nx hid)) (fun _ _ _ _ h => h) fun y H5 f5 h5 => ?_
    rw [wr_inc (by omega)]
    refine W.ret (kn _ _ (l4.bk.bk f5) ?_)
    simpa [lets] using h5
  · simp only [↓Xa, ↓Xb, ↓Xc, ↓Xd, ↓Xe, ↓Xf, ↓Xg, ↓Xh, ↓Xi, ↓Xj, ↓Xk, ↓Xl, ↓Xm, ↓Xn, ↓Xo, ↓Xp, ↓Xq, ↓Xr, ↓Xs, ↓Xt, ↓Xu, ↓Xv, ↓Xw, ↓Xx, ↓Xy, gx0, gx1, gx2, gx3, ife_e, ife_n, ife_r, Xz, ife_ne', XA, XB, XC, XD, decide_true, decide_false, Bool.not_true, Bool.not_false, Int.lt_irrefl]
    exact W.ret kx
  · simp only [↓Xa, ↓Xb, ↓Xc, ↓Xd, ↓Xe, ↓Xf, ↓Xg, ↓Xh, ↓Xi, ↓Xj, ↓Xk, ↓Xl, ↓Xm, ↓Xn, ↓Xo, ↓Xp, ↓Xq, ↓Xr, ↓Xs, ↓Xt, ↓Xu, ↓Xv, ↓Xw, ↓Xx, ↓Xy, gx0, gx1, gx2, gx3, ife_e, ife_n, ife_r, Xz, ife_ne', XA, XB, XC, XD, decide_true, decide_false, Bool.not_true, Bool.not_false]
    exact W.ret (k _ _ l3 h3)
/-! Keys -/
def keyOf (A : List Int) : List UInt8 := A.map fun x => UInt8.ofNat x.toNat
theorem key_inj : ∀ {A B : List Int}, (∀ x ∈ A, 0 ≤ x ∧ x ≤ 255) → (∀ x ∈ B, 0 ≤ x ∧ x ≤ 255) → keyOf A = keyOf B → A = B
  | [], [], _, _, _ => rfl
  | [], _ :: _, _, _, h => by simp [keyOf] at h
  | _ :: _, [], _, _, h => by simp [keyOf] at h
  | a :: A, b :: B, ha, hb, h => by
    simp only [keyOf, List.map_cons, List.cons.injEq] at h
    have h1 := ha a List.mem_cons_self
    have h2 := hb b List.mem_cons_self
    have h3 : a.toNat % 256 = b.toNat % 256 := by
      have := congrArg UInt8.toNat h.1
      simpa using this
    have h4 : a = b := by omega
    rw [h4, key_inj (fun x hx => ha x (List.mem_cons_of_mem _ hx)) (fun x hx => hb x (List.mem_cons_of_mem _ hx)) h.2]
theorem bytesStr_map : ∀ (s : List UInt8), bytesStr (s.map fun b => .int .u8 (b.toNat : Int)) = some s
  | [] => rfl
  | b :: s => by simp [bytesStr, bytesStr_map s]
theorem b2s_of {s' : List UInt8} (h : Bytes m P H v s') : b2s v H = some (.str s', H) := by
  obtain ⟨new, h1, h2, h3, h4, h5⟩ := src_of h
  have hn : new = s'.map fun b => .int .u8 (b.toNat : Int) := by
    apply List.ext_getElem?
    intro i
    by_cases hi : i < s'.length
    · obtain ⟨u, u1, u2, u3⟩ := h5 i hi
      rw [u1, show u = _ from u3]; simp [hi]
    · rw [List.getElem?_eq_none (by omega), List.getElem?_eq_none (by simp; omega)]
  cases h with
  | nil => rfl
  | mk id off fz c L' hP hid hg hl hb hm hR =>
    simp only [b2s, h2, hn, bytesStr_map]
theorem wrap_u8 {a : Nat} (h : a ≤ 255) : IntKind.u8.wrap (a : Int) = (a : Int) := by
  have : IntKind.u8.wrap (a : Int) = (a : Int) % 256 := rfl
  rw [this]; omega
theorem c_stateKey (hp : Hp H) (ha : Ints m P H v A) (hA : ∀ x ∈ A, 0 ≤ x ∧ x ≤ 255) (k : ∀ H', Le H H' → Q (.str (keyOf A)) H') : W (s_im_stateKey v) H Q := by
  have hba := ha.bd
  unfold s_im_stateKey
  simp only [↓XG ha]
  refine W.mk (R := RB) (a := 0) hp rfl (by decide) hba (fun _ _ => rfl) fun x2 H1 l1 h1 => ?_
  simp only [↓XG ha]
  refine W.lq (fun q s H2 => Le H H2 ∧ ∃ (i : Nat) (B : List UInt8), q = A.length - i ∧ i ≤ A.length ∧ s = [i64 (i : Int)] ∧ Bytes .own (Nw H) H2 x2 B ∧ B.length = A.length ∧ B.take i = (keyOf A).take i)
    (fun r H2 => Le H H2 ∧ r = (.exit 0, []) ∧ Bytes .own (Nw H) H2 x2 (keyOf A)) A.length ⟨l1, 0, _, rfl, Nat.zero_le _, rfl, h1, by simp, by simp⟩ ?_ ?_
  · rintro q s H2 ⟨l2, i, B, rfl, hi, rfl, hB, hBl, hj⟩ Q' kn kx
    have ha2 := ha.leI l2
    by_cases hlt : i < A.length
    · have hd1 := hA _ (List.getElem_mem hlt)
      obtain ⟨a, hae⟩ : ∃ a : Nat, A[i] = (a : Int) := ⟨A[i].toNat, by omega⟩
      have hib : i < B.length := by omega
      have : (i : Int) < A.length := by omega
      simp only [this, ↓Xa, ↓Xb, ↓Xc, ↓Xd, ↓Xe, ↓Xf, ↓Xg, ↓Xh, ↓Xi, ↓Xj, ↓Xk, ↓Xl, ↓Xm, ↓Xn, ↓Xo, ↓Xp, ↓Xq, ↓Xr, ↓Xs, ↓Xt, ↓Xu, ↓Xv, ↓Xw, ↓Xx, ↓Xy, gx0, gx1, gx2, gx3, ife_e, ife_n, ife_r, Xz, ife_ne', XA, XB, XC, XD, decide_true, decide_false, Bool.not_true, Bool.not_false, ↓wr_ix ha hlt, ↓wr_ldI ha2 hlt, hae, ↓wr_ix hB hib]
      rw [wrap_u8 (show a ≤ 255 by omega)]
      have hR : RB H2 (.int .u8 (a : Int)) (UInt8.ofNat a) := by
        show AVal.int .u8 (a : Int) = _
        simp only [UInt8.toNat_ofNat', AVal.int.injEq, true_and]
        omega
      refine W.st (a := UInt8.ofNat a) l2.wf hB (by simp) hib rfl (fun _ _ _ _ h => h) hR fun H3 f3 hB3 => ?_
      rw [wr_inc (by omega)]
      refine W.ret (kn (A.length - (i + 1)) _ _ (by omega) ⟨l2.nw f3 fun id hi h => absurd h.1 (by omega), i + 1, _, rfl, by omega, rfl, hB3, by simp [hBl], ?_⟩)
      rw [List.take_succ_eq_append_getElem (by simpa using hib), List.take_succ_eq_append_getElem (by simpa [keyOf] using hlt), List.take_set_of_le (Nat.le_refl _), hj]
      simp [keyOf, hae]
    · have hii : i = A.length := by omega
      subst hii
      simp only [↓Xa, ↓Xb, ↓Xc, ↓Xd, ↓Xe, ↓Xf, ↓Xg, ↓Xh, ↓Xi, ↓Xj, ↓Xk, ↓Xl, ↓Xm, ↓Xn, ↓Xo, ↓Xp, ↓Xq, ↓Xr, ↓Xs, ↓Xt, ↓Xu, ↓Xv, ↓Xw, ↓Xx, ↓Xy, gx0, gx1, gx2, gx3, ife_e, ife_n, ife_r, Xz, ife_ne', XA, XB, XC, XD, decide_true, decide_false, Bool.not_true, Bool.not_false, Int.lt_irrefl]
      refine W.ret (kx _ _ _ (by simp) ⟨l2, rfl, ?_⟩)
      rw [List.take_of_length_le (by omega), List.take_of_length_le (by simp [keyOf])] at hj
      rwa [← hj]
  · rintro r H2 ⟨l2, rfl, h2⟩
    simp only [↓Xa, ↓Xb, ↓Xc, ↓Xd, ↓Xe, ↓Xf, ↓Xg, ↓Xh, ↓Xi, ↓Xj, ↓Xk, ↓Xl, ↓Xm, ↓Xn, ↓Xo, ↓Xp, ↓Xq, ↓Xr, ↓Xs, ↓Xt, ↓Xu, ↓Xv, ↓Xw, ↓Xx, ↓Xy, gx0, gx1, gx2, gx3, ife_e, ife_n, ife_r, Xz, ife_ne', XA, XB, XC, XD, decide_true, decide_false, Bool.not_true, Bool.not_false, ↓wr_e (b2s_of h2)]
    exact W.ret (k _ l2)
theorem c_imInverse (hp : Hp H) (ha : Ints .ro P H v A) (hd : Dist A.length A) (k : ∀ r H', Le H H' → Ints .own (Nw H) H' r (inv A) → Q r H') : W (s_im_inverse v) H Q := by
  have hba := ha.bd
  unfold s_im_inverse
  simp only [↓XG ha]
  refine W.mk (R := RI) (a := 0) hp rfl (by decide) hba (fun _ _ => rfl) fun x2 H1 l1 h1 => ?_
  simp only [↓XG ha]
  refine W.lq (fun q s H2 => Le H H2 ∧ ∃ (i : Nat) (B : List Int), q = A.length - i ∧ i ≤ A.length ∧ s = [i64 (i : Int)] ∧ Ints .own (Nw H) H2 x2 B ∧ B.length = A.length ∧ ∀ j (hj : j < A.length), j < i → B[A[j].toNat]? = some (j : Int))
    (fun r H2 => Le H H2 ∧ r = (.exit 0, []) ∧ Ints .own (Nw H) H2 x2 (inv A)) A.length ⟨l1, 0, _, rfl, Nat.zero_le _, rfl, h1, by simp, fun j _ h => absurd h (Nat.not_lt_zero _)⟩ ?_ ?_
  · rintro q s H2 ⟨l2, i, B, rfl, hi, rfl, hB, hBl, hj⟩ Q' kn kx
    have ha2 := ha.leI l2
    by_cases hlt : i < A.length
    · have hd1 := hd.1 _ (List.getElem_mem hlt)
      obtain ⟨a, hae⟩ : ∃ a : Nat, A[i] = (a : Int) := ⟨A[i].toNat, by omega⟩
      have hab : a < B.length := by omega
      have : (i : Int) < A.length := by omega
      simp only [this, ↓Xa, ↓Xb, ↓Xc, ↓Xd, ↓Xe, ↓Xf, ↓Xg, ↓Xh, ↓Xi, ↓Xj, ↓Xk, ↓Xl, ↓Xm, ↓Xn, ↓Xo, ↓Xp, ↓Xq, ↓Xr, ↓Xs, ↓Xt, ↓Xu, ↓Xv, ↓Xw, ↓Xx, ↓Xy, gx0, gx1, gx2, gx3, ife_e, ife_n, ife_r, Xz, ife_ne', XA, XB, XC, XD, decide_true, decide_false, Bool.not_true, Bool.not_false, ↓wr_ix ha hlt, ↓wr_ldI ha2 hlt, hae, ↓wr_ix hB hab]
      refine W.st (a := (i : Int)) l2.wf hB (by simp) hab rfl (fun _ _ _ _ h => h) rfl fun H3 f3 hB3 => ?_
      rw [wr_inc (by omega)]
      refine W.ret (kn (A.length - (i + 1)) _ _ (by omega) ⟨l2.nw f3 fun id hi h => absurd h.1 (by omega), i + 1, _, rfl, by omega, rfl, hB3, by simp [hBl], fun j hj' hji => ?_⟩)
      have hdj := hd.1 _ (List.getElem_mem hj')
      rw [List.getElem?_set]
      by_cases hij : j = i
      · subst hij; simp [hae, hab]
      · rw [if_neg (fun h => hij ?_)]
        · exact hj j hj' (by omega)
        · have : A[j] = A[i] := by omega
          exact nodup_inj hd.2 hj' hlt this
    · have hii : i = A.length := by omega
      subst hii
      simp only [↓Xa, ↓Xb, ↓Xc, ↓Xd, ↓Xe, ↓Xf, ↓Xg, ↓Xh, ↓Xi, ↓Xj, ↓Xk, ↓Xl, ↓Xm, ↓Xn, ↓Xo, ↓Xp, ↓Xq, ↓Xr, ↓Xs, ↓Xt, ↓Xu, ↓Xv, ↓Xw, ↓Xx, ↓Xy, gx0, gx1, gx2, gx3, ife_e, ife_n, ife_r, Xz, ife_ne', XA, XB, XC, XD, decide_true, decide_false, Bool.not_true, Bool.not_false, Int.lt_irrefl]
      refine W.ret (kx _ _ _ (by simp) ⟨l2, rfl, ?_⟩)
      rwa [← inv_unique hd hBl fun j hj' => hj j hj' hj']
  · rintro r H2 ⟨l2, rfl, h2⟩
    simp only [↓Xa, ↓Xb, ↓Xc, ↓Xd, ↓Xe, ↓Xf, ↓Xg, ↓Xh, ↓Xi, ↓Xj, ↓Xk, ↓Xl, ↓Xm, ↓Xn, ↓Xo, ↓Xp, ↓Xq, ↓Xr, ↓Xs, ↓Xt, ↓Xu, ↓Xv, ↓Xw, ↓Xx, ↓Xy, gx0, gx1, gx2, gx3, ife_e, ife_n, ife_r, Xz, ife_ne', XA, XB, XC, XD, decide_true, decide_false, Bool.not_true, Bool.not_false]
    exact W.ret (k _ _ l2 h2)
/-- The list of a letter: the one of the puzzle, or a new one. -/
theorem c_letterOf {l : Int} (hp : Hp H) (hm : Lists .ro P P2 H v p.moves) (hv : Valid p) (hl : l ∈ lets p.moves.length)
    (k : ∀ r H', Le H H' → Ints .ro (fun id => P2 id ∨ H.next ≤ id) H' r (mvOf p l) → Q r H') : W (s_im_letterOf v (i64 l)) H Q := by
  have hlm := mem_lets.1 hl
  have h8 : (p.moves.length : Int) ≤ 8 := hv.2.2.1.1.2
  have hil : l.natAbs - 1 < p.moves.length := by omega
  obtain ⟨y, hy, hL, _⟩ := hm.ld1 hil
  obtain ⟨hlen, hperm⟩ := hv.move hil
  unfold s_im_letterOf
  by_cases h0 : 0 < l
  · have hs : In64 (l - 1) := by unfold In64; omega
    have hi : l - 1 = ((l.natAbs - 1 : Nat) : Int) := by omega
    simp only [h0, ↓Xa, ↓Xb, ↓Xc, ↓Xd, ↓Xe, ↓Xf, ↓Xg, ↓Xh, ↓Xi, ↓Xj, ↓Xk, ↓Xl, ↓Xm, ↓Xn, ↓Xo, ↓Xp, ↓Xq, ↓Xr, ↓Xs, ↓Xt, ↓Xu, ↓Xv, ↓Xw, ↓Xx, ↓Xy, gx0, gx1, gx2, gx3, ife_e, ife_n, ife_r, Xz, ife_ne', XA, XB, XC, XD, decide_true, decide_false, Bool.not_true, Bool.not_false, ↓wr_sub hs]
    simp only [hi, ↓wr_ix hm hil, ↓wr_e hy]
    refine W.ret (k _ _ (Le.refl hp) ?_)
    have hn : ¬l < 0 := by omega
    simp only [mvOf, hn, if_false, List.getD_eq_getElem?_getD, List.getElem?_eq_getElem hil, Option.getD_some]
    exact Seq.mono hL fun id _ h => .inl h
  · have hn : In64 (-l) := by unfold In64; omega
    have hs : In64 (-l - 1) := by unfold In64; omega
    have hi : -l - 1 = ((l.natAbs - 1 : Nat) : Int) := by omega
    simp only [h0, ↓Xa, ↓Xb, ↓Xc, ↓Xd, ↓Xe, ↓Xf, ↓Xg, ↓Xh, ↓Xi, ↓Xj, ↓Xk, ↓Xl, ↓Xm, ↓Xn, ↓Xo, ↓Xp, ↓Xq, ↓Xr, ↓Xs, ↓Xt, ↓Xu, ↓Xv, ↓Xw, ↓Xx, ↓Xy, gx0, gx1, gx2, gx3, ife_e, ife_n, ife_r, Xz, ife_ne', XA, XB, XC, XD, decide_true, decide_false, Bool.not_true, Bool.not_false, ↓wr_neg hn, ↓wr_sub hs]
    simp only [hi, ↓wr_ix hm hil, ↓wr_e hy]
    refine W.bnd (c_imInverse hp hL hperm.2 fun r H' l' h => W.ret (k _ _ l' ?_))
    have hn : l < 0 := by omega
    simp only [mvOf, hn, if_true, List.getD_eq_getElem?_getD, List.getElem?_eq_getElem hil, Option.getD_some]
    exact h.ro.mono fun id _ h => .inr h
/-- The entries of A at the places in B. -/
theorem c_picked (hp : Hp H) (ha : Ints m P H v A) (hb : Ints m2 P2 H u B) (hB : ∀ x ∈ B, 0 ≤ x ∧ x < A.length) (k : ∀ r H', Le H H' → Ints .own (Nw H) H' r (B.map fun x => A.getD x.toNat 0) → Q r H') : W (s_im_picked v u) H Q := by
  have hbb := hb.bd
  unfold s_im_picked
  simp only [↓XG hb]
  refine W.mk (R := RI) (a := 0) hp rfl (by decide) hbb (fun _ _ => rfl) fun x2 H1 l1 h1 => ?_
  simp only [↓XG hb]
  refine W.lq (fun q s H2 => Le H H2 ∧ ∃ (i : Nat) (C : List Int), q = B.length - i ∧ i ≤ B.length ∧ s = [i64 (i : Int)] ∧ Ints .own (Nw H) H2 x2 C ∧ C.length = B.length ∧ C.take i = (B.map fun x => A.getD x.toNat 0).take i)
    (fun r H2 => Le H H2 ∧ r = (.exit 0, []) ∧ Ints .own (Nw H) H2 x2 (B.map fun x => A.getD x.toNat 0)) B.length ⟨l1, 0, _, rfl, Nat.zero_le _, rfl, h1, by simp, by simp⟩ ?_ ?_
  · rintro q s H2 ⟨l2, i, C, rfl, hi, rfl, hC, hCl, hj⟩ Q' kn kx
    have ha2 := ha.leI l2
    have hb2 := hb.leI l2
    by_cases hlt : i < B.length
    · have hd1 := hB _ (List.getElem_mem hlt)
      obtain ⟨a, hae⟩ : ∃ a : Nat, B[i] = (a : Int) := ⟨B[i].toNat, by omega⟩
      have hib : i < C.length := by omega
      have haa : a < A.length := by omega
      have : (i : Int) < B.length := by omega
      simp only [this, ↓Xa, ↓Xb, ↓Xc, ↓Xd, ↓Xe, ↓Xf, ↓Xg, ↓Xh, ↓Xi, ↓Xj, ↓Xk, ↓Xl, ↓Xm, ↓Xn, ↓Xo, ↓Xp, ↓Xq, ↓Xr, ↓Xs, ↓Xt, ↓Xu, ↓Xv, ↓Xw, ↓Xx, ↓Xy, gx0, gx1, gx2, gx3, ife_e, ife_n, ife_r, Xz, ife_ne', XA, XB, XC, XD, decide_true, decide_false, Bool.not_true, Bool.not_false, ↓wr_ix hb hlt, ↓wr_ldI hb2 hlt, hae, ↓wr_ix ha haa, ↓wr_ldI ha2 haa, ↓wr_ix hC hib]
      refine W.st (a := A[a]) l2.wf hC (by simp) hib rfl (fun _ _ _ _ h => h) rfl fun H3 f3 hC3 => ?_
      rw [wr_inc (by omega)]
      refine W.ret (kn (B.length - (i + 1)) _ _ (by omega) ⟨l2.nw f3 fun id hi h => absurd h.1 (by omega), i + 1, _, rfl, by omega, rfl, hC3, by simp [hCl], ?_⟩)
      rw [List.take_succ_eq_append_getElem (by simpa using hib), List.take_succ_eq_append_getElem (by simpa using hlt), List.take_set_of_le (Nat.le_refl _), hj]
      simp [hae, haa]
    · have hii : i = B.length := by omega
      subst hii
      simp only [↓Xa, ↓Xb, ↓Xc, ↓Xd, ↓Xe, ↓Xf, ↓Xg, ↓Xh, ↓Xi, ↓Xj, ↓Xk, ↓Xl, ↓Xm, ↓Xn, ↓Xo, ↓Xp, ↓Xq, ↓Xr, ↓Xs, ↓Xt, ↓Xu, ↓Xv, ↓Xw, ↓Xx, ↓Xy, gx0, gx1, gx2, gx3, ife_e, ife_n, ife_r, Xz, ife_ne', XA, XB, XC, XD, decide_true, decide_false, Bool.not_true, Bool.not_false, Int.lt_irrefl]
      refine W.ret (kx _ _ _ (by simp) ⟨l2, rfl, ?_⟩)
      rw [List.take_of_length_le (by omega), List.take_of_length_le (by simp)] at hj
      rwa [← hj]
  · rintro r H2 ⟨l2, rfl, h2⟩
    simp only [↓Xa, ↓Xb, ↓Xc, ↓Xd, ↓Xe, ↓Xf, ↓Xg, ↓Xh, ↓Xi, ↓Xj, ↓Xk, ↓Xl, ↓Xm, ↓Xn, ↓Xo, ↓Xp, ↓Xq, ↓Xr, ↓Xs, ↓Xt, ↓Xu, ↓Xv, ↓Xw, ↓Xx, ↓Xy, gx0, gx1, gx2, gx3, ife_e, ife_n, ife_r, Xz, ife_ne', XA, XB, XC, XD, decide_true, decide_false, Bool.not_true, Bool.not_false]
    exact W.ret (k _ _ l2 h2)
theorem c_Equal (ha : Seq RI m P e H v A) (hb : Seq RI m2 P2 e2 H u B) : s_slices_Equal_Sint64_int64 v u H = some (.bool (decide (A = B)), H) := by
  refine eq_of_W fun Q k => ?_
  have hba := ha.bd
  unfold s_slices_Equal_Sint64_int64
  simp only [↓XG ha, ↓XG hb, ↓Xr]
  by_cases hl : (A.length : Int) = B.length
  · have hl' : A.length = B.length := by omega
    simp only [hl, ↓Xa, ↓Xb, ↓Xc, ↓Xd, ↓Xe, ↓Xf, ↓Xg, ↓Xh, ↓Xi, ↓Xj, ↓Xk, ↓Xl, ↓Xm, ↓Xn, ↓Xo, ↓Xp, ↓Xq, ↓Xr, ↓Xs, ↓Xt, ↓Xu, ↓Xv, ↓Xw, ↓Xx, ↓Xy, gx0, gx1, gx2, gx3, ife_e, ife_n, ife_r, Xz, ife_ne', XA, XB, XC, XD, decide_true, decide_false, Bool.not_true, Bool.not_false, ↓XG ha]
    refine W.scan (e := 0) (w := [.undef]) A.length (fun i => A[i]? ≠ B[i]?) (fun _ => [.bool false]) (fun i hi Q' k1 k2 => ?_) (fun Q' k1 => ?_) (fun i hi hb _ => ?_) fun hb => ?_
    · have hi' : i < B.length := by omega
      have : ((i : Int) < B.length) := by omega
      simp only [this, ↓Xa, ↓Xb, ↓Xc, ↓Xd, ↓Xe, ↓Xf, ↓Xg, ↓Xh, ↓Xi, ↓Xj, ↓Xk, ↓Xl, ↓Xm, ↓Xn, ↓Xo, ↓Xp, ↓Xq, ↓Xr, ↓Xs, ↓Xt, ↓Xu, ↓Xv, ↓Xw, ↓Xx, ↓Xy, gx0, gx1, gx2, gx3, ife_e, ife_n, ife_r, Xz, ife_ne', XA, XB, XC, XD, decide_true, decide_false, Bool.not_true, Bool.not_false, ↓wr_ix ha hi, ↓wr_ldI ha hi, ↓wr_ix hb hi', ↓wr_ldI hb hi']
      by_cases hq : A[i] = B[i]
      · simp only [hq, ↓Xa, ↓Xb, ↓Xc, ↓Xd, ↓Xe, ↓Xf, ↓Xg, ↓Xh, ↓Xi, ↓Xj, ↓Xk, ↓Xl, ↓Xm, ↓Xn, ↓Xo, ↓Xp, ↓Xq, ↓Xr, ↓Xs, ↓Xt, ↓Xu, ↓Xv, ↓Xw, ↓Xx, ↓Xy, gx0, gx1, gx2, gx3, ife_e, ife_n, ife_r, Xz, ife_ne', XA, XB, XC, XD, decide_true, decide_false, Bool.not_true, Bool.not_false]
        rw [wr_inc (by omega)]
        exact W.ret (k2 (by simp [hi, hi', hq]))
      · simp only [hq, ↓Xa, ↓Xb, ↓Xc, ↓Xd, ↓Xe, ↓Xf, ↓Xg, ↓Xh, ↓Xi, ↓Xj, ↓Xk, ↓Xl, ↓Xm, ↓Xn, ↓Xo, ↓Xp, ↓Xq, ↓Xr, ↓Xs, ↓Xt, ↓Xu, ↓Xv, ↓Xw, ↓Xx, ↓Xy, gx0, gx1, gx2, gx3, ife_e, ife_n, ife_r, Xz, ife_ne', XA, XB, XC, XD, decide_true, decide_false, Bool.not_true, Bool.not_false]
        exact W.ret (k1 (by simp [hi, hi', hq]))
    · simp only [↓Xa, ↓Xb, ↓Xc, ↓Xd, ↓Xe, ↓Xf, ↓Xg, ↓Xh, ↓Xi, ↓Xj, ↓Xk, ↓Xl, ↓Xm, ↓Xn, ↓Xo, ↓Xp, ↓Xq, ↓Xr, ↓Xs, ↓Xt, ↓Xu, ↓Xv, ↓Xw, ↓Xx, ↓Xy, gx0, gx1, gx2, gx3, ife_e, ife_n, ife_r, Xz, ife_ne', XA, XB, XC, XD, decide_true, decide_false, Bool.not_true, Bool.not_false, hl, Int.lt_irrefl]
      exact W.ret k1
    · simp only [↓Xa, ↓Xb, ↓Xc, ↓Xd, ↓Xe, ↓Xf, ↓Xg, ↓Xh, ↓Xi, ↓Xj, ↓Xk, ↓Xl, ↓Xm, ↓Xn, ↓Xo, ↓Xp, ↓Xq, ↓Xr, ↓Xs, ↓Xt, ↓Xu, ↓Xv, ↓Xw, ↓Xx, ↓Xy, gx0, gx1, gx2, gx3, ife_e, ife_n, ife_r, Xz, ife_ne', XA, XB, XC, XD, decide_true, decide_false, Bool.not_true, Bool.not_false]
      have : A ≠ B := fun h => hb (by rw [h])
      exact W.ret (by simpa [this] using k)
    · simp only [↓Xa, ↓Xb, ↓Xc, ↓Xd, ↓Xe, ↓Xf, ↓Xg, ↓Xh, ↓Xi, ↓Xj, ↓Xk, ↓Xl, ↓Xm, ↓Xn, ↓Xo, ↓Xp, ↓Xq, ↓Xr, ↓Xs, ↓Xt, ↓Xu, ↓Xv, ↓Xw, ↓Xx, ↓Xy, gx0, gx1, gx2, gx3, ife_e, ife_n, ife_r, Xz, ife_ne', XA, XB, XC, XD, decide_true, decide_false, Bool.not_true, Bool.not_false]
      have : A = B := List.ext_getElem? fun i => by
        by_cases hi : i < A.length
        · exact Classical.not_not.1 (hb i hi)
        · rw [List.getElem?_eq_none (by omega), List.getElem?_eq_none (by omega)]
      exact W.ret (by simpa [this] using k)
  · simp only [hl, ↓Xa, ↓Xb, ↓Xc, ↓Xd, ↓Xe, ↓Xf, ↓Xg, ↓Xh, ↓Xi, ↓Xj, ↓Xk, ↓Xl, ↓Xm, ↓Xn, ↓Xo, ↓Xp, ↓Xq, ↓Xr, ↓Xs, ↓Xt, ↓Xu, ↓Xv, ↓Xw, ↓Xx, ↓Xy, gx0, gx1, gx2, gx3, ife_e, ife_n, ife_r, Xz, ife_ne', XA, XB, XC, XD, decide_true, decide_false, Bool.not_true, Bool.not_false]
    have : A ≠ B := fun h => hl (by rw [h])
    exact W.ret (by simpa [this] using k)
end
end Go.Am

end

section
set_option linter.unusedSimpArgs false
set_option linter.unusedVariables false
/- Maps from keys to numbers; blocks kept for later. -/
namespace Go.Am
section
variable {β X : Type} {f : AVal → AM β} {Q : β → AHeap → Prop} {R : AHeap → AVal → X → Prop} {m m2 : Md} {P P2 P3 P4 P5 P' S T : Nat → Prop} {e e2 : TypeId} {H H0 H1 H2 H' : AHeap} {v u x y : AVal} {A B C s D r : List Int} {L LL : List (List Int)} {p : Puz} {cs : List AVal} {t : Tbl} {id : Nat}
theorem wr_rx {γ : Type} {Q : γ → AHeap → Prop} {e : Ex} {s : List AVal} {g : Ex × List AVal → AM γ} : W (bnd (rx e s) g) H Q ↔ W (g (e, s)) H Q := wr_p rfl
/-- A place that is kept, and still free. -/
def Free (H : AHeap) (id : Nat) : Prop := id < H.next ∧ H.get id = none
theorem Free.le (h : Free H id) (hl : Le H H') : Free H' id := ⟨Nat.lt_of_lt_of_le h.1 hl.nx, (hl.keep id h.1 fun h => h).trans h.2⟩
/-- One block that has no cells. -/
def Nk (id : Nat) (H : AHeap) : Nat → Prop := fun i => i = id ∧ ∀ c e fz, H.get i ≠ some (.cells c e fz)
theorem Nk.not {i : Nat} {c : List AVal} {fz : Nat} (hg : H.get i = some (.cells c e fz)) : ¬Nk id H i := fun h => h.2 _ _ _ hg
theorem Seq.nkI (h : Seq RI m P e H v A) (hf : Fr (Nk id H) H H') : Seq RI m P e H' v A := h.frI hf fun _ _ _ _ _ hg => Nk.not hg
theorem Seq.nkL (h : Lists m P P2 H v L) (hf : Fr (Nk id H) H H') : Lists m P P2 H' v L := h.fr hf (fun _ _ _ _ _ hg => Nk.not hg) fun _ _ h => Seq.nkI h hf
theorem Bx.nk (h : Bx P e H x cs) (hf : Fr (Nk id H) H H') : Bx P e H' x cs := h.fr hf fun _ _ _ _ _ hg => Nk.not hg
theorem W.reserve {f : Nat → AM β} {n : Nat} (hp : Hp H) (k : ∀ H', Le H H' → (∀ i, i < n → Free H' (H.next + i)) → W (f H.next) H' Q) : W (Am.bnd (reserve n) f) H Q := by
  refine W.e (a := H.next) (H' := { H with next := H.next + n }) rfl (k _ ⟨fun id hid => hp id ?_, Nat.le_add_right _ _, fun _ _ _ => rfl⟩ fun i hi => ⟨?_, hp _ (Nat.le_add_right _ _)⟩)
  · have : H.next + n ≤ id := hid
    omega
  · show H.next + i < H.next + n
    omega
theorem set_free (hp : Hp H) (h : Free H id) (o : AObj) : Fr (Nk id H) H (H.set id o) :=
  (Fr.set hp h.1 o).mono fun i _ hi => ⟨hi, fun c e fz hg => by subst hi; rw [h.2] at hg; cases hg⟩
theorem newB_some (h : Free H id) (o : AObj) : newB (some id) o H = some (id, H.set id o) := by
  simp only [newB, h.2, h.1, if_true]
theorem W.newM (hp : Hp H) (h : Free H id) (k : ∀ H', Fr (Nk id H) H H' → id < H'.next → H'.get id = some (.map []) → W (f (.map id)) H' Q) : W (Am.bnd (newM (some id)) f) H Q := by
  refine W.e (a := .map id) (H' := H.set id (.map [])) ?_ (k _ (set_free hp h _) h.1 get_set)
  simp only [Am.newM, Am.bnd, newB_some h]; rfl
theorem W.boxS (hp : Hp H) (h : Free H id) {n : Nat} (hn : n ≠ 1) (hl : cs.length = n) (hc : cs.all AVal.isCell = true) (k : ∀ x H', Fr (Nk id H) H H' → Bx (· = id) e H' x cs → W (f x) H' Q) : W (Am.bnd (boxA (some id) e n (.agg cs)) f) H Q := by
  refine W.e (a := .ptr id 0) (H' := H.set id (.cells cs e 0)) ?_ (k _ _ (set_free hp h _) ⟨id, rfl, rfl, h.1, get_set⟩)
  simp only [boxA, if_neg hn, cellsN]
  rw [if_pos ⟨hl, hc⟩]
  simp only [Am.bnd, Am.ret, allocC, newB_some h]
theorem W.lit1S (hp : Hp H) (h : Free H id) {u : AVal} {a : X} (hu : u.isCell = true) (hR : ∀ H', Fr (Nk id H) H H' → R H' u a) (k : ∀ x H', Fr (Nk id H) H H' → Seq R .own (· = id) e H' x [a] → W (f x) H' Q) :
    W (Am.bnd (Am.bnd (Am.bnd (Am.cell1 u) fun y => Am.ret [y]) fun cs => allocS (some id) e 1 1 cs) f) H Q := by
  refine W.assoc (W.assoc (W.cell1 hu (W.rt ?_)))
  refine W.e (a := .slice id 0 1 1) (H' := H.set id (.cells [u] e 0)) ?_ (k _ _ (set_free hp h _) ?_)
  · simp only [allocS, Am.bnd, Am.ret, newB_some h]
  · exact .mk id 0 0 [u] [a] rfl h.1 get_set (by simp) (by simp [maxLenA]) ⟨Nat.le_refl _, rfl⟩ fun i hi => by
      have : i = 0 := by simp at hi; exact hi
      subst this; exact ⟨u, rfl, hu, hR _ (set_free hp h _)⟩
/-! Maps -/
def MapA (H : AHeap) (id : Nat) (F : List UInt8 → Option Int) : Prop := id < H.next ∧ ∃ es, H.get id = some (.map es) ∧ (∀ q ∈ es, ∃ k, q.1 = .str k) ∧ ∀ k, findK (.str k) es = some ((F k).map fun n => i64 n)
variable {F : List UInt8 → Option Int} {key : List UInt8}
theorem MapA.fr (h : MapA H id F) (hf : Fr S H H') (hS : ¬S id) : MapA H' id F := by
  obtain ⟨h1, es, h2, h3, h4⟩ := h
  exact ⟨Nat.lt_of_lt_of_le h1 hf.nx, es, (hf.keep id h1 hS).trans h2, h3, h4⟩
theorem MapA.le (h : MapA H id F) (hl : Le H H') : MapA H' id F := h.fr hl fun h => h
theorem MapA.bk (h : MapA H id F) (hf : Fr (Bk P e H) H H') : MapA H' id F := h.fr hf fun hb => by
  obtain ⟨h1, es, h2, h3, h4⟩ := h
  obtain ⟨_, c, fz, hc⟩ := hb
  rw [h2] at hc; cases hc
theorem MapA.emp (h : H.get id = some (.map [])) (hid : id < H.next) : MapA H id fun _ => none := ⟨hid, [], h, by simp, fun k => rfl⟩
/-- What a lookup with two results yields. -/
def lkV (o : Option Int) : AVal := match o with
  | some n => .tuple [i64 n, .bool true]
  | none => .tuple [i64 0, .bool false]
theorem wr_lkp (h : MapA H id F) : W (bnd (lkp .string (.int .i64 0) true (.map id) (.str key)) f) H Q ↔ W (f (lkV (F key))) H Q := by
  obtain ⟨h1, es, h2, h3, h4⟩ := h
  refine wr_e ?_
  simp only [lkp, goodKey, if_true, h2, h4]
  cases F key <;> rfl
theorem wr_lkp1 (h : MapA H id F) : W (bnd (lkp .string (.int .i64 0) false (.map id) (.str key)) f) H Q ↔ W (f (i64 ((F key).getD 0))) H Q := by
  obtain ⟨h1, es, h2, h3, h4⟩ := h
  refine wr_e ?_
  simp only [lkp, goodKey, if_true, h2, h4]
  cases F key <;> rfl
theorem setK_of : ∀ {es : List (AVal × AVal)}, (∀ q ∈ es, ∃ k, q.1 = .str k) → ∀ {G : List UInt8 → Option AVal}, (∀ k, findK (.str k) es = some (G k)) → ∀ {w : AVal}, ∃ es', setK (.str key) w es = some es' ∧ (∀ q ∈ es', ∃ k, q.1 = .str k) ∧ ∀ k, findK (.str k) es' = some (if k = key then some w else G k)
  | [], _, G, hG, w => ⟨[(.str key, w)], rfl, by simp, fun k => by
      have hk : G k = none := by have := hG k; simpa [findK] using this.symm
      simp only [findK, keyEq]
      by_cases h : k = key
      · subst h; simp
      · have : (k == key) = false := by simpa using h
        simp only [this, h, if_false, hk]⟩
  | (q1, q2) :: es, hs, G, hG, w => by
    obtain ⟨k0, hk0⟩ := hs _ List.mem_cons_self
    simp only at hk0
    subst hk0
    have hs' : ∀ q ∈ es, ∃ k, q.1 = .str k := fun q hq => hs q (List.mem_cons_of_mem _ hq)
    by_cases h : key = k0
    · subst h
      refine ⟨(.str key, w) :: es, by simp [setK, keyEq], ?_, fun k => ?_⟩
      · intro q hq
        rcases List.mem_cons.1 hq with rfl | hq
        · exact ⟨_, rfl⟩
        · exact hs' q hq
      · have := hG k
        simp only [findK, keyEq] at this ⊢
        by_cases h : k = key
        · subst h; simp
        · have hf : (k == key) = false := by simpa using h
          simp only [hf] at this ⊢
          simp only [h, if_false]; exact this
    · have hf : (key == k0) = false := by simpa using h
      have hG' : ∀ k, findK (.str k) es = some (if k = k0 then (findK (.str k) es).getD none else G k) := fun k => by
        have := hG k
        simp only [findK, keyEq] at this
        by_cases hk : k = k0
        · subst hk
          rw [if_pos rfl]
          -- the key k0 stands at the head; what follows is of no matter
          have hall : ∀ (es : List (AVal × AVal)), (∀ q ∈ es, ∃ k, q.1 = .str k) → ∃ o, findK (.str k) es = some o := by
            intro es
            induction es with
            | nil => exact fun _ => ⟨none, rfl⟩
            | cons q es ih =>
              intro hs
              obtain ⟨k1, hk1⟩ := hs _ List.mem_cons_self
              obtain ⟨q1, q2⟩ := q
              simp only at hk1
              subst hk1
              simp only [findK, keyEq]
              cases hb : k == k1 with
              | true => exact ⟨_, rfl⟩
              | false => exact ih fun q hq => hs q (List.mem_cons_of_mem _ hq)
          obtain ⟨o, ho⟩ := hall es hs'
          rw [ho]; rfl
        · have hf : (k == k0) = false := by simpa using hk
          rw [hf] at this
          rw [if_neg hk]; exact this
      obtain ⟨es', e1, e2, e3⟩ := setK_of hs' hG' (w := w)
      refine ⟨(.str k0, q2) :: es', by simp [setK, keyEq, hf, e1], ?_, fun k => ?_⟩
      · intro q hq
        rcases List.mem_cons.1 hq with rfl | hq
        · exact ⟨_, rfl⟩
        · exact e2 q hq
      · have h0 := hG k
        simp only [findK, keyEq] at h0 ⊢
        by_cases hk : k = k0
        · subst hk
          simp only [beq_self_eq_true] at h0 ⊢
          rw [if_neg (fun h' => h h'.symm)]; exact h0
        · have hf : (k == k0) = false := by simpa using hk
          simp only [hf]
          rw [e3 k, if_neg hk]
theorem W.mupd (hp : Hp H) (h : MapA H id F) {n : Int} (k : ∀ H', Fr (Nk id H) H H' → MapA H' id (fun k' => if k' = key then some n else F k') → W (f .undef) H' Q) : W (Am.bnd (mupd .string (.map id) (.str key) (i64 n)) f) H Q := by
  obtain ⟨h1, es, h2, h3, h4⟩ := h
  obtain ⟨es', e1, e2, e3⟩ := setK_of (key := key) h3 h4 (w := i64 n)
  have hf : Fr (Nk id H) H (H.set id (.map es')) := (Fr.set hp h1 _).mono fun i _ hi => ⟨hi, fun c e fz hg => by subst hi; rw [h2] at hg; cases hg⟩
  refine W.e (a := .undef) (H' := H.set id (.map es')) ?_ (k _ hf ⟨h1, es', get_set, e2, fun k' => ?_⟩)
  · simp only [Am.mupd, goodKey, if_true, h2, e1]
  · rw [e3 k']
    by_cases hk : k' = key
    · simp [hk]
    · simp [hk]
/-- The map from keys to first places. -/
def FSpec (ps : List (List Int)) (F : List UInt8 → Option Int) : Prop := ∀ A : List Int, (∀ x ∈ A, 0 ≤ x ∧ x ≤ 255) → F (keyOf A) = if A ∈ ps then some ((ps.idxOf A : Nat) : Int) else none
theorem FSpec.emp : FSpec [] fun _ => none := fun A _ => by simp
theorem FSpec.old {ps : List (List Int)} {a : List Int} (h : FSpec ps F) (ha : a ∈ ps) : FSpec (ps ++ [a]) F := fun A hA => by
  rw [h A hA]
  by_cases hm : A ∈ ps
  · rw [if_pos hm, if_pos (List.mem_append_left _ hm), List.idxOf_append, if_pos hm]
  · rw [if_neg hm, if_neg]
    intro h'
    rcases List.mem_append.1 h' with h' | h'
    · exact hm h'
    · rw [List.mem_singleton.1 h'] at hm; exact hm ha
theorem FSpec.add {ps : List (List Int)} {a : List Int} (h : FSpec ps F) (ha : a ∉ ps) (hr : ∀ x ∈ a, 0 ≤ x ∧ x ≤ 255) : FSpec (ps ++ [a]) fun k => if k = keyOf a then some ((ps.length : Nat) : Int) else F k := fun A hA => by
  by_cases he : A = a
  · subst he
    show (if keyOf A = keyOf A then some ((ps.length : Nat) : Int) else F (keyOf A)) = _
    rw [if_pos rfl, if_pos (by simp), List.idxOf_append, if_neg ha]
    simp
  · have hk : keyOf A ≠ keyOf a := fun h => he (key_inj hA hr h)
    simp only [hk, if_false]
    rw [h A hA]
    by_cases hm : A ∈ ps
    · rw [if_pos hm, if_pos (List.mem_append_left _ hm), List.idxOf_append, if_pos hm]
    · rw [if_neg hm, if_neg]
      intro h'
      rcases List.mem_append.1 h' with h' | h'
      · exact hm h'
      · exact he (List.mem_singleton.1 h')
end
end Go.Am

end

section
set_option linter.unusedSimpArgs false
set_option linter.unusedVariables false
/- Contracts: newProof. -/
namespace Go.Am
section
variable {β X : Type} {f : AVal → AM β} {Q : AVal → AHeap → Prop} {m m2 : Md} {P P2 P3 P4 P5 P' S T : Nat → Prop} {e e2 : TypeId} {H H0 H1 H2 H' : AHeap} {v u x y : AVal} {A B C s D r : List Int} {L LL : List (List Int)} {p : Puz} {cs : List AVal} {t : Tbl} {id : Nat}
/-- A table that can be checked for a puzzle. -/
def Chkb (p : Puz) (t : Tbl) : Prop := Valid p ∧ WFT t ∧ PtList p.points t.tracked ∧ ∀ i (h : i < t.patterns.length), (t.patterns[i].length : Int) = t.tracked.length ∧ Dist p.points t.patterns[i]
noncomputable instance : Decidable (Chkb p t) := Classical.propDecidable _
abbrev Any : Nat → Prop := fun _ => True
theorem Seq.any {R : AHeap → AVal → X → Prop} {L : List X} (h : Seq R m P e H v L) : Seq R .ro Any e H v L := h.ro.mono fun _ _ _ => trivial
theorem Seq.anyL (h : Lists m P P2 H v L) : Lists .ro Any Any H v L := (Seq.any h).monoR fun _ _ _ => trivial
/-- The moves of the letters. -/
def mvs (p : Puz) : List (List Int) := (lets p.moves.length).map (mvOf p)
/-- A proof of a table. -/
def PrfA (H : AHeap) (x : AVal) (p : Puz) (t : Tbl) : Prop :=
  ∃ a b c lt mv mid F, Bx Any t_impl_proof H x [a, b, c, lt, mv, .map mid] ∧ Ints .ro Any H a t.tracked ∧ Lists .ro Any Any H b t.patterns ∧ Ints .ro Any H c t.dists ∧
    Ints .ro Any H lt (lets p.moves.length) ∧ Lists .ro Any Any H mv (mvs p) ∧ MapA H mid F ∧ FSpec t.patterns F
theorem PrfA.le (h : PrfA H x p t) (hl : Le H H') : PrfA H' x p t := by
  obtain ⟨a, b, c, lt, mv, mid, F, h1, h2, h3, h4, h5, h6, h7, h8⟩ := h
  exact ⟨a, b, c, lt, mv, mid, F, h1.le hl, h2.leI hl, h3.leL hl, h4.leI hl, h5.leI hl, h6.leL hl, h7.le hl, h8⟩
theorem PrfA.bk (h : PrfA H x p t) (hf : Fr (Bk P e H) H H') (e1 : e ≠ t_impl_proof) (e2 : e ≠ t_int64) (e3 : e ≠ t_Sint64) : PrfA H' x p t := by
  obtain ⟨a, b, c, lt, mv, mid, F, h1, h2, h3, h4, h5, h6, h7, h8⟩ := h
  exact ⟨a, b, c, lt, mv, mid, F, h1.bk hf e1, h2.bkI hf e2, h3.bkL hf e3 e2, h4.bkI hf e2, h5.bkI hf e2, h6.bkL hf e3 e2, h7.bk hf, h8⟩
theorem cells_6 {a b c d e g : AVal} (h1 : a.isCell = true) (h2 : b.isCell = true) (h3 : c.isCell = true) (h4 : d.isCell = true) (h5 : e.isCell = true) (h6 : g.isCell = true) : ([a, b, c, d, e, g] : List AVal).all AVal.isCell = true := by simp only [List.all_cons, List.all_nil, h1, h2, h3, h4, h5, h6]; rfl
theorem cellsN_of {n : Nat} (hl : cs.length = n) (hc : cs.all AVal.isCell = true) : cellsN n (.agg cs) = ret cs := by
  simp only [cellsN]; rw [if_pos ⟨hl, hc⟩]
theorem cell1_of {u : AVal} (hu : u.isCell = true) : cell1 u = ret u := by cases u <;> first | rfl | simp [AVal.isCell] at hu
theorem wr_f4 {Q : β → AHeap → Prop} {a b c d g : AVal} (h : Bx P e H x (a :: b :: c :: d :: g :: cs)) : W (bnd (ld1 (fieldP x 4)) f) H Q ↔ W (f g) H Q := wr_e (h.ld1 rfl)
theorem wr_f5 {Q : β → AHeap → Prop} {a b c d g h' : AVal} (h : Bx P e H x (a :: b :: c :: d :: g :: h' :: cs)) : W (bnd (ld1 (fieldP x 5)) f) H Q ↔ W (f h') H Q := wr_e (h.ld1 rfl)
theorem XF {Q : β → AHeap → Prop} (h : Bx P e H x cs) : W (bnd (ncheck x) f) H0 Q ↔ W (f x) H0 Q := by
  obtain ⟨id, rfl, h1, h2, h3⟩ := h
  exact wr_p rfl
theorem Bx.isCell (h : Bx P e H x cs) : x.isCell = true := by obtain ⟨id, rfl, h1⟩ := h; rfl
/-- The literal of a proof. -/
theorem fill_proof {a b c lt : AVal} {mid : Nat} (h1 : a.isCell = true) (h2 : b.isCell = true) (h3 : c.isCell = true) (h4 : lt.isCell = true) : afillM (plc [(0, 3), (3, 1), (4, 1), (5, 1)]) [(0, .agg [a, b, c]), (1, lt), (3, .map mid)] [.nilS, .nilS, .nilS, .nilS, .nilS, .nilM] = ret [a, b, c, lt, .nilS, .map mid] := by
  have e1 : cellsN 3 (.agg [a, b, c]) = ret [a, b, c] := cellsN_of rfl (cells_t h1 h2 h3)
  have e2 := cell1_of h4
  have e3 : cell1 (.map mid) = ret (.map mid) := rfl
  simp only [afillM, plc, List.getElem?_cons_zero, List.getElem?_cons_succ, e1, e2, e3]
  rfl
theorem pt255 (hv : Valid p) {a : List Int} (h : Dist p.points a) : ∀ x ∈ a, 0 ≤ x ∧ x ≤ 255 := fun x hx => by
  have := h.1 x hx
  have := hv.pts
  omega
theorem Valid.i64 (hv : Valid p) : In64 (p.points - 1) := by have := hv.pts; unfold In64; omega
theorem c_newProof (hp : Hp H) (h : PuzA P P2 H v p) (ht : TblA P3 P4 H u t)
    (k0 : ∀ H', Le H H' → ¬Chkb p t → Q (.tuple [.nil, .bool false]) H')
    (k : ∀ x H', Le H H' → Chkb p t → PrfA H' x p t → Q (.tuple [x, .bool true]) H') : W (s_im_newProof v u) H Q := by
  have hpz := h
  have htb := ht
  obtain ⟨mv, rfl, hm, h64, hnl⟩ := h
  obtain ⟨a, b, c, rfl, ha, hb, hc⟩ := ht
  have hbb := hb.bd
  unfold s_im_newProof
  refine W.box hp (by decide) rfl (cells_p hm.isCell) fun x1 H1 l1 b1 => ?_
  refine W.box l1.wf (by decide) rfl (cells_t ha.isCell hb.isCell hc.isCell) fun x2 H2 l2 b2 => ?_
  have b1 := b1.le l2
  have l := l1.tr l2
  simp only [↓wr_ld3 b1]
  refine W.bnd (c_imIsValidPuzzle (p := p) l.wf (hpz.le l) fun H3 l3 => ?_)
  have b1 := b1.le l3
  have b2 := b2.le l3
  have l := l.tr l3
  by_cases hv : Valid p
  case neg =>
    simp only [hv, ↓Xa, ↓Xb, ↓Xc, ↓Xd, ↓Xe, ↓Xf, ↓Xg, ↓Xh, ↓Xi, ↓Xj, ↓Xk, ↓Xl, ↓Xm, ↓Xn, ↓Xo, ↓Xp, ↓Xq, ↓Xr, ↓Xs, ↓Xt, ↓Xu, ↓Xv, ↓Xw, ↓Xx, ↓Xy, gx0, gx1, gx2, gx3, ife_e, ife_n, ife_r, Xz, ife_ne', XA, XB, XC, XD, decide_true, decide_false, Bool.not_true, Bool.not_false]
    exact W.ret (k0 _ l fun h => hv h.1)
  simp only [hv, ↓Xa, ↓Xb, ↓Xc, ↓Xd, ↓Xe, ↓Xf, ↓Xg, ↓Xh, ↓Xi, ↓Xj, ↓Xk, ↓Xl, ↓Xm, ↓Xn, ↓Xo, ↓Xp, ↓Xq, ↓Xr, ↓Xs, ↓Xt, ↓Xu, ↓Xv, ↓Xw, ↓Xx, ↓Xy, gx0, gx1, gx2, gx3, ife_e, ife_n, ife_r, Xz, ife_ne', XA, XB, XC, XD, decide_true, decide_false, Bool.not_true, Bool.not_false, ↓wr_ld3 b2]
  refine W.bnd (c_imIsWellFormedTable (t := t) l.wf (htb.le l) fun H4 l4 => ?_)
  have b1 := b1.le l4
  have b2 := b2.le l4
  have l := l.tr l4
  by_cases hw : WFT t
  case neg =>
    simp only [hw, ↓Xa, ↓Xb, ↓Xc, ↓Xd, ↓Xe, ↓Xf, ↓Xg, ↓Xh, ↓Xi, ↓Xj, ↓Xk, ↓Xl, ↓Xm, ↓Xn, ↓Xo, ↓Xp, ↓Xq, ↓Xr, ↓Xs, ↓Xt, ↓Xu, ↓Xv, ↓Xw, ↓Xx, ↓Xy, gx0, gx1, gx2, gx3, ife_e, ife_n, ife_r, Xz, ife_ne', XA, XB, XC, XD, decide_true, decide_false, Bool.not_true, Bool.not_false]
    exact W.ret (k0 _ l fun h => hw h.2.1)
  simp only [hw, ↓Xa, ↓Xb, ↓Xc, ↓Xd, ↓Xe, ↓Xf, ↓Xg, ↓Xh, ↓Xi, ↓Xj, ↓Xk, ↓Xl, ↓Xm, ↓Xn, ↓Xo, ↓Xp, ↓Xq, ↓Xr, ↓Xs, ↓Xt, ↓Xu, ↓Xv, ↓Xw, ↓Xx, ↓Xy, gx0, gx1, gx2, gx3, ife_e, ife_n, ife_r, Xz, ife_ne', XA, XB, XC, XD, decide_true, decide_false, Bool.not_true, Bool.not_false, ↓XE b1, ↓XE b2, ↓wr_f0 b1, ↓wr_f0 b2, ↓wr_e (c_isTracked (ha.leI l) hv.i64)]
  by_cases htr : PtList p.points t.tracked
  case neg =>
    simp only [htr, ↓Xa, ↓Xb, ↓Xc, ↓Xd, ↓Xe, ↓Xf, ↓Xg, ↓Xh, ↓Xi, ↓Xj, ↓Xk, ↓Xl, ↓Xm, ↓Xn, ↓Xo, ↓Xp, ↓Xq, ↓Xr, ↓Xs, ↓Xt, ↓Xu, ↓Xv, ↓Xw, ↓Xx, ↓Xy, gx0, gx1, gx2, gx3, ife_e, ife_n, ife_r, Xz, ife_ne', XA, XB, XC, XD, decide_true, decide_false, Bool.not_true, Bool.not_false]
    exact W.ret (k0 _ l fun h => htr h.2.2.1)
  simp only [htr, ↓Xa, ↓Xb, ↓Xc, ↓Xd, ↓Xe, ↓Xf, ↓Xg, ↓Xh, ↓Xi, ↓Xj, ↓Xk, ↓Xl, ↓Xm, ↓Xn, ↓Xo, ↓Xp, ↓Xq, ↓Xr, ↓Xs, ↓Xt, ↓Xu, ↓Xv, ↓Xw, ↓Xx, ↓Xy, gx0, gx1, gx2, gx3, ife_e, ife_n, ife_r, Xz, ife_ne', XA, XB, XC, XD, decide_true, decide_false, Bool.not_true, Bool.not_false]
  refine W.reserve l.wf fun H5 l5 fre => ?_
  have b1 := b1.le l5
  have b2 := b2.le l5
  have fr5 := fre 5 (by decide)
  have fr7 := fre 7 (by decide)
  have hn5 : H.next ≤ H4.next + 5 := Nat.le_trans l.nx (Nat.le_add_right _ _)
  have hn7 : H.next ≤ H4.next + 7 := Nat.le_trans l.nx (Nat.le_add_right _ _)
  have l := l.tr l5
  have hm5 := hm.leL l
  have h8 := hv.h8
  have b25 := b2
  simp only [↓XE b1, ↓wr_f2 b1, ↓XG hm5, ↓Xa, ↓Xb, ↓Xc, ↓Xd, ↓Xe, ↓Xf, ↓Xg, ↓Xh, ↓Xi, ↓Xj, ↓Xk, ↓Xl, ↓Xm, ↓Xn, ↓Xo, ↓Xp, ↓Xq, ↓Xr, ↓Xs, ↓Xt, ↓Xu, ↓Xv, ↓Xw, ↓Xx, ↓Xy, gx0, gx1, gx2, gx3, ife_e, ife_n, ife_r, Xz, ife_ne', XA, XB, XC, XD, decide_true, decide_false, Bool.not_true, Bool.not_false]
  refine W.bnd (c_imLetters l.wf (by omega) fun lt H6 l6 hlt => ?_)
  have b1 := b1.le l6
  have b2 := b2.le l6
  have fr5 := fr5.le l6
  have fr7 := fr7.le l6
  have l := l.tr l6
  simp only [↓wr_ld3 b2]
  refine W.agn1 (b25.ldw rfl) ?_
  refine W.newM l.wf fr5 fun H7 f7 hid hmap => ?_
  have fr7 : Free H7 (H4.next + 7) := ⟨Nat.lt_of_lt_of_le fr7.1 f7.nx, (f7.keep _ fr7.1 fun h => absurd h.1 (by omega)).trans fr7.2⟩
  have b1 := b1.nk f7
  have b2 := b2.nk f7
  have l := l.nw f7 fun i hi hS => absurd hS.1 (by omega)
  have hlt := hlt.nkI f7
  simp only [↓XH, fill_proof ha.isCell hb.isCell hc.isCell hlt.isCell, ↓Xa]
  refine W.boxS l.wf fr7 (by decide) rfl (cells_6 ha.isCell hb.isCell hc.isCell hlt.isCell rfl rfl) fun x H8 f8 bx => ?_
  have hM := (MapA.emp hmap hid).fr f8 fun h => absurd h.1 (by omega)
  have b1 := b1.nk f8
  have b2 := b2.nk f8
  have hlt := hlt.nkI f8
  have l := l.nw f8 fun i hi hS => absurd hS.1 (by omega)
  have bx := bx.mono (P' := (H.next ≤ ·)) fun i _ h => by subst h; exact hn7
  have hlt := hlt.mono (P' := (H.next ≤ ·)) fun i _ h => Nat.le_trans (show H.next ≤ H5.next from Nat.le_trans (Nat.le_trans (Nat.le_trans (Nat.le_trans (Nat.le_trans l1.nx l2.nx) l3.nx) l4.nx) l5.nx) (Nat.le_refl _)) h
  generalize H4.next + 5 = mid at *
  simp only [↓XE b2, ↓wr_f1 b2, ↓XG hb]
  refine W.lq (fun q st Hk => Le H Hk ∧ ∃ (i : Nat) (F : List UInt8 → Option Int), q = t.patterns.length - i ∧ i ≤ t.patterns.length ∧ st = [i64 (i : Int)] ∧
      Bx Any t_impl_Puzzle Hk x1 [i64 p.points, .str p.names, mv] ∧ Bx Any t_impl_Table Hk x2 [a, b, c] ∧ Bx (H.next ≤ ·) t_impl_proof Hk x [a, b, c, lt, .nilS, .map mid] ∧ Ints .own (H.next ≤ ·) Hk lt (lets p.moves.length) ∧ MapA Hk mid F ∧ FSpec (t.patterns.take i) F ∧
      ∀ j (h : j < t.patterns.length), j < i → (t.patterns[j].length : Int) = t.tracked.length ∧ Dist p.points t.patterns[j])
    (fun rr Hk => Le H Hk ∧ ((rr = (.ret, [.nil, .bool false]) ∧ ¬Chkb p t) ∨ ∃ F, rr = (.exit 0, [.undef, .undef]) ∧
      Bx Any t_impl_Puzzle Hk x1 [i64 p.points, .str p.names, mv] ∧ Bx (H.next ≤ ·) t_impl_proof Hk x [a, b, c, lt, .nilS, .map mid] ∧ Ints .own (H.next ≤ ·) Hk lt (lets p.moves.length) ∧ MapA Hk mid F ∧ FSpec t.patterns F ∧ Chkb p t)) t.patterns.length
    ⟨l, 0, _, rfl, Nat.zero_le _, rfl, b1.mono fun _ _ _ => trivial, b2.mono fun _ _ _ => trivial, bx, hlt, hM, by simpa using FSpec.emp, fun j _ h => absurd h (Nat.not_lt_zero _)⟩ ?_ ?_
  · rintro q st Hk ⟨lk, i, F, rfl, hi, rfl, b1, b2, bx, hlt, hM, hF, hok⟩ Q' kn kx
    have ha := ha.leI lk
    have hb := hb.leL lk
    by_cases hil : i < t.patterns.length
    · have : (i : Int) < t.patterns.length := by omega
      obtain ⟨z, hz, hL, _⟩ := hb.ld1 hil
      simp only [this, ↓Xa, ↓Xb, ↓Xc, ↓Xd, ↓Xe, ↓Xf, ↓Xg, ↓Xh, ↓Xi, ↓Xj, ↓Xk, ↓Xl, ↓Xm, ↓Xn, ↓Xo, ↓Xp, ↓Xq, ↓Xr, ↓Xs, ↓Xt, ↓Xu, ↓Xv, ↓Xw, ↓Xx, ↓Xy, gx0, gx1, gx2, gx3, ife_e, ife_n, ife_r, Xz, ife_ne', XA, XB, XC, XD, decide_true, decide_false, Bool.not_true, Bool.not_false, ↓wr_ix hb hil, ↓wr_e hz, ↓XE b1, ↓XE b2, ↓wr_f0 b1, ↓wr_f0 b2, ↓XG ha, ↓wr_e (c_isPattern hL hv.i64)]
      by_cases h1 : (t.patterns[i].length : Int) = t.tracked.length ∧ Dist p.points t.patterns[i]
      case neg =>
        simp only [h1, ↓Xa, ↓Xb, ↓Xc, ↓Xd, ↓Xe, ↓Xf, ↓Xg, ↓Xh, ↓Xi, ↓Xj, ↓Xk, ↓Xl, ↓Xm, ↓Xn, ↓Xo, ↓Xp, ↓Xq, ↓Xr, ↓Xs, ↓Xt, ↓Xu, ↓Xv, ↓Xw, ↓Xx, ↓Xy, gx0, gx1, gx2, gx3, ife_e, ife_n, ife_r, Xz, ife_ne', XA, XB, XC, XD, decide_true, decide_false, Bool.not_true, Bool.not_false]
        exact W.ret (kx _ _ _ (by simp) ⟨lk, .inl ⟨rfl, fun h => h1 (h.2.2.2 i hil)⟩⟩)
      have hr := pt255 hv h1.2
      simp only [h1, and_self, ↓Xa, ↓Xb, ↓Xc, ↓Xd, ↓Xe, ↓Xf, ↓Xg, ↓Xh, ↓Xi, ↓Xj, ↓Xk, ↓Xl, ↓Xm, ↓Xn, ↓Xo, ↓Xp, ↓Xq, ↓Xr, ↓Xs, ↓Xt, ↓Xu, ↓Xv, ↓Xw, ↓Xx, ↓Xy, gx0, gx1, gx2, gx3, ife_e, ife_n, ife_r, Xz, ife_ne', XA, XB, XC, XD, decide_true, decide_false, Bool.not_true, Bool.not_false]
      refine W.bnd (c_stateKey lk.wf hL hr fun Hm lm => ?_)
      have bxk := bx
      have bx := bx.le lm
      simp only [↓XF bx, ↓XE bx, ↓wr_f5 bx]
      refine W.agn1 (bxk.ld1 rfl) ?_
      have hM := hM.le lm
      have b1 := b1.le lm
      have b2 := b2.le lm
      have hlt := hlt.leI lm
      have lk := lk.tr lm
      have e1 := hF _ hr
      simp only [↓wr_lkp hM]
      by_cases hmem : t.patterns[i] ∈ t.patterns.take i
      · rw [if_pos hmem] at e1
        simp only [e1, lkV, ↓Xa, ↓Xb, ↓Xc, ↓Xd, ↓Xe, ↓Xf, ↓Xg, ↓Xh, ↓Xi, ↓Xj, ↓Xk, ↓Xl, ↓Xm, ↓Xn, ↓Xo, ↓Xp, ↓Xq, ↓Xr, ↓Xs, ↓Xt, ↓Xu, ↓Xv, ↓Xw, ↓Xx, ↓Xy, gx0, gx1, gx2, gx3, ife_e, ife_n, ife_r, Xz, ife_ne', XA, XB, XC, XD, decide_true, decide_false, Bool.not_true, Bool.not_false, ↓wr_rx]
        rw [wr_inc (by omega)]
        refine W.ret (kn (t.patterns.length - (i + 1)) _ _ (by omega) ⟨lk, i + 1, F, rfl, hil, rfl, b1, b2, bx, hlt, hM, ?_, fun j hj hji => ?_⟩)
        · rw [List.take_succ_eq_append_getElem hil]; exact hF.old hmem
        · by_cases hji' : j = i
          · subst hji'; exact h1
          · exact hok j hj (by omega)
      · rw [if_neg hmem] at e1
        simp only [e1, lkV, ↓Xa, ↓Xb, ↓Xc, ↓Xd, ↓Xe, ↓Xf, ↓Xg, ↓Xh, ↓Xi, ↓Xj, ↓Xk, ↓Xl, ↓Xm, ↓Xn, ↓Xo, ↓Xp, ↓Xq, ↓Xr, ↓Xs, ↓Xt, ↓Xu, ↓Xv, ↓Xw, ↓Xx, ↓Xy, gx0, gx1, gx2, gx3, ife_e, ife_n, ife_r, Xz, ife_ne', XA, XB, XC, XD, decide_true, decide_false, Bool.not_true, Bool.not_false, ↓XH]
        refine W.bnd (c_stateKey lk.wf (Seq.leI hL lm) hr fun Hn ln => ?_)
        have bxm := bx
        have bx := bx.le ln
        simp only [↓XH, ↓XF bx, ↓XE bx, ↓wr_f5 bx]
        refine W.agn1 (bxm.ld1 rfl) ?_
        have hM := hM.le ln
        have lk := lk.tr ln
        simp only [↓XH]
        refine W.mupd lk.wf hM fun Ho fo hM => ?_
        simp only [↓wr_rx, ↓Xa, ↓Xb, ↓Xc, ↓Xd, ↓Xe, ↓Xf, ↓Xg, ↓Xh, ↓Xi, ↓Xj, ↓Xk, ↓Xl, ↓Xm, ↓Xn, ↓Xo, ↓Xp, ↓Xq, ↓Xr, ↓Xs, ↓Xt, ↓Xu, ↓Xv, ↓Xw, ↓Xx, ↓Xy, gx0, gx1, gx2, gx3, ife_e, ife_n, ife_r, Xz, ife_ne', XA, XB, XC, XD, decide_true, decide_false, Bool.not_true, Bool.not_false]
        rw [wr_inc (by omega)]
        refine W.ret (kn (t.patterns.length - (i + 1)) _ _ (by omega) ⟨lk.nw fo fun i hi hS => absurd hS.1 (by omega), i + 1, _, rfl, hil, rfl, (b1.le ln).nk fo, (b2.le ln).nk fo, bx.nk fo, (hlt.leI ln).nkI fo, hM, ?_, fun j hj hji => ?_⟩)
        · rw [List.take_succ_eq_append_getElem hil]
          have := hF.add hmem hr
          simpa [Nat.min_eq_left (Nat.le_of_lt hil)] using this
        · by_cases hji' : j = i
          · subst hji'; exact h1
          · exact hok j hj (by omega)
    · have hie : i = t.patterns.length := by omega
      subst hie
      simp only [↓Xa, ↓Xb, ↓Xc, ↓Xd, ↓Xe, ↓Xf, ↓Xg, ↓Xh, ↓Xi, ↓Xj, ↓Xk, ↓Xl, ↓Xm, ↓Xn, ↓Xo, ↓Xp, ↓Xq, ↓Xr, ↓Xs, ↓Xt, ↓Xu, ↓Xv, ↓Xw, ↓Xx, ↓Xy, gx0, gx1, gx2, gx3, ife_e, ife_n, ife_r, Xz, ife_ne', XA, XB, XC, XD, decide_true, decide_false, Bool.not_true, Bool.not_false, Int.lt_irrefl]
      exact W.ret (kx _ _ _ (by simp) ⟨lk, .inr ⟨F, rfl, b1, bx, hlt, hM, by simpa using hF, hv, hw, htr, fun j hj => hok j hj hj⟩⟩)
  · rintro rr Hk ⟨lk, ⟨rfl, hn⟩ | ⟨F, rfl, b1, bx, hlt, hM, hF, hch⟩⟩
    · simp only [↓Xa, ↓Xb, ↓Xc, ↓Xd, ↓Xe, ↓Xf, ↓Xg, ↓Xh, ↓Xi, ↓Xj, ↓Xk, ↓Xl, ↓Xm, ↓Xn, ↓Xo, ↓Xp, ↓Xq, ↓Xr, ↓Xs, ↓Xt, ↓Xu, ↓Xv, ↓Xw, ↓Xx, ↓Xy, gx0, gx1, gx2, gx3, ife_e, ife_n, ife_r, Xz, ife_ne', XA, XB, XC, XD, decide_true, decide_false, Bool.not_true, Bool.not_false]
      exact W.ret (k0 _ lk hn)
    simp only [↓Xa, ↓Xb, ↓Xc, ↓Xd, ↓Xe, ↓Xf, ↓Xg, ↓Xh, ↓Xi, ↓Xj, ↓Xk, ↓Xl, ↓Xm, ↓Xn, ↓Xo, ↓Xp, ↓Xq, ↓Xr, ↓Xs, ↓Xt, ↓Xu, ↓Xv, ↓Xw, ↓Xx, ↓Xy, gx0, gx1, gx2, gx3, ife_e, ife_n, ife_r, Xz, ife_ne', XA, XB, XC, XD, decide_true, decide_false, Bool.not_true, Bool.not_false, ↓XF bx, ↓XE bx, ↓wr_f3 bx, ↓XG hlt]
    have hltm : (lets p.moves.length).length ≤ 16 := by rw [lets_length]; omega
    refine W.lq (fun q st Hk => Le H Hk ∧ ∃ (i : Nat) (ml : AVal), q = (lets p.moves.length).length - i ∧ i ≤ (lets p.moves.length).length ∧ st = [i64 (i : Int)] ∧
      Bx Any t_impl_Puzzle Hk x1 [i64 p.points, .str p.names, mv] ∧ Bx (H.next ≤ ·) t_impl_proof Hk x [a, b, c, lt, ml, .map mid] ∧ Ints .own (H.next ≤ ·) Hk lt (lets p.moves.length) ∧ MapA Hk mid F ∧ Lists .own (H.next ≤ ·) Any Hk ml ((mvs p).take i))
      (fun rr Hk => Le H Hk ∧ ∃ (ml : AVal), rr = (.exit 2, []) ∧
      Bx (H.next ≤ ·) t_impl_proof Hk x [a, b, c, lt, ml, .map mid] ∧ Ints .own (H.next ≤ ·) Hk lt (lets p.moves.length) ∧ MapA Hk mid F ∧ Lists .own (H.next ≤ ·) Any Hk ml (mvs p)) (lets p.moves.length).length
      ⟨lk, 0, _, rfl, Nat.zero_le _, rfl, b1, bx, hlt, hM, by simpa using Seq.nil⟩ ?_ ?_
    · rintro q st Hk ⟨lk, i, ml, rfl, hi, rfl, b1, bx, hlt, hM, hml⟩ Q' kn kx
      by_cases hil : i < (lets p.moves.length).length
      · have : (i : Int) < (lets p.moves.length).length := by omega
        have hilm : i < (mvs p).length := by simpa [mvs] using hil
        simp only [this, ↓Xa, ↓Xb, ↓Xc, ↓Xd, ↓Xe, ↓Xf, ↓Xg, ↓Xh, ↓Xi, ↓Xj, ↓Xk, ↓Xl, ↓Xm, ↓Xn, ↓Xo, ↓Xp, ↓Xq, ↓Xr, ↓Xs, ↓Xt, ↓Xu, ↓Xv, ↓Xw, ↓Xx, ↓Xy, gx0, gx1, gx2, gx3, ife_e, ife_n, ife_r, Xz, ife_ne', XA, XB, XC, XD, decide_true, decide_false, Bool.not_true, Bool.not_false, ↓wr_ix hlt hil, ↓wr_ldI hlt hil]
        refine W.reserve lk.wf fun Hl ll fre => ?_
        have fr9 := fre 9 (by decide)
        have hn9 : H.next ≤ Hk.next + 9 := Nat.le_trans lk.nx (Nat.le_add_right _ _)
        have b1 := b1.le ll
        have bx := bx.le ll
        have lk := lk.tr ll
        simp only [↓XE b1, ↓wr_f2 b1, ↓Xy]
        refine W.bnd (c_letterOf (p := p) lk.wf (hm.leL lk) hv (List.getElem_mem hil) fun z Hm lm hz => ?_)
        have bxl := bx
        have bx := bx.le lm
        have fr9 := fr9.le lm
        have lk := lk.tr lm
        simp only [↓XF bx, ↓XE bx, ↓wr_f4 bx]
        refine W.agn1 (bxl.ld1 rfl) ?_
        have hz' : RL Any Hm z (mvOf p (lets p.moves.length)[i]) := Seq.mono hz fun _ _ _ => trivial
        refine W.lit1S (R := RL Any) (e := t_Sint64) lk.wf fr9 hz.isCell (fun H' f => Seq.nkI hz' f) fun y Hn fn hy => ?_
        have bx := bx.nk fn
        have lk := lk.nw fn fun i hi hS => absurd hS.1 (by omega)
        have hml := ((hml.leL ll).leL lm).nkL fn
        refine W.app (P := (H.next ≤ ·)) fn.wf hml hy (by decide) (by simp [mvs] at hltm ⊢; omega) (fun id hid => Nat.le_trans lk.nx hid) (fun H' f v x hx => Seq.bkI hx f (by decide)) fun ml' Ho fo hml' => ?_
        have bx := bx.bk fo (by decide)
        have lk := lk.nw fo fun i hi hS => absurd hS.1 (by omega)
        simp only [↓XF bx, ↓XE bx]
        refine W.fst fo.wf bx (by simp) hml'.isCell fun Hp' fp bx => ?_
        rw [wr_inc (by omega)]
        refine W.ret (kn ((lets p.moves.length).length - (i + 1)) _ _ (by omega) ⟨lk.nw fp fun i hi hS => absurd hS.1 (by omega), i + 1, ml', rfl, hil, rfl, (((b1.le lm).nk fn).bk fo (by decide)).bk fp (by decide), bx, ((((hlt.leI ll).leI lm).nkI fn).bkI fo (by decide)).bkI fp (by decide), ?_, ?_⟩)
        · have hM1 := (hM.le ll).le lm
          refine ((hM1.fr fn fun h => ?_).bk fo).bk fp
          obtain ⟨g1, es, g2, _⟩ := hM1
          rw [h.1] at g2
          rw [fr9.2] at g2; cases g2
        · have := hml'.bkL fp (by decide) (by decide)
          rw [List.take_succ_eq_append_getElem hilm]
          simpa [mvs] using this
      · have hie : i = (lets p.moves.length).length := by omega
        subst hie
        simp only [↓Xa, ↓Xb, ↓Xc, ↓Xd, ↓Xe, ↓Xf, ↓Xg, ↓Xh, ↓Xi, ↓Xj, ↓Xk, ↓Xl, ↓Xm, ↓Xn, ↓Xo, ↓Xp, ↓Xq, ↓Xr, ↓Xs, ↓Xt, ↓Xu, ↓Xv, ↓Xw, ↓Xx, ↓Xy, gx0, gx1, gx2, gx3, ife_e, ife_n, ife_r, Xz, ife_ne', XA, XB, XC, XD, decide_true, decide_false, Bool.not_true, Bool.not_false, Int.lt_irrefl]
        refine W.ret (kx _ _ _ (by simp) ⟨lk, ml, rfl, bx, hlt, hM, ?_⟩)
        rwa [List.take_of_length_le (by simp [mvs])] at hml
    · rintro rr Hk ⟨lk, ml, rfl, bx, hlt, hM, hml⟩
      simp only [↓Xa, ↓Xb, ↓Xc, ↓Xd, ↓Xe, ↓Xf, ↓Xg, ↓Xh, ↓Xi, ↓Xj, ↓Xk, ↓Xl, ↓Xm, ↓Xn, ↓Xo, ↓Xp, ↓Xq, ↓Xr, ↓Xs, ↓Xt, ↓Xu, ↓Xv, ↓Xw, ↓Xx, ↓Xy, gx0, gx1, gx2, gx3, ife_e, ife_n, ife_r, Xz, ife_ne', XA, XB, XC, XD, decide_true, decide_false, Bool.not_true, Bool.not_false]
      exact W.ret (k _ _ lk hch ⟨a, b, c, lt, ml, mid, F, bx.mono fun _ _ _ => trivial, (ha.leI lk).any, Seq.anyL (hb.leL lk), (hc.leI lk).any, hlt.any, Seq.anyL hml, hM, hF⟩)
end
end Go.Am

end

section
set_option linter.unusedSimpArgs false
set_option linter.unusedVariables false
/- Contracts: the faults of a table. -/
namespace Go.Am
abbrev Flt : Type := Int × Int × Int
def fcells (L : List Flt) : List AVal := L.flatMap fun f => [i64 f.1, i64 f.2.1, i64 f.2.2]
section
variable {β X : Type} {f : AVal → AM β} {Q : AVal → AHeap → Prop} {m m2 : Md} {P P2 P3 P4 P5 P' S T : Nat → Prop} {e e2 : TypeId} {H H0 H1 H2 H' : AHeap} {v u x y x1 x2 : AVal} {A B C s D r : List Int} {LL : List (List Int)} {p : Puz} {cs : List AVal} {t : Tbl} {id : Nat} {L M : List Flt}
theorem fcells_len : (fcells L).length = 3 * L.length := by
  induction L with
  | nil => rfl
  | cons a L ih => simp only [fcells, List.flatMap_cons, List.length_append, List.length_cons, List.length_nil] at ih ⊢; omega
theorem fcells_app : fcells (L ++ M) = fcells L ++ fcells M := by simp [fcells]
theorem fcells_all : (fcells L).all AVal.isCell = true := by
  rw [List.all_eq_true]
  intro z hz
  obtain ⟨f, _, hz⟩ := List.mem_flatMap.1 hz
  simp only [List.mem_cons, List.mem_nil_iff, or_false] at hz
  rcases hz with rfl | rfl | rfl <;> rfl
/-- A list of faults in a block of its own. -/
def FA (P : Nat → Prop) (H : AHeap) (v : AVal) (L : List Flt) : Prop := (v = .nilS ∧ L = []) ∨ ∃ id, v = .slice id 0 L.length 3 ∧ P id ∧ id < H.next ∧ H.get id = some (.cells (fcells L) t_impl_TableFault 0)
/-- A list of faults to be read. -/
def FRd (H : AHeap) (v : AVal) (L : List Flt) : Prop := (v = .nilS ∧ L = []) ∨ ∃ id M, v = .slice id 0 L.length 3 ∧ id < H.next ∧ H.get id = some (.cells (fcells L ++ M) t_impl_TableFault 0)
theorem FA.rd (h : FA P H v L) : FRd H v L := by
  rcases h with h | ⟨id, h1, h2, h3, h4⟩
  · exact .inl h
  · exact .inr ⟨id, [], h1, h3, by simpa using h4⟩
theorem FA.isCell (h : FA P H v L) : v.isCell = true := by
  rcases h with ⟨rfl, _⟩ | ⟨id, rfl, _⟩ <;> rfl
theorem FA.fr (h : FA P H v L) (hf : Fr S H H') (hS : ∀ id c fz, P id → H.get id = some (.cells c t_impl_TableFault fz) → ¬S id) : FA P H' v L := by
  rcases h with h | ⟨id, h1, h2, h3, h4⟩
  · exact .inl h
  · exact .inr ⟨id, h1, h2, Nat.lt_of_lt_of_le h3 hf.nx, (hf.keep id h3 (hS _ _ _ h2 h4)).trans h4⟩
theorem FA.le (h : FA P H v L) (hl : Le H H') : FA P H' v L := h.fr hl fun _ _ _ _ _ h => h
theorem FA.bk (h : FA P H v L) (hf : Fr (Bk P' e H) H H') (he : e ≠ t_impl_TableFault) : FA P H' v L := h.fr hf fun id c fz _ hg => Bk.ne he hg
theorem FA.mono (h : FA P H v L) (hp : ∀ id, id < H.next → P id → P' id) : FA P' H v L := by
  rcases h with h | ⟨id, h1, h2, h3, h4⟩
  · exact .inl h
  · exact .inr ⟨id, h1, hp id h3 h2, h3, h4⟩
theorem FRd.lenA (h : FRd H v L) : lenA v = ret (i64 (L.length : Int)) := by
  rcases h with ⟨rfl, rfl⟩ | ⟨id, M, rfl, _⟩ <;> rfl
theorem FRd.le (h : FRd H v L) (hl : Le H H') : FRd H' v L := by
  rcases h with h | ⟨id, M, h1, h2, h3⟩
  · exact .inl h
  · exact .inr ⟨id, M, h1, Nat.lt_of_lt_of_le h2 hl.nx, (hl.keep id h2 fun h => h).trans h3⟩
theorem W.app3 {Q : β → AHeap → Prop} (hp : Hp H) (h : FA P H v L) (h2 : FRd H x M) (hlen : L.length + M.length ≤ 1000000) (hu : ∀ id, H.next ≤ id → P id)
    (k : ∀ y H', Fr (Bk P t_impl_TableFault H) H H' → FA P H' y (L ++ M) → W (f y) H' Q) : W (Am.bnd (appS t_impl_TableFault 3 24 v x) f) H Q := by
  have hsrc : srcLen x = some M.length ∧ srcCells 3 x M.length H = some (fcells M) := by
    rcases h2 with ⟨rfl, rfl⟩ | ⟨id, N, rfl, g2, g3⟩
    · exact ⟨rfl, rfl⟩
    · refine ⟨rfl, ?_⟩
      have hl := fcells_len (L := M)
      simp only [srcCells, rd, g3]
      rw [if_pos ⟨trivial, by rw [List.length_append]; omega⟩, List.drop_zero, List.take_append_of_le_length (by omega), List.take_of_length_le (by omega)]
  obtain ⟨s1, s2⟩ := hsrc
  rcases h with ⟨rfl, rfl⟩ | ⟨id, rfl, hP, hid, hg⟩
  · by_cases h0 : M.length = 0
    · have : M = [] := List.length_eq_zero_iff.1 h0
      subst this
      refine W.e (a := .nilS) (H' := H) ?_ (k _ _ ((Le.refl hp).mono fun _ _ h => h.elim) (.inl ⟨rfl, rfl⟩))
      simp only [appS, s1, s2]; rfl
    · have hfr : Fr (Bk P t_impl_TableFault H) H (H.push (.cells (fcells M) t_impl_TableFault 0)) := (Le.push hp _).mono fun _ _ h => h.elim
      refine W.e (a := .slice H.next 0 M.length 3) (H' := H.push (.cells (fcells M) t_impl_TableFault 0)) ?_ (k _ _ hfr (.inr ⟨H.next, by simp, hu _ (Nat.le_refl _), Nat.lt_succ_self _, by simpa using get_push⟩))
      simp only [appS, s1, s2, h0, if_false]
      rw [if_pos ⟨by simp at hlen; unfold maxLenA; omega, by decide⟩]
  · by_cases h0 : M.length = 0
    · have : M = [] := List.length_eq_zero_iff.1 h0
      subst this
      refine W.e (a := .slice id 0 L.length 3) (H' := H) ?_ (k _ _ ((Le.refl hp).mono fun _ _ h => h.elim) (.inr ⟨id, by simp, hP, hid, by simpa using hg⟩))
      simp only [appS, s1, s2]; rfl
    · have hset : Fr (Bk P t_impl_TableFault H) H (H.set id .dead) := (Fr.set hp hid _).mono fun i hi h => by subst h; exact ⟨hP, _, _, hg⟩
      have hfr : Fr (Bk P t_impl_TableFault H) H ((H.set id .dead).push (.cells (fcells L ++ fcells M) t_impl_TableFault 0)) := hset.nw (Le.push hset.wf _) fun _ _ h => h.elim
      have hl := fcells_len (L := L)
      refine W.e (a := .slice H.next 0 (L.length + M.length) 3) (H' := (H.set id .dead).push (.cells (fcells L ++ fcells M) t_impl_TableFault 0)) ?_ (k _ _ hfr (.inr ⟨H.next, by simp, hu _ (Nat.le_refl _), Nat.lt_succ_self _, by rw [fcells_app]; exact get_push⟩))
      simp only [appS, s1, s2, h0, if_false, hg]
      rw [if_pos ⟨trivial, by omega, by omega, by unfold maxLenA; omega, by decide, trivial, fcells_all⟩]
      rfl
/-- The list of one fault, written out. -/
theorem W.flit {Q : β → AHeap → Prop} {a b c : Int} (hp : Hp H) (k : ∀ y H', Le H H' → FA (Nw H) H' y [(a, b, c)] → W (f y) H' Q) :
    W (Am.bnd (Am.bnd (afillM (fun i => some (i * 3, 3)) [(0, .agg [i64 a, i64 b, i64 c])] [.int .i64 0, .int .i64 0, .int .i64 0]) fun cs => allocS none t_impl_TableFault 3 1 cs) f) H Q := by
  have e1 : cellsN 3 (.agg [i64 a, i64 b, i64 c]) = Am.ret [i64 a, i64 b, i64 c] := cellsN_of rfl rfl
  have e2 : afillM (fun i => some (i * 3, 3)) [(0, .agg [i64 a, i64 b, i64 c])] [.int .i64 0, .int .i64 0, .int .i64 0] = Am.ret [i64 a, i64 b, i64 c] := by
    simp only [afillM, e1]; rfl
  rw [e2]
  refine W.assoc (W.rt ?_)
  exact W.e (a := .slice H.next 0 1 3) (H' := H.push (.cells [i64 a, i64 b, i64 c] t_impl_TableFault 0)) rfl (k _ _ (Le.push hp _) (.inr ⟨H.next, rfl, Nat.le_refl _, Nat.lt_succ_self _, get_push⟩))
/-! Where a letter leads -/
noncomputable def toV (p : Puz) (t : Tbl) (A : List Int) (l : Int) : AVal :=
  if act p l A ∈ t.patterns then .tuple [i64 (t.dists.getD (t.patterns.idxOf (act p l A)) 0), .bool true] else .tuple [i64 0, .bool false]
theorem mvs_get {i : Nat} (hi : i < (lets p.moves.length).length) : (mvs p)[i]'(by simpa [mvs] using hi) = mvOf p (lets p.moves.length)[i] := by simp [mvs]
theorem c_to {i : Nat} (hp : Hp H) (h : PrfA H x p t) (hch : Chkb p t) (ha : Ints .ro Any H u A) (hA : ∀ x ∈ A, 0 ≤ x ∧ x ≤ p.points - 1) (hi : i < (lets p.moves.length).length)
    (k : ∀ H', Le H H' → Q (toV p t A (lets p.moves.length)[i]) H') : W (s_Pim_proof_to x u (i64 (i : Int))) H Q := by
  have hpr := h
  obtain ⟨a, b, c, lt, mv, mid, F, bx, h2, h3, h4, h5, h6, h7, h8⟩ := h
  have him : i < (mvs p).length := by simpa [mvs] using hi
  have hl := List.getElem_mem hi
  obtain ⟨z, hz, hL, _⟩ := h6.ld1 him
  rw [mvs_get hi] at hL
  have hml := (hch.1.mv_len hl).1
  unfold s_Pim_proof_to
  simp only [↓XF bx, ↓XE bx, ↓wr_f4 bx, ↓wr_ix h6 him, ↓wr_e hz, ↓Xy]
  refine W.bnd (c_picked hp hL ha (fun x hx => by have := hA x hx; omega) fun r H1 l1 hr => ?_)
  have hr' : Ints .own (Nw H) H1 r (act p (lets p.moves.length)[i] A) := hr
  have hrng : ∀ y ∈ act p (lets p.moves.length)[i] A, 0 ≤ y ∧ y ≤ 255 := fun y hy => by
    have := act_range hch.1 hl hA hy
    have := hch.1.pts
    omega
  simp only [↓Xy]
  refine W.bnd (c_stateKey l1.wf hr' hrng fun H2 l2 => ?_)
  have l := l1.tr l2
  have bx0 := bx
  have bx1 := bx.le l1
  have bx := bx.le l
  simp only [↓XF bx, ↓XE bx, ↓wr_f5 bx]
  refine W.agn2 (bx1.ld1 rfl) (bx0.ld1 rfl) ?_
  have h7 := h7.le l
  have h4 := h4.leI l
  simp only [↓wr_lkp h7]
  have e1 := h8 _ hrng
  by_cases hm : act p (lets p.moves.length)[i] A ∈ t.patterns
  · rw [if_pos hm] at e1
    have hlt : t.patterns.idxOf (act p (lets p.moves.length)[i] A) < t.patterns.length := List.idxOf_lt_length_of_mem hm
    have hlt' : t.patterns.idxOf (act p (lets p.moves.length)[i] A) < t.dists.length := by rw [hch.2.1.2.2.1]; exact hlt
    have f00 : fieldP (fieldP x 0) 2 = fieldP x 2 := by obtain ⟨id, rfl, _⟩ := bx; rfl
    have g1 : Am.fadd 2 (fieldP x 0) = ret (fieldP x 2) := by obtain ⟨id, rfl, _⟩ := bx; rfl
    simp only [e1, lkV, ↓Xa, ↓Xb, ↓Xc, ↓Xd, ↓Xe, ↓Xf, ↓Xg, ↓Xh, ↓Xi, ↓Xj, ↓Xk, ↓Xl, ↓Xm, ↓Xn, ↓Xo, ↓Xp, ↓Xq, ↓Xr, ↓Xs, ↓Xt, ↓Xu, ↓Xv, ↓Xw, ↓Xx, ↓Xy, gx0, gx1, gx2, gx3, ife_e, ife_n, ife_r, Xz, ife_ne', XA, XB, XC, XD, decide_true, decide_false, Bool.not_true, Bool.not_false, ↓XF bx, ↓XE bx, ↓wr_p g1, ↓wr_f2 bx, ↓wr_ix h4 hlt', ↓wr_ldI h4 hlt']
    have := k _ l
    rw [toV, if_pos hm, List.getD_eq_getElem?_getD, List.getElem?_eq_getElem hlt', Option.getD_some] at this
    exact W.ret this
  · rw [if_neg hm] at e1
    simp only [e1, lkV, ↓Xa, ↓Xb, ↓Xc, ↓Xd, ↓Xe, ↓Xf, ↓Xg, ↓Xh, ↓Xi, ↓Xj, ↓Xk, ↓Xl, ↓Xm, ↓Xn, ↓Xo, ↓Xp, ↓Xq, ↓Xr, ↓Xs, ↓Xt, ↓Xu, ↓Xv, ↓Xw, ↓Xx, ↓Xy, gx0, gx1, gx2, gx3, ife_e, ife_n, ife_r, Xz, ife_ne', XA, XB, XC, XD, decide_true, decide_false, Bool.not_true, Bool.not_false]
    have := k _ l
    rw [toV, if_neg hm] at this
    exact W.ret this
/-! The faults of an entry -/
/-- The state while the faults of entry i are gathered. -/
structure EF (H0 H : AHeap) (x x1 x2 : AVal) (p : Puz) (t : Tbl) (i : Nat) (L : List Flt) : Prop where
  le : Le H0 H
  pr : PrfA H x p t
  b1 : Bx Any t_int H x1 [i64 (i : Int)]
  lv : ∃ lv, Bx (H0.next ≤ ·) t_Simpl_TableFault H x2 [lv] ∧ FA (H0.next ≤ ·) H lv L
theorem EF.to {i : Nat} (h : EF H0 H x x1 x2 p t i L) (hl : Le H H') : EF H0 H' x x1 x2 p t i L :=
  ⟨h.le.tr hl, h.pr.le hl, h.b1.le hl, by obtain ⟨lv, h1, h2⟩ := h.lv; exact ⟨lv, h1.le hl, h2.le hl⟩⟩
theorem wr_c1i {Q : β → AHeap → Prop} {n : Int} : W (bnd (cell1 (i64 n)) f) H Q ↔ W (f (i64 n)) H Q := wr_p rfl
theorem cv_add {a b c : AVal} : callV c_s_Pim_proof_entryFaults (.func (.func k_s_Pim_proof_entryFaults_1) [] [x2, x1]) [a, b, c] = s_Pim_proof_entryFaults_1 a b c x2 x1 := rfl
theorem c_add {Q : β → AHeap → Prop} {i : Nat} {b : Bool} {kd l : Int} (h : EF H0 H x x1 x2 p t i L) (hL : L.length ≤ 100000)
    (k : ∀ H', EF H0 H' x x1 x2 p t i (L ++ if b then [(kd, (i : Int), l)] else []) → (∀ v A, Ints .ro Any H v A → Ints .ro Any H' v A) → W (f (.tuple [])) H' Q) :
    W (bnd (callV c_s_Pim_proof_entryFaults (.func (.func k_s_Pim_proof_entryFaults_1) [] [x2, x1]) [.bool b, i64 kd, i64 l]) f) H Q := by
  rw [cv_add]
  unfold s_Pim_proof_entryFaults_1
  simp only [↓XH]
  cases b with
  | false =>
    simp only [↓Xa, ↓Xb, ↓Xc, ↓Xd, ↓Xe, ↓Xf, ↓Xg, ↓Xh, ↓Xi, ↓Xj, ↓Xk, ↓Xl, ↓Xm, ↓Xn, ↓Xo, ↓Xp, ↓Xq, ↓Xr, ↓Xs, ↓Xt, ↓Xu, ↓Xv, ↓Xw, ↓Xx, ↓Xy, gx0, gx1, gx2, gx3, ife_e, ife_n, ife_r, Xz, ife_ne', XA, XB, XC, XD, decide_true, decide_false, Bool.not_true, Bool.not_false, ↓wr_rx]
    exact k H (by simpa using h) fun _ _ h => h
  | true =>
    obtain ⟨lv, bl, hf⟩ := h.lv
    simp only [↓Xk, ↓XH, ↓wr_fx bl, ↓wr_fx h.b1, ↓wr_c1i, ↓Xa]
    rw [← XH]
    refine W.flit h.le.wf fun y H1 l1 hy => ?_
    have h' := h.to l1
    have bl := bl.le l1
    have hf := hf.le l1
    simp only [↓XH]
    refine W.app3 l1.wf hf hy.rd (by simp; omega) (fun id hid => Nat.le_trans h'.le.nx hid) fun z H2 f2 hz => ?_
    have bl := bl.bk f2 (by decide)
    simp only [↓XH]
    refine W.fs0 f2.wf bl (by simp) hz.isCell fun H3 f3 bl => ?_
    simp only [↓Xa, ↓Xb, ↓Xc, ↓Xd, ↓Xe, ↓Xf, ↓Xg, ↓Xh, ↓Xi, ↓Xj, ↓Xk, ↓Xl, ↓Xm, ↓Xn, ↓Xo, ↓Xp, ↓Xq, ↓Xr, ↓Xs, ↓Xt, ↓Xu, ↓Xv, ↓Xw, ↓Xx, ↓Xy, gx0, gx1, gx2, gx3, ife_e, ife_n, ife_r, Xz, ife_ne', XA, XB, XC, XD, decide_true, decide_false, Bool.not_true, Bool.not_false, ↓wr_rx]
    refine k H3 ⟨(h'.le.nw f2 fun i hi hS => absurd hS.1 (by omega)).nw f3 fun i hi hS => absurd hS.1 (by omega), (h'.pr.bk f2 (by decide) (by decide) (by decide)).bk f3 (by decide) (by decide) (by decide), (h'.b1.bk f2 (by decide)).bk f3 (by decide), z, bl, by simpa using hz.bk f3 (by decide)⟩ fun v A hA => ((hA.leI l1).bkI f2 (by decide)).bkI f3 (by decide)
/-- The faults that a letter shows. -/
noncomputable def efl (p : Puz) (t : Tbl) (i : Nat) (l : Int) : List Flt :=
  let w := act p l (t.patterns.getD i [])
  let d := t.dists.getD i 0
  let d' := t.dists.getD (t.patterns.idxOf w) 0
  if w ∈ t.patterns then (if d - 1 ≤ d' ∧ d' ≤ d + 1 then [] else [(5, (i : Int), l)]) else [(4, (i : Int), l)]
/-- The letter leads to an entry that is one nearer. -/
def Desc (p : Puz) (t : Tbl) (i : Nat) (l : Int) : Prop :=
  act p l (t.patterns.getD i []) ∈ t.patterns ∧ t.dists.getD (t.patterns.idxOf (act p l (t.patterns.getD i []))) 0 = t.dists.getD i 0 - 1
noncomputable instance {i : Nat} {l : Int} : Decidable (Desc p t i l) := Classical.propDecidable _
noncomputable instance {i : Nat} {ls : List Int} : Decidable (∃ l, l ∈ ls ∧ Desc p t i l) := Classical.propDecidable _
noncomputable def ehead (t : Tbl) (i : Nat) : List Flt :=
  (if (i : Int) = 0 ∧ (t.dists.getD i 0 ≠ 0 ∨ t.patterns.getD i [] ≠ t.tracked) then [(1, (i : Int), 0)] else []) ++
  (if ((t.patterns.idxOf (t.patterns.getD i []) : Nat) : Int) < (i : Int) then [(2, (i : Int), 0)] else []) ++
  (if 0 < (i : Int) ∧ t.dists.getD i 0 = 0 then [(3, (i : Int), 0)] else [])
noncomputable def etail (p : Puz) (t : Tbl) (i : Nat) : List Flt :=
  if 0 < t.dists.getD i 0 ∧ ¬∃ l, l ∈ lets p.moves.length ∧ Desc p t i l then [(6, (i : Int), 0)] else []
noncomputable def efaults (p : Puz) (t : Tbl) (i : Nat) : List Flt := ehead t i ++ (lets p.moves.length).flatMap (efl p t i) ++ etail p t i
theorem ite_b {α : Type} {p : Prop} [Decidable p] {a b : α} : (if decide p = true then a else b) = if p then a else b := by
  by_cases h : p <;> simp [h]
theorem efl_len {i : Nat} {l : Int} : (efl p t i l).length ≤ 1 := by
  unfold efl
  dsimp only
  by_cases h1 : act p l (t.patterns.getD i []) ∈ t.patterns
  · rw [if_pos h1]
    by_cases h2 : t.dists.getD i 0 - 1 ≤ t.dists.getD (t.patterns.idxOf (act p l (t.patterns.getD i []))) 0 ∧ t.dists.getD (t.patterns.idxOf (act p l (t.patterns.getD i []))) 0 ≤ t.dists.getD i 0 + 1
    · rw [if_pos h2]; simp
    · rw [if_neg h2]; simp
  · rw [if_neg h1]; simp
theorem flat_len {α γ : Type} {g : α → List γ} (hg : ∀ a, (g a).length ≤ 1) : ∀ (l : List α), (l.flatMap g).length ≤ l.length
  | [] => by simp
  | a :: l => by
    have := hg a
    have := flat_len hg l
    simp only [List.flatMap_cons, List.length_append, List.length_cons]; omega
theorem ite_len {α : Type} {c : Prop} [Decidable c] {a : α} : (if c then [a] else []).length ≤ 1 := by
  by_cases h : c <;> simp [h]
theorem ehead_len {i : Nat} : (ehead t i).length ≤ 3 := by
  unfold ehead
  rw [List.length_append, List.length_append]
  have h1 := ite_len (c := (i : Int) = 0 ∧ (t.dists.getD i 0 ≠ 0 ∨ t.patterns.getD i [] ≠ t.tracked)) (a := ((1 : Int), (i : Int), (0 : Int)))
  have h2 := ite_len (c := ((t.patterns.idxOf (t.patterns.getD i []) : Nat) : Int) < (i : Int)) (a := ((2 : Int), (i : Int), (0 : Int)))
  have h3 := ite_len (c := 0 < (i : Int) ∧ t.dists.getD i 0 = 0) (a := ((3 : Int), (i : Int), (0 : Int)))
  omega
theorem efaults_len {i : Nat} : (efaults p t i).length ≤ 4 + (lets p.moves.length).length := by
  unfold efaults
  rw [List.length_append, List.length_append]
  have h1 := ehead_len (t := t) (i := i)
  have h2 := flat_len (g := efl p t i) (fun _ => efl_len) (lets p.moves.length)
  have h3 : (etail p t i).length ≤ 1 := by
    unfold etail; exact ite_len
  omega
end
end Go.Am

end

section
set_option linter.unusedSimpArgs false
set_option linter.unusedVariables false
/- Contracts: the faults of an entry, of a table; correct tables. -/
namespace Go.Am
section
variable {β X : Type} {f : AVal → AM β} {Q : AVal → AHeap → Prop} {m m2 : Md} {P P2 P3 P4 P5 P' S T : Nat → Prop} {e e2 : TypeId} {H H0 H1 H2 H' : AHeap} {v u x y x1 x2 : AVal} {A B C s D r : List Int} {LL : List (List Int)} {p : Puz} {cs : List AVal} {t : Tbl} {id : Nat} {L M : List Flt}
theorem wr_fadd0 {Q : β → AHeap → Prop} (h : Bx P e H x cs) {n : Nat} : W (bnd (fadd n (fieldP x 0)) f) H0 Q ↔ W (f (fieldP x n)) H0 Q := by
  obtain ⟨id, rfl, _⟩ := h
  exact wr_p rfl
theorem cond_start {K : AVal → AM β} {Q : β → AHeap → Prop} {i d : Int} {a0 x10 b : AVal} (bx : Bx P e H a0 (b :: cs)) (ha : Ints .ro P2 H x10 A) (hb : Ints .ro P3 H b B) :
    W (bnd (gd (.bool (decide (i = 0))) true (ret (i64 d))) fun x20 =>
 bnd (gd (.bool (decide (i = 0))) true (abin .neq x20 (.int .i64 0))) fun x21 =>
 bnd (gd (.bool (decide (i = 0))) true (ret x21)) fun x22 =>
 bnd (gd x22 false (ret x10)) fun x23 =>
 bnd (gd x22 false (ret a0)) fun x24 =>
 bnd (gd x22 false (ncheck x24)) fun x25 =>
 bnd (gd x22 false (fadd 0 x25)) fun x26 =>
 bnd (gd x22 false (fadd 0 x26)) fun x27 =>
 bnd (gd x22 false (ld1 x27)) fun x28 =>
 bnd (gd x22 false (s_slices_Equal_Sint64_int64 x23 x28)) fun x29 =>
 bnd (gd x22 false (aun .not x29)) fun x30 =>
 bnd (gd (.bool (decide (i = 0))) true (pick3 x22 (.bool true) x30)) fun x31 =>
 bnd (pick3 (.bool (decide (i = 0))) x31 (.bool false)) fun x32 => K x32) H Q ↔ W (K (.bool (decide (i = 0 ∧ (d ≠ 0 ∨ A ≠ B))))) H Q := by
  by_cases h1 : i = 0
  · simp only [h1, ↓Xa, ↓Xb, ↓Xc, ↓Xd, ↓Xe, ↓Xf, ↓Xg, ↓Xh, ↓Xi, ↓Xj, ↓Xk, ↓Xl, ↓Xm, ↓Xn, ↓Xo, ↓Xp, ↓Xq, ↓Xr, ↓Xs, ↓Xt, ↓Xu, ↓Xv, ↓Xw, ↓Xx, ↓Xy, gx0, gx1, gx2, gx3, ife_e, ife_n, ife_r, Xz, ife_ne', XA, XB, XC, XD, decide_true, decide_false, Bool.not_true, Bool.not_false]
    by_cases h2 : d = 0
    · simp only [h2, ↓Xa, ↓Xb, ↓Xc, ↓Xd, ↓Xe, ↓Xf, ↓Xg, ↓Xh, ↓Xi, ↓Xj, ↓Xk, ↓Xl, ↓Xm, ↓Xn, ↓Xo, ↓Xp, ↓Xq, ↓Xr, ↓Xs, ↓Xt, ↓Xu, ↓Xv, ↓Xw, ↓Xx, ↓Xy, gx0, gx1, gx2, gx3, ife_e, ife_n, ife_r, Xz, ife_ne', XA, XB, XC, XD, decide_true, decide_false, Bool.not_true, Bool.not_false, ↓XF bx, ↓XE bx, ↓wr_fadd0 bx, ↓wr_f0 bx, ↓wr_e (c_Equal ha hb)]
      by_cases h3 : A = B
      · simp only [h3, ↓Xa, ↓Xb, ↓Xc, ↓Xd, ↓Xe, ↓Xf, ↓Xg, ↓Xh, ↓Xi, ↓Xj, ↓Xk, ↓Xl, ↓Xm, ↓Xn, ↓Xo, ↓Xp, ↓Xq, ↓Xr, ↓Xs, ↓Xt, ↓Xu, ↓Xv, ↓Xw, ↓Xx, ↓Xy, gx0, gx1, gx2, gx3, ife_e, ife_n, ife_r, Xz, ife_ne', XA, XB, XC, XD, decide_true, decide_false, Bool.not_true, Bool.not_false, ne_eq, not_true, or_self, and_false]
      · simp only [h3, ↓Xa, ↓Xb, ↓Xc, ↓Xd, ↓Xe, ↓Xf, ↓Xg, ↓Xh, ↓Xi, ↓Xj, ↓Xk, ↓Xl, ↓Xm, ↓Xn, ↓Xo, ↓Xp, ↓Xq, ↓Xr, ↓Xs, ↓Xt, ↓Xu, ↓Xv, ↓Xw, ↓Xx, ↓Xy, gx0, gx1, gx2, gx3, ife_e, ife_n, ife_r, Xz, ife_ne', XA, XB, XC, XD, decide_true, decide_false, Bool.not_true, Bool.not_false, ne_eq, not_true, not_false_iff, or_true, and_true]
    · simp only [h2, ↓Xa, ↓Xb, ↓Xc, ↓Xd, ↓Xe, ↓Xf, ↓Xg, ↓Xh, ↓Xi, ↓Xj, ↓Xk, ↓Xl, ↓Xm, ↓Xn, ↓Xo, ↓Xp, ↓Xq, ↓Xr, ↓Xs, ↓Xt, ↓Xu, ↓Xv, ↓Xw, ↓Xx, ↓Xy, gx0, gx1, gx2, gx3, ife_e, ife_n, ife_r, Xz, ife_ne', XA, XB, XC, XD, decide_true, decide_false, Bool.not_true, Bool.not_false, ne_eq, not_false_iff, true_or, and_true]
  · simp only [h1, ↓Xa, ↓Xb, ↓Xc, ↓Xd, ↓Xe, ↓Xf, ↓Xg, ↓Xh, ↓Xi, ↓Xj, ↓Xk, ↓Xl, ↓Xm, ↓Xn, ↓Xo, ↓Xp, ↓Xq, ↓Xr, ↓Xs, ↓Xt, ↓Xu, ↓Xv, ↓Xw, ↓Xx, ↓Xy, gx0, gx1, gx2, gx3, ife_e, ife_n, ife_r, Xz, ife_ne', XA, XB, XC, XD, decide_true, decide_false, Bool.not_true, Bool.not_false, false_and]
theorem cond_and {K : AVal → AM β} {Q : β → AHeap → Prop} {c : Prop} [Decidable c] {d : Int} :
    W (bnd (gd (.bool (decide c)) true (ret (i64 d))) fun x45 => bnd (gd (.bool (decide c)) true (abin .eql x45 (.int .i64 0))) fun x46 => bnd (pick3 (.bool (decide c)) x46 (.bool false)) fun x47 => K x47) H Q ↔ W (K (.bool (decide (c ∧ d = 0)))) H Q := by
  by_cases h1 : c
  · simp only [h1, ↓Xa, ↓Xb, ↓Xc, ↓Xd, ↓Xe, ↓Xf, ↓Xg, ↓Xh, ↓Xi, ↓Xj, ↓Xk, ↓Xl, ↓Xm, ↓Xn, ↓Xo, ↓Xp, ↓Xq, ↓Xr, ↓Xs, ↓Xt, ↓Xu, ↓Xv, ↓Xw, ↓Xx, ↓Xy, gx0, gx1, gx2, gx3, ife_e, ife_n, ife_r, Xz, ife_ne', XA, XB, XC, XD, decide_true, decide_false, Bool.not_true, Bool.not_false, true_and]
  · simp only [h1, ↓Xa, ↓Xb, ↓Xc, ↓Xd, ↓Xe, ↓Xf, ↓Xg, ↓Xh, ↓Xi, ↓Xj, ↓Xk, ↓Xl, ↓Xm, ↓Xn, ↓Xo, ↓Xp, ↓Xq, ↓Xr, ↓Xs, ↓Xt, ↓Xu, ↓Xv, ↓Xw, ↓Xx, ↓Xy, gx0, gx1, gx2, gx3, ife_e, ife_n, ife_r, Xz, ife_ne', XA, XB, XC, XD, decide_true, decide_false, Bool.not_true, Bool.not_false, false_and]
theorem cond_jump {K : AVal → AM β} {Q : β → AHeap → Prop} {c : Prop} [Decidable c] {d d' : Int} {x58 : AVal} (hx : c → x58 = i64 d') (h1 : In64 (d - 1)) (h2 : In64 (d + 1)) :
    W (bnd (gd (.bool (decide c)) true (ret x58)) fun x62 =>
 bnd (gd (.bool (decide c)) true (ret (i64 d))) fun x63 =>
 bnd (gd (.bool (decide c)) true (abin .sub x63 (.int .i64 1))) fun x64 =>
 bnd (gd (.bool (decide c)) true (ret (i64 d))) fun x65 =>
 bnd (gd (.bool (decide c)) true (abin .add x65 (.int .i64 1))) fun x66 =>
 bnd (gd (.bool (decide c)) true (s_im_within x62 x64 x66)) fun x67 =>
 bnd (gd (.bool (decide c)) true (aun .not x67)) fun x68 =>
 bnd (pick3 (.bool (decide c)) x68 (.bool false)) fun x69 => K x69) H Q ↔ W (K (.bool (decide (c ∧ ¬(d - 1 ≤ d' ∧ d' ≤ d + 1))))) H Q := by
  by_cases hc : c
  · have := hx hc
    subst this
    simp only [hc, ↓Xa, ↓Xb, ↓Xc, ↓Xd, ↓Xe, ↓Xf, ↓Xg, ↓Xh, ↓Xi, ↓Xj, ↓Xk, ↓Xl, ↓Xm, ↓Xn, ↓Xo, ↓Xp, ↓Xq, ↓Xr, ↓Xs, ↓Xt, ↓Xu, ↓Xv, ↓Xw, ↓Xx, ↓Xy, gx0, gx1, gx2, gx3, ife_e, ife_n, ife_r, Xz, ife_ne', XA, XB, XC, XD, decide_true, decide_false, Bool.not_true, Bool.not_false, ↓wr_sub h1, ↓wr_add h2, ↓wr_e c_within, true_and]
    rw [show (!decide (d - 1 ≤ d' ∧ d' ≤ d + 1)) = decide (¬(d - 1 ≤ d' ∧ d' ≤ d + 1)) from by simp only [decide_not]]
  · simp only [hc, ↓Xa, ↓Xb, ↓Xc, ↓Xd, ↓Xe, ↓Xf, ↓Xg, ↓Xh, ↓Xi, ↓Xj, ↓Xk, ↓Xl, ↓Xm, ↓Xn, ↓Xo, ↓Xp, ↓Xq, ↓Xr, ↓Xs, ↓Xt, ↓Xu, ↓Xv, ↓Xw, ↓Xx, ↓Xy, gx0, gx1, gx2, gx3, ife_e, ife_n, ife_r, Xz, ife_ne', XA, XB, XC, XD, decide_true, decide_false, Bool.not_true, Bool.not_false, false_and]
theorem cond_desc {K : AVal → AM β} {Q : β → AHeap → Prop} {b c : Prop} [Decidable b] [Decidable c] {d d' : Int} {x58 : AVal} (hx : c → x58 = i64 d') (h1 : In64 (d - 1)) :
    W (bnd (gd (.bool (decide b)) false (ret (.bool (decide c)))) fun x71 =>
 bnd (gd (.bool (decide b)) false (ret x71)) fun x72 =>
 bnd (gd x72 true (ret x58)) fun x73 =>
 bnd (gd x72 true (ret (i64 d))) fun x74 =>
 bnd (gd x72 true (abin .sub x74 (.int .i64 1))) fun x75 =>
 bnd (gd x72 true (abin .eql x73 x75)) fun x76 =>
 bnd (gd (.bool (decide b)) false (pick3 x72 x76 (.bool false))) fun x77 =>
 bnd (pick3 (.bool (decide b)) (.bool true) x77) fun x78 => K x78) H Q ↔ W (K (.bool (decide (b ∨ (c ∧ d' = d - 1))))) H Q := by
  by_cases hb : b
  · simp only [hb, ↓Xa, ↓Xb, ↓Xc, ↓Xd, ↓Xe, ↓Xf, ↓Xg, ↓Xh, ↓Xi, ↓Xj, ↓Xk, ↓Xl, ↓Xm, ↓Xn, ↓Xo, ↓Xp, ↓Xq, ↓Xr, ↓Xs, ↓Xt, ↓Xu, ↓Xv, ↓Xw, ↓Xx, ↓Xy, gx0, gx1, gx2, gx3, ife_e, ife_n, ife_r, Xz, ife_ne', XA, XB, XC, XD, decide_true, decide_false, Bool.not_true, Bool.not_false, true_or]
  · by_cases hc : c
    · have := hx hc
      subst this
      simp only [hb, hc, ↓Xa, ↓Xb, ↓Xc, ↓Xd, ↓Xe, ↓Xf, ↓Xg, ↓Xh, ↓Xi, ↓Xj, ↓Xk, ↓Xl, ↓Xm, ↓Xn, ↓Xo, ↓Xp, ↓Xq, ↓Xr, ↓Xs, ↓Xt, ↓Xu, ↓Xv, ↓Xw, ↓Xx, ↓Xy, gx0, gx1, gx2, gx3, ife_e, ife_n, ife_r, Xz, ife_ne', XA, XB, XC, XD, decide_true, decide_false, Bool.not_true, Bool.not_false, ↓wr_sub h1, false_or, true_and]
    · simp only [hb, hc, ↓Xa, ↓Xb, ↓Xc, ↓Xd, ↓Xe, ↓Xf, ↓Xg, ↓Xh, ↓Xi, ↓Xj, ↓Xk, ↓Xl, ↓Xm, ↓Xn, ↓Xo, ↓Xp, ↓Xq, ↓Xr, ↓Xs, ↓Xt, ↓Xu, ↓Xv, ↓Xw, ↓Xx, ↓Xy, gx0, gx1, gx2, gx3, ife_e, ife_n, ife_r, Xz, ife_ne', XA, XB, XC, XD, decide_true, decide_false, Bool.not_true, Bool.not_false, false_and, false_or]
theorem cond_last {K : AVal → AM β} {Q : β → AHeap → Prop} {b c : Prop} [Decidable b] [Decidable c] :
    W (bnd (gd (.bool (decide c)) true (ret (.bool (decide b)))) fun x82 =>
 bnd (gd (.bool (decide c)) true (aun .not x82)) fun x83 =>
 bnd (pick3 (.bool (decide c)) x83 (.bool false)) fun x84 => K x84) H Q ↔ W (K (.bool (decide (c ∧ ¬b)))) H Q := by
  by_cases hc : c
  · by_cases hb : b
    · simp only [hb, hc, ↓Xa, ↓Xb, ↓Xc, ↓Xd, ↓Xe, ↓Xf, ↓Xg, ↓Xh, ↓Xi, ↓Xj, ↓Xk, ↓Xl, ↓Xm, ↓Xn, ↓Xo, ↓Xp, ↓Xq, ↓Xr, ↓Xs, ↓Xt, ↓Xu, ↓Xv, ↓Xw, ↓Xx, ↓Xy, gx0, gx1, gx2, gx3, ife_e, ife_n, ife_r, Xz, ife_ne', XA, XB, XC, XD, decide_true, decide_false, Bool.not_true, Bool.not_false, not_true, and_false]
    · simp only [hb, hc, ↓Xa, ↓Xb, ↓Xc, ↓Xd, ↓Xe, ↓Xf, ↓Xg, ↓Xh, ↓Xi, ↓Xj, ↓Xk, ↓Xl, ↓Xm, ↓Xn, ↓Xo, ↓Xp, ↓Xq, ↓Xr, ↓Xs, ↓Xt, ↓Xu, ↓Xv, ↓Xw, ↓Xx, ↓Xy, gx0, gx1, gx2, gx3, ife_e, ife_n, ife_r, Xz, ife_ne', XA, XB, XC, XD, decide_true, decide_false, Bool.not_true, Bool.not_false, not_false_iff, and_true]
  · simp only [hc, ↓Xa, ↓Xb, ↓Xc, ↓Xd, ↓Xe, ↓Xf, ↓Xg, ↓Xh, ↓Xi, ↓Xj, ↓Xk, ↓Xl, ↓Xm, ↓Xn, ↓Xo, ↓Xp, ↓Xq, ↓Xr, ↓Xs, ↓Xt, ↓Xu, ↓Xv, ↓Xw, ↓Xx, ↓Xy, gx0, gx1, gx2, gx3, ife_e, ife_n, ife_r, Xz, ife_ne', XA, XB, XC, XD, decide_true, decide_false, Bool.not_true, Bool.not_false, false_and]
theorem c_entryFaults {i : Nat} (hp : Hp H) (h : PrfA H x p t) (hch : Chkb p t) (hi : i < t.patterns.length) (k : ∀ r H', Le H H' → FA (Nw H) H' r (efaults p t i) → Q r H') : W (s_Pim_proof_entryFaults x (i64 (i : Int))) H Q := by
  have hv := hch.1
  have hw := hch.2.1
  have hid : i < t.dists.length := by rw [hw.2.2.1]; exact hi
  have hdr := (hw.2.2.2 i hi hid).2
  have hpat := hch.2.2.2 i hi
  have hdi : t.dists.getD i 0 = t.dists[i] := by rw [List.getD_eq_getElem?_getD, List.getElem?_eq_getElem hid]; rfl
  have hpi : t.patterns.getD i [] = t.patterns[i] := by rw [List.getD_eq_getElem?_getD, List.getElem?_eq_getElem hi]; rfl
  have s1 : In64 (t.dists[i] - 1) := by unfold In64; omega
  have s2 : In64 (t.dists[i] + 1) := by unfold In64; omega
  have h16 : (lets p.moves.length).length ≤ 16 := by rw [lets_length]; have := hv.h8; omega
  unfold s_Pim_proof_entryFaults
  refine W.box1 hp rfl fun x1 H1 l1 b1 => ?_
  refine W.alloc l1.wf fun x2 H2 l2 b2 => ?_
  have b1 := b1.le l2
  have l := l1.tr l2
  have hpr := h.le l
  have ef : EF H H2 x x1 x2 p t i [] := ⟨l, hpr, b1.mono fun _ _ _ => trivial, .nilS, b2.mono fun id _ h => Nat.le_trans l1.nx h, .inl ⟨rfl, rfl⟩⟩
  have hpr' := hpr
  obtain ⟨a, b, c, lt, mv, mid, F, bx, h2, h3, h4, h5, h6, h7, h8⟩ := hpr'
  obtain ⟨pv, hpv, hpL, _⟩ := h3.ld1 hi
  simp only [↓Xa, ↓Xb, ↓Xc, ↓Xd, ↓Xe, ↓Xf, ↓Xg, ↓Xh, ↓Xi, ↓Xj, ↓Xk, ↓Xl, ↓Xm, ↓Xn, ↓Xo, ↓Xp, ↓Xq, ↓Xr, ↓Xs, ↓Xt, ↓Xu, ↓Xv, ↓Xw, ↓Xx, ↓Xy, gx0, gx1, gx2, gx3, ife_e, ife_n, ife_r, Xz, ife_ne', XA, XB, XC, XD, decide_true, decide_false, Bool.not_true, Bool.not_false, ↓XF bx, ↓XE bx, ↓wr_fadd0 bx, ↓wr_f1 bx, ↓wr_f2 bx, ↓wr_fx b1, ↓wr_ix h3 hi, ↓wr_e hpv, ↓wr_ix h4 hid, ↓wr_ldI h4 hid]
  rw [cond_start bx hpL h2]
  refine c_add ef (by simp) fun H3 ef kp => ?_
  have hpL := kp _ _ (Seq.any hpL)
  have hst := ef.b1
  simp only [↓Xa, ↓Xb, ↓Xc, ↓Xd, ↓Xe, ↓Xf, ↓Xg, ↓Xh, ↓Xi, ↓Xj, ↓Xk, ↓Xl, ↓Xm, ↓Xn, ↓Xo, ↓Xp, ↓Xq, ↓Xr, ↓Xs, ↓Xt, ↓Xu, ↓Xv, ↓Xw, ↓Xx, ↓Xy, gx0, gx1, gx2, gx3, ife_e, ife_n, ife_r, Xz, ife_ne', XA, XB, XC, XD, decide_true, decide_false, Bool.not_true, Bool.not_false]
  refine W.bnd (c_stateKey ef.le.wf hpL (pt255 hv hpat.2) fun H4 l4 => ?_)
  have ef3 := ef
  have ef := ef.to l4
  have hpL := Seq.leI hpL l4
  obtain ⟨a, b, c, lt, mv, mid, F, bx, h2, h3, h4, h5, h6, h7, h8⟩ := ef3.pr
  have bx4 := bx.le l4
  have h7 := h7.le l4
  have e1 := h8 _ (pt255 hv hpat.2)
  rw [if_pos (List.getElem_mem hi)] at e1
  simp only [↓XF bx4, ↓XE bx4, ↓wr_f5 bx4]
  refine W.agn1 (bx.ld1 rfl) ?_
  simp only [↓wr_lkp1 h7, e1, Option.getD_some, ↓wr_fx ef.b1]
  refine W.agn1 (hst.ld0 rfl) ?_
  simp only [↓Xa, ↓Xb, ↓Xc, ↓Xd, ↓Xe, ↓Xf, ↓Xg, ↓Xh, ↓Xi, ↓Xj, ↓Xk, ↓Xl, ↓Xm, ↓Xn, ↓Xo, ↓Xp, ↓Xq, ↓Xr, ↓Xs, ↓Xt, ↓Xu, ↓Xv, ↓Xw, ↓Xx, ↓Xy, gx0, gx1, gx2, gx3, ife_e, ife_n, ife_r, Xz, ife_ne', XA, XB, XC, XD, decide_true, decide_false, Bool.not_true, Bool.not_false]
  refine c_add ef (by have := ite_len (c := decide ((i : Int) = 0 ∧ (t.dists[i] ≠ 0 ∨ t.patterns[i] ≠ t.tracked)) = true) (a := ((1 : Int), (i : Int), (0 : Int))); simp only [List.nil_append]; omega) fun H5 ef kp => ?_
  have hpL := kp _ _ hpL
  simp only [↓Xa, ↓Xb, ↓Xc, ↓Xd, ↓Xe, ↓Xf, ↓Xg, ↓Xh, ↓Xi, ↓Xj, ↓Xk, ↓Xl, ↓Xm, ↓Xn, ↓Xo, ↓Xp, ↓Xq, ↓Xr, ↓Xs, ↓Xt, ↓Xu, ↓Xv, ↓Xw, ↓Xx, ↓Xy, gx0, gx1, gx2, gx3, ife_e, ife_n, ife_r, Xz, ife_ne', XA, XB, XC, XD, decide_true, decide_false, Bool.not_true, Bool.not_false, ↓wr_fx ef.b1]
  rw [cond_and]
  simp only [ite_b, List.nil_append] at ef
  refine c_add ef (by
    have h1 := ite_len (c := ((i : Int) = 0 ∧ (t.dists[i] ≠ 0 ∨ t.patterns[i] ≠ t.tracked))) (a := ((1 : Int), (i : Int), (0 : Int)))
    have h2 := ite_len (c := ((t.patterns.idxOf t.patterns[i] : Nat) : Int) < (i : Int)) (a := ((2 : Int), (i : Int), (0 : Int)))
    rw [List.length_append]; omega) fun H6 ef kp => ?_
  have hpL := kp _ _ hpL
  simp only [ite_b] at ef
  have ef : EF H H6 x x1 x2 p t i (ehead t i) := by rw [ehead, hdi, hpi]; exact ef
  obtain ⟨a, b, c, lt, mv, mid, F, bx, h2, h3, h4, h5, h6, h7, h8⟩ := ef.pr
  simp only [↓Xa, ↓Xb, ↓Xc, ↓Xd, ↓Xe, ↓Xf, ↓Xg, ↓Xh, ↓Xi, ↓Xj, ↓Xk, ↓Xl, ↓Xm, ↓Xn, ↓Xo, ↓Xp, ↓Xq, ↓Xr, ↓Xs, ↓Xt, ↓Xu, ↓Xv, ↓Xw, ↓Xx, ↓Xy, gx0, gx1, gx2, gx3, ife_e, ife_n, ife_r, Xz, ife_ne', XA, XB, XC, XD, decide_true, decide_false, Bool.not_true, Bool.not_false, ↓XF bx, ↓XE bx, ↓wr_f3 bx, ↓XG h5]
  have hAr : ∀ y ∈ t.patterns[i], 0 ≤ y ∧ y ≤ p.points - 1 := hpat.2.1
  refine W.lq (fun q st Hk => ∃ n : Nat, q = (lets p.moves.length).length - n ∧ n ≤ (lets p.moves.length).length ∧ st = [.bool (decide (∃ l, l ∈ (lets p.moves.length).take n ∧ Desc p t i l)), i64 (n : Int)] ∧
      EF H Hk x x1 x2 p t i (ehead t i ++ ((lets p.moves.length).take n).flatMap (efl p t i)) ∧ Ints .ro Any Hk pv t.patterns[i] ∧ Ints .ro Any Hk lt (lets p.moves.length))
    (fun rr Hk => rr = (.exit 0, [.bool (decide (∃ l, l ∈ lets p.moves.length ∧ Desc p t i l))]) ∧ EF H Hk x x1 x2 p t i (ehead t i ++ (lets p.moves.length).flatMap (efl p t i))) (lets p.moves.length).length
    ⟨0, rfl, Nat.zero_le _, by simp, by simpa using ef, hpL, h5⟩ ?_ ?_
  · rintro q st Hk ⟨n, rfl, hn, rfl, ef, hpL, h5⟩ Q' kn kx
    by_cases hnl : n < (lets p.moves.length).length
    · have hlt : (n : Int) < (lets p.moves.length).length := by omega
      simp only [hlt, ↓Xa, ↓Xb, ↓Xc, ↓Xd, ↓Xe, ↓Xf, ↓Xg, ↓Xh, ↓Xi, ↓Xj, ↓Xk, ↓Xl, ↓Xm, ↓Xn, ↓Xo, ↓Xp, ↓Xq, ↓Xr, ↓Xs, ↓Xt, ↓Xu, ↓Xv, ↓Xw, ↓Xx, ↓Xy, gx0, gx1, gx2, gx3, ife_e, ife_n, ife_r, Xz, ife_ne', XA, XB, XC, XD, decide_true, decide_false, Bool.not_true, Bool.not_false, ↓wr_ix h5 hnl, ↓wr_ldI h5 hnl]
      refine W.bnd (c_to ef.le.wf ef.pr hch hpL hAr hnl fun Hl ll => ?_)
      have ef := ef.to ll
      have hpL := hpL.leI ll
      have h5 := h5.leI ll
      generalize hl : (lets p.moves.length)[n] = l at *
      obtain ⟨x58, hx58, hto⟩ : ∃ x58, (act p l t.patterns[i] ∈ t.patterns → x58 = i64 (t.dists.getD (t.patterns.idxOf (act p l t.patterns[i])) 0)) ∧ toV p t t.patterns[i] l = .tuple [x58, .bool (decide (act p l t.patterns[i] ∈ t.patterns))] := by
        by_cases hm : act p l t.patterns[i] ∈ t.patterns
        · exact ⟨_, fun _ => rfl, by rw [toV, if_pos hm, decide_eq_true hm]⟩
        · exact ⟨_, fun h => absurd h hm, by rw [toV, if_neg hm, decide_eq_false hm]⟩
      have hel : efl p t i l = (if decide (¬act p l t.patterns[i] ∈ t.patterns) = true then [(4, (i : Int), l)] else []) ++ if decide (act p l t.patterns[i] ∈ t.patterns ∧ ¬(t.dists[i] - 1 ≤ t.dists.getD (t.patterns.idxOf (act p l t.patterns[i])) 0 ∧ t.dists.getD (t.patterns.idxOf (act p l t.patterns[i])) 0 ≤ t.dists[i] + 1)) = true then [(5, (i : Int), l)] else [] := by
        rw [ite_b, ite_b]
        unfold efl
        simp only [hdi, hpi]
        by_cases hm : act p l t.patterns[i] ∈ t.patterns
        · by_cases hr : t.dists[i] - 1 ≤ t.dists.getD (t.patterns.idxOf (act p l t.patterns[i])) 0 ∧ t.dists.getD (t.patterns.idxOf (act p l t.patterns[i])) 0 ≤ t.dists[i] + 1
          · rw [if_pos hm, if_pos hr, if_neg (Classical.not_not.2 hm), if_neg (fun h => h.2 hr)]; rfl
          · rw [if_pos hm, if_neg hr, if_neg (Classical.not_not.2 hm), if_pos ⟨hm, hr⟩]; rfl
        · rw [if_neg hm, if_pos hm, if_neg (fun h => hm h.1), List.append_nil]
      have hlen : (ehead t i ++ ((lets p.moves.length).take n).flatMap (efl p t i)).length ≤ 100 := by
        have h1 := ehead_len (t := t) (i := i)
        have h2 := flat_len (g := efl p t i) (fun _ => efl_len) ((lets p.moves.length).take n)
        rw [List.length_take] at h2
        rw [List.length_append]; omega
      simp only [hto, ↓Xa, ↓Xb, ↓Xc, ↓Xd, ↓Xe, ↓Xf, ↓Xg, ↓Xh, ↓Xi, ↓Xj, ↓Xk, ↓Xl, ↓Xm, ↓Xn, ↓Xo, ↓Xp, ↓Xq, ↓Xr, ↓Xs, ↓Xt, ↓Xu, ↓Xv, ↓Xw, ↓Xx, ↓Xy, gx0, gx1, gx2, gx3, ife_e, ife_n, ife_r, Xz, ife_ne', XA, XB, XC, XD, decide_true, decide_false, Bool.not_true, Bool.not_false]
      rw [show (!decide (act p l t.patterns[i] ∈ t.patterns)) = decide (¬act p l t.patterns[i] ∈ t.patterns) from by simp only [decide_not]]
      refine c_add ef (by omega) fun Hm ef kp => ?_
      have hpL := kp _ _ hpL
      have h5 := kp _ _ h5
      rw [cond_jump hx58 s1 s2]
      refine c_add ef (by
        have := ite_len (c := decide (¬act p l t.patterns[i] ∈ t.patterns) = true) (a := ((4 : Int), (i : Int), l))
        rw [List.length_append]; omega) fun Hn ef kp => ?_
      have hpL := kp _ _ hpL
      have h5 := kp _ _ h5
      rw [cond_desc hx58 s1]
      rw [wr_inc (by omega)]
      refine W.ret (kn ((lets p.moves.length).length - (n + 1)) _ _ (by omega) ⟨n + 1, rfl, hnl, ?_, ?_, hpL, h5⟩)
      · have : (∃ l, l ∈ (lets p.moves.length).take (n + 1) ∧ Desc p t i l) ↔ ((∃ l, l ∈ (lets p.moves.length).take n ∧ Desc p t i l) ∨ act p l t.patterns[i] ∈ t.patterns ∧ t.dists.getD (t.patterns.idxOf (act p l t.patterns[i])) 0 = t.dists[i] - 1) := by
          rw [List.take_succ_eq_append_getElem hnl]
          constructor
          · rintro ⟨l', hl', hd⟩
            rcases List.mem_append.1 hl' with h | h
            · exact .inl ⟨l', h, hd⟩
            · rw [List.mem_singleton.1 h, hl, Desc, hpi, hdi] at hd
              exact .inr hd
          · rintro (⟨l', hl', hd⟩ | hd)
            · exact ⟨l', List.mem_append_left _ hl', hd⟩
            · exact ⟨l, by simp [hl], by rw [Desc, hpi, hdi]; exact hd⟩
        simp only [this]
      · rw [List.take_succ_eq_append_getElem hnl, List.flatMap_append, hl]
        simpa [hel] using ef
    · have hne : n = (lets p.moves.length).length := by omega
      subst hne
      simp only [↓Xa, ↓Xb, ↓Xc, ↓Xd, ↓Xe, ↓Xf, ↓Xg, ↓Xh, ↓Xi, ↓Xj, ↓Xk, ↓Xl, ↓Xm, ↓Xn, ↓Xo, ↓Xp, ↓Xq, ↓Xr, ↓Xs, ↓Xt, ↓Xu, ↓Xv, ↓Xw, ↓Xx, ↓Xy, gx0, gx1, gx2, gx3, ife_e, ife_n, ife_r, Xz, ife_ne', XA, XB, XC, XD, decide_true, decide_false, Bool.not_true, Bool.not_false, Int.lt_irrefl]
      rw [List.take_of_length_le (Nat.le_refl _)] at ef
      exact W.ret (kx _ _ _ (by simp) ⟨by simp only [List.take_length], ef⟩)
  · rintro rr Hk ⟨rfl, ef⟩
    simp only [↓Xa, ↓Xb, ↓Xc, ↓Xd, ↓Xe, ↓Xf, ↓Xg, ↓Xh, ↓Xi, ↓Xj, ↓Xk, ↓Xl, ↓Xm, ↓Xn, ↓Xo, ↓Xp, ↓Xq, ↓Xr, ↓Xs, ↓Xt, ↓Xu, ↓Xv, ↓Xw, ↓Xx, ↓Xy, gx0, gx1, gx2, gx3, ife_e, ife_n, ife_r, Xz, ife_ne', XA, XB, XC, XD, decide_true, decide_false, Bool.not_true, Bool.not_false]
    rw [cond_last]
    refine c_add ef (by
      have h1 := ehead_len (t := t) (i := i)
      have h2 := flat_len (g := efl p t i) (fun _ => efl_len) (lets p.moves.length)
      rw [List.length_append]; omega) fun Hn ef kp => ?_
    obtain ⟨lv, bl, hf⟩ := ef.lv
    simp only [↓wr_fx bl]
    refine W.ret (k _ _ ef.le ?_)
    rw [ite_b] at hf
    rw [efaults, etail, hdi]
    exact hf
end
end Go.Am

end

section
set_option linter.unusedSimpArgs false
set_option linter.unusedVariables false
/- When an entry has no faults. -/
namespace Go.Am
section
variable {β X : Type} {f : AVal → AM β} {Q : AVal → AHeap → Prop} {m m2 : Md} {P P2 P3 P4 P5 P' S T : Nat → Prop} {e e2 : TypeId} {H H0 H1 H2 H' : AHeap} {v u x y x1 x2 : AVal} {A B C s D r : List Int} {LL : List (List Int)} {p : Puz} {cs : List AVal} {t : Tbl} {id : Nat} {L M : List Flt}
theorem ite_nil {α : Type} {c : Prop} [Decidable c] {a : α} : (if c then [a] else []) = [] ↔ ¬c := by
  by_cases h : c <;> simp [h]
theorem efl_nil {i : Nat} {l : Int} : efl p t i l = [] ↔ act p l (t.patterns.getD i []) ∈ t.patterns ∧ t.dists.getD i 0 - 1 ≤ t.dists.getD (t.patterns.idxOf (act p l (t.patterns.getD i []))) 0 ∧ t.dists.getD (t.patterns.idxOf (act p l (t.patterns.getD i []))) 0 ≤ t.dists.getD i 0 + 1 := by
  unfold efl
  dsimp only
  by_cases h1 : act p l (t.patterns.getD i []) ∈ t.patterns
  · rw [if_pos h1]
    by_cases h2 : t.dists.getD i 0 - 1 ≤ t.dists.getD (t.patterns.idxOf (act p l (t.patterns.getD i []))) 0 ∧ t.dists.getD (t.patterns.idxOf (act p l (t.patterns.getD i []))) 0 ≤ t.dists.getD i 0 + 1
    · rw [if_pos h2]; exact ⟨fun _ => ⟨h1, h2⟩, fun _ => rfl⟩
    · rw [if_neg h2]; simp only [List.cons_ne_nil, false_iff]; exact fun h => h2 h.2
  · rw [if_neg h1]; simp only [List.cons_ne_nil, false_iff]; exact fun h => h1 h.1
theorem efaults_nil {i : Nat} : efaults p t i = [] ↔
    (i = 0 → t.dists.getD i 0 = 0 ∧ t.patterns.getD i [] = t.tracked) ∧ ¬t.patterns.idxOf (t.patterns.getD i []) < i ∧ (0 < i → t.dists.getD i 0 ≠ 0) ∧
    (∀ l, l ∈ lets p.moves.length → act p l (t.patterns.getD i []) ∈ t.patterns ∧ t.dists.getD i 0 - 1 ≤ t.dists.getD (t.patterns.idxOf (act p l (t.patterns.getD i []))) 0 ∧ t.dists.getD (t.patterns.idxOf (act p l (t.patterns.getD i []))) 0 ≤ t.dists.getD i 0 + 1) ∧
    (0 < t.dists.getD i 0 → ∃ l, l ∈ lets p.moves.length ∧ Desc p t i l) := by
  rw [efaults, ehead, etail, List.append_eq_nil_iff, List.append_eq_nil_iff, List.append_eq_nil_iff, List.append_eq_nil_iff, ite_nil, ite_nil, ite_nil, ite_nil, List.flatMap_eq_nil_iff]
  simp only [efl_nil]
  constructor
  · rintro ⟨⟨⟨⟨h1, h2⟩, h3⟩, h4⟩, h5⟩
    refine ⟨fun h0 => ?_, by omega, fun h0 h => h3 ⟨by omega, h⟩, h4, fun h0 => Classical.byContradiction fun h => h5 ⟨h0, h⟩⟩
    subst h0
    refine ⟨Classical.byContradiction fun h => h1 ⟨rfl, .inl h⟩, Classical.byContradiction fun h => h1 ⟨rfl, .inr h⟩⟩
  · rintro ⟨h1, h2, h3, h4, h5⟩
    refine ⟨⟨⟨⟨fun h => ?_, by omega⟩, fun h => h3 (by omega) h.2⟩, h4⟩, fun h => h.2 (h5 h.1)⟩
    have := h1 (by omega)
    rcases h.2 with h' | h'
    · exact h' this.1
    · exact h' this.2
end
end Go.Am

end

section
set_option linter.unusedSimpArgs false
set_option linter.unusedVariables false
/- Inverse letters; distances that are alike; numbers beside lists. -/
namespace Go.Am
section
variable {A B C D D' r : List Int} {L S S' : List (List Int)} {p : Puz} {t : Tbl} {f f' : List Int → Int} {w : Bool}
theorem inv_left (h : Dist A.length A) {x : Nat} (hx : x < A.length) : (inv A).getD (A.getD x 0).toNat 0 = (x : Int) := by
  have e1 : A.getD x 0 = A[x] := by rw [List.getD_eq_getElem?_getD, List.getElem?_eq_getElem hx]; rfl
  have h1 := h.1 _ (List.getElem_mem hx)
  have h2 : A[x].toNat < (inv A).length := by rw [inv_length]; omega
  rw [e1, List.getD_eq_getElem?_getD, List.getElem?_eq_getElem h2, Option.getD_some]
  simp only [inv, List.getElem_map, List.getElem_range]
  have h3 : ((A[x].toNat : Nat) : Int) = A[x] := by omega
  rw [h3, idxOf_first hx rfl fun j hj he => ?_]
  have := nodup_inj h.2 (show j < A.length by omega) hx he
  omega
theorem inv_right (h : Dist A.length A) {x : Nat} (hx : x < A.length) : A.getD ((inv A).getD x 0).toNat 0 = (x : Int) := by
  have h2 : x < (inv A).length := by rw [inv_length]; exact hx
  have e1 : (inv A).getD x 0 = ((A.idxOf (x : Int) : Nat) : Int) := by
    rw [List.getD_eq_getElem?_getD, List.getElem?_eq_getElem h2, Option.getD_some]
    simp only [inv, List.getElem_map, List.getElem_range]
  have hm := h.surj hx
  have hi : A.idxOf (x : Int) < A.length := List.idxOf_lt_length_of_mem hm
  rw [e1, Int.toNat_natCast, List.getD_eq_getElem?_getD, List.getElem?_eq_getElem hi, Option.getD_some]
  exact List.getElem_idxOf hi
theorem neg_lets {n : Nat} {l : Int} (h : l ∈ lets n) : -l ∈ lets n := by
  have := mem_lets.1 h
  exact mem_lets.2 ⟨by omega, by omega, by omega⟩
theorem act_inv (hv : Valid p) {l : Int} (hl : l ∈ lets p.moves.length) (hA : ∀ x ∈ A, 0 ≤ x ∧ x ≤ p.points - 1) : act p (-l) (act p l A) = A := by
  have h0 := mem_lets.1 hl
  obtain ⟨m1, i, hi, e1, e2, hp, hil⟩ := hv.mv_len hl
  obtain ⟨m1', i', hi', e1', e2', hp', hil'⟩ := hv.mv_len (neg_lets hl)
  have hii : i' = i := by omega
  subst hii
  have hm := (hv.move hi').1
  unfold act
  rw [List.map_map]
  conv => rhs; rw [← List.map_id A]
  apply List.map_congr_left
  intro x hx
  have hx' := hA x hx
  have hxl : x.toNat < p.moves[i'].length := by omega
  simp only [Function.comp, id]
  by_cases h1 : l < 0
  · rw [e1 h1, e2' (by omega), inv_right hp.2 hxl]
    omega
  · rw [e2 h1, e1' (by omega), inv_left hp.2 hxl]
    omega
/-- A set of lists with its distances from r. -/
structure Dst (p : Puz) (r : List Int) (S : List (List Int)) (f : List Int → Int) : Prop where
  root : r ∈ S ∧ f r = 0
  rng : ∀ a ∈ S, ∀ x ∈ a, 0 ≤ x ∧ x ≤ p.points - 1
  cl : ∀ a ∈ S, ∀ l ∈ lets p.moves.length, act p l a ∈ S ∧ f (act p l a) ≤ f a + 1
  desc : ∀ a ∈ S, 0 < f a → ∃ l ∈ lets p.moves.length, act p l a ∈ S ∧ f (act p l a) = f a - 1
  zero : ∀ a ∈ S, f a = 0 → a = r
  nn : ∀ a ∈ S, 0 ≤ f a
theorem Dst.sub (hv : Valid p) (h : Dst p r S f) (h' : Dst p r S' f') : ∀ (n : Nat) (a : List Int), f a = n → a ∈ S → a ∈ S' ∧ f' a ≤ f a := by
  intro n
  induction n with
  | zero =>
    intro a ha hm
    have := h.zero a hm (by simpa using ha)
    subst this
    exact ⟨h'.root.1, by rw [h'.root.2, h.root.2]; omega⟩
  | succ n ih =>
    intro a ha hm
    obtain ⟨l, hl, h1, h2⟩ := h.desc a hm (by omega)
    obtain ⟨h3, h4⟩ := ih _ (by omega) h1
    obtain ⟨h5, h6⟩ := h'.cl _ h3 (-l) (neg_lets hl)
    rw [act_inv hv hl (h.rng a hm)] at h5 h6
    exact ⟨h5, by omega⟩
theorem Dst.eq (hv : Valid p) (h : Dst p r S f) (h' : Dst p r S' f') : (∀ a, a ∈ S ↔ a ∈ S') ∧ ∀ a ∈ S, f a = f' a := by
  have k1 : ∀ a ∈ S, a ∈ S' ∧ f' a ≤ f a := fun a ha => Dst.sub hv h h' (f a).toNat a (by have := h.nn a ha; omega) ha
  have k2 : ∀ a ∈ S', a ∈ S ∧ f a ≤ f' a := fun a ha => Dst.sub hv h' h (f' a).toNat a (by have := h'.nn a ha; omega) ha
  refine ⟨fun a => ⟨fun h => (k1 a h).1, fun h => (k2 a h).1⟩, fun a ha => ?_⟩
  have := (k1 a ha).2
  have := (k2 a (k1 a ha).1).2
  omega
/-- The number that stands beside a member. -/
def val (L : List (List Int)) (D : List Int) (a : List Int) : Int := D.getD (L.idxOf a) 0
theorem idxOf_nd {α : Type} [BEq α] [LawfulBEq α] {L : List α} (h : L.Nodup) {j : Nat} (hj : j < L.length) : L.idxOf L[j] = j := idxOf_first hj rfl fun i hi he => by
  have := nodup_inj h (show i < L.length by omega) hj he
  omega
theorem val_get (h : L.Nodup) {j : Nat} (hj : j < L.length) : val L D L[j] = D.getD j 0 := by rw [val, idxOf_nd h hj]
theorem Found.dst (hv : Valid p) (h : Found p r L D true) : Dst p r L (val L D) := by
  have hb := h.bf
  have h0 : 0 < L.length := by
    have := hb.root
    rcases Nat.eq_zero_or_pos L.length with h | h
    · rw [List.getElem?_eq_none (by omega)] at this; cases this
    · exact h
  have hr : L[0] = r := by have := hb.root; rw [List.getElem?_eq_getElem h0] at this; simpa using this
  have hnn : ∀ j, j < L.length → 0 ≤ D.getD j 0 := fun j hj => hb.nonneg hj
  have hpos : ∀ j, 0 < j → j < L.length → 0 < D.getD j 0 := fun j hj hjl => by
    obtain ⟨i, l, hi, _, _, hd⟩ := hb.par j hj hjl
    have := hnn i (by omega)
    omega
  refine ⟨⟨hr ▸ List.getElem_mem h0, ?_⟩, hb.rng, fun a ha l hl => ?_, fun a ha hd => ?_, fun a ha hz => ?_, fun a ha => ?_⟩
  · rw [← hr, val_get h.nd h0, List.getD_eq_getElem?_getD, hb.root0]; rfl
  · obtain ⟨j, hj, rfl⟩ := List.mem_iff_getElem.1 ha
    obtain ⟨m, h1, h2, h3⟩ := (h.all rfl).2 j hj l hl
    rw [List.getElem?_eq_getElem h2, List.getElem?_eq_getElem hj, Option.map_some, Option.some.injEq] at h1
    rw [← h1, val_get h.nd h2, val_get h.nd hj]
    exact ⟨List.getElem_mem h2, h3⟩
  · obtain ⟨j, hj, rfl⟩ := List.mem_iff_getElem.1 ha
    rw [val_get h.nd hj] at hd ⊢
    have hj0 : 0 < j := by
      rcases Nat.eq_zero_or_pos j with h | h
      · subst h
        rw [List.getD_eq_getElem?_getD, hb.root0] at hd
        simp at hd
      · exact h
    obtain ⟨i, l, hi, hl, he, hd'⟩ := hb.par j hj0 hj
    have hil : i < L.length := by omega
    rw [List.getElem?_eq_getElem hj, List.getElem?_eq_getElem hil, Option.map_some, Option.some.injEq] at he
    have : act p (-l) L[j] = L[i] := by rw [he, act_inv hv hl (hb.rng _ (List.getElem_mem hil))]
    refine ⟨-l, neg_lets hl, by rw [this]; exact List.getElem_mem hil, ?_⟩
    rw [this, val_get h.nd hil]; omega
  · obtain ⟨j, hj, rfl⟩ := List.mem_iff_getElem.1 ha
    rw [val_get h.nd hj] at hz
    rcases Nat.eq_zero_or_pos j with h | h
    · subst h; exact hr
    · have := hpos j h hj; omega
  · obtain ⟨j, hj, rfl⟩ := List.mem_iff_getElem.1 ha
    rw [val_get h.nd hj]; exact hnn j hj
theorem idxOf_le {α : Type} [BEq α] [LawfulBEq α] : ∀ {L : List α} {a : α} {i : Nat} (hi : i < L.length), L[i] = a → L.idxOf a ≤ i
  | [], _, _, hi, _ => absurd hi (Nat.not_lt_zero _)
  | x :: L, a, i, hi, h => by
    rw [List.idxOf_cons]
    cases hx : x == a with
    | true => exact Nat.zero_le _
    | false =>
      cases i with
      | zero =>
        simp only [List.getElem_cons_zero] at h
        rw [h] at hx; simp at hx
      | succ i => exact Nat.succ_le_succ (idxOf_le (i := i) (by simpa using hi) (by simpa using h))
theorem nodup_of_idx (h : ∀ i (hi : i < L.length), ¬L.idxOf L[i] < i) : L.Nodup := by
  rw [List.nodup_iff_pairwise_ne, List.pairwise_iff_getElem]
  intro i j hi hj hij he
  refine h j hj ?_
  rw [← he]
  have : L.idxOf L[i] ≤ i := idxOf_le hi rfl
  omega
theorem getD_get {α : Type} {l : List α} {d : α} {i : Nat} (hi : i < l.length) : l.getD i d = l[i] := by
  rw [List.getD_eq_getElem?_getD, List.getElem?_eq_getElem hi]; rfl
theorem BFS.in (h : BFS p r L D) (h' : Dst p r S f) : ∀ a ∈ L, a ∈ S := by
  have key : ∀ (j : Nat) (hj : j < L.length), L[j] ∈ S := by
    intro j
    induction j using Nat.strongRecOn with
    | _ j ih =>
      intro hj
      rcases Nat.eq_zero_or_pos j with h0 | h0
      · subst h0
        have := h.root
        rw [List.getElem?_eq_getElem hj, Option.some.injEq] at this
        rw [this]; exact h'.root.1
      · obtain ⟨i, l, hi, hl, he, _⟩ := h.par j h0 hj
        have hil : i < L.length := by omega
        rw [List.getElem?_eq_getElem hj, List.getElem?_eq_getElem hil, Option.map_some, Option.some.injEq] at he
        rw [he]
        exact (h'.cl _ (ih i hi hil) l hl).1
  intro a ha
  obtain ⟨j, hj, rfl⟩ := List.mem_iff_getElem.1 ha
  exact key j hj
theorem nodup_len {α : Type} [DecidableEq α] {A B : List α} (ha : A.Nodup) (hb : B.Nodup) (h : ∀ x, x ∈ A ↔ x ∈ B) : A.length = B.length :=
  Nat.le_antisymm (nodup_sub_length ha fun x hx => (h x).1 hx) (nodup_sub_length hb fun x hx => (h x).2 hx)
theorem lookup_mem (hw : WFT t) {a : List Int} (ha : a ∈ t.patterns) : lookup t a = val t.patterns t.dists a := by rw [lookup, if_pos ⟨hw, ha⟩, val]
end
end Go.Am

end

section
set_option linter.unusedSimpArgs false
set_option linter.unusedVariables false
/- Contracts of the draws: they end, and their data are well formed. The source of choices; permutations. -/
namespace Go.Am
section
variable {β X : Type} {f : AVal → AM β} {Q : AVal → AHeap → Prop} {R : AHeap → AVal → X → Prop} {m m2 : Md} {P P2 P3 P4 P5 P' S T : Nat → Prop} {e e2 : TypeId} {H H0 H1 H2 H' : AHeap} {v u x y : AVal} {A B C s D r : List Int} {L LL : List (List Int)} {p : Puz} {cs : List AVal} {t : Tbl} {id : Nat} {n : Int}
/-- What a run may have changed: the source, or what it made. -/
abbrev Sf (H H' : AHeap) : Prop := Fr (Bk Any t_spec_source H) H H'
theorem Sf.of (h : Le H H') : Sf H H' := h.bk
theorem Sf.refl (h : Hp H) : Sf H H := (Le.refl h).bk
theorem Sf.tr (h : Sf H H1) (h' : Sf H1 H2) : Sf H H2 := Fr.bk h h'
theorem Sf.le (h : Sf H H1) (h' : Le H1 H2) : Sf H H2 := h.tr (Sf.of h')
def Src (P : Nat → Prop) (H : AHeap) (x : AVal) : Prop := ∃ bs, ∃ (nx : Nat) (st : Int) (B : List UInt8), Bx Any t_spec_source H x [bs, i64 (nx : Int), i64 st] ∧ Bytes .ro P H bs B ∧ nx ≤ B.length
theorem Seq.bkB {LB : List UInt8} {e' : TypeId} (h : Bytes m P H v LB) (hf : Fr (Bk P' e' H) H H') (he : e' ≠ t_uint8) : Bytes m P H' v LB := h.fr hf (fun id c fz _ _ hg => Bk.ne he hg) fun _ _ h => h
theorem Seq.nkB {LB : List UInt8} (h : Bytes m P H v LB) (hf : Fr (Nk id H) H H') : Bytes m P H' v LB := h.fr hf (fun _ _ _ _ _ hg => Nk.not hg) fun _ _ h => h
theorem Src.le (h : Src P H x) (hl : Le H H') : Src P H' x := by
  obtain ⟨bs, nx, st, B, h1, h2, h3⟩ := h
  exact ⟨bs, nx, st, B, h1.le hl, h2.leB hl, h3⟩
theorem Src.bk (h : Src P H x) (hf : Fr (Bk P' e H) H H') (e1 : e ≠ t_spec_source) (e2 : e ≠ t_uint8) : Src P H' x := by
  obtain ⟨bs, nx, st, B, h1, h2, h3⟩ := h
  exact ⟨bs, nx, st, B, h1.bk hf e1, h2.bkB hf e2, h3⟩
theorem Src.nk (h : Src P H x) (hf : Fr (Nk id H) H H') : Src P H' x := by
  obtain ⟨bs, nx, st, B, h1, h2, h3⟩ := h
  exact ⟨bs, nx, st, B, h1.nk hf, h2.nkB hf, h3⟩
def and255 (a : Int) : Int := ((BitVec.ofInt 64 a &&& BitVec.ofInt 64 255).toNat : Int)
theorem and255_in {a : Int} : 0 ≤ and255 a ∧ and255 a ≤ 255 := by
  unfold and255
  rw [BitVec.toNat_and]
  have : (BitVec.ofInt 64 a).toNat &&& (BitVec.ofInt 64 255).toNat ≤ (BitVec.ofInt 64 255).toNat := Nat.and_le_right
  have h2 : (BitVec.ofInt 64 255).toNat = 255 := by decide
  rw [h2] at this ⊢
  omega
theorem wr_and255 {Q : β → AHeap → Prop} {a : Int} : W (bnd (abin .and (i64 a) (.int .i64 255)) f) H Q ↔ W (f (i64 (and255 a))) H Q := by
  refine wr_p ?_
  show (if IntKind.i64 ≠ IntKind.i64 then fail else ibits .i64 (· &&& ·) a 255) = _
  rw [if_neg (by simp)]
  simp only [ibits]
  have h := and255_in (a := a)
  have : ((BitVec.ofInt IntKind.i64.bits a &&& BitVec.ofInt IntKind.i64.bits 255).toNat : Int) = and255 a := rfl
  rw [this, wrap_in (by unfold In64; omega)]
theorem wr_addw {Q : β → AHeap → Prop} {k : IntKind} {a b : Int} : W (bnd (abin .add (.int k a) (.int k b)) f) H Q ↔ W (f (.int k (k.wrap (a + b)))) H Q := wr_p (by simp [abin, wr])
theorem wr_mulw {Q : β → AHeap → Prop} {k : IntKind} {a b : Int} : W (bnd (abin .mul (.int k a) (.int k b)) f) H Q ↔ W (f (.int k (k.wrap (a * b)))) H Q := wr_p (by simp [abin, wr])
theorem wr_mul {Q : β → AHeap → Prop} {a b : Int} (r : In64 (a * b)) : W (bnd (abin .mul (i64 a) (i64 b)) f) H Q ↔ W (f (i64 (a * b))) H Q := wr_p (by simp [abin, wr, wrap_in r])
theorem wr_rem {Q : β → AHeap → Prop} {k : IntKind} {a b : Int} (hb : b ≠ 0) : W (bnd (abin .rem (.int k a) (.int k b)) f) H Q ↔ W (f (.int k (a.tmod b))) H Q := wr_p (by simp [abin, hb])
theorem wr_quo {Q : β → AHeap → Prop} {k : IntKind} {a b : Int} (hb : b ≠ 0) : W (bnd (abin .quo (.int k a) (.int k b)) f) H Q ↔ W (f (.int k (k.wrap (a.tdiv b)))) H Q := wr_p (by simp [abin, wr, hb])
theorem wr_shr {Q : β → AHeap → Prop} {k k' : IntKind} {a b : Int} (hb : 0 ≤ b) : W (bnd (abin .shr (.int k a) (.int k' b)) f) H Q ↔ W (f (.int k (a.fdiv (2 ^ (min b.toNat k.bits))))) H Q := wr_p (by simp [abin]; omega)
theorem wr_xor {Q : β → AHeap → Prop} {k : IntKind} {a b : Int} : W (bnd (abin .xor (.int k a) (.int k b)) f) H Q ↔ W (f (.int k (k.wrap (BitVec.ofInt k.bits a ^^^ BitVec.ofInt k.bits b).toNat))) H Q := wr_p (by simp [abin, ibits])
theorem c_nextByte (hp : Hp H) (h : Src P H x) (k : ∀ r H', Sf H H' → Src P H' x → 0 ≤ r ∧ r ≤ 255 → Q (i64 r) H') : W (s_sp_nextByte x) H Q := by
  obtain ⟨bs, nx, st, B, b0, hB, hn⟩ := h
  have hbB := hB.bd
  unfold s_sp_nextByte
  simp only [↓XF b0, ↓XE b0, ↓wr_f2 b0, ↓wr_mulw, ↓wr_addw]
  generalize IntKind.i64.wrap (IntKind.i64.wrap (st * 6364136223846793005) + 1442695040888963407) = st'
  refine W.fst hp b0 (by simp) rfl fun H1 f1 b1 => ?_
  have b1 : Bx Any t_spec_source H1 x [bs, i64 (nx : Int), i64 st'] := b1
  have hB1 := hB.bkB f1 (by decide)
  simp only [↓XF b1, ↓XE b1, ↓wr_f2 b1, ↓wr_shr (show (0 : Int) ≤ 33 by decide), ↓wr_shr (show (0 : Int) ≤ 45 by decide), ↓wr_xor, ↓wr_and255, ↓wr_f1 b1, ↓wr_f0 b1, ↓XG hB1, ↓Xa, ↓Xb, ↓Xc, ↓Xd, ↓Xe, ↓Xf, ↓Xg, ↓Xh, ↓Xi, ↓Xj, ↓Xk, ↓Xl, ↓Xm, ↓Xn, ↓Xo, ↓Xp, ↓Xq, ↓Xr, ↓Xs, ↓Xt, ↓Xu, ↓Xv, ↓Xw, ↓Xx, ↓Xy, gx0, gx1, gx2, gx3, ife_e, ife_n, ife_r, Xz, ife_ne', XA, XB, XC, XD, decide_true, decide_false, Bool.not_true, Bool.not_false]
  generalize hy : and255 _ = y0
  have hy0 := hy ▸ and255_in
  by_cases hlt : (nx : Int) < B.length
  · have hlt' : nx < B.length := by omega
    simp only [hlt, ↓Xa, ↓Xb, ↓Xc, ↓Xd, ↓Xe, ↓Xf, ↓Xg, ↓Xh, ↓Xi, ↓Xj, ↓Xk, ↓Xl, ↓Xm, ↓Xn, ↓Xo, ↓Xp, ↓Xq, ↓Xr, ↓Xs, ↓Xt, ↓Xu, ↓Xv, ↓Xw, ↓Xx, ↓Xy, gx0, gx1, gx2, gx3, ife_e, ife_n, ife_r, Xz, ife_ne', XA, XB, XC, XD, decide_true, decide_false, Bool.not_true, Bool.not_false, ↓XH, ↓XF b1, ↓XE b1, ↓wr_f1 b1, ↓wr_f0 b1, ↓wr_ix hB1 hlt', ↓wr_ldB hB1 hlt', u8_in, ↓wr_addw, ↓wr_and255]
    generalize hz : and255 _ = z0
    have hz0 := hz ▸ and255_in
    have hnx : IntKind.i64.wrap ((nx : Int) + 1) = ((nx + 1 : Nat) : Int) := by
      rw [wrap_in (by unfold In64; omega)]; rfl
    rw [hnx]
    refine W.fst f1.wf b1 (by simp) rfl fun H2 f2 b2 => ?_
    simp only [↓wr_rx, ↓Xa, ↓Xb, ↓Xc, ↓Xd, ↓Xe, ↓Xf, ↓Xg, ↓Xh, ↓Xi, ↓Xj, ↓Xk, ↓Xl, ↓Xm, ↓Xn, ↓Xo, ↓Xp, ↓Xq, ↓Xr, ↓Xs, ↓Xt, ↓Xu, ↓Xv, ↓Xw, ↓Xx, ↓Xy, gx0, gx1, gx2, gx3, ife_e, ife_n, ife_r, Xz, ife_ne', XA, XB, XC, XD, decide_true, decide_false, Bool.not_true, Bool.not_false]
    exact W.ret (k _ _ (f1.bk f2) ⟨bs, nx + 1, st', B, b2, hB1.bkB f2 (by decide), hlt'⟩ hz0)
  · simp only [hlt, ↓Xa, ↓Xb, ↓Xc, ↓Xd, ↓Xe, ↓Xf, ↓Xg, ↓Xh, ↓Xi, ↓Xj, ↓Xk, ↓Xl, ↓Xm, ↓Xn, ↓Xo, ↓Xp, ↓Xq, ↓Xr, ↓Xs, ↓Xt, ↓Xu, ↓Xv, ↓Xw, ↓Xx, ↓Xy, gx0, gx1, gx2, gx3, ife_e, ife_n, ife_r, Xz, ife_ne', XA, XB, XC, XD, decide_true, decide_false, Bool.not_true, Bool.not_false, ↓wr_rx]
    exact W.ret (k _ _ f1 ⟨bs, nx, st', B, b1, hB1, hn⟩ hy0)
def Rg (n r : Int) : Prop := 0 ≤ r ∧ (0 < n → r < n) ∧ (n ≤ 0 → r = 0)
theorem c_below (hp : Hp H) (h : Src P H x) (k : ∀ r H', Sf H H' → Src P H' x → Rg n r → Q (i64 r) H') : W (s_sp_below x (i64 n)) H Q := by
  unfold s_sp_below
  simp only [↓Xa, ↓Xb, ↓Xc, ↓Xd, ↓Xe, ↓Xf, ↓Xg, ↓Xh, ↓Xi, ↓Xj, ↓Xk, ↓Xl, ↓Xm, ↓Xn, ↓Xo, ↓Xp, ↓Xq, ↓Xr, ↓Xs, ↓Xt, ↓Xu, ↓Xv, ↓Xw, ↓Xx, ↓Xy, gx0, gx1, gx2, gx3, ife_e, ife_n, ife_r, Xz, ife_ne', XA, XB, XC, XD, decide_true, decide_false, Bool.not_true, Bool.not_false]
  by_cases h0 : n ≤ 0
  · simp only [h0, ↓Xa, ↓Xb, ↓Xc, ↓Xd, ↓Xe, ↓Xf, ↓Xg, ↓Xh, ↓Xi, ↓Xj, ↓Xk, ↓Xl, ↓Xm, ↓Xn, ↓Xo, ↓Xp, ↓Xq, ↓Xr, ↓Xs, ↓Xt, ↓Xu, ↓Xv, ↓Xw, ↓Xx, ↓Xy, gx0, gx1, gx2, gx3, ife_e, ife_n, ife_r, Xz, ife_ne', XA, XB, XC, XD, decide_true, decide_false, Bool.not_true, Bool.not_false]
    exact W.ret (k 0 H (Sf.refl hp) h ⟨Int.le_refl _, fun h => by omega, fun _ => rfl⟩)
  · simp only [h0, ↓Xa, ↓Xb, ↓Xc, ↓Xd, ↓Xe, ↓Xf, ↓Xg, ↓Xh, ↓Xi, ↓Xj, ↓Xk, ↓Xl, ↓Xm, ↓Xn, ↓Xo, ↓Xp, ↓Xq, ↓Xr, ↓Xs, ↓Xt, ↓Xu, ↓Xv, ↓Xw, ↓Xx, ↓Xy, gx0, gx1, gx2, gx3, ife_e, ife_n, ife_r, Xz, ife_ne', XA, XB, XC, XD, decide_true, decide_false, Bool.not_true, Bool.not_false]
    have hr : ∀ a : Int, 0 ≤ a → Rg n (a.tmod n) := fun a ha => ⟨Int.tmod_nonneg _ ha, fun _ => Int.tmod_lt_of_pos _ (by omega), fun h => absurd h h0⟩
    by_cases h1 : n ≤ 256
    · simp only [h1, ↓Xa, ↓Xb, ↓Xc, ↓Xd, ↓Xe, ↓Xf, ↓Xg, ↓Xh, ↓Xi, ↓Xj, ↓Xk, ↓Xl, ↓Xm, ↓Xn, ↓Xo, ↓Xp, ↓Xq, ↓Xr, ↓Xs, ↓Xt, ↓Xu, ↓Xv, ↓Xw, ↓Xx, ↓Xy, gx0, gx1, gx2, gx3, ife_e, ife_n, ife_r, Xz, ife_ne', XA, XB, XC, XD, decide_true, decide_false, Bool.not_true, Bool.not_false]
      refine W.bnd (c_nextByte hp h fun a H1 f1 h ha => ?_)
      rw [wr_rem (by omega)]
      exact W.ret (k _ _ f1 h (hr a ha.1))
    · simp only [h1, ↓Xa, ↓Xb, ↓Xc, ↓Xd, ↓Xe, ↓Xf, ↓Xg, ↓Xh, ↓Xi, ↓Xj, ↓Xk, ↓Xl, ↓Xm, ↓Xn, ↓Xo, ↓Xp, ↓Xq, ↓Xr, ↓Xs, ↓Xt, ↓Xu, ↓Xv, ↓Xw, ↓Xx, ↓Xy, gx0, gx1, gx2, gx3, ife_e, ife_n, ife_r, Xz, ife_ne', XA, XB, XC, XD, decide_true, decide_false, Bool.not_true, Bool.not_false]
      refine W.bnd (c_nextByte hp h fun a H1 f1 h ha => ?_)
      refine W.bnd (c_nextByte f1.wf h fun b H2 f2 h hb => ?_)
      refine W.bnd (c_nextByte f2.wf h fun c H3 f3 h hc => ?_)
      refine W.bnd (c_nextByte f3.wf h fun d H4 f4 h hd => ?_)
      rw [wr_mul (by unfold In64; omega), wr_mul (by unfold In64; omega), wr_add (by unfold In64; omega), wr_mul (by unfold In64; omega), wr_add (by unfold In64; omega), wr_add (by unfold In64; omega), wr_rem (by omega)]
      exact W.ret (k _ _ (((Sf.tr f1 f2).tr f3).tr f4) h (hr _ (by omega)))
theorem c_oneIn (hp : Hp H) (h : Src P H x) (k : ∀ b H', Sf H H' → Src P H' x → Q (.bool b) H') : W (s_sp_oneIn x (i64 n)) H Q := by
  unfold s_sp_oneIn
  refine W.bnd (c_below hp h fun r H1 f1 h _ => ?_)
  simp only [↓Xa, ↓Xb, ↓Xc, ↓Xd, ↓Xe, ↓Xf, ↓Xg, ↓Xh, ↓Xi, ↓Xj, ↓Xk, ↓Xl, ↓Xm, ↓Xn, ↓Xo, ↓Xp, ↓Xq, ↓Xr, ↓Xs, ↓Xt, ↓Xu, ↓Xv, ↓Xw, ↓Xx, ↓Xy, gx0, gx1, gx2, gx3, ife_e, ife_n, ife_r, Xz, ife_ne', XA, XB, XC, XD, decide_true, decide_false, Bool.not_true, Bool.not_false]
  exact W.ret (k _ _ f1 h)
theorem c_between {lo hi : Int} (hp : Hp H) (h : Src P H x) (h1 : -1000000000000 ≤ lo ∧ lo ≤ hi ∧ hi ≤ 1000000000000) (k : ∀ r H', Sf H H' → Src P H' x → lo ≤ r ∧ r ≤ hi → Q (i64 r) H') : W (s_sp_between x (i64 lo) (i64 hi)) H Q := by
  unfold s_sp_between
  rw [wr_sub (by unfold In64; omega), wr_add (by unfold In64; omega)]
  refine W.bnd (c_below hp h fun r H1 f1 h hr => ?_)
  obtain ⟨r1, r2, _⟩ := hr
  have := r2 (by omega)
  rw [wr_add (by unfold In64; omega)]
  exact W.ret (k _ _ f1 h ⟨by omega, by omega⟩)
/-- A literal of numbers. -/
theorem W.lits {Q : β → AHeap → Prop} {N : Nat} (hp : Hp H) (L : List Int) (hl : L.length = N) (hb : N ≤ 1000) (k : ∀ x H', Le H H' → Ints .own (Nw H) H' x L → W (f x) H' Q) : W (Am.bnd (allocS none t_int64 1 N (L.map fun n => i64 n)) f) H Q :=
  W.mkseq (R := RI) hp L (by omega) (by simp) (by omega) (fun H' _ i hi => ⟨i64 L[i], by simp [hi], rfl, rfl⟩) k
theorem c_extremeInt (hp : Hp H) (h : Src P H x) (k : ∀ r H', Sf H H' → Src P H' x → In64 r → Q (i64 r) H') : W (s_sp_extremeInt x) H Q := by
  unfold s_sp_extremeInt
  simp only [↓XH, ↓wr_c1i, ↓Xa]
  refine W.lits (N := 10) hp [-1, 0, 1, 2147483648, -2147483648, 1099511627776, 4611686018427387904, -4611686018427387904, 9223372036854775807, -9223372036854775808] rfl (by decide) fun z H1 l1 hz => ?_
  refine W.bnd (c_below l1.wf (h.le l1) fun r H2 f2 h hr => ?_)
  obtain ⟨a, rfl⟩ : ∃ a : Nat, r = (a : Int) := ⟨r.toNat, by have := hr.1; omega⟩
  have ha : a < 10 := by have := hr.2.1 (by decide); omega
  have hz := hz.bkI f2 (by decide)
  simp only [↓wr_ix hz ha, ↓wr_ldI hz ha]
  refine W.ret (k _ _ ((Sf.of l1).tr f2) h ?_)
  have hall : ∀ y ∈ ([-1, 0, 1, 2147483648, -2147483648, 1099511627776, 4611686018427387904, -4611686018427387904, 9223372036854775807, -9223372036854775808] : List Int), In64 y := by unfold In64; decide
  exact hall _ (List.getElem_mem ha)
theorem c_numberUpTo (hp : Hp H) (h : Src P H x) (hn : -1 ≤ n ∧ n ≤ 1000000) (k : ∀ r H', Sf H H' → Src P H' x → In64 r → Q (i64 r) H') : W (s_sp_numberUpTo x (i64 n)) H Q := by
  unfold s_sp_numberUpTo
  refine W.bnd (c_oneIn hp h fun b H1 f1 h => ?_)
  cases b with
  | true =>
    simp only [↓Xa, ↓Xb, ↓Xc, ↓Xd, ↓Xe, ↓Xf, ↓Xg, ↓Xh, ↓Xi, ↓Xj, ↓Xk, ↓Xl, ↓Xm, ↓Xn, ↓Xo, ↓Xp, ↓Xq, ↓Xr, ↓Xs, ↓Xt, ↓Xu, ↓Xv, ↓Xw, ↓Xx, ↓Xy, gx0, gx1, gx2, gx3, ife_e, ife_n, ife_r, Xz, ife_ne', XA, XB, XC, XD, decide_true, decide_false, Bool.not_true, Bool.not_false, ↓wr_addw]
    refine W.bnd (c_extremeInt f1.wf h fun r H2 f2 h hr64 => ?_)
    simp only [↓XH, ↓wr_c1i, ↓Xa]
    refine W.lits (N := 4) f2.wf [-1, n, IntKind.i64.wrap (n + 1), r] rfl (by decide) fun z H3 l3 hz => ?_
    refine W.bnd (c_below l3.wf (h.le l3) fun r H4 f4 h hr => ?_)
    obtain ⟨a, rfl⟩ : ∃ a : Nat, r = (a : Int) := ⟨r.toNat, by have := hr.1; omega⟩
    have ha : a < 4 := by have := hr.2.1 (by decide); omega
    have hz := hz.bkI f4 (by decide)
    simp only [↓wr_ix hz ha, ↓wr_ldI hz ha]
    refine W.ret (k _ _ (((Sf.tr f1 f2).le l3).tr f4) h ?_)
    have hall : ∀ y ∈ [-1, n, IntKind.i64.wrap (n + 1), r], In64 y := by
      intro y hy
      simp only [List.mem_cons, List.mem_nil_iff, or_false] at hy
      have hw : IntKind.i64.wrap (n + 1) = n + 1 := wrap_in (by unfold In64; omega)
      rw [hw] at hy
      rcases hy with rfl | rfl | rfl | rfl
      · unfold In64; decide
      · unfold In64; omega
      · unfold In64; omega
      · exact hr64
    exact hall _ (List.getElem_mem ha)
  | false =>
    simp only [↓Xa, ↓Xb, ↓Xc, ↓Xd, ↓Xe, ↓Xf, ↓Xg, ↓Xh, ↓Xi, ↓Xj, ↓Xk, ↓Xl, ↓Xm, ↓Xn, ↓Xo, ↓Xp, ↓Xq, ↓Xr, ↓Xs, ↓Xt, ↓Xu, ↓Xv, ↓Xw, ↓Xx, ↓Xy, gx0, gx1, gx2, gx3, ife_e, ife_n, ife_r, Xz, ife_ne', XA, XB, XC, XD, decide_true, decide_false, Bool.not_true, Bool.not_false]
    refine W.bnd (c_oneIn f1.wf h fun b H2 f2 h => ?_)
    cases b with
    | true =>
      simp only [↓Xa, ↓Xb, ↓Xc, ↓Xd, ↓Xe, ↓Xf, ↓Xg, ↓Xh, ↓Xi, ↓Xj, ↓Xk, ↓Xl, ↓Xm, ↓Xn, ↓Xo, ↓Xp, ↓Xq, ↓Xr, ↓Xs, ↓Xt, ↓Xu, ↓Xv, ↓Xw, ↓Xx, ↓Xy, gx0, gx1, gx2, gx3, ife_e, ife_n, ife_r, Xz, ife_ne', XA, XB, XC, XD, decide_true, decide_false, Bool.not_true, Bool.not_false, ↓wr_min]
      rw [wr_add (by unfold In64; omega)]
      exact W.bnd (c_below f2.wf h fun r H3 f3 h hr => W.ret (k _ _ ((Sf.tr f1 f2).tr f3) h (by have := hr.1; have := hr.2.1; have := hr.2.2; unfold In64; omega)))
    | false =>
      simp only [↓Xa, ↓Xb, ↓Xc, ↓Xd, ↓Xe, ↓Xf, ↓Xg, ↓Xh, ↓Xi, ↓Xj, ↓Xk, ↓Xl, ↓Xm, ↓Xn, ↓Xo, ↓Xp, ↓Xq, ↓Xr, ↓Xs, ↓Xt, ↓Xu, ↓Xv, ↓Xw, ↓Xx, ↓Xy, gx0, gx1, gx2, gx3, ife_e, ife_n, ife_r, Xz, ife_ne', XA, XB, XC, XD, decide_true, decide_false, Bool.not_true, Bool.not_false]
      rw [wr_add (by unfold In64; omega)]
      exact W.bnd (c_below f2.wf h fun r H3 f3 h hr => W.ret (k _ _ ((Sf.tr f1 f2).tr f3) h (by have := hr.1; have := hr.2.1; have := hr.2.2; unfold In64; omega)))
/-- A block that stood there before the changed ones. -/
theorem Seq.oldI {N : Nat} {e' : TypeId} (h : Seq RI m P e H v A) (hf : Fr (Bk (N ≤ ·) e' H) H H') (hP : ∀ id, P id → id < N) : Seq RI m P e H' v A := h.frI hf fun id c fz _ hp _ hb => absurd hb.1 (by have := hP id hp; omega)
theorem bnds_lo {N i : Nat} {k : IntKind} (h : i ≤ N) : bnds N (some (.int k (i : Int))) none = some (i, N) := by simp [bnds, bndOf, h]
theorem c_drawPermutation (hp : Hp H) (h : Src P H x) (hn : n ≤ 1000) (k : ∀ r H' A, Sf H H' → Src P H' x → Ints .own (Nw H) H' r A → (A.length : Int) = max 0 n → Q r H') : W (s_sp_drawPermutation x (i64 n)) H Q := by
  unfold s_sp_drawPermutation
  refine W.emp (R := RI) hp fun z H1 l1 hz => ?_
  refine W.lq (fun q st Hk => Sf H Hk ∧ Src P Hk x ∧ ∃ (i : Nat) (z : AVal) (A : List Int), q = n.toNat - i ∧ i ≤ n.toNat ∧ st = [z, i64 (i : Int)] ∧ Ints .own (Nw H) Hk z A ∧ A.length = i)
    (fun rr Hk => Sf H Hk ∧ Src P Hk x ∧ ∃ (z : AVal) (A : List Int), rr = (.exit 0, [z]) ∧ Ints .own (Nw H) Hk z A ∧ A.length = n.toNat) n.toNat
    ⟨Sf.of l1, h.le l1, 0, z, [], rfl, Nat.zero_le _, rfl, hz, rfl⟩ ?_ ?_
  · rintro q st Hk ⟨fk, h, i, z, A, rfl, hi, rfl, hz, hA⟩ Q' kn kx
    by_cases hlt : (i : Int) < n
    · simp only [hlt, ↓Xa, ↓Xb, ↓Xc, ↓Xd, ↓Xe, ↓Xf, ↓Xg, ↓Xh, ↓Xi, ↓Xj, ↓Xk, ↓Xl, ↓Xm, ↓Xn, ↓Xo, ↓Xp, ↓Xq, ↓Xr, ↓Xs, ↓Xt, ↓Xu, ↓Xv, ↓Xw, ↓Xx, ↓Xy, gx0, gx1, gx2, gx3, ife_e, ife_n, ife_r, Xz, ife_ne', XA, XB, XC, XD, decide_true, decide_false, Bool.not_true, Bool.not_false]
      rw [wr_inc (by omega)]
      refine W.bnd (c_below fk.wf h fun a H2 f2 h ha => ?_)
      obtain ⟨a, rfl⟩ : ∃ b : Nat, a = (b : Int) := ⟨a.toNat, by have := ha.1; omega⟩
      have hai : a ≤ A.length := by have := ha.2.1 (by omega); omega
      refine W.reserve f2.wf fun H3 l3 fre => ?_
      have fr5 := fre 5 (by decide)
      have h := h.le l3
      have fk3 := (Sf.tr fk f2).le l3
      have hz := ((hz.bkI f2 (by decide)).leI l3).mono (P' := (· < H3.next)) fun id hid _ => hid
      obtain ⟨w, hw, hws⟩ := hz.ro.sl (bnds_hi (k := .i64) hai) (by simp) ⟨Nat.zero_le _, hai⟩
      simp only [↓wr_p hw]
      refine W.bnd (c_copyInts fk3.wf hws fun y H4 l4 hy => ?_)
      have fr5 := fr5.le l4
      have n54 : H.next ≤ H2.next + 5 := Nat.le_trans fk.nx (Nat.le_trans f2.nx (Nat.le_add_right _ _))
      refine W.lit1S (R := RI) (a := (i : Int)) (e := t_int64) l4.wf fr5 rfl (fun _ _ => rfl) fun y2 H5 f5 hy2 => ?_
      have fk5 := ((fk3.le l4).nw f5 fun id hid hS => absurd hS.1 (by omega))
      have hy := hy.nkI f5
      have hz := (hz.leI l4).nkI f5
      refine W.app (P := Nw H3) f5.wf hy hy2 (by decide) (by simp; have := hz.bd; omega) (fun id hid => Nat.le_trans l4.nx (Nat.le_trans f5.nx hid)) (fun _ _ _ _ h => h) fun y3 H6 f6 hy3 => ?_
      have hz := hz.oldI f6 fun id h => h
      have fk6 := fk5.nw f6 fun id hid hS => absurd hS.1 (by have : H.next ≤ H3.next := fk3.nx; show ¬H3.next ≤ id; omega)
      obtain ⟨w2, hw2, hws2⟩ := hz.ro.sl (bnds_lo (k := .i64) hai) (by simp) ⟨hai, Nat.le_refl _⟩
      simp only [↓wr_p hw2]
      have hbz := hz.bd
      refine W.app (P := Nw H3) f6.wf hy3 hws2 (by decide) (by simp; omega) (fun id hid => Nat.le_trans l4.nx (Nat.le_trans f5.nx (Nat.le_trans f6.nx hid))) (fun _ _ _ _ h => h) fun y4 H7 f7 hy4 => ?_
      have fk7 := fk6.nw f7 fun id hid hS => absurd hS.1 (by have : H.next ≤ H3.next := fk3.nx; show ¬H3.next ≤ id; omega)
      rw [wr_inc (by omega)]
      refine W.ret (kn (n.toNat - (i + 1)) _ _ (by omega) ⟨fk7, ((((h.le l4).nk f5).bk f6 (by decide) (by decide)).bk f7 (by decide) (by decide)), i + 1, y4, _, rfl, by omega, rfl, hy4.mono fun id _ hid => Nat.le_trans fk3.nx hid, ?_⟩)
      simp; omega
    · simp only [hlt, ↓Xa, ↓Xb, ↓Xc, ↓Xd, ↓Xe, ↓Xf, ↓Xg, ↓Xh, ↓Xi, ↓Xj, ↓Xk, ↓Xl, ↓Xm, ↓Xn, ↓Xo, ↓Xp, ↓Xq, ↓Xr, ↓Xs, ↓Xt, ↓Xu, ↓Xv, ↓Xw, ↓Xx, ↓Xy, gx0, gx1, gx2, gx3, ife_e, ife_n, ife_r, Xz, ife_ne', XA, XB, XC, XD, decide_true, decide_false, Bool.not_true, Bool.not_false]
      exact W.ret (kx _ _ _ (by simp) ⟨fk, h, z, A, rfl, hz, by omega⟩)
  · rintro rr Hk ⟨fk, h, z, A, rfl, hz, hA⟩
    simp only [↓Xa, ↓Xb, ↓Xc, ↓Xd, ↓Xe, ↓Xf, ↓Xg, ↓Xh, ↓Xi, ↓Xj, ↓Xk, ↓Xl, ↓Xm, ↓Xn, ↓Xo, ↓Xp, ↓Xq, ↓Xr, ↓Xs, ↓Xt, ↓Xu, ↓Xv, ↓Xw, ↓Xx, ↓Xy, gx0, gx1, gx2, gx3, ife_e, ife_n, ife_r, Xz, ife_ne', XA, XB, XC, XD, decide_true, decide_false, Bool.not_true, Bool.not_false]
    exact W.ret (k _ _ A fk h hz (by omega))
end
end Go.Am

end

section
set_option linter.unusedSimpArgs false
set_option linter.unusedVariables false
/- Contracts of the draws: any permutation, a puzzle. -/
namespace Go.Am
section
variable {β X : Type} {f : AVal → AM β} {Q : AVal → AHeap → Prop} {R : AHeap → AVal → X → Prop} {m m2 : Md} {P P2 P3 P4 P5 P' S T : Nat → Prop} {e e2 : TypeId} {H H0 H1 H2 H' : AHeap} {v u x y : AVal} {A B C s D r : List Int} {L LL : List (List Int)} {p : Puz} {cs : List AVal} {t : Tbl} {id : Nat} {n : Int}
theorem Sf.nx (h : Sf H H') : H.next ≤ H'.next := Fr.nx h
/-- What was made, and then changed, since H. -/
theorem Sf.own (h : Sf H H1) (h' : Fr T H1 H2) (hs : ∀ id, T id → H.next ≤ id) : Sf H H2 := Fr.nw h h' fun id hi hT => absurd (hs id hT) (by omega)
theorem bk_nw (h : Sf H H1) {H0 : AHeap} : ∀ id, Bk (Nw H) e H0 id → H.next ≤ id := fun id h => h.1
theorem bnd_as {γ δ : Type} {m : AM γ} {g : γ → AM δ} {h : δ → AM β} : bnd (bnd m g) h = bnd m fun a => bnd (g a) h := by
  funext H; simp only [bnd]
  cases m H with
  | none => rfl
  | some r => rfl
theorem wr_c1 {Q : β → AHeap → Prop} (hu : u.isCell = true) : W (bnd (cell1 u) f) H Q ↔ W (f u) H Q := wr_p (cell1_of hu)
theorem wr_c1s {Q : β → AHeap → Prop} {s : List UInt8} : W (bnd (cell1 (.str s)) f) H Q ↔ W (f (.str s)) H Q := wr_p rfl
theorem W.app1f {Q : β → AHeap → Prop} {L : List X} {w : X} {bytes : Nat} (hp : Hp H) (h : Seq R .own P e H v L) (hs : Stb P e R) (hu : u.isCell = true) (hb : bytes ≤ 4096) (hlen : L.length + 1 ≤ 1073741824) (hup : ∀ id, H.next ≤ id → P id)
    (hw : R H u w)
    (k : ∀ y H', Fr (Bk P e H) H H' → Seq R .own P e H' y (L ++ [w]) → W (f y) H' Q) :
    W (Am.bnd (allocS none e 1 1 [u]) fun z => Am.bnd (appS e 1 bytes v z) f) H Q := by
  refine W.mkseq (R := R) hp [w] rfl rfl (by simp) (fun H' l i hi => by
    have : i = 0 := by simp at hi; exact hi
    subst this; exact ⟨u, rfl, hu, hs l.bk hw⟩) fun z H1 l1 h1 => ?_
  exact W.app l1.wf (h.fr l1 (fun _ _ _ _ _ _ h => h) fun v x hx => hs l1.bk hx) h1 hb (by simpa using hlen) (fun id hi => hup id (Nat.le_trans l1.nx hi)) (fun H' f v x hx => hs f hx) fun y H2 f2 h2 => k y H2 (l1.bk.bk f2) h2
theorem W.lit1f {Q : β → AHeap → Prop} (hp : Hp H) {a : X} (hu : u.isCell = true) (hR : ∀ H', Le H H' → R H' u a) (k : ∀ x H', Le H H' → Seq R .own (Nw H) e H' x [a] → W (f x) H' Q) :
    W (Am.bnd (allocS none e 1 1 [u]) f) H Q :=
  W.mkseq (R := R) hp [a] rfl rfl (by simp) (fun H' hl i hi => by
    have : i = 0 := by simp at hi; exact hi
    subst this; exact ⟨u, rfl, hu, hR H' hl⟩) k
theorem W.lit1Sf {Q : β → AHeap → Prop} (hp : Hp H) (h : Free H id) {a : X} (hu : u.isCell = true) (hR : ∀ H', Fr (Nk id H) H H' → R H' u a) (k : ∀ x H', Fr (Nk id H) H H' → Seq R .own (· = id) e H' x [a] → W (f x) H' Q) :
    W (Am.bnd (allocS (some id) e 1 1 [u]) f) H Q := by
  refine W.e (a := .slice id 0 1 1) (H' := H.set id (.cells [u] e 0)) ?_ (k _ _ (set_free hp h _) ?_)
  · simp only [allocS, Am.bnd, Am.ret, newB_some h]
  · exact .mk id 0 0 [u] [a] rfl h.1 get_set (by simp) (by simp [maxLenA]) ⟨Nat.le_refl _, rfl⟩ fun i hi => by
      have : i = 0 := by simp at hi; exact hi
      subst this; exact ⟨u, rfl, hu, hR _ (set_free hp h _)⟩
theorem c_drawAnyPermutation (hp : Hp H) (h : Src P H x) (hn : n ≤ 1000) (k : ∀ r H' A, Sf H H' → Src P H' x → Ints .own (Nw H) H' r A ∨ Ints .ro (Nw H) H' r A → Q r H') : W (s_sp_drawAnyPermutation x (i64 n)) H Q := by
  unfold s_sp_drawAnyPermutation
  refine W.bnd (c_drawPermutation hp h hn fun z H1 A f1 h hz hA => ?_)
  have rest : ∀ (H2 : AHeap) (z : AVal) (A : List Int), Sf H H2 → Src P H2 x → Ints .ro (Nw H) H2 z A → W (bnd (s_sp_oneIn x (.int .i64 60)) fun x21 =>
 bnd (br x21 (bnd (s_sp_below x (.int .i64 2)) fun x22 =>
 bnd (abin .add (.int .i64 20) x22) fun x23 =>
 bnd (s_sp_drawPermutation x x23) fun x24 =>
 rx .normal [x24]) (rx .normal [z])) fun r25 =>
 ife r25.1 .normal (ret (gx r25.2 0)) (fail)) H2 Q := by
    intro H2 z A f2 h hz
    refine W.bnd (c_oneIn f2.wf h fun b H3 f3 h => ?_)
    have hz := hz.bkI f3 (by decide)
    have f23 := Sf.tr f2 f3
    cases b with
    | true =>
      simp only [↓Xk, ↓XH]
      refine W.bnd (c_below f3.wf h fun a H4 f4 h ha => ?_)
      have := ha.1
      have := ha.2.1 (by decide)
      simp only [↓XH]
      rw [wr_add (by unfold In64; omega)]
      simp only [↓XH]
      refine W.bnd (c_drawPermutation f4.wf h (by omega) fun w H5 B f5 h hw hB => ?_)
      simp only [↓wr_rx, ↓Xa, ↓Xb, ↓Xc, ↓Xd, ↓Xe, ↓Xf, ↓Xg, ↓Xh, ↓Xi, ↓Xj, ↓Xk, ↓Xl, ↓Xm, ↓Xn, ↓Xo, ↓Xp, ↓Xq, ↓Xr, ↓Xs, ↓Xt, ↓Xu, ↓Xv, ↓Xw, ↓Xx, ↓Xy, gx0, gx1, gx2, gx3, ife_e, ife_n, ife_r, Xz, ife_ne', XA, XB, XC, XD, decide_true, decide_false, Bool.not_true, Bool.not_false]
      exact W.ret (k _ _ B ((f23.tr f4).tr f5) h (.inl (hw.mono fun id _ hid => Nat.le_trans (f23.tr f4).nx hid)))
    | false =>
      simp only [↓Xa, ↓Xb, ↓Xc, ↓Xd, ↓Xe, ↓Xf, ↓Xg, ↓Xh, ↓Xi, ↓Xj, ↓Xk, ↓Xl, ↓Xm, ↓Xn, ↓Xo, ↓Xp, ↓Xq, ↓Xr, ↓Xs, ↓Xt, ↓Xu, ↓Xv, ↓Xw, ↓Xx, ↓Xy, gx0, gx1, gx2, gx3, ife_e, ife_n, ife_r, Xz, ife_ne', XA, XB, XC, XD, decide_true, decide_false, Bool.not_true, Bool.not_false, ↓wr_rx]
      exact W.ret (k _ _ A f23 h (.inr hz))
  refine W.bnd (c_oneIn f1.wf h fun b H2 f2 h => ?_)
  have f12 := Sf.tr f1 f2
  have hz := hz.bkI f2 (by decide)
  by_cases hb : b = true ∧ 0 < n
  case neg =>
    cases b with
    | false =>
      simp only [↓Xa, ↓Xb, ↓Xc, ↓Xd, ↓Xe, ↓Xf, ↓Xg, ↓Xh, ↓Xi, ↓Xj, ↓Xk, ↓Xl, ↓Xm, ↓Xn, ↓Xo, ↓Xp, ↓Xq, ↓Xr, ↓Xs, ↓Xt, ↓Xu, ↓Xv, ↓Xw, ↓Xx, ↓Xy, gx0, gx1, gx2, gx3, ife_e, ife_n, ife_r, Xz, ife_ne', XA, XB, XC, XD, decide_true, decide_false, Bool.not_true, Bool.not_false, ↓wr_rx]
      exact rest _ _ _ f12 h hz.ro
    | true =>
      have : ¬0 < n := fun h => hb ⟨rfl, h⟩
      simp only [↓Xa, ↓Xb, ↓Xc, ↓Xd, ↓Xe, ↓Xf, ↓Xg, ↓Xh, ↓Xi, ↓Xj, ↓Xk, ↓Xl, ↓Xm, ↓Xn, ↓Xo, ↓Xp, ↓Xq, ↓Xr, ↓Xs, ↓Xt, ↓Xu, ↓Xv, ↓Xw, ↓Xx, ↓Xy, gx0, gx1, gx2, gx3, ife_e, ife_n, ife_r, Xz, ife_ne', XA, XB, XC, XD, decide_true, decide_false, Bool.not_true, Bool.not_false, this, ↓wr_rx]
      exact rest _ _ _ f12 h hz.ro
  obtain ⟨rfl, hn0⟩ := hb
  simp only [↓Xa, ↓Xb, ↓Xc, ↓Xd, ↓Xe, ↓Xf, ↓Xg, ↓Xh, ↓Xi, ↓Xj, ↓Xk, ↓Xl, ↓Xm, ↓Xn, ↓Xo, ↓Xp, ↓Xq, ↓Xr, ↓Xs, ↓Xt, ↓Xu, ↓Xv, ↓Xw, ↓Xx, ↓Xy, gx0, gx1, gx2, gx3, ife_e, ife_n, ife_r, Xz, ife_ne', XA, XB, XC, XD, decide_true, decide_false, Bool.not_true, Bool.not_false, hn0, ↓XH]
  refine W.bnd (c_below f2.wf h fun a H3 f3 h ha => ?_)
  have f13 := f12.tr f3
  have hz := hz.bkI f3 (by decide)
  simp only [↓XH, ↓Xq]
  by_cases h0 : a = 0
  · subst h0
    simp only [↓Xa, ↓Xb, ↓Xc, ↓Xd, ↓Xe, ↓Xf, ↓Xg, ↓Xh, ↓Xi, ↓Xj, ↓Xk, ↓Xl, ↓Xm, ↓Xn, ↓Xo, ↓Xp, ↓Xq, ↓Xr, ↓Xs, ↓Xt, ↓Xu, ↓Xv, ↓Xw, ↓Xx, ↓Xy, gx0, gx1, gx2, gx3, ife_e, ife_n, ife_r, Xz, ife_ne', XA, XB, XC, XD, decide_true, decide_false, Bool.not_true, Bool.not_false, ↓XH]
    refine W.bnd (c_below f3.wf h fun i H4 f4 h hi => ?_)
    obtain ⟨i, rfl⟩ : ∃ b : Nat, i = (b : Int) := ⟨i.toNat, by have := hi.1; omega⟩
    have hiA : i < A.length := by have := hi.2.1 hn0; omega
    simp only [↓XH]
    refine W.bnd (c_numberUpTo f4.wf h (by omega) fun w H5 f5 h _ => ?_)
    have hz := (hz.bkI f4 (by decide)).bkI f5 (by decide)
    have f15 := (f13.tr f4).tr f5
    simp only [↓XH, ↓wr_ix hz hiA]
    refine W.st (a := w) f15.wf hz (by simp) hiA rfl (fun _ _ _ _ h => h) rfl fun H6 f6 hz => ?_
    simp only [↓wr_rx, ↓Xa, ↓Xb, ↓Xc, ↓Xd, ↓Xe, ↓Xf, ↓Xg, ↓Xh, ↓Xi, ↓Xj, ↓Xk, ↓Xl, ↓Xm, ↓Xn, ↓Xo, ↓Xp, ↓Xq, ↓Xr, ↓Xs, ↓Xt, ↓Xu, ↓Xv, ↓Xw, ↓Xx, ↓Xy, gx0, gx1, gx2, gx3, ife_e, ife_n, ife_r, Xz, ife_ne', XA, XB, XC, XD, decide_true, decide_false, Bool.not_true, Bool.not_false]
    exact rest _ _ _ (f15.own f6 fun id h => h.1) (h.bk f6 (by decide) (by decide)) hz.ro
  · by_cases h1 : a = 1
    · subst h1
      have hA1 : 1 ≤ A.length := by omega
      obtain ⟨w2, hw2, hws2⟩ := hz.ro.sl (bnds_lo (k := .i64) hA1) (by simp) ⟨hA1, Nat.le_refl _⟩
      simp only [↓Xa, ↓Xb, ↓Xc, ↓Xd, ↓Xe, ↓Xf, ↓Xg, ↓Xh, ↓Xi, ↓Xj, ↓Xk, ↓Xl, ↓Xm, ↓Xn, ↓Xo, ↓Xp, ↓Xq, ↓Xr, ↓Xs, ↓Xt, ↓Xu, ↓Xv, ↓Xw, ↓Xx, ↓Xy, gx0, gx1, gx2, gx3, ife_e, ife_n, ife_r, Xz, ife_ne', XA, XB, XC, XD, decide_true, decide_false, Bool.not_true, Bool.not_false, h0, ↓XH, ↓wr_rx]
      have hw2' : slS 1 z (some (AVal.int .i64 1)) none = ret w2 := hw2
      simp only [↓wr_p hw2', ↓wr_rx, ↓Xa, ↓Xb, ↓Xc, ↓Xd, ↓Xe, ↓Xf, ↓Xg, ↓Xh, ↓Xi, ↓Xj, ↓Xk, ↓Xl, ↓Xm, ↓Xn, ↓Xo, ↓Xp, ↓Xq, ↓Xr, ↓Xs, ↓Xt, ↓Xu, ↓Xv, ↓Xw, ↓Xx, ↓Xy, gx0, gx1, gx2, gx3, ife_e, ife_n, ife_r, Xz, ife_ne', XA, XB, XC, XD, decide_true, decide_false, Bool.not_true, Bool.not_false]
      exact rest _ _ _ f13 h hws2
    · by_cases h2 : a = 2
      · subst h2
        simp only [↓Xa, ↓Xb, ↓Xc, ↓Xd, ↓Xe, ↓Xf, ↓Xg, ↓Xh, ↓Xi, ↓Xj, ↓Xk, ↓Xl, ↓Xm, ↓Xn, ↓Xo, ↓Xp, ↓Xq, ↓Xr, ↓Xs, ↓Xt, ↓Xu, ↓Xv, ↓Xw, ↓Xx, ↓Xy, gx0, gx1, gx2, gx3, ife_e, ife_n, ife_r, Xz, ife_ne', XA, XB, XC, XD, decide_true, decide_false, Bool.not_true, Bool.not_false, h0, h1, bnd_as, ↓wr_rx, ↓wr_c1i]
        refine W.app1f (P := Nw H) f13.wf hz stb_RI rfl (by decide) (by omega) (fun id hid => Nat.le_trans f13.nx hid) rfl fun w H4 f4 hw => ?_
        simp only [↓wr_rx, ↓Xa, ↓Xb, ↓Xc, ↓Xd, ↓Xe, ↓Xf, ↓Xg, ↓Xh, ↓Xi, ↓Xj, ↓Xk, ↓Xl, ↓Xm, ↓Xn, ↓Xo, ↓Xp, ↓Xq, ↓Xr, ↓Xs, ↓Xt, ↓Xu, ↓Xv, ↓Xw, ↓Xx, ↓Xy, gx0, gx1, gx2, gx3, ife_e, ife_n, ife_r, Xz, ife_ne', XA, XB, XC, XD, decide_true, decide_false, Bool.not_true, Bool.not_false]
        exact rest _ _ _ (f13.own f4 fun id h => h.1) (h.bk f4 (by decide) (by decide)) hw.ro
      · simp only [↓Xa, ↓Xb, ↓Xc, ↓Xd, ↓Xe, ↓Xf, ↓Xg, ↓Xh, ↓Xi, ↓Xj, ↓Xk, ↓Xl, ↓Xm, ↓Xn, ↓Xo, ↓Xp, ↓Xq, ↓Xr, ↓Xs, ↓Xt, ↓Xu, ↓Xv, ↓Xw, ↓Xx, ↓Xy, gx0, gx1, gx2, gx3, ife_e, ife_n, ife_r, Xz, ife_ne', XA, XB, XC, XD, decide_true, decide_false, Bool.not_true, Bool.not_false, h0, h1, h2, ↓wr_rx, ↓XH]
        exact rest _ _ _ f13 h hz.ro
theorem Seq.oldL {N : Nat} {e' : TypeId} (h : Lists m P P2 H v L) (hf : Fr (Bk (N ≤ ·) e' H) H H') (hP : ∀ id, P id → id < N) (hP2 : ∀ id, P2 id → id < N) : Lists m P P2 H' v L :=
  h.fr hf (fun id c fz _ hp _ hb => absurd hb.1 (by have := hP id hp; omega)) fun _ _ h => Seq.oldI h hf hP2
theorem Bx.ap {e' : TypeId} (h : Bx P e H x cs) (hf : Fr (Bk P' e' H) H H') (hd : ∀ id, P id → ¬P' id) : Bx P e H' x cs := h.fr hf fun id c fz _ hp _ hb => hd id hp hb.1
theorem Seq.apI {e' : TypeId} (h : Seq RI m P e H v A) (hf : Fr (Bk P' e' H) H H') (hd : ∀ id, P id → ¬P' id) : Seq RI m P e H' v A := h.frI hf fun id c fz _ hp _ hb => hd id hp hb.1
theorem Bx.iv {a : Nat} (h : Bx (a ≤ ·) e H x cs) : Bx (Iv a H.next) e H x cs := h.mono fun _ hid h => ⟨h, hid⟩
theorem Bx.ivm {a b : Nat} (h : Bx (Iv a b) e H x cs) (hb : b ≤ H0.next) : Bx (Iv a H0.next) e H x cs := h.mono fun _ _ h => ⟨h.1, Nat.lt_of_lt_of_le h.2 hb⟩
theorem iv_nw {a b c : Nat} (h : b ≤ c) : ∀ id, Iv a b id → ¬(c ≤ id) := fun id h1 h2 => absurd (Nat.lt_of_lt_of_le h1.2 h) (Nat.not_lt.2 h2)
theorem nw_iv {a b c : Nat} (h : b ≤ c) : ∀ id, c ≤ id → ¬Iv a b id := fun id h1 h2 => iv_nw h id h2 h1
/-- A puzzle in a variable, made since H0. -/
def PB (H0 Hk : AHeap) (x : AVal) : Prop := ∃ pts nm ml LL, Bx (Nw H0) t_impl_Puzzle Hk x [i64 pts, .str nm, ml] ∧ Lists .own (Nw H0) (Nw H0) Hk ml LL ∧ In64 pts ∧ nm.length ≤ 3
theorem wr_slStr3 {Q : β → AHeap → Prop} {a : Nat} (ha : a ≤ 3) : W (bnd (slStr (AVal.str [65, 66, 67]) none (some (i64 (a : Int)))) f) H Q ↔ W (f (AVal.str (([65, 66, 67] : List UInt8).take a))) H Q := by
  refine wr_p ?_
  have : bnds 3 none (some (i64 (a : Int))) = some (0, a) := bnds_hi (k := .i64) ha
  show (match bnds 3 none (some (i64 (a : Int))) with | some (l, h) => ret (AVal.str ((([65, 66, 67] : List UInt8).take h).drop l)) | none => fail) = _
  rw [this]; rfl
/-- A valid puzzle that is drawn has few points. -/
def Small (p : Puz) : Prop := Valid p → p.points ≤ 5
theorem c_l24DrawPuzzle (hp : Hp H) (h : Src P H x) (k : ∀ v p H', Sf H H' → Src P H' x → PuzA (Nw H) (Nw H) H' v p → Small p → Q v H') : W (s_sp_l24DrawPuzzle x) H Q := by
  unfold s_sp_l24DrawPuzzle
  refine W.alloc hp fun x1 H1 l1 b1 => ?_
  have b1 := Bx.iv b1
  have h := h.le l1
  refine W.bnd (c_below l1.wf h fun n H2 f2 h hn => ?_)
  have fk := (Sf.of l1).tr f2
  have b1 := b1.bk f2 (by decide)
  have hn1 := hn.1
  have hn2 := hn.2.1 (by decide)
  rw [wr_add (by unfold In64; omega)]
  refine W.bnd (c_below f2.wf h fun c H3 f3 h hc => ?_)
  have fk := fk.tr f3
  have b1 := b1.bk f3 (by decide)
  have hc1 := hc.1
  have hc2 := hc.2.1 (by decide)
  rw [wr_add (by unfold In64; omega)]
  obtain ⟨a, ha⟩ : ∃ a : Nat, 1 + c = (a : Int) := ⟨(1 + c).toNat, by omega⟩
  have ha3 : a ≤ 3 := by omega
  have ha1 : 1 ≤ a := by omega
  rw [ha]
  simp only [↓wr_slStr3 ha3, bnd_as, ↓wr_c1i, ↓wr_c1s, ↓Xa]
  have hnl : (([65, 66, 67] : List UInt8).take a).length = a := by simp; omega
  generalize ([65, 66, 67] : List UInt8).take a = nm at hnl
  refine W.alloc f3.wf fun x10 H4 l4 b10 => ?_
  have h := h.le l4
  have b1 := b1.le l4
  refine W.fsw l4.wf b10 rfl rfl rfl fun H5 f5 b10 => ?_
  have n1 : H1.next ≤ H3.next := Nat.le_trans f2.nx f3.nx
  have hH3 : H.next ≤ H3.next := fk.nx
  have b1 := b1.ap f5 (iv_nw n1)
  have fk := (fk.le l4).own f5 fun id h => Nat.le_trans hH3 h.1
  have h := h.bk f5 (by decide) (by decide)
  -- the end
  have rest : ∀ (Hk : AHeap) (pts : Int) (nm : List UInt8) (ml : AVal) (LL : List (List Int)), Sf H Hk → Src P Hk x → Bx (Iv H.next H1.next) t_impl_Puzzle Hk x1 [.int .i64 0, .str [], .nilS] →
      Bx (H3.next ≤ ·) t_impl_Puzzle Hk x10 [i64 pts, .str nm, ml] → Lists .own (Nw H) (Nw H) Hk ml LL → In64 pts → nm.length ≤ 3 → Small ⟨pts, nm, LL⟩ →
      W (bnd (ldn 3 x10) fun x44 => bnd (stn 3 x1 x44) fun _ => bnd (ldn 3 x1) fun v45 => ret v45) Hk Q := by
    intro Hk pts nm ml LL fk h b1 b10 hl h64 hnm sm
    simp only [↓wr_ld3 b10]
    refine W.fsw fk.wf b1 rfl rfl (cells_p hl.isCell) fun Hl fl b1 => ?_
    simp only [↓wr_ld3 b1]
    refine W.ret (k _ ⟨pts, nm, LL⟩ _ (fk.own fl fun id h => h.1.1) (h.bk fl (by decide) (by decide)) ⟨ml, rfl, (Seq.bkL hl fl (by decide) (by decide)).ro, h64, by show nm.length ≤ _; omega⟩ sm)
  refine W.lq (fun q st Hk => ∃ (i : Nat) (ml : AVal) (LL : List (List Int)), q = nm.length - i ∧ i ≤ nm.length ∧ st = [i64 (i : Int)] ∧ Sf H Hk ∧ Src P Hk x ∧ Bx (Iv H.next H1.next) t_impl_Puzzle Hk x1 [.int .i64 0, .str [], .nilS] ∧
      Bx (H3.next ≤ ·) t_impl_Puzzle Hk x10 [i64 (3 + n), .str nm, ml] ∧ Lists .own (Nw H) (Nw H) Hk ml LL ∧ LL.length = i ∧ ∀ g ∈ LL, (g.length : Int) = 3 + n)
    (fun rr Hk => ∃ (ml : AVal) (LL : List (List Int)), rr = (.exit 0, []) ∧ Sf H Hk ∧ Src P Hk x ∧ Bx (Iv H.next H1.next) t_impl_Puzzle Hk x1 [.int .i64 0, .str [], .nilS] ∧
      Bx (H3.next ≤ ·) t_impl_Puzzle Hk x10 [i64 (3 + n), .str nm, ml] ∧ Lists .own (Nw H) (Nw H) Hk ml LL ∧ LL.length = nm.length ∧ ∀ g ∈ LL, (g.length : Int) = 3 + n) nm.length
    ⟨0, .nilS, [], rfl, Nat.zero_le _, rfl, fk, h, b1, b10, .nil, rfl, by simp⟩ ?_ ?_
  · rintro q st Hk ⟨i, ml, LL, rfl, hi, rfl, fk, h, b1, b10, hl, hLL, hgl⟩ Q' kn kx
    by_cases hlt : (i : Int) < nm.length
    · simp only [↓XE b10, ↓wr_f1 b10, ↓Xa, ↓Xb, ↓Xc, ↓Xd, ↓Xe, ↓Xf, ↓Xg, ↓Xh, ↓Xi, ↓Xj, ↓Xk, ↓Xl, ↓Xm, ↓Xn, ↓Xo, ↓Xp, ↓Xq, ↓Xr, ↓Xs, ↓Xt, ↓Xu, ↓Xv, ↓Xw, ↓Xx, ↓Xy, gx0, gx1, gx2, gx3, ife_e, ife_n, ife_r, Xz, ife_ne', XA, XB, XC, XD, decide_true, decide_false, Bool.not_true, Bool.not_false, hlt]
      refine W.reserve fk.wf fun Hl ll fre => ?_
      have fr5 := fre 5 (by decide)
      have n5 : H.next ≤ Hk.next + 5 := Nat.le_trans fk.nx (Nat.le_add_right _ _)
      simp only [↓Xy]
      have b10 := b10.le ll
      refine W.bnd (c_drawPermutation ll.wf (h.le ll) (by omega) fun w Hm B fm h hw hB => ?_)
      have fkm := (fk.le ll).tr fm
      have b10l := b10
      have b10 := b10.bk fm (by decide)
      have b1 := (b1.le ll).bk fm (by decide)
      have hl := (hl.leL ll).bkL fm (by decide) (by decide)
      have fr5 : Free Hm (Hk.next + 5) := ⟨Nat.lt_of_lt_of_le fr5.1 fm.nx, (fm.keep _ fr5.1 fun hb => by
        obtain ⟨_, c, fz, hc⟩ := hb
        rw [fr5.2] at hc; cases hc).trans fr5.2⟩
      simp only [↓XE b10, ↓wr_f2 b10]
      refine W.agn1 (b10l.ld1 rfl) ?_
      have hnl : H.next ≤ Hl.next := Nat.le_trans fk.nx ll.nx
      have hw' : RL (Nw H) Hm w B := Seq.mono hw.ro fun id _ hid => Nat.le_trans hnl hid
      simp only [↓wr_c1 hw.isCell]
      refine W.lit1Sf (R := RL (Nw H)) (e := t_Sint64) fm.wf fr5 hw.isCell (fun H' f => Seq.nkI hw' f) fun y Hn fn hy => ?_
      have b10 := b10.nk fn
      have b1 := b1.nk fn
      have fkn : Sf H Hn := fkm.nw fn fun id hid hS => absurd hS.1 (by omega)
      refine W.app (P := Nw H) fn.wf (hl.nkL fn) hy (by decide) (by simp; omega) (fun id hid => Nat.le_trans fkn.nx hid) (fun H' f v x hx => Seq.bkI hx f (by decide)) fun ml' Ho fo hl => ?_
      have b10 := b10.bk fo (by decide)
      have b1 := b1.bk fo (by decide)
      have fko := fkn.own fo fun id h => h.1
      simp only [↓XE b10]
      refine W.fst fo.wf b10 (by simp) hl.isCell fun Hp' fp b10 => ?_
      rw [wr_inc (by omega)]
      refine W.ret (kn (nm.length - (i + 1)) _ _ (by omega) ⟨i + 1, ml', _, rfl, by omega, rfl, fko.own fp fun id h => Nat.le_trans hH3 h.1, ((h.nk fn).bk fo (by decide) (by decide)).bk fp (by decide) (by decide), b1.ap fp (iv_nw n1), b10, hl.bkL fp (by decide) (by decide), by simp [hLL], fun g hg => by
        rcases List.mem_append.1 hg with hg | hg
        · exact hgl g hg
        · rw [List.mem_singleton.1 hg, hB]; omega⟩)
    · have hie : i = nm.length := by omega
      simp only [↓XE b10, ↓wr_f1 b10, ↓Xa, ↓Xb, ↓Xc, ↓Xd, ↓Xe, ↓Xf, ↓Xg, ↓Xh, ↓Xi, ↓Xj, ↓Xk, ↓Xl, ↓Xm, ↓Xn, ↓Xo, ↓Xp, ↓Xq, ↓Xr, ↓Xs, ↓Xt, ↓Xu, ↓Xv, ↓Xw, ↓Xx, ↓Xy, gx0, gx1, gx2, gx3, ife_e, ife_n, ife_r, Xz, ife_ne', XA, XB, XC, XD, decide_true, decide_false, Bool.not_true, Bool.not_false, hlt]
      exact W.ret (kx _ _ _ (by simp) ⟨ml, LL, rfl, fk, h, b1, b10, hl, by omega, hgl⟩)
  · rintro rr Hk ⟨ml, LL, rfl, fk, h, b1, b10, hl, hLL, hgl⟩
    simp only [↓Xa, ↓Xb, ↓Xc, ↓Xd, ↓Xe, ↓Xf, ↓Xg, ↓Xh, ↓Xi, ↓Xj, ↓Xk, ↓Xl, ↓Xm, ↓Xn, ↓Xo, ↓Xp, ↓Xq, ↓Xr, ↓Xs, ↓Xt, ↓Xu, ↓Xv, ↓Xw, ↓Xx, ↓Xy, gx0, gx1, gx2, gx3, ife_e, ife_n, ife_r, Xz, ife_ne', XA, XB, XC, XD, decide_true, decide_false, Bool.not_true, Bool.not_false]
    have p64 : In64 (3 + n) := by unfold In64; omega
    refine W.bnd (c_oneIn fk.wf h fun b Hl fl h => ?_)
    have fk := fk.tr fl
    have b1 := b1.bk fl (by decide)
    have b10 := b10.bk fl (by decide)
    have hl := hl.bkL fl (by decide) (by decide)
    cases b with
    | false =>
      simp only [↓Xa, ↓Xb, ↓Xc, ↓Xd, ↓Xe, ↓Xf, ↓Xg, ↓Xh, ↓Xi, ↓Xj, ↓Xk, ↓Xl, ↓Xm, ↓Xn, ↓Xo, ↓Xp, ↓Xq, ↓Xr, ↓Xs, ↓Xt, ↓Xu, ↓Xv, ↓Xw, ↓Xx, ↓Xy, gx0, gx1, gx2, gx3, ife_e, ife_n, ife_r, Xz, ife_ne', XA, XB, XC, XD, decide_true, decide_false, Bool.not_true, Bool.not_false, ↓wr_rx]
      exact rest _ _ _ _ _ fk h b1 b10 hl p64 (by omega) (fun _ => by show 3 + n ≤ 5; omega)
    | true =>
      simp only [↓Xa, ↓Xb, ↓Xc, ↓Xd, ↓Xe, ↓Xf, ↓Xg, ↓Xh, ↓Xi, ↓Xj, ↓Xk, ↓Xl, ↓Xm, ↓Xn, ↓Xo, ↓Xp, ↓Xq, ↓Xr, ↓Xs, ↓Xt, ↓Xu, ↓Xv, ↓Xw, ↓Xx, ↓Xy, gx0, gx1, gx2, gx3, ife_e, ife_n, ife_r, Xz, ife_ne', XA, XB, XC, XD, decide_true, decide_false, Bool.not_true, Bool.not_false, bnd_as]
      refine W.bnd (c_below fk.wf h fun d Hm fm h hd => ?_)
      have fk := fk.tr fm
      have b1 := b1.bk fm (by decide)
      have b10 := b10.bk fm (by decide)
      have hl := hl.bkL fm (by decide) (by decide)
      by_cases h0 : d = 0
      · subst h0
        simp only [↓Xa, ↓Xb, ↓Xc, ↓Xd, ↓Xe, ↓Xf, ↓Xg, ↓Xh, ↓Xi, ↓Xj, ↓Xk, ↓Xl, ↓Xm, ↓Xn, ↓Xo, ↓Xp, ↓Xq, ↓Xr, ↓Xs, ↓Xt, ↓Xu, ↓Xv, ↓Xw, ↓Xx, ↓Xy, gx0, gx1, gx2, gx3, ife_e, ife_n, ife_r, Xz, ife_ne', XA, XB, XC, XD, decide_true, decide_false, Bool.not_true, Bool.not_false, bnd_as]
        refine W.bnd (c_numberUpTo fk.wf h (by decide) fun pts Hn fn h h64 => ?_)
        have fk := fk.tr fn
        have b1 := b1.bk fn (by decide)
        have b10 := b10.bk fn (by decide)
        have hl := hl.bkL fn (by decide) (by decide)
        simp only [↓XE b10]
        refine W.fst fk.wf b10 (by simp) rfl fun Ho fo b10 => ?_
        simp only [↓Xa, ↓Xb, ↓Xc, ↓Xd, ↓Xe, ↓Xf, ↓Xg, ↓Xh, ↓Xi, ↓Xj, ↓Xk, ↓Xl, ↓Xm, ↓Xn, ↓Xo, ↓Xp, ↓Xq, ↓Xr, ↓Xs, ↓Xt, ↓Xu, ↓Xv, ↓Xw, ↓Xx, ↓Xy, gx0, gx1, gx2, gx3, ife_e, ife_n, ife_r, Xz, ife_ne', XA, XB, XC, XD, decide_true, decide_false, Bool.not_true, Bool.not_false, ↓wr_rx]
        exact rest _ _ _ _ _ (fk.own fo fun id h => Nat.le_trans hH3 h.1) (h.bk fo (by decide) (by decide)) (b1.ap fo (iv_nw n1)) b10 (hl.bkL fo (by decide) (by decide)) h64 (by omega) (fun hv => by
          have h0 : 0 < LL.length := by omega
          have e1 := (hv.move (i := 0) h0).1
          have e2 := hgl _ (List.getElem_mem h0)
          have e1 : (LL[0].length : Int) = pts := e1
          show pts ≤ 5; omega)
      · by_cases h1 : d = 1
        · subst h1
          simp only [↓Xa, ↓Xb, ↓Xc, ↓Xd, ↓Xe, ↓Xf, ↓Xg, ↓Xh, ↓Xi, ↓Xj, ↓Xk, ↓Xl, ↓Xm, ↓Xn, ↓Xo, ↓Xp, ↓Xq, ↓Xr, ↓Xs, ↓Xt, ↓Xu, ↓Xv, ↓Xw, ↓Xx, ↓Xy, gx0, gx1, gx2, gx3, ife_e, ife_n, ife_r, Xz, ife_ne', XA, XB, XC, XD, decide_true, decide_false, Bool.not_true, Bool.not_false, bnd_as, h0, ↓XE b10]
          refine W.fst fk.wf b10 (by simp) rfl fun Ho fo b10 => ?_
          simp only [↓Xa, ↓Xb, ↓Xc, ↓Xd, ↓Xe, ↓Xf, ↓Xg, ↓Xh, ↓Xi, ↓Xj, ↓Xk, ↓Xl, ↓Xm, ↓Xn, ↓Xo, ↓Xp, ↓Xq, ↓Xr, ↓Xs, ↓Xt, ↓Xu, ↓Xv, ↓Xw, ↓Xx, ↓Xy, gx0, gx1, gx2, gx3, ife_e, ife_n, ife_r, Xz, ife_ne', XA, XB, XC, XD, decide_true, decide_false, Bool.not_true, Bool.not_false, ↓wr_rx]
          exact rest _ _ _ _ _ (fk.own fo fun id h => Nat.le_trans hH3 h.1) (h.bk fo (by decide) (by decide)) (b1.ap fo (iv_nw n1)) b10 (hl.bkL fo (by decide) (by decide)) p64 (by decide) (fun _ => by show 3 + n ≤ 5; omega)
        · by_cases h2 : d = 2
          · subst h2
            simp only [↓Xa, ↓Xb, ↓Xc, ↓Xd, ↓Xe, ↓Xf, ↓Xg, ↓Xh, ↓Xi, ↓Xj, ↓Xk, ↓Xl, ↓Xm, ↓Xn, ↓Xo, ↓Xp, ↓Xq, ↓Xr, ↓Xs, ↓Xt, ↓Xu, ↓Xv, ↓Xw, ↓Xx, ↓Xy, gx0, gx1, gx2, gx3, ife_e, ife_n, ife_r, Xz, ife_ne', XA, XB, XC, XD, decide_true, decide_false, Bool.not_true, Bool.not_false, bnd_as, h0, h1]
            have b10m := b10
            refine W.bnd (c_drawAnyPermutation fk.wf h (by omega) fun w Hn B fn h hw => ?_)
            have nxm := fk.nx
            have fk := fk.tr fn
            have b1 := b1.bk fn (by decide)
            have b10 := b10.bk fn (by decide)
            have hl := hl.bkL fn (by decide) (by decide)
            simp only [↓XE b10, ↓wr_f2 b10]
            refine W.agn1 (b10m.ld1 rfl) ?_
            have hl0 : 0 < LL.length := by omega
            have hw' : Ints .ro (Nw Hm) Hn w B := hw.elim (fun h => h.ro) fun h => h
            have hix : ixa 1 ml (.int .i64 0) = ret (elemP ml 0) := hl.ixa hl0
            simp only [↓wr_p hix]
            refine W.st (R := RL (Nw H)) (a := B) fk.wf hl (by simp) hl0 hw'.isCell (fun H' f v x hx => Seq.bkI hx f (by decide)) (Seq.mono hw' fun id _ hid => Nat.le_trans nxm hid) fun Ho fo hl => ?_
            simp only [↓Xa, ↓Xb, ↓Xc, ↓Xd, ↓Xe, ↓Xf, ↓Xg, ↓Xh, ↓Xi, ↓Xj, ↓Xk, ↓Xl, ↓Xm, ↓Xn, ↓Xo, ↓Xp, ↓Xq, ↓Xr, ↓Xs, ↓Xt, ↓Xu, ↓Xv, ↓Xw, ↓Xx, ↓Xy, gx0, gx1, gx2, gx3, ife_e, ife_n, ife_r, Xz, ife_ne', XA, XB, XC, XD, decide_true, decide_false, Bool.not_true, Bool.not_false, ↓wr_rx]
            exact rest _ _ _ _ _ (fk.own fo fun id h => h.1) (h.bk fo (by decide) (by decide)) (b1.bk fo (by decide)) (b10.bk fo (by decide)) hl p64 (by omega) (fun _ => by show 3 + n ≤ 5; omega)
          · simp only [↓Xa, ↓Xb, ↓Xc, ↓Xd, ↓Xe, ↓Xf, ↓Xg, ↓Xh, ↓Xi, ↓Xj, ↓Xk, ↓Xl, ↓Xm, ↓Xn, ↓Xo, ↓Xp, ↓Xq, ↓Xr, ↓Xs, ↓Xt, ↓Xu, ↓Xv, ↓Xw, ↓Xx, ↓Xy, gx0, gx1, gx2, gx3, ife_e, ife_n, ife_r, Xz, ife_ne', XA, XB, XC, XD, decide_true, decide_false, Bool.not_true, Bool.not_false, bnd_as, h0, h1, h2, ↓wr_rx]
            exact rest _ _ _ _ _ fk h b1 b10 hl p64 (by omega) (fun _ => by show 3 + n ≤ 5; omega)
end
end Go.Am

end

section
set_option linter.unusedSimpArgs false
set_option linter.unusedVariables false
/- Contracts of the draws: jobs are started and copied; records. -/
namespace Go.Am
section
variable {β X : Type} {f : AVal → AM β} {Q : AVal → AHeap → Prop} {R : AHeap → AVal → X → Prop} {m m2 : Md} {P P2 P3 P4 P5 P' S T : Nat → Prop} {e e2 : TypeId} {H H0 H1 H2 H' : AHeap} {v u x y : AVal} {A B C s D r : List Int} {L LL : List (List Int)} {p : Puz} {cs : List AVal} {t : Tbl} {id : Nat} {n : Int}
/-- The scalars of a job. -/
structure Jsc where
  nx : Int
  lg : List UInt8
  sy : Int
def Jsc.cells (j : Jsc) (a b c : AVal) : List AVal := [a, b, c, i64 j.nx, .str j.lg, i64 j.sy]
/-- A job to be read. -/
def JobR (H : AHeap) (v : AVal) (t : Tbl) (j : Jsc) : Prop := ∃ a b c, v = .agg (j.cells a b c) ∧ Ints .ro Any H a t.tracked ∧ Lists .ro Any Any H b t.patterns ∧ Ints .ro Any H c t.dists
abbrev Eq1 (n0 tt : Nat) : Nat → Prop := fun id => n0 ≤ id ∧ id = tt
abbrev Ne2 (n0 tt dd : Nat) : Nat → Prop := fun id => n0 ≤ id ∧ id ≠ tt ∧ id ≠ dd
/-- A job that stands in blocks of its own since n0: its tracked points in block tt, its distances in block dd. -/
def JobC (n0 tt dd : Nat) (H : AHeap) (a b c : AVal) (t : Tbl) : Prop := Seq RI .own (Eq1 n0 tt) t_int64 H a t.tracked ∧ Lists .own (n0 ≤ ·) (Ne2 n0 tt dd) H b t.patterns ∧ Seq RI .own (Eq1 n0 dd) t_int64 H c t.dists ∧ tt ≠ dd
def JobA (n0 tt dd : Nat) (H : AHeap) (v : AVal) (t : Tbl) (j : Jsc) : Prop := ∃ a b c, v = .agg (j.cells a b c) ∧ JobC n0 tt dd H a b c t
variable {n0 tt dd : Nat} {j : Jsc} {a b c : AVal}
theorem JobC.le (h : JobC n0 tt dd H a b c t) (hl : Le H H') : JobC n0 tt dd H' a b c t := by
  obtain ⟨h1, h2, h3, h4⟩ := h
  exact ⟨h1.leI hl, h2.leL hl, h3.leI hl, h4⟩
theorem JobC.nk (h : JobC n0 tt dd H a b c t) (hl : Fr (Nk id H) H H') : JobC n0 tt dd H' a b c t := by
  obtain ⟨h1, h2, h3, h4⟩ := h
  exact ⟨h1.nkI hl, h2.nkL hl, h3.nkI hl, h4⟩
theorem JobC.bk (h : JobC n0 tt dd H a b c t) (hf : Fr (Bk P' e H) H H') (e1 : e ≠ t_int64) (e2 : e ≠ t_Sint64) : JobC n0 tt dd H' a b c t := by
  obtain ⟨h1, h2, h3, h4⟩ := h
  exact ⟨h1.bkI hf e1, h2.bkL hf e2 e1, h3.bkI hf e1, h4⟩
theorem JobC.rd (h : JobC n0 tt dd H a b c t) : JobR H (.agg (j.cells a b c)) t j := ⟨a, b, c, rfl, h.1.any, Seq.anyL h.2.1, h.2.2.1.any⟩
theorem JobR.le (h : JobR H v t j) (hl : Le H H') : JobR H' v t j := by
  obtain ⟨a, b, c, rfl, h1, h2, h3⟩ := h
  exact ⟨a, b, c, rfl, h1.leI hl, h2.leL hl, h3.leI hl⟩
theorem JobR.nk (h : JobR H v t j) (hl : Fr (Nk id H) H H') : JobR H' v t j := by
  obtain ⟨a, b, c, rfl, h1, h2, h3⟩ := h
  exact ⟨a, b, c, rfl, h1.nkI hl, h2.nkL hl, h3.nkI hl⟩
theorem JobR.bk (h : JobR H v t j) (hf : Fr (Bk P' e H) H H') (e1 : e ≠ t_int64) (e2 : e ≠ t_Sint64) : JobR H' v t j := by
  obtain ⟨a, b, c, rfl, h1, h2, h3⟩ := h
  exact ⟨a, b, c, rfl, h1.bkI hf e1, h2.bkL hf e2 e1, h3.bkI hf e1⟩
theorem cells_j (h1 : a.isCell = true) (h2 : b.isCell = true) (h3 : c.isCell = true) : (j.cells a b c).all AVal.isCell = true := by
  simp only [Jsc.cells, List.all_cons, List.all_nil, h1, h2, h3]; rfl
theorem JobC.cells (h : JobC n0 tt dd H a b c t) : (j.cells a b c).all AVal.isCell = true := cells_j h.1.isCell h.2.1.isCell h.2.2.1.isCell
/-- A sequence has one block. -/
theorem Seq.ex {L : List X} (h : Seq R m P e H v L) (N : Nat) : ∃ i, (i = N ∨ (P i ∧ i < H.next)) ∧ Seq R m (· = i) e H v L := by
  cases h with
  | nil => exact ⟨N, .inl rfl, .nil⟩
  | mk id off fz c L hP hid hg hl hb hm hR => exact ⟨id, .inr ⟨hP, hid⟩, .mk id off fz c L rfl hid hg hl hb hm hR⟩
/-- Three lists made one after the other. -/
theorem JobC.mk' {N1 N2 N3 : Nat} (h1 : Ints .own (Iv n0 N1) H a A) (h2 : Lists .own (Iv N1 N2) (Iv N1 N2) H b LL) (h3 : Ints .own (Iv N2 N3) H c D) (k0 : n0 < N1) (k1 : N1 ≤ N2) (k2 : N2 ≤ N3) : ∃ tt dd, JobC n0 tt dd H a b c ⟨A, LL, D⟩ := by
  obtain ⟨tt, ht, h1⟩ := h1.ex n0
  obtain ⟨dd, hd, h3⟩ := h3.ex N3
  have t1 : n0 ≤ tt ∧ tt < N1 := by
    rcases ht with rfl | ⟨h, _⟩
    · exact ⟨Nat.le_refl _, k0⟩
    · exact h
  have t2 : N2 ≤ dd := by
    rcases hd with rfl | ⟨h, _⟩
    · exact k2
    · exact h.1
  exact ⟨tt, dd, h1.mono fun id _ h => ⟨by omega, h⟩, (h2.mono fun id _ h => by have := h.1; omega).monoR fun id _ h => ⟨by have := h.1; omega, by have := h.1; omega, by have := h.2; omega⟩, h3.mono fun id _ h => ⟨by omega, h⟩, by omega⟩
theorem fill_job {a b c : AVal} (h1 : a.isCell = true) (h2 : b.isCell = true) (h3 : c.isCell = true) : afillM (plc [(0, 3), (3, 1), (4, 1), (5, 1)]) [(0, .agg [a, b, c])] [.nilS, .nilS, .nilS, .int .i64 0, .str [], .int .i64 0] = ret [a, b, c, i64 0, .str [], i64 0] := by
  have e1 : cellsN 3 (.agg [a, b, c]) = ret [a, b, c] := cellsN_of rfl (cells_t h1 h2 h3)
  simp only [afillM, plc, List.getElem?_cons_zero, e1]
  rfl
theorem fill_job4 {a b c : AVal} {nx sy : Int} {lg : List UInt8} (h1 : a.isCell = true) (h2 : b.isCell = true) (h3 : c.isCell = true) : afillM (plc [(0, 3), (3, 1), (4, 1), (5, 1)]) [(0, .agg [a, b, c]), (1, i64 nx), (2, .str lg), (3, i64 sy)] [.nilS, .nilS, .nilS, .int .i64 0, .str [], .int .i64 0] = ret [a, b, c, i64 nx, .str lg, i64 sy] := by
  have e1 : cellsN 3 (.agg [a, b, c]) = ret [a, b, c] := cellsN_of rfl (cells_t h1 h2 h3)
  have e2 : ∀ z, cell1 (i64 z) = ret (i64 z) := fun _ => rfl
  have e3 : ∀ z, cell1 (.str z) = ret (.str z) := fun _ => rfl
  simp only [afillM, plc, List.getElem?_cons_zero, List.getElem?_cons_succ, e1, e2, e3]
  rfl
def j0 : Jsc := ⟨0, [], 0⟩
theorem c_l28Start (hp : Hp H) (ha : Ints .ro P H u A) (k : ∀ v tt dd H', Le H H' → JobA H.next tt dd H' v ⟨A, [A], [0]⟩ j0 → Q v H') : W (s_sp_l28Start u) H Q := by
  unfold s_sp_l28Start
  refine W.alloc hp fun x1 H1 l1 b1 => ?_
  have b1 := Bx.iv b1
  refine W.bnd (c_copyInts l1.wf (ha.leI l1) fun x2 H2 l2 h2 => ?_)
  have b1 := b1.le l2
  have h2 := h2.mono (P' := Iv H1.next H2.next) fun id hid h => ⟨h, hid⟩
  refine W.bnd (c_copyInts l2.wf ((ha.leI l1).leI l2) fun x3 H3 l3 h3 => ?_)
  have b1 := b1.le l3
  have h2 := h2.leI l3
  have h3 := h3.mono (P' := Iv H2.next H3.next) fun id hid h => ⟨h, hid⟩
  simp only [bnd_as, ↓wr_c1 h3.isCell, ↓Xa, ↓wr_c1i]
  refine W.lit1f (R := RL (Iv H2.next H3.next)) (a := A) l3.wf h3.isCell (fun H' l => h3.ro.leI l) fun x5 H4 l4 h5 => ?_
  have b1 := b1.le l4
  have h2 := h2.leI l4
  have h5 := (h5.mono (P' := Iv H2.next H4.next) fun id hid h => ⟨Nat.le_trans l3.nx h, hid⟩)
  simp only [↓wr_c1i, ↓Xa]
  refine W.lit1f (R := RI) (a := 0) l4.wf rfl (fun _ _ => rfl) fun x7 H5 l5 h7 => ?_
  have b1 := b1.le l5
  have h2 := h2.leI l5
  have h5 := h5.leL l5
  have h7 := h7.mono (P' := Iv H4.next H5.next) fun id hid h => ⟨h, hid⟩
  simp only [↓wr_c1 h2.isCell, ↓wr_c1 h5.isCell, ↓wr_c1 h7.isCell, ↓Xa]
  refine W.alloc l5.wf fun x12 H6 l6 b12 => ?_
  have b1 := b1.le l6
  have h2 := h2.leI l6
  have h5 := h5.leL l6
  have h7 := h7.leI l6
  have l := ((((l1.tr l2).tr l3).tr l4).tr l5).tr l6
  refine W.fsw l6.wf b12 rfl rfl (cells_t h2.isCell h5.isCell h7.isCell) fun H7 f7 b12 => ?_
  have b1 := b1.bk f7 (by decide)
  have h2 := h2.bkI f7 (by decide)
  have h5 := h5.bkL f7 (by decide) (by decide)
  have h7 := h7.bkI f7 (by decide)
  have n5 : H.next ≤ H5.next := ((((l1.tr l2).tr l3).tr l4).tr l5).nx
  have l := l.nw f7 fun id hid h => absurd h.1 (by show ¬H5.next ≤ id; omega)
  simp only [↓wr_ld3 b12, fill_job h2.isCell h5.isCell h7.isCell, ↓Xa]
  refine W.fsw l.wf b1 rfl rfl (cells_j (j := j0) h2.isCell h5.isCell h7.isCell) fun H8 f8 b1 => ?_
  have h2 := h2.bkI f8 (by decide)
  have h5 := h5.bkL f8 (by decide) (by decide)
  have h7 := h7.bkI f8 (by decide)
  have l := l.nw f8 fun id hid h => absurd h.1.1 (by omega)
  simp only [↓wr_ld6 b1]
  have hlt : H.next < H1.next := by
    obtain ⟨id, _, hid, _⟩ := b1
    have := hid.1; have := hid.2; omega
  obtain ⟨tt, dd, hj⟩ := JobC.mk' (n0 := H.next) (N1 := H2.next) (N2 := H4.next) (N3 := H5.next) (h2.mono fun id _ h => ⟨Nat.le_trans l1.nx h.1, h.2⟩) (Seq.monoR (P2' := Iv H2.next H4.next) h5 fun id hid h => ⟨h.1, Nat.lt_of_lt_of_le h.2 l4.nx⟩) h7 (by have := l2.nx; omega) (Nat.le_trans l3.nx l4.nx) l5.nx
  exact W.ret (k _ tt dd _ l ⟨_, _, _, rfl, hj⟩)
theorem JobC.mono {n1 : Nat} (h : JobC n1 tt dd H a b c t) (hn : n0 ≤ n1) : JobC n0 tt dd H a b c t := by
  obtain ⟨h1, h2, h3, h4⟩ := h
  exact ⟨h1.mono fun id _ h => ⟨Nat.le_trans hn h.1, h.2⟩, (h2.mono fun id _ h => Nat.le_trans hn h).monoR fun id _ h => ⟨Nat.le_trans hn h.1, h.2⟩, h3.mono fun id _ h => ⟨Nat.le_trans hn h.1, h.2⟩, h4⟩
theorem JobA.mono {n1 : Nat} (h : JobA n1 tt dd H v t j) (hn : n0 ≤ n1) : JobA n0 tt dd H v t j := by
  obtain ⟨a, b, c, rfl, h⟩ := h
  exact ⟨a, b, c, rfl, h.mono hn⟩
theorem JobA.bk (h : JobA n0 tt dd H v t j) (hf : Fr (Bk P' e H) H H') (e1 : e ≠ t_int64) (e2 : e ≠ t_Sint64) : JobA n0 tt dd H' v t j := by
  obtain ⟨a, b, c, rfl, h⟩ := h
  exact ⟨a, b, c, rfl, h.bk hf e1 e2⟩
theorem JobA.rd (h : JobA n0 tt dd H v t j) : JobR H v t j := by
  obtain ⟨a, b, c, rfl, h⟩ := h
  exact h.rd
theorem c_StartFill (hp : Hp H) (h : PuzA P P2 H v p) (ha : Ints .ro P3 H u A) (k0 : ∀ H', Le H H' → Q (.tuple [.agg (j0.cells .nilS .nilS .nilS), .bool false]) H')
    (k : ∀ w tt dd H', Le H H' → Tracked p A → JobA H.next tt dd H' w ⟨A, [A], [0]⟩ j0 → Q (.tuple [w, .bool true]) H') : W (s_sp_StartFill v u) H Q := by
  have hpz := h
  obtain ⟨mv, rfl, hm, h64, hnl⟩ := h
  unfold s_sp_StartFill
  refine W.box hp (by decide) rfl (cells_p hm.isCell) fun x1 H1 l1 b1 => ?_
  refine W.alloc l1.wf fun x2 H2 l2 b2 => ?_
  have b1 := b1.le l2
  have b2 := Bx.iv b2
  have l := l1.tr l2
  simp only [↓wr_ld3 b1]
  refine W.bnd (c_BuildTable (p := p) l.wf (hpz.le l) (ha.leI l) (fun H3 l3 _ => ?_) fun a b c H3 L D n1 n2 l3 htr hf h1 h2 ha' hb hc => ?_)
  · have b2 := b2.le l3
    have l := l.tr l3
    simp only [↓Xa, ↓Xb, ↓Xc, ↓Xd, ↓Xe, ↓Xf, ↓Xg, ↓Xh, ↓Xi, ↓Xj, ↓Xk, ↓Xl, ↓Xm, ↓Xn, ↓Xo, ↓Xp, ↓Xq, ↓Xr, ↓Xs, ↓Xt, ↓Xu, ↓Xv, ↓Xw, ↓Xx, ↓Xy, gx0, gx1, gx2, gx3, ife_e, ife_n, ife_r, Xz, ife_ne', XA, XB, XC, XD, decide_true, decide_false, Bool.not_true, Bool.not_false]
    refine W.alloc l.wf fun x7 H4 l4 b7 => ?_
    have b2 := b2.le l4
    have l := l.tr l4
    have n3 : H2.next ≤ H3.next := l3.nx
    refine W.fsw l.wf b7 rfl rfl rfl fun H5 f5 b7 => ?_
    have b2 := b2.bk f5 (by decide)
    have l := l.nw f5 fun id hid h => absurd h.1 (by have := l1.nx; have := l2.nx; show ¬H3.next ≤ id; omega)
    simp only [↓Xa, ↓Xb, ↓Xc, ↓Xd, ↓Xe, ↓Xf, ↓Xg, ↓Xh, ↓Xi, ↓Xj, ↓Xk, ↓Xl, ↓Xm, ↓Xn, ↓Xo, ↓Xp, ↓Xq, ↓Xr, ↓Xs, ↓Xt, ↓Xu, ↓Xv, ↓Xw, ↓Xx, ↓Xy, gx0, gx1, gx2, gx3, ife_e, ife_n, ife_r, Xz, ife_ne', XA, XB, XC, XD, decide_true, decide_false, Bool.not_true, Bool.not_false, ↓XH]
    refine W.fsw l.wf b2 rfl rfl rfl fun H6 f6 b2 => ?_
    have l := l.nw f6 fun id hid h => absurd h.1.1 (by have := l1.nx; omega)
    simp only [↓wr_ld6 b2]
    exact W.ret (k0 _ l)
  · have b2 := b2.le l3
    have l := l.tr l3
    simp only [↓Xa, ↓Xb, ↓Xc, ↓Xd, ↓Xe, ↓Xf, ↓Xg, ↓Xh, ↓Xi, ↓Xj, ↓Xk, ↓Xl, ↓Xm, ↓Xn, ↓Xo, ↓Xp, ↓Xq, ↓Xr, ↓Xs, ↓Xt, ↓Xu, ↓Xv, ↓Xw, ↓Xx, ↓Xy, gx0, gx1, gx2, gx3, ife_e, ife_n, ife_r, Xz, ife_ne', XA, XB, XC, XD, decide_true, decide_false, Bool.not_true, Bool.not_false]
    refine W.alloc l.wf fun x7 H4 l4 b7 => ?_
    have b2 := b2.le l4
    have l := l.tr l4
    have n3 : H2.next ≤ H3.next := l3.nx
    refine W.fsw l.wf b7 rfl rfl (cells_t ha'.isCell hb.isCell hc.isCell) fun H5 f5 b7 => ?_
    have b2 := b2.bk f5 (by decide)
    have l := l.nw f5 fun id hid h => absurd h.1 (by have := l1.nx; have := l2.nx; show ¬H3.next ≤ id; omega)
    simp only [↓Xa, ↓Xb, ↓Xc, ↓Xd, ↓Xe, ↓Xf, ↓Xg, ↓Xh, ↓Xi, ↓Xj, ↓Xk, ↓Xl, ↓Xm, ↓Xn, ↓Xo, ↓Xp, ↓Xq, ↓Xr, ↓Xs, ↓Xt, ↓Xu, ↓Xv, ↓Xw, ↓Xx, ↓Xy, gx0, gx1, gx2, gx3, ife_e, ife_n, ife_r, Xz, ife_ne', XA, XB, XC, XD, decide_true, decide_false, Bool.not_true, Bool.not_false]
    refine W.bnd (c_l28Start l.wf (ha.leI l) fun w tt dd H6 l6 hj => ?_)
    have b2 := b2.le l6
    have nl := l.nx
    have l := l.tr l6
    obtain ⟨a, b, c, rfl, hj⟩ := hj
    refine W.fsw l.wf b2 rfl rfl hj.cells fun H7 f7 b2 => ?_
    have l := l.nw f7 fun id hid h => absurd h.1.1 (by have := l1.nx; omega)
    have b2 : Bx (Iv H1.next H2.next) t_impl_FillJob H7 x2 [a, b, c, i64 j0.nx, .str j0.lg, i64 j0.sy] := b2
    simp only [↓wr_ld6 b2]
    exact W.ret (k _ tt dd _ l htr ⟨a, b, c, rfl, (hj.bk f7 (by decide) (by decide)).mono nl⟩)
theorem c_l28CopyTable (hp : Hp H) (h : TblA P P2 H v t) (k : ∀ a b c tt dd H', Le H H' → JobC H.next tt dd H' a b c t → Q (.agg [a, b, c]) H') : W (s_sp_l28CopyTable v) H Q := by
  obtain ⟨a, b, c, rfl, ha, hb, hc⟩ := h
  unfold s_sp_l28CopyTable
  refine W.box hp (by decide) rfl (cells_t ha.isCell hb.isCell hc.isCell) fun x1 H1 l1 b1 => ?_
  refine W.alloc l1.wf fun x2 H2 l2 b2 => ?_
  have b1 := b1.le l2
  have b2 := Bx.iv b2
  have l := l1.tr l2
  have hlt : H1.next < H2.next := by
    obtain ⟨id, _, hid, _⟩ := b2
    have := hid.1; have := hid.2; omega
  simp only [↓XE b1, ↓wr_f0 b1, ↓Xy]
  have b12 := b1
  refine W.bnd (c_copyInts l.wf (ha.leI l) fun x6 H3 l3 h6 => ?_)
  have b1 := b1.le l3
  have b2 := b2.le l3
  have l := l.tr l3
  have h6 := h6.mono (P' := Iv H2.next H3.next) fun id hid h => ⟨h, hid⟩
  simp only [↓XE b1, ↓wr_f1 b1]
  refine W.agn1 (b12.ld1 rfl) ?_
  have b13 := b1
  simp only [↓Xy]
  refine W.bnd (c_copyLists l.wf (hb.leL l) fun x10 H4 l4 h10 => ?_)
  have b1 := b1.le l4
  have b2 := b2.le l4
  have l := l.tr l4
  have h6 := h6.leI l4
  have h10 := ((h10.mono (P' := Iv H3.next H4.next) fun id hid h => ⟨h, hid⟩).monoR (P2' := Iv H3.next H4.next) fun id hid h => ⟨h, hid⟩)
  simp only [↓XE b1, ↓wr_f2 b1]
  refine W.agn2 (b13.ld1 rfl) (b12.ld1 rfl) ?_
  refine W.bnd (c_copyInts l.wf (hc.leI l) fun x13 H5 l5 h13 => ?_)
  have b2 := b2.le l5
  have l := l.tr l5
  have h6 := h6.leI l5
  have h10 := h10.leL l5
  have h13 := h13.mono (P' := Iv H4.next H5.next) fun id hid h => ⟨h, hid⟩
  simp only [bnd_as, ↓wr_c1 h6.isCell, ↓wr_c1 h10.isCell, ↓wr_c1 h13.isCell, ↓Xa]
  refine W.fsw l.wf b2 rfl rfl (cells_t h6.isCell h10.isCell h13.isCell) fun H6 f6 b2 => ?_
  have l := l.nw f6 fun id hid h => absurd h.1.1 (by have := l1.nx; omega)
  simp only [↓wr_ld3 b2]
  obtain ⟨tt, dd, hj⟩ := JobC.mk' (n0 := H.next) ((h6.bkI f6 (by decide)).mono (P' := Iv H.next H3.next) fun id _ h => ⟨Nat.le_trans (Nat.le_trans l1.nx l2.nx) h.1, h.2⟩) (h10.bkL f6 (by decide) (by decide)) (h13.bkI f6 (by decide)) (by have := l1.nx; have := l3.nx; omega) l4.nx l5.nx
  exact W.ret (k _ _ _ tt dd _ l hj)
theorem wr_fadd' {Q : β → AHeap → Prop} (h : Bx P e H x cs) : W (bnd (ldn 3 (fieldP x 0)) f) H Q ↔ W (bnd (ldn 3 x) f) H Q := by
  obtain ⟨id, rfl, _⟩ := h
  exact Iff.rfl
theorem wr_ldt {Q : β → AHeap → Prop} {d g h' : AVal} (h : Bx P e H x [a, b, c, d, g, h']) : W (bnd (ldn 3 x) f) H Q ↔ W (f (.agg [a, b, c])) H Q := by
  obtain ⟨id, rfl, h1, h2, h3⟩ := h
  refine wr_e ?_
  simp [ldn, rd, h3]
theorem c_l28Copy (hp : Hp H) (h : JobR H v t j) (k : ∀ w tt dd H', Le H H' → JobA H.next tt dd H' w t j → Q w H') : W (s_sp_l28Copy v) H Q := by
  obtain ⟨a, b, c, rfl, ha, hb, hc⟩ := h
  unfold s_sp_l28Copy
  refine W.box hp (by decide) rfl (cells_j ha.isCell hb.isCell hc.isCell) fun x1 H1 l1 b1 => ?_
  have b1 : Bx (Nw H) t_impl_FillJob H1 x1 [a, b, c, i64 j.nx, .str j.lg, i64 j.sy] := b1
  have b1 := Bx.iv b1
  refine W.alloc l1.wf fun x2 H2 l2 b2 => ?_
  have b1 := b1.le l2
  have b2 := Bx.iv b2
  have l := l1.tr l2
  have b12 := b1
  simp only [↓XE b1, ↓wr_fadd' b1, ↓wr_ldt b1, ↓Xy]
  refine W.bnd (c_l28CopyTable (t := t) (P := Any) (P2 := Any) l.wf ⟨a, b, c, rfl, ha.leI l, hb.leL l, hc.leI l⟩ fun a' b' c' tt dd H3 l3 hj => ?_)
  have b1 := b1.le l3
  have b2 := b2.le l3
  have nl := l.nx
  have l := l.tr l3
  simp only [↓XE b1, ↓wr_f3 b1]
  refine W.agn1 (b12.ld1 rfl) ?_
  simp only [↓XE b1, ↓wr_f4 b1]
  refine W.agn1 (b12.ld1 rfl) ?_
  simp only [↓XE b1, ↓wr_f5 b1]
  refine W.agn1 (b12.ld1 rfl) ?_
  simp only [bnd_as, fill_job4 hj.1.isCell hj.2.1.isCell hj.2.2.1.isCell, ↓Xa]
  refine W.fsw l.wf b2 rfl rfl (hj.cells (j := j)) fun H4 f4 b2 => ?_
  have l := l.nw f4 fun id hid h => absurd h.1.1 (by have := l1.nx; omega)
  simp only [↓wr_ld6 b2]
  exact W.ret (k _ tt dd _ l ⟨a', b', c', rfl, (hj.bk f4 (by decide) (by decide)).mono nl⟩)
/-! Records -/
theorem RB_wrap {n : Int} : RB H (.int .u8 (IntKind.u8.wrap n)) (UInt8.ofNat (n % 256).toNat) := by
  have : IntKind.u8.wrap n = n % 256 := rfl
  show AVal.int .u8 _ = _
  rw [this]
  simp only [UInt8.toNat_ofNat', AVal.int.injEq, true_and]
  omega
theorem wr_c1u {Q : β → AHeap → Prop} {k : IntKind} {n : Int} : W (bnd (cell1 (.int k n)) f) H Q ↔ W (f (.int k n)) H Q := wr_p rfl
theorem c_l28Record (hp : Hp H) (hl : Lists .ro P P2 H v LL) (h1 : LL.length ≤ 100) (h2 : ∀ A ∈ LL, A.length ≤ 100) (k : ∀ s H', Le H H' → s.length ≤ 20000 → Q (.str s) H') : W (s_sp_l28Record (i64 n) v) H Q := by
  unfold s_sp_l28Record
  simp only [↓wr_quo (show (256 : Int) ≠ 0 by decide), ↓wr_rem (show (256 : Int) ≠ 0 by decide), ↓Xt, ↓XG hl, bnd_as, ↓wr_c1u, ↓Xa]
  refine W.mkseq (R := RB) hp [UInt8.ofNat ((IntKind.i64.wrap (n.tdiv 256)) % 256).toNat, UInt8.ofNat ((n.tmod 256) % 256).toNat, UInt8.ofNat ((LL.length : Int) % 256).toNat] rfl rfl (by simp) (fun H' _ i hi => by
    match i, hi with
    | 0, _ => exact ⟨_, rfl, rfl, RB_wrap⟩
    | 1, _ => exact ⟨_, rfl, rfl, RB_wrap⟩
    | 2, _ => exact ⟨_, rfl, rfl, RB_wrap⟩) fun x10 H1 l1 hx => ?_
  refine W.lq (fun q st Hk => ∃ (i : Nat) (o : AVal) (B : List UInt8), q = LL.length - i ∧ i ≤ LL.length ∧ st = [o, i64 (i : Int)] ∧ Le H Hk ∧ Bytes .own (Nw H) Hk o B ∧ B.length ≤ 3 + 100 * i)
    (fun rr Hk => ∃ (o : AVal) (B : List UInt8), rr = (.exit 0, [o]) ∧ Le H Hk ∧ Bytes .own (Nw H) Hk o B ∧ B.length ≤ 3 + 100 * LL.length) LL.length
    ⟨0, x10, _, rfl, Nat.zero_le _, rfl, l1, hx, by simp⟩ ?_ ?_
  · rintro q st Hk ⟨i, o, B, rfl, hi, rfl, lk, ho, hB⟩ Q' kn kx
    by_cases hlt : i < LL.length
    · have hlt' : (i : Int) < LL.length := by omega
      simp only [↓XG hl, hlt', ↓Xa, ↓Xb, ↓Xc, ↓Xd, ↓Xe, ↓Xf, ↓Xg, ↓Xh, ↓Xi, ↓Xj, ↓Xk, ↓Xl, ↓Xm, ↓Xn, ↓Xo, ↓Xp, ↓Xq, ↓Xr, ↓Xs, ↓Xt, ↓Xu, ↓Xv, ↓Xw, ↓Xx, ↓Xy, gx0, gx1, gx2, gx3, ife_e, ife_n, ife_r, Xz, ife_ne', XA, XB, XC, XD, decide_true, decide_false, Bool.not_true, Bool.not_false]
      have hAl := h2 _ (List.getElem_mem hlt)
      refine W.lq (fun q st Hm => ∃ (d : Nat) (o : AVal) (B : List UInt8), q = LL[i].length - d ∧ d ≤ LL[i].length ∧ st = [o, i64 (d : Int)] ∧ Le H Hm ∧ Bytes .own (Nw H) Hm o B ∧ B.length ≤ 3 + 100 * i + d)
        (fun rr Hm => ∃ (o : AVal) (B : List UInt8), rr = (.exit 2, [o]) ∧ Le H Hm ∧ Bytes .own (Nw H) Hm o B ∧ B.length ≤ 3 + 100 * i + LL[i].length) LL[i].length
        ⟨0, o, B, rfl, Nat.zero_le _, rfl, lk, ho, hB⟩ ?_ ?_
      · rintro q st Hm ⟨d, o, B, rfl, hd, rfl, lm, ho, hB⟩ Q'' kn' kx'
        have hlm := hl.leL lm
        obtain ⟨z, hz, hL, _⟩ := hlm.ld1 hlt
        have hL : Ints .ro P2 Hm z LL[i] := hL
        by_cases hdl : d < LL[i].length
        · have hdl' : (d : Int) < LL[i].length := by omega
          simp only [↓wr_ix hlm hlt, ↓wr_e hz, ↓XG hL, hdl', ↓Xa, ↓Xb, ↓Xc, ↓Xd, ↓Xe, ↓Xf, ↓Xg, ↓Xh, ↓Xi, ↓Xj, ↓Xk, ↓Xl, ↓Xm, ↓Xn, ↓Xo, ↓Xp, ↓Xq, ↓Xr, ↓Xs, ↓Xt, ↓Xu, ↓Xv, ↓Xw, ↓Xx, ↓Xy, gx0, gx1, gx2, gx3, ife_e, ife_n, ife_r, Xz, ife_ne', XA, XB, XC, XD, decide_true, decide_false, Bool.not_true, Bool.not_false, ↓wr_ix hL hdl, ↓wr_ldI hL hdl, ↓wr_c1u, bnd_as]
          refine W.app1f (R := RB) (P := Nw H) lm.wf ho stb_RB rfl (by decide) (by omega) (fun id hid => Nat.le_trans lm.nx hid) RB_wrap fun y Hn fn hy => ?_
          rw [wr_inc (by omega)]
          refine W.ret (kn' (LL[i].length - (d + 1)) _ _ (by omega) ⟨d + 1, y, _, rfl, hdl, rfl, lm.nw fn fun id hid h => absurd h.1 (by omega), hy, by simp; omega⟩)
        · have hdl' : ¬(d : Int) < LL[i].length := by omega
          simp only [↓wr_ix hlm hlt, ↓wr_e hz, ↓XG hL, hdl', ↓Xa, ↓Xb, ↓Xc, ↓Xd, ↓Xe, ↓Xf, ↓Xg, ↓Xh, ↓Xi, ↓Xj, ↓Xk, ↓Xl, ↓Xm, ↓Xn, ↓Xo, ↓Xp, ↓Xq, ↓Xr, ↓Xs, ↓Xt, ↓Xu, ↓Xv, ↓Xw, ↓Xx, ↓Xy, gx0, gx1, gx2, gx3, ife_e, ife_n, ife_r, Xz, ife_ne', XA, XB, XC, XD, decide_true, decide_false, Bool.not_true, Bool.not_false]
          exact W.ret (kx' _ _ _ (by simp) ⟨o, B, rfl, lm, ho, by omega⟩)
      · rintro rr Hm ⟨o, B, rfl, lm, ho, hB⟩
        simp only [↓Xa, ↓Xb, ↓Xc, ↓Xd, ↓Xe, ↓Xf, ↓Xg, ↓Xh, ↓Xi, ↓Xj, ↓Xk, ↓Xl, ↓Xm, ↓Xn, ↓Xo, ↓Xp, ↓Xq, ↓Xr, ↓Xs, ↓Xt, ↓Xu, ↓Xv, ↓Xw, ↓Xx, ↓Xy, gx0, gx1, gx2, gx3, ife_e, ife_n, ife_r, Xz, ife_ne', XA, XB, XC, XD, decide_true, decide_false, Bool.not_true, Bool.not_false]
        rw [wr_inc (by omega)]
        exact W.ret (kn (LL.length - (i + 1)) _ _ (by omega) ⟨i + 1, o, B, rfl, hlt, rfl, lm, ho, by omega⟩)
    · have hlt' : ¬(i : Int) < LL.length := by omega
      simp only [↓XG hl, hlt', ↓Xa, ↓Xb, ↓Xc, ↓Xd, ↓Xe, ↓Xf, ↓Xg, ↓Xh, ↓Xi, ↓Xj, ↓Xk, ↓Xl, ↓Xm, ↓Xn, ↓Xo, ↓Xp, ↓Xq, ↓Xr, ↓Xs, ↓Xt, ↓Xu, ↓Xv, ↓Xw, ↓Xx, ↓Xy, gx0, gx1, gx2, gx3, ife_e, ife_n, ife_r, Xz, ife_ne', XA, XB, XC, XD, decide_true, decide_false, Bool.not_true, Bool.not_false]
      have : i = LL.length := by omega
      exact W.ret (kx _ _ _ (by simp) ⟨o, B, rfl, lk, ho, by omega⟩)
  · rintro rr Hk ⟨o, B, rfl, lk, ho, hB⟩
    simp only [↓Xa, ↓Xb, ↓Xc, ↓Xd, ↓Xe, ↓Xf, ↓Xg, ↓Xh, ↓Xi, ↓Xj, ↓Xk, ↓Xl, ↓Xm, ↓Xn, ↓Xo, ↓Xp, ↓Xq, ↓Xr, ↓Xs, ↓Xt, ↓Xu, ↓Xv, ↓Xw, ↓Xx, ↓Xy, gx0, gx1, gx2, gx3, ife_e, ife_n, ife_r, Xz, ife_ne', XA, XB, XC, XD, decide_true, decide_false, Bool.not_true, Bool.not_false, ↓wr_e (b2s_of ho)]
    exact W.ret (k _ _ lk (by omega))
theorem c_Checksum {s : List UInt8} (hs : s.length ≤ 1000000) (k : ∀ n, Q (i64 n) H) : W (s_sp_Checksum (.str s)) H Q := by
  unfold s_sp_Checksum
  refine W.lq (fun q st Hk => Hk = H ∧ ∃ (i : Nat) (a b : Int), q = s.length - i ∧ i ≤ s.length ∧ st = [i64 a, i64 b, i64 (i : Int)])
    (fun rr Hk => Hk = H ∧ ∃ (a b : Int), rr = (.exit 0, [i64 a, i64 b])) s.length
    ⟨rfl, 0, 1, 0, rfl, Nat.zero_le _, rfl⟩ ?_ ?_
  · rintro q st Hk ⟨rfl, i, a, b, rfl, hi, rfl⟩ Q' kn kx
    by_cases hlt : i < s.length
    · have hlt' : (i : Int) < s.length := by omega
      simp only [↓Xa, ↓Xb, ↓Xc, ↓Xd, ↓Xe, ↓Xf, ↓Xg, ↓Xh, ↓Xi, ↓Xj, ↓Xk, ↓Xl, ↓Xm, ↓Xn, ↓Xo, ↓Xp, ↓Xq, ↓Xr, ↓Xs, ↓Xt, ↓Xu, ↓Xv, ↓Xw, ↓Xx, ↓Xy, gx0, gx1, gx2, gx3, ife_e, ife_n, ife_r, Xz, ife_ne', XA, XB, XC, XD, decide_true, decide_false, Bool.not_true, Bool.not_false, hlt', ↓wr_ixStr hlt, ↓wr_addw, ↓wr_rem (show (65521 : Int) ≠ 0 by decide)]
      have hw : IntKind.i64.wrap ((i : Int) + 1) = ((i + 1 : Nat) : Int) := by
        rw [wrap_in (by unfold In64; omega)]; rfl
      rw [hw]
      exact W.ret (kn (s.length - (i + 1)) _ _ (by omega) ⟨rfl, i + 1, _, _, rfl, hlt, rfl⟩)
    · have hlt' : ¬(i : Int) < s.length := by omega
      simp only [↓Xa, ↓Xb, ↓Xc, ↓Xd, ↓Xe, ↓Xf, ↓Xg, ↓Xh, ↓Xi, ↓Xj, ↓Xk, ↓Xl, ↓Xm, ↓Xn, ↓Xo, ↓Xp, ↓Xq, ↓Xr, ↓Xs, ↓Xt, ↓Xu, ↓Xv, ↓Xw, ↓Xx, ↓Xy, gx0, gx1, gx2, gx3, ife_e, ife_n, ife_r, Xz, ife_ne', XA, XB, XC, XD, decide_true, decide_false, Bool.not_true, Bool.not_false, hlt']
      exact W.ret (kx _ _ _ (by simp) ⟨rfl, _, _, rfl⟩)
  · rintro rr Hk ⟨rfl, a, b, rfl⟩
    simp only [↓Xa, ↓Xb, ↓Xc, ↓Xd, ↓Xe, ↓Xf, ↓Xg, ↓Xh, ↓Xi, ↓Xj, ↓Xk, ↓Xl, ↓Xm, ↓Xn, ↓Xo, ↓Xp, ↓Xq, ↓Xr, ↓Xs, ↓Xt, ↓Xu, ↓Xv, ↓Xw, ↓Xx, ↓Xy, gx0, gx1, gx2, gx3, ife_e, ife_n, ife_r, Xz, ife_ne', XA, XB, XC, XD, decide_true, decide_false, Bool.not_true, Bool.not_false, ↓wr_mulw, ↓wr_addw]
    exact W.ret (k _)
theorem c_l29Uint32 (hp : Hp H) (k : ∀ s H', Le H H' → s.length = 4 → Q (.str s) H') : W (s_sp_l29Uint32 (i64 n)) H Q := by
  unfold s_sp_l29Uint32
  simp only [↓wr_shr (show (0 : Int) ≤ 24 by decide), ↓wr_shr (show (0 : Int) ≤ 16 by decide), ↓wr_shr (show (0 : Int) ≤ 8 by decide), ↓wr_and255, ↓Xt, bnd_as, ↓wr_c1u, ↓Xa]
  generalize and255 _ = a1
  generalize and255 _ = a2
  generalize and255 _ = a3
  generalize and255 _ = a4
  refine W.mkseq (R := RB) hp [UInt8.ofNat (a1 % 256).toNat, UInt8.ofNat (a2 % 256).toNat, UInt8.ofNat (a3 % 256).toNat, UInt8.ofNat (a4 % 256).toNat] rfl rfl (by simp) (fun H' _ i hi => by
    match i, hi with
    | 0, _ => exact ⟨_, rfl, rfl, RB_wrap⟩
    | 1, _ => exact ⟨_, rfl, rfl, RB_wrap⟩
    | 2, _ => exact ⟨_, rfl, rfl, RB_wrap⟩
    | 3, _ => exact ⟨_, rfl, rfl, RB_wrap⟩) fun x10 H1 l1 hx => ?_
  simp only [↓wr_e (b2s_of hx)]
  exact W.ret (k _ _ l1 rfl)
end
end Go.Am

end
