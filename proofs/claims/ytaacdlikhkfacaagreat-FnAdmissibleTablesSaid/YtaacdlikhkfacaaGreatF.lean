/- Steps of the proof of FnAdmissibleTables: an abstract machine, its runs, and the plain law. -/
import Derived.Test.YtaacdlikhkfacaaGreatE
section
set_option linter.unusedSimpArgs false
set_option linter.unusedVariables false
/- Contracts: random states, patterns of states. -/
namespace Go.Am
section
variable {β X : Type} {f : AVal → AM β} {Q : AVal → AHeap → Prop} {R R' : AHeap → AVal → X → Prop} {m m2 : Md} {P P2 P3 P4 P5 P' S T : Nat → Prop} {e e2 : TypeId} {H H0 H1 H2 H' Hk Hl : AHeap} {v u x y z : AVal} {A B D s r : List Int} {L L' : List X} {LL : List (List Int)} {p' q : List Int} {p : Puz} {cs : List AVal} {id n k : Nat} {o o1 o2 : List Nat} {c c' : Ch} {I : List Int → Prop}
theorem Gens.pm (hg : Gens n LL) : ∀ g ∈ LL, Pm n g := fun g hgm => by
  obtain ⟨i, hi, rfl⟩ := List.mem_iff_getElem.1 hgm
  have h1 := hg.2 i hi
  refine ⟨by omega, ?_⟩
  have h2 := h1.2.2
  rw [h1.1] at h2
  exact h2
theorem c_GroupOrder (hp : Hp H) (hg : Gens n LL) (hl : Lists .ro P P2 H v LL) (hc : pBuild n LL = some c) (hB : PB2 (sizes n c)) (kk : ∀ H', Le H H' → Q (i64 (prd (sizes n c) : Int)) H') : W (s_sp_GroupOrder (i64 (n : Int)) v) H Q := by
  have hn1 : 1 ≤ n := by have := hg.1.1.1; omega
  have hn2 : n ≤ 20 := by have := hg.1.1.2; omega
  unfold s_sp_GroupOrder
  simp only [↓wr_e (c_IsGeneratorSet hl), hg, ↓Xa, ↓Xb, ↓Xc, ↓Xd, ↓Xe, ↓Xf, ↓Xg, ↓Xh, ↓Xi, ↓Xj, ↓Xk, ↓Xl, ↓Xm, ↓Xn, ↓Xo, ↓Xp, ↓Xq, ↓Xr, ↓Xs, ↓Xt, ↓Xu, ↓Xv, ↓Xw, ↓Xx, ↓Xy, gx0, gx1, gx2, gx3, ife_e, ife_n, ife_r, Xz, ife_ne', XA, XB, XC, XD, decide_true, decide_false, Bool.not_true, Bool.not_false]
  refine W.bnd (c_buildChain hp hn1 (by omega) hl hg.pm hc fun x o H1 l1 hch hci => ?_)
  refine W.bnd (c_chainOrder l1.wf hch hci (by omega) hB fun H2 l2 => ?_)
  exact W.ret (kk _ (l1.tr l2))
theorem c_StateCount (hp : Hp H) (h : PuzA P P2 H v p) (hv : Valid p) (hn : p.points = n) (hc : pBuild n p.moves = some c) (hB : PB2 (sizes n c)) (kk : ∀ H', Le H H' → Q (i64 (prd (sizes n c) : Int)) H') : W (s_sp_StateCount v) H Q := by
  have hpz := h
  obtain ⟨mv, rfl, hm, h64, hnl⟩ := h
  unfold s_sp_StateCount
  refine W.box hp (by decide) rfl (cells_p hm.isCell) fun x1 H1 l1 b1 => ?_
  simp only [↓wr_ld3 b1]
  refine W.bnd (c_IsValidPuzzle (p := p) l1.wf (hpz.le l1) fun H2 l2 => ?_)
  have b1 := b1.le l2
  have l := l1.tr l2
  simp only [hv, ↓Xa, ↓Xb, ↓Xc, ↓Xd, ↓Xe, ↓Xf, ↓Xg, ↓Xh, ↓Xi, ↓Xj, ↓Xk, ↓Xl, ↓Xm, ↓Xn, ↓Xo, ↓Xp, ↓Xq, ↓Xr, ↓Xs, ↓Xt, ↓Xu, ↓Xv, ↓Xw, ↓Xx, ↓Xy, gx0, gx1, gx2, gx3, ife_e, ife_n, ife_r, Xz, ife_ne', XA, XB, XC, XD, decide_true, decide_false, Bool.not_true, Bool.not_false, ↓XE b1, ↓wr_f0 b1, ↓wr_f2 b1]
  have hg := hv.2.2.1
  rw [hn] at hg ⊢
  refine W.bnd (c_GroupOrder l.wf hg (hm.leL l) hc hB fun H3 l3 => ?_)
  exact W.ret (kk _ (l.tr l3))
theorem c_NextRandom {a : Nat} (ha : a ≤ 2147483646) (kk : ∀ b : Nat, b ≤ 2147483646 → Q (i64 (b : Int)) H) : W (s_sp_NextRandom (i64 (a : Int))) H Q := by
  unfold s_sp_NextRandom
  have e1 : (2147483647 : Int) = ((2147483647 : Nat) : Int) := rfl
  have h1 : a % 2147483647 = a := Nat.mod_eq_of_lt (by omega)
  rw [e1, rem_nat (by omega), h1]
  have h0 : ¬((a : Nat) : Int) < 0 := by omega
  simp only [h0, ↓Xa, ↓Xb, ↓Xc, ↓Xd, ↓Xe, ↓Xf, ↓Xg, ↓Xh, ↓Xi, ↓Xj, ↓Xk, ↓Xl, ↓Xm, ↓Xn, ↓Xo, ↓Xp, ↓Xq, ↓Xr, ↓Xs, ↓Xt, ↓Xu, ↓Xv, ↓Xw, ↓Xx, ↓Xy, gx0, gx1, gx2, gx3, ife_e, ife_n, ife_r, Xz, ife_ne', XA, XB, XC, XD, decide_true, decide_false, Bool.not_true, Bool.not_false, ↓wr_rx]
  rw [wr_mul (by unfold In64; omega), wr_add (by unfold In64; omega)]
  have e2 : (48271 : Int) * (a : Int) + 11 = ((48271 * a + 11 : Nat) : Int) := by omega
  rw [e2, rem_nat (by omega)]
  exact W.ret (kk _ (by have := Nat.mod_lt (48271 * a + 11) (show 0 < 2147483647 by omega); omega))
theorem c_RandomState {a : Nat} (hp : Hp H) (h : PuzA P P2 H v p) (hv : Valid p) (hn : p.points = n) (hc : pBuild n p.moves = some c) (hB : PB2 (sizes n c)) (h1 : 0 < prd (sizes n c)) (ha : a ≤ 2147483646) (hI0 : I (idn n)) (hI : ∀ i y q, i < n → Pm n q → c.rep i y ≠ [] → I q → I (comp (c.rep i y) q))
    (kk : ∀ r H' q, Le H H' → Ints .ro Any H' r q → Pm n q → I q → Q (.tuple [r, .bool true]) H') : W (s_sp_RandomState v (i64 (a : Int))) H Q := by
  have hpz := h
  obtain ⟨mv, rfl, hm, h64, hnl⟩ := h
  unfold s_sp_RandomState
  refine W.box hp (by decide) rfl (cells_p hm.isCell) fun x1 H1 l1 b1 => ?_
  simp only [↓wr_ld3 b1]
  refine W.bnd (c_IsValidPuzzle (p := p) l1.wf (hpz.le l1) fun H2 l2 => ?_)
  have b1 := b1.le l2
  have l := l1.tr l2
  have hr : (0 : Int) ≤ (a : Int) ∧ (a : Int) ≤ 2147483646 := by omega
  have hseed : s_sp_l24IsSeed (i64 (a : Int)) H2 = some (.bool true, H2) := by
    refine eq_of_W fun Q kq => ?_
    unfold s_sp_l24IsSeed
    simp only [↓wr_e c_inRange, hr, and_self, ↓Xa, ↓Xb, ↓Xc, ↓Xd, ↓Xe, ↓Xf, ↓Xg, ↓Xh, ↓Xi, ↓Xj, ↓Xk, ↓Xl, ↓Xm, ↓Xn, ↓Xo, ↓Xp, ↓Xq, ↓Xr, ↓Xs, ↓Xt, ↓Xu, ↓Xv, ↓Xw, ↓Xx, ↓Xy, gx0, gx1, gx2, gx3, ife_e, ife_n, ife_r, Xz, ife_ne', XA, XB, XC, XD, decide_true, decide_false, Bool.not_true, Bool.not_false]
    exact W.ret kq
  simp only [hv, ↓Xa, ↓Xb, ↓Xc, ↓Xd, ↓Xe, ↓Xf, ↓Xg, ↓Xh, ↓Xi, ↓Xj, ↓Xk, ↓Xl, ↓Xm, ↓Xn, ↓Xo, ↓Xp, ↓Xq, ↓Xr, ↓Xs, ↓Xt, ↓Xu, ↓Xv, ↓Xw, ↓Xx, ↓Xy, gx0, gx1, gx2, gx3, ife_e, ife_n, ife_r, Xz, ife_ne', XA, XB, XC, XD, decide_true, decide_false, Bool.not_true, Bool.not_false, ↓wr_e hseed]
  refine W.bnd (c_NextRandom ha fun b hb => ?_)
  simp only [↓Xy]
  refine W.bnd (c_NextRandom hb fun b2 hb2 => ?_)
  simp only [↓wr_ld3 b1]
  refine W.agn1 (b1.ldw rfl) ?_
  refine W.bnd (c_StateCount (p := p) l.wf (hpz.le l) hv hn hc hB fun H3 l3 => ?_)
  have b1 := b1.le l3
  have l := l.tr l3
  rw [wr_mul (by unfold In64; omega), wr_add (by unfold In64; omega)]
  have e2 : (b : Int) * 2147483647 + (b2 : Int) = ((b * 2147483647 + b2 : Nat) : Int) := by omega
  rw [e2, rem_nat h1]
  simp only [↓XE b1, ↓wr_f0 b1, ↓wr_f2 b1]
  have hg := hv.2.2.1
  rw [hn] at hg ⊢
  refine W.bnd (c_MemberAt (I := I) l.wf hg (hm.leL l) hc hB (Nat.mod_lt _ h1) hI0 hI fun r H4 q l4 hr hq hIq => ?_)
  simp only [↓Xa, ↓Xb, ↓Xc, ↓Xd, ↓Xe, ↓Xf, ↓Xg, ↓Xh, ↓Xi, ↓Xj, ↓Xk, ↓Xl, ↓Xm, ↓Xn, ↓Xo, ↓Xp, ↓Xq, ↓Xr, ↓Xs, ↓Xt, ↓Xu, ↓Xv, ↓Xw, ↓Xx, ↓Xy, gx0, gx1, gx2, gx3, ife_e, ife_n, ife_r, Xz, ife_ne', XA, XB, XC, XD, decide_true, decide_false, Bool.not_true, Bool.not_false]
  exact W.ret (kk _ _ _ (l.tr l4) hr hq hIq)
theorem c_isPermutationOf {n : Int} (hu : Ints .ro P H u A) : s_sp_isPermutationOf (i64 n) u H = some (.bool (decide ((A.length : Int) = n ∧ IsPerm A)), H) := by
  refine eq_of_W fun Q kq => ?_
  unfold s_sp_isPermutationOf
  simp only [↓XG hu, ↓Xa, ↓Xb, ↓Xc, ↓Xd, ↓Xe, ↓Xf, ↓Xg, ↓Xh, ↓Xi, ↓Xj, ↓Xk, ↓Xl, ↓Xm, ↓Xn, ↓Xo, ↓Xp, ↓Xq, ↓Xr, ↓Xs, ↓Xt, ↓Xu, ↓Xv, ↓Xw, ↓Xx, ↓Xy, gx0, gx1, gx2, gx3, ife_e, ife_n, ife_r, Xz, ife_ne', XA, XB, XC, XD, decide_true, decide_false, Bool.not_true, Bool.not_false]
  by_cases h0 : (A.length : Int) = n
  · simp only [h0, ↓Xa, ↓Xb, ↓Xc, ↓Xd, ↓Xe, ↓Xf, ↓Xg, ↓Xh, ↓Xi, ↓Xj, ↓Xk, ↓Xl, ↓Xm, ↓Xn, ↓Xo, ↓Xp, ↓Xq, ↓Xr, ↓Xs, ↓Xt, ↓Xu, ↓Xv, ↓Xw, ↓Xx, ↓Xy, gx0, gx1, gx2, gx3, ife_e, ife_n, ife_r, Xz, ife_ne', XA, XB, XC, XD, decide_true, decide_false, Bool.not_true, Bool.not_false, ↓wr_e (c_IsPermutation hu)]
    exact W.ret (by simpa [h0] using kq)
  · simp only [h0, ↓Xa, ↓Xb, ↓Xc, ↓Xd, ↓Xe, ↓Xf, ↓Xg, ↓Xh, ↓Xi, ↓Xj, ↓Xk, ↓Xl, ↓Xm, ↓Xn, ↓Xo, ↓Xp, ↓Xq, ↓Xr, ↓Xs, ↓Xt, ↓Xu, ↓Xv, ↓Xw, ↓Xx, ↓Xy, gx0, gx1, gx2, gx3, ife_e, ife_n, ife_r, Xz, ife_ne', XA, XB, XC, XD, decide_true, decide_false, Bool.not_true, Bool.not_false]
    exact W.ret (by simpa [h0] using kq)
def StateOf (p : Puz) (A : List Int) : Prop := Valid p ∧ (A.length : Int) = p.points ∧ IsPerm A
noncomputable instance : Decidable (StateOf p A) := Classical.propDecidable _
theorem c_IsState (hp : Hp H) (h : PuzA P P2 H v p) (hu : Ints .ro P3 H u A) (kk : ∀ H', Le H H' → Q (.bool (decide (StateOf p A))) H') : W (s_sp_IsState v u) H Q := by
  have hpz := h
  obtain ⟨mv, rfl, hm, h64, hnl⟩ := h
  unfold s_sp_IsState
  refine W.box hp (by decide) rfl (cells_p hm.isCell) fun x1 H1 l1 b1 => ?_
  simp only [↓wr_ld3 b1]
  refine W.bnd (c_IsValidPuzzle (p := p) l1.wf (hpz.le l1) fun H2 l2 => ?_)
  have b1 := b1.le l2
  have l := l1.tr l2
  by_cases hv : Valid p
  · simp only [hv, ↓Xa, ↓Xb, ↓Xc, ↓Xd, ↓Xe, ↓Xf, ↓Xg, ↓Xh, ↓Xi, ↓Xj, ↓Xk, ↓Xl, ↓Xm, ↓Xn, ↓Xo, ↓Xp, ↓Xq, ↓Xr, ↓Xs, ↓Xt, ↓Xu, ↓Xv, ↓Xw, ↓Xx, ↓Xy, gx0, gx1, gx2, gx3, ife_e, ife_n, ife_r, Xz, ife_ne', XA, XB, XC, XD, decide_true, decide_false, Bool.not_true, Bool.not_false, ↓XE b1, ↓wr_f0 b1, ↓wr_e (c_isPermutationOf (hu.leI l))]
    exact W.ret (by simpa [StateOf, hv] using kk _ l)
  · simp only [hv, ↓Xa, ↓Xb, ↓Xc, ↓Xd, ↓Xe, ↓Xf, ↓Xg, ↓Xh, ↓Xi, ↓Xj, ↓Xk, ↓Xl, ↓Xm, ↓Xn, ↓Xo, ↓Xp, ↓Xq, ↓Xr, ↓Xs, ↓Xt, ↓Xu, ↓Xv, ↓Xw, ↓Xx, ↓Xy, gx0, gx1, gx2, gx3, ife_e, ife_n, ife_r, Xz, ife_ne', XA, XB, XC, XD, decide_true, decide_false, Bool.not_true, Bool.not_false]
    exact W.ret (by simpa [StateOf, hv] using kk _ l)
theorem c_projectState (hp : Hp H) (ha : Ints .ro P H v A) (hb : Ints .ro P2 H u B) (hA : ∀ x ∈ A, 0 ≤ x ∧ x < B.length) (k : ∀ r H', Le H H' → Ints .own (Nw H) H' r (comp A B) → Q r H') : W (s_sp_projectState v u) H Q := by
  have hba := ha.bd
  unfold s_sp_projectState
  refine W.emp (R := RI) hp fun x1 H1 l1 h1 => ?_
  refine W.build 0 0 A.length (fun i => comp (A.take i) B) l1 (by simpa [comp] using h1) (Nat.zero_le _) (fun i H2 out _ hi f2 l2 h2 Q' kn => ?_) (fun H2 out f2 l2 h2 Q' kx => ?_) fun H2 out f2 l2 h2 => ?_
  · have ha2 := ha.leI l2
    have hb2 := hb.leI l2
    have hd := hA _ (List.getElem_mem hi)
    obtain ⟨a, hae⟩ : ∃ a : Nat, A[i] = (a : Int) := ⟨A[i].toNat, by omega⟩
    have hab : a < B.length := by omega
    have : (i : Int) < A.length := by omega
    simp only [↓XG ha2, this, ↓Xa, ↓Xb, ↓Xc, ↓Xd, ↓Xe, ↓Xf, ↓Xg, ↓Xh, ↓Xi, ↓Xj, ↓Xk, ↓Xl, ↓Xm, ↓Xn, ↓Xo, ↓Xp, ↓Xq, ↓Xr, ↓Xs, ↓Xt, ↓Xu, ↓Xv, ↓Xw, ↓Xx, ↓Xy, gx0, gx1, gx2, gx3, ife_e, ife_n, ife_r, Xz, ife_ne', XA, XB, XC, XD, decide_true, decide_false, Bool.not_true, Bool.not_false, ↓wr_ix ha2 hi, ↓wr_ldI ha2 hi, hae, ↓wr_ix hb2 hab, ↓wr_ldI hb2 hab]
    refine W.app1 (R := RI) l2.wf h2 stb_RI rfl (by decide) (by rw [comp_length]; simp; omega) (fun id h => Nat.le_trans l2.nx h) rfl fun y H4 f4 h4 => ?_
    rw [wr_inc (by omega)]
    refine W.ret (kn _ _ f4 ?_)
    rw [List.take_succ_eq_append_getElem hi]
    simpa [comp, hae, hab] using h4
  · simp only [↓XG ha, ↓Xa, ↓Xb, ↓Xc, ↓Xd, ↓Xe, ↓Xf, ↓Xg, ↓Xh, ↓Xi, ↓Xj, ↓Xk, ↓Xl, ↓Xm, ↓Xn, ↓Xo, ↓Xp, ↓Xq, ↓Xr, ↓Xs, ↓Xt, ↓Xu, ↓Xv, ↓Xw, ↓Xx, ↓Xy, gx0, gx1, gx2, gx3, ife_e, ife_n, ife_r, Xz, ife_ne', XA, XB, XC, XD, decide_true, decide_false, Bool.not_true, Bool.not_false, Int.lt_irrefl]
    exact W.ret kx
  · simp only [↓Xa, ↓Xb, ↓Xc, ↓Xd, ↓Xe, ↓Xf, ↓Xg, ↓Xh, ↓Xi, ↓Xj, ↓Xk, ↓Xl, ↓Xm, ↓Xn, ↓Xo, ↓Xp, ↓Xq, ↓Xr, ↓Xs, ↓Xt, ↓Xu, ↓Xv, ↓Xw, ↓Xx, ↓Xy, gx0, gx1, gx2, gx3, ife_e, ife_n, ife_r, Xz, ife_ne', XA, XB, XC, XD, decide_true, decide_false, Bool.not_true, Bool.not_false]
    exact W.ret (k _ _ l2 (by simpa using h2))
theorem c_PatternOf (hp : Hp H) (h : PuzA P P2 H v p) (ha : Ints .ro P3 H u A) (hb : Ints .ro P4 H x B) (ht : Tracked p A) (hs : StateOf p B) (kk : ∀ r H', Le H H' → Ints .own (Nw H) H' r (comp A B) → Q r H') : W (s_sp_PatternOf v u x) H Q := by
  have hpz := h
  obtain ⟨mv, rfl, hm, h64, hnl⟩ := h
  unfold s_sp_PatternOf
  refine W.box hp (by decide) rfl (cells_p hm.isCell) fun x1 H1 l1 b1 => ?_
  simp only [↓wr_ld3 b1]
  refine W.bnd (c_IsTrackedSet (p := p) l1.wf (hpz.le l1) (ha.leI l1) fun H2 l2 => ?_)
  have b1 := b1.le l2
  have l := l1.tr l2
  simp only [ht, ↓Xa, ↓Xb, ↓Xc, ↓Xd, ↓Xe, ↓Xf, ↓Xg, ↓Xh, ↓Xi, ↓Xj, ↓Xk, ↓Xl, ↓Xm, ↓Xn, ↓Xo, ↓Xp, ↓Xq, ↓Xr, ↓Xs, ↓Xt, ↓Xu, ↓Xv, ↓Xw, ↓Xx, ↓Xy, gx0, gx1, gx2, gx3, ife_e, ife_n, ife_r, Xz, ife_ne', XA, XB, XC, XD, decide_true, decide_false, Bool.not_true, Bool.not_false, ↓wr_ld3 b1]
  refine W.bnd (c_IsState (p := p) l.wf (hpz.le l) (hb.leI l) fun H3 l3 => ?_)
  have l := l.tr l3
  simp only [hs, ↓Xa, ↓Xb, ↓Xc, ↓Xd, ↓Xe, ↓Xf, ↓Xg, ↓Xh, ↓Xi, ↓Xj, ↓Xk, ↓Xl, ↓Xm, ↓Xn, ↓Xo, ↓Xp, ↓Xq, ↓Xr, ↓Xs, ↓Xt, ↓Xu, ↓Xv, ↓Xw, ↓Xx, ↓Xy, gx0, gx1, gx2, gx3, ife_e, ife_n, ife_r, Xz, ife_ne', XA, XB, XC, XD, decide_true, decide_false, Bool.not_true, Bool.not_false]
  refine W.bnd (c_projectState l.wf (ha.leI l) (hb.leI l) (fun a ha => ?_) fun r H4 l4 h4 => ?_)
  · have h1 := ht.2.2.1 a ha
    have h2 := hs.2.1
    omega
  · exact W.ret (kk _ _ (l.tr l4) (h4.mono fun id _ h => Nat.le_trans l.nx h))
end
end Go.Am

end

section
set_option linter.unusedSimpArgs false
set_option linter.unusedVariables false
/- Contracts: the distances of states. -/
namespace Go.Am
section
variable {β X : Type} {f : AVal → AM β} {Q : AVal → AHeap → Prop} {R R' : AHeap → AVal → X → Prop} {m m2 : Md} {P P2 P3 P4 P5 P' S T : Nat → Prop} {e e2 : TypeId} {H H0 H1 H2 H' Hk Hl : AHeap} {v u x y z lv dv sv : AVal} {A B D s r : List Int} {L : List (List Int)} {LL : List (List Int)} {p' q : List Int} {p : Puz} {cs : List AVal} {id n k n0 dd kk : Nat} {w : Bool}
theorem W.allocR {Q' : β → AHeap → Prop} (hp : Hp H) (h : Free H id) (k : ∀ x H', Fr (Nk id H) H H' → Bx (· = id) e H' x cs → W (f x) H' Q') : W (Am.bnd (allocC (some id) e cs) f) H Q' := by
  refine W.e (a := .ptr id 0) (H' := H.set id (.cells cs e 0)) ?_ (k _ _ (set_free hp h _) ⟨id, rfl, rfl, h.1, get_set⟩)
  simp only [Am.bnd, Am.ret, allocC, newB_some h]
theorem SSA.nk (h : SSA n0 dd H v L D w kk) (hf : Fr (Nk id H) H H') : SSA n0 dd H' v L D w kk := by
  obtain ⟨lv, dv, sv, S, rfl, h1, h2, h3, h4, h5⟩ := h
  exact ⟨lv, dv, sv, S, rfl, h1.nkL hf, h2.nkI hf, h3.nkI hf, h4, h5⟩
theorem SSA.lower {n1 : Nat} (h : SSA n1 dd H v L D w kk) (hn : n0 ≤ n1) : SSA n0 dd H v L D w kk := by
  obtain ⟨lv, dv, sv, S, rfl, h1, h2, h3, h4, h5⟩ := h
  exact ⟨lv, dv, sv, S, rfl, (h1.mono fun id _ h => Nat.le_trans hn h).monoR fun id _ h => ⟨Nat.le_trans hn h.1, h.2⟩, h2.mono fun id _ h => ⟨Nat.le_trans hn h.1, h.2⟩, h3.mono fun id _ h => Nat.le_trans hn h, h4, h5⟩
theorem idn_rng : ∀ x ∈ idn n, 0 ≤ x ∧ x ≤ (n : Int) - 1 := fun x hx => by
  simp only [idn, List.mem_map, List.mem_range] at hx
  obtain ⟨j, hj, rfl⟩ := hx
  omega
theorem idn_length : (idn n).length = n := by simp [idn]
theorem c_searchStates (hp : Hp H) (h : PuzA P P2 H v p) (hv : Valid p) (hn : p.points = n)
    (k : ∀ v' H' L D w dd, Le H H' → SSA H.next dd H' v' L D w n → Found p (idn n) L D w → Q (.tuple [v', .bool w]) H') : W (s_sp_searchStates v) H Q := by
  have hpz := h
  obtain ⟨mv, rfl, hm, h64, hnl⟩ := h
  have hn2 : n ≤ 20 := by have := hv.pts; omega
  unfold s_sp_searchStates
  refine W.box hp (by decide) rfl (cells_p hm.isCell) fun x1 H1 l1 b1 => ?_
  refine W.alloc l1.wf fun x2 H2 l2 b2 => ?_
  have b1 := b1.le l2
  have l := l1.tr l2
  have b2 := b2.mono (P' := fun id => H1.next ≤ id ∧ id < H2.next) fun id hid h => ⟨h, hid⟩
  simp only [↓wr_ld3 b1]
  refine W.bnd (c_IsValidPuzzle (p := p) l.wf (hpz.le l) fun H3 l3 => ?_)
  have b1 := b1.le l3
  have b2 := b2.le l3
  have l := l.tr l3
  simp only [hv, ↓Xa, ↓Xb, ↓Xc, ↓Xd, ↓Xe, ↓Xf, ↓Xg, ↓Xh, ↓Xi, ↓Xj, ↓Xk, ↓Xl, ↓Xm, ↓Xn, ↓Xo, ↓Xp, ↓Xq, ↓Xr, ↓Xs, ↓Xt, ↓Xu, ↓Xv, ↓Xw, ↓Xx, ↓Xy, gx0, gx1, gx2, gx3, ife_e, ife_n, ife_r, Xz, ife_ne', XA, XB, XC, XD, decide_true, decide_false, Bool.not_true, Bool.not_false]
  refine W.reserve l.wf fun H4 l4 fre => ?_
  have fr5 := fre 5 (by decide)
  have b1 := b1.le l4
  have b14 := b1
  have b2 := b2.le l4
  have l := l.tr l4
  simp only [↓XE b1, ↓wr_f0 b1, ↓Xy, hn]
  refine W.bnd (c_identity l.wf (by omega) fun x12 H5 l5 h12 => ?_)
  have b1 := b1.le l5
  have b2 := b2.le l5
  have l := l.tr l5
  simp only [↓wr_ld3 b1]
  refine W.agn1 (b14.ldw rfl) ?_
  have hpz5 := hpz.le l
  refine W.bnd (c_searchFrom (p := p) l.wf hpz5 hv h12.ro (fun x hx => by rw [hn]; exact idn_rng x hx) fun v' H6 L D w dd l6 ss hf => ?_)
  rw [idn_length] at ss
  have b2 := b2.le l6
  have ss := ss.lower l.nx
  have l := l.tr l6
  have fr5 := (fr5.le l5).le l6
  refine W.allocR l.wf fr5 fun x15 H7 f7 b15 => ?_
  have n1 := l1.nx
  have n2 := l2.nx
  have n3 := l3.nx
  have b2 := b2.nk f7
  have ss := ss.nk f7
  have l := Le.own l f7 fun i h => by have := h.1; omega
  obtain ⟨lv, dv, sv, rfl, hcell⟩ := ss.agg
  refine W.fsw l.wf b15 rfl rfl hcell fun H8 f8 b15 => ?_
  have b2 := b2.fr f8 fun id c fz hid hP hg hb => absurd hb.1 (by have := hP.2; omega)
  have ss := ss.bk f8 (by decide) (by decide) (by decide)
  have l := Le.own l f8 fun i h => by have := h.1; omega
  simp only [↓wr_ld4 b15, ↓Xy]
  refine W.fsw l.wf b2 rfl rfl hcell fun H9 f9 b2 => ?_
  have b158 := b15
  have b15 := b15.fr f9 fun id c fz hid hP hg hb => absurd hb.1.2 (by have h : id = _ := hP; omega)
  have ss := ss.bk f9 (by decide) (by decide) (by decide)
  have l := Le.own l f9 fun i h => by have := h.1.1; omega
  simp only [↓XE b15, ↓wr_f3 b15]
  refine W.agn1 (b158.ld1 rfl) ?_
  simp only [↓wr_ld4 b2]
  exact W.ret (k _ H9 L D w dd l ss hf)
theorem c_depthOf (hp : Hp H) (h : SSA n0 dd H v L D w kk) (hx : Ints .ro P4 H u s) (hk : s.length = kk)
    (k : ∀ H', Le H H' → Q (i64 (if s ∈ L then val L D s else -1)) H') : W (s_sp_depthOf v u) H Q := by
  obtain ⟨lv, dv, sv, rfl, hcell⟩ := h.agg
  obtain ⟨pl, pd, S, ps, sok, hDL⟩ := h.parts
  unfold s_sp_depthOf
  refine W.box hp (by decide) rfl hcell fun x1 H1 l1 b1 => ?_
  simp only [↓wr_ld4 b1]
  refine W.bnd (c_searchIndex l1.wf (pd.isCell) (pl.leL l1) (ps.leI l1) sok (hx.leI l1) hk fun H2 l2 => ?_)
  have b1 := b1.le l2
  have l := l1.tr l2
  by_cases hm : s ∈ L
  · have hi : L.idxOf s < D.length := by rw [hDL]; exact List.idxOf_lt_length_of_mem hm
    have hix : idxL L s = (L.idxOf s : Int) := by rw [idxL, if_pos hm]
    have h0 : ¬(L.idxOf s : Int) < 0 := by omega
    have pd := pd.leI l
    simp only [hix, h0, ↓Xa, ↓Xb, ↓Xc, ↓Xd, ↓Xe, ↓Xf, ↓Xg, ↓Xh, ↓Xi, ↓Xj, ↓Xk, ↓Xl, ↓Xm, ↓Xn, ↓Xo, ↓Xp, ↓Xq, ↓Xr, ↓Xs, ↓Xt, ↓Xu, ↓Xv, ↓Xw, ↓Xx, ↓Xy, gx0, gx1, gx2, gx3, ife_e, ife_n, ife_r, Xz, ife_ne', XA, XB, XC, XD, decide_true, decide_false, Bool.not_true, Bool.not_false, ↓XE b1, ↓wr_f1 b1, ↓wr_ix pd hi, ↓wr_ldI pd hi]
    have := k _ l
    rw [if_pos hm, val, getD_get hi] at this
    exact W.ret this
  · have hix : idxL L s = -1 := by rw [idxL, if_neg hm]
    simp only [hix, ↓Xa, ↓Xb, ↓Xc, ↓Xd, ↓Xe, ↓Xf, ↓Xg, ↓Xh, ↓Xi, ↓Xj, ↓Xk, ↓Xl, ↓Xm, ↓Xn, ↓Xo, ↓Xp, ↓Xq, ↓Xr, ↓Xs, ↓Xt, ↓Xu, ↓Xv, ↓Xw, ↓Xx, ↓Xy, gx0, gx1, gx2, gx3, ife_e, ife_n, ife_r, Xz, ife_ne', XA, XB, XC, XD, decide_true, decide_false, Bool.not_true, Bool.not_false, show (-1 : Int) < 0 from by decide]
    have := k _ l
    rw [if_neg hm] at this
    exact W.ret this
theorem c_Distance (hp : Hp H) (h : PuzA P P2 H v p) (hv : Valid p) (hn : p.points = n) (hx : Ints .ro P4 H u s) (hs : StateOf p s)
    (k : ∀ H' L D w, Le H H' → Found p (idn n) L D w → Q (i64 (if w = true ∧ s ∈ L then val L D s else -1)) H') : W (s_sp_Distance v u) H Q := by
  have hpz := h
  obtain ⟨mv, rfl, hm, h64, hnl⟩ := h
  unfold s_sp_Distance
  refine W.box hp (by decide) rfl (cells_p hm.isCell) fun x1 H1 l1 b1 => ?_
  simp only [↓wr_ld3 b1]
  refine W.c (R := fun a Hk => Le H1 Hk ∧ ∃ L D w, ∃ v', a = .tuple [v', i64 (if w = true ∧ s ∈ L then val L D s else -1), .bool (decide (w = true ∧ s ∈ L))] ∧ Found p (idn n) L D w ∧ ∃ lv dv sv, v' = .agg [lv, dv, sv, .bool w] ∧ ([lv, dv, sv, .bool w] : List AVal).all AVal.isCell = true) ?_ ?_
  · have hpz := hpz.le l1
    have hx := hx.leI l1
    have l0 := l1
    unfold s_sp_searchState
    refine W.box l1.wf (by decide) rfl (cells_p hm.isCell) fun x1 H2 l1 b1 => ?_
    refine W.alloc l1.wf fun x2 H3 l2 b2 => ?_
    have b1 := b1.le l2
    have l := l1.tr l2
    have b2 := b2.mono (P' := fun id => H2.next ≤ id ∧ id < H3.next) fun id hid h => ⟨h, hid⟩
    simp only [↓wr_ld3 b1]
    refine W.bnd (c_searchStates (p := p) l.wf (hpz.le l) hv hn fun v' H4 L D w dd l4 ss hf => ?_)
    have b1 := b1.le l4
    have b2 := b2.le l4
    have n3 := l4.nx
    have l := l.tr l4
    simp only [↓Xa, ↓Xb, ↓Xc, ↓Xd, ↓Xe, ↓Xf, ↓Xg, ↓Xh, ↓Xi, ↓Xj, ↓Xk, ↓Xl, ↓Xm, ↓Xn, ↓Xo, ↓Xp, ↓Xq, ↓Xr, ↓Xs, ↓Xt, ↓Xu, ↓Xv, ↓Xw, ↓Xx, ↓Xy, gx0, gx1, gx2, gx3, ife_e, ife_n, ife_r, Xz, ife_ne', XA, XB, XC, XD, decide_true, decide_false, Bool.not_true, Bool.not_false]
    refine W.alloc l.wf fun x7 H5 l5 b7 => ?_
    have b7 := b7.mono (P' := fun id => H4.next ≤ id ∧ id < H5.next) fun id hid h => ⟨h, hid⟩
    have b1 := b1.le l5
    have b2 := b2.le l5
    have ss := ss.le l5
    have l := l.tr l5
    obtain ⟨lv, dv, sv, rfl, hcell⟩ := ss.agg
    refine W.fsw l.wf b7 rfl rfl hcell fun H6 f6 b7 => ?_
    have b1 := b1.bk f6 (by decide)
    have b2 := b2.fr f6 fun id c fz hid hP hg hb => absurd hb.1.1 (by have := hP.2; omega)
    have ss := ss.bk f6 (by decide) (by decide) (by decide)
    have n1 := l1.nx
    have n2 := l2.nx
    have l := Le.own l f6 fun i h => by have := h.1.1; omega
    cases w with
    | false =>
      simp only [↓Xa, ↓Xb, ↓Xc, ↓Xd, ↓Xe, ↓Xf, ↓Xg, ↓Xh, ↓Xi, ↓Xj, ↓Xk, ↓Xl, ↓Xm, ↓Xn, ↓Xo, ↓Xp, ↓Xq, ↓Xr, ↓Xs, ↓Xt, ↓Xu, ↓Xv, ↓Xw, ↓Xx, ↓Xy, gx0, gx1, gx2, gx3, ife_e, ife_n, ife_r, Xz, ife_ne', XA, XB, XC, XD, decide_true, decide_false, Bool.not_true, Bool.not_false, ↓wr_ld4 b7]
      refine W.fsw l.wf b2 rfl rfl hcell fun H7 f7 b2 => ?_
      have l := Le.own l f7 fun i h => by have := h.1.1; omega
      simp only [↓wr_ld4 b2]
      refine W.ret ⟨l, L, D, false, _, ?_, hf, lv, dv, sv, rfl, hcell⟩
      simp
    | true =>
      simp only [↓Xa, ↓Xb, ↓Xc, ↓Xd, ↓Xe, ↓Xf, ↓Xg, ↓Xh, ↓Xi, ↓Xj, ↓Xk, ↓Xl, ↓Xm, ↓Xn, ↓Xo, ↓Xp, ↓Xq, ↓Xr, ↓Xs, ↓Xt, ↓Xu, ↓Xv, ↓Xw, ↓Xx, ↓Xy, gx0, gx1, gx2, gx3, ife_e, ife_n, ife_r, Xz, ife_ne', XA, XB, XC, XD, decide_true, decide_false, Bool.not_true, Bool.not_false, ↓wr_ld3 b1]
      refine W.bnd (c_IsState (p := p) l.wf (hpz.le l) (hx.leI l) fun H7 l7 => ?_)
      have b7 := b7.le l7
      have b2 := b2.le l7
      have ss := ss.le l7
      have l := l.tr l7
      simp only [hs, ↓Xa, ↓Xb, ↓Xc, ↓Xd, ↓Xe, ↓Xf, ↓Xg, ↓Xh, ↓Xi, ↓Xj, ↓Xk, ↓Xl, ↓Xm, ↓Xn, ↓Xo, ↓Xp, ↓Xq, ↓Xr, ↓Xs, ↓Xt, ↓Xu, ↓Xv, ↓Xw, ↓Xx, ↓Xy, gx0, gx1, gx2, gx3, ife_e, ife_n, ife_r, Xz, ife_ne', XA, XB, XC, XD, decide_true, decide_false, Bool.not_true, Bool.not_false, ↓wr_ld4 b7]
      refine W.bnd (c_depthOf l.wf ss (hx.leI l) (by have := hs.2.1; omega) fun H8 l8 => ?_)
      have b7 := b7.le l8
      have b2 := b2.le l8
      have l := l.tr l8
      simp only [↓wr_ld4 b7, ↓Xa, ↓Xb, ↓Xc, ↓Xd, ↓Xe, ↓Xf, ↓Xg, ↓Xh, ↓Xi, ↓Xj, ↓Xk, ↓Xl, ↓Xm, ↓Xn, ↓Xo, ↓Xp, ↓Xq, ↓Xr, ↓Xs, ↓Xt, ↓Xu, ↓Xv, ↓Xw, ↓Xx, ↓Xy, gx0, gx1, gx2, gx3, ife_e, ife_n, ife_r, Xz, ife_ne', XA, XB, XC, XD, decide_true, decide_false, Bool.not_true, Bool.not_false]
      refine W.fsw l.wf b2 rfl rfl hcell fun H9 f9 b2 => ?_
      have l := Le.own l f9 fun i h => by have := h.1.1; omega
      simp only [↓wr_ld4 b2]
      refine W.ret ⟨l, L, D, true, _, ?_, hf, lv, dv, sv, rfl, hcell⟩
      by_cases hm : s ∈ L
      · have h0 : 0 ≤ val L D s := (hf.dst hv).nn s hm
        simp [hm, h0]
      · simp [hm]
  · rintro a Hk ⟨lk, L, D, w, v', rfl, hf, lv, dv, sv, rfl, hcell⟩
    have l := l1.tr lk
    simp only [↓Xa, ↓Xb, ↓Xc, ↓Xd, ↓Xe, ↓Xf, ↓Xg, ↓Xh, ↓Xi, ↓Xj, ↓Xk, ↓Xl, ↓Xm, ↓Xn, ↓Xo, ↓Xp, ↓Xq, ↓Xr, ↓Xs, ↓Xt, ↓Xu, ↓Xv, ↓Xw, ↓Xx, ↓Xy, gx0, gx1, gx2, gx3, ife_e, ife_n, ife_r, Xz, ife_ne', XA, XB, XC, XD, decide_true, decide_false, Bool.not_true, Bool.not_false]
    refine W.alloc l.wf fun x7 H5 l5 b7 => ?_
    have l := l.tr l5
    refine W.fsw l.wf b7 rfl rfl hcell fun H6 f6 b7 => ?_
    have l := Le.own l f6 fun i h => by have := h.1; have := lk.nx; have := l1.nx; exact Nat.le_trans (Nat.le_trans l1.nx lk.nx) h.1
    have hk := k _ L D w l hf
    by_cases hc : w = true ∧ s ∈ L
    · simp only [hc, and_self, ↓Xa, ↓Xb, ↓Xc, ↓Xd, ↓Xe, ↓Xf, ↓Xg, ↓Xh, ↓Xi, ↓Xj, ↓Xk, ↓Xl, ↓Xm, ↓Xn, ↓Xo, ↓Xp, ↓Xq, ↓Xr, ↓Xs, ↓Xt, ↓Xu, ↓Xv, ↓Xw, ↓Xx, ↓Xy, gx0, gx1, gx2, gx3, ife_e, ife_n, ife_r, Xz, ife_ne', XA, XB, XC, XD, decide_true, decide_false, Bool.not_true, Bool.not_false] at hk ⊢
      exact W.ret hk
    · simp only [hc, ↓Xa, ↓Xb, ↓Xc, ↓Xd, ↓Xe, ↓Xf, ↓Xg, ↓Xh, ↓Xi, ↓Xj, ↓Xk, ↓Xl, ↓Xm, ↓Xn, ↓Xo, ↓Xp, ↓Xq, ↓Xr, ↓Xs, ↓Xt, ↓Xu, ↓Xv, ↓Xw, ↓Xx, ↓Xy, gx0, gx1, gx2, gx3, ife_e, ife_n, ife_r, Xz, ife_ne', XA, XB, XC, XD, decide_true, decide_false, Bool.not_true, Bool.not_false] at hk ⊢
      exact W.ret hk
end
end Go.Am

end

section
set_option linter.unusedSimpArgs false
set_option linter.unusedVariables false
/- The chain is built with any list of permutations; what its members are. -/
namespace Go.Am
section
variable {n k d : Nat} {p q r : List Int} {c c' c0 c1 c2 : Ch} {LL : List (List Int)} {G : List Int → Prop}
theorem cnt_cons {r : List Int} : cnt (r :: LL) = (if r = [] then 0 else 1) + cnt LL := by
  unfold cnt
  by_cases h : r = []
  · subst h; rw [if_pos rfl, List.filter_cons_of_neg (by simp)]; omega
  · rw [if_neg h, List.filter_cons_of_pos (by simpa using h), List.length_cons]; omega
theorem cnt_set : ∀ {LL : List (List Int)} {a : Nat}, a < LL.length → LL.getD a [] = [] → p ≠ [] → cnt (LL.set a p) = cnt LL + 1
  | [], a, h, _, _ => absurd h (Nat.not_lt_zero _)
  | x :: LL, 0, _, h, hp => by
    have : x = [] := by simpa using h
    rw [List.set_cons_zero, cnt_cons, cnt_cons, if_neg hp, if_pos this]; omega
  | x :: LL, a + 1, h, h2, hp => by
    rw [List.set_cons_succ, cnt_cons, cnt_cons, cnt_set (by simpa using h) (by simpa using h2) hp]; omega
def fl : List (List (List Int)) → Nat
  | [] => 0
  | x :: L => cnt x + fl L
theorem fl_set : ∀ {L : List (List (List Int))} {k : Nat} {x : List (List Int)}, k < L.length → cnt x = cnt (L.getD k []) + 1 → fl (L.set k x) = fl L + 1
  | [], k, x, h, _ => absurd h (Nat.not_lt_zero _)
  | y :: L, 0, x, _, h => by
    rw [List.set_cons_zero, fl, fl]; simp at h; omega
  | y :: L, k + 1, x, h, h2 => by
    rw [List.set_cons_succ, fl, fl, fl_set (by simpa using h) (by simpa using h2)]; omega
theorem fl_le : ∀ {L : List (List (List Int))}, (∀ i, i < L.length → (L.getD i []).length = n) → fl L ≤ L.length * n
  | [], _ => by simp [fl]
  | y :: L, h => by
    have h0 := h 0 (by simp)
    have h1 := fl_le (L := L) fun i hi => by simpa using h (i + 1) (by simpa using hi)
    have := cnt_le (LL := y)
    have h0 : y.length = n := by simpa using h0
    rw [fl, List.length_cons, Nat.add_mul]; omega
/-- Empty places. -/
def En (n : Nat) (c : Ch) : Nat := n * n - fl c.reps
structure CJ (n : Nat) (c : Ch) : Prop where
  ci : CI n c
  dg : ∀ i, i < n → c.rep i i = idn n
theorem CI.fl_le (h : CI n c) : fl c.reps ≤ n * n := by
  have := Am.fl_le (n := n) (L := c.reps) fun i hi => h.row i (by rw [← h.rl]; exact hi)
  rwa [h.rl] at this
theorem En_set (h : CI n c) (hk : k < n) {a : Nat} (ha : a < n) (hr : c.rep k a = []) (hp : Pm n p) : En n (c.setRep k a p) + 1 = En n c := by
  have e1 : fl (c.setRep k a p).reps = fl c.reps + 1 := by
    refine fl_set (by rw [h.rl]; exact hk) (cnt_set (by rw [h.row k hk]; exact ha) hr (hp.pos (by omega)))
  have e2 := (h.setRep (k := k) (y := a) hp).fl_le
  unfold En
  omega
theorem CJ.setRep (h : CJ n c) (hk : k < n) {a : Nat} (hr : c.rep k a = []) (hp : Pm n p) : CJ n (c.setRep k a p) := by
  refine ⟨h.ci.setRep hp, fun i hi => ?_⟩
  rw [rep_setRep]
  split
  · rename_i hc
    have : c.rep k a = idn n := by rw [← hc.2.2.1, ← hc.1]; exact h.dg i hi
    rw [hr] at this
    exact absurd this.symm ((idn_pm (by omega : 0 < n)).pos (by omega))
  · exact h.dg i hi
theorem CJ.addGen (h : CJ n c) (hp : Pm n p) : CJ n (c.addGen k p) := ⟨h.ci.addGen hp, h.dg⟩
theorem sift_reps (h : c.reps = c'.reps) : ∀ (f i : Nat) (p : List Int), pSift c f i p = pSift c' f i p
  | 0, i, p => rfl
  | f + 1, i, p => by
    have hr : ∀ i y, c.rep i y = c'.rep i y := fun i y => by rw [Ch.rep, Ch.rep, h]
    rw [pSift, pSift, hr]
    split
    · rfl
    · exact sift_reps h f _ _
theorem idn_comp (hp : p.length = n) : comp (idn n) p = p := by
  apply List.ext_getElem (by simp [comp, idn, hp])
  intro i h1 h2
  simp [comp, idn, h2]
/-- What a run leaves. -/
structure TR2 (n : Nat) (c c' : Ch) : Prop where
  cj : CJ n c'
  le : En n c' ≤ En n c
  eq : En n c' = En n c → c'.reps = c.reps
  ph : ∀ j, (c'.gen j).length + En n c' ≤ (c.gen j).length + En n c
theorem TR2.refl (h : CJ n c) : TR2 n c c := ⟨h, Nat.le_refl _, fun _ => rfl, fun _ => Nat.le_refl _⟩
theorem TR2.tr (h : TR2 n c c1) (h' : TR2 n c1 c2) : TR2 n c c2 := ⟨h'.cj, Nat.le_trans h'.le h.le, fun he => by
  have := h.le
  have := h'.le
  rw [h'.eq (by omega), h.eq (by omega)], fun j => Nat.le_trans (h'.ph j) (h.ph j)⟩
theorem fold_ex {α : Type} {f : Ch → α → Option Ch} {I : Ch → Prop} : ∀ {l : List α} {c : Ch}, (∀ c a, a ∈ l → I c → ∃ c', f c a = some c' ∧ I c') → I c → ∃ c', l.foldlM f c = some c' ∧ I c'
  | [], c, _, h => ⟨c, rfl, h⟩
  | a :: l, c, hf, h => by
    obtain ⟨c1, h1, h2⟩ := hf c a List.mem_cons_self h
    obtain ⟨c2, h3, h4⟩ := fold_ex (fun c b hb => hf c b (List.mem_cons_of_mem _ hb)) h2
    exact ⟨c2, by rw [List.foldlM_cons, h1]; exact h3, h4⟩
theorem fold_app {α : Type} {f : Ch → α → Option Ch} {l m : List α} (h1 : l.foldlM f c = some c1) (h2 : m.foldlM f c1 = some c2) : (l ++ m).foldlM f c = some c2 := by
  rw [List.foldlM_append, h1]; exact h2
theorem pGP_total (hn : n ≤ 1000) : ∀ (d : Nat),
    (∀ c k p, k < n → 2 * (n - k) + En n c ≤ d → CJ n c → Pm n p → (∀ j, (c.gen j).length + En n c ≤ 900000 + k + 1) → ∃ c', pP n d c k p = some c' ∧ TR2 n c c' ∧ ((pSift c (n - k) k p).2 ≠ n → En n c' < En n c)) ∧
    (∀ c k p, k ≤ n → 2 * (n - k) + En n c + 1 ≤ d → CJ n c → Pm n p → (∀ j, (c.gen j).length + En n c ≤ 900000 + k) → ∃ c', pG n d c k p = some c' ∧ TR2 n c c' ∧ ((pSift c (n - k) k p).2 ≠ n → En n c' < En n c))
  | 0 => ⟨fun c k p hk hd _ _ _ => by omega, fun c k p hk hd _ _ _ => by omega⟩
  | d + 1 => by
    obtain ⟨i1, i2⟩ := pGP_total hn d
    refine ⟨fun c k p hk hd hc hp hb => ?_, fun c k p hk hd hc hp hb => ?_⟩
    · show ∃ c', pStep n (pG n d) (pP n d) c k p = some c' ∧ _
      obtain ⟨a, ha, _, hat⟩ := hp.at hk
      have hu : n - k = (n - (k + 1)) + 1 := by omega
      unfold pStep
      rw [hu, pSift, hat]
      by_cases hr : c.rep k a = []
      · rw [if_neg (fun h => h hr), if_pos hr]
        have e0 := En_set hc.ci hk ha hr hp
        have hc0 : CJ n (c.setRep k a p) := hc.setRep hk hr hp
        generalize hc0e : c.setRep k a p = c0 at e0 hc0 ⊢
        have hg0 : ∀ j, c0.gen j = c.gen j := fun j => by rw [← hc0e]; rfl
        obtain ⟨c', h1, h2⟩ := fold_ex (f := fun c g => pP n d c k (comp p g)) (I := TR2 n c0) (l := c.gen k) (c := c0) (fun c1 g hg ht => by
          obtain ⟨c2, h3, h4, _⟩ := i1 c1 k (comp p g) hk (by have := ht.le; omega) ht.cj (hp.comp (hc.ci.gen k g hg)) (fun j => by
            have := ht.ph j; rw [hg0] at this; have := hb j; omega)
          exact ⟨c2, h3, ht.tr h4⟩) (TR2.refl hc0)
        refine ⟨c', h1, ⟨h2.cj, by have := h2.le; omega, fun h => by have := h2.le; omega, fun j => by
          have := h2.ph j; rw [hg0] at this; omega⟩, fun _ => by have := h2.le; omega⟩
      · rw [if_pos hr, if_neg hr]
        have hrp := hc.ci.rep k a hr
        exact i2 c (k + 1) _ hk (by omega) hc (hp.comp hrp.inv) fun j => by have := hb j; omega
    · show ∃ c', gStep n (pP n d) c k p = some c' ∧ _
      unfold gStep
      by_cases h0 : n ≤ k
      · rw [if_pos h0]
        have hkn : k = n := by omega
        subst hkn
        refine ⟨c, rfl, TR2.refl hc, fun h => ?_⟩
        rw [Nat.sub_self, pSift] at h
        exact absurd rfl h
      rw [if_neg h0]
      have hk' : k < n := by omega
      by_cases h1 : (pSift c (n - k) k p).2 = n
      · rw [if_pos h1]
        exact ⟨c, rfl, TR2.refl hc, fun h => absurd h1 h⟩
      rw [if_neg h1, if_neg (by have := hb k; omega)]
      have hc0 : CJ n (c.addGen k p) := hc.addGen hp
      have hE0 : En n (c.addGen k p) = En n c := rfl
      have hg0 : ∀ j, ((c.addGen k p).gen j).length ≤ (c.gen j).length + 1 := fun j => by
        rw [gen_addGen]; split
        · rename_i h; rw [h.1]; simp
        · omega
      have hg1 : ∀ j, j ≠ k → (c.addGen k p).gen j = c.gen j := fun j hj => by rw [gen_addGen, if_neg (fun h => hj h.1)]
      have hg2 : ((c.addGen k p).gen k).length = (c.gen k).length + 1 := by
        rw [gen_addGen, if_pos ⟨rfl, by rw [hc.ci.gl]; exact hk'⟩]; simp
      have hs0 : (c.addGen k p).reps = c.reps := rfl
      generalize c.addGen k p = c0 at hc0 hE0 hg0 hg1 hg2 hs0 ⊢
      let f : Ch → List Int → Option Ch := fun c s => pP n d c k (comp s p)
      let I : Ch → Prop := fun c1 => TR2 n c0 c1 ∧ c1.gen k = c0.gen k
      have step : ∀ c1 s, Pm n s → I c1 → ∃ c2, f c1 s = some c2 ∧ I c2 ∧ ((pSift c1 (n - k) k (comp s p)).2 ≠ n → En n c2 < En n c1) := fun c1 s hs ht => by
        obtain ⟨c2, h3, h4, h5⟩ := i1 c1 k (comp s p) hk' (by have := ht.1.le; omega) ht.1.cj (hs.comp hp) (fun j => by
          have := ht.1.ph j; have := hb j; have := hg0 j; omega)
        exact ⟨c2, h3, ⟨ht.1.tr h4, ((gens_keep d).1 _ _ _ _ h3 k (Nat.le_refl _)).trans ht.2⟩, h5⟩
      have hK : ∀ s ∈ (c.reps.getD k []).filter (fun r => r ≠ []), Pm n s := fun s hs => by
        obtain ⟨hs1, hs2⟩ := List.mem_filter.1 hs
        obtain ⟨y, _, rfl⟩ := rep_mem hs1
        exact hc.ci.rep k y (by simpa using hs2)
      have hid : idn n ∈ (c.reps.getD k []).filter (fun r => r ≠ []) := by
        refine List.mem_filter.2 ⟨?_, by simpa using (idn_pm (by omega : 0 < n)).pos (by omega)⟩
        have hl : k < (c.reps.getD k []).length := by rw [hc.ci.row k hk']; exact hk'
        have := hc.dg k hk'
        rw [Ch.rep, getD_get hl] at this
        rw [← this]; exact List.getElem_mem hl
      obtain ⟨K1, K2, hKe⟩ := List.append_of_mem hid
      rw [hKe] at hK ⊢
      obtain ⟨c1, g1, g2⟩ := fold_ex (f := f) (I := I) (l := K1) (c := c0) (fun c1 s hs ht => by
        obtain ⟨c2, h3, h4, _⟩ := step c1 s (hK s (by simp [hs])) ht
        exact ⟨c2, h3, h4⟩) ⟨TR2.refl hc0, rfl⟩
      obtain ⟨c2, g3, g4, g5⟩ := step c1 (idn n) (hK _ (by simp)) g2
      rw [idn_comp hp.1] at g5
      obtain ⟨c3, g6, g7⟩ := fold_ex (f := f) (I := fun c3 => I c3 ∧ En n c3 ≤ En n c2) (l := K2) (c := c2) (fun c1 s hs ht => by
        obtain ⟨c2, h3, h4, _⟩ := step c1 s (hK s (by simp [hs])) ht.1
        obtain ⟨c2', h3', h4', _⟩ := i1 c1 k (comp s p) hk' (by have := ht.1.1.le; omega) ht.1.1.cj ((hK s (by simp [hs])).comp hp) (fun j => by
          have := ht.1.1.ph j; have := hb j; have := hg0 j; omega)
        have : c2 = c2' := by
          have h3 : pP n d c1 k (comp s p) = some c2 := h3
          rw [h3] at h3'; cases h3'; rfl
        subst this
        exact ⟨c2, h3, h4, Nat.le_trans h4'.le ht.2⟩) ⟨g4, Nat.le_refl _⟩
      have hlt : En n c3 < En n c := by
        have a1 := g7.2
        have a2 := g2.1.le
        have a3 := g4.1.le
        rcases Nat.lt_or_ge (En n c1) (En n c0) with h | h
        · have a4 : En n c2 ≤ En n c1 := by
            obtain ⟨c2', h3', h4', _⟩ := i1 c1 k (comp (idn n) p) hk' (by have := g2.1.le; omega) g2.1.cj ((idn_pm (by omega)).comp hp) (fun j => by
              have := g2.1.ph j; have := hb j; have := hg0 j; omega)
            have g3 : pP n d c1 k (comp (idn n) p) = some c2 := g3
            rw [g3] at h3'; cases h3'
            exact h4'.le
          omega
        · have e1 := g2.1.eq (by omega)
          rw [hs0] at e1
          have := g5 (by rw [sift_reps e1]; exact h1)
          omega
      refine ⟨c3, fold_app g1 (show (idn n :: K2).foldlM f c1 = some c3 by rw [List.foldlM_cons, g3]; exact g6), ⟨g7.1.1.cj, by omega, fun h => by omega, fun j => ?_⟩, fun _ => hlt⟩
      by_cases hj : j = k
      · subst hj
        rw [g7.1.2, hg2]; omega
      · have := g7.1.1.ph j
        rw [hg1 j hj] at this
        omega
end
end Go.Am

end

section
set_option linter.unusedSimpArgs false
set_option linter.unusedVariables false
/- The chain of a list of permutations: it is built, its members lie in the group, its order fits. -/
namespace Go.Am
section
variable {n k d b : Nat} {p q r : List Int} {c c' c0 c1 c2 : Ch} {LL : List (List Int)} {G : List Int → Prop} {L : List Nat}
theorem CJ.emp (hn : 0 < n) : CJ n (emp n) := ⟨CI.emp hn, fun i hi => by rw [emp_rep hi, if_pos rfl]⟩
/-- The lists of a chain have G. -/
structure GC (G : List Int → Prop) (c : Ch) : Prop where
  rep : ∀ i y, c.rep i y ≠ [] → G (c.rep i y)
  gen : ∀ i, ∀ g ∈ c.gen i, G g
structure Grp (n : Nat) (G : List Int → Prop) : Prop where
  one : G (idn n)
  mul : ∀ p q, G p → G q → G (comp p q)
  inv : ∀ p, G p → G (inv p)
theorem GC.emp (hG : Grp n G) : GC G (emp n) := by
  refine ⟨fun i y hy => ?_, fun i g hg => by rw [emp_gen] at hg; cases hg⟩
  by_cases hi : i < n
  · rw [emp_rep hi] at hy ⊢
    split
    · exact hG.one
    · rename_i h; rw [if_neg h] at hy; exact absurd rfl hy
  · exact absurd (emp_rep' hi) hy
theorem GC.setRep (h : GC G c) (hp : G p) {y : Nat} : GC G (c.setRep k y p) := by
  refine ⟨fun i z hz => ?_, h.gen⟩
  rw [rep_setRep] at hz ⊢
  split
  · exact hp
  · rename_i h1
    rw [if_neg h1] at hz
    exact h.rep i z hz
theorem GC.addGen (h : GC G c) (hp : G p) : GC G (c.addGen k p) := by
  refine ⟨h.rep, fun i g hg => ?_⟩
  rw [gen_addGen] at hg
  split at hg
  · rcases List.mem_append.1 hg with hg | hg
    · exact h.gen k g hg
    · rw [List.mem_singleton.1 hg]; exact hp
  · exact h.gen i g hg
theorem GC.pGP (hG : Grp n G) : ∀ (d : Nat), (∀ c c' k p, GC G c → G p → pP n d c k p = some c' → GC G c') ∧ (∀ c c' k p, GC G c → G p → pG n d c k p = some c' → GC G c')
  | 0 => ⟨fun _ _ _ _ _ _ h => (by cases h), fun _ _ _ _ _ _ h => (by cases h)⟩
  | d + 1 => by
    obtain ⟨i1, i2⟩ := GC.pGP hG d
    refine ⟨fun c c' k p hc hp h => ?_, fun c c' k p hc hp h => ?_⟩
    · have h : pStep n (pG n d) (pP n d) c k p = some c' := h
      unfold pStep at h
      by_cases h1 : c.rep k (at0 p k) ≠ []
      · rw [if_pos h1] at h
        exact i2 _ _ _ _ hc (hG.mul _ _ hp (hG.inv _ (hc.rep _ _ h1))) h
      · rw [if_neg h1] at h
        exact foldM_inv (I := GC G) (fun c1 c2 g hg h1 h2 => i1 _ _ _ _ h1 (hG.mul _ _ hp (hc.gen k g hg)) h2) (hc.setRep hp) h
    · have h : gStep n (pP n d) c k p = some c' := h
      unfold gStep at h
      by_cases h0 : n ≤ k
      · rw [if_pos h0] at h; cases h; exact hc
      · rw [if_neg h0] at h
        by_cases h1 : (pSift c (n - k) k p).2 = n
        · rw [if_pos h1] at h; cases h; exact hc
        · rw [if_neg h1] at h
          split at h
          · cases h
          refine foldM_inv (I := GC G) (fun c1 c2 s hs h1 h2 => i1 _ _ _ _ h1 (hG.mul _ _ ?_ hp) h2) (hc.addGen hp) h
          obtain ⟨hs1, hs2⟩ := List.mem_filter.1 hs
          obtain ⟨y, _, rfl⟩ := rep_mem hs1
          exact hc.rep k y (by simpa using hs2)
theorem pBuild_ok (hn : 1 ≤ n) (hn' : n ≤ 20) (hL : ∀ g ∈ LL, Pm n g) (hG : Grp n G) (hGL : ∀ g ∈ LL, G g) : ∃ c, pBuild n LL = some c ∧ CJ n c ∧ GC G c := by
  have hE : En n (emp n) ≤ 400 := by
    have : n * n ≤ 20 * 20 := Nat.mul_le_mul hn' hn'
    unfold En; omega
  obtain ⟨c, h1, h2, h3⟩ := fold_ex (f := fun c g => pG n deep c 0 g) (I := fun c => TR2 n (emp n) c ∧ GC G c) (l := LL) (c := emp n) (fun c g hg ht => by
    obtain ⟨c2, h3, h4, _⟩ := (pGP_total (by omega : n ≤ 1000) deep).2 c 0 g (Nat.zero_le _) (by have := ht.1.le; unfold deep; omega) ht.1.cj (hL g hg) (fun j => by
      have := ht.1.ph j; rw [emp_gen] at this; simp at this; omega)
    exact ⟨c2, h3, ht.1.tr h4, (GC.pGP hG deep).2 _ _ _ _ ht.2 (hGL g hg) h3⟩) ⟨TR2.refl (CJ.emp hn), GC.emp hG⟩
  exact ⟨c, h1, h2.cj, h3⟩
theorem cnt_pos {a : Nat} : ∀ {LL : List (List Int)}, LL.getD a [] ≠ [] → 0 < cnt LL
  := fun {LL} h => by
    refine List.length_pos_iff.2 fun h' => ?_
    have ha : a < LL.length := by
      rcases Nat.lt_or_ge a LL.length with h1 | h1
      · exact h1
      · rw [List.getD_eq_getElem?_getD, List.getElem?_eq_none h1] at h; exact absurd rfl h
    rw [getD_get ha] at h
    have : LL[a] ∈ LL.filter fun r => r ≠ [] := List.mem_filter.2 ⟨List.getElem_mem ha, by simpa using h⟩
    rw [h'] at this; cases this
theorem prd_pos : ∀ {L : List Nat}, (∀ a ∈ L, 0 < a) → 0 < prd L
  | [], _ => Nat.one_pos
  | a :: L, h => Nat.mul_pos (h a (by simp)) (prd_pos fun x hx => h x (by simp [hx]))
theorem prd_le : ∀ {L : List Nat}, (∀ a ∈ L, a ≤ b) → prd L ≤ b ^ L.length
  | [], _ => by simp [prd]
  | a :: L, h => by
    rw [prd, List.length_cons, Nat.pow_succ, Nat.mul_comm]
    exact Nat.mul_le_mul (prd_le fun x hx => h x (by simp [hx])) (h a (by simp))
theorem sizes_pos (h : CJ n c) : 0 < prd (sizes n c) := prd_pos fun a ha => by
  simp only [sizes, List.mem_map, List.mem_range] at ha
  obtain ⟨i, hi, rfl⟩ := ha
  refine cnt_pos (a := i) ?_
  have := h.dg i hi
  rw [Ch.rep] at this
  rw [this]
  exact (idn_pm (by omega : 0 < n)).pos (by omega)
theorem sizes_small (h : CI n c) (hn : n ≤ 5) : PB2 (sizes n c) := by
  have hb : ∀ a ∈ sizes n c, a ≤ 5 := fun a ha => by
    simp only [sizes, List.mem_map, List.mem_range] at ha
    obtain ⟨i, hi, rfl⟩ := ha
    have := cnt_le (LL := c.reps.getD i [])
    rw [h.row i hi] at this
    unfold osz; omega
  have key : ∀ M : List Nat, (∀ a ∈ M, a ≤ 5) → M.length ≤ n → prd M ≤ 4000000000000000000 := fun M hM hl => by
    have h1 := prd_le hM
    have h2 : 5 ^ M.length ≤ 5 ^ 5 := Nat.pow_le_pow_right (by decide) (by omega)
    omega
  intro i
  refine ⟨key _ (fun a ha => hb a (List.mem_of_mem_take ha)) ?_, key _ (fun a ha => hb a (List.mem_of_mem_drop ha)) ?_⟩
  · simp [sizes]; omega
  · simp [sizes]
end
end Go.Am

end

section
set_option linter.unusedSimpArgs false
set_option linter.unusedVariables false
/- Contracts: what the reference says of an entry. -/
namespace Go.Am
section
variable {β X : Type} {f : AVal → AM β} {Q : AVal → AHeap → Prop} {R R' : AHeap → AVal → X → Prop} {m m2 : Md} {P P2 P3 P4 P5 P' S T : Nat → Prop} {e e2 : TypeId} {H H0 H1 H2 H' Hk Hl : AHeap} {v u x y z lv dv sv : AVal} {A B D s r : List Int} {LL : List (List Int)} {p' q : List Int} {p : Puz} {t : Tbl} {cs : List AVal} {id n k n0 dd kk : Nat} {w : Bool} {L : List Flt}
theorem Chkb.tr (h : Chkb p t) : Tracked p t.tracked := ⟨h.1, h.2.2.1⟩
theorem Chkb.patt {i : Nat} (h : Chkb p t) (hi : i < t.patterns.length) : Patt p t.tracked t.patterns[i] := ⟨h.tr, (h.2.2.2 i hi).1, (h.2.2.2 i hi).2⟩
theorem word1 {n : Nat} {l : Int} (hn : n ≤ 8) (hl : l ∈ lets n) : WordOf n [l] := by
  have := mem_lets.1 hl
  refine ⟨by simp, fun i hi => ?_⟩
  have : i = 0 := by simp at hi; exact hi
  subst this
  simp only [List.getElem_cons_zero]
  omega
theorem c_l30Next {l : Int} (hp : Hp H) (h : PuzA P P2 H v p) (ht : TblA P3 P4 H u t) (hb : Ints .ro P5 H x B) (hc : Tracked p t.tracked) (hB : Patt p t.tracked B) (hl : l ∈ lets p.moves.length)
    (k : ∀ H', Le H H' → Q (i64 (idxL t.patterns (act p l B))) H') : W (s_sp_l30Next v u x (i64 l)) H Q := by
  have hpz := h
  have htb := ht
  obtain ⟨mv, rfl, hm, h64, hnl⟩ := h
  obtain ⟨a, b, c, rfl, ha, hbb, hcc⟩ := ht
  have h8 := hc.1.h8
  unfold s_sp_l30Next
  refine W.box hp (by decide) rfl (cells_p hm.isCell) fun x1 H1 l1 b1 => ?_
  refine W.box l1.wf (by decide) rfl (cells_t ha.isCell hbb.isCell hcc.isCell) fun x2 H2 l2 b2 => ?_
  have b1 := b1.le l2
  have l' := l1.tr l2
  simp only [↓wr_ld3 b1, ↓XE b2, ↓wr_f0 b2]
  refine W.lit1 (R := RI) (a := l) l'.wf rfl (fun _ _ => rfl) fun x7 H3 l3 h7 => ?_
  have l' := l'.tr l3
  have b2 := b2.le l3
  refine W.bnd (c_PatternAfter (p := p) l'.wf (hpz.le l') (ha.leI l') (hb.leI l') h7.ro fun r H4 z l4 hr hz => ?_)
  have b2 := b2.le l4
  have l' := l'.tr l4
  have hok : Patt p t.tracked B ∧ WordOf p.moves.length [l] := ⟨hB, word1 (by omega) hl⟩
  rw [if_pos hok] at hz
  subst hr
  have hz : Ints .own (Nw H3) H4 z (act p l B) := hz
  simp only [↓Xa, ↓Xb, ↓Xc, ↓Xd, ↓Xe, ↓Xf, ↓Xg, ↓Xh, ↓Xi, ↓Xj, ↓Xk, ↓Xl, ↓Xm, ↓Xn, ↓Xo, ↓Xp, ↓Xq, ↓Xr, ↓Xs, ↓Xt, ↓Xu, ↓Xv, ↓Xw, ↓Xx, ↓Xy, gx0, gx1, gx2, gx3, ife_e, ife_n, ife_r, Xz, ife_ne', XA, XB, XC, XD, decide_true, decide_false, Bool.not_true, Bool.not_false, ↓XE b2, ↓wr_f1 b2, ↓wr_e (c_indexOfList (hbb.leL l') hz.ro)]
  exact W.ret (k _ l')
theorem c_l30Descent {i : Nat} (hp : Hp H) (h : PuzA P P2 H v p) (ht : TblA P3 P4 H u t) (hch : Chkb p t) (hi : i < t.patterns.length) (hb : Ints .ro P5 H x t.patterns[i])
    (k : ∀ H' r, Le H H' → (r = 0 ↔ ¬∃ l, l ∈ lets p.moves.length ∧ Desc p t i l) → Q (i64 r) H') : W (s_sp_l30Descent v u x (i64 (t.dists.getD i 0 - 1))) H Q := by
  have hpz := h
  have htb := ht
  obtain ⟨mv, rfl, hm, h64, hnl⟩ := h
  obtain ⟨a, b, c, rfl, ha, hbb, hcc⟩ := ht
  have hv := hch.1
  have h8 := hv.h8
  have h16 : (lets p.moves.length).length ≤ 16 := by rw [lets_length]; omega
  have hpi : t.patterns.getD i [] = t.patterns[i] := getD_get hi
  unfold s_sp_l30Descent
  refine W.box hp (by decide) rfl (cells_p hm.isCell) fun x1 H1 l1 b1 => ?_
  refine W.box l1.wf (by decide) rfl (cells_t ha.isCell hbb.isCell hcc.isCell) fun x2 H2 l2 b2 => ?_
  have b1 := b1.le l2
  have l' := l1.tr l2
  simp only [↓wr_ld3 b1]
  refine W.bnd (c_Letters (p := p) l'.wf (hpz.le l') fun lt H3 l3 hlt => ?_)
  rw [if_pos hv] at hlt
  have b1 := b1.le l3
  have b2 := b2.le l3
  have l' := l'.tr l3
  refine W.scanLe (e := 0) (w := [.undef]) l'.wf (lets p.moves.length).length (fun j => ∃ hj : j < (lets p.moves.length).length, Desc p t i (lets p.moves.length)[j]) (fun j => [i64 ((lets p.moves.length).getD j 0)]) (fun j Hj hj lj Q' k1 k2 => ?_) (fun Hj lj Q' k1 => ?_) (fun j Hj lj hj hb _ => ?_) fun Hj lj hno => ?_
  · have hlt := hlt.leI lj
    have b1 := b1.le lj
    have b2 := b2.le lj
    have l' := l'.tr lj
    have hj' : (j : Int) < (lets p.moves.length).length := by omega
    have hlm := List.getElem_mem hj
    simp only [↓XG hlt, hj', ↓Xa, ↓Xb, ↓Xc, ↓Xd, ↓Xe, ↓Xf, ↓Xg, ↓Xh, ↓Xi, ↓Xj, ↓Xk, ↓Xl, ↓Xm, ↓Xn, ↓Xo, ↓Xp, ↓Xq, ↓Xr, ↓Xs, ↓Xt, ↓Xu, ↓Xv, ↓Xw, ↓Xx, ↓Xy, gx0, gx1, gx2, gx3, ife_e, ife_n, ife_r, Xz, ife_ne', XA, XB, XC, XD, decide_true, decide_false, Bool.not_true, Bool.not_false, ↓wr_ld3 b1, ↓wr_ld3 b2, ↓wr_ix hlt hj, ↓wr_ldI hlt hj]
    refine W.bnd (c_l30Next (p := p) (t := t) l'.wf (hpz.le l') (htb.le l') (hb.leI l') hch.tr (hch.patt hi) hlm fun H4 l4 => ?_)
    have b2 := b2.le l4
    have hlt := hlt.leI l4
    have l' := l'.tr l4
    have hcc := hcc.leI l'
    by_cases hm : act p (lets p.moves.length)[j] t.patterns[i] ∈ t.patterns
    · have hix : t.patterns.idxOf (act p (lets p.moves.length)[j] t.patterns[i]) < t.dists.length := by rw [hch.2.1.2.2.1]; exact List.idxOf_lt_length_of_mem hm
      have h0 : (0 : Int) ≤ (t.patterns.idxOf (act p (lets p.moves.length)[j] t.patterns[i]) : Int) := by omega
      rw [idxL, if_pos hm]
      simp only [h0, ↓Xa, ↓Xb, ↓Xc, ↓Xd, ↓Xe, ↓Xf, ↓Xg, ↓Xh, ↓Xi, ↓Xj, ↓Xk, ↓Xl, ↓Xm, ↓Xn, ↓Xo, ↓Xp, ↓Xq, ↓Xr, ↓Xs, ↓Xt, ↓Xu, ↓Xv, ↓Xw, ↓Xx, ↓Xy, gx0, gx1, gx2, gx3, ife_e, ife_n, ife_r, Xz, ife_ne', XA, XB, XC, XD, decide_true, decide_false, Bool.not_true, Bool.not_false, ↓XE b2, ↓wr_f2 b2, ↓wr_ix hcc hix, ↓wr_ldI hcc hix]
      by_cases hd : t.dists[t.patterns.idxOf (act p (lets p.moves.length)[j] t.patterns[i])] = t.dists.getD i 0 - 1
      · simp only [hd, ↓Xa, ↓Xb, ↓Xc, ↓Xd, ↓Xe, ↓Xf, ↓Xg, ↓Xh, ↓Xi, ↓Xj, ↓Xk, ↓Xl, ↓Xm, ↓Xn, ↓Xo, ↓Xp, ↓Xq, ↓Xr, ↓Xs, ↓Xt, ↓Xu, ↓Xv, ↓Xw, ↓Xx, ↓Xy, gx0, gx1, gx2, gx3, ife_e, ife_n, ife_r, Xz, ife_ne', XA, XB, XC, XD, decide_true, decide_false, Bool.not_true, Bool.not_false, ↓wr_ix hlt hj, ↓wr_ldI hlt hj]
        have := k1 _ l4 ⟨hj, by rw [Desc, hpi, getD_get hix]; exact ⟨hm, hd⟩⟩
        rw [getD_get hj] at this
        exact W.ret this
      · simp only [hd, ↓Xa, ↓Xb, ↓Xc, ↓Xd, ↓Xe, ↓Xf, ↓Xg, ↓Xh, ↓Xi, ↓Xj, ↓Xk, ↓Xl, ↓Xm, ↓Xn, ↓Xo, ↓Xp, ↓Xq, ↓Xr, ↓Xs, ↓Xt, ↓Xu, ↓Xv, ↓Xw, ↓Xx, ↓Xy, gx0, gx1, gx2, gx3, ife_e, ife_n, ife_r, Xz, ife_ne', XA, XB, XC, XD, decide_true, decide_false, Bool.not_true, Bool.not_false]
        rw [wr_inc (by omega)]
        refine W.ret (k2 _ l4 fun ⟨_, h⟩ => hd ?_)
        rw [Desc, hpi, getD_get hix] at h
        exact h.2
    · have h0 : ¬(0 : Int) ≤ -1 := by omega
      rw [idxL, if_neg hm]
      simp only [h0, ↓Xa, ↓Xb, ↓Xc, ↓Xd, ↓Xe, ↓Xf, ↓Xg, ↓Xh, ↓Xi, ↓Xj, ↓Xk, ↓Xl, ↓Xm, ↓Xn, ↓Xo, ↓Xp, ↓Xq, ↓Xr, ↓Xs, ↓Xt, ↓Xu, ↓Xv, ↓Xw, ↓Xx, ↓Xy, gx0, gx1, gx2, gx3, ife_e, ife_n, ife_r, Xz, ife_ne', XA, XB, XC, XD, decide_true, decide_false, Bool.not_true, Bool.not_false]
      rw [wr_inc (by omega)]
      refine W.ret (k2 _ l4 fun ⟨_, h⟩ => hm ?_)
      rw [Desc, hpi] at h
      exact h.1
  · have hlt := hlt.leI lj
    simp only [↓XG hlt, ↓Xa, ↓Xb, ↓Xc, ↓Xd, ↓Xe, ↓Xf, ↓Xg, ↓Xh, ↓Xi, ↓Xj, ↓Xk, ↓Xl, ↓Xm, ↓Xn, ↓Xo, ↓Xp, ↓Xq, ↓Xr, ↓Xs, ↓Xt, ↓Xu, ↓Xv, ↓Xw, ↓Xx, ↓Xy, gx0, gx1, gx2, gx3, ife_e, ife_n, ife_r, Xz, ife_ne', XA, XB, XC, XD, decide_true, decide_false, Bool.not_true, Bool.not_false, Int.lt_irrefl]
    exact W.ret k1
  · obtain ⟨hj', hd⟩ := hb
    simp only [↓Xa, ↓Xb, ↓Xc, ↓Xd, ↓Xe, ↓Xf, ↓Xg, ↓Xh, ↓Xi, ↓Xj, ↓Xk, ↓Xl, ↓Xm, ↓Xn, ↓Xo, ↓Xp, ↓Xq, ↓Xr, ↓Xs, ↓Xt, ↓Xu, ↓Xv, ↓Xw, ↓Xx, ↓Xy, gx0, gx1, gx2, gx3, ife_e, ife_n, ife_r, Xz, ife_ne', XA, XB, XC, XD, decide_true, decide_false, Bool.not_true, Bool.not_false]
    refine W.ret (k _ _ (l'.tr lj) ⟨fun h => ?_, fun h => absurd ⟨_, List.getElem_mem hj', hd⟩ h⟩)
    rw [getD_get hj] at h
    have := mem_lets.1 (List.getElem_mem hj)
    exact absurd h this.1
  · simp only [↓Xa, ↓Xb, ↓Xc, ↓Xd, ↓Xe, ↓Xf, ↓Xg, ↓Xh, ↓Xi, ↓Xj, ↓Xk, ↓Xl, ↓Xm, ↓Xn, ↓Xo, ↓Xp, ↓Xq, ↓Xr, ↓Xs, ↓Xt, ↓Xu, ↓Xv, ↓Xw, ↓Xx, ↓Xy, gx0, gx1, gx2, gx3, ife_e, ife_n, ife_r, Xz, ife_ne', XA, XB, XC, XD, decide_true, decide_false, Bool.not_true, Bool.not_false]
    refine W.ret (k _ _ (l'.tr lj) ⟨fun _ => ?_, fun _ => rfl⟩)
    rintro ⟨l, hl, hd⟩
    obtain ⟨j, hj, rfl⟩ := List.mem_iff_getElem.1 hl
    exact hno j hj ⟨hj, hd⟩
theorem c_l30Checkable (hp : Hp H) (h : PuzA P P2 H v p) (ht : TblA P3 P4 H u t) (k : ∀ H', Le H H' → Q (.bool (decide (Chkb p t))) H') : W (s_sp_l30Checkable v u) H Q := by
  have hpz := h
  have htb := ht
  obtain ⟨mv, rfl, hm, h64, hnl⟩ := h
  obtain ⟨a, b, c, rfl, ha, hbb, hcc⟩ := ht
  have hbd := hbb.bd
  unfold s_sp_l30Checkable
  refine W.box hp (by decide) rfl (cells_p hm.isCell) fun x1 H1 l1 b1 => ?_
  refine W.box l1.wf (by decide) rfl (cells_t ha.isCell hbb.isCell hcc.isCell) fun x2 H2 l2 b2 => ?_
  have b1 := b1.le l2
  have l' := l1.tr l2
  simp only [↓wr_ld3 b1]
  refine W.bnd (c_IsValidPuzzle (p := p) l'.wf (hpz.le l') fun H3 l3 => ?_)
  have b1 := b1.le l3
  have b2 := b2.le l3
  have l' := l'.tr l3
  by_cases hv : Valid p
  case neg =>
    simp only [hv, ↓Xa, ↓Xb, ↓Xc, ↓Xd, ↓Xe, ↓Xf, ↓Xg, ↓Xh, ↓Xi, ↓Xj, ↓Xk, ↓Xl, ↓Xm, ↓Xn, ↓Xo, ↓Xp, ↓Xq, ↓Xr, ↓Xs, ↓Xt, ↓Xu, ↓Xv, ↓Xw, ↓Xx, ↓Xy, gx0, gx1, gx2, gx3, ife_e, ife_n, ife_r, Xz, ife_ne', XA, XB, XC, XD, decide_true, decide_false, Bool.not_true, Bool.not_false]
    have : ¬Chkb p t := fun h => hv h.1
    exact W.ret (by simpa only [this, decide_false] using k _ l')
  simp only [hv, ↓Xa, ↓Xb, ↓Xc, ↓Xd, ↓Xe, ↓Xf, ↓Xg, ↓Xh, ↓Xi, ↓Xj, ↓Xk, ↓Xl, ↓Xm, ↓Xn, ↓Xo, ↓Xp, ↓Xq, ↓Xr, ↓Xs, ↓Xt, ↓Xu, ↓Xv, ↓Xw, ↓Xx, ↓Xy, gx0, gx1, gx2, gx3, ife_e, ife_n, ife_r, Xz, ife_ne', XA, XB, XC, XD, decide_true, decide_false, Bool.not_true, Bool.not_false, ↓wr_ld3 b2]
  refine W.bnd (c_spIsWellFormedTable (t := t) l'.wf (htb.le l') fun H4 l4 => ?_)
  have b1 := b1.le l4
  have b2 := b2.le l4
  have l' := l'.tr l4
  by_cases hw : WFT t
  case neg =>
    simp only [hw, ↓Xa, ↓Xb, ↓Xc, ↓Xd, ↓Xe, ↓Xf, ↓Xg, ↓Xh, ↓Xi, ↓Xj, ↓Xk, ↓Xl, ↓Xm, ↓Xn, ↓Xo, ↓Xp, ↓Xq, ↓Xr, ↓Xs, ↓Xt, ↓Xu, ↓Xv, ↓Xw, ↓Xx, ↓Xy, gx0, gx1, gx2, gx3, ife_e, ife_n, ife_r, Xz, ife_ne', XA, XB, XC, XD, decide_true, decide_false, Bool.not_true, Bool.not_false]
    have : ¬Chkb p t := fun h => hw h.2.1
    exact W.ret (by simpa only [this, decide_false] using k _ l')
  simp only [hw, ↓Xa, ↓Xb, ↓Xc, ↓Xd, ↓Xe, ↓Xf, ↓Xg, ↓Xh, ↓Xi, ↓Xj, ↓Xk, ↓Xl, ↓Xm, ↓Xn, ↓Xo, ↓Xp, ↓Xq, ↓Xr, ↓Xs, ↓Xt, ↓Xu, ↓Xv, ↓Xw, ↓Xx, ↓Xy, gx0, gx1, gx2, gx3, ife_e, ife_n, ife_r, Xz, ife_ne', XA, XB, XC, XD, decide_true, decide_false, Bool.not_true, Bool.not_false, ↓wr_ld3 b1, ↓XE b2, ↓wr_f0 b2]
  refine W.bnd (c_IsTrackedSet (p := p) l'.wf (hpz.le l') (ha.leI l') fun H5 l5 => ?_)
  have b1 := b1.le l5
  have b2 := b2.le l5
  have l' := l'.tr l5
  by_cases htr : Tracked p t.tracked
  case neg =>
    simp only [htr, ↓Xa, ↓Xb, ↓Xc, ↓Xd, ↓Xe, ↓Xf, ↓Xg, ↓Xh, ↓Xi, ↓Xj, ↓Xk, ↓Xl, ↓Xm, ↓Xn, ↓Xo, ↓Xp, ↓Xq, ↓Xr, ↓Xs, ↓Xt, ↓Xu, ↓Xv, ↓Xw, ↓Xx, ↓Xy, gx0, gx1, gx2, gx3, ife_e, ife_n, ife_r, Xz, ife_ne', XA, XB, XC, XD, decide_true, decide_false, Bool.not_true, Bool.not_false]
    have : ¬Chkb p t := fun h => htr h.tr
    exact W.ret (by simpa only [this, decide_false] using k _ l')
  simp only [htr, ↓Xa, ↓Xb, ↓Xc, ↓Xd, ↓Xe, ↓Xf, ↓Xg, ↓Xh, ↓Xi, ↓Xj, ↓Xk, ↓Xl, ↓Xm, ↓Xn, ↓Xo, ↓Xp, ↓Xq, ↓Xr, ↓Xs, ↓Xt, ↓Xu, ↓Xv, ↓Xw, ↓Xx, ↓Xy, gx0, gx1, gx2, gx3, ife_e, ife_n, ife_r, Xz, ife_ne', XA, XB, XC, XD, decide_true, decide_false, Bool.not_true, Bool.not_false]
  refine W.scanLe (e := 0) (w := [.undef]) l'.wf t.patterns.length (fun j => ¬∃ hj : j < t.patterns.length, Patt p t.tracked t.patterns[j]) (fun j => [.bool false]) (fun j Hj hj lj Q' k1 k2 => ?_) (fun Hj lj Q' k1 => ?_) (fun j Hj lj hj hb _ => ?_) fun Hj lj hno => ?_
  · have b1 := b1.le lj
    have b2 := b2.le lj
    have l' := l'.tr lj
    have hj' : (j : Int) < t.patterns.length := by omega
    have hbb := hbb.leL l'
    obtain ⟨z, hz, hzL, _⟩ := hbb.ld1 hj
    simp only [↓XE b2, ↓wr_f1 b2, ↓XG hbb, hj', ↓Xa, ↓Xb, ↓Xc, ↓Xd, ↓Xe, ↓Xf, ↓Xg, ↓Xh, ↓Xi, ↓Xj, ↓Xk, ↓Xl, ↓Xm, ↓Xn, ↓Xo, ↓Xp, ↓Xq, ↓Xr, ↓Xs, ↓Xt, ↓Xu, ↓Xv, ↓Xw, ↓Xx, ↓Xy, gx0, gx1, gx2, gx3, ife_e, ife_n, ife_r, Xz, ife_ne', XA, XB, XC, XD, decide_true, decide_false, Bool.not_true, Bool.not_false, ↓wr_ld3 b1, ↓wr_f0 b2, ↓wr_ix hbb hj, ↓wr_e hz]
    refine W.bnd (c_IsPattern (p := p) l'.wf (hpz.le l') (ha.leI l') hzL fun H6 l6 => ?_)
    by_cases hq : Patt p t.tracked t.patterns[j]
    · simp only [hq, ↓Xa, ↓Xb, ↓Xc, ↓Xd, ↓Xe, ↓Xf, ↓Xg, ↓Xh, ↓Xi, ↓Xj, ↓Xk, ↓Xl, ↓Xm, ↓Xn, ↓Xo, ↓Xp, ↓Xq, ↓Xr, ↓Xs, ↓Xt, ↓Xu, ↓Xv, ↓Xw, ↓Xx, ↓Xy, gx0, gx1, gx2, gx3, ife_e, ife_n, ife_r, Xz, ife_ne', XA, XB, XC, XD, decide_true, decide_false, Bool.not_true, Bool.not_false]
      rw [wr_inc (by omega)]
      exact W.ret (k2 _ l6 fun h => h ⟨hj, hq⟩)
    · simp only [hq, ↓Xa, ↓Xb, ↓Xc, ↓Xd, ↓Xe, ↓Xf, ↓Xg, ↓Xh, ↓Xi, ↓Xj, ↓Xk, ↓Xl, ↓Xm, ↓Xn, ↓Xo, ↓Xp, ↓Xq, ↓Xr, ↓Xs, ↓Xt, ↓Xu, ↓Xv, ↓Xw, ↓Xx, ↓Xy, gx0, gx1, gx2, gx3, ife_e, ife_n, ife_r, Xz, ife_ne', XA, XB, XC, XD, decide_true, decide_false, Bool.not_true, Bool.not_false]
      exact W.ret (k1 _ l6 fun ⟨_, h⟩ => hq h)
  · have b2 := b2.le lj
    simp only [↓XE b2, ↓wr_f1 b2, ↓XG hbb, ↓Xa, ↓Xb, ↓Xc, ↓Xd, ↓Xe, ↓Xf, ↓Xg, ↓Xh, ↓Xi, ↓Xj, ↓Xk, ↓Xl, ↓Xm, ↓Xn, ↓Xo, ↓Xp, ↓Xq, ↓Xr, ↓Xs, ↓Xt, ↓Xu, ↓Xv, ↓Xw, ↓Xx, ↓Xy, gx0, gx1, gx2, gx3, ife_e, ife_n, ife_r, Xz, ife_ne', XA, XB, XC, XD, decide_true, decide_false, Bool.not_true, Bool.not_false, Int.lt_irrefl]
    exact W.ret k1
  · simp only [↓Xa, ↓Xb, ↓Xc, ↓Xd, ↓Xe, ↓Xf, ↓Xg, ↓Xh, ↓Xi, ↓Xj, ↓Xk, ↓Xl, ↓Xm, ↓Xn, ↓Xo, ↓Xp, ↓Xq, ↓Xr, ↓Xs, ↓Xt, ↓Xu, ↓Xv, ↓Xw, ↓Xx, ↓Xy, gx0, gx1, gx2, gx3, ife_e, ife_n, ife_r, Xz, ife_ne', XA, XB, XC, XD, decide_true, decide_false, Bool.not_true, Bool.not_false]
    have : ¬Chkb p t := fun h => hb ⟨hj, h.patt hj⟩
    exact W.ret (by simpa only [this, decide_false] using k _ (l'.tr lj))
  · simp only [↓Xa, ↓Xb, ↓Xc, ↓Xd, ↓Xe, ↓Xf, ↓Xg, ↓Xh, ↓Xi, ↓Xj, ↓Xk, ↓Xl, ↓Xm, ↓Xn, ↓Xo, ↓Xp, ↓Xq, ↓Xr, ↓Xs, ↓Xt, ↓Xu, ↓Xv, ↓Xw, ↓Xx, ↓Xy, gx0, gx1, gx2, gx3, ife_e, ife_n, ife_r, Xz, ife_ne', XA, XB, XC, XD, decide_true, decide_false, Bool.not_true, Bool.not_false]
    have : Chkb p t := ⟨hv, hw, htr.2, fun j hj => by
      obtain ⟨_, h⟩ := Classical.not_not.1 (hno j hj)
      exact ⟨h.2.1, h.2.2⟩⟩
    exact W.ret (by simpa only [this, decide_true] using k _ (l'.tr lj))
end
end Go.Am

end

section
set_option linter.unusedSimpArgs false
set_option linter.unusedVariables false
/- Contracts: the faults of an entry, by the reference. -/
namespace Go.Am
section
variable {β X : Type} {f : AVal → AM β} {Q : AVal → AHeap → Prop} {R R' : AHeap → AVal → X → Prop} {m m2 : Md} {P P2 P3 P4 P5 P' S T : Nat → Prop} {e e2 : TypeId} {H H0 H1 H2 H' Hk Hl : AHeap} {v u x y z lv dv sv : AVal} {A B D s r : List Int} {LL : List (List Int)} {p' q : List Int} {p : Puz} {t : Tbl} {cs : List AVal} {id n k n0 dd kk : Nat} {w : Bool} {L : List Flt}
/-- A fault is added, or not. -/
theorem sadd0 {Q : β → AHeap → Prop} {b : Bool} {kd i : Int} {g : Ex × List AVal → AM β} (hp : Hp H) (h : FA (n0 ≤ ·) H v L) (hn0 : n0 ≤ H.next) (hL : L.length ≤ 100000)
    (k : ∀ y H', Fr (Bk (n0 ≤ ·) t_impl_TableFault H) H H' → FA (n0 ≤ ·) H' y (L ++ if b = true then [(kd, i, 0)] else []) → W (g (.normal, [y])) H' Q) :
    W (bnd (br (.bool b) (bnd (bnd (bnd (cell1 (.int .i64 kd)) fun y22 => bnd (cell1 (i64 i)) fun y23 => ret [y22, y23, .int .i64 0]) fun cs => ret (.agg cs)) fun x24 =>
 bnd (bnd (afillM (fun i => some (i * 3, 3)) [(0, x24)] [.int .i64 0, .int .i64 0, .int .i64 0]) fun cs => allocS none t_impl_TableFault 3 1 cs) fun x25 =>
 bnd (appS t_impl_TableFault 3 24 v x25) fun x26 =>
 rx .normal [x26]) (rx .normal [v])) g) H Q := by
  cases b with
  | false =>
    simp only [↓Xa, ↓Xb, ↓Xc, ↓Xd, ↓Xe, ↓Xf, ↓Xg, ↓Xh, ↓Xi, ↓Xj, ↓Xk, ↓Xl, ↓Xm, ↓Xn, ↓Xo, ↓Xp, ↓Xq, ↓Xr, ↓Xs, ↓Xt, ↓Xu, ↓Xv, ↓Xw, ↓Xx, ↓Xy, gx0, gx1, gx2, gx3, ife_e, ife_n, ife_r, Xz, ife_ne', XA, XB, XC, XD, decide_true, decide_false, Bool.not_true, Bool.not_false, ↓wr_rx]
    exact k v H ((Le.refl hp).mono fun _ _ h => h.elim) (by simpa using h)
  | true =>
    simp only [↓Xk, ↓XH, ↓wr_c1u, ↓Xa]
    rw [← XH]
    refine W.flit hp fun y H1 l1 hy => ?_
    simp only [↓XH]
    refine W.app3 l1.wf (h.le l1) hy.rd (by simp; omega) (fun id hid => Nat.le_trans (Nat.le_trans hn0 l1.nx) hid) fun z H2 f2 hz => ?_
    simp only [↓Xa, ↓Xb, ↓Xc, ↓Xd, ↓Xe, ↓Xf, ↓Xg, ↓Xh, ↓Xi, ↓Xj, ↓Xk, ↓Xl, ↓Xm, ↓Xn, ↓Xo, ↓Xp, ↓Xq, ↓Xr, ↓Xs, ↓Xt, ↓Xu, ↓Xv, ↓Xw, ↓Xx, ↓Xy, gx0, gx1, gx2, gx3, ife_e, ife_n, ife_r, Xz, ife_ne', XA, XB, XC, XD, decide_true, decide_false, Bool.not_true, Bool.not_false, ↓wr_rx]
    exact k z H2 (l1.bk.bk f2) (by simpa using hz)
theorem scond_start {K : AVal → AM β} {Q : β → AHeap → Prop} {i d : Int} {x2 a b c : AVal} (bx : Bx P e H x2 [a, b, c]) (ha : Ints .ro P2 H a A) (hb : Lists .ro P3 P4 H b LL) (h0 : 0 < LL.length) :
    W (bnd (gd (.bool (decide (i = 0))) true (ret (i64 d))) fun x9 =>
 bnd (gd (.bool (decide (i = 0))) true (abin .neq x9 (.int .i64 0))) fun x10 =>
 bnd (gd (.bool (decide (i = 0))) true (ret x10)) fun x11 =>
 bnd (gd x11 false (fadd 1 x2)) fun x12 =>
 bnd (gd x11 false (ld1 x12)) fun x13 =>
 bnd (gd x11 false (ixa 1 x13 (.int .i64 0))) fun x14 =>
 bnd (gd x11 false (ld1 x14)) fun x15 =>
 bnd (gd x11 false (fadd 0 x2)) fun x16 =>
 bnd (gd x11 false (ld1 x16)) fun x17 =>
 bnd (gd x11 false (s_sp_equalInts x15 x17)) fun x18 =>
 bnd (gd x11 false (aun .not x18)) fun x19 =>
 bnd (gd (.bool (decide (i = 0))) true (pick3 x11 (.bool true) x19)) fun x20 =>
 bnd (pick3 (.bool (decide (i = 0))) x20 (.bool false)) fun x21 => K x21) H Q ↔ W (K (.bool (decide (i = 0 ∧ (d ≠ 0 ∨ LL[0] ≠ A))))) H Q := by
  have hix : ixa 1 b (.int .i64 0) = ret (elemP b 0) := hb.ixa h0
  obtain ⟨z, hz, hzL, _⟩ := hb.ld1 h0
  by_cases h1 : i = 0
  · simp only [h1, ↓Xa, ↓Xb, ↓Xc, ↓Xd, ↓Xe, ↓Xf, ↓Xg, ↓Xh, ↓Xi, ↓Xj, ↓Xk, ↓Xl, ↓Xm, ↓Xn, ↓Xo, ↓Xp, ↓Xq, ↓Xr, ↓Xs, ↓Xt, ↓Xu, ↓Xv, ↓Xw, ↓Xx, ↓Xy, gx0, gx1, gx2, gx3, ife_e, ife_n, ife_r, Xz, ife_ne', XA, XB, XC, XD, decide_true, decide_false, Bool.not_true, Bool.not_false]
    by_cases h2 : d = 0
    · simp only [h2, ↓Xa, ↓Xb, ↓Xc, ↓Xd, ↓Xe, ↓Xf, ↓Xg, ↓Xh, ↓Xi, ↓Xj, ↓Xk, ↓Xl, ↓Xm, ↓Xn, ↓Xo, ↓Xp, ↓Xq, ↓Xr, ↓Xs, ↓Xt, ↓Xu, ↓Xv, ↓Xw, ↓Xx, ↓Xy, gx0, gx1, gx2, gx3, ife_e, ife_n, ife_r, Xz, ife_ne', XA, XB, XC, XD, decide_true, decide_false, Bool.not_true, Bool.not_false, ↓XE bx, ↓wr_f1 bx, ↓wr_p hix, ↓wr_e hz, ↓wr_f0 bx, ↓wr_e (c_equalInts hzL ha)]
      by_cases h3 : LL[0] = A
      · simp only [h3, ↓Xa, ↓Xb, ↓Xc, ↓Xd, ↓Xe, ↓Xf, ↓Xg, ↓Xh, ↓Xi, ↓Xj, ↓Xk, ↓Xl, ↓Xm, ↓Xn, ↓Xo, ↓Xp, ↓Xq, ↓Xr, ↓Xs, ↓Xt, ↓Xu, ↓Xv, ↓Xw, ↓Xx, ↓Xy, gx0, gx1, gx2, gx3, ife_e, ife_n, ife_r, Xz, ife_ne', XA, XB, XC, XD, decide_true, decide_false, Bool.not_true, Bool.not_false, ne_eq, not_true, or_self, and_false]
      · simp only [h3, ↓Xa, ↓Xb, ↓Xc, ↓Xd, ↓Xe, ↓Xf, ↓Xg, ↓Xh, ↓Xi, ↓Xj, ↓Xk, ↓Xl, ↓Xm, ↓Xn, ↓Xo, ↓Xp, ↓Xq, ↓Xr, ↓Xs, ↓Xt, ↓Xu, ↓Xv, ↓Xw, ↓Xx, ↓Xy, gx0, gx1, gx2, gx3, ife_e, ife_n, ife_r, Xz, ife_ne', XA, XB, XC, XD, decide_true, decide_false, Bool.not_true, Bool.not_false, ne_eq, not_true, not_false_iff, or_true, and_true]
    · simp only [h2, ↓Xa, ↓Xb, ↓Xc, ↓Xd, ↓Xe, ↓Xf, ↓Xg, ↓Xh, ↓Xi, ↓Xj, ↓Xk, ↓Xl, ↓Xm, ↓Xn, ↓Xo, ↓Xp, ↓Xq, ↓Xr, ↓Xs, ↓Xt, ↓Xu, ↓Xv, ↓Xw, ↓Xx, ↓Xy, gx0, gx1, gx2, gx3, ife_e, ife_n, ife_r, Xz, ife_ne', XA, XB, XC, XD, decide_true, decide_false, Bool.not_true, Bool.not_false, ne_eq, not_false_iff, true_or, and_true]
  · simp only [h1, ↓Xa, ↓Xb, ↓Xc, ↓Xd, ↓Xe, ↓Xf, ↓Xg, ↓Xh, ↓Xi, ↓Xj, ↓Xk, ↓Xl, ↓Xm, ↓Xn, ↓Xo, ↓Xp, ↓Xq, ↓Xr, ↓Xs, ↓Xt, ↓Xu, ↓Xv, ↓Xw, ↓Xx, ↓Xy, gx0, gx1, gx2, gx3, ife_e, ife_n, ife_r, Xz, ife_ne', XA, XB, XC, XD, decide_true, decide_false, Bool.not_true, Bool.not_false, false_and]
theorem FA.to (h : FA (n0 ≤ ·) H v L) (hf : Fr (Bk P' e H) H H') (he : e ≠ t_impl_TableFault) : FA (n0 ≤ ·) H' v L := h.bk hf he
theorem c_l30Entry {i : Nat} (hp : Hp H) (h : PuzA P P2 H v p) (ht : TblA P3 P4 H u t) (hch : Chkb p t) (hi : i < t.patterns.length)
    (k : ∀ r H', Le H H' → FA (Nw H) H' r (efaults p t i) → Q r H') : W (s_sp_l30Entry v u (i64 (i : Int))) H Q := by
  have hpz := h
  have htb := ht
  obtain ⟨mv, rfl, hm, h64, hnl⟩ := h
  obtain ⟨a, b, c, rfl, ha, hbb, hcc⟩ := ht
  have hbd := hbb.bd
  have hv := hch.1
  have hw := hch.2.1
  have h8 := hv.h8
  have h16 : (lets p.moves.length).length ≤ 16 := by rw [lets_length]; omega
  have hid : i < t.dists.length := by rw [hw.2.2.1]; exact hi
  have hdr := (hw.2.2.2 i hi hid).2
  have hdi : t.dists.getD i 0 = t.dists[i] := getD_get hid
  have hpi : t.patterns.getD i [] = t.patterns[i] := getD_get hi
  have h0 : 0 < t.patterns.length := by omega
  unfold s_sp_l30Entry
  refine W.box hp (by decide) rfl (cells_p hm.isCell) fun x1 H1 l1 b1 => ?_
  refine W.box l1.wf (by decide) rfl (cells_t ha.isCell hbb.isCell hcc.isCell) fun x2 H2 l2 b2 => ?_
  have b1 := b1.le l2
  have l' := l1.tr l2
  simp only [↓wr_lit0]
  refine W.e (a := .slice H2.next 0 0 3) (H' := H2.push (.cells [] t_impl_TableFault 0)) rfl ?_
  have l3 := Le.push l2.wf (.cells [] t_impl_TableFault 0)
  have hf3 : FA (H.next ≤ ·) (H2.push (.cells [] t_impl_TableFault 0)) (.slice H2.next 0 0 3) [] := .inr ⟨H2.next, rfl, l'.nx, Nat.lt_succ_self _, get_push⟩
  generalize H2.push (.cells [] t_impl_TableFault 0) = H3 at l3 hf3 ⊢
  generalize AVal.slice H2.next 0 0 3 = v3 at hf3 ⊢
  have b1 := b1.le l3
  have b2 := b2.le l3
  have l' := l'.tr l3
  have hcc3 := hcc.leI l'
  simp only [↓XE b2, ↓wr_f2 b2, ↓wr_ix hcc3 hid, ↓wr_ldI hcc3 hid, ↓Xa, ↓Xb, ↓Xc, ↓Xd, ↓Xe, ↓Xf, ↓Xg, ↓Xh, ↓Xi, ↓Xj, ↓Xk, ↓Xl, ↓Xm, ↓Xn, ↓Xo, ↓Xp, ↓Xq, ↓Xr, ↓Xs, ↓Xt, ↓Xu, ↓Xv, ↓Xw, ↓Xx, ↓Xy, gx0, gx1, gx2, gx3, ife_e, ife_n, ife_r, Xz, ife_ne', XA, XB, XC, XD, decide_true, decide_false, Bool.not_true, Bool.not_false]
  rw [scond_start b2 (ha.leI l') (hbb.leL l') h0]
  refine sadd0 l'.wf hf3 l'.nx (by simp) fun v4 H4 f4 hf4 => ?_
  have b1 := b1.bk f4 (by decide)
  have b2 := b2.bk f4 (by decide)
  have l' := Le.own l' f4 fun id h => h.1
  have hbb4 := hbb.leL l'
  obtain ⟨z, hz, hzL, _⟩ := hbb4.ld1 hi
  have hix : idxL t.patterns t.patterns[i] = (t.patterns.idxOf t.patterns[i] : Int) := by rw [idxL, if_pos (List.getElem_mem hi)]
  simp only [↓Xa, ↓Xb, ↓Xc, ↓Xd, ↓Xe, ↓Xf, ↓Xg, ↓Xh, ↓Xi, ↓Xj, ↓Xk, ↓Xl, ↓Xm, ↓Xn, ↓Xo, ↓Xp, ↓Xq, ↓Xr, ↓Xs, ↓Xt, ↓Xu, ↓Xv, ↓Xw, ↓Xx, ↓Xy, gx0, gx1, gx2, gx3, ife_e, ife_n, ife_r, Xz, ife_ne', XA, XB, XC, XD, decide_true, decide_false, Bool.not_true, Bool.not_false, ↓XE b2, ↓wr_f1 b2, ↓wr_ix hbb4 hi, ↓wr_e hz, ↓wr_e (c_indexOfList hbb4 hzL), hix]
  refine sadd0 l'.wf hf4 l'.nx (by
    have := ite_len (c := decide ((i : Int) = 0 ∧ (t.dists[i] ≠ 0 ∨ t.patterns[0] ≠ t.tracked)) = true) (a := ((1 : Int), (i : Int), (0 : Int))); simp only [List.nil_append]; omega) fun v5 H5 f5 hf5 => ?_
  have b1 := b1.bk f5 (by decide)
  have b2 := b2.bk f5 (by decide)
  have l' := Le.own l' f5 fun id h => h.1
  simp only [↓Xa, ↓Xb, ↓Xc, ↓Xd, ↓Xe, ↓Xf, ↓Xg, ↓Xh, ↓Xi, ↓Xj, ↓Xk, ↓Xl, ↓Xm, ↓Xn, ↓Xo, ↓Xp, ↓Xq, ↓Xr, ↓Xs, ↓Xt, ↓Xu, ↓Xv, ↓Xw, ↓Xx, ↓Xy, gx0, gx1, gx2, gx3, ife_e, ife_n, ife_r, Xz, ife_ne', XA, XB, XC, XD, decide_true, decide_false, Bool.not_true, Bool.not_false]
  rw [cond_and]
  refine sadd0 l'.wf hf5 l'.nx (by
    have h1 := ite_len (c := decide ((i : Int) = 0 ∧ (t.dists[i] ≠ 0 ∨ t.patterns[0] ≠ t.tracked)) = true) (a := ((1 : Int), (i : Int), (0 : Int)))
    have h2 := ite_len (c := decide (((t.patterns.idxOf t.patterns[i] : Nat) : Int) < (i : Int)) = true) (a := ((2 : Int), (i : Int), (0 : Int)))
    rw [List.length_append]; simp only [List.nil_append]; omega) fun v6 H6 f6 hf6 => ?_
  have b1 := b1.bk f6 (by decide)
  have b2 := b2.bk f6 (by decide)
  have l' := Le.own l' f6 fun id h => h.1
  have hf6 : FA (H.next ≤ ·) H6 v6 (ehead t i) := by
    rw [ite_b, ite_b, ite_b, List.nil_append] at hf6
    rw [ehead, hdi, hpi]
    have : ((i : Int) = 0 ∧ (t.dists[i] ≠ 0 ∨ t.patterns[0] ≠ t.tracked)) ↔ ((i : Int) = 0 ∧ (t.dists[i] ≠ 0 ∨ t.patterns[i] ≠ t.tracked)) := by
      constructor
      · rintro ⟨h, h'⟩
        have : i = 0 := by omega
        subst this; exact ⟨h, h'⟩
      · rintro ⟨h, h'⟩
        have : i = 0 := by omega
        subst this; exact ⟨h, h'⟩
    simp only [this] at hf6
    exact hf6
  have hhl := ehead_len (t := t) (i := i)
  simp only [↓Xa, ↓Xb, ↓Xc, ↓Xd, ↓Xe, ↓Xf, ↓Xg, ↓Xh, ↓Xi, ↓Xj, ↓Xk, ↓Xl, ↓Xm, ↓Xn, ↓Xo, ↓Xp, ↓Xq, ↓Xr, ↓Xs, ↓Xt, ↓Xu, ↓Xv, ↓Xw, ↓Xx, ↓Xy, gx0, gx1, gx2, gx3, ife_e, ife_n, ife_r, Xz, ife_ne', XA, XB, XC, XD, decide_true, decide_false, Bool.not_true, Bool.not_false, ↓wr_ld3 b1]
  refine W.bnd (c_Letters (p := p) l'.wf (hpz.le l') fun lt H7 l7 hlt => ?_)
  rw [if_pos hv] at hlt
  have b1 := b1.le l7
  have b2 := b2.le l7
  have hf7 := hf6.le l7
  have l' := l'.tr l7
  have hlen : ∀ j, (ehead t i ++ ((lets p.moves.length).take j).flatMap (efl p t i)).length ≤ 100 := fun j => by
    have h2 := flat_len (g := efl p t i) (fun _ => efl_len) ((lets p.moves.length).take j)
    rw [List.length_take] at h2
    rw [List.length_append]; omega
  refine W.lq (fun qq st Hk => Fr (Bk (H.next ≤ ·) t_impl_TableFault H7) H7 Hk ∧ ∃ (j : Nat) (out : AVal), qq = (lets p.moves.length).length - j ∧ j ≤ (lets p.moves.length).length ∧ st = [out, i64 (j : Int)] ∧ FA (H.next ≤ ·) Hk out (ehead t i ++ ((lets p.moves.length).take j).flatMap (efl p t i)))
    (fun rr Hk => Fr (Bk (H.next ≤ ·) t_impl_TableFault H7) H7 Hk ∧ ∃ out, rr = (.exit 0, [out]) ∧ FA (H.next ≤ ·) Hk out (ehead t i ++ (lets p.moves.length).flatMap (efl p t i))) (lets p.moves.length).length
    ⟨(Le.refl l7.wf).bk, 0, v6, rfl, Nat.zero_le _, rfl, by simpa using hf7⟩ ?_ ?_
  · rintro qq st Hk ⟨fk, j, out, rfl, hj, rfl, hf⟩ Q' kn kx
    have lk := Le.own l' fk fun id h => h.1
    have b1 := b1.bk fk (by decide)
    have b2 := b2.bk fk (by decide)
    have hlt := hlt.bkI fk (by decide)
    by_cases hjl : j < (lets p.moves.length).length
    · have hj' : (j : Int) < (lets p.moves.length).length := by omega
      have hlm := List.getElem_mem hjl
      have hbbk := hbb.leL lk
      obtain ⟨z, hz, hzL, _⟩ := hbbk.ld1 hi
      simp only [↓Xa, ↓Xb, ↓Xc, ↓Xd, ↓Xe, ↓Xf, ↓Xg, ↓Xh, ↓Xi, ↓Xj, ↓Xk, ↓Xl, ↓Xm, ↓Xn, ↓Xo, ↓Xp, ↓Xq, ↓Xr, ↓Xs, ↓Xt, ↓Xu, ↓Xv, ↓Xw, ↓Xx, ↓Xy, gx0, gx1, gx2, gx3, ife_e, ife_n, ife_r, Xz, ife_ne', XA, XB, XC, XD, decide_true, decide_false, Bool.not_true, Bool.not_false, ↓XG hlt, hj', ↓wr_ld3 b1, ↓wr_ld3 b2, ↓XE b2, ↓wr_f1 b2, ↓wr_ix hbbk hi, ↓wr_e hz, ↓wr_ix hlt hjl, ↓wr_ldI hlt hjl]
      refine W.bnd (c_l30Next (p := p) (t := t) lk.wf (hpz.le lk) (htb.le lk) hzL hch.tr (hch.patt hi) hlm fun H8 l8 => ?_)
      have b2 := b2.le l8
      have hlt := hlt.leI l8
      have hf := hf.le l8
      have l8' := lk.tr l8
      have hcc8 := hcc.leI l8'
      have e1 := List.take_succ_eq_append_getElem hjl
      have eflat : ehead t i ++ ((lets p.moves.length).take (j + 1)).flatMap (efl p t i) = (ehead t i ++ ((lets p.moves.length).take j).flatMap (efl p t i)) ++ efl p t i (lets p.moves.length)[j] := by
        rw [e1, List.flatMap_append, ← List.append_assoc]; simp
      have hl100 := hlen j
      by_cases hm : act p (lets p.moves.length)[j] t.patterns[i] ∈ t.patterns
      · have hix : t.patterns.idxOf (act p (lets p.moves.length)[j] t.patterns[i]) < t.dists.length := by rw [hw.2.2.1]; exact List.idxOf_lt_length_of_mem hm
        have hix' : t.patterns.idxOf (act p (lets p.moves.length)[j] t.patterns[i]) < t.patterns.length := List.idxOf_lt_length_of_mem hm
        have hdr' := (hw.2.2.2 _ hix' hix).2
        have hn0 : ¬(t.patterns.idxOf (act p (lets p.moves.length)[j] t.patterns[i]) : Int) < 0 := by omega
        rw [idxL, if_pos hm]
        simp only [hn0, ↓Xa, ↓Xb, ↓Xc, ↓Xd, ↓Xe, ↓Xf, ↓Xg, ↓Xh, ↓Xi, ↓Xj, ↓Xk, ↓Xl, ↓Xm, ↓Xn, ↓Xo, ↓Xp, ↓Xq, ↓Xr, ↓Xs, ↓Xt, ↓Xu, ↓Xv, ↓Xw, ↓Xx, ↓Xy, gx0, gx1, gx2, gx3, ife_e, ife_n, ife_r, Xz, ife_ne', XA, XB, XC, XD, decide_true, decide_false, Bool.not_true, Bool.not_false, ↓XH, ↓XE b2, ↓wr_f2 b2, ↓wr_ix hcc8 hix, ↓wr_ldI hcc8 hix]
        rw [wr_sub (by unfold In64; omega)]
        simp only [↓XH, ↓wr_e c_inRange, ↓Xa, ↓Xb, ↓Xc, ↓Xd, ↓Xe, ↓Xf, ↓Xg, ↓Xh, ↓Xi, ↓Xj, ↓Xk, ↓Xl, ↓Xm, ↓Xn, ↓Xo, ↓Xp, ↓Xq, ↓Xr, ↓Xs, ↓Xt, ↓Xu, ↓Xv, ↓Xw, ↓Xx, ↓Xy, gx0, gx1, gx2, gx3, ife_e, ife_n, ife_r, Xz, ife_ne', XA, XB, XC, XD, decide_true, decide_false, Bool.not_true, Bool.not_false]
        by_cases hr : -1 ≤ t.dists[t.patterns.idxOf (act p (lets p.moves.length)[j] t.patterns[i])] - t.dists[i] ∧ t.dists[t.patterns.idxOf (act p (lets p.moves.length)[j] t.patterns[i])] - t.dists[i] ≤ 1
        · have he : efl p t i (lets p.moves.length)[j] = [] := by
            rw [efl_nil, hpi, hdi, getD_get hix]
            exact ⟨hm, by omega, by omega⟩
          simp only [hr, and_self, ↓Xa, ↓Xb, ↓Xc, ↓Xd, ↓Xe, ↓Xf, ↓Xg, ↓Xh, ↓Xi, ↓Xj, ↓Xk, ↓Xl, ↓Xm, ↓Xn, ↓Xo, ↓Xp, ↓Xq, ↓Xr, ↓Xs, ↓Xt, ↓Xu, ↓Xv, ↓Xw, ↓Xx, ↓Xy, gx0, gx1, gx2, gx3, ife_e, ife_n, ife_r, Xz, ife_ne', XA, XB, XC, XD, decide_true, decide_false, Bool.not_true, Bool.not_false, ↓wr_rx]
          rw [wr_inc (by omega)]
          refine W.ret (kn ((lets p.moves.length).length - (j + 1)) _ _ (by omega) ⟨fk.bk l8.bk, j + 1, out, rfl, hjl, rfl, ?_⟩)
          rw [eflat, he, List.append_nil]; exact hf
        · have he : efl p t i (lets p.moves.length)[j] = [(5, (i : Int), (lets p.moves.length)[j])] := by
            unfold efl
            simp only [hpi, hdi, getD_get hix]
            rw [if_pos hm, if_neg (fun h => hr ⟨by omega, by omega⟩)]
          simp only [hr, ↓Xa, ↓Xb, ↓Xc, ↓Xd, ↓Xe, ↓Xf, ↓Xg, ↓Xh, ↓Xi, ↓Xj, ↓Xk, ↓Xl, ↓Xm, ↓Xn, ↓Xo, ↓Xp, ↓Xq, ↓Xr, ↓Xs, ↓Xt, ↓Xu, ↓Xv, ↓Xw, ↓Xx, ↓Xy, gx0, gx1, gx2, gx3, ife_e, ife_n, ife_r, Xz, ife_ne', XA, XB, XC, XD, decide_true, decide_false, Bool.not_true, Bool.not_false, ↓XH, ↓wr_ix hlt hjl, ↓wr_ldI hlt hjl, ↓wr_c1u]
          rw [← XH]
          refine W.flit l8'.wf fun y0 Hx lx hy0 => ?_
          simp only [↓XH]
          refine W.app3 lx.wf (hf.le lx) hy0.rd (by simp at hl100 ⊢; omega) (fun id hid => Nat.le_trans (Nat.le_trans l8'.nx lx.nx) hid) fun y H9 f9 hy => ?_
          have f9 := lx.bk.bk f9
          simp only [↓Xa, ↓Xb, ↓Xc, ↓Xd, ↓Xe, ↓Xf, ↓Xg, ↓Xh, ↓Xi, ↓Xj, ↓Xk, ↓Xl, ↓Xm, ↓Xn, ↓Xo, ↓Xp, ↓Xq, ↓Xr, ↓Xs, ↓Xt, ↓Xu, ↓Xv, ↓Xw, ↓Xx, ↓Xy, gx0, gx1, gx2, gx3, ife_e, ife_n, ife_r, Xz, ife_ne', XA, XB, XC, XD, decide_true, decide_false, Bool.not_true, Bool.not_false, ↓wr_rx, ↓XH]
          rw [wr_inc (by omega)]
          refine W.ret (kn ((lets p.moves.length).length - (j + 1)) _ _ (by omega) ⟨(fk.bk l8.bk).bk f9, j + 1, y, rfl, hjl, rfl, ?_⟩)
          rw [eflat, he]; exact hy
      · have he : efl p t i (lets p.moves.length)[j] = [(4, (i : Int), (lets p.moves.length)[j])] := by
          unfold efl
          simp only [hpi, hdi]
          rw [if_neg hm]
        rw [idxL, if_neg hm]
        have hm1 : (-1 : Int) < 0 := by decide
        simp only [hm1, ↓Xa, ↓Xb, ↓Xc, ↓Xd, ↓Xe, ↓Xf, ↓Xg, ↓Xh, ↓Xi, ↓Xj, ↓Xk, ↓Xl, ↓Xm, ↓Xn, ↓Xo, ↓Xp, ↓Xq, ↓Xr, ↓Xs, ↓Xt, ↓Xu, ↓Xv, ↓Xw, ↓Xx, ↓Xy, gx0, gx1, gx2, gx3, ife_e, ife_n, ife_r, Xz, ife_ne', XA, XB, XC, XD, decide_true, decide_false, Bool.not_true, Bool.not_false, ↓XH, ↓wr_ix hlt hjl, ↓wr_ldI hlt hjl, ↓wr_c1u]
        rw [← XH]
        refine W.flit l8'.wf fun y0 Hx lx hy0 => ?_
        simp only [↓XH]
        refine W.app3 lx.wf (hf.le lx) hy0.rd (by simp at hl100 ⊢; omega) (fun id hid => Nat.le_trans (Nat.le_trans l8'.nx lx.nx) hid) fun y H9 f9 hy => ?_
        have f9 := lx.bk.bk f9
        simp only [↓Xa, ↓Xb, ↓Xc, ↓Xd, ↓Xe, ↓Xf, ↓Xg, ↓Xh, ↓Xi, ↓Xj, ↓Xk, ↓Xl, ↓Xm, ↓Xn, ↓Xo, ↓Xp, ↓Xq, ↓Xr, ↓Xs, ↓Xt, ↓Xu, ↓Xv, ↓Xw, ↓Xx, ↓Xy, gx0, gx1, gx2, gx3, ife_e, ife_n, ife_r, Xz, ife_ne', XA, XB, XC, XD, decide_true, decide_false, Bool.not_true, Bool.not_false, ↓wr_rx, ↓XH]
        rw [wr_inc (by omega)]
        refine W.ret (kn ((lets p.moves.length).length - (j + 1)) _ _ (by omega) ⟨(fk.bk l8.bk).bk f9, j + 1, y, rfl, hjl, rfl, ?_⟩)
        rw [eflat, he]; exact hy
    · have hj' : ¬(j : Int) < (lets p.moves.length).length := by omega
      simp only [↓Xa, ↓Xb, ↓Xc, ↓Xd, ↓Xe, ↓Xf, ↓Xg, ↓Xh, ↓Xi, ↓Xj, ↓Xk, ↓Xl, ↓Xm, ↓Xn, ↓Xo, ↓Xp, ↓Xq, ↓Xr, ↓Xs, ↓Xt, ↓Xu, ↓Xv, ↓Xw, ↓Xx, ↓Xy, gx0, gx1, gx2, gx3, ife_e, ife_n, ife_r, Xz, ife_ne', XA, XB, XC, XD, decide_true, decide_false, Bool.not_true, Bool.not_false, ↓XG hlt, hj']
      refine W.ret (kx _ _ _ (by simp) ⟨fk, out, rfl, ?_⟩)
      rw [List.take_of_length_le (by omega)] at hf
      exact hf
  · rintro rr Hk ⟨fk, out, rfl, hf⟩
    have lk := Le.own l' fk fun id h => h.1
    have b1 := b1.bk fk (by decide)
    have b2 := b2.bk fk (by decide)
    have hll := flat_len (g := efl p t i) (fun _ => efl_len) (lets p.moves.length)
    have hl100 : (ehead t i ++ (lets p.moves.length).flatMap (efl p t i)).length ≤ 100000 := by rw [List.length_append]; omega
    have fin : ∀ (Hm : AHeap) (c : Prop) [Decidable c], Fr (Bk (H.next ≤ ·) t_impl_TableFault Hk) Hk Hm → FA (H.next ≤ ·) Hm out (ehead t i ++ (lets p.moves.length).flatMap (efl p t i)) → (c ↔ 0 < t.dists[i] ∧ ¬∃ l, l ∈ lets p.moves.length ∧ Desc p t i l) → W (bnd (br (.bool (decide c)) (bnd (bnd (bnd (cell1 (.int .i64 6)) fun y107 => bnd (cell1 (i64 (i : Int))) fun y108 => ret [y107, y108, .int .i64 0]) fun cs => ret (.agg cs)) fun x109 =>
 bnd (bnd (afillM (fun i => some (i * 3, 3)) [(0, x109)] [.int .i64 0, .int .i64 0, .int .i64 0]) fun cs => allocS none t_impl_TableFault 3 1 cs) fun x110 =>
 bnd (appS t_impl_TableFault 3 24 out x110) fun x111 =>
 rx .normal [x111]) (rx .normal [out])) fun r112 => ife r112.1 .normal (ret (gx r112.2 0)) (fail)) Hm Q := fun Hm c _ fm hfm hc => by
      have lm := Le.own lk fm fun id h => h.1
      refine sadd0 lm.wf hfm lm.nx hl100 fun y Hn fn hy => ?_
      simp only [↓Xa, ↓Xb, ↓Xc, ↓Xd, ↓Xe, ↓Xf, ↓Xg, ↓Xh, ↓Xi, ↓Xj, ↓Xk, ↓Xl, ↓Xm, ↓Xn, ↓Xo, ↓Xp, ↓Xq, ↓Xr, ↓Xs, ↓Xt, ↓Xu, ↓Xv, ↓Xw, ↓Xx, ↓Xy, gx0, gx1, gx2, gx3, ife_e, ife_n, ife_r, Xz, ife_ne', XA, XB, XC, XD, decide_true, decide_false, Bool.not_true, Bool.not_false]
      refine W.ret (k _ _ (Le.own lm fn fun id h => h.1) ?_)
      rw [efaults, etail, hdi]
      simp only [ite_b, hc] at hy
      exact hy
    by_cases h1 : 0 < t.dists[i]
    · have hbbk := hbb.leL lk
      obtain ⟨z, hz, hzL, _⟩ := hbbk.ld1 hi
      simp only [↓Xa, ↓Xb, ↓Xc, ↓Xd, ↓Xe, ↓Xf, ↓Xg, ↓Xh, ↓Xi, ↓Xj, ↓Xk, ↓Xl, ↓Xm, ↓Xn, ↓Xo, ↓Xp, ↓Xq, ↓Xr, ↓Xs, ↓Xt, ↓Xu, ↓Xv, ↓Xw, ↓Xx, ↓Xy, gx0, gx1, gx2, gx3, ife_e, ife_n, ife_r, Xz, ife_ne', XA, XB, XC, XD, decide_true, decide_false, Bool.not_true, Bool.not_false, h1, ↓wr_ld3 b1, ↓wr_ld3 b2, ↓XE b2, ↓wr_f1 b2, ↓wr_ix hbbk hi, ↓wr_e hz]
      rw [wr_sub (by unfold In64; omega), ← hdi]
      refine W.bnd (c_l30Descent (p := p) (t := t) lk.wf (hpz.le lk) (htb.le lk) hch hi hzL fun Hm r lm hr => ?_)
      simp only [↓Xa, ↓Xb, ↓Xc, ↓Xd, ↓Xe, ↓Xf, ↓Xg, ↓Xh, ↓Xi, ↓Xj, ↓Xk, ↓Xl, ↓Xm, ↓Xn, ↓Xo, ↓Xp, ↓Xq, ↓Xr, ↓Xs, ↓Xt, ↓Xu, ↓Xv, ↓Xw, ↓Xx, ↓Xy, gx0, gx1, gx2, gx3, ife_e, ife_n, ife_r, Xz, ife_ne', XA, XB, XC, XD, decide_true, decide_false, Bool.not_true, Bool.not_false]
      exact fin Hm (r = 0) lm.bk (hf.le lm) ⟨fun h => ⟨h1, hr.1 h⟩, fun h => hr.2 h.2⟩
    · simp only [↓Xa, ↓Xb, ↓Xc, ↓Xd, ↓Xe, ↓Xf, ↓Xg, ↓Xh, ↓Xi, ↓Xj, ↓Xk, ↓Xl, ↓Xm, ↓Xn, ↓Xo, ↓Xp, ↓Xq, ↓Xr, ↓Xs, ↓Xt, ↓Xu, ↓Xv, ↓Xw, ↓Xx, ↓Xy, gx0, gx1, gx2, gx3, ife_e, ife_n, ife_r, Xz, ife_ne', XA, XB, XC, XD, decide_true, decide_false, Bool.not_true, Bool.not_false, h1]
      have := fin Hk False ((Le.refl lk.wf).bk) hf ⟨False.elim, fun h => h1 h.1⟩
      simp only [decide_false, ↓Xa, ↓Xb, ↓Xc, ↓Xd, ↓Xe, ↓Xf, ↓Xg, ↓Xh, ↓Xi, ↓Xj, ↓Xk, ↓Xl, ↓Xm, ↓Xn, ↓Xo, ↓Xp, ↓Xq, ↓Xr, ↓Xs, ↓Xt, ↓Xu, ↓Xv, ↓Xw, ↓Xx, ↓Xy, gx0, gx1, gx2, gx3, ife_e, ife_n, ife_r, Xz, ife_ne', XA, XB, XC, XD, decide_true, decide_false, Bool.not_true, Bool.not_false] at this
      exact this
end
end Go.Am

end

section
set_option linter.unusedSimpArgs false
set_option linter.unusedVariables false
/- Contracts: admissible tables. -/
namespace Go.Am
section
variable {β X : Type} {f : AVal → AM β} {Q : AVal → AHeap → Prop} {R R' : AHeap → AVal → X → Prop} {m m2 : Md} {P P2 P3 P4 P5 P' S T : Nat → Prop} {e e2 : TypeId} {H H0 H1 H2 H' Hk Hl : AHeap} {v u x y z lv dv sv : AVal} {A B D s r : List Int} {LL : List (List Int)} {p' q : List Int} {p : Puz} {t : Tbl} {cs : List AVal} {id n k n0 dd kk : Nat} {w : Bool} {L M : List Flt}
theorem fcells_drop {j : Nat} (hj : j < L.length) (M : List AVal) : (fcells L ++ M).drop (j * 3) = i64 L[j].1 :: i64 L[j].2.1 :: i64 L[j].2.2 :: (fcells (L.drop (j + 1)) ++ M) := by
  have e : L = L.take j ++ L[j] :: L.drop (j + 1) := by rw [← List.drop_eq_getElem_cons hj, List.take_append_drop]
  have hl : (fcells (L.take j)).length = j * 3 := by rw [fcells_len, List.length_take]; omega
  have e2 : fcells L = fcells (L.take j) ++ fcells (L[j] :: L.drop (j + 1)) := by rw [← fcells_app, ← e]
  rw [e2, List.append_assoc, List.drop_append_of_le_length (by omega), List.drop_of_length_le (by omega)]
  rfl
theorem FRd.el (h : FRd H v L) {j : Nat} (hj : j < L.length) : ∃ a : AVal, ixa 3 v (i64 (j : Int)) = ret a ∧ (∀ n, fadd n a = ret (fieldP a n)) ∧ ldn 3 a H = some (.agg [i64 L[j].1, i64 L[j].2.1, i64 L[j].2.2], H) ∧ ld1 (fieldP a 0) H = some (i64 L[j].1, H) := by
  rcases h with ⟨rfl, rfl⟩ | ⟨id, M, rfl, h2, h3⟩
  · exact absurd hj (Nat.not_lt_zero _)
  · have hd := fcells_drop hj M
    have hl := congrArg List.length hd
    simp only [List.length_drop, List.length_cons] at hl
    have hg : (fcells L ++ M)[j * 3]? = some (i64 L[j].1) := by
      have := congrArg (fun l => l[0]?) hd
      simpa using this
    refine ⟨.ptr id (0 + j * 3), ?_, fun n => rfl, ?_, ?_⟩
    · simp [ixa, hj]
    · simp only [ldn, rd, h3, Nat.zero_add, hd]
      rw [if_pos (by omega)]; rfl
    · simp only [ld1, fieldP, rd, h3, Nat.zero_add, Nat.add_zero, hg]
def Bad (f : Flt) : Prop := (f.1 = 1 ∨ f.1 = 4) ∨ f.1 = 5
noncomputable instance {f : Flt} : Decidable (Bad f) := Classical.propDecidable _
/-- A table that never says too much. -/
def Adm (p : Puz) (t : Tbl) : Prop := Chkb p t ∧ ∀ i, i < t.patterns.length → ∀ j (hj : j < (efaults p t i).length), ¬Bad (efaults p t i)[j]
noncomputable instance : Decidable (Adm p t) := Classical.propDecidable _
theorem c_spIsAdmissibleTable (hp : Hp H) (h : PuzA P P2 H v p) (ht : TblA P3 P4 H u t) (k : ∀ H', Le H H' → Q (.bool (decide (Adm p t))) H') : W (s_sp_IsAdmissibleTable v u) H Q := by
  have hpz := h
  have htb := ht
  obtain ⟨mv, rfl, hm, h64, hnl⟩ := h
  obtain ⟨a, b, c, rfl, ha, hbb, hcc⟩ := ht
  have hbd := hbb.bd
  unfold s_sp_IsAdmissibleTable
  refine W.box hp (by decide) rfl (cells_p hm.isCell) fun x1 H1 l1 b1 => ?_
  refine W.box l1.wf (by decide) rfl (cells_t ha.isCell hbb.isCell hcc.isCell) fun x2 H2 l2 b2 => ?_
  have b1 := b1.le l2
  have l' := l1.tr l2
  simp only [↓wr_ld3 b1, ↓wr_ld3 b2]
  refine W.bnd (c_l30Checkable (p := p) (t := t) l'.wf (hpz.le l') (htb.le l') fun H3 l3 => ?_)
  have b1 := b1.le l3
  have b2 := b2.le l3
  have l' := l'.tr l3
  by_cases hch : Chkb p t
  case neg =>
    simp only [hch, ↓Xa, ↓Xb, ↓Xc, ↓Xd, ↓Xe, ↓Xf, ↓Xg, ↓Xh, ↓Xi, ↓Xj, ↓Xk, ↓Xl, ↓Xm, ↓Xn, ↓Xo, ↓Xp, ↓Xq, ↓Xr, ↓Xs, ↓Xt, ↓Xu, ↓Xv, ↓Xw, ↓Xx, ↓Xy, gx0, gx1, gx2, gx3, ife_e, ife_n, ife_r, Xz, ife_ne', XA, XB, XC, XD, decide_true, decide_false, Bool.not_true, Bool.not_false]
    have : ¬Adm p t := fun h => hch h.1
    exact W.ret (by simpa only [this, decide_false] using k _ l')
  simp only [hch, ↓Xa, ↓Xb, ↓Xc, ↓Xd, ↓Xe, ↓Xf, ↓Xg, ↓Xh, ↓Xi, ↓Xj, ↓Xk, ↓Xl, ↓Xm, ↓Xn, ↓Xo, ↓Xp, ↓Xq, ↓Xr, ↓Xs, ↓Xt, ↓Xu, ↓Xv, ↓Xw, ↓Xx, ↓Xy, gx0, gx1, gx2, gx3, ife_e, ife_n, ife_r, Xz, ife_ne', XA, XB, XC, XD, decide_true, decide_false, Bool.not_true, Bool.not_false]
  refine W.scanLe (e := 0) (w := [.undef]) l'.wf t.patterns.length (fun i => ∃ j, ∃ hj : j < (efaults p t i).length, Bad (efaults p t i)[j]) (fun j => [.bool false]) (fun i Hi hi li Q' k1 k2 => ?_) (fun Hi li Q' k1 => ?_) (fun i Hi li hi hb _ => ?_) fun Hi li hno => ?_
  · have b1 := b1.le li
    have b2 := b2.le li
    have l' := l'.tr li
    have hi' : (i : Int) < t.patterns.length := by omega
    simp only [↓XE b2, ↓wr_f1 b2, ↓XG hbb, hi', ↓Xa, ↓Xb, ↓Xc, ↓Xd, ↓Xe, ↓Xf, ↓Xg, ↓Xh, ↓Xi, ↓Xj, ↓Xk, ↓Xl, ↓Xm, ↓Xn, ↓Xo, ↓Xp, ↓Xq, ↓Xr, ↓Xs, ↓Xt, ↓Xu, ↓Xv, ↓Xw, ↓Xx, ↓Xy, gx0, gx1, gx2, gx3, ife_e, ife_n, ife_r, Xz, ife_ne', XA, XB, XC, XD, decide_true, decide_false, Bool.not_true, Bool.not_false, ↓wr_ld3 b1, ↓wr_ld3 b2]
    refine W.bnd (c_l30Entry (p := p) (t := t) l'.wf (hpz.le l') (htb.le l') hch hi fun r H4 l4 hr => ?_)
    have hel := efaults_len (p := p) (t := t) (i := i)
    have h16 : (lets p.moves.length).length ≤ 16 := by rw [lets_length]; have := hch.1.h8; omega
    have hrd := hr.rd
    have hlen : lenA r = ret (i64 ((efaults p t i).length : Int)) := hrd.lenA
    refine W.scan (e := 2) (w := [.undef]) (efaults p t i).length (fun j => ∃ hj : j < (efaults p t i).length, Bad (efaults p t i)[j]) (fun j => [.bool false]) (fun j hj Q'' k3 k4 => ?_) (fun Q'' k3 => ?_) (fun j hj hb _ => ?_) fun hno => ?_
    · have hj' : (j : Int) < (efaults p t i).length := by omega
      obtain ⟨w, e1, e2, e3, e4⟩ := hrd.el hj
      simp only [↓wr_p hlen, hj', ↓Xa, ↓Xb, ↓Xc, ↓Xd, ↓Xe, ↓Xf, ↓Xg, ↓Xh, ↓Xi, ↓Xj, ↓Xk, ↓Xl, ↓Xm, ↓Xn, ↓Xo, ↓Xp, ↓Xq, ↓Xr, ↓Xs, ↓Xt, ↓Xu, ↓Xv, ↓Xw, ↓Xx, ↓Xy, gx0, gx1, gx2, gx3, ife_e, ife_n, ife_r, Xz, ife_ne', XA, XB, XC, XD, decide_true, decide_false, Bool.not_true, Bool.not_false, ↓wr_p e1, ↓wr_p (e2 0), ↓wr_e e4]
      by_cases q1 : (efaults p t i)[j].1 = 1
      · simp only [q1, ↓Xa, ↓Xb, ↓Xc, ↓Xd, ↓Xe, ↓Xf, ↓Xg, ↓Xh, ↓Xi, ↓Xj, ↓Xk, ↓Xl, ↓Xm, ↓Xn, ↓Xo, ↓Xp, ↓Xq, ↓Xr, ↓Xs, ↓Xt, ↓Xu, ↓Xv, ↓Xw, ↓Xx, ↓Xy, gx0, gx1, gx2, gx3, ife_e, ife_n, ife_r, Xz, ife_ne', XA, XB, XC, XD, decide_true, decide_false, Bool.not_true, Bool.not_false]
        exact W.ret (k3 ⟨hj, .inl (.inl q1)⟩)
      · simp only [q1, ↓Xa, ↓Xb, ↓Xc, ↓Xd, ↓Xe, ↓Xf, ↓Xg, ↓Xh, ↓Xi, ↓Xj, ↓Xk, ↓Xl, ↓Xm, ↓Xn, ↓Xo, ↓Xp, ↓Xq, ↓Xr, ↓Xs, ↓Xt, ↓Xu, ↓Xv, ↓Xw, ↓Xx, ↓Xy, gx0, gx1, gx2, gx3, ife_e, ife_n, ife_r, Xz, ife_ne', XA, XB, XC, XD, decide_true, decide_false, Bool.not_true, Bool.not_false, ↓wr_p e1, ↓wr_p (e2 0), ↓wr_e e4]
        by_cases q4 : (efaults p t i)[j].1 = 4
        · simp only [q4, ↓Xa, ↓Xb, ↓Xc, ↓Xd, ↓Xe, ↓Xf, ↓Xg, ↓Xh, ↓Xi, ↓Xj, ↓Xk, ↓Xl, ↓Xm, ↓Xn, ↓Xo, ↓Xp, ↓Xq, ↓Xr, ↓Xs, ↓Xt, ↓Xu, ↓Xv, ↓Xw, ↓Xx, ↓Xy, gx0, gx1, gx2, gx3, ife_e, ife_n, ife_r, Xz, ife_ne', XA, XB, XC, XD, decide_true, decide_false, Bool.not_true, Bool.not_false]
          exact W.ret (k3 ⟨hj, .inl (.inr q4)⟩)
        · simp only [q4, ↓Xa, ↓Xb, ↓Xc, ↓Xd, ↓Xe, ↓Xf, ↓Xg, ↓Xh, ↓Xi, ↓Xj, ↓Xk, ↓Xl, ↓Xm, ↓Xn, ↓Xo, ↓Xp, ↓Xq, ↓Xr, ↓Xs, ↓Xt, ↓Xu, ↓Xv, ↓Xw, ↓Xx, ↓Xy, gx0, gx1, gx2, gx3, ife_e, ife_n, ife_r, Xz, ife_ne', XA, XB, XC, XD, decide_true, decide_false, Bool.not_true, Bool.not_false, ↓wr_p e1, ↓wr_p (e2 0), ↓wr_e e4]
          by_cases q5 : (efaults p t i)[j].1 = 5
          · simp only [q5, ↓Xa, ↓Xb, ↓Xc, ↓Xd, ↓Xe, ↓Xf, ↓Xg, ↓Xh, ↓Xi, ↓Xj, ↓Xk, ↓Xl, ↓Xm, ↓Xn, ↓Xo, ↓Xp, ↓Xq, ↓Xr, ↓Xs, ↓Xt, ↓Xu, ↓Xv, ↓Xw, ↓Xx, ↓Xy, gx0, gx1, gx2, gx3, ife_e, ife_n, ife_r, Xz, ife_ne', XA, XB, XC, XD, decide_true, decide_false, Bool.not_true, Bool.not_false]
            exact W.ret (k3 ⟨hj, .inr q5⟩)
          · simp only [q5, ↓Xa, ↓Xb, ↓Xc, ↓Xd, ↓Xe, ↓Xf, ↓Xg, ↓Xh, ↓Xi, ↓Xj, ↓Xk, ↓Xl, ↓Xm, ↓Xn, ↓Xo, ↓Xp, ↓Xq, ↓Xr, ↓Xs, ↓Xt, ↓Xu, ↓Xv, ↓Xw, ↓Xx, ↓Xy, gx0, gx1, gx2, gx3, ife_e, ife_n, ife_r, Xz, ife_ne', XA, XB, XC, XD, decide_true, decide_false, Bool.not_true, Bool.not_false]
            rw [wr_inc (by omega)]
            refine W.ret (k4 fun ⟨_, h⟩ => ?_)
            rcases h with (h | h) | h
            · exact q1 h
            · exact q4 h
            · exact q5 h
    · simp only [↓wr_p hlen, ↓Xa, ↓Xb, ↓Xc, ↓Xd, ↓Xe, ↓Xf, ↓Xg, ↓Xh, ↓Xi, ↓Xj, ↓Xk, ↓Xl, ↓Xm, ↓Xn, ↓Xo, ↓Xp, ↓Xq, ↓Xr, ↓Xs, ↓Xt, ↓Xu, ↓Xv, ↓Xw, ↓Xx, ↓Xy, gx0, gx1, gx2, gx3, ife_e, ife_n, ife_r, Xz, ife_ne', XA, XB, XC, XD, decide_true, decide_false, Bool.not_true, Bool.not_false, Int.lt_irrefl]
      exact W.ret k3
    · simp only [↓Xa, ↓Xb, ↓Xc, ↓Xd, ↓Xe, ↓Xf, ↓Xg, ↓Xh, ↓Xi, ↓Xj, ↓Xk, ↓Xl, ↓Xm, ↓Xn, ↓Xo, ↓Xp, ↓Xq, ↓Xr, ↓Xs, ↓Xt, ↓Xu, ↓Xv, ↓Xw, ↓Xx, ↓Xy, gx0, gx1, gx2, gx3, ife_e, ife_n, ife_r, Xz, ife_ne', XA, XB, XC, XD, decide_true, decide_false, Bool.not_true, Bool.not_false]
      obtain ⟨hj', hb⟩ := hb
      exact W.ret (k1 _ l4 ⟨j, hj', hb⟩)
    · simp only [↓Xa, ↓Xb, ↓Xc, ↓Xd, ↓Xe, ↓Xf, ↓Xg, ↓Xh, ↓Xi, ↓Xj, ↓Xk, ↓Xl, ↓Xm, ↓Xn, ↓Xo, ↓Xp, ↓Xq, ↓Xr, ↓Xs, ↓Xt, ↓Xu, ↓Xv, ↓Xw, ↓Xx, ↓Xy, gx0, gx1, gx2, gx3, ife_e, ife_n, ife_r, Xz, ife_ne', XA, XB, XC, XD, decide_true, decide_false, Bool.not_true, Bool.not_false]
      rw [wr_inc (by omega)]
      exact W.ret (k2 _ l4 fun ⟨j, hj, hb⟩ => hno j hj ⟨hj, hb⟩)
  · have b2 := b2.le li
    simp only [↓XE b2, ↓wr_f1 b2, ↓XG hbb, ↓Xa, ↓Xb, ↓Xc, ↓Xd, ↓Xe, ↓Xf, ↓Xg, ↓Xh, ↓Xi, ↓Xj, ↓Xk, ↓Xl, ↓Xm, ↓Xn, ↓Xo, ↓Xp, ↓Xq, ↓Xr, ↓Xs, ↓Xt, ↓Xu, ↓Xv, ↓Xw, ↓Xx, ↓Xy, gx0, gx1, gx2, gx3, ife_e, ife_n, ife_r, Xz, ife_ne', XA, XB, XC, XD, decide_true, decide_false, Bool.not_true, Bool.not_false, Int.lt_irrefl]
    exact W.ret k1
  · simp only [↓Xa, ↓Xb, ↓Xc, ↓Xd, ↓Xe, ↓Xf, ↓Xg, ↓Xh, ↓Xi, ↓Xj, ↓Xk, ↓Xl, ↓Xm, ↓Xn, ↓Xo, ↓Xp, ↓Xq, ↓Xr, ↓Xs, ↓Xt, ↓Xu, ↓Xv, ↓Xw, ↓Xx, ↓Xy, gx0, gx1, gx2, gx3, ife_e, ife_n, ife_r, Xz, ife_ne', XA, XB, XC, XD, decide_true, decide_false, Bool.not_true, Bool.not_false]
    have : ¬Adm p t := fun h => by
      obtain ⟨j, hj, hbj⟩ := hb
      exact h.2 i hi j hj hbj
    exact W.ret (by simpa only [this, decide_false] using k _ (l'.tr li))
  · simp only [↓Xa, ↓Xb, ↓Xc, ↓Xd, ↓Xe, ↓Xf, ↓Xg, ↓Xh, ↓Xi, ↓Xj, ↓Xk, ↓Xl, ↓Xm, ↓Xn, ↓Xo, ↓Xp, ↓Xq, ↓Xr, ↓Xs, ↓Xt, ↓Xu, ↓Xv, ↓Xw, ↓Xx, ↓Xy, gx0, gx1, gx2, gx3, ife_e, ife_n, ife_r, Xz, ife_ne', XA, XB, XC, XD, decide_true, decide_false, Bool.not_true, Bool.not_false]
    have : Adm p t := ⟨hch, fun i hi j hj hbj => hno i hi ⟨j, hj, hbj⟩⟩
    exact W.ret (by simpa only [this, decide_true] using k _ (l'.tr li))
theorem c_imIsAdmissibleTable (hp : Hp H) (h : PuzA P P2 H v p) (ht : TblA P3 P4 H u t) (k : ∀ H', Le H H' → Q (.bool (decide (Adm p t))) H') : W (s_im_IsAdmissibleTable v u) H Q := by
  have hpz := h
  have htb := ht
  obtain ⟨mv, rfl, hm, h64, hnl⟩ := h
  obtain ⟨a, b, c, rfl, ha, hbb, hcc⟩ := ht
  have hbd := hbb.bd
  unfold s_im_IsAdmissibleTable
  refine W.box hp (by decide) rfl (cells_p hm.isCell) fun x1 H1 l1 b1 => ?_
  refine W.box l1.wf (by decide) rfl (cells_t ha.isCell hbb.isCell hcc.isCell) fun x2 H2 l2 b2 => ?_
  have b1 := b1.le l2
  have l' := l1.tr l2
  simp only [↓wr_ld3 b1, ↓wr_ld3 b2]
  refine W.bnd (c_newProof (p := p) (t := t) l'.wf (hpz.le l') (htb.le l') (fun H3 l3 hch => ?_) fun x H3 l3 hch hpr => ?_)
  · simp only [↓Xa, ↓Xb, ↓Xc, ↓Xd, ↓Xe, ↓Xf, ↓Xg, ↓Xh, ↓Xi, ↓Xj, ↓Xk, ↓Xl, ↓Xm, ↓Xn, ↓Xo, ↓Xp, ↓Xq, ↓Xr, ↓Xs, ↓Xt, ↓Xu, ↓Xv, ↓Xw, ↓Xx, ↓Xy, gx0, gx1, gx2, gx3, ife_e, ife_n, ife_r, Xz, ife_ne', XA, XB, XC, XD, decide_true, decide_false, Bool.not_true, Bool.not_false]
    have : ¬Adm p t := fun h => hch h.1
    exact W.ret (by simpa only [this, decide_false] using k _ (l'.tr l3))
  have b2 := b2.le l3
  have l' := l'.tr l3
  simp only [↓Xa, ↓Xb, ↓Xc, ↓Xd, ↓Xe, ↓Xf, ↓Xg, ↓Xh, ↓Xi, ↓Xj, ↓Xk, ↓Xl, ↓Xm, ↓Xn, ↓Xo, ↓Xp, ↓Xq, ↓Xr, ↓Xs, ↓Xt, ↓Xu, ↓Xv, ↓Xw, ↓Xx, ↓Xy, gx0, gx1, gx2, gx3, ife_e, ife_n, ife_r, Xz, ife_ne', XA, XB, XC, XD, decide_true, decide_false, Bool.not_true, Bool.not_false, ↓XE b2, ↓wr_f1 b2, ↓XG hbb]
  refine W.scanLe (e := 0) (w := [.undef]) l'.wf t.patterns.length (fun i => ∃ j, ∃ hj : j < (efaults p t i).length, Bad (efaults p t i)[j]) (fun j => [.bool false]) (fun i Hi hi li Q' k1 k2 => ?_) (fun Hi li Q' k1 => ?_) (fun i Hi li hi hb _ => ?_) fun Hi li hno => ?_
  · have l' := l'.tr li
    have hi' : (i : Int) < t.patterns.length := by omega
    simp only [hi', ↓Xa, ↓Xb, ↓Xc, ↓Xd, ↓Xe, ↓Xf, ↓Xg, ↓Xh, ↓Xi, ↓Xj, ↓Xk, ↓Xl, ↓Xm, ↓Xn, ↓Xo, ↓Xp, ↓Xq, ↓Xr, ↓Xs, ↓Xt, ↓Xu, ↓Xv, ↓Xw, ↓Xx, ↓Xy, gx0, gx1, gx2, gx3, ife_e, ife_n, ife_r, Xz, ife_ne', XA, XB, XC, XD, decide_true, decide_false, Bool.not_true, Bool.not_false]
    refine W.bnd (c_entryFaults (p := p) (t := t) l'.wf (hpr.le li) hch hi fun r H4 l4 hr => ?_)
    have hel := efaults_len (p := p) (t := t) (i := i)
    have h16 : (lets p.moves.length).length ≤ 16 := by rw [lets_length]; have := hch.1.h8; omega
    have hrd := hr.rd
    have hlen : lenA r = ret (i64 ((efaults p t i).length : Int)) := hrd.lenA
    have l4' := l'.tr l4
    simp only [↓wr_p hlen]
    refine W.scanLe (e := 2) (w := [.undef]) l4'.wf (efaults p t i).length (fun j => ∃ hj : j < (efaults p t i).length, Bad (efaults p t i)[j]) (fun j => [.bool false]) (fun j Hj hj lj Q'' k3 k4 => ?_) (fun Hj lj Q'' k3 => ?_) (fun j Hj lj hj hb _ => ?_) fun Hj lj hno => ?_
    · have hj' : (j : Int) < (efaults p t i).length := by omega
      obtain ⟨w, e1, e2, e3, e4⟩ := (hrd.le lj).el hj
      simp only [hj', ↓Xa, ↓Xb, ↓Xc, ↓Xd, ↓Xe, ↓Xf, ↓Xg, ↓Xh, ↓Xi, ↓Xj, ↓Xk, ↓Xl, ↓Xm, ↓Xn, ↓Xo, ↓Xp, ↓Xq, ↓Xr, ↓Xs, ↓Xt, ↓Xu, ↓Xv, ↓Xw, ↓Xx, ↓Xy, gx0, gx1, gx2, gx3, ife_e, ife_n, ife_r, Xz, ife_ne', XA, XB, XC, XD, decide_true, decide_false, Bool.not_true, Bool.not_false, ↓wr_p e1, ↓wr_e e3]
      refine W.alloc lj.wf fun x20 H5 l5 b20 => ?_
      refine W.fsw l5.wf b20 rfl rfl rfl fun H6 f6 b20 => ?_
      have l6 : Le Hj H6 := Le.own l5 f6 fun id h => h.1
      simp only [↓XE b20, ↓wr_f0 b20, ↓Xa, ↓Xb, ↓Xc, ↓Xd, ↓Xe, ↓Xf, ↓Xg, ↓Xh, ↓Xi, ↓Xj, ↓Xk, ↓Xl, ↓Xm, ↓Xn, ↓Xo, ↓Xp, ↓Xq, ↓Xr, ↓Xs, ↓Xt, ↓Xu, ↓Xv, ↓Xw, ↓Xx, ↓Xy, gx0, gx1, gx2, gx3, ife_e, ife_n, ife_r, Xz, ife_ne', XA, XB, XC, XD, decide_true, decide_false, Bool.not_true, Bool.not_false]
      by_cases q1 : (efaults p t i)[j].1 = 1
      · simp only [q1, ↓Xa, ↓Xb, ↓Xc, ↓Xd, ↓Xe, ↓Xf, ↓Xg, ↓Xh, ↓Xi, ↓Xj, ↓Xk, ↓Xl, ↓Xm, ↓Xn, ↓Xo, ↓Xp, ↓Xq, ↓Xr, ↓Xs, ↓Xt, ↓Xu, ↓Xv, ↓Xw, ↓Xx, ↓Xy, gx0, gx1, gx2, gx3, ife_e, ife_n, ife_r, Xz, ife_ne', XA, XB, XC, XD, decide_true, decide_false, Bool.not_true, Bool.not_false]
        exact W.ret (k3 _ l6 ⟨hj, .inl (.inl q1)⟩)
      · simp only [q1, ↓Xa, ↓Xb, ↓Xc, ↓Xd, ↓Xe, ↓Xf, ↓Xg, ↓Xh, ↓Xi, ↓Xj, ↓Xk, ↓Xl, ↓Xm, ↓Xn, ↓Xo, ↓Xp, ↓Xq, ↓Xr, ↓Xs, ↓Xt, ↓Xu, ↓Xv, ↓Xw, ↓Xx, ↓Xy, gx0, gx1, gx2, gx3, ife_e, ife_n, ife_r, Xz, ife_ne', XA, XB, XC, XD, decide_true, decide_false, Bool.not_true, Bool.not_false, ↓XE b20, ↓wr_f0 b20]
        by_cases q4 : (efaults p t i)[j].1 = 4
        · simp only [q4, ↓Xa, ↓Xb, ↓Xc, ↓Xd, ↓Xe, ↓Xf, ↓Xg, ↓Xh, ↓Xi, ↓Xj, ↓Xk, ↓Xl, ↓Xm, ↓Xn, ↓Xo, ↓Xp, ↓Xq, ↓Xr, ↓Xs, ↓Xt, ↓Xu, ↓Xv, ↓Xw, ↓Xx, ↓Xy, gx0, gx1, gx2, gx3, ife_e, ife_n, ife_r, Xz, ife_ne', XA, XB, XC, XD, decide_true, decide_false, Bool.not_true, Bool.not_false]
          exact W.ret (k3 _ l6 ⟨hj, .inl (.inr q4)⟩)
        · simp only [q4, ↓Xa, ↓Xb, ↓Xc, ↓Xd, ↓Xe, ↓Xf, ↓Xg, ↓Xh, ↓Xi, ↓Xj, ↓Xk, ↓Xl, ↓Xm, ↓Xn, ↓Xo, ↓Xp, ↓Xq, ↓Xr, ↓Xs, ↓Xt, ↓Xu, ↓Xv, ↓Xw, ↓Xx, ↓Xy, gx0, gx1, gx2, gx3, ife_e, ife_n, ife_r, Xz, ife_ne', XA, XB, XC, XD, decide_true, decide_false, Bool.not_true, Bool.not_false, ↓XE b20, ↓wr_f0 b20]
          by_cases q5 : (efaults p t i)[j].1 = 5
          · simp only [q5, ↓Xa, ↓Xb, ↓Xc, ↓Xd, ↓Xe, ↓Xf, ↓Xg, ↓Xh, ↓Xi, ↓Xj, ↓Xk, ↓Xl, ↓Xm, ↓Xn, ↓Xo, ↓Xp, ↓Xq, ↓Xr, ↓Xs, ↓Xt, ↓Xu, ↓Xv, ↓Xw, ↓Xx, ↓Xy, gx0, gx1, gx2, gx3, ife_e, ife_n, ife_r, Xz, ife_ne', XA, XB, XC, XD, decide_true, decide_false, Bool.not_true, Bool.not_false]
            exact W.ret (k3 _ l6 ⟨hj, .inr q5⟩)
          · simp only [q5, ↓Xa, ↓Xb, ↓Xc, ↓Xd, ↓Xe, ↓Xf, ↓Xg, ↓Xh, ↓Xi, ↓Xj, ↓Xk, ↓Xl, ↓Xm, ↓Xn, ↓Xo, ↓Xp, ↓Xq, ↓Xr, ↓Xs, ↓Xt, ↓Xu, ↓Xv, ↓Xw, ↓Xx, ↓Xy, gx0, gx1, gx2, gx3, ife_e, ife_n, ife_r, Xz, ife_ne', XA, XB, XC, XD, decide_true, decide_false, Bool.not_true, Bool.not_false]
            rw [wr_inc (by omega)]
            refine W.ret (k4 _ l6 fun ⟨_, h⟩ => ?_)
            rcases h with (h | h) | h
            · exact q1 h
            · exact q4 h
            · exact q5 h
    · simp only [↓Xa, ↓Xb, ↓Xc, ↓Xd, ↓Xe, ↓Xf, ↓Xg, ↓Xh, ↓Xi, ↓Xj, ↓Xk, ↓Xl, ↓Xm, ↓Xn, ↓Xo, ↓Xp, ↓Xq, ↓Xr, ↓Xs, ↓Xt, ↓Xu, ↓Xv, ↓Xw, ↓Xx, ↓Xy, gx0, gx1, gx2, gx3, ife_e, ife_n, ife_r, Xz, ife_ne', XA, XB, XC, XD, decide_true, decide_false, Bool.not_true, Bool.not_false, Int.lt_irrefl]
      exact W.ret k3
    · simp only [↓Xa, ↓Xb, ↓Xc, ↓Xd, ↓Xe, ↓Xf, ↓Xg, ↓Xh, ↓Xi, ↓Xj, ↓Xk, ↓Xl, ↓Xm, ↓Xn, ↓Xo, ↓Xp, ↓Xq, ↓Xr, ↓Xs, ↓Xt, ↓Xu, ↓Xv, ↓Xw, ↓Xx, ↓Xy, gx0, gx1, gx2, gx3, ife_e, ife_n, ife_r, Xz, ife_ne', XA, XB, XC, XD, decide_true, decide_false, Bool.not_true, Bool.not_false]
      obtain ⟨hj', hb⟩ := hb
      exact W.ret (k1 _ (l4.tr lj) ⟨j, hj', hb⟩)
    · simp only [↓Xa, ↓Xb, ↓Xc, ↓Xd, ↓Xe, ↓Xf, ↓Xg, ↓Xh, ↓Xi, ↓Xj, ↓Xk, ↓Xl, ↓Xm, ↓Xn, ↓Xo, ↓Xp, ↓Xq, ↓Xr, ↓Xs, ↓Xt, ↓Xu, ↓Xv, ↓Xw, ↓Xx, ↓Xy, gx0, gx1, gx2, gx3, ife_e, ife_n, ife_r, Xz, ife_ne', XA, XB, XC, XD, decide_true, decide_false, Bool.not_true, Bool.not_false]
      rw [wr_inc (by omega)]
      exact W.ret (k2 _ (l4.tr lj) fun ⟨j, hj, hb⟩ => hno j hj ⟨hj, hb⟩)
  · simp only [↓Xa, ↓Xb, ↓Xc, ↓Xd, ↓Xe, ↓Xf, ↓Xg, ↓Xh, ↓Xi, ↓Xj, ↓Xk, ↓Xl, ↓Xm, ↓Xn, ↓Xo, ↓Xp, ↓Xq, ↓Xr, ↓Xs, ↓Xt, ↓Xu, ↓Xv, ↓Xw, ↓Xx, ↓Xy, gx0, gx1, gx2, gx3, ife_e, ife_n, ife_r, Xz, ife_ne', XA, XB, XC, XD, decide_true, decide_false, Bool.not_true, Bool.not_false, Int.lt_irrefl]
    exact W.ret k1
  · simp only [↓Xa, ↓Xb, ↓Xc, ↓Xd, ↓Xe, ↓Xf, ↓Xg, ↓Xh, ↓Xi, ↓Xj, ↓Xk, ↓Xl, ↓Xm, ↓Xn, ↓Xo, ↓Xp, ↓Xq, ↓Xr, ↓Xs, ↓Xt, ↓Xu, ↓Xv, ↓Xw, ↓Xx, ↓Xy, gx0, gx1, gx2, gx3, ife_e, ife_n, ife_r, Xz, ife_ne', XA, XB, XC, XD, decide_true, decide_false, Bool.not_true, Bool.not_false]
    have : ¬Adm p t := fun h => by
      obtain ⟨j, hj, hbj⟩ := hb
      exact h.2 i hi j hj hbj
    exact W.ret (by simpa only [this, decide_false] using k _ (l'.tr li))
  · simp only [↓Xa, ↓Xb, ↓Xc, ↓Xd, ↓Xe, ↓Xf, ↓Xg, ↓Xh, ↓Xi, ↓Xj, ↓Xk, ↓Xl, ↓Xm, ↓Xn, ↓Xo, ↓Xp, ↓Xq, ↓Xr, ↓Xs, ↓Xt, ↓Xu, ↓Xv, ↓Xw, ↓Xx, ↓Xy, gx0, gx1, gx2, gx3, ife_e, ife_n, ife_r, Xz, ife_ne', XA, XB, XC, XD, decide_true, decide_false, Bool.not_true, Bool.not_false]
    have : Adm p t := ⟨hch, fun i hi j hj hbj => hno i hi ⟨j, hj, hbj⟩⟩
    exact W.ret (by simpa only [this, decide_true] using k _ (l'.tr li))
end
end Go.Am

end

section
set_option linter.unusedSimpArgs false
set_option linter.unusedVariables false
/- The group of a puzzle; the search of its states; admissible tables. -/
namespace Go.Am
section
variable {n k d b : Nat} {a q r s : List Int} {p : Puz} {t : Tbl} {L LL : List (List Int)} {D w : List Int}
theorem comp_assoc {a b c : List Int} (h : ∀ x ∈ a, x.toNat < b.length) : comp (comp a b) c = comp a (comp b c) := by
  unfold comp
  rw [List.map_map]
  apply List.map_congr_left
  intro x hx
  have h1 := h x hx
  have h2 : x.toNat < (b.map fun y => c.getD y.toNat 0).length := by rw [List.length_map]; exact h1
  simp only [Function.comp]
  rw [getD_get h2, getD_get h1, List.getElem_map]
theorem comp_idn (h : ∀ x ∈ a, 0 ≤ x ∧ x < n) : comp a (idn n) = a := by
  unfold comp
  conv => rhs; rw [← List.map_id a]
  apply List.map_congr_left
  intro x hx
  have := h x hx
  have hl : x.toNat < (idn n).length := by rw [idn_length]; omega
  rw [getD_get hl]
  simp only [idn, List.getElem_map, List.getElem_range, id]
  omega
theorem Pm.rg (h : Pm n q) : ∀ x ∈ q, 0 ≤ x ∧ x < n := fun x hx => by have := h.2.1 x hx; omega
theorem Pm.rg' (h : Pm n q) (hl : b = n) : ∀ x ∈ q, x.toNat < b := fun x hx => by have := h.2.1 x hx; omega
theorem comp_inv_left (h : Pm n q) : comp (inv q) q = idn n := by
  apply List.ext_getElem (by rw [comp_length, inv_length, h.1, idn_length])
  intro i h1 h2
  have hi : i < q.length := by rw [idn_length] at h2; rw [h.1]; exact h2
  have hi' : i < (inv q).length := by rw [inv_length]; exact hi
  have := inv_right h.dist hi
  rw [getD_get hi'] at this
  simp only [comp, List.getElem_map, this]
  simp [idn]
theorem mv_pm (hv : Valid p) (hn : p.points = n) {l : Int} (hl : l ∈ lets p.moves.length) : Pm n (mvOf p l) := by
  obtain ⟨m1, i, hi, e1, e2, hp, hil⟩ := hv.mv_len hl
  have hm := hv.2.2.1
  rw [hn] at hm
  have := hm.pm _ (List.getElem_mem hi)
  by_cases h1 : l < 0
  · rw [e1 h1]; exact this.inv
  · rw [e2 h1]; exact this
theorem act_comp {l : Int} : act p l a = comp a (mvOf p l) := rfl
theorem Pm.act (hv : Valid p) (hn : p.points = n) {l : Int} (hl : l ∈ lets p.moves.length) (h : Pm n q) : Pm n (act p l q) := h.comp (mv_pm hv hn hl)
theorem comp_act {l : Int} (ha : ∀ x ∈ a, x.toNat < s.length) : comp a (act p l s) = act p l (comp a s) := (comp_assoc ha).symm
theorem comp_acts : ∀ (w s : List Int), (∀ x ∈ a, x.toNat < s.length) → comp a (acts p w s) = acts p w (comp a s)
  | [], s, _ => rfl
  | l :: w, s, h => by
    show comp a (acts p w (act p l s)) = acts p w (act p l (comp a s))
    rw [comp_acts w (act p l s) (by rw [act_length]; exact h), comp_act h]
theorem acts_app {w w' s : List Int} : acts p (w ++ w') s = acts p w' (acts p w s) := List.foldl_append
theorem acts_inv (hv : Valid p) : ∀ (w s : List Int), (∀ l ∈ w, l ∈ lets p.moves.length) → (∀ x ∈ s, 0 ≤ x ∧ x ≤ p.points - 1) → acts p (w.reverse.map fun l => -l) (acts p w s) = s
  | [], s, _, _ => rfl
  | l :: w, s, hw, hs => by
    have h1 := hw l (by simp)
    rw [List.reverse_cons, List.map_append, acts_app]
    show acts p [-l] (acts p (w.reverse.map fun l => -l) (acts p w (act p l s))) = s
    rw [acts_inv hv w (act p l s) (fun x hx => hw x (by simp [hx])) fun x hx => act_range hv h1 hs hx]
    exact act_inv hv h1 hs
/-- What letters make of the identity. -/
def GP (p : Puz) (n : Nat) (q : List Int) : Prop := Pm n q ∧ ∃ w : List Int, (∀ l ∈ w, l ∈ lets p.moves.length) ∧ q = acts p w (idn n)
theorem idn_rg (hn : p.points = n) : ∀ x ∈ idn n, 0 ≤ x ∧ x ≤ p.points - 1 := fun x hx => by rw [hn]; exact idn_rng x hx
theorem GP.grp (hv : Valid p) (hn : p.points = n) : Grp n (GP p n) := by
  have hn0 : 0 < n := by have := hv.pts; omega
  have key : ∀ a w, Pm n a → comp a (acts p w (idn n)) = acts p w a := fun a w ha => by
    rw [comp_acts _ _ (ha.rg' idn_length), comp_idn ha.rg]
  refine ⟨⟨idn_pm hn0, [], by simp, rfl⟩, ?_, ?_⟩
  · rintro a b ⟨ha, w, hw, rfl⟩ ⟨hb, w', hw', rfl⟩
    refine ⟨ha.comp hb, w ++ w', fun l hl => (List.mem_append.1 hl).elim (hw l) (hw' l), ?_⟩
    rw [key _ _ ha, acts_app]
  · rintro a ⟨ha, w, hw, e⟩
    have hr : ∀ l ∈ w.reverse.map (fun l => -l), l ∈ lets p.moves.length := fun l hl => by
      obtain ⟨l', h1, rfl⟩ := List.mem_map.1 hl
      exact neg_lets (hw l' (List.mem_reverse.1 h1))
    refine ⟨ha.inv, w.reverse.map (fun l => -l), hr, ?_⟩
    have e1 : comp a (acts p (w.reverse.map fun l => -l) (idn n)) = idn n := by
      rw [key _ _ ha, e, acts_inv hv w _ hw (idn_rg hn)]
    have e2 : comp (comp (inv a) a) (acts p (w.reverse.map fun l => -l) (idn n)) = inv a := by
      rw [comp_assoc (ha.inv.rg' ha.1), e1, comp_idn ha.inv.rg]
    rw [comp_inv_left ha, idn_comp (by rw [acts_length, idn_length])] at e2
    exact e2.symm
theorem GP.gen (hv : Valid p) (hn : p.points = n) : ∀ g ∈ p.moves, GP p n g := fun g hg => by
  obtain ⟨i, hi, rfl⟩ := List.mem_iff_getElem.1 hg
  have hm := hv.2.2.1
  rw [hn] at hm
  have hpm := hm.pm _ hg
  have hl : ((i + 1 : Nat) : Int) ∈ lets p.moves.length := mem_lets.2 ⟨by omega, by omega, by omega⟩
  have hmv : mvOf p ((i + 1 : Nat) : Int) = p.moves[i] := by
    unfold mvOf
    rw [if_neg (by omega)]
    have : ((i + 1 : Nat) : Int).natAbs - 1 = i := by omega
    rw [this, getD_get hi]
  refine ⟨hpm, [((i + 1 : Nat) : Int)], fun l h => by rw [List.mem_singleton.1 h]; exact hl, ?_⟩
  show _ = act p _ (idn n)
  rw [act_comp, hmv, idn_comp hpm.1]
theorem GP.mem (hv : Valid p) (h : GP p n q) (hf : Found p (idn n) L D true) : q ∈ L := by
  obtain ⟨_, w, hw, rfl⟩ := h
  have hd := hf.dst hv
  have : ∀ (w s : List Int), (∀ l ∈ w, l ∈ lets p.moves.length) → s ∈ L → acts p w s ∈ L := by
    intro w
    induction w with
    | nil => intro s _ hs; exact hs
    | cons l w ih => intro s hw hs; exact ih _ (fun x hx => hw x (by simp [hx])) (hd.cl s hs l (hw l (by simp))).1
  exact this w _ hw hd.root.1
theorem BFS.pm (hv : Valid p) (hn : p.points = n) (hb : BFS p (idn n) L D) : ∀ a ∈ L, Pm n a := by
  have key : ∀ (j : Nat) (hj : j < L.length), Pm n L[j] := by
    intro j
    induction j using Nat.strongRecOn with
    | _ j ih =>
      intro hj
      rcases Nat.eq_zero_or_pos j with h0 | h0
      · subst h0
        have := hb.root
        rw [List.getElem?_eq_getElem hj, Option.some.injEq] at this
        rw [this]; exact idn_pm (by have := hv.pts; omega)
      · obtain ⟨i, l, hi, hl, he, _⟩ := hb.par j h0 hj
        have hil : i < L.length := by omega
        rw [List.getElem?_eq_getElem hj, List.getElem?_eq_getElem hil, Option.map_some, Option.some.injEq] at he
        rw [he]
        exact (ih i hi hil).act hv hn hl
  intro a ha
  obtain ⟨j, hj, rfl⟩ := List.mem_iff_getElem.1 ha
  exact key j hj
/-- All lists of k numbers below b. -/
def wrds (b : Nat) : Nat → List (List Int)
  | 0 => [[]]
  | k + 1 => (List.range b).flatMap fun (x : Nat) => (wrds b k).map fun w => (x : Int) :: w
theorem flat_length {α β : Type} {f : α → List β} {m : Nat} : ∀ {l : List α}, (∀ a ∈ l, (f a).length = m) → (l.flatMap f).length = l.length * m
  | [], _ => by simp
  | a :: l, h => by
    rw [List.flatMap_cons, List.length_append, h a (by simp), flat_length fun x hx => h x (by simp [hx]), List.length_cons, Nat.add_mul]; omega
theorem wrds_length : (wrds b k).length = b ^ k := by
  induction k with
  | zero => rfl
  | succ k ih => rw [wrds, flat_length (m := b ^ k) (fun a _ => by rw [List.length_map, ih]), List.length_range, Nat.pow_succ, Nat.mul_comm]
theorem mem_wrds : ∀ {k : Nat} {a : List Int}, a.length = k → (∀ x ∈ a, 0 ≤ x ∧ x < b) → a ∈ wrds b k
  | 0, a, h, _ => by rw [List.length_eq_zero_iff.1 h]; simp [wrds]
  | k + 1, [], h, _ => by simp at h
  | k + 1, x :: a, h, hr => by
    have hx := hr x (by simp)
    refine List.mem_flatMap.2 ⟨x.toNat, List.mem_range.2 (by omega), List.mem_map.2 ⟨a, mem_wrds (by simpa using h) fun y hy => hr y (by simp [hy]), ?_⟩⟩
    rw [show ((x.toNat : Nat) : Int) = x by omega]
theorem pm_take (hn : 0 < n) (h : Pm n q) (h' : Pm n r) (he : q.take (n - 1) = r.take (n - 1)) : q = r := by
  have hl : n - 1 < q.length := by rw [h.1]; omega
  have hl' : n - 1 < r.length := by rw [h'.1]; omega
  have hlast : q[n - 1] = r[n - 1] := by
    have h1 := h'.2.1 _ (List.getElem_mem hl')
    have hm : ((r[n - 1].toNat : Nat) : Int) ∈ q := h.dist.surj (by rw [h.1]; omega)
    rw [show ((r[n - 1].toNat : Nat) : Int) = r[n - 1] by omega] at hm
    obtain ⟨i, hi, hie⟩ := List.mem_iff_getElem.1 hm
    have hin : i < n := by rw [← h.1]; exact hi
    by_cases h2 : i = n - 1
    · subst h2; exact hie
    · have hir : i < r.length := by rw [h'.1]; exact hin
      have e1 : q[i] = r[i] := by
        have := congrArg (fun l => l[i]?) he
        simp only [List.getElem?_take] at this
        rw [if_pos (by omega), if_pos (by omega), List.getElem?_eq_getElem hi, List.getElem?_eq_getElem hir] at this
        simpa using this
      rw [e1] at hie
      exact absurd (nodup_inj h'.2.2 hir hl' hie) h2
  have e2 : q.take (n - 1) ++ [q[n - 1]] = q := by
    rw [← List.take_succ_eq_append_getElem hl, show n - 1 + 1 = n by omega, List.take_of_length_le (by rw [h.1]; exact Nat.le_refl _)]
  have e3 : r.take (n - 1) ++ [r[n - 1]] = r := by
    rw [← List.take_succ_eq_append_getElem hl', show n - 1 + 1 = n by omega, List.take_of_length_le (by rw [h'.1]; exact Nat.le_refl _)]
  rw [← e2, ← e3, he, hlast]
theorem pm_few (hn : 0 < n) (hL : L.Nodup) (h : ∀ a ∈ L, Pm n a) : L.length ≤ n ^ (n - 1) := by
  have h1 : (L.map fun a => a.take (n - 1)).Nodup := by
    rw [List.nodup_iff_pairwise_ne, List.pairwise_map]
    exact (List.nodup_iff_pairwise_ne.1 hL).imp_of_mem fun ha hb hab he => hab (pm_take hn (h _ ha) (h _ hb) he)
  have h2 := nodup_sub_length (B := wrds n (n - 1)) h1 fun x hx => by
    obtain ⟨a, ha, rfl⟩ := List.mem_map.1 hx
    have hp := h a ha
    refine mem_wrds (by rw [List.length_take, hp.1]; omega) fun y hy => hp.rg y (List.mem_of_mem_take hy)
  rwa [List.length_map, wrds_length] at h2
theorem found_all {w : Bool} (hv : Valid p) (hn : p.points = n) (hn5 : n ≤ 5) (hf : Found p (idn n) L D w) : w = true := by
  cases w with
  | true => rfl
  | false =>
    have h1 := (hf.many rfl).1
    have hn0 : 0 < n := by have := hv.pts; omega
    have h2 := pm_few hn0 hf.nd (hf.bf.pm hv hn)
    have h3 : n ^ (n - 1) ≤ 5 ^ 4 := Nat.le_trans (Nat.pow_le_pow_left hn5 _) (Nat.pow_le_pow_right (by decide) (by omega))
    omega
/-- What an admissible table says is no more than the distance. -/
theorem Adm.good (h : Adm p t) {i : Nat} (hi : i < t.patterns.length) : (i = 0 → t.dists.getD i 0 = 0 ∧ t.patterns.getD i [] = t.tracked) ∧
    ∀ l, l ∈ lets p.moves.length → act p l (t.patterns.getD i []) ∈ t.patterns ∧ t.dists.getD i 0 - 1 ≤ t.dists.getD (t.patterns.idxOf (act p l (t.patterns.getD i []))) 0 ∧ t.dists.getD (t.patterns.idxOf (act p l (t.patterns.getD i []))) 0 ≤ t.dists.getD i 0 + 1 := by
  have hb : ∀ f ∈ efaults p t i, ¬Bad f := fun f hf => by
    obtain ⟨j, hj, rfl⟩ := List.mem_iff_getElem.1 hf
    exact h.2 i hi j hj
  constructor
  · intro h0
    subst h0
    refine Classical.byContradiction fun hno => hb (1, ((0 : Nat) : Int), 0) ?_ (.inl (.inl rfl))
    have : ((0 : Nat) : Int) = 0 ∧ (t.dists.getD 0 0 ≠ 0 ∨ t.patterns.getD 0 [] ≠ t.tracked) := by
      refine ⟨rfl, ?_⟩
      by_cases h1 : t.dists.getD 0 0 = 0
      · exact .inr fun h2 => hno ⟨h1, h2⟩
      · exact .inl h1
    rw [efaults, ehead, if_pos this]
    simp
  · intro l hl
    refine efl_nil.1 (Classical.byContradiction fun hne => ?_)
    obtain ⟨f, hf⟩ := List.exists_mem_of_ne_nil _ hne
    refine hb f ?_ ?_
    · rw [efaults]
      exact List.mem_append_left _ (List.mem_append_right _ (List.mem_flatMap.2 ⟨l, hl, hf⟩))
    · unfold efl at hf
      dsimp only at hf
      split at hf
      · split at hf
        · cases hf
        · rw [List.mem_singleton.1 hf]; exact .inr rfl
      · rw [List.mem_singleton.1 hf]; exact .inl (.inr rfl)
theorem GP.patt (hq : GP p n q) (h : Adm p t) (hn : p.points = n) : comp t.tracked q ∈ t.patterns := by
  obtain ⟨_, w, hw, rfl⟩ := hq
  have htr : ∀ x ∈ t.tracked, 0 ≤ x ∧ x < n := fun x hx => by have := h.1.2.2.1.2.1 x hx; omega
  have h0 : 0 < t.patterns.length := by have := h.1.2.1.2.1.1; omega
  rw [comp_acts _ _ (by rw [idn_length]; intro x hx; have := htr x hx; omega), comp_idn htr]
  have key : ∀ (w s : List Int), (∀ l ∈ w, l ∈ lets p.moves.length) → s ∈ t.patterns → acts p w s ∈ t.patterns := by
    intro w
    induction w with
    | nil => intro s _ hs; exact hs
    | cons l w ih =>
      intro s hw hs
      refine ih _ (fun x hx => hw x (by simp [hx])) ?_
      obtain ⟨i, hi, rfl⟩ := List.mem_iff_getElem.1 hs
      have := ((h.good hi).2 l (hw l (by simp))).1
      rwa [getD_get hi] at this
  refine key _ _ hw ?_
  rw [← ((h.good h0).1 rfl).2, getD_get h0]
  exact List.getElem_mem h0
theorem Adm.le (h : Adm p t) (hn : p.points = n) (hf : Found p (idn n) L D true) : ∀ (m : Nat) (q : List Int), val L D q = m → q ∈ L → comp t.tracked q ∈ t.patterns ∧ lookup t (comp t.tracked q) ≤ m := by
  have hv := h.1.1
  have hw := h.1.2.1
  have hd := hf.dst hv
  have hpm := hf.bf.pm hv hn
  have htr : ∀ x ∈ t.tracked, 0 ≤ x ∧ x < n := fun x hx => by have := h.1.2.2.1.2.1 x hx; omega
  intro m
  induction m with
  | zero =>
    intro q hq hm
    have := hd.zero q hm (by simpa using hq)
    subst this
    have h0 : 0 < t.patterns.length := by have := hw.2.1.1; omega
    have hd0 : 0 < t.dists.length := by rw [hw.2.2.1]; exact h0
    obtain ⟨e1, e2⟩ := (h.good h0).1 rfl
    rw [comp_idn htr, ← e2, getD_get h0]
    refine ⟨List.getElem_mem h0, ?_⟩
    rw [lookup_mem hw (List.getElem_mem h0), val]
    have : t.patterns.idxOf t.patterns[0] = 0 := Nat.le_zero.1 (idxOf_le h0 rfl)
    rw [this, e1]; exact Int.le_refl _
  | succ m ih =>
    intro q hq hm
    obtain ⟨l, hl, h1, h2⟩ := hd.desc q hm (by omega)
    obtain ⟨h3, h4⟩ := ih _ (by omega) h1
    obtain ⟨i, hi, hie⟩ := List.mem_iff_getElem.1 h3
    have hidx : t.patterns.idxOf (comp t.tracked (act p l q)) < t.patterns.length := List.idxOf_lt_length_of_mem h3
    have hget : t.patterns.getD (t.patterns.idxOf (comp t.tracked (act p l q))) [] = comp t.tracked (act p l q) := by
      rw [getD_get hidx]; exact List.getElem_idxOf hidx
    obtain ⟨g1, g2, g3⟩ := (h.good hidx).2 (-l) (neg_lets hl)
    rw [hget] at g1 g2 g3
    have ea : act p (-l) (comp t.tracked (act p l q)) = comp t.tracked q := by
      rw [← comp_act (by rw [(hpm _ h1).1]; intro x hx; have := htr x hx; omega), act_inv hv hl (hd.rng q hm)]
    rw [ea] at g1 g2 g3
    refine ⟨g1, ?_⟩
    rw [lookup_mem hw h3, val] at h4
    rw [lookup_mem hw g1, val]
    omega
end
end Go.Am

end

section
set_option linter.unusedSimpArgs false
set_option linter.unusedVariables false
/- The fifth statement, in the abstract machine. -/
namespace Go.Am
section
variable {β X : Type} {f : AVal → AM β} {Q : AVal → AHeap → Prop} {R : AHeap → AVal → X → Prop} {m m2 : Md} {P P2 P3 P4 P5 P' S T : Nat → Prop} {e e2 : TypeId} {H H0 H1 H2 H' Hk Hl : AHeap} {v u x y x1 x2 x6 x15 tv : AVal} {A B C s D r : List Int} {L LL : List (List Int)} {p : Puz} {cs : List AVal} {t : Tbl} {id : Nat} {n : Nat} {N1 N2 N3 N4 : Nat} {a b c : AVal} {LB : List UInt8}
theorem c_DrawIsAdmissibleTable (hp : Hp H) (h : Bytes .ro P H v LB) (hl : LB.length ≤ 4096) (k : ∀ w u p t H', Sf H H' → PuzA Any Any H' w p → TblA Any Any H' u t → Small p → Q (.tuple [w, u]) H') : W (s_sp_DrawIsAdmissibleTable v) H Q := by
  unfold s_sp_DrawIsAdmissibleTable
  refine W.alloc hp fun x1 H1 l1 b1 => ?_
  refine W.alloc l1.wf fun x2 H2 l2 b2 => ?_
  have b1 := b1.le l2
  have l := l1.tr l2
  refine W.bnd (c_newSource l.wf (h.leB l) hl fun x H3 l3 hs => ?_)
  have b1 := b1.le l3
  have b2 := b2.le l3
  have l := l.tr l3
  refine W.bnd (c_l30Draw l3.wf hs fun w u p t H4 f4 hs hpz ht sm => ?_)
  have b1 := b1.bk f4 (by decide)
  have b2 := b2.bk f4 (by decide)
  have fk := (Sf.of l).tr f4
  simp only [↓Xa, ↓Xb, ↓Xc, ↓Xd, ↓Xe, ↓Xf, ↓Xg, ↓Xh, ↓Xi, ↓Xj, ↓Xk, ↓Xl, ↓Xm, ↓Xn, ↓Xo, ↓Xp, ↓Xq, ↓Xr, ↓Xs, ↓Xt, ↓Xu, ↓Xv, ↓Xw, ↓Xx, ↓Xy, gx0, gx1, gx2, gx3, ife_e, ife_n, ife_r, Xz, ife_ne', XA, XB, XC, XD, decide_true, decide_false, Bool.not_true, Bool.not_false]
  obtain ⟨mv, rfl, hm, h64, hnl⟩ := hpz
  obtain ⟨a, b, c, rfl, ha, hb, hc⟩ := ht
  refine W.fsw f4.wf b1 rfl rfl (cells_p hm.isCell) fun H5 f5 b1 => ?_
  have fk := fk.own f5 fun id h => h.1
  have b2 := b2.bk f5 (by decide)
  have hm := hm.bkL f5 (by decide) (by decide)
  have ha := ha.bkI f5 (by decide)
  have hb := hb.bkL f5 (by decide) (by decide)
  have hc := hc.bkI f5 (by decide)
  refine W.fsw f5.wf b2 rfl rfl (cells_t ha.isCell hb.isCell hc.isCell) fun H6 f6 b2 => ?_
  have fk := fk.own f6 fun id h => Nat.le_trans l1.nx h.1
  have b1 := b1.bk f6 (by decide)
  simp only [↓wr_ld3 b1, ↓wr_ld3 b2]
  exact W.ret (k _ _ p t _ fk ⟨mv, rfl, hm.bkL f6 (by decide) (by decide), h64, hnl⟩ ⟨a, b, c, rfl, ha.bkI f6 (by decide), hb.bkL f6 (by decide) (by decide), hc.bkI f6 (by decide)⟩ sm)
theorem c_roll {z : Int} (hp : Hp H) (h : Bytes .ro P H v LB) (hl : LB.length ≤ 4096) (k : ∀ x H' s, Le H H' → Bx (Nw H) t_laws_dice H' x [v, i64 0, .int .u64 s] → Q x H') : W (s_lw_roll v (.int .u64 z)) H Q := by
  unfold s_lw_roll
  simp only [↓wr_mulw, ↓XG h, ↓Xa, ↓Xb, ↓Xc, ↓Xd, ↓Xe, ↓Xf, ↓Xg, ↓Xh, ↓Xi, ↓Xj, ↓Xk, ↓Xl, ↓Xm, ↓Xn, ↓Xo, ↓Xp, ↓Xq, ↓Xr, ↓Xs, ↓Xt, ↓Xu, ↓Xv, ↓Xw, ↓Xx, ↓Xy, gx0, gx1, gx2, gx3, ife_e, ife_n, ife_r, Xz, ife_ne', XA, XB, XC, XD, decide_true, decide_false, Bool.not_true, Bool.not_false, ↓wr_addw, bnd_as, ↓wr_c1 h.isCell, ↓wr_c1u]
  generalize IntKind.u64.wrap _ = s0
  refine W.box hp (by decide) rfl (cells_t h.isCell rfl rfl) fun x H1 l1 b1 => ?_
  refine W.lq (fun q st Hk => ∃ (i : Nat) (s : Int), q = LB.length - i ∧ i ≤ LB.length ∧ st = [i64 (i : Int)] ∧ Fr (Bk (Nw H) t_laws_dice H1) H1 Hk ∧ Bx (Nw H) t_laws_dice Hk x [v, i64 0, .int .u64 s])
    (fun rr Hk => rr = (.exit 0, []) ∧ ∃ s : Int, Fr (Bk (Nw H) t_laws_dice H1) H1 Hk ∧ Bx (Nw H) t_laws_dice Hk x [v, i64 0, .int .u64 s]) LB.length ⟨0, s0, rfl, Nat.zero_le _, rfl, (Le.refl l1.wf).bk, b1⟩ ?_ ?_
  · rintro q st Hk ⟨i, s, rfl, hi, rfl, fk, bk⟩ Q' kn kx
    have hB := (h.leB l1).bkB fk (by decide)
    by_cases hlt : i < LB.length
    · have hlt' : (i : Int) < LB.length := by omega
      simp only [↓XG hB, ↓Xa, ↓Xb, ↓Xc, ↓Xd, ↓Xe, ↓Xf, ↓Xg, ↓Xh, ↓Xi, ↓Xj, ↓Xk, ↓Xl, ↓Xm, ↓Xn, ↓Xo, ↓Xp, ↓Xq, ↓Xr, ↓Xs, ↓Xt, ↓Xu, ↓Xv, ↓Xw, ↓Xx, ↓Xy, gx0, gx1, gx2, gx3, ife_e, ife_n, ife_r, Xz, ife_ne', XA, XB, XC, XD, decide_true, decide_false, Bool.not_true, Bool.not_false, hlt', ↓XF bk, ↓XE bk, ↓wr_f2 bk, ↓wr_mulw, ↓wr_ix hB hlt, ↓wr_ldB hB hlt, ↓wr_addw]
      generalize IntKind.u64.wrap (IntKind.u64.wrap _ + 3) = s'
      refine W.fst fk.wf bk (by simp) rfl fun H2 f2 b2 => ?_
      have hw : IntKind.i64.wrap ((i : Int) + 1) = ((i + 1 : Nat) : Int) := by
        rw [wrap_in (by unfold In64; omega)]; rfl
      simp only [↓wr_addw, hw]
      exact W.ret (kn (LB.length - (i + 1)) _ _ (by omega) ⟨i + 1, s', rfl, hlt, rfl, fk.bk f2, b2⟩)
    · have hlt' : ¬(i : Int) < LB.length := by omega
      simp only [↓XG hB, ↓Xa, ↓Xb, ↓Xc, ↓Xd, ↓Xe, ↓Xf, ↓Xg, ↓Xh, ↓Xi, ↓Xj, ↓Xk, ↓Xl, ↓Xm, ↓Xn, ↓Xo, ↓Xp, ↓Xq, ↓Xr, ↓Xs, ↓Xt, ↓Xu, ↓Xv, ↓Xw, ↓Xx, ↓Xy, gx0, gx1, gx2, gx3, ife_e, ife_n, ife_r, Xz, ife_ne', XA, XB, XC, XD, decide_true, decide_false, Bool.not_true, Bool.not_false, hlt']
      exact W.ret (kx _ _ _ (by simp) ⟨rfl, s, fk, bk⟩)
  · rintro rr Hk ⟨rfl, s, fk, bk⟩
    simp only [↓Xa, ↓Xb, ↓Xc, ↓Xd, ↓Xe, ↓Xf, ↓Xg, ↓Xh, ↓Xi, ↓Xj, ↓Xk, ↓Xl, ↓Xm, ↓Xn, ↓Xo, ↓Xp, ↓Xq, ↓Xr, ↓Xs, ↓Xt, ↓Xu, ↓Xv, ↓Xw, ↓Xx, ↓Xy, gx0, gx1, gx2, gx3, ife_e, ife_n, ife_r, Xz, ife_ne', XA, XB, XC, XD, decide_true, decide_false, Bool.not_true, Bool.not_false]
    exact W.ret (k _ _ s (Le.own l1 fk fun id h => h.1) bk)
theorem u64_and {a : Int} : 0 ≤ (((BitVec.ofInt IntKind.u64.bits a &&& BitVec.ofInt IntKind.u64.bits 16777215).toNat : Nat) : Int) ∧ (((BitVec.ofInt IntKind.u64.bits a &&& BitVec.ofInt IntKind.u64.bits 16777215).toNat : Nat) : Int) ≤ 16777215 := by
  have h : (BitVec.ofInt IntKind.u64.bits a &&& BitVec.ofInt IntKind.u64.bits 16777215).toNat ≤ 16777215 := by
    rw [BitVec.toNat_and]
    exact Nat.le_trans Nat.and_le_right (by decide)
  omega
theorem aeq_bn {b c : Bool} : aeq .bool true (.bool b) (.bool c) = ret (.bool (!(b == c))) := by
  cases b <;> cases c <;> rfl
theorem c_dbelow {s : Int} (hp : Hp H) (hbx : Bx P t_laws_dice H x [v, i64 0, .int .u64 s]) (h : Bytes .ro P2 H v LB) (hn : 0 < n) (k : ∀ (r : Nat) H', Fr (Bk P t_laws_dice H) H H' → r < n → Q (i64 (r : Int)) H') : W (s_Plw_dice_below x (i64 (n : Int))) H Q := by
  unfold s_Plw_dice_below
  simp only [↓XF hbx, ↓XE hbx, ↓wr_f2 hbx, ↓wr_mulw, ↓wr_addw]
  generalize IntKind.u64.wrap (IntKind.u64.wrap _ + 1442695040888963407) = s'
  refine W.fst hp hbx (by simp) rfl fun H1 f1 b1 => ?_
  have b1 : Bx P t_laws_dice H1 x [v, i64 0, .int .u64 s'] := b1
  have hB := h.bkB f1 (by decide)
  simp only [↓XF b1, ↓XE b1, ↓wr_f2 b1, ↓wr_shr (show (0 : Int) ≤ 33 by decide)]
  refine W.and ?_
  have hy := u64_and (a := s'.fdiv (2 ^ min (Int.toNat 33) IntKind.u64.bits))
  generalize (BitVec.ofInt IntKind.u64.bits (s'.fdiv (2 ^ min (Int.toNat 33) IntKind.u64.bits)) &&& BitVec.ofInt IntKind.u64.bits 16777215).toNat = y at hy
  have hw : IntKind.u64.wrap (y : Int) = (y : Int) := by
    unfold IntKind.wrap
    simp [IntKind.bits]
    omega
  have hw2 : IntKind.i64.wrap (y : Int) = (y : Int) := wrap_in (by unfold In64; omega)
  have fin : ∀ (a : Nat) (Hk : AHeap), a ≤ 20000000 → Fr (Bk P t_laws_dice H) H Hk → W (bnd (abin .rem (i64 (a : Int)) (i64 (n : Int))) fun x39 => ret x39) Hk Q := fun a Hk ha fk => by
    rw [rem_nat hn]
    exact W.ret (k _ _ fk (Nat.mod_lt _ hn))
  simp only [hw, ↓Xa, ↓Xb, ↓Xc, ↓Xd, ↓Xe, ↓Xf, ↓Xg, ↓Xh, ↓Xi, ↓Xj, ↓Xk, ↓Xl, ↓Xm, ↓Xn, ↓Xo, ↓Xp, ↓Xq, ↓Xr, ↓Xs, ↓Xt, ↓Xu, ↓Xv, ↓Xw, ↓Xx, ↓Xy, gx0, gx1, gx2, gx3, ife_e, ife_n, ife_r, Xz, ife_ne', XA, XB, XC, XD, decide_true, decide_false, Bool.not_true, Bool.not_false, hw2, ↓XF b1, ↓XE b1, ↓wr_f1 b1, ↓wr_f0 b1, ↓XG hB]
  by_cases hlt : (0 : Int) < LB.length
  · have hlt' : 0 < LB.length := by omega
    have hix : ixa 1 v (.int .i64 0) = ret (elemP v 0) := hB.ixa hlt'
    simp only [hlt, ↓Xa, ↓Xb, ↓Xc, ↓Xd, ↓Xe, ↓Xf, ↓Xg, ↓Xh, ↓Xi, ↓Xj, ↓Xk, ↓Xl, ↓Xm, ↓Xn, ↓Xo, ↓Xp, ↓Xq, ↓Xr, ↓Xs, ↓Xt, ↓Xu, ↓Xv, ↓Xw, ↓Xx, ↓Xy, gx0, gx1, gx2, gx3, ife_e, ife_n, ife_r, Xz, ife_ne', XA, XB, XC, XD, decide_true, decide_false, Bool.not_true, Bool.not_false, ↓XH, ↓XF b1, ↓XE b1, ↓wr_f1 b1, ↓wr_f0 b1, ↓wr_p hix, ↓wr_ldB hB hlt', u8_in]
    have hb8 : LB[0].toNat < 256 := LB[0].toNat_lt
    rw [wr_add (by unfold In64; omega)]
    have hw3 : IntKind.i64.wrap ((0 : Int) + 1) = 1 := by decide
    simp only [↓XH, ↓XF b1, ↓XE b1, ↓wr_f1 b1, ↓wr_addw, hw3]
    refine W.fst f1.wf b1 (by simp) rfl fun H2 f2 b2 => ?_
    simp only [↓wr_rx, ↓Xa, ↓Xb, ↓Xc, ↓Xd, ↓Xe, ↓Xf, ↓Xg, ↓Xh, ↓Xi, ↓Xj, ↓Xk, ↓Xl, ↓Xm, ↓Xn, ↓Xo, ↓Xp, ↓Xq, ↓Xr, ↓Xs, ↓Xt, ↓Xu, ↓Xv, ↓Xw, ↓Xx, ↓Xy, gx0, gx1, gx2, gx3, ife_e, ife_n, ife_r, Xz, ife_ne', XA, XB, XC, XD, decide_true, decide_false, Bool.not_true, Bool.not_false]
    have := fin (y + LB[0].toNat) H2 (by omega) (f1.bk f2)
    rwa [Int.natCast_add] at this
  · simp only [hlt, ↓Xa, ↓Xb, ↓Xc, ↓Xd, ↓Xe, ↓Xf, ↓Xg, ↓Xh, ↓Xi, ↓Xj, ↓Xk, ↓Xl, ↓Xm, ↓Xn, ↓Xo, ↓Xp, ↓Xq, ↓Xr, ↓Xs, ↓Xt, ↓Xu, ↓Xv, ↓Xw, ↓Xx, ↓Xy, gx0, gx1, gx2, gx3, ife_e, ife_n, ife_r, Xz, ife_ne', XA, XB, XC, XD, decide_true, decide_false, Bool.not_true, Bool.not_false, ↓wr_rx]
    exact fin y H1 (by omega) f1
theorem law_AdmissibleTables (hp : Hp H) (h : CodeA H v) : W (s_lw_FnAdmissibleTables v) H fun r _ => r = .bool true := by
  unfold s_lw_FnAdmissibleTables
  rcases h with ⟨id, off, n, rfl, hn⟩ | ⟨LB, hB, hl⟩
  · simp only [↓wr_e (c_bigT hn), ↓Xa, ↓Xb, ↓Xc, ↓Xd, ↓Xe, ↓Xf, ↓Xg, ↓Xh, ↓Xi, ↓Xj, ↓Xk, ↓Xl, ↓Xm, ↓Xn, ↓Xo, ↓Xp, ↓Xq, ↓Xr, ↓Xs, ↓Xt, ↓Xu, ↓Xv, ↓Xw, ↓Xx, ↓Xy, gx0, gx1, gx2, gx3, ife_e, ife_n, ife_r, Xz, ife_ne', XA, XB, XC, XD, decide_true, decide_false, Bool.not_true, Bool.not_false]
    exact W.ret rfl
  simp only [↓wr_e (c_bigF hB hl), ↓Xa, ↓Xb, ↓Xc, ↓Xd, ↓Xe, ↓Xf, ↓Xg, ↓Xh, ↓Xi, ↓Xj, ↓Xk, ↓Xl, ↓Xm, ↓Xn, ↓Xo, ↓Xp, ↓Xq, ↓Xr, ↓Xs, ↓Xt, ↓Xu, ↓Xv, ↓Xw, ↓Xx, ↓Xy, gx0, gx1, gx2, gx3, ife_e, ife_n, ife_r, Xz, ife_ne', XA, XB, XC, XD, decide_true, decide_false, Bool.not_true, Bool.not_false]
  refine W.bnd (c_DrawIsAdmissibleTable hp hB hl fun w u p t H1 f1 hpz ht sm => ?_)
  have hB := hB.bkB f1 (by decide)
  have hp1 := f1.wf
  obtain ⟨mv, rfl, hm, h64, hnl⟩ := hpz
  obtain ⟨a, b, c, rfl, ha, hb, hc⟩ := ht
  simp only [↓Xa, ↓Xb, ↓Xc, ↓Xd, ↓Xe, ↓Xf, ↓Xg, ↓Xh, ↓Xi, ↓Xj, ↓Xk, ↓Xl, ↓Xm, ↓Xn, ↓Xo, ↓Xp, ↓Xq, ↓Xr, ↓Xs, ↓Xt, ↓Xu, ↓Xv, ↓Xw, ↓Xx, ↓Xy, gx0, gx1, gx2, gx3, ife_e, ife_n, ife_r, Xz, ife_ne', XA, XB, XC, XD, decide_true, decide_false, Bool.not_true, Bool.not_false]
  refine W.alloc hp1 fun x5 H2 l2 b5 => ?_
  refine W.alloc l2.wf fun x6 H3 l3 b6 => ?_
  have b5 := b5.le l3
  have l := l2.tr l3
  have hB := hB.leB l
  have hm := hm.leL l
  have ha := ha.leI l
  have hb := hb.leL l
  have hc := hc.leI l
  refine W.fsw l.wf b5 rfl rfl (cells_p hm.isCell) fun H4 f4 b5 => ?_
  have hB := hB.bkB f4 (by decide)
  have b6 := b6.bk f4 (by decide)
  have hm := hm.bkL f4 (by decide) (by decide)
  have ha := ha.bkI f4 (by decide)
  have hb := hb.bkL f4 (by decide) (by decide)
  have hc := hc.bkI f4 (by decide)
  refine W.fsw f4.wf b6 rfl rfl (cells_t ha.isCell hb.isCell hc.isCell) fun H5 f5 b6 => ?_
  have hB := hB.bkB f5 (by decide)
  have b5 := b5.bk f5 (by decide)
  have hm := hm.bkL f5 (by decide) (by decide)
  have ha := ha.bkI f5 (by decide)
  have hb := hb.bkL f5 (by decide) (by decide)
  have hc := hc.bkI f5 (by decide)
  have hpz : PuzA Any Any H5 (.agg [i64 p.points, .str p.names, mv]) p := ⟨mv, rfl, hm, h64, hnl⟩
  have ht : TblA Any Any H5 (.agg [a, b, c]) t := ⟨a, b, c, rfl, ha, hb, hc⟩
  simp only [↓wr_ld3 b5, ↓wr_ld3 b6]
  refine W.bnd (c_imIsAdmissibleTable (p := p) (t := t) f5.wf hpz ht fun H6 l6 => ?_)
  have b5 := b5.le l6
  have b6 := b6.le l6
  simp only [↓wr_ld3 b5, ↓wr_ld3 b6]
  refine W.bnd (c_spIsAdmissibleTable (p := p) (t := t) l6.wf (hpz.le l6) (ht.le l6) fun H7 l7 => ?_)
  have b5 := b5.le l7
  have b6 := b6.le l7
  have l := l6.tr l7
  simp only [aeq_bn, beq_self_eq_true, Bool.not_true, ↓Xa, ↓Xj]
  by_cases hA : Adm p t
  case neg =>
    simp only [hA, ↓Xa, ↓Xb, ↓Xc, ↓Xd, ↓Xe, ↓Xf, ↓Xg, ↓Xh, ↓Xi, ↓Xj, ↓Xk, ↓Xl, ↓Xm, ↓Xn, ↓Xo, ↓Xp, ↓Xq, ↓Xr, ↓Xs, ↓Xt, ↓Xu, ↓Xv, ↓Xw, ↓Xx, ↓Xy, gx0, gx1, gx2, gx3, ife_e, ife_n, ife_r, Xz, ife_ne', XA, XB, XC, XD, decide_true, decide_false, Bool.not_true, Bool.not_false]
    exact W.ret rfl
  simp only [hA, ↓Xa, ↓Xb, ↓Xc, ↓Xd, ↓Xe, ↓Xf, ↓Xg, ↓Xh, ↓Xi, ↓Xj, ↓Xk, ↓Xl, ↓Xm, ↓Xn, ↓Xo, ↓Xp, ↓Xq, ↓Xr, ↓Xs, ↓Xt, ↓Xu, ↓Xv, ↓Xw, ↓Xx, ↓Xy, gx0, gx1, gx2, gx3, ife_e, ife_n, ife_r, Xz, ife_ne', XA, XB, XC, XD, decide_true, decide_false, Bool.not_true, Bool.not_false]
  have hv := hA.1.1
  have hw := hA.1.2.1
  obtain ⟨n, hn⟩ : ∃ n : Nat, p.points = n := ⟨p.points.toNat, by have := hv.pts; omega⟩
  have hn5 : n ≤ 5 := by have := sm hv; omega
  have hn1 : 1 ≤ n := by have := hv.pts; omega
  have hgens := hv.2.2.1
  rw [hn] at hgens
  obtain ⟨ch, hch, hcj, hgc⟩ := pBuild_ok hn1 (by omega) hgens.pm (GP.grp hv hn) (GP.gen hv hn)
  have hgrp := GP.grp hv hn
  refine W.bnd (c_roll l.wf (hB.leB l) hl fun x16 H8 s l8 b16 => ?_)
  have b5' := b5
  have b5 := b5.le l8
  have b6 := b6.le l8
  have l := l.tr l8
  simp only [↓Xy]
  refine W.bnd (c_dbelow (n := 100000) l.wf b16 (hB.leB l) (by decide) fun r H9 f9 hr => ?_)
  have b58 := b5
  have b5 := b5.bk f9 (by decide)
  have b6 := b6.bk f9 (by decide)
  have n7 := l6.nx
  have n8 := l7.nx
  have l := Le.own l f9 fun id h => by have : H7.next ≤ id := h.1; omega
  simp only [↓wr_ld3 b5]
  refine W.agn2 (b58.ldw rfl) (b5'.ldw rfl) ?_
  refine W.bnd (c_RandomState (p := p) (I := GP p n) l.wf (hpz.le l) hv hn hch (sizes_small hcj.ci hn5) (sizes_pos hcj) (by omega) hgrp.one (fun i y q _ _ h1 h2 => hgrp.mul _ _ (hgc.rep i y h1) h2) fun x21 H10 q l10 hq hqp hqI => ?_)
  have b5 := b5.le l10
  have b6 := b6.le l10
  have l := l.tr l10
  have hst : StateOf p q := ⟨hv, by rw [hqp.1, hn], by rw [hqp.1]; omega, by rw [hqp.1]; exact hqp.2⟩
  simp only [↓Xa, ↓Xb, ↓Xc, ↓Xd, ↓Xe, ↓Xf, ↓Xg, ↓Xh, ↓Xi, ↓Xj, ↓Xk, ↓Xl, ↓Xm, ↓Xn, ↓Xo, ↓Xp, ↓Xq, ↓Xr, ↓Xs, ↓Xt, ↓Xu, ↓Xv, ↓Xw, ↓Xx, ↓Xy, gx0, gx1, gx2, gx3, ife_e, ife_n, ife_r, Xz, ife_ne', XA, XB, XC, XD, decide_true, decide_false, Bool.not_true, Bool.not_false, ↓wr_ld3 b5, ↓XE b6, ↓wr_f0 b6]
  refine W.bnd (c_PatternOf (p := p) l.wf (hpz.le l) (ha.leI l) hq hA.1.tr hst fun x28 H11 l11 h28 => ?_)
  have b6' := b6
  have b5 := b5.le l11
  have b6 := b6.le l11
  have l := l.tr l11
  simp only [↓wr_ld3 b6]
  refine W.agn1 (b6'.ldw rfl) ?_
  refine W.bnd (c_TableLookup (t := t) l.wf (ht.le l) h28.ro fun H12 l12 => ?_)
  have b5 := b5.le l12
  have l := l.tr l12
  have hlk : comp t.tracked q ∈ t.patterns → 0 ≤ lookup t (comp t.tracked q) := fun hm => by
    have hi := List.idxOf_lt_length_of_mem hm
    have hid : t.patterns.idxOf (comp t.tracked q) < t.dists.length := by rw [hw.2.2.1]; exact hi
    rw [lookup_mem hw hm, val, getD_get hid]
    exact (hw.2.2.2 _ hi hid).2.1
  by_cases h0 : 0 ≤ lookup t (comp t.tracked q)
  case neg =>
    exact absurd (hlk (hqI.patt hA hn)) h0
  simp only [h0, ↓Xa, ↓Xb, ↓Xc, ↓Xd, ↓Xe, ↓Xf, ↓Xg, ↓Xh, ↓Xi, ↓Xj, ↓Xk, ↓Xl, ↓Xm, ↓Xn, ↓Xo, ↓Xp, ↓Xq, ↓Xr, ↓Xs, ↓Xt, ↓Xu, ↓Xv, ↓Xw, ↓Xx, ↓Xy, gx0, gx1, gx2, gx3, ife_e, ife_n, ife_r, Xz, ife_ne', XA, XB, XC, XD, decide_true, decide_false, Bool.not_true, Bool.not_false, ↓wr_ld3 b5]
  refine W.bnd (c_Distance (p := p) l.wf (hpz.le l) hv hn (((hq.leI l11).leI l12)) hst fun H13 L D w l13 hf => ?_)
  have hwt := found_all hv hn hn5 hf
  subst hwt
  have hqL := hqI.mem hv hf
  have hnn := (hf.dst hv).nn q hqL
  obtain ⟨g1, g2⟩ := hA.le hn hf (val L D q).toNat q (by omega) hqL
  have hle : lookup t (comp t.tracked q) ≤ val L D q := by omega
  simp only [hqL, and_self, if_true, hle, ↓Xa, ↓Xb, ↓Xc, ↓Xd, ↓Xe, ↓Xf, ↓Xg, ↓Xh, ↓Xi, ↓Xj, ↓Xk, ↓Xl, ↓Xm, ↓Xn, ↓Xo, ↓Xp, ↓Xq, ↓Xr, ↓Xs, ↓Xt, ↓Xu, ↓Xv, ↓Xw, ↓Xx, ↓Xy, gx0, gx1, gx2, gx3, ife_e, ife_n, ife_r, Xz, ife_ne', XA, XB, XC, XD, decide_true, decide_false, Bool.not_true, Bool.not_false]
  exact W.ret rfl
end
end Go.Am

end
