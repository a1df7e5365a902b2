/- Steps of the proof of FnAdmissibleTables: an abstract machine, its runs, and the plain law. -/
import Derived.Test.YtaacdlikhkfacaaGreatD
import Derived.ProofKit
section
set_option linter.unusedSimpArgs false
set_option linter.unusedVariables false
/- Contracts of the draws: a job grows. -/
namespace Go.Am
section
variable {β X : Type} {f : AVal → AM β} {Q : AVal → AHeap → Prop} {R : AHeap → AVal → X → Prop} {m m2 : Md} {P P2 P3 P4 P5 P' S T : Nat → Prop} {e e2 : TypeId} {H H0 H1 H2 H' : AHeap} {v u x y : AVal} {A B C s D r : List Int} {L LL : List (List Int)} {p : Puz} {cs : List AVal} {t : Tbl} {id : Nat} {n : Int} {n0 tt dd : Nat} {j : Jsc} {a b c : AVal}
/-- append of one thing, in the flat form: the new block has a name. -/
theorem W.app1nf {Q : β → AHeap → Prop} {L : List X} {w : X} {bytes : Nat} (hp : Hp H) (h : Seq R .own P e H v L) (hs : Stb P e R) (hu : u.isCell = true) (hb : bytes ≤ 4096) (hlen : L.length + 1 ≤ 1073741824) (hw : R H u w)
    (k : ∀ y H' d, H.next ≤ d → d < H'.next → Fr (Bk P e H) H H' → Seq R .own (· = d) e H' y (L ++ [w]) → W (f y) H' Q) :
    W (Am.bnd (allocS none e 1 1 [u]) fun z => Am.bnd (appS e 1 bytes v z) f) H Q := by
  refine W.lit1f (R := R) hp hu (a := w) (fun H' l => hs l.bk hw) fun z H1 l1 h1 => ?_
  exact W.appn l1.wf (h.fr l1 (fun _ _ _ _ _ _ h => h) fun v x hx => hs l1.bk hx) h1 (by simp) hb (by simpa using hlen) (fun H' f v x hx => hs f hx) fun y H2 f2 h2 => k y H2 _ l1.nx (by
    obtain ⟨id, hP, hid⟩ := h2.place (by simp)
    subst hP; exact hid) (l1.bk.bk f2) h2
theorem wr_sadd {Q : β → AHeap → Prop} {s t : List UInt8} (h : s.length + t.length ≤ 10000000) : W (bnd (abin .add (.str s) (.str t)) f) H Q ↔ W (f (.str (s ++ t))) H Q := by
  refine wr_p ?_
  have : s.length + t.length ≤ maxStr := by unfold maxStr; omega
  simp only [abin]
  rw [if_pos this]
/-- A job whose parts fit together; at most B entries. -/
structure JobOk (t : Tbl) (j : Jsc) (B : Nat) : Prop where
  len : t.dists.length = t.patterns.length
  few : t.patterns.length ≤ B
  nx : ∃ n : Nat, j.nx = n ∧ n ≤ t.patterns.length
  ne : 1 ≤ t.patterns.length
  tr : 1 ≤ t.tracked.length
  lg : j.lg.length ≤ 60000
theorem idxL_neg : idxL L A < 0 ↔ A ∉ L := by
  unfold idxL
  by_cases h : A ∈ L
  · rw [if_pos h]; simp [h]
  · rw [if_neg h]; simp [h]
theorem Seq.neI {N : Nat} (h : Seq RI m P e H v A) (hf : Fr (Bk (· = N) t_int64 H) H H') (hP : ∀ id, P id → id ≠ N) : Seq RI m P e H' v A := h.apI hf fun id h1 h2 => hP id h1 h2
theorem Seq.apL {e' : TypeId} (h : Lists m P P2 H v L) (hf : Fr (Bk P' e' H) H H') (hd : ∀ id, P id → ¬P' id) (he : e' ≠ t_int64 := by decide) : Lists m P P2 H' v L :=
  h.fr hf (fun id c fz _ hp _ hb => hd id hp hb.1) fun _ _ h => Seq.bkI h hf he
theorem Seq.elL (h : Lists m P P2 H v L) (hf : Fr (Bk P' t_int64 H) H H') (hd : ∀ id, P2 id → ¬P' id) : Lists m P P2 H' v L :=
  h.fr hf (fun id c fz _ _ hg => Bk.ne (by decide) hg) fun _ _ h => Seq.apI h hf hd
theorem Le.own (h : Le H H1) (h' : Fr T H1 H2) (hs : ∀ id, T id → H.next ≤ id) : Le H H2 := h.nw h' fun id hi hT => absurd (hs id hT) (by omega)
theorem c_l28Expand {Bn : Nat} (hp : Hp H) (h : PuzA P P2 H v p) (hj : JobR H u t j) (hok : JobOk t j Bn) (hB : Bn ≤ 1000000) (hlt : j.nx < t.patterns.length)
    (k : ∀ w tt dd t' j' H', Le H H' → JobA H.next tt dd H' w t' j' → t'.tracked = t.tracked → t'.dists.length = t'.patterns.length → t.patterns.length ≤ t'.patterns.length → t'.patterns.length ≤ t.patterns.length + 16 → j'.nx = j.nx + 1 → Q w H') : W (s_sp_l28Expand v u) H Q := by
  have hpz := h
  have hjr := hj
  obtain ⟨mv, rfl, hm, h64, hnl⟩ := h
  obtain ⟨a, b, c, rfl, ha, hb, hc⟩ := hj
  obtain ⟨n, hn, _⟩ := hok.nx
  have hlg := hok.lg
  have hnp : n < t.patterns.length := by omega
  have hnd : n < t.dists.length := by have := hok.len; omega
  have hm := (hm.mono (P' := (· < H.next)) fun id hid _ => hid)
  have hb := (hb.mono (P' := (· < H.next)) fun id hid _ => hid).monoR (P2' := (· < H.next)) fun id hid _ => hid
  have hm := Seq.monoR (P2' := (· < H.next)) hm fun id hid _ => hid
  have ha := ha.mono (P' := (· < H.next)) fun id hid _ => hid
  have hc := hc.mono (P' := (· < H.next)) fun id hid _ => hid
  unfold s_sp_l28Expand
  refine W.box hp (by decide) rfl (cells_p hm.isCell) fun x1 H1 l1 b1 => ?_
  have b1f := b1
  refine W.box l1.wf (by decide) rfl (cells_j ha.isCell hb.isCell hc.isCell) fun x2 H2 l2 b2 => ?_
  have b2 : Bx (Nw H1) t_impl_FillJob H2 x2 [a, b, c, i64 j.nx, .str j.lg, i64 j.sy] := b2
  have b2 := Bx.iv b2
  have b1 := b1.le l2
  have l := l1.tr l2
  refine W.alloc l.wf fun x3 H3 l3 b3 => ?_
  have b3 := Bx.iv b3
  have b1 := b1.le l3
  have b2 := b2.le l3
  have l := l.tr l3
  simp only [↓wr_ld6 b2]
  refine W.bnd (c_l28Copy (t := t) (j := j) l.wf (hjr.le l) fun w tt dd H4 l4 hj => ?_)
  have b1 := b1.le l4
  have b2 := b2.le l4
  have b3 := b3.le l4
  obtain ⟨a', b', c', rfl, hj⟩ := hj
  have nH3 : H.next ≤ H3.next := l.nx
  have htt : tt < H4.next := by
    obtain ⟨id, h1, h2⟩ := hj.1.place (fun h => by have := hok.tr; rw [h] at this; simp at this)
    have := h1.2; omega
  have hdd : H3.next ≤ dd ∧ dd < H4.next := by
    obtain ⟨id, h1, h2⟩ := hj.2.2.1.place (fun h => by rw [h] at hnd; simp at hnd)
    have := h1.2; have := h1.1; omega
  obtain ⟨bb, hbb, hbx⟩ := hj.2.1.ex H3.next
  have hbb : H3.next ≤ bb ∧ bb < H4.next := by
    obtain ⟨id, h1, h2⟩ := hbx.place (fun h => by rw [h] at hnp; simp at hnp)
    subst h1
    rcases hbb with h | h
    · exact ⟨Nat.le_of_eq h.symm, h2⟩
    · exact h
  have hbx : Lists .own (· = bb) (Ne2 H.next tt dd) H4 b' t.patterns := hbx.monoR fun id _ h => ⟨Nat.le_trans nH3 h.1, h.2⟩
  obtain ⟨hat, _, hct, hne⟩ := hj
  have hat : Ints .own (Eq1 H.next tt) H4 a' t.tracked := hat.mono fun id _ h => ⟨Nat.le_trans nH3 h.1, h.2⟩
  have hct : Ints .own (· = dd) H4 c' t.dists := hct.mono fun id _ h => h.2
  have l := l.tr l4
  refine W.alloc l.wf fun x6 H5 l5 b6 => ?_
  have b1 := b1.le l5
  have b2 := b2.le l5
  have b3 := b3.le l5
  have hat := hat.leI l5
  have hct := hct.leI l5
  have hbx := hbx.leL l5
  have nH4 : H.next ≤ H4.next := l.nx
  have l := l.tr l5
  refine W.fsw l.wf b6 rfl rfl (cells_j (j := j) hat.isCell hbx.isCell hct.isCell) fun H6 f6 b6 => ?_
  have b6 : Bx (Nw H4) t_impl_FillJob H6 x6 [a', b', c', i64 j.nx, .str j.lg, i64 j.sy] := b6
  have b1 := b1.bk f6 (by decide)
  have n24 : H2.next ≤ H4.next := Nat.le_trans l3.nx l4.nx
  have n34 : H3.next ≤ H4.next := l4.nx
  have b2 := b2.ap f6 (iv_nw n24)
  have b3 := b3.ap f6 (iv_nw n34)
  have hat := hat.bkI f6 (by decide)
  have hct := hct.bkI f6 (by decide)
  have hbx := hbx.bkL f6 (by decide) (by decide)
  have l := l.nw f6 fun id hid h => absurd h.1 (by show ¬H4.next ≤ id; omega)
  have hbl := hb.leL l
  obtain ⟨pv, hpv, hpL, _⟩ := hbl.ld1 hnp
  have hpL : Ints .ro (· < H.next) H6 pv t.patterns[n] := hpL
  simp only [↓XE b2, ↓wr_fadd0 b2, ↓wr_f1 b2, ↓wr_f3 b2, hn, ↓wr_ix hbl hnp, ↓wr_e hpv, ↓wr_ld3 b1]
  refine W.bnd (c_Letters (p := p) l.wf (hpz.le l) fun lt H7 l7 hlt' => ?_)
  have n67 : H6.next ≤ H7.next := l7.nx
  have nH6 : H.next ≤ H6.next := l.nx
  have hpL := hpL.leI l7
  have b1 := b1.le l7
  have b2 := b2.le l7
  have b3 := b3.le l7
  have b6 := b6.le l7
  have hat := hat.leI l7
  have hct := hct.leI l7
  have hbx := hbx.leL l7
  have l := l.tr l7
  refine W.emp (R := RL (Ne2 H.next tt dd)) (e := t_Sint64) l.wf fun ad H8 l8 hady => ?_
  have b1 := b1.le l8
  have b2 := b2.le l8
  have b3 := b3.le l8
  have b6 := b6.le l8
  have hat := hat.leI l8
  have hct := hct.leI l8
  have hbx := hbx.leL l8
  have hlt' := hlt'.leI l8
  have hpL := hpL.leI l8
  have l := l.tr l8
  generalize hls : (if Valid p then lets p.moves.length else []) = ls at hlt'
  have hls16 : ls.length ≤ 16 := by
    by_cases hv : Valid p
    · rw [if_pos hv] at hls; rw [← hls, lets_length]; have := hv.h8; omega
    · rw [if_neg hv] at hls; rw [← hls]; simp
  have n46 : H4.next ≤ H6.next := Nat.le_trans l5.nx f6.nx
  have hlt' : Ints .ro (· ≠ dd) H8 lt ls := hlt'.ro.mono fun id hid h => by have : H6.next ≤ id := h; omega
  obtain ⟨ee, hee, hady⟩ := hady.ex H.next
  have hlt1 : H.next < H1.next := by
    obtain ⟨id, _, g1, g2, _⟩ := b1f
    have : H.next ≤ id := g1
    omega
  have n13 : H1.next ≤ H3.next := Nat.le_trans l2.nx l3.nx
  have hee : H.next ≤ ee ∧ ee < H8.next ∧ bb ≠ ee := by
    rcases hee with h | h
    · have := l8.nx; omega
    · have h1 : H7.next ≤ ee := h.1
      omega
  have hdd8 : dd < H8.next := by have := l8.nx; omega
  refine W.lq (fun q st Hk => ∃ (i : Nat) (ad a' b' c' : AVal) (bb ee dd : Nat) (LL AD : List (List Int)) (D : List Int), q = ls.length - i ∧ i ≤ ls.length ∧ st = [ad, i64 (i : Int)] ∧ Le H Hk ∧
      Bx (Nw H) t_impl_Puzzle Hk x1 [i64 p.points, .str p.names, mv] ∧ Bx (Iv H1.next H2.next) t_impl_FillJob Hk x2 [a, b, c, i64 j.nx, .str j.lg, i64 j.sy] ∧ Bx (Iv H2.next H3.next) t_impl_FillJob Hk x3 [.nilS, .nilS, .nilS, i64 0, .str [], i64 0] ∧
      Bx (Nw H4) t_impl_FillJob Hk x6 [a', b', c', i64 j.nx, .str j.lg, i64 j.sy] ∧ Ints .own (Eq1 H.next tt) Hk a' t.tracked ∧ Lists .own (· = bb) (Ne2 H.next tt dd) Hk b' LL ∧ Lists .own (· = ee) (Ne2 H.next tt dd) Hk ad AD ∧ Ints .own (· = dd) Hk c' D ∧
      Ints .ro (· ≠ dd) Hk lt ls ∧ Ints .ro (· < H.next) Hk pv t.patterns[n] ∧ tt ≠ dd ∧ bb ≠ ee ∧ H.next ≤ bb ∧ H.next ≤ ee ∧ ee < Hk.next ∧ H.next ≤ dd ∧ dd < Hk.next ∧ LL.length = t.patterns.length + AD.length ∧ D.length = LL.length ∧ AD.length ≤ i ∧ ∀ A ∈ AD, A.length ≤ 20)
    (fun rr Hk => ∃ (ad a' b' c' : AVal) (bb dd : Nat) (LL AD : List (List Int)) (D : List Int), rr = (.exit 0, [ad]) ∧ Le H Hk ∧
      Bx (Iv H1.next H2.next) t_impl_FillJob Hk x2 [a, b, c, i64 j.nx, .str j.lg, i64 j.sy] ∧ Bx (Iv H2.next H3.next) t_impl_FillJob Hk x3 [.nilS, .nilS, .nilS, i64 0, .str [], i64 0] ∧
      Bx (Nw H4) t_impl_FillJob Hk x6 [a', b', c', i64 j.nx, .str j.lg, i64 j.sy] ∧ Ints .own (Eq1 H.next tt) Hk a' t.tracked ∧ Lists .own (· = bb) (Ne2 H.next tt dd) Hk b' LL ∧ Lists .ro Any Any Hk ad AD ∧ Ints .own (· = dd) Hk c' D ∧
      tt ≠ dd ∧ H.next ≤ bb ∧ H.next ≤ dd ∧ LL.length = t.patterns.length + AD.length ∧ D.length = LL.length ∧ AD.length ≤ 16 ∧ ∀ A ∈ AD, A.length ≤ 20) ls.length
    ⟨0, ad, a', b', c', bb, ee, dd, t.patterns, [], t.dists, rfl, Nat.zero_le _, rfl, l, b1, b2, b3, b6, hat, hbx, hady, hct, hlt', hpL, hne, hee.2.2, by omega, by omega, by omega, by omega, hdd8, by simp, hok.len, by simp, by simp⟩ ?_ ?_
  · rintro q st Hk ⟨i, ad, a', b', c', bb, ee, dd, LL, AD, D, rfl, hi, rfl, lk, b1, b2, b3, b6, hat, hbx, had, hct, hlt, hpv, hne, hbe, nbb, nee, lee, ndd, ldd, hLL, hDL, hAD, hAl⟩ Q' kn kx
    by_cases hil : i < ls.length
    · have hil' : (i : Int) < ls.length := by omega
      have hi1 : i + 1 ≤ ls.length := hil
      simp only [↓XG hlt, hil', ↓Xa, ↓Xb, ↓Xc, ↓Xd, ↓Xe, ↓Xf, ↓Xg, ↓Xh, ↓Xi, ↓Xj, ↓Xk, ↓Xl, ↓Xm, ↓Xn, ↓Xo, ↓Xp, ↓Xq, ↓Xr, ↓Xs, ↓Xt, ↓Xu, ↓Xv, ↓Xw, ↓Xx, ↓Xy, gx0, gx1, gx2, gx3, ife_e, ife_n, ife_r, Xz, ife_ne', XA, XB, XC, XD, decide_true, decide_false, Bool.not_true, Bool.not_false, ↓wr_ld3 b1, ↓XE b2, ↓wr_fadd0 b2, ↓wr_f0 b2]
      rw [wr_inc (by omega)]
      have hbn : bnds ls.length (some (i64 (i : Int))) (some (i64 ((i + 1 : Nat) : Int))) = some (i, i + 1) := by
        have e1 : bndOf ls.length ls.length (some (i64 ((i + 1 : Nat) : Int))) = some (i + 1) := by simp [bndOf]; omega
        have e2 : bndOf 0 (i + 1) (some (i64 (i : Int))) = some i := by simp [bndOf]; omega
        simp only [bnds, e1, e2]
      obtain ⟨sl, hsl, hsls⟩ := hlt.sl hbn (by simp) ⟨by omega, hi1⟩
      simp only [↓wr_p hsl]
      refine W.bnd (c_PatternAfter (p := p) lk.wf (hpz.le lk) (ha.leI lk) hpv hsls fun r Hl z ll hr hz => ?_)
      subst hr
      have hpz20 : (if Patt p t.tracked t.patterns[n] ∧ WordOf p.moves.length ((ls.take (i + 1)).drop i) then acts p ((ls.take (i + 1)).drop i) t.patterns[n] else []).length ≤ 20 := by
        by_cases hP : Patt p t.tracked t.patterns[n] ∧ WordOf p.moves.length ((ls.take (i + 1)).drop i)
        · rw [if_pos hP, acts_length]
          have h1 := hP.1.2.1
          have h2 := hP.1.1.2.1
          have h3 := hP.1.1.1.pts
          omega
        · rw [if_neg hP]; simp
      generalize (if Patt p t.tracked t.patterns[n] ∧ WordOf p.moves.length ((ls.take (i + 1)).drop i) then acts p ((ls.take (i + 1)).drop i) t.patterns[n] else []) = zz at hz hpz20
      have lkn := lk.nx
      have b6k := b6
      have b1 := b1.le ll
      have b2 := b2.le ll
      have b3 := b3.le ll
      have b6 := b6.le ll
      have hat := hat.leI ll
      have hct := hct.leI ll
      have hbx := hbx.leL ll
      have had := had.leL ll
      have hlt := hlt.leI ll
      have hpv := hpv.leI ll
      have lk : Le H Hl := lk.tr ll
      have n4k : H4.next ≤ Hk.next := by
        obtain ⟨id, _, g1, g2, _⟩ := b6k
        have : H4.next ≤ id := g1
        omega
      have hz : Ints .ro (Ne2 H.next tt dd) Hl z zz := hz.ro.mono fun id hid h => by
        have h : Hk.next ≤ id := h
        exact ⟨by omega, by omega, by omega⟩
      have lkn' := lk.nx
      have llx := ll.nx
      simp only [↓Xa, ↓Xb, ↓Xc, ↓Xd, ↓Xe, ↓Xf, ↓Xg, ↓Xh, ↓Xi, ↓Xj, ↓Xk, ↓Xl, ↓Xm, ↓Xn, ↓Xo, ↓Xp, ↓Xq, ↓Xr, ↓Xs, ↓Xt, ↓Xu, ↓Xv, ↓Xw, ↓Xx, ↓Xy, gx0, gx1, gx2, gx3, ife_e, ife_n, ife_r, Xz, ife_ne', XA, XB, XC, XD, decide_true, decide_false, Bool.not_true, Bool.not_false, ↓XE b6, ↓wr_fadd0 b6, ↓wr_f1 b6, ↓wr_e (c_indexOfList hbx hz)]
      by_cases hmem : zz ∈ LL
      · have : ¬idxL LL zz < 0 := fun h => idxL_neg.1 h hmem
        simp only [this, ↓Xa, ↓Xb, ↓Xc, ↓Xd, ↓Xe, ↓Xf, ↓Xg, ↓Xh, ↓Xi, ↓Xj, ↓Xk, ↓Xl, ↓Xm, ↓Xn, ↓Xo, ↓Xp, ↓Xq, ↓Xr, ↓Xs, ↓Xt, ↓Xu, ↓Xv, ↓Xw, ↓Xx, ↓Xy, gx0, gx1, gx2, gx3, ife_e, ife_n, ife_r, Xz, ife_ne', XA, XB, XC, XD, decide_true, decide_false, Bool.not_true, Bool.not_false, ↓wr_rx]
        rw [wr_inc (by omega)]
        exact W.ret (kn (ls.length - (i + 1)) _ _ (by omega) ⟨i + 1, ad, a', b', c', bb, ee, dd, LL, AD, D, rfl, hil, rfl, lk, b1, b2, b3, b6, hat, hbx, had, hct, hlt, hpv, hne, hbe, nbb, nee, by omega, ndd, by omega, hLL, hDL, by omega, hAl⟩)
      · have : idxL LL zz < 0 := idxL_neg.2 hmem
        simp only [this, ↓Xa, ↓Xb, ↓Xc, ↓Xd, ↓Xe, ↓Xf, ↓Xg, ↓Xh, ↓Xi, ↓Xj, ↓Xk, ↓Xl, ↓Xm, ↓Xn, ↓Xo, ↓Xp, ↓Xq, ↓Xr, ↓Xs, ↓Xt, ↓Xu, ↓Xv, ↓Xw, ↓Xx, ↓Xy, gx0, gx1, gx2, gx3, ife_e, ife_n, ife_r, Xz, ife_ne', XA, XB, XC, XD, decide_true, decide_false, Bool.not_true, Bool.not_false, bnd_as, ↓XE b6, ↓wr_fadd0 b6, ↓wr_f1 b6, ↓wr_c1 hz.isCell]
        have hLLs : LL.length ≤ 1000100 := by have := hok.few; omega
        refine W.app1nf (R := RL (Ne2 H.next tt dd)) lk.wf hbx (stb_RL (by decide)) hz.isCell (by decide) (by omega) hz fun b'' Hm bb' hbb1 hbb2 fm hbx => ?_
        have b1 := b1.bk fm (by decide)
        have b2 := b2.bk fm (by decide)
        have b3 := b3.bk fm (by decide)
        have b6 := b6.bk fm (by decide)
        have hat := hat.bkI fm (by decide)
        have hct := hct.bkI fm (by decide)
        have hlt := hlt.bkI fm (by decide)
        have hpv := hpv.bkI fm (by decide)
        have hz := Seq.bkI hz fm (by decide)
        have had := Seq.apL had fm fun id h h' => hbe (h'.symm.trans h)
        have lk : Le H Hm := lk.own fm fun id h => by have := h.1; omega
        simp only [↓XE b6, ↓wr_fadd0 b6]
        refine W.fst lk.wf b6 (by simp) hbx.isCell fun Hn fn b6 => ?_
        have b6 : Bx (Nw H4) t_impl_FillJob Hn x6 [a', b'', c', i64 j.nx, .str j.lg, i64 j.sy] := b6
        have b1 := b1.bk fn (by decide)
        have b2 := b2.ap fn (iv_nw n24)
        have b3 := b3.ap fn (iv_nw n34)
        have hat := hat.bkI fn (by decide)
        have hct := hct.bkI fn (by decide)
        have hlt := hlt.bkI fn (by decide)
        have hpv := hpv.bkI fn (by decide)
        have hz := Seq.bkI hz fn (by decide)
        have had := had.bkL fn (by decide) (by decide)
        have hbx := hbx.bkL fn (by decide) (by decide)
        have lk : Le H Hn := lk.own fn fun id h => Nat.le_trans nH4 h.1
        have nmn := fn.nx
        refine W.reserve lk.wf fun Ho lo fre => ?_
        have fr11 := fre 11 (by decide)
        have b1 := b1.le lo
        have b2 := b2.le lo
        have b3 := b3.le lo
        have b6 := b6.le lo
        have hat := hat.leI lo
        have hct := hct.leI lo
        have hbx := hbx.leL lo
        have had := had.leL lo
        have hlt := hlt.leI lo
        have hpv := hpv.leI lo
        have hz := Seq.leI hz lo
        have lk : Le H Ho := lk.tr lo
        have hcl := hc.leI lk
        simp only [↓XE b6, ↓wr_fadd0 b6, ↓wr_f2 b6, ↓XE b2, ↓wr_fadd0 b2, ↓wr_f2 b2, ↓wr_f3 b2, hn, ↓wr_ix hcl hnd, ↓wr_ldI hcl hnd, ↓wr_addw, ↓wr_c1i]
        have nmx := fm.nx
        have lox := lo.nx
        refine W.lit1Sf (R := RI) (a := IntKind.i64.wrap (t.dists[n] + 1)) (e := t_int64) lo.wf fr11 rfl (fun _ _ => rfl) fun y Hp' fp hy => ?_
        have b1 := b1.nk fp
        have b2 := b2.nk fp
        have b3 := b3.nk fp
        have b6 := b6.nk fp
        have hat := hat.nkI fp
        have hct := hct.nkI fp
        have hbx := hbx.nkL fp
        have had := had.nkL fp
        have hlt := hlt.nkI fp
        have hpv := hpv.nkI fp
        have hz := Seq.nkI hz fp
        have lk : Le H Hp' := lk.own fp fun id h => by have := h.1; omega
        have npx := fp.nx
        have hlt := hlt.mono (P' := fun id => id ≠ dd ∧ id ≠ Hp'.next) fun id hid h => ⟨h, by omega⟩
        have hbx := hbx.monoR (P2' := fun id => Ne2 H.next tt dd id ∧ id ≠ Hp'.next) fun id hid h => ⟨h, by omega⟩
        have had := had.monoR (P2' := fun id => Ne2 H.next tt dd id ∧ id ≠ Hp'.next) fun id hid h => ⟨h, by omega⟩
        have hz := Seq.mono hz (P' := fun id => Ne2 H.next tt dd id ∧ id ≠ Hp'.next) fun id hid h => ⟨h, by omega⟩
        refine W.appn lk.wf hct hy (by simp) (by decide) (by simp; omega) (fun _ _ _ _ h => h) fun c'' Hq fq hct => ?_
        have hltp : Hp'.next < Hq.next := by
          obtain ⟨id, h1, h2⟩ := hct.place (by simp)
          omega
        have b1 := b1.bk fq (by decide)
        have b2 := b2.bk fq (by decide)
        have b3 := b3.bk fq (by decide)
        have b6 := b6.bk fq (by decide)
        have hat := hat.apI fq fun id h h' => hne (h.2.symm.trans h')
        have hlt := (hlt.apI fq fun id h h' => h.1 h').mono (P' := (· ≠ Hp'.next)) fun id _ h => h.2
        have hpv := hpv.apI fq fun id h h' => by
          have : id < H.next := h
          have : id = dd := h'
          omega
        have hz := (Seq.apI hz fq fun id h h' => h.1.2.2 h').mono (P' := Ne2 H.next tt Hp'.next) fun id _ h => ⟨h.1.1, h.1.2.1, h.2⟩
        have hbx := (hbx.elL fq fun id h h' => h.1.2.2 h').monoR (P2' := Ne2 H.next tt Hp'.next) fun id _ h => ⟨h.1.1, h.1.2.1, h.2⟩
        have had := (had.elL fq fun id h h' => h.1.2.2 h').monoR (P2' := Ne2 H.next tt Hp'.next) fun id _ h => ⟨h.1.1, h.1.2.1, h.2⟩
        have lk : Le H Hq := lk.own fq fun id h => by have : id = dd := h.1; omega
        simp only [↓XE b6, ↓wr_fadd0 b6]
        refine W.fst lk.wf b6 (by simp) hct.isCell fun Hr fr b6 => ?_
        have b6 : Bx (Nw H4) t_impl_FillJob Hr x6 [a', b'', c'', i64 j.nx, .str j.lg, i64 j.sy] := b6
        have b1 := b1.bk fr (by decide)
        have b2 := b2.ap fr (iv_nw n24)
        have b3 := b3.ap fr (iv_nw n34)
        have hat := hat.bkI fr (by decide)
        have hct := hct.bkI fr (by decide)
        have hlt := hlt.bkI fr (by decide)
        have hpv := hpv.bkI fr (by decide)
        have hz := Seq.bkI hz fr (by decide)
        have had := had.bkL fr (by decide) (by decide)
        have hbx := hbx.bkL fr (by decide) (by decide)
        have lk : Le H Hr := lk.own fr fun id h => Nat.le_trans nH4 h.1
        have nrx := fr.nx
        simp only [↓wr_c1 hz.isCell]
        refine W.app1nf (R := RL (Ne2 H.next tt Hp'.next)) lk.wf had (stb_RL (by decide)) hz.isCell (by decide) (by omega) hz fun ad' Hs ee' he1 he2 fs had => ?_
        have b1 := b1.bk fs (by decide)
        have b2 := b2.bk fs (by decide)
        have b3 := b3.bk fs (by decide)
        have b6 := b6.bk fs (by decide)
        have hat := hat.bkI fs (by decide)
        have hct := hct.bkI fs (by decide)
        have hlt := hlt.bkI fs (by decide)
        have hpv := hpv.bkI fs (by decide)
        have hbx := Seq.apL hbx fs fun id h h' => by
          have : id = bb' := h
          have : id = ee := h'
          omega
        have lk : Le H Hs := lk.own fs fun id h => by have : id = ee := h.1; omega
        have nsx := fs.nx
        simp only [↓wr_rx, ↓Xa, ↓Xb, ↓Xc, ↓Xd, ↓Xe, ↓Xf, ↓Xg, ↓Xh, ↓Xi, ↓Xj, ↓Xk, ↓Xl, ↓Xm, ↓Xn, ↓Xo, ↓Xp, ↓Xq, ↓Xr, ↓Xs, ↓Xt, ↓Xu, ↓Xv, ↓Xw, ↓Xx, ↓Xy, gx0, gx1, gx2, gx3, ife_e, ife_n, ife_r, Xz, ife_ne', XA, XB, XC, XD, decide_true, decide_false, Bool.not_true, Bool.not_false]
        rw [wr_inc (by omega)]
        refine W.ret (kn (ls.length - (i + 1)) _ _ (by omega) ⟨i + 1, ad', a', b'', c'', bb', ee', Hp'.next, LL ++ [zz], AD ++ [zz], _, rfl, hil, rfl, lk, b1, b2, b3, b6, hat, hbx, had, hct, hlt, hpv, by omega, by omega, by omega, by omega, by omega, by omega, by omega, by simp; omega, by simp; omega, by simp; omega, fun A hA => ?_⟩)
        rcases List.mem_append.1 hA with hA | hA
        · exact hAl A hA
        · rw [List.mem_singleton.1 hA]; exact hpz20
    · have hie : ¬(i : Int) < ls.length := by omega
      simp only [↓XG hlt, hie, ↓Xa, ↓Xb, ↓Xc, ↓Xd, ↓Xe, ↓Xf, ↓Xg, ↓Xh, ↓Xi, ↓Xj, ↓Xk, ↓Xl, ↓Xm, ↓Xn, ↓Xo, ↓Xp, ↓Xq, ↓Xr, ↓Xs, ↓Xt, ↓Xu, ↓Xv, ↓Xw, ↓Xx, ↓Xy, gx0, gx1, gx2, gx3, ife_e, ife_n, ife_r, Xz, ife_ne', XA, XB, XC, XD, decide_true, decide_false, Bool.not_true, Bool.not_false]
      exact W.ret (kx _ _ _ (by simp) ⟨ad, a', b', c', bb, dd, LL, AD, D, rfl, lk, b2, b3, b6, hat, hbx, Seq.anyL had, hct, hne, nbb, ndd, hLL, hDL, by omega, hAl⟩)
  · rintro rr Hk ⟨ad, a', b', c', bb, dd, LL, AD, D, rfl, lk, b2, b3, b6, hat, hbx, had, hct, hne, nbb, ndd, hLL, hDL, hAD, hAl⟩
    simp only [↓Xa, ↓Xb, ↓Xc, ↓Xd, ↓Xe, ↓Xf, ↓Xg, ↓Xh, ↓Xi, ↓Xj, ↓Xk, ↓Xl, ↓Xm, ↓Xn, ↓Xo, ↓Xp, ↓Xq, ↓Xr, ↓Xs, ↓Xt, ↓Xu, ↓Xv, ↓Xw, ↓Xx, ↓Xy, gx0, gx1, gx2, gx3, ife_e, ife_n, ife_r, Xz, ife_ne', XA, XB, XC, XD, decide_true, decide_false, Bool.not_true, Bool.not_false, ↓XE b2, ↓wr_f3 b2]
    refine W.bnd (c_l28Record lk.wf had (by omega) (fun A hA => by have := hAl A hA; omega) fun s Hl ll hs => ?_)
    have b6k := b6
    have b2 := b2.le ll
    have b3 := b3.le ll
    have b6 := b6.le ll
    have b6l := b6
    simp only [↓Xy]
    refine W.bnd (c_Checksum (by omega) fun ck => ?_)
    simp only [↓Xy]
    have lk : Le H Hl := lk.tr ll
    refine W.bnd (c_l29Uint32 lk.wf fun s4 Hm lm hs4 => ?_)
    have b2 := b2.le lm
    have b3 := b3.le lm
    have b6 := b6.le lm
    have hat := (hat.leI ll).leI lm
    have hct := (hct.leI ll).leI lm
    have hbx := (hbx.leL ll).leL lm
    have lk : Le H Hm := lk.tr lm
    simp only [↓XE b6, ↓wr_f4 b6]
    refine W.agn2 (b6l.ld1 rfl) (b6l.ld1 rfl) ?_
    rw [wr_sadd (by omega), wr_sadd (by simp; omega)]
    simp only [↓XE b6]
    refine W.fst lk.wf b6 (by simp) rfl fun Hn fn b6 => ?_
    have b6 : Bx (Nw H4) t_impl_FillJob Hn x6 [a', b', c', i64 j.nx, .str (j.lg ++ s ++ s4), i64 j.sy] := b6
    have b2 := b2.ap fn (iv_nw n24)
    have b3 := b3.ap fn (iv_nw n34)
    have hat := hat.bkI fn (by decide)
    have hct := hct.bkI fn (by decide)
    have hbx := hbx.bkL fn (by decide) (by decide)
    have lk : Le H Hn := lk.own fn fun id h => Nat.le_trans nH4 h.1
    have hnx : In64 (j.nx + 1) := by have := hok.few; unfold In64; omega
    simp only [↓XE b2, ↓wr_f3 b2, ↓wr_add hnx, ↓XE b6]
    refine W.fst lk.wf b6 (by simp) rfl fun Ho fo b6 => ?_
    have b6 : Bx (Nw H4) t_impl_FillJob Ho x6 [a', b', c', i64 (j.nx + 1), .str (j.lg ++ s ++ s4), i64 j.sy] := b6
    have b3 := b3.ap fo (iv_nw n34)
    have hat := hat.bkI fo (by decide)
    have hct := hct.bkI fo (by decide)
    have hbx := hbx.bkL fo (by decide) (by decide)
    have lk : Le H Ho := lk.own fo fun id h => Nat.le_trans nH4 h.1
    simp only [↓wr_ld6 b6]
    refine W.fsw lk.wf b3 rfl rfl (cells_j (j := ⟨j.nx + 1, j.lg ++ s ++ s4, j.sy⟩) hat.isCell hbx.isCell hct.isCell) fun Hp' fp b3 => ?_
    have lk : Le H Hp' := lk.own fp fun id h => by have := h.1.1; have := l1.nx; have := l2.nx; omega
    simp only [↓wr_ld6 b3]
    exact W.ret (k _ tt dd ⟨t.tracked, LL, D⟩ ⟨j.nx + 1, j.lg ++ s ++ s4, j.sy⟩ _ lk ⟨a', b', c', rfl, hat.bkI fp (by decide), (hbx.bkL fp (by decide) (by decide)).mono fun id _ h => by have : id = bb := h; omega, (hct.bkI fp (by decide)).mono fun id _ h => ⟨by omega, h⟩, hne⟩ rfl hDL (by show _ ≤ LL.length; omega) (by show LL.length ≤ _; omega) rfl)
end
end Go.Am

end

section
set_option linter.unusedSimpArgs false
set_option linter.unusedVariables false
/- Contracts of the draws: a step of a job; corrupted texts. -/
namespace Go.Am
section
variable {β X : Type} {f : AVal → AM β} {Q : AVal → AHeap → Prop} {R : AHeap → AVal → X → Prop} {m m2 : Md} {P P2 P3 P4 P5 P' S T : Nat → Prop} {e e2 : TypeId} {H H0 H1 H2 H' : AHeap} {v u x y : AVal} {A B C s D r : List Int} {L LL : List (List Int)} {p : Puz} {cs : List AVal} {t : Tbl} {id : Nat} {n : Int} {n0 tt dd : Nat} {j : Jsc} {a b c : AVal}
theorem JobA.le (h : JobA n0 tt dd H v t j) (hl : Le H H') : JobA n0 tt dd H' v t j := by
  obtain ⟨a, b, c, rfl, h⟩ := h
  exact ⟨a, b, c, rfl, h.le hl⟩
theorem c_l28Step {Bn : Nat} (hp : Hp H) (h : PuzA P P2 H v p) (hj : JobA n0 tt dd H u t j) (hn0 : n0 ≤ H.next) (hok : JobOk t j Bn) (hB : Bn ≤ 1000000)
    (k : ∀ w b tt dd t' j' H', Le H H' → JobA n0 tt dd H' w t' j' → JobOk t' j' (Bn + 16) → Q (.tuple [w, .bool b]) H') : W (s_sp_l28Step v u) H Q := by
  have hpz := h
  have hja := hj
  obtain ⟨mv, rfl, hm, h64, hnl⟩ := h
  obtain ⟨a, b, c, rfl, hc⟩ := hj
  obtain ⟨n, hn, hnle⟩ := hok.nx
  have hok' : JobOk t j (Bn + 16) := ⟨hok.len, by have := hok.few; omega, hok.nx, hok.ne, hok.tr, hok.lg⟩
  unfold s_sp_l28Step
  refine W.box hp (by decide) rfl (cells_p hm.isCell) fun x1 H1 l1 b1 => ?_
  refine W.box l1.wf (by decide) rfl hc.cells fun x2 H2 l2 b2 => ?_
  have b2 : Bx (Nw H1) t_impl_FillJob H2 x2 [a, b, c, i64 j.nx, .str j.lg, i64 j.sy] := b2
  have b2 := Bx.iv b2
  have b1 := b1.le l2
  have l := l1.tr l2
  refine W.alloc l.wf fun x3 H3 l3 b3 => ?_
  have b3 := Bx.iv b3
  have b1 := b1.le l3
  have b2 := b2.le l3
  have l := l.tr l3
  have hcl := hc.le l
  have hbl := hcl.2.1
  simp only [↓XE b2, ↓wr_fadd0 b2, ↓wr_f3 b2, ↓wr_f1 b2, ↓XG hbl, ↓Xq]
  -- the job as it stands
  have same : ∀ (Hk : AHeap), Le H Hk → Bx (Iv H1.next H2.next) t_impl_FillJob Hk x2 [a, b, c, i64 j.nx, .str j.lg, i64 j.sy] → Bx (Iv H2.next H3.next) t_impl_FillJob Hk x3 [.nilS, .nilS, .nilS, i64 0, .str [], i64 0] →
      W (bnd (ldn 6 x2) fun x11 => bnd (stn 6 x3 x11) fun _ => bnd (ldn 6 x3) fun v12 => ret (.tuple [v12, .bool false])) Hk Q := by
    intro Hk lk b2 b3
    simp only [↓wr_ld6 b2]
    refine W.fsw lk.wf b3 rfl rfl hc.cells fun Hl fl b3 => ?_
    have b3 : Bx (Iv H2.next H3.next) t_impl_FillJob Hl x3 [a, b, c, i64 j.nx, .str j.lg, i64 j.sy] := b3
    simp only [↓wr_ld6 b3]
    refine W.ret (k _ _ tt dd t j _ (Le.own lk fl fun id h => ?_) ⟨a, b, c, rfl, (hc.le lk).bk fl (by decide) (by decide)⟩ hok')
    have := h.1.1; have := l1.nx; have := l2.nx; omega
  by_cases h0 : j.nx = (t.patterns.length : Int)
  · simp only [h0, ↓Xa, ↓Xb, ↓Xc, ↓Xd, ↓Xe, ↓Xf, ↓Xg, ↓Xh, ↓Xi, ↓Xj, ↓Xk, ↓Xl, ↓Xm, ↓Xn, ↓Xo, ↓Xp, ↓Xq, ↓Xr, ↓Xs, ↓Xt, ↓Xu, ↓Xv, ↓Xw, ↓Xx, ↓Xy, gx0, gx1, gx2, gx3, ife_e, ife_n, ife_r, Xz, ife_ne', XA, XB, XC, XD, decide_true, decide_false, Bool.not_true, Bool.not_false]
    exact same _ l b2 b3
  · simp only [h0, ↓Xa, ↓Xb, ↓Xc, ↓Xd, ↓Xe, ↓Xf, ↓Xg, ↓Xh, ↓Xi, ↓Xj, ↓Xk, ↓Xl, ↓Xm, ↓Xn, ↓Xo, ↓Xp, ↓Xq, ↓Xr, ↓Xs, ↓Xt, ↓Xu, ↓Xv, ↓Xw, ↓Xx, ↓Xy, gx0, gx1, gx2, gx3, ife_e, ife_n, ife_r, Xz, ife_ne', XA, XB, XC, XD, decide_true, decide_false, Bool.not_true, Bool.not_false, ↓wr_ld3 b1, ↓wr_ld6 b2]
    refine W.bnd (c_l28Expand (p := p) l.wf (hpz.le l) (JobA.rd ⟨a, b, c, rfl, hcl⟩) hok hB (by omega) fun w tt' dd' t' j' H4 l4 hja' e1 e2 e3 e4 e5 => ?_)
    have n34 : H3.next ≤ H4.next := l4.nx
    have b2 := b2.le l4
    have b3 := b3.le l4
    have nH3 : H.next ≤ H3.next := l.nx
    have l := l.tr l4
    refine W.alloc l.wf fun x16 H5 l5 b16 => ?_
    have b2 := b2.le l5
    have b3 := b3.le l5
    have l := l.tr l5
    obtain ⟨a', b', c', rfl, hc'⟩ := hja'
    have hc' := hc'.le l5
    refine W.fsw l.wf b16 rfl rfl hc'.cells fun H6 f6 b16 => ?_
    have b16 : Bx (Nw H4) t_impl_FillJob H6 x16 [a', b', c', i64 j'.nx, .str j'.lg, i64 j'.sy] := b16
    have n24 : H2.next ≤ H4.next := Nat.le_trans l3.nx l4.nx
    have b2 := b2.ap f6 (iv_nw n24)
    have b3 := b3.ap f6 (iv_nw n34)
    have hc' := hc'.bk f6 (by decide) (by decide)
    have l : Le H H6 := Le.own l f6 fun id h => by have : H4.next ≤ id := h.1; omega
    simp only [↓XE b16, ↓wr_f4 b16, ↓Xa, ↓Xb, ↓Xc, ↓Xd, ↓Xe, ↓Xf, ↓Xg, ↓Xh, ↓Xi, ↓Xj, ↓Xk, ↓Xl, ↓Xm, ↓Xn, ↓Xo, ↓Xp, ↓Xq, ↓Xr, ↓Xs, ↓Xt, ↓Xu, ↓Xv, ↓Xw, ↓Xx, ↓Xy, gx0, gx1, gx2, gx3, ife_e, ife_n, ife_r, Xz, ife_ne', XA, XB, XC, XD, decide_true, decide_false, Bool.not_true, Bool.not_false]
    by_cases h6 : (60000 : Int) < j'.lg.length
    · simp only [h6, ↓Xa, ↓Xb, ↓Xc, ↓Xd, ↓Xe, ↓Xf, ↓Xg, ↓Xh, ↓Xi, ↓Xj, ↓Xk, ↓Xl, ↓Xm, ↓Xn, ↓Xo, ↓Xp, ↓Xq, ↓Xr, ↓Xs, ↓Xt, ↓Xu, ↓Xv, ↓Xw, ↓Xx, ↓Xy, gx0, gx1, gx2, gx3, ife_e, ife_n, ife_r, Xz, ife_ne', XA, XB, XC, XD, decide_true, decide_false, Bool.not_true, Bool.not_false]
      exact same _ l b2 b3
    · simp only [h6, ↓Xa, ↓Xb, ↓Xc, ↓Xd, ↓Xe, ↓Xf, ↓Xg, ↓Xh, ↓Xi, ↓Xj, ↓Xk, ↓Xl, ↓Xm, ↓Xn, ↓Xo, ↓Xp, ↓Xq, ↓Xr, ↓Xs, ↓Xt, ↓Xu, ↓Xv, ↓Xw, ↓Xx, ↓Xy, gx0, gx1, gx2, gx3, ife_e, ife_n, ife_r, Xz, ife_ne', XA, XB, XC, XD, decide_true, decide_false, Bool.not_true, Bool.not_false, ↓wr_ld6 b16]
      refine W.fsw l.wf b3 rfl rfl hc'.cells fun H7 f7 b3 => ?_
      have b3 : Bx (Iv H2.next H3.next) t_impl_FillJob H7 x3 [a', b', c', i64 j'.nx, .str j'.lg, i64 j'.sy] := b3
      simp only [↓wr_ld6 b3]
      refine W.ret (k _ _ tt' dd' t' j' _ (Le.own l f7 fun id h => ?_) ⟨a', b', c', rfl, (hc'.bk f7 (by decide) (by decide)).mono (by omega)⟩ ⟨e2, by have := hok.few; omega, ⟨n + 1, by omega, by omega⟩, by have := hok.ne; omega, by rw [e1]; exact hok.tr, by omega⟩)
      have := h.1.1; have := l1.nx; have := l2.nx; omega
/-! Texts -/
theorem Src.mono (h : Src P H x) (hp : ∀ id, id < H.next → P id → P' id) : Src P' H x := by
  obtain ⟨bs, nx, st, B, h1, h2, h3⟩ := h
  exact ⟨bs, nx, st, B, h1, h2.mono hp, h3⟩
theorem Src.ap (h : Src P H x) (hf : Fr (Bk P' t_uint8 H) H H') (hd : ∀ id, P id → ¬P' id) : Src P H' x := by
  obtain ⟨bs, nx, st, B, h1, h2, h3⟩ := h
  exact ⟨bs, nx, st, B, h1.bk hf (by decide), h2.fr hf (fun id c fz _ hp _ hb => hd id hp hb.1) fun _ _ h => h, h3⟩
/-- The empty slice at a place that was kept. -/
theorem W.empS {Q : β → AHeap → Prop} (hp : Hp H) (h : Free H id) (k : ∀ x H', Fr (Nk id H) H H' → Seq R .own (· = id) e H' x [] → W (f x) H' Q) : W (Am.bnd (allocS (some id) e 1 0 []) f) H Q := by
  refine W.e (a := .slice id 0 0 1) (H' := H.set id (.cells [] e 0)) ?_ (k _ _ (set_free hp h _) ?_)
  · simp only [allocS, Am.bnd, Am.ret, newB_some h]
  · exact .mk id 0 0 [] [] rfl h.1 get_set (by simp) (by simp [maxLenA]) ⟨Nat.le_refl _, rfl⟩ fun i hi => absurd hi (Nat.not_lt_zero _)
theorem wr_s2b {Q : β → AHeap → Prop} {s : List UInt8} (h : s.length ≤ 1000000) : W (bnd (s2b none t_uint8 (.str s)) f) H Q ↔ W (bnd (allocS none t_uint8 1 s.length (s.map fun b => .int .u8 (b.toNat : Int))) f) H Q := by
  have : s2b none t_uint8 (.str s) = allocS none t_uint8 1 s.length (s.map fun b => .int .u8 (b.toNat : Int)) := by
    simp only [s2b]
    rw [if_pos (by unfold maxLenA; omega)]
  rw [this]
theorem Seq.oldB {LB : List UInt8} {N : Nat} {e' : TypeId} (h : Bytes m P H v LB) (hf : Fr (Bk (N ≤ ·) e' H) H H') (hP : ∀ id, P id → id < N) : Bytes m P H' v LB := h.fr hf (fun id c fz _ hp _ hb => absurd hb.1 (by have := hP id hp; omega)) fun _ _ h => h
theorem Free.bk (h : Free H id) (hf : Fr (Bk P' e H) H H') : Free H' id := ⟨Nat.lt_of_lt_of_le h.1 hf.nx, (hf.keep id h.1 fun hb => by
  obtain ⟨_, c, fz, hc⟩ := hb
  rw [h.2] at hc; cases hc).trans h.2⟩
theorem Free.nk {i : Nat} (h : Free H id) (hf : Fr (Nk i H) H H') (hi : id ≠ i) : Free H' id := ⟨Nat.lt_of_lt_of_le h.1 hf.nx, (hf.keep id h.1 fun hb => hi hb.1).trans h.2⟩
theorem c_corrupt {s : List UInt8} (hp : Hp H) (h : Src P H x) (hs : s.length ≤ 100000) (k : ∀ s' H', Sf H H' → Src P H' x → s'.length ≤ 100010 → Q (.str s') H') : W (s_sp_corrupt x (.str s) (.str [0, 1, 2])) H Q := by
  have hP := h
  have h := h.mono (P' := fun id => P id ∧ id < H.next) fun id hid h => ⟨h, hid⟩
  unfold s_sp_corrupt
  rw [wr_s2b (by omega)]
  refine W.mkseq (R := RB) hp s rfl (by simp) (by omega) (fun H' _ i hi => ⟨.int .u8 (s[i].toNat : Int), by simp [hi], rfl, rfl⟩) fun b H1 l1 hb => ?_
  have h := h.le l1
  refine W.bnd (c_below l1.wf h fun n H2 f2 h hn => ?_)
  obtain ⟨n, rfl⟩ : ∃ b : Nat, n = (b : Int) := ⟨n.toNat, by have := hn.1; omega⟩
  have hn3 : n < 3 := by have := hn.2.1 (by decide); omega
  have hb := hb.bkB f2 (by decide)
  refine W.lq (fun q st Hk => ∃ (b : AVal) (B : List UInt8), q < 3 ∧ st = [b, i64 (q : Int)] ∧ Sf H Hk ∧ Src (fun id => P id ∧ id < H.next) Hk x ∧ Bytes .rw (Nw H) Hk b B ∧ B.length + q ≤ 100005)
    (fun rr Hk => ∃ (b : AVal) (B : List UInt8), rr = (.exit 0, [b]) ∧ Sf H Hk ∧ Src (fun id => P id ∧ id < H.next) Hk x ∧ Bytes .rw (Nw H) Hk b B ∧ B.length ≤ 100005) n
    ⟨b, s, hn3, rfl, (Sf.of l1).tr f2, h, hb.rw, by omega⟩ ?_ ?_
  · rintro n st Hk ⟨b, B, hn3, rfl, fk, h, hb, hB⟩ Q' kn kx
    have stop : ∀ Hm, Hm = Hk → Q' (.exit 0, [b]) Hm := fun Hm he => by subst he; exact kx _ _ _ (by simp) ⟨b, B, rfl, fk, h, hb, by omega⟩
    by_cases h0 : (0 : Int) < n
    case neg =>
      simp only [↓Xa, ↓Xb, ↓Xc, ↓Xd, ↓Xe, ↓Xf, ↓Xg, ↓Xh, ↓Xi, ↓Xj, ↓Xk, ↓Xl, ↓Xm, ↓Xn, ↓Xo, ↓Xp, ↓Xq, ↓Xr, ↓Xs, ↓Xt, ↓Xu, ↓Xv, ↓Xw, ↓Xx, ↓Xy, gx0, gx1, gx2, gx3, ife_e, ife_n, ife_r, Xz, ife_ne', XA, XB, XC, XD, decide_true, decide_false, Bool.not_true, Bool.not_false, h0]
      exact W.ret (stop _ rfl)
    by_cases h1 : (0 : Int) < B.length
    case neg =>
      simp only [↓Xa, ↓Xb, ↓Xc, ↓Xd, ↓Xe, ↓Xf, ↓Xg, ↓Xh, ↓Xi, ↓Xj, ↓Xk, ↓Xl, ↓Xm, ↓Xn, ↓Xo, ↓Xp, ↓Xq, ↓Xr, ↓Xs, ↓Xt, ↓Xu, ↓Xv, ↓Xw, ↓Xx, ↓Xy, gx0, gx1, gx2, gx3, ife_e, ife_n, ife_r, Xz, ife_ne', XA, XB, XC, XD, decide_true, decide_false, Bool.not_true, Bool.not_false, h0, ↓XG hb, h1]
      exact W.ret (stop _ rfl)
    simp only [↓Xa, ↓Xb, ↓Xc, ↓Xd, ↓Xe, ↓Xf, ↓Xg, ↓Xh, ↓Xi, ↓Xj, ↓Xk, ↓Xl, ↓Xm, ↓Xn, ↓Xo, ↓Xp, ↓Xq, ↓Xr, ↓Xs, ↓Xt, ↓Xu, ↓Xv, ↓Xw, ↓Xx, ↓Xy, gx0, gx1, gx2, gx3, ife_e, ife_n, ife_r, Xz, ife_ne', XA, XB, XC, XD, decide_true, decide_false, Bool.not_true, Bool.not_false, h0, ↓XG hb, h1]
    refine W.bnd (c_below fk.wf h fun i Hl fl h hi => ?_)
    obtain ⟨i, rfl⟩ : ∃ b : Nat, i = (b : Int) := ⟨i.toNat, by have := hi.1; omega⟩
    have hiB : i < B.length := by have := hi.2.1 h1; omega
    have fk := fk.tr fl
    have hb := hb.bkB fl (by decide)
    refine W.bnd (c_below fk.wf h fun d Hm fm h hd => ?_)
    have fk := fk.tr fm
    have hb := hb.bkB fm (by decide)
    -- the next round
    have next : ∀ (Hz : AHeap) (b : AVal) (B : List UInt8), Sf H Hz → Src (fun id => P id ∧ id < H.next) Hz x → Bytes .rw (Nw H) Hz b B → B.length + n ≤ 100006 →
        W (bnd (abin .sub (i64 (n : Int)) (.int .i64 1)) fun x46 => rx .normal [b, x46]) Hz Q' := by
      intro Hz b B fk h hb hB
      have e1 : (n : Int) - 1 = ((n - 1 : Nat) : Int) := by omega
      rw [wr_sub (by unfold In64; omega), e1]
      exact W.ret (kn (n - 1) _ _ (by omega) ⟨b, B, by omega, rfl, fk, h, hb, by omega⟩)
    by_cases d0 : d = 0
    · subst d0
      simp only [↓Xa, ↓Xb, ↓Xc, ↓Xd, ↓Xe, ↓Xf, ↓Xg, ↓Xh, ↓Xi, ↓Xj, ↓Xk, ↓Xl, ↓Xm, ↓Xn, ↓Xo, ↓Xp, ↓Xq, ↓Xr, ↓Xs, ↓Xt, ↓Xu, ↓Xv, ↓Xw, ↓Xx, ↓Xy, gx0, gx1, gx2, gx3, ife_e, ife_n, ife_r, Xz, ife_ne', XA, XB, XC, XD, decide_true, decide_false, Bool.not_true, Bool.not_false, bnd_as, List.length_cons, List.length_nil]
      refine W.bnd (c_below fk.wf h fun g Hn fn h hg => ?_)
      obtain ⟨g, rfl⟩ : ∃ b : Nat, g = (b : Int) := ⟨g.toNat, by have := hg.1; omega⟩
      have hg3 : g < ([0, 1, 2] : List UInt8).length := by have := hg.2.1 (by decide); show g < 3; omega
      have fk := fk.tr fn
      have hb := hb.bkB fn (by decide)
      simp only [↓wr_ixStr hg3, ↓wr_ix hb hiB]
      refine W.st (R := RB) (a := ([0, 1, 2] : List UInt8)[g]) fk.wf hb (by simp) hiB rfl (fun _ _ _ _ h => h) rfl fun Ho fo hb => ?_
      simp only [↓wr_rx, ↓Xa, ↓Xb, ↓Xc, ↓Xd, ↓Xe, ↓Xf, ↓Xg, ↓Xh, ↓Xi, ↓Xj, ↓Xk, ↓Xl, ↓Xm, ↓Xn, ↓Xo, ↓Xp, ↓Xq, ↓Xr, ↓Xs, ↓Xt, ↓Xu, ↓Xv, ↓Xw, ↓Xx, ↓Xy, gx0, gx1, gx2, gx3, ife_e, ife_n, ife_r, Xz, ife_ne', XA, XB, XC, XD, decide_true, decide_false, Bool.not_true, Bool.not_false]
      exact next _ _ _ (fk.own fo fun id h => h.1) (h.ap fo fun id h1 h2 => absurd h1.2 (by have : H.next ≤ id := h2; omega)) hb (by simp; omega)
    · by_cases d1 : d = 1
      · subst d1
        obtain ⟨w, hw, hws⟩ := hb.sl (bnds_hi (k := .i64) (Nat.le_of_lt hiB)) (by simp) ⟨Nat.zero_le _, Nat.le_of_lt hiB⟩
        simp only [↓Xa, ↓Xb, ↓Xc, ↓Xd, ↓Xe, ↓Xf, ↓Xg, ↓Xh, ↓Xi, ↓Xj, ↓Xk, ↓Xl, ↓Xm, ↓Xn, ↓Xo, ↓Xp, ↓Xq, ↓Xr, ↓Xs, ↓Xt, ↓Xu, ↓Xv, ↓Xw, ↓Xx, ↓Xy, gx0, gx1, gx2, gx3, ife_e, ife_n, ife_r, Xz, ife_ne', XA, XB, XC, XD, decide_true, decide_false, Bool.not_true, Bool.not_false, bnd_as, d0, ↓wr_p hw, ↓wr_rx]
        exact next _ _ _ fk h hws (by simp; omega)
      · by_cases d2 : d = 2
        · subst d2
          simp only [↓Xa, ↓Xb, ↓Xc, ↓Xd, ↓Xe, ↓Xf, ↓Xg, ↓Xh, ↓Xi, ↓Xj, ↓Xk, ↓Xl, ↓Xm, ↓Xn, ↓Xo, ↓Xp, ↓Xq, ↓Xr, ↓Xs, ↓Xt, ↓Xu, ↓Xv, ↓Xw, ↓Xx, ↓Xy, gx0, gx1, gx2, gx3, ife_e, ife_n, ife_r, Xz, ife_ne', XA, XB, XC, XD, decide_true, decide_false, Bool.not_true, Bool.not_false, bnd_as, d0, d1]
          have hfx := fk.nx
          have hb := hb.mono (P' := (· < Hm.next)) fun id hid _ => hid
          refine W.reserve fk.wf fun Hn ln fre => ?_
          have fr0 := fre 0 (by decide)
          have h := h.le ln
          have hb := hb.leB ln
          have fk : Sf H Hn := fk.le ln
          simp only [↓wr_lit0, bnd_as, ↓Xa]
          refine W.empS (R := RB) (e := t_uint8) fk.wf fr0 fun z Ho fo hz => ?_
          have hz := hz.mono (P' := (Hm.next ≤ ·)) fun id _ h => by have : id = Hm.next + 0 := h; omega
          have hb := hb.nkB fo
          have h := h.nk fo
          have fk : Sf H Ho := fk.own fo fun id h => by have := h.1; omega
          have hox := fo.nx
          have hnx := ln.nx
          obtain ⟨w, hw, hws⟩ := hb.ro.sl (bnds_hi (k := .i64) (Nat.le_of_lt hiB)) (by simp) ⟨Nat.zero_le _, Nat.le_of_lt hiB⟩
          simp only [↓wr_p hw]
          refine W.app (P := (Hm.next ≤ ·)) fk.wf hz hws (by decide) (by simp; omega) (fun id hid => by omega) (fun _ _ _ _ h => h) fun z Hp' fp hz => ?_
          have hb := hb.oldB fp fun id h => h
          have h := h.ap fp fun id h1 h2 => absurd h1.2 (by have : Hm.next ≤ id := h2; omega)
          have fk : Sf H Hp' := fk.own fp fun id h => Nat.le_trans hfx h.1
          have hpx := fp.nx
          rw [wr_inc (by omega)]
          obtain ⟨w2, hw2, hws2⟩ := hb.ro.sl (bnds_lo (k := .i64) (show i + 1 ≤ B.length from hiB)) (by simp) ⟨hiB, Nat.le_refl _⟩
          simp only [↓wr_p hw2]
          refine W.app (P := (Hm.next ≤ ·)) fk.wf hz hws2 (by decide) (by simp; omega) (fun id hid => by omega) (fun _ _ _ _ h => h) fun z Hq fq hz => ?_
          have h := h.ap fq fun id h1 h2 => absurd h1.2 (by have : Hm.next ≤ id := h2; omega)
          have fk : Sf H Hq := fk.own fq fun id h => Nat.le_trans hfx h.1
          simp only [↓wr_rx, ↓Xa, ↓Xb, ↓Xc, ↓Xd, ↓Xe, ↓Xf, ↓Xg, ↓Xh, ↓Xi, ↓Xj, ↓Xk, ↓Xl, ↓Xm, ↓Xn, ↓Xo, ↓Xp, ↓Xq, ↓Xr, ↓Xs, ↓Xt, ↓Xu, ↓Xv, ↓Xw, ↓Xx, ↓Xy, gx0, gx1, gx2, gx3, ife_e, ife_n, ife_r, Xz, ife_ne', XA, XB, XC, XD, decide_true, decide_false, Bool.not_true, Bool.not_false]
          exact next _ _ _ fk h (hz.rw.mono fun id _ h => Nat.le_trans hfx h) (by simp; omega)
        · by_cases d3 : d = 3
          · subst d3
            simp only [↓Xa, ↓Xb, ↓Xc, ↓Xd, ↓Xe, ↓Xf, ↓Xg, ↓Xh, ↓Xi, ↓Xj, ↓Xk, ↓Xl, ↓Xm, ↓Xn, ↓Xo, ↓Xp, ↓Xq, ↓Xr, ↓Xs, ↓Xt, ↓Xu, ↓Xv, ↓Xw, ↓Xx, ↓Xy, gx0, gx1, gx2, gx3, ife_e, ife_n, ife_r, Xz, ife_ne', XA, XB, XC, XD, decide_true, decide_false, Bool.not_true, Bool.not_false, bnd_as, d0, d1, d2]
            have hfx := fk.nx
            have hb := hb.mono (P' := (· < Hm.next)) fun id hid _ => hid
            refine W.reserve fk.wf fun Hn ln fre => ?_
            have fr0 := fre 0 (by decide)
            have fr11 := fre 11 (by decide)
            have h := h.le ln
            have hb := hb.leB ln
            have fk : Sf H Hn := fk.le ln
            simp only [↓Xy, ↓wr_lit0, bnd_as, ↓Xa]
            refine W.empS (R := RB) (e := t_uint8) fk.wf fr0 fun z Ho fo hz => ?_
            have hz := hz.mono (P' := (Hm.next ≤ ·)) fun id _ h => by have : id = Hm.next + 0 := h; omega
            have fr11 := fr11.nk fo (by omega)
            have hb := hb.nkB fo
            have h := h.nk fo
            have fk : Sf H Ho := fk.own fo fun id h => by have := h.1; omega
            have hox := fo.nx
            have hnx := ln.nx
            obtain ⟨w, hw, hws⟩ := hb.ro.sl (bnds_hi (k := .i64) (Nat.le_of_lt hiB)) (by simp) ⟨Nat.zero_le _, Nat.le_of_lt hiB⟩
            simp only [↓wr_p hw, ↓Xy]
            refine W.app (P := (Hm.next ≤ ·)) fk.wf hz hws (by decide) (by simp; omega) (fun id hid => by omega) (fun _ _ _ _ h => h) fun z Hp' fp hz => ?_
            have fr11 := fr11.bk fp
            have hb := hb.oldB fp fun id h => h
            have h := h.ap fp fun id h1 h2 => absurd h1.2 (by have : Hm.next ≤ id := h2; omega)
            have fk : Sf H Hp' := fk.own fp fun id h => Nat.le_trans hfx h.1
            have hpx := fp.nx
            simp only [↓Xa, ↓Xb, ↓Xc, ↓Xd, ↓Xe, ↓Xf, ↓Xg, ↓Xh, ↓Xi, ↓Xj, ↓Xk, ↓Xl, ↓Xm, ↓Xn, ↓Xo, ↓Xp, ↓Xq, ↓Xr, ↓Xs, ↓Xt, ↓Xu, ↓Xv, ↓Xw, ↓Xx, ↓Xy, gx0, gx1, gx2, gx3, ife_e, ife_n, ife_r, Xz, ife_ne', XA, XB, XC, XD, decide_true, decide_false, Bool.not_true, Bool.not_false, List.length_cons, List.length_nil]
            refine W.agn2 rfl rfl ?_
            refine W.bnd (c_below fk.wf h fun g Hg fg h hg => ?_)
            obtain ⟨g, rfl⟩ : ∃ b : Nat, g = (b : Int) := ⟨g.toNat, by have := hg.1; omega⟩
            have hg3 : g < ([0, 1, 2] : List UInt8).length := by have := hg.2.1 (by decide); show g < 3; omega
            have fk := fk.tr fg
            have hb := hb.bkB fg (by decide)
            have hz := hz.bkB fg (by decide)
            have fr11 := fr11.bk fg
            have hgx := fg.nx
            simp only [↓wr_ixStr hg3, bnd_as, ↓wr_c1u]
            refine W.lit1Sf (R := RB) (a := ([0, 1, 2] : List UInt8)[g]) (e := t_uint8) fk.wf fr11 rfl (fun _ _ => rfl) fun y Hh fh hy => ?_
            have hb := hb.nkB fh
            have hz := hz.nkB fh
            have h := h.nk fh
            have fk : Sf H Hh := fk.own fh fun id h => by have := h.1; omega
            have hhx := fh.nx
            refine W.app (P := (Hm.next ≤ ·)) fk.wf hz hy (by decide) (by simp; omega) (fun id hid => by omega) (fun _ _ _ _ h => h) fun z Hi fi hz => ?_
            have hb := hb.oldB fi fun id h => h
            have h := h.ap fi fun id h1 h2 => absurd h1.2 (by have : Hm.next ≤ id := h2; omega)
            have fk : Sf H Hi := fk.own fi fun id h => Nat.le_trans hfx h.1
            have hix := fi.nx
            obtain ⟨w2, hw2, hws2⟩ := hb.ro.sl (bnds_lo (k := .i64) (Nat.le_of_lt hiB)) (by simp) ⟨Nat.le_of_lt hiB, Nat.le_refl _⟩
            simp only [↓wr_p hw2]
            refine W.app (P := (Hm.next ≤ ·)) fk.wf hz hws2 (by decide) (by simp; omega) (fun id hid => by omega) (fun _ _ _ _ h => h) fun z Hq fq hz => ?_
            have h := h.ap fq fun id h1 h2 => absurd h1.2 (by have : Hm.next ≤ id := h2; omega)
            have fk : Sf H Hq := fk.own fq fun id h => Nat.le_trans hfx h.1
            simp only [↓wr_rx, ↓Xa, ↓Xb, ↓Xc, ↓Xd, ↓Xe, ↓Xf, ↓Xg, ↓Xh, ↓Xi, ↓Xj, ↓Xk, ↓Xl, ↓Xm, ↓Xn, ↓Xo, ↓Xp, ↓Xq, ↓Xr, ↓Xs, ↓Xt, ↓Xu, ↓Xv, ↓Xw, ↓Xx, ↓Xy, gx0, gx1, gx2, gx3, ife_e, ife_n, ife_r, Xz, ife_ne', XA, XB, XC, XD, decide_true, decide_false, Bool.not_true, Bool.not_false]
            exact next _ _ _ fk h (hz.rw.mono fun id _ h => Nat.le_trans hfx h) (by simp; omega)
          · simp only [↓Xa, ↓Xb, ↓Xc, ↓Xd, ↓Xe, ↓Xf, ↓Xg, ↓Xh, ↓Xi, ↓Xj, ↓Xk, ↓Xl, ↓Xm, ↓Xn, ↓Xo, ↓Xp, ↓Xq, ↓Xr, ↓Xs, ↓Xt, ↓Xu, ↓Xv, ↓Xw, ↓Xx, ↓Xy, gx0, gx1, gx2, gx3, ife_e, ife_n, ife_r, Xz, ife_ne', XA, XB, XC, XD, decide_true, decide_false, Bool.not_true, Bool.not_false, bnd_as, d0, d1, d2, d3, ↓wr_rx]
            exact next _ _ _ fk h hb (by omega)
  · rintro rr Hk ⟨b, B, rfl, fk, h, hb, hB⟩
    simp only [↓Xa, ↓Xb, ↓Xc, ↓Xd, ↓Xe, ↓Xf, ↓Xg, ↓Xh, ↓Xi, ↓Xj, ↓Xk, ↓Xl, ↓Xm, ↓Xn, ↓Xo, ↓Xp, ↓Xq, ↓Xr, ↓Xs, ↓Xt, ↓Xu, ↓Xv, ↓Xw, ↓Xx, ↓Xy, gx0, gx1, gx2, gx3, ife_e, ife_n, ife_r, Xz, ife_ne', XA, XB, XC, XD, decide_true, decide_false, Bool.not_true, Bool.not_false, ↓wr_e (b2s_of hb)]
    exact W.ret (k _ _ fk (h.mono fun id _ h => h.1) (by omega))
end
end Go.Am

end

section
set_option linter.unusedSimpArgs false
set_option linter.unusedVariables false
/- Contracts of the draws: a job. -/
namespace Go.Am
section
variable {β X : Type} {f : AVal → AM β} {Q : AVal → AHeap → Prop} {R : AHeap → AVal → X → Prop} {m m2 : Md} {P P2 P3 P4 P5 P' S T : Nat → Prop} {e e2 : TypeId} {H H0 H1 H2 H' Hk Hl : AHeap} {v u x y x1 x2 x4 x17 tv : AVal} {A B C s D r : List Int} {L LL : List (List Int)} {p : Puz} {cs : List AVal} {t : Tbl} {id : Nat} {n : Int} {n0 tt dd N1 N2 N3 N4 : Nat} {j : Jsc} {a b c : AVal}
theorem PuzA.fr (h : PuzA P P2 H v p) (hm : ∀ mv, Lists .ro P P2 H mv p.moves → Lists .ro P3 P4 H' mv p.moves) : PuzA P3 P4 H' v p := by
  obtain ⟨mv, rfl, h1, h2, h3⟩ := h
  exact ⟨mv, rfl, hm _ h1, h2, h3⟩
/-- What stands still while a job is drawn. -/
structure DS (H : AHeap) (N1 N2 N3 N4 : Nat) (P : Nat → Prop) (x x1 x2 x4 tv : AVal) (p : Puz) (Hk : AHeap) : Prop where
  fk : Sf H Hk
  src : Src P Hk x
  b1 : Bx (Iv H.next N1) t_impl_Puzzle Hk x1 [.int .i64 0, .str [], .nilS]
  b2 : Bx (Iv N1 N2) t_impl_FillJob Hk x2 [.nilS, .nilS, .nilS, .int .i64 0, .str [], .int .i64 0]
  b4 : ∃ mv, Bx (Iv N3 N4) t_impl_Puzzle Hk x4 [i64 p.points, .str p.names, mv] ∧ PuzA (· < N4) (· < N4) Hk (.agg [i64 p.points, .str p.names, mv]) p
  trk : ∃ A, Ints .ro (· < N4) Hk tv A
  n1 : H.next ≤ N1
  n2 : N1 ≤ N2
  n3 : N2 ≤ N3
  n4 : N3 ≤ N4
  sm : Small p
theorem DS.le (h : DS H N1 N2 N3 N4 P x x1 x2 x4 tv p Hk) (hl : Le Hk Hl) : DS H N1 N2 N3 N4 P x x1 x2 x4 tv p Hl := by
  obtain ⟨fk, src, b1, b2, ⟨mv, b4, hp⟩, ⟨A, trk⟩, n1, n2, n3, n4, sm⟩ := h
  exact ⟨fk.le hl, src.le hl, b1.le hl, b2.le hl, ⟨mv, b4.le hl, hp.le hl⟩, ⟨A, trk.leI hl⟩, n1, n2, n3, n4, sm⟩
theorem DS.sf (h : DS H N1 N2 N3 N4 P x x1 x2 x4 tv p Hk) (hl : Sf Hk Hl) (hs : Src P Hl x) : DS H N1 N2 N3 N4 P x x1 x2 x4 tv p Hl := by
  obtain ⟨fk, src, b1, b2, ⟨mv, b4, hp⟩, ⟨A, trk⟩, n1, n2, n3, n4, sm⟩ := h
  exact ⟨fk.tr hl, hs, b1.bk hl (by decide), b2.bk hl (by decide), ⟨mv, b4.bk hl (by decide), hp.fr fun mv h => Seq.bkL h hl (by decide) (by decide)⟩, ⟨A, trk.bkI hl (by decide)⟩, n1, n2, n3, n4, sm⟩
theorem DS.hi (h : DS H N1 N2 N3 N4 P x x1 x2 x4 tv p Hk) (hf : Fr (Bk P' e Hk) Hk Hl) (hP : ∀ id, P' id → N4 ≤ id) (e1 : e ≠ t_spec_source := by decide) (e2 : e ≠ t_uint8 := by decide) : DS H N1 N2 N3 N4 P x x1 x2 x4 tv p Hl := by
  obtain ⟨fk, src, b1, b2, ⟨mv, b4, hp⟩, ⟨A, trk⟩, n1, n2, n3, n4, sm⟩ := h
  have hf' : Fr (Bk (N4 ≤ ·) e Hk) Hk Hl := hf.mono fun id _ h => ⟨hP id h.1, h.2⟩
  refine ⟨fk.own hf' fun id h => by have : N4 ≤ id := h.1; omega, src.bk hf e1 e2, b1.ap hf' (iv_nw (by omega)), b2.ap hf' (iv_nw (by omega)), ⟨mv, b4.ap hf' (iv_nw (Nat.le_refl _)), hp.fr fun mv h => ?_⟩, ⟨A, trk.oldI hf' fun id h => h⟩, n1, n2, n3, n4, sm⟩
  exact Seq.oldL h hf' (fun id h => h) fun id h => h
theorem DS.nk (h : DS H N1 N2 N3 N4 P x x1 x2 x4 tv p Hk) (hf : Fr (Nk id Hk) Hk Hl) (hid : N4 ≤ id) : DS H N1 N2 N3 N4 P x x1 x2 x4 tv p Hl := by
  obtain ⟨fk, src, b1, b2, ⟨mv, b4, hp⟩, ⟨A, trk⟩, n1, n2, n3, n4, sm⟩ := h
  exact ⟨fk.own hf fun i h => by have := h.1; omega, src.nk hf, b1.nk hf, b2.nk hf, ⟨mv, b4.nk hf, hp.fr fun mv h => Seq.nkL h hf⟩, ⟨A, trk.nkI hf⟩, n1, n2, n3, n4, sm⟩
theorem d28_fin (h : DS H N1 N2 N3 N4 P x x1 x2 x4 tv p Hk) (b17 : Bx (N4 ≤ ·) t_impl_FillJob Hk x17 (j.cells a b c)) (hj : JobC N4 tt dd Hk a b c t)
    (k : ∀ v w p t j H', Sf H H' → Src P H' x → PuzA Any Any H' v p → JobR H' w t j → Small p → Q (.tuple [v, w]) H') :
    W (bnd (ldn 3 x4) fun x94 =>
 bnd getH fun h95 =>
 bnd (stn 3 x1 x94) fun _ =>
 bnd (ldn 6 x17) fun x96 =>
 bnd (agn (ldn 6 x17) x96 [h95]) fun _ =>
 bnd (stn 6 x2 x96) fun _ =>
 bnd (ldn 3 x1) fun v97 => bnd (ldn 6 x2) fun v98 => ret (.tuple [v97, v98])) Hk Q := by
  obtain ⟨fk, src, b1, b2, ⟨mv, b4, hp⟩, ⟨A, trk⟩, n1, n2, n3, n4, sm⟩ := h
  have b17 : Bx (N4 ≤ ·) t_impl_FillJob Hk x17 [a, b, c, i64 j.nx, .str j.lg, i64 j.sy] := b17
  have b17k := b17
  obtain ⟨mv', he, hm, h64, hnl⟩ := hp
  simp only [AVal.agg.injEq, List.cons.injEq, and_true, true_and] at he
  subst he
  simp only [↓wr_ld3 b4, ↓Xy]
  refine W.fsw fk.wf b1 rfl rfl (cells_p hm.isCell) fun Hm fm b1 => ?_
  have b2 := b2.bk fm (by decide)
  have b17 := b17.bk fm (by decide)
  have hj := hj.bk fm (by decide) (by decide)
  have hm := hm.bkL fm (by decide) (by decide)
  have src := src.bk fm (by decide) (by decide)
  have fk : Sf H Hm := fk.own fm fun id h => h.1.1
  simp only [↓wr_ld6 b17]
  refine W.agn1 (b17k.ldw rfl) ?_
  refine W.fsw fk.wf b2 rfl rfl hj.cells fun Hn fn b2 => ?_
  have b2 : Bx (Iv N1 N2) t_impl_FillJob Hn x2 [a, b, c, i64 j.nx, .str j.lg, i64 j.sy] := b2
  have b1 := b1.bk fn (by decide)
  simp only [↓wr_ld3 b1, ↓wr_ld6 b2]
  exact W.ret (k _ _ p t j _ (fk.own fn fun id h => by have := h.1.1; omega) (src.bk fn (by decide) (by decide)) ⟨mv, rfl, Seq.anyL (hm.bkL fn (by decide) (by decide)), h64, hnl⟩ (hj.bk fn (by decide) (by decide)).rd sm)
theorem c_l28Draw (hp : Hp H) (h : Src P H x) (k : ∀ v w p t j H', Sf H H' → Src P H' x → PuzA Any Any H' v p → JobR H' w t j → Small p → Q (.tuple [v, w]) H') : W (s_sp_l28Draw x) H Q := by
  unfold s_sp_l28Draw
  refine W.alloc hp fun x1 H1 l1 b1 => ?_
  have b1 := Bx.iv b1
  refine W.alloc l1.wf fun x2 H2 l2 b2 => ?_
  have b2 := Bx.iv b2
  have b1 := b1.le l2
  have fk := Sf.of (l1.tr l2)
  have h := h.le (l1.tr l2)
  refine W.bnd (c_l24DrawPuzzle fk.wf h fun pv p H3 f3 h hpz sm => ?_)
  have b1 := b1.bk f3 (by decide)
  have b2 := b2.bk f3 (by decide)
  have n23 : H2.next ≤ H3.next := f3.nx
  have fk := fk.tr f3
  refine W.alloc fk.wf fun x4 H4 l4 b4 => ?_
  have b4 := Bx.iv b4
  have b1 := b1.le l4
  have b2 := b2.le l4
  have h := h.le l4
  have n13 : H1.next ≤ H3.next := Nat.le_trans l2.nx n23
  have nH3 : H.next ≤ H3.next := fk.nx
  obtain ⟨mv, rfl, hm, h64, hnl⟩ := hpz
  have hm := Seq.leL hm l4
  have fk := fk.le l4
  refine W.fsw fk.wf b4 rfl rfl (cells_p hm.isCell) fun H5 f5 b4 => ?_
  have b1 := b1.ap f5 fun id h1 h2 => absurd h1.2 (by have := h2.1; omega)
  have b2 := b2.bk f5 (by decide)
  have h := h.bk f5 (by decide) (by decide)
  have hm := Seq.bkL hm f5 (by decide) (by decide)
  have fk : Sf H H5 := fk.own f5 fun id h => Nat.le_trans nH3 h.1.1
  have n45 : H4.next ≤ H5.next := f5.nx
  have hm := (hm.mono (P' := (· < H5.next)) fun id hid _ => hid).monoR (P2' := (· < H5.next)) fun id hid _ => hid
  refine W.bnd (c_below fk.wf h fun d H6 f6 h hd => ?_)
  have b1 := b1.bk f6 (by decide)
  have b2 := b2.bk f6 (by decide)
  have b4 := b4.bk f6 (by decide)
  have hm := Seq.bkL hm f6 (by decide) (by decide)
  have fk := fk.tr f6
  simp only [bnd_as, ↓wr_c1i, ↓Xa]
  refine W.lit1f (R := RI) (e := t_int64) (a := d) fk.wf rfl (fun _ _ => rfl) fun x7 H7 l7 h7 => ?_
  have b1 := b1.le l7
  have b2 := b2.le l7
  have b4 := b4.le l7
  have hm := Seq.leL hm l7
  have h := h.le l7
  have n67 : H.next ≤ H6.next := fk.nx
  have n65 : H5.next ≤ H6.next := f6.nx
  have fk := fk.le l7
  refine W.bnd (c_oneIn fk.wf h fun bl H8 f8 h => ?_)
  have b1 := b1.bk f8 (by decide)
  have b2 := b2.bk f8 (by decide)
  have b4 := b4.bk f8 (by decide)
  have hm := Seq.bkL hm f8 (by decide) (by decide)
  have h7 := h7.bkI f8 (by decide)
  have fk := fk.tr f8
  refine W.c (R := fun rr Hk => ∃ tv A, rr = (.normal, [tv]) ∧ Sf H Hk ∧ Src P Hk x ∧ Bx (Iv H.next H1.next) t_impl_Puzzle Hk x1 [.int .i64 0, .str [], .nilS] ∧ Bx (Iv H1.next H2.next) t_impl_FillJob Hk x2 [.nilS, .nilS, .nilS, .int .i64 0, .str [], .int .i64 0] ∧
    Bx (Iv H3.next H4.next) t_impl_Puzzle Hk x4 [i64 p.points, .str p.names, mv] ∧ Lists .ro (· < H5.next) (· < H5.next) Hk mv p.moves ∧ Ints .own (Nw H) Hk tv A ∧ H8.next ≤ Hk.next) ?_ ?_
  · cases bl with
    | true =>
      simp only [↓Xi, bnd_as, ↓wr_c1i, ↓Xa]
      refine W.app1f (R := RI) (w := 2) (P := Nw H6) fk.wf h7 stb_RI rfl (by decide) (by simp) (fun id hid => Nat.le_trans l7.nx (Nat.le_trans f8.nx hid)) rfl fun y H9 f9 hy => ?_
      exact W.ret ⟨y, _, rfl, fk.own f9 fun id h => by have : H6.next ≤ id := h.1; omega, h.bk f9 (by decide) (by decide), b1.bk f9 (by decide), b2.bk f9 (by decide), b4.bk f9 (by decide), hm.fr f9 (fun id c fz _ _ hg => Bk.ne (by decide) hg) (fun v x hx => Seq.apI hx f9 fun id h1 h2 => by
        have : id < H5.next := h1
        have : H6.next ≤ id := h2
        omega), hy.mono fun id _ hid => by have : H6.next ≤ id := hid; omega, f9.nx⟩
    | false =>
      simp only [↓Xj]
      exact W.ret ⟨x7, _, rfl, fk, h, b1, b2, b4, hm, h7.mono fun id _ hid => by have : H6.next ≤ id := hid; omega, Nat.le_refl _⟩
  rintro rr Hk ⟨tv, A, rfl, fk, h, b1, b2, b4, hm, htv, n8k⟩
  have n5k : H5.next ≤ Hk.next := Nat.le_trans n65 (Nat.le_trans l7.nx (Nat.le_trans f8.nx n8k))
  have ds : DS H H1.next H2.next H3.next Hk.next P x x1 x2 x4 tv p Hk := ⟨fk, h, b1, b2, ⟨mv, b4.ivm (by omega), mv, rfl, (hm.mono fun id _ h => by have : id < H5.next := h; omega).monoR fun id _ h => by have : id < H5.next := h; omega, h64, hnl⟩, ⟨A, htv.ro.mono fun id hid _ => hid⟩, l1.nx, l2.nx, n23, by have := l4.nx; omega, sm⟩
  simp only [↓Xa, ↓Xb, ↓Xc, ↓Xd, ↓Xe, ↓Xf, ↓Xg, ↓Xh, ↓Xi, ↓Xj, ↓Xk, ↓Xl, ↓Xm, ↓Xn, ↓Xo, ↓Xp, ↓Xq, ↓Xr, ↓Xs, ↓Xt, ↓Xu, ↓Xv, ↓Xw, ↓Xx, ↓Xy, gx0, gx1, gx2, gx3, ife_e, ife_n, ife_r, Xz, ife_ne', XA, XB, XC, XD, decide_true, decide_false, Bool.not_true, Bool.not_false, ↓wr_ld3 b4]
  refine W.bnd (c_StartFill (p := p) fk.wf ⟨mv, rfl, hm, h64, hnl⟩ htv.ro (fun Hl ll => ?_) fun w tt dd Hl ll htr hj => ?_)
  · simp only [↓Xa, ↓Xb, ↓Xc, ↓Xd, ↓Xe, ↓Xf, ↓Xg, ↓Xh, ↓Xi, ↓Xj, ↓Xk, ↓Xl, ↓Xm, ↓Xn, ↓Xo, ↓Xp, ↓Xq, ↓Xr, ↓Xs, ↓Xt, ↓Xu, ↓Xv, ↓Xw, ↓Xx, ↓Xy, gx0, gx1, gx2, gx3, ife_e, ife_n, ife_r, Xz, ife_ne', XA, XB, XC, XD, decide_true, decide_false, Bool.not_true, Bool.not_false]
    have ds := ds.le ll
    have nkl := ll.nx
    refine W.alloc ll.wf fun x17 Hm lm b17 => ?_
    have ds := ds.le lm
    refine W.fsw lm.wf b17 rfl rfl rfl fun Hn fn b17 => ?_
    have ds := ds.hi fn fun id h => Nat.le_trans nkl h
    simp only [↓Xa, ↓Xb, ↓Xc, ↓Xd, ↓Xe, ↓Xf, ↓Xg, ↓Xh, ↓Xi, ↓Xj, ↓Xk, ↓Xl, ↓Xm, ↓Xn, ↓Xo, ↓Xp, ↓Xq, ↓Xr, ↓Xs, ↓Xt, ↓Xu, ↓Xv, ↓Xw, ↓Xx, ↓Xy, gx0, gx1, gx2, gx3, ife_e, ife_n, ife_r, Xz, ife_ne', XA, XB, XC, XD, decide_true, decide_false, Bool.not_true, Bool.not_false]
    exact d28_fin (t := ⟨[], [], []⟩) (tt := 0) (dd := 1) (j := j0) ds (b17.mono fun id _ h => Nat.le_trans nkl h) ⟨.nil, .nil, .nil, by decide⟩ k
  · simp only [↓Xa, ↓Xb, ↓Xc, ↓Xd, ↓Xe, ↓Xf, ↓Xg, ↓Xh, ↓Xi, ↓Xj, ↓Xk, ↓Xl, ↓Xm, ↓Xn, ↓Xo, ↓Xp, ↓Xq, ↓Xr, ↓Xs, ↓Xt, ↓Xu, ↓Xv, ↓Xw, ↓Xx, ↓Xy, gx0, gx1, gx2, gx3, ife_e, ife_n, ife_r, Xz, ife_ne', XA, XB, XC, XD, decide_true, decide_false, Bool.not_true, Bool.not_false]
    have ds := ds.le ll
    have nkl := ll.nx
    refine W.alloc ll.wf fun x17 Hm lm b17 => ?_
    have ds := ds.le lm
    obtain ⟨a, b, c, rfl, hj⟩ := hj
    have hj := hj.le lm
    refine W.fsw lm.wf b17 rfl rfl hj.cells fun Hn fn b17 => ?_
    have ds := ds.hi fn fun id h => Nat.le_trans nkl h
    have hj := hj.bk fn (by decide) (by decide)
    have b17 : Bx (Hk.next ≤ ·) t_impl_FillJob Hn x17 (j0.cells a b c) := b17.mono fun id _ h => Nat.le_trans nkl h
    have hok : JobOk ⟨A, [A], [0]⟩ j0 1 := ⟨rfl, by simp, ⟨0, rfl, Nat.zero_le _⟩, by simp, by have := htr.2.1.1; show 1 ≤ A.length; omega, by decide⟩
    simp only [↓Xa, ↓Xb, ↓Xc, ↓Xd, ↓Xe, ↓Xf, ↓Xg, ↓Xh, ↓Xi, ↓Xj, ↓Xk, ↓Xl, ↓Xm, ↓Xn, ↓Xo, ↓Xp, ↓Xq, ↓Xr, ↓Xs, ↓Xt, ↓Xu, ↓Xv, ↓Xw, ↓Xx, ↓Xy, gx0, gx1, gx2, gx3, ife_e, ife_n, ife_r, Xz, ife_ne', XA, XB, XC, XD, decide_true, decide_false, Bool.not_true, Bool.not_false]
    generalize Hk.next = N4 at *
    refine W.bnd (c_below ds.fk.wf ds.src fun d Ho fo h hd => ?_)
    have ds := ds.sf fo h
    have hj := hj.bk fo (by decide) (by decide)
    have b17 := b17.bk fo (by decide)
    obtain ⟨d, rfl⟩ : ∃ b : Nat, d = (b : Int) := ⟨d.toNat, by have := hd.1; omega⟩
    have hd5 : d < 5 := by have := hd.2.1 (by decide); omega
    refine W.lq (fun q st Hk => ∃ (a b c : AVal) (tt dd : Nat) (t : Tbl) (j : Jsc), q < 5 ∧ st = [i64 (q : Int)] ∧ DS H H1.next H2.next H3.next N4 P x x1 x2 x4 tv p Hk ∧ Bx (N4 ≤ ·) t_impl_FillJob Hk x17 (j.cells a b c) ∧ JobC N4 tt dd Hk a b c t ∧ JobOk t j (1 + 16 * (4 - q)))
      (fun rr Hk => ∃ (a b c : AVal) (tt dd : Nat) (t : Tbl) (j : Jsc), rr = (.exit 0, []) ∧ DS H H1.next H2.next H3.next N4 P x x1 x2 x4 tv p Hk ∧ Bx (N4 ≤ ·) t_impl_FillJob Hk x17 (j.cells a b c) ∧ JobC N4 tt dd Hk a b c t ∧ JobOk t j 1000) d
      ⟨a, b, c, tt, dd, _, _, hd5, rfl, ds, b17, hj, hok.len, by have := hok.few; omega, hok.nx, hok.ne, hok.tr, hok.lg⟩ ?_ ?_
    · rintro q st Hk ⟨a, b, c, tt, dd, t, j, hq, rfl, ds, b17, hj, hok⟩ Q' kn kx
      by_cases h0 : (0 : Int) < q
      case neg =>
        simp only [↓Xa, ↓Xb, ↓Xc, ↓Xd, ↓Xe, ↓Xf, ↓Xg, ↓Xh, ↓Xi, ↓Xj, ↓Xk, ↓Xl, ↓Xm, ↓Xn, ↓Xo, ↓Xp, ↓Xq, ↓Xr, ↓Xs, ↓Xt, ↓Xu, ↓Xv, ↓Xw, ↓Xx, ↓Xy, gx0, gx1, gx2, gx3, ife_e, ife_n, ife_r, Xz, ife_ne', XA, XB, XC, XD, decide_true, decide_false, Bool.not_true, Bool.not_false, h0]
        exact W.ret (kx _ _ _ (by simp) ⟨a, b, c, tt, dd, t, j, rfl, ds, b17, hj, hok.len, by have := hok.few; omega, hok.nx, hok.ne, hok.tr, hok.lg⟩)
      obtain ⟨mv, b4, hpz⟩ := ds.b4
      have hpz' := hpz
      have b17' : Bx (N4 ≤ ·) t_impl_FillJob Hk x17 [a, b, c, i64 j.nx, .str j.lg, i64 j.sy] := b17
      have hN4 : N4 ≤ Hk.next := by
        obtain ⟨id, _, g1, g2, _⟩ := b17'
        have : N4 ≤ id := g1
        omega
      simp only [↓Xa, ↓Xb, ↓Xc, ↓Xd, ↓Xe, ↓Xf, ↓Xg, ↓Xh, ↓Xi, ↓Xj, ↓Xk, ↓Xl, ↓Xm, ↓Xn, ↓Xo, ↓Xp, ↓Xq, ↓Xr, ↓Xs, ↓Xt, ↓Xu, ↓Xv, ↓Xw, ↓Xx, ↓Xy, gx0, gx1, gx2, gx3, ife_e, ife_n, ife_r, Xz, ife_ne', XA, XB, XC, XD, decide_true, decide_false, Bool.not_true, Bool.not_false, h0, ↓wr_ld3 b4, ↓wr_ld6 b17']
      refine W.bnd (c_l28Step (p := p) ds.fk.wf hpz ⟨a, b, c, rfl, hj⟩ hN4 hok (by omega) fun w bl tt dd t j Hl ll hj hok => ?_)
      have ds := ds.le ll
      have b17 := b17.le ll
      obtain ⟨a, b, c, rfl, hj⟩ := hj
      simp only [↓Xa, ↓Xb, ↓Xc, ↓Xd, ↓Xe, ↓Xf, ↓Xg, ↓Xh, ↓Xi, ↓Xj, ↓Xk, ↓Xl, ↓Xm, ↓Xn, ↓Xo, ↓Xp, ↓Xq, ↓Xr, ↓Xs, ↓Xt, ↓Xu, ↓Xv, ↓Xw, ↓Xx, ↓Xy, gx0, gx1, gx2, gx3, ife_e, ife_n, ife_r, Xz, ife_ne', XA, XB, XC, XD, decide_true, decide_false, Bool.not_true, Bool.not_false]
      refine W.fsw ll.wf b17 rfl rfl hj.cells fun Hm fm b17 => ?_
      have ds := ds.hi fm fun id h => h
      have hj := hj.bk fm (by decide) (by decide)
      refine W.bnd (c_oneIn ds.fk.wf ds.src fun bl Hn fn h => ?_)
      have ds := ds.sf fn h
      have hj := hj.bk fn (by decide) (by decide)
      have b17 := b17.bk fn (by decide)
      have e1 : (q : Int) - 1 = ((q - 1 : Nat) : Int) := by omega
      have s1 : In64 ((q : Int) - 1) := by unfold In64; omega
      have hok2 : JobOk t j (1 + 16 * (4 - (q - 1))) := ⟨hok.len, by have := hok.few; omega, hok.nx, hok.ne, hok.tr, hok.lg⟩
      cases bl with
      | true =>
        have b17 : Bx (N4 ≤ ·) t_impl_FillJob Hn x17 [a, b, c, i64 j.nx, .str j.lg, i64 j.sy] := b17
        simp only [↓Xa, ↓Xb, ↓Xc, ↓Xd, ↓Xe, ↓Xf, ↓Xg, ↓Xh, ↓Xi, ↓Xj, ↓Xk, ↓Xl, ↓Xm, ↓Xn, ↓Xo, ↓Xp, ↓Xq, ↓Xr, ↓Xs, ↓Xt, ↓Xu, ↓Xv, ↓Xw, ↓Xx, ↓Xy, gx0, gx1, gx2, gx3, ife_e, ife_n, ife_r, Xz, ife_ne', XA, XB, XC, XD, decide_true, decide_false, Bool.not_true, Bool.not_false, bnd_as, ↓XE b17, ↓wr_f4 b17]
        refine W.fst ds.fk.wf b17 (by simp) rfl fun Ho fo b17 => ?_
        simp only [↓Xa, ↓Xb, ↓Xc, ↓Xd, ↓Xe, ↓Xf, ↓Xg, ↓Xh, ↓Xi, ↓Xj, ↓Xk, ↓Xl, ↓Xm, ↓Xn, ↓Xo, ↓Xp, ↓Xq, ↓Xr, ↓Xs, ↓Xt, ↓Xu, ↓Xv, ↓Xw, ↓Xx, ↓Xy, gx0, gx1, gx2, gx3, ife_e, ife_n, ife_r, Xz, ife_ne', XA, XB, XC, XD, decide_true, decide_false, Bool.not_true, Bool.not_false, ↓wr_rx, ↓wr_sub s1]
        rw [e1]
        exact W.ret (kn (q - 1) _ _ (by omega) ⟨a, b, c, tt, dd, t, ⟨j.nx, j.lg, j.lg.length⟩, by omega, rfl, ds.hi fo fun id h => h, b17, hj.bk fo (by decide) (by decide), hok2.len, hok2.few, hok2.nx, hok2.ne, hok2.tr, hok2.lg⟩)
      | false =>
        simp only [↓Xa, ↓Xb, ↓Xc, ↓Xd, ↓Xe, ↓Xf, ↓Xg, ↓Xh, ↓Xi, ↓Xj, ↓Xk, ↓Xl, ↓Xm, ↓Xn, ↓Xo, ↓Xp, ↓Xq, ↓Xr, ↓Xs, ↓Xt, ↓Xu, ↓Xv, ↓Xw, ↓Xx, ↓Xy, gx0, gx1, gx2, gx3, ife_e, ife_n, ife_r, Xz, ife_ne', XA, XB, XC, XD, decide_true, decide_false, Bool.not_true, Bool.not_false, ↓wr_rx, ↓wr_sub s1]
        rw [e1]
        exact W.ret (kn (q - 1) _ _ (by omega) ⟨a, b, c, tt, dd, t, j, by omega, rfl, ds, b17, hj, hok2⟩)
    rintro rr Hk ⟨a, b, c, tt, dd, t, j, rfl, ds, b17, hj, hok⟩
    simp only [↓Xa, ↓Xb, ↓Xc, ↓Xd, ↓Xe, ↓Xf, ↓Xg, ↓Xh, ↓Xi, ↓Xj, ↓Xk, ↓Xl, ↓Xm, ↓Xn, ↓Xo, ↓Xp, ↓Xq, ↓Xr, ↓Xs, ↓Xt, ↓Xu, ↓Xv, ↓Xw, ↓Xx, ↓Xy, gx0, gx1, gx2, gx3, ife_e, ife_n, ife_r, Xz, ife_ne', XA, XB, XC, XD, decide_true, decide_false, Bool.not_true, Bool.not_false]
    refine W.bnd (c_oneIn ds.fk.wf ds.src fun bl Hl fl h => ?_)
    have ds := ds.sf fl h
    have hj := hj.bk fl (by decide) (by decide)
    have b17 := b17.bk fl (by decide)
    refine W.c (R := fun rr Hk => ∃ (a b c : AVal) (tt dd : Nat) (t : Tbl) (j : Jsc), rr = (.normal, []) ∧ DS H H1.next H2.next H3.next N4 P x x1 x2 x4 tv p Hk ∧ Bx (N4 ≤ ·) t_impl_FillJob Hk x17 (j.cells a b c) ∧ JobC N4 tt dd Hk a b c t) ?_ ?_
    · cases bl with
      | false =>
        simp only [↓Xj]
        exact W.ret ⟨a, b, c, tt, dd, t, j, rfl, ds, b17, hj⟩
      | true =>
        simp only [↓Xi]
        refine W.bnd (c_below ds.fk.wf ds.src fun d Hm fm h hd => ?_)
        have ds := ds.sf fm h
        have hj := hj.bk fm (by decide) (by decide)
        have b17 := b17.bk fm (by decide)
        have b17 : Bx (N4 ≤ ·) t_impl_FillJob Hm x17 [a, b, c, i64 j.nx, .str j.lg, i64 j.sy] := b17
        have hlg := hok.lg
        by_cases d0 : d = 0
        · subst d0
          simp only [↓Xa, ↓Xb, ↓Xc, ↓Xd, ↓Xe, ↓Xf, ↓Xg, ↓Xh, ↓Xi, ↓Xj, ↓Xk, ↓Xl, ↓Xm, ↓Xn, ↓Xo, ↓Xp, ↓Xq, ↓Xr, ↓Xs, ↓Xt, ↓Xu, ↓Xv, ↓Xw, ↓Xx, ↓Xy, gx0, gx1, gx2, gx3, ife_e, ife_n, ife_r, Xz, ife_ne', XA, XB, XC, XD, decide_true, decide_false, Bool.not_true, Bool.not_false, bnd_as]
          refine W.bnd (c_between ds.fk.wf ds.src (by decide) fun d Hn fn h hd => ?_)
          have ds := ds.sf fn h
          have hj := hj.bk fn (by decide) (by decide)
          have b17' := b17
          have b17 := b17.bk fn (by decide)
          simp only [↓XE b17, ↓wr_f3 b17]
          refine W.agn1 (b17'.ld1 rfl) ?_
          simp only [↓wr_addw, ↓XE b17]
          refine W.fst ds.fk.wf b17 (by simp) rfl fun Ho fo b17 => ?_
          simp only [↓Xa, ↓Xb, ↓Xc, ↓Xd, ↓Xe, ↓Xf, ↓Xg, ↓Xh, ↓Xi, ↓Xj, ↓Xk, ↓Xl, ↓Xm, ↓Xn, ↓Xo, ↓Xp, ↓Xq, ↓Xr, ↓Xs, ↓Xt, ↓Xu, ↓Xv, ↓Xw, ↓Xx, ↓Xy, gx0, gx1, gx2, gx3, ife_e, ife_n, ife_r, Xz, ife_ne', XA, XB, XC, XD, decide_true, decide_false, Bool.not_true, Bool.not_false, ↓wr_rx]
          exact W.ret ⟨a, b, c, tt, dd, t, ⟨IntKind.i64.wrap (j.nx + d), j.lg, j.sy⟩, rfl, ds.hi fo fun id h => h, b17, hj.bk fo (by decide) (by decide)⟩
        by_cases d1 : d = 1
        · subst d1
          have s1 : In64 ((j.lg.length : Int) + 1) := by unfold In64; omega
          simp only [↓Xa, ↓Xb, ↓Xc, ↓Xd, ↓Xe, ↓Xf, ↓Xg, ↓Xh, ↓Xi, ↓Xj, ↓Xk, ↓Xl, ↓Xm, ↓Xn, ↓Xo, ↓Xp, ↓Xq, ↓Xr, ↓Xs, ↓Xt, ↓Xu, ↓Xv, ↓Xw, ↓Xx, ↓Xy, gx0, gx1, gx2, gx3, ife_e, ife_n, ife_r, Xz, ife_ne', XA, XB, XC, XD, decide_true, decide_false, Bool.not_true, Bool.not_false, bnd_as, d0, ↓XE b17, ↓wr_f4 b17, ↓wr_add s1]
          refine W.bnd (c_between ds.fk.wf ds.src (by omega) fun d Hn fn h hd => ?_)
          have ds := ds.sf fn h
          have hj := hj.bk fn (by decide) (by decide)
          have b17 := b17.bk fn (by decide)
          simp only [↓XE b17]
          refine W.fst ds.fk.wf b17 (by simp) rfl fun Ho fo b17 => ?_
          simp only [↓Xa, ↓Xb, ↓Xc, ↓Xd, ↓Xe, ↓Xf, ↓Xg, ↓Xh, ↓Xi, ↓Xj, ↓Xk, ↓Xl, ↓Xm, ↓Xn, ↓Xo, ↓Xp, ↓Xq, ↓Xr, ↓Xs, ↓Xt, ↓Xu, ↓Xv, ↓Xw, ↓Xx, ↓Xy, gx0, gx1, gx2, gx3, ife_e, ife_n, ife_r, Xz, ife_ne', XA, XB, XC, XD, decide_true, decide_false, Bool.not_true, Bool.not_false, ↓wr_rx]
          exact W.ret ⟨a, b, c, tt, dd, t, ⟨j.nx, j.lg, d⟩, rfl, ds.hi fo fun id h => h, b17, hj.bk fo (by decide) (by decide)⟩
        by_cases d2 : d = 2
        · subst d2
          simp only [↓Xa, ↓Xb, ↓Xc, ↓Xd, ↓Xe, ↓Xf, ↓Xg, ↓Xh, ↓Xi, ↓Xj, ↓Xk, ↓Xl, ↓Xm, ↓Xn, ↓Xo, ↓Xp, ↓Xq, ↓Xr, ↓Xs, ↓Xt, ↓Xu, ↓Xv, ↓Xw, ↓Xx, ↓Xy, gx0, gx1, gx2, gx3, ife_e, ife_n, ife_r, Xz, ife_ne', XA, XB, XC, XD, decide_true, decide_false, Bool.not_true, Bool.not_false, bnd_as, d0, d1, ↓XE b17, ↓wr_f4 b17]
          refine W.bnd (c_corrupt ds.fk.wf ds.src (by omega) fun s Hn fn h hs => ?_)
          have ds := ds.sf fn h
          have hj := hj.bk fn (by decide) (by decide)
          have b17 := b17.bk fn (by decide)
          simp only [↓XE b17]
          refine W.fst ds.fk.wf b17 (by simp) rfl fun Ho fo b17 => ?_
          simp only [↓Xa, ↓Xb, ↓Xc, ↓Xd, ↓Xe, ↓Xf, ↓Xg, ↓Xh, ↓Xi, ↓Xj, ↓Xk, ↓Xl, ↓Xm, ↓Xn, ↓Xo, ↓Xp, ↓Xq, ↓Xr, ↓Xs, ↓Xt, ↓Xu, ↓Xv, ↓Xw, ↓Xx, ↓Xy, gx0, gx1, gx2, gx3, ife_e, ife_n, ife_r, Xz, ife_ne', XA, XB, XC, XD, decide_true, decide_false, Bool.not_true, Bool.not_false, ↓wr_rx]
          exact W.ret ⟨a, b, c, tt, dd, t, ⟨j.nx, s, j.sy⟩, rfl, ds.hi fo fun id h => h, b17, hj.bk fo (by decide) (by decide)⟩
        by_cases d3 : d = 3
        · subst d3
          simp only [↓Xa, ↓Xb, ↓Xc, ↓Xd, ↓Xe, ↓Xf, ↓Xg, ↓Xh, ↓Xi, ↓Xj, ↓Xk, ↓Xl, ↓Xm, ↓Xn, ↓Xo, ↓Xp, ↓Xq, ↓Xr, ↓Xs, ↓Xt, ↓Xu, ↓Xv, ↓Xw, ↓Xx, ↓Xy, gx0, gx1, gx2, gx3, ife_e, ife_n, ife_r, Xz, ife_ne', XA, XB, XC, XD, decide_true, decide_false, Bool.not_true, Bool.not_false, bnd_as, d0, d1, d2]
          refine W.bnd (c_below ds.fk.wf ds.src fun d Hn fn h hd => ?_)
          have ds := ds.sf fn h
          have hj := hj.bk fn (by decide) (by decide)
          have b17' := b17
          have b17 := b17.bk fn (by decide)
          obtain ⟨h1, h2, h3, h4⟩ := hj
          have hl0 : 0 < t.dists.length := by have := hok.len; have := hok.ne; omega
          have hix : ixa 1 c (.int .i64 0) = ret (elemP c 0) := h3.ixa hl0
          have f02 : fieldP (fieldP x17 0) 2 = fieldP x17 2 := by obtain ⟨id, rfl, _⟩ := b17; rfl
          simp only [↓XE b17, ↓wr_fadd0 b17, ↓wr_f2 b17]
          refine W.agn1 (b17'.ld1 rfl) ?_
          simp only [↓wr_p hix]
          refine W.st (R := RI) (a := d) ds.fk.wf h3 (by simp) hl0 rfl (fun _ _ _ _ h => h) rfl fun Ho fo h3 => ?_
          simp only [↓Xa, ↓Xb, ↓Xc, ↓Xd, ↓Xe, ↓Xf, ↓Xg, ↓Xh, ↓Xi, ↓Xj, ↓Xk, ↓Xl, ↓Xm, ↓Xn, ↓Xo, ↓Xp, ↓Xq, ↓Xr, ↓Xs, ↓Xt, ↓Xu, ↓Xv, ↓Xw, ↓Xx, ↓Xy, gx0, gx1, gx2, gx3, ife_e, ife_n, ife_r, Xz, ife_ne', XA, XB, XC, XD, decide_true, decide_false, Bool.not_true, Bool.not_false, ↓wr_rx]
          exact W.ret ⟨a, b, c, tt, dd, ⟨t.tracked, t.patterns, t.dists.set 0 d⟩, j, rfl, ds.hi fo fun id h => h.1, b17.bk fo (by decide), h1.apI fo fun id h h' => h4 (h.2.symm.trans h'.2), h2.elL fo fun id h h' => h.2.2 h'.2, h3, h4⟩
        by_cases d4 : d = 4
        · subst d4
          simp only [↓Xa, ↓Xb, ↓Xc, ↓Xd, ↓Xe, ↓Xf, ↓Xg, ↓Xh, ↓Xi, ↓Xj, ↓Xk, ↓Xl, ↓Xm, ↓Xn, ↓Xo, ↓Xp, ↓Xq, ↓Xr, ↓Xs, ↓Xt, ↓Xu, ↓Xv, ↓Xw, ↓Xx, ↓Xy, gx0, gx1, gx2, gx3, ife_e, ife_n, ife_r, Xz, ife_ne', XA, XB, XC, XD, decide_true, decide_false, Bool.not_true, Bool.not_false, bnd_as, d0, d1, d2, d3]
          have hN4 : N4 ≤ Hm.next := by
            obtain ⟨id, _, g1, g2, _⟩ := b17
            have : N4 ≤ id := g1
            omega
          refine W.reserve ds.fk.wf fun Hn ln fre => ?_
          have fr5 := fre 5 (by decide)
          have ds := ds.le ln
          have hj := hj.le ln
          have b17 := b17.le ln
          have b17' := b17
          obtain ⟨A, htv⟩ := ds.trk
          simp only [↓Xy]
          refine W.bnd (c_copyInts ds.fk.wf htv fun z Ho lo hz => ?_)
          have hlt : tt < Hn.next ∧ dd < Hn.next := by
            constructor
            · obtain ⟨id, g1, g2⟩ := hj.1.place (fun h => by have := hok.tr; rw [h] at this; simp at this)
              have := g1.2; omega
            · obtain ⟨id, g1, g2⟩ := hj.2.2.1.place (fun h => by have := hok.len; have := hok.ne; rw [h] at *; simp at *; omega)
              have := g1.2; omega
          have fr5 := fr5.le lo
          have ds := ds.le lo
          have hj := hj.le lo
          have b17 := b17.le lo
          obtain ⟨h1, h2, h3, h4⟩ := hj
          have hz : Ints .ro (Ne2 N4 tt dd) Ho z A := hz.ro.mono fun id hid h => by
            have h : Hn.next ≤ id := h
            exact ⟨by have := ln.nx; omega, by omega, by omega⟩
          simp only [↓XE b17, ↓wr_fadd0 b17, ↓wr_f1 b17]
          refine W.agn1 (b17'.ld1 rfl) ?_
          simp only [↓wr_c1 hz.isCell]
          refine W.lit1Sf (R := RL (Ne2 N4 tt dd)) (a := A) (e := t_Sint64) ds.fk.wf fr5 hz.isCell (fun H' f => Seq.nkI hz f) fun y Hp' fp hy => ?_
          have ds := ds.nk fp (by omega)
          have h1 := h1.nkI fp
          have h2 := h2.nkL fp
          have h3 := h3.nkI fp
          have b17 := b17.nk fp
          refine W.app (P := (N4 ≤ ·)) ds.fk.wf h2 hy (by decide) (by have := hok.few; simp; omega) (fun id hid => by have := ln.nx; have := lo.nx; have := fp.nx; omega) (fun H' f v x hx => Seq.bkI hx f (by decide)) fun b' Hq fq h2 => ?_
          have ds := ds.hi fq fun id h => h
          have h1 := h1.bkI fq (by decide)
          have h3 := h3.bkI fq (by decide)
          have b17 := b17.bk fq (by decide)
          simp only [↓XE b17, ↓wr_fadd0 b17]
          refine W.fst ds.fk.wf b17 (by simp) h2.isCell fun Hr fr b17 => ?_
          simp only [↓Xa, ↓Xb, ↓Xc, ↓Xd, ↓Xe, ↓Xf, ↓Xg, ↓Xh, ↓Xi, ↓Xj, ↓Xk, ↓Xl, ↓Xm, ↓Xn, ↓Xo, ↓Xp, ↓Xq, ↓Xr, ↓Xs, ↓Xt, ↓Xu, ↓Xv, ↓Xw, ↓Xx, ↓Xy, gx0, gx1, gx2, gx3, ife_e, ife_n, ife_r, Xz, ife_ne', XA, XB, XC, XD, decide_true, decide_false, Bool.not_true, Bool.not_false, ↓wr_rx]
          exact W.ret ⟨a, b', c, tt, dd, ⟨t.tracked, t.patterns ++ [A], t.dists⟩, j, rfl, ds.hi fr fun id h => h, b17, h1.bkI fr (by decide), h2.bkL fr (by decide) (by decide), h3.bkI fr (by decide), h4⟩
        by_cases d5 : d = 5
        · subst d5
          simp only [↓Xa, ↓Xb, ↓Xc, ↓Xd, ↓Xe, ↓Xf, ↓Xg, ↓Xh, ↓Xi, ↓Xj, ↓Xk, ↓Xl, ↓Xm, ↓Xn, ↓Xo, ↓Xp, ↓Xq, ↓Xr, ↓Xs, ↓Xt, ↓Xu, ↓Xv, ↓Xw, ↓Xx, ↓Xy, gx0, gx1, gx2, gx3, ife_e, ife_n, ife_r, Xz, ife_ne', XA, XB, XC, XD, decide_true, decide_false, Bool.not_true, Bool.not_false, bnd_as, d0, d1, d2, d3, d4]
          refine W.bnd (c_between ds.fk.wf ds.src (by decide) fun d Hn fn h hd => ?_)
          have ds := ds.sf fn h
          have hj := hj.bk fn (by decide) (by decide)
          have b17' := b17
          have b17 := b17.bk fn (by decide)
          obtain ⟨h1, h2, h3, h4⟩ := hj
          have hl0 : 0 < t.tracked.length := by have := hok.tr; omega
          have hix : ixa 1 a (.int .i64 0) = ret (elemP a 0) := h1.ixa hl0
          simp only [↓XE b17, ↓wr_fadd0 b17, ↓wr_f0 b17]
          refine W.agn1 (b17'.ld1 rfl) ?_
          simp only [↓wr_p hix]
          refine W.st (R := RI) (a := d) ds.fk.wf h1 (by simp) hl0 rfl (fun _ _ _ _ h => h) rfl fun Ho fo h1 => ?_
          simp only [↓Xa, ↓Xb, ↓Xc, ↓Xd, ↓Xe, ↓Xf, ↓Xg, ↓Xh, ↓Xi, ↓Xj, ↓Xk, ↓Xl, ↓Xm, ↓Xn, ↓Xo, ↓Xp, ↓Xq, ↓Xr, ↓Xs, ↓Xt, ↓Xu, ↓Xv, ↓Xw, ↓Xx, ↓Xy, gx0, gx1, gx2, gx3, ife_e, ife_n, ife_r, Xz, ife_ne', XA, XB, XC, XD, decide_true, decide_false, Bool.not_true, Bool.not_false, ↓wr_rx]
          exact W.ret ⟨a, b, c, tt, dd, ⟨t.tracked.set 0 d, t.patterns, t.dists⟩, j, rfl, ds.hi fo fun id h => h.1, b17.bk fo (by decide), h1, h2.elL fo fun id h h' => h.2.1 h'.2, h3.apI fo fun id h h' => h4 (h'.2.symm.trans h.2), h4⟩
        · simp only [↓Xa, ↓Xb, ↓Xc, ↓Xd, ↓Xe, ↓Xf, ↓Xg, ↓Xh, ↓Xi, ↓Xj, ↓Xk, ↓Xl, ↓Xm, ↓Xn, ↓Xo, ↓Xp, ↓Xq, ↓Xr, ↓Xs, ↓Xt, ↓Xu, ↓Xv, ↓Xw, ↓Xx, ↓Xy, gx0, gx1, gx2, gx3, ife_e, ife_n, ife_r, Xz, ife_ne', XA, XB, XC, XD, decide_true, decide_false, Bool.not_true, Bool.not_false, bnd_as, d0, d1, d2, d3, d4, d5, ↓wr_rx]
          exact W.ret ⟨a, b, c, tt, dd, t, j, rfl, ds, b17, hj⟩
    · rintro rr Hm ⟨a, b, c, tt, dd, t, j, rfl, ds, b17, hj⟩
      simp only [↓Xa, ↓Xb, ↓Xc, ↓Xd, ↓Xe, ↓Xf, ↓Xg, ↓Xh, ↓Xi, ↓Xj, ↓Xk, ↓Xl, ↓Xm, ↓Xn, ↓Xo, ↓Xp, ↓Xq, ↓Xr, ↓Xs, ↓Xt, ↓Xu, ↓Xv, ↓Xw, ↓Xx, ↓Xy, gx0, gx1, gx2, gx3, ife_e, ife_n, ife_r, Xz, ife_ne', XA, XB, XC, XD, decide_true, decide_false, Bool.not_true, Bool.not_false]
      exact d28_fin ds b17 hj k
end
end Go.Am

end

section
set_option linter.unusedSimpArgs false
set_option linter.unusedVariables false
/- Contracts of the draws: a table, correct or changed. -/
namespace Go.Am
section
variable {β X : Type} {f : AVal → AM β} {Q : AVal → AHeap → Prop} {R : AHeap → AVal → X → Prop} {m m2 : Md} {P P2 P3 P4 P5 P' S T : Nat → Prop} {e e2 : TypeId} {H H0 H1 H2 H' Hk Hl : AHeap} {v u x y x1 x2 x6 x15 tv : AVal} {A B C s D r : List Int} {L LL : List (List Int)} {p : Puz} {cs : List AVal} {t : Tbl} {id : Nat} {n : Int} {n0 tt dd N1 N2 N3 N4 : Nat} {a b c : AVal}
/-- What stands still while a table is drawn. -/
structure DT (H : AHeap) (N1 N2 N3 N4 : Nat) (P : Nat → Prop) (x x1 x2 x6 : AVal) (p : Puz) (Hk : AHeap) : Prop where
  fk : Sf H Hk
  src : Src P Hk x
  b1 : Bx (Iv H.next N1) t_impl_Puzzle Hk x1 [.int .i64 0, .str [], .nilS]
  b2 : Bx (Iv N1 N2) t_impl_Table Hk x2 [.nilS, .nilS, .nilS]
  b4 : ∃ mv, Bx (Iv N3 N4) t_impl_Puzzle Hk x6 [i64 p.points, .str p.names, mv] ∧ PuzA (· < N4) (· < N4) Hk (.agg [i64 p.points, .str p.names, mv]) p
  n1 : H.next ≤ N1
  n2 : N1 ≤ N2
  n3 : N2 ≤ N3
  n4 : N3 ≤ N4
  sm : Small p
theorem DT.le (h : DT H N1 N2 N3 N4 P x x1 x2 x6 p Hk) (hl : Le Hk Hl) : DT H N1 N2 N3 N4 P x x1 x2 x6 p Hl := by
  obtain ⟨fk, src, b1, b2, ⟨mv, b4, hp⟩, n1, n2, n3, n4, sm⟩ := h
  exact ⟨fk.le hl, src.le hl, b1.le hl, b2.le hl, ⟨mv, b4.le hl, hp.le hl⟩, n1, n2, n3, n4, sm⟩
theorem DT.sf (h : DT H N1 N2 N3 N4 P x x1 x2 x6 p Hk) (hl : Sf Hk Hl) (hs : Src P Hl x) : DT H N1 N2 N3 N4 P x x1 x2 x6 p Hl := by
  obtain ⟨fk, src, b1, b2, ⟨mv, b4, hp⟩, n1, n2, n3, n4, sm⟩ := h
  exact ⟨fk.tr hl, hs, b1.bk hl (by decide), b2.bk hl (by decide), ⟨mv, b4.bk hl (by decide), hp.fr fun mv h => Seq.bkL h hl (by decide) (by decide)⟩, n1, n2, n3, n4, sm⟩
theorem DT.hi (h : DT H N1 N2 N3 N4 P x x1 x2 x6 p Hk) (hf : Fr (Bk P' e Hk) Hk Hl) (hP : ∀ id, P' id → N4 ≤ id) (e1 : e ≠ t_spec_source := by decide) (e2 : e ≠ t_uint8 := by decide) : DT H N1 N2 N3 N4 P x x1 x2 x6 p Hl := by
  obtain ⟨fk, src, b1, b2, ⟨mv, b4, hp⟩, n1, n2, n3, n4, sm⟩ := h
  have hf' : Fr (Bk (N4 ≤ ·) e Hk) Hk Hl := hf.mono fun id _ h => ⟨hP id h.1, h.2⟩
  refine ⟨fk.own hf' fun id h => by have : N4 ≤ id := h.1; omega, src.bk hf e1 e2, b1.ap hf' (iv_nw (by omega)), b2.ap hf' (iv_nw (by omega)), ⟨mv, b4.ap hf' (iv_nw (Nat.le_refl _)), hp.fr fun mv h => ?_⟩, n1, n2, n3, n4, sm⟩
  exact Seq.oldL h hf' (fun id h => h) fun id h => h
theorem DT.nk (h : DT H N1 N2 N3 N4 P x x1 x2 x6 p Hk) (hf : Fr (Nk id Hk) Hk Hl) (hid : N4 ≤ id) : DT H N1 N2 N3 N4 P x x1 x2 x6 p Hl := by
  obtain ⟨fk, src, b1, b2, ⟨mv, b4, hp⟩, n1, n2, n3, n4, sm⟩ := h
  exact ⟨fk.own hf fun i h => by have := h.1; omega, src.nk hf, b1.nk hf, b2.nk hf, ⟨mv, b4.nk hf, hp.fr fun mv h => Seq.nkL h hf⟩, n1, n2, n3, n4, sm⟩
/-- A table to be read. -/
def TR (H : AHeap) (a b c : AVal) (t : Tbl) : Prop := Ints .ro Any H a t.tracked ∧ Lists .ro Any Any H b t.patterns ∧ Ints .ro Any H c t.dists
theorem JobC.tr (h : JobC n0 tt dd H a b c t) : TR H a b c t := ⟨h.1.any, Seq.anyL h.2.1, h.2.2.1.any⟩
theorem TR.bk (h : TR H a b c t) (hf : Fr (Bk P' e H) H H') (e1 : e ≠ t_int64) (e2 : e ≠ t_Sint64) : TR H' a b c t := ⟨h.1.bkI hf e1, h.2.1.bkL hf e2 e1, h.2.2.bkI hf e1⟩
theorem TR.tbl (h : TR H a b c t) : TblA Any Any H (.agg [a, b, c]) t := ⟨a, b, c, rfl, h.1, h.2.1, h.2.2⟩
theorem d30_fin (h : DT H N1 N2 N3 N4 P x x1 x2 x6 p Hk) (b15 : Bx (N4 ≤ ·) t_impl_Table Hk x15 [a, b, c]) (hj : TR Hk a b c t)
    (k : ∀ v w p t H', Sf H H' → Src P H' x → PuzA Any Any H' v p → TblA Any Any H' w t → Small p → Q (.tuple [v, w]) H') :
    W (bnd (ldn 3 x6) fun x155 =>
 bnd getH fun h156 =>
 bnd (stn 3 x1 x155) fun _ =>
 bnd (ldn 3 x15) fun x157 =>
 bnd (agn (ldn 3 x15) x157 [h156]) fun _ =>
 bnd (stn 3 x2 x157) fun _ =>
 bnd (ldn 3 x1) fun v158 => bnd (ldn 3 x2) fun v159 => ret (.tuple [v158, v159])) Hk Q := by
  obtain ⟨fk, src, b1, b2, ⟨mv, b4, hp⟩, n1, n2, n3, n4, sm⟩ := h
  have b15k := b15
  obtain ⟨mv', he, hm, h64, hnl⟩ := hp
  simp only [AVal.agg.injEq, List.cons.injEq, and_true, true_and] at he
  subst he
  simp only [↓wr_ld3 b4, ↓Xy]
  refine W.fsw fk.wf b1 rfl rfl (cells_p hm.isCell) fun Hm fm b1 => ?_
  have b2 := b2.bk fm (by decide)
  have b15 := b15.bk fm (by decide)
  have hj := hj.bk fm (by decide) (by decide)
  have hm := hm.bkL fm (by decide) (by decide)
  have src := src.bk fm (by decide) (by decide)
  have fk : Sf H Hm := fk.own fm fun id h => h.1.1
  simp only [↓wr_ld3 b15]
  refine W.agn1 (b15k.ldw rfl) ?_
  refine W.fsw fk.wf b2 rfl rfl (cells_t hj.1.isCell hj.2.1.isCell hj.2.2.isCell) fun Hn fn b2 => ?_
  have b1 := b1.bk fn (by decide)
  simp only [↓wr_ld3 b1, ↓wr_ld3 b2]
  exact W.ret (k _ _ p t _ (fk.own fn fun id h => by have := h.1.1; omega) (src.bk fn (by decide) (by decide)) ⟨mv, rfl, Seq.anyL (hm.bkL fn (by decide) (by decide)), h64, hnl⟩ (hj.bk fn (by decide) (by decide)).tbl sm)
/-- The table in a variable, and what it is made of. -/
def TS (N4 : Nat) (Hk : AHeap) (x15 : AVal) : Prop := ∃ (a b c : AVal) (tt dd : Nat) (t : Tbl), Bx (N4 ≤ ·) t_impl_Table Hk x15 [a, b, c] ∧ JobC N4 tt dd Hk a b c t ∧ t.dists.length = t.patterns.length ∧ 1 ≤ t.patterns.length ∧ t.patterns.length ≤ 3000 ∧ 1 ≤ t.tracked.length
theorem JobC.stL {i : Nat} {z : AVal} {K : List Int} (hp : Hp H) (h : JobC n0 tt dd H a b c t) (hi : i < t.patterns.length) (hz : Ints .ro (Ne2 n0 tt dd) H z K) {Q : β → AHeap → Prop}
    (k : ∀ H', Fr (Bk (n0 ≤ ·) t_Sint64 H) H H' → JobC n0 tt dd H' a b c ⟨t.tracked, t.patterns.set i K, t.dists⟩ → W (f .undef) H' Q) : W (bnd (st1 (elemP b i) z) f) H Q := by
  obtain ⟨h1, h2, h3, h4⟩ := h
  exact W.st (R := RL (Ne2 n0 tt dd)) (a := K) hp h2 (by simp) hi hz.isCell (fun H' f v x hx => Seq.bkI hx f (by decide)) hz fun H' f h2 => k H' f ⟨h1.bkI f (by decide), h2, h3.bkI f (by decide), h4⟩
theorem JobC.stD {i : Nat} {d : Int} (hp : Hp H) (h : JobC n0 tt dd H a b c t) (hi : i < t.dists.length) {Q : β → AHeap → Prop}
    (k : ∀ H', Fr (Bk (Eq1 n0 dd) t_int64 H) H H' → JobC n0 tt dd H' a b c ⟨t.tracked, t.patterns, t.dists.set i d⟩ → W (f .undef) H' Q) : W (bnd (st1 (elemP c i) (i64 d)) f) H Q := by
  obtain ⟨h1, h2, h3, h4⟩ := h
  exact W.st (R := RI) (a := d) hp h3 (by simp) hi rfl (fun _ _ _ _ h => h) rfl fun H' f h3 => k H' f ⟨h1.apI f fun id h h' => h4 (h.2.symm.trans h'.2), h2.elL f fun id h h' => h.2.2 h'.2, h3, h4⟩
theorem ts_lt (b15 : Bx (N4 ≤ ·) t_impl_Table Hk x15 [a, b, c]) (hj : JobC N4 tt dd Hk a b c t) (h1 : 1 ≤ t.tracked.length) (h2 : 1 ≤ t.dists.length) : N4 ≤ Hk.next ∧ tt < Hk.next ∧ dd < Hk.next := by
  refine ⟨?_, ?_, ?_⟩
  · obtain ⟨id, _, g1, g2, _⟩ := b15
    have : N4 ≤ id := g1
    omega
  · obtain ⟨id, g1, g2⟩ := hj.1.place (fun h => by rw [h] at h1; simp at h1)
    have := g1.2; omega
  · obtain ⟨id, g1, g2⟩ := hj.2.2.1.place (fun h => by rw [h] at h2; simp at h2)
    have := g1.2; omega
theorem d30_rest (dt : DT H N1 N2 N3 N4 P x x1 x2 x6 p Hk) (ts : TS N4 Hk x15)
    (k : ∀ v w p t H', Sf H H' → Src P H' x → PuzA Any Any H' v p → TblA Any Any H' w t → Small p → Q (.tuple [v, w]) H') : W (bnd (fadd 1 x15) fun x68 =>
 bnd (ld1 x68) fun x69 =>
 bnd (lenA x69) fun x70 =>
 bnd (s_sp_below x x70) fun x71 =>
 bnd (s_sp_below x (.int .i64 8)) fun x72 =>
 bnd (abin .eql x72 (.int .i64 0)) fun x73 =>
 bnd (br x73 (bnd getH fun h74 =>
 bnd (s_sp_between x (.int .i64 (-1)) (.int .i64 2)) fun x75 =>
 bnd (fadd 2 x15) fun x76 =>
 bnd (ld1 x76) fun x77 =>
 bnd (agn (ld1 x76) x77 [h74]) fun _ =>
 bnd (fadd 2 x15) fun x78 =>
 bnd (ld1 x78) fun x79 =>
 bnd (agn (ld1 x78) x79 [h74]) fun _ =>
 bnd (ixa 1 x79 x71) fun x80 =>
 bnd (ld1 x80) fun x81 =>
 bnd (agn (ld1 x80) x81 [h74]) fun _ =>
 bnd (abin .add x81 x75) fun x82 =>
 bnd (ixa 1 x77 x71) fun x83 =>
 bnd (st1 x83 x82) fun _ =>
 rx .normal []) (bnd (abin .eql x72 (.int .i64 1)) fun x84 =>
 bnd (br x84 (bnd (fadd 1 x15) fun x85 =>
 bnd (ld1 x85) fun x86 =>
 bnd (abin .add x71 (.int .i64 1)) fun x87 =>
 bnd (slS 1 x86 none (some x87)) fun x88 =>
 bnd (fadd 1 x15) fun x89 =>
 bnd (st1 x89 x88) fun _ =>
 bnd (fadd 2 x15) fun x90 =>
 bnd (ld1 x90) fun x91 =>
 bnd (abin .add x71 (.int .i64 1)) fun x92 =>
 bnd (slS 1 x91 none (some x92)) fun x93 =>
 bnd (fadd 2 x15) fun x94 =>
 bnd (st1 x94 x93) fun _ =>
 rx .normal []) (bnd (abin .eql x72 (.int .i64 2)) fun x95 =>
 bnd (br x95 (bnd (reserve 12) fun b96 =>
 bnd (fadd 1 x15) fun x97 =>
 bnd (ld1 x97) fun x98 =>
 bnd (ixa 1 x98 x71) fun x99 =>
 bnd (ld1 x99) fun x100 =>
 bnd getH fun h101 =>
 bnd (s_sp_copyInts x100) fun x102 =>
 bnd (fadd 1 x15) fun x103 =>
 bnd (ld1 x103) fun x104 =>
 bnd (agn (ld1 x103) x104 [h101]) fun _ =>
 bnd (bnd (bnd (cell1 x102) fun y106 => ret [y106]) fun cs => allocS (some (b96 + 8)) t_Sint64 1 1 cs) fun x105 =>
 bnd (appS t_Sint64 1 24 x104 x105) fun x107 =>
 bnd (fadd 1 x15) fun x108 =>
 bnd (st1 x108 x107) fun _ =>
 bnd (reserve 14) fun b109 =>
 bnd getH fun h110 =>
 bnd (s_sp_below x (.int .i64 2)) fun x111 =>
 bnd (fadd 2 x15) fun x112 =>
 bnd (ld1 x112) fun x113 =>
 bnd (agn (ld1 x112) x113 [h110]) fun _ =>
 bnd (fadd 2 x15) fun x114 =>
 bnd (ld1 x114) fun x115 =>
 bnd (agn (ld1 x114) x115 [h110]) fun _ =>
 bnd (ixa 1 x115 x71) fun x116 =>
 bnd (ld1 x116) fun x117 =>
 bnd (agn (ld1 x116) x117 [h110]) fun _ =>
 bnd (abin .add x117 x111) fun x118 =>
 bnd (bnd (bnd (cell1 x118) fun y120 => ret [y120]) fun cs => allocS (some (b109 + 10)) t_int64 1 1 cs) fun x119 =>
 bnd (appS t_int64 1 8 x113 x119) fun x121 =>
 bnd (fadd 2 x15) fun x122 =>
 bnd (st1 x122 x121) fun _ =>
 rx .normal []) (bnd (abin .eql x72 (.int .i64 3)) fun x123 =>
 bnd (br x123 (bnd (loopL (fun s124 =>
 bnd (fadd 2 x15) fun x125 =>
 bnd (ld1 x125) fun x126 =>
 bnd (lenA x126) fun x127 =>
 bnd (abin .lss (gx s124 0) x127) fun x128 =>
 br x128
 (bnd (fadd 2 x15) fun x129 =>
 bnd (ld1 x129) fun x130 =>
 bnd (fadd 2 x15) fun x131 =>
 bnd (ld1 x131) fun x132 =>
 bnd (ixa 1 x132 (gx s124 0)) fun x133 =>
 bnd (ld1 x133) fun x134 =>
 bnd (abin .quo x134 (.int .i64 2)) fun x135 =>
 bnd (ixa 1 x130 (gx s124 0)) fun x136 =>
 bnd (st1 x136 x135) fun _ =>
 bnd (abin .add (gx s124 0) (.int .i64 1)) fun x137 =>
 rx .normal [x137])
 (rx (.exit 1) [])) [.int .i64 0]) fun r138 =>
 ife r138.1 (.exit 1) (rx .normal []) (fail)) (bnd (abin .eql x72 (.int .i64 4)) fun x139 =>
 bnd (br x139 (bnd (s_sp_oneIn x (.int .i64 3)) fun x140 =>
 bnd (br x140 (bnd (reserve 8) fun b141 =>
 bnd getH fun h142 =>
 bnd (s_sp_between x (.int .i64 (-1)) (.int .i64 6)) fun x143 =>
 bnd (fadd 1 x15) fun x144 =>
 bnd (ld1 x144) fun x145 =>
 bnd (agn (ld1 x144) x145 [h142]) fun _ =>
 bnd (bnd (bnd (cell1 x143) fun y147 => ret [y147]) fun cs => allocS (some (b141 + 5)) t_int64 1 1 cs) fun x146 =>
 bnd (ixa 1 x145 x71) fun x148 =>
 bnd (st1 x148 x146) fun _ =>
 rx .normal []) (rx .normal [])) fun r149 =>
 ife r149.1 .normal (rx .normal []) (fail)) (rx .normal [])) fun r150 =>
 ife r150.1 .normal (rx .normal []) (fail))) fun r151 =>
 ife r151.1 .normal (rx .normal []) (fail))) fun r152 =>
 ife r152.1 .normal (rx .normal []) (fail))) fun r153 =>
 ife r153.1 .normal (rx .normal []) (fail))) fun r154 =>
 ife r154.1 .normal (bnd (ldn 3 x6) fun x155 =>
 bnd getH fun h156 =>
 bnd (stn 3 x1 x155) fun _ =>
 bnd (ldn 3 x15) fun x157 =>
 bnd (agn (ldn 3 x15) x157 [h156]) fun _ =>
 bnd (stn 3 x2 x157) fun _ =>
 bnd (ldn 3 x1) fun v158 => bnd (ldn 3 x2) fun v159 => ret (.tuple [v158, v159])) (fail)) Hk Q := by
  obtain ⟨a, b, c, tt, dd, t, b15, hj, hDL, hL1, hL3, hT1⟩ := ts
  have hbq := hj.2.1
  simp only [↓XE b15, ↓wr_f1 b15, ↓XG hbq]
  refine W.bnd (c_below dt.fk.wf dt.src fun i Hl fl h hi => ?_)
  have dt := dt.sf fl h
  have hj := hj.bk fl (by decide) (by decide)
  have b15 := b15.bk fl (by decide)
  obtain ⟨i, rfl⟩ : ∃ q : Nat, i = (q : Int) := ⟨i.toNat, by have := hi.1; omega⟩
  have hi2 : i < t.patterns.length := by have := hi.2.1 (by omega); omega
  have hiD : i < t.dists.length := by omega
  refine W.bnd (c_below dt.fk.wf dt.src fun d Hm fm h hd => ?_)
  have dt := dt.sf fm h
  have hj := hj.bk fm (by decide) (by decide)
  have b15 := b15.bk fm (by decide)
  simp only [↓Xq]
  refine W.c (R := fun rr Hk => ∃ (a b c : AVal) (t : Tbl), rr = (.normal, []) ∧ DT H N1 N2 N3 N4 P x x1 x2 x6 p Hk ∧ Bx (N4 ≤ ·) t_impl_Table Hk x15 [a, b, c] ∧ TR Hk a b c t) ?_ ?_
  · by_cases d0 : d = 0
    · subst d0
      simp only [↓Xa, ↓Xb, ↓Xc, ↓Xd, ↓Xe, ↓Xf, ↓Xg, ↓Xh, ↓Xi, ↓Xj, ↓Xk, ↓Xl, ↓Xm, ↓Xn, ↓Xo, ↓Xp, ↓Xq, ↓Xr, ↓Xs, ↓Xt, ↓Xu, ↓Xv, ↓Xw, ↓Xx, ↓Xy, gx0, gx1, gx2, gx3, ife_e, ife_n, ife_r, Xz, ife_ne', XA, XB, XC, XD, decide_true, decide_false, Bool.not_true, Bool.not_false, bnd_as]
      refine W.bnd (c_between dt.fk.wf dt.src (by decide) fun w Hn fn h hw => ?_)
      have dt := dt.sf fn h
      have hjm := hj
      have hj := hj.bk fn (by decide) (by decide)
      have b15' := b15
      have b15 := b15.bk fn (by decide)
      have hcq := hj.2.2.1
      have hcm := hjm.2.2.1
      simp only [↓XE b15, ↓wr_f2 b15]
      refine W.agn1 (b15'.ld1 rfl) ?_
      simp only [↓XE b15, ↓wr_f2 b15]
      refine W.agn1 (b15'.ld1 rfl) ?_
      simp only [↓wr_ix hcq hiD, ↓wr_ldI hcq hiD]
      refine W.agn1 (seqI_ld hcm hiD) ?_
      simp only [↓wr_addw, ↓wr_ix hcq hiD]
      refine JobC.stD dt.fk.wf hj hiD fun Ho fo hj => ?_
      exact W.ret ⟨a, b, c, _, rfl, dt.hi fo fun id h => h.1, b15.bk fo (by decide), hj.tr⟩
    by_cases d1 : d = 1
    · subst d1
      obtain ⟨w, hw, hws⟩ := hj.2.1.ro.sl (bnds_hi (k := .i64) (show i + 1 ≤ t.patterns.length from hi2)) (by simp) ⟨Nat.zero_le _, hi2⟩
      obtain ⟨w2, hw2, hws2⟩ := hj.2.2.1.ro.sl (bnds_hi (k := .i64) (show i + 1 ≤ t.dists.length from hiD)) (by simp) ⟨Nat.zero_le _, hiD⟩
      simp only [↓Xa, ↓Xb, ↓Xc, ↓Xd, ↓Xe, ↓Xf, ↓Xg, ↓Xh, ↓Xi, ↓Xj, ↓Xk, ↓Xl, ↓Xm, ↓Xn, ↓Xo, ↓Xp, ↓Xq, ↓Xr, ↓Xs, ↓Xt, ↓Xu, ↓Xv, ↓Xw, ↓Xx, ↓Xy, gx0, gx1, gx2, gx3, ife_e, ife_n, ife_r, Xz, ife_ne', XA, XB, XC, XD, decide_true, decide_false, Bool.not_true, Bool.not_false, bnd_as, d0, ↓XE b15, ↓wr_f1 b15]
      rw [wr_inc (by omega)]
      simp only [↓wr_p hw, ↓XE b15]
      refine W.fst dt.fk.wf b15 (by simp) hws.isCell fun Hn fn b15 => ?_
      have b15 : Bx (N4 ≤ ·) t_impl_Table Hn x15 [a, w, c] := b15
      simp only [↓XE b15, ↓wr_f2 b15]
      rw [wr_inc (by omega)]
      simp only [↓wr_p hw2, ↓XE b15]
      refine W.fst fn.wf b15 (by simp) hws2.isCell fun Ho fo b15 => ?_
      have b15 : Bx (N4 ≤ ·) t_impl_Table Ho x15 [a, w, w2] := b15
      simp only [↓Xa, ↓Xb, ↓Xc, ↓Xd, ↓Xe, ↓Xf, ↓Xg, ↓Xh, ↓Xi, ↓Xj, ↓Xk, ↓Xl, ↓Xm, ↓Xn, ↓Xo, ↓Xp, ↓Xq, ↓Xr, ↓Xs, ↓Xt, ↓Xu, ↓Xv, ↓Xw, ↓Xx, ↓Xy, gx0, gx1, gx2, gx3, ife_e, ife_n, ife_r, Xz, ife_ne', XA, XB, XC, XD, decide_true, decide_false, Bool.not_true, Bool.not_false, ↓wr_rx]
      have q : TR Hm a w w2 ⟨t.tracked, (t.patterns.take (i + 1)).drop 0, (t.dists.take (i + 1)).drop 0⟩ := ⟨hj.1.any, Seq.anyL hws, hws2.any⟩
      exact W.ret ⟨a, w, w2, _, rfl, (dt.hi fn fun id h => h).hi fo fun id h => h, b15, (q.bk fn (by decide) (by decide)).bk fo (by decide) (by decide)⟩
    by_cases d2 : d = 2
    · subst d2
      simp only [↓Xa, ↓Xb, ↓Xc, ↓Xd, ↓Xe, ↓Xf, ↓Xg, ↓Xh, ↓Xi, ↓Xj, ↓Xk, ↓Xl, ↓Xm, ↓Xn, ↓Xo, ↓Xp, ↓Xq, ↓Xr, ↓Xs, ↓Xt, ↓Xu, ↓Xv, ↓Xw, ↓Xx, ↓Xy, gx0, gx1, gx2, gx3, ife_e, ife_n, ife_r, Xz, ife_ne', XA, XB, XC, XD, decide_true, decide_false, Bool.not_true, Bool.not_false, bnd_as, d0, d1]
      have hN := ts_lt b15 hj hT1 (by omega)
      refine W.reserve dt.fk.wf fun Hn ln fre => ?_
      have fr8 := fre 8 (by decide)
      have lnx := ln.nx
      have dt := dt.le ln
      have hj := hj.le ln
      have b15 := b15.le ln
      have b15' := b15
      have hbq := hj.2.1
      obtain ⟨z, hz, hL', _⟩ := hbq.ld1 hi2
      have hL' : Ints .ro (Ne2 N4 tt dd) Hn z t.patterns[i] := hL'
      simp only [↓XE b15, ↓wr_f1 b15, ↓wr_ix hbq hi2, ↓wr_e hz, ↓Xy]
      refine W.bnd (c_copyInts dt.fk.wf hL' fun y Ho lo hy => ?_)
      have fr8 := fr8.le lo
      have lox := lo.nx
      have dt := dt.le lo
      have hj := hj.le lo
      have b15 := b15.le lo
      have hy : Ints .ro (Ne2 N4 tt dd) Ho y t.patterns[i] := hy.ro.mono fun id hid h => by
        have : Hn.next ≤ id := h
        exact ⟨by omega, by omega, by omega⟩
      simp only [↓XE b15, ↓wr_f1 b15]
      refine W.agn1 (b15'.ld1 rfl) ?_
      simp only [↓wr_c1 hy.isCell]
      refine W.lit1Sf (R := RL (Ne2 N4 tt dd)) (a := t.patterns[i]) (e := t_Sint64) dt.fk.wf fr8 hy.isCell (fun H' f => Seq.nkI hy f) fun y1 Hp' fp hy1 => ?_
      have dt := dt.nk fp (by omega)
      have hj := hj.nk fp
      have b15 := b15.nk fp
      have fpx := fp.nx
      obtain ⟨j1, j2, j3, j4⟩ := hj
      refine W.app (P := (N4 ≤ ·)) dt.fk.wf j2 hy1 (by decide) (by simp; omega) (fun id hid => by omega) (fun H' f v x hx => Seq.bkI hx f (by decide)) fun b' Hq fq j2 => ?_
      have dt := dt.hi fq fun id h => h
      have j1 := j1.bkI fq (by decide)
      have j3 := j3.bkI fq (by decide)
      have b15 := b15.bk fq (by decide)
      have fqx := fq.nx
      simp only [↓XE b15]
      refine W.fst dt.fk.wf b15 (by simp) j2.isCell fun Hr fr b15 => ?_
      have b15 : Bx (N4 ≤ ·) t_impl_Table Hr x15 [a, b', c] := b15
      have dt := dt.hi fr fun id h => h
      have j1 := j1.bkI fr (by decide)
      have j2 := j2.bkL fr (by decide) (by decide)
      have j3 := j3.bkI fr (by decide)
      have frx := fr.nx
      refine W.reserve dt.fk.wf fun Hs ls fre => ?_
      have fr10 := fre 10 (by decide)
      have dt := dt.le ls
      have j1 := j1.leI ls
      have j2 := j2.leL ls
      have j3 := j3.leI ls
      have b15 := b15.le ls
      have lsx := ls.nx
      simp only [↓Xy]
      refine W.bnd (c_below dt.fk.wf dt.src fun w Ht ft h hw => ?_)
      have dt := dt.sf ft h
      have b15s := b15
      have j3s := j3
      have j1 := j1.bkI ft (by decide)
      have j2 := j2.bkL ft (by decide) (by decide)
      have j3 := j3.bkI ft (by decide)
      have b15 := b15.bk ft (by decide)
      have fr10 := fr10.bk ft
      have ftx := ft.nx
      simp only [↓XE b15, ↓wr_f2 b15]
      refine W.agn1 (b15s.ld1 rfl) ?_
      simp only [↓XE b15, ↓wr_f2 b15]
      refine W.agn1 (b15s.ld1 rfl) ?_
      simp only [↓wr_ix j3 hiD, ↓wr_ldI j3 hiD]
      refine W.agn1 (seqI_ld j3s hiD) ?_
      simp only [↓wr_addw, ↓wr_c1i]
      refine W.lit1Sf (R := RI) (a := IntKind.i64.wrap (t.dists[i] + w)) (e := t_int64) dt.fk.wf fr10 rfl (fun _ _ => rfl) fun y2 Hu fu hy2 => ?_
      have dt := dt.nk fu (by omega)
      have j1 := j1.nkI fu
      have j2 := j2.nkL fu
      have j3 := j3.nkI fu
      have b15 := b15.nk fu
      refine W.appn dt.fk.wf j3 hy2 (by simp) (by decide) (by simp; omega) (fun _ _ _ _ h => h) fun c' Hv fv j3 => ?_
      have dt := dt.hi fv fun id h => h.1
      have j1 := j1.apI fv fun id h h' => j4 (h.2.symm.trans h'.2)
      have j2 := j2.elL fv fun id h h' => h.2.2 h'.2
      have b15 := b15.bk fv (by decide)
      simp only [↓XE b15]
      refine W.fst dt.fk.wf b15 (by simp) j3.isCell fun Hw fw b15 => ?_
      have b15 : Bx (N4 ≤ ·) t_impl_Table Hw x15 [a, b', c'] := b15
      have q : TR Hv a b' c' ⟨t.tracked, t.patterns ++ [t.patterns[i]], t.dists ++ [IntKind.i64.wrap (t.dists[i] + w)]⟩ := ⟨j1.any, Seq.anyL j2, j3.any⟩
      simp only [↓Xa, ↓Xb, ↓Xc, ↓Xd, ↓Xe, ↓Xf, ↓Xg, ↓Xh, ↓Xi, ↓Xj, ↓Xk, ↓Xl, ↓Xm, ↓Xn, ↓Xo, ↓Xp, ↓Xq, ↓Xr, ↓Xs, ↓Xt, ↓Xu, ↓Xv, ↓Xw, ↓Xx, ↓Xy, gx0, gx1, gx2, gx3, ife_e, ife_n, ife_r, Xz, ife_ne', XA, XB, XC, XD, decide_true, decide_false, Bool.not_true, Bool.not_false, ↓wr_rx]
      exact W.ret ⟨a, b', c', _, rfl, dt.hi fw fun id h => h, b15, q.bk fw (by decide) (by decide)⟩
    by_cases d3 : d = 3
    · subst d3
      simp only [↓Xa, ↓Xb, ↓Xc, ↓Xd, ↓Xe, ↓Xf, ↓Xg, ↓Xh, ↓Xi, ↓Xj, ↓Xk, ↓Xl, ↓Xm, ↓Xn, ↓Xo, ↓Xp, ↓Xq, ↓Xr, ↓Xs, ↓Xt, ↓Xu, ↓Xv, ↓Xw, ↓Xx, ↓Xy, gx0, gx1, gx2, gx3, ife_e, ife_n, ife_r, Xz, ife_ne', XA, XB, XC, XD, decide_true, decide_false, Bool.not_true, Bool.not_false, bnd_as, d0, d1, d2]
      refine W.lq (fun q st Hk => ∃ (n : Nat) (t : Tbl), q = t.dists.length - n ∧ n ≤ t.dists.length ∧ st = [i64 (n : Int)] ∧ t.dists.length ≤ 3000 ∧ DT H N1 N2 N3 N4 P x x1 x2 x6 p Hk ∧ Bx (N4 ≤ ·) t_impl_Table Hk x15 [a, b, c] ∧ JobC N4 tt dd Hk a b c t)
        (fun rr Hk => ∃ (t : Tbl), rr = (.exit 1, []) ∧ DT H N1 N2 N3 N4 P x x1 x2 x6 p Hk ∧ Bx (N4 ≤ ·) t_impl_Table Hk x15 [a, b, c] ∧ JobC N4 tt dd Hk a b c t) (t.dists.length - 0)
        ⟨0, t, rfl, Nat.zero_le _, rfl, by omega, dt, b15, hj⟩ ?_ ?_
      · rintro q st Hk ⟨n, t, rfl, hn, rfl, hl3, dt, b15, hj⟩ Q' kn kx
        have hcq := hj.2.2.1
        by_cases hnl : n < t.dists.length
        · have hnl' : (n : Int) < t.dists.length := by omega
          simp only [↓Xa, ↓Xb, ↓Xc, ↓Xd, ↓Xe, ↓Xf, ↓Xg, ↓Xh, ↓Xi, ↓Xj, ↓Xk, ↓Xl, ↓Xm, ↓Xn, ↓Xo, ↓Xp, ↓Xq, ↓Xr, ↓Xs, ↓Xt, ↓Xu, ↓Xv, ↓Xw, ↓Xx, ↓Xy, gx0, gx1, gx2, gx3, ife_e, ife_n, ife_r, Xz, ife_ne', XA, XB, XC, XD, decide_true, decide_false, Bool.not_true, Bool.not_false, ↓XE b15, ↓wr_f2 b15, ↓XG hcq, hnl', ↓wr_ix hcq hnl, ↓wr_ldI hcq hnl, ↓wr_quo (show (2 : Int) ≠ 0 by decide)]
          refine JobC.stD dt.fk.wf hj hnl fun Ho fo hj => ?_
          rw [wr_inc (by omega)]
          exact W.ret (kn (t.dists.length - (n + 1)) _ _ (by omega) ⟨n + 1, _, by simp, by simp; omega, rfl, by simp; omega, dt.hi fo fun id h => h.1, b15.bk fo (by decide), hj⟩)
        · have hnl' : ¬(n : Int) < t.dists.length := by omega
          simp only [↓Xa, ↓Xb, ↓Xc, ↓Xd, ↓Xe, ↓Xf, ↓Xg, ↓Xh, ↓Xi, ↓Xj, ↓Xk, ↓Xl, ↓Xm, ↓Xn, ↓Xo, ↓Xp, ↓Xq, ↓Xr, ↓Xs, ↓Xt, ↓Xu, ↓Xv, ↓Xw, ↓Xx, ↓Xy, gx0, gx1, gx2, gx3, ife_e, ife_n, ife_r, Xz, ife_ne', XA, XB, XC, XD, decide_true, decide_false, Bool.not_true, Bool.not_false, ↓XE b15, ↓wr_f2 b15, ↓XG hcq, hnl']
          exact W.ret (kx _ _ _ (by simp) ⟨t, rfl, dt, b15, hj⟩)
      · rintro rr Hk ⟨t, rfl, dt, b15, hj⟩
        simp only [↓Xa, ↓Xb, ↓Xc, ↓Xd, ↓Xe, ↓Xf, ↓Xg, ↓Xh, ↓Xi, ↓Xj, ↓Xk, ↓Xl, ↓Xm, ↓Xn, ↓Xo, ↓Xp, ↓Xq, ↓Xr, ↓Xs, ↓Xt, ↓Xu, ↓Xv, ↓Xw, ↓Xx, ↓Xy, gx0, gx1, gx2, gx3, ife_e, ife_n, ife_r, Xz, ife_ne', XA, XB, XC, XD, decide_true, decide_false, Bool.not_true, Bool.not_false, ↓wr_rx]
        exact W.ret ⟨a, b, c, _, rfl, dt, b15, hj.tr⟩
    by_cases d4 : d = 4
    · subst d4
      simp only [↓Xa, ↓Xb, ↓Xc, ↓Xd, ↓Xe, ↓Xf, ↓Xg, ↓Xh, ↓Xi, ↓Xj, ↓Xk, ↓Xl, ↓Xm, ↓Xn, ↓Xo, ↓Xp, ↓Xq, ↓Xr, ↓Xs, ↓Xt, ↓Xu, ↓Xv, ↓Xw, ↓Xx, ↓Xy, gx0, gx1, gx2, gx3, ife_e, ife_n, ife_r, Xz, ife_ne', XA, XB, XC, XD, decide_true, decide_false, Bool.not_true, Bool.not_false, bnd_as, d0, d1, d2, d3]
      refine W.bnd (c_oneIn dt.fk.wf dt.src fun bl Hn fn h => ?_)
      have dt := dt.sf fn h
      have hj := hj.bk fn (by decide) (by decide)
      have b15 := b15.bk fn (by decide)
      cases bl with
      | false =>
        simp only [↓Xa, ↓Xb, ↓Xc, ↓Xd, ↓Xe, ↓Xf, ↓Xg, ↓Xh, ↓Xi, ↓Xj, ↓Xk, ↓Xl, ↓Xm, ↓Xn, ↓Xo, ↓Xp, ↓Xq, ↓Xr, ↓Xs, ↓Xt, ↓Xu, ↓Xv, ↓Xw, ↓Xx, ↓Xy, gx0, gx1, gx2, gx3, ife_e, ife_n, ife_r, Xz, ife_ne', XA, XB, XC, XD, decide_true, decide_false, Bool.not_true, Bool.not_false, ↓wr_rx]
        exact W.ret ⟨a, b, c, _, rfl, dt, b15, hj.tr⟩
      | true =>
        simp only [↓Xa, ↓Xb, ↓Xc, ↓Xd, ↓Xe, ↓Xf, ↓Xg, ↓Xh, ↓Xi, ↓Xj, ↓Xk, ↓Xl, ↓Xm, ↓Xn, ↓Xo, ↓Xp, ↓Xq, ↓Xr, ↓Xs, ↓Xt, ↓Xu, ↓Xv, ↓Xw, ↓Xx, ↓Xy, gx0, gx1, gx2, gx3, ife_e, ife_n, ife_r, Xz, ife_ne', XA, XB, XC, XD, decide_true, decide_false, Bool.not_true, Bool.not_false, bnd_as]
        have hN := ts_lt b15 hj hT1 (by omega)
        refine W.reserve dt.fk.wf fun Ho lo fre => ?_
        have fr5 := fre 5 (by decide)
        have dt := dt.le lo
        have hj := hj.le lo
        have b15 := b15.le lo
        simp only [↓Xy]
        refine W.bnd (c_between dt.fk.wf dt.src (by decide) fun w Hp' fp h hw => ?_)
        have dt := dt.sf fp h
        have hj := hj.bk fp (by decide) (by decide)
        have b15' := b15
        have b15 := b15.bk fp (by decide)
        have fr5 := fr5.bk fp
        simp only [↓XE b15, ↓wr_f1 b15]
        refine W.agn1 (b15'.ld1 rfl) ?_
        simp only [↓wr_c1i]
        refine W.lit1Sf (R := RI) (a := w) (e := t_int64) dt.fk.wf fr5 rfl (fun _ _ => rfl) fun z Hq fq hz => ?_
        have dt := dt.nk fq (by omega)
        have hj := hj.nk fq
        have b15 := b15.nk fq
        have hbq := hj.2.1
        have hz : Ints .ro (Ne2 N4 tt dd) Hq z [w] := hz.ro.mono fun id hid h => by
          have : id = Hn.next + 5 := h
          exact ⟨by omega, by omega, by omega⟩
        simp only [↓wr_ix hbq hi2]
        refine JobC.stL dt.fk.wf hj hi2 hz fun Hr fr hj => ?_
        have dt := dt.hi fr fun id h => h
        have b15 := b15.bk fr (by decide)
        simp only [↓Xa, ↓Xb, ↓Xc, ↓Xd, ↓Xe, ↓Xf, ↓Xg, ↓Xh, ↓Xi, ↓Xj, ↓Xk, ↓Xl, ↓Xm, ↓Xn, ↓Xo, ↓Xp, ↓Xq, ↓Xr, ↓Xs, ↓Xt, ↓Xu, ↓Xv, ↓Xw, ↓Xx, ↓Xy, gx0, gx1, gx2, gx3, ife_e, ife_n, ife_r, Xz, ife_ne', XA, XB, XC, XD, decide_true, decide_false, Bool.not_true, Bool.not_false, ↓wr_rx]
        exact W.ret ⟨a, b, c, _, rfl, dt, b15, hj.tr⟩
    · simp only [↓Xa, ↓Xb, ↓Xc, ↓Xd, ↓Xe, ↓Xf, ↓Xg, ↓Xh, ↓Xi, ↓Xj, ↓Xk, ↓Xl, ↓Xm, ↓Xn, ↓Xo, ↓Xp, ↓Xq, ↓Xr, ↓Xs, ↓Xt, ↓Xu, ↓Xv, ↓Xw, ↓Xx, ↓Xy, gx0, gx1, gx2, gx3, ife_e, ife_n, ife_r, Xz, ife_ne', XA, XB, XC, XD, decide_true, decide_false, Bool.not_true, Bool.not_false, bnd_as, d0, d1, d2, d3, d4, ↓wr_rx]
      exact W.ret ⟨a, b, c, t, rfl, dt, b15, hj.tr⟩
  · rintro rr Hn ⟨a, b, c, t, rfl, dt, b15, hj⟩
    simp only [↓Xa, ↓Xb, ↓Xc, ↓Xd, ↓Xe, ↓Xf, ↓Xg, ↓Xh, ↓Xi, ↓Xj, ↓Xk, ↓Xl, ↓Xm, ↓Xn, ↓Xo, ↓Xp, ↓Xq, ↓Xr, ↓Xs, ↓Xt, ↓Xu, ↓Xv, ↓Xw, ↓Xx, ↓Xy, gx0, gx1, gx2, gx3, ife_e, ife_n, ife_r, Xz, ife_ne', XA, XB, XC, XD, decide_true, decide_false, Bool.not_true, Bool.not_false]
    exact d30_fin dt b15 hj k
theorem c_l30Draw (hp : Hp H) (h : Src P H x) (k : ∀ v w p t H', Sf H H' → Src P H' x → PuzA Any Any H' v p → TblA Any Any H' w t → Small p → Q (.tuple [v, w]) H') : W (s_sp_l30Draw x) H Q := by
  unfold s_sp_l30Draw
  refine W.alloc hp fun x1 H1 l1 b1 => ?_
  have b1 := Bx.iv b1
  refine W.alloc l1.wf fun x2 H2 l2 b2 => ?_
  have b2 := Bx.iv b2
  have b1 := b1.le l2
  have fk := Sf.of (l1.tr l2)
  have h := h.le (l1.tr l2)
  refine W.bnd (c_l28Draw fk.wf h fun pv jv p t0 j H3 f3 h hpz hjr sm => ?_)
  have b1 := b1.bk f3 (by decide)
  have b2 := b2.bk f3 (by decide)
  have n23 : H2.next ≤ H3.next := f3.nx
  have fk := fk.tr f3
  simp only [↓Xa, ↓Xb, ↓Xc, ↓Xd, ↓Xe, ↓Xf, ↓Xg, ↓Xh, ↓Xi, ↓Xj, ↓Xk, ↓Xl, ↓Xm, ↓Xn, ↓Xo, ↓Xp, ↓Xq, ↓Xr, ↓Xs, ↓Xt, ↓Xu, ↓Xv, ↓Xw, ↓Xx, ↓Xy, gx0, gx1, gx2, gx3, ife_e, ife_n, ife_r, Xz, ife_ne', XA, XB, XC, XD, decide_true, decide_false, Bool.not_true, Bool.not_false]
  refine W.alloc fk.wf fun x6 H4 l4 b6 => ?_
  have b6 := Bx.iv b6
  have b1 := b1.le l4
  have b2 := b2.le l4
  have h := h.le l4
  have fk := fk.le l4
  refine W.alloc fk.wf fun x7 H5 l5 b7 => ?_
  have b6 := b6.le l5
  have b1 := b1.le l5
  have b2 := b2.le l5
  have h := h.le l5
  have n12 : H.next ≤ H1.next := l1.nx
  have n1b : H1.next ≤ H2.next := l2.nx
  have n34 : H3.next ≤ H4.next := l4.nx
  have n45 : H4.next ≤ H5.next := l5.nx
  have fk := fk.le l5
  obtain ⟨mv, rfl, hm, h64, hnl⟩ := hpz
  have hm := (Seq.leL hm l4).leL l5
  have hjr := (hjr.le l4).le l5
  refine W.fsw fk.wf b6 rfl rfl (cells_p hm.isCell) fun H6 f6 b6 => ?_
  have b7 := b7.bk f6 (by decide)
  have b1 := b1.ap f6 fun id h1 h2 => absurd h1.2 (by have := h2.1; omega)
  have b2 := b2.bk f6 (by decide)
  have h := h.bk f6 (by decide) (by decide)
  have hm := Seq.bkL hm f6 (by decide) (by decide)
  have hjr := hjr.bk f6 (by decide) (by decide)
  have fk : Sf H H6 := fk.own f6 fun id h => by have := h.1.1; omega
  obtain ⟨ja, jb, jc, rfl, hja, hjb, hjc⟩ := hjr
  refine W.fsw fk.wf b7 rfl rfl (cells_j hja.isCell hjb.isCell hjc.isCell) fun H7 f7 b7 => ?_
  have b7 : Bx (Nw H4) t_impl_FillJob H7 x7 [ja, jb, jc, i64 j.nx, .str j.lg, i64 j.sy] := b7
  have b6 := b6.bk f7 (by decide)
  have b1 := b1.bk f7 (by decide)
  have b2 := b2.bk f7 (by decide)
  have h := h.bk f7 (by decide) (by decide)
  have hm := Seq.bkL hm f7 (by decide) (by decide)
  have hja := hja.bkI f7 (by decide)
  have hjb := hjb.bkL f7 (by decide) (by decide)
  have hjc := hjc.bkI f7 (by decide)
  have fk : Sf H H7 := fk.own f7 fun id h => by have : H4.next ≤ id := h.1; omega
  have n57 : H5.next ≤ H7.next := Nat.le_trans f6.nx f7.nx
  have dt : DT H H1.next H2.next H3.next H7.next P x x1 x2 x6 p H7 := ⟨fk, h, b1, b2, ⟨mv, b6.ivm (by omega), mv, rfl, (hm.mono (P' := (· < H7.next)) fun id hid _ => hid).monoR fun id hid _ => hid, h64, hnl⟩, n12, n1b, n23, by omega, sm⟩
  simp only [↓wr_ld3 b6, ↓XE b7, ↓wr_fadd0 b7, ↓wr_f0 b7]
  refine W.bnd (c_BuildTable (p := p) fk.wf ⟨mv, rfl, hm, h64, hnl⟩ hja (fun H8 l8 _ => ?_) fun a b c H8 L D n1 n2 l8 htr hf hn1 hn2 ha hb hc => ?_)
  · have dt := dt.le l8
    have b7 := b7.le l8
    simp only [↓Xa, ↓Xb, ↓Xc, ↓Xd, ↓Xe, ↓Xf, ↓Xg, ↓Xh, ↓Xi, ↓Xj, ↓Xk, ↓Xl, ↓Xm, ↓Xn, ↓Xo, ↓Xp, ↓Xq, ↓Xr, ↓Xs, ↓Xt, ↓Xu, ↓Xv, ↓Xw, ↓Xx, ↓Xy, gx0, gx1, gx2, gx3, ife_e, ife_n, ife_r, Xz, ife_ne', XA, XB, XC, XD, decide_true, decide_false, Bool.not_true, Bool.not_false]
    refine W.alloc l8.wf fun x15 H9 l9 b15 => ?_
    have dt := dt.le l9
    have b7 := b7.le l9
    have n78 := l8.nx
    refine W.fsw l9.wf b15 rfl rfl rfl fun Ha fa b15 => ?_
    have dt := dt.hi fa fun id h => by have : H8.next ≤ id := h; omega
    have b7 := b7.bk fa (by decide)
    have hjr : JobR H9 (.agg (j.cells ja jb jc)) t0 j := JobR.le (JobR.le ⟨ja, jb, jc, rfl, hja, hjb, hjc⟩ l8) l9
    obtain ⟨fk, src, b1, b2, ⟨mv', b4, hpz⟩, m1, m2, m3, m4⟩ := dt
    obtain ⟨mv'', he, hm', _, _⟩ := hpz
    simp only [AVal.agg.injEq, List.cons.injEq, and_true, true_and] at he
    subst he
    simp only [↓Xa, ↓Xb, ↓Xc, ↓Xd, ↓Xe, ↓Xf, ↓Xg, ↓Xh, ↓Xi, ↓Xj, ↓Xk, ↓Xl, ↓Xm, ↓Xn, ↓Xo, ↓Xp, ↓Xq, ↓Xr, ↓Xs, ↓Xt, ↓Xu, ↓Xv, ↓Xw, ↓Xx, ↓Xy, gx0, gx1, gx2, gx3, ife_e, ife_n, ife_r, Xz, ife_ne', XA, XB, XC, XD, decide_true, decide_false, Bool.not_true, Bool.not_false, ↓wr_ld3 b4]
    refine W.fsw fk.wf b1 rfl rfl (cells_p hm'.isCell) fun Hb fb b1 => ?_
    have b7' := b7
    have b7 := b7.bk fb (by decide)
    have b2 := b2.bk fb (by decide)
    simp only [↓XE b7, ↓wr_fadd' b7, ↓wr_ldt b7]
    refine W.agn1 (v := .agg [ja, jb, jc]) (by
      obtain ⟨id, rfl, g1, g2, g3⟩ := b7'
      simp [ldn, fieldP, rd, g3]) ?_
    refine W.fsw fb.wf b2 rfl rfl (cells_t hja.isCell hjb.isCell hjc.isCell) fun Hc fc b2 => ?_
    have b1 := b1.bk fc (by decide)
    simp only [↓wr_ld3 b1, ↓wr_ld3 b2]
    have fk : Sf H Hb := fk.own fb fun id h => h.1.1
    obtain ⟨ja', jb', jc', he, q1, q2, q3⟩ := hjr
    simp only [Jsc.cells, AVal.agg.injEq, List.cons.injEq, and_true] at he
    obtain ⟨rfl, rfl, rfl, _⟩ := he
    have q : TR Hc ja jb jc t0 := (((TR.bk ⟨q1, q2, q3⟩ fa (by decide) (by decide)).bk fb (by decide) (by decide)).bk fc (by decide) (by decide))
    exact W.ret (k _ _ p t0 _ (fk.own fc fun id h => by have := h.1.1; omega) ((src.bk fb (by decide) (by decide)).bk fc (by decide) (by decide)) ⟨mv', rfl, Seq.anyL ((hm'.bkL fb (by decide) (by decide)).bkL fc (by decide) (by decide)), h64, hnl⟩ q.tbl sm)
  have hA1 : 1 ≤ t0.tracked.length := by have := htr.2.1.1; omega
  have hn0 : H7.next < n1 := by
    obtain ⟨id, g1, g2⟩ := ha.place (fun h => by rw [h] at hA1; simp at hA1)
    have := g1.1; have := g1.2; omega
  have hL1 : 1 ≤ L.length := by
    have := hf.bf.root
    rcases Nat.eq_zero_or_pos L.length with h | h
    · rw [List.getElem?_eq_none (by omega)] at this; cases this
    · exact h
  have hDL := hf.bf.len
  have hn3 : n2 ≤ H8.next := by
    obtain ⟨id, g1, g2⟩ := hc.place (fun h => by rw [h] at hDL; simp at hDL; omega)
    have := g1.1; omega
  obtain ⟨tt, dd, hj⟩ := JobC.mk' ha hb hc hn0 hn2 hn3
  have hL3 := (hf.all rfl).1
  have dt := dt.le l8
  generalize H7.next = N4 at *
  have n48 : N4 ≤ H8.next := by omega
  simp only [↓Xa, ↓Xb, ↓Xc, ↓Xd, ↓Xe, ↓Xf, ↓Xg, ↓Xh, ↓Xi, ↓Xj, ↓Xk, ↓Xl, ↓Xm, ↓Xn, ↓Xo, ↓Xp, ↓Xq, ↓Xr, ↓Xs, ↓Xt, ↓Xu, ↓Xv, ↓Xw, ↓Xx, ↓Xy, gx0, gx1, gx2, gx3, ife_e, ife_n, ife_r, Xz, ife_ne', XA, XB, XC, XD, decide_true, decide_false, Bool.not_true, Bool.not_false]
  refine W.alloc l8.wf fun x15 H9 l9 b15 => ?_
  have dt := dt.le l9
  have hj := hj.le l9
  refine W.fsw l9.wf b15 rfl rfl (cells_t hj.1.isCell hj.2.1.isCell hj.2.2.1.isCell) fun Ha fa b15 => ?_
  have dt := dt.hi fa fun id h => by have : H8.next ≤ id := h; omega
  have hj := hj.bk fa (by decide) (by decide)
  have b15 : Bx (N4 ≤ ·) t_impl_Table Ha x15 [a, b, c] := b15.mono fun id _ h => by have : H8.next ≤ id := h; omega
  have hb2 := hj.2.1
  have hlen2 : (L.length : Int) = ((Tbl.mk t0.tracked L D).patterns.length : Int) := rfl
  simp only [↓Xa, ↓Xb, ↓Xc, ↓Xd, ↓Xe, ↓Xf, ↓Xg, ↓Xh, ↓Xi, ↓Xj, ↓Xk, ↓Xl, ↓Xm, ↓Xn, ↓Xo, ↓Xp, ↓Xq, ↓Xr, ↓Xs, ↓Xt, ↓Xu, ↓Xv, ↓Xw, ↓Xx, ↓Xy, gx0, gx1, gx2, gx3, ife_e, ife_n, ife_r, Xz, ife_ne', XA, XB, XC, XD, decide_true, decide_false, Bool.not_true, Bool.not_false, ↓XE b15, ↓wr_f1 b15, ↓XG hb2]
  rw [← hlen2]
  -- some entries change places
  have swap : ∀ (bl : Bool) (Hk : AHeap), (bl = true → 2 < L.length) → DT H H1.next H2.next H3.next N4 P x x1 x2 x6 p Hk → Bx (N4 ≤ ·) t_impl_Table Hk x15 [a, b, c] → JobC N4 tt dd Hk a b c ⟨t0.tracked, L, D⟩ →
      W (br (.bool bl) (bnd (abin .sub (i64 (L.length : Int)) (.int .i64 1)) fun x30 =>
 bnd (s_sp_below x x30) fun x31 =>
 bnd (abin .add (.int .i64 1) x31) fun x32 =>
 bnd (abin .sub (i64 (L.length : Int)) (.int .i64 1)) fun x33 =>
 bnd (s_sp_below x x33) fun x34 =>
 bnd (abin .add (.int .i64 1) x34) fun x35 =>
 bnd (fadd 1 x15) fun x36 =>
 bnd (ld1 x36) fun x37 =>
 bnd (ixa 1 x37 x32) fun x38 =>
 bnd (ld1 x38) fun x39 =>
 bnd (fadd 1 x15) fun x40 =>
 bnd (ld1 x40) fun x41 =>
 bnd (fadd 1 x15) fun x42 =>
 bnd (ld1 x42) fun x43 =>
 bnd (ixa 1 x43 x35) fun x44 =>
 bnd (ld1 x44) fun x45 =>
 bnd (ixa 1 x41 x32) fun x46 =>
 bnd (st1 x46 x45) fun _ =>
 bnd (fadd 1 x15) fun x47 =>
 bnd (ld1 x47) fun x48 =>
 bnd (ixa 1 x48 x35) fun x49 =>
 bnd (st1 x49 x39) fun _ =>
 bnd (s_sp_oneIn x (.int .i64 4)) fun x50 =>
 bnd (aun .not x50) fun x51 =>
 bnd (br x51 (bnd (fadd 2 x15) fun x52 =>
 bnd (ld1 x52) fun x53 =>
 bnd (ixa 1 x53 x32) fun x54 =>
 bnd (ld1 x54) fun x55 =>
 bnd (fadd 2 x15) fun x56 =>
 bnd (ld1 x56) fun x57 =>
 bnd (fadd 2 x15) fun x58 =>
 bnd (ld1 x58) fun x59 =>
 bnd (ixa 1 x59 x35) fun x60 =>
 bnd (ld1 x60) fun x61 =>
 bnd (ixa 1 x57 x32) fun x62 =>
 bnd (st1 x62 x61) fun _ =>
 bnd (fadd 2 x15) fun x63 =>
 bnd (ld1 x63) fun x64 =>
 bnd (ixa 1 x64 x35) fun x65 =>
 bnd (st1 x65 x55) fun _ =>
 rx .normal []) (rx .normal [])) fun r66 =>
 ife r66.1 .normal (rx .normal []) (fail)) (rx .normal [])) Hk fun rr Hm => rr = (.normal, []) ∧ DT H H1.next H2.next H3.next N4 P x x1 x2 x6 p Hm ∧ TS N4 Hm x15 := by
    intro bl Hk hbl dt b15 hj
    cases bl with
    | false =>
      simp only [↓Xj]
      exact W.ret ⟨rfl, dt, a, b, c, tt, dd, ⟨t0.tracked, L, D⟩, b15, hj, hDL, hL1, hL3, hA1⟩
    | true =>
      have h2 := hbl rfl
      simp only [↓Xi]
      rw [wr_sub (by unfold In64; omega)]
      refine W.bnd (c_below dt.fk.wf dt.src fun i Hl fl h hi => ?_)
      have dt := dt.sf fl h
      have hj := hj.bk fl (by decide) (by decide)
      have b15 := b15.bk fl (by decide)
      have hi1 := hi.1
      have hi2 := hi.2.1 (by omega)
      rw [wr_add (by unfold In64; omega), wr_sub (by unfold In64; omega)]
      refine W.bnd (c_below dt.fk.wf dt.src fun i2 Hm fm h hi' => ?_)
      have dt := dt.sf fm h
      have hj := hj.bk fm (by decide) (by decide)
      have b15 := b15.bk fm (by decide)
      have hi1' := hi'.1
      have hi2' := hi'.2.1 (by omega)
      rw [wr_add (by unfold In64; omega)]
      obtain ⟨i, rfl⟩ : ∃ q : Nat, i = (q : Int) := ⟨i.toNat, by omega⟩
      obtain ⟨i2, rfl⟩ : ∃ q : Nat, i2 = (q : Int) := ⟨i2.toNat, by omega⟩
      have e1 : (1 : Int) + (i : Int) = ((1 + i : Nat) : Int) := by omega
      have e2 : (1 : Int) + (i2 : Int) = ((1 + i2 : Nat) : Int) := by omega
      rw [e1, e2]
      have q1 : 1 + i < L.length := by omega
      have q2 : 1 + i2 < L.length := by omega
      obtain ⟨z1, hz1, hL1', _⟩ := hj.2.1.ld1 q1
      obtain ⟨z2, hz2, hL2', _⟩ := hj.2.1.ld1 q2
      have hL1' : Ints .ro (Ne2 N4 tt dd) Hm z1 L[1 + i] := hL1'
      have hL2' : Ints .ro (Ne2 N4 tt dd) Hm z2 L[1 + i2] := hL2'
      have hbq := hj.2.1
      simp only [↓XE b15, ↓wr_f1 b15, ↓wr_ix hbq q1, ↓wr_e hz1, ↓wr_ix hbq q2, ↓wr_e hz2]
      refine JobC.stL dt.fk.wf hj q1 hL2' fun Hn fn hj => ?_
      have dt := dt.hi fn fun id h => h
      have b15 := b15.bk fn (by decide)
      have hL1' := hL1'.bkI fn (by decide)
      have q2' : 1 + i2 < (L.set (1 + i) L[1 + i2]).length := by simpa using q2
      have hbq := hj.2.1
      simp only [↓XE b15, ↓wr_f1 b15, ↓wr_ix hbq q2']
      refine JobC.stL dt.fk.wf hj q2' hL1' fun Ho fo hj => ?_
      have dt := dt.hi fo fun id h => h
      have b15 := b15.bk fo (by decide)
      have hln : ((L.set (1 + i) L[1 + i2]).set (1 + i2) L[1 + i]).length = L.length := by simp
      generalize ((L.set (1 + i) L[1 + i2]).set (1 + i2) L[1 + i]) = L' at hj hln
      refine W.bnd (c_oneIn dt.fk.wf dt.src fun bl Hp' fp h => ?_)
      have dt := dt.sf fp h
      have hj := hj.bk fp (by decide) (by decide)
      have b15 := b15.bk fp (by decide)
      cases bl with
      | true =>
        simp only [↓Xa, ↓Xb, ↓Xc, ↓Xd, ↓Xe, ↓Xf, ↓Xg, ↓Xh, ↓Xi, ↓Xj, ↓Xk, ↓Xl, ↓Xm, ↓Xn, ↓Xo, ↓Xp, ↓Xq, ↓Xr, ↓Xs, ↓Xt, ↓Xu, ↓Xv, ↓Xw, ↓Xx, ↓Xy, gx0, gx1, gx2, gx3, ife_e, ife_n, ife_r, Xz, ife_ne', XA, XB, XC, XD, decide_true, decide_false, Bool.not_true, Bool.not_false, ↓wr_rx]
        exact W.ret ⟨rfl, dt, a, b, c, tt, dd, ⟨t0.tracked, L', D⟩, b15, hj, by show D.length = L'.length; omega, by show 1 ≤ L'.length; omega, by show L'.length ≤ _; omega, hA1⟩
      | false =>
        have r1 : 1 + i < D.length := by omega
        have r2 : 1 + i2 < D.length := by omega
        have hcq := hj.2.2.1
        simp only [↓Xa, ↓Xb, ↓Xc, ↓Xd, ↓Xe, ↓Xf, ↓Xg, ↓Xh, ↓Xi, ↓Xj, ↓Xk, ↓Xl, ↓Xm, ↓Xn, ↓Xo, ↓Xp, ↓Xq, ↓Xr, ↓Xs, ↓Xt, ↓Xu, ↓Xv, ↓Xw, ↓Xx, ↓Xy, gx0, gx1, gx2, gx3, ife_e, ife_n, ife_r, Xz, ife_ne', XA, XB, XC, XD, decide_true, decide_false, Bool.not_true, Bool.not_false, bnd_as, ↓XE b15, ↓wr_f2 b15, ↓wr_ix hcq r1, ↓wr_ldI hcq r1, ↓wr_ix hcq r2, ↓wr_ldI hcq r2]
        refine JobC.stD dt.fk.wf hj r1 fun Hq fq hj => ?_
        have dt := dt.hi fq fun id h => h.1
        have b15 := b15.bk fq (by decide)
        have r2' : 1 + i2 < (D.set (1 + i) D[1 + i2]).length := by simpa using r2
        have hcq := hj.2.2.1
        simp only [↓XE b15, ↓wr_f2 b15, ↓wr_ix hcq r2']
        refine JobC.stD dt.fk.wf hj r2' fun Hr fr hj => ?_
        have dt := dt.hi fr fun id h => h.1
        have b15 := b15.bk fr (by decide)
        simp only [↓Xa, ↓Xb, ↓Xc, ↓Xd, ↓Xe, ↓Xf, ↓Xg, ↓Xh, ↓Xi, ↓Xj, ↓Xk, ↓Xl, ↓Xm, ↓Xn, ↓Xo, ↓Xp, ↓Xq, ↓Xr, ↓Xs, ↓Xt, ↓Xu, ↓Xv, ↓Xw, ↓Xx, ↓Xy, gx0, gx1, gx2, gx3, ife_e, ife_n, ife_r, Xz, ife_ne', XA, XB, XC, XD, decide_true, decide_false, Bool.not_true, Bool.not_false, ↓wr_rx]
        exact W.ret ⟨rfl, dt, a, b, c, tt, dd, _, b15, hj, by simp; omega, by show 1 ≤ L'.length; omega, by show L'.length ≤ _; omega, hA1⟩
  -- the changes of one entry
  have rest : ∀ (Hk : AHeap), DT H H1.next H2.next H3.next N4 P x x1 x2 x6 p Hk → TS N4 Hk x15 → ∀ rr : Ex × List AVal, rr = (.normal, []) → ∀ g : AM AVal, W g Hk Q → W (ife rr.1 .normal g fail) Hk Q := by
    rintro Hk dt ts rr rfl g hg
    simpa only [ife_n] using hg
  have main : ∀ (bl : Bool) (Hk : AHeap), (bl = true → 2 < L.length) → DT H H1.next H2.next H3.next N4 P x x1 x2 x6 p Hk → Bx (N4 ≤ ·) t_impl_Table Hk x15 [a, b, c] → JobC N4 tt dd Hk a b c ⟨t0.tracked, L, D⟩ → ∀ g : Ex × List AVal → AM AVal, (∀ Hm, DT H H1.next H2.next H3.next N4 P x x1 x2 x6 p Hm → TS N4 Hm x15 → W (g (.normal, [])) Hm Q) → W (bnd _ g) Hk Q :=
    fun bl Hk hbl dt b15 hj g hg => W.c (swap bl Hk hbl dt b15 hj) fun rr Hm h => by
      obtain ⟨rfl, h1, h2⟩ := h
      exact hg Hm h1 h2
  clear rest
  by_cases h2 : (2 : Int) < L.length
  · simp only [h2, ↓Xa, ↓Xb, ↓Xc, ↓Xd, ↓Xe, ↓Xf, ↓Xg, ↓Xh, ↓Xi, ↓Xj, ↓Xk, ↓Xl, ↓Xm, ↓Xn, ↓Xo, ↓Xp, ↓Xq, ↓Xr, ↓Xs, ↓Xt, ↓Xu, ↓Xv, ↓Xw, ↓Xx, ↓Xy, gx0, gx1, gx2, gx3, ife_e, ife_n, ife_r, Xz, ife_ne', XA, XB, XC, XD, decide_true, decide_false, Bool.not_true, Bool.not_false]
    refine W.bnd (c_oneIn dt.fk.wf dt.src fun bl Hb fb h => ?_)
    simp only [↓Xa, ↓Xb, ↓Xc, ↓Xd, ↓Xe, ↓Xf, ↓Xg, ↓Xh, ↓Xi, ↓Xj, ↓Xk, ↓Xl, ↓Xm, ↓Xn, ↓Xo, ↓Xp, ↓Xq, ↓Xr, ↓Xs, ↓Xt, ↓Xu, ↓Xv, ↓Xw, ↓Xx, ↓Xy, gx0, gx1, gx2, gx3, ife_e, ife_n, ife_r, Xz, ife_ne', XA, XB, XC, XD, decide_true, decide_false, Bool.not_true, Bool.not_false]
    refine main bl Hb (fun _ => by omega) (dt.sf fb h) (b15.bk fb (by decide)) (hj.bk fb (by decide) (by decide)) _ fun Hm dt ts => ?_
    simp only [↓Xa, ↓Xb, ↓Xc, ↓Xd, ↓Xe, ↓Xf, ↓Xg, ↓Xh, ↓Xi, ↓Xj, ↓Xk, ↓Xl, ↓Xm, ↓Xn, ↓Xo, ↓Xp, ↓Xq, ↓Xr, ↓Xs, ↓Xt, ↓Xu, ↓Xv, ↓Xw, ↓Xx, ↓Xy, gx0, gx1, gx2, gx3, ife_e, ife_n, ife_r, Xz, ife_ne', XA, XB, XC, XD, decide_true, decide_false, Bool.not_true, Bool.not_false]
    exact d30_rest dt ts k
  · simp only [h2, ↓Xa, ↓Xb, ↓Xc, ↓Xd, ↓Xe, ↓Xf, ↓Xg, ↓Xh, ↓Xi, ↓Xj, ↓Xk, ↓Xl, ↓Xm, ↓Xn, ↓Xo, ↓Xp, ↓Xq, ↓Xr, ↓Xs, ↓Xt, ↓Xu, ↓Xv, ↓Xw, ↓Xx, ↓Xy, gx0, gx1, gx2, gx3, ife_e, ife_n, ife_r, Xz, ife_ne', XA, XB, XC, XD, decide_true, decide_false, Bool.not_true, Bool.not_false]
    exact d30_rest dt ⟨a, b, c, tt, dd, ⟨t0.tracked, L, D⟩, b15, hj, hDL, hL1, hL3, hA1⟩ k
end
end Go.Am

end

section
set_option linter.unusedSimpArgs false
set_option linter.unusedVariables false
/- The argument of a law; the source that it is turned into. -/
namespace Go.Am
section
variable {β X : Type} {f : AVal → AM β} {Q : AVal → AHeap → Prop} {R : AHeap → AVal → X → Prop} {m m2 : Md} {P P2 P3 P4 P5 P' S T : Nat → Prop} {e e2 : TypeId} {H H0 H1 H2 H' Hk Hl : AHeap} {v u x y x1 x2 x6 x15 tv : AVal} {A B C s D r : List Int} {L LL : List (List Int)} {p : Puz} {cs : List AVal} {t : Tbl} {id : Nat} {n : Int} {N1 N2 N3 N4 : Nat} {a b c : AVal} {LB : List UInt8}
/-- What the argument of a law may be: a slice of bytes; of a great one nothing but its length is known. -/
def CodeA (H : AHeap) (v : AVal) : Prop := (∃ id off n, v = .slice id off n 1 ∧ 4096 < n) ∨ ∃ B, Bytes .ro (· < H.next) H v B ∧ B.length ≤ 4096
theorem c_newSource (hp : Hp H) (h : Bytes .ro P H v LB) (hl : LB.length ≤ 4096) (k : ∀ x H', Le H H' → Src P H' x → Q x H') : W (s_sp_newSource v) H Q := by
  unfold s_sp_newSource
  simp only [↓XG h, ↓wr_addw]
  refine W.lq (fun q st Hk => Hk = H ∧ ∃ (i : Nat) (z : Int), q = LB.length - i ∧ i ≤ LB.length ∧ st = [i64 z, i64 (i : Int)]) (fun rr Hk => Hk = H ∧ ∃ z : Int, rr = (.exit 0, [i64 z])) LB.length ⟨rfl, 0, _, rfl, Nat.zero_le _, rfl⟩ ?_ ?_
  · rintro q st Hk ⟨rfl, i, z, rfl, hi, rfl⟩ Q' kn kx
    by_cases hlt : i < LB.length
    · have hlt' : (i : Int) < LB.length := by omega
      simp only [↓XG h, ↓Xa, ↓Xb, ↓Xc, ↓Xd, ↓Xe, ↓Xf, ↓Xg, ↓Xh, ↓Xi, ↓Xj, ↓Xk, ↓Xl, ↓Xm, ↓Xn, ↓Xo, ↓Xp, ↓Xq, ↓Xr, ↓Xs, ↓Xt, ↓Xu, ↓Xv, ↓Xw, ↓Xx, ↓Xy, gx0, gx1, gx2, gx3, ife_e, ife_n, ife_r, Xz, ife_ne', XA, XB, XC, XD, decide_true, decide_false, Bool.not_true, Bool.not_false, hlt', ↓wr_mulw, ↓wr_ix h hlt, ↓wr_ldB h hlt, u8_in, ↓wr_addw]
      refine W.and ?_
      have hw : IntKind.i64.wrap ((i : Int) + 1) = ((i + 1 : Nat) : Int) := by
        rw [wrap_in (by unfold In64; omega)]; rfl
      simp only [↓wr_addw, hw]
      exact W.ret (kn (LB.length - (i + 1)) _ _ (by omega) ⟨rfl, i + 1, _, rfl, hlt, rfl⟩)
    · have hlt' : ¬(i : Int) < LB.length := by omega
      simp only [↓XG h, ↓Xa, ↓Xb, ↓Xc, ↓Xd, ↓Xe, ↓Xf, ↓Xg, ↓Xh, ↓Xi, ↓Xj, ↓Xk, ↓Xl, ↓Xm, ↓Xn, ↓Xo, ↓Xp, ↓Xq, ↓Xr, ↓Xs, ↓Xt, ↓Xu, ↓Xv, ↓Xw, ↓Xx, ↓Xy, gx0, gx1, gx2, gx3, ife_e, ife_n, ife_r, Xz, ife_ne', XA, XB, XC, XD, decide_true, decide_false, Bool.not_true, Bool.not_false, hlt']
      exact W.ret (kx _ _ _ (by simp) ⟨rfl, z, rfl⟩)
  · rintro rr Hk ⟨rfl, z, rfl⟩
    simp only [↓Xa, ↓Xb, ↓Xc, ↓Xd, ↓Xe, ↓Xf, ↓Xg, ↓Xh, ↓Xi, ↓Xj, ↓Xk, ↓Xl, ↓Xm, ↓Xn, ↓Xo, ↓Xp, ↓Xq, ↓Xr, ↓Xs, ↓Xt, ↓Xu, ↓Xv, ↓Xw, ↓Xx, ↓Xy, gx0, gx1, gx2, gx3, ife_e, ife_n, ife_r, Xz, ife_ne', XA, XB, XC, XD, decide_true, decide_false, Bool.not_true, Bool.not_false, bnd_as, ↓wr_c1 h.isCell, ↓wr_c1i]
    refine W.box hp (by decide) rfl (cells_t h.isCell rfl rfl) fun x H1 l1 b1 => ?_
    exact W.ret (k _ _ l1 ⟨v, 0, z, LB, b1.mono fun _ _ _ => trivial, h.leB l1, Nat.zero_le _⟩)
theorem c_bigT {id off n : Nat} (hn : 4096 < n) : s_lw_big (.slice id off n 1) H = some (.bool true, H) := by
  refine eq_of_W fun Q k => ?_
  unfold s_lw_big
  have e1 : lenA (.slice id off n 1) = ret (i64 (n : Int)) := rfl
  have : (4096 : Int) < n := by omega
  simp only [↓wr_p e1, ↓Xa, ↓Xb, ↓Xc, ↓Xd, ↓Xe, ↓Xf, ↓Xg, ↓Xh, ↓Xi, ↓Xj, ↓Xk, ↓Xl, ↓Xm, ↓Xn, ↓Xo, ↓Xp, ↓Xq, ↓Xr, ↓Xs, ↓Xt, ↓Xu, ↓Xv, ↓Xw, ↓Xx, ↓Xy, gx0, gx1, gx2, gx3, ife_e, ife_n, ife_r, Xz, ife_ne', XA, XB, XC, XD, decide_true, decide_false, Bool.not_true, Bool.not_false, this]
  exact W.ret k
theorem c_bigF (h : Bytes .ro P H v LB) (hl : LB.length ≤ 4096) : s_lw_big v H = some (.bool false, H) := by
  refine eq_of_W fun Q k => ?_
  unfold s_lw_big
  have : ¬(4096 : Int) < LB.length := by omega
  simp only [↓XG h, ↓Xa, ↓Xb, ↓Xc, ↓Xd, ↓Xe, ↓Xf, ↓Xg, ↓Xh, ↓Xi, ↓Xj, ↓Xk, ↓Xl, ↓Xm, ↓Xn, ↓Xo, ↓Xp, ↓Xq, ↓Xr, ↓Xs, ↓Xt, ↓Xu, ↓Xv, ↓Xw, ↓Xx, ↓Xy, gx0, gx1, gx2, gx3, ife_e, ife_n, ife_r, Xz, ife_ne', XA, XB, XC, XD, decide_true, decide_false, Bool.not_true, Bool.not_false, this]
  exact W.ret k
theorem aeq_bb {b c : Bool} : aeq .bool false (.bool b) (.bool c) = ret (.bool (b == c)) := by
  simp only [aeq, aeqT]
  rfl
end
end Go.Am

end

section
set_option linter.unusedSimpArgs false
set_option linter.unusedVariables false
/- From a run of the abstract machine to the program: a law of one slice of bytes. -/
namespace Go.Am
open Go.ChangeShapes Go.WideShapes Go.ChangeAt Go.RowKit
section
variable {P : Program} {W : World} {a : Addr} {len cap : Nat} {zs : List Int}
/-- Bytes of numbers. -/
def byteOf (z : Int) : UInt8 := UInt8.ofNat z.toNat
theorem byteOf_toNat {z : Int} (h : 0 ≤ z ∧ z ≤ 255) : ((byteOf z).toNat : Int) = z := by
  unfold byteOf
  simp only [UInt8.toNat_ofNat']
  omega
/-- The heap of the abstract machine at a call: the argument's block alone, for reading. -/
def inHeap (c : List AVal) (fz : Nat) : AHeap := { get := fun i => if i = 0 then some (.cells c 5 fz) else none, next := 1 }
theorem inHeap_hp {c : List AVal} {fz : Nat} : Hp (inHeap c fz) := fun id h => by
  have : 1 ≤ id := h
  show (if id = 0 then _ else none) = none
  rw [if_neg (by omega)]
theorem in_rel {carr : Array Value} {E : TypeId} {fr : Nat × Nat} (hb : W.heap[a.block]? = some (.cells carr E fr)) (hspot : a.spot = none) (hl : len ≤ cap) (hz : zs.length = cap)
    (hcell : ∀ i, i < zs.length → W.cell? (a.add i) = some (.int .u8 (zs.getD i 0))) (hwz : ∀ n ∈ zs, 0 ≤ n ∧ n ≤ 255) :
    ∃ (π : PMap) (H : AHeap) (v : AVal), Hp H ∧ CodeA H v ∧ HRel π H W ∧ Am.Rel π W v (.slice (some a) len cap) ∧ ∀ b, ¬Wr H π b := by
  obtain ⟨b, off, spot⟩ := a
  simp only at hspot
  subst hspot
  have hlt : b < W.heap.size := (Array.getElem?_eq_some_iff.1 hb).1
  have hcell' : ∀ i, i < zs.length → carr[off + i]? = some (.int .u8 (zs.getD i 0)) := fun i hi => by
    have := hcell i hi
    rw [add_plain, cell_at hb] at this
    exact this
  have hroom : zs.length ≠ 0 → off + zs.length ≤ carr.size := fun h => by
    have := hcell' (zs.length - 1) (by omega)
    have := (Array.getElem?_eq_some_iff.1 this).1
    omega
  let d := if cap = 0 then 0 else off
  let fz := carr.size + zs.length + 1
  let c : List AVal := zs.map fun z => .int .u8 z
  let H := inHeap c fz
  let π : PMap := fun i => if i = 0 then some (b, d) else none
  have hd : zs.length ≠ 0 → d = off := fun h => by
    show (if cap = 0 then 0 else off) = off
    rw [if_neg (by omega)]
  have hdc : d + c.length ≤ carr.size := by
    show d + (zs.map fun z => AVal.int .u8 z).length ≤ carr.size
    rw [List.length_map]
    by_cases h0 : zs.length = 0
    · have : d = 0 := if_pos (by omega)
      omega
    · rw [hd h0]; exact hroom h0
  refine ⟨π, H, .slice 0 0 len 1, inHeap_hp, ?_, ⟨?_, ?_, ?_, ?_, ?_⟩, ?_, ?_⟩
  · by_cases hbig : 4096 < len
    · exact .inl ⟨0, 0, len, rfl, hbig⟩
    · refine .inr ⟨(zs.take len).map byteOf, ?_, by simp; omega⟩
      have hlen : ((zs.take len).map byteOf).length = len := by simp; omega
      have := Seq.mk (R := RB) (m := .ro) (P := (· < H.next)) (e := 5) (H := H) 0 0 fz c ((zs.take len).map byteOf) (show (0 : Nat) < 1 by omega) (show (0 : Nat) < 1 by omega) rfl (by rw [hlen]; show 0 + len ≤ (zs.map fun z => AVal.int .u8 z).length; rw [List.length_map]; omega) (by rw [hlen]; unfold maxLenA; omega) trivial (fun i hi => by
        rw [hlen] at hi
        have hiz : i < zs.length := by omega
        refine ⟨.int .u8 zs[i], ?_, rfl, ?_⟩
        · show (zs.map fun z => AVal.int .u8 z)[0 + i]? = _
          simp [hiz]
        · show AVal.int .u8 zs[i] = _
          simp only [List.getElem_map, List.getElem_take]
          rw [byteOf_toNat (hwz _ (List.getElem_mem hiz))])
      rw [hlen] at this
      exact this
  · intro id o ho
    have ho : (if id = 0 then some (AObj.cells c 5 fz) else none) = some o := ho
    by_cases h0 : id = 0
    · subst h0
      simp only [if_true, Option.some.injEq] at ho
      subst ho
      refine ⟨b, d, rfl, carr, fr, ⟨E, hb, fun h => ?_⟩, hdc, fun i x hx => ?_, fun i hi hlt' => ?_⟩
      · have : fz ≤ (zs.map fun z => AVal.int .u8 z).length := h
        rw [List.length_map] at this
        show _
        exact absurd this (by show ¬carr.size + zs.length + 1 ≤ zs.length; omega)
      · have hx : (zs.map fun z => AVal.int .u8 z)[i]? = some x := hx
        rw [List.getElem?_map] at hx
        have hiz : i < zs.length := by
          rcases Nat.lt_or_ge i zs.length with h | h
          · exact h
          · rw [List.getElem?_eq_none h] at hx; cases hx
        rw [List.getElem?_eq_getElem hiz, Option.map_some, Option.some.injEq] at hx
        subst hx
        refine ⟨.int .u8 (zs.getD i 0), ?_, ?_⟩
        · rw [hd (by omega)]; exact hcell' i hiz
        · rw [getD_get hiz]; rfl
      · exact absurd hi (by show ¬d + (carr.size + zs.length + 1) ≤ i; omega)
    · rw [if_neg h0] at ho; cases ho
  · intro id id' o o' b1 d1 d2 ho ho' _ _ _ _
    have ho : (if id = 0 then some (AObj.cells c 5 fz) else none) = some o := ho
    have ho' : (if id' = 0 then some (AObj.cells c 5 fz) else none) = some o' := ho'
    by_cases h0 : id = 0
    · by_cases h1 : id' = 0
      · rw [h0, h1]
      · rw [if_neg h1] at ho'; cases ho'
    · rw [if_neg h0] at ho; cases ho
  · exact fun id h => inHeap_hp id h
  · intro id h
    have h : (if id = 0 then some (AObj.cells c 5 fz) else none) = none := h
    by_cases h0 : id = 0
    · rw [if_pos h0] at h; cases h
    · show (if id = 0 then some (b, d) else none) = none
      rw [if_neg h0]
  · intro id b1 d1 h
    have h : (if id = 0 then some (b, d) else none) = some (b1, d1) := h
    by_cases h0 : id = 0
    · rw [if_pos h0] at h; cases h; exact hlt
    · rw [if_neg h0] at h; cases h
  · simp only [Am.Rel]
    refine ⟨b, d, off, cap, rfl, rfl, hl, fun hc => ⟨by rw [hd (by omega)]; omega, carr, E, fr, hb, ?_⟩⟩
    have := hroom (by omega)
    rw [hd (by omega)]; omega
  · rintro b1 ⟨id, d1, o, h1, h2, h3⟩
    have h2 : (if id = 0 then some (AObj.cells c 5 fz) else none) = some o := h2
    by_cases h0 : id = 0
    · rw [if_pos h0, Option.some.injEq] at h2
      subst h2
      have h3 : decide (fz ≤ (zs.map fun z => AVal.int .u8 z).length) = true := h3
      rw [List.length_map, decide_eq_true_eq] at h3
      exact absurd h3 (by show ¬carr.size + zs.length + 1 ≤ zs.length; omega)
    · rw [if_neg h0] at h2; cases h2
/-- What the run of a law leaves of the world. -/
structure Left1 (W W' : World) : Prop where
  os : W'.os = W.os
  output : W'.output = W.output
  heap : ∀ b : Nat, b < W.heap.size → W'.heap[b]? = W.heap[b]?
theorem Left1.kept {W' : World} (h : Left1 W W') (may : MemPlace → Prop) : W.keptBut W' may := by
  refine ⟨h.os, h.output, fun i hi => ?_⟩
  rw [h.heap i hi]
  split
  · rename_i c t fr c' t' fr' h1 h2
    rw [h1] at h2; cases h2
    exact ⟨rfl, rfl, rfl, fun _ _ => rfl⟩
  · rename_i h1 h2
    rw [h1] at h2; cases h2
    exact .inr ⟨rfl, rfl⟩
  · rfl
/-- A law that is true wherever it is run. -/
def LawTrue (F : AVal → AM AVal) : Prop := ∀ (H : AHeap) (v : AVal), Hp H → CodeA H v → Am.W (F v) H fun r _ => r = .bool true
theorem law_calls {f : FuncId} {F : AVal → AM AVal} (hok : FnOK P f (ap1 F)) (hF : LawTrue F) {v : Value} {π : PMap} {H : AHeap} {u : AVal} (hp : Hp H) (hc : CodeA H u) (hH : HRel π H W) (hr : Am.Rel π W u v) (hn : ∀ b, ¬Wr H π b) :
    Calls P f #[v] W fun e W' => e = .returned (.bool true) ∧ Left1 W W' := by
  obtain ⟨r, H', h1, rfl⟩ := hF H u hp hc
  refine (hok.s.sound (args := [u]) (H' := H') (v := .bool true) (show ap1 F [u] H = _ from h1) hH (RelL.cons hr RelL.nil)).mono fun e W' h => ?_
  obtain ⟨v', rfl, π', g1, g2, g3⟩ := h
  have g1 : v' = .bool true := g1
  subst g1
  exact ⟨rfl, g3.os, g3.output, fun b hb => (g3.fr b hb (hn b)).1⟩
theorem nil_rel : ∃ (π : PMap) (H : AHeap) (v : AVal), Hp H ∧ CodeA H v ∧ HRel π H W ∧ Am.Rel π W v (.slice none 0 0) ∧ ∀ b, ¬Wr H π b :=
  ⟨fun _ => none, { get := fun _ => none, next := 0 }, .nilS, fun _ _ => rfl, .inr ⟨[], .nil, by simp⟩, ⟨fun _ _ h => (by cases h), fun _ _ _ _ _ _ _ h => (by cases h), fun _ _ => rfl, fun _ _ => rfl, fun _ _ _ h => (by cases h)⟩, rfl, fun b ⟨_, _, _, h, _⟩ => (by cases h)⟩
/-- The conclusion of a row, where nothing that was there has turned. -/
theorem post_left {H : Type} {enc : TypeId × Value → H} {f : Func} {s : ChangeSpec} {apart fresh handsOn again : Bool} {W' : World} {args : Array Value} {v : Value} {ds gs : List (DataW H)} {before pa pv : List MemPlace}
    (hW : DataW.Whole enc P f.params.toList s.vars apart W args.toList ds gs before)
    (hres : ∀ (b : Nat) (sp : Nat → Bool) (hd : Bool), DataW.TrodAll enc P W' b sp hd f.resultTypes.toList (v.resultList f.resultTypes.size) (s.fn H (ds ++ gs)).results [])
    (hargs : ∀ sp : Nat → Bool, (∀ p ∈ before, sp p.block = true) → DataW.TrodAll enc P W' 0 sp true f.params.toList args.toList (s.fn H (ds ++ gs)).args pa)
    (hvars : ∀ sp : Nat → Bool, (∀ p ∈ before, sp p.block = true) → DataW.TrodVars enc P W' sp s.vars (s.fn H (ds ++ gs)).vars pv)
    (hps : before = pa ++ pv) (hk : Left1 W W')
    (hok : ∀ (j : Nat) (t : TypeId) (r : Value), f.resultTypes[j]? = some t → (v.resultList f.resultTypes.size)[j]? = some r → Value.okWide P W' .any 0 t r) :
    s.post enc P f apart fresh handsOn again W args v W' := by
  have hlt := hW.lt
  have hold : ∀ p ∈ before, (fun b => decide (b < W.heap.size)) p.block = true := fun p hp => by simpa using hlt p hp
  refine ⟨ds, gs, before, [], pa, pv, hW, hres _ _ _, hargs _ hold, hvars _ hold, World.keptBut_mono (fun p hp => ⟨hp, ?_⟩) (hk.kept (· ∈ before)), fun _ => ?_⟩
  · rw [hps, List.mem_append] at hp
    exact Or.inr hp
  · obtain ⟨_, _, _, _, _, hz, hn⟩ := hW
    refine ⟨hok, _, _, ([] ++ pa) ++ pv, ⟨[] ++ pa, pv, trodAll_append (hargs _ (fun _ _ => rfl)) (hres _ _ _), hvars _ (fun _ _ => rfl), rfl, ?_, ?_⟩, ?_⟩
    · intro b off hp
      have hb : (MemPlace.cell b off) ∈ before := by rw [hps]; simpa using hp
      have h1 := hz b off hb
      have h2 := hk.heap b (hlt _ hb)
      unfold World.frozen? at h1 ⊢
      show (match W'.heap[b]? with | some (.cells _ _ (lo, hi)) => decide (lo ≤ off) && decide (off < hi) | _ => false) = false
      rw [h2]; exact h1
    · intro ha
      have := hn ha
      rw [hps] at this
      simpa using this
    · intro p hp _
      rw [hps]
      simpa using hp
/-- A law of one slice of bytes that answers one bool: true, and the argument reads as it did. -/
theorem law_lifted {C : Checked} {os : Os} {f : FuncId} {fn : Func} {F : AVal → AM AVal} {H : Type} {enc : TypeId × Value → H} {s : ChangeSpec} {conds : List PathCond} {fresh handsOn again : Bool} {tS tb tB : TypeId}
    (own : ownKnob C.prog.godebug = none) (started : os.Started) (noInit : C.prog.inits.idxOf? f = none) (hfn : C.prog.funcs[f]? = some fn)
    (witness : ∃ (w : World) (tape : Tape) (i : Input), w.os = os ∧ (w.forCall tape i).Shaped C.prog ∧ i.vars = [] ∧ Input.okWide C.prog (w.forCall tape i) .any w.heap.size f i ∧
      s.pre6 enc C.prog fn conds false (w.forCall tape i).memory i.args ∧ Assume.holds {} C.prog (lone (Frame.enter C.prog f i.args .normal) [] (w.forCall tape i)))
    (hpar : fn.params.toList = [tS]) (hvs : s.vars = []) (huS : C.prog.underlying tS = some (.slice tb)) (hub : C.prog.underlying tb = some (.int .u8)) (hcb : C.prog.cellsOf tb = 1)
    (hres : fn.resultTypes = #[tB]) (huB : C.prog.underlying tB = some .bool) (hspec : ∀ d, s.fn H [d] = { results := [.lit (.bool true)], args := [d] })
    (hok : FnOK C.prog f (ap1 F)) (hF : LawTrue F) : ReturnsInHanded {} C os f .any (s.pre6 enc C.prog fn conds false) (s.post enc C.prog fn false fresh handsOn again) := by
  refine returnsInHanded_of_change own started noInit hfn witness ?_
  intro W base args ds gs before hval hW _ _
  have hW' := hW
  obtain ⟨p, q, hA, hV, rfl, _, _⟩ := hW
  rw [hpar] at hA
  obtain ⟨v0, d0, rfl, rfl, h0⟩ := trodAll_one hA
  rw [hvs] at hV
  obtain ⟨rfl, rfl⟩ := trodVars_none hV
  have hp0 : fn.params[0]? = some tS := by
    rw [← Array.getElem?_toList, hpar]; rfl
  have hv0 := hval 0 tS v0 hp0 rfl
  obtain ⟨a0, len, cap, rfl⟩ := okWide_slice huS hv0
  obtain ⟨fuel, hf⟩ := h0
  simp only [List.append_nil] at hW'
  have e1 : s.fn H ([d0] ++ []) = { results := [.lit (.bool true)], args := [d0] } := hspec d0
  have hr1 : ∀ (W' : World) (b : Nat) (sp : Nat → Bool) (hd : Bool), DataW.TrodAll enc C.prog W' b sp hd fn.resultTypes.toList ((Value.bool true).resultList fn.resultTypes.size) [.lit (.bool true)] [] := by
    intro W' b sp hd
    rw [hres]
    exact trodAll_mk1 (shut_bool huB true)
  have hok1 : ∀ (W' : World) (j : Nat) (t : TypeId) (r : Value), fn.resultTypes[j]? = some t → ((Value.bool true).resultList fn.resultTypes.size)[j]? = some r → Value.okWide C.prog W' .any 0 t r :=
    fun W' => ok_one hres rfl (okWide_bool_mk huB true)
  rcases open_ints huS hub hcb hf with ⟨hcs, hx⟩ | ⟨a, len', cap', zs, hcs, _, hl, hm, hz, hx, hcell, hwz⟩
  · simp [Value.cells] at hcs
    obtain ⟨rfl, rfl, rfl⟩ := hcs
    simp only [Prod.mk.injEq] at hx
    obtain ⟨rfl, rfl⟩ := hx
    obtain ⟨π, H0, u, q1, q2, q3, q4, q5⟩ := nil_rel (W := W)
    refine (law_calls hok hF q1 q2 q3 q4 q5).mono fun e W' ⟨he, hw⟩ => ?_
    subst he
    refine ⟨_, rfl, post_left (pa := []) (pv := []) hW' (fun b sp hd => by rw [e1]; exact hr1 W' b sp hd) (fun sp _ => ?_) (fun _ _ => ?_) rfl hw (hok1 W')⟩
    · rw [e1, hpar]; exact trodAll_mk1 (shut_slice_nil huS)
    · rw [e1, hvs]; rfl
  · simp [Value.cells] at hcs
    obtain ⟨rfl, rfl, rfl⟩ := hcs
    simp only [Prod.mk.injEq] at hx
    obtain ⟨rfl, rfl⟩ := hx
    simp only [if_true] at hz
    have hspot : a.spot = none ∧ ∃ carr E fr, W.heap[a.block]? = some (.cells carr E fr) := by
      have hh := hv0
      simp only [Value.okWide, huS, Cell.okWide, Cell.ok, World.has] at hh
      obtain ⟨_, _, _, h1, row, n, h2, _⟩ := hh
      refine ⟨h1, ?_⟩
      unfold World.shape? at h2
      split at h2
      · rename_i c e fr hb
        exact ⟨c, e, fr, hb⟩
      · cases h2
    obtain ⟨hsp, carr, E, fr, hb⟩ := hspot
    have hwz' : ∀ n ∈ zs, 0 ≤ n ∧ n ≤ 255 := fun n hn => by
      have := hwz n hn
      simp only [Lit.wf, Bool.and_eq_true, decide_eq_true_eq] at this
      exact this
    obtain ⟨π, H0, u, q1, q2, q3, q4, q5⟩ := in_rel hb hsp hl hz hcell hwz'
    refine (law_calls hok hF q1 q2 q3 q4 q5).mono fun e W' ⟨he, hw⟩ => ?_
    subst he
    have hcell' : ∀ i, i < zs.length → W'.cell? (a.add i) = some (.int .u8 (zs.getD i 0)) := fun i hi => by
      rw [← hcell i hi]
      have hlt : a.block < W.heap.size := (Array.getElem?_eq_some_iff.1 hb).1
      have hbl : (a.add i).block = a.block := block_add a i
      unfold World.cell?
      rw [hbl, hw.heap _ hlt]
    refine ⟨_, rfl, post_left (pa := MemPlace.row a zs.length) (pv := []) hW' (fun b sp hd => by rw [e1]; exact hr1 W' b sp hd) (fun sp hsp => ?_) (fun _ _ => ?_) (by simp) hw (hok1 W')⟩
    · rw [e1, hpar]
      refine trodAll_mk1 ?_
      by_cases hz0 : zs.length = 0
      · have hc0 : cap = 0 := by omega
        have hl0 : len = 0 := by omega
        subst hc0; subst hl0
        have t0 := shut_ints (enc := enc) (w := W') (base := 0) (spare := sp) (held := true) (a := a) (len := 0) (cap := 0) (zs := zs) 0 huS hub hcb (Nat.zero_le _) (Nat.le_refl _) hm (by simp [hz0]) hcell' hwz
        exact ⟨2, by simpa [Value.cells] using t0⟩
      · have hspb : sp a.block = true := hsp (.cell a.block a.off) (MemPlace.mem_row.2 ⟨0, by omega, by simp⟩)
        have t0 := shut_ints (enc := enc) (w := W') (base := 0) (spare := sp) (held := true) (a := a) (len := len) (cap := cap) (zs := zs) 0 huS hub hcb (Nat.zero_le _) hl hm (by simp [hspb, hz]) hcell' hwz
        exact ⟨2, by simpa [Value.cells] using t0⟩
    · rw [e1, hvs]; rfl
end
end Go.Am

end

section
set_option linter.unusedSimpArgs false
set_option linter.unusedVariables false
/- Stabilizer chains, as the reference builds them: in plain terms. -/
namespace Go.Am
/-- p, and then q. -/
def comp (p q : List Int) : List Int := p.map fun x => q.getD x.toNat 0
def Pm (n : Nat) (p : List Int) : Prop := p.length = n ∧ Dist n p
structure Ch where
  reps : List (List (List Int))
  gens : List (List (List Int))
def Ch.rep (c : Ch) (i y : Nat) : List Int := (c.reps.getD i []).getD y []
def Ch.gen (c : Ch) (i : Nat) : List (List Int) := c.gens.getD i []
def Ch.addGen (c : Ch) (k : Nat) (p : List Int) : Ch := ⟨c.reps, c.gens.set k (c.gen k ++ [p])⟩
def Ch.setRep (c : Ch) (k y : Nat) (p : List Int) : Ch := ⟨c.reps.set k ((c.reps.getD k []).set y p), c.gens⟩
def at0 (p : List Int) (i : Nat) : Nat := (p.getD i 0).toNat
def pSift (c : Ch) : Nat → Nat → List Int → List Int × Nat
  | 0, i, p => (p, i)
  | f + 1, i, p => if c.rep i (at0 p i) = [] then (p, i) else pSift c f (i + 1) (comp p (inv (c.rep i (at0 p i))))
def gStep (n : Nat) (P : Ch → Nat → List Int → Option Ch) (c : Ch) (k : Nat) (p : List Int) : Option Ch :=
  if n ≤ k then some c else if (pSift c (n - k) k p).2 = n then some c else if 1000000 ≤ (c.gen k).length then none else ((c.reps.getD k []).filter (fun r => r ≠ [])).foldlM (fun c s => P c k (comp s p)) (c.addGen k p)
def pStep (n : Nat) (G P : Ch → Nat → List Int → Option Ch) (c : Ch) (k : Nat) (p : List Int) : Option Ch :=
  if c.rep k (at0 p k) ≠ [] then G c (k + 1) (comp p (inv (c.rep k (at0 p k)))) else (c.gen k).foldlM (fun c g => P c k (comp p g)) (c.setRep k (at0 p k) p)
def pGP (n : Nat) : Nat → (Ch → Nat → List Int → Option Ch) × (Ch → Nat → List Int → Option Ch)
  | 0 => (fun _ _ _ => none, fun _ _ _ => none)
  | d + 1 => (pStep n (pGP n d).2 (pGP n d).1, gStep n (pGP n d).1)
abbrev pP (n d : Nat) := (pGP n d).1
abbrev pG (n d : Nat) := (pGP n d).2
/-- The lists of a chain are permutations. -/
structure CI (n : Nat) (c : Ch) : Prop where
  rl : c.reps.length = n
  gl : c.gens.length = n
  row : ∀ i, i < n → (c.reps.getD i []).length = n
  rep : ∀ i y, c.rep i y ≠ [] → Pm n (c.rep i y)
  gen : ∀ i, ∀ g ∈ c.gen i, Pm n g
section
variable {n k d : Nat} {p q r : List Int} {c c' : Ch}
theorem foldM_inv {α : Type} {f : Ch → α → Option Ch} {I : Ch → Prop} : ∀ {l : List α} {c c' : Ch}, (∀ c c' a, a ∈ l → I c → f c a = some c' → I c') → I c → l.foldlM f c = some c' → I c'
  | [], c, c', _, h, e => by
    simp only [List.foldlM_nil] at e
    cases e; exact h
  | a :: l, c, c', hf, h, e => by
    simp only [List.foldlM_cons] at e
    cases h1 : f c a with
    | none => rw [h1] at e; cases e
    | some c1 =>
      rw [h1] at e
      exact foldM_inv (fun c c' b hb => hf c c' b (List.mem_cons_of_mem _ hb)) (hf c c1 a List.mem_cons_self h h1) e
theorem Pm.pos (h : Pm n p) (hn : 0 < n) : p ≠ [] := fun h' => by rw [h'] at h; have := h.1; simp at this; omega
theorem Pm.at (h : Pm n p) {i : Nat} (hi : i < n) : ∃ a : Nat, a < n ∧ p[i]'(by rw [h.1]; exact hi) = (a : Int) ∧ at0 p i = a := by
  have hl : i < p.length := by rw [h.1]; exact hi
  have := h.2.1 _ (List.getElem_mem hl)
  refine ⟨p[i].toNat, by omega, by omega, ?_⟩
  rw [at0, getD_get hl]
theorem Pm.dist (h : Pm n p) : Dist p.length p := by rw [h.1]; exact h.2
theorem comp_length : (comp p q).length = p.length := by simp [comp]
theorem Pm.comp (h : Pm n p) (h' : Pm n q) : Pm n (comp p q) := by
  refine ⟨by rw [comp_length, h.1], fun x hx => ?_, ?_⟩
  · obtain ⟨a, ha, rfl⟩ := List.mem_map.1 hx
    have h1 := h.2.1 a ha
    have : a.toNat < q.length := by rw [h'.1]; omega
    rw [getD_get this]
    exact h'.2.1 _ (List.getElem_mem this)
  · rw [List.nodup_iff_pairwise_ne, Am.comp, List.pairwise_map]
    have hp := List.nodup_iff_pairwise_ne.1 h.2.2
    have hp' : p.Pairwise fun a b => (a ∈ p ∧ b ∈ p) ∧ a ≠ b := hp.imp_of_mem fun ha hb hab => ⟨⟨ha, hb⟩, hab⟩
    refine hp'.imp fun {a b} ⟨⟨ha, hb⟩, hab⟩ he => hab ?_
    have h1 := h.2.1 a ha
    have h2 := h.2.1 b hb
    have q1 : a.toNat < q.length := by rw [h'.1]; omega
    have q2 : b.toNat < q.length := by rw [h'.1]; omega
    rw [getD_get q1, getD_get q2] at he
    have := nodup_inj h'.2.2 q1 q2 he
    omega
theorem Pm.inv (h : Pm n p) : Pm n (inv p) := by
  refine ⟨by rw [inv_length, h.1], fun x hx => ?_, ?_⟩
  · have := inv_range h.dist hx
    rw [h.1] at this; exact this
  · rw [nodup_iff_take]
    intro i hi hm
    obtain ⟨j, hj, he⟩ := List.mem_iff_getElem.1 hm
    simp only [List.length_take] at hj
    rw [List.getElem_take] at he
    have hil : i < p.length := by rw [inv_length] at hi; exact hi
    have hjl : j < p.length := by omega
    have hj' : j < (Am.inv p).length := by omega
    have e1 := inv_right h.dist hil
    have e2 := inv_right h.dist hjl
    rw [getD_get hi] at e1
    rw [getD_get hj', he, e1] at e2
    omega
theorem rep_setRep {i y k z : Nat} : (c.setRep k z p).rep i y = if i = k ∧ k < c.reps.length ∧ y = z ∧ z < (c.reps.getD k []).length then p else c.rep i y := by
  unfold Ch.setRep Ch.rep
  simp only [List.getD_eq_getElem?_getD, List.getElem?_set]
  by_cases h1 : k = i
  · subst h1
    by_cases h2 : k < c.reps.length
    · simp only [h2, if_true, Option.getD_some, List.getElem?_set, true_and]
      by_cases h3 : z = y
      · subst h3
        by_cases h4 : z < (c.reps[k]?.getD []).length
        · simp [h4]
        · simp only [h4, if_false, and_false, Option.getD_none, if_true]
          simp [Nat.le_of_not_lt h4]
      · rw [if_neg h3, if_neg (fun h => h3 h.1.symm)]
    · simp [h2]
  · rw [if_neg h1, if_neg (fun h => h1 h.1.symm)]
theorem CI.setRep (h : CI n c) (hp : Pm n p) {y : Nat} : CI n (c.setRep k y p) := by
  refine ⟨by simp [Ch.setRep, h.rl], h.gl, fun i hi => ?_, fun i z hz => ?_, h.gen⟩
  · unfold Ch.setRep
    simp only [List.getD_eq_getElem?_getD, List.getElem?_set]
    by_cases h1 : k = i
    · subst h1
      have := h.row k hi
      have hk : k < c.reps.length := by rw [h.rl]; exact hi
      simp only [hk, if_true, Option.getD_some, List.length_set]
      rw [List.getD_eq_getElem?_getD] at this
      exact this
    · rw [if_neg h1]
      have := h.row i hi
      rwa [List.getD_eq_getElem?_getD] at this
  · rw [rep_setRep] at hz ⊢
    split
    · exact hp
    · rename_i h1
      rw [if_neg h1] at hz
      exact h.rep i z hz
theorem gen_addGen {i : Nat} : (c.addGen k p).gen i = if i = k ∧ k < c.gens.length then c.gen k ++ [p] else c.gen i := by
  unfold Ch.addGen Ch.gen
  simp only [List.getD_eq_getElem?_getD, List.getElem?_set]
  by_cases h1 : k = i
  · subst h1
    by_cases h2 : k < c.gens.length
    · simp [h2]
    · simp [h2]
  · rw [if_neg h1, if_neg (fun h => h1 h.1.symm)]
theorem CI.addGen (h : CI n c) (hp : Pm n p) : CI n (c.addGen k p) := by
  refine ⟨h.rl, by simp [Ch.addGen, h.gl], h.row, h.rep, fun i g hg => ?_⟩
  rw [gen_addGen] at hg
  split at hg
  · rcases List.mem_append.1 hg with hg | hg
    · exact h.gen k g hg
    · rw [List.mem_singleton.1 hg]; exact hp
  · exact h.gen i g hg
theorem rep_mem {i : Nat} (hr : r ∈ c.reps.getD i []) : ∃ y, y < (c.reps.getD i []).length ∧ c.rep i y = r := by
  obtain ⟨y, hy, e⟩ := List.mem_iff_getElem.1 hr
  exact ⟨y, hy, by rw [Ch.rep, getD_get hy]; exact e⟩
theorem CI.pGP : ∀ (d : Nat), (∀ c c' k p, CI n c → Pm n p → pP n d c k p = some c' → CI n c') ∧ (∀ c c' k p, CI n c → Pm n p → pG n d c k p = some c' → CI n c')
  | 0 => ⟨fun _ _ _ _ _ _ h => (by cases h), fun _ _ _ _ _ _ h => (by cases h)⟩
  | d + 1 => by
    obtain ⟨i1, i2⟩ := CI.pGP d
    refine ⟨fun c c' k p hc hp h => ?_, fun c c' k p hc hp h => ?_⟩
    · have h : pStep n (pG n d) (pP n d) c k p = some c' := h
      unfold pStep at h
      by_cases h1 : c.rep k (at0 p k) ≠ []
      · rw [if_pos h1] at h
        exact i2 _ _ _ _ hc (hp.comp (hc.rep _ _ h1).inv) h
      · rw [if_neg h1] at h
        exact foldM_inv (I := CI n) (fun c1 c2 g hg h1 h2 => i1 _ _ _ _ h1 (hp.comp (hc.gen k g hg)) h2) (hc.setRep hp) h
    · have h : gStep n (pP n d) c k p = some c' := h
      unfold gStep at h
      by_cases h0 : n ≤ k
      · rw [if_pos h0] at h; cases h; exact hc
      · rw [if_neg h0] at h
        by_cases h1 : (pSift c (n - k) k p).2 = n
        · rw [if_pos h1] at h; cases h; exact hc
        · rw [if_neg h1] at h
          split at h
          · cases h
          refine foldM_inv (I := CI n) (fun c1 c2 s hs h1 h2 => i1 _ _ _ _ h1 (Pm.comp ?_ hp) h2) (hc.addGen hp) h
          obtain ⟨hs1, hs2⟩ := List.mem_filter.1 hs
          obtain ⟨y, _, rfl⟩ := rep_mem hs1
          exact hc.rep k y (by simpa using hs2)
/-- What stays: the generators of the levels up to k. -/
theorem gens_keep : ∀ (d : Nat), (∀ c c' k p, pP n d c k p = some c' → ∀ j, j ≤ k → c'.gen j = c.gen j) ∧ (∀ c c' k p, pG n d c k p = some c' → ∀ j, j < k → c'.gen j = c.gen j)
  | 0 => ⟨fun _ _ _ _ h => (by cases h), fun _ _ _ _ h => (by cases h)⟩
  | d + 1 => by
    obtain ⟨i1, i2⟩ := gens_keep d
    refine ⟨fun c c' k p h j hj => ?_, fun c c' k p h j hj => ?_⟩
    · have h : pStep n (pG n d) (pP n d) c k p = some c' := h
      unfold pStep at h
      by_cases h1 : c.rep k (at0 p k) ≠ []
      · rw [if_pos h1] at h
        exact i2 _ _ _ _ h j (by omega)
      · rw [if_neg h1] at h
        refine foldM_inv (I := fun c1 => c1.gen j = c.gen j) (fun c1 c2 g hg h1 h2 => (i1 _ _ _ _ h2 j hj).trans h1) ?_ h
        rfl
    · have h : gStep n (pP n d) c k p = some c' := h
      unfold gStep at h
      by_cases h0 : n ≤ k
      · rw [if_pos h0] at h; cases h; rfl
      · rw [if_neg h0] at h
        by_cases h1 : (pSift c (n - k) k p).2 = n
        · rw [if_pos h1] at h; cases h; rfl
        · rw [if_neg h1] at h
          split at h
          · cases h
          refine foldM_inv (I := fun c1 => c1.gen j = c.gen j) (fun c1 c2 g hg h1 h2 => (i1 _ _ _ _ h2 j (by omega)).trans h1) ?_ h
          rw [gen_addGen, if_neg (by omega)]
end
end Go.Am

end

section
set_option linter.unusedSimpArgs false
set_option linter.unusedVariables false
/- Contracts: a stabilizer chain in the heap. -/
namespace Go.Am
section
variable {β X : Type} {f : AVal → AM β} {Q : AVal → AHeap → Prop} {R R' : AHeap → AVal → X → Prop} {m m2 : Md} {P P2 P3 P4 P5 P' S T : Nat → Prop} {e e2 : TypeId} {H H0 H1 H2 H' Hk Hl : AHeap} {v u x y z : AVal} {A B D s r : List Int} {L L' : List X} {LL : List (List Int)} {p q : List Int} {cs : List AVal} {id n k : Nat} {o o1 o2 : List Nat} {c c' : Ch}
/-- The elements of a sequence, after a run that left its own block. -/
theorem Seq.upd (h : Seq R m P e H v L) (hf : Fr S H H') (hS : ∀ id c fz, id < H.next → P id → H.get id = some (.cells c e fz) → ¬S id) (hl : L'.length = L.length)
    (hr : ∀ i (hi : i < L.length) (hi' : i < L'.length) z, Am.ld1 (elemP v i) H = some (z, H) → R H z L[i] → R' H' z L'[i]) : Seq R' m P e H' v L' := by
  cases h with
  | nil =>
    have : L' = [] := List.length_eq_zero_iff.1 (by simpa using hl)
    subst this
    exact .nil
  | mk id off fz c L hP hid hg hlc hb hm hR =>
    rw [← hl] at hlc hb hm ⊢
    refine .mk id off fz c L' hP (Nat.lt_of_lt_of_le hid hf.nx) ((hf.keep id hid (hS id c fz hid hP hg)).trans hg) hlc hb hm fun i hi => ?_
    have hi2 : i < L.length := by omega
    obtain ⟨z, h1, h2, h3⟩ := hR i hi2
    exact ⟨z, h1, h2, hr i hi2 hi z (by simp [Am.ld1, elemP, rd, hg, h1]) h3⟩
theorem Seq.same (h : Seq R m P e H v L) (hl : L'.length = L.length) (hr : ∀ i (hi : i < L.length) (hi' : i < L'.length) z, Am.ld1 (elemP v i) H = some (z, H) → R H z L[i] → R' H z L'[i]) (hp : Hp H) : Seq R' m P e H v L' :=
  h.upd (Le.refl hp) (fun _ _ _ _ _ _ h => h) hl hr
theorem W.empN {Q : β → AHeap → Prop} (hp : Hp H) (k : ∀ x H', Le H H' → H.next < H'.next → Seq R .own (· = H.next) e H' x [] → W (f x) H' Q) : W (Am.bnd (allocS none e 1 0 []) f) H Q := by
  refine W.e (a := .slice H.next 0 0 1) (H' := H.push (.cells [] e 0)) rfl (k _ _ (Le.push hp _) (Nat.lt_succ_self _) ?_)
  exact .mk H.next 0 0 [] [] rfl (Nat.lt_succ_self _) get_push (by simp) (by simp [maxLenA]) ⟨Nat.le_refl _, rfl⟩ fun i hi => absurd hi (Nat.not_lt_zero _)
theorem W.mkN {Q : β → AHeap → Prop} (hp : Hp H) {bytes : Nat} {z : AVal} {a : X} {n : Nat} {kd kd' : IntKind} (hz : z.isCell = true) (hb : bytes ≤ 65536) (hn : n ≤ 1073741824) (hR : ∀ H', Le H H' → R H' z a) (k : ∀ x H', Le H H' → H.next < H'.next → Seq R .own (· = H.next) e H' x (List.replicate n a) → W (f x) H' Q) :
    W (Am.bnd (mkS none e 1 bytes [z] (.int kd (n : Int)) (.int kd' (n : Int))) f) H Q := by
  have hz' : zrep n [z] = List.replicate n z := zrep1 n z
  refine W.e (a := .slice H.next 0 n 1) (H' := H.push (.cells (zrep n [z]) e 0)) ?_ (k _ _ (Le.push hp _) (Nat.lt_succ_self _) ?_)
  · simp only [mkS]
    rw [if_pos ⟨by omega, by omega, by unfold maxLenA; omega, hb⟩]
    simp only [Int.toNat_natCast]
    rfl
  · have := Seq.mk (R := R) (m := .own) (P := (· = H.next)) (e := e) (H := H.push (.cells (zrep n [z]) e 0)) H.next 0 0 (zrep n [z]) (List.replicate n a) rfl (Nat.lt_succ_self _) get_push (by simp [hz']) (by simpa [maxLenA] using hn) ⟨Nat.le_refl _, by simp [hz']⟩ (fun i hi => by
      have hi' : i < n := by simpa using hi
      exact ⟨z, by simp [hz', hi'], hz, by simpa using hR _ (Le.push hp _)⟩)
    simpa using this
/-- The blocks of a chain, which its functions may change. -/
def CO (o : List Nat) (H : AHeap) : Nat → Prop := fun id => id ∈ o ∧ ∃ c e fz, (e = t_Sint64 ∨ e = t_SSint64) ∧ H.get id = some (.cells c e fz)
theorem CO.ne {c : List AVal} {fz : Nat} (hg : H.get id = some (.cells c e fz)) (h1 : t_Sint64 ≠ e) (h2 : t_SSint64 ≠ e) : ¬CO o H id := by
  rintro ⟨_, c', e', fz', h3, h4⟩
  rw [hg] at h4; cases h4
  rcases h3 with h | h
  · exact h1 h.symm
  · exact h2 h.symm
theorem CO.tr (h : Fr (CO o H) H H1) (h' : Fr (CO o1 H1) H1 H2) (ho : ∀ id ∈ o1, id ∈ o ∨ H.next ≤ id) : Fr (CO o H) H H2 := by
  refine ⟨h'.wf, Nat.le_trans h.nx h'.nx, fun id hi hn => ?_⟩
  have h1 := h.keep id hi hn
  rw [h'.keep id (Nat.lt_of_lt_of_le hi h.nx) fun hb => hn ?_, h1]
  obtain ⟨g1, c, e, fz, g2, g3⟩ := hb
  refine ⟨(ho id g1).elim (fun h => h) fun h => absurd h (by omega), c, e, fz, g2, h1 ▸ g3⟩
theorem CO.le (h : Le H H1) : Fr (CO o H) H H1 := h.mono fun _ _ h => h.elim
theorem CO.bk {i : Nat} (h : Fr (Bk (· = i) e H) H H1) (hi : i ∈ o) (he : e = t_Sint64 ∨ e = t_SSint64) : Fr (CO o H) H H1 := h.mono fun id _ h => ⟨h.1 ▸ hi, by obtain ⟨_, c, fz, hc⟩ := h; exact ⟨c, e, fz, he, hc⟩⟩
theorem CO.nk (h : Fr (Nk id H) H H1) (hn : H0.next ≤ id) (h0 : Fr (CO o H0) H0 H) : Fr (CO o H0) H0 H1 := h0.nw h fun i hi hS => absurd hS.1 (by omega)
theorem Seq.coI (h : Seq RI m P t_int64 H v A) (hf : Fr (CO o H) H H') : Seq RI m P t_int64 H' v A := h.frI hf fun _ _ _ _ _ hg => CO.ne hg (by decide) (by decide)
theorem RL.co (h : RL P H v A) (hf : Fr (CO o H) H H') : RL P H' v A := Seq.coI h hf
theorem Seq.coL (h : Lists m P P2 H v LL) (hf : Fr (CO o H) H H') (hP : ∀ id, P id → id ∉ o) : Lists m P P2 H' v LL := h.fr hf (fun id c fz _ hp _ hb => hP id hp hb.1) fun _ _ h => RL.co h hf
theorem Bx.co (h : Bx P e H x cs) (hf : Fr (CO o H) H H') (h1 : t_Sint64 ≠ e) (h2 : t_SSint64 ≠ e) : Bx P e H' x cs := h.fr hf fun _ _ _ _ _ hg => CO.ne hg h1 h2
def RowR (H : AHeap) (v : AVal) (x : Nat × List (List Int)) : Prop := Seq (RL Any) .rw (· = x.1) t_Sint64 H v x.2
def GenR (H : AHeap) (v : AVal) (x : Nat × List (List Int)) : Prop := Seq (RL Any) .own (· = x.1) t_Sint64 H v x.2
/-- A chain in the heap; o: its blocks. -/
structure ChA (o : List Nat) (H : AHeap) (x : AVal) (n : Nat) (c : Ch) (rv gv : AVal) (ro go : Nat) (rid gid : List Nat) : Prop where
  eo : o = ro :: go :: (rid ++ gid)
  nd : o.Nodup
  lt : ∀ id ∈ o, id < H.next
  bx : Bx Any t_spec_chain H x [i64 (n : Int), rv, gv]
  rs : Seq RowR .rw (· = ro) t_SSint64 H rv (rid.zip c.reps)
  gs : Seq GenR .rw (· = go) t_SSint64 H gv (gid.zip c.gens)
  rl : rid.length = c.reps.length
  gl : gid.length = c.gens.length
def ChainA (o : List Nat) (H : AHeap) (x : AVal) (n : Nat) (c : Ch) : Prop := ∃ rv gv ro go rid gid, ChA o H x n c rv gv ro go rid gid
theorem ChA.le {rv gv : AVal} {ro go : Nat} {rid gid : List Nat} (h : ChA o H x n c rv gv ro go rid gid) (hl : Le H H') : ChA o H' x n c rv gv ro go rid gid :=
  ⟨h.eo, h.nd, fun id hid => Nat.lt_of_lt_of_le (h.lt id hid) hl.nx, h.bx.le hl, h.rs.fr hl (fun _ _ _ _ _ _ h => h) fun _ _ h => h.fr hl (fun _ _ _ _ _ _ h => h) fun _ _ h => Seq.leI h hl, h.gs.fr hl (fun _ _ _ _ _ _ h => h) fun _ _ h => h.fr hl (fun _ _ _ _ _ _ h => h) fun _ _ h => Seq.leI h hl, h.rl, h.gl⟩
theorem ChainA.le (h : ChainA o H x n c) (hl : Le H H') : ChainA o H' x n c := by
  obtain ⟨rv, gv, ro, go, rid, gid, h⟩ := h
  exact ⟨rv, gv, ro, go, rid, gid, h.le hl⟩
/-- After changes of blocks that are not the chain's. -/
theorem ChA.fr {rv gv : AVal} {ro go : Nat} {rid gid : List Nat} (h : ChA o H x n c rv gv ro go rid gid) (hf : Fr (Bk P' e H) H H') (hP : ∀ id, P' id → id ∉ o) (e1 : e ≠ t_spec_chain) (e2 : e ≠ t_int64) : ChA o H' x n c rv gv ro go rid gid := by
  have hro : ro ∈ o := by rw [h.eo]; simp
  have hgo : go ∈ o := by rw [h.eo]; simp
  have hrid : ∀ id ∈ rid, id ∈ o := fun id hid => by rw [h.eo]; simp [hid]
  have hgid : ∀ id ∈ gid, id ∈ o := fun id hid => by rw [h.eo]; simp [hid]
  refine ⟨h.eo, h.nd, fun id hid => Nat.lt_of_lt_of_le (h.lt id hid) hf.nx, h.bx.bk hf e1, ?_, ?_, h.rl, h.gl⟩
  · refine h.rs.upd hf (fun id c fz _ hp _ hb => hP id hb.1 (by rw [show id = ro from hp]; exact hro)) rfl fun i hi _ z _ hz => ?_
    refine hz.fr hf (fun id c fz _ hp _ hb => hP id hb.1 ?_) fun _ _ h => Seq.bkI h hf e2
    rw [show id = _ from hp]
    exact hrid _ (by simp only [List.getElem_zip]; exact List.getElem_mem _)
  · refine h.gs.upd hf (fun id c fz _ hp _ hb => hP id hb.1 (by rw [show id = go from hp]; exact hgo)) rfl fun i hi _ z _ hz => ?_
    refine hz.fr hf (fun id c fz _ hp _ hb => hP id hb.1 ?_) fun _ _ h => Seq.bkI h hf e2
    rw [show id = _ from hp]
    exact hgid _ (by simp only [List.getElem_zip]; exact List.getElem_mem _)
theorem ChainA.fr (h : ChainA o H x n c) (hf : Fr (Bk P' e H) H H') (hP : ∀ id, P' id → id ∉ o) (e1 : e ≠ t_spec_chain) (e2 : e ≠ t_int64) : ChainA o H' x n c := by
  obtain ⟨rv, gv, ro, go, rid, gid, h⟩ := h
  exact ⟨rv, gv, ro, go, rid, gid, h.fr hf hP e1 e2⟩
theorem c_compose (hp : Hp H) (ha : Ints m P H v A) (hb : Ints m2 P2 H u B) (hA : ∀ x ∈ A, 0 ≤ x ∧ x < B.length) (k : ∀ r H', Le H H' → Ints .own (Nw H) H' r (comp A B) → Q r H') : W (s_sp_compose v u) H Q := by
  have hba := ha.bd
  unfold s_sp_compose
  refine W.emp (R := RI) hp fun x1 H1 l1 h1 => ?_
  refine W.build 0 0 A.length (fun i => comp (A.take i) B) l1 (by simpa [comp] using h1) (Nat.zero_le _) (fun i H2 out _ hi f2 l2 h2 Q' kn => ?_) (fun H2 out f2 l2 h2 Q' kx => ?_) fun H2 out f2 l2 h2 => ?_
  · have ha2 := ha.leI l2
    have hb2 := hb.leI l2
    have hd := hA _ (List.getElem_mem hi)
    obtain ⟨a, hae⟩ : ∃ a : Nat, A[i] = (a : Int) := ⟨A[i].toNat, by omega⟩
    have hab : a < B.length := by omega
    have : (i : Int) < A.length := by omega
    simp only [↓XG ha2, this, ↓Xa, ↓Xb, ↓Xc, ↓Xd, ↓Xe, ↓Xf, ↓Xg, ↓Xh, ↓Xi, ↓Xj, ↓Xk, ↓Xl, ↓Xm, ↓Xn, ↓Xo, ↓Xp, ↓Xq, ↓Xr, ↓Xs, ↓Xt, ↓Xu, ↓Xv, ↓Xw, ↓Xx, ↓Xy, gx0, gx1, gx2, gx3, ife_e, ife_n, ife_r, Xz, ife_ne', XA, XB, XC, XD, decide_true, decide_false, Bool.not_true, Bool.not_false, ↓wr_ix ha2 hi, ↓wr_ldI ha2 hi, hae, ↓wr_ix hb2 hab, ↓wr_ldI hb2 hab]
    refine W.app1 (R := RI) l2.wf h2 stb_RI rfl (by decide) (by rw [comp_length]; simp; omega) (fun id h => Nat.le_trans l2.nx h) rfl fun y H4 f4 h4 => ?_
    rw [wr_inc (by omega)]
    refine W.ret (kn _ _ f4 ?_)
    rw [List.take_succ_eq_append_getElem hi]
    simpa [comp, hae, hab] using h4
  · simp only [↓XG ha, ↓Xa, ↓Xb, ↓Xc, ↓Xd, ↓Xe, ↓Xf, ↓Xg, ↓Xh, ↓Xi, ↓Xj, ↓Xk, ↓Xl, ↓Xm, ↓Xn, ↓Xo, ↓Xp, ↓Xq, ↓Xr, ↓Xs, ↓Xt, ↓Xu, ↓Xv, ↓Xw, ↓Xx, ↓Xy, gx0, gx1, gx2, gx3, ife_e, ife_n, ife_r, Xz, ife_ne', XA, XB, XC, XD, decide_true, decide_false, Bool.not_true, Bool.not_false, Int.lt_irrefl]
    exact W.ret kx
  · simp only [↓Xa, ↓Xb, ↓Xc, ↓Xd, ↓Xe, ↓Xf, ↓Xg, ↓Xh, ↓Xi, ↓Xj, ↓Xk, ↓Xl, ↓Xm, ↓Xn, ↓Xo, ↓Xp, ↓Xq, ↓Xr, ↓Xs, ↓Xt, ↓Xu, ↓Xv, ↓Xw, ↓Xx, ↓Xy, gx0, gx1, gx2, gx3, ife_e, ife_n, ife_r, Xz, ife_ne', XA, XB, XC, XD, decide_true, decide_false, Bool.not_true, Bool.not_false]
    exact W.ret (k _ _ l2 (by simpa using h2))
def idn (n : Nat) : List Int := (List.range n).map fun (j : Nat) => (j : Int)
theorem c_identity (hp : Hp H) (hn : n ≤ 1000000) (k : ∀ r H', Le H H' → Ints .own (Nw H) H' r (idn n) → Q r H') : W (s_sp_identity (i64 (n : Int))) H Q := by
  unfold s_sp_identity
  refine W.emp (R := RI) hp fun x1 H1 l1 h1 => ?_
  refine W.build 0 0 n (fun i => idn i) l1 (by simpa [idn] using h1) (Nat.zero_le _) (fun i H2 out _ hi f2 l2 h2 Q' kn => ?_) (fun H2 out f2 l2 h2 Q' kx => ?_) fun H2 out f2 l2 h2 => ?_
  · have : (i : Int) < n := by omega
    simp only [this, ↓Xa, ↓Xb, ↓Xc, ↓Xd, ↓Xe, ↓Xf, ↓Xg, ↓Xh, ↓Xi, ↓Xj, ↓Xk, ↓Xl, ↓Xm, ↓Xn, ↓Xo, ↓Xp, ↓Xq, ↓Xr, ↓Xs, ↓Xt, ↓Xu, ↓Xv, ↓Xw, ↓Xx, ↓Xy, gx0, gx1, gx2, gx3, ife_e, ife_n, ife_r, Xz, ife_ne', XA, XB, XC, XD, decide_true, decide_false, Bool.not_true, Bool.not_false]
    refine W.app1 (R := RI) l2.wf h2 stb_RI rfl (by decide) (by simp [idn]; omega) (fun id h => Nat.le_trans l2.nx h) rfl fun y H4 f4 h4 => ?_
    rw [wr_inc (by omega)]
    refine W.ret (kn _ _ f4 ?_)
    simpa [idn, List.range_succ] using h4
  · simp only [↓Xa, ↓Xb, ↓Xc, ↓Xd, ↓Xe, ↓Xf, ↓Xg, ↓Xh, ↓Xi, ↓Xj, ↓Xk, ↓Xl, ↓Xm, ↓Xn, ↓Xo, ↓Xp, ↓Xq, ↓Xr, ↓Xs, ↓Xt, ↓Xu, ↓Xv, ↓Xw, ↓Xx, ↓Xy, gx0, gx1, gx2, gx3, ife_e, ife_n, ife_r, Xz, ife_ne', XA, XB, XC, XD, decide_true, decide_false, Bool.not_true, Bool.not_false, Int.lt_irrefl]
    exact W.ret kx
  · simp only [↓Xa, ↓Xb, ↓Xc, ↓Xd, ↓Xe, ↓Xf, ↓Xg, ↓Xh, ↓Xi, ↓Xj, ↓Xk, ↓Xl, ↓Xm, ↓Xn, ↓Xo, ↓Xp, ↓Xq, ↓Xr, ↓Xs, ↓Xt, ↓Xu, ↓Xv, ↓Xw, ↓Xx, ↓Xy, gx0, gx1, gx2, gx3, ife_e, ife_n, ife_r, Xz, ife_ne', XA, XB, XC, XD, decide_true, decide_false, Bool.not_true, Bool.not_false]
    exact W.ret (k _ _ l2 h2)
theorem idn_pm (hn : 0 < n) : Pm n (idn n) := by
  refine ⟨by simp [idn], fun x hx => ?_, ?_⟩
  · simp only [idn, List.mem_map, List.mem_range] at hx
    obtain ⟨j, hj, rfl⟩ := hx
    omega
  · rw [List.nodup_iff_pairwise_ne, idn, List.pairwise_map]
    exact (List.nodup_iff_pairwise_ne.1 List.nodup_range).imp fun h h' => h (by omega)
/-- The row of a level. -/
theorem ChA.row {rv gv : AVal} {ro go : Nat} {rid gid : List Nat} (h : ChA o H x n c rv gv ro go rid gid) (hc : CI n c) {i : Nat} (hi : i < n) : i < (rid.zip c.reps).length ∧ ∃ z, Am.ld1 (elemP rv i) H = some (z, H) ∧ z.isCell = true ∧ ∃ hir : i < rid.length, Seq (RL Any) .rw (· = rid[i]) t_Sint64 H z (c.reps.getD i []) := by
  have h1 : i < c.reps.length := by rw [hc.rl]; exact hi
  have h2 : i < rid.length := by rw [h.rl]; exact h1
  have hz : i < (rid.zip c.reps).length := by simp; omega
  obtain ⟨z, g1, g2, g3⟩ := h.rs.ld1 hz
  refine ⟨hz, z, g1, g3, h2, ?_⟩
  have g2 : Seq (RL Any) .rw (· = (rid.zip c.reps)[i].1) t_Sint64 H z (rid.zip c.reps)[i].2 := g2
  simp only [List.getElem_zip] at g2
  rw [getD_get h1]; exact g2
theorem ChA.genr {rv gv : AVal} {ro go : Nat} {rid gid : List Nat} (h : ChA o H x n c rv gv ro go rid gid) (hc : CI n c) {i : Nat} (hi : i < n) : i < (gid.zip c.gens).length ∧ ∃ z, Am.ld1 (elemP gv i) H = some (z, H) ∧ z.isCell = true ∧ ∃ hir : i < gid.length, Seq (RL Any) .own (· = gid[i]) t_Sint64 H z (c.gen i) := by
  have h1 : i < c.gens.length := by rw [hc.gl]; exact hi
  have h2 : i < gid.length := by rw [h.gl]; exact h1
  have hz : i < (gid.zip c.gens).length := by simp; omega
  obtain ⟨z, g1, g2, g3⟩ := h.gs.ld1 hz
  refine ⟨hz, z, g1, g3, h2, ?_⟩
  have g2 : Seq (RL Any) .own (· = (gid.zip c.gens)[i].1) t_Sint64 H z (gid.zip c.gens)[i].2 := g2
  simp only [List.getElem_zip] at g2
  rw [Ch.gen, getD_get h1]; exact g2
theorem c_sift (hp : Hp H) (h : ChainA o H x n c) (hc : CI n c) (hq : Pm n p) (hv : Ints .ro Any H v p) (hk : k ≤ n) (hn : n ≤ 1000000)
    (kk : ∀ r H', Le H H' → Ints .ro Any H' r (pSift c (n - k) k p).1 → Q (.tuple [r, i64 ((pSift c (n - k) k p).2 : Int)]) H') : W (s_sp_sift x (i64 (k : Int)) v) H Q := by
  obtain ⟨rv, gv, ro, go, rid, gid, h⟩ := h
  unfold s_sp_sift
  refine W.lq (fun q st Hk => Le H Hk ∧ ∃ (i : Nat) (p' : List Int) (pv : AVal), q = n - i ∧ i ≤ n ∧ st = [pv, i64 (i : Int)] ∧ Ints .ro Any Hk pv p' ∧ Pm n p' ∧ pSift c (n - i) i p' = pSift c (n - k) k p)
    (fun rr Hk => Le H Hk ∧ ∃ (pv z : AVal), Ints .ro Any Hk pv (pSift c (n - k) k p).1 ∧ ((rr = (.exit 0, [pv, .undef, .undef]) ∧ (pSift c (n - k) k p).2 = n) ∨ rr = (.ret, [z, pv, i64 ((pSift c (n - k) k p).2 : Int)]))) (n - k)
    ⟨Le.refl hp, k, p, v, rfl, hk, rfl, hv, hq, rfl⟩ ?_ ?_
  · rintro q st Hk ⟨lk, i, p', pv, rfl, hi, rfl, hpv, hp', he⟩ Q' kn kx
    have h := h.le lk
    by_cases hin : i < n
    · have hin' : (i : Int) < n := by omega
      obtain ⟨hz, z, hz1, _, hir, hrow⟩ := h.row hc hin
      obtain ⟨a, ha, hpa, hat⟩ := hp'.at hin
      have hil : i < p'.length := by rw [hp'.1]; exact hin
      have hal : a < (c.reps.getD i []).length := by rw [hc.row i hin]; exact ha
      obtain ⟨w, hw, hwL, _⟩ := hrow.ld1 hal
      have hwL : Ints .ro Any Hk w (c.reps.getD i [])[a] := hwL
      have hrep : c.rep i a = (c.reps.getD i [])[a] := by rw [Ch.rep, getD_get hal]
      rw [← hrep] at hwL
      have hu : n - i = (n - (i + 1)) + 1 := by omega
      rw [hu, pSift, hat] at he
      simp only [↓XF h.bx, ↓XE h.bx, ↓wr_f0 h.bx, ↓wr_f1 h.bx, ↓Xa, ↓Xb, ↓Xc, ↓Xd, ↓Xe, ↓Xf, ↓Xg, ↓Xh, ↓Xi, ↓Xj, ↓Xk, ↓Xl, ↓Xm, ↓Xn, ↓Xo, ↓Xp, ↓Xq, ↓Xr, ↓Xs, ↓Xt, ↓Xu, ↓Xv, ↓Xw, ↓Xx, ↓Xy, gx0, gx1, gx2, gx3, ife_e, ife_n, ife_r, Xz, ife_ne', XA, XB, XC, XD, decide_true, decide_false, Bool.not_true, Bool.not_false, hin', ↓wr_ix h.rs hz, ↓wr_e hz1, ↓wr_ix hpv hil, ↓wr_ldI hpv hil, hpa, ↓wr_ix hrow hal, ↓wr_e hw, ↓XG hwL]
      by_cases hr : c.rep i a = []
      · have h0 : ((c.rep i a).length : Int) = 0 := by rw [hr]; rfl
        rw [if_pos hr] at he
        simp only [h0, ↓Xa, ↓Xb, ↓Xc, ↓Xd, ↓Xe, ↓Xf, ↓Xg, ↓Xh, ↓Xi, ↓Xj, ↓Xk, ↓Xl, ↓Xm, ↓Xn, ↓Xo, ↓Xp, ↓Xq, ↓Xr, ↓Xs, ↓Xt, ↓Xu, ↓Xv, ↓Xw, ↓Xx, ↓Xy, gx0, gx1, gx2, gx3, ife_e, ife_n, ife_r, Xz, ife_ne', XA, XB, XC, XD, decide_true, decide_false, Bool.not_true, Bool.not_false]
        refine W.ret (kx _ _ _ (by simp) ⟨lk, pv, pv, ?_, .inr ?_⟩)
        · rw [← he]; exact hpv
        · rw [← he]
      · have h0 : ¬((c.rep i a).length : Int) = 0 := fun h' => hr (List.length_eq_zero_iff.1 (by omega))
        rw [if_neg hr] at he
        have hrp := hc.rep i a hr
        simp only [h0, ↓Xa, ↓Xb, ↓Xc, ↓Xd, ↓Xe, ↓Xf, ↓Xg, ↓Xh, ↓Xi, ↓Xj, ↓Xk, ↓Xl, ↓Xm, ↓Xn, ↓Xo, ↓Xp, ↓Xq, ↓Xr, ↓Xs, ↓Xt, ↓Xu, ↓Xv, ↓Xw, ↓Xx, ↓Xy, gx0, gx1, gx2, gx3, ife_e, ife_n, ife_r, Xz, ife_ne', XA, XB, XC, XD, decide_true, decide_false, Bool.not_true, Bool.not_false]
        refine W.bnd (c_inverse lk.wf hwL hrp.dist fun w2 Hl ll hw2 => ?_)
        refine W.bnd (c_compose ll.wf (hpv.leI ll) hw2 (fun x hx => by have := hp'.2.1 x hx; rw [inv_length, hrp.1]; omega) fun w3 Hm lm hw3 => ?_)
        rw [wr_inc (by omega)]
        exact W.ret (kn (n - (i + 1)) _ _ (by omega) ⟨(lk.tr ll).tr lm, i + 1, _, w3, rfl, hin, rfl, hw3.any, hp'.comp hrp.inv, he⟩)
    · have hie : i = n := by omega
      subst hie
      simp only [↓XF h.bx, ↓XE h.bx, ↓wr_f0 h.bx, ↓Xa, ↓Xb, ↓Xc, ↓Xd, ↓Xe, ↓Xf, ↓Xg, ↓Xh, ↓Xi, ↓Xj, ↓Xk, ↓Xl, ↓Xm, ↓Xn, ↓Xo, ↓Xp, ↓Xq, ↓Xr, ↓Xs, ↓Xt, ↓Xu, ↓Xv, ↓Xw, ↓Xx, ↓Xy, gx0, gx1, gx2, gx3, ife_e, ife_n, ife_r, Xz, ife_ne', XA, XB, XC, XD, decide_true, decide_false, Bool.not_true, Bool.not_false, Int.lt_irrefl]
      rw [Nat.sub_self, pSift] at he
      exact W.ret (kx _ _ _ (by simp) ⟨lk, pv, pv, by rw [← he]; exact hpv, .inl ⟨rfl, by rw [← he]⟩⟩)
  · rintro rr Hk ⟨lk, pv, z, hpv, ⟨rfl, hl⟩ | rfl⟩
    · have h := h.le lk
      simp only [↓Xa, ↓Xb, ↓Xc, ↓Xd, ↓Xe, ↓Xf, ↓Xg, ↓Xh, ↓Xi, ↓Xj, ↓Xk, ↓Xl, ↓Xm, ↓Xn, ↓Xo, ↓Xp, ↓Xq, ↓Xr, ↓Xs, ↓Xt, ↓Xu, ↓Xv, ↓Xw, ↓Xx, ↓Xy, gx0, gx1, gx2, gx3, ife_e, ife_n, ife_r, Xz, ife_ne', XA, XB, XC, XD, decide_true, decide_false, Bool.not_true, Bool.not_false, ↓XF h.bx, ↓XE h.bx, ↓wr_f0 h.bx]
      have := kk pv Hk lk hpv
      rw [hl] at this
      exact W.ret this
    · simp only [↓Xa, ↓Xb, ↓Xc, ↓Xd, ↓Xe, ↓Xf, ↓Xg, ↓Xh, ↓Xi, ↓Xj, ↓Xk, ↓Xl, ↓Xm, ↓Xn, ↓Xo, ↓Xp, ↓Xq, ↓Xr, ↓Xs, ↓Xt, ↓Xu, ↓Xv, ↓Xw, ↓Xx, ↓Xy, gx0, gx1, gx2, gx3, ife_e, ife_n, ife_r, Xz, ife_ne', XA, XB, XC, XD, decide_true, decide_false, Bool.not_true, Bool.not_false]
      exact W.ret (kk pv Hk lk hpv)
end
end Go.Am

end

section
set_option linter.unusedSimpArgs false
set_option linter.unusedVariables false
/- Contracts: a generator is added to a chain. -/
namespace Go.Am
section
variable {β X : Type} {f : AVal → AM β} {Q : AVal → AHeap → Prop} {R R' : AHeap → AVal → X → Prop} {m m2 : Md} {P P2 P3 P4 P5 P' S T : Nat → Prop} {e e2 : TypeId} {H H0 H1 H2 H' Hk Hl : AHeap} {v u x y z : AVal} {A B D s r : List Int} {L L' : List X} {LL : List (List Int)} {p q : List Int} {cs : List AVal} {id n k : Nat} {o o1 o2 : List Nat} {c c' : Ch}
theorem flt_nil {r : List Int} (h : r = []) : ([r].filter fun r => r ≠ []) = [] := by rw [h]; rfl
theorem flt_one {r : List Int} (h : r ≠ []) : ([r].filter fun r => r ≠ []) = [r] := by rw [List.filter_cons_of_pos (by simpa using h), List.filter_nil]
theorem nodup_set {l : List Nat} (h : l.Nodup) {i a : Nat} (ha : a ∉ l) : (l.set i a).Nodup := by
  rw [List.nodup_iff_pairwise_ne, List.pairwise_iff_getElem]
  intro x y hx hy hxy he
  simp only [List.length_set] at hx hy
  simp only [List.getElem_set] at he
  by_cases h1 : i = x
  · rw [if_pos h1, if_neg (by omega)] at he
    exact ha (he ▸ List.getElem_mem _)
  · rw [if_neg h1] at he
    by_cases h2 : i = y
    · rw [if_pos h2] at he
      exact ha (he ▸ List.getElem_mem _)
    · rw [if_neg h2] at he
      have := nodup_inj h hx hy he
      omega
theorem W.emp0 {Q : β → AHeap → Prop} (hp : Hp H) (k : ∀ x H', Le H H' → Seq R .own (Nw H) e H' x [] → W (f x) H' Q) : W (Am.bnd (allocS none e 1 0 []) f) H Q :=
  W.mkseq (R := R) hp [] rfl rfl (Nat.zero_le _) (fun _ _ i hi => absurd hi (Nat.not_lt_zero _)) k
theorem ChainA.lt (h : ChainA o H x n c) : ∀ id ∈ o, id < H.next := by
  obtain ⟨rv, gv, ro, go, rid, gid, h⟩ := h
  exact h.lt
/-- A run that leaves the chain c' in x. -/
def ChP (o : List Nat) (H : AHeap) (x : AVal) (n : Nat) (c' : Ch) (r : AVal) (H' : AHeap) : Prop := r = .tuple [] ∧ ∃ o', ChainA o' H' x n c' ∧ Fr (CO o H) H H' ∧ ∀ id ∈ o', id ∈ o ∨ H.next ≤ id
/-- A representative is set. -/
theorem W.setRep {Q : β → AHeap → Prop} {rv gv : AVal} {ro go : Nat} {rid gid : List Nat} {a : Nat} (hp : Hp H) (h : ChA o H x n c rv gv ro go rid gid) (hc : CI n c) (hk : k < n) (ha : a < n) (hz : Am.ld1 (elemP rv k) H = some (z, H)) (hu : Ints .ro Any H u p)
    (kk : ∀ H', Fr (CO o H) H H' → ChA o H' x n (c.setRep k a p) rv gv ro go rid gid → W (f .undef) H' Q) : W (Am.bnd (st1 (elemP z a) u) f) H Q := by
  obtain ⟨hzl, z', hz1, hzc, hir, hrow⟩ := h.row hc hk
  have hzz : z = z' := by rw [hz] at hz1; cases hz1; rfl
  subst hzz
  have hal : a < (c.reps.getD k []).length := by rw [hc.row k hk]; exact ha
  have hkr : k < c.reps.length := by rw [hc.rl]; exact hk
  have hnd : (ro :: go :: (rid ++ gid)).Nodup := h.eo ▸ h.nd
  obtain ⟨nd1, nd2⟩ := List.nodup_cons.1 hnd
  obtain ⟨nd3, nd4⟩ := List.nodup_cons.1 nd2
  have ndr : rid.Nodup := (List.nodup_append.1 nd4).1
  have hmem : rid[k] ∈ o := by rw [h.eo]; simp
  refine W.st (R := RL Any) (a := p) hp hrow (by simp) hal hu.isCell (fun H' f v x hx => Seq.bkI hx f (by decide)) hu fun H1 f1 hrow1 => ?_
  refine kk H1 (CO.bk f1 hmem (.inl rfl)) ⟨h.eo, h.nd, fun id hid => Nat.lt_of_lt_of_le (h.lt id hid) f1.nx, h.bx.bk f1 (by decide), ?_, ?_, by simp [Ch.setRep, h.rl], h.gl⟩
  · refine h.rs.upd f1 (fun id c fz _ hp _ hb => nd1 ?_) (by simp [Ch.setRep]) fun i hi hi' w hw hR => ?_
    · have e1 : id = ro := hp
      have e2 : id = rid[k] := hb.1
      rw [← e1, e2]; simp
    · have hir' : i < rid.length := by simp at hi; omega
      have hic : i < c.reps.length := by simp at hi; omega
      by_cases hik : i = k
      · subst hik
        rw [hz] at hw; cases hw
        show Seq (RL Any) .rw (· = (rid.zip (c.setRep i a p).reps)[i].1) t_Sint64 H1 z (rid.zip (c.setRep i a p).reps)[i].2
        simp only [List.getElem_zip, Ch.setRep, List.getElem_set_self]
        exact hrow1
      · show Seq (RL Any) .rw (· = (rid.zip (c.setRep k a p).reps)[i].1) t_Sint64 H1 w (rid.zip (c.setRep k a p).reps)[i].2
        have hR : Seq (RL Any) .rw (· = (rid.zip c.reps)[i].1) t_Sint64 H w (rid.zip c.reps)[i].2 := hR
        simp only [List.getElem_zip, Ch.setRep, List.getElem_set_ne (fun h => hik h.symm)] at hR ⊢
        exact Seq.apL hR f1 fun id h1 h2 => by
          have e1 : id = rid[i] := h1
          have e2 : id = rid[k] := h2
          exact hik (nodup_inj ndr hir' hir (e1.symm.trans e2))
  · show Seq GenR .rw (· = go) t_SSint64 H1 gv (gid.zip c.gens)
    refine h.gs.upd f1 (fun id c fz _ hp _ hb => nd3 ?_) rfl fun i hi hi' w hw hR => ?_
    · have e1 : id = go := hp
      have e2 : id = rid[k] := hb.1
      rw [← e1, e2]; simp
    · have hig : i < gid.length := by simp at hi; omega
      have hR : Seq (RL Any) .own (· = (gid.zip c.gens)[i].1) t_Sint64 H w (gid.zip c.gens)[i].2 := hR
      show Seq (RL Any) .own (· = (gid.zip c.gens)[i].1) t_Sint64 H1 w (gid.zip c.gens)[i].2
      simp only [List.getElem_zip] at hR ⊢
      exact Seq.apL hR f1 fun id h1 h2 => by
        have e1 : id = gid[i] := h1
        have e2 : id = rid[k] := h2
        exact (List.nodup_append.1 nd4).2.2 rid[k] (List.getElem_mem _) gid[i] (List.getElem_mem _) (e2.symm.trans e1)
theorem c_chain (hn : n ≤ 1000) : ∀ (d : Nat),
    (∀ (o : List Nat) (H : AHeap) (x : AVal) (c c' : Ch) (k : Nat) (p : List Int) (pv : AVal), Hp H → ChainA o H x n c → CI n c → Pm n p → Ints .ro Any H pv p → k < n → pP n d c k p = some c' → W (s_sp_addProduct d x (i64 (k : Int)) pv) H (ChP o H x n c')) ∧
    (∀ (o : List Nat) (H : AHeap) (x : AVal) (c c' : Ch) (k : Nat) (p : List Int) (pv : AVal), Hp H → ChainA o H x n c → CI n c → Pm n p → Ints .ro Any H pv p → k ≤ n → pG n d c k p = some c' → W (s_sp_addGenerator d x (i64 (k : Int)) pv) H (ChP o H x n c'))
  | 0 => ⟨fun _ _ _ _ _ _ _ _ _ _ _ _ _ _ h => (by cases h), fun _ _ _ _ _ _ _ _ _ _ _ _ _ _ h => (by cases h)⟩
  | d + 1 => by
    obtain ⟨i1, i2⟩ := c_chain hn d
    refine ⟨fun o H x c c' k p pv hp h hc hpm hpv hk hcc => ?_, fun o H x c c' k p pv hp h hc hpm hpv hk hcc => ?_⟩
    · have hcc : pStep n (pG n d) (pP n d) c k p = some c' := hcc
      show W (b_sp_addProduct (s_sp_addProduct d) (s_sp_addGenerator d) x (i64 (k : Int)) pv) H _
      have hch := h
      obtain ⟨rv, gv, ro, go, rid, gid, h⟩ := h
      obtain ⟨hz, z, hz1, _, hir, hrow⟩ := h.row hc hk
      obtain ⟨a, ha, hpa, hat⟩ := hpm.at hk
      have hkl : k < p.length := by rw [hpm.1]; exact hk
      have hal : a < (c.reps.getD k []).length := by rw [hc.row k hk]; exact ha
      obtain ⟨w, hw, hwL, _⟩ := hrow.ld1 hal
      have hwL : Ints .ro Any H w (c.reps.getD k [])[a] := hwL
      have hrep : c.rep k a = (c.reps.getD k [])[a] := by rw [Ch.rep, getD_get hal]
      rw [← hrep] at hwL
      unfold b_sp_addProduct
      simp only [↓XF h.bx, ↓XE h.bx, ↓wr_f1 h.bx, ↓wr_ix h.rs hz, ↓wr_e hz1, ↓wr_ix hpv hkl, ↓wr_ldI hpv hkl, hpa, ↓wr_ix hrow hal, ↓wr_e hw, ↓XG hwL, ↓Xa, ↓Xb, ↓Xc, ↓Xd, ↓Xe, ↓Xf, ↓Xg, ↓Xh, ↓Xi, ↓Xj, ↓Xk, ↓Xl, ↓Xm, ↓Xn, ↓Xo, ↓Xp, ↓Xq, ↓Xr, ↓Xs, ↓Xt, ↓Xu, ↓Xv, ↓Xw, ↓Xx, ↓Xy, gx0, gx1, gx2, gx3, ife_e, ife_n, ife_r, Xz, ife_ne', XA, XB, XC, XD, decide_true, decide_false, Bool.not_true, Bool.not_false]
      unfold pStep at hcc
      rw [hat] at hcc
      by_cases hr : c.rep k a = []
      · have h0 : ¬(0 : Int) < ((c.rep k a).length : Int) := by rw [hr]; simp
        rw [if_neg (fun h => h hr)] at hcc
        simp only [h0, ↓Xa, ↓Xb, ↓Xc, ↓Xd, ↓Xe, ↓Xf, ↓Xg, ↓Xh, ↓Xi, ↓Xj, ↓Xk, ↓Xl, ↓Xm, ↓Xn, ↓Xo, ↓Xp, ↓Xq, ↓Xr, ↓Xs, ↓Xt, ↓Xu, ↓Xv, ↓Xw, ↓Xx, ↓Xy, gx0, gx1, gx2, gx3, ife_e, ife_n, ife_r, Xz, ife_ne', XA, XB, XC, XD, decide_true, decide_false, Bool.not_true, Bool.not_false, ↓XF h.bx, ↓XE h.bx, ↓wr_f1 h.bx, ↓wr_ix h.rs hz, ↓wr_e hz1, ↓wr_ix hpv hkl, ↓wr_ldI hpv hkl, hpa, ↓wr_ix hrow hal]
        refine W.setRep hp h hc hk ha hz1 hpv fun H1 f1 h1 => ?_
        have hc1 : CI n (c.setRep k a p) := hc.setRep hpm
        have hpv1 := hpv.coI f1
        have hgk : (c.setRep k a p).gen k = c.gen k := rfl
        have hgl : (c.gen k).length ≤ 1073741824 := by
          obtain ⟨_, z, _, _, _, hg⟩ := h.genr hc hk
          exact hg.bd
        refine W.lq (fun q st Hk => ∃ (i : Nat) (o1 : List Nat) (c1 : Ch), q = (c.gen k).length - i ∧ i ≤ (c.gen k).length ∧ st = [i64 (i : Int)] ∧ ChainA o1 Hk x n c1 ∧ CI n c1 ∧ c1.gen k = c.gen k ∧ Fr (CO o H) H Hk ∧ (∀ id ∈ o1, id ∈ o ∨ H.next ≤ id) ∧
            ((c.gen k).drop i).foldlM (fun c g => pP n d c k (comp p g)) c1 = some c')
          (fun rr Hk => rr = (.exit 0, []) ∧ ∃ o1, ChainA o1 Hk x n c' ∧ Fr (CO o H) H Hk ∧ ∀ id ∈ o1, id ∈ o ∨ H.next ≤ id) (c.gen k).length
          ⟨0, o, _, rfl, Nat.zero_le _, rfl, ⟨_, _, _, _, _, _, h1⟩, hc1, hgk, f1, fun _ h => .inl h, by simpa using hcc⟩ ?_ ?_
        · rintro q st Hk ⟨i, o1, c1, rfl, hi, rfl, hch1, hc1, hg1, fk, ho1, hfold⟩ Q' kn kx
          have hch1' := hch1
          obtain ⟨rv, gv, ro, go, rid, gid, h⟩ := hch1
          obtain ⟨hgz, g, hg1', _, hig, hgrow⟩ := h.genr hc1 hk
          rw [hg1] at hgrow
          by_cases hil : i < (c.gen k).length
          · have hil' : (i : Int) < (c.gen k).length := by omega
            obtain ⟨gw, hgw, hgwL, _⟩ := hgrow.ld1 hil
            have hgwL : Ints .ro Any Hk gw (c.gen k)[i] := hgwL
            have hgpm := hc.gen k _ (List.getElem_mem hil)
            have hpvk := hpv.coI fk
            simp only [↓Xa, ↓Xb, ↓Xc, ↓Xd, ↓Xe, ↓Xf, ↓Xg, ↓Xh, ↓Xi, ↓Xj, ↓Xk, ↓Xl, ↓Xm, ↓Xn, ↓Xo, ↓Xp, ↓Xq, ↓Xr, ↓Xs, ↓Xt, ↓Xu, ↓Xv, ↓Xw, ↓Xx, ↓Xy, gx0, gx1, gx2, gx3, ife_e, ife_n, ife_r, Xz, ife_ne', XA, XB, XC, XD, decide_true, decide_false, Bool.not_true, Bool.not_false, ↓XF h.bx, ↓XE h.bx, ↓wr_f2 h.bx, ↓wr_ix h.gs hgz, ↓wr_e hg1', ↓XG hgrow, hil', ↓wr_ix hgrow hil, ↓wr_e hgw]
            refine W.bnd (c_compose fk.wf hpvk hgwL (fun y hy => by have := hpm.2.1 y hy; rw [hgpm.1]; omega) fun pv2 Hl ll hpv2 => ?_)
            rw [List.drop_eq_getElem_cons hil, List.foldlM_cons] at hfold
            cases h2 : pP n d c1 k (comp p (c.gen k)[i]) with
            | none => rw [h2] at hfold; cases hfold
            | some c2 =>
              rw [h2] at hfold
              have hpm2 := hpm.comp hgpm
              refine W.c (i1 o1 Hl x c1 c2 k _ pv2 ll.wf (hch1'.le ll) hc1 hpm2 hpv2.any hk h2) ?_
              rintro r Hm ⟨rfl, o2, hch2, fm, ho2⟩
              rw [wr_inc (by omega)]
              have f2 : Fr (CO o1 Hk) Hk Hm := CO.tr (CO.le ll) fm fun id h => .inl h
              refine W.ret (kn ((c.gen k).length - (i + 1)) _ _ (by omega) ⟨i + 1, o2, c2, rfl, hil, rfl, hch2, (CI.pGP d).1 _ _ _ _ hc1 hpm2 h2, ((gens_keep d).1 _ _ _ _ h2 k (Nat.le_refl _)).trans hg1, CO.tr fk f2 ho1, fun id hid => ?_, hfold⟩)
              rcases ho2 id hid with h | h
              · exact ho1 id h
              · have := fk.nx; have := ll.nx; right; omega
          · have hil' : ¬(i : Int) < (c.gen k).length := by omega
            simp only [↓Xa, ↓Xb, ↓Xc, ↓Xd, ↓Xe, ↓Xf, ↓Xg, ↓Xh, ↓Xi, ↓Xj, ↓Xk, ↓Xl, ↓Xm, ↓Xn, ↓Xo, ↓Xp, ↓Xq, ↓Xr, ↓Xs, ↓Xt, ↓Xu, ↓Xv, ↓Xw, ↓Xx, ↓Xy, gx0, gx1, gx2, gx3, ife_e, ife_n, ife_r, Xz, ife_ne', XA, XB, XC, XD, decide_true, decide_false, Bool.not_true, Bool.not_false, ↓XF h.bx, ↓XE h.bx, ↓wr_f2 h.bx, ↓wr_ix h.gs hgz, ↓wr_e hg1', ↓XG hgrow, hil']
            rw [List.drop_eq_nil_of_le (by omega), List.foldlM_nil] at hfold
            cases hfold
            exact W.ret (kx _ _ _ (by simp) ⟨rfl, o1, hch1', fk, ho1⟩)
        · rintro rr Hk ⟨rfl, o1, hch1, fk, ho1⟩
          simp only [↓Xa, ↓Xb, ↓Xc, ↓Xd, ↓Xe, ↓Xf, ↓Xg, ↓Xh, ↓Xi, ↓Xj, ↓Xk, ↓Xl, ↓Xm, ↓Xn, ↓Xo, ↓Xp, ↓Xq, ↓Xr, ↓Xs, ↓Xt, ↓Xu, ↓Xv, ↓Xw, ↓Xx, ↓Xy, gx0, gx1, gx2, gx3, ife_e, ife_n, ife_r, Xz, ife_ne', XA, XB, XC, XD, decide_true, decide_false, Bool.not_true, Bool.not_false]
          exact W.ret ⟨rfl, o1, hch1, fk, ho1⟩
      · have h0 : (0 : Int) < ((c.rep k a).length : Int) := by
          have : 0 < (c.rep k a).length := List.length_pos_iff.2 hr
          omega
        have hrp := hc.rep k a hr
        rw [if_pos hr] at hcc
        simp only [h0, ↓Xa, ↓Xb, ↓Xc, ↓Xd, ↓Xe, ↓Xf, ↓Xg, ↓Xh, ↓Xi, ↓Xj, ↓Xk, ↓Xl, ↓Xm, ↓Xn, ↓Xo, ↓Xp, ↓Xq, ↓Xr, ↓Xs, ↓Xt, ↓Xu, ↓Xv, ↓Xw, ↓Xx, ↓Xy, gx0, gx1, gx2, gx3, ife_e, ife_n, ife_r, Xz, ife_ne', XA, XB, XC, XD, decide_true, decide_false, Bool.not_true, Bool.not_false]
        rw [wr_inc (by omega)]
        refine W.bnd (c_inverse hp hwL hrp.dist fun w2 Hl ll hw2 => ?_)
        refine W.bnd (c_compose ll.wf (hpv.leI ll) hw2 (fun y hy => by have := hpm.2.1 y hy; rw [inv_length, hrp.1]; omega) fun w3 Hm lm hw3 => ?_)
        have l := ll.tr lm
        refine W.c (i2 o Hm x c c' (k + 1) _ w3 l.wf (hch.le l) hc (hpm.comp hrp.inv) hw3.any hk hcc) ?_
        rintro r Hn ⟨rfl, o2, hch2, fm, ho2⟩
        exact W.ret ⟨rfl, o2, hch2, CO.tr (CO.le l) fm fun id h => .inl h, fun id hid => (ho2 id hid).elim .inl fun h => .inr (Nat.le_trans l.nx h)⟩
    · have hcc : gStep n (pP n d) c k p = some c' := hcc
      show W (b_sp_addGenerator (s_sp_addProduct d) (s_sp_addGenerator d) x (i64 (k : Int)) pv) H _
      have hch := h
      obtain ⟨rv, gv, ro, go, rid, gid, h⟩ := h
      unfold b_sp_addGenerator
      unfold gStep at hcc
      simp only [↓XF h.bx, ↓XE h.bx, ↓wr_f0 h.bx, ↓Xa, ↓Xb, ↓Xc, ↓Xd, ↓Xe, ↓Xf, ↓Xg, ↓Xh, ↓Xi, ↓Xj, ↓Xk, ↓Xl, ↓Xm, ↓Xn, ↓Xo, ↓Xp, ↓Xq, ↓Xr, ↓Xs, ↓Xt, ↓Xu, ↓Xv, ↓Xw, ↓Xx, ↓Xy, gx0, gx1, gx2, gx3, ife_e, ife_n, ife_r, Xz, ife_ne', XA, XB, XC, XD, decide_true, decide_false, Bool.not_true, Bool.not_false]
      by_cases h0 : n ≤ k
      · have h0' : (n : Int) ≤ k := by omega
        rw [if_pos h0] at hcc
        cases hcc
        simp only [h0', ↓Xa, ↓Xb, ↓Xc, ↓Xd, ↓Xe, ↓Xf, ↓Xg, ↓Xh, ↓Xi, ↓Xj, ↓Xk, ↓Xl, ↓Xm, ↓Xn, ↓Xo, ↓Xp, ↓Xq, ↓Xr, ↓Xs, ↓Xt, ↓Xu, ↓Xv, ↓Xw, ↓Xx, ↓Xy, gx0, gx1, gx2, gx3, ife_e, ife_n, ife_r, Xz, ife_ne', XA, XB, XC, XD, decide_true, decide_false, Bool.not_true, Bool.not_false]
        exact W.ret ⟨rfl, o, hch, (Le.refl hp).mono fun _ _ h => h.elim, fun _ h => .inl h⟩
      have h0' : ¬(n : Int) ≤ k := by omega
      have hk : k < n := by omega
      rw [if_neg h0] at hcc
      simp only [h0', ↓Xa, ↓Xb, ↓Xc, ↓Xd, ↓Xe, ↓Xf, ↓Xg, ↓Xh, ↓Xi, ↓Xj, ↓Xk, ↓Xl, ↓Xm, ↓Xn, ↓Xo, ↓Xp, ↓Xq, ↓Xr, ↓Xs, ↓Xt, ↓Xu, ↓Xv, ↓Xw, ↓Xx, ↓Xy, gx0, gx1, gx2, gx3, ife_e, ife_n, ife_r, Xz, ife_ne', XA, XB, XC, XD, decide_true, decide_false, Bool.not_true, Bool.not_false]
      refine W.bnd (c_sift hp hch hc hpm hpv (by omega) (by omega) fun sv H1 l1 _ => ?_)
      have h := h.le l1
      have hpv := hpv.leI l1
      simp only [↓XF h.bx, ↓XE h.bx, ↓wr_f0 h.bx, ↓Xa, ↓Xb, ↓Xc, ↓Xd, ↓Xe, ↓Xf, ↓Xg, ↓Xh, ↓Xi, ↓Xj, ↓Xk, ↓Xl, ↓Xm, ↓Xn, ↓Xo, ↓Xp, ↓Xq, ↓Xr, ↓Xs, ↓Xt, ↓Xu, ↓Xv, ↓Xw, ↓Xx, ↓Xy, gx0, gx1, gx2, gx3, ife_e, ife_n, ife_r, Xz, ife_ne', XA, XB, XC, XD, decide_true, decide_false, Bool.not_true, Bool.not_false]
      by_cases h2 : (pSift c (n - k) k p).2 = n
      · have h2' : ((pSift c (n - k) k p).2 : Int) = n := by omega
        rw [if_pos h2] at hcc
        cases hcc
        simp only [h2', ↓Xa, ↓Xb, ↓Xc, ↓Xd, ↓Xe, ↓Xf, ↓Xg, ↓Xh, ↓Xi, ↓Xj, ↓Xk, ↓Xl, ↓Xm, ↓Xn, ↓Xo, ↓Xp, ↓Xq, ↓Xr, ↓Xs, ↓Xt, ↓Xu, ↓Xv, ↓Xw, ↓Xx, ↓Xy, gx0, gx1, gx2, gx3, ife_e, ife_n, ife_r, Xz, ife_ne', XA, XB, XC, XD, decide_true, decide_false, Bool.not_true, Bool.not_false]
        exact W.ret ⟨rfl, o, hch.le l1, CO.le l1, fun _ h => .inl h⟩
      have h2' : ¬((pSift c (n - k) k p).2 : Int) = n := by omega
      rw [if_neg h2] at hcc
      simp only [h2', ↓Xa, ↓Xb, ↓Xc, ↓Xd, ↓Xe, ↓Xf, ↓Xg, ↓Xh, ↓Xi, ↓Xj, ↓Xk, ↓Xl, ↓Xm, ↓Xn, ↓Xo, ↓Xp, ↓Xq, ↓Xr, ↓Xs, ↓Xt, ↓Xu, ↓Xv, ↓Xw, ↓Xx, ↓Xy, gx0, gx1, gx2, gx3, ife_e, ife_n, ife_r, Xz, ife_ne', XA, XB, XC, XD, decide_true, decide_false, Bool.not_true, Bool.not_false]
      refine W.reserve l1.wf fun H2 l2 fre => ?_
      have fr13 := fre 13 (by decide)
      have h := h.le l2
      have hpv := hpv.leI l2
      obtain ⟨hgz, g, hg1, hgc, hig, hgrow⟩ := h.genr hc hk
      have hbx2 := h.bx
      simp only [↓XF h.bx, ↓XE h.bx, ↓wr_f2 h.bx, ↓wr_ix h.gs hgz, ↓wr_e hg1, ↓Xy, bnd_as, ↓wr_c1 hpv.isCell, ↓Xa]
      have n2 : H.next ≤ H2.next := Nat.le_trans l1.nx l2.nx
      have l02 : Le H H2 := l1.tr l2
      refine W.lit1Sf (R := RL Any) (a := p) (e := t_Sint64) l02.wf fr13 hpv.isCell (fun H' f => Seq.nkI hpv f) fun y H3 f3 hy => ?_
      have n13 : H.next ≤ H1.next + 13 := Nat.le_trans l1.nx (Nat.le_add_right _ _)
      have l03 : Le H H3 := Le.own l02 f3 fun i hi => by have := hi.1; omega
      have hbx3 := hbx2.nk f3
      have hgrow := hgrow.nkL f3
      have hpv := hpv.nkI f3
      have n3 := f3.nx
      have hnd : (ro :: go :: (rid ++ gid)).Nodup := h.eo ▸ h.nd
      obtain ⟨nd1, nd2⟩ := List.nodup_cons.1 hnd
      obtain ⟨nd3, nd4⟩ := List.nodup_cons.1 nd2
      have ndg : gid.Nodup := (List.nodup_append.1 nd4).2.1
      have hgm : gid[k] ∈ o := by rw [h.eo]; simp
      have hlt : ∀ id ∈ o, id < H.next := fun id hid => hch.lt id hid
      -- the chain's parts at H3
      have hro3 : Seq RowR .rw (· = ro) t_SSint64 H3 rv (rid.zip c.reps) := h.rs.fr f3 (fun _ _ _ _ _ hg => Nk.not hg) fun _ _ hR => hR.fr f3 (fun _ _ _ _ _ hg => Nk.not hg) fun _ _ hx => Seq.nkI hx f3
      have hgo3 : Seq GenR .rw (· = go) t_SSint64 H3 gv (gid.zip c.gens) := h.gs.fr f3 (fun _ _ _ _ _ hg => Nk.not hg) fun _ _ hR => hR.fr f3 (fun _ _ _ _ _ hg => Nk.not hg) fun _ _ hx => Seq.nkI hx f3
      by_cases hgb : 1000000 ≤ (c.gen k).length
      · rw [if_pos hgb] at hcc; cases hcc
      rw [if_neg hgb] at hcc
      simp only [↓Xy]
      refine W.appn (R := RL Any) (P := (· = gid[k])) f3.wf hgrow hy (by simp) (by decide) (by simp; omega) (fun H' f v x hx => Seq.bkI hx f (by decide)) fun y2 H4 f4 hy2 => ?_
      have n4 := f4.nx
      have n34 : H3.next < H4.next := by
        obtain ⟨id, g1, g2⟩ := hy2.place (by simp)
        have : id = H3.next := g1
        omega
      have hbx4 := hbx3.bk f4 (by decide)
      have hpv := hpv.bkI f4 (by decide)
      have hgne : ∀ id, id = gid[k] → id ≠ ro ∧ id ≠ go ∧ id ∉ rid := fun id e => by
        subst e
        refine ⟨fun h => nd1 (by rw [← h]; simp), fun h => nd3 (by rw [← h]; simp), fun h => (List.nodup_append.1 nd4).2.2 _ h _ (List.getElem_mem _) rfl⟩
      have hro4 : Seq RowR .rw (· = ro) t_SSint64 H4 rv (rid.zip c.reps) := hro3.upd f4 (fun id c fz _ hp _ hb => (hgne id hb.1).1 hp) rfl fun i hi hi' w hw hR => by
        have hR : Seq (RL Any) .rw (· = (rid.zip c.reps)[i].1) t_Sint64 H3 w (rid.zip c.reps)[i].2 := hR
        exact Seq.apL hR f4 fun id h1 h2 => (hgne id h2).2.2 (by
          have e1 : id = (rid.zip c.reps)[i].1 := h1
          rw [e1]; simp only [List.getElem_zip]; exact List.getElem_mem _)
      have hgo4 : Seq (fun H v x => x.1 = gid[k] ∨ GenR H v x) .rw (· = go) t_SSint64 H4 gv (gid.zip c.gens) := hgo3.upd f4 (fun id c fz _ hp _ hb => (hgne id hb.1).2.1 hp) rfl fun i hi hi' w hw hR => by
        by_cases hx : (gid.zip c.gens)[i].1 = gid[k]
        · exact .inl hx
        · have hR : Seq (RL Any) .own (· = (gid.zip c.gens)[i].1) t_Sint64 H3 w (gid.zip c.gens)[i].2 := hR
          exact .inr (Seq.apL hR f4 fun id h1 h2 => hx ((show (gid.zip c.gens)[i].1 = id from h1.symm).trans h2))
      simp only [↓XF hbx4, ↓XE hbx4, ↓wr_f2 hbx4]
      refine W.agn2 (hbx3.ld1 rfl) (hbx2.ld1 rfl) ?_
      simp only [↓wr_ix hgo4 hgz]
      refine W.st (a := (H3.next, c.gen k ++ [p])) f4.wf hgo4 (by simp) hgz hy2.isCell (fun H' f v x hx => hx.elim .inl fun hR => .inr (by
        have hR : Seq (RL Any) .own (· = x.1) t_Sint64 H4 v x.2 := hR
        exact Seq.bkL hR f (by decide) (by decide))) (.inr hy2) fun H5 f5 hgo5 => ?_
      have n5 := f5.nx
      have hbx5 := hbx4.bk f5 (by decide)
      have hpv := hpv.bkI f5 (by decide)
      have hro5 : Seq RowR .rw (· = ro) t_SSint64 H5 rv (rid.zip c.reps) := hro4.upd f5 (fun id c fz _ hp _ hb => nd1 (by
        have e1 : id = ro := hp
        have e2 : id = go := hb.1
        rw [← e1, e2]; simp)) rfl fun i hi hi' w hw hR => by
        have hR : Seq (RL Any) .rw (· = (rid.zip c.reps)[i].1) t_Sint64 H4 w (rid.zip c.reps)[i].2 := hR
        exact Seq.bkL hR f5 (by decide) (by decide)
      have hkg : k < c.gens.length := by rw [hc.gl]; exact hk
      have hz3 : H3.next ≠ gid[k] := fun h => by have := hlt _ hgm; omega
      have hge : c.gens[k] = c.gen k := by rw [Ch.gen, getD_get hkg]
      have hgo6 : Seq GenR .rw (· = go) t_SSint64 H5 gv ((gid.set k H3.next).zip (c.addGen k p).gens) := by
        refine hgo5.same (by simp [Ch.addGen]) (fun i hi hi' w hw hR => ?_) f5.wf
        have hig' : i < gid.length := by simp at hi; omega
        have hiz : i < (gid.zip c.gens).length := by simpa using hi
        simp only [List.getElem_set] at hR
        by_cases hik : i = k
        · subst hik
          rw [if_pos rfl] at hR
          have hR : Seq (RL Any) .own (· = H3.next) t_Sint64 H5 w (c.gen i ++ [p]) := hR.elim (fun h => absurd h hz3) fun h => h
          show Seq (RL Any) .own (· = ((gid.set i H3.next).zip (c.addGen i p).gens)[i].1) t_Sint64 H5 w ((gid.set i H3.next).zip (c.addGen i p).gens)[i].2
          simp only [List.getElem_zip, Ch.addGen, List.getElem_set_self]
          exact hR
        · rw [if_neg (fun h => hik h.symm)] at hR
          have hR : Seq (RL Any) .own (· = (gid.zip c.gens)[i].1) t_Sint64 H5 w (gid.zip c.gens)[i].2 := hR.elim (fun h => by
            simp only [List.getElem_zip] at h
            exact absurd (nodup_inj ndg hig' hig h) hik) fun h => h
          show Seq (RL Any) .own (· = ((gid.set k H3.next).zip (c.addGen k p).gens)[i].1) t_Sint64 H5 w ((gid.set k H3.next).zip (c.addGen k p).gens)[i].2
          simp only [List.getElem_zip, Ch.addGen, List.getElem_set_ne (fun h => hik h.symm)] at hR ⊢
          exact hR
      have hfresh : H3.next ∉ o := fun h => by have := hlt _ h; omega
      have hch5 : ChA (ro :: go :: (rid ++ gid.set k H3.next)) H5 x n (c.addGen k p) rv gv ro go rid (gid.set k H3.next) := by
        refine ⟨rfl, ?_, ?_, hbx5, hro5, hgo6, h.rl, by simp [Ch.addGen, h.gl]⟩
        · have e1 : ∀ y, y ∈ gid.set k H3.next → y = H3.next ∨ y ∈ gid := fun y hy => by
            rcases List.mem_or_eq_of_mem_set hy with h | h
            · exact .inr h
            · exact .inl h
          have hin : ∀ y, y ∈ ro :: go :: (rid ++ gid) → y ≠ H3.next := fun y hy h' => hfresh (by rw [h.eo, ← h']; exact hy)
          refine List.nodup_cons.2 ⟨fun hm => ?_, List.nodup_cons.2 ⟨fun hm => ?_, List.nodup_append.2 ⟨(List.nodup_append.1 nd4).1, nodup_set ndg (fun hm => hin _ (by simp [hm]) rfl), fun a ha b hb he => ?_⟩⟩⟩
          · rcases List.mem_cons.1 hm with rfl | hm
            · exact nd1 (by simp)
            · rcases List.mem_append.1 hm with hm | hm
              · exact nd1 (by simp [hm])
              · rcases e1 _ hm with hm | hm
                · exact hin ro (by simp) hm
                · exact nd1 (by simp [hm])
          · rcases List.mem_append.1 hm with hm | hm
            · exact nd3 (by simp [hm])
            · rcases e1 _ hm with hm | hm
              · exact hin go (by simp) hm
              · exact nd3 (by simp [hm])
          · rcases e1 _ hb with hb | hb
            · exact hin a (by simp [ha]) (he.trans hb)
            · exact (List.nodup_append.1 nd4).2.2 a ha b hb he
        · intro id hid
          have : id = H3.next ∨ id ∈ o := by
            rw [h.eo]
            rcases List.mem_cons.1 hid with rfl | hid
            · simp
            · rcases List.mem_cons.1 hid with rfl | hid
              · simp
              · rcases List.mem_append.1 hid with hid | hid
                · simp [hid]
                · rcases List.mem_or_eq_of_mem_set hid with h | h
                  · simp [h]
                  · exact .inl h
          rcases this with h | h
          · omega
          · have := hlt _ h; omega
      have ho5 : ∀ id ∈ ro :: go :: (rid ++ gid.set k H3.next), id ∈ o ∨ H.next ≤ id := fun id hid => by
        have : id = H3.next ∨ id ∈ o := by
          rw [h.eo]
          rcases List.mem_cons.1 hid with rfl | hid
          · simp
          · rcases List.mem_cons.1 hid with rfl | hid
            · simp
            · rcases List.mem_append.1 hid with hid | hid
              · simp [hid]
              · rcases List.mem_or_eq_of_mem_set hid with h | h
                · simp [h]
                · exact .inl h
        rcases this with h | h
        · right; omega
        · exact .inl h
      have hgom : go ∈ o := by rw [h.eo]; simp
      have f05 : Fr (CO o H) H H5 := CO.tr (CO.tr (CO.le l03) (CO.bk f4 hgm (.inl rfl)) fun id h => .inl h) (CO.bk f5 hgom (.inr rfl)) fun id h => .inl h
      generalize ro :: go :: (rid ++ gid.set k H3.next) = o5 at hch5 ho5
      have hc5 : CI n (c.addGen k p) := hc.addGen hpm
      have hr5 : (c.addGen k p).reps = c.reps := rfl
      simp only [↓wr_lit0, bnd_as, ↓Xa]
      have hkn : ∀ id, H5.next ≤ id → id ∉ o5 := fun id h1 h2 => by have := hch5.lt id h2; omega
      -- the representatives that are known
      have hrl : (c.reps.getD k []).length = n := hc.row k hk
      refine W.emp0 (R := RL Any) (e := t_Sint64) f05.wf fun kl H6 l6 hkl => ?_
      refine W.lq (fun q st Hk => ∃ (i : Nat) (kl : AVal), q = n - i ∧ i ≤ n ∧ st = [kl, i64 (i : Int)] ∧ Fr (Bk (H5.next ≤ ·) t_Sint64 H6) H6 Hk ∧ Lists .own (H5.next ≤ ·) Any Hk kl (((c.reps.getD k []).take i).filter fun r => r ≠ []))
        (fun rr Hk => ∃ kl, rr = (.exit 0, [kl]) ∧ Fr (Bk (H5.next ≤ ·) t_Sint64 H6) H6 Hk ∧ Lists .own (H5.next ≤ ·) Any Hk kl ((c.reps.getD k []).filter fun r => r ≠ [])) n
        ⟨0, kl, rfl, Nat.zero_le _, rfl, (Le.refl l6.wf).bk, by simpa using hkl⟩ ?_ ?_
      · rintro q st Hk ⟨i, kl, rfl, hi, rfl, fk, hkl⟩ Q' kn kx
        have h := (hch5.le l6).fr fk hkn (by decide) (by decide)
        by_cases hin : i < n
        · have hin' : (i : Int) < n := by omega
          have hir : i < (c.reps.getD k []).length := by omega
          obtain ⟨hz, z, hz1, _, _, hrow⟩ := h.row hc5 hk
          have hrow : Seq (RL Any) .rw _ t_Sint64 Hk z (c.reps.getD k []) := hrow
          obtain ⟨w, hw, hwL, hwc⟩ := hrow.ld1 hir
          have hwL : Ints .ro Any Hk w (c.reps.getD k [])[i] := hwL
          simp only [↓Xa, ↓Xb, ↓Xc, ↓Xd, ↓Xe, ↓Xf, ↓Xg, ↓Xh, ↓Xi, ↓Xj, ↓Xk, ↓Xl, ↓Xm, ↓Xn, ↓Xo, ↓Xp, ↓Xq, ↓Xr, ↓Xs, ↓Xt, ↓Xu, ↓Xv, ↓Xw, ↓Xx, ↓Xy, gx0, gx1, gx2, gx3, ife_e, ife_n, ife_r, Xz, ife_ne', XA, XB, XC, XD, decide_true, decide_false, Bool.not_true, Bool.not_false, ↓XF h.bx, ↓XE h.bx, ↓wr_f0 h.bx, hin', ↓wr_f1 h.bx, ↓wr_ix h.rs hz, ↓wr_e hz1, ↓wr_ix hrow hir, ↓wr_e hw, ↓XG hwL]
          by_cases hr : (c.reps.getD k [])[i] = []
          · have h0 : ¬(0 : Int) < ((c.reps.getD k [])[i].length : Int) := by rw [hr]; simp
            simp only [h0, ↓Xa, ↓Xb, ↓Xc, ↓Xd, ↓Xe, ↓Xf, ↓Xg, ↓Xh, ↓Xi, ↓Xj, ↓Xk, ↓Xl, ↓Xm, ↓Xn, ↓Xo, ↓Xp, ↓Xq, ↓Xr, ↓Xs, ↓Xt, ↓Xu, ↓Xv, ↓Xw, ↓Xx, ↓Xy, gx0, gx1, gx2, gx3, ife_e, ife_n, ife_r, Xz, ife_ne', XA, XB, XC, XD, decide_true, decide_false, Bool.not_true, Bool.not_false, ↓wr_rx]
            rw [wr_inc (by omega)]
            refine W.ret (kn (n - (i + 1)) _ _ (by omega) ⟨i + 1, kl, rfl, hin, rfl, fk, ?_⟩)
            have e0 : ([(c.reps.getD k [])[i]].filter fun r => r ≠ []) = [] := flt_nil hr
            rw [List.take_succ_eq_append_getElem hir, List.filter_append, e0, List.append_nil]
            exact hkl
          · have h0 : (0 : Int) < ((c.reps.getD k [])[i].length : Int) := by
              have : 0 < (c.reps.getD k [])[i].length := List.length_pos_iff.2 hr
              omega
            have hfl : (((c.reps.getD k []).take i).filter fun r => r ≠ []).length ≤ i := Nat.le_trans (List.length_filter_le _ _) (by simp; omega)
            simp only [h0, ↓Xa, ↓Xb, ↓Xc, ↓Xd, ↓Xe, ↓Xf, ↓Xg, ↓Xh, ↓Xi, ↓Xj, ↓Xk, ↓Xl, ↓Xm, ↓Xn, ↓Xo, ↓Xp, ↓Xq, ↓Xr, ↓Xs, ↓Xt, ↓Xu, ↓Xv, ↓Xw, ↓Xx, ↓Xy, gx0, gx1, gx2, gx3, ife_e, ife_n, ife_r, Xz, ife_ne', XA, XB, XC, XD, decide_true, decide_false, Bool.not_true, Bool.not_false, bnd_as, ↓XF h.bx, ↓XE h.bx, ↓wr_f1 h.bx, ↓wr_ix h.rs hz, ↓wr_e hz1, ↓wr_ix hrow hir, ↓wr_e hw, ↓wr_c1 hwc, ↓Xa]
            refine W.app1f (R := RL Any) (P := (H5.next ≤ ·)) fk.wf hkl (stb_RL (by decide)) hwc (by decide) (by omega) (fun id hid => by have := l6.nx; have := fk.nx; omega) hwL fun y Hl fl hy => ?_
            simp only [↓Xa, ↓Xb, ↓Xc, ↓Xd, ↓Xe, ↓Xf, ↓Xg, ↓Xh, ↓Xi, ↓Xj, ↓Xk, ↓Xl, ↓Xm, ↓Xn, ↓Xo, ↓Xp, ↓Xq, ↓Xr, ↓Xs, ↓Xt, ↓Xu, ↓Xv, ↓Xw, ↓Xx, ↓Xy, gx0, gx1, gx2, gx3, ife_e, ife_n, ife_r, Xz, ife_ne', XA, XB, XC, XD, decide_true, decide_false, Bool.not_true, Bool.not_false, ↓wr_rx]
            rw [wr_inc (by omega)]
            refine W.ret (kn (n - (i + 1)) _ _ (by omega) ⟨i + 1, y, rfl, hin, rfl, fk.bk fl, ?_⟩)
            have e0 : ([(c.reps.getD k [])[i]].filter fun r => r ≠ []) = [(c.reps.getD k [])[i]] := flt_one hr
            rw [List.take_succ_eq_append_getElem hir, List.filter_append, e0]
            exact hy
        · have hie : ¬(i : Int) < n := by omega
          simp only [↓Xa, ↓Xb, ↓Xc, ↓Xd, ↓Xe, ↓Xf, ↓Xg, ↓Xh, ↓Xi, ↓Xj, ↓Xk, ↓Xl, ↓Xm, ↓Xn, ↓Xo, ↓Xp, ↓Xq, ↓Xr, ↓Xs, ↓Xt, ↓Xu, ↓Xv, ↓Xw, ↓Xx, ↓Xy, gx0, gx1, gx2, gx3, ife_e, ife_n, ife_r, Xz, ife_ne', XA, XB, XC, XD, decide_true, decide_false, Bool.not_true, Bool.not_false, ↓XF h.bx, ↓XE h.bx, ↓wr_f0 h.bx, hie]
          rw [List.take_of_length_le (by omega)] at hkl
          exact W.ret (kx _ _ _ (by simp) ⟨kl, rfl, fk, hkl⟩)
      rintro rr H7 ⟨kl, rfl, f67, hkl⟩
      have hch7 := (hch5.le l6).fr f67 hkn (by decide) (by decide)
      have n67 : H5.next ≤ H7.next := Nat.le_trans l6.nx f67.nx
      have f57 : Le H5 H7 := Le.own l6 f67 fun id h => h.1
      have f07 : Fr (CO o H) H H7 := CO.tr f05 (CO.le (o := o) f57) fun id h => .inl h
      have hpv7 := (hpv.leI l6).bkI f67 (by decide)
      have hkl := hkl.ro.mono (P' := fun id => id ∉ o5 ∧ id < H7.next) fun id hid h => ⟨hkn id h, hid⟩
      have hrw : (c.addGen k p).reps = c.reps := rfl
      generalize hKL : ((c.reps.getD k []).filter fun r => r ≠ []) = KL at hkl hcc
      have hklb := hkl.bd
      have hKn : KL.length ≤ n := by rw [← hKL, ← hrl]; exact List.length_filter_le _ _
      have hKm : ∀ s ∈ KL, Pm n s := fun s hs => by
        rw [← hKL] at hs
        obtain ⟨hs1, hs2⟩ := List.mem_filter.1 hs
        obtain ⟨y, _, rfl⟩ := rep_mem hs1
        exact hc.rep k y (by simpa using hs2)
      simp only [↓Xa, ↓Xb, ↓Xc, ↓Xd, ↓Xe, ↓Xf, ↓Xg, ↓Xh, ↓Xi, ↓Xj, ↓Xk, ↓Xl, ↓Xm, ↓Xn, ↓Xo, ↓Xp, ↓Xq, ↓Xr, ↓Xs, ↓Xt, ↓Xu, ↓Xv, ↓Xw, ↓Xx, ↓Xy, gx0, gx1, gx2, gx3, ife_e, ife_n, ife_r, Xz, ife_ne', XA, XB, XC, XD, decide_true, decide_false, Bool.not_true, Bool.not_false]
      refine W.lq (fun q st Hk => ∃ (i : Nat) (o1 : List Nat) (c1 : Ch), q = KL.length - i ∧ i ≤ KL.length ∧ st = [i64 (i : Int)] ∧ ChainA o1 Hk x n c1 ∧ CI n c1 ∧ Fr (CO o5 H7) H7 Hk ∧ (∀ id ∈ o1, id ∈ o5 ∨ H7.next ≤ id) ∧
          (KL.drop i).foldlM (fun c s => pP n d c k (comp s p)) c1 = some c')
        (fun rr Hk => rr = (.exit 2, []) ∧ ∃ o1, ChainA o1 Hk x n c' ∧ Fr (CO o5 H7) H7 Hk ∧ ∀ id ∈ o1, id ∈ o5 ∨ H7.next ≤ id) KL.length
        ⟨0, o5, _, rfl, Nat.zero_le _, rfl, ⟨_, _, _, _, _, _, hch7⟩, hc5, (Le.refl f67.wf).mono fun _ _ h => h.elim, fun _ h => .inl h, by simpa using hcc⟩ ?_ ?_
      · rintro q st Hk ⟨i, o1, c1, rfl, hi, rfl, hch1, hc1, fk, ho1, hfold⟩ Q' kn kx
        have hklk := Seq.coL hkl fk fun id h => h.1
        have hpvk := hpv7.coI fk
        by_cases hil : i < KL.length
        · have hil' : (i : Int) < KL.length := by omega
          obtain ⟨gw, hgw, hgwL, _⟩ := hklk.ld1 hil
          have hgwL : Ints .ro Any Hk gw KL[i] := hgwL
          have hgpm := hKm _ (List.getElem_mem hil)
          simp only [↓Xa, ↓Xb, ↓Xc, ↓Xd, ↓Xe, ↓Xf, ↓Xg, ↓Xh, ↓Xi, ↓Xj, ↓Xk, ↓Xl, ↓Xm, ↓Xn, ↓Xo, ↓Xp, ↓Xq, ↓Xr, ↓Xs, ↓Xt, ↓Xu, ↓Xv, ↓Xw, ↓Xx, ↓Xy, gx0, gx1, gx2, gx3, ife_e, ife_n, ife_r, Xz, ife_ne', XA, XB, XC, XD, decide_true, decide_false, Bool.not_true, Bool.not_false, ↓XG hklk, hil', ↓wr_ix hklk hil, ↓wr_e hgw]
          refine W.bnd (c_compose fk.wf hgwL hpvk (fun y hy => by have := hgpm.2.1 y hy; rw [hpm.1]; omega) fun pv2 Hl ll hpv2 => ?_)
          rw [List.drop_eq_getElem_cons hil, List.foldlM_cons] at hfold
          cases h2 : pP n d c1 k (comp KL[i] p) with
          | none => rw [h2] at hfold; cases hfold
          | some c2 =>
            rw [h2] at hfold
            have hpm2 := hgpm.comp hpm
            refine W.c (i1 o1 Hl x c1 c2 k _ pv2 ll.wf (hch1.le ll) hc1 hpm2 hpv2.any hk h2) ?_
            rintro r Hm ⟨rfl, o2, hch2, fm, ho2⟩
            rw [wr_inc (by omega)]
            have f2 : Fr (CO o1 Hk) Hk Hm := CO.tr (CO.le ll) fm fun id h => .inl h
            refine W.ret (kn (KL.length - (i + 1)) _ _ (by omega) ⟨i + 1, o2, c2, rfl, hil, rfl, hch2, (CI.pGP d).1 _ _ _ _ hc1 hpm2 h2, CO.tr fk f2 ho1, fun id hid => ?_, hfold⟩)
            rcases ho2 id hid with h | h
            · exact ho1 id h
            · have := fk.nx; have := ll.nx; right; omega
        · have hil' : ¬(i : Int) < KL.length := by omega
          simp only [↓Xa, ↓Xb, ↓Xc, ↓Xd, ↓Xe, ↓Xf, ↓Xg, ↓Xh, ↓Xi, ↓Xj, ↓Xk, ↓Xl, ↓Xm, ↓Xn, ↓Xo, ↓Xp, ↓Xq, ↓Xr, ↓Xs, ↓Xt, ↓Xu, ↓Xv, ↓Xw, ↓Xx, ↓Xy, gx0, gx1, gx2, gx3, ife_e, ife_n, ife_r, Xz, ife_ne', XA, XB, XC, XD, decide_true, decide_false, Bool.not_true, Bool.not_false, ↓XG hklk, hil']
          rw [List.drop_eq_nil_of_le (by omega), List.foldlM_nil] at hfold
          cases hfold
          exact W.ret (kx _ _ _ (by simp) ⟨rfl, o1, hch1, fk, ho1⟩)
      · rintro rr Hk ⟨rfl, o1, hch1, fk, ho1⟩
        simp only [↓Xa, ↓Xb, ↓Xc, ↓Xd, ↓Xe, ↓Xf, ↓Xg, ↓Xh, ↓Xi, ↓Xj, ↓Xk, ↓Xl, ↓Xm, ↓Xn, ↓Xo, ↓Xp, ↓Xq, ↓Xr, ↓Xs, ↓Xt, ↓Xu, ↓Xv, ↓Xw, ↓Xx, ↓Xy, gx0, gx1, gx2, gx3, ife_e, ife_n, ife_r, Xz, ife_ne', XA, XB, XC, XD, decide_true, decide_false, Bool.not_true, Bool.not_false]
        refine W.ret ⟨rfl, o1, hch1, CO.tr f07 fk ho5, fun id hid => ?_⟩
        rcases ho1 id hid with h | h
        · exact ho5 id h
        · have := f07.nx; right; omega
end
end Go.Am

end

section
set_option linter.unusedSimpArgs false
set_option linter.unusedVariables false
/- Contracts: the empty chain, and the chain of a list of generators. -/
namespace Go.Am
section
variable {β X : Type} {f : AVal → AM β} {Q : AVal → AHeap → Prop} {R R' : AHeap → AVal → X → Prop} {m m2 : Md} {P P2 P3 P4 P5 P' S T : Nat → Prop} {e e2 : TypeId} {H H0 H1 H2 H' Hk Hl : AHeap} {v u x y z : AVal} {A B D s r : List Int} {L L' : List X} {LL : List (List Int)} {p q : List Int} {cs : List AVal} {id n k : Nat} {o o1 o2 : List Nat} {c c' : Ch} {L2 : List (Nat × List (List Int))}
def rowE (n i : Nat) : List (List Int) := (List.replicate n []).set i (idn n)
def empR (n i : Nat) : List (List (List Int)) := (List.range i).map (rowE n)
def emp (n : Nat) : Ch := ⟨empR n n, List.replicate n []⟩
theorem emp_row {i : Nat} (hi : i < n) : (emp n).reps.getD i [] = rowE n i := by
  simp [emp, empR, hi]
theorem emp_rep {i y : Nat} (hi : i < n) : (emp n).rep i y = if y = i then idn n else [] := by
  rw [Ch.rep, emp_row hi, rowE]
  by_cases h : y = i
  · subst h; simp [hi]
  · rw [if_neg h]
    simp only [List.getD_eq_getElem?_getD, List.getElem?_set, if_neg (fun h' => h h'.symm : ¬i = y), List.getElem?_replicate]
    split <;> rfl
theorem emp_rep' {i y : Nat} (hi : ¬i < n) : (emp n).rep i y = [] := by
  simp [Ch.rep, emp, empR, hi]
theorem emp_gen {i : Nat} : (emp n).gen i = [] := by
  simp only [Ch.gen, emp, List.getD_eq_getElem?_getD, List.getElem?_replicate]
  split <;> rfl
theorem CI.emp (hn : 0 < n) : CI n (emp n) := by
  refine ⟨by simp [Am.emp, empR], by simp [Am.emp], fun i hi => by rw [emp_row hi]; simp [rowE], fun i y hy => ?_, fun i g hg => by rw [emp_gen] at hg; cases hg⟩
  by_cases hi : i < n
  · rw [emp_rep hi] at hy ⊢
    split
    · exact idn_pm hn
    · rename_i h; rw [if_neg h] at hy; exact absurd rfl hy
  · exact absurd (emp_rep' hi) hy
/-- The state of the loop of emptyChain. -/
structure EC (H : AHeap) (n i : Nat) (x rv gv : AVal) (ro go : Nat) (rid gid : List Nat) (Hk : AHeap) : Prop where
  le : Le H Hk
  bx : Bx (Nw H) t_spec_chain Hk x [i64 (n : Int), rv, gv]
  rs : Seq RowR .own (fun id => id = ro ∧ i ≠ 0) t_SSint64 Hk rv (rid.zip (empR n i))
  gs : Seq GenR .own (fun id => id = go ∧ i ≠ 0) t_SSint64 Hk gv (gid.zip (List.replicate i []))
  rl : rid.length = i
  gl : gid.length = i
  nd : (rid ++ gid).Nodup
  lt : ∀ id ∈ rid ++ gid, H.next ≤ id ∧ id < Hk.next
  ne : ro ≠ go
  tp : i = 0 ∨ (ro ∉ rid ++ gid ∧ go ∉ rid ++ gid ∧ H.next ≤ ro ∧ ro < Hk.next ∧ H.next ≤ go ∧ go < Hk.next)
theorem le_rs (h : Seq RowR m P t_SSint64 H v L2) (l : Le H H') : Seq RowR m P t_SSint64 H' v L2 := h.fr l (fun _ _ _ _ _ _ h => h) fun _ _ h => h.fr l (fun _ _ _ _ _ _ h => h) fun _ _ h => Seq.leI h l
theorem le_gs (h : Seq GenR m P t_SSint64 H v L2) (l : Le H H') : Seq GenR m P t_SSint64 H' v L2 := h.fr l (fun _ _ _ _ _ _ h => h) fun _ _ h => h.fr l (fun _ _ _ _ _ _ h => h) fun _ _ h => Seq.leI h l
theorem ap_rs (h : Seq RowR m P t_SSint64 H v L2) (l : Fr (Bk P' t_SSint64 H) H H') (hd : ∀ id, P id → ¬P' id) : Seq RowR m P t_SSint64 H' v L2 := h.fr l (fun id c fz _ hp _ hb => hd id hp hb.1) fun v x hx => Seq.bkL hx l (by decide) (by decide)
theorem ap_gs (h : Seq GenR m P t_SSint64 H v L2) (l : Fr (Bk P' t_SSint64 H) H H') (hd : ∀ id, P id → ¬P' id) : Seq GenR m P t_SSint64 H' v L2 := h.fr l (fun id c fz _ hp _ hb => hd id hp hb.1) fun v x hx => Seq.bkL hx l (by decide) (by decide)
theorem bk_rs (h : Seq RowR m P t_SSint64 H v L2) (l : Fr (Bk P' e H) H H') (h1 : e ≠ t_SSint64) (h2 : e ≠ t_Sint64) (h3 : e ≠ t_int64) : Seq RowR m P t_SSint64 H' v L2 := h.fr l (fun id c fz _ hp hg hb => Bk.ne h1 hg hb) fun v x hx => Seq.bkL hx l h2 h3
theorem bk_gs (h : Seq GenR m P t_SSint64 H v L2) (l : Fr (Bk P' e H) H H') (h1 : e ≠ t_SSint64) (h2 : e ≠ t_Sint64) (h3 : e ≠ t_int64) : Seq GenR m P t_SSint64 H' v L2 := h.fr l (fun id c fz _ hp hg hb => Bk.ne h1 hg hb) fun v x hx => Seq.bkL hx l h2 h3
theorem zip_snoc {α γ : Type} {a : List α} {b : List γ} {x : α} {y : γ} (h : a.length = b.length) : (a ++ [x]).zip (b ++ [y]) = a.zip b ++ [(x, y)] := by
  rw [List.zip_append h]; rfl
theorem c_emptyChain (hp : Hp H) (hn : 1 ≤ n) (hn' : n ≤ 1000) (k : ∀ x o H', Le H H' → (∀ id ∈ o, H.next ≤ id) → ChainA o H' x n (emp n) → Q x H') : W (s_sp_emptyChain (i64 (n : Int))) H Q := by
  unfold s_sp_emptyChain
  simp only [bnd_as, ↓wr_c1u, ↓Xa]
  refine W.box hp (by decide) rfl rfl fun x H1 l1 b1 => ?_
  refine W.lq (fun q st Hk => ∃ (i : Nat) (rv gv : AVal) (ro go : Nat) (rid gid : List Nat), q = n - i ∧ i ≤ n ∧ st = [i64 (i : Int)] ∧ EC H n i x rv gv ro go rid gid Hk)
    (fun rr Hk => rr = (.exit 0, []) ∧ ∃ (rv gv : AVal) (ro go : Nat) (rid gid : List Nat), EC H n n x rv gv ro go rid gid Hk) n
    ⟨0, .nilS, .nilS, 0, 1, [], [], rfl, Nat.zero_le _, rfl, l1, b1, .nil, .nil, rfl, rfl, by simp, (by intro id hid; cases hid), (by decide), .inl rfl⟩ ?_ ?_
  · rintro q st Hk ⟨i, rv, gv, ro, go, rid, gid, rfl, hi, rfl, ec⟩ Q' kn kx
    by_cases hin : i < n
    · have hin' : (i : Int) < n := by omega
      simp only [↓Xa, ↓Xb, ↓Xc, ↓Xd, ↓Xe, ↓Xf, ↓Xg, ↓Xh, ↓Xi, ↓Xj, ↓Xk, ↓Xl, ↓Xm, ↓Xn, ↓Xo, ↓Xp, ↓Xq, ↓Xr, ↓Xs, ↓Xt, ↓Xu, ↓Xv, ↓Xw, ↓Xx, ↓Xy, gx0, gx1, gx2, gx3, ife_e, ife_n, ife_r, Xz, ife_ne', XA, XB, XC, XD, decide_true, decide_false, Bool.not_true, Bool.not_false, hin']
      refine W.mkN (R := RL Any) (a := []) (e := t_Sint64) ec.le.wf rfl (by decide) (by omega) (fun _ _ => .nil) fun x6 H2 l2 n2 h6 => ?_
      refine W.bnd (c_identity l2.wf (by omega) fun x7 H3 l3 h7 => ?_)
      have h6 := Seq.leL h6 l3
      have hi6 : i < (List.replicate n ([] : List Int)).length := by simpa using hin
      simp only [↓wr_ix h6 hi6]
      refine W.st (R := RL Any) (a := idn n) l3.wf h6 (by simp) hi6 h7.isCell (fun H' f v x hx => Seq.bkI hx f (by decide)) (h7.ro.any) fun H4 f4 h6 => ?_
      have l24 : Le Hk H4 := Le.own (l2.tr l3) f4 fun id h => by have := h.1; omega
      have n4 := f4.nx
      have n3 := l3.nx
      have hrow : RowR H4 x6 (Hk.next, rowE n i) := h6.rw
      have bx := ec.bx.le l24
      have rs := le_rs ec.rs l24
      have gs := le_gs ec.gs l24
      simp only [↓XF bx, ↓XE bx, ↓wr_f1 bx, bnd_as, ↓wr_c1 h6.isCell, ↓Xa]
      have hrl : (rid.zip (empR n i)).length = i := by simp [empR, ec.rl]
      have hgl : (gid.zip (List.replicate i ([] : List (List Int)))).length = i := by simp [ec.gl]
      refine W.lit1f (R := RowR) f4.wf h6.isCell (a := (Hk.next, rowE n i)) (fun H' l => hrow.fr l (fun _ _ _ _ _ _ h => h) fun _ _ h => Seq.leI h l) fun y1 H5 l5 hy1 => ?_
      have n5 := l5.nx
      have bx := bx.le l5
      have rs := le_rs rs l5
      have gs := le_gs gs l5
      refine W.appn (R := RowR) l5.wf rs hy1 (by simp) (by decide) (by rw [hrl]; simp; omega) (fun H' f v x hx => Seq.bkL hx f (by decide) (by decide)) fun y2 H6 f6 hy2 => ?_
      have n6 := f6.nx
      have n56 : H5.next < H6.next := by
        obtain ⟨id, g1, g2⟩ := hy2.place (by simp)
        have : id = H5.next := g1
        omega
      have bx := bx.bk f6 (by decide)
      have gs := ap_gs gs f6 fun id h1 h2 => ec.ne (h2.1.symm.trans h1.1)
      simp only [↓XF bx, ↓XE bx]
      refine W.fst f6.wf bx (by simp) hy2.isCell fun H7 f7 bx => ?_
      have n7 := f7.nx
      have hy2 := bk_rs hy2 f7 (by decide) (by decide) (by decide)
      have gs := bk_gs gs f7 (by decide) (by decide) (by decide)
      have bx : Bx (Nw H) t_spec_chain H7 x [i64 (n : Int), y2, gv] := bx
      simp only [↓XF bx, ↓XE bx, ↓wr_f2 bx, ↓Xa]
      refine W.empN (R := RL Any) (e := t_Sint64) f7.wf fun x20 H8 l8 n8 h20 => ?_
      have bx := bx.le l8
      have gs := le_gs gs l8
      have hy2 := le_rs hy2 l8
      simp only [↓wr_c1 h20.isCell, ↓Xa]
      have hgr : GenR H8 x20 (H7.next, []) := h20
      refine W.lit1f (R := GenR) l8.wf h20.isCell (a := (H7.next, [])) (fun H' l => hgr.fr l (fun _ _ _ _ _ _ h => h) fun _ _ h => Seq.leI h l) fun y3 H9 l9 hy3 => ?_
      have n9 := l9.nx
      have bx := bx.le l9
      have gs := le_gs gs l9
      have hy2 := le_rs hy2 l9
      have n24 := l24.nx
      refine W.appn (R := GenR) l9.wf gs hy3 (by simp) (by decide) (by rw [hgl]; simp; omega) (fun H' f v x hx => Seq.bkL hx f (by decide) (by decide)) fun y4 H10 f10 hy4 => ?_
      have n10 := f10.nx
      have n910 : H9.next < H10.next := by
        obtain ⟨id, g1, g2⟩ := hy4.place (by simp)
        have : id = H9.next := g1
        omega
      have bx := bx.bk f10 (by decide)
      have hy2 := ap_rs hy2 f10 fun id h1 h2 => by
        have h1 : id = H5.next := h1
        have := (ec.tp.resolve_left h2.2).2.2.2.2.2
        have := h2.1
        omega
      simp only [↓XF bx, ↓XE bx]
      refine W.fst f10.wf bx (by simp) hy4.isCell fun H11 f11 bx => ?_
      have n11 := f11.nx
      have hy2 := bk_rs hy2 f11 (by decide) (by decide) (by decide)
      have hy4 := bk_gs hy4 f11 (by decide) (by decide) (by decide)
      have bx : Bx (Nw H) t_spec_chain H11 x [i64 (n : Int), y2, y4] := bx
      have n2 := ec.le.nx
      have nl2 := l2.nx
      have hro : ∀ id, (id = ro ∧ i ≠ 0) → H.next ≤ id := fun id h => h.1 ▸ (ec.tp.resolve_left h.2).2.2.1
      have hgo : ∀ id, (id = go ∧ i ≠ 0) → H.next ≤ id := fun id h => h.1 ▸ (ec.tp.resolve_left h.2).2.2.2.2.1
      have l : Le H H11 := by
        have a5 : Le H H5 := (ec.le.tr l24).tr l5
        have a6 : Le H H6 := Le.own a5 f6 fun id h => hro id h.1
        have a7 : Le H H7 := Le.own a6 f7 fun id h => h.1
        have a9 : Le H H9 := (a7.tr l8).tr l9
        have a10 : Le H H10 := Le.own a9 f10 fun id h => hgo id h.1
        exact Le.own a10 f11 fun id h => h.1
      rw [wr_inc (by omega)]
      refine W.ret (kn (n - (i + 1)) _ _ (by omega) ⟨i + 1, y2, y4, H5.next, H9.next, rid ++ [Hk.next], gid ++ [H7.next], rfl, hin, rfl, l, bx, ?_, ?_, by simp [ec.rl], by simp [ec.gl], ?_, ?_, by omega, .inr ?_⟩)
      · have e1 : (rid ++ [Hk.next]).zip (empR n (i + 1)) = rid.zip (empR n i) ++ [(Hk.next, rowE n i)] := by
          rw [empR, List.range_succ, List.map_append]
          exact zip_snoc (by simp [ec.rl])
        rw [e1]
        exact hy2.mono fun id _ h => ⟨h, by omega⟩
      · have e1 : (gid ++ [H7.next]).zip (List.replicate (i + 1) ([] : List (List Int))) = gid.zip (List.replicate i []) ++ [(H7.next, [])] := by
          rw [List.replicate_succ']
          exact zip_snoc (by simp [ec.gl])
        rw [e1]
        exact hy4.mono fun id _ h => ⟨h, by omega⟩
      · have nd := ec.nd
        have lt := ec.lt
        have hnd : ((rid ++ gid) ++ [Hk.next, H7.next]).Nodup := by
          refine List.nodup_append.2 ⟨nd, ?_, fun a ha b hb => ?_⟩
          · simp; omega
          · have := lt a ha
            simp at hb
            omega
        refine List.Perm.nodup ?_ hnd
        have : (rid ++ gid ++ [Hk.next, H7.next]) = rid ++ (gid ++ ([Hk.next] ++ [H7.next])) := by simp
        rw [this, show rid ++ [Hk.next] ++ (gid ++ [H7.next]) = rid ++ ([Hk.next] ++ (gid ++ [H7.next])) by simp]
        refine List.Perm.append_left _ ?_
        rw [← List.append_assoc, ← List.append_assoc]
        exact List.Perm.append_right _ List.perm_append_comm
      · intro id hid
        have : id ∈ rid ++ gid ∨ id = Hk.next ∨ id = H7.next := by
          simp only [List.mem_append, List.mem_singleton] at hid ⊢
          rcases hid with (h | h) | (h | h)
          · exact .inl (.inl h)
          · exact .inr (.inl h)
          · exact .inl (.inr h)
          · exact .inr (.inr h)
        rcases this with h | h | h
        · have := ec.lt id h; omega
        · omega
        · omega
      · have hno : ∀ id, Hk.next < id → id ≠ H7.next → id ∉ rid ++ [Hk.next] ++ (gid ++ [H7.next]) := fun id h1 h2 hid => by
          have : id ∈ rid ++ gid ∨ id = Hk.next ∨ id = H7.next := by
            simp only [List.mem_append, List.mem_singleton] at hid ⊢
            rcases hid with (h | h) | (h | h)
            · exact .inl (.inl h)
            · exact .inr (.inl h)
            · exact .inl (.inr h)
            · exact .inr (.inr h)
          rcases this with h | h | h
          · have := ec.lt id h; omega
          · omega
          · omega
        refine ⟨hno _ (by omega) (by omega), hno _ (by omega) (by omega), ?_, ?_, ?_, ?_⟩ <;> omega
    · have hie : ¬(i : Int) < n := by omega
      have : i = n := by omega
      subst this
      simp only [↓Xa, ↓Xb, ↓Xc, ↓Xd, ↓Xe, ↓Xf, ↓Xg, ↓Xh, ↓Xi, ↓Xj, ↓Xk, ↓Xl, ↓Xm, ↓Xn, ↓Xo, ↓Xp, ↓Xq, ↓Xr, ↓Xs, ↓Xt, ↓Xu, ↓Xv, ↓Xw, ↓Xx, ↓Xy, gx0, gx1, gx2, gx3, ife_e, ife_n, ife_r, Xz, ife_ne', XA, XB, XC, XD, decide_true, decide_false, Bool.not_true, Bool.not_false, hie]
      exact W.ret (kx _ _ _ (by simp) ⟨rfl, rv, gv, ro, go, rid, gid, ec⟩)
  · rintro rr Hk ⟨rfl, rv, gv, ro, go, rid, gid, ec⟩
    obtain ⟨t1, t2, t3, t4, t5, t6⟩ := ec.tp.resolve_left (by omega)
    simp only [↓Xa, ↓Xb, ↓Xc, ↓Xd, ↓Xe, ↓Xf, ↓Xg, ↓Xh, ↓Xi, ↓Xj, ↓Xk, ↓Xl, ↓Xm, ↓Xn, ↓Xo, ↓Xp, ↓Xq, ↓Xr, ↓Xs, ↓Xt, ↓Xu, ↓Xv, ↓Xw, ↓Xx, ↓Xy, gx0, gx1, gx2, gx3, ife_e, ife_n, ife_r, Xz, ife_ne', XA, XB, XC, XD, decide_true, decide_false, Bool.not_true, Bool.not_false]
    refine W.ret (k x (ro :: go :: (rid ++ gid)) Hk ec.le (fun id hid => ?_) ⟨rv, gv, ro, go, rid, gid, rfl, ?_, fun id hid => ?_, ec.bx.mono fun _ _ _ => trivial, ec.rs.rw.mono fun _ _ h => h.1, ec.gs.rw.mono fun _ _ h => h.1, by simp [emp, empR, ec.rl], by simp [emp, ec.gl]⟩)
    · rcases List.mem_cons.1 hid with rfl | hid
      · exact t3
      · rcases List.mem_cons.1 hid with rfl | hid
        · exact t5
        · exact (ec.lt id hid).1
    · refine List.nodup_cons.2 ⟨fun hm => ?_, List.nodup_cons.2 ⟨t2, ec.nd⟩⟩
      rcases List.mem_cons.1 hm with h | h
      · exact ec.ne h
      · exact t1 h
    · rcases List.mem_cons.1 hid with rfl | hid
      · exact t4
      · rcases List.mem_cons.1 hid with rfl | hid
        · exact t6
        · exact (ec.lt id hid).2
/-- A chain for a list of permutations. -/
def pBuild (n : Nat) (L : List (List Int)) : Option Ch := L.foldlM (fun c g => pG n deep c 0 g) (emp n)
theorem c_buildChain (hp : Hp H) (hn : 1 ≤ n) (hn' : n ≤ 1000) (hl : Lists .ro P P2 H v LL) (hL : ∀ g ∈ LL, Pm n g) (hc : pBuild n LL = some c) (k : ∀ x o H', Le H H' → ChainA o H' x n c → CI n c → Q x H') : W (s_sp_buildChain (i64 (n : Int)) v) H Q := by
  have hb := hl.bd
  unfold s_sp_buildChain
  refine W.bnd (c_emptyChain hp hn hn' fun x o H1 l1 ho hch => ?_)
  refine W.lq (fun q st Hk => ∃ (i : Nat) (o1 : List Nat) (c1 : Ch), q = LL.length - i ∧ i ≤ LL.length ∧ st = [i64 (i : Int)] ∧ ChainA o1 Hk x n c1 ∧ CI n c1 ∧ Le H Hk ∧ (∀ id ∈ o1, H.next ≤ id) ∧ (LL.drop i).foldlM (fun c g => pG n deep c 0 g) c1 = some c)
    (fun rr Hk => rr = (.exit 0, []) ∧ ∃ o1, ChainA o1 Hk x n c ∧ CI n c ∧ Le H Hk) LL.length
    ⟨0, o, emp n, rfl, Nat.zero_le _, rfl, hch, CI.emp hn, l1, ho, by rw [List.drop_zero]; exact hc⟩ ?_ ?_
  · rintro q st Hk ⟨i, o1, c1, rfl, hi, rfl, hch1, hc1, lk, ho1, hfold⟩ Q' kn kx
    by_cases hil : i < LL.length
    · have hil' : (i : Int) < LL.length := by omega
      have hl := hl.leL lk
      obtain ⟨w, hw, hwL, _⟩ := hl.ld1 hil
      have hwL : Ints .ro P2 Hk w LL[i] := hwL
      have hpm := hL _ (List.getElem_mem hil)
      simp only [↓Xa, ↓Xb, ↓Xc, ↓Xd, ↓Xe, ↓Xf, ↓Xg, ↓Xh, ↓Xi, ↓Xj, ↓Xk, ↓Xl, ↓Xm, ↓Xn, ↓Xo, ↓Xp, ↓Xq, ↓Xr, ↓Xs, ↓Xt, ↓Xu, ↓Xv, ↓Xw, ↓Xx, ↓Xy, gx0, gx1, gx2, gx3, ife_e, ife_n, ife_r, Xz, ife_ne', XA, XB, XC, XD, decide_true, decide_false, Bool.not_true, Bool.not_false, ↓XG hl, hil', ↓wr_ix hl hil, ↓wr_e hw]
      refine W.bnd (c_copyInts lk.wf hwL fun w2 H2 l2 hw2 => ?_)
      rw [List.drop_eq_getElem_cons hil, List.foldlM_cons] at hfold
      cases h2 : pG n deep c1 0 LL[i] with
      | none => rw [h2] at hfold; cases hfold
      | some c2 =>
        rw [h2] at hfold
        refine W.c ((c_chain hn' deep).2 o1 H2 x c1 c2 0 _ w2 l2.wf (hch1.le l2) hc1 hpm hw2.ro.any (Nat.zero_le _) h2) ?_
        rintro r Hm ⟨rfl, o2, hch2, fm, ho2⟩
        rw [wr_inc (by omega)]
        have n2 := l2.nx
        have n3 := lk.nx
        refine W.ret (kn (LL.length - (i + 1)) _ _ (by omega) ⟨i + 1, o2, c2, rfl, hil, rfl, hch2, (CI.pGP deep).2 _ _ _ _ hc1 hpm h2, Le.own (lk.tr l2) fm fun id h => ho1 id h.1, fun id hid => ?_, hfold⟩)
        rcases ho2 id hid with h | h
        · exact ho1 id h
        · omega
    · have hil' : ¬(i : Int) < LL.length := by omega
      simp only [↓Xa, ↓Xb, ↓Xc, ↓Xd, ↓Xe, ↓Xf, ↓Xg, ↓Xh, ↓Xi, ↓Xj, ↓Xk, ↓Xl, ↓Xm, ↓Xn, ↓Xo, ↓Xp, ↓Xq, ↓Xr, ↓Xs, ↓Xt, ↓Xu, ↓Xv, ↓Xw, ↓Xx, ↓Xy, gx0, gx1, gx2, gx3, ife_e, ife_n, ife_r, Xz, ife_ne', XA, XB, XC, XD, decide_true, decide_false, Bool.not_true, Bool.not_false, ↓XG hl, hil']
      rw [List.drop_eq_nil_of_le (by omega), List.foldlM_nil] at hfold
      cases hfold
      exact W.ret (kx _ _ _ (by simp) ⟨rfl, o1, hch1, hc1, lk⟩)
  · rintro rr Hk ⟨rfl, o1, hch1, hc1, lk⟩
    simp only [↓Xa, ↓Xb, ↓Xc, ↓Xd, ↓Xe, ↓Xf, ↓Xg, ↓Xh, ↓Xi, ↓Xj, ↓Xk, ↓Xl, ↓Xm, ↓Xn, ↓Xo, ↓Xp, ↓Xq, ↓Xr, ↓Xs, ↓Xt, ↓Xu, ↓Xv, ↓Xw, ↓Xx, ↓Xy, gx0, gx1, gx2, gx3, ife_e, ife_n, ife_r, Xz, ife_ne', XA, XB, XC, XD, decide_true, decide_false, Bool.not_true, Bool.not_false]
    exact W.ret (k _ _ _ lk hch1 hc1)
end
end Go.Am

end

section
set_option linter.unusedSimpArgs false
set_option linter.unusedVariables false
/- Contracts: orbit sizes, the order of a chain, its members. -/
namespace Go.Am
section
variable {β X : Type} {f : AVal → AM β} {Q : AVal → AHeap → Prop} {R R' : AHeap → AVal → X → Prop} {m m2 : Md} {P P2 P3 P4 P5 P' S T : Nat → Prop} {e e2 : TypeId} {H H0 H1 H2 H' Hk Hl : AHeap} {v u x y z : AVal} {A B D s r : List Int} {L L' : List X} {LL : List (List Int)} {p q : List Int} {cs : List AVal} {id n k : Nat} {o o1 o2 : List Nat} {c c' : Ch}
def cnt (L : List (List Int)) : Nat := (L.filter fun r => r ≠ []).length
def osz (c : Ch) (i : Nat) : Nat := cnt (c.reps.getD i [])
def sizes (n : Nat) (c : Ch) : List Nat := (List.range n).map (osz c)
def zI (L : List Nat) : List Int := L.map fun (a : Nat) => (a : Int)
theorem zI_length {L : List Nat} : (zI L).length = L.length := by simp [zI]
theorem zI_get {L : List Nat} {i : Nat} (h : i < L.length) : (zI L)[i]'(by rw [zI_length]; exact h) = (L[i] : Int) := by simp [zI]
theorem sizes_length : (sizes n c).length = n := by simp [sizes]
theorem cnt_le : cnt LL ≤ LL.length := List.length_filter_le _ _
theorem cnt_snoc {r : List Int} : cnt (LL ++ [r]) = cnt LL + if r = [] then 0 else 1 := by
  unfold cnt
  rw [List.filter_append, List.length_append]
  by_cases h : r = []
  · rw [flt_nil h, if_pos h]; rfl
  · rw [flt_one h, if_neg h]; rfl
theorem c_orbitSizes (hp : Hp H) (h : ChainA o H x n c) (hc : CI n c) (hn : n ≤ 1000) (k : ∀ r H', Le H H' → Ints .own (Nw H) H' r (zI (sizes n c)) → Q r H') : W (s_sp_orbitSizes x) H Q := by
  obtain ⟨rv, gv, ro, go, rid, gid, h⟩ := h
  unfold s_sp_orbitSizes
  refine W.emp (R := RI) hp fun x1 H1 l1 h1 => ?_
  refine W.build 0 0 n (fun i => zI (sizes i c)) l1 (by simpa [zI, sizes] using h1) (Nat.zero_le _) (fun i H2 out _ hi f2 l2 h2 Q' kn => ?_) (fun H2 out f2 l2 h2 Q' kx => ?_) fun H2 out f2 l2 h2 => ?_
  · have h := h.le l2
    obtain ⟨hz, z, hz1, _, hir, hrow⟩ := h.row hc hi
    have hin : (i : Int) < n := by omega
    have hrl := hc.row i hi
    simp only [↓Xa, ↓Xb, ↓Xc, ↓Xd, ↓Xe, ↓Xf, ↓Xg, ↓Xh, ↓Xi, ↓Xj, ↓Xk, ↓Xl, ↓Xm, ↓Xn, ↓Xo, ↓Xp, ↓Xq, ↓Xr, ↓Xs, ↓Xt, ↓Xu, ↓Xv, ↓Xw, ↓Xx, ↓Xy, gx0, gx1, gx2, gx3, ife_e, ife_n, ife_r, Xz, ife_ne', XA, XB, XC, XD, decide_true, decide_false, Bool.not_true, Bool.not_false, ↓XF h.bx, ↓XE h.bx, ↓wr_f0 h.bx, hin]
    refine W.lq (fun q st Hk => Hk = H2 ∧ ∃ (j : Nat), q = n - j ∧ j ≤ n ∧ st = [i64 (cnt ((c.reps.getD i []).take j) : Int), i64 (j : Int)])
      (fun rr Hk => Hk = H2 ∧ rr = (.exit 2, [i64 (osz c i : Int)])) n ⟨rfl, 0, rfl, Nat.zero_le _, by simp [cnt]⟩ ?_ ?_
    · rintro q st Hk ⟨rfl, j, rfl, hj, rfl⟩ Q' kn kx
      by_cases hjn : j < n
      · have hjn' : (j : Int) < n := by omega
        have hjr : j < (c.reps.getD i []).length := by omega
        obtain ⟨w, hw, hwL, _⟩ := hrow.ld1 hjr
        have hwL : Ints .ro Any Hk w (c.reps.getD i [])[j] := hwL
        have hcl : cnt ((c.reps.getD i []).take j) ≤ j := Nat.le_trans cnt_le (by simp; omega)
        have es := List.take_succ_eq_append_getElem hjr
        have ec := cnt_snoc (LL := (c.reps.getD i []).take j) (r := (c.reps.getD i [])[j])
        rw [← es] at ec
        simp only [↓Xa, ↓Xb, ↓Xc, ↓Xd, ↓Xe, ↓Xf, ↓Xg, ↓Xh, ↓Xi, ↓Xj, ↓Xk, ↓Xl, ↓Xm, ↓Xn, ↓Xo, ↓Xp, ↓Xq, ↓Xr, ↓Xs, ↓Xt, ↓Xu, ↓Xv, ↓Xw, ↓Xx, ↓Xy, gx0, gx1, gx2, gx3, ife_e, ife_n, ife_r, Xz, ife_ne', XA, XB, XC, XD, decide_true, decide_false, Bool.not_true, Bool.not_false, ↓XF h.bx, ↓XE h.bx, ↓wr_f0 h.bx, hjn', ↓wr_f1 h.bx, ↓wr_ix h.rs hz, ↓wr_e hz1, ↓wr_ix hrow hjr, ↓wr_e hw, ↓XG hwL]
        by_cases hr : (c.reps.getD i [])[j] = []
        · have h0 : ¬(0 : Int) < ((c.reps.getD i [])[j].length : Int) := by rw [hr]; simp
          rw [if_pos hr] at ec
          simp only [h0, ↓Xa, ↓Xb, ↓Xc, ↓Xd, ↓Xe, ↓Xf, ↓Xg, ↓Xh, ↓Xi, ↓Xj, ↓Xk, ↓Xl, ↓Xm, ↓Xn, ↓Xo, ↓Xp, ↓Xq, ↓Xr, ↓Xs, ↓Xt, ↓Xu, ↓Xv, ↓Xw, ↓Xx, ↓Xy, gx0, gx1, gx2, gx3, ife_e, ife_n, ife_r, Xz, ife_ne', XA, XB, XC, XD, decide_true, decide_false, Bool.not_true, Bool.not_false, s_sp_boolToInt]
          rw [wr_add (by unfold In64; omega), wr_inc (by omega)]
          exact W.ret (kn (n - (j + 1)) _ _ (by omega) ⟨rfl, j + 1, rfl, hjn, by rw [ec, Int.add_zero]; rfl⟩)
        · have h0 : (0 : Int) < ((c.reps.getD i [])[j].length : Int) := by
            have : 0 < (c.reps.getD i [])[j].length := List.length_pos_iff.2 hr
            omega
          rw [if_neg hr] at ec
          simp only [h0, ↓Xa, ↓Xb, ↓Xc, ↓Xd, ↓Xe, ↓Xf, ↓Xg, ↓Xh, ↓Xi, ↓Xj, ↓Xk, ↓Xl, ↓Xm, ↓Xn, ↓Xo, ↓Xp, ↓Xq, ↓Xr, ↓Xs, ↓Xt, ↓Xu, ↓Xv, ↓Xw, ↓Xx, ↓Xy, gx0, gx1, gx2, gx3, ife_e, ife_n, ife_r, Xz, ife_ne', XA, XB, XC, XD, decide_true, decide_false, Bool.not_true, Bool.not_false, s_sp_boolToInt]
          rw [wr_inc (by omega), wr_inc (by omega)]
          exact W.ret (kn (n - (j + 1)) _ _ (by omega) ⟨rfl, j + 1, rfl, hjn, by rw [ec]⟩)
      · have hje : ¬(j : Int) < n := by omega
        simp only [↓Xa, ↓Xb, ↓Xc, ↓Xd, ↓Xe, ↓Xf, ↓Xg, ↓Xh, ↓Xi, ↓Xj, ↓Xk, ↓Xl, ↓Xm, ↓Xn, ↓Xo, ↓Xp, ↓Xq, ↓Xr, ↓Xs, ↓Xt, ↓Xu, ↓Xv, ↓Xw, ↓Xx, ↓Xy, gx0, gx1, gx2, gx3, ife_e, ife_n, ife_r, Xz, ife_ne', XA, XB, XC, XD, decide_true, decide_false, Bool.not_true, Bool.not_false, ↓XF h.bx, ↓XE h.bx, ↓wr_f0 h.bx, hje]
        refine W.ret (kx _ _ _ (by simp) ⟨rfl, ?_⟩)
        rw [List.take_of_length_le (by omega)]; rfl
    · rintro rr Hk ⟨rfl, rfl⟩
      simp only [↓Xa, ↓Xb, ↓Xc, ↓Xd, ↓Xe, ↓Xf, ↓Xg, ↓Xh, ↓Xi, ↓Xj, ↓Xk, ↓Xl, ↓Xm, ↓Xn, ↓Xo, ↓Xp, ↓Xq, ↓Xr, ↓Xs, ↓Xt, ↓Xu, ↓Xv, ↓Xw, ↓Xx, ↓Xy, gx0, gx1, gx2, gx3, ife_e, ife_n, ife_r, Xz, ife_ne', XA, XB, XC, XD, decide_true, decide_false, Bool.not_true, Bool.not_false]
      refine W.app1 (R := RI) l2.wf h2 stb_RI rfl (by decide) (by rw [zI_length, sizes_length]; omega) (fun id h => Nat.le_trans l2.nx h) rfl fun y H4 f4 h4 => ?_
      rw [wr_inc (by omega)]
      refine W.ret (kn _ _ f4 ?_)
      simpa [zI, sizes, List.range_succ] using h4
  · have h := h.le l2
    simp only [↓Xa, ↓Xb, ↓Xc, ↓Xd, ↓Xe, ↓Xf, ↓Xg, ↓Xh, ↓Xi, ↓Xj, ↓Xk, ↓Xl, ↓Xm, ↓Xn, ↓Xo, ↓Xp, ↓Xq, ↓Xr, ↓Xs, ↓Xt, ↓Xu, ↓Xv, ↓Xw, ↓Xx, ↓Xy, gx0, gx1, gx2, gx3, ife_e, ife_n, ife_r, Xz, ife_ne', XA, XB, XC, XD, decide_true, decide_false, Bool.not_true, Bool.not_false, ↓XF h.bx, ↓XE h.bx, ↓wr_f0 h.bx, Int.lt_irrefl]
    exact W.ret kx
  · simp only [↓Xa, ↓Xb, ↓Xc, ↓Xd, ↓Xe, ↓Xf, ↓Xg, ↓Xh, ↓Xi, ↓Xj, ↓Xk, ↓Xl, ↓Xm, ↓Xn, ↓Xo, ↓Xp, ↓Xq, ↓Xr, ↓Xs, ↓Xt, ↓Xu, ↓Xv, ↓Xw, ↓Xx, ↓Xy, gx0, gx1, gx2, gx3, ife_e, ife_n, ife_r, Xz, ife_ne', XA, XB, XC, XD, decide_true, decide_false, Bool.not_true, Bool.not_false]
    exact W.ret (k _ _ l2 h2)
def prd : List Nat → Nat
  | [] => 1
  | a :: L => a * prd L
theorem prd_app : ∀ {L M : List Nat}, prd (L ++ M) = prd L * prd M
  | [], M => by simp [prd]
  | a :: L, M => by simp only [List.cons_append, prd, prd_app, Nat.mul_assoc]
theorem prd_snoc {L : List Nat} {a : Nat} : prd (L ++ [a]) = prd L * a := by rw [prd_app]; simp [prd]
/-- The products fit. -/
def PB2 (L : List Nat) : Prop := ∀ i, prd (L.take i) ≤ 4000000000000000000 ∧ prd (L.drop i) ≤ 4000000000000000000
theorem c_chainOrder (hp : Hp H) (h : ChainA o H x n c) (hc : CI n c) (hn : n ≤ 1000) (hB : PB2 (sizes n c)) (k : ∀ H', Le H H' → Q (i64 (prd (sizes n c) : Int)) H') : W (s_sp_chainOrder x) H Q := by
  unfold s_sp_chainOrder
  refine W.bnd (c_orbitSizes hp h hc hn fun r H1 l1 h1 => ?_)
  have hl : (zI (sizes n c)).length = n := by rw [zI_length, sizes_length]
  refine W.lq (fun q st Hk => Hk = H1 ∧ ∃ (j : Nat), q = n - j ∧ j ≤ n ∧ st = [i64 (prd ((sizes n c).take j) : Int), i64 (j : Int)])
    (fun rr Hk => Hk = H1 ∧ rr = (.exit 0, [i64 (prd (sizes n c) : Int)])) n ⟨rfl, 0, rfl, Nat.zero_le _, by simp [prd]⟩ ?_ ?_
  · rintro q st Hk ⟨rfl, j, rfl, hj, rfl⟩ Q' kn kx
    by_cases hjn : j < n
    · have hjn' : (j : Int) < (zI (sizes n c)).length := by omega
      have hjl : j < (zI (sizes n c)).length := by omega
      have hjs : j < (sizes n c).length := by rw [sizes_length]; exact hjn
      have es := List.take_succ_eq_append_getElem hjs
      have e1 := prd_snoc (L := (sizes n c).take j) (a := (sizes n c)[j])
      rw [← es] at e1
      have b1 := (hB (j + 1)).1
      simp only [↓Xa, ↓Xb, ↓Xc, ↓Xd, ↓Xe, ↓Xf, ↓Xg, ↓Xh, ↓Xi, ↓Xj, ↓Xk, ↓Xl, ↓Xm, ↓Xn, ↓Xo, ↓Xp, ↓Xq, ↓Xr, ↓Xs, ↓Xt, ↓Xu, ↓Xv, ↓Xw, ↓Xx, ↓Xy, gx0, gx1, gx2, gx3, ife_e, ife_n, ife_r, Xz, ife_ne', XA, XB, XC, XD, decide_true, decide_false, Bool.not_true, Bool.not_false, ↓XG h1, hjn', ↓wr_ix h1 hjl, ↓wr_ldI h1 hjl, zI_get hjs]
      rw [wr_mul (by unfold In64; rw [← Int.natCast_mul, ← e1]; omega), wr_inc (by omega)]
      exact W.ret (kn (n - (j + 1)) _ _ (by omega) ⟨rfl, j + 1, rfl, hjn, by rw [e1]; simp⟩)
    · have hjn' : ¬(j : Int) < (zI (sizes n c)).length := by omega
      simp only [↓Xa, ↓Xb, ↓Xc, ↓Xd, ↓Xe, ↓Xf, ↓Xg, ↓Xh, ↓Xi, ↓Xj, ↓Xk, ↓Xl, ↓Xm, ↓Xn, ↓Xo, ↓Xp, ↓Xq, ↓Xr, ↓Xs, ↓Xt, ↓Xu, ↓Xv, ↓Xw, ↓Xx, ↓Xy, gx0, gx1, gx2, gx3, ife_e, ife_n, ife_r, Xz, ife_ne', XA, XB, XC, XD, decide_true, decide_false, Bool.not_true, Bool.not_false, ↓XG h1, hjn']
      refine W.ret (kx _ _ _ (by simp) ⟨rfl, ?_⟩)
      rw [List.take_of_length_le (by rw [sizes_length]; omega)]
  · rintro rr Hk ⟨rfl, rfl⟩
    simp only [↓Xa, ↓Xb, ↓Xc, ↓Xd, ↓Xe, ↓Xf, ↓Xg, ↓Xh, ↓Xi, ↓Xj, ↓Xk, ↓Xl, ↓Xm, ↓Xn, ↓Xo, ↓Xp, ↓Xq, ↓Xr, ↓Xs, ↓Xt, ↓Xu, ↓Xv, ↓Xw, ↓Xx, ↓Xy, gx0, gx1, gx2, gx3, ife_e, ife_n, ife_r, Xz, ife_ne', XA, XB, XC, XD, decide_true, decide_false, Bool.not_true, Bool.not_false]
    exact W.ret (k _ l1)
/-- How many members each choice of a level stands for. -/
def mpc (n : Nat) (c : Ch) : List Nat := (List.range n).map fun i => prd ((sizes n c).drop (i + 1))
theorem c_membersPerChoice (hp : Hp H) (h : ChainA o H x n c) (hc : CI n c) (hn : n ≤ 1000) (hB : PB2 (sizes n c)) (k : ∀ r H', Le H H' → Ints .own (Nw H) H' r (zI (mpc n c)) → Q r H') : W (s_sp_membersPerChoice x) H Q := by
  unfold s_sp_membersPerChoice
  refine W.bnd (c_orbitSizes hp h hc hn fun r H1 l1 h1 => ?_)
  have hl : (zI (sizes n c)).length = n := by rw [zI_length, sizes_length]
  simp only [↓XG h1]
  refine W.mk (R := RI) (a := 0) l1.wf rfl (by decide) (by omega) (fun _ _ => rfl) fun x3 H2 l2 h2 => ?_
  have h1 := (h1.mono (P' := (· < H1.next)) fun id hid _ => hid).leI l2
  simp only [↓XG h1]
  rw [wr_sub (by unfold In64; omega)]
  rw [hl] at h2 ⊢
  have ml : (mpc n c).length = n := by simp [mpc]
  refine W.lq (fun q st Hk => Fr (Bk (Nw H1) t_int64 H2) H2 Hk ∧ ∃ (j : Nat) (M : List Int), q = j ∧ j ≤ n ∧ st = [i64 (prd ((sizes n c).drop j) : Int), i64 ((j : Int) - 1)] ∧ M.length = n ∧ Ints .own (Nw H1) Hk x3 M ∧ M.drop j = (zI (mpc n c)).drop j)
    (fun rr Hk => Fr (Bk (Nw H1) t_int64 H2) H2 Hk ∧ rr = (.exit 0, []) ∧ Ints .own (Nw H1) Hk x3 (zI (mpc n c))) n ⟨(Le.refl l2.wf).bk, n, _, rfl, Nat.le_refl _, ?_, by simp, h2, ?_⟩ ?_ ?_
  · rw [List.drop_of_length_le (by rw [sizes_length]; exact Nat.le_refl _)]; rfl
  · rw [List.drop_of_length_le (by simp), List.drop_of_length_le (by rw [zI_length, ml]; exact Nat.le_refl _)]
  · rintro j st Hk ⟨fk, j', M, rfl, hj, rfl, hM, h3, hd⟩ Q' kn kx
    cases j with
    | zero =>
      have h0 : ¬(0 : Int) ≤ ((0 : Nat) : Int) - 1 := by omega
      simp only [h0, ↓Xa, ↓Xb, ↓Xc, ↓Xd, ↓Xe, ↓Xf, ↓Xg, ↓Xh, ↓Xi, ↓Xj, ↓Xk, ↓Xl, ↓Xm, ↓Xn, ↓Xo, ↓Xp, ↓Xq, ↓Xr, ↓Xs, ↓Xt, ↓Xu, ↓Xv, ↓Xw, ↓Xx, ↓Xy, gx0, gx1, gx2, gx3, ife_e, ife_n, ife_r, Xz, ife_ne', XA, XB, XC, XD, decide_true, decide_false, Bool.not_true, Bool.not_false]
      exact W.ret (kx _ _ _ (by simp) ⟨fk, rfl, (show M = zI (mpc n c) by simpa using hd) ▸ h3⟩)
    | succ j =>
      have h0 : (0 : Int) ≤ ((j + 1 : Nat) : Int) - 1 := by omega
      have ej : ((j + 1 : Nat) : Int) - 1 = (j : Int) := by omega
      have hjM : j < M.length := by omega
      have hjs : j < (sizes n c).length := by rw [sizes_length]; omega
      have hjz : j < (zI (sizes n c)).length := by omega
      simp only [h0, ↓Xa, ↓Xb, ↓Xc, ↓Xd, ↓Xe, ↓Xf, ↓Xg, ↓Xh, ↓Xi, ↓Xj, ↓Xk, ↓Xl, ↓Xm, ↓Xn, ↓Xo, ↓Xp, ↓Xq, ↓Xr, ↓Xs, ↓Xt, ↓Xu, ↓Xv, ↓Xw, ↓Xx, ↓Xy, gx0, gx1, gx2, gx3, ife_e, ife_n, ife_r, Xz, ife_ne', XA, XB, XC, XD, decide_true, decide_false, Bool.not_true, Bool.not_false]
      simp only [ej, ↓wr_ix h3 hjM]
      refine W.st (R := RI) (a := (prd ((sizes n c).drop (j + 1)) : Int)) fk.wf h3 (by simp) hjM rfl (fun H' f v x hx => hx) rfl fun H4 f4 h4 => ?_
      have h1 := (h1.frI fk fun id c fz hid hp _ hb => absurd hp (by have := hb.1; omega)).frI f4 fun id c fz hid hp _ hb => absurd hp (by have := hb.1; omega)
      have es : (sizes n c).drop j = (sizes n c)[j] :: (sizes n c).drop (j + 1) := List.drop_eq_getElem_cons hjs
      have e1 : prd ((sizes n c).drop j) = prd ((sizes n c).drop (j + 1)) * (sizes n c)[j] := by rw [es, prd, Nat.mul_comm]
      have b1 := (hB j).2
      simp only [↓wr_ix h1 hjz, ↓wr_ldI h1 hjz, zI_get hjs]
      rw [wr_mul (by unfold In64; rw [← Int.natCast_mul, ← e1]; omega), wr_sub (by unfold In64; omega)]
      refine W.ret (kn j _ _ (by omega) ⟨fk.bk f4, j, _, rfl, by omega, by rw [e1]; simp, by simpa using hM, h4, ?_⟩)
      have hjm : j < (zI (mpc n c)).length := by rw [zI_length, ml]; omega
      rw [List.drop_eq_getElem_cons (by simpa using hjM), List.drop_eq_getElem_cons hjm, List.getElem_set_self, List.drop_set_of_lt (by omega), hd]
      congr 1
      rw [zI_get (by rw [ml]; omega)]
      simp [mpc]
  · rintro rr Hk ⟨fk, rfl, h3⟩
    simp only [↓Xa, ↓Xb, ↓Xc, ↓Xd, ↓Xe, ↓Xf, ↓Xg, ↓Xh, ↓Xi, ↓Xj, ↓Xk, ↓Xl, ↓Xm, ↓Xn, ↓Xo, ↓Xp, ↓Xq, ↓Xr, ↓Xs, ↓Xt, ↓Xu, ↓Xv, ↓Xw, ↓Xx, ↓Xy, gx0, gx1, gx2, gx3, ife_e, ife_n, ife_r, Xz, ife_ne', XA, XB, XC, XD, decide_true, decide_false, Bool.not_true, Bool.not_false]
    exact W.ret (k _ _ (Le.own (l1.tr l2) fk fun id h => Nat.le_trans l1.nx h.1) (h3.mono fun id _ h => Nat.le_trans l1.nx h))
/-- A value is inserted. -/
theorem c_insertSorted {d : Int} (hp : Hp H) (ha : Ints .ro P H v A) (hd : d ∉ A) (hA : A.length ≤ 1000) (k : ∀ r H' A', Le H H' → Ints .ro Any H' r A' → A'.length = A.length + 1 → (∀ x ∈ A', x = d ∨ x ∈ A) → Q r H') : W (s_sp_insertSorted v (i64 d)) H Q := by
  unfold s_sp_insertSorted
  have fin : ∀ (i : Nat), i ≤ A.length → W (bnd (lenA v) fun x13 => bnd (abin .lss (i64 (i : Int)) x13) fun x14 => bnd (gd x14 true (ret v)) fun x15 => bnd (gd x14 true (ret (i64 (i : Int)))) fun x16 => bnd (gd x14 true (ixa 1 x15 x16)) fun x17 =>
      bnd (gd x14 true (ld1 x17)) fun x18 => bnd (gd x14 true (ret (i64 d))) fun x19 => bnd (gd x14 true (abin .eql x18 x19)) fun x20 => bnd (pick3 x14 x20 (.bool false)) fun x21 => br x21 (ret v)
        (bnd (slS 1 v none (some (i64 (i : Int)))) fun x22 => bnd (s_sp_copyInts x22) fun x23 => bnd (bnd (bnd (cell1 (i64 d)) fun y24 => ret [y24]) fun cs => allocS none t_int64 1 1 cs) fun x25 =>
          bnd (appS t_int64 1 8 x23 x25) fun x26 => bnd (slS 1 v (some (i64 (i : Int))) none) fun x27 => bnd (appS t_int64 1 8 x26 x27) fun x28 => ret x28)) H Q := fun i hi => by
    have rest : W (bnd (slS 1 v none (some (i64 (i : Int)))) fun x22 => bnd (s_sp_copyInts x22) fun x23 => bnd (bnd (bnd (cell1 (i64 d)) fun y24 => ret [y24]) fun cs => allocS none t_int64 1 1 cs) fun x25 =>
          bnd (appS t_int64 1 8 x23 x25) fun x26 => bnd (slS 1 v (some (i64 (i : Int))) none) fun x27 => bnd (appS t_int64 1 8 x26 x27) fun x28 => ret x28) H Q := by
      obtain ⟨w, e1, hw⟩ := ha.sl (lo := none) (hi := some (i64 (i : Int))) (bnds_hi (k := .i64) hi) (by simp) ⟨Nat.zero_le _, hi⟩
      obtain ⟨w2, e2, hw2⟩ := ha.sl (lo := some (i64 (i : Int))) (hi := none) (bnds_lo (k := .i64) hi) (by simp) ⟨hi, Nat.le_refl _⟩
      simp only [↓wr_p e1]
      refine W.bnd (c_copyInts hp hw fun w3 H1 l1 h3 => ?_)
      have hl3 : ((A.take i).drop 0).length = i := by simp; omega
      refine W.app1 (R := RI) l1.wf h3 stb_RI rfl (by decide) (by rw [hl3]; omega) (fun id h => Nat.le_trans l1.nx h) rfl fun y H2 f2 h2 => ?_
      simp only [↓wr_p e2]
      have l2 : Le H H2 := Le.own l1 f2 fun id h => h.1
      refine W.app (R := RI) f2.wf h2 (hw2.leI l2) (by decide) (by simp; omega) (fun id h => Nat.le_trans l2.nx h) (fun _ _ _ _ h => h) fun y2 H3 f3 h3 => ?_
      refine W.ret (k _ _ _ (Le.own l2 f3 fun id h => h.1) h3.ro.any (by simp; omega) fun x hx => ?_)
      simp only [List.drop_zero, List.mem_append, List.mem_singleton] at hx
      rcases hx with (h | h) | h
      · exact .inr (List.mem_of_mem_take h)
      · exact .inl h
      · exact .inr (List.mem_of_mem_take (List.mem_of_mem_drop h))
    by_cases hlt : i < A.length
    · have hlt' : (i : Int) < A.length := by omega
      have hne : ¬A[i] = d := fun h => hd (h ▸ List.getElem_mem hlt)
      simp only [↓XG ha, hlt', ↓Xa, ↓Xb, ↓Xc, ↓Xd, ↓Xe, ↓Xf, ↓Xg, ↓Xh, ↓Xi, ↓Xj, ↓Xk, ↓Xl, ↓Xm, ↓Xn, ↓Xo, ↓Xp, ↓Xq, ↓Xr, ↓Xs, ↓Xt, ↓Xu, ↓Xv, ↓Xw, ↓Xx, ↓Xy, gx0, gx1, gx2, gx3, ife_e, ife_n, ife_r, Xz, ife_ne', XA, XB, XC, XD, decide_true, decide_false, Bool.not_true, Bool.not_false, ↓wr_ix ha hlt, ↓wr_ldI ha hlt, hne]
      exact rest
    · have hlt' : ¬(i : Int) < A.length := by omega
      simp only [↓XG ha, hlt', ↓Xa, ↓Xb, ↓Xc, ↓Xd, ↓Xe, ↓Xf, ↓Xg, ↓Xh, ↓Xi, ↓Xj, ↓Xk, ↓Xl, ↓Xm, ↓Xn, ↓Xo, ↓Xp, ↓Xq, ↓Xr, ↓Xs, ↓Xt, ↓Xu, ↓Xv, ↓Xw, ↓Xx, ↓Xy, gx0, gx1, gx2, gx3, ife_e, ife_n, ife_r, Xz, ife_ne', XA, XB, XC, XD, decide_true, decide_false, Bool.not_true, Bool.not_false]
      exact rest
  refine W.lq (fun q st Hk => Hk = H ∧ ∃ i : Nat, q = A.length - i ∧ i ≤ A.length ∧ st = [i64 (i : Int)]) (fun rr Hk => Hk = H ∧ ∃ i : Nat, i ≤ A.length ∧ rr = (.exit 0, [i64 (i : Int)])) A.length ⟨rfl, 0, rfl, Nat.zero_le _, rfl⟩ ?_ ?_
  · rintro q st Hk ⟨rfl, i, rfl, hi, rfl⟩ Q' kn kx
    by_cases hlt : i < A.length
    · have hlt' : (i : Int) < A.length := by omega
      simp only [↓XG ha, hlt', ↓Xa, ↓Xb, ↓Xc, ↓Xd, ↓Xe, ↓Xf, ↓Xg, ↓Xh, ↓Xi, ↓Xj, ↓Xk, ↓Xl, ↓Xm, ↓Xn, ↓Xo, ↓Xp, ↓Xq, ↓Xr, ↓Xs, ↓Xt, ↓Xu, ↓Xv, ↓Xw, ↓Xx, ↓Xy, gx0, gx1, gx2, gx3, ife_e, ife_n, ife_r, Xz, ife_ne', XA, XB, XC, XD, decide_true, decide_false, Bool.not_true, Bool.not_false, ↓wr_ix ha hlt, ↓wr_ldI ha hlt]
      by_cases h2 : A[i] < d
      · simp only [h2, ↓Xa, ↓Xb, ↓Xc, ↓Xd, ↓Xe, ↓Xf, ↓Xg, ↓Xh, ↓Xi, ↓Xj, ↓Xk, ↓Xl, ↓Xm, ↓Xn, ↓Xo, ↓Xp, ↓Xq, ↓Xr, ↓Xs, ↓Xt, ↓Xu, ↓Xv, ↓Xw, ↓Xx, ↓Xy, gx0, gx1, gx2, gx3, ife_e, ife_n, ife_r, Xz, ife_ne', XA, XB, XC, XD, decide_true, decide_false, Bool.not_true, Bool.not_false]
        rw [wr_inc (by omega)]
        exact W.ret (kn (A.length - (i + 1)) _ _ (by omega) ⟨rfl, i + 1, rfl, hlt, rfl⟩)
      · simp only [h2, ↓Xa, ↓Xb, ↓Xc, ↓Xd, ↓Xe, ↓Xf, ↓Xg, ↓Xh, ↓Xi, ↓Xj, ↓Xk, ↓Xl, ↓Xm, ↓Xn, ↓Xo, ↓Xp, ↓Xq, ↓Xr, ↓Xs, ↓Xt, ↓Xu, ↓Xv, ↓Xw, ↓Xx, ↓Xy, gx0, gx1, gx2, gx3, ife_e, ife_n, ife_r, Xz, ife_ne', XA, XB, XC, XD, decide_true, decide_false, Bool.not_true, Bool.not_false]
        exact W.ret (kx _ _ _ (by simp) ⟨rfl, i, hi, rfl⟩)
    · have hlt' : ¬(i : Int) < A.length := by omega
      simp only [↓XG ha, hlt', ↓Xa, ↓Xb, ↓Xc, ↓Xd, ↓Xe, ↓Xf, ↓Xg, ↓Xh, ↓Xi, ↓Xj, ↓Xk, ↓Xl, ↓Xm, ↓Xn, ↓Xo, ↓Xp, ↓Xq, ↓Xr, ↓Xs, ↓Xt, ↓Xu, ↓Xv, ↓Xw, ↓Xx, ↓Xy, gx0, gx1, gx2, gx3, ife_e, ife_n, ife_r, Xz, ife_ne', XA, XB, XC, XD, decide_true, decide_false, Bool.not_true, Bool.not_false]
      exact W.ret (kx _ _ _ (by simp) ⟨rfl, i, hi, rfl⟩)
  · rintro rr Hk ⟨rfl, i, hi, rfl⟩
    simp only [↓Xa, ↓Xb, ↓Xc, ↓Xd, ↓Xe, ↓Xf, ↓Xg, ↓Xh, ↓Xi, ↓Xj, ↓Xk, ↓Xl, ↓Xm, ↓Xn, ↓Xo, ↓Xp, ↓Xq, ↓Xr, ↓Xs, ↓Xt, ↓Xu, ↓Xv, ↓Xw, ↓Xx, ↓Xy, gx0, gx1, gx2, gx3, ife_e, ife_n, ife_r, Xz, ife_ne', XA, XB, XC, XD, decide_true, decide_false, Bool.not_true, Bool.not_false]
    exact fin i hi
end
end Go.Am

end

section
set_option linter.unusedSimpArgs false
set_option linter.unusedVariables false
/- Contracts: the members of a chain. -/
namespace Go.Am
section
variable {β X : Type} {f : AVal → AM β} {Q : AVal → AHeap → Prop} {R R' : AHeap → AVal → X → Prop} {m m2 : Md} {P P2 P3 P4 P5 P' S T : Nat → Prop} {e e2 : TypeId} {H H0 H1 H2 H' Hk Hl : AHeap} {v u x y z : AVal} {A B D s r : List Int} {L L' : List X} {LL : List (List Int)} {p q : List Int} {cs : List AVal} {id n k : Nat} {o o1 o2 : List Nat} {c c' : Ch} {I : List Int → Prop}
theorem c_choicesAt (hp : Hp H) (h : ChainA o H x n c) (hc : CI n c) (hn : n ≤ 1000) (hk : k < n) (hu : Ints .ro P H u q) (hq : Pm n q)
    (kk : ∀ r H' A, Le H H' → Ints .ro Any H' r A → A.length = osz c k → (∀ a ∈ A, ∃ y : Nat, ∃ hy : y < q.length, c.rep k y ≠ [] ∧ a = q[y]) → Q r H') : W (s_sp_choicesAt x (i64 (k : Int)) u) H Q := by
  obtain ⟨rv, gv, ro, go, rid, gid, h⟩ := h
  unfold s_sp_choicesAt
  refine W.emp (R := RI) hp fun x1 H1 l1 h1 => ?_
  have hrl := hc.row k hk
  refine W.lq (fun qq st Hk => Le H Hk ∧ ∃ (i : Nat) (out : AVal) (A : List Int), qq = n - i ∧ i ≤ n ∧ st = [out, i64 (i : Int)] ∧ Ints .ro Any Hk out A ∧ A.length = cnt ((c.reps.getD k []).take i) ∧ ∀ a ∈ A, ∃ y : Nat, ∃ hy : y < q.length, y < i ∧ c.rep k y ≠ [] ∧ a = q[y])
    (fun rr Hk => Le H Hk ∧ ∃ (out : AVal) (A : List Int), rr = (.exit 0, [out]) ∧ Ints .ro Any Hk out A ∧ A.length = osz c k ∧ ∀ a ∈ A, ∃ y : Nat, ∃ hy : y < q.length, c.rep k y ≠ [] ∧ a = q[y]) n
    ⟨l1, 0, x1, [], rfl, Nat.zero_le _, rfl, h1.ro.any, by simp [cnt], by simp⟩ ?_ ?_
  · rintro qq st Hk ⟨lk, i, out, A, rfl, hi, rfl, hA, hlen, hmem⟩ Q' kn kx
    have h := h.le lk
    by_cases hin : i < n
    · have hin' : (i : Int) < n := by omega
      obtain ⟨hz, z, hz1, _, hir, hrow⟩ := h.row hc hk
      have hjr : i < (c.reps.getD k []).length := by omega
      have hiq : i < q.length := by rw [hq.1]; exact hin
      obtain ⟨w, hw, hwL, _⟩ := hrow.ld1 hjr
      have hwL : Ints .ro Any Hk w (c.reps.getD k [])[i] := hwL
      have hrep : c.rep k i = (c.reps.getD k [])[i] := by rw [Ch.rep, getD_get hjr]
      rw [← hrep] at hwL
      have hcl : cnt ((c.reps.getD k []).take i) ≤ i := Nat.le_trans cnt_le (by simp; omega)
      have es := List.take_succ_eq_append_getElem hjr
      have ec := cnt_snoc (LL := (c.reps.getD k []).take i) (r := (c.reps.getD k [])[i])
      rw [← es, ← hrep] at ec
      have hu := hu.leI lk
      simp only [↓Xa, ↓Xb, ↓Xc, ↓Xd, ↓Xe, ↓Xf, ↓Xg, ↓Xh, ↓Xi, ↓Xj, ↓Xk, ↓Xl, ↓Xm, ↓Xn, ↓Xo, ↓Xp, ↓Xq, ↓Xr, ↓Xs, ↓Xt, ↓Xu, ↓Xv, ↓Xw, ↓Xx, ↓Xy, gx0, gx1, gx2, gx3, ife_e, ife_n, ife_r, Xz, ife_ne', XA, XB, XC, XD, decide_true, decide_false, Bool.not_true, Bool.not_false, ↓XF h.bx, ↓XE h.bx, ↓wr_f0 h.bx, hin', ↓wr_f1 h.bx, ↓wr_ix h.rs hz, ↓wr_e hz1, ↓wr_ix hrow hjr, ↓wr_e hw, ↓XG hwL]
      by_cases hr : c.rep k i = []
      · have h0 : ¬(0 : Int) < ((c.rep k i).length : Int) := by rw [hr]; simp
        rw [if_pos hr] at ec
        simp only [h0, ↓Xa, ↓Xb, ↓Xc, ↓Xd, ↓Xe, ↓Xf, ↓Xg, ↓Xh, ↓Xi, ↓Xj, ↓Xk, ↓Xl, ↓Xm, ↓Xn, ↓Xo, ↓Xp, ↓Xq, ↓Xr, ↓Xs, ↓Xt, ↓Xu, ↓Xv, ↓Xw, ↓Xx, ↓Xy, gx0, gx1, gx2, gx3, ife_e, ife_n, ife_r, Xz, ife_ne', XA, XB, XC, XD, decide_true, decide_false, Bool.not_true, Bool.not_false, ↓wr_rx]
        rw [wr_inc (by omega)]
        exact W.ret (kn (n - (i + 1)) _ _ (by omega) ⟨lk, i + 1, out, A, rfl, hin, rfl, hA, by rw [ec]; exact hlen, fun a ha => by
          obtain ⟨y, hy, h1, h2⟩ := hmem a ha
          exact ⟨y, hy, by omega, h2⟩⟩)
      · have h0 : (0 : Int) < ((c.rep k i).length : Int) := by
          have : 0 < (c.rep k i).length := List.length_pos_iff.2 hr
          omega
        rw [if_neg hr] at ec
        simp only [h0, ↓Xa, ↓Xb, ↓Xc, ↓Xd, ↓Xe, ↓Xf, ↓Xg, ↓Xh, ↓Xi, ↓Xj, ↓Xk, ↓Xl, ↓Xm, ↓Xn, ↓Xo, ↓Xp, ↓Xq, ↓Xr, ↓Xs, ↓Xt, ↓Xu, ↓Xv, ↓Xw, ↓Xx, ↓Xy, gx0, gx1, gx2, gx3, ife_e, ife_n, ife_r, Xz, ife_ne', XA, XB, XC, XD, decide_true, decide_false, Bool.not_true, Bool.not_false, bnd_as, ↓wr_ix hu hiq, ↓wr_ldI hu hiq]
        refine W.bnd (c_insertSorted lk.wf hA (fun hm => ?_) (by omega) fun r H2 A' l2 hr2 e1 e2 => ?_)
        · obtain ⟨y, hy, h1, h2, h3⟩ := hmem _ hm
          have := nodup_inj hq.2.2 hiq hy h3
          omega
        · simp only [↓Xa, ↓Xb, ↓Xc, ↓Xd, ↓Xe, ↓Xf, ↓Xg, ↓Xh, ↓Xi, ↓Xj, ↓Xk, ↓Xl, ↓Xm, ↓Xn, ↓Xo, ↓Xp, ↓Xq, ↓Xr, ↓Xs, ↓Xt, ↓Xu, ↓Xv, ↓Xw, ↓Xx, ↓Xy, gx0, gx1, gx2, gx3, ife_e, ife_n, ife_r, Xz, ife_ne', XA, XB, XC, XD, decide_true, decide_false, Bool.not_true, Bool.not_false, ↓wr_rx]
          rw [wr_inc (by omega)]
          refine W.ret (kn (n - (i + 1)) _ _ (by omega) ⟨lk.tr l2, i + 1, r, A', rfl, hin, rfl, hr2, by rw [ec, e1, hlen], fun a ha => ?_⟩)
          rcases e2 a ha with h | h
          · exact ⟨i, hiq, by omega, hr, h⟩
          · obtain ⟨y, hy, h1, h2⟩ := hmem a h
            exact ⟨y, hy, by omega, h2⟩
    · have hie : ¬(i : Int) < n := by omega
      simp only [↓Xa, ↓Xb, ↓Xc, ↓Xd, ↓Xe, ↓Xf, ↓Xg, ↓Xh, ↓Xi, ↓Xj, ↓Xk, ↓Xl, ↓Xm, ↓Xn, ↓Xo, ↓Xp, ↓Xq, ↓Xr, ↓Xs, ↓Xt, ↓Xu, ↓Xv, ↓Xw, ↓Xx, ↓Xy, gx0, gx1, gx2, gx3, ife_e, ife_n, ife_r, Xz, ife_ne', XA, XB, XC, XD, decide_true, decide_false, Bool.not_true, Bool.not_false, ↓XF h.bx, ↓XE h.bx, ↓wr_f0 h.bx, hie]
      refine W.ret (kx _ _ _ (by simp) ⟨lk, out, A, rfl, hA, ?_, fun a ha => ?_⟩)
      · rw [hlen, List.take_of_length_le (by omega)]; rfl
      · obtain ⟨y, hy, h1, h2⟩ := hmem a ha
        exact ⟨y, hy, h2⟩
  · rintro rr Hk ⟨lk, out, A, rfl, h1, h2, h3⟩
    simp only [↓Xa, ↓Xb, ↓Xc, ↓Xd, ↓Xe, ↓Xf, ↓Xg, ↓Xh, ↓Xi, ↓Xj, ↓Xk, ↓Xl, ↓Xm, ↓Xn, ↓Xo, ↓Xp, ↓Xq, ↓Xr, ↓Xs, ↓Xt, ↓Xu, ↓Xv, ↓Xw, ↓Xx, ↓Xy, gx0, gx1, gx2, gx3, ife_e, ife_n, ife_r, Xz, ife_ne', XA, XB, XC, XD, decide_true, decide_false, Bool.not_true, Bool.not_false]
    exact W.ret (kk _ _ _ lk h1 h2 h3)
theorem Seq.ld1_le (h : Seq R m P e H v L) (l : Le H H') {i : Nat} (hi : i < L.length) (hx : Am.ld1 (elemP v i) H = some (x, H)) : Am.ld1 (elemP v i) H' = some (x, H') := by
  cases h with
  | nil => exact absurd hi (Nat.not_lt_zero _)
  | mk id off fz c L hP hid hg hlc hb hm hR =>
    have hg' : H'.get id = some (.cells c e fz) := (l.keep id hid (fun h => h)).trans hg
    obtain ⟨w, h1, _, _⟩ := hR i hi
    have e1 : ∀ K : AHeap, K.get id = some (.cells c e fz) → Am.ld1 (elemP (.slice id off L.length 1) i) K = some (w, K) := fun K hK => by
      simp [Am.ld1, elemP, rd, hK, h1]
    rw [e1 H hg] at hx
    cases hx
    exact e1 H' hg'
theorem c_withEntry {yy : Nat} (hp : Hp H) (h : ChainA o H x n c) (hc : CI n c) (hn : n ≤ 1000) (hk : k < n) (hu : Ints .ro P H u q) (hq : Pm n q) (hy : yy < q.length) (hr : c.rep k yy ≠ [])
    (kk : ∀ r H', Le H H' → Ints .own (Nw H) H' r (comp (c.rep k yy) q) → Q r H') : W (s_sp_withEntry x (i64 (k : Int)) u (i64 q[yy])) H Q := by
  obtain ⟨rv, gv, ro, go, rid, gid, h⟩ := h
  unfold s_sp_withEntry
  simp only [↓Xy]
  have hrp := hc.rep k yy hr
  refine W.bnd (c_inverse hp hu hq.dist fun x2 H1 l1 h2 => ?_)
  have h' := h.le l1
  obtain ⟨hz, z, hz1, _, hir, hrow⟩ := h.row hc hk
  obtain ⟨hz', z', hz1', _, hir', hrow'⟩ := h'.row hc hk
  have hzz : z' = z := by
    have := h.rs.ld1_le l1 hz hz1
    rw [hz1'] at this; cases this; rfl
  subst hzz
  obtain ⟨a, ha, hqa, _⟩ := hq.at (i := yy) (by rw [← hq.1]; exact hy)
  have hal : a < (inv q).length := by rw [inv_length, hq.1]; exact ha
  have hiv : (inv q)[a] = (yy : Int) := by
    have := inv_left hq.dist hy
    rw [getD_get hy, hqa] at this
    rw [Int.toNat_natCast, getD_get hal] at this
    exact this
  have hyn : yy < (c.reps.getD k []).length := by rw [hc.row k hk, ← hq.1]; exact hy
  obtain ⟨w, hw, hwL, _⟩ := hrow'.ld1 hyn
  have hwL : Ints .ro Any H1 w (c.reps.getD k [])[yy] := hwL
  have hrep : c.rep k yy = (c.reps.getD k [])[yy] := by rw [Ch.rep, getD_get hyn]
  rw [← hrep] at hwL
  simp only [↓XF h'.bx, ↓XE h'.bx, ↓wr_f1 h'.bx]
  refine W.agn1 (h.bx.ld1 rfl) ?_
  simp only [↓wr_ix h'.rs hz', ↓wr_e hz1']
  refine W.agn1 hz1 ?_
  simp only [hqa, ↓wr_ix h2 hal, ↓wr_ldI h2 hal, hiv, ↓wr_ix hrow' hyn, ↓wr_e hw]
  refine W.bnd (c_compose l1.wf hwL (hu.leI l1) (fun b hb => by have := hrp.2.1 b hb; rw [hq.1]; omega) fun r H2 l2 h3 => ?_)
  exact W.ret (kk _ _ (l1.tr l2) (h3.mono fun id _ h => Nat.le_trans l1.nx h))
theorem rem_nat {Q : β → AHeap → Prop} {f : AVal → AM β} {a b : Nat} (hb : 0 < b) : W (bnd (abin .rem (i64 (a : Int)) (i64 (b : Int))) f) H Q ↔ W (f (i64 ((a % b : Nat) : Int))) H Q := by
  rw [wr_rem (by omega)]
  have : Int.tmod (a : Int) (b : Int) = ((a % b : Nat) : Int) := by rw [Int.tmod_eq_emod_of_nonneg (by omega)]; omega
  rw [this]
theorem quo_nat {Q : β → AHeap → Prop} {f : AVal → AM β} {a b : Nat} (hb : 0 < b) (ha : a ≤ 9223372036854775807) : W (bnd (abin .quo (i64 (a : Int)) (i64 (b : Int))) f) H Q ↔ W (f (i64 ((a / b : Nat) : Int))) H Q := by
  rw [wr_quo (by omega)]
  have : Int.tdiv (a : Int) (b : Int) = ((a / b : Nat) : Int) := by rw [Int.tdiv_eq_ediv_of_nonneg (by omega)]; rfl
  rw [this, wrap_in (by have := Nat.div_le_self a b; generalize a / b = d at *; unfold In64; omega)]
/-- A member of the chain: any property that the representatives keep. -/
theorem c_MemberAt {a : Nat} (hp : Hp H) (hg : Gens n LL) (hl : Lists .ro P P2 H v LL) (hc : pBuild n LL = some c) (hB : PB2 (sizes n c)) (ha : a < prd (sizes n c)) (hI0 : I (idn n)) (hI : ∀ i y q, i < n → Pm n q → c.rep i y ≠ [] → I q → I (comp (c.rep i y) q))
    (kk : ∀ r H' q, Le H H' → Ints .ro Any H' r q → Pm n q → I q → Q (.tuple [r, .bool true]) H') : W (s_sp_MemberAt (i64 (n : Int)) v (i64 (a : Int))) H Q := by
  have hn1 : 1 ≤ n := by have := hg.1.1.1; omega
  have hn2 : n ≤ 20 := by have := hg.1.1.2; omega
  have hL : ∀ g ∈ LL, Pm n g := fun g hgm => by
    obtain ⟨i, hi, rfl⟩ := List.mem_iff_getElem.1 hgm
    have h1 := hg.2 i hi
    refine ⟨by omega, ?_⟩
    have h2 := h1.2.2
    rw [h1.1] at h2
    exact h2
  unfold s_sp_MemberAt
  simp only [↓wr_e (c_IsGeneratorSet hl), hg, ↓Xa, ↓Xb, ↓Xc, ↓Xd, ↓Xe, ↓Xf, ↓Xg, ↓Xh, ↓Xi, ↓Xj, ↓Xk, ↓Xl, ↓Xm, ↓Xn, ↓Xo, ↓Xp, ↓Xq, ↓Xr, ↓Xs, ↓Xt, ↓Xu, ↓Xv, ↓Xw, ↓Xx, ↓Xy, gx0, gx1, gx2, gx3, ife_e, ife_n, ife_r, Xz, ife_ne', XA, XB, XC, XD, decide_true, decide_false, Bool.not_true, Bool.not_false]
  refine W.bnd (c_buildChain hp hn1 (by omega) hl hL hc fun x o H1 l1 hch hci => ?_)
  refine W.bnd (c_chainOrder l1.wf hch hci (by omega) hB fun H2 l2 => ?_)
  have hb0 := (hB n).1
  rw [List.take_of_length_le (by rw [sizes_length]; exact Nat.le_refl _)] at hb0
  rw [wr_sub (by unfold In64; omega)]
  have hr : (0 : Int) ≤ (a : Int) ∧ (a : Int) ≤ (prd (sizes n c) : Int) - 1 := by omega
  simp only [↓wr_e c_inRange, hr, and_self, ↓Xa, ↓Xb, ↓Xc, ↓Xd, ↓Xe, ↓Xf, ↓Xg, ↓Xh, ↓Xi, ↓Xj, ↓Xk, ↓Xl, ↓Xm, ↓Xn, ↓Xo, ↓Xp, ↓Xq, ↓Xr, ↓Xs, ↓Xt, ↓Xu, ↓Xv, ↓Xw, ↓Xx, ↓Xy, gx0, gx1, gx2, gx3, ife_e, ife_n, ife_r, Xz, ife_ne', XA, XB, XC, XD, decide_true, decide_false, Bool.not_true, Bool.not_false]
  have l02 := l1.tr l2
  have hch := hch.le l2
  refine W.bnd (c_membersPerChoice l2.wf hch hci (by omega) hB fun x10 H3 l3 h10 => ?_)
  refine W.bnd (c_identity l3.wf (by omega) fun x11 H4 l4 h11 => ?_)
  have l04 := (l02.tr l3).tr l4
  have hch := (hch.le l3).le l4
  have h10 := h10.leI l4
  have ml : (mpc n c).length = n := by simp [mpc]
  refine W.lq (fun qq st Hk => Le H4 Hk ∧ ∃ (i a' : Nat) (w : AVal) (q : List Int), qq = n - i ∧ i ≤ n ∧ st = [i64 (a' : Int), w, i64 (i : Int)] ∧ a' < prd ((sizes n c).drop i) ∧ Ints .ro Any Hk w q ∧ Pm n q ∧ I q)
    (fun rr Hk => Le H4 Hk ∧ ∃ (w : AVal) (q : List Int), rr = (.exit 0, [w]) ∧ Ints .ro Any Hk w q ∧ Pm n q ∧ I q) n
    ⟨Le.refl l4.wf, 0, a, x11, idn n, rfl, Nat.zero_le _, rfl, by simpa using ha, h11.ro.any, idn_pm (by omega), hI0⟩ ?_ ?_
  · rintro qq st Hk ⟨lk, i, a', w, q, rfl, hi, rfl, ha', hw, hq, hIq⟩ Q' kn kx
    by_cases hin : i < n
    · have hin' : (i : Int) < n := by omega
      have hch := hch.le lk
      have him : i < (zI (mpc n c)).length := by rw [zI_length, ml]; exact hin
      have him' : i < (mpc n c).length := by rw [ml]; exact hin
      have his : i < (sizes n c).length := by rw [sizes_length]; exact hin
      have hmi : (mpc n c)[i] = prd ((sizes n c).drop (i + 1)) := by simp [mpc]
      have hsi : (sizes n c)[i] = osz c i := by simp [sizes]
      rw [List.drop_eq_getElem_cons his, prd, hsi] at ha'
      have hpos : 0 < prd ((sizes n c).drop (i + 1)) := by
        rcases Nat.eq_zero_or_pos (prd ((sizes n c).drop (i + 1))) with h | h
        · rw [h, Nat.mul_zero] at ha'; omega
        · exact h
      have hab : a' ≤ 9223372036854775807 := by
        have := (hB i).2
        rw [List.drop_eq_getElem_cons his, prd, hsi] at this
        omega
      simp only [hin', ↓Xa, ↓Xb, ↓Xc, ↓Xd, ↓Xe, ↓Xf, ↓Xg, ↓Xh, ↓Xi, ↓Xj, ↓Xk, ↓Xl, ↓Xm, ↓Xn, ↓Xo, ↓Xp, ↓Xq, ↓Xr, ↓Xs, ↓Xt, ↓Xu, ↓Xv, ↓Xw, ↓Xx, ↓Xy, gx0, gx1, gx2, gx3, ife_e, ife_n, ife_r, Xz, ife_ne', XA, XB, XC, XD, decide_true, decide_false, Bool.not_true, Bool.not_false]
      refine W.bnd (c_choicesAt lk.wf hch hci (by omega) hin hw hq fun x14 H5 A l5 h14 hAl hAm => ?_)
      have h10 := (h10.leI lk).leI l5
      simp only [↓wr_ix h10 him, ↓wr_ldI h10 him, zI_get him', hmi]
      rw [quo_nat hpos hab]
      have hqd : a' / prd ((sizes n c).drop (i + 1)) < A.length := by
        rw [hAl]; exact (Nat.div_lt_iff_lt_mul hpos).2 ha'
      simp only [↓wr_ix h14 hqd, ↓wr_ldI h14 hqd]
      obtain ⟨yy, hy, hr, hqy⟩ := hAm _ (List.getElem_mem hqd)
      rw [hqy]
      refine W.bnd (c_withEntry l5.wf (hch.le l5) hci (by omega) hin (hw.leI l5) hq hy hr fun r2 H6 l6 hr2 => ?_)
      have h10 := h10.leI l6
      simp only [↓wr_ix h10 him, ↓wr_ldI h10 him, zI_get him', hmi]
      rw [rem_nat hpos, wr_inc (by omega)]
      exact W.ret (kn (n - (i + 1)) _ _ (by omega) ⟨(lk.tr l5).tr l6, i + 1, _, r2, _, rfl, hin, rfl, Nat.mod_lt _ hpos, hr2.ro.any, (hci.rep i yy hr).comp hq, hI i yy q hin hq hr hIq⟩)
    · have hin' : ¬(i : Int) < n := by omega
      simp only [hin', ↓Xa, ↓Xb, ↓Xc, ↓Xd, ↓Xe, ↓Xf, ↓Xg, ↓Xh, ↓Xi, ↓Xj, ↓Xk, ↓Xl, ↓Xm, ↓Xn, ↓Xo, ↓Xp, ↓Xq, ↓Xr, ↓Xs, ↓Xt, ↓Xu, ↓Xv, ↓Xw, ↓Xx, ↓Xy, gx0, gx1, gx2, gx3, ife_e, ife_n, ife_r, Xz, ife_ne', XA, XB, XC, XD, decide_true, decide_false, Bool.not_true, Bool.not_false]
      exact W.ret (kx _ _ _ (by simp) ⟨lk, w, q, rfl, hw, hq, hIq⟩)
  · rintro rr Hk ⟨lk, w, q, rfl, hw, hq, hIq⟩
    simp only [↓Xa, ↓Xb, ↓Xc, ↓Xd, ↓Xe, ↓Xf, ↓Xg, ↓Xh, ↓Xi, ↓Xj, ↓Xk, ↓Xl, ↓Xm, ↓Xn, ↓Xo, ↓Xp, ↓Xq, ↓Xr, ↓Xs, ↓Xt, ↓Xu, ↓Xv, ↓Xw, ↓Xx, ↓Xy, gx0, gx1, gx2, gx3, ife_e, ife_n, ife_r, Xz, ife_ne', XA, XB, XC, XD, decide_true, decide_false, Bool.not_true, Bool.not_false]
    exact W.ret (kk _ _ _ (l04.tr lk) hw hq hIq)
end
end Go.Am

end
