/- Towards the given statement FnVerifiedTables, which is proved for every input, without a condition: a part of the proof. -/
import Derived.Test.YtehojinjigakdaaD
import Derived.ProofKit
section
set_option linter.unusedSimpArgs false
set_option linter.unusedVariables false
/- Contracts of the draws: any permutation, a puzzle. -/
namespace Go.Am
section
variable {β X : Type} {f : AVal → AM β} {Q : AVal → AHeap → Prop} {R : AHeap → AVal → X → Prop} {m m2 : Md} {P P2 P3 P4 P5 P' S T : Nat → Prop} {e e2 : TypeId} {H H0 H1 H2 H' : AHeap} {v u x y : AVal} {A B C s D r : List Int} {L LL : List (List Int)} {p : Puz} {cs : List AVal} {t : Tbl} {id : Nat} {n : Int}
theorem Sf.nx (h : Sf H H') : H.next ≤ H'.next := Fr.nx h
/-- What was made, and then changed, since H. -/
theorem Sf.own (h : Sf H H1) (h' : Fr T H1 H2) (hs : ∀ id, T id → H.next ≤ id) : Sf H H2 := Fr.nw h h' fun id hi hT => absurd (hs id hT) (by omega)
theorem bk_nw (h : Sf H H1) {H0 : AHeap} : ∀ id, Bk (Nw H) e H0 id → H.next ≤ id := fun id h => h.1
theorem bnd_as {γ δ : Type} {m : AM γ} {g : γ → AM δ} {h : δ → AM β} : bnd (bnd m g) h = bnd m fun a => bnd (g a) h := by
  funext H; simp only [bnd]
  cases m H with
  | none => rfl
  | some r => rfl
theorem wr_c1 {Q : β → AHeap → Prop} (hu : u.isCell = true) : W (bnd (cell1 u) f) H Q ↔ W (f u) H Q := wr_p (cell1_of hu)
theorem wr_c1s {Q : β → AHeap → Prop} {s : List UInt8} : W (bnd (cell1 (.str s)) f) H Q ↔ W (f (.str s)) H Q := wr_p rfl
theorem W.app1f {Q : β → AHeap → Prop} {L : List X} {w : X} {bytes : Nat} (hp : Hp H) (h : Seq R .own P e H v L) (hs : Stb P e R) (hu : u.isCell = true) (hb : bytes ≤ 4096) (hlen : L.length + 1 ≤ 1073741824) (hup : ∀ id, H.next ≤ id → P id)
    (hw : R H u w)
    (k : ∀ y H', Fr (Bk P e H) H H' → Seq R .own P e H' y (L ++ [w]) → W (f y) H' Q) :
    W (Am.bnd (allocS none e 1 1 [u]) fun z => Am.bnd (appS e 1 bytes v z) f) H Q := by
  refine W.mkseq (R := R) hp [w] rfl rfl (by simp) (fun H' l i hi => by
    have : i = 0 := by simp at hi; exact hi
    subst this; exact ⟨u, rfl, hu, hs l.bk hw⟩) fun z H1 l1 h1 => ?_
  exact W.app l1.wf (h.fr l1 (fun _ _ _ _ _ _ h => h) fun v x hx => hs l1.bk hx) h1 hb (by simpa using hlen) (fun id hi => hup id (Nat.le_trans l1.nx hi)) (fun H' f v x hx => hs f hx) fun y H2 f2 h2 => k y H2 (l1.bk.bk f2) h2
theorem W.lit1f {Q : β → AHeap → Prop} (hp : Hp H) {a : X} (hu : u.isCell = true) (hR : ∀ H', Le H H' → R H' u a) (k : ∀ x H', Le H H' → Seq R .own (Nw H) e H' x [a] → W (f x) H' Q) :
    W (Am.bnd (allocS none e 1 1 [u]) f) H Q :=
  W.mkseq (R := R) hp [a] rfl rfl (by simp) (fun H' hl i hi => by
    have : i = 0 := by simp at hi; exact hi
    subst this; exact ⟨u, rfl, hu, hR H' hl⟩) k
theorem W.lit1Sf {Q : β → AHeap → Prop} (hp : Hp H) (h : Free H id) {a : X} (hu : u.isCell = true) (hR : ∀ H', Fr (Nk id H) H H' → R H' u a) (k : ∀ x H', Fr (Nk id H) H H' → Seq R .own (· = id) e H' x [a] → W (f x) H' Q) :
    W (Am.bnd (allocS (some id) e 1 1 [u]) f) H Q := by
  refine W.e (a := .slice id 0 1 1) (H' := H.set id (.cells [u] e 0)) ?_ (k _ _ (set_free hp h _) ?_)
  · simp only [allocS, Am.bnd, Am.ret, newB_some h]
  · exact .mk id 0 0 [u] [a] rfl h.1 get_set (by simp) (by simp [maxLenA]) ⟨Nat.le_refl _, rfl⟩ fun i hi => by
      have : i = 0 := by simp at hi; exact hi
      subst this; exact ⟨u, rfl, hu, hR _ (set_free hp h _)⟩
theorem c_drawAnyPermutation (hp : Hp H) (h : Src P H x) (hn : n ≤ 1000) (k : ∀ r H' A, Sf H H' → Src P H' x → Ints .own (Nw H) H' r A ∨ Ints .ro (Nw H) H' r A → Q r H') : W (s_sp_drawAnyPermutation x (i64 n)) H Q := by
  unfold s_sp_drawAnyPermutation
  refine W.bnd (c_drawPermutation hp h hn fun z H1 A f1 h hz hA => ?_)
  have rest : ∀ (H2 : AHeap) (z : AVal) (A : List Int), Sf H H2 → Src P H2 x → Ints .ro (Nw H) H2 z A → W (bnd (s_sp_oneIn x (.int .i64 60)) fun x21 =>
 bnd (br x21 (bnd (s_sp_below x (.int .i64 2)) fun x22 =>
 bnd (abin .add (.int .i64 20) x22) fun x23 =>
 bnd (s_sp_drawPermutation x x23) fun x24 =>
 rx .normal [x24]) (rx .normal [z])) fun r25 =>
 ife r25.1 .normal (ret (gx r25.2 0)) (fail)) H2 Q := by
    intro H2 z A f2 h hz
    refine W.bnd (c_oneIn f2.wf h fun b H3 f3 h => ?_)
    have hz := hz.bkI f3 (by decide)
    have f23 := Sf.tr f2 f3
    cases b with
    | true =>
      simp only [↓wr_bbr_t, ↓wr_assoc]
      refine W.bnd (c_below f3.wf h fun a H4 f4 h ha => ?_)
      have := ha.1
      have := ha.2.1 (by decide)
      simp only [↓wr_assoc]
      rw [wr_add (by unfold In64; omega)]
      simp only [↓wr_assoc]
      refine W.bnd (c_drawPermutation f4.wf h (by omega) fun w H5 B f5 h hw hB => ?_)
      simp only [↓wr_rx, ↓wr_ret, ↓wr_gd_tt, ↓wr_gd_ff, ↓wr_gd_tf, ↓wr_gd_ft, ↓wr_gd_s, ↓wr_pick_t, ↓wr_pick_f, ↓wr_br_t, ↓wr_br_f, ↓wr_bbr_t, ↓wr_bbr_f, ↓wr_lss, ↓wr_leq, ↓wr_gtr, ↓wr_geq, ↓wr_eql, ↓wr_neq, ↓wr_not, ↓wr_cv, ↓wr_extr0, ↓wr_extr1, ↓wr_extr2, ↓wr_lenT, ↓wr_getH, gx0, gx1, gx2, gx3, ife_e, ife_n, ife_r, ife_re, ife_ne', ife_nr, ife_en, ife_rn, ife_er, decide_true, decide_false, Bool.not_true, Bool.not_false]
      exact W.ret (k _ _ B ((f23.tr f4).tr f5) h (.inl (hw.mono fun id _ hid => Nat.le_trans (f23.tr f4).nx hid)))
    | false =>
      simp only [↓wr_ret, ↓wr_gd_tt, ↓wr_gd_ff, ↓wr_gd_tf, ↓wr_gd_ft, ↓wr_gd_s, ↓wr_pick_t, ↓wr_pick_f, ↓wr_br_t, ↓wr_br_f, ↓wr_bbr_t, ↓wr_bbr_f, ↓wr_lss, ↓wr_leq, ↓wr_gtr, ↓wr_geq, ↓wr_eql, ↓wr_neq, ↓wr_not, ↓wr_cv, ↓wr_extr0, ↓wr_extr1, ↓wr_extr2, ↓wr_lenT, ↓wr_getH, gx0, gx1, gx2, gx3, ife_e, ife_n, ife_r, ife_re, ife_ne', ife_nr, ife_en, ife_rn, ife_er, decide_true, decide_false, Bool.not_true, Bool.not_false, ↓wr_rx]
      exact W.ret (k _ _ A f23 h (.inr hz))
  refine W.bnd (c_oneIn f1.wf h fun b H2 f2 h => ?_)
  have f12 := Sf.tr f1 f2
  have hz := hz.bkI f2 (by decide)
  by_cases hb : b = true ∧ 0 < n
  case neg =>
    cases b with
    | false =>
      simp only [↓wr_ret, ↓wr_gd_tt, ↓wr_gd_ff, ↓wr_gd_tf, ↓wr_gd_ft, ↓wr_gd_s, ↓wr_pick_t, ↓wr_pick_f, ↓wr_br_t, ↓wr_br_f, ↓wr_bbr_t, ↓wr_bbr_f, ↓wr_lss, ↓wr_leq, ↓wr_gtr, ↓wr_geq, ↓wr_eql, ↓wr_neq, ↓wr_not, ↓wr_cv, ↓wr_extr0, ↓wr_extr1, ↓wr_extr2, ↓wr_lenT, ↓wr_getH, gx0, gx1, gx2, gx3, ife_e, ife_n, ife_r, ife_re, ife_ne', ife_nr, ife_en, ife_rn, ife_er, decide_true, decide_false, Bool.not_true, Bool.not_false, ↓wr_rx]
      exact rest _ _ _ f12 h hz.ro
    | true =>
      have : ¬0 < n := fun h => hb ⟨rfl, h⟩
      simp only [↓wr_ret, ↓wr_gd_tt, ↓wr_gd_ff, ↓wr_gd_tf, ↓wr_gd_ft, ↓wr_gd_s, ↓wr_pick_t, ↓wr_pick_f, ↓wr_br_t, ↓wr_br_f, ↓wr_bbr_t, ↓wr_bbr_f, ↓wr_lss, ↓wr_leq, ↓wr_gtr, ↓wr_geq, ↓wr_eql, ↓wr_neq, ↓wr_not, ↓wr_cv, ↓wr_extr0, ↓wr_extr1, ↓wr_extr2, ↓wr_lenT, ↓wr_getH, gx0, gx1, gx2, gx3, ife_e, ife_n, ife_r, ife_re, ife_ne', ife_nr, ife_en, ife_rn, ife_er, decide_true, decide_false, Bool.not_true, Bool.not_false, this, ↓wr_rx]
      exact rest _ _ _ f12 h hz.ro
  obtain ⟨rfl, hn0⟩ := hb
  simp only [↓wr_ret, ↓wr_gd_tt, ↓wr_gd_ff, ↓wr_gd_tf, ↓wr_gd_ft, ↓wr_gd_s, ↓wr_pick_t, ↓wr_pick_f, ↓wr_br_t, ↓wr_br_f, ↓wr_bbr_t, ↓wr_bbr_f, ↓wr_lss, ↓wr_leq, ↓wr_gtr, ↓wr_geq, ↓wr_eql, ↓wr_neq, ↓wr_not, ↓wr_cv, ↓wr_extr0, ↓wr_extr1, ↓wr_extr2, ↓wr_lenT, ↓wr_getH, gx0, gx1, gx2, gx3, ife_e, ife_n, ife_r, ife_re, ife_ne', ife_nr, ife_en, ife_rn, ife_er, decide_true, decide_false, Bool.not_true, Bool.not_false, hn0, ↓wr_assoc]
  refine W.bnd (c_below f2.wf h fun a H3 f3 h ha => ?_)
  have f13 := f12.tr f3
  have hz := hz.bkI f3 (by decide)
  simp only [↓wr_assoc, ↓wr_eql]
  by_cases h0 : a = 0
  · subst h0
    simp only [↓wr_ret, ↓wr_gd_tt, ↓wr_gd_ff, ↓wr_gd_tf, ↓wr_gd_ft, ↓wr_gd_s, ↓wr_pick_t, ↓wr_pick_f, ↓wr_br_t, ↓wr_br_f, ↓wr_bbr_t, ↓wr_bbr_f, ↓wr_lss, ↓wr_leq, ↓wr_gtr, ↓wr_geq, ↓wr_eql, ↓wr_neq, ↓wr_not, ↓wr_cv, ↓wr_extr0, ↓wr_extr1, ↓wr_extr2, ↓wr_lenT, ↓wr_getH, gx0, gx1, gx2, gx3, ife_e, ife_n, ife_r, ife_re, ife_ne', ife_nr, ife_en, ife_rn, ife_er, decide_true, decide_false, Bool.not_true, Bool.not_false, ↓wr_assoc]
    refine W.bnd (c_below f3.wf h fun i H4 f4 h hi => ?_)
    obtain ⟨i, rfl⟩ : ∃ b : Nat, i = (b : Int) := ⟨i.toNat, by have := hi.1; omega⟩
    have hiA : i < A.length := by have := hi.2.1 hn0; omega
    simp only [↓wr_assoc]
    refine W.bnd (c_numberUpTo f4.wf h (by omega) fun w H5 f5 h _ => ?_)
    have hz := (hz.bkI f4 (by decide)).bkI f5 (by decide)
    have f15 := (f13.tr f4).tr f5
    simp only [↓wr_assoc, ↓wr_ix hz hiA]
    refine W.st (a := w) f15.wf hz (by simp) hiA rfl (fun _ _ _ _ h => h) rfl fun H6 f6 hz => ?_
    simp only [↓wr_rx, ↓wr_ret, ↓wr_gd_tt, ↓wr_gd_ff, ↓wr_gd_tf, ↓wr_gd_ft, ↓wr_gd_s, ↓wr_pick_t, ↓wr_pick_f, ↓wr_br_t, ↓wr_br_f, ↓wr_bbr_t, ↓wr_bbr_f, ↓wr_lss, ↓wr_leq, ↓wr_gtr, ↓wr_geq, ↓wr_eql, ↓wr_neq, ↓wr_not, ↓wr_cv, ↓wr_extr0, ↓wr_extr1, ↓wr_extr2, ↓wr_lenT, ↓wr_getH, gx0, gx1, gx2, gx3, ife_e, ife_n, ife_r, ife_re, ife_ne', ife_nr, ife_en, ife_rn, ife_er, decide_true, decide_false, Bool.not_true, Bool.not_false]
    exact rest _ _ _ (f15.own f6 fun id h => h.1) (h.bk f6 (by decide) (by decide)) hz.ro
  · by_cases h1 : a = 1
    · subst h1
      have hA1 : 1 ≤ A.length := by omega
      obtain ⟨w2, hw2, hws2⟩ := hz.ro.sl (bnds_lo (k := .i64) hA1) (by simp) ⟨hA1, Nat.le_refl _⟩
      simp only [↓wr_ret, ↓wr_gd_tt, ↓wr_gd_ff, ↓wr_gd_tf, ↓wr_gd_ft, ↓wr_gd_s, ↓wr_pick_t, ↓wr_pick_f, ↓wr_br_t, ↓wr_br_f, ↓wr_bbr_t, ↓wr_bbr_f, ↓wr_lss, ↓wr_leq, ↓wr_gtr, ↓wr_geq, ↓wr_eql, ↓wr_neq, ↓wr_not, ↓wr_cv, ↓wr_extr0, ↓wr_extr1, ↓wr_extr2, ↓wr_lenT, ↓wr_getH, gx0, gx1, gx2, gx3, ife_e, ife_n, ife_r, ife_re, ife_ne', ife_nr, ife_en, ife_rn, ife_er, decide_true, decide_false, Bool.not_true, Bool.not_false, h0, ↓wr_assoc, ↓wr_rx]
      have hw2' : slS 1 z (some (AVal.int .i64 1)) none = ret w2 := hw2
      simp only [↓wr_p hw2', ↓wr_rx, ↓wr_ret, ↓wr_gd_tt, ↓wr_gd_ff, ↓wr_gd_tf, ↓wr_gd_ft, ↓wr_gd_s, ↓wr_pick_t, ↓wr_pick_f, ↓wr_br_t, ↓wr_br_f, ↓wr_bbr_t, ↓wr_bbr_f, ↓wr_lss, ↓wr_leq, ↓wr_gtr, ↓wr_geq, ↓wr_eql, ↓wr_neq, ↓wr_not, ↓wr_cv, ↓wr_extr0, ↓wr_extr1, ↓wr_extr2, ↓wr_lenT, ↓wr_getH, gx0, gx1, gx2, gx3, ife_e, ife_n, ife_r, ife_re, ife_ne', ife_nr, ife_en, ife_rn, ife_er, decide_true, decide_false, Bool.not_true, Bool.not_false]
      exact rest _ _ _ f13 h hws2
    · by_cases h2 : a = 2
      · subst h2
        simp only [↓wr_ret, ↓wr_gd_tt, ↓wr_gd_ff, ↓wr_gd_tf, ↓wr_gd_ft, ↓wr_gd_s, ↓wr_pick_t, ↓wr_pick_f, ↓wr_br_t, ↓wr_br_f, ↓wr_bbr_t, ↓wr_bbr_f, ↓wr_lss, ↓wr_leq, ↓wr_gtr, ↓wr_geq, ↓wr_eql, ↓wr_neq, ↓wr_not, ↓wr_cv, ↓wr_extr0, ↓wr_extr1, ↓wr_extr2, ↓wr_lenT, ↓wr_getH, gx0, gx1, gx2, gx3, ife_e, ife_n, ife_r, ife_re, ife_ne', ife_nr, ife_en, ife_rn, ife_er, decide_true, decide_false, Bool.not_true, Bool.not_false, h0, h1, bnd_as, ↓wr_rx, ↓wr_c1i]
        refine W.app1f (P := Nw H) f13.wf hz stb_RI rfl (by decide) (by omega) (fun id hid => Nat.le_trans f13.nx hid) rfl fun w H4 f4 hw => ?_
        simp only [↓wr_rx, ↓wr_ret, ↓wr_gd_tt, ↓wr_gd_ff, ↓wr_gd_tf, ↓wr_gd_ft, ↓wr_gd_s, ↓wr_pick_t, ↓wr_pick_f, ↓wr_br_t, ↓wr_br_f, ↓wr_bbr_t, ↓wr_bbr_f, ↓wr_lss, ↓wr_leq, ↓wr_gtr, ↓wr_geq, ↓wr_eql, ↓wr_neq, ↓wr_not, ↓wr_cv, ↓wr_extr0, ↓wr_extr1, ↓wr_extr2, ↓wr_lenT, ↓wr_getH, gx0, gx1, gx2, gx3, ife_e, ife_n, ife_r, ife_re, ife_ne', ife_nr, ife_en, ife_rn, ife_er, decide_true, decide_false, Bool.not_true, Bool.not_false]
        exact rest _ _ _ (f13.own f4 fun id h => h.1) (h.bk f4 (by decide) (by decide)) hw.ro
      · simp only [↓wr_ret, ↓wr_gd_tt, ↓wr_gd_ff, ↓wr_gd_tf, ↓wr_gd_ft, ↓wr_gd_s, ↓wr_pick_t, ↓wr_pick_f, ↓wr_br_t, ↓wr_br_f, ↓wr_bbr_t, ↓wr_bbr_f, ↓wr_lss, ↓wr_leq, ↓wr_gtr, ↓wr_geq, ↓wr_eql, ↓wr_neq, ↓wr_not, ↓wr_cv, ↓wr_extr0, ↓wr_extr1, ↓wr_extr2, ↓wr_lenT, ↓wr_getH, gx0, gx1, gx2, gx3, ife_e, ife_n, ife_r, ife_re, ife_ne', ife_nr, ife_en, ife_rn, ife_er, decide_true, decide_false, Bool.not_true, Bool.not_false, h0, h1, h2, ↓wr_rx, ↓wr_assoc]
        exact rest _ _ _ f13 h hz.ro
theorem Seq.oldL {N : Nat} {e' : TypeId} (h : Lists m P P2 H v L) (hf : Fr (Bk (N ≤ ·) e' H) H H') (hP : ∀ id, P id → id < N) (hP2 : ∀ id, P2 id → id < N) : Lists m P P2 H' v L :=
  h.fr hf (fun id c fz _ hp _ hb => absurd hb.1 (by have := hP id hp; omega)) fun _ _ h => Seq.oldI h hf hP2
theorem Bx.ap {e' : TypeId} (h : Bx P e H x cs) (hf : Fr (Bk P' e' H) H H') (hd : ∀ id, P id → ¬P' id) : Bx P e H' x cs := h.fr hf fun id c fz _ hp _ hb => hd id hp hb.1
theorem Seq.apI {e' : TypeId} (h : Seq RI m P e H v A) (hf : Fr (Bk P' e' H) H H') (hd : ∀ id, P id → ¬P' id) : Seq RI m P e H' v A := h.frI hf fun id c fz _ hp _ hb => hd id hp hb.1
theorem Bx.iv {a : Nat} (h : Bx (a ≤ ·) e H x cs) : Bx (Iv a H.next) e H x cs := h.mono fun _ hid h => ⟨h, hid⟩
theorem Bx.ivm {a b : Nat} (h : Bx (Iv a b) e H x cs) (hb : b ≤ H0.next) : Bx (Iv a H0.next) e H x cs := h.mono fun _ _ h => ⟨h.1, Nat.lt_of_lt_of_le h.2 hb⟩
theorem iv_nw {a b c : Nat} (h : b ≤ c) : ∀ id, Iv a b id → ¬(c ≤ id) := fun id h1 h2 => absurd (Nat.lt_of_lt_of_le h1.2 h) (Nat.not_lt.2 h2)
theorem nw_iv {a b c : Nat} (h : b ≤ c) : ∀ id, c ≤ id → ¬Iv a b id := fun id h1 h2 => iv_nw h id h2 h1
/-- A puzzle in a variable, made since H0. -/
def PB (H0 Hk : AHeap) (x : AVal) : Prop := ∃ pts nm ml LL, Bx (Nw H0) t_impl_Puzzle Hk x [i64 pts, .str nm, ml] ∧ Lists .own (Nw H0) (Nw H0) Hk ml LL ∧ In64 pts ∧ nm.length ≤ 3
theorem wr_slStr3 {Q : β → AHeap → Prop} {a : Nat} (ha : a ≤ 3) : W (bnd (slStr (AVal.str [65, 66, 67]) none (some (i64 (a : Int)))) f) H Q ↔ W (f (AVal.str (([65, 66, 67] : List UInt8).take a))) H Q := by
  refine wr_p ?_
  have : bnds 3 none (some (i64 (a : Int))) = some (0, a) := bnds_hi (k := .i64) ha
  show (match bnds 3 none (some (i64 (a : Int))) with | some (l, h) => ret (AVal.str ((([65, 66, 67] : List UInt8).take h).drop l)) | none => fail) = _
  rw [this]; rfl
theorem c_l24DrawPuzzle (hp : Hp H) (h : Src P H x) (k : ∀ v p H', Sf H H' → Src P H' x → PuzA (Nw H) (Nw H) H' v p → Q v H') : W (s_sp_l24DrawPuzzle x) H Q := by
  unfold s_sp_l24DrawPuzzle
  refine W.alloc hp fun x1 H1 l1 b1 => ?_
  have b1 := Bx.iv b1
  have h := h.le l1
  refine W.bnd (c_below l1.wf h fun n H2 f2 h hn => ?_)
  have fk := (Sf.of l1).tr f2
  have b1 := b1.bk f2 (by decide)
  have hn1 := hn.1
  have hn2 := hn.2.1 (by decide)
  rw [wr_add (by unfold In64; omega)]
  refine W.bnd (c_below f2.wf h fun c H3 f3 h hc => ?_)
  have fk := fk.tr f3
  have b1 := b1.bk f3 (by decide)
  have hc1 := hc.1
  have hc2 := hc.2.1 (by decide)
  rw [wr_add (by unfold In64; omega)]
  obtain ⟨a, ha⟩ : ∃ a : Nat, 1 + c = (a : Int) := ⟨(1 + c).toNat, by omega⟩
  have ha3 : a ≤ 3 := by omega
  have ha1 : 1 ≤ a := by omega
  rw [ha]
  simp only [↓wr_slStr3 ha3, bnd_as, ↓wr_c1i, ↓wr_c1s, ↓wr_ret]
  have hnl : (([65, 66, 67] : List UInt8).take a).length = a := by simp; omega
  generalize ([65, 66, 67] : List UInt8).take a = nm at hnl
  refine W.alloc f3.wf fun x10 H4 l4 b10 => ?_
  have h := h.le l4
  have b1 := b1.le l4
  refine W.fsw l4.wf b10 rfl rfl rfl fun H5 f5 b10 => ?_
  have n1 : H1.next ≤ H3.next := Nat.le_trans f2.nx f3.nx
  have hH3 : H.next ≤ H3.next := fk.nx
  have b1 := b1.ap f5 (iv_nw n1)
  have fk := (fk.le l4).own f5 fun id h => Nat.le_trans hH3 h.1
  have h := h.bk f5 (by decide) (by decide)
  -- the end
  have rest : ∀ (Hk : AHeap) (pts : Int) (nm : List UInt8) (ml : AVal) (LL : List (List Int)), Sf H Hk → Src P Hk x → Bx (Iv H.next H1.next) t_impl_Puzzle Hk x1 [.int .i64 0, .str [], .nilS] →
      Bx (H3.next ≤ ·) t_impl_Puzzle Hk x10 [i64 pts, .str nm, ml] → Lists .own (Nw H) (Nw H) Hk ml LL → In64 pts → nm.length ≤ 3 →
      W (bnd (ldn 3 x10) fun x44 => bnd (stn 3 x1 x44) fun _ => bnd (ldn 3 x1) fun v45 => ret v45) Hk Q := by
    intro Hk pts nm ml LL fk h b1 b10 hl h64 hnm
    simp only [↓wr_ld3 b10]
    refine W.fsw fk.wf b1 rfl rfl (cells_p hl.isCell) fun Hl fl b1 => ?_
    simp only [↓wr_ld3 b1]
    refine W.ret (k _ ⟨pts, nm, LL⟩ _ (fk.own fl fun id h => h.1.1) (h.bk fl (by decide) (by decide)) ⟨ml, rfl, (Seq.bkL hl fl (by decide) (by decide)).ro, h64, by show nm.length ≤ _; omega⟩)
  refine W.lq (fun q st Hk => ∃ (i : Nat) (ml : AVal) (LL : List (List Int)), q = nm.length - i ∧ i ≤ nm.length ∧ st = [i64 (i : Int)] ∧ Sf H Hk ∧ Src P Hk x ∧ Bx (Iv H.next H1.next) t_impl_Puzzle Hk x1 [.int .i64 0, .str [], .nilS] ∧
      Bx (H3.next ≤ ·) t_impl_Puzzle Hk x10 [i64 (3 + n), .str nm, ml] ∧ Lists .own (Nw H) (Nw H) Hk ml LL ∧ LL.length = i)
    (fun rr Hk => ∃ (ml : AVal) (LL : List (List Int)), rr = (.exit 0, []) ∧ Sf H Hk ∧ Src P Hk x ∧ Bx (Iv H.next H1.next) t_impl_Puzzle Hk x1 [.int .i64 0, .str [], .nilS] ∧
      Bx (H3.next ≤ ·) t_impl_Puzzle Hk x10 [i64 (3 + n), .str nm, ml] ∧ Lists .own (Nw H) (Nw H) Hk ml LL ∧ LL.length = nm.length) nm.length
    ⟨0, .nilS, [], rfl, Nat.zero_le _, rfl, fk, h, b1, b10, .nil, rfl⟩ ?_ ?_
  · rintro q st Hk ⟨i, ml, LL, rfl, hi, rfl, fk, h, b1, b10, hl, hLL⟩ Q' kn kx
    by_cases hlt : (i : Int) < nm.length
    · simp only [↓wr_fadd b10, ↓wr_f1 b10, ↓wr_ret, ↓wr_gd_tt, ↓wr_gd_ff, ↓wr_gd_tf, ↓wr_gd_ft, ↓wr_gd_s, ↓wr_pick_t, ↓wr_pick_f, ↓wr_br_t, ↓wr_br_f, ↓wr_bbr_t, ↓wr_bbr_f, ↓wr_lss, ↓wr_leq, ↓wr_gtr, ↓wr_geq, ↓wr_eql, ↓wr_neq, ↓wr_not, ↓wr_cv, ↓wr_extr0, ↓wr_extr1, ↓wr_extr2, ↓wr_lenT, ↓wr_getH, gx0, gx1, gx2, gx3, ife_e, ife_n, ife_r, ife_re, ife_ne', ife_nr, ife_en, ife_rn, ife_er, decide_true, decide_false, Bool.not_true, Bool.not_false, hlt]
      refine W.reserve fk.wf fun Hl ll fre => ?_
      have fr5 := fre 5 (by decide)
      have n5 : H.next ≤ Hk.next + 5 := Nat.le_trans fk.nx (Nat.le_add_right _ _)
      simp only [↓wr_getH]
      have b10 := b10.le ll
      refine W.bnd (c_drawPermutation ll.wf (h.le ll) (by omega) fun w Hm B fm h hw hB => ?_)
      have fkm := (fk.le ll).tr fm
      have b10l := b10
      have b10 := b10.bk fm (by decide)
      have b1 := (b1.le ll).bk fm (by decide)
      have hl := (hl.leL ll).bkL fm (by decide) (by decide)
      have fr5 : Free Hm (Hk.next + 5) := ⟨Nat.lt_of_lt_of_le fr5.1 fm.nx, (fm.keep _ fr5.1 fun hb => by
        obtain ⟨_, c, fz, hc⟩ := hb
        rw [fr5.2] at hc; cases hc).trans fr5.2⟩
      simp only [↓wr_fadd b10, ↓wr_f2 b10]
      refine W.agn1 (b10l.ld1 rfl) ?_
      have hnl : H.next ≤ Hl.next := Nat.le_trans fk.nx ll.nx
      have hw' : RL (Nw H) Hm w B := Seq.mono hw.ro fun id _ hid => Nat.le_trans hnl hid
      simp only [↓wr_c1 hw.isCell]
      refine W.lit1Sf (R := RL (Nw H)) (e := t_Sint64) fm.wf fr5 hw.isCell (fun H' f => Seq.nkI hw' f) fun y Hn fn hy => ?_
      have b10 := b10.nk fn
      have b1 := b1.nk fn
      have fkn : Sf H Hn := fkm.nw fn fun id hid hS => absurd hS.1 (by omega)
      refine W.app (P := Nw H) fn.wf (hl.nkL fn) hy (by decide) (by simp; omega) (fun id hid => Nat.le_trans fkn.nx hid) (fun H' f v x hx => Seq.bkI hx f (by decide)) fun ml' Ho fo hl => ?_
      have b10 := b10.bk fo (by decide)
      have b1 := b1.bk fo (by decide)
      have fko := fkn.own fo fun id h => h.1
      simp only [↓wr_fadd b10]
      refine W.fst fo.wf b10 (by simp) hl.isCell fun Hp' fp b10 => ?_
      rw [wr_inc (by omega)]
      refine W.ret (kn (nm.length - (i + 1)) _ _ (by omega) ⟨i + 1, ml', _, rfl, by omega, rfl, fko.own fp fun id h => Nat.le_trans hH3 h.1, ((h.nk fn).bk fo (by decide) (by decide)).bk fp (by decide) (by decide), b1.ap fp (iv_nw n1), b10, hl.bkL fp (by decide) (by decide), by simp [hLL]⟩)
    · have hie : i = nm.length := by omega
      simp only [↓wr_fadd b10, ↓wr_f1 b10, ↓wr_ret, ↓wr_gd_tt, ↓wr_gd_ff, ↓wr_gd_tf, ↓wr_gd_ft, ↓wr_gd_s, ↓wr_pick_t, ↓wr_pick_f, ↓wr_br_t, ↓wr_br_f, ↓wr_bbr_t, ↓wr_bbr_f, ↓wr_lss, ↓wr_leq, ↓wr_gtr, ↓wr_geq, ↓wr_eql, ↓wr_neq, ↓wr_not, ↓wr_cv, ↓wr_extr0, ↓wr_extr1, ↓wr_extr2, ↓wr_lenT, ↓wr_getH, gx0, gx1, gx2, gx3, ife_e, ife_n, ife_r, ife_re, ife_ne', ife_nr, ife_en, ife_rn, ife_er, decide_true, decide_false, Bool.not_true, Bool.not_false, hlt]
      exact W.ret (kx _ _ _ (by simp) ⟨ml, LL, rfl, fk, h, b1, b10, hl, by omega⟩)
  · rintro rr Hk ⟨ml, LL, rfl, fk, h, b1, b10, hl, hLL⟩
    simp only [↓wr_ret, ↓wr_gd_tt, ↓wr_gd_ff, ↓wr_gd_tf, ↓wr_gd_ft, ↓wr_gd_s, ↓wr_pick_t, ↓wr_pick_f, ↓wr_br_t, ↓wr_br_f, ↓wr_bbr_t, ↓wr_bbr_f, ↓wr_lss, ↓wr_leq, ↓wr_gtr, ↓wr_geq, ↓wr_eql, ↓wr_neq, ↓wr_not, ↓wr_cv, ↓wr_extr0, ↓wr_extr1, ↓wr_extr2, ↓wr_lenT, ↓wr_getH, gx0, gx1, gx2, gx3, ife_e, ife_n, ife_r, ife_re, ife_ne', ife_nr, ife_en, ife_rn, ife_er, decide_true, decide_false, Bool.not_true, Bool.not_false]
    have p64 : In64 (3 + n) := by unfold In64; omega
    refine W.bnd (c_oneIn fk.wf h fun b Hl fl h => ?_)
    have fk := fk.tr fl
    have b1 := b1.bk fl (by decide)
    have b10 := b10.bk fl (by decide)
    have hl := hl.bkL fl (by decide) (by decide)
    cases b with
    | false =>
      simp only [↓wr_ret, ↓wr_gd_tt, ↓wr_gd_ff, ↓wr_gd_tf, ↓wr_gd_ft, ↓wr_gd_s, ↓wr_pick_t, ↓wr_pick_f, ↓wr_br_t, ↓wr_br_f, ↓wr_bbr_t, ↓wr_bbr_f, ↓wr_lss, ↓wr_leq, ↓wr_gtr, ↓wr_geq, ↓wr_eql, ↓wr_neq, ↓wr_not, ↓wr_cv, ↓wr_extr0, ↓wr_extr1, ↓wr_extr2, ↓wr_lenT, ↓wr_getH, gx0, gx1, gx2, gx3, ife_e, ife_n, ife_r, ife_re, ife_ne', ife_nr, ife_en, ife_rn, ife_er, decide_true, decide_false, Bool.not_true, Bool.not_false, ↓wr_rx]
      exact rest _ _ _ _ _ fk h b1 b10 hl p64 (by omega)
    | true =>
      simp only [↓wr_ret, ↓wr_gd_tt, ↓wr_gd_ff, ↓wr_gd_tf, ↓wr_gd_ft, ↓wr_gd_s, ↓wr_pick_t, ↓wr_pick_f, ↓wr_br_t, ↓wr_br_f, ↓wr_bbr_t, ↓wr_bbr_f, ↓wr_lss, ↓wr_leq, ↓wr_gtr, ↓wr_geq, ↓wr_eql, ↓wr_neq, ↓wr_not, ↓wr_cv, ↓wr_extr0, ↓wr_extr1, ↓wr_extr2, ↓wr_lenT, ↓wr_getH, gx0, gx1, gx2, gx3, ife_e, ife_n, ife_r, ife_re, ife_ne', ife_nr, ife_en, ife_rn, ife_er, decide_true, decide_false, Bool.not_true, Bool.not_false, bnd_as]
      refine W.bnd (c_below fk.wf h fun d Hm fm h hd => ?_)
      have fk := fk.tr fm
      have b1 := b1.bk fm (by decide)
      have b10 := b10.bk fm (by decide)
      have hl := hl.bkL fm (by decide) (by decide)
      by_cases h0 : d = 0
      · subst h0
        simp only [↓wr_ret, ↓wr_gd_tt, ↓wr_gd_ff, ↓wr_gd_tf, ↓wr_gd_ft, ↓wr_gd_s, ↓wr_pick_t, ↓wr_pick_f, ↓wr_br_t, ↓wr_br_f, ↓wr_bbr_t, ↓wr_bbr_f, ↓wr_lss, ↓wr_leq, ↓wr_gtr, ↓wr_geq, ↓wr_eql, ↓wr_neq, ↓wr_not, ↓wr_cv, ↓wr_extr0, ↓wr_extr1, ↓wr_extr2, ↓wr_lenT, ↓wr_getH, gx0, gx1, gx2, gx3, ife_e, ife_n, ife_r, ife_re, ife_ne', ife_nr, ife_en, ife_rn, ife_er, decide_true, decide_false, Bool.not_true, Bool.not_false, bnd_as]
        refine W.bnd (c_numberUpTo fk.wf h (by decide) fun pts Hn fn h h64 => ?_)
        have fk := fk.tr fn
        have b1 := b1.bk fn (by decide)
        have b10 := b10.bk fn (by decide)
        have hl := hl.bkL fn (by decide) (by decide)
        simp only [↓wr_fadd b10]
        refine W.fst fk.wf b10 (by simp) rfl fun Ho fo b10 => ?_
        simp only [↓wr_ret, ↓wr_gd_tt, ↓wr_gd_ff, ↓wr_gd_tf, ↓wr_gd_ft, ↓wr_gd_s, ↓wr_pick_t, ↓wr_pick_f, ↓wr_br_t, ↓wr_br_f, ↓wr_bbr_t, ↓wr_bbr_f, ↓wr_lss, ↓wr_leq, ↓wr_gtr, ↓wr_geq, ↓wr_eql, ↓wr_neq, ↓wr_not, ↓wr_cv, ↓wr_extr0, ↓wr_extr1, ↓wr_extr2, ↓wr_lenT, ↓wr_getH, gx0, gx1, gx2, gx3, ife_e, ife_n, ife_r, ife_re, ife_ne', ife_nr, ife_en, ife_rn, ife_er, decide_true, decide_false, Bool.not_true, Bool.not_false, ↓wr_rx]
        exact rest _ _ _ _ _ (fk.own fo fun id h => Nat.le_trans hH3 h.1) (h.bk fo (by decide) (by decide)) (b1.ap fo (iv_nw n1)) b10 (hl.bkL fo (by decide) (by decide)) h64 (by omega)
      · by_cases h1 : d = 1
        · subst h1
          simp only [↓wr_ret, ↓wr_gd_tt, ↓wr_gd_ff, ↓wr_gd_tf, ↓wr_gd_ft, ↓wr_gd_s, ↓wr_pick_t, ↓wr_pick_f, ↓wr_br_t, ↓wr_br_f, ↓wr_bbr_t, ↓wr_bbr_f, ↓wr_lss, ↓wr_leq, ↓wr_gtr, ↓wr_geq, ↓wr_eql, ↓wr_neq, ↓wr_not, ↓wr_cv, ↓wr_extr0, ↓wr_extr1, ↓wr_extr2, ↓wr_lenT, ↓wr_getH, gx0, gx1, gx2, gx3, ife_e, ife_n, ife_r, ife_re, ife_ne', ife_nr, ife_en, ife_rn, ife_er, decide_true, decide_false, Bool.not_true, Bool.not_false, bnd_as, h0, ↓wr_fadd b10]
          refine W.fst fk.wf b10 (by simp) rfl fun Ho fo b10 => ?_
          simp only [↓wr_ret, ↓wr_gd_tt, ↓wr_gd_ff, ↓wr_gd_tf, ↓wr_gd_ft, ↓wr_gd_s, ↓wr_pick_t, ↓wr_pick_f, ↓wr_br_t, ↓wr_br_f, ↓wr_bbr_t, ↓wr_bbr_f, ↓wr_lss, ↓wr_leq, ↓wr_gtr, ↓wr_geq, ↓wr_eql, ↓wr_neq, ↓wr_not, ↓wr_cv, ↓wr_extr0, ↓wr_extr1, ↓wr_extr2, ↓wr_lenT, ↓wr_getH, gx0, gx1, gx2, gx3, ife_e, ife_n, ife_r, ife_re, ife_ne', ife_nr, ife_en, ife_rn, ife_er, decide_true, decide_false, Bool.not_true, Bool.not_false, ↓wr_rx]
          exact rest _ _ _ _ _ (fk.own fo fun id h => Nat.le_trans hH3 h.1) (h.bk fo (by decide) (by decide)) (b1.ap fo (iv_nw n1)) b10 (hl.bkL fo (by decide) (by decide)) p64 (by decide)
        · by_cases h2 : d = 2
          · subst h2
            simp only [↓wr_ret, ↓wr_gd_tt, ↓wr_gd_ff, ↓wr_gd_tf, ↓wr_gd_ft, ↓wr_gd_s, ↓wr_pick_t, ↓wr_pick_f, ↓wr_br_t, ↓wr_br_f, ↓wr_bbr_t, ↓wr_bbr_f, ↓wr_lss, ↓wr_leq, ↓wr_gtr, ↓wr_geq, ↓wr_eql, ↓wr_neq, ↓wr_not, ↓wr_cv, ↓wr_extr0, ↓wr_extr1, ↓wr_extr2, ↓wr_lenT, ↓wr_getH, gx0, gx1, gx2, gx3, ife_e, ife_n, ife_r, ife_re, ife_ne', ife_nr, ife_en, ife_rn, ife_er, decide_true, decide_false, Bool.not_true, Bool.not_false, bnd_as, h0, h1]
            have b10m := b10
            refine W.bnd (c_drawAnyPermutation fk.wf h (by omega) fun w Hn B fn h hw => ?_)
            have nxm := fk.nx
            have fk := fk.tr fn
            have b1 := b1.bk fn (by decide)
            have b10 := b10.bk fn (by decide)
            have hl := hl.bkL fn (by decide) (by decide)
            simp only [↓wr_fadd b10, ↓wr_f2 b10]
            refine W.agn1 (b10m.ld1 rfl) ?_
            have hl0 : 0 < LL.length := by omega
            have hw' : Ints .ro (Nw Hm) Hn w B := hw.elim (fun h => h.ro) fun h => h
            have hix : ixa 1 ml (.int .i64 0) = ret (elemP ml 0) := hl.ixa hl0
            simp only [↓wr_p hix]
            refine W.st (R := RL (Nw H)) (a := B) fk.wf hl (by simp) hl0 hw'.isCell (fun H' f v x hx => Seq.bkI hx f (by decide)) (Seq.mono hw' fun id _ hid => Nat.le_trans nxm hid) fun Ho fo hl => ?_
            simp only [↓wr_ret, ↓wr_gd_tt, ↓wr_gd_ff, ↓wr_gd_tf, ↓wr_gd_ft, ↓wr_gd_s, ↓wr_pick_t, ↓wr_pick_f, ↓wr_br_t, ↓wr_br_f, ↓wr_bbr_t, ↓wr_bbr_f, ↓wr_lss, ↓wr_leq, ↓wr_gtr, ↓wr_geq, ↓wr_eql, ↓wr_neq, ↓wr_not, ↓wr_cv, ↓wr_extr0, ↓wr_extr1, ↓wr_extr2, ↓wr_lenT, ↓wr_getH, gx0, gx1, gx2, gx3, ife_e, ife_n, ife_r, ife_re, ife_ne', ife_nr, ife_en, ife_rn, ife_er, decide_true, decide_false, Bool.not_true, Bool.not_false, ↓wr_rx]
            exact rest _ _ _ _ _ (fk.own fo fun id h => h.1) (h.bk fo (by decide) (by decide)) (b1.bk fo (by decide)) (b10.bk fo (by decide)) hl p64 (by omega)
          · simp only [↓wr_ret, ↓wr_gd_tt, ↓wr_gd_ff, ↓wr_gd_tf, ↓wr_gd_ft, ↓wr_gd_s, ↓wr_pick_t, ↓wr_pick_f, ↓wr_br_t, ↓wr_br_f, ↓wr_bbr_t, ↓wr_bbr_f, ↓wr_lss, ↓wr_leq, ↓wr_gtr, ↓wr_geq, ↓wr_eql, ↓wr_neq, ↓wr_not, ↓wr_cv, ↓wr_extr0, ↓wr_extr1, ↓wr_extr2, ↓wr_lenT, ↓wr_getH, gx0, gx1, gx2, gx3, ife_e, ife_n, ife_r, ife_re, ife_ne', ife_nr, ife_en, ife_rn, ife_er, decide_true, decide_false, Bool.not_true, Bool.not_false, bnd_as, h0, h1, h2, ↓wr_rx]
            exact rest _ _ _ _ _ fk h b1 b10 hl p64 (by omega)
end
end Go.Am

end

section
set_option linter.unusedSimpArgs false
set_option linter.unusedVariables false
/- Contracts of the draws: jobs are started and copied; records. -/
namespace Go.Am
section
variable {β X : Type} {f : AVal → AM β} {Q : AVal → AHeap → Prop} {R : AHeap → AVal → X → Prop} {m m2 : Md} {P P2 P3 P4 P5 P' S T : Nat → Prop} {e e2 : TypeId} {H H0 H1 H2 H' : AHeap} {v u x y : AVal} {A B C s D r : List Int} {L LL : List (List Int)} {p : Puz} {cs : List AVal} {t : Tbl} {id : Nat} {n : Int}
/-- The scalars of a job. -/
structure Jsc where
  nx : Int
  lg : List UInt8
  sy : Int
def Jsc.cells (j : Jsc) (a b c : AVal) : List AVal := [a, b, c, i64 j.nx, .str j.lg, i64 j.sy]
/-- A job to be read. -/
def JobR (H : AHeap) (v : AVal) (t : Tbl) (j : Jsc) : Prop := ∃ a b c, v = .agg (j.cells a b c) ∧ Ints .ro Any H a t.tracked ∧ Lists .ro Any Any H b t.patterns ∧ Ints .ro Any H c t.dists
abbrev Eq1 (n0 tt : Nat) : Nat → Prop := fun id => n0 ≤ id ∧ id = tt
abbrev Ne2 (n0 tt dd : Nat) : Nat → Prop := fun id => n0 ≤ id ∧ id ≠ tt ∧ id ≠ dd
/-- A job that stands in blocks of its own since n0: its tracked points in block tt, its distances in block dd. -/
def JobC (n0 tt dd : Nat) (H : AHeap) (a b c : AVal) (t : Tbl) : Prop := Seq RI .own (Eq1 n0 tt) t_int64 H a t.tracked ∧ Lists .own (n0 ≤ ·) (Ne2 n0 tt dd) H b t.patterns ∧ Seq RI .own (Eq1 n0 dd) t_int64 H c t.dists ∧ tt ≠ dd
def JobA (n0 tt dd : Nat) (H : AHeap) (v : AVal) (t : Tbl) (j : Jsc) : Prop := ∃ a b c, v = .agg (j.cells a b c) ∧ JobC n0 tt dd H a b c t
variable {n0 tt dd : Nat} {j : Jsc} {a b c : AVal}
theorem JobC.le (h : JobC n0 tt dd H a b c t) (hl : Le H H') : JobC n0 tt dd H' a b c t := by
  obtain ⟨h1, h2, h3, h4⟩ := h
  exact ⟨h1.leI hl, h2.leL hl, h3.leI hl, h4⟩
theorem JobC.nk (h : JobC n0 tt dd H a b c t) (hl : Fr (Nk id H) H H') : JobC n0 tt dd H' a b c t := by
  obtain ⟨h1, h2, h3, h4⟩ := h
  exact ⟨h1.nkI hl, h2.nkL hl, h3.nkI hl, h4⟩
theorem JobC.bk (h : JobC n0 tt dd H a b c t) (hf : Fr (Bk P' e H) H H') (e1 : e ≠ t_int64) (e2 : e ≠ t_Sint64) : JobC n0 tt dd H' a b c t := by
  obtain ⟨h1, h2, h3, h4⟩ := h
  exact ⟨h1.bkI hf e1, h2.bkL hf e2 e1, h3.bkI hf e1, h4⟩
theorem JobC.rd (h : JobC n0 tt dd H a b c t) : JobR H (.agg (j.cells a b c)) t j := ⟨a, b, c, rfl, h.1.any, Seq.anyL h.2.1, h.2.2.1.any⟩
theorem JobR.le (h : JobR H v t j) (hl : Le H H') : JobR H' v t j := by
  obtain ⟨a, b, c, rfl, h1, h2, h3⟩ := h
  exact ⟨a, b, c, rfl, h1.leI hl, h2.leL hl, h3.leI hl⟩
theorem JobR.nk (h : JobR H v t j) (hl : Fr (Nk id H) H H') : JobR H' v t j := by
  obtain ⟨a, b, c, rfl, h1, h2, h3⟩ := h
  exact ⟨a, b, c, rfl, h1.nkI hl, h2.nkL hl, h3.nkI hl⟩
theorem JobR.bk (h : JobR H v t j) (hf : Fr (Bk P' e H) H H') (e1 : e ≠ t_int64) (e2 : e ≠ t_Sint64) : JobR H' v t j := by
  obtain ⟨a, b, c, rfl, h1, h2, h3⟩ := h
  exact ⟨a, b, c, rfl, h1.bkI hf e1, h2.bkL hf e2 e1, h3.bkI hf e1⟩
theorem cells_j (h1 : a.isCell = true) (h2 : b.isCell = true) (h3 : c.isCell = true) : (j.cells a b c).all AVal.isCell = true := by
  simp only [Jsc.cells, List.all_cons, List.all_nil, h1, h2, h3]; rfl
theorem JobC.cells (h : JobC n0 tt dd H a b c t) : (j.cells a b c).all AVal.isCell = true := cells_j h.1.isCell h.2.1.isCell h.2.2.1.isCell
/-- A sequence has one block. -/
theorem Seq.ex {L : List X} (h : Seq R m P e H v L) (N : Nat) : ∃ i, (i = N ∨ (P i ∧ i < H.next)) ∧ Seq R m (· = i) e H v L := by
  cases h with
  | nil => exact ⟨N, .inl rfl, .nil⟩
  | mk id off fz c L hP hid hg hl hb hm hR => exact ⟨id, .inr ⟨hP, hid⟩, .mk id off fz c L rfl hid hg hl hb hm hR⟩
/-- Three lists made one after the other. -/
theorem JobC.mk' {N1 N2 N3 : Nat} (h1 : Ints .own (Iv n0 N1) H a A) (h2 : Lists .own (Iv N1 N2) (Iv N1 N2) H b LL) (h3 : Ints .own (Iv N2 N3) H c D) (k0 : n0 < N1) (k1 : N1 ≤ N2) (k2 : N2 ≤ N3) : ∃ tt dd, JobC n0 tt dd H a b c ⟨A, LL, D⟩ := by
  obtain ⟨tt, ht, h1⟩ := h1.ex n0
  obtain ⟨dd, hd, h3⟩ := h3.ex N3
  have t1 : n0 ≤ tt ∧ tt < N1 := by
    rcases ht with rfl | ⟨h, _⟩
    · exact ⟨Nat.le_refl _, k0⟩
    · exact h
  have t2 : N2 ≤ dd := by
    rcases hd with rfl | ⟨h, _⟩
    · exact k2
    · exact h.1
  exact ⟨tt, dd, h1.mono fun id _ h => ⟨by omega, h⟩, (h2.mono fun id _ h => by have := h.1; omega).monoR fun id _ h => ⟨by have := h.1; omega, by have := h.1; omega, by have := h.2; omega⟩, h3.mono fun id _ h => ⟨by omega, h⟩, by omega⟩
theorem fill_job {a b c : AVal} (h1 : a.isCell = true) (h2 : b.isCell = true) (h3 : c.isCell = true) : afillM (plc [(0, 3), (3, 1), (4, 1), (5, 1)]) [(0, .agg [a, b, c])] [.nilS, .nilS, .nilS, .int .i64 0, .str [], .int .i64 0] = ret [a, b, c, i64 0, .str [], i64 0] := by
  have e1 : cellsN 3 (.agg [a, b, c]) = ret [a, b, c] := cellsN_of rfl (cells_t h1 h2 h3)
  simp only [afillM, plc, List.getElem?_cons_zero, e1]
  rfl
theorem fill_job4 {a b c : AVal} {nx sy : Int} {lg : List UInt8} (h1 : a.isCell = true) (h2 : b.isCell = true) (h3 : c.isCell = true) : afillM (plc [(0, 3), (3, 1), (4, 1), (5, 1)]) [(0, .agg [a, b, c]), (1, i64 nx), (2, .str lg), (3, i64 sy)] [.nilS, .nilS, .nilS, .int .i64 0, .str [], .int .i64 0] = ret [a, b, c, i64 nx, .str lg, i64 sy] := by
  have e1 : cellsN 3 (.agg [a, b, c]) = ret [a, b, c] := cellsN_of rfl (cells_t h1 h2 h3)
  have e2 : ∀ z, cell1 (i64 z) = ret (i64 z) := fun _ => rfl
  have e3 : ∀ z, cell1 (.str z) = ret (.str z) := fun _ => rfl
  simp only [afillM, plc, List.getElem?_cons_zero, List.getElem?_cons_succ, e1, e2, e3]
  rfl
def j0 : Jsc := ⟨0, [], 0⟩
theorem c_l28Start (hp : Hp H) (ha : Ints .ro P H u A) (k : ∀ v tt dd H', Le H H' → JobA H.next tt dd H' v ⟨A, [A], [0]⟩ j0 → Q v H') : W (s_sp_l28Start u) H Q := by
  unfold s_sp_l28Start
  refine W.alloc hp fun x1 H1 l1 b1 => ?_
  have b1 := Bx.iv b1
  refine W.bnd (c_copyInts l1.wf (ha.leI l1) fun x2 H2 l2 h2 => ?_)
  have b1 := b1.le l2
  have h2 := h2.mono (P' := Iv H1.next H2.next) fun id hid h => ⟨h, hid⟩
  refine W.bnd (c_copyInts l2.wf ((ha.leI l1).leI l2) fun x3 H3 l3 h3 => ?_)
  have b1 := b1.le l3
  have h2 := h2.leI l3
  have h3 := h3.mono (P' := Iv H2.next H3.next) fun id hid h => ⟨h, hid⟩
  simp only [bnd_as, ↓wr_c1 h3.isCell, ↓wr_ret, ↓wr_c1i]
  refine W.lit1f (R := RL (Iv H2.next H3.next)) (a := A) l3.wf h3.isCell (fun H' l => h3.ro.leI l) fun x5 H4 l4 h5 => ?_
  have b1 := b1.le l4
  have h2 := h2.leI l4
  have h5 := (h5.mono (P' := Iv H2.next H4.next) fun id hid h => ⟨Nat.le_trans l3.nx h, hid⟩)
  simp only [↓wr_c1i, ↓wr_ret]
  refine W.lit1f (R := RI) (a := 0) l4.wf rfl (fun _ _ => rfl) fun x7 H5 l5 h7 => ?_
  have b1 := b1.le l5
  have h2 := h2.leI l5
  have h5 := h5.leL l5
  have h7 := h7.mono (P' := Iv H4.next H5.next) fun id hid h => ⟨h, hid⟩
  simp only [↓wr_c1 h2.isCell, ↓wr_c1 h5.isCell, ↓wr_c1 h7.isCell, ↓wr_ret]
  refine W.alloc l5.wf fun x12 H6 l6 b12 => ?_
  have b1 := b1.le l6
  have h2 := h2.leI l6
  have h5 := h5.leL l6
  have h7 := h7.leI l6
  have l := ((((l1.tr l2).tr l3).tr l4).tr l5).tr l6
  refine W.fsw l6.wf b12 rfl rfl (cells_t h2.isCell h5.isCell h7.isCell) fun H7 f7 b12 => ?_
  have b1 := b1.bk f7 (by decide)
  have h2 := h2.bkI f7 (by decide)
  have h5 := h5.bkL f7 (by decide) (by decide)
  have h7 := h7.bkI f7 (by decide)
  have n5 : H.next ≤ H5.next := ((((l1.tr l2).tr l3).tr l4).tr l5).nx
  have l := l.nw f7 fun id hid h => absurd h.1 (by show ¬H5.next ≤ id; omega)
  simp only [↓wr_ld3 b12, fill_job h2.isCell h5.isCell h7.isCell, ↓wr_ret]
  refine W.fsw l.wf b1 rfl rfl (cells_j (j := j0) h2.isCell h5.isCell h7.isCell) fun H8 f8 b1 => ?_
  have h2 := h2.bkI f8 (by decide)
  have h5 := h5.bkL f8 (by decide) (by decide)
  have h7 := h7.bkI f8 (by decide)
  have l := l.nw f8 fun id hid h => absurd h.1.1 (by omega)
  simp only [↓wr_ld6 b1]
  have hlt : H.next < H1.next := by
    obtain ⟨id, _, hid, _⟩ := b1
    have := hid.1; have := hid.2; omega
  obtain ⟨tt, dd, hj⟩ := JobC.mk' (n0 := H.next) (N1 := H2.next) (N2 := H4.next) (N3 := H5.next) (h2.mono fun id _ h => ⟨Nat.le_trans l1.nx h.1, h.2⟩) (Seq.monoR (P2' := Iv H2.next H4.next) h5 fun id hid h => ⟨h.1, Nat.lt_of_lt_of_le h.2 l4.nx⟩) h7 (by have := l2.nx; omega) (Nat.le_trans l3.nx l4.nx) l5.nx
  exact W.ret (k _ tt dd _ l ⟨_, _, _, rfl, hj⟩)
theorem JobC.mono {n1 : Nat} (h : JobC n1 tt dd H a b c t) (hn : n0 ≤ n1) : JobC n0 tt dd H a b c t := by
  obtain ⟨h1, h2, h3, h4⟩ := h
  exact ⟨h1.mono fun id _ h => ⟨Nat.le_trans hn h.1, h.2⟩, (h2.mono fun id _ h => Nat.le_trans hn h).monoR fun id _ h => ⟨Nat.le_trans hn h.1, h.2⟩, h3.mono fun id _ h => ⟨Nat.le_trans hn h.1, h.2⟩, h4⟩
theorem JobA.mono {n1 : Nat} (h : JobA n1 tt dd H v t j) (hn : n0 ≤ n1) : JobA n0 tt dd H v t j := by
  obtain ⟨a, b, c, rfl, h⟩ := h
  exact ⟨a, b, c, rfl, h.mono hn⟩
theorem JobA.bk (h : JobA n0 tt dd H v t j) (hf : Fr (Bk P' e H) H H') (e1 : e ≠ t_int64) (e2 : e ≠ t_Sint64) : JobA n0 tt dd H' v t j := by
  obtain ⟨a, b, c, rfl, h⟩ := h
  exact ⟨a, b, c, rfl, h.bk hf e1 e2⟩
theorem JobA.rd (h : JobA n0 tt dd H v t j) : JobR H v t j := by
  obtain ⟨a, b, c, rfl, h⟩ := h
  exact h.rd
theorem c_StartFill (hp : Hp H) (h : PuzA P P2 H v p) (ha : Ints .ro P3 H u A) (k0 : ∀ H', Le H H' → Q (.tuple [.agg (j0.cells .nilS .nilS .nilS), .bool false]) H')
    (k : ∀ w tt dd H', Le H H' → Tracked p A → JobA H.next tt dd H' w ⟨A, [A], [0]⟩ j0 → Q (.tuple [w, .bool true]) H') : W (s_sp_StartFill v u) H Q := by
  have hpz := h
  obtain ⟨mv, rfl, hm, h64, hnl⟩ := h
  unfold s_sp_StartFill
  refine W.box hp (by decide) rfl (cells_p hm.isCell) fun x1 H1 l1 b1 => ?_
  refine W.alloc l1.wf fun x2 H2 l2 b2 => ?_
  have b1 := b1.le l2
  have b2 := Bx.iv b2
  have l := l1.tr l2
  simp only [↓wr_ld3 b1]
  refine W.bnd (c_BuildTable (p := p) l.wf (hpz.le l) (ha.leI l) (fun H3 l3 _ => ?_) fun a b c H3 L D n1 n2 l3 htr hf h1 h2 ha' hb hc => ?_)
  · have b2 := b2.le l3
    have l := l.tr l3
    simp only [↓wr_ret, ↓wr_gd_tt, ↓wr_gd_ff, ↓wr_gd_tf, ↓wr_gd_ft, ↓wr_gd_s, ↓wr_pick_t, ↓wr_pick_f, ↓wr_br_t, ↓wr_br_f, ↓wr_bbr_t, ↓wr_bbr_f, ↓wr_lss, ↓wr_leq, ↓wr_gtr, ↓wr_geq, ↓wr_eql, ↓wr_neq, ↓wr_not, ↓wr_cv, ↓wr_extr0, ↓wr_extr1, ↓wr_extr2, ↓wr_lenT, ↓wr_getH, gx0, gx1, gx2, gx3, ife_e, ife_n, ife_r, ife_re, ife_ne', ife_nr, ife_en, ife_rn, ife_er, decide_true, decide_false, Bool.not_true, Bool.not_false]
    refine W.alloc l.wf fun x7 H4 l4 b7 => ?_
    have b2 := b2.le l4
    have l := l.tr l4
    have n3 : H2.next ≤ H3.next := l3.nx
    refine W.fsw l.wf b7 rfl rfl rfl fun H5 f5 b7 => ?_
    have b2 := b2.bk f5 (by decide)
    have l := l.nw f5 fun id hid h => absurd h.1 (by have := l1.nx; have := l2.nx; show ¬H3.next ≤ id; omega)
    simp only [↓wr_ret, ↓wr_gd_tt, ↓wr_gd_ff, ↓wr_gd_tf, ↓wr_gd_ft, ↓wr_gd_s, ↓wr_pick_t, ↓wr_pick_f, ↓wr_br_t, ↓wr_br_f, ↓wr_bbr_t, ↓wr_bbr_f, ↓wr_lss, ↓wr_leq, ↓wr_gtr, ↓wr_geq, ↓wr_eql, ↓wr_neq, ↓wr_not, ↓wr_cv, ↓wr_extr0, ↓wr_extr1, ↓wr_extr2, ↓wr_lenT, ↓wr_getH, gx0, gx1, gx2, gx3, ife_e, ife_n, ife_r, ife_re, ife_ne', ife_nr, ife_en, ife_rn, ife_er, decide_true, decide_false, Bool.not_true, Bool.not_false, ↓wr_assoc]
    refine W.fsw l.wf b2 rfl rfl rfl fun H6 f6 b2 => ?_
    have l := l.nw f6 fun id hid h => absurd h.1.1 (by have := l1.nx; omega)
    simp only [↓wr_ld6 b2]
    exact W.ret (k0 _ l)
  · have b2 := b2.le l3
    have l := l.tr l3
    simp only [↓wr_ret, ↓wr_gd_tt, ↓wr_gd_ff, ↓wr_gd_tf, ↓wr_gd_ft, ↓wr_gd_s, ↓wr_pick_t, ↓wr_pick_f, ↓wr_br_t, ↓wr_br_f, ↓wr_bbr_t, ↓wr_bbr_f, ↓wr_lss, ↓wr_leq, ↓wr_gtr, ↓wr_geq, ↓wr_eql, ↓wr_neq, ↓wr_not, ↓wr_cv, ↓wr_extr0, ↓wr_extr1, ↓wr_extr2, ↓wr_lenT, ↓wr_getH, gx0, gx1, gx2, gx3, ife_e, ife_n, ife_r, ife_re, ife_ne', ife_nr, ife_en, ife_rn, ife_er, decide_true, decide_false, Bool.not_true, Bool.not_false]
    refine W.alloc l.wf fun x7 H4 l4 b7 => ?_
    have b2 := b2.le l4
    have l := l.tr l4
    have n3 : H2.next ≤ H3.next := l3.nx
    refine W.fsw l.wf b7 rfl rfl (cells_t ha'.isCell hb.isCell hc.isCell) fun H5 f5 b7 => ?_
    have b2 := b2.bk f5 (by decide)
    have l := l.nw f5 fun id hid h => absurd h.1 (by have := l1.nx; have := l2.nx; show ¬H3.next ≤ id; omega)
    simp only [↓wr_ret, ↓wr_gd_tt, ↓wr_gd_ff, ↓wr_gd_tf, ↓wr_gd_ft, ↓wr_gd_s, ↓wr_pick_t, ↓wr_pick_f, ↓wr_br_t, ↓wr_br_f, ↓wr_bbr_t, ↓wr_bbr_f, ↓wr_lss, ↓wr_leq, ↓wr_gtr, ↓wr_geq, ↓wr_eql, ↓wr_neq, ↓wr_not, ↓wr_cv, ↓wr_extr0, ↓wr_extr1, ↓wr_extr2, ↓wr_lenT, ↓wr_getH, gx0, gx1, gx2, gx3, ife_e, ife_n, ife_r, ife_re, ife_ne', ife_nr, ife_en, ife_rn, ife_er, decide_true, decide_false, Bool.not_true, Bool.not_false]
    refine W.bnd (c_l28Start l.wf (ha.leI l) fun w tt dd H6 l6 hj => ?_)
    have b2 := b2.le l6
    have nl := l.nx
    have l := l.tr l6
    obtain ⟨a, b, c, rfl, hj⟩ := hj
    refine W.fsw l.wf b2 rfl rfl hj.cells fun H7 f7 b2 => ?_
    have l := l.nw f7 fun id hid h => absurd h.1.1 (by have := l1.nx; omega)
    have b2 : Bx (Iv H1.next H2.next) t_impl_FillJob H7 x2 [a, b, c, i64 j0.nx, .str j0.lg, i64 j0.sy] := b2
    simp only [↓wr_ld6 b2]
    exact W.ret (k _ tt dd _ l htr ⟨a, b, c, rfl, (hj.bk f7 (by decide) (by decide)).mono nl⟩)
theorem c_l28CopyTable (hp : Hp H) (h : TblA P P2 H v t) (k : ∀ a b c tt dd H', Le H H' → JobC H.next tt dd H' a b c t → Q (.agg [a, b, c]) H') : W (s_sp_l28CopyTable v) H Q := by
  obtain ⟨a, b, c, rfl, ha, hb, hc⟩ := h
  unfold s_sp_l28CopyTable
  refine W.box hp (by decide) rfl (cells_t ha.isCell hb.isCell hc.isCell) fun x1 H1 l1 b1 => ?_
  refine W.alloc l1.wf fun x2 H2 l2 b2 => ?_
  have b1 := b1.le l2
  have b2 := Bx.iv b2
  have l := l1.tr l2
  have hlt : H1.next < H2.next := by
    obtain ⟨id, _, hid, _⟩ := b2
    have := hid.1; have := hid.2; omega
  simp only [↓wr_fadd b1, ↓wr_f0 b1, ↓wr_getH]
  have b12 := b1
  refine W.bnd (c_copyInts l.wf (ha.leI l) fun x6 H3 l3 h6 => ?_)
  have b1 := b1.le l3
  have b2 := b2.le l3
  have l := l.tr l3
  have h6 := h6.mono (P' := Iv H2.next H3.next) fun id hid h => ⟨h, hid⟩
  simp only [↓wr_fadd b1, ↓wr_f1 b1]
  refine W.agn1 (b12.ld1 rfl) ?_
  have b13 := b1
  simp only [↓wr_getH]
  refine W.bnd (c_copyLists l.wf (hb.leL l) fun x10 H4 l4 h10 => ?_)
  have b1 := b1.le l4
  have b2 := b2.le l4
  have l := l.tr l4
  have h6 := h6.leI l4
  have h10 := ((h10.mono (P' := Iv H3.next H4.next) fun id hid h => ⟨h, hid⟩).monoR (P2' := Iv H3.next H4.next) fun id hid h => ⟨h, hid⟩)
  simp only [↓wr_fadd b1, ↓wr_f2 b1]
  refine W.agn2 (b13.ld1 rfl) (b12.ld1 rfl) ?_
  refine W.bnd (c_copyInts l.wf (hc.leI l) fun x13 H5 l5 h13 => ?_)
  have b2 := b2.le l5
  have l := l.tr l5
  have h6 := h6.leI l5
  have h10 := h10.leL l5
  have h13 := h13.mono (P' := Iv H4.next H5.next) fun id hid h => ⟨h, hid⟩
  simp only [bnd_as, ↓wr_c1 h6.isCell, ↓wr_c1 h10.isCell, ↓wr_c1 h13.isCell, ↓wr_ret]
  refine W.fsw l.wf b2 rfl rfl (cells_t h6.isCell h10.isCell h13.isCell) fun H6 f6 b2 => ?_
  have l := l.nw f6 fun id hid h => absurd h.1.1 (by have := l1.nx; omega)
  simp only [↓wr_ld3 b2]
  obtain ⟨tt, dd, hj⟩ := JobC.mk' (n0 := H.next) ((h6.bkI f6 (by decide)).mono (P' := Iv H.next H3.next) fun id _ h => ⟨Nat.le_trans (Nat.le_trans l1.nx l2.nx) h.1, h.2⟩) (h10.bkL f6 (by decide) (by decide)) (h13.bkI f6 (by decide)) (by have := l1.nx; have := l3.nx; omega) l4.nx l5.nx
  exact W.ret (k _ _ _ tt dd _ l hj)
theorem wr_fadd' {Q : β → AHeap → Prop} (h : Bx P e H x cs) : W (bnd (ldn 3 (fieldP x 0)) f) H Q ↔ W (bnd (ldn 3 x) f) H Q := by
  obtain ⟨id, rfl, _⟩ := h
  exact Iff.rfl
theorem wr_ldt {Q : β → AHeap → Prop} {d g h' : AVal} (h : Bx P e H x [a, b, c, d, g, h']) : W (bnd (ldn 3 x) f) H Q ↔ W (f (.agg [a, b, c])) H Q := by
  obtain ⟨id, rfl, h1, h2, h3⟩ := h
  refine wr_e ?_
  simp [ldn, rd, h3]
theorem c_l28Copy (hp : Hp H) (h : JobR H v t j) (k : ∀ w tt dd H', Le H H' → JobA H.next tt dd H' w t j → Q w H') : W (s_sp_l28Copy v) H Q := by
  obtain ⟨a, b, c, rfl, ha, hb, hc⟩ := h
  unfold s_sp_l28Copy
  refine W.box hp (by decide) rfl (cells_j ha.isCell hb.isCell hc.isCell) fun x1 H1 l1 b1 => ?_
  have b1 : Bx (Nw H) t_impl_FillJob H1 x1 [a, b, c, i64 j.nx, .str j.lg, i64 j.sy] := b1
  have b1 := Bx.iv b1
  refine W.alloc l1.wf fun x2 H2 l2 b2 => ?_
  have b1 := b1.le l2
  have b2 := Bx.iv b2
  have l := l1.tr l2
  have b12 := b1
  simp only [↓wr_fadd b1, ↓wr_fadd' b1, ↓wr_ldt b1, ↓wr_getH]
  refine W.bnd (c_l28CopyTable (t := t) (P := Any) (P2 := Any) l.wf ⟨a, b, c, rfl, ha.leI l, hb.leL l, hc.leI l⟩ fun a' b' c' tt dd H3 l3 hj => ?_)
  have b1 := b1.le l3
  have b2 := b2.le l3
  have nl := l.nx
  have l := l.tr l3
  simp only [↓wr_fadd b1, ↓wr_f3 b1]
  refine W.agn1 (b12.ld1 rfl) ?_
  simp only [↓wr_fadd b1, ↓wr_f4 b1]
  refine W.agn1 (b12.ld1 rfl) ?_
  simp only [↓wr_fadd b1, ↓wr_f5 b1]
  refine W.agn1 (b12.ld1 rfl) ?_
  simp only [bnd_as, fill_job4 hj.1.isCell hj.2.1.isCell hj.2.2.1.isCell, ↓wr_ret]
  refine W.fsw l.wf b2 rfl rfl (hj.cells (j := j)) fun H4 f4 b2 => ?_
  have l := l.nw f4 fun id hid h => absurd h.1.1 (by have := l1.nx; omega)
  simp only [↓wr_ld6 b2]
  exact W.ret (k _ tt dd _ l ⟨a', b', c', rfl, (hj.bk f4 (by decide) (by decide)).mono nl⟩)
/-! Records -/
theorem RB_wrap {n : Int} : RB H (.int .u8 (IntKind.u8.wrap n)) (UInt8.ofNat (n % 256).toNat) := by
  have : IntKind.u8.wrap n = n % 256 := rfl
  show AVal.int .u8 _ = _
  rw [this]
  simp only [UInt8.toNat_ofNat', AVal.int.injEq, true_and]
  omega
theorem wr_c1u {Q : β → AHeap → Prop} {k : IntKind} {n : Int} : W (bnd (cell1 (.int k n)) f) H Q ↔ W (f (.int k n)) H Q := wr_p rfl
theorem c_l28Record (hp : Hp H) (hl : Lists .ro P P2 H v LL) (h1 : LL.length ≤ 100) (h2 : ∀ A ∈ LL, A.length ≤ 100) (k : ∀ s H', Le H H' → s.length ≤ 20000 → Q (.str s) H') : W (s_sp_l28Record (i64 n) v) H Q := by
  unfold s_sp_l28Record
  simp only [↓wr_quo (show (256 : Int) ≠ 0 by decide), ↓wr_rem (show (256 : Int) ≠ 0 by decide), ↓wr_cv, ↓wr_len hl, bnd_as, ↓wr_c1u, ↓wr_ret]
  refine W.mkseq (R := RB) hp [UInt8.ofNat ((IntKind.i64.wrap (n.tdiv 256)) % 256).toNat, UInt8.ofNat ((n.tmod 256) % 256).toNat, UInt8.ofNat ((LL.length : Int) % 256).toNat] rfl rfl (by simp) (fun H' _ i hi => by
    match i, hi with
    | 0, _ => exact ⟨_, rfl, rfl, RB_wrap⟩
    | 1, _ => exact ⟨_, rfl, rfl, RB_wrap⟩
    | 2, _ => exact ⟨_, rfl, rfl, RB_wrap⟩) fun x10 H1 l1 hx => ?_
  refine W.lq (fun q st Hk => ∃ (i : Nat) (o : AVal) (B : List UInt8), q = LL.length - i ∧ i ≤ LL.length ∧ st = [o, i64 (i : Int)] ∧ Le H Hk ∧ Bytes .own (Nw H) Hk o B ∧ B.length ≤ 3 + 100 * i)
    (fun rr Hk => ∃ (o : AVal) (B : List UInt8), rr = (.exit 0, [o]) ∧ Le H Hk ∧ Bytes .own (Nw H) Hk o B ∧ B.length ≤ 3 + 100 * LL.length) LL.length
    ⟨0, x10, _, rfl, Nat.zero_le _, rfl, l1, hx, by simp⟩ ?_ ?_
  · rintro q st Hk ⟨i, o, B, rfl, hi, rfl, lk, ho, hB⟩ Q' kn kx
    by_cases hlt : i < LL.length
    · have hlt' : (i : Int) < LL.length := by omega
      simp only [↓wr_len hl, hlt', ↓wr_ret, ↓wr_gd_tt, ↓wr_gd_ff, ↓wr_gd_tf, ↓wr_gd_ft, ↓wr_gd_s, ↓wr_pick_t, ↓wr_pick_f, ↓wr_br_t, ↓wr_br_f, ↓wr_bbr_t, ↓wr_bbr_f, ↓wr_lss, ↓wr_leq, ↓wr_gtr, ↓wr_geq, ↓wr_eql, ↓wr_neq, ↓wr_not, ↓wr_cv, ↓wr_extr0, ↓wr_extr1, ↓wr_extr2, ↓wr_lenT, ↓wr_getH, gx0, gx1, gx2, gx3, ife_e, ife_n, ife_r, ife_re, ife_ne', ife_nr, ife_en, ife_rn, ife_er, decide_true, decide_false, Bool.not_true, Bool.not_false]
      have hAl := h2 _ (List.getElem_mem hlt)
      refine W.lq (fun q st Hm => ∃ (d : Nat) (o : AVal) (B : List UInt8), q = LL[i].length - d ∧ d ≤ LL[i].length ∧ st = [o, i64 (d : Int)] ∧ Le H Hm ∧ Bytes .own (Nw H) Hm o B ∧ B.length ≤ 3 + 100 * i + d)
        (fun rr Hm => ∃ (o : AVal) (B : List UInt8), rr = (.exit 2, [o]) ∧ Le H Hm ∧ Bytes .own (Nw H) Hm o B ∧ B.length ≤ 3 + 100 * i + LL[i].length) LL[i].length
        ⟨0, o, B, rfl, Nat.zero_le _, rfl, lk, ho, hB⟩ ?_ ?_
      · rintro q st Hm ⟨d, o, B, rfl, hd, rfl, lm, ho, hB⟩ Q'' kn' kx'
        have hlm := hl.leL lm
        obtain ⟨z, hz, hL, _⟩ := hlm.ld1 hlt
        have hL : Ints .ro P2 Hm z LL[i] := hL
        by_cases hdl : d < LL[i].length
        · have hdl' : (d : Int) < LL[i].length := by omega
          simp only [↓wr_ix hlm hlt, ↓wr_e hz, ↓wr_len hL, hdl', ↓wr_ret, ↓wr_gd_tt, ↓wr_gd_ff, ↓wr_gd_tf, ↓wr_gd_ft, ↓wr_gd_s, ↓wr_pick_t, ↓wr_pick_f, ↓wr_br_t, ↓wr_br_f, ↓wr_bbr_t, ↓wr_bbr_f, ↓wr_lss, ↓wr_leq, ↓wr_gtr, ↓wr_geq, ↓wr_eql, ↓wr_neq, ↓wr_not, ↓wr_cv, ↓wr_extr0, ↓wr_extr1, ↓wr_extr2, ↓wr_lenT, ↓wr_getH, gx0, gx1, gx2, gx3, ife_e, ife_n, ife_r, ife_re, ife_ne', ife_nr, ife_en, ife_rn, ife_er, decide_true, decide_false, Bool.not_true, Bool.not_false, ↓wr_ix hL hdl, ↓wr_ldI hL hdl, ↓wr_c1u, bnd_as]
          refine W.app1f (R := RB) (P := Nw H) lm.wf ho stb_RB rfl (by decide) (by omega) (fun id hid => Nat.le_trans lm.nx hid) RB_wrap fun y Hn fn hy => ?_
          rw [wr_inc (by omega)]
          refine W.ret (kn' (LL[i].length - (d + 1)) _ _ (by omega) ⟨d + 1, y, _, rfl, hdl, rfl, lm.nw fn fun id hid h => absurd h.1 (by omega), hy, by simp; omega⟩)
        · have hdl' : ¬(d : Int) < LL[i].length := by omega
          simp only [↓wr_ix hlm hlt, ↓wr_e hz, ↓wr_len hL, hdl', ↓wr_ret, ↓wr_gd_tt, ↓wr_gd_ff, ↓wr_gd_tf, ↓wr_gd_ft, ↓wr_gd_s, ↓wr_pick_t, ↓wr_pick_f, ↓wr_br_t, ↓wr_br_f, ↓wr_bbr_t, ↓wr_bbr_f, ↓wr_lss, ↓wr_leq, ↓wr_gtr, ↓wr_geq, ↓wr_eql, ↓wr_neq, ↓wr_not, ↓wr_cv, ↓wr_extr0, ↓wr_extr1, ↓wr_extr2, ↓wr_lenT, ↓wr_getH, gx0, gx1, gx2, gx3, ife_e, ife_n, ife_r, ife_re, ife_ne', ife_nr, ife_en, ife_rn, ife_er, decide_true, decide_false, Bool.not_true, Bool.not_false]
          exact W.ret (kx' _ _ _ (by simp) ⟨o, B, rfl, lm, ho, by omega⟩)
      · rintro rr Hm ⟨o, B, rfl, lm, ho, hB⟩
        simp only [↓wr_ret, ↓wr_gd_tt, ↓wr_gd_ff, ↓wr_gd_tf, ↓wr_gd_ft, ↓wr_gd_s, ↓wr_pick_t, ↓wr_pick_f, ↓wr_br_t, ↓wr_br_f, ↓wr_bbr_t, ↓wr_bbr_f, ↓wr_lss, ↓wr_leq, ↓wr_gtr, ↓wr_geq, ↓wr_eql, ↓wr_neq, ↓wr_not, ↓wr_cv, ↓wr_extr0, ↓wr_extr1, ↓wr_extr2, ↓wr_lenT, ↓wr_getH, gx0, gx1, gx2, gx3, ife_e, ife_n, ife_r, ife_re, ife_ne', ife_nr, ife_en, ife_rn, ife_er, decide_true, decide_false, Bool.not_true, Bool.not_false]
        rw [wr_inc (by omega)]
        exact W.ret (kn (LL.length - (i + 1)) _ _ (by omega) ⟨i + 1, o, B, rfl, hlt, rfl, lm, ho, by omega⟩)
    · have hlt' : ¬(i : Int) < LL.length := by omega
      simp only [↓wr_len hl, hlt', ↓wr_ret, ↓wr_gd_tt, ↓wr_gd_ff, ↓wr_gd_tf, ↓wr_gd_ft, ↓wr_gd_s, ↓wr_pick_t, ↓wr_pick_f, ↓wr_br_t, ↓wr_br_f, ↓wr_bbr_t, ↓wr_bbr_f, ↓wr_lss, ↓wr_leq, ↓wr_gtr, ↓wr_geq, ↓wr_eql, ↓wr_neq, ↓wr_not, ↓wr_cv, ↓wr_extr0, ↓wr_extr1, ↓wr_extr2, ↓wr_lenT, ↓wr_getH, gx0, gx1, gx2, gx3, ife_e, ife_n, ife_r, ife_re, ife_ne', ife_nr, ife_en, ife_rn, ife_er, decide_true, decide_false, Bool.not_true, Bool.not_false]
      have : i = LL.length := by omega
      exact W.ret (kx _ _ _ (by simp) ⟨o, B, rfl, lk, ho, by omega⟩)
  · rintro rr Hk ⟨o, B, rfl, lk, ho, hB⟩
    simp only [↓wr_ret, ↓wr_gd_tt, ↓wr_gd_ff, ↓wr_gd_tf, ↓wr_gd_ft, ↓wr_gd_s, ↓wr_pick_t, ↓wr_pick_f, ↓wr_br_t, ↓wr_br_f, ↓wr_bbr_t, ↓wr_bbr_f, ↓wr_lss, ↓wr_leq, ↓wr_gtr, ↓wr_geq, ↓wr_eql, ↓wr_neq, ↓wr_not, ↓wr_cv, ↓wr_extr0, ↓wr_extr1, ↓wr_extr2, ↓wr_lenT, ↓wr_getH, gx0, gx1, gx2, gx3, ife_e, ife_n, ife_r, ife_re, ife_ne', ife_nr, ife_en, ife_rn, ife_er, decide_true, decide_false, Bool.not_true, Bool.not_false, ↓wr_e (b2s_of ho)]
    exact W.ret (k _ _ lk (by omega))
theorem c_Checksum {s : List UInt8} (hs : s.length ≤ 1000000) (k : ∀ n, Q (i64 n) H) : W (s_sp_Checksum (.str s)) H Q := by
  unfold s_sp_Checksum
  refine W.lq (fun q st Hk => Hk = H ∧ ∃ (i : Nat) (a b : Int), q = s.length - i ∧ i ≤ s.length ∧ st = [i64 a, i64 b, i64 (i : Int)])
    (fun rr Hk => Hk = H ∧ ∃ (a b : Int), rr = (.exit 0, [i64 a, i64 b])) s.length
    ⟨rfl, 0, 1, 0, rfl, Nat.zero_le _, rfl⟩ ?_ ?_
  · rintro q st Hk ⟨rfl, i, a, b, rfl, hi, rfl⟩ Q' kn kx
    by_cases hlt : i < s.length
    · have hlt' : (i : Int) < s.length := by omega
      simp only [↓wr_ret, ↓wr_gd_tt, ↓wr_gd_ff, ↓wr_gd_tf, ↓wr_gd_ft, ↓wr_gd_s, ↓wr_pick_t, ↓wr_pick_f, ↓wr_br_t, ↓wr_br_f, ↓wr_bbr_t, ↓wr_bbr_f, ↓wr_lss, ↓wr_leq, ↓wr_gtr, ↓wr_geq, ↓wr_eql, ↓wr_neq, ↓wr_not, ↓wr_cv, ↓wr_extr0, ↓wr_extr1, ↓wr_extr2, ↓wr_lenT, ↓wr_getH, gx0, gx1, gx2, gx3, ife_e, ife_n, ife_r, ife_re, ife_ne', ife_nr, ife_en, ife_rn, ife_er, decide_true, decide_false, Bool.not_true, Bool.not_false, hlt', ↓wr_ixStr hlt, ↓wr_addw, ↓wr_rem (show (65521 : Int) ≠ 0 by decide)]
      have hw : IntKind.i64.wrap ((i : Int) + 1) = ((i + 1 : Nat) : Int) := by
        rw [wrap_in (by unfold In64; omega)]; rfl
      rw [hw]
      exact W.ret (kn (s.length - (i + 1)) _ _ (by omega) ⟨rfl, i + 1, _, _, rfl, hlt, rfl⟩)
    · have hlt' : ¬(i : Int) < s.length := by omega
      simp only [↓wr_ret, ↓wr_gd_tt, ↓wr_gd_ff, ↓wr_gd_tf, ↓wr_gd_ft, ↓wr_gd_s, ↓wr_pick_t, ↓wr_pick_f, ↓wr_br_t, ↓wr_br_f, ↓wr_bbr_t, ↓wr_bbr_f, ↓wr_lss, ↓wr_leq, ↓wr_gtr, ↓wr_geq, ↓wr_eql, ↓wr_neq, ↓wr_not, ↓wr_cv, ↓wr_extr0, ↓wr_extr1, ↓wr_extr2, ↓wr_lenT, ↓wr_getH, gx0, gx1, gx2, gx3, ife_e, ife_n, ife_r, ife_re, ife_ne', ife_nr, ife_en, ife_rn, ife_er, decide_true, decide_false, Bool.not_true, Bool.not_false, hlt']
      exact W.ret (kx _ _ _ (by simp) ⟨rfl, _, _, rfl⟩)
  · rintro rr Hk ⟨rfl, a, b, rfl⟩
    simp only [↓wr_ret, ↓wr_gd_tt, ↓wr_gd_ff, ↓wr_gd_tf, ↓wr_gd_ft, ↓wr_gd_s, ↓wr_pick_t, ↓wr_pick_f, ↓wr_br_t, ↓wr_br_f, ↓wr_bbr_t, ↓wr_bbr_f, ↓wr_lss, ↓wr_leq, ↓wr_gtr, ↓wr_geq, ↓wr_eql, ↓wr_neq, ↓wr_not, ↓wr_cv, ↓wr_extr0, ↓wr_extr1, ↓wr_extr2, ↓wr_lenT, ↓wr_getH, gx0, gx1, gx2, gx3, ife_e, ife_n, ife_r, ife_re, ife_ne', ife_nr, ife_en, ife_rn, ife_er, decide_true, decide_false, Bool.not_true, Bool.not_false, ↓wr_mulw, ↓wr_addw]
    exact W.ret (k _)
theorem c_l29Uint32 (hp : Hp H) (k : ∀ s H', Le H H' → s.length = 4 → Q (.str s) H') : W (s_sp_l29Uint32 (i64 n)) H Q := by
  unfold s_sp_l29Uint32
  simp only [↓wr_shr (show (0 : Int) ≤ 24 by decide), ↓wr_shr (show (0 : Int) ≤ 16 by decide), ↓wr_shr (show (0 : Int) ≤ 8 by decide), ↓wr_and255, ↓wr_cv, bnd_as, ↓wr_c1u, ↓wr_ret]
  generalize and255 _ = a1
  generalize and255 _ = a2
  generalize and255 _ = a3
  generalize and255 _ = a4
  refine W.mkseq (R := RB) hp [UInt8.ofNat (a1 % 256).toNat, UInt8.ofNat (a2 % 256).toNat, UInt8.ofNat (a3 % 256).toNat, UInt8.ofNat (a4 % 256).toNat] rfl rfl (by simp) (fun H' _ i hi => by
    match i, hi with
    | 0, _ => exact ⟨_, rfl, rfl, RB_wrap⟩
    | 1, _ => exact ⟨_, rfl, rfl, RB_wrap⟩
    | 2, _ => exact ⟨_, rfl, rfl, RB_wrap⟩
    | 3, _ => exact ⟨_, rfl, rfl, RB_wrap⟩) fun x10 H1 l1 hx => ?_
  simp only [↓wr_e (b2s_of hx)]
  exact W.ret (k _ _ l1 rfl)
end
end Go.Am

end

section
set_option linter.unusedSimpArgs false
set_option linter.unusedVariables false
/- Contracts of the draws: a job grows. -/
namespace Go.Am
section
variable {β X : Type} {f : AVal → AM β} {Q : AVal → AHeap → Prop} {R : AHeap → AVal → X → Prop} {m m2 : Md} {P P2 P3 P4 P5 P' S T : Nat → Prop} {e e2 : TypeId} {H H0 H1 H2 H' : AHeap} {v u x y : AVal} {A B C s D r : List Int} {L LL : List (List Int)} {p : Puz} {cs : List AVal} {t : Tbl} {id : Nat} {n : Int} {n0 tt dd : Nat} {j : Jsc} {a b c : AVal}
/-- append of one thing, in the flat form: the new block has a name. -/
theorem W.app1nf {Q : β → AHeap → Prop} {L : List X} {w : X} {bytes : Nat} (hp : Hp H) (h : Seq R .own P e H v L) (hs : Stb P e R) (hu : u.isCell = true) (hb : bytes ≤ 4096) (hlen : L.length + 1 ≤ 1073741824) (hw : R H u w)
    (k : ∀ y H' d, H.next ≤ d → d < H'.next → Fr (Bk P e H) H H' → Seq R .own (· = d) e H' y (L ++ [w]) → W (f y) H' Q) :
    W (Am.bnd (allocS none e 1 1 [u]) fun z => Am.bnd (appS e 1 bytes v z) f) H Q := by
  refine W.lit1f (R := R) hp hu (a := w) (fun H' l => hs l.bk hw) fun z H1 l1 h1 => ?_
  exact W.appn l1.wf (h.fr l1 (fun _ _ _ _ _ _ h => h) fun v x hx => hs l1.bk hx) h1 (by simp) hb (by simpa using hlen) (fun H' f v x hx => hs f hx) fun y H2 f2 h2 => k y H2 _ l1.nx (by
    obtain ⟨id, hP, hid⟩ := h2.place (by simp)
    subst hP; exact hid) (l1.bk.bk f2) h2
theorem wr_sadd {Q : β → AHeap → Prop} {s t : List UInt8} (h : s.length + t.length ≤ 10000000) : W (bnd (abin .add (.str s) (.str t)) f) H Q ↔ W (f (.str (s ++ t))) H Q := by
  refine wr_p ?_
  have : s.length + t.length ≤ maxStr := by unfold maxStr; omega
  simp only [abin]
  rw [if_pos this]
/-- A job whose parts fit together; at most B entries. -/
structure JobOk (t : Tbl) (j : Jsc) (B : Nat) : Prop where
  len : t.dists.length = t.patterns.length
  few : t.patterns.length ≤ B
  nx : ∃ n : Nat, j.nx = n ∧ n ≤ t.patterns.length
  ne : 1 ≤ t.patterns.length
  tr : 1 ≤ t.tracked.length
  lg : j.lg.length ≤ 60000
theorem idxL_neg : idxL L A < 0 ↔ A ∉ L := by
  unfold idxL
  by_cases h : A ∈ L
  · rw [if_pos h]; simp [h]
  · rw [if_neg h]; simp [h]
theorem Seq.neI {N : Nat} (h : Seq RI m P e H v A) (hf : Fr (Bk (· = N) t_int64 H) H H') (hP : ∀ id, P id → id ≠ N) : Seq RI m P e H' v A := h.apI hf fun id h1 h2 => hP id h1 h2
theorem Seq.apL {e' : TypeId} (h : Lists m P P2 H v L) (hf : Fr (Bk P' e' H) H H') (hd : ∀ id, P id → ¬P' id) (he : e' ≠ t_int64 := by decide) : Lists m P P2 H' v L :=
  h.fr hf (fun id c fz _ hp _ hb => hd id hp hb.1) fun _ _ h => Seq.bkI h hf he
theorem Seq.elL (h : Lists m P P2 H v L) (hf : Fr (Bk P' t_int64 H) H H') (hd : ∀ id, P2 id → ¬P' id) : Lists m P P2 H' v L :=
  h.fr hf (fun id c fz _ _ hg => Bk.ne (by decide) hg) fun _ _ h => Seq.apI h hf hd
theorem Le.own (h : Le H H1) (h' : Fr T H1 H2) (hs : ∀ id, T id → H.next ≤ id) : Le H H2 := h.nw h' fun id hi hT => absurd (hs id hT) (by omega)
theorem c_l28Expand {Bn : Nat} (hp : Hp H) (h : PuzA P P2 H v p) (hj : JobR H u t j) (hok : JobOk t j Bn) (hB : Bn ≤ 1000000) (hlt : j.nx < t.patterns.length)
    (k : ∀ w tt dd t' j' H', Le H H' → JobA H.next tt dd H' w t' j' → t'.tracked = t.tracked → t'.dists.length = t'.patterns.length → t.patterns.length ≤ t'.patterns.length → t'.patterns.length ≤ t.patterns.length + 16 → j'.nx = j.nx + 1 → Q w H') : W (s_sp_l28Expand v u) H Q := by
  have hpz := h
  have hjr := hj
  obtain ⟨mv, rfl, hm, h64, hnl⟩ := h
  obtain ⟨a, b, c, rfl, ha, hb, hc⟩ := hj
  obtain ⟨n, hn, _⟩ := hok.nx
  have hlg := hok.lg
  have hnp : n < t.patterns.length := by omega
  have hnd : n < t.dists.length := by have := hok.len; omega
  have hm := (hm.mono (P' := (· < H.next)) fun id hid _ => hid)
  have hb := (hb.mono (P' := (· < H.next)) fun id hid _ => hid).monoR (P2' := (· < H.next)) fun id hid _ => hid
  have hm := Seq.monoR (P2' := (· < H.next)) hm fun id hid _ => hid
  have ha := ha.mono (P' := (· < H.next)) fun id hid _ => hid
  have hc := hc.mono (P' := (· < H.next)) fun id hid _ => hid
  unfold s_sp_l28Expand
  refine W.box hp (by decide) rfl (cells_p hm.isCell) fun x1 H1 l1 b1 => ?_
  have b1f := b1
  refine W.box l1.wf (by decide) rfl (cells_j ha.isCell hb.isCell hc.isCell) fun x2 H2 l2 b2 => ?_
  have b2 : Bx (Nw H1) t_impl_FillJob H2 x2 [a, b, c, i64 j.nx, .str j.lg, i64 j.sy] := b2
  have b2 := Bx.iv b2
  have b1 := b1.le l2
  have l := l1.tr l2
  refine W.alloc l.wf fun x3 H3 l3 b3 => ?_
  have b3 := Bx.iv b3
  have b1 := b1.le l3
  have b2 := b2.le l3
  have l := l.tr l3
  simp only [↓wr_ld6 b2]
  refine W.bnd (c_l28Copy (t := t) (j := j) l.wf (hjr.le l) fun w tt dd H4 l4 hj => ?_)
  have b1 := b1.le l4
  have b2 := b2.le l4
  have b3 := b3.le l4
  obtain ⟨a', b', c', rfl, hj⟩ := hj
  have nH3 : H.next ≤ H3.next := l.nx
  have htt : tt < H4.next := by
    obtain ⟨id, h1, h2⟩ := hj.1.place (fun h => by have := hok.tr; rw [h] at this; simp at this)
    have := h1.2; omega
  have hdd : H3.next ≤ dd ∧ dd < H4.next := by
    obtain ⟨id, h1, h2⟩ := hj.2.2.1.place (fun h => by rw [h] at hnd; simp at hnd)
    have := h1.2; have := h1.1; omega
  obtain ⟨bb, hbb, hbx⟩ := hj.2.1.ex H3.next
  have hbb : H3.next ≤ bb ∧ bb < H4.next := by
    obtain ⟨id, h1, h2⟩ := hbx.place (fun h => by rw [h] at hnp; simp at hnp)
    subst h1
    rcases hbb with h | h
    · exact ⟨Nat.le_of_eq h.symm, h2⟩
    · exact h
  have hbx : Lists .own (· = bb) (Ne2 H.next tt dd) H4 b' t.patterns := hbx.monoR fun id _ h => ⟨Nat.le_trans nH3 h.1, h.2⟩
  obtain ⟨hat, _, hct, hne⟩ := hj
  have hat : Ints .own (Eq1 H.next tt) H4 a' t.tracked := hat.mono fun id _ h => ⟨Nat.le_trans nH3 h.1, h.2⟩
  have hct : Ints .own (· = dd) H4 c' t.dists := hct.mono fun id _ h => h.2
  have l := l.tr l4
  refine W.alloc l.wf fun x6 H5 l5 b6 => ?_
  have b1 := b1.le l5
  have b2 := b2.le l5
  have b3 := b3.le l5
  have hat := hat.leI l5
  have hct := hct.leI l5
  have hbx := hbx.leL l5
  have nH4 : H.next ≤ H4.next := l.nx
  have l := l.tr l5
  refine W.fsw l.wf b6 rfl rfl (cells_j (j := j) hat.isCell hbx.isCell hct.isCell) fun H6 f6 b6 => ?_
  have b6 : Bx (Nw H4) t_impl_FillJob H6 x6 [a', b', c', i64 j.nx, .str j.lg, i64 j.sy] := b6
  have b1 := b1.bk f6 (by decide)
  have n24 : H2.next ≤ H4.next := Nat.le_trans l3.nx l4.nx
  have n34 : H3.next ≤ H4.next := l4.nx
  have b2 := b2.ap f6 (iv_nw n24)
  have b3 := b3.ap f6 (iv_nw n34)
  have hat := hat.bkI f6 (by decide)
  have hct := hct.bkI f6 (by decide)
  have hbx := hbx.bkL f6 (by decide) (by decide)
  have l := l.nw f6 fun id hid h => absurd h.1 (by show ¬H4.next ≤ id; omega)
  have hbl := hb.leL l
  obtain ⟨pv, hpv, hpL, _⟩ := hbl.ld1 hnp
  have hpL : Ints .ro (· < H.next) H6 pv t.patterns[n] := hpL
  simp only [↓wr_fadd b2, ↓wr_fadd0 b2, ↓wr_f1 b2, ↓wr_f3 b2, hn, ↓wr_ix hbl hnp, ↓wr_e hpv, ↓wr_ld3 b1]
  refine W.bnd (c_Letters (p := p) l.wf (hpz.le l) fun lt H7 l7 hlt' => ?_)
  have n67 : H6.next ≤ H7.next := l7.nx
  have nH6 : H.next ≤ H6.next := l.nx
  have hpL := hpL.leI l7
  have b1 := b1.le l7
  have b2 := b2.le l7
  have b3 := b3.le l7
  have b6 := b6.le l7
  have hat := hat.leI l7
  have hct := hct.leI l7
  have hbx := hbx.leL l7
  have l := l.tr l7
  refine W.emp (R := RL (Ne2 H.next tt dd)) (e := t_Sint64) l.wf fun ad H8 l8 hady => ?_
  have b1 := b1.le l8
  have b2 := b2.le l8
  have b3 := b3.le l8
  have b6 := b6.le l8
  have hat := hat.leI l8
  have hct := hct.leI l8
  have hbx := hbx.leL l8
  have hlt' := hlt'.leI l8
  have hpL := hpL.leI l8
  have l := l.tr l8
  generalize hls : (if Valid p then lets p.moves.length else []) = ls at hlt'
  have hls16 : ls.length ≤ 16 := by
    by_cases hv : Valid p
    · rw [if_pos hv] at hls; rw [← hls, lets_length]; have := hv.h8; omega
    · rw [if_neg hv] at hls; rw [← hls]; simp
  have n46 : H4.next ≤ H6.next := Nat.le_trans l5.nx f6.nx
  have hlt' : Ints .ro (· ≠ dd) H8 lt ls := hlt'.ro.mono fun id hid h => by have : H6.next ≤ id := h; omega
  obtain ⟨ee, hee, hady⟩ := hady.ex H.next
  have hlt1 : H.next < H1.next := by
    obtain ⟨id, _, g1, g2, _⟩ := b1f
    have : H.next ≤ id := g1
    omega
  have n13 : H1.next ≤ H3.next := Nat.le_trans l2.nx l3.nx
  have hee : H.next ≤ ee ∧ ee < H8.next ∧ bb ≠ ee := by
    rcases hee with h | h
    · have := l8.nx; omega
    · have h1 : H7.next ≤ ee := h.1
      omega
  have hdd8 : dd < H8.next := by have := l8.nx; omega
  refine W.lq (fun q st Hk => ∃ (i : Nat) (ad a' b' c' : AVal) (bb ee dd : Nat) (LL AD : List (List Int)) (D : List Int), q = ls.length - i ∧ i ≤ ls.length ∧ st = [ad, i64 (i : Int)] ∧ Le H Hk ∧
      Bx (Nw H) t_impl_Puzzle Hk x1 [i64 p.points, .str p.names, mv] ∧ Bx (Iv H1.next H2.next) t_impl_FillJob Hk x2 [a, b, c, i64 j.nx, .str j.lg, i64 j.sy] ∧ Bx (Iv H2.next H3.next) t_impl_FillJob Hk x3 [.nilS, .nilS, .nilS, i64 0, .str [], i64 0] ∧
      Bx (Nw H4) t_impl_FillJob Hk x6 [a', b', c', i64 j.nx, .str j.lg, i64 j.sy] ∧ Ints .own (Eq1 H.next tt) Hk a' t.tracked ∧ Lists .own (· = bb) (Ne2 H.next tt dd) Hk b' LL ∧ Lists .own (· = ee) (Ne2 H.next tt dd) Hk ad AD ∧ Ints .own (· = dd) Hk c' D ∧
      Ints .ro (· ≠ dd) Hk lt ls ∧ Ints .ro (· < H.next) Hk pv t.patterns[n] ∧ tt ≠ dd ∧ bb ≠ ee ∧ H.next ≤ bb ∧ H.next ≤ ee ∧ ee < Hk.next ∧ H.next ≤ dd ∧ dd < Hk.next ∧ LL.length = t.patterns.length + AD.length ∧ D.length = LL.length ∧ AD.length ≤ i ∧ ∀ A ∈ AD, A.length ≤ 20)
    (fun rr Hk => ∃ (ad a' b' c' : AVal) (bb dd : Nat) (LL AD : List (List Int)) (D : List Int), rr = (.exit 0, [ad]) ∧ Le H Hk ∧
      Bx (Iv H1.next H2.next) t_impl_FillJob Hk x2 [a, b, c, i64 j.nx, .str j.lg, i64 j.sy] ∧ Bx (Iv H2.next H3.next) t_impl_FillJob Hk x3 [.nilS, .nilS, .nilS, i64 0, .str [], i64 0] ∧
      Bx (Nw H4) t_impl_FillJob Hk x6 [a', b', c', i64 j.nx, .str j.lg, i64 j.sy] ∧ Ints .own (Eq1 H.next tt) Hk a' t.tracked ∧ Lists .own (· = bb) (Ne2 H.next tt dd) Hk b' LL ∧ Lists .ro Any Any Hk ad AD ∧ Ints .own (· = dd) Hk c' D ∧
      tt ≠ dd ∧ H.next ≤ bb ∧ H.next ≤ dd ∧ LL.length = t.patterns.length + AD.length ∧ D.length = LL.length ∧ AD.length ≤ 16 ∧ ∀ A ∈ AD, A.length ≤ 20) ls.length
    ⟨0, ad, a', b', c', bb, ee, dd, t.patterns, [], t.dists, rfl, Nat.zero_le _, rfl, l, b1, b2, b3, b6, hat, hbx, hady, hct, hlt', hpL, hne, hee.2.2, by omega, by omega, by omega, by omega, hdd8, by simp, hok.len, by simp, by simp⟩ ?_ ?_
  · rintro q st Hk ⟨i, ad, a', b', c', bb, ee, dd, LL, AD, D, rfl, hi, rfl, lk, b1, b2, b3, b6, hat, hbx, had, hct, hlt, hpv, hne, hbe, nbb, nee, lee, ndd, ldd, hLL, hDL, hAD, hAl⟩ Q' kn kx
    by_cases hil : i < ls.length
    · have hil' : (i : Int) < ls.length := by omega
      have hi1 : i + 1 ≤ ls.length := hil
      simp only [↓wr_len hlt, hil', ↓wr_ret, ↓wr_gd_tt, ↓wr_gd_ff, ↓wr_gd_tf, ↓wr_gd_ft, ↓wr_gd_s, ↓wr_pick_t, ↓wr_pick_f, ↓wr_br_t, ↓wr_br_f, ↓wr_bbr_t, ↓wr_bbr_f, ↓wr_lss, ↓wr_leq, ↓wr_gtr, ↓wr_geq, ↓wr_eql, ↓wr_neq, ↓wr_not, ↓wr_cv, ↓wr_extr0, ↓wr_extr1, ↓wr_extr2, ↓wr_lenT, ↓wr_getH, gx0, gx1, gx2, gx3, ife_e, ife_n, ife_r, ife_re, ife_ne', ife_nr, ife_en, ife_rn, ife_er, decide_true, decide_false, Bool.not_true, Bool.not_false, ↓wr_ld3 b1, ↓wr_fadd b2, ↓wr_fadd0 b2, ↓wr_f0 b2]
      rw [wr_inc (by omega)]
      have hbn : bnds ls.length (some (i64 (i : Int))) (some (i64 ((i + 1 : Nat) : Int))) = some (i, i + 1) := by
        have e1 : bndOf ls.length ls.length (some (i64 ((i + 1 : Nat) : Int))) = some (i + 1) := by simp [bndOf]; omega
        have e2 : bndOf 0 (i + 1) (some (i64 (i : Int))) = some i := by simp [bndOf]; omega
        simp only [bnds, e1, e2]
      obtain ⟨sl, hsl, hsls⟩ := hlt.sl hbn (by simp) ⟨by omega, hi1⟩
      simp only [↓wr_p hsl]
      refine W.bnd (c_PatternAfter (p := p) lk.wf (hpz.le lk) (ha.leI lk) hpv hsls fun r Hl z ll hr hz => ?_)
      subst hr
      have hpz20 : (if Patt p t.tracked t.patterns[n] ∧ WordOf p.moves.length ((ls.take (i + 1)).drop i) then acts p ((ls.take (i + 1)).drop i) t.patterns[n] else []).length ≤ 20 := by
        by_cases hP : Patt p t.tracked t.patterns[n] ∧ WordOf p.moves.length ((ls.take (i + 1)).drop i)
        · rw [if_pos hP, acts_length]
          have h1 := hP.1.2.1
          have h2 := hP.1.1.2.1
          have h3 := hP.1.1.1.pts
          omega
        · rw [if_neg hP]; simp
      generalize (if Patt p t.tracked t.patterns[n] ∧ WordOf p.moves.length ((ls.take (i + 1)).drop i) then acts p ((ls.take (i + 1)).drop i) t.patterns[n] else []) = zz at hz hpz20
      have lkn := lk.nx
      have b6k := b6
      have b1 := b1.le ll
      have b2 := b2.le ll
      have b3 := b3.le ll
      have b6 := b6.le ll
      have hat := hat.leI ll
      have hct := hct.leI ll
      have hbx := hbx.leL ll
      have had := had.leL ll
      have hlt := hlt.leI ll
      have hpv := hpv.leI ll
      have lk : Le H Hl := lk.tr ll
      have n4k : H4.next ≤ Hk.next := by
        obtain ⟨id, _, g1, g2, _⟩ := b6k
        have : H4.next ≤ id := g1
        omega
      have hz : Ints .ro (Ne2 H.next tt dd) Hl z zz := hz.ro.mono fun id hid h => by
        have h : Hk.next ≤ id := h
        exact ⟨by omega, by omega, by omega⟩
      have lkn' := lk.nx
      have llx := ll.nx
      simp only [↓wr_ret, ↓wr_gd_tt, ↓wr_gd_ff, ↓wr_gd_tf, ↓wr_gd_ft, ↓wr_gd_s, ↓wr_pick_t, ↓wr_pick_f, ↓wr_br_t, ↓wr_br_f, ↓wr_bbr_t, ↓wr_bbr_f, ↓wr_lss, ↓wr_leq, ↓wr_gtr, ↓wr_geq, ↓wr_eql, ↓wr_neq, ↓wr_not, ↓wr_cv, ↓wr_extr0, ↓wr_extr1, ↓wr_extr2, ↓wr_lenT, ↓wr_getH, gx0, gx1, gx2, gx3, ife_e, ife_n, ife_r, ife_re, ife_ne', ife_nr, ife_en, ife_rn, ife_er, decide_true, decide_false, Bool.not_true, Bool.not_false, ↓wr_fadd b6, ↓wr_fadd0 b6, ↓wr_f1 b6, ↓wr_e (c_indexOfList hbx hz)]
      by_cases hmem : zz ∈ LL
      · have : ¬idxL LL zz < 0 := fun h => idxL_neg.1 h hmem
        simp only [this, ↓wr_ret, ↓wr_gd_tt, ↓wr_gd_ff, ↓wr_gd_tf, ↓wr_gd_ft, ↓wr_gd_s, ↓wr_pick_t, ↓wr_pick_f, ↓wr_br_t, ↓wr_br_f, ↓wr_bbr_t, ↓wr_bbr_f, ↓wr_lss, ↓wr_leq, ↓wr_gtr, ↓wr_geq, ↓wr_eql, ↓wr_neq, ↓wr_not, ↓wr_cv, ↓wr_extr0, ↓wr_extr1, ↓wr_extr2, ↓wr_lenT, ↓wr_getH, gx0, gx1, gx2, gx3, ife_e, ife_n, ife_r, ife_re, ife_ne', ife_nr, ife_en, ife_rn, ife_er, decide_true, decide_false, Bool.not_true, Bool.not_false, ↓wr_rx]
        rw [wr_inc (by omega)]
        exact W.ret (kn (ls.length - (i + 1)) _ _ (by omega) ⟨i + 1, ad, a', b', c', bb, ee, dd, LL, AD, D, rfl, hil, rfl, lk, b1, b2, b3, b6, hat, hbx, had, hct, hlt, hpv, hne, hbe, nbb, nee, by omega, ndd, by omega, hLL, hDL, by omega, hAl⟩)
      · have : idxL LL zz < 0 := idxL_neg.2 hmem
        simp only [this, ↓wr_ret, ↓wr_gd_tt, ↓wr_gd_ff, ↓wr_gd_tf, ↓wr_gd_ft, ↓wr_gd_s, ↓wr_pick_t, ↓wr_pick_f, ↓wr_br_t, ↓wr_br_f, ↓wr_bbr_t, ↓wr_bbr_f, ↓wr_lss, ↓wr_leq, ↓wr_gtr, ↓wr_geq, ↓wr_eql, ↓wr_neq, ↓wr_not, ↓wr_cv, ↓wr_extr0, ↓wr_extr1, ↓wr_extr2, ↓wr_lenT, ↓wr_getH, gx0, gx1, gx2, gx3, ife_e, ife_n, ife_r, ife_re, ife_ne', ife_nr, ife_en, ife_rn, ife_er, decide_true, decide_false, Bool.not_true, Bool.not_false, bnd_as, ↓wr_fadd b6, ↓wr_fadd0 b6, ↓wr_f1 b6, ↓wr_c1 hz.isCell]
        have hLLs : LL.length ≤ 1000100 := by have := hok.few; omega
        refine W.app1nf (R := RL (Ne2 H.next tt dd)) lk.wf hbx (stb_RL (by decide)) hz.isCell (by decide) (by omega) hz fun b'' Hm bb' hbb1 hbb2 fm hbx => ?_
        have b1 := b1.bk fm (by decide)
        have b2 := b2.bk fm (by decide)
        have b3 := b3.bk fm (by decide)
        have b6 := b6.bk fm (by decide)
        have hat := hat.bkI fm (by decide)
        have hct := hct.bkI fm (by decide)
        have hlt := hlt.bkI fm (by decide)
        have hpv := hpv.bkI fm (by decide)
        have hz := Seq.bkI hz fm (by decide)
        have had := Seq.apL had fm fun id h h' => hbe (h'.symm.trans h)
        have lk : Le H Hm := lk.own fm fun id h => by have := h.1; omega
        simp only [↓wr_fadd b6, ↓wr_fadd0 b6]
        refine W.fst lk.wf b6 (by simp) hbx.isCell fun Hn fn b6 => ?_
        have b6 : Bx (Nw H4) t_impl_FillJob Hn x6 [a', b'', c', i64 j.nx, .str j.lg, i64 j.sy] := b6
        have b1 := b1.bk fn (by decide)
        have b2 := b2.ap fn (iv_nw n24)
        have b3 := b3.ap fn (iv_nw n34)
        have hat := hat.bkI fn (by decide)
        have hct := hct.bkI fn (by decide)
        have hlt := hlt.bkI fn (by decide)
        have hpv := hpv.bkI fn (by decide)
        have hz := Seq.bkI hz fn (by decide)
        have had := had.bkL fn (by decide) (by decide)
        have hbx := hbx.bkL fn (by decide) (by decide)
        have lk : Le H Hn := lk.own fn fun id h => Nat.le_trans nH4 h.1
        have nmn := fn.nx
        refine W.reserve lk.wf fun Ho lo fre => ?_
        have fr11 := fre 11 (by decide)
        have b1 := b1.le lo
        have b2 := b2.le lo
        have b3 := b3.le lo
        have b6 := b6.le lo
        have hat := hat.leI lo
        have hct := hct.leI lo
        have hbx := hbx.leL lo
        have had := had.leL lo
        have hlt := hlt.leI lo
        have hpv := hpv.leI lo
        have hz := Seq.leI hz lo
        have lk : Le H Ho := lk.tr lo
        have hcl := hc.leI lk
        simp only [↓wr_fadd b6, ↓wr_fadd0 b6, ↓wr_f2 b6, ↓wr_fadd b2, ↓wr_fadd0 b2, ↓wr_f2 b2, ↓wr_f3 b2, hn, ↓wr_ix hcl hnd, ↓wr_ldI hcl hnd, ↓wr_addw, ↓wr_c1i]
        have nmx := fm.nx
        have lox := lo.nx
        refine W.lit1Sf (R := RI) (a := IntKind.i64.wrap (t.dists[n] + 1)) (e := t_int64) lo.wf fr11 rfl (fun _ _ => rfl) fun y Hp' fp hy => ?_
        have b1 := b1.nk fp
        have b2 := b2.nk fp
        have b3 := b3.nk fp
        have b6 := b6.nk fp
        have hat := hat.nkI fp
        have hct := hct.nkI fp
        have hbx := hbx.nkL fp
        have had := had.nkL fp
        have hlt := hlt.nkI fp
        have hpv := hpv.nkI fp
        have hz := Seq.nkI hz fp
        have lk : Le H Hp' := lk.own fp fun id h => by have := h.1; omega
        have npx := fp.nx
        have hlt := hlt.mono (P' := fun id => id ≠ dd ∧ id ≠ Hp'.next) fun id hid h => ⟨h, by omega⟩
        have hbx := hbx.monoR (P2' := fun id => Ne2 H.next tt dd id ∧ id ≠ Hp'.next) fun id hid h => ⟨h, by omega⟩
        have had := had.monoR (P2' := fun id => Ne2 H.next tt dd id ∧ id ≠ Hp'.next) fun id hid h => ⟨h, by omega⟩
        have hz := Seq.mono hz (P' := fun id => Ne2 H.next tt dd id ∧ id ≠ Hp'.next) fun id hid h => ⟨h, by omega⟩
        refine W.appn lk.wf hct hy (by simp) (by decide) (by simp; omega) (fun _ _ _ _ h => h) fun c'' Hq fq hct => ?_
        have hltp : Hp'.next < Hq.next := by
          obtain ⟨id, h1, h2⟩ := hct.place (by simp)
          omega
        have b1 := b1.bk fq (by decide)
        have b2 := b2.bk fq (by decide)
        have b3 := b3.bk fq (by decide)
        have b6 := b6.bk fq (by decide)
        have hat := hat.apI fq fun id h h' => hne (h.2.symm.trans h')
        have hlt := (hlt.apI fq fun id h h' => h.1 h').mono (P' := (· ≠ Hp'.next)) fun id _ h => h.2
        have hpv := hpv.apI fq fun id h h' => by
          have : id < H.next := h
          have : id = dd := h'
          omega
        have hz := (Seq.apI hz fq fun id h h' => h.1.2.2 h').mono (P' := Ne2 H.next tt Hp'.next) fun id _ h => ⟨h.1.1, h.1.2.1, h.2⟩
        have hbx := (hbx.elL fq fun id h h' => h.1.2.2 h').monoR (P2' := Ne2 H.next tt Hp'.next) fun id _ h => ⟨h.1.1, h.1.2.1, h.2⟩
        have had := (had.elL fq fun id h h' => h.1.2.2 h').monoR (P2' := Ne2 H.next tt Hp'.next) fun id _ h => ⟨h.1.1, h.1.2.1, h.2⟩
        have lk : Le H Hq := lk.own fq fun id h => by have : id = dd := h.1; omega
        simp only [↓wr_fadd b6, ↓wr_fadd0 b6]
        refine W.fst lk.wf b6 (by simp) hct.isCell fun Hr fr b6 => ?_
        have b6 : Bx (Nw H4) t_impl_FillJob Hr x6 [a', b'', c'', i64 j.nx, .str j.lg, i64 j.sy] := b6
        have b1 := b1.bk fr (by decide)
        have b2 := b2.ap fr (iv_nw n24)
        have b3 := b3.ap fr (iv_nw n34)
        have hat := hat.bkI fr (by decide)
        have hct := hct.bkI fr (by decide)
        have hlt := hlt.bkI fr (by decide)
        have hpv := hpv.bkI fr (by decide)
        have hz := Seq.bkI hz fr (by decide)
        have had := had.bkL fr (by decide) (by decide)
        have hbx := hbx.bkL fr (by decide) (by decide)
        have lk : Le H Hr := lk.own fr fun id h => Nat.le_trans nH4 h.1
        have nrx := fr.nx
        simp only [↓wr_c1 hz.isCell]
        refine W.app1nf (R := RL (Ne2 H.next tt Hp'.next)) lk.wf had (stb_RL (by decide)) hz.isCell (by decide) (by omega) hz fun ad' Hs ee' he1 he2 fs had => ?_
        have b1 := b1.bk fs (by decide)
        have b2 := b2.bk fs (by decide)
        have b3 := b3.bk fs (by decide)
        have b6 := b6.bk fs (by decide)
        have hat := hat.bkI fs (by decide)
        have hct := hct.bkI fs (by decide)
        have hlt := hlt.bkI fs (by decide)
        have hpv := hpv.bkI fs (by decide)
        have hbx := Seq.apL hbx fs fun id h h' => by
          have : id = bb' := h
          have : id = ee := h'
          omega
        have lk : Le H Hs := lk.own fs fun id h => by have : id = ee := h.1; omega
        have nsx := fs.nx
        simp only [↓wr_rx, ↓wr_ret, ↓wr_gd_tt, ↓wr_gd_ff, ↓wr_gd_tf, ↓wr_gd_ft, ↓wr_gd_s, ↓wr_pick_t, ↓wr_pick_f, ↓wr_br_t, ↓wr_br_f, ↓wr_bbr_t, ↓wr_bbr_f, ↓wr_lss, ↓wr_leq, ↓wr_gtr, ↓wr_geq, ↓wr_eql, ↓wr_neq, ↓wr_not, ↓wr_cv, ↓wr_extr0, ↓wr_extr1, ↓wr_extr2, ↓wr_lenT, ↓wr_getH, gx0, gx1, gx2, gx3, ife_e, ife_n, ife_r, ife_re, ife_ne', ife_nr, ife_en, ife_rn, ife_er, decide_true, decide_false, Bool.not_true, Bool.not_false]
        rw [wr_inc (by omega)]
        refine W.ret (kn (ls.length - (i + 1)) _ _ (by omega) ⟨i + 1, ad', a', b'', c'', bb', ee', Hp'.next, LL ++ [zz], AD ++ [zz], _, rfl, hil, rfl, lk, b1, b2, b3, b6, hat, hbx, had, hct, hlt, hpv, by omega, by omega, by omega, by omega, by omega, by omega, by omega, by simp; omega, by simp; omega, by simp; omega, fun A hA => ?_⟩)
        rcases List.mem_append.1 hA with hA | hA
        · exact hAl A hA
        · rw [List.mem_singleton.1 hA]; exact hpz20
    · have hie : ¬(i : Int) < ls.length := by omega
      simp only [↓wr_len hlt, hie, ↓wr_ret, ↓wr_gd_tt, ↓wr_gd_ff, ↓wr_gd_tf, ↓wr_gd_ft, ↓wr_gd_s, ↓wr_pick_t, ↓wr_pick_f, ↓wr_br_t, ↓wr_br_f, ↓wr_bbr_t, ↓wr_bbr_f, ↓wr_lss, ↓wr_leq, ↓wr_gtr, ↓wr_geq, ↓wr_eql, ↓wr_neq, ↓wr_not, ↓wr_cv, ↓wr_extr0, ↓wr_extr1, ↓wr_extr2, ↓wr_lenT, ↓wr_getH, gx0, gx1, gx2, gx3, ife_e, ife_n, ife_r, ife_re, ife_ne', ife_nr, ife_en, ife_rn, ife_er, decide_true, decide_false, Bool.not_true, Bool.not_false]
      exact W.ret (kx _ _ _ (by simp) ⟨ad, a', b', c', bb, dd, LL, AD, D, rfl, lk, b2, b3, b6, hat, hbx, Seq.anyL had, hct, hne, nbb, ndd, hLL, hDL, by omega, hAl⟩)
  · rintro rr Hk ⟨ad, a', b', c', bb, dd, LL, AD, D, rfl, lk, b2, b3, b6, hat, hbx, had, hct, hne, nbb, ndd, hLL, hDL, hAD, hAl⟩
    simp only [↓wr_ret, ↓wr_gd_tt, ↓wr_gd_ff, ↓wr_gd_tf, ↓wr_gd_ft, ↓wr_gd_s, ↓wr_pick_t, ↓wr_pick_f, ↓wr_br_t, ↓wr_br_f, ↓wr_bbr_t, ↓wr_bbr_f, ↓wr_lss, ↓wr_leq, ↓wr_gtr, ↓wr_geq, ↓wr_eql, ↓wr_neq, ↓wr_not, ↓wr_cv, ↓wr_extr0, ↓wr_extr1, ↓wr_extr2, ↓wr_lenT, ↓wr_getH, gx0, gx1, gx2, gx3, ife_e, ife_n, ife_r, ife_re, ife_ne', ife_nr, ife_en, ife_rn, ife_er, decide_true, decide_false, Bool.not_true, Bool.not_false, ↓wr_fadd b2, ↓wr_f3 b2]
    refine W.bnd (c_l28Record lk.wf had (by omega) (fun A hA => by have := hAl A hA; omega) fun s Hl ll hs => ?_)
    have b6k := b6
    have b2 := b2.le ll
    have b3 := b3.le ll
    have b6 := b6.le ll
    have b6l := b6
    simp only [↓wr_getH]
    refine W.bnd (c_Checksum (by omega) fun ck => ?_)
    simp only [↓wr_getH]
    have lk : Le H Hl := lk.tr ll
    refine W.bnd (c_l29Uint32 lk.wf fun s4 Hm lm hs4 => ?_)
    have b2 := b2.le lm
    have b3 := b3.le lm
    have b6 := b6.le lm
    have hat := (hat.leI ll).leI lm
    have hct := (hct.leI ll).leI lm
    have hbx := (hbx.leL ll).leL lm
    have lk : Le H Hm := lk.tr lm
    simp only [↓wr_fadd b6, ↓wr_f4 b6]
    refine W.agn2 (b6l.ld1 rfl) (b6l.ld1 rfl) ?_
    rw [wr_sadd (by omega), wr_sadd (by simp; omega)]
    simp only [↓wr_fadd b6]
    refine W.fst lk.wf b6 (by simp) rfl fun Hn fn b6 => ?_
    have b6 : Bx (Nw H4) t_impl_FillJob Hn x6 [a', b', c', i64 j.nx, .str (j.lg ++ s ++ s4), i64 j.sy] := b6
    have b2 := b2.ap fn (iv_nw n24)
    have b3 := b3.ap fn (iv_nw n34)
    have hat := hat.bkI fn (by decide)
    have hct := hct.bkI fn (by decide)
    have hbx := hbx.bkL fn (by decide) (by decide)
    have lk : Le H Hn := lk.own fn fun id h => Nat.le_trans nH4 h.1
    have hnx : In64 (j.nx + 1) := by have := hok.few; unfold In64; omega
    simp only [↓wr_fadd b2, ↓wr_f3 b2, ↓wr_add hnx, ↓wr_fadd b6]
    refine W.fst lk.wf b6 (by simp) rfl fun Ho fo b6 => ?_
    have b6 : Bx (Nw H4) t_impl_FillJob Ho x6 [a', b', c', i64 (j.nx + 1), .str (j.lg ++ s ++ s4), i64 j.sy] := b6
    have b3 := b3.ap fo (iv_nw n34)
    have hat := hat.bkI fo (by decide)
    have hct := hct.bkI fo (by decide)
    have hbx := hbx.bkL fo (by decide) (by decide)
    have lk : Le H Ho := lk.own fo fun id h => Nat.le_trans nH4 h.1
    simp only [↓wr_ld6 b6]
    refine W.fsw lk.wf b3 rfl rfl (cells_j (j := ⟨j.nx + 1, j.lg ++ s ++ s4, j.sy⟩) hat.isCell hbx.isCell hct.isCell) fun Hp' fp b3 => ?_
    have lk : Le H Hp' := lk.own fp fun id h => by have := h.1.1; have := l1.nx; have := l2.nx; omega
    simp only [↓wr_ld6 b3]
    exact W.ret (k _ tt dd ⟨t.tracked, LL, D⟩ ⟨j.nx + 1, j.lg ++ s ++ s4, j.sy⟩ _ lk ⟨a', b', c', rfl, hat.bkI fp (by decide), (hbx.bkL fp (by decide) (by decide)).mono fun id _ h => by have : id = bb := h; omega, (hct.bkI fp (by decide)).mono fun id _ h => ⟨by omega, h⟩, hne⟩ rfl hDL (by show _ ≤ LL.length; omega) (by show LL.length ≤ _; omega) rfl)
end
end Go.Am

end

section
set_option linter.unusedSimpArgs false
set_option linter.unusedVariables false
/- Contracts of the draws: a step of a job; corrupted texts. -/
namespace Go.Am
section
variable {β X : Type} {f : AVal → AM β} {Q : AVal → AHeap → Prop} {R : AHeap → AVal → X → Prop} {m m2 : Md} {P P2 P3 P4 P5 P' S T : Nat → Prop} {e e2 : TypeId} {H H0 H1 H2 H' : AHeap} {v u x y : AVal} {A B C s D r : List Int} {L LL : List (List Int)} {p : Puz} {cs : List AVal} {t : Tbl} {id : Nat} {n : Int} {n0 tt dd : Nat} {j : Jsc} {a b c : AVal}
theorem JobA.le (h : JobA n0 tt dd H v t j) (hl : Le H H') : JobA n0 tt dd H' v t j := by
  obtain ⟨a, b, c, rfl, h⟩ := h
  exact ⟨a, b, c, rfl, h.le hl⟩
theorem c_l28Step {Bn : Nat} (hp : Hp H) (h : PuzA P P2 H v p) (hj : JobA n0 tt dd H u t j) (hn0 : n0 ≤ H.next) (hok : JobOk t j Bn) (hB : Bn ≤ 1000000)
    (k : ∀ w b tt dd t' j' H', Le H H' → JobA n0 tt dd H' w t' j' → JobOk t' j' (Bn + 16) → Q (.tuple [w, .bool b]) H') : W (s_sp_l28Step v u) H Q := by
  have hpz := h
  have hja := hj
  obtain ⟨mv, rfl, hm, h64, hnl⟩ := h
  obtain ⟨a, b, c, rfl, hc⟩ := hj
  obtain ⟨n, hn, hnle⟩ := hok.nx
  have hok' : JobOk t j (Bn + 16) := ⟨hok.len, by have := hok.few; omega, hok.nx, hok.ne, hok.tr, hok.lg⟩
  unfold s_sp_l28Step
  refine W.box hp (by decide) rfl (cells_p hm.isCell) fun x1 H1 l1 b1 => ?_
  refine W.box l1.wf (by decide) rfl hc.cells fun x2 H2 l2 b2 => ?_
  have b2 : Bx (Nw H1) t_impl_FillJob H2 x2 [a, b, c, i64 j.nx, .str j.lg, i64 j.sy] := b2
  have b2 := Bx.iv b2
  have b1 := b1.le l2
  have l := l1.tr l2
  refine W.alloc l.wf fun x3 H3 l3 b3 => ?_
  have b3 := Bx.iv b3
  have b1 := b1.le l3
  have b2 := b2.le l3
  have l := l.tr l3
  have hcl := hc.le l
  have hbl := hcl.2.1
  simp only [↓wr_fadd b2, ↓wr_fadd0 b2, ↓wr_f3 b2, ↓wr_f1 b2, ↓wr_len hbl, ↓wr_eql]
  -- the job as it stands
  have same : ∀ (Hk : AHeap), Le H Hk → Bx (Iv H1.next H2.next) t_impl_FillJob Hk x2 [a, b, c, i64 j.nx, .str j.lg, i64 j.sy] → Bx (Iv H2.next H3.next) t_impl_FillJob Hk x3 [.nilS, .nilS, .nilS, i64 0, .str [], i64 0] →
      W (bnd (ldn 6 x2) fun x11 => bnd (stn 6 x3 x11) fun _ => bnd (ldn 6 x3) fun v12 => ret (.tuple [v12, .bool false])) Hk Q := by
    intro Hk lk b2 b3
    simp only [↓wr_ld6 b2]
    refine W.fsw lk.wf b3 rfl rfl hc.cells fun Hl fl b3 => ?_
    have b3 : Bx (Iv H2.next H3.next) t_impl_FillJob Hl x3 [a, b, c, i64 j.nx, .str j.lg, i64 j.sy] := b3
    simp only [↓wr_ld6 b3]
    refine W.ret (k _ _ tt dd t j _ (Le.own lk fl fun id h => ?_) ⟨a, b, c, rfl, (hc.le lk).bk fl (by decide) (by decide)⟩ hok')
    have := h.1.1; have := l1.nx; have := l2.nx; omega
  by_cases h0 : j.nx = (t.patterns.length : Int)
  · simp only [h0, ↓wr_ret, ↓wr_gd_tt, ↓wr_gd_ff, ↓wr_gd_tf, ↓wr_gd_ft, ↓wr_gd_s, ↓wr_pick_t, ↓wr_pick_f, ↓wr_br_t, ↓wr_br_f, ↓wr_bbr_t, ↓wr_bbr_f, ↓wr_lss, ↓wr_leq, ↓wr_gtr, ↓wr_geq, ↓wr_eql, ↓wr_neq, ↓wr_not, ↓wr_cv, ↓wr_extr0, ↓wr_extr1, ↓wr_extr2, ↓wr_lenT, ↓wr_getH, gx0, gx1, gx2, gx3, ife_e, ife_n, ife_r, ife_re, ife_ne', ife_nr, ife_en, ife_rn, ife_er, decide_true, decide_false, Bool.not_true, Bool.not_false]
    exact same _ l b2 b3
  · simp only [h0, ↓wr_ret, ↓wr_gd_tt, ↓wr_gd_ff, ↓wr_gd_tf, ↓wr_gd_ft, ↓wr_gd_s, ↓wr_pick_t, ↓wr_pick_f, ↓wr_br_t, ↓wr_br_f, ↓wr_bbr_t, ↓wr_bbr_f, ↓wr_lss, ↓wr_leq, ↓wr_gtr, ↓wr_geq, ↓wr_eql, ↓wr_neq, ↓wr_not, ↓wr_cv, ↓wr_extr0, ↓wr_extr1, ↓wr_extr2, ↓wr_lenT, ↓wr_getH, gx0, gx1, gx2, gx3, ife_e, ife_n, ife_r, ife_re, ife_ne', ife_nr, ife_en, ife_rn, ife_er, decide_true, decide_false, Bool.not_true, Bool.not_false, ↓wr_ld3 b1, ↓wr_ld6 b2]
    refine W.bnd (c_l28Expand (p := p) l.wf (hpz.le l) (JobA.rd ⟨a, b, c, rfl, hcl⟩) hok hB (by omega) fun w tt' dd' t' j' H4 l4 hja' e1 e2 e3 e4 e5 => ?_)
    have n34 : H3.next ≤ H4.next := l4.nx
    have b2 := b2.le l4
    have b3 := b3.le l4
    have nH3 : H.next ≤ H3.next := l.nx
    have l := l.tr l4
    refine W.alloc l.wf fun x16 H5 l5 b16 => ?_
    have b2 := b2.le l5
    have b3 := b3.le l5
    have l := l.tr l5
    obtain ⟨a', b', c', rfl, hc'⟩ := hja'
    have hc' := hc'.le l5
    refine W.fsw l.wf b16 rfl rfl hc'.cells fun H6 f6 b16 => ?_
    have b16 : Bx (Nw H4) t_impl_FillJob H6 x16 [a', b', c', i64 j'.nx, .str j'.lg, i64 j'.sy] := b16
    have n24 : H2.next ≤ H4.next := Nat.le_trans l3.nx l4.nx
    have b2 := b2.ap f6 (iv_nw n24)
    have b3 := b3.ap f6 (iv_nw n34)
    have hc' := hc'.bk f6 (by decide) (by decide)
    have l : Le H H6 := Le.own l f6 fun id h => by have : H4.next ≤ id := h.1; omega
    simp only [↓wr_fadd b16, ↓wr_f4 b16, ↓wr_ret, ↓wr_gd_tt, ↓wr_gd_ff, ↓wr_gd_tf, ↓wr_gd_ft, ↓wr_gd_s, ↓wr_pick_t, ↓wr_pick_f, ↓wr_br_t, ↓wr_br_f, ↓wr_bbr_t, ↓wr_bbr_f, ↓wr_lss, ↓wr_leq, ↓wr_gtr, ↓wr_geq, ↓wr_eql, ↓wr_neq, ↓wr_not, ↓wr_cv, ↓wr_extr0, ↓wr_extr1, ↓wr_extr2, ↓wr_lenT, ↓wr_getH, gx0, gx1, gx2, gx3, ife_e, ife_n, ife_r, ife_re, ife_ne', ife_nr, ife_en, ife_rn, ife_er, decide_true, decide_false, Bool.not_true, Bool.not_false]
    by_cases h6 : (60000 : Int) < j'.lg.length
    · simp only [h6, ↓wr_ret, ↓wr_gd_tt, ↓wr_gd_ff, ↓wr_gd_tf, ↓wr_gd_ft, ↓wr_gd_s, ↓wr_pick_t, ↓wr_pick_f, ↓wr_br_t, ↓wr_br_f, ↓wr_bbr_t, ↓wr_bbr_f, ↓wr_lss, ↓wr_leq, ↓wr_gtr, ↓wr_geq, ↓wr_eql, ↓wr_neq, ↓wr_not, ↓wr_cv, ↓wr_extr0, ↓wr_extr1, ↓wr_extr2, ↓wr_lenT, ↓wr_getH, gx0, gx1, gx2, gx3, ife_e, ife_n, ife_r, ife_re, ife_ne', ife_nr, ife_en, ife_rn, ife_er, decide_true, decide_false, Bool.not_true, Bool.not_false]
      exact same _ l b2 b3
    · simp only [h6, ↓wr_ret, ↓wr_gd_tt, ↓wr_gd_ff, ↓wr_gd_tf, ↓wr_gd_ft, ↓wr_gd_s, ↓wr_pick_t, ↓wr_pick_f, ↓wr_br_t, ↓wr_br_f, ↓wr_bbr_t, ↓wr_bbr_f, ↓wr_lss, ↓wr_leq, ↓wr_gtr, ↓wr_geq, ↓wr_eql, ↓wr_neq, ↓wr_not, ↓wr_cv, ↓wr_extr0, ↓wr_extr1, ↓wr_extr2, ↓wr_lenT, ↓wr_getH, gx0, gx1, gx2, gx3, ife_e, ife_n, ife_r, ife_re, ife_ne', ife_nr, ife_en, ife_rn, ife_er, decide_true, decide_false, Bool.not_true, Bool.not_false, ↓wr_ld6 b16]
      refine W.fsw l.wf b3 rfl rfl hc'.cells fun H7 f7 b3 => ?_
      have b3 : Bx (Iv H2.next H3.next) t_impl_FillJob H7 x3 [a', b', c', i64 j'.nx, .str j'.lg, i64 j'.sy] := b3
      simp only [↓wr_ld6 b3]
      refine W.ret (k _ _ tt' dd' t' j' _ (Le.own l f7 fun id h => ?_) ⟨a', b', c', rfl, (hc'.bk f7 (by decide) (by decide)).mono (by omega)⟩ ⟨e2, by have := hok.few; omega, ⟨n + 1, by omega, by omega⟩, by have := hok.ne; omega, by rw [e1]; exact hok.tr, by omega⟩)
      have := h.1.1; have := l1.nx; have := l2.nx; omega
/-! Texts -/
theorem Src.mono (h : Src P H x) (hp : ∀ id, id < H.next → P id → P' id) : Src P' H x := by
  obtain ⟨bs, nx, st, B, h1, h2, h3⟩ := h
  exact ⟨bs, nx, st, B, h1, h2.mono hp, h3⟩
theorem Src.ap (h : Src P H x) (hf : Fr (Bk P' t_uint8 H) H H') (hd : ∀ id, P id → ¬P' id) : Src P H' x := by
  obtain ⟨bs, nx, st, B, h1, h2, h3⟩ := h
  exact ⟨bs, nx, st, B, h1.bk hf (by decide), h2.fr hf (fun id c fz _ hp _ hb => hd id hp hb.1) fun _ _ h => h, h3⟩
/-- The empty slice at a place that was kept. -/
theorem W.empS {Q : β → AHeap → Prop} (hp : Hp H) (h : Free H id) (k : ∀ x H', Fr (Nk id H) H H' → Seq R .own (· = id) e H' x [] → W (f x) H' Q) : W (Am.bnd (allocS (some id) e 1 0 []) f) H Q := by
  refine W.e (a := .slice id 0 0 1) (H' := H.set id (.cells [] e 0)) ?_ (k _ _ (set_free hp h _) ?_)
  · simp only [allocS, Am.bnd, Am.ret, newB_some h]
  · exact .mk id 0 0 [] [] rfl h.1 get_set (by simp) (by simp [maxLenA]) ⟨Nat.le_refl _, rfl⟩ fun i hi => absurd hi (Nat.not_lt_zero _)
theorem wr_s2b {Q : β → AHeap → Prop} {s : List UInt8} (h : s.length ≤ 1000000) : W (bnd (s2b none t_uint8 (.str s)) f) H Q ↔ W (bnd (allocS none t_uint8 1 s.length (s.map fun b => .int .u8 (b.toNat : Int))) f) H Q := by
  have : s2b none t_uint8 (.str s) = allocS none t_uint8 1 s.length (s.map fun b => .int .u8 (b.toNat : Int)) := by
    simp only [s2b]
    rw [if_pos (by unfold maxLenA; omega)]
  rw [this]
theorem Seq.oldB {LB : List UInt8} {N : Nat} {e' : TypeId} (h : Bytes m P H v LB) (hf : Fr (Bk (N ≤ ·) e' H) H H') (hP : ∀ id, P id → id < N) : Bytes m P H' v LB := h.fr hf (fun id c fz _ hp _ hb => absurd hb.1 (by have := hP id hp; omega)) fun _ _ h => h
theorem Free.bk (h : Free H id) (hf : Fr (Bk P' e H) H H') : Free H' id := ⟨Nat.lt_of_lt_of_le h.1 hf.nx, (hf.keep id h.1 fun hb => by
  obtain ⟨_, c, fz, hc⟩ := hb
  rw [h.2] at hc; cases hc).trans h.2⟩
theorem Free.nk {i : Nat} (h : Free H id) (hf : Fr (Nk i H) H H') (hi : id ≠ i) : Free H' id := ⟨Nat.lt_of_lt_of_le h.1 hf.nx, (hf.keep id h.1 fun hb => hi hb.1).trans h.2⟩
theorem c_corrupt {s : List UInt8} (hp : Hp H) (h : Src P H x) (hs : s.length ≤ 100000) (k : ∀ s' H', Sf H H' → Src P H' x → s'.length ≤ 100010 → Q (.str s') H') : W (s_sp_corrupt x (.str s) (.str [0, 1, 2])) H Q := by
  have hP := h
  have h := h.mono (P' := fun id => P id ∧ id < H.next) fun id hid h => ⟨h, hid⟩
  unfold s_sp_corrupt
  rw [wr_s2b (by omega)]
  refine W.mkseq (R := RB) hp s rfl (by simp) (by omega) (fun H' _ i hi => ⟨.int .u8 (s[i].toNat : Int), by simp [hi], rfl, rfl⟩) fun b H1 l1 hb => ?_
  have h := h.le l1
  refine W.bnd (c_below l1.wf h fun n H2 f2 h hn => ?_)
  obtain ⟨n, rfl⟩ : ∃ b : Nat, n = (b : Int) := ⟨n.toNat, by have := hn.1; omega⟩
  have hn3 : n < 3 := by have := hn.2.1 (by decide); omega
  have hb := hb.bkB f2 (by decide)
  refine W.lq (fun q st Hk => ∃ (b : AVal) (B : List UInt8), q < 3 ∧ st = [b, i64 (q : Int)] ∧ Sf H Hk ∧ Src (fun id => P id ∧ id < H.next) Hk x ∧ Bytes .rw (Nw H) Hk b B ∧ B.length + q ≤ 100005)
    (fun rr Hk => ∃ (b : AVal) (B : List UInt8), rr = (.exit 0, [b]) ∧ Sf H Hk ∧ Src (fun id => P id ∧ id < H.next) Hk x ∧ Bytes .rw (Nw H) Hk b B ∧ B.length ≤ 100005) n
    ⟨b, s, hn3, rfl, (Sf.of l1).tr f2, h, hb.rw, by omega⟩ ?_ ?_
  · rintro n st Hk ⟨b, B, hn3, rfl, fk, h, hb, hB⟩ Q' kn kx
    have stop : ∀ Hm, Hm = Hk → Q' (.exit 0, [b]) Hm := fun Hm he => by subst he; exact kx _ _ _ (by simp) ⟨b, B, rfl, fk, h, hb, by omega⟩
    by_cases h0 : (0 : Int) < n
    case neg =>
      simp only [↓wr_ret, ↓wr_gd_tt, ↓wr_gd_ff, ↓wr_gd_tf, ↓wr_gd_ft, ↓wr_gd_s, ↓wr_pick_t, ↓wr_pick_f, ↓wr_br_t, ↓wr_br_f, ↓wr_bbr_t, ↓wr_bbr_f, ↓wr_lss, ↓wr_leq, ↓wr_gtr, ↓wr_geq, ↓wr_eql, ↓wr_neq, ↓wr_not, ↓wr_cv, ↓wr_extr0, ↓wr_extr1, ↓wr_extr2, ↓wr_lenT, ↓wr_getH, gx0, gx1, gx2, gx3, ife_e, ife_n, ife_r, ife_re, ife_ne', ife_nr, ife_en, ife_rn, ife_er, decide_true, decide_false, Bool.not_true, Bool.not_false, h0]
      exact W.ret (stop _ rfl)
    by_cases h1 : (0 : Int) < B.length
    case neg =>
      simp only [↓wr_ret, ↓wr_gd_tt, ↓wr_gd_ff, ↓wr_gd_tf, ↓wr_gd_ft, ↓wr_gd_s, ↓wr_pick_t, ↓wr_pick_f, ↓wr_br_t, ↓wr_br_f, ↓wr_bbr_t, ↓wr_bbr_f, ↓wr_lss, ↓wr_leq, ↓wr_gtr, ↓wr_geq, ↓wr_eql, ↓wr_neq, ↓wr_not, ↓wr_cv, ↓wr_extr0, ↓wr_extr1, ↓wr_extr2, ↓wr_lenT, ↓wr_getH, gx0, gx1, gx2, gx3, ife_e, ife_n, ife_r, ife_re, ife_ne', ife_nr, ife_en, ife_rn, ife_er, decide_true, decide_false, Bool.not_true, Bool.not_false, h0, ↓wr_len hb, h1]
      exact W.ret (stop _ rfl)
    simp only [↓wr_ret, ↓wr_gd_tt, ↓wr_gd_ff, ↓wr_gd_tf, ↓wr_gd_ft, ↓wr_gd_s, ↓wr_pick_t, ↓wr_pick_f, ↓wr_br_t, ↓wr_br_f, ↓wr_bbr_t, ↓wr_bbr_f, ↓wr_lss, ↓wr_leq, ↓wr_gtr, ↓wr_geq, ↓wr_eql, ↓wr_neq, ↓wr_not, ↓wr_cv, ↓wr_extr0, ↓wr_extr1, ↓wr_extr2, ↓wr_lenT, ↓wr_getH, gx0, gx1, gx2, gx3, ife_e, ife_n, ife_r, ife_re, ife_ne', ife_nr, ife_en, ife_rn, ife_er, decide_true, decide_false, Bool.not_true, Bool.not_false, h0, ↓wr_len hb, h1]
    refine W.bnd (c_below fk.wf h fun i Hl fl h hi => ?_)
    obtain ⟨i, rfl⟩ : ∃ b : Nat, i = (b : Int) := ⟨i.toNat, by have := hi.1; omega⟩
    have hiB : i < B.length := by have := hi.2.1 h1; omega
    have fk := fk.tr fl
    have hb := hb.bkB fl (by decide)
    refine W.bnd (c_below fk.wf h fun d Hm fm h hd => ?_)
    have fk := fk.tr fm
    have hb := hb.bkB fm (by decide)
    -- the next round
    have next : ∀ (Hz : AHeap) (b : AVal) (B : List UInt8), Sf H Hz → Src (fun id => P id ∧ id < H.next) Hz x → Bytes .rw (Nw H) Hz b B → B.length + n ≤ 100006 →
        W (bnd (abin .sub (i64 (n : Int)) (.int .i64 1)) fun x46 => rx .normal [b, x46]) Hz Q' := by
      intro Hz b B fk h hb hB
      have e1 : (n : Int) - 1 = ((n - 1 : Nat) : Int) := by omega
      rw [wr_sub (by unfold In64; omega), e1]
      exact W.ret (kn (n - 1) _ _ (by omega) ⟨b, B, by omega, rfl, fk, h, hb, by omega⟩)
    by_cases d0 : d = 0
    · subst d0
      simp only [↓wr_ret, ↓wr_gd_tt, ↓wr_gd_ff, ↓wr_gd_tf, ↓wr_gd_ft, ↓wr_gd_s, ↓wr_pick_t, ↓wr_pick_f, ↓wr_br_t, ↓wr_br_f, ↓wr_bbr_t, ↓wr_bbr_f, ↓wr_lss, ↓wr_leq, ↓wr_gtr, ↓wr_geq, ↓wr_eql, ↓wr_neq, ↓wr_not, ↓wr_cv, ↓wr_extr0, ↓wr_extr1, ↓wr_extr2, ↓wr_lenT, ↓wr_getH, gx0, gx1, gx2, gx3, ife_e, ife_n, ife_r, ife_re, ife_ne', ife_nr, ife_en, ife_rn, ife_er, decide_true, decide_false, Bool.not_true, Bool.not_false, bnd_as, List.length_cons, List.length_nil]
      refine W.bnd (c_below fk.wf h fun g Hn fn h hg => ?_)
      obtain ⟨g, rfl⟩ : ∃ b : Nat, g = (b : Int) := ⟨g.toNat, by have := hg.1; omega⟩
      have hg3 : g < ([0, 1, 2] : List UInt8).length := by have := hg.2.1 (by decide); show g < 3; omega
      have fk := fk.tr fn
      have hb := hb.bkB fn (by decide)
      simp only [↓wr_ixStr hg3, ↓wr_ix hb hiB]
      refine W.st (R := RB) (a := ([0, 1, 2] : List UInt8)[g]) fk.wf hb (by simp) hiB rfl (fun _ _ _ _ h => h) rfl fun Ho fo hb => ?_
      simp only [↓wr_rx, ↓wr_ret, ↓wr_gd_tt, ↓wr_gd_ff, ↓wr_gd_tf, ↓wr_gd_ft, ↓wr_gd_s, ↓wr_pick_t, ↓wr_pick_f, ↓wr_br_t, ↓wr_br_f, ↓wr_bbr_t, ↓wr_bbr_f, ↓wr_lss, ↓wr_leq, ↓wr_gtr, ↓wr_geq, ↓wr_eql, ↓wr_neq, ↓wr_not, ↓wr_cv, ↓wr_extr0, ↓wr_extr1, ↓wr_extr2, ↓wr_lenT, ↓wr_getH, gx0, gx1, gx2, gx3, ife_e, ife_n, ife_r, ife_re, ife_ne', ife_nr, ife_en, ife_rn, ife_er, decide_true, decide_false, Bool.not_true, Bool.not_false]
      exact next _ _ _ (fk.own fo fun id h => h.1) (h.ap fo fun id h1 h2 => absurd h1.2 (by have : H.next ≤ id := h2; omega)) hb (by simp; omega)
    · by_cases d1 : d = 1
      · subst d1
        obtain ⟨w, hw, hws⟩ := hb.sl (bnds_hi (k := .i64) (Nat.le_of_lt hiB)) (by simp) ⟨Nat.zero_le _, Nat.le_of_lt hiB⟩
        simp only [↓wr_ret, ↓wr_gd_tt, ↓wr_gd_ff, ↓wr_gd_tf, ↓wr_gd_ft, ↓wr_gd_s, ↓wr_pick_t, ↓wr_pick_f, ↓wr_br_t, ↓wr_br_f, ↓wr_bbr_t, ↓wr_bbr_f, ↓wr_lss, ↓wr_leq, ↓wr_gtr, ↓wr_geq, ↓wr_eql, ↓wr_neq, ↓wr_not, ↓wr_cv, ↓wr_extr0, ↓wr_extr1, ↓wr_extr2, ↓wr_lenT, ↓wr_getH, gx0, gx1, gx2, gx3, ife_e, ife_n, ife_r, ife_re, ife_ne', ife_nr, ife_en, ife_rn, ife_er, decide_true, decide_false, Bool.not_true, Bool.not_false, bnd_as, d0, ↓wr_p hw, ↓wr_rx]
        exact next _ _ _ fk h hws (by simp; omega)
      · by_cases d2 : d = 2
        · subst d2
          simp only [↓wr_ret, ↓wr_gd_tt, ↓wr_gd_ff, ↓wr_gd_tf, ↓wr_gd_ft, ↓wr_gd_s, ↓wr_pick_t, ↓wr_pick_f, ↓wr_br_t, ↓wr_br_f, ↓wr_bbr_t, ↓wr_bbr_f, ↓wr_lss, ↓wr_leq, ↓wr_gtr, ↓wr_geq, ↓wr_eql, ↓wr_neq, ↓wr_not, ↓wr_cv, ↓wr_extr0, ↓wr_extr1, ↓wr_extr2, ↓wr_lenT, ↓wr_getH, gx0, gx1, gx2, gx3, ife_e, ife_n, ife_r, ife_re, ife_ne', ife_nr, ife_en, ife_rn, ife_er, decide_true, decide_false, Bool.not_true, Bool.not_false, bnd_as, d0, d1]
          have hfx := fk.nx
          have hb := hb.mono (P' := (· < Hm.next)) fun id hid _ => hid
          refine W.reserve fk.wf fun Hn ln fre => ?_
          have fr0 := fre 0 (by decide)
          have h := h.le ln
          have hb := hb.leB ln
          have fk : Sf H Hn := fk.le ln
          simp only [↓wr_lit0, bnd_as, ↓wr_ret]
          refine W.empS (R := RB) (e := t_uint8) fk.wf fr0 fun z Ho fo hz => ?_
          have hz := hz.mono (P' := (Hm.next ≤ ·)) fun id _ h => by have : id = Hm.next + 0 := h; omega
          have hb := hb.nkB fo
          have h := h.nk fo
          have fk : Sf H Ho := fk.own fo fun id h => by have := h.1; omega
          have hox := fo.nx
          have hnx := ln.nx
          obtain ⟨w, hw, hws⟩ := hb.ro.sl (bnds_hi (k := .i64) (Nat.le_of_lt hiB)) (by simp) ⟨Nat.zero_le _, Nat.le_of_lt hiB⟩
          simp only [↓wr_p hw]
          refine W.app (P := (Hm.next ≤ ·)) fk.wf hz hws (by decide) (by simp; omega) (fun id hid => by omega) (fun _ _ _ _ h => h) fun z Hp' fp hz => ?_
          have hb := hb.oldB fp fun id h => h
          have h := h.ap fp fun id h1 h2 => absurd h1.2 (by have : Hm.next ≤ id := h2; omega)
          have fk : Sf H Hp' := fk.own fp fun id h => Nat.le_trans hfx h.1
          have hpx := fp.nx
          rw [wr_inc (by omega)]
          obtain ⟨w2, hw2, hws2⟩ := hb.ro.sl (bnds_lo (k := .i64) (show i + 1 ≤ B.length from hiB)) (by simp) ⟨hiB, Nat.le_refl _⟩
          simp only [↓wr_p hw2]
          refine W.app (P := (Hm.next ≤ ·)) fk.wf hz hws2 (by decide) (by simp; omega) (fun id hid => by omega) (fun _ _ _ _ h => h) fun z Hq fq hz => ?_
          have h := h.ap fq fun id h1 h2 => absurd h1.2 (by have : Hm.next ≤ id := h2; omega)
          have fk : Sf H Hq := fk.own fq fun id h => Nat.le_trans hfx h.1
          simp only [↓wr_rx, ↓wr_ret, ↓wr_gd_tt, ↓wr_gd_ff, ↓wr_gd_tf, ↓wr_gd_ft, ↓wr_gd_s, ↓wr_pick_t, ↓wr_pick_f, ↓wr_br_t, ↓wr_br_f, ↓wr_bbr_t, ↓wr_bbr_f, ↓wr_lss, ↓wr_leq, ↓wr_gtr, ↓wr_geq, ↓wr_eql, ↓wr_neq, ↓wr_not, ↓wr_cv, ↓wr_extr0, ↓wr_extr1, ↓wr_extr2, ↓wr_lenT, ↓wr_getH, gx0, gx1, gx2, gx3, ife_e, ife_n, ife_r, ife_re, ife_ne', ife_nr, ife_en, ife_rn, ife_er, decide_true, decide_false, Bool.not_true, Bool.not_false]
          exact next _ _ _ fk h (hz.rw.mono fun id _ h => Nat.le_trans hfx h) (by simp; omega)
        · by_cases d3 : d = 3
          · subst d3
            simp only [↓wr_ret, ↓wr_gd_tt, ↓wr_gd_ff, ↓wr_gd_tf, ↓wr_gd_ft, ↓wr_gd_s, ↓wr_pick_t, ↓wr_pick_f, ↓wr_br_t, ↓wr_br_f, ↓wr_bbr_t, ↓wr_bbr_f, ↓wr_lss, ↓wr_leq, ↓wr_gtr, ↓wr_geq, ↓wr_eql, ↓wr_neq, ↓wr_not, ↓wr_cv, ↓wr_extr0, ↓wr_extr1, ↓wr_extr2, ↓wr_lenT, ↓wr_getH, gx0, gx1, gx2, gx3, ife_e, ife_n, ife_r, ife_re, ife_ne', ife_nr, ife_en, ife_rn, ife_er, decide_true, decide_false, Bool.not_true, Bool.not_false, bnd_as, d0, d1, d2]
            have hfx := fk.nx
            have hb := hb.mono (P' := (· < Hm.next)) fun id hid _ => hid
            refine W.reserve fk.wf fun Hn ln fre => ?_
            have fr0 := fre 0 (by decide)
            have fr11 := fre 11 (by decide)
            have h := h.le ln
            have hb := hb.leB ln
            have fk : Sf H Hn := fk.le ln
            simp only [↓wr_getH, ↓wr_lit0, bnd_as, ↓wr_ret]
            refine W.empS (R := RB) (e := t_uint8) fk.wf fr0 fun z Ho fo hz => ?_
            have hz := hz.mono (P' := (Hm.next ≤ ·)) fun id _ h => by have : id = Hm.next + 0 := h; omega
            have fr11 := fr11.nk fo (by omega)
            have hb := hb.nkB fo
            have h := h.nk fo
            have fk : Sf H Ho := fk.own fo fun id h => by have := h.1; omega
            have hox := fo.nx
            have hnx := ln.nx
            obtain ⟨w, hw, hws⟩ := hb.ro.sl (bnds_hi (k := .i64) (Nat.le_of_lt hiB)) (by simp) ⟨Nat.zero_le _, Nat.le_of_lt hiB⟩
            simp only [↓wr_p hw, ↓wr_getH]
            refine W.app (P := (Hm.next ≤ ·)) fk.wf hz hws (by decide) (by simp; omega) (fun id hid => by omega) (fun _ _ _ _ h => h) fun z Hp' fp hz => ?_
            have fr11 := fr11.bk fp
            have hb := hb.oldB fp fun id h => h
            have h := h.ap fp fun id h1 h2 => absurd h1.2 (by have : Hm.next ≤ id := h2; omega)
            have fk : Sf H Hp' := fk.own fp fun id h => Nat.le_trans hfx h.1
            have hpx := fp.nx
            simp only [↓wr_ret, ↓wr_gd_tt, ↓wr_gd_ff, ↓wr_gd_tf, ↓wr_gd_ft, ↓wr_gd_s, ↓wr_pick_t, ↓wr_pick_f, ↓wr_br_t, ↓wr_br_f, ↓wr_bbr_t, ↓wr_bbr_f, ↓wr_lss, ↓wr_leq, ↓wr_gtr, ↓wr_geq, ↓wr_eql, ↓wr_neq, ↓wr_not, ↓wr_cv, ↓wr_extr0, ↓wr_extr1, ↓wr_extr2, ↓wr_lenT, ↓wr_getH, gx0, gx1, gx2, gx3, ife_e, ife_n, ife_r, ife_re, ife_ne', ife_nr, ife_en, ife_rn, ife_er, decide_true, decide_false, Bool.not_true, Bool.not_false, List.length_cons, List.length_nil]
            refine W.agn2 rfl rfl ?_
            refine W.bnd (c_below fk.wf h fun g Hg fg h hg => ?_)
            obtain ⟨g, rfl⟩ : ∃ b : Nat, g = (b : Int) := ⟨g.toNat, by have := hg.1; omega⟩
            have hg3 : g < ([0, 1, 2] : List UInt8).length := by have := hg.2.1 (by decide); show g < 3; omega
            have fk := fk.tr fg
            have hb := hb.bkB fg (by decide)
            have hz := hz.bkB fg (by decide)
            have fr11 := fr11.bk fg
            have hgx := fg.nx
            simp only [↓wr_ixStr hg3, bnd_as, ↓wr_c1u]
            refine W.lit1Sf (R := RB) (a := ([0, 1, 2] : List UInt8)[g]) (e := t_uint8) fk.wf fr11 rfl (fun _ _ => rfl) fun y Hh fh hy => ?_
            have hb := hb.nkB fh
            have hz := hz.nkB fh
            have h := h.nk fh
            have fk : Sf H Hh := fk.own fh fun id h => by have := h.1; omega
            have hhx := fh.nx
            refine W.app (P := (Hm.next ≤ ·)) fk.wf hz hy (by decide) (by simp; omega) (fun id hid => by omega) (fun _ _ _ _ h => h) fun z Hi fi hz => ?_
            have hb := hb.oldB fi fun id h => h
            have h := h.ap fi fun id h1 h2 => absurd h1.2 (by have : Hm.next ≤ id := h2; omega)
            have fk : Sf H Hi := fk.own fi fun id h => Nat.le_trans hfx h.1
            have hix := fi.nx
            obtain ⟨w2, hw2, hws2⟩ := hb.ro.sl (bnds_lo (k := .i64) (Nat.le_of_lt hiB)) (by simp) ⟨Nat.le_of_lt hiB, Nat.le_refl _⟩
            simp only [↓wr_p hw2]
            refine W.app (P := (Hm.next ≤ ·)) fk.wf hz hws2 (by decide) (by simp; omega) (fun id hid => by omega) (fun _ _ _ _ h => h) fun z Hq fq hz => ?_
            have h := h.ap fq fun id h1 h2 => absurd h1.2 (by have : Hm.next ≤ id := h2; omega)
            have fk : Sf H Hq := fk.own fq fun id h => Nat.le_trans hfx h.1
            simp only [↓wr_rx, ↓wr_ret, ↓wr_gd_tt, ↓wr_gd_ff, ↓wr_gd_tf, ↓wr_gd_ft, ↓wr_gd_s, ↓wr_pick_t, ↓wr_pick_f, ↓wr_br_t, ↓wr_br_f, ↓wr_bbr_t, ↓wr_bbr_f, ↓wr_lss, ↓wr_leq, ↓wr_gtr, ↓wr_geq, ↓wr_eql, ↓wr_neq, ↓wr_not, ↓wr_cv, ↓wr_extr0, ↓wr_extr1, ↓wr_extr2, ↓wr_lenT, ↓wr_getH, gx0, gx1, gx2, gx3, ife_e, ife_n, ife_r, ife_re, ife_ne', ife_nr, ife_en, ife_rn, ife_er, decide_true, decide_false, Bool.not_true, Bool.not_false]
            exact next _ _ _ fk h (hz.rw.mono fun id _ h => Nat.le_trans hfx h) (by simp; omega)
          · simp only [↓wr_ret, ↓wr_gd_tt, ↓wr_gd_ff, ↓wr_gd_tf, ↓wr_gd_ft, ↓wr_gd_s, ↓wr_pick_t, ↓wr_pick_f, ↓wr_br_t, ↓wr_br_f, ↓wr_bbr_t, ↓wr_bbr_f, ↓wr_lss, ↓wr_leq, ↓wr_gtr, ↓wr_geq, ↓wr_eql, ↓wr_neq, ↓wr_not, ↓wr_cv, ↓wr_extr0, ↓wr_extr1, ↓wr_extr2, ↓wr_lenT, ↓wr_getH, gx0, gx1, gx2, gx3, ife_e, ife_n, ife_r, ife_re, ife_ne', ife_nr, ife_en, ife_rn, ife_er, decide_true, decide_false, Bool.not_true, Bool.not_false, bnd_as, d0, d1, d2, d3, ↓wr_rx]
            exact next _ _ _ fk h hb (by omega)
  · rintro rr Hk ⟨b, B, rfl, fk, h, hb, hB⟩
    simp only [↓wr_ret, ↓wr_gd_tt, ↓wr_gd_ff, ↓wr_gd_tf, ↓wr_gd_ft, ↓wr_gd_s, ↓wr_pick_t, ↓wr_pick_f, ↓wr_br_t, ↓wr_br_f, ↓wr_bbr_t, ↓wr_bbr_f, ↓wr_lss, ↓wr_leq, ↓wr_gtr, ↓wr_geq, ↓wr_eql, ↓wr_neq, ↓wr_not, ↓wr_cv, ↓wr_extr0, ↓wr_extr1, ↓wr_extr2, ↓wr_lenT, ↓wr_getH, gx0, gx1, gx2, gx3, ife_e, ife_n, ife_r, ife_re, ife_ne', ife_nr, ife_en, ife_rn, ife_er, decide_true, decide_false, Bool.not_true, Bool.not_false, ↓wr_e (b2s_of hb)]
    exact W.ret (k _ _ fk (h.mono fun id _ h => h.1) (by omega))
end
end Go.Am

end

section
set_option linter.unusedSimpArgs false
set_option linter.unusedVariables false
/- Contracts of the draws: a job. -/
namespace Go.Am
section
variable {β X : Type} {f : AVal → AM β} {Q : AVal → AHeap → Prop} {R : AHeap → AVal → X → Prop} {m m2 : Md} {P P2 P3 P4 P5 P' S T : Nat → Prop} {e e2 : TypeId} {H H0 H1 H2 H' Hk Hl : AHeap} {v u x y x1 x2 x4 x17 tv : AVal} {A B C s D r : List Int} {L LL : List (List Int)} {p : Puz} {cs : List AVal} {t : Tbl} {id : Nat} {n : Int} {n0 tt dd N1 N2 N3 N4 : Nat} {j : Jsc} {a b c : AVal}
theorem PuzA.fr (h : PuzA P P2 H v p) (hm : ∀ mv, Lists .ro P P2 H mv p.moves → Lists .ro P3 P4 H' mv p.moves) : PuzA P3 P4 H' v p := by
  obtain ⟨mv, rfl, h1, h2, h3⟩ := h
  exact ⟨mv, rfl, hm _ h1, h2, h3⟩
/-- What stands still while a job is drawn. -/
structure DS (H : AHeap) (N1 N2 N3 N4 : Nat) (P : Nat → Prop) (x x1 x2 x4 tv : AVal) (p : Puz) (Hk : AHeap) : Prop where
  fk : Sf H Hk
  src : Src P Hk x
  b1 : Bx (Iv H.next N1) t_impl_Puzzle Hk x1 [.int .i64 0, .str [], .nilS]
  b2 : Bx (Iv N1 N2) t_impl_FillJob Hk x2 [.nilS, .nilS, .nilS, .int .i64 0, .str [], .int .i64 0]
  b4 : ∃ mv, Bx (Iv N3 N4) t_impl_Puzzle Hk x4 [i64 p.points, .str p.names, mv] ∧ PuzA (· < N4) (· < N4) Hk (.agg [i64 p.points, .str p.names, mv]) p
  trk : ∃ A, Ints .ro (· < N4) Hk tv A
  n1 : H.next ≤ N1
  n2 : N1 ≤ N2
  n3 : N2 ≤ N3
  n4 : N3 ≤ N4
theorem DS.le (h : DS H N1 N2 N3 N4 P x x1 x2 x4 tv p Hk) (hl : Le Hk Hl) : DS H N1 N2 N3 N4 P x x1 x2 x4 tv p Hl := by
  obtain ⟨fk, src, b1, b2, ⟨mv, b4, hp⟩, ⟨A, trk⟩, n1, n2, n3, n4⟩ := h
  exact ⟨fk.le hl, src.le hl, b1.le hl, b2.le hl, ⟨mv, b4.le hl, hp.le hl⟩, ⟨A, trk.leI hl⟩, n1, n2, n3, n4⟩
theorem DS.sf (h : DS H N1 N2 N3 N4 P x x1 x2 x4 tv p Hk) (hl : Sf Hk Hl) (hs : Src P Hl x) : DS H N1 N2 N3 N4 P x x1 x2 x4 tv p Hl := by
  obtain ⟨fk, src, b1, b2, ⟨mv, b4, hp⟩, ⟨A, trk⟩, n1, n2, n3, n4⟩ := h
  exact ⟨fk.tr hl, hs, b1.bk hl (by decide), b2.bk hl (by decide), ⟨mv, b4.bk hl (by decide), hp.fr fun mv h => Seq.bkL h hl (by decide) (by decide)⟩, ⟨A, trk.bkI hl (by decide)⟩, n1, n2, n3, n4⟩
theorem DS.hi (h : DS H N1 N2 N3 N4 P x x1 x2 x4 tv p Hk) (hf : Fr (Bk P' e Hk) Hk Hl) (hP : ∀ id, P' id → N4 ≤ id) (e1 : e ≠ t_spec_source := by decide) (e2 : e ≠ t_uint8 := by decide) : DS H N1 N2 N3 N4 P x x1 x2 x4 tv p Hl := by
  obtain ⟨fk, src, b1, b2, ⟨mv, b4, hp⟩, ⟨A, trk⟩, n1, n2, n3, n4⟩ := h
  have hf' : Fr (Bk (N4 ≤ ·) e Hk) Hk Hl := hf.mono fun id _ h => ⟨hP id h.1, h.2⟩
  refine ⟨fk.own hf' fun id h => by have : N4 ≤ id := h.1; omega, src.bk hf e1 e2, b1.ap hf' (iv_nw (by omega)), b2.ap hf' (iv_nw (by omega)), ⟨mv, b4.ap hf' (iv_nw (Nat.le_refl _)), hp.fr fun mv h => ?_⟩, ⟨A, trk.oldI hf' fun id h => h⟩, n1, n2, n3, n4⟩
  exact Seq.oldL h hf' (fun id h => h) fun id h => h
theorem DS.nk (h : DS H N1 N2 N3 N4 P x x1 x2 x4 tv p Hk) (hf : Fr (Nk id Hk) Hk Hl) (hid : N4 ≤ id) : DS H N1 N2 N3 N4 P x x1 x2 x4 tv p Hl := by
  obtain ⟨fk, src, b1, b2, ⟨mv, b4, hp⟩, ⟨A, trk⟩, n1, n2, n3, n4⟩ := h
  exact ⟨fk.own hf fun i h => by have := h.1; omega, src.nk hf, b1.nk hf, b2.nk hf, ⟨mv, b4.nk hf, hp.fr fun mv h => Seq.nkL h hf⟩, ⟨A, trk.nkI hf⟩, n1, n2, n3, n4⟩
theorem d28_fin (h : DS H N1 N2 N3 N4 P x x1 x2 x4 tv p Hk) (b17 : Bx (N4 ≤ ·) t_impl_FillJob Hk x17 (j.cells a b c)) (hj : JobC N4 tt dd Hk a b c t)
    (k : ∀ v w p t j H', Sf H H' → Src P H' x → PuzA Any Any H' v p → JobR H' w t j → Q (.tuple [v, w]) H') :
    W (bnd (ldn 3 x4) fun x94 =>
 bnd getH fun h95 =>
 bnd (stn 3 x1 x94) fun _ =>
 bnd (ldn 6 x17) fun x96 =>
 bnd (agn (ldn 6 x17) x96 [h95]) fun _ =>
 bnd (stn 6 x2 x96) fun _ =>
 bnd (ldn 3 x1) fun v97 => bnd (ldn 6 x2) fun v98 => ret (.tuple [v97, v98])) Hk Q := by
  obtain ⟨fk, src, b1, b2, ⟨mv, b4, hp⟩, ⟨A, trk⟩, n1, n2, n3, n4⟩ := h
  have b17 : Bx (N4 ≤ ·) t_impl_FillJob Hk x17 [a, b, c, i64 j.nx, .str j.lg, i64 j.sy] := b17
  have b17k := b17
  obtain ⟨mv', he, hm, h64, hnl⟩ := hp
  simp only [AVal.agg.injEq, List.cons.injEq, and_true, true_and] at he
  subst he
  simp only [↓wr_ld3 b4, ↓wr_getH]
  refine W.fsw fk.wf b1 rfl rfl (cells_p hm.isCell) fun Hm fm b1 => ?_
  have b2 := b2.bk fm (by decide)
  have b17 := b17.bk fm (by decide)
  have hj := hj.bk fm (by decide) (by decide)
  have hm := hm.bkL fm (by decide) (by decide)
  have src := src.bk fm (by decide) (by decide)
  have fk : Sf H Hm := fk.own fm fun id h => h.1.1
  simp only [↓wr_ld6 b17]
  refine W.agn1 (b17k.ldw rfl) ?_
  refine W.fsw fk.wf b2 rfl rfl hj.cells fun Hn fn b2 => ?_
  have b2 : Bx (Iv N1 N2) t_impl_FillJob Hn x2 [a, b, c, i64 j.nx, .str j.lg, i64 j.sy] := b2
  have b1 := b1.bk fn (by decide)
  simp only [↓wr_ld3 b1, ↓wr_ld6 b2]
  exact W.ret (k _ _ p t j _ (fk.own fn fun id h => by have := h.1.1; omega) (src.bk fn (by decide) (by decide)) ⟨mv, rfl, Seq.anyL (hm.bkL fn (by decide) (by decide)), h64, hnl⟩ (hj.bk fn (by decide) (by decide)).rd)
theorem c_l28Draw (hp : Hp H) (h : Src P H x) (k : ∀ v w p t j H', Sf H H' → Src P H' x → PuzA Any Any H' v p → JobR H' w t j → Q (.tuple [v, w]) H') : W (s_sp_l28Draw x) H Q := by
  unfold s_sp_l28Draw
  refine W.alloc hp fun x1 H1 l1 b1 => ?_
  have b1 := Bx.iv b1
  refine W.alloc l1.wf fun x2 H2 l2 b2 => ?_
  have b2 := Bx.iv b2
  have b1 := b1.le l2
  have fk := Sf.of (l1.tr l2)
  have h := h.le (l1.tr l2)
  refine W.bnd (c_l24DrawPuzzle fk.wf h fun pv p H3 f3 h hpz => ?_)
  have b1 := b1.bk f3 (by decide)
  have b2 := b2.bk f3 (by decide)
  have n23 : H2.next ≤ H3.next := f3.nx
  have fk := fk.tr f3
  refine W.alloc fk.wf fun x4 H4 l4 b4 => ?_
  have b4 := Bx.iv b4
  have b1 := b1.le l4
  have b2 := b2.le l4
  have h := h.le l4
  have n13 : H1.next ≤ H3.next := Nat.le_trans l2.nx n23
  have nH3 : H.next ≤ H3.next := fk.nx
  obtain ⟨mv, rfl, hm, h64, hnl⟩ := hpz
  have hm := Seq.leL hm l4
  have fk := fk.le l4
  refine W.fsw fk.wf b4 rfl rfl (cells_p hm.isCell) fun H5 f5 b4 => ?_
  have b1 := b1.ap f5 fun id h1 h2 => absurd h1.2 (by have := h2.1; omega)
  have b2 := b2.bk f5 (by decide)
  have h := h.bk f5 (by decide) (by decide)
  have hm := Seq.bkL hm f5 (by decide) (by decide)
  have fk : Sf H H5 := fk.own f5 fun id h => Nat.le_trans nH3 h.1.1
  have n45 : H4.next ≤ H5.next := f5.nx
  have hm := (hm.mono (P' := (· < H5.next)) fun id hid _ => hid).monoR (P2' := (· < H5.next)) fun id hid _ => hid
  refine W.bnd (c_below fk.wf h fun d H6 f6 h hd => ?_)
  have b1 := b1.bk f6 (by decide)
  have b2 := b2.bk f6 (by decide)
  have b4 := b4.bk f6 (by decide)
  have hm := Seq.bkL hm f6 (by decide) (by decide)
  have fk := fk.tr f6
  simp only [bnd_as, ↓wr_c1i, ↓wr_ret]
  refine W.lit1f (R := RI) (e := t_int64) (a := d) fk.wf rfl (fun _ _ => rfl) fun x7 H7 l7 h7 => ?_
  have b1 := b1.le l7
  have b2 := b2.le l7
  have b4 := b4.le l7
  have hm := Seq.leL hm l7
  have h := h.le l7
  have n67 : H.next ≤ H6.next := fk.nx
  have n65 : H5.next ≤ H6.next := f6.nx
  have fk := fk.le l7
  refine W.bnd (c_oneIn fk.wf h fun bl H8 f8 h => ?_)
  have b1 := b1.bk f8 (by decide)
  have b2 := b2.bk f8 (by decide)
  have b4 := b4.bk f8 (by decide)
  have hm := Seq.bkL hm f8 (by decide) (by decide)
  have h7 := h7.bkI f8 (by decide)
  have fk := fk.tr f8
  refine W.c (R := fun rr Hk => ∃ tv A, rr = (.normal, [tv]) ∧ Sf H Hk ∧ Src P Hk x ∧ Bx (Iv H.next H1.next) t_impl_Puzzle Hk x1 [.int .i64 0, .str [], .nilS] ∧ Bx (Iv H1.next H2.next) t_impl_FillJob Hk x2 [.nilS, .nilS, .nilS, .int .i64 0, .str [], .int .i64 0] ∧
    Bx (Iv H3.next H4.next) t_impl_Puzzle Hk x4 [i64 p.points, .str p.names, mv] ∧ Lists .ro (· < H5.next) (· < H5.next) Hk mv p.moves ∧ Ints .own (Nw H) Hk tv A ∧ H8.next ≤ Hk.next) ?_ ?_
  · cases bl with
    | true =>
      simp only [↓wr_br_t, bnd_as, ↓wr_c1i, ↓wr_ret]
      refine W.app1f (R := RI) (w := 2) (P := Nw H6) fk.wf h7 stb_RI rfl (by decide) (by simp) (fun id hid => Nat.le_trans l7.nx (Nat.le_trans f8.nx hid)) rfl fun y H9 f9 hy => ?_
      exact W.ret ⟨y, _, rfl, fk.own f9 fun id h => by have : H6.next ≤ id := h.1; omega, h.bk f9 (by decide) (by decide), b1.bk f9 (by decide), b2.bk f9 (by decide), b4.bk f9 (by decide), hm.fr f9 (fun id c fz _ _ hg => Bk.ne (by decide) hg) (fun v x hx => Seq.apI hx f9 fun id h1 h2 => by
        have : id < H5.next := h1
        have : H6.next ≤ id := h2
        omega), hy.mono fun id _ hid => by have : H6.next ≤ id := hid; omega, f9.nx⟩
    | false =>
      simp only [↓wr_br_f]
      exact W.ret ⟨x7, _, rfl, fk, h, b1, b2, b4, hm, h7.mono fun id _ hid => by have : H6.next ≤ id := hid; omega, Nat.le_refl _⟩
  rintro rr Hk ⟨tv, A, rfl, fk, h, b1, b2, b4, hm, htv, n8k⟩
  have n5k : H5.next ≤ Hk.next := Nat.le_trans n65 (Nat.le_trans l7.nx (Nat.le_trans f8.nx n8k))
  have ds : DS H H1.next H2.next H3.next Hk.next P x x1 x2 x4 tv p Hk := ⟨fk, h, b1, b2, ⟨mv, b4.ivm (by omega), mv, rfl, (hm.mono fun id _ h => by have : id < H5.next := h; omega).monoR fun id _ h => by have : id < H5.next := h; omega, h64, hnl⟩, ⟨A, htv.ro.mono fun id hid _ => hid⟩, l1.nx, l2.nx, n23, by have := l4.nx; omega⟩
  simp only [↓wr_ret, ↓wr_gd_tt, ↓wr_gd_ff, ↓wr_gd_tf, ↓wr_gd_ft, ↓wr_gd_s, ↓wr_pick_t, ↓wr_pick_f, ↓wr_br_t, ↓wr_br_f, ↓wr_bbr_t, ↓wr_bbr_f, ↓wr_lss, ↓wr_leq, ↓wr_gtr, ↓wr_geq, ↓wr_eql, ↓wr_neq, ↓wr_not, ↓wr_cv, ↓wr_extr0, ↓wr_extr1, ↓wr_extr2, ↓wr_lenT, ↓wr_getH, gx0, gx1, gx2, gx3, ife_e, ife_n, ife_r, ife_re, ife_ne', ife_nr, ife_en, ife_rn, ife_er, decide_true, decide_false, Bool.not_true, Bool.not_false, ↓wr_ld3 b4]
  refine W.bnd (c_StartFill (p := p) fk.wf ⟨mv, rfl, hm, h64, hnl⟩ htv.ro (fun Hl ll => ?_) fun w tt dd Hl ll htr hj => ?_)
  · simp only [↓wr_ret, ↓wr_gd_tt, ↓wr_gd_ff, ↓wr_gd_tf, ↓wr_gd_ft, ↓wr_gd_s, ↓wr_pick_t, ↓wr_pick_f, ↓wr_br_t, ↓wr_br_f, ↓wr_bbr_t, ↓wr_bbr_f, ↓wr_lss, ↓wr_leq, ↓wr_gtr, ↓wr_geq, ↓wr_eql, ↓wr_neq, ↓wr_not, ↓wr_cv, ↓wr_extr0, ↓wr_extr1, ↓wr_extr2, ↓wr_lenT, ↓wr_getH, gx0, gx1, gx2, gx3, ife_e, ife_n, ife_r, ife_re, ife_ne', ife_nr, ife_en, ife_rn, ife_er, decide_true, decide_false, Bool.not_true, Bool.not_false]
    have ds := ds.le ll
    have nkl := ll.nx
    refine W.alloc ll.wf fun x17 Hm lm b17 => ?_
    have ds := ds.le lm
    refine W.fsw lm.wf b17 rfl rfl rfl fun Hn fn b17 => ?_
    have ds := ds.hi fn fun id h => Nat.le_trans nkl h
    simp only [↓wr_ret, ↓wr_gd_tt, ↓wr_gd_ff, ↓wr_gd_tf, ↓wr_gd_ft, ↓wr_gd_s, ↓wr_pick_t, ↓wr_pick_f, ↓wr_br_t, ↓wr_br_f, ↓wr_bbr_t, ↓wr_bbr_f, ↓wr_lss, ↓wr_leq, ↓wr_gtr, ↓wr_geq, ↓wr_eql, ↓wr_neq, ↓wr_not, ↓wr_cv, ↓wr_extr0, ↓wr_extr1, ↓wr_extr2, ↓wr_lenT, ↓wr_getH, gx0, gx1, gx2, gx3, ife_e, ife_n, ife_r, ife_re, ife_ne', ife_nr, ife_en, ife_rn, ife_er, decide_true, decide_false, Bool.not_true, Bool.not_false]
    exact d28_fin (t := ⟨[], [], []⟩) (tt := 0) (dd := 1) (j := j0) ds (b17.mono fun id _ h => Nat.le_trans nkl h) ⟨.nil, .nil, .nil, by decide⟩ k
  · simp only [↓wr_ret, ↓wr_gd_tt, ↓wr_gd_ff, ↓wr_gd_tf, ↓wr_gd_ft, ↓wr_gd_s, ↓wr_pick_t, ↓wr_pick_f, ↓wr_br_t, ↓wr_br_f, ↓wr_bbr_t, ↓wr_bbr_f, ↓wr_lss, ↓wr_leq, ↓wr_gtr, ↓wr_geq, ↓wr_eql, ↓wr_neq, ↓wr_not, ↓wr_cv, ↓wr_extr0, ↓wr_extr1, ↓wr_extr2, ↓wr_lenT, ↓wr_getH, gx0, gx1, gx2, gx3, ife_e, ife_n, ife_r, ife_re, ife_ne', ife_nr, ife_en, ife_rn, ife_er, decide_true, decide_false, Bool.not_true, Bool.not_false]
    have ds := ds.le ll
    have nkl := ll.nx
    refine W.alloc ll.wf fun x17 Hm lm b17 => ?_
    have ds := ds.le lm
    obtain ⟨a, b, c, rfl, hj⟩ := hj
    have hj := hj.le lm
    refine W.fsw lm.wf b17 rfl rfl hj.cells fun Hn fn b17 => ?_
    have ds := ds.hi fn fun id h => Nat.le_trans nkl h
    have hj := hj.bk fn (by decide) (by decide)
    have b17 : Bx (Hk.next ≤ ·) t_impl_FillJob Hn x17 (j0.cells a b c) := b17.mono fun id _ h => Nat.le_trans nkl h
    have hok : JobOk ⟨A, [A], [0]⟩ j0 1 := ⟨rfl, by simp, ⟨0, rfl, Nat.zero_le _⟩, by simp, by have := htr.2.1.1; show 1 ≤ A.length; omega, by decide⟩
    simp only [↓wr_ret, ↓wr_gd_tt, ↓wr_gd_ff, ↓wr_gd_tf, ↓wr_gd_ft, ↓wr_gd_s, ↓wr_pick_t, ↓wr_pick_f, ↓wr_br_t, ↓wr_br_f, ↓wr_bbr_t, ↓wr_bbr_f, ↓wr_lss, ↓wr_leq, ↓wr_gtr, ↓wr_geq, ↓wr_eql, ↓wr_neq, ↓wr_not, ↓wr_cv, ↓wr_extr0, ↓wr_extr1, ↓wr_extr2, ↓wr_lenT, ↓wr_getH, gx0, gx1, gx2, gx3, ife_e, ife_n, ife_r, ife_re, ife_ne', ife_nr, ife_en, ife_rn, ife_er, decide_true, decide_false, Bool.not_true, Bool.not_false]
    generalize Hk.next = N4 at *
    refine W.bnd (c_below ds.fk.wf ds.src fun d Ho fo h hd => ?_)
    have ds := ds.sf fo h
    have hj := hj.bk fo (by decide) (by decide)
    have b17 := b17.bk fo (by decide)
    obtain ⟨d, rfl⟩ : ∃ b : Nat, d = (b : Int) := ⟨d.toNat, by have := hd.1; omega⟩
    have hd5 : d < 5 := by have := hd.2.1 (by decide); omega
    refine W.lq (fun q st Hk => ∃ (a b c : AVal) (tt dd : Nat) (t : Tbl) (j : Jsc), q < 5 ∧ st = [i64 (q : Int)] ∧ DS H H1.next H2.next H3.next N4 P x x1 x2 x4 tv p Hk ∧ Bx (N4 ≤ ·) t_impl_FillJob Hk x17 (j.cells a b c) ∧ JobC N4 tt dd Hk a b c t ∧ JobOk t j (1 + 16 * (4 - q)))
      (fun rr Hk => ∃ (a b c : AVal) (tt dd : Nat) (t : Tbl) (j : Jsc), rr = (.exit 0, []) ∧ DS H H1.next H2.next H3.next N4 P x x1 x2 x4 tv p Hk ∧ Bx (N4 ≤ ·) t_impl_FillJob Hk x17 (j.cells a b c) ∧ JobC N4 tt dd Hk a b c t ∧ JobOk t j 1000) d
      ⟨a, b, c, tt, dd, _, _, hd5, rfl, ds, b17, hj, hok.len, by have := hok.few; omega, hok.nx, hok.ne, hok.tr, hok.lg⟩ ?_ ?_
    · rintro q st Hk ⟨a, b, c, tt, dd, t, j, hq, rfl, ds, b17, hj, hok⟩ Q' kn kx
      by_cases h0 : (0 : Int) < q
      case neg =>
        simp only [↓wr_ret, ↓wr_gd_tt, ↓wr_gd_ff, ↓wr_gd_tf, ↓wr_gd_ft, ↓wr_gd_s, ↓wr_pick_t, ↓wr_pick_f, ↓wr_br_t, ↓wr_br_f, ↓wr_bbr_t, ↓wr_bbr_f, ↓wr_lss, ↓wr_leq, ↓wr_gtr, ↓wr_geq, ↓wr_eql, ↓wr_neq, ↓wr_not, ↓wr_cv, ↓wr_extr0, ↓wr_extr1, ↓wr_extr2, ↓wr_lenT, ↓wr_getH, gx0, gx1, gx2, gx3, ife_e, ife_n, ife_r, ife_re, ife_ne', ife_nr, ife_en, ife_rn, ife_er, decide_true, decide_false, Bool.not_true, Bool.not_false, h0]
        exact W.ret (kx _ _ _ (by simp) ⟨a, b, c, tt, dd, t, j, rfl, ds, b17, hj, hok.len, by have := hok.few; omega, hok.nx, hok.ne, hok.tr, hok.lg⟩)
      obtain ⟨mv, b4, hpz⟩ := ds.b4
      have hpz' := hpz
      have b17' : Bx (N4 ≤ ·) t_impl_FillJob Hk x17 [a, b, c, i64 j.nx, .str j.lg, i64 j.sy] := b17
      have hN4 : N4 ≤ Hk.next := by
        obtain ⟨id, _, g1, g2, _⟩ := b17'
        have : N4 ≤ id := g1
        omega
      simp only [↓wr_ret, ↓wr_gd_tt, ↓wr_gd_ff, ↓wr_gd_tf, ↓wr_gd_ft, ↓wr_gd_s, ↓wr_pick_t, ↓wr_pick_f, ↓wr_br_t, ↓wr_br_f, ↓wr_bbr_t, ↓wr_bbr_f, ↓wr_lss, ↓wr_leq, ↓wr_gtr, ↓wr_geq, ↓wr_eql, ↓wr_neq, ↓wr_not, ↓wr_cv, ↓wr_extr0, ↓wr_extr1, ↓wr_extr2, ↓wr_lenT, ↓wr_getH, gx0, gx1, gx2, gx3, ife_e, ife_n, ife_r, ife_re, ife_ne', ife_nr, ife_en, ife_rn, ife_er, decide_true, decide_false, Bool.not_true, Bool.not_false, h0, ↓wr_ld3 b4, ↓wr_ld6 b17']
      refine W.bnd (c_l28Step (p := p) ds.fk.wf hpz ⟨a, b, c, rfl, hj⟩ hN4 hok (by omega) fun w bl tt dd t j Hl ll hj hok => ?_)
      have ds := ds.le ll
      have b17 := b17.le ll
      obtain ⟨a, b, c, rfl, hj⟩ := hj
      simp only [↓wr_ret, ↓wr_gd_tt, ↓wr_gd_ff, ↓wr_gd_tf, ↓wr_gd_ft, ↓wr_gd_s, ↓wr_pick_t, ↓wr_pick_f, ↓wr_br_t, ↓wr_br_f, ↓wr_bbr_t, ↓wr_bbr_f, ↓wr_lss, ↓wr_leq, ↓wr_gtr, ↓wr_geq, ↓wr_eql, ↓wr_neq, ↓wr_not, ↓wr_cv, ↓wr_extr0, ↓wr_extr1, ↓wr_extr2, ↓wr_lenT, ↓wr_getH, gx0, gx1, gx2, gx3, ife_e, ife_n, ife_r, ife_re, ife_ne', ife_nr, ife_en, ife_rn, ife_er, decide_true, decide_false, Bool.not_true, Bool.not_false]
      refine W.fsw ll.wf b17 rfl rfl hj.cells fun Hm fm b17 => ?_
      have ds := ds.hi fm fun id h => h
      have hj := hj.bk fm (by decide) (by decide)
      refine W.bnd (c_oneIn ds.fk.wf ds.src fun bl Hn fn h => ?_)
      have ds := ds.sf fn h
      have hj := hj.bk fn (by decide) (by decide)
      have b17 := b17.bk fn (by decide)
      have e1 : (q : Int) - 1 = ((q - 1 : Nat) : Int) := by omega
      have s1 : In64 ((q : Int) - 1) := by unfold In64; omega
      have hok2 : JobOk t j (1 + 16 * (4 - (q - 1))) := ⟨hok.len, by have := hok.few; omega, hok.nx, hok.ne, hok.tr, hok.lg⟩
      cases bl with
      | true =>
        have b17 : Bx (N4 ≤ ·) t_impl_FillJob Hn x17 [a, b, c, i64 j.nx, .str j.lg, i64 j.sy] := b17
        simp only [↓wr_ret, ↓wr_gd_tt, ↓wr_gd_ff, ↓wr_gd_tf, ↓wr_gd_ft, ↓wr_gd_s, ↓wr_pick_t, ↓wr_pick_f, ↓wr_br_t, ↓wr_br_f, ↓wr_bbr_t, ↓wr_bbr_f, ↓wr_lss, ↓wr_leq, ↓wr_gtr, ↓wr_geq, ↓wr_eql, ↓wr_neq, ↓wr_not, ↓wr_cv, ↓wr_extr0, ↓wr_extr1, ↓wr_extr2, ↓wr_lenT, ↓wr_getH, gx0, gx1, gx2, gx3, ife_e, ife_n, ife_r, ife_re, ife_ne', ife_nr, ife_en, ife_rn, ife_er, decide_true, decide_false, Bool.not_true, Bool.not_false, bnd_as, ↓wr_fadd b17, ↓wr_f4 b17]
        refine W.fst ds.fk.wf b17 (by simp) rfl fun Ho fo b17 => ?_
        simp only [↓wr_ret, ↓wr_gd_tt, ↓wr_gd_ff, ↓wr_gd_tf, ↓wr_gd_ft, ↓wr_gd_s, ↓wr_pick_t, ↓wr_pick_f, ↓wr_br_t, ↓wr_br_f, ↓wr_bbr_t, ↓wr_bbr_f, ↓wr_lss, ↓wr_leq, ↓wr_gtr, ↓wr_geq, ↓wr_eql, ↓wr_neq, ↓wr_not, ↓wr_cv, ↓wr_extr0, ↓wr_extr1, ↓wr_extr2, ↓wr_lenT, ↓wr_getH, gx0, gx1, gx2, gx3, ife_e, ife_n, ife_r, ife_re, ife_ne', ife_nr, ife_en, ife_rn, ife_er, decide_true, decide_false, Bool.not_true, Bool.not_false, ↓wr_rx, ↓wr_sub s1]
        rw [e1]
        exact W.ret (kn (q - 1) _ _ (by omega) ⟨a, b, c, tt, dd, t, ⟨j.nx, j.lg, j.lg.length⟩, by omega, rfl, ds.hi fo fun id h => h, b17, hj.bk fo (by decide) (by decide), hok2.len, hok2.few, hok2.nx, hok2.ne, hok2.tr, hok2.lg⟩)
      | false =>
        simp only [↓wr_ret, ↓wr_gd_tt, ↓wr_gd_ff, ↓wr_gd_tf, ↓wr_gd_ft, ↓wr_gd_s, ↓wr_pick_t, ↓wr_pick_f, ↓wr_br_t, ↓wr_br_f, ↓wr_bbr_t, ↓wr_bbr_f, ↓wr_lss, ↓wr_leq, ↓wr_gtr, ↓wr_geq, ↓wr_eql, ↓wr_neq, ↓wr_not, ↓wr_cv, ↓wr_extr0, ↓wr_extr1, ↓wr_extr2, ↓wr_lenT, ↓wr_getH, gx0, gx1, gx2, gx3, ife_e, ife_n, ife_r, ife_re, ife_ne', ife_nr, ife_en, ife_rn, ife_er, decide_true, decide_false, Bool.not_true, Bool.not_false, ↓wr_rx, ↓wr_sub s1]
        rw [e1]
        exact W.ret (kn (q - 1) _ _ (by omega) ⟨a, b, c, tt, dd, t, j, by omega, rfl, ds, b17, hj, hok2⟩)
    rintro rr Hk ⟨a, b, c, tt, dd, t, j, rfl, ds, b17, hj, hok⟩
    simp only [↓wr_ret, ↓wr_gd_tt, ↓wr_gd_ff, ↓wr_gd_tf, ↓wr_gd_ft, ↓wr_gd_s, ↓wr_pick_t, ↓wr_pick_f, ↓wr_br_t, ↓wr_br_f, ↓wr_bbr_t, ↓wr_bbr_f, ↓wr_lss, ↓wr_leq, ↓wr_gtr, ↓wr_geq, ↓wr_eql, ↓wr_neq, ↓wr_not, ↓wr_cv, ↓wr_extr0, ↓wr_extr1, ↓wr_extr2, ↓wr_lenT, ↓wr_getH, gx0, gx1, gx2, gx3, ife_e, ife_n, ife_r, ife_re, ife_ne', ife_nr, ife_en, ife_rn, ife_er, decide_true, decide_false, Bool.not_true, Bool.not_false]
    refine W.bnd (c_oneIn ds.fk.wf ds.src fun bl Hl fl h => ?_)
    have ds := ds.sf fl h
    have hj := hj.bk fl (by decide) (by decide)
    have b17 := b17.bk fl (by decide)
    refine W.c (R := fun rr Hk => ∃ (a b c : AVal) (tt dd : Nat) (t : Tbl) (j : Jsc), rr = (.normal, []) ∧ DS H H1.next H2.next H3.next N4 P x x1 x2 x4 tv p Hk ∧ Bx (N4 ≤ ·) t_impl_FillJob Hk x17 (j.cells a b c) ∧ JobC N4 tt dd Hk a b c t) ?_ ?_
    · cases bl with
      | false =>
        simp only [↓wr_br_f]
        exact W.ret ⟨a, b, c, tt, dd, t, j, rfl, ds, b17, hj⟩
      | true =>
        simp only [↓wr_br_t]
        refine W.bnd (c_below ds.fk.wf ds.src fun d Hm fm h hd => ?_)
        have ds := ds.sf fm h
        have hj := hj.bk fm (by decide) (by decide)
        have b17 := b17.bk fm (by decide)
        have b17 : Bx (N4 ≤ ·) t_impl_FillJob Hm x17 [a, b, c, i64 j.nx, .str j.lg, i64 j.sy] := b17
        have hlg := hok.lg
        by_cases d0 : d = 0
        · subst d0
          simp only [↓wr_ret, ↓wr_gd_tt, ↓wr_gd_ff, ↓wr_gd_tf, ↓wr_gd_ft, ↓wr_gd_s, ↓wr_pick_t, ↓wr_pick_f, ↓wr_br_t, ↓wr_br_f, ↓wr_bbr_t, ↓wr_bbr_f, ↓wr_lss, ↓wr_leq, ↓wr_gtr, ↓wr_geq, ↓wr_eql, ↓wr_neq, ↓wr_not, ↓wr_cv, ↓wr_extr0, ↓wr_extr1, ↓wr_extr2, ↓wr_lenT, ↓wr_getH, gx0, gx1, gx2, gx3, ife_e, ife_n, ife_r, ife_re, ife_ne', ife_nr, ife_en, ife_rn, ife_er, decide_true, decide_false, Bool.not_true, Bool.not_false, bnd_as]
          refine W.bnd (c_between ds.fk.wf ds.src (by decide) fun d Hn fn h hd => ?_)
          have ds := ds.sf fn h
          have hj := hj.bk fn (by decide) (by decide)
          have b17' := b17
          have b17 := b17.bk fn (by decide)
          simp only [↓wr_fadd b17, ↓wr_f3 b17]
          refine W.agn1 (b17'.ld1 rfl) ?_
          simp only [↓wr_addw, ↓wr_fadd b17]
          refine W.fst ds.fk.wf b17 (by simp) rfl fun Ho fo b17 => ?_
          simp only [↓wr_ret, ↓wr_gd_tt, ↓wr_gd_ff, ↓wr_gd_tf, ↓wr_gd_ft, ↓wr_gd_s, ↓wr_pick_t, ↓wr_pick_f, ↓wr_br_t, ↓wr_br_f, ↓wr_bbr_t, ↓wr_bbr_f, ↓wr_lss, ↓wr_leq, ↓wr_gtr, ↓wr_geq, ↓wr_eql, ↓wr_neq, ↓wr_not, ↓wr_cv, ↓wr_extr0, ↓wr_extr1, ↓wr_extr2, ↓wr_lenT, ↓wr_getH, gx0, gx1, gx2, gx3, ife_e, ife_n, ife_r, ife_re, ife_ne', ife_nr, ife_en, ife_rn, ife_er, decide_true, decide_false, Bool.not_true, Bool.not_false, ↓wr_rx]
          exact W.ret ⟨a, b, c, tt, dd, t, ⟨IntKind.i64.wrap (j.nx + d), j.lg, j.sy⟩, rfl, ds.hi fo fun id h => h, b17, hj.bk fo (by decide) (by decide)⟩
        by_cases d1 : d = 1
        · subst d1
          have s1 : In64 ((j.lg.length : Int) + 1) := by unfold In64; omega
          simp only [↓wr_ret, ↓wr_gd_tt, ↓wr_gd_ff, ↓wr_gd_tf, ↓wr_gd_ft, ↓wr_gd_s, ↓wr_pick_t, ↓wr_pick_f, ↓wr_br_t, ↓wr_br_f, ↓wr_bbr_t, ↓wr_bbr_f, ↓wr_lss, ↓wr_leq, ↓wr_gtr, ↓wr_geq, ↓wr_eql, ↓wr_neq, ↓wr_not, ↓wr_cv, ↓wr_extr0, ↓wr_extr1, ↓wr_extr2, ↓wr_lenT, ↓wr_getH, gx0, gx1, gx2, gx3, ife_e, ife_n, ife_r, ife_re, ife_ne', ife_nr, ife_en, ife_rn, ife_er, decide_true, decide_false, Bool.not_true, Bool.not_false, bnd_as, d0, ↓wr_fadd b17, ↓wr_f4 b17, ↓wr_add s1]
          refine W.bnd (c_between ds.fk.wf ds.src (by omega) fun d Hn fn h hd => ?_)
          have ds := ds.sf fn h
          have hj := hj.bk fn (by decide) (by decide)
          have b17 := b17.bk fn (by decide)
          simp only [↓wr_fadd b17]
          refine W.fst ds.fk.wf b17 (by simp) rfl fun Ho fo b17 => ?_
          simp only [↓wr_ret, ↓wr_gd_tt, ↓wr_gd_ff, ↓wr_gd_tf, ↓wr_gd_ft, ↓wr_gd_s, ↓wr_pick_t, ↓wr_pick_f, ↓wr_br_t, ↓wr_br_f, ↓wr_bbr_t, ↓wr_bbr_f, ↓wr_lss, ↓wr_leq, ↓wr_gtr, ↓wr_geq, ↓wr_eql, ↓wr_neq, ↓wr_not, ↓wr_cv, ↓wr_extr0, ↓wr_extr1, ↓wr_extr2, ↓wr_lenT, ↓wr_getH, gx0, gx1, gx2, gx3, ife_e, ife_n, ife_r, ife_re, ife_ne', ife_nr, ife_en, ife_rn, ife_er, decide_true, decide_false, Bool.not_true, Bool.not_false, ↓wr_rx]
          exact W.ret ⟨a, b, c, tt, dd, t, ⟨j.nx, j.lg, d⟩, rfl, ds.hi fo fun id h => h, b17, hj.bk fo (by decide) (by decide)⟩
        by_cases d2 : d = 2
        · subst d2
          simp only [↓wr_ret, ↓wr_gd_tt, ↓wr_gd_ff, ↓wr_gd_tf, ↓wr_gd_ft, ↓wr_gd_s, ↓wr_pick_t, ↓wr_pick_f, ↓wr_br_t, ↓wr_br_f, ↓wr_bbr_t, ↓wr_bbr_f, ↓wr_lss, ↓wr_leq, ↓wr_gtr, ↓wr_geq, ↓wr_eql, ↓wr_neq, ↓wr_not, ↓wr_cv, ↓wr_extr0, ↓wr_extr1, ↓wr_extr2, ↓wr_lenT, ↓wr_getH, gx0, gx1, gx2, gx3, ife_e, ife_n, ife_r, ife_re, ife_ne', ife_nr, ife_en, ife_rn, ife_er, decide_true, decide_false, Bool.not_true, Bool.not_false, bnd_as, d0, d1, ↓wr_fadd b17, ↓wr_f4 b17]
          refine W.bnd (c_corrupt ds.fk.wf ds.src (by omega) fun s Hn fn h hs => ?_)
          have ds := ds.sf fn h
          have hj := hj.bk fn (by decide) (by decide)
          have b17 := b17.bk fn (by decide)
          simp only [↓wr_fadd b17]
          refine W.fst ds.fk.wf b17 (by simp) rfl fun Ho fo b17 => ?_
          simp only [↓wr_ret, ↓wr_gd_tt, ↓wr_gd_ff, ↓wr_gd_tf, ↓wr_gd_ft, ↓wr_gd_s, ↓wr_pick_t, ↓wr_pick_f, ↓wr_br_t, ↓wr_br_f, ↓wr_bbr_t, ↓wr_bbr_f, ↓wr_lss, ↓wr_leq, ↓wr_gtr, ↓wr_geq, ↓wr_eql, ↓wr_neq, ↓wr_not, ↓wr_cv, ↓wr_extr0, ↓wr_extr1, ↓wr_extr2, ↓wr_lenT, ↓wr_getH, gx0, gx1, gx2, gx3, ife_e, ife_n, ife_r, ife_re, ife_ne', ife_nr, ife_en, ife_rn, ife_er, decide_true, decide_false, Bool.not_true, Bool.not_false, ↓wr_rx]
          exact W.ret ⟨a, b, c, tt, dd, t, ⟨j.nx, s, j.sy⟩, rfl, ds.hi fo fun id h => h, b17, hj.bk fo (by decide) (by decide)⟩
        by_cases d3 : d = 3
        · subst d3
          simp only [↓wr_ret, ↓wr_gd_tt, ↓wr_gd_ff, ↓wr_gd_tf, ↓wr_gd_ft, ↓wr_gd_s, ↓wr_pick_t, ↓wr_pick_f, ↓wr_br_t, ↓wr_br_f, ↓wr_bbr_t, ↓wr_bbr_f, ↓wr_lss, ↓wr_leq, ↓wr_gtr, ↓wr_geq, ↓wr_eql, ↓wr_neq, ↓wr_not, ↓wr_cv, ↓wr_extr0, ↓wr_extr1, ↓wr_extr2, ↓wr_lenT, ↓wr_getH, gx0, gx1, gx2, gx3, ife_e, ife_n, ife_r, ife_re, ife_ne', ife_nr, ife_en, ife_rn, ife_er, decide_true, decide_false, Bool.not_true, Bool.not_false, bnd_as, d0, d1, d2]
          refine W.bnd (c_below ds.fk.wf ds.src fun d Hn fn h hd => ?_)
          have ds := ds.sf fn h
          have hj := hj.bk fn (by decide) (by decide)
          have b17' := b17
          have b17 := b17.bk fn (by decide)
          obtain ⟨h1, h2, h3, h4⟩ := hj
          have hl0 : 0 < t.dists.length := by have := hok.len; have := hok.ne; omega
          have hix : ixa 1 c (.int .i64 0) = ret (elemP c 0) := h3.ixa hl0
          have f02 : fieldP (fieldP x17 0) 2 = fieldP x17 2 := by obtain ⟨id, rfl, _⟩ := b17; rfl
          simp only [↓wr_fadd b17, ↓wr_fadd0 b17, ↓wr_f2 b17]
          refine W.agn1 (b17'.ld1 rfl) ?_
          simp only [↓wr_p hix]
          refine W.st (R := RI) (a := d) ds.fk.wf h3 (by simp) hl0 rfl (fun _ _ _ _ h => h) rfl fun Ho fo h3 => ?_
          simp only [↓wr_ret, ↓wr_gd_tt, ↓wr_gd_ff, ↓wr_gd_tf, ↓wr_gd_ft, ↓wr_gd_s, ↓wr_pick_t, ↓wr_pick_f, ↓wr_br_t, ↓wr_br_f, ↓wr_bbr_t, ↓wr_bbr_f, ↓wr_lss, ↓wr_leq, ↓wr_gtr, ↓wr_geq, ↓wr_eql, ↓wr_neq, ↓wr_not, ↓wr_cv, ↓wr_extr0, ↓wr_extr1, ↓wr_extr2, ↓wr_lenT, ↓wr_getH, gx0, gx1, gx2, gx3, ife_e, ife_n, ife_r, ife_re, ife_ne', ife_nr, ife_en, ife_rn, ife_er, decide_true, decide_false, Bool.not_true, Bool.not_false, ↓wr_rx]
          exact W.ret ⟨a, b, c, tt, dd, ⟨t.tracked, t.patterns, t.dists.set 0 d⟩, j, rfl, ds.hi fo fun id h => h.1, b17.bk fo (by decide), h1.apI fo fun id h h' => h4 (h.2.symm.trans h'.2), h2.elL fo fun id h h' => h.2.2 h'.2, h3, h4⟩
        by_cases d4 : d = 4
        · subst d4
          simp only [↓wr_ret, ↓wr_gd_tt, ↓wr_gd_ff, ↓wr_gd_tf, ↓wr_gd_ft, ↓wr_gd_s, ↓wr_pick_t, ↓wr_pick_f, ↓wr_br_t, ↓wr_br_f, ↓wr_bbr_t, ↓wr_bbr_f, ↓wr_lss, ↓wr_leq, ↓wr_gtr, ↓wr_geq, ↓wr_eql, ↓wr_neq, ↓wr_not, ↓wr_cv, ↓wr_extr0, ↓wr_extr1, ↓wr_extr2, ↓wr_lenT, ↓wr_getH, gx0, gx1, gx2, gx3, ife_e, ife_n, ife_r, ife_re, ife_ne', ife_nr, ife_en, ife_rn, ife_er, decide_true, decide_false, Bool.not_true, Bool.not_false, bnd_as, d0, d1, d2, d3]
          have hN4 : N4 ≤ Hm.next := by
            obtain ⟨id, _, g1, g2, _⟩ := b17
            have : N4 ≤ id := g1
            omega
          refine W.reserve ds.fk.wf fun Hn ln fre => ?_
          have fr5 := fre 5 (by decide)
          have ds := ds.le ln
          have hj := hj.le ln
          have b17 := b17.le ln
          have b17' := b17
          obtain ⟨A, htv⟩ := ds.trk
          simp only [↓wr_getH]
          refine W.bnd (c_copyInts ds.fk.wf htv fun z Ho lo hz => ?_)
          have hlt : tt < Hn.next ∧ dd < Hn.next := by
            constructor
            · obtain ⟨id, g1, g2⟩ := hj.1.place (fun h => by have := hok.tr; rw [h] at this; simp at this)
              have := g1.2; omega
            · obtain ⟨id, g1, g2⟩ := hj.2.2.1.place (fun h => by have := hok.len; have := hok.ne; rw [h] at *; simp at *; omega)
              have := g1.2; omega
          have fr5 := fr5.le lo
          have ds := ds.le lo
          have hj := hj.le lo
          have b17 := b17.le lo
          obtain ⟨h1, h2, h3, h4⟩ := hj
          have hz : Ints .ro (Ne2 N4 tt dd) Ho z A := hz.ro.mono fun id hid h => by
            have h : Hn.next ≤ id := h
            exact ⟨by have := ln.nx; omega, by omega, by omega⟩
          simp only [↓wr_fadd b17, ↓wr_fadd0 b17, ↓wr_f1 b17]
          refine W.agn1 (b17'.ld1 rfl) ?_
          simp only [↓wr_c1 hz.isCell]
          refine W.lit1Sf (R := RL (Ne2 N4 tt dd)) (a := A) (e := t_Sint64) ds.fk.wf fr5 hz.isCell (fun H' f => Seq.nkI hz f) fun y Hp' fp hy => ?_
          have ds := ds.nk fp (by omega)
          have h1 := h1.nkI fp
          have h2 := h2.nkL fp
          have h3 := h3.nkI fp
          have b17 := b17.nk fp
          refine W.app (P := (N4 ≤ ·)) ds.fk.wf h2 hy (by decide) (by have := hok.few; simp; omega) (fun id hid => by have := ln.nx; have := lo.nx; have := fp.nx; omega) (fun H' f v x hx => Seq.bkI hx f (by decide)) fun b' Hq fq h2 => ?_
          have ds := ds.hi fq fun id h => h
          have h1 := h1.bkI fq (by decide)
          have h3 := h3.bkI fq (by decide)
          have b17 := b17.bk fq (by decide)
          simp only [↓wr_fadd b17, ↓wr_fadd0 b17]
          refine W.fst ds.fk.wf b17 (by simp) h2.isCell fun Hr fr b17 => ?_
          simp only [↓wr_ret, ↓wr_gd_tt, ↓wr_gd_ff, ↓wr_gd_tf, ↓wr_gd_ft, ↓wr_gd_s, ↓wr_pick_t, ↓wr_pick_f, ↓wr_br_t, ↓wr_br_f, ↓wr_bbr_t, ↓wr_bbr_f, ↓wr_lss, ↓wr_leq, ↓wr_gtr, ↓wr_geq, ↓wr_eql, ↓wr_neq, ↓wr_not, ↓wr_cv, ↓wr_extr0, ↓wr_extr1, ↓wr_extr2, ↓wr_lenT, ↓wr_getH, gx0, gx1, gx2, gx3, ife_e, ife_n, ife_r, ife_re, ife_ne', ife_nr, ife_en, ife_rn, ife_er, decide_true, decide_false, Bool.not_true, Bool.not_false, ↓wr_rx]
          exact W.ret ⟨a, b', c, tt, dd, ⟨t.tracked, t.patterns ++ [A], t.dists⟩, j, rfl, ds.hi fr fun id h => h, b17, h1.bkI fr (by decide), h2.bkL fr (by decide) (by decide), h3.bkI fr (by decide), h4⟩
        by_cases d5 : d = 5
        · subst d5
          simp only [↓wr_ret, ↓wr_gd_tt, ↓wr_gd_ff, ↓wr_gd_tf, ↓wr_gd_ft, ↓wr_gd_s, ↓wr_pick_t, ↓wr_pick_f, ↓wr_br_t, ↓wr_br_f, ↓wr_bbr_t, ↓wr_bbr_f, ↓wr_lss, ↓wr_leq, ↓wr_gtr, ↓wr_geq, ↓wr_eql, ↓wr_neq, ↓wr_not, ↓wr_cv, ↓wr_extr0, ↓wr_extr1, ↓wr_extr2, ↓wr_lenT, ↓wr_getH, gx0, gx1, gx2, gx3, ife_e, ife_n, ife_r, ife_re, ife_ne', ife_nr, ife_en, ife_rn, ife_er, decide_true, decide_false, Bool.not_true, Bool.not_false, bnd_as, d0, d1, d2, d3, d4]
          refine W.bnd (c_between ds.fk.wf ds.src (by decide) fun d Hn fn h hd => ?_)
          have ds := ds.sf fn h
          have hj := hj.bk fn (by decide) (by decide)
          have b17' := b17
          have b17 := b17.bk fn (by decide)
          obtain ⟨h1, h2, h3, h4⟩ := hj
          have hl0 : 0 < t.tracked.length := by have := hok.tr; omega
          have hix : ixa 1 a (.int .i64 0) = ret (elemP a 0) := h1.ixa hl0
          simp only [↓wr_fadd b17, ↓wr_fadd0 b17, ↓wr_f0 b17]
          refine W.agn1 (b17'.ld1 rfl) ?_
          simp only [↓wr_p hix]
          refine W.st (R := RI) (a := d) ds.fk.wf h1 (by simp) hl0 rfl (fun _ _ _ _ h => h) rfl fun Ho fo h1 => ?_
          simp only [↓wr_ret, ↓wr_gd_tt, ↓wr_gd_ff, ↓wr_gd_tf, ↓wr_gd_ft, ↓wr_gd_s, ↓wr_pick_t, ↓wr_pick_f, ↓wr_br_t, ↓wr_br_f, ↓wr_bbr_t, ↓wr_bbr_f, ↓wr_lss, ↓wr_leq, ↓wr_gtr, ↓wr_geq, ↓wr_eql, ↓wr_neq, ↓wr_not, ↓wr_cv, ↓wr_extr0, ↓wr_extr1, ↓wr_extr2, ↓wr_lenT, ↓wr_getH, gx0, gx1, gx2, gx3, ife_e, ife_n, ife_r, ife_re, ife_ne', ife_nr, ife_en, ife_rn, ife_er, decide_true, decide_false, Bool.not_true, Bool.not_false, ↓wr_rx]
          exact W.ret ⟨a, b, c, tt, dd, ⟨t.tracked.set 0 d, t.patterns, t.dists⟩, j, rfl, ds.hi fo fun id h => h.1, b17.bk fo (by decide), h1, h2.elL fo fun id h h' => h.2.1 h'.2, h3.apI fo fun id h h' => h4 (h'.2.symm.trans h.2), h4⟩
        · simp only [↓wr_ret, ↓wr_gd_tt, ↓wr_gd_ff, ↓wr_gd_tf, ↓wr_gd_ft, ↓wr_gd_s, ↓wr_pick_t, ↓wr_pick_f, ↓wr_br_t, ↓wr_br_f, ↓wr_bbr_t, ↓wr_bbr_f, ↓wr_lss, ↓wr_leq, ↓wr_gtr, ↓wr_geq, ↓wr_eql, ↓wr_neq, ↓wr_not, ↓wr_cv, ↓wr_extr0, ↓wr_extr1, ↓wr_extr2, ↓wr_lenT, ↓wr_getH, gx0, gx1, gx2, gx3, ife_e, ife_n, ife_r, ife_re, ife_ne', ife_nr, ife_en, ife_rn, ife_er, decide_true, decide_false, Bool.not_true, Bool.not_false, bnd_as, d0, d1, d2, d3, d4, d5, ↓wr_rx]
          exact W.ret ⟨a, b, c, tt, dd, t, j, rfl, ds, b17, hj⟩
    · rintro rr Hm ⟨a, b, c, tt, dd, t, j, rfl, ds, b17, hj⟩
      simp only [↓wr_ret, ↓wr_gd_tt, ↓wr_gd_ff, ↓wr_gd_tf, ↓wr_gd_ft, ↓wr_gd_s, ↓wr_pick_t, ↓wr_pick_f, ↓wr_br_t, ↓wr_br_f, ↓wr_bbr_t, ↓wr_bbr_f, ↓wr_lss, ↓wr_leq, ↓wr_gtr, ↓wr_geq, ↓wr_eql, ↓wr_neq, ↓wr_not, ↓wr_cv, ↓wr_extr0, ↓wr_extr1, ↓wr_extr2, ↓wr_lenT, ↓wr_getH, gx0, gx1, gx2, gx3, ife_e, ife_n, ife_r, ife_re, ife_ne', ife_nr, ife_en, ife_rn, ife_er, decide_true, decide_false, Bool.not_true, Bool.not_false]
      exact d28_fin ds b17 hj k
end
end Go.Am

end

section
set_option linter.unusedSimpArgs false
set_option linter.unusedVariables false
/- Contracts of the draws: a table, correct or changed. -/
namespace Go.Am
section
variable {β X : Type} {f : AVal → AM β} {Q : AVal → AHeap → Prop} {R : AHeap → AVal → X → Prop} {m m2 : Md} {P P2 P3 P4 P5 P' S T : Nat → Prop} {e e2 : TypeId} {H H0 H1 H2 H' Hk Hl : AHeap} {v u x y x1 x2 x6 x15 tv : AVal} {A B C s D r : List Int} {L LL : List (List Int)} {p : Puz} {cs : List AVal} {t : Tbl} {id : Nat} {n : Int} {n0 tt dd N1 N2 N3 N4 : Nat} {a b c : AVal}
/-- What stands still while a table is drawn. -/
structure DT (H : AHeap) (N1 N2 N3 N4 : Nat) (P : Nat → Prop) (x x1 x2 x6 : AVal) (p : Puz) (Hk : AHeap) : Prop where
  fk : Sf H Hk
  src : Src P Hk x
  b1 : Bx (Iv H.next N1) t_impl_Puzzle Hk x1 [.int .i64 0, .str [], .nilS]
  b2 : Bx (Iv N1 N2) t_impl_Table Hk x2 [.nilS, .nilS, .nilS]
  b4 : ∃ mv, Bx (Iv N3 N4) t_impl_Puzzle Hk x6 [i64 p.points, .str p.names, mv] ∧ PuzA (· < N4) (· < N4) Hk (.agg [i64 p.points, .str p.names, mv]) p
  n1 : H.next ≤ N1
  n2 : N1 ≤ N2
  n3 : N2 ≤ N3
  n4 : N3 ≤ N4
theorem DT.le (h : DT H N1 N2 N3 N4 P x x1 x2 x6 p Hk) (hl : Le Hk Hl) : DT H N1 N2 N3 N4 P x x1 x2 x6 p Hl := by
  obtain ⟨fk, src, b1, b2, ⟨mv, b4, hp⟩, n1, n2, n3, n4⟩ := h
  exact ⟨fk.le hl, src.le hl, b1.le hl, b2.le hl, ⟨mv, b4.le hl, hp.le hl⟩, n1, n2, n3, n4⟩
theorem DT.sf (h : DT H N1 N2 N3 N4 P x x1 x2 x6 p Hk) (hl : Sf Hk Hl) (hs : Src P Hl x) : DT H N1 N2 N3 N4 P x x1 x2 x6 p Hl := by
  obtain ⟨fk, src, b1, b2, ⟨mv, b4, hp⟩, n1, n2, n3, n4⟩ := h
  exact ⟨fk.tr hl, hs, b1.bk hl (by decide), b2.bk hl (by decide), ⟨mv, b4.bk hl (by decide), hp.fr fun mv h => Seq.bkL h hl (by decide) (by decide)⟩, n1, n2, n3, n4⟩
theorem DT.hi (h : DT H N1 N2 N3 N4 P x x1 x2 x6 p Hk) (hf : Fr (Bk P' e Hk) Hk Hl) (hP : ∀ id, P' id → N4 ≤ id) (e1 : e ≠ t_spec_source := by decide) (e2 : e ≠ t_uint8 := by decide) : DT H N1 N2 N3 N4 P x x1 x2 x6 p Hl := by
  obtain ⟨fk, src, b1, b2, ⟨mv, b4, hp⟩, n1, n2, n3, n4⟩ := h
  have hf' : Fr (Bk (N4 ≤ ·) e Hk) Hk Hl := hf.mono fun id _ h => ⟨hP id h.1, h.2⟩
  refine ⟨fk.own hf' fun id h => by have : N4 ≤ id := h.1; omega, src.bk hf e1 e2, b1.ap hf' (iv_nw (by omega)), b2.ap hf' (iv_nw (by omega)), ⟨mv, b4.ap hf' (iv_nw (Nat.le_refl _)), hp.fr fun mv h => ?_⟩, n1, n2, n3, n4⟩
  exact Seq.oldL h hf' (fun id h => h) fun id h => h
theorem DT.nk (h : DT H N1 N2 N3 N4 P x x1 x2 x6 p Hk) (hf : Fr (Nk id Hk) Hk Hl) (hid : N4 ≤ id) : DT H N1 N2 N3 N4 P x x1 x2 x6 p Hl := by
  obtain ⟨fk, src, b1, b2, ⟨mv, b4, hp⟩, n1, n2, n3, n4⟩ := h
  exact ⟨fk.own hf fun i h => by have := h.1; omega, src.nk hf, b1.nk hf, b2.nk hf, ⟨mv, b4.nk hf, hp.fr fun mv h => Seq.nkL h hf⟩, n1, n2, n3, n4⟩
/-- A table to be read. -/
def TR (H : AHeap) (a b c : AVal) (t : Tbl) : Prop := Ints .ro Any H a t.tracked ∧ Lists .ro Any Any H b t.patterns ∧ Ints .ro Any H c t.dists
theorem JobC.tr (h : JobC n0 tt dd H a b c t) : TR H a b c t := ⟨h.1.any, Seq.anyL h.2.1, h.2.2.1.any⟩
theorem TR.bk (h : TR H a b c t) (hf : Fr (Bk P' e H) H H') (e1 : e ≠ t_int64) (e2 : e ≠ t_Sint64) : TR H' a b c t := ⟨h.1.bkI hf e1, h.2.1.bkL hf e2 e1, h.2.2.bkI hf e1⟩
theorem TR.tbl (h : TR H a b c t) : TblA Any Any H (.agg [a, b, c]) t := ⟨a, b, c, rfl, h.1, h.2.1, h.2.2⟩
theorem d30_fin (h : DT H N1 N2 N3 N4 P x x1 x2 x6 p Hk) (b15 : Bx (N4 ≤ ·) t_impl_Table Hk x15 [a, b, c]) (hj : TR Hk a b c t)
    (k : ∀ v w p t H', Sf H H' → Src P H' x → PuzA Any Any H' v p → TblA Any Any H' w t → Q (.tuple [v, w]) H') :
    W (bnd (ldn 3 x6) fun x155 =>
 bnd getH fun h156 =>
 bnd (stn 3 x1 x155) fun _ =>
 bnd (ldn 3 x15) fun x157 =>
 bnd (agn (ldn 3 x15) x157 [h156]) fun _ =>
 bnd (stn 3 x2 x157) fun _ =>
 bnd (ldn 3 x1) fun v158 => bnd (ldn 3 x2) fun v159 => ret (.tuple [v158, v159])) Hk Q := by
  obtain ⟨fk, src, b1, b2, ⟨mv, b4, hp⟩, n1, n2, n3, n4⟩ := h
  have b15k := b15
  obtain ⟨mv', he, hm, h64, hnl⟩ := hp
  simp only [AVal.agg.injEq, List.cons.injEq, and_true, true_and] at he
  subst he
  simp only [↓wr_ld3 b4, ↓wr_getH]
  refine W.fsw fk.wf b1 rfl rfl (cells_p hm.isCell) fun Hm fm b1 => ?_
  have b2 := b2.bk fm (by decide)
  have b15 := b15.bk fm (by decide)
  have hj := hj.bk fm (by decide) (by decide)
  have hm := hm.bkL fm (by decide) (by decide)
  have src := src.bk fm (by decide) (by decide)
  have fk : Sf H Hm := fk.own fm fun id h => h.1.1
  simp only [↓wr_ld3 b15]
  refine W.agn1 (b15k.ldw rfl) ?_
  refine W.fsw fk.wf b2 rfl rfl (cells_t hj.1.isCell hj.2.1.isCell hj.2.2.isCell) fun Hn fn b2 => ?_
  have b1 := b1.bk fn (by decide)
  simp only [↓wr_ld3 b1, ↓wr_ld3 b2]
  exact W.ret (k _ _ p t _ (fk.own fn fun id h => by have := h.1.1; omega) (src.bk fn (by decide) (by decide)) ⟨mv, rfl, Seq.anyL (hm.bkL fn (by decide) (by decide)), h64, hnl⟩ (hj.bk fn (by decide) (by decide)).tbl)
/-- The table in a variable, and what it is made of. -/
def TS (N4 : Nat) (Hk : AHeap) (x15 : AVal) : Prop := ∃ (a b c : AVal) (tt dd : Nat) (t : Tbl), Bx (N4 ≤ ·) t_impl_Table Hk x15 [a, b, c] ∧ JobC N4 tt dd Hk a b c t ∧ t.dists.length = t.patterns.length ∧ 1 ≤ t.patterns.length ∧ t.patterns.length ≤ 3000 ∧ 1 ≤ t.tracked.length
theorem JobC.stL {i : Nat} {z : AVal} {K : List Int} (hp : Hp H) (h : JobC n0 tt dd H a b c t) (hi : i < t.patterns.length) (hz : Ints .ro (Ne2 n0 tt dd) H z K) {Q : β → AHeap → Prop}
    (k : ∀ H', Fr (Bk (n0 ≤ ·) t_Sint64 H) H H' → JobC n0 tt dd H' a b c ⟨t.tracked, t.patterns.set i K, t.dists⟩ → W (f .undef) H' Q) : W (bnd (st1 (elemP b i) z) f) H Q := by
  obtain ⟨h1, h2, h3, h4⟩ := h
  exact W.st (R := RL (Ne2 n0 tt dd)) (a := K) hp h2 (by simp) hi hz.isCell (fun H' f v x hx => Seq.bkI hx f (by decide)) hz fun H' f h2 => k H' f ⟨h1.bkI f (by decide), h2, h3.bkI f (by decide), h4⟩
theorem JobC.stD {i : Nat} {d : Int} (hp : Hp H) (h : JobC n0 tt dd H a b c t) (hi : i < t.dists.length) {Q : β → AHeap → Prop}
    (k : ∀ H', Fr (Bk (Eq1 n0 dd) t_int64 H) H H' → JobC n0 tt dd H' a b c ⟨t.tracked, t.patterns, t.dists.set i d⟩ → W (f .undef) H' Q) : W (bnd (st1 (elemP c i) (i64 d)) f) H Q := by
  obtain ⟨h1, h2, h3, h4⟩ := h
  exact W.st (R := RI) (a := d) hp h3 (by simp) hi rfl (fun _ _ _ _ h => h) rfl fun H' f h3 => k H' f ⟨h1.apI f fun id h h' => h4 (h.2.symm.trans h'.2), h2.elL f fun id h h' => h.2.2 h'.2, h3, h4⟩
theorem ts_lt (b15 : Bx (N4 ≤ ·) t_impl_Table Hk x15 [a, b, c]) (hj : JobC N4 tt dd Hk a b c t) (h1 : 1 ≤ t.tracked.length) (h2 : 1 ≤ t.dists.length) : N4 ≤ Hk.next ∧ tt < Hk.next ∧ dd < Hk.next := by
  refine ⟨?_, ?_, ?_⟩
  · obtain ⟨id, _, g1, g2, _⟩ := b15
    have : N4 ≤ id := g1
    omega
  · obtain ⟨id, g1, g2⟩ := hj.1.place (fun h => by rw [h] at h1; simp at h1)
    have := g1.2; omega
  · obtain ⟨id, g1, g2⟩ := hj.2.2.1.place (fun h => by rw [h] at h2; simp at h2)
    have := g1.2; omega
theorem d30_rest (dt : DT H N1 N2 N3 N4 P x x1 x2 x6 p Hk) (ts : TS N4 Hk x15)
    (k : ∀ v w p t H', Sf H H' → Src P H' x → PuzA Any Any H' v p → TblA Any Any H' w t → Q (.tuple [v, w]) H') : W (bnd (fadd 1 x15) fun x68 =>
 bnd (ld1 x68) fun x69 =>
 bnd (lenA x69) fun x70 =>
 bnd (s_sp_below x x70) fun x71 =>
 bnd (s_sp_below x (.int .i64 8)) fun x72 =>
 bnd (abin .eql x72 (.int .i64 0)) fun x73 =>
 bnd (br x73 (bnd getH fun h74 =>
 bnd (s_sp_between x (.int .i64 (-1)) (.int .i64 2)) fun x75 =>
 bnd (fadd 2 x15) fun x76 =>
 bnd (ld1 x76) fun x77 =>
 bnd (agn (ld1 x76) x77 [h74]) fun _ =>
 bnd (fadd 2 x15) fun x78 =>
 bnd (ld1 x78) fun x79 =>
 bnd (agn (ld1 x78) x79 [h74]) fun _ =>
 bnd (ixa 1 x79 x71) fun x80 =>
 bnd (ld1 x80) fun x81 =>
 bnd (agn (ld1 x80) x81 [h74]) fun _ =>
 bnd (abin .add x81 x75) fun x82 =>
 bnd (ixa 1 x77 x71) fun x83 =>
 bnd (st1 x83 x82) fun _ =>
 rx .normal []) (bnd (abin .eql x72 (.int .i64 1)) fun x84 =>
 bnd (br x84 (bnd (fadd 1 x15) fun x85 =>
 bnd (ld1 x85) fun x86 =>
 bnd (abin .add x71 (.int .i64 1)) fun x87 =>
 bnd (slS 1 x86 none (some x87)) fun x88 =>
 bnd (fadd 1 x15) fun x89 =>
 bnd (st1 x89 x88) fun _ =>
 bnd (fadd 2 x15) fun x90 =>
 bnd (ld1 x90) fun x91 =>
 bnd (abin .add x71 (.int .i64 1)) fun x92 =>
 bnd (slS 1 x91 none (some x92)) fun x93 =>
 bnd (fadd 2 x15) fun x94 =>
 bnd (st1 x94 x93) fun _ =>
 rx .normal []) (bnd (abin .eql x72 (.int .i64 2)) fun x95 =>
 bnd (br x95 (bnd (reserve 12) fun b96 =>
 bnd (fadd 1 x15) fun x97 =>
 bnd (ld1 x97) fun x98 =>
 bnd (ixa 1 x98 x71) fun x99 =>
 bnd (ld1 x99) fun x100 =>
 bnd getH fun h101 =>
 bnd (s_sp_copyInts x100) fun x102 =>
 bnd (fadd 1 x15) fun x103 =>
 bnd (ld1 x103) fun x104 =>
 bnd (agn (ld1 x103) x104 [h101]) fun _ =>
 bnd (bnd (bnd (cell1 x102) fun y106 => ret [y106]) fun cs => allocS (some (b96 + 8)) t_Sint64 1 1 cs) fun x105 =>
 bnd (appS t_Sint64 1 24 x104 x105) fun x107 =>
 bnd (fadd 1 x15) fun x108 =>
 bnd (st1 x108 x107) fun _ =>
 bnd (reserve 14) fun b109 =>
 bnd getH fun h110 =>
 bnd (s_sp_below x (.int .i64 2)) fun x111 =>
 bnd (fadd 2 x15) fun x112 =>
 bnd (ld1 x112) fun x113 =>
 bnd (agn (ld1 x112) x113 [h110]) fun _ =>
 bnd (fadd 2 x15) fun x114 =>
 bnd (ld1 x114) fun x115 =>
 bnd (agn (ld1 x114) x115 [h110]) fun _ =>
 bnd (ixa 1 x115 x71) fun x116 =>
 bnd (ld1 x116) fun x117 =>
 bnd (agn (ld1 x116) x117 [h110]) fun _ =>
 bnd (abin .add x117 x111) fun x118 =>
 bnd (bnd (bnd (cell1 x118) fun y120 => ret [y120]) fun cs => allocS (some (b109 + 10)) t_int64 1 1 cs) fun x119 =>
 bnd (appS t_int64 1 8 x113 x119) fun x121 =>
 bnd (fadd 2 x15) fun x122 =>
 bnd (st1 x122 x121) fun _ =>
 rx .normal []) (bnd (abin .eql x72 (.int .i64 3)) fun x123 =>
 bnd (br x123 (bnd (loopL (fun s124 =>
 bnd (fadd 2 x15) fun x125 =>
 bnd (ld1 x125) fun x126 =>
 bnd (lenA x126) fun x127 =>
 bnd (abin .lss (gx s124 0) x127) fun x128 =>
 br x128
 (bnd (fadd 2 x15) fun x129 =>
 bnd (ld1 x129) fun x130 =>
 bnd (fadd 2 x15) fun x131 =>
 bnd (ld1 x131) fun x132 =>
 bnd (ixa 1 x132 (gx s124 0)) fun x133 =>
 bnd (ld1 x133) fun x134 =>
 bnd (abin .quo x134 (.int .i64 2)) fun x135 =>
 bnd (ixa 1 x130 (gx s124 0)) fun x136 =>
 bnd (st1 x136 x135) fun _ =>
 bnd (abin .add (gx s124 0) (.int .i64 1)) fun x137 =>
 rx .normal [x137])
 (rx (.exit 1) [])) [.int .i64 0]) fun r138 =>
 ife r138.1 (.exit 1) (rx .normal []) (fail)) (bnd (abin .eql x72 (.int .i64 4)) fun x139 =>
 bnd (br x139 (bnd (s_sp_oneIn x (.int .i64 3)) fun x140 =>
 bnd (br x140 (bnd (reserve 8) fun b141 =>
 bnd getH fun h142 =>
 bnd (s_sp_between x (.int .i64 (-1)) (.int .i64 6)) fun x143 =>
 bnd (fadd 1 x15) fun x144 =>
 bnd (ld1 x144) fun x145 =>
 bnd (agn (ld1 x144) x145 [h142]) fun _ =>
 bnd (bnd (bnd (cell1 x143) fun y147 => ret [y147]) fun cs => allocS (some (b141 + 5)) t_int64 1 1 cs) fun x146 =>
 bnd (ixa 1 x145 x71) fun x148 =>
 bnd (st1 x148 x146) fun _ =>
 rx .normal []) (rx .normal [])) fun r149 =>
 ife r149.1 .normal (rx .normal []) (fail)) (rx .normal [])) fun r150 =>
 ife r150.1 .normal (rx .normal []) (fail))) fun r151 =>
 ife r151.1 .normal (rx .normal []) (fail))) fun r152 =>
 ife r152.1 .normal (rx .normal []) (fail))) fun r153 =>
 ife r153.1 .normal (rx .normal []) (fail))) fun r154 =>
 ife r154.1 .normal (bnd (ldn 3 x6) fun x155 =>
 bnd getH fun h156 =>
 bnd (stn 3 x1 x155) fun _ =>
 bnd (ldn 3 x15) fun x157 =>
 bnd (agn (ldn 3 x15) x157 [h156]) fun _ =>
 bnd (stn 3 x2 x157) fun _ =>
 bnd (ldn 3 x1) fun v158 => bnd (ldn 3 x2) fun v159 => ret (.tuple [v158, v159])) (fail)) Hk Q := by
  obtain ⟨a, b, c, tt, dd, t, b15, hj, hDL, hL1, hL3, hT1⟩ := ts
  have hbq := hj.2.1
  simp only [↓wr_fadd b15, ↓wr_f1 b15, ↓wr_len hbq]
  refine W.bnd (c_below dt.fk.wf dt.src fun i Hl fl h hi => ?_)
  have dt := dt.sf fl h
  have hj := hj.bk fl (by decide) (by decide)
  have b15 := b15.bk fl (by decide)
  obtain ⟨i, rfl⟩ : ∃ q : Nat, i = (q : Int) := ⟨i.toNat, by have := hi.1; omega⟩
  have hi2 : i < t.patterns.length := by have := hi.2.1 (by omega); omega
  have hiD : i < t.dists.length := by omega
  refine W.bnd (c_below dt.fk.wf dt.src fun d Hm fm h hd => ?_)
  have dt := dt.sf fm h
  have hj := hj.bk fm (by decide) (by decide)
  have b15 := b15.bk fm (by decide)
  simp only [↓wr_eql]
  refine W.c (R := fun rr Hk => ∃ (a b c : AVal) (t : Tbl), rr = (.normal, []) ∧ DT H N1 N2 N3 N4 P x x1 x2 x6 p Hk ∧ Bx (N4 ≤ ·) t_impl_Table Hk x15 [a, b, c] ∧ TR Hk a b c t) ?_ ?_
  · by_cases d0 : d = 0
    · subst d0
      simp only [↓wr_ret, ↓wr_gd_tt, ↓wr_gd_ff, ↓wr_gd_tf, ↓wr_gd_ft, ↓wr_gd_s, ↓wr_pick_t, ↓wr_pick_f, ↓wr_br_t, ↓wr_br_f, ↓wr_bbr_t, ↓wr_bbr_f, ↓wr_lss, ↓wr_leq, ↓wr_gtr, ↓wr_geq, ↓wr_eql, ↓wr_neq, ↓wr_not, ↓wr_cv, ↓wr_extr0, ↓wr_extr1, ↓wr_extr2, ↓wr_lenT, ↓wr_getH, gx0, gx1, gx2, gx3, ife_e, ife_n, ife_r, ife_re, ife_ne', ife_nr, ife_en, ife_rn, ife_er, decide_true, decide_false, Bool.not_true, Bool.not_false, bnd_as]
      refine W.bnd (c_between dt.fk.wf dt.src (by decide) fun w Hn fn h hw => ?_)
      have dt := dt.sf fn h
      have hjm := hj
      have hj := hj.bk fn (by decide) (by decide)
      have b15' := b15
      have b15 := b15.bk fn (by decide)
      have hcq := hj.2.2.1
      have hcm := hjm.2.2.1
      simp only [↓wr_fadd b15, ↓wr_f2 b15]
      refine W.agn1 (b15'.ld1 rfl) ?_
      simp only [↓wr_fadd b15, ↓wr_f2 b15]
      refine W.agn1 (b15'.ld1 rfl) ?_
      simp only [↓wr_ix hcq hiD, ↓wr_ldI hcq hiD]
      refine W.agn1 (seqI_ld hcm hiD) ?_
      simp only [↓wr_addw, ↓wr_ix hcq hiD]
      refine JobC.stD dt.fk.wf hj hiD fun Ho fo hj => ?_
      exact W.ret ⟨a, b, c, _, rfl, dt.hi fo fun id h => h.1, b15.bk fo (by decide), hj.tr⟩
    by_cases d1 : d = 1
    · subst d1
      obtain ⟨w, hw, hws⟩ := hj.2.1.ro.sl (bnds_hi (k := .i64) (show i + 1 ≤ t.patterns.length from hi2)) (by simp) ⟨Nat.zero_le _, hi2⟩
      obtain ⟨w2, hw2, hws2⟩ := hj.2.2.1.ro.sl (bnds_hi (k := .i64) (show i + 1 ≤ t.dists.length from hiD)) (by simp) ⟨Nat.zero_le _, hiD⟩
      simp only [↓wr_ret, ↓wr_gd_tt, ↓wr_gd_ff, ↓wr_gd_tf, ↓wr_gd_ft, ↓wr_gd_s, ↓wr_pick_t, ↓wr_pick_f, ↓wr_br_t, ↓wr_br_f, ↓wr_bbr_t, ↓wr_bbr_f, ↓wr_lss, ↓wr_leq, ↓wr_gtr, ↓wr_geq, ↓wr_eql, ↓wr_neq, ↓wr_not, ↓wr_cv, ↓wr_extr0, ↓wr_extr1, ↓wr_extr2, ↓wr_lenT, ↓wr_getH, gx0, gx1, gx2, gx3, ife_e, ife_n, ife_r, ife_re, ife_ne', ife_nr, ife_en, ife_rn, ife_er, decide_true, decide_false, Bool.not_true, Bool.not_false, bnd_as, d0, ↓wr_fadd b15, ↓wr_f1 b15]
      rw [wr_inc (by omega)]
      simp only [↓wr_p hw, ↓wr_fadd b15]
      refine W.fst dt.fk.wf b15 (by simp) hws.isCell fun Hn fn b15 => ?_
      have b15 : Bx (N4 ≤ ·) t_impl_Table Hn x15 [a, w, c] := b15
      simp only [↓wr_fadd b15, ↓wr_f2 b15]
      rw [wr_inc (by omega)]
      simp only [↓wr_p hw2, ↓wr_fadd b15]
      refine W.fst fn.wf b15 (by simp) hws2.isCell fun Ho fo b15 => ?_
      have b15 : Bx (N4 ≤ ·) t_impl_Table Ho x15 [a, w, w2] := b15
      simp only [↓wr_ret, ↓wr_gd_tt, ↓wr_gd_ff, ↓wr_gd_tf, ↓wr_gd_ft, ↓wr_gd_s, ↓wr_pick_t, ↓wr_pick_f, ↓wr_br_t, ↓wr_br_f, ↓wr_bbr_t, ↓wr_bbr_f, ↓wr_lss, ↓wr_leq, ↓wr_gtr, ↓wr_geq, ↓wr_eql, ↓wr_neq, ↓wr_not, ↓wr_cv, ↓wr_extr0, ↓wr_extr1, ↓wr_extr2, ↓wr_lenT, ↓wr_getH, gx0, gx1, gx2, gx3, ife_e, ife_n, ife_r, ife_re, ife_ne', ife_nr, ife_en, ife_rn, ife_er, decide_true, decide_false, Bool.not_true, Bool.not_false, ↓wr_rx]
      have q : TR Hm a w w2 ⟨t.tracked, (t.patterns.take (i + 1)).drop 0, (t.dists.take (i + 1)).drop 0⟩ := ⟨hj.1.any, Seq.anyL hws, hws2.any⟩
      exact W.ret ⟨a, w, w2, _, rfl, (dt.hi fn fun id h => h).hi fo fun id h => h, b15, (q.bk fn (by decide) (by decide)).bk fo (by decide) (by decide)⟩
    by_cases d2 : d = 2
    · subst d2
      simp only [↓wr_ret, ↓wr_gd_tt, ↓wr_gd_ff, ↓wr_gd_tf, ↓wr_gd_ft, ↓wr_gd_s, ↓wr_pick_t, ↓wr_pick_f, ↓wr_br_t, ↓wr_br_f, ↓wr_bbr_t, ↓wr_bbr_f, ↓wr_lss, ↓wr_leq, ↓wr_gtr, ↓wr_geq, ↓wr_eql, ↓wr_neq, ↓wr_not, ↓wr_cv, ↓wr_extr0, ↓wr_extr1, ↓wr_extr2, ↓wr_lenT, ↓wr_getH, gx0, gx1, gx2, gx3, ife_e, ife_n, ife_r, ife_re, ife_ne', ife_nr, ife_en, ife_rn, ife_er, decide_true, decide_false, Bool.not_true, Bool.not_false, bnd_as, d0, d1]
      have hN := ts_lt b15 hj hT1 (by omega)
      refine W.reserve dt.fk.wf fun Hn ln fre => ?_
      have fr8 := fre 8 (by decide)
      have lnx := ln.nx
      have dt := dt.le ln
      have hj := hj.le ln
      have b15 := b15.le ln
      have b15' := b15
      have hbq := hj.2.1
      obtain ⟨z, hz, hL', _⟩ := hbq.ld1 hi2
      have hL' : Ints .ro (Ne2 N4 tt dd) Hn z t.patterns[i] := hL'
      simp only [↓wr_fadd b15, ↓wr_f1 b15, ↓wr_ix hbq hi2, ↓wr_e hz, ↓wr_getH]
      refine W.bnd (c_copyInts dt.fk.wf hL' fun y Ho lo hy => ?_)
      have fr8 := fr8.le lo
      have lox := lo.nx
      have dt := dt.le lo
      have hj := hj.le lo
      have b15 := b15.le lo
      have hy : Ints .ro (Ne2 N4 tt dd) Ho y t.patterns[i] := hy.ro.mono fun id hid h => by
        have : Hn.next ≤ id := h
        exact ⟨by omega, by omega, by omega⟩
      simp only [↓wr_fadd b15, ↓wr_f1 b15]
      refine W.agn1 (b15'.ld1 rfl) ?_
      simp only [↓wr_c1 hy.isCell]
      refine W.lit1Sf (R := RL (Ne2 N4 tt dd)) (a := t.patterns[i]) (e := t_Sint64) dt.fk.wf fr8 hy.isCell (fun H' f => Seq.nkI hy f) fun y1 Hp' fp hy1 => ?_
      have dt := dt.nk fp (by omega)
      have hj := hj.nk fp
      have b15 := b15.nk fp
      have fpx := fp.nx
      obtain ⟨j1, j2, j3, j4⟩ := hj
      refine W.app (P := (N4 ≤ ·)) dt.fk.wf j2 hy1 (by decide) (by simp; omega) (fun id hid => by omega) (fun H' f v x hx => Seq.bkI hx f (by decide)) fun b' Hq fq j2 => ?_
      have dt := dt.hi fq fun id h => h
      have j1 := j1.bkI fq (by decide)
      have j3 := j3.bkI fq (by decide)
      have b15 := b15.bk fq (by decide)
      have fqx := fq.nx
      simp only [↓wr_fadd b15]
      refine W.fst dt.fk.wf b15 (by simp) j2.isCell fun Hr fr b15 => ?_
      have b15 : Bx (N4 ≤ ·) t_impl_Table Hr x15 [a, b', c] := b15
      have dt := dt.hi fr fun id h => h
      have j1 := j1.bkI fr (by decide)
      have j2 := j2.bkL fr (by decide) (by decide)
      have j3 := j3.bkI fr (by decide)
      have frx := fr.nx
      refine W.reserve dt.fk.wf fun Hs ls fre => ?_
      have fr10 := fre 10 (by decide)
      have dt := dt.le ls
      have j1 := j1.leI ls
      have j2 := j2.leL ls
      have j3 := j3.leI ls
      have b15 := b15.le ls
      have lsx := ls.nx
      simp only [↓wr_getH]
      refine W.bnd (c_below dt.fk.wf dt.src fun w Ht ft h hw => ?_)
      have dt := dt.sf ft h
      have b15s := b15
      have j3s := j3
      have j1 := j1.bkI ft (by decide)
      have j2 := j2.bkL ft (by decide) (by decide)
      have j3 := j3.bkI ft (by decide)
      have b15 := b15.bk ft (by decide)
      have fr10 := fr10.bk ft
      have ftx := ft.nx
      simp only [↓wr_fadd b15, ↓wr_f2 b15]
      refine W.agn1 (b15s.ld1 rfl) ?_
      simp only [↓wr_fadd b15, ↓wr_f2 b15]
      refine W.agn1 (b15s.ld1 rfl) ?_
      simp only [↓wr_ix j3 hiD, ↓wr_ldI j3 hiD]
      refine W.agn1 (seqI_ld j3s hiD) ?_
      simp only [↓wr_addw, ↓wr_c1i]
      refine W.lit1Sf (R := RI) (a := IntKind.i64.wrap (t.dists[i] + w)) (e := t_int64) dt.fk.wf fr10 rfl (fun _ _ => rfl) fun y2 Hu fu hy2 => ?_
      have dt := dt.nk fu (by omega)
      have j1 := j1.nkI fu
      have j2 := j2.nkL fu
      have j3 := j3.nkI fu
      have b15 := b15.nk fu
      refine W.appn dt.fk.wf j3 hy2 (by simp) (by decide) (by simp; omega) (fun _ _ _ _ h => h) fun c' Hv fv j3 => ?_
      have dt := dt.hi fv fun id h => h.1
      have j1 := j1.apI fv fun id h h' => j4 (h.2.symm.trans h'.2)
      have j2 := j2.elL fv fun id h h' => h.2.2 h'.2
      have b15 := b15.bk fv (by decide)
      simp only [↓wr_fadd b15]
      refine W.fst dt.fk.wf b15 (by simp) j3.isCell fun Hw fw b15 => ?_
      have b15 : Bx (N4 ≤ ·) t_impl_Table Hw x15 [a, b', c'] := b15
      have q : TR Hv a b' c' ⟨t.tracked, t.patterns ++ [t.patterns[i]], t.dists ++ [IntKind.i64.wrap (t.dists[i] + w)]⟩ := ⟨j1.any, Seq.anyL j2, j3.any⟩
      simp only [↓wr_ret, ↓wr_gd_tt, ↓wr_gd_ff, ↓wr_gd_tf, ↓wr_gd_ft, ↓wr_gd_s, ↓wr_pick_t, ↓wr_pick_f, ↓wr_br_t, ↓wr_br_f, ↓wr_bbr_t, ↓wr_bbr_f, ↓wr_lss, ↓wr_leq, ↓wr_gtr, ↓wr_geq, ↓wr_eql, ↓wr_neq, ↓wr_not, ↓wr_cv, ↓wr_extr0, ↓wr_extr1, ↓wr_extr2, ↓wr_lenT, ↓wr_getH, gx0, gx1, gx2, gx3, ife_e, ife_n, ife_r, ife_re, ife_ne', ife_nr, ife_en, ife_rn, ife_er, decide_true, decide_false, Bool.not_true, Bool.not_false, ↓wr_rx]
      exact W.ret ⟨a, b', c', _, rfl, dt.hi fw fun id h => h, b15, q.bk fw (by decide) (by decide)⟩
    by_cases d3 : d = 3
    · subst d3
      simp only [↓wr_ret, ↓wr_gd_tt, ↓wr_gd_ff, ↓wr_gd_tf, ↓wr_gd_ft, ↓wr_gd_s, ↓wr_pick_t, ↓wr_pick_f, ↓wr_br_t, ↓wr_br_f, ↓wr_bbr_t, ↓wr_bbr_f, ↓wr_lss, ↓wr_leq, ↓wr_gtr, ↓wr_geq, ↓wr_eql, ↓wr_neq, ↓wr_not, ↓wr_cv, ↓wr_extr0, ↓wr_extr1, ↓wr_extr2, ↓wr_lenT, ↓wr_getH, gx0, gx1, gx2, gx3, ife_e, ife_n, ife_r, ife_re, ife_ne', ife_nr, ife_en, ife_rn, ife_er, decide_true, decide_false, Bool.not_true, Bool.not_false, bnd_as, d0, d1, d2]
      refine W.lq (fun q st Hk => ∃ (n : Nat) (t : Tbl), q = t.dists.length - n ∧ n ≤ t.dists.length ∧ st = [i64 (n : Int)] ∧ t.dists.length ≤ 3000 ∧ DT H N1 N2 N3 N4 P x x1 x2 x6 p Hk ∧ Bx (N4 ≤ ·) t_impl_Table Hk x15 [a, b, c] ∧ JobC N4 tt dd Hk a b c t)
        (fun rr Hk => ∃ (t : Tbl), rr = (.exit 1, []) ∧ DT H N1 N2 N3 N4 P x x1 x2 x6 p Hk ∧ Bx (N4 ≤ ·) t_impl_Table Hk x15 [a, b, c] ∧ JobC N4 tt dd Hk a b c t) (t.dists.length - 0)
        ⟨0, t, rfl, Nat.zero_le _, rfl, by omega, dt, b15, hj⟩ ?_ ?_
      · rintro q st Hk ⟨n, t, rfl, hn, rfl, hl3, dt, b15, hj⟩ Q' kn kx
        have hcq := hj.2.2.1
        by_cases hnl : n < t.dists.length
        · have hnl' : (n : Int) < t.dists.length := by omega
          simp only [↓wr_ret, ↓wr_gd_tt, ↓wr_gd_ff, ↓wr_gd_tf, ↓wr_gd_ft, ↓wr_gd_s, ↓wr_pick_t, ↓wr_pick_f, ↓wr_br_t, ↓wr_br_f, ↓wr_bbr_t, ↓wr_bbr_f, ↓wr_lss, ↓wr_leq, ↓wr_gtr, ↓wr_geq, ↓wr_eql, ↓wr_neq, ↓wr_not, ↓wr_cv, ↓wr_extr0, ↓wr_extr1, ↓wr_extr2, ↓wr_lenT, ↓wr_getH, gx0, gx1, gx2, gx3, ife_e, ife_n, ife_r, ife_re, ife_ne', ife_nr, ife_en, ife_rn, ife_er, decide_true, decide_false, Bool.not_true, Bool.not_false, ↓wr_fadd b15, ↓wr_f2 b15, ↓wr_len hcq, hnl', ↓wr_ix hcq hnl, ↓wr_ldI hcq hnl, ↓wr_quo (show (2 : Int) ≠ 0 by decide)]
          refine JobC.stD dt.fk.wf hj hnl fun Ho fo hj => ?_
          rw [wr_inc (by omega)]
          exact W.ret (kn (t.dists.length - (n + 1)) _ _ (by omega) ⟨n + 1, _, by simp, by simp; omega, rfl, by simp; omega, dt.hi fo fun id h => h.1, b15.bk fo (by decide), hj⟩)
        · have hnl' : ¬(n : Int) < t.dists.length := by omega
          simp only [↓wr_ret, ↓wr_gd_tt, ↓wr_gd_ff, ↓wr_gd_tf, ↓wr_gd_ft, ↓wr_gd_s, ↓wr_pick_t, ↓wr_pick_f, ↓wr_br_t, ↓wr_br_f, ↓wr_bbr_t, ↓wr_bbr_f, ↓wr_lss, ↓wr_leq, ↓wr_gtr, ↓wr_geq, ↓wr_eql, ↓wr_neq, ↓wr_not, ↓wr_cv, ↓wr_extr0, ↓wr_extr1, ↓wr_extr2, ↓wr_lenT, ↓wr_getH, gx0, gx1, gx2, gx3, ife_e, ife_n, ife_r, ife_re, ife_ne', ife_nr, ife_en, ife_rn, ife_er, decide_true, decide_false, Bool.not_true, Bool.not_false, ↓wr_fadd b15, ↓wr_f2 b15, ↓wr_len hcq, hnl']
          exact W.ret (kx _ _ _ (by simp) ⟨t, rfl, dt, b15, hj⟩)
      · rintro rr Hk ⟨t, rfl, dt, b15, hj⟩
        simp only [↓wr_ret, ↓wr_gd_tt, ↓wr_gd_ff, ↓wr_gd_tf, ↓wr_gd_ft, ↓wr_gd_s, ↓wr_pick_t, ↓wr_pick_f, ↓wr_br_t, ↓wr_br_f, ↓wr_bbr_t, ↓wr_bbr_f, ↓wr_lss, ↓wr_leq, ↓wr_gtr, ↓wr_geq, ↓wr_eql, ↓wr_neq, ↓wr_not, ↓wr_cv, ↓wr_extr0, ↓wr_extr1, ↓wr_extr2, ↓wr_lenT, ↓wr_getH, gx0, gx1, gx2, gx3, ife_e, ife_n, ife_r, ife_re, ife_ne', ife_nr, ife_en, ife_rn, ife_er, decide_true, decide_false, Bool.not_true, Bool.not_false, ↓wr_rx]
        exact W.ret ⟨a, b, c, _, rfl, dt, b15, hj.tr⟩
    by_cases d4 : d = 4
    · subst d4
      simp only [↓wr_ret, ↓wr_gd_tt, ↓wr_gd_ff, ↓wr_gd_tf, ↓wr_gd_ft, ↓wr_gd_s, ↓wr_pick_t, ↓wr_pick_f, ↓wr_br_t, ↓wr_br_f, ↓wr_bbr_t, ↓wr_bbr_f, ↓wr_lss, ↓wr_leq, ↓wr_gtr, ↓wr_geq, ↓wr_eql, ↓wr_neq, ↓wr_not, ↓wr_cv, ↓wr_extr0, ↓wr_extr1, ↓wr_extr2, ↓wr_lenT, ↓wr_getH, gx0, gx1, gx2, gx3, ife_e, ife_n, ife_r, ife_re, ife_ne', ife_nr, ife_en, ife_rn, ife_er, decide_true, decide_false, Bool.not_true, Bool.not_false, bnd_as, d0, d1, d2, d3]
      refine W.bnd (c_oneIn dt.fk.wf dt.src fun bl Hn fn h => ?_)
      have dt := dt.sf fn h
      have hj := hj.bk fn (by decide) (by decide)
      have b15 := b15.bk fn (by decide)
      cases bl with
      | false =>
        simp only [↓wr_ret, ↓wr_gd_tt, ↓wr_gd_ff, ↓wr_gd_tf, ↓wr_gd_ft, ↓wr_gd_s, ↓wr_pick_t, ↓wr_pick_f, ↓wr_br_t, ↓wr_br_f, ↓wr_bbr_t, ↓wr_bbr_f, ↓wr_lss, ↓wr_leq, ↓wr_gtr, ↓wr_geq, ↓wr_eql, ↓wr_neq, ↓wr_not, ↓wr_cv, ↓wr_extr0, ↓wr_extr1, ↓wr_extr2, ↓wr_lenT, ↓wr_getH, gx0, gx1, gx2, gx3, ife_e, ife_n, ife_r, ife_re, ife_ne', ife_nr, ife_en, ife_rn, ife_er, decide_true, decide_false, Bool.not_true, Bool.not_false, ↓wr_rx]
        exact W.ret ⟨a, b, c, _, rfl, dt, b15, hj.tr⟩
      | true =>
        simp only [↓wr_ret, ↓wr_gd_tt, ↓wr_gd_ff, ↓wr_gd_tf, ↓wr_gd_ft, ↓wr_gd_s, ↓wr_pick_t, ↓wr_pick_f, ↓wr_br_t, ↓wr_br_f, ↓wr_bbr_t, ↓wr_bbr_f, ↓wr_lss, ↓wr_leq, ↓wr_gtr, ↓wr_geq, ↓wr_eql, ↓wr_neq, ↓wr_not, ↓wr_cv, ↓wr_extr0, ↓wr_extr1, ↓wr_extr2, ↓wr_lenT, ↓wr_getH, gx0, gx1, gx2, gx3, ife_e, ife_n, ife_r, ife_re, ife_ne', ife_nr, ife_en, ife_rn, ife_er, decide_true, decide_false, Bool.not_true, Bool.not_false, bnd_as]
        have hN := ts_lt b15 hj hT1 (by omega)
        refine W.reserve dt.fk.wf fun Ho lo fre => ?_
        have fr5 := fre 5 (by decide)
        have dt := dt.le lo
        have hj := hj.le lo
        have b15 := b15.le lo
        simp only [↓wr_getH]
        refine W.bnd (c_between dt.fk.wf dt.src (by decide) fun w Hp' fp h hw => ?_)
        have dt := dt.sf fp h
        have hj := hj.bk fp (by decide) (by decide)
        have b15' := b15
        have b15 := b15.bk fp (by decide)
        have fr5 := fr5.bk fp
        simp only [↓wr_fadd b15, ↓wr_f1 b15]
        refine W.agn1 (b15'.ld1 rfl) ?_
        simp only [↓wr_c1i]
        refine W.lit1Sf (R := RI) (a := w) (e := t_int64) dt.fk.wf fr5 rfl (fun _ _ => rfl) fun z Hq fq hz => ?_
        have dt := dt.nk fq (by omega)
        have hj := hj.nk fq
        have b15 := b15.nk fq
        have hbq := hj.2.1
        have hz : Ints .ro (Ne2 N4 tt dd) Hq z [w] := hz.ro.mono fun id hid h => by
          have : id = Hn.next + 5 := h
          exact ⟨by omega, by omega, by omega⟩
        simp only [↓wr_ix hbq hi2]
        refine JobC.stL dt.fk.wf hj hi2 hz fun Hr fr hj => ?_
        have dt := dt.hi fr fun id h => h
        have b15 := b15.bk fr (by decide)
        simp only [↓wr_ret, ↓wr_gd_tt, ↓wr_gd_ff, ↓wr_gd_tf, ↓wr_gd_ft, ↓wr_gd_s, ↓wr_pick_t, ↓wr_pick_f, ↓wr_br_t, ↓wr_br_f, ↓wr_bbr_t, ↓wr_bbr_f, ↓wr_lss, ↓wr_leq, ↓wr_gtr, ↓wr_geq, ↓wr_eql, ↓wr_neq, ↓wr_not, ↓wr_cv, ↓wr_extr0, ↓wr_extr1, ↓wr_extr2, ↓wr_lenT, ↓wr_getH, gx0, gx1, gx2, gx3, ife_e, ife_n, ife_r, ife_re, ife_ne', ife_nr, ife_en, ife_rn, ife_er, decide_true, decide_false, Bool.not_true, Bool.not_false, ↓wr_rx]
        exact W.ret ⟨a, b, c, _, rfl, dt, b15, hj.tr⟩
    · simp only [↓wr_ret, ↓wr_gd_tt, ↓wr_gd_ff, ↓wr_gd_tf, ↓wr_gd_ft, ↓wr_gd_s, ↓wr_pick_t, ↓wr_pick_f, ↓wr_br_t, ↓wr_br_f, ↓wr_bbr_t, ↓wr_bbr_f, ↓wr_lss, ↓wr_leq, ↓wr_gtr, ↓wr_geq, ↓wr_eql, ↓wr_neq, ↓wr_not, ↓wr_cv, ↓wr_extr0, ↓wr_extr1, ↓wr_extr2, ↓wr_lenT, ↓wr_getH, gx0, gx1, gx2, gx3, ife_e, ife_n, ife_r, ife_re, ife_ne', ife_nr, ife_en, ife_rn, ife_er, decide_true, decide_false, Bool.not_true, Bool.not_false, bnd_as, d0, d1, d2, d3, d4, ↓wr_rx]
      exact W.ret ⟨a, b, c, t, rfl, dt, b15, hj.tr⟩
  · rintro rr Hn ⟨a, b, c, t, rfl, dt, b15, hj⟩
    simp only [↓wr_ret, ↓wr_gd_tt, ↓wr_gd_ff, ↓wr_gd_tf, ↓wr_gd_ft, ↓wr_gd_s, ↓wr_pick_t, ↓wr_pick_f, ↓wr_br_t, ↓wr_br_f, ↓wr_bbr_t, ↓wr_bbr_f, ↓wr_lss, ↓wr_leq, ↓wr_gtr, ↓wr_geq, ↓wr_eql, ↓wr_neq, ↓wr_not, ↓wr_cv, ↓wr_extr0, ↓wr_extr1, ↓wr_extr2, ↓wr_lenT, ↓wr_getH, gx0, gx1, gx2, gx3, ife_e, ife_n, ife_r, ife_re, ife_ne', ife_nr, ife_en, ife_rn, ife_er, decide_true, decide_false, Bool.not_true, Bool.not_false]
    exact d30_fin dt b15 hj k
theorem c_l30Draw (hp : Hp H) (h : Src P H x) (k : ∀ v w p t H', Sf H H' → Src P H' x → PuzA Any Any H' v p → TblA Any Any H' w t → Q (.tuple [v, w]) H') : W (s_sp_l30Draw x) H Q := by
  unfold s_sp_l30Draw
  refine W.alloc hp fun x1 H1 l1 b1 => ?_
  have b1 := Bx.iv b1
  refine W.alloc l1.wf fun x2 H2 l2 b2 => ?_
  have b2 := Bx.iv b2
  have b1 := b1.le l2
  have fk := Sf.of (l1.tr l2)
  have h := h.le (l1.tr l2)
  refine W.bnd (c_l28Draw fk.wf h fun pv jv p t0 j H3 f3 h hpz hjr => ?_)
  have b1 := b1.bk f3 (by decide)
  have b2 := b2.bk f3 (by decide)
  have n23 : H2.next ≤ H3.next := f3.nx
  have fk := fk.tr f3
  simp only [↓wr_ret, ↓wr_gd_tt, ↓wr_gd_ff, ↓wr_gd_tf, ↓wr_gd_ft, ↓wr_gd_s, ↓wr_pick_t, ↓wr_pick_f, ↓wr_br_t, ↓wr_br_f, ↓wr_bbr_t, ↓wr_bbr_f, ↓wr_lss, ↓wr_leq, ↓wr_gtr, ↓wr_geq, ↓wr_eql, ↓wr_neq, ↓wr_not, ↓wr_cv, ↓wr_extr0, ↓wr_extr1, ↓wr_extr2, ↓wr_lenT, ↓wr_getH, gx0, gx1, gx2, gx3, ife_e, ife_n, ife_r, ife_re, ife_ne', ife_nr, ife_en, ife_rn, ife_er, decide_true, decide_false, Bool.not_true, Bool.not_false]
  refine W.alloc fk.wf fun x6 H4 l4 b6 => ?_
  have b6 := Bx.iv b6
  have b1 := b1.le l4
  have b2 := b2.le l4
  have h := h.le l4
  have fk := fk.le l4
  refine W.alloc fk.wf fun x7 H5 l5 b7 => ?_
  have b6 := b6.le l5
  have b1 := b1.le l5
  have b2 := b2.le l5
  have h := h.le l5
  have n12 : H.next ≤ H1.next := l1.nx
  have n1b : H1.next ≤ H2.next := l2.nx
  have n34 : H3.next ≤ H4.next := l4.nx
  have n45 : H4.next ≤ H5.next := l5.nx
  have fk := fk.le l5
  obtain ⟨mv, rfl, hm, h64, hnl⟩ := hpz
  have hm := (Seq.leL hm l4).leL l5
  have hjr := (hjr.le l4).le l5
  refine W.fsw fk.wf b6 rfl rfl (cells_p hm.isCell) fun H6 f6 b6 => ?_
  have b7 := b7.bk f6 (by decide)
  have b1 := b1.ap f6 fun id h1 h2 => absurd h1.2 (by have := h2.1; omega)
  have b2 := b2.bk f6 (by decide)
  have h := h.bk f6 (by decide) (by decide)
  have hm := Seq.bkL hm f6 (by decide) (by decide)
  have hjr := hjr.bk f6 (by decide) (by decide)
  have fk : Sf H H6 := fk.own f6 fun id h => by have := h.1.1; omega
  obtain ⟨ja, jb, jc, rfl, hja, hjb, hjc⟩ := hjr
  refine W.fsw fk.wf b7 rfl rfl (cells_j hja.isCell hjb.isCell hjc.isCell) fun H7 f7 b7 => ?_
  have b7 : Bx (Nw H4) t_impl_FillJob H7 x7 [ja, jb, jc, i64 j.nx, .str j.lg, i64 j.sy] := b7
  have b6 := b6.bk f7 (by decide)
  have b1 := b1.bk f7 (by decide)
  have b2 := b2.bk f7 (by decide)
  have h := h.bk f7 (by decide) (by decide)
  have hm := Seq.bkL hm f7 (by decide) (by decide)
  have hja := hja.bkI f7 (by decide)
  have hjb := hjb.bkL f7 (by decide) (by decide)
  have hjc := hjc.bkI f7 (by decide)
  have fk : Sf H H7 := fk.own f7 fun id h => by have : H4.next ≤ id := h.1; omega
  have n57 : H5.next ≤ H7.next := Nat.le_trans f6.nx f7.nx
  have dt : DT H H1.next H2.next H3.next H7.next P x x1 x2 x6 p H7 := ⟨fk, h, b1, b2, ⟨mv, b6.ivm (by omega), mv, rfl, (hm.mono (P' := (· < H7.next)) fun id hid _ => hid).monoR fun id hid _ => hid, h64, hnl⟩, n12, n1b, n23, by omega⟩
  simp only [↓wr_ld3 b6, ↓wr_fadd b7, ↓wr_fadd0 b7, ↓wr_f0 b7]
  refine W.bnd (c_BuildTable (p := p) fk.wf ⟨mv, rfl, hm, h64, hnl⟩ hja (fun H8 l8 _ => ?_) fun a b c H8 L D n1 n2 l8 htr hf hn1 hn2 ha hb hc => ?_)
  · have dt := dt.le l8
    have b7 := b7.le l8
    simp only [↓wr_ret, ↓wr_gd_tt, ↓wr_gd_ff, ↓wr_gd_tf, ↓wr_gd_ft, ↓wr_gd_s, ↓wr_pick_t, ↓wr_pick_f, ↓wr_br_t, ↓wr_br_f, ↓wr_bbr_t, ↓wr_bbr_f, ↓wr_lss, ↓wr_leq, ↓wr_gtr, ↓wr_geq, ↓wr_eql, ↓wr_neq, ↓wr_not, ↓wr_cv, ↓wr_extr0, ↓wr_extr1, ↓wr_extr2, ↓wr_lenT, ↓wr_getH, gx0, gx1, gx2, gx3, ife_e, ife_n, ife_r, ife_re, ife_ne', ife_nr, ife_en, ife_rn, ife_er, decide_true, decide_false, Bool.not_true, Bool.not_false]
    refine W.alloc l8.wf fun x15 H9 l9 b15 => ?_
    have dt := dt.le l9
    have b7 := b7.le l9
    have n78 := l8.nx
    refine W.fsw l9.wf b15 rfl rfl rfl fun Ha fa b15 => ?_
    have dt := dt.hi fa fun id h => by have : H8.next ≤ id := h; omega
    have b7 := b7.bk fa (by decide)
    have hjr : JobR H9 (.agg (j.cells ja jb jc)) t0 j := JobR.le (JobR.le ⟨ja, jb, jc, rfl, hja, hjb, hjc⟩ l8) l9
    obtain ⟨fk, src, b1, b2, ⟨mv', b4, hpz⟩, m1, m2, m3, m4⟩ := dt
    obtain ⟨mv'', he, hm', _, _⟩ := hpz
    simp only [AVal.agg.injEq, List.cons.injEq, and_true, true_and] at he
    subst he
    simp only [↓wr_ret, ↓wr_gd_tt, ↓wr_gd_ff, ↓wr_gd_tf, ↓wr_gd_ft, ↓wr_gd_s, ↓wr_pick_t, ↓wr_pick_f, ↓wr_br_t, ↓wr_br_f, ↓wr_bbr_t, ↓wr_bbr_f, ↓wr_lss, ↓wr_leq, ↓wr_gtr, ↓wr_geq, ↓wr_eql, ↓wr_neq, ↓wr_not, ↓wr_cv, ↓wr_extr0, ↓wr_extr1, ↓wr_extr2, ↓wr_lenT, ↓wr_getH, gx0, gx1, gx2, gx3, ife_e, ife_n, ife_r, ife_re, ife_ne', ife_nr, ife_en, ife_rn, ife_er, decide_true, decide_false, Bool.not_true, Bool.not_false, ↓wr_ld3 b4]
    refine W.fsw fk.wf b1 rfl rfl (cells_p hm'.isCell) fun Hb fb b1 => ?_
    have b7' := b7
    have b7 := b7.bk fb (by decide)
    have b2 := b2.bk fb (by decide)
    simp only [↓wr_fadd b7, ↓wr_fadd' b7, ↓wr_ldt b7]
    refine W.agn1 (v := .agg [ja, jb, jc]) (by
      obtain ⟨id, rfl, g1, g2, g3⟩ := b7'
      simp [ldn, fieldP, rd, g3]) ?_
    refine W.fsw fb.wf b2 rfl rfl (cells_t hja.isCell hjb.isCell hjc.isCell) fun Hc fc b2 => ?_
    have b1 := b1.bk fc (by decide)
    simp only [↓wr_ld3 b1, ↓wr_ld3 b2]
    have fk : Sf H Hb := fk.own fb fun id h => h.1.1
    obtain ⟨ja', jb', jc', he, q1, q2, q3⟩ := hjr
    simp only [Jsc.cells, AVal.agg.injEq, List.cons.injEq, and_true] at he
    obtain ⟨rfl, rfl, rfl, _⟩ := he
    have q : TR Hc ja jb jc t0 := (((TR.bk ⟨q1, q2, q3⟩ fa (by decide) (by decide)).bk fb (by decide) (by decide)).bk fc (by decide) (by decide))
    exact W.ret (k _ _ p t0 _ (fk.own fc fun id h => by have := h.1.1; omega) ((src.bk fb (by decide) (by decide)).bk fc (by decide) (by decide)) ⟨mv', rfl, Seq.anyL ((hm'.bkL fb (by decide) (by decide)).bkL fc (by decide) (by decide)), h64, hnl⟩ q.tbl)
  have hA1 : 1 ≤ t0.tracked.length := by have := htr.2.1.1; omega
  have hn0 : H7.next < n1 := by
    obtain ⟨id, g1, g2⟩ := ha.place (fun h => by rw [h] at hA1; simp at hA1)
    have := g1.1; have := g1.2; omega
  have hL1 : 1 ≤ L.length := by
    have := hf.bf.root
    rcases Nat.eq_zero_or_pos L.length with h | h
    · rw [List.getElem?_eq_none (by omega)] at this; cases this
    · exact h
  have hDL := hf.bf.len
  have hn3 : n2 ≤ H8.next := by
    obtain ⟨id, g1, g2⟩ := hc.place (fun h => by rw [h] at hDL; simp at hDL; omega)
    have := g1.1; omega
  obtain ⟨tt, dd, hj⟩ := JobC.mk' ha hb hc hn0 hn2 hn3
  have hL3 := (hf.all rfl).1
  have dt := dt.le l8
  generalize H7.next = N4 at *
  have n48 : N4 ≤ H8.next := by omega
  simp only [↓wr_ret, ↓wr_gd_tt, ↓wr_gd_ff, ↓wr_gd_tf, ↓wr_gd_ft, ↓wr_gd_s, ↓wr_pick_t, ↓wr_pick_f, ↓wr_br_t, ↓wr_br_f, ↓wr_bbr_t, ↓wr_bbr_f, ↓wr_lss, ↓wr_leq, ↓wr_gtr, ↓wr_geq, ↓wr_eql, ↓wr_neq, ↓wr_not, ↓wr_cv, ↓wr_extr0, ↓wr_extr1, ↓wr_extr2, ↓wr_lenT, ↓wr_getH, gx0, gx1, gx2, gx3, ife_e, ife_n, ife_r, ife_re, ife_ne', ife_nr, ife_en, ife_rn, ife_er, decide_true, decide_false, Bool.not_true, Bool.not_false]
  refine W.alloc l8.wf fun x15 H9 l9 b15 => ?_
  have dt := dt.le l9
  have hj := hj.le l9
  refine W.fsw l9.wf b15 rfl rfl (cells_t hj.1.isCell hj.2.1.isCell hj.2.2.1.isCell) fun Ha fa b15 => ?_
  have dt := dt.hi fa fun id h => by have : H8.next ≤ id := h; omega
  have hj := hj.bk fa (by decide) (by decide)
  have b15 : Bx (N4 ≤ ·) t_impl_Table Ha x15 [a, b, c] := b15.mono fun id _ h => by have : H8.next ≤ id := h; omega
  have hb2 := hj.2.1
  have hlen2 : (L.length : Int) = ((Tbl.mk t0.tracked L D).patterns.length : Int) := rfl
  simp only [↓wr_ret, ↓wr_gd_tt, ↓wr_gd_ff, ↓wr_gd_tf, ↓wr_gd_ft, ↓wr_gd_s, ↓wr_pick_t, ↓wr_pick_f, ↓wr_br_t, ↓wr_br_f, ↓wr_bbr_t, ↓wr_bbr_f, ↓wr_lss, ↓wr_leq, ↓wr_gtr, ↓wr_geq, ↓wr_eql, ↓wr_neq, ↓wr_not, ↓wr_cv, ↓wr_extr0, ↓wr_extr1, ↓wr_extr2, ↓wr_lenT, ↓wr_getH, gx0, gx1, gx2, gx3, ife_e, ife_n, ife_r, ife_re, ife_ne', ife_nr, ife_en, ife_rn, ife_er, decide_true, decide_false, Bool.not_true, Bool.not_false, ↓wr_fadd b15, ↓wr_f1 b15, ↓wr_len hb2]
  rw [← hlen2]
  -- some entries change places
  have swap : ∀ (bl : Bool) (Hk : AHeap), (bl = true → 2 < L.length) → DT H H1.next H2.next H3.next N4 P x x1 x2 x6 p Hk → Bx (N4 ≤ ·) t_impl_Table Hk x15 [a, b, c] → JobC N4 tt dd Hk a b c ⟨t0.tracked, L, D⟩ →
      W (br (.bool bl) (bnd (abin .sub (i64 (L.length : Int)) (.int .i64 1)) fun x30 =>
 bnd (s_sp_below x x30) fun x31 =>
 bnd (abin .add (.int .i64 1) x31) fun x32 =>
 bnd (abin .sub (i64 (L.length : Int)) (.int .i64 1)) fun x33 =>
 bnd (s_sp_below x x33) fun x34 =>
 bnd (abin .add (.int .i64 1) x34) fun x35 =>
 bnd (fadd 1 x15) fun x36 =>
 bnd (ld1 x36) fun x37 =>
 bnd (ixa 1 x37 x32) fun x38 =>
 bnd (ld1 x38) fun x39 =>
 bnd (fadd 1 x15) fun x40 =>
 bnd (ld1 x40) fun x41 =>
 bnd (fadd 1 x15) fun x42 =>
 bnd (ld1 x42) fun x43 =>
 bnd (ixa 1 x43 x35) fun x44 =>
 bnd (ld1 x44) fun x45 =>
 bnd (ixa 1 x41 x32) fun x46 =>
 bnd (st1 x46 x45) fun _ =>
 bnd (fadd 1 x15) fun x47 =>
 bnd (ld1 x47) fun x48 =>
 bnd (ixa 1 x48 x35) fun x49 =>
 bnd (st1 x49 x39) fun _ =>
 bnd (s_sp_oneIn x (.int .i64 4)) fun x50 =>
 bnd (aun .not x50) fun x51 =>
 bnd (br x51 (bnd (fadd 2 x15) fun x52 =>
 bnd (ld1 x52) fun x53 =>
 bnd (ixa 1 x53 x32) fun x54 =>
 bnd (ld1 x54) fun x55 =>
 bnd (fadd 2 x15) fun x56 =>
 bnd (ld1 x56) fun x57 =>
 bnd (fadd 2 x15) fun x58 =>
 bnd (ld1 x58) fun x59 =>
 bnd (ixa 1 x59 x35) fun x60 =>
 bnd (ld1 x60) fun x61 =>
 bnd (ixa 1 x57 x32) fun x62 =>
 bnd (st1 x62 x61) fun _ =>
 bnd (fadd 2 x15) fun x63 =>
 bnd (ld1 x63) fun x64 =>
 bnd (ixa 1 x64 x35) fun x65 =>
 bnd (st1 x65 x55) fun _ =>
 rx .normal []) (rx .normal [])) fun r66 =>
 ife r66.1 .normal (rx .normal []) (fail)) (rx .normal [])) Hk fun rr Hm => rr = (.normal, []) ∧ DT H H1.next H2.next H3.next N4 P x x1 x2 x6 p Hm ∧ TS N4 Hm x15 := by
    intro bl Hk hbl dt b15 hj
    cases bl with
    | false =>
      simp only [↓wr_br_f]
      exact W.ret ⟨rfl, dt, a, b, c, tt, dd, ⟨t0.tracked, L, D⟩, b15, hj, hDL, hL1, hL3, hA1⟩
    | true =>
      have h2 := hbl rfl
      simp only [↓wr_br_t]
      rw [wr_sub (by unfold In64; omega)]
      refine W.bnd (c_below dt.fk.wf dt.src fun i Hl fl h hi => ?_)
      have dt := dt.sf fl h
      have hj := hj.bk fl (by decide) (by decide)
      have b15 := b15.bk fl (by decide)
      have hi1 := hi.1
      have hi2 := hi.2.1 (by omega)
      rw [wr_add (by unfold In64; omega), wr_sub (by unfold In64; omega)]
      refine W.bnd (c_below dt.fk.wf dt.src fun i2 Hm fm h hi' => ?_)
      have dt := dt.sf fm h
      have hj := hj.bk fm (by decide) (by decide)
      have b15 := b15.bk fm (by decide)
      have hi1' := hi'.1
      have hi2' := hi'.2.1 (by omega)
      rw [wr_add (by unfold In64; omega)]
      obtain ⟨i, rfl⟩ : ∃ q : Nat, i = (q : Int) := ⟨i.toNat, by omega⟩
      obtain ⟨i2, rfl⟩ : ∃ q : Nat, i2 = (q : Int) := ⟨i2.toNat, by omega⟩
      have e1 : (1 : Int) + (i : Int) = ((1 + i : Nat) : Int) := by omega
      have e2 : (1 : Int) + (i2 : Int) = ((1 + i2 : Nat) : Int) := by omega
      rw [e1, e2]
      have q1 : 1 + i < L.length := by omega
      have q2 : 1 + i2 < L.length := by omega
      obtain ⟨z1, hz1, hL1', _⟩ := hj.2.1.ld1 q1
      obtain ⟨z2, hz2, hL2', _⟩ := hj.2.1.ld1 q2
      have hL1' : Ints .ro (Ne2 N4 tt dd) Hm z1 L[1 + i] := hL1'
      have hL2' : Ints .ro (Ne2 N4 tt dd) Hm z2 L[1 + i2] := hL2'
      have hbq := hj.2.1
      simp only [↓wr_fadd b15, ↓wr_f1 b15, ↓wr_ix hbq q1, ↓wr_e hz1, ↓wr_ix hbq q2, ↓wr_e hz2]
      refine JobC.stL dt.fk.wf hj q1 hL2' fun Hn fn hj => ?_
      have dt := dt.hi fn fun id h => h
      have b15 := b15.bk fn (by decide)
      have hL1' := hL1'.bkI fn (by decide)
      have q2' : 1 + i2 < (L.set (1 + i) L[1 + i2]).length := by simpa using q2
      have hbq := hj.2.1
      simp only [↓wr_fadd b15, ↓wr_f1 b15, ↓wr_ix hbq q2']
      refine JobC.stL dt.fk.wf hj q2' hL1' fun Ho fo hj => ?_
      have dt := dt.hi fo fun id h => h
      have b15 := b15.bk fo (by decide)
      have hln : ((L.set (1 + i) L[1 + i2]).set (1 + i2) L[1 + i]).length = L.length := by simp
      generalize ((L.set (1 + i) L[1 + i2]).set (1 + i2) L[1 + i]) = L' at hj hln
      refine W.bnd (c_oneIn dt.fk.wf dt.src fun bl Hp' fp h => ?_)
      have dt := dt.sf fp h
      have hj := hj.bk fp (by decide) (by decide)
      have b15 := b15.bk fp (by decide)
      cases bl with
      | true =>
        simp only [↓wr_ret, ↓wr_gd_tt, ↓wr_gd_ff, ↓wr_gd_tf, ↓wr_gd_ft, ↓wr_gd_s, ↓wr_pick_t, ↓wr_pick_f, ↓wr_br_t, ↓wr_br_f, ↓wr_bbr_t, ↓wr_bbr_f, ↓wr_lss, ↓wr_leq, ↓wr_gtr, ↓wr_geq, ↓wr_eql, ↓wr_neq, ↓wr_not, ↓wr_cv, ↓wr_extr0, ↓wr_extr1, ↓wr_extr2, ↓wr_lenT, ↓wr_getH, gx0, gx1, gx2, gx3, ife_e, ife_n, ife_r, ife_re, ife_ne', ife_nr, ife_en, ife_rn, ife_er, decide_true, decide_false, Bool.not_true, Bool.not_false, ↓wr_rx]
        exact W.ret ⟨rfl, dt, a, b, c, tt, dd, ⟨t0.tracked, L', D⟩, b15, hj, by show D.length = L'.length; omega, by show 1 ≤ L'.length; omega, by show L'.length ≤ _; omega, hA1⟩
      | false =>
        have r1 : 1 + i < D.length := by omega
        have r2 : 1 + i2 < D.length := by omega
        have hcq := hj.2.2.1
        simp only [↓wr_ret, ↓wr_gd_tt, ↓wr_gd_ff, ↓wr_gd_tf, ↓wr_gd_ft, ↓wr_gd_s, ↓wr_pick_t, ↓wr_pick_f, ↓wr_br_t, ↓wr_br_f, ↓wr_bbr_t, ↓wr_bbr_f, ↓wr_lss, ↓wr_leq, ↓wr_gtr, ↓wr_geq, ↓wr_eql, ↓wr_neq, ↓wr_not, ↓wr_cv, ↓wr_extr0, ↓wr_extr1, ↓wr_extr2, ↓wr_lenT, ↓wr_getH, gx0, gx1, gx2, gx3, ife_e, ife_n, ife_r, ife_re, ife_ne', ife_nr, ife_en, ife_rn, ife_er, decide_true, decide_false, Bool.not_true, Bool.not_false, bnd_as, ↓wr_fadd b15, ↓wr_f2 b15, ↓wr_ix hcq r1, ↓wr_ldI hcq r1, ↓wr_ix hcq r2, ↓wr_ldI hcq r2]
        refine JobC.stD dt.fk.wf hj r1 fun Hq fq hj => ?_
        have dt := dt.hi fq fun id h => h.1
        have b15 := b15.bk fq (by decide)
        have r2' : 1 + i2 < (D.set (1 + i) D[1 + i2]).length := by simpa using r2
        have hcq := hj.2.2.1
        simp only [↓wr_fadd b15, ↓wr_f2 b15, ↓wr_ix hcq r2']
        refine JobC.stD dt.fk.wf hj r2' fun Hr fr hj => ?_
        have dt := dt.hi fr fun id h => h.1
        have b15 := b15.bk fr (by decide)
        simp only [↓wr_ret, ↓wr_gd_tt, ↓wr_gd_ff, ↓wr_gd_tf, ↓wr_gd_ft, ↓wr_gd_s, ↓wr_pick_t, ↓wr_pick_f, ↓wr_br_t, ↓wr_br_f, ↓wr_bbr_t, ↓wr_bbr_f, ↓wr_lss, ↓wr_leq, ↓wr_gtr, ↓wr_geq, ↓wr_eql, ↓wr_neq, ↓wr_not, ↓wr_cv, ↓wr_extr0, ↓wr_extr1, ↓wr_extr2, ↓wr_lenT, ↓wr_getH, gx0, gx1, gx2, gx3, ife_e, ife_n, ife_r, ife_re, ife_ne', ife_nr, ife_en, ife_rn, ife_er, decide_true, decide_false, Bool.not_true, Bool.not_false, ↓wr_rx]
        exact W.ret ⟨rfl, dt, a, b, c, tt, dd, _, b15, hj, by simp; omega, by show 1 ≤ L'.length; omega, by show L'.length ≤ _; omega, hA1⟩
  -- the changes of one entry
  have rest : ∀ (Hk : AHeap), DT H H1.next H2.next H3.next N4 P x x1 x2 x6 p Hk → TS N4 Hk x15 → ∀ rr : Ex × List AVal, rr = (.normal, []) → ∀ g : AM AVal, W g Hk Q → W (ife rr.1 .normal g fail) Hk Q := by
    rintro Hk dt ts rr rfl g hg
    simpa only [ife_n] using hg
  have main : ∀ (bl : Bool) (Hk : AHeap), (bl = true → 2 < L.length) → DT H H1.next H2.next H3.next N4 P x x1 x2 x6 p Hk → Bx (N4 ≤ ·) t_impl_Table Hk x15 [a, b, c] → JobC N4 tt dd Hk a b c ⟨t0.tracked, L, D⟩ → ∀ g : Ex × List AVal → AM AVal, (∀ Hm, DT H H1.next H2.next H3.next N4 P x x1 x2 x6 p Hm → TS N4 Hm x15 → W (g (.normal, [])) Hm Q) → W (bnd _ g) Hk Q :=
    fun bl Hk hbl dt b15 hj g hg => W.c (swap bl Hk hbl dt b15 hj) fun rr Hm h => by
      obtain ⟨rfl, h1, h2⟩ := h
      exact hg Hm h1 h2
  clear rest
  by_cases h2 : (2 : Int) < L.length
  · simp only [h2, ↓wr_ret, ↓wr_gd_tt, ↓wr_gd_ff, ↓wr_gd_tf, ↓wr_gd_ft, ↓wr_gd_s, ↓wr_pick_t, ↓wr_pick_f, ↓wr_br_t, ↓wr_br_f, ↓wr_bbr_t, ↓wr_bbr_f, ↓wr_lss, ↓wr_leq, ↓wr_gtr, ↓wr_geq, ↓wr_eql, ↓wr_neq, ↓wr_not, ↓wr_cv, ↓wr_extr0, ↓wr_extr1, ↓wr_extr2, ↓wr_lenT, ↓wr_getH, gx0, gx1, gx2, gx3, ife_e, ife_n, ife_r, ife_re, ife_ne', ife_nr, ife_en, ife_rn, ife_er, decide_true, decide_false, Bool.not_true, Bool.not_false]
    refine W.bnd (c_oneIn dt.fk.wf dt.src fun bl Hb fb h => ?_)
    simp only [↓wr_ret, ↓wr_gd_tt, ↓wr_gd_ff, ↓wr_gd_tf, ↓wr_gd_ft, ↓wr_gd_s, ↓wr_pick_t, ↓wr_pick_f, ↓wr_br_t, ↓wr_br_f, ↓wr_bbr_t, ↓wr_bbr_f, ↓wr_lss, ↓wr_leq, ↓wr_gtr, ↓wr_geq, ↓wr_eql, ↓wr_neq, ↓wr_not, ↓wr_cv, ↓wr_extr0, ↓wr_extr1, ↓wr_extr2, ↓wr_lenT, ↓wr_getH, gx0, gx1, gx2, gx3, ife_e, ife_n, ife_r, ife_re, ife_ne', ife_nr, ife_en, ife_rn, ife_er, decide_true, decide_false, Bool.not_true, Bool.not_false]
    refine main bl Hb (fun _ => by omega) (dt.sf fb h) (b15.bk fb (by decide)) (hj.bk fb (by decide) (by decide)) _ fun Hm dt ts => ?_
    simp only [↓wr_ret, ↓wr_gd_tt, ↓wr_gd_ff, ↓wr_gd_tf, ↓wr_gd_ft, ↓wr_gd_s, ↓wr_pick_t, ↓wr_pick_f, ↓wr_br_t, ↓wr_br_f, ↓wr_bbr_t, ↓wr_bbr_f, ↓wr_lss, ↓wr_leq, ↓wr_gtr, ↓wr_geq, ↓wr_eql, ↓wr_neq, ↓wr_not, ↓wr_cv, ↓wr_extr0, ↓wr_extr1, ↓wr_extr2, ↓wr_lenT, ↓wr_getH, gx0, gx1, gx2, gx3, ife_e, ife_n, ife_r, ife_re, ife_ne', ife_nr, ife_en, ife_rn, ife_er, decide_true, decide_false, Bool.not_true, Bool.not_false]
    exact d30_rest dt ts k
  · simp only [h2, ↓wr_ret, ↓wr_gd_tt, ↓wr_gd_ff, ↓wr_gd_tf, ↓wr_gd_ft, ↓wr_gd_s, ↓wr_pick_t, ↓wr_pick_f, ↓wr_br_t, ↓wr_br_f, ↓wr_bbr_t, ↓wr_bbr_f, ↓wr_lss, ↓wr_leq, ↓wr_gtr, ↓wr_geq, ↓wr_eql, ↓wr_neq, ↓wr_not, ↓wr_cv, ↓wr_extr0, ↓wr_extr1, ↓wr_extr2, ↓wr_lenT, ↓wr_getH, gx0, gx1, gx2, gx3, ife_e, ife_n, ife_r, ife_re, ife_ne', ife_nr, ife_en, ife_rn, ife_er, decide_true, decide_false, Bool.not_true, Bool.not_false]
    exact d30_rest dt ⟨a, b, c, tt, dd, ⟨t0.tracked, L, D⟩, b15, hj, hDL, hL1, hL3, hA1⟩ k
end
end Go.Am

end

section
set_option linter.unusedSimpArgs false
set_option linter.unusedVariables false
/- The first statement, in the abstract machine. -/
namespace Go.Am
section
variable {β X : Type} {f : AVal → AM β} {Q : AVal → AHeap → Prop} {R : AHeap → AVal → X → Prop} {m m2 : Md} {P P2 P3 P4 P5 P' S T : Nat → Prop} {e e2 : TypeId} {H H0 H1 H2 H' Hk Hl : AHeap} {v u x y x1 x2 x6 x15 tv : AVal} {A B C s D r : List Int} {L LL : List (List Int)} {p : Puz} {cs : List AVal} {t : Tbl} {id : Nat} {n : Int} {N1 N2 N3 N4 : Nat} {a b c : AVal} {LB : List UInt8}
/-- What the argument of a law may be: a slice of bytes; of a great one nothing but its length is known. -/
def CodeA (H : AHeap) (v : AVal) : Prop := (∃ id off n, v = .slice id off n 1 ∧ 4096 < n) ∨ ∃ B, Bytes .ro (· < H.next) H v B ∧ B.length ≤ 4096
theorem c_newSource (hp : Hp H) (h : Bytes .ro P H v LB) (hl : LB.length ≤ 4096) (k : ∀ x H', Le H H' → Src P H' x → Q x H') : W (s_sp_newSource v) H Q := by
  unfold s_sp_newSource
  simp only [↓wr_len h, ↓wr_addw]
  refine W.lq (fun q st Hk => Hk = H ∧ ∃ (i : Nat) (z : Int), q = LB.length - i ∧ i ≤ LB.length ∧ st = [i64 z, i64 (i : Int)]) (fun rr Hk => Hk = H ∧ ∃ z : Int, rr = (.exit 0, [i64 z])) LB.length ⟨rfl, 0, _, rfl, Nat.zero_le _, rfl⟩ ?_ ?_
  · rintro q st Hk ⟨rfl, i, z, rfl, hi, rfl⟩ Q' kn kx
    by_cases hlt : i < LB.length
    · have hlt' : (i : Int) < LB.length := by omega
      simp only [↓wr_len h, ↓wr_ret, ↓wr_gd_tt, ↓wr_gd_ff, ↓wr_gd_tf, ↓wr_gd_ft, ↓wr_gd_s, ↓wr_pick_t, ↓wr_pick_f, ↓wr_br_t, ↓wr_br_f, ↓wr_bbr_t, ↓wr_bbr_f, ↓wr_lss, ↓wr_leq, ↓wr_gtr, ↓wr_geq, ↓wr_eql, ↓wr_neq, ↓wr_not, ↓wr_cv, ↓wr_extr0, ↓wr_extr1, ↓wr_extr2, ↓wr_lenT, ↓wr_getH, gx0, gx1, gx2, gx3, ife_e, ife_n, ife_r, ife_re, ife_ne', ife_nr, ife_en, ife_rn, ife_er, decide_true, decide_false, Bool.not_true, Bool.not_false, hlt', ↓wr_mulw, ↓wr_ix h hlt, ↓wr_ldB h hlt, u8_in, ↓wr_addw]
      refine W.and ?_
      have hw : IntKind.i64.wrap ((i : Int) + 1) = ((i + 1 : Nat) : Int) := by
        rw [wrap_in (by unfold In64; omega)]; rfl
      simp only [↓wr_addw, hw]
      exact W.ret (kn (LB.length - (i + 1)) _ _ (by omega) ⟨rfl, i + 1, _, rfl, hlt, rfl⟩)
    · have hlt' : ¬(i : Int) < LB.length := by omega
      simp only [↓wr_len h, ↓wr_ret, ↓wr_gd_tt, ↓wr_gd_ff, ↓wr_gd_tf, ↓wr_gd_ft, ↓wr_gd_s, ↓wr_pick_t, ↓wr_pick_f, ↓wr_br_t, ↓wr_br_f, ↓wr_bbr_t, ↓wr_bbr_f, ↓wr_lss, ↓wr_leq, ↓wr_gtr, ↓wr_geq, ↓wr_eql, ↓wr_neq, ↓wr_not, ↓wr_cv, ↓wr_extr0, ↓wr_extr1, ↓wr_extr2, ↓wr_lenT, ↓wr_getH, gx0, gx1, gx2, gx3, ife_e, ife_n, ife_r, ife_re, ife_ne', ife_nr, ife_en, ife_rn, ife_er, decide_true, decide_false, Bool.not_true, Bool.not_false, hlt']
      exact W.ret (kx _ _ _ (by simp) ⟨rfl, z, rfl⟩)
  · rintro rr Hk ⟨rfl, z, rfl⟩
    simp only [↓wr_ret, ↓wr_gd_tt, ↓wr_gd_ff, ↓wr_gd_tf, ↓wr_gd_ft, ↓wr_gd_s, ↓wr_pick_t, ↓wr_pick_f, ↓wr_br_t, ↓wr_br_f, ↓wr_bbr_t, ↓wr_bbr_f, ↓wr_lss, ↓wr_leq, ↓wr_gtr, ↓wr_geq, ↓wr_eql, ↓wr_neq, ↓wr_not, ↓wr_cv, ↓wr_extr0, ↓wr_extr1, ↓wr_extr2, ↓wr_lenT, ↓wr_getH, gx0, gx1, gx2, gx3, ife_e, ife_n, ife_r, ife_re, ife_ne', ife_nr, ife_en, ife_rn, ife_er, decide_true, decide_false, Bool.not_true, Bool.not_false, bnd_as, ↓wr_c1 h.isCell, ↓wr_c1i]
    refine W.box hp (by decide) rfl (cells_t h.isCell rfl rfl) fun x H1 l1 b1 => ?_
    exact W.ret (k _ _ l1 ⟨v, 0, z, LB, b1.mono fun _ _ _ => trivial, h.leB l1, Nat.zero_le _⟩)
theorem c_DrawIsCorrectTable (hp : Hp H) (h : Bytes .ro P H v LB) (hl : LB.length ≤ 4096) (k : ∀ w u p t H', Hp H' → PuzA Any Any H' w p → TblA Any Any H' u t → Q (.tuple [w, u]) H') : W (s_sp_DrawIsCorrectTable v) H Q := by
  unfold s_sp_DrawIsCorrectTable
  refine W.alloc hp fun x1 H1 l1 b1 => ?_
  refine W.alloc l1.wf fun x2 H2 l2 b2 => ?_
  have b1 := b1.le l2
  have l := l1.tr l2
  refine W.bnd (c_newSource l.wf (h.leB l) hl fun x H3 l3 hs => ?_)
  have b1 := b1.le l3
  have b2 := b2.le l3
  refine W.bnd (c_l30Draw l3.wf hs fun w u p t H4 f4 hs hpz ht => ?_)
  have b1 := b1.bk f4 (by decide)
  have b2 := b2.bk f4 (by decide)
  simp only [↓wr_ret, ↓wr_gd_tt, ↓wr_gd_ff, ↓wr_gd_tf, ↓wr_gd_ft, ↓wr_gd_s, ↓wr_pick_t, ↓wr_pick_f, ↓wr_br_t, ↓wr_br_f, ↓wr_bbr_t, ↓wr_bbr_f, ↓wr_lss, ↓wr_leq, ↓wr_gtr, ↓wr_geq, ↓wr_eql, ↓wr_neq, ↓wr_not, ↓wr_cv, ↓wr_extr0, ↓wr_extr1, ↓wr_extr2, ↓wr_lenT, ↓wr_getH, gx0, gx1, gx2, gx3, ife_e, ife_n, ife_r, ife_re, ife_ne', ife_nr, ife_en, ife_rn, ife_er, decide_true, decide_false, Bool.not_true, Bool.not_false]
  obtain ⟨mv, rfl, hm, h64, hnl⟩ := hpz
  obtain ⟨a, b, c, rfl, ha, hb, hc⟩ := ht
  refine W.fsw f4.wf b1 rfl rfl (cells_p hm.isCell) fun H5 f5 b1 => ?_
  have b2 := b2.bk f5 (by decide)
  have hm := hm.bkL f5 (by decide) (by decide)
  have ha := ha.bkI f5 (by decide)
  have hb := hb.bkL f5 (by decide) (by decide)
  have hc := hc.bkI f5 (by decide)
  refine W.fsw f5.wf b2 rfl rfl (cells_t ha.isCell hb.isCell hc.isCell) fun H6 f6 b2 => ?_
  have b1 := b1.bk f6 (by decide)
  simp only [↓wr_ld3 b1, ↓wr_ld3 b2]
  exact W.ret (k _ _ p t _ f6.wf ⟨mv, rfl, hm.bkL f6 (by decide) (by decide), h64, hnl⟩ ⟨a, b, c, rfl, ha.bkI f6 (by decide), hb.bkL f6 (by decide) (by decide), hc.bkI f6 (by decide)⟩)
theorem c_likeInts (ha : Seq RI m P e H v A) (hb : Seq RI m2 P2 e2 H u B) : s_lw_likeInts v u H = some (.bool (decide (A = B)), H) := by
  refine eq_of_W fun Q k => ?_
  have hba := ha.bd
  unfold s_lw_likeInts
  simp only [↓wr_len ha, ↓wr_len hb, ↓wr_neq]
  by_cases hl : (A.length : Int) = B.length
  · have hl' : A.length = B.length := by omega
    simp only [hl, ↓wr_ret, ↓wr_gd_tt, ↓wr_gd_ff, ↓wr_gd_tf, ↓wr_gd_ft, ↓wr_gd_s, ↓wr_pick_t, ↓wr_pick_f, ↓wr_br_t, ↓wr_br_f, ↓wr_bbr_t, ↓wr_bbr_f, ↓wr_lss, ↓wr_leq, ↓wr_gtr, ↓wr_geq, ↓wr_eql, ↓wr_neq, ↓wr_not, ↓wr_cv, ↓wr_extr0, ↓wr_extr1, ↓wr_extr2, ↓wr_lenT, ↓wr_getH, gx0, gx1, gx2, gx3, ife_e, ife_n, ife_r, ife_re, ife_ne', ife_nr, ife_en, ife_rn, ife_er, decide_true, decide_false, Bool.not_true, Bool.not_false, ↓wr_len ha]
    refine W.scan (e := 0) (w := [.undef]) A.length (fun i => A[i]? ≠ B[i]?) (fun _ => [.bool false]) (fun i hi Q' k1 k2 => ?_) (fun Q' k1 => ?_) (fun i hi hb _ => ?_) fun hb => ?_
    · have hi' : i < B.length := by omega
      have : ((i : Int) < A.length) := by omega
      simp only [↓wr_len ha, this, ↓wr_ret, ↓wr_gd_tt, ↓wr_gd_ff, ↓wr_gd_tf, ↓wr_gd_ft, ↓wr_gd_s, ↓wr_pick_t, ↓wr_pick_f, ↓wr_br_t, ↓wr_br_f, ↓wr_bbr_t, ↓wr_bbr_f, ↓wr_lss, ↓wr_leq, ↓wr_gtr, ↓wr_geq, ↓wr_eql, ↓wr_neq, ↓wr_not, ↓wr_cv, ↓wr_extr0, ↓wr_extr1, ↓wr_extr2, ↓wr_lenT, ↓wr_getH, gx0, gx1, gx2, gx3, ife_e, ife_n, ife_r, ife_re, ife_ne', ife_nr, ife_en, ife_rn, ife_er, decide_true, decide_false, Bool.not_true, Bool.not_false, ↓wr_ix ha hi, ↓wr_ldI ha hi, ↓wr_ix hb hi', ↓wr_ldI hb hi']
      by_cases hq : A[i] = B[i]
      · simp only [hq, ↓wr_ret, ↓wr_gd_tt, ↓wr_gd_ff, ↓wr_gd_tf, ↓wr_gd_ft, ↓wr_gd_s, ↓wr_pick_t, ↓wr_pick_f, ↓wr_br_t, ↓wr_br_f, ↓wr_bbr_t, ↓wr_bbr_f, ↓wr_lss, ↓wr_leq, ↓wr_gtr, ↓wr_geq, ↓wr_eql, ↓wr_neq, ↓wr_not, ↓wr_cv, ↓wr_extr0, ↓wr_extr1, ↓wr_extr2, ↓wr_lenT, ↓wr_getH, gx0, gx1, gx2, gx3, ife_e, ife_n, ife_r, ife_re, ife_ne', ife_nr, ife_en, ife_rn, ife_er, decide_true, decide_false, Bool.not_true, Bool.not_false]
        rw [wr_inc (by omega)]
        exact W.ret (k2 (by simp [hi, hi', hq]))
      · simp only [hq, ↓wr_ret, ↓wr_gd_tt, ↓wr_gd_ff, ↓wr_gd_tf, ↓wr_gd_ft, ↓wr_gd_s, ↓wr_pick_t, ↓wr_pick_f, ↓wr_br_t, ↓wr_br_f, ↓wr_bbr_t, ↓wr_bbr_f, ↓wr_lss, ↓wr_leq, ↓wr_gtr, ↓wr_geq, ↓wr_eql, ↓wr_neq, ↓wr_not, ↓wr_cv, ↓wr_extr0, ↓wr_extr1, ↓wr_extr2, ↓wr_lenT, ↓wr_getH, gx0, gx1, gx2, gx3, ife_e, ife_n, ife_r, ife_re, ife_ne', ife_nr, ife_en, ife_rn, ife_er, decide_true, decide_false, Bool.not_true, Bool.not_false]
        exact W.ret (k1 (by simp [hi, hi', hq]))
    · simp only [↓wr_len ha, ↓wr_ret, ↓wr_gd_tt, ↓wr_gd_ff, ↓wr_gd_tf, ↓wr_gd_ft, ↓wr_gd_s, ↓wr_pick_t, ↓wr_pick_f, ↓wr_br_t, ↓wr_br_f, ↓wr_bbr_t, ↓wr_bbr_f, ↓wr_lss, ↓wr_leq, ↓wr_gtr, ↓wr_geq, ↓wr_eql, ↓wr_neq, ↓wr_not, ↓wr_cv, ↓wr_extr0, ↓wr_extr1, ↓wr_extr2, ↓wr_lenT, ↓wr_getH, gx0, gx1, gx2, gx3, ife_e, ife_n, ife_r, ife_re, ife_ne', ife_nr, ife_en, ife_rn, ife_er, decide_true, decide_false, Bool.not_true, Bool.not_false, Int.lt_irrefl]
      exact W.ret k1
    · simp only [↓wr_ret, ↓wr_gd_tt, ↓wr_gd_ff, ↓wr_gd_tf, ↓wr_gd_ft, ↓wr_gd_s, ↓wr_pick_t, ↓wr_pick_f, ↓wr_br_t, ↓wr_br_f, ↓wr_bbr_t, ↓wr_bbr_f, ↓wr_lss, ↓wr_leq, ↓wr_gtr, ↓wr_geq, ↓wr_eql, ↓wr_neq, ↓wr_not, ↓wr_cv, ↓wr_extr0, ↓wr_extr1, ↓wr_extr2, ↓wr_lenT, ↓wr_getH, gx0, gx1, gx2, gx3, ife_e, ife_n, ife_r, ife_re, ife_ne', ife_nr, ife_en, ife_rn, ife_er, decide_true, decide_false, Bool.not_true, Bool.not_false]
      have : A ≠ B := fun h => hb (by rw [h])
      exact W.ret (by simpa [this] using k)
    · simp only [↓wr_ret, ↓wr_gd_tt, ↓wr_gd_ff, ↓wr_gd_tf, ↓wr_gd_ft, ↓wr_gd_s, ↓wr_pick_t, ↓wr_pick_f, ↓wr_br_t, ↓wr_br_f, ↓wr_bbr_t, ↓wr_bbr_f, ↓wr_lss, ↓wr_leq, ↓wr_gtr, ↓wr_geq, ↓wr_eql, ↓wr_neq, ↓wr_not, ↓wr_cv, ↓wr_extr0, ↓wr_extr1, ↓wr_extr2, ↓wr_lenT, ↓wr_getH, gx0, gx1, gx2, gx3, ife_e, ife_n, ife_r, ife_re, ife_ne', ife_nr, ife_en, ife_rn, ife_er, decide_true, decide_false, Bool.not_true, Bool.not_false]
      have : A = B := List.ext_getElem? fun i => by
        by_cases hi : i < A.length
        · exact Classical.not_not.1 (hb i hi)
        · rw [List.getElem?_eq_none (by omega), List.getElem?_eq_none (by omega)]
      exact W.ret (by simpa [this] using k)
  · simp only [hl, ↓wr_ret, ↓wr_gd_tt, ↓wr_gd_ff, ↓wr_gd_tf, ↓wr_gd_ft, ↓wr_gd_s, ↓wr_pick_t, ↓wr_pick_f, ↓wr_br_t, ↓wr_br_f, ↓wr_bbr_t, ↓wr_bbr_f, ↓wr_lss, ↓wr_leq, ↓wr_gtr, ↓wr_geq, ↓wr_eql, ↓wr_neq, ↓wr_not, ↓wr_cv, ↓wr_extr0, ↓wr_extr1, ↓wr_extr2, ↓wr_lenT, ↓wr_getH, gx0, gx1, gx2, gx3, ife_e, ife_n, ife_r, ife_re, ife_ne', ife_nr, ife_en, ife_rn, ife_er, decide_true, decide_false, Bool.not_true, Bool.not_false]
    have : A ≠ B := fun h => hl (by rw [h])
    exact W.ret (by simpa [this] using k)
theorem c_bigT {id off n : Nat} (hn : 4096 < n) : s_lw_big (.slice id off n 1) H = some (.bool true, H) := by
  refine eq_of_W fun Q k => ?_
  unfold s_lw_big
  have e1 : lenA (.slice id off n 1) = ret (i64 (n : Int)) := rfl
  have : (4096 : Int) < n := by omega
  simp only [↓wr_p e1, ↓wr_ret, ↓wr_gd_tt, ↓wr_gd_ff, ↓wr_gd_tf, ↓wr_gd_ft, ↓wr_gd_s, ↓wr_pick_t, ↓wr_pick_f, ↓wr_br_t, ↓wr_br_f, ↓wr_bbr_t, ↓wr_bbr_f, ↓wr_lss, ↓wr_leq, ↓wr_gtr, ↓wr_geq, ↓wr_eql, ↓wr_neq, ↓wr_not, ↓wr_cv, ↓wr_extr0, ↓wr_extr1, ↓wr_extr2, ↓wr_lenT, ↓wr_getH, gx0, gx1, gx2, gx3, ife_e, ife_n, ife_r, ife_re, ife_ne', ife_nr, ife_en, ife_rn, ife_er, decide_true, decide_false, Bool.not_true, Bool.not_false, this]
  exact W.ret k
theorem c_bigF (h : Bytes .ro P H v LB) (hl : LB.length ≤ 4096) : s_lw_big v H = some (.bool false, H) := by
  refine eq_of_W fun Q k => ?_
  unfold s_lw_big
  have : ¬(4096 : Int) < LB.length := by omega
  simp only [↓wr_len h, ↓wr_ret, ↓wr_gd_tt, ↓wr_gd_ff, ↓wr_gd_tf, ↓wr_gd_ft, ↓wr_gd_s, ↓wr_pick_t, ↓wr_pick_f, ↓wr_br_t, ↓wr_br_f, ↓wr_bbr_t, ↓wr_bbr_f, ↓wr_lss, ↓wr_leq, ↓wr_gtr, ↓wr_geq, ↓wr_eql, ↓wr_neq, ↓wr_not, ↓wr_cv, ↓wr_extr0, ↓wr_extr1, ↓wr_extr2, ↓wr_lenT, ↓wr_getH, gx0, gx1, gx2, gx3, ife_e, ife_n, ife_r, ife_re, ife_ne', ife_nr, ife_en, ife_rn, ife_er, decide_true, decide_false, Bool.not_true, Bool.not_false, this]
  exact W.ret k
theorem aeq_bb {b c : Bool} : aeq .bool false (.bool b) (.bool c) = ret (.bool (b == c)) := by
  simp only [aeq, aeqT]
  rfl
theorem law_VerifiedTables (hp : Hp H) (h : CodeA H v) : W (s_lw_FnVerifiedTables v) H fun r _ => r = .bool true := by
  unfold s_lw_FnVerifiedTables
  rcases h with ⟨id, off, n, rfl, hn⟩ | ⟨LB, hB, hl⟩
  · simp only [↓wr_e (c_bigT hn), ↓wr_ret, ↓wr_gd_tt, ↓wr_gd_ff, ↓wr_gd_tf, ↓wr_gd_ft, ↓wr_gd_s, ↓wr_pick_t, ↓wr_pick_f, ↓wr_br_t, ↓wr_br_f, ↓wr_bbr_t, ↓wr_bbr_f, ↓wr_lss, ↓wr_leq, ↓wr_gtr, ↓wr_geq, ↓wr_eql, ↓wr_neq, ↓wr_not, ↓wr_cv, ↓wr_extr0, ↓wr_extr1, ↓wr_extr2, ↓wr_lenT, ↓wr_getH, gx0, gx1, gx2, gx3, ife_e, ife_n, ife_r, ife_re, ife_ne', ife_nr, ife_en, ife_rn, ife_er, decide_true, decide_false, Bool.not_true, Bool.not_false]
    exact W.ret rfl
  simp only [↓wr_e (c_bigF hB hl), ↓wr_ret, ↓wr_gd_tt, ↓wr_gd_ff, ↓wr_gd_tf, ↓wr_gd_ft, ↓wr_gd_s, ↓wr_pick_t, ↓wr_pick_f, ↓wr_br_t, ↓wr_br_f, ↓wr_bbr_t, ↓wr_bbr_f, ↓wr_lss, ↓wr_leq, ↓wr_gtr, ↓wr_geq, ↓wr_eql, ↓wr_neq, ↓wr_not, ↓wr_cv, ↓wr_extr0, ↓wr_extr1, ↓wr_extr2, ↓wr_lenT, ↓wr_getH, gx0, gx1, gx2, gx3, ife_e, ife_n, ife_r, ife_re, ife_ne', ife_nr, ife_en, ife_rn, ife_er, decide_true, decide_false, Bool.not_true, Bool.not_false]
  refine W.bnd (c_DrawIsCorrectTable hp hB hl fun w u p t H1 hp1 hpz ht => ?_)
  obtain ⟨mv, rfl, hm, h64, hnl⟩ := hpz
  obtain ⟨a, b, c, rfl, ha, hb, hc⟩ := ht
  simp only [↓wr_ret, ↓wr_gd_tt, ↓wr_gd_ff, ↓wr_gd_tf, ↓wr_gd_ft, ↓wr_gd_s, ↓wr_pick_t, ↓wr_pick_f, ↓wr_br_t, ↓wr_br_f, ↓wr_bbr_t, ↓wr_bbr_f, ↓wr_lss, ↓wr_leq, ↓wr_gtr, ↓wr_geq, ↓wr_eql, ↓wr_neq, ↓wr_not, ↓wr_cv, ↓wr_extr0, ↓wr_extr1, ↓wr_extr2, ↓wr_lenT, ↓wr_getH, gx0, gx1, gx2, gx3, ife_e, ife_n, ife_r, ife_re, ife_ne', ife_nr, ife_en, ife_rn, ife_er, decide_true, decide_false, Bool.not_true, Bool.not_false]
  refine W.alloc hp1 fun x5 H2 l2 b5 => ?_
  refine W.alloc l2.wf fun x6 H3 l3 b6 => ?_
  have b5 := b5.le l3
  have l := l2.tr l3
  have hm := hm.leL l
  have ha := ha.leI l
  have hb := hb.leL l
  have hc := hc.leI l
  refine W.fsw l.wf b5 rfl rfl (cells_p hm.isCell) fun H4 f4 b5 => ?_
  have b6 := b6.bk f4 (by decide)
  have hm := hm.bkL f4 (by decide) (by decide)
  have ha := ha.bkI f4 (by decide)
  have hb := hb.bkL f4 (by decide) (by decide)
  have hc := hc.bkI f4 (by decide)
  refine W.fsw f4.wf b6 rfl rfl (cells_t ha.isCell hb.isCell hc.isCell) fun H5 f5 b6 => ?_
  have b5 := b5.bk f5 (by decide)
  have hm := hm.bkL f5 (by decide) (by decide)
  have ha := ha.bkI f5 (by decide)
  have hb := hb.bkL f5 (by decide) (by decide)
  have hc := hc.bkI f5 (by decide)
  have hpz : PuzA Any Any H5 (.agg [i64 p.points, .str p.names, mv]) p := ⟨mv, rfl, hm, h64, hnl⟩
  have ht : TblA Any Any H5 (.agg [a, b, c]) t := ⟨a, b, c, rfl, ha, hb, hc⟩
  have b6 := b6.mono (P' := (· < H5.next)) fun id hid _ => hid
  simp only [↓wr_ld3 b5, ↓wr_ld3 b6]
  refine W.bnd (c_IsCorrectTable (p := p) (t := t) f5.wf hpz ht fun H6 l6 => ?_)
  have b5 := b5.le l6
  have b6 := b6.le l6
  have hpz := hpz.le l6
  have ht := ht.le l6
  have ha := ha.leI l6
  simp only [↓wr_ld3 b5, ↓wr_fadd b6, ↓wr_f0 b6]
  -- the comparison at the end
  have fin : ∀ (Hk : AHeap) (q : Prop) [Decidable q], (Correct p t ↔ q) → W (bnd (aeq .bool false (.bool (decide (Correct p t))) (.bool (decide q))) fun x57 => ret x57) Hk fun r _ => r = .bool true := by
    intro Hk q _ hq
    simp only [aeq_bb, ↓wr_ret, hq]
    exact W.ret (by simp)
  refine W.bnd (c_BuildTable (p := p) l6.wf hpz ha (fun H7 l7 hno => ?_) fun a' b' c' H7 L D n1 n2 l7 htr hf hn1 hn2 ha' hb' hc' => ?_)
  · have b6 := b6.le l7
    simp only [↓wr_ret, ↓wr_gd_tt, ↓wr_gd_ff, ↓wr_gd_tf, ↓wr_gd_ft, ↓wr_gd_s, ↓wr_pick_t, ↓wr_pick_f, ↓wr_br_t, ↓wr_br_f, ↓wr_bbr_t, ↓wr_bbr_f, ↓wr_lss, ↓wr_leq, ↓wr_gtr, ↓wr_geq, ↓wr_eql, ↓wr_neq, ↓wr_not, ↓wr_cv, ↓wr_extr0, ↓wr_extr1, ↓wr_extr2, ↓wr_lenT, ↓wr_getH, gx0, gx1, gx2, gx3, ife_e, ife_n, ife_r, ife_re, ife_ne', ife_nr, ife_en, ife_rn, ife_er, decide_true, decide_false, Bool.not_true, Bool.not_false]
    refine W.alloc l7.wf fun x16 H8 l8 b16 => ?_
    have b6 := b6.le l8
    refine W.fsw l8.wf b16 rfl rfl rfl fun H9 f9 b16 => ?_
    simp only [↓wr_ret, ↓wr_gd_tt, ↓wr_gd_ff, ↓wr_gd_tf, ↓wr_gd_ft, ↓wr_gd_s, ↓wr_pick_t, ↓wr_pick_f, ↓wr_br_t, ↓wr_br_f, ↓wr_bbr_t, ↓wr_bbr_f, ↓wr_lss, ↓wr_leq, ↓wr_gtr, ↓wr_geq, ↓wr_eql, ↓wr_neq, ↓wr_not, ↓wr_cv, ↓wr_extr0, ↓wr_extr1, ↓wr_extr2, ↓wr_lenT, ↓wr_getH, gx0, gx1, gx2, gx3, ife_e, ife_n, ife_r, ife_re, ife_ne', ife_nr, ife_en, ife_rn, ife_er, decide_true, decide_false, Bool.not_true, Bool.not_false]
    have hnc : ¬Correct p t := fun h => by
      obtain ⟨L, D, hf⟩ := hno h.tracked
      exact h.notMany hf
    -- the loop ends at once
    have lp : ∀ (body : List AVal → AM (Ex × List AVal)) (g : Ex × List AVal → AM AVal) (Q : AVal → AHeap → Prop), body [.bool false, i64 0] H9 = some ((.exit 0, [.bool false]), H9) → W (g (.exit 0, [.bool false])) H9 Q → W (bnd (loopL body [.bool false, i64 0]) g) H9 Q := by
      intro body g Q h1 h2
      exact W.e (loopL_end h1 (by simp)) h2
    refine lp _ _ _ (eq_of_W fun Q k => ?_) ?_
    · have e1 : lenA .nilS = ret (i64 0) := rfl
      simp only [↓wr_fadd b16, ↓wr_f1 b16, ↓wr_p e1, ↓wr_ret, ↓wr_gd_tt, ↓wr_gd_ff, ↓wr_gd_tf, ↓wr_gd_ft, ↓wr_gd_s, ↓wr_pick_t, ↓wr_pick_f, ↓wr_br_t, ↓wr_br_f, ↓wr_bbr_t, ↓wr_bbr_f, ↓wr_lss, ↓wr_leq, ↓wr_gtr, ↓wr_geq, ↓wr_eql, ↓wr_neq, ↓wr_not, ↓wr_cv, ↓wr_extr0, ↓wr_extr1, ↓wr_extr2, ↓wr_lenT, ↓wr_getH, gx0, gx1, gx2, gx3, ife_e, ife_n, ife_r, ife_re, ife_ne', ife_nr, ife_en, ife_rn, ife_er, decide_true, decide_false, Bool.not_true, Bool.not_false, Int.lt_irrefl]
      exact W.ret k
    · simp only [↓wr_ret, ↓wr_gd_tt, ↓wr_gd_ff, ↓wr_gd_tf, ↓wr_gd_ft, ↓wr_gd_s, ↓wr_pick_t, ↓wr_pick_f, ↓wr_br_t, ↓wr_br_f, ↓wr_bbr_t, ↓wr_bbr_f, ↓wr_lss, ↓wr_leq, ↓wr_gtr, ↓wr_geq, ↓wr_eql, ↓wr_neq, ↓wr_not, ↓wr_cv, ↓wr_extr0, ↓wr_extr1, ↓wr_extr2, ↓wr_lenT, ↓wr_getH, gx0, gx1, gx2, gx3, ife_e, ife_n, ife_r, ife_re, ife_ne', ife_nr, ife_en, ife_rn, ife_er, decide_true, decide_false, Bool.not_true, Bool.not_false]
      have := fin H9 False ⟨hnc, False.elim⟩
      simpa only [decide_false] using this
  · have hpz := hpz.le l7
    have ht := ht.le l7
    have b6 := b6.le l7
    simp only [↓wr_ret, ↓wr_gd_tt, ↓wr_gd_ff, ↓wr_gd_tf, ↓wr_gd_ft, ↓wr_gd_s, ↓wr_pick_t, ↓wr_pick_f, ↓wr_br_t, ↓wr_br_f, ↓wr_bbr_t, ↓wr_bbr_f, ↓wr_lss, ↓wr_leq, ↓wr_gtr, ↓wr_geq, ↓wr_eql, ↓wr_neq, ↓wr_not, ↓wr_cv, ↓wr_extr0, ↓wr_extr1, ↓wr_extr2, ↓wr_lenT, ↓wr_getH, gx0, gx1, gx2, gx3, ife_e, ife_n, ife_r, ife_re, ife_ne', ife_nr, ife_en, ife_rn, ife_er, decide_true, decide_false, Bool.not_true, Bool.not_false]
    refine W.alloc l7.wf fun x16 H8 l8 b16 => ?_
    have b6 := b6.le l8
    have ht := ht.le l8
    have n58 : H5.next ≤ H7.next := Nat.le_trans l6.nx l7.nx
    refine W.fsw l8.wf b16 rfl rfl (cells_t ha'.isCell hb'.isCell hc'.isCell) fun H9 f9 b16 => ?_
    have b6 := b6.ap f9 fun id h1 h2 => by
      have : id < H5.next := h1
      have : H7.next ≤ id := h2
      omega
    have hb' := (hb'.leL l8).bkL f9 (by decide) (by decide)
    have hc' := (hc'.leI l8).bkI f9 (by decide)
    have ht : TblA Any Any H9 (.agg [a, b, c]) t := by
      obtain ⟨a0, b0, c0, he, q1, q2, q3⟩ := ht
      simp only [AVal.agg.injEq, List.cons.injEq, and_true] at he
      obtain ⟨rfl, rfl, rfl⟩ := he
      exact ⟨a, b, c, rfl, q1.bkI f9 (by decide), q2.bkL f9 (by decide) (by decide), q3.bkI f9 (by decide)⟩
    have hbt : Lists .ro Any Any H9 b t.patterns := by
      obtain ⟨a0, b0, c0, he, q1, q2, q3⟩ := ht
      simp only [AVal.agg.injEq, List.cons.injEq, and_true] at he
      obtain ⟨rfl, rfl, rfl⟩ := he
      exact q2
    have hat : Ints .ro Any H9 a t.tracked := by
      obtain ⟨a0, b0, c0, he, q1, q2, q3⟩ := ht
      simp only [AVal.agg.injEq, List.cons.injEq, and_true] at he
      obtain ⟨rfl, rfl, rfl⟩ := he
      exact q1
    simp only [↓wr_ret, ↓wr_gd_tt, ↓wr_gd_ff, ↓wr_gd_tf, ↓wr_gd_ft, ↓wr_gd_s, ↓wr_pick_t, ↓wr_pick_f, ↓wr_br_t, ↓wr_br_f, ↓wr_bbr_t, ↓wr_bbr_f, ↓wr_lss, ↓wr_leq, ↓wr_gtr, ↓wr_geq, ↓wr_eql, ↓wr_neq, ↓wr_not, ↓wr_cv, ↓wr_extr0, ↓wr_extr1, ↓wr_extr2, ↓wr_lenT, ↓wr_getH, gx0, gx1, gx2, gx3, ife_e, ife_n, ife_r, ife_re, ife_ne', ife_nr, ife_en, ife_rn, ife_er, decide_true, decide_false, Bool.not_true, Bool.not_false, ↓wr_fadd b16, ↓wr_fadd b6, ↓wr_f1 b16, ↓wr_f1 b6, ↓wr_len hb', ↓wr_len hbt]
    have hDL := hf.bf.len
    have hL3 := (hf.all rfl).1
    -- the loop, from a state of the flag
    have lp : ∀ (q : Prop) [Decidable q] (Hk : AHeap), (Correct p t ↔ q ∧ ∀ i, i < L.length → lookup t (L.getD i []) = D.getD i 0) → Le H9 Hk → W (bnd (loopL (fun s36 =>
 bnd (fadd 1 x16) fun x37 =>
 bnd (ld1 x37) fun x38 =>
 bnd (lenA x38) fun x39 =>
 bnd (abin .lss (gx s36 1) x39) fun x40 =>
 bnd (gd x40 true (ret (gx s36 0))) fun x41 =>
 bnd (pick3 x40 x41 (.bool false)) fun x42 =>
 br x42
 (bnd (ldn 3 x6) fun x43 =>
 bnd (fadd 1 x16) fun x44 =>
 bnd (ld1 x44) fun x45 =>
 bnd (ixa 1 x45 (gx s36 1)) fun x46 =>
 bnd (ld1 x46) fun x47 =>
 bnd getH fun h48 =>
 bnd (s_sp_TableLookup x43 x47) fun x49 =>
 bnd (fadd 2 x16) fun x50 =>
 bnd (ld1 x50) fun x51 =>
 bnd (agn (ld1 x50) x51 [h48]) fun _ =>
 bnd (ixa 1 x51 (gx s36 1)) fun x52 =>
 bnd (ld1 x52) fun x53 =>
 bnd (agn (ld1 x52) x53 [h48]) fun _ =>
 bnd (abin .eql x49 x53) fun x54 =>
 bnd (abin .add (gx s36 1) (.int .i64 1)) fun x55 =>
 rx .normal [x54, x55])
 (rx (.exit 0) [gx s36 0])) [.bool (decide q), .int .i64 0]) fun r56 =>
 ife r56.1 (.exit 0) (bnd (aeq .bool false (.bool (decide (Correct p t))) (gx r56.2 0)) fun x57 =>
 ret x57) (fail)) Hk fun r _ => r = .bool true := by
      intro q _ Hk hq lk
      refine W.lq (fun m st Hm => Le H9 Hm ∧ ∃ (i : Nat) (w : Bool), m = L.length - i ∧ i ≤ L.length ∧ st = [.bool w, i64 (i : Int)] ∧ (Correct p t ↔ (w = true ∧ ∀ k, i ≤ k → k < L.length → lookup t (L.getD k []) = D.getD k 0)))
        (fun rr Hm => ∃ w : Bool, rr = (.exit 0, [.bool w]) ∧ (Correct p t ↔ w = true)) L.length ⟨lk, 0, decide q, rfl, Nat.zero_le _, rfl, ?_⟩ ?_ ?_
      · rw [hq]; simp
      · rintro m st Hm ⟨lm, i, w, rfl, hi, rfl, hw⟩ Q' kn kx
        have b16 := b16.le lm
        have b6 := b6.le lm
        have hb' := hb'.leL lm
        have hc' := hc'.leI lm
        by_cases hlt : i < L.length
        · have hlt' : (i : Int) < L.length := by omega
          cases w with
          | false =>
            simp only [↓wr_ret, ↓wr_gd_tt, ↓wr_gd_ff, ↓wr_gd_tf, ↓wr_gd_ft, ↓wr_gd_s, ↓wr_pick_t, ↓wr_pick_f, ↓wr_br_t, ↓wr_br_f, ↓wr_bbr_t, ↓wr_bbr_f, ↓wr_lss, ↓wr_leq, ↓wr_gtr, ↓wr_geq, ↓wr_eql, ↓wr_neq, ↓wr_not, ↓wr_cv, ↓wr_extr0, ↓wr_extr1, ↓wr_extr2, ↓wr_lenT, ↓wr_getH, gx0, gx1, gx2, gx3, ife_e, ife_n, ife_r, ife_re, ife_ne', ife_nr, ife_en, ife_rn, ife_er, decide_true, decide_false, Bool.not_true, Bool.not_false, ↓wr_fadd b16, ↓wr_f1 b16, ↓wr_len hb', hlt']
            exact W.ret (kx _ _ _ (by simp) ⟨false, rfl, by rw [hw]; simp⟩)
          | true =>
            have hiD : i < D.length := by omega
            obtain ⟨z, hz, hzL, _⟩ := hb'.ld1 hlt
            simp only [↓wr_ret, ↓wr_gd_tt, ↓wr_gd_ff, ↓wr_gd_tf, ↓wr_gd_ft, ↓wr_gd_s, ↓wr_pick_t, ↓wr_pick_f, ↓wr_br_t, ↓wr_br_f, ↓wr_bbr_t, ↓wr_bbr_f, ↓wr_lss, ↓wr_leq, ↓wr_gtr, ↓wr_geq, ↓wr_eql, ↓wr_neq, ↓wr_not, ↓wr_cv, ↓wr_extr0, ↓wr_extr1, ↓wr_extr2, ↓wr_lenT, ↓wr_getH, gx0, gx1, gx2, gx3, ife_e, ife_n, ife_r, ife_re, ife_ne', ife_nr, ife_en, ife_rn, ife_er, decide_true, decide_false, Bool.not_true, Bool.not_false, ↓wr_fadd b16, ↓wr_f1 b16, ↓wr_len hb', hlt', ↓wr_ld3 b6, ↓wr_ix hb' hlt, ↓wr_e hz]
            refine W.bnd (c_TableLookup (t := t) lm.wf (ht.le lm) hzL fun Hn ln => ?_)
            have b16n := b16.le ln
            have hcn := hc'.leI ln
            simp only [↓wr_fadd b16n, ↓wr_f2 b16n]
            refine W.agn1 (b16.ld1 rfl) ?_
            simp only [↓wr_ix hcn hiD, ↓wr_ldI hcn hiD]
            refine W.agn1 (seqI_ld hc' hiD) ?_
            simp only [↓wr_ret, ↓wr_gd_tt, ↓wr_gd_ff, ↓wr_gd_tf, ↓wr_gd_ft, ↓wr_gd_s, ↓wr_pick_t, ↓wr_pick_f, ↓wr_br_t, ↓wr_br_f, ↓wr_bbr_t, ↓wr_bbr_f, ↓wr_lss, ↓wr_leq, ↓wr_gtr, ↓wr_geq, ↓wr_eql, ↓wr_neq, ↓wr_not, ↓wr_cv, ↓wr_extr0, ↓wr_extr1, ↓wr_extr2, ↓wr_lenT, ↓wr_getH, gx0, gx1, gx2, gx3, ife_e, ife_n, ife_r, ife_re, ife_ne', ife_nr, ife_en, ife_rn, ife_er, decide_true, decide_false, Bool.not_true, Bool.not_false]
            rw [wr_inc (by omega)]
            refine W.ret (kn (L.length - (i + 1)) _ _ (by omega) ⟨lm.tr ln, i + 1, _, rfl, hlt, rfl, ?_⟩)
            rw [hw]
            simp only [decide_eq_true_eq, true_and]
            constructor
            · intro h
              refine ⟨?_, fun k hk hkl => h k (by omega) hkl⟩
              have := h i (Nat.le_refl _) hlt
              rwa [getD_get hlt, getD_get hiD] at this
            · rintro ⟨h1, h2⟩ k hk hkl
              by_cases hki : k = i
              · subst hki; rw [getD_get hlt, getD_get hiD]; exact h1
              · exact h2 k (by omega) hkl
        · have hlt' : ¬(i : Int) < L.length := by omega
          simp only [↓wr_ret, ↓wr_gd_tt, ↓wr_gd_ff, ↓wr_gd_tf, ↓wr_gd_ft, ↓wr_gd_s, ↓wr_pick_t, ↓wr_pick_f, ↓wr_br_t, ↓wr_br_f, ↓wr_bbr_t, ↓wr_bbr_f, ↓wr_lss, ↓wr_leq, ↓wr_gtr, ↓wr_geq, ↓wr_eql, ↓wr_neq, ↓wr_not, ↓wr_cv, ↓wr_extr0, ↓wr_extr1, ↓wr_extr2, ↓wr_lenT, ↓wr_getH, gx0, gx1, gx2, gx3, ife_e, ife_n, ife_r, ife_re, ife_ne', ife_nr, ife_en, ife_rn, ife_er, decide_true, decide_false, Bool.not_true, Bool.not_false, ↓wr_fadd b16, ↓wr_f1 b16, ↓wr_len hb', hlt']
          refine W.ret (kx _ _ _ (by simp) ⟨w, rfl, ?_⟩)
          rw [hw]
          exact ⟨fun h => h.1, fun h => ⟨h, fun k h1 h2 => by omega⟩⟩
      · rintro rr Hm ⟨w, rfl, hw⟩
        simp only [↓wr_ret, ↓wr_gd_tt, ↓wr_gd_ff, ↓wr_gd_tf, ↓wr_gd_ft, ↓wr_gd_s, ↓wr_pick_t, ↓wr_pick_f, ↓wr_br_t, ↓wr_br_f, ↓wr_bbr_t, ↓wr_bbr_f, ↓wr_lss, ↓wr_leq, ↓wr_gtr, ↓wr_geq, ↓wr_eql, ↓wr_neq, ↓wr_not, ↓wr_cv, ↓wr_extr0, ↓wr_extr1, ↓wr_extr2, ↓wr_lenT, ↓wr_getH, gx0, gx1, gx2, gx3, ife_e, ife_n, ife_r, ife_re, ife_ne', ife_nr, ife_en, ife_rn, ife_er, decide_true, decide_false, Bool.not_true, Bool.not_false]
        have := fin Hm (w = true) hw
        simpa only [Bool.decide_eq_true] using this
    have hcs : Correct p t ↔ Same t L D := ⟨fun h => correct_same h hf, fun h => same_correct htr hf h⟩
    by_cases q1 : (L.length : Int) = t.patterns.length
    · simp only [q1, ↓wr_ret, ↓wr_gd_tt, ↓wr_gd_ff, ↓wr_gd_tf, ↓wr_gd_ft, ↓wr_gd_s, ↓wr_pick_t, ↓wr_pick_f, ↓wr_br_t, ↓wr_br_f, ↓wr_bbr_t, ↓wr_bbr_f, ↓wr_lss, ↓wr_leq, ↓wr_gtr, ↓wr_geq, ↓wr_eql, ↓wr_neq, ↓wr_not, ↓wr_cv, ↓wr_extr0, ↓wr_extr1, ↓wr_extr2, ↓wr_lenT, ↓wr_getH, gx0, gx1, gx2, gx3, ife_e, ife_n, ife_r, ife_re, ife_ne', ife_nr, ife_en, ife_rn, ife_er, decide_true, decide_false, Bool.not_true, Bool.not_false, ↓wr_ld3 b6]
      refine W.bnd (c_spIsWellFormedTable f9.wf ht fun Ha la => ?_)
      have b6a := b6.le la
      by_cases q2 : WFT t
      · have h0 : 0 < t.patterns.length := by have := q2.2.1.1; omega
        have hbta := hbt.leL la
        have hata := hat.leI la
        obtain ⟨z, hz, hzL, _⟩ := hbta.ld1 h0
        have hix : ixa 1 b (.int .i64 0) = ret (elemP b 0) := hbta.ixa h0
        simp only [q2, ↓wr_ret, ↓wr_gd_tt, ↓wr_gd_ff, ↓wr_gd_tf, ↓wr_gd_ft, ↓wr_gd_s, ↓wr_pick_t, ↓wr_pick_f, ↓wr_br_t, ↓wr_br_f, ↓wr_bbr_t, ↓wr_bbr_f, ↓wr_lss, ↓wr_leq, ↓wr_gtr, ↓wr_geq, ↓wr_eql, ↓wr_neq, ↓wr_not, ↓wr_cv, ↓wr_extr0, ↓wr_extr1, ↓wr_extr2, ↓wr_lenT, ↓wr_getH, gx0, gx1, gx2, gx3, ife_e, ife_n, ife_r, ife_re, ife_ne', ife_nr, ife_en, ife_rn, ife_er, decide_true, decide_false, Bool.not_true, Bool.not_false, ↓wr_fadd b6a, ↓wr_f1 b6a, ↓wr_p hix, ↓wr_e hz, ↓wr_f0 b6a, ↓wr_e (c_likeInts hzL hata)]
        refine lp _ Ha ?_ la
        rw [hcs, Same, getD_get h0]
        constructor
        · rintro ⟨_, _, h3, h4⟩; exact ⟨h3, h4⟩
        · rintro ⟨h3, h4⟩; exact ⟨by omega, q2, h3, h4⟩
      · simp only [q2, ↓wr_ret, ↓wr_gd_tt, ↓wr_gd_ff, ↓wr_gd_tf, ↓wr_gd_ft, ↓wr_gd_s, ↓wr_pick_t, ↓wr_pick_f, ↓wr_br_t, ↓wr_br_f, ↓wr_bbr_t, ↓wr_bbr_f, ↓wr_lss, ↓wr_leq, ↓wr_gtr, ↓wr_geq, ↓wr_eql, ↓wr_neq, ↓wr_not, ↓wr_cv, ↓wr_extr0, ↓wr_extr1, ↓wr_extr2, ↓wr_lenT, ↓wr_getH, gx0, gx1, gx2, gx3, ife_e, ife_n, ife_r, ife_re, ife_ne', ife_nr, ife_en, ife_rn, ife_er, decide_true, decide_false, Bool.not_true, Bool.not_false]
        have := lp False Ha (by
          rw [hcs, Same]
          exact ⟨fun h => absurd h.2.1 q2, fun h => h.1.elim⟩) la
        simpa only [decide_false] using this
    · simp only [q1, ↓wr_ret, ↓wr_gd_tt, ↓wr_gd_ff, ↓wr_gd_tf, ↓wr_gd_ft, ↓wr_gd_s, ↓wr_pick_t, ↓wr_pick_f, ↓wr_br_t, ↓wr_br_f, ↓wr_bbr_t, ↓wr_bbr_f, ↓wr_lss, ↓wr_leq, ↓wr_gtr, ↓wr_geq, ↓wr_eql, ↓wr_neq, ↓wr_not, ↓wr_cv, ↓wr_extr0, ↓wr_extr1, ↓wr_extr2, ↓wr_lenT, ↓wr_getH, gx0, gx1, gx2, gx3, ife_e, ife_n, ife_r, ife_re, ife_ne', ife_nr, ife_en, ife_rn, ife_er, decide_true, decide_false, Bool.not_true, Bool.not_false]
      have := lp False H9 (by
        rw [hcs, Same]
        exact ⟨fun h => absurd h.1 (by omega), fun h => h.1.elim⟩) (Le.refl f9.wf)
      simpa only [decide_false] using this
end
end Go.Am

end

section
set_option linter.unusedSimpArgs false
set_option linter.unusedVariables false
/- From a run of the abstract machine to the program: a law of one slice of bytes. -/
namespace Go.Am
open Go.ChangeShapes Go.WideShapes Go.ChangeAt Go.RowKit
section
variable {P : Program} {W : World} {a : Addr} {len cap : Nat} {zs : List Int}
/-- Bytes of numbers. -/
def byteOf (z : Int) : UInt8 := UInt8.ofNat z.toNat
theorem byteOf_toNat {z : Int} (h : 0 ≤ z ∧ z ≤ 255) : ((byteOf z).toNat : Int) = z := by
  unfold byteOf
  simp only [UInt8.toNat_ofNat']
  omega
/-- The heap of the abstract machine at a call: the argument's block alone, for reading. -/
def inHeap (c : List AVal) (fz : Nat) : AHeap := { get := fun i => if i = 0 then some (.cells c 5 fz) else none, next := 1 }
theorem inHeap_hp {c : List AVal} {fz : Nat} : Hp (inHeap c fz) := fun id h => by
  have : 1 ≤ id := h
  show (if id = 0 then _ else none) = none
  rw [if_neg (by omega)]
theorem in_rel {carr : Array Value} {E : TypeId} {fr : Nat × Nat} (hb : W.heap[a.block]? = some (.cells carr E fr)) (hspot : a.spot = none) (hl : len ≤ cap) (hz : zs.length = cap)
    (hcell : ∀ i, i < zs.length → W.cell? (a.add i) = some (.int .u8 (zs.getD i 0))) (hwz : ∀ n ∈ zs, 0 ≤ n ∧ n ≤ 255) :
    ∃ (π : PMap) (H : AHeap) (v : AVal), Hp H ∧ CodeA H v ∧ HRel π H W ∧ Am.Rel π W v (.slice (some a) len cap) ∧ ∀ b, ¬Wr H π b := by
  obtain ⟨b, off, spot⟩ := a
  simp only at hspot
  subst hspot
  have hlt : b < W.heap.size := (Array.getElem?_eq_some_iff.1 hb).1
  have hcell' : ∀ i, i < zs.length → carr[off + i]? = some (.int .u8 (zs.getD i 0)) := fun i hi => by
    have := hcell i hi
    rw [add_plain, cell_at hb] at this
    exact this
  have hroom : zs.length ≠ 0 → off + zs.length ≤ carr.size := fun h => by
    have := hcell' (zs.length - 1) (by omega)
    have := (Array.getElem?_eq_some_iff.1 this).1
    omega
  let d := if cap = 0 then 0 else off
  let fz := carr.size + zs.length + 1
  let c : List AVal := zs.map fun z => .int .u8 z
  let H := inHeap c fz
  let π : PMap := fun i => if i = 0 then some (b, d) else none
  have hd : zs.length ≠ 0 → d = off := fun h => by
    show (if cap = 0 then 0 else off) = off
    rw [if_neg (by omega)]
  have hdc : d + c.length ≤ carr.size := by
    show d + (zs.map fun z => AVal.int .u8 z).length ≤ carr.size
    rw [List.length_map]
    by_cases h0 : zs.length = 0
    · have : d = 0 := if_pos (by omega)
      omega
    · rw [hd h0]; exact hroom h0
  refine ⟨π, H, .slice 0 0 len 1, inHeap_hp, ?_, ⟨?_, ?_, ?_, ?_, ?_⟩, ?_, ?_⟩
  · by_cases hbig : 4096 < len
    · exact .inl ⟨0, 0, len, rfl, hbig⟩
    · refine .inr ⟨(zs.take len).map byteOf, ?_, by simp; omega⟩
      have hlen : ((zs.take len).map byteOf).length = len := by simp; omega
      have := Seq.mk (R := RB) (m := .ro) (P := (· < H.next)) (e := 5) (H := H) 0 0 fz c ((zs.take len).map byteOf) (show (0 : Nat) < 1 by omega) (show (0 : Nat) < 1 by omega) rfl (by rw [hlen]; show 0 + len ≤ (zs.map fun z => AVal.int .u8 z).length; rw [List.length_map]; omega) (by rw [hlen]; unfold maxLenA; omega) trivial (fun i hi => by
        rw [hlen] at hi
        have hiz : i < zs.length := by omega
        refine ⟨.int .u8 zs[i], ?_, rfl, ?_⟩
        · show (zs.map fun z => AVal.int .u8 z)[0 + i]? = _
          simp [hiz]
        · show AVal.int .u8 zs[i] = _
          simp only [List.getElem_map, List.getElem_take]
          rw [byteOf_toNat (hwz _ (List.getElem_mem hiz))])
      rw [hlen] at this
      exact this
  · intro id o ho
    have ho : (if id = 0 then some (AObj.cells c 5 fz) else none) = some o := ho
    by_cases h0 : id = 0
    · subst h0
      simp only [if_true, Option.some.injEq] at ho
      subst ho
      refine ⟨b, d, rfl, carr, fr, ⟨E, hb, fun h => ?_⟩, hdc, fun i x hx => ?_, fun i hi hlt' => ?_⟩
      · have : fz ≤ (zs.map fun z => AVal.int .u8 z).length := h
        rw [List.length_map] at this
        show _
        exact absurd this (by show ¬carr.size + zs.length + 1 ≤ zs.length; omega)
      · have hx : (zs.map fun z => AVal.int .u8 z)[i]? = some x := hx
        rw [List.getElem?_map] at hx
        have hiz : i < zs.length := by
          rcases Nat.lt_or_ge i zs.length with h | h
          · exact h
          · rw [List.getElem?_eq_none h] at hx; cases hx
        rw [List.getElem?_eq_getElem hiz, Option.map_some, Option.some.injEq] at hx
        subst hx
        refine ⟨.int .u8 (zs.getD i 0), ?_, ?_⟩
        · rw [hd (by omega)]; exact hcell' i hiz
        · rw [getD_get hiz]; rfl
      · exact absurd hi (by show ¬d + (carr.size + zs.length + 1) ≤ i; omega)
    · rw [if_neg h0] at ho; cases ho
  · intro id id' o o' b1 d1 d2 ho ho' _ _ _ _
    have ho : (if id = 0 then some (AObj.cells c 5 fz) else none) = some o := ho
    have ho' : (if id' = 0 then some (AObj.cells c 5 fz) else none) = some o' := ho'
    by_cases h0 : id = 0
    · by_cases h1 : id' = 0
      · rw [h0, h1]
      · rw [if_neg h1] at ho'; cases ho'
    · rw [if_neg h0] at ho; cases ho
  · exact fun id h => inHeap_hp id h
  · intro id h
    have h : (if id = 0 then some (AObj.cells c 5 fz) else none) = none := h
    by_cases h0 : id = 0
    · rw [if_pos h0] at h; cases h
    · show (if id = 0 then some (b, d) else none) = none
      rw [if_neg h0]
  · intro id b1 d1 h
    have h : (if id = 0 then some (b, d) else none) = some (b1, d1) := h
    by_cases h0 : id = 0
    · rw [if_pos h0] at h; cases h; exact hlt
    · rw [if_neg h0] at h; cases h
  · simp only [Am.Rel]
    refine ⟨b, d, off, cap, rfl, rfl, hl, fun hc => ⟨by rw [hd (by omega)]; omega, carr, E, fr, hb, ?_⟩⟩
    have := hroom (by omega)
    rw [hd (by omega)]; omega
  · rintro b1 ⟨id, d1, o, h1, h2, h3⟩
    have h2 : (if id = 0 then some (AObj.cells c 5 fz) else none) = some o := h2
    by_cases h0 : id = 0
    · rw [if_pos h0, Option.some.injEq] at h2
      subst h2
      have h3 : decide (fz ≤ (zs.map fun z => AVal.int .u8 z).length) = true := h3
      rw [List.length_map, decide_eq_true_eq] at h3
      exact absurd h3 (by show ¬carr.size + zs.length + 1 ≤ zs.length; omega)
    · rw [if_neg h0] at h2; cases h2
/-- What the run of a law leaves of the world. -/
structure Left1 (W W' : World) : Prop where
  os : W'.os = W.os
  output : W'.output = W.output
  heap : ∀ b : Nat, b < W.heap.size → W'.heap[b]? = W.heap[b]?
theorem Left1.kept {W' : World} (h : Left1 W W') (may : MemPlace → Prop) : W.keptBut W' may := by
  refine ⟨h.os, h.output, fun i hi => ?_⟩
  rw [h.heap i hi]
  split
  · rename_i c t fr c' t' fr' h1 h2
    rw [h1] at h2; cases h2
    exact ⟨rfl, rfl, rfl, fun _ _ => rfl⟩
  · rename_i h1 h2
    rw [h1] at h2; cases h2
    exact .inr ⟨rfl, rfl⟩
  · rfl
/-- A law that is true wherever it is run. -/
def LawTrue (F : AVal → AM AVal) : Prop := ∀ (H : AHeap) (v : AVal), Hp H → CodeA H v → Am.W (F v) H fun r _ => r = .bool true
theorem law_calls {f : FuncId} {F : AVal → AM AVal} (hok : FnOK P f (ap1 F)) (hF : LawTrue F) {v : Value} {π : PMap} {H : AHeap} {u : AVal} (hp : Hp H) (hc : CodeA H u) (hH : HRel π H W) (hr : Am.Rel π W u v) (hn : ∀ b, ¬Wr H π b) :
    Calls P f #[v] W fun e W' => e = .returned (.bool true) ∧ Left1 W W' := by
  obtain ⟨r, H', h1, rfl⟩ := hF H u hp hc
  refine (hok.s.sound (args := [u]) (H' := H') (v := .bool true) (show ap1 F [u] H = _ from h1) hH (RelL.cons hr RelL.nil)).mono fun e W' h => ?_
  obtain ⟨v', rfl, π', g1, g2, g3⟩ := h
  have g1 : v' = .bool true := g1
  subst g1
  exact ⟨rfl, g3.os, g3.output, fun b hb => (g3.fr b hb (hn b)).1⟩
theorem nil_rel : ∃ (π : PMap) (H : AHeap) (v : AVal), Hp H ∧ CodeA H v ∧ HRel π H W ∧ Am.Rel π W v (.slice none 0 0) ∧ ∀ b, ¬Wr H π b :=
  ⟨fun _ => none, { get := fun _ => none, next := 0 }, .nilS, fun _ _ => rfl, .inr ⟨[], .nil, by simp⟩, ⟨fun _ _ h => (by cases h), fun _ _ _ _ _ _ _ h => (by cases h), fun _ _ => rfl, fun _ _ => rfl, fun _ _ _ h => (by cases h)⟩, rfl, fun b ⟨_, _, _, h, _⟩ => (by cases h)⟩
/-- The conclusion of a row, where nothing that was there has turned. -/
theorem post_left {H : Type} {enc : TypeId × Value → H} {f : Func} {s : ChangeSpec} {apart fresh handsOn again : Bool} {W' : World} {args : Array Value} {v : Value} {ds gs : List (DataW H)} {before pa pv : List MemPlace}
    (hW : DataW.Whole enc P f.params.toList s.vars apart W args.toList ds gs before)
    (hres : ∀ (b : Nat) (sp : Nat → Bool) (hd : Bool), DataW.TrodAll enc P W' b sp hd f.resultTypes.toList (v.resultList f.resultTypes.size) (s.fn H (ds ++ gs)).results [])
    (hargs : ∀ sp : Nat → Bool, (∀ p ∈ before, sp p.block = true) → DataW.TrodAll enc P W' 0 sp true f.params.toList args.toList (s.fn H (ds ++ gs)).args pa)
    (hvars : ∀ sp : Nat → Bool, (∀ p ∈ before, sp p.block = true) → DataW.TrodVars enc P W' sp s.vars (s.fn H (ds ++ gs)).vars pv)
    (hps : before = pa ++ pv) (hk : Left1 W W')
    (hok : ∀ (j : Nat) (t : TypeId) (r : Value), f.resultTypes[j]? = some t → (v.resultList f.resultTypes.size)[j]? = some r → Value.okWide P W' .any 0 t r) :
    s.post enc P f apart fresh handsOn again W args v W' := by
  have hlt := hW.lt
  have hold : ∀ p ∈ before, (fun b => decide (b < W.heap.size)) p.block = true := fun p hp => by simpa using hlt p hp
  refine ⟨ds, gs, before, [], pa, pv, hW, hres _ _ _, hargs _ hold, hvars _ hold, World.keptBut_mono (fun p hp => ⟨hp, ?_⟩) (hk.kept (· ∈ before)), fun _ => ?_⟩
  · rw [hps, List.mem_append] at hp
    exact Or.inr hp
  · obtain ⟨_, _, _, _, _, hz, hn⟩ := hW
    refine ⟨hok, _, _, ([] ++ pa) ++ pv, ⟨[] ++ pa, pv, trodAll_append (hargs _ (fun _ _ => rfl)) (hres _ _ _), hvars _ (fun _ _ => rfl), rfl, ?_, ?_⟩, ?_⟩
    · intro b off hp
      have hb : (MemPlace.cell b off) ∈ before := by rw [hps]; simpa using hp
      have h1 := hz b off hb
      have h2 := hk.heap b (hlt _ hb)
      unfold World.frozen? at h1 ⊢
      show (match W'.heap[b]? with | some (.cells _ _ (lo, hi)) => decide (lo ≤ off) && decide (off < hi) | _ => false) = false
      rw [h2]; exact h1
    · intro ha
      have := hn ha
      rw [hps] at this
      simpa using this
    · intro p hp _
      rw [hps]
      simpa using hp
/-- A law of one slice of bytes that answers one bool: true, and the argument reads as it did. -/
theorem law_lifted {C : Checked} {os : Os} {f : FuncId} {fn : Func} {F : AVal → AM AVal} {H : Type} {enc : TypeId × Value → H} {s : ChangeSpec} {conds : List PathCond} {fresh handsOn again : Bool} {tS tb tB : TypeId}
    (own : ownKnob C.prog.godebug = none) (started : os.Started) (noInit : C.prog.inits.idxOf? f = none) (hfn : C.prog.funcs[f]? = some fn)
    (witness : ∃ (w : World) (tape : Tape) (i : Input), w.os = os ∧ (w.forCall tape i).Shaped C.prog ∧ i.vars = [] ∧ Input.okWide C.prog (w.forCall tape i) .any w.heap.size f i ∧
      s.pre6 enc C.prog fn conds false (w.forCall tape i).memory i.args ∧ Assume.holds {} C.prog (lone (Frame.enter C.prog f i.args .normal) [] (w.forCall tape i)))
    (hpar : fn.params.toList = [tS]) (hvs : s.vars = []) (huS : C.prog.underlying tS = some (.slice tb)) (hub : C.prog.underlying tb = some (.int .u8)) (hcb : C.prog.cellsOf tb = 1)
    (hres : fn.resultTypes = #[tB]) (huB : C.prog.underlying tB = some .bool) (hspec : ∀ d, s.fn H [d] = { results := [.lit (.bool true)], args := [d] })
    (hok : FnOK C.prog f (ap1 F)) (hF : LawTrue F) : ReturnsInHanded {} C os f .any (s.pre6 enc C.prog fn conds false) (s.post enc C.prog fn false fresh handsOn again) := by
  refine returnsInHanded_of_change own started noInit hfn witness ?_
  intro W base args ds gs before hval hW _ _
  have hW' := hW
  obtain ⟨p, q, hA, hV, rfl, _, _⟩ := hW
  rw [hpar] at hA
  obtain ⟨v0, d0, rfl, rfl, h0⟩ := trodAll_one hA
  rw [hvs] at hV
  obtain ⟨rfl, rfl⟩ := trodVars_none hV
  have hp0 : fn.params[0]? = some tS := by
    rw [← Array.getElem?_toList, hpar]; rfl
  have hv0 := hval 0 tS v0 hp0 rfl
  obtain ⟨a0, len, cap, rfl⟩ := okWide_slice huS hv0
  obtain ⟨fuel, hf⟩ := h0
  simp only [List.append_nil] at hW'
  have e1 : s.fn H ([d0] ++ []) = { results := [.lit (.bool true)], args := [d0] } := hspec d0
  have hr1 : ∀ (W' : World) (b : Nat) (sp : Nat → Bool) (hd : Bool), DataW.TrodAll enc C.prog W' b sp hd fn.resultTypes.toList ((Value.bool true).resultList fn.resultTypes.size) [.lit (.bool true)] [] := by
    intro W' b sp hd
    rw [hres]
    exact trodAll_mk1 (shut_bool huB true)
  have hok1 : ∀ (W' : World) (j : Nat) (t : TypeId) (r : Value), fn.resultTypes[j]? = some t → ((Value.bool true).resultList fn.resultTypes.size)[j]? = some r → Value.okWide C.prog W' .any 0 t r :=
    fun W' => ok_one hres rfl (okWide_bool_mk huB true)
  rcases open_ints huS hub hcb hf with ⟨hcs, hx⟩ | ⟨a, len', cap', zs, hcs, _, hl, hm, hz, hx, hcell, hwz⟩
  · simp [Value.cells] at hcs
    obtain ⟨rfl, rfl, rfl⟩ := hcs
    simp only [Prod.mk.injEq] at hx
    obtain ⟨rfl, rfl⟩ := hx
    obtain ⟨π, H0, u, q1, q2, q3, q4, q5⟩ := nil_rel (W := W)
    refine (law_calls hok hF q1 q2 q3 q4 q5).mono fun e W' ⟨he, hw⟩ => ?_
    subst he
    refine ⟨_, rfl, post_left (pa := []) (pv := []) hW' (fun b sp hd => by rw [e1]; exact hr1 W' b sp hd) (fun sp _ => ?_) (fun _ _ => ?_) rfl hw (hok1 W')⟩
    · rw [e1, hpar]; exact trodAll_mk1 (shut_slice_nil huS)
    · rw [e1, hvs]; rfl
  · simp [Value.cells] at hcs
    obtain ⟨rfl, rfl, rfl⟩ := hcs
    simp only [Prod.mk.injEq] at hx
    obtain ⟨rfl, rfl⟩ := hx
    simp only [if_true] at hz
    have hspot : a.spot = none ∧ ∃ carr E fr, W.heap[a.block]? = some (.cells carr E fr) := by
      have hh := hv0
      simp only [Value.okWide, huS, Cell.okWide, Cell.ok, World.has] at hh
      obtain ⟨_, _, _, h1, row, n, h2, _⟩ := hh
      refine ⟨h1, ?_⟩
      unfold World.shape? at h2
      split at h2
      · rename_i c e fr hb
        exact ⟨c, e, fr, hb⟩
      · cases h2
    obtain ⟨hsp, carr, E, fr, hb⟩ := hspot
    have hwz' : ∀ n ∈ zs, 0 ≤ n ∧ n ≤ 255 := fun n hn => by
      have := hwz n hn
      simp only [Lit.wf, Bool.and_eq_true, decide_eq_true_eq] at this
      exact this
    obtain ⟨π, H0, u, q1, q2, q3, q4, q5⟩ := in_rel hb hsp hl hz hcell hwz'
    refine (law_calls hok hF q1 q2 q3 q4 q5).mono fun e W' ⟨he, hw⟩ => ?_
    subst he
    have hcell' : ∀ i, i < zs.length → W'.cell? (a.add i) = some (.int .u8 (zs.getD i 0)) := fun i hi => by
      rw [← hcell i hi]
      have hlt : a.block < W.heap.size := (Array.getElem?_eq_some_iff.1 hb).1
      have hbl : (a.add i).block = a.block := block_add a i
      unfold World.cell?
      rw [hbl, hw.heap _ hlt]
    refine ⟨_, rfl, post_left (pa := MemPlace.row a zs.length) (pv := []) hW' (fun b sp hd => by rw [e1]; exact hr1 W' b sp hd) (fun sp hsp => ?_) (fun _ _ => ?_) (by simp) hw (hok1 W')⟩
    · rw [e1, hpar]
      refine trodAll_mk1 ?_
      by_cases hz0 : zs.length = 0
      · have hc0 : cap = 0 := by omega
        have hl0 : len = 0 := by omega
        subst hc0; subst hl0
        have t0 := shut_ints (enc := enc) (w := W') (base := 0) (spare := sp) (held := true) (a := a) (len := 0) (cap := 0) (zs := zs) 0 huS hub hcb (Nat.zero_le _) (Nat.le_refl _) hm (by simp [hz0]) hcell' hwz
        exact ⟨2, by simpa [Value.cells] using t0⟩
      · have hspb : sp a.block = true := hsp (.cell a.block a.off) (MemPlace.mem_row.2 ⟨0, by omega, by simp⟩)
        have t0 := shut_ints (enc := enc) (w := W') (base := 0) (spare := sp) (held := true) (a := a) (len := len) (cap := cap) (zs := zs) 0 huS hub hcb (Nat.zero_le _) hl hm (by simp [hspb, hz]) hcell' hwz
        exact ⟨2, by simpa [Value.cells] using t0⟩
    · rw [e1, hvs]; rfl
end
end Go.Am

end
