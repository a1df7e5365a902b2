/- Steps of the proof of FnAdmissibleTables: an abstract machine, its runs, and the plain law. -/
import Derived.Test.YtaacdlikhkfacaaGreatA
import Derived.IntWalk
section
set_option linter.unusedSimpArgs false
set_option linter.unusedVariables false
/- The abstract machine, part O: every order of a region that draws comes to the same. -/
namespace Go.Am
structure St where
  env : Env
  H : AHeap
def rsOf (P : Program) (base i : Nat) (o : Oper) : Option Nat :=
  match kindOf P o.op with
  | .alloc => some (base + i)
  | _ => none
section
variable (P : Program) (C : CallTab) (ops : List Oper) (bs : List Nat) (base : Nat) (cenv : Nat → Env) (vals : Nat → AVal)
def StepG (i : Nat) (s s' : St) : Prop :=
  ∃ o, ops[i]? = some o ∧ Agree ops o s.env (cenv i) ∧ execG P C ops (rsOf P base i o) s.env o s.H = some (vals i, s'.H) ∧ s'.env = putE s.env o.dst (vals i)
def RunG : List Nat → St → St → Prop
  | [], s, f => s = f
  | i :: l, s, f => ∃ s', StepG P C ops base cenv vals i s s' ∧ RunG l s' f
def CondR (j : Nat) (H : AHeap) : Prop := ∀ env o, ops[j]? = some o → Agree ops o env (cenv j) → (execG P C ops none env o H).map Prod.fst = some (vals j)
def Chk : List Nat → St → Prop
  | [], _ => True
  | i :: r, s => ((kindAt P ops i = .seq ∨ kindAt P ops i = .alloc) → ∀ j ∈ r, kindAt P ops j = .read → unord bs i j = true → CondR P C ops cenv vals j s.H) ∧ ∀ s', StepG P C ops base cenv vals i s s' → Chk r s'
def InvA (l : List Nat) (H : AHeap) : Prop := ∀ j ∈ l, kindAt P ops j = .alloc → H.get (base + j) = none ∧ base + j < H.next
end
section
variable {P : Program} {C : CallTab} {ops : List Oper} {bs : List Nat} {base : Nat} {cenv : Nat → Env} {vals : Nat → AVal}
theorem kindAt_of {i : Nat} {o : Oper} (h : ops[i]? = some o) : kindAt P ops i = kindOf P o.op := by simp [kindAt, h]
theorem opAt_of {i : Nat} {o : Oper} (h : ops[i]? = some o) : opAt ops i = o := by simp [opAt, List.getD, h]
theorem disj_single {H : AHeap} {id : Nat} {o : AObj} (h1 : H.get id = none) (h2 : id < H.next) : Disj (single id o) H := by
  intro i x hx
  simp only [single] at hx
  split at hx
  · rename_i e; subst e; exact ⟨h1, h2⟩
  · cases hx
theorem add_comm' {H : AHeap} {a b : Nat} {x y : AObj} (h : a ≠ b) : (H.add (single a x)).add (single b y) = (H.add (single b y)).add (single a x) := by
  simp only [AHeap.add, single, AHeap.mk.injEq, and_true]
  funext i
  cases H.get i with
  | some o => simp
  | none =>
    by_cases h1 : i = a
    · subst h1; simp [h]
    · by_cases h2 : i = b
      · subst h2; simp [Ne.symm h]
      · simp [h1, h2]
theorem agree_refl (o : Oper) (env : Env) : Agree ops o env env := fun _ _ => rfl
theorem Agree.symm {o : Oper} {e e' : Env} (h : Agree ops o e e') : Agree ops o e' e := fun t ht => (h t ht).symm

theorem swap (hC : CLoc C) {i j : Nat} {s s1 s2 : St} (h1 : StepG P C ops base cenv vals i s s1) (h2 : StepG P C ops base cenv vals j s1 s2)
    (hap : (opAt ops i).apart ops.toArray (opAt ops j) = true) (hal : allowed (kindAt P ops i) (kindAt P ops j) = true) (hij : i ≠ j)
    (hcond : kindAt P ops i = .seq ∨ kindAt P ops i = .alloc → kindAt P ops j = .read → CondR P C ops cenv vals j s.H) (hinv : kindAt P ops j = .alloc → s.H.get (base + j) = none ∧ base + j < s.H.next) :
    ∃ s', StepG P C ops base cenv vals j s s' ∧ StepG P C ops base cenv vals i s' s2 ∧ (kindAt P ops i = .seq ∨ kindAt P ops i = .alloc → s'.H = s.H ∨ ∃ o, s'.H = s.H.add (single (base + j) o) ∧ s.H.get (base + j) = none ∧ base + j < s.H.next) := by
  obtain ⟨oi, hoi, gi, ei, pi⟩ := h1
  obtain ⟨oj, hoj, gj, ej, pj⟩ := h2
  rw [opAt_of hoi, opAt_of hoj] at hap
  rw [kindAt_of (P := P) hoi, kindAt_of (P := P) hoj] at hal
  rw [kindAt_of (P := P) hoi, kindAt_of (P := P) hoj] at hcond
  rw [kindAt_of (P := P) hoj] at hinv
  rw [kindAt_of (P := P) hoi]
  obtain ⟨a1, a2, a3⟩ := Oper.apart_spec hap
  have gj' : Agree ops oj s.env (cenv j) := by rw [pi] at gj; exact gj.unput a1
  have cj : ∀ rs, execG P C ops rs s1.env oj = execG P C ops rs s.env oj := fun rs => by
    rw [pi]; exact execG_congr ((agree_refl oj s.env).put a1 _)
  rw [cj] at ej
  have gi' : Agree ops oi (putE s.env oj.dst (vals j)) (cenv i) := gi.put a3 _
  have ci : ∀ rs, execG P C ops rs (putE s.env oj.dst (vals j)) oi = execG P C ops rs s.env oi := fun rs => execG_congr ((agree_refl oi s.env).put a3 _)
  have key : ∃ Hj, execG P C ops (rsOf P base j oj) s.env oj s.H = some (vals j, Hj) ∧ execG P C ops (rsOf P base i oi) s.env oi Hj = some (vals i, s2.H) ∧
      (kindOf P oi.op = .seq ∨ kindOf P oi.op = .alloc → Hj = s.H ∨ ∃ o, Hj = s.H.add (single (base + j) o) ∧ s.H.get (base + j) = none ∧ base + j < s.H.next) := by
    cases hki : kindOf P oi.op with
    | pure =>
      obtain ⟨e1, gen⟩ := execG_pure hki _ _ _ ei
      rw [e1] at ej
      exact ⟨s2.H, ej, gen _, by simp⟩
    | read =>
      have e1 := execG_read hki _ _ _ ei
      have eloc := loc_execG (P := P) hC ops none s.env oi
      have hri : rsOf P base i oi = none := by simp [rsOf, hki]
      rw [hri] at ei ⊢
      cases hkj : kindOf P oj.op with
      | pure =>
        obtain ⟨e2, gen⟩ := execG_pure hkj _ _ _ ej
        exact ⟨s.H, gen _, by rw [e2]; exact ei, by simp⟩
      | read =>
        have e2 := execG_read hkj _ _ _ ej
        rw [e1] at ej e2
        exact ⟨s2.H, ej, by rw [e2]; rw [e1] at ei; exact ei, by simp⟩
      | alloc =>
        have hrj : rsOf P base j oj = some (base + j) := by simp [rsOf, hkj]
        rw [hrj] at ej ⊢
        rw [e1] at ej
        refine ⟨s2.H, ej, ?_, by simp⟩
        rcases execG_alloc hkj _ _ _ ej with ⟨e2, _⟩ | ⟨o, e2, e3, e4, _⟩
        · rw [e2]; rw [e1] at ei; exact ei
        · have := (eloc (single (base + j) o) s.H (vals i) s1.H (disj_single e3 e4) (fun id h => by cases h) ei).1
          rw [e2, this, e1]
      | seq => rw [hki, hkj] at hal; simp [allowed] at hal
    | alloc =>
      have hri : rsOf P base i oi = some (base + i) := by simp [rsOf, hki]
      rw [hri] at ei ⊢
      cases hkj : kindOf P oj.op with
      | pure =>
        obtain ⟨e2, gen⟩ := execG_pure hkj _ _ _ ej
        exact ⟨s.H, gen _, by rw [e2]; exact ei, fun _ => .inl rfl⟩
      | read =>
        have hrj : rsOf P base j oj = none := by simp [rsOf, hkj]
        rw [hrj] at ej ⊢
        have hc := hcond (.inr hki) hkj s.env oj hoj gj'
        cases hx : execG P C ops none s.env oj s.H with
        | none => simp [hx] at hc
        | some q =>
          obtain ⟨u, Hu⟩ := q
          simp only [hx, Option.map_some, Option.some.injEq] at hc
          subst hc
          have e2 := execG_read hkj _ _ _ hx
          have e3 := execG_read hkj _ _ _ ej
          exact ⟨Hu, by simp, by rw [e2, e3]; exact ei, fun _ => .inl e2⟩
      | alloc =>
        have hrj : rsOf P base j oj = some (base + j) := by simp [rsOf, hkj]
        rw [hrj] at ej ⊢
        rcases execG_alloc hki _ _ _ ei with ⟨e1, gen⟩ | ⟨o, e1, e2, e3, gen⟩
        · rw [e1] at ej
          refine ⟨s2.H, ej, gen _, fun _ => ?_⟩
          rcases execG_alloc hkj _ _ _ ej with ⟨f1, _⟩ | ⟨p, f1, f2, f3, _⟩
          · exact .inl f1
          · exact .inr ⟨p, f1, f2, f3⟩
        · rcases execG_alloc hkj _ _ _ ej with ⟨f1, gen2⟩ | ⟨p, f1, f2, f3, gen2⟩
          · exact ⟨s.H, gen2 _, by rw [f1]; exact ei, fun _ => .inl rfl⟩
          · refine ⟨_, gen2 s.H (hinv hkj).1 (hinv hkj).2, ?_, fun _ => .inr ⟨p, rfl, hinv hkj⟩⟩
            have hne : base + j ≠ base + i := by omega
            have hn : (s.H.add (single (base + j) p)).get (base + i) = none := by simp [AHeap.add, e2, single, hij]
            rw [gen _ hn e3, f1, e1, add_comm' (by omega)]
      | seq => rw [hki, hkj] at hal; simp [allowed] at hal
    | seq =>
      have hri : rsOf P base i oi = none := by simp [rsOf, hki]
      rw [hri] at ei ⊢
      have eloc := loc_execG (P := P) hC ops none s.env oi
      cases hkj : kindOf P oj.op with
      | pure =>
        obtain ⟨e2, gen⟩ := execG_pure hkj _ _ _ ej
        exact ⟨s.H, gen _, by rw [e2]; exact ei, fun _ => .inl rfl⟩
      | read =>
        have hrj : rsOf P base j oj = none := by simp [rsOf, hkj]
        rw [hrj] at ej ⊢
        have hc := hcond (.inl hki) hkj s.env oj hoj gj'
        cases hx : execG P C ops none s.env oj s.H with
        | none => simp [hx] at hc
        | some q =>
          obtain ⟨u, Hu⟩ := q
          simp only [hx, Option.map_some, Option.some.injEq] at hc
          subst hc
          have e2 := execG_read hkj _ _ _ hx
          have e3 := execG_read hkj _ _ _ ej
          exact ⟨Hu, by simp, by rw [e2, e3]; exact ei, fun _ => .inl e2⟩
      | alloc =>
        have hrj : rsOf P base j oj = some (base + j) := by simp [rsOf, hkj]
        rw [hrj] at ej ⊢
        rcases execG_alloc hkj _ _ _ ej with ⟨f1, gen2⟩ | ⟨p, f1, f2, f3, gen2⟩
        · exact ⟨s.H, gen2 _, by rw [f1]; exact ei, fun _ => .inl rfl⟩
        · refine ⟨_, gen2 s.H (hinv hkj).1 (hinv hkj).2, ?_, fun _ => .inr ⟨p, rfl, hinv hkj⟩⟩
          have := (eloc (single (base + j) p) s.H (vals i) s1.H (disj_single (hinv hkj).1 (hinv hkj).2) (fun id h => by cases h) ei).1
          rw [this, f1]
      | seq => rw [hki, hkj] at hal; simp [allowed] at hal
  obtain ⟨Hj, k1, k2, k3⟩ := key
  refine ⟨⟨putE s.env oj.dst (vals j), Hj⟩, ⟨oj, hoj, gj', k1, rfl⟩, ⟨oi, hoi, gi', by rw [ci]; exact k2, ?_⟩, k3⟩
  rw [pj, pi]
  exact putE_comm _ _ _ a2

theorem inv_step (hC : CLoc C) {i : Nat} {l : List Nat} (hi : i ∉ l) {s s' : St} (h : StepG P C ops base cenv vals i s s') (hinv : InvA P ops base l s.H) : InvA P ops base l s'.H := by
  obtain ⟨o, ho, _, e, _⟩ := h
  intro j hj hka
  obtain ⟨h1, h2⟩ := hinv j hj hka
  have hne : j ≠ i := fun e => hi (e ▸ hj)
  have hl := loc_execG (P := P) hC ops (rsOf P base i o) s.env o (single (base + j) .dead) s.H (vals i) s'.H (disj_single h1 h2) (fun id hid => by
    unfold rsOf at hid
    split at hid
    · cases hid
      simp only [single]
      rw [if_neg (by omega)]
    · cases hid) e
  have := hl.2 (base + j) .dead (by simp [single])
  exact this
theorem condR_add (hC : CLoc C) {j id : Nat} {o : AObj} {H : AHeap} (h1 : H.get id = none) (h2 : id < H.next) (h : CondR P C ops cenv vals j H) : CondR P C ops cenv vals j (H.add (single id o)) := by
  intro env oj hoj hag
  have hc := h env oj hoj hag
  cases hx : execG P C ops none env oj H with
  | none => simp [hx] at hc
  | some q =>
    obtain ⟨u, Hu⟩ := q
    simp only [hx, Option.map_some, Option.some.injEq] at hc
    subst hc
    have := (loc_execG (P := P) hC ops none env oj (single id o) H (vals j) Hu (disj_single h1 h2) (fun id h => by cases h) hx).1
    rw [this]; rfl
theorem move_front (hC : CLoc C) {i : Nat} {f : St} (σ2 : List Nat) : ∀ (σ1 : List Nat) {s s1 : St}, StepG P C ops base cenv vals i s s1 → RunG P C ops base cenv vals (σ1 ++ σ2) s1 f → σ1.Nodup →
    (∀ j ∈ σ1, i ≠ j ∧ (opAt ops i).apart ops.toArray (opAt ops j) = true ∧ allowed (kindAt P ops i) (kindAt P ops j) = true ∧ (kindAt P ops i = .seq ∨ kindAt P ops i = .alloc → kindAt P ops j = .read → CondR P C ops cenv vals j s.H)) →
    InvA P ops base σ1 s.H → RunG P C ops base cenv vals (σ1 ++ i :: σ2) s f
  | [], s, s1, h, hr, _, _, _ => ⟨s1, h, hr⟩
  | j :: σ1, s, s1, h, hr, hnd, hall, hinv => by
    obtain ⟨s2, hj, hr⟩ := hr
    obtain ⟨hij, hap, hal, hco⟩ := hall j List.mem_cons_self
    have hij' := hinv j List.mem_cons_self
    obtain ⟨s', k1, k2, k3⟩ := swap hC h hj hap hal hij hco hij'
    have hjn : j ∉ σ1 := (List.nodup_cons.1 hnd).1
    refine ⟨s', k1, move_front hC σ2 σ1 k2 hr (List.nodup_cons.1 hnd).2 (fun q hq => ?_) (inv_step hC hjn k1 fun q hq => hinv q (List.mem_cons_of_mem _ hq))⟩
    obtain ⟨q1, q2, q3, q4⟩ := hall q (List.mem_cons_of_mem _ hq)
    refine ⟨q1, q2, q3, fun hk hkq => ?_⟩
    rcases k3 hk with e | ⟨o, e, e1, e2⟩
    · rw [e]; exact q4 hk hkq
    · rw [e]; exact condR_add hC e1 e2 (q4 hk hkq)
def Resp (bs : List Nat) (σ : List Nat) : Prop := σ.Pairwise fun a b => (bs.getD a 0).testBit b = false
theorem any_order (hC : CLoc C) : ∀ (τ : List Nat) {s f : St}, RunG P C ops base cenv vals τ s f → pairOK P ops bs τ = true → Chk P C ops bs base cenv vals τ s → InvA P ops base τ s.H → ∀ (σ : List Nat), σ.Perm τ → τ.Nodup → Resp bs σ → RunG P C ops base cenv vals σ s f
  | [], s, f, h, _, _, _, σ, hp, _, _ => by
    have := hp.eq_nil
    subst this
    exact h
  | i :: τ, s, f, h, hok, hchk, hinv, σ, hp, hnd, hresp => by
    obtain ⟨s1, h1, h2⟩ := h
    have hmem : i ∈ σ := hp.mem_iff.2 List.mem_cons_self
    obtain ⟨σ1, σ2, rfl⟩ := List.append_of_mem hmem
    have hp' : (σ1 ++ σ2).Perm τ := (List.perm_middle.symm.trans hp).cons_inv
    have hndσ : (σ1 ++ i :: σ2).Nodup := hp.nodup_iff.2 hnd
    simp only [pairOK, Bool.and_eq_true, List.all_eq_true] at hok
    obtain ⟨hpair, hok'⟩ := hok
    have hresp' : Resp bs (σ1 ++ σ2) := by
      unfold Resp at *
      exact hresp.sublist (List.Sublist.append (List.Sublist.refl _) (List.sublist_cons_self _ _))
    have hi : i ∉ τ := (List.nodup_cons.1 hnd).1
    have ih := any_order hC τ h2 hok' (hchk.2 s1 h1) (inv_step hC hi h1 fun j hj => hinv j (List.mem_cons_of_mem _ hj)) (σ1 ++ σ2) hp' (List.nodup_cons.1 hnd).2 hresp'
    refine move_front hC σ2 σ1 h1 ih (hndσ.sublist (List.sublist_append_left _ _)) (fun j hj => ?_) (fun j hj => hinv j (List.mem_cons_of_mem _ (hp'.mem_iff.1 (List.mem_append_left _ hj))))
    have hjτ : j ∈ τ := hp'.mem_iff.1 (List.mem_append_left _ hj)
    have hq := hpair j hjτ
    simp only [Bool.and_eq_true, Bool.not_eq_true', beq_eq_false_iff_ne, ne_eq, Bool.or_eq_true] at hq
    obtain ⟨⟨q1, q2⟩, q3⟩ := hq
    have hji : (bs.getD j 0).testBit i = false := by
      unfold Resp at hresp
      rw [List.pairwise_append] at hresp
      exact hresp.2.2 j hj i List.mem_cons_self
    rcases q3 with q3 | q3
    · rw [hji] at q3; cases q3
    · refine ⟨q2, q3.1, q3.2, fun hk hkj => hchk.1 hk j hjτ hkj ?_⟩
      simp only [unord, hji, q1, Bool.not_false, Bool.and_self]

end
end Go.Am

end

section
set_option linter.unusedSimpArgs false
set_option linter.unusedVariables false
/- The abstract machine, part P: a region that draws its order, in the model. -/
namespace Go.Am
section
variable {P : Program} {C : CallTab} {ops : List Oper} {bs : List Nat} {base : Nat}

theorem agn_some {m : AM AVal} {v : AVal} : ∀ (l : List AHeap) {H H' : AHeap} {u : Unit}, agn m v l H = some (u, H') → H' = H ∧ ∀ Hs ∈ l, (m Hs).map Prod.fst = some v
  | [], H, H', u, h => by
    simp only [agn] at h
    obtain ⟨_, rfl⟩ := ret_some.1 h
    exact ⟨rfl, by simp⟩
  | Hs :: l, H, H', u, h => by
    simp only [agn] at h
    split at h
    · rename_i hc
      obtain ⟨e, hl⟩ := agn_some l h
      exact ⟨e, fun x hx => by
        cases hx with
        | head => exact hc
        | tail _ hx => exact hl x hx⟩
    · cases h

theorem stepG_congr {cenv cenv' : Nat → Env} {vals vals' : Nat → AVal} {i : Nat} {s s' : St} (h1 : cenv i = cenv' i) (h2 : vals i = vals' i) (h : StepG P C ops base cenv vals i s s') : StepG P C ops base cenv' vals' i s s' := by
  obtain ⟨o, a, b, c, d⟩ := h
  exact ⟨o, a, by rw [← h1]; exact b, by rw [← h2]; exact c, by rw [← h2]; exact d⟩
theorem runG_congr {cenv cenv' : Nat → Env} {vals vals' : Nat → AVal} : ∀ (l : List Nat) {s f : St}, (∀ i ∈ l, cenv i = cenv' i ∧ vals i = vals' i) → RunG P C ops base cenv vals l s f → RunG P C ops base cenv' vals' l s f
  | [], s, f, _, h => h
  | i :: l, s, f, hc, ⟨s', h1, h2⟩ => ⟨s', stepG_congr (hc i List.mem_cons_self).1 (hc i List.mem_cons_self).2 h1, runG_congr l (fun j hj => hc j (List.mem_cons_of_mem _ hj)) h2⟩
theorem condR_congr {cenv cenv' : Nat → Env} {vals vals' : Nat → AVal} {j : Nat} {H : AHeap} (h1 : cenv j = cenv' j) (h2 : vals j = vals' j) (h : CondR P C ops cenv vals j H) : CondR P C ops cenv' vals' j H := fun env o ho ha => by
  rw [← h2]; exact h env o ho (by rw [h1]; exact ha)
theorem chk_congr {cenv cenv' : Nat → Env} {vals vals' : Nat → AVal} : ∀ (l : List Nat) {s : St}, (∀ i ∈ l, cenv i = cenv' i ∧ vals i = vals' i) → Chk P C ops bs base cenv vals l s → Chk P C ops bs base cenv' vals' l s
  | [], s, _, h => trivial
  | i :: l, s, hc, ⟨h1, h2⟩ => by
    refine ⟨fun hk j hj hkj hu => ?_, fun s' hs => ?_⟩
    · obtain ⟨e1, e2⟩ := hc j (List.mem_cons_of_mem _ hj)
      exact condR_congr e1 e2 (h1 hk j hj hkj hu)
    · obtain ⟨e1, e2⟩ := hc i List.mem_cons_self
      exact chk_congr l (fun j hj => hc j (List.mem_cons_of_mem _ hj)) (h2 s' (stepG_congr e1.symm e2.symm hs))
theorem stepG_det {cenv : Nat → Env} {vals : Nat → AVal} {i : Nat} {s s1 s2 : St} (h1 : StepG P C ops base cenv vals i s s1) (h2 : StepG P C ops base cenv vals i s s2) : s1 = s2 := by
  obtain ⟨o, a, _, c, d⟩ := h1
  obtain ⟨o', a', _, c', d'⟩ := h2
  rw [a] at a'; cases a'
  rw [c] at c'
  injection c' with c'
  injection c' with _ c'
  cases s1; cases s2
  simp only at d d' c'
  subst d; subst d'; subst c'
  rfl

theorem draw_step {α : Type} {i : Nat} {rest : List Nat} {snaps : List (Nat × AHeap)} {env : Env} {K : Env → AM α} {H : AHeap} {r : α × AHeap} (h : runDraw P C ops bs base (i :: rest) snaps env K H = some r) :
    ∃ o v H1 snaps', ops[i]? = some o ∧ execG P C ops (rsOf P base i o) env o H = some (v, H1) ∧ runDraw P C ops bs base rest snaps' (putE env o.dst v) K H1 = some r ∧
      (∀ q ∈ snaps, q ∈ snaps') ∧ (kindOf P o.op = .seq ∨ kindOf P o.op = .alloc → (∃ j ∈ rest, kindAt P ops j = .read ∧ unord bs i j = true) → (i, H) ∈ snaps') ∧
      (kindOf P o.op = .read → ∀ q ∈ snaps, unord bs q.1 i = true → (execG P C ops none env o q.2).map Prod.fst = some v) := by
  simp only [runDraw] at h
  cases ho : ops[i]? with
  | none => simp [ho, fail] at h
  | some o =>
    simp only [ho] at h
    cases hm : moveOf o with
    | some x =>
      simp only [hm] at h
      have hk : kindOf P o.op = .pure := by
        unfold moveOf at hm
        cases hg : o.guard with
        | some y => simp [hg] at hm
        | none =>
          simp only [hg] at hm
          cases hop : o.op <;> simp only [hop] at hm <;> try (cases hm; done)
          all_goals simp [kindOf]
      exact ⟨o, ev env x, H, snaps, rfl, by rw [moveOf_exec hm]; rfl, h, fun q hq => hq, by simp [hk], by simp [hk]⟩
    | none =>
      simp only [hm] at h
      have hwant : ∀ b, wantSnap P ops bs i rest = b → b = false → (kindOf P o.op = .seq ∨ kindOf P o.op = .alloc) → (∃ j ∈ rest, kindAt P ops j = .read ∧ unord bs i j = true) → False := by
        intro b hb hf hk hj
        subst hf
        obtain ⟨j, j1, j2, j3⟩ := hj
        unfold wantSnap at hb
        rw [kindAt_of (P := P) ho] at hb
        have : (List.any rest fun j => kindAt P ops j == OpKind.read && unord bs i j) = true := List.any_eq_true.2 ⟨j, j1, by simp [j2, j3]⟩
        rw [this] at hb
        rcases hk with hk | hk <;> simp [hk] at hb
      cases hk : kindOf P o.op with
      | pure =>
        simp only [hk] at h
        obtain ⟨v, H1, h1, h2⟩ := bnd_some.1 h
        exact ⟨o, v, H1, snaps, rfl, by simp only [rsOf, hk]; exact h1, h2, fun q hq => hq, by simp [hk], by simp [hk]⟩
      | read =>
        simp only [hk] at h
        have key : ∀ (l : List (Nat × AHeap)), snaps.filter (fun s => unord bs s.1 i) = l → ∃ v H1, execG P C ops none env o H = some (v, H1) ∧ runDraw P C ops bs base rest snaps (putE env o.dst v) K H1 = some r ∧ ∀ q ∈ l, (execG P C ops none env o q.2).map Prod.fst = some v := by
          intro l hl
          rw [hl] at h
          cases l with
          | nil =>
            obtain ⟨v, H1, h1, h2⟩ := bnd_some.1 h
            exact ⟨v, H1, h1, h2, by simp⟩
          | cons q qs =>
            obtain ⟨v, H1, h1, h2⟩ := bnd_some.1 h
            obtain ⟨u, H2, h3, h4⟩ := bnd_some.1 h2
            obtain ⟨rfl, h5⟩ := agn_some _ h3
            exact ⟨v, H2, h1, h4, fun x hx => h5 _ (List.mem_map.2 ⟨x, hx, rfl⟩)⟩
        obtain ⟨v, H1, h1, h2, h3⟩ := key _ rfl
        exact ⟨o, v, H1, snaps, rfl, by simp only [rsOf, hk]; exact h1, h2, fun q hq => hq, by simp [hk], fun _ q hq hu => h3 q (List.mem_filter.2 ⟨hq, hu⟩)⟩
      | alloc =>
        simp only [hk] at h
        split at h
        · obtain ⟨H0, H0', g1, g2⟩ := bnd_some.1 h
          simp only [getH, Option.some.injEq, Prod.mk.injEq] at g1
          obtain ⟨rfl, rfl⟩ := g1
          obtain ⟨v, H1, h1, h2⟩ := bnd_some.1 g2
          exact ⟨o, v, H1, (i, H) :: snaps, rfl, by simp only [rsOf, hk]; exact h1, h2, fun q hq => List.mem_cons_of_mem _ hq, fun _ _ => List.mem_cons_self, by simp [hk]⟩
        · rename_i hw
          obtain ⟨v, H1, h1, h2⟩ := bnd_some.1 h
          exact ⟨o, v, H1, snaps, rfl, by simp only [rsOf, hk]; exact h1, h2, fun q hq => hq, fun hk' hj => (hwant _ rfl (by simpa using hw) hk' hj).elim, by simp [hk]⟩
      | seq =>
        simp only [hk] at h
        split at h
        · obtain ⟨H0, H0', g1, g2⟩ := bnd_some.1 h
          simp only [getH, Option.some.injEq, Prod.mk.injEq] at g1
          obtain ⟨rfl, rfl⟩ := g1
          obtain ⟨v, H1, h1, h2⟩ := bnd_some.1 g2
          exact ⟨o, v, H1, (i, H) :: snaps, rfl, by simp only [rsOf, hk]; exact h1, h2, fun q hq => List.mem_cons_of_mem _ hq, fun _ _ => List.mem_cons_self, by simp [hk]⟩
        · rename_i hw
          obtain ⟨v, H1, h1, h2⟩ := bnd_some.1 h
          exact ⟨o, v, H1, snaps, rfl, by simp only [rsOf, hk]; exact h1, h2, fun q hq => hq, fun hk' hj => (hwant _ rfl (by simpa using hw) hk' hj).elim, by simp [hk]⟩

theorem draw_out {α : Type} {K : Env → AM α} {r : α × AHeap} : ∀ (ord : List Nat) {snaps : List (Nat × AHeap)} {env : Env} {H : AHeap}, ord.Nodup → runDraw P C ops bs base ord snaps env K H = some r →
    ∃ cenv vals f, RunG P C ops base cenv vals ord ⟨env, H⟩ f ∧ K f.env f.H = some r ∧ Chk P C ops bs base cenv vals ord ⟨env, H⟩ ∧
      (∀ q ∈ snaps, ∀ j ∈ ord, kindAt P ops j = .read → unord bs q.1 j = true → CondR P C ops cenv vals j q.2)
  | [], snaps, env, H, _, h => ⟨fun _ => [], fun _ => .undef, ⟨env, H⟩, rfl, h, trivial, by simp⟩
  | i :: rest, snaps, env, H, hnd, h => by
    obtain ⟨o, v, H1, snaps', ho, he, hr, hs1, hs2, hs3⟩ := draw_step h
    obtain ⟨cenv, vals, f, g1, g2, g3, g4⟩ := draw_out rest (List.nodup_cons.1 hnd).2 hr
    have hi : i ∉ rest := (List.nodup_cons.1 hnd).1
    let cenv' : Nat → Env := fun k => if k = i then env else cenv k
    let vals' : Nat → AVal := fun k => if k = i then v else vals k
    have hne : ∀ j ∈ rest, cenv j = cenv' j ∧ vals j = vals' j := fun j hj => by
      have : j ≠ i := fun e => hi (e ▸ hj)
      simp [cenv', vals', this]
    have hv : vals' i = v := by simp [vals']
    have hc : cenv' i = env := by simp [cenv']
    have hstep : StepG P C ops base cenv' vals' i ⟨env, H⟩ ⟨putE env o.dst v, H1⟩ := ⟨o, ho, by rw [hc]; exact agree_refl o env, by rw [hv]; exact he, by rw [hv]⟩
    refine ⟨cenv', vals', f, ⟨_, hstep, runG_congr rest hne g1⟩, g2, ⟨fun hk j hj hkj hu => ?_, fun s' hs => ?_⟩, fun q hq j hj hkj hu => ?_⟩
    · rw [kindAt_of (P := P) ho] at hk
      have := g4 (i, H) (hs2 hk ⟨j, hj, hkj, hu⟩) j hj hkj hu
      exact condR_congr (hne j hj).1 (hne j hj).2 this
    · rw [← stepG_det hstep hs]
      exact chk_congr rest hne g3
    · cases hj with
      | head =>
        intro env' o' ho' ha
        rw [ho] at ho'; cases ho'
        rw [kindAt_of (P := P) ho] at hkj
        rw [hv]
        rw [hc] at ha
        rw [execG_congr ha]
        exact hs3 hkj q hq hu
      | tail _ hj => exact condR_congr (hne j hj).1 (hne j hj).2 (g4 q (hs1 q hq) j hj hkj hu)

theorem perm_of_mem : ∀ {l l' : List Nat}, l.Nodup → l'.Nodup → (∀ x, x ∈ l ↔ x ∈ l') → l.Perm l'
  | [], l', _, _, h => by
    cases l' with
    | nil => exact List.Perm.refl _
    | cons x xs => have := (h x).2 List.mem_cons_self; cases this
  | a :: l, l', h1, h2, h => by
    obtain ⟨l1, l2, rfl⟩ := List.append_of_mem ((h a).1 List.mem_cons_self)
    refine List.Perm.trans (List.Perm.cons a (perm_of_mem (l' := l1 ++ l2) (List.nodup_cons.1 h1).2 ?_ ?_)) List.perm_middle.symm
    · exact h2.sublist (List.Sublist.append (List.Sublist.refl _) (List.sublist_cons_self _ _))
    · intro x
      have ha : a ∉ l1 ++ l2 := by
        have := (List.perm_middle (l₁ := l1) (a := a) (l₂ := l2)).nodup_iff.1 h2
        exact (List.nodup_cons.1 this).1
      have hx := h x
      simp only [List.mem_cons, List.mem_append] at hx ha ⊢
      constructor
      · intro hl
        rcases hx.1 (.inr hl) with h' | h' | h'
        · exact .inl h'
        · subst h'; exact absurd hl (List.nodup_cons.1 h1).1
        · exact .inr h'
      · intro hl
        rcases hx.2 (by rcases hl with h' | h'; exact .inl h'; exact .inr (.inr h')) with h' | h'
        · subst h'; exact absurd hl ha
        · exact h'
theorem pairOK_nodup : ∀ (l : List Nat), pairOK P ops bs l = true → l.Nodup
  | [], _ => List.nodup_nil
  | i :: l, h => by
    simp only [pairOK, Bool.and_eq_true, List.all_eq_true] at h
    refine List.nodup_cons.2 ⟨fun hi => ?_, pairOK_nodup l h.2⟩
    have := h.1 i hi
    simp at this

end
end Go.Am

end

section
set_option linter.unusedSimpArgs false
set_option linter.unusedVariables false
/- The abstract machine, part Q: the model's run of a region that draws its order. -/
namespace Go.Am
section
variable {P : Program} {C : CallTab}

def unl (n : Nat) (listed : Array Bool) : List Nat := (List.range n).filter fun k => !(listed.getD k true)
theorem mem_unl {n : Nat} {listed : Array Bool} {k : Nat} : k ∈ unl n listed ↔ k < n ∧ listed.getD k true = false := by
  simp [unl, List.mem_filter, List.mem_range]
theorem getD_set' {listed : Array Bool} {i k : Nat} (hi : i < listed.size) (d : Bool) : (listed.setIfInBounds i true).getD k d = if k = i then true else listed.getD k d := by
  rw [Array.getD_eq_getD_getElem?, Array.getD_eq_getD_getElem?]
  by_cases e : k = i
  · subst e; simp [hi]
  · rw [Array.getElem?_setIfInBounds_ne (Ne.symm e), if_neg e]
theorem unl_set {n : Nat} {listed : Array Bool} {i : Nat} (hi : i < listed.size) : unl n (listed.setIfInBounds i true) = (unl n listed).filter (· != i) := by
  unfold unl
  rw [List.filter_filter]
  apply List.filter_congr
  intro k _
  rw [getD_set' hi]
  by_cases e : k = i
  · simp [e]
  · simp [e]
theorem nodup_unl (n : Nat) (listed : Array Bool) : (unl n listed).Nodup := List.Nodup.sublist List.filter_sublist List.nodup_range
theorem sorted_unl (n : Nat) (listed : Array Bool) : (unl n listed).Pairwise (· < ·) := List.Pairwise.sublist List.filter_sublist List.pairwise_lt_range
theorem len_filter_ne {l : List Nat} {i : Nat} (hn : l.Nodup) (hi : i ∈ l) : (l.filter (· != i)).length + 1 = l.length := by
  obtain ⟨l1, l2, rfl⟩ := List.append_of_mem hi
  have hp := (List.perm_middle (l₁ := l1) (a := i) (l₂ := l2)).nodup_iff.1 hn
  have hni := (List.nodup_cons.1 hp).1
  simp only [List.mem_append, not_or] at hni
  have f1 : ∀ (l : List Nat), i ∉ l → l.filter (· != i) = l := fun l h => List.filter_eq_self.2 fun a ha => by
    have : a ≠ i := fun e => h (e ▸ ha)
    simp [this]
  rw [List.filter_append, List.filter_cons_of_neg (by simp), f1 l1 hni.1, f1 l2 hni.2]
  simp [Nat.add_assoc]

theorem draw_any {α : Type} (hC : CSound P C) (hL : CLoc C) (ops : Array Oper) (bs : List Nat) (base : Nat) (cenv : Nat → Env) (vals : Nat → AVal) (D : List Nat) (hD : ∀ o ∈ ops.toList, ∀ d, o.dst = some d → d ∈ D)
    (hedge : ∀ i, i < ops.size → edgesOK ops.toList bs i = true) (K : Env → AM α) (r : α × AHeap) (f : St) (hf : K f.env f.H = some r) (π0 : PMap) (H0 : AHeap) (w0 : World) (a0 : Act) (Q : Exit → Act → World → Prop)
    (hQ : ∀ a w, Reach π0 H0 w0 D a0 K r a w → Q .normal a w) : ∀ (fuel : Nat) (listed : Array Bool) {env : Env} {H : AHeap} {π : PMap} {a : Act} {w : World},
    listed.size = ops.size → (unl ops.size listed).length = fuel → (∀ k, k < ops.size → listed.getD k true = true → ∀ b, (bs.getD k 0).testBit b = true → listed.getD b true = true) →
    (∀ σ : List Nat, σ.Nodup → (∀ k, k ∈ σ ↔ k ∈ unl ops.size listed) → Resp bs σ → RunG P C ops.toList base cenv vals σ ⟨env, H⟩ f) →
    HRel π H w → ERel π w env a → Ext π0 H0 w0 π H w → Keep D a0 a → wpAny P .any ops Q fuel listed a w := by
  have hready : ∀ (listed : Array Bool) i, i ∈ Region.ready .any ops listed ↔ i < ops.size ∧ listed.getD i true = false ∧ ∃ o, ops[i]? = some o ∧ ∀ e ∈ o.after, Region.binds .any e = true → listed.getD e.on false = true := by
    intro listed i
    simp only [Region.ready, List.mem_filter, List.mem_range, Bool.and_eq_true, Bool.not_eq_true']
    constructor
    · rintro ⟨h1, h2, h3⟩
      refine ⟨h1, h2, ops[i], by simp [h1], fun e he hb => ?_⟩
      have h1' : ops[i]? = some ops[i] := by simp [h1]
      rw [h1'] at h3
      simp only [Option.map_some, Option.getD_some, Array.all_eq_true'] at h3
      have := h3 e he
      simpa [hb] using this
    · rintro ⟨h1, h2, o, ho, h3⟩
      refine ⟨h1, h2, ?_⟩
      rw [ho]
      simp only [Option.map_some, Option.getD_some, Array.all_eq_true']
      intro e he
      cases hb : Region.binds .any e with
      | false => simp
      | true => simp [h3 e he hb]
  have hE : ∀ i, i < ops.size → ∀ o, ops[i]? = some o → (∀ e ∈ o.after, Region.binds .any e = true → e.on < i) ∧ (∀ b, b < ops.size → (bs.getD i 0).testBit b = true → ∃ e ∈ o.after, Region.binds .any e = true ∧ (e.on = b ∨ (bs.getD e.on 0).testBit b = true)) ∧ bs.getD i 0 < 2 ^ i := by
    intro i hi o ho
    have h := hedge i hi
    have hop : opAt ops.toList i = o := opAt_of (by simpa using ho)
    simp only [edgesOK, hop, Bool.and_eq_true, List.all_eq_true, List.mem_range, Array.length_toList, decide_eq_true_eq] at h
    obtain ⟨⟨h1, h2⟩, h3⟩ := h
    refine ⟨fun e he hb => ?_, fun b hb ht => ?_, h3⟩
    · have := h1 e (Array.mem_def.1 he)
      simpa [hb] using this
    · have := h2 b hb
      simp only [ht, Bool.not_true, Bool.false_or, List.any_eq_true, Bool.and_eq_true, Bool.or_eq_true, beq_iff_eq] at this
      obtain ⟨e, he, h4, h5⟩ := this
      exact ⟨e, Array.mem_def.2 he, h4, h5⟩
  intro fuel
  induction fuel with
  | zero =>
    intro listed env H π a w hsz hlen hcl hrun hH hE' hX hK
    have hnil : unl ops.size listed = [] := List.eq_nil_of_length_eq_zero hlen
    have hf' := hrun [] List.nodup_nil (by simp [hnil]) List.Pairwise.nil
    simp only [RunG] at hf'
    refine ⟨?_, hQ a w ⟨env, π, H, hE', hH, hX, hK, by rw [← hf'] at hf; exact hf⟩⟩
    apply List.eq_nil_iff_forall_not_mem.2
    intro i hi
    obtain ⟨h1, h2, _⟩ := (hready listed i).1 hi
    have : i ∈ unl ops.size listed := mem_unl.2 ⟨h1, h2⟩
    rw [hnil] at this; cases this
  | succ fuel ih =>
    intro listed env H π a w hsz hlen hcl hrun hH hE' hX hK
    have hlow : ∀ k, k < ops.size → k ∉ unl ops.size listed → listed.getD k true = true := by
      intro k hk hn
      cases hl : listed.getD k true with
      | true => rfl
      | false => exact absurd (mem_unl.2 ⟨hk, hl⟩) hn
    have hgd : ∀ k, k < ops.size → listed.getD k true = listed.getD k false := by
      intro k hk
      have hk' : k < listed.size := by omega
      simp [Array.getD, hk']
    refine ⟨fun hemp => ?_, fun i hi => ?_⟩
    · exfalso
      cases hu : unl ops.size listed with
      | nil => rw [hu] at hlen; cases hlen
      | cons i rest =>
        have hiu : i ∈ unl ops.size listed := by rw [hu]; exact List.mem_cons_self
        obtain ⟨hin, hil⟩ := mem_unl.1 hiu
        have hsorted := sorted_unl ops.size listed
        rw [hu] at hsorted
        have hmin : ∀ k, k < i → k ∉ unl ops.size listed := by
          intro k hk hku
          rw [hu] at hku
          cases hku with
          | head => omega
          | tail _ hku => have := (List.pairwise_cons.1 hsorted).1 k hku; omega
        have : i ∈ Region.ready .any ops listed := by
          refine (hready listed i).2 ⟨hin, hil, ops[i], by simp [hin], fun e he hb => ?_⟩
          have hlt := (hE i hin ops[i] (by simp [hin])).1 e he hb
          rw [← hgd e.on (by omega)]
          exact hlow e.on (by omega) (hmin e.on hlt)
        rw [hemp] at this; cases this
    · obtain ⟨hin, hil, o, ho, hpre⟩ := (hready listed i).1 hi
      have hiu : i ∈ unl ops.size listed := mem_unl.2 ⟨hin, hil⟩
      have hilt : i < listed.size := by omega
      obtain ⟨e1, e2, e3⟩ := hE i hin o ho
      have hbefore : ∀ b, (bs.getD i 0).testBit b = true → listed.getD b true = true := by
        intro b hb
        by_cases hbn : b < ops.size
        · obtain ⟨e, he, hbd, h⟩ := e2 b hbn hb
          have hon := hpre e he hbd
          have honlt := e1 e he hbd
          have hon' : listed.getD e.on true = true := by rw [hgd e.on (by omega)]; exact hon
          rcases h with h | h
          · rw [← h]; exact hon'
          · exact hcl e.on (by omega) hon' b h
        · have hb' : ¬ b < listed.size := by omega
          simp [Array.getD, hb']
      have hfirst : ∀ b ∈ unl ops.size listed, (bs.getD i 0).testBit b = false := by
        intro b hb
        cases ht : (bs.getD i 0).testBit b with
        | false => rfl
        | true => have := hbefore b ht; rw [(mem_unl.1 hb).2] at this; cases this
      have hcons : ∀ σ' : List Nat, σ'.Nodup → (∀ k, k ∈ σ' ↔ k ∈ unl ops.size (listed.setIfInBounds i true)) → Resp bs σ' → ∃ s', StepG P C ops.toList base cenv vals i ⟨env, H⟩ s' ∧ RunG P C ops.toList base cenv vals σ' s' f := by
        intro σ' hn hm hr
        have hm' : ∀ k, k ∈ σ' ↔ k ∈ unl ops.size listed ∧ k ≠ i := by
          intro k
          rw [hm k, unl_set hilt, List.mem_filter]
          simp
        exact hrun (i :: σ') (List.nodup_cons.2 ⟨fun h => ((hm' i).1 h).2 rfl, hn⟩) (fun k => by
          rw [List.mem_cons, hm' k]
          constructor
          · rintro (rfl | h)
            · exact hiu
            · exact h.1
          · intro h
            by_cases e : k = i
            · exact .inl e
            · exact .inr ⟨h, e⟩) (List.pairwise_cons.2 ⟨fun b hb => hfirst b ((hm' b).1 hb).1, hr⟩)
      obtain ⟨s', hs', _⟩ := hcons (unl ops.size (listed.setIfInBounds i true)) (nodup_unl _ _) (fun k => Iff.rfl) (by
        refine List.Pairwise.imp_of_mem (fun {x y} hx hy hlt => ?_) (sorted_unl _ _)
        have hxn := (mem_unl.1 hx).1
        have := (hE x hxn ops[x] (by simp [hxn])).2.2
        exact Nat.testBit_lt_two_pow (Nat.lt_of_lt_of_le this (Nat.pow_le_pow_right (by omega) (by omega))))
      have hs'' := hs'
      obtain ⟨o', ho', _, hex, henv⟩ := hs''
      have : o' = o := by
        have : ops[i]? = some o' := by simpa using ho'
        rw [ho] at this; cases this; rfl
      subst this
      refine (execG_sound hC hH hE' hex).wpOp ho fun v w' hsim => ?_
      obtain ⟨π', hrel, hH', hX'⟩ := hsim
      have hmem : o' ∈ ops.toList := List.mem_of_getElem? ho'
      have hlen' : (unl ops.size (listed.setIfInBounds i true)).length = fuel := by
        rw [unl_set hilt]
        have := len_filter_ne (nodup_unl ops.size listed) hiu
        omega
      have hE'' : ERel π' w' s'.env (a.put o'.dst v) := by
        rw [henv]
        exact (hE'.mono hX'.pi hX'.wl).put hrel
      refine ih (listed.setIfInBounds i true) (env := s'.env) (H := s'.H) (by simpa using hsz) hlen' (fun k hk hl b hb => ?_) (fun σ' hn hm hr => ?_) hH' hE'' (hX.trans hX') (hK.trans (Keep.put a o'.dst v fun d hd => hD o' hmem d hd))
      · rw [getD_set' hilt] at hl ⊢
        split
        · rfl
        · by_cases e : k = i
          · subst e; exact hbefore b hb
          · rw [if_neg e] at hl; exact hcl k hk hl b hb
      · obtain ⟨s2, h1, h2⟩ := hcons σ' hn hm hr
        have : s2 = s' := stepG_det h1 hs'
        subst this
        exact h2

theorem draw_sound {α : Type} (hm : P.follows .mixedOrders = true) (hC : CSound P C) (hL : CLoc C) (ops : Array Oper) (id : Nat) {ord : List Nat} (hok : drawOK P ops.toList (befores ops.toList) ord = true) (base : Nat) (D : List Nat) (hD : ∀ o ∈ ops.toList, ∀ d, o.dst = some d → d ∈ D)
    {env : Env} {H : AHeap} {K : Env → AM α} {r : α × AHeap} (hr : runDraw P C ops.toList (befores ops.toList) base ord [] env K H = some r) (hinv : InvA P ops.toList base ord H) {π0 : PMap} {H0 : AHeap} {w0 : World} {a0 : Act} {Q : Exit → Act → World → Prop}
    (hQ : ∀ a w, Reach π0 H0 w0 D a0 K r a w → Q .normal a w) {π : PMap} {a : Act} {w : World} (hH : HRel π H w) (hE : ERel π w env a) (hX : Ext π0 H0 w0 π H w) (hK : Keep D a0 a) :
    (Code.region id ops true).wp P Q a w := by
  simp only [drawOK, Bool.and_eq_true, List.all_eq_true, List.mem_range, Array.length_toList, decide_eq_true_eq] at hok
  obtain ⟨⟨⟨h1, h2⟩, h3⟩, h4⟩ := hok
  have hnd := pairOK_nodup _ h4
  obtain ⟨cenv, vals, f, g1, g2, g3, _⟩ := draw_out ord hnd hr
  refine wp_region_any hm ?_
  have hun : ∀ k, k ∈ unl ops.size (Array.replicate ops.size false) ↔ k < ops.size := by
    intro k
    rw [mem_unl]
    constructor
    · exact fun h => h.1
    · intro h; exact ⟨h, by simp [Array.getD, h]⟩
  have hlen : (unl ops.size (Array.replicate ops.size false)).length = ops.size := by
    have : unl ops.size (Array.replicate ops.size false) = List.range ops.size := by
      unfold unl
      refine List.filter_eq_self.2 fun k hk => ?_
      have := List.mem_range.1 hk
      simp [Array.getD, this]
    rw [this]; simp
  refine draw_any hC hL ops (befores ops.toList) base cenv vals D hD (fun i hi => h1 i hi) K r f g2 π0 H0 w0 a0 Q hQ ops.size _ (by simp) hlen (fun k hk hl => ?_) (fun σ hn hmem hresp => ?_) hH.drw (hE.mono (PMap.le_refl _) (WLe.drw w)) (hX.trans (Ext.drw π H w)) hK
  · simp [Array.getD, hk] at hl
  · refine any_order hL ord g1 h4 g3 hinv σ (perm_of_mem hn hnd fun k => ?_) hnd hresp
    rw [hmem k, hun k]
    constructor
    · intro hk
      have := h2 k hk
      simpa using this
    · intro hk
      exact h3 k hk

end
end Go.Am

end

section
set_option linter.unusedSimpArgs false
set_option linter.unusedVariables false
/- The abstract machine, part R: code, and functions. -/
namespace Go.Am
section
variable {P : Program} {C : CallTab}

def exOf : Ex → Exit
  | .normal => .normal
  | .exit i => .exit i
  | .ret => .ret
def QX {α : Type} (π0 : PMap) (H0 : AHeap) (w0 : World) (D : List Nat) (a0 : Act) (K : Ex → Env → AM α) (r : α × AHeap) : Exit → Act → World → Prop :=
  fun e a w => ∃ ex, e = exOf ex ∧ Reach π0 H0 w0 D a0 (K ex) r a w

theorem idxOf_get : ∀ (S : List Nat) (t j : Nat), S.idxOf? t = some j → S[j]? = some t
  | [], t, j, h => by simp at h
  | x :: S, t, j, h => by
    rw [List.idxOf?_cons] at h
    by_cases e : x = t
    · subst e; simp at h; subst h; rfl
    · have e' : (x == t) = false := by simp [e]
      rw [e'] at h
      simp only [Bool.false_eq_true, if_false, Option.map_eq_some_iff] at h
      obtain ⟨k, hk, rfl⟩ := h
      simpa using idxOf_get S t k hk
theorem injF_len (S A : List Nat) (s : List AVal) : ∀ (env : Env) (k : Nat), (injF S A s k env).length = env.length
  | [], k => rfl
  | x :: xs, k => by simp [injF, injF_len S A s xs (k + 1)]
theorem injF_get (S A : List Nat) (s : List AVal) : ∀ (env : Env) (k t : Nat), t < env.length → (injF S A s k env).getD t .undef = match S.idxOf? (k + t) with
    | some j => gx s j
    | none => if A.contains (k + t) then .undef else env.getD t .undef
  | [], k, t, h => by simp at h
  | x :: xs, k, 0, h => by
    simp only [injF, Nat.add_zero, List.getD_cons_zero]
    cases S.idxOf? k <;> rfl
  | x :: xs, k, t + 1, h => by
    simp only [injF, List.getD_cons_succ]
    rw [injF_get S A s xs (k + 1) t (by simpa using h), show k + 1 + t = k + (t + 1) by omega]
theorem gx_proj (S : List Nat) (env : Env) (t j : Nat) (h : S.idxOf? t = some j) : gx (proj S env) j = env.getD t .undef := by
  have := idxOf_get S t j h
  simp [gx, proj, List.getD, this]
/-- The state of the temporaries, put together from what is listed and what nobody has written. -/
theorem erel_inj {π π' : PMap} {w w' : World} {env env' : Env} {a a' : Act} (S A : List Nat) (hE : ERel π w env a) (hE' : ERel π' w' env' a') (hK : Keep A a a') (hp : π.le π') (hw : WLe w w') : ERel π' w' (injF S A (proj S env') 0 env) a' := by
  refine ⟨by rw [injF_len, hK.1]; exact hE.len, fun t => ?_, hE'.dfr⟩
  by_cases ht : t < env.length
  · rw [injF_get S A _ env 0 t ht, Nat.zero_add]
    cases hi : S.idxOf? t with
    | some j => simp only [gx_proj S env' t j hi]; exact hE'.val t
    | none =>
      simp only
      split
      · simp [Rel]
      · rename_i hc
        have : t ∉ A := by simpa using hc
        rw [hK.2 t this]
        exact (hE.val t).mono hp hw
  · have : (injF S A (proj S env') 0 env).getD t .undef = .undef := by
      simp only [List.getD, List.getElem?_eq_none (show (injF S A (proj S env') 0 env).length ≤ t by rw [injF_len]; omega), Option.getD_none]
    rw [this]; simp [Rel]
theorem disp_some {α : Type} {x : Ex} {K : Ex → AM α} : ∀ {exs : List Ex} {H : AHeap} {r : α × AHeap}, disp x K exs H = some r → K x H = some r
  | [], H, r, h => by simp [disp, fail] at h
  | e :: es, H, r, h => by
    simp only [disp, ife] at h
    split at h
    · rename_i e'; rw [e']; exact h
    · exact disp_some h
theorem br_some {α : Type} {c : AVal} {t e : AM α} {H : AHeap} {r : α × AHeap} (h : br c t e H = some r) : ∃ b, c = .bool b ∧ (if b then t else e) H = some r := by
  cases c <;> simp only [br, fail_some] at h
  rename_i b
  exact ⟨b, rfl, by cases b <;> simpa using h⟩

theorem HRel.reserve {π : PMap} {H : AHeap} {w : World} (h : HRel π H w) (n : Nat) : HRel π { H with next := H.next + n } w ∧ Ext π H w π { H with next := H.next + n } w :=
  ⟨⟨h.obj, h.inj, fun id hid => h.bnd id (by have : H.next + n ≤ id := hid; omega), h.unm, h.dom⟩, ⟨PMap.le_refl _, WLe.refl _, rfl, rfl, rfl, fun b _ hn => ⟨rfl, hn⟩⟩⟩
theorem Reach.trans {α : Type} {π0 π1 : PMap} {H0 H1 : AHeap} {w0 w1 : World} {D D1 D2 : List Nat} {a0 a1 : Act} {K : Env → AM α} {r : α × AHeap} {a : Act} {w : World} (hx : Ext π0 H0 w0 π1 H1 w1) (hk : Keep D1 a0 a1) (h : Reach π1 H1 w1 D2 a1 K r a w) (h1 : ∀ t ∈ D1, t ∈ D) (h2 : ∀ t ∈ D2, t ∈ D) : Reach π0 H0 w0 D a0 K r a w := by
  obtain ⟨env, π, H, e1, e2, e3, e4, e5⟩ := h.out
  exact ⟨env, π, H, e1, e2, hx.trans e3, (hk.mono h1).trans (e4.mono h2), e5⟩

theorem run_sound {α : Type} (hm : P.follows .mixedOrders = true) (hC : CSound P C) (hL : CLoc C) : ∀ (c : Code) (h : Hint) (env : Env) (K : Ex → Env → AM α) (H : AHeap) (r : α × AHeap), run P C c h env K H = some r →
    ∀ {π : PMap} {w : World} {a : Act}, HRel π H w → ERel π w env a → c.wp P (QX π H w (asg c) a K r) a w
  | .skip, h, env, K, H, r, hr, π, w, a, hH, hE => by
    simp only [run] at hr
    exact wp_skip ⟨.normal, rfl, env, π, H, hE, hH, Ext.refl _ _ _, Keep.refl _ _, hr⟩
  | .region id ops false, h, env, K, H, r, hr, π, w, a, hH, hE => by
    simp only [run, Bool.false_eq_true, if_false] at hr
    refine wp_region ?_
    rw [List.range_eq_range']
    have hD : ∀ o ∈ ops.toList, ∀ d, o.dst = some d → d ∈ asg (.region id ops false) := fun o ho d hd => by
      simp only [asg, asgOps, List.mem_filterMap]; exact ⟨o, ho, hd⟩
    have := runOps_sound hC ops (asg (.region id ops false)) hD (fun env => K .normal env) r π H w a (QX π H w (asg (.region id ops false)) a K r) (fun a' w' hre => ⟨.normal, rfl, hre⟩) ops.toList 0 rfl hr hH hE (Ext.refl _ _ _) (Keep.refl _ _)
    simpa using this
  | .region id ops true, h, env, K, H, r, hr, π, w, a, hH, hE => by
    have hD : ∀ o ∈ ops.toList, ∀ d, o.dst = some d → d ∈ asg (.region id ops true) := fun o ho d hd => by
      simp only [asg, asgOps, List.mem_filterMap]; exact ⟨o, ho, hd⟩
    cases h <;> simp only [run, if_true, fail_some] at hr
    rename_i ord
    cases hok : drawOK P ops.toList (befores ops.toList) ord with
    | false => simp [hok, fail] at hr
    | true =>
      simp only [hok] at hr
      cases ha : hasAlloc P ops.toList with
      | false =>
        simp only [ha] at hr
        refine draw_sound hm hC hL ops id hok 0 (asg (.region id ops true)) hD hr (fun j hj hk => ?_) (fun a' w' hre => ⟨.normal, rfl, hre⟩) hH hE (Ext.refl _ _ _) (Keep.refl _ _)
        exfalso
        unfold kindAt at hk
        cases ho : ops.toList[j]? with
        | none => simp [ho] at hk
        | some o =>
          simp only [ho] at hk
          have : hasAlloc P ops.toList = true := List.any_eq_true.2 ⟨o, List.mem_of_getElem? ho, by simp [hk]⟩
          rw [ha] at this; cases this
      | true =>
        simp only [ha] at hr
        obtain ⟨base, H1, h1, h2⟩ := bnd_some.1 hr
        simp only [reserve, Option.some.injEq, Prod.mk.injEq] at h1
        obtain ⟨rfl, rfl⟩ := h1
        obtain ⟨r1, r2⟩ := hH.reserve ops.size
        refine draw_sound hm hC hL ops id hok H.next (asg (.region id ops true)) hD h2 (fun j hj hk => ?_) (fun a' w' hre => ⟨.normal, rfl, hre⟩) r1 hE r2 (Keep.refl _ _)
        have hjn : j < ops.size := by
          simp only [drawOK, Bool.and_eq_true, List.all_eq_true, List.mem_range, Array.length_toList, decide_eq_true_eq] at hok
          exact hok.1.2 j hj
        exact ⟨hH.bnd _ (by omega), by show H.next + j < H.next + ops.size; omega⟩
  | .seq x y, h, env, K, H, r, hr, π, w, a, hH, hE => by
    simp only [run] at hr
    refine wp_seq (wp_mono (run_sound hm hC hL x h.l env _ H r hr hH hE) ?_)
    rintro e a1 w1 ⟨ex, rfl, hre⟩
    have hsub1 : ∀ t ∈ asg x, t ∈ asg (.seq x y) := fun t ht => by simp [asg, ht]
    have hsub2 : ∀ t ∈ asg y, t ∈ asg (.seq x y) := fun t ht => by simp [asg, ht]
    obtain ⟨env1, π1, H1, e1, e2, e3, e4, e5⟩ := hre.out
    cases ex with
    | normal =>
      simp only at e5
      refine wp_mono (run_sound hm hC hL y h.r env1 K H1 r e5 e2 e1) ?_
      rintro e a2 w2 ⟨ex, rfl, hre2⟩
      exact ⟨ex, rfl, hre2.trans e3 e4 hsub1 hsub2⟩
    | exit i => exact ⟨.exit i, rfl, env1, π1, H1, e1, e2, e3, e4.mono hsub1, e5⟩
    | ret => exact ⟨.ret, rfl, env1, π1, H1, e1, e2, e3, e4.mono hsub1, e5⟩
  | .cond c x y, h, env, K, H, r, hr, π, w, a, hH, hE => by
    have hsub1 : ∀ t ∈ asg x, t ∈ asg (.cond c x y) := fun t ht => by simp [asg, ht]
    have hsub2 : ∀ t ∈ asg y, t ∈ asg (.cond c x y) := fun t ht => by simp [asg, ht]
    have hev := rel_ev hE c
    have split : ∀ (hx hy : Hint), br (ev env c) (run P C x hx env K) (run P C y hy env K) H = some r → (Code.cond c x y).wp P (QX π H w (asg (.cond c x y)) a K r) a w := by
      intro hx hy hr
      obtain ⟨b, hb, hr⟩ := br_some hr
      rw [hb] at hev
      simp only [Rel] at hev
      refine wp_cond hev ?_
      cases b
      · simp only [Bool.false_eq_true, if_false] at hr ⊢
        refine wp_mono (run_sound hm hC hL y hy env K H r hr hH hE) ?_
        rintro e a2 w2 ⟨ex, rfl, hre2⟩
        exact ⟨ex, rfl, hre2.trans (Ext.refl _ _ _) (Keep.refl _ _) hsub1 hsub2⟩
      · simp only [if_true] at hr ⊢
        refine wp_mono (run_sound hm hC hL x hx env K H r hr hH hE) ?_
        rintro e a2 w2 ⟨ex, rfl, hre2⟩
        exact ⟨ex, rfl, hre2.trans (Ext.refl _ _ _) (Keep.refl _ _) hsub1 hsub1⟩
    cases h with
    | join J exs hx hy =>
      simp only [run] at hr
      obtain ⟨q, H1, h1, h2⟩ := bnd_some.1 hr
      obtain ⟨b, hb, h1⟩ := br_some h1
      have h2' := disp_some h2
      rw [hb] at hev
      simp only [Rel] at hev
      refine wp_cond hev ?_
      have fin : ∀ (z : Code), (∀ t ∈ asg z, t ∈ asg x ++ asg y) → z.wp P (QX π H w (asg z) a (fun ex env' => ret (ex, proj J env')) (q, H1)) a w → z.wp P (QX π H w (asg (.cond c x y)) a K r) a w := by
        intro z hsub hr
        refine wp_mono hr ?_
        rintro e a2 w2 ⟨ex, rfl, hre2⟩
        obtain ⟨env1, π1, H1', e1, e2, e3, e4, e5⟩ := hre2.out
        obtain ⟨rfl, rfl⟩ := ret_some.1 e5
        have e4' : Keep (asg x ++ asg y) a a2 := e4.mono hsub
        exact ⟨ex, rfl, _, π1, H1', erel_inj J (asg x ++ asg y) hE e1 e4' e3.pi e3.wl, e2, e3, e4', h2'⟩
      cases b
      · simp only [Bool.false_eq_true, if_false] at h1 ⊢
        exact fin y (fun t ht => List.mem_append_right _ ht) (run_sound hm hC hL y hy env _ H (q, H1) h1 hH hE)
      · simp only [if_true] at h1 ⊢
        exact fin x (fun t ht => List.mem_append_left _ ht) (run_sound hm hC hL x hx env _ H (q, H1) h1 hH hE)
    | leaf => simp only [run] at hr; exact split _ _ hr
    | pair u v => simp only [run] at hr; exact split _ _ hr
    | loop S J exs b => simp only [run] at hr; exact split _ _ hr
    | draw o => simp only [run] at hr; exact split _ _ hr
  | .block i x, h, env, K, H, r, hr, π, w, a, hH, hE => by
    simp only [run] at hr
    refine wp_block (wp_mono (run_sound hm hC hL x h env _ H r hr hH hE) ?_)
    rintro e a1 w1 ⟨ex, rfl, hre⟩
    obtain ⟨env1, π1, H1, e1, e2, e3, e4, e5⟩ := hre.out
    cases ex with
    | normal => exact ⟨.normal, rfl, env1, π1, H1, e1, e2, e3, e4, e5⟩
    | ret => exact ⟨.ret, rfl, env1, π1, H1, e1, e2, e3, e4, e5⟩
    | exit j =>
      simp only [exOf, Exit.inBlock]
      simp only at e5
      split
      · rename_i hj
        rw [if_pos hj] at e5
        exact ⟨.normal, rfl, env1, π1, H1, e1, e2, e3, e4, e5⟩
      · rename_i hj
        rw [if_neg hj] at e5
        exact ⟨.exit j, rfl, env1, π1, H1, e1, e2, e3, e4, e5⟩
  | .loop x, h, env, K, H, r, hr, π, w, a, hH, hE => by
    cases h <;> simp only [run, fail_some] at hr
    rename_i S J exs hx
    obtain ⟨q, H1, h1, h2⟩ := bnd_some.1 hr
    have h2' := disp_some h2
    obtain ⟨n, hn⟩ := loopL_some.1 h1
    refine wp_loop_rounds n ?_
    have key : ∀ (n : Nat) (s : List AVal) (Hs : AHeap), loopN (fun s => run P C x hx (injF S (asg x) s 0 env) fun ex env' => match ex with
        | .normal => ret (.normal, proj S env')
        | e => ret (e, proj J env')) n s Hs = some (q, H1) → ∀ {π1 : PMap} {w1 : World} {a1 : Act}, HRel π1 Hs w1 → ERel π1 w1 (injF S (asg x) s 0 env) a1 → Ext π H w π1 Hs w1 → Keep (asg x) a a1 → Code.rounds P x (QX π H w (asg x) a K r) n a1 w1 := by
      intro n
      induction n with
      | zero => intro s Hs hn; simp [loopN, fail] at hn
      | succ n ih =>
        intro s Hs hn π1 w1 a1 g1 g2 g3 g4
        rw [rounds_succ]
        simp only [loopN] at hn
        obtain ⟨q1, H2, k1, k2⟩ := bnd_some.1 hn
        refine wp_mono (run_sound hm hC hL x hx _ _ Hs (q1, H2) k1 g1 g2) ?_
        rintro e a2 w2 ⟨ex, rfl, hre⟩
        obtain ⟨env2, π2, H2', e1, e2, e3, e4, e5⟩ := hre.out
        have hkeep : Keep (asg x) a a2 := g4.trans e4
        have hext : Ext π H w π2 H2' w2 := g3.trans e3
        cases ex with
        | normal =>
          simp only at e5
          obtain ⟨rfl, rfl⟩ := ret_some.1 e5
          simp only at k2
          exact ih _ _ k2 e2 (erel_inj S (asg x) hE e1 hkeep hext.pi hext.wl) hext hkeep
        | exit i =>
          simp only at e5
          obtain ⟨rfl, rfl⟩ := ret_some.1 e5
          simp only at k2
          obtain ⟨rfl, rfl⟩ := ret_some.1 k2
          exact ⟨.exit i, rfl, _, π2, H2', erel_inj J (asg x) hE e1 hkeep hext.pi hext.wl, e2, hext, hkeep, h2'⟩
        | ret =>
          simp only at e5
          obtain ⟨rfl, rfl⟩ := ret_some.1 e5
          simp only at k2
          obtain ⟨rfl, rfl⟩ := ret_some.1 k2
          exact ⟨.ret, rfl, _, π2, H2', erel_inj J (asg x) hE e1 hkeep hext.pi hext.wl, e2, hext, hkeep, h2'⟩
    exact key n _ H hn hH (erel_inj S (asg x) hE hE (Keep.refl _ _) (PMap.le_refl _) (WLe.refl _)) (Ext.refl _ _ _) (Keep.refl _ _)
  | .exit i, h, env, K, H, r, hr, π, w, a, hH, hE => by
    simp only [run] at hr
    exact wp_exit ⟨.exit i, rfl, env, π, H, hE, hH, Ext.refl _ _ _, Keep.refl _ _, hr⟩
  | .ret, h, env, K, H, r, hr, π, w, a, hH, hE => by
    simp only [run] at hr
    exact wp_ret ⟨.ret, rfl, env, π, H, hE, hH, Ext.refl _ _ _, Keep.refl _ _, hr⟩
  | .rangeFunc .., h, env, K, H, r, hr, π, w, a, hH, hE => by simp [run, fail] at hr
  | .scope .., h, env, K, H, r, hr, π, w, a, hH, hE => by simp [run, fail] at hr
  | .label .., h, env, K, H, r, hr, π, w, a, hH, hE => by simp [run, fail] at hr
  | .goto .., h, env, K, H, r, hr, π, w, a, hH, hE => by simp [run, fail] at hr
  | .refuse .., h, env, K, H, r, hr, π, w, a, hH, hE => by simp [run, fail] at hr

end
end Go.Am

end

section
set_option linter.unusedSimpArgs false
set_option linter.unusedVariables false
/- The abstract machine, part S: what is proved of a function once its abstract counterpart is written down. -/
namespace Go.Am
section
variable {P : Program} {C : CallTab}

theorem loc_draw {α : Type} (hL : CLoc C) (ops : List Oper) (bs : List Nat) (base : Nat) : ∀ (ord : List Nat) (snaps : List (Nat × AHeap)) (env : Env) (K : Env → AM α), (∀ env, Loc (K env)) →
    ∀ (E : Extra) (H : AHeap) (r : α) (H' : AHeap), Disj E H → (∀ id, base ≤ id → (hasAlloc P ops = true → E id = none)) → (∀ q ∈ snaps, Disj E q.2) → runDraw P C ops bs base ord snaps env K H = some (r, H') →
    runDraw P C ops bs base ord (snaps.map fun q => (q.1, q.2.add E)) env K (H.add E) = some (r, H'.add E) ∧ Disj E H'
  | [], snaps, env, K, hK, E, H, r, H', hd, hb, hs, h => by
    simp only [runDraw] at h ⊢
    exact hK env E H r H' hd (fun id h => h.elim) h
  | i :: rest, snaps, env, K, hK, E, H, r, H', hd, hb, hs, h => by
    have hnone : ∀ (env : Env) (o : Oper), Loc (execG P C ops none env o) := fun env o => (loc_execG (P := P) hL ops none env o).mono fun id h => by cases h
    simp only [runDraw] at h ⊢
    cases ho : ops[i]? with
    | none => simp [ho, fail] at h
    | some o =>
      simp only [ho] at h ⊢
      cases hm : moveOf o with
      | some x =>
        simp only [hm] at h ⊢
        exact loc_draw hL ops bs base rest snaps _ K hK E H r H' hd hb hs h
      | none =>
        simp only [hm] at h ⊢
        cases hk : kindOf P o.op with
        | pure =>
          simp only [hk] at h ⊢
          obtain ⟨v, H1, h1, h2⟩ := bnd_some.1 h
          obtain ⟨g1, g2⟩ := hnone env o E H v H1 hd (fun id h => h.elim) h1
          obtain ⟨k1, k2⟩ := loc_draw hL ops bs base rest snaps _ K hK E H1 r H' g2 hb hs h2
          exact ⟨bnd_some.2 ⟨v, _, g1, k1⟩, k2⟩
        | read =>
          simp only [hk] at h ⊢
          have hfil : (snaps.map fun q => (q.1, q.2.add E)).filter (fun s => unord bs s.1 i) = (snaps.filter (fun s => unord bs s.1 i)).map fun q => (q.1, q.2.add E) := by
            rw [List.filter_map]; rfl
          rw [hfil]
          have hsub : ∀ q ∈ snaps.filter (fun s => unord bs s.1 i), Disj E q.2 := fun q hq => hs q (List.mem_filter.1 hq).1
          generalize snaps.filter (fun s => unord bs s.1 i) = fl at h hsub ⊢
          cases fl with
          | nil =>
            simp only [List.map_nil] at h ⊢
            obtain ⟨v, H1, h1, h2⟩ := bnd_some.1 h
            obtain ⟨g1, g2⟩ := hnone env o E H v H1 hd (fun id h => h.elim) h1
            obtain ⟨k1, k2⟩ := loc_draw hL ops bs base rest snaps _ K hK E H1 r H' g2 hb hs h2
            exact ⟨bnd_some.2 ⟨v, _, g1, k1⟩, k2⟩
          | cons q qs =>
            simp only [List.map_cons] at h ⊢
            obtain ⟨v, H1, h1, h2⟩ := bnd_some.1 h
            obtain ⟨u, H2, h3, h4⟩ := bnd_some.1 h2
            obtain ⟨rfl, h5⟩ := agn_some _ h3
            obtain ⟨g1, g2⟩ := hnone env o E H v H2 hd (fun id h => h.elim) h1
            obtain ⟨k1, k2⟩ := loc_draw hL ops bs base rest snaps _ K hK E H2 r H' g2 hb hs h4
            refine ⟨bnd_some.2 ⟨v, _, g1, bnd_some.2 ⟨(), H2.add E, ?_, k1⟩⟩, k2⟩
            have hall : ∀ (l : List AHeap) (Hc : AHeap), (∀ Hs ∈ l, Disj E Hs ∧ (execG P C ops none env o Hs).map Prod.fst = some v) → agn (execG P C ops none env o) v (l.map fun Hs => Hs.add E) Hc = some ((), Hc) := by
              intro l
              induction l with
              | nil => intro Hc _; rfl
              | cons Hs l ih =>
                intro Hc hl
                obtain ⟨d1, d2⟩ := hl Hs List.mem_cons_self
                have : (execG P C ops none env o (Hs.add E)).map Prod.fst = some v := by
                  cases hx : execG P C ops none env o Hs with
                  | none => simp [hx] at d2
                  | some y =>
                    obtain ⟨y1, y2⟩ := y
                    simp only [hx, Option.map_some, Option.some.injEq] at d2
                    subst d2
                    rw [(hnone env o E Hs _ y2 d1 (fun id h => h.elim) hx).1]; rfl
                simp only [List.map_cons, agn, this, if_true]
                exact ih Hc fun Hs hh => hl Hs (List.mem_cons_of_mem _ hh)
            have := hall (q.2 :: qs.map Prod.snd) (H2.add E) (fun Hs hh => by
              refine ⟨?_, h5 Hs (by simpa using hh)⟩
              simp only [List.mem_cons, List.mem_map] at hh
              rcases hh with rfl | ⟨x, hx, rfl⟩
              · exact hsub q List.mem_cons_self
              · exact hsub x (List.mem_cons_of_mem _ hx))
            simpa [Function.comp_def] using this
        | alloc =>
          simp only [hk] at h ⊢
          have hha : hasAlloc P ops = true := List.any_eq_true.2 ⟨o, List.mem_of_getElem? ho, by simp [hk]⟩
          have hal : ∀ v H1, execG P C ops (some (base + i)) env o H = some (v, H1) → execG P C ops (some (base + i)) env o (H.add E) = some (v, H1.add E) ∧ Disj E H1 := fun v H1 h1 =>
            loc_execG (P := P) hL ops (some (base + i)) env o E H v H1 hd (fun id h => by cases h; exact hb _ (by omega) hha) h1
          cases hw : wantSnap P ops bs i rest with
          | true =>
            simp only [hw, if_true] at h ⊢
            obtain ⟨H0, H0', g1, g2⟩ := bnd_some.1 h
            simp only [getH, Option.some.injEq, Prod.mk.injEq] at g1
            obtain ⟨rfl, rfl⟩ := g1
            obtain ⟨v, H1, h1, h2⟩ := bnd_some.1 g2
            obtain ⟨f1, f2⟩ := hal v H1 h1
            obtain ⟨k1, k2⟩ := loc_draw hL ops bs base rest ((i, H) :: snaps) _ K hK E H1 r H' f2 hb (fun q hq => by
              cases hq with
              | head => exact hd
              | tail _ hq => exact hs q hq) h2
            exact ⟨bnd_some.2 ⟨H.add E, H.add E, rfl, bnd_some.2 ⟨v, _, f1, k1⟩⟩, k2⟩
          | false =>
            simp only [hw, Bool.false_eq_true, if_false] at h ⊢
            obtain ⟨v, H1, h1, h2⟩ := bnd_some.1 h
            obtain ⟨f1, f2⟩ := hal v H1 h1
            obtain ⟨k1, k2⟩ := loc_draw hL ops bs base rest snaps _ K hK E H1 r H' f2 hb hs h2
            exact ⟨bnd_some.2 ⟨v, _, f1, k1⟩, k2⟩
        | seq =>
          simp only [hk] at h ⊢
          cases hw : wantSnap P ops bs i rest with
          | true =>
            simp only [hw, if_true] at h ⊢
            obtain ⟨H0, H0', g1, g2⟩ := bnd_some.1 h
            simp only [getH, Option.some.injEq, Prod.mk.injEq] at g1
            obtain ⟨rfl, rfl⟩ := g1
            obtain ⟨v, H1, h1, h2⟩ := bnd_some.1 g2
            obtain ⟨f1, f2⟩ := hnone env o E H v H1 hd (fun id h => h.elim) h1
            obtain ⟨k1, k2⟩ := loc_draw hL ops bs base rest ((i, H) :: snaps) _ K hK E H1 r H' f2 hb (fun q hq => by
              cases hq with
              | head => exact hd
              | tail _ hq => exact hs q hq) h2
            exact ⟨bnd_some.2 ⟨H.add E, H.add E, rfl, bnd_some.2 ⟨v, _, f1, k1⟩⟩, k2⟩
          | false =>
            simp only [hw, Bool.false_eq_true, if_false] at h ⊢
            obtain ⟨v, H1, h1, h2⟩ := bnd_some.1 h
            obtain ⟨f1, f2⟩ := hnone env o E H v H1 hd (fun id h => h.elim) h1
            obtain ⟨k1, k2⟩ := loc_draw hL ops bs base rest snaps _ K hK E H1 r H' f2 hb hs h2
            exact ⟨bnd_some.2 ⟨v, _, f1, k1⟩, k2⟩

theorem loc_disp {α : Type} (x : Ex) {K : Ex → AM α} (hK : ∀ e, Loc (K e)) : ∀ (exs : List Ex), Loc (disp x K exs)
  | [] => loc_fail
  | e :: es => by
    unfold disp ife
    exact loc_ite (hK e) (loc_disp x hK es)
theorem loc_run {α : Type} (hL : CLoc C) : ∀ (c : Code) (h : Hint) (env : Env) (K : Ex → Env → AM α), (∀ ex env, Loc (K ex env)) → Loc (run P C c h env K)
  | .skip, h, env, K, hK => by simp only [run]; exact hK _ _
  | .region id ops false, h, env, K, hK => by
    simp only [run, Bool.false_eq_true, if_false]
    exact loc_runOps hL _ _ _ _ fun env => hK _ _
  | .region id ops true, h, env, K, hK => by
    cases h <;> simp only [run, if_true] <;> try exact loc_fail
    rename_i ord
    split
    · split
      · rename_i ha
        intro E H r H' hd _ hr
        obtain ⟨base, H1, h1, h2⟩ := bnd_some.1 hr
        simp only [reserve, Option.some.injEq, Prod.mk.injEq] at h1
        obtain ⟨rfl, rfl⟩ := h1
        have hd' : Disj E { H with next := H.next + ops.size } := fun id o ho => ⟨(hd id o ho).1, by have := (hd id o ho).2; show id < H.next + ops.size; omega⟩
        have := loc_draw (P := P) hL ops.toList (befores ops.toList) H.next ord [] env (fun env => K .normal env) (fun env => hK _ _) E _ r H' hd' (fun id hid _ => by
          cases he : E id with
          | none => rfl
          | some o => have := (hd id o he).2; omega) (by simp) h2
        exact ⟨bnd_some.2 ⟨H.next, { H.add E with next := H.next + ops.size }, rfl, this.1⟩, this.2⟩
      · rename_i ha
        intro E H r H' hd _ hr
        exact loc_draw (P := P) hL ops.toList (befores ops.toList) 0 ord [] env (fun env => K .normal env) (fun env => hK _ _) E H r H' hd (fun id _ h => by rw [ha] at h; cases h) (by simp) hr
    · exact loc_fail
  | .seq x y, h, env, K, hK => by
    simp only [run]
    refine loc_run hL x _ _ _ fun ex env => ?_
    cases ex with
    | normal => exact loc_run hL y _ _ _ hK
    | exit i => exact hK _ _
    | ret => exact hK _ _
  | .cond c x y, h, env, K, hK => by
    cases h with
    | join J exs hx hy =>
      simp only [run]
      exact loc_bnd (loc_br _ (loc_run hL x _ _ _ fun _ _ => loc_ret _) (loc_run hL y _ _ _ fun _ _ => loc_ret _)) fun r => loc_disp _ (fun e => hK _ _) _
    | leaf => simp only [run]; exact loc_br _ (loc_run hL x _ _ _ hK) (loc_run hL y _ _ _ hK)
    | pair u v => simp only [run]; exact loc_br _ (loc_run hL x _ _ _ hK) (loc_run hL y _ _ _ hK)
    | loop S J exs b => simp only [run]; exact loc_br _ (loc_run hL x _ _ _ hK) (loc_run hL y _ _ _ hK)
    | draw o => simp only [run]; exact loc_br _ (loc_run hL x _ _ _ hK) (loc_run hL y _ _ _ hK)
  | .block i x, h, env, K, hK => by
    simp only [run]
    refine loc_run hL x _ _ _ fun ex env => ?_
    cases ex with
    | normal => exact hK _ _
    | ret => exact hK _ _
    | exit j => exact loc_ite (hK _ _) (hK _ _)
  | .loop x, h, env, K, hK => by
    cases h <;> simp only [run] <;> try exact loc_fail
    refine loc_bnd (loc_loopL (fun s => loc_run hL x _ _ _ fun ex env => ?_) _) fun r => loc_disp _ (fun e => hK _ _) _
    cases ex <;> exact loc_ret _
  | .exit i, h, env, K, hK => by simp only [run]; exact hK _ _
  | .ret, h, env, K, hK => by simp only [run]; exact hK _ _
  | .rangeFunc .., h, env, K, hK => by simp only [run]; exact loc_fail
  | .scope .., h, env, K, hK => by simp only [run]; exact loc_fail
  | .label .., h, env, K, hK => by simp only [run]; exact loc_fail
  | .goto .., h, env, K, hK => by simp only [run]; exact loc_fail
  | .refuse .., h, env, K, hK => by simp only [run]; exact loc_fail
theorem loc_res (env : Env) : ∀ (rs : List ResultVar) (K : List AVal → AM AVal), (∀ vs, Loc (K vs)) → Loc (resM P env rs K)
  | [], K, hK => hK _
  | .tmp t :: rs, K, hK => by simp only [resM]; exact loc_res env rs _ fun vs => hK _
  | .cell a t :: rs, K, hK => by
    simp only [resM]
    refine loc_bnd ?_ fun v => loc_res env rs _ fun vs => hK _
    split
    · exact loc_ty fun i => loc_ldn _ _
    · exact loc_ld1 _
    · exact loc_fail
theorem loc_tup (vs : List AVal) : Loc (tup vs) := by unfold tup; split <;> exact loc_ret _
theorem loc_runF (hL : CLoc C) (fn : Func) (h : Hint) (args : List AVal) : Loc (runF P C fn h args) := by
  unfold runF
  split
  · refine loc_run hL _ _ _ _ fun ex env => ?_
    cases ex with
    | normal => exact loc_res _ _ _ loc_tup
    | ret => exact loc_res _ _ _ loc_tup
    | exit i => exact loc_fail
  · exact loc_fail

def resOne (tmps : Array Value) : ResultVar → Sem Value
  | .tmp t => pure (tmps.getD t Go.undef)
  | .cell x t => do loadVar t (← asAddr (tmps.getD x Go.undef))
theorem results_eq (fn : Func) (tmps : Array Value) : results fn tmps = (do
    let vs ← fn.results.mapM (resOne tmps)
    pure (if h : vs.size = 1 then vs[0] else .tuple vs)) := rfl
theorem res_sound {π : PMap} {w : World} {env : Env} {a : Act} {H : AHeap} (hH : HRel π H w) (hE : ERel π w env a) : ∀ (rs : List ResultVar) (K : List AVal → AM AVal) {r : AVal × AHeap}, resM P env rs K H = some r →
    ∃ vs cvs, (rs.mapM (resOne a.tmps)).run P w = .ok cvs w ∧ RelL π w vs cvs ∧ K vs H = some r
  | [], K, r, h => ⟨[], [], by simp, by simp [RelL], h⟩
  | .tmp t :: rs, K, r, h => by
    simp only [resM] at h
    obtain ⟨vs, cvs, h1, h2, h3⟩ := res_sound hH hE rs _ h
    exact ⟨_, a.tmps.getD t Go.undef :: cvs, by rw [List.mapM_cons]; simp only [Sem.run_bind, resOne, Sem.run_pure, Result.andThen_ok, h1], RelL.cons (hE.val t) h2, h3⟩
  | .cell x t :: rs, K, r, h => by
    simp only [resM] at h
    obtain ⟨v, H1, g1, g2⟩ := bnd_some.1 h
    have hx := hE.val x
    have hload : H1 = H ∧ ∃ cv, (Instr.loadAt t (a.tmps.getD x Go.undef)).run P w = .ok cv w ∧ Rel π w v cv := by
      cases ha : aggOf P t with
      | none => simp [ha, fail] at g1
      | some b =>
        cases b
        · simp only [ha] at g1; exact ld1_s hH ha hx g1
        · simp only [ha] at g1
          obtain ⟨i, hi, g1⟩ := ty_some.1 g1
          exact ldn_s hH ha hi hx g1
    obtain ⟨rfl, cv, hl, hr⟩ := hload
    obtain ⟨vs, cvs, h1, h2, h3⟩ := res_sound hH hE rs _ g2
    refine ⟨_, cv :: cvs, ?_, RelL.cons hr h2, h3⟩
    rw [List.mapM_cons]
    have haddr : (resOne a.tmps (.cell x t)).run P w = .ok cv w := by
      unfold resOne
      have hl' := hl
      simp only [Instr.loadAt, Sem.run_bind] at hl' ⊢
      generalize a.tmps.getD x Go.undef = u at hl' ⊢
      cases u <;> simp [Instr.sureAddr] at hl'
      rename_i ad
      cases ad <;> simp at hl'
      simpa [asAddr] using hl'
    simp only [Sem.run_bind, haddr, Result.andThen_ok, h1, Sem.run_pure]

structure FnOK (P : Program) (f : FuncId) (F : List AVal → AM AVal) : Prop where
  s : FnSound P f F
  l : ∀ args, Loc (F args)
def AllOK (P : Program) : List (Nat × (List AVal → AM AVal)) → Prop
  | [] => True
  | x :: r => FnOK P x.1 x.2 ∧ AllOK P r
theorem tab_sound : ∀ (l : List (Nat × (List AVal → AM AVal))), AllOK P l → CSound P (tab l) ∧ CLoc (tab l)
  | [], _ => ⟨fun f args H r h => by simp [tab, fail] at h, fun f args => loc_fail⟩
  | (g, G) :: l, ⟨h1, h2⟩ => by
    obtain ⟨i1, i2⟩ := tab_sound l h2
    refine ⟨fun f args H r h => ?_, fun f args => ?_⟩
    · simp only [tab] at h
      split at h
      · rename_i e; subst e; exact ⟨G, h1.s, h⟩
      · exact i1 f args H r h
    · simp only [tab]
      exact loc_ite (h1.l args) (i2 f args)

theorem fn_ok (hm : P.follows .mixedOrders = true) {l : List (Nat × (List AVal → AM AVal))} (hl : AllOK P l) {f : FuncId} {fn : Func} (hf : P.funcs[f]? = some fn) (henter : ∀ args w, (callFunc f args).run P w = .ok (.enter f args) w) {h : Hint} {F : List AVal → AM AVal}
    (hF : ∀ args, (∀ r H, F args H = some r → runF P (tab l) fn h args H = some r) ∧ Loc (F args)) : FnOK P f F := by
  obtain ⟨hC, hL⟩ := tab_sound l hl
  refine ⟨⟨henter, fun {args H H' v π w vs} hr hH hargs => ?_⟩, fun args => (hF args).2⟩
  have hr := (hF args).1 _ _ hr
  unfold runF at hr
  cases hb : fn.body with
  | none => simp [hb, fail] at hr
  | some c =>
    simp only [hb] at hr
    refine calls_of_wp hf hb ?_
    have hlen := hargs.length
    simp only [Array.length_toList] at hlen
    have hE : ERel π w (args ++ List.replicate (fn.ntmps - args.length) .undef) { tmps := vs ++ Array.replicate (fn.ntmps - vs.size) Go.undef, defers := [] } := by
      refine ⟨by simp; omega, fun t => ?_, rfl⟩
      by_cases ht : t < args.length
      · have h1 : (args ++ List.replicate (fn.ntmps - args.length) AVal.undef).getD t .undef = args[t] := by
          simp [List.getD, List.getElem?_append_left ht, ht]
        have ht' : t < vs.size := by omega
        have h2 : (vs ++ Array.replicate (fn.ntmps - vs.size) Go.undef).getD t Go.undef = vs[t] := by
          rw [Array.getD_eq_getD_getElem?, Array.getElem?_append_left ht']; simp [ht']
        rw [h1]
        show Rel π w args[t] ((vs ++ Array.replicate (fn.ntmps - vs.size) Go.undef).getD t Go.undef)
        rw [h2]
        exact (RelL.iff_get.1 hargs).2 t _ _ (List.getElem?_eq_getElem ht) (by simp [ht'])
      · have h1 : (args ++ List.replicate (fn.ntmps - args.length) AVal.undef).getD t .undef = .undef := by
          rw [List.getD_eq_getElem?_getD, List.getElem?_append_right (by omega), List.getElem?_replicate]
          split <;> rfl
        rw [h1]; simp [Rel]
    refine wp_mono (run_sound hm hC hL c h _ _ H (v, H') hr hH hE) ?_
    rintro e a1 w1 ⟨ex, rfl, hre⟩
    obtain ⟨env1, π1, H1, e1, e2, e3, e4, e5⟩ := hre.out
    have fin : ∀ (k : resM P env1 fn.results.toList tup H1 = some (v, H')), a1.defers = [] ∧ ∃ v', (results fn a1.tmps).run P w1 = .ok v' w1 ∧ ∃ v'', Ending.returned v' = .returned v'' ∧ Sim π H w H' v v'' w1 := by
      intro k
      obtain ⟨us, cus, h1, h2, h3⟩ := res_sound e2 e1 _ _ k
      refine ⟨e1.dfr, ?_⟩
      have hmap : (fn.results.mapM (resOne a1.tmps)).run P w1 = .ok cus.toArray w1 := by
        rw [Array.mapM_eq_mapM_toList]
        simp only [Sem.run_map, h1, Result.andThen_ok]
      have hrun : (results fn a1.tmps).run P w1 = .ok (if h : cus.toArray.size = 1 then cus.toArray[0] else .tuple cus.toArray) w1 := by
        rw [results_eq, Sem.run_bind, hmap]
        simp only [Result.andThen_ok, Sem.run_pure]
      refine ⟨_, hrun, _, rfl, ?_⟩
      unfold tup at h3
      have hlen := h2.length
      split at h3
      · rename_i u
        obtain ⟨rfl, rfl⟩ := ret_some.1 h3
        obtain ⟨cu, cs, rfl, q1, q2⟩ := RelL.cons_iff.1 h2
        have := RelL.nil_iff.1 q2; subst this
        exact ⟨π1, by simpa using q1, e2, e3⟩
      · rename_i hn
        obtain ⟨rfl, rfl⟩ := ret_some.1 h3
        have hne : cus.toArray.size ≠ 1 := by
          intro hc
          simp only [List.size_toArray] at hc
          rw [hc] at hlen
          cases us with
          | nil => simp at hlen
          | cons u us' =>
            cases us' with
            | nil => exact hn u rfl
            | cons _ _ => simp at hlen
        rw [dif_neg hne]
        exact ⟨π1, ⟨_, rfl, by simpa using h2⟩, e2, e3⟩
    cases ex with
    | normal => exact fin e5
    | ret => exact fin e5
    | exit i => simp [fail] at e5
end
end Go.Am

end

section

/- The abstract machine, part T: a function of a given arity whose abstract program is known. -/
namespace Go.Am
section
variable {P : Program}
/-- How deep functions that call themselves are followed. -/
def deep : Nat := 4000
theorem fn_fail {k : FuncId} {F : List AVal → AM AVal} (henter : ∀ args w, (callFunc k args).run P w = .ok (.enter k args) w) (hF : ∀ args H, F args H = none) : FnOK P k F := by
  refine ⟨⟨henter, fun {args H H' v π w vs} hr _ _ => ?_⟩, fun args => ?_⟩
  · rw [hF] at hr; cases hr
  · have : F args = fail := by funext H; exact hF args H
    rw [this]; exact loc_fail
theorem fn_ok0 (hm : P.follows .mixedOrders = true) {l : List (Nat × (List AVal → AM AVal))} (hl : AllOK P l) {f : FuncId} {fn : Func} (hf : P.funcs[f]? = some fn) (henter : ∀ args w, (callFunc f args).run P w = .ok (.enter f args) w) {h : Hint} {F : AM AVal}
    (he : runF P (tab l) fn h [] = F ) : FnOK P f (ap0 F) := by
  refine fn_ok (h := h) hm hl hf henter fun args => ?_
  have key : args = [] ∨ ap0 F args = fail := by
    match args with
    | [] => exact .inl rfl
    | a0 :: q => exact .inr rfl
  rcases key with rfl | hk
  · refine ⟨fun r H h => ?_, ?_⟩
    · rw [he]; exact h
    · show Loc (F )
      rw [← he]; exact loc_runF (tab_sound l hl).2 _ _ _
  · refine ⟨fun r H h => ?_, ?_⟩
    · rw [hk] at h; cases h
    · rw [hk]; exact loc_fail
theorem fn_ok1 (hm : P.follows .mixedOrders = true) {l : List (Nat × (List AVal → AM AVal))} (hl : AllOK P l) {f : FuncId} {fn : Func} (hf : P.funcs[f]? = some fn) (henter : ∀ args w, (callFunc f args).run P w = .ok (.enter f args) w) {h : Hint} {F : AVal → AM AVal}
    (he : ∀ a0 : AVal, runF P (tab l) fn h [a0] = F a0) : FnOK P f (ap1 F) := by
  refine fn_ok (h := h) hm hl hf henter fun args => ?_
  have key : (∃ a0 : AVal, args = [a0]) ∨ ap1 F args = fail := by
    match args with
    | [] => exact .inr rfl
    | [a0] => exact .inl ⟨a0, rfl⟩
    | a0 :: a1 :: q => exact .inr rfl
  rcases key with ⟨a0, rfl⟩ | hk
  · refine ⟨fun r H h => ?_, ?_⟩
    · rw [he]; exact h
    · show Loc (F a0)
      rw [← he a0]; exact loc_runF (tab_sound l hl).2 _ _ _
  · refine ⟨fun r H h => ?_, ?_⟩
    · rw [hk] at h; cases h
    · rw [hk]; exact loc_fail
theorem fn_ok2 (hm : P.follows .mixedOrders = true) {l : List (Nat × (List AVal → AM AVal))} (hl : AllOK P l) {f : FuncId} {fn : Func} (hf : P.funcs[f]? = some fn) (henter : ∀ args w, (callFunc f args).run P w = .ok (.enter f args) w) {h : Hint} {F : AVal → AVal → AM AVal}
    (he : ∀ a0 a1 : AVal, runF P (tab l) fn h [a0, a1] = F a0 a1) : FnOK P f (ap2 F) := by
  refine fn_ok (h := h) hm hl hf henter fun args => ?_
  have key : (∃ a0 a1 : AVal, args = [a0, a1]) ∨ ap2 F args = fail := by
    match args with
    | [] => exact .inr rfl
    | [a0] => exact .inr rfl
    | [a0, a1] => exact .inl ⟨a0, a1, rfl⟩
    | a0 :: a1 :: a2 :: q => exact .inr rfl
  rcases key with ⟨a0, a1, rfl⟩ | hk
  · refine ⟨fun r H h => ?_, ?_⟩
    · rw [he]; exact h
    · show Loc (F a0 a1)
      rw [← he a0 a1]; exact loc_runF (tab_sound l hl).2 _ _ _
  · refine ⟨fun r H h => ?_, ?_⟩
    · rw [hk] at h; cases h
    · rw [hk]; exact loc_fail
theorem fn_ok3 (hm : P.follows .mixedOrders = true) {l : List (Nat × (List AVal → AM AVal))} (hl : AllOK P l) {f : FuncId} {fn : Func} (hf : P.funcs[f]? = some fn) (henter : ∀ args w, (callFunc f args).run P w = .ok (.enter f args) w) {h : Hint} {F : AVal → AVal → AVal → AM AVal}
    (he : ∀ a0 a1 a2 : AVal, runF P (tab l) fn h [a0, a1, a2] = F a0 a1 a2) : FnOK P f (ap3 F) := by
  refine fn_ok (h := h) hm hl hf henter fun args => ?_
  have key : (∃ a0 a1 a2 : AVal, args = [a0, a1, a2]) ∨ ap3 F args = fail := by
    match args with
    | [] => exact .inr rfl
    | [a0] => exact .inr rfl
    | [a0, a1] => exact .inr rfl
    | [a0, a1, a2] => exact .inl ⟨a0, a1, a2, rfl⟩
    | a0 :: a1 :: a2 :: a3 :: q => exact .inr rfl
  rcases key with ⟨a0, a1, a2, rfl⟩ | hk
  · refine ⟨fun r H h => ?_, ?_⟩
    · rw [he]; exact h
    · show Loc (F a0 a1 a2)
      rw [← he a0 a1 a2]; exact loc_runF (tab_sound l hl).2 _ _ _
  · refine ⟨fun r H h => ?_, ?_⟩
    · rw [hk] at h; cases h
    · rw [hk]; exact loc_fail
theorem fn_ok4 (hm : P.follows .mixedOrders = true) {l : List (Nat × (List AVal → AM AVal))} (hl : AllOK P l) {f : FuncId} {fn : Func} (hf : P.funcs[f]? = some fn) (henter : ∀ args w, (callFunc f args).run P w = .ok (.enter f args) w) {h : Hint} {F : AVal → AVal → AVal → AVal → AM AVal}
    (he : ∀ a0 a1 a2 a3 : AVal, runF P (tab l) fn h [a0, a1, a2, a3] = F a0 a1 a2 a3) : FnOK P f (ap4 F) := by
  refine fn_ok (h := h) hm hl hf henter fun args => ?_
  have key : (∃ a0 a1 a2 a3 : AVal, args = [a0, a1, a2, a3]) ∨ ap4 F args = fail := by
    match args with
    | [] => exact .inr rfl
    | [a0] => exact .inr rfl
    | [a0, a1] => exact .inr rfl
    | [a0, a1, a2] => exact .inr rfl
    | [a0, a1, a2, a3] => exact .inl ⟨a0, a1, a2, a3, rfl⟩
    | a0 :: a1 :: a2 :: a3 :: a4 :: q => exact .inr rfl
  rcases key with ⟨a0, a1, a2, a3, rfl⟩ | hk
  · refine ⟨fun r H h => ?_, ?_⟩
    · rw [he]; exact h
    · show Loc (F a0 a1 a2 a3)
      rw [← he a0 a1 a2 a3]; exact loc_runF (tab_sound l hl).2 _ _ _
  · refine ⟨fun r H h => ?_, ?_⟩
    · rw [hk] at h; cases h
    · rw [hk]; exact loc_fail
theorem fn_ok5 (hm : P.follows .mixedOrders = true) {l : List (Nat × (List AVal → AM AVal))} (hl : AllOK P l) {f : FuncId} {fn : Func} (hf : P.funcs[f]? = some fn) (henter : ∀ args w, (callFunc f args).run P w = .ok (.enter f args) w) {h : Hint} {F : AVal → AVal → AVal → AVal → AVal → AM AVal}
    (he : ∀ a0 a1 a2 a3 a4 : AVal, runF P (tab l) fn h [a0, a1, a2, a3, a4] = F a0 a1 a2 a3 a4) : FnOK P f (ap5 F) := by
  refine fn_ok (h := h) hm hl hf henter fun args => ?_
  have key : (∃ a0 a1 a2 a3 a4 : AVal, args = [a0, a1, a2, a3, a4]) ∨ ap5 F args = fail := by
    match args with
    | [] => exact .inr rfl
    | [a0] => exact .inr rfl
    | [a0, a1] => exact .inr rfl
    | [a0, a1, a2] => exact .inr rfl
    | [a0, a1, a2, a3] => exact .inr rfl
    | [a0, a1, a2, a3, a4] => exact .inl ⟨a0, a1, a2, a3, a4, rfl⟩
    | a0 :: a1 :: a2 :: a3 :: a4 :: a5 :: q => exact .inr rfl
  rcases key with ⟨a0, a1, a2, a3, a4, rfl⟩ | hk
  · refine ⟨fun r H h => ?_, ?_⟩
    · rw [he]; exact h
    · show Loc (F a0 a1 a2 a3 a4)
      rw [← he a0 a1 a2 a3 a4]; exact loc_runF (tab_sound l hl).2 _ _ _
  · refine ⟨fun r H h => ?_, ?_⟩
    · rw [hk] at h; cases h
    · rw [hk]; exact loc_fail
theorem fn_ok6 (hm : P.follows .mixedOrders = true) {l : List (Nat × (List AVal → AM AVal))} (hl : AllOK P l) {f : FuncId} {fn : Func} (hf : P.funcs[f]? = some fn) (henter : ∀ args w, (callFunc f args).run P w = .ok (.enter f args) w) {h : Hint} {F : AVal → AVal → AVal → AVal → AVal → AVal → AM AVal}
    (he : ∀ a0 a1 a2 a3 a4 a5 : AVal, runF P (tab l) fn h [a0, a1, a2, a3, a4, a5] = F a0 a1 a2 a3 a4 a5) : FnOK P f (ap6 F) := by
  refine fn_ok (h := h) hm hl hf henter fun args => ?_
  have key : (∃ a0 a1 a2 a3 a4 a5 : AVal, args = [a0, a1, a2, a3, a4, a5]) ∨ ap6 F args = fail := by
    match args with
    | [] => exact .inr rfl
    | [a0] => exact .inr rfl
    | [a0, a1] => exact .inr rfl
    | [a0, a1, a2] => exact .inr rfl
    | [a0, a1, a2, a3] => exact .inr rfl
    | [a0, a1, a2, a3, a4] => exact .inr rfl
    | [a0, a1, a2, a3, a4, a5] => exact .inl ⟨a0, a1, a2, a3, a4, a5, rfl⟩
    | a0 :: a1 :: a2 :: a3 :: a4 :: a5 :: a6 :: q => exact .inr rfl
  rcases key with ⟨a0, a1, a2, a3, a4, a5, rfl⟩ | hk
  · refine ⟨fun r H h => ?_, ?_⟩
    · rw [he]; exact h
    · show Loc (F a0 a1 a2 a3 a4 a5)
      rw [← he a0 a1 a2 a3 a4 a5]; exact loc_runF (tab_sound l hl).2 _ _ _
  · refine ⟨fun r H h => ?_, ?_⟩
    · rw [hk] at h; cases h
    · rw [hk]; exact loc_fail
theorem fn_ok7 (hm : P.follows .mixedOrders = true) {l : List (Nat × (List AVal → AM AVal))} (hl : AllOK P l) {f : FuncId} {fn : Func} (hf : P.funcs[f]? = some fn) (henter : ∀ args w, (callFunc f args).run P w = .ok (.enter f args) w) {h : Hint} {F : AVal → AVal → AVal → AVal → AVal → AVal → AVal → AM AVal}
    (he : ∀ a0 a1 a2 a3 a4 a5 a6 : AVal, runF P (tab l) fn h [a0, a1, a2, a3, a4, a5, a6] = F a0 a1 a2 a3 a4 a5 a6) : FnOK P f (ap7 F) := by
  refine fn_ok (h := h) hm hl hf henter fun args => ?_
  have key : (∃ a0 a1 a2 a3 a4 a5 a6 : AVal, args = [a0, a1, a2, a3, a4, a5, a6]) ∨ ap7 F args = fail := by
    match args with
    | [] => exact .inr rfl
    | [a0] => exact .inr rfl
    | [a0, a1] => exact .inr rfl
    | [a0, a1, a2] => exact .inr rfl
    | [a0, a1, a2, a3] => exact .inr rfl
    | [a0, a1, a2, a3, a4] => exact .inr rfl
    | [a0, a1, a2, a3, a4, a5] => exact .inr rfl
    | [a0, a1, a2, a3, a4, a5, a6] => exact .inl ⟨a0, a1, a2, a3, a4, a5, a6, rfl⟩
    | a0 :: a1 :: a2 :: a3 :: a4 :: a5 :: a6 :: a7 :: q => exact .inr rfl
  rcases key with ⟨a0, a1, a2, a3, a4, a5, a6, rfl⟩ | hk
  · refine ⟨fun r H h => ?_, ?_⟩
    · rw [he]; exact h
    · show Loc (F a0 a1 a2 a3 a4 a5 a6)
      rw [← he a0 a1 a2 a3 a4 a5 a6]; exact loc_runF (tab_sound l hl).2 _ _ _
  · refine ⟨fun r H h => ?_, ?_⟩
    · rw [hk] at h; cases h
    · rw [hk]; exact loc_fail
theorem fn_ok8 (hm : P.follows .mixedOrders = true) {l : List (Nat × (List AVal → AM AVal))} (hl : AllOK P l) {f : FuncId} {fn : Func} (hf : P.funcs[f]? = some fn) (henter : ∀ args w, (callFunc f args).run P w = .ok (.enter f args) w) {h : Hint} {F : AVal → AVal → AVal → AVal → AVal → AVal → AVal → AVal → AM AVal}
    (he : ∀ a0 a1 a2 a3 a4 a5 a6 a7 : AVal, runF P (tab l) fn h [a0, a1, a2, a3, a4, a5, a6, a7] = F a0 a1 a2 a3 a4 a5 a6 a7) : FnOK P f (ap8 F) := by
  refine fn_ok (h := h) hm hl hf henter fun args => ?_
  have key : (∃ a0 a1 a2 a3 a4 a5 a6 a7 : AVal, args = [a0, a1, a2, a3, a4, a5, a6, a7]) ∨ ap8 F args = fail := by
    match args with
    | [] => exact .inr rfl
    | [a0] => exact .inr rfl
    | [a0, a1] => exact .inr rfl
    | [a0, a1, a2] => exact .inr rfl
    | [a0, a1, a2, a3] => exact .inr rfl
    | [a0, a1, a2, a3, a4] => exact .inr rfl
    | [a0, a1, a2, a3, a4, a5] => exact .inr rfl
    | [a0, a1, a2, a3, a4, a5, a6] => exact .inr rfl
    | [a0, a1, a2, a3, a4, a5, a6, a7] => exact .inl ⟨a0, a1, a2, a3, a4, a5, a6, a7, rfl⟩
    | a0 :: a1 :: a2 :: a3 :: a4 :: a5 :: a6 :: a7 :: a8 :: q => exact .inr rfl
  rcases key with ⟨a0, a1, a2, a3, a4, a5, a6, a7, rfl⟩ | hk
  · refine ⟨fun r H h => ?_, ?_⟩
    · rw [he]; exact h
    · show Loc (F a0 a1 a2 a3 a4 a5 a6 a7)
      rw [← he a0 a1 a2 a3 a4 a5 a6 a7]; exact loc_runF (tab_sound l hl).2 _ _ _
  · refine ⟨fun r H h => ?_, ?_⟩
    · rw [hk] at h; cases h
    · rw [hk]; exact loc_fail
end
end Go.Am

end

section
set_option linter.unusedSimpArgs false
set_option linter.unusedVariables false
/- The abstract machine, part U: how a run of an abstract program is shown, step by step; what a heap keeps. -/
namespace Go.Am
section
variable {α β : Type} {H : AHeap}

/-- The run ends, in a state of which Q holds. -/
def W (m : AM α) (H : AHeap) (Q : α → AHeap → Prop) : Prop := ∃ a H', m H = some (a, H') ∧ Q a H'
theorem W.ret {a : α} {Q : α → AHeap → Prop} (h : Q a H) : W (Am.ret a) H Q := ⟨a, H, rfl, h⟩
theorem W.of {m : AM α} {a : α} {H' : AHeap} {Q : α → AHeap → Prop} (e : m H = some (a, H')) (h : Q a H') : W m H Q := ⟨a, H', e, h⟩
theorem W.bnd {m : AM α} {f : α → AM β} {Q : β → AHeap → Prop} (h : W m H fun a H' => W (f a) H' Q) : W (Am.bnd m f) H Q := by
  obtain ⟨a, H', h1, b, H'', h2, h3⟩ := h
  exact ⟨b, H'', bnd_some.2 ⟨a, H', h1, h2⟩, h3⟩
theorem W.c {m : AM α} {f : α → AM β} {Q : β → AHeap → Prop} {R : α → AHeap → Prop} (h : W m H R) (k : ∀ a H', R a H' → W (f a) H' Q) : W (Am.bnd m f) H Q := by
  obtain ⟨a, H', h1, h2⟩ := h
  exact W.bnd ⟨a, H', h1, k a H' h2⟩
theorem W.mono {m : AM α} {Q R : α → AHeap → Prop} (h : W m H R) (k : ∀ a H', R a H' → Q a H') : W m H Q := by
  obtain ⟨a, H', h1, h2⟩ := h
  exact ⟨a, H', h1, k a H' h2⟩
theorem W.p {m : AM α} {a : α} {f : α → AM β} {Q : β → AHeap → Prop} (e : m = Am.ret a) (h : W (f a) H Q) : W (Am.bnd m f) H Q := W.bnd ⟨a, H, by rw [e]; rfl, h⟩
theorem W.r {m : AM α} {a : α} {f : α → AM β} {Q : β → AHeap → Prop} (e : m H = some (a, H)) (h : W (f a) H Q) : W (Am.bnd m f) H Q := W.bnd ⟨a, H, e, h⟩
theorem W.e {m : AM α} {a : α} {H' : AHeap} {f : α → AM β} {Q : β → AHeap → Prop} (e : m H = some (a, H')) (h : W (f a) H' Q) : W (Am.bnd m f) H Q := W.bnd ⟨a, H', e, h⟩
theorem W.rt {a : α} {f : α → AM β} {Q : β → AHeap → Prop} (h : W (f a) H Q) : W (Am.bnd (Am.ret a) f) H Q := W.p rfl h
theorem W.assoc {γ : Type} {m : AM α} {g : α → AM β} {f : β → AM γ} {Q : γ → AHeap → Prop} (h : W (Am.bnd m fun a => Am.bnd (g a) f) H Q) : W (Am.bnd (Am.bnd m g) f) H Q := by
  obtain ⟨c, H', h1, h2⟩ := h
  obtain ⟨a, H1, h3, h4⟩ := bnd_some.1 h1
  obtain ⟨b, H2, h5, h6⟩ := bnd_some.1 h4
  exact ⟨c, H', bnd_some.2 ⟨b, H2, bnd_some.2 ⟨a, H1, h3, h5⟩, h6⟩, h2⟩
theorem W.br {p : Prop} [Decidable p] {t e : AM α} {Q : α → AHeap → Prop} (h1 : p → W t H Q) (h2 : ¬p → W e H Q) : W (Am.br (.bool (decide p)) t e) H Q := by
  by_cases h : p
  · simpa [Am.br, h] using h1 h
  · simpa [Am.br, h] using h2 h
theorem W.brT {b : Bool} {t e : AM α} {Q : α → AHeap → Prop} (hb : b = true) (h : W t H Q) : W (Am.br (.bool b) t e) H Q := by subst hb; exact h
theorem W.brF {b : Bool} {t e : AM α} {Q : α → AHeap → Prop} (hb : b = false) (h : W e H Q) : W (Am.br (.bool b) t e) H Q := by subst hb; exact h
theorem W.gdT {b w : Bool} {m : AM AVal} {f : AVal → AM β} {Q : β → AHeap → Prop} (hb : b = w) (h : W (Am.bnd m f) H Q) : W (Am.bnd (gd (.bool b) w m) f) H Q := by
  subst hb; simpa [gd] using h
theorem W.gdF {b w : Bool} {m : AM AVal} {f : AVal → AM β} {Q : β → AHeap → Prop} (hb : b = !w) (h : W (f (.tuple [])) H Q) : W (Am.bnd (gd (.bool b) w m) f) H Q := by
  subst hb
  refine W.p ?_ h
  cases w <;> rfl
theorem W.pickT {b : Bool} {x y : AVal} {f : AVal → AM β} {Q : β → AHeap → Prop} (hb : b = true) (h : W (f x) H Q) : W (Am.bnd (pick3 (.bool b) x y) f) H Q := by subst hb; exact W.p rfl h
theorem W.pickF {b : Bool} {x y : AVal} {f : AVal → AM β} {Q : β → AHeap → Prop} (hb : b = false) (h : W (f y) H Q) : W (Am.bnd (pick3 (.bool b) x y) f) H Q := by subst hb; exact W.p rfl h
theorem W.getH {f : AHeap → AM β} {Q : β → AHeap → Prop} (h : W (f H) H Q) : W (Am.bnd Am.getH f) H Q := W.e rfl h
theorem W.agn1 {m : AM AVal} {v : AVal} {Hs : AHeap} {f : Unit → AM β} {Q : β → AHeap → Prop} (e : m Hs = some (v, Hs)) (h : W (f ()) H Q) : W (Am.bnd (agn m v [Hs]) f) H Q := by
  refine W.e (a := ()) ?_ h
  simp [agn, e, Am.ret]
theorem W.agn2 {m : AM AVal} {v : AVal} {Hs Ht : AHeap} {f : Unit → AM β} {Q : β → AHeap → Prop} (e : m Hs = some (v, Hs)) (e' : m Ht = some (v, Ht)) (h : W (f ()) H Q) : W (Am.bnd (agn m v [Hs, Ht]) f) H Q := by
  refine W.e (a := ()) ?_ h
  simp [agn, e, e', Am.ret]

theorem ife_eq {x : Ex} {A B : AM α} : ife x x A B = A := if_pos rfl
theorem ife_ne {x e : Ex} {A B : AM α} (h : x ≠ e) : ife x e A B = B := if_neg h

/-- One round of a loop, or its end. -/
def LQ (I : Nat → List AVal → AHeap → Prop) (Q : Ex × List AVal → AHeap → Prop) (n : Nat) (r : Ex × List AVal) (H : AHeap) : Prop :=
  match r.1 with
  | .normal => ∃ m, m < n ∧ I m r.2 H
  | _ => Q r H
theorem LQ.nx {I : Nat → List AVal → AHeap → Prop} {Q : Ex × List AVal → AHeap → Prop} {n m : Nat} {s : List AVal} (hm : m < n) (h : I m s H) : W (rx .normal s) H (LQ I Q n) := W.ret ⟨m, hm, h⟩
theorem LQ.ex {I : Nat → List AVal → AHeap → Prop} {Q : Ex × List AVal → AHeap → Prop} {n i : Nat} {s : List AVal} (h : Q (.exit i, s) H) : W (rx (.exit i) s) H (LQ I Q n) := W.ret h
theorem LQ.rt {I : Nat → List AVal → AHeap → Prop} {Q : Ex × List AVal → AHeap → Prop} {n : Nat} {s : List AVal} (h : Q (.ret, s) H) : W (rx .ret s) H (LQ I Q n) := W.ret h
theorem W.loop {body : List AVal → AM (Ex × List AVal)} {Q : Ex × List AVal → AHeap → Prop} (I : Nat → List AVal → AHeap → Prop) (step : ∀ n s H, I n s H → W (body s) H (LQ I Q n)) :
    ∀ (n : Nat) {s : List AVal} {H : AHeap}, I n s H → W (loopL body s) H Q := by
  intro n
  induction n using Nat.strongRecOn with
  | _ n ih =>
    intro s H h
    obtain ⟨⟨e, s'⟩, H', h1, h2⟩ := step n s H h
    cases e with
    | normal =>
      obtain ⟨m, hm, hi⟩ := h2
      obtain ⟨a, H'', h3, h4⟩ := ih m hm hi
      exact ⟨a, H'', by rw [loopL_step h1]; exact h3, h4⟩
    | exit i => exact ⟨_, H', loopL_end h1 (by simp), h2⟩
    | ret => exact ⟨_, H', loopL_end h1 (by simp), h2⟩
/-- A loop at the head of a program. -/
theorem W.lp {body : List AVal → AM (Ex × List AVal)} {f : Ex × List AVal → AM β} {Q : β → AHeap → Prop} (I : Nat → List AVal → AHeap → Prop) (R : Ex × List AVal → AHeap → Prop) (n : Nat) {s : List AVal} (h : I n s H)
    (step : ∀ n s H, I n s H → W (body s) H (LQ I R n)) (k : ∀ r H', R r H' → W (f r) H' Q) : W (Am.bnd (loopL body s) f) H Q := W.c (W.loop I step n h) k

/-! ### Numbers -/
abbrev i64 (n : Int) : AVal := .int .i64 n
def In64 (n : Int) : Prop := -9223372036854775808 ≤ n ∧ n ≤ 9223372036854775807
variable {f : AVal → AM β} {Q : β → AHeap → Prop} {k : IntKind} {a b : Int}
theorem wrap_in {n : Int} (h : In64 n) : IntKind.i64.wrap n = n := IntWalk.i64_in n h
theorem W.lss (h : W (f (.bool (decide (a < b)))) H Q) : W (Am.bnd (abin .lss (.int k a) (.int k b)) f) H Q := W.p (by simp [abin]) h
theorem W.leq (h : W (f (.bool (decide (a ≤ b)))) H Q) : W (Am.bnd (abin .leq (.int k a) (.int k b)) f) H Q := W.p (by simp [abin]) h
theorem W.gtr (h : W (f (.bool (decide (b < a)))) H Q) : W (Am.bnd (abin .gtr (.int k a) (.int k b)) f) H Q := W.p (by simp [abin]) h
theorem W.geq (h : W (f (.bool (decide (b ≤ a)))) H Q) : W (Am.bnd (abin .geq (.int k a) (.int k b)) f) H Q := W.p (by simp [abin]) h
theorem W.eql (h : W (f (.bool (decide (a = b)))) H Q) : W (Am.bnd (abin .eql (.int k a) (.int k b)) f) H Q := W.p (by simp [abin]; rfl) h
theorem W.neq (h : W (f (.bool (decide (a ≠ b)))) H Q) : W (Am.bnd (abin .neq (.int k a) (.int k b)) f) H Q := W.p (by simp [abin]; rfl) h
theorem W.addw (h : W (f (.int k (k.wrap (a + b)))) H Q) : W (Am.bnd (abin .add (.int k a) (.int k b)) f) H Q := W.p (by simp [abin, wr]) h
theorem W.subw (h : W (f (.int k (k.wrap (a - b)))) H Q) : W (Am.bnd (abin .sub (.int k a) (.int k b)) f) H Q := W.p (by simp [abin, wr]) h
theorem W.mulw (h : W (f (.int k (k.wrap (a * b)))) H Q) : W (Am.bnd (abin .mul (.int k a) (.int k b)) f) H Q := W.p (by simp [abin, wr]) h
theorem W.add (r : In64 (a + b)) (h : W (f (i64 (a + b))) H Q) : W (Am.bnd (abin .add (i64 a) (i64 b)) f) H Q := W.addw (by rw [wrap_in r]; exact h)
theorem W.sub (r : In64 (a - b)) (h : W (f (i64 (a - b))) H Q) : W (Am.bnd (abin .sub (i64 a) (i64 b)) f) H Q := W.subw (by rw [wrap_in r]; exact h)
theorem W.mul (r : In64 (a * b)) (h : W (f (i64 (a * b))) H Q) : W (Am.bnd (abin .mul (i64 a) (i64 b)) f) H Q := W.mulw (by rw [wrap_in r]; exact h)
theorem W.inc {n m : Nat} (r : n + m ≤ 9223372036854775807) (h : W (f (i64 ((n + m : Nat) : Int))) H Q) : W (Am.bnd (abin .add (i64 (n : Int)) (i64 (m : Int))) f) H Q :=
  W.add (by unfold In64; omega) (by simpa using h)
theorem W.quo (hb : b ≠ 0) (h : W (f (.int k (k.wrap (a.tdiv b)))) H Q) : W (Am.bnd (abin .quo (.int k a) (.int k b)) f) H Q := W.p (by simp [abin, wr, hb]) h
theorem W.rem (hb : b ≠ 0) (h : W (f (.int k (a.tmod b))) H Q) : W (Am.bnd (abin .rem (.int k a) (.int k b)) f) H Q := W.p (by simp [abin, hb]) h
theorem W.and (h : W (f (.int k (k.wrap (BitVec.ofInt k.bits a &&& BitVec.ofInt k.bits b).toNat))) H Q) : W (Am.bnd (abin .and (.int k a) (.int k b)) f) H Q := W.p (by simp [abin, ibits]) h
theorem W.or (h : W (f (.int k (k.wrap (BitVec.ofInt k.bits a ||| BitVec.ofInt k.bits b).toNat))) H Q) : W (Am.bnd (abin .or (.int k a) (.int k b)) f) H Q := W.p (by simp [abin, ibits]) h
theorem W.xor (h : W (f (.int k (k.wrap (BitVec.ofInt k.bits a ^^^ BitVec.ofInt k.bits b).toNat))) H Q) : W (Am.bnd (abin .xor (.int k a) (.int k b)) f) H Q := W.p (by simp [abin, ibits]) h
theorem W.shr {k' : IntKind} (hb : 0 ≤ b) (h : W (f (.int k (a.fdiv (2 ^ (min b.toNat k.bits))))) H Q) : W (Am.bnd (abin .shr (.int k a) (.int k' b)) f) H Q := W.p (by simp [abin]; omega) h
theorem W.shl {k' : IntKind} (hb : 0 ≤ b) (h : W (f (.int k (k.wrap (a * 2 ^ (min b.toNat k.bits))))) H Q) : W (Am.bnd (abin .shl (.int k a) (.int k' b)) f) H Q := W.p (by simp [abin, wr]; omega) h
theorem W.neg (r : In64 (-a)) (h : W (f (i64 (-a))) H Q) : W (Am.bnd (aun .neg (i64 a)) f) H Q := W.p (by simp [aun, wr, wrap_in r]) h
theorem W.negw (h : W (f (.int k (k.wrap (-a)))) H Q) : W (Am.bnd (aun .neg (.int k a)) f) H Q := W.p (by simp [aun, wr]) h
theorem W.cv {k' : IntKind} (h : W (f (.int k (k.wrap a))) H Q) : W (Am.bnd (cvInt k (.int k' a)) f) H Q := W.p rfl h
theorem W.not {p : Prop} [Decidable p] (h : W (f (.bool (decide (¬p)))) H Q) : W (Am.bnd (aun .not (.bool (decide p))) f) H Q := W.p (by simp [aun]) h
theorem W.notb {b : Bool} (h : W (f (.bool (!b))) H Q) : W (Am.bnd (aun .not (.bool b)) f) H Q := W.p rfl h
theorem W.min {a b : Int} {f : AVal → AM β} (h : W (f (i64 (Min.min a b))) H Q) : W (Am.bnd (afoldM amin2 [i64 b] (i64 a)) f) H Q := by
  refine W.p (a := i64 (Min.min a b)) ?_ h
  have : Min.min a b = if b < a then b else a := by rw [Int.min_def]; split <;> split <;> omega
  rw [this]; rfl
theorem W.max {a b : Int} {f : AVal → AM β} (h : W (f (i64 (Max.max a b))) H Q) : W (Am.bnd (afoldM amax2 [i64 b] (i64 a)) f) H Q := by
  refine W.p (a := i64 (Max.max a b)) ?_ h
  have : Max.max a b = if b > a then b else a := by rw [Int.max_def]; split <;> split <;> omega
  rw [this]; rfl
theorem W.extr {cs : List AVal} {n : Nat} {v : AVal} (e : cs[n]? = some v) (h : W (f v) H Q) : W (Am.bnd (extr n (.tuple cs)) f) H Q := W.p (by simp [Am.extr, e]) h
theorem W.fld1 {cs : List AVal} {n : Nat} {v : AVal} (e : cs[n]? = some v) (h : W (f v) H Q) : W (Am.bnd (fld1 n (.agg cs)) f) H Q := W.p (by simp [Am.fld1, e]) h
theorem W.fldn {cs : List AVal} {off n : Nat} (e : off + n ≤ cs.length) (h : W (f (.agg ((cs.drop off).take n))) H Q) : W (Am.bnd (fldn off n (.agg cs)) f) H Q := W.p (by simp [Am.fldn, e]) h
theorem W.lenT {s : List UInt8} (h : W (f (i64 (s.length : Int))) H Q) : W (Am.bnd (lenT (.str s)) f) H Q := W.p rfl h
theorem W.ixStr {s : List UInt8} {n : Nat} (hn : n < s.length) (h : W (f (.int .u8 (s[n]'hn).toNat)) H Q) : W (Am.bnd (ixStr (.str s) (.int k (n : Int))) f) H Q := W.p (by simp [Am.ixStr, hn]) h
theorem W.cell1 {v : AVal} {f : AVal → AM β} (hv : v.isCell = true) (h : W (f v) H Q) : W (Am.bnd (cell1 v) f) H Q := W.p (by cases v <;> first | rfl | simp [AVal.isCell] at hv) h
end

/-! ### Heaps -/
/-- Nothing stands beyond the next place. -/
def Hp (H : AHeap) : Prop := ∀ id, H.next ≤ id → H.get id = none
/-- What a run may have changed among the blocks that it found: those in S. -/
structure Fr (S : Nat → Prop) (H H' : AHeap) : Prop where
  wf : Hp H'
  nx : H.next ≤ H'.next
  keep : ∀ id, id < H.next → ¬S id → H'.get id = H.get id
abbrev No : Nat → Prop := fun _ => False
abbrev Le (H H' : AHeap) : Prop := Fr No H H'
/-- The blocks that stand there only since H. -/
abbrev Nw (H : AHeap) : Nat → Prop := fun id => H.next ≤ id
theorem Le.refl {H : AHeap} (h : Hp H) : Le H H := ⟨h, Nat.le_refl _, fun _ _ _ => rfl⟩
theorem Fr.mono {S T : Nat → Prop} {H H' : AHeap} (h : Fr S H H') (hs : ∀ id, id < H.next → S id → T id) : Fr T H H' := ⟨h.wf, h.nx, fun id hi hn => h.keep id hi fun hS => hn (hs id hi hS)⟩
theorem Fr.trans {S T U : Nat → Prop} {H H1 H2 : AHeap} (h : Fr S H H1) (h' : Fr T H1 H2) (hs : ∀ id, id < H.next → S id ∨ T id → U id) : Fr U H H2 :=
  ⟨h'.wf, Nat.le_trans h.nx h'.nx, fun id hi hn => (h'.keep id (Nat.lt_of_lt_of_le hi h.nx) fun ht => hn (hs id hi (.inr ht))).trans (h.keep id hi fun hS => hn (hs id hi (.inl hS)))⟩
theorem Fr.tr {S : Nat → Prop} {H H1 H2 : AHeap} (h : Fr S H H1) (h' : Fr S H1 H2) : Fr S H H2 := h.trans h' fun _ _ h => h.elim id id
/-- Changes since H1 to what stands there only since H do not count at H. -/
theorem Fr.nw {S T : Nat → Prop} {H H1 H2 : AHeap} (h : Fr S H H1) (h' : Fr T H1 H2) (hs : ∀ id, id < H.next → T id → S id) : Fr S H H2 := h.trans h' fun id hi h => h.elim (fun x => x) (hs id hi)
theorem Le.push {H : AHeap} (h : Hp H) (o : AObj) : Le H (H.push o) :=
  ⟨fun id hi => by
      have : H.next + 1 ≤ id := hi
      show (if id = H.next then some o else H.get id) = none
      rw [if_neg (by omega)]; exact h id (by omega), Nat.le_succ _, fun id hi _ => by
      show (if id = H.next then some o else H.get id) = _
      rw [if_neg (by omega)]⟩
theorem Fr.set {H : AHeap} (h : Hp H) {i : Nat} (hi : i < H.next) (o : AObj) : Fr (· = i) H (H.set i o) :=
  ⟨fun id hid => by
      show (if id = i then some o else H.get id) = none
      have : H.next ≤ id := hid
      rw [if_neg (by omega)]; exact h id hid, Nat.le_refl _, fun id _ hn => by
      show (if id = i then some o else H.get id) = _
      rw [if_neg hn]⟩
theorem get_set {H : AHeap} {i : Nat} {o : AObj} : (H.set i o).get i = some o := if_pos rfl
theorem get_push {H : AHeap} {o : AObj} : (H.push o).get H.next = some o := if_pos rfl

/-! ### Sequences -/
inductive Md | ro | rw | own
def Md.ok : Md → (fz off len clen : Nat) → Prop
  | .ro, _, _, _, _ => True
  | .rw, fz, off, _, _ => fz ≤ off
  | .own, fz, off, len, clen => fz ≤ off ∧ off + len = clen
theorem Md.ro_of {m : Md} {fz off len clen : Nat} : Md.ok .ro fz off len clen := trivial
variable {X : Type}
/-- Elements of one cell each, that stand for the members of L by R. -/
inductive Seq (R : AHeap → AVal → X → Prop) (m : Md) (P : Nat → Prop) (e : TypeId) (H : AHeap) : AVal → List X → Prop
  | nil : Seq R m P e H .nilS []
  | mk (id off fz : Nat) (c : List AVal) (L : List X) (hP : P id) (hid : id < H.next) (hg : H.get id = some (.cells c e fz)) (hl : off + L.length ≤ c.length) (hb : L.length ≤ maxLenA) (hm : m.ok fz off L.length c.length)
      (hR : ∀ i (hi : i < L.length), ∃ v, c[off + i]? = some v ∧ v.isCell = true ∧ R H v L[i]) : Seq R m P e H (.slice id off L.length 1) L
section
variable {R : AHeap → AVal → X → Prop} {m : Md} {P P' : Nat → Prop} {e : TypeId} {H H' : AHeap} {v : AVal} {L : List X}
theorem Seq.ro (h : Seq R m P e H v L) : Seq R .ro P e H v L := by
  cases h with
  | nil => exact .nil
  | mk id off fz c L hP hid hg hl hb hm hR => exact .mk id off fz c L hP hid hg hl hb trivial hR
theorem Seq.rw (h : Seq R .own P e H v L) : Seq R .rw P e H v L := by
  cases h with
  | nil => exact .nil
  | mk id off fz c L hP hid hg hl hb hm hR => exact .mk id off fz c L hP hid hg hl hb hm.1 hR
theorem Seq.mono (h : Seq R m P e H v L) (hp : ∀ id, id < H.next → P id → P' id) : Seq R m P' e H v L := by
  cases h with
  | nil => exact .nil
  | mk id off fz c L hP hid hg hl hb hm hR => exact .mk id off fz c L (hp id hid hP) hid hg hl hb hm hR
theorem Seq.bd (h : Seq R m P e H v L) : L.length ≤ 1073741824 := by
  cases h with
  | nil => exact Nat.zero_le _
  | mk id off fz c L hP hid hg hl hb hm hR => exact hb
theorem Seq.isCell (h : Seq R m P e H v L) : v.isCell = true := by cases h <;> rfl
theorem Seq.map {Y : Type} {R' : AHeap → AVal → Y → Prop} (h : Seq R m P e H v L) (g : X → Y) (hg : ∀ v x, R H v x → R' H v (g x)) : Seq R' m P e H v (L.map g) := by
  cases h with
  | nil => exact .nil
  | mk id off fz c L hP hid hgt hl hb hm hR =>
    have := Seq.mk (R := R') (m := m) (P := P) (e := e) (H := H) id off fz c (L.map g) hP hid hgt (by simpa using hl) (by simpa using hb) (by simpa using hm) (fun i hi => by
      have hi' : i < L.length := by simpa using hi
      obtain ⟨v, h1, h2, h3⟩ := hR i hi'
      exact ⟨v, h1, h2, by simpa using hg v _ h3⟩)
    simpa using this
/-- After a run that left its block, and what its elements stand for. -/
theorem Seq.fr {S : Nat → Prop} (h : Seq R m P e H v L) (hf : Fr S H H') (hS : ∀ id c fz, id < H.next → P id → H.get id = some (.cells c e fz) → ¬S id) (hr : ∀ v x, R H v x → R H' v x) : Seq R m P e H' v L := by
  cases h with
  | nil => exact .nil
  | mk id off fz c L hP hid hg hl hb hm hR =>
    exact .mk id off fz c L hP (Nat.lt_of_lt_of_le hid hf.nx) ((hf.keep id hid (hS id c fz hid hP hg)).trans hg) hl hb hm fun i hi => by
      obtain ⟨v, h1, h2, h3⟩ := hR i hi
      exact ⟨v, h1, h2, hr v _ h3⟩
/-- The address of an element. -/
def elemP (v : AVal) (n : Nat) : AVal :=
  match v with
  | .slice id off _ _ => .ptr id (off + n * 1)
  | _ => .undef
theorem Seq.lenA (h : Seq R m P e H v L) : Am.lenA v = Am.ret (i64 (L.length : Int)) := by cases h <;> rfl
theorem Seq.ixa (h : Seq R m P e H v L) {n : Nat} (hn : n < L.length) {k : IntKind} : Am.ixa 1 v (.int k (n : Int)) = Am.ret (elemP v n) := by
  cases h with
  | nil => exact absurd hn (Nat.not_lt_zero _)
  | mk id off fz c L hP hid hg hl hb hm hR => simp [Am.ixa, hn, elemP]
theorem Seq.ld1 (h : Seq R m P e H v L) {n : Nat} (hn : n < L.length) : ∃ x, Am.ld1 (elemP v n) H = some (x, H) ∧ R H x L[n] ∧ x.isCell = true := by
  cases h with
  | nil => exact absurd hn (Nat.not_lt_zero _)
  | mk id off fz c L hP hid hg hl hb hm hR =>
    obtain ⟨x, h1, h2, h3⟩ := hR n hn
    exact ⟨x, by simp [Am.ld1, elemP, rd, hg, h1], h3, h2⟩
/-- A part of a sequence. -/
theorem Seq.sl (h : Seq R m P e H v L) {lo hi : Option AVal} {l u : Nat} (hlo : bnds L.length lo hi = some (l, u)) (hm : m ≠ .own) (hlu : l ≤ u ∧ u ≤ L.length) : ∃ x, slS 1 v lo hi = Am.ret x ∧ Seq R m P e H x ((L.take u).drop l) := by
  cases h with
  | nil =>
    refine ⟨.nilS, ?_, by simpa using Seq.nil⟩
    simp only [List.length_nil] at hlo
    simp [slS, hlo]
  | mk id off fz c L hP hid hg hl hb hmo hR =>
    have hlen : ((L.take u).drop l).length = u - l := by simp; omega
    refine ⟨.slice id (off + l) ((L.take u).drop l).length 1, by rw [hlen]; simp [slS, hlo], .mk id (off + l) fz c _ hP hid hg (by rw [hlen]; omega) (by rw [hlen]; omega) ?_ fun i hi => ?_⟩
    · cases m with
      | ro => trivial
      | rw => exact Nat.le_trans hmo (Nat.le_add_right _ _)
      | own => exact absurd rfl hm
    · obtain ⟨x, h1, h2, h3⟩ := hR (l + i) (by rw [hlen] at hi; omega)
      exact ⟨x, by rw [← h1]; congr 1; omega, h2, by simpa using h3⟩
end
end Go.Am

end

section
set_option linter.unusedSimpArgs false
set_option linter.unusedVariables false
/- The abstract machine, part W: steps that make, lengthen and change sequences and variables. -/
namespace Go.Am
section
variable {α β X : Type} {H : AHeap} {f : AVal → AM β} {Q : β → AHeap → Prop}
variable {R : AHeap → AVal → X → Prop} {m : Md} {P P' : Nat → Prop} {e : TypeId} {v : AVal} {L M : List X}

theorem W.len (h : Seq R m P e H v L) (k : W (f (i64 (L.length : Int))) H Q) : W (Am.bnd (lenA v) f) H Q := W.p h.lenA k
theorem W.ix (h : Seq R m P e H v L) {n : Nat} (hn : n < L.length) {kd : IntKind} (k : W (f (elemP v n)) H Q) : W (Am.bnd (ixa 1 v (.int kd (n : Int))) f) H Q := W.p (h.ixa hn) k
theorem W.ld (h : Seq R m P e H v L) {n : Nat} (hn : n < L.length) (k : ∀ x, R H x L[n] → x.isCell = true → Am.ld1 (elemP v n) H = some (x, H) → W (f x) H Q) : W (Am.bnd (ld1 (elemP v n)) f) H Q := by
  obtain ⟨x, h1, h2, h3⟩ := h.ld1 hn
  exact W.r h1 (k x h2 h3 h1)
/-- The blocks of one element type among P. -/
def Bk (P : Nat → Prop) (e : TypeId) (H : AHeap) (id : Nat) : Prop := P id ∧ ∃ c fz, H.get id = some (.cells c e fz)

/-- Sequences that are made. -/
theorem seq_new (hp : Hp H) {cs : List AVal} (hlen : cs.length = L.length) (hb : L.length ≤ 1073741824) (hR : ∀ i (hi : i < L.length), ∃ v, cs[i]? = some v ∧ v.isCell = true ∧ R (H.push (.cells cs e 0)) v L[i]) :
    Seq R .own (Nw H) e (H.push (.cells cs e 0)) (.slice H.next 0 L.length 1) L :=
  .mk H.next 0 0 cs L (Nat.le_refl _) (Nat.lt_succ_self _) get_push (by omega) hb ⟨Nat.le_refl _, by omega⟩ fun i hi => by
    obtain ⟨v, h1, h2, h3⟩ := hR i hi
    exact ⟨v, by simpa using h1, h2, h3⟩
theorem W.mkseq (hp : Hp H) {n : Nat} {cs : List AVal} (L : List X) (hn : n = L.length) (hlen : cs.length = L.length) (hb : L.length ≤ 1073741824)
    (hR : ∀ H', Le H H' → ∀ i (hi : i < L.length), ∃ v, cs[i]? = some v ∧ v.isCell = true ∧ R H' v L[i]) (k : ∀ x H', Le H H' → Seq R .own (Nw H) e H' x L → W (f x) H' Q) :
    W (Am.bnd (allocS none e 1 n cs) f) H Q := by
  subst hn
  refine W.e (a := .slice H.next 0 L.length 1) (H' := H.push (.cells cs e 0)) rfl ?_
  exact k _ _ (Le.push hp _) (seq_new hp hlen hb (hR _ (Le.push hp _)))
/-- The empty slice. -/
theorem W.emp (hp : Hp H) (k : ∀ x H', Le H H' → Seq R .own (Nw H) e H' x [] → W (f x) H' Q) : W (Am.bnd (Am.bnd (Am.ret []) fun cs => allocS none e 1 0 cs) f) H Q :=
  W.assoc (W.rt (W.mkseq (R := R) hp [] rfl rfl (Nat.zero_le _) (fun _ _ i hi => absurd hi (Nat.not_lt_zero _)) k))
theorem W.lit1 (hp : Hp H) {u : AVal} {a : X} (hu : u.isCell = true) (hR : ∀ H', Le H H' → R H' u a) (k : ∀ x H', Le H H' → Seq R .own (Nw H) e H' x [a] → W (f x) H' Q) :
    W (Am.bnd (Am.bnd (Am.bnd (Am.cell1 u) fun y => Am.ret [y]) fun cs => allocS none e 1 1 cs) f) H Q :=
  W.assoc (W.assoc (W.cell1 hu (W.rt (W.mkseq (R := R) hp [a] rfl rfl (by simp) (fun H' hl i hi => by
    have : i = 0 := by simp at hi; exact hi
    subst this; exact ⟨u, rfl, hu, hR H' hl⟩) k))))
theorem W.lit2 (hp : Hp H) {u u' : AVal} {a a' : X} (hu : u.isCell = true) (hu' : u'.isCell = true) (hR : ∀ H', Le H H' → R H' u a ∧ R H' u' a') (k : ∀ x H', Le H H' → Seq R .own (Nw H) e H' x [a, a'] → W (f x) H' Q) :
    W (Am.bnd (Am.bnd (Am.bnd (Am.cell1 u) fun y => Am.bnd (Am.cell1 u') fun y' => Am.ret [y, y']) fun cs => allocS none e 1 2 cs) f) H Q :=
  W.assoc (W.assoc (W.cell1 hu (W.assoc (W.cell1 hu' (W.rt (W.mkseq (R := R) hp [a, a'] rfl rfl (by simp) (fun H' hl i hi => by
    match i, hi with
    | 0, _ => exact ⟨u, rfl, hu, (hR H' hl).1⟩
    | 1, _ => exact ⟨u', rfl, hu', (hR H' hl).2⟩) k))))))
theorem zrep1 (n : Nat) (z : AVal) : zrep n [z] = List.replicate n z := by
  unfold zrep
  induction n with
  | zero => rfl
  | succ n ih => simp only [List.replicate_succ, List.flatten_cons]; rw [ih]; rfl
theorem W.mk (hp : Hp H) {bytes : Nat} {z : AVal} {a : X} {n : Nat} {kd kd' : IntKind} (hz : z.isCell = true) (hb : bytes ≤ 65536) (hn : n ≤ 1073741824) (hR : ∀ H', Le H H' → R H' z a) (k : ∀ x H', Le H H' → Seq R .own (Nw H) e H' x (List.replicate n a) → W (f x) H' Q) :
    W (Am.bnd (mkS none e 1 bytes [z] (.int kd (n : Int)) (.int kd' (n : Int))) f) H Q := by
  have : mkS none e 1 bytes [z] (.int kd (n : Int)) (.int kd' (n : Int)) = allocS none e 1 n (zrep n [z]) := by
    simp only [mkS]
    rw [if_pos ⟨by omega, by omega, by unfold maxLenA; omega, hb⟩]
    rfl
  rw [this]
  have hz' : zrep n [z] = List.replicate n z := zrep1 n z
  refine W.mkseq hp (List.replicate n a) (by simp) (by simp [hz']) (by simpa using hn) (fun H' hl i hi => ?_) k
  have hi' : i < n := by simpa using hi
  exact ⟨z, by simp [hz', hi'], hz, by simpa using hR H' hl⟩

theorem src_of (h : Seq R m P e H v L) : ∃ new : List AVal, srcLen v = some L.length ∧ srcCells 1 v L.length H = some new ∧ new.length = L.length ∧ new.all AVal.isCell = true ∧ ∀ i (hi : i < L.length), ∃ u, new[i]? = some u ∧ u.isCell = true ∧ R H u L[i] := by
  cases h with
  | nil => exact ⟨[], rfl, rfl, rfl, rfl, fun i hi => absurd hi (Nat.not_lt_zero _)⟩
  | mk id off fz c L hP hid hg hl hb hm hR =>
    refine ⟨(c.drop off).take L.length, rfl, by simp [srcCells, rd, hg, hl], by simp; omega, ?_, fun i hi => ?_⟩
    · rw [List.all_eq_true]
      intro u hu
      obtain ⟨i, hi, rfl⟩ := List.mem_iff_getElem.1 hu
      simp only [List.length_take, List.length_drop] at hi
      obtain ⟨w, h1, h2, h3⟩ := hR i (by omega)
      simp only [List.getElem_take, List.getElem_drop]
      rw [List.getElem?_eq_some_iff] at h1
      obtain ⟨_, h1⟩ := h1
      rw [h1]; exact h2
    · obtain ⟨w, h1, h2, h3⟩ := hR i hi
      refine ⟨w, ?_, h2, h3⟩
      rw [List.getElem?_take_of_lt hi, List.getElem?_drop]
      exact h1
/-- append. -/
theorem W.app {P2 : Nat → Prop} {m2 : Md} {e2 : TypeId} {bytes : Nat} {x : AVal} (hp : Hp H) (h : Seq R .own P e H v L) (h2 : Seq R m2 P2 e2 H x M) (hb : bytes ≤ 4096) (hlen : L.length + M.length ≤ 1073741824) (hu : ∀ id, H.next ≤ id → P id)
    (hr : ∀ H', Fr (Bk P e H) H H' → ∀ v x, R H v x → R H' v x)
    (k : ∀ y H', Fr (Bk P e H) H H' → Seq R .own P e H' y (L ++ M) → W (f y) H' Q) : W (Am.bnd (appS e 1 bytes v x) f) H Q := by
  obtain ⟨new, s1, s2, s3, s4, s5⟩ := src_of h2
  cases h with
  | nil =>
    by_cases h0 : M.length = 0
    · have : M = [] := List.length_eq_zero_iff.1 h0
      subst this
      refine W.e (a := .nilS) (H' := H) ?_ (k _ _ ((Le.refl hp).mono fun _ _ h => h.elim) .nil)
      simp only [appS, s1, s2]
      rfl
    · have hfr : Fr (Bk P e H) H (H.push (.cells new e 0)) := (Le.push hp _).mono fun _ _ h => h.elim
      refine W.e (a := .slice H.next 0 M.length 1) (H' := H.push (.cells new e 0)) ?_ (k _ _ hfr ?_)
      · simp only [appS, s1, s2, h0, if_false]
        rw [if_pos ⟨by simp at hlen; simpa [maxLenA] using hlen, hb⟩]
      · have := (seq_new (R := R) (e := e) (L := M) hp (cs := new) s3 (by simp at hlen; exact hlen) (fun i hi => by
          obtain ⟨u, h1, h2, h3⟩ := s5 i hi
          exact ⟨u, h1, h2, hr _ hfr _ _ h3⟩)).mono (P' := P) (fun id hid h => hu id h)
        simpa using this
  | mk id off fz c L hP hid hg hl hbd hm hR =>
    by_cases h0 : M.length = 0
    · have : M = [] := List.length_eq_zero_iff.1 h0
      subst this
      refine W.e (a := .slice id off L.length 1) (H' := H) ?_ (k _ _ ((Le.refl hp).mono fun _ _ h => h.elim) (by simpa using Seq.mk id off fz c L hP hid hg hl hbd hm hR))
      simp only [appS, s1, s2]
      rfl
    · obtain ⟨hm1, hm2⟩ := hm
      have hset : Fr (Bk P e H) H (H.set id .dead) := (Fr.set hp hid _).mono fun i hi h => by subst h; exact ⟨hP, c, fz, hg⟩
      have hfr : Fr (Bk P e H) H ((H.set id .dead).push (.cells (c.drop off ++ new) e (fz - off))) := hset.nw (Le.push hset.wf _) fun _ _ h => h.elim
      have hz : fz - off = 0 := by omega
      have hlen2 : (L ++ M).length = L.length + M.length := by simp
      refine W.e (a := .slice H.next 0 (L ++ M).length 1) (H' := (H.set id .dead).push (.cells (c.drop off ++ new) e (fz - off))) ?_ (k _ _ hfr ?_)
      · simp only [appS, s1, s2, h0, if_false, hg]
        rw [if_pos ⟨trivial, by omega, by omega, by simpa [maxLenA] using hlen, hb, trivial, s4⟩, hlen2]
      · rw [hz] at hfr ⊢
        refine .mk H.next 0 0 (c.drop off ++ new) (L ++ M) (hu _ (Nat.le_refl _)) (Nat.lt_succ_self _) get_push (by simp; omega) (by simpa [maxLenA] using hlen) ⟨Nat.le_refl _, by simp; omega⟩ fun i hi => ?_
        by_cases hiL : i < L.length
        · obtain ⟨u, h1, h2, h3⟩ := hR i hiL
          refine ⟨u, ?_, h2, by rw [List.getElem_append_left hiL]; exact hr _ hfr _ _ h3⟩
          rw [Nat.zero_add, List.getElem?_append_left (by simp; omega), List.getElem?_drop]
          exact h1
        · obtain ⟨u, h1, h2, h3⟩ := s5 (i - L.length) (by omega)
          refine ⟨u, ?_, h2, by rw [List.getElem_append_right (by omega)]; exact hr _ hfr _ _ h3⟩
          rw [Nat.zero_add, List.getElem?_append_right (by simp; omega)]
          rw [← h1]; congr 1; simp; omega
/-- append of at least one: the block is a new one. -/
theorem W.appn {P2 : Nat → Prop} {m2 : Md} {e2 : TypeId} {bytes : Nat} {x : AVal} (hp : Hp H) (h : Seq R .own P e H v L) (h2 : Seq R m2 P2 e2 H x M) (h0 : ¬M.length = 0) (hb : bytes ≤ 4096) (hlen : L.length + M.length ≤ 1073741824)
    (hr : ∀ H', Fr (Bk P e H) H H' → ∀ v x, R H v x → R H' v x)
    (k : ∀ y H', Fr (Bk P e H) H H' → Seq R .own (· = H.next) e H' y (L ++ M) → W (f y) H' Q) : W (Am.bnd (appS e 1 bytes v x) f) H Q := by
  obtain ⟨new, s1, s2, s3, s4, s5⟩ := src_of h2
  cases h with
  | nil =>
    have hfr : Fr (Bk P e H) H (H.push (.cells new e 0)) := (Le.push hp _).mono fun _ _ h => h.elim
    refine W.e (a := .slice H.next 0 M.length 1) (H' := H.push (.cells new e 0)) ?_ (k _ _ hfr ?_)
    · simp only [appS, s1, s2, h0, if_false]
      rw [if_pos ⟨by simp at hlen; simpa [maxLenA] using hlen, hb⟩]
    · refine .mk H.next 0 0 new M rfl (Nat.lt_succ_self _) get_push (by omega) (by simp at hlen; simpa [maxLenA] using hlen) ⟨Nat.le_refl _, by omega⟩ fun i hi => ?_
      obtain ⟨u, h1, h2, h3⟩ := s5 i hi
      exact ⟨u, by simpa using h1, h2, hr _ hfr _ _ h3⟩
  | mk id off fz c L hP hid hg hl hbd hm hR =>
    obtain ⟨hm1, hm2⟩ := hm
    have hset : Fr (Bk P e H) H (H.set id .dead) := (Fr.set hp hid _).mono fun i hi h => by subst h; exact ⟨hP, c, fz, hg⟩
    have hfr : Fr (Bk P e H) H ((H.set id .dead).push (.cells (c.drop off ++ new) e (fz - off))) := hset.nw (Le.push hset.wf _) fun _ _ h => h.elim
    have hz : fz - off = 0 := by omega
    have hlen2 : (L ++ M).length = L.length + M.length := by simp
    refine W.e (a := .slice H.next 0 (L ++ M).length 1) (H' := (H.set id .dead).push (.cells (c.drop off ++ new) e (fz - off))) ?_ (k _ _ hfr ?_)
    · simp only [appS, s1, s2, h0, if_false, hg]
      rw [if_pos ⟨trivial, by omega, by omega, by simpa [maxLenA] using hlen, hb, trivial, s4⟩, hlen2]
    · rw [hz] at hfr ⊢
      refine .mk H.next 0 0 (c.drop off ++ new) (L ++ M) rfl (Nat.lt_succ_self _) get_push (by simp; omega) (by simpa [maxLenA] using hlen) ⟨Nat.le_refl _, by simp; omega⟩ fun i hi => ?_
      by_cases hiL : i < L.length
      · obtain ⟨u, h1, h2, h3⟩ := hR i hiL
        refine ⟨u, ?_, h2, by rw [List.getElem_append_left hiL]; exact hr _ hfr _ _ h3⟩
        rw [Nat.zero_add, List.getElem?_append_left (by simp; omega), List.getElem?_drop]
        exact h1
      · obtain ⟨u, h1, h2, h3⟩ := s5 (i - L.length) (by omega)
        refine ⟨u, ?_, h2, by rw [List.getElem_append_right (by omega)]; exact hr _ hfr _ _ h3⟩
        rw [Nat.zero_add, List.getElem?_append_right (by simp; omega)]
        rw [← h1]; congr 1; simp; omega
theorem splice1_get {c : List AVal} {i n : Nat} {u : AVal} (hi : i < c.length) : (splice c i [u])[n]? = if n = i then some u else c[n]? := by
  simp only [splice, List.length_singleton]
  by_cases h1 : n < i
  · rw [List.append_assoc, List.getElem?_append_left (by simp; omega), List.getElem?_take_of_lt h1, if_neg (by omega)]
  · by_cases h2 : n = i
    · subst h2
      rw [List.append_assoc, List.getElem?_append_right (by simp; omega), List.length_take, Nat.min_eq_left (by omega), Nat.sub_self]
      simp
    · rw [List.getElem?_append_right (by simp; omega), List.getElem?_drop, if_neg h2]
      congr 1; simp; omega
theorem splice1_len {c : List AVal} {i : Nat} {u : AVal} (hi : i < c.length) : (splice c i [u]).length = c.length := by simp [splice]; omega
/-- An element is stored. -/
theorem W.st {u : AVal} {a : X} {n : Nat} (hp : Hp H) (h : Seq R m P e H v L) (hm : m ≠ .ro) (hn : n < L.length) (hu : u.isCell = true)
    (hr : ∀ H', Fr (Bk P e H) H H' → ∀ v x, R H v x → R H' v x) (ha : R H u a)
    (k : ∀ H', Fr (Bk P e H) H H' → Seq R m P e H' v (L.set n a) → W (f .undef) H' Q) : W (Am.bnd (st1 (elemP v n) u) f) H Q := by
  cases h with
  | nil => exact absurd hn (Nat.not_lt_zero _)
  | mk id off fz c L hP hid hg hl hbd hmo hR =>
    have hfz : fz ≤ off := by
      cases m with
      | ro => exact absurd rfl hm
      | rw => exact hmo
      | own => exact hmo.1
    have hc1 : Am.cell1 u = Am.ret u := by cases u <;> first | rfl | simp [AVal.isCell] at hu
    have hfr : Fr (Bk P e H) H (H.set id (.cells (splice c (off + n) [u]) e fz)) := (Fr.set hp hid _).mono fun i hi h => by subst h; exact ⟨hP, c, fz, hg⟩
    refine W.e (a := .undef) (H' := H.set id (.cells (splice c (off + n) [u]) e fz)) ?_ (k _ hfr ?_)
    · show st1 (.ptr id (off + n * 1)) u H = _
      simp only [st1, hc1, Am.bnd, Am.ret, stCells, hg]
      rw [if_pos ⟨by omega, by simp; omega⟩, Nat.mul_one]
    · have := Seq.mk (R := R) (m := m) (P := P) (e := e) (H := H.set id (.cells (splice c (off + n) [u]) e fz)) id off fz (splice c (off + n) [u]) (L.set n a) hP hid get_set
        (by rw [splice1_len (by omega)]; simpa using hl) (by simpa using hbd) (by rw [splice1_len (by omega)]; simpa using hmo) (fun i hi => by
          have hi' : i < L.length := by simpa using hi
          rw [splice1_get (by omega)]
          by_cases hin : i = n
          · subst hin
            exact ⟨u, by simp, hu, by simpa using hr _ hfr _ _ ha⟩
          · obtain ⟨w, h1, h2, h3⟩ := hR i hi'
            refine ⟨w, by rw [if_neg (by omega)]; exact h1, h2, ?_⟩
            rw [List.getElem_set_ne (by omega)]
            exact hr _ hfr _ _ h3)
      simpa using this

/-! ### Variables -/
def Bx (P : Nat → Prop) (e : TypeId) (H : AHeap) (x : AVal) (cs : List AVal) : Prop := ∃ id, x = .ptr id 0 ∧ P id ∧ id < H.next ∧ H.get id = some (.cells cs e 0)
def fieldP (x : AVal) (n : Nat) : AVal :=
  match x with
  | .ptr id off => .ptr id (off + n)
  | _ => .undef
variable {x : AVal} {cs ds : List AVal}
theorem Bx.fr {S : Nat → Prop} {H' : AHeap} (h : Bx P e H x cs) (hf : Fr S H H') (hS : ∀ id c fz, id < H.next → P id → H.get id = some (.cells c e fz) → ¬S id) : Bx P e H' x cs := by
  obtain ⟨id, rfl, h1, h2, h3⟩ := h
  exact ⟨id, rfl, h1, Nat.lt_of_lt_of_le h2 hf.nx, (hf.keep id h2 (hS id _ _ h2 h1 h3)).trans h3⟩
theorem Bx.le {H' : AHeap} (h : Bx P e H x cs) (hf : Le H H') : Bx P e H' x cs := h.fr hf fun _ _ _ _ _ _ h => h
theorem Bx.mono (h : Bx P e H x cs) (hp : ∀ id, id < H.next → P id → P' id) : Bx P' e H x cs := by
  obtain ⟨id, rfl, h1, h2, h3⟩ := h
  exact ⟨id, rfl, hp id h2 h1, h2, h3⟩
theorem W.alloc (hp : Hp H) (k : ∀ x H', Le H H' → Bx (Nw H) e H' x cs → W (f x) H' Q) : W (Am.bnd (allocC none e cs) f) H Q :=
  W.e (a := .ptr H.next 0) (H' := H.push (.cells cs e 0)) rfl (k _ _ (Le.push hp _) ⟨_, rfl, Nat.le_refl _, Nat.lt_succ_self _, get_push⟩)
theorem W.box (hp : Hp H) {n : Nat} (hn : n ≠ 1) (hl : cs.length = n) (hc : cs.all AVal.isCell = true) (k : ∀ x H', Le H H' → Bx (Nw H) e H' x cs → W (f x) H' Q) : W (Am.bnd (boxA none e n (.agg cs)) f) H Q := by
  refine W.e (a := .ptr H.next 0) (H' := H.push (.cells cs e 0)) ?_ (k _ _ (Le.push hp _) ⟨_, rfl, Nat.le_refl _, Nat.lt_succ_self _, get_push⟩)
  simp only [boxA, if_neg hn, cellsN]
  rw [if_pos ⟨hl, hc⟩]; rfl
theorem W.box1 (hp : Hp H) {u : AVal} (hu : u.isCell = true) (k : ∀ x H', Le H H' → Bx (Nw H) e H' x [u] → W (f x) H' Q) : W (Am.bnd (boxA none e 1 u) f) H Q := by
  refine W.e (a := .ptr H.next 0) (H' := H.push (.cells [u] e 0)) ?_ (k _ _ (Le.push hp _) ⟨_, rfl, Nat.le_refl _, Nat.lt_succ_self _, get_push⟩)
  have hc1 : Am.cell1 u = Am.ret u := by cases u <;> first | rfl | simp [AVal.isCell] at hu
  simp only [boxA, if_true, hc1]
  rfl
theorem W.fadd (h : Bx P e H x cs) {n : Nat} (k : W (f (fieldP x n)) H Q) : W (Am.bnd (fadd n x) f) H Q := by
  obtain ⟨id, rfl, h1, h2, h3⟩ := h
  exact W.p rfl k
theorem W.nck (h : Bx P e H x cs) (k : W (f x) H Q) : W (Am.bnd (ncheck x) f) H Q := by
  obtain ⟨id, rfl, h1, h2, h3⟩ := h
  exact W.p rfl k
theorem Bx.ld1 (h : Bx P e H x cs) {n : Nat} {u : AVal} (hu : cs[n]? = some u) : Am.ld1 (fieldP x n) H = some (u, H) := by
  obtain ⟨id, rfl, h1, h2, h3⟩ := h
  simp [Am.ld1, fieldP, rd, h3, hu]
theorem Bx.ld0 (h : Bx P e H x cs) {u : AVal} (hu : cs[0]? = some u) : Am.ld1 x H = some (u, H) := by
  obtain ⟨id, rfl, h1, h2, h3⟩ := h
  simp [Am.ld1, fieldP, rd, h3, hu]
theorem Bx.ldn (h : Bx P e H x cs) {n k : Nat} (hn : n + k ≤ cs.length) : Am.ldn k (fieldP x n) H = some (.agg ((cs.drop n).take k), H) := by
  obtain ⟨id, rfl, h1, h2, h3⟩ := h
  simp [Am.ldn, fieldP, rd, h3, hn]
theorem Bx.ldw (h : Bx P e H x cs) {k : Nat} (hk : k = cs.length) : Am.ldn k x H = some (.agg cs, H) := by
  obtain ⟨id, rfl, h1, h2, h3⟩ := h
  subst hk
  simp [Am.ldn, rd, h3]
theorem W.fl (h : Bx P e H x cs) {n : Nat} {u : AVal} (hu : cs[n]? = some u) (k : W (f u) H Q) : W (Am.bnd (ld1 (fieldP x n)) f) H Q := W.r (h.ld1 hu) k
theorem W.f0 (h : Bx P e H x cs) {u : AVal} (hu : cs[0]? = some u) (k : W (f u) H Q) : W (Am.bnd (ld1 x) f) H Q := W.r (h.ld0 hu) k
theorem W.flw (h : Bx P e H x cs) {n : Nat} (hn : n = cs.length) (k : W (f (.agg cs)) H Q) : W (Am.bnd (ldn n x) f) H Q := W.r (h.ldw hn) k
theorem W.fst {n : Nat} {u : AVal} (hp : Hp H) (h : Bx P e H x cs) (hn : n < cs.length) (hu : u.isCell = true) (k : ∀ H', Fr (Bk P e H) H H' → Bx P e H' x (cs.set n u) → W (f .undef) H' Q) : W (Am.bnd (st1 (fieldP x n) u) f) H Q := by
  obtain ⟨id, rfl, h1, h2, h3⟩ := h
  have hc1 : Am.cell1 u = Am.ret u := by cases u <;> first | rfl | simp [AVal.isCell] at hu
  have hs : splice cs n [u] = cs.set n u := by
    apply List.ext_getElem?
    intro i
    rw [splice1_get hn, List.getElem?_set]
    by_cases hi : n = i
    · subst hi; simp [hn]
    · rw [if_neg (fun h => hi h.symm), if_neg hi]
  have hfr : Fr (Bk P e H) H (H.set id (.cells (cs.set n u) e 0)) := (Fr.set hp h2 _).mono fun i hi h => by subst h; exact ⟨h1, cs, 0, h3⟩
  refine W.e (a := .undef) (H' := H.set id (.cells (cs.set n u) e 0)) ?_ (k _ hfr ⟨id, rfl, h1, h2, get_set⟩)
  show st1 (.ptr id (0 + n)) u H = _
  simp only [st1, hc1, Am.bnd, Am.ret, stCells, h3]
  rw [if_pos ⟨Nat.zero_le _, by simp; omega⟩, Nat.zero_add, hs]
theorem W.fs0 {u : AVal} (hp : Hp H) (h : Bx P e H x cs) (hn : 0 < cs.length) (hu : u.isCell = true) (k : ∀ H', Fr (Bk P e H) H H' → Bx P e H' x (cs.set 0 u) → W (f .undef) H' Q) : W (Am.bnd (st1 x u) f) H Q := by
  have : fieldP x 0 = x := by obtain ⟨id, rfl, h1, h2, h3⟩ := h; rfl
  have h' := W.fst (f := f) (Q := Q) (n := 0) hp h hn hu k
  rwa [this] at h'
theorem W.fsw {n : Nat} (hp : Hp H) (h : Bx P e H x cs) (hn : n = cs.length) (hl : ds.length = n) (hd : ds.all AVal.isCell = true) (k : ∀ H', Fr (Bk P e H) H H' → Bx P e H' x ds → W (f .undef) H' Q) : W (Am.bnd (stn n x (.agg ds)) f) H Q := by
  obtain ⟨id, rfl, h1, h2, h3⟩ := h
  have hfr : Fr (Bk P e H) H (H.set id (.cells ds e 0)) := (Fr.set hp h2 _).mono fun i hi h => by subst h; exact ⟨h1, cs, 0, h3⟩
  refine W.e (a := .undef) (H' := H.set id (.cells ds e 0)) ?_ (k _ hfr ⟨id, rfl, h1, h2, get_set⟩)
  have hs : splice cs 0 ds = ds := by
    unfold splice
    have : cs.drop (0 + ds.length) = [] := by rw [List.drop_eq_nil_iff]; omega
    rw [this]; simp
  simp only [stn, cellsN]
  rw [if_pos ⟨hl, hd⟩]
  simp only [Am.bnd, Am.ret, stCells, h3]
  rw [if_pos ⟨Nat.zero_le _, by omega⟩, hs]
end
end Go.Am

end

section
set_option maxRecDepth 100000
set_option linter.unusedVariables false
-- made by wip/gen.py: the functions as abstract programs
namespace Go.Am
abbrev t_int64 : Nat := 2
abbrev t_int : Nat := 3
abbrev t_uint8 : Nat := 5
abbrev t_SSint64 : Nat := 22
abbrev t_Sint64 : Nat := 25
abbrev t_impl_Puzzle : Nat := 33
abbrev t_impl_Table : Nat := 50
abbrev t_Simpl_TableFault : Nat := 101
abbrev t_impl_TableFault : Nat := 104
abbrev t_laws_dice : Nat := 111
abbrev t_spec_stateSearch : Nat := 118
abbrev t_spec_source : Nat := 165
abbrev t_impl_FillJob : Nat := 167
abbrev t_impl_proof : Nat := 175
abbrev t_spec_chain : Nat := 252
abbrev k_s_lw_big : Nat := 29
abbrev k_s_sp_newSource : Nat := 75
abbrev k_s_sp_nextByte : Nat := 238
abbrev k_s_sp_below : Nat := 153
abbrev k_s_sp_copyInts : Nat := 133
abbrev k_s_sp_drawPermutation : Nat := 285
abbrev k_s_sp_oneIn : Nat := 152
abbrev k_s_sp_extremeInt : Nat := 202
abbrev k_s_sp_numberUpTo : Nat := 107
abbrev k_s_sp_drawAnyPermutation : Nat := 266
abbrev k_s_sp_l24DrawPuzzle : Nat := 234
abbrev k_s_sp_inRange : Nat := 113
abbrev k_s_sp_containsInt : Nat := 250
abbrev k_s_sp_IsPermutation : Nat := 212
abbrev k_s_sp_IsGeneratorSet : Nat := 170
abbrev k_s_sp_isMoveName : Nat := 171
abbrev k_s_sp_IsValidPuzzle : Nat := 81
abbrev k_s_sp_isPointList : Nat := 178
abbrev k_s_sp_IsTrackedSet : Nat := 88
abbrev k_s_sp_listPrecedes : Nat := 305
abbrev k_s_sp_searchSlot : Nat := 280
abbrev k_s_sp_searchAdd : Nat := 293
abbrev k_s_sp_lettersOf : Nat := 230
abbrev k_s_sp_inverse : Nat := 249
abbrev k_s_sp_Inverse : Nat := 281
abbrev k_s_sp_applyLetter : Nat := 231
abbrev k_s_sp_equalInts : Nat := 116
abbrev k_s_sp_searchIndex : Nat := 229
abbrev k_s_sp_searchFrom : Nat := 251
abbrev k_s_sp_searchPatterns : Nat := 204
abbrev k_s_sp_copyLists : Nat := 205
abbrev k_s_sp_BuildTable : Nat := 114
abbrev k_s_sp_l28Start : Nat := 286
abbrev k_s_sp_StartFill : Nat := 235
abbrev k_s_sp_l28CopyTable : Nat := 317
abbrev k_s_sp_l28Copy : Nat := 308
abbrev k_s_sp_Letters : Nat := 167
abbrev k_s_sp_isDistinctList : Nat := 179
abbrev k_s_sp_IsPattern : Nat := 165
abbrev k_s_sp_isWordOf : Nat := 125
abbrev k_s_sp_IsValidWord : Nat := 290
abbrev k_s_sp_applyLetters : Nat := 146
abbrev k_s_sp_PatternAfter : Nat := 244
abbrev k_s_sp_indexOfList : Nat := 166
abbrev k_s_sp_l28Record : Nat := 309
abbrev k_s_sp_Checksum : Nat := 311
abbrev k_s_sp_l29Uint32 : Nat := 310
abbrev k_s_sp_l28Expand : Nat := 287
abbrev k_s_sp_l28Step : Nat := 236
abbrev k_s_sp_between : Nat := 154
abbrev k_s_sp_corrupt : Nat := 237
abbrev k_s_sp_l28Draw : Nat := 151
abbrev k_s_sp_l30Draw : Nat := 76
abbrev k_s_sp_DrawIsAdmissibleTable : Nat := 30
abbrev k_s_im_within : Nat := 110
abbrev k_s_im_length_int64 : Nat := 96
abbrev k_s_im_IsPermutation : Nat := 252
abbrev k_s_im_IsGeneratorSet_1 : Nat := 289
abbrev k_s_Pim_proof_entryFaults_1 : Nat := 162
abbrev k_s_slices_IndexFunc_SSint64_Sint64 : Nat := 312
abbrev k_s_slices_ContainsFunc_SSint64_Sint64 : Nat := 288
abbrev k_s_im_IsGeneratorSet : Nat := 239
abbrev k_s_im_isNames : Nat := 240
abbrev k_s_im_IsValidPuzzle : Nat := 155
abbrev k_s_im_isPoint : Nat := 241
abbrev k_s_im_isTracked : Nat := 157
abbrev k_s_im_length_Sint64 : Nat := 111
abbrev k_s_slices_Index_Sint64_int64 : Nat := 278
abbrev k_s_slices_Contains_Sint64_int64 : Nat := 221
abbrev k_s_im_isPattern : Nat := 159
abbrev k_s_im_IsWellFormedTable : Nat := 156
abbrev k_s_im_letters : Nat := 158
abbrev k_s_im_stateKey : Nat := 160
abbrev k_s_im_inverse : Nat := 242
abbrev k_s_im_letterOf : Nat := 161
abbrev k_s_im_newProof : Nat := 77
abbrev k_s_slices_Equal_Sint64_int64 : Nat := 163
abbrev k_s_im_picked : Nat := 243
abbrev k_s_Pim_proof_to : Nat := 164
abbrev k_s_Pim_proof_entryFaults : Nat := 78
abbrev k_s_im_IsAdmissibleTable : Nat := 31
abbrev k_s_sp_IsWellFormedTable : Nat := 86
abbrev k_s_sp_l30Checkable : Nat := 79
abbrev k_s_sp_l30Next : Nat := 168
abbrev k_s_sp_l30Descent : Nat := 169
abbrev k_s_sp_l30Entry : Nat := 80
abbrev k_s_sp_IsAdmissibleTable : Nat := 32
abbrev k_s_lw_roll : Nat := 34
abbrev k_s_Plw_dice_below : Nat := 35
abbrev k_s_sp_l24IsSeed : Nat := 82
abbrev k_s_sp_NextRandom : Nat := 83
abbrev k_s_sp_identity : Nat := 121
abbrev k_s_sp_emptyChain : Nat := 245
abbrev k_s_sp_compose : Nat := 126
abbrev k_s_sp_sift : Nat := 275
abbrev k_s_sp_addProduct : Nat := 291
abbrev k_s_sp_addGenerator : Nat := 246
abbrev k_s_sp_buildChain : Nat := 173
abbrev k_s_sp_boolToInt : Nat := 292
abbrev k_s_sp_orbitSizes : Nat := 247
abbrev k_s_sp_chainOrder : Nat := 174
abbrev k_s_sp_GroupOrder : Nat := 172
abbrev k_s_sp_StateCount : Nat := 84
abbrev k_s_sp_membersPerChoice : Nat := 175
abbrev k_s_sp_insertSorted : Nat := 248
abbrev k_s_sp_choicesAt : Nat := 176
abbrev k_s_sp_withEntry : Nat := 177
abbrev k_s_sp_MemberAt : Nat := 85
abbrev k_s_sp_RandomState : Nat := 33
abbrev k_s_sp_isPermutationOf : Nat := 180
abbrev k_s_sp_IsState : Nat := 89
abbrev k_s_sp_projectState : Nat := 90
abbrev k_s_sp_PatternOf : Nat := 37
abbrev k_s_sp_tableEntry : Nat := 87
abbrev k_s_sp_TableLookup : Nat := 36
abbrev k_s_sp_searchStates : Nat := 181
abbrev k_s_sp_depthOf : Nat := 182
abbrev k_s_sp_searchState : Nat := 91
abbrev k_s_sp_Distance : Nat := 38
abbrev k_s_lw_FnAdmissibleTables : Nat := 5
noncomputable def s_lw_big (a0 : AVal) : AM AVal :=
 bnd (lenA a0) fun x1 =>
 bnd (abin .gtr x1 (.int .i64 4096)) fun x2 =>
 ret x2
noncomputable def s_sp_newSource (a0 : AVal) : AM AVal :=
 bnd (lenA a0) fun x1 =>
 bnd (abin .add (.int .i64 590033) x1) fun x2 =>
 bnd (loopL (fun s3 =>
 bnd (lenA a0) fun x4 =>
 bnd (abin .lss (gx s3 1) x4) fun x5 =>
 br x5
 (bnd (abin .mul (gx s3 0) (.int .i64 337)) fun x6 =>
 bnd (ixa 1 a0 (gx s3 1)) fun x7 =>
 bnd (ld1 x7) fun x8 =>
 bnd (cvInt .i64 x8) fun x9 =>
 bnd (abin .add x6 x9) fun x10 =>
 bnd (abin .add x10 (.int .i64 11)) fun x11 =>
 bnd (abin .and x11 (.int .i64 1073741823)) fun x12 =>
 bnd (abin .add (gx s3 1) (.int .i64 1)) fun x13 =>
 rx .normal [x12, x13])
 (rx (.exit 0) [gx s3 0])) [x2, .int .i64 0]) fun r14 =>
 ife r14.1 (.exit 0) (bnd (bnd (bnd (cell1 a0) fun y15 => bnd (cell1 (gx r14.2 0)) fun y16 => ret [y15, .int .i64 0, y16]) fun cs => ret (.agg cs)) fun x17 =>
 bnd (boxA none t_spec_source 3 x17) fun x18 =>
 ret x18) (fail)
noncomputable def s_sp_nextByte (a0 : AVal) : AM AVal :=
 bnd (ncheck a0) fun x1 =>
 bnd (fadd 2 x1) fun x2 =>
 bnd (ld1 x2) fun x3 =>
 bnd (abin .mul x3 (.int .i64 6364136223846793005)) fun x4 =>
 bnd (abin .add x4 (.int .i64 1442695040888963407)) fun x5 =>
 bnd (ncheck a0) fun x6 =>
 bnd (fadd 2 x6) fun x7 =>
 bnd (st1 x7 x5) fun _ =>
 bnd (ncheck a0) fun x8 =>
 bnd (fadd 2 x8) fun x9 =>
 bnd (ld1 x9) fun x10 =>
 bnd (ncheck a0) fun x11 =>
 bnd (fadd 2 x11) fun x12 =>
 bnd (ld1 x12) fun x13 =>
 bnd (abin .shr x10 (.int .u64 33)) fun x14 =>
 bnd (abin .shr x13 (.int .u64 45)) fun x15 =>
 bnd (abin .xor x14 x15) fun x16 =>
 bnd (abin .and x16 (.int .i64 255)) fun x17 =>
 bnd (ncheck a0) fun x18 =>
 bnd (fadd 1 x18) fun x19 =>
 bnd (ld1 x19) fun x20 =>
 bnd (ncheck a0) fun x21 =>
 bnd (fadd 0 x21) fun x22 =>
 bnd (ld1 x22) fun x23 =>
 bnd (lenA x23) fun x24 =>
 bnd (abin .lss x20 x24) fun x25 =>
 bnd (br x25 (bnd (ncheck a0) fun x26 =>
 bnd (fadd 0 x26) fun x27 =>
 bnd (ld1 x27) fun x28 =>
 bnd (ncheck a0) fun x29 =>
 bnd (fadd 1 x29) fun x30 =>
 bnd (ld1 x30) fun x31 =>
 bnd (ixa 1 x28 x31) fun x32 =>
 bnd (ld1 x32) fun x33 =>
 bnd (cvInt .i64 x33) fun x34 =>
 bnd (abin .add x17 x34) fun x35 =>
 bnd (abin .and x35 (.int .i64 255)) fun x36 =>
 bnd (ncheck a0) fun x37 =>
 bnd (fadd 1 x37) fun x38 =>
 bnd (ld1 x38) fun x39 =>
 bnd (abin .add x39 (.int .i64 1)) fun x40 =>
 bnd (ncheck a0) fun x41 =>
 bnd (fadd 1 x41) fun x42 =>
 bnd (st1 x42 x40) fun _ =>
 rx .normal [x36]) (rx .normal [x17])) fun r43 =>
 ife r43.1 .normal (ret (gx r43.2 0)) (fail)
noncomputable def s_sp_below (a0 a1 : AVal) : AM AVal :=
 bnd (abin .leq a1 (.int .i64 0)) fun x1 =>
 br x1
 (ret (.int .i64 0))
 (bnd (abin .leq a1 (.int .i64 256)) fun x2 =>
 br x2
 (bnd (s_sp_nextByte a0) fun x3 =>
 bnd (abin .rem x3 a1) fun x4 =>
 ret x4)
 (bnd (s_sp_nextByte a0) fun x5 =>
 bnd (s_sp_nextByte a0) fun x6 =>
 bnd (s_sp_nextByte a0) fun x7 =>
 bnd (s_sp_nextByte a0) fun x8 =>
 bnd (abin .mul x5 (.int .i64 16777216)) fun x9 =>
 bnd (abin .mul x6 (.int .i64 65536)) fun x10 =>
 bnd (abin .add x9 x10) fun x11 =>
 bnd (abin .mul x7 (.int .i64 256)) fun x12 =>
 bnd (abin .add x11 x12) fun x13 =>
 bnd (abin .add x13 x8) fun x14 =>
 bnd (abin .rem x14 a1) fun x15 =>
 ret x15))
noncomputable def s_sp_copyInts (a0 : AVal) : AM AVal :=
 bnd (bnd (ret []) fun cs => allocS none t_int64 1 0 cs) fun x1 =>
 bnd (appS t_int64 1 8 x1 a0) fun x2 =>
 ret x2
noncomputable def s_sp_drawPermutation (a0 a1 : AVal) : AM AVal :=
 bnd (bnd (ret []) fun cs => allocS none t_int64 1 0 cs) fun x1 =>
 bnd (loopL (fun s2 =>
 bnd (abin .lss (gx s2 1) a1) fun x3 =>
 br x3
 (bnd (abin .add (gx s2 1) (.int .i64 1)) fun x4 =>
 bnd (s_sp_below a0 x4) fun x5 =>
 bnd (reserve 12) fun b6 =>
 bnd (slS 1 (gx s2 0) none (some x5)) fun x7 =>
 bnd (s_sp_copyInts x7) fun x8 =>
 bnd (bnd (bnd (cell1 (gx s2 1)) fun y10 => ret [y10]) fun cs => allocS (some (b6 + 5)) t_int64 1 1 cs) fun x9 =>
 bnd (appS t_int64 1 8 x8 x9) fun x11 =>
 bnd (slS 1 (gx s2 0) (some x5) none) fun x12 =>
 bnd (appS t_int64 1 8 x11 x12) fun x13 =>
 bnd (abin .add (gx s2 1) (.int .i64 1)) fun x14 =>
 rx .normal [x13, x14])
 (rx (.exit 0) [gx s2 0])) [x1, .int .i64 0]) fun r15 =>
 ife r15.1 (.exit 0) (ret (gx r15.2 0)) (fail)
noncomputable def s_sp_oneIn (a0 a1 : AVal) : AM AVal :=
 bnd (s_sp_below a0 a1) fun x1 =>
 bnd (abin .eql x1 (.int .i64 0)) fun x2 =>
 ret x2
noncomputable def s_sp_extremeInt (a0 : AVal) : AM AVal :=
 bnd (bnd (bnd (cell1 (.int .i64 (-1))) fun y1 => bnd (cell1 (.int .i64 0)) fun y2 => bnd (cell1 (.int .i64 1)) fun y3 => bnd (cell1 (.int .i64 2147483648)) fun y4 => bnd (cell1 (.int .i64 (-2147483648))) fun y5 => bnd (cell1 (.int .i64 1099511627776)) fun y6 => bnd (cell1 (.int .i64 4611686018427387904)) fun y7 => bnd (cell1 (.int .i64 (-4611686018427387904))) fun y8 => bnd (cell1 (.int .i64 9223372036854775807)) fun y9 => bnd (cell1 (.int .i64 (-9223372036854775808))) fun y10 => ret [y1, y2, y3, y4, y5, y6, y7, y8, y9, y10]) fun cs => allocS none t_int64 1 10 cs) fun x11 =>
 bnd (s_sp_below a0 (.int .i64 10)) fun x12 =>
 bnd (ixa 1 x11 x12) fun x13 =>
 bnd (ld1 x13) fun x14 =>
 ret x14
noncomputable def s_sp_numberUpTo (a0 a1 : AVal) : AM AVal :=
 bnd (s_sp_oneIn a0 (.int .i64 10)) fun x1 =>
 br x1
 (bnd (abin .add a1 (.int .i64 1)) fun x2 =>
 bnd (s_sp_extremeInt a0) fun x3 =>
 bnd (bnd (bnd (cell1 (.int .i64 (-1))) fun y4 => bnd (cell1 a1) fun y5 => bnd (cell1 x2) fun y6 => bnd (cell1 x3) fun y7 => ret [y4, y5, y6, y7]) fun cs => allocS none t_int64 1 4 cs) fun x8 =>
 bnd (s_sp_below a0 (.int .i64 4)) fun x9 =>
 bnd (ixa 1 x8 x9) fun x10 =>
 bnd (ld1 x10) fun x11 =>
 ret x11)
 (bnd (s_sp_oneIn a0 (.int .i64 2)) fun x12 =>
 br x12
 (bnd (afoldM amin2 [.int .i64 4] a1) fun x13 =>
 bnd (abin .add x13 (.int .i64 1)) fun x14 =>
 bnd (s_sp_below a0 x14) fun x15 =>
 ret x15)
 (bnd (abin .add a1 (.int .i64 1)) fun x16 =>
 bnd (s_sp_below a0 x16) fun x17 =>
 ret x17))
noncomputable def s_sp_drawAnyPermutation (a0 a1 : AVal) : AM AVal :=
 bnd (s_sp_drawPermutation a0 a1) fun x1 =>
 bnd (s_sp_oneIn a0 (.int .i64 12)) fun x2 =>
 bnd (gd x2 true (ret a1)) fun x3 =>
 bnd (gd x2 true (abin .gtr x3 (.int .i64 0))) fun x4 =>
 bnd (pick3 x2 x4 (.bool false)) fun x5 =>
 bnd (br x5 (bnd (s_sp_below a0 (.int .i64 3)) fun x6 =>
 bnd (abin .eql x6 (.int .i64 0)) fun x7 =>
 bnd (br x7 (bnd (s_sp_below a0 a1) fun x8 =>
 bnd (s_sp_numberUpTo a0 a1) fun x9 =>
 bnd (ixa 1 x1 x8) fun x10 =>
 bnd (st1 x10 x9) fun _ =>
 rx .normal [x1]) (bnd (abin .eql x6 (.int .i64 1)) fun x11 =>
 bnd (br x11 (bnd (slS 1 x1 (some (.int .i64 1)) none) fun x12 =>
 rx .normal [x12]) (bnd (abin .eql x6 (.int .i64 2)) fun x13 =>
 bnd (br x13 (bnd (bnd (bnd (cell1 a1) fun y14 => ret [y14]) fun cs => allocS none t_int64 1 1 cs) fun x15 =>
 bnd (appS t_int64 1 8 x1 x15) fun x16 =>
 rx .normal [x16]) (rx .normal [x1])) fun r17 =>
 ife r17.1 .normal (rx .normal [gx r17.2 0]) (fail))) fun r18 =>
 ife r18.1 .normal (rx .normal [gx r18.2 0]) (fail))) fun r19 =>
 ife r19.1 .normal (rx .normal [gx r19.2 0]) (fail)) (rx .normal [x1])) fun r20 =>
 ife r20.1 .normal (bnd (s_sp_oneIn a0 (.int .i64 60)) fun x21 =>
 bnd (br x21 (bnd (s_sp_below a0 (.int .i64 2)) fun x22 =>
 bnd (abin .add (.int .i64 20) x22) fun x23 =>
 bnd (s_sp_drawPermutation a0 x23) fun x24 =>
 rx .normal [x24]) (rx .normal [gx r20.2 0])) fun r25 =>
 ife r25.1 .normal (ret (gx r25.2 0)) (fail)) (fail)
noncomputable def s_sp_l24DrawPuzzle (a0 : AVal) : AM AVal :=
 bnd (allocC none t_impl_Puzzle [.int .i64 0, .str [], .nilS]) fun x1 =>
 bnd (s_sp_below a0 (.int .i64 3)) fun x2 =>
 bnd (abin .add (.int .i64 3) x2) fun x3 =>
 bnd (s_sp_below a0 (.int .i64 3)) fun x4 =>
 bnd (abin .add (.int .i64 1) x4) fun x5 =>
 bnd (slStr (.str [65, 66, 67]) none (some x5)) fun x6 =>
 bnd (bnd (bnd (cell1 x3) fun y7 => bnd (cell1 x6) fun y8 => ret [y7, y8, .nilS]) fun cs => ret (.agg cs)) fun x9 =>
 bnd (allocC none t_impl_Puzzle [.int .i64 0, .str [], .nilS]) fun x10 =>
 bnd (stn 3 x10 x9) fun _ =>
 bnd (loopL (fun s11 =>
 bnd (fadd 1 x10) fun x12 =>
 bnd (ld1 x12) fun x13 =>
 bnd (lenT x13) fun x14 =>
 bnd (abin .lss (gx s11 0) x14) fun x15 =>
 br x15
 (bnd (reserve 9) fun b16 =>
 bnd getH fun h17 =>
 bnd (s_sp_drawPermutation a0 x3) fun x18 =>
 bnd (fadd 2 x10) fun x19 =>
 bnd (ld1 x19) fun x20 =>
 bnd (agn (ld1 x19) x20 [h17]) fun _ =>
 bnd (bnd (bnd (cell1 x18) fun y22 => ret [y22]) fun cs => allocS (some (b16 + 5)) t_Sint64 1 1 cs) fun x21 =>
 bnd (appS t_Sint64 1 24 x20 x21) fun x23 =>
 bnd (fadd 2 x10) fun x24 =>
 bnd (st1 x24 x23) fun _ =>
 bnd (abin .add (gx s11 0) (.int .i64 1)) fun x25 =>
 rx .normal [x25])
 (rx (.exit 0) [])) [.int .i64 0]) fun r26 =>
 ife r26.1 (.exit 0) (bnd (s_sp_oneIn a0 (.int .i64 12)) fun x27 =>
 bnd (br x27 (bnd (s_sp_below a0 (.int .i64 3)) fun x28 =>
 bnd (abin .eql x28 (.int .i64 0)) fun x29 =>
 bnd (br x29 (bnd (s_sp_numberUpTo a0 (.int .i64 20)) fun x30 =>
 bnd (fadd 0 x10) fun x31 =>
 bnd (st1 x31 x30) fun _ =>
 rx .normal []) (bnd (abin .eql x28 (.int .i64 1)) fun x32 =>
 bnd (br x32 (bnd (fadd 1 x10) fun x33 =>
 bnd (st1 x33 (.str [65, 65])) fun _ =>
 rx .normal []) (bnd (abin .eql x28 (.int .i64 2)) fun x34 =>
 bnd (br x34 (bnd getH fun h35 =>
 bnd (s_sp_drawAnyPermutation a0 x3) fun x36 =>
 bnd (fadd 2 x10) fun x37 =>
 bnd (ld1 x37) fun x38 =>
 bnd (agn (ld1 x37) x38 [h35]) fun _ =>
 bnd (ixa 1 x38 (.int .i64 0)) fun x39 =>
 bnd (st1 x39 x36) fun _ =>
 rx .normal []) (rx .normal [])) fun r40 =>
 ife r40.1 .normal (rx .normal []) (fail))) fun r41 =>
 ife r41.1 .normal (rx .normal []) (fail))) fun r42 =>
 ife r42.1 .normal (rx .normal []) (fail)) (rx .normal [])) fun r43 =>
 ife r43.1 .normal (bnd (ldn 3 x10) fun x44 =>
 bnd (stn 3 x1 x44) fun _ =>
 bnd (ldn 3 x1) fun v45 => ret v45) (fail)) (fail)
noncomputable def s_sp_inRange (a0 a1 a2 : AVal) : AM AVal :=
 bnd (abin .geq a0 a1) fun x1 =>
 bnd (gd x1 true (ret a0)) fun x2 =>
 bnd (gd x1 true (ret a2)) fun x3 =>
 bnd (gd x1 true (abin .leq x2 x3)) fun x4 =>
 bnd (pick3 x1 x4 (.bool false)) fun x5 =>
 ret x5
noncomputable def s_sp_containsInt (a0 a1 : AVal) : AM AVal :=
 bnd (loopL (fun s1 =>
 bnd (lenA a0) fun x2 =>
 bnd (abin .lss (gx s1 0) x2) fun x3 =>
 br x3
 (bnd (ixa 1 a0 (gx s1 0)) fun x4 =>
 bnd (ld1 x4) fun x5 =>
 bnd (abin .eql x5 a1) fun x6 =>
 br x6
 (rx .ret [.bool true])
 (bnd (abin .add (gx s1 0) (.int .i64 1)) fun x7 =>
 rx .normal [x7]))
 (rx (.exit 0) [.undef])) [.int .i64 0]) fun r8 =>
 ife r8.1 (.exit 0) (ret (.bool false)) (ife r8.1 .ret (ret (gx r8.2 0)) (fail))
noncomputable def s_sp_IsPermutation (a0 : AVal) : AM AVal :=
 bnd (lenA a0) fun x1 =>
 bnd (s_sp_inRange x1 (.int .i64 1) (.int .i64 20)) fun x2 =>
 bnd (aun .not x2) fun x3 =>
 br x3
 (ret (.bool false))
 (bnd (loopL (fun s4 =>
 bnd (lenA a0) fun x5 =>
 bnd (abin .lss (gx s4 0) x5) fun x6 =>
 br x6
 (bnd (ixa 1 a0 (gx s4 0)) fun x7 =>
 bnd (ld1 x7) fun x8 =>
 bnd (abin .sub x1 (.int .i64 1)) fun x9 =>
 bnd (s_sp_inRange x8 (.int .i64 0) x9) fun x10 =>
 bnd (aun .not x10) fun x11 =>
 bnd (gd x11 false (ret a0)) fun x12 =>
 bnd (gd x11 false (ret (gx s4 0))) fun x13 =>
 bnd (gd x11 false (slS 1 x12 none (some x13))) fun x14 =>
 bnd (gd x11 false (ret a0)) fun x15 =>
 bnd (gd x11 false (ret (gx s4 0))) fun x16 =>
 bnd (gd x11 false (ixa 1 x15 x16)) fun x17 =>
 bnd (gd x11 false (ld1 x17)) fun x18 =>
 bnd (gd x11 false (s_sp_containsInt x14 x18)) fun x19 =>
 bnd (pick3 x11 (.bool true) x19) fun x20 =>
 br x20
 (rx .ret [.bool false])
 (bnd (abin .add (gx s4 0) (.int .i64 1)) fun x21 =>
 rx .normal [x21]))
 (rx (.exit 0) [.undef])) [.int .i64 0]) fun r22 =>
 ife r22.1 (.exit 0) (ret (.bool true)) (ife r22.1 .ret (ret (gx r22.2 0)) (fail)))
noncomputable def s_sp_IsGeneratorSet (a0 a1 : AVal) : AM AVal :=
 bnd (s_sp_inRange a0 (.int .i64 1) (.int .i64 20)) fun x1 =>
 bnd (aun .not x1) fun x2 =>
 bnd (gd x2 false (ret a1)) fun x3 =>
 bnd (gd x2 false (lenA x3)) fun x4 =>
 bnd (gd x2 false (abin .gtr x4 (.int .i64 8))) fun x5 =>
 bnd (pick3 x2 (.bool true) x5) fun x6 =>
 br x6
 (ret (.bool false))
 (bnd (loopL (fun s7 =>
 bnd (lenA a1) fun x8 =>
 bnd (abin .lss (gx s7 0) x8) fun x9 =>
 br x9
 (bnd (ixa 1 a1 (gx s7 0)) fun x10 =>
 bnd (ld1 x10) fun x11 =>
 bnd (lenA x11) fun x12 =>
 bnd (abin .neq x12 a0) fun x13 =>
 bnd (gd x13 false (ret a1)) fun x14 =>
 bnd (gd x13 false (ret (gx s7 0))) fun x15 =>
 bnd (gd x13 false (ixa 1 x14 x15)) fun x16 =>
 bnd (gd x13 false (ld1 x16)) fun x17 =>
 bnd (gd x13 false (s_sp_IsPermutation x17)) fun x18 =>
 bnd (gd x13 false (aun .not x18)) fun x19 =>
 bnd (pick3 x13 (.bool true) x19) fun x20 =>
 br x20
 (rx .ret [.bool false])
 (bnd (abin .add (gx s7 0) (.int .i64 1)) fun x21 =>
 rx .normal [x21]))
 (rx (.exit 0) [.undef])) [.int .i64 0]) fun r22 =>
 ife r22.1 (.exit 0) (ret (.bool true)) (ife r22.1 .ret (ret (gx r22.2 0)) (fail)))
noncomputable def s_sp_isMoveName (a0 a1 : AVal) : AM AVal :=
 bnd (ixStr a0 a1) fun x1 =>
 bnd (abin .lss x1 (.int .u8 65)) fun x2 =>
 bnd (gd x2 false (ret a0)) fun x3 =>
 bnd (gd x2 false (ret a1)) fun x4 =>
 bnd (gd x2 false (ixStr x3 x4)) fun x5 =>
 bnd (gd x2 false (abin .gtr x5 (.int .u8 90))) fun x6 =>
 bnd (pick3 x2 (.bool true) x6) fun x7 =>
 br x7
 (ret (.bool false))
 (bnd (loopL (fun s8 =>
 bnd (abin .lss (gx s8 0) a1) fun x9 =>
 br x9
 (bnd (ixStr a0 (gx s8 0)) fun x10 =>
 bnd (ixStr a0 a1) fun x11 =>
 bnd (abin .eql x10 x11) fun x12 =>
 br x12
 (rx .ret [.bool false])
 (bnd (abin .add (gx s8 0) (.int .i64 1)) fun x13 =>
 rx .normal [x13]))
 (rx (.exit 0) [.undef])) [.int .i64 0]) fun r14 =>
 ife r14.1 (.exit 0) (ret (.bool true)) (ife r14.1 .ret (ret (gx r14.2 0)) (fail)))
noncomputable def s_sp_IsValidPuzzle (a0 : AVal) : AM AVal :=
 bnd (boxA none t_impl_Puzzle 3 a0) fun x1 =>
 bnd (fadd 2 x1) fun x2 =>
 bnd (ld1 x2) fun x3 =>
 bnd (lenA x3) fun x4 =>
 bnd (abin .eql x4 (.int .i64 0)) fun x5 =>
 bnd (gd x5 false (fadd 1 x1)) fun x6 =>
 bnd (gd x5 false (ld1 x6)) fun x7 =>
 bnd (gd x5 false (lenT x7)) fun x8 =>
 bnd (gd x5 false (fadd 2 x1)) fun x9 =>
 bnd (gd x5 false (ld1 x9)) fun x10 =>
 bnd (gd x5 false (lenA x10)) fun x11 =>
 bnd (gd x5 false (abin .neq x8 x11)) fun x12 =>
 bnd (pick3 x5 (.bool true) x12) fun x13 =>
 bnd (gd x13 false (fadd 0 x1)) fun x14 =>
 bnd (gd x13 false (ld1 x14)) fun x15 =>
 bnd (gd x13 false (fadd 2 x1)) fun x16 =>
 bnd (gd x13 false (ld1 x16)) fun x17 =>
 bnd (gd x13 false (s_sp_IsGeneratorSet x15 x17)) fun x18 =>
 bnd (gd x13 false (aun .not x18)) fun x19 =>
 bnd (pick3 x13 (.bool true) x19) fun x20 =>
 br x20
 (ret (.bool false))
 (bnd (loopL (fun s21 =>
 bnd (fadd 1 x1) fun x22 =>
 bnd (ld1 x22) fun x23 =>
 bnd (lenT x23) fun x24 =>
 bnd (abin .lss (gx s21 0) x24) fun x25 =>
 br x25
 (bnd (fadd 1 x1) fun x26 =>
 bnd (ld1 x26) fun x27 =>
 bnd (s_sp_isMoveName x27 (gx s21 0)) fun x28 =>
 bnd (aun .not x28) fun x29 =>
 br x29
 (rx .ret [.bool false])
 (bnd (abin .add (gx s21 0) (.int .i64 1)) fun x30 =>
 rx .normal [x30]))
 (rx (.exit 0) [.undef])) [.int .i64 0]) fun r31 =>
 ife r31.1 (.exit 0) (ret (.bool true)) (ife r31.1 .ret (ret (gx r31.2 0)) (fail)))
noncomputable def s_sp_isPointList (a0 a1 : AVal) : AM AVal :=
 bnd (lenA a1) fun x1 =>
 bnd (s_sp_inRange x1 (.int .i64 1) a0) fun x2 =>
 bnd (aun .not x2) fun x3 =>
 br x3
 (ret (.bool false))
 (bnd (loopL (fun s4 =>
 bnd (lenA a1) fun x5 =>
 bnd (abin .lss (gx s4 0) x5) fun x6 =>
 br x6
 (bnd (ixa 1 a1 (gx s4 0)) fun x7 =>
 bnd (ld1 x7) fun x8 =>
 bnd (abin .sub a0 (.int .i64 1)) fun x9 =>
 bnd (s_sp_inRange x8 (.int .i64 0) x9) fun x10 =>
 bnd (aun .not x10) fun x11 =>
 bnd (gd x11 false (ret (gx s4 0))) fun x12 =>
 bnd (gd x11 false (abin .gtr x12 (.int .i64 0))) fun x13 =>
 bnd (gd x11 false (ret x13)) fun x14 =>
 bnd (gd x14 true (ret a1)) fun x15 =>
 bnd (gd x14 true (ret (gx s4 0))) fun x16 =>
 bnd (gd x14 true (ixa 1 x15 x16)) fun x17 =>
 bnd (gd x14 true (ld1 x17)) fun x18 =>
 bnd (gd x14 true (ret a1)) fun x19 =>
 bnd (gd x14 true (ret (gx s4 0))) fun x20 =>
 bnd (gd x14 true (abin .sub x20 (.int .i64 1))) fun x21 =>
 bnd (gd x14 true (ixa 1 x19 x21)) fun x22 =>
 bnd (gd x14 true (ld1 x22)) fun x23 =>
 bnd (gd x14 true (abin .leq x18 x23)) fun x24 =>
 bnd (gd x11 false (pick3 x14 x24 (.bool false))) fun x25 =>
 bnd (pick3 x11 (.bool true) x25) fun x26 =>
 br x26
 (rx .ret [.bool false])
 (bnd (abin .add (gx s4 0) (.int .i64 1)) fun x27 =>
 rx .normal [x27]))
 (rx (.exit 0) [.undef])) [.int .i64 0]) fun r28 =>
 ife r28.1 (.exit 0) (ret (.bool true)) (ife r28.1 .ret (ret (gx r28.2 0)) (fail)))
noncomputable def s_sp_IsTrackedSet (a0 a1 : AVal) : AM AVal :=
 bnd (boxA none t_impl_Puzzle 3 a0) fun x1 =>
 bnd (ldn 3 x1) fun x2 =>
 bnd (s_sp_IsValidPuzzle x2) fun x3 =>
 bnd (gd x3 true (fadd 0 x1)) fun x4 =>
 bnd (gd x3 true (ld1 x4)) fun x5 =>
 bnd (gd x3 true (ret a1)) fun x6 =>
 bnd (gd x3 true (s_sp_isPointList x5 x6)) fun x7 =>
 bnd (pick3 x3 x7 (.bool false)) fun x8 =>
 ret x8
noncomputable def s_sp_listPrecedes (a0 a1 : AVal) : AM AVal :=
 bnd (loopL (fun s1 =>
 bnd (lenA a0) fun x2 =>
 bnd (abin .lss (gx s1 0) x2) fun x3 =>
 br x3
 (bnd (ixa 1 a0 (gx s1 0)) fun x4 =>
 bnd (ld1 x4) fun x5 =>
 bnd (ixa 1 a1 (gx s1 0)) fun x6 =>
 bnd (ld1 x6) fun x7 =>
 bnd (abin .neq x5 x7) fun x8 =>
 br x8
 (bnd (ixa 1 a0 (gx s1 0)) fun x9 =>
 bnd (ld1 x9) fun x10 =>
 bnd (ixa 1 a1 (gx s1 0)) fun x11 =>
 bnd (ld1 x11) fun x12 =>
 bnd (abin .lss x10 x12) fun x13 =>
 rx .ret [x13])
 (bnd (abin .add (gx s1 0) (.int .i64 1)) fun x14 =>
 rx .normal [x14]))
 (rx (.exit 0) [.undef])) [.int .i64 0]) fun r15 =>
 ife r15.1 (.exit 0) (ret (.bool false)) (ife r15.1 .ret (ret (gx r15.2 0)) (fail))
noncomputable def s_sp_searchSlot (a0 a1 : AVal) : AM AVal :=
 bnd (boxA none t_spec_stateSearch 4 a0) fun x1 =>
 bnd (fadd 2 x1) fun x2 =>
 bnd (ld1 x2) fun x3 =>
 bnd (lenA x3) fun x4 =>
 bnd (loopL (fun s5 =>
 bnd (abin .lss (gx s5 0) (gx s5 1)) fun x6 =>
 br x6
 (bnd (abin .add (gx s5 0) (gx s5 1)) fun x7 =>
 bnd (abin .quo x7 (.int .i64 2)) fun x8 =>
 bnd (fadd 0 x1) fun x9 =>
 bnd (ld1 x9) fun x10 =>
 bnd (fadd 2 x1) fun x11 =>
 bnd (ld1 x11) fun x12 =>
 bnd (ixa 1 x12 x8) fun x13 =>
 bnd (ld1 x13) fun x14 =>
 bnd (ixa 1 x10 x14) fun x15 =>
 bnd (ld1 x15) fun x16 =>
 bnd (s_sp_listPrecedes x16 a1) fun x17 =>
 bnd (br x17 (bnd (abin .add x8 (.int .i64 1)) fun x18 =>
 rx .normal [x18, gx s5 1]) (rx .normal [gx s5 0, x8])) fun r19 =>
 ife r19.1 .normal (rx .normal [gx r19.2 0, gx r19.2 1]) (fail))
 (rx (.exit 0) [gx s5 0])) [.int .i64 0, x4]) fun r20 =>
 ife r20.1 (.exit 0) (ret (gx r20.2 0)) (fail)
noncomputable def s_sp_searchAdd (a0 a1 a2 : AVal) : AM AVal :=
 bnd (boxA none t_spec_stateSearch 4 a0) fun x1 =>
 bnd (allocC none t_spec_stateSearch [.nilS, .nilS, .nilS, .bool false]) fun x2 =>
 bnd (ldn 4 x1) fun x3 =>
 bnd (s_sp_searchSlot x3 a1) fun x4 =>
 bnd (fadd 2 x1) fun x5 =>
 bnd (ld1 x5) fun x6 =>
 bnd (bnd (bnd (cell1 (.int .i64 0)) fun y7 => ret [y7]) fun cs => allocS none t_int 1 1 cs) fun x8 =>
 bnd (appS t_int 1 8 x6 x8) fun x9 =>
 bnd (fadd 2 x1) fun x10 =>
 bnd (st1 x10 x9) fun _ =>
 bnd (fadd 2 x1) fun x11 =>
 bnd (ld1 x11) fun x12 =>
 bnd (abin .add x4 (.int .i64 1)) fun x13 =>
 bnd (slS 1 x12 (some x13) none) fun x14 =>
 bnd (fadd 2 x1) fun x15 =>
 bnd (ld1 x15) fun x16 =>
 bnd (slS 1 x16 (some x4) none) fun x17 =>
 bnd (copyS 1 x14 x17) fun x18 =>
 bnd (fadd 2 x1) fun x19 =>
 bnd (ld1 x19) fun x20 =>
 bnd (fadd 0 x1) fun x21 =>
 bnd (ld1 x21) fun x22 =>
 bnd (lenA x22) fun x23 =>
 bnd (ixa 1 x20 x4) fun x24 =>
 bnd (st1 x24 x23) fun _ =>
 bnd (fadd 0 x1) fun x25 =>
 bnd (ld1 x25) fun x26 =>
 bnd (bnd (bnd (cell1 a1) fun y27 => ret [y27]) fun cs => allocS none t_Sint64 1 1 cs) fun x28 =>
 bnd (appS t_Sint64 1 24 x26 x28) fun x29 =>
 bnd (fadd 0 x1) fun x30 =>
 bnd (st1 x30 x29) fun _ =>
 bnd (fadd 1 x1) fun x31 =>
 bnd (ld1 x31) fun x32 =>
 bnd (bnd (bnd (cell1 a2) fun y33 => ret [y33]) fun cs => allocS none t_int64 1 1 cs) fun x34 =>
 bnd (appS t_int64 1 8 x32 x34) fun x35 =>
 bnd (fadd 1 x1) fun x36 =>
 bnd (st1 x36 x35) fun _ =>
 bnd (ldn 4 x1) fun x37 =>
 bnd (stn 4 x2 x37) fun _ =>
 bnd (ldn 4 x2) fun v38 => ret v38
noncomputable def s_sp_lettersOf (a0 : AVal) : AM AVal :=
 bnd (boxA none t_impl_Puzzle 3 a0) fun x1 =>
 bnd (bnd (ret []) fun cs => allocS none t_int64 1 0 cs) fun x2 =>
 bnd (loopL (fun s3 =>
 bnd (fadd 2 x1) fun x4 =>
 bnd (ld1 x4) fun x5 =>
 bnd (lenA x5) fun x6 =>
 bnd (abin .leq (gx s3 1) x6) fun x7 =>
 br x7
 (bnd (aun .neg (gx s3 1)) fun x8 =>
 bnd (bnd (bnd (cell1 (gx s3 1)) fun y9 => bnd (cell1 x8) fun y10 => ret [y9, y10]) fun cs => allocS none t_int64 1 2 cs) fun x11 =>
 bnd (appS t_int64 1 8 (gx s3 0) x11) fun x12 =>
 bnd (abin .add (gx s3 1) (.int .i64 1)) fun x13 =>
 rx .normal [x12, x13])
 (rx (.exit 0) [gx s3 0])) [x2, .int .i64 1]) fun r14 =>
 ife r14.1 (.exit 0) (ret (gx r14.2 0)) (fail)
noncomputable def s_sp_inverse (a0 : AVal) : AM AVal :=
 bnd (lenA a0) fun x1 =>
 bnd (mkS none t_int64 1 8 [.int .i64 0] x1 x1) fun x2 =>
 bnd (loopL (fun s3 =>
 bnd (lenA a0) fun x4 =>
 bnd (abin .lss (gx s3 0) x4) fun x5 =>
 br x5
 (bnd (ixa 1 a0 (gx s3 0)) fun x6 =>
 bnd (ld1 x6) fun x7 =>
 bnd (ixa 1 x2 x7) fun x8 =>
 bnd (st1 x8 (gx s3 0)) fun _ =>
 bnd (abin .add (gx s3 0) (.int .i64 1)) fun x9 =>
 rx .normal [x9])
 (rx (.exit 0) [])) [.int .i64 0]) fun r10 =>
 ife r10.1 (.exit 0) (ret x2) (fail)
noncomputable def s_sp_Inverse (a0 : AVal) : AM AVal :=
 bnd (s_sp_IsPermutation a0) fun x1 =>
 bnd (aun .not x1) fun x2 =>
 br x2
 (bnd (bnd (ret []) fun cs => allocS none t_int64 1 0 cs) fun x3 =>
 ret x3)
 (bnd (s_sp_inverse a0) fun x4 =>
 ret x4)
noncomputable def s_sp_applyLetter (a0 a1 a2 : AVal) : AM AVal :=
 bnd (boxA none t_impl_Puzzle 3 a0) fun x1 =>
 bnd (fadd 2 x1) fun x2 =>
 bnd (ld1 x2) fun x3 =>
 bnd (aun .neg a2) fun x4 =>
 bnd (afoldM amax2 [x4] a2) fun x5 =>
 bnd (abin .sub x5 (.int .i64 1)) fun x6 =>
 bnd (ixa 1 x3 x6) fun x7 =>
 bnd (ld1 x7) fun x8 =>
 bnd (abin .lss a2 (.int .i64 0)) fun x9 =>
 bnd (br x9 (bnd (s_sp_Inverse x8) fun x10 =>
 rx .normal [x10]) (rx .normal [x8])) fun r11 =>
 ife r11.1 .normal (bnd (bnd (ret []) fun cs => allocS none t_int64 1 0 cs) fun x12 =>
 bnd (loopL (fun s13 =>
 bnd (lenA a1) fun x14 =>
 bnd (abin .lss (gx s13 1) x14) fun x15 =>
 br x15
 (bnd (ixa 1 a1 (gx s13 1)) fun x16 =>
 bnd (ld1 x16) fun x17 =>
 bnd (ixa 1 (gx r11.2 0) x17) fun x18 =>
 bnd (ld1 x18) fun x19 =>
 bnd (bnd (bnd (cell1 x19) fun y20 => ret [y20]) fun cs => allocS none t_int64 1 1 cs) fun x21 =>
 bnd (appS t_int64 1 8 (gx s13 0) x21) fun x22 =>
 bnd (abin .add (gx s13 1) (.int .i64 1)) fun x23 =>
 rx .normal [x22, x23])
 (rx (.exit 0) [gx s13 0])) [x12, .int .i64 0]) fun r24 =>
 ife r24.1 (.exit 0) (ret (gx r24.2 0)) (fail)) (fail)
noncomputable def s_sp_equalInts (a0 a1 : AVal) : AM AVal :=
 bnd (lenA a0) fun x1 =>
 bnd (lenA a1) fun x2 =>
 bnd (abin .neq x1 x2) fun x3 =>
 br x3
 (ret (.bool false))
 (bnd (loopL (fun s4 =>
 bnd (lenA a0) fun x5 =>
 bnd (abin .lss (gx s4 0) x5) fun x6 =>
 br x6
 (bnd (ixa 1 a0 (gx s4 0)) fun x7 =>
 bnd (ld1 x7) fun x8 =>
 bnd (ixa 1 a1 (gx s4 0)) fun x9 =>
 bnd (ld1 x9) fun x10 =>
 bnd (abin .neq x8 x10) fun x11 =>
 br x11
 (rx .ret [.bool false])
 (bnd (abin .add (gx s4 0) (.int .i64 1)) fun x12 =>
 rx .normal [x12]))
 (rx (.exit 0) [.undef])) [.int .i64 0]) fun r13 =>
 ife r13.1 (.exit 0) (ret (.bool true)) (ife r13.1 .ret (ret (gx r13.2 0)) (fail)))
noncomputable def s_sp_searchIndex (a0 a1 : AVal) : AM AVal :=
 bnd (boxA none t_spec_stateSearch 4 a0) fun x1 =>
 bnd (ldn 4 x1) fun x2 =>
 bnd (s_sp_searchSlot x2 a1) fun x3 =>
 bnd (fadd 2 x1) fun x4 =>
 bnd (ld1 x4) fun x5 =>
 bnd (lenA x5) fun x6 =>
 bnd (abin .lss x3 x6) fun x7 =>
 bnd (gd x7 true (fadd 0 x1)) fun x8 =>
 bnd (gd x7 true (ld1 x8)) fun x9 =>
 bnd (gd x7 true (fadd 2 x1)) fun x10 =>
 bnd (gd x7 true (ld1 x10)) fun x11 =>
 bnd (gd x7 true (ret x3)) fun x12 =>
 bnd (gd x7 true (ixa 1 x11 x12)) fun x13 =>
 bnd (gd x7 true (ld1 x13)) fun x14 =>
 bnd (gd x7 true (ixa 1 x9 x14)) fun x15 =>
 bnd (gd x7 true (ld1 x15)) fun x16 =>
 bnd (gd x7 true (ret a1)) fun x17 =>
 bnd (gd x7 true (s_sp_equalInts x16 x17)) fun x18 =>
 bnd (pick3 x7 x18 (.bool false)) fun x19 =>
 br x19
 (bnd (fadd 2 x1) fun x20 =>
 bnd (ld1 x20) fun x21 =>
 bnd (ixa 1 x21 x3) fun x22 =>
 bnd (ld1 x22) fun x23 =>
 ret x23)
 (ret (.int .i64 (-1)))
noncomputable def s_sp_searchFrom (a0 a1 : AVal) : AM AVal :=
 bnd (boxA none t_impl_Puzzle 3 a0) fun x1 =>
 bnd (allocC none t_spec_stateSearch [.nilS, .nilS, .nilS, .bool false]) fun x2 =>
 bnd (bnd (ret [.nilS, .nilS, .nilS, .bool false]) fun cs => ret (.agg cs)) fun x3 =>
 bnd (s_sp_copyInts a1) fun x4 =>
 bnd (s_sp_searchAdd x3 x4 (.int .i64 0)) fun x5 =>
 bnd (allocC none t_spec_stateSearch [.nilS, .nilS, .nilS, .bool false]) fun x6 =>
 bnd (stn 4 x6 x5) fun _ =>
 bnd (ldn 3 x1) fun x7 =>
 bnd (s_sp_lettersOf x7) fun x8 =>
 bnd (loopL (fun s9 =>
 bnd (fadd 0 x6) fun x10 =>
 bnd (ld1 x10) fun x11 =>
 bnd (lenA x11) fun x12 =>
 bnd (abin .lss (gx s9 0) x12) fun x13 =>
 br x13
 (bnd (loopL (fun s14 =>
 bnd (lenA x8) fun x15 =>
 bnd (abin .lss (gx s14 0) x15) fun x16 =>
 br x16
 (bnd (ldn 3 x1) fun x17 =>
 bnd (fadd 0 x6) fun x18 =>
 bnd (ld1 x18) fun x19 =>
 bnd (ixa 1 x19 (gx s9 0)) fun x20 =>
 bnd (ld1 x20) fun x21 =>
 bnd (ixa 1 x8 (gx s14 0)) fun x22 =>
 bnd (ld1 x22) fun x23 =>
 bnd (s_sp_applyLetter x17 x21 x23) fun x24 =>
 bnd (ldn 4 x6) fun x25 =>
 bnd (s_sp_searchIndex x25 x24) fun x26 =>
 bnd (abin .geq x26 (.int .i64 0)) fun x27 =>
 br x27
 (bnd (abin .add (gx s14 0) (.int .i64 1)) fun x28 =>
 rx .normal [x28])
 (bnd (fadd 0 x6) fun x29 =>
 bnd (ld1 x29) fun x30 =>
 bnd (lenA x30) fun x31 =>
 bnd (abin .eql x31 (.int .i64 3000)) fun x32 =>
 br x32
 (bnd (ldn 4 x6) fun x33 =>
 bnd (stn 4 x2 x33) fun _ =>
 rx .ret [])
 (bnd (ldn 4 x6) fun x34 =>
 bnd (fadd 1 x6) fun x35 =>
 bnd (ld1 x35) fun x36 =>
 bnd (ixa 1 x36 (gx s9 0)) fun x37 =>
 bnd (ld1 x37) fun x38 =>
 bnd (abin .add x38 (.int .i64 1)) fun x39 =>
 bnd (s_sp_searchAdd x34 x24 x39) fun x40 =>
 bnd (stn 4 x6 x40) fun _ =>
 bnd (abin .add (gx s14 0) (.int .i64 1)) fun x41 =>
 rx .normal [x41])))
 (rx (.exit 2) [])) [.int .i64 0]) fun r42 =>
 ife r42.1 (.exit 2) (bnd (abin .add (gx s9 0) (.int .i64 1)) fun x43 =>
 rx .normal [x43]) (ife r42.1 .ret (rx .ret []) (fail)))
 (rx (.exit 0) [])) [.int .i64 0]) fun r44 =>
 ife r44.1 (.exit 0) (bnd (fadd 3 x6) fun x45 =>
 bnd (st1 x45 (.bool true)) fun _ =>
 bnd (ldn 4 x6) fun x46 =>
 bnd (stn 4 x2 x46) fun _ =>
 bnd (ldn 4 x2) fun v47 => ret v47) (ife r44.1 .ret (bnd (ldn 4 x2) fun v48 => ret v48) (fail))
noncomputable def s_sp_searchPatterns (a0 a1 : AVal) : AM AVal :=
 bnd (boxA none t_impl_Puzzle 3 a0) fun x1 =>
 bnd (allocC none t_spec_stateSearch [.nilS, .nilS, .nilS, .bool false]) fun x2 =>
 bnd (ldn 3 x1) fun x3 =>
 bnd (s_sp_IsTrackedSet x3 a1) fun x4 =>
 bnd (aun .not x4) fun x5 =>
 br x5
 (bnd (bnd (ret [.nilS, .nilS, .nilS, .bool false]) fun cs => ret (.agg cs)) fun x6 =>
 bnd (stn 4 x2 x6) fun _ =>
 bnd (ldn 4 x2) fun v7 => ret (.tuple [v7, .bool false]))
 (bnd (ldn 3 x1) fun x8 =>
 bnd (s_sp_searchFrom x8 a1) fun x9 =>
 bnd (allocC none t_spec_stateSearch [.nilS, .nilS, .nilS, .bool false]) fun x10 =>
 bnd (stn 4 x10 x9) fun _ =>
 bnd (ldn 4 x10) fun x11 =>
 bnd getH fun h12 =>
 bnd (stn 4 x2 x11) fun _ =>
 bnd (fadd 3 x10) fun x13 =>
 bnd (ld1 x13) fun x14 =>
 bnd (agn (ld1 x13) x14 [h12]) fun _ =>
 bnd (ldn 4 x2) fun v15 => ret (.tuple [v15, x14]))
noncomputable def s_sp_copyLists (a0 : AVal) : AM AVal :=
 bnd (bnd (ret []) fun cs => allocS none t_Sint64 1 0 cs) fun x1 =>
 bnd (loopL (fun s2 =>
 bnd (lenA a0) fun x3 =>
 bnd (abin .lss (gx s2 1) x3) fun x4 =>
 br x4
 (bnd (ixa 1 a0 (gx s2 1)) fun x5 =>
 bnd (ld1 x5) fun x6 =>
 bnd (s_sp_copyInts x6) fun x7 =>
 bnd (bnd (bnd (cell1 x7) fun y8 => ret [y8]) fun cs => allocS none t_Sint64 1 1 cs) fun x9 =>
 bnd (appS t_Sint64 1 24 (gx s2 0) x9) fun x10 =>
 bnd (abin .add (gx s2 1) (.int .i64 1)) fun x11 =>
 rx .normal [x10, x11])
 (rx (.exit 0) [gx s2 0])) [x1, .int .i64 0]) fun r12 =>
 ife r12.1 (.exit 0) (ret (gx r12.2 0)) (fail)
noncomputable def s_sp_BuildTable (a0 a1 : AVal) : AM AVal :=
 bnd (boxA none t_impl_Puzzle 3 a0) fun x1 =>
 bnd (allocC none t_impl_Table [.nilS, .nilS, .nilS]) fun x2 =>
 bnd (ldn 3 x1) fun x3 =>
 bnd (s_sp_searchPatterns x3 a1) fun x4 =>
 bnd (extr 0 x4) fun x5 =>
 bnd (extr 1 x4) fun x6 =>
 bnd (allocC none t_spec_stateSearch [.nilS, .nilS, .nilS, .bool false]) fun x7 =>
 bnd (stn 4 x7 x5) fun _ =>
 bnd (aun .not x6) fun x8 =>
 br x8
 (bnd (bnd (ret [.nilS, .nilS, .nilS]) fun cs => ret (.agg cs)) fun x9 =>
 bnd (stn 3 x2 x9) fun _ =>
 bnd (ldn 3 x2) fun v10 => ret (.tuple [v10, .bool false]))
 (bnd getH fun h11 =>
 bnd (s_sp_copyInts a1) fun x12 =>
 bnd (fadd 0 x7) fun x13 =>
 bnd (ld1 x13) fun x14 =>
 bnd (agn (ld1 x13) x14 [h11]) fun _ =>
 bnd getH fun h15 =>
 bnd (s_sp_copyLists x14) fun x16 =>
 bnd (fadd 1 x7) fun x17 =>
 bnd (ld1 x17) fun x18 =>
 bnd (agn (ld1 x17) x18 [h15, h11]) fun _ =>
 bnd (s_sp_copyInts x18) fun x19 =>
 bnd (bnd (bnd (cell1 x12) fun y21 => bnd (cell1 x16) fun y22 => bnd (cell1 x19) fun y23 => ret [y21, y22, y23]) fun cs => ret (.agg cs)) fun x20 =>
 bnd (stn 3 x2 x20) fun _ =>
 bnd (ldn 3 x2) fun v24 => ret (.tuple [v24, .bool true]))
noncomputable def s_sp_l28Start (a0 : AVal) : AM AVal :=
 bnd (allocC none t_impl_FillJob [.nilS, .nilS, .nilS, .int .i64 0, .str [], .int .i64 0]) fun x1 =>
 bnd (s_sp_copyInts a0) fun x2 =>
 bnd (s_sp_copyInts a0) fun x3 =>
 bnd (bnd (bnd (cell1 x3) fun y4 => ret [y4]) fun cs => allocS none t_Sint64 1 1 cs) fun x5 =>
 bnd (bnd (bnd (cell1 (.int .i64 0)) fun y6 => ret [y6]) fun cs => allocS none t_int64 1 1 cs) fun x7 =>
 bnd (bnd (bnd (cell1 x2) fun y8 => bnd (cell1 x5) fun y9 => bnd (cell1 x7) fun y10 => ret [y8, y9, y10]) fun cs => ret (.agg cs)) fun x11 =>
 bnd (allocC none t_impl_Table [.nilS, .nilS, .nilS]) fun x12 =>
 bnd (stn 3 x12 x11) fun _ =>
 bnd (ldn 3 x12) fun x13 =>
 bnd (bnd (afillM (plc [(0, 3), (3, 1), (4, 1), (5, 1)]) [(0, x13)] [.nilS, .nilS, .nilS, .int .i64 0, .str [], .int .i64 0]) fun cs => ret (.agg cs)) fun x14 =>
 bnd (stn 6 x1 x14) fun _ =>
 bnd (ldn 6 x1) fun v15 => ret v15
noncomputable def s_sp_StartFill (a0 a1 : AVal) : AM AVal :=
 bnd (boxA none t_impl_Puzzle 3 a0) fun x1 =>
 bnd (allocC none t_impl_FillJob [.nilS, .nilS, .nilS, .int .i64 0, .str [], .int .i64 0]) fun x2 =>
 bnd (ldn 3 x1) fun x3 =>
 bnd (s_sp_BuildTable x3 a1) fun x4 =>
 bnd (extr 0 x4) fun x5 =>
 bnd (extr 1 x4) fun x6 =>
 bnd (allocC none t_impl_Table [.nilS, .nilS, .nilS]) fun x7 =>
 bnd (stn 3 x7 x5) fun _ =>
 bnd (aun .not x6) fun x8 =>
 br x8
 (bnd (bnd (ret [.nilS, .nilS, .nilS, .int .i64 0, .str [], .int .i64 0]) fun cs => ret (.agg cs)) fun x9 =>
 bnd (stn 6 x2 x9) fun _ =>
 bnd (ldn 6 x2) fun v10 => ret (.tuple [v10, .bool false]))
 (bnd (s_sp_l28Start a1) fun x11 =>
 bnd (stn 6 x2 x11) fun _ =>
 bnd (ldn 6 x2) fun v12 => ret (.tuple [v12, .bool true]))
noncomputable def s_sp_l28CopyTable (a0 : AVal) : AM AVal :=
 bnd (boxA none t_impl_Table 3 a0) fun x1 =>
 bnd (allocC none t_impl_Table [.nilS, .nilS, .nilS]) fun x2 =>
 bnd (fadd 0 x1) fun x3 =>
 bnd (ld1 x3) fun x4 =>
 bnd getH fun h5 =>
 bnd (s_sp_copyInts x4) fun x6 =>
 bnd (fadd 1 x1) fun x7 =>
 bnd (ld1 x7) fun x8 =>
 bnd (agn (ld1 x7) x8 [h5]) fun _ =>
 bnd getH fun h9 =>
 bnd (s_sp_copyLists x8) fun x10 =>
 bnd (fadd 2 x1) fun x11 =>
 bnd (ld1 x11) fun x12 =>
 bnd (agn (ld1 x11) x12 [h9, h5]) fun _ =>
 bnd (s_sp_copyInts x12) fun x13 =>
 bnd (bnd (bnd (cell1 x6) fun y15 => bnd (cell1 x10) fun y16 => bnd (cell1 x13) fun y17 => ret [y15, y16, y17]) fun cs => ret (.agg cs)) fun x14 =>
 bnd (stn 3 x2 x14) fun _ =>
 bnd (ldn 3 x2) fun v18 => ret v18
noncomputable def s_sp_l28Copy (a0 : AVal) : AM AVal :=
 bnd (boxA none t_impl_FillJob 6 a0) fun x1 =>
 bnd (allocC none t_impl_FillJob [.nilS, .nilS, .nilS, .int .i64 0, .str [], .int .i64 0]) fun x2 =>
 bnd (fadd 0 x1) fun x3 =>
 bnd (ldn 3 x3) fun x4 =>
 bnd getH fun h5 =>
 bnd (s_sp_l28CopyTable x4) fun x6 =>
 bnd (fadd 3 x1) fun x7 =>
 bnd (ld1 x7) fun x8 =>
 bnd (agn (ld1 x7) x8 [h5]) fun _ =>
 bnd (fadd 4 x1) fun x9 =>
 bnd (ld1 x9) fun x10 =>
 bnd (agn (ld1 x9) x10 [h5]) fun _ =>
 bnd (fadd 5 x1) fun x11 =>
 bnd (ld1 x11) fun x12 =>
 bnd (agn (ld1 x11) x12 [h5]) fun _ =>
 bnd (bnd (afillM (plc [(0, 3), (3, 1), (4, 1), (5, 1)]) [(0, x6), (1, x8), (2, x10), (3, x12)] [.nilS, .nilS, .nilS, .int .i64 0, .str [], .int .i64 0]) fun cs => ret (.agg cs)) fun x13 =>
 bnd (stn 6 x2 x13) fun _ =>
 bnd (ldn 6 x2) fun v14 => ret v14
noncomputable def s_sp_Letters (a0 : AVal) : AM AVal :=
 bnd (boxA none t_impl_Puzzle 3 a0) fun x1 =>
 bnd (ldn 3 x1) fun x2 =>
 bnd (s_sp_IsValidPuzzle x2) fun x3 =>
 bnd (aun .not x3) fun x4 =>
 br x4
 (bnd (bnd (ret []) fun cs => allocS none t_int64 1 0 cs) fun x5 =>
 ret x5)
 (bnd (ldn 3 x1) fun x6 =>
 bnd (s_sp_lettersOf x6) fun x7 =>
 ret x7)
noncomputable def s_sp_isDistinctList (a0 a1 a2 : AVal) : AM AVal :=
 bnd (lenA a1) fun x1 =>
 bnd (abin .neq x1 a2) fun x2 =>
 br x2
 (ret (.bool false))
 (bnd (loopL (fun s3 =>
 bnd (lenA a1) fun x4 =>
 bnd (abin .lss (gx s3 0) x4) fun x5 =>
 br x5
 (bnd (ixa 1 a1 (gx s3 0)) fun x6 =>
 bnd (ld1 x6) fun x7 =>
 bnd (abin .sub a0 (.int .i64 1)) fun x8 =>
 bnd (s_sp_inRange x7 (.int .i64 0) x8) fun x9 =>
 bnd (aun .not x9) fun x10 =>
 bnd (gd x10 false (ret a1)) fun x11 =>
 bnd (gd x10 false (ret (gx s3 0))) fun x12 =>
 bnd (gd x10 false (slS 1 x11 none (some x12))) fun x13 =>
 bnd (gd x10 false (ret a1)) fun x14 =>
 bnd (gd x10 false (ret (gx s3 0))) fun x15 =>
 bnd (gd x10 false (ixa 1 x14 x15)) fun x16 =>
 bnd (gd x10 false (ld1 x16)) fun x17 =>
 bnd (gd x10 false (s_sp_containsInt x13 x17)) fun x18 =>
 bnd (pick3 x10 (.bool true) x18) fun x19 =>
 br x19
 (rx .ret [.bool false])
 (bnd (abin .add (gx s3 0) (.int .i64 1)) fun x20 =>
 rx .normal [x20]))
 (rx (.exit 0) [.undef])) [.int .i64 0]) fun r21 =>
 ife r21.1 (.exit 0) (ret (.bool true)) (ife r21.1 .ret (ret (gx r21.2 0)) (fail)))
noncomputable def s_sp_IsPattern (a0 a1 a2 : AVal) : AM AVal :=
 bnd (boxA none t_impl_Puzzle 3 a0) fun x1 =>
 bnd (ldn 3 x1) fun x2 =>
 bnd (s_sp_IsTrackedSet x2 a1) fun x3 =>
 bnd (gd x3 true (fadd 0 x1)) fun x4 =>
 bnd (gd x3 true (ld1 x4)) fun x5 =>
 bnd (gd x3 true (ret a2)) fun x6 =>
 bnd (gd x3 true (ret a1)) fun x7 =>
 bnd (gd x3 true (lenA x7)) fun x8 =>
 bnd (gd x3 true (s_sp_isDistinctList x5 x6 x8)) fun x9 =>
 bnd (pick3 x3 x9 (.bool false)) fun x10 =>
 ret x10
noncomputable def s_sp_isWordOf (a0 a1 : AVal) : AM AVal :=
 bnd (lenA a1) fun x1 =>
 bnd (abin .gtr x1 (.int .i64 200)) fun x2 =>
 br x2
 (ret (.bool false))
 (bnd (loopL (fun s3 =>
 bnd (lenA a1) fun x4 =>
 bnd (abin .lss (gx s3 0) x4) fun x5 =>
 br x5
 (bnd (ixa 1 a1 (gx s3 0)) fun x6 =>
 bnd (ld1 x6) fun x7 =>
 bnd (abin .eql x7 (.int .i64 0)) fun x8 =>
 bnd (gd x8 false (ret a1)) fun x9 =>
 bnd (gd x8 false (ret (gx s3 0))) fun x10 =>
 bnd (gd x8 false (ixa 1 x9 x10)) fun x11 =>
 bnd (gd x8 false (ld1 x11)) fun x12 =>
 bnd (gd x8 false (s_sp_inRange x12 (.int .i64 (-8)) (.int .i64 8))) fun x13 =>
 bnd (gd x8 false (aun .not x13)) fun x14 =>
 bnd (pick3 x8 (.bool true) x14) fun x15 =>
 bnd (gd x15 false (ret a1)) fun x16 =>
 bnd (gd x15 false (ret (gx s3 0))) fun x17 =>
 bnd (gd x15 false (ixa 1 x16 x17)) fun x18 =>
 bnd (gd x15 false (ld1 x18)) fun x19 =>
 bnd (gd x15 false (ret a0)) fun x20 =>
 bnd (gd x15 false (abin .gtr x19 x20)) fun x21 =>
 bnd (pick3 x15 (.bool true) x21) fun x22 =>
 bnd (gd x22 false (ret a1)) fun x23 =>
 bnd (gd x22 false (ret (gx s3 0))) fun x24 =>
 bnd (gd x22 false (ixa 1 x23 x24)) fun x25 =>
 bnd (gd x22 false (ld1 x25)) fun x26 =>
 bnd (gd x22 false (aun .neg x26)) fun x27 =>
 bnd (gd x22 false (ret a0)) fun x28 =>
 bnd (gd x22 false (abin .gtr x27 x28)) fun x29 =>
 bnd (pick3 x22 (.bool true) x29) fun x30 =>
 br x30
 (rx .ret [.bool false])
 (bnd (abin .add (gx s3 0) (.int .i64 1)) fun x31 =>
 rx .normal [x31]))
 (rx (.exit 0) [.undef])) [.int .i64 0]) fun r32 =>
 ife r32.1 (.exit 0) (ret (.bool true)) (ife r32.1 .ret (ret (gx r32.2 0)) (fail)))
noncomputable def s_sp_IsValidWord (a0 a1 : AVal) : AM AVal :=
 bnd (s_sp_isWordOf a0 a1) fun x1 =>
 ret x1
noncomputable def s_sp_applyLetters (a0 a1 a2 : AVal) : AM AVal :=
 bnd (boxA none t_impl_Puzzle 3 a0) fun x1 =>
 bnd (s_sp_copyInts a1) fun x2 =>
 bnd (loopL (fun s3 =>
 bnd (lenA a2) fun x4 =>
 bnd (abin .lss (gx s3 1) x4) fun x5 =>
 br x5
 (bnd (ldn 3 x1) fun x6 =>
 bnd (ixa 1 a2 (gx s3 1)) fun x7 =>
 bnd (ld1 x7) fun x8 =>
 bnd (s_sp_applyLetter x6 (gx s3 0) x8) fun x9 =>
 bnd (abin .add (gx s3 1) (.int .i64 1)) fun x10 =>
 rx .normal [x9, x10])
 (rx (.exit 0) [gx s3 0])) [x2, .int .i64 0]) fun r11 =>
 ife r11.1 (.exit 0) (ret (gx r11.2 0)) (fail)
noncomputable def s_sp_PatternAfter (a0 a1 a2 a3 : AVal) : AM AVal :=
 bnd (boxA none t_impl_Puzzle 3 a0) fun x1 =>
 bnd (ldn 3 x1) fun x2 =>
 bnd (s_sp_IsPattern x2 a1 a2) fun x3 =>
 bnd (aun .not x3) fun x4 =>
 bnd (gd x4 false (fadd 2 x1)) fun x5 =>
 bnd (gd x4 false (ld1 x5)) fun x6 =>
 bnd (gd x4 false (lenA x6)) fun x7 =>
 bnd (gd x4 false (ret a3)) fun x8 =>
 bnd (gd x4 false (s_sp_IsValidWord x7 x8)) fun x9 =>
 bnd (gd x4 false (aun .not x9)) fun x10 =>
 bnd (pick3 x4 (.bool true) x10) fun x11 =>
 br x11
 (bnd (bnd (ret []) fun cs => allocS none t_int64 1 0 cs) fun x12 =>
 ret (.tuple [x12, .bool false]))
 (bnd (ldn 3 x1) fun x13 =>
 bnd (s_sp_applyLetters x13 a2 a3) fun x14 =>
 ret (.tuple [x14, .bool true]))
noncomputable def s_sp_indexOfList (a0 a1 : AVal) : AM AVal :=
 bnd (loopL (fun s1 =>
 bnd (lenA a0) fun x2 =>
 bnd (abin .lss (gx s1 0) x2) fun x3 =>
 br x3
 (bnd (ixa 1 a0 (gx s1 0)) fun x4 =>
 bnd (ld1 x4) fun x5 =>
 bnd (s_sp_equalInts x5 a1) fun x6 =>
 br x6
 (rx .ret [gx s1 0])
 (bnd (abin .add (gx s1 0) (.int .i64 1)) fun x7 =>
 rx .normal [x7]))
 (rx (.exit 0) [.undef])) [.int .i64 0]) fun r8 =>
 ife r8.1 (.exit 0) (ret (.int .i64 (-1))) (ife r8.1 .ret (ret (gx r8.2 0)) (fail))
noncomputable def s_sp_l28Record (a0 a1 : AVal) : AM AVal :=
 bnd (abin .quo a0 (.int .i64 256)) fun x1 =>
 bnd (cvInt .u8 x1) fun x2 =>
 bnd (abin .rem a0 (.int .i64 256)) fun x3 =>
 bnd (cvInt .u8 x3) fun x4 =>
 bnd (lenA a1) fun x5 =>
 bnd (cvInt .u8 x5) fun x6 =>
 bnd (bnd (bnd (cell1 x2) fun y7 => bnd (cell1 x4) fun y8 => bnd (cell1 x6) fun y9 => ret [y7, y8, y9]) fun cs => allocS none t_uint8 1 3 cs) fun x10 =>
 bnd (loopL (fun s11 =>
 bnd (lenA a1) fun x12 =>
 bnd (abin .lss (gx s11 1) x12) fun x13 =>
 br x13
 (bnd (loopL (fun s14 =>
 bnd (ixa 1 a1 (gx s11 1)) fun x15 =>
 bnd (ld1 x15) fun x16 =>
 bnd (lenA x16) fun x17 =>
 bnd (abin .lss (gx s14 1) x17) fun x18 =>
 br x18
 (bnd (ixa 1 a1 (gx s11 1)) fun x19 =>
 bnd (ld1 x19) fun x20 =>
 bnd (ixa 1 x20 (gx s14 1)) fun x21 =>
 bnd (ld1 x21) fun x22 =>
 bnd (cvInt .u8 x22) fun x23 =>
 bnd (bnd (bnd (cell1 x23) fun y24 => ret [y24]) fun cs => allocS none t_uint8 1 1 cs) fun x25 =>
 bnd (appS t_uint8 1 1 (gx s14 0) x25) fun x26 =>
 bnd (abin .add (gx s14 1) (.int .i64 1)) fun x27 =>
 rx .normal [x26, x27])
 (rx (.exit 2) [gx s14 0])) [gx s11 0, .int .i64 0]) fun r28 =>
 ife r28.1 (.exit 2) (bnd (abin .add (gx s11 1) (.int .i64 1)) fun x29 =>
 rx .normal [gx r28.2 0, x29]) (fail))
 (rx (.exit 0) [gx s11 0])) [x10, .int .i64 0]) fun r30 =>
 ife r30.1 (.exit 0) (bnd (b2s (gx r30.2 0)) fun x31 =>
 ret x31) (fail)
noncomputable def s_sp_Checksum (a0 : AVal) : AM AVal :=
 bnd (loopL (fun s1 =>
 bnd (lenT a0) fun x2 =>
 bnd (abin .lss (gx s1 2) x2) fun x3 =>
 br x3
 (bnd (ixStr a0 (gx s1 2)) fun x4 =>
 bnd (cvInt .i64 x4) fun x5 =>
 bnd (abin .add (gx s1 0) x5) fun x6 =>
 bnd (abin .rem x6 (.int .i64 65521)) fun x7 =>
 bnd (abin .add (gx s1 1) x7) fun x8 =>
 bnd (abin .rem x8 (.int .i64 65521)) fun x9 =>
 bnd (abin .add (gx s1 2) (.int .i64 1)) fun x10 =>
 rx .normal [x7, x9, x10])
 (rx (.exit 0) [gx s1 0, gx s1 1])) [.int .i64 1, .int .i64 0, .int .i64 0]) fun r11 =>
 ife r11.1 (.exit 0) (bnd (abin .mul (gx r11.2 1) (.int .i64 65536)) fun x12 =>
 bnd (abin .add x12 (gx r11.2 0)) fun x13 =>
 ret x13) (fail)
noncomputable def s_sp_l29Uint32 (a0 : AVal) : AM AVal :=
 bnd (abin .shr a0 (.int .u64 24)) fun x1 =>
 bnd (abin .and x1 (.int .i64 255)) fun x2 =>
 bnd (cvInt .u8 x2) fun x3 =>
 bnd (abin .shr a0 (.int .u64 16)) fun x4 =>
 bnd (abin .and x4 (.int .i64 255)) fun x5 =>
 bnd (cvInt .u8 x5) fun x6 =>
 bnd (abin .shr a0 (.int .u64 8)) fun x7 =>
 bnd (abin .and x7 (.int .i64 255)) fun x8 =>
 bnd (cvInt .u8 x8) fun x9 =>
 bnd (abin .and a0 (.int .i64 255)) fun x10 =>
 bnd (cvInt .u8 x10) fun x11 =>
 bnd (bnd (bnd (cell1 x3) fun y12 => bnd (cell1 x6) fun y13 => bnd (cell1 x9) fun y14 => bnd (cell1 x11) fun y15 => ret [y12, y13, y14, y15]) fun cs => allocS none t_uint8 1 4 cs) fun x16 =>
 bnd (b2s x16) fun x17 =>
 ret x17
noncomputable def s_sp_l28Expand (a0 a1 : AVal) : AM AVal :=
 bnd (boxA none t_impl_Puzzle 3 a0) fun x1 =>
 bnd (boxA none t_impl_FillJob 6 a1) fun x2 =>
 bnd (allocC none t_impl_FillJob [.nilS, .nilS, .nilS, .int .i64 0, .str [], .int .i64 0]) fun x3 =>
 bnd (ldn 6 x2) fun x4 =>
 bnd (s_sp_l28Copy x4) fun x5 =>
 bnd (allocC none t_impl_FillJob [.nilS, .nilS, .nilS, .int .i64 0, .str [], .int .i64 0]) fun x6 =>
 bnd (stn 6 x6 x5) fun _ =>
 bnd (fadd 0 x2) fun x7 =>
 bnd (fadd 1 x7) fun x8 =>
 bnd (ld1 x8) fun x9 =>
 bnd (fadd 3 x2) fun x10 =>
 bnd (ld1 x10) fun x11 =>
 bnd (ixa 1 x9 x11) fun x12 =>
 bnd (ld1 x12) fun x13 =>
 bnd (ldn 3 x1) fun x14 =>
 bnd (s_sp_Letters x14) fun x15 =>
 bnd (bnd (ret []) fun cs => allocS none t_Sint64 1 0 cs) fun x16 =>
 bnd (loopL (fun s17 =>
 bnd (lenA x15) fun x18 =>
 bnd (abin .lss (gx s17 1) x18) fun x19 =>
 br x19
 (bnd (ldn 3 x1) fun x20 =>
 bnd (fadd 0 x2) fun x21 =>
 bnd (fadd 0 x21) fun x22 =>
 bnd (ld1 x22) fun x23 =>
 bnd (abin .add (gx s17 1) (.int .i64 1)) fun x24 =>
 bnd (slS 1 x15 (some (gx s17 1)) (some x24)) fun x25 =>
 bnd (s_sp_PatternAfter x20 x23 x13 x25) fun x26 =>
 bnd (extr 0 x26) fun x27 =>
 bnd (extr 1 x26) fun x28 =>
 bnd (fadd 0 x6) fun x29 =>
 bnd (fadd 1 x29) fun x30 =>
 bnd (ld1 x30) fun x31 =>
 bnd (s_sp_indexOfList x31 x27) fun x32 =>
 bnd (abin .lss x32 (.int .i64 0)) fun x33 =>
 bnd (br x33 (bnd (fadd 0 x6) fun x34 =>
 bnd (fadd 1 x34) fun x35 =>
 bnd (ld1 x35) fun x36 =>
 bnd (bnd (bnd (cell1 x27) fun y37 => ret [y37]) fun cs => allocS none t_Sint64 1 1 cs) fun x38 =>
 bnd (appS t_Sint64 1 24 x36 x38) fun x39 =>
 bnd (fadd 0 x6) fun x40 =>
 bnd (fadd 1 x40) fun x41 =>
 bnd (st1 x41 x39) fun _ =>
 bnd (reserve 16) fun b42 =>
 bnd (fadd 0 x6) fun x43 =>
 bnd (fadd 2 x43) fun x44 =>
 bnd (ld1 x44) fun x45 =>
 bnd (fadd 0 x2) fun x46 =>
 bnd (fadd 2 x46) fun x47 =>
 bnd (ld1 x47) fun x48 =>
 bnd (fadd 3 x2) fun x49 =>
 bnd (ld1 x49) fun x50 =>
 bnd (ixa 1 x48 x50) fun x51 =>
 bnd (ld1 x51) fun x52 =>
 bnd (abin .add x52 (.int .i64 1)) fun x53 =>
 bnd (bnd (bnd (cell1 x53) fun y55 => ret [y55]) fun cs => allocS (some (b42 + 11)) t_int64 1 1 cs) fun x54 =>
 bnd (appS t_int64 1 8 x45 x54) fun x56 =>
 bnd (fadd 0 x6) fun x57 =>
 bnd (fadd 2 x57) fun x58 =>
 bnd (st1 x58 x56) fun _ =>
 bnd (bnd (bnd (cell1 x27) fun y59 => ret [y59]) fun cs => allocS none t_Sint64 1 1 cs) fun x60 =>
 bnd (appS t_Sint64 1 24 (gx s17 0) x60) fun x61 =>
 rx .normal [x61]) (rx .normal [gx s17 0])) fun r62 =>
 ife r62.1 .normal (bnd (abin .add (gx s17 1) (.int .i64 1)) fun x63 =>
 rx .normal [gx r62.2 0, x63]) (fail))
 (rx (.exit 0) [gx s17 0])) [x16, .int .i64 0]) fun r64 =>
 ife r64.1 (.exit 0) (bnd (fadd 3 x2) fun x65 =>
 bnd (ld1 x65) fun x66 =>
 bnd (s_sp_l28Record x66 (gx r64.2 0)) fun x67 =>
 bnd getH fun h68 =>
 bnd (s_sp_Checksum x67) fun x69 =>
 bnd getH fun h70 =>
 bnd (s_sp_l29Uint32 x69) fun x71 =>
 bnd (fadd 4 x6) fun x72 =>
 bnd (ld1 x72) fun x73 =>
 bnd (agn (ld1 x72) x73 [h70, h68]) fun _ =>
 bnd (abin .add x73 x67) fun x74 =>
 bnd (abin .add x74 x71) fun x75 =>
 bnd (fadd 4 x6) fun x76 =>
 bnd (st1 x76 x75) fun _ =>
 bnd (fadd 3 x2) fun x77 =>
 bnd (ld1 x77) fun x78 =>
 bnd (abin .add x78 (.int .i64 1)) fun x79 =>
 bnd (fadd 3 x6) fun x80 =>
 bnd (st1 x80 x79) fun _ =>
 bnd (ldn 6 x6) fun x81 =>
 bnd (stn 6 x3 x81) fun _ =>
 bnd (ldn 6 x3) fun v82 => ret v82) (fail)
noncomputable def s_sp_l28Step (a0 a1 : AVal) : AM AVal :=
 bnd (boxA none t_impl_Puzzle 3 a0) fun x1 =>
 bnd (boxA none t_impl_FillJob 6 a1) fun x2 =>
 bnd (allocC none t_impl_FillJob [.nilS, .nilS, .nilS, .int .i64 0, .str [], .int .i64 0]) fun x3 =>
 bnd (fadd 3 x2) fun x4 =>
 bnd (ld1 x4) fun x5 =>
 bnd (fadd 0 x2) fun x6 =>
 bnd (fadd 1 x6) fun x7 =>
 bnd (ld1 x7) fun x8 =>
 bnd (lenA x8) fun x9 =>
 bnd (abin .eql x5 x9) fun x10 =>
 br x10
 (bnd (ldn 6 x2) fun x11 =>
 bnd (stn 6 x3 x11) fun _ =>
 bnd (ldn 6 x3) fun v12 => ret (.tuple [v12, .bool false]))
 (bnd (ldn 3 x1) fun x13 =>
 bnd (ldn 6 x2) fun x14 =>
 bnd (s_sp_l28Expand x13 x14) fun x15 =>
 bnd (allocC none t_impl_FillJob [.nilS, .nilS, .nilS, .int .i64 0, .str [], .int .i64 0]) fun x16 =>
 bnd (stn 6 x16 x15) fun _ =>
 bnd (fadd 4 x16) fun x17 =>
 bnd (ld1 x17) fun x18 =>
 bnd (lenT x18) fun x19 =>
 bnd (abin .gtr x19 (.int .i64 60000)) fun x20 =>
 br x20
 (bnd (ldn 6 x2) fun x21 =>
 bnd (stn 6 x3 x21) fun _ =>
 bnd (ldn 6 x3) fun v22 => ret (.tuple [v22, .bool false]))
 (bnd (ldn 6 x16) fun x23 =>
 bnd (stn 6 x3 x23) fun _ =>
 bnd (ldn 6 x3) fun v24 => ret (.tuple [v24, .bool true])))
noncomputable def s_sp_between (a0 a1 a2 : AVal) : AM AVal :=
 bnd (abin .sub a2 a1) fun x1 =>
 bnd (abin .add x1 (.int .i64 1)) fun x2 =>
 bnd (s_sp_below a0 x2) fun x3 =>
 bnd (abin .add a1 x3) fun x4 =>
 ret x4
noncomputable def s_sp_corrupt (a0 a1 a2 : AVal) : AM AVal :=
 bnd (s2b none t_uint8 a1) fun x1 =>
 bnd (s_sp_below a0 (.int .i64 3)) fun x2 =>
 bnd (loopL (fun s3 =>
 bnd (abin .gtr (gx s3 1) (.int .i64 0)) fun x4 =>
 bnd (gd x4 true (ret (gx s3 0))) fun x5 =>
 bnd (gd x4 true (lenA x5)) fun x6 =>
 bnd (gd x4 true (abin .gtr x6 (.int .i64 0))) fun x7 =>
 bnd (pick3 x4 x7 (.bool false)) fun x8 =>
 br x8
 (bnd (lenA (gx s3 0)) fun x9 =>
 bnd (s_sp_below a0 x9) fun x10 =>
 bnd (s_sp_below a0 (.int .i64 4)) fun x11 =>
 bnd (abin .eql x11 (.int .i64 0)) fun x12 =>
 bnd (br x12 (bnd (lenT a2) fun x13 =>
 bnd (s_sp_below a0 x13) fun x14 =>
 bnd (ixStr a2 x14) fun x15 =>
 bnd (ixa 1 (gx s3 0) x10) fun x16 =>
 bnd (st1 x16 x15) fun _ =>
 rx .normal [gx s3 0]) (bnd (abin .eql x11 (.int .i64 1)) fun x17 =>
 bnd (br x17 (bnd (slS 1 (gx s3 0) none (some x10)) fun x18 =>
 rx .normal [x18]) (bnd (abin .eql x11 (.int .i64 2)) fun x19 =>
 bnd (br x19 (bnd (reserve 11) fun b20 =>
 bnd (bnd (ret []) fun cs => allocS (some (b20 + 0)) t_uint8 1 0 cs) fun x21 =>
 bnd (slS 1 (gx s3 0) none (some x10)) fun x22 =>
 bnd (appS t_uint8 1 1 x21 x22) fun x23 =>
 bnd (abin .add x10 (.int .i64 1)) fun x24 =>
 bnd (slS 1 (gx s3 0) (some x24) none) fun x25 =>
 bnd (appS t_uint8 1 1 x23 x25) fun x26 =>
 rx .normal [x26]) (bnd (abin .eql x11 (.int .i64 3)) fun x27 =>
 bnd (br x27 (bnd (reserve 18) fun b28 =>
 bnd getH fun h29 =>
 bnd (bnd (ret []) fun cs => allocS (some (b28 + 0)) t_uint8 1 0 cs) fun x30 =>
 bnd (slS 1 (gx s3 0) none (some x10)) fun x31 =>
 bnd getH fun h32 =>
 bnd (appS t_uint8 1 1 x30 x31) fun x33 =>
 bnd (lenT a2) fun x34 =>
 bnd (agn (lenT a2) x34 [h32, h29]) fun _ =>
 bnd (s_sp_below a0 x34) fun x35 =>
 bnd (ixStr a2 x35) fun x36 =>
 bnd (bnd (bnd (cell1 x36) fun y38 => ret [y38]) fun cs => allocS (some (b28 + 11)) t_uint8 1 1 cs) fun x37 =>
 bnd (appS t_uint8 1 1 x33 x37) fun x39 =>
 bnd (slS 1 (gx s3 0) (some x10) none) fun x40 =>
 bnd (appS t_uint8 1 1 x39 x40) fun x41 =>
 rx .normal [x41]) (rx .normal [gx s3 0])) fun r42 =>
 ife r42.1 .normal (rx .normal [gx r42.2 0]) (fail))) fun r43 =>
 ife r43.1 .normal (rx .normal [gx r43.2 0]) (fail))) fun r44 =>
 ife r44.1 .normal (rx .normal [gx r44.2 0]) (fail))) fun r45 =>
 ife r45.1 .normal (bnd (abin .sub (gx s3 1) (.int .i64 1)) fun x46 =>
 rx .normal [gx r45.2 0, x46]) (fail))
 (rx (.exit 0) [gx s3 0])) [x1, x2]) fun r47 =>
 ife r47.1 (.exit 0) (bnd (b2s (gx r47.2 0)) fun x48 =>
 ret x48) (fail)
noncomputable def s_sp_l28Draw (a0 : AVal) : AM AVal :=
 bnd (allocC none t_impl_Puzzle [.int .i64 0, .str [], .nilS]) fun x1 =>
 bnd (allocC none t_impl_FillJob [.nilS, .nilS, .nilS, .int .i64 0, .str [], .int .i64 0]) fun x2 =>
 bnd (s_sp_l24DrawPuzzle a0) fun x3 =>
 bnd (allocC none t_impl_Puzzle [.int .i64 0, .str [], .nilS]) fun x4 =>
 bnd (stn 3 x4 x3) fun _ =>
 bnd (s_sp_below a0 (.int .i64 2)) fun x5 =>
 bnd (bnd (bnd (cell1 x5) fun y6 => ret [y6]) fun cs => allocS none t_int64 1 1 cs) fun x7 =>
 bnd (s_sp_oneIn a0 (.int .i64 2)) fun x8 =>
 bnd (br x8 (bnd (bnd (bnd (cell1 (.int .i64 2)) fun y9 => ret [y9]) fun cs => allocS none t_int64 1 1 cs) fun x10 =>
 bnd (appS t_int64 1 8 x7 x10) fun x11 =>
 rx .normal [x11]) (rx .normal [x7])) fun r12 =>
 ife r12.1 .normal (bnd (ldn 3 x4) fun x13 =>
 bnd (s_sp_StartFill x13 (gx r12.2 0)) fun x14 =>
 bnd (extr 0 x14) fun x15 =>
 bnd (extr 1 x14) fun x16 =>
 bnd (allocC none t_impl_FillJob [.nilS, .nilS, .nilS, .int .i64 0, .str [], .int .i64 0]) fun x17 =>
 bnd (stn 6 x17 x15) fun _ =>
 bnd (aun .not x16) fun x18 =>
 br x18
 (bnd (ldn 3 x4) fun x19 =>
 bnd getH fun h20 =>
 bnd (stn 3 x1 x19) fun _ =>
 bnd (ldn 6 x17) fun x21 =>
 bnd (agn (ldn 6 x17) x21 [h20]) fun _ =>
 bnd (stn 6 x2 x21) fun _ =>
 bnd (ldn 3 x1) fun v22 => bnd (ldn 6 x2) fun v23 => ret (.tuple [v22, v23]))
 (bnd (s_sp_below a0 (.int .i64 5)) fun x24 =>
 bnd (loopL (fun s25 =>
 bnd (abin .gtr (gx s25 0) (.int .i64 0)) fun x26 =>
 br x26
 (bnd (ldn 3 x4) fun x27 =>
 bnd (ldn 6 x17) fun x28 =>
 bnd (s_sp_l28Step x27 x28) fun x29 =>
 bnd (extr 0 x29) fun x30 =>
 bnd (extr 1 x29) fun x31 =>
 bnd (stn 6 x17 x30) fun _ =>
 bnd (s_sp_oneIn a0 (.int .i64 3)) fun x32 =>
 bnd (br x32 (bnd (fadd 4 x17) fun x33 =>
 bnd (ld1 x33) fun x34 =>
 bnd (lenT x34) fun x35 =>
 bnd (fadd 5 x17) fun x36 =>
 bnd (st1 x36 x35) fun _ =>
 rx .normal []) (rx .normal [])) fun r37 =>
 ife r37.1 .normal (bnd (abin .sub (gx s25 0) (.int .i64 1)) fun x38 =>
 rx .normal [x38]) (fail))
 (rx (.exit 0) [])) [x24]) fun r39 =>
 ife r39.1 (.exit 0) (bnd (s_sp_oneIn a0 (.int .i64 8)) fun x40 =>
 bnd (br x40 (bnd (s_sp_below a0 (.int .i64 6)) fun x41 =>
 bnd (abin .eql x41 (.int .i64 0)) fun x42 =>
 bnd (br x42 (bnd getH fun h43 =>
 bnd (s_sp_between a0 (.int .i64 (-1)) (.int .i64 1)) fun x44 =>
 bnd (fadd 3 x17) fun x45 =>
 bnd (ld1 x45) fun x46 =>
 bnd (agn (ld1 x45) x46 [h43]) fun _ =>
 bnd (abin .add x46 x44) fun x47 =>
 bnd (fadd 3 x17) fun x48 =>
 bnd (st1 x48 x47) fun _ =>
 rx .normal []) (bnd (abin .eql x41 (.int .i64 1)) fun x49 =>
 bnd (br x49 (bnd (fadd 4 x17) fun x50 =>
 bnd (ld1 x50) fun x51 =>
 bnd (lenT x51) fun x52 =>
 bnd (abin .add x52 (.int .i64 1)) fun x53 =>
 bnd (s_sp_between a0 (.int .i64 (-1)) x53) fun x54 =>
 bnd (fadd 5 x17) fun x55 =>
 bnd (st1 x55 x54) fun _ =>
 rx .normal []) (bnd (abin .eql x41 (.int .i64 2)) fun x56 =>
 bnd (br x56 (bnd (fadd 4 x17) fun x57 =>
 bnd (ld1 x57) fun x58 =>
 bnd (s_sp_corrupt a0 x58 (.str [0, 1, 2])) fun x59 =>
 bnd (fadd 4 x17) fun x60 =>
 bnd (st1 x60 x59) fun _ =>
 rx .normal []) (bnd (abin .eql x41 (.int .i64 3)) fun x61 =>
 bnd (br x61 (bnd getH fun h62 =>
 bnd (s_sp_below a0 (.int .i64 2)) fun x63 =>
 bnd (fadd 0 x17) fun x64 =>
 bnd (fadd 2 x64) fun x65 =>
 bnd (ld1 x65) fun x66 =>
 bnd (agn (ld1 x65) x66 [h62]) fun _ =>
 bnd (ixa 1 x66 (.int .i64 0)) fun x67 =>
 bnd (st1 x67 x63) fun _ =>
 rx .normal []) (bnd (abin .eql x41 (.int .i64 4)) fun x68 =>
 bnd (br x68 (bnd (reserve 10) fun b69 =>
 bnd getH fun h70 =>
 bnd (s_sp_copyInts (gx r12.2 0)) fun x71 =>
 bnd (fadd 0 x17) fun x72 =>
 bnd (fadd 1 x72) fun x73 =>
 bnd (ld1 x73) fun x74 =>
 bnd (agn (ld1 x73) x74 [h70]) fun _ =>
 bnd (bnd (bnd (cell1 x71) fun y76 => ret [y76]) fun cs => allocS (some (b69 + 5)) t_Sint64 1 1 cs) fun x75 =>
 bnd (appS t_Sint64 1 24 x74 x75) fun x77 =>
 bnd (fadd 0 x17) fun x78 =>
 bnd (fadd 1 x78) fun x79 =>
 bnd (st1 x79 x77) fun _ =>
 rx .normal []) (bnd (abin .eql x41 (.int .i64 5)) fun x80 =>
 bnd (br x80 (bnd getH fun h81 =>
 bnd (s_sp_between a0 (.int .i64 (-1)) (.int .i64 4)) fun x82 =>
 bnd (fadd 0 x17) fun x83 =>
 bnd (fadd 0 x83) fun x84 =>
 bnd (ld1 x84) fun x85 =>
 bnd (agn (ld1 x84) x85 [h81]) fun _ =>
 bnd (ixa 1 x85 (.int .i64 0)) fun x86 =>
 bnd (st1 x86 x82) fun _ =>
 rx .normal []) (rx .normal [])) fun r87 =>
 ife r87.1 .normal (rx .normal []) (fail))) fun r88 =>
 ife r88.1 .normal (rx .normal []) (fail))) fun r89 =>
 ife r89.1 .normal (rx .normal []) (fail))) fun r90 =>
 ife r90.1 .normal (rx .normal []) (fail))) fun r91 =>
 ife r91.1 .normal (rx .normal []) (fail))) fun r92 =>
 ife r92.1 .normal (rx .normal []) (fail)) (rx .normal [])) fun r93 =>
 ife r93.1 .normal (bnd (ldn 3 x4) fun x94 =>
 bnd getH fun h95 =>
 bnd (stn 3 x1 x94) fun _ =>
 bnd (ldn 6 x17) fun x96 =>
 bnd (agn (ldn 6 x17) x96 [h95]) fun _ =>
 bnd (stn 6 x2 x96) fun _ =>
 bnd (ldn 3 x1) fun v97 => bnd (ldn 6 x2) fun v98 => ret (.tuple [v97, v98])) (fail)) (fail))) (fail)
noncomputable def s_sp_l30Draw (a0 : AVal) : AM AVal :=
 bnd (allocC none t_impl_Puzzle [.int .i64 0, .str [], .nilS]) fun x1 =>
 bnd (allocC none t_impl_Table [.nilS, .nilS, .nilS]) fun x2 =>
 bnd (s_sp_l28Draw a0) fun x3 =>
 bnd (extr 0 x3) fun x4 =>
 bnd (extr 1 x3) fun x5 =>
 bnd (allocC none t_impl_Puzzle [.int .i64 0, .str [], .nilS]) fun x6 =>
 bnd (allocC none t_impl_FillJob [.nilS, .nilS, .nilS, .int .i64 0, .str [], .int .i64 0]) fun x7 =>
 bnd (stn 3 x6 x4) fun _ =>
 bnd (stn 6 x7 x5) fun _ =>
 bnd (ldn 3 x6) fun x8 =>
 bnd (fadd 0 x7) fun x9 =>
 bnd (fadd 0 x9) fun x10 =>
 bnd (ld1 x10) fun x11 =>
 bnd (s_sp_BuildTable x8 x11) fun x12 =>
 bnd (extr 0 x12) fun x13 =>
 bnd (extr 1 x12) fun x14 =>
 bnd (allocC none t_impl_Table [.nilS, .nilS, .nilS]) fun x15 =>
 bnd (stn 3 x15 x13) fun _ =>
 bnd (aun .not x14) fun x16 =>
 br x16
 (bnd (ldn 3 x6) fun x17 =>
 bnd getH fun h18 =>
 bnd (stn 3 x1 x17) fun _ =>
 bnd (fadd 0 x7) fun x19 =>
 bnd (ldn 3 x19) fun x20 =>
 bnd (agn (ldn 3 x19) x20 [h18]) fun _ =>
 bnd (stn 3 x2 x20) fun _ =>
 bnd (ldn 3 x1) fun v21 => bnd (ldn 3 x2) fun v22 => ret (.tuple [v21, v22]))
 (bnd (fadd 1 x15) fun x23 =>
 bnd (ld1 x23) fun x24 =>
 bnd (lenA x24) fun x25 =>
 bnd (abin .gtr x25 (.int .i64 2)) fun x26 =>
 bnd (gd x26 true (ret a0)) fun x27 =>
 bnd (gd x26 true (s_sp_oneIn x27 (.int .i64 3))) fun x28 =>
 bnd (pick3 x26 x28 (.bool false)) fun x29 =>
 bnd (br x29 (bnd (abin .sub x25 (.int .i64 1)) fun x30 =>
 bnd (s_sp_below a0 x30) fun x31 =>
 bnd (abin .add (.int .i64 1) x31) fun x32 =>
 bnd (abin .sub x25 (.int .i64 1)) fun x33 =>
 bnd (s_sp_below a0 x33) fun x34 =>
 bnd (abin .add (.int .i64 1) x34) fun x35 =>
 bnd (fadd 1 x15) fun x36 =>
 bnd (ld1 x36) fun x37 =>
 bnd (ixa 1 x37 x32) fun x38 =>
 bnd (ld1 x38) fun x39 =>
 bnd (fadd 1 x15) fun x40 =>
 bnd (ld1 x40) fun x41 =>
 bnd (fadd 1 x15) fun x42 =>
 bnd (ld1 x42) fun x43 =>
 bnd (ixa 1 x43 x35) fun x44 =>
 bnd (ld1 x44) fun x45 =>
 bnd (ixa 1 x41 x32) fun x46 =>
 bnd (st1 x46 x45) fun _ =>
 bnd (fadd 1 x15) fun x47 =>
 bnd (ld1 x47) fun x48 =>
 bnd (ixa 1 x48 x35) fun x49 =>
 bnd (st1 x49 x39) fun _ =>
 bnd (s_sp_oneIn a0 (.int .i64 4)) fun x50 =>
 bnd (aun .not x50) fun x51 =>
 bnd (br x51 (bnd (fadd 2 x15) fun x52 =>
 bnd (ld1 x52) fun x53 =>
 bnd (ixa 1 x53 x32) fun x54 =>
 bnd (ld1 x54) fun x55 =>
 bnd (fadd 2 x15) fun x56 =>
 bnd (ld1 x56) fun x57 =>
 bnd (fadd 2 x15) fun x58 =>
 bnd (ld1 x58) fun x59 =>
 bnd (ixa 1 x59 x35) fun x60 =>
 bnd (ld1 x60) fun x61 =>
 bnd (ixa 1 x57 x32) fun x62 =>
 bnd (st1 x62 x61) fun _ =>
 bnd (fadd 2 x15) fun x63 =>
 bnd (ld1 x63) fun x64 =>
 bnd (ixa 1 x64 x35) fun x65 =>
 bnd (st1 x65 x55) fun _ =>
 rx .normal []) (rx .normal [])) fun r66 =>
 ife r66.1 .normal (rx .normal []) (fail)) (rx .normal [])) fun r67 =>
 ife r67.1 .normal (bnd (fadd 1 x15) fun x68 =>
 bnd (ld1 x68) fun x69 =>
 bnd (lenA x69) fun x70 =>
 bnd (s_sp_below a0 x70) fun x71 =>
 bnd (s_sp_below a0 (.int .i64 8)) fun x72 =>
 bnd (abin .eql x72 (.int .i64 0)) fun x73 =>
 bnd (br x73 (bnd getH fun h74 =>
 bnd (s_sp_between a0 (.int .i64 (-1)) (.int .i64 2)) fun x75 =>
 bnd (fadd 2 x15) fun x76 =>
 bnd (ld1 x76) fun x77 =>
 bnd (agn (ld1 x76) x77 [h74]) fun _ =>
 bnd (fadd 2 x15) fun x78 =>
 bnd (ld1 x78) fun x79 =>
 bnd (agn (ld1 x78) x79 [h74]) fun _ =>
 bnd (ixa 1 x79 x71) fun x80 =>
 bnd (ld1 x80) fun x81 =>
 bnd (agn (ld1 x80) x81 [h74]) fun _ =>
 bnd (abin .add x81 x75) fun x82 =>
 bnd (ixa 1 x77 x71) fun x83 =>
 bnd (st1 x83 x82) fun _ =>
 rx .normal []) (bnd (abin .eql x72 (.int .i64 1)) fun x84 =>
 bnd (br x84 (bnd (fadd 1 x15) fun x85 =>
 bnd (ld1 x85) fun x86 =>
 bnd (abin .add x71 (.int .i64 1)) fun x87 =>
 bnd (slS 1 x86 none (some x87)) fun x88 =>
 bnd (fadd 1 x15) fun x89 =>
 bnd (st1 x89 x88) fun _ =>
 bnd (fadd 2 x15) fun x90 =>
 bnd (ld1 x90) fun x91 =>
 bnd (abin .add x71 (.int .i64 1)) fun x92 =>
 bnd (slS 1 x91 none (some x92)) fun x93 =>
 bnd (fadd 2 x15) fun x94 =>
 bnd (st1 x94 x93) fun _ =>
 rx .normal []) (bnd (abin .eql x72 (.int .i64 2)) fun x95 =>
 bnd (br x95 (bnd (reserve 12) fun b96 =>
 bnd (fadd 1 x15) fun x97 =>
 bnd (ld1 x97) fun x98 =>
 bnd (ixa 1 x98 x71) fun x99 =>
 bnd (ld1 x99) fun x100 =>
 bnd getH fun h101 =>
 bnd (s_sp_copyInts x100) fun x102 =>
 bnd (fadd 1 x15) fun x103 =>
 bnd (ld1 x103) fun x104 =>
 bnd (agn (ld1 x103) x104 [h101]) fun _ =>
 bnd (bnd (bnd (cell1 x102) fun y106 => ret [y106]) fun cs => allocS (some (b96 + 8)) t_Sint64 1 1 cs) fun x105 =>
 bnd (appS t_Sint64 1 24 x104 x105) fun x107 =>
 bnd (fadd 1 x15) fun x108 =>
 bnd (st1 x108 x107) fun _ =>
 bnd (reserve 14) fun b109 =>
 bnd getH fun h110 =>
 bnd (s_sp_below a0 (.int .i64 2)) fun x111 =>
 bnd (fadd 2 x15) fun x112 =>
 bnd (ld1 x112) fun x113 =>
 bnd (agn (ld1 x112) x113 [h110]) fun _ =>
 bnd (fadd 2 x15) fun x114 =>
 bnd (ld1 x114) fun x115 =>
 bnd (agn (ld1 x114) x115 [h110]) fun _ =>
 bnd (ixa 1 x115 x71) fun x116 =>
 bnd (ld1 x116) fun x117 =>
 bnd (agn (ld1 x116) x117 [h110]) fun _ =>
 bnd (abin .add x117 x111) fun x118 =>
 bnd (bnd (bnd (cell1 x118) fun y120 => ret [y120]) fun cs => allocS (some (b109 + 10)) t_int64 1 1 cs) fun x119 =>
 bnd (appS t_int64 1 8 x113 x119) fun x121 =>
 bnd (fadd 2 x15) fun x122 =>
 bnd (st1 x122 x121) fun _ =>
 rx .normal []) (bnd (abin .eql x72 (.int .i64 3)) fun x123 =>
 bnd (br x123 (bnd (loopL (fun s124 =>
 bnd (fadd 2 x15) fun x125 =>
 bnd (ld1 x125) fun x126 =>
 bnd (lenA x126) fun x127 =>
 bnd (abin .lss (gx s124 0) x127) fun x128 =>
 br x128
 (bnd (fadd 2 x15) fun x129 =>
 bnd (ld1 x129) fun x130 =>
 bnd (fadd 2 x15) fun x131 =>
 bnd (ld1 x131) fun x132 =>
 bnd (ixa 1 x132 (gx s124 0)) fun x133 =>
 bnd (ld1 x133) fun x134 =>
 bnd (abin .quo x134 (.int .i64 2)) fun x135 =>
 bnd (ixa 1 x130 (gx s124 0)) fun x136 =>
 bnd (st1 x136 x135) fun _ =>
 bnd (abin .add (gx s124 0) (.int .i64 1)) fun x137 =>
 rx .normal [x137])
 (rx (.exit 1) [])) [.int .i64 0]) fun r138 =>
 ife r138.1 (.exit 1) (rx .normal []) (fail)) (bnd (abin .eql x72 (.int .i64 4)) fun x139 =>
 bnd (br x139 (bnd (s_sp_oneIn a0 (.int .i64 3)) fun x140 =>
 bnd (br x140 (bnd (reserve 8) fun b141 =>
 bnd getH fun h142 =>
 bnd (s_sp_between a0 (.int .i64 (-1)) (.int .i64 6)) fun x143 =>
 bnd (fadd 1 x15) fun x144 =>
 bnd (ld1 x144) fun x145 =>
 bnd (agn (ld1 x144) x145 [h142]) fun _ =>
 bnd (bnd (bnd (cell1 x143) fun y147 => ret [y147]) fun cs => allocS (some (b141 + 5)) t_int64 1 1 cs) fun x146 =>
 bnd (ixa 1 x145 x71) fun x148 =>
 bnd (st1 x148 x146) fun _ =>
 rx .normal []) (rx .normal [])) fun r149 =>
 ife r149.1 .normal (rx .normal []) (fail)) (rx .normal [])) fun r150 =>
 ife r150.1 .normal (rx .normal []) (fail))) fun r151 =>
 ife r151.1 .normal (rx .normal []) (fail))) fun r152 =>
 ife r152.1 .normal (rx .normal []) (fail))) fun r153 =>
 ife r153.1 .normal (rx .normal []) (fail))) fun r154 =>
 ife r154.1 .normal (bnd (ldn 3 x6) fun x155 =>
 bnd getH fun h156 =>
 bnd (stn 3 x1 x155) fun _ =>
 bnd (ldn 3 x15) fun x157 =>
 bnd (agn (ldn 3 x15) x157 [h156]) fun _ =>
 bnd (stn 3 x2 x157) fun _ =>
 bnd (ldn 3 x1) fun v158 => bnd (ldn 3 x2) fun v159 => ret (.tuple [v158, v159])) (fail)) (fail))
noncomputable def s_sp_DrawIsAdmissibleTable (a0 : AVal) : AM AVal :=
 bnd (allocC none t_impl_Puzzle [.int .i64 0, .str [], .nilS]) fun x1 =>
 bnd (allocC none t_impl_Table [.nilS, .nilS, .nilS]) fun x2 =>
 bnd (s_sp_newSource a0) fun x3 =>
 bnd (s_sp_l30Draw x3) fun x4 =>
 bnd (extr 0 x4) fun x5 =>
 bnd (extr 1 x4) fun x6 =>
 bnd (stn 3 x1 x5) fun _ =>
 bnd (stn 3 x2 x6) fun _ =>
 bnd (ldn 3 x1) fun v7 => bnd (ldn 3 x2) fun v8 => ret (.tuple [v7, v8])
noncomputable def s_im_within (a0 a1 a2 : AVal) : AM AVal :=
 bnd (abin .geq a0 a1) fun x1 =>
 bnd (gd x1 true (ret a0)) fun x2 =>
 bnd (gd x1 true (ret a2)) fun x3 =>
 bnd (gd x1 true (abin .leq x2 x3)) fun x4 =>
 bnd (pick3 x1 x4 (.bool false)) fun x5 =>
 ret x5
noncomputable def s_im_length_int64 (a0 : AVal) : AM AVal :=
 bnd (lenA a0) fun x1 =>
 ret x1
noncomputable def s_im_IsPermutation (a0 : AVal) : AM AVal :=
 bnd (s_im_length_int64 a0) fun x1 =>
 bnd (s_im_within x1 (.int .i64 1) (.int .i64 20)) fun x2 =>
 bnd (aun .not x2) fun x3 =>
 br x3
 (ret (.bool false))
 (bnd (lenA a0) fun x4 =>
 bnd (loopL (fun s5 =>
 bnd (abin .lss (gx s5 1) x4) fun x6 =>
 br x6
 (bnd (ixa 1 a0 (gx s5 1)) fun x7 =>
 bnd (ld1 x7) fun x8 =>
 bnd (s_im_length_int64 a0) fun x9 =>
 bnd (abin .sub x9 (.int .i64 1)) fun x10 =>
 bnd (s_im_within x8 (.int .i64 0) x10) fun x11 =>
 bnd (aun .not x11) fun x12 =>
 br x12
 (rx .ret [.bool false, gx s5 0])
 (bnd (abin .shl (.int .i64 1) x8) fun x13 =>
 bnd (abin .or (gx s5 0) x13) fun x14 =>
 bnd (abin .add (gx s5 1) (.int .i64 1)) fun x15 =>
 rx .normal [x14, x15]))
 (rx (.exit 0) [.undef, gx s5 0])) [.int .i64 0, .int .i64 0]) fun r16 =>
 ife r16.1 (.exit 0) (bnd (lenA a0) fun x17 =>
 bnd (abin .shl (.int .i64 1) x17) fun x18 =>
 bnd (abin .sub x18 (.int .i64 1)) fun x19 =>
 bnd (abin .eql (gx r16.2 1) x19) fun x20 =>
 ret x20) (ife r16.1 .ret (ret (gx r16.2 0)) (fail)))
noncomputable def s_im_IsGeneratorSet_1 (a0 a1 : AVal) : AM AVal :=
 bnd getH fun h1 =>
 bnd (s_im_length_int64 a0) fun x2 =>
 bnd (ld1 a1) fun x3 =>
 bnd (agn (ld1 a1) x3 [h1]) fun _ =>
 bnd (abin .neq x2 x3) fun x4 =>
 bnd (gd x4 false (ret a0)) fun x5 =>
 bnd (gd x4 false (s_im_IsPermutation x5)) fun x6 =>
 bnd (gd x4 false (aun .not x6)) fun x7 =>
 bnd (pick3 x4 (.bool true) x7) fun x8 =>
 ret x8
noncomputable def s_Pim_proof_entryFaults_1 (a0 a1 a2 a3 a4 : AVal) : AM AVal :=
 bnd (br a0 (bnd (ld1 a3) fun x1 =>
 bnd (ld1 a4) fun x2 =>
 bnd (bnd (bnd (cell1 a1) fun y3 => bnd (cell1 x2) fun y4 => bnd (cell1 a2) fun y5 => ret [y3, y4, y5]) fun cs => ret (.agg cs)) fun x6 =>
 bnd (bnd (afillM (fun i => some (i * 3, 3)) [(0, x6)] [.int .i64 0, .int .i64 0, .int .i64 0]) fun cs => allocS none t_impl_TableFault 3 1 cs) fun x7 =>
 bnd (appS t_impl_TableFault 3 24 x1 x7) fun x8 =>
 bnd (st1 a3 x8) fun _ =>
 rx .normal []) (rx .normal [])) fun r9 =>
 ife r9.1 .normal (ret (.tuple [])) (fail)
noncomputable def c_s_slices_IndexFunc_SSint64_Sint64 : CallTab := tab [(k_s_Pim_proof_entryFaults_1, ap5 s_Pim_proof_entryFaults_1), (k_s_im_IsGeneratorSet_1, ap2 s_im_IsGeneratorSet_1)]
noncomputable def s_slices_IndexFunc_SSint64_Sint64 (a0 a1 : AVal) : AM AVal :=
 bnd (lenA a0) fun x1 =>
 bnd (loopL (fun s2 =>
 bnd (abin .lss (gx s2 0) x1) fun x3 =>
 br x3
 (bnd (ixa 1 a0 (gx s2 0)) fun x4 =>
 bnd (ld1 x4) fun x5 =>
 bnd (callV c_s_slices_IndexFunc_SSint64_Sint64 a1 [x5]) fun x6 =>
 br x6
 (rx .ret [gx s2 0])
 (bnd (abin .add (gx s2 0) (.int .i64 1)) fun x7 =>
 rx .normal [x7]))
 (rx (.exit 0) [.undef])) [.int .i64 0]) fun r8 =>
 ife r8.1 (.exit 0) (ret (.int .i64 (-1))) (ife r8.1 .ret (ret (gx r8.2 0)) (fail))
noncomputable def s_slices_ContainsFunc_SSint64_Sint64 (a0 a1 : AVal) : AM AVal :=
 bnd (s_slices_IndexFunc_SSint64_Sint64 a0 a1) fun x1 =>
 bnd (abin .geq x1 (.int .i64 0)) fun x2 =>
 ret x2
noncomputable def s_im_IsGeneratorSet (a0 a1 : AVal) : AM AVal :=
 bnd (boxA none t_int64 1 a0) fun x1 =>
 bnd (ld1 x1) fun x2 =>
 bnd (s_im_within x2 (.int .i64 1) (.int .i64 20)) fun x3 =>
 bnd (gd x3 true (ret a1)) fun x4 =>
 bnd (gd x3 true (lenA x4)) fun x5 =>
 bnd (gd x3 true (abin .leq x5 (.int .i64 8))) fun x6 =>
 bnd (pick3 x3 x6 (.bool false)) fun x7 =>
 bnd (gd x7 true (ret a1)) fun x8 =>
 bnd (gd x7 true (ret (.func (.func k_s_im_IsGeneratorSet_1) [] [x1]))) fun x9 =>
 bnd (gd x7 true (s_slices_ContainsFunc_SSint64_Sint64 x8 x9)) fun x10 =>
 bnd (gd x7 true (aun .not x10)) fun x11 =>
 bnd (pick3 x7 x11 (.bool false)) fun x12 =>
 ret x12
noncomputable def s_im_isNames (a0 : AVal) : AM AVal :=
 bnd (lenT a0) fun x1 =>
 bnd (loopL (fun s2 =>
 bnd (abin .lss (gx s2 0) x1) fun x3 =>
 br x3
 (bnd (ixStr a0 (gx s2 0)) fun x4 =>
 bnd (cvInt .i64 x4) fun x5 =>
 bnd (s_im_within x5 (.int .i64 65) (.int .i64 90)) fun x6 =>
 bnd (aun .not x6) fun x7 =>
 br x7
 (rx .ret [.bool false])
 (bnd (loopL (fun s8 =>
 bnd (abin .lss (gx s8 0) (gx s2 0)) fun x9 =>
 br x9
 (bnd (ixStr a0 (gx s8 0)) fun x10 =>
 bnd (ixStr a0 (gx s2 0)) fun x11 =>
 bnd (abin .eql x10 x11) fun x12 =>
 br x12
 (rx .ret [.bool false])
 (bnd (abin .add (gx s8 0) (.int .i64 1)) fun x13 =>
 rx .normal [x13]))
 (rx (.exit 2) [.undef])) [.int .i64 0]) fun r14 =>
 ife r14.1 (.exit 2) (bnd (abin .add (gx s2 0) (.int .i64 1)) fun x15 =>
 rx .normal [x15]) (ife r14.1 .ret (rx .ret [gx r14.2 0]) (fail))))
 (rx (.exit 0) [.undef])) [.int .i64 0]) fun r16 =>
 ife r16.1 (.exit 0) (bnd (lenT a0) fun x17 =>
 bnd (s_im_within x17 (.int .i64 1) (.int .i64 8)) fun x18 =>
 ret x18) (ife r16.1 .ret (ret (gx r16.2 0)) (fail))
noncomputable def s_im_IsValidPuzzle (a0 : AVal) : AM AVal :=
 bnd (boxA none t_impl_Puzzle 3 a0) fun x1 =>
 bnd (fadd 0 x1) fun x2 =>
 bnd (ld1 x2) fun x3 =>
 bnd (fadd 2 x1) fun x4 =>
 bnd (ld1 x4) fun x5 =>
 bnd (s_im_IsGeneratorSet x3 x5) fun x6 =>
 bnd (gd x6 true (fadd 1 x1)) fun x7 =>
 bnd (gd x6 true (ld1 x7)) fun x8 =>
 bnd (gd x6 true (s_im_isNames x8)) fun x9 =>
 bnd (pick3 x6 x9 (.bool false)) fun x10 =>
 bnd (gd x10 true (fadd 1 x1)) fun x11 =>
 bnd (gd x10 true (ld1 x11)) fun x12 =>
 bnd (gd x10 true (lenT x12)) fun x13 =>
 bnd (gd x10 true (fadd 2 x1)) fun x14 =>
 bnd (gd x10 true (ld1 x14)) fun x15 =>
 bnd (gd x10 true (lenA x15)) fun x16 =>
 bnd (gd x10 true (abin .eql x13 x16)) fun x17 =>
 bnd (pick3 x10 x17 (.bool false)) fun x18 =>
 ret x18
noncomputable def s_im_isPoint (a0 a1 : AVal) : AM AVal :=
 bnd (abin .sub a0 (.int .i64 1)) fun x1 =>
 bnd (s_im_within a1 (.int .i64 0) x1) fun x2 =>
 ret x2
noncomputable def s_im_isTracked (a0 a1 : AVal) : AM AVal :=
 bnd (lenA a1) fun x1 =>
 bnd (loopL (fun s2 =>
 bnd (abin .lss (gx s2 0) x1) fun x3 =>
 br x3
 (bnd (ixa 1 a1 (gx s2 0)) fun x4 =>
 bnd (ld1 x4) fun x5 =>
 bnd (s_im_isPoint a0 x5) fun x6 =>
 bnd (aun .not x6) fun x7 =>
 bnd (gd x7 false (ret (gx s2 0))) fun x8 =>
 bnd (gd x7 false (abin .gtr x8 (.int .i64 0))) fun x9 =>
 bnd (gd x7 false (ret x9)) fun x10 =>
 bnd (gd x10 true (ret a1)) fun x11 =>
 bnd (gd x10 true (ret (gx s2 0))) fun x12 =>
 bnd (gd x10 true (abin .sub x12 (.int .i64 1))) fun x13 =>
 bnd (gd x10 true (ixa 1 x11 x13)) fun x14 =>
 bnd (gd x10 true (ld1 x14)) fun x15 =>
 bnd (gd x10 true (ret x5)) fun x16 =>
 bnd (gd x10 true (abin .geq x15 x16)) fun x17 =>
 bnd (gd x7 false (pick3 x10 x17 (.bool false))) fun x18 =>
 bnd (pick3 x7 (.bool true) x18) fun x19 =>
 br x19
 (rx .ret [.bool false])
 (bnd (abin .add (gx s2 0) (.int .i64 1)) fun x20 =>
 rx .normal [x20]))
 (rx (.exit 0) [.undef])) [.int .i64 0]) fun r21 =>
 ife r21.1 (.exit 0) (bnd (lenA a1) fun x22 =>
 bnd (abin .gtr x22 (.int .i64 0)) fun x23 =>
 ret x23) (ife r21.1 .ret (ret (gx r21.2 0)) (fail))
noncomputable def s_im_length_Sint64 (a0 : AVal) : AM AVal :=
 bnd (lenA a0) fun x1 =>
 ret x1
noncomputable def s_slices_Index_Sint64_int64 (a0 a1 : AVal) : AM AVal :=
 bnd (lenA a0) fun x1 =>
 bnd (loopL (fun s2 =>
 bnd (abin .lss (gx s2 0) x1) fun x3 =>
 br x3
 (bnd (ixa 1 a0 (gx s2 0)) fun x4 =>
 bnd (ld1 x4) fun x5 =>
 bnd (abin .eql a1 x5) fun x6 =>
 br x6
 (rx .ret [gx s2 0])
 (bnd (abin .add (gx s2 0) (.int .i64 1)) fun x7 =>
 rx .normal [x7]))
 (rx (.exit 0) [.undef])) [.int .i64 0]) fun r8 =>
 ife r8.1 (.exit 0) (ret (.int .i64 (-1))) (ife r8.1 .ret (ret (gx r8.2 0)) (fail))
noncomputable def s_slices_Contains_Sint64_int64 (a0 a1 : AVal) : AM AVal :=
 bnd (s_slices_Index_Sint64_int64 a0 a1) fun x1 =>
 bnd (abin .geq x1 (.int .i64 0)) fun x2 =>
 ret x2
noncomputable def s_im_isPattern (a0 a1 a2 : AVal) : AM AVal :=
 bnd (lenA a2) fun x1 =>
 bnd (loopL (fun s2 =>
 bnd (abin .lss (gx s2 0) x1) fun x3 =>
 br x3
 (bnd (ixa 1 a2 (gx s2 0)) fun x4 =>
 bnd (ld1 x4) fun x5 =>
 bnd (s_im_isPoint a0 x5) fun x6 =>
 bnd (aun .not x6) fun x7 =>
 bnd (gd x7 false (ret a2)) fun x8 =>
 bnd (gd x7 false (ret (gx s2 0))) fun x9 =>
 bnd (gd x7 false (slS 1 x8 none (some x9))) fun x10 =>
 bnd (gd x7 false (ret x5)) fun x11 =>
 bnd (gd x7 false (s_slices_Contains_Sint64_int64 x10 x11)) fun x12 =>
 bnd (pick3 x7 (.bool true) x12) fun x13 =>
 br x13
 (rx .ret [.bool false])
 (bnd (abin .add (gx s2 0) (.int .i64 1)) fun x14 =>
 rx .normal [x14]))
 (rx (.exit 0) [.undef])) [.int .i64 0]) fun r15 =>
 ife r15.1 (.exit 0) (bnd (lenA a2) fun x16 =>
 bnd (abin .eql x16 a1) fun x17 =>
 ret x17) (ife r15.1 .ret (ret (gx r15.2 0)) (fail))
noncomputable def s_im_IsWellFormedTable (a0 : AVal) : AM AVal :=
 bnd (boxA none t_impl_Table 3 a0) fun x1 =>
 bnd (fadd 0 x1) fun x2 =>
 bnd (ld1 x2) fun x3 =>
 bnd (s_im_isTracked (.int .i64 20) x3) fun x4 =>
 bnd (aun .not x4) fun x5 =>
 bnd (gd x5 false (fadd 1 x1)) fun x6 =>
 bnd (gd x5 false (ld1 x6)) fun x7 =>
 bnd (gd x5 false (lenA x7)) fun x8 =>
 bnd (gd x5 false (fadd 2 x1)) fun x9 =>
 bnd (gd x5 false (ld1 x9)) fun x10 =>
 bnd (gd x5 false (lenA x10)) fun x11 =>
 bnd (gd x5 false (abin .neq x8 x11)) fun x12 =>
 bnd (pick3 x5 (.bool true) x12) fun x13 =>
 bnd (gd x13 false (fadd 1 x1)) fun x14 =>
 bnd (gd x13 false (ld1 x14)) fun x15 =>
 bnd (gd x13 false (s_im_length_Sint64 x15)) fun x16 =>
 bnd (gd x13 false (s_im_within x16 (.int .i64 1) (.int .i64 3000))) fun x17 =>
 bnd (gd x13 false (aun .not x17)) fun x18 =>
 bnd (pick3 x13 (.bool true) x18) fun x19 =>
 br x19
 (ret (.bool false))
 (bnd (fadd 1 x1) fun x20 =>
 bnd (ld1 x20) fun x21 =>
 bnd (lenA x21) fun x22 =>
 bnd (loopL (fun s23 =>
 bnd (abin .lss (gx s23 0) x22) fun x24 =>
 br x24
 (bnd (ixa 1 x21 (gx s23 0)) fun x25 =>
 bnd (ld1 x25) fun x26 =>
 bnd (fadd 0 x1) fun x27 =>
 bnd (ld1 x27) fun x28 =>
 bnd (lenA x28) fun x29 =>
 bnd (s_im_isPattern (.int .i64 20) x29 x26) fun x30 =>
 bnd (aun .not x30) fun x31 =>
 bnd (gd x31 false (fadd 2 x1)) fun x32 =>
 bnd (gd x31 false (ld1 x32)) fun x33 =>
 bnd (gd x31 false (ret (gx s23 0))) fun x34 =>
 bnd (gd x31 false (ixa 1 x33 x34)) fun x35 =>
 bnd (gd x31 false (ld1 x35)) fun x36 =>
 bnd (gd x31 false (s_im_within x36 (.int .i64 0) (.int .i64 3000))) fun x37 =>
 bnd (gd x31 false (aun .not x37)) fun x38 =>
 bnd (pick3 x31 (.bool true) x38) fun x39 =>
 br x39
 (rx .ret [.bool false])
 (bnd (abin .add (gx s23 0) (.int .i64 1)) fun x40 =>
 rx .normal [x40]))
 (rx (.exit 0) [.undef])) [.int .i64 0]) fun r41 =>
 ife r41.1 (.exit 0) (ret (.bool true)) (ife r41.1 .ret (ret (gx r41.2 0)) (fail)))
noncomputable def s_im_letters (a0 : AVal) : AM AVal :=
 bnd (loopL (fun s1 =>
 bnd (abin .lss (gx s1 1) a0) fun x2 =>
 br x2
 (bnd (abin .add (gx s1 1) (.int .i64 1)) fun x3 =>
 bnd (abin .add (gx s1 1) (.int .i64 1)) fun x4 =>
 bnd (aun .neg x4) fun x5 =>
 bnd (bnd (bnd (cell1 x3) fun y6 => bnd (cell1 x5) fun y7 => ret [y6, y7]) fun cs => allocS none t_int64 1 2 cs) fun x8 =>
 bnd (appS t_int64 1 8 (gx s1 0) x8) fun x9 =>
 bnd (abin .add (gx s1 1) (.int .i64 1)) fun x10 =>
 rx .normal [x9, x10])
 (rx (.exit 0) [gx s1 0])) [.nilS, .int .i64 0]) fun r11 =>
 ife r11.1 (.exit 0) (ret (gx r11.2 0)) (fail)
noncomputable def s_im_stateKey (a0 : AVal) : AM AVal :=
 bnd (lenA a0) fun x1 =>
 bnd (mkS none t_uint8 1 1 [.int .u8 0] x1 x1) fun x2 =>
 bnd (lenA a0) fun x3 =>
 bnd (loopL (fun s4 =>
 bnd (abin .lss (gx s4 0) x3) fun x5 =>
 br x5
 (bnd (ixa 1 a0 (gx s4 0)) fun x6 =>
 bnd (ld1 x6) fun x7 =>
 bnd (cvInt .u8 x7) fun x8 =>
 bnd (ixa 1 x2 (gx s4 0)) fun x9 =>
 bnd (st1 x9 x8) fun _ =>
 bnd (abin .add (gx s4 0) (.int .i64 1)) fun x10 =>
 rx .normal [x10])
 (rx (.exit 0) [])) [.int .i64 0]) fun r11 =>
 ife r11.1 (.exit 0) (bnd (b2s x2) fun x12 =>
 ret x12) (fail)
noncomputable def s_im_inverse (a0 : AVal) : AM AVal :=
 bnd (lenA a0) fun x1 =>
 bnd (mkS none t_int64 1 8 [.int .i64 0] x1 x1) fun x2 =>
 bnd (lenA a0) fun x3 =>
 bnd (loopL (fun s4 =>
 bnd (abin .lss (gx s4 0) x3) fun x5 =>
 br x5
 (bnd (ixa 1 a0 (gx s4 0)) fun x6 =>
 bnd (ld1 x6) fun x7 =>
 bnd (ixa 1 x2 x7) fun x8 =>
 bnd (st1 x8 (gx s4 0)) fun _ =>
 bnd (abin .add (gx s4 0) (.int .i64 1)) fun x9 =>
 rx .normal [x9])
 (rx (.exit 0) [])) [.int .i64 0]) fun r10 =>
 ife r10.1 (.exit 0) (ret x2) (fail)
noncomputable def s_im_letterOf (a0 a1 : AVal) : AM AVal :=
 bnd (abin .gtr a1 (.int .i64 0)) fun x1 =>
 br x1
 (bnd (abin .sub a1 (.int .i64 1)) fun x2 =>
 bnd (ixa 1 a0 x2) fun x3 =>
 bnd (ld1 x3) fun x4 =>
 ret x4)
 (bnd (aun .neg a1) fun x5 =>
 bnd (abin .sub x5 (.int .i64 1)) fun x6 =>
 bnd (ixa 1 a0 x6) fun x7 =>
 bnd (ld1 x7) fun x8 =>
 bnd (s_im_inverse x8) fun x9 =>
 ret x9)
noncomputable def s_im_newProof (a0 a1 : AVal) : AM AVal :=
 bnd (boxA none t_impl_Puzzle 3 a0) fun x1 =>
 bnd (boxA none t_impl_Table 3 a1) fun x2 =>
 bnd (ldn 3 x1) fun x3 =>
 bnd (s_im_IsValidPuzzle x3) fun x4 =>
 bnd (aun .not x4) fun x5 =>
 bnd (gd x5 false (ldn 3 x2)) fun x6 =>
 bnd (gd x5 false (s_im_IsWellFormedTable x6)) fun x7 =>
 bnd (gd x5 false (aun .not x7)) fun x8 =>
 bnd (pick3 x5 (.bool true) x8) fun x9 =>
 bnd (gd x9 false (fadd 0 x1)) fun x10 =>
 bnd (gd x9 false (ld1 x10)) fun x11 =>
 bnd (gd x9 false (fadd 0 x2)) fun x12 =>
 bnd (gd x9 false (ld1 x12)) fun x13 =>
 bnd (gd x9 false (s_im_isTracked x11 x13)) fun x14 =>
 bnd (gd x9 false (aun .not x14)) fun x15 =>
 bnd (pick3 x9 (.bool true) x15) fun x16 =>
 br x16
 (ret (.tuple [.nil, .bool false]))
 (bnd (reserve 9) fun b17 =>
 bnd (fadd 2 x1) fun x18 =>
 bnd (ld1 x18) fun x19 =>
 bnd (lenA x19) fun x20 =>
 bnd getH fun h21 =>
 bnd (s_im_letters x20) fun x22 =>
 bnd (ldn 3 x2) fun x23 =>
 bnd (agn (ldn 3 x2) x23 [h21]) fun _ =>
 bnd (newM (some (b17 + 5))) fun x24 =>
 bnd (bnd (afillM (plc [(0, 3), (3, 1), (4, 1), (5, 1)]) [(0, x23), (1, x22), (3, x24)] [.nilS, .nilS, .nilS, .nilS, .nilS, .nilM]) fun cs => ret (.agg cs)) fun x25 =>
 bnd (boxA (some (b17 + 7)) t_impl_proof 6 x25) fun x26 =>
 bnd (fadd 1 x2) fun x27 =>
 bnd (ld1 x27) fun x28 =>
 bnd (lenA x28) fun x29 =>
 bnd (loopL (fun s30 =>
 bnd (abin .lss (gx s30 0) x29) fun x31 =>
 br x31
 (bnd (ixa 1 x28 (gx s30 0)) fun x32 =>
 bnd (ld1 x32) fun x33 =>
 bnd (fadd 0 x1) fun x34 =>
 bnd (ld1 x34) fun x35 =>
 bnd (fadd 0 x2) fun x36 =>
 bnd (ld1 x36) fun x37 =>
 bnd (lenA x37) fun x38 =>
 bnd (s_im_isPattern x35 x38 x33) fun x39 =>
 bnd (aun .not x39) fun x40 =>
 br x40
 (rx .ret [.nil, .bool false])
 (bnd getH fun h41 =>
 bnd (s_im_stateKey x33) fun x42 =>
 bnd (ncheck x26) fun x43 =>
 bnd (fadd 5 x43) fun x44 =>
 bnd (ld1 x44) fun x45 =>
 bnd (agn (ld1 x44) x45 [h41]) fun _ =>
 bnd (lkp .string (.int .i64 0) true x45 x42) fun x46 =>
 bnd (extr 0 x46) fun x47 =>
 bnd (extr 1 x46) fun x48 =>
 bnd (aun .not x48) fun x49 =>
 bnd (br x49 (bnd getH fun h50 =>
 bnd (s_im_stateKey x33) fun x51 =>
 bnd (ncheck x26) fun x52 =>
 bnd (fadd 5 x52) fun x53 =>
 bnd (ld1 x53) fun x54 =>
 bnd (agn (ld1 x53) x54 [h50]) fun _ =>
 bnd (mupd .string x54 x51 (gx s30 0)) fun _ =>
 rx .normal []) (rx .normal [])) fun r55 =>
 ife r55.1 .normal (bnd (abin .add (gx s30 0) (.int .i64 1)) fun x56 =>
 rx .normal [x56]) (fail)))
 (rx (.exit 0) [.undef, .undef])) [.int .i64 0]) fun r57 =>
 ife r57.1 (.exit 0) (bnd (ncheck x26) fun x58 =>
 bnd (fadd 3 x58) fun x59 =>
 bnd (ld1 x59) fun x60 =>
 bnd (lenA x60) fun x61 =>
 bnd (loopL (fun s62 =>
 bnd (abin .lss (gx s62 0) x61) fun x63 =>
 br x63
 (bnd (ixa 1 x60 (gx s62 0)) fun x64 =>
 bnd (ld1 x64) fun x65 =>
 bnd (reserve 14) fun b66 =>
 bnd (fadd 2 x1) fun x67 =>
 bnd (ld1 x67) fun x68 =>
 bnd getH fun h69 =>
 bnd (s_im_letterOf x68 x65) fun x70 =>
 bnd (ncheck x26) fun x71 =>
 bnd (fadd 4 x71) fun x72 =>
 bnd (ld1 x72) fun x73 =>
 bnd (agn (ld1 x72) x73 [h69]) fun _ =>
 bnd (bnd (bnd (cell1 x70) fun y75 => ret [y75]) fun cs => allocS (some (b66 + 9)) t_Sint64 1 1 cs) fun x74 =>
 bnd (appS t_Sint64 1 24 x73 x74) fun x76 =>
 bnd (ncheck x26) fun x77 =>
 bnd (fadd 4 x77) fun x78 =>
 bnd (st1 x78 x76) fun _ =>
 bnd (abin .add (gx s62 0) (.int .i64 1)) fun x79 =>
 rx .normal [x79])
 (rx (.exit 2) [])) [.int .i64 0]) fun r80 =>
 ife r80.1 (.exit 2) (ret (.tuple [x26, .bool true])) (fail)) (ife r57.1 .ret (ret (.tuple [gx r57.2 0, gx r57.2 1])) (fail)))
noncomputable def s_slices_Equal_Sint64_int64 (a0 a1 : AVal) : AM AVal :=
 bnd (lenA a0) fun x1 =>
 bnd (lenA a1) fun x2 =>
 bnd (abin .neq x1 x2) fun x3 =>
 br x3
 (ret (.bool false))
 (bnd (lenA a0) fun x4 =>
 bnd (loopL (fun s5 =>
 bnd (abin .lss (gx s5 0) x4) fun x6 =>
 br x6
 (bnd (ixa 1 a0 (gx s5 0)) fun x7 =>
 bnd (ld1 x7) fun x8 =>
 bnd (ixa 1 a1 (gx s5 0)) fun x9 =>
 bnd (ld1 x9) fun x10 =>
 bnd (abin .neq x8 x10) fun x11 =>
 br x11
 (rx .ret [.bool false])
 (bnd (abin .add (gx s5 0) (.int .i64 1)) fun x12 =>
 rx .normal [x12]))
 (rx (.exit 0) [.undef])) [.int .i64 0]) fun r13 =>
 ife r13.1 (.exit 0) (ret (.bool true)) (ife r13.1 .ret (ret (gx r13.2 0)) (fail)))
noncomputable def s_im_picked (a0 a1 : AVal) : AM AVal :=
 bnd (lenA a1) fun x1 =>
 bnd (mkS none t_int64 1 8 [.int .i64 0] x1 x1) fun x2 =>
 bnd (lenA a1) fun x3 =>
 bnd (loopL (fun s4 =>
 bnd (abin .lss (gx s4 0) x3) fun x5 =>
 br x5
 (bnd (ixa 1 a1 (gx s4 0)) fun x6 =>
 bnd (ld1 x6) fun x7 =>
 bnd (ixa 1 a0 x7) fun x8 =>
 bnd (ld1 x8) fun x9 =>
 bnd (ixa 1 x2 (gx s4 0)) fun x10 =>
 bnd (st1 x10 x9) fun _ =>
 bnd (abin .add (gx s4 0) (.int .i64 1)) fun x11 =>
 rx .normal [x11])
 (rx (.exit 0) [])) [.int .i64 0]) fun r12 =>
 ife r12.1 (.exit 0) (ret x2) (fail)
noncomputable def s_Pim_proof_to (a0 a1 a2 : AVal) : AM AVal :=
 bnd (ncheck a0) fun x1 =>
 bnd (fadd 4 x1) fun x2 =>
 bnd (ld1 x2) fun x3 =>
 bnd (ixa 1 x3 a2) fun x4 =>
 bnd (ld1 x4) fun x5 =>
 bnd getH fun h6 =>
 bnd (s_im_picked x5 a1) fun x7 =>
 bnd getH fun h8 =>
 bnd (s_im_stateKey x7) fun x9 =>
 bnd (ncheck a0) fun x10 =>
 bnd (fadd 5 x10) fun x11 =>
 bnd (ld1 x11) fun x12 =>
 bnd (agn (ld1 x11) x12 [h8, h6]) fun _ =>
 bnd (lkp .string (.int .i64 0) true x12 x9) fun x13 =>
 bnd (extr 0 x13) fun x14 =>
 bnd (extr 1 x13) fun x15 =>
 bnd (aun .not x15) fun x16 =>
 br x16
 (ret (.tuple [.int .i64 0, .bool false]))
 (bnd (ncheck a0) fun x17 =>
 bnd (fadd 0 x17) fun x18 =>
 bnd (fadd 2 x18) fun x19 =>
 bnd (ld1 x19) fun x20 =>
 bnd (ixa 1 x20 x14) fun x21 =>
 bnd (ld1 x21) fun x22 =>
 ret (.tuple [x22, .bool true]))
noncomputable def c_s_Pim_proof_entryFaults : CallTab := tab [(k_s_Pim_proof_entryFaults_1, ap5 s_Pim_proof_entryFaults_1), (k_s_slices_Equal_Sint64_int64, ap2 s_slices_Equal_Sint64_int64), (k_s_im_stateKey, ap1 s_im_stateKey), (k_s_Pim_proof_to, ap3 s_Pim_proof_to), (k_s_im_within, ap3 s_im_within), (k_s_im_IsGeneratorSet_1, ap2 s_im_IsGeneratorSet_1)]
noncomputable def s_Pim_proof_entryFaults (a0 a1 : AVal) : AM AVal :=
 bnd (boxA none t_int 1 a1) fun x1 =>
 bnd (allocC none t_Simpl_TableFault [.nilS]) fun x2 =>
 bnd (ret (.func (.func k_s_Pim_proof_entryFaults_1) [] [x2, x1])) fun x3 =>
 bnd (ncheck a0) fun x4 =>
 bnd (fadd 0 x4) fun x5 =>
 bnd (fadd 1 x5) fun x6 =>
 bnd (ld1 x6) fun x7 =>
 bnd (ld1 x1) fun x8 =>
 bnd (ixa 1 x7 x8) fun x9 =>
 bnd (ld1 x9) fun x10 =>
 bnd (ncheck a0) fun x11 =>
 bnd (fadd 0 x11) fun x12 =>
 bnd (fadd 2 x12) fun x13 =>
 bnd (ld1 x13) fun x14 =>
 bnd (ld1 x1) fun x15 =>
 bnd (ixa 1 x14 x15) fun x16 =>
 bnd (ld1 x16) fun x17 =>
 bnd (ld1 x1) fun x18 =>
 bnd (abin .eql x18 (.int .i64 0)) fun x19 =>
 bnd (gd x19 true (ret x17)) fun x20 =>
 bnd (gd x19 true (abin .neq x20 (.int .i64 0))) fun x21 =>
 bnd (gd x19 true (ret x21)) fun x22 =>
 bnd (gd x22 false (ret x10)) fun x23 =>
 bnd (gd x22 false (ret a0)) fun x24 =>
 bnd (gd x22 false (ncheck x24)) fun x25 =>
 bnd (gd x22 false (fadd 0 x25)) fun x26 =>
 bnd (gd x22 false (fadd 0 x26)) fun x27 =>
 bnd (gd x22 false (ld1 x27)) fun x28 =>
 bnd (gd x22 false (s_slices_Equal_Sint64_int64 x23 x28)) fun x29 =>
 bnd (gd x22 false (aun .not x29)) fun x30 =>
 bnd (gd x19 true (pick3 x22 (.bool true) x30)) fun x31 =>
 bnd (pick3 x19 x31 (.bool false)) fun x32 =>
 bnd (callV c_s_Pim_proof_entryFaults x3 [x32, .int .i64 1, .int .i64 0]) fun x33 =>
 bnd getH fun h34 =>
 bnd (s_im_stateKey x10) fun x35 =>
 bnd (ncheck a0) fun x36 =>
 bnd (fadd 5 x36) fun x37 =>
 bnd (ld1 x37) fun x38 =>
 bnd (agn (ld1 x37) x38 [h34]) fun _ =>
 bnd (lkp .string (.int .i64 0) false x38 x35) fun x39 =>
 bnd (ld1 x1) fun x40 =>
 bnd (agn (ld1 x1) x40 [h34]) fun _ =>
 bnd (abin .lss x39 x40) fun x41 =>
 bnd (callV c_s_Pim_proof_entryFaults x3 [x41, .int .i64 2, .int .i64 0]) fun x42 =>
 bnd (ld1 x1) fun x43 =>
 bnd (abin .gtr x43 (.int .i64 0)) fun x44 =>
 bnd (gd x44 true (ret x17)) fun x45 =>
 bnd (gd x44 true (abin .eql x45 (.int .i64 0))) fun x46 =>
 bnd (pick3 x44 x46 (.bool false)) fun x47 =>
 bnd (callV c_s_Pim_proof_entryFaults x3 [x47, .int .i64 3, .int .i64 0]) fun x48 =>
 bnd (ncheck a0) fun x49 =>
 bnd (fadd 3 x49) fun x50 =>
 bnd (ld1 x50) fun x51 =>
 bnd (lenA x51) fun x52 =>
 bnd (loopL (fun s53 =>
 bnd (abin .lss (gx s53 1) x52) fun x54 =>
 br x54
 (bnd (ixa 1 x51 (gx s53 1)) fun x55 =>
 bnd (ld1 x55) fun x56 =>
 bnd (s_Pim_proof_to a0 x10 (gx s53 1)) fun x57 =>
 bnd (extr 0 x57) fun x58 =>
 bnd (extr 1 x57) fun x59 =>
 bnd (aun .not x59) fun x60 =>
 bnd (callV c_s_Pim_proof_entryFaults x3 [x60, .int .i64 4, x56]) fun x61 =>
 bnd (gd x59 true (ret x58)) fun x62 =>
 bnd (gd x59 true (ret x17)) fun x63 =>
 bnd (gd x59 true (abin .sub x63 (.int .i64 1))) fun x64 =>
 bnd (gd x59 true (ret x17)) fun x65 =>
 bnd (gd x59 true (abin .add x65 (.int .i64 1))) fun x66 =>
 bnd (gd x59 true (s_im_within x62 x64 x66)) fun x67 =>
 bnd (gd x59 true (aun .not x67)) fun x68 =>
 bnd (pick3 x59 x68 (.bool false)) fun x69 =>
 bnd (callV c_s_Pim_proof_entryFaults x3 [x69, .int .i64 5, x56]) fun x70 =>
 bnd (gd (gx s53 0) false (ret x59)) fun x71 =>
 bnd (gd (gx s53 0) false (ret x71)) fun x72 =>
 bnd (gd x72 true (ret x58)) fun x73 =>
 bnd (gd x72 true (ret x17)) fun x74 =>
 bnd (gd x72 true (abin .sub x74 (.int .i64 1))) fun x75 =>
 bnd (gd x72 true (abin .eql x73 x75)) fun x76 =>
 bnd (gd (gx s53 0) false (pick3 x72 x76 (.bool false))) fun x77 =>
 bnd (pick3 (gx s53 0) (.bool true) x77) fun x78 =>
 bnd (abin .add (gx s53 1) (.int .i64 1)) fun x79 =>
 rx .normal [x78, x79])
 (rx (.exit 0) [gx s53 0])) [.bool false, .int .i64 0]) fun r80 =>
 ife r80.1 (.exit 0) (bnd (abin .gtr x17 (.int .i64 0)) fun x81 =>
 bnd (gd x81 true (ret (gx r80.2 0))) fun x82 =>
 bnd (gd x81 true (aun .not x82)) fun x83 =>
 bnd (pick3 x81 x83 (.bool false)) fun x84 =>
 bnd (callV c_s_Pim_proof_entryFaults x3 [x84, .int .i64 6, .int .i64 0]) fun x85 =>
 bnd (ld1 x2) fun x86 =>
 ret x86) (fail)
noncomputable def s_im_IsAdmissibleTable (a0 a1 : AVal) : AM AVal :=
 bnd (boxA none t_impl_Puzzle 3 a0) fun x1 =>
 bnd (boxA none t_impl_Table 3 a1) fun x2 =>
 bnd (ldn 3 x1) fun x3 =>
 bnd (ldn 3 x2) fun x4 =>
 bnd (s_im_newProof x3 x4) fun x5 =>
 bnd (extr 0 x5) fun x6 =>
 bnd (extr 1 x5) fun x7 =>
 bnd (aun .not x7) fun x8 =>
 br x8
 (ret (.bool false))
 (bnd (fadd 1 x2) fun x9 =>
 bnd (ld1 x9) fun x10 =>
 bnd (lenA x10) fun x11 =>
 bnd (loopL (fun s12 =>
 bnd (abin .lss (gx s12 0) x11) fun x13 =>
 br x13
 (bnd (s_Pim_proof_entryFaults x6 (gx s12 0)) fun x14 =>
 bnd (lenA x14) fun x15 =>
 bnd (loopL (fun s16 =>
 bnd (abin .lss (gx s16 0) x15) fun x17 =>
 br x17
 (bnd (ixa 3 x14 (gx s16 0)) fun x18 =>
 bnd (ldn 3 x18) fun x19 =>
 bnd (allocC none t_impl_TableFault [.int .i64 0, .int .i64 0, .int .i64 0]) fun x20 =>
 bnd (stn 3 x20 x19) fun _ =>
 bnd (fadd 0 x20) fun x21 =>
 bnd (ld1 x21) fun x22 =>
 bnd (abin .eql x22 (.int .i64 1)) fun x23 =>
 bnd (gd x23 false (fadd 0 x20)) fun x24 =>
 bnd (gd x23 false (ld1 x24)) fun x25 =>
 bnd (gd x23 false (abin .eql x25 (.int .i64 4))) fun x26 =>
 bnd (pick3 x23 (.bool true) x26) fun x27 =>
 bnd (gd x27 false (fadd 0 x20)) fun x28 =>
 bnd (gd x27 false (ld1 x28)) fun x29 =>
 bnd (gd x27 false (abin .eql x29 (.int .i64 5))) fun x30 =>
 bnd (pick3 x27 (.bool true) x30) fun x31 =>
 br x31
 (rx .ret [.bool false])
 (bnd (abin .add (gx s16 0) (.int .i64 1)) fun x32 =>
 rx .normal [x32]))
 (rx (.exit 2) [.undef])) [.int .i64 0]) fun r33 =>
 ife r33.1 (.exit 2) (bnd (abin .add (gx s12 0) (.int .i64 1)) fun x34 =>
 rx .normal [x34]) (ife r33.1 .ret (rx .ret [gx r33.2 0]) (fail)))
 (rx (.exit 0) [.undef])) [.int .i64 0]) fun r35 =>
 ife r35.1 (.exit 0) (ret (.bool true)) (ife r35.1 .ret (ret (gx r35.2 0)) (fail)))
noncomputable def s_sp_IsWellFormedTable (a0 : AVal) : AM AVal :=
 bnd (boxA none t_impl_Table 3 a0) fun x1 =>
 bnd (fadd 1 x1) fun x2 =>
 bnd (ld1 x2) fun x3 =>
 bnd (lenA x3) fun x4 =>
 bnd (fadd 0 x1) fun x5 =>
 bnd (ld1 x5) fun x6 =>
 bnd (s_sp_isPointList (.int .i64 20) x6) fun x7 =>
 bnd (aun .not x7) fun x8 =>
 bnd (gd x8 false (ret x4)) fun x9 =>
 bnd (gd x8 false (s_sp_inRange x9 (.int .i64 1) (.int .i64 3000))) fun x10 =>
 bnd (gd x8 false (aun .not x10)) fun x11 =>
 bnd (pick3 x8 (.bool true) x11) fun x12 =>
 bnd (gd x12 false (fadd 2 x1)) fun x13 =>
 bnd (gd x12 false (ld1 x13)) fun x14 =>
 bnd (gd x12 false (lenA x14)) fun x15 =>
 bnd (gd x12 false (ret x4)) fun x16 =>
 bnd (gd x12 false (abin .neq x15 x16)) fun x17 =>
 bnd (pick3 x12 (.bool true) x17) fun x18 =>
 br x18
 (ret (.bool false))
 (bnd (loopL (fun s19 =>
 bnd (abin .lss (gx s19 0) x4) fun x20 =>
 br x20
 (bnd (fadd 1 x1) fun x21 =>
 bnd (ld1 x21) fun x22 =>
 bnd (ixa 1 x22 (gx s19 0)) fun x23 =>
 bnd (ld1 x23) fun x24 =>
 bnd (fadd 0 x1) fun x25 =>
 bnd (ld1 x25) fun x26 =>
 bnd (lenA x26) fun x27 =>
 bnd (s_sp_isDistinctList (.int .i64 20) x24 x27) fun x28 =>
 bnd (aun .not x28) fun x29 =>
 bnd (gd x29 false (fadd 2 x1)) fun x30 =>
 bnd (gd x29 false (ld1 x30)) fun x31 =>
 bnd (gd x29 false (ret (gx s19 0))) fun x32 =>
 bnd (gd x29 false (ixa 1 x31 x32)) fun x33 =>
 bnd (gd x29 false (ld1 x33)) fun x34 =>
 bnd (gd x29 false (s_sp_inRange x34 (.int .i64 0) (.int .i64 3000))) fun x35 =>
 bnd (gd x29 false (aun .not x35)) fun x36 =>
 bnd (pick3 x29 (.bool true) x36) fun x37 =>
 br x37
 (rx .ret [.bool false])
 (bnd (abin .add (gx s19 0) (.int .i64 1)) fun x38 =>
 rx .normal [x38]))
 (rx (.exit 0) [.undef])) [.int .i64 0]) fun r39 =>
 ife r39.1 (.exit 0) (ret (.bool true)) (ife r39.1 .ret (ret (gx r39.2 0)) (fail)))
noncomputable def s_sp_l30Checkable (a0 a1 : AVal) : AM AVal :=
 bnd (boxA none t_impl_Puzzle 3 a0) fun x1 =>
 bnd (boxA none t_impl_Table 3 a1) fun x2 =>
 bnd (ldn 3 x1) fun x3 =>
 bnd (s_sp_IsValidPuzzle x3) fun x4 =>
 bnd (aun .not x4) fun x5 =>
 bnd (gd x5 false (ldn 3 x2)) fun x6 =>
 bnd (gd x5 false (s_sp_IsWellFormedTable x6)) fun x7 =>
 bnd (gd x5 false (aun .not x7)) fun x8 =>
 bnd (pick3 x5 (.bool true) x8) fun x9 =>
 bnd (gd x9 false (ldn 3 x1)) fun x10 =>
 bnd (gd x9 false (fadd 0 x2)) fun x11 =>
 bnd (gd x9 false (ld1 x11)) fun x12 =>
 bnd (gd x9 false (s_sp_IsTrackedSet x10 x12)) fun x13 =>
 bnd (gd x9 false (aun .not x13)) fun x14 =>
 bnd (pick3 x9 (.bool true) x14) fun x15 =>
 br x15
 (ret (.bool false))
 (bnd (loopL (fun s16 =>
 bnd (fadd 1 x2) fun x17 =>
 bnd (ld1 x17) fun x18 =>
 bnd (lenA x18) fun x19 =>
 bnd (abin .lss (gx s16 0) x19) fun x20 =>
 br x20
 (bnd (ldn 3 x1) fun x21 =>
 bnd (fadd 0 x2) fun x22 =>
 bnd (ld1 x22) fun x23 =>
 bnd (fadd 1 x2) fun x24 =>
 bnd (ld1 x24) fun x25 =>
 bnd (ixa 1 x25 (gx s16 0)) fun x26 =>
 bnd (ld1 x26) fun x27 =>
 bnd (s_sp_IsPattern x21 x23 x27) fun x28 =>
 bnd (aun .not x28) fun x29 =>
 br x29
 (rx .ret [.bool false])
 (bnd (abin .add (gx s16 0) (.int .i64 1)) fun x30 =>
 rx .normal [x30]))
 (rx (.exit 0) [.undef])) [.int .i64 0]) fun r31 =>
 ife r31.1 (.exit 0) (ret (.bool true)) (ife r31.1 .ret (ret (gx r31.2 0)) (fail)))
noncomputable def s_sp_l30Next (a0 a1 a2 a3 : AVal) : AM AVal :=
 bnd (boxA none t_impl_Puzzle 3 a0) fun x1 =>
 bnd (boxA none t_impl_Table 3 a1) fun x2 =>
 bnd (ldn 3 x1) fun x3 =>
 bnd (fadd 0 x2) fun x4 =>
 bnd (ld1 x4) fun x5 =>
 bnd (bnd (bnd (cell1 a3) fun y6 => ret [y6]) fun cs => allocS none t_int64 1 1 cs) fun x7 =>
 bnd (s_sp_PatternAfter x3 x5 a2 x7) fun x8 =>
 bnd (extr 0 x8) fun x9 =>
 bnd (extr 1 x8) fun x10 =>
 bnd (fadd 1 x2) fun x11 =>
 bnd (ld1 x11) fun x12 =>
 bnd (s_sp_indexOfList x12 x9) fun x13 =>
 ret x13
noncomputable def s_sp_l30Descent (a0 a1 a2 a3 : AVal) : AM AVal :=
 bnd (boxA none t_impl_Puzzle 3 a0) fun x1 =>
 bnd (boxA none t_impl_Table 3 a1) fun x2 =>
 bnd (ldn 3 x1) fun x3 =>
 bnd (s_sp_Letters x3) fun x4 =>
 bnd (loopL (fun s5 =>
 bnd (lenA x4) fun x6 =>
 bnd (abin .lss (gx s5 0) x6) fun x7 =>
 br x7
 (bnd (ldn 3 x1) fun x8 =>
 bnd (ldn 3 x2) fun x9 =>
 bnd (ixa 1 x4 (gx s5 0)) fun x10 =>
 bnd (ld1 x10) fun x11 =>
 bnd (s_sp_l30Next x8 x9 a2 x11) fun x12 =>
 bnd (abin .geq x12 (.int .i64 0)) fun x13 =>
 bnd (gd x13 true (fadd 2 x2)) fun x14 =>
 bnd (gd x13 true (ld1 x14)) fun x15 =>
 bnd (gd x13 true (ret x12)) fun x16 =>
 bnd (gd x13 true (ixa 1 x15 x16)) fun x17 =>
 bnd (gd x13 true (ld1 x17)) fun x18 =>
 bnd (gd x13 true (ret a3)) fun x19 =>
 bnd (gd x13 true (abin .eql x18 x19)) fun x20 =>
 bnd (pick3 x13 x20 (.bool false)) fun x21 =>
 br x21
 (bnd (ixa 1 x4 (gx s5 0)) fun x22 =>
 bnd (ld1 x22) fun x23 =>
 rx .ret [x23])
 (bnd (abin .add (gx s5 0) (.int .i64 1)) fun x24 =>
 rx .normal [x24]))
 (rx (.exit 0) [.undef])) [.int .i64 0]) fun r25 =>
 ife r25.1 (.exit 0) (ret (.int .i64 0)) (ife r25.1 .ret (ret (gx r25.2 0)) (fail))
noncomputable def s_sp_l30Entry (a0 a1 a2 : AVal) : AM AVal :=
 bnd (boxA none t_impl_Puzzle 3 a0) fun x1 =>
 bnd (boxA none t_impl_Table 3 a1) fun x2 =>
 bnd (bnd (ret []) fun cs => allocS none t_impl_TableFault 3 0 cs) fun x3 =>
 bnd (fadd 2 x2) fun x4 =>
 bnd (ld1 x4) fun x5 =>
 bnd (ixa 1 x5 a2) fun x6 =>
 bnd (ld1 x6) fun x7 =>
 bnd (abin .eql a2 (.int .i64 0)) fun x8 =>
 bnd (gd x8 true (ret x7)) fun x9 =>
 bnd (gd x8 true (abin .neq x9 (.int .i64 0))) fun x10 =>
 bnd (gd x8 true (ret x10)) fun x11 =>
 bnd (gd x11 false (fadd 1 x2)) fun x12 =>
 bnd (gd x11 false (ld1 x12)) fun x13 =>
 bnd (gd x11 false (ixa 1 x13 (.int .i64 0))) fun x14 =>
 bnd (gd x11 false (ld1 x14)) fun x15 =>
 bnd (gd x11 false (fadd 0 x2)) fun x16 =>
 bnd (gd x11 false (ld1 x16)) fun x17 =>
 bnd (gd x11 false (s_sp_equalInts x15 x17)) fun x18 =>
 bnd (gd x11 false (aun .not x18)) fun x19 =>
 bnd (gd x8 true (pick3 x11 (.bool true) x19)) fun x20 =>
 bnd (pick3 x8 x20 (.bool false)) fun x21 =>
 bnd (br x21 (bnd (bnd (bnd (cell1 (.int .i64 1)) fun y22 => bnd (cell1 a2) fun y23 => ret [y22, y23, .int .i64 0]) fun cs => ret (.agg cs)) fun x24 =>
 bnd (bnd (afillM (fun i => some (i * 3, 3)) [(0, x24)] [.int .i64 0, .int .i64 0, .int .i64 0]) fun cs => allocS none t_impl_TableFault 3 1 cs) fun x25 =>
 bnd (appS t_impl_TableFault 3 24 x3 x25) fun x26 =>
 rx .normal [x26]) (rx .normal [x3])) fun r27 =>
 ife r27.1 .normal (bnd (fadd 1 x2) fun x28 =>
 bnd (ld1 x28) fun x29 =>
 bnd (fadd 1 x2) fun x30 =>
 bnd (ld1 x30) fun x31 =>
 bnd (ixa 1 x31 a2) fun x32 =>
 bnd (ld1 x32) fun x33 =>
 bnd (s_sp_indexOfList x29 x33) fun x34 =>
 bnd (abin .lss x34 a2) fun x35 =>
 bnd (br x35 (bnd (bnd (bnd (cell1 (.int .i64 2)) fun y36 => bnd (cell1 a2) fun y37 => ret [y36, y37, .int .i64 0]) fun cs => ret (.agg cs)) fun x38 =>
 bnd (bnd (afillM (fun i => some (i * 3, 3)) [(0, x38)] [.int .i64 0, .int .i64 0, .int .i64 0]) fun cs => allocS none t_impl_TableFault 3 1 cs) fun x39 =>
 bnd (appS t_impl_TableFault 3 24 (gx r27.2 0) x39) fun x40 =>
 rx .normal [x40]) (rx .normal [gx r27.2 0])) fun r41 =>
 ife r41.1 .normal (bnd (abin .gtr a2 (.int .i64 0)) fun x42 =>
 bnd (gd x42 true (ret x7)) fun x43 =>
 bnd (gd x42 true (abin .eql x43 (.int .i64 0))) fun x44 =>
 bnd (pick3 x42 x44 (.bool false)) fun x45 =>
 bnd (br x45 (bnd (bnd (bnd (cell1 (.int .i64 3)) fun y46 => bnd (cell1 a2) fun y47 => ret [y46, y47, .int .i64 0]) fun cs => ret (.agg cs)) fun x48 =>
 bnd (bnd (afillM (fun i => some (i * 3, 3)) [(0, x48)] [.int .i64 0, .int .i64 0, .int .i64 0]) fun cs => allocS none t_impl_TableFault 3 1 cs) fun x49 =>
 bnd (appS t_impl_TableFault 3 24 (gx r41.2 0) x49) fun x50 =>
 rx .normal [x50]) (rx .normal [gx r41.2 0])) fun r51 =>
 ife r51.1 .normal (bnd (ldn 3 x1) fun x52 =>
 bnd (s_sp_Letters x52) fun x53 =>
 bnd (loopL (fun s54 =>
 bnd (lenA x53) fun x55 =>
 bnd (abin .lss (gx s54 1) x55) fun x56 =>
 br x56
 (bnd (ldn 3 x1) fun x57 =>
 bnd (ldn 3 x2) fun x58 =>
 bnd (fadd 1 x2) fun x59 =>
 bnd (ld1 x59) fun x60 =>
 bnd (ixa 1 x60 a2) fun x61 =>
 bnd (ld1 x61) fun x62 =>
 bnd (ixa 1 x53 (gx s54 1)) fun x63 =>
 bnd (ld1 x63) fun x64 =>
 bnd (s_sp_l30Next x57 x58 x62 x64) fun x65 =>
 bnd (abin .lss x65 (.int .i64 0)) fun x66 =>
 bnd (br x66 (bnd (ixa 1 x53 (gx s54 1)) fun x67 =>
 bnd (ld1 x67) fun x68 =>
 bnd (bnd (bnd (cell1 (.int .i64 4)) fun y69 => bnd (cell1 a2) fun y70 => bnd (cell1 x68) fun y71 => ret [y69, y70, y71]) fun cs => ret (.agg cs)) fun x72 =>
 bnd (bnd (afillM (fun i => some (i * 3, 3)) [(0, x72)] [.int .i64 0, .int .i64 0, .int .i64 0]) fun cs => allocS none t_impl_TableFault 3 1 cs) fun x73 =>
 bnd (appS t_impl_TableFault 3 24 (gx s54 0) x73) fun x74 =>
 rx .normal [x74]) (bnd (fadd 2 x2) fun x75 =>
 bnd (ld1 x75) fun x76 =>
 bnd (ixa 1 x76 x65) fun x77 =>
 bnd (ld1 x77) fun x78 =>
 bnd (abin .sub x78 x7) fun x79 =>
 bnd (s_sp_inRange x79 (.int .i64 (-1)) (.int .i64 1)) fun x80 =>
 bnd (aun .not x80) fun x81 =>
 bnd (br x81 (bnd (ixa 1 x53 (gx s54 1)) fun x82 =>
 bnd (ld1 x82) fun x83 =>
 bnd (bnd (bnd (cell1 (.int .i64 5)) fun y84 => bnd (cell1 a2) fun y85 => bnd (cell1 x83) fun y86 => ret [y84, y85, y86]) fun cs => ret (.agg cs)) fun x87 =>
 bnd (bnd (afillM (fun i => some (i * 3, 3)) [(0, x87)] [.int .i64 0, .int .i64 0, .int .i64 0]) fun cs => allocS none t_impl_TableFault 3 1 cs) fun x88 =>
 bnd (appS t_impl_TableFault 3 24 (gx s54 0) x88) fun x89 =>
 rx .normal [x89]) (rx .normal [gx s54 0])) fun r90 =>
 ife r90.1 .normal (rx .normal [gx r90.2 0]) (fail))) fun r91 =>
 ife r91.1 .normal (bnd (abin .add (gx s54 1) (.int .i64 1)) fun x92 =>
 rx .normal [gx r91.2 0, x92]) (fail))
 (rx (.exit 0) [gx s54 0])) [gx r51.2 0, .int .i64 0]) fun r93 =>
 ife r93.1 (.exit 0) (bnd (abin .gtr x7 (.int .i64 0)) fun x94 =>
 bnd (gd x94 true (ldn 3 x1)) fun x95 =>
 bnd (gd x94 true (ldn 3 x2)) fun x96 =>
 bnd (gd x94 true (fadd 1 x2)) fun x97 =>
 bnd (gd x94 true (ld1 x97)) fun x98 =>
 bnd (gd x94 true (ret a2)) fun x99 =>
 bnd (gd x94 true (ixa 1 x98 x99)) fun x100 =>
 bnd (gd x94 true (ld1 x100)) fun x101 =>
 bnd (gd x94 true (ret x7)) fun x102 =>
 bnd (gd x94 true (abin .sub x102 (.int .i64 1))) fun x103 =>
 bnd (gd x94 true (s_sp_l30Descent x95 x96 x101 x103)) fun x104 =>
 bnd (gd x94 true (abin .eql x104 (.int .i64 0))) fun x105 =>
 bnd (pick3 x94 x105 (.bool false)) fun x106 =>
 bnd (br x106 (bnd (bnd (bnd (cell1 (.int .i64 6)) fun y107 => bnd (cell1 a2) fun y108 => ret [y107, y108, .int .i64 0]) fun cs => ret (.agg cs)) fun x109 =>
 bnd (bnd (afillM (fun i => some (i * 3, 3)) [(0, x109)] [.int .i64 0, .int .i64 0, .int .i64 0]) fun cs => allocS none t_impl_TableFault 3 1 cs) fun x110 =>
 bnd (appS t_impl_TableFault 3 24 (gx r93.2 0) x110) fun x111 =>
 rx .normal [x111]) (rx .normal [gx r93.2 0])) fun r112 =>
 ife r112.1 .normal (ret (gx r112.2 0)) (fail)) (fail)) (fail)) (fail)) (fail)
noncomputable def s_sp_IsAdmissibleTable (a0 a1 : AVal) : AM AVal :=
 bnd (boxA none t_impl_Puzzle 3 a0) fun x1 =>
 bnd (boxA none t_impl_Table 3 a1) fun x2 =>
 bnd (ldn 3 x1) fun x3 =>
 bnd (ldn 3 x2) fun x4 =>
 bnd (s_sp_l30Checkable x3 x4) fun x5 =>
 bnd (aun .not x5) fun x6 =>
 br x6
 (ret (.bool false))
 (bnd (loopL (fun s7 =>
 bnd (fadd 1 x2) fun x8 =>
 bnd (ld1 x8) fun x9 =>
 bnd (lenA x9) fun x10 =>
 bnd (abin .lss (gx s7 0) x10) fun x11 =>
 br x11
 (bnd (ldn 3 x1) fun x12 =>
 bnd (ldn 3 x2) fun x13 =>
 bnd (s_sp_l30Entry x12 x13 (gx s7 0)) fun x14 =>
 bnd (loopL (fun s15 =>
 bnd (lenA x14) fun x16 =>
 bnd (abin .lss (gx s15 0) x16) fun x17 =>
 br x17
 (bnd (ixa 3 x14 (gx s15 0)) fun x18 =>
 bnd (fadd 0 x18) fun x19 =>
 bnd (ld1 x19) fun x20 =>
 bnd (abin .eql x20 (.int .i64 1)) fun x21 =>
 bnd (gd x21 false (ret x14)) fun x22 =>
 bnd (gd x21 false (ret (gx s15 0))) fun x23 =>
 bnd (gd x21 false (ixa 3 x22 x23)) fun x24 =>
 bnd (gd x21 false (fadd 0 x24)) fun x25 =>
 bnd (gd x21 false (ld1 x25)) fun x26 =>
 bnd (gd x21 false (abin .eql x26 (.int .i64 4))) fun x27 =>
 bnd (pick3 x21 (.bool true) x27) fun x28 =>
 bnd (gd x28 false (ret x14)) fun x29 =>
 bnd (gd x28 false (ret (gx s15 0))) fun x30 =>
 bnd (gd x28 false (ixa 3 x29 x30)) fun x31 =>
 bnd (gd x28 false (fadd 0 x31)) fun x32 =>
 bnd (gd x28 false (ld1 x32)) fun x33 =>
 bnd (gd x28 false (abin .eql x33 (.int .i64 5))) fun x34 =>
 bnd (pick3 x28 (.bool true) x34) fun x35 =>
 br x35
 (rx .ret [.bool false])
 (bnd (abin .add (gx s15 0) (.int .i64 1)) fun x36 =>
 rx .normal [x36]))
 (rx (.exit 2) [.undef])) [.int .i64 0]) fun r37 =>
 ife r37.1 (.exit 2) (bnd (abin .add (gx s7 0) (.int .i64 1)) fun x38 =>
 rx .normal [x38]) (ife r37.1 .ret (rx .ret [gx r37.2 0]) (fail)))
 (rx (.exit 0) [.undef])) [.int .i64 0]) fun r39 =>
 ife r39.1 (.exit 0) (ret (.bool true)) (ife r39.1 .ret (ret (gx r39.2 0)) (fail)))
noncomputable def s_lw_roll (a0 a1 : AVal) : AM AVal :=
 bnd (abin .mul a1 (.int .u64 7919)) fun x1 =>
 bnd (lenA a0) fun x2 =>
 bnd (cvInt .u64 x2) fun x3 =>
 bnd (abin .add x1 x3) fun x4 =>
 bnd (bnd (bnd (cell1 a0) fun y5 => bnd (cell1 x4) fun y6 => ret [y5, .int .i64 0, y6]) fun cs => ret (.agg cs)) fun x7 =>
 bnd (boxA none t_laws_dice 3 x7) fun x8 =>
 bnd (loopL (fun s9 =>
 bnd (lenA a0) fun x10 =>
 bnd (abin .lss (gx s9 0) x10) fun x11 =>
 br x11
 (bnd (ncheck x8) fun x12 =>
 bnd (fadd 2 x12) fun x13 =>
 bnd (ld1 x13) fun x14 =>
 bnd (abin .mul x14 (.int .u64 1099511628211)) fun x15 =>
 bnd (ixa 1 a0 (gx s9 0)) fun x16 =>
 bnd (ld1 x16) fun x17 =>
 bnd (cvInt .u64 x17) fun x18 =>
 bnd (abin .add x15 x18) fun x19 =>
 bnd (abin .add x19 (.int .u64 3)) fun x20 =>
 bnd (ncheck x8) fun x21 =>
 bnd (fadd 2 x21) fun x22 =>
 bnd (st1 x22 x20) fun _ =>
 bnd (abin .add (gx s9 0) (.int .i64 1)) fun x23 =>
 rx .normal [x23])
 (rx (.exit 0) [])) [.int .i64 0]) fun r24 =>
 ife r24.1 (.exit 0) (ret x8) (fail)
noncomputable def s_Plw_dice_below (a0 a1 : AVal) : AM AVal :=
 bnd (ncheck a0) fun x1 =>
 bnd (fadd 2 x1) fun x2 =>
 bnd (ld1 x2) fun x3 =>
 bnd (abin .mul x3 (.int .u64 6364136223846793005)) fun x4 =>
 bnd (abin .add x4 (.int .u64 1442695040888963407)) fun x5 =>
 bnd (ncheck a0) fun x6 =>
 bnd (fadd 2 x6) fun x7 =>
 bnd (st1 x7 x5) fun _ =>
 bnd (ncheck a0) fun x8 =>
 bnd (fadd 2 x8) fun x9 =>
 bnd (ld1 x9) fun x10 =>
 bnd (abin .shr x10 (.int .u64 33)) fun x11 =>
 bnd (abin .and x11 (.int .u64 16777215)) fun x12 =>
 bnd (cvInt .i64 x12) fun x13 =>
 bnd (ncheck a0) fun x14 =>
 bnd (fadd 1 x14) fun x15 =>
 bnd (ld1 x15) fun x16 =>
 bnd (ncheck a0) fun x17 =>
 bnd (fadd 0 x17) fun x18 =>
 bnd (ld1 x18) fun x19 =>
 bnd (lenA x19) fun x20 =>
 bnd (abin .lss x16 x20) fun x21 =>
 bnd (br x21 (bnd (ncheck a0) fun x22 =>
 bnd (fadd 0 x22) fun x23 =>
 bnd (ld1 x23) fun x24 =>
 bnd (ncheck a0) fun x25 =>
 bnd (fadd 1 x25) fun x26 =>
 bnd (ld1 x26) fun x27 =>
 bnd (ixa 1 x24 x27) fun x28 =>
 bnd (ld1 x28) fun x29 =>
 bnd (cvInt .i64 x29) fun x30 =>
 bnd (abin .add x13 x30) fun x31 =>
 bnd (ncheck a0) fun x32 =>
 bnd (fadd 1 x32) fun x33 =>
 bnd (ld1 x33) fun x34 =>
 bnd (abin .add x34 (.int .i64 1)) fun x35 =>
 bnd (ncheck a0) fun x36 =>
 bnd (fadd 1 x36) fun x37 =>
 bnd (st1 x37 x35) fun _ =>
 rx .normal [x31]) (rx .normal [x13])) fun r38 =>
 ife r38.1 .normal (bnd (abin .rem (gx r38.2 0) a1) fun x39 =>
 ret x39) (fail)
noncomputable def s_sp_l24IsSeed (a0 : AVal) : AM AVal :=
 bnd (s_sp_inRange a0 (.int .i64 0) (.int .i64 2147483646)) fun x1 =>
 ret x1
noncomputable def s_sp_NextRandom (a0 : AVal) : AM AVal :=
 bnd (abin .rem a0 (.int .i64 2147483647)) fun x1 =>
 bnd (abin .lss x1 (.int .i64 0)) fun x2 =>
 bnd (br x2 (bnd (abin .add x1 (.int .i64 2147483647)) fun x3 =>
 rx .normal [x3]) (rx .normal [x1])) fun r4 =>
 ife r4.1 .normal (bnd (abin .mul (.int .i64 48271) (gx r4.2 0)) fun x5 =>
 bnd (abin .add x5 (.int .i64 11)) fun x6 =>
 bnd (abin .rem x6 (.int .i64 2147483647)) fun x7 =>
 ret x7) (fail)
noncomputable def s_sp_identity (a0 : AVal) : AM AVal :=
 bnd (bnd (ret []) fun cs => allocS none t_int64 1 0 cs) fun x1 =>
 bnd (loopL (fun s2 =>
 bnd (abin .lss (gx s2 1) a0) fun x3 =>
 br x3
 (bnd (bnd (bnd (cell1 (gx s2 1)) fun y4 => ret [y4]) fun cs => allocS none t_int64 1 1 cs) fun x5 =>
 bnd (appS t_int64 1 8 (gx s2 0) x5) fun x6 =>
 bnd (abin .add (gx s2 1) (.int .i64 1)) fun x7 =>
 rx .normal [x6, x7])
 (rx (.exit 0) [gx s2 0])) [x1, .int .i64 0]) fun r8 =>
 ife r8.1 (.exit 0) (ret (gx r8.2 0)) (fail)
noncomputable def s_sp_emptyChain (a0 : AVal) : AM AVal :=
 bnd (bnd (bnd (cell1 a0) fun y1 => ret [y1, .nilS, .nilS]) fun cs => ret (.agg cs)) fun x2 =>
 bnd (boxA none t_spec_chain 3 x2) fun x3 =>
 bnd (loopL (fun s4 =>
 bnd (abin .lss (gx s4 0) a0) fun x5 =>
 br x5
 (bnd (mkS none t_Sint64 1 24 [.nilS] a0 a0) fun x6 =>
 bnd (s_sp_identity a0) fun x7 =>
 bnd (ixa 1 x6 (gx s4 0)) fun x8 =>
 bnd (st1 x8 x7) fun _ =>
 bnd (ncheck x3) fun x9 =>
 bnd (fadd 1 x9) fun x10 =>
 bnd (ld1 x10) fun x11 =>
 bnd (bnd (bnd (cell1 x6) fun y12 => ret [y12]) fun cs => allocS none t_SSint64 1 1 cs) fun x13 =>
 bnd (appS t_SSint64 1 24 x11 x13) fun x14 =>
 bnd (ncheck x3) fun x15 =>
 bnd (fadd 1 x15) fun x16 =>
 bnd (st1 x16 x14) fun _ =>
 bnd (ncheck x3) fun x17 =>
 bnd (fadd 2 x17) fun x18 =>
 bnd (ld1 x18) fun x19 =>
 bnd (bnd (ret []) fun cs => allocS none t_Sint64 1 0 cs) fun x20 =>
 bnd (bnd (bnd (cell1 x20) fun y21 => ret [y21]) fun cs => allocS none t_SSint64 1 1 cs) fun x22 =>
 bnd (appS t_SSint64 1 24 x19 x22) fun x23 =>
 bnd (ncheck x3) fun x24 =>
 bnd (fadd 2 x24) fun x25 =>
 bnd (st1 x25 x23) fun _ =>
 bnd (abin .add (gx s4 0) (.int .i64 1)) fun x26 =>
 rx .normal [x26])
 (rx (.exit 0) [])) [.int .i64 0]) fun r27 =>
 ife r27.1 (.exit 0) (ret x3) (fail)
noncomputable def s_sp_compose (a0 a1 : AVal) : AM AVal :=
 bnd (bnd (ret []) fun cs => allocS none t_int64 1 0 cs) fun x1 =>
 bnd (loopL (fun s2 =>
 bnd (lenA a0) fun x3 =>
 bnd (abin .lss (gx s2 1) x3) fun x4 =>
 br x4
 (bnd (ixa 1 a0 (gx s2 1)) fun x5 =>
 bnd (ld1 x5) fun x6 =>
 bnd (ixa 1 a1 x6) fun x7 =>
 bnd (ld1 x7) fun x8 =>
 bnd (bnd (bnd (cell1 x8) fun y9 => ret [y9]) fun cs => allocS none t_int64 1 1 cs) fun x10 =>
 bnd (appS t_int64 1 8 (gx s2 0) x10) fun x11 =>
 bnd (abin .add (gx s2 1) (.int .i64 1)) fun x12 =>
 rx .normal [x11, x12])
 (rx (.exit 0) [gx s2 0])) [x1, .int .i64 0]) fun r13 =>
 ife r13.1 (.exit 0) (ret (gx r13.2 0)) (fail)
noncomputable def s_sp_sift (a0 a1 a2 : AVal) : AM AVal :=
 bnd (loopL (fun s1 =>
 bnd (ncheck a0) fun x2 =>
 bnd (fadd 0 x2) fun x3 =>
 bnd (ld1 x3) fun x4 =>
 bnd (abin .lss (gx s1 1) x4) fun x5 =>
 br x5
 (bnd (ncheck a0) fun x6 =>
 bnd (fadd 1 x6) fun x7 =>
 bnd (ld1 x7) fun x8 =>
 bnd (ixa 1 x8 (gx s1 1)) fun x9 =>
 bnd (ld1 x9) fun x10 =>
 bnd (ixa 1 (gx s1 0) (gx s1 1)) fun x11 =>
 bnd (ld1 x11) fun x12 =>
 bnd (ixa 1 x10 x12) fun x13 =>
 bnd (ld1 x13) fun x14 =>
 bnd (lenA x14) fun x15 =>
 bnd (abin .eql x15 (.int .i64 0)) fun x16 =>
 br x16
 (rx .ret [gx s1 0, gx s1 0, gx s1 1])
 (bnd (s_sp_inverse x14) fun x17 =>
 bnd (s_sp_compose (gx s1 0) x17) fun x18 =>
 bnd (abin .add (gx s1 1) (.int .i64 1)) fun x19 =>
 rx .normal [x18, x19]))
 (rx (.exit 0) [gx s1 0, .undef, .undef])) [a2, a1]) fun r20 =>
 ife r20.1 (.exit 0) (bnd (ncheck a0) fun x21 =>
 bnd (fadd 0 x21) fun x22 =>
 bnd (ld1 x22) fun x23 =>
 ret (.tuple [gx r20.2 0, x23])) (ife r20.1 .ret (ret (.tuple [gx r20.2 1, gx r20.2 2])) (fail))
noncomputable def b_sp_addProduct (r_sp_addProduct : AVal → AVal → AVal → AM AVal) (r_sp_addGenerator : AVal → AVal → AVal → AM AVal) (a0 a1 a2 : AVal) : AM AVal :=
 bnd (ncheck a0) fun x1 =>
 bnd (fadd 1 x1) fun x2 =>
 bnd (ld1 x2) fun x3 =>
 bnd (ixa 1 x3 a1) fun x4 =>
 bnd (ld1 x4) fun x5 =>
 bnd (ixa 1 a2 a1) fun x6 =>
 bnd (ld1 x6) fun x7 =>
 bnd (ixa 1 x5 x7) fun x8 =>
 bnd (ld1 x8) fun x9 =>
 bnd (lenA x9) fun x10 =>
 bnd (abin .gtr x10 (.int .i64 0)) fun x11 =>
 br x11
 (bnd (abin .add a1 (.int .i64 1)) fun x12 =>
 bnd (s_sp_inverse x9) fun x13 =>
 bnd (s_sp_compose a2 x13) fun x14 =>
 bnd (r_sp_addGenerator a0 x12 x14) fun x15 =>
 ret (.tuple []))
 (bnd (ncheck a0) fun x16 =>
 bnd (fadd 1 x16) fun x17 =>
 bnd (ld1 x17) fun x18 =>
 bnd (ixa 1 x18 a1) fun x19 =>
 bnd (ld1 x19) fun x20 =>
 bnd (ixa 1 a2 a1) fun x21 =>
 bnd (ld1 x21) fun x22 =>
 bnd (ixa 1 x20 x22) fun x23 =>
 bnd (st1 x23 a2) fun _ =>
 bnd (loopL (fun s24 =>
 bnd (ncheck a0) fun x25 =>
 bnd (fadd 2 x25) fun x26 =>
 bnd (ld1 x26) fun x27 =>
 bnd (ixa 1 x27 a1) fun x28 =>
 bnd (ld1 x28) fun x29 =>
 bnd (lenA x29) fun x30 =>
 bnd (abin .lss (gx s24 0) x30) fun x31 =>
 br x31
 (bnd (ncheck a0) fun x32 =>
 bnd (fadd 2 x32) fun x33 =>
 bnd (ld1 x33) fun x34 =>
 bnd (ixa 1 x34 a1) fun x35 =>
 bnd (ld1 x35) fun x36 =>
 bnd (ixa 1 x36 (gx s24 0)) fun x37 =>
 bnd (ld1 x37) fun x38 =>
 bnd (s_sp_compose a2 x38) fun x39 =>
 bnd (r_sp_addProduct a0 a1 x39) fun x40 =>
 bnd (abin .add (gx s24 0) (.int .i64 1)) fun x41 =>
 rx .normal [x41])
 (rx (.exit 0) [])) [.int .i64 0]) fun r42 =>
 ife r42.1 (.exit 0) (ret (.tuple [])) (fail))
noncomputable def b_sp_addGenerator (r_sp_addProduct : AVal → AVal → AVal → AM AVal) (r_sp_addGenerator : AVal → AVal → AVal → AM AVal) (a0 a1 a2 : AVal) : AM AVal :=
 bnd (ncheck a0) fun x1 =>
 bnd (fadd 0 x1) fun x2 =>
 bnd (ld1 x2) fun x3 =>
 bnd (abin .geq a1 x3) fun x4 =>
 br x4
 (ret (.tuple []))
 (bnd (s_sp_sift a0 a1 a2) fun x5 =>
 bnd (extr 0 x5) fun x6 =>
 bnd (extr 1 x5) fun x7 =>
 bnd (ncheck a0) fun x8 =>
 bnd (fadd 0 x8) fun x9 =>
 bnd (ld1 x9) fun x10 =>
 bnd (abin .eql x7 x10) fun x11 =>
 br x11
 (ret (.tuple []))
 (bnd (reserve 17) fun b12 =>
 bnd (ncheck a0) fun x13 =>
 bnd (fadd 2 x13) fun x14 =>
 bnd (ld1 x14) fun x15 =>
 bnd (ixa 1 x15 a1) fun x16 =>
 bnd (ld1 x16) fun x17 =>
 bnd getH fun h18 =>
 bnd (bnd (bnd (cell1 a2) fun y20 => ret [y20]) fun cs => allocS (some (b12 + 13)) t_Sint64 1 1 cs) fun x19 =>
 bnd getH fun h21 =>
 bnd (appS t_Sint64 1 24 x17 x19) fun x22 =>
 bnd (ncheck a0) fun x23 =>
 bnd (fadd 2 x23) fun x24 =>
 bnd (ld1 x24) fun x25 =>
 bnd (agn (ld1 x24) x25 [h21, h18]) fun _ =>
 bnd (ixa 1 x25 a1) fun x26 =>
 bnd (st1 x26 x22) fun _ =>
 bnd (bnd (ret []) fun cs => allocS none t_Sint64 1 0 cs) fun x27 =>
 bnd (loopL (fun s28 =>
 bnd (ncheck a0) fun x29 =>
 bnd (fadd 0 x29) fun x30 =>
 bnd (ld1 x30) fun x31 =>
 bnd (abin .lss (gx s28 1) x31) fun x32 =>
 br x32
 (bnd (ncheck a0) fun x33 =>
 bnd (fadd 1 x33) fun x34 =>
 bnd (ld1 x34) fun x35 =>
 bnd (ixa 1 x35 a1) fun x36 =>
 bnd (ld1 x36) fun x37 =>
 bnd (ixa 1 x37 (gx s28 1)) fun x38 =>
 bnd (ld1 x38) fun x39 =>
 bnd (lenA x39) fun x40 =>
 bnd (abin .gtr x40 (.int .i64 0)) fun x41 =>
 bnd (br x41 (bnd (ncheck a0) fun x42 =>
 bnd (fadd 1 x42) fun x43 =>
 bnd (ld1 x43) fun x44 =>
 bnd (ixa 1 x44 a1) fun x45 =>
 bnd (ld1 x45) fun x46 =>
 bnd (ixa 1 x46 (gx s28 1)) fun x47 =>
 bnd (ld1 x47) fun x48 =>
 bnd (bnd (bnd (cell1 x48) fun y49 => ret [y49]) fun cs => allocS none t_Sint64 1 1 cs) fun x50 =>
 bnd (appS t_Sint64 1 24 (gx s28 0) x50) fun x51 =>
 rx .normal [x51]) (rx .normal [gx s28 0])) fun r52 =>
 ife r52.1 .normal (bnd (abin .add (gx s28 1) (.int .i64 1)) fun x53 =>
 rx .normal [gx r52.2 0, x53]) (fail))
 (rx (.exit 0) [gx s28 0])) [x27, .int .i64 0]) fun r54 =>
 ife r54.1 (.exit 0) (bnd (loopL (fun s55 =>
 bnd (lenA (gx r54.2 0)) fun x56 =>
 bnd (abin .lss (gx s55 0) x56) fun x57 =>
 br x57
 (bnd (ixa 1 (gx r54.2 0) (gx s55 0)) fun x58 =>
 bnd (ld1 x58) fun x59 =>
 bnd (s_sp_compose x59 a2) fun x60 =>
 bnd (r_sp_addProduct a0 a1 x60) fun x61 =>
 bnd (abin .add (gx s55 0) (.int .i64 1)) fun x62 =>
 rx .normal [x62])
 (rx (.exit 2) [])) [.int .i64 0]) fun r63 =>
 ife r63.1 (.exit 2) (ret (.tuple [])) (fail)) (fail)))
noncomputable def rc_sp_addProduct : Nat → (AVal → AVal → AVal → AM AVal) × (AVal → AVal → AVal → AM AVal)
  | 0 => (fun _ _ _ => fail, fun _ _ _ => fail)
  | d + 1 => (b_sp_addProduct (rc_sp_addProduct d).1 (rc_sp_addProduct d).2, b_sp_addGenerator (rc_sp_addProduct d).1 (rc_sp_addProduct d).2)
noncomputable def s_sp_addProduct (d : Nat) : AVal → AVal → AVal → AM AVal := (rc_sp_addProduct d).1
noncomputable def s_sp_addGenerator (d : Nat) : AVal → AVal → AVal → AM AVal := (rc_sp_addProduct d).2
noncomputable def s_sp_buildChain (a0 a1 : AVal) : AM AVal :=
 bnd (s_sp_emptyChain a0) fun x1 =>
 bnd (loopL (fun s2 =>
 bnd (lenA a1) fun x3 =>
 bnd (abin .lss (gx s2 0) x3) fun x4 =>
 br x4
 (bnd (ixa 1 a1 (gx s2 0)) fun x5 =>
 bnd (ld1 x5) fun x6 =>
 bnd (s_sp_copyInts x6) fun x7 =>
 bnd ((s_sp_addGenerator deep) x1 (.int .i64 0) x7) fun x8 =>
 bnd (abin .add (gx s2 0) (.int .i64 1)) fun x9 =>
 rx .normal [x9])
 (rx (.exit 0) [])) [.int .i64 0]) fun r10 =>
 ife r10.1 (.exit 0) (ret x1) (fail)
noncomputable def s_sp_boolToInt (a0 : AVal) : AM AVal :=
 br a0
 (ret (.int .i64 1))
 (ret (.int .i64 0))
noncomputable def s_sp_orbitSizes (a0 : AVal) : AM AVal :=
 bnd (bnd (ret []) fun cs => allocS none t_int64 1 0 cs) fun x1 =>
 bnd (loopL (fun s2 =>
 bnd (ncheck a0) fun x3 =>
 bnd (fadd 0 x3) fun x4 =>
 bnd (ld1 x4) fun x5 =>
 bnd (abin .lss (gx s2 1) x5) fun x6 =>
 br x6
 (bnd (loopL (fun s7 =>
 bnd (ncheck a0) fun x8 =>
 bnd (fadd 0 x8) fun x9 =>
 bnd (ld1 x9) fun x10 =>
 bnd (abin .lss (gx s7 1) x10) fun x11 =>
 br x11
 (bnd (ncheck a0) fun x12 =>
 bnd (fadd 1 x12) fun x13 =>
 bnd (ld1 x13) fun x14 =>
 bnd (ixa 1 x14 (gx s2 1)) fun x15 =>
 bnd (ld1 x15) fun x16 =>
 bnd (ixa 1 x16 (gx s7 1)) fun x17 =>
 bnd (ld1 x17) fun x18 =>
 bnd (lenA x18) fun x19 =>
 bnd (abin .gtr x19 (.int .i64 0)) fun x20 =>
 bnd (s_sp_boolToInt x20) fun x21 =>
 bnd (abin .add (gx s7 0) x21) fun x22 =>
 bnd (abin .add (gx s7 1) (.int .i64 1)) fun x23 =>
 rx .normal [x22, x23])
 (rx (.exit 2) [gx s7 0])) [.int .i64 0, .int .i64 0]) fun r24 =>
 ife r24.1 (.exit 2) (bnd (bnd (bnd (cell1 (gx r24.2 0)) fun y25 => ret [y25]) fun cs => allocS none t_int64 1 1 cs) fun x26 =>
 bnd (appS t_int64 1 8 (gx s2 0) x26) fun x27 =>
 bnd (abin .add (gx s2 1) (.int .i64 1)) fun x28 =>
 rx .normal [x27, x28]) (fail))
 (rx (.exit 0) [gx s2 0])) [x1, .int .i64 0]) fun r29 =>
 ife r29.1 (.exit 0) (ret (gx r29.2 0)) (fail)
noncomputable def s_sp_chainOrder (a0 : AVal) : AM AVal :=
 bnd (s_sp_orbitSizes a0) fun x1 =>
 bnd (loopL (fun s2 =>
 bnd (lenA x1) fun x3 =>
 bnd (abin .lss (gx s2 1) x3) fun x4 =>
 br x4
 (bnd (ixa 1 x1 (gx s2 1)) fun x5 =>
 bnd (ld1 x5) fun x6 =>
 bnd (abin .mul (gx s2 0) x6) fun x7 =>
 bnd (abin .add (gx s2 1) (.int .i64 1)) fun x8 =>
 rx .normal [x7, x8])
 (rx (.exit 0) [gx s2 0])) [.int .i64 1, .int .i64 0]) fun r9 =>
 ife r9.1 (.exit 0) (ret (gx r9.2 0)) (fail)
noncomputable def s_sp_GroupOrder (a0 a1 : AVal) : AM AVal :=
 bnd (s_sp_IsGeneratorSet a0 a1) fun x1 =>
 bnd (aun .not x1) fun x2 =>
 br x2
 (ret (.int .i64 0))
 (bnd (s_sp_buildChain a0 a1) fun x3 =>
 bnd (s_sp_chainOrder x3) fun x4 =>
 ret x4)
noncomputable def s_sp_StateCount (a0 : AVal) : AM AVal :=
 bnd (boxA none t_impl_Puzzle 3 a0) fun x1 =>
 bnd (ldn 3 x1) fun x2 =>
 bnd (s_sp_IsValidPuzzle x2) fun x3 =>
 bnd (aun .not x3) fun x4 =>
 br x4
 (ret (.int .i64 0))
 (bnd (fadd 0 x1) fun x5 =>
 bnd (ld1 x5) fun x6 =>
 bnd (fadd 2 x1) fun x7 =>
 bnd (ld1 x7) fun x8 =>
 bnd (s_sp_GroupOrder x6 x8) fun x9 =>
 ret x9)
noncomputable def s_sp_membersPerChoice (a0 : AVal) : AM AVal :=
 bnd (s_sp_orbitSizes a0) fun x1 =>
 bnd (lenA x1) fun x2 =>
 bnd (mkS none t_int64 1 8 [.int .i64 0] x2 x2) fun x3 =>
 bnd (lenA x1) fun x4 =>
 bnd (abin .sub x4 (.int .i64 1)) fun x5 =>
 bnd (loopL (fun s6 =>
 bnd (abin .geq (gx s6 1) (.int .i64 0)) fun x7 =>
 br x7
 (bnd (ixa 1 x3 (gx s6 1)) fun x8 =>
 bnd (st1 x8 (gx s6 0)) fun _ =>
 bnd (ixa 1 x1 (gx s6 1)) fun x9 =>
 bnd (ld1 x9) fun x10 =>
 bnd (abin .mul (gx s6 0) x10) fun x11 =>
 bnd (abin .sub (gx s6 1) (.int .i64 1)) fun x12 =>
 rx .normal [x11, x12])
 (rx (.exit 0) [])) [.int .i64 1, x5]) fun r13 =>
 ife r13.1 (.exit 0) (ret x3) (fail)
noncomputable def s_sp_insertSorted (a0 a1 : AVal) : AM AVal :=
 bnd (loopL (fun s1 =>
 bnd (lenA a0) fun x2 =>
 bnd (abin .lss (gx s1 0) x2) fun x3 =>
 bnd (gd x3 true (ret a0)) fun x4 =>
 bnd (gd x3 true (ret (gx s1 0))) fun x5 =>
 bnd (gd x3 true (ixa 1 x4 x5)) fun x6 =>
 bnd (gd x3 true (ld1 x6)) fun x7 =>
 bnd (gd x3 true (ret a1)) fun x8 =>
 bnd (gd x3 true (abin .lss x7 x8)) fun x9 =>
 bnd (pick3 x3 x9 (.bool false)) fun x10 =>
 br x10
 (bnd (abin .add (gx s1 0) (.int .i64 1)) fun x11 =>
 rx .normal [x11])
 (rx (.exit 0) [gx s1 0])) [.int .i64 0]) fun r12 =>
 ife r12.1 (.exit 0) (bnd (lenA a0) fun x13 =>
 bnd (abin .lss (gx r12.2 0) x13) fun x14 =>
 bnd (gd x14 true (ret a0)) fun x15 =>
 bnd (gd x14 true (ret (gx r12.2 0))) fun x16 =>
 bnd (gd x14 true (ixa 1 x15 x16)) fun x17 =>
 bnd (gd x14 true (ld1 x17)) fun x18 =>
 bnd (gd x14 true (ret a1)) fun x19 =>
 bnd (gd x14 true (abin .eql x18 x19)) fun x20 =>
 bnd (pick3 x14 x20 (.bool false)) fun x21 =>
 br x21
 (ret a0)
 (bnd (slS 1 a0 none (some (gx r12.2 0))) fun x22 =>
 bnd (s_sp_copyInts x22) fun x23 =>
 bnd (bnd (bnd (cell1 a1) fun y24 => ret [y24]) fun cs => allocS none t_int64 1 1 cs) fun x25 =>
 bnd (appS t_int64 1 8 x23 x25) fun x26 =>
 bnd (slS 1 a0 (some (gx r12.2 0)) none) fun x27 =>
 bnd (appS t_int64 1 8 x26 x27) fun x28 =>
 ret x28)) (fail)
noncomputable def s_sp_choicesAt (a0 a1 a2 : AVal) : AM AVal :=
 bnd (bnd (ret []) fun cs => allocS none t_int64 1 0 cs) fun x1 =>
 bnd (loopL (fun s2 =>
 bnd (ncheck a0) fun x3 =>
 bnd (fadd 0 x3) fun x4 =>
 bnd (ld1 x4) fun x5 =>
 bnd (abin .lss (gx s2 1) x5) fun x6 =>
 br x6
 (bnd (ncheck a0) fun x7 =>
 bnd (fadd 1 x7) fun x8 =>
 bnd (ld1 x8) fun x9 =>
 bnd (ixa 1 x9 a1) fun x10 =>
 bnd (ld1 x10) fun x11 =>
 bnd (ixa 1 x11 (gx s2 1)) fun x12 =>
 bnd (ld1 x12) fun x13 =>
 bnd (lenA x13) fun x14 =>
 bnd (abin .gtr x14 (.int .i64 0)) fun x15 =>
 bnd (br x15 (bnd (ixa 1 a2 (gx s2 1)) fun x16 =>
 bnd (ld1 x16) fun x17 =>
 bnd (s_sp_insertSorted (gx s2 0) x17) fun x18 =>
 rx .normal [x18]) (rx .normal [gx s2 0])) fun r19 =>
 ife r19.1 .normal (bnd (abin .add (gx s2 1) (.int .i64 1)) fun x20 =>
 rx .normal [gx r19.2 0, x20]) (fail))
 (rx (.exit 0) [gx s2 0])) [x1, .int .i64 0]) fun r21 =>
 ife r21.1 (.exit 0) (ret (gx r21.2 0)) (fail)
noncomputable def s_sp_withEntry (a0 a1 a2 a3 : AVal) : AM AVal :=
 bnd getH fun h1 =>
 bnd (s_sp_inverse a2) fun x2 =>
 bnd (ncheck a0) fun x3 =>
 bnd (fadd 1 x3) fun x4 =>
 bnd (ld1 x4) fun x5 =>
 bnd (agn (ld1 x4) x5 [h1]) fun _ =>
 bnd (ixa 1 x5 a1) fun x6 =>
 bnd (ld1 x6) fun x7 =>
 bnd (agn (ld1 x6) x7 [h1]) fun _ =>
 bnd (ixa 1 x2 a3) fun x8 =>
 bnd (ld1 x8) fun x9 =>
 bnd (ixa 1 x7 x9) fun x10 =>
 bnd (ld1 x10) fun x11 =>
 bnd (s_sp_compose x11 a2) fun x12 =>
 ret x12
noncomputable def s_sp_MemberAt (a0 a1 a2 : AVal) : AM AVal :=
 bnd (s_sp_IsGeneratorSet a0 a1) fun x1 =>
 bnd (aun .not x1) fun x2 =>
 br x2
 (bnd (bnd (ret []) fun cs => allocS none t_int64 1 0 cs) fun x3 =>
 ret (.tuple [x3, .bool false]))
 (bnd (s_sp_buildChain a0 a1) fun x4 =>
 bnd (s_sp_chainOrder x4) fun x5 =>
 bnd (abin .sub x5 (.int .i64 1)) fun x6 =>
 bnd (s_sp_inRange a2 (.int .i64 0) x6) fun x7 =>
 bnd (aun .not x7) fun x8 =>
 br x8
 (bnd (bnd (ret []) fun cs => allocS none t_int64 1 0 cs) fun x9 =>
 ret (.tuple [x9, .bool false]))
 (bnd (s_sp_membersPerChoice x4) fun x10 =>
 bnd (s_sp_identity a0) fun x11 =>
 bnd (loopL (fun s12 =>
 bnd (abin .lss (gx s12 2) a0) fun x13 =>
 br x13
 (bnd (s_sp_choicesAt x4 (gx s12 2) (gx s12 1)) fun x14 =>
 bnd (ixa 1 x10 (gx s12 2)) fun x15 =>
 bnd (ld1 x15) fun x16 =>
 bnd (abin .quo (gx s12 0) x16) fun x17 =>
 bnd (ixa 1 x14 x17) fun x18 =>
 bnd (ld1 x18) fun x19 =>
 bnd (s_sp_withEntry x4 (gx s12 2) (gx s12 1) x19) fun x20 =>
 bnd (ixa 1 x10 (gx s12 2)) fun x21 =>
 bnd (ld1 x21) fun x22 =>
 bnd (abin .rem (gx s12 0) x22) fun x23 =>
 bnd (abin .add (gx s12 2) (.int .i64 1)) fun x24 =>
 rx .normal [x23, x20, x24])
 (rx (.exit 0) [gx s12 1])) [a2, x11, .int .i64 0]) fun r25 =>
 ife r25.1 (.exit 0) (ret (.tuple [gx r25.2 0, .bool true])) (fail)))
noncomputable def s_sp_RandomState (a0 a1 : AVal) : AM AVal :=
 bnd (boxA none t_impl_Puzzle 3 a0) fun x1 =>
 bnd (ldn 3 x1) fun x2 =>
 bnd (s_sp_IsValidPuzzle x2) fun x3 =>
 bnd (aun .not x3) fun x4 =>
 bnd (gd x4 false (ret a1)) fun x5 =>
 bnd (gd x4 false (s_sp_l24IsSeed x5)) fun x6 =>
 bnd (gd x4 false (aun .not x6)) fun x7 =>
 bnd (pick3 x4 (.bool true) x7) fun x8 =>
 br x8
 (bnd (bnd (ret []) fun cs => allocS none t_int64 1 0 cs) fun x9 =>
 ret (.tuple [x9, .bool false]))
 (bnd (s_sp_NextRandom a1) fun x10 =>
 bnd getH fun h11 =>
 bnd (s_sp_NextRandom x10) fun x12 =>
 bnd (ldn 3 x1) fun x13 =>
 bnd (agn (ldn 3 x1) x13 [h11]) fun _ =>
 bnd (s_sp_StateCount x13) fun x14 =>
 bnd (abin .mul x10 (.int .i64 2147483647)) fun x15 =>
 bnd (abin .add x15 x12) fun x16 =>
 bnd (abin .rem x16 x14) fun x17 =>
 bnd (fadd 0 x1) fun x18 =>
 bnd (ld1 x18) fun x19 =>
 bnd (fadd 2 x1) fun x20 =>
 bnd (ld1 x20) fun x21 =>
 bnd (s_sp_MemberAt x19 x21 x17) fun x22 =>
 bnd (extr 0 x22) fun x23 =>
 bnd (extr 1 x22) fun x24 =>
 ret (.tuple [x23, x24]))
noncomputable def s_sp_isPermutationOf (a0 a1 : AVal) : AM AVal :=
 bnd (lenA a1) fun x1 =>
 bnd (abin .eql x1 a0) fun x2 =>
 bnd (gd x2 true (ret a1)) fun x3 =>
 bnd (gd x2 true (s_sp_IsPermutation x3)) fun x4 =>
 bnd (pick3 x2 x4 (.bool false)) fun x5 =>
 ret x5
noncomputable def s_sp_IsState (a0 a1 : AVal) : AM AVal :=
 bnd (boxA none t_impl_Puzzle 3 a0) fun x1 =>
 bnd (ldn 3 x1) fun x2 =>
 bnd (s_sp_IsValidPuzzle x2) fun x3 =>
 bnd (gd x3 true (fadd 0 x1)) fun x4 =>
 bnd (gd x3 true (ld1 x4)) fun x5 =>
 bnd (gd x3 true (ret a1)) fun x6 =>
 bnd (gd x3 true (s_sp_isPermutationOf x5 x6)) fun x7 =>
 bnd (pick3 x3 x7 (.bool false)) fun x8 =>
 ret x8
noncomputable def s_sp_projectState (a0 a1 : AVal) : AM AVal :=
 bnd (bnd (ret []) fun cs => allocS none t_int64 1 0 cs) fun x1 =>
 bnd (loopL (fun s2 =>
 bnd (lenA a0) fun x3 =>
 bnd (abin .lss (gx s2 1) x3) fun x4 =>
 br x4
 (bnd (ixa 1 a0 (gx s2 1)) fun x5 =>
 bnd (ld1 x5) fun x6 =>
 bnd (ixa 1 a1 x6) fun x7 =>
 bnd (ld1 x7) fun x8 =>
 bnd (bnd (bnd (cell1 x8) fun y9 => ret [y9]) fun cs => allocS none t_int64 1 1 cs) fun x10 =>
 bnd (appS t_int64 1 8 (gx s2 0) x10) fun x11 =>
 bnd (abin .add (gx s2 1) (.int .i64 1)) fun x12 =>
 rx .normal [x11, x12])
 (rx (.exit 0) [gx s2 0])) [x1, .int .i64 0]) fun r13 =>
 ife r13.1 (.exit 0) (ret (gx r13.2 0)) (fail)
noncomputable def s_sp_PatternOf (a0 a1 a2 : AVal) : AM AVal :=
 bnd (boxA none t_impl_Puzzle 3 a0) fun x1 =>
 bnd (ldn 3 x1) fun x2 =>
 bnd (s_sp_IsTrackedSet x2 a1) fun x3 =>
 bnd (aun .not x3) fun x4 =>
 bnd (gd x4 false (ldn 3 x1)) fun x5 =>
 bnd (gd x4 false (ret a2)) fun x6 =>
 bnd (gd x4 false (s_sp_IsState x5 x6)) fun x7 =>
 bnd (gd x4 false (aun .not x7)) fun x8 =>
 bnd (pick3 x4 (.bool true) x8) fun x9 =>
 br x9
 (bnd (bnd (ret []) fun cs => allocS none t_int64 1 0 cs) fun x10 =>
 ret x10)
 (bnd (s_sp_projectState a1 a2) fun x11 =>
 ret x11)
noncomputable def s_sp_tableEntry (a0 a1 : AVal) : AM AVal :=
 bnd (boxA none t_impl_Table 3 a0) fun x1 =>
 bnd (loopL (fun s2 =>
 bnd (fadd 1 x1) fun x3 =>
 bnd (ld1 x3) fun x4 =>
 bnd (lenA x4) fun x5 =>
 bnd (abin .lss (gx s2 0) x5) fun x6 =>
 br x6
 (bnd (fadd 1 x1) fun x7 =>
 bnd (ld1 x7) fun x8 =>
 bnd (ixa 1 x8 (gx s2 0)) fun x9 =>
 bnd (ld1 x9) fun x10 =>
 bnd (s_sp_equalInts x10 a1) fun x11 =>
 br x11
 (rx .ret [gx s2 0])
 (bnd (abin .add (gx s2 0) (.int .i64 1)) fun x12 =>
 rx .normal [x12]))
 (rx (.exit 0) [.undef])) [.int .i64 0]) fun r13 =>
 ife r13.1 (.exit 0) (ret (.int .i64 (-1))) (ife r13.1 .ret (ret (gx r13.2 0)) (fail))
noncomputable def s_sp_TableLookup (a0 a1 : AVal) : AM AVal :=
 bnd (boxA none t_impl_Table 3 a0) fun x1 =>
 bnd (ldn 3 x1) fun x2 =>
 bnd (s_sp_IsWellFormedTable x2) fun x3 =>
 bnd (aun .not x3) fun x4 =>
 br x4
 (ret (.int .i64 (-1)))
 (bnd (ldn 3 x1) fun x5 =>
 bnd (s_sp_tableEntry x5 a1) fun x6 =>
 bnd (abin .lss x6 (.int .i64 0)) fun x7 =>
 br x7
 (ret (.int .i64 (-1)))
 (bnd (fadd 2 x1) fun x8 =>
 bnd (ld1 x8) fun x9 =>
 bnd (ixa 1 x9 x6) fun x10 =>
 bnd (ld1 x10) fun x11 =>
 ret x11))
noncomputable def s_sp_searchStates (a0 : AVal) : AM AVal :=
 bnd (boxA none t_impl_Puzzle 3 a0) fun x1 =>
 bnd (allocC none t_spec_stateSearch [.nilS, .nilS, .nilS, .bool false]) fun x2 =>
 bnd (ldn 3 x1) fun x3 =>
 bnd (s_sp_IsValidPuzzle x3) fun x4 =>
 bnd (aun .not x4) fun x5 =>
 br x5
 (bnd (bnd (ret [.nilS, .nilS, .nilS, .bool false]) fun cs => ret (.agg cs)) fun x6 =>
 bnd (stn 4 x2 x6) fun _ =>
 bnd (ldn 4 x2) fun v7 => ret (.tuple [v7, .bool false]))
 (bnd (reserve 7) fun b8 =>
 bnd (fadd 0 x1) fun x9 =>
 bnd (ld1 x9) fun x10 =>
 bnd getH fun h11 =>
 bnd (s_sp_identity x10) fun x12 =>
 bnd (ldn 3 x1) fun x13 =>
 bnd (agn (ldn 3 x1) x13 [h11]) fun _ =>
 bnd (s_sp_searchFrom x13 x12) fun x14 =>
 bnd (allocC (some (b8 + 5)) t_spec_stateSearch [.nilS, .nilS, .nilS, .bool false]) fun x15 =>
 bnd (stn 4 x15 x14) fun _ =>
 bnd (ldn 4 x15) fun x16 =>
 bnd getH fun h17 =>
 bnd (stn 4 x2 x16) fun _ =>
 bnd (fadd 3 x15) fun x18 =>
 bnd (ld1 x18) fun x19 =>
 bnd (agn (ld1 x18) x19 [h17]) fun _ =>
 bnd (ldn 4 x2) fun v20 => ret (.tuple [v20, x19]))
noncomputable def s_sp_depthOf (a0 a1 : AVal) : AM AVal :=
 bnd (boxA none t_spec_stateSearch 4 a0) fun x1 =>
 bnd (ldn 4 x1) fun x2 =>
 bnd (s_sp_searchIndex x2 a1) fun x3 =>
 bnd (abin .lss x3 (.int .i64 0)) fun x4 =>
 br x4
 (ret (.int .i64 (-1)))
 (bnd (fadd 1 x1) fun x5 =>
 bnd (ld1 x5) fun x6 =>
 bnd (ixa 1 x6 x3) fun x7 =>
 bnd (ld1 x7) fun x8 =>
 ret x8)
noncomputable def s_sp_searchState (a0 a1 : AVal) : AM AVal :=
 bnd (boxA none t_impl_Puzzle 3 a0) fun x1 =>
 bnd (allocC none t_spec_stateSearch [.nilS, .nilS, .nilS, .bool false]) fun x2 =>
 bnd (ldn 3 x1) fun x3 =>
 bnd (s_sp_searchStates x3) fun x4 =>
 bnd (extr 0 x4) fun x5 =>
 bnd (extr 1 x4) fun x6 =>
 bnd (allocC none t_spec_stateSearch [.nilS, .nilS, .nilS, .bool false]) fun x7 =>
 bnd (stn 4 x7 x5) fun _ =>
 bnd (aun .not x6) fun x8 =>
 bnd (gd x8 false (ldn 3 x1)) fun x9 =>
 bnd (gd x8 false (ret a1)) fun x10 =>
 bnd (gd x8 false (s_sp_IsState x9 x10)) fun x11 =>
 bnd (gd x8 false (aun .not x11)) fun x12 =>
 bnd (pick3 x8 (.bool true) x12) fun x13 =>
 br x13
 (bnd (ldn 4 x7) fun x14 =>
 bnd (stn 4 x2 x14) fun _ =>
 bnd (ldn 4 x2) fun v15 => ret (.tuple [v15, .int .i64 (-1), .bool false]))
 (bnd (ldn 4 x7) fun x16 =>
 bnd (s_sp_depthOf x16 a1) fun x17 =>
 bnd (ldn 4 x7) fun x18 =>
 bnd (abin .geq x17 (.int .i64 0)) fun x19 =>
 bnd (stn 4 x2 x18) fun _ =>
 bnd (ldn 4 x2) fun v20 => ret (.tuple [v20, x17, x19]))
noncomputable def s_sp_Distance (a0 a1 : AVal) : AM AVal :=
 bnd (boxA none t_impl_Puzzle 3 a0) fun x1 =>
 bnd (ldn 3 x1) fun x2 =>
 bnd (s_sp_searchState x2 a1) fun x3 =>
 bnd (extr 0 x3) fun x4 =>
 bnd (extr 1 x3) fun x5 =>
 bnd (extr 2 x3) fun x6 =>
 bnd (allocC none t_spec_stateSearch [.nilS, .nilS, .nilS, .bool false]) fun x7 =>
 bnd (stn 4 x7 x4) fun _ =>
 bnd (aun .not x6) fun x8 =>
 br x8
 (ret (.int .i64 (-1)))
 (ret x5)
noncomputable def s_lw_FnAdmissibleTables (a0 : AVal) : AM AVal :=
 bnd (s_lw_big a0) fun x1 =>
 br x1
 (ret (.bool true))
 (bnd (s_sp_DrawIsAdmissibleTable a0) fun x2 =>
 bnd (extr 0 x2) fun x3 =>
 bnd (extr 1 x2) fun x4 =>
 bnd (allocC none t_impl_Puzzle [.int .i64 0, .str [], .nilS]) fun x5 =>
 bnd (allocC none t_impl_Table [.nilS, .nilS, .nilS]) fun x6 =>
 bnd (stn 3 x5 x3) fun _ =>
 bnd (stn 3 x6 x4) fun _ =>
 bnd (ldn 3 x5) fun x7 =>
 bnd (ldn 3 x6) fun x8 =>
 bnd (s_im_IsAdmissibleTable x7 x8) fun x9 =>
 bnd (ldn 3 x5) fun x10 =>
 bnd (ldn 3 x6) fun x11 =>
 bnd (s_sp_IsAdmissibleTable x10 x11) fun x12 =>
 bnd (aeq .bool true x9 x12) fun x13 =>
 br x13
 (ret (.bool false))
 (bnd (aun .not x9) fun x14 =>
 br x14
 (ret (.bool true))
 (bnd getH fun h15 =>
 bnd (s_lw_roll a0 (.int .u64 916)) fun x16 =>
 bnd getH fun h17 =>
 bnd (s_Plw_dice_below x16 (.int .i64 100000)) fun x18 =>
 bnd (ldn 3 x5) fun x19 =>
 bnd (agn (ldn 3 x5) x19 [h17, h15]) fun _ =>
 bnd (s_sp_RandomState x19 x18) fun x20 =>
 bnd (extr 0 x20) fun x21 =>
 bnd (extr 1 x20) fun x22 =>
 bnd (aun .not x22) fun x23 =>
 br x23
 (ret (.bool false))
 (bnd (ldn 3 x5) fun x24 =>
 bnd (fadd 0 x6) fun x25 =>
 bnd (ld1 x25) fun x26 =>
 bnd getH fun h27 =>
 bnd (s_sp_PatternOf x24 x26 x21) fun x28 =>
 bnd (ldn 3 x6) fun x29 =>
 bnd (agn (ldn 3 x6) x29 [h27]) fun _ =>
 bnd (s_sp_TableLookup x29 x28) fun x30 =>
 bnd (abin .geq x30 (.int .i64 0)) fun x31 =>
 bnd (gd x31 true (ret x30)) fun x32 =>
 bnd (gd x31 true (ldn 3 x5)) fun x33 =>
 bnd (gd x31 true (ret x21)) fun x34 =>
 bnd (gd x31 true (s_sp_Distance x33 x34)) fun x35 =>
 bnd (gd x31 true (abin .leq x32 x35)) fun x36 =>
 bnd (pick3 x31 x36 (.bool false)) fun x37 =>
 ret x37))))
end Go.Am

end
