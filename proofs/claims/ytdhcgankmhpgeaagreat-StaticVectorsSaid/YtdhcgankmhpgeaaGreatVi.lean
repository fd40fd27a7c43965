/- R, the third text: the evaluator's limit: what calls answer at last, and loops, with no count. -/
import Derived.Test.YtdhcgankmhpgeaaGreatVh
import Derived.Test.YtdhcgankmhpgeaaGreatVg
namespace Go.Proofs.YtdhcgankmhpgeaaGreat.M
open Go
set_option linter.unusedVariables false
set_option linter.unusedSimpArgs false
set_option linter.constructorNameAsVariable false
theorem exec6_loop {R : Type} (E : Env) (kn : Nat) (keep : Keep6) (c : Code) (st : St) (k : AX → St → Option R) : exec6 E kn keep (.loop c) st k = loop2 (normSt kn (keep.keep (firstId c))) (fun st k => exec6 E kn keep c st k) E.fuel st k := rfl
theorem exec6_seq {R : Type} (E : Env) (kn : Nat) (keep : Keep6) (a b : Code) (st : St) (k : AX → St → Option R) : exec6 E kn keep (.seq a b) st k = exec6 E kn keep a st fun e st' => match e with
  | .normal => exec6 E kn keep b st' k
  | e => k e st' := rfl
theorem exec6_block {R : Type} (E : Env) (kn : Nat) (keep : Keep6) (id : Nat) (c : Code) (st : St) (k : AX → St → Option R) : exec6 E kn keep (.block id c) st k = exec6 E kn keep c st fun e st' => match e with
  | .exit j => if Nat.beq j id then k .normal st' else k (.exit j) st'
  | e => k e st' := rfl
theorem exec6_cond {R : Type} (E : Env) (kn : Nat) (keep : Keep6) (c : Operand) (a b : Code) (st : St) (k : AX → St → Option R) : exec6 E kn keep (.cond c a b) st k = match opv st.fr c with
  | some (.bool t) => if t then exec6 E kn keep a st k else exec6 E kn keep b st k
  | _ => none := by
  conv => lhs; unfold exec6
  first | rfl | (split <;> rfl)
theorem exec6_region {R : Type} (E : Env) (kn : Nat) (keep : Keep6) (id : Nat) (ops : Array Oper) (draw : Bool) (st : St) (k : AX → St → Option R) : exec6 E kn keep (.region id ops draw) st k = match frzTs (keep.frz id) (pickS (keep.live id) st) with
  | none => none
  | some st => match (if draw then E.drawR st.nx ops st.fr st.hp st.df else runR E.G E.call E.nt st.nx ops (List.range ops.size) st.fr st.hp st.df) with
    | some (.ok fr hp df) => k .normal ⟨fr, hp, st.nx + 64 * ops.size, df⟩
    | some (.pan fr hp df v) => k (.pan v) ⟨fr, hp, st.nx + 64 * ops.size, df⟩
    | none => none := by
  conv => lhs; unfold exec6
  first | rfl | (split <;> rfl)
/-- What answers at last. -/
noncomputable def lim {R : Type} (P : Nat → Option R) : Option R :=
  open Classical in if h : ∃ r N, ∀ n, N ≤ n → P n = some r then some h.choose else none
theorem lim_some {R : Type} {P : Nat → Option R} {r : R} : lim P = some r ↔ ∃ N, ∀ n, N ≤ n → P n = some r := by
  constructor
  · intro h
    unfold lim at h
    split at h
    · rename_i hx
      injection h with h
      subst h
      exact hx.choose_spec
    · cases h
  · rintro ⟨N, hN⟩
    have hx : ∃ r N, ∀ n, N ≤ n → P n = some r := ⟨r, N, hN⟩
    unfold lim
    rw [dif_pos hx]
    obtain ⟨M, hM⟩ := hx.choose_spec
    have h1 := hM (max N M) (Nat.le_max_right _ _)
    rw [hN (max N M) (Nat.le_max_left _ _)] at h1
    exact h1.symm
/-- What a call answers at last. -/
noncomputable def evW : CallF := fun f args objs => lim fun n => ev n f args objs
theorem evW_runs {f : Nat} {args : List AV} {objs : List Obj'} {r : AE} {objs' : List Obj'} : evW f args objs = some (r, objs') ↔ Runs f args objs r objs' := lim_some
/-- At last. -/
def Evt (P : Nat → Prop) : Prop := ∃ N, ∀ n, N ≤ n → P n
theorem Evt.of {P : Nat → Prop} (h : ∀ n, P n) : Evt P := ⟨0, fun n _ => h n⟩
theorem Evt.mono {P Q : Nat → Prop} (h : Evt P) (hq : ∀ n, P n → Q n) : Evt Q := let ⟨N, h⟩ := h; ⟨N, fun n hn => hq n (h n hn)⟩
theorem Evt.and {P Q : Nat → Prop} (h : Evt P) (k : Evt Q) : Evt fun n => P n ∧ Q n :=
  let ⟨N, h⟩ := h; let ⟨M, k⟩ := k; ⟨max N M, fun n hn => ⟨h n (Nat.le_trans (Nat.le_max_left _ _) hn), k n (Nat.le_trans (Nat.le_max_right _ _) hn)⟩⟩
theorem Evt.ge (N : Nat) : Evt fun n => N ≤ n := ⟨N, fun _ h => h⟩
theorem evW_evt {f : Nat} {args : List AV} {objs : List Obj'} {q : AE × List Obj'} (h : evW f args objs = some q) : Evt fun n => ev n f args objs = some q := lim_some.1 h
section
set_option linter.unusedSectionVars false
variable {call : CallF} {fam : Nat → CallF} (H : ∀ f args objs q, call f args objs = some q → Evt fun n => fam n f args objs = some q) {G : Gl} {base nt nx : Nat} {hp : Hp} {fr : Fr} {df : Df} {ops : Array Oper}
include H
theorem callD_evt {f : Nat} {args : List AV} {q : AE × Hp} (h : callD call base f args hp = some q) : Evt fun n => callD (fam n) base f args hp = some q := by
  unfold callD at h
  simp only at h
  split at h
  · rename_i args' objs e1 e2
    cases hc : call f args' objs with
    | none => simp [hc] at h
    | some p =>
      refine (H _ _ _ _ hc).mono fun n hn => ?_
      unfold callD
      simp only [e1, e2, hn]
      rw [hc] at h
      exact h
  · cases h
theorem stepR_evt {o : Oper} {r : RR} (h : stepR G call nt base ops o fr hp df = some r) : Evt fun n => stepR G (fam n) nt base ops o fr hp df = some r := by
  obtain ⟨dst, op, type, pos, after, guard⟩ := o
  unfold stepR at h ⊢
  cases hw : wantD ops ⟨dst, op, type, pos, after, guard⟩ fr with
  | none => simp [hw] at h
  | some b =>
    rw [hw] at h
    cases b with
    | false => exact Evt.of fun n => h
    | true =>
      simp only at h ⊢
      cases op
      case call c =>
        obtain ⟨callee, args, argTypes⟩ := c
        cases callee
        case value f =>
          simp only at h ⊢
          cases hf : opv fr f with
          | none => simp [hf] at h
          | some fv =>
            rw [hf] at h
            cases ha : argsD fr args.toList with
            | none => cases fv <;> simp [ha] at h
            | some l =>
              cases fv
              case fn g caps =>
                simp only [ha] at h ⊢
                cases hc : callD call base g (l ++ caps) hp with
                | none => simp [hc] at h
                | some q =>
                  refine (callD_evt H hc).mono fun n hn => ?_
                  rw [hn]
                  rw [hc] at h
                  exact h
              all_goals (simp at h)
        all_goals exact Evt.of fun n => h
      case defer c =>
        obtain ⟨callee, args, argTypes⟩ := c
        cases callee <;> exact Evt.of fun n => h
      all_goals exact Evt.of fun n => h
theorem runR_evt {r : RR} : ∀ (l : List Nat) (fr : Fr) (hp : Hp) (df : Df), runR G call nt nx ops l fr hp df = some r → Evt fun n => runR G (fam n) nt nx ops l fr hp df = some r
  | [], fr, hp, df, h => Evt.of fun n => h
  | i :: rest, fr, hp, df, h => by
    unfold runR at h ⊢
    cases ho : ops[i]? with
    | none => simp [ho] at h
    | some o =>
      simp only [ho] at h ⊢
      cases hs : stepR G call nt (nx + 64 * i) ops o fr hp df with
      | none => simp [hs] at h
      | some q =>
        rw [hs] at h
        cases q with
        | ok fr' hp' df' =>
          simp only at h
          refine ((stepR_evt H hs).and (runR_evt rest fr' hp' df' h)).mono fun n hn => ?_
          rw [hn.1]
          exact hn.2
        | pan fr' hp' df' v =>
          simp only at h
          refine (stepR_evt H hs).mono fun n hn => ?_
          rw [hn]
          exact h
theorem stepD_evt {o : Oper} {r : AE × Hp} (h : stepD G call base ops o fr hp = some r) : Evt fun n => stepD G (fam n) base ops o fr hp = some r := by
  obtain ⟨dst, op, type, pos, after, guard⟩ := o
  unfold stepD at h ⊢
  cases hw : wantD ops ⟨dst, op, type, pos, after, guard⟩ fr with
  | none => simp [hw] at h
  | some b =>
    rw [hw] at h
    cases b with
    | false => exact Evt.of fun n => h
    | true =>
      simp only at h ⊢
      cases op
      case call c =>
        obtain ⟨callee, args, argTypes⟩ := c
        cases callee
        case value f =>
          simp only at h ⊢
          cases hf : opv fr f with
          | none => simp [hf] at h
          | some fv =>
            rw [hf] at h
            cases ha : argsD fr args.toList with
            | none => cases fv <;> simp [ha] at h
            | some l =>
              cases fv
              case fn g caps =>
                simp only [ha] at h ⊢
                exact callD_evt H h
              all_goals (simp at h)
        all_goals exact Evt.of fun n => h
      all_goals exact Evt.of fun n => h
theorem drawGo_evt {r : DS} : ∀ (l : List Nat) (s : DS), drawGo G call nt nx ops l s = some r → Evt fun n => drawGo G (fam n) nt nx ops l s = some r
  | [], s, h => Evt.of fun n => h
  | i :: rest, s, h => by
    unfold drawGo at h ⊢
    cases ho : ops[i]? with
    | none => simp [ho] at h
    | some o =>
      simp only [ho] at h ⊢
      cases hp : preOf s.D o.after.toList with
      | none => simp [hp] at h
      | some pre =>
        simp only [hp] at h ⊢
        cases hd : s.dead pre with
        | true =>
          simp only [hd, if_true] at h ⊢
          exact drawGo_evt rest _ h
        | false =>
          simp only [hd, Bool.false_eq_true, if_false] at h ⊢
          cases hs : stepD G call (nx + 64 * i) ops o s.fr s.hp with
          | none => simp [hs] at h
          | some q =>
            rw [hs] at h
            obtain ⟨ae, up⟩ := q
            cases ae with
            | ret v =>
              simp only at h
              split at h
              · rename_i hc
                refine ((stepD_evt H hs).and (drawGo_evt rest _ h)).mono fun n hn => ?_
                rw [hn.1]
                simp only
                rw [if_pos hc]
                exact hn.2
              · cases h
            | pan v =>
              simp only at h
              split at h
              · rename_i hc
                refine ((stepD_evt H hs).and (drawGo_evt rest _ h)).mono fun n hn => ?_
                rw [hn.1]
                simp only
                rw [if_pos hc]
                exact hn.2
              · cases h
theorem drawD_evt {r : RR} (h : drawD G call nt nx ops fr hp df = some r) : Evt fun n => drawD G (fam n) nt nx ops fr hp df = some r := by
  unfold drawD at h ⊢
  cases hg : drawGo G call nt nx ops (List.range ops.size) ⟨[], fr, hp, none⟩ with
  | none => simp [hg] at h
  | some s =>
    rw [hg] at h
    refine (drawGo_evt H _ _ hg).mono fun n hn => ?_
    rw [hn]
    exact h
end
/-! code, directly -/
def loopD (norm : St → Option St) (body : St → Option (AX × St)) : Nat → St → Option (AX × St)
  | 0, _ => none
  | n + 1, st => match norm st with
    | none => none
    | some st => match body st with
      | some (.normal, st') => loopD norm body n st'
      | r => r
noncomputable def regW (nt : Nat) (ops : Array Oper) (draw : Bool) (st : St) : Option (AX × St) :=
  match (if draw then drawD cfg.G evW nt st.nx ops st.fr st.hp st.df else runR cfg.G evW nt st.nx ops (List.range ops.size) st.fr st.hp st.df) with
  | some (.ok fr hp df) => some (.normal, ⟨fr, hp, st.nx + 64 * ops.size, df⟩)
  | some (.pan fr hp df v) => some (.pan v, ⟨fr, hp, st.nx + 64 * ops.size, df⟩)
  | none => none
noncomputable def runW (nt kn : Nat) (keep : Keep6) : Code → St → Option (AX × St)
  | .skip, st => some (.normal, st)
  | .label _, st => some (.normal, st)
  | .region id ops draw, st => match frzTs (keep.frz id) (pickS (keep.live id) st) with
    | none => none
    | some st => regW nt ops draw st
  | .seq a b, st => match runW nt kn keep a st with
    | some (.normal, st') => runW nt kn keep b st'
    | r => r
  | .cond c x y, st => match opv st.fr c with
    | some (.bool t) => if t then runW nt kn keep x st else runW nt kn keep y st
    | _ => none
  | .block id c, st => match runW nt kn keep c st with
    | some (.exit j, st') => if Nat.beq j id then some (.normal, st') else some (.exit j, st')
    | r => r
  | .loop c, st => lim fun n => loopD (normSt kn (keep.keep (firstId c))) (runW nt kn keep c) n st
  | .exit j, st => some (.exit j, st)
  | .ret, st => some (.ret, st)
  | _, _ => none
noncomputable abbrev Eat (nt n : Nat) : Env := ⟨cfg.G, ev n, nt, n, drawD cfg.G (ev n) nt⟩
theorem runW_evt {nt kn : Nat} {keep : Keep6} : ∀ (c : Code) (st : St) (q : AX × St), runW nt kn keep c st = some q → Evt fun n => ∀ (R : Type) (k : AX → St → Option R), exec6 (Eat nt n) kn keep c st k = k q.1 q.2
  | .skip, st, q, h => by
    simp only [runW, Option.some.injEq] at h
    subst h
    exact Evt.of fun n R k => rfl
  | .label l, st, q, h => by
    simp only [runW, Option.some.injEq] at h
    subst h
    exact Evt.of fun n R k => rfl
  | .exit j, st, q, h => by
    simp only [runW, Option.some.injEq] at h
    subst h
    exact Evt.of fun n R k => rfl
  | .ret, st, q, h => by
    simp only [runW, Option.some.injEq] at h
    subst h
    exact Evt.of fun n R k => rfl
  | .region id ops draw, st0, q, h => by
    unfold runW at h
    cases hf : frzTs (keep.frz id) (pickS (keep.live id) st0) with
    | none => simp [hf] at h
    | some st =>
      simp only [hf, regW] at h
      have key : ∀ rr : RR, (match rr with | .ok fr hp df => (some (AX.normal, (⟨fr, hp, st.nx + 64 * ops.size, df⟩ : St)) : Option (AX × St)) | .pan fr hp df v => some (.pan v, ⟨fr, hp, st.nx + 64 * ops.size, df⟩)) = some q →
          (Evt fun n => (if draw then drawD cfg.G (ev n) nt st.nx ops st.fr st.hp st.df else runR cfg.G (ev n) nt st.nx ops (List.range ops.size) st.fr st.hp st.df) = some rr) →
          Evt fun n => ∀ (R : Type) (k : AX → St → Option R), exec6 (Eat nt n) kn keep (.region id ops draw) st0 k = k q.1 q.2 := by
        intro rr h1 h2
        refine h2.mono fun n hn R k => ?_
        rw [exec6_region, hf]
        simp only
        rw [hn]
        cases rr with
        | ok fr hp df =>
          simp only [Option.some.injEq] at h1
          subst h1
          rfl
        | pan fr hp df v =>
          simp only [Option.some.injEq] at h1
          subst h1
          rfl
      cases draw with
      | true =>
        simp only [if_true] at h
        cases hr : drawD cfg.G evW nt st.nx ops st.fr st.hp st.df with
        | none => simp [hr] at h
        | some rr =>
          rw [hr] at h
          refine key rr ?_ ((drawD_evt (fun _ _ _ _ h => evW_evt h) hr).mono fun n hn => by rw [if_pos rfl]; exact hn)
          cases rr <;> exact h
      | false =>
        simp only [Bool.false_eq_true, if_false] at h
        cases hr : runR cfg.G evW nt st.nx ops (List.range ops.size) st.fr st.hp st.df with
        | none => simp [hr] at h
        | some rr =>
          rw [hr] at h
          refine key rr ?_ ((runR_evt (fun _ _ _ _ h => evW_evt h) _ _ _ _ hr).mono fun n hn => by rw [if_neg (by decide)]; exact hn)
          cases rr <;> exact h
  | .seq a b, st, q, h => by
    unfold runW at h
    cases ha : runW nt kn keep a st with
    | none => simp [ha] at h
    | some p =>
      rw [ha] at h
      obtain ⟨e, st'⟩ := p
      have iha := runW_evt a st _ ha
      cases e with
      | normal =>
        simp only at h
        refine (iha.and (runW_evt b st' q h)).mono fun n hn R k => ?_
        rw [exec6_seq, hn.1]
        exact hn.2 R k
      | exit j =>
        simp only [Option.some.injEq] at h
        subst h
        refine iha.mono fun n hn R k => ?_
        rw [exec6_seq, hn]
      | ret =>
        simp only [Option.some.injEq] at h
        subst h
        refine iha.mono fun n hn R k => ?_
        rw [exec6_seq, hn]
      | pan v =>
        simp only [Option.some.injEq] at h
        subst h
        refine iha.mono fun n hn R k => ?_
        rw [exec6_seq, hn]
  | .cond c x y, st, q, h => by
    unfold runW at h
    cases hc : opv st.fr c with
    | none => simp [hc] at h
    | some v =>
      rw [hc] at h
      cases v
      case bool t =>
        simp only at h
        cases t with
        | true =>
          simp only [if_true] at h
          refine (runW_evt x st q h).mono fun n hn R k => ?_
          rw [exec6_cond, hc]
          simp only [if_true]
          exact hn R k
        | false =>
          simp only [Bool.false_eq_true, if_false] at h
          refine (runW_evt y st q h).mono fun n hn R k => ?_
          rw [exec6_cond, hc]
          simp only [Bool.false_eq_true, if_false]
          exact hn R k
      all_goals (simp at h)
  | .block id c, st, q, h => by
    unfold runW at h
    cases ha : runW nt kn keep c st with
    | none => simp [ha] at h
    | some p =>
      rw [ha] at h
      obtain ⟨e, st'⟩ := p
      have iha := runW_evt c st _ ha
      cases e with
      | exit j =>
        simp only at h
        refine iha.mono fun n hn R k => ?_
        rw [exec6_block, hn]
        simp only
        split at h
        · rename_i hj
          rw [if_pos hj]
          simp only [Option.some.injEq] at h
          subst h
          rfl
        · rename_i hj
          rw [if_neg hj]
          simp only [Option.some.injEq] at h
          subst h
          rfl
      | normal =>
        simp only [Option.some.injEq] at h
        subst h
        refine iha.mono fun n hn R k => ?_
        rw [exec6_block, hn]
      | ret =>
        simp only [Option.some.injEq] at h
        subst h
        refine iha.mono fun n hn R k => ?_
        rw [exec6_block, hn]
      | pan v =>
        simp only [Option.some.injEq] at h
        subst h
        refine iha.mono fun n hn R k => ?_
        rw [exec6_block, hn]
  | .loop c, st, q, h => by
    unfold runW at h
    obtain ⟨N, hN⟩ := lim_some.1 h
    have hN := hN N (Nat.le_refl _)
    have key : ∀ (j : Nat) (st : St), loopD (normSt kn (keep.keep (firstId c))) (runW nt kn keep c) j st = some q →
        Evt fun n => ∀ m, j ≤ m → ∀ (R : Type) (k : AX → St → Option R), loop2 (normSt kn (keep.keep (firstId c))) (fun st k => exec6 (Eat nt n) kn keep c st k) m st k = k q.1 q.2 := by
      intro j
      induction j with
      | zero => intro st h; cases h
      | succ j ih =>
        intro st h
        unfold loopD at h
        cases hn : normSt kn (keep.keep (firstId c)) st with
        | none => simp [hn] at h
        | some st0 =>
          simp only [hn] at h
          cases hb : runW nt kn keep c st0 with
          | none => simp [hb] at h
          | some p =>
            rw [hb] at h
            obtain ⟨e, st'⟩ := p
            have ihb := runW_evt c st0 _ hb
            cases e with
            | normal =>
              simp only at h
              refine (ihb.and (ih st' h)).mono fun n hh m hm R k => ?_
              obtain ⟨m', rfl⟩ : ∃ m', m = m' + 1 := ⟨m - 1, by omega⟩
              unfold loop2
              rw [hn]
              simp only
              rw [hh.1]
              exact hh.2 m' (by omega) R k
            | exit i =>
              simp only [Option.some.injEq] at h
              subst h
              refine ihb.mono fun n hh m hm R k => ?_
              obtain ⟨m', rfl⟩ : ∃ m', m = m' + 1 := ⟨m - 1, by omega⟩
              unfold loop2
              rw [hn]
              simp only
              rw [hh]
            | ret =>
              simp only [Option.some.injEq] at h
              subst h
              refine ihb.mono fun n hh m hm R k => ?_
              obtain ⟨m', rfl⟩ : ∃ m', m = m' + 1 := ⟨m - 1, by omega⟩
              unfold loop2
              rw [hn]
              simp only
              rw [hh]
            | pan v =>
              simp only [Option.some.injEq] at h
              subst h
              refine ihb.mono fun n hh m hm R k => ?_
              obtain ⟨m', rfl⟩ : ∃ m', m = m' + 1 := ⟨m - 1, by omega⟩
              unfold loop2
              rw [hn]
              simp only
              rw [hh]
    refine ((key N st hN).and (Evt.ge N)).mono fun n hn R k => ?_
    rw [exec6_loop]
    exact hn.1 n hn.2 R k
  | .rangeFunc .., st, q, h => by simp only [runW] at h; cases h
  | .scope .., st, q, h => by simp only [runW] at h; cases h
  | .goto .., st, q, h => by simp only [runW] at h; cases h
  | .refuse .., st, q, h => by simp only [runW] at h; cases h
/-! code, with what comes behind it; a loop is what it is said to be -/
noncomputable def exec3 {R : Type} (nt kn : Nat) (keep : Keep6) (c : Code) (st : St) (k : AX → St → Option R) : Option R := (runW nt kn keep c st).bind fun q => k q.1 q.2
abbrev Loop (R : Type) := Code → St → (AX → St → Option R) → Option R
def exec4 {R : Type} (G : Gl) (call : CallF) (nt : Nat) (keep : Keep6) (L : Loop R) : Code → St → (AX → St → Option R) → Option R
  | .skip, st, k => k .normal st
  | .label _, st, k => k .normal st
  | .region id ops draw, st, k => match frzTs (keep.frz id) (pickS (keep.live id) st) with
    | none => none
    | some st => match (if draw then drawD G call nt st.nx ops st.fr st.hp st.df else runR G call nt st.nx ops (List.range ops.size) st.fr st.hp st.df) with
      | some (.ok fr hp df) => k .normal ⟨fr, hp, st.nx + 64 * ops.size, df⟩
      | some (.pan fr hp df v) => k (.pan v) ⟨fr, hp, st.nx + 64 * ops.size, df⟩
      | none => none
  | .seq a b, st, k => exec4 G call nt keep L a st fun e st' => match e with
    | .normal => exec4 G call nt keep L b st' k
    | e => k e st'
  | .cond c x y, st, k => match opv st.fr c with
    | some (.bool t) => if t then exec4 G call nt keep L x st k else exec4 G call nt keep L y st k
    | _ => none
  | .block id c, st, k => exec4 G call nt keep L c st fun e st' => match e with
    | .exit j => if Nat.beq j id then k .normal st' else k (.exit j) st'
    | e => k e st'
  | .loop c, st, k => L c st k
  | .exit j, st, k => k (.exit j) st
  | .ret, st, k => k .ret st
  | _, _, _ => none
noncomputable def loop3 {R : Type} (nt kn : Nat) (keep : Keep6) : Loop R := fun c st k => exec3 nt kn keep (.loop c) st k
theorem exec3_eq4 {R : Type} {nt kn : Nat} {keep : Keep6} : ∀ (c : Code) (st : St) (k : AX → St → Option R), exec3 nt kn keep c st k = exec4 cfg.G evW nt keep (loop3 nt kn keep) c st k
  | .skip, st, k => rfl
  | .label _, st, k => rfl
  | .exit j, st, k => rfl
  | .ret, st, k => rfl
  | .loop c, st, k => rfl
  | .region id ops draw, st0, k => by
    unfold exec3 runW exec4
    cases frzTs (keep.frz id) (pickS (keep.live id) st0) with
    | none => rfl
    | some st =>
      simp only [regW]
      cases (if draw then drawD cfg.G evW nt st.nx ops st.fr st.hp st.df else runR cfg.G evW nt st.nx ops (List.range ops.size) st.fr st.hp st.df) with
      | none => rfl
      | some rr => cases rr <;> rfl
  | .seq a b, st, k => by
    unfold exec4
    rw [← exec3_eq4 a]
    unfold exec3 
    conv => lhs; unfold runW
    cases runW nt kn keep a st with
    | none => rfl
    | some p =>
      obtain ⟨e, st'⟩ := p
      cases e with
      | normal =>
        simp only [Option.bind_some]
        rw [← exec3_eq4 b]
        rfl
      | exit j => rfl
      | ret => rfl
      | pan v => rfl
  | .cond c x y, st, k => by
    unfold exec4
    unfold exec3
    conv => lhs; unfold runW
    cases opv st.fr c with
    | none => rfl
    | some v =>
      cases v
      case bool t =>
        cases t with
        | true =>
          simp only [if_true]
          rw [← exec3_eq4 x]
          rfl
        | false =>
          simp only [Bool.false_eq_true, if_false]
          rw [← exec3_eq4 y]
          rfl
      all_goals rfl
  | .block id c, st, k => by
    unfold exec4
    rw [← exec3_eq4 c]
    unfold exec3
    conv => lhs; unfold runW
    cases runW nt kn keep c st with
    | none => rfl
    | some p =>
      obtain ⟨e, st'⟩ := p
      cases e with
      | exit j =>
        simp only [Option.bind_some]
        cases Nat.beq j id <;> rfl
      | normal => rfl
      | ret => rfl
      | pan v => rfl
  | .rangeFunc .., st, k => rfl
  | .scope .., st, k => rfl
  | .goto .., st, k => rfl
  | .refuse .., st, k => rfl
/-- A loop is a round, and the loop. -/
theorem loop3_round {R : Type} {nt kn : Nat} {keep : Keep6} {c : Code} {st : St} {k : AX → St → Option R} {r : R} (h : (match normSt kn (keep.keep (firstId c)) st with
    | none => none
    | some st0 => exec4 cfg.G evW nt keep (loop3 nt kn keep) c st0 (fun e st' => match e with
      | .normal => loop3 nt kn keep c st' k
      | e => k e st')) = some r) : loop3 nt kn keep c st k = some r := by
  cases hn : normSt kn (keep.keep (firstId c)) st with
  | none => simp [hn] at h
  | some st0 =>
    simp only [hn] at h
    rw [← exec3_eq4] at h
    unfold exec3 at h
    cases hb : runW nt kn keep c st0 with
    | none => simp [hb] at h
    | some p =>
      obtain ⟨e, st'⟩ := p
      simp only [hb, Option.bind_some] at h
      have done : (∀ e' st'', (e', st'') = (e, st') → e' ≠ .normal → (k e st' = some r) → loop3 nt kn keep c st k = some r) := by
        intro e' st'' he hne hk
        injection he with he1 he2
        subst he1 he2
        have hl : (lim fun n => loopD (normSt kn (keep.keep (firstId c))) (runW nt kn keep c) n st) = some (e', st'') := lim_some.2 ⟨1, fun n hn' => by
          obtain ⟨m, rfl⟩ : ∃ m, n = m + 1 := ⟨n - 1, by omega⟩
          unfold loopD
          rw [hn]
          simp only [hb]
          cases e' with
          | normal => exact absurd rfl hne
          | exit j => rfl
          | ret => rfl
          | pan v => rfl⟩
        unfold loop3 exec3 runW
        rw [hl]
        exact hk
      cases e with
      | normal =>
        simp only [loop3, exec3] at h
        unfold runW at h
        cases hl : (lim fun n => loopD (normSt kn (keep.keep (firstId c))) (runW nt kn keep c) n st') with
        | none => simp [hl] at h
        | some q =>
          rw [hl] at h
          obtain ⟨N, hN⟩ := lim_some.1 hl
          have hl2 : (lim fun n => loopD (normSt kn (keep.keep (firstId c))) (runW nt kn keep c) n st) = some q := lim_some.2 ⟨N + 1, fun n hn' => by
            obtain ⟨m, rfl⟩ : ∃ m, n = m + 1 := ⟨n - 1, by omega⟩
            unfold loopD
            rw [hn]
            simp only [hb]
            exact hN m (by omega)⟩
          unfold loop3 exec3 runW
          rw [hl2]
          exact h
      | exit j => exact done _ _ rfl (by simp) h
      | ret => exact done _ _ rfl (by simp) h
      | pan v => exact done _ _ rfl (by simp) h
/-- A function's call, at last. -/
theorem evW_of0 {f : Nat} {args : List AV} {objs : List Obj'} {F : Func} {c : Code} {q : AE × List Obj'} (hk : kn f (canVs (ashOf f) args) objs = none) (hF : cfg.G.fn f = some F) (hc : F.body = some c) (hl : Nat.ble args.length F.ntmps = true)
    (h : exec4 cfg.G evW F.ntmps (kpOf f) (loop3 F.ntmps objs.length (kpOf f)) c ⟨numbered 0 (canVs (ashOf f) args), numbered 0 objs, objs.length, []⟩ (fin (kpOf f) F objs.length) = some q) : evW f args objs = some (canE (rshOf f) q) := by
  rw [← exec3_eq4] at h
  unfold exec3 at h
  cases hr : runW F.ntmps objs.length (kpOf f) c ⟨numbered 0 (canVs (ashOf f) args), numbered 0 objs, objs.length, []⟩ with
  | none => simp [hr] at h
  | some p =>
    rw [hr] at h
    obtain ⟨N, hN⟩ := runW_evt _ _ _ hr
    refine lim_some.2 ⟨N + 1, fun n hn => ?_⟩
    obtain ⟨m, rfl⟩ : ∃ m, n = m + 1 := ⟨n - 1, by omega⟩
    unfold ev
    rw [hk]
    simp only
    rw [ccall6_eq hF hc (by rw [canVs_length]; exact hl)]
    rw [hN m (by omega)]
    simp only [Option.bind_some] at h
    rw [h]
    rfl
theorem evW_of {f : Nat} {args : List AV} {objs : List Obj'} {F : Func} {c : Code} {q : AE × List Obj'} (hk : kn f (canVs (ashOf f) args) objs = none) (hF : cfg.G.fn f = some F) (hc : F.body = some c) (hl : Nat.ble args.length F.ntmps = true)
    (h : exec4 cfg.G evW F.ntmps (kpOf f) (loop3 F.ntmps objs.length (kpOf f)) c ⟨numbered 0 (canVs (ashOf f) args), numbered 0 objs, objs.length, []⟩ (fin (kpOf f) F objs.length) = some q) : evW f args objs = some (canE (rshOf f) q) := evW_of0 hk hF hc hl h
theorem evW_awake : evW 14 [] [] = some (.ret (.bool true), []) := evW_runs.2 awake_runs
/-! and back: what some count answers, is answered at last -/
theorem exec6_le4 {R : Type} {nt kn m : Nat} {keep : Keep6} {call : CallF} (H : ∀ f args objs q, call f args objs = some q → evW f args objs = some q) :
    ∀ (c : Code) (st : St) (k k' : AX → St → Option R) (r : R), (∀ e st r, k e st = some r → k' e st = some r) → exec6 ⟨cfg.G, call, nt, m, drawD cfg.G call nt⟩ kn keep c st k = some r →
      exec4 cfg.G evW nt keep (loop3 nt kn keep) c st k' = some r
  | .skip, st, k, k', r, hk, h => hk _ _ _ h
  | .label _, st, k, k', r, hk, h => hk _ _ _ h
  | .exit j, st, k, k', r, hk, h => hk _ _ _ h
  | .ret, st, k, k', r, hk, h => hk _ _ _ h
  | .region id ops draw, st0, k, k', r, hk, h => by
    rw [exec6_region] at h
    unfold exec4
    have H' : ∀ f args objs q, call f args objs = some q → Evt fun _ => evW f args objs = some q := fun f args objs q h => Evt.of fun _ => H f args objs q h
    cases hf : frzTs (keep.frz id) (pickS (keep.live id) st0) with
    | none => simp [hf] at h
    | some st =>
      simp only [hf] at h ⊢
      cases draw with
      | true =>
        simp only [if_true] at h ⊢
        cases hr : drawD cfg.G call nt st.nx ops st.fr st.hp st.df with
        | none => simp [hr] at h
        | some rr =>
          obtain ⟨N, hN⟩ := drawD_evt (fam := fun _ => evW) H' hr
          rw [hN N (Nat.le_refl _)]
          rw [hr] at h
          cases rr <;> exact hk _ _ _ h
      | false =>
        simp only [Bool.false_eq_true, if_false] at h ⊢
        cases hr : runR cfg.G call nt st.nx ops (List.range ops.size) st.fr st.hp st.df with
        | none => simp [hr] at h
        | some rr =>
          obtain ⟨N, hN⟩ := runR_evt (fam := fun _ => evW) H' _ _ _ _ hr
          rw [hN N (Nat.le_refl _)]
          rw [hr] at h
          cases rr <;> exact hk _ _ _ h
  | .seq a b, st, k, k', r, hk, h => by
    rw [exec6_seq] at h
    unfold exec4
    refine exec6_le4 H a st _ _ r ?_ h
    intro e st r h
    cases e with
    | normal => exact exec6_le4 H b st k k' r hk h
    | exit j => exact hk _ _ _ h
    | ret => exact hk _ _ _ h
    | pan v => exact hk _ _ _ h
  | .cond c x y, st, k, k', r, hk, h => by
    rw [exec6_cond] at h
    unfold exec4
    cases hc : opv st.fr c with
    | none => simp [hc] at h
    | some v =>
      rw [hc] at h
      cases v
      case bool t =>
        cases t with
        | true =>
          simp only [if_true] at h ⊢
          exact exec6_le4 H x st k k' r hk h
        | false =>
          simp only [Bool.false_eq_true, if_false] at h ⊢
          exact exec6_le4 H y st k k' r hk h
      all_goals (simp at h)
  | .block id c, st, k, k', r, hk, h => by
    rw [exec6_block] at h
    unfold exec4
    refine exec6_le4 H c st _ _ r ?_ h
    intro e st r h
    cases e with
    | exit j =>
      simp only at h ⊢
      cases hj : Nat.beq j id with
      | true =>
        simp only [hj, if_true] at h ⊢
        exact hk _ _ _ h
      | false =>
        simp only [hj, Bool.false_eq_true, if_false] at h ⊢
        exact hk _ _ _ h
    | normal => exact hk _ _ _ h
    | ret => exact hk _ _ _ h
    | pan v => exact hk _ _ _ h
  | .loop c, st, k, k', r, hk, h => by
    unfold exec4
    have key : ∀ (j : Nat) (st : St) (r : R), loop2 (normSt kn (keep.keep (firstId c))) (fun st k => exec6 ⟨cfg.G, call, nt, m, drawD cfg.G call nt⟩ kn keep c st k) j st k = some r → loop3 nt kn keep c st k' = some r := by
      intro j
      induction j with
      | zero => intro st r h; cases h
      | succ j ih =>
        intro st r h
        unfold loop2 at h
        refine loop3_round ?_
        cases hn : normSt kn (keep.keep (firstId c)) st with
        | none => simp [hn] at h
        | some st0 =>
          simp only [hn] at h ⊢
          refine exec6_le4 H c st0 _ _ r ?_ h
          intro e st r h
          cases e with
          | normal => exact ih _ _ h
          | exit j => exact hk _ _ _ h
          | ret => exact hk _ _ _ h
          | pan v => exact hk _ _ _ h
    exact key _ _ _ h
  | .rangeFunc .., st, k, k', r, hk, h => by cases h
  | .scope .., st, k, k', r, hk, h => by cases h
  | .goto .., st, k, k', r, hk, h => by cases h
  | .refuse .., st, k, k', r, hk, h => by cases h
theorem ev_le : ∀ (n f : Nat) (args : List AV) (objs : List Obj') (q : AE × List Obj'), ev n f args objs = some q → evW f args objs = some q := by
  intro n
  induction n with
  | zero => intro f args objs q h; cases h
  | succ n ih =>
    intro f args objs q h
    unfold ev at h
    cases hk : kn f (canVs (ashOf f) args) objs with
    | some p =>
      rw [hk] at h
      refine lim_some.2 ⟨1, fun m hm => ?_⟩
      obtain ⟨m', rfl⟩ : ∃ m', m = m' + 1 := ⟨m - 1, by omega⟩
      unfold ev
      rw [hk]
      exact h
    | none =>
      rw [hk] at h
      simp only [Option.map_eq_some_iff] at h
      obtain ⟨q0, h, rfl⟩ := h
      unfold ccall6 at h
      have hG : (cfg.upto n).G = cfg.G := rfl
      rw [hG] at h
      cases hF : cfg.G.fn f with
      | none => simp [hF] at h
      | some F =>
        simp only [hF] at h
        cases hc : F.body with
        | none => simp [hc] at h
        | some c =>
          simp only [hc] at h
          have hpu : cfg.G.pu f = none := rfl
          simp only [hpu] at h
          split at h
          · rename_i hl
            rw [canVs_length] at hl
            have hl' := Nat.ble_eq_true_of_le hl
            have h4 : exec4 cfg.G evW F.ntmps (kpOf f) (loop3 F.ntmps objs.length (kpOf f)) c ⟨numbered 0 (canVs (ashOf f) args), numbered 0 objs, objs.length, []⟩ (fin (kpOf f) F objs.length) = some q0 :=
              exec6_le4 (m := n) (call := ev n) ih c _ _ _ q0 (fun _ _ _ h => h) h
            exact evW_of0 hk hF hc hl' h4
          · cases h
/-- A function's call, at last: what its body does. -/
theorem evW_eq {f : Nat} {args : List AV} {objs : List Obj'} {F : Func} {c : Code} (hk : kn f (canVs (ashOf f) args) objs = none) (hF : cfg.G.fn f = some F) (hc : F.body = some c) (hl : Nat.ble args.length F.ntmps = true) :
    evW f args objs = (exec4 cfg.G evW F.ntmps (kpOf f) (loop3 F.ntmps objs.length (kpOf f)) c ⟨numbered 0 (canVs (ashOf f) args), numbered 0 objs, objs.length, []⟩ (fin (kpOf f) F objs.length)).map (canE (rshOf f)) := by
  cases h : evW f args objs with
  | some q =>
    obtain ⟨N, hN⟩ := lim_some.1 h
    have h1 := hN (N + 1) (Nat.le_succ _)
    unfold ev at h1
    rw [hk] at h1
    simp only [Option.map_eq_some_iff] at h1
    obtain ⟨q0, h1, rfl⟩ := h1
    rw [ccall6_eq hF hc (by rw [canVs_length]; exact hl)] at h1
    rw [exec6_le4 (m := N) (call := ev N) (ev_le N) c _ _ _ q0 (fun _ _ _ h => h) h1]
    rfl
  | none =>
    cases h4 : exec4 cfg.G evW F.ntmps (kpOf f) (loop3 F.ntmps objs.length (kpOf f)) c ⟨numbered 0 (canVs (ashOf f) args), numbered 0 objs, objs.length, []⟩ (fin (kpOf f) F objs.length) with
    | none => rfl
    | some q =>
      rw [evW_of hk hF hc hl h4] at h
      cases h
/-- Arguments are read as they are handed over. -/
theorem evW_canon {f : Nat} {args : List AV} {objs : List Obj'} : evW f args objs = evW f (canVs (ashOf f) args) objs := by
  have e : ∀ n, ev n f args objs = ev n f (canVs (ashOf f) args) objs := by
    intro n
    cases n with
    | zero => rfl
    | succ n =>
      unfold ev
      rw [canVs_canVs]
  unfold evW
  rw [show (fun n => ev n f args objs) = fun n => ev n f (canVs (ashOf f) args) objs from funext e]
/-- What is known. -/
theorem evW_kn {f : Nat} {args : List AV} {objs : List Obj'} {q : AE × List Obj'} (h : kn f (canVs (ashOf f) args) objs = some q) : evW f args objs = some (canE (rshOf f) q) := lim_some.2 ⟨1, fun n hn => by
  obtain ⟨m, rfl⟩ : ∃ m, n = m + 1 := ⟨n - 1, by omega⟩
  unfold ev
  rw [h]
  rfl⟩
/-- A loop is a round, and the loop: both ways. -/
theorem loop3_eq {R : Type} {nt kn : Nat} {keep : Keep6} {c : Code} {st : St} {k : AX → St → Option R} : loop3 nt kn keep c st k = match normSt kn (keep.keep (firstId c)) st with
    | none => none
    | some st0 => exec4 cfg.G evW nt keep (loop3 nt kn keep) c st0 (fun e st' => match e with
      | .normal => loop3 nt kn keep c st' k
      | e => k e st') := by
  cases hL : loop3 nt kn keep c st k with
  | none =>
    generalize hx : (match normSt kn (keep.keep (firstId c)) st with
      | none => none
      | some st0 => exec4 cfg.G evW nt keep (loop3 nt kn keep) c st0 (fun e st' => match e with
        | .normal => loop3 nt kn keep c st' k
        | e => k e st')) = x
    cases x with
    | none => rfl
    | some r =>
      rw [loop3_round hx] at hL
      cases hL
  | some r =>
    have hL0 := hL
    unfold loop3 exec3 runW at hL
    cases hl : (lim fun n => loopD (normSt kn (keep.keep (firstId c))) (runW nt kn keep c) n st) with
    | none => simp [hl] at hL
    | some q =>
      rw [hl] at hL
      simp only [Option.bind_some] at hL
      obtain ⟨N, hN⟩ := lim_some.1 hl
      have h1 := hN (N + 1) (Nat.le_succ _)
      unfold loopD at h1
      cases hn : normSt kn (keep.keep (firstId c)) st with
      | none => simp [hn] at h1
      | some st0 =>
        simp only [hn] at h1 ⊢
        cases hb : runW nt kn keep c st0 with
        | none => simp [hb] at h1
        | some p =>
          obtain ⟨e, st'⟩ := p
          rw [hb] at h1
          rw [← exec3_eq4]
          unfold exec3
          rw [hb]
          simp only [Option.bind_some]
          cases e with
          | normal =>
            have hl2 : (lim fun n => loopD (normSt kn (keep.keep (firstId c))) (runW nt kn keep c) n st') = some q := lim_some.2 ⟨N, fun n hn' => by
              have h2 := hN (n + 1) (by omega)
              unfold loopD at h2
              simp only [hn, hb] at h2
              exact h2⟩
            simp only
            unfold loop3 exec3 runW
            rw [hl2]
            exact hL.symm
          | exit j =>
            simp only [Option.some.injEq] at h1
            subst h1
            exact hL.symm
          | ret =>
            simp only [Option.some.injEq] at h1
            subst h1
            exact hL.symm
          | pan v =>
            simp only [Option.some.injEq] at h1
            subst h1
            exact hL.symm
end Go.Proofs.YtdhcgankmhpgeaaGreat.M
/- R, the fourth text: one function at symbolic values: what simp walks by. -/
namespace Go.Proofs.YtdhcgankmhpgeaaGreat.M
open Go
set_option linter.unusedVariables false
set_option linter.unusedSimpArgs false
abbrev K (R : Type) := AX → St → Option R
/-- A function's frame: how many temporaries, how many keys came in, what is kept. -/
structure FX where
  nt : Nat
  kn : Nat
  keep : Keep6
  tab : Nat → List (List Nat × List Nat)
/-- What must be there first. -/
def ob {A B : Type} (o : Option A) (f : A → Option B) : Option B := o.bind f
theorem ob_congr {A B : Type} {o o' : Option A} {f : A → Option B} (h : o = o') : ob o f = ob o' f := by rw [h]
theorem ob_some {A B : Type} {a : A} {f : A → Option B} : ob (some a) f = f a := rfl
/-- A choice on what may not be known. -/
def br {A : Type} (b : Bool) (x y : A) : A := match b with
  | true => x
  | false => y
theorem br_true {A : Type} {x y : A} : br true x y = x := rfl
theorem br_false {A : Type} {x y : A} : br false x y = y := rfl
theorem br_not {A : Type} {b : Bool} {x y : A} : br (!b) x y = br b y x := by cases b <;> rfl
theorem br_congr {A : Type} {b b' : Bool} {x x' y y' : A} (h : b = b') (h1 : b' = true → x = x') (h2 : b' = false → y = y') : br b x y = br b' x' y' := by
  subst h
  cases b with
  | true => exact h1 rfl
  | false => exact h2 rfl
theorem br_eq {A : Type} {b : Bool} {x y r : A} : (br b x y = r) = br b (x = r) (y = r) := by cases b <;> rfl
theorem br_same {A : Type} {b : Bool} {x : A} : br b x x = x := by cases b <;> rfl
def cnd {A : Type} (v : Option AV) (x y : Option A) : Option A := match v with
  | some (.bool t) => br t x y
  | _ => none
theorem cnd_congr {A : Type} {v v' : Option AV} {x y : Option A} (h : v = v') : cnd v x y = cnd v' x y := by rw [h]
theorem cnd_bool {A : Type} {t : Bool} {x y : Option A} : cnd (some (.bool t)) x y = br t x y := rfl
def gdK {A : Type} (w : Bool) (v : Option AV) (x y : Option A) : Option A := match v with
  | some (.bool b) => if w then br b x y else br b y x
  | some (.tup []) => y
  | _ => none
theorem gdK_congr {A : Type} {w : Bool} {v v' : Option AV} {x y : Option A} (h : v = v') : gdK w v x y = gdK w v' x y := by rw [h]
theorem gdK_t {A : Type} {b : Bool} {x y : Option A} : gdK true (some (.bool b)) x y = br b x y := rfl
theorem gdK_f {A : Type} {b : Bool} {x y : Option A} : gdK false (some (.bool b)) x y = br b y x := rfl
theorem gdK_u {A : Type} {w : Bool} {x y : Option A} : gdK w (some (.tup [])) x y = y := rfl
section
variable {R : Type}
def clF (fv : AV) : Option (Nat × List AV) := match fv with
  | .fn g caps => some (g, caps)
  | _ => none
theorem clF_fn {g : Nat} {caps : List AV} : clF (.fn g caps) = some (g, caps) := rfl
def clK (q : Option (AE × Hp)) (f g : AV → Hp → Option R) : Option R := match q with
  | some (.ret v, up) => f v up
  | some (.pan v, up) => g v up
  | none => none
theorem clK_congr {q q' : Option (AE × Hp)} {f g : AV → Hp → Option R} (h : q = q') : clK q f g = clK q' f g := by rw [h]
theorem clK_ret {v : AV} {up : Hp} {f g : AV → Hp → Option R} : clK (some (.ret v, up)) f g = f v up := rfl
theorem clK_pan {v : AV} {up : Hp} {f g : AV → Hp → Option R} : clK (some (.pan v, up)) f g = g v up := rfl
def panD (x : AV) : Option AV := match x with
  | .ifc t v => some (.ifc t v)
  | _ => none
end
def app (up hp : Hp) : Hp := up ++ hp
def ob2 {A B C : Type} (o : Option (A × B)) (f : A → B → Option C) : Option C := ob o fun q => f q.1 q.2
theorem ob2_congr {A B C : Type} {o o' : Option (A × B)} {f : A → B → Option C} (h : o = o') : ob2 o f = ob2 o' f := by rw [h]
theorem ob2_some {A B C : Type} {a : A} {b : B} {f : A → B → Option C} : ob2 (some (a, b)) f = f a b := rfl
/-! one operation, with what comes behind it -/
section
variable {R : Type} {ops : Array Oper} {base : Nat} {fr : Fr} {hp : Hp} {df : Df} {ty : TypeId} {pos : String} {af : Array Edge} {dst : Option Nat} {f g : AV → Hp → Option R} {h : Nat × List AV → Option R}
noncomputable def stp (base : Nat) (ops : Array Oper) (o : Oper) (fr : Fr) (hp : Hp) (f g : AV → Hp → Option R) (h : Nat × List AV → Option R) : Option R :=
  match wantD ops o fr with
  | none => none
  | some false => f (.tup []) []
  | some true => match o.op with
    | .call { callee := .value c, args, .. } => ob (opv fr c) fun fv => ob (argsD fr args.toList) fun l => ob (clF fv) fun q => clK (callD evW base q.1 (l ++ q.2) hp) f g
    | .defer { callee := .value c, args, .. } => ob (opv fr c) fun fv => ob (argsD fr args.toList) fun l => ob (clF fv) fun q => h (q.1, l ++ q.2)
    | .panic x => ob (opv fr x) fun v => ob (panD v) fun v => g v []
    | _ => ob (opD cfg.G base o fr hp) fun q => f q.1 q.2
theorem opD_guard {G : Gl} {op : Op} {gd : Option (Nat × Bool)} : opD G base ⟨dst, op, ty, pos, af, gd⟩ fr hp = opD G base ⟨dst, op, ty, pos, af, none⟩ fr hp := by
  unfold opD
  rfl
theorem stp_guard {op : Op} {j : Nat} {w : Bool} : stp base ops ⟨dst, op, ty, pos, af, some (j, w)⟩ fr hp f g h =
    gdK w (ob ((ops[j]?).bind (·.dst)) fun t => look t fr) (stp base ops ⟨dst, op, ty, pos, af, none⟩ fr hp f g h) (f (.tup []) []) := by
  have e : ∀ b, wantD ops ⟨dst, op, ty, pos, af, some (j, w)⟩ fr = some b → stp base ops ⟨dst, op, ty, pos, af, some (j, w)⟩ fr hp f g h = if b then stp base ops ⟨dst, op, ty, pos, af, none⟩ fr hp f g h else f (.tup []) [] := by
    intro b hb
    unfold stp
    rw [hb]
    cases b with
    | false => rfl
    | true =>
      simp only [wantD, if_true]
      rw [opD_guard]
  have en : wantD ops ⟨dst, op, ty, pos, af, some (j, w)⟩ fr = none → stp base ops ⟨dst, op, ty, pos, af, some (j, w)⟩ fr hp f g h = none := by
    intro hb
    unfold stp
    rw [hb]
  simp only [wantD] at e en
  cases ht : (ops[j]?).bind (·.dst) with
  | none => exact en (by rw [ht])
  | some t =>
    simp only [ob_some]
    cases hv : look t fr with
    | none => exact en (by rw [ht]; simp only [hv])
    | some v =>
      cases v with
      | bool b =>
        rw [e (b == w) (by rw [ht]; simp only [hv])]
        cases b <;> cases w <;> rfl
      | tup l =>
        cases l with
        | nil => rw [e false (by rw [ht]; simp only [hv])]; rfl
        | cons x l => rw [en (by rw [ht]; simp only [hv])]; rfl
      | _ => rw [en (by rw [ht]; simp only [hv])]; rfl
theorem stp_of {op : Op} {o : Option AV} (ho : opD cfg.G base ⟨dst, op, ty, pos, af, none⟩ fr hp = o.map (·, [])) (h1 : ∀ c, op ≠ .call c) (h2 : ∀ c, op ≠ .defer c) (h3 : ∀ x, op ≠ .panic x) :
    stp base ops ⟨dst, op, ty, pos, af, none⟩ fr hp f g h = ob o fun v => f v [] := by
  unfold stp
  simp only [wantD]
  cases op <;> first | (exfalso; exact h1 _ rfl) | (exfalso; exact h2 _ rfl) | (exfalso; exact h3 _ rfl) | skip
  all_goals simp only [ho]
  all_goals (cases o <;> rfl)
theorem stp_op {op : Op} (h1 : ∀ c, op ≠ .call c) (h2 : ∀ c, op ≠ .defer c) (h3 : ∀ x, op ≠ .panic x) :
    stp base ops ⟨dst, op, ty, pos, af, none⟩ fr hp f g h = ob (opD cfg.G base ⟨dst, op, ty, pos, af, none⟩ fr hp) fun q => f q.1 q.2 := by
  unfold stp
  simp only [wantD]
  cases op <;> first | (exfalso; exact h1 _ rfl) | (exfalso; exact h2 _ rfl) | (exfalso; exact h3 _ rfl) | rfl
theorem ob_map {A B : Type} {o : Option A} {f : A → B} {g : B → Option R} : ob (o.map f) g = ob o fun a => g (f a) := by cases o <;> rfl
theorem ob_bind {A B : Type} {o : Option A} {f : A → Option B} {g : B → Option R} : ob (o.bind f) g = ob o fun a => ob (f a) g := by cases o <;> rfl
theorem st_move {x : Operand} : stp base ops ⟨dst, .move x, ty, pos, af, none⟩ fr hp f g h = ob (opv fr x) fun v => f v [] := stp_of rfl (by simp) (by simp) (by simp)
theorem st_assign {x : Operand} : stp base ops ⟨dst, .assign x, ty, pos, af, none⟩ fr hp f g h = ob (opv fr x) fun v => f v [] := stp_of rfl (by simp) (by simp) (by simp)
def pickD (c : AV) : Option Bool := match c with
  | .bool t => some t
  | _ => none
theorem pickD_bool {t : Bool} : pickD (.bool t) = some t := rfl
theorem st_pick {c a b : Operand} : stp base ops ⟨dst, .pick c a b, ty, pos, af, none⟩ fr hp f g h = ob (opv fr c) fun c => ob (pickD c) fun t => br t (ob (opv fr a) fun v => f v []) (ob (opv fr b) fun v => f v []) := by
  rw [stp_of (o := match opv fr c with | some (.bool t) => opv fr (if t then a else b) | _ => none) (by
    simp only [opD]
    cases opv fr c with
    | none => rfl
    | some v => cases v <;> rfl) (by simp) (by simp) (by simp)]
  cases opv fr c with
  | none => rfl
  | some v =>
    cases v <;> try rfl
    rename_i t
    cases t <;> rfl
theorem st_binOp {op : BinOp} {T U : TypeId} {x y : Operand} : stp base ops ⟨dst, .binOp op T x y U, ty, pos, af, none⟩ fr hp f g h = ob (opv fr x) fun a => ob (opv fr y) fun b => ob (binD cfg.G op T a b) fun v => f v [] := by
  rw [stp_of (o := (opv fr x).bind fun a => (opv fr y).bind fun b => binD cfg.G op T a b) (by
    simp only [opD]
    cases opv fr x with
    | none => rfl
    | some a => cases opv fr y <;> rfl) (by simp) (by simp) (by simp)]
  try simp only [ob_bind]
theorem st_unOp {op : UnOp} {T : TypeId} {x : Operand} : stp base ops ⟨dst, .unOp op T x, ty, pos, af, none⟩ fr hp f g h = ob (opv fr x) fun a => ob (unD op a) fun v => f v [] := by
  rw [stp_of (o := (opv fr x).bind (unD op)) (rfl) (by simp) (by simp) (by simp)]
  try simp only [ob_bind]
theorem st_convert {S T : TypeId} {x : Operand} : stp base ops ⟨dst, .convert S T x, ty, pos, af, none⟩ fr hp f g h = ob (opv fr x) fun a => ob (convD cfg.G S T a) fun v => f v [] := by
  rw [stp_of (o := (opv fr x).bind (convD cfg.G S T)) (rfl) (by simp) (by simp) (by simp)]
  try simp only [ob_bind]
theorem st_build {T : TypeId} {ps : Array (Nat × Operand)} : stp base ops ⟨dst, .build T ps, ty, pos, af, none⟩ fr hp f g h = ob (partsD fr ps.toList) fun a => ob (buildD cfg.G T a) fun v => f v [] := by
  rw [stp_of (o := (partsD fr ps.toList).bind (buildD cfg.G T)) (rfl) (by simp) (by simp) (by simp)]
  try simp only [ob_bind]
theorem st_load {T : TypeId} {x : Operand} : stp base ops ⟨dst, .load T x, ty, pos, af, none⟩ fr hp f g h = ob (opv fr x) fun a => ob (loadD cfg.G hp T a) fun v => f v [] := by
  rw [stp_of (o := (opv fr x).bind (loadD cfg.G hp T)) (rfl) (by simp) (by simp) (by simp)]
  try simp only [ob_bind]
def nilD (x : AV) : Option AV := match x with
  | .ptr b f => some (.ptr b f)
  | .rp b i f => some (.rp b i f)
  | .ep cs => some (.ep cs)
  | .fn f cs => some (.fn f cs)
  | _ => none
theorem nilD_ptr {b o : Nat} : nilD (.ptr b o) = some (.ptr b o) := rfl
theorem nilD_rp {b i o : Nat} : nilD (.rp b i o) = some (.rp b i o) := rfl
theorem nilD_ep {cs : List AV} : nilD (.ep cs) = some (.ep cs) := rfl
theorem nilD_fn {n : Nat} {cs : List AV} : nilD (.fn n cs) = some (.fn n cs) := rfl
theorem st_nilCheck {x : Operand} : stp base ops ⟨dst, .nilCheck x, ty, pos, af, none⟩ fr hp f g h = ob (opv fr x) fun a => ob (nilD a) fun v => f v [] := by
  rw [stp_of (o := (opv fr x).bind nilD) (by
    simp only [opD]
    cases opv fr x with
    | none => rfl
    | some v => cases v <;> rfl) (by simp) (by simp) (by simp)]
  try simp only [ob_bind]
theorem st_fieldAddr {S : TypeId} {x : Operand} {n : Nat} : stp base ops ⟨dst, .fieldAddr S x n, ty, pos, af, none⟩ fr hp f g h = ob (opv fr x) fun a => ob (fieldAddrD cfg.G S a n) fun v => f v [] := by
  rw [stp_of (o := (opv fr x).bind (fieldAddrD cfg.G S · n)) (rfl) (by simp) (by simp) (by simp)]
  try simp only [ob_bind]
theorem st_field {S : TypeId} {x : Operand} {n : Nat} : stp base ops ⟨dst, .field S x n, ty, pos, af, none⟩ fr hp f g h = ob (opv fr x) fun a => ob (fieldD cfg.G S a n) fun v => f v [] := by
  rw [stp_of (o := (opv fr x).bind (fieldD cfg.G S · n)) (rfl) (by simp) (by simp) (by simp)]
  try simp only [ob_bind]
theorem st_indexAddr {T : TypeId} {x y : Operand} : stp base ops ⟨dst, .indexAddr T x y, ty, pos, af, none⟩ fr hp f g h = ob (opv fr x) fun a => ob (opv fr y) fun b => ob (indexAddrD cfg.G hp T a b) fun v => f v [] := by
  rw [stp_of (o := (opv fr x).bind fun a => (opv fr y).bind fun b => indexAddrD cfg.G hp T a b) (by
    simp only [opD]
    cases opv fr x with
    | none => rfl
    | some a => cases opv fr y <;> rfl) (by simp) (by simp) (by simp)]
  try simp only [ob_bind]
theorem st_index {T : TypeId} {x y : Operand} : stp base ops ⟨dst, .index T x y, ty, pos, af, none⟩ fr hp f g h = ob (opv fr x) fun a => ob (opv fr y) fun b => ob (indexD cfg.G T a b) fun v => f v [] := by
  rw [stp_of (o := (opv fr x).bind fun a => (opv fr y).bind fun b => indexD cfg.G T a b) (by
    simp only [opD]
    cases opv fr x with
    | none => rfl
    | some a => cases opv fr y <;> rfl) (by simp) (by simp) (by simp)]
  try simp only [ob_bind]
def extractD (t : AV) (n : Nat) : Option AV := match t with
  | .tup vs => vs[n]?
  | _ => none
theorem extractD_tup {vs : List AV} {n : Nat} : extractD (.tup vs) n = vs[n]? := rfl
theorem st_extract {x : Operand} {n : Nat} : stp base ops ⟨dst, .extract x n, ty, pos, af, none⟩ fr hp f g h = ob (opv fr x) fun a => ob (extractD a n) fun v => f v [] := by
  rw [stp_of (o := (opv fr x).bind (extractD · n)) (by
    simp only [opD]
    cases opv fr x with
    | none => rfl
    | some v => cases v <;> rfl) (by simp) (by simp) (by simp)]
  try simp only [ob_bind]
noncomputable def mkIfD (T : Nat) (v : AV) : Option AV := match cfg.G.ty T with
  | some { desc := .int _, .. } => some (.ifc T v)
  | some { desc := .string, .. } => some (.ifc T v)
  | _ => none
theorem st_makeInterface {T : TypeId} {x : Operand} : stp base ops ⟨dst, .makeInterface T x, ty, pos, af, none⟩ fr hp f g h = ob (opv fr x) fun a => ob (mkIfD T a) fun v => f v [] := by
  rw [stp_of (o := (opv fr x).bind (mkIfD T)) (by
    simp only [opD]
    cases opv fr x with
    | none => 
      simp only [Option.bind_none, Option.map_none]
      cases cfg.G.ty T with
      | none => rfl
      | some i => obtain ⟨de, _, _, _⟩ := i; cases de <;> rfl
    | some v => 
      simp only [Option.bind_some, mkIfD]
      cases cfg.G.ty T with
      | none => rfl
      | some i => obtain ⟨de, _, _, _⟩ := i; cases de <;> rfl) (by simp) (by simp) (by simp)]
  simp only [ob_bind]
theorem st_makeFunc {n : FuncId} {caps : Array Operand} : stp base ops ⟨dst, .makeFunc (.func n) #[] caps, ty, pos, af, none⟩ fr hp f g h = ob (argsD fr caps.toList) fun l => f (.fn n l) [] := by
  rw [stp_of (o := (argsD fr caps.toList).map (.fn n)) (by
    simp only [opD]
    cases argsD fr caps.toList <;> rfl) (by simp) (by simp) (by simp)]
  simp only [ob_map]
theorem st_store {T : TypeId} {a x : Operand} : stp base ops ⟨dst, .store T a x, ty, pos, af, none⟩ fr hp f g h =
    ob (opv fr a) fun a => ob (opv fr x) fun x => ob (storeD cfg.G hp T a x) fun up => f .undef up := by
  rw [stp_op (by simp) (by simp) (by simp)]
  simp only [opD]
  cases opv fr a with
  | none => rfl
  | some a =>
    cases opv fr x with
    | none => rfl
    | some x => simp only [ob_some, ob_map]
theorem st_alloc {T : TypeId} : stp base ops ⟨dst, .alloc T, ty, pos, af, none⟩ fr hp f g h = ob (cfg.G.ty T) fun t => f (.ptr base 0) [(base, .var T t.zero)] := by
  rw [stp_op (by simp) (by simp) (by simp)]
  simp only [opD, ob_map]
theorem st_box {T : TypeId} {x : Operand} : stp base ops ⟨dst, .box T x, ty, pos, af, none⟩ fr hp f g h = ob (opv fr x) fun v => ob (cellsOf v) fun cs => f (.ptr base 0) [(base, .var T cs)] := by
  rw [stp_op (by simp) (by simp) (by simp)]
  simp only [opD, ob_map, ob_bind]
noncomputable def bsD (T len : Nat) (ps : List (Nat × List AV)) : Option (Nat × Nat × List (List AV)) :=
  match cfg.G.ty T with
  | some { desc := .slice e, .. } => match cfg.G.ty e with
    | some ie => if decide (0 < ie.size) && decide (ie.zero.length = ie.size) && decide (len * ie.size ≤ 100000) then (setAll ie.size (List.replicate len ie.zero) ps).map fun es => (e, ie.size, es) else none
    | none => none
  | _ => none
theorem st_buildSlice {T : TypeId} {n : Nat} {ps : Array (Nat × Operand)} : stp base ops ⟨dst, .buildSlice T n ps, ty, pos, af, none⟩ fr hp f g h = ob (partsD fr ps.toList) fun l => ob (bsD T n l) fun q => f (.row base 0 n) [(base, .arr q.1 q.2.1 q.2.2)] := by
  have e : opD cfg.G base ⟨dst, .buildSlice T n ps, ty, pos, af, none⟩ fr hp = (partsD fr ps.toList).bind fun l => (bsD T n l).map fun q => (.row base 0 n, [(base, .arr q.1 q.2.1 q.2.2)]) := by
    simp only [opD]
    cases partsD fr ps.toList with
    | none => rfl
    | some l =>
      simp only [Option.bind_some, buildSliceD, bsD]
      cases cfg.G.ty T with
      | none => rfl
      | some t =>
        obtain ⟨de, _, _, _⟩ := t
        cases de <;> try rfl
        rename_i e
        simp only
        cases cfg.G.ty e with
        | none => rfl
        | some ie =>
          simp only
          split
          · simp only [Option.map_map]; rfl
          · rfl
  rw [stp_op (by simp) (by simp) (by simp), e]
  simp only [ob_map, ob_bind]
theorem st_makeSlice {T : TypeId} {l c : Operand} : stp base ops ⟨dst, .makeSlice T l c, ty, pos, af, none⟩ fr hp f g h = ob (opv fr l) fun l => ob (opv fr c) fun c => ob2 (makeSliceD cfg.G base T l c) f := by
  rw [stp_op (by simp) (by simp) (by simp)]
  simp only [opD]
  cases opv fr l with
  | none => rfl
  | some a => cases opv fr c <;> rfl
theorem st_slice {T : TypeId} {x : Operand} {lo hi : Option Operand} : stp base ops ⟨dst, .slice T x lo hi none, ty, pos, af, none⟩ fr hp f g h =
    ob (opv fr x) fun a => ob (match lo with | none => some none | some y => (opv fr y).map some) fun l => ob (match hi with | none => some none | some y => (opv fr y).map some) fun u => ob (sliceD cfg.G hp T a l u) fun v => f v [] := by
  rw [stp_of (o := (opv fr x).bind fun a => (match lo with | none => some none | some y => (opv fr y).map some).bind fun l => (match hi with | none => some none | some y => (opv fr y).map some).bind fun u => sliceD cfg.G hp T a l u) (by
    simp only [opD]
    cases opv fr x with
    | none => cases lo <;> cases hi <;> rfl
    | some a =>
      cases lo with
      | none =>
        cases hi with
        | none => rfl
        | some y => simp only [Option.map_some, Option.map_none]; cases opv fr y <;> rfl
      | some z =>
        cases hi with
        | none => simp only [Option.map_some, Option.map_none]; cases opv fr z <;> rfl
        | some y => simp only [Option.map_some]; cases opv fr z <;> cases opv fr y <;> rfl) (by simp) (by simp) (by simp)]
  simp only [ob_bind]
def optV (fr : Fr) (o : Option Operand) : Option (Option AV) := match o with
  | none => some none
  | some y => (opv fr y).map some
theorem optV_none : optV fr none = some none := rfl
theorem optV_some {y : Operand} : optV fr (some y) = ob (opv fr y) fun v => some (some v) := by
  simp only [optV]
  cases opv fr y <;> rfl
theorem st_slice2 {T : TypeId} {x : Operand} {lo hi : Option Operand} : stp base ops ⟨dst, .slice T x lo hi none, ty, pos, af, none⟩ fr hp f g h =
    ob (opv fr x) fun a => ob (optV fr lo) fun l => ob (optV fr hi) fun u => ob (sliceD cfg.G hp T a l u) fun v => f v [] := st_slice
theorem st_lookup {T : TypeId} {m n : Operand} {ok : Bool} : stp base ops ⟨dst, .lookup T m n ok, ty, pos, af, none⟩ fr hp f g h = ob2 (opD cfg.G base ⟨dst, .lookup T m n ok, ty, pos, af, none⟩ fr hp) f := stp_op (by simp) (by simp) (by simp)
theorem st_makeMap {T : TypeId} {n : Option Operand} : stp base ops ⟨dst, .makeMap T n, ty, pos, af, none⟩ fr hp f g h = ob2 (opD cfg.G base ⟨dst, .makeMap T n, ty, pos, af, none⟩ fr hp) f := stp_op (by simp) (by simp) (by simp)
theorem st_mapUpdate {T : TypeId} {m n x : Operand} : stp base ops ⟨dst, .mapUpdate T m n x, ty, pos, af, none⟩ fr hp f g h = ob2 (opD cfg.G base ⟨dst, .mapUpdate T m n x, ty, pos, af, none⟩ fr hp) f := stp_op (by simp) (by simp) (by simp)
theorem stp_blt {b : Builtin} {args : Array Operand} {Ts : Array TypeId} : stp base ops ⟨dst, .call ⟨.builtin b, args, Ts⟩, ty, pos, af, none⟩ fr hp f g h = ob (opD cfg.G base ⟨dst, .call ⟨.builtin b, args, Ts⟩, ty, pos, af, none⟩ fr hp) fun q => f q.1 q.2 := by
  unfold stp
  rfl
theorem st_len {x : Operand} {T : TypeId} : stp base ops ⟨dst, .call ⟨.builtin .len, #[x], #[T]⟩, ty, pos, af, none⟩ fr hp f g h = ob (opv fr x) fun a => ob (lenD cfg.G hp T a) fun v => f v [] := by
  rw [stp_blt]
  simp only [opD, ob_map, ob_bind]
def mmD (big : Bool) (l : List AV) : Option AV := match l with
  | x :: r => maxD big x r
  | [] => none
theorem st_max {xs : Array Operand} {Ts : Array TypeId} : stp base ops ⟨dst, .call ⟨.builtin .max, xs, Ts⟩, ty, pos, af, none⟩ fr hp f g h = ob (argsD fr xs.toList) fun l => ob (mmD true l) fun v => f v [] := by
  rw [stp_blt]
  simp only [opD]
  cases argsD fr xs.toList with
  | none => rfl
  | some l =>
    cases l with
    | nil => rfl
    | cons x r => simp only [ob_map, ob_some, mmD]
theorem st_min {xs : Array Operand} {Ts : Array TypeId} : stp base ops ⟨dst, .call ⟨.builtin .min, xs, Ts⟩, ty, pos, af, none⟩ fr hp f g h = ob (argsD fr xs.toList) fun l => ob (mmD false l) fun v => f v [] := by
  rw [stp_blt]
  simp only [opD]
  cases argsD fr xs.toList with
  | none => rfl
  | some l =>
    cases l with
    | nil => rfl
    | cons x r => simp only [ob_map, ob_some, mmD]
theorem st_append {s x : Operand} {T : TypeId} : stp base ops ⟨dst, .call ⟨.builtin .append, #[s, x], #[T, T]⟩, ty, pos, af, none⟩ fr hp f g h = ob (opv fr s) fun s => ob (opv fr x) fun x => ob2 (appendD cfg.G base hp T s x) f := by
  rw [stp_blt]
  simp only [opD]
  rw [if_pos (Nat.beq_refl T)]
  cases opv fr s with
  | none => rfl
  | some a => cases opv fr x <;> rfl
theorem st_copy {s x : Operand} {T U : TypeId} : stp base ops ⟨dst, .call ⟨.builtin .copy, #[s, x], #[T, U]⟩, ty, pos, af, none⟩ fr hp f g h = ob (opv fr s) fun s => ob (opv fr x) fun x => ob2 (copyD cfg.G hp T s x) f := by
  rw [stp_blt]
  simp only [opD]
  cases opv fr s with
  | none => rfl
  | some a => cases opv fr x <;> rfl
theorem st_call {c : Operand} {args : Array Operand} {at' : Array TypeId} : stp base ops ⟨dst, .call ⟨.value c, args, at'⟩, ty, pos, af, none⟩ fr hp f g h =
    ob (opv fr c) fun fv => ob (argsD fr args.toList) fun l => ob (clF fv) fun q => clK (callD evW base q.1 (l ++ q.2) hp) f g := rfl
theorem st_defer {c : Operand} {args : Array Operand} {at' : Array TypeId} : stp base ops ⟨dst, .defer ⟨.value c, args, at'⟩, ty, pos, af, none⟩ fr hp f g h =
    ob (opv fr c) fun fv => ob (argsD fr args.toList) fun l => ob (clF fv) fun q => h (q.1, l ++ q.2) := rfl
theorem st_panic {x : Operand} : stp base ops ⟨dst, .panic x, ty, pos, af, none⟩ fr hp f g h = ob (opv fr x) fun v => ob (panD v) fun v => g v [] := rfl
theorem panD_ifc {t : Nat} {v : AV} : panD (.ifc t v) = some (.ifc t v) := rfl
end
/-! what is written -/
section
variable {base : Nat} {fr : Fr} {hp : Hp}
def upOK (base : Nat) (hp up : Hp) : Bool := up.all fun q => Nat.beq q.1 base || (look q.1 hp).isSome
theorem upOK_own {base : Nat} {o : Obj'} : upOK base hp [(base, o)] = true := by simp [upOK]
theorem upOK_nil {base : Nat} : upOK base hp [] = true := rfl
theorem upOK_is {base b : Nat} {o o' : Obj'} (h : look b hp = some o) : upOK base hp [(b, o')] = true := by simp [upOK, h]
theorem storeD_up {base T : Nat} {a x : AV} {up : Hp} (h : storeD cfg.G hp T a x = some up) : upOK base hp up = true := by
  unfold storeD at h
  split at h
  · split at h
    · split at h
      · split at h
        · rename_i hl
          split at h
          · injection h with h
            subst h
            exact upOK_is hl
          · cases h
        · cases h
      · split at h
        · rename_i hl
          split at h
          · split at h
            · injection h with h
              subst h
              exact upOK_is hl
            · cases h
          · cases h
        · cases h
      · cases h
    · cases h
  · cases h
theorem appendD_up {base T : Nat} {s x v : AV} {up : Hp} (h : appendD cfg.G base hp T s x = some (v, up)) : upOK base hp up = true := by
  unfold appendD at h
  split at h
  · split at h
    · split at h
      · split at h
        · split at h
          · injection h with h
            injection h with _ h
            subst h
            exact upOK_own
          · cases h
        · split at h
          · rename_i hl
            split at h
            · injection h with h
              injection h with _ h
              subst h
              simp [upOK, hl]
            · cases h
          · cases h
        · cases h
      · cases h
    · cases h
  · cases h
theorem makeSliceD_up {base T : Nat} {l c v : AV} {up : Hp} (h : makeSliceD cfg.G base T l c = some (v, up)) : upOK base hp up = true := by
  unfold makeSliceD at h
  split at h
  · split at h
    · split at h
      · injection h with h
        injection h with _ h
        subst h
        exact upOK_own
      · cases h
    · cases h
  · cases h
theorem up_map {A : Type} {o : Option A} {F : A → AV} {v : AV} {up : Hp} (h : o.map (fun a => (F a, ([] : Hp))) = some (v, up)) : up = [] := by
  obtain ⟨_, _, h2⟩ := Option.map_eq_some_iff.1 h
  injection h2 with _ h2
  exact h2.symm
theorem up_map2 {o : Option AV} {v : AV} {up : Hp} (h : o.map (·, ([] : Hp)) = some (v, up)) : up = [] := by
  obtain ⟨_, _, h2⟩ := Option.map_eq_some_iff.1 h
  injection h2 with _ h2
  exact h2.symm
/-- What may write. -/
def mayW : Op → Bool
  | .alloc _ => true
  | .box _ _ => true
  | .buildSlice _ _ _ => true
  | .store _ _ _ => true
  | .makeSlice _ _ _ => true
  | .makeMap _ _ => true
  | .mapUpdate _ _ _ _ => true
  | .call _ => true
  | _ => false
theorem opD_pure {G : Gl} {o : Oper} {v : AV} {up : Hp} (hm : mayW o.op = false) (h : opD G base o fr hp = some (v, up)) : up = [] := by
  obtain ⟨dst, op, ty, pos, af, gd⟩ := o
  cases op <;> simp only [mayW, Bool.true_eq_false] at hm <;> simp only [opD] at h
  all_goals first | (exact up_map2 h) | (cases h; done) | skip
  case makeFunc fn first cap =>
    cases fn
    case func n =>
      simp only at h
      split at h
      · exact up_map h
      · cases h
    all_goals (cases h)
  case slice T x lo hi mx =>
    cases mx with
    | some m => cases h
    | none =>
      simp only at h
      repeat' (split at h)
      all_goals first | (exact up_map2 h) | (cases h; done)
  all_goals repeat' (split at h)
  all_goals first | (exact up_map2 h) | (cases h; done) | (exact up_map h) | (cases h; rfl) | skip
end
end Go.Proofs.YtdhcgankmhpgeaaGreat.M
