/-
  Code: sequences, tests, blocks, loops, joins. 'vc' is sound.
-/
import Derived.Test.YtcpoglgnkedpaaaGreatDoorVX
import Derived.KernelRfl
import Derived.MapKept
import Derived.Maps.RangeRun
import Derived.Laws.AppendOwn
import Derived.IntWalk
import Derived.ChangeKeysEq
namespace Go.Vc

/-! ### slots that a loop or a join gives on -/
abbrev Mods := List (Nat × Ty)

def projM : (ms : Mods) → Env → Option (Tup (ms.map Prod.snd))
  | [], _ => some ()
  | [(i, t)], env => (match get env i with
    | some v => t.proj v
    | none => none)
  | (i, t) :: m :: r, env => (match get env i with
    | some v => (match t.proj v, projM (m :: r) env with
      | some a, some b => some (a, b)
      | _, _ => none)
    | none => none)

def setM : (ms : Mods) → Tup (ms.map Prod.snd) → Env → Env
  | [], _, env => env
  | [(i, t)], s, env => put1 env i (some (t.mk s))
  | (i, t) :: m :: r, s, env => put1 (setM (m :: r) s.2 env) i (some (t.mk s.1))

def projA : (ms : Mods) → Act → Option (Tup (ms.map Prod.snd))
  | [], _ => some ()
  | [(i, t)], a => (match a.tmps[i]? with
    | some v => t.proj v
    | none => none)
  | (i, t) :: m :: r, a => (match a.tmps[i]? with
    | some v => (match t.proj v, projA (m :: r) a with
      | some x, some y => some (x, y)
      | _, _ => none)
    | none => none)

def kill : List Nat → Env → Env
  | [], env => env
  | d :: r, env => kill r (put1 env d none)

def covers (ds : List Nat) (ms : Mods) (dead : List Nat) : Bool := ds.all fun d => ms.any (fun m => Nat.beq m.1 d) || dead.any (fun m => Nat.beq m d)

theorem projA_of : ∀ {ms : Mods} {env : Env} {a : Act} {s : Tup (ms.map Prod.snd)}, Fits env a → projM ms env = some s → projA ms a = some s
  | [], _, _, _, _, h => h
  | [(i, t)], env, a, s, hf, h => by
    simp only [projM] at h
    split at h
    · rename_i v hv
      simp only [projA, hf.2.2 i v hv]
      exact h
    · cases h
  | (i, t) :: m :: r, env, a, s, hf, h => by
    simp only [projM] at h
    split at h
    · rename_i v hv
      split at h
      · rename_i x y hx hy
        cases h
        simp only [projA, hf.2.2 i v hv, hx, projA_of hf hy]
      · cases h
    · cases h

/-- What the head of a loop knows of a slot comes from the slots given on, or was known before. -/
theorem get_setM : ∀ {ms : Mods} {env e : Env} {s : Tup (ms.map Prod.snd)} {i : Nat} {v : Value}, projM ms env = some s → get (setM ms s e) i = some v →
    get env i = some v ∨ ((∀ m ∈ ms, m.1 ≠ i) ∧ get e i = some v)
  | [], env, e, s, i, v, _, hg => .inr ⟨by simp, hg⟩
  | [(j, t)], env, e, s, i, v, hp, hg => by
    simp only [projM] at hp
    split at hp
    · rename_i u hu
      simp only [setM, get_put1] at hg
      split at hg
      · rename_i hc
        obtain ⟨rfl, _⟩ := hc
        cases hg
        rw [← Ty.proj_mk hp]
        exact .inl hu
      · rename_i hc
        by_cases hji : j = i
        · subst hji
          exact absurd ⟨rfl, get_lt hg⟩ hc
        · exact .inr ⟨by simpa using hji, hg⟩
    · cases hp
  | (j, t) :: m :: r, env, e, s, i, v, hp, hg => by
    simp only [projM] at hp
    split at hp
    · rename_i u hu
      split at hp
      · rename_i x y hx hy
        cases hp
        simp only [setM, get_put1] at hg
        split at hg
        · rename_i hc
          obtain ⟨rfl, _⟩ := hc
          cases hg
          rw [← Ty.proj_mk hx]
          exact .inl hu
        · rename_i hc
          by_cases hji : j = i
          · subst hji
            exact absurd ⟨rfl, get_lt hg⟩ hc
          · rcases get_setM hy hg with h | ⟨h1, h2⟩
            · exact .inl h
            · refine .inr ⟨fun x hx => ?_, h2⟩
              rcases List.mem_cons.1 hx with rfl | hx
              · exact hji
              · exact h1 x hx
      · cases hp
    · cases hp

theorem setM_length : ∀ (ms : Mods) (s : Tup (ms.map Prod.snd)) (e : Env), (setM ms s e).length = e.length
  | [], _, _ => rfl
  | [(i, t)], s, e => by simp [setM, put1_length]
  | (i, t) :: m :: r, s, e => by simp only [setM, put1_length]; exact setM_length (m :: r) s.2 e

theorem kill_length : ∀ (ds : List Nat) (e : Env), (kill ds e).length = e.length
  | [], _ => rfl
  | d :: r, e => by simp only [kill, kill_length r, put1_length]

theorem get_kill : ∀ {ds : List Nat} {e : Env} {i : Nat} {v : Value}, get (kill ds e) i = some v → get e i = some v ∧ i ∉ ds
  | [], _, _, _, h => ⟨h, by simp⟩
  | d :: r, e, i, v, h => by
    obtain ⟨h1, h2⟩ := get_kill (ds := r) h
    rw [get_put1] at h1
    split at h1
    · cases h1
    · rename_i hc
      refine ⟨h1, ?_⟩
      rw [List.mem_cons]
      rintro (rfl | h3)
      · exact hc ⟨rfl, get_lt h1⟩
      · exact h2 h3

/-- The frame at a loop's head, or behind a join. -/
theorem fits_head {ms : Mods} {dead ds : List Nat} {env env' : Env} {a a' : Act} {s : Tup (ms.map Prod.snd)} (hc : covers ds ms dead = true)
    (hk : ∀ i v, get (kill dead env) i = some v → (∀ m ∈ ms, m.1 ≠ i) → a.tmps[i]? = some v) (hlen : env.length = env'.length)
    (hf : Fits env' a') (hs : SameOff ds a a') (hp : projM ms env' = some s) : Fits (setM ms s (kill dead env)) a' := by
  refine ⟨hf.1, by rw [setM_length, kill_length, hlen]; exact hf.2.1, fun i v hi => ?_⟩
  rcases get_setM hp hi with h | ⟨h1, h2⟩
  · exact hf.2.2 i v h
  · rw [hs i ?_]
    · exact hk i v h2 h1
    · intro hi'
      have := List.all_eq_true.1 hc i hi'
      rw [Bool.or_eq_true] at this
      rcases this with h | h
      · obtain ⟨m, hm, he⟩ := List.any_eq_true.1 h
        exact h1 m hm (Nat.eq_of_beq_eq_true he)
      · obtain ⟨m, hm, he⟩ := List.any_eq_true.1 h
        have := Nat.eq_of_beq_eq_true he
        subst this
        exact (get_kill h2).2 hm

/-! ### code with its remarks -/
structure RI where
  hints : Hints
  order : OT
  bars : List Nat

inductive AC where
  | skip | ret
  | label (l : Nat)
  | exit (id : Nat)
  | reg (id : Nat) (ops : Array Oper) (draw : Bool) (ri : RI)
  | seq (a b : AC)
  | cond (c : Operand) (t e : AC)
  | block (id : Nat) (b : AC)
  | loop (ms : Mods) (dead : List Nat) (b : AC)
  | scope (b : AC)
  | join (ms : Mods) (dead : List Nat) (b : AC)

def erase : AC → Code
  | .skip => .skip
  | .ret => .ret
  | .label l => .label l
  | .exit id => .exit id
  | .reg id ops d _ => .region id ops d
  | .seq a b => .seq (erase a) (erase b)
  | .cond c t e => .cond c (erase t) (erase e)
  | .block id b => .block id (erase b)
  | .loop _ _ b => .loop (erase b)
  | .scope b => .scope (erase b)
  | .join _ _ b => erase b

def assigned : AC → List Nat
  | .reg _ ops _ _ => dsts ops
  | .seq a b => assigned a ++ assigned b
  | .cond _ t e => assigned t ++ assigned e
  | .block _ b | .loop _ _ b | .scope b | .join _ _ b => assigned b
  | _ => []

inductive Ex where
  | normal
  | exit (id : Nat)
  | ret

abbrev KE := Ex → Env → World → Prop

/-- A LOOP: what holds at each round's head, and what each round lowers. -/
def loopP {σ : Type} (body : (σ → World → Prop) → σ → World → Prop) (s : σ) (w : World) : Prop :=
  ∃ (I : σ → World → Prop) (m : σ → World → Nat), I s w ∧ ∀ s w, I s w → body (fun s' w' => I s' w' ∧ m s' w' < m s w) s w

/-- WAYS THAT MEET: what holds where they meet. -/
def joinP {σ : Type} (f : (σ → World → Prop) → Prop) (g : σ → World → Prop) : Prop := ∃ J : σ → World → Prop, f J ∧ ∀ s w, J s w → g s w

def vc (T : Tab) (P : Program) : AC → Env → World → KE → Prop
  | .skip, env, w, K => K .normal env w
  | .label _, env, w, K => K .normal env w
  | .ret, env, w, K => K .ret env w
  | .exit id, env, w, K => K (.exit id) env w
  | .reg _ ops d ri, env, w, K =>
    (match d with
    | false => vcReg T P ops ri.hints (List.range ops.size) env w (fun env w => K .normal env w)
    | true => (match regOk T ops ri.order ri.bars with
      | true => vcT T P ops ri.hints ri.order env w.drew [] [] (fun env w => K .normal env w)
      | false => False))
  | .seq a b, env, w, K => vc T P a env w fun e env w =>
      (match e with
      | .normal => vc T P b env w K
      | .exit id => K (.exit id) env w
      | .ret => K .ret env w)
  | .cond c t e, env, w, K => withV (ev env c) fun v => onBool v fun b => cnd b (vc T P t env w K) (vc T P e env w K)
  | .block id b, env, w, K => vc T P b env w fun e env w =>
      (match e with
      | .normal => K .normal env w
      | .exit j => (match Nat.beq j id with
        | true => K .normal env w
        | false => K (.exit j) env w)
      | .ret => K .ret env w)
  | .loop ms dead b, env, w, K =>
    (match covers (assigned b) ms dead with
    | true => withT (projM ms env) fun s => loopP (fun again s w => vc T P b (setM ms s (kill dead env)) w fun e env' w =>
        (match e with
        | .normal => (match Nat.beq env.length env'.length with
          | true => withT (projM ms env') fun s' => again s' w
          | false => False)
        | .exit id => K (.exit id) env' w
        | .ret => K .ret env' w)) s w
    | false => False)
  | .scope b, env, w, K => vc T P b env w K
  | .join ms dead b, env, w, K =>
    (match covers (assigned b) ms dead with
    | true => joinP (fun J => vc T P b env w fun e env' w =>
        (match e with
        | .normal => (match Nat.beq env.length env'.length with
          | true => withT (projM ms env') fun s => J s w
          | false => False)
        | .exit id => K (.exit id) env' w
        | .ret => K .ret env' w)) (fun s w => K .normal (setM ms s (kill dead env)) w)
    | false => False)

/-- What code's run ends in. -/
def CodeQ (ds : List Nat) (a0 : Act) (K : KE) : Exit → Act → World → Prop
  | .normal, a, w => SameOff ds a0 a ∧ ∃ env, Fits env a ∧ K .normal env w
  | .exit id, a, w => SameOff ds a0 a ∧ ∃ env, Fits env a ∧ K (.exit id) env w
  | .ret, a, w => SameOff ds a0 a ∧ ∃ env, Fits env a ∧ K .ret env w
  | _, _, _ => False

section
variable {P : Program} {T : Tab}

theorem CodeQ.noGoto {ds : List Nat} {a0 : Act} {K : KE} {e : Exit} {a : Act} {w : World} (h : CodeQ ds a0 K e a w) : Exit.noGoto (CodeQ ds a0 K) e a w := by
  cases e <;> first | exact h | exact h.elim

theorem vc_sound (hm : P.follows .mixedOrders = true) (hT : TabOk P T) : ∀ (c : AC) (env : Env) (a : Act) (w : World) (K : KE), Fits env a → vc T P c env w K →
    (erase c).wp P (CodeQ (assigned c) a K) a w
  | .skip, env, a, w, K, hf, h => wp_skip ⟨.refl _ _, env, hf, h⟩
  | .label _, env, a, w, K, hf, h => wp_label ⟨.refl _ _, env, hf, h⟩
  | .ret, env, a, w, K, hf, h => wp_ret ⟨.refl _ _, env, hf, h⟩
  | .exit id, env, a, w, K, hf, h => wp_exit ⟨.refl _ _, env, hf, h⟩
  | .reg id ops d ri, env, a, w, K, hf, h => by
    have fin : ∀ e a' w', RegQ ops a (fun env w => K .normal env w) e a' w' → CodeQ (assigned (.reg id ops d ri)) a K e a' w' := by
      intro e a' w' hq
      cases e <;> first | exact hq | exact hq.elim
    simp only [vc] at h
    split at h
    · exact wp_mono (wp_region (vcReg_plain hT _ _ _ _ hf (.refl _ _) h)) fin
    · split at h
      · rename_i M hM
        exact wp_mono (wp_region_any hm (vcReg_drawn hT hM hf h)) fin
      · exact h.elim
  | .seq x y, env, a, w, K, hf, h => by
    refine wp_seq (wp_mono (vc_sound hm hT x env a w _ hf h) fun e a' w' hq => ?_)
    cases e with
    | normal =>
      obtain ⟨hs, env', hf', hk⟩ := hq
      refine wp_mono (vc_sound hm hT y env' a' w' K hf' hk) fun e a'' w'' hq' => ?_
      have up : ∀ {b : Act}, SameOff (assigned y) a' b → SameOff (assigned (.seq x y)) a b := fun hb =>
        (hs.mono fun x hx => List.mem_append_left _ hx).trans (hb.mono fun x hx => List.mem_append_right _ hx)
      cases e <;> first | exact ⟨up hq'.1, hq'.2⟩ | exact hq'.elim
    | exit id => exact ⟨hq.1.mono fun x hx => List.mem_append_left _ hx, hq.2⟩
    | ret => exact ⟨hq.1.mono fun x hx => List.mem_append_left _ hx, hq.2⟩
    | goto l => exact hq.elim
    | panic c => exact hq.elim
    | outgrown => exact hq.elim
  | .cond c x y, env, a, w, K, hf, h => by
    obtain ⟨v, hv, h⟩ := withV_elim h
    obtain ⟨b, rfl, h⟩ := onBool_elim h
    have fin : ∀ {ds : List Nat}, (∀ z ∈ ds, z ∈ assigned (.cond c x y)) → ∀ e a' w', CodeQ ds a K e a' w' → CodeQ (assigned (.cond c x y)) a K e a' w' := by
      intro ds hds e a' w' hq
      cases e <;> first | exact ⟨hq.1.mono hds, hq.2⟩ | exact hq.elim
    cases b
    · exact wp_cond_false (ev_eval hf hv) (wp_mono (vc_sound hm hT y env a w K hf h) (fin fun z hz => List.mem_append_right _ hz))
    · exact wp_cond_true (ev_eval hf hv) (wp_mono (vc_sound hm hT x env a w K hf h) (fin fun z hz => List.mem_append_left _ hz))
  | .block id b, env, a, w, K, hf, h => by
    refine wp_block (wp_mono (vc_sound hm hT b env a w _ hf h) fun e a' w' hq => ?_)
    cases e with
    | normal => exact hq
    | exit j =>
      obtain ⟨hs, env', hf', hk⟩ := hq
      simp only [Exit.inBlock]
      cases hj : Nat.beq j id with
      | true =>
        simp only [hj] at hk
        rw [if_pos (Nat.eq_of_beq_eq_true hj)]
        exact ⟨hs, env', hf', hk⟩
      | false =>
        simp only [hj] at hk
        rw [if_neg (Nat.ne_of_beq_eq_false hj)]
        exact ⟨hs, env', hf', hk⟩
    | ret => exact hq
    | goto l => exact hq.elim
    | panic c => exact hq.elim
    | outgrown => exact hq.elim
  | .loop ms dead b, env, a, w, K, hf, h => by
    simp only [vc] at h
    split at h
    · rename_i hc
      obtain ⟨s, hs, I, m, h0, hr⟩ := withT_elim h
      refine wp_loop (fun a' w' => SameOff (assigned b) a a' ∧ ∃ s, projA ms a' = some s ∧ Fits (setM ms s (kill dead env)) a' ∧ I s w')
        (fun a' w' => match projA ms a' with | some s => m s w' | none => 0) ⟨.refl _ _, s, projA_of hf hs, ?_, h0⟩ ?_
      · exact fits_head hc (fun i v hi _ => hf.2.2 i v (get_kill hi).1) rfl hf (.refl _ _) hs
      · rintro a1 w1 ⟨hsm, s1, hp1, hf1, hI⟩
        refine wp_mono (vc_sound hm hT b _ a1 w1 _ hf1 (hr s1 w1 hI)) fun e a' w' hq => ?_
        cases e with
        | normal =>
          obtain ⟨hsm', env', hf', hk⟩ := hq
          cases hlen : Nat.beq env.length env'.length with
          | false => simp only [hlen] at hk
          | true =>
            simp only [hlen] at hk
            obtain ⟨s', hs', hI', hlt⟩ := withT_elim hk
            have hp' := projA_of hf' hs'
            refine ⟨⟨hsm.trans hsm', s', hp', ?_, hI'⟩, by simp only [hp', hp1]; exact hlt⟩
            exact fits_head (a := a) hc (fun i v hi _ => hf.2.2 i v (get_kill hi).1) (Nat.eq_of_beq_eq_true hlen) hf' (hsm.trans hsm') hs'
        | exit id => exact ⟨hsm.trans hq.1, hq.2⟩
        | ret => exact ⟨hsm.trans hq.1, hq.2⟩
        | goto l => exact hq.elim
        | panic c => exact hq.elim
        | outgrown => exact hq.elim
    · exact h.elim
  | .scope b, env, a, w, K, hf, h => wp_scope_straight (wp_mono (vc_sound hm hT b env a w K hf h) fun _ _ _ hq => CodeQ.noGoto hq)
  | .join ms dead b, env, a, w, K, hf, h => by
    simp only [vc] at h
    split at h
    · rename_i hc
      obtain ⟨J, h1, h2⟩ := h
      refine wp_mono (vc_sound hm hT b env a w _ hf h1) fun e a' w' hq => ?_
      cases e with
      | normal =>
        obtain ⟨hsm', env', hf', hk⟩ := hq
        cases hlen : Nat.beq env.length env'.length with
        | false => simp only [hlen] at hk
        | true =>
          simp only [hlen] at hk
          obtain ⟨s', hs', hJ⟩ := withT_elim hk
          exact ⟨hsm', _, fits_head hc (fun i v hi _ => hf.2.2 i v (get_kill hi).1) (Nat.eq_of_beq_eq_true hlen) hf' hsm' hs', h2 s' w' hJ⟩
      | exit id => exact hq
      | ret => exact hq
      | goto l => exact hq.elim
      | panic c => exact hq.elim
      | outgrown => exact hq.elim
    · exact h.elim

end
end Go.Vc

/-
  Functions: a body's condition gives the call's contract.
-/
namespace Go.Vc

def resOne (T : Tab) (env : Env) (w : World) (r : ResultVar) (t : Ty) (K : t.C → Prop) : Prop :=
  match r with
  | .tmp i => withV (get env i) fun v => withT (t.proj v) K
  | .cell i ty => withV (get env i) fun v => onPtr v fun A => loadK T ty A w fun v _ => withT (t.proj v) K

def resP (T : Tab) (env : Env) (w : World) : List ResultVar → (ts : List Ty) → (Tup ts → Prop) → Prop
  | [], [], K => K ()
  | [r], [t], K => resOne T env w r t K
  | r :: r2 :: rs, t :: u :: ts, K => resOne T env w r t fun c => resP T env w (r2 :: rs) (u :: ts) fun d => K (c, d)
  | _, _, _ => False

/-- A FUNCTION's CONDITION. -/
def vcF (T : Tab) (P : Program) (ac : AC) (ntmps : Nat) (rs : List ResultVar) (args : List Value) (ts : List Ty) (w : World) (K : Tup ts → World → Prop) : Prop :=
  vc T P ac (args.map some ++ List.replicate (ntmps - args.length) (some undef)) w fun e env w =>
    (match e with
    | .exit _ => False
    | .normal => resP T env w rs ts fun c => K c w
    | .ret => resP T env w rs ts fun c => K c w)

section
variable {P : Program} {T : Tab}

def resRun (tmps : Array Value) : ResultVar → Sem Value
  | .tmp t => pure (tmps.getD t undef)
  | .cell a t => do loadVar t (← asAddr (tmps.getD a undef))

theorem resOne_sound (hT : TabOk P T) {env : Env} {a : Act} {w : World} {r : ResultVar} {t : Ty} {K : t.C → Prop} (hf : Fits env a) (h : resOne T env w r t K) :
    ∃ c, (resRun a.tmps r).run P w = .ok (t.mk c) w ∧ K c := by
  unfold resOne at h
  split at h
  · rename_i i
    obtain ⟨v, hv, h⟩ := withV_elim h
    obtain ⟨c, hc, hk⟩ := withT_elim h
    refine ⟨c, ?_, hk⟩
    have h1 := hf.2.2 i v hv
    rw [← Ty.proj_mk hc]
    simp [resRun, h1]
  · rename_i i ty
    obtain ⟨v, hv, h⟩ := withV_elim h
    obtain ⟨A, eA, h8⟩ := onPtr_elim h
    clear h
    subst eA
    obtain ⟨u, st, h1, h2, h3⟩ := loadK_sound hT h8
    obtain ⟨c, hc, hk⟩ := withT_elim h3
    refine ⟨c, ?_, hk⟩
    have h4 := hf.2.2 i _ hv
    have h5 := h1 w h2
    simp only [Instr.loadAt, Instr.sureAddr, Sem.run_bind, Sem.run_pure, Result.andThen_ok] at h5
    rw [← Ty.proj_mk hc]
    simp [resRun, h4, asAddr, h5]

theorem resP_sound (hT : TabOk P T) {env : Env} {a : Act} {w : World} (hf : Fits env a) : ∀ {rs : List ResultVar} {ts : List Ty} {K : Tup ts → Prop}, resP T env w rs ts K →
    ∃ c, (rs.mapM (resRun a.tmps)).run P w = .ok (Tup.vals ts c) w ∧ rs.length = ts.length ∧ K c
  | [], [], K, h => ⟨(), by simp [Tup.vals], rfl, h⟩
  | [r], [t], K, h => by
    obtain ⟨c, hc, hk⟩ := resOne_sound hT hf h
    exact ⟨c, by simp [hc, Tup.vals], rfl, hk⟩
  | r :: r2 :: rs, t :: u :: ts, K, h => by
    obtain ⟨c, hc, h⟩ := resOne_sound hT hf h
    obtain ⟨d, hd, hl, hk⟩ := resP_sound hT hf h
    refine ⟨(c, d), ?_, by simpa using hl, hk⟩
    rw [List.mapM_cons]
    simp only [Sem.run_bind, hc, Result.andThen_ok, hd, Sem.run_pure, Tup.vals]
  | [], _ :: _, _, h => h.elim
  | [_], [], _, h => h.elim
  | _ :: _ :: _, [], _, h => h.elim
  | [_], _ :: _ :: _, _, h => h.elim
  | _ :: _ :: _, [_], _, h => h.elim

theorem Tup.vals_length : ∀ (ts : List Ty) (c : Tup ts), (Tup.vals ts c).length = ts.length
  | [], _ => rfl
  | [_], _ => rfl
  | _ :: u :: r, c => by simp only [Tup.vals, List.length_cons, Tup.vals_length (u :: r) c.2]

theorem results_run {fn : Func} {tmps : Array Value} {w : World} {ts : List Ty} {c : Tup ts} (h : (fn.results.toList.mapM (resRun tmps)).run P w = .ok (Tup.vals ts c) w) :
    (results fn tmps).run P w = .ok (Tup.res ts c) w := by
  have e : (results fn tmps) = (do
      let vs ← fn.results.mapM (resRun tmps)
      pure (if h : vs.size = 1 then vs[0] else .tuple vs)) := by
    unfold results
    congr 1
  rw [e]
  have hm : (fn.results.mapM (resRun tmps)).run P w = .ok (Tup.vals ts c).toArray w := by
    rw [Array.mapM_eq_mapM_toList]
    simp only [Sem.run_map, h, Result.andThen_ok]
  simp only [Sem.run_bind, hm, Result.andThen_ok, Sem.run_pure]
  congr 1
  unfold Tup.res
  match hv : Tup.vals ts c with
  | [] => simp
  | [v] => simp
  | v :: u :: r => simp

/-- THE CONTRACT OF A CALL OUT OF THE BODY's CONDITION. -/
theorem call_of_vcF (hm : P.follows .mixedOrders = true) (hT : TabOk P T) {f : FuncId} {fn : Func} {ac : AC} {args : List Value} {ts : List Ty} {w : World} {K : Tup ts → World → Prop}
    (hf : P.funcs[f]? = some fn) (hb : fn.body = some (erase ac)) (hn : (fn.name == "runtime.NumGoroutine") = false)
    (h : vcF T P ac fn.ntmps fn.results.toList args ts w K) : callP P f args.toArray ts w K := by
  refine .inl ⟨⟨fn, hf, hn, by rw [hb]; rfl⟩, ?_⟩
  refine calls_of_wp hf hb ?_
  have hfit : Fits (args.map some ++ List.replicate (fn.ntmps - args.length) (some undef)) { tmps := args.toArray ++ Array.replicate (fn.ntmps - args.toArray.size) undef, defers := [] } := by
    refine ⟨rfl, by simp, fun i v hi => ?_⟩
    have key : ∀ (l : List Value) (i : Nat) (v : Value), get (l.map some) i = some v → l[i]? = some v := by
      intro l
      induction l with
      | nil => intro i v h; simp [get] at h
      | cons x r ih =>
        intro i v h
        cases i with
        | zero => simpa [get] using h
        | succ i => simpa using ih i v (by simpa [get] using h)
    have e : args.map some ++ List.replicate (fn.ntmps - args.length) (some undef) = (args ++ List.replicate (fn.ntmps - args.length) undef).map some := by simp
    rw [e] at hi
    have := key _ i v hi
    have e2 : args.toArray ++ Array.replicate (fn.ntmps - args.toArray.size) undef = (args ++ List.replicate (fn.ntmps - args.length) undef).toArray := by simp
    rw [e2]
    simpa using this
  refine wp_mono (vc_sound hm hT ac _ _ w _ hfit h) fun e a' w' hq => ?_
  have fin : ∀ {env : Env}, Fits env a' → resP T env w' fn.results.toList ts (fun c => K c w') → a'.defers = [] ∧ ∃ v, (results fn a'.tmps).run P w' = .ok v w' ∧ ∃ c, Ending.returned v = .returned (Tup.res ts c) ∧ K c w' := by
    intro env hfe hr
    obtain ⟨c, hc, _, hk⟩ := resP_sound hT hfe hr
    exact ⟨hfe.1, _, results_run hc, c, rfl, hk⟩
  cases e with
  | normal =>
    obtain ⟨_, env, hfe, hk⟩ := hq
    exact fin hfe hk
  | ret =>
    obtain ⟨_, env, hfe, hk⟩ := hq
    exact fin hfe hk
  | exit id =>
    obtain ⟨_, env, hfe, hk⟩ := hq
    exact hk.elim
  | goto l => exact hq.elim
  | panic c => exact hq.elim
  | outgrown => exact hq.elim

end
end Go.Vc

/-
  How a function's code takes its remarks; a function's condition.
-/
namespace Go.Vc

inductive An where
  | reg (ri : RI)
  | loop (ms : Mods) (dead : List Nat)
  | join (ms : Mods) (dead : List Nat)
  | nop

def wrapJ (l : List An) (k : List An → (AC → AC) → AC) : AC :=
  match l with
  | .join ms dead :: l => k l (.join ms dead)
  | .nop :: l => k l id
  | l => k l id

/-- Code with its remarks, taken in the order of the text. -/
def annot : Code → List An → (AC → List An → AC) → AC
  | .skip, l, k => k .skip l
  | .ret, l, k => k .ret l
  | .label n, l, k => k (.label n) l
  | .exit n, l, k => k (.exit n) l
  | .region id ops d, l, k => wrapJ l fun l j => (match l with
    | .reg ri :: l => k (j (.reg id ops d ri)) l
    | l => k (j (.reg id ops d ⟨[], .done, []⟩)) l)
  | .seq a b, l, k => annot a l fun a l => annot b l fun b l => k (.seq a b) l
  | .cond c t e, l, k => wrapJ l fun l j => annot t l fun t l => annot e l fun e l => k (j (.cond c t e)) l
  | .block id b, l, k => wrapJ l fun l j => annot b l fun b l => k (j (.block id b)) l
  | .loop b, l, k => wrapJ l fun l j => (match l with
    | .loop ms dead :: l => annot b l fun b l => k (j (.loop ms dead b)) l
    | l => annot b l fun b l => k (j (.loop [] [] b)) l)
  | .scope b, l, k => annot b l fun b l => k (.scope b) l
  | _, l, k => k .skip l

def acOf (f : Func) (l : List An) : AC :=
  match f.body with
  | some c => annot c l fun ac _ => ac
  | none => .skip

/-- A FUNCTION's CONDITION. -/
def FOf (T : Tab) (P : Program) (f : Func) (l : List An) (args : List Value) (ts : List Ty) (w : World) (K : Tup ts → World → Prop) : Prop :=
  vcF T P (acOf f l) f.ntmps f.results.toList args ts w K

theorem call_of_F {T : Tab} {P : Program} (hm : P.follows .mixedOrders = true) (hT : TabOk P T) {n : FuncId} {f : Func} {l : List An} {args : List Value} {ts : List Ty} {w : World} {K : Tup ts → World → Prop}
    (hf : P.funcs[n]? = some f) (hb : f.body = some (erase (acOf f l))) (hn : (f.name == "runtime.NumGoroutine") = false) {F : Prop} (hF : F = FOf T P f l args ts w K) (h : F) : callP P n args.toArray ts w K :=
  call_of_vcF hm hT hf hb hn (show FOf T P f l args ts w K from hF ▸ h)

theorem TIok.of {P : Program} {t : TypeId} {x : TI} (h1 : (P.info? t).map (fun i => (i.size, i.bytes, i.zero)) = some (x.size, x.bytes, some x.zero))
    (h2 : (P.underlying t).map (fun d => (shOf d, x.ty.fit x.size (isAggD d))) = some (x.sh, true)) : TIok P t x := by
  constructor
  · cases h : P.info? t with
    | none => rw [h] at h1; cases h1
    | some i =>
      rw [h] at h1
      simp only [Option.map_some, Option.some.injEq, Prod.mk.injEq] at h1
      exact ⟨i, rfl, h1.1, h1.2.1, h1.2.2⟩
  · cases h : P.underlying t with
    | none => rw [h] at h2; cases h2
    | some d =>
      rw [h] at h2
      simp only [Option.map_some, Option.some.injEq, Prod.mk.injEq] at h2
      exact ⟨d, rfl, h2.1, h2.2⟩

def andI (k : IntKind) (a b : Int) : Int := k.wrap (BitVec.ofInt k.bits a &&& BitVec.ofInt k.bits b).toNat
def orI (k : IntKind) (a b : Int) : Int := k.wrap (BitVec.ofInt k.bits a ||| BitVec.ofInt k.bits b).toNat
def xorI (k : IntKind) (a b : Int) : Int := k.wrap (BitVec.ofInt k.bits a ^^^ BitVec.ofInt k.bits b).toNat
def andNotI (k : IntKind) (a b : Int) : Int := k.wrap (BitVec.ofInt k.bits a &&& ~~~(BitVec.ofInt k.bits b)).toNat
def w64 (x : Int) : Int := IntKind.i64.wrap x

theorem callP.mono {P : Program} {n : FuncId} {args : Array Value} {ts : List Ty} {w : World} {K K' : Tup ts → World → Prop} (h : callP P n args ts w K) (hk : ∀ c w', K c w' → K' c w') : callP P n args ts w K' := by
  rcases h with ⟨hp, hc⟩ | ⟨c, w', hr, h⟩
  · exact .inl ⟨hp, Calls.mono hc fun e w' ⟨c, he, h⟩ => ⟨c, he, hk _ _ h⟩⟩
  · exact .inr ⟨c, w', hr, hk _ _ h⟩

end Go.Vc

/-
  Memory: what a step leaves as it was; cells and new blocks.
-/
namespace Go.Vc
open Go.ChangeMaps (setBlock)

abbrev At (w : World) (b : Nat) (o : Obj) : Prop := w.heap[b]? = some o

theorem At.lt {w : World} {b : Nat} {o : Obj} (h : At w b o) : b < w.heap.size := (Array.getElem?_eq_some_iff.1 h).1

theorem At.det {w : World} {b : Nat} {o o' : Obj} (h : At w b o) (h' : At w b o') : o = o' := Option.some.inj (h.symm.trans h')

/-- All blocks but those of S are as they were; there may be more. -/
structure Eff (S : Nat → Prop) (w w' : World) : Prop where
  os : w'.os = w.os
  tape : w'.tape = w.tape
  output : w'.output = w.output
  size : w.heap.size ≤ w'.heap.size
  keep : ∀ b, b < w.heap.size → ¬ S b → w'.heap[b]? = w.heap[b]?

abbrev No : Nat → Prop := fun _ => False

section
variable {S S' : Nat → Prop} {w w' w'' : World}

theorem Eff.refl (S : Nat → Prop) (w : World) : Eff S w w := ⟨rfl, rfl, rfl, Nat.le_refl _, fun _ _ _ => rfl⟩

/-- One step behind another one: what the second one changes, the first one may, or it was not there. -/
theorem Eff.comp (h : Eff S w w') (h' : Eff S' w' w'') (hs : ∀ b, b < w.heap.size → S' b → S b) : Eff S w w'' :=
  ⟨h'.os.trans h.os, h'.tape.trans h.tape, h'.output.trans h.output, Nat.le_trans h.size h'.size, fun b hb hn =>
    (h'.keep b (Nat.lt_of_lt_of_le hb h.size) fun hs' => hn (hs b hb hs')).trans (h.keep b hb hn)⟩

theorem Eff.trans (h : Eff S w w') (h' : Eff S w' w'') : Eff S w w'' := h.comp h' fun _ _ h => h

theorem Eff.mono (h : Eff S w w') (hs : ∀ b, b < w.heap.size → S b → S' b) : Eff S' w w' := ⟨h.os, h.tape, h.output, h.size, fun b hb hn => h.keep b hb fun hS => hn (hs b hb hS)⟩

theorem Eff.up (h : Eff No w w') : Eff S w w' := h.mono fun _ _ h => h.elim

theorem Eff.thenNo (h : Eff S w w') (h' : Eff No w' w'') : Eff S w w'' := h.comp h' fun _ _ h => h.elim

/-- What is changed was not there. -/
theorem Eff.new (h : Eff S w w') (hs : ∀ b, S b → w.heap.size ≤ b) : Eff No w w' := h.mono fun b hb hS => absurd hb (Nat.not_lt.2 (hs b hS))

theorem Eff.at {b : Nat} {o : Obj} (h : Eff S w w') (hb : At w b o) (hn : ¬ S b) : At w' b o := (h.keep b hb.lt hn).trans hb

theorem Eff.at0 {b : Nat} {o : Obj} (h : Eff No w w') (hb : At w b o) : At w' b o := h.at hb fun h => h

theorem Eff.alloc (w : World) (o : Obj) : Eff No w (w.alloc o) :=
  ⟨rfl, rfl, rfl, by show w.heap.size ≤ (w.heap.push o).size; simp, fun b hb _ => by
    show (w.heap.push o)[b]? = _
    simp [Array.getElem?_push, Nat.ne_of_lt hb]⟩

theorem Eff.drew (w : World) : Eff No w w.drew := ⟨rfl, rfl, rfl, Nat.le_refl _, fun _ _ _ => rfl⟩

theorem Eff.setCell (w : World) (A : Addr) (v : Value) : Eff (fun b => b = A.block) w (w.setCell A v) :=
  ⟨rfl, rfl, rfl, by simp [World.setCell], fun b _ hn => by simp [World.setCell, Array.getElem?_modify, Ne.symm hn]⟩

theorem Eff.setBlock (w : World) (b : Nat) (o : Obj) : Eff (fun c => c = b) w (setBlock w b o) :=
  ⟨rfl, rfl, rfl, by simp [Go.ChangeMaps.setBlock], fun c _ hn => by simp [Go.ChangeMaps.setBlock, Ne.symm hn]⟩

theorem Eff.of_grown {row : Option Nat} (h : w.grownBy w' row) : Eff (fun b => some b = row) w w' := ⟨h.os, h.tape, h.output, h.size, fun b hb hn => h.block b hb hn⟩

theorem Eff.of_grown0 (h : w.grownBy w' none) : Eff No w w' := (Eff.of_grown h).mono fun _ _ h => by cases h

/-! ### Cells -/

theorem At.cell {c : Array Value} {t : TypeId} {f : Nat × Nat} {b i : Nat} (h : At w b (.cells c t f)) : w.cell? ⟨b, i, none⟩ = c[i]? := by simp [World.cell?, h]

theorem At.frozen {c : Array Value} {t : TypeId} {b i : Nat} (h : At w b (.cells c t (0, 0))) : w.frozen? ⟨b, i, none⟩ = false := by
  simp [World.frozen?, h]

theorem At.setCell {c : Array Value} {t : TypeId} {f : Nat × Nat} {b i : Nat} (h : At w b (.cells c t f)) (v : Value) : At (w.setCell ⟨b, i, none⟩ v) b (.cells (c.setIfInBounds i v) t f) := by
  show (w.heap.modify b _)[b]? = _
  rw [Array.getElem?_modify, if_pos rfl, h]
  simp

theorem ldP_at {l : Leaf} {K : l.C → Prop} {c : Array Value} {t : TypeId} {f : Nat × Nat} {b i : Nat} (x : l.C) (h : At w b (.cells c t f)) (hx : c[i]? = some (l.mk x)) (k : K x) : ldP l ⟨b, i, none⟩ w K :=
  ⟨x, h.cell.trans hx, k⟩

theorem addr_add (b o i : Nat) : (⟨b, o, none⟩ : Addr).add i = ⟨b, o + i, none⟩ := by
  unfold Addr.add
  split
  · next h => subst h; rfl
  · rfl

theorem ldA_at {ls : List Leaf} {K : Carr ls → Prop} {c : Array Value} {t : TypeId} {f : Nat × Nat} {b o : Nat} (x : Carr ls) (h : At w b (.cells c t f)) (hx : ∀ i v, (Carr.cells ls x)[i]? = some v → c[o + i]? = some v) (k : K x) :
    ldA ls ⟨b, o, none⟩ w K :=
  ⟨x, fun i v hv => by rw [addr_add, h.cell]; exact hx i v hv, k⟩

/-- The whole of a block is read. -/
theorem ldA_all {ls : List Leaf} {K : Carr ls → Prop} {t : TypeId} {f : Nat × Nat} {b : Nat} (x : Carr ls) (h : At w b (.cells (Carr.cells ls x).toArray t f)) (k : K x) : ldA ls ⟨b, 0, none⟩ w K :=
  ldA_at x h (fun i v hv => by simpa using hv) k

theorem cellsAt_all {vs : List Value} {t : TypeId} {f : Nat × Nat} {b : Nat} (h : At w b (.cells vs.toArray t f)) : cellsAt w ⟨b, 0, none⟩ vs := fun i v hv => by
  rw [addr_add, h.cell]
  simpa using hv

theorem newP_at {o : Obj} {K : Nat → World → Prop} (k : ∀ b w', b = w.heap.size → At w' b o → Eff No w w' → K b w') : newP o w K := by
  intro b w' hb hw
  subst hb hw
  refine k _ _ rfl ?_ (Eff.alloc w o)
  show (w.heap.push o)[w.heap.size]? = _
  simp

theorem stP_at {v : Value} {K : World → Prop} {c : Array Value} {t : TypeId} {b i : Nat} (h : At w b (.cells c t (0, 0))) (hx : i < c.size) (hone : v.oneCell' = true)
    (k : ∀ w', At w' b (.cells (c.setIfInBounds i v) t (0, 0)) → Eff (fun x => x = b) w w' → K w') : stP ⟨b, i, none⟩ v w K :=
  ⟨⟨c[i], by rw [h.cell]; simp [hx]⟩, h.frozen, hone, k _ (h.setCell v) (Eff.setCell w ⟨b, i, none⟩ v)⟩

theorem Eff.setCells {b o : Nat} : ∀ (vs : List Value) (i : Nat) (w : World), Eff (fun x => x = b) w (setCells w ⟨b, o, none⟩ vs i)
  | [], _, w => Eff.refl _ w
  | v :: r, i, w => by
    have h := Eff.setCell w ((⟨b, o, none⟩ : Addr).add i) v
    rw [addr_add] at h
    have h2 := Eff.setCells (b := b) (o := o) r (i + 1) (w.setCell ⟨b, o + i, none⟩ v)
    have e : Go.Vc.setCells w ⟨b, o, none⟩ (v :: r) i = Go.Vc.setCells (w.setCell ⟨b, o + i, none⟩ v) ⟨b, o, none⟩ r (i + 1) := by
      show Go.Vc.setCells (w.setCell ((⟨b, o, none⟩ : Addr).add i) v) ⟨b, o, none⟩ r (i + 1) = _
      rw [addr_add]
    rw [e]
    exact h.trans h2

/-- Cells from o + i on are written over. -/
def over (c : Array Value) (o : Nat) : List Value → Array Value
  | [] => c
  | v :: r => over (c.setIfInBounds o v) (o + 1) r

theorem At.setCells {t : TypeId} {f : Nat × Nat} {b o : Nat} : ∀ (vs : List Value) (i : Nat) (w : World) (c : Array Value), At w b (.cells c t f) → At (Go.Vc.setCells w ⟨b, o, none⟩ vs i) b (.cells (over c (o + i) vs) t f)
  | [], _, _, _, h => h
  | v :: r, i, w, c, h => by
    have e : Go.Vc.setCells w ⟨b, o, none⟩ (v :: r) i = Go.Vc.setCells (w.setCell ⟨b, o + i, none⟩ v) ⟨b, o, none⟩ r (i + 1) := by
      show Go.Vc.setCells (w.setCell ((⟨b, o, none⟩ : Addr).add i) v) ⟨b, o, none⟩ r (i + 1) = _
      rw [addr_add]
    rw [e]
    exact At.setCells r (i + 1) _ _ (h.setCell v)

theorem over_size (c : Array Value) : ∀ (vs : List Value) (o : Nat), (over c o vs).size = c.size := by
  intro vs
  induction vs generalizing c with
  | nil => intro o; rfl
  | cons v r ih => intro o; simp [over, ih]

theorem stN_at {vs : List Value} {K : World → Prop} {c : Array Value} {t : TypeId} {b o : Nat} (h : At w b (.cells c t (0, 0))) (hx : o + vs.length ≤ c.size) (hone : vs.all (·.oneCell') = true)
    (k : ∀ w', At w' b (.cells (over c o vs) t (0, 0)) → Eff (fun x => x = b) w w' → K w') : stN ⟨b, o, none⟩ vs w K := by
  refine ⟨fun i hi => ?_, fun v hv => List.all_eq_true.1 hone v hv, k _ (h.setCells vs 0 w c) (Eff.setCells vs 0 w)⟩
  rw [addr_add, h.cell]
  exact ⟨⟨c[o + i]'(by omega), by simp⟩, h.frozen⟩

theorem over_all : ∀ (vs : List Value) (p c : List Value), c.length = vs.length → over (p ++ c).toArray p.length vs = (p ++ vs).toArray
  | [], p, c, h => by
    have : c = [] := List.length_eq_zero_iff.1 (by simpa using h)
    subst this; rfl
  | v :: r, p, [], h => by simp at h
  | v :: r, p, x :: c, h => by
    have ih := over_all r (p ++ [v]) c (by simpa using h)
    simp only [over]
    have e : (p ++ x :: c).toArray.setIfInBounds p.length v = (p ++ [v] ++ c).toArray := by
      apply Array.ext'
      simp
    rw [e]
    simpa using ih

/-- The whole of a block is written. -/
theorem stN_all {vs : List Value} {K : World → Prop} {c : Array Value} {t : TypeId} {b : Nat} (h : At w b (.cells c t (0, 0))) (hx : c.size = vs.length) (hone : vs.all (·.oneCell') = true)
    (k : ∀ w', At w' b (.cells vs.toArray t (0, 0)) → Eff (fun x => x = b) w w' → K w') : stN ⟨b, 0, none⟩ vs w K := by
  refine stN_at h (by omega) hone fun w' h1 h2 => k w' ?_ h2
  have := over_all vs [] c.toList (by simpa using hx)
  simp only [List.nil_append, List.length_nil] at this
  rw [show c = c.toList.toArray from (Array.toArray_toList).symm] at h1
  rw [this] at h1
  exact h1

end
end Go.Vc

/-
  Maps: a block that holds a list of keys and values, each key once.
-/
namespace Go.Vc
open Go.ChangeMaps (setBlock)
open Go.MapKept (IsKey Stamped findNow_spec run_findKey run_checkKey run_keyThatStays)

/-- What is asked of the keys of a map. -/
structure KeyT (P : Program) (k : TypeId) {α : Type} (kf : α → Value) : Prop where
  inj : ∀ a b, kf a = kf b → a = b
  check : ∀ (w : World) (em : Bool) (a : α), (Instr.checkKey em 10000 k (kf a)).run P w = .ok () w
  find : ∀ (w : World) (a : α) (es : List MapEntry), (∀ e ∈ es, ∃ x, e.key = kf x) →
    ((Instr.findKey k (kf a) es).run P w = .ok none w ∧ ∀ e ∈ es, e.key ≠ kf a) ∨ ∃ j e, (Instr.findKey k (kf a) es).run P w = .ok (some (j, e.val)) w ∧ es[j]? = some e ∧ e.key = kf a
  stays : ∀ (w : World) (a : α), (Instr.keyThatStays (kf a) (kf a)).run P w = .ok (kf a) w

theorem KeyT.plain {P : Program} {k : TypeId} {d : TypeDesc} {α : Type} {kf : α → Value} (hk : P.underlying k = some d) (hi : ∀ a b, kf a = kf b → a = b) (hd : ∀ a, IsKey d (kf a)) : KeyT P k kf where
  inj := hi
  check w em a := run_checkKey hk (hd a) em 9999
  find w a es hes := by
    have hks : ∀ y ∈ es, IsKey d y.key := fun y hy => by
      obtain ⟨x, hx⟩ := hes y hy
      rw [hx]; exact hd x
    rcases findNow_spec (hd a) es 0 hks with ⟨h1, h2⟩ | ⟨j, e0, h1, h2, h3⟩
    · exact .inl ⟨run_findKey hk h1, h2⟩
    · exact .inr ⟨j, e0, by simpa using run_findKey hk h1, h2, h3⟩
  stays w a := run_keyThatStays (hd a)

def kInt (n : Int) : Value := .int .i64 n
def kStr (s : ByteArray) : Value := .string s
def kPair (e : Int × ByteArray) : Value := .agg #[.int .i64 e.1, .string e.2]

theorem KeyT.int {P : Program} {k : TypeId} (hk : P.underlying k = some (.int .i64)) : KeyT P k kInt := .plain hk (fun a b h => by simpa [kInt] using h) fun _ => rfl
theorem KeyT.str {P : Program} {k : TypeId} (hk : P.underlying k = some .string) : KeyT P k kStr := .plain hk (fun a b h => by simpa [kStr] using h) fun _ => trivial

section assoc
variable {α β : Type} [DecidableEq α]

def aget (l : List (α × β)) (k : α) : Option β :=
  match l with
  | [] => none
  | (a, b) :: r => if a = k then some b else aget r k

def aset : List (α × β) → α → β → List (α × β)
  | [], k, v => [(k, v)]
  | (a, b) :: r, k, v => if a = k then (a, v) :: r else (a, b) :: aset r k v

def adel : List (α × β) → α → List (α × β)
  | [], _ => []
  | (a, b) :: r, k => if a = k then r else (a, b) :: adel r k

theorem aget_none {l : List (α × β)} {k : α} (h : ∀ x ∈ l, x.1 ≠ k) : aget l k = none := by
  induction l with
  | nil => rfl
  | cons x r ih =>
    obtain ⟨a, b⟩ := x
    simp only [aget]
    rw [if_neg (h (a, b) (by simp))]
    exact ih fun y hy => h y (by simp [hy])

theorem aget_get {l : List (α × β)} {k : α} {v : β} {j : Nat} (hn : (l.map (·.1)).Nodup) (h : l[j]? = some (k, v)) : aget l k = some v := by
  induction l generalizing j with
  | nil => simp at h
  | cons x r ih =>
    obtain ⟨a, b⟩ := x
    simp only [List.map_cons, List.nodup_cons] at hn
    cases j with
    | zero =>
      simp at h
      simp [aget, h.1, h.2]
    | succ j =>
      simp only [List.getElem?_cons_succ] at h
      have : a ≠ k := fun e => hn.1 (by
        subst e
        exact List.mem_map.2 ⟨_, List.mem_of_getElem? h, rfl⟩)
      simp only [aget, if_neg this]
      exact ih hn.2 h

theorem aset_none {l : List (α × β)} {k : α} {v : β} (h : ∀ x ∈ l, x.1 ≠ k) : aset l k v = l ++ [(k, v)] := by
  induction l with
  | nil => rfl
  | cons x r ih =>
    obtain ⟨a, b⟩ := x
    simp only [aset]
    rw [if_neg (h (a, b) (by simp)), ih fun y hy => h y (by simp [hy])]
    rfl

theorem aset_get {l : List (α × β)} {k : α} {v u : β} {j : Nat} (hn : (l.map (·.1)).Nodup) (h : l[j]? = some (k, u)) : aset l k v = l.set j (k, v) := by
  induction l generalizing j with
  | nil => simp at h
  | cons x r ih =>
    obtain ⟨a, b⟩ := x
    simp only [List.map_cons, List.nodup_cons] at hn
    cases j with
    | zero =>
      simp at h
      simp [aset, h.1]
    | succ j =>
      simp only [List.getElem?_cons_succ] at h
      have : a ≠ k := fun e => hn.1 (by
        subst e
        exact List.mem_map.2 ⟨_, List.mem_of_getElem? h, rfl⟩)
      simp only [aset, if_neg this, List.set_cons_succ]
      rw [ih hn.2 h]

theorem adel_none {l : List (α × β)} {k : α} (h : ∀ x ∈ l, x.1 ≠ k) : adel l k = l := by
  induction l with
  | nil => rfl
  | cons x r ih =>
    obtain ⟨a, b⟩ := x
    simp only [adel]
    rw [if_neg (h (a, b) (by simp)), ih fun y hy => h y (by simp [hy])]

theorem adel_get {l : List (α × β)} {k : α} {u : β} {j : Nat} (hn : (l.map (·.1)).Nodup) (h : l[j]? = some (k, u)) : adel l k = l.eraseIdx j := by
  induction l generalizing j with
  | nil => simp at h
  | cons x r ih =>
    obtain ⟨a, b⟩ := x
    simp only [List.map_cons, List.nodup_cons] at hn
    cases j with
    | zero =>
      simp at h
      simp [adel, h.1]
    | succ j =>
      simp only [List.getElem?_cons_succ] at h
      have : a ≠ k := fun e => hn.1 (by
        subst e
        exact List.mem_map.2 ⟨_, List.mem_of_getElem? h, rfl⟩)
      simp only [adel, if_neg this, List.eraseIdx_cons_succ]
      rw [ih hn.2 h]

end assoc

section
variable {P : Program} {α β : Type} {kf : α → Value} {vf : β → Value} {w w' : World} {b : Nat} {l : List (α × β)}

/-- A map's entries. -/
def Ents (kf : α → Value) (vf : β → Value) (es : Array MapEntry) (l : List (α × β)) : Prop := es.toList.map (fun e => (e.key, e.val)) = l.map (fun p => (kf p.1, vf p.2))

/-- A block holds a map. -/
def MapAt (kf : α → Value) (vf : β → Value) (w : World) (b : Nat) (l : List (α × β)) : Prop :=
  ∃ es clock, At w b (.map es clock) ∧ Stamped es clock ∧ Ents kf vf es l

theorem MapAt.lt (h : MapAt kf vf w b l) : b < w.heap.size := by
  obtain ⟨_, _, h, _⟩ := h
  exact h.lt

theorem MapAt.kept {S : Nat → Prop} (h : MapAt kf vf w b l) (e : Eff S w w') (hn : ¬ S b) : MapAt kf vf w' b l := by
  obtain ⟨es, c, h1, h2, h3⟩ := h
  exact ⟨es, c, e.at h1 hn, h2, h3⟩

theorem MapAt.kept0 (h : MapAt kf vf w b l) (e : Eff No w w') : MapAt kf vf w' b l := h.kept e fun h => h

theorem MapAt.new (h : At w b (.map #[] 0)) : MapAt kf vf w b [] := ⟨_, _, h, ⟨by simp, by simp, by simp⟩, rfl⟩

theorem Ents.get {es : Array MapEntry} (h : Ents kf vf es l) (j : Nat) : (es[j]?).map (fun e => (e.key, e.val)) = (l[j]?).map (fun p => (kf p.1, vf p.2)) := by
  have := congrArg (·[j]?) h
  simpa using this

theorem Ents.keyed {es : Array MapEntry} (h : Ents kf vf es l) : ∀ e ∈ es.toList, ∃ x, e.key = kf x := fun e he => by
  have : (e.key, e.val) ∈ l.map (fun p => (kf p.1, vf p.2)) := h ▸ List.mem_map.2 ⟨e, he, rfl⟩
  obtain ⟨p, _, hp⟩ := List.mem_map.1 this
  exact ⟨p.1, (Prod.mk.inj hp).1.symm⟩

theorem Ents.keys {es : Array MapEntry} (h : Ents kf vf es l) : es.toList.map (·.key) = l.map (fun p => kf p.1) := by
  have := congrArg (List.map Prod.fst) h
  simpa [List.map_map, Function.comp_def] using this

theorem Ents.nodup {es : Array MapEntry} {k : TypeId} (_ : KeyT P k kf) (h : Ents kf vf es l) (hn : (es.toList.map (·.key)).Nodup) : (l.map (·.1)).Nodup := by
  rw [h.keys] at hn
  have : l.map (fun p => kf p.1) = (l.map (·.1)).map kf := by simp [List.map_map, Function.comp_def]
  rw [this] at hn
  exact (List.pairwise_map.1 hn).imp fun hab e => hab (congrArg kf e)

theorem MapAt.nodup {k : TypeId} (K : KeyT P k kf) (h : MapAt kf vf w b l) : (l.map (·.1)).Nodup := by
  obtain ⟨es, c, h1, h2, h3⟩ := h
  exact h3.nodup K h2.2.2

variable [DecidableEq α]

/-- A key is looked for. -/
theorem find_spec {k : TypeId} (K : KeyT P k kf) {es : Array MapEntry} {c : Nat} (hs : Stamped es c) (h : Ents kf vf es l) (w : World) (a : α) :
    ((Instr.findKey k (kf a) es.toList).run P w = .ok none w ∧ aget l a = none ∧ ∀ x ∈ l, x.1 ≠ a) ∨
    ∃ j e v, (Instr.findKey k (kf a) es.toList).run P w = .ok (some (j, vf v)) w ∧ es[j]? = some e ∧ e.key = kf a ∧ e.val = vf v ∧ l[j]? = some (a, v) ∧ aget l a = some v := by
  rcases K.find w a es.toList h.keyed with ⟨h1, h2⟩ | ⟨j, e, h1, h2, h3⟩
  · left
    have hno : ∀ x ∈ l, x.1 ≠ a := fun x hx e => by
      have : (kf x.1, vf x.2) ∈ es.toList.map (fun e => (e.key, e.val)) := h ▸ List.mem_map.2 ⟨x, hx, rfl⟩
      obtain ⟨y, hy, hy2⟩ := List.mem_map.1 this
      exact h2 y hy (by rw [← e]; exact (Prod.mk.inj hy2).1)
    exact ⟨h1, aget_none hno, hno⟩
  · right
    have hg := h.get j
    rw [Array.getElem?_toList] at h2
    rw [h2] at hg
    cases hl : l[j]? with
    | none => rw [hl] at hg; cases hg
    | some p =>
      rw [hl] at hg
      simp only [Option.map_some, Option.some.injEq, Prod.mk.injEq] at hg
      have ha : p.1 = a := K.inj _ _ (by rw [← hg.1, h3])
      obtain ⟨p1, p2⟩ := p
      subst ha
      exact ⟨j, e, p2, by rw [h1, hg.2], h2, h3, hg.2, hl, aget_get (h.nodup K hs.2.2) hl⟩

theorem aget_aset (l : List (α × β)) (k k' : α) (v : β) : aget (aset l k v) k' = if k' = k then some v else aget l k' := by
  induction l with
  | nil =>
    simp only [aset, aget]
    by_cases h : k' = k
    · simp [h]
    · rw [if_neg (fun e => h e.symm), if_neg h]
  | cons x r ih =>
    obtain ⟨a, b⟩ := x
    simp only [aset]
    by_cases h : a = k
    · subst h
      rw [if_pos rfl]
      simp only [aget]
      by_cases h' : a = k'
      · subst h'; simp
      · rw [if_neg h', if_neg h', if_neg (fun e => h' e.symm)]
    · rw [if_neg h]
      simp only [aget]
      by_cases h' : a = k'
      · subst h'
        rw [if_pos rfl, if_neg h]
        simp
      · rw [if_neg h', if_neg h', ih]

theorem aset_keys {l : List (α × β)} {k : α} (v : β) (h : k ∈ l.map (·.1)) : (aset l k v).map (·.1) = l.map (·.1) := by
  induction l with
  | nil => simp at h
  | cons x r ih =>
    obtain ⟨a, b⟩ := x
    simp only [aset]
    split
    · simp
    · next hne =>
      simp only [List.map_cons, List.mem_cons] at h
      rcases h with h | h
      · exact absurd h.symm hne
      · simp [ih h]

theorem aset_length_le (l : List (α × β)) (k : α) (v : β) : l.length ≤ (aset l k v).length := by
  induction l with
  | nil => simp
  | cons x r ih =>
    obtain ⟨a, b⟩ := x
    simp only [aset]
    split
    · simp
    · simpa using ih

/-- 'm[k]'. -/
theorem lookup1 {t kt et : TypeId} (K : KeyT P kt kf) (ht : P.underlying t = some (.map kt et)) (h : MapAt kf vf w b l) (a : α) (z : Value) (hz : (zeroValue et).run P w = .ok z w) :
    (Instr.lookup t (.map (some b)) (kf a) false).run P w = .ok (match aget l a with | some v => vf v | none => z) w := by
  obtain ⟨es, c, h1, h2, h3⟩ := h
  rcases find_spec K h2 h3 w a with ⟨f1, f2, _⟩ | ⟨j, e, v, f1, _, _, _, _, f2⟩
  · simp [Instr.lookup, run_underlying ht, MapKept.run_getObj_map h1, K.check, f1, f2, hz, Result.andThen]
  · simp [Instr.lookup, run_underlying ht, MapKept.run_getObj_map h1, K.check, f1, f2, Result.andThen]

/-- 'v, ok := m[k]'. -/
theorem lookup2 {t kt et : TypeId} (K : KeyT P kt kf) (ht : P.underlying t = some (.map kt et)) (h : MapAt kf vf w b l) (a : α) (z : Value) (hz : (zeroValue et).run P w = .ok z w) :
    (Instr.lookup t (.map (some b)) (kf a) true).run P w = .ok (.tuple #[(match aget l a with | some v => vf v | none => z), .bool (aget l a).isSome]) w := by
  obtain ⟨es, c, h1, h2, h3⟩ := h
  rcases find_spec K h2 h3 w a with ⟨f1, f2, _⟩ | ⟨j, e, v, f1, _, _, _, _, f2⟩
  · simp [Instr.lookup, run_underlying ht, MapKept.run_getObj_map h1, K.check, f1, f2, hz, Result.andThen]
  · simp [Instr.lookup, run_underlying ht, MapKept.run_getObj_map h1, K.check, f1, f2, Result.andThen]

theorem At.setBlock {o : Obj} (h : At w b o) (o' : Obj) : At (setBlock w b o') b o' := by
  have := h.lt
  show (w.heap.setIfInBounds b o')[b]? = _
  simp [this]

/-- The value of a key that is there is written. -/
theorem update_old {t kt et : TypeId} (K : KeyT P kt kf) (ht : P.underlying t = some (.map kt et)) {es : Array MapEntry} {c : Nat} (h1 : At w b (.map es c)) (h2 : Stamped es c) (h3 : Ents kf vf es l) (a : α) (v : β) (ha : a ∈ l.map (·.1)) :
    ∃ es' : Array MapEntry, (Instr.mapUpdate t (.map (some b)) (kf a) (vf v)).run P w = .ok () (Go.ChangeMaps.setBlock w b (.map es' c)) ∧ Stamped es' c ∧ Ents kf vf es' (aset l a v) ∧ ∀ i : Nat, (es'[i]?).map MapEntry.born = (es[i]?).map MapEntry.born := by
  rcases find_spec K h2 h3 w a with ⟨_, _, f2⟩ | ⟨j, e, u, f1, g1, g2, g3, g4, f2⟩
  · obtain ⟨x, hx, rfl⟩ := List.mem_map.1 ha
    exact absurd rfl (f2 x hx)
  · obtain ⟨hlt, ge⟩ := Array.getElem?_eq_some_iff.1 g1
    have hm : (es.modify j fun e => { e with key := kf a, val := vf v }).toList = es.toList.set j { e with key := kf a, val := vf v } := by
      apply List.ext_getElem?
      intro i
      simp only [Array.getElem?_toList, Array.getElem?_modify, List.getElem?_set, Array.length_toList]
      by_cases hij : j = i
      · subst hij
        simp [ge, hlt]
      · simp [hij]
    have hb : (es.toList.set j { e with key := kf a, val := vf v }).map (·.born) = es.toList.map (·.born) := by
      rw [List.map_set]
      apply List.ext_getElem?
      intro i
      rw [List.getElem?_set]
      by_cases hij : j = i
      · subst hij
        simp [hlt, ge]
      · simp [hij]
    have hk : (es.toList.set j { e with key := kf a, val := vf v }).map (·.key) = es.toList.map (·.key) := by
      rw [List.map_set]
      apply List.ext_getElem?
      intro i
      rw [List.getElem?_set]
      by_cases hij : j = i
      · subst hij
        simp [hlt, ge, g2]
      · simp [hij]
    refine ⟨es.modify j fun e => { e with key := kf a, val := vf v }, ?_, ?_, ?_, ?_⟩
    · simp [Instr.mapUpdate, run_underlying ht, MapKept.run_getObj_map h1, K.check, f1, g1, g2, K.stays, MapKept.run_setObj_map _ h1, Result.andThen, Go.ChangeMaps.setBlock]
    · obtain ⟨s1, s2, s3⟩ := h2
      refine ⟨?_, by rw [hm, hb]; exact s2, by rw [hm, hk]; exact s3⟩
      intro x hx
      have : x.born ∈ es.toList.map (·.born) := by rw [← hb, ← hm]; exact List.mem_map.2 ⟨x, hx, rfl⟩
      obtain ⟨y, hy, hxy⟩ := List.mem_map.1 this
      rw [← hxy]; exact s1 y hy
    · rw [aset_get (h3.nodup K h2.2.2) g4]
      unfold Ents
      rw [hm, List.map_set, List.map_set, h3]
    · intro i
      have : ((es.modify j fun e => { e with key := kf a, val := vf v }).toList.map MapEntry.born)[i]? = (es.toList.map MapEntry.born)[i]? := by rw [hm, hb]
      rw [List.getElem?_map, List.getElem?_map, Array.getElem?_toList, Array.getElem?_toList] at this
      exact this

/-- 'm[k] = v'. -/
theorem update {t kt et : TypeId} (K : KeyT P kt kf) (ht : P.underlying t = some (.map kt et)) (h : MapAt kf vf w b l) (a : α) (v : β) :
    ∃ w', (Instr.mapUpdate t (.map (some b)) (kf a) (vf v)).run P w = .ok () w' ∧ MapAt kf vf w' b (aset l a v) ∧ Eff (fun x => x = b) w w' := by
  obtain ⟨es, c, h1, h2, h3⟩ := h
  by_cases ha : a ∈ l.map (·.1)
  · obtain ⟨es', r1, r2, r3, _⟩ := update_old K ht h1 h2 h3 a v ha
    exact ⟨_, r1, ⟨_, _, h1.setBlock _, r2, r3⟩, Eff.setBlock _ _ _⟩
  · rcases find_spec K h2 h3 w a with ⟨f1, _, f2⟩ | ⟨j, e, u, f1, g1, g2, g3, g4, f2⟩
    · refine ⟨Go.ChangeMaps.setBlock w b (.map (es.push { key := kf a, val := vf v, born := c }) (c + 1)), ?_, ⟨_, _, h1.setBlock _, ?_, ?_⟩, Eff.setBlock _ _ _⟩
      · simp [Instr.mapUpdate, run_underlying ht, MapKept.run_getObj_map h1, K.check, f1, MapKept.run_setObj_map _ h1, Result.andThen, Go.ChangeMaps.setBlock]
      · obtain ⟨s1, s2, s3⟩ := h2
        refine ⟨?_, ?_, ?_⟩
        · intro x hx
          simp at hx
          rcases hx with hx | rfl
          · have := s1 x (by simpa using hx); omega
          · exact Nat.lt_succ_self c
        · simp only [Array.toList_push, List.map_append, List.map_cons, List.map_nil]
          refine List.nodup_append.2 ⟨s2, by simp, ?_⟩
          intro x hx y hy
          simp at hy
          subst hy
          obtain ⟨z, hz, rfl⟩ := List.mem_map.1 hx
          have := s1 z hz
          omega
        · simp only [Array.toList_push, List.map_append, List.map_cons, List.map_nil]
          refine List.nodup_append.2 ⟨s3, by simp, ?_⟩
          intro x hx y hy
          simp at hy
          subst hy
          rw [h3.keys] at hx
          obtain ⟨z, hz, rfl⟩ := List.mem_map.1 hx
          exact fun e => f2 z hz (K.inj _ _ e)
      · rw [aset_none f2]
        simp only [Ents, Array.toList_push, List.map_append, List.map_cons, List.map_nil]
        rw [h3]
    · exact absurd (List.mem_map.2 ⟨_, List.mem_of_getElem? g4, rfl⟩) ha

/-- 'delete(m, k)'. -/
theorem delete {t kt et ty : TypeId} (K : KeyT P kt kf) (ht : P.underlying t = some (.map kt et)) (h : MapAt kf vf w b l) (a : α) :
    ∃ w', (Builtin.delete_ #[t, kt] ty #[.map (some b), kf a]).run P w = .ok (.tuple #[]) w' ∧ MapAt kf vf w' b (adel l a) ∧ Eff (fun x => x = b) w w' := by
  obtain ⟨es, c, h1, h2, h3⟩ := h
  rcases find_spec K h2 h3 w a with ⟨f1, _, f2⟩ | ⟨j, e, u, f1, g1, g2, g3, g4, f2⟩
  · refine ⟨Go.ChangeMaps.setBlock w b (.map es c), ?_, ⟨_, _, h1.setBlock _, h2, ?_⟩, Eff.setBlock _ _ _⟩
    · simp [Builtin.delete_, run_underlying ht, MapKept.run_getObj_map h1, K.check, f1, MapKept.run_setObj_map _ h1, Result.andThen, Go.ChangeMaps.setBlock]
    · rw [adel_none f2]; exact h3
  · refine ⟨Go.ChangeMaps.setBlock w b (.map (es.eraseIdxIfInBounds j) c), ?_, ⟨_, _, h1.setBlock _, ?_, ?_⟩, Eff.setBlock _ _ _⟩
    · simp [Builtin.delete_, run_underlying ht, MapKept.run_getObj_map h1, K.check, f1, MapKept.run_setObj_map _ h1, Result.andThen, Go.ChangeMaps.setBlock]
    · have hlt := (Array.getElem?_eq_some_iff.1 g1).1
      have hm : (es.eraseIdxIfInBounds j).toList = es.toList.eraseIdx j := by
        simp [Array.eraseIdxIfInBounds, hlt]
      obtain ⟨s1, s2, s3⟩ := h2
      refine ⟨?_, ?_, ?_⟩
      · intro x hx
        rw [hm] at hx
        exact s1 x (List.mem_of_mem_eraseIdx hx)
      · rw [hm, Go.ChangeMaps.map_eraseIdx]
        exact s2.sublist (List.eraseIdx_sublist _ _)
      · rw [hm, Go.ChangeMaps.map_eraseIdx]
        exact s3.sublist (List.eraseIdx_sublist _ _)
    · have hlt := (Array.getElem?_eq_some_iff.1 g1).1
      have hm : (es.eraseIdxIfInBounds j).toList = es.toList.eraseIdx j := by
        simp [Array.eraseIdxIfInBounds, hlt]
      rw [adel_get (h3.nodup K h2.2.2) g4]
      unfold Ents
      rw [hm, Go.ChangeMaps.map_eraseIdx, Go.ChangeMaps.map_eraseIdx, h3]

end
end Go.Vc

/-
  Loops: a rule with a count; 'for k, v := range m'.
-/
namespace Go.Vc
open Go.ChangeMaps (setBlock)
open Go.MapKept (IsKey Stamped)

/-- A loop that counts down. -/
theorem loopP_count {σ : Type} {body : (σ → World → Prop) → σ → World → Prop} {s : σ} {w : World} (J : Nat → σ → World → Prop) (h0 : ∃ n, J n s w)
    (step : ∀ n s w, J n s w → body (fun s' w' => ∃ m, m < n ∧ J m s' w') s w) : loopP body s w := by
  classical
  have hm : ∀ s w, (∃ n, J n s w) → ∃ n, J n s w ∧ ∀ k, J k s w → n ≤ k := by
    intro s w ⟨n, hn⟩
    induction n using Nat.strongRecOn with
    | ind n ih =>
      by_cases h : ∃ k, k < n ∧ J k s w
      · obtain ⟨k, hk, hj⟩ := h
        exact ih k hk hj
      · exact ⟨n, hn, fun k hk => Nat.le_of_not_lt fun hlt => h ⟨k, hlt, hk⟩⟩
  let m : σ → World → Nat := fun s w => if h : ∃ n, J n s w then Classical.choose (hm s w h) else 0
  have hm1 : ∀ s w, (∃ n, J n s w) → J (m s w) s w ∧ ∀ k, J k s w → m s w ≤ k := fun s w h => by
    have : m s w = Classical.choose (hm s w h) := by simp only [m]; rw [dif_pos h]
    rw [this]
    exact Classical.choose_spec (hm s w h)
  refine ⟨fun s w => ∃ n, J n s w, m, h0, fun s w h => ?_⟩
  have e : (fun (s' : σ) (w' : World) => (∃ n, J n s' w') ∧ m s' w' < m s w) = fun s' w' => ∃ k, k < m s w ∧ J k s' w' := by
    funext s' w'
    refine propext ⟨fun ⟨h1, h2⟩ => ⟨_, h2, (hm1 _ _ h1).1⟩, fun ⟨k, h1, h2⟩ => ⟨⟨k, h2⟩, Nat.lt_of_le_of_lt ((hm1 _ _ ⟨k, h2⟩).2 k h2) h1⟩⟩
  rw [e]
  exact step _ s w (hm1 s w h).1

section
variable {P : Program} {kty vty : Ty} {w w' : World} {b r : Nat} {l l' : List (kty.C × vty.C)} {seen : List kty.C}

/-- An iterator stands in a map: behind the keys that were seen. -/
def IterAt (kty vty : Ty) (w : World) (r b : Nat) (l : List (kty.C × vty.C)) (seen : List kty.C) : Prop :=
  ∃ es clock since last bs, At w b (.map es clock) ∧ Stamped es clock ∧ Ents kty.mk vty.mk es l ∧ At w r (.mapIter (some b) since bs last) ∧ (∀ x ∈ es.toList, x.born < since) ∧ since ≤ last ∧ since ≤ clock ∧
    (∀ (j : Nat) (e : MapEntry) (p : kty.C × vty.C), es[j]? = some e → l[j]? = some p → (e.born ∈ bs ↔ p.1 ∈ seen))

/-- The entry at which it stands. -/
def EntryAt (P : Program) (kty vty : Ty) (w : World) (r : Nat) (p : kty.C × vty.C) : Prop := (Instr.entry (.pointer (some ⟨r, 0, none⟩))).run P w = .ok (Tup.res [kty, vty] p) w

theorem IterAt.map (h : IterAt kty vty w r b l seen) : MapAt kty.mk vty.mk w b l := by
  obtain ⟨es, c, _, _, _, h1, h2, h3, _⟩ := h
  exact ⟨es, c, h1, h2, h3⟩

theorem IterAt.lt (h : IterAt kty vty w r b l seen) : r < w.heap.size ∧ b < w.heap.size := by
  obtain ⟨es, c, _, _, _, h1, h2, h3, h4, _⟩ := h
  exact ⟨h4.lt, h1.lt⟩

theorem IterAt.ne (h : IterAt kty vty w r b l seen) : r ≠ b := by
  obtain ⟨es, c, _, _, _, h1, h2, h3, h4, _⟩ := h
  intro e
  subst e
  cases h1.det h4

theorem IterAt.kept {S : Nat → Prop} (h : IterAt kty vty w r b l seen) (e : Eff S w w') (hr : ¬ S r) (hb : ¬ S b) : IterAt kty vty w' r b l seen := by
  obtain ⟨es, c, s, la, bs, h1, h2, h3, h4, h5⟩ := h
  exact ⟨es, c, s, la, bs, e.at h1 hb, h2, h3, e.at h4 hr, h5⟩

theorem IterAt.kept0 (h : IterAt kty vty w r b l seen) (e : Eff No w w') : IterAt kty vty w' r b l seen := h.kept e (fun h => h) (fun h => h)

/-- 'range m'. -/
theorem range_start {t kt et : TypeId} (ht : P.underlying t = some (.map kt et)) (h : MapAt kty.mk vty.mk w b l) :
    ∃ w', (Instr.range t (.map (some b))).run P w = .ok (Tup.res [.one .ptr] (some ⟨w.heap.size, 0, none⟩)) w' ∧ IterAt kty vty w' w.heap.size b l [] ∧ Eff No w w' := by
  obtain ⟨es, c, h1, h2, h3⟩ := h
  refine ⟨w.alloc (.mapIter (some b) c #[] c), ?_, ⟨es, c, c, c, #[], (Eff.alloc w _).at0 h1, h2, h3, ?_, h2.1, Nat.le_refl _, Nat.le_refl _, by simp⟩, Eff.alloc w _⟩
  · simp [Instr.range, run_underlying ht, MapKept.run_getObj_map h1, Result.andThen, newObj, Tup.res, Tup.vals, Ty.mk, Leaf.mk]
    rfl
  · show (w.heap.push _)[w.heap.size]? = _
    simp

theorem range_nil {t kt et : TypeId} (ht : P.underlying t = some (.map kt et)) :
    ∃ w', (Instr.range t (.map none)).run P w = .ok (Tup.res [.one .ptr] (some ⟨w.heap.size, 0, none⟩)) w' ∧ At w' w.heap.size (.mapIter none 0 #[] 0) ∧ Eff No w w' := by
  refine ⟨w.alloc (.mapIter none 0 #[] 0), ?_, ?_, Eff.alloc w _⟩
  · simp [Instr.range, run_underlying ht, Result.andThen, newObj, Tup.res, Tup.vals, Ty.mk, Leaf.mk]
    rfl
  · show (w.heap.push _)[w.heap.size]? = _
    simp

theorem mem_leftOf {es : Array MapEntry} {bs : Array Nat} {e : MapEntry} : e ∈ (leftOf es bs).toList ↔ e ∈ es.toList ∧ e.born ∉ bs := by
  simp [leftOf]

/-- A step of an iterator. -/
theorem next_step (ty : TypeId) (h : IterAt kty vty w r b l seen) :
    ((∀ p ∈ l, p.1 ∈ seen) ∧ (Instr.next (.pointer (some ⟨r, 0, none⟩)) false ty).run P w = .ok (.tuple #[.bool false]) w) ∨
    ∃ p w', p ∈ l ∧ p.1 ∉ seen ∧ (Instr.next (.pointer (some ⟨r, 0, none⟩)) false ty).run P w = .ok (.tuple (.bool true :: Tup.vals [kty, vty] p).toArray) w' ∧ IterAt kty vty w' r b l (p.1 :: seen) ∧ EntryAt P kty vty w' r p ∧ Eff (fun x => x = r) w w' := by
  obtain ⟨es, c, s, la, bs, h1, h2, h3, h4, h5, h6, h6', h7⟩ := h
  have hget : ∀ (j : Nat) (e : MapEntry), es[j]? = some e → ∃ p : kty.C × vty.C, l[j]? = some p ∧ e.key = kty.mk p.1 ∧ e.val = vty.mk p.2 := fun j e he => by
    have hg := h3.get j
    rw [he] at hg
    cases hl : l[j]? with
    | none => rw [hl] at hg; cases hg
    | some p =>
      rw [hl] at hg
      simp only [Option.map_some, Option.some.injEq, Prod.mk.injEq] at hg
      exact ⟨p, rfl, hg.1, hg.2⟩
  rcases run_next_at (P := P) w ty r b s la bs es c h4 h1 h5 h6 with ⟨z, hrun⟩ | ⟨e, he, w1, hw1, hrun⟩
  · left
    refine ⟨fun p hp => ?_, hrun⟩
    obtain ⟨j, hj⟩ := List.mem_iff_getElem?.1 hp
    have hg := h3.get j
    rw [hj] at hg
    cases hes : es[j]? with
    | none => rw [hes] at hg; cases hg
    | some e =>
      have hin : e.born ∈ bs := by
        refine Classical.byContradiction fun hno => ?_
        have : e ∈ (leftOf es bs).toList := mem_leftOf.2 ⟨by simpa using Array.mem_of_getElem? hes, hno⟩
        have hz : (leftOf es bs).toList = [] := by
          have := Array.eq_empty_of_size_eq_zero z
          rw [this]
        rw [hz] at this
        cases this
      exact (h7 j e p hes hj).1 hin
  · right
    obtain ⟨hees, hnb⟩ := mem_leftOf.1 he
    obtain ⟨j, hj⟩ := List.mem_iff_getElem?.1 hees
    rw [Array.getElem?_toList] at hj
    obtain ⟨p, hp, hk, hv⟩ := hget j e hj
    have hns : p.1 ∉ seen := fun hs => hnb ((h7 j e p hj hp).2 hs)
    have hne : r ≠ b := fun e => by subst e; cases h1.det h4
    have hEff : Eff (fun x => x = r) w (setBlock w1 r (.mapIter (some b) s (bs.push e.born) c)) := by
      have h0 : Eff (fun x => x = r) w w1 := by
        rcases hw1 with rfl | rfl
        · exact Eff.refl _ _
        · exact (Eff.drew _).up
      exact h0.trans (Eff.setBlock _ _ _)
    have hr' : At (setBlock w1 r (.mapIter (some b) s (bs.push e.born) c)) r (.mapIter (some b) s (bs.push e.born) c) := by
      have : At w1 r (.mapIter (some b) s bs la) := by rcases hw1 with rfl | rfl <;> exact h4
      exact this.setBlock _
    have hb' : At (setBlock w1 r (.mapIter (some b) s (bs.push e.born) c)) b (.map es c) := hEff.at h1 fun e => hne e.symm
    refine ⟨p, _, List.mem_of_getElem? hp, hns, ?_, ⟨es, c, s, c, bs.push e.born, hb', h2, h3, hr', h5, h6', h6', ?_⟩, ?_, hEff⟩
    · rw [hrun, hk, hv]
      simp [Tup.vals]
    · intro i e' p' hi hp'
      simp only [Array.mem_push, List.mem_cons]
      rw [h7 i e' p' hi hp']
      have hiff : e'.born = e.born ↔ p'.1 = p.1 := by
        have inj1 : ∀ {γ : Type} {f : MapEntry → γ}, (es.toList.map f).Nodup → ∀ {i j : Nat} {x y : MapEntry}, es[i]? = some x → es[j]? = some y → f x = f y → i = j := by
          intro γ f hn i j x y hx hy hf
          obtain ⟨hi', ex⟩ := Array.getElem?_eq_some_iff.1 hx
          obtain ⟨hj', ey⟩ := Array.getElem?_eq_some_iff.1 hy
          have hP := List.pairwise_iff_getElem.1 hn
          rcases Nat.lt_trichotomy i j with h | h | h
          · exact (hP i j (by simpa using hi') (by simpa using hj') h (by simp [ex, ey, hf])).elim
          · exact h
          · exact (hP j i (by simpa using hj') (by simpa using hi') h (by simp [ex, ey, hf])).elim
        constructor
        · intro hbn
          have := inj1 h2.2.1 hi hj hbn
          subst this
          rw [hp] at hp'
          cases hp'
          rfl
        · intro hpp
          obtain ⟨p'', hp'', hk'', _⟩ := hget i e' hi
          rw [hp'] at hp''
          cases hp''
          have hkk : e'.key = e.key := by rw [hk'', hk, hpp]
          have hij := inj1 h2.2.2 hi hj hkk
          subst hij
          rw [hj] at hi
          cases hi
          rfl
      rw [hiff]
      exact Or.comm
    · have := run_entry_at (P := P) _ r b s bs es c e hr' hb' hees h2.2.1
      unfold EntryAt
      rw [this, hk, hv]
      simp [Tup.res, Tup.vals]

/-- An entry's value is written in a loop over the same map. -/
theorem IterAt.update [DecidableEq kty.C] {t kt et : TypeId} (K : KeyT P kt kty.mk) (ht : P.underlying t = some (.map kt et)) (h : IterAt kty vty w r b l seen) (a : kty.C) (v : vty.C) (ha : a ∈ l.map (·.1)) :
    ∃ w', (Instr.mapUpdate t (.map (some b)) (kty.mk a) (vty.mk v)).run P w = .ok () w' ∧ IterAt kty vty w' r b (aset l a v) seen ∧ Eff (fun x => x = b) w w' := by
  have hne := h.ne
  obtain ⟨es, c, s, la, bs, h1, h2, h3, h4, h5, h6, h6', h7⟩ := h
  obtain ⟨es', r1, r2, r3, r4⟩ := update_old K ht h1 h2 h3 a v ha
  have E := Eff.setBlock w b (.map es' c)
  refine ⟨_, r1, ⟨es', c, s, la, bs, h1.setBlock _, r2, r3, E.at h4 hne, ?_, h6, h6', ?_⟩, E⟩
  · intro x hx
    obtain ⟨i, hi⟩ := List.mem_iff_getElem?.1 hx
    rw [Array.getElem?_toList] at hi
    have := r4 i
    rw [hi] at this
    cases he : es[i]? with
    | none => rw [he] at this; cases this
    | some e =>
      rw [he] at this
      simp only [Option.map_some, Option.some.injEq] at this
      rw [this]
      exact h5 e (by simpa using Array.mem_of_getElem? he)
  · intro j e p he hp
    have hb := r4 j
    rw [he] at hb
    have hk := congrArg (·[j]?) (aset_keys v ha)
    simp only [List.getElem?_map, hp, Option.map_some] at hk
    cases he' : es[j]? with
    | none => rw [he'] at hb; cases hb
    | some e' =>
      rw [he'] at hb
      simp only [Option.map_some, Option.some.injEq] at hb
      cases hp' : l[j]? with
      | none => rw [hp'] at hk; cases hk
      | some p' =>
        rw [hp'] at hk
        simp only [Option.map_some, Option.some.injEq] at hk
        rw [hb, hk]
        exact h7 j e' p' he' hp'

def left [DecidableEq kty.C] (l : List (kty.C × vty.C)) (seen : List kty.C) : Nat := ((l.map (·.1)).filter fun a => a ∉ seen).length

theorem left_lt [DecidableEq kty.C] {p : kty.C × vty.C} (hp : p ∈ l) (hs : p.1 ∉ seen) (hk : l'.map (·.1) = l.map (·.1)) : left l' (p.1 :: seen) < left l seen := by
  unfold left
  rw [hk]
  have hm : p.1 ∈ l.map (·.1) := List.mem_map.2 ⟨p, hp, rfl⟩
  generalize l.map (·.1) = ks at hm
  generalize p.1 = a at hm hs ⊢
  clear hk hp
  have key : ∀ ks : List kty.C, ((ks.filter fun x => x ∉ a :: seen).length ≤ (ks.filter fun x => x ∉ seen).length) ∧ (a ∈ ks → (ks.filter fun x => x ∉ a :: seen).length < (ks.filter fun x => x ∉ seen).length) := by
    intro ks
    induction ks with
    | nil => exact ⟨Nat.le_refl _, fun h => by cases h⟩
    | cons x ks ih =>
      by_cases hx : x = a
      · subst hx
        have h1 : (decide (x ∉ x :: seen)) = false := by simp
        have h2 : (decide (x ∉ seen)) = true := by simp [hs]
        simp only [List.filter_cons, h1, h2, Bool.false_eq_true, if_false, if_true, List.length_cons]
        exact ⟨Nat.le_succ_of_le ih.1, fun _ => Nat.lt_succ_of_le ih.1⟩
      · by_cases hxs : x ∈ seen
        · have h1 : (decide (x ∉ a :: seen)) = false := by simp [hxs]
          have h2 : (decide (x ∉ seen)) = false := by simp [hxs]
          simp only [List.filter_cons, h1, h2, Bool.false_eq_true, if_false]
          exact ⟨ih.1, fun h => ih.2 ((List.mem_cons.1 h).resolve_left (Ne.symm hx))⟩
        · have h1 : (decide (x ∉ a :: seen)) = true := by simp [hx, hxs]
          have h2 : (decide (x ∉ seen)) = true := by simp [hxs]
          simp only [List.filter_cons, h1, h2, if_true, List.length_cons]
          exact ⟨Nat.succ_le_succ ih.1, fun h => Nat.succ_lt_succ (ih.2 ((List.mem_cons.1 h).resolve_left (Ne.symm hx)))⟩
  exact (key ks).2 hm

/-- A LOOP OVER A MAP. 'J': what is known, the keys that were seen; the map may get other values. -/
theorem range_loop [DecidableEq kty.C] {σ : Type} {s : σ} {ty : TypeId} {D : σ → World → Prop} {B : (σ → World → Prop) → σ → kty.C × vty.C → World → Prop}
    (J : List kty.C → List (kty.C × vty.C) → σ → World → Prop) (h : IterAt kty vty w r b l []) (h0 : J [] l s w)
    (fin : ∀ seen l s w, IterAt kty vty w r b l seen → J seen l s w → (∀ p ∈ l, p.1 ∈ seen) → D s w)
    (step : ∀ seen l s w p w' again, IterAt kty vty w r b l seen → J seen l s w → p ∈ l → p.1 ∉ seen → IterAt kty vty w' r b l (p.1 :: seen) → Eff (fun x => x = r) w w' →
      (∀ l' s' w'', l'.map (·.1) = l.map (·.1) → IterAt kty vty w'' r b l' (p.1 :: seen) → J (p.1 :: seen) l' s' w'' → again s' w'') → B again s p w') :
    loopP (fun again s w => nextP P (Instr.next (.pointer (some ⟨r, 0, none⟩)) false ty) [kty, vty] w (fun w => D s w) (fun _ w => rdP P (Instr.entry (.pointer (some ⟨r, 0, none⟩))) [kty, vty] w fun c => B again s c w)) s w := by
  refine loopP_count (fun n s w => ∃ l seen, n = left l seen ∧ IterAt kty vty w r b l seen ∧ J seen l s w) ⟨_, l, [], rfl, h, h0⟩ ?_
  rintro n s w ⟨l, seen, rfl, hi, hj⟩
  rcases next_step (P := P) ty hi with ⟨hall, hrun⟩ | ⟨p, w', hp, hs, hrun, hi', hent, hE⟩
  · exact .inl ⟨w, hrun, fin seen l s w hi hj hall⟩
  · refine .inr ⟨p, w', hrun, p, hent, ?_⟩
    exact step seen l s w p w' _ hi hj hp hs hi' hE fun l' s' w'' hk hi'' hj' => ⟨_, left_lt hp hs hk, l', p.1 :: seen, rfl, hi'', hj'⟩

end
end Go.Vc

/-
  Rows: what a slice holds; append.
-/
namespace Go.Vc

def Sl.v (s : Sl) : Value := .slice s.a s.len s.cap
def Sl.blk (s : Sl) : Option Nat := s.a.map (·.block)

/-- A slice's cells. -/
def RowAt (w : World) (e : TypeId) (sz : Nat) (s : Sl) (cs : List Value) : Prop :=
  cs.length = s.len * sz ∧ s.len ≤ s.cap ∧ ((s.a = none ∧ s.len = 0 ∧ s.cap = 0) ∨
    ∃ g o cur, s.a = some ⟨g, o, none⟩ ∧ At w g (.cells cur e (0, 0)) ∧ o + s.cap * sz ≤ cur.size ∧ ∀ i : Nat, i < s.len * sz → cur[o + i]? = cs[i]?)

/-- What is asked of a slice's type. -/
structure SlT (P : Program) (t e : TypeId) (sz bytes : Nat) : Prop where
  und : P.underlying t = some (.slice e)
  info : ∃ i z, P.info? e = some i ∧ i.zero = some z ∧ i.size = sz ∧ i.bytes = bytes ∧ z.cells.size = sz

section
variable {P : Program} {w w' : World} {e : TypeId} {sz : Nat} {s x : Sl} {cs xs news : List Value}

theorem RowAt.nil : RowAt w e sz ⟨none, 0, 0⟩ [] := ⟨by simp, Nat.le_refl _, .inl ⟨rfl, rfl, rfl⟩⟩

theorem RowAt.kept {S : Nat → Prop} (h : RowAt w e sz s cs) (hE : Eff S w w') (hn : ∀ b, s.blk = some b → ¬ S b) : RowAt w' e sz s cs := by
  obtain ⟨h1, h2, h3⟩ := h
  refine ⟨h1, h2, ?_⟩
  rcases h3 with h | ⟨g, o, cur, ha, hb, h⟩
  · exact .inl h
  · exact .inr ⟨g, o, cur, ha, hE.at hb (hn g (by simp [Sl.blk, ha])), h⟩

theorem RowAt.kept0 (h : RowAt w e sz s cs) (hE : Eff No w w') : RowAt w' e sz s cs := h.kept hE fun _ _ h => h

theorem RowAt.lt (h : RowAt w e sz s cs) {b : Nat} (hb : s.blk = some b) : b < w.heap.size := by
  obtain ⟨h1, h2, h3⟩ := h
  rcases h3 with ⟨h, _⟩ | ⟨g, o, cur, ha, hg, h⟩
  · simp [Sl.blk, h] at hb
  · simp [Sl.blk, ha] at hb
    subst hb
    exact hg.lt

/-- A new block as a whole. -/
theorem RowAt.new {b : Nat} {vs : List Value} (h : At w b (.cells vs.toArray e (0, 0))) {n : Nat} (hl : vs.length = n * sz) : RowAt w e sz ⟨some ⟨b, 0, none⟩, n, n⟩ vs :=
  ⟨hl, Nat.le_refl _, .inr ⟨b, 0, _, rfl, h, by simp [hl], fun i hi => by simp⟩⟩

theorem RowAt.cell (h : RowAt w e sz s cs) {A : Addr} (hA : s.a = some A) (j : Nat) (u : Value) (hu : cs[j]? = some u) : w.cell? (A.add j) = some u := by
  obtain ⟨h1, h2, h3⟩ := h
  rcases h3 with ⟨h, _⟩ | ⟨g, o, cur, ha, hg, _, h⟩
  · rw [h] at hA; cases hA
  · rw [ha] at hA
    cases hA
    have hj : j < s.len * sz := by
      rw [← h1]
      exact (List.getElem?_eq_some_iff.1 hu).1
    rw [addr_add, hg.cell, h j hj, hu]

theorem run_firstCells_row (h : RowAt w e sz s cs) : (Builtin.firstCells sz s.len s.v).run P w = .ok cs.toArray w := by
  cases hA : s.a with
  | none =>
    have : cs = [] := by
      obtain ⟨h1, h2, h3⟩ := h
      rcases h3 with ⟨_, h, _⟩ | ⟨g, o, cur, ha, _⟩
      · rw [h] at h1; simpa using h1
      · rw [hA] at ha; cases ha
    subst this
    simp [Sl.v, hA, Builtin.firstCells]
  | some A =>
    have := run_firstCells_some (P := P) w sz s.len A s.len s.cap cs h.1 (h.cell hA)
    simpa [Sl.v, hA] using this

theorem growslice_ok {need cap bytes : Nat} (h : cap < need) (hb : need * bytes ≤ 140737488355328) : Builtin.nextslicecap need cap * bytes ≤ 2 ^ 48 := growslice_fits h hb

theorem over_get : ∀ (vs : List Value) (c : Array Value) (o j : Nat), o + vs.length ≤ c.size → (over c o vs)[j]? = if o ≤ j ∧ j < o + vs.length then vs[j - o]? else c[j]?
  | [], c, o, j, h => by
    rw [if_neg (by simp only [List.length_nil]; omega)]
    rfl
  | v :: r, c, o, j, h => by
    simp only [List.length_cons] at h ⊢
    have hs : (c.setIfInBounds o v).size = c.size := by simp
    simp only [over]
    rw [over_get r (c.setIfInBounds o v) (o + 1) j (by rw [hs]; omega)]
    by_cases h1 : o = j
    · subst h1
      rw [if_neg (by omega), if_pos (by omega)]
      have hlt : o < c.size := by omega
      simp [hlt]
    · by_cases h2 : o + 1 ≤ j ∧ j < o + 1 + r.length
      · rw [if_pos h2, if_pos (by omega)]
        have : j - o = (j - (o + 1)) + 1 := by omega
        rw [this, List.getElem?_cons_succ]
      · rw [if_neg h2, if_neg (by omega)]
        simp [h1]

theorem row_of_new {b n cap : Nat} {xs rest : Array Value} (h : At w b (.cells (xs ++ rest) e (0, 0))) (hl : xs.size = n * sz) (hn : n ≤ cap) (hr : rest.size = (cap - n) * sz) : RowAt w e sz ⟨some ⟨b, 0, none⟩, n, cap⟩ xs.toList := by
  refine ⟨by simpa using hl, hn, .inr ⟨b, 0, _, rfl, h, ?_, fun i hi => ?_⟩⟩
  · have : cap * sz = n * sz + (cap - n) * sz := by rw [← Nat.add_mul]; congr 1; omega
    simp only [Array.size_append, hl, hr]
    show 0 + cap * sz ≤ _
    omega
  · have hi' : i < xs.size := by rw [hl]; exact hi
    simp [Array.getElem?_append, hi']

/-- 'append(s, x...)'. -/
theorem append_row {t ty : TypeId} {bytes : Nat} (T : SlT P t e sz bytes) (h : RowAt w e sz s xs) (hx : RowAt w e sz x news) (h1 : ∀ u ∈ news, u.oneCell' = true)
    (hm : s.len + x.len ≤ maxLen) (hbytes : (s.len + x.len) * bytes ≤ 140737488355328) :
    ∃ s' w', (Builtin.append_ #[t, t] ty #[s.v, x.v]).run P w = .ok (Sl.v s') w' ∧ RowAt w' e sz s' (xs ++ news) ∧ s'.len = s.len + x.len ∧ Eff (fun b => s.blk = some b) w w' ∧ (s'.blk = s.blk ∨ s'.blk = some w.heap.size) := by
  obtain ⟨i, z, hi, hz, hsz, hby, hzs⟩ := T.info
  have ht := T.und
  subst hsz
  subst hby
  have hlen : (xs ++ news).length = (s.len + x.len) * i.size := by rw [List.length_append, h.1, hx.1, Nat.add_mul]
  have hf := run_firstCells_row (P := P) hx
  unfold Sl.v at hf
  have hsmall : s.len + x.len ≤ 9223372036854775807 := by simp only [maxLen] at hm; omega
  have hcons : xs.toArray ++ news.toArray = (xs ++ news).toArray := by simp
  have mk : ∀ old, RowAt (w.drew.alloc (.cells (xs.toArray ++ news.toArray ++ Builtin.zeroCells z.cells (grownCap w (s.len + x.len) old e - (s.len + x.len))) e)) e i.size ⟨some ⟨w.heap.size, 0, none⟩, s.len + x.len, grownCap w (s.len + x.len) old e⟩ (xs ++ news) ∧
      Eff No w (w.drew.alloc (.cells (xs.toArray ++ news.toArray ++ Builtin.zeroCells z.cells (grownCap w (s.len + x.len) old e - (s.len + x.len))) e)) := by
    intro old
    refine ⟨?_, (Eff.drew w).trans (Eff.alloc _ _)⟩
    have hA : At (w.drew.alloc (.cells (xs.toArray ++ news.toArray ++ Builtin.zeroCells z.cells (grownCap w (s.len + x.len) old e - (s.len + x.len))) e)) w.heap.size (.cells ((xs ++ news).toArray ++ Builtin.zeroCells z.cells (grownCap w (s.len + x.len) old e - (s.len + x.len))) e (0, 0)) := by
      have := heap_alloc_new w.drew (.cells (xs.toArray ++ news.toArray ++ Builtin.zeroCells z.cells (grownCap w (s.len + x.len) old e - (s.len + x.len))) e)
      rw [hcons] at this ⊢
      exact this
    have := row_of_new (sz := i.size) (n := s.len + x.len) (cap := grownCap w (s.len + x.len) old e) hA (by simpa using hlen) (grownCap_ge w _ old e) (by rw [size_zeroCells, hzs])
    simpa using this
  by_cases hroom : s.len + x.len ≤ s.cap
  · -- in its place
    cases hA : s.a with
    | none =>
      obtain ⟨e1, e2, e3⟩ := h
      rcases e3 with ⟨_, e4, e5⟩ | ⟨g, o, cur, ha, _⟩
      · have hx0 : x.len = 0 := by omega
        have hn : news = [] := by
          have := hx.1
          rw [hx0] at this
          simpa using this
        have hxs : xs = [] := by rw [e4] at e1; simpa using e1
        subst hn
        subst hxs
        refine ⟨s, w, ?_, ⟨by simp [e4], e2, .inl ⟨hA, e4, e5⟩⟩, by omega, Eff.refl _ _, .inl rfl⟩
        simp [Sl.v, hA, e4, e5, hx0, Builtin.append_, run_underlying ht, sizeOf, typeInfo, hi, Builtin.lenOf] at hf ⊢
        simp [hf]
      · rw [hA] at ha; cases ha
    | some A =>
      obtain ⟨e1, e2, e3⟩ := h
      rcases e3 with ⟨e3, _⟩ | ⟨g, o, cur, ha, hg, hcs, hget⟩
      · rw [hA] at e3; cases e3
      · rw [hA] at ha
        cases ha
        have hfit : o + s.len * i.size + news.length ≤ cur.size := by
          have : s.len * i.size + x.len * i.size ≤ s.cap * i.size := by rw [← Nat.add_mul]; exact Nat.mul_le_mul_right _ hroom
          rw [hx.1]; omega
        have hst := run_storeCells P ⟨g, o + s.len * i.size, none⟩ news 0 w (fun j _ hj => by
          rw [addr_add, hg.cell]
          exact ⟨⟨cur[o + s.len * i.size + j]'(by omega), by simp⟩, hg.frozen⟩) h1
        refine ⟨⟨s.a, s.len + x.len, s.cap⟩, setCells w ⟨g, o + s.len * i.size, none⟩ news 0, ?_, ⟨hlen, hroom, .inr ⟨g, o, _, hA, hg.setCells news 0 w cur, ?_, ?_⟩⟩, rfl, ?_, .inl rfl⟩
        · simp [Sl.v, hA, Builtin.append_, run_underlying ht, sizeOf, typeInfo, hi, Builtin.lenOf, hf, hroom, addr_add, hst]
        · rw [over_size]; exact hcs
        · intro j hj
          rw [over_get _ _ _ _ (by omega)]
          have hj' : j < s.len * i.size + x.len * i.size := by rw [← Nat.add_mul]; exact hj
          by_cases hjs : j < s.len * i.size
          · rw [if_neg (by omega), hget j hjs, List.getElem?_append_left (by rw [e1]; exact hjs)]
          · rw [if_pos (by rw [hx.1]; omega), List.getElem?_append_right (by rw [e1]; omega), e1]
            congr 1
            omega
        · exact (Eff.setCells news 0 w).mono fun b _ hb => by simp [Sl.blk, hA, hb]
  · -- in a new block
    cases hXa : x.a with
    | none =>
      obtain ⟨_, _, e3⟩ := hx
      rcases e3 with ⟨_, e4, _⟩ | ⟨g, o, cur, ha, _⟩
      · have := h.2.1
        omega
      · rw [hXa] at ha; cases ha
    | some B =>
      obtain ⟨m2, m3⟩ := mk s.cap
      cases hA : s.a with
      | none =>
        obtain ⟨e1, e2, e3⟩ := h
        rcases e3 with ⟨_, e4, e5⟩ | ⟨g, o, cur, ha, _⟩
        · have hxs : xs = [] := by rw [e4] at e1; simpa using e1
          subst hxs
          have hr := run_append_nil (P := P) w t ty e i z ht hi hz B x.len x.cap news hx.1 (hx.cell hXa) (by omega) (by omega) (by have hb := hbytes; rw [e4] at hb; simp only [Nat.zero_add] at hb; omega)
          simp only [e4, e5, Nat.zero_add, List.nil_append, Array.empty_append] at m2 m3
          refine ⟨_, _, ?_, m2, by simp [e4], m3.up, .inr rfl⟩
          simpa [Sl.v, hA, hXa, e4, e5] using hr
        · rw [hA] at ha; cases ha
      | some A =>
        have hr := run_append_grow (P := P) w t ty e i z ht hi hz A s.len s.cap xs h.1 (h.cell hA) B x.len x.cap news hx.1 (hx.cell hXa) (by omega) (by omega) (growslice_fits (by omega) hbytes)
        refine ⟨_, _, ?_, m2, rfl, m3.up, .inr rfl⟩
        simpa [Sl.v, hA, hXa] using hr

end
end Go.Vc

/-
  Small things: 64 bits, cells of rows.
-/
namespace Go.Vc

theorem w64_id {x : Int} (h1 : -9223372036854775808 ≤ x) (h2 : x ≤ 9223372036854775807) : w64 x = x := by
  unfold w64
  exact Go.IntWalk.i64_in x ⟨h1, h2⟩

theorem onSome_some {α : Type} {a : α} {f : α → Prop} (h : f a) : onSome (some a) f := h

theorem RowAt.some {w : World} {e : TypeId} {sz : Nat} {s : Sl} {cs : List Value} (h : RowAt w e sz s cs) (h0 : 0 < s.len) : ∃ A, s.a = some A := by
  rcases h.2.2 with ⟨_, h2, _⟩ | ⟨g, o, cur, h2, _⟩
  · omega
  · exact ⟨_, h2⟩

theorem RowAt.len1 {w : World} {e : TypeId} {s : Sl} {cs : List Value} (h : RowAt w e 1 s cs) : s.len = cs.length := by
  have := h.1
  omega

/-- An element of one cell is read. -/
theorem ldP_row {w : World} {e : TypeId} {s : Sl} {cs : List Value} {l : Leaf} {K : l.C → Prop} {i : Nat} (x : l.C) (h : RowAt w e 1 s cs) (hi : cs[i]? = Option.some (l.mk x)) (k : K x) : onSome s.a fun A => ldP l (A.add (i * 1)) w K := by
  have hlt : i < cs.length := (List.getElem?_eq_some_iff.1 hi).1
  obtain ⟨A, hA⟩ := h.some (by rw [h.len1]; omega)
  rw [hA]
  exact ⟨x, h.cell hA _ _ (by rw [Nat.mul_one]; exact hi), k⟩

end Go.Vc

/-
  Maps whose keys are a struct of an int and a string.
-/
namespace Go.Vc
open Go.MapKept (IsKey Stamped)

section
variable {P : Program} {k : TypeId} {f1 f2 : Field}

theorem part_int {t : TypeId} (u : P.underlying t = some (.int .i64)) {xs : Array Value} {off : Nat} {v : Value} (hx : xs[off]? = some v) (w : World) : (part t xs off).run P w = .ok v w :=
  run_part_plain w (by simp [Program.plainKey, u]) hx

theorem part_str {t : TypeId} (u : P.underlying t = some .string) {xs : Array Value} {off : Nat} {v : Value} (hx : xs[off]? = some v) (w : World) : (part t xs off).run P w = .ok v w :=
  run_part_plain w (by simp [Program.plainKey, u]) hx

theorem KeyT.pair (hk : P.underlying k = some (.struct #[f1, f2])) (u1 : P.underlying f1.type = some (.int .i64)) (u2 : P.underlying f2.type = some .string) (n1 : (f1.name == "_") = false) (n2 : (f2.name == "_") = false)
    (o1 : f1.offset = 0) (o2 : f2.offset = 1) (hs : P.stoodInHeld k = false) : KeyT P k (Ty.mk (.agg [.int .i64, .str])) where
  inj a b h := by
    simp [Ty.mk, Carr.cells, Leaf.mk] at h
    exact Prod.ext h.1 h.2
  check w em a := by
    show (Instr.checkKey em (9998 + 1 + 1) k (.agg #[.int .i64 a.1, .string a.2])).run P w = _
    have h1 : (Instr.checkKey em (9998 + 1) f1.type (.int .i64 a.1)).run P w = .ok () w := MapKept.run_checkKey u1 (k := .int .i64 a.1) (show IsKey (.int .i64) (.int .i64 a.1) from rfl) em 9998
    have h2 : (Instr.checkKey em (9998 + 1) f2.type (.string a.2)).run P w = .ok () w := MapKept.run_checkKey u2 (k := .string a.2) (show IsKey .string (.string a.2) from trivial) em 9998
    have p1 := part_int (P := P) u1 (xs := #[Value.int .i64 a.1, Value.string a.2]) (off := f1.offset) (v := .int .i64 a.1) (by rw [o1]; rfl) w
    have p2 := part_str (P := P) u2 (xs := #[Value.int .i64 a.1, Value.string a.2]) (off := f2.offset) (v := .string a.2) (by rw [o2]; rfl) w
    rw [Instr.checkKey]
    generalize 9998 + 1 = n at h1 h2 ⊢
    simp [run_underlying hk, h1, h2, p1, p2, Result.andThen]
  find w a es hes := by
    have eqn : ∀ x y : Int × ByteArray, (Op.equal k (Ty.mk (.agg [.int .i64, .str]) x) (Ty.mk (.agg [.int .i64, .str]) y)).run P w = .ok (decide (x = y)) w := by
      intro x y
      show (Op.equalIn (9998 + 1 + 1) k (.agg #[.int .i64 x.1, .string x.2]) (.agg #[.int .i64 y.1, .string y.2])).run P w = _
      have p1 := fun (z : Int × ByteArray) => part_int (P := P) u1 (xs := #[Value.int .i64 z.1, Value.string z.2]) (off := f1.offset) (v := .int .i64 z.1) (by rw [o1]; rfl) w
      have p2 := fun (z : Int × ByteArray) => part_str (P := P) u2 (xs := #[Value.int .i64 z.1, Value.string z.2]) (off := f2.offset) (v := .string z.2) (by rw [o2]; rfl) w
      have h1 : (Op.equalIn (9998 + 1) f1.type (.int .i64 x.1) (.int .i64 y.1)).run P w = .ok (x.1 == y.1) w := by
        rw [Op.equalIn]
        simp [run_underlying u1, Result.andThen]
      have h2 : (Op.equalIn (9998 + 1) f2.type (.string x.2) (.string y.2)).run P w = .ok (x.2 == y.2) w := by
        rw [Op.equalIn]
        simp [run_underlying u2, Result.andThen]
      rw [Op.equalIn]
      generalize 9998 + 1 = n at h1 h2 ⊢
      have n1' : f1.name ≠ "_" := by simpa using n1
      have n2' : f2.name ≠ "_" := by simpa using n2
      have hd : decide (x = y) = ((x.1 == y.1) && (x.2 == y.2)) := by
        rw [Bool.eq_iff_iff]
        simp only [decide_eq_true_eq, Bool.and_eq_true, beq_iff_eq]
        exact ⟨fun h => by rw [h]; exact ⟨rfl, (MapKept.bytes_beq _ _).2 rfl⟩, fun h => Prod.ext h.1 ((MapKept.bytes_beq _ _).1 h.2)⟩
      rw [hd]
      cases e1 : x.1 == y.1 <;> cases e2 : x.2 == y.2 <;> rw [e1] at h1 <;> rw [e2] at h2 <;> simp [run_underlying hk, n1', n2', h1, h2, p1, p2, hs, Result.andThen]
    have hfind : (Instr.findKey k (Ty.mk (.agg [.int .i64, .str]) a) es).run P w = (Instr.findAsking k (Ty.mk (.agg [.int .i64, .str]) a) es).run P w := run_findKey_eq w (by rw [hk]) _ es
    rw [hfind]
    have go : ∀ (es : List MapEntry) (i : Nat), (∀ e ∈ es, ∃ x, e.key = Ty.mk (.agg [.int .i64, .str]) x) →
        ((Instr.findAsking k (Ty.mk (.agg [.int .i64, .str]) a) es i).run P w = .ok none w ∧ ∀ e ∈ es, e.key ≠ Ty.mk (.agg [.int .i64, .str]) a) ∨
        ∃ j e, (Instr.findAsking k (Ty.mk (.agg [.int .i64, .str]) a) es i).run P w = .ok (some (i + j, e.val)) w ∧ es[j]? = some e ∧ e.key = Ty.mk (.agg [.int .i64, .str]) a := by
      intro es
      induction es with
      | nil => intro i _; exact .inl ⟨by simp [Instr.findAsking], by simp⟩
      | cons e es ih =>
        intro i hall
        obtain ⟨y, hy⟩ := hall e (by simp)
        by_cases hay : a = y
        · subst hay
          exact .inr ⟨0, e, by simp [Instr.findAsking, hy, eqn], by simp, hy⟩
        · have hne : e.key ≠ Ty.mk (.agg [.int .i64, .str]) a := by
            rw [hy]
            intro h
            simp [Ty.mk, Carr.cells, Leaf.mk] at h
            exact hay (Prod.ext h.1.symm h.2.symm)
          rcases ih (i + 1) (fun z hz => hall z (by simp [hz])) with ⟨h1, h2⟩ | ⟨j, e', h1, h2, h3⟩
          · refine .inl ⟨by simp [Instr.findAsking, hy, eqn, hay, h1], fun z hz => ?_⟩
            rcases List.mem_cons.1 hz with rfl | hz
            · exact hne
            · exact h2 z hz
          · exact .inr ⟨j + 1, e', by simp [Instr.findAsking, hy, eqn, hay, h1]; omega, by simpa using h2, h3⟩
    rcases go es 0 hes with h | ⟨j, e, h1, h2, h3⟩
    · exact .inl h
    · exact .inr ⟨j, e, by simpa using h1, h2, h3⟩
  stays w a := by
    have : Instr.sameBits 10000 (Ty.mk (.agg [.int .i64, .str]) a) (Ty.mk (.agg [.int .i64, .str]) a) = true := by
      simp [Instr.sameBits, Ty.mk, Carr.cells, Leaf.mk]
      exact (MapKept.bytes_beq _ _).2 rfl
    simp [Instr.keyThatStays, this]

end
end Go.Vc

/-
  Maps as lists up to their order; loops over maps that leave the map as it is.
-/
namespace Go.Vc
open Go.ChangeMaps (setBlock)

section assoc
variable {α β : Type} [DecidableEq α]

theorem aget_mem {l : List (α × β)} {k : α} {v : β} (h : aget l k = some v) : (k, v) ∈ l := by
  induction l with
  | nil => cases h
  | cons x r ih =>
    obtain ⟨a, b⟩ := x
    simp only [aget] at h
    split at h
    · rename_i e
      cases h; subst e; simp
    · exact List.mem_cons_of_mem _ (ih h)

theorem aget_of_mem {l : List (α × β)} {k : α} {v : β} (hn : (l.map (·.1)).Nodup) (h : (k, v) ∈ l) : aget l k = some v := by
  obtain ⟨j, hj⟩ := List.mem_iff_getElem?.1 h
  exact aget_get hn hj

theorem aget_iff {l : List (α × β)} {k : α} {v : β} (hn : (l.map (·.1)).Nodup) : aget l k = some v ↔ (k, v) ∈ l := ⟨aget_mem, aget_of_mem hn⟩

theorem aget_eq_none {l : List (α × β)} {k : α} : aget l k = none ↔ k ∉ l.map (·.1) := by
  constructor
  · intro h hk
    induction l with
    | nil => cases hk
    | cons x r ih =>
      obtain ⟨a, b⟩ := x
      simp only [aget] at h
      split at h
      · cases h
      · rename_i e
        simp only [List.map_cons, List.mem_cons] at hk
        rcases hk with hk | hk
        · exact e hk.symm
        · exact ih h hk
  · intro h
    exact aget_none fun x hx e => h (List.mem_map.2 ⟨x, hx, e⟩)

theorem aget_key {l : List (α × β)} {k : α} (h : k ∈ l.map (·.1)) : ∃ v, aget l k = some v := by
  cases e : aget l k with
  | none => exact absurd h (aget_eq_none.1 e)
  | some v => exact ⟨v, rfl⟩

theorem key_of_aget {l : List (α × β)} {k : α} {v : β} (h : aget l k = some v) : k ∈ l.map (·.1) := List.mem_map.2 ⟨_, aget_mem h, rfl⟩

theorem aset_mem_keys (l : List (α × β)) (k : α) (v : β) (x : α) : x ∈ (aset l k v).map (·.1) ↔ x = k ∨ x ∈ l.map (·.1) := by
  induction l with
  | nil => simp [aset]
  | cons y r ih =>
    obtain ⟨a, b⟩ := y
    simp only [aset]
    split
    · rename_i e
      subst e
      simp
    · simp only [List.map_cons, List.mem_cons, ih]
      constructor
      · rintro (h | h | h)
        · exact .inr (.inl h)
        · exact .inl h
        · exact .inr (.inr h)
      · rintro (h | h | h)
        · exact .inr (.inl h)
        · exact .inl h
        · exact .inr (.inr h)

theorem nodup_aset {l : List (α × β)} (hn : (l.map (·.1)).Nodup) (k : α) (v : β) : ((aset l k v).map (·.1)).Nodup := by
  induction l with
  | nil => simp [aset]
  | cons y r ih =>
    obtain ⟨a, b⟩ := y
    simp only [List.map_cons, List.nodup_cons] at hn
    simp only [aset]
    split
    · simpa using hn
    · rename_i e
      simp only [List.map_cons, List.nodup_cons]
      refine ⟨fun h => ?_, ih hn.2⟩
      rcases (aset_mem_keys r k v a).1 h with h | h
      · exact e h
      · exact hn.1 h

theorem adel_keys_sub (l : List (α × β)) (k x : α) (h : x ∈ (adel l k).map (·.1)) : x ∈ l.map (·.1) := by
  induction l with
  | nil => exact h
  | cons y r ih =>
    obtain ⟨a, b⟩ := y
    simp only [adel] at h
    split at h
    · simp only [List.map_cons, List.mem_cons]; exact .inr h
    · simp only [List.map_cons, List.mem_cons] at h ⊢
      exact h.imp id ih

theorem nodup_adel {l : List (α × β)} (hn : (l.map (·.1)).Nodup) (k : α) : ((adel l k).map (·.1)).Nodup := by
  induction l with
  | nil => exact hn
  | cons y r ih =>
    obtain ⟨a, b⟩ := y
    simp only [List.map_cons, List.nodup_cons] at hn
    simp only [adel]
    split
    · exact hn.2
    · simp only [List.map_cons, List.nodup_cons]
      exact ⟨fun h => hn.1 (adel_keys_sub r k a h), ih hn.2⟩

theorem aget_adel {l : List (α × β)} (hn : (l.map (·.1)).Nodup) (k k' : α) : aget (adel l k) k' = if k' = k then none else aget l k' := by
  induction l with
  | nil => simp [adel, aget]
  | cons y r ih =>
    obtain ⟨a, b⟩ := y
    simp only [List.map_cons, List.nodup_cons] at hn
    simp only [adel]
    by_cases e : a = k
    · subst e
      rw [if_pos rfl]
      by_cases e' : k' = a
      · subst e'
        rw [if_pos rfl]
        exact aget_eq_none.2 hn.1
      · rw [if_neg e', aget, if_neg fun h => e' h.symm]
    · rw [if_neg e, aget, aget, ih hn.2]
      by_cases e' : a = k'
      · subst e'
        rw [if_pos rfl, if_pos rfl, if_neg e]
      · rw [if_neg e', if_neg e']

theorem perm_of_nodup {γ : Type} {l l' : List γ} (h1 : l.Nodup) (h2 : l'.Nodup) (h : ∀ x, x ∈ l ↔ x ∈ l') : l.Perm l' := by
  classical
  induction l generalizing l' with
  | nil =>
    cases l' with
    | nil => exact .refl _
    | cons y r => exact absurd ((h y).2 (by simp)) (by simp)
  | cons x r ih =>
    have hx : x ∈ l' := (h x).1 (by simp)
    obtain ⟨s, t, rfl⟩ := List.append_of_mem hx
    have hn := List.nodup_cons.1 h1
    have h2' : (x :: (s ++ t)).Nodup := (List.perm_middle.nodup_iff).1 h2
    have hn' := List.nodup_cons.1 h2'
    refine ((ih hn.2 hn'.2 fun y => ?_).cons x).trans List.perm_middle.symm
    have := h y
    simp only [List.mem_cons, List.mem_append] at this ⊢
    constructor
    · intro hy
      have hne : y ≠ x := fun e => hn.1 (e ▸ hy)
      rcases this.1 (.inr hy) with h | h | h
      · exact .inl h
      · exact absurd h hne
      · exact .inr h
    · intro hy
      have hne : y ≠ x := fun e => hn'.1 (by rw [← e]; exact List.mem_append.2 hy)
      rcases this.2 (hy.imp id .inr) with h | h
      · exact absurd h hne
      · exact h

theorem nodup_of_keys {γ δ : Type} {l : List (γ × δ)} (hn : (l.map (·.1)).Nodup) : l.Nodup := by
  induction l with
  | nil => exact .nil
  | cons x r ih =>
    simp only [List.map_cons, List.nodup_cons] at hn
    exact List.nodup_cons.2 ⟨fun h => hn.1 (List.mem_map.2 ⟨x, h, rfl⟩), ih hn.2⟩

theorem perm_of_aget {l l' : List (α × β)} (h1 : (l.map (·.1)).Nodup) (h2 : (l'.map (·.1)).Nodup) (h : ∀ k, aget l k = aget l' k) : l.Perm l' :=
  perm_of_nodup (nodup_of_keys h1) (nodup_of_keys h2) fun ⟨k, v⟩ => by rw [← aget_iff h1, ← aget_iff h2, h]

theorem aget_of_perm {l l' : List (α × β)} (h1 : (l.map (·.1)).Nodup) (h : l.Perm l') (k : α) : aget l k = aget l' k := by
  have h2 : (l'.map (·.1)).Nodup := ((h.map _).nodup_iff).1 h1
  cases e : aget l k with
  | none =>
    have := aget_eq_none.1 e
    exact (aget_eq_none.2 fun hk => this (((h.map (·.1)).mem_iff).2 hk)).symm
  | some v => exact (aget_of_mem h2 (h.mem_iff.1 (aget_mem e))).symm

end assoc

/-! ### small things -/
section
variable {S : Nat → Prop} {w w' w'' : World}

theorem cnd_t {b : Bool} {A B : Prop} (h : b = true) (k : A) : cnd b A B := by subst h; exact k
theorem cnd_f {b : Bool} {A B : Prop} (h : b = false) (k : B) : cnd b A B := by subst h; exact k

/-- What is changed was made on the way. -/
theorem Eff.fresh {b : Nat} (h : Eff S w w') (h' : Eff (fun x => x = b) w' w'') (hb : w.heap.size ≤ b) : Eff S w w'' :=
  h.comp h' fun _c hc e => absurd hc (Nat.not_lt.2 (e ▸ hb))

theorem Eff.thenDrew (h : Eff S w w') : Eff S w w'.drew := h.thenNo (Eff.drew w')

theorem At.drew {b : Nat} {o : Obj} (h : At w b o) : At w.drew b o := (Eff.drew w).at0 h

theorem At.ne {b : Nat} {o : Obj} (h : At w b o) {c : Nat} (hc : w.heap.size ≤ c) : b ≠ c := fun e => absurd h.lt (Nat.not_lt.2 (e ▸ hc))

theorem newP_cell {_A : Addr} {v : Value} {b : Nat} {c : Array Value} {t : TypeId} {f : Nat × Nat} {i : Nat} (h : At w b (.cells c t f)) (hv : c[i]? = some v) : w.cell? ⟨b, i, none⟩ = some v := h.cell.trans hv

end

/-- A map, up to the order of its entries. -/
def MapF {α β : Type} [DecidableEq α] (kf : α → Value) (vf : β → Value) (w : World) (b : Nat) (l : List (α × β)) : Prop :=
  (l.map (·.1)).Nodup ∧ ∃ l0, MapAt kf vf w b l0 ∧ ∀ k, aget l0 k = aget l k

/-- .. or nil. -/
def MapO {α β : Type} [DecidableEq α] (kf : α → Value) (vf : β → Value) (w : World) (m : Option Nat) (l : List (α × β)) : Prop :=
  (m = none ∧ l = []) ∨ ∃ b, m = some b ∧ MapF kf vf w b l

section
variable {P : Program} {α β : Type} [DecidableEq α] {kf : α → Value} {vf : β → Value} {w w' : World} {b : Nat} {l : List (α × β)} {m : Option Nat}

theorem MapF.new (h : At w b (.map #[] 0)) : MapF kf vf w b [] := ⟨.nil, [], MapAt.new h, fun _ => rfl⟩

theorem MapF.kept {S : Nat → Prop} (h : MapF kf vf w b l) (e : Eff S w w') (hn : ¬ S b) : MapF kf vf w' b l := by
  obtain ⟨h1, l0, h2, h3⟩ := h
  exact ⟨h1, l0, h2.kept e hn, h3⟩

theorem MapF.kept0 (h : MapF kf vf w b l) (e : Eff No w w') : MapF kf vf w' b l := h.kept e fun h => h

theorem MapF.lt (h : MapF kf vf w b l) : b < w.heap.size := by
  obtain ⟨_, _, h, _⟩ := h
  exact h.lt

theorem MapF.perm {l' : List (α × β)} (h : MapF kf vf w b l) (hp : l.Perm l') : MapF kf vf w b l' := by
  obtain ⟨h1, l0, h2, h3⟩ := h
  exact ⟨((hp.map _).nodup_iff).1 h1, l0, h2, fun k => (h3 k).trans (aget_of_perm h1 hp k)⟩

theorem MapF.look1 {t kt et : TypeId} (K : KeyT P kt kf) (ht : P.underlying t = some (.map kt et)) (h : MapF kf vf w b l) (a : α) {z : Value} (hz : (zeroValue et).run P w = .ok z w) :
    (Instr.lookup t (.map (some b)) (kf a) false).run P w = .ok (match aget l a with | some v => vf v | none => z) w := by
  obtain ⟨_, l0, h2, h3⟩ := h
  rw [← h3]
  exact lookup1 K ht h2 a z hz

theorem MapF.look2 {t kt et : TypeId} (K : KeyT P kt kf) (ht : P.underlying t = some (.map kt et)) (h : MapF kf vf w b l) (a : α) {z : Value} (hz : (zeroValue et).run P w = .ok z w) :
    (Instr.lookup t (.map (some b)) (kf a) true).run P w = .ok (.tuple #[(match aget l a with | some v => vf v | none => z), .bool (aget l a).isSome]) w := by
  obtain ⟨_, l0, h2, h3⟩ := h
  rw [← h3]
  exact lookup2 K ht h2 a z hz

theorem MapF.put {t kt et : TypeId} (K : KeyT P kt kf) (ht : P.underlying t = some (.map kt et)) (h : MapF kf vf w b l) (a : α) (v : β) :
    ∃ w', (Instr.mapUpdate t (.map (some b)) (kf a) (vf v)).run P w = .ok () w' ∧ MapF kf vf w' b (aset l a v) ∧ Eff (fun x => x = b) w w' := by
  obtain ⟨h1, l0, h2, h3⟩ := h
  obtain ⟨w', r1, r2, r3⟩ := update K ht h2 a v
  exact ⟨w', r1, ⟨nodup_aset h1 a v, _, r2, fun k => by rw [aget_aset, aget_aset, h3]⟩, r3⟩

theorem MapF.del {t kt et ty : TypeId} (K : KeyT P kt kf) (ht : P.underlying t = some (.map kt et)) (h : MapF kf vf w b l) (a : α) :
    ∃ w', (Builtin.delete_ #[t, kt] ty #[.map (some b), kf a]).run P w = .ok (.tuple #[]) w' ∧ MapF kf vf w' b (adel l a) ∧ Eff (fun x => x = b) w w' := by
  obtain ⟨h1, l0, h2, h3⟩ := h
  have hn := h2.nodup K
  obtain ⟨w', r1, r2, r3⟩ := delete (ty := ty) K ht h2 a
  exact ⟨w', r1, ⟨nodup_adel h1 a, _, r2, fun k => by rw [aget_adel hn, aget_adel h1, h3]⟩, r3⟩

theorem MapO.kept {S : Nat → Prop} (h : MapO kf vf w m l) (e : Eff S w w') (hn : ∀ b, m = some b → ¬ S b) : MapO kf vf w' m l := by
  rcases h with h | ⟨b, h1, h2⟩
  · exact .inl h
  · exact .inr ⟨b, h1, h2.kept e (hn b h1)⟩

theorem MapO.kept0 (h : MapO kf vf w m l) (e : Eff No w w') : MapO kf vf w' m l := h.kept e fun _ _ h => h

theorem MapO.lt (h : MapO kf vf w m l) {b : Nat} (hb : m = some b) : b < w.heap.size := by
  rcases h with h | ⟨b', h1, h2⟩
  · rw [h.1] at hb; cases hb
  · rw [h1] at hb; cases hb; exact h2.lt

theorem MapF.o (h : MapF kf vf w b l) : MapO kf vf w (some b) l := .inr ⟨b, rfl, h⟩

theorem MapO.f (h : MapO kf vf w (some b) l) : MapF kf vf w b l := by
  rcases h with h | ⟨b', h1, h2⟩
  · cases h.1
  · cases h1; exact h2

theorem MapO.nd (h : MapO kf vf w m l) : (l.map (·.1)).Nodup := by
  rcases h with h | ⟨b', h1, h2⟩
  · rw [h.2]; exact .nil
  · exact h2.1

theorem MapO.look1 {t kt et : TypeId} (K : KeyT P kt kf) (ht : P.underlying t = some (.map kt et)) (h : MapO kf vf w m l) (a : α) {z : Value} (hz : (zeroValue et).run P w = .ok z w) :
    (Instr.lookup t (.map m) (kf a) false).run P w = .ok (match aget l a with | some v => vf v | none => z) w := by
  rcases h with ⟨rfl, rfl⟩ | ⟨b', rfl, h2⟩
  · rcases K.find w a [] (by simp) with ⟨f1, _⟩ | ⟨j, e, _, hj, _⟩
    · simp [Instr.lookup, run_underlying ht, K.check, hz, f1, Result.andThen, aget]
    · simp at hj
  · exact h2.look1 K ht a hz

theorem MapO.look2 {t kt et : TypeId} (K : KeyT P kt kf) (ht : P.underlying t = some (.map kt et)) (h : MapO kf vf w m l) (a : α) {z : Value} (hz : (zeroValue et).run P w = .ok z w) :
    (Instr.lookup t (.map m) (kf a) true).run P w = .ok (.tuple #[(match aget l a with | some v => vf v | none => z), .bool (aget l a).isSome]) w := by
  rcases h with ⟨rfl, rfl⟩ | ⟨b', rfl, h2⟩
  · rcases K.find w a [] (by simp) with ⟨f1, _⟩ | ⟨j, e, _, hj, _⟩
    · simp [Instr.lookup, run_underlying ht, K.check, hz, f1, Result.andThen, aget]
    · simp at hj
  · exact h2.look2 K ht a hz

end

/-! ### loops that leave the map as it is -/
section
variable {P : Program} {kty vty : Ty} [DecidableEq kty.C] {w : World} {l : List (kty.C × vty.C)} {m : Option Nat}

/-- A LOOP OVER A MAP (nil too) that leaves it as it is. 'J': the entries that were seen, last one first. -/
theorem range_ro {σ : Type} {s : σ} {t kt et ty : TypeId} {D : σ → World → Prop} {B : (σ → World → Prop) → σ → kty.C × vty.C → World → Prop} (ht : P.underlying t = some (.map kt et)) (K : KeyT P kt kty.mk) (h : MapO kty.mk vty.mk w m l)
    (J : List (kty.C × vty.C) → σ → World → Prop) (h0 : ∀ w1, Eff No w w1 → J [] s w1)
    (hJ : ∀ ps s w1 w2, J ps s w1 → Eff (fun x => x = w.heap.size) w1 w2 → J ps s w2)
    (fin : ∀ ps s w1, J ps s w1 → ps.Perm l → D s w1)
    (step : ∀ ps s w1 p again, J ps s w1 → p ∈ l → p.1 ∉ ps.map (·.1) → (∀ q ∈ ps, q ∈ l) → w.heap.size < w1.heap.size →
      (∀ S s' w2, Eff S w1 w2 → ¬ S w.heap.size → (∀ b, m = some b → ¬ S b) → J (p :: ps) s' w2 → again s' w2) → B again s p w1) :
    runP P (Instr.range t (.map m)) [.one .ptr] w fun c w1 =>
      loopP (fun again s w => nextP P (Instr.next (.pointer c) false ty) [kty, vty] w (fun w => D s w) (fun _ w => rdP P (Instr.entry (.pointer c)) [kty, vty] w fun c => B again s c w)) s w1 := by
  rcases h with ⟨rfl, rfl⟩ | ⟨b, rfl, hn, l0, hm, hl⟩
  · obtain ⟨w1, r1, r2, r3⟩ := range_nil (P := P) (w := w) ht
    refine ⟨_, w1, r1, loopP_count (fun n s' w' => s' = s ∧ J [] s' w' ∧ At w' w.heap.size (.mapIter none 0 #[] 0)) ⟨0, rfl, h0 w1 r3, r2⟩ ?_⟩
    rintro n s' w' ⟨rfl, hj, ha⟩
    refine .inl ⟨w', ?_, fin [] _ _ hj (.refl _)⟩
    have ha' : w'.heap[w.heap.size]? = _ := ha
    simp [Instr.next, getObj, Sem.run, ha', Result.andThen]
  · obtain ⟨w1, r1, r2, r3⟩ := range_start (P := P) (kty := kty) (vty := vty) ht hm
    have hn0 := hm.nodup K
    refine ⟨_, w1, r1, range_loop (fun seen lc s w' => lc = l0 ∧ ∃ ps : List (kty.C × vty.C), ps.map (·.1) = seen ∧ (∀ p ∈ ps, p ∈ l) ∧ (ps.map (·.1)).Nodup ∧ J ps s w') r2 ⟨rfl, [], rfl, by simp, .nil, h0 w1 r3⟩ ?_ ?_⟩
    · rintro seen lc s' w' hi ⟨rfl, ps, rfl, hps, hnd, hj⟩ hall
      refine fin ps s' w' hj (perm_of_nodup (nodup_of_keys hnd) (nodup_of_keys hn) fun ⟨k, v⟩ => ⟨fun hx => hps _ hx, fun hx => ?_⟩)
      have h1 := aget_of_mem hn hx
      rw [← hl] at h1
      obtain ⟨⟨k', v'⟩, hq, rfl⟩ := List.mem_map.1 (hall _ (aget_mem h1))
      have h2 := aget_of_mem hn (hps _ hq)
      rw [hl] at h1
      rw [h1] at h2
      cases h2
      exact hq
    · rintro seen lc s' w1' p w2 again hi ⟨rfl, ps, rfl, hps, hnd, hj⟩ hp hs hi' hE hag
      have hpl : p ∈ l := by
        obtain ⟨k, v⟩ := p
        have h1 := aget_of_mem hn0 hp
        rw [hl] at h1
        exact aget_mem h1
      refine step ps s' w2 p again (hJ _ _ _ _ hj hE) hpl hs hps hi'.lt.1 fun S s'' w3 hS hr hb hj' => ?_
      exact hag lc s'' w3 rfl (hi'.kept hS hr (hb b rfl)) ⟨rfl, p :: ps, rfl, fun q hq => by
        rcases List.mem_cons.1 hq with rfl | hq
        · exact hpl
        · exact hps _ hq, List.nodup_cons.2 ⟨hs, hnd⟩, hj'⟩

end
end Go.Vc

/-
  Parts of rows; maps whose values are turned.
-/
namespace Go.Vc

section
variable {w : World} {e : TypeId} {sz : Nat} {s : Sl} {cs : List Value}

/-- 's[lo:]'. -/
def Sl.drop (s : Sl) (sz lo : Nat) : Sl := ⟨if s.cap = lo then s.a else s.a.map (·.add (lo * sz)), s.len - lo, s.cap - lo⟩

theorem Sl.drop_blk (s : Sl) (sz lo : Nat) : (s.drop sz lo).blk = s.blk := by
  unfold Sl.drop Sl.blk
  simp only
  split
  · rfl
  · cases s.a with
    | none => rfl
    | some A =>
      simp only [Option.map_some, Addr.add]
      split <;> rfl

theorem RowAt.drop (h : RowAt w e sz s cs) {lo : Nat} (hlo : lo ≤ s.len) : RowAt w e sz (s.drop sz lo) (cs.drop (lo * sz)) := by
  obtain ⟨h1, h2, h3⟩ := h
  refine ⟨by simp only [Sl.drop, List.length_drop, h1, Nat.sub_mul], by simp only [Sl.drop]; omega, ?_⟩
  rcases h3 with ⟨ha, hl, hc⟩ | ⟨g, o, cur, ha, hg, hcap, hget⟩
  · refine .inl ⟨?_, ?_, ?_⟩
    · simp [Sl.drop, ha]
    · simp only [Sl.drop]; omega
    · simp only [Sl.drop]; omega
  · by_cases hcl : s.cap = lo
    · refine .inr ⟨g, o, cur, ?_, hg, ?_, ?_⟩
      · simp [Sl.drop, ha, hcl]
      · have : o ≤ cur.size := by have := Nat.zero_le (s.cap * sz); omega
        simp only [Sl.drop, hcl, Nat.sub_self, Nat.zero_mul, Nat.add_zero]; exact this
      · intro i hi
        have : s.len - lo = 0 := by omega
        simp only [Sl.drop, this, Nat.zero_mul] at hi
        omega
    · refine .inr ⟨g, o + lo * sz, cur, ?_, hg, ?_, ?_⟩
      · simp [Sl.drop, ha, hcl, addr_add]
      · have e1 : (s.cap - lo) * sz = s.cap * sz - lo * sz := Nat.sub_mul _ _ _
        have e2 : lo * sz ≤ s.cap * sz := Nat.mul_le_mul_right _ (by omega)
        simp only [Sl.drop, e1]; omega
      · intro i hi
        simp only [Sl.drop, Nat.sub_mul] at hi
        rw [List.getElem?_drop, Nat.add_assoc]
        exact hget _ (by omega)

/-- 's[:hi]'. -/
theorem RowAt.take (h : RowAt w e sz s cs) {hi : Nat} (hhi : hi ≤ s.len) : RowAt w e sz ⟨s.a, hi, s.cap⟩ (cs.take (hi * sz)) := by
  obtain ⟨h1, h2, h3⟩ := h
  have e2 : hi * sz ≤ s.len * sz := Nat.mul_le_mul_right _ hhi
  refine ⟨by simp only [List.length_take, h1]; omega, by simp only; omega, ?_⟩
  rcases h3 with ⟨ha, hl, hc⟩ | ⟨g, o, cur, ha, hg, hcap, hget⟩
  · exact .inl ⟨ha, by simp only; omega, hc⟩
  · refine .inr ⟨g, o, cur, ha, hg, hcap, fun i hi' => ?_⟩
    simp only at hi'
    rw [List.getElem?_take, if_pos hi']
    exact hget i (by omega)

theorem slcP_drop {K : Sl → Prop} {lo : Int} (h0 : 0 ≤ lo) (h1 : lo.toNat ≤ s.len) (k : K (s.drop sz lo.toNat)) : slcP s lo none sz K :=
  ⟨trivial, h0, by simp only [hiOf]; omega, k⟩

end

theorem bytesEq (a b : ByteArray) : (a.toList == b.toList) = decide (a = b) := by
  rw [Bool.eq_iff_iff]
  simp only [beq_iff_eq, decide_eq_true_eq]
  rw [ByteArray.toList_eq, ByteArray.toList_eq]
  constructor
  · intro h
    exact ByteArray.ext (Array.ext' h)
  · intro h; rw [h]

section assoc
variable {α β γ : Type} [DecidableEq α]

theorem aget_map (l : List (α × β)) (g : β → γ) (k : α) : aget (l.map fun p => (p.1, g p.2)) k = (aget l k).map g := by
  induction l with
  | nil => rfl
  | cons x r ih =>
    obtain ⟨a, b⟩ := x
    simp only [List.map_cons, aget]
    split
    · rfl
    · exact ih

theorem keys_map {δ ε ζ : Type} (l : List (δ × ε)) (g : ε → ζ) : (l.map fun p => (p.1, g p.2)).map (·.1) = l.map (·.1) := by
  simp [List.map_map, Function.comp_def]

end assoc
end Go.Vc

/-
  Rows of structs.
-/
namespace Go.Vc

theorem flat_get {α β : Type} {f : α → List β} {n : Nat} (hf : ∀ x, (f x).length = n) : ∀ (xs : List α) (i j : Nat), j < n → (xs.flatMap f)[i * n + j]? = (xs[i]?).bind fun x => (f x)[j]?
  | [], i, j, _ => by simp
  | x :: xs, 0, j, hj => by
    simp only [List.flatMap_cons, Nat.zero_mul, Nat.zero_add, List.getElem?_cons_zero, Option.bind_some]
    rw [List.getElem?_append_left (by rw [hf]; exact hj)]
  | x :: xs, i + 1, j, hj => by
    simp only [List.flatMap_cons, List.getElem?_cons_succ]
    have e : (i + 1) * n + j - (f x).length = i * n + j := by rw [hf, Nat.succ_mul]; omega
    rw [List.getElem?_append_right (by rw [hf, Nat.succ_mul]; omega), e]
    exact flat_get hf xs i j hj

theorem flat_len {α β : Type} {f : α → List β} {n : Nat} (hf : ∀ x, (f x).length = n) (xs : List α) : (xs.flatMap f).length = xs.length * n := by
  induction xs with
  | nil => simp
  | cons x xs ih => simp only [List.flatMap_cons, List.length_append, hf, ih, List.length_cons, Nat.succ_mul]; omega

section
variable {w : World} {e : TypeId} {s : Sl} {ls : List Leaf} {xs : List (Carr ls)}

theorem RowAt.lenN (hn : 0 < ls.length) (h : RowAt w e ls.length s (xs.flatMap (Carr.cells ls))) : s.len = xs.length := by
  have h1 := h.1
  rw [flat_len (Carr.cells_length ls)] at h1
  exact (Nat.eq_of_mul_eq_mul_right hn h1).symm

theorem ldA_row {K : Carr ls → Prop} {i : Nat} {x : Carr ls} (hn : 0 < ls.length) (h : RowAt w e ls.length s (xs.flatMap (Carr.cells ls))) (hi : xs[i]? = some x) (k : K x) : onSome s.a fun A => ldA ls (A.add (i * ls.length)) w K := by
  have hlt : i < xs.length := (List.getElem?_eq_some_iff.1 hi).1
  have hl := RowAt.lenN hn h
  obtain ⟨A, hA⟩ := h.some (by omega)
  rw [hA]
  refine ⟨x, fun j v hv => ?_, k⟩
  have hj : j < ls.length := by
    have := (List.getElem?_eq_some_iff.1 hv).1
    rwa [Carr.cells_length] at this
  have := h.cell hA (i * ls.length + j) v (by rw [flat_get (Carr.cells_length ls) xs i j hj, hi]; exact hv)
  have e1 : (A.add (i * ls.length)).add j = A.add (i * ls.length + j) := by
    unfold Addr.add
    by_cases h1 : i * ls.length = 0
    · simp [h1]
    · by_cases h2 : j = 0
      · simp [h1, h2]
      · simp [h1, h2, Nat.add_assoc]
  rw [e1]
  exact this

end
end Go.Vc
