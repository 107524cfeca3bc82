/- My own rules for walking a function of the translation, shown sound: no condition. -/
import Derived.RangeFuncFrom
import Derived.RangeFuncLeaves
import Derived.Recover
import Derived.Deep.Quiet
import Derived.KernelRfl
import Derived.NoCompiler
set_option linter.unusedVariables false
set_option linter.unusedSimpArgs false
set_option linter.unusedSectionVars false
namespace Go.L
open Go Go.RowKit

/-- Nothing on the list makes a panicking frame catch. -/
def calm (todo : List Item) : Prop := ∀ d r n s rest, todo ≠ .call d r n s :: rest

def Arr (P : Program) (m : Machine) (b : Frame) (k : List Item) (cs : List Frame) : Exit → Act → World → Prop
  | .normal, a, w => Steps P m (lone (b.atR a k) cs w)
  | .exit id, a, w => (∀ k', exitTo id k = some k' → Steps P m (lone (b.atR a k') cs w)) ∧
      (b.roundOf.isSome = true → exitTo id k = none → ∃ k₁, exitTo id k₁ = none ∧ Steps P m (lone (b.atR a (.code (.exit id) :: k₁)) cs w))
  | .goto l, a, w => ∀ k', gotoIn l k = some k' → Steps P m (lone (b.atR a k') cs w)
  | .ret, a, w => (b.roundOf = none → ∃ todo, Steps P m (lone { b.atR a todo with mode := .returning } cs w)) ∧
      (b.roundOf.isSome = true → ∃ k₁, Steps P m (lone (b.atR a (.code .ret :: k₁)) cs w))
  | .panic chain, a, w => ∃ todo, calm todo ∧ Steps P m (lone { b.atR a todo with mode := .panicking chain } cs w)
  | .outgrown, _, _ => False

theorem Arr.of_steps {P : Program} {m m₁ : Machine} {b : Frame} {k : List Item} {cs : List Frame} {e : Exit} {a : Act} {w : World}
    (h : Steps P m m₁) (h' : Arr P m₁ b k cs e a w) : Arr P m b k cs e a w := by
  cases e with
  | normal => exact h.trans h'
  | exit id => exact ⟨fun k' hk => h.trans (h'.1 k' hk), fun hr hk => let ⟨k₁, h1, h2⟩ := h'.2 hr hk; ⟨k₁, h1, h.trans h2⟩⟩
  | goto l => exact fun k' hk => h.trans (h' k' hk)
  | ret => exact ⟨fun hr => let ⟨todo, hs⟩ := h'.1 hr; ⟨todo, h.trans hs⟩, fun hr => let ⟨k₁, hs⟩ := h'.2 hr; ⟨k₁, h.trans hs⟩⟩
  | panic chain => obtain ⟨todo, hc, hs⟩ := h'; exact ⟨todo, hc, h.trans hs⟩
  | outgrown => exact h'

theorem Arr.pass {P : Program} {m : Machine} {b : Frame} {x : Item} {k : List Item} {cs : List Frame} {e : Exit} {a : Act} {w : World}
    (hx : x.plain = true) (he : e ≠ .normal) (h : Arr P m b (x :: k) cs e a w) : Arr P m b k cs e a w := by
  cases e with
  | normal => exact absurd rfl he
  | exit id => exact ⟨fun k' hk => h.1 k' (by rw [exitTo_plain hx]; exact hk), fun hr hk => h.2 hr (by rw [exitTo_plain hx]; exact hk)⟩
  | goto l => exact fun k' hk => h k' (by rw [gotoIn_plain hx]; exact hk)
  | ret => exact h
  | panic chain => exact h
  | outgrown => exact h

def wpM (P : Program) (rd : Option Nat) (c : Code) (Q : Exit → Act → World → Prop) (a : Act) (w : World) : Prop :=
  ∀ (b : Frame) (k : List Item) (cs : List Frame), b.roundOf = rd → ∃ e a' w', Q e a' w' ∧ Arr P (lone (b.atR a (.code c :: k)) cs w) b k cs e a' w'

section rules
variable {P : Program} {rd : Option Nat} {Q : Exit → Act → World → Prop} {a : Act} {w : World}

theorem wpM_mono {c : Code} {Q' : Exit → Act → World → Prop} (h : wpM P rd c Q a w) (hq : ∀ e a w, Q e a w → Q' e a w) : wpM P rd c Q' a w :=
  fun b k cs hr => let ⟨e, a', w', q, r⟩ := h b k cs hr; ⟨e, a', w', hq _ _ _ q, r⟩
theorem wpM_skip (h : Q .normal a w) : wpM P rd .skip Q a w := fun _ _ _ _ => ⟨.normal, a, w, h, Steps.one stepR_skip⟩
theorem wpM_label {l : Nat} (h : Q .normal a w) : wpM P rd (.label l) Q a w := fun _ _ _ _ => ⟨.normal, a, w, h, Steps.one stepR_label⟩
theorem wpM_exit {id : Nat} (h : Q (.exit id) a w) : wpM P rd (.exit id) Q a w :=
  fun _ k _ _ => ⟨.exit id, a, w, h, fun _ hk => .one (stepR_exit hk), fun _ hk => ⟨k, hk, .refl _ _⟩⟩
theorem wpM_goto {l : Nat} (h : Q (.goto l) a w) : wpM P rd (.goto l) Q a w := fun _ _ _ _ => ⟨.goto l, a, w, h, fun _ hk => .one (stepR_goto hk)⟩
theorem wpM_ret (h : Q .ret a w) : wpM P rd .ret Q a w :=
  fun _ k _ _ => ⟨.ret, a, w, h, fun hn => ⟨_, .one (stepR_ret hn)⟩, fun _ => ⟨k, .refl _ _⟩⟩
theorem wpM_seq {x y : Code} (h : wpM P rd x (Exit.then (wpM P rd y Q) Q) a w) : wpM P rd (.seq x y) Q a w := by
  intro b k cs hr
  obtain ⟨e, a₁, w₁, hq, harr⟩ := h b (.code y :: k) cs hr
  cases e with
  | normal =>
    obtain ⟨e₂, a₂, w₂, hq₂, harr₂⟩ := hq b k cs hr
    exact ⟨e₂, a₂, w₂, hq₂, .of_steps (.head stepR_seq harr) harr₂⟩
  | exit id => exact ⟨_, a₁, w₁, hq, .of_steps (.one stepR_seq) (.pass (x := .code y) rfl (by simp) harr)⟩
  | goto l => exact ⟨_, a₁, w₁, hq, .of_steps (.one stepR_seq) (.pass (x := .code y) rfl (by simp) harr)⟩
  | ret => exact ⟨_, a₁, w₁, hq, .of_steps (.one stepR_seq) (.pass (x := .code y) rfl (by simp) harr)⟩
  | panic ch => exact ⟨_, a₁, w₁, hq, .of_steps (.one stepR_seq) (.pass (x := .code y) rfl (by simp) harr)⟩
  | outgrown => exact harr.elim
theorem wpM_cond {c : Operand} {x y : Code} {t : Bool} (hc : a.eval c = .bool t) (h : wpM P rd (if t then x else y) Q a w) : wpM P rd (.cond c x y) Q a w :=
  fun b k cs hr => let ⟨e, a', w', q, r⟩ := h b k cs hr; ⟨e, a', w', q, .of_steps (.one (stepR_cond hc)) r⟩
theorem wpM_block {id : Nat} {c : Code} (h : wpM P rd c (Exit.inBlock id Q) a w) : wpM P rd (.block id c) Q a w := by
  intro b k cs hr
  obtain ⟨e, a₁, w₁, hq, harr⟩ := h b (.inBlock id :: k) cs hr
  cases e with
  | normal => exact ⟨.normal, a₁, w₁, hq, Steps.head stepR_block (Steps.trans harr (.one stepR_inBlock))⟩
  | exit id' =>
    by_cases hid : id' = id
    · simp only [Exit.inBlock, hid, if_true] at hq
      exact ⟨.normal, a₁, w₁, hq, Steps.head stepR_block (harr.1 k (by simp [exitTo, hid]))⟩
    · simp only [Exit.inBlock, hid, if_false] at hq
      have this : (id == id') = false := by simp; exact fun h => hid h.symm
      have hx : exitTo id' (.inBlock id :: k) = exitTo id' k := by simp [exitTo, this]
      exact ⟨.exit id', a₁, w₁, hq, fun k' hk => .head stepR_block (harr.1 k' (by rw [hx]; exact hk)),
        fun hr' hk => let ⟨k₁, h1, h2⟩ := harr.2 hr' (by rw [hx]; exact hk); ⟨k₁, h1, .head stepR_block h2⟩⟩
  | goto l => exact ⟨_, a₁, w₁, hq, fun k' hk => .head stepR_block (harr k' (by simp [gotoIn, hk]))⟩
  | ret => exact ⟨_, a₁, w₁, hq, .of_steps (.one stepR_block) harr⟩
  | panic ch => exact ⟨_, a₁, w₁, hq, .of_steps (.one stepR_block) harr⟩
  | outgrown => exact harr.elim

theorem stepR_scope {b : Frame} {k : List Item} {cs : List Frame} {c : Code} : step P (lone (b.atR a (.code (.scope c) :: k)) cs w) = .next (lone (b.atR a (.code c :: .inScope c :: k)) cs w) :=
  step_lone_go (by simp [stepG, stepG.exec, Frame.atR])
theorem stepR_inScope {b : Frame} {k : List Item} {cs : List Frame} {c : Code} : step P (lone (b.atR a (.inScope c :: k)) cs w) = .next (lone (b.atR a k) cs w) :=
  step_lone_go (by simp [stepG, stepG.exec, Frame.atR])
theorem wpM_scope {c : Code} (hn : ∀ l a w, ¬ Q (.goto l) a w) (h : wpM P rd c Q a w) : wpM P rd (.scope c) Q a w := by
  intro b k cs hr
  obtain ⟨e, a₁, w₁, hq, harr⟩ := h b (.inScope c :: k) cs hr
  cases e with
  | normal => exact ⟨.normal, a₁, w₁, hq, Steps.head stepR_scope (Steps.trans harr (.one stepR_inScope))⟩
  | exit id =>
    have hx : exitTo id (.inScope c :: k) = exitTo id k := by simp [exitTo]
    exact ⟨.exit id, a₁, w₁, hq, fun k' hk => .head stepR_scope (harr.1 k' (by rw [hx]; exact hk)),
        fun hr' hk => let ⟨k₁, h1, h2⟩ := harr.2 hr' (by rw [hx]; exact hk); ⟨k₁, h1, .head stepR_scope h2⟩⟩
  | goto l => exact (hn _ _ _ hq).elim
  | ret => exact ⟨_, a₁, w₁, hq, .of_steps (.one stepR_scope) harr⟩
  | panic ch => exact ⟨_, a₁, w₁, hq, .of_steps (.one stepR_scope) harr⟩
  | outgrown => exact harr.elim

/-- A scope whose one label lies behind what may jump to it: 'x; l: y'. -/
theorem wpM_scope_goto {x y : Code} {l : Nat} (hf : findLabel x l = none) (hn : ∀ l a w, ¬ Q (.goto l) a w)
    (h : wpM P rd x (fun e a w => match e with | .normal => wpM P rd y Q a w | .goto l' => l' = l ∧ wpM P rd y Q a w | e => Q e a w) a w) : wpM P rd (.scope (.seq x (.seq (.label l) y))) Q a w := by
  intro b k cs hr
  obtain ⟨body, hbody⟩ : ∃ body, body = Code.seq x (.seq (.label l) y) := ⟨_, rfl⟩
  have fin : ∀ (m : Machine) a₁ w₁, wpM P rd y Q a₁ w₁ → Steps P m (lone (b.atR a₁ (.code y :: .inScope body :: k)) cs w₁) → ∃ e a' w', Q e a' w' ∧ Arr P m b k cs e a' w' := by
    intro m a₁ w₁ hy hs
    obtain ⟨e₂, a₂, w₂, hq₂, harr₂⟩ := hy b (.inScope body :: k) cs hr
    cases e₂ with
    | normal => exact ⟨.normal, a₂, w₂, hq₂, Steps.trans hs (Steps.trans harr₂ (.one stepR_inScope))⟩
    | exit id =>
      have hx : exitTo id (.inScope body :: k) = exitTo id k := by simp [exitTo]
      exact ⟨.exit id, a₂, w₂, hq₂, fun k' hk => hs.trans (harr₂.1 k' (by rw [hx]; exact hk)),
        fun hr' hk => let ⟨k₁, h1, h2⟩ := harr₂.2 hr' (by rw [hx]; exact hk); ⟨k₁, h1, hs.trans h2⟩⟩
    | goto l => exact (hn _ _ _ hq₂).elim
    | ret => exact ⟨_, a₂, w₂, hq₂, .of_steps hs harr₂⟩
    | panic ch => exact ⟨_, a₂, w₂, hq₂, .of_steps hs harr₂⟩
    | outgrown => exact harr₂.elim
  have s0 : Steps P (lone (b.atR a (.code (.scope body) :: k)) cs w) (lone (b.atR a (.code x :: .code (.seq (.label l) y) :: .inScope body :: k)) cs w) :=
    .head stepR_scope (.one (by rw [hbody]; exact stepR_seq))
  rw [← hbody]
  obtain ⟨e, a₁, w₁, hq, harr⟩ := h b (.code (.seq (.label l) y) :: .inScope body :: k) cs hr
  cases e with
  | normal => exact fin _ a₁ w₁ hq (Steps.trans s0 (Steps.trans harr (.head stepR_seq (.one stepR_label))))
  | goto l' =>
    obtain ⟨rfl, hy⟩ := hq
    have hg : gotoIn l' (.code (.seq (.label l') y) :: .inScope body :: k) = some (.code (.seq .skip y) :: .inScope body :: k) := by
      simp [gotoIn, hbody, findLabel, hf]
    exact fin _ a₁ w₁ hy (Steps.trans s0 (Steps.trans (harr _ hg) (.head stepR_seq (.one stepR_skip))))
  | exit id =>
    have hx : exitTo id (.code (.seq (.label l) y) :: .inScope body :: k) = exitTo id k := by simp [exitTo]
    exact ⟨.exit id, a₁, w₁, hq, fun k' hk => s0.trans (harr.1 k' (by rw [hx]; exact hk)),
        fun hr' hk => let ⟨k₁, h1, h2⟩ := harr.2 hr' (by rw [hx]; exact hk); ⟨k₁, h1, s0.trans h2⟩⟩
  | ret => exact ⟨_, a₁, w₁, hq, .of_steps s0 harr⟩
  | panic ch => exact ⟨_, a₁, w₁, hq, .of_steps s0 harr⟩
  | outgrown => exact harr.elim

theorem wpM_loop {c : Code} (I : Act → World → Prop) (μ : Act → World → Nat) (h₀ : I a w)
    (round : ∀ a w, I a w → wpM P rd c (Exit.then (fun a' w' => I a' w' ∧ μ a' w' < μ a w) Q) a w) : wpM P rd (.loop c) Q a w := by
  intro b k cs hr
  have key : ∀ j a w, μ a w = j → I a w → ∃ e a' w', Q e a' w' ∧ Arr P (lone (b.atR a (.code c :: .inLoop c :: k)) cs w) b k cs e a' w' := by
    intro j
    induction j using Nat.strongRecOn with
    | _ j ih =>
      intro a w hn hI
      obtain ⟨e, a₁, w₁, hq, harr⟩ := round a w hI b (.inLoop c :: k) cs hr
      cases e with
      | normal =>
        obtain ⟨hI₁, hlt⟩ := hq
        obtain ⟨e₂, a₂, w₂, hq₂, harr₂⟩ := ih (μ a₁ w₁) (hn ▸ hlt) a₁ w₁ rfl hI₁
        exact ⟨e₂, a₂, w₂, hq₂, .of_steps (Steps.trans harr (.one stepR_inLoop)) harr₂⟩
      | exit id => exact ⟨_, a₁, w₁, hq, .pass (x := .inLoop c) rfl (by simp) harr⟩
      | goto l => exact ⟨_, a₁, w₁, hq, .pass (x := .inLoop c) rfl (by simp) harr⟩
      | ret => exact ⟨_, a₁, w₁, hq, .pass (x := .inLoop c) rfl (by simp) harr⟩
      | panic ch => exact ⟨_, a₁, w₁, hq, .pass (x := .inLoop c) rfl (by simp) harr⟩
      | outgrown => exact harr.elim
  obtain ⟨e, a', w', hq, harr⟩ := key _ a w rfl h₀
  exact ⟨e, a', w', hq, .of_steps (.one stepR_loop) harr⟩
end rules

/-- One round of a range over a function, as yield's caller meets it. -/
def RoundC (P : Program) (l : Nat) (f : FuncId) (tmps : Array Value) (asn body : Code) (w : World) (R : Ending → World → Prop) : Prop :=
  ∀ (c : Frame) (cs : List Frame), ∃ e w', R e w' ∧ (match e with
    | .returned v => Steps P (lone (Frame.round l f tmps asn body .normal) (c :: cs) w) (lone (c.finish v) cs w')
    | .panicked chain => Steps P (lone (Frame.round l f tmps asn body .normal) (c :: cs) w) (lone (c.raise chain) cs w')
    | .outgrown => False)
theorem RoundC.mono {P : Program} {l : Nat} {f : FuncId} {tmps : Array Value} {asn body : Code} {w : World} {R R' : Ending → World → Prop}
    (h : RoundC P l f tmps asn body w R) (hr : ∀ e w', R e w' → R' e w') : RoundC P l f tmps asn body w R' :=
  fun c cs => let ⟨e, w', r, s⟩ := h c cs; ⟨e, w', hr _ _ r, s⟩

def uponM (P : Program) (o : Oper) (a : Act) (next : Act → World → Prop) (Q : Exit → Act → World → Prop) : Result Next → Prop
  | .ok (.value v) w' => next (a.put o.dst v) w'
  | .ok .skip w' => next (a.put o.dst undef) w'
  | .ok (.defer d) w' => next ({ a with defers := d :: a.defers }.put o.dst undef) w'
  | .ok (.enter f args) w' => Calls P f args w' fun
      | .returned v, w'' => next (a.put o.dst v) w''
      | .panicked chain, w'' => Q (.panic chain) a w''
      | .outgrown, _ => False
  | .ok (.round l f tmps asn body) w' => RoundC P l f tmps asn body w' fun
      | .returned v, w'' => next (a.put o.dst v) w''
      | .panicked chain, w'' => Q (.panic chain) a w''
      | .outgrown, _ => False
  | .halt (.panic v) w' => Q (.panic [{ v, recovered := false }]) a w'
  | _ => False

def opM (P : Program) (rd : Option Nat) (o : Oper) (a : Act) (w : World) (next : Act → World → Prop) (Q : Exit → Act → World → Prop) : Prop :=
  uponM P o a next Q ((o.semAt rd a.eval).run P w)

def wpOpsM (P : Program) (rd : Option Nat) (ops : Array Oper) (Q : Exit → Act → World → Prop) : List Nat → Act → World → Prop
  | [], a, w => Q .normal a w
  | i :: rest, a, w =>
    match ops[i]? with
    | none => wpOpsM P rd ops Q rest a w
    | some o =>
      if Region.wanted o (yielded ops a.tmps) then opM P rd o a w (wpOpsM P rd ops Q rest) Q
      else wpOpsM P rd ops Q rest (a.put o.dst undef) w

theorem wp_opsM {P : Program} {rd : Option Nat} {ops : Array Oper} {Q : Exit → Act → World → Prop} (l : List Nat) :
    ∀ (a : Act) (w : World), wpOpsM P rd ops Q l a w → ∀ (b : Frame) (k : List Item) (cs : List Frame), b.roundOf = rd →
      ∃ e a' w', Q e a' w' ∧ Arr P (lone (b.atR a (.inRegion ops l :: k)) cs w) b k cs e a' w' := by
  induction l with
  | nil => exact fun a w h b k cs _ => ⟨.normal, a, w, h, Steps.one stepR_region_end⟩
  | cons i rest ih =>
    intro a w h b k cs hro
    simp only [wpOpsM] at h
    cases ho : ops[i]? with
    | none =>
      simp only [ho] at h
      obtain ⟨e, a', w', hq, harr⟩ := ih a w h b k cs hro
      have hs := stepR_op_skip (P := P) (b := b) (a := a) (k := k) (cs := cs) (w := w) (ops := ops) (i := i) (rest := rest) (by simp [ho])
      simp only [ho, Option.bind_none, Act.put] at hs
      exact ⟨e, a', w', hq, .of_steps (.one hs) harr⟩
    | some o =>
      simp only [ho] at h
      by_cases hw : Region.wanted o (yielded ops a.tmps) = true
      · simp only [hw, if_true, opM] at h
        have hg := stepGR_op (P := P) (b := b) (k := k) (cs := cs) (w := w) (rest := rest) ho hw
        rw [hro] at hg
        have hfin : ∀ v, (b.atR a (.inRegion ops (i :: rest) :: k)).finish v = b.atR (a.put o.dst v) (.inRegion ops rest :: k) := by
          intro v; rw [Frame.finish_atR, ho]; rfl
        generalize hr' : (o.semAt rd a.eval).run P w = r at h hg
        cases r with
        | halt x w' =>
          cases x <;> simp only [uponM] at h
          rename_i v
          refine ⟨_, a, w', h, .inRegion ops (i :: rest) :: k, (by intro d r n s rest h; cases h), .one (step_lone_go ?_)⟩
          rw [hg, ← Frame.raise_atR]; simp [stepG.apply, hr']
        | ok nx w' =>
          cases nx <;> simp only [uponM] at h
          case value v =>
            obtain ⟨e, a', w'', hq, harr⟩ := ih _ _ h b k cs hro
            refine ⟨e, a', w'', hq, .of_steps (.one (step_lone_go ?_)) harr⟩
            rw [hg, ← hfin]; simp [stepG.apply, hr']
          case skip =>
            obtain ⟨e, a', w'', hq, harr⟩ := ih _ _ h b k cs hro
            refine ⟨e, a', w'', hq, .of_steps (.one (step_lone_go ?_)) harr⟩
            rw [hg, ← hfin]; simp [stepG.apply, hr']
          case defer d =>
            obtain ⟨e, a', w'', hq, harr⟩ := ih _ _ h b k cs hro
            refine ⟨e, a', w'', hq, .of_steps (.one (step_lone_go ?_)) harr⟩
            have : ({ b.atR a (.inRegion ops (i :: rest) :: k) with defers := d :: a.defers } : Frame).finish undef =
                b.atR ({ a with defers := d :: a.defers }.put o.dst undef) (.inRegion ops rest :: k) := by
              have := Frame.finish_atR b { a with defers := d :: a.defers } ops i rest k undef
              rw [ho] at this; exact this
            rw [hg]; simp only [stepG.apply, Sem.runT_eq, hr', GStep.bare_after]
            exact congrArg (fun fr => GStep.go { frame := fr, callers := cs, status := .running, dying := none } w') this
          case enter f args =>
            obtain ⟨e, w'', fr, hR, hsteps, _, hleave⟩ := h (b.atR a (.inRegion ops (i :: rest) :: k) :: cs)
            have henter : step P (lone (b.atR a (.inRegion ops (i :: rest) :: k)) cs w) =
                .next (lone (Frame.enter P f args .normal) (b.atR a (.inRegion ops (i :: rest) :: k) :: cs) w') :=
              step_lone_go (by rw [hg]; simp [stepG.apply, hr', Frame.atR])
            cases e with
            | returned v =>
              obtain ⟨e, a', w₃, hq, harr⟩ := ih _ _ hR b k cs hro
              refine ⟨e, a', w₃, hq, .of_steps (.head henter (Steps.trans hsteps (.one ?_))) harr⟩
              rw [← hfin]; exact step_leave_returned hleave
            | panicked chain =>
              refine ⟨.panic chain, a, w'', hR, .inRegion ops (i :: rest) :: k, (by intro d r n s rest h; cases h), .head henter (Steps.trans hsteps (.one ?_))⟩
              rw [← Frame.raise_atR]; exact step_leave_panicked hleave
            | outgrown => exact hR.elim
          case round l f tmps asn body =>
            obtain ⟨e, w'', hR, hsteps⟩ := h (b.atR a (.inRegion ops (i :: rest) :: k)) cs
            have henter : step P (lone (b.atR a (.inRegion ops (i :: rest) :: k)) cs w) =
                .next (lone (Frame.round l f tmps asn body .normal) (b.atR a (.inRegion ops (i :: rest) :: k) :: cs) w') :=
              step_lone_go (by rw [hg]; simp [stepG.apply, hr', Frame.atR])
            cases e with
            | returned v =>
              obtain ⟨e, a', w₃, hq, harr⟩ := ih _ _ hR b k cs hro
              refine ⟨e, a', w₃, hq, .of_steps (.head henter ?_) harr⟩
              rw [← hfin]; exact hsteps
            | panicked chain =>
              refine ⟨.panic chain, a, w'', hR, .inRegion ops (i :: rest) :: k, (by intro d r n s rest h; cases h), .head henter ?_⟩
              rw [← Frame.raise_atR]; exact hsteps
            | outgrown => exact hR.elim
      · simp only [hw, if_false, Bool.false_eq_true] at h
        obtain ⟨e, a', w', hq, harr⟩ := ih _ _ h b k cs hro
        have hs := stepR_op_skip (P := P) (b := b) (a := a) (k := k) (cs := cs) (w := w) (ops := ops) (i := i) (rest := rest)
          (by simp [ho]; simpa using hw)
        simp only [ho, Option.bind_some] at hs
        exact ⟨e, a', w', hq, .of_steps (.one hs) harr⟩

theorem wpM_region {P : Program} {rd : Option Nat} {id : Nat} {ops : Array Oper} {Q : Exit → Act → World → Prop} {a : Act} {w : World}
    (h : wpOpsM P rd ops Q (List.range ops.size) a w) : wpM P rd (.region id ops false) Q a w :=
  fun b k cs hro => let ⟨e, a', w', q, r⟩ := wp_opsM _ a w h b k cs hro; ⟨e, a', w', q, .of_steps (.one stepR_region) r⟩
theorem wpM_region_draw {P : Program} {rd : Option Nat} {id : Nat} {ops : Array Oper} {Q : Exit → Act → World → Prop} {a : Act} {w : World}
    (h : ∀ t, wpOpsM P rd ops Q (Region.schedule (P.follows .mixedOrders) ops t) a { w with drawn := w.drawn + 1 }) : wpM P rd (.region id ops true) Q a w :=
  fun b k cs hro => let ⟨e, a', w', q, r⟩ := wp_opsM _ a _ (h _) b k cs hro; ⟨e, a', w', q, .of_steps (.one stepR_region_draw) r⟩
end Go.L
namespace Go.L
open Go Go.RowKit

/-- What the temporaries hold. -/
abbrev Env := Nat → Value
abbrev Chain := List PanicEntry
abbrev QE := Exit → Env → List Deferred → World → Prop

/-- What an operation is walked with: the program, and what is asked where it panics. -/
structure Cx where
  P : Program
  X : Chain → World → Prop
  /-- Within a region that draws its order: each operation must leave the world as it was (but for draws). -/
  q : Bool := false

def after (k : Value → World → Prop) (X : Chain → World → Prop) : Ending → World → Prop
  | .returned v, w => k v w
  | .panicked c, w => X c w
  | .outgrown, _ => False

def kNext (c : Cx) (k : Value → World → Prop) : Result Next → Prop
  | .ok (.value v) w => k v w
  | .ok .skip w => k undef w
  | .ok (.enter f args) w => Calls c.P f args w (after k c.X)
  | .ok (.round l f tmps asn body) w => RoundC c.P l f tmps asn body w (after k c.X)
  | .halt (.panic v) w => c.X [{ v, recovered := false }] w
  | _ => False

def kQuiet (c : Cx) (w : World) (s : Sem Next) (k : Value → World → Prop) : Prop :=
  ∃ v, (∀ n, Oper.quietUpon c.P (fun w' => ∃ n, w' = w.drewN n) (w.drewN n) v (s.run c.P (w.drewN n))) ∧ k v w
def kSem (c : Cx) (w : World) (s : Sem Next) (k : Value → World → Prop) : Prop :=
  match c.q with
  | false => kNext c k (s.run c.P w)
  | true => kQuiet c w s k
def kVal (c : Cx) (w : World) (s : Sem Value) (k : Value → World → Prop) : Prop := kSem c w (do pure (.value (← s))) k
def kUnit (c : Cx) (w : World) (s : Sem Unit) (k : World → Prop) : Prop := kSem c w (do s; pure .skip) (fun _ w => k w)

def kIfD (v : Value) (A B : Prop) : Prop :=
  match v with
  | .bool true => A
  | .bool false => B
  | _ => False
structure kIf (v : Value) (A B : Prop) : Prop where
  of : kIfD v A B
def kExtD (v : Value) (i : Nat) (k : Value → Prop) : Prop :=
  match v with
  | .tuple vs => match vs[i]? with | some x => k x | none => False
  | _ => False
structure kExt (v : Value) (i : Nat) (k : Value → Prop) : Prop where
  of : kExtD v i k

structure kAlloc (c : Cx) (w : World) (t : TypeId) (k : Value → World → Prop) : Prop where
  of : kVal c w (Instr.alloc t true (.tuple #[])) k
structure kBox (c : Cx) (w : World) (t : TypeId) (v : Value) (k : Value → World → Prop) : Prop where
  of : kVal c w (Instr.box t v) k
structure kBuild (c : Cx) (w : World) (t : TypeId) (ps : Array (Nat × Value)) (k : Value → World → Prop) : Prop where
  of : kVal c w (Instr.build t ps) k
structure kBuildS (c : Cx) (w : World) (t : TypeId) (n : Nat) (ps : Array (Nat × Value)) (k : Value → World → Prop) : Prop where
  of : kVal c w (Instr.buildSlice t n ps) k
structure kLoad (c : Cx) (w : World) (t : TypeId) (a : Value) (k : Value → World → Prop) : Prop where
  of : kVal c w (Instr.loadAt t a) k
structure kStore (c : Cx) (w : World) (t : TypeId) (a v : Value) (k : World → Prop) : Prop where
  of : kUnit c w (Instr.storeAt t a v) k
structure kBin (c : Cx) (w : World) (op : BinOp) (t : TypeId) (x y : Value) (k : Value → World → Prop) : Prop where
  of : kVal c w (binOp op t x y) k
structure kEq (c : Cx) (w : World) (op : BinOp) (t : TypeId) (ox oy : Operand) (x y : Value) (k : Value → World → Prop) : Prop where
  of :
    kVal c w (do eqGuard op t ox oy x y; binOp op t x y) k
structure kUn (c : Cx) (w : World) (op : UnOp) (x : Value) (k : Value → World → Prop) : Prop where
  of : kVal c w (Op.unary op x) k
structure kConv (c : Cx) (w : World) (s d : TypeId) (x : Value) (k : Value → World → Prop) : Prop where
  of : kVal c w (convert s d x) k
structure kMkI (c : Cx) (w : World) (t : TypeId) (x : Value) (k : Value → World → Prop) : Prop where
  of : kVal c w (Instr.makeInterface t x) k
structure kMkMap (c : Cx) (w : World) (t : TypeId) (r : Option Value) (k : Value → World → Prop) : Prop where
  of : kVal c w (Instr.makeMap t r) k
structure kMkSl (c : Cx) (w : World) (t : TypeId) (l cp : Value) (k : Value → World → Prop) : Prop where
  of : kVal c w (Instr.makeSlice t l cp) k
structure kSl (c : Cx) (w : World) (t : TypeId) (x : Value) (lo hi mx : Option Value) (k : Value → World → Prop) : Prop where
  of : kVal c w (Instr.sliceAt t x lo hi mx) k
structure kFa (c : Cx) (w : World) (s : TypeId) (x : Value) (f : Nat) (k : Value → World → Prop) : Prop where
  of : kVal c w (Instr.fieldAt s x f) k
structure kFd (c : Cx) (w : World) (s : TypeId) (x : Value) (f : Nat) (k : Value → World → Prop) : Prop where
  of : kVal c w (Instr.field s x f) k
structure kIa (c : Cx) (w : World) (t : TypeId) (x i : Value) (k : Value → World → Prop) : Prop where
  of : kVal c w (Instr.indexAt t x i) k
structure kIx (c : Cx) (w : World) (t : TypeId) (x i : Value) (k : Value → World → Prop) : Prop where
  of : kVal c w (Instr.index t x i) k
structure kLook (c : Cx) (w : World) (t : TypeId) (x i : Value) (ok : Bool) (k : Value → World → Prop) : Prop where
  of : kVal c w (Instr.lookup t x i ok) k
structure kUpd (c : Cx) (w : World) (t : TypeId) (m i x : Value) (k : World → Prop) : Prop where
  of : kUnit c w (Instr.mapUpdate t m i x) k
structure kMpE (c : Cx) (w : World) (t : TypeId) (m i : Value) (k : Value → World → Prop) : Prop where
  of : kVal c w (Instr.mapEntry t m i) k
structure kEntS (c : Cx) (w : World) (t : TypeId) (m s x : Value) (k : World → Prop) : Prop where
  of : kUnit c w (Instr.entryStore t m s x) k
structure kRng (c : Cx) (w : World) (t : TypeId) (x : Value) (k : Value → World → Prop) : Prop where
  of : kVal c w (Instr.range t x) k
structure kNxt (c : Cx) (w : World) (it : Value) (s : Bool) (ty : TypeId) (k : Value → World → Prop) : Prop where
  of : kVal c w (Instr.next it s ty) k
structure kEnt (c : Cx) (w : World) (it : Value) (k : Value → World → Prop) : Prop where
  of : kVal c w (Instr.entry it) k
structure kTA (c : Cx) (w : World) (x : Value) (t a : TypeId) (ok : Bool) (k : Value → World → Prop) : Prop where
  of : kVal c w (Instr.typeAssert x t a ok) k
def kNilD (c : Cx) (w : World) (x : Value) (k : Value → World → Prop) : Prop :=
  match x with
  | .pointer (some a) => k (.pointer (some a)) w
  | .func (.func f) a b => k (.func (.func f) a b) w
  | _ => False
structure kNil (c : Cx) (w : World) (x : Value) (k : Value → World → Prop) : Prop where
  of : kNilD c w x k
structure kCall (c : Cx) (w : World) (f : FuncId) (args : Array Value) (k : Value → World → Prop) : Prop where
  of : kSem c w (callFunc f args) k
structure kCallV (c : Cx) (w : World) (v : Value) (args : Array Value) (k : Value → World → Prop) : Prop where
  of :
    kSem c w (do let d ← Deferred.ofValue v args; invoke d.target d.args) k
structure kInv (c : Cx) (w : World) (recv : Value) (name : String) (args : Array Value) (k : Value → World → Prop) : Prop where
  of : kSem c w (invoke (.fn (.method name) #[]) (#[recv] ++ args)) k
structure kBlt (c : Cx) (w : World) (b : Builtin) (ats : Array TypeId) (ty : TypeId) (cs : Array Bool) (args : Array Value) (k : Value → World → Prop) : Prop where
  of :
    kSem c w (builtin b ats ty cs args) k
structure kPanic (c : Cx) (w : World) (x : Value) : Prop where
  of : kVal c w (Instr.panic x) (fun _ _ => False)

/-! ### The generator of what is to be shown -/
def ev (e : Env) : Operand → Value
  | .tmp t => e t
  | .const v => v
  | .global g => .pointer (some ⟨g, 0, none⟩)
  | .func f => .func (.func f) #[] #[]
/-- A frame of n temporaries, one written. -/
def upd (n : Nat) (e : Env) (d : Nat) (v : Value) : Env := fun t => bif (Nat.beq t d && Nat.ble (d + 1) n) then v else e t
def put (n : Nat) (e : Env) : Option Tmp → Value → Env
  | some d, v => upd n e d v
  | none, _ => e
/-- What is known of temporaries: a Bool, or that they hold nothing (their operation was passed over). -/
abbrev Kn := List (Nat × Option Bool)
def knDel (kn : Kn) : Option Tmp → Kn
  | some d => kn.filter (fun p => p.1 != d)
  | none => kn
def knOf (kn : Kn) : Operand → Option Bool
  | .tmp t => (kn.lookup t).join
  | .const (.bool true) => some true
  | .const (.bool false) => some false
  | _ => none
def knPut (n : Nat) (kn : Kn) (dst : Option Tmp) (b : Option Bool) : Kn :=
  match dst, b with
  | some d, some b => if d < n then (d, some b) :: kn.filter (fun p => p.1 != d) else kn.filter (fun p => p.1 != d)
  | some d, none => kn.filter (fun p => p.1 != d)
  | none, _ => kn

def knSkip (n : Nat) (kn : Kn) : Option Tmp → Kn
  | some d => if d < n then (d, none) :: kn.filter (fun p => p.1 != d) else kn.filter (fun p => p.1 != d)
  | none => kn

def isCst : Operand → Bool
  | .const _ => true
  | _ => false

abbrev KE := Kn → Env → List Deferred → World → Prop

/-- One operation: 'k' is asked of what it yields (and of the Bool that is known to be yielded, if one is), 'kd' of a deferred call. -/
def vcOpV (P : Program) (rd : Option Nat) (q : Bool) (X : Chain → World → Prop) (o : Oper) (kn : Kn) (e : Env) (w : World)
    (kb : Option Bool → Value → World → Prop) (kd : Deferred → World → Prop) : Prop :=
  let c : Cx := ⟨P, X, q⟩
  let k : Value → World → Prop := fun v w' => kb none v w'
  let ku : World → Prop := fun w' => kb none undef w'
  match o.op with
  | .move x | .assign x => kb (knOf kn x) (ev e x) w
  | .pick q a b =>
    match knOf kn q with
    | some true => kb (knOf kn a) (ev e a) w
    | some false => kb (knOf kn b) (ev e b) w
    | none => kIf (ev e q) (kb (knOf kn a) (ev e a) w) (kb (knOf kn b) (ev e b) w)
  | .alloc t => kAlloc c w t k
  | .box t x => kBox c w t (ev e x) k
  | .build t ps => kBuild c w t (ps.map fun (i, x) => (i, ev e x)) k
  | .buildSlice t n ps => kBuildS c w t n (ps.map fun (i, x) => (i, ev e x)) k
  | .load t a => kLoad c w t (ev e a) k
  | .store t a x => kStore c w t (ev e a) (ev e x) ku
  | .nilCheck x => kNil c w (ev e x) k
  | .binOp op t x y _ =>
    match op with
    | .eql => kEq c w .eql t x y (ev e x) (ev e y) k
    | .neq => kEq c w .neq t x y (ev e x) (ev e y) k
    | op => kBin c w op t (ev e x) (ev e y) k
  | .unOp op _ x => kUn c w op (ev e x) k
  | .convert s t x => kConv c w s t (ev e x) k
  | .makeInterface t x => kMkI c w t (ev e x) k
  | .makeFunc fn f cp => k (.func fn (f.map (ev e)) (cp.map (ev e))) w
  | .makeMap t r => kMkMap c w t (r.map (ev e)) k
  | .makeSlice t l cp => kMkSl c w t (ev e l) (ev e cp) k
  | .slice t x lo hi mx => kSl c w t (ev e x) (lo.map (ev e)) (hi.map (ev e)) (mx.map (ev e)) k
  | .fieldAddr s x f => kFa c w s (ev e x) f k
  | .field s x f => kFd c w s (ev e x) f k
  | .indexAddr t x i => kIa c w t (ev e x) (ev e i) k
  | .index t x i => kIx c w t (ev e x) (ev e i) k
  | .lookup t x i ok => kLook c w t (ev e x) (ev e i) ok k
  | .mapUpdate t m i x => kUpd c w t (ev e m) (ev e i) (ev e x) ku
  | .insert t m i x => kUpd c w t (ev e m) (ev e i) (ev e x) ku
  | .mapEntry t m i => kMpE c w t (ev e m) (ev e i) k
  | .entryStore t m s x => kEntS c w t (ev e m) (ev e s) (ev e x) ku
  | .range t x => kRng c w t (ev e x) k
  | .next it s => kNxt c w (ev e it) s o.type k
  | .entry it => kEnt c w (ev e it) k
  | .typeAssert x t a ok => kTA c w (ev e x) t a ok k
  | .extract t i => kExt (ev e t) i (fun v => k v w)
  | .call cl =>
    match cl.callee with
    | .builtin b => kBlt c w b cl.argTypes o.type (cl.args.map isCst) (cl.args.map (ev e)) k
    | .invoke r m => kInv c w (ev e r) m (cl.args.map (ev e)) k
    | .value (.func f) => kCall c w f (cl.args.map (ev e)) k
    | .value v => kCallV c w (ev e v) (cl.args.map (ev e)) k
  | .defer cl =>
    match q, rd, cl.callee with
    | false, none, .value (.func f) => kd { target := .fn (.func f) #[], args := cl.args.map (ev e) } w
    | _, _, _ => False
  | .panic x => kPanic c w (ev e x)
  | _ => False

def vcOp (P : Program) (n : Nat) (rd : Option Nat) (q : Bool) (Q : QE) (o : Oper) (K : KE) (kn : Kn) (e : Env) (d : List Deferred) (w : World) : Prop :=
  vcOpV P rd q (fun ch w' => Q (.panic ch) e d w') o kn e w (fun b v w' => K (knPut n kn o.dst b) (put n e o.dst v) d w')
    (fun df w' => K (knPut n kn o.dst none) (put n e o.dst undef) (df :: d) w')

def vcOps (P : Program) (n : Nat) (rd : Option Nat) (q : Bool) (ops : Array Oper) (Q : QE) : List Oper → KE
  | [], _, e, d, w => Q .normal e d w
  | o :: rest, kn, e, d, w =>
    match o.guard with
    | none => vcOp P n rd q Q o (vcOps P n rd q ops Q rest) kn e d w
    | some (j, want) =>
      match (ops[j]?).bind (·.dst) with
      | none => False
      | some t =>
        match kn.lookup t with
        | some (some true) => if want then vcOp P n rd q Q o (vcOps P n rd q ops Q rest) kn e d w else vcOps P n rd q ops Q rest (knSkip n kn o.dst) (put n e o.dst undef) d w
        | some (some false) => if want then vcOps P n rd q ops Q rest (knSkip n kn o.dst) (put n e o.dst undef) d w else vcOp P n rd q Q o (vcOps P n rd q ops Q rest) kn e d w
        | some none => vcOps P n rd q ops Q rest (knSkip n kn o.dst) (put n e o.dst undef) d w
        | none =>
          kIf (e t)
            (if want then vcOp P n rd q Q o (vcOps P n rd q ops Q rest) ((t, some true) :: kn) (upd n e t (.bool true)) d w
             else vcOps P n rd q ops Q rest (knSkip n ((t, some true) :: kn) o.dst) (put n (upd n e t (.bool true)) o.dst undef) d w)
            (if want then vcOps P n rd q ops Q rest (knSkip n ((t, some false) :: kn) o.dst) (put n (upd n e t (.bool false)) o.dst undef) d w
             else vcOp P n rd q Q o (vcOps P n rd q ops Q rest) ((t, some false) :: kn) (upd n e t (.bool false)) d w)

/-! ### Code -/
/-- The order in which a region's operations are shown: quiet ones, ones with effects, and which of those may come next. -/
inductive Plan where
  | done
  | q (i : Nat) (p : Plan)
  | e (i : Nat) (p : Plan)
  | or (i : Nat) (p : Plan) (r : Plan)
structure Ann where
  /-- the slots that a loop hands on, by the block's number that is around it -/
  loops : List (Nat × List Nat) := []
  /-- the regions that draw their order and are to be shown operation by operation -/
  pars : List Nat := []
  /-- the loops whose rounds may add to the deferred calls -/
  dvar : List Nat := []
  /-- the regions that draw their order, whose operations with effects wait for each other: an order in which they are shown, and those with effects -/
  chs : List (Nat × Plan) := []

def thenQ (K : Env → List Deferred → World → Prop) (Q : QE) : QE := fun ex e d w =>
  match ex with
  | .normal => K e d w
  | ex => Q ex e d w
def inBlk (id : Nat) (Q : QE) : QE := fun ex e d w =>
  match ex with
  | .exit i => if i = id then Q .normal e d w else Q (.exit i) e d w
  | ex => Q ex e d w
def noGo (Q : QE) : QE := fun ex e d w =>
  match ex with
  | .goto _ => False
  | ex => Q ex e d w

def opsWrites (ops : List Oper) : List Nat := ops.filterMap (·.dst)
def writes : Code → List Nat
  | .region _ ops _ => opsWrites ops.toList
  | .seq a b => writes a ++ writes b
  | .cond _ a b => writes a ++ writes b
  | .block _ c => writes c
  | .loop c => writes c
  | .scope c => writes c
  | _ => []
def nub : List Nat → List Nat
  | [] => []
  | x :: xs => x :: (nub xs).filter (· != x)

def setMany (n : Nat) (e : Env) (vals : List Value) : List Nat → Nat → Env
  | [], _ => e
  | s :: ss, i => setMany n (upd n e s (vals.getD i undef)) vals ss (i + 1)

structure kLoop (x0 : List Value) (d : List Deferred) (w : World)
    (body : List Value → List Value → List Deferred → World → (List Value → List Deferred → World → Prop) → Prop) : Prop where
  of :
    ∃ (I : List Value → List Deferred → World → Prop) (μ : List Value → List Deferred → World → Nat), I x0 d w ∧
      ∀ cs ds d' w', I cs d' w' → body cs ds d' w' (fun x2 d2 w2 => I x2 d2 w2 ∧ μ x2 d2 w2 < μ cs d' w')

/-- The same where no round adds to the deferred calls. -/
structure kLoopF (x0 : List Value) (w : World) (body : List Value → List Value → World → (List Value → World → Prop) → Prop) : Prop where
  of :
    ∃ (I : List Value → World → Prop) (μ : List Value → World → Nat), I x0 w ∧
      ∀ cs ds w', I cs w' → body cs ds w' (fun x2 w2 => I x2 w2 ∧ μ x2 w2 < μ cs w')
structure kD (d2 d : List Deferred) (A : Prop) : Prop where
  of : d2 = d ∧ A

def keyOf : Code → Option Nat
  | .region id _ _ => some id
  | .seq a b => match keyOf a with | some k => some k | none => keyOf b
  | .cond _ a b => match keyOf a with | some k => some k | none => keyOf b
  | .block _ c => keyOf c
  | .loop c => keyOf c
  | .scope c => keyOf c
  | _ => none
/-- The number under which a meeting of ways ahead of 'c' is kept among the loops. -/
def jid (c : Code) : Nat := match keyOf c with | some k => Nat.add k 1000000 | none => 999999
def slotsAt (A : Ann) (id : Nat) (c : Code) : List Nat := (((A.loops.lookup id).getD []).filter (fun s => (writes c).contains s))
def deadAt (A : Ann) (id : Nat) (c : Code) : List Nat := (nub (writes c)).filter (fun s => !(slotsAt A id c).contains s)

/-- How a round is left. -/
structure rndEnd (l D : Nat) (lo : Loop) (w0 : World) (R : Exit → World → Prop) (ex : Exit) (d : List Deferred) (w : World) : Prop where
  of : d = [] ∧ w.heap[l]? = some (.loop lo) ∧ w.heap[D]? = w0.heap[D]? ∧ R ex w
/-- Between the left sides' assignment and the body. -/
structure rndMid (l D : Nat) (w w1 : World) (f : Loop → World → Prop) : Prop where
  of : w1.heap[l]? = w.heap[l]? ∧ w1.heap[D]? = w.heap[D]? ∧ ∀ lo, f lo (w1.putObj l (.loop lo))
/-- One round of a range over a function: the left sides' assignment, then the body (the loop's record, block 'l', is marked in between). -/
def rnd (vcA vcB : QE → Env → List Deferred → World → Prop) (l D : Nat) (e : Env) (w : World) (R : Exit → World → Prop) : Prop :=
  vcA (fun ex e1 d1 w1 => match ex with
    | .normal => rndMid l D w w1 fun lo w2 => vcB (noGo (fun ex2 _ d2 w2 => rndEnd l D lo w R ex2 d2 w2)) e1 d1 w2
    | _ => False) e [] w

def Stab (J : World → Prop) : Prop := ∀ W W', J W → Below W.heap.size W W' → J W'
def YieldC (P : Program) (l : Nat) (args : Array Value) (W : World) (R : Ending → World → Prop) : Prop :=
  ∃ fn tmps asn body, (Instr.yield l args).run P W = .ok (.round l fn tmps asn body) W ∧ RoundC P l fn tmps asn body W R

/-- What an iterator does with a yield: it hands over 'xs 0', 'xs 1' .. as long as yield says true. -/
def Iter (P : Program) (g : Value) (n : Nat) (xs : Nat → Array Value) (J : Nat → World → Prop) (w : World) : Prop :=
  ∃ gf lb, g = .func (.func gf) #[] lb ∧ (∀ args w, (callFunc gf args).run P w = .ok (.enter gf args) w) ∧
  ∀ (l : Nat) (J' : Nat → World → Prop) (Z' : Exit → World → Prop) (W : World), Below w.heap.size w W → (∀ i, Stab (J' i)) → (∀ ex, Stab (Z' ex)) → (∀ i W, J' i W → J i W) →
    (∀ i W, i < n → J' i W → YieldC P l (xs i) W (fun e W' => match e with
      | .returned v => (v = .bool true ∧ J' (i + 1) W') ∨ (v = .bool false ∧ ∃ ex, (∀ ch, ex ≠ .panic ch) ∧ Z' ex W')
      | .panicked ch => Z' (.panic ch) W'
      | .outgrown => False)) →
    J' 0 W →
    Calls P gf (#[.func (.yield l) #[] #[]] ++ lb) W (fun e W' => match e with
      | .returned _ => J' n W' ∨ ∃ ex, (∀ ch, ex ≠ .panic ch) ∧ Z' ex W'
      | .panicked ch => Z' (.panic ch) W'
      | .outgrown => False)

def markOf (D : Nat) : Deferred := { target := .collected D, args := #[] }

structure kRangeO (P : Program) (rd : Option Nat) (w : World) (g : Value) (np : Nat)
    (round : Nat → Nat → List Value → World → (Exit → World → Prop) → Prop) (Kn Kr : Nat → World → Prop) (Kx : Nat → Nat → World → Prop) (Kp : Nat → Chain → World → Prop) : Prop where
  of :
    rd = none ∧ ∃ (n : Nat) (xs : Nat → List Value) (J : Nat → World → Prop) (Z : Exit → World → Prop),
      (∀ i, OwnFrom w.heap.size (fun (_ : Unit) => J i)) ∧ (∀ ex, OwnFrom w.heap.size (fun (_ : Unit) => Z ex)) ∧ (∀ i, (xs i).length = np) ∧ J 0 w ∧
      (∀ i l D lo W, i < n → w.heap.size ≤ D → w.heap.size ≤ l → l ≠ D → W.heap[l]? = some (.loop lo) → W.heap[D]? = some (.deferred (some [])) → J i W →
        round l D (xs i) W (fun ex W' => match ex with | .normal => J (i + 1) W' | ex => Z ex W')) ∧
      Iter P g n (fun i => (xs i).toArray) J w ∧
      (∀ D W, w.heap.size ≤ D → W.heap[D]? = some (.deferred (some [])) → J n W → Kn D W) ∧
      (∀ D W, w.heap.size ≤ D → W.heap[D]? = some (.deferred (some [])) → Z .ret W → Kr D W) ∧
      (∀ id D W, w.heap.size ≤ D → W.heap[D]? = some (.deferred (some [])) → Z (.exit id) W → Kx D id W) ∧
      (∀ ch D W, w.heap.size ≤ D → W.heap[D]? = some (.deferred (some [])) → Z (.panic ch) W → Kp D ch W)

/-- A round was left by a return or a jump. -/
def leftBy : Exit → Prop
  | .ret => True
  | .exit _ => True
  | _ => False
/-- The same, of an iterator that keeps something of its own from yield to yield ('ι': what it keeps); J bears the loop's record and its mark. -/
structure kRangeN (P : Program) (rd : Option Nat) (w : World) (g : Value) (np : Nat)
    (round : Nat → Nat → List Value → World → (Exit → World → Prop) → Prop) (Kn Kr : Nat → World → Prop) (Kx : Nat → Nat → World → Prop) (Kp : Nat → Chain → World → Prop) : Prop where
  of :
    rd = none ∧ ∃ (n : Nat) (xs : Nat → List Value) (ι : Type) (J : Nat → Nat → Loop → ι → Nat → World → Prop) (Z : Nat → Nat → Loop → ι → Exit → World → Prop) (e0 : ι),
      (∀ i, (xs i).length = np) ∧
      (∀ lo, J (w.heap.size + 1) w.heap.size lo e0 0 ((w.alloc (.deferred (some []))).alloc (.loop lo))) ∧
      (∀ l D lo e i W, J l D lo e i W → W.heap[l]? = some (.loop lo) ∧ W.heap[D]? = some (.deferred (some []))) ∧
      (∀ l D lo e ex W, Z l D lo e ex W → W.heap[l]? = some (.loop lo) ∧ W.heap[D]? = some (.deferred (some []))) ∧
      (∀ l D lo lo' e i W, J l D lo e i W → J l D lo' e i (W.putObj l (.loop lo'))) ∧
      (∀ l D lo lo' e ex W, Z l D lo e ex W → Z l D lo' e ex (W.putObj l (.loop lo'))) ∧
      (∀ i e l D lo W, i < n → J l D lo e i W → round l D (xs i) W (fun ex W' => match ex with | .normal => ∃ lo', J l D lo' e (i + 1) W' | ex => ∃ lo', Z l D lo' e ex W')) ∧
      (∃ gf lb, g = .func (.func gf) #[] lb ∧ (∀ args w, (callFunc gf args).run P w = .ok (.enter gf args) w) ∧
        ∀ (l D : Nat) (loR : Loop) (loZ : Exit → Loop) (W : World), J l D loR e0 0 W →
          (∀ i e W, i < n → J l D loR e i W → YieldC P l (xs i).toArray W (fun en W' => match en with
            | .returned v => (v = .bool true ∧ J l D loR e (i + 1) W') ∨ (v = .bool false ∧ ∃ ex, leftBy ex ∧ Z l D (loZ ex) e ex W')
            | .panicked ch => ∃ lo, Z l D lo e (.panic ch) W'
            | .outgrown => False)) →
          Calls P gf (#[.func (.yield l) #[] #[]] ++ lb) W (fun en W' => match en with
            | .returned _ => (∃ e, J l D loR e n W') ∨ ∃ e ex, leftBy ex ∧ Z l D (loZ ex) e ex W'
            | .panicked ch => ∃ e lo, Z l D lo e (.panic ch) W'
            | .outgrown => False)) ∧
      (∀ l lo e W, J l w.heap.size lo e n W → Kn w.heap.size W) ∧
      (∀ l lo e W, Z l w.heap.size lo e .ret W → Kr w.heap.size W) ∧
      (∀ id l lo e W, Z l w.heap.size lo e (.exit id) W → Kx w.heap.size id W) ∧
      (∀ ch l lo e W, Z l w.heap.size lo e (.panic ch) W → Kp w.heap.size ch W)
structure kRange (P : Program) (rd : Option Nat) (w : World) (g : Value) (np : Nat)
    (round : Nat → Nat → List Value → World → (Exit → World → Prop) → Prop) (Kn Kr : Nat → World → Prop) (Kx : Nat → Nat → World → Prop) (Kp : Nat → Chain → World → Prop) : Prop where
  of : kRangeO P rd w g np round Kn Kr Kx Kp ∨ kRangeN P rd w g np round Kn Kr Kx Kp

structure kDrawn (b : Bool) (A : Prop) : Prop where
  of : b = true ∧ A
structure kDrew (w : World) (f : World → Prop) : Prop where
  of : ∀ n, f (w.drewN n)
def inc (S : Nat → Bool) (i : Nat) : Nat → Bool := fun j => j == i || S j
def setV (vs : Nat → Value) (i : Nat) (v : Value) : Nat → Value := fun j => if j = i then v else vs j
abbrev PInv := (Nat → Bool) → (Nat → Value) → World → Prop
/-- What is done is closed under what it waits for. -/
def Clo (D : List (List Nat)) (S : Nat → Bool) : Prop := ∀ j, S j = true → ∀ x, x ∈ D.getD j [] → S x = true
structure kPar (w : World) (m : Nat) (D : List (List Nat)) (obl : PInv → ((Nat → Bool) → Prop) → Prop) (tail : (Nat → Value) → World → Prop) : Prop where
  of :
    ∃ (Inv : PInv), (∀ vs, Inv (fun _ => false) vs (w.drewN 1)) ∧ obl Inv (Clo D) ∧ (∀ S vs W, Inv S vs W → (∀ j, j < m → S j = true) → tail vs W)
/-- Where ways meet: what follows is asked once. -/
structure kJn (f : (List Value → World → Prop) → Prop) (a : List Value → World → Prop) : Prop where
  of : f a
structure kJnD (f : (List Value → List Deferred → World → Prop) → Prop) (a : List Value → List Deferred → World → Prop) : Prop where
  of : f a
/-! ### A region that draws its order, operation by operation -/
def noSel (o : Oper) : Bool := match o.op with | .select .. => false | _ => true
/-- Who has a guard waits for it. -/
def guardB (o : Oper) : Bool := match o.guard with | some (g, _) => o.after.any (fun ed => Region.binds .any ed && ed.on == g) | none => true
/-- The syntactic condition under which operations may be taken one by one: each slot is written once, whoever reads it waits for its writer, or the writer waits for him. -/
def parB (ops : Array Oper) : Bool :=
  ops.toList.zipIdx.all fun (o, i) => (noSel o && guardB o) && o.after.all (fun ed => !Region.binds .any ed || decide (ed.on < i)) &&
    ops.toList.zipIdx.all fun (o2, j) => match o2.dst with
      | none => true
      | some t => (j == i || o.dst != some t) && (!(o.looksAt ops).contains t || o.after.any (fun ed => Region.binds .any ed && ed.on == j) || o2.after.any (fun ed => Region.binds .any ed && ed.on == i))
def depsOf (o : Oper) : List Nat := nub ((o.after.toList.filter (Region.binds .any ·)).map (·.on))
def dstAt (ops : Array Oper) (j : Nat) : Option Tmp := (ops[j]?).bind (·.dst)
def setDeps (n : Nat) (e : Env) (ops : Array Oper) (vs : Nat → Value) : List Nat → Env
  | [] => e
  | j :: js => put n (setDeps n e ops vs js) (dstAt ops j) (vs j)
def tailGo (ops : Array Oper) : Nat → Nat
  | 0 => 0
  | i + 1 => if (List.range i).all (fun j => (depsOf (ops.getD i default)).contains j) then tailGo ops i else i + 1
def kGuardD (v : Value) (want : Bool) (A B : Prop) : Prop :=
  match v with
  | .bool b => if b = want then A else B
  | _ => B
structure kGuard (v : Value) (want : Bool) (A B : Prop) : Prop where
  of : kGuardD v want A B
def parOne (P : Program) (n : Nat) (rd : Option Nat) (ops : Array Oper) (e : Env) (C : (Nat → Bool) → Prop) (Inv : PInv) (i : Nat) (o : Oper) : Prop :=
  ∀ (S : Nat → Bool) (vs : Nat → Value) (W : World), Inv S vs W → C S → S i = false → (∀ j, j ∈ depsOf o → S j = true) →
    match o.guard with
    | none => vcOpV P rd false (fun _ _ => False) o [] (setDeps n e ops vs (depsOf o)) W (fun _ v W' => Inv (inc S i) (setV vs i v) W') (fun _ _ => False)
    | some (g, want) =>
      match dstAt ops g with
      | none => False
      | some t => kGuard (setDeps n e ops vs (depsOf o) t) want
          (vcOpV P rd false (fun _ _ => False) o [] (setDeps n e ops vs (depsOf o)) W (fun _ v W' => Inv (inc S i) (setV vs i v) W') (fun _ _ => False)) (Inv (inc S i) (setV vs i undef) W)
def parAll (one : Nat → Oper → Prop) : Nat → List Oper → Prop
  | _, [] => True
  | i, o :: rest => one i o ∧ parAll one (i + 1) rest
def vcPar (P : Program) (n : Nat) (rd : Option Nat) (ops : Array Oper) (Q : QE) (e : Env) (d : List Deferred) (w : World) : Prop :=
  kPar w (tailGo ops ops.size) (ops.toList.map depsOf) (fun Inv C => parAll (parOne P n rd ops e C Inv) 0 (ops.toList.take (tailGo ops ops.size)))
    (fun vs W => vcOps P n rd false ops Q (ops.toList.drop (tailGo ops ops.size)) [] (setDeps n e ops vs (List.range (tailGo ops ops.size))) d W)

/-! ### A region whose operations with effects wait for each other -/
structure kSame (v v' : Value) (A : Prop) : Prop where
  of : v = v' ∧ A
def ancTab (D : List (List Nat)) : List (List Nat) := D.foldl (fun tab ds => tab ++ [nub (ds ++ ds.flatMap (fun j => tab.getD j []))]) []
abbrev KnI := List (Nat × Option Bool)
def knIPut (kn : KnI) (i : Nat) : Option Bool → KnI
  | some b => (i, some b) :: kn
  | none => kn
def knDeps (n : Nat) (ops : Array Oper) (kn : KnI) : List Nat → Kn
  | [] => []
  | j :: js =>
    match dstAt ops j, kn.lookup j with
    | some t, some b => bif Nat.ble (t + 1) n then (t, b) :: knDeps n ops kn js else knDeps n ops kn js
    | _, _ => knDeps n ops kn js
/-- What does not look at the world. -/
def indep (o : Oper) : Bool :=
  match o.op with
  | .move _ | .assign _ | .pick _ _ _ | .makeFunc _ _ _ | .extract _ _ | .nilCheck _ => true
  | _ => false
/-- An operation's guard. -/
def chG (n : Nat) (ops : Array Oper) (o : Oper) (kn : KnI) (vs : Nat → Value) (run skip : KnI → (Nat → Value) → Prop) : Prop :=
  match o.guard with
  | none => run kn vs
  | some (g, want) =>
    match dstAt ops g with
    | none => False
    | some t =>
      match Nat.ble (t + 1) n with
      | false => False
      | true =>
        match kn.lookup g with
        | some (some true) => if want then run kn vs else skip kn vs
        | some (some false) => if want then skip kn vs else run kn vs
        | some none => skip kn vs
        | none => kIf (vs g)
          (if want then run ((g, some true) :: kn) (setV vs g (.bool true)) else skip ((g, some true) :: kn) (setV vs g (.bool true)))
          (if want then skip ((g, some false) :: kn) (setV vs g (.bool false)) else run ((g, some false) :: kn) (setV vs g (.bool false)))
def chV (P : Program) (n : Nat) (rd : Option Nat) (ops : Array Oper) (e : Env) (q : Bool) (X : Chain → World → Prop) (o : Oper) (kn : KnI) (vs : Nat → Value) (W : World) (k : Option Bool → Value → World → Prop) : Prop :=
  vcOpV P rd q X o (knDeps n ops kn (depsOf o)) (setDeps n e ops vs (depsOf o)) W k (fun _ _ => False)
def chRe (P : Program) (n : Nat) (rd : Option Nat) (ops : Array Oper) (e : Env) (kn : KnI) (vs : Nat → Value) (W : World) (A : Prop) : List Nat → Prop
  | [] => A
  | f :: fs =>
    match ops[f]? with
    | none => False
    | some o => chV P n rd ops e true (fun _ _ => False) o kn vs W (fun _ v _ => kSame v (vs f) (chRe P n rd ops e kn vs W A fs))
structure kBoth (A B : Prop) : Prop where
  of : A ∧ B
def chEff (P : Program) (n : Nat) (rd : Option Nat) (ops : Array Oper) (e : Env) (X : Chain → World → Prop) (T : List (List Nat)) (rest : KnI → List Nat → (Nat → Value) → World → Prop) (i : Nat) (pend : List Nat) (kn : KnI) (vs : Nat → Value) (W : World) : Prop :=
  match ops[i]? with
  | none => False
  | some o => chG n ops o kn vs
      (fun kn vs => kDrew W fun W1 => chV P n rd ops e false X o kn vs W1 fun b v W2 =>
          chRe P n rd ops e (knIPut kn i b) (setV vs i v) W2 (rest (knIPut kn i b) (pend.filter fun f => !(T.getD i []).contains f) (setV vs i v) W2) (pend.filter fun f => !(T.getD i []).contains f))
      (fun kn vs => rest ((i, none) :: kn) pend (setV vs i undef) W)
def chGo (P : Program) (n : Nat) (rd : Option Nat) (ops : Array Oper) (e : Env) (X : Chain → World → Prop) (T : List (List Nat)) (tail : (Nat → Value) → World → Prop) :
    Plan → KnI → List Nat → (Nat → Value) → World → Prop
  | .done, _, _, vs, W => kDrew W fun W' => tail vs W'
  | .q i p, kn, pend, vs, W =>
    match ops[i]? with
    | none => False
    | some o => chG n ops o kn vs
        (fun kn vs => chV P n rd ops e true (fun _ _ => False) o kn vs W fun b v W2 => chGo P n rd ops e X T tail p (knIPut kn i b) (bif indep o then pend else pend ++ [i]) (setV vs i v) W2)
        (fun kn vs => chGo P n rd ops e X T tail p ((i, none) :: kn) pend (setV vs i undef) W)
  | .e i p, kn, pend, vs, W => chEff P n rd ops e X T (chGo P n rd ops e X T tail p) i pend kn vs W
  | .or i p r, kn, pend, vs, W => kBoth (chEff P n rd ops e X T (chGo P n rd ops e X T tail p) i pend kn vs W) (chGo P n rd ops e X T tail r kn pend vs W)
def Plan.alts : Plan → List Nat
  | .e i _ => [i]
  | .or i _ r => i :: r.alts
  | _ => []
def Plan.many : Plan → Bool
  | .or _ _ _ => true
  | .q _ p => p.many
  | .e _ p => p.many
  | .done => false
def chHd (D : List (List Nat)) (m : Nat) (pre : List Nat) (i : Nat) : Bool := Nat.blt i m && !pre.contains i && (D.getD i []).all (fun j => pre.contains j)
/-- Whatever is not behind is one of the next ones, or waits for one. -/
def chNode (T : List (List Nat)) (m : Nat) (pre as : List Nat) : Bool := (List.range m).all fun i => pre.contains i || as.contains i || as.any (fun a => (T.getD i []).contains a)
def chOk (D T : List (List Nat)) (m : Nat) : Plan → List Nat → Bool → Bool
  | .done, pre, _ => (List.range m).all (fun i => pre.contains i)
  | .q i p, pre, _ => chHd D m pre i && chOk D T m p (i :: pre) true
  | .e i p, pre, top => chHd D m pre i && (!top || chNode T m pre [i]) && chOk D T m p (i :: pre) true
  | .or i p r, pre, top => chHd D m pre i && (!top || chNode T m pre (i :: r.alts)) && chOk D T m p (i :: pre) true && chOk D T m r pre false
def chTail (P : Program) (n : Nat) (rd : Option Nat) (ops : Array Oper) (Q : QE) (e : Env) (d : List Deferred) (m : Nat) (vs : Nat → Value) (W : World) : Prop :=
  vcOps P n rd false ops Q (ops.toList.drop m) [] (setDeps n e ops vs (List.range m)) d W
def vcChn (P : Program) (n : Nat) (rd : Option Nat) (ops : Array Oper) (Q : QE) (pl : Plan) (e : Env) (d : List Deferred) (w : World) : Prop :=
  kDrawn (chOk (ops.toList.map depsOf) (ancTab (ops.toList.map depsOf)) (tailGo ops ops.size) pl [] true)
    (match pl.many with
    | false => chGo P n rd ops e (fun ch w => ∀ ds : List Value, Q (.panic ch) (setMany n e ds (nub (opsWrites ops.toList)) 0) d w) (ancTab (ops.toList.map depsOf))
      (chTail P n rd ops Q e d (tailGo ops ops.size)) pl [] [] (fun _ => undef) w
    | true => kJn (fun J => chGo P n rd ops e (fun ch w => ∀ ds : List Value, Q (.panic ch) (setMany n e ds (nub (opsWrites ops.toList)) 0) d w) (ancTab (ops.toList.map depsOf))
      (fun vs W => J ((List.range (tailGo ops ops.size)).map vs) W) pl [] [] (fun _ => undef) w)
      (fun cs W => chTail P n rd ops Q e d (tailGo ops ops.size) (fun j => cs.getD j undef) W))

def exitsOf : Code → List Nat
  | .exit id => [id]
  | .seq a b => exitsOf a ++ exitsOf b
  | .cond _ a b => exitsOf a ++ exitsOf b
  | .block id c => (exitsOf c).filter (· != id)
  | .loop c => exitsOf c
  | .scope c => exitsOf c
  | _ => []
def hasRet : Code → Bool
  | .ret => true
  | .seq a b => hasRet a || hasRet b
  | .cond _ a b => hasRet a || hasRet b
  | .block _ c => hasRet c
  | .loop c => hasRet c
  | .scope c => hasRet c
  | _ => false
def kXD (exs : List Nat) (id : Nat) (A : Prop) : Prop :=
  match exs.contains id with
  | true => A
  | false => False
structure kX (exs : List Nat) (id : Nat) (A : Prop) : Prop where
  of : kXD exs id A

def vcC (P : Program) (n : Nat) (rd : Option Nat) (A : Ann) : Code → QE → Env → List Deferred → World → Prop
  | .skip, Q, e, d, w => Q .normal e d w
  | .region _ ops false, Q, e, d, w => vcOps P n rd false ops Q ops.toList [] e d w
  | .region id ops true, Q, e, d, w => kDrawn (parB ops && P.follows .mixedOrders)
      (match A.chs.lookup id with
      | some pl => vcChn P n rd ops Q pl e d w
      | none =>
      match A.pars.contains id with
      | true => vcPar P n rd ops Q e d w
      | false => vcOps P n rd true ops (fun ex e' d' _ => match ex with | .normal => kDrew w (fun w' => Q .normal e' d' w') | _ => False) ops.toList [] e d w)
  | .seq a b, Q, e, d, w =>
    match (A.loops.lookup (jid b)).isSome with
    | false => vcC P n rd A a (thenQ (vcC P n rd A b Q) Q) e d w
    | true =>
      match A.dvar.contains (jid b) with
      | true => kJnD (fun J => vcC P n rd A a (thenQ (fun e2 d2 w2 => J ((slotsAt A (jid b) a).map (fun s => e2 s)) d2 w2) Q) e d w)
        (fun cs d2 w2 => ∀ ds : List Value, vcC P n rd A b Q (setMany n (setMany n e ds (deadAt A (jid b) a) 0) cs (slotsAt A (jid b) a) 0) d2 w2)
      | false => kJn (fun J => vcC P n rd A a (thenQ (fun e2 d2 w2 => kD d2 d (J ((slotsAt A (jid b) a).map (fun s => e2 s)) w2)) Q) e d w)
        (fun cs w2 => ∀ ds : List Value, vcC P n rd A b Q (setMany n (setMany n e ds (deadAt A (jid b) a) 0) cs (slotsAt A (jid b) a) 0) d w2)
  | .cond q a b, Q, e, d, w => kIf (ev e q) (vcC P n rd A a Q e d w) (vcC P n rd A b Q e d w)
  | .block id (.loop c), Q, e, d, w =>
    match A.dvar.contains id with
    | false => kLoopF ((slotsAt A id c).map (fun s => e s)) w (fun cs ds w' N =>
      vcC P n rd A c (thenQ (fun e2 d2 w2 => kD d2 d (N ((slotsAt A id c).map (fun s => e2 s)) w2)) (inBlk id Q))
        (setMany n (setMany n e ds (deadAt A id c) 0) cs (slotsAt A id c) 0) d w')
    | true => kLoop ((slotsAt A id c).map (fun s => e s)) d w (fun cs ds d' w' N =>
      vcC P n rd A c (thenQ (fun e2 d2 w2 => N ((slotsAt A id c).map (fun s => e2 s)) d2 w2) (inBlk id Q))
        (setMany n (setMany n e ds (deadAt A id c) 0) cs (slotsAt A id c) 0) d' w')
  | .block id c, Q, e, d, w => vcC P n rd A c (inBlk id Q) e d w
  | .loop _, _, _, _, _ => False
  | .rangeFunc g ps asn body, Q, e, d, w =>
    kRange P rd w (ev e g) ps.size (fun l D args w' R => rnd (vcC P n (some l) A asn) (vcC P n (some l) A body) l D (setMany n e args ps.toList 0) w' R)
      (fun D w' => Q .normal e (markOf D :: d) w') (match hasRet body with | true => fun D w' => Q .ret e (markOf D :: d) w' | false => fun _ _ => False) (match (exitsOf body).isEmpty with | true => fun _ _ _ => False | false => fun D id w' => kX (exitsOf body) id (Q (.exit id) e (markOf D :: d) w')) (fun D ch w' => Q (.panic ch) e (markOf D :: d) w')
  | .exit id, Q, e, d, w => Q (.exit id) e d w
  | .scope c, Q, e, d, w => vcC P n rd A c (noGo Q) e d w
  | .label _, Q, e, d, w => Q .normal e d w
  | .goto l, Q, e, d, w => Q (.goto l) e d w
  | .ret, Q, e, d, w => Q .ret e d w
  | .refuse _, _, _, _, _ => False


def cR (P : Program) (R : Ending → World → Prop) : Cx := ⟨P, fun ch w => R (.panicked ch) w, false⟩
def cN (P : Program) : Cx := ⟨P, fun _ _ => False, false⟩
def cQ (P : Program) : Cx := ⟨P, fun _ _ => False, true⟩

/-! ### Functions -/
inductive RV where
  | val (v : Value)
  | cell (a : Value) (t : TypeId)
def rvOf (e : Env) : ResultVar → RV
  | .tmp t => .val (e t)
  | .cell a t => .cell (e a) t
def resSem (rs : List RV) : Sem Value := do
  let vs ← rs.toArray.mapM fun
    | .val v => pure v
    | .cell a t => do loadVar t (← asAddr a)
  pure (if h : vs.size = 1 then vs[0] else .tuple vs)
def RetK (P : Program) (rs : List RV) (R : Ending → World → Prop) (w : World) : Prop :=
  match rs with
  | [] => R (.returned (.tuple #[])) w
  | [.val a] => R (.returned a) w
  | [.val a, .val b] => R (.returned (.tuple #[a, b])) w
  | [.val a, .val b, .val c] => R (.returned (.tuple #[a, b, c])) w
  | rs => ∃ v, (resSem rs).run P w = .ok v w ∧ R (.returned v) w
def Lv (P : Program) (rs : List RV) (R : Ending → World → Prop) : List Deferred → FrameMode → World → Prop
  | [], .returning, w => RetK P rs R w
  | [], .panicking ch, w => R (.panicked ch) w
  | [], .run, _ => False
  | _ :: _, .run, _ => False
  | { target := .collected D, .. } :: ds, u, w => w.heap[D]? = some (.deferred (some [])) ∧ Lv P rs R ds u (w.putObj D (.deferred none))
  | { target := .fn (.func f) cap, args } :: ds, u, w => cap = #[] ∧ (∀ args w, (callFunc f args).run P w = .ok (.enter f args) w) ∧ CallsD P f args u w fun
      | .returned _, u', w' => Lv P rs R ds (settle u') w'
      | .panicked ch, u', w' => Lv P rs R ds (raised u' ch) w'
      | .outgrown, _, _ => False
  | _ :: _, _, _ => False
def finish (P : Program) (fn : Func) (R : Ending → World → Prop) : QE := fun ex e d w =>
  match ex with
  | .normal => Lv P (fn.results.toList.map (rvOf e)) R d .returning w
  | .ret => Lv P (fn.results.toList.map (rvOf e)) R d .returning w
  | .panic ch => Lv P (fn.results.toList.map (rvOf e)) R d (.panicking ch) w
  | _ => False
def FnVc (P : Program) (A : Ann) (n : Nat) (f : FuncId) (args : List Value) (R : Ending → World → Prop) (w : World) : Prop :=
  match P.funcs[f]? with
  | none => False
  | some fn =>
    match fn.body with
    | none => False
    | some c =>
      match Nat.beq (max fn.ntmps args.length) n with
      | false => False
      | true => vcC P n none A c (finish P fn R) (fun t => args.getD t undef) [] w

/-- Where a scope's label is jumped to from ahead of it. -/
def goQ (l : Nat) (K : Env → List Deferred → World → Prop) (Q : QE) : QE := fun ex e d w =>
  match ex with
  | .normal => K e d w
  | .goto l' => if l' = l then K e d w else False
  | ex => Q ex e d w
/-- A function whose body ends with such a scope. -/
def FnVcG (P : Program) (A : Ann) (n : Nat) (f : FuncId) (args : List Value) (R : Ending → World → Prop) (w : World) : Prop :=
  match P.funcs[f]? with
  | none => False
  | some fn =>
    match fn.body with
    | some (.seq r (.scope (.seq x (.seq (.label l) y)))) =>
      match Nat.beq (max fn.ntmps args.length) n, (findLabel x l).isNone with
      | true, true => vcC P n none A r (thenQ (vcC P n none A x (goQ l (vcC P n none A y (noGo (finish P fn R))) (finish P fn R))) (finish P fn R)) (fun t => args.getD t undef) [] w
      | _, _ => False
    | _ => False

end Go.L
namespace Go.L
open Go Go.RowKit

def envOf (a : Act) : Env := fun t => a.tmps.getD t undef
def act (n : Nat) (e : Env) (d : List Deferred) : Act := ⟨Array.ofFn (fun i : Fin n => e i.1), d⟩
/-- Nothing is held behind the last temporary. -/
def EnvOk (n : Nat) (e : Env) : Prop := ∀ t, n ≤ t → e t = undef
def toQ (n : Nat) (Q : QE) : Exit → Act → World → Prop := fun ex a w => a.tmps.size = n ∧ Q ex (envOf a) a.defers w

theorem act_size (n : Nat) (e : Env) (d : List Deferred) : (act n e d).tmps.size = n := by simp [act]
theorem envOf_act {n : Nat} {e : Env} (h : EnvOk n e) (d : List Deferred) : envOf (act n e d) = e := by
  funext t
  simp only [envOf, act]
  by_cases ht : t < n
  · simp [ht]
  · simp [ht, h t (by omega)]
theorem toQ_act {n : Nat} {e : Env} (h : EnvOk n e) (Q : QE) (ex : Exit) (d : List Deferred) (w : World) : toQ n Q ex (act n e d) w = Q ex e d w := by
  simp only [toQ, envOf_act h, act_size, true_and]; rfl
theorem eval_envOf (a : Act) : a.eval = ev (envOf a) := by
  funext x; cases x <;> rfl
theorem act_eval {n : Nat} {e : Env} (h : EnvOk n e) (d : List Deferred) : (act n e d).eval = ev e := by
  rw [eval_envOf, envOf_act h]
theorem upd_same {n : Nat} {e : Env} {d : Nat} {v : Value} (h : d < n) : upd n e d v d = v := by
  have h1 : Nat.beq d d = true := Nat.beq_refl d
  have h2 : Nat.ble (d + 1) n = true := Nat.ble_eq_true_of_le h
  simp only [upd, h1, h2]; rfl
theorem upd_ne {n : Nat} {e : Env} {d t : Nat} {v : Value} (h : t ≠ d) : upd n e d v t = e t := by
  have h1 : Nat.beq t d = false := by
    cases hb : Nat.beq t d with
    | false => rfl
    | true => exact absurd (Nat.eq_of_beq_eq_true hb) h
  simp only [upd, h1]; rfl
theorem upd_out {n : Nat} {e : Env} {d : Nat} {v : Value} (h : ¬ d < n) : upd n e d v = e := by
  funext t
  have h2 : Nat.ble (d + 1) n = false := by
    cases hb : Nat.ble (d + 1) n with
    | false => rfl
    | true => exact absurd (Nat.le_of_ble_eq_true hb) h
  simp only [upd, h2, Bool.and_false]; rfl
theorem EnvOk.upd {n : Nat} {e : Env} (h : EnvOk n e) (d : Nat) (v : Value) : EnvOk n (upd n e d v) := by
  intro t ht
  by_cases htd : t = d
  · subst htd; rw [upd_out (by omega)]; exact h t ht
  · rw [upd_ne htd]; exact h t ht
theorem EnvOk.put {n : Nat} {e : Env} (h : EnvOk n e) (dst : Option Tmp) (v : Value) : EnvOk n (put n e dst v) := by
  cases dst with
  | none => exact h
  | some d => exact h.upd d v
theorem act_upd (n : Nat) (e : Env) (d : List Deferred) (t : Nat) (v : Value) : (⟨(act n e d).tmps.setIfInBounds t v, d⟩ : Act) = act n (upd n e t v) d := by
  simp only [act]
  congr 1
  apply Array.ext
  · simp
  · intro i h1 h2
    simp at h1
    by_cases hi : i = t
    · subst hi
      simp [upd_same (n := n) (e := e) (d := i) (v := v) (by simpa using h1)]
    · simp [Array.getElem_setIfInBounds_ne, Ne.symm hi, upd_ne hi, h1]
theorem act_put (n : Nat) (e : Env) (d : List Deferred) (dst : Option Tmp) (v : Value) : (act n e d).put dst v = act n (put n e dst v) d := by
  cases dst with
  | none => rfl
  | some t => exact act_upd n e d t v
theorem envOf_ok {n : Nat} {a : Act} (h : a.tmps.size = n) : EnvOk n (envOf a) := by
  intro t ht
  simp [envOf, show ¬ t < a.tmps.size by omega]
theorem act_self {n : Nat} {a : Act} (h : a.tmps.size = n) : act n (envOf a) a.defers = a := by
  obtain ⟨tm, df⟩ := a
  simp only at h
  simp only [act, envOf]
  congr 1
  apply Array.ext
  · simp [h]
  · intro i h1 h2
    simp [h2]

theorem Calls_after {P : Program} {f : FuncId} {args : Array Value} {w : World} {k k' : Value → World → Prop} {X X' : Chain → World → Prop}
    (h : Calls P f args w (after k X)) (hk : ∀ v w, k v w → k' v w) (hX : ∀ c w, X c w → X' c w) : Calls P f args w (after k' X') :=
  h.mono fun e w' he => by cases e <;> first | exact hk _ _ he | exact hX _ _ he | exact he

theorem uponIn_of_kNext {P : Program} {X : Chain → World → Prop} {k : Value → World → Prop} {o : Oper} {a : Act} {next : Act → World → Prop} {Q : Exit → Act → World → Prop} {q : Bool}
    (hk : ∀ v w, k v w → next (a.put o.dst v) w) (hX : ∀ ch w, X ch w → Q (.panic ch) a w) : ∀ r, kNext ⟨P, X, q⟩ k r → uponM P o a next Q r := by
  intro r h
  cases r with
  | ok n w =>
    cases n <;> simp only [kNext] at h <;> simp only [uponM]
    case value v => exact hk _ _ h
    case skip => exact hk _ _ h
    case enter f args =>
      refine h.mono fun e w' he => ?_
      cases e <;> first | exact hk _ _ he | exact hX _ _ he | exact he.elim
    case round l f tmps asn body =>
      refine h.mono fun e w' he => ?_
      cases e <;> first | exact hk _ _ he | exact hX _ _ he | exact he.elim
  | halt x w =>
    cases x <;> simp only [kNext] at h <;> simp only [uponM]
    exact hX _ _ h

theorem uponIn_of_kSem {P : Program} {X : Chain → World → Prop} {k : Value → World → Prop} {o : Oper} {a : Act} {next : Act → World → Prop} {Q : Exit → Act → World → Prop}
    {w : World} {s : Sem Next} (h : kSem ⟨P, X, false⟩ w s k) (hk : ∀ v w, k v w → next (a.put o.dst v) w) (hX : ∀ ch w, X ch w → Q (.panic ch) a w) : uponM P o a next Q (s.run P w) :=
  uponIn_of_kNext hk hX _ h

def knVal : Option Bool → Value
  | some b => .bool b
  | none => undef
def KnOk (kn : Kn) (e : Env) : Prop := ∀ t b, kn.lookup t = some b → e t = knVal b

theorem lookup_filter_ne {d t : Nat} {kn : Kn} {b : Option Bool} (h : (kn.filter (fun p => p.1 != d)).lookup t = some b) : kn.lookup t = some b ∧ t ≠ d := by
  induction kn with
  | nil => simp at h
  | cons p kn ih =>
    obtain ⟨s, c⟩ := p
    by_cases hs : s = d
    · subst hs
      simp at h
      obtain ⟨h1, h2⟩ := ih (by simpa using h)
      refine ⟨?_, h2⟩
      simp [List.lookup, show (t == s) = false by simpa using h2, h1]
    · rw [List.filter_cons_of_pos (by simpa using hs)] at h
      by_cases ht : t = s
      · subst ht; simp [List.lookup] at h ⊢; exact ⟨h, hs⟩
      · have hb : (t == s) = false := by simpa using ht
        simp [List.lookup, hb] at h ⊢
        exact ih h

theorem KnOk.del {kn : Kn} {e : Env} (h : KnOk kn e) (n : Nat) (dst : Option Tmp) (v : Value) : KnOk (knDel kn dst) (put n e dst v) := by
  intro t b ht
  cases dst with
  | none => exact h t b ht
  | some d =>
    obtain ⟨h1, h2⟩ := lookup_filter_ne ht
    simp only [put, upd_ne h2]
    exact h t b h1

theorem KnOk.consput {kn : Kn} {e : Env} (h : KnOk kn e) {n d : Nat} (hl : d < n) (b : Option Bool) : KnOk ((d, b) :: kn.filter (fun p => p.1 != d)) (upd n e d (knVal b)) := by
  intro t c ht
  simp only [List.lookup] at ht
  split at ht
  · rename_i heq
    have : t = d := by simpa using heq
    subst this
    simp at ht; subst ht
    rw [upd_same hl]
  · obtain ⟨h1, h2⟩ := lookup_filter_ne ht
    rw [upd_ne h2]
    exact h t c h1

theorem KnOk.skip {kn : Kn} {e : Env} (h : KnOk kn e) (n : Nat) (dst : Option Tmp) : KnOk (knSkip n kn dst) (put n e dst undef) := by
  cases dst with
  | none => exact h
  | some d =>
    simp only [knSkip]
    split
    · rename_i hl; exact h.consput hl none
    · exact h.del n (some d) _

theorem knOf_ok {kn : Kn} {e : Env} (h : KnOk kn e) {x : Operand} {b : Bool} (hx : knOf kn x = some b) : ev e x = .bool b := by
  cases x with
  | tmp t =>
    refine h t (some b) ?_
    simp only [knOf] at hx
    cases hl : kn.lookup t with
    | none => rw [hl] at hx; cases hx
    | some c => rw [hl] at hx; exact congrArg some hx
  | const v =>
    cases v <;> simp [knOf] at hx
    rename_i c
    cases c <;> simp at hx <;> subst hx <;> rfl
  | global g => simp [knOf] at hx
  | func f => simp [knOf] at hx

theorem KnOk.putv {kn : Kn} {e : Env} (h : KnOk kn e) (n : Nat) (dst : Option Tmp) {b : Option Bool} {v : Value} (hb : ∀ c, b = some c → v = .bool c) : KnOk (knPut n kn dst b) (put n e dst v) := by
  cases dst with
  | none => cases b <;> exact h
  | some d =>
    cases b with
    | none => exact h.del n (some d) _
    | some b =>
      have hv := hb b rfl
      subst hv
      simp only [knPut]
      split
      · rename_i hl; exact h.consput hl (some b)
      · exact h.del n (some d) _

theorem semAt_eq {rd : Option Nat} {ρ : Operand → Value} {o : Oper} (h : ∀ c, o.op ≠ .defer c) : o.semAt rd ρ = execOp ρ o := Oper.semAt_eq rd ρ o h

theorem run_pure_value (P : Program) (v : Value) (w : World) : Sem.run P (pure (.value v) : Sem Next) w = .ok (.value v) w := rfl

theorem kIf_elim {v : Value} {A B : Prop} (h : kIf v A B) : (v = .bool true ∧ A) ∨ (v = .bool false ∧ B) := by
  replace h := h.of
  unfold kIfD at h
  split at h
  · exact .inl ⟨rfl, h⟩
  · exact .inr ⟨rfl, h⟩
  · exact h.elim

theorem uponIn_of_kUnit {P : Program} {X : Chain → World → Prop} {k : World → Prop} {o : Oper} {a : Act} {next : Act → World → Prop} {Q : Exit → Act → World → Prop}
    {w : World} {s : Sem Unit} (h : kUnit ⟨P, X, false⟩ w s k) (hk : ∀ w, k w → next (a.put o.dst undef) w) (hX : ∀ ch w, X ch w → Q (.panic ch) a w) : uponM P o a next Q (Sem.run P (do s; pure .skip : Sem Next) w) := by
  unfold kUnit at h
  simp only [kSem, Sem.run_bind] at h ⊢
  cases hs : s.run P w with
  | ok u w' => rw [hs] at h; exact hk _ h
  | halt x w' =>
    rw [hs] at h
    exact uponIn_of_kNext (k := fun _ _ => False) (X := X) (q := false) (fun _ _ h => h.elim) hX (.halt x w') (by cases x <;> first | exact h | exact h.elim)

theorem vcOpV_sound {P : Program} {rd : Option Nat} {X : Chain → World → Prop} {o : Oper} {kn : Kn} {e : Env} {w : World} {kb : Option Bool → Value → World → Prop} {kd : Deferred → World → Prop}
    {a : Act} {next : Act → World → Prop} {Q : Exit → Act → World → Prop}
    (hkn : KnOk kn e) (ha : o.semAt rd a.eval = o.semAt rd (ev e)) (hk0 : ∀ b v w', (∀ c, b = some c → v = .bool c) → kb b v w' → next (a.put o.dst v) w')
    (hd : ∀ df w', kd df w' → next ({ a with defers := df :: a.defers }.put o.dst undef) w') (hX : ∀ ch w', X ch w' → Q (.panic ch) a w')
    (h : vcOpV P rd false X o kn e w kb kd) :
    opM P rd o a w next Q := by
  unfold opM
  rw [ha]
  have hk : ∀ v w', (fun v w' => kb none v w') v w' → next (a.put o.dst v) w' := fun v w' h => hk0 _ _ _ (by simp) h
  have hku : ∀ (w' : World), (fun w' => kb none undef w') w' → next (a.put o.dst undef) w' := fun w' h => hk0 _ _ _ (by simp) h
  have hmove : ∀ x, kb (knOf kn x) (ev e x) w → next (a.put o.dst (ev e x)) w := fun x h => hk0 _ _ _ (fun c hc => knOf_ok hkn hc) h
  clear hk0 ha
  obtain ⟨dst, op, type, pos, aft, guard⟩ := o
  cases op
  case defer c =>
    simp only [vcOpV] at h
    split at h
    · rename_i f _ hc
      simp only [Oper.semAt, execOp]
      obtain ⟨cal, args, ats⟩ := c
      simp only at hc
      subst hc
      have := hd _ _ h
      show next (Act.put { a with defers := { target := .fn (.func f) #[], args := #[] ++ args.map (ev e) } :: a.defers } dst undef) w
      simpa using this
    · exact h.elim
  case move x => rw [semAt_eq (by simp)]; simp only [execOp]; exact hmove x h
  case assign x => rw [semAt_eq (by simp)]; simp only [execOp]; exact hmove x h
  case pick q x1 x2 =>
    rw [semAt_eq (by simp)]
    simp only [execOp]
    simp only [vcOpV] at h
    have run : ∀ t, ev e q = .bool t → uponM P ⟨dst, .pick q x1 x2, type, pos, aft, guard⟩ a next Q (Sem.run P (do pure (.value (if ← asBool (ev e q) then ev e x1 else ev e x2)) : Sem Next) w) = next (a.put dst (if t then ev e x1 else ev e x2)) w := fun t ht => by
      rw [ht]; rfl
    split at h
    · rename_i hq; rw [run true (knOf_ok hkn hq)]; exact hmove x1 h
    · rename_i hq; rw [run false (knOf_ok hkn hq)]; exact hmove x2 h
    · rcases kIf_elim h with ⟨hq, h⟩ | ⟨hq, h⟩
      · rw [run true hq]; exact hmove x1 h
      · rw [run false hq]; exact hmove x2 h
  case nilCheck x =>
    rw [semAt_eq (by simp)]
    simp only [execOp]
    simp only [vcOpV] at h
    replace h := h.of
    unfold kNilD at h
    split at h
    · rename_i hx; rw [hx]; exact hk _ _ h
    · rename_i hx; rw [hx]; exact hk _ _ h
    · exact h.elim
  case extract t i =>
    rw [semAt_eq (by simp)]
    simp only [execOp]
    simp only [vcOpV] at h
    replace h := h.of
    unfold kExtD at h
    split at h
    · rename_i vs hx
      split at h
      · rename_i v hv
        rw [hx]
        have : Sem.run P (do pure (.value (← Instr.extract (.tuple vs) i)) : Sem Next) w = .ok (.value v) w := by
          simp [Instr.extract, hv]
        rw [this]
        exact hk _ _ h
      · exact h.elim
    · exact h.elim
  case binOp bop t x y t2 =>
    rw [semAt_eq (by simp)]
    simp only [execOp]
    cases bop
    case eql => simp only [vcOpV] at h; exact uponIn_of_kSem h.of hk hX
    case neq => simp only [vcOpV] at h; exact uponIn_of_kSem h.of hk hX
    all_goals (simp only [vcOpV] at h; exact uponIn_of_kSem (s := do pure (.value (← binOp _ t (ev e x) (ev e y)))) h.of hk hX)
  case makeFunc fn f cp => rw [semAt_eq (by simp)]; simp only [execOp]; exact hk _ _ h
  case call cl =>
    rw [semAt_eq (by simp)]
    simp only [execOp]
    obtain ⟨cal, args, ats⟩ := cl
    simp only [vcOpV] at h
    cases cal with
    | builtin b =>
      simp only at h
      have e1 : (args.map fun | .const _ => true | _ => false) = args.map isCst := by
        rfl
      have e2 : (do let d ← resolve (ev e) { callee := .builtin b, args := args, argTypes := ats } type; invoke d.target d.args : Sem Next) = builtin b ats type (args.map isCst) (args.map (ev e)) := by
        rw [← e1]; rfl
      rw [e2]
      exact uponIn_of_kSem h.of hk hX
    | invoke r m => exact uponIn_of_kSem h.of hk hX
    | value v =>
      cases v with
      | func f =>
        have e2 : (do let d ← resolve (ev e) { callee := .value (.func f), args := args, argTypes := ats } type; invoke d.target d.args : Sem Next) = callFunc f (args.map (ev e)) := by
          show callFunc f (#[] ++ args.map (ev e) ++ #[]) = _
          rw [Array.empty_append, Array.append_empty]
        rw [e2]
        exact uponIn_of_kSem h.of hk hX
      | tmp t => exact uponIn_of_kSem h.of hk hX
      | const v => exact uponIn_of_kSem h.of hk hX
      | global g => exact uponIn_of_kSem h.of hk hX
  case store t a x => rw [semAt_eq (by simp)]; simp only [execOp]; simp only [vcOpV] at h; exact uponIn_of_kUnit h.of hku hX
  case mapUpdate t m i x => rw [semAt_eq (by simp)]; simp only [execOp]; simp only [vcOpV] at h; exact uponIn_of_kUnit h.of hku hX
  case insert t m i x => rw [semAt_eq (by simp)]; simp only [execOp]; simp only [vcOpV] at h; exact uponIn_of_kUnit h.of hku hX
  case panic x => rw [semAt_eq (by simp)]; simp only [execOp]; simp only [vcOpV] at h; exact uponIn_of_kSem (k := fun _ _ => False) h.of (fun _ _ h => h.elim) hX
  case ready => exact h.elim
  case waits => exact h.elim
  case sliceToArrayPointer => exact h.elim
  case makeChan => exact h.elim
  case entryStore t m s x => rw [semAt_eq (by simp)]; simp only [execOp]; simp only [vcOpV] at h; exact uponIn_of_kUnit h.of hku hX
  case go => exact h.elim
  case send => exact h.elim
  case recv => exact h.elim
  case select => exact h.elim
  all_goals (rw [semAt_eq (by simp)]; simp only [execOp]; simp only [vcOpV] at h; exact uponIn_of_kSem h.of hk hX)

theorem vcOp_sound {P : Program} {n : Nat} {rd : Option Nat} {Q : QE} {o : Oper} {K : KE} {kn : Kn} {e : Env} {d : List Deferred} {w : World} {next : Act → World → Prop}
    (hok : EnvOk n e) (hkn : KnOk kn e) (hK : ∀ kn' e' d' w', EnvOk n e' → KnOk kn' e' → K kn' e' d' w' → next (act n e' d') w') (h : vcOp P n rd false Q o K kn e d w) :
    opM P rd o (act n e d) w next (toQ n Q) := by
  refine vcOpV_sound hkn (by rw [act_eval hok]) (fun b v w' hb h => ?_) (fun df w' h => ?_) (fun ch w' h => by rw [toQ_act hok]; exact h) h
  · rw [act_put]; exact hK _ _ _ _ (hok.put _ _) (hkn.putv n _ hb) h
  · show next ((act n e (df :: d)).put o.dst undef) w'
    rw [act_put]; exact hK _ _ _ _ (hok.put _ _) (hkn.putv n _ (by simp)) h
end Go.L
namespace Go.L
open Go Go.RowKit

theorem wanted_none {ops : Array Oper} {o : Oper} (tmps : Array Value) (h : o.guard = none) : Region.wanted o (yielded ops tmps) = true := by simp [Region.wanted, h]

theorem yielded_env {ops : Array Oper} {a : Act} {j t : Nat} (h : (ops[j]?).bind (·.dst) = some t) : yielded ops a.tmps j = (match envOf a t with | .bool b => some b | _ => none) := by
  simp only [yielded, h, Option.bind_some, envOf]
  rw [show a.tmps.getD t undef = (a.tmps[t]?).getD undef by simp]
  cases a.tmps[t]? with
  | none => rfl
  | some v => cases v <;> rfl

theorem upd_self {n : Nat} {e : Env} (hok : EnvOk n e) {t : Nat} {b : Bool} (h : e t = .bool b) : upd n e t (.bool b) = e := by
  funext s
  by_cases hs : s = t
  · subst hs
    by_cases hn : s < n
    · rw [upd_same hn, h]
    · rw [upd_out hn]
  · rw [upd_ne hs]

theorem KnOk.cons {kn : Kn} {e : Env} (h : KnOk kn e) {t : Nat} {b : Option Bool} (hv : e t = knVal b) : KnOk ((t, b) :: kn) e := by
  intro s c hs
  simp only [List.lookup] at hs
  split at hs
  · rename_i heq
    have : s = t := by simpa using heq
    subst this
    simp at hs; subst hs; exact hv
  · exact h s c hs

/-- A guarded operation comes up: either it is carried out, or it is passed over, as the generator has it. -/
theorem guard_cases {P : Program} {n : Nat} {rd : Option Nat} {q : Bool} {Q : QE} {ops : Array Oper} {o : Oper} {rest : List Oper} {kn : Kn} {e : Env} {d : List Deferred} {w : World}
    (hok : EnvOk n e) (hkn : KnOk kn e) (h : vcOps P n rd q ops Q (o :: rest) kn e d w) :
    ∃ kn', KnOk kn' e ∧ (((∀ a, envOf a = e → Region.wanted o (yielded ops a.tmps) = true) ∧ vcOp P n rd q Q o (vcOps P n rd q ops Q rest) kn' e d w) ∨
      ((∀ a, envOf a = e → Region.wanted o (yielded ops a.tmps) = false) ∧ vcOps P n rd q ops Q rest (knSkip n kn' o.dst) (put n e o.dst undef) d w)) := by
  unfold vcOps at h
  split at h
  · rename_i hg
    exact ⟨kn, hkn, .inl ⟨fun a _ => wanted_none _ hg, h⟩⟩
  · rename_i j want hg
    split at h
    · exact h.elim
    · rename_i t ht
      have wt : ∀ b, e t = .bool b → ∀ a, envOf a = e → Region.wanted o (yielded ops a.tmps) = (b == want) := fun b hb a ha => by
        simp only [Region.wanted, hg, yielded_env ht, ha, hb]
        cases b <;> cases want <;> rfl
      have split1 : ∀ (b : Bool) (kn' : Kn), e t = .bool b → KnOk kn' e →
          (b = want → vcOp P n rd q Q o (vcOps P n rd q ops Q rest) kn' e d w) → (b ≠ want → vcOps P n rd q ops Q rest (knSkip n kn' o.dst) (put n e o.dst undef) d w) →
          ∃ kn', KnOk kn' e ∧ (((∀ a, envOf a = e → Region.wanted o (yielded ops a.tmps) = true) ∧ vcOp P n rd q Q o (vcOps P n rd q ops Q rest) kn' e d w) ∨
            ((∀ a, envOf a = e → Region.wanted o (yielded ops a.tmps) = false) ∧ vcOps P n rd q ops Q rest (knSkip n kn' o.dst) (put n e o.dst undef) d w)) := by
        intro b kn' hb hk' h1 h2
        by_cases hbw : b = want
        · exact ⟨kn', hk', .inl ⟨fun a ha => by rw [wt b hb a ha]; simpa using hbw, h1 hbw⟩⟩
        · exact ⟨kn', hk', .inr ⟨fun a ha => by rw [wt b hb a ha]; simpa using hbw, h2 hbw⟩⟩
      split at h
      · rename_i hl
        refine split1 true kn (hkn t (some true) hl) hkn (fun e1 => ?_) (fun e1 => ?_)
        · rw [if_pos e1.symm] at h; exact h
        · rw [if_neg (Ne.symm e1)] at h; exact h
      · rename_i hl
        refine split1 false kn (hkn t (some false) hl) hkn (fun e1 => ?_) (fun e1 => ?_)
        · rw [if_neg (by rw [← e1]; simp)] at h; exact h
        · rw [if_pos (by cases want <;> simp_all)] at h; exact h
      · rename_i hl
        refine ⟨kn, hkn, .inr ⟨fun a ha => ?_, h⟩⟩
        have hu := hkn t none hl
        simp only [Region.wanted, hg, yielded_env ht, ha, hu]
        rfl
      · rcases kIf_elim h with ⟨hv, h⟩ | ⟨hv, h⟩
        · rw [upd_self hok hv] at h
          refine split1 true _ hv (hkn.cons (b := some true) hv) (fun e1 => ?_) (fun e1 => ?_)
          · rw [if_pos e1.symm] at h; exact h
          · rw [if_neg (Ne.symm e1)] at h; exact h
        · rw [upd_self hok hv] at h
          refine split1 false _ hv (hkn.cons (b := some false) hv) (fun e1 => ?_) (fun e1 => ?_)
          · rw [if_neg (by rw [← e1]; simp)] at h; exact h
          · rw [if_pos (by cases want <;> simp_all)] at h; exact h

theorem vcOps_sound {P : Program} {n : Nat} {rd : Option Nat} {ops : Array Oper} {Q : QE} : ∀ (l : List Oper) (k : Nat), (∀ j, l[j]? = ops[k + j]?) →
    ∀ (kn : Kn) (e : Env) (d : List Deferred) (w : World), EnvOk n e → KnOk kn e → vcOps P n rd false ops Q l kn e d w →
      wpOpsM P rd ops (toQ n Q) (List.range' k l.length) (act n e d) w := by
  intro l
  induction l with
  | nil => intro k _ kn e d w hok _ h; simp only [List.length_nil, List.range'_zero, wpOpsM]; rw [toQ_act hok]; exact h
  | cons o rest ih =>
    intro k hl kn e d w hok hkn h
    have h0 : ops[k]? = some o := by simpa using (hl 0).symm
    have ih' := ih (k + 1) (fun j => by have := hl (j + 1); simpa [Nat.add_assoc, Nat.add_comm 1 j] using this)
    simp only [List.length_cons, List.range'_succ, wpOpsM, h0]
    obtain ⟨kn', hk', (⟨hw, h⟩ | ⟨hw, h⟩)⟩ := guard_cases hok hkn h
    · rw [if_pos (hw _ (envOf_act hok d))]
      exact vcOp_sound hok hk' (fun kn' e' d' w' ho hk h => ih' kn' e' d' w' ho hk h) h
    · rw [if_neg (by rw [hw _ (envOf_act hok d)]; simp)]
      rw [act_put]
      exact ih' _ _ _ _ (hok.put _ _) (hk'.skip n _) h

theorem vcOps_region {P : Program} {n : Nat} {rd : Option Nat} {ops : Array Oper} {Q : QE} {e : Env} {d : List Deferred} {w : World} {id : Nat} (hok : EnvOk n e)
    (h : vcOps P n rd false ops Q ops.toList [] e d w) : wpM P rd (.region id ops false) (toQ n Q) (act n e d) w :=
  wpM_region (by
    have := vcOps_sound (P := P) (rd := rd) (Q := Q) ops.toList 0 (by simp) [] e d w hok (fun t b h => by simp at h) h
    rwa [Array.length_toList, ← List.range_eq_range'] at this)
end Go.L
namespace Go.L
open Go Go.RowKit

def SameOff (S : List Nat) (e0 e : Env) : Prop := ∀ s, s ∉ S → e s = e0 s
theorem SameOff.refl (S : List Nat) (e : Env) : SameOff S e e := fun _ _ => rfl
theorem SameOff.trans {S : List Nat} {a b c : Env} (h : SameOff S a b) (k : SameOff S b c) : SameOff S a c := fun s hs => (k s hs).trans (h s hs)
theorem SameOff.set {S : List Nat} {e0 e : Env} (h : SameOff S e0 e) {t : Nat} (ht : t ∈ S) (n : Nat) (v : Value) : SameOff S e0 (upd n e t v) :=
  fun s hs => by rw [upd_ne (by rintro rfl; exact hs ht)]; exact h s hs
theorem SameOff.put {S : List Nat} {e0 e : Env} (h : SameOff S e0 e) {dst : Option Tmp} (hd : ∀ t, dst = some t → t ∈ S) (n : Nat) (v : Value) : SameOff S e0 (put n e dst v) := by
  cases dst with
  | none => exact h
  | some t => exact h.set (hd t rfl) n v
theorem SameOff.mono {S S' : List Nat} {e0 e : Env} (h : SameOff S e0 e) (hS : ∀ s, s ∈ S → s ∈ S') : SameOff S' e0 e := fun s hs => h s (fun h' => hs (hS s h'))

theorem kNext_mono {P : Program} {X X' : Chain → World → Prop} {q q' : Bool} {k k' : Value → World → Prop} (hk : ∀ v w, k v w → k' v w) (hX : ∀ c w, X c w → X' c w) :
    ∀ r, kNext ⟨P, X, q⟩ k r → kNext ⟨P, X', q'⟩ k' r := by
  intro r h
  cases r with
  | ok n w =>
    cases n <;> simp only [kNext] at h ⊢
    case value v => exact hk _ _ h
    case skip => exact hk _ _ h
    case enter f args => exact Calls_after h hk hX
    case round l f tmps asn body => exact h.mono fun e w' he => by cases e <;> first | exact hk _ _ he | exact hX _ _ he | exact he
  | halt x w => cases x <;> simp only [kNext] at h ⊢; exact hX _ _ h

theorem kSem_mono {P : Program} {X X' : Chain → World → Prop} {q : Bool} {w : World} {s : Sem Next} {k k' : Value → World → Prop} (hk : ∀ v w, k v w → k' v w) (hX : ∀ c w, X c w → X' c w)
    (h : kSem ⟨P, X, q⟩ w s k) : kSem ⟨P, X', q⟩ w s k' := by
  cases q with
  | false => exact kNext_mono hk hX _ h
  | true => obtain ⟨v, h1, h2⟩ := h; exact ⟨v, h1, hk _ _ h2⟩

theorem kIf_mono {v : Value} {A B A' B' : Prop} (hA : A → A') (hB : B → B') (h : kIf v A B) : kIf v A' B' := by
  rcases kIf_elim h with ⟨rfl, h'⟩ | ⟨rfl, h'⟩
  · exact ⟨hA h'⟩
  · exact ⟨hB h'⟩

theorem vcOpV_mono {P : Program} {rd : Option Nat} {q : Bool} {X X' : Chain → World → Prop} {o : Oper} {kn : Kn} {e : Env} {w : World} {kb kb' : Option Bool → Value → World → Prop} {kd kd' : Deferred → World → Prop}
    (hk0 : ∀ b v w', kb b v w' → kb' b v w') (hd : ∀ df w', kd df w' → kd' df w') (hX : ∀ ch w', X ch w' → X' ch w') (h : vcOpV P rd q X o kn e w kb kd) : vcOpV P rd q X' o kn e w kb' kd' := by
  have hk : ∀ v w', (fun v w' => kb none v w') v w' → (fun v w' => kb' none v w') v w' := fun v w' h => hk0 _ _ _ h
  have hku : ∀ (w' : World), (fun w' => kb none undef w') w' → (fun w' => kb' none undef w') w' := fun w' h => hk0 _ _ _ h
  have mv : ∀ x, kb (knOf kn x) (ev e x) w → kb' (knOf kn x) (ev e x) w := fun x h => hk0 _ _ _ h
  obtain ⟨dst, op, type, pos, aft, guard⟩ := o
  cases op
  case defer c =>
    simp only [vcOpV] at h ⊢
    split at h
    · exact hd _ _ h
    · exact h.elim
  case move x => exact mv x h
  case assign x => exact mv x h
  case pick c a b =>
    simp only [vcOpV] at h ⊢
    split at h
    · exact mv a h
    · exact mv b h
    · exact kIf_mono (mv a) (mv b) h
  case nilCheck x =>
    simp only [vcOpV] at h ⊢
    refine ⟨?_⟩
    replace h := h.of
    unfold kNilD at h ⊢
    split at h
    · exact hk _ _ h
    · exact hk _ _ h
    · exact h.elim
  case extract t i =>
    simp only [vcOpV] at h ⊢
    refine ⟨?_⟩
    replace h := h.of
    unfold kExtD at h ⊢
    split at h
    · split at h
      · exact hk _ _ h
      · exact h.elim
    · exact h.elim
  case binOp bop t x y t2 => cases bop <;> (simp only [vcOpV] at h ⊢; exact ⟨kSem_mono hk hX h.of⟩)
  case makeFunc fn f cp => exact hk _ _ h
  case call cl =>
    obtain ⟨cal, args, ats⟩ := cl
    cases cal with
    | builtin b => exact ⟨kSem_mono hk hX h.of⟩
    | invoke r m => exact ⟨kSem_mono hk hX h.of⟩
    | value v => cases v <;> exact ⟨kSem_mono hk hX h.of⟩
  case store t a x => exact ⟨kSem_mono (fun _ w' h => hku w' h) hX h.of⟩
  case mapUpdate t m i x => exact ⟨kSem_mono (fun _ w' h => hku w' h) hX h.of⟩
  case insert t m i x => exact ⟨kSem_mono (fun _ w' h => hku w' h) hX h.of⟩
  case panic x => exact ⟨kSem_mono (fun _ _ h => h) hX h.of⟩
  case ready => exact h.elim
  case waits => exact h.elim
  case sliceToArrayPointer => exact h.elim
  case makeChan => exact h.elim
  case entryStore t m s x => exact ⟨kSem_mono (fun _ w' h => hku w' h) hX h.of⟩
  case go => exact h.elim
  case send => exact h.elim
  case recv => exact h.elim
  case select => exact h.elim
  all_goals (simp only [vcOpV] at h ⊢; exact ⟨kSem_mono hk hX h.of⟩)

theorem vcOp_mono {P : Program} {n : Nat} {rd : Option Nat} {q : Bool} {Q Q' : QE} {o : Oper} {K K' : KE} {kn : Kn} {e e0 : Env} {d : List Deferred} {w : World} {S : List Nat}
    (hQ : ∀ ch d w, Q (.panic ch) e d w → Q' (.panic ch) e d w) (hs : SameOff S e0 e) (hd : ∀ t, o.dst = some t → t ∈ S)
    (hK : ∀ kn' e' d' w', SameOff S e0 e' → K kn' e' d' w' → K' kn' e' d' w') (h : vcOp P n rd q Q o K kn e d w) : vcOp P n rd q Q' o K' kn e d w :=
  vcOpV_mono (fun _ _ _ h => hK _ _ _ _ (hs.put hd n _) h) (fun _ _ h => hK _ _ _ _ (hs.put hd n _) h) (fun _ _ h => hQ _ _ _ h) h

theorem vcOps_mono {P : Program} {n : Nat} {rd : Option Nat} {q : Bool} {ops : Array Oper} {Q Q' : QE} {S : List Nat} {e0 : Env}
    (hQ : ∀ ex e d w, SameOff S e0 e → Q ex e d w → Q' ex e d w) : ∀ (l : List Oper), (∀ t ∈ opsWrites l, t ∈ S) →
    (∀ o ∈ l, ∀ j want t, o.guard = some (j, want) → (ops[j]?).bind (·.dst) = some t → t ∈ S) →
    ∀ (kn : Kn) (e : Env) (d : List Deferred) (w : World), SameOff S e0 e → vcOps P n rd q ops Q l kn e d w → vcOps P n rd q ops Q' l kn e d w := by
  intro l
  induction l with
  | nil => intro _ _ kn e d w hs h; exact hQ _ _ _ _ hs h
  | cons o rest ih =>
    intro hw hg kn e d w hs h
    have hd : ∀ t, o.dst = some t → t ∈ S := fun t ht => hw t (by simp [opsWrites, ht])
    have ih' := ih (fun t ht => hw t (by simp only [opsWrites, List.filterMap_cons]; split <;> first | exact ht | exact List.mem_cons_of_mem _ ht)) (fun o ho => hg o (List.mem_cons_of_mem _ ho))
    have one : ∀ kn e, SameOff S e0 e → vcOp P n rd q Q o (vcOps P n rd q ops Q rest) kn e d w → vcOp P n rd q Q' o (vcOps P n rd q ops Q' rest) kn e d w := fun kn e hs h =>
      vcOp_mono (fun ch d w h => hQ _ _ _ _ hs h) hs hd (fun kn' e' d' w' hs' h => ih' kn' e' d' w' hs' h) h
    have two : ∀ kn e, SameOff S e0 e → vcOps P n rd q ops Q rest (knSkip n kn o.dst) (put n e o.dst undef) d w → vcOps P n rd q ops Q' rest (knSkip n kn o.dst) (put n e o.dst undef) d w := fun kn e hs h => ih' _ _ _ _ (hs.put hd n _) h
    unfold vcOps at h ⊢
    split at h
    · rename_i hgu; exact one _ _ hs h
    · rename_i j want hgu
      split at h
      · exact h.elim
      · rename_i t ht
        have htS : t ∈ S := hg o (List.mem_cons_self ..) j want t hgu ht
        split at h
        · split at h
          · rename_i hw'; rw [if_pos hw']; exact one _ _ hs h
          · rename_i hw'; rw [if_neg hw']; exact two _ _ hs h
        · split at h
          · rename_i hw'; rw [if_pos hw']; exact two _ _ hs h
          · rename_i hw'; rw [if_neg hw']; exact one _ _ hs h
        · exact two _ _ hs h
        · refine kIf_mono (fun h => ?_) (fun h => ?_) h
          · split at h
            · rename_i hw'; rw [if_pos hw']; exact one _ _ (hs.set htS n _) h
            · rename_i hw'; rw [if_neg hw']; exact two _ _ (hs.set htS n _) h
          · split at h
            · rename_i hw'; rw [if_pos hw']; exact two _ _ (hs.set htS n _) h
            · rename_i hw'; rw [if_neg hw']; exact one _ _ (hs.set htS n _) h
end Go.L
namespace Go.L
open Go Go.RowKit

theorem opM_monoK {P : Program} {rd : Option Nat} {o : Oper} {a : Act} {w : World} {K K' : Act → World → Prop} {Q : Exit → Act → World → Prop} (h : ∀ a w, K a w → K' a w)
    (hh : opM P rd o a w K Q) : opM P rd o a w K' Q := by
  unfold opM at *
  generalize (o.semAt rd a.eval).run P w = r at *
  cases r with
  | ok m w' =>
    cases m <;> simp only [uponM] at hh ⊢ <;>
      first
        | exact h _ _ hh
        | exact Calls.mono hh fun e w'' he => by cases e <;> first | exact h _ _ he | exact he
        | exact RoundC.mono hh fun e w'' he => by cases e <;> first | exact h _ _ he | exact he
        | exact hh
  | halt x w' => cases x <;> simp only [uponM] at hh ⊢ <;> exact hh


section
variable {P : Program} {rd : Option Nat} {ops : Array Oper} {Q : Exit → Act → World → Prop}

theorem mem_ready' {listed : Array Bool} {i : Nat} (h : i ∈ Region.ready .any ops listed) :
    listed.getD i true = false ∧ ∃ o, ops[i]? = some o ∧ ∀ ed ∈ o.after, Region.binds .any ed = true → listed.getD ed.on false = true := by
  simp only [Region.ready, List.mem_filter, Bool.and_eq_true] at h
  obtain ⟨_, h1, h2⟩ := h
  refine ⟨by simpa using h1, ?_⟩
  cases ho : ops[i]? with
  | none => rw [ho] at h2; simp at h2
  | some o =>
    refine ⟨o, rfl, fun ed he hb => ?_⟩
    rw [ho] at h2
    simp only [Option.map_some, Option.getD_some] at h2
    have := (Array.all_eq_true_iff_forall_mem.1 h2) ed he
    simp only [hb, Bool.not_true, Bool.false_or] at this
    exact this

theorem order_inv (Inv : (Nat → Bool) → Act → World → Prop)
    (hac : ∀ (i : Nat) (o : Oper), ops[i]? = some o → ∀ ed ∈ o.after, Region.binds .any ed = true → ed.on < i)
    (step : ∀ S a w i o, Inv S a w → ops[i]? = some o → S i = false → (∀ ed ∈ o.after, Region.binds .any ed = true → S ed.on = true) →
      (if Region.wanted o (yielded ops a.tmps) then opM P rd o a w (fun a' w' => Inv (inc S i) a' w') Q
       else Inv (inc S i) (a.put o.dst undef) w))
    (fin : ∀ S a w, Inv S a w → (∀ i, i < ops.size → S i = true) → Q .normal a w) :
    ∀ (fuel t : Nat) (listed : Array Bool) (a : Act) (w : World), listed.size = ops.size → ((List.range ops.size).filter (fun i => !listed.getD i true)).length ≤ fuel →
      Inv (fun i => listed.getD i false) a w → wpOpsM P rd ops Q (Region.linearise.go .any ops fuel t listed []) a w := by
  have getD_eq : ∀ (listed : Array Bool) (i : Nat), i < listed.size → listed.getD i true = listed.getD i false := fun listed i hi => by simp [hi]
  have allDone : ∀ (listed : Array Bool), listed.size = ops.size → Region.ready .any ops listed = [] → ∀ i, i < ops.size → listed.getD i false = true := by
    intro listed hsz hr i
    induction i using Nat.strongRecOn with
    | _ i ih =>
      intro hi
      cases hv : listed.getD i false with
      | true => rfl
      | false =>
        exfalso
        have : i ∈ Region.ready .any ops listed := by
          simp only [Region.ready, List.mem_filter, List.mem_range, Bool.and_eq_true]
          refine ⟨hi, by rw [getD_eq listed i (by omega), hv]; rfl, ?_⟩
          rw [Array.getElem?_eq_getElem hi]
          simp only [Option.map_some, Option.getD_some]
          refine Array.all_eq_true_iff_forall_mem.2 fun ed he => ?_
          cases hb : Region.binds .any ed with
          | false => simp
          | true =>
            have hlt := hac i _ (Array.getElem?_eq_getElem hi) ed he hb
            rw [ih ed.on hlt (by omega)]; simp
        rw [hr] at this
        cases this
  intro fuel
  induction fuel with
  | zero =>
    intro t listed a w hsz hle hinv
    simp only [Region.linearise.go, List.reverse_nil, wpOpsM]
    refine fin _ a w hinv fun i hi => ?_
    have hnil : (List.range ops.size).filter (fun i => !listed.getD i true) = [] := List.eq_nil_of_length_eq_zero (by omega)
    have := List.filter_eq_nil_iff.1 hnil i (List.mem_range.2 hi)
    rw [← getD_eq listed i (by omega)]
    simpa using this
  | succ fuel ih =>
    intro t listed a w hsz hle hinv
    simp only [Region.linearise.go]
    change wpOpsM P rd ops Q (match (Region.ready .any ops listed)[t % (Region.ready .any ops listed).length]? with
      | some i => Region.linearise.go .any ops fuel (t / (Region.ready .any ops listed).length) (listed.setIfInBounds i true) [i]
      | none => [].reverse) a w
    cases hi : (Region.ready .any ops listed)[t % (Region.ready .any ops listed).length]? with
    | none =>
      have hnil : Region.ready .any ops listed = [] := by
        cases hr : Region.ready .any ops listed with
        | nil => rfl
        | cons x xs =>
          rw [hr] at hi
          have hlt : t % (x :: xs).length < (x :: xs).length := Nat.mod_lt _ (by simp)
          rw [List.getElem?_eq_getElem hlt] at hi
          cases hi
      simp only [List.reverse_nil, wpOpsM]
      exact fin _ a w hinv (allDone listed hsz hnil)
    | some i =>
      have hmem := List.mem_of_getElem? hi
      obtain ⟨hun, o, ho, hdeps⟩ := mem_ready' hmem
      have hilt : i < ops.size := (Array.getElem?_eq_some_iff.1 ho).1
      simp only []
      rw [linearise_go_acc, List.reverse_singleton, List.singleton_append]
      have hset : (fun j => (listed.setIfInBounds i true).getD j false) = inc (fun j => listed.getD j false) i := by
        funext j
        simp only [inc]
        by_cases hj : j = i
        · subst hj; simp [hsz, hilt]
        · simp [Array.getElem?_setIfInBounds_ne (Ne.symm hj), hj]
      have hrec : ∀ a w, Inv (inc (fun j => listed.getD j false) i) a w → wpOpsM P rd ops Q (Region.linearise.go .any ops fuel (t / (Region.ready .any ops listed).length) (listed.setIfInBounds i true) []) a w := by
        intro a w h
        refine ih _ _ a w (by simp [hsz]) ?_ (by rw [hset]; exact h)
        have hsub : ((List.range ops.size).filter (fun j => !(listed.setIfInBounds i true).getD j true)).length < ((List.range ops.size).filter (fun j => !listed.getD j true)).length := by
          have e1 : (List.range ops.size).filter (fun j => !(listed.setIfInBounds i true).getD j true) = ((List.range ops.size).filter (fun j => !listed.getD j true)).filter (· != i) := by
            rw [List.filter_filter]
            apply List.filter_congr
            intro j _
            by_cases hj : j = i
            · subst hj; simp [hsz, hilt]
            · simp [Array.getElem?_setIfInBounds_ne (Ne.symm hj), hj]
          rw [e1]
          refine Nat.lt_of_le_of_ne (List.length_filter_le _ _) fun heq => ?_
          have := List.length_filter_eq_length_iff.1 heq i (List.mem_filter.2 ⟨List.mem_range.2 hilt, by rw [hun]; rfl⟩)
          simp at this
        omega
      have hst := step (fun j => listed.getD j false) a w i o hinv ho (by rw [← getD_eq listed i (by omega)]; exact hun) hdeps
      simp only [wpOpsM, ho]
      split at hst
      · rename_i hw; rw [if_pos hw]; exact opM_monoK hrec hst
      · rename_i hw; rw [if_neg hw]; exact hrec _ _ hst

theorem wpM_order (hm : P.follows .mixedOrders = true) (Inv : (Nat → Bool) → Act → World → Prop)
    (hac : ∀ (i : Nat) (o : Oper), ops[i]? = some o → ∀ ed ∈ o.after, Region.binds .any ed = true → ed.on < i)
    (step : ∀ S a w i o, Inv S a w → ops[i]? = some o → S i = false → (∀ ed ∈ o.after, Region.binds .any ed = true → S ed.on = true) →
      (if Region.wanted o (yielded ops a.tmps) then opM P rd o a w (fun a' w' => Inv (inc S i) a' w') Q
       else Inv (inc S i) (a.put o.dst undef) w))
    (fin : ∀ S a w, Inv S a w → (∀ i, i < ops.size → S i = true) → Q .normal a w) {a : Act} {w : World} {id : Nat}
    (h0 : Inv (fun _ => false) a { w with drawn := w.drawn + 1 }) : wpM P rd (.region id ops true) Q a w := by
  refine wpM_region_draw fun t => ?_
  simp only [Region.schedule, hm, Bool.true_or, if_true, Region.linearise]
  refine order_inv Inv hac step fin ops.size t _ a _ (by simp) (Nat.le_trans (List.length_filter_le _ _) (by simp)) ?_
  have : (fun i => (Array.replicate ops.size false).getD i false) = fun _ => false := by
    funext i; simp [Array.getElem?_replicate]; split <;> rfl
  rw [this]; exact h0
end
end Go.L
namespace Go.L
open Go Go.RowKit

structure ParOk (ops : Array Oper) : Prop where
  nosel : ∀ (i : Nat) (o : Oper), ops[i]? = some o → ∀ cs b, o.op ≠ .select cs b
  acyc : ∀ (i : Nat) (o : Oper), ops[i]? = some o → ∀ ed ∈ o.after, Region.binds .any ed = true → ed.on < i
  guards : ∀ (i : Nat) (o : Oper) g want, ops[i]? = some o → o.guard = some (g, want) → ∃ ed ∈ o.after, Region.binds .any ed = true ∧ ed.on = g
  uniq : ∀ (i j : Nat) (o o2 : Oper) t, ops[i]? = some o → ops[j]? = some o2 → o.dst = some t → o2.dst = some t → i = j
  reads : ∀ (i j : Nat) (o o2 : Oper) t, ops[i]? = some o → ops[j]? = some o2 → o2.dst = some t → t ∈ o.looksAt ops → (∃ ed ∈ o.after, Region.binds .any ed = true ∧ ed.on = j) ∨ ∃ ed ∈ o2.after, Region.binds .any ed = true ∧ ed.on = i

theorem parOk_of {ops : Array Oper} (h : parB ops = true) : ParOk ops := by
  have key : ∀ (i : Nat) (o : Oper), ops[i]? = some o → (noSel o = true ∧ guardB o = true) ∧ (∀ ed ∈ o.after, Region.binds .any ed = true → ed.on < i) ∧
      ∀ (j : Nat) (o2 : Oper), ops[j]? = some o2 → ∀ t, o2.dst = some t → (j = i ∨ o.dst ≠ some t) ∧ (t ∈ o.looksAt ops → (∃ ed ∈ o.after, Region.binds .any ed = true ∧ ed.on = j) ∨ ∃ ed ∈ o2.after, Region.binds .any ed = true ∧ ed.on = i) := by
    intro i o ho
    have hmem : (o, i) ∈ ops.toList.zipIdx := List.mem_zipIdx_iff_getElem?.2 (by simpa using ho)
    have h1 := List.all_eq_true.1 h (o, i) hmem
    simp only [Bool.and_eq_true] at h1
    obtain ⟨⟨hs, ha⟩, hb⟩ := h1
    refine ⟨hs, fun ed he hbd => ?_, fun j o2 ho2 t ht => ?_⟩
    · have := Array.all_eq_true_iff_forall_mem.1 ha ed he
      simpa [hbd] using this
    · have h2 := List.all_eq_true.1 hb (o2, j) (List.mem_zipIdx_iff_getElem?.2 (by simpa using ho2))
      simp only [ht, Bool.and_eq_true, Bool.or_eq_true] at h2
      refine ⟨h2.1.imp (fun h => by simpa using h) (fun h => by simpa using h), fun htm => ?_⟩
      rcases h2.2 with (h3 | h3) | h3
      · simp [htm] at h3
      · obtain ⟨ed, he, hx⟩ := Array.any_eq_true'.1 h3
        simp only [Bool.and_eq_true] at hx
        exact .inl ⟨ed, he, hx.1, by simpa using hx.2⟩
      · obtain ⟨ed, he, hx⟩ := Array.any_eq_true'.1 h3
        simp only [Bool.and_eq_true] at hx
        exact .inr ⟨ed, he, hx.1, by simpa using hx.2⟩
  refine ⟨fun i o ho cs b hc => ?_, fun i o ho => (key i o ho).2.1, fun i o g want ho hg => ?_, fun i j o o2 t ho ho2 hd hd2 => ?_, fun i j o o2 t ho ho2 hd2 ht => ((key i o ho).2.2 j o2 ho2 t hd2).2 ht⟩
  · have := (key i o ho).1.1
    simp [noSel, hc] at this
  · have := (key i o ho).1.2
    simp only [guardB, hg] at this
    obtain ⟨ed, he, hx⟩ := Array.any_eq_true'.1 this
    simp only [Bool.and_eq_true] at hx
    exact ⟨ed, he, hx.1, by simpa using hx.2⟩
  · rcases ((key i o ho).2.2 j o2 ho2 t hd2).1 with h | h
    · exact h.symm
    · exact absurd hd h

/-- The frame 'x' is 'e' with what the operations in S have yielded ('u') in their slots. -/
structure Agree (n : Nat) (ops : Array Oper) (e : Env) (S : Nat → Bool) (u : Nat → Value) (x : Env) : Prop where
  out : ∀ s, (∀ (i : Nat) (o : Oper), ops[i]? = some o → o.dst ≠ some s) → x s = e s
  no : ∀ (i : Nat) (o : Oper) t, ops[i]? = some o → o.dst = some t → S i = false → x t = e t
  yes : ∀ (i : Nat) (o : Oper) t, ops[i]? = some o → o.dst = some t → S i = true → x t = upd n e t (u i) t

theorem Agree.start (n : Nat) (ops : Array Oper) (e : Env) (u : Nat → Value) : Agree n ops e (fun _ => false) u e :=
  ⟨fun _ _ => rfl, fun _ _ _ _ _ _ => rfl, fun _ _ _ _ _ h => by simp at h⟩

theorem Agree.step {n : Nat} {ops : Array Oper} (hp : ParOk ops) {e : Env} {S : Nat → Bool} {u u' : Nat → Value} {x : Env} (h : Agree n ops e S u x) {i : Nat} {o : Oper} (ho : ops[i]? = some o)
    {v : Value} (hv : u' i = v) (hu : ∀ j, j ≠ i → u' j = u j) : Agree n ops e (inc S i) u' (put n x o.dst v) := by
  cases hd : o.dst with
  | none =>
    refine ⟨h.out, fun j oj t hj ht hSj => h.no j oj t hj ht ?_, fun j oj t hj ht hSj => ?_⟩
    · simp only [inc, Bool.or_eq_false_iff] at hSj; exact hSj.2
    · by_cases hji : j = i
      · subst hji; rw [ho] at hj; cases hj; rw [hd] at ht; cases ht
      · simp only [inc, show (j == i) = false by simpa using hji, Bool.false_or] at hSj
        rw [hu j hji]; exact h.yes j oj t hj ht hSj
  | some t0 =>
    refine ⟨fun s hs => ?_, fun j oj t hj ht hSj => ?_, fun j oj t hj ht hSj => ?_⟩
    · have : t0 ≠ s := fun e => hs i o ho (by rw [hd, e])
      simp only [put]; rw [upd_ne (Ne.symm this)]; exact h.out s hs
    · simp only [inc, Bool.or_eq_false_iff] at hSj
      have hji : j ≠ i := by simpa using hSj.1
      have : t0 ≠ t := fun e => hji (hp.uniq j i oj o t hj ho ht (by rw [hd, e]))
      simp only [put]; rw [upd_ne (Ne.symm this)]; exact h.no j oj t hj ht hSj.2
    · by_cases hji : j = i
      · subst hji
        rw [ho] at hj; cases hj
        rw [hd] at ht; cases ht
        simp only [put, hv]
        by_cases hn : t0 < n
        · rw [upd_same hn, upd_same hn]
        · rw [upd_out hn, upd_out hn]
          cases hS : S j with
          | false => exact h.no j o t0 ho hd hS
          | true => have := h.yes j o t0 ho hd hS; rwa [upd_out hn] at this
      · simp only [inc, show (j == i) = false by simpa using hji, Bool.false_or] at hSj
        have : t0 ≠ t := fun e => hji (hp.uniq j i oj o t hj ho ht (by rw [hd, e]))
        simp only [put]; rw [upd_ne (Ne.symm this), hu j hji]; exact h.yes j oj t hj ht hSj

/-- Two frames that agree on what an operation looks at run it alike. -/
theorem Agree.looks {n : Nat} {ops : Array Oper} (hp : ParOk ops) {e : Env} {S S' : Nat → Bool} {u u' : Nat → Value} {x y : Env} (hx : Agree n ops e S u x) (hy : Agree n ops e S' u' y) {i : Nat} {o : Oper} (ho : ops[i]? = some o)
    (hd : ∀ ed ∈ o.after, Region.binds .any ed = true → S ed.on = true ∧ S' ed.on = true ∧ u ed.on = u' ed.on)
    (hno : ∀ (j : Nat) (oj : Oper), ops[j]? = some oj → (∃ ed ∈ oj.after, Region.binds .any ed = true ∧ ed.on = i) → S j = false ∧ S' j = false) {t : Nat} (ht : t ∈ o.looksAt ops) : x t = y t := by
  by_cases hw : ∃ (j : Nat) (oj : Oper), ops[j]? = some oj ∧ oj.dst = some t
  · obtain ⟨j, oj, hj, hjt⟩ := hw
    rcases hp.reads i j o oj t ho hj hjt ht with ⟨ed, he, hb, rfl⟩ | hw
    · obtain ⟨h1, h2, h3⟩ := hd ed he hb
      rw [hx.yes _ oj t hj hjt h1, hy.yes _ oj t hj hjt h2, h3]
    · obtain ⟨h1, h2⟩ := hno j oj hj hw
      rw [hx.no _ oj t hj hjt h1, hy.no _ oj t hj hjt h2]
  · have hn : ∀ (j : Nat) (oj : Oper), ops[j]? = some oj → oj.dst ≠ some t := fun j oj hj hjt => hw ⟨j, oj, hj, hjt⟩
    rw [hx.out t hn, hy.out t hn]

theorem ev_congr {x y : Env} {q : Operand} (h : ∀ t, q = .tmp t → x t = y t) : ev x q = ev y q := by
  cases q with
  | tmp t => exact h t rfl
  | _ => rfl

theorem resolve_congr2 {ops : Array Oper} {x y : Env} {o : Oper} (hl : ∀ t, t ∈ o.looksAt ops → x t = y t) : ∀ q ∈ o.op.operands, ev x q = ev y q := by
  intro q hq
  refine ev_congr fun t ht => hl t ?_
  subst ht
  exact List.mem_append_left _ (List.mem_filterMap.2 ⟨.tmp t, by simpa using hq, rfl⟩)

theorem semAt_congr {ops : Array Oper} {rd : Option Nat} {x y : Env} {o : Oper} (hs : ∀ cs b, o.op ≠ .select cs b) (hl : ∀ t, t ∈ o.looksAt ops → x t = y t) : o.semAt rd (ev x) = o.semAt rd (ev y) := by
  have h1 := resolve_congr2 hl
  have h2 := execOp_congr o hs h1
  unfold Oper.semAt
  split
  · rename_i c hc
    rw [resolve_congr c _ (fun q hq => h1 q (by rw [hc]; exact hq))]
  · exact h2

def yieldE (ops : Array Oper) (y : Env) : Nat → Option Bool := fun j => match (ops[j]?).bind (·.dst) with
  | some t => (match y t with | .bool b => some b | _ => none)
  | none => none
theorem yielded_envOf (ops : Array Oper) (a : Act) : yielded ops a.tmps = yieldE ops (envOf a) := by
  funext j
  cases h : (ops[j]?).bind (·.dst) with
  | none => simp only [yielded, yieldE, h, Option.bind_none]
  | some t =>
    rw [yielded_env h]; simp only [yieldE, h]
    first | done | (cases envOf a t <;> rfl)

theorem yielded_congr {ops : Array Oper} {x y : Env} {o : Oper} (hl : ∀ t, t ∈ o.looksAt ops → x t = y t) : Region.wanted o (yieldE ops x) = Region.wanted o (yieldE ops y) := by
  unfold Region.wanted
  cases hg : o.guard with
  | none => rfl
  | some gw =>
    obtain ⟨g, want⟩ := gw
    simp only
    cases ht : (ops[g]?).bind (·.dst) with
    | none => simp only [yieldE, ht]
    | some t =>
      have : x t = y t := hl t (by simp [Oper.looksAt, hg, ht])
      simp only [yieldE, ht, this]
theorem envOf_put {n : Nat} {a : Act} (h : a.tmps.size = n) (dst : Option Tmp) (v : Value) : envOf (a.put dst v) = put n (envOf a) dst v := by
  rw [← act_self h, act_put, envOf_act (envOf_ok h), envOf_act ((envOf_ok h).put _ _)]
theorem put_size (a : Act) (dst : Option Tmp) (v : Value) : (a.put dst v).tmps.size = a.tmps.size := by
  cases dst <;> simp [Act.put]
end Go.L
namespace Go.L
open Go Go.RowKit

/-- In the frame 'y', in every world that is 'w' after some draws, the operation yields 'v' and leaves such a world. -/
def Yq (P : Program) (rd : Option Nat) (ops : Array Oper) (w : World) (o : Oper) (y : Env) (v : Value) : Prop :=
  (Region.wanted o (yieldE ops y) = true ∧ ∀ n, Oper.quietUpon P (fun w' => ∃ n, w' = w.drewN n) (w.drewN n) v ((o.semAt rd (ev y)).run P (w.drewN n))) ∨
  (Region.wanted o (yieldE ops y) = false ∧ v = undef)

def QV (n : Nat) (P : Program) (rd : Option Nat) (ops : Array Oper) (w : World) : List Oper → Env → List Value → Env → Prop
  | [], e, [], e' => e' = e
  | o :: l, e, v :: vs, e' => Yq P rd ops w o e v ∧ QV n P rd ops w l (put n e o.dst v) vs e'
  | _, _, _, _ => False

theorem quiet_of_kSem {P : Program} {X : Chain → World → Prop} {k : Value → World → Prop} {w : World} {s : Sem Next} (h : kSem ⟨P, X, true⟩ w s k) :
    ∃ v, (∀ n, Oper.quietUpon P (fun w' => ∃ n, w' = w.drewN n) (w.drewN n) v (s.run P (w.drewN n))) ∧ k v w := h

theorem vcOpV_quiet {P : Program} {rd : Option Nat} {X : Chain → World → Prop} {o : Oper} {kn : Kn} {e : Env} {w : World} {kb : Option Bool → Value → World → Prop} {kd : Deferred → World → Prop}
    (hkn : KnOk kn e) (h : vcOpV P rd true X o kn e w kb kd) :
    ∃ b v, (∀ c, b = some c → v = .bool c) ∧ (∀ n, Oper.quietUpon P (fun w' => ∃ n, w' = w.drewN n) (w.drewN n) v ((o.semAt rd (ev e)).run P (w.drewN n))) ∧ kb b v w := by
  have hk : ∀ {s : Sem Next}, kSem ⟨P, X, true⟩ w s (fun v w' => kb none v w') → (∀ c, o.op ≠ .defer c) → execOp (ev e) o = s →
      ∃ b v, (∀ c, b = some c → v = .bool c) ∧ (∀ n, Oper.quietUpon P (fun w' => ∃ n, w' = w.drewN n) (w.drewN n) v ((o.semAt rd (ev e)).run P (w.drewN n))) ∧ kb b v w := fun {s} h hd hs => by
    obtain ⟨v, h1, h2⟩ := h
    exact ⟨none, v, by simp, by rw [semAt_eq hd, hs]; exact h1, h2⟩
  have hku : ∀ {s : Sem Unit}, kUnit ⟨P, X, true⟩ w s (fun w' => kb none undef w') → (∀ c, o.op ≠ .defer c) → execOp (ev e) o = (do s; pure .skip) →
      ∃ b v, (∀ c, b = some c → v = .bool c) ∧ (∀ n, Oper.quietUpon P (fun w' => ∃ n, w' = w.drewN n) (w.drewN n) v ((o.semAt rd (ev e)).run P (w.drewN n))) ∧ kb b v w := fun {s} h hd hs => by
    obtain ⟨v, h1, h2⟩ := h
    refine ⟨none, undef, by simp, ?_, h2⟩
    rw [semAt_eq hd, hs]
    intro n
    have := h1 n
    simp only [Sem.run_bind] at this ⊢
    cases hr : s.run P (w.drewN n) with
    | ok u w' => rw [hr] at this; exact ⟨this.1, rfl⟩
    | halt x w' => rw [hr] at this; exact this.elim
  have hmove : ∀ x, (∀ c, o.op ≠ .defer c) → execOp (ev e) o = pure (.value (ev e x)) → kb (knOf kn x) (ev e x) w →
      ∃ b v, (∀ c, b = some c → v = .bool c) ∧ (∀ n, Oper.quietUpon P (fun w' => ∃ n, w' = w.drewN n) (w.drewN n) v ((o.semAt rd (ev e)).run P (w.drewN n))) ∧ kb b v w := fun x hd hs h =>
    ⟨_, _, fun c hc => knOf_ok hkn hc, by rw [semAt_eq hd, hs]; exact fun n => ⟨rfl, rfl⟩, h⟩
  obtain ⟨dst, op, type, pos, aft, guard⟩ := o
  cases op
  case defer c => simp [vcOpV] at h
  case move x => exact hmove x (by simp) rfl h
  case assign x => exact hmove x (by simp) rfl h
  case pick q x1 x2 =>
    simp only [vcOpV] at h
    have run : ∀ t, ev e q = .bool t → execOp (ev e) (⟨dst, .pick q x1 x2, type, pos, aft, guard⟩ : Oper) = pure (.value (if t then ev e x1 else ev e x2)) := fun t ht => by
      simp only [execOp]; rw [ht]; rfl
    split at h
    · rename_i hq; exact hmove x1 (by simp) (run true (knOf_ok hkn hq)) h
    · rename_i hq; exact hmove x2 (by simp) (run false (knOf_ok hkn hq)) h
    · rcases kIf_elim h with ⟨hq, h⟩ | ⟨hq, h⟩
      · exact hmove x1 (by simp) (run true hq) h
      · exact hmove x2 (by simp) (run false hq) h
  case nilCheck x =>
    simp only [vcOpV] at h
    replace h := h.of
    unfold kNilD at h
    split at h
    · rename_i hx
      refine ⟨none, _, by simp, fun n => ?_, h⟩
      rw [semAt_eq (by simp)]; simp only [execOp]; rw [hx]; exact ⟨rfl, rfl⟩
    · rename_i hx
      refine ⟨none, _, by simp, fun n => ?_, h⟩
      rw [semAt_eq (by simp)]; simp only [execOp]; rw [hx]; exact ⟨rfl, rfl⟩
    · exact h.elim
  case extract t i =>
    simp only [vcOpV] at h
    replace h := h.of
    unfold kExtD at h
    split at h
    · rename_i vs hx
      split at h
      · rename_i v hv
        refine ⟨none, v, by simp, fun n => ?_, h⟩
        rw [semAt_eq (by simp)]; simp only [execOp]; rw [hx]
        have : Sem.run P (do pure (.value (← Instr.extract (.tuple vs) i)) : Sem Next) (w.drewN n) = .ok (.value v) (w.drewN n) := by
          simp [Instr.extract, hv]
        rw [this]
        exact ⟨rfl, rfl⟩
      · exact h.elim
    · exact h.elim
  case binOp bop t x y t2 =>
    cases bop
    case eql => simp only [vcOpV] at h; exact hk (s := do pure (.value (← (do eqGuard .eql t x y (ev e x) (ev e y); binOp .eql t (ev e x) (ev e y))))) h.of (by simp) rfl
    case neq => simp only [vcOpV] at h; exact hk (s := do pure (.value (← (do eqGuard .neq t x y (ev e x) (ev e y); binOp .neq t (ev e x) (ev e y))))) h.of (by simp) rfl
    all_goals (simp only [vcOpV] at h; exact hk (s := do pure (.value (← binOp _ t (ev e x) (ev e y)))) h.of (by simp) rfl)
  case makeFunc fn f cp => exact ⟨none, _, by simp, fun n => by rw [semAt_eq (by simp)]; exact ⟨rfl, rfl⟩, h⟩
  case call cl =>
    obtain ⟨cal, args, ats⟩ := cl
    simp only [vcOpV] at h
    cases cal with
    | builtin b => exact hk h.of (by simp) rfl
    | invoke r m => exact hk h.of (by simp) rfl
    | value v =>
      cases v with
      | func f =>
        refine hk h.of (by simp) ?_
        show callFunc f (#[] ++ args.map (ev e) ++ #[]) = _
        rw [Array.empty_append, Array.append_empty]
      | tmp t => exact hk h.of (by simp) rfl
      | const v => exact hk h.of (by simp) rfl
      | global g => exact hk h.of (by simp) rfl
  case store t a x => exact hku h.of (by simp) rfl
  case mapUpdate t m i x => exact hku h.of (by simp) rfl
  case insert t m i x => exact hku h.of (by simp) rfl
  case panic x => obtain ⟨v, _, h2⟩ := h.of; exact h2.elim
  case ready => exact h.elim
  case waits => exact h.elim
  case sliceToArrayPointer => exact h.elim
  case makeChan => exact h.elim
  case entryStore t m s x => exact hku h.of (by simp) rfl
  case go => exact h.elim
  case send => exact h.elim
  case recv => exact h.elim
  case select => exact h.elim
  all_goals (simp only [vcOpV] at h; exact hk h.of (by simp) rfl)

theorem quiet_vals {n : Nat} {P : Program} {rd : Option Nat} {ops : Array Oper} {Q : QE} {w : World} : ∀ (l : List Oper) (kn : Kn) (e : Env) (d : List Deferred), EnvOk n e → KnOk kn e → vcOps P n rd true ops Q l kn e d w →
    ∃ vs e', QV n P rd ops w l e vs e' ∧ vs.length = l.length ∧ Q .normal e' d w := by
  intro l
  induction l with
  | nil => intro kn e d _ _ h; exact ⟨[], e, rfl, rfl, h⟩
  | cons o rest ih =>
    intro kn e d hok hkn h
    obtain ⟨kn', hk', (⟨hw, h⟩ | ⟨hw, h⟩)⟩ := guard_cases hok hkn h
    · obtain ⟨b, v, hb, hq, h⟩ := vcOpV_quiet hk' h
      obtain ⟨vs, e', h1, h2, h3⟩ := ih _ _ _ (hok.put _ _) (hk'.putv n o.dst hb) h
      exact ⟨v :: vs, e', ⟨.inl ⟨by rw [← envOf_act hok d, ← yielded_envOf]; exact hw _ (envOf_act hok d), hq⟩, h1⟩, by simp [h2], h3⟩
    · obtain ⟨vs, e', h1, h2, h3⟩ := ih _ _ _ (hok.put _ _) (hk'.skip n _) h
      exact ⟨undef :: vs, e', ⟨.inr ⟨by rw [← envOf_act hok d, ← yielded_envOf]; exact hw _ (envOf_act hok d), rfl⟩, h1⟩, by simp [h2], h3⟩

theorem inc_lt (k : Nat) : inc (fun j => decide (j < k)) k = fun j => decide (j < k + 1) := by
  funext j
  by_cases hj : j = k
  · subst hj; simp [inc]
  · have h1 : (decide (j < k)) = decide (j < k + 1) := by
      congr 1; apply propext; omega
    have h2 : (j == k) = false := by simpa using hj
    simp only [inc, h1, h2, Bool.false_or]

theorem QV_spec {n : Nat} {P : Program} {rd : Option Nat} {ops : Array Oper} {w : World} (hp : ParOk ops) {e : Env} {u : Nat → Value} : ∀ (l : List Oper) (k : Nat) (ek : Env) (vs : List Value) (e' : Env),
    (∀ j, l[j]? = ops[k + j]?) → (∀ j, u (k + j) = vs.getD j undef) → Agree n ops e (fun j => decide (j < k)) u ek → QV n P rd ops w l ek vs e' →
    (∀ (i : Nat) (o : Oper), k ≤ i → ops[i]? = some o → ∃ y, Agree n ops e (fun j => decide (j < i)) u y ∧ Yq P rd ops w o y (u i)) ∧ Agree n ops e (fun j => decide (j < k + l.length)) u e' := by
  intro l
  induction l with
  | nil =>
    intro k ek vs e' hl hu ha h
    cases vs with
    | cons => exact h.elim
    | nil =>
      have he : e' = ek := h
      subst he
      refine ⟨fun i o hi ho => ?_, by simpa using ha⟩
      have := (hl (i - k)).symm
      rw [show k + (i - k) = i by omega, ho] at this
      simp at this
  | cons o rest ih =>
    intro k ek vs e' hl hu ha h
    cases vs with
    | nil => exact h.elim
    | cons v vs =>
      have ho : ops[k]? = some o := by simpa using (hl 0).symm
      have hv : u k = v := by simpa using hu 0
      have ha' := ha.step hp ho (u' := u) hv (fun _ _ => rfl)
      rw [inc_lt] at ha'
      obtain ⟨h1, h2⟩ := ih (k + 1) _ vs e' (fun j => by have := hl (j + 1); simpa [Nat.add_assoc, Nat.add_comm 1 j] using this)
        (fun j => by have := hu (j + 1); simpa [Nat.add_assoc, Nat.add_comm 1 j] using this) ha' h.2
      refine ⟨fun i oi hi hoi => ?_, by simpa [Nat.add_assoc, Nat.add_comm 1] using h2⟩
      by_cases hik : i = k
      · subst hik; rw [ho] at hoi; cases hoi
        exact ⟨ek, ha, by rw [hv]; exact h.1⟩
      · exact h1 i oi (by omega) hoi

theorem Agree.eq_of_all {n : Nat} {ops : Array Oper} {e : Env} {S S' : Nat → Bool} {u : Nat → Value} {x y : Env} (hx : Agree n ops e S u x) (hy : Agree n ops e S' u y)
    (hS : ∀ i, i < ops.size → S i = true) (hS' : ∀ i, i < ops.size → S' i = true) : x = y := by
  funext s
  by_cases hw : ∃ (j : Nat) (oj : Oper), ops[j]? = some oj ∧ oj.dst = some s
  · obtain ⟨j, oj, hj, hjt⟩ := hw
    have hlt := (Array.getElem?_eq_some_iff.1 hj).1
    rw [hx.yes j oj s hj hjt (hS j hlt), hy.yes j oj s hj hjt (hS' j hlt)]
  · have hn : ∀ (j : Nat) (oj : Oper), ops[j]? = some oj → oj.dst ≠ some s := fun j oj hj hjt => hw ⟨j, oj, hj, hjt⟩
    rw [hx.out s hn, hy.out s hn]

theorem drewN_assoc (w : World) (n m : Nat) : (w.drewN n).drewN m = w.drewN (n + m) := by simp

theorem vcQuiet_sound {P : Program} {n : Nat} {rd : Option Nat} {ops : Array Oper} {Q : QE} {e : Env} {d : List Deferred} {w : World} {id : Nat} (hok : EnvOk n e) (hB : parB ops = true) (hm : P.follows .mixedOrders = true)
    (h : vcOps P n rd true ops (fun ex e' d' _ => match ex with | .normal => kDrew w (fun w' => Q .normal e' d' w') | _ => False) ops.toList [] e d w) : wpM P rd (.region id ops true) (toQ n Q) (act n e d) w := by
  have hp := parOk_of hB
  obtain ⟨vs, e', hq, hlen, hQ⟩ := quiet_vals ops.toList [] e d hok (fun t b h => by simp at h) h
  obtain ⟨hy, hfin⟩ := QV_spec (u := fun j => vs.getD j undef) hp ops.toList 0 e vs e' (by simp) (by simp) (by simpa using Agree.start n ops e _) hq
  refine wpM_order hm (fun S a W => (∃ m, W = w.drewN m) ∧ a.defers = d ∧ a.tmps.size = n ∧ (∀ (j : Nat) (oj : Oper), ops[j]? = some oj → S j = true → ∀ ed ∈ oj.after, Region.binds .any ed = true → S ed.on = true) ∧ Agree n ops e S (fun j => vs.getD j undef) (envOf a)) hp.acyc ?_ ?_ ⟨⟨1, rfl⟩, rfl, act_size n e d, fun _ _ _ h => by simp at h, by rw [envOf_act hok]; exact Agree.start n ops e _⟩
  · rintro S a W i o ⟨⟨m, rfl⟩, hd, hsz, hcl, ha⟩ ho hS hdep
    obtain ⟨y, hay, hyq⟩ := hy i o (Nat.zero_le _) ho
    have hlooks : ∀ t, t ∈ o.looksAt ops → envOf a t = y t := fun t ht => ha.looks hp hay ho (fun ed he hb => ⟨hdep ed he hb, by simpa using hp.acyc i o ho ed he hb, rfl⟩) (fun j oj hj ⟨ed, he, hb, hon⟩ => ⟨Bool.eq_false_iff.2 fun hSj => (by have h1 := hcl j oj hj hSj ed he hb; rw [hon, hS] at h1; cases h1), (by have h1 := hp.acyc j oj hj ed he hb; rw [hon] at h1; simp; omega)⟩) ht
    have hsem : o.semAt rd a.eval = o.semAt rd (ev y) := by rw [eval_envOf]; exact semAt_congr (hp.nosel i o ho) hlooks
    have hwant : Region.wanted o (yielded ops a.tmps) = Region.wanted o (yieldE ops y) := by
      rw [yielded_envOf]; exact yielded_congr hlooks
    have hinv : ∀ m, (∃ n', (w.drewN m) = w.drewN n') ∧ (a.put o.dst (vs.getD i undef)).defers = d ∧ (a.put o.dst (vs.getD i undef)).tmps.size = n ∧ (∀ (j : Nat) (oj : Oper), ops[j]? = some oj → inc S i j = true → ∀ ed ∈ oj.after, Region.binds .any ed = true → inc S i ed.on = true) ∧ Agree n ops e (inc S i) (fun j => vs.getD j undef) (envOf (a.put o.dst (vs.getD i undef))) := fun m => by
      refine ⟨⟨m, rfl⟩, ?_, ?_, ?_, ?_⟩
      · cases o.dst <;> exact hd
      · rw [put_size]; exact hsz
      · intro j oj hj hSj ed he hb
        simp only [inc, Bool.or_eq_true] at hSj ⊢
        rcases hSj with hji | hSj
        · have hji : j = i := by simpa using hji
          subst hji
          rw [ho] at hj; cases hj
          exact .inr (hdep ed he hb)
        · exact .inr (hcl j oj hj hSj ed he hb)
      · rw [envOf_put hsz]
        exact ha.step hp ho (u' := fun j => vs.getD j undef) rfl (fun _ _ => rfl)
    rw [hwant]
    rcases hyq with ⟨hw, hv⟩ | ⟨hw, hv⟩
    · rw [if_pos hw]
      unfold opM
      rw [hsem]
      have := hv m
      generalize (o.semAt rd (ev y)).run P (w.drewN m) = r at this
      cases r with
      | halt x w' => exact this.elim
      | ok nx w' =>
        cases nx <;> simp only [Oper.quietUpon] at this <;> simp only [uponM]
        case value v => obtain ⟨rfl, rfl⟩ := this; exact hinv m
        case skip => obtain ⟨rfl, h2⟩ := this; have hi := hinv m; rw [h2] at hi; exact hi
        case enter f args =>
          obtain ⟨rfl, hc⟩ := this
          refine hc.mono fun en w'' he => ?_
          obtain ⟨rfl, m, rfl⟩ := he
          exact hinv m
    · rw [if_neg (by rw [hw]; simp)]
      have hi := hinv m
      rw [hv] at hi
      exact hi
  · rintro S a W ⟨⟨m, rfl⟩, hd, hsz, _, ha⟩ hS
    have : envOf a = e' := ha.eq_of_all hfin hS (fun i hi => by simpa using hi)
    refine ⟨hsz, ?_⟩
    rw [this, hd]
    exact hQ.of m
end Go.L
namespace Go.L
open Go Go.RowKit

theorem mem_nub {l : List Nat} {x : Nat} : x ∈ nub l ↔ x ∈ l := by
  induction l with
  | nil => simp [nub]
  | cons y l ih =>
    simp only [nub, List.mem_cons, List.mem_filter, ih]
    by_cases h : x = y <;> simp [h]

theorem mem_depsOf {o : Oper} {j : Nat} : j ∈ depsOf o ↔ ∃ ed ∈ o.after, Region.binds .any ed = true ∧ ed.on = j := by
  simp only [depsOf, mem_nub, List.mem_map, List.mem_filter]
  constructor
  · rintro ⟨ed, ⟨h1, h2⟩, h3⟩; exact ⟨ed, by simpa using h1, h2, h3⟩
  · rintro ⟨ed, h1, h2, h3⟩; exact ⟨ed, ⟨by simpa using h1, h2⟩, h3⟩

theorem tailGo_le (ops : Array Oper) : ∀ n, tailGo ops n ≤ n
  | 0 => Nat.le_refl _
  | n + 1 => by unfold tailGo; split
                · exact Nat.le_succ_of_le (tailGo_le ops n)
                · exact Nat.le_refl _
theorem tailGo_spec (ops : Array Oper) : ∀ n i, tailGo ops n ≤ i → i < n → ∀ j, j < i → j ∈ depsOf (ops.getD i default)
  | 0, i, _, h => by omega
  | n + 1, i, h1, h2 => by
    unfold tailGo at h1
    split at h1
    · rename_i hall
      intro j hj
      by_cases hi : i = n
      · subst hi
        have := List.all_eq_true.1 hall j (List.mem_range.2 hj)
        simpa using this
      · exact tailGo_spec ops n i h1 (by omega) j hj
    · omega

theorem setDeps_agree {n : Nat} {ops : Array Oper} (hp : ParOk ops) (e : Env) (vs : Nat → Value) : ∀ (js : List Nat), (∀ j ∈ js, j < ops.size) → Agree n ops e (fun j => js.contains j) vs (setDeps n e ops vs js)
  | [], _ => by
    have h := Agree.start n ops e vs
    have e0 : (fun j => ([] : List Nat).contains j) = fun _ => false := by funext j; simp
    rw [e0]; exact h
  | j :: js, hjs => by
    have ih := setDeps_agree (n := n) hp e vs js (fun k hk => hjs k (List.mem_cons_of_mem _ hk))
    have hj : j < ops.size := hjs j (List.mem_cons_self ..)
    have := ih.step hp (Array.getElem?_eq_getElem hj) (u' := vs) rfl (fun _ _ => rfl)
    have e1 : inc (fun k => js.contains k) j = fun k => (j :: js).contains k := by
      funext k; simp only [inc, List.contains_cons]
    rw [e1] at this
    have e2 : dstAt ops j = (ops[j]'hj).dst := by simp [dstAt, Array.getElem?_eq_getElem hj]
    simp only [setDeps, e2]
    exact this

theorem parAll_get {one : Nat → Oper → Prop} : ∀ (l : List Oper) (k : Nat), parAll one k l → ∀ i o, l[i]? = some o → one (k + i) o
  | [], _, _, i, o, h => by simp at h
  | x :: l, k, h, i, o, hi => by
    cases i with
    | zero => simp at hi; subst hi; exact h.1
    | succ i => have := parAll_get l (k + 1) h.2 i o (by simpa using hi); rwa [show k + (i + 1) = k + 1 + i by omega]

theorem kGuard_cases {v : Value} {want : Bool} {A B : Prop} (h : kGuard v want A B) : (v = .bool want ∧ A) ∨ (v ≠ .bool want ∧ B) := by
  replace h := h.of
  unfold kGuardD at h
  split at h
  · rename_i b
    split at h
    · rename_i hb; subst hb; exact .inl ⟨rfl, h⟩
    · rename_i hb; exact .inr ⟨by simpa using hb, h⟩
  · rename_i hv; exact .inr ⟨hv want, h⟩

theorem wanted_of_dst {ops : Array Oper} {o : Oper} {y : Env} {g : Nat} {want : Bool} {t : Nat} (hg : o.guard = some (g, want)) (ht : dstAt ops g = some t) :
    Region.wanted o (yieldE ops y) = true ↔ y t = .bool want := by
  have ht' : (ops[g]?).bind (·.dst) = some t := ht
  simp only [Region.wanted, hg, yieldE, ht']
  generalize y t = v
  cases v <;> simp

theorem vcPar_sound {P : Program} {n : Nat} {rd : Option Nat} {ops : Array Oper} {Q : QE} {e : Env} {d : List Deferred} {w : World} {id : Nat} (hok : EnvOk n e) (hB : parB ops = true) (hm : P.follows .mixedOrders = true)
    (h : vcPar P n rd ops Q e d w) : wpM P rd (.region id ops true) (toQ n Q) (act n e d) w := by
  have hp := parOk_of hB
  obtain ⟨Inv, hI0, hall, hfin⟩ := h.of
  obtain ⟨m, hmdef⟩ : ∃ m, m = tailGo ops ops.size := ⟨_, rfl⟩
  rw [← hmdef] at hall hfin
  have hmle : m ≤ ops.size := by rw [hmdef]; exact tailGo_le _ _
  have htail : ∀ i o, ops[i]? = some o → m ≤ i → ∀ j, j < i → ∃ ed ∈ o.after, Region.binds .any ed = true ∧ ed.on = j := by
    intro i o ho hi j hj
    have hlt := (Array.getElem?_eq_some_iff.1 ho).1
    have := tailGo_spec ops ops.size i (by rw [← hmdef]; exact hi) hlt j hj
    have e1 : ops.getD i default = o := by simp [ho]
    rw [e1] at this
    exact mem_depsOf.1 this
  have hone : ∀ i o, i < m → ops[i]? = some o → parOne P n rd ops e (Clo (ops.toList.map depsOf)) Inv i o := by
    intro i o hi ho
    have := parAll_get _ 0 hall i o (by rw [List.getElem?_take_of_lt hi]; simpa using ho)
    simpa using this
  -- the phase behind the last operation that is taken in whatever order
  let Ph2 : (Nat → Bool) → Act → World → Prop := fun S a W => ∃ k, m ≤ k ∧ k ≤ ops.size ∧ (∀ j, j < ops.size → S j = decide (j < k)) ∧ a.tmps.size = n ∧ ∃ kn, KnOk kn (envOf a) ∧
    vcOps P n rd false ops Q (ops.toList.drop k) kn (envOf a) a.defers W
  let Ph1 : (Nat → Bool) → Act → World → Prop := fun S a W => (∀ j, m ≤ j → j < ops.size → S j = false) ∧ a.defers = d ∧ a.tmps.size = n ∧ (∀ (j : Nat) (o : Oper), ops[j]? = some o → S j = true → ∀ i, i ∈ depsOf o → S i = true) ∧ (∀ j, ops.size ≤ j → S j = false) ∧
    ∃ u, Agree n ops e S u (envOf a) ∧ Inv S u W
  have hputd : ∀ (a : Act) (dst : Option Tmp) (v : Value), (a.put dst v).defers = a.defers := fun a dst v => by cases dst <;> rfl
  have hev : ∀ (a : Act), a.eval = ev (envOf a) := eval_envOf
  -- from phase 1, all done, to phase 2
  have h12 : ∀ S a W, Ph1 S a W → (∀ i, i < m → S i = true) → Ph2 S a W := by
    rintro S a W ⟨hS, hd, hsz, _, _, u, ha, hI⟩ hdone
    refine ⟨m, Nat.le_refl _, hmle, fun j hj => ?_, hsz, [], fun t b h => by simp at h, ?_⟩
    · by_cases hjm : j < m
      · simp [hdone j hjm, hjm]
      · simp [hS j (by omega) hj, hjm]
    · have h1 := hfin S u W hI hdone
      have h2 := setDeps_agree (n := n) hp e u (List.range m) (fun j hj => by have := List.mem_range.1 hj; omega)
      have : (envOf a) = setDeps n e ops u (List.range m) := by
        funext s
        by_cases hw : ∃ (j : Nat) (oj : Oper), ops[j]? = some oj ∧ oj.dst = some s
        · obtain ⟨j, oj, hj, hjt⟩ := hw
          have hlt := (Array.getElem?_eq_some_iff.1 hj).1
          by_cases hjm : j < m
          · rw [ha.yes j oj s hj hjt (hdone j hjm), h2.yes j oj s hj hjt (by simpa using hjm)]
          · rw [ha.no j oj s hj hjt (hS j (by omega) hlt), h2.no j oj s hj hjt (by simpa using hjm)]
        · have hn : ∀ (j : Nat) (oj : Oper), ops[j]? = some oj → oj.dst ≠ some s := fun j oj hj hjt => hw ⟨j, oj, hj, hjt⟩
          rw [ha.out s hn, h2.out s hn]
      rw [this, hd]; exact h1
  refine wpM_order hm (fun S a W => Ph1 S a W ∨ Ph2 S a W) hp.acyc ?_ ?_ (.inl ⟨fun _ _ _ => rfl, rfl, act_size n e d, fun _ _ _ h => by simp at h, fun _ _ => rfl, fun _ => undef, by rw [envOf_act hok]; exact Agree.start n ops e _, hI0 _⟩)
  · intro S a W i o hinv ho hSi hdep
    have hlt := (Array.getElem?_eq_some_iff.1 ho).1
    have step2 : Ph2 S a W → (if Region.wanted o (yielded ops a.tmps) then opM P rd o a W (fun a' w' => Ph1 (inc S i) a' w' ∨ Ph2 (inc S i) a' w') (toQ n Q)
       else (Ph1 (inc S i) (a.put o.dst undef) W ∨ Ph2 (inc S i) (a.put o.dst undef) W)) := by
      rintro ⟨k, hmk, hks, hS, hsz, kn, hkn, hvc⟩
      have hik : i = k := by
        have h1 : ¬ i < k := by
          have := hS i hlt; rw [hSi] at this; simpa using this.symm
        have h2 : ¬ k < i := fun hki => by
          obtain ⟨ed, he, hb, hon⟩ := htail i o ho (by omega) k hki
          have := hdep ed he hb
          rw [hon, hS k (by omega)] at this
          simp at this
        omega
      subst hik
      have hdrop : ops.toList.drop i = o :: ops.toList.drop (i + 1) := by
        have h' : ops.toList[i]? = some o := by simpa using ho
        obtain ⟨h1, h2⟩ := List.getElem?_eq_some_iff.1 h'
        rw [List.drop_eq_getElem_cons h1, h2]
      rw [hdrop] at hvc
      have hinc : ∀ j, j < ops.size → inc S i j = decide (j < i + 1) := fun j hj => by
        have := congrFun (inc_lt i) j
        rw [← this]
        simp only [inc, hS j hj]
      obtain ⟨kn', hk', (⟨hw, h⟩ | ⟨hw, h⟩)⟩ := guard_cases (envOf_ok hsz) hkn hvc
      · rw [if_pos (hw a rfl)]
        have hvs := vcOp_sound (next := fun a' w' => Ph1 (inc S i) a' w' ∨ Ph2 (inc S i) a' w') (envOf_ok hsz) hk' (fun kn'' e' d' w' ho hk h => .inr ⟨i + 1, by omega, by omega, hinc, act_size _ _ _, kn'', by rw [envOf_act ho]; exact hk, by rw [envOf_act ho]; exact h⟩) h
        rwa [act_self hsz] at hvs
      · rw [if_neg (by rw [hw a rfl]; simp)]
        refine .inr ⟨i + 1, by omega, by omega, hinc, by rw [put_size]; exact hsz, knSkip n kn' o.dst, ?_, ?_⟩
        · rw [envOf_put hsz]; exact hk'.skip n _
        · rw [envOf_put hsz, hputd]; exact h
    rcases hinv with h1 | h2
    · by_cases him : i < m
      · -- an operation of the first phase
        obtain ⟨hS, hd, hsz, hcl, hbig, u, ha, hI⟩ := h1
        have hDj : ∀ (j : Nat) (oj : Oper), ops[j]? = some oj → (ops.toList.map depsOf).getD j [] = depsOf oj := fun j oj hj => by simp [hj]
        have hClo : Clo (ops.toList.map depsOf) S := by
          intro j hSj x hx
          have hjlt : j < ops.size := by
            rcases Nat.lt_or_ge j ops.size with h1 | h1
            · exact h1
            · rw [hbig j h1] at hSj; cases hSj
          rw [hDj j _ (Array.getElem?_eq_getElem hjlt)] at hx
          exact hcl j _ (Array.getElem?_eq_getElem hjlt) hSj x hx
        have hob := hone i o him ho S u W hI hClo hSi (fun j hj => by
          obtain ⟨ed, he, hb, hon⟩ := mem_depsOf.1 hj
          subst hon
          exact hdep ed he hb)
        have hy := setDeps_agree (n := n) hp e u (depsOf o) (fun j hj => by
          obtain ⟨ed, he, hb, hon⟩ := mem_depsOf.1 hj
          have := hp.acyc i o ho ed he hb; omega)
        have hlooks : ∀ t, t ∈ o.looksAt ops → envOf a t = setDeps n e ops u (depsOf o) t := fun t ht =>
          ha.looks hp hy ho (fun ed he hb => ⟨hdep ed he hb, by simpa using mem_depsOf.2 ⟨ed, he, hb, rfl⟩, rfl⟩) (fun j oj hj ⟨ed, he, hb, hon⟩ => ⟨Bool.eq_false_iff.2 fun hSj => (by have h1 := hcl j oj hj hSj i (mem_depsOf.2 ⟨ed, he, hb, hon⟩); rw [hSi] at h1; cases h1), Bool.eq_false_iff.2 fun hmm => (by
            have hm' : j ∈ depsOf o := by simpa using hmm
            obtain ⟨ed2, he2, hb2, hon2⟩ := mem_depsOf.1 hm'
            have h1 := hp.acyc i o ho ed2 he2 hb2
            have h2 := hp.acyc j oj hj ed he hb
            omega)⟩) ht
        have hsem : o.semAt rd a.eval = o.semAt rd (ev (setDeps n e ops u (depsOf o))) := by rw [hev]; exact semAt_congr (hp.nosel i o ho) hlooks
        have hwant : Region.wanted o (yielded ops a.tmps) = Region.wanted o (yieldE ops (setDeps n e ops u (depsOf o))) := by
          rw [yielded_envOf]; exact yielded_congr hlooks
        have hnext : ∀ v W', Inv (inc S i) (setV u i v) W' → Ph1 (inc S i) (a.put o.dst v) W' := by
          intro v W' hI'
          have hu' : ∀ j, j ≠ i → setV u i v j = u j := fun j hj => by simp [setV, hj]
          refine ⟨fun j hj hjs => ?_, by rw [hputd]; exact hd, by rw [put_size]; exact hsz, ?_, fun j hj => ?_, setV u i v, by rw [envOf_put hsz]; exact ha.step hp ho (by simp [setV]) hu', hI'⟩
          · simp only [inc, show (j == i) = false by simp; omega, Bool.false_or]; exact hS j hj hjs
          · intro j oj hj hSj x hx
            simp only [inc, Bool.or_eq_true] at hSj ⊢
            rcases hSj with hji | hSj
            · have hji : j = i := by simpa using hji
              subst hji
              rw [ho] at hj; cases hj
              obtain ⟨ed, he, hb, rfl⟩ := mem_depsOf.1 hx
              exact .inr (hdep ed he hb)
            · exact .inr (hcl j oj hj hSj x hx)
          · simp only [inc, show (j == i) = false by simp; omega, Bool.false_or]; exact hbig j hj
        have hrun : vcOpV P rd false (fun _ _ => False) o [] (setDeps n e ops u (depsOf o)) W (fun _ v W' => Inv (inc S i) (setV u i v) W') (fun _ _ => False) →
            opM P rd o a W (fun a' w' => Ph1 (inc S i) a' w' ∨ Ph2 (inc S i) a' w') (toQ n Q) := fun h =>
          vcOpV_sound (fun t b h => by simp at h) hsem (fun b v w' _ h => .inl (hnext v w' h)) (fun _ _ h => h.elim) (fun _ _ h => h.elim) h
        unfold parOne at hone
        cases hg : o.guard with
        | none =>
          simp only [hg] at hob
          rw [if_pos (wanted_none _ hg)]
          exact hrun hob
        | some gw =>
          obtain ⟨g, want⟩ := gw
          simp only [hg] at hob
          cases ht : dstAt ops g with
          | none => simp only [ht] at hob
          | some t =>
            simp only [ht] at hob
            rcases kGuard_cases hob with ⟨hv, hob⟩ | ⟨hv, hob⟩
            · rw [if_pos (by rw [hwant]; exact (wanted_of_dst hg ht).2 hv)]
              exact hrun hob
            · rw [if_neg (by rw [hwant]; exact fun h => hv ((wanted_of_dst hg ht).1 h))]
              exact .inl (hnext undef W hob)
      · refine step2 (h12 S a W h1 fun j hj => ?_)
        obtain ⟨ed, he, hb, hon⟩ := htail i o ho (by omega) j (by omega)
        subst hon
        exact hdep ed he hb
    · exact step2 h2
  · intro S a W hinv hS
    have h2 : Ph2 S a W := by
      rcases hinv with h1 | h2
      · exact h12 S a W h1 fun i hi => hS i (by omega)
      · exact h2
    obtain ⟨k, _, hks, hSk, hsz, kn, _, hvc⟩ := h2
    have hk : k = ops.size := by
      by_cases hk : k < ops.size
      · have := hSk k hk; rw [hS k hk] at this; simp at this
      · omega
    subst hk
    simp only [← Array.length_toList, List.drop_length] at hvc
    exact ⟨hsz, hvc⟩
end Go.L
namespace Go.L
open Go Go.RowKit

def rangePostM (P : Program) (rd : Option Nat) (l : Nat) (Q : Exit → Act → World → Prop) (a' : Act) : Ending → World → Prop
  | .returned _, w₃ => ∃ jump w₄, (Instr.endLoop l).run P w₃ = .ok jump w₄ ∧
      (match jump with
       | none => Q .normal a' w₄
       | some c => wpM P rd c Q a' w₄)
  | .panicked chain, w₃ => Q (.panic chain) a' w₃
  | .outgrown, _ => False

theorem wpM_rangeFunc {P : Program} {rd : Option Nat} {g : Operand} {ps : Array Tmp} {asn body : Code} {Q : Exit → Act → World → Prop} {a : Act} {w : World}
    (h : ∀ fn, ∃ (l : Nat) (mark : List Deferred) (w₁ : World) (d : Deferred) (w₁' : World) (f : FuncId) (args : Array Value) (w₂ : World),
      (Instr.enterLoop fn a.tmps ps asn body rd).run P w = .ok (l, mark) w₁ ∧ (resolve a.eval (rangeCall g l) 0).run P w₁ = .ok d w₁' ∧
      (invoke d.target d.args).run P w₁' = .ok (.enter f args) w₂ ∧ Calls P f args w₂ (rangePostM P rd l Q { a with defers := mark ++ a.defers })) :
    wpM P rd (.rangeFunc g ps asn body) Q a w := by
  intro b k cs hro
  obtain ⟨l, mark, w₁, d, w₁', f, args, w₂, he, hres, hinv, hcall⟩ := h b.fn
  rw [← hro] at he
  have henter := stepR_rangeFunc (P := P) (b := b) (a := a) (k := k) (cs := cs) (w := w) he hres hinv
  obtain ⟨e, w₃, fr, hR, hsteps, _, hleave⟩ := hcall (b.atR { a with defers := mark ++ a.defers } (.inRangeFunc l :: k) :: cs)
  cases e with
  | outgrown => exact hR.elim
  | returned v =>
    obtain ⟨jump, w₄, hend, hj⟩ := hR
    have sback : Steps P (lone (b.atR a (.code (.rangeFunc g ps asn body) :: k)) cs w) (lone (b.atR { a with defers := mark ++ a.defers } ((jump.map Item.code).toList ++ k)) cs w₄) := by
      refine .head henter (Steps.trans hsteps (.head ?_ (.one (stepR_endRangeFunc hend))))
      rw [← finish_atR_inRangeFunc l v]; exact step_leave_returned hleave
    cases jump with
    | none => exact ⟨.normal, _, w₄, hj, sback⟩
    | some c =>
      obtain ⟨e', a'', w₅, hq, harr⟩ := hj b k cs hro
      exact ⟨e', a'', w₅, hq, .of_steps sback harr⟩
  | panicked chain =>
    refine ⟨.panic chain, _, w₃, hR, .inRangeFunc l :: k, (by intro d r n s rest h; cases h), .head henter (Steps.trans hsteps (.one ?_))⟩
    rw [← Frame.raise_atR]; exact step_leave_panicked hleave

def roundPostM (P : Program) (l : Nat) (R : Ending → World → Prop) : Exit → Act → World → Prop
  | .normal, _, w => ∃ v w', (Instr.endRound l none).run P w = .ok v w' ∧ R (.returned v) w'
  | .ret, _, w => ∃ v w', (Instr.endRound l (some .ret)).run P w = .ok v w' ∧ R (.returned v) w'
  | .exit id, _, w => ∃ v w', (Instr.endRound l (some (.exit id))).run P w = .ok v w' ∧ R (.returned v) w'
  | .panic chain, a, w => a.defers = [] ∧ R (.panicked chain) w
  | .goto _, _, _ => False
  | .outgrown, _, _ => True

theorem step_round_panic {P : Program} {b c : Frame} {cs : List Frame} {a : Act} {w : World} {chain : List PanicEntry} {todo : List Item} (hd : a.defers = []) (hc : calm todo) :
    step P (lone { b.atR a todo with mode := .panicking chain } (c :: cs) w) = .next (lone (c.raise chain) cs w) := by
  have hcat : ({ b.atR a todo with mode := FrameMode.panicking chain } : Frame).catches P = false := by
    unfold Frame.catches
    split
    · rename_i d r n s rest _ hto
      exact absurd hto (hc _ _ _ _ _)
    · rfl
  exact step_lone_go (by
    simp only [stepG, unwind, hcat]
    simp [Frame.atR, hd])

theorem roundC_of_wpM {P : Program} {l : Nat} {f : FuncId} {tmps : Array Value} {asn body : Code} {w : World} {R : Ending → World → Prop}
    (h : wpM P (some l) asn (Exit.then (fun a₁ w₁ => ∃ w₂, (Instr.beginRound l).run P w₁ = .ok () w₂ ∧ wpM P (some l) body (roundPostM P l R) a₁ w₂) (fun _ _ _ => False)) { tmps := tmps, defers := [] } w) :
    RoundC P l f tmps asn body w R := by
  intro c cs
  let b : Frame := { (default : Frame) with fn := f, kind := .normal, roundOf := some l }
  have hb0 : Frame.round l f tmps asn body .normal = b.atR { tmps := tmps, defers := [] } [.code asn, .beginRound, .code body] := by
    simp [Frame.round, Frame.atR, b]
  obtain ⟨e, a₁, w₁, hq, harr⟩ := h b [.beginRound, .code body] (c :: cs) rfl
  rw [← hb0] at harr
  cases e with
  | normal =>
    obtain ⟨w₂, hbr, hbody⟩ := hq
    have s1 : Steps P (lone (b.atR a₁ [.beginRound, .code body]) (c :: cs) w₁) (lone (b.atR a₁ [.code body]) (c :: cs) w₂) := .one (stepR_beginRound rfl hbr)
    obtain ⟨e₂, a₂, w₃, hq₂, harr₂⟩ := hbody b [] (c :: cs) rfl
    cases e₂ with
    | normal =>
      obtain ⟨v, w₄, hend, hR⟩ := hq₂
      exact ⟨.returned v, w₄, hR, (Steps.trans harr s1).trans (Steps.trans harr₂ (.one (stepR_round_end rfl rfl hend)))⟩
    | ret =>
      obtain ⟨v, w₄, hend, hR⟩ := hq₂
      obtain ⟨k₁, hs⟩ := harr₂.2 rfl
      exact ⟨.returned v, w₄, hR, (Steps.trans harr s1).trans (Steps.trans hs (.one (stepR_round_ret rfl rfl hend)))⟩
    | exit id =>
      obtain ⟨v, w₄, hend, hR⟩ := hq₂
      obtain ⟨k₁, hk, hs⟩ := harr₂.2 rfl rfl
      exact ⟨.returned v, w₄, hR, (Steps.trans harr s1).trans (Steps.trans hs (.one (stepR_round_exit rfl rfl hk hend)))⟩
    | goto t => exact hq₂.elim
    | panic chain =>
      obtain ⟨hd, hR⟩ := hq₂
      obtain ⟨todo, hc, hs⟩ := harr₂
      exact ⟨.panicked chain, w₃, hR, (Steps.trans harr s1).trans (Steps.trans hs (.one (step_round_panic hd hc)))⟩
    | outgrown => exact harr₂.elim
  | exit id => exact hq.elim
  | goto t => exact hq.elim
  | ret => exact hq.elim
  | panic chain => exact hq.elim
  | outgrown => exact hq.elim

theorem act_setMany {n : Nat} (vals : List Value) (d : List Deferred) : ∀ (ss : List Nat) (i : Nat) (e : Env), vals.length = i + ss.length →
    act n (setMany n e vals ss i) d = ⟨(ss.zip (vals.drop i)).foldl (fun t p => t.setIfInBounds p.1 p.2) (act n e d).tmps, d⟩
  | [], i, e, h => by simp [setMany]; rfl
  | s :: ss, i, e, h => by
    have hi : i < vals.length := by rw [h]; simp
    rw [List.drop_eq_getElem_cons hi]
    simp only [setMany, List.zip_cons_cons, List.foldl_cons]
    rw [act_setMany vals d ss (i + 1) _ (by rw [h, List.length_cons]; omega)]
    have h1 := congrArg Act.tmps (act_upd n e d s vals[i])
    simp only at h1
    rw [h1]
    simp [hi]

theorem EnvOk.setMany {n : Nat} (vals : List Value) : ∀ (ss : List Nat) (i : Nat) (e : Env), EnvOk n e → EnvOk n (setMany n e vals ss i)
  | [], _, _, h => h
  | _ :: ss, i, _, h => EnvOk.setMany vals ss (i + 1) _ (h.upd _ _)

theorem setMany_act {n : Nat} {e : Env} {ps : Array Tmp} {xs : List Value} (h : xs.length = ps.size) :
    act n (setMany n e xs ps.toList 0) [] = { tmps := (ps.zip xs.toArray).foldl (fun t (p, a) => t.setIfInBounds p a) (act n e []).tmps, defers := [] } := by
  rw [act_setMany xs [] ps.toList 0 e (by simp [h]), List.drop_zero, ← Array.foldl_toList]
  simp

theorem grown_of_below {W W' : World} (h : Below W.heap.size W W') : W.grownBy W' none := ⟨h.os, h.tape, h.output, h.size, fun k hk _ => h.block k hk⟩

theorem kX_elim {exs : List Nat} {id : Nat} {A : Prop} (h : kX exs id A) : A := by
  replace h := h.of
  unfold kXD at h
  split at h
  · exact h
  · exact h.elim
theorem kX_mono {exs : List Nat} {id : Nat} {A B : Prop} (hAB : A → B) (h : kX exs id A) : kX exs id B := by
  refine ⟨?_⟩
  replace h := h.of
  unfold kXD at h ⊢
  split at h
  · exact hAB h
  · exact h.elim

theorem kRangeO_sound {P : Program} {n : Nat} {A : Ann} {g : Operand} {ps : Array Tmp} {asn body : Code} {Q : QE} {e : Env} {d : List Deferred} {w : World} (hok : EnvOk n e)
    (ihA : ∀ l Q e d w, EnvOk n e → vcC P n (some l) A asn Q e d w → wpM P (some l) asn (toQ n Q) (act n e d) w) (ihB : ∀ l Q e d w, EnvOk n e → vcC P n (some l) A body Q e d w → wpM P (some l) body (toQ n Q) (act n e d) w) {rd : Option Nat}
    (h : kRangeO P rd w (ev e g) ps.size (fun l D args w' R => rnd (vcC P n (some l) A asn) (vcC P n (some l) A body) l D (setMany n e args ps.toList 0) w' R) (fun D w' => Q .normal e (markOf D :: d) w') (match hasRet body with | true => fun D w' => Q .ret e (markOf D :: d) w' | false => fun _ _ => False) (match (exitsOf body).isEmpty with | true => fun _ _ _ => False | false => fun D id w' => kX (exitsOf body) id (Q (.exit id) e (markOf D :: d) w')) (fun D ch w' => Q (.panic ch) e (markOf D :: d) w')) :
    wpM P rd (.rangeFunc g ps asn body) (toQ n Q) (act n e d) w := by
  obtain ⟨rfl, m, xs, J, Z, hJ, hZ, hlen, hJ0, hround, ⟨gf, lb, hg, hcf, hiter⟩, hdone, hret, hexit, hpan⟩ := h.of
  refine wpM_rangeFunc fun fn => ?_
  obtain ⟨rec, hrec⟩ : ∃ rec : LoopState → Option Code → Loop, rec = fun st pe => { state := st, pending := pe, fn, tmps := (act n e d).tmps, params := ps, assign := asn, body, defers := w.heap.size } := ⟨_, rfl⟩
  obtain ⟨W1, hW1⟩ : ∃ W1, (w.alloc (.deferred (some []))).alloc (.loop (rec .ready none)) = W1 := ⟨_, rfl⟩
  have hL1 : W1.heap[w.heap.size + 1]? = some (.loop (rec .ready none)) := by
    rw [← hW1]; have := World.alloc_heap_new (w.alloc (.deferred (some []))) (.loop (rec .ready none)); rwa [World.size_alloc] at this
  have hK1 : W1.heap[w.heap.size]? = some (.deferred (some [])) := by
    rw [← hW1]; exact (Below.heap_alloc _ _ _ (by simp)).trans (World.alloc_heap_new w _)
  have hJ1 : J 0 W1 := by rw [← hW1]; exact (hJ 0).alloc (s := ()) _ ((hJ 0).alloc (s := ()) _ hJ0)
  have hb1 : Below w.heap.size w W1 := by
    rw [← hW1]; exact ((Below.refl _ w).alloc (Nat.le_refl _) _).alloc (by simp) _
  have hput : ∀ (W : World) (o o' : Obj), W.heap[w.heap.size + 1]? = some o → (W.putObj (w.heap.size + 1) o').heap[w.heap.size + 1]? = some o' ∧ (W.putObj (w.heap.size + 1) o').heap[w.heap.size]? = W.heap[w.heap.size]? := fun W o o' h =>
    ⟨World.putObj_heap_same (Array.getElem?_eq_some_iff.1 h).1, World.putObj_heap_other (by omega)⟩
  refine ⟨w.heap.size + 1, [markOf w.heap.size], W1, { target := .fn (.func gf) lb, args := #[.func (.yield (w.heap.size + 1)) #[] #[]] }, W1, gf, #[.func (.yield (w.heap.size + 1)) #[] #[]] ++ lb, W1, ?_, ?_, ?_, ?_⟩
  · rw [← hW1, hrec]; exact run_enterLoop_outer _ _ _ _ _
  · rw [act_eval hok]; simp only [resolve, hg]; simp [go_sem, ev]
  · simp [invoke, go_sem, hcf]
  · refine (hiter (w.heap.size + 1)
      (fun i W => J i W ∧ W.heap[w.heap.size + 1]? = some (.loop (rec .ready none)) ∧ W.heap[w.heap.size]? = some (.deferred (some [])))
      (fun ex W => Z ex W ∧ W.heap[w.heap.size]? = some (.deferred (some [])) ∧ (match ex with
        | .ret => W.heap[w.heap.size + 1]? = some (.loop (rec .done (some .ret)))
        | .exit id => W.heap[w.heap.size + 1]? = some (.loop (rec .done (some (.exit id))))
        | .panic _ => True
        | _ => False)) W1 hb1 ?_ ?_ (fun i W h => h.1) ?_ ⟨hJ1, hL1, hK1⟩).mono ?_
    · rintro i W W' ⟨h1, h2, h3⟩ hb
      have hs := (Array.getElem?_eq_some_iff.1 h2).1
      exact ⟨hJ i () W W' none h1 (grown_of_below hb) (by simp), by rw [hb.block _ hs]; exact h2, by rw [hb.block _ (by omega)]; exact h3⟩
    · rintro ex W W' ⟨h1, h2, h3⟩ hb
      have hs := (Array.getElem?_eq_some_iff.1 h2).1
      refine ⟨hZ ex () W W' none h1 (grown_of_below hb) (by simp), by rw [hb.block _ hs]; exact h2, ?_⟩
      cases ex <;> first
        | trivial
        | exact h3.elim
        | (have hs2 := (Array.getElem?_eq_some_iff.1 h3).1; simp only; rw [hb.block _ hs2]; exact h3)
    · rintro i W hi ⟨hj, hl, hD⟩
      have hy := run_yield (P := P) (args := (xs i).toArray) hl (by rw [hrec]; simp [hlen i])
      rw [hrec] at hy
      refine ⟨fn, _, asn, body, hy, roundC_of_wpM ?_⟩
      have hr := hround i (w.heap.size + 1) w.heap.size _ W hi (Nat.le_refl _) (by omega) (by omega) hl hD hj
      have hr2 := ihA _ _ _ _ _ (hok.setMany _ _ _ _) hr
      rw [setMany_act (hlen i)] at hr2
      refine wpM_mono hr2 ?_
      intro ex a1 w1 hq
      obtain ⟨hsz, hq⟩ := hq
      cases ex <;> try exact hq.elim
      obtain ⟨⟨h1, h2, hbody⟩⟩ := hq
      rw [hl] at h1
      rw [hD] at h2
      refine ⟨_, run_beginRound h1 (by rw [hrec]), ?_⟩
      have hb := ihB _ _ _ _ _ (envOf_ok hsz) (hbody { rec .ready none with state := .busy })
      rw [act_self hsz] at hb
      refine wpM_mono hb ?_
      have fin : ∀ (jump : Option Code) (W3 : World), W3.heap[w.heap.size + 1]? = some (.loop { rec .ready none with state := .busy }) → W3.heap[w.heap.size]? = some (.deferred (some [])) →
          (Instr.endRound (w.heap.size + 1) jump).run P W3 = .ok (.bool jump.isNone) (W3.putObj (w.heap.size + 1) (.loop (rec (if jump.isNone then .ready else .done) jump))) ∧
          (W3.putObj (w.heap.size + 1) (.loop (rec (if jump.isNone then .ready else .done) jump))).heap[w.heap.size + 1]? = some (.loop (rec (if jump.isNone then .ready else .done) jump)) ∧
          (W3.putObj (w.heap.size + 1) (.loop (rec (if jump.isNone then .ready else .done) jump))).heap[w.heap.size]? = some (.deferred (some [])) := fun jump W3 hl3 hD3 => by
        have := run_endRound (P := P) jump hl3
        rw [hrec] at this ⊢
        exact ⟨this, (hput W3 _ _ hl3).1, ((hput W3 _ _ hl3).2).trans hD3⟩
      intro ex a2 W3 hq
      obtain ⟨_, hq⟩ := hq
      cases ex with
      | normal =>
        obtain ⟨hd2, hl3, hD3, hR⟩ := hq.of
        rw [hD] at hD3
        obtain ⟨hr, hl4, hk4⟩ := fin none W3 hl3 hD3
        exact ⟨_, _, hr, .inl ⟨rfl, (hJ (i + 1)).putObj (s := ()) _ hR (by omega) hl3 rfl, hl4, hk4⟩⟩
      | ret =>
        obtain ⟨hd2, hl3, hD3, hR⟩ := hq.of
        rw [hD] at hD3
        obtain ⟨hr, hl4, hk4⟩ := fin (some .ret) W3 hl3 hD3
        exact ⟨_, _, hr, .inr ⟨rfl, .ret, by simp, (hZ _).putObj (s := ()) _ hR (by omega) hl3 rfl, hk4, hl4⟩⟩
      | exit id =>
        obtain ⟨hd2, hl3, hD3, hR⟩ := hq.of
        rw [hD] at hD3
        obtain ⟨hr, hl4, hk4⟩ := fin (some (.exit id)) W3 hl3 hD3
        exact ⟨_, _, hr, .inr ⟨rfl, .exit id, by simp, (hZ _).putObj (s := ()) _ hR (by omega) hl3 rfl, hk4, hl4⟩⟩
      | panic ch =>
        obtain ⟨hd2, hl3, hD3, hR⟩ := hq.of
        rw [hD] at hD3
        exact ⟨hd2, hR, hD3, trivial⟩
      | goto t => exact hq
      | outgrown => trivial
    · have fin : ∀ (W2 : World) (st : LoopState) (pe : Option Code), st ≠ .busy → W2.heap[w.heap.size + 1]? = some (.loop (rec st pe)) → W2.heap[w.heap.size]? = some (.deferred (some [])) →
          (Instr.endLoop (w.heap.size + 1)).run P W2 = .ok pe (W2.putObj (w.heap.size + 1) (.loop (rec .exhausted pe))) ∧ (W2.putObj (w.heap.size + 1) (.loop (rec .exhausted pe))).heap[w.heap.size]? = some (.deferred (some [])) := fun W2 st pe hst hl hD => by
        have := run_endLoop (P := P) hl (by rw [hrec]; exact hst)
        rw [hrec] at this ⊢
        exact ⟨this, ((hput W2 _ _ hl).2).trans hD⟩
      have ea : ({ act n e d with defers := [markOf w.heap.size] ++ (act n e d).defers } : Act) = act n e ([markOf w.heap.size] ++ d) := rfl
      intro en W2 hen
      cases en with
      | outgrown => exact hen.elim
      | returned v =>
        rcases hen with ⟨hj, hl, hD⟩ | ⟨ex, hne, hz, hD, hl⟩
        · obtain ⟨hr, hD4⟩ := fin W2 _ _ (by simp) hl hD
          refine ⟨none, _, hr, ?_⟩
          rw [ea, toQ_act hok]
          exact hdone _ _ (Nat.le_refl _) hD4 ((hJ m).putObj (s := ()) _ hj (by omega) hl rfl)
        · cases ex with
          | ret =>
            obtain ⟨hr, hD4⟩ := fin W2 _ _ (by simp) hl hD
            refine ⟨some .ret, _, hr, wpM_ret ?_⟩
            rw [ea, toQ_act hok]
            have hr3 := hret _ _ (Nat.le_refl _) hD4 ((hZ _).putObj (s := ()) _ hz (by omega) hl rfl)
            cases hb : hasRet body with
            | true => rw [hb] at hr3; exact hr3
            | false => rw [hb] at hr3; exact hr3.elim
          | exit id =>
            obtain ⟨hr, hD4⟩ := fin W2 _ _ (by simp) hl hD
            refine ⟨some (.exit id), _, hr, wpM_exit ?_⟩
            rw [ea, toQ_act hok]
            have hr3 := hexit id _ _ (Nat.le_refl _) hD4 ((hZ _).putObj (s := ()) _ hz (by omega) hl rfl)
            cases hb : (exitsOf body).isEmpty with
            | true => rw [hb] at hr3; exact hr3.elim
            | false => rw [hb] at hr3; exact kX_elim hr3
          | panic ch => exact absurd rfl (hne ch)
          | normal => exact hl.elim
          | goto t => exact hl.elim
          | outgrown => exact hl.elim
      | panicked ch =>
        obtain ⟨hz, hD, _⟩ := hen
        show toQ n Q (.panic ch) _ W2
        rw [ea, toQ_act hok]
        exact hpan ch _ _ (Nat.le_refl _) hD hz
theorem kRangeN_sound {P : Program} {n : Nat} {A : Ann} {g : Operand} {ps : Array Tmp} {asn body : Code} {Q : QE} {e : Env} {d : List Deferred} {w : World} (hok : EnvOk n e)
    (ihA : ∀ l Q e d w, EnvOk n e → vcC P n (some l) A asn Q e d w → wpM P (some l) asn (toQ n Q) (act n e d) w) (ihB : ∀ l Q e d w, EnvOk n e → vcC P n (some l) A body Q e d w → wpM P (some l) body (toQ n Q) (act n e d) w) {rd : Option Nat}
    (h : kRangeN P rd w (ev e g) ps.size (fun l D args w' R => rnd (vcC P n (some l) A asn) (vcC P n (some l) A body) l D (setMany n e args ps.toList 0) w' R) (fun D w' => Q .normal e (markOf D :: d) w') (match hasRet body with | true => fun D w' => Q .ret e (markOf D :: d) w' | false => fun _ _ => False) (match (exitsOf body).isEmpty with | true => fun _ _ _ => False | false => fun D id w' => kX (exitsOf body) id (Q (.exit id) e (markOf D :: d) w')) (fun D ch w' => Q (.panic ch) e (markOf D :: d) w')) :
    wpM P rd (.rangeFunc g ps asn body) (toQ n Q) (act n e d) w := by
  obtain ⟨rfl, m, xs, ι, J, Z, e0, hlen, hstart, hJf, hZf, hJp, hZp, hround, ⟨gf, lb, hg, hcf, hiter⟩, hdone, hret, hexit, hpan⟩ := h.of
  refine wpM_rangeFunc fun fn => ?_
  obtain ⟨rec, hrec⟩ : ∃ rec : LoopState → Option Code → Loop, rec = fun st pe => { state := st, pending := pe, fn, tmps := (act n e d).tmps, params := ps, assign := asn, body, defers := w.heap.size } := ⟨_, rfl⟩
  obtain ⟨W1, hW1⟩ : ∃ W1, (w.alloc (.deferred (some []))).alloc (.loop (rec .ready none)) = W1 := ⟨_, rfl⟩
  have hJ1 : J (w.heap.size + 1) w.heap.size (rec .ready none) e0 0 W1 := by rw [← hW1]; exact hstart _
  let jc : Exit → Option Code := fun ex => match ex with | .ret => some .ret | .exit id => some (.exit id) | _ => none
  refine ⟨w.heap.size + 1, [markOf w.heap.size], W1, { target := .fn (.func gf) lb, args := #[.func (.yield (w.heap.size + 1)) #[] #[]] }, W1, gf, #[.func (.yield (w.heap.size + 1)) #[] #[]] ++ lb, W1, ?_, ?_, ?_, ?_⟩
  · rw [← hW1, hrec]; exact run_enterLoop_outer _ _ _ _ _
  · rw [act_eval hok]; simp only [resolve, hg]; simp [go_sem, ev]
  · simp [invoke, go_sem, hcf]
  · refine (hiter (w.heap.size + 1) w.heap.size (rec .ready none) (fun ex => rec .done (jc ex)) W1 hJ1 ?_).mono ?_
    · rintro i e' W hi hj
      obtain ⟨hl, hD⟩ := hJf _ _ _ _ _ _ hj
      have hy := run_yield (P := P) (args := (xs i).toArray) hl (by rw [hrec]; simp [hlen i])
      rw [hrec] at hy
      refine ⟨fn, _, asn, body, hy, roundC_of_wpM ?_⟩
      have hr := hround i e' (w.heap.size + 1) w.heap.size _ W hi hj
      have hr2 := ihA _ _ _ _ _ (hok.setMany _ _ _ _) hr
      rw [setMany_act (hlen i)] at hr2
      refine wpM_mono hr2 ?_
      intro ex a1 w1 hq
      obtain ⟨hsz, hq⟩ := hq
      cases ex <;> try exact hq.elim
      obtain ⟨⟨h1, h2, hbody⟩⟩ := hq
      rw [hl] at h1
      rw [hD] at h2
      refine ⟨_, run_beginRound h1 (by rw [hrec]), ?_⟩
      have hb := ihB _ _ _ _ _ (envOf_ok hsz) (hbody { rec .ready none with state := .busy })
      rw [act_self hsz] at hb
      refine wpM_mono hb ?_
      have fin : ∀ (jump : Option Code) (W3 : World), W3.heap[w.heap.size + 1]? = some (.loop { rec .ready none with state := .busy }) →
          (Instr.endRound (w.heap.size + 1) jump).run P W3 = .ok (.bool jump.isNone) (W3.putObj (w.heap.size + 1) (.loop (rec (if jump.isNone then .ready else .done) jump))) := fun jump W3 hl3 => by
        have := run_endRound (P := P) jump hl3
        rw [hrec] at this ⊢
        exact this
      intro ex a2 W3 hq
      obtain ⟨_, hq⟩ := hq
      cases ex with
      | normal =>
        obtain ⟨hd2, hl3, hD3, lo', hR⟩ := hq.of
        exact ⟨_, _, fin none W3 hl3, .inl ⟨rfl, hJp _ _ _ _ _ _ _ hR⟩⟩
      | ret =>
        obtain ⟨hd2, hl3, hD3, lo', hR⟩ := hq.of
        exact ⟨_, _, fin (some .ret) W3 hl3, .inr ⟨rfl, .ret, trivial, hZp _ _ _ _ _ _ _ hR⟩⟩
      | exit id =>
        obtain ⟨hd2, hl3, hD3, lo', hR⟩ := hq.of
        exact ⟨_, _, fin (some (.exit id)) W3 hl3, .inr ⟨rfl, .exit id, trivial, hZp _ _ _ _ _ _ _ hR⟩⟩
      | panic ch =>
        obtain ⟨hd2, hl3, hD3, lo', hR⟩ := hq.of
        exact ⟨hd2, lo', hR⟩
      | goto t => exact hq
      | outgrown => trivial
    · have fin : ∀ (W2 : World) (st : LoopState) (pe : Option Code), st ≠ .busy → W2.heap[w.heap.size + 1]? = some (.loop (rec st pe)) →
          (Instr.endLoop (w.heap.size + 1)).run P W2 = .ok pe (W2.putObj (w.heap.size + 1) (.loop (rec .exhausted pe))) := fun W2 st pe hst hl => by
        have := run_endLoop (P := P) hl (by rw [hrec]; exact hst)
        rw [hrec] at this ⊢
        exact this
      have ea : ({ act n e d with defers := [markOf w.heap.size] ++ (act n e d).defers } : Act) = act n e ([markOf w.heap.size] ++ d) := rfl
      intro en W2 hen
      cases en with
      | outgrown => exact hen.elim
      | returned v =>
        rcases hen with ⟨e', hj⟩ | ⟨e', ex, hne, hz⟩
        · obtain ⟨hl, hD⟩ := hJf _ _ _ _ _ _ hj
          refine ⟨none, _, fin W2 _ _ (by simp) hl, ?_⟩
          rw [ea, toQ_act hok]
          exact hdone _ _ _ _ (hJp _ _ _ _ _ _ _ hj)
        · obtain ⟨hl, hD⟩ := hZf _ _ _ _ _ _ hz
          cases ex with
          | ret =>
            refine ⟨some .ret, _, fin W2 _ _ (by simp) hl, wpM_ret ?_⟩
            rw [ea, toQ_act hok]
            have hr3 := hret _ _ _ _ (hZp _ _ _ (rec .exhausted (some .ret)) _ _ _ hz)
            cases hb : hasRet body with
            | true => rw [hb] at hr3; exact hr3
            | false => rw [hb] at hr3; exact hr3.elim
          | exit id =>
            refine ⟨some (.exit id), _, fin W2 _ _ (by simp) hl, wpM_exit ?_⟩
            rw [ea, toQ_act hok]
            have hr3 := hexit id _ _ _ _ (hZp _ _ _ (rec .exhausted (some (.exit id))) _ _ _ hz)
            cases hb : (exitsOf body).isEmpty with
            | true => rw [hb] at hr3; exact hr3.elim
            | false => rw [hb] at hr3; exact kX_elim hr3
          | panic ch => exact hne.elim
          | normal => exact hne.elim
          | goto t => exact hne.elim
          | outgrown => exact hne.elim
      | panicked ch =>
        obtain ⟨e', lo', hz⟩ := hen
        show toQ n Q (.panic ch) _ W2
        rw [ea, toQ_act hok]
        exact hpan ch _ _ _ _ hz
theorem kRange_sound {P : Program} {n : Nat} {A : Ann} {g : Operand} {ps : Array Tmp} {asn body : Code} {Q : QE} {e : Env} {d : List Deferred} {w : World} (hok : EnvOk n e)
    (ihA : ∀ l Q e d w, EnvOk n e → vcC P n (some l) A asn Q e d w → wpM P (some l) asn (toQ n Q) (act n e d) w) (ihB : ∀ l Q e d w, EnvOk n e → vcC P n (some l) A body Q e d w → wpM P (some l) body (toQ n Q) (act n e d) w) {rd : Option Nat}
    (h : kRange P rd w (ev e g) ps.size (fun l D args w' R => rnd (vcC P n (some l) A asn) (vcC P n (some l) A body) l D (setMany n e args ps.toList 0) w' R) (fun D w' => Q .normal e (markOf D :: d) w') (match hasRet body with | true => fun D w' => Q .ret e (markOf D :: d) w' | false => fun _ _ => False) (match (exitsOf body).isEmpty with | true => fun _ _ _ => False | false => fun D id w' => kX (exitsOf body) id (Q (.exit id) e (markOf D :: d) w')) (fun D ch w' => Q (.panic ch) e (markOf D :: d) w')) :
    wpM P rd (.rangeFunc g ps asn body) (toQ n Q) (act n e d) w := by
  rcases h.of with h | h
  · exact kRangeO_sound hok ihA ihB h
  · exact kRangeN_sound hok ihA ihB h
end Go.L
namespace Go.L
open Go Go.RowKit

theorem setDeps_congr {n : Nat} {e : Env} {ops : Array Oper} {u u' : Nat → Value} : ∀ (js : List Nat), (∀ j ∈ js, u j = u' j) → setDeps n e ops u js = setDeps n e ops u' js
  | [], _ => rfl
  | j :: js, h => by
    simp only [setDeps]
    rw [setDeps_congr js (fun k hk => h k (List.mem_cons_of_mem _ hk)), h j (List.mem_cons_self ..)]

/-- The fact that a quiet operation yields what is noted for it. -/
def QS (P : Program) (n : Nat) (rd : Option Nat) (ops : Array Oper) (e : Env) (us : Nat → Value) (W : World) (f : Nat) : Prop :=
  ∃ o, ops[f]? = some o ∧ Yq P rd ops W o (setDeps n e ops us (depsOf o)) (us f)
/-- What is known of operations. -/
def KnIOk (kn : KnI) (us : Nat → Value) (pre : List Nat) : Prop := ∀ j b, kn.lookup j = some b → j ∈ pre ∧ us j = knVal b

theorem setDeps_at {n : Nat} {ops : Array Oper} (hp : ParOk ops) (e : Env) (vs : Nat → Value) {o : Oper} {i : Nat} (ho : ops[i]? = some o) {j t : Nat} (hj : j ∈ depsOf o) (ht : dstAt ops j = some t) (hn : t < n) : setDeps n e ops vs (depsOf o) t = vs j := by
  have hlt : ∀ j ∈ depsOf o, j < ops.size := fun j hj => by
    obtain ⟨ed, he, hb, hon⟩ := mem_depsOf.1 hj
    have := hp.acyc i o ho ed he hb
    have := (Array.getElem?_eq_some_iff.1 ho).1
    omega
  have hy := setDeps_agree (n := n) hp e vs (depsOf o) hlt
  have hjl := hlt j hj
  have ht' : (ops[j]'hjl).dst = some t := by simpa [dstAt, Array.getElem?_eq_getElem hjl] using ht
  rw [hy.yes j _ t (Array.getElem?_eq_getElem hjl) ht' (by simpa using hj), upd_same hn]
theorem knDeps_mem {n : Nat} {ops : Array Oper} {kn : KnI} : ∀ {js : List Nat} {t : Nat} {b : Option Bool}, (t, b) ∈ knDeps n ops kn js → ∃ j ∈ js, dstAt ops j = some t ∧ kn.lookup j = some b ∧ t < n
  | [], _, _, h => by simp [knDeps] at h
  | j :: js, t, b, h => by
    have more : (t, b) ∈ knDeps n ops kn js → ∃ j' ∈ j :: js, dstAt ops j' = some t ∧ kn.lookup j' = some b ∧ t < n := fun h => by
      obtain ⟨j', h1, h2⟩ := knDeps_mem h
      exact ⟨j', List.mem_cons_of_mem _ h1, h2⟩
    unfold knDeps at h
    split at h
    · rename_i t' b' ht hb
      cases hle : Nat.ble (t' + 1) n with
      | true =>
        rw [hle, cond_true] at h
        rcases List.mem_cons.1 h with h | h
        · cases h
          exact ⟨j, List.mem_cons_self .., ht, hb, Nat.le_of_ble_eq_true hle⟩
        · exact more h
      | false => rw [hle, cond_false] at h; exact more h
    · exact more h
theorem lookup_mem {α : Type} {l : List (Nat × α)} {t : Nat} {b : α} (h : l.lookup t = some b) : (t, b) ∈ l := by
  induction l with
  | nil => simp at h
  | cons x l ih =>
    obtain ⟨s, c⟩ := x
    simp only [List.lookup] at h
    split at h
    · rename_i he
      have : t = s := by simpa using he
      subst this; cases h; exact List.mem_cons_self ..
    · exact List.mem_cons_of_mem _ (ih h)
theorem knDeps_ok {n : Nat} {ops : Array Oper} (hp : ParOk ops) {e : Env} {kn : KnI} {us : Nat → Value} {pre : List Nat} (hk : KnIOk kn us pre) {o : Oper} {i : Nat} (ho : ops[i]? = some o) : KnOk (knDeps n ops kn (depsOf o)) (setDeps n e ops us (depsOf o)) := by
  intro t b h
  obtain ⟨j, hj, ht, hb, hn⟩ := knDeps_mem (lookup_mem h)
  rw [setDeps_at hp e us ho hj ht hn]
  exact (hk j b hb).2
theorem setV_self {us : Nat → Value} {g : Nat} {v : Value} (h : us g = v) : setV us g v = us := by
  funext j
  by_cases hj : j = g
  · subst hj; simp [setV, h]
  · simp [setV, hj]
theorem KnIOk.cons {kn : KnI} {us : Nat → Value} {pre : List Nat} (h : KnIOk kn us pre) {g : Nat} {b : Option Bool} (hg : g ∈ pre) (hv : us g = knVal b) : KnIOk ((g, b) :: kn) us pre := by
  intro j c hj
  simp only [List.lookup] at hj
  split at hj
  · rename_i he
    have : j = g := by simpa using he
    subst this; cases hj; exact ⟨hg, hv⟩
  · exact h j c hj
theorem KnIOk.step {kn : KnI} {us : Nat → Value} {pre : List Nat} (h : KnIOk kn us pre) {i : Nat} (hi : i ∉ pre) (v : Value) : KnIOk kn (setV us i v) (i :: pre) := by
  intro j c hj
  obtain ⟨h1, h2⟩ := h j c hj
  refine ⟨List.mem_cons_of_mem _ h1, ?_⟩
  rw [← h2]; simp [setV, show j ≠ i from fun e => hi (e ▸ h1)]
theorem KnIOk.put {kn : KnI} {us : Nat → Value} {pre : List Nat} (h : KnIOk kn us pre) {i : Nat} (hi : i ∉ pre) {v : Value} {b : Option Bool} (hb : ∀ c, b = some c → v = .bool c) : KnIOk (knIPut kn i b) (setV us i v) (i :: pre) := by
  cases b with
  | none => exact h.step hi v
  | some c => exact (h.step hi v).cons (List.mem_cons_self ..) (by simp [setV, hb c rfl, knVal])

theorem chG_elim {n : Nat} {ops : Array Oper} (hp : ParOk ops) {e : Env} {o : Oper} {i : Nat} (ho : ops[i]? = some o) {kn : KnI} {us : Nat → Value} {pre : List Nat} (hk : KnIOk kn us pre) (hpre : ∀ j ∈ depsOf o, j ∈ pre) {run skip : KnI → (Nat → Value) → Prop}
    (h : chG n ops o kn us run skip) : ∃ kn', KnIOk kn' us pre ∧ ((Region.wanted o (yieldE ops (setDeps n e ops us (depsOf o))) = true ∧ run kn' us) ∨ (Region.wanted o (yieldE ops (setDeps n e ops us (depsOf o))) = false ∧ skip kn' us)) := by
  unfold chG at h
  cases hg : o.guard with
  | none =>
    simp only [hg] at h
    exact ⟨kn, hk, .inl ⟨by simp [Region.wanted, hg], h⟩⟩
  | some gw =>
    obtain ⟨g, want⟩ := gw
    simp only [hg] at h
    cases ht : dstAt ops g with
    | none => simp only [ht] at h
    | some t =>
      simp only [ht] at h
      cases hn : Nat.ble (t + 1) n with
      | false => simp only [hn] at h
      | true =>
        simp only [hn] at h
        have hn' : t < n := Nat.le_of_ble_eq_true hn
        have hgd : g ∈ depsOf o := by
          have hgl : g < ops.size := by
            cases hg2 : ops[g]? with
            | none => simp [dstAt, hg2] at ht
            | some og => exact (Array.getElem?_eq_some_iff.1 hg2).1
          have ht2 : (ops[g]'hgl).dst = some t := by simpa [dstAt, Array.getElem?_eq_getElem hgl] using ht
          obtain ⟨ed, he, hb, hon⟩ := hp.guards i o g want ho hg
          exact mem_depsOf.2 ⟨ed, he, hb, hon⟩
        have hat := setDeps_at (n := n) hp e us ho hgd ht hn'
        have hw := wanted_of_dst (y := setDeps n e ops us (depsOf o)) hg ht
        rw [hat] at hw
        have wt : ∀ b, us g = .bool b → Region.wanted o (yieldE ops (setDeps n e ops us (depsOf o))) = (b == want) := fun b hb => by
          rw [hb] at hw
          cases hb2 : Region.wanted o (yieldE ops (setDeps n e ops us (depsOf o))) with
          | true => have := hw.1 hb2; simp at this; simp [this]
          | false =>
            have : ¬ b = want := fun h => by rw [hw.2 (by rw [h])] at hb2; cases hb2
            simp [this]
        have fin : ∀ (b : Bool) (kn' : KnI), us g = .bool b → KnIOk kn' us pre → (b = want → run kn' us) → (b ≠ want → skip kn' us) →
            ∃ kn', KnIOk kn' us pre ∧ ((Region.wanted o (yieldE ops (setDeps n e ops us (depsOf o))) = true ∧ run kn' us) ∨ (Region.wanted o (yieldE ops (setDeps n e ops us (depsOf o))) = false ∧ skip kn' us)) := by
          intro b kn' hb hk' h1 h2
          by_cases hbw : b = want
          · exact ⟨kn', hk', .inl ⟨by rw [wt b hb]; simpa using hbw, h1 hbw⟩⟩
          · exact ⟨kn', hk', .inr ⟨by rw [wt b hb]; simpa using hbw, h2 hbw⟩⟩
        split at h
        · rename_i hl
          have hb := (hk g _ hl).2
          refine fin true kn hb hk (fun e => ?_) (fun e => ?_)
          · subst e; simpa using h
          · have : want = false := by cases want <;> simp_all
            subst this; simpa using h
        · rename_i hl
          have hb := (hk g _ hl).2
          refine fin false kn hb hk (fun e => ?_) (fun e => ?_)
          · subst e; simpa using h
          · have : want = true := by cases want <;> simp_all
            subst this; simpa using h
        · rename_i hl
          have hb := (hk g _ hl).2
          refine ⟨kn, hk, .inr ⟨?_, h⟩⟩
          rw [hb] at hw
          have : ¬ Region.wanted o (yieldE ops (setDeps n e ops us (depsOf o))) = true := fun hh => by have := hw.1 hh; simp [knVal, undef] at this
          simpa using this
        · rcases kIf_elim h with ⟨hv, h⟩ | ⟨hv, h⟩
          · rw [setV_self hv] at h
            refine fin true _ hv (hk.cons (b := some true) (hpre g hgd) hv) (fun e => ?_) (fun e => ?_)
            · subst e; simpa using h
            · have : want = false := by cases want <;> simp_all
              subst this; simpa using h
          · rw [setV_self hv] at h
            refine fin false _ hv (hk.cons (b := some false) (hpre g hgd) hv) (fun e => ?_) (fun e => ?_)
            · subst e; simpa using h
            · have : want = true := by cases want <;> simp_all
              subst this; simpa using h

theorem vcOpV_indep {P : Program} {rd : Option Nat} {X : Chain → World → Prop} {o : Oper} {kn : Kn} {e : Env} {w : World} {kb : Option Bool → Value → World → Prop} {kd : Deferred → World → Prop}
    (hi : indep o = true) (hkn : KnOk kn e) (h : vcOpV P rd true X o kn e w kb kd) :
    ∃ b v, (∀ c, b = some c → v = .bool c) ∧ (∀ (w : World) (n : Nat), Oper.quietUpon P (fun w' => ∃ n, w' = w.drewN n) (w.drewN n) v ((o.semAt rd (ev e)).run P (w.drewN n))) ∧ kb b v w := by
  have hmove : ∀ x, (∀ c, o.op ≠ .defer c) → execOp (ev e) o = pure (.value (ev e x)) → kb (knOf kn x) (ev e x) w →
      ∃ b v, (∀ c, b = some c → v = .bool c) ∧ (∀ (w : World) (n : Nat), Oper.quietUpon P (fun w' => ∃ n, w' = w.drewN n) (w.drewN n) v ((o.semAt rd (ev e)).run P (w.drewN n))) ∧ kb b v w := fun x hd hs h =>
    ⟨_, _, fun c hc => knOf_ok hkn hc, by rw [semAt_eq hd, hs]; exact fun w n => ⟨rfl, rfl⟩, h⟩
  obtain ⟨dst, op, type, pos, aft, guard⟩ := o
  cases op
  case move x => exact hmove x (by simp) rfl h
  case assign x => exact hmove x (by simp) rfl h
  case pick q x1 x2 =>
    simp only [vcOpV] at h
    have run : ∀ t, ev e q = .bool t → execOp (ev e) (⟨dst, .pick q x1 x2, type, pos, aft, guard⟩ : Oper) = pure (.value (if t then ev e x1 else ev e x2)) := fun t ht => by
      simp only [execOp]; rw [ht]; rfl
    split at h
    · rename_i hq; exact hmove x1 (by simp) (run true (knOf_ok hkn hq)) h
    · rename_i hq; exact hmove x2 (by simp) (run false (knOf_ok hkn hq)) h
    · rcases kIf_elim h with ⟨hq, h⟩ | ⟨hq, h⟩
      · exact hmove x1 (by simp) (run true hq) h
      · exact hmove x2 (by simp) (run false hq) h
  case nilCheck x =>
    simp only [vcOpV] at h
    replace h := h.of
    unfold kNilD at h
    split at h
    · rename_i hx
      refine ⟨none, _, by simp, fun w n => ?_, h⟩
      rw [semAt_eq (by simp)]; simp only [execOp]; rw [hx]; exact ⟨rfl, rfl⟩
    · rename_i hx
      refine ⟨none, _, by simp, fun w n => ?_, h⟩
      rw [semAt_eq (by simp)]; simp only [execOp]; rw [hx]; exact ⟨rfl, rfl⟩
    · exact h.elim
  case extract t i =>
    simp only [vcOpV] at h
    replace h := h.of
    unfold kExtD at h
    split at h
    · rename_i vs hx
      split at h
      · rename_i v hv
        refine ⟨none, v, by simp, fun w n => ?_, h⟩
        rw [semAt_eq (by simp)]; simp only [execOp]; rw [hx]
        have : Sem.run P (do pure (.value (← Instr.extract (.tuple vs) i)) : Sem Next) (w.drewN n) = .ok (.value v) (w.drewN n) := by
          simp [Instr.extract, hv]
        rw [this]
        exact ⟨rfl, rfl⟩
      · exact h.elim
    · exact h.elim
  case makeFunc fn f cp => exact ⟨none, _, by simp, fun w n => by rw [semAt_eq (by simp)]; exact ⟨rfl, rfl⟩, h⟩
  all_goals cases hi

theorem chRe_elim {P : Program} {n : Nat} {rd : Option Nat} {ops : Array Oper} (hp : ParOk ops) {e : Env} {kn : KnI} {vs : Nat → Value} {pre : List Nat} (hk : KnIOk kn vs pre) {W : World} {A : Prop} : ∀ (fs : List Nat), (∀ f ∈ fs, ∃ o, ops[f]? = some o ∧ Region.wanted o (yieldE ops (setDeps n e ops vs (depsOf o))) = true) →
    chRe P n rd ops e kn vs W A fs → (∀ f ∈ fs, QS P n rd ops e vs W f) ∧ A
  | [], _, h => ⟨by simp, h⟩
  | f :: fs, hw, h => by
    unfold chRe at h
    cases ho : ops[f]? with
    | none => simp only [ho] at h
    | some o =>
      simp only [ho] at h
      obtain ⟨b, v, _, hq, hs⟩ := vcOpV_quiet (knDeps_ok hp hk ho) h
      obtain ⟨h1, h2⟩ := chRe_elim hp hk fs (fun g hg => hw g (List.mem_cons_of_mem _ hg)) hs.of.2
      obtain ⟨o', ho', hwo⟩ := hw f (List.mem_cons_self ..)
      rw [ho] at ho'; cases ho'
      refine ⟨fun g hg => ?_, h2⟩
      rcases List.mem_cons.1 hg with rfl | hg
      · exact ⟨o, ho, .inl ⟨hwo, by rw [← hs.of.1]; exact hq⟩⟩
      · exact h1 g hg

theorem ancTab_spec (D : List (List Nat)) (hD : ∀ i, i < D.length → ∀ j ∈ D.getD i [], j < i) : (ancTab D).length = D.length ∧
    ∀ (S : Nat → Bool), Clo D S → ∀ i, (∀ j ∈ D.getD i [], S j = true) → ∀ j ∈ (ancTab D).getD i [], S j = true := by
  have key : ∀ (rest pre : List (List Nat)) (tab : List (List Nat)), tab.length = pre.length → pre ++ rest = D →
      (∀ (S : Nat → Bool), Clo D S → ∀ i, i < pre.length → (∀ j ∈ D.getD i [], S j = true) → ∀ j ∈ tab.getD i [], S j = true) →
      (rest.foldl (fun tab ds => tab ++ [nub (ds ++ ds.flatMap (fun j => tab.getD j []))]) tab).length = D.length ∧
      ∀ (S : Nat → Bool), Clo D S → ∀ i, (∀ j ∈ D.getD i [], S j = true) → ∀ j ∈ (rest.foldl (fun tab ds => tab ++ [nub (ds ++ ds.flatMap (fun j => tab.getD j []))]) tab).getD i [], S j = true := by
    intro rest
    induction rest with
    | nil =>
      intro pre tab hl hp ht
      simp only [List.append_nil] at hp
      subst hp
      refine ⟨by simpa using hl, fun S hS i hi j hj => ?_⟩
      simp only [List.foldl_nil] at hj
      rcases Nat.lt_or_ge i pre.length with h1 | h1
      · exact ht S hS i h1 hi j hj
      · simp only [List.getD_eq_getElem?_getD] at hj
        rw [List.getElem?_eq_none (by omega)] at hj; cases hj
    | cons ds rest ih =>
      intro pre tab hl hp ht
      have hds : D.getD pre.length [] = ds := by rw [← hp]; simp
      simp only [List.foldl_cons]
      refine ih (pre ++ [ds]) (tab ++ [nub (ds ++ ds.flatMap (fun j => tab.getD j []))]) (by simp [hl]) (by rw [← hp]; simp) ?_
      intro S hS i hi hdep j hj
      by_cases hi2 : i < pre.length
      · refine ht S hS i hi2 hdep j ?_
        simp only [List.getD_eq_getElem?_getD] at hj ⊢
        rwa [List.getElem?_append_left (by omega)] at hj
      · have hii : i = pre.length := by simp at hi; omega
        subst hii
        rw [hds] at hdep
        simp only [List.getD_eq_getElem?_getD] at hj
        rw [List.getElem?_append_right (by omega)] at hj
        simp only [hl, Nat.sub_self, List.getElem?_cons_zero, Option.getD_some] at hj
        rcases List.mem_append.1 (mem_nub.1 hj) with hj | hj
        · exact hdep j hj
        · obtain ⟨x, hx, hjx⟩ := List.mem_flatMap.1 hj
          have hxlt : x < pre.length := hD pre.length (by rw [← hp]; simp) x (by rw [hds]; exact hx)
          exact ht S hS x hxlt (fun y hy => hS x (hdep x hx) y hy) j (by simpa using hjx)
  exact key D [] [] rfl rfl (by intro S _ i hi; simp at hi)

section
variable {P : Program} {n : Nat} {rd : Option Nat} {ops : Array Oper} {e : Env} {X : Chain → World → Prop} {D T : List (List Nat)} {m : Nat} {tail : (Nat → Value) → World → Prop}

/-- The state between two operations: what is behind, what is still to come, what is noted. -/
structure ChSt (P : Program) (n : Nat) (rd : Option Nat) (ops : Array Oper) (e : Env) (X : Chain → World → Prop) (T D : List (List Nat)) (m : Nat) (tail : (Nat → Value) → World → Prop)
    (pre : List Nat) (pl : Plan) (kn : KnI) (pend : List Nat) (us : Nat → Value) (W0 : World) : Prop where
  go : chGo P n rd ops e X T tail pl kn pend us W0
  ok : chOk D T m pl pre true = true
  kn : KnIOk kn us pre
  qs : ∀ f ∈ pend, QS P n rd ops e us W0 f ∧ ∃ o, ops[f]? = some o ∧ Region.wanted o (yieldE ops (setDeps n e ops us (depsOf o))) = true
  dep : ∀ f ∈ pre, ∀ o, ops[f]? = some o → ∀ j ∈ depsOf o, j ∈ pre
  sub : ∀ f ∈ pend, f ∈ pre

theorem chHd_elim {pre : List Nat} {i : Nat} (h : chHd D m pre i = true) : i < m ∧ i ∉ pre ∧ (∀ j ∈ D.getD i [], j ∈ pre) := by
  simp only [chHd, Bool.and_eq_true, List.all_eq_true, Bool.not_eq_true'] at h
  obtain ⟨⟨h1, h2⟩, h3⟩ := h
  exact ⟨by rw [← Nat.blt_eq]; exact h1, by simpa using h2, fun j hj => by simpa using h3 j hj⟩
theorem chNode_elim {pre as : List Nat} (h : chNode T m pre as = true) {i : Nat} (hi : i < m) (hp : i ∉ pre) : i ∈ as ∨ ∃ a ∈ as, a ∈ T.getD i [] := by
  simp only [chNode, List.all_eq_true, List.mem_range, Bool.or_eq_true, List.any_eq_true] at h
  rcases h i hi with (h | h) | ⟨a, ha, h⟩
  · exact absurd (by simpa using h) hp
  · exact .inl (by simpa using h)
  · exact .inr ⟨a, ha, by simpa using h⟩

/-- What is asked of one operation with an effect. -/
def Eff (P : Program) (n : Nat) (rd : Option Nat) (ops : Array Oper) (e : Env) (X : Chain → World → Prop) (T D : List (List Nat)) (m : Nat) (tail : (Nat → Value) → World → Prop) (pre : List Nat) (kn : KnI) (pend : List Nat) (us : Nat → Value) (W0 : World) (i : Nat) : Prop :=
  ∃ p, chHd D m pre i = true ∧ chOk D T m p (i :: pre) true = true ∧ chEff P n rd ops e X T (chGo P n rd ops e X T tail p) i pend kn us W0
theorem alts_eff {pre pend : List Nat} {kn : KnI} {us : Nat → Value} {W0 : World} : ∀ (pl : Plan) (top : Bool), chGo P n rd ops e X T tail pl kn pend us W0 → chOk D T m pl pre top = true → ∀ i ∈ pl.alts, Eff P n rd ops e X T D m tail pre kn pend us W0 i
  | .done, _, _, _, i, hi => by cases hi
  | .q _ _, _, _, _, i, hi => by cases hi
  | .e j p, top, hg, hk, i, hi => by
    simp only [Plan.alts, List.mem_singleton] at hi
    subst hi
    simp only [chOk, Bool.and_eq_true] at hk
    unfold chGo at hg
    exact ⟨p, hk.1.1, hk.2, hg⟩
  | .or j p r, top, hg, hk, i, hi => by
    simp only [chOk, Bool.and_eq_true] at hk
    unfold chGo at hg
    rcases List.mem_cons.1 hi with rfl | hi
    · exact ⟨p, hk.1.1.1, hk.1.2, hg.of.1⟩
    · exact alts_eff r false hg.of.2 hk.2 i hi

theorem QS.congr {us us' : Nat → Value} {W : World} {f : Nat} (h : QS P n rd ops e us W f) (hf : us f = us' f) (hd : ∀ o, ops[f]? = some o → ∀ j ∈ depsOf o, us j = us' j) : QS P n rd ops e us' W f := by
  obtain ⟨o, ho, hy⟩ := h
  exact ⟨o, ho, by rw [← hf, ← setDeps_congr _ (hd o ho)]; exact hy⟩

/-- Nothing quiet comes next. -/
def Norm : Plan → Prop
  | .q _ _ => False
  | _ => True

theorem wanted_congr {us us' : Nat → Value} {f : Nat} (h : ∃ o, ops[f]? = some o ∧ Region.wanted o (yieldE ops (setDeps n e ops us (depsOf o))) = true) (hd : ∀ o, ops[f]? = some o → ∀ j ∈ depsOf o, us j = us' j) :
    ∃ o, ops[f]? = some o ∧ Region.wanted o (yieldE ops (setDeps n e ops us' (depsOf o))) = true := by
  obtain ⟨o, ho, hw⟩ := h
  exact ⟨o, ho, by rw [← setDeps_congr _ (hd o ho)]; exact hw⟩

/-- Quiet operations are taken as early as they may. -/
theorem ChSt.settle (hp : ParOk ops) (hDo : ∀ (i : Nat) (o : Oper), ops[i]? = some o → D.getD i [] = depsOf o) : ∀ (pl : Plan) (pre : List Nat) (kn : KnI) (pend : List Nat) (us : Nat → Value) (W0 : World), ChSt P n rd ops e X T D m tail pre pl kn pend us W0 →
    ∃ pre' pl' kn' pend' us', ChSt P n rd ops e X T D m tail pre' pl' kn' pend' us' W0 ∧ (∀ i ∈ pre, i ∈ pre') ∧ (∀ i ∈ pre, us' i = us i) ∧ (∀ i ∈ pend, i ∈ pend') ∧ (∀ i ∈ pre', i ∈ pre ∨ i ∈ pend' ∨ ∀ W, QS P n rd ops e us' W i) ∧ Norm pl'
  | .done, pre, kn, pend, us, W0, h => ⟨pre, _, _, pend, us, h, fun _ h => h, fun _ _ => rfl, fun _ h => h, fun _ h => .inl h, trivial⟩
  | .e _ _, pre, kn, pend, us, W0, h => ⟨pre, _, _, pend, us, h, fun _ h => h, fun _ _ => rfl, fun _ h => h, fun _ h => .inl h, trivial⟩
  | .or _ _ _, pre, kn, pend, us, W0, h => ⟨pre, _, _, pend, us, h, fun _ h => h, fun _ _ => rfl, fun _ h => h, fun _ h => .inl h, trivial⟩
  | .q i p, pre, kn, pend, us, W0, h => by
    have hok := h.ok
    simp only [chOk, Bool.and_eq_true] at hok
    obtain ⟨h1, h2, h3⟩ := chHd_elim hok.1
    have hgo := h.go
    unfold chGo at hgo
    cases ho : ops[i]? with
    | none => simp only [ho] at hgo
    | some o =>
      simp only [ho] at hgo
      have hdi : ∀ j ∈ depsOf o, j ∈ pre := fun j hj => h3 j (by rw [hDo i o ho]; exact hj)
      have hne : ∀ v, ∀ j ∈ pre, setV us i v j = us j := fun v j hj => by simp [setV, show j ≠ i from fun e => h2 (e ▸ hj)]
      have henv : ∀ v, setDeps n e ops (setV us i v) (depsOf o) = setDeps n e ops us (depsOf o) := fun v => setDeps_congr _ (fun j hj => hne v j (hdi j hj))
      -- the step, given what is noted of 'i'
      have fin : ∀ v kn' pend', chGo P n rd ops e X T tail p kn' pend' (setV us i v) W0 → KnIOk kn' (setV us i v) (i :: pre) → ((pend' = pend ∧ ∀ W, QS P n rd ops e (setV us i v) W i) ∨ (pend' = pend ++ [i] ∧ QS P n rd ops e (setV us i v) W0 i ∧ Region.wanted o (yieldE ops (setDeps n e ops us (depsOf o))) = true)) →
          ∃ pre' pl' kn' pend' us', ChSt P n rd ops e X T D m tail pre' pl' kn' pend' us' W0 ∧ (∀ i ∈ pre, i ∈ pre') ∧ (∀ i ∈ pre, us' i = us i) ∧ (∀ i ∈ pend, i ∈ pend') ∧ (∀ i ∈ pre', i ∈ pre ∨ i ∈ pend' ∨ ∀ W, QS P n rd ops e us' W i) ∧ Norm pl' := by
        intro v kn' pend' hg hkn hpd
        have hold : ∀ f ∈ pend, QS P n rd ops e (setV us i v) W0 f ∧ ∃ o, ops[f]? = some o ∧ Region.wanted o (yieldE ops (setDeps n e ops (setV us i v) (depsOf o))) = true := fun f hf =>
          ⟨(h.qs f hf).1.congr (hne v f (h.sub f hf)).symm (fun of hof j hj => (hne v j (h.dep f (h.sub f hf) of hof j hj)).symm), wanted_congr (h.qs f hf).2 (fun of hof j hj => (hne v j (h.dep f (h.sub f hf) of hof j hj)).symm)⟩
        have hst : ChSt P n rd ops e X T D m tail (i :: pre) p kn' pend' (setV us i v) W0 := by
          refine ⟨hg, hok.2, hkn, fun f hf => ?_, fun f hf of hof j hj => ?_, fun f hf => ?_⟩
          · rcases hpd with ⟨rfl, _⟩ | ⟨rfl, hq, hw⟩
            · exact hold f hf
            · rcases List.mem_append.1 hf with hf | hf
              · exact hold f hf
              · simp at hf; subst hf
                exact ⟨hq, o, ho, by rw [henv]; exact hw⟩
          · rcases List.mem_cons.1 hf with rfl | hf
            · rw [ho] at hof; cases hof; exact List.mem_cons_of_mem _ (hdi j hj)
            · exact List.mem_cons_of_mem _ (h.dep f hf of hof j hj)
          · rcases hpd with ⟨rfl, _⟩ | ⟨rfl, _, _⟩
            · exact List.mem_cons_of_mem _ (h.sub f hf)
            · rcases List.mem_append.1 hf with hf | hf
              · exact List.mem_cons_of_mem _ (h.sub f hf)
              · simp at hf; subst hf; exact List.mem_cons_self ..
        obtain ⟨pre', rest', kn2, pend2, us', g1, g2, g3, g4, g5, g6⟩ := ChSt.settle hp hDo p _ _ _ _ _ hst
        have hsub : ∀ f ∈ pend, f ∈ pend' := fun f hf => by
          rcases hpd with ⟨rfl, _⟩ | ⟨rfl, _, _⟩
          · exact hf
          · exact List.mem_append_left _ hf
        refine ⟨pre', rest', kn2, pend2, us', g1, fun j hj => g2 j (List.mem_cons_of_mem _ hj), fun j hj => (g3 j (List.mem_cons_of_mem _ hj)).trans (hne v j hj), fun j hj => g4 j (hsub j hj), fun j hj => ?_, g6⟩
        rcases g5 j hj with hj | hj
        · rcases List.mem_cons.1 hj with rfl | hj
          · rcases hpd with ⟨rfl, hq⟩ | ⟨rfl, _, _⟩
            · exact .inr (.inr fun W => (hq W).congr (g3 j (List.mem_cons_self ..)).symm (fun of hof k hk => by
                rw [ho] at hof; cases hof
                exact (g3 k (List.mem_cons_of_mem _ (hdi k hk))).symm))
            · exact .inr (.inl (g4 _ (by simp)))
          · exact .inl hj
        · exact .inr hj
      obtain ⟨kn', hk', (⟨hw, hr⟩ | ⟨hw, hr⟩)⟩ := chG_elim (e := e) hp ho h.kn hdi hgo
      · cases hin : indep o with
        | true =>
          simp only [hin, cond_true] at hr
          obtain ⟨b, v, hb, hq, hk⟩ := vcOpV_indep hin (knDeps_ok hp hk' ho) hr
          exact fin v _ _ hk (hk'.put h2 hb) (.inl ⟨rfl, fun W => ⟨o, ho, by rw [henv]; simp only [setV, if_true]; exact .inl ⟨hw, hq W⟩⟩⟩)
        | false =>
          simp only [hin, cond_false] at hr
          obtain ⟨b, v, hb, hq, hk⟩ := vcOpV_quiet (knDeps_ok hp hk' ho) hr
          exact fin v _ _ hk (hk'.put h2 hb) (.inr ⟨rfl, ⟨o, ho, by rw [henv]; simp only [setV, if_true]; exact .inl ⟨hw, hq⟩⟩, hw⟩)
      · refine fin undef _ _ hr ((hk'.step h2 undef).cons (List.mem_cons_self ..) (by simp [setV, knVal])) (.inl ⟨rfl, fun W => ⟨o, ho, by rw [henv]; simp only [setV, if_true]; exact .inr ⟨hw, rfl⟩⟩⟩)
end

theorem setMany_get {n : Nat} (vals : List Value) (f : Nat → Value) (t : Nat) : ∀ (ss : List Nat) (i : Nat) (e : Env), (∀ k (h : k < ss.length), vals.getD (i + k) undef = f ss[k]) →
    setMany n e vals ss i t = if t ∈ ss ∧ t < n then f t else e t
  | [], i, e, _ => by simp [setMany]
  | s :: ss, i, e, h => by
    simp only [setMany]
    rw [setMany_get vals f t ss (i + 1) _ (fun k hk => by have := h (k + 1) (by simpa using hk); simpa [Nat.add_assoc, Nat.add_comm 1 k] using this)]
    have h0 : vals.getD i undef = f s := h 0 (by simp)
    by_cases hts : t = s
    · subst hts
      by_cases hn : t < n
      · have h1 := upd_same (e := e) (v := vals.getD i undef) hn
        rw [h1, h0]; simp [hn]
      · simp [hn, upd_out hn]
    · simp [hts, upd_ne hts]

theorem sameOff_writes {n : Nat} {ops : Array Oper} {e x : Env} {S : Nat → Bool} {u : Nat → Value} (he : EnvOk n e) (hx : EnvOk n x) (h : Agree n ops e S u x) : setMany n e ((nub (opsWrites ops.toList)).map (fun s => x s)) (nub (opsWrites ops.toList)) 0 = x := by
  funext t
  have hget : ∀ (ss : List Nat) k (h : k < ss.length), (ss.map (fun s => x s)).getD (0 + k) undef = x ss[k] := fun ss k h => by simp [h]
  rw [setMany_get _ x t _ _ _ (hget _)]
  by_cases hn : t < n
  · by_cases h1 : t ∈ nub (opsWrites ops.toList)
    · rw [if_pos ⟨h1, hn⟩]
    · rw [if_neg (fun h => h1 h.1)]
      refine (h.out t fun i o ho hd => h1 (mem_nub.2 ?_)).symm
      exact List.mem_filterMap.2 ⟨o, List.mem_of_getElem? (by simpa using ho), hd⟩
  · rw [if_neg (fun h => hn h.2), he t (by omega), hx t (by omega)]

theorem vcChn_sound {P : Program} {n : Nat} {rd : Option Nat} {ops : Array Oper} {Q : QE} {pl : Plan} {e : Env} {d : List Deferred} {w : World} {id : Nat} (hok : EnvOk n e) (hB : parB ops = true) (hm : P.follows .mixedOrders = true)
    (h : vcChn P n rd ops Q pl e d w) : wpM P rd (.region id ops true) (toQ n Q) (act n e d) w := by
  have hp := parOk_of hB
  obtain ⟨hchk, hgo⟩ := h.of
  obtain ⟨m, hmdef⟩ : ∃ m, m = tailGo ops ops.size := ⟨_, rfl⟩
  rw [← hmdef] at hchk hgo
  obtain ⟨D, hD⟩ : ∃ D, D = ops.toList.map depsOf := ⟨_, rfl⟩
  rw [← hD] at hchk hgo
  obtain ⟨X, hXd⟩ : ∃ X : Chain → World → Prop, X = (fun ch w => ∀ ds : List Value, Q (.panic ch) (setMany n e ds (nub (opsWrites ops.toList)) 0) d w) := ⟨_, rfl⟩
  rw [← hXd] at hgo
  obtain ⟨tail, htd, hgo⟩ : ∃ tail : (Nat → Value) → World → Prop, (∀ vs W, tail vs W → vcOps P n rd false ops Q (ops.toList.drop m) [] (setDeps n e ops vs (List.range m)) d W) ∧ chGo P n rd ops e X (ancTab D) tail pl [] [] (fun _ => undef) w := by
    split at hgo
    · exact ⟨_, fun vs W h => h, hgo⟩
    · refine ⟨_, fun vs W h => ?_, hgo.of⟩
      have h' := h
      unfold chTail at h'
      rwa [setDeps_congr (u := fun j => ((List.range m).map vs).getD j undef) (u' := vs) _ (fun j hj => by simp [List.mem_range.1 hj])] at h'
  have hDo : ∀ (i : Nat) (o : Oper), ops[i]? = some o → D.getD i [] = depsOf o := fun i o ho => by rw [hD]; simp [ho]
  have hDlt : ∀ i, i < D.length → ∀ j ∈ D.getD i [], j < i := fun i hi j hj => by
    have hi' : i < ops.size := by rw [hD] at hi; simpa using hi
    rw [hDo i _ (Array.getElem?_eq_getElem hi')] at hj
    obtain ⟨ed, he, hb, rfl⟩ := mem_depsOf.1 hj
    exact hp.acyc i _ (Array.getElem?_eq_getElem hi') ed he hb
  have hanc := (ancTab_spec D hDlt).2
  have hmle : m ≤ ops.size := by rw [hmdef]; exact tailGo_le _ _
  have htail : ∀ i o, ops[i]? = some o → m ≤ i → ∀ j, j < i → ∃ ed ∈ o.after, Region.binds .any ed = true ∧ ed.on = j := by
    intro i o ho hi j hj
    have hlt := (Array.getElem?_eq_some_iff.1 ho).1
    have := tailGo_spec ops ops.size i (by rw [← hmdef]; exact hi) hlt j hj
    have e1 : ops.getD i default = o := by simp [ho]
    rw [e1] at this
    exact mem_depsOf.1 this
  let Inv : (Nat → Bool) → (Nat → Value) → World → Prop := fun S vs W => ∃ pre rest kn pend us W0, ChSt P n rd ops e X (ancTab D) D m tail pre rest kn pend us W0 ∧ (∃ k, W = W0.drewN k) ∧
    Norm rest ∧ (∀ j, S j = true → j ∈ pre) ∧ (∀ j ∈ pre, S j = true ∨ j ∈ pend ∨ ∀ W, QS P n rd ops e us W j) ∧ (∀ j, S j = true → vs j = us j)
  let Ph2 : (Nat → Bool) → Act → World → Prop := fun S a W => ∃ k, m ≤ k ∧ k ≤ ops.size ∧ (∀ j, j < ops.size → S j = decide (j < k)) ∧ a.tmps.size = n ∧ ∃ kn, KnOk kn (envOf a) ∧
    vcOps P n rd false ops Q (ops.toList.drop k) kn (envOf a) a.defers W
  let Ph1 : (Nat → Bool) → Act → World → Prop := fun S a W => (∀ j, m ≤ j → j < ops.size → S j = false) ∧ a.defers = d ∧ a.tmps.size = n ∧ (∀ (j : Nat) (o : Oper), ops[j]? = some o → S j = true → ∀ i, i ∈ depsOf o → S i = true) ∧ (∀ j, ops.size ≤ j → S j = false) ∧
    ∃ u, Agree n ops e S u (envOf a) ∧ Inv S u W
  have hputd : ∀ (a : Act) (dst : Option Tmp) (v : Value), (a.put dst v).defers = a.defers := fun a dst v => by cases dst <;> rfl
  have hev : ∀ (a : Act), a.eval = ev (envOf a) := eval_envOf
  have h12 : ∀ S a W, Ph1 S a W → (∀ i, i < m → S i = true) → Ph2 S a W := by
    rintro S a W ⟨hS, hd, hsz, _, _, u, ha, hI⟩ hdone
    refine ⟨m, Nat.le_refl _, hmle, fun j hj => ?_, hsz, [], fun t b h => by simp at h, ?_⟩
    · by_cases hjm : j < m
      · simp [hdone j hjm, hjm]
      · simp [hS j (by omega) hj, hjm]
    · obtain ⟨pre, rest, kn, pend, us, W0, hst, ⟨k, rfl⟩, hnorm, hSp, _, hu⟩ := hI
      have hrest : rest = .done := by
        cases rest with
        | done => rfl
        | q x r => exact hnorm.elim
        | e x r =>
          have hk := hst.ok
          simp only [chOk, Bool.and_eq_true] at hk
          obtain ⟨h1, h2, _⟩ := chHd_elim hk.1.1
          exact absurd (hSp x (hdone x h1)) h2
        | or x r r2 =>
          have hk := hst.ok
          simp only [chOk, Bool.and_eq_true] at hk
          obtain ⟨h1, h2, _⟩ := chHd_elim hk.1.1.1
          exact absurd (hSp x (hdone x h1)) h2
      subst hrest
      have h1 := hst.go
      unfold chGo at h1
      have h1 := htd _ _ (h1.of k)
      have h2 := setDeps_agree (n := n) hp e us (List.range m) (fun j hj => by have := List.mem_range.1 hj; omega)
      have : (envOf a) = setDeps n e ops us (List.range m) := by
        funext s
        by_cases hw : ∃ (j : Nat) (oj : Oper), ops[j]? = some oj ∧ oj.dst = some s
        · obtain ⟨j, oj, hj, hjt⟩ := hw
          have hlt := (Array.getElem?_eq_some_iff.1 hj).1
          by_cases hjm : j < m
          · rw [ha.yes j oj s hj hjt (hdone j hjm), h2.yes j oj s hj hjt (by simpa using hjm), hu j (hdone j hjm)]
          · rw [ha.no j oj s hj hjt (hS j (by omega) hlt), h2.no j oj s hj hjt (by simpa using hjm)]
        · have hn : ∀ (j : Nat) (oj : Oper), ops[j]? = some oj → oj.dst ≠ some s := fun j oj hj hjt => hw ⟨j, oj, hj, hjt⟩
          rw [ha.out s hn, h2.out s hn]
      rw [this, hd]; exact h1
  have hst0 : ChSt P n rd ops e X (ancTab D) D m tail [] pl [] [] (fun _ => undef) w := ⟨hgo, hchk, by intro j b h; simp at h, by simp, by simp, by simp⟩
  refine wpM_order hm (fun S a W => Ph1 S a W ∨ Ph2 S a W) hp.acyc ?_ ?_ (.inl ⟨fun _ _ _ => rfl, rfl, act_size n e d, fun _ _ _ h => by simp at h, fun _ _ => rfl, fun _ => undef, by rw [envOf_act hok]; exact Agree.start n ops e _, ?_⟩)
  · intro S a W i o hinv ho hSi hdep
    have hlt := (Array.getElem?_eq_some_iff.1 ho).1
    have step2 : Ph2 S a W → (if Region.wanted o (yielded ops a.tmps) then opM P rd o a W (fun a' w' => Ph1 (inc S i) a' w' ∨ Ph2 (inc S i) a' w') (toQ n Q)
       else (Ph1 (inc S i) (a.put o.dst undef) W ∨ Ph2 (inc S i) (a.put o.dst undef) W)) := by
      rintro ⟨k, hmk, hks, hS, hsz, kn, hkn, hvc⟩
      have hik : i = k := by
        have h1 : ¬ i < k := by
          have := hS i hlt; rw [hSi] at this; simpa using this.symm
        have h2 : ¬ k < i := fun hki => by
          obtain ⟨ed, he, hb, hon⟩ := htail i o ho (by omega) k hki
          have := hdep ed he hb
          rw [hon, hS k (by omega)] at this
          simp at this
        omega
      subst hik
      have hdrop : ops.toList.drop i = o :: ops.toList.drop (i + 1) := by
        have h' : ops.toList[i]? = some o := by simpa using ho
        obtain ⟨h1, h2⟩ := List.getElem?_eq_some_iff.1 h'
        rw [List.drop_eq_getElem_cons h1, h2]
      rw [hdrop] at hvc
      have hinc : ∀ j, j < ops.size → inc S i j = decide (j < i + 1) := fun j hj => by
        have := congrFun (inc_lt i) j
        rw [← this]
        simp only [inc, hS j hj]
      obtain ⟨kn', hk', (⟨hw, h⟩ | ⟨hw, h⟩)⟩ := guard_cases (envOf_ok hsz) hkn hvc
      · rw [if_pos (hw a rfl)]
        have hvs := vcOp_sound (next := fun a' w' => Ph1 (inc S i) a' w' ∨ Ph2 (inc S i) a' w') (envOf_ok hsz) hk' (fun kn'' e' d' w' ho hk h => .inr ⟨i + 1, by omega, by omega, hinc, act_size _ _ _, kn'', by rw [envOf_act ho]; exact hk, by rw [envOf_act ho]; exact h⟩) h
        rwa [act_self hsz] at hvs
      · rw [if_neg (by rw [hw a rfl]; simp)]
        refine .inr ⟨i + 1, by omega, by omega, hinc, by rw [put_size]; exact hsz, knSkip n kn' o.dst, ?_, ?_⟩
        · rw [envOf_put hsz]; exact hk'.skip n _
        · rw [envOf_put hsz, hputd]; exact h
    rcases hinv with h1 | h2
    · by_cases him : i < m
      · obtain ⟨hS, hd, hsz, hcl, hbig, u, ha, hI⟩ := h1
        obtain ⟨pre, rest, kn, pend, us, W0, hst, ⟨k, rfl⟩, hnorm, hSp, hpS, hu⟩ := hI
        have hdepS : ∀ j ∈ depsOf o, S j = true := fun j hj => by
          obtain ⟨ed, he, hb, hon⟩ := mem_depsOf.1 hj
          subst hon
          exact hdep ed he hb
        have hClo : Clo D S := by
          intro j hSj x hx
          have hjlt : j < ops.size := by
            rcases Nat.lt_or_ge j ops.size with h1 | h1
            · exact h1
            · rw [hbig j h1] at hSj; cases hSj
          rw [hDo j _ (Array.getElem?_eq_getElem hjlt)] at hx
          exact hcl j _ (Array.getElem?_eq_getElem hjlt) hSj x hx
        have hy := setDeps_agree (n := n) hp e us (depsOf o) (fun j hj => by
          obtain ⟨ed, he, hb, hon⟩ := mem_depsOf.1 hj
          have := hp.acyc i o ho ed he hb; omega)
        have hlooks : ∀ t, t ∈ o.looksAt ops → envOf a t = setDeps n e ops us (depsOf o) t := fun t ht =>
          ha.looks hp hy ho (fun ed he hb => ⟨hdep ed he hb, by simpa using mem_depsOf.2 ⟨ed, he, hb, rfl⟩, hu _ (hdep ed he hb)⟩) (fun j oj hj ⟨ed, he, hb, hon⟩ => ⟨Bool.eq_false_iff.2 fun hSj => (by have h1 := hcl j oj hj hSj i (mem_depsOf.2 ⟨ed, he, hb, hon⟩); rw [hSi] at h1; cases h1), Bool.eq_false_iff.2 fun hmm => (by
            have hm' : j ∈ depsOf o := by simpa using hmm
            obtain ⟨ed2, he2, hb2, hon2⟩ := mem_depsOf.1 hm'
            have h1 := hp.acyc i o ho ed2 he2 hb2
            have h2 := hp.acyc j oj hj ed he hb
            omega)⟩) ht
        have hsem : o.semAt rd a.eval = o.semAt rd (ev (setDeps n e ops us (depsOf o))) := by rw [hev]; exact semAt_congr (hp.nosel i o ho) hlooks
        have hwant : Region.wanted o (yielded ops a.tmps) = Region.wanted o (yieldE ops (setDeps n e ops us (depsOf o))) := by
          rw [yielded_envOf]; exact yielded_congr hlooks
        have hnext : ∀ v W', Inv (inc S i) (setV u i v) W' → Ph1 (inc S i) (a.put o.dst v) W' := by
          intro v W' hI'
          have hu' : ∀ j, j ≠ i → setV u i v j = u j := fun j hj => by simp [setV, hj]
          refine ⟨fun j hj hjs => ?_, by rw [hputd]; exact hd, by rw [put_size]; exact hsz, ?_, fun j hj => ?_, setV u i v, by rw [envOf_put hsz]; exact ha.step hp ho (by simp [setV]) hu', hI'⟩
          · simp only [inc, show (j == i) = false by simp; omega, Bool.false_or]; exact hS j hj hjs
          · intro j oj hj hSj x hx
            simp only [inc, Bool.or_eq_true] at hSj ⊢
            rcases hSj with hji | hSj
            · have hji : j = i := by simpa using hji
              subst hji
              rw [ho] at hj; cases hj
              exact .inr (hdepS x hx)
            · exact .inr (hcl j oj hj hSj x hx)
          · simp only [inc, show (j == i) = false by simp; omega, Bool.false_or]; exact hbig j hj
        by_cases hip : i ∈ pre
        · -- a quiet one that is noted
          have hqs : QS P n rd ops e us W0 i := by
            rcases hpS i hip with h | h | h
            · rw [hSi] at h; cases h
            · exact (hst.qs i h).1
            · exact h W0
          obtain ⟨o', ho', hyq⟩ := hqs
          rw [ho] at ho'; cases ho'
          have hInv : ∀ k', Inv (inc S i) (setV u i (us i)) (W0.drewN k') := fun k' =>
            ⟨pre, rest, kn, pend, us, W0, hst, ⟨k', rfl⟩, hnorm, fun j hj => by
              simp only [inc, Bool.or_eq_true] at hj
              rcases hj with hj | hj
              · have : j = i := by simpa using hj
                rw [this]; exact hip
              · exact hSp j hj, fun j hj => by
              rcases hpS j hj with h | h
              · left; simp [inc, h]
              · exact .inr h, fun j hj => by
              by_cases hji : j = i
              · subst hji; simp [setV]
              · simp only [inc, show (j == i) = false by simpa using hji, Bool.false_or] at hj
                simp only [setV, if_neg hji]; exact hu j hj⟩
          rw [hwant]
          rcases hyq with ⟨hw, hv⟩ | ⟨hw, hv⟩
          · rw [if_pos hw]
            unfold opM
            rw [hsem]
            have := hv k
            generalize (o.semAt rd (ev (setDeps n e ops us (depsOf o)))).run P (W0.drewN k) = r at this
            cases r with
            | halt x w' => exact this.elim
            | ok nx w' =>
              cases nx <;> simp only [Oper.quietUpon] at this <;> simp only [uponM]
              case value v => obtain ⟨rfl, rfl⟩ := this; exact .inl (hnext _ _ (hInv k))
              case skip => obtain ⟨rfl, h2⟩ := this; have hi := hnext _ _ (hInv k); rw [h2] at hi; exact .inl hi
              case enter f args =>
                obtain ⟨rfl, hc⟩ := this
                refine hc.mono fun en w'' he => ?_
                obtain ⟨rfl, m', rfl⟩ := he
                exact .inl (hnext _ _ (hInv m'))
          · rw [if_neg (by rw [hw]; simp)]
            have hi := hnext _ _ (hInv k)
            rw [hv] at hi
            exact .inl hi
        · -- the next one that has an effect
          have halts : i ∈ rest.alts := by
            have hn : ∀ as, chNode (ancTab D) m pre as = true → as = rest.alts → (∀ a ∈ as, a ∉ pre) → i ∈ rest.alts := by
              intro as hn he hnp
              rcases chNode_elim hn him hip with h | ⟨x, hx, h⟩
              · rw [← he]; exact h
              · exact absurd (hSp x (hanc S hClo i (by rw [hDo i o ho]; exact hdepS) x h)) (hnp x hx)
            have hnp : ∀ a ∈ rest.alts, a ∉ pre := fun a ha => by
              obtain ⟨_, hh, _⟩ := alts_eff rest true hst.go hst.ok a ha
              exact (chHd_elim hh).2.1
            have hk := hst.ok
            cases rest with
            | done =>
              simp only [chOk, List.all_eq_true, List.mem_range] at hk
              exact absurd (by simpa using hk i him) hip
            | q x r => exact hnorm.elim
            | e x r =>
              simp only [chOk, Bool.and_eq_true] at hk
              exact hn [x] (by simpa using hk.1.2) rfl hnp
            | or x r r2 =>
              simp only [chOk, Bool.and_eq_true] at hk
              exact hn (x :: r2.alts) (by simpa using hk.1.1.2) rfl hnp
          obtain ⟨p, hhd, h5, hgo⟩ := alts_eff rest true hst.go hst.ok i halts
          obtain ⟨_, _, hdeps⟩ := chHd_elim hhd
          unfold chEff at hgo
          simp only [ho] at hgo
          have hdi : ∀ j ∈ depsOf o, j ∈ pre := fun j hj => hdeps j (by rw [hDo i o ho]; exact hj)
          have hne : ∀ v, ∀ j ∈ pre, setV us i v j = us j := fun v j hj => by simp [setV, show j ≠ i from fun e => hip (e ▸ hj)]
          -- what is behind 'i'
          have hkont : ∀ v W2 kn' pend', ChSt P n rd ops e X (ancTab D) D m tail (i :: pre) p kn' pend' (setV us i v) W2 → (∀ j ∈ pend, S j = true ∨ j ∈ pend') → (∃ k, W2.drewN k = W2.drewN k) → ∀ k2, Inv (inc S i) (setV u i v) (W2.drewN k2) := by
            intro v W2 kn' pend' hst1 hpp _ k2
            obtain ⟨pre', rest', kn2, pend2, us', g1, g2, g3, g4, g5, g6⟩ := ChSt.settle hp hDo _ _ _ _ _ _ hst1
            refine ⟨pre', rest', kn2, pend2, us', W2, g1, ⟨k2, rfl⟩, g6, fun j hj => ?_, fun j hj => ?_, fun j hj => ?_⟩
            · simp only [inc, Bool.or_eq_true] at hj
              rcases hj with hj | hj
              · have : j = i := by simpa using hj
                rw [this]; exact g2 _ (List.mem_cons_self ..)
              · exact g2 _ (List.mem_cons_of_mem _ (hSp j hj))
            · rcases g5 j hj with hj | hj | hj
              · rcases List.mem_cons.1 hj with rfl | hj
                · left; simp [inc]
                · rcases hpS j hj with h | h | h
                  · left; simp [inc, h]
                  · rcases hpp j h with h | h
                    · left; simp [inc, h]
                    · exact .inr (.inl (g4 _ h))
                  · refine .inr (.inr fun W => (h W).congr ?_ fun of hof k hk => ?_)
                    · rw [g3 j (List.mem_cons_of_mem _ hj), hne v j hj]
                    · have hkp := hst.dep j hj of hof k hk
                      rw [g3 k (List.mem_cons_of_mem _ hkp), hne v k hkp]
              · exact .inr (.inl hj)
              · exact .inr (.inr hj)
            · by_cases hji : j = i
              · subst hji
                rw [g3 j (List.mem_cons_self ..)]; simp [setV]
              · simp only [inc, show (j == i) = false by simpa using hji, Bool.false_or] at hj
                rw [g3 j (List.mem_cons_of_mem _ (hSp j hj))]
                simp only [setV, if_neg hji]; exact hu j hj
          have hdep1 : ∀ f ∈ i :: pre, ∀ of, ops[f]? = some of → ∀ j ∈ depsOf of, j ∈ i :: pre := fun f hf of hof j hj => by
            rcases List.mem_cons.1 hf with rfl | hf
            · rw [ho] at hof; cases hof; exact List.mem_cons_of_mem _ (hdi j hj)
            · exact List.mem_cons_of_mem _ (hst.dep f hf of hof j hj)
          have hwold : ∀ v, ∀ f ∈ pend, ∃ o, ops[f]? = some o ∧ Region.wanted o (yieldE ops (setDeps n e ops (setV us i v) (depsOf o))) = true := fun v f hf =>
            wanted_congr (hst.qs f hf).2 (fun of hof j hj => (hne v j (hst.dep f (hst.sub f hf) of hof j hj)).symm)
          have hXi : ∀ ch w', X ch w' → toQ n Q (.panic ch) a w' := by
            intro ch w' hx
            rw [hXd] at hx
            have := hx ((nub (opsWrites ops.toList)).map (fun s => envOf a s))
            rw [sameOff_writes hok (envOf_ok hsz) ha, ← hd] at this
            exact ⟨hsz, this⟩
          obtain ⟨kn', hk', (⟨hw, hr⟩ | ⟨hw, hr⟩)⟩ := chG_elim (e := e) hp ho hst.kn hdi hgo
          · rw [if_pos (by rw [hwant]; exact hw)]
            have hr := hr.of k
            unfold chV at hr
            refine vcOpV_sound (knDeps_ok hp hk' ho) hsem (fun b v w' hb h => .inl (hnext v w' ?_)) (fun _ _ h => h.elim) hXi hr
            have hkn1 := hk'.put hip hb
            obtain ⟨hq, hg⟩ := chRe_elim hp hkn1 _ (fun f hf => hwold v f (List.mem_filter.1 hf).1) h
            refine hkont v w' _ _ ⟨hg, h5, hkn1, fun f hf => ⟨hq f hf, hwold v f (List.mem_filter.1 hf).1⟩, hdep1, fun f hf => List.mem_cons_of_mem _ (hst.sub f (List.mem_filter.1 hf).1)⟩ (fun j hj => ?_) ⟨0, rfl⟩ 0
            by_cases hji : j ∈ (ancTab D).getD i []
            · left; exact hanc S hClo i (by rw [hDo i o ho]; exact hdepS) j hji
            · exact .inr (List.mem_filter.2 ⟨hj, by simpa using hji⟩)
          · rw [if_neg (by rw [hwant, hw]; simp)]
            refine .inl (hnext undef _ ?_)
            refine hkont undef W0 _ _ ⟨hr, h5, (hk'.step hip undef).cons (List.mem_cons_self ..) (by simp [setV, knVal]), fun f hf => ⟨(hst.qs f hf).1.congr (hne undef f (hst.sub f hf)).symm (fun of hof j hj => (hne undef j (hst.dep f (hst.sub f hf) of hof j hj)).symm), hwold undef f hf⟩, hdep1, fun f hf => List.mem_cons_of_mem _ (hst.sub f hf)⟩ (fun j hj => .inr hj) ⟨0, rfl⟩ k
      · refine step2 (h12 S a W h1 fun j hj => ?_)
        obtain ⟨ed, he, hb, hon⟩ := htail i o ho (by omega) j (by omega)
        subst hon
        exact hdep ed he hb
    · exact step2 h2
  · intro S a W hinv hS
    have h2 : Ph2 S a W := by
      rcases hinv with h1 | h2
      · exact h12 S a W h1 fun i hi => hS i (by omega)
      · exact h2
    obtain ⟨k, _, hks, hSk, hsz, kn, _, hvc⟩ := h2
    have hk : k = ops.size := by
      by_cases hk : k < ops.size
      · have := hSk k hk; rw [hS k hk] at this; simp at this
      · omega
    subst hk
    simp only [← Array.length_toList, List.drop_length] at hvc
    exact ⟨hsz, hvc⟩
  · obtain ⟨pre', rest', kn', pend', us', g1, g2, g3, g4, g5, g6⟩ := ChSt.settle hp hDo _ _ _ _ _ _ hst0
    exact ⟨pre', rest', kn', pend', us', w, g1, ⟨1, rfl⟩, g6, fun j hj => by simp at hj, fun j hj => by
      rcases g5 j hj with h | h
      · cases h
      · exact .inr h, fun j hj => by simp at hj⟩

theorem chG_mono {n : Nat} {ops : Array Oper} {o : Oper} {kn : KnI} {vs : Nat → Value} {run skip run' skip' : KnI → (Nat → Value) → Prop} (hr : ∀ kn vs, run kn vs → run' kn vs) (hs : ∀ kn vs, skip kn vs → skip' kn vs) (h : chG n ops o kn vs run skip) : chG n ops o kn vs run' skip' := by
  unfold chG at h ⊢
  cases hg : o.guard with
  | none => simp only [hg] at h ⊢; exact hr _ _ h
  | some gw =>
    obtain ⟨g, want⟩ := gw
    simp only [hg] at h ⊢
    cases ht : dstAt ops g with
    | none => simp only [ht] at h
    | some t =>
      simp only [ht] at h ⊢
      cases hn : Nat.ble (t + 1) n with
      | false => simp only [hn] at h
      | true =>
        simp only [hn] at h ⊢
        split at h
        · cases want
          · exact hs _ _ (by simpa using h)
          · exact hr _ _ (by simpa using h)
        · cases want
          · exact hr _ _ (by simpa using h)
          · exact hs _ _ (by simpa using h)
        · exact hs _ _ h
        · cases want
          · exact kIf_mono (fun h => hs _ _ h) (fun h => hr _ _ h) h
          · exact kIf_mono (fun h => hr _ _ h) (fun h => hs _ _ h) h
theorem chRe_mono {P : Program} {n : Nat} {rd : Option Nat} {ops : Array Oper} {e : Env} {kn : KnI} {vs : Nat → Value} {W : World} {A A' : Prop} (hA : A → A') : ∀ (fs : List Nat), chRe P n rd ops e kn vs W A fs → chRe P n rd ops e kn vs W A' fs
  | [], h => hA h
  | f :: fs, h => by
    unfold chRe at h ⊢
    cases ho : ops[f]? with
    | none => simp only [ho] at h
    | some o =>
      simp only [ho] at h ⊢
      exact vcOpV_mono (fun _ v w h => ⟨h.of.1, chRe_mono hA fs h.of.2⟩) (fun _ _ h => h) (fun _ _ h => h) h
theorem chEff_mono {P : Program} {n : Nat} {rd : Option Nat} {ops : Array Oper} {e : Env} {X X' : Chain → World → Prop} {T : List (List Nat)} {rest rest' : KnI → List Nat → (Nat → Value) → World → Prop} (hX : ∀ ch w, X ch w → X' ch w) (hr : ∀ kn pend vs W, rest kn pend vs W → rest' kn pend vs W)
    {i : Nat} {pend : List Nat} {kn : KnI} {vs : Nat → Value} {W : World} (h : chEff P n rd ops e X T rest i pend kn vs W) : chEff P n rd ops e X' T rest' i pend kn vs W := by
  unfold chEff at h ⊢
  cases ho : ops[i]? with
  | none => simp only [ho] at h
  | some o =>
    simp only [ho] at h ⊢
    exact chG_mono (fun kn vs h => ⟨fun k => vcOpV_mono (fun b v w h => chRe_mono (hr _ _ _ _) _ h) (fun _ _ h => h) hX (h.of k)⟩) (fun kn vs h => hr _ _ _ _ h) h
theorem chGo_mono {P : Program} {n : Nat} {rd : Option Nat} {ops : Array Oper} {e : Env} {X X' : Chain → World → Prop} {T : List (List Nat)} {tail tail' : (Nat → Value) → World → Prop} (hX : ∀ ch w, X ch w → X' ch w) (ht : ∀ v w, tail v w → tail' v w) :
    ∀ (pl : Plan) (kn : KnI) (pend : List Nat) (vs : Nat → Value) (W : World), chGo P n rd ops e X T tail pl kn pend vs W → chGo P n rd ops e X' T tail' pl kn pend vs W
  | .done, kn, pend, vs, W, h => by unfold chGo at h ⊢; exact ⟨fun k => ht _ _ (h.of k)⟩
  | .q i p, kn, pend, vs, W, h => by
    unfold chGo at h ⊢
    cases ho : ops[i]? with
    | none => simp only [ho] at h
    | some o =>
      simp only [ho] at h ⊢
      exact chG_mono (fun kn vs h => vcOpV_mono (fun b v w h => chGo_mono hX ht p _ _ _ _ h) (fun _ _ h => h) (fun _ _ h => h) h) (fun kn vs h => chGo_mono hX ht p _ _ _ _ h) h
  | .e i p, kn, pend, vs, W, h => by
    unfold chGo at h ⊢
    exact chEff_mono hX (fun kn pend vs W h => chGo_mono hX ht p kn pend vs W h) h
  | .or i p r, kn, pend, vs, W, h => by
    unfold chGo at h ⊢
    exact ⟨chEff_mono hX (fun kn pend vs W h => chGo_mono hX ht p kn pend vs W h) h.of.1, chGo_mono hX ht r _ _ _ _ h.of.2⟩
end Go.L
namespace Go.L
open Go Go.RowKit

theorem setMany_off {n : Nat} (vals : List Value) {S : List Nat} : ∀ (ss : List Nat) (i : Nat) (e : Env) (e0 : Env), (∀ s ∈ ss, s ∈ S) → SameOff S e0 e → SameOff S e0 (setMany n e vals ss i)
  | [], _, _, _, _, h => h
  | s :: ss, i, _, _, hS, h => setMany_off vals ss (i + 1) _ _ (fun t ht => hS t (List.mem_cons_of_mem _ ht)) (h.set (hS s (List.mem_cons_self ..)) n _)

theorem slotsAt_sub {A : Ann} {id : Nat} {c : Code} : ∀ s ∈ slotsAt A id c, s ∈ writes c := by
  intro s hs
  simp only [slotsAt, List.mem_filter] at hs
  simpa using hs.2
theorem deadAt_sub {A : Ann} {id : Nat} {c : Code} : ∀ s ∈ deadAt A id c, s ∈ writes c := by
  intro s hs
  simp only [deadAt, List.mem_filter] at hs
  exact mem_nub.1 hs.1

theorem setDeps_off {n : Nat} {ops : Array Oper} {S : List Nat} (e0 e : Env) (vs : Nat → Value) (hS : ∀ t ∈ opsWrites ops.toList, t ∈ S) (h : SameOff S e0 e) : ∀ js, SameOff S e0 (setDeps n e ops vs js)
  | [] => h
  | j :: js => (setDeps_off e0 e vs hS h js).put (fun t ht => hS t (by
      simp only [dstAt] at ht
      cases ho : ops[j]? with
      | none => rw [ho] at ht; cases ht
      | some o =>
        rw [ho] at ht
        exact List.mem_filterMap.2 ⟨o, List.mem_of_getElem? (by simpa using ho), ht⟩)) n _

theorem guard_mem {ops : Array Oper} {S : List Nat} (hS : ∀ t ∈ opsWrites ops.toList, t ∈ S) {j t : Nat} (h : (ops[j]?).bind (·.dst) = some t) : t ∈ S := by
  cases ho : ops[j]? with
  | none => rw [ho] at h; cases h
  | some o =>
    rw [ho] at h
    exact hS t (List.mem_filterMap.2 ⟨o, List.mem_of_getElem? (by simpa using ho), h⟩)

theorem vcPar_mono {P : Program} {n : Nat} {rd : Option Nat} {ops : Array Oper} {Q Q' : QE} {S : List Nat} {e0 e : Env} {d : List Deferred} {w : World} (hS : ∀ t ∈ opsWrites ops.toList, t ∈ S)
    (hQ : ∀ ex e d w, SameOff S e0 e → Q ex e d w → Q' ex e d w) (hs : SameOff S e0 e) (h : vcPar P n rd ops Q e d w) : vcPar P n rd ops Q' e d w := by
  obtain ⟨Inv, h1, h6, h7⟩ := h.of
  refine ⟨Inv, h1, h6, fun SS vs W hI hd => ?_⟩
  refine vcOps_mono hQ _ (fun t ht => hS t ?_) (fun o _ j want t _ ht => guard_mem hS ht) _ _ _ _ (setDeps_off _ _ _ hS hs _) (h7 SS vs W hI hd)
  simp only [opsWrites, List.mem_filterMap] at ht ⊢
  obtain ⟨o, ho, ht⟩ := ht
  exact ⟨o, List.mem_of_mem_drop ho, ht⟩

theorem vcChn_mono {P : Program} {n : Nat} {rd : Option Nat} {ops : Array Oper} {Q Q' : QE} {S : List Nat} {e0 e : Env} {d : List Deferred} {w : World} {pl : Plan} (hS : ∀ t ∈ opsWrites ops.toList, t ∈ S)
    (hQ : ∀ ex e d w, SameOff S e0 e → Q ex e d w → Q' ex e d w) (hs : SameOff S e0 e) (h : vcChn P n rd ops Q pl e d w) : vcChn P n rd ops Q' pl e d w := by
  have hX : ∀ ch w, (∀ ds : List Value, Q (.panic ch) (setMany n e ds (nub (opsWrites ops.toList)) 0) d w) → (∀ ds : List Value, Q' (.panic ch) (setMany n e ds (nub (opsWrites ops.toList)) 0) d w) := fun ch w hx ds =>
    hQ _ _ _ _ (setMany_off _ _ _ _ _ (fun s hs => hS s (mem_nub.1 hs)) hs) (hx ds)
  have hT : ∀ vs W, chTail P n rd ops Q e d (tailGo ops ops.size) vs W → chTail P n rd ops Q' e d (tailGo ops ops.size) vs W := by
    intro vs W h7
    refine vcOps_mono hQ _ (fun t ht => hS t ?_) (fun o _ j want t _ ht => guard_mem hS ht) _ _ _ _ (setDeps_off _ _ _ hS hs _) h7
    simp only [opsWrites, List.mem_filterMap] at ht ⊢
    obtain ⟨o, ho, ht⟩ := ht
    exact ⟨o, List.mem_of_mem_drop ho, ht⟩
  refine ⟨h.of.1, ?_⟩
  have h2 := h.of.2
  cases hm : pl.many with
  | false => rw [hm] at h2; exact chGo_mono hX hT _ _ _ _ _ h2
  | true => rw [hm] at h2; exact ⟨chGo_mono hX (fun vs W h => hT _ _ h) _ _ _ _ _ h2.of⟩

theorem inBlk_mono {id : Nat} {Q Q' : QE} {S : List Nat} {e0 : Env} (hQ : ∀ ex e d w, SameOff S e0 e → Q ex e d w → Q' ex e d w) : ∀ ex e d w, SameOff S e0 e → inBlk id Q ex e d w → inBlk id Q' ex e d w := by
  intro ex e' d' w' hs' h'
  cases ex with
  | exit i =>
    simp only [inBlk] at h' ⊢
    split at h'
    · rename_i hi; rw [if_pos hi]; exact hQ _ _ _ _ hs' h'
    · rename_i hi; rw [if_neg hi]; exact hQ _ _ _ _ hs' h'
  | _ => exact hQ _ _ _ _ hs' h'

theorem then_mono {id : Nat} {K : Env → List Deferred → World → Prop} {Q Q' : QE} {S : List Nat} {e0 : Env} (hQ : ∀ ex e d w, SameOff S e0 e → Q ex e d w → Q' ex e d w) :
    ∀ ex e d w, SameOff S e0 e → thenQ K (inBlk id Q) ex e d w → thenQ K (inBlk id Q') ex e d w := by
  intro ex e' d' w' hs' h'
  cases ex with
  | normal => exact h'
  | exit i => exact inBlk_mono (id := id) hQ (.exit i) _ _ _ hs' h'
  | goto i => exact inBlk_mono (id := id) hQ (.goto i) _ _ _ hs' h'
  | ret => exact inBlk_mono (id := id) hQ .ret _ _ _ hs' h'
  | panic i => exact inBlk_mono (id := id) hQ (.panic i) _ _ _ hs' h'
  | outgrown => exact inBlk_mono (id := id) hQ .outgrown _ _ _ hs' h'

theorem loop_mono {P : Program} {n : Nat} {A : Ann} {c : Code} {id : Nat} {rd : Option Nat} {Q Q' : QE} {S : List Nat} {e0 e : Env} {d : List Deferred} {w : World}
    (ih : ∀ (rd : Option Nat) (Q Q' : QE) (S : List Nat) (e0 : Env), (∀ t ∈ writes c, t ∈ S) → (∀ ex e d w, SameOff S e0 e → Q ex e d w → Q' ex e d w) → ∀ e d w, SameOff S e0 e → vcC P n rd A c Q e d w → vcC P n rd A c Q' e d w)
    (hw : ∀ t ∈ writes (.block id (.loop c)), t ∈ S) (hQ : ∀ ex e d w, SameOff S e0 e → Q ex e d w → Q' ex e d w) (hs : SameOff S e0 e) (h : vcC P n rd A (.block id (.loop c)) Q e d w) :
    vcC P n rd A (.block id (.loop c)) Q' e d w := by
  have hw' : ∀ t ∈ writes c, t ∈ S := fun t ht => hw t (by simpa [writes] using ht)
  have hoff : ∀ cs ds, SameOff S e0 (setMany n (setMany n e ds (deadAt A id c) 0) cs (slotsAt A id c) 0) := fun cs ds =>
    setMany_off _ _ _ _ _ (fun s hs => hw' s (slotsAt_sub s hs)) (setMany_off _ _ _ _ _ (fun s hs => hw' s (deadAt_sub s hs)) hs)
  unfold vcC at h ⊢
  split at h
  · obtain ⟨I, μ, h0, hr⟩ := h.of
    refine ⟨I, μ, h0, ?_⟩
    exact ( fun cs ds w' hI => ih rd _ _ S e0 hw' (then_mono hQ) _ _ _ (hoff cs ds) (hr cs ds w' hI))
  · obtain ⟨I, μ, h0, hr⟩ := h.of
    refine ⟨I, μ, h0, ?_⟩
    exact ( fun cs ds d' w' hI => ih rd _ _ S e0 hw' (then_mono hQ) _ _ _ (hoff cs ds) (hr cs ds d' w' hI))

theorem vcC_mono {P : Program} {n : Nat} {A : Ann} : ∀ (c : Code) (rd : Option Nat) (Q Q' : QE) (S : List Nat) (e0 : Env), (∀ t ∈ writes c, t ∈ S) →
    (∀ ex e d w, SameOff S e0 e → Q ex e d w → Q' ex e d w) → ∀ e d w, SameOff S e0 e → vcC P n rd A c Q e d w → vcC P n rd A c Q' e d w
  | .skip, rd, Q, Q', S, e0, _, hQ, e, d, w, hs, h => by unfold vcC at h ⊢; exact hQ _ _ _ _ hs h
  | .region _ ops false, rd, Q, Q', S, e0, hw, hQ, e, d, w, hs, h => by
    unfold vcC at h ⊢
    exact vcOps_mono hQ _ (by simpa [writes] using hw) (fun o _ j want t _ ht => guard_mem (by simpa [writes] using hw) ht) _ _ _ _ hs h
  | .region id ops true, rd, Q, Q', S, e0, hw, hQ, e, d, w, hs, h => by
    unfold vcC at h ⊢
    refine ⟨h.of.1, ?_⟩
    have h2 := h.of.2
    split at h2
    · exact vcChn_mono (by simpa [writes] using hw) hQ hs h2
    split at h2
    · exact vcPar_mono (by simpa [writes] using hw) hQ hs h2
    · refine vcOps_mono ?_ _ (by simpa [writes] using hw) (fun o _ j want t _ ht => guard_mem (by simpa [writes] using hw) ht) _ _ _ _ hs h2
      intro ex e d _ hs h
      cases ex <;> first | exact ⟨fun n => hQ _ _ _ _ hs (h.of n)⟩ | exact h
  | .seq x y, rd, Q, Q', S, e0, hw, hQ, e, d, w, hs, h => by
    have hwx : ∀ t ∈ writes x, t ∈ S := fun t ht => hw t (by simp [writes, ht])
    have hwy : ∀ t ∈ writes y, t ∈ S := fun t ht => hw t (by simp [writes, ht])
    unfold vcC at h ⊢
    split at h
    · refine vcC_mono x rd _ _ S e0 hwx ?_ e d w hs h
      intro ex e' d' w' hs' h'
      cases ex <;> first
        | exact vcC_mono y rd _ _ S e0 hwy hQ e' d' w' hs' h'
        | exact hQ _ _ _ _ hs' h'
    · split at h
      · refine ⟨vcC_mono x rd _ _ S e0 hwx ?_ e d w hs h.of⟩
        intro ex e' d' w' hs' h'
        cases ex <;> first
          | exact fun ds => vcC_mono y rd _ _ S e0 hwy hQ _ _ _ (setMany_off _ _ _ _ _ (fun s hs => hwx s (slotsAt_sub s hs)) (setMany_off _ _ _ _ _ (fun s hs => hwx s (deadAt_sub s hs)) hs)) (h' ds)
          | exact hQ _ _ _ _ hs' h'
      refine ⟨vcC_mono x rd _ _ S e0 hwx ?_ e d w hs h.of⟩
      intro ex e' d' w' hs' h'
      cases ex <;> first
        | exact ⟨h'.of.1, fun ds => vcC_mono y rd _ _ S e0 hwy hQ _ _ _ (setMany_off _ _ _ _ _ (fun s hs => hwx s (slotsAt_sub s hs)) (setMany_off _ _ _ _ _ (fun s hs => hwx s (deadAt_sub s hs)) hs)) (h'.of.2 ds)⟩
        | exact hQ _ _ _ _ hs' h'
  | .cond q x y, rd, Q, Q', S, e0, hw, hQ, e, d, w, hs, h => by
    unfold vcC at h ⊢
    exact kIf_mono (vcC_mono x rd _ _ S e0 (fun t ht => hw t (by simp [writes, ht])) hQ e d w hs) (vcC_mono y rd _ _ S e0 (fun t ht => hw t (by simp [writes, ht])) hQ e d w hs) h
  | .block id (.loop c), rd, Q, Q', S, e0, hw, hQ, e, d, w, hs, h =>
    loop_mono (fun rd Q Q' S e0 hw hQ e d w hs h => vcC_mono c rd Q Q' S e0 hw hQ e d w hs h) hw hQ hs h
  | .block id c, rd, Q, Q', S, e0, hw, hQ, e, d, w, hs, h => by
    have hmon := inBlk_mono (id := id) hQ
    have hw' : ∀ t ∈ writes c, t ∈ S := fun t ht => hw t (by simpa [writes] using ht)
    cases c with
    | loop c' => exact loop_mono (fun rd Q Q' S e0 hw hQ e d w hs h => vcC_mono c' rd Q Q' S e0 hw hQ e d w hs h) hw hQ hs h
    | skip => unfold vcC at h ⊢; exact vcC_mono .skip rd _ _ S e0 hw' hmon e d w hs h
    | region i ops dr => unfold vcC at h ⊢; exact vcC_mono (.region i ops dr) rd _ _ S e0 hw' hmon e d w hs h
    | seq x y => unfold vcC at h ⊢; exact vcC_mono (.seq x y) rd _ _ S e0 hw' hmon e d w hs h
    | cond q x y => unfold vcC at h ⊢; exact vcC_mono (.cond q x y) rd _ _ S e0 hw' hmon e d w hs h
    | block i x => unfold vcC at h ⊢; exact vcC_mono (.block i x) rd _ _ S e0 hw' hmon e d w hs h
    | rangeFunc g ps x y => unfold vcC at h ⊢; exact vcC_mono (.rangeFunc g ps x y) rd _ _ S e0 hw' hmon e d w hs h
    | exit i => unfold vcC at h ⊢; exact vcC_mono (.exit i) rd _ _ S e0 hw' hmon e d w hs h
    | scope x => unfold vcC at h ⊢; exact vcC_mono (.scope x) rd _ _ S e0 hw' hmon e d w hs h
    | label i => unfold vcC at h ⊢; exact vcC_mono (.label i) rd _ _ S e0 hw' hmon e d w hs h
    | goto i => unfold vcC at h ⊢; exact vcC_mono (.goto i) rd _ _ S e0 hw' hmon e d w hs h
    | ret => unfold vcC at h ⊢; exact vcC_mono .ret rd _ _ S e0 hw' hmon e d w hs h
    | refuse s => unfold vcC at h ⊢; exact vcC_mono (.refuse s) rd _ _ S e0 hw' hmon e d w hs h
  | .loop _, _, _, _, _, _, _, _, _, _, _, _, h => by unfold vcC at h; exact h.elim
  | .rangeFunc g ps x y, rd, Q, Q', S, e0, hw, hQ, e, d, w, hs, h => by
    unfold vcC at h ⊢
    rcases h.of with ⟨⟨h1, n, xs, J, Z, h2, h3, h4, h5, h6, h7, h8, h9, h10, h11⟩⟩ | ⟨⟨h1, n, xs, ι, J, Z, e0', h2, h3, h4, h5, h5a, h5b, h6, h7, h8, h9, h10, h11⟩⟩
    · refine ⟨.inl ⟨?_⟩⟩
      exact ⟨h1, n, xs, J, Z, h2, h3, h4, h5, h6, h7, fun D W a b c => hQ _ _ _ _ hs (h8 D W a b c), fun D W a b c => (by have h9' := h9 D W a b c; revert h9'; cases hasRet y <;> intro h9' <;> first | exact hQ _ _ _ _ hs h9' | exact h9'.elim), fun id D W a b c => (by have h10' := h10 id D W a b c; revert h10'; cases (exitsOf y).isEmpty <;> intro h10' <;> first | exact kX_mono (fun h => hQ _ _ _ _ hs h) h10' | exact h10'.elim), fun ch D W a b c => hQ _ _ _ _ hs (h11 ch D W a b c)⟩
    · refine ⟨.inr ⟨?_⟩⟩
      exact ⟨h1, n, xs, ι, J, Z, e0', h2, h3, h4, h5, h5a, h5b, h6, h7, fun l lo ee W a => hQ _ _ _ _ hs (h8 l lo ee W a), fun l lo ee W a => (by have h9' := h9 l lo ee W a; revert h9'; cases hasRet y <;> intro h9' <;> first | exact hQ _ _ _ _ hs h9' | exact h9'.elim), fun id l lo ee W a => (by have h10' := h10 id l lo ee W a; revert h10'; cases (exitsOf y).isEmpty <;> intro h10' <;> first | exact kX_mono (fun h => hQ _ _ _ _ hs h) h10' | exact h10'.elim), fun ch l lo ee W a => hQ _ _ _ _ hs (h11 ch l lo ee W a)⟩
  | .exit id, rd, Q, Q', S, e0, _, hQ, e, d, w, hs, h => by unfold vcC at h ⊢; exact hQ _ _ _ _ hs h
  | .scope c, rd, Q, Q', S, e0, hw, hQ, e, d, w, hs, h => by
    unfold vcC at h ⊢
    refine vcC_mono c rd _ _ S e0 (by simpa [writes] using hw) ?_ e d w hs h
    intro ex e' d' w' hs' h'
    cases ex <;> first | exact h'.elim | exact hQ _ _ _ _ hs' h'
  | .label _, rd, Q, Q', S, e0, _, hQ, e, d, w, hs, h => by unfold vcC at h ⊢; exact hQ _ _ _ _ hs h
  | .goto _, rd, Q, Q', S, e0, _, hQ, e, d, w, hs, h => by unfold vcC at h ⊢; exact hQ _ _ _ _ hs h
  | .ret, rd, Q, Q', S, e0, _, hQ, e, d, w, hs, h => by unfold vcC at h ⊢; exact hQ _ _ _ _ hs h
  | .refuse _, _, _, _, _, _, _, _, _, _, _, _, h => by unfold vcC at h; exact h.elim

theorem setMany_back {n : Nat} {A : Ann} {c : Code} {id : Nat} {e x : Env} (he : EnvOk n e) (hx : EnvOk n x) (hs : SameOff (writes c) e x) :
    setMany n (setMany n e ((deadAt A id c).map (fun s => x s)) (deadAt A id c) 0) ((slotsAt A id c).map (fun s => x s)) (slotsAt A id c) 0 = x := by
  funext t
  have hget : ∀ (ss : List Nat) k (h : k < ss.length), (ss.map (fun s => x s)).getD (0 + k) undef = x ss[k] := fun ss k h => by
    simp [h]
  rw [setMany_get _ x t _ _ _ (hget _), setMany_get _ x t _ _ _ (hget _)]
  by_cases hn : t < n
  · by_cases h1 : t ∈ slotsAt A id c
    · rw [if_pos ⟨h1, hn⟩]
    · rw [if_neg (fun h => h1 h.1)]
      by_cases h2 : t ∈ deadAt A id c
      · rw [if_pos ⟨h2, hn⟩]
      · rw [if_neg (fun h => h2 h.1)]
        refine (hs t fun hw => h2 ?_).symm
        simp only [deadAt, List.mem_filter]
        exact ⟨mem_nub.2 hw, by simpa using h1⟩
  · rw [if_neg (fun h => hn h.2), if_neg (fun h => hn h.2), he t (by omega), hx t (by omega)]

theorem toQ_then (n : Nat) (K : Env → List Deferred → World → Prop) (Q : QE) : toQ n (thenQ K Q) = Exit.then (fun a w => a.tmps.size = n ∧ K (envOf a) a.defers w) (toQ n Q) := by
  funext ex a w; cases ex <;> rfl
theorem toQ_blk (n : Nat) (id : Nat) (Q : QE) : toQ n (inBlk id Q) = Exit.inBlock id (toQ n Q) := by
  funext ex a w; cases ex <;> try rfl
  simp only [toQ, inBlk, Exit.inBlock]
  split <;> rfl

theorem wpM_loop' {P : Program} {n : Nat} {A : Ann} {c : Code} {id : Nat} {rd : Option Nat} {Q : QE} {e : Env} {d : List Deferred} {w : World} (hok : EnvOk n e)
    (ih : ∀ Q e d w, EnvOk n e → vcC P n rd A c Q e d w → wpM P rd c (toQ n Q) (act n e d) w) (h : vcC P n rd A (.block id (.loop c)) Q e d w) : wpM P rd (.block id (.loop c)) (toQ n Q) (act n e d) w := by
  unfold vcC at h
  split at h
  · obtain ⟨I, μ, h0, hr⟩ := h.of
    refine wpM_block (wpM_loop (fun a w => a.tmps.size = n ∧ SameOff (writes c) e (envOf a) ∧ a.defers = d ∧ I ((slotsAt A id c).map (fun s => envOf a s)) w)
      (fun a w => μ ((slotsAt A id c).map (fun s => envOf a s)) w) ⟨act_size n e d, by rw [envOf_act hok]; exact SameOff.refl _ e, rfl, by rw [envOf_act hok]; exact h0⟩ ?_)
    rintro a w ⟨hsz, hs, hd, hI⟩
    have hbody := hr _ ((deadAt A id c).map (fun s => envOf a s)) w hI
    simp only [] at hbody
    rw [setMany_back hok (envOf_ok hsz) hs] at hbody
    have h2 := vcC_mono (A := A) c rd _ (thenQ (fun e2 d2 w2 => SameOff (writes c) e e2 ∧ d2 = d ∧ I ((slotsAt A id c).map (fun s => e2 s)) w2 ∧
      μ ((slotsAt A id c).map (fun s => e2 s)) w2 < μ ((slotsAt A id c).map (fun s => envOf a s)) w) (inBlk id Q)) (writes c) e (fun t h => h) (by
        intro ex e2 d2 w2 hs2 h
        cases ex with
        | normal => exact ⟨hs2, h.of.1, h.of.2⟩
        | _ => exact h) _ _ _ hs hbody
    have h3 := ih _ _ _ _ (envOf_ok hsz) h2
    rw [← hd, act_self hsz, toQ_then, toQ_blk] at h3
    refine wpM_mono h3 ?_
    intro ex a2 w2 h
    cases ex with
    | normal => exact ⟨⟨h.1, h.2.1, h.2.2.1.trans hd, h.2.2.2.1⟩, h.2.2.2.2⟩
    | _ => exact h
  · obtain ⟨I, μ, h0, hr⟩ := h.of
    refine wpM_block (wpM_loop (fun a w => a.tmps.size = n ∧ SameOff (writes c) e (envOf a) ∧ I ((slotsAt A id c).map (fun s => envOf a s)) a.defers w)
      (fun a w => μ ((slotsAt A id c).map (fun s => envOf a s)) a.defers w) ⟨act_size n e d, by rw [envOf_act hok]; exact SameOff.refl _ e, by rw [envOf_act hok]; exact h0⟩ ?_)
    rintro a w ⟨hsz, hs, hI⟩
    have hbody := hr _ ((deadAt A id c).map (fun s => envOf a s)) a.defers w hI
    simp only [] at hbody
    rw [setMany_back hok (envOf_ok hsz) hs] at hbody
    have h2 := vcC_mono (A := A) c rd _ (thenQ (fun e2 d2 w2 => SameOff (writes c) e e2 ∧ I ((slotsAt A id c).map (fun s => e2 s)) d2 w2 ∧
      μ ((slotsAt A id c).map (fun s => e2 s)) d2 w2 < μ ((slotsAt A id c).map (fun s => envOf a s)) a.defers w) (inBlk id Q)) (writes c) e (fun t h => h) (by
        intro ex e2 d2 w2 hs2 h
        cases ex with
        | normal => exact ⟨hs2, h⟩
        | _ => exact h) _ _ _ hs hbody
    have h3 := ih _ _ _ _ (envOf_ok hsz) h2
    rw [act_self hsz, toQ_then, toQ_blk] at h3
    refine wpM_mono h3 ?_
    intro ex a2 w2 h
    cases ex with
    | normal => exact ⟨⟨h.1, h.2.1, h.2.2.1⟩, h.2.2.2⟩
    | _ => exact h

theorem vcC_sound {P : Program} {n : Nat} {A : Ann} : ∀ (c : Code) (rd : Option Nat) (Q : QE) (e : Env) (d : List Deferred) (w : World), EnvOk n e → vcC P n rd A c Q e d w → wpM P rd c (toQ n Q) (act n e d) w
  | .skip, rd, Q, e, d, w, ok, h => by unfold vcC at h; exact wpM_skip (by rw [toQ_act ok]; exact h)
  | .region _ ops false, rd, Q, e, d, w, ok, h => by unfold vcC at h; exact vcOps_region ok h
  | .region id ops true, rd, Q, e, d, w, ok, h => by
    unfold vcC at h
    have h1 := h.of.1
    simp only [Bool.and_eq_true] at h1
    have h2 := h.of.2
    split at h2
    · exact vcChn_sound ok h1.1 h1.2 h2
    split at h2
    · exact vcPar_sound ok h1.1 h1.2 h2
    · exact vcQuiet_sound ok h1.1 h1.2 h2
  | .seq x y, rd, Q, e, d, w, ok, h => by
    unfold vcC at h
    split at h
    · have := vcC_sound x rd _ e d w ok h
      rw [toQ_then] at this
      refine wpM_seq (wpM_mono this ?_)
      intro ex a w h
      cases ex with
      | normal => have h2 := vcC_sound y rd _ _ _ _ (envOf_ok h.1) h.2; rw [act_self h.1] at h2; exact h2
      | _ => exact h
    · split at h
      · have h1 := vcC_mono (A := A) x rd _ (thenQ (fun e2 d2 w2 => SameOff (writes x) e e2 ∧ ∀ ds : List Value, vcC P n rd A y Q (setMany n (setMany n e ds (deadAt A (jid y) x) 0) ((slotsAt A (jid y) x).map (fun s => e2 s)) (slotsAt A (jid y) x) 0) d2 w2) Q) (writes x) e (fun t h => h) (by
          intro ex e2 d2 w2 hs2 h
          cases ex with
          | normal => exact ⟨hs2, h⟩
          | _ => exact h) _ _ _ (SameOff.refl _ e) h.of
        have := vcC_sound x rd _ e d w ok h1
        rw [toQ_then] at this
        refine wpM_seq (wpM_mono this ?_)
        intro ex a w h
        cases ex with
        | normal =>
          obtain ⟨hsz, hs, h2⟩ := h
          have h2 := h2 ((deadAt A (jid y) x).map (fun s => envOf a s))
          rw [setMany_back ok (envOf_ok hsz) hs] at h2
          have h2 := vcC_sound y rd _ _ _ _ (envOf_ok hsz) h2
          rw [act_self hsz] at h2
          exact h2
        | _ => exact h
      have h1 := vcC_mono (A := A) x rd _ (thenQ (fun e2 d2 w2 => SameOff (writes x) e e2 ∧ d2 = d ∧ ∀ ds : List Value, vcC P n rd A y Q (setMany n (setMany n e ds (deadAt A (jid y) x) 0) ((slotsAt A (jid y) x).map (fun s => e2 s)) (slotsAt A (jid y) x) 0) d w2) Q) (writes x) e (fun t h => h) (by
        intro ex e2 d2 w2 hs2 h
        cases ex with
        | normal => exact ⟨hs2, h.of.1, h.of.2⟩
        | _ => exact h) _ _ _ (SameOff.refl _ e) h.of
      have := vcC_sound x rd _ e d w ok h1
      rw [toQ_then] at this
      refine wpM_seq (wpM_mono this ?_)
      intro ex a w h
      cases ex with
      | normal =>
        obtain ⟨hsz, hs, hd, h2⟩ := h
        have h2 := h2 ((deadAt A (jid y) x).map (fun s => envOf a s))
        rw [setMany_back ok (envOf_ok hsz) hs] at h2
        have h2 := vcC_sound y rd _ _ _ _ (envOf_ok hsz) h2
        rw [← hd, act_self hsz] at h2
        exact h2
      | _ => exact h
  | .cond q x y, rd, Q, e, d, w, ok, h => by
    unfold vcC at h
    rcases kIf_elim h with ⟨hq, h⟩ | ⟨hq, h⟩
    · exact wpM_cond (t := true) (by rw [act_eval ok]; exact hq) (vcC_sound x rd Q e d w ok h)
    · exact wpM_cond (t := false) (by rw [act_eval ok]; exact hq) (vcC_sound y rd Q e d w ok h)
  | .block id (.loop c), rd, Q, e, d, w, ok, h => wpM_loop' ok (fun Q e d w ok h => vcC_sound c rd Q e d w ok h) h
  | .block id .skip, rd, Q, e, d, w, ok, h => by unfold vcC at h; refine wpM_block ?_; rw [← toQ_blk]; exact vcC_sound .skip rd _ e d w ok h
  | .block id (.region i ops dr), rd, Q, e, d, w, ok, h => by unfold vcC at h; refine wpM_block ?_; rw [← toQ_blk]; exact vcC_sound (.region i ops dr) rd _ e d w ok h
  | .block id (.seq x y), rd, Q, e, d, w, ok, h => by unfold vcC at h; refine wpM_block ?_; rw [← toQ_blk]; exact vcC_sound (.seq x y) rd _ e d w ok h
  | .block id (.cond q x y), rd, Q, e, d, w, ok, h => by unfold vcC at h; refine wpM_block ?_; rw [← toQ_blk]; exact vcC_sound (.cond q x y) rd _ e d w ok h
  | .block id (.block i x), rd, Q, e, d, w, ok, h => by unfold vcC at h; refine wpM_block ?_; rw [← toQ_blk]; exact vcC_sound (.block i x) rd _ e d w ok h
  | .block id (.rangeFunc g ps x y), rd, Q, e, d, w, ok, h => by unfold vcC at h; refine wpM_block ?_; rw [← toQ_blk]; exact vcC_sound (.rangeFunc g ps x y) rd _ e d w ok h
  | .block id (.exit i), rd, Q, e, d, w, ok, h => by unfold vcC at h; refine wpM_block ?_; rw [← toQ_blk]; exact vcC_sound (.exit i) rd _ e d w ok h
  | .block id (.scope x), rd, Q, e, d, w, ok, h => by unfold vcC at h; refine wpM_block ?_; rw [← toQ_blk]; exact vcC_sound (.scope x) rd _ e d w ok h
  | .block id (.label i), rd, Q, e, d, w, ok, h => by unfold vcC at h; refine wpM_block ?_; rw [← toQ_blk]; exact vcC_sound (.label i) rd _ e d w ok h
  | .block id (.goto i), rd, Q, e, d, w, ok, h => by unfold vcC at h; refine wpM_block ?_; rw [← toQ_blk]; exact vcC_sound (.goto i) rd _ e d w ok h
  | .block id .ret, rd, Q, e, d, w, ok, h => by unfold vcC at h; refine wpM_block ?_; rw [← toQ_blk]; exact vcC_sound .ret rd _ e d w ok h
  | .block id (.refuse s), rd, Q, e, d, w, ok, h => by unfold vcC at h; refine wpM_block ?_; rw [← toQ_blk]; exact vcC_sound (.refuse s) rd _ e d w ok h
  | .loop _, _, _, _, _, _, _, h => by unfold vcC at h; exact h.elim
  | .rangeFunc g ps x y, rd, Q, e, d, w, ok, h => by
    unfold vcC at h
    exact kRange_sound ok (fun l Q e d w ok h => vcC_sound x (some l) Q e d w ok h) (fun l Q e d w ok h => vcC_sound y (some l) Q e d w ok h) h
  | .exit id, rd, Q, e, d, w, ok, h => by unfold vcC at h; exact wpM_exit (by rw [toQ_act ok]; exact h)
  | .scope c, rd, Q, e, d, w, ok, h => by
    unfold vcC at h
    refine wpM_mono (wpM_scope (fun l a w h => h.2) (vcC_sound c rd _ e d w ok h)) ?_
    intro ex a w h
    cases ex <;> first | exact h.2.elim | exact h
  | .label _, rd, Q, e, d, w, ok, h => by unfold vcC at h; exact wpM_label (by rw [toQ_act ok]; exact h)
  | .goto _, rd, Q, e, d, w, ok, h => by unfold vcC at h; exact wpM_goto (by rw [toQ_act ok]; exact h)
  | .ret, rd, Q, e, d, w, ok, h => by unfold vcC at h; exact wpM_ret (by rw [toQ_act ok]; exact h)
  | .refuse _, _, _, _, _, _, _, h => by unfold vcC at h; exact h.elim
end Go.L
namespace Go.L
open Go Go.RowKit

theorem results_eq (fn : Func) (tmps : Array Value) : results fn tmps = resSem (fn.results.toList.map (rvOf (fun t => tmps.getD t undef))) := by
  unfold results resSem
  have h : ∀ (l : List ResultVar), (l.toArray.mapM fun
      | .tmp t => pure (tmps.getD t undef)
      | .cell a t => do loadVar t (← asAddr (tmps.getD a undef)) : Sem (Array Value)) = ((l.map (rvOf (fun t => tmps.getD t undef))).toArray.mapM fun
      | .val v => pure v
      | .cell a t => do loadVar t (← asAddr a)) := by
    intro l
    rw [Array.mapM_eq_mapM_toList, Array.mapM_eq_mapM_toList]
    simp only [List.toList_toArray]
    congr 1
    rw [List.mapM_map]
    congr 1
    funext x
    cases x <;> rfl
  have := h fn.results.toList
  simp only [Array.toArray_toList] at this
  exact congrArg (fun m : Sem (Array Value) => (do let vs ← m; pure (if h : vs.size = 1 then vs[0] else .tuple vs) : Sem Value)) this

theorem retK_run {P : Program} {rs : List RV} {R : Ending → World → Prop} {w : World} (h : RetK P rs R w) : ∃ v, (resSem rs).run P w = .ok v w ∧ R (.returned v) w := by
  unfold RetK at h
  split at h
  · exact ⟨_, by simp [resSem], h⟩
  · exact ⟨_, by simp [resSem], h⟩
  · exact ⟨_, by simp [resSem], h⟩
  · exact ⟨_, by simp [resSem], h⟩
  · exact h

theorem Lv_sound {P : Program} {fn : Func} {tmps : Array Value} {R : Ending → World → Prop} : ∀ (ds : List Deferred) (u : FrameMode) (w : World) (fr : Frame)
    (cs : List Frame), fr.mode = u → fr.defers = ds → fr.tmps = tmps → P.funcs[fr.fn]? = some fn → fr.kind = .normal → Lv P (fn.results.toList.map (rvOf (fun t => tmps.getD t undef))) R ds u w →
    ∃ e w' fr', R e w' ∧ Comes P (lone fr cs w) (lone fr' cs w') e ∧ fr'.fn = fr.fn ∧ fr'.leaving P w' e := by
  intro ds
  induction ds with
  | nil =>
    intro u w fr cs hu hd ht hf hk h
    cases u with
    | run => exact h.elim
    | returning =>
      obtain ⟨v, hr, hR⟩ := retK_run h
      exact ⟨.returned v, w, fr, hR, Steps.refl P _, rfl, hu, hd, hk, fn, hf, by rw [ht, results_eq]; exact hr⟩
    | panicking chain => exact ⟨.panicked chain, w, fr, h, Steps.refl P _, rfl, hu, hd, fn, hf⟩
  | cons d ds ih =>
    intro u w fr cs hu hd ht hf hk h
    have hur : u ≠ .run := by
      rintro rfl
      simp only [Lv] at h
    obtain ⟨tgt, dargs⟩ := d
    have hcol : ∀ D, tgt = .collected D → ∃ e w' fr', R e w' ∧ Comes P (lone fr cs w) (lone fr' cs w') e ∧ fr'.fn = fr.fn ∧ fr'.leaving P w' e := by
      rintro D rfl
      have hl : w.heap[D]? = some (.deferred (some [])) ∧ Lv P (fn.results.toList.map (rvOf (fun t => tmps.getD t undef))) R ds u (w.putObj D (.deferred none)) := by
        cases u <;> first | exact absurd rfl hur | exact h
      obtain ⟨hD, h⟩ := hl
      have h1 := step_collected (P := P) (cs := cs) (hu ▸ hur) hd rfl (run_takeDeferred hD)
      obtain ⟨e', w'', fr', hR', hs', hfn', hl'⟩ := ih u _ { fr with defers := [] ++ ds } cs hu rfl ht hf hk h
      exact ⟨e', w'', fr', hR', Comes.of_steps (.one h1) hs', hfn', hl'⟩
    have hfun : ∀ f cap, tgt = .fn (.func f) cap → ∃ e w' fr', R e w' ∧ Comes P (lone fr cs w) (lone fr' cs w') e ∧ fr'.fn = fr.fn ∧ fr'.leaving P w' e := by
      rintro f cap rfl
      have hl : cap = #[] ∧ (∀ args w, (callFunc f args).run P w = .ok (.enter f args) w) ∧ CallsD P f dargs u w fun
          | .returned _, u', w' => Lv P (fn.results.toList.map (rvOf (fun t => tmps.getD t undef))) R ds (settle u') w'
          | .panicked ch, u', w' => Lv P (fn.results.toList.map (rvOf (fun t => tmps.getD t undef))) R ds (raised u' ch) w'
          | .outgrown, _, _ => False := by
        cases u <;> first | exact absurd rfl hur | exact h
      obtain ⟨rfl, hcf, hcall⟩ := hl
      have hinv : (invoke (.fn (.func f) #[]) dargs).run P w = .ok (.enter f dargs) w := by
        simp only [invoke]
        rw [Array.append_empty]
        exact hcf dargs w
      have h1 := step_defer (P := P) (cs := cs) (hu ▸ hur) hd rfl hinv
      obtain ⟨e, u2, w2, frX, hR, hsteps, hkX, hgo⟩ := hcall { fr with defers := ds } cs hu
      cases e with
      | outgrown => exact hR.elim
      | returned v =>
        have h2 := step_going_returned (c := { { fr with defers := ds } with mode := u2 }) (cs := cs) hkX hgo
        obtain ⟨e', w'', fr', hR', hs', hfn', hl'⟩ := ih (settle u2) w2 { { { fr with defers := ds } with mode := u2 } with mode := settle u2 } cs rfl rfl ht hf hk hR
        exact ⟨e', w'', fr', hR', Comes.of_steps (.head h1 (Steps.trans hsteps (.one h2))) hs', hfn', hl'⟩
      | panicked chain =>
        have h2 := step_going_panicked (c := { { fr with defers := ds } with mode := u2 }) (cs := cs) hgo
        obtain ⟨e', w'', fr', hR', hs', hfn', hl'⟩ := ih (raised u2 chain) w2 { { { fr with defers := ds } with mode := u2 } with mode := raised u2 chain } cs rfl rfl ht hf hk hR
        exact ⟨e', w'', fr', hR', Comes.of_steps (.head h1 (Steps.trans hsteps (.one h2))) hs', hfn', hl'⟩
    cases tgt with
    | collected D => exact hcol D rfl
    | fn fv cap =>
      cases fv with
      | func f => exact hfun f cap rfl
      | _ => cases u <;> first | exact absurd rfl hur | exact h.elim
    | _ => cases u <;> first | exact absurd rfl hur | exact h.elim

theorem vcG_sound {P : Program} {A : Ann} {n : Nat} {r x y : Code} {l : Nat} {Q : QE} {e : Env} {d : List Deferred} {w : World} (ok : EnvOk n e) (hf : findLabel x l = none) (hn : ∀ l e d w, ¬ Q (.goto l) e d w)
    (h : vcC P n none A r (thenQ (vcC P n none A x (goQ l (vcC P n none A y (noGo Q)) Q)) Q) e d w) : wpM P none (.seq r (.scope (.seq x (.seq (.label l) y)))) (toQ n Q) (act n e d) w := by
  have h1 := vcC_sound r none _ e d w ok h
  rw [toQ_then] at h1
  refine wpM_seq (wpM_mono h1 ?_)
  intro ex a w h
  cases ex with
  | normal =>
    obtain ⟨hsz, h⟩ := h
    have h2 := vcC_sound x none _ _ _ _ (envOf_ok hsz) h
    rw [act_self hsz] at h2
    refine wpM_scope_goto hf (fun l a w h => hn _ _ _ _ h.2) (wpM_mono h2 ?_)
    intro ex a w h
    have hy : a.tmps.size = n → vcC P n none A y (noGo Q) (envOf a) a.defers w → wpM P none y (toQ n Q) a w := fun hs h => by
      have h3 := vcC_sound y none _ _ _ _ (envOf_ok hs) h
      rw [act_self hs] at h3
      refine wpM_mono h3 ?_
      intro ex a w h
      cases ex <;> first | exact h.2.elim | exact h
    cases ex with
    | normal => exact hy h.1 h.2
    | goto l' =>
      obtain ⟨hs, h⟩ := h
      simp only [goQ] at h
      split at h
      · rename_i hl; exact ⟨hl, hy hs h⟩
      · exact h.elim
    | _ => exact h
  | _ => exact h

theorem args_ok (n : Nat) (args : List Value) : EnvOk (max n args.length) (fun t => args.getD t undef) := fun t ht => by
  have : args.length ≤ t := by omega
  simp [this]
theorem calls_of_wpM {P : Program} {f : FuncId} {args : List Value} {R : Ending → World → Prop} {w : World} {fn : Func} {c : Code} (hf : P.funcs[f]? = some fn) (hb : fn.body = some c)
    (h : wpM P none c (toQ (max fn.ntmps args.length) (finish P fn R)) (act (max fn.ntmps args.length) (fun t => args.getD t undef) []) w) : Calls P f args.toArray w R := by
  intro cs
  let b : Frame := { (default : Frame) with fn := f, kind := .normal, roundOf := none }
  have ha : act (max fn.ntmps args.length) (fun t => args.getD t undef) [] = { tmps := args.toArray ++ Array.replicate (fn.ntmps - args.toArray.size) undef, defers := [] } := by
    show (⟨_, _⟩ : Act) = ⟨_, _⟩
    congr 1
    apply Array.ext
    · simp; omega
    · intro i h1 h2
      simp only [Array.getElem_ofFn]
      by_cases hi : i < args.length
      · rw [Array.getElem_append_left (by simpa using hi)]; simp [hi]
      · rw [Array.getElem_append_right (by simpa using hi)]; simp [hi]
  have henter : Frame.enter P f args.toArray .normal = b.atR { tmps := args.toArray ++ Array.replicate (fn.ntmps - args.toArray.size) undef, defers := [] } [.code c] := by
    simp [Frame.enter, Frame.atR, hf, hb, b]
  obtain ⟨e, a', w', hq, harr⟩ := h b [] cs rfl
  rw [ha, ← henter] at harr
  have hq := hq.2
  cases e with
  | normal =>
    obtain ⟨e', w'', fr', hR, hs, hfn, hl⟩ := Lv_sound a'.defers .returning w' { b.atR a' [] with mode := .returning } cs rfl rfl rfl hf rfl hq
    exact ⟨e', w'', fr', hR, Comes.of_steps (Steps.trans harr (.one (stepR_end rfl))) hs, hfn, hl⟩
  | ret =>
    obtain ⟨todo, hs₀⟩ := harr.1 rfl
    obtain ⟨e', w'', fr', hR, hs, hfn, hl⟩ := Lv_sound a'.defers .returning w' { b.atR a' todo with mode := .returning } cs rfl rfl rfl hf rfl hq
    exact ⟨e', w'', fr', hR, Comes.of_steps hs₀ hs, hfn, hl⟩
  | panic chain =>
    obtain ⟨todo, _, hs₀⟩ := harr
    obtain ⟨e', w'', fr', hR, hs, hfn, hl⟩ := Lv_sound a'.defers (.panicking chain) w' { b.atR a' todo with mode := .panicking chain } cs rfl rfl rfl hf rfl hq
    exact ⟨e', w'', fr', hR, Comes.of_steps hs₀ hs, hfn, hl⟩
  | exit id => exact hq.elim
  | goto l => exact hq.elim
  | outgrown => exact hq.elim

/-- **A FUNCTION's CONTRACT, OUT OF WHAT THE GENERATOR ASKS.** -/
theorem calls_of_vc {P : Program} {A : Ann} {n : Nat} {f : FuncId} {args : List Value} {R : Ending → World → Prop} {w : World} (h : FnVc P A n f args R w) : Calls P f args.toArray w R := by
  unfold FnVc at h
  split at h
  · exact h.elim
  · rename_i fn hf
    split at h
    · exact h.elim
    · rename_i c hb
      split at h
      · exact h.elim
      rename_i hn
      have hn := Nat.eq_of_beq_eq_true hn
      subst hn
      refine calls_of_wpM hf hb (vcC_sound c none _ _ _ _ (args_ok _ _) h)
theorem calls_of_vcG {P : Program} {A : Ann} {n : Nat} {f : FuncId} {args : List Value} {R : Ending → World → Prop} {w : World} (h : FnVcG P A n f args R w) : Calls P f args.toArray w R := by
  unfold FnVcG at h
  split at h
  · exact h.elim
  · rename_i fn hf
    split at h
    · rename_i r x l y hb
      split at h
      · rename_i hn hl
        have hn := Nat.eq_of_beq_eq_true hn
        subst hn
        exact calls_of_wpM hf hb (vcG_sound (args_ok _ _) (by simpa using hl) (fun _ _ _ _ h => h) h)
      · exact h.elim
    · exact h.elim
end Go.L
