/- Part 0 of a proof: what the functions of the program compute, and at the end that the law answers true for every input. No conditions beyond the statement's own. -/
import Derived.WalkKit
import Derived.Deep.LoopGhost
import Derived.OrdersHeld
import Derived.Laws.AppendOwnNone
import Derived.Laws.MakeOwn
import Derived.Deep.Quiet
import Derived.Test.YthbppnnnegcphaaGreatProg
set_option linter.unusedVariables false
set_option linter.unusedSimpArgs false
namespace Go.Sl
abbrev Env := List (Nat × Value)
def Env.get : Env → Nat → Option Value
  | [], _ => none
  | (t, v) :: e, s => bif Nat.beq t s then some v else Env.get e s
def Env.ev (e : Env) : Operand → Option Value
  | .tmp t => e.get t
  | .const v => some v
  | .global g => some (.pointer (some ⟨g, 0, none⟩))
  | .func f => some (.func (.func f) #[] #[])
def Env.evs (e : Env) : List Operand → Option (List Value)
  | [] => some []
  | x :: xs => match e.ev x with
    | none => none
    | some v => match Env.evs e xs with
      | none => none
      | some vs => some (v :: vs)
def Env.evp (e : Env) : List (Nat × Operand) → Option (List (Nat × Value))
  | [] => some []
  | (i, x) :: xs => match e.ev x with
    | none => none
    | some v => match Env.evp e xs with
      | none => none
      | some vs => some ((i, v) :: vs)
def Sub : Env → Env → Prop
  | [], _ => True
  | (t, v) :: r, e => e.get t = some v ∧ Sub r e
structure Agrees (a : Act) (n : Nat) (e : Env) : Prop where
  defers : a.defers = []
  size : a.tmps.size = n
  get : ∀ t v, e.get t = some v → a.tmps[t]? = some v
theorem Agrees.ev {a : Act} {n : Nat} {e : Env} (h : Agrees a n e) {x : Operand} {v : Value} (hx : e.ev x = some v) : a.eval x = v := by
  cases x with
  | tmp t =>
    have := h.get t v hx
    simp [Act.eval, this]
  | const u => simpa [Env.ev, Act.eval] using hx
  | global g => simpa [Env.ev, Act.eval] using hx
  | func f => simpa [Env.ev, Act.eval] using hx
theorem Agrees.evs {a : Act} {n : Nat} {e : Env} (h : Agrees a n e) : ∀ {xs : List Operand} {vs : List Value}, e.evs xs = some vs → xs.map a.eval = vs
  | [], vs, hx => by simp [Env.evs] at hx; simp [hx]
  | x :: xs, vs, hx => by
    simp only [Env.evs] at hx
    split at hx
    · cases hx
    · rename_i v hv
      split at hx
      · cases hx
      · rename_i us hu
        simp at hx
        subst hx
        simp [h.ev hv, Agrees.evs h hu]
theorem Agrees.evp {a : Act} {n : Nat} {e : Env} (h : Agrees a n e) : ∀ {xs : List (Nat × Operand)} {vs : List (Nat × Value)}, e.evp xs = some vs →
    xs.map (fun (i, x) => (i, a.eval x)) = vs
  | [], vs, hx => by simp [Env.evp] at hx; simp [hx]
  | (i, x) :: xs, vs, hx => by
    simp only [Env.evp] at hx
    split at hx
    · cases hx
    · rename_i v hv
      split at hx
      · cases hx
      · rename_i us hu
        simp at hx
        subst hx
        simp [h.ev hv, Agrees.evp h hu]
theorem beq_false {a b : Nat} (h : a ≠ b) : Nat.beq a b = false := by
  rw [← Bool.not_eq_true]; intro hb; exact h (Nat.eq_of_beq_eq_true hb)
theorem Env.get_cons_of {t s : Nat} {v u : Value} {e : Env} (h : Env.get ((t, v) :: e) s = some u) : (t = s ∧ v = u) ∨ (t ≠ s ∧ e.get s = some u) := by
  simp only [Env.get] at h
  by_cases hts : t = s
  · subst hts; simp at h; exact .inl ⟨rfl, h⟩
  · have : Nat.beq t s = false := beq_false hts
    rw [this] at h
    exact .inr ⟨hts, h⟩
theorem Agrees.put {a : Act} {n : Nat} {e : Env} (h : Agrees a n e) {d : Nat} (hd : Nat.blt d n = true) (v : Value) : Agrees (a.put (some d) v) n ((d, v) :: e) := by
  have hd' : d < n := by simpa [Nat.blt_eq] using hd
  refine ⟨h.defers, by simp [Act.put, h.size], fun t u ht => ?_⟩
  rcases Env.get_cons_of ht with ⟨rfl, rfl⟩ | ⟨hne, hg⟩
  · simp [Act.put, h.size, hd']
  · have := h.get t u hg
    simp [Act.put, hne, this]
theorem Sub.get {e e' : Env} (h : Sub e' e) {t : Nat} {v : Value} (ht : e'.get t = some v) : e.get t = some v := by
  induction e' with
  | nil => simp [Env.get] at ht
  | cons p r ih =>
    obtain ⟨s, u⟩ := p
    rcases Env.get_cons_of ht with ⟨rfl, rfl⟩ | ⟨_, hg⟩
    · exact h.1
    · exact ih h.2 hg
theorem Agrees.sub {a : Act} {n : Nat} {e e' : Env} (h : Agrees a n e) (hs : Sub e' e) : Agrees a n e' :=
  ⟨h.defers, h.size, fun t v ht => h.get t v (hs.get ht)⟩
abbrev Kont := Exit → Env → World → Prop
def lift (n : Nat) (K : Kont) : Exit → Act → World → Prop := fun x a w => ∃ e, Agrees a n e ∧ K x e w
def Run (P : Program) (n : Nat) (c : Code) (K : Kont) (e : Env) (w : World) : Prop := ∀ a : Act, Agrees a n e → c.wp P (lift n K) a w
def Ops (P : Program) (n : Nat) (ops : Array Oper) (K : Kont) (rest : List Oper) (e : Env) (w : World) : Prop := ∀ a, Agrees a n e → wpList P ops (lift n K) rest a w
section
variable {P : Program} {n : Nat} {K : Kont} {e : Env} {w : World} {ops : Array Oper} {rest : List Oper}
def Kseq (P : Program) (n : Nat) (y : Code) (K : Kont) : Kont
  | .normal, e, w => Run P n y K e w
  | x, e, w => K x e w
def Kblk (id : Nat) (K : Kont) : Kont
  | .exit j, e, w => bif Nat.beq j id then K .normal e w else K (.exit j) e w
  | x, e, w => K x e w
def Kloop (I : Nat → Env → World → Prop) (m : Nat) (K : Kont) : Kont
  | .normal, e, w => ∃ m' e', m' < m ∧ I m' e' w ∧ Sub e' e
  | x, e, w => K x e w
theorem Run.mono {c : Code} {K' : Kont} (h : Run P n c K e w) (hk : ∀ x e w, K x e w → K' x e w) : Run P n c K' e w :=
  fun a ha => wp_mono (h a ha) fun x a w ⟨e, h1, h2⟩ => ⟨e, h1, hk x e w h2⟩
theorem Run.sub {c : Code} {e' : Env} (hs : Sub e' e) (h : Run P n c K e' w) : Run P n c K e w := fun a ha => h a (ha.sub hs)
theorem Ops.sub {e' : Env} (hs : Sub e' e) (h : Ops P n ops K rest e' w) : Ops P n ops K rest e w := fun a ha => h a (ha.sub hs)
theorem rSeq {x y : Code} (h : Run P n x (Kseq P n y K) e w) : Run P n (.seq x y) K e w := fun a ha =>
  wp_seq (wp_mono (h a ha) fun ex a w ⟨e, h1, h2⟩ => by
    cases ex with
    | normal => exact h2 a h1
    | exit id => exact ⟨e, h1, h2⟩
    | goto l => exact ⟨e, h1, h2⟩
    | ret => exact ⟨e, h1, h2⟩
    | panic ch => exact ⟨e, h1, h2⟩
    | outgrown => exact ⟨e, h1, h2⟩)
theorem rSkip (h : K .normal e w) : Run P n .skip K e w := fun _ ha => wp_skip ⟨e, ha, h⟩
theorem rRet (h : K .ret e w) : Run P n .ret K e w := fun _ ha => wp_ret ⟨e, ha, h⟩
theorem rExit {id : Nat} (h : K (.exit id) e w) : Run P n (.exit id) K e w := fun _ ha => wp_exit ⟨e, ha, h⟩
theorem rGoto {l : Nat} (h : K (.goto l) e w) : Run P n (.goto l) K e w := fun _ ha => wp_goto ⟨e, ha, h⟩
theorem rLabel {l : Nat} (h : K .normal e w) : Run P n (.label l) K e w := fun _ ha => wp_label ⟨e, ha, h⟩
theorem rBlk {id : Nat} {c : Code} (h : Run P n c (Kblk id K) e w) : Run P n (.block id c) K e w := fun a ha =>
  wp_block (wp_mono (h a ha) fun ex a w ⟨e, h1, h2⟩ => by
    cases ex with
    | normal => exact ⟨e, h1, h2⟩
    | exit j =>
      simp only [Exit.inBlock]
      simp only [Kblk] at h2
      by_cases hj : j = id
      · subst hj
        simp at h2
        simp
        exact ⟨e, h1, h2⟩
      · have : Nat.beq j id = false := beq_false hj
        rw [this] at h2
        simp only [hj, if_false]
        exact ⟨e, h1, h2⟩
    | goto l => exact ⟨e, h1, h2⟩
    | ret => exact ⟨e, h1, h2⟩
    | panic ch => exact ⟨e, h1, h2⟩
    | outgrown => exact ⟨e, h1, h2⟩)
theorem rCond {c : Operand} {x y : Code} {b : Bool} (hc : e.ev c = some (.bool b)) (ht : b = true → Run P n x K e w) (hf : b = false → Run P n y K e w) :
    Run P n (.cond c x y) K e w := fun a ha => by
  have h := ha.ev hc
  cases b
  · exact wp_cond_false h (hf rfl a ha)
  · exact wp_cond_true h (ht rfl a ha)
theorem rCondT {c : Operand} {x y : Code} (hc : e.ev c = some (.bool true)) (h : Run P n x K e w) : Run P n (.cond c x y) K e w :=
  rCond hc (fun _ => h) (fun h => by cases h)
theorem rCondF {c : Operand} {x y : Code} (hc : e.ev c = some (.bool false)) (h : Run P n y K e w) : Run P n (.cond c x y) K e w :=
  rCond hc (fun h => by cases h) (fun _ => h)
theorem rCondD {c : Operand} {x y : Code} {φ : Prop} {d : Decidable φ} (hc : e.ev c = some (.bool (@decide φ d))) (ht : φ → Run P n x K e w) (hf : ¬ φ → Run P n y K e w) :
    Run P n (.cond c x y) K e w := rCond hc (fun h => ht (of_decide_eq_true h)) (fun h => hf (of_decide_eq_false h))
theorem rLoop {c : Code} (I : Nat → Env → World → Prop) (h0 : ∃ m e', I m e' w ∧ Sub e' e) (hs : ∀ m e w, I m e w → Run P n c (Kloop I m K) e w) : Run P n (.loop c) K e w := fun a ha => by
  obtain ⟨m, e', hi, hsub⟩ := h0
  refine wp_loop_ghost (fun m a w => ∃ e, Agrees a n e ∧ I m e w) m ⟨e', ha.sub hsub, hi⟩ ?_
  intro m a w ⟨e, hag, hI⟩
  refine wp_mono (hs m e w hI a hag) fun ex a w ⟨e, h1, h2⟩ => ?_
  cases ex with
  | normal =>
    obtain ⟨m', e', hlt, hI', hsub⟩ := h2
    exact ⟨m', hlt, e', h1.sub hsub, hI'⟩
  | exit id => exact ⟨e, h1, h2⟩
  | goto l => exact ⟨e, h1, h2⟩
  | ret => exact ⟨e, h1, h2⟩
  | panic ch => exact ⟨e, h1, h2⟩
  | outgrown => exact ⟨e, h1, h2⟩
def Kcut (J : Env → World → Prop) (K : Kont) : Kont
  | .normal, e, w => ∃ e', J e' w ∧ Sub e' e
  | x, e, w => K x e w
theorem rCut' {x y : Code} (J : Env → World → Prop) (hx : Run P n x (Kcut J K) e w) (hy : ∀ e w, J e w → Run P n y K e w) : Run P n (.seq x y) K e w :=
  rSeq (hx.mono fun ex e w h => by
    cases ex with
    | normal => obtain ⟨e', hj, hs⟩ := h; exact (hy e' w hj).sub hs
    | exit id => exact h
    | goto l => exact h
    | ret => exact h
    | panic ch => exact h
    | outgrown => exact h)
theorem kSeq {y : Code} (h : Run P n y K e w) : Kseq P n y K .normal e w := h
theorem kSeqX {y : Code} {j : Nat} (h : K (.exit j) e w) : Kseq P n y K (.exit j) e w := h
theorem kSeqR {y : Code} (h : K .ret e w) : Kseq P n y K .ret e w := h
theorem kBlk {id : Nat} (h : K .normal e w) : Kblk id K .normal e w := h
theorem kBlkR {id : Nat} (h : K .ret e w) : Kblk id K .ret e w := h
theorem kBlkH {id : Nat} (h : K .normal e w) : Kblk id K (.exit id) e w := by simp [Kblk]; exact h
theorem kBlkX {id j : Nat} (hj : Nat.beq j id = false) (h : K (.exit j) e w) : Kblk id K (.exit j) e w := by simp only [Kblk, hj]; exact h
theorem kLoop {I : Nat → Env → World → Prop} {m : Nat} (m' : Nat) (e' : Env) (hlt : m' < m) (hI : I m' e' w) (hs : Sub e' e) : Kloop I m K .normal e w := ⟨m', e', hlt, hI, hs⟩
theorem kLoopX {I : Nat → Env → World → Prop} {m j : Nat} (h : K (.exit j) e w) : Kloop I m K (.exit j) e w := h
theorem kLoopR {I : Nat → Env → World → Prop} {m : Nat} (h : K .ret e w) : Kloop I m K .ret e w := h
theorem kCut {J : Env → World → Prop} (e' : Env) (hj : J e' w) (hs : Sub e' e) : Kcut J K .normal e w := ⟨e', hj, hs⟩
def Ret (R : Value → World → Prop) : Ending → World → Prop := fun e w => ∃ v, e = .returned v ∧ R v w
inductive Res (P : Program) (e : Env) (w : World) : List ResultVar → List Value → Prop
  | nil : Res P e w [] []
  | tmp {t : Nat} {v : Value} {rs : List ResultVar} {vs : List Value} : e.get t = some v → Res P e w rs vs → Res P e w (.tmp t :: rs) (v :: vs)
  | cell {a t : Nat} {ad : Addr} {v : Value} {rs : List ResultVar} {vs : List Value} : e.get a = some (.pointer (some ad)) → (loadVar t ad).run P w = .ok v w → Res P e w rs vs → Res P e w (.cell a t :: rs) (v :: vs)
def one : List Value → Value
  | [v] => v
  | vs => .tuple vs.toArray
def Kfin (P : Program) (rs : List ResultVar) (R : Value → World → Prop) : Kont
  | .normal, e, w | .ret, e, w => ∃ vs, Res P e w rs vs ∧ R (one vs) w
  | _, _, _ => False
theorem kFin {rs : List ResultVar} {R : Value → World → Prop} {vs : List Value} (hv : Res P e w rs vs) (h : R (one vs) w) : Kfin P rs R .ret e w := ⟨vs, hv, h⟩
theorem kFinN {rs : List ResultVar} {R : Value → World → Prop} {vs : List Value} (hv : Res P e w rs vs) (h : R (one vs) w) : Kfin P rs R .normal e w := ⟨vs, hv, h⟩
def argEnv : Nat → List Value → Env
  | _, [] => []
  | i, v :: vs => (i, v) :: argEnv (i + 1) vs
end
end Go.Sl
namespace Go.Sl
section
variable {P : Program} {n : Nat} {K : Kont} {e : Env} {w : World} {ops : Array Oper} {rest : List Oper}
theorem results_mapM {a : Act} (ha : Agrees a n e) (g : ResultVar → Sem Value) (hg : ∀ t, g (.tmp t) = pure (a.tmps.getD t undef)) (hg2 : ∀ x t, g (.cell x t) = (do loadVar t (← asAddr (a.tmps.getD x undef)))) :
    ∀ {rs : List ResultVar} {vs : List Value}, Res P e w rs vs → (List.mapM (m := Sem) g rs).run P w = .ok vs w := by
  intro rs vs h
  induction h with
  | nil => rfl
  | tmp h1 _ ih =>
    have := ha.get _ _ h1
    simp only [List.mapM_cons]
    rw [hg, Sem.run_bind, Sem.run_pure, Result.andThen_ok, Sem.run_bind, ih, Result.andThen_ok, Sem.run_pure]
    simp [this]
  | cell h1 h2 _ ih =>
    have := ha.get _ _ h1
    have h3 : ∀ x : Nat, x < a.tmps.size → a.tmps.getD x undef = (a.tmps[x]?).getD undef := fun x _ => by simp
    simp only [List.mapM_cons]
    rw [hg2]
    simp only [Sem.run_bind]
    simp [this, asAddr, h2, ih]
theorem one_eq (vs : List Value) : (if h : vs.toArray.size = 1 then vs.toArray[0] else Value.tuple vs.toArray) = one vs := by
  match vs with
  | [] => rfl
  | [v] => rfl
  | v :: u :: r => simp [one]
theorem results_run {fn : Func} {rs : List ResultVar} {vs : List Value} {a : Act} (hrs : fn.results = rs.toArray) (ha : Agrees a n e) (h : Res P e w rs vs) :
    (results fn a.tmps).run P w = .ok (one vs) w := by
  unfold results
  rw [hrs, List.mapM_toArray]
  rw [Sem.run_bind, Sem.run_map, results_mapM (P := P) ha _ (fun _ => rfl) (fun _ _ => rfl) h]
  simp only [Result.andThen_ok, Sem.run_pure, one_eq]
theorem enter {f : FuncId} {fn : Func} {c : Code} {args : List Value} {rs : List ResultVar} {R : Value → World → Prop} (hf : P.funcs[f]? = some fn) (hb : fn.body = some c) (hn : fn.ntmps = n) (hrs : fn.results = rs.toArray)
    (hl : Nat.ble args.length n = true) (h : Run P n c (Kfin P rs R) (argEnv 0 args) w) : Calls P f args.toArray w (Ret R) := by
  have hle : args.length ≤ n := by simpa using hl
  refine calls_of_wp hf hb ?_
  refine wp_mono (h _ ⟨rfl, ?_, ?_⟩) ?_
  · simp [hn]; omega
  · have key : ∀ (args : List Value) (i t : Nat) (v : Value), (argEnv i args).get t = some v → ∃ j, t = i + j ∧ args[j]? = some v := by
      intro args
      induction args with
      | nil => intro i t v h; simp [argEnv, Env.get] at h
      | cons u us ih =>
        intro i t v h
        rcases Env.get_cons_of h with ⟨rfl, rfl⟩ | ⟨_, hg⟩
        · exact ⟨0, rfl, rfl⟩
        · obtain ⟨j, rfl, hj⟩ := ih _ _ _ hg
          exact ⟨j + 1, by omega, by simpa using hj⟩
    intro t v ht
    obtain ⟨j, rfl, hj⟩ := key args 0 t v ht
    have hlt : j < args.length := (List.getElem?_eq_some_iff.1 hj).1
    simp only [Nat.zero_add]
    rw [Array.getElem?_append_left (by simpa using hlt)]
    simpa using hj
  · intro ex a w ⟨e, ha, hk⟩
    cases ex with
    | normal => obtain ⟨vs, h1, h2⟩ := hk; exact ⟨ha.defers, _, results_run hrs ha h1, _, rfl, h2⟩
    | ret => obtain ⟨vs, h1, h2⟩ := hk; exact ⟨ha.defers, _, results_run hrs ha h1, _, rfl, h2⟩
    | exit _ => exact hk
    | goto _ => exact hk
    | panic _ => exact hk.elim
    | outgrown => exact hk.elim
theorem rReg {id : Nat} {l : List Oper} (h : Ops P n l.toArray K l e w) : Run P n (.region id l.toArray false) K e w := fun a ha => wp_region_lit (h a ha)
theorem oEnd (h : K .normal e w) : Ops P n ops K [] e w := fun _ ha => wpList_nil ⟨e, ha, h⟩
theorem Ops.val {o : Oper} {d : Nat} {v : Value} {w' : World} (hg : o.guard = none) (hd : o.dst = some d) (hn : Nat.blt d n = true)
    (hr : ∀ a, Agrees a n e → (execOp a.eval o).run P w = .ok (.value v) w') (hk : Ops P n ops K rest ((d, v) :: e) w') : Ops P n ops K (o :: rest) e w := fun a ha =>
  wpList_plain hg fun K' hK => by
    unfold Oper.wp
    rw [hr a ha, Oper.upon_value, hd]
    exact hK _ _ (hk _ (ha.put hn v))
theorem Ops.valn {o : Oper} {v : Value} {w' : World} (hg : o.guard = none) (hd : o.dst = none)
    (hr : ∀ a, Agrees a n e → (execOp a.eval o).run P w = .ok (.value v) w') (hk : Ops P n ops K rest e w') : Ops P n ops K (o :: rest) e w := fun a ha =>
  wpList_plain hg fun K' hK => by
    unfold Oper.wp
    rw [hr a ha, Oper.upon_value, hd]
    exact hK _ _ (hk _ ha)
theorem Ops.skipn {o : Oper} {w' : World} (hg : o.guard = none) (hd : o.dst = none)
    (hr : ∀ a, Agrees a n e → (execOp a.eval o).run P w = .ok .skip w') (hk : Ops P n ops K rest e w') : Ops P n ops K (o :: rest) e w := fun a ha =>
  wpList_plain hg fun K' hK => by
    unfold Oper.wp
    rw [hr a ha, Oper.upon_skip, hd]
    exact hK _ _ (hk _ ha)
theorem oGuardT {d : Option Tmp} {o : Op} {ty : TypeId} {pos : String} {af : Array Edge} {j dj : Nat} {b : Bool} (hj : (ops[j]?).bind (·.dst) = some dj) (hb : e.get dj = some (.bool b))
    (h : Ops P n ops K (⟨d, o, ty, pos, af, none⟩ :: rest) e w) : Ops P n ops K (⟨d, o, ty, pos, af, some (j, b)⟩ :: rest) e w := fun a ha => by
  have h1 := ha.get dj _ hb
  have hy : yielded ops a.tmps j = some b := by simp [yielded, hj, h1]
  have h2 := h a ha
  unfold wpList at h2 ⊢
  simp only [Region.wanted, if_true, hy, beq_self_eq_true] at h2 ⊢
  exact h2
theorem oGuardF {d : Nat} {o : Op} {ty : TypeId} {pos : String} {af : Array Edge} {j dj : Nat} {b c : Bool} (hj : (ops[j]?).bind (·.dst) = some dj) (hb : e.get dj = some (.bool c)) (hne : (c == b) = false) (hn : Nat.blt d n = true)
    (h : Ops P n ops K rest ((d, undef) :: e) w) : Ops P n ops K (⟨some d, o, ty, pos, af, some (j, b)⟩ :: rest) e w := fun a ha => by
  have h1 := ha.get dj _ hb
  have hy : yielded ops a.tmps j = some c := by simp [yielded, hj, h1]
  refine wpList_skip ?_ (h _ (ha.put hn undef))
  simp [Region.wanted, hy]
  simpa using hne
theorem oCall {d : Nat} {f : FuncId} {xs : List Operand} {vs : List Value} {tys : Array TypeId} {ty : TypeId} {pos : String} {af : Array Edge} {R : Value → World → Prop}
    (hcf : ∀ (args : Array Value) (w : World), Sem.run P (callFunc f args) w = .ok (.enter f args) w) (hn : Nat.blt d n = true) (hx : e.evs xs = some vs) (hc : Calls P f vs.toArray w (Ret R))
    (hk : ∀ v w', R v w' → Ops P n ops K rest ((d, v) :: e) w') : Ops P n ops K (⟨some d, .call ⟨.value (.func f), xs.toArray, tys⟩, ty, pos, af, none⟩ :: rest) e w := fun a ha =>
  wpList_plain rfl fun K' hK => by
    have hargs := ha.evs hx
    have : (execOp a.eval ⟨some d, .call ⟨.value (.func f), xs.toArray, tys⟩, ty, pos, af, none⟩).run P w = .ok (.enter f vs.toArray) w := by
      simp only [execOp, resolve, Act.eval, Deferred.ofValue]
      simp [invoke, hcf, hargs]
    unfold Oper.wp
    rw [this, Oper.upon_enter]
    refine hc.mono ?_
    rintro e' w' ⟨v, rfl, hR⟩
    exact hK _ _ (hk v w' hR _ (ha.put hn v))
end
end Go.Sl
namespace Go.Sl
abbrev HF := Nat → Option Obj
abbrev Asn := HF → Prop
def hfOf (w : World) : HF := fun b => w.heap[b]?
def only (S : Nat → Bool) (h : HF) : HF := fun b => bif S b then h b else none
def wo (S : Nat → Bool) (h : HF) : HF := fun b => bif S b then none else h b
def sepL : List Asn → HF → Prop
  | [], _ => True
  | A :: L, h => ∃ S : Nat → Bool, A (only S h) ∧ sepL L (wo S h)
structure Sep (W0 w : World) (L : List Asn) : Prop where
  os : w.os = W0.os
  tape : w.tape = W0.tape
  output : w.output = W0.output
  sep : sepL L (hfOf w)
def row (b : Nat) (e : TypeId) (xs : List Value) : Asn := fun h => ∃ c : Array Value, h b = some (.cells c e (0, 0)) ∧ ∀ (i : Nat) (v : Value), xs[i]? = some v → c[i]? = some v
def own (e : TypeId) (size : Nat) (v : Value) (n : Nat) (xs : List Value) : Asn := fun h => xs.length = n * size ∧
  ((v = .slice none 0 0 ∧ n = 0) ∨ ∃ (g cap : Nat) (cur : Array Value), v = .slice (some ⟨g, 0, none⟩) n cap ∧ h g = some (.cells cur e (0, 0)) ∧ n ≤ cap ∧ cap ≤ maxLen ∧ cur.size = cap * size ∧ cur.toList.take (n * size) = xs)
def pool (f : HF) : Asn := fun h => ∀ b o, f b = some o → h b = some o
def mapAt (r : Nat) (es : Array MapEntry) (clock : Nat) : Asn := fun h => h r = some (.map es clock)
theorem only_of {S : Nat → Bool} {h : HF} {b : Nat} {o : Obj} (hb : only S h b = some o) : S b = true ∧ h b = some o := by
  unfold only at hb
  cases hS : S b
  · simp [hS] at hb
  · simp [hS] at hb; exact ⟨rfl, hb⟩
theorem wo_of {S : Nat → Bool} {h : HF} {b : Nat} {o : Obj} (hb : wo S h b = some o) : S b = false ∧ h b = some o := by
  unfold wo at hb
  cases hS : S b
  · simp [hS] at hb; exact ⟨rfl, hb⟩
  · simp [hS] at hb
theorem sepL_upd {A : Asn} : ∀ {L : List Asn} {h : HF} {i : Nat}, L[i]? = some A → sepL L h →
    ∃ S : Nat → Bool, A (only S h) ∧ ∀ (h' : HF) (A' : Asn), (∀ b, S b = false → h' b = h b) → A' (only S h') → sepL (L.set i A') h'
  | [], _, _, hi, _ => by simp at hi
  | B :: L, h, 0, hi, ⟨S, hB, hL⟩ => by
    simp at hi
    subst hi
    refine ⟨S, hB, fun h' A' he hA => ⟨S, hA, ?_⟩⟩
    have : wo S h' = wo S h := by
      funext b
      unfold wo
      cases hS : S b
      · simp [he b hS]
      · simp
    rw [this]
    exact hL
  | B :: L, h, i + 1, hi, ⟨S, hB, hL⟩ => by
    obtain ⟨T, hA, hT⟩ := sepL_upd (L := L) (h := wo S h) (i := i) (by simpa using hi) hL
    refine ⟨fun b => !S b && T b, ?_, fun h' A' he hA' => ?_⟩
    · have : only (fun b => !S b && T b) h = only T (wo S h) := by
        funext b
        unfold only wo
        cases hS : S b <;> cases hT' : T b <;> simp [hS, hT']
      rw [this]
      exact hA
    · have hoff : ∀ b, S b = true → h' b = h b := fun b hb => he b (by simp [hb])
      refine ⟨S, ?_, ?_⟩
      · have : only S h' = only S h := by
          funext b
          unfold only
          cases hS : S b
          · simp
          · simp [hoff b hS]
        rw [this]
        exact hB
      · refine hT (wo S h') A' ?_ ?_
        · intro b hb
          unfold wo
          cases hS : S b
          · simp [he b (by simp [hb])]
          · simp
        · have : only T (wo S h') = only (fun b => !S b && T b) h' := by
            funext b
            unfold only wo
            cases hS : S b <;> cases hT' : T b <;> simp [hS, hT']
          rw [this]
          exact hA'
theorem sepL_at {A : Asn} {L : List Asn} {h : HF} {i : Nat} (hi : L[i]? = some A) (hs : sepL L h) : ∃ S : Nat → Bool, A (only S h) :=
  let ⟨S, hA, _⟩ := sepL_upd hi hs
  ⟨S, hA⟩
theorem sepL_imp {A A' : Asn} {L : List Asn} {h : HF} {i : Nat} (hi : L[i]? = some A) (hA : ∀ h, A h → A' h) (hs : sepL L h) : sepL (L.set i A') h :=
  let ⟨_, h1, h2⟩ := sepL_upd hi hs
  h2 h A' (fun _ _ => rfl) (hA _ h1)
theorem sepL_none {L : List Asn} {h : HF} {b : Nat} {o : Obj} {A : Asn} (hb : h b = none) (hs : sepL L h) {h' : HF} (h1 : h' b = some o) (h2 : ∀ k, k ≠ b → h' k = h k) (hA : ∀ k : HF, k b = some o → A k) : sepL (A :: L) h' := by
  refine ⟨fun k => Nat.beq k b, hA _ (by simp [only, h1]), ?_⟩
  have : wo (fun k => Nat.beq k b) h' = h := by
    funext k
    unfold wo
    by_cases hk : k = b
    · subst hk; simp [hb]
    · show (bif Nat.beq k b then none else h' k) = h k
      rw [beq_false hk]; simp [h2 k hk]
  rw [this]
  exact hs
theorem sepL_swap {A B : Asn} {L : List Asn} {h : HF} (hs : sepL (A :: B :: L) h) : sepL (B :: A :: L) h := by
  obtain ⟨S, hA, T, hB, hL⟩ := hs
  refine ⟨fun b => !S b && T b, ?_, S, ?_, ?_⟩
  · have : only (fun b => !S b && T b) h = only T (wo S h) := by
      funext b; unfold only wo; cases hS : S b <;> cases hT' : T b <;> simp [hS, hT']
    rw [this]; exact hB
  · have : only S (wo (fun b => !S b && T b) h) = only S h := by
      funext b; unfold only wo; cases hS : S b <;> cases hT' : T b <;> simp [hS, hT']
    rw [this]; exact hA
  · have : wo S (wo (fun b => !S b && T b) h) = wo T (wo S h) := by
      funext b; unfold wo; cases hS : S b <;> cases hT' : T b <;> simp [hS, hT']
    rw [this]; exact hL
theorem sepL_cons {A : Asn} {L L' : List Asn} {h : HF} (hL : ∀ h, sepL L h → sepL L' h) (hs : sepL (A :: L) h) : sepL (A :: L') h :=
  let ⟨S, hA, h2⟩ := hs
  ⟨S, hA, hL _ h2⟩
theorem sepL_perm {L L' : List Asn} (hp : L.Perm L') : ∀ {h : HF}, sepL L h → sepL L' h := by
  induction hp with
  | nil => exact fun h => h
  | cons A _ ih => exact fun hs => sepL_cons (fun _ => ih) hs
  | swap A B L => exact fun hs => sepL_swap hs
  | trans _ _ ih1 ih2 => exact fun hs => ih2 (ih1 hs)
theorem sepL_front {A : Asn} : ∀ {L : List Asn} {i : Nat} {h : HF}, L[i]? = some A → sepL L h → sepL (A :: L.eraseIdx i) h
  | [], _, _, hi, _ => by simp at hi
  | B :: L, 0, h, hi, hs => by simp at hi; subst hi; exact hs
  | B :: L, i + 1, h, hi, hs => by
    have := sepL_cons (fun _ => sepL_front (i := i) (by simpa using hi)) hs
    exact sepL_swap this
section
variable {W0 w w' : World} {L : List Asn}
theorem Sep.same (hs : Sep W0 w L) (h1 : w'.os = w.os) (h2 : w'.tape = w.tape) (h3 : w'.output = w.output) (h4 : w'.heap = w.heap) : Sep W0 w' L :=
  ⟨h1.trans hs.os, h2.trans hs.tape, h3.trans hs.output, by have := hs.sep; unfold hfOf at *; rw [h4]; exact this⟩
theorem Sep.front {A : Asn} {i : Nat} (hi : L[i]? = some A) (hs : Sep W0 w L) : Sep W0 w (A :: L.eraseIdx i) := ⟨hs.os, hs.tape, hs.output, sepL_front hi hs.sep⟩
theorem Sep.perm {L' : List Asn} (hs : Sep W0 w L) (hp : L.Perm L') : Sep W0 w L' := ⟨hs.os, hs.tape, hs.output, sepL_perm hp hs.sep⟩
theorem Sep.imp {A A' : Asn} {i : Nat} (hi : L[i]? = some A) (hA : ∀ h, A h → A' h) (hs : Sep W0 w L) : Sep W0 w (L.set i A') := ⟨hs.os, hs.tape, hs.output, sepL_imp hi hA hs.sep⟩
theorem Sep.row_heap {i b : Nat} {e : TypeId} {xs : List Value} (hs : Sep W0 w L) (hi : L[i]? = some (row b e xs)) :
    ∃ c : Array Value, w.heap[b]? = some (.cells c e (0, 0)) ∧ ∀ (i : Nat) (v : Value), xs[i]? = some v → c[i]? = some v := by
  obtain ⟨S, c, h1, h2⟩ := sepL_at hi hs.sep
  exact ⟨c, (only_of h1).2, h2⟩
theorem Sep.cell {i b j : Nat} {e : TypeId} {xs : List Value} {v : Value} (hs : Sep W0 w L) (hi : L[i]? = some (row b e xs)) (hv : xs[j]? = some v) : w.cell? ⟨b, j, none⟩ = some v := by
  obtain ⟨c, h1, h2⟩ := hs.row_heap hi
  simp [World.cell?, h1, h2 j v hv]
theorem Sep.free {i b j : Nat} {e : TypeId} {xs : List Value} (hs : Sep W0 w L) (hi : L[i]? = some (row b e xs)) : w.frozen? ⟨b, j, none⟩ = false := by
  obtain ⟨c, h1, h2⟩ := hs.row_heap hi
  simp [World.frozen?, h1]
theorem hf_setCell (w : World) (a : Addr) (v : Value) (b : Nat) (hb : b ≠ a.block) : hfOf (w.setCell a v) b = hfOf w b := by
  unfold hfOf World.setCell
  simp only [Array.getElem?_modify]
  rw [if_neg (by omega)]
theorem Sep.set {i b j : Nat} {e : TypeId} {xs : List Value} {u v : Value} (hs : Sep W0 w L) (hi : L[i]? = some (row b e xs)) (hv : xs[j]? = some u) :
    Sep W0 (w.setCell ⟨b, j, none⟩ v) (L.set i (row b e (xs.set j v))) := by
  refine ⟨hs.os, hs.tape, hs.output, ?_⟩
  obtain ⟨S, ⟨c, h1, h2⟩, hupd⟩ := sepL_upd hi hs.sep
  obtain ⟨hSb, hb⟩ := only_of h1
  refine hupd _ _ (fun k hk => hf_setCell w _ v k (fun e => by subst e; simp [hSb] at hk)) ⟨c.setIfInBounds j v, ?_, ?_⟩
  · have : hfOf w b = some (.cells c e (0, 0)) := hb
    unfold hfOf at this
    simp [only, hSb, hfOf, World.setCell, Array.getElem?_modify, this]
  · intro k u' hk
    have hj : j < c.size := (Array.getElem?_eq_some_iff.1 (h2 j u hv)).1
    rw [List.getElem?_set] at hk
    rw [Array.getElem?_setIfInBounds]
    split at hk
    · subst_vars
      split at hk
      · simp at hk; subst hk; simp [hj]
      · cases hk
    · rename_i hne
      simp [hne, h2 k u' hk]
theorem hf_push (w : World) (o : Obj) : hfOf { w with heap := w.heap.push o } w.heap.size = some o := by simp [hfOf]
theorem hf_push_old (w : World) (o : Obj) (k : Nat) (h : k ≠ w.heap.size) : hfOf { w with heap := w.heap.push o } k = hfOf w k := by
  simp only [hfOf, Array.getElem?_push]
  rw [if_neg (by omega)]
theorem hf_size (w : World) : hfOf w w.heap.size = none := by simp [hfOf]
theorem Sep.new {o : Obj} {A : Asn} (hs : Sep W0 w L) (hA : ∀ k : HF, k w.heap.size = some o → A k) : Sep W0 { w with heap := w.heap.push o } (A :: L) :=
  ⟨hs.os, hs.tape, hs.output, sepL_none (hf_size w) hs.sep (hf_push w o) (fun k hk => hf_push_old w o k hk) hA⟩
theorem row_new (b : Nat) (e : TypeId) (xs : List Value) (k : HF) (h : k b = some (.cells xs.toArray e)) : row b e xs k := ⟨xs.toArray, h, fun i v hv => by simpa using hv⟩
theorem Sep.newRow {e : TypeId} (xs : List Value) (hs : Sep W0 w L) : Sep W0 { w with heap := w.heap.push (.cells xs.toArray e) } (row w.heap.size e xs :: L) :=
  hs.new fun k hk => row_new _ _ _ k hk
end
end Go.Sl
namespace Go.Sl
theorem add_lit (b j i : Nat) : (⟨b, j, none⟩ : Addr).add i = ⟨b, j + i, none⟩ := by unfold Addr.add; split <;> simp_all
theorem set_self {α : Type _} {L : List α} {i : Nat} {x : α} (h : L[i]? = some x) : L.set i x = L := by
  apply List.ext_getElem?
  intro j
  rw [List.getElem?_set]
  split
  · rename_i he; subst he
    rw [h]
    simp [(List.getElem?_eq_some_iff.1 h).1]
  · rfl
def takeAt : List Value → Nat → Nat → Option (List Value)
  | _, _, 0 => some []
  | xs, j, k + 1 => match xs[j]? with
    | none => none
    | some v => match takeAt xs (j + 1) k with
      | none => none
      | some vs => some (v :: vs)
def putAt : List Value → Nat → List Value → List Value
  | xs, _, [] => xs
  | xs, j, v :: vs => putAt (xs.set j v) (j + 1) vs
section
variable {P : Program} {n : Nat} {K : Kont} {e : Env} {w : World} {ops : Array Oper} {rest : List Oper} {W0 : World} {L : List Asn}
theorem run_loadCellsFrom {xs : List Value} (b j : Nat) (hc : ∀ i v, xs[i]? = some v → w.cell? ⟨b, i, none⟩ = some v) : ∀ (k i : Nat) (acc : Array Value) (vs : List Value), takeAt xs (j + i) k = some vs →
    (loadCellsFrom ⟨b, j, none⟩ i k acc).run P w = .ok (acc ++ vs.toArray) w
  | 0, i, acc, vs, h => by simp [takeAt] at h; subst h; simp [loadCellsFrom]
  | k + 1, i, acc, vs, h => by
    simp only [takeAt] at h
    split at h
    · cases h
    · rename_i v hv
      split at h
      · cases h
      · rename_i us hu
        simp at h
        subst h
        have ih := run_loadCellsFrom b j hc k (i + 1) (acc.push v) us hu
        have h1 := hc _ _ hv
        simp only [loadCellsFrom, load, add_lit, Sem.run_bind]
        simp only [Sem.run, h1, Result.andThen_ok, ih]
        simp
theorem run_loadCells {xs vs : List Value} {b j k : Nat} (hc : ∀ i v, xs[i]? = some v → w.cell? ⟨b, i, none⟩ = some v) (h : takeAt xs j k = some vs) : (loadCells ⟨b, j, none⟩ k).run P w = .ok vs.toArray w := by
  have := run_loadCellsFrom (P := P) b j hc k 0 #[] vs (by simpa using h)
  simpa [loadCells] using this
theorem run_store1 {b j : Nat} {v u : Value} (hc : w.cell? ⟨b, j, none⟩ = some u) (hf : w.frozen? ⟨b, j, none⟩ = false) (hv : v.oneCell' = true) : (store ⟨b, j, none⟩ v).run P w = .ok () (w.setCell ⟨b, j, none⟩ v) := by
  cases v <;> simp [Value.oneCell'] at hv <;> simp [store, Sem.run, hc, hf]
theorem run_storeCells {W0 : World} {i b : Nat} {t : TypeId} : ∀ (vs : List Value) (k j : Nat) (L : List Asn) (w : World) (xs : List Value), Sep W0 w L → L[i]? = some (row b t xs) → (∀ v ∈ vs, v.oneCell' = true) → j + k + vs.length ≤ xs.length →
    ∃ w', (storeCells ⟨b, j, none⟩ vs k).run P w = .ok () w' ∧ Sep W0 w' (L.set i (row b t (putAt xs (j + k) vs)))
  | [], k, j, L, w, xs, hs, hi, _, _ => ⟨w, by simp [storeCells], by simp only [putAt]; rwa [set_self hi]⟩
  | v :: vs, k, j, L, w, xs, hs, hi, h1, hl => by
    have hlt : j + k < xs.length := by simp at hl; omega
    have hx : xs[j + k]? = some xs[j + k] := by simp [hlt]
    have hc := hs.cell hi hx
    have hf := hs.free hi (j := j + k)
    have hr := run_store1 (P := P) hc hf (h1 v (by simp))
    have hs' := hs.set (v := v) hi hx
    have hil : i < L.length := (List.getElem?_eq_some_iff.1 hi).1
    obtain ⟨w', h2, h3⟩ := run_storeCells (i := i) (b := b) (t := t) vs (k + 1) j (L.set i (row b t (xs.set (j + k) v))) _ (xs.set (j + k) v) hs' (by simp [hil]) (fun u hu => h1 u (by simp [hu])) (by simp at hl ⊢; omega)
    refine ⟨w', ?_, ?_⟩
    · simp only [storeCells, add_lit, Sem.run_bind, hr, Result.andThen_ok, h2]
    · rw [List.set_set] at h3
      simpa [putAt, Nat.add_assoc] using h3
def Xq (P : Program) (n : Nat) (e : Env) (w : World) (d : Nat) (o : Op) (ty : TypeId) (pos : String) (af : Array Edge) (v : Value) : Prop :=
  ∀ a : Act, Agrees a n e → (execOp a.eval ⟨some d, o, ty, pos, af, none⟩).run P w = .ok (.value v) w
theorem oV {d : Nat} {o : Op} {v : Value} {ty : TypeId} {pos : String} {af : Array Edge} (hr : Xq P n e w d o ty pos af v) (hn : Nat.blt d n = true) (hk : Ops P n ops K rest ((d, v) :: e) w) : Ops P n ops K (⟨some d, o, ty, pos, af, none⟩ :: rest) e w :=
  Ops.val rfl rfl hn hr hk
theorem xMove {d : Nat} {x : Operand} {v : Value} {ty : TypeId} {pos : String} {af : Array Edge} (hx : e.ev x = some v) : Xq P n e w d (.move x) ty pos af (v) := fun a ha => by simp [execOp, ha.ev hx]
theorem xAssign {d : Nat} {x : Operand} {v : Value} {ty : TypeId} {pos : String} {af : Array Edge} (hx : e.ev x = some v) : Xq P n e w d (.assign x) ty pos af (v) := fun a ha => by simp [execOp, ha.ev hx]
theorem xPickT {d : Nat} {c x y : Operand} {v : Value} {ty : TypeId} {pos : String} {af : Array Edge} (hc : e.ev c = some (.bool true)) (hx : e.ev x = some v) : Xq P n e w d (.pick c x y) ty pos af (v) := fun a ha => by simp [execOp, ha.ev hx, ha.ev hc, asBool]
theorem xPickF {d : Nat} {c x y : Operand} {v : Value} {ty : TypeId} {pos : String} {af : Array Edge} (hc : e.ev c = some (.bool false)) (hx : e.ev y = some v) : Xq P n e w d (.pick c x y) ty pos af (v) := fun a ha => by simp [execOp, ha.ev hx, ha.ev hc, asBool]
theorem xNil {d : Nat} {x : Operand} {a0 : Addr} {ty : TypeId} {pos : String} {af : Array Edge} (hx : e.ev x = some (.pointer (some a0))) : Xq P n e w d (.nilCheck x) ty pos af (.pointer (some a0)) := fun a ha => by simp [execOp, ha.ev hx]
theorem xExtract {d i : Nat} {x : Operand} {vs : List Value} {v : Value} {ty : TypeId} {pos : String} {af : Array Edge} (hx : e.ev x = some (.tuple vs.toArray)) (hv : vs[i]? = some v) : Xq P n e w d (.extract x i) ty pos af (v) := fun a ha => by simp [execOp, ha.ev hx, Instr.extract, hv]
theorem xFA {d i b j j' k : Nat} {x : Operand} {s : TypeId} {fields : Array Field} {f : Field} {ty : TypeId} {pos : String} {af : Array Edge} (hu : P.underlying s = some (.struct fields)) (hf : fields[i]? = some f)
    (hsz : ∀ w, Sem.run P (sizeOf f.type) w = .ok (k + 1) w) (hx : e.ev x = some (.pointer (some ⟨b, j, none⟩))) (hj : j + f.offset = j') : Xq P n e w d (.fieldAddr s x i) ty pos af (.pointer (some ⟨b, j', none⟩)) := fun a ha => by
      subst hj
      simp [execOp, ha.ev hx, Instr.fieldAt, run_underlying hu, hf, Instr.sureAddr, fieldPlace, hsz, add_lit]
theorem xIA {d len cap b off sz o' : Nat} {ik : IntKind} {ix : Int} {x y : Operand} {s el : TypeId} {ty : TypeId} {pos : String} {af : Array Edge} (hu : P.underlying s = some (.slice el))
    (hsz : ∀ w, Sem.run P (sizeOf el) w = .ok sz w) (hx : e.ev x = some (.slice (some ⟨b, off, none⟩) len cap)) (hy : e.ev y = some (.int ik ix)) (h0 : 0 ≤ ix) (h1 : ix < len) (ho : off + ix.toNat * sz = o')
    : Xq P n e w d (.indexAddr s x y) ty pos af (.pointer (some ⟨b, o', none⟩)) := fun a ha => by
      subst ho
      simp [execOp, ha.ev hx, ha.ev hy, Instr.indexAt, run_underlying hu, asIntOf, h0, h1, hsz, add_lit]
theorem xIAA {d len b off sz o' : Nat} {ik : IntKind} {ix : Int} {x y : Operand} {s el : TypeId} {ty : TypeId} {pos : String} {af : Array Edge} (hu : P.underlying s = some (.array len el))
    (hsz : ∀ w, Sem.run P (sizeOf el) w = .ok sz w) (hx : e.ev x = some (.pointer (some ⟨b, off, none⟩))) (hy : e.ev y = some (.int ik ix)) (h0 : 0 ≤ ix) (h1 : ix < len) (ho : off + ix.toNat * sz = o')
    : Xq P n e w d (.indexAddr s x y) ty pos af (.pointer (some ⟨b, o', none⟩)) := fun a ha => by
      subst ho
      simp [execOp, ha.ev hx, ha.ev hy, Instr.indexAt, run_underlying hu, asIntOf, Instr.sureAddr, h0, h1, hsz, add_lit]
theorem xLoad {d i b j : Nat} {x : Operand} {t el : TypeId} {xs : List Value} {v : Value} {ty : TypeId} {pos : String} {af : Array Edge} (hs : Sep W0 w L) (hag : ∀ w, Sem.run P (isAgg t) w = .ok false w)
    (hx : e.ev x = some (.pointer (some ⟨b, j, none⟩))) (hi : L[i]? = some (row b el xs)) (hv : xs[j]? = some v) : Xq P n e w d (.load t x) ty pos af (v) := fun a ha => by
      have hc := hs.cell hi hv
      simp [execOp, ha.ev hx, Instr.loadAt, Instr.sureAddr, loadVar, hag, load, Sem.run, hc]
theorem xLoadC {d b j : Nat} {x : Operand} {t : TypeId} {v : Value} {ty : TypeId} {pos : String} {af : Array Edge} (hag : ∀ w, Sem.run P (isAgg t) w = .ok false w)
    (hx : e.ev x = some (.pointer (some ⟨b, j, none⟩))) (hc : w.cell? ⟨b, j, none⟩ = some v) : Xq P n e w d (.load t x) ty pos af (v) := fun a ha => by
      simp [execOp, ha.ev hx, Instr.loadAt, Instr.sureAddr, loadVar, hag, load, Sem.run, hc]
theorem xLoadG {d i b j k : Nat} {x : Operand} {t el : TypeId} {xs vs : List Value} {ty : TypeId} {pos : String} {af : Array Edge} (hs : Sep W0 w L) (hag : ∀ w, Sem.run P (isAgg t) w = .ok true w) (hsz : ∀ w, Sem.run P (sizeOf t) w = .ok k w)
    (hx : e.ev x = some (.pointer (some ⟨b, j, none⟩))) (hi : L[i]? = some (row b el xs)) (hv : takeAt xs j k = some vs) : Xq P n e w d (.load t x) ty pos af (.agg vs.toArray) := fun a ha => by
      have hc := run_loadCells (P := P) (w := w) (fun i v h => hs.cell hi h) hv
      simp [execOp, ha.ev hx, Instr.loadAt, Instr.sureAddr, loadVar, hag, hsz, hc]
theorem oStore {i b j : Nat} {x y : Operand} {t el : TypeId} {xs : List Value} {u v : Value} {ty : TypeId} {pos : String} {af : Array Edge} (hs : Sep W0 w L) (hsz : ∀ w, Sem.run P (sizeOf t) w = .ok 1 w)
    (hx : e.ev x = some (.pointer (some ⟨b, j, none⟩))) (hy : e.ev y = some v) (hv : v.oneCell' = true) (hi : L[i]? = some (row b el xs)) (hu : xs[j]? = some u)
    (hk : ∀ w', Sep W0 w' (L.set i (row b el (xs.set j v))) → Ops P n ops K rest e w') :
    Ops P n ops K (⟨none, .store t x y, ty, pos, af, none⟩ :: rest) e w := Ops.skipn rfl rfl (fun a ha => by
      have hc := run_store1 (P := P) (hs.cell hi hu) (hs.free hi) hv
      have hcells : v.cells = #[v] := by cases v <;> simp [Value.oneCell'] at hv <;> rfl
      simp [execOp, ha.ev hx, ha.ev hy, Instr.storeAt, Instr.sureAddr, storeVar, hsz, hcells, storeCells, add_lit, hc]) (hk _ (hs.set hi hu))
theorem oStoreG {i b j k : Nat} {x y : Operand} {t el : TypeId} {xs vs : List Value} {ty : TypeId} {pos : String} {af : Array Edge} (hs : Sep W0 w L) (hsz : ∀ w, Sem.run P (sizeOf t) w = .ok k w)
    (hx : e.ev x = some (.pointer (some ⟨b, j, none⟩))) (hy : e.ev y = some (.agg vs.toArray)) (hv : vs.all (·.oneCell') = true) (hl : vs.length = k) (hi : L[i]? = some (row b el xs)) (hu : Nat.ble (j + k) xs.length = true)
    (hk : ∀ w', Sep W0 w' (L.set i (row b el (putAt xs j vs))) → Ops P n ops K rest e w') :
    Ops P n ops K (⟨none, .store t x y, ty, pos, af, none⟩ :: rest) e w := by
  have hble : j + k ≤ xs.length := by simpa using hu
  obtain ⟨w', hr, hs'⟩ := run_storeCells (P := P) vs 0 j L w xs hs hi (by simpa using hv) (by omega)
  refine Ops.skipn (w' := w') rfl rfl (fun a ha => ?_) (hk _ (by simpa using hs'))
  simp [execOp, ha.ev hx, ha.ev hy, Instr.storeAt, Instr.sureAddr, storeVar, hsz, Value.cells, hl, hr]
theorem oAlloc {d : Nat} {el : TypeId} {z : Value} {ty : TypeId} {pos : String} {af : Array Edge} (hs : Sep W0 w L) (hz : ∀ w, Sem.run P (zeroValue el) w = .ok z w) {cs : List Value} (hc : z.cells = cs.toArray) (hn : Nat.blt d n = true)
    (hk : ∀ b w', Sep W0 w' (row b el cs :: L) → Ops P n ops K rest ((d, .pointer (some ⟨b, 0, none⟩)) :: e) w') :
    Ops P n ops K (⟨some d, .alloc el, ty, pos, af, none⟩ :: rest) e w :=
  Ops.val (w' := { w with heap := w.heap.push (.cells cs.toArray el) }) rfl rfl hn (fun a ha => by
    simp [execOp, Instr.alloc, hz, newVar, newRow, newObj, Sem.run, hc]) (hk _ _ (hs.newRow cs))
theorem oBox {d : Nat} {el : TypeId} {x : Operand} {v : Value} {ty : TypeId} {pos : String} {af : Array Edge} (hs : Sep W0 w L) (hx : e.ev x = some v) {cs : List Value} (hc : v.cells = cs.toArray) (hn : Nat.blt d n = true)
    (hk : ∀ b w', Sep W0 w' (row b el cs :: L) → Ops P n ops K rest ((d, .pointer (some ⟨b, 0, none⟩)) :: e) w') :
    Ops P n ops K (⟨some d, .box el x, ty, pos, af, none⟩ :: rest) e w :=
  Ops.val (w' := { w with heap := w.heap.push (.cells cs.toArray el) }) rfl rfl hn (fun a ha => by
    simp [execOp, ha.ev hx, Instr.box, newVar, newRow, newObj, Sem.run, hc]) (hk _ _ (hs.newRow cs))
theorem xBuild {d : Nat} {t : TypeId} {ps : List (Nat × Operand)} {vs : List (Nat × Value)} {v : Value} {ty : TypeId} {pos : String} {af : Array Edge} (hx : e.evp ps = some vs) (hr : ∀ w, Sem.run P (Instr.build t vs.toArray) w = .ok v w) : Xq P n e w d (.build t ps.toArray) ty pos af (v) := fun a ha => by
      have := ha.evp hx
      simp only [execOp, List.map_toArray, this, hr, Sem.run_bind, Result.andThen_ok, Sem.run_pure]
theorem oBuildSlice {d len : Nat} {t el : TypeId} {ps : List (Nat × Operand)} {vs : List (Nat × Value)} {cs : List Value} {ty : TypeId} {pos : String} {af : Array Edge} (hs : Sep W0 w L) (hx : e.evp ps = some vs)
    (hr : ∀ w, Sem.run P (Instr.buildSlice t len vs.toArray) w = .ok (.slice (some ⟨w.heap.size, 0, none⟩) len len) { w with heap := w.heap.push (.cells cs.toArray el) }) (hn : Nat.blt d n = true)
    (hk : ∀ b w', Sep W0 w' (row b el cs :: L) → Ops P n ops K rest ((d, .slice (some ⟨b, 0, none⟩) len len) :: e) w') :
    Ops P n ops K (⟨some d, .buildSlice t len ps.toArray, ty, pos, af, none⟩ :: rest) e w :=
  Ops.val (w' := { w with heap := w.heap.push (.cells cs.toArray el) }) rfl rfl hn (fun a ha => by
      have := ha.evp hx
      simp only [execOp, List.map_toArray, this, hr, Sem.run_bind, Result.andThen_ok, Sem.run_pure]) (hk _ _ (hs.newRow cs))
theorem xConv {d : Nat} {k k' : IntKind} {x : Operand} {s t : TypeId} {ds : TypeDesc} {i i' : Int} {ty : TypeId} {pos : String} {af : Array Edge} (h1 : P.underlying s = some ds) (h2 : P.underlying t = some (.int k')) (hx : e.ev x = some (.int k i)) (hw : k'.wrap i = i') : Xq P n e w d (.convert s t x) ty pos af (.int k' i') := fun a ha => by
      subst hw
      simp only [execOp, convert, ha.ev hx, Sem.run_bind, run_underlying h1, run_underlying h2, Result.andThen_ok]
      cases ds <;> simp [Conv.intToInt]
theorem xAr {d : Nat} {op : BinOp} {k : IntKind} {x y : Operand} {t t' : TypeId} {p q r : Int} {ty : TypeId} {pos : String} {af : Array Edge} (hx : e.ev x = some (.int k p)) (hy : e.ev y = some (.int k q))
    (hr : ∀ w, Sem.run P (binOp op t (.int k p) (.int k q)) w = .ok (.int k r) w) : Xq P n e w d (.binOp op t x y t') ty pos af (.int k r) := fun a ha => by
      have : eqGuard op t x y (.int k p) (.int k q) = pure () := by cases op <;> rfl
      simp only [execOp, ha.ev hx, ha.ev hy, this, Sem.run_bind, Sem.run_pure, Result.andThen_ok, hr]
theorem xCmp {d : Nat} {op : BinOp} {k : IntKind} {x y : Operand} {t t' : TypeId} {p q : Int} {r : Bool} {ty : TypeId} {pos : String} {af : Array Edge} (hx : e.ev x = some (.int k p)) (hy : e.ev y = some (.int k q))
    (hr : ∀ w, Sem.run P (binOp op t (.int k p) (.int k q)) w = .ok (.bool r) w) : Xq P n e w d (.binOp op t x y t') ty pos af (.bool r) := fun a ha => by
      have : eqGuard op t x y (.int k p) (.int k q) = pure () := by cases op <;> rfl
      simp only [execOp, ha.ev hx, ha.ev hy, this, Sem.run_bind, Sem.run_pure, Result.andThen_ok, hr]
theorem rAdd {k : IntKind} {t : TypeId} {p q r : Int} (h : k.wrap (p + q) = r) (w : World) : Sem.run P (binOp .add t (.int k p) (.int k q)) w = .ok (.int k r) w := by simp [binOp, Op.intArith, h]
theorem rSub {k : IntKind} {t : TypeId} {p q r : Int} (h : k.wrap (p - q) = r) (w : World) : Sem.run P (binOp .sub t (.int k p) (.int k q)) w = .ok (.int k r) w := by simp [binOp, Op.intArith, h]
theorem rMul {k : IntKind} {t : TypeId} {p q r : Int} (h : k.wrap (p * q) = r) (w : World) : Sem.run P (binOp .mul t (.int k p) (.int k q)) w = .ok (.int k r) w := by simp [binOp, Op.intArith, h]
theorem rQuo {k : IntKind} {t : TypeId} {p q r : Int} (h0 : q ≠ 0) (h : k.wrap (p.tdiv q) = r) (w : World) : Sem.run P (binOp .quo t (.int k p) (.int k q)) w = .ok (.int k r) w := by simp [binOp, Op.intDiv, h0, h]
theorem rRem {k : IntKind} {t : TypeId} {p q r : Int} (h0 : q ≠ 0) (h : p.tmod q = r) (w : World) : Sem.run P (binOp .rem t (.int k p) (.int k q)) w = .ok (.int k r) w := by simp [binOp, Op.intDiv, h0, h]
theorem rLss {k : IntKind} {t : TypeId} {p q : Int} (w : World) : Sem.run P (binOp .lss t (.int k p) (.int k q)) w = .ok (.bool (decide (p < q))) w := by simp [binOp, Op.intCmp]
theorem rLeq {k : IntKind} {t : TypeId} {p q : Int} (w : World) : Sem.run P (binOp .leq t (.int k p) (.int k q)) w = .ok (.bool (decide (p ≤ q))) w := by simp [binOp, Op.intCmp]
theorem rGtr {k : IntKind} {t : TypeId} {p q : Int} (w : World) : Sem.run P (binOp .gtr t (.int k p) (.int k q)) w = .ok (.bool (decide (q < p))) w := by simp [binOp, Op.intCmp]
theorem rGeq {k : IntKind} {t : TypeId} {p q : Int} (w : World) : Sem.run P (binOp .geq t (.int k p) (.int k q)) w = .ok (.bool (decide (q ≤ p))) w := by simp [binOp, Op.intCmp]
theorem rEql {k : IntKind} {t : TypeId} {p q : Int} (w : World) : Sem.run P (binOp .eql t (.int k p) (.int k q)) w = .ok (.bool (decide (p = q))) w := by simp [binOp, Op.intCmp]; rfl
theorem rNeq {k : IntKind} {t : TypeId} {p q : Int} (w : World) : Sem.run P (binOp .neq t (.int k p) (.int k q)) w = .ok (.bool (decide (p ≠ q))) w := by
  simp [binOp, Op.intCmp]; by_cases h : p = q <;> simp [h, bne]
theorem xNot {d : Nat} {t : TypeId} {x : Operand} {b : Bool} {ty : TypeId} {pos : String} {af : Array Edge} (hx : e.ev x = some (.bool b)) : Xq P n e w d (.unOp .not t x) ty pos af (.bool (!b)) := fun a ha => by simp [execOp, ha.ev hx, Op.unary]
theorem xUn {d : Nat} {op : UnOp} {t : TypeId} {x : Operand} {v r : Value} {ty : TypeId} {pos : String} {af : Array Edge} (hx : e.ev x = some v) (hr : ∀ w, Sem.run P (Op.unary op v) w = .ok r w) : Xq P n e w d (.unOp op t x) ty pos af (r) := fun a ha => by simp only [execOp, ha.ev hx, Sem.run_bind, hr, Result.andThen_ok, Sem.run_pure]
theorem xB1 {d : Nat} {B : Builtin} {t : TypeId} {xs : List Operand} {vs : List Value} {v : Value} {tys : Array TypeId} {pos : String} {af : Array Edge} (hx : e.evs xs = some vs)
    (hr : ∀ (cs : Array Bool) w, Sem.run P (builtin B tys t cs vs.toArray) w = .ok (.value v) w) : Xq P n e w d (.call ⟨.builtin B, xs.toArray, tys⟩) t pos af (v) := fun a ha => by
      have := ha.evs hx
      simp only [execOp, resolve, Sem.run_bind, Sem.run_pure, Result.andThen_ok, invoke, List.map_toArray, this, hr]
theorem rLenS {t s el : TypeId} {a0 : Option Addr} {len cap : Nat} (hu : P.underlying t = some (.slice el)) (cs : Array Bool) (w : World) : Sem.run P (builtin .len #[t] s cs [Value.slice a0 len cap].toArray) w = .ok (.value (.int .i64 len)) w := by
  simp [builtin, Builtin.len_, run_underlying hu, goInt]
theorem rLenStr {t s : TypeId} {b : ByteArray} (hu : P.underlying t = some .string) (cs : Array Bool) (w : World) : Sem.run P (builtin .len #[t] s cs [Value.string b].toArray) w = .ok (.value (.int .i64 b.size)) w := by
  simp [builtin, Builtin.len_, run_underlying hu, goInt]
theorem rMin {t s u : TypeId} {k : IntKind} {p q : Int} (cs : Array Bool) (w : World) : Sem.run P (builtin .min #[t, u] s cs [Value.int k p, Value.int k q].toArray) w = .ok (.value (.int k (if q < p then q else p))) w := by
  simp [builtin, Builtin.min_, Builtin.min2]
theorem rMax {t s u : TypeId} {k : IntKind} {p q : Int} (cs : Array Bool) (w : World) : Sem.run P (builtin .max #[t, u] s cs [Value.int k p, Value.int k q].toArray) w = .ok (.value (.int k (if p < q then q else p))) w := by
  simp [builtin, Builtin.max_, Builtin.max2]
end
end Go.Sl
namespace Go.Sl
theorem only_only_some (S : Nat → Bool) (h : HF) : only (fun b => S b && (h b).isSome) h = only S h := by
  funext b
  unfold only
  cases hS : S b <;> cases hb : h b <;> simp [hS, hb]
theorem wo_only_some (S : Nat → Bool) (h : HF) : wo (fun b => S b && (h b).isSome) h = wo S h := by
  funext b
  unfold wo
  cases hS : S b <;> cases hb : h b <;> simp [hS, hb]
theorem sepL_upd' {A : Asn} : ∀ {L : List Asn} {h : HF} {i : Nat}, L[i]? = some A → sepL L h →
    ∃ S : Nat → Bool, A (only S h) ∧ (∀ b, h b = none → S b = true) ∧ ∀ (h' : HF) (A' : Asn), (∀ b, S b = false → h' b = h b) → A' (only S h') → sepL (L.set i A') h'
  | [], _, _, hi, _ => by simp at hi
  | B :: L, h, 0, hi, ⟨S, hB, hL⟩ => by
    simp at hi
    subst hi
    refine ⟨fun b => S b || (h b).isNone, ?_, fun b hb => by simp [hb], fun h' A' he hA => ⟨_, hA, ?_⟩⟩
    · have : only (fun b => S b || (h b).isNone) h = only S h := by
        funext b; unfold only; cases hS : S b <;> cases hb : h b <;> simp [hS, hb]
      rw [this]; exact hB
    · have : wo (fun b => S b || (h b).isNone) h' = wo S h := by
        funext b
        unfold wo
        cases hS : S b
        · cases hb : h b
          · simp [hS, hb]
          · have := he b (by simp [hS, hb])
            simp [this, hS, hb]
        · simp [hS]
      rw [this]
      exact hL
  | B :: L, h, i + 1, hi, ⟨S0, hB0, hL0⟩ => by
    obtain ⟨S, hSd⟩ : ∃ S : Nat → Bool, S = fun b => S0 b && (h b).isSome := ⟨_, rfl⟩
    have hB : B (only S h) := by rw [hSd, only_only_some]; exact hB0
    have hL : sepL L (wo S h) := by rw [hSd, wo_only_some]; exact hL0
    have hSn : ∀ b, h b = none → S b = false := fun b hb => by simp [hSd, hb]
    clear hSd
    obtain ⟨T, hA, hTn, hT⟩ := sepL_upd' (L := L) (h := wo S h) (i := i) (by simpa using hi) hL
    refine ⟨fun b => !S b && T b, ?_, ?_, fun h' A' he hA' => ?_⟩
    · have : only (fun b => !S b && T b) h = only T (wo S h) := by
        funext b
        unfold only wo
        cases hS : S b <;> cases hT' : T b <;> simp [hS, hT']
      rw [this]
      exact hA
    · intro b hb
      have h1 := hSn b hb
      have h2 := hTn b (by simp [wo, h1, hb])
      simp [h1, h2]
    · have hoff : ∀ b, S b = true → h' b = h b := fun b hb => he b (by simp [hb])
      refine ⟨S, ?_, ?_⟩
      · have : only S h' = only S h := by
          funext b
          unfold only
          cases hS : S b
          · simp
          · simp [hoff b hS]
        rw [this]
        exact hB
      · refine hT (wo S h') A' ?_ ?_
        · intro b hb
          unfold wo
          cases hS : S b
          · simp [he b (by simp [hb])]
          · simp
        · have : only T (wo S h') = only (fun b => !S b && T b) h' := by
            funext b
            unfold only wo
            cases hS : S b <;> cases hT' : T b <;> simp [hS, hT']
          rw [this]
          exact hA'
section
variable {P : Program} {n : Nat} {K : Kont} {e : Env} {w w' : World} {ops : Array Oper} {rest : List Oper} {W0 : World} {L : List Asn}
theorem Sep.upd {i : Nat} {A : Asn} (hs : Sep W0 w L) (hi : L[i]? = some A) : ∃ S : Nat → Bool, A (only S (hfOf w)) ∧ (∀ b, w.heap.size ≤ b → S b = true) ∧
    ∀ (w' : World) (A' : Asn), w'.os = w.os → w'.tape = w.tape → w'.output = w.output → (∀ b, S b = false → w'.heap[b]? = w.heap[b]?) → A' (only S (hfOf w')) → Sep W0 w' (L.set i A') := by
  obtain ⟨S, hA, hn, hu⟩ := sepL_upd' hi hs.sep
  exact ⟨S, hA, fun b hb => hn b (by simp [hfOf, hb]), fun w' A' h1 h2 h3 he hA' => ⟨h1.trans hs.os, h2.trans hs.tape, h3.trans hs.output, hu _ A' he hA'⟩⟩
def Src (w : World) (size : Nat) (v : Value) (m : Nat) (news : List Value) : Prop :=
  news.length = m * size ∧ (∀ u ∈ news, u.oneCell' = true) ∧ ((∃ a c, v = .slice (some a) m c ∧ ∀ j u, news[j]? = some u → w.cell? (a.add j) = some u) ∨ (∃ c, v = .slice none 0 c ∧ m = 0))
theorem run_append_nothing {t ty el : TypeId} {i : TypeInfo} (ht : P.underlying t = some (.slice el)) (hi : P.info? el = some i) (a0 : Option Addr) (k cap c : Nat) (hk : k ≤ cap) :
    (Builtin.append_ #[t, t] ty #[.slice a0 k cap, .slice none 0 c]).run P w = .ok (.slice a0 k cap) w := by
  cases a0 <;> simp [Builtin.append_, run_underlying ht, sizeOf, typeInfo, hi, Builtin.lenOf, hk, Builtin.firstCells, storeCells]
theorem own_append {i : Nat} {t ty el : TypeId} {inf : TypeInfo} {z : Value} {size bytes : Nat} {v : Value} {k : Nat} {xs : List Value} {y : Value} {m : Nat} {news : List Value} (hs : Sep W0 w L) (hi : L[i]? = some (own el size v k xs))
    (ht : P.underlying t = some (.slice el)) (hinf : P.info? el = some inf) (hz : inf.zero = some z) (hsize : inf.size = size) (hby : inf.bytes = bytes) (hzs : z.cells.size = size) (hsz : 0 < size) (hsrc : Src w size y m news)
    (hb : (k + m) * bytes ≤ 140737488355328) (hm : k + m ≤ maxLen) :
    ∃ a' c' w', (Builtin.append_ #[t, t] ty #[v, y]).run P w = .ok (.slice a' (k + m) c') w' ∧ Sep W0 w' (L.set i (own el size (.slice a' (k + m) c') (k + m) (xs ++ news))) := by
  obtain ⟨S, ⟨hlen, hown⟩, hSn, hupd⟩ := hs.upd hi
  obtain ⟨hnl, hn1, hsrc⟩ := hsrc
  have hlen' : (xs ++ news).length = (k + m) * size := by rw [List.length_append, hlen, hnl, Nat.add_mul]
  subst hsize
  subst hby
  rcases hsrc with ⟨a, c, rfl, hcells⟩ | ⟨c, rfl, rfl⟩
  · rcases hown with ⟨rfl, rfl⟩ | ⟨g, cap, cur, rfl, hg, hkc, hcm, hcs, htk⟩
    · obtain ⟨v', w', hr, ho', hgr, _⟩ := run_append_own (P := P) w w.heap.size t ty el inf z inf.size inf.bytes ht hinf hz rfl rfl hzs hsz (.slice none 0 0) 0 xs ⟨by simpa using hlen, .inl ⟨rfl, rfl⟩⟩ a m c news hnl hcells hn1 hm hb (Nat.le_refl _)
      rcases ho'.2 with ⟨rfl, h0⟩ | ⟨g', cap', cur', rfl, hbg, hg', r1, r2, r3, r4⟩
      · rw [h0]
        refine ⟨none, 0, w', hr, hupd w' _ hgr.os hgr.tape hgr.output (fun b hb => ?_) ⟨by rw [hlen', h0], .inl ⟨rfl, rfl⟩⟩⟩
        have : b < w.heap.size := Nat.lt_of_not_le fun h => by rw [hSn b h] at hb; cases hb
        exact hgr.block b this (by simp [Value.ownBlock])
      · refine ⟨_, _, w', hr, hupd w' _ hgr.os hgr.tape hgr.output (fun b hb => ?_) ⟨hlen', .inr ⟨g', cap', cur', rfl, by simp [only, hSn g' hbg, hfOf, hg'], r1, r2, r3, r4⟩⟩⟩
        have : b < w.heap.size := Nat.lt_of_not_le fun h => by rw [hSn b h] at hb; cases hb
        exact hgr.block b this (by simp [Value.ownBlock])
    · obtain ⟨hSg, hg⟩ := only_of hg
      have hg : w.heap[g]? = some (.cells cur el (0, 0)) := hg
      by_cases hroom : k + m ≤ cap
      · have hfit : k * inf.size + news.length ≤ cur.size := by rw [hnl, hcs, ← Nat.add_mul]; exact Nat.mul_le_mul_right _ hroom
        have hr := run_append_room (P := P) w t ty el inf ht hinf g k cap cur hg a m c news hnl hcells hn1 hroom hfit
        refine ⟨_, _, _, hr, hupd _ _ rfl rfl rfl (fun b hb => setRow_other w g b _ (fun e => by subst e; rw [hSg] at hb; cases hb)) ⟨hlen', .inr ⟨g, cap, _, rfl, by simp only [only, hSg, hfOf]; exact setRow_heap w g cur _ el _ hg, hroom, hcm, ?_, ?_⟩⟩⟩
        · simp only [List.size_toArray, List.length_append, List.length_take, List.length_drop, Array.length_toList]
          omega
        · rw [htk, ← hlen']
          exact List.take_left
      · have hold : ∀ j u, xs[j]? = some u → w.cell? ((⟨g, 0, none⟩ : Addr).add j) = some u := by
          intro j u hu
          rw [add_lit, Nat.zero_add, cell_of_row w g j cur el (0, 0) hg]
          rw [← htk, List.getElem?_take] at hu
          split at hu
          · simpa using hu
          · cases hu
        have h63 : k + m ≤ 9223372036854775807 := by simp only [maxLen] at hm; omega
        have hr := run_append_grow (P := P) w t ty el inf z ht hinf hz ⟨g, 0, none⟩ k cap xs hlen hold a m c news hnl hcells (by omega) (by omega) (growslice_fits (by omega) hb)
        refine ⟨_, _, _, hr, hupd _ _ rfl rfl rfl (fun b hb => ?_) ⟨hlen', .inr ⟨w.heap.size, _, xs.toArray ++ news.toArray ++ Builtin.zeroCells z.cells (grownCap w (k + m) cap el - (k + m)), rfl, ?_, grownCap_ge w (k + m) cap el, grownCap_le_maxLen w (k + m) cap el hm, ?_, ?_⟩⟩⟩
        · have : b < w.heap.size := Nat.lt_of_not_le fun h => by rw [hSn b h] at hb; cases hb
          exact heap_alloc_old w.drew _ this
        · simp only [only, hSn _ (Nat.le_refl _), hfOf]
          exact heap_alloc_new w.drew _
        · have := grownCap_ge w (k + m) cap el
          simp only [Array.size_append, List.size_toArray, size_zeroCells, hzs, hlen, hnl, ← Nat.add_mul]
          congr 1
          omega
        · simp only [Array.toList_append, List.append_assoc]
          rw [← List.append_assoc, ← hlen']
          exact List.take_left
  · have hn : news = [] := List.eq_nil_of_length_eq_zero (by simpa using hnl)
    subst hn
    simp only [Nat.add_zero, List.append_nil]
    rcases hown with ⟨rfl, rfl⟩ | ⟨g, cap, cur, rfl, hg, hkc, hcm, hcs, htk⟩
    · exact ⟨none, 0, w, run_append_nothing ht hinf none 0 0 c (Nat.le_refl _), by rw [set_self hi]; exact hs⟩
    · exact ⟨_, cap, w, run_append_nothing ht hinf _ k cap c hkc, by rw [set_self hi]; exact hs⟩
theorem oAppend {d i : Nat} {x y : Operand} {t ty el : TypeId} {inf : TypeInfo} {z : Value} {size bytes : Nat} {v yv : Value} {k : Nat} {xs : List Value} {m : Nat} {news : List Value} {pos : String} {af : Array Edge} (hs : Sep W0 w L) (hi : L[i]? = some (own el size v k xs))
    (ht : P.underlying t = some (.slice el)) (hinf : P.info? el = some inf) (hz : inf.zero = some z) (hsize : inf.size = size) (hby : inf.bytes = bytes) (hzs : z.cells.size = size) (hsz : Nat.blt 0 size = true)
    (hx : e.ev x = some v) (hy : e.ev y = some yv) (hsrc : Src w size yv m news) (hb : (k + m) * bytes ≤ 140737488355328) (hm : k + m ≤ 9223372036854775807) (hn : Nat.blt d n = true)
    (hk : ∀ a' c' w', Sep W0 w' (L.set i (own el size (.slice a' (k + m) c') (k + m) (xs ++ news))) → Ops P n ops K rest ((d, .slice a' (k + m) c') :: e) w') :
    Ops P n ops K (⟨some d, .call ⟨.builtin .append, #[x, y], #[t, t]⟩, ty, pos, af, none⟩ :: rest) e w := by
  obtain ⟨a', c', w', hr, hs'⟩ := own_append (P := P) (ty := ty) hs hi ht hinf hz hsize hby hzs (by simpa using hsz) hsrc hb (by simpa [maxLen] using hm)
  refine Ops.val (w' := w') rfl rfl hn (fun a ha => ?_) (hk _ _ _ hs')
  simp only [execOp, resolve, invoke, builtin, Sem.run_bind, Sem.run_pure, Result.andThen_ok, List.map_toArray, List.map_cons, List.map_nil, ha.ev hx, ha.ev hy, hr]
theorem src_row {i b : Nat} {el : TypeId} {xs : List Value} {len cap size : Nat} (hs : Sep W0 w L) (hi : L[i]? = some (row b el xs)) (hl : xs.length = len * size) (h1 : xs.all (·.oneCell') = true) : Src w size (.slice (some ⟨b, 0, none⟩) len cap) len xs :=
  ⟨hl, by simpa using h1, .inl ⟨_, _, rfl, fun j u hu => by rw [add_lit, Nat.zero_add]; exact hs.cell hi hu⟩⟩
def Reads (f : HF) (size : Nat) (v : Value) (n : Nat) (cs : List Value) : Prop :=
  cs.length = n * size ∧ ((∃ b off cap c ty fr, v = .slice (some ⟨b, off, none⟩) n cap ∧ n ≤ cap ∧ f b = some (.cells c ty fr) ∧ ∀ (j : Nat) (u : Value), cs[j]? = some u → c[off + j]? = some u) ∨ (∃ a cap, v = .slice a 0 cap ∧ n = 0))
def FLe (f f' : HF) : Prop := ∀ b o, f b = some o → f' b = some o
theorem FLe.refl (f : HF) : FLe f f := fun _ _ h => h
theorem FLe.trans {f g h : HF} (h1 : FLe f g) (h2 : FLe g h) : FLe f h := fun b o hb => h2 b o (h1 b o hb)
theorem Reads.mono {f f' : HF} {size : Nat} {v : Value} {k : Nat} {cs : List Value} (h : Reads f size v k cs) (hf : FLe f f') : Reads f' size v k cs := by
  obtain ⟨h1, h2⟩ := h
  refine ⟨h1, ?_⟩
  rcases h2 with ⟨b, off, cap, c, ty, fr, rfl, hnc, hb, hc⟩ | h2
  · exact .inl ⟨b, off, cap, c, ty, fr, rfl, hnc, hf _ _ hb, hc⟩
  · exact .inr h2
theorem Sep.pool_heap {i : Nat} {f : HF} (hs : Sep W0 w L) (hi : L[i]? = some (pool f)) {b : Nat} {o : Obj} (hb : f b = some o) : w.heap[b]? = some o := by
  obtain ⟨S, h⟩ := sepL_at hi hs.sep
  exact (only_of (h b o hb)).2
theorem Reads.cap {f : HF} {size : Nat} {a : Option Addr} {k cap : Nat} {cs : List Value} (h : Reads f size (.slice a k cap) k cs) : k ≤ cap := by
  rcases h.2 with ⟨b, off, cap', c, ty, fr, he, hnc, _⟩ | ⟨a', cap', he, h0⟩
  · simp at he; omega
  · omega
theorem Reads.at {f : HF} {size : Nat} {a : Option Addr} {k cap : Nat} {cs : List Value} (h : Reads f size (.slice a k cap) k cs) (hk : 0 < k) : ∃ b off, a = some ⟨b, off, none⟩ := by
  rcases h.2 with ⟨b, off, cap', c, ty, fr, he, _⟩ | ⟨a', cap', he, h0⟩
  · simp at he; exact ⟨b, off, he.1⟩
  · omega
theorem Reads.cell {f : HF} {i size : Nat} {b off k cap j : Nat} {cs : List Value} {u : Value} (h : Reads f size (.slice (some ⟨b, off, none⟩) k cap) k cs) (hs : Sep W0 w L) (hi : L[i]? = some (pool f)) (hu : cs[j]? = some u) : w.cell? ⟨b, off + j, none⟩ = some u := by
  rcases h.2 with ⟨b', off', cap', c, ty, fr, he, hnc, hb, hc⟩ | ⟨a', cap', he, h0⟩
  · simp at he
    obtain ⟨⟨rfl, rfl⟩, rfl⟩ := he
    have := hs.pool_heap hi hb
    simp [World.cell?, this, hc j u hu]
  · have : cs = [] := List.eq_nil_of_length_eq_zero (by rw [h.1, h0]; simp)
    subst this
    simp at hu
theorem Reads.src {f : HF} {i size : Nat} {v : Value} {k : Nat} {cs : List Value} (h : Reads f size v k cs) (hs : Sep W0 w L) (hi : L[i]? = some (pool f)) (h1 : ∀ u ∈ cs, u.oneCell' = true) : Src w size v k cs := by
  refine ⟨h.1, h1, ?_⟩
  rcases h.2 with ⟨b, off, cap, c, ty, fr, rfl, hnc, hb, hc⟩ | ⟨a, cap, rfl, rfl⟩
  · exact .inl ⟨_, _, rfl, fun j u hu => by rw [add_lit]; exact h.cell hs hi hu⟩
  · cases a with
    | none => exact .inr ⟨_, rfl, rfl⟩
    | some a => exact .inl ⟨a, cap, rfl, fun j u hu => by
        have : cs = [] := List.eq_nil_of_length_eq_zero (by rw [h.1]; simp)
        subst this; simp at hu⟩
theorem src_own {i : Nat} {el : TypeId} {size : Nat} {v : Value} {k : Nat} {xs : List Value} (hs : Sep W0 w L) (hi : L[i]? = some (own el size v k xs)) (h1 : ∀ u ∈ xs, u.oneCell' = true) : Src w size v k xs := by
  obtain ⟨S, hl, h⟩ := sepL_at hi hs.sep
  refine ⟨hl, h1, ?_⟩
  rcases h with ⟨rfl, rfl⟩ | ⟨g, cap, cur, rfl, hg, _, _, _, htk⟩
  · exact .inr ⟨_, rfl, rfl⟩
  · refine .inl ⟨_, _, rfl, fun j u hu => ?_⟩
    have hg' : w.heap[g]? = some (.cells cur el (0, 0)) := (only_of hg).2
    rw [add_lit, Nat.zero_add, cell_of_row w g j cur el (0, 0) hg']
    rw [← htk, List.getElem?_take] at hu
    split at hu
    · simpa using hu
    · cases hu
theorem own_nil (el : TypeId) (size : Nat) (h : HF) : own el size (.slice none 0 0) 0 [] h := ⟨by simp, .inl ⟨rfl, rfl⟩⟩
theorem Sep.add {A : Asn} (hs : Sep W0 w L) (hA : ∀ h, A h) : Sep W0 w (A :: L) := ⟨hs.os, hs.tape, hs.output, ⟨fun _ => false, hA _, by
  have : wo (fun _ => false) (hfOf w) = hfOf w := rfl
  rw [this]; exact hs.sep⟩⟩
theorem Sep.nil (el : TypeId) (size : Nat) (hs : Sep W0 w L) : Sep W0 w (own el size (.slice none 0 0) 0 [] :: L) := hs.add (own_nil el size)
theorem sepL_wo : ∀ (L : List Asn) (S : Nat → Bool) (h : HF), sepL L (wo S h) → sepL L h
  | [], _, _, _ => trivial
  | B :: L, S, h, ⟨T, hB, hL⟩ => by
    refine ⟨fun b => !S b && T b, ?_, sepL_wo L S _ ?_⟩
    · have : only (fun b => !S b && T b) h = only T (wo S h) := by
        funext b; unfold only wo; cases hS : S b <;> cases hT' : T b <;> simp [hS, hT']
      rw [this]; exact hB
    · have : wo S (wo (fun b => !S b && T b) h) = wo T (wo S h) := by
        funext b; unfold wo; cases hS : S b <;> cases hT' : T b <;> simp [hS, hT']
      rw [this]; exact hL
theorem Sep.tail {A : Asn} (hs : Sep W0 w (A :: L)) : Sep W0 w L := by
  obtain ⟨S, _, h⟩ := hs.sep
  exact ⟨hs.os, hs.tape, hs.output, sepL_wo L S _ h⟩
theorem Sep.drop {i : Nat} {A : Asn} (hs : Sep W0 w L) (hi : L[i]? = some A) : Sep W0 w (L.eraseIdx i) := (hs.front hi).tail
end
end Go.Sl
namespace Go.Sl
section
variable {P : Program} {n : Nat} {K : Kont} {e : Env} {w w' : World} {ops : Array Oper} {rest : List Oper} {W0 : World} {L : List Asn}
theorem Sep.freeze {i : Nat} {f : HF} {A : Asn} (hs : Sep W0 w (pool f :: L)) (hi : L[i]? = some A) :
    ∃ f' g : HF, FLe f f' ∧ A g ∧ FLe g f' ∧ Sep W0 w (pool f' :: L.eraseIdx i) := by
  have h1 := sepL_cons (fun _ => sepL_front hi) hs.sep
  obtain ⟨S, hp, T, hA, hL⟩ := h1
  have hdis : ∀ b o, f b = some o → only T (wo S (hfOf w)) b = none := by
    intro b o hb
    have h2 := (only_of (hp b o hb)).1
    unfold only wo
    cases hT : T b <;> simp [h2]
  refine ⟨fun b => match f b with | some o => some o | none => only T (wo S (hfOf w)) b, only T (wo S (hfOf w)), fun b o hb => by simp [hb], hA, fun b o hb => ?_, ⟨hs.os, hs.tape, hs.output, fun b => S b || T b, ?_, ?_⟩⟩
  · cases hf : f b with
    | none => simpa [hf] using hb
    | some o' => rw [hdis b o' hf] at hb; cases hb
  · intro b o hb
    cases hf : f b with
    | some o' =>
      simp only [hf] at hb
      cases hb
      obtain ⟨h2, h3⟩ := only_of (hp b _ hf)
      simp [only, h2, h3]
    | none =>
      simp only [hf] at hb
      obtain ⟨h2, h3⟩ := only_of hb
      obtain ⟨h4, h5⟩ := wo_of h3
      simp [only, h2, h5]
  · have : wo (fun b => S b || T b) (hfOf w) = wo T (wo S (hfOf w)) := by
      funext b; unfold wo; cases hS : S b <;> cases hT' : T b <;> simp [hS, hT']
    rw [this]
    exact hL
theorem own_reads {el : TypeId} {size : Nat} {v : Value} {k : Nat} {xs : List Value} {g f : HF} (h : own el size v k xs g) (hf : FLe g f) : Reads f size v k xs := by
  obtain ⟨h1, h2⟩ := h
  refine ⟨h1, ?_⟩
  rcases h2 with ⟨rfl, rfl⟩ | ⟨b, cap, cur, rfl, hb, hnc, _, _, htk⟩
  · exact .inr ⟨_, _, rfl, rfl⟩
  · refine .inl ⟨b, 0, cap, cur, _, _, rfl, hnc, hf _ _ hb, fun j u hu => ?_⟩
    rw [← htk, List.getElem?_take] at hu
    split at hu
    · simpa using hu
    · cases hu
theorem row_reads {b : Nat} {el : TypeId} {size len cap : Nat} {xs : List Value} {g f : HF} (h : row b el xs g) (hf : FLe g f) (hl : xs.length = len * size) (hnc : len ≤ cap) : Reads f size (.slice (some ⟨b, 0, none⟩) len cap) len xs := by
  obtain ⟨c, hb, hc⟩ := h
  exact ⟨hl, .inl ⟨b, 0, cap, c, _, _, rfl, hnc, hf _ _ hb, fun j u hu => by simpa using hc j u hu⟩⟩
theorem Sep.freezeOwn {i : Nat} {f : HF} {el : TypeId} {size : Nat} {v : Value} {k : Nat} {xs : List Value} (hs : Sep W0 w (pool f :: L)) (hi : L[i]? = some (own el size v k xs)) :
    ∃ f' : HF, FLe f f' ∧ Reads f' size v k xs ∧ Sep W0 w (pool f' :: L.eraseIdx i) := by
  obtain ⟨f', g, h1, h2, h3, h4⟩ := hs.freeze hi
  exact ⟨f', h1, own_reads h2 h3, h4⟩
theorem Sep.freezeRow {i b : Nat} {f : HF} {el : TypeId} {size : Nat} {len : Nat} {xs : List Value} (hs : Sep W0 w (pool f :: L)) (hi : L[i]? = some (row b el xs)) (hl : xs.length = len * size) (cap : Nat) (hnc : len ≤ cap) :
    ∃ f' : HF, FLe f f' ∧ Reads f' size (.slice (some ⟨b, 0, none⟩) len cap) len xs ∧ Sep W0 w (pool f' :: L.eraseIdx i) := by
  obtain ⟨f', g, h1, h2, h3, h4⟩ := hs.freeze hi
  exact ⟨f', h1, row_reads h2 h3 hl hnc, h4⟩
theorem row_own {b : Nat} {el : TypeId} {size len cap : Nat} {xs : List Value} {c : Array Value} {h : HF} (hb : h b = some (.cells c el (0, 0))) (hc : c.toList.take (len * size) = xs) (hl : xs.length = len * size) (h1 : len ≤ cap) (h2 : cap ≤ maxLen) (h3 : c.size = cap * size) :
    own el size (.slice (some ⟨b, 0, none⟩) len cap) len xs h := ⟨hl, .inr ⟨b, cap, c, rfl, hb, h1, h2, h3, hc⟩⟩
theorem own_row {el : TypeId} {size : Nat} {a : Option Addr} {k cap : Nat} {xs : List Value} {h : HF} (ho : own el size (.slice a k cap) k xs h) (hk : 0 < k) : ∃ g, a = some ⟨g, 0, none⟩ ∧ row g el xs h := by
  obtain ⟨hl, h2⟩ := ho
  rcases h2 with ⟨he, h0⟩ | ⟨g, cap', cur, he, hb, _, _, _, htk⟩
  · omega
  · simp at he
    refine ⟨g, he.1, cur, hb, fun i v hv => ?_⟩
    rw [← htk, List.getElem?_take] at hv
    split at hv
    · simpa using hv
    · cases hv
theorem Sep.ownAddr {i : Nat} {el : TypeId} {size : Nat} {a : Option Addr} {k cap : Nat} {xs : List Value} (hs : Sep W0 w L) (hi : L[i]? = some (own el size (.slice a k cap) k xs)) (hk : 0 < k) : ∃ g, a = some ⟨g, 0, none⟩ := by
  obtain ⟨S, h⟩ := sepL_at hi hs.sep
  obtain ⟨g, h1, _⟩ := own_row h hk
  exact ⟨g, h1⟩
theorem Sep.ownCell {i : Nat} {el : TypeId} {size : Nat} {g k cap j : Nat} {xs : List Value} {u : Value} (hs : Sep W0 w L) (hi : L[i]? = some (own el size (.slice (some ⟨g, 0, none⟩) k cap) k xs)) (hu : xs[j]? = some u) : w.cell? ⟨g, j, none⟩ = some u := by
  obtain ⟨S, hl, h⟩ := sepL_at hi hs.sep
  rcases h with ⟨he, _⟩ | ⟨g', cap', cur, he, hb, _, _, _, htk⟩
  · cases he
  · simp at he
    obtain ⟨rfl, rfl⟩ := he
    have hg' : w.heap[g]? = some (.cells cur el (0, 0)) := (only_of hb).2
    rw [cell_of_row w g j cur el (0, 0) hg']
    rw [← htk, List.getElem?_take] at hu
    split at hu
    · simpa using hu
    · cases hu
theorem Sep.ownFree {i : Nat} {el : TypeId} {size : Nat} {g k cap j : Nat} {xs : List Value} (hs : Sep W0 w L) (hi : L[i]? = some (own el size (.slice (some ⟨g, 0, none⟩) k cap) k xs)) : w.frozen? ⟨g, j, none⟩ = false := by
  obtain ⟨S, hl, h⟩ := sepL_at hi hs.sep
  rcases h with ⟨he, _⟩ | ⟨g', cap', cur, he, hb, _, _, _, htk⟩
  · cases he
  · simp at he
    obtain ⟨rfl, rfl⟩ := he
    have hg' : w.heap[g]? = some (.cells cur el (0, 0)) := (only_of hb).2
    simp [World.frozen?, hg']
theorem Sep.ownSet {i : Nat} {el : TypeId} {size : Nat} {g k cap j : Nat} {xs : List Value} {u v : Value} (hs : Sep W0 w L) (hi : L[i]? = some (own el size (.slice (some ⟨g, 0, none⟩) k cap) k xs)) (hu : xs[j]? = some u) :
    Sep W0 (w.setCell ⟨g, j, none⟩ v) (L.set i (own el size (.slice (some ⟨g, 0, none⟩) k cap) k (xs.set j v))) := by
  obtain ⟨S, ⟨hl, h⟩, hSn, hupd⟩ := hs.upd hi
  rcases h with ⟨he, _⟩ | ⟨g', cap', cur, he, hb, h1, h2, h3, htk⟩
  · cases he
  · simp at he
    obtain ⟨rfl, rfl⟩ := he
    obtain ⟨hSg, hb⟩ := only_of hb
    have hb : w.heap[g]? = some (.cells cur el (0, 0)) := hb
    refine hupd _ _ rfl rfl rfl (fun b hSb => ?_) ⟨by simpa using hl, .inr ⟨g, cap, cur.setIfInBounds j v, rfl, ?_, h1, h2, by simpa using h3, ?_⟩⟩
    · exact hf_setCell w _ v b (fun e => by subst e; simp [hSg] at hSb)
    · simp only [only, hSg, hfOf, World.setCell, Array.getElem?_modify]
      simp [hb]
    · rw [Array.toList_setIfInBounds, List.take_set, htk]
theorem oStoreO {i g k cap j size : Nat} {x y : Operand} {t el : TypeId} {xs : List Value} {u v : Value} {ty : TypeId} {pos : String} {af : Array Edge} (hs : Sep W0 w L) (hsz : ∀ w, Sem.run P (sizeOf t) w = .ok 1 w)
    (hx : e.ev x = some (.pointer (some ⟨g, j, none⟩))) (hy : e.ev y = some v) (hv : v.oneCell' = true) (hi : L[i]? = some (own el size (.slice (some ⟨g, 0, none⟩) k cap) k xs)) (hu : xs[j]? = some u)
    (hk : ∀ w', Sep W0 w' (L.set i (own el size (.slice (some ⟨g, 0, none⟩) k cap) k (xs.set j v))) → Ops P n ops K rest e w') :
    Ops P n ops K (⟨none, .store t x y, ty, pos, af, none⟩ :: rest) e w := Ops.skipn rfl rfl (fun a ha => by
      have hc := run_store1 (P := P) (hs.ownCell hi hu) (hs.ownFree hi) hv
      have hcells : v.cells = #[v] := by cases v <;> simp [Value.oneCell'] at hv <;> rfl
      simp [execOp, ha.ev hx, ha.ev hy, Instr.storeAt, Instr.sureAddr, storeVar, hsz, hcells, storeCells, add_lit, hc]) (hk _ (hs.ownSet hi hu))
theorem oBuildSliceO {d len size : Nat} {t el : TypeId} {ps : List (Nat × Operand)} {vs : List (Nat × Value)} {cs : List Value} {ty : TypeId} {pos : String} {af : Array Edge} (hs : Sep W0 w L) (hx : e.evp ps = some vs)
    (hr : ∀ w, Sem.run P (Instr.buildSlice t len vs.toArray) w = .ok (.slice (some ⟨w.heap.size, 0, none⟩) len len) { w with heap := w.heap.push (.cells cs.toArray el) }) (hl : cs.length = len * size) (hm : Nat.ble len 16777216 = true) (hn : Nat.blt d n = true)
    (hk : ∀ b w', Sep W0 w' (own el size (.slice (some ⟨b, 0, none⟩) len len) len cs :: L) → Ops P n ops K rest ((d, .slice (some ⟨b, 0, none⟩) len len) :: e) w') :
    Ops P n ops K (⟨some d, .buildSlice t len ps.toArray, ty, pos, af, none⟩ :: rest) e w :=
  Ops.val (w' := { w with heap := w.heap.push (.cells cs.toArray el) }) rfl rfl hn (fun a ha => by
      have := ha.evp hx
      simp only [execOp, List.map_toArray, this, hr, Sem.run_bind, Result.andThen_ok, Sem.run_pure]) (hk w.heap.size _ (hs.new fun h hb => row_own hb (by simp [← hl]) hl (Nat.le_refl _) (by
        have h1 : len ≤ 16777216 := by simpa using hm
        simp only [maxLen]; omega) (by simpa using hl)))
theorem made_one (z : Value) (hz : z.cells = #[z]) (k : Nat) : (madeCells z.cells k).toList = List.replicate k z := by
  apply List.ext_getElem
  · simp [size_madeCells]
  · intro i h1 h2
    simp [madeCells, hz, Nat.mod_one]
theorem oMake {d : Nat} {x y : Operand} {t el : TypeId} {inf : TypeInfo} {z : Value} {size bytes k c : Nat} {k1 k2 : IntKind} {i1 i2 : Int} {ty : TypeId} {pos : String} {af : Array Edge} (hs : Sep W0 w L)
    (ht : P.underlying t = some (.slice el)) (hinf : P.info? el = some inf) (hz : inf.zero = some z) (hsize : inf.size = size) (hby : inf.bytes = bytes)
    (hx : e.ev x = some (.int k1 i1)) (hy : e.ev y = some (.int k2 i2)) (h1 : i1 = (k : Int)) (h2 : i2 = (c : Int)) (hkc : k ≤ c) (hb : bytes * c ≤ 281474976710656) (hm : c ≤ 9223372036854775807) (hn : Nat.blt d n = true)
    (hk : ∀ b w', Sep W0 w' (own el size (.slice (some ⟨b, 0, none⟩) k c) k ((madeCells z.cells (c * size)).toList.take (k * size)) :: L) → Ops P n ops K rest ((d, .slice (some ⟨b, 0, none⟩) k c) :: e) w') :
    Ops P n ops K (⟨some d, .makeSlice t x y, ty, pos, af, none⟩ :: rest) e w := by
  subst h1 h2 hsize hby
  have hb' : (inf.bytes : Int) * (c : Int) ≤ 281474976710656 := by
    have h : ((inf.bytes * c : Nat) : Int) ≤ 281474976710656 := by omega
    rwa [Int.natCast_mul] at h
  have hr := run_make (P := P) w t el inf z ht hinf hz k1 k2 k c (by omega) (by omega) hb' (by omega)
  simp only [Int.toNat_natCast] at hr
  refine Ops.val rfl rfl hn (fun a ha => ?_) (hk w.heap.size (w.alloc (.cells (madeCells z.cells (c * inf.size)) el)) ?_)
  · simp only [execOp, ha.ev hx, ha.ev hy, Sem.run_bind, hr, Result.andThen_ok, Sem.run_pure]
  · refine hs.new fun h hb => row_own hb rfl ?_ hkc (by simpa [maxLen] using hm) (size_madeCells _ _)
    simp [size_madeCells]
    rw [Nat.min_eq_left hkc]
end
end Go.Sl
namespace Go.Sl
section
variable {P : Program} {W0 w : World} {L : List Asn}
theorem sepL_app : ∀ (M L : List Asn) (h : HF), sepL (sepL M :: L) h → sepL (M ++ L) h
  | [], L, h, ⟨S, _, hL⟩ => sepL_wo L S h hL
  | A :: M, L, h, ⟨S, ⟨T, hA, hM⟩, hL⟩ => by
    refine ⟨fun b => S b && T b, ?_, sepL_app M L _ ⟨fun b => S b && !T b, ?_, ?_⟩⟩
    · have : only (fun b => S b && T b) h = only T (only S h) := by
        funext b; unfold only; cases hS : S b <;> cases hT' : T b <;> simp [hS, hT']
      rw [this]; exact hA
    · have : only (fun b => S b && !T b) (wo (fun b => S b && T b) h) = wo T (only S h) := by
        funext b; unfold wo only; cases hS : S b <;> cases hT' : T b <;> simp [hS, hT']
      rw [this]; exact hM
    · have : wo (fun b => S b && !T b) (wo (fun b => S b && T b) h) = wo S h := by
        funext b; unfold wo; cases hS : S b <;> cases hT' : T b <;> simp [hS, hT']
      rw [this]; exact hL
theorem sepL_grp : ∀ (M L : List Asn) (h : HF), sepL (M ++ L) h → sepL (sepL M :: L) h
  | [], L, h, hL => ⟨fun _ => false, trivial, by
      have : wo (fun _ => false) h = h := rfl
      rw [this]; exact hL⟩
  | A :: M, L, h, ⟨S, hA, hL⟩ => by
    obtain ⟨T, hM, hL⟩ := sepL_grp M L _ hL
    refine ⟨fun b => S b || T b, ⟨S, ?_, ?_⟩, ?_⟩
    · have : only S (only (fun b => S b || T b) h) = only S h := by
        funext b; unfold only; cases hS : S b <;> cases hT' : T b <;> simp [hS, hT']
      rw [this]; exact hA
    · have : sepL M (wo S (only (fun b => S b || T b) h)) := by
        have h2 : only T (wo S h) = wo S (only (fun b => S b || T b) h) := by
          funext b; unfold wo only; cases hS : S b <;> cases hT' : T b <;> simp [hS, hT']
        rw [← h2]; exact hM
      exact this
    · have : wo (fun b => S b || T b) h = wo T (wo S h) := by
        funext b; unfold wo; cases hS : S b <;> cases hT' : T b <;> simp [hS, hT']
      rw [this]; exact hL
theorem Sep.open {M : List Asn} (hs : Sep W0 w (sepL M :: L)) : Sep W0 w (M ++ L) := ⟨hs.os, hs.tape, hs.output, sepL_app M L _ hs.sep⟩
theorem Sep.shut (M : List Asn) (hs : Sep W0 w (M ++ L)) : Sep W0 w (sepL M :: L) := ⟨hs.os, hs.tape, hs.output, sepL_grp M L _ hs.sep⟩
theorem Sep.ex {α : Type} {A : α → Asn} (hs : Sep W0 w ((fun h => ∃ x, A x h) :: L)) : ∃ x, Sep W0 w (A x :: L) := by
  obtain ⟨S, ⟨x, hA⟩, hL⟩ := hs.sep
  exact ⟨x, hs.os, hs.tape, hs.output, S, hA, hL⟩
theorem Sep.intro {α : Type} {A : α → Asn} (x : α) (hs : Sep W0 w (A x :: L)) : Sep W0 w ((fun h => ∃ x, A x h) :: L) := by
  obtain ⟨S, hA, hL⟩ := hs.sep
  exact ⟨hs.os, hs.tape, hs.output, S, ⟨x, hA⟩, hL⟩
theorem Sep.pure {φ : Prop} {A : Asn} (hs : Sep W0 w ((fun h => φ ∧ A h) :: L)) : φ ∧ Sep W0 w (A :: L) := by
  obtain ⟨S, ⟨hφ, hA⟩, hL⟩ := hs.sep
  exact ⟨hφ, hs.os, hs.tape, hs.output, S, hA, hL⟩
theorem Sep.mkPure {φ : Prop} {A : Asn} (hφ : φ) (hs : Sep W0 w (A :: L)) : Sep W0 w ((fun h => φ ∧ A h) :: L) := by
  obtain ⟨S, hA, hL⟩ := hs.sep
  exact ⟨hs.os, hs.tape, hs.output, S, ⟨hφ, hA⟩, hL⟩
end
abbrev B (c : UInt8) : Value := .int .u8 c.toNat
abbrev H (c : UInt16) : Value := .int .u16 c.toNat
abbrev U (c : UInt32) : Value := .int .u32 c.toNat
abbrev Q (c : UInt64) : Value := .int .u64 c.toNat
abbrev I (i : Int) : Value := .int .i64 i
abbrev ptr (b : Nat) : Value := .pointer (some ⟨b, 0, none⟩)
theorem wI {i : Int} (h1 : -9223372036854775808 ≤ i) (h2 : i ≤ 9223372036854775807) : IntKind.i64.wrap i = i := by rw [IntKind.wrap_i64]; omega
theorem rShr64 {P : Program} {t : TypeId} {c : UInt64} {s : Nat} (hs : s < 64) (k : IntKind) (w : World) : Sem.run P (binOp .shr t (Q c) (.int k (s : Int))) w = .ok (Q (c >>> UInt64.ofNat s)) w := by
  have h0 : ¬ ((s : Int) < 0) := by omega
  have h1 : (c >>> UInt64.ofNat s).toNat = c.toNat / 2 ^ s := by
    rw [UInt64.toNat_shiftRight]
    have : (UInt64.ofNat s).toNat = s := by simp; omega
    rw [this, Nat.mod_eq_of_lt hs, Nat.shiftRight_eq_div_pow]
  simp only [binOp, Op.shift, h0, if_false, IntKind.bits, Int.toNat_natCast, Nat.min_eq_left (Nat.le_of_lt hs)]
  show Result.ok (Value.int .u64 ((c.toNat : Int).fdiv (2 ^ s))) w = _
  congr 2
  rw [h1, Int.fdiv_eq_ediv_of_nonneg _ (by exact_mod_cast Nat.zero_le _)]
  push_cast
  rfl
end Go.Sl
namespace Go.Sl
theorem Sep.f1 {W0 w : World} {A B : Asn} {L : List Asn} (h : Sep W0 w (A :: B :: L)) : Sep W0 w (B :: A :: L) := Sep.front (i := 1) rfl h
theorem Sep.f2 {W0 w : World} {A B C : Asn} {L : List Asn} (h : Sep W0 w (A :: B :: C :: L)) : Sep W0 w (C :: A :: B :: L) := Sep.front (i := 2) rfl h
theorem Sep.f3 {W0 w : World} {A B C D : Asn} {L : List Asn} (h : Sep W0 w (A :: B :: C :: D :: L)) : Sep W0 w (D :: A :: B :: C :: L) := Sep.front (i := 3) rfl h
theorem Sep.f4 {W0 w : World} {A B C D E : Asn} {L : List Asn} (h : Sep W0 w (A :: B :: C :: D :: E :: L)) : Sep W0 w (E :: A :: B :: C :: D :: L) := Sep.front (i := 4) rfl h
theorem Sep.f5 {W0 w : World} {A B C D E F : Asn} {L : List Asn} (h : Sep W0 w (A :: B :: C :: D :: E :: F :: L)) : Sep W0 w (F :: A :: B :: C :: D :: E :: L) := Sep.front (i := 5) rfl h
theorem Sep.f6 {W0 w : World} {A B C D E F G : Asn} {L : List Asn} (h : Sep W0 w (A :: B :: C :: D :: E :: F :: G :: L)) : Sep W0 w (G :: A :: B :: C :: D :: E :: F :: L) := Sep.front (i := 6) rfl h
theorem Sep.f7 {W0 w : World} {A B C D E F G H : Asn} {L : List Asn} (h : Sep W0 w (A :: B :: C :: D :: E :: F :: G :: H :: L)) : Sep W0 w (H :: A :: B :: C :: D :: E :: F :: G :: L) := Sep.front (i := 7) rfl h
theorem Sep.f8 {W0 w : World} {A B C D E F G H I : Asn} {L : List Asn} (h : Sep W0 w (A :: B :: C :: D :: E :: F :: G :: H :: I :: L)) : Sep W0 w (I :: A :: B :: C :: D :: E :: F :: G :: H :: L) := Sep.front (i := 8) rfl h
theorem Sep.f9 {W0 w : World} {A B C D E F G H I J : Asn} {L : List Asn} (h : Sep W0 w (A :: B :: C :: D :: E :: F :: G :: H :: I :: J :: L)) : Sep W0 w (J :: A :: B :: C :: D :: E :: F :: G :: H :: I :: L) := Sep.front (i := 9) rfl h
theorem Sep.d0 {W0 w : World} {A : Asn} {L : List Asn} (h : Sep W0 w (A :: L)) : Sep W0 w (L) := Sep.drop (i := 0) h rfl
theorem Sep.d1 {W0 w : World} {A B : Asn} {L : List Asn} (h : Sep W0 w (A :: B :: L)) : Sep W0 w (A :: L) := Sep.drop (i := 1) h rfl
theorem Sep.d2 {W0 w : World} {A B C : Asn} {L : List Asn} (h : Sep W0 w (A :: B :: C :: L)) : Sep W0 w (A :: B :: L) := Sep.drop (i := 2) h rfl
theorem Sep.d3 {W0 w : World} {A B C D : Asn} {L : List Asn} (h : Sep W0 w (A :: B :: C :: D :: L)) : Sep W0 w (A :: B :: C :: L) := Sep.drop (i := 3) h rfl
theorem Sep.d4 {W0 w : World} {A B C D E : Asn} {L : List Asn} (h : Sep W0 w (A :: B :: C :: D :: E :: L)) : Sep W0 w (A :: B :: C :: D :: L) := Sep.drop (i := 4) h rfl
theorem Sep.d5 {W0 w : World} {A B C D E F : Asn} {L : List Asn} (h : Sep W0 w (A :: B :: C :: D :: E :: F :: L)) : Sep W0 w (A :: B :: C :: D :: E :: L) := Sep.drop (i := 5) h rfl
theorem Sep.d6 {W0 w : World} {A B C D E F G : Asn} {L : List Asn} (h : Sep W0 w (A :: B :: C :: D :: E :: F :: G :: L)) : Sep W0 w (A :: B :: C :: D :: E :: F :: L) := Sep.drop (i := 6) h rfl
theorem Sep.d7 {W0 w : World} {A B C D E F G H : Asn} {L : List Asn} (h : Sep W0 w (A :: B :: C :: D :: E :: F :: G :: H :: L)) : Sep W0 w (A :: B :: C :: D :: E :: F :: G :: L) := Sep.drop (i := 7) h rfl
theorem Sep.d8 {W0 w : World} {A B C D E F G H I : Asn} {L : List Asn} (h : Sep W0 w (A :: B :: C :: D :: E :: F :: G :: H :: I :: L)) : Sep W0 w (A :: B :: C :: D :: E :: F :: G :: H :: L) := Sep.drop (i := 8) h rfl
theorem Sep.d9 {W0 w : World} {A B C D E F G H I J : Asn} {L : List Asn} (h : Sep W0 w (A :: B :: C :: D :: E :: F :: G :: H :: I :: J :: L)) : Sep W0 w (A :: B :: C :: D :: E :: F :: G :: H :: I :: L) := Sep.drop (i := 9) h rfl
end Go.Sl
namespace Go.Sl
section
variable {P : Program} {n : Nat} {K : Kont} {e : Env} {w : World} {ops : Array Oper} {rest : List Oper} {W0 : World} {L : List Asn} {C : World → Prop} {J : Env → Prop}
def OpsQ (P : Program) (n : Nat) (ops : Array Oper) (C : World → Prop) (J : Env → Prop) (rest : List Oper) (e : Env) : Prop :=
  ∀ a : Act, Agrees a n e → wpQuiet P ops C (fun a => ∃ e, Agrees a n e ∧ J e) rest a
theorem qEnd (h : J e) : OpsQ P n ops C J [] e := fun _ ha => ⟨e, ha, h⟩
theorem qV {d : Nat} {o : Op} {v : Value} {ty : TypeId} {pos : String} {af : Array Edge} (hr : ∀ w, C w → Xq P n e w d o ty pos af v) (hn : Nat.blt d n = true) (hk : OpsQ P n ops C J rest ((d, v) :: e)) : OpsQ P n ops C J (⟨some d, o, ty, pos, af, none⟩ :: rest) e := fun a ha => by
  unfold wpQuiet
  simp only [Region.wanted, if_true]
  exact ⟨v, fun w hC => by unfold Oper.quietAt; rw [hr w hC a ha]; exact ⟨rfl, rfl⟩, hk _ (ha.put hn v)⟩
theorem qGuardT {d : Option Tmp} {o : Op} {ty : TypeId} {pos : String} {af : Array Edge} {j dj : Nat} {b : Bool} (hj : (ops[j]?).bind (·.dst) = some dj) (hb : e.get dj = some (.bool b))
    (h : OpsQ P n ops C J (⟨d, o, ty, pos, af, none⟩ :: rest) e) : OpsQ P n ops C J (⟨d, o, ty, pos, af, some (j, b)⟩ :: rest) e := fun a ha => by
  have h1 := ha.get dj _ hb
  have hy : yielded ops a.tmps j = some b := by simp [yielded, hj, h1]
  have h2 := h a ha
  unfold wpQuiet at h2 ⊢
  simp only [Region.wanted, if_true, hy, beq_self_eq_true] at h2 ⊢
  exact h2
theorem qGuardF {d : Nat} {o : Op} {ty : TypeId} {pos : String} {af : Array Edge} {j dj : Nat} {b c : Bool} (hj : (ops[j]?).bind (·.dst) = some dj) (hb : e.get dj = some (.bool c)) (hne : (c == b) = false) (hn : Nat.blt d n = true)
    (h : OpsQ P n ops C J rest ((d, undef) :: e)) : OpsQ P n ops C J (⟨some d, o, ty, pos, af, some (j, b)⟩ :: rest) e := fun a ha => by
  have h1 := ha.get dj _ hb
  have hy : yielded ops a.tmps j = some c := by simp [yielded, hj, h1]
  unfold wpQuiet
  have hw : Region.wanted ⟨some d, o, ty, pos, af, some (j, b)⟩ (yielded ops a.tmps) = false := by
    simp [Region.wanted, hy]
    simpa using hne
  simp only [hw, Bool.false_eq_true, if_false]
  exact h _ (ha.put hn undef)
theorem rRegQ {id : Nat} {l : List Oper} (hm : P.follows .mixedOrders = true) (hB : Region.lexB .any l.toArray = true) (hs : Sep W0 w L)
    (h : OpsQ P n l.toArray (fun w => Sep W0 w L) (fun e => ∀ w, Sep W0 w L → K .normal e w) l e) : Run P n (.region id l.toArray true) K e w := fun a ha => by
  refine wp_region_quiet (C := fun w => Sep W0 w L) hm hB (hs.same rfl rfl rfl rfl) ?_
  have key : ∀ (l : List Oper) (ops : Array Oper) (a : Act), wpQuiet P ops (fun w => Sep W0 w L) (fun a => ∃ e, Agrees a n e ∧ ∀ w, Sep W0 w L → K .normal e w) l a → wpQuiet P ops (fun w => Sep W0 w L) (fun a' => ∀ w', Sep W0 w' L → lift n K .normal a' w') l a := by
    intro l ops
    induction l with
    | nil => intro a ⟨e, h1, h2⟩ w' hw'; exact ⟨e, h1, h2 w' hw'⟩
    | cons o l ih =>
      intro a h
      unfold wpQuiet at h ⊢
      split
      · rename_i hw
        simp only [hw, if_true] at h
        exact Oper.quiet_mono ih h
      · rename_i hw
        simp only [hw] at h
        exact ih _ h
  exact key l _ a (h a ha)
end
def NoPanicL (Q : Exit → Act → World → Prop) : Exit → Act → World → Prop
  | .panic _, _, _ => False
  | x, a, w => Q x a w
abbrev Facts := List (Option Nat × (World → Prop))
def Facts.at : Facts → Array Bool → World → Prop
  | [], _, _ => True
  | (none, A) :: r, l, w => A w ∧ Facts.at r l w
  | (some j, A) :: r, l, w => (l.getD j true = false → A w) ∧ Facts.at r l w
def Facts.tills : Facts → List Nat
  | [] => []
  | (none, _) :: r => Facts.tills r
  | (some j, _) :: r => j :: Facts.tills r
theorem Facts.at_get {fs : Facts} : ∀ {k : Nat} {u : Option Nat} {A : World → Prop} {l : Array Bool} {w : World}, fs[k]? = some (u, A) → fs.at l w → (∀ j, u = some j → l.getD j true = false) → A w := by
  induction fs with
  | nil => intro k u A l w h; simp at h
  | cons p r ih =>
    intro k u A l w h hf hu
    obtain ⟨u', A'⟩ := p
    cases k with
    | zero =>
      simp at h
      obtain ⟨rfl, rfl⟩ := h
      cases u' with
      | none => exact hf.1
      | some j => exact hf.1 (hu j rfl)
    | succ k =>
      cases u' with
      | none => exact ih (by simpa using h) hf.2 hu
      | some j => exact ih (by simpa using h) hf.2 hu
theorem Facts.at_set {fs : Facts} {i : Nat} : (fs.tills.contains i) = false → ∀ {l : Array Bool} {w : World}, fs.at (l.setIfInBounds i true) w ↔ fs.at l w := by
  induction fs with
  | nil => intro _ l w; exact Iff.rfl
  | cons p r ih =>
    intro hc l w
    obtain ⟨u, A⟩ := p
    cases u with
    | none => exact and_congr Iff.rfl (ih (by simpa [Facts.tills] using hc))
    | some j =>
      simp only [Facts.tills, List.contains_cons, Bool.or_eq_false_iff] at hc
      have hne : j ≠ i := fun e => by subst e; simp at hc
      refine and_congr ?_ (ih hc.2)
      rw [getD_set_ne true (Ne.symm hne)]
section
variable {P : Program} {ops : Array Oper} {Q : Exit → Act → World → Prop} {md : Region.Mode} {S : Array Bool → World → Prop}
def wpAnyG (P : Program) (md : Region.Mode) (ops : Array Oper) (Q : Exit → Act → World → Prop) (S : Array Bool → World → Prop) : Nat → Array Bool → Act → World → Prop
  | 0, listed, a, w => Region.ready md ops listed = [] ∧ Q .normal a w
  | fuel + 1, listed, a, w =>
    (Region.ready md ops listed = [] → Q .normal a w) ∧
    ∀ i ∈ Region.ready md ops listed, wpOp P ops Q i (fun a' w' => S (listed.setIfInBounds i true) w' ∧ wpAnyG P md ops Q S fuel (listed.setIfInBounds i true) a' w') a w
theorem wpAny_of_G : ∀ (fuel : Nat) (listed : Array Bool) (a : Act) (w : World), wpAnyG P md ops Q S fuel listed a w → wpAny P md ops Q fuel listed a w
  | 0, _, _, _, h => h
  | fuel + 1, _, _, _, h => ⟨h.1, fun i hi => wpOp_mono (fun a' w' h' => wpAny_of_G fuel _ a' w' h'.2) (h.2 i hi)⟩
def Early (md : Region.Mode) (ops : Array Oper) (i : Nat) (l : Array Bool) : Prop := ∀ (j : Nat) (oj : Oper), ops[j]? = some oj → (∃ e ∈ oj.after, Region.binds md e = true ∧ e.on = i) → l.getD j true = false
theorem wpAnyG_first {i : Nat} {oi : Oper} {v : Value} {T : World → Prop} (hi : ops[i]? = some oi) (hsel : ∀ (j : Nat) (o : Oper) cs b, ops[j]? = some o → o.op ≠ .select cs b)
    (hQ : ∀ c a w, Q (.panic c) (a.put oi.dst v) w → Q (.panic c) a w) (hSi : ∀ l w, S (l.setIfInBounds i true) w ↔ S l w) (hST : ∀ l w, Early md ops i l → S l w → T w) :
    ∀ (fuel : Nat) (listed : Array Bool) (a : Act) (w : World),
      (∀ j oj, ops[j]? = some oj → j ≠ i → listed.getD j true = false → (∀ e ∈ oj.after, Region.binds md e = true → e.on ≠ i) → oi.apart ops oj = true) →
      i ∈ Region.ready md ops listed → Early md ops i listed → YieldsIf P ops T oi v a → S listed w →
      wpAnyG P md ops Q S fuel (listed.setIfInBounds i true) (a.put oi.dst v) w → wpAnyG P md ops Q S (fuel + 1) listed a w := by
  intro fuel
  induction fuel with
  | zero =>
    intro listed a w _ hr he hy hS H
    refine ⟨fun h => (by rw [h] at hr; cases hr), fun j hj => ?_⟩
    by_cases hji : j = i
    · subst hji; exact hy.wpOp hi (hST _ _ he hS) ⟨(hSi _ _).2 hS, H⟩
    · have := ready_mono hj hji
      rw [H.1] at this
      cases this
  | succ fuel ih =>
    intro listed a w hfree hr he hy hS H
    refine ⟨fun h => (by rw [h] at hr; cases hr), fun j hj => ?_⟩
    by_cases hji : j = i
    · subst hji; exact hy.wpOp hi (hST _ _ he hS) ⟨(hSi _ _).2 hS, H⟩
    · have h1 := H.2 j (ready_mono hj hji)
      obtain ⟨hjun, oj, hoj, hall⟩ := mem_ready.1 hj
      have hnot : ∀ e ∈ oj.after, Region.binds md e = true → e.on ≠ i := fun e he hb heq => by
        have h1 := hall e he hb
        have h0 := (mem_ready.1 hr).1
        rw [heq] at h1
        rcases Nat.lt_or_ge i listed.size with h' | h'
        · simp [h'] at h0 h1; rw [h0] at h1; cases h1
        · simp [Array.getElem?_eq_none h'] at h1
      have h2 := wpOp_putIf hoj (hfree j oj hoj hji hjun hnot) (fun cs b => hsel i oi cs b hi) (fun cs b => hsel j oj cs b hoj) hQ hy h1
      have hfree' : ∀ k ok, ops[k]? = some ok → k ≠ i → (listed.setIfInBounds j true).getD k true = false →
          (∀ e ∈ ok.after, Region.binds md e = true → e.on ≠ i) → oi.apart ops ok = true := fun k ok hk hki hun hno => by
        refine hfree k ok hk hki ?_ hno
        by_cases hjk : j = k
        · subst hjk; exact hjun
        · rw [getD_set_ne true hjk] at hun; exact hun
      have he' : Early md ops i (listed.setIfInBounds j true) := fun k ok hk hw => by
        by_cases hjk : j = k
        · subst hjk
          rw [hoj] at hk
          cases hk
          obtain ⟨e, hm, hb, hon⟩ := hw
          exact absurd hon (hnot e hm hb)
        · rw [getD_set_ne true hjk]
          exact he k ok hk hw
      refine wpOp_mono (fun a' w' h3 => ?_) h2
      obtain ⟨h4, h5, h6⟩ := h3
      rw [Array.setIfInBounds_comm _ _ (Ne.symm hji)] at h5 h6
      exact ⟨(hSi _ _).1 h5, ih (listed.setIfInBounds j true) a' w' hfree' (ready_mono hr (Ne.symm hji)) he' h4 ((hSi _ _).1 h5) h6⟩
end
section
variable {P : Program} {n : Nat} {K : Kont} {e : Env} {w : World} {ops : Array Oper} {rest : List Oper} {W0 : World} {L : List Asn} {fs : Facts}
def OpsG (P : Program) (n : Nat) (ops : Array Oper) (fs : Facts) (K : Kont) (fuel : Nat) (l : Array Bool) (e : Env) (w : World) : Prop :=
  ∀ a : Act, Agrees a n e → wpAnyG P .any ops (NoPanicL (lift n K)) fs.at fuel l a w
theorem early_of {i : Nat} {l : Array Bool} (h : ((List.range ops.size).all fun j => match ops[j]? with | none => true | some oj => !(oj.after.any fun e => Region.binds .any e && e.on == i) || !(l.getD j true)) = true) : Early .any ops i l := by
  intro j oj hj ⟨e, he, hb, hon⟩
  simp only [List.all_eq_true, List.mem_range] at h
  have h1 := h j (Array.getElem?_eq_some_iff.1 hj).1
  simp only [hj, Bool.or_eq_true, Bool.not_eq_true'] at h1
  rcases h1 with h1 | h1
  · have : (oj.after.any fun e => Region.binds .any e && e.on == i) = true := Array.any_eq_true'.2 ⟨e, he, by simp [hb, hon]⟩
    rw [this] at h1; cases h1
  · exact h1
def mayTake (ops : Array Oper) (tl : List Nat) (l : Array Bool) (i : Nat) : Bool :=
  Region.noSelect ops && Region.free .any ops l i && (Region.ready .any ops l).contains i && !(tl.contains i) &&
  ((List.range ops.size).all fun j => match ops[j]? with | none => true | some oj => !(oj.after.any fun e => Region.binds .any e && e.on == i) || !(l.getD j true))
def waitsOn (ops : Array Oper) (i : Nat) : Option Nat → Bool
  | none => true
  | some j => match ops[j]? with | none => false | some oj => oj.after.any fun e => Region.binds .any e && e.on == i
theorem gTakeY {i : Nat} {oi : Oper} {v : Value} {fuel : Nat} {l : Array Bool} {k : Nat} {u : Option Nat} {A : World → Prop} (hi : ops[i]? = some oi) (hc : mayTake ops fs.tills l i = true) (hf : fs[k]? = some (u, A)) (hu : waitsOn ops i u = true)
    (hS : fs.at l w) (a : Act) (hy : YieldsIf P ops A oi v a) (h : wpAnyG P .any ops (NoPanicL (lift n K)) fs.at fuel (l.setIfInBounds i true) (a.put oi.dst v) w) : wpAnyG P .any ops (NoPanicL (lift n K)) fs.at (fuel + 1) l a w := by
  simp only [mayTake, Bool.and_eq_true, Bool.not_eq_true'] at hc
  obtain ⟨⟨⟨⟨h1, h2⟩, h3⟩, h4⟩, h5⟩ := hc
  refine wpAnyG_first (T := A) hi (Region.noSelect_spec h1) (fun _ _ _ h => h) (fun _ _ => Facts.at_set h4) ?_ fuel l a w (Region.free_spec hi h2) (by simpa using h3) (early_of h5) hy hS h
  intro l w he hS
  refine Facts.at_get hf hS fun j hj => ?_
  subst hj
  simp only [waitsOn] at hu
  cases ho : ops[j]? with
  | none => rw [ho] at hu; cases hu
  | some oj =>
    rw [ho] at hu
    obtain ⟨e, he', hb⟩ := Array.any_eq_true'.1 hu
    simp only [Bool.and_eq_true, beq_iff_eq] at hb
    exact he j oj ho ⟨e, he', hb.1, hb.2⟩
theorem set_at {i : Nat} {l : Array Bool} (hc : mayTake ops fs.tills l i = true) (hS : fs.at l w) : fs.at (l.setIfInBounds i true) w := by
  simp only [mayTake, Bool.and_eq_true, Bool.not_eq_true'] at hc
  exact (Facts.at_set hc.1.2).2 hS
theorem execOp_guard (ρ : Operand → Value) (d d' : Option Tmp) (o : Op) (ty : TypeId) (pos : String) (af : Array Edge) (g g' : Option (Nat × Bool)) : execOp ρ ⟨d, o, ty, pos, af, g⟩ = execOp ρ ⟨d', o, ty, pos, af, g'⟩ := by
  cases o <;> rfl
theorem gTake {d : Nat} {o : Op} {ty : TypeId} {pos : String} {af : Array Edge} {v : Value} {fuel : Nat} {l : Array Bool} (i : Nat) (k : Nat) {u : Option Nat} {A : World → Prop} (hi : ops[i]? = some ⟨some d, o, ty, pos, af, none⟩) (hc : mayTake ops fs.tills l i = true)
    (hf : fs[k]? = some (u, A)) (hu : waitsOn ops i u = true) (hS : fs.at l w) (hr : ∀ w, A w → Xq P n e w d o ty pos af v) (hn : Nat.blt d n = true) (hk : fs.at (l.setIfInBounds i true) w → OpsG P n ops fs K fuel (l.setIfInBounds i true) ((d, v) :: e) w) :
    OpsG P n ops fs K (fuel + 1) l e w := fun a ha =>
  gTakeY hi hc hf hu hS a (.inl ⟨rfl, fun w hA => hr w hA a ha⟩) (hk (set_at hc hS) _ (ha.put hn v))
theorem gTakeG {d : Nat} {o : Op} {ty : TypeId} {pos : String} {af : Array Edge} {v : Value} {fuel : Nat} {l : Array Bool} {gj gd : Nat} {b : Bool} (i : Nat) (k : Nat) {u : Option Nat} {A : World → Prop} (hi : ops[i]? = some ⟨some d, o, ty, pos, af, some (gj, b)⟩) (hc : mayTake ops fs.tills l i = true)
    (hj : (ops[gj]?).bind (·.dst) = some gd) (hb : e.get gd = some (.bool b)) (hf : fs[k]? = some (u, A)) (hu : waitsOn ops i u = true) (hS : fs.at l w) (hr : ∀ w, A w → Xq P n e w d o ty pos af v) (hn : Nat.blt d n = true)
    (hk : fs.at (l.setIfInBounds i true) w → OpsG P n ops fs K fuel (l.setIfInBounds i true) ((d, v) :: e) w) : OpsG P n ops fs K (fuel + 1) l e w := fun a ha => by
  have h1 := ha.get gd _ hb
  have hy : yielded ops a.tmps gj = some b := by simp [yielded, hj, h1]
  refine gTakeY hi hc hf hu hS a (.inl ⟨by simp [Region.wanted, hy], fun w hA => ?_⟩) (hk (set_at hc hS) _ (ha.put hn v))
  rw [execOp_guard _ _ (some d) _ _ _ _ _ none]
  exact hr w hA a ha
theorem gSkip {d : Nat} {o : Op} {ty : TypeId} {pos : String} {af : Array Edge} {fuel : Nat} {l : Array Bool} {gj gd : Nat} {b c : Bool} (i : Nat) (hi : ops[i]? = some ⟨some d, o, ty, pos, af, some (gj, b)⟩) (hc : mayTake ops fs.tills l i = true)
    (hj : (ops[gj]?).bind (·.dst) = some gd) (hb : e.get gd = some (.bool c)) (hne : (c == b) = false) (hS : fs.at l w) (hn : Nat.blt d n = true)
    (hk : fs.at (l.setIfInBounds i true) w → OpsG P n ops fs K fuel (l.setIfInBounds i true) ((d, undef) :: e) w) : OpsG P n ops fs K (fuel + 1) l e w := fun a ha => by
  have h1 := ha.get gd _ hb
  have hy : yielded ops a.tmps gj = some c := by simp [yielded, hj, h1]
  have hw : Region.wanted ⟨some d, o, ty, pos, af, some (gj, b)⟩ (yielded ops a.tmps) = false := by
    simp [Region.wanted, hy]
    simpa using hne
  have hc' := hc
  simp only [mayTake, Bool.and_eq_true, Bool.not_eq_true'] at hc
  obtain ⟨⟨⟨⟨h1, h2⟩, h3⟩, h4⟩, h5⟩ := hc
  exact wpAnyG_first (T := fun _ => True) hi (Region.noSelect_spec h1) (fun _ _ _ h => h) (fun _ _ => Facts.at_set h4) (fun _ _ _ _ => trivial) fuel l a w (Region.free_spec hi h2) (by simpa using h3) (early_of h5)
    (.inr ⟨hw, rfl⟩) hS (hk (set_at hc' hS) _ (ha.put hn undef))
theorem gTake0 {d : Nat} {o : Op} {ty : TypeId} {pos : String} {af : Array Edge} {v : Value} {fuel : Nat} {l : Array Bool} (i : Nat) (hi : ops[i]? = some ⟨some d, o, ty, pos, af, none⟩) (hc : mayTake ops fs.tills l i = true)
    (hS : fs.at l w) (hr : ∀ w, Xq P n e w d o ty pos af v) (hn : Nat.blt d n = true) (hk : fs.at (l.setIfInBounds i true) w → OpsG P n ops fs K fuel (l.setIfInBounds i true) ((d, v) :: e) w) :
    OpsG P n ops fs K (fuel + 1) l e w := fun a ha => by
  have hc' := hc
  simp only [mayTake, Bool.and_eq_true, Bool.not_eq_true'] at hc
  obtain ⟨⟨⟨⟨h1, h2⟩, h3⟩, h4⟩, h5⟩ := hc
  exact wpAnyG_first (T := fun _ => True) hi (Region.noSelect_spec h1) (fun _ _ _ h => h) (fun _ _ => Facts.at_set h4) (fun _ _ _ _ => trivial) fuel l a w (Region.free_spec hi h2) (by simpa using h3) (early_of h5)
    (.inl ⟨rfl, fun w _ => hr w a ha⟩) hS (hk (set_at hc' hS) _ (ha.put hn v))
theorem gTake0G {d : Nat} {o : Op} {ty : TypeId} {pos : String} {af : Array Edge} {v : Value} {fuel : Nat} {l : Array Bool} {gj gd : Nat} {b : Bool} (i : Nat) (hi : ops[i]? = some ⟨some d, o, ty, pos, af, some (gj, b)⟩) (hc : mayTake ops fs.tills l i = true)
    (hj : (ops[gj]?).bind (·.dst) = some gd) (hb : e.get gd = some (.bool b)) (hS : fs.at l w) (hr : ∀ w, Xq P n e w d o ty pos af v) (hn : Nat.blt d n = true)
    (hk : fs.at (l.setIfInBounds i true) w → OpsG P n ops fs K fuel (l.setIfInBounds i true) ((d, v) :: e) w) : OpsG P n ops fs K (fuel + 1) l e w := fun a ha => by
  have hc' := hc
  simp only [mayTake, Bool.and_eq_true, Bool.not_eq_true'] at hc
  obtain ⟨⟨⟨⟨h1, h2⟩, h3⟩, h4⟩, h5⟩ := hc
  have h1' := ha.get gd _ hb
  have hy : yielded ops a.tmps gj = some b := by simp [yielded, hj, h1']
  refine wpAnyG_first (T := fun _ => True) hi (Region.noSelect_spec h1) (fun _ _ _ h => h) (fun _ _ => Facts.at_set h4) (fun _ _ _ _ => trivial) fuel l a w (Region.free_spec hi h2) (by simpa using h3) (early_of h5)
    (.inl ⟨by simp [Region.wanted, hy], fun w _ => ?_⟩) hS (hk (set_at hc' hS) _ (ha.put hn v))
  rw [execOp_guard _ _ (some d) _ _ _ _ _ none]
  exact hr w a ha
def Kg (P : Program) (n : Nat) (ops : Array Oper) (fs : Facts) (K : Kont) (fuel : Nat) (l : Array Bool) : Kont
  | .normal, e, w => fs.at l w ∧ (fs.at l w → OpsG P n ops fs K fuel l e w)
  | _, _, _ => False
theorem kG {fuel : Nat} {l : Array Bool} (hS : fs.at l w) (hk : fs.at l w → OpsG P n ops fs K fuel l e w) : Kg P n ops fs K fuel l .normal e w := ⟨hS, hk⟩
theorem gStep {i : Nat} {o : Oper} {fuel : Nat} {l : Array Bool} (hi : ops[i]? = some o) (h : Ops P n ops (Kg P n ops fs K fuel (l.setIfInBounds i true)) [o] e w) (a : Act) (ha : Agrees a n e) :
    wpOp P ops (NoPanicL (lift n K)) i (fun a' w' => fs.at (l.setIfInBounds i true) w' ∧ wpAnyG P .any ops (NoPanicL (lift n K)) fs.at fuel (l.setIfInBounds i true) a' w') a w := by
  have h1 := h a ha
  unfold wpOp
  simp only [hi]
  unfold wpList at h1
  have nolet : ¬ LetsOut (lift n (Kg P n ops fs K fuel (l.setIfInBounds i true))) := by
    rintro ⟨a, w, e, _, hf⟩
    exact hf
  have conv : ∀ a w, wpList P ops (lift n (Kg P n ops fs K fuel (l.setIfInBounds i true))) [] a w → fs.at (l.setIfInBounds i true) w ∧ wpAnyG P .any ops (NoPanicL (lift n K)) fs.at fuel (l.setIfInBounds i true) a w := by
    rintro a w ⟨e, hag, h1, h2⟩
    exact ⟨h1, h2 h1 a hag⟩
  split
  · rename_i hw
    simp only [hw, if_true] at h1
    rcases h1 with h1 | ⟨_, h1⟩
    · refine .inl ?_
      unfold Oper.wp at h1 ⊢
      generalize (execOp a.eval o).run P w = r at h1
      cases r with
      | ok nx w' =>
        cases nx <;> simp only [Oper.upon] at h1 ⊢
        case value u => exact conv _ _ h1
        case skip => exact conv _ _ h1
        case defer d => exact conv _ _ h1
        case enter f args =>
          refine Calls.mono h1 fun e' w'' he => ?_
          cases e' with
          | returned u => exact conv _ _ he
          | panicked c => obtain ⟨_, _, hf⟩ := he; exact hf.elim
          | outgrown => exact absurd he nolet
        case row row args => exact Rows.mono h1 fun u w'' he => conv _ _ he
      | halt x w' =>
        cases x <;> simp only [Oper.upon] at h1 ⊢
        case panic u => obtain ⟨_, _, hf⟩ := h1; exact hf.elim
    · exact absurd h1 nolet
  · rename_i hw
    simp only [hw] at h1
    exact conv _ _ h1
theorem gEff {o : Oper} {fuel : Nat} {l : Array Bool} (i : Nat) (hr : Region.ready .any ops l = [i]) (hi : ops[i]? = some o) (h : Ops P n ops (Kg P n ops fs K fuel (l.setIfInBounds i true)) [o] e w) : OpsG P n ops fs K (fuel + 1) l e w := fun a ha =>
  ⟨fun h0 => (by rw [hr] at h0; cases h0), fun j hj => by
    rw [hr] at hj
    have : j = i := by simpa using hj
    subst this
    exact gStep hi h a ha⟩
theorem gEff2 {o o' : Oper} {fuel : Nat} {l : Array Bool} (i i' : Nat) (hr : Region.ready .any ops l = [i, i']) (hi : ops[i]? = some o) (hi' : ops[i']? = some o') (h : Ops P n ops (Kg P n ops fs K fuel (l.setIfInBounds i true)) [o] e w)
    (h' : Ops P n ops (Kg P n ops fs K fuel (l.setIfInBounds i' true)) [o'] e w) : OpsG P n ops fs K (fuel + 1) l e w := fun a ha =>
  ⟨fun h0 => (by rw [hr] at h0; cases h0), fun j hj => by
    rw [hr] at hj
    have : j = i ∨ j = i' := by simpa using hj
    rcases this with rfl | rfl
    · exact gStep hi h a ha
    · exact gStep hi' h' a ha⟩
theorem gEnd {fuel : Nat} {l : Array Bool} (hr : Region.ready .any ops l = []) (h : K .normal e w) : OpsG P n ops fs K fuel l e w := fun a ha => by
  cases fuel with
  | zero => exact ⟨hr, e, ha, h⟩
  | succ f => exact ⟨fun _ => ⟨e, ha, h⟩, by rw [hr]; simp⟩
theorem NoPanicL.imp {Q : Exit → Act → World → Prop} : ∀ (x : Exit) (a : Act) (w : World), NoPanicL Q x a w → Q x a w := fun x a w h => by
  cases x <;> first | exact h | exact (h : False).elim
theorem rRegG {id : Nat} {l : List Oper} (fs : Facts) (hm : P.follows .mixedOrders = true) (hs : Sep W0 w L) (h : ∀ w, Sep W0 w L → fs.at (Array.replicate l.length false) w ∧ (fs.at (Array.replicate l.length false) w → OpsG P n l.toArray fs K l.length (Array.replicate l.length false) e w)) :
    Run P n (.region id l.toArray true) K e w := fun a ha => by
  have hs' : Sep W0 { w with drawn := w.drawn + 1 } L := hs.same rfl rfl rfl rfl
  obtain ⟨h1, h2⟩ := h _ hs'
  refine Code.wp_mono NoPanicL.imp (wp_region_any hm (wpAny_of_G (S := fs.at) _ _ _ _ ?_))
  have := h2 h1 a ha
  simpa using this
theorem gCase {fuel : Nat} {l : Array Bool} {d : Nat} {c : Bool} (hn : e.get d = some (.bool c)) (ht : c = true → OpsG P n ops fs K fuel l ((d, .bool true) :: e) w) (hf : c = false → OpsG P n ops fs K fuel l ((d, .bool false) :: e) w) : OpsG P n ops fs K fuel l e w := by
  have key : ∀ b, c = b → OpsG P n ops fs K fuel l ((d, .bool b) :: e) w → OpsG P n ops fs K fuel l e w := fun b hcb h a ha => h a ⟨ha.defers, ha.size, fun t v ht => by
    rcases Env.get_cons_of ht with ⟨rfl, rfl⟩ | ⟨_, hg⟩
    · exact ha.get _ _ (by rw [hn, hcb])
    · exact ha.get t v hg⟩
  cases c
  · exact key false rfl (hf rfl)
  · exact key true rfl (ht rfl)
theorem oCase {d : Nat} {c : Bool} (hn : e.get d = some (.bool c)) (ht : c = true → Ops P n ops K rest ((d, .bool true) :: e) w) (hf : c = false → Ops P n ops K rest ((d, .bool false) :: e) w) : Ops P n ops K rest e w := by
  have key : ∀ b, c = b → Ops P n ops K rest ((d, .bool b) :: e) w → Ops P n ops K rest e w := fun b hcb h a ha => h a ⟨ha.defers, ha.size, fun t v ht => by
    rcases Env.get_cons_of ht with ⟨rfl, rfl⟩ | ⟨_, hg⟩
    · exact ha.get _ _ (by rw [hn, hcb])
    · exact ha.get t v hg⟩
  cases c
  · exact key false rfl (hf rfl)
  · exact key true rfl (ht rfl)
theorem qCase {C : World → Prop} {J : Env → Prop} {d : Nat} {c : Bool} (hn : e.get d = some (.bool c)) (ht : c = true → OpsQ P n ops C J rest ((d, .bool true) :: e)) (hf : c = false → OpsQ P n ops C J rest ((d, .bool false) :: e)) : OpsQ P n ops C J rest e := by
  have key : ∀ b, c = b → OpsQ P n ops C J rest ((d, .bool b) :: e) → OpsQ P n ops C J rest e := fun b hcb h a ha => h a ⟨ha.defers, ha.size, fun t v ht => by
    rcases Env.get_cons_of ht with ⟨rfl, rfl⟩ | ⟨_, hg⟩
    · exact ha.get _ _ (by rw [hn, hcb])
    · exact ha.get t v hg⟩
  cases c
  · exact key false rfl (hf rfl)
  · exact key true rfl (ht rfl)
end
end Go.Sl
namespace Go.Sl
section
variable {P : Program}
theorem wrapU (k : IntKind) (hk : k.signed = false) (i : Int) : k.wrap i = i % (2 ^ k.bits : Nat) := by
  simp only [IntKind.wrap, hk, Bool.false_and, Bool.false_eq_true, if_false]
  push_cast
  rfl
theorem wrapId {k : IntKind} {i : Int} (hk : k.signed = false) (h0 : 0 ≤ i) (h1 : i < (2 ^ k.bits : Nat)) : k.wrap i = i := by
  rw [wrapU k hk]; exact Int.emod_eq_of_lt h0 h1
theorem made1 (z : Value) (hz : z.cells = #[z]) (k : Nat) : ((madeCells z.cells (k * 1)).toList).take (k * 1) = List.replicate k z := by
  rw [Nat.mul_one, made_one z hz]; simp
theorem rQuoN {t : TypeId} {p q : Int} (h0 : 0 ≤ p) (h1 : 0 < q) (h2 : p ≤ 9223372036854775807) (w : World) : Sem.run P (binOp .quo t (.int .i64 p) (.int .i64 q)) w = .ok (.int .i64 (p / q)) w := by
  have h3 : p.tdiv q = p / q := Int.tdiv_eq_ediv_of_nonneg h0
  have h4 : 0 ≤ p / q := Int.ediv_nonneg h0 (by omega)
  have h5 : p / q ≤ p := Int.ediv_le_self _ h0
  exact rQuo (by omega) (by rw [h3]; exact wI (by omega) (by omega)) w
theorem rRemN {t : TypeId} {p q : Int} (h0 : 0 ≤ p) (h1 : 0 < q) (w : World) : Sem.run P (binOp .rem t (.int .i64 p) (.int .i64 q)) w = .ok (.int .i64 (p % q)) w :=
  rRem (by omega) (Int.tmod_eq_emod_of_nonneg h0) w
theorem ofIntNat {N a : Nat} (h : a < 2 ^ N) : (BitVec.ofInt N (a : Int)).toNat = a := by
  rw [BitVec.toNat_ofInt]
  have : ((a : Int) % ((2 ^ N : Nat) : Int)) = (a : Int) := Int.emod_eq_of_lt (by omega) (by exact_mod_cast h)
  rw [this]; simp
theorem iXor {t : TypeId} {p q : Int} {a b : Nat} (hp : p = (a : Int)) (hq : q = (b : Int)) (ha : a < 9223372036854775808) (hb : b < 9223372036854775808) (w : World) : Sem.run P (binOp .xor t (.int .i64 p) (.int .i64 q)) w = .ok (.int .i64 ((a ^^^ b : Nat) : Int)) w := by
  subst hp hq
  have hx : a ^^^ b < 2 ^ 63 := Nat.xor_lt_two_pow (by simpa using ha) (by simpa using hb)
  have h1 : (BitVec.ofInt 64 (a : Int) ^^^ BitVec.ofInt 64 (b : Int)).toNat = a ^^^ b := by rw [BitVec.toNat_xor, ofIntNat (by omega), ofIntNat (by omega)]
  have h2 : IntKind.i64.wrap (((BitVec.ofInt 64 (a : Int) ^^^ BitVec.ofInt 64 (b : Int)).toNat : Nat) : Int) = ((a ^^^ b : Nat) : Int) := by rw [h1]; exact wI (by omega) (by omega)
  simp only [binOp, Op.intBits]
  exact congrArg (fun i => Result.ok (Value.int .i64 i) w) h2
theorem iAnd {t : TypeId} {p q : Int} {a b : Nat} (hp : p = (a : Int)) (hq : q = (b : Int)) (ha : a < 9223372036854775808) (hb : b < 9223372036854775808) (w : World) : Sem.run P (binOp .and t (.int .i64 p) (.int .i64 q)) w = .ok (.int .i64 ((a &&& b : Nat) : Int)) w := by
  subst hp hq
  have hx : a &&& b < 2 ^ 63 := Nat.and_lt_two_pow a (by simpa using hb)
  have h1 : (BitVec.ofInt 64 (a : Int) &&& BitVec.ofInt 64 (b : Int)).toNat = a &&& b := by rw [BitVec.toNat_and, ofIntNat (by omega), ofIntNat (by omega)]
  have h2 : IntKind.i64.wrap (((BitVec.ofInt 64 (a : Int) &&& BitVec.ofInt 64 (b : Int)).toNat : Nat) : Int) = ((a &&& b : Nat) : Int) := by rw [h1]; exact wI (by omega) (by omega)
  simp only [binOp, Op.intBits]
  exact congrArg (fun i => Result.ok (Value.int .i64 i) w) h2
theorem iShl {t : TypeId} {p q r : Int} {k : IntKind} {s : Nat} (hq : q = (s : Int)) (hs : s < 64) (h : IntKind.i64.wrap (p * 2 ^ s) = r) (w : World) : Sem.run P (binOp .shl t (.int .i64 p) (.int k q)) w = .ok (.int .i64 r) w := by
  subst hq
  have h0 : ¬ ((s : Int) < 0) := by omega
  simp only [binOp, Op.shift, h0, if_false, IntKind.bits, Int.toNat_natCast, Nat.min_eq_left (Nat.le_of_lt hs), h]
  rfl
theorem iShr {t : TypeId} {p q r : Int} {k : IntKind} {s : Nat} (hq : q = (s : Int)) (hs : s < 64) (h : p / 2 ^ s = r) (w : World) : Sem.run P (binOp .shr t (.int .i64 p) (.int k q)) w = .ok (.int .i64 r) w := by
  subst hq
  have h0 : ¬ ((s : Int) < 0) := by omega
  have h1 : p.fdiv (2 ^ s) = r := by
    rw [Int.fdiv_eq_ediv_of_nonneg _ (by exact_mod_cast Nat.zero_le _)]; exact h
  simp only [binOp, Op.shift, h0, if_false, IntKind.bits, Int.toNat_natCast, Nat.min_eq_left (Nat.le_of_lt hs), h1]
  rfl
variable {n : Nat} {e : Env} {w : World}
theorem xSh {d : Nat} {op : BinOp} {k k' : IntKind} {x y : Operand} {t t' : TypeId} {p q r : Int} {ty : TypeId} {pos : String} {af : Array Edge} (hx : e.ev x = some (.int k p)) (hy : e.ev y = some (.int k' q))
    (hr : ∀ w, Sem.run P (binOp op t (.int k p) (.int k' q)) w = .ok (.int k r) w) : Xq P n e w d (.binOp op t x y t') ty pos af (.int k r) := fun a ha => by
      have : eqGuard op t x y (.int k p) (.int k' q) = pure () := by cases op <;> rfl
      simp only [execOp, ha.ev hx, ha.ev hy, this, Sem.run_bind, Sem.run_pure, Result.andThen_ok, hr]
theorem xBin {d : Nat} {op : BinOp} {x y : Operand} {t t' : TypeId} {p q r : Value} {ty : TypeId} {pos : String} {af : Array Edge} (hx : e.ev x = some p) (hy : e.ev y = some q) (hg : ∀ w, Sem.run P (eqGuard op t x y p q) w = .ok () w)
    (hr : ∀ w, Sem.run P (binOp op t p q) w = .ok r w) : Xq P n e w d (.binOp op t x y t') ty pos af r := fun a ha => by
  simp only [execOp, ha.ev hx, ha.ev hy, Sem.run_bind, hg, hr, Result.andThen_ok, Sem.run_pure]
theorem lt8 (c : UInt8) : c.toNat < 256 := c.toNat_lt
theorem wSame8 (c : UInt8) : IntKind.u8.wrap (c.toNat : Int) = (c.toNat : Int) := by
  rw [wrapU _ rfl]; have := lt8 c; simp only [IntKind.bits]; omega
theorem wIto8 (i : Int) : IntKind.u8.wrap i = ((UInt8.ofInt i).toNat : Int) := by
  rw [wrapU _ rfl]
  have : (UInt8.ofInt i).toNat = (i % 256).toNat := by
    show (UInt8.ofNat (i % 256).toNat).toNat = _
    rw [UInt8.toNat_ofNat']; omega
  rw [this]; simp only [IntKind.bits]; omega
theorem ofI8 (c : UInt8) : BitVec.ofInt 8 (c.toNat : Int) = c.toBitVec := by
  apply BitVec.eq_of_toNat_eq
  have := lt8 c
  simp
theorem w8toI (c : UInt8) : IntKind.i64.wrap (c.toNat : Int) = (c.toNat : Int) := by
  have := lt8 c; exact wI (by omega) (by omega)
theorem w8to32 (c : UInt8) : IntKind.u32.wrap (c.toNat : Int) = (c.toUInt32.toNat : Int) := by
  rw [wrapU _ rfl]
  have h1 : c.toUInt32.toNat = c.toNat % 4294967296 := by have := lt8 c; rw [Nat.mod_eq_of_lt (by omega)]; simp
  rw [h1]; simp only [IntKind.bits]; omega
theorem w8to64 (c : UInt8) : IntKind.u64.wrap (c.toNat : Int) = (c.toUInt64.toNat : Int) := by
  rw [wrapU _ rfl]
  have h1 : c.toUInt64.toNat = c.toNat % 18446744073709551616 := by have := lt8 c; rw [Nat.mod_eq_of_lt (by omega)]; simp
  rw [h1]; simp only [IntKind.bits]; omega
theorem uAnd8 {t : TypeId} (a b : UInt8) (w : World) : Sem.run P (binOp .and t (.int .u8 a.toNat) (.int .u8 b.toNat)) w = .ok (.int .u8 (a &&& b).toNat) w := by
  have h : IntKind.u8.wrap (((a &&& b).toNat : Nat) : Int) = ((a &&& b).toNat : Int) := wSame8 _
  simp only [binOp, Op.intBits, IntKind.bits, ofI8]
  exact congrArg (fun i => Result.ok (Value.int .u8 i) w) h
theorem uXor8 {t : TypeId} (a b : UInt8) (w : World) : Sem.run P (binOp .xor t (.int .u8 a.toNat) (.int .u8 b.toNat)) w = .ok (.int .u8 (a ^^^ b).toNat) w := by
  have h : IntKind.u8.wrap (((a ^^^ b).toNat : Nat) : Int) = ((a ^^^ b).toNat : Int) := wSame8 _
  simp only [binOp, Op.intBits, IntKind.bits, ofI8]
  exact congrArg (fun i => Result.ok (Value.int .u8 i) w) h
theorem uShr8 {t : TypeId} {c : UInt8} {i : Int} {s : Nat} (hi : i = (s : Int)) (hs : s < 8) {k : IntKind} (w : World) : Sem.run P (binOp .shr t (.int .u8 c.toNat) (.int k i)) w = .ok (.int .u8 (c >>> UInt8.ofNat s).toNat) w := by
  subst hi
  have h0 : ¬ ((s : Int) < 0) := by omega
  have h1 : (c >>> UInt8.ofNat s).toNat = c.toNat / 2 ^ s := by
    rw [UInt8.toNat_shiftRight]
    have : (UInt8.ofNat s).toNat = s := by simp; omega
    rw [this, Nat.mod_eq_of_lt hs, Nat.shiftRight_eq_div_pow]
  simp only [binOp, Op.shift, h0, if_false, IntKind.bits, Int.toNat_natCast, Nat.min_eq_left (Nat.le_of_lt hs)]
  show Result.ok (Value.int .u8 ((c.toNat : Int).fdiv (2 ^ s))) w = _
  congr 2
  rw [h1, Int.fdiv_eq_ediv_of_nonneg _ (by exact_mod_cast Nat.zero_le _)]
  push_cast
  rfl
theorem lt16 (c : UInt16) : c.toNat < 65536 := c.toNat_lt
theorem wIto16 (i : Int) : IntKind.u16.wrap i = ((UInt16.ofInt i).toNat : Int) := by
  rw [wrapU _ rfl]
  have : (UInt16.ofInt i).toNat = (i % 65536).toNat := by
    show (UInt16.ofNat (i % 65536).toNat).toNat = _
    rw [UInt16.toNat_ofNat']; omega
  rw [this]; simp only [IntKind.bits]; omega
theorem w16to64 (c : UInt16) : IntKind.u64.wrap (c.toNat : Int) = (c.toUInt64.toNat : Int) := by
  rw [wrapU _ rfl]
  have h1 : c.toUInt64.toNat = c.toNat % 18446744073709551616 := by have := lt16 c; rw [Nat.mod_eq_of_lt (by omega)]; simp
  rw [h1]; simp only [IntKind.bits]; omega
theorem lt32 (c : UInt32) : c.toNat < 4294967296 := c.toNat_lt
theorem wSame32 (c : UInt32) : IntKind.u32.wrap (c.toNat : Int) = (c.toNat : Int) := by
  rw [wrapU _ rfl]; have := lt32 c; simp only [IntKind.bits]; omega
theorem ofI32 (c : UInt32) : BitVec.ofInt 32 (c.toNat : Int) = c.toBitVec := by
  apply BitVec.eq_of_toNat_eq
  have := lt32 c
  simp
theorem w32to64 (c : UInt32) : IntKind.u64.wrap (c.toNat : Int) = (c.toUInt64.toNat : Int) := by
  rw [wrapU _ rfl]
  have h1 : c.toUInt64.toNat = c.toNat % 18446744073709551616 := by have := lt32 c; rw [Nat.mod_eq_of_lt (by omega)]; simp
  rw [h1]; simp only [IntKind.bits]; omega
theorem uAnd32 {t : TypeId} (a b : UInt32) (w : World) : Sem.run P (binOp .and t (.int .u32 a.toNat) (.int .u32 b.toNat)) w = .ok (.int .u32 (a &&& b).toNat) w := by
  have h : IntKind.u32.wrap (((a &&& b).toNat : Nat) : Int) = ((a &&& b).toNat : Int) := wSame32 _
  simp only [binOp, Op.intBits, IntKind.bits, ofI32]
  exact congrArg (fun i => Result.ok (Value.int .u32 i) w) h
theorem uXor32 {t : TypeId} (a b : UInt32) (w : World) : Sem.run P (binOp .xor t (.int .u32 a.toNat) (.int .u32 b.toNat)) w = .ok (.int .u32 (a ^^^ b).toNat) w := by
  have h : IntKind.u32.wrap (((a ^^^ b).toNat : Nat) : Int) = ((a ^^^ b).toNat : Int) := wSame32 _
  simp only [binOp, Op.intBits, IntKind.bits, ofI32]
  exact congrArg (fun i => Result.ok (Value.int .u32 i) w) h
theorem uAdd32 {t : TypeId} (a b : UInt32) (w : World) : Sem.run P (binOp .add t (.int .u32 a.toNat) (.int .u32 b.toNat)) w = .ok (.int .u32 (a + b).toNat) w := by
  refine rAdd ?_ w
  rw [wrapU _ rfl]
  have h3 : (a + b).toNat = (a.toNat + b.toNat) % 4294967296 := by rw [UInt32.toNat_add]
  rw [h3]; simp only [IntKind.bits]; omega
theorem uShr32 {t : TypeId} {c : UInt32} {i : Int} {s : Nat} (hi : i = (s : Int)) (hs : s < 32) {k : IntKind} (w : World) : Sem.run P (binOp .shr t (.int .u32 c.toNat) (.int k i)) w = .ok (.int .u32 (c >>> UInt32.ofNat s).toNat) w := by
  subst hi
  have h0 : ¬ ((s : Int) < 0) := by omega
  have h1 : (c >>> UInt32.ofNat s).toNat = c.toNat / 2 ^ s := by
    rw [UInt32.toNat_shiftRight]
    have : (UInt32.ofNat s).toNat = s := by simp; omega
    rw [this, Nat.mod_eq_of_lt hs, Nat.shiftRight_eq_div_pow]
  simp only [binOp, Op.shift, h0, if_false, IntKind.bits, Int.toNat_natCast, Nat.min_eq_left (Nat.le_of_lt hs)]
  show Result.ok (Value.int .u32 ((c.toNat : Int).fdiv (2 ^ s))) w = _
  congr 2
  rw [h1, Int.fdiv_eq_ediv_of_nonneg _ (by exact_mod_cast Nat.zero_le _)]
  push_cast
  rfl
theorem rCpl32 (c : UInt32) (w : World) : Sem.run P (Op.unary .xor (.int .u32 c.toNat)) w = .ok (.int .u32 (~~~c).toNat) w := by
  have h2 : Sem.run P (Op.unary .xor (.int .u32 c.toNat)) w = Sem.run P (binOp .xor 0 (.int .u32 (4294967295 : UInt32).toNat) (.int .u32 c.toNat)) w := rfl
  have h3 : ((4294967295 : UInt32) ^^^ c) = ~~~c := by
    apply UInt32.toBitVec_inj.1
    rw [UInt32.toBitVec_xor, UInt32.toBitVec_not]
    show BitVec.allOnes 32 ^^^ c.toBitVec = ~~~c.toBitVec
    rw [BitVec.allOnes_xor]
  rw [h2, uXor32, h3]
theorem lt64 (c : UInt64) : c.toNat < 18446744073709551616 := c.toNat_lt
theorem wSame64 (c : UInt64) : IntKind.u64.wrap (c.toNat : Int) = (c.toNat : Int) := by
  rw [wrapU _ rfl]; have := lt64 c; simp only [IntKind.bits]; omega
theorem wIto64 (i : Int) : IntKind.u64.wrap i = ((UInt64.ofInt i).toNat : Int) := by
  rw [wrapU _ rfl]
  have : (UInt64.ofInt i).toNat = (i % 18446744073709551616).toNat := by
    show (UInt64.ofNat (i % 18446744073709551616).toNat).toNat = _
    rw [UInt64.toNat_ofNat']; omega
  rw [this]; simp only [IntKind.bits]; omega
theorem ofI64 (c : UInt64) : BitVec.ofInt 64 (c.toNat : Int) = c.toBitVec := by
  apply BitVec.eq_of_toNat_eq
  have := lt64 c
  simp
theorem w64to8 (c : UInt64) : IntKind.u8.wrap (c.toNat : Int) = (c.toUInt8.toNat : Int) := by
  rw [wrapU _ rfl]
  have h1 : c.toUInt8.toNat = c.toNat % 256 := by simp
  rw [h1]; simp only [IntKind.bits]; omega
theorem w64to16 (c : UInt64) : IntKind.u16.wrap (c.toNat : Int) = (c.toUInt16.toNat : Int) := by
  rw [wrapU _ rfl]
  have h1 : c.toUInt16.toNat = c.toNat % 65536 := by simp
  rw [h1]; simp only [IntKind.bits]; omega
theorem w64to32 (c : UInt64) : IntKind.u32.wrap (c.toNat : Int) = (c.toUInt32.toNat : Int) := by
  rw [wrapU _ rfl]
  have h1 : c.toUInt32.toNat = c.toNat % 4294967296 := by simp
  rw [h1]; simp only [IntKind.bits]; omega
theorem uOr64 {t : TypeId} (a b : UInt64) (w : World) : Sem.run P (binOp .or t (.int .u64 a.toNat) (.int .u64 b.toNat)) w = .ok (.int .u64 (a ||| b).toNat) w := by
  have h : IntKind.u64.wrap (((a ||| b).toNat : Nat) : Int) = ((a ||| b).toNat : Int) := wSame64 _
  simp only [binOp, Op.intBits, IntKind.bits, ofI64]
  exact congrArg (fun i => Result.ok (Value.int .u64 i) w) h
theorem uXor64 {t : TypeId} (a b : UInt64) (w : World) : Sem.run P (binOp .xor t (.int .u64 a.toNat) (.int .u64 b.toNat)) w = .ok (.int .u64 (a ^^^ b).toNat) w := by
  have h : IntKind.u64.wrap (((a ^^^ b).toNat : Nat) : Int) = ((a ^^^ b).toNat : Int) := wSame64 _
  simp only [binOp, Op.intBits, IntKind.bits, ofI64]
  exact congrArg (fun i => Result.ok (Value.int .u64 i) w) h
theorem uAdd64 {t : TypeId} (a b : UInt64) (w : World) : Sem.run P (binOp .add t (.int .u64 a.toNat) (.int .u64 b.toNat)) w = .ok (.int .u64 (a + b).toNat) w := by
  refine rAdd ?_ w
  rw [wrapU _ rfl]
  have h3 : (a + b).toNat = (a.toNat + b.toNat) % 18446744073709551616 := by rw [UInt64.toNat_add]
  rw [h3]; simp only [IntKind.bits]; omega
theorem uMul64 {t : TypeId} (a b : UInt64) (w : World) : Sem.run P (binOp .mul t (.int .u64 a.toNat) (.int .u64 b.toNat)) w = .ok (.int .u64 (a * b).toNat) w := by
  refine rMul ?_ w
  rw [wrapU _ rfl]
  have h3 : (a * b).toNat = (a.toNat * b.toNat) % 18446744073709551616 := by rw [UInt64.toNat_mul]
  rw [h3, Int.natCast_emod, Int.natCast_mul]; rfl
theorem uShr64 {t : TypeId} {c : UInt64} {i : Int} {s : Nat} (hi : i = (s : Int)) (hs : s < 64) {k : IntKind} (w : World) : Sem.run P (binOp .shr t (.int .u64 c.toNat) (.int k i)) w = .ok (.int .u64 (c >>> UInt64.ofNat s).toNat) w := by
  subst hi
  have h0 : ¬ ((s : Int) < 0) := by omega
  have h1 : (c >>> UInt64.ofNat s).toNat = c.toNat / 2 ^ s := by
    rw [UInt64.toNat_shiftRight]
    have : (UInt64.ofNat s).toNat = s := by simp; omega
    rw [this, Nat.mod_eq_of_lt hs, Nat.shiftRight_eq_div_pow]
  simp only [binOp, Op.shift, h0, if_false, IntKind.bits, Int.toNat_natCast, Nat.min_eq_left (Nat.le_of_lt hs)]
  show Result.ok (Value.int .u64 ((c.toNat : Int).fdiv (2 ^ s))) w = _
  congr 2
  rw [h1, Int.fdiv_eq_ediv_of_nonneg _ (by exact_mod_cast Nat.zero_le _)]
  push_cast
  rfl
theorem uShl64 {t : TypeId} {c : UInt64} {i : Int} {s : Nat} (hi : i = (s : Int)) (hs : s < 64) {k : IntKind} (w : World) : Sem.run P (binOp .shl t (.int .u64 c.toNat) (.int k i)) w = .ok (.int .u64 (c <<< UInt64.ofNat s).toNat) w := by
  subst hi
  have h0 : ¬ ((s : Int) < 0) := by omega
  have h1 : (c <<< UInt64.ofNat s).toNat = (c.toNat * 2 ^ s) % 18446744073709551616 := by
    rw [UInt64.toNat_shiftLeft]
    have : (UInt64.ofNat s).toNat = s := by simp; omega
    rw [this, Nat.mod_eq_of_lt hs, Nat.shiftLeft_eq]
  simp only [binOp, Op.shift, h0, if_false, IntKind.bits, Int.toNat_natCast, Nat.min_eq_left (Nat.le_of_lt hs)]
  show Result.ok (Value.int .u64 (IntKind.u64.wrap ((c.toNat : Int) * 2 ^ s))) w = _
  congr 2
  rw [h1, wrapU _ rfl, Int.natCast_emod, Int.natCast_mul, Int.natCast_pow]
  rfl
end
end Go.Sl
namespace Go.Sl
section
variable {P : Program} {n : Nat} {K : Kont} {e : Env} {w : World} {ops : Array Oper} {rest : List Oper} {W0 : World} {L : List Asn}
theorem rMinP {t s u : TypeId} {k : IntKind} {p q : Int} (h : p ≤ q) (cs : Array Bool) (w : World) : Sem.run P (builtin .min #[t, u] s cs [Value.int k p, Value.int k q].toArray) w = .ok (.value (.int k p)) w := by
  rw [rMin, if_neg (by omega)]
theorem rMaxP {t s u : TypeId} {k : IntKind} {p q : Int} (h : q ≤ p) (cs : Array Bool) (w : World) : Sem.run P (builtin .max #[t, u] s cs [Value.int k p, Value.int k q].toArray) w = .ok (.value (.int k p)) w := by
  rw [rMax, if_neg (by omega)]
theorem run_varG {i b j k : Nat} {t el : TypeId} {xs vs : List Value} (hs : Sep W0 w L) (hag : ∀ w, Sem.run P (isAgg t) w = .ok true w) (hsz : ∀ w, Sem.run P (sizeOf t) w = .ok k w) (hi : L[i]? = some (row b el xs)) (hv : takeAt xs j k = some vs) :
    (loadVar t ⟨b, j, none⟩).run P w = .ok (.agg vs.toArray) w := by
  have hc := run_loadCells (P := P) (w := w) (fun i v h => hs.cell hi h) hv
  simp [loadVar, hag, hsz, hc]
theorem oneB (l : List UInt8) : ∀ u ∈ l.map B, u.oneCell' = true := by
  intro u hu
  obtain ⟨c, _, rfl⟩ := List.mem_map.1 hu
  rfl
theorem getB {l : List UInt8} {j : Nat} (h : j < l.length) : (l.map B)[j]? = some (B (l.getD j 0)) := by
  simp [h]
abbrev RB (f : HF) (a : Option Addr) (n cp : Nat) (l : List UInt8) : Prop := Reads f 1 (.slice a n cp) n (l.map B)
theorem RB.len {f : HF} {a : Option Addr} {k cp : Nat} {l : List UInt8} (h : RB f a k cp l) : l.length = k := by
  have := h.1; simpa using this
theorem RB.nil {f : HF} : RB f none 0 0 [] := ⟨by simp, .inr ⟨_, _, rfl, rfl⟩⟩
theorem Sep.ownB {i : Nat} {v : Value} {k : Nat} {l : List UInt8} (hs : Sep W0 w L) (hi : L[i]? = some (own 5 1 v k (l.map B))) : l.length = k := by
  obtain ⟨S, h, _⟩ := sepL_at hi hs.sep
  simpa using h
inductive Bd : Option Value → Nat → Nat → Prop
  | none {d : Nat} : Bd .none d d
  | some {d lo : Nat} {k : IntKind} {i : Int} : i = (lo : Int) → Bd (.some (.int k i)) d lo
theorem Sub.slice_run {t el : TypeId} {size : Nat} {a : Option Addr} {k cp lo hi : Nat} {lv hv : Option Value} (hu : P.underlying t = some (.slice el)) (hsz : ∀ w, Sem.run P (sizeOf el) w = .ok size w) (hl : Bd lv 0 lo) (hh : Bd hv k hi) (h1 : lo ≤ hi) (h2 : hi ≤ cp) (w : World) :
    Sem.run P (Instr.sliceAt t (.slice a k cp) lv hv .none) w = .ok (.slice (if cp = lo then a else a.map (·.add (lo * size))) (hi - lo) (cp - lo)) w := by
  rcases hl with _ | rfl <;> rcases hh with _ | rfl <;>
    simp [Instr.sliceAt, run_underlying hu, Instr.slice, Instr.sliceBounds, Instr.sliceBound, asIntOf, hsz] <;> (repeat' (first | omega | (rw [if_pos (by omega)]) | skip)) <;> simp [*]
theorem Reads.slice {f : HF} {t el : TypeId} {size : Nat} {a : Option Addr} {k cp lo hi : Nat} {cs : List Value} {lv hv : Option Value} (hr : Reads f size (.slice a k cp) k cs) (hu : P.underlying t = some (.slice el)) (hsz : ∀ w, Sem.run P (sizeOf el) w = .ok size w)
    (hl : Bd lv 0 lo) (hh : Bd hv k hi) (h1 : lo ≤ hi) (h2 : hi ≤ k) :
    ∃ a' cp', Reads f size (.slice a' (hi - lo) cp') (hi - lo) ((cs.drop (lo * size)).take ((hi - lo) * size)) ∧ ∀ w, Sem.run P (Instr.sliceAt t (.slice a k cp) lv hv .none) w = .ok (.slice a' (hi - lo) cp') w := by
  have hcap := hr.cap
  refine ⟨_, _, ?_, fun w => Sub.slice_run hu hsz hl hh h1 (by omega) w⟩
  obtain ⟨hlen, hr⟩ := hr
  have hlen' : ((cs.drop (lo * size)).take ((hi - lo) * size)).length = (hi - lo) * size := by
    rw [List.length_take, List.length_drop, hlen, ← Nat.sub_mul]
    exact Nat.min_eq_left (Nat.mul_le_mul_right _ (by omega))
  refine ⟨hlen', ?_⟩
  by_cases h0 : hi - lo = 0
  · exact .inr ⟨_, _, by rw [h0], h0⟩
  · rcases hr with ⟨b, off, cap, c, ty, fr, he, hnc, hb, hc⟩ | ⟨a', cap, he, h0'⟩
    · simp at he
      obtain ⟨rfl, rfl⟩ := he
      refine .inl ⟨b, off + lo * size, cp - lo, c, ty, fr, ?_, by omega, hb, fun j u hj => ?_⟩
      · rw [if_neg (by omega)]
        simp [add_lit]
      · rw [List.getElem?_take] at hj
        split at hj
        · rw [List.getElem?_drop] at hj
          rw [Nat.add_assoc]
          exact hc _ _ hj
        · cases hj
    · omega
theorem xSlice {d : Nat} {t : TypeId} {x : Operand} {lo hi : Option Operand} {xv v : Value} {lv hv : Option Value} {ty : TypeId} {pos : String} {af : Array Edge} (hx : e.ev x = some xv) (hlo : lo.map e.ev = lv.map some) (hhi : hi.map e.ev = hv.map some)
    (hr : ∀ w, Sem.run P (Instr.sliceAt t xv lv hv .none) w = .ok v w) : Xq P n e w d (.slice t x lo hi .none) ty pos af v := fun a ha => by
  have h1 : lo.map a.eval = lv := by
    cases lo <;> cases lv <;> simp at hlo ⊢
    exact ha.ev hlo
  have h2 : hi.map a.eval = hv := by
    cases hi <;> cases hv <;> simp at hhi ⊢
    exact ha.ev hhi
  simp only [execOp, ha.ev hx, h1, h2, Option.map_none, Sem.run_bind, hr, Result.andThen_ok, Sem.run_pure]
theorem RB.slice {f : HF} {t : TypeId} {a : Option Addr} {k cp lo hi : Nat} {l : List UInt8} {lv hv : Option Value} (hr : RB f a k cp l) (hu : P.underlying t = some (.slice 5)) (hsz : ∀ w, Sem.run P (sizeOf 5) w = .ok 1 w)
    (hl : Bd lv 0 lo) (hh : Bd hv k hi) (h1 : lo ≤ hi) (h2 : hi ≤ k) :
    ∃ a' k' cp', RB f a' k' cp' ((l.drop lo).take (hi - lo)) ∧ k' = hi - lo ∧ ∀ w, Sem.run P (Instr.sliceAt t (.slice a k cp) lv hv .none) w = .ok (.slice a' k' cp') w := by
  obtain ⟨a', cp', h3, h4⟩ := Reads.slice hr hu hsz hl hh h1 h2
  refine ⟨a', hi - lo, cp', ?_, rfl, h4⟩
  show Reads f 1 _ _ (((l.drop lo).take (hi - lo)).map B)
  rw [List.map_take, List.map_drop]
  simpa using h3
theorem RB.slice_lo {f : HF} {t : TypeId} {a : Option Addr} {k cp lo : Nat} {l : List UInt8} {lv : Option Value} (hr : RB f a k cp l) (hu : P.underlying t = some (.slice 5)) (hsz : ∀ w, Sem.run P (sizeOf 5) w = .ok 1 w)
    (hl : Bd lv 0 lo) (h1 : lo ≤ k) : ∃ a' k' cp', RB f a' k' cp' (l.drop lo) ∧ k' = k - lo ∧ ∀ w, Sem.run P (Instr.sliceAt t (.slice a k cp) lv .none .none) w = .ok (.slice a' k' cp') w := by
  obtain ⟨a', k', cp', h2, h3, h4⟩ := RB.slice (P := P) (t := t) (lo := lo) (hi := k) hr hu hsz hl Bd.none h1 (Nat.le_refl _)
  refine ⟨a', k', cp', ?_, h3, h4⟩
  have hn := hr.len
  rwa [List.take_of_length_le (by rw [List.length_drop]; omega)] at h2
theorem RB.slice_hi {f : HF} {t : TypeId} {a : Option Addr} {k cp hi : Nat} {l : List UInt8} {hv : Option Value} (hr : RB f a k cp l) (hu : P.underlying t = some (.slice 5)) (hsz : ∀ w, Sem.run P (sizeOf 5) w = .ok 1 w)
    (hh : Bd hv k hi) (h1 : hi ≤ k) : ∃ a' k' cp', RB f a' k' cp' (l.take hi) ∧ k' = hi ∧ ∀ w, Sem.run P (Instr.sliceAt t (.slice a k cp) .none hv .none) w = .ok (.slice a' k' cp') w := by
  obtain ⟨a', k', cp', h2, h3, h4⟩ := RB.slice (P := P) (t := t) (lo := 0) (hi := hi) hr hu hsz Bd.none hh (Nat.zero_le _) h1
  exact ⟨a', k', cp', by simpa using h2, by simpa using h3, h4⟩
structure RR (f : HF) (vs : List Value) (ls : List (List UInt8)) : Prop where
  len : vs.length = ls.length
  get : ∀ j, j < ls.length → ∃ a k cp, vs[j]? = some (.slice a k cp) ∧ RB f a k cp (ls.getD j [])
theorem RR.mono {f f' : HF} {vs : List Value} {ls : List (List UInt8)} (h : RR f vs ls) (hf : FLe f f') : RR f' vs ls :=
  ⟨h.len, fun j hj => let ⟨a, k, cp, h1, h2⟩ := h.get j hj; ⟨a, k, cp, h1, h2.mono hf⟩⟩
theorem RR.nil {f : HF} : RR f [] [] := ⟨rfl, fun j hj => by simp at hj⟩
theorem RR.snoc {f : HF} {vs : List Value} {ls : List (List UInt8)} {a : Option Addr} {k cp : Nat} {l : List UInt8} (h : RR f vs ls) (hb : RB f a k cp l) : RR f (vs ++ [.slice a k cp]) (ls ++ [l]) := by
  refine ⟨by simp [h.len], fun j hj => ?_⟩
  by_cases hlt : j < ls.length
  · obtain ⟨a', k', cp', h1, h2⟩ := h.get j hlt
    refine ⟨a', k', cp', ?_, ?_⟩
    · rw [List.getElem?_append_left (by rw [h.len]; exact hlt)]; exact h1
    · have : (ls ++ [l]).getD j [] = ls.getD j [] := by simp [List.getD, List.getElem?_append_left hlt]
      rw [this]; exact h2
  · have hj' : j = ls.length := by simp at hj; omega
    subst hj'
    refine ⟨a, k, cp, ?_, ?_⟩
    · rw [List.getElem?_append_right (by rw [h.len]; exact Nat.le_refl _)]; simp [h.len]
    · have : (ls ++ [l]).getD ls.length [] = l := by simp
      rw [this]; exact hb
theorem RR.one {f : HF} {vs : List Value} {ls : List (List UInt8)} (h : RR f vs ls) : ∀ u ∈ vs, u.oneCell' = true := by
  intro u hu
  obtain ⟨j, hj, rfl⟩ := List.getElem_of_mem hu
  obtain ⟨a, k, cp, h1, _⟩ := h.get j (by rw [← h.len]; exact hj)
  simp [hj] at h1
  rw [h1]; rfl
theorem rEqlSlNil {t el : TypeId} {a : Option Addr} {k c : Nat} (hu : P.underlying t = some (.slice el)) (w : World) : Sem.run P (binOp .eql t (.slice a k c) (.slice none 0 0)) w = .ok (.bool a.isNone) w := by
  have h : binOp .eql t (.slice a k c) (.slice none 0 0) = (do pure (.bool (← Op.equalIn (9999 + 1) t (.slice a k c) (.slice none 0 0)))) := rfl
  rw [h]
  unfold Op.equalIn
  cases a <;> simp [run_underlying hu]
theorem Reads.none {f : HF} {size k cp : Nat} {cs : List Value} (h : Reads f size (.slice none k cp) k cs) : k = 0 ∧ cs = [] := by
  have : k = 0 := by
    rcases h.2 with ⟨b, off, cap', c, ty, fr, he, _⟩ | ⟨a', cap', he, h0⟩
    · cases he
    · exact h0
  subst this
  exact ⟨rfl, List.eq_nil_of_length_eq_zero (by rw [h.1]; simp)⟩
end
end Go.Sl
namespace Go.Sl
section
variable {W0 w : World} {L : List Asn}
def shr8 : UInt64 → Nat → UInt64
  | c, 0 => c
  | c, k + 1 => shr8 c k >>> UInt64.ofNat 8
def le : UInt64 → Nat → List UInt8
  | _, 0 => []
  | c, k + 1 => le c k ++ [(shr8 c k).toUInt8]
theorem le_length (c : UInt64) (k : Nat) : (le c k).length = k := by
  induction k with
  | zero => rfl
  | succ k ih => simp [le, ih]
def writer (p : Nat) (xs : List UInt8) : Asn := fun h => ∃ x : Option Addr × Nat × Nat, sepL [row p 192 [.slice x.1 x.2.1 x.2.2], own 5 1 (.slice x.1 x.2.1 x.2.2) x.2.1 (xs.map B)] h
theorem writer_open {p : Nat} {xs : List UInt8} (hs : Sep W0 w (writer p xs :: L)) : ∃ a n cp, Sep W0 w (row p 192 [.slice a n cp] :: own 5 1 (.slice a n cp) n (xs.map B) :: L) := by
  obtain ⟨⟨a, n, cp⟩, h⟩ := hs.ex
  exact ⟨a, n, cp, h.open⟩
theorem writer_shut {p : Nat} {xs : List UInt8} {a : Option Addr} {n cp : Nat} (hs : Sep W0 w (row p 192 [.slice a n cp] :: own 5 1 (.slice a n cp) n (xs.map B) :: L)) : Sep W0 w (writer p xs :: L) :=
  Sep.intro (A := fun x : Option Addr × Nat × Nat => sepL [row p 192 [.slice x.1 x.2.1 x.2.2], own 5 1 (.slice x.1 x.2.1 x.2.2) x.2.1 (xs.map B)]) (a, n, cp) (Sep.shut [_, _] hs)
theorem writer_new {p : Nat} (hs : Sep W0 w (row p 192 [.slice none 0 0] :: L)) : Sep W0 w (writer p [] :: L) :=
  writer_shut (xs := []) (Sep.front (i := 1) rfl (Sep.nil 5 1 hs))
structure Sh where
  o : UInt32
  st : UInt16
  sl : UInt16
  g : UInt32
  deriving DecidableEq
abbrev Sh.cells (s : Sh) : List Value := [U s.o, H s.st, H s.sl, U s.g]
abbrev Sh.val (s : Sh) : Value := .agg #[U s.o, H s.st, H s.sl, U s.g]
def Sh.bytes (s : Sh) : List UInt8 := le s.o.toUInt64 4 ++ le s.st.toUInt64 2 ++ le s.sl.toUInt64 2 ++ le s.g.toUInt64 4
theorem Sh.bytes_length (s : Sh) : s.bytes.length = 12 := by simp [Sh.bytes, le_length]
def reader (f : HF) (p : Nat) (l : List UInt8) (tn : Bool) : Asn := fun h => ∃ x : Option Addr × Nat × Nat, RB f x.1 x.2.1 x.2.2 l ∧ row p 312 [.slice x.1 x.2.1 x.2.2, .bool tn] h
theorem reader_open {f : HF} {p : Nat} {l : List UInt8} {tn : Bool} (hs : Sep W0 w (reader f p l tn :: L)) : ∃ a n cp, RB f a n cp l ∧ Sep W0 w (row p 312 [.slice a n cp, .bool tn] :: L) := by
  obtain ⟨⟨a, n, cp⟩, h⟩ := hs.ex
  exact ⟨a, n, cp, h.pure⟩
theorem reader_shut {f : HF} {p : Nat} {l : List UInt8} {tn : Bool} {a : Option Addr} {n cp : Nat} (hb : RB f a n cp l) (hs : Sep W0 w (row p 312 [.slice a n cp, .bool tn] :: L)) : Sep W0 w (reader f p l tn :: L) :=
  Sep.intro (A := fun x : Option Addr × Nat × Nat => fun h => RB f x.1 x.2.1 x.2.2 l ∧ row p 312 [.slice x.1 x.2.1 x.2.2, .bool tn] h) (a, n, cp) (Sep.mkPure hb hs)
def rawOk (l : List UInt8) (m : Int) : Bool := decide (0 ≤ m) && decide (m ≤ l.length)
def rawR (l : List UInt8) (m : Int) : List UInt8 := if rawOk l m then l.take m.toNat else []
def rawL (l : List UInt8) (m : Int) : List UInt8 := if rawOk l m then l.drop m.toNat else []
def rawT (l : List UInt8) (tn : Bool) (m : Int) : Bool := if rawOk l m then tn else true
theorem rawR_length (l : List UInt8) (m : Int) : (rawR l m).length ≤ m.toNat := by
  unfold rawR; split
  · simp; omega
  · simp
theorem rawR_le (l : List UInt8) (m : Int) : (rawR l m).length ≤ l.length := by
  unfold rawR; split
  · simp; omega
  · simp
theorem rawL_le (l : List UInt8) (m : Int) : (rawL l m).length ≤ l.length := by
  unfold rawL; split
  · simp
  · simp
def numP (l : List UInt8) : Nat → UInt64
  | 0 => 0
  | k + 1 => numP l k ||| ((l.getD k 0).toUInt64 <<< UInt64.ofNat (8 * k))
def num (l : List UInt8) : UInt64 := numP l l.length
def shOf (l : List UInt8) : Sh :=
  ⟨(num (rawR l ((4 : Nat) : Int))).toUInt32, (num (rawR (rawL l ((4 : Nat) : Int)) ((2 : Nat) : Int))).toUInt16, (num (rawR (rawL (rawL l ((4 : Nat) : Int)) ((2 : Nat) : Int)) ((2 : Nat) : Int))).toUInt16, (num (rawR (rawL (rawL (rawL l ((4 : Nat) : Int)) ((2 : Nat) : Int)) ((2 : Nat) : Int)) ((4 : Nat) : Int))).toUInt32⟩
def shL (l : List UInt8) : List UInt8 := rawL (rawL (rawL (rawL l ((4 : Nat) : Int)) ((2 : Nat) : Int)) ((2 : Nat) : Int)) ((4 : Nat) : Int)
def shT (l : List UInt8) (tn : Bool) : Bool := rawT (rawL (rawL (rawL l ((4 : Nat) : Int)) ((2 : Nat) : Int)) ((2 : Nat) : Int)) (rawT (rawL (rawL l ((4 : Nat) : Int)) ((2 : Nat) : Int)) (rawT (rawL l ((4 : Nat) : Int)) (rawT l tn ((4 : Nat) : Int)) ((2 : Nat) : Int)) ((2 : Nat) : Int)) ((4 : Nat) : Int)
theorem shL_le (l : List UInt8) : (shL l).length ≤ l.length := by
  unfold shL
  have h1 := rawL_le l ((4 : Nat) : Int)
  have h2 := rawL_le (rawL l ((4 : Nat) : Int)) ((2 : Nat) : Int)
  have h3 := rawL_le (rawL (rawL l ((4 : Nat) : Int)) ((2 : Nat) : Int)) ((2 : Nat) : Int)
  have h4 := rawL_le (rawL (rawL (rawL l ((4 : Nat) : Int)) ((2 : Nat) : Int)) ((2 : Nat) : Int)) ((4 : Nat) : Int)
  omega
theorem rawT_false {l : List UInt8} {tn : Bool} {m : Int} (h : rawT l tn m = false) : tn = false ∧ 0 ≤ m ∧ m ≤ l.length ∧ (rawL l m).length = l.length - m.toNat := by
  unfold rawT at h
  split at h
  · rename_i ho
    have h2 := ho
    simp only [rawOk, Bool.and_eq_true, decide_eq_true_eq] at h2
    exact ⟨h, h2.1, h2.2, by simp [rawL, ho]⟩
  · cases h
theorem rawOk_rest (l : List UInt8) : rawOk l (l.length : Int) = true := by simp [rawOk]
theorem rawR_rest (l : List UInt8) : rawR l (l.length : Int) = l := by simp [rawR, rawOk_rest]
theorem rawL_rest (l : List UInt8) : rawL l (l.length : Int) = [] := by simp [rawL, rawOk_rest]
theorem rawT_rest (l : List UInt8) (tn : Bool) : rawT l tn (l.length : Int) = tn := by simp [rawT, rawOk_rest]
def crcBit (s : UInt32) : UInt32 := if (s &&& 1).toNat = 1 then (s >>> UInt32.ofNat 1) ^^^ 2197175160 else s >>> UInt32.ofNat 1
def crcBits (s : UInt32) : Nat → UInt32
  | 0 => s
  | k + 1 => crcBit (crcBits s k)
def crcP (l : List UInt8) (s : UInt32) : Nat → UInt32
  | 0 => s
  | k + 1 => crcBits (crcP l s k ^^^ (l.getD k 0).toUInt32) 8
def crc (s : UInt32) (l : List UInt8) : UInt32 := ~~~(crcP l (~~~s) l.length)
def frameH (kind : UInt16) (l : List UInt8) : List UInt8 := le 53021 2 ++ le kind.toUInt64 2 ++ le (UInt64.ofInt l.length) 4
def frame (kind : UInt16) (l : List UInt8) : List UInt8 := frameH kind l ++ le (crc (crc 0 (frameH kind l)) l).toUInt64 4 ++ l
theorem frameH_length (kind : UInt16) (l : List UInt8) : (frameH kind l).length = 8 := by simp [frameH, le_length]
theorem frame_length (kind : UInt16) (l : List UInt8) : (frame kind l).length = 12 + l.length := by simp [frame, frameH_length, le_length]; omega
def openE (l : List UInt8) : Int :=
  if rawT (rawL (rawL (rawL l ((2 : Nat) : Int)) ((2 : Nat) : Int)) ((4 : Nat) : Int)) (rawT (rawL (rawL l ((2 : Nat) : Int)) ((2 : Nat) : Int)) (rawT (rawL l ((2 : Nat) : Int)) (rawT l false ((2 : Nat) : Int)) ((2 : Nat) : Int)) ((4 : Nat) : Int)) ((4 : Nat) : Int) = true then 21 else if (num (rawR l ((2 : Nat) : Int))).toNat ≠ 53021 then 21 else if 65536 < (num (rawR (rawL (rawL l ((2 : Nat) : Int)) ((2 : Nat) : Int)) ((4 : Nat) : Int))).toNat then 21 else if (rawL (rawL (rawL (rawL l ((2 : Nat) : Int)) ((2 : Nat) : Int)) ((4 : Nat) : Int)) ((4 : Nat) : Int)).length < (num (rawR (rawL (rawL l ((2 : Nat) : Int)) ((2 : Nat) : Int)) ((4 : Nat) : Int))).toNat then 21
  else if (crc (crc 0 (l.take 8)) (rawR (rawL (rawL (rawL (rawL l ((2 : Nat) : Int)) ((2 : Nat) : Int)) ((4 : Nat) : Int)) ((4 : Nat) : Int)) ((num (rawR (rawL (rawL l ((2 : Nat) : Int)) ((2 : Nat) : Int)) ((4 : Nat) : Int))).toNat : Int))).toNat ≠ (num (rawR (rawL (rawL (rawL l ((2 : Nat) : Int)) ((2 : Nat) : Int)) ((4 : Nat) : Int)) ((4 : Nat) : Int))).toUInt32.toNat then 22 else 0
def openK (l : List UInt8) : UInt16 := if openE l = 0 then (num (rawR (rawL l ((2 : Nat) : Int)) ((2 : Nat) : Int))).toUInt16 else 0
def openL (l : List UInt8) : List UInt8 := if openE l = 0 then rawR (rawL (rawL (rawL (rawL l ((2 : Nat) : Int)) ((2 : Nat) : Int)) ((4 : Nat) : Int)) ((4 : Nat) : Int)) ((num (rawR (rawL (rawL l ((2 : Nat) : Int)) ((2 : Nat) : Int)) ((4 : Nat) : Int))).toNat : Int) else []
def openZ (l : List UInt8) : Int := if openE l = 0 then 12 + ((num (rawR (rawL (rawL l ((2 : Nat) : Int)) ((2 : Nat) : Int)) ((4 : Nat) : Int))).toNat : Int) else 0
end
end Go.Sl
namespace Go.Sl
def gX (x : Nat) : Nat := if 255 < x * 2 then (x * 2) ^^^ 285 else x * 2
def gXs (a : Nat) : Nat → Nat
  | 0 => a
  | k + 1 => gX (gXs a k)
def gB (b : UInt8) : Nat → UInt8
  | 0 => b
  | k + 1 => gB b k >>> UInt8.ofNat 1
def gP (a : Nat) (b : UInt8) : Nat → Nat
  | 0 => 0
  | k + 1 => if (gB b k &&& 1).toNat = 1 then gP a b k ^^^ gXs a k else gP a b k
def gmul (a b : UInt8) : UInt8 := UInt8.ofInt ((gP a.toNat b 8 : Nat) : Int)
set_option maxRecDepth 100000 in
theorem gX_lt {x : Nat} (h : x < 256) : gX x < 256 := by
  have : ∀ x, x < 256 → gX x < 256 := by decide
  exact this x h
theorem gXs_lt {a : Nat} (h : a < 256) (k : Nat) : gXs a k < 256 := by
  induction k with
  | zero => exact h
  | succ k ih => exact gX_lt ih
theorem gP_lt {a : Nat} (h : a < 256) (b : UInt8) (k : Nat) : gP a b k < 256 := by
  induction k with
  | zero => simp [gP]
  | succ k ih =>
    simp only [gP]
    split
    · exact Nat.xor_lt_two_pow (n := 8) ih (gXs_lt h k)
    · exact ih
theorem gB_nat (b : UInt8) (k : Nat) : (gB b k).toNat = b.toNat / 2 ^ k := by
  induction k with
  | zero => simp [gB]
  | succ k ih =>
    have h1 : (UInt8.ofNat 1).toNat % 8 = 1 := rfl
    rw [gB, UInt8.toNat_shiftRight, h1, ih, Nat.shiftRight_eq_div_pow, Nat.div_div_eq_div_mul, ← Nat.pow_add]
theorem gB_8 (b : UInt8) : (gB b 8).toNat = 0 := by
  rw [gB_nat]; have := b.toNat_lt; omega
theorem gB_zero {b : UInt8} {k : Nat} (h : (gB b k).toNat = 0) : ∀ m, (gB b (k + m)).toNat = 0 := by
  intro m
  rw [gB_nat] at *
  rw [Nat.pow_add, ← Nat.div_div_eq_div_mul, h]; simp
theorem gP_stop {a : Nat} {b : UInt8} {k : Nat} (h : (gB b k).toNat = 0) : ∀ m, gP a b (k + m) = gP a b k := by
  intro m
  induction m with
  | zero => rfl
  | succ m ih =>
    have h1 := gB_zero h m
    have h2 : (gB b (k + m) &&& 1).toNat = 0 := by
      have : gB b (k + m) = 0 := UInt8.toNat_inj.1 (by simpa using h1)
      rw [this]; rfl
    rw [← Nat.add_assoc, gP, if_neg (by omega), ih]
theorem gP_end {a : Nat} {b : UInt8} {k : Nat} (h : (gB b k).toNat = 0) (hk : k ≤ 8) : gP a b k = gP a b 8 := by
  have := gP_stop (a := a) h (8 - k)
  rw [show k + (8 - k) = 8 by omega] at this
  exact this.symm
def gpw : Nat → UInt8 → UInt8 → Nat → UInt8
  | 0, p, _, _ => p
  | f + 1, p, a, m => if m = 0 then p else gpw f (if m &&& 1 = 1 then gmul p a else p) (gmul a a) (m / 2)
def gpow (a : UInt8) (m : Nat) : UInt8 := gpw 64 1 a m
theorem gpw_zero (f : Nat) (p a : UInt8) : gpw f p a 0 = p := by cases f <;> simp [gpw]
def ginv (a : UInt8) : UInt8 := if a.toNat = 0 then 0 else gpow a 254
end Go.Sl
namespace Go.Sl
open Go.Proofs Go.Proofs.Tryz
theorem num_s {W0 w : World} {L : List Asn} (p : Nat) (xs : List UInt8) (c : UInt64) (size : Nat) (h8 : size ≤ 8) (hxs : xs.length ≤ 1099511627776) (hs : Sep W0 w (writer p xs :: L)) :
   Calls Tryz.prog 88 [ptr p, Q c, .int .i64 size].toArray w (Ret fun r w' => r = ptr p ∧ Sep W0 w' (writer p (xs ++ le c size) :: L)) := by
 obtain ⟨a, n, cp, hs⟩ := writer_open hs
 refine enter (args := [(ptr p), (.int .u64 (c.toNat : Int)), (I (size : Int))]) (n := 27) (rs := [.tmp 6]) func88 rfl rfl rfl rfl ?_
 refine rSeq (rReg (oV (xAssign rfl) rfl (oEnd (kSeq (rSeq (rSeq (rReg (oV (xMove rfl) rfl (oV (xB1 rfl (rMaxP (by omega))) rfl (oV (xB1 rfl (rMinP (by omega))) rfl (oV (xMove rfl) rfl (oEnd (kSeq (rBlk (rLoop (fun mz e w => ∃ (k : Nat) (a : Option Addr) (n : Nat) (cp : Nat), size - k = mz ∧ e = [(0, (ptr p)), (1, (.int .u64 ((shr8 c k).toNat : Int))), (9, (I (size : Int))), (10, (I (k : Int)))] ∧ (k ≤ size) ∧ Sep W0 w (row p 192 [(.slice a n cp)] :: own 5 1 (.slice a n cp) n ((xs ++ le c k).map B) :: L)) ⟨_, _, ⟨0, a, n, cp, rfl, rfl, (by omega), by simpa only [le, List.map_append, List.map_cons, List.map_nil, List.append_assoc, List.append_nil, List.nil_append] using hs⟩, ⟨rfl, rfl, rfl, rfl, trivial⟩⟩ ?_)))))))))))))))
 clear hs; rintro mz e w ⟨k, a, n, cp, rfl, rfl, hk, hs⟩
 have hn := Sep.ownB (i := 1) hs rfl; simp only [List.length_append, le_length] at hn
 refine rSeq (rReg (oV (xCmp rfl rfl rLss) rfl (oEnd (kSeq (rSeq ?_)))))
 refine rCondD rfl (fun hc1 => ?_) (fun hc1 => ?_)
 · refine rSkip (kSeq (rSeq (rBlk (rSeq (rReg (oV (xMove rfl) rfl (oV (xMove rfl) rfl (oV (xNil rfl) rfl (oV (xFA (j' := 0) underlying192 rfl sizeOf26 rfl rfl) rfl (oV (xLoad hs isAgg26 rfl (i := 0) rfl rfl) rfl (oV (xMove rfl) rfl (oV (xConv underlying53 underlying5 rfl (w64to8 (shr8 c k))) rfl (oBuildSlice (el := 5) (cs := [(.int .u8 ((shr8 c k).toUInt8.toNat : Int))]) hs rfl (fun w => by kernel_rfl) rfl ?_)))))))))))))
   intro b2 w3 hs4; clear hs
   refine oAppend (inf := Tryz.t5) (size := 1) (bytes := 1) hs4 (i := 2) rfl underlying26 (by kernel_rfl) rfl rfl rfl rfl rfl rfl rfl (src_row hs4 (i := 0) rfl rfl rfl) (by first | omega | (simp only [List.length_append, List.length_cons, List.length_nil, List.length_map]; omega)) (by first | omega | (simp only [List.length_append, List.length_cons, List.length_nil, List.length_map]; omega)) rfl ?_
   intro a5 c6 w7 hs8; clear hs4; dsimp only [List.set] at hs8
   refine oV (xNil rfl) rfl (oV (xFA (j' := 0) underlying192 rfl sizeOf26 rfl rfl) rfl (oStore hs8 sizeOf26 rfl rfl rfl (i := 1) rfl rfl ?_))
   intro w9 hs10; clear hs8; dsimp only [List.set] at hs10
   refine oEnd (kSeq (rReg (oV (xMove rfl) rfl (oV (xSh rfl rfl (uShr64 (c := (shr8 c k)) (s := 8) (by decide) (by decide))) rfl (oV (xAssign rfl) rfl (oEnd (kBlk (kSeq (rReg (oV (xAr rfl rfl (rAdd (wI (by omega) (by omega)))) rfl (oV (xMove rfl) rfl ?_)))))))))))
   replace hs10 := hs10.d0
   exact oEnd (kLoop (size - (k + 1)) _ (by omega) ⟨k + 1, _, _, _, rfl, rfl, (by omega), by simpa only [le, List.map_append, List.map_cons, List.map_nil, List.append_assoc, List.append_nil, List.nil_append] using hs10⟩ ⟨rfl, rfl, rfl, rfl, trivial⟩)
 · refine rExit (kSeqX (kLoopX (kBlkH (kSeq (rSeq (rReg (oV (xMove rfl) rfl (oV (xAssign rfl) rfl (oEnd (kSeq (rRet (kFin (.tmp rfl (.nil)) ?_))))))))))))
   obtain rfl : k = size := by omega
   exact ⟨rfl, writer_shut hs⟩
theorem raw_s {W0 w : World} {L : List Asn} {f : HF} (p : Nat) (xs : List UInt8) {b : Option Addr} {m bc : Nat} (l : List UInt8) (hb : RB f b m bc l) (hxs : xs.length + l.length ≤ 1099511627776) (hs : Sep W0 w (pool f :: writer p xs :: L)) :
   Calls Tryz.prog 89 [ptr p, .slice b m bc].toArray w (Ret fun r w' => r = ptr p ∧ Sep W0 w' (pool f :: writer p (xs ++ l) :: L)) := by
 replace hs := hs.f1
 obtain ⟨a, n, cp, hs⟩ := writer_open hs
 have hbl := RB.len hb; have hn := Sep.ownB (i := 1) hs rfl; replace hs := hs.perm (List.Perm.refl _)
 refine enter (args := [(ptr p), (.slice b m bc)]) (n := 15) (rs := [.tmp 4]) func89 rfl rfl rfl rfl ?_
 refine rSeq (rReg (oV (xAssign rfl) rfl (oEnd (kSeq (rSeq (rReg (oV (xMove rfl) rfl (oV (xMove rfl) rfl (oV (xNil rfl) rfl (oV (xFA (j' := 0) underlying192 rfl sizeOf26 rfl rfl) rfl (oV (xLoad hs isAgg26 rfl (i := 0) rfl rfl) rfl (oV (xMove rfl) rfl (oAppend (inf := Tryz.t5) (size := 1) (bytes := 1) hs (i := 1) rfl underlying26 (by kernel_rfl) rfl rfl rfl rfl rfl rfl rfl (Reads.src hb hs (i := 2) rfl (oneB _)) (by first | omega | (simp only [List.length_append, List.length_cons, List.length_nil, List.length_map]; omega)) (by first | omega | (simp only [List.length_append, List.length_cons, List.length_nil, List.length_map]; omega)) rfl ?_)))))))))))))
 intro a1 c2 w3 hs4; clear hs; dsimp only [List.set] at hs4
 refine oV (xNil rfl) rfl (oV (xFA (j' := 0) underlying192 rfl sizeOf26 rfl rfl) rfl (oStore hs4 sizeOf26 rfl rfl rfl (i := 0) rfl rfl ?_))
 intro w5 hs6; clear hs4; dsimp only [List.set] at hs6
 refine oEnd (kSeq (rSeq (rReg (oV (xMove rfl) rfl (oV (xAssign rfl) rfl (oEnd (kSeq (rRet (kFin (.tmp rfl (.nil)) ?_)))))))))
 rw [← List.map_append] at hs6
 replace hs6 := writer_shut hs6
 exact ⟨rfl, Sep.front (i := 1) rfl hs6⟩
theorem text_s {W0 w : World} {L : List Asn} {f : HF} (p : Nat) (xs : List UInt8) {b : Option Addr} {m bc : Nat} (l : List UInt8) (hb : RB f b m bc l) (hxs : xs.length + l.length ≤ 1099511627000) (hs : Sep W0 w (pool f :: writer p xs :: L)) :
   Calls Tryz.prog 369 [ptr p, .slice b m bc].toArray w (Ret fun r w' => r = ptr p ∧ Sep W0 w' (pool f :: writer p (xs ++ le (UInt64.ofInt m) 2 ++ l) :: L)) := by
 have hbl := RB.len hb
 refine enter (args := [(ptr p), (.slice b m bc)]) (n := 12) (rs := [.tmp 4]) func369 rfl rfl rfl rfl ?_
 refine rSeq (rReg (oV (xAssign rfl) rfl (oEnd (kSeq (rSeq (rReg (oV (xMove rfl) rfl (oV (xMove rfl) rfl (oV (xB1 rfl (rLenS underlying26)) rfl (oV (xConv underlying3 underlying53 rfl (wIto64 (m : Int))) rfl ?_))))))))))
 replace hs := hs.f1
 refine oCall call88 rfl rfl (num_s p xs (UInt64.ofInt (m : Int)) 2 (by decide) (by first | omega | (simp only [List.length_append, le_length, List.length_cons, List.length_nil, List.length_map, List.length_replicate]; omega)) hs) ?_
 rintro _ w1 ⟨rfl, hs2⟩; clear hs
 refine oV (xMove rfl) rfl ?_
 replace hs2 := hs2.f1
 refine oCall call89 rfl rfl (raw_s p (xs ++ le (UInt64.ofInt (m : Int)) 2) l hb (by first | omega | (simp only [List.length_append, le_length, List.length_cons, List.length_nil, List.length_map, List.length_replicate]; omega)) hs2) ?_
 rintro _ w3 ⟨rfl, hs4⟩; clear hs2
 refine oV (xAssign rfl) rfl (oEnd (kSeq (rRet (kFin (.tmp rfl (.nil)) ?_))))
 exact ⟨rfl, hs4⟩
theorem bytes_s {W0 w : World} {L : List Asn} {f : HF} (p : Nat) (xs : List UInt8) (hxs : xs.length ≤ 1099511627776) (hs : Sep W0 w (pool f :: writer p xs :: L)) :
   Calls Tryz.prog 90 [ptr p].toArray w (Ret fun r w' => ∃ f' a' k' cp', r = .slice a' k' cp' ∧ FLe f f' ∧ RB f' a' k' cp' xs ∧ Sep W0 w' (pool f' :: writer p xs :: L)) := by
 replace hs := hs.f1
 obtain ⟨a, n, cp, hs⟩ := writer_open hs
 have hn := Sep.ownB (i := 1) hs rfl
 refine enter (args := [(ptr p)]) (n := 9) (rs := [.tmp 2]) func90 rfl rfl rfl rfl ?_
 refine rSeq (rReg (oV (xAssign rfl) rfl (oEnd (kSeq (rSeq (rReg (oBuildSliceO (el := 5) (size := 1) (cs := []) hs rfl (fun w => by kernel_rfl) rfl rfl rfl ?_)))))))
 intro b1 w2 hs3; clear hs
 refine oV (xMove rfl) rfl (oV (xNil rfl) rfl (oV (xFA (j' := 0) underlying192 rfl sizeOf26 rfl rfl) rfl (oV (xLoad hs3 isAgg26 rfl (i := 1) rfl rfl) rfl (oAppend (inf := Tryz.t5) (size := 1) (bytes := 1) hs3 (i := 0) rfl underlying26 (by kernel_rfl) rfl rfl rfl rfl rfl rfl rfl (src_own hs3 (i := 2) rfl (oneB _)) (by first | omega | (simp only [List.length_append, List.length_cons, List.length_nil, List.length_map]; omega)) (by first | omega | (simp only [List.length_append, List.length_cons, List.length_nil, List.length_map]; omega)) rfl ?_))))
 intro a4 c5 w6 hs7; clear hs3; dsimp only [List.set] at hs7
 refine oV (xAssign rfl) rfl (oEnd (kSeq (rRet (kFin (.tmp rfl (.nil)) ?_))))
 rw [List.nil_append] at hs7
 replace hs7 := hs7.f3
 obtain ⟨f', hle, hb, h⟩ := Sep.freezeOwn (i := 0) hs7 rfl
 dsimp only [List.eraseIdx] at h
 replace h := Sep.front (i := 0) rfl (writer_shut (Sep.perm h (List.Perm.trans (List.Perm.swap _ _ _) (List.Perm.cons _ (List.Perm.swap _ _ _)))))
 refine ⟨f', _, _, _, rfl, hle, ?_, Sep.front (i := 1) rfl h⟩
 have := hb; simpa [Nat.zero_add] using this
end Go.Sl
namespace Go.Sl
open Go.Proofs Go.Proofs.Tryz
theorem wshard_s {W0 w : World} {L : List Asn} (p : Nat) (xs : List UInt8) (s : Sh) (hxs : xs.length ≤ 1099511627000) (hs : Sep W0 w (writer p xs :: L)) :
   Calls Tryz.prog 388 [ptr p, s.val].toArray w (Ret fun r w' => r = ptr p ∧ Sep W0 w' (writer p (xs ++ s.bytes) :: L)) := by
 refine enter (args := [(ptr p), (.agg #[(.int .u32 (s.o.toNat : Int)), (.int .u16 (s.st.toNat : Int)), (.int .u16 (s.sl.toNat : Int)), (.int .u32 (s.g.toNat : Int))])]) (n := 22) (rs := [.tmp 4]) func388 rfl rfl rfl rfl ?_
 refine rSeq (rReg (oBox hs rfl rfl rfl ?_))
 intro b1 w2 hs3; clear hs
 refine oV (xAssign rfl) rfl (oEnd (kSeq (rSeq ?_)))
 refine rRegG [(none, fun w => ∃ M, Sep W0 w (row b1 280 [(.int .u32 (s.o.toNat : Int)), (.int .u16 (s.st.toNat : Int)), (.int .u16 (s.sl.toNat : Int)), (.int .u32 (s.g.toNat : Int))] :: M))] (by kernel_rfl) hs3 (fun w4 hs5 => ⟨?_, fun hS => ?_⟩)
 · exact ⟨⟨_, (Sep.front (i := 0) rfl hs5)⟩, trivial⟩
 clear hs3
 refine gTake0 0 rfl (by kernel_rfl) hS (fun w => xMove rfl) rfl ?_
 clear hS; intro hS
 refine gTake0 1 rfl (by kernel_rfl) hS (fun w => xFA (j' := 0) underlying280 rfl sizeOf33 rfl rfl) rfl ?_
 clear hS; intro hS
 refine gTake 2 0 rfl (by kernel_rfl) rfl (by kernel_rfl) hS (fun w hq0 => by obtain ⟨M, hq⟩ := hq0; exact xLoad hq isAgg33 rfl (i := 0) rfl rfl) rfl ?_
 clear hS; intro hS
 refine gTake0 3 rfl (by kernel_rfl) hS (fun w => xConv underlying33 underlying53 rfl (w32to64 s.o)) rfl ?_
 clear hS; intro hS
 refine gTake0 5 rfl (by kernel_rfl) hS (fun w => xFA (j' := 1) underlying280 rfl sizeOf34 rfl rfl) rfl ?_
 clear hS; intro hS
 refine gTake 6 0 rfl (by kernel_rfl) rfl (by kernel_rfl) hS (fun w hq0 => by obtain ⟨M, hq⟩ := hq0; exact xLoad hq isAgg34 rfl (i := 0) rfl rfl) rfl ?_
 clear hS; intro hS
 refine gTake0 7 rfl (by kernel_rfl) hS (fun w => xConv underlying34 underlying53 rfl (w16to64 s.st)) rfl ?_
 clear hS; intro hS
 refine gTake0 9 rfl (by kernel_rfl) hS (fun w => xFA (j' := 2) underlying280 rfl sizeOf34 rfl rfl) rfl ?_
 clear hS; intro hS
 refine gTake 10 0 rfl (by kernel_rfl) rfl (by kernel_rfl) hS (fun w hq0 => by obtain ⟨M, hq⟩ := hq0; exact xLoad hq isAgg34 rfl (i := 0) rfl rfl) rfl ?_
 clear hS; intro hS
 refine gTake0 11 rfl (by kernel_rfl) hS (fun w => xConv underlying34 underlying53 rfl (w16to64 s.sl)) rfl ?_
 clear hS; intro hS
 refine gTake0 13 rfl (by kernel_rfl) hS (fun w => xFA (j' := 3) underlying280 rfl sizeOf33 rfl rfl) rfl ?_
 clear hS; intro hS
 refine gTake 14 0 rfl (by kernel_rfl) rfl (by kernel_rfl) hS (fun w hq0 => by obtain ⟨M, hq⟩ := hq0; exact xLoad hq isAgg33 rfl (i := 0) rfl rfl) rfl ?_
 clear hS; intro hS
 refine gTake0 15 rfl (by kernel_rfl) hS (fun w => xConv underlying33 underlying53 rfl (w32to64 s.g)) rfl ?_
 clear hS; intro hS
 refine gEff 4 (by kernel_rfl) rfl ?_
 replace hs5 := hs5.f1
 refine oCall call88 rfl rfl (num_s p xs s.o.toUInt64 4 (by decide) (by first | omega | (simp only [List.length_append, le_length, List.length_cons, List.length_nil, List.length_map, List.length_replicate]; omega)) hs5) ?_
 rintro _ w6 ⟨rfl, hs7⟩; clear hs5
 refine oEnd (kG ⟨⟨_, (Sep.front (i := 1) rfl hs7)⟩, trivial⟩ ?_)
 clear hS; intro hS
 refine gEff 8 (by kernel_rfl) rfl ?_
 refine oCall call88 rfl rfl (num_s p (xs ++ le s.o.toUInt64 4) s.st.toUInt64 2 (by decide) (by first | omega | (simp only [List.length_append, le_length, List.length_cons, List.length_nil, List.length_map, List.length_replicate]; omega)) hs7) ?_
 rintro _ w8 ⟨rfl, hs9⟩; clear hs7
 refine oEnd (kG ⟨⟨_, (Sep.front (i := 1) rfl hs9)⟩, trivial⟩ ?_)
 clear hS; intro hS
 refine gEff 12 (by kernel_rfl) rfl ?_
 refine oCall call88 rfl rfl (num_s p ((xs ++ le s.o.toUInt64 4) ++ le s.st.toUInt64 2) s.sl.toUInt64 2 (by decide) (by first | omega | (simp only [List.length_append, le_length, List.length_cons, List.length_nil, List.length_map, List.length_replicate]; omega)) hs9) ?_
 rintro _ w10 ⟨rfl, hs11⟩; clear hs9
 refine oEnd (kG ⟨⟨_, (Sep.front (i := 1) rfl hs11)⟩, trivial⟩ ?_)
 clear hS; intro hS
 refine gEff 16 (by kernel_rfl) rfl ?_
 refine oCall call88 rfl rfl (num_s p (((xs ++ le s.o.toUInt64 4) ++ le s.st.toUInt64 2) ++ le s.sl.toUInt64 2) s.g.toUInt64 4 (by decide) (by first | omega | (simp only [List.length_append, le_length, List.length_cons, List.length_nil, List.length_map, List.length_replicate]; omega)) hs11) ?_
 rintro _ w12 ⟨rfl, hs13⟩; clear hs11
 refine oEnd (kG ⟨⟨_, (Sep.front (i := 1) rfl hs13)⟩, trivial⟩ ?_)
 clear hS; intro hS
 refine gTake0 17 rfl (by kernel_rfl) hS (fun w => xAssign rfl) rfl ?_
 clear hS; intro hS
 refine gEnd (by kernel_rfl) ?_
 clear hS
 refine kSeq ?_
 refine rRet (kFin (.tmp rfl (.nil)) ?_)
 replace hs13 := hs13.d1
 exact ⟨rfl, by simpa only [Sh.bytes, List.append_assoc] using hs13⟩
theorem read_s {W0 w : World} {L : List Asn} {f : HF} {b : Option Addr} {m bc : Nat} (l : List UInt8) (hb : RB f b m bc l) (hs : Sep W0 w (pool f :: L)) :
   Calls Tryz.prog 83 [.slice b m bc].toArray w (Ret fun r w' => ∃ p, r = ptr p ∧ Sep W0 w' (pool f :: reader f p l false :: L)) := by
 refine enter (args := [(.slice b m bc)]) (n := 6) (rs := [.tmp 2]) func83 rfl rfl rfl rfl ?_
 refine rSeq (rReg (oV (xAssign rfl) rfl (oEnd (kSeq (rSeq (rReg (oV (xMove rfl) rfl (oV (xBuild (v := (.agg #[(.slice b m bc), (.bool false)])) rfl (fun w => by kernel_rfl)) rfl (oBox hs rfl rfl rfl ?_)))))))))
 intro b1 w2 hs3; clear hs
 refine oV (xAssign rfl) rfl (oEnd (kSeq (rRet (kFin (.tmp rfl (.nil)) ?_))))
 exact ⟨_, rfl, Sep.front (i := 1) rfl (reader_shut hb hs3)⟩
theorem rawOk_iff {l : List UInt8} {m : Int} : rawOk l m = true ↔ 0 ≤ m ∧ m ≤ l.length := by simp [rawOk]
theorem rawOk_not {l : List UInt8} {m : Int} (h : m < 0 ∨ (l.length : Int) < m) : rawOk l m = false := by
 rw [← Bool.not_eq_true, rawOk_iff]; omega
theorem rraw_s {W0 w : World} {L : List Asn} {f : HF} (p : Nat) (l : List UInt8) (tn : Bool) (m : Int) (hl : l.length ≤ 1099511627776) (hs : Sep W0 w (pool f :: reader f p l tn :: L)) :
   Calls Tryz.prog 86 [ptr p, .int .i64 m].toArray w (Ret fun r w' => ∃ f' a' k' cp', r = .slice a' k' cp' ∧ FLe f f' ∧ RB f' a' k' cp' (rawR l m) ∧ Sep W0 w' (pool f' :: reader f' p (rawL l m) (rawT l tn m) :: L)) := by
 replace hs := hs.f1
 obtain ⟨a, n, cp, hb, hs⟩ := reader_open hs; have hbl := RB.len hb
 refine enter (args := [(ptr p), (I m)]) (n := 41) (rs := [.tmp 4]) func86 rfl rfl rfl rfl ?_
 refine rSeq (rReg (oV (xAssign rfl) rfl (oEnd (kSeq (rSeq (rSeq (rReg (oV (xMove rfl) rfl (oV (xCmp rfl rfl rLss) rfl (oV (xMove rfl) rfl ?_))))))))))
 refine oCase (d := 8) rfl (fun hg1 => ?_) (fun hg1 => ?_)
 · replace hg1 := of_decide_eq_true hg1
   refine oGuardF rfl rfl rfl rfl (oGuardF rfl rfl rfl rfl (oGuardF rfl rfl rfl rfl (oGuardF rfl rfl rfl rfl (oGuardF rfl rfl rfl rfl (oGuardF rfl rfl rfl rfl (oGuardF rfl rfl rfl rfl (oV (xPickT rfl rfl) rfl (oEnd (kSeq (rCondT rfl (rSeq (rReg (oV (xMove rfl) rfl (oV (xMove rfl) rfl (oV (xNil rfl) rfl (oV (xFA (j' := 1) underlying312 rfl sizeOf4 rfl rfl) rfl (oStore hs sizeOf4 rfl rfl rfl (i := 0) rfl rfl ?_)))))))))))))))))
   intro w2 hs3; clear hs; dsimp only [List.set] at hs3
   refine oV (xNil rfl) rfl (oV (xFA (j' := 0) underlying312 rfl sizeOf26 rfl rfl) rfl (oStore hs3 sizeOf26 rfl rfl rfl (i := 0) rfl rfl ?_))
   intro w4 hs5; clear hs3; dsimp only [List.set] at hs5
   refine oEnd (kSeq (rSeq (rReg (oV (xAssign rfl) rfl (oEnd (kSeq (rRet (kSeqR (kFin (.tmp rfl (.nil)) ?_)))))))))
   have ho : rawOk l m = false := rawOk_not (by omega)
   rw [show rawR l m = [] by simp [rawR, ho], show rawL l m = [] by simp [rawL, ho], show rawT l tn m = true by simp [rawT, ho]]
   exact ⟨f, none, 0, 0, rfl, FLe.refl _, RB.nil, Sep.front (i := 1) rfl (reader_shut RB.nil hs5)⟩
 · replace hg1 := of_decide_eq_false hg1
   refine oGuardT rfl rfl (oV (xMove rfl) rfl (oGuardT rfl rfl (oV (xMove rfl) rfl (oGuardT rfl rfl (oV (xNil rfl) rfl (oGuardT rfl rfl (oV (xFA (j' := 0) underlying312 rfl sizeOf26 rfl rfl) rfl (oGuardT rfl rfl (oV (xLoad hs isAgg26 rfl (i := 0) rfl rfl) rfl (oGuardT rfl rfl (oV (xB1 rfl (rLenS underlying26)) rfl (oGuardT rfl rfl (oV (xCmp rfl rfl rGtr) rfl (oV (xPickF rfl rfl) rfl (oEnd (kSeq ?_))))))))))))))))
   refine rCondD rfl (fun hc6 => ?_) (fun hc6 => ?_)
   · refine rSeq (rReg (oV (xMove rfl) rfl (oV (xMove rfl) rfl (oV (xNil rfl) rfl (oV (xFA (j' := 1) underlying312 rfl sizeOf4 rfl rfl) rfl (oStore hs sizeOf4 rfl rfl rfl (i := 0) rfl rfl ?_))))))
     intro w7 hs8; clear hs; dsimp only [List.set] at hs8
     refine oV (xNil rfl) rfl (oV (xFA (j' := 0) underlying312 rfl sizeOf26 rfl rfl) rfl (oStore hs8 sizeOf26 rfl rfl rfl (i := 0) rfl rfl ?_))
     intro w9 hs10; clear hs8; dsimp only [List.set] at hs10
     refine oEnd (kSeq (rSeq (rReg (oV (xAssign rfl) rfl (oEnd (kSeq (rRet (kSeqR (kFin (.tmp rfl (.nil)) ?_)))))))))
     have ho : rawOk l m = false := rawOk_not (by omega)
     rw [show rawR l m = [] by simp [rawR, ho], show rawL l m = [] by simp [rawL, ho], show rawT l tn m = true by simp [rawT, ho]]
     exact ⟨f, none, 0, 0, rfl, FLe.refl _, RB.nil, Sep.front (i := 1) rfl (reader_shut RB.nil hs10)⟩
   · refine rSkip (kSeq (rSeq (rReg (oBuildSliceO (el := 5) (size := 1) (cs := []) hs rfl (fun w => by kernel_rfl) rfl rfl rfl ?_))))
     intro b11 w12 hs13; clear hs
     refine oV (xMove rfl) rfl (oV (xNil rfl) rfl (oV (xFA (j' := 0) underlying312 rfl sizeOf26 rfl rfl) rfl (oV (xLoad hs13 isAgg26 rfl (i := 1) rfl rfl) rfl (oV (xMove rfl) rfl ?_))))
     obtain ⟨a14, k15, cp16, hb17, hk18, hx19⟩ := RB.slice_hi (P := Tryz.prog) (t := 26) (hi := m.toNat) hb underlying26 sizeOf5 (Bd.some (k := .i64) (i := m) (by omega)) (by omega)
     have hl20 := RB.len hb17
     refine oV (xSlice rfl rfl rfl hx19) rfl (oAppend (inf := Tryz.t5) (size := 1) (bytes := 1) hs13 (i := 0) rfl underlying26 (by kernel_rfl) rfl rfl rfl rfl rfl rfl rfl (Reads.src hb17 hs13 (i := 2) rfl (oneB _)) (by first | omega | (simp only [List.length_append, List.length_cons, List.length_nil, List.length_map]; omega)) (by first | omega | (simp only [List.length_append, List.length_cons, List.length_nil, List.length_map]; omega)) rfl ?_)
     intro a21 c22 w23 hs24; clear hs13; dsimp only [List.set] at hs24
     refine oV (xAssign rfl) rfl (oEnd (kSeq (rSeq (rReg (oV (xMove rfl) rfl (oV (xMove rfl) rfl (oV (xNil rfl) rfl (oV (xFA (j' := 0) underlying312 rfl sizeOf26 rfl rfl) rfl (oV (xLoad hs24 isAgg26 rfl (i := 1) rfl rfl) rfl (oV (xMove rfl) rfl ?_))))))))))
     obtain ⟨a25, k26, cp27, hb28, hk29, hx30⟩ := RB.slice_lo (P := Tryz.prog) (t := 26) (lo := m.toNat) hb underlying26 sizeOf5 (Bd.some (k := .i64) (i := m) (by omega)) (by omega)
     have hl31 := RB.len hb28
     refine oV (xSlice rfl rfl rfl hx30) rfl (oV (xNil rfl) rfl (oV (xFA (j' := 0) underlying312 rfl sizeOf26 rfl rfl) rfl (oStore hs24 sizeOf26 rfl rfl rfl (i := 1) rfl rfl ?_)))
     intro w32 hs33; clear hs24; dsimp only [List.set] at hs33
     refine oEnd (kSeq (rSeq (rReg (oV (xMove rfl) rfl (oV (xAssign rfl) rfl (oEnd (kSeq (rRet (kFin (.tmp rfl (.nil)) ?_)))))))))
     replace hs33 := hs33.f1
     replace hs33 := hs33.f1
     replace hs33 := hs33.f2
     have ho : rawOk l m = true := rawOk_iff.2 (by omega)
     rw [show rawR l m = l.take m.toNat by simp [rawR, ho], show rawL l m = l.drop m.toNat by simp [rawL, ho], show rawT l tn m = tn by simp [rawT, ho]]
     obtain ⟨f', hle, hr, h⟩ := Sep.freezeOwn (i := 0) hs33 rfl
     dsimp only [List.eraseIdx] at h
     exact ⟨f', _, _, _, rfl, hle, by simpa only [List.nil_append] using hr, Sep.front (i := 1) rfl (reader_shut (hb28.mono hle) (Sep.front (i := 1) rfl h))⟩
theorem rnum_s {W0 w : World} {L : List Asn} {f : HF} (p : Nat) (l : List UInt8) (tn : Bool) (size : Nat) (h8 : size ≤ 8) (hl : l.length ≤ 1099511627776) (hs : Sep W0 w (pool f :: reader f p l tn :: L)) :
   Calls Tryz.prog 85 [ptr p, .int .i64 size].toArray w (Ret fun r w' => ∃ f', r = Q (num (rawR l size)) ∧ FLe f f' ∧ Sep W0 w' (pool f' :: reader f' p (rawL l size) (rawT l tn size) :: L)) := by
 refine enter (args := [(ptr p), (I (size : Int))]) (n := 28) (rs := [.tmp 4]) func85 rfl rfl rfl rfl ?_
 refine rSeq (rReg (oV (xAssign rfl) rfl (oEnd (kSeq (rSeq (rSeq (rReg (oV (xMove rfl) rfl (oV (xCmp rfl rfl rGtr) rfl (oEnd (kSeq (rCondD rfl (fun hc1 => absurd hc1 (by omega)) (fun hc1 => ?_)))))))))))))
 refine rSkip (kSeq (rSeq (rReg (oV (xAssign rfl) rfl (oEnd (kSeq (rSeq (rSeq (rReg (oV (xMove rfl) rfl (oV (xMove rfl) rfl ?_)))))))))))
 replace hs := hs.f1
 replace hs := hs.f1
 refine oCall call86 rfl rfl (rraw_s p l tn (size : Int) (by first | omega | (simp only [List.length_append, le_length, List.length_cons, List.length_nil, List.length_map, List.length_replicate]; omega)) hs) ?_
 rintro _ w9 ⟨f2, a3, k4, cp5, rfl, hle6, hb7, hs10⟩; clear hs; have hl8 := RB.len hb7
 have hR11 := rawR_length l (size : Int); have hR12 := rawR_le l (size : Int); have hR13 := rawL_le l (size : Int)
 refine oV (xB1 rfl (rLenS underlying26)) rfl (oV (xMove rfl) rfl (oEnd (kSeq (rBlk (rLoop (fun mz e w => ∃ (k : Nat), k4 - k = mz ∧ e = [(5, (.int .u64 ((numP (rawR l (size : Int)) k).toNat : Int))), (12, (.slice a3 k4 cp5)), (13, (I (k4 : Int))), (14, (I (k : Int)))] ∧ (k ≤ k4) ∧ Sep W0 w (pool f2 :: reader f2 p (rawL l (size : Int)) (rawT l tn (size : Int)) :: L)) ⟨_, _, ⟨0, rfl, rfl, (by omega), hs10⟩, ⟨rfl, rfl, rfl, rfl, trivial⟩⟩ ?_)))))
 clear hs10; rintro mz e w ⟨k, rfl, rfl, hk, hs⟩
 refine rSeq (rReg (oV (xCmp rfl rfl rLss) rfl (oEnd (kSeq (rSeq ?_)))))
 refine rCondD rfl (fun hc14 => ?_) (fun hc14 => ?_)
 · refine rSkip (kSeq (rSeq (rBlk (rSeq (rReg (oV (xMove rfl) rfl ?_))))))
   obtain ⟨b15, off16, rfl⟩ := Reads.at hb7 (by omega)
   refine oV (xIA (o' := off16 + k) underlying26 sizeOf5 rfl rfl (by omega) (by omega) (by omega)) rfl (oV (xLoadC isAgg5 rfl (Reads.cell hb7 hs (i := 0) rfl (getB (by omega)))) rfl (oV (xAssign rfl) rfl (oV (xAssign rfl) rfl (oEnd (kSeq (rReg (oV (xMove rfl) rfl (oV (xMove rfl) rfl (oV (xConv underlying5 underlying53 rfl (w8to64 ((rawR l (size : Int)).getD k 0))) rfl (oV (xMove rfl) rfl (oV (xAr rfl rfl (rMul (wI (by omega) (by omega)))) rfl (oV (xSh rfl rfl (uShl64 (c := ((rawR l (size : Int)).getD k 0).toUInt64) (i := (8 * (k : Int))) (s := (8 * k)) (by omega) (by omega))) rfl (oV (xAr rfl rfl (uOr64 (numP (rawR l (size : Int)) k) (((rawR l (size : Int)).getD k 0).toUInt64 <<< UInt64.ofNat (8 * k)))) rfl (oV (xAssign rfl) rfl (oEnd (kBlk (kSeq (rReg (oV (xAr rfl rfl (rAdd (wI (by omega) (by omega)))) rfl (oV (xMove rfl) rfl ?_))))))))))))))))))))
   exact oEnd (kLoop (k4 - (k + 1)) _ (by omega) ⟨k + 1, rfl, rfl, (by omega), hs⟩ ⟨rfl, rfl, rfl, rfl, trivial⟩)
 · refine rExit (kSeqX (kLoopX (kBlkH (kSeq (rSeq (rReg (oV (xMove rfl) rfl (oV (xAssign rfl) rfl (oEnd (kSeq (rRet (kFin (.tmp rfl (.nil)) ?_))))))))))))
   obtain rfl : k = k4 := by omega
   exact ⟨_, by rw [num, hl8]; rfl, hle6, hs⟩
theorem left_s {W0 w : World} {L : List Asn} {f : HF} (p : Nat) (l : List UInt8) (tn : Bool) (hs : Sep W0 w (reader f p l tn :: L)) :
   Calls Tryz.prog 84 [ptr p].toArray w (Ret fun r w' => r = .int .i64 l.length ∧ Sep W0 w' (reader f p l tn :: L)) := by
 obtain ⟨a, n, cp, hb, hs⟩ := reader_open hs; have hbl := RB.len hb
 refine enter (args := [(ptr p)]) (n := 10) (rs := [.tmp 2]) func84 rfl rfl rfl rfl ?_
 refine rSeq (rReg (oV (xAssign rfl) rfl (oEnd (kSeq (rSeq (rSeq (rReg (oV (xMove rfl) rfl (oV (xBin (r := .bool false) rfl rfl (fun _ => rfl) (fun w => by kernel_rfl)) rfl (oEnd (kSeq (rCondF rfl (rSkip (kSeq (rSeq (rReg (oV (xMove rfl) rfl (oV (xNil rfl) rfl (oV (xFA (j' := 0) underlying312 rfl sizeOf26 rfl rfl) rfl (oV (xLoad hs isAgg26 rfl (i := 0) rfl rfl) rfl (oV (xB1 rfl (rLenS underlying26)) rfl (oV (xAssign rfl) rfl (oEnd (kSeq (rRet (kFin (.tmp rfl (.nil)) ?_))))))))))))))))))))))))))
 subst hbl
 exact ⟨rfl, reader_shut hb hs⟩
theorem torn_s {W0 w : World} {L : List Asn} {f : HF} (p : Nat) (l : List UInt8) (tn : Bool) (hs : Sep W0 w (reader f p l tn :: L)) :
   Calls Tryz.prog 87 [ptr p].toArray w (Ret fun r w' => r = .bool tn ∧ Sep W0 w' (reader f p l tn :: L)) := by
 obtain ⟨a, n, cp, hb, hs⟩ := reader_open hs; have hbl := RB.len hb
 refine enter (args := [(ptr p)]) (n := 11) (rs := [.tmp 2]) func87 rfl rfl rfl rfl ?_
 refine rSeq (rReg (oV (xAssign rfl) rfl (oEnd (kSeq (rSeq (rReg (oV (xMove rfl) rfl (oV (xBin (r := .bool false) rfl rfl (fun _ => rfl) (fun w => by kernel_rfl)) rfl (oV (xMove rfl) rfl (oGuardT rfl rfl (oV (xMove rfl) rfl (oGuardT rfl rfl (oV (xNil rfl) rfl (oGuardT rfl rfl (oV (xFA (j' := 1) underlying312 rfl sizeOf4 rfl rfl) rfl (oGuardT rfl rfl (oV (xLoad hs isAgg4 rfl (i := 0) rfl rfl) rfl (oV (xPickF rfl rfl) rfl (oV (xAssign rfl) rfl (oEnd (kSeq (rRet (kFin (.tmp rfl (.nil)) ?_)))))))))))))))))))))))
 exact ⟨rfl, reader_shut hb hs⟩
theorem rest_s {W0 w : World} {L : List Asn} {f : HF} (p : Nat) (l : List UInt8) (tn : Bool) (hl : l.length ≤ 1099511627776) (hs : Sep W0 w (pool f :: reader f p l tn :: L)) :
   Calls Tryz.prog 278 [ptr p].toArray w (Ret fun r w' => ∃ f' a' k' cp', r = .slice a' k' cp' ∧ FLe f f' ∧ RB f' a' k' cp' l ∧ Sep W0 w' (pool f' :: reader f' p [] tn :: L)) := by
 refine enter (args := [(ptr p)]) (n := 7) (rs := [.tmp 2]) func278 rfl rfl rfl rfl ?_
 refine rSeq (rReg (oV (xAssign rfl) rfl (oEnd (kSeq (rSeq (rReg (oV (xMove rfl) rfl (oV (xMove rfl) rfl ?_))))))))
 replace hs := hs.f1
 refine oCall call84 rfl rfl (left_s p l tn hs) ?_
 rintro _ w1 ⟨rfl, hs2⟩; clear hs
 replace hs2 := hs2.f1
 refine oCall call86 rfl rfl (rraw_s p l tn (l.length : Int) (by first | omega | (simp only [List.length_append, le_length, List.length_cons, List.length_nil, List.length_map, List.length_replicate]; omega)) hs2) ?_
 rintro _ w10 ⟨f3, a4, k5, cp6, rfl, hle7, hb8, hs11⟩; clear hs2; have hl9 := RB.len hb8
 have hR12 := rawR_length l (l.length : Int); have hR13 := rawR_le l (l.length : Int); have hR14 := rawL_le l (l.length : Int)
 refine oV (xAssign rfl) rfl (oEnd (kSeq (rRet (kFin (.tmp rfl (.nil)) ?_))))
 rw [rawR_rest] at hb8; rw [rawL_rest, rawT_rest] at hs11
 exact ⟨_, _, _, _, rfl, hle7, hb8, hs11⟩
theorem rshard_s {W0 w : World} {L : List Asn} {f : HF} (p : Nat) (l : List UInt8) (tn : Bool) (hl : l.length ≤ 1099511627776) (hs : Sep W0 w (pool f :: reader f p l tn :: L)) :
   Calls Tryz.prog 277 [ptr p].toArray w (Ret fun r w' => ∃ f', r = (shOf l).val ∧ FLe f f' ∧ Sep W0 w' (pool f' :: reader f' p (shL l) (shT l tn) :: L)) := by
 refine enter (args := [(ptr p)]) (n := 16) (rs := [.cell 2 280]) func277 rfl rfl rfl rfl ?_
 refine rSeq (rReg (oAlloc hs zeroValue280 rfl rfl ?_))
 intro b1 w2 hs3; clear hs
 refine oEnd (kSeq (rSeq (rReg (oV (xMove rfl) rfl ?_))))
 replace hs3 := hs3.f2
 replace hs3 := hs3.f2
 refine oCall call85 rfl rfl (rnum_s p l tn 4 (by decide) (by first | omega | (simp only [List.length_append, le_length, List.length_cons, List.length_nil, List.length_map, List.length_replicate]; omega)) hs3) ?_
 rintro _ w6 ⟨f4, rfl, hle5, hs7⟩; clear hs3
 have hR8 := rawL_le l ((4 : Nat) : Int)
 refine oV (xConv underlying53 underlying33 rfl (w64to32 (num (rawR l ((4 : Nat) : Int))))) rfl (oV (xMove rfl) rfl ?_)
 replace hs7 := hs7.f1
 replace hs7 := hs7.f1
 refine oCall call85 rfl rfl (rnum_s p (rawL l ((4 : Nat) : Int)) (rawT l tn ((4 : Nat) : Int)) 2 (by decide) (by first | omega | (simp only [List.length_append, le_length, List.length_cons, List.length_nil, List.length_map, List.length_replicate]; omega)) hs7) ?_
 rintro _ w11 ⟨f9, rfl, hle10, hs12⟩; clear hs7
 have hR13 := rawL_le (rawL l ((4 : Nat) : Int)) ((2 : Nat) : Int)
 refine oV (xConv underlying53 underlying34 rfl (w64to16 (num (rawR (rawL l ((4 : Nat) : Int)) ((2 : Nat) : Int))))) rfl (oV (xMove rfl) rfl ?_)
 replace hs12 := hs12.f1
 replace hs12 := hs12.f1
 refine oCall call85 rfl rfl (rnum_s p (rawL (rawL l ((4 : Nat) : Int)) ((2 : Nat) : Int)) (rawT (rawL l ((4 : Nat) : Int)) (rawT l tn ((4 : Nat) : Int)) ((2 : Nat) : Int)) 2 (by decide) (by first | omega | (simp only [List.length_append, le_length, List.length_cons, List.length_nil, List.length_map, List.length_replicate]; omega)) hs12) ?_
 rintro _ w16 ⟨f14, rfl, hle15, hs17⟩; clear hs12
 have hR18 := rawL_le (rawL (rawL l ((4 : Nat) : Int)) ((2 : Nat) : Int)) ((2 : Nat) : Int)
 refine oV (xConv underlying53 underlying34 rfl (w64to16 (num (rawR (rawL (rawL l ((4 : Nat) : Int)) ((2 : Nat) : Int)) ((2 : Nat) : Int))))) rfl (oV (xMove rfl) rfl ?_)
 replace hs17 := hs17.f1
 replace hs17 := hs17.f1
 refine oCall call85 rfl rfl (rnum_s p (rawL (rawL (rawL l ((4 : Nat) : Int)) ((2 : Nat) : Int)) ((2 : Nat) : Int)) (rawT (rawL (rawL l ((4 : Nat) : Int)) ((2 : Nat) : Int)) (rawT (rawL l ((4 : Nat) : Int)) (rawT l tn ((4 : Nat) : Int)) ((2 : Nat) : Int)) ((2 : Nat) : Int)) 4 (by decide) (by first | omega | (simp only [List.length_append, le_length, List.length_cons, List.length_nil, List.length_map, List.length_replicate]; omega)) hs17) ?_
 rintro _ w21 ⟨f19, rfl, hle20, hs22⟩; clear hs17
 have hR23 := rawL_le (rawL (rawL (rawL l ((4 : Nat) : Int)) ((2 : Nat) : Int)) ((2 : Nat) : Int)) ((4 : Nat) : Int)
 refine oV (xConv underlying53 underlying33 rfl (w64to32 (num (rawR (rawL (rawL (rawL l ((4 : Nat) : Int)) ((2 : Nat) : Int)) ((2 : Nat) : Int)) ((4 : Nat) : Int))))) rfl (oV (xBuild (v := (.agg #[(.int .u32 ((num (rawR l ((4 : Nat) : Int))).toUInt32.toNat : Int)), (.int .u16 ((num (rawR (rawL l ((4 : Nat) : Int)) ((2 : Nat) : Int))).toUInt16.toNat : Int)), (.int .u16 ((num (rawR (rawL (rawL l ((4 : Nat) : Int)) ((2 : Nat) : Int)) ((2 : Nat) : Int))).toUInt16.toNat : Int)), (.int .u32 ((num (rawR (rawL (rawL (rawL l ((4 : Nat) : Int)) ((2 : Nat) : Int)) ((2 : Nat) : Int)) ((4 : Nat) : Int))).toUInt32.toNat : Int))])) rfl (fun w => by kernel_rfl)) rfl (oStoreG hs22 sizeOf280 rfl rfl rfl rfl (i := 2) rfl rfl ?_))
 intro w24 hs25; clear hs22; dsimp only [List.set, putAt] at hs25
 refine oEnd (kSeq (rRet (kFin (.cell rfl (run_varG hs25 isAgg280 sizeOf280 (i := 2) rfl rfl) (.nil)) ?_)))
 replace hs25 := hs25.d2
 exact ⟨_, rfl, (FLe.trans hle5 (FLe.trans hle10 (FLe.trans hle15 hle20))), hs25⟩
end Go.Sl
namespace Go.Sl
open Go.Proofs Go.Proofs.Tryz
theorem gadd_s {W0 w : World} {L : List Asn} (a b : UInt8) (hs : Sep W0 w L) : Calls Tryz.prog 107 [B a, B b].toArray w (Ret fun r w' => r = B (a ^^^ b) ∧ Sep W0 w' L) := by
 refine enter (args := [(.int .u8 (a.toNat : Int)), (.int .u8 (b.toNat : Int))]) (n := 8) (rs := [.tmp 4]) func107 rfl rfl rfl rfl ?_
 refine rSeq (rReg (oV (xAssign rfl) rfl (oEnd (kSeq (rSeq (rReg (oV (xMove rfl) rfl (oV (xMove rfl) rfl (oV (xAr rfl rfl (uXor8 a b)) rfl (oV (xAssign rfl) rfl (oEnd (kSeq (rRet (kFin (.tmp rfl (.nil)) ?_))))))))))))))
 exact ⟨rfl, hs⟩
theorem vI {i j : Int} {k : IntKind} (h : i = j) : some (Value.int k j) = some (Value.int k i) := by rw [h]
theorem vI' {i j : Int} {k : IntKind} (h : i = j) : some (Value.int k i) = some (Value.int k j) := by rw [h]
theorem gmul_s {W0 w : World} {L : List Asn} (a b : UInt8) (hs : Sep W0 w L) : Calls Tryz.prog 108 [B a, B b].toArray w (Ret fun r w' => r = B (gmul a b) ∧ Sep W0 w' L) := by
 refine enter (args := [(.int .u8 (a.toNat : Int)), (.int .u8 (b.toNat : Int))]) (n := 27) (rs := [.tmp 4]) func108 rfl rfl rfl rfl ?_
 refine rSeq (rReg (oV (xAssign rfl) rfl (oEnd (kSeq (rSeq (rReg (oV (xMove rfl) rfl (oV (xConv underlying5 underlying3 rfl (w8toI a)) rfl (oV (xAssign rfl) rfl (oV (xAssign rfl) rfl (oEnd (kSeq (rSeq (rBlk (rLoop (fun mz e w => ∃ (k : Nat), 8 - k = mz ∧ e = [(1, (.int .u8 ((gB b k).toNat : Int))), (5, (I (gP a.toNat b k : Int))), (6, (I (gXs a.toNat k : Int)))] ∧ (k ≤ 8) ∧ Sep W0 w (L)) ⟨_, _, ⟨0, rfl, rfl, (by omega), hs⟩, ⟨rfl, rfl, rfl, trivial⟩⟩ ?_)))))))))))))))
 clear hs; rintro mz e w ⟨k, rfl, rfl, hk, hs⟩
 have hx := gXs_lt (a := a.toNat) a.toNat_lt k; have hp := gP_lt (a := a.toNat) a.toNat_lt b k; have h8 : 0 < (gB b k).toNat → k < 8 := fun h => by
     by_cases h9 : k = 8
     · subst h9; have := gB_8 b; omega
     · omega
 refine rSeq (rSeq (rReg (oV (xMove rfl) rfl (oV (xCmp rfl rfl rGtr) rfl (oEnd (kSeq ?_))))))
 refine rCondD rfl (fun hc1 => ?_) (fun hc1 => ?_)
 · refine rSkip (kSeq (rSeq (rBlk (rSeq (rSeq (rReg (oV (xMove rfl) rfl (oV (xAr rfl rfl (uAnd8 (gB b k) (1 : UInt8))) rfl (oV (xCmp rfl rfl rEql) rfl (oEnd (kSeq ?_)))))))))))
   refine rCondD rfl (fun hc2 => ?_) (fun hc2 => ?_)
   · refine rReg (oV (xMove rfl) rfl (oV (xMove rfl) rfl (oV (xAr rfl rfl (iXor (a := gP a.toNat b k) (b := gXs a.toNat k) (by omega) (by omega) (by omega) (by omega))) rfl (oV (xAssign rfl) rfl (oEnd (kSeq (rSeq (rReg (oV (xMove rfl) rfl (oV (xSh rfl rfl (iShl (r := ((gXs a.toNat k : Int) * 2)) (s := 1) (by decide) (by decide) (by rw [show (2 : Int) ^ 1 = 2 from rfl]; exact wI (by omega) (by omega)))) rfl (oV (xAssign rfl) rfl (oEnd (kSeq (rSeq (rReg (oV (xMove rfl) rfl (oV (xCmp rfl rfl rGtr) rfl (oEnd (kSeq ?_)))))))))))))))))))
     refine rCondD rfl (fun hc3 => ?_) (fun hc3 => ?_)
     · refine rReg (oV (xMove rfl) rfl (oV (xAr rfl rfl (iXor (a := (gXs a.toNat k * 2)) (b := 285) (by omega) (by omega) (by omega) (by omega))) rfl (oV (xAssign rfl) rfl (oEnd (kBlk (kSeq (rReg (oV (xMove rfl) rfl (oV (xSh rfl rfl (uShr8 (c := (gB b k)) (s := 1) (by decide) (by decide))) rfl (oV (xAssign rfl) rfl ?_))))))))))
       have e1 : ((gP a.toNat b (k + 1) : Nat) : Int) = ((gP a.toNat b k ^^^ gXs a.toNat k : Nat) : Int) := by simp only [gP]; first | rw [if_pos (by omega)] | rw [if_neg (by omega)]
       have e2 : ((gXs a.toNat (k + 1) : Nat) : Int) = (((gXs a.toNat k * 2) ^^^ 285 : Nat) : Int) := by simp only [gXs, gX]; first | (rw [if_pos (by omega)]) | (rw [if_neg (by omega)]; omega)
       exact oEnd (kLoop (8 - (k + 1)) _ (by omega) ⟨k + 1, rfl, rfl, (by omega), hs⟩ ⟨rfl, vI e1, vI e2, trivial⟩)
     · refine rSkip (kBlk (kSeq (rReg (oV (xMove rfl) rfl (oV (xSh rfl rfl (uShr8 (c := (gB b k)) (s := 1) (by decide) (by decide))) rfl (oV (xAssign rfl) rfl ?_))))))
       have e1 : ((gP a.toNat b (k + 1) : Nat) : Int) = ((gP a.toNat b k ^^^ gXs a.toNat k : Nat) : Int) := by simp only [gP]; first | rw [if_pos (by omega)] | rw [if_neg (by omega)]
       have e2 : ((gXs a.toNat (k + 1) : Nat) : Int) = ((gXs a.toNat k : Int) * 2) := by simp only [gXs, gX]; first | (rw [if_pos (by omega)]) | (rw [if_neg (by omega)]; omega)
       exact oEnd (kLoop (8 - (k + 1)) _ (by omega) ⟨k + 1, rfl, rfl, (by omega), hs⟩ ⟨rfl, vI e1, vI e2, trivial⟩)
   · refine rSkip (kSeq (rSeq (rReg (oV (xMove rfl) rfl (oV (xSh rfl rfl (iShl (r := ((gXs a.toNat k : Int) * 2)) (s := 1) (by decide) (by decide) (by rw [show (2 : Int) ^ 1 = 2 from rfl]; exact wI (by omega) (by omega)))) rfl (oV (xAssign rfl) rfl (oEnd (kSeq (rSeq (rReg (oV (xMove rfl) rfl (oV (xCmp rfl rfl rGtr) rfl (oEnd (kSeq ?_))))))))))))))
     refine rCondD rfl (fun hc4 => ?_) (fun hc4 => ?_)
     · refine rReg (oV (xMove rfl) rfl (oV (xAr rfl rfl (iXor (a := (gXs a.toNat k * 2)) (b := 285) (by omega) (by omega) (by omega) (by omega))) rfl (oV (xAssign rfl) rfl (oEnd (kBlk (kSeq (rReg (oV (xMove rfl) rfl (oV (xSh rfl rfl (uShr8 (c := (gB b k)) (s := 1) (by decide) (by decide))) rfl (oV (xAssign rfl) rfl ?_))))))))))
       have e1 : ((gP a.toNat b (k + 1) : Nat) : Int) = (gP a.toNat b k : Int) := by simp only [gP]; first | rw [if_pos (by omega)] | rw [if_neg (by omega)]
       have e2 : ((gXs a.toNat (k + 1) : Nat) : Int) = (((gXs a.toNat k * 2) ^^^ 285 : Nat) : Int) := by simp only [gXs, gX]; first | (rw [if_pos (by omega)]) | (rw [if_neg (by omega)]; omega)
       exact oEnd (kLoop (8 - (k + 1)) _ (by omega) ⟨k + 1, rfl, rfl, (by omega), hs⟩ ⟨rfl, vI e1, vI e2, trivial⟩)
     · refine rSkip (kBlk (kSeq (rReg (oV (xMove rfl) rfl (oV (xSh rfl rfl (uShr8 (c := (gB b k)) (s := 1) (by decide) (by decide))) rfl (oV (xAssign rfl) rfl ?_))))))
       have e1 : ((gP a.toNat b (k + 1) : Nat) : Int) = (gP a.toNat b k : Int) := by simp only [gP]; first | rw [if_pos (by omega)] | rw [if_neg (by omega)]
       have e2 : ((gXs a.toNat (k + 1) : Nat) : Int) = ((gXs a.toNat k : Int) * 2) := by simp only [gXs, gX]; first | (rw [if_pos (by omega)]) | (rw [if_neg (by omega)]; omega)
       exact oEnd (kLoop (8 - (k + 1)) _ (by omega) ⟨k + 1, rfl, rfl, (by omega), hs⟩ ⟨rfl, vI e1, vI e2, trivial⟩)
 · refine rExit (kSeqX (kLoopX (kBlkH (kSeq (rSeq (rReg (oV (xMove rfl) rfl (oV (xConv underlying3 underlying5 rfl (wIto8 (gP a.toNat b k : Int))) rfl (oV (xAssign rfl) rfl (oEnd (kSeq (rRet (kFin (.tmp rfl (.nil)) ?_)))))))))))))
   have hz : (gB b k).toNat = 0 := by omega
   refine ⟨?_, hs⟩
   rw [gmul, ← gP_end hz hk]; rfl
theorem gpw_succ (f : Nat) (p a : UInt8) (m : Nat) (h : 0 < m) : gpw (f + 1) p a m = gpw f (if m &&& 1 = 1 then gmul p a else p) (gmul a a) (m / 2) := by
 simp only [gpw]; rw [if_neg (by omega)]
theorem gpow_s {W0 w : World} {L : List Asn} (a : UInt8) (m : Nat) (hm : m < 9223372036854775808) (hs : Sep W0 w L) : Calls Tryz.prog 171 [B a, .int .i64 m].toArray w (Ret fun r w' => r = B (gpow a m) ∧ Sep W0 w' L) := by
 obtain ⟨r0, hr0⟩ : ∃ r, gpow a m = r := ⟨_, rfl⟩
 rw [hr0]; unfold gpow at hr0
 refine enter (args := [(.int .u8 (a.toNat : Int)), (I (m : Int))]) (n := 20) (rs := [.tmp 4]) func171 rfl rfl rfl rfl ?_
 refine rSeq (rReg (oV (xAssign rfl) rfl (oEnd (kSeq (rSeq (rReg (oV (xAssign rfl) rfl (oEnd (kSeq (rSeq (rBlk (rLoop (fun mz e w => ∃ (f : Nat) (p : UInt8) (b : UInt8) (m : Nat), m = mz ∧ e = [(0, (.int .u8 (b.toNat : Int))), (1, (I (m : Int))), (5, (.int .u8 (p.toNat : Int)))] ∧ (m < 2 ^ f) ∧ (gpw f p b m = r0) ∧ (m < 9223372036854775808) ∧ Sep W0 w (L)) ⟨_, _, ⟨64, 1, a, m, rfl, rfl, (by omega), (hr0), (hm), hs⟩, ⟨rfl, rfl, rfl, trivial⟩⟩ ?_))))))))))))
 clear hs; rintro mz e w ⟨f, p, b, m, rfl, rfl, hm, hp, hmm, hs⟩
 refine rSeq (rSeq (rReg (oV (xMove rfl) rfl (oV (xCmp rfl rfl rGtr) rfl (oEnd (kSeq ?_))))))
 refine rCondD rfl (fun hc1 => ?_) (fun hc1 => ?_)
 · refine rSkip (kSeq (rSeq (rBlk (rSeq (rSeq (rReg (oV (xMove rfl) rfl (oV (xAr rfl rfl (iAnd (a := m) (b := 1) (by omega) (by omega) (by omega) (by omega))) rfl (oV (xCmp rfl rfl rEql) rfl (oEnd (kSeq ?_)))))))))))
   refine rCondD rfl (fun hc2 => ?_) (fun hc2 => ?_)
   · refine rReg (oV (xMove rfl) rfl (oV (xMove rfl) rfl (oCall call108 rfl rfl (gmul_s p b hs) ?_)))
     rintro _ w3 ⟨rfl, hs4⟩; clear hs
     refine oV (xAssign rfl) rfl (oEnd (kSeq (rReg (oV (xMove rfl) rfl (oV (xMove rfl) rfl (oCall call108 rfl rfl (gmul_s b b hs4) ?_))))))
     rintro _ w5 ⟨rfl, hs6⟩; clear hs4
     refine oV (xAssign rfl) rfl (oEnd (kBlk (kSeq (rReg (oV (xMove rfl) rfl (oV (xSh rfl rfl (iShr (r := ((m : Int) / 2)) (s := 1) (by decide) (by decide) rfl)) rfl (oV (xAssign rfl) rfl ?_)))))))
     obtain ⟨g, rfl⟩ : ∃ g, f = g + 1 := ⟨f - 1, by
         rcases f with _ | f
         · simp at hm; omega
         · rfl⟩
     rw [gpw_succ g p b m (by omega)] at hp
     have h2 : m / 2 < 2 ^ g := by rw [Nat.pow_succ] at hm; omega
     first | rw [if_pos (by omega)] at hp | rw [if_neg (by omega)] at hp
     exact oEnd (kLoop (m / 2) _ (by omega) ⟨g, (gmul p b), (gmul b b), (m / 2), rfl, rfl, (h2), (hp), (by omega), hs6⟩ ⟨rfl, vI' (by omega), rfl, trivial⟩)
   · refine rSkip (kSeq (rReg (oV (xMove rfl) rfl (oV (xMove rfl) rfl (oCall call108 rfl rfl (gmul_s b b hs) ?_)))))
     rintro _ w7 ⟨rfl, hs8⟩; clear hs
     refine oV (xAssign rfl) rfl (oEnd (kBlk (kSeq (rReg (oV (xMove rfl) rfl (oV (xSh rfl rfl (iShr (r := ((m : Int) / 2)) (s := 1) (by decide) (by decide) rfl)) rfl (oV (xAssign rfl) rfl ?_)))))))
     obtain ⟨g, rfl⟩ : ∃ g, f = g + 1 := ⟨f - 1, by
         rcases f with _ | f
         · simp at hm; omega
         · rfl⟩
     rw [gpw_succ g p b m (by omega)] at hp
     have h2 : m / 2 < 2 ^ g := by rw [Nat.pow_succ] at hm; omega
     first | rw [if_pos (by omega)] at hp | rw [if_neg (by omega)] at hp
     exact oEnd (kLoop (m / 2) _ (by omega) ⟨g, p, (gmul b b), (m / 2), rfl, rfl, (h2), (hp), (by omega), hs8⟩ ⟨rfl, vI' (by omega), rfl, trivial⟩)
 · refine rExit (kSeqX (kLoopX (kBlkH (kSeq (rSeq (rReg (oV (xMove rfl) rfl (oV (xAssign rfl) rfl (oEnd (kSeq (rRet (kFin (.tmp rfl (.nil)) ?_))))))))))))
   obtain rfl : m = 0 := by omega
   rw [gpw_zero] at hp; subst hp
   exact ⟨rfl, hs⟩
theorem ginv_s {W0 w : World} {L : List Asn} (a : UInt8) (hs : Sep W0 w L) : Calls Tryz.prog 187 [B a].toArray w (Ret fun r w' => r = .tuple #[B (ginv a), .int .i64 (if a.toNat = 0 then 1 else 0)] ∧ Sep W0 w' L) := by
 refine enter (args := [(.int .u8 (a.toNat : Int))]) (n := 8) (rs := [.tmp 2, .tmp 3]) func187 rfl rfl rfl rfl ?_
 refine rSeq (rReg (oV (xAssign rfl) rfl (oV (xAssign rfl) rfl (oEnd (kSeq (rSeq (rSeq (rReg (oV (xMove rfl) rfl (oV (xCmp rfl rfl rEql) rfl (oEnd (kSeq ?_))))))))))))
 refine rCondD rfl (fun hc1 => ?_) (fun hc1 => ?_)
 · refine rSeq (rReg (oV (xAssign rfl) rfl (oV (xAssign rfl) rfl (oEnd (kSeq (rRet (kSeqR (kFin (.tmp rfl (.tmp rfl (.nil))) ?_))))))))
   have h : a.toNat = 0 := by omega
   refine ⟨?_, hs⟩
   simp only [ginv, h, if_true, if_false, ne_eq, not_false_eq_true]; rfl
 · refine rSkip (kSeq (rSeq (rReg (oV (xMove rfl) rfl (oCall call171 rfl rfl (gpow_s a 254 (by omega) hs) ?_)))))
   rintro _ w2 ⟨rfl, hs3⟩; clear hs
   refine oV (xAssign rfl) rfl (oV (xAssign rfl) rfl (oEnd (kSeq (rRet (kFin (.tmp rfl (.tmp rfl (.nil))) ?_)))))
   have h : a.toNat ≠ 0 := by omega
   refine ⟨?_, hs3⟩
   simp only [ginv, h, if_true, if_false, ne_eq, not_false_eq_true]; rfl
theorem gdiv_s {W0 w : World} {L : List Asn} (a b : UInt8) (hb : b.toNat ≠ 0) (hs : Sep W0 w L) : Calls Tryz.prog 179 [B a, B b].toArray w (Ret fun r w' => r = .tuple #[B (gmul a (ginv b)), .int .i64 0] ∧ Sep W0 w' L) := by
 refine enter (args := [(.int .u8 (a.toNat : Int)), (.int .u8 (b.toNat : Int))]) (n := 19) (rs := [.tmp 4, .tmp 5]) func179 rfl rfl rfl rfl ?_
 refine rSeq (rReg (oV (xAssign rfl) rfl (oV (xAssign rfl) rfl (oEnd (kSeq (rSeq (rReg (oV (xMove rfl) rfl (oCall call187 rfl rfl (ginv_s b hs) ?_)))))))))
 rintro _ w1 ⟨rfl, hs2⟩; clear hs
 refine oV (xMove rfl) rfl (oV (xExtract rfl rfl) rfl (oV (xExtract rfl rfl) rfl (oV (xAssign rfl) rfl (oV (xAssign rfl) rfl (oEnd (kSeq (rSeq (rSeq (rReg (oV (xMove rfl) rfl (oV (xCmp rfl rfl rNeq) rfl (oEnd (kSeq (rCondD rfl (fun hc3 => absurd hc3 (by rw [if_neg hb]; decide)) (fun hc3 => ?_)))))))))))))))
 refine rSkip (kSeq (rSeq (rReg (oV (xMove rfl) rfl (oV (xMove rfl) rfl (oCall call108 rfl rfl (gmul_s a (ginv b) hs2) ?_))))))
 rintro _ w4 ⟨rfl, hs5⟩; clear hs2
 refine oV (xAssign rfl) rfl (oV (xAssign rfl) rfl (oEnd (kSeq (rRet (kFin (.tmp rfl (.tmp rfl (.nil))) ?_)))))
 exact ⟨rfl, hs5⟩
end Go.Sl
namespace Go.Sl
open Go.Proofs Go.Proofs.Tryz
theorem vU32 {a b : UInt32} (h : a = b) : some (U b) = some (U a) := by rw [h]
theorem sgo_s {W0 w : World} {L : List Asn} {f : HF} {b : Option Addr} {m bc : Nat} (l : List UInt8) (hb : RB f b m bc l) (s : UInt32) (hm : m ≤ 1099511627776) (hs : Sep W0 w (pool f :: L)) : Calls Tryz.prog 336 [U s, .slice b m bc].toArray w (Ret fun r w' => r = U (crc s l) ∧ Sep W0 w' (pool f :: L)) := by
 have hbl := RB.len hb
 refine enter (args := [(.int .u32 (s.toNat : Int)), (.slice b m bc)]) (n := 34) (rs := [.tmp 4]) func336 rfl rfl rfl rfl ?_
 refine rSeq (rReg (oV (xAssign rfl) rfl (oEnd (kSeq (rSeq (rReg (oV (xMove rfl) rfl (oV (xUn rfl (rCpl32 s)) rfl (oV (xAssign rfl) rfl (oEnd (kSeq (rSeq (rSeq (rReg (oV (xMove rfl) rfl (oV (xB1 rfl (rLenS underlying26)) rfl (oV (xMove rfl) rfl (oEnd (kSeq (rBlk (rLoop (fun mz e w => ∃ (k : Nat), m - k = mz ∧ e = [(5, (.int .u32 ((crcP l (~~~s) k).toNat : Int))), (10, (.slice b m bc)), (11, (I (m : Int))), (12, (I (k : Int)))] ∧ (k ≤ m) ∧ Sep W0 w (pool f :: L)) ⟨_, _, ⟨0, rfl, rfl, (by omega), hs⟩, ⟨rfl, rfl, rfl, rfl, trivial⟩⟩ ?_)))))))))))))))))))))
 clear hs; rintro mz e w ⟨k, rfl, rfl, hk, hs⟩
 refine rSeq (rReg (oV (xCmp rfl rfl rLss) rfl (oEnd (kSeq (rSeq ?_)))))
 refine rCondD rfl (fun hc1 => ?_) (fun hc1 => ?_)
 · refine rSkip (kSeq (rSeq (rBlk (rSeq (rReg ?_)))))
   obtain ⟨b2, off3, rfl⟩ := Reads.at hb (by omega)
   refine oV (xIA (o' := off3 + k) underlying26 sizeOf5 rfl rfl (by omega) (by omega) (by omega)) rfl (oV (xLoadC isAgg5 rfl (Reads.cell hb hs (i := 0) rfl (getB (by omega)))) rfl (oV (xAssign rfl) rfl (oEnd (kSeq (rSeq (rReg (oV (xMove rfl) rfl (oV (xMove rfl) rfl (oV (xConv underlying5 underlying33 rfl (w8to32 (l.getD k 0))) rfl (oV (xAr rfl rfl (uXor32 (crcP l (~~~s) k) ((l.getD k 0).toUInt32))) rfl (oV (xAssign rfl) rfl (oEnd (kSeq (rSeq (rReg (oV (xMove rfl) rfl (oEnd (kSeq (rBlk (rLoop (fun mz e w => ∃ (j : Nat), 8 - j = mz ∧ e = [(5, (.int .u32 ((crcBits ((crcP l (~~~s) k) ^^^ (l.getD k 0).toUInt32) j).toNat : Int))), (10, (.slice (some ⟨b2, off3, none⟩) m bc)), (11, (I (m : Int))), (12, (I (k : Int))), (20, (I (j : Int)))] ∧ (j ≤ 8) ∧ Sep W0 w (pool f :: L)) ⟨_, _, ⟨0, rfl, rfl, (by omega), hs⟩, ⟨rfl, rfl, rfl, rfl, rfl, trivial⟩⟩ ?_))))))))))))))))))))
   clear hs; rintro mz e w ⟨j, rfl, rfl, hj, hs⟩
   refine rSeq (rReg (oV (xCmp rfl rfl rLss) rfl (oEnd (kSeq (rSeq ?_)))))
   refine rCondD rfl (fun hc4 => ?_) (fun hc4 => ?_)
   · refine rSkip (kSeq (rSeq (rBlk (rSeq (rReg (oV (xMove rfl) rfl (oV (xAr rfl rfl (uAnd32 (crcBits ((crcP l (~~~s) k) ^^^ (l.getD k 0).toUInt32) j) (1 : UInt32))) rfl (oV (xCmp rfl rfl rEql) rfl (oEnd (kSeq ?_))))))))))
     refine rCondD rfl (fun hc5 => ?_) (fun hc5 => ?_)
     · refine rReg (oV (xMove rfl) rfl (oV (xSh rfl rfl (uShr32 (c := (crcBits ((crcP l (~~~s) k) ^^^ (l.getD k 0).toUInt32) j)) (s := 1) (by decide) (by decide))) rfl (oV (xAr rfl rfl (uXor32 ((crcBits ((crcP l (~~~s) k) ^^^ (l.getD k 0).toUInt32) j) >>> UInt32.ofNat 1) (2197175160 : UInt32))) rfl (oV (xAssign rfl) rfl (oEnd (kBlk (kSeq (rReg (oV (xAr rfl rfl (rAdd (wI (by omega) (by omega)))) rfl (oV (xMove rfl) rfl ?_))))))))))
       have e1 : crcBits ((crcP l (~~~s) k) ^^^ (l.getD k 0).toUInt32) (j + 1) = (((crcBits ((crcP l (~~~s) k) ^^^ (l.getD k 0).toUInt32) j) >>> UInt32.ofNat 1) ^^^ (2197175160 : UInt32)) := by simp only [crcBits, crcBit]; first | rw [if_pos (by omega)] | rw [if_neg (by omega)]
       exact oEnd (kLoop (8 - (j + 1)) _ (by omega) ⟨j + 1, rfl, rfl, (by omega), hs⟩ ⟨vU32 e1, rfl, rfl, rfl, rfl, trivial⟩)
     · refine rReg (oV (xMove rfl) rfl (oV (xSh rfl rfl (uShr32 (c := (crcBits ((crcP l (~~~s) k) ^^^ (l.getD k 0).toUInt32) j)) (s := 1) (by decide) (by decide))) rfl (oV (xAssign rfl) rfl (oEnd (kBlk (kSeq (rReg (oV (xAr rfl rfl (rAdd (wI (by omega) (by omega)))) rfl (oV (xMove rfl) rfl ?_)))))))))
       have e1 : crcBits ((crcP l (~~~s) k) ^^^ (l.getD k 0).toUInt32) (j + 1) = ((crcBits ((crcP l (~~~s) k) ^^^ (l.getD k 0).toUInt32) j) >>> UInt32.ofNat 1) := by simp only [crcBits, crcBit]; first | rw [if_pos (by omega)] | rw [if_neg (by omega)]
       exact oEnd (kLoop (8 - (j + 1)) _ (by omega) ⟨j + 1, rfl, rfl, (by omega), hs⟩ ⟨vU32 e1, rfl, rfl, rfl, rfl, trivial⟩)
   · obtain rfl : j = 8 := by omega
     refine rExit (kSeqX (kLoopX (kBlkH (kBlk (kSeq (rReg (oV (xAr rfl rfl (rAdd (wI (by omega) (by omega)))) rfl (oV (xMove rfl) rfl ?_))))))))
     exact oEnd (kLoop (m - (k + 1)) _ (by omega) ⟨k + 1, rfl, rfl, (by omega), hs⟩ ⟨rfl, rfl, rfl, rfl, trivial⟩)
 · refine rExit (kSeqX (kLoopX (kBlkH (kSeq (rSeq (rReg (oV (xMove rfl) rfl (oV (xUn rfl (rCpl32 (crcP l (~~~s) k))) rfl (oV (xAssign rfl) rfl (oEnd (kSeq (rRet (kFin (.tmp rfl (.nil)) ?_)))))))))))))
   obtain rfl : k = m := by omega
   exact ⟨by rw [crc, hbl]; rfl, hs⟩
theorem ssum_s {W0 w : World} {L : List Asn} {f : HF} {b : Option Addr} {m bc : Nat} (l : List UInt8) (hb : RB f b m bc l) (hm : m ≤ 1099511627776) (hs : Sep W0 w (pool f :: L)) : Calls Tryz.prog 337 [.slice b m bc].toArray w (Ret fun r w' => r = U (crc 0 l) ∧ Sep W0 w' (pool f :: L)) := by
 have hbl := RB.len hb
 refine enter (args := [(.slice b m bc)]) (n := 5) (rs := [.tmp 2]) func337 rfl rfl rfl rfl ?_
 refine rSeq (rReg (oV (xAssign rfl) rfl (oEnd (kSeq (rSeq (rReg (oV (xMove rfl) rfl (oCall call336 rfl rfl (sgo_s l hb (0 : UInt32) (by first | omega | (have hh := RB.len hb; simp only [List.length_append, le_length, List.length_nil, List.length_cons] at hh; omega)) hs) ?_))))))))
 rintro _ w1 ⟨rfl, hs2⟩; clear hs
 refine oV (xAssign rfl) rfl (oEnd (kSeq (rRet (kFin (.tmp rfl (.nil)) ?_))))
 exact ⟨rfl, hs2⟩
theorem frame_s {W0 w : World} {L : List Asn} {f : HF} {b : Option Addr} {m bc : Nat} (l : List UInt8) (hb : RB f b m bc l) (kind : UInt16) (hm : l.length ≤ 65536) (hs : Sep W0 w (pool f :: L)) : Calls Tryz.prog 383 [H kind, .slice b m bc].toArray w (Ret fun r w' => ∃ f' a' k' cp', r = .slice a' k' cp' ∧ FLe f f' ∧ RB f' a' k' cp' (frame kind l) ∧ Sep W0 w' (pool f' :: L)) := by
 have hbl := RB.len hb
 refine enter (args := [(.int .u16 (kind.toNat : Int)), (.slice b m bc)]) (n := 31) (rs := [.tmp 4]) func383 rfl rfl rfl rfl ?_
 refine rSeq (rReg (oV (xAssign rfl) rfl (oEnd (kSeq (rSeq (rSeq (rReg (oV (xMove rfl) rfl (oV (xB1 rfl (rLenS underlying26)) rfl (oV (xCmp rfl rfl rGtr) rfl (oEnd (kSeq (rCondD rfl (fun hc1 => absurd hc1 (by omega)) (fun hc1 => ?_))))))))))))))
 refine rSkip (kSeq (rSeq (rReg (oV (xBuild (v := (.agg #[(.slice none 0 0)])) rfl (fun w => by kernel_rfl)) rfl (oBox hs rfl rfl rfl ?_)))))
 intro b2 w3 hs4; clear hs
 replace hs4 := writer_new hs4
 refine oV (xAssign rfl) rfl (oEnd (kSeq (rSeq (rReg (oV (xMove rfl) rfl (oCall call88 rfl rfl (num_s b2 [] (53021 : UInt64) 2 (by decide) (by first | omega | (simp only [List.length_append, le_length, List.length_cons, List.length_nil, List.length_map, List.length_replicate]; omega)) hs4) ?_))))))
 rintro _ w5 ⟨rfl, hs6⟩; clear hs4
 refine oV (xMove rfl) rfl (oV (xConv underlying34 underlying53 rfl (w16to64 kind)) rfl (oCall call88 rfl rfl (num_s b2 ([] ++ le (53021 : UInt64) 2) kind.toUInt64 2 (by decide) (by first | omega | (simp only [List.length_append, le_length, List.length_cons, List.length_nil, List.length_map, List.length_replicate]; omega)) hs6) ?_))
 rintro _ w7 ⟨rfl, hs8⟩; clear hs6
 refine oV (xMove rfl) rfl (oV (xB1 rfl (rLenS underlying26)) rfl (oV (xConv underlying3 underlying53 rfl (wIto64 (m : Int))) rfl (oCall call88 rfl rfl (num_s b2 (([] ++ le (53021 : UInt64) 2) ++ le kind.toUInt64 2) (UInt64.ofInt (m : Int)) 4 (by decide) (by first | omega | (simp only [List.length_append, le_length, List.length_cons, List.length_nil, List.length_map, List.length_replicate]; omega)) hs8) ?_)))
 rintro _ w9 ⟨rfl, hs10⟩; clear hs8
 refine oEnd (kSeq (rSeq (rReg (oV (xMove rfl) rfl (oV (xMove rfl) rfl ?_)))))
 replace hs10 := hs10.f1
 refine oCall call90 rfl rfl (bytes_s b2 ((([] ++ le (53021 : UInt64) 2) ++ le kind.toUInt64 2) ++ le (UInt64.ofInt (m : Int)) 4) (by first | omega | (simp only [List.length_append, le_length, List.length_cons, List.length_nil, List.length_map, List.length_replicate]; omega)) hs10) ?_
 rintro _ w18 ⟨f11, a12, k13, cp14, rfl, hle15, hb16, hs19⟩; clear hs10; have hl17 := RB.len hb16
 replace hb := hb.mono hle15
 refine oCall call337 rfl rfl (ssum_s ((([] ++ le (53021 : UInt64) 2) ++ le kind.toUInt64 2) ++ le (UInt64.ofInt (m : Int)) 4) hb16 (by first | omega | (have hh := RB.len hb16; simp only [List.length_append, le_length, List.length_nil, List.length_cons] at hh; omega)) hs19) ?_
 rintro _ w20 ⟨rfl, hs21⟩; clear hs19
 refine oV (xMove rfl) rfl (oCall call336 rfl rfl (sgo_s l hb (crc 0 ((([] ++ le (53021 : UInt64) 2) ++ le kind.toUInt64 2) ++ le (UInt64.ofInt (m : Int)) 4)) (by first | omega | (have hh := RB.len hb; simp only [List.length_append, le_length, List.length_nil, List.length_cons] at hh; omega)) hs21) ?_)
 rintro _ w22 ⟨rfl, hs23⟩; clear hs21
 refine oV (xConv underlying33 underlying53 rfl (w32to64 (crc (crc 0 ((([] ++ le (53021 : UInt64) 2) ++ le kind.toUInt64 2) ++ le (UInt64.ofInt (m : Int)) 4)) l))) rfl ?_
 replace hs23 := hs23.f1
 refine oCall call88 rfl rfl (num_s b2 ((([] ++ le (53021 : UInt64) 2) ++ le kind.toUInt64 2) ++ le (UInt64.ofInt (m : Int)) 4) ((crc (crc 0 ((([] ++ le (53021 : UInt64) 2) ++ le kind.toUInt64 2) ++ le (UInt64.ofInt (m : Int)) 4)) l).toUInt64) 4 (by decide) (by first | omega | (simp only [List.length_append, le_length, List.length_cons, List.length_nil, List.length_map, List.length_replicate]; omega)) hs23) ?_
 rintro _ w24 ⟨rfl, hs25⟩; clear hs23
 refine oV (xMove rfl) rfl ?_
 replace hs25 := hs25.f1
 refine oCall call89 rfl rfl (raw_s b2 (((([] ++ le (53021 : UInt64) 2) ++ le kind.toUInt64 2) ++ le (UInt64.ofInt (m : Int)) 4) ++ le ((crc (crc 0 ((([] ++ le (53021 : UInt64) 2) ++ le kind.toUInt64 2) ++ le (UInt64.ofInt (m : Int)) 4)) l).toUInt64) 4) l hb (by first | omega | (simp only [List.length_append, le_length, List.length_cons, List.length_nil, List.length_map, List.length_replicate]; omega)) hs25) ?_
 rintro _ w26 ⟨rfl, hs27⟩; clear hs25
 replace hs27 := hs27.f1
 replace hs27 := hs27.f1
 refine oCall call90 rfl rfl (bytes_s b2 ((((([] ++ le (53021 : UInt64) 2) ++ le kind.toUInt64 2) ++ le (UInt64.ofInt (m : Int)) 4) ++ le ((crc (crc 0 ((([] ++ le (53021 : UInt64) 2) ++ le kind.toUInt64 2) ++ le (UInt64.ofInt (m : Int)) 4)) l).toUInt64) 4) ++ l) (by first | omega | (simp only [List.length_append, le_length, List.length_cons, List.length_nil, List.length_map, List.length_replicate]; omega)) hs27) ?_
 rintro _ w35 ⟨f28, a29, k30, cp31, rfl, hle32, hb33, hs36⟩; clear hs27; have hl34 := RB.len hb33
 replace hb := hb.mono hle32
 replace hb16 := hb16.mono hle32
 refine oV (xAssign rfl) rfl (oEnd (kSeq (rRet (kFin (.tmp rfl (.nil)) ?_))))
 replace hs36 := hs36.d1
 subst hbl
 exact ⟨_, _, _, _, rfl, (FLe.trans hle15 hle32), by simpa only [frame, frameH, List.nil_append, List.append_assoc] using hb33, hs36⟩
theorem open_s {W0 w : World} {L : List Asn} {f : HF} {b : Option Addr} {m bc : Nat} (l : List UInt8) (hb : RB f b m bc l) (hm : l.length ≤ 1099511627776) (hs : Sep W0 w (pool f :: L)) : Calls Tryz.prog 276 [.slice b m bc].toArray w
   (Ret fun r w' => ∃ f' a k cp, r = .tuple #[H (openK l), .slice a k cp, .int .i64 (openZ l), .int .i64 (openE l)] ∧ FLe f f' ∧ RB f' a k cp (openL l) ∧ Sep W0 w' (pool f' :: L)) := by
 have hbl := RB.len hb
 refine enter (args := [(.slice b m bc)]) (n := 56) (rs := [.tmp 2, .tmp 3, .tmp 4, .tmp 5]) func276 rfl rfl rfl rfl ?_
 refine rSeq (rReg (oV (xAssign rfl) rfl (oV (xAssign rfl) rfl (oV (xAssign rfl) rfl (oV (xAssign rfl) rfl (oEnd (kSeq (rSeq (rReg (oV (xMove rfl) rfl (oCall call83 rfl rfl (read_s l hb hs) ?_)))))))))))
 rintro _ w2 ⟨r1, rfl, hs3⟩; clear hs
 refine oV (xAssign rfl) rfl (oEnd (kSeq (rSeq (rReg (oV (xMove rfl) rfl ?_)))))
 replace hs3 := hs3.f1
 replace hs3 := hs3.f1
 refine oCall call85 rfl rfl (rnum_s r1 l false 2 (by decide) (by first | omega | (simp only [List.length_append, le_length, List.length_cons, List.length_nil, List.length_map, List.length_replicate]; omega)) hs3) ?_
 rintro _ w6 ⟨f4, rfl, hle5, hs7⟩; clear hs3
 have hR8 := rawL_le l ((2 : Nat) : Int)
 replace hb := hb.mono hle5
 refine oV (xMove rfl) rfl ?_
 replace hs7 := hs7.f1
 replace hs7 := hs7.f1
 refine oCall call85 rfl rfl (rnum_s r1 (rawL l ((2 : Nat) : Int)) (rawT l false ((2 : Nat) : Int)) 2 (by decide) (by first | omega | (simp only [List.length_append, le_length, List.length_cons, List.length_nil, List.length_map, List.length_replicate]; omega)) hs7) ?_
 rintro _ w11 ⟨f9, rfl, hle10, hs12⟩; clear hs7
 have hR13 := rawL_le (rawL l ((2 : Nat) : Int)) ((2 : Nat) : Int)
 replace hb := hb.mono hle10
 refine oV (xMove rfl) rfl ?_
 replace hs12 := hs12.f1
 replace hs12 := hs12.f1
 refine oCall call85 rfl rfl (rnum_s r1 (rawL (rawL l ((2 : Nat) : Int)) ((2 : Nat) : Int)) (rawT (rawL l ((2 : Nat) : Int)) (rawT l false ((2 : Nat) : Int)) ((2 : Nat) : Int)) 4 (by decide) (by first | omega | (simp only [List.length_append, le_length, List.length_cons, List.length_nil, List.length_map, List.length_replicate]; omega)) hs12) ?_
 rintro _ w16 ⟨f14, rfl, hle15, hs17⟩; clear hs12
 have hR18 := rawL_le (rawL (rawL l ((2 : Nat) : Int)) ((2 : Nat) : Int)) ((4 : Nat) : Int)
 replace hb := hb.mono hle15
 refine oV (xMove rfl) rfl ?_
 replace hs17 := hs17.f1
 replace hs17 := hs17.f1
 refine oCall call85 rfl rfl (rnum_s r1 (rawL (rawL (rawL l ((2 : Nat) : Int)) ((2 : Nat) : Int)) ((4 : Nat) : Int)) (rawT (rawL (rawL l ((2 : Nat) : Int)) ((2 : Nat) : Int)) (rawT (rawL l ((2 : Nat) : Int)) (rawT l false ((2 : Nat) : Int)) ((2 : Nat) : Int)) ((4 : Nat) : Int)) 4 (by decide) (by first | omega | (simp only [List.length_append, le_length, List.length_cons, List.length_nil, List.length_map, List.length_replicate]; omega)) hs17) ?_
 rintro _ w21 ⟨f19, rfl, hle20, hs22⟩; clear hs17
 have hR23 := rawL_le (rawL (rawL (rawL l ((2 : Nat) : Int)) ((2 : Nat) : Int)) ((4 : Nat) : Int)) ((4 : Nat) : Int)
 replace hb := hb.mono hle20
 refine oV (xAssign rfl) rfl (oV (xAssign rfl) rfl (oV (xAssign rfl) rfl (oV (xAssign rfl) rfl (oEnd (kSeq (rSeq (rSeq (rReg (oV (xMove rfl) rfl ?_)))))))))
 replace hs22 := hs22.f1
 refine oCall call87 rfl rfl (torn_s r1 (rawL (rawL (rawL (rawL l ((2 : Nat) : Int)) ((2 : Nat) : Int)) ((4 : Nat) : Int)) ((4 : Nat) : Int)) (rawT (rawL (rawL (rawL l ((2 : Nat) : Int)) ((2 : Nat) : Int)) ((4 : Nat) : Int)) (rawT (rawL (rawL l ((2 : Nat) : Int)) ((2 : Nat) : Int)) (rawT (rawL l ((2 : Nat) : Int)) (rawT l false ((2 : Nat) : Int)) ((2 : Nat) : Int)) ((4 : Nat) : Int)) ((4 : Nat) : Int)) hs22) ?_
 rintro _ w24 ⟨rfl, hs25⟩; clear hs22
 refine oV (xMove rfl) rfl ?_
 refine oCase (d := 23) rfl (fun hg26 => ?_) (fun hg26 => ?_)
 · refine oGuardF rfl rfl rfl rfl (oGuardF rfl rfl rfl rfl (oV (xPickT rfl rfl) rfl (oV (xMove rfl) rfl (oGuardF rfl rfl rfl rfl (oGuardF rfl rfl rfl rfl (oV (xPickT rfl rfl) rfl (oV (xMove rfl) rfl (oGuardF rfl rfl rfl rfl (oGuardF rfl rfl rfl rfl (oGuardF rfl rfl rfl rfl (oGuardF rfl rfl rfl rfl (oGuardF rfl rfl rfl rfl (oV (xPickT rfl rfl) rfl (oEnd (kSeq (rCondT rfl (rSeq (rReg (oV (xAssign rfl) rfl (oV (xAssign rfl) rfl (oV (xAssign rfl) rfl (oV (xAssign rfl) rfl (oEnd (kSeq (rRet (kSeqR (kFin (.tmp rfl (.tmp rfl (.tmp rfl (.tmp rfl (.nil))))) ?_)))))))))))))))))))))))))))
   replace hs25 := hs25.d0
   have he : openE l = 21 := by
     unfold openE
     repeat (first | rw [if_pos (by first | exact hg26 | omega)] | rw [if_neg (by first | omega | (rw [hg26]; decide))])
   refine ⟨_, none, 0, 0, ?_, (FLe.trans hle5 (FLe.trans hle10 (FLe.trans hle15 hle20))), by rw [openL, if_neg (by rw [he]; decide)]; exact RB.nil, hs25⟩
   rw [openK, if_neg (by rw [he]; decide), openZ, if_neg (by rw [he]; decide), he]; rfl
 · refine oGuardT rfl rfl (oV (xMove rfl) rfl (oGuardT rfl rfl (oV (xCmp rfl rfl rNeq) rfl (oV (xPickF rfl rfl) rfl (oV (xMove rfl) rfl ?_)))))
   refine oCase (d := 27) rfl (fun hg27 => ?_) (fun hg27 => ?_)
   · replace hg27 := of_decide_eq_true hg27
     refine oGuardF rfl rfl rfl rfl (oGuardF rfl rfl rfl rfl (oV (xPickT rfl rfl) rfl (oV (xMove rfl) rfl (oGuardF rfl rfl rfl rfl (oGuardF rfl rfl rfl rfl (oGuardF rfl rfl rfl rfl (oGuardF rfl rfl rfl rfl (oGuardF rfl rfl rfl rfl (oV (xPickT rfl rfl) rfl (oEnd (kSeq (rCondT rfl (rSeq (rReg (oV (xAssign rfl) rfl (oV (xAssign rfl) rfl (oV (xAssign rfl) rfl (oV (xAssign rfl) rfl (oEnd (kSeq (rRet (kSeqR (kFin (.tmp rfl (.tmp rfl (.tmp rfl (.tmp rfl (.nil))))) ?_)))))))))))))))))))))))
     replace hs25 := hs25.d0
     have he : openE l = 21 := by
       unfold openE
       repeat (first | rw [if_pos (by first | exact hg26 | omega)] | rw [if_neg (by first | omega | (rw [hg26]; decide))])
     refine ⟨_, none, 0, 0, ?_, (FLe.trans hle5 (FLe.trans hle10 (FLe.trans hle15 hle20))), by rw [openL, if_neg (by rw [he]; decide)]; exact RB.nil, hs25⟩
     rw [openK, if_neg (by rw [he]; decide), openZ, if_neg (by rw [he]; decide), he]; rfl
   · replace hg27 := of_decide_eq_false hg27
     refine oGuardT rfl rfl (oV (xMove rfl) rfl (oGuardT rfl rfl (oV (xCmp rfl rfl rGtr) rfl (oV (xPickF rfl rfl) rfl (oV (xMove rfl) rfl ?_)))))
     refine oCase (d := 31) rfl (fun hg28 => ?_) (fun hg28 => ?_)
     · replace hg28 := of_decide_eq_true hg28
       refine oGuardF rfl rfl rfl rfl (oGuardF rfl rfl rfl rfl (oGuardF rfl rfl rfl rfl (oGuardF rfl rfl rfl rfl (oGuardF rfl rfl rfl rfl (oV (xPickT rfl rfl) rfl (oEnd (kSeq (rCondT rfl (rSeq (rReg (oV (xAssign rfl) rfl (oV (xAssign rfl) rfl (oV (xAssign rfl) rfl (oV (xAssign rfl) rfl (oEnd (kSeq (rRet (kSeqR (kFin (.tmp rfl (.tmp rfl (.tmp rfl (.tmp rfl (.nil))))) ?_)))))))))))))))))))
       replace hs25 := hs25.d0
       have he : openE l = 21 := by
         unfold openE
         repeat (first | rw [if_pos (by first | exact hg26 | omega)] | rw [if_neg (by first | omega | (rw [hg26]; decide))])
       refine ⟨_, none, 0, 0, ?_, (FLe.trans hle5 (FLe.trans hle10 (FLe.trans hle15 hle20))), by rw [openL, if_neg (by rw [he]; decide)]; exact RB.nil, hs25⟩
       rw [openK, if_neg (by rw [he]; decide), openZ, if_neg (by rw [he]; decide), he]; rfl
     · replace hg28 := of_decide_eq_false hg28
       refine oGuardT rfl rfl (oV (xMove rfl) rfl (oGuardT rfl rfl (oV (xMove rfl) rfl (oGuardT rfl rfl (oCall call84 rfl rfl (left_s r1 (rawL (rawL (rawL (rawL l ((2 : Nat) : Int)) ((2 : Nat) : Int)) ((4 : Nat) : Int)) ((4 : Nat) : Int)) (rawT (rawL (rawL (rawL l ((2 : Nat) : Int)) ((2 : Nat) : Int)) ((4 : Nat) : Int)) (rawT (rawL (rawL l ((2 : Nat) : Int)) ((2 : Nat) : Int)) (rawT (rawL l ((2 : Nat) : Int)) (rawT l false ((2 : Nat) : Int)) ((2 : Nat) : Int)) ((4 : Nat) : Int)) ((4 : Nat) : Int)) hs25) ?_)))))
       rintro _ w29 ⟨rfl, hs30⟩; clear hs25
       refine oGuardT rfl rfl (oV (xConv underlying3 underlying53 rfl (wrapId rfl (by omega) (by simp only [IntKind.bits]; omega))) rfl (oGuardT rfl rfl (oV (xCmp rfl rfl rGtr) rfl (oV (xPickF rfl rfl) rfl (oEnd (kSeq ?_))))))
       refine rCondD rfl (fun hc31 => ?_) (fun hc31 => ?_)
       · refine rSeq (rReg (oV (xAssign rfl) rfl (oV (xAssign rfl) rfl (oV (xAssign rfl) rfl (oV (xAssign rfl) rfl (oEnd (kSeq (rRet (kSeqR (kFin (.tmp rfl (.tmp rfl (.tmp rfl (.tmp rfl (.nil))))) ?_))))))))))
         replace hs30 := hs30.d0
         have he : openE l = 21 := by
           unfold openE
           repeat (first | rw [if_pos (by first | exact hg26 | omega)] | rw [if_neg (by first | omega | (rw [hg26]; decide))])
         refine ⟨_, none, 0, 0, ?_, (FLe.trans hle5 (FLe.trans hle10 (FLe.trans hle15 hle20))), by rw [openL, if_neg (by rw [he]; decide)]; exact RB.nil, hs30⟩
         rw [openK, if_neg (by rw [he]; decide), openZ, if_neg (by rw [he]; decide), he]; rfl
       · refine rSkip (kSeq (rSeq (rReg (oV (xMove rfl) rfl (oV (xMove rfl) rfl (oV (xConv underlying53 underlying3 rfl (wI (by omega) (by omega))) rfl ?_))))))
         replace hs30 := hs30.f1
         refine oCall call86 rfl rfl (rraw_s r1 (rawL (rawL (rawL (rawL l ((2 : Nat) : Int)) ((2 : Nat) : Int)) ((4 : Nat) : Int)) ((4 : Nat) : Int)) (rawT (rawL (rawL (rawL l ((2 : Nat) : Int)) ((2 : Nat) : Int)) ((4 : Nat) : Int)) (rawT (rawL (rawL l ((2 : Nat) : Int)) ((2 : Nat) : Int)) (rawT (rawL l ((2 : Nat) : Int)) (rawT l false ((2 : Nat) : Int)) ((2 : Nat) : Int)) ((4 : Nat) : Int)) ((4 : Nat) : Int)) ((num (rawR (rawL (rawL l ((2 : Nat) : Int)) ((2 : Nat) : Int)) ((4 : Nat) : Int))).toNat : Int) (by first | omega | (simp only [List.length_append, le_length, List.length_cons, List.length_nil, List.length_map, List.length_replicate]; omega)) hs30) ?_
         rintro _ w39 ⟨f32, a33, k34, cp35, rfl, hle36, hb37, hs40⟩; clear hs30; have hl38 := RB.len hb37
         replace hb := hb.mono hle36
         have hR41 := rawR_length (rawL (rawL (rawL (rawL l ((2 : Nat) : Int)) ((2 : Nat) : Int)) ((4 : Nat) : Int)) ((4 : Nat) : Int)) ((num (rawR (rawL (rawL l ((2 : Nat) : Int)) ((2 : Nat) : Int)) ((4 : Nat) : Int))).toNat : Int); have hR42 := rawR_le (rawL (rawL (rawL (rawL l ((2 : Nat) : Int)) ((2 : Nat) : Int)) ((4 : Nat) : Int)) ((4 : Nat) : Int)) ((num (rawR (rawL (rawL l ((2 : Nat) : Int)) ((2 : Nat) : Int)) ((4 : Nat) : Int))).toNat : Int); have hR43 := rawL_le (rawL (rawL (rawL (rawL l ((2 : Nat) : Int)) ((2 : Nat) : Int)) ((4 : Nat) : Int)) ((4 : Nat) : Int)) ((num (rawR (rawL (rawL l ((2 : Nat) : Int)) ((2 : Nat) : Int)) ((4 : Nat) : Int))).toNat : Int)
         refine oV (xAssign rfl) rfl (oEnd (kSeq (rSeq (rSeq (Run.sub (e' := [(0, (.slice b m bc)), (2, (.int .u16 0)), (3, (.slice a33 k34 cp35)), (4, (I 0)), (5, (I 0)), (8, (.int .u64 ((num (rawR (rawL l ((2 : Nat) : Int)) ((2 : Nat) : Int))).toNat : Int))), (9, (.int .u64 ((num (rawR (rawL (rawL l ((2 : Nat) : Int)) ((2 : Nat) : Int)) ((4 : Nat) : Int))).toNat : Int))), (10, (.int .u64 ((num (rawR (rawL (rawL (rawL l ((2 : Nat) : Int)) ((2 : Nat) : Int)) ((4 : Nat) : Int)) ((4 : Nat) : Int))).toNat : Int)))]) ⟨rfl, rfl, rfl, rfl, rfl, rfl, rfl, rfl, trivial⟩ ?_)))))
         refine rReg (oV (xMove rfl) rfl ?_)
         have h12 : 8 ≤ l.length := by
           obtain ⟨t1, t2, t3, t4⟩ := rawT_false hg26
           obtain ⟨t1, t5, t6, t7⟩ := rawT_false t1
           obtain ⟨t1, t8, t9, t10⟩ := rawT_false t1
           obtain ⟨t1, t11, t12, t13⟩ := rawT_false t1
           omega
         obtain ⟨a44, k45, cp46, hb47, hk48, hx49⟩ := RB.slice_hi (P := Tryz.prog) (t := 26) (hi := 8) hb underlying26 sizeOf5 (Bd.some (k := .i64) (i := 8) (by omega)) (by omega)
         have hl50 := RB.len hb47
         refine oV (xSlice rfl rfl rfl hx49) rfl (oCall call337 rfl rfl (ssum_s (l.take 8) hb47 (by first | omega | (have hh := RB.len hb47; simp only [List.length_append, le_length, List.length_nil, List.length_cons] at hh; omega)) hs40) ?_)
         rintro _ w51 ⟨rfl, hs52⟩; clear hs40
         refine oV (xMove rfl) rfl (oCall call336 rfl rfl (sgo_s (rawR (rawL (rawL (rawL (rawL l ((2 : Nat) : Int)) ((2 : Nat) : Int)) ((4 : Nat) : Int)) ((4 : Nat) : Int)) ((num (rawR (rawL (rawL l ((2 : Nat) : Int)) ((2 : Nat) : Int)) ((4 : Nat) : Int))).toNat : Int)) hb37 (crc 0 (l.take 8)) (by first | omega | (have hh := RB.len hb37; simp only [List.length_append, le_length, List.length_nil, List.length_cons] at hh; omega)) hs52) ?_)
         rintro _ w53 ⟨rfl, hs54⟩; clear hs52
         refine oV (xMove rfl) rfl (oV (xConv underlying53 underlying33 rfl (w64to32 (num (rawR (rawL (rawL (rawL l ((2 : Nat) : Int)) ((2 : Nat) : Int)) ((4 : Nat) : Int)) ((4 : Nat) : Int))))) rfl (oV (xCmp rfl rfl rNeq) rfl (oEnd (kSeq ?_))))
         refine rCondD rfl (fun hc55 => ?_) (fun hc55 => ?_)
         · refine rSeq (rReg (oV (xAssign rfl) rfl (oV (xAssign rfl) rfl (oV (xAssign rfl) rfl (oV (xAssign rfl) rfl (oEnd (kSeq (rRet (kSeqR (kFin (.tmp rfl (.tmp rfl (.tmp rfl (.tmp rfl (.nil))))) ?_))))))))))
           replace hs54 := hs54.d1
           have he : openE l = 22 := by
             unfold openE
             repeat (first | rw [if_pos (by first | exact hg26 | omega)] | rw [if_neg (by first | omega | (rw [hg26]; decide))])
           refine ⟨_, none, 0, 0, ?_, (FLe.trans hle5 (FLe.trans hle10 (FLe.trans hle15 (FLe.trans hle20 hle36)))), by rw [openL, if_neg (by rw [he]; decide)]; exact RB.nil, hs54⟩
           rw [openK, if_neg (by rw [he]; decide), openZ, if_neg (by rw [he]; decide), he]; rfl
         · refine rSkip (kSeq (rSeq (rReg (oV (xMove rfl) rfl (oV (xConv underlying53 underlying34 rfl (w64to16 (num (rawR (rawL l ((2 : Nat) : Int)) ((2 : Nat) : Int))))) rfl (oV (xMove rfl) rfl (oV (xMove rfl) rfl (oV (xConv underlying53 underlying3 rfl (wI (by omega) (by omega))) rfl (oV (xAr rfl rfl (rAdd (wI (by omega) (by omega)))) rfl (oV (xAssign rfl) rfl (oV (xAssign rfl) rfl (oV (xAssign rfl) rfl (oV (xAssign rfl) rfl (oEnd (kSeq (rRet (kFin (.tmp rfl (.tmp rfl (.tmp rfl (.tmp rfl (.nil))))) ?_)))))))))))))))))
           replace hs54 := hs54.d1
           have he : openE l = 0 := by
             unfold openE
             repeat (first | rw [if_pos (by first | exact hg26 | omega)] | rw [if_neg (by first | omega | (rw [hg26]; decide))])
           refine ⟨_, _, _, _, ?_, (FLe.trans hle5 (FLe.trans hle10 (FLe.trans hle15 (FLe.trans hle20 hle36)))), by rw [openL, if_pos he]; exact hb37, hs54⟩
           rw [openK, if_pos he, openZ, if_pos he, he]; rfl
end Go.Sl
namespace Go.Sl
open Go.Proofs Go.Proofs.Tryz
theorem cloneB_o {W0 w : World} {L : List Asn} {f : HF} {a : Option Addr} {n cp : Nat} (cs : List Value) (hr : Reads f 1 (.slice a n cp) n cs) (h1 : ∀ u ∈ cs, u.oneCell' = true) (hn : n * 1 ≤ 140737488355328) (hs : Sep W0 w (pool f :: L)) :
   Calls Tryz.prog 29 [.slice a n cp].toArray w (Ret fun r w' => ∃ a' k cp', r = .slice a' k cp' ∧ k = n ∧ Sep W0 w' (own 5 1 (.slice a' n cp') n cs :: pool f :: L)) := by
 refine enter (args := [(.slice a n cp)]) (n := 8) (rs := [.tmp 2]) func29 rfl rfl rfl rfl ?_
 refine rSeq (rReg (oV (xAssign rfl) rfl (oEnd (kSeq (rSeq (rSeq (rReg (oV (xMove rfl) rfl (oV (xBin rfl rfl (fun _ => rfl) (rEqlSlNil underlying26)) rfl (oEnd (kSeq ?_)))))))))))
 refine rCond rfl (fun hc1 => ?_) (fun hc1 => ?_)
 · refine rSeq (rReg (oV (xAssign rfl) rfl (oEnd (kSeq (rRet (kSeqR (kFin (.tmp rfl (.nil)) ?_)))))))
   have ha : a = none := by simpa using hc1
   subst ha
   obtain ⟨rfl, rfl⟩ := Reads.none hr
   exact ⟨none, 0, 0, rfl, rfl, Sep.nil 5 1 hs⟩
 · refine rSkip (kSeq (rSeq (rReg (oBuildSliceO (el := 5) (size := 1) (cs := []) hs rfl (fun w => by kernel_rfl) rfl rfl rfl ?_))))
   intro b2 w3 hs4; clear hs
   refine oV (xMove rfl) rfl (oAppend (inf := Tryz.t5) (size := 1) (bytes := 1) hs4 (i := 0) rfl underlying26 (by kernel_rfl) rfl rfl rfl rfl rfl rfl rfl (Reads.src hr hs4 (i := 1) rfl h1) (by first | omega | (simp only [List.length_append, List.length_cons, List.length_nil, List.length_map]; omega)) (by first | omega | (simp only [List.length_append, List.length_cons, List.length_nil, List.length_map]; omega)) rfl ?_)
   intro a5 c6 w7 hs8; clear hs4; dsimp only [List.set] at hs8
   refine oV (xAssign rfl) rfl (oEnd (kSeq (rRet (kFin (.tmp rfl (.nil)) ?_))))
   simp only [List.nil_append, Nat.zero_add] at hs8
   refine ⟨_, n, _, ?_, rfl, hs8⟩
   simp only [Nat.zero_add]; rfl
theorem cloneB_f {W0 w : World} {L : List Asn} {f : HF} {a : Option Addr} {n cp : Nat} (cs : List Value) (hr : Reads f 1 (.slice a n cp) n cs) (h1 : ∀ u ∈ cs, u.oneCell' = true) (hn : n * 1 ≤ 140737488355328) (hs : Sep W0 w (pool f :: L)) :
   Calls Tryz.prog 29 [.slice a n cp].toArray w (Ret fun r w' => ∃ f' a' cp', r = .slice a' n cp' ∧ FLe f f' ∧ Reads f' 1 (.slice a' n cp') n cs ∧ Sep W0 w' (pool f' :: L)) := by
 refine (cloneB_o cs hr h1 hn hs).mono ?_
 rintro e w' ⟨_, rfl, a', k, cp', rfl, rfl, h⟩
 obtain ⟨f', hle, h2, h3⟩ := Sep.freezeOwn (i := 0) (Sep.front (i := 1) rfl h) rfl
 exact ⟨_, rfl, f', a', cp', rfl, hle, h2, h3⟩
theorem cloneB_b {W0 w : World} {L : List Asn} {f : HF} {a : Option Addr} {n cp : Nat} (l : List UInt8) (hb : RB f a n cp l) (hn : l.length ≤ 1099511627776) (hs : Sep W0 w (pool f :: L)) :
   Calls Tryz.prog 29 [.slice a n cp].toArray w (Ret fun r w' => ∃ f' a' k' cp', r = .slice a' k' cp' ∧ FLe f f' ∧ RB f' a' k' cp' l ∧ Sep W0 w' (pool f' :: L)) := by
 have hl := hb.len
 refine (cloneB_f _ hb (oneB l) (by omega) hs).mono ?_
 rintro e w' ⟨_, rfl, f', a', cp', rfl, hle, h2, h3⟩
 exact ⟨_, rfl, f', a', n, cp', rfl, hle, h2, h3⟩
end Go.Sl
namespace Go.Sl
theorem tillDone {l : Array Bool} {j : Nat} {A : Prop} (h : l.getD j true = true) : l.getD j true = false → A := fun h2 => by rw [h] at h2; cases h2
section
variable {P : Program} {n : Nat} {K : Kont} {e : Env} {w w' : World} {ops : Array Oper} {rest : List Oper} {W0 : World} {L : List Asn}
def PR (f : HF) (b : Nat) (xs : List Value) : Prop := ∃ c e, f b = some (.cells c e (0, 0)) ∧ ∀ (i : Nat) (v : Value), xs[i]? = some v → c[i]? = some v
theorem PR.mono {f f' : HF} {b : Nat} {xs : List Value} (h : PR f b xs) (hf : FLe f f') : PR f' b xs := by
  obtain ⟨c, e, h1, h2⟩ := h
  exact ⟨c, e, hf _ _ h1, h2⟩
theorem PR.cell {f : HF} {i b j : Nat} {xs : List Value} {v : Value} (h : PR f b xs) (hs : Sep W0 w L) (hi : L[i]? = some (pool f)) (hv : xs[j]? = some v) : w.cell? ⟨b, j, none⟩ = some v := by
  obtain ⟨c, e, h1, h2⟩ := h
  simp [World.cell?, hs.pool_heap hi h1, h2 j v hv]
theorem Sep.freezePR {i b : Nat} {f : HF} {el : TypeId} {xs : List Value} (hs : Sep W0 w (pool f :: L)) (hi : L[i]? = some (row b el xs)) : ∃ f' : HF, FLe f f' ∧ PR f' b xs ∧ Sep W0 w (pool f' :: L.eraseIdx i) := by
  obtain ⟨f', g, h1, ⟨c, h2, h3⟩, h4, h5⟩ := hs.freeze hi
  exact ⟨f', h1, ⟨c, el, h4 _ _ h2, h3⟩, h5⟩
theorem run_loadCellsL (b j : Nat) : ∀ (vs : List Value) (i : Nat) (acc : Array Value), (∀ k v, vs[k]? = some v → w.cell? ⟨b, j + i + k, none⟩ = some v) → (loadCellsFrom ⟨b, j, none⟩ i vs.length acc).run P w = .ok (acc ++ vs.toArray) w
  | [], i, acc, _ => by simp [loadCellsFrom]
  | v :: vs, i, acc, hc => by
    have h1 := hc 0 v rfl
    have ih := run_loadCellsL b j vs (i + 1) (acc.push v) (fun k u hk => by have := hc (k + 1) u (by simpa using hk); rw [show j + (i + 1) + k = j + i + (k + 1) by omega]; exact this)
    simp only [List.length_cons, loadCellsFrom, load, add_lit, Sem.run_bind]
    rw [Nat.add_zero] at h1
    simp only [Sem.run, h1, Result.andThen_ok, ih]
    simp
theorem xLoadGC {d b j k : Nat} {x : Operand} {t : TypeId} {vs : List Value} {ty : TypeId} {pos : String} {af : Array Edge} (hag : ∀ w, Sem.run P (isAgg t) w = .ok true w) (hsz : ∀ w, Sem.run P (sizeOf t) w = .ok k w)
    (hx : e.ev x = some (.pointer (some ⟨b, j, none⟩))) (hl : vs.length = k) (hc : ∀ i v, vs[i]? = some v → w.cell? ⟨b, j + i, none⟩ = some v) : Xq P n e w d (.load t x) ty pos af (.agg vs.toArray) := fun a ha => by
      subst hl
      have h := run_loadCellsL (P := P) (w := w) b j vs 0 #[] (by simpa using hc)
      have h2 : (loadCells ⟨b, j, none⟩ vs.length).run P w = .ok vs.toArray w := by simpa [loadCells] using h
      simp [execOp, ha.ev hx, Instr.loadAt, Instr.sureAddr, loadVar, hag, hsz, h2]
def ownB (v : Value) (l : List UInt8) : Asn := fun h => ∃ a cp, v = .slice a l.length cp ∧ own 5 1 (.slice a l.length cp) l.length (l.map B) h
def rowCh : List Value → List (List UInt8) → List Asn := List.zipWith ownB
def rowsB (v : Value) (n : Nat) (vs : List Value) (ls : List (List UInt8)) : Asn := fun h => (vs.length = ls.length ∧ ls.length = n) ∧ sepL (own 26 1 v n vs :: rowCh vs ls) h
theorem ownB_mk {a : Option Addr} {k cp : Nat} {l : List UInt8} (hl : l.length = k) (hs : Sep W0 w (own 5 1 (.slice a k cp) k (l.map B) :: L)) : Sep W0 w (ownB (.slice a k cp) l :: L) := by
  subst hl
  exact Sep.imp (i := 0) rfl (fun h ho => ⟨a, cp, rfl, ho⟩) hs
theorem ownB_open {v : Value} {l : List UInt8} (hs : Sep W0 w (ownB v l :: L)) : ∃ a cp, v = .slice a l.length cp ∧ Sep W0 w (own 5 1 (.slice a l.length cp) l.length (l.map B) :: L) := by
  obtain ⟨a, h1⟩ := Sep.ex hs
  obtain ⟨cp, h2⟩ := Sep.ex h1
  obtain ⟨h3, h4⟩ := Sep.pure h2
  exact ⟨a, cp, h3, h4⟩
theorem rowsB_open {v : Value} {k : Nat} {vs : List Value} {ls : List (List UInt8)} (hs : Sep W0 w (rowsB v k vs ls :: L)) : vs.length = ls.length ∧ ls.length = k ∧ Sep W0 w (own 26 1 v k vs :: sepL (rowCh vs ls) :: L) := by
  obtain ⟨⟨h1, h2⟩, h3⟩ := Sep.pure hs
  have h4 := Sep.open (M := own 26 1 v k vs :: rowCh vs ls) h3
  refine ⟨h1, h2, ?_⟩
  have h5 : Sep W0 w (sepL (rowCh vs ls) :: own 26 1 v k vs :: L) := Sep.shut (rowCh vs ls) (h4.perm (by simpa using List.perm_middle.symm))
  exact Sep.front (i := 1) rfl h5
theorem rowsB_shut {v : Value} {k : Nat} {vs : List Value} {ls : List (List UInt8)} (h1 : vs.length = ls.length) (h2 : ls.length = k) (hs : Sep W0 w (own 26 1 v k vs :: sepL (rowCh vs ls) :: L)) : Sep W0 w (rowsB v k vs ls :: L) := by
  refine Sep.mkPure ⟨h1, h2⟩ ?_
  refine Sep.shut (own 26 1 v k vs :: rowCh vs ls) ?_
  have h3 : Sep W0 w (rowCh vs ls ++ (own 26 1 v k vs :: L)) := Sep.open (Sep.front (i := 1) rfl hs)
  exact h3.perm (by simp)
theorem rowCh_at {vs : List Value} {ls : List (List UInt8)} {i : Nat} (h1 : vs.length = ls.length) (hi : i < ls.length) : (rowCh vs ls)[i]? = some (ownB (vs.getD i undef) (ls.getD i [])) := by
  simp [rowCh, List.getElem?_zipWith, List.getElem?_eq_getElem (show i < vs.length by omega), List.getElem?_eq_getElem hi, List.getD_eq_getElem?_getD]
theorem rowCh_set {vs : List Value} {ls : List (List UInt8)} {i : Nat} {l : List UInt8} (h1 : vs.length = ls.length) (hi : i < ls.length) : (rowCh vs ls).set i (ownB (vs.getD i undef) l) = rowCh vs (ls.set i l) := by
  apply List.ext_getElem?
  intro j
  simp only [rowCh, List.getElem?_set, List.getElem?_zipWith, List.length_zipWith]
  by_cases hj : i = j
  · subst hj
    simp [List.getElem?_eq_getElem (show i < vs.length by omega), hi, List.getD_eq_getElem?_getD]
    omega
  · simp [hj]
theorem Sep.back {i : Nat} {A A' : Asn} (hi : L[i]? = some A) (hs : Sep W0 w (A' :: L.eraseIdx i)) : Sep W0 w (L.set i A') := by
  refine hs.perm ?_
  have hlt : i < L.length := (List.getElem?_eq_some_iff.1 hi).1
  have h1 : L.set i A' = L.take i ++ A' :: L.drop (i + 1) := List.set_eq_take_append_cons_drop.trans (by rw [if_pos hlt])
  rw [h1, List.eraseIdx_eq_take_drop_succ]
  exact List.perm_middle.symm
def emp : Asn := fun _ => True
theorem sep_hole {M : List Asn} {i : Nat} {A : Asn} (hi : M[i]? = some A) (hs : Sep W0 w (sepL M :: L)) : Sep W0 w (A :: sepL (M.set i emp) :: L) := by
  have hlt : i < M.length := (List.getElem?_eq_some_iff.1 hi).1
  have hi2 : (M ++ L)[i]? = some A := by rw [List.getElem?_append_left hlt]; exact hi
  have h2 := Sep.front (i := i) (A := A) hi2 (Sep.open hs)
  have h3 : Sep W0 w (emp :: A :: (M ++ L).eraseIdx i) := h2.add (A := emp) (fun _ => trivial)
  have h4 : Sep W0 w (emp :: (M ++ (A :: L)).eraseIdx i) := by
    refine h3.perm (List.Perm.cons _ ?_)
    rw [List.eraseIdx_append_of_lt_length hlt, List.eraseIdx_append_of_lt_length hlt]
    exact List.perm_middle.symm
  have h5 := Sep.back (A := A) (by rw [List.getElem?_append_left hlt]; exact hi) h4
  rw [List.set_append_left _ _ hlt] at h5
  exact Sep.front (i := 1) rfl (Sep.shut _ h5)
theorem sep_fill {M : List Asn} {i : Nat} {A' : Asn} (hlt : i < M.length) (h : Sep W0 w (A' :: sepL (M.set i emp) :: L)) : Sep W0 w (sepL (M.set i A') :: L) := by
  have h1 := Sep.open (Sep.front (i := 1) rfl h)
  have hi2 : (M.set i emp ++ (A' :: L))[i]? = some emp := by rw [List.getElem?_append_left (by simpa using hlt)]; simp [hlt]
  have h2 := Sep.drop (i := i) h1 hi2
  have h3 : Sep W0 w (A' :: (M ++ L).eraseIdx i) := by
    refine h2.perm ?_
    rw [List.eraseIdx_append_of_lt_length (by simpa using hlt), List.eraseIdx_append_of_lt_length hlt, List.eraseIdx_set_eq]
    exact List.perm_middle
  have h4 := Sep.back (A := M[i]) (by rw [List.getElem?_append_left hlt]; exact List.getElem?_eq_getElem hlt) h3
  rw [List.set_append_left _ _ hlt] at h4
  exact Sep.shut _ h4
theorem rowCh_length {vs : List Value} {ls : List (List UInt8)} (h1 : vs.length = ls.length) : (rowCh vs ls).length = ls.length := by simp [rowCh, h1]
theorem rows_take {vs : List Value} {ls : List (List UInt8)} {i : Nat} (h1 : vs.length = ls.length) (hi : i < ls.length) (hs : Sep W0 w (sepL (rowCh vs ls) :: L)) :
    ∃ N, Sep W0 w (ownB (vs.getD i undef) (ls.getD i []) :: sepL N :: L) ∧ ∀ (w' : World) (l' : List UInt8) (L' : List Asn), Sep W0 w' (ownB (vs.getD i undef) l' :: sepL N :: L') → Sep W0 w' (sepL (rowCh vs (ls.set i l')) :: L') :=
  ⟨_, sep_hole (rowCh_at h1 hi) hs, fun w' l' L' h => by rw [← rowCh_set h1 hi]; exact sep_fill (by rw [rowCh_length h1]; exact hi) h⟩
theorem rows_take2 {vs : List Value} {ls : List (List UInt8)} {i j : Nat} (h1 : vs.length = ls.length) (hi : i < ls.length) (hj : j < ls.length) (hij : i ≠ j) (hs : Sep W0 w (sepL (rowCh vs ls) :: L)) :
    ∃ N, Sep W0 w (ownB (vs.getD i undef) (ls.getD i []) :: ownB (vs.getD j undef) (ls.getD j []) :: sepL N :: L) ∧ ∀ (w' : World) (l' : List UInt8) (L' : List Asn), Sep W0 w' (ownB (vs.getD i undef) l' :: ownB (vs.getD j undef) (ls.getD j []) :: sepL N :: L') → Sep W0 w' (sepL (rowCh vs (ls.set i l')) :: L') := by
  have hl := rowCh_length h1
  have h2 := sep_hole (rowCh_at h1 hi) hs
  have hj2 : ((rowCh vs ls).set i emp)[j]? = some (ownB (vs.getD j undef) (ls.getD j [])) := by
    rw [List.getElem?_set_ne hij]; exact rowCh_at h1 hj
  have h3 := sep_hole (i := j) hj2 (Sep.front (i := 1) rfl h2)
  refine ⟨((rowCh vs ls).set i emp).set j emp, Sep.front (i := 2) rfl h3, fun w' l' L' h => ?_⟩
  · have h4 : Sep W0 w' (ownB (vs.getD j undef) (ls.getD j []) :: sepL (((rowCh vs ls).set i emp).set j emp) :: ownB (vs.getD i undef) l' :: L') :=
      Sep.front (i := 2) rfl (Sep.front (i := 2) rfl h)
    have h5 := sep_fill (by rw [List.length_set, hl]; exact hj) h4
    have h6 : ((rowCh vs ls).set i emp).set j (ownB (vs.getD j undef) (ls.getD j [])) = (rowCh vs ls).set i emp := set_self hj2
    rw [h6] at h5
    have h7 := sep_fill (by rw [hl]; exact hi) (Sep.front (i := 1) rfl h5)
    rwa [rowCh_set h1 hi] at h7
theorem rows_head {i p : Nat} {vs : List Value} {ls : List (List UInt8)} (hs : Sep W0 w L) (hp : L[p]? = some (sepL (rowCh vs ls))) (h1 : vs.length = ls.length) (hi : i < ls.length) :
    ∃ a cp, vs.getD i undef = .slice a (ls.getD i []).length cp := by
  obtain ⟨N, h2, _⟩ := rows_take h1 hi (Sep.front (i := p) hp hs)
  obtain ⟨a, cp, h3, h4⟩ := ownB_open h2
  exact ⟨a, cp, h3⟩
theorem rows_snoc {vs : List Value} {ls : List (List UInt8)} {v : Value} {l : List UInt8} (h1 : vs.length = ls.length) (hs : Sep W0 w (ownB v l :: sepL (rowCh vs ls) :: L)) : Sep W0 w (sepL (rowCh (vs ++ [v]) (ls ++ [l])) :: L) := by
  have h2 : rowCh (vs ++ [v]) (ls ++ [l]) = rowCh vs ls ++ [ownB v l] := by
    unfold rowCh; rw [List.zipWith_append h1]; rfl
  rw [h2]
  refine Sep.shut _ ?_
  have h3 := Sep.open (Sep.front (i := 1) rfl hs)
  rw [List.append_assoc]
  exact h3
theorem rows_nil (hs : Sep W0 w L) : Sep W0 w (sepL (rowCh [] []) :: L) := hs.add (A := sepL (rowCh [] [])) (fun _ => trivial)
theorem rows_freeze {f : HF} : ∀ {vs : List Value} {ls : List (List UInt8)} {w : World} {L : List Asn}, vs.length = ls.length → Sep W0 w (pool f :: sepL (rowCh vs ls) :: L) → ∃ f', FLe f f' ∧ RR f' vs ls ∧ Sep W0 w (pool f' :: L)
  | [], [], w, L, _, hs => ⟨f, FLe.refl f, RR.nil, Sep.drop (i := 1) hs rfl⟩
  | v :: vs, l :: ls, w, L, h1, hs => by
    have h2 : Sep W0 w (ownB v l :: sepL (rowCh vs ls) :: pool f :: L) := by
      have h3 := Sep.open (M := ownB v l :: rowCh vs ls) (Sep.front (i := 1) rfl hs)
      have h4 : Sep W0 w (rowCh vs ls ++ (ownB v l :: pool f :: L)) := h3.perm (by simpa using List.perm_middle.symm)
      exact Sep.front (i := 1) rfl (Sep.shut _ h4)
    obtain ⟨f1, hle1, hr1, h5⟩ := rows_freeze (f := f) (L := ownB v l :: L) (by simpa using h1) (Sep.front (i := 2) rfl (Sep.front (i := 1) rfl h2))
    obtain ⟨a, cp, rfl, h6⟩ := ownB_open (Sep.front (i := 1) rfl h5)
    obtain ⟨f2, hle2, hr2, h7⟩ := Sep.freezeOwn (i := 0) (Sep.front (i := 1) rfl h6) rfl
    refine ⟨f2, hle1.trans hle2, ⟨by simpa using h1, fun j hj => ?_⟩, h7⟩
    cases j with
    | zero => exact ⟨a, _, cp, rfl, hr2⟩
    | succ j => exact (hr1.mono hle2).get j (by simpa using hj)
theorem rowsB_freeze {f : HF} {v : Value} {k : Nat} {vs : List Value} {ls : List (List UInt8)} (hs : Sep W0 w (pool f :: rowsB v k vs ls :: L)) : ∃ f', FLe f f' ∧ Reads f' 1 v k vs ∧ RR f' vs ls ∧ Sep W0 w (pool f' :: L) := by
  obtain ⟨h1, h2, h3⟩ := rowsB_open (Sep.front (i := 1) rfl hs)
  obtain ⟨f1, hle1, hr1, h4⟩ := rows_freeze h1 (L := own 26 1 v k vs :: L) (Sep.front (i := 2) rfl (Sep.front (i := 1) rfl h3))
  obtain ⟨f2, hle2, hr2, h5⟩ := Sep.freezeOwn (i := 0) h4 rfl
  exact ⟨f2, hle1.trans hle2, hr2, hr1.mono hle2, h5⟩
theorem oCopyO {d i : Nat} {x y : Operand} {t ty el : TypeId} {g off dLen dCap m k cap : Nat} {dp : Option Addr} {yv : Value} {cs xs : List Value} {pos : String} {af : Array Edge} (hs : Sep W0 w L)
    (hi : L[i]? = some (own el 1 (.slice (some ⟨g, 0, none⟩) k cap) k xs)) (hu : P.underlying t = some (.slice el)) (hsz : (P.info? el).map (·.size) = some 1)
    (hx : e.ev x = some (.slice dp dLen dCap)) (hpos : 0 < m → dp = some ⟨g, off, none⟩) (hy : e.ev y = some yv) (hsrc : Src w 1 yv m cs) (h1 : m ≤ dLen) (h2 : off + m ≤ k) (hn : Nat.blt d n = true)
    (hk : ∀ w', Sep W0 w' (L.set i (own el 1 (.slice (some ⟨g, 0, none⟩) k cap) k (xs.take off ++ (cs ++ xs.drop (off + m))))) → Ops P n ops K rest ((d, .int .i64 (m : Int)) :: e) w') :
    Ops P n ops K (⟨some d, .call ⟨.builtin .copy, #[x, y], #[t, t]⟩, ty, pos, af, none⟩ :: rest) e w := by
  obtain ⟨hcl, hc1, hsrc⟩ := hsrc
  rw [Nat.mul_one] at hcl
  by_cases h0 : m = 0
  · subst h0
    obtain rfl : cs = [] := List.eq_nil_of_length_eq_zero hcl
    have hcopy : ∃ sp sCap, yv = .slice sp 0 sCap := by
      rcases hsrc with ⟨a, c, rfl, _⟩ | ⟨c, rfl, _⟩ <;> exact ⟨_, _, rfl⟩
    obtain ⟨sp, sCap, rfl⟩ := hcopy
    have hrun := run_copy_none (P := P) w t t ty el dp sp dLen dCap 0 sCap hu hsz (by simp)
    refine Ops.val (w' := w) rfl rfl hn (fun a ha => ?_) (hk w ?_)
    · simp only [execOp, resolve, invoke, builtin, Sem.run_bind, Sem.run_pure, Result.andThen_ok, List.map_toArray, List.map_cons, List.map_nil, ha.ev hx, ha.ev hy, hrun]
      rfl
    · simp only [List.nil_append, Nat.add_zero, List.take_append_drop]
      rwa [set_self hi]
  · obtain rfl := hpos (by omega)
    rcases hsrc with ⟨a0, c, rfl, hcells⟩ | ⟨c, rfl, h3⟩
    · obtain ⟨S, ⟨hl, h⟩, hSn, hupd⟩ := hs.upd hi
      rcases h with ⟨he, _⟩ | ⟨g', cap', cur, he, hb, h4, h5, h6, htk⟩
      · cases he
      · simp at he
        obtain ⟨rfl, rfl⟩ := he
        obtain ⟨hSg, hb⟩ := only_of hb
        have hb : w.heap[g]? = some (.cells cur el (0, 0)) := hb
        rw [Nat.mul_one] at h6 htk hl
        have hfit : off + cs.length ≤ cur.size := by omega
        have hrun := run_copy_row (P := P) w t t ty el g off dLen dCap a0 m c cur el cs hu hsz hb (by rw [hcl]; exact (Nat.min_eq_left h1).symm) hcells hfit hc1
        refine Ops.val rfl rfl hn (fun a ha => ?_) (hk _ (hupd (w.setRow g (cur.toList.take off ++ cs ++ cur.toList.drop (off + cs.length)).toArray) _ rfl rfl rfl (fun b hSb => ?_) ⟨?_, .inr ⟨g, cap, (cur.toList.take off ++ cs ++ cur.toList.drop (off + cs.length)).toArray, rfl, ?_, h4, h5, ?_, ?_⟩⟩))
        · simp only [execOp, resolve, invoke, builtin, Sem.run_bind, Sem.run_pure, Result.andThen_ok, List.map_toArray, List.map_cons, List.map_nil, ha.ev hx, ha.ev hy, hrun, hcl]
          rfl
        · exact setRow_other w g b _ (fun e => by subst e; rw [hSg] at hSb; cases hSb)
        · simp only [List.length_append, List.length_take, List.length_drop, hl]; omega
        · simp only [only, hSg, hfOf]; exact setRow_heap w g cur _ el _ hb
        · simp only [List.size_toArray, List.length_append, List.length_take, List.length_drop, Array.length_toList]; omega
        · rw [← htk, Nat.mul_one, List.append_assoc]
          simp only []
          have hA : (cur.toList.take off).length = off := by rw [List.length_take, Array.length_toList]; omega
          have e1 : List.take k (List.take off cur.toList ++ (cs ++ List.drop (off + cs.length) cur.toList)) = List.take off cur.toList ++ (cs ++ List.take (k - off - m) (List.drop (off + cs.length) cur.toList)) := by
            rw [List.take_append, hA, List.take_of_length_le (l := List.take off cur.toList) (by omega), List.take_append, hcl, List.take_of_length_le (l := cs) (by omega)]
          rw [e1, List.take_take, Nat.min_eq_left (show off ≤ k by omega), List.drop_take, Nat.sub_sub, hcl]
    · omega
theorem xSliceV {d : Nat} {t el : TypeId} {size b o k cp lo hi : Nat} {x : Operand} {lx hx' : Option Operand} {lv hv : Option Value} {ty : TypeId} {pos : String} {af : Array Edge} (hu : P.underlying t = some (.slice el)) (hsz : ∀ w, Sem.run P (sizeOf el) w = .ok size w)
    (hx : e.ev x = some (.slice (some ⟨b, o, none⟩) k cp)) (hlo : lx.map e.ev = lv.map some) (hhi : hx'.map e.ev = hv.map some) (hl : Bd lv 0 lo) (hh : Bd hv k hi) (h1 : lo ≤ hi) (h2 : hi ≤ cp) (h3 : lo < cp) {o' n' c' : Nat} (ho : o + lo * size = o') (hn' : hi - lo = n') (hc' : cp - lo = c') :
    Xq P n e w d (.slice t x lx hx' .none) ty pos af (.slice (some ⟨b, o', none⟩) n' c') := by
  subst ho hn' hc'
  refine xSlice hx hlo hhi (fun w => ?_)
  rw [Sub.slice_run hu hsz hl hh h1 h2, if_neg (by omega)]
  simp [add_lit]
theorem takeAt_get {xs : List Value} : ∀ {k j : Nat} {vs : List Value} {i : Nat} {v : Value}, takeAt xs j k = some vs → vs[i]? = some v → xs[j + i]? = some v
  | 0, j, vs, i, v, h, hv => by simp [takeAt] at h; subst h; simp at hv
  | k + 1, j, vs, i, v, h, hv => by
    simp only [takeAt] at h
    split at h
    · cases h
    · rename_i u hu
      split at h
      · cases h
      · rename_i us hus
        simp at h
        subst h
        cases i with
        | zero => simp at hv; subst hv; simpa using hu
        | succ i =>
          have := takeAt_get hus (i := i) (by simpa using hv)
          rw [show j + (i + 1) = j + 1 + i by omega]; exact this
theorem takeAt_len {xs : List Value} : ∀ {k j : Nat} {vs : List Value}, takeAt xs j k = some vs → vs.length = k
  | 0, j, vs, h => by simp [takeAt] at h; subst h; rfl
  | k + 1, j, vs, h => by
    simp only [takeAt] at h
    split at h
    · cases h
    · split at h
      · cases h
      · rename_i us hus
        simp at h
        subst h
        simp [takeAt_len hus]
theorem PR.cells {f : HF} {i b j k : Nat} {xs vs : List Value} (h : PR f b xs) (hs : Sep W0 w L) (hi : L[i]? = some (pool f)) (hv : takeAt xs j k = some vs) : ∀ (i : Nat) (v : Value), vs[i]? = some v → w.cell? ⟨b, j + i, none⟩ = some v :=
  fun _ _ hu => h.cell hs hi (takeAt_get hv hu)
theorem reads_cells {f : HF} {i size b off k cap j m : Nat} {cs vs : List Value} (h : Reads f size (.slice (some ⟨b, off, none⟩) k cap) k cs) (hs : Sep W0 w L) (hi : L[i]? = some (pool f)) (hv : takeAt cs j m = some vs) : ∀ (i : Nat) (v : Value), vs[i]? = some v → w.cell? ⟨b, off + j + i, none⟩ = some v :=
  fun i v hu => by rw [Nat.add_assoc]; exact h.cell hs hi (takeAt_get hv hu)
def MatP (f : HF) (p c : Nat) (ls : List (List UInt8)) : Prop := (∀ x ∈ ls, x.length = c) ∧ ∃ a n cp, PR f p [I (ls.length : Int), I (c : Int), .slice a n cp] ∧ RB f a n cp ls.flatten
theorem MatP.mono {f f' : HF} {p c : Nat} {ls : List (List UInt8)} (h : MatP f p c ls) (hf : FLe f f') : MatP f' p c ls := by
  obtain ⟨h1, a, k, cp, h2, h3⟩ := h
  exact ⟨h1, a, k, cp, h2.mono hf, h3.mono hf⟩
theorem flat_length {c : Nat} : ∀ {ls : List (List UInt8)}, (∀ x ∈ ls, x.length = c) → ls.flatten.length = ls.length * c
  | [], _ => by simp
  | l :: ls, h => by
    rw [List.flatten_cons, List.length_append, flat_length (ls := ls) fun x hx => h x (by simp [hx]), h l (by simp), List.length_cons, Nat.add_mul]; omega
theorem flat_at {c : Nat} : ∀ {ls : List (List UInt8)} {i : Nat}, (∀ x ∈ ls, x.length = c) → i < ls.length → (ls.flatten.drop (i * c)).take c = ls.getD i []
  | [], _, _, h => by simp at h
  | l :: ls, 0, h, _ => by
    have := h l (by simp)
    simp [List.take_append, this]
  | l :: ls, i + 1, h, hi => by
    have h1 := h l (by simp)
    have h2 := flat_at (ls := ls) (i := i) (fun x hx => h x (by simp [hx])) (by simpa using hi)
    rw [List.flatten_cons, Nat.add_mul, Nat.one_mul, Nat.add_comm, List.drop_append, List.drop_of_length_le (by omega), List.nil_append, h1]
    rw [show c + i * c - c = i * c by omega]
    simpa using h2
theorem fill_step {c r i : Nat} {ls : List (List UInt8)} (h : ∀ x ∈ ls, x.length = c) (hi : i < ls.length) (hr : ls.length = r) :
    (((ls.take i).flatten ++ List.replicate ((r - i) * c) 0).take (i * c) ++ (ls.getD i [] ++ ((ls.take i).flatten ++ List.replicate ((r - i) * c) (0 : UInt8)).drop (i * c + c))) = (ls.take (i + 1)).flatten ++ List.replicate ((r - (i + 1)) * c) 0 := by
  have h1 : (ls.take i).flatten.length = i * c := by
    rw [flat_length fun x hx => h x (List.mem_of_mem_take hx), List.length_take, Nat.min_eq_left (by omega)]
  rw [List.take_append, List.take_of_length_le (by omega), h1, Nat.sub_self, List.take_zero, List.append_nil, List.drop_append, List.drop_of_length_le (by omega), List.nil_append, h1, List.drop_replicate]
  have h2 : ls.take (i + 1) = ls.take i ++ [ls.getD i []] := by
    rw [List.take_add_one, List.getD_eq_getElem?_getD, List.getElem?_eq_getElem hi]; rfl
  rw [h2, List.flatten_append, List.flatten_singleton, List.append_assoc]
  congr 3
  rw [show r - i = (r - (i + 1)) + 1 by omega, Nat.add_mul]
  omega
def dot (a b : List UInt8) : Nat → UInt8
  | 0 => 0
  | i + 1 => dot a b i ^^^ gmul (a.getD i 0) (b.getD i 0)
end
end Go.Sl
namespace Go.Sl
theorem setB (l : List UInt8) (j : Nat) (c : UInt8) : (l.map B).set j (Value.int .u8 (c.toNat : Int)) = (l.set j c).map B := List.map_set.symm
theorem getV {vs : List Value} {j : Nat} (h : j < vs.length) : vs[j]? = some (vs.getD j undef) := by
  rw [List.getD_eq_getElem?_getD, List.getElem?_eq_getElem h]; rfl
def mixd (m l : List UInt8) (i : Nat) : List UInt8 := m.take i ++ l.drop i
theorem mixd_zero (m l : List UInt8) : mixd m l 0 = l := by simp [mixd]
theorem mixd_end {m l : List UInt8} {i : Nat} (h : m.length = l.length) (hi : i = l.length) : mixd m l i = m := by simp [mixd, hi, ← h]
theorem mixd_length' {m l : List UInt8} {i : Nat} (h : m.length = l.length) (hi : i ≤ l.length) : (mixd m l i).length = l.length := by simp [mixd]; omega
theorem mixd_length {m l : List UInt8} {i : Nat} : (mixd m l i).length = min i m.length + (l.length - i) := by simp [mixd]
theorem mixd_get {m l : List UInt8} {i : Nat} (h : m.length = l.length) (hi : i < l.length) : (mixd m l i).getD i 0 = l.getD i 0 := by
  simp only [mixd, List.getD_eq_getElem?_getD]
  rw [List.getElem?_append_right (by simp; omega)]
  simp; congr 2; omega
theorem mixd_set {m l : List UInt8} {i : Nat} {c : UInt8} (h : m.length = l.length) (hi : i < l.length) (hc : c = m.getD i 0) : (mixd m l i).set i c = mixd m l (i + 1) := by
  subst hc
  have h1 : (m.take i).length = i := by simp; omega
  have h2 : l.drop i = l.getD i 0 :: l.drop (i + 1) := by
    rw [List.getD_eq_getElem?_getD, List.getElem?_eq_getElem hi]; simp
  have h3 : m.take (i + 1) = m.take i ++ [m.getD i 0] := by
    rw [List.take_add_one, List.getD_eq_getElem?_getD, List.getElem?_eq_getElem (show i < m.length by omega)]; rfl
  simp only [mixd]
  rw [List.set_append_right _ _ (by omega), h1, Nat.sub_self, h2, h3, List.set_cons_zero, List.append_assoc]
  rfl
def gScale (x : UInt8) (l : List UInt8) : List UInt8 := l.map (fun c => gmul c x)
def gAddR (x : UInt8) (t r : List UInt8) : List UInt8 := List.zipWith (fun a b => a ^^^ gmul b x) t r
theorem gScale_length (x : UInt8) (l : List UInt8) : (gScale x l).length = l.length := by simp [gScale]
theorem gScale_get {x : UInt8} {l : List UInt8} {i : Nat} (h : i < l.length) : (gScale x l).getD i 0 = gmul (l.getD i 0) x := by
  simp [gScale, List.getD_eq_getElem?_getD, List.getElem?_eq_getElem h]
theorem gAddR_length {x : UInt8} {t r : List UInt8} (h : t.length ≤ r.length) : (gAddR x t r).length = t.length := by simp [gAddR]; omega
theorem gAddR_get {x : UInt8} {t r : List UInt8} {i : Nat} (h : t.length ≤ r.length) (hi : i < t.length) : (gAddR x t r).getD i 0 = t.getD i 0 ^^^ gmul (r.getD i 0) x := by
  simp [gAddR, List.getD_eq_getElem?_getD, List.getElem?_zipWith, List.getElem?_eq_getElem hi, List.getElem?_eq_getElem (show i < r.length by omega)]
section
variable {P : Program} {n : Nat} {K : Kont} {e : Env} {w w' : World} {ops : Array Oper} {rest : List Oper} {W0 : World} {L : List Asn}
theorem ownB_at {a : Option Addr} {cp k : Nat} {v : Value} {l : List UInt8} (hv : v = .slice a k cp) (hs : Sep W0 w (ownB v l :: L)) : l.length = k ∧ Sep W0 w (own 5 1 (.slice a l.length cp) l.length (l.map B) :: L) := by
  obtain ⟨a', cp', he, h⟩ := ownB_open hs
  rw [hv] at he
  cases he
  exact ⟨rfl, h⟩
theorem rows_takeV {vs : List Value} {ls : List (List UInt8)} {i : Nat} {a : Option Addr} {cp : Nat} (h1 : vs.length = ls.length) (hi : i < ls.length) (hv : vs.getD i undef = .slice a (ls.getD i []).length cp) (hs : Sep W0 w (sepL (rowCh vs ls) :: L)) :
    ∃ N, Sep W0 w (own 5 1 (.slice a (ls.getD i []).length cp) (ls.getD i []).length ((ls.getD i []).map B) :: sepL N :: L) ∧ ∀ (w' : World) (l' : List UInt8) (L' : List Asn), l'.length = (ls.getD i []).length →
      Sep W0 w' (own 5 1 (.slice a (ls.getD i []).length cp) (ls.getD i []).length (l'.map B) :: sepL N :: L') → Sep W0 w' (sepL (rowCh vs (ls.set i l')) :: L') := by
  obtain ⟨N, h2, h3⟩ := rows_take h1 hi hs
  refine ⟨N, (ownB_at hv h2).2, fun w' l' L' hl h => h3 w' l' L' ?_⟩
  rw [hv]
  exact ownB_mk hl h
theorem rows_take2V {vs : List Value} {ls : List (List UInt8)} {i j : Nat} {a b : Option Addr} {cp cq : Nat} (h1 : vs.length = ls.length) (hi : i < ls.length) (hj : j < ls.length) (hij : i ≠ j)
    (hv : vs.getD i undef = .slice a (ls.getD i []).length cp) (hu : vs.getD j undef = .slice b (ls.getD j []).length cq) (hs : Sep W0 w (sepL (rowCh vs ls) :: L)) :
    ∃ N, Sep W0 w (own 5 1 (.slice a (ls.getD i []).length cp) (ls.getD i []).length ((ls.getD i []).map B) :: own 5 1 (.slice b (ls.getD j []).length cq) (ls.getD j []).length ((ls.getD j []).map B) :: sepL N :: L) ∧ ∀ (w' : World) (l' : List UInt8) (L' : List Asn), l'.length = (ls.getD i []).length →
      Sep W0 w' (own 5 1 (.slice a (ls.getD i []).length cp) (ls.getD i []).length (l'.map B) :: own 5 1 (.slice b (ls.getD j []).length cq) (ls.getD j []).length ((ls.getD j []).map B) :: sepL N :: L') → Sep W0 w' (sepL (rowCh vs (ls.set i l')) :: L') := by
  obtain ⟨N, h2, h3⟩ := rows_take2 h1 hi hj hij hs
  have h4 := (ownB_at hv h2).2
  have h5 := (ownB_at hu (Sep.front (i := 1) rfl h4)).2
  refine ⟨N, Sep.front (i := 1) rfl h5, fun w' l' L' hl h => h3 w' l' L' ?_⟩
  rw [hv, hu]
  exact ownB_mk hl (Sep.front (i := 1) rfl (ownB_mk rfl (Sep.front (i := 1) rfl h)))
theorem rows_addr {i p : Nat} {vs : List Value} {ls : List (List UInt8)} {a : Option Addr} {k cp : Nat} (hs : Sep W0 w L) (hp : L[p]? = some (sepL (rowCh vs ls))) (h1 : vs.length = ls.length) (hi : i < ls.length) (hv : vs.getD i undef = .slice a k cp) (hk : 0 < k) : ∃ g, a = some ⟨g, 0, none⟩ := by
  obtain ⟨N, h2, _⟩ := rows_take h1 hi (Sep.front (i := p) hp hs)
  obtain ⟨h3, h4⟩ := ownB_at hv h2
  exact Sep.ownAddr (i := 0) h4 rfl (by omega)
theorem rows_cell2 {i j p : Nat} {vs : List Value} {ls : List (List UInt8)} {g k cp : Nat} (hs : Sep W0 w L) (hp : L[p]? = some (sepL (rowCh vs ls))) (h1 : vs.length = ls.length) (hi : i < ls.length) (hv : vs.getD i undef = .slice (some ⟨g, 0, none⟩) k cp) (hj : j < (ls.getD i []).length) : w.cell? ⟨g, j, none⟩ = some (B ((ls.getD i []).getD j 0)) := by
  obtain ⟨N, h2, _⟩ := rows_take h1 hi (Sep.front (i := p) hp hs)
  obtain ⟨h3, h4⟩ := ownB_at hv h2
  exact Sep.ownCell (i := 0) h4 rfl (getB hj)
def swapL {α : Type} (d : α) (l : List α) (i k : Nat) : List α := (l.set i (l.getD k d)).set k (l.getD i d)
theorem swapL_length {α : Type} (d : α) (l : List α) (i k : Nat) : (swapL d l i k).length = l.length := by simp [swapL]
theorem swapL_perm {α : Type} {d : α} {l : List α} {i k : Nat} (hi : i < l.length) (hk : k < l.length) : (swapL d l i k).Perm l := by
  have := List.set_set_perm hi hk
  simpa [swapL, List.getD_eq_getElem?_getD, List.getElem?_eq_getElem hi, List.getElem?_eq_getElem hk] using this
theorem zipWith_set {α β γ : Type} (f : α → β → γ) : ∀ (l : List α) (m : List β) (i : Nat) (a : α) (b : β), List.zipWith f (l.set i a) (m.set i b) = (List.zipWith f l m).set i (f a b)
  | [], [], _, _, _ => by simp
  | [], _ :: _, _, _, _ => by simp
  | _ :: _, [], _, _, _ => by simp
  | x :: l, y :: m, 0, a, b => by simp
  | x :: l, y :: m, i + 1, a, b => by simp [zipWith_set f l m i a b]
theorem rows_swap {vs : List Value} {ls : List (List UInt8)} {i k : Nat} (h1 : vs.length = ls.length) (hi : i < ls.length) (hk : k < ls.length) (hs : Sep W0 w (sepL (rowCh vs ls) :: L)) : Sep W0 w (sepL (rowCh (swapL undef vs i k) (swapL [] ls i k)) :: L) := by
  have h2 : rowCh (swapL undef vs i k) (swapL [] ls i k) = swapL emp (rowCh vs ls) i k := by
    unfold rowCh swapL
    rw [zipWith_set, zipWith_set]
    have h3 := rowCh_at h1 hi
    have h4 := rowCh_at h1 hk
    unfold rowCh at h3 h4
    rw [List.getD_eq_getElem?_getD (l := List.zipWith _ _ _), List.getD_eq_getElem?_getD (l := List.zipWith _ _ _), h3, h4]
    rfl
  rw [h2]
  have hl := rowCh_length h1
  exact Sep.shut _ ((Sep.open hs).perm (List.Perm.append_right _ (swapL_perm (d := emp) (by omega) (by omega)).symm))
def rowsE (v : Value) (n : Nat) (ls : List (List UInt8)) : Asn := fun h => ∃ vs, rowsB v n vs ls h
theorem rowsE_open {v : Value} {k : Nat} {ls : List (List UInt8)} (hs : Sep W0 w (rowsE v k ls :: L)) : ∃ vs, vs.length = ls.length ∧ ls.length = k ∧ Sep W0 w (own 26 1 v k vs :: sepL (rowCh vs ls) :: L) := by
  obtain ⟨vs, h⟩ := Sep.ex hs
  exact ⟨vs, rowsB_open h⟩
theorem rowsE_shut {v : Value} {k : Nat} {vs : List Value} {ls : List (List UInt8)} (h1 : vs.length = ls.length) (h2 : ls.length = k) (hs : Sep W0 w (own 26 1 v k vs :: sepL (rowCh vs ls) :: L)) : Sep W0 w (rowsE v k ls :: L) := Sep.intro vs (rowsB_shut h1 h2 hs)
end
structure Shape (ls : List (List UInt8)) (n c : Nat) : Prop where
  len : ls.length = n
  all : ∀ x ∈ ls, x.length = c
theorem Shape.at {ls : List (List UInt8)} {n c i : Nat} (h : Shape ls n c) (hi : i < n) : (ls.getD i []).length = c := h.all _ (by
  rw [List.getD_eq_getElem?_getD, List.getElem?_eq_getElem (by rw [h.len]; exact hi)]; exact List.getElem_mem _)
theorem Shape.set {ls : List (List UInt8)} {n c i : Nat} {l : List UInt8} (h : Shape ls n c) (hl : l.length = c) : Shape (ls.set i l) n c :=
  ⟨by rw [List.length_set]; exact h.len, fun x hx => by
    rcases List.mem_or_eq_of_mem_set hx with h1 | rfl
    · exact h.all x h1
    · exact hl⟩
theorem Shape.swap {ls : List (List UInt8)} {n c i k : Nat} (h : Shape ls n c) (hi : i < n) (hk : k < n) : Shape (swapL [] ls i k) n c :=
  (h.set (h.at hk)).set (h.at hi)
def pivF (a : List (List UInt8)) (col : Nat) : Nat → Nat → Option Nat
  | 0, _ => none
  | f + 1, i => if ((a.getD i []).getD col 0).toNat = 0 then pivF a col f (i + 1) else some i
theorem pivF_le {a : List (List UInt8)} {col : Nat} : ∀ {f i k : Nat}, pivF a col f i = some k → i ≤ k ∧ k < i + f
  | 0, _, _, h => by simp [pivF] at h
  | f + 1, i, k, h => by
    simp only [pivF] at h
    split at h
    · have := pivF_le h; omega
    · simp at h; omega
abbrev LL := List (List UInt8)
def clr1 (at' col i : Nat) (p : LL × LL) : LL × LL :=
  if i ≠ at' ∧ ((p.1.getD i []).getD col 0).toNat ≠ 0 then
    (p.1.set i (gAddR ((p.1.getD i []).getD col 0) (p.1.getD i []) (p.1.getD at' [])), p.2.set i (gAddR ((p.1.getD i []).getD col 0) (p.2.getD i []) (p.2.getD at' [])))
  else p
def clr0 (at' col : Nat) (p : LL × LL) : LL × LL :=
  (p.1.set at' (gScale (ginv ((p.1.getD at' []).getD col 0)) (p.1.getD at' [])), p.2.set at' (gScale (ginv ((p.1.getD at' []).getD col 0)) (p.2.getD at' [])))
def clrF (at' col : Nat) (p : LL × LL) : Nat → LL × LL
  | 0 => clr0 at' col p
  | i + 1 => clr1 at' col i (clrF at' col p i)
def swp (i k : Nat) (p : LL × LL) : LL × LL := (swapL [] p.1 i k, swapL [] p.2 i k)
def Shp (p : LL × LL) (n c d : Nat) : Prop := Shape p.1 n c ∧ Shape p.2 n d
theorem clr0_shape {at' col n c d : Nat} {p : LL × LL} (h : Shp p n c d) (ha : at' < n) : Shp (clr0 at' col p) n c d :=
  ⟨h.1.set (by rw [gScale_length]; exact h.1.at ha), h.2.set (by rw [gScale_length]; exact h.2.at ha)⟩
theorem clr1_shape {at' col i n c d : Nat} {p : LL × LL} (h : Shp p n c d) (ha : at' < n) (hi : i < n) : Shp (clr1 at' col i p) n c d := by
  unfold clr1
  split
  · refine ⟨h.1.set ?_, h.2.set ?_⟩
    · rw [gAddR_length (by rw [h.1.at ha, h.1.at hi]; exact Nat.le_refl _), h.1.at hi]
    · rw [gAddR_length (by rw [h.2.at ha, h.2.at hi]; exact Nat.le_refl _), h.2.at hi]
  · exact h
theorem clrF_shape {at' col n c d : Nat} {p : LL × LL} (h : Shp p n c d) (ha : at' < n) : ∀ {i : Nat}, i ≤ n → Shp (clrF at' col p i) n c d
  | 0, _ => clr0_shape h ha
  | i + 1, hi => clr1_shape (clrF_shape h ha (by omega)) ha (by omega)
theorem swp_shape {i k n c d : Nat} {p : LL × LL} (h : Shp p n c d) (hi : i < n) (hk : k < n) : Shp (swp i k p) n c d := ⟨h.1.swap hi hk, h.2.swap hi hk⟩
def stepsF (n : Nat) : Nat → Nat → LL × LL → List Nat → (LL × LL) × List Nat
  | 0, _, p, cols => (p, cols)
  | f + 1, col, p, cols =>
    match pivF p.1 col (n - cols.length) cols.length with
    | none => stepsF n f (col + 1) p cols
    | some k => if cols.length + 1 = n then (clrF cols.length col (swp cols.length k p) n, cols ++ [col]) else stepsF n f (col + 1) (clrF cols.length col (swp cols.length k p) n) (cols ++ [col])
end Go.Sl
namespace Go.Sl
open Go.Proofs Go.Proofs.Tryz
theorem mnew_s {W0 w : World} {L : List Asn} (r c : Nat) (h1 : 1 ≤ r) (h2 : 1 ≤ c) (h3 : r ≤ 64) (h4 : c ≤ 64) (hs : Sep W0 w L) :
 Calls Tryz.prog 190 [.int .i64 r, .int .i64 c].toArray w (Ret fun r' w' => ∃ p b, r' = .tuple #[ptr p, .int .i64 0] ∧ Sep W0 w' (row p 339 [I (r : Int), I (c : Int), .slice (some ⟨b, 0, none⟩) (r * c) (r * c)] :: own 5 1 (.slice (some ⟨b, 0, none⟩) (r * c) (r * c)) (r * c) ((List.replicate (r * c) (0 : UInt8)).map B) :: L)) := by
 have hrc : r * c ≤ 64 * 64 := Nat.mul_le_mul h3 h4
 have hi : (r : Int) * (c : Int) = ((r * c : Nat) : Int) := (Int.natCast_mul r c).symm
 refine enter (args := [(I (r : Int)), (I (c : Int))]) (n := 28) (rs := [.tmp 4, .tmp 5]) func190 rfl rfl rfl rfl ?_
 refine rSeq (rReg (oV (xAssign rfl) rfl (oV (xAssign rfl) rfl (oEnd (kSeq (rSeq (rSeq (rReg (oV (xMove rfl) rfl (oV (xCmp rfl rfl rLss) rfl (oV (xMove rfl) rfl ?_)))))))))))
 refine oCase (d := 8) rfl (fun hg1 => ?_) (fun hg1 => ?_)
 · replace hg1 := of_decide_eq_true hg1
   refine oGuardF rfl rfl rfl rfl (oGuardF rfl rfl rfl rfl (oV (xPickT rfl rfl) rfl (oV (xMove rfl) rfl (oGuardF rfl rfl rfl rfl (oGuardF rfl rfl rfl rfl (oV (xPickT rfl rfl) rfl (oV (xMove rfl) rfl (oGuardF rfl rfl rfl rfl (oGuardF rfl rfl rfl rfl (oV (xPickT rfl rfl) rfl (oEnd (kSeq (rCondT rfl (rSeq (rReg (oV (xAssign rfl) rfl (oV (xAssign rfl) rfl (oEnd (kSeq (rRet (kSeqR (kFin (.tmp rfl (.tmp rfl (.nil))) ?_))))))))))))))))))))))
   exfalso; omega
 · replace hg1 := of_decide_eq_false hg1
   refine oGuardT rfl rfl (oV (xMove rfl) rfl (oGuardT rfl rfl (oV (xCmp rfl rfl rLss) rfl (oV (xPickF rfl rfl) rfl (oV (xMove rfl) rfl ?_)))))
   refine oCase (d := 12) rfl (fun hg2 => ?_) (fun hg2 => ?_)
   · replace hg2 := of_decide_eq_true hg2
     refine oGuardF rfl rfl rfl rfl (oGuardF rfl rfl rfl rfl (oV (xPickT rfl rfl) rfl (oV (xMove rfl) rfl (oGuardF rfl rfl rfl rfl (oGuardF rfl rfl rfl rfl (oV (xPickT rfl rfl) rfl (oEnd (kSeq (rCondT rfl (rSeq (rReg (oV (xAssign rfl) rfl (oV (xAssign rfl) rfl (oEnd (kSeq (rRet (kSeqR (kFin (.tmp rfl (.tmp rfl (.nil))) ?_))))))))))))))))))
     exfalso; omega
   · replace hg2 := of_decide_eq_false hg2
     refine oGuardT rfl rfl (oV (xMove rfl) rfl (oGuardT rfl rfl (oV (xCmp rfl rfl rGtr) rfl (oV (xPickF rfl rfl) rfl (oV (xMove rfl) rfl ?_)))))
     refine oCase (d := 16) rfl (fun hg3 => ?_) (fun hg3 => ?_)
     · replace hg3 := of_decide_eq_true hg3
       refine oGuardF rfl rfl rfl rfl (oGuardF rfl rfl rfl rfl (oV (xPickT rfl rfl) rfl (oEnd (kSeq (rCondT rfl (rSeq (rReg (oV (xAssign rfl) rfl (oV (xAssign rfl) rfl (oEnd (kSeq (rRet (kSeqR (kFin (.tmp rfl (.tmp rfl (.nil))) ?_))))))))))))))
       exfalso; omega
     · replace hg3 := of_decide_eq_false hg3
       refine oGuardT rfl rfl (oV (xMove rfl) rfl (oGuardT rfl rfl (oV (xCmp rfl rfl rGtr) rfl (oV (xPickF rfl rfl) rfl (oEnd (kSeq ?_))))))
       refine rCondD rfl (fun hc4 => ?_) (fun hc4 => ?_)
       · refine rSeq (rReg (oV (xAssign rfl) rfl (oV (xAssign rfl) rfl (oEnd (kSeq (rRet (kSeqR (kFin (.tmp rfl (.tmp rfl (.nil))) ?_))))))))
         exfalso; omega
       · refine rSkip (kSeq (rSeq (rReg (oV (xMove rfl) rfl (oV (xMove rfl) rfl (oV (xMove rfl) rfl (oV (xMove rfl) rfl (oV (xAr rfl rfl (rMul (wI (by omega) (by omega)))) rfl (oMake (k := (r * c)) (c := (r * c)) (size := 1) (bytes := 1) (inf := Tryz.t5) hs underlying26 (by kernel_rfl) rfl rfl rfl rfl rfl (by omega) (by omega) (by omega) (by omega) (by omega) rfl ?_)))))))))
         intro b5 w6 hs7; clear hs
         rw [made1 (.int .u8 0) rfl] at hs7
         refine oV (xBuild (v := (.agg #[(I (r : Int)), (I (c : Int)), (.slice (some ⟨b5, 0, none⟩) (r * c) (r * c))])) rfl (fun w => by kernel_rfl)) rfl (oBox hs7 rfl rfl rfl ?_)
         intro b8 w9 hs10; clear hs7
         refine oV (xAssign rfl) rfl (oV (xAssign rfl) rfl (oEnd (kSeq (rRet (kFin (.tmp rfl (.tmp rfl (.nil))) ?_)))))
         simp only [List.map_replicate]
         exact ⟨_, _, rfl, hs10⟩
theorem mof_s {W0 w : World} {L : List Asn} {f : HF} {a : Option Addr} {n cp : Nat} {vs : List Value} {ls : List (List UInt8)} (c : Nat) (hv : Reads f 1 (.slice a n cp) n vs) (hr : RR f vs ls) (hc : ∀ x ∈ ls, x.length = c) (h1 : 1 ≤ n) (h2 : 1 ≤ c) (h3 : n ≤ 64) (h4 : c ≤ 64) (hs : Sep W0 w (pool f :: L)) :
 Calls Tryz.prog 125 [.slice a n cp].toArray w (Ret fun r w' => ∃ f' p, r = .tuple #[ptr p, .int .i64 0] ∧ FLe f f' ∧ MatP f' p c ls ∧ Sep W0 w' (pool f' :: L)) := by
 have hln : ls.length = n := by have := hr.len; have := hv.1; omega
 have hcl : ∀ j, j < n → (ls.getD j []).length = c := fun j hj => hc _ (by rw [List.getD_eq_getElem?_getD, List.getElem?_eq_getElem (by omega)]; exact List.getElem_mem _)
 have hnc : n * c ≤ 64 * 64 := Nat.mul_le_mul h3 h4
 have hl0 := hcl 0 (by omega)
 refine enter (args := [(.slice a n cp)]) (n := 53) (rs := [.tmp 2, .tmp 3]) func125 rfl rfl rfl rfl ?_
 refine rSeq (rReg (oV (xAssign rfl) rfl (oV (xAssign rfl) rfl (oEnd (kSeq (rSeq (rSeq (rReg (oV (xMove rfl) rfl (oV (xB1 rfl (rLenS underlying22)) rfl (oV (xCmp rfl rfl rEql) rfl (oEnd (kSeq ?_)))))))))))))
 refine rCondD rfl (fun hc1 => ?_) (fun hc1 => ?_)
 · refine rSeq (rReg (oV (xAssign rfl) rfl (oV (xAssign rfl) rfl (oEnd (kSeq (rRet (kSeqR (kFin (.tmp rfl (.tmp rfl (.nil))) ?_))))))))
   exfalso; omega
 · refine rSkip (kSeq (rSeq (rReg (oV (xMove rfl) rfl (oV (xB1 rfl (rLenS underlying22)) rfl (oV (xMove rfl) rfl ?_))))))
   obtain ⟨b2, off3, rfl⟩ := Reads.at hv (by omega)
   refine oV (xIA (o' := off3 + 0) underlying22 sizeOf26 rfl rfl (by omega) (by omega) (by omega)) rfl ?_
   obtain ⟨a4, k5, cp6, he7, hb8⟩ := RR.get hr 0 (by omega)
   have hl9 := RB.len hb8
   refine oV (xLoadC isAgg26 rfl (Reads.cell hv hs (i := 0) rfl he7)) rfl (oV (xB1 rfl (rLenS underlying26)) rfl (oCall call190 rfl rfl (mnew_s n k5 (by omega) (by omega) (by omega) (by omega) hs) ?_))
   rintro _ w12 ⟨p10, b11, rfl, hs13⟩; clear hs
   refine oV (xMove rfl) rfl (oV (xExtract rfl rfl) rfl (oV (xExtract rfl rfl) rfl (oV (xAssign rfl) rfl (oV (xAssign rfl) rfl (oEnd (kSeq (rSeq (rSeq (rReg (oV (xMove rfl) rfl (oV (xCmp (r := false) rfl rfl rNeq) rfl (oEnd (kSeq (rCondF rfl (rSkip (kSeq (rSeq (rSeq (rReg (oV (xMove rfl) rfl (oV (xB1 rfl (rLenS underlying22)) rfl (oV (xMove rfl) rfl (oEnd (kSeq (rBlk ?_)))))))))))))))))))))))))
   obtain rfl : c = k5 := by omega
   have e0 : List.replicate (n * c) (0 : UInt8) = (ls.take 0).flatten ++ List.replicate ((n - 0) * c) (0 : UInt8) := by simp
   rw [e0] at hs13
   refine rLoop (fun mz e w => ∃ (i : Nat), n - i = mz ∧ e = [(0, (.slice (some ⟨b2, off3, none⟩) n cp)), (4, (ptr p10)), (24, (.slice (some ⟨b2, off3, none⟩) n cp)), (25, (I (n : Int))), (26, (I (i : Int)))] ∧ (i ≤ n) ∧ Sep W0 w (row p10 339 [(I (n : Int)), (I (c : Int)), (.slice (some ⟨b11, 0, none⟩) (n * c) (n * c))] :: own 5 1 (.slice (some ⟨b11, 0, none⟩) (n * c) (n * c)) (n * c) (((ls.take i).flatten ++ List.replicate ((n - i) * c) (0 : UInt8)).map B) :: pool f :: L)) ⟨_, _, ⟨0, rfl, rfl, (by omega), hs13⟩, ⟨rfl, rfl, rfl, rfl, rfl, trivial⟩⟩ ?_
   clear hs13; rintro mz e w ⟨i, rfl, rfl, hi, hs⟩
   refine rSeq (rReg (oV (xCmp rfl rfl rLss) rfl (oEnd (kSeq (rSeq ?_)))))
   refine rCondD rfl (fun hc14 => ?_) (fun hc14 => ?_)
   · have hci := hcl i (by omega); have hic : i * c + c ≤ n * c := by
       have := Nat.mul_le_mul_right c (show i + 1 ≤ n by omega)
       rwa [Nat.add_mul, Nat.one_mul] at this
     refine rSkip (kSeq (rSeq (rBlk (rSeq (rReg (oV (xMove rfl) rfl (oV (xIA (o' := off3 + i) underlying22 sizeOf26 rfl rfl (by omega) (by omega) (by omega)) rfl ?_)))))))
     obtain ⟨a15, k16, cp17, he18, hb19⟩ := RR.get hr i (by omega)
     have hl20 := RB.len hb19
     refine oV (xLoadC isAgg26 rfl (Reads.cell hv hs (i := 2) rfl he18)) rfl (oV (xAssign rfl) rfl (oV (xAssign rfl) rfl (oEnd (kSeq (rSeq (rSeq (rReg (oV (xMove rfl) rfl (oV (xB1 rfl (rLenS underlying26)) rfl (oV (xMove rfl) rfl (oV (xNil rfl) rfl (oV (xFA (j' := 1) underlying339 rfl sizeOf3 rfl rfl) rfl (oV (xLoad hs isAgg3 rfl (i := 0) rfl rfl) rfl (oV (xCmp rfl rfl rNeq) rfl (oEnd (kSeq ?_))))))))))))))))
     refine rCondD rfl (fun hc21 => ?_) (fun hc21 => ?_)
     · refine rSeq (rReg (oV (xAssign rfl) rfl (oV (xAssign rfl) rfl (oEnd (kSeq (rRet (kSeqR (kBlkR (kSeqR (kLoopR (kBlkR (kSeqR (kFin (.tmp rfl (.tmp rfl (.nil))) ?_)))))))))))))
       exfalso; omega
     · refine rSkip (kSeq ?_)
       refine rRegG [(none, fun w => ∃ M, Sep W0 w (row p10 339 [(I (n : Int)), (I (c : Int)), (.slice (some ⟨b11, 0, none⟩) (n * c) (n * c))] :: pool f :: M))] (by kernel_rfl) hs (fun w22 hs23 => ⟨?_, fun hS => ?_⟩)
       · exact ⟨⟨_, (Sep.front (i := 1) rfl (Sep.front (i := 2) rfl hs23))⟩, trivial⟩
       clear hs
       refine gTake0 0 rfl (by kernel_rfl) hS (fun w => xMove rfl) rfl ?_
       clear hS; intro hS
       refine gTake0 1 rfl (by kernel_rfl) hS (fun w => xNil rfl) rfl ?_
       clear hS; intro hS
       refine gTake0 2 rfl (by kernel_rfl) hS (fun w => xFA (j' := 2) underlying339 rfl sizeOf26 rfl rfl) rfl ?_
       clear hS; intro hS
       refine gTake 3 0 rfl (by kernel_rfl) rfl (by kernel_rfl) hS (fun w hq0 => by obtain ⟨M, hq⟩ := hq0; exact xLoad hq isAgg26 rfl (i := 0) rfl rfl) rfl ?_
       clear hS; intro hS
       refine gTake0 4 rfl (by kernel_rfl) hS (fun w => xMove rfl) rfl ?_
       clear hS; intro hS
       refine gTake0 5 rfl (by kernel_rfl) hS (fun w => xMove rfl) rfl ?_
       clear hS; intro hS
       refine gTake0 6 rfl (by kernel_rfl) hS (fun w => xNil rfl) rfl ?_
       clear hS; intro hS
       refine gTake0 7 rfl (by kernel_rfl) hS (fun w => xFA (j' := 1) underlying339 rfl sizeOf3 rfl rfl) rfl ?_
       clear hS; intro hS
       refine gTake 8 0 rfl (by kernel_rfl) rfl (by kernel_rfl) hS (fun w hq0 => by obtain ⟨M, hq⟩ := hq0; exact xLoad hq isAgg3 rfl (i := 0) rfl rfl) rfl ?_
       clear hS; intro hS
       refine gTake0 9 rfl (by kernel_rfl) hS (fun w => xAr rfl rfl (rMul (wI (by omega) (by omega)))) rfl ?_
       clear hS; intro hS
       refine gTake0 10 rfl (by kernel_rfl) hS (fun w => xSliceV (lo := (i * c)) (hi := n * c) (o' := (i * c)) (n' := n * c - (i * c)) (c' := n * c - (i * c)) underlying26 sizeOf5 rfl rfl rfl (Bd.some (k := .i64) (i := ((i : Int) * (c : Int))) (by first | rfl | omega)) (Bd.none) (by omega) (by omega) (by omega) (by omega) (by omega) (by omega)) rfl ?_
       clear hS; intro hS
       refine gTake0 11 rfl (by kernel_rfl) hS (fun w => xMove rfl) rfl ?_
       clear hS; intro hS
       refine gEff 12 (by kernel_rfl) rfl ?_
       refine oCopyO (m := k16) (off := (i * c)) (dLen := (n * c - (i * c))) (dCap := (n * c - (i * c))) (k := (n * c)) hs23 (i := 1) rfl underlying26 (by kernel_rfl) rfl (fun _ => rfl) rfl (Reads.src hb19 hs23 (i := 2) rfl (oneB _)) (by omega) (by omega) rfl ?_
       intro w24 hs25; clear hs23; dsimp only [List.set] at hs25
       have hkc : k16 = c := by omega
       rw [← List.map_take, ← List.map_drop, ← List.map_append, ← List.map_append, hkc, fill_step hc (by omega) hln] at hs25
       refine oEnd (kG ⟨⟨_, (Sep.front (i := 1) rfl (Sep.front (i := 2) rfl hs25))⟩, trivial⟩ ?_)
       clear hS; intro hS
       refine gEnd (by kernel_rfl) ?_
       clear hS
       refine kBlk (kSeq ?_)
       refine rReg (oV (xAr rfl rfl (rAdd (wI (by omega) (by omega)))) rfl (oV (xMove rfl) rfl ?_))
       exact oEnd (kLoop (n - (i + 1)) _ (by omega) ⟨i + 1, rfl, rfl, (by omega), hs25⟩ ⟨rfl, rfl, rfl, rfl, rfl, trivial⟩)
   · refine rExit (kSeqX (kLoopX (kBlkH (kSeq (rSeq (rReg (oV (xMove rfl) rfl (oV (xAssign rfl) rfl (oV (xAssign rfl) rfl (oEnd (kSeq (rRet (kFin (.tmp rfl (.tmp rfl (.nil))) ?_)))))))))))))
     replace hs := hs.f2
     obtain rfl : i = n := by omega
     rw [List.take_of_length_le (by omega), Nat.sub_self, Nat.zero_mul, List.replicate_zero, List.append_nil] at hs
     obtain ⟨f1, hle1, hb1, hs1⟩ := Sep.freezeOwn (i := 1) hs rfl; dsimp only [List.eraseIdx] at hs1
     obtain ⟨f2, hle2, hp2, hs2⟩ := Sep.freezePR (i := 0) hs1 rfl; dsimp only [List.eraseIdx] at hs2
     refine ⟨f2, p10, rfl, hle1.trans hle2, ⟨hc, _, _, _, ?_, hb1.mono hle2⟩, hs2⟩
     rw [hln]; exact hp2
theorem msize_s {W0 w : World} {L : List Asn} {f : HF} {p c : Nat} {ls : List (List UInt8)} (hm : MatP f p c ls) (hs : Sep W0 w (pool f :: L)) :
 Calls Tryz.prog 191 [ptr p].toArray w (Ret fun r w' => r = .tuple #[I (ls.length : Int), I (c : Int)] ∧ Sep W0 w' (pool f :: L)) := by
 obtain ⟨hc, ma, mn, mcp, hp, hb⟩ := id hm
 have hfl := flat_length hc; have hbl := RB.len hb
 refine enter (args := [(ptr p)]) (n := 14) (rs := [.tmp 2, .tmp 3]) func191 rfl rfl rfl rfl ?_
 refine rSeq (rReg (oV (xAssign rfl) rfl (oV (xAssign rfl) rfl (oEnd (kSeq (rSeq (rSeq (rReg (oV (xMove rfl) rfl (oV (xBin (r := .bool false) rfl rfl (fun _ => rfl) (fun w => by kernel_rfl)) rfl (oEnd (kSeq (rCondF rfl (rSkip (kSeq (rSeq (rRegQ (by kernel_rfl) (by kernel_rfl) hs ?_)))))))))))))))))
 refine qV (fun w hq => xMove rfl) rfl ?_
 refine qV (fun w hq => xNil rfl) rfl ?_
 refine qV (fun w hq => xFA (j' := 0) underlying339 rfl sizeOf3 rfl rfl) rfl ?_
 refine qV (fun w hq => xLoadC isAgg3 rfl (PR.cell hp hq (i := 0) rfl rfl)) rfl ?_
 refine qV (fun w hq => xMove rfl) rfl ?_
 refine qV (fun w hq => xNil rfl) rfl ?_
 refine qV (fun w hq => xFA (j' := 1) underlying339 rfl sizeOf3 rfl rfl) rfl ?_
 refine qV (fun w hq => xLoadC isAgg3 rfl (PR.cell hp hq (i := 0) rfl rfl)) rfl ?_
 refine qV (fun w hq => xAssign rfl) rfl ?_
 refine qV (fun w hq => xAssign rfl) rfl ?_
 refine qEnd (fun w2 hs1 => ?_); clear hs
 refine kSeq ?_
 refine rRet (kFin (.tmp rfl (.tmp rfl (.nil))) ?_)
 exact ⟨rfl, hs1⟩
theorem mis_s {W0 w : World} {L : List Asn} {f : HF} {p c : Nat} {ls : List (List UInt8)} (hm : MatP f p c ls) (i k : Nat) (hi : i < ls.length) (hk : k < c) (hs : Sep W0 w (pool f :: L)) :
 Calls Tryz.prog 194 [ptr p, .int .i64 i, .int .i64 k].toArray w (Ret fun r w' => r = .bool true ∧ Sep W0 w' (pool f :: L)) := by
 obtain ⟨hc, ma, mn, mcp, hp, hb⟩ := id hm
 have hfl := flat_length hc; have hbl := RB.len hb
 refine enter (args := [(ptr p), (I (i : Int)), (I (k : Int))]) (n := 33) (rs := [.tmp 6]) func194 rfl rfl rfl rfl ?_
 refine rSeq (rReg (oV (xAssign rfl) rfl (oEnd (kSeq (rSeq (rReg (oV (xMove rfl) rfl (oV (xBin (r := .bool true) rfl rfl (fun _ => rfl) (fun w => by kernel_rfl)) rfl (oV (xMove rfl) rfl (oGuardT rfl rfl (oV (xMove rfl) rfl (oGuardT rfl rfl (oV (xCmp rfl rfl rGeq) rfl (oV (xPickT rfl rfl) rfl (oV (xMove rfl) rfl ?_)))))))))))))))
 refine oCase (d := 13) rfl (fun hg1 => ?_) (fun hg1 => ?_)
 · replace hg1 := of_decide_eq_true hg1
   refine oGuardT rfl rfl (oV (xMove rfl) rfl (oGuardT rfl rfl (oV (xCmp rfl rfl rGeq) rfl (oV (xPickT rfl rfl) rfl (oV (xMove rfl) rfl ?_)))))
   refine oCase (d := 17) rfl (fun hg2 => ?_) (fun hg2 => ?_)
   · replace hg2 := of_decide_eq_true hg2
     refine oGuardT rfl rfl (oV (xMove rfl) rfl (oGuardT rfl rfl (oV (xMove rfl) rfl (oGuardT rfl rfl (oV (xNil rfl) rfl (oGuardT rfl rfl (oV (xFA (j' := 0) underlying339 rfl sizeOf3 rfl rfl) rfl (oGuardT rfl rfl (oV (xLoadC isAgg3 rfl (PR.cell hp hs (i := 0) rfl rfl)) rfl (oGuardT rfl rfl (oV (xCmp rfl rfl rLss) rfl (oV (xPickT rfl rfl) rfl (oV (xMove rfl) rfl ?_)))))))))))))
     refine oCase (d := 25) rfl (fun hg3 => ?_) (fun hg3 => ?_)
     · replace hg3 := of_decide_eq_true hg3
       refine oGuardT rfl rfl (oV (xMove rfl) rfl (oGuardT rfl rfl (oV (xMove rfl) rfl (oGuardT rfl rfl (oV (xNil rfl) rfl (oGuardT rfl rfl (oV (xFA (j' := 1) underlying339 rfl sizeOf3 rfl rfl) rfl (oGuardT rfl rfl (oV (xLoadC isAgg3 rfl (PR.cell hp hs (i := 0) rfl rfl)) rfl (oGuardT rfl rfl (oV (xCmp rfl rfl rLss) rfl (oV (xPickT rfl rfl) rfl (oV (xAssign rfl) rfl (oEnd (kSeq (rRet (kFin (.tmp rfl (.nil)) ?_)))))))))))))))))
       have hphi : (k : Int) < (c : Int) := by omega
       exact ⟨by rw [decide_eq_true hphi]; rfl, hs⟩
     · replace hg3 := of_decide_eq_false hg3
       refine oGuardF rfl rfl rfl rfl (oGuardF rfl rfl rfl rfl (oGuardF rfl rfl rfl rfl (oGuardF rfl rfl rfl rfl (oGuardF rfl rfl rfl rfl (oGuardF rfl rfl rfl rfl (oV (xPickF rfl rfl) rfl (oV (xAssign rfl) rfl (oEnd (kSeq (rRet (kFin (.tmp rfl (.nil)) ?_)))))))))))
       exfalso; omega
   · replace hg2 := of_decide_eq_false hg2
     refine oGuardF rfl rfl rfl rfl (oGuardF rfl rfl rfl rfl (oGuardF rfl rfl rfl rfl (oGuardF rfl rfl rfl rfl (oGuardF rfl rfl rfl rfl (oGuardF rfl rfl rfl rfl (oV (xPickF rfl rfl) rfl (oV (xMove rfl) rfl (oGuardF rfl rfl rfl rfl (oGuardF rfl rfl rfl rfl (oGuardF rfl rfl rfl rfl (oGuardF rfl rfl rfl rfl (oGuardF rfl rfl rfl rfl (oGuardF rfl rfl rfl rfl (oV (xPickF rfl rfl) rfl (oV (xAssign rfl) rfl (oEnd (kSeq (rRet (kFin (.tmp rfl (.nil)) ?_)))))))))))))))))))
     exfalso; omega
 · replace hg1 := of_decide_eq_false hg1
   refine oGuardF rfl rfl rfl rfl (oGuardF rfl rfl rfl rfl (oV (xPickF rfl rfl) rfl (oV (xMove rfl) rfl (oGuardF rfl rfl rfl rfl (oGuardF rfl rfl rfl rfl (oGuardF rfl rfl rfl rfl (oGuardF rfl rfl rfl rfl (oGuardF rfl rfl rfl rfl (oGuardF rfl rfl rfl rfl (oV (xPickF rfl rfl) rfl (oV (xMove rfl) rfl (oGuardF rfl rfl rfl rfl (oGuardF rfl rfl rfl rfl (oGuardF rfl rfl rfl rfl (oGuardF rfl rfl rfl rfl (oGuardF rfl rfl rfl rfl (oGuardF rfl rfl rfl rfl (oV (xPickF rfl rfl) rfl (oV (xAssign rfl) rfl (oEnd (kSeq (rRet (kFin (.tmp rfl (.nil)) ?_)))))))))))))))))))))))
   exfalso; omega
theorem mrow_s {W0 w : World} {L : List Asn} {f : HF} {p c : Nat} {ls : List (List UInt8)} (hm : MatP f p c ls) (i : Nat) (hi : i < ls.length) (h2 : 1 ≤ c) (h3 : ls.length ≤ 64) (h4 : c ≤ 64) (hs : Sep W0 w (pool f :: L)) :
 Calls Tryz.prog 127 [ptr p, .int .i64 i].toArray w (Ret fun r w' => Sep W0 w' (ownB r (ls.getD i []) :: pool f :: L)) := by
 obtain ⟨hc, ma, mn, mcp, hp, hb⟩ := id hm
 have hfl := flat_length hc; have hbl := RB.len hb
 have hrc : ls.length * c ≤ 64 * 64 := Nat.mul_le_mul h3 h4
 have hic : i * c + c ≤ ls.length * c := by
   have := Nat.mul_le_mul_right c (show i + 1 ≤ ls.length by omega)
   rwa [Nat.add_mul, Nat.one_mul] at this
 have hii : (i + 1) * c = i * c + c := by rw [Nat.add_mul, Nat.one_mul]
 have hiI : ((i : Int) + 1) * (c : Int) = (i : Int) * (c : Int) + (c : Int) := by rw [Int.add_mul, Int.one_mul]
 have hfa := flat_at hc hi
 have hci : (ls.getD i []).length = c := hc _ (by rw [List.getD_eq_getElem?_getD, List.getElem?_eq_getElem hi]; exact List.getElem_mem _)
 refine enter (args := [(ptr p), (I (i : Int))]) (n := 28) (rs := [.tmp 4]) func127 rfl rfl rfl rfl ?_
 refine rSeq (rReg (oV (xAssign rfl) rfl (oEnd (kSeq (rSeq (rSeq (rReg (oV (xMove rfl) rfl (oV (xMove rfl) rfl (oCall call194 rfl rfl (mis_s hm i 0 (by omega) (by omega) hs) ?_))))))))))
 rintro _ w1 ⟨rfl, hs2⟩; clear hs
 refine oV (xNot rfl) rfl (oEnd (kSeq (rCondF rfl (rSkip (kSeq (rSeq ?_))))))
 refine rRegG [(none, fun w => ∃ M, Sep W0 w (pool f :: M))] (by kernel_rfl) hs2 (fun w3 hs4 => ⟨?_, fun hS => ?_⟩)
 · exact ⟨⟨_, (Sep.front (i := 0) rfl hs4)⟩, trivial⟩
 clear hs2
 refine gTake0 0 rfl (by kernel_rfl) hS (fun w => xMove rfl) rfl ?_
 clear hS; intro hS
 refine gTake0 1 rfl (by kernel_rfl) hS (fun w => xNil rfl) rfl ?_
 clear hS; intro hS
 refine gTake0 2 rfl (by kernel_rfl) hS (fun w => xFA (j' := 2) underlying339 rfl sizeOf26 rfl rfl) rfl ?_
 clear hS; intro hS
 refine gTake 3 0 rfl (by kernel_rfl) rfl (by kernel_rfl) hS (fun w hq0 => by obtain ⟨M, hq⟩ := hq0; exact xLoadC isAgg26 rfl (PR.cell hp hq (i := 0) rfl rfl)) rfl ?_
 clear hS; intro hS
 refine gTake0 4 rfl (by kernel_rfl) hS (fun w => xMove rfl) rfl ?_
 clear hS; intro hS
 refine gTake0 5 rfl (by kernel_rfl) hS (fun w => xMove rfl) rfl ?_
 clear hS; intro hS
 refine gTake0 6 rfl (by kernel_rfl) hS (fun w => xNil rfl) rfl ?_
 clear hS; intro hS
 refine gTake0 7 rfl (by kernel_rfl) hS (fun w => xFA (j' := 1) underlying339 rfl sizeOf3 rfl rfl) rfl ?_
 clear hS; intro hS
 refine gTake 8 0 rfl (by kernel_rfl) rfl (by kernel_rfl) hS (fun w hq0 => by obtain ⟨M, hq⟩ := hq0; exact xLoadC isAgg3 rfl (PR.cell hp hq (i := 0) rfl rfl)) rfl ?_
 clear hS; intro hS
 refine gTake0 9 rfl (by kernel_rfl) hS (fun w => xAr rfl rfl (rMul (wI (by omega) (by omega)))) rfl ?_
 clear hS; intro hS
 refine gTake0 10 rfl (by kernel_rfl) hS (fun w => xMove rfl) rfl ?_
 clear hS; intro hS
 refine gTake0 11 rfl (by kernel_rfl) hS (fun w => xAr rfl rfl (rAdd (wI (by omega) (by omega)))) rfl ?_
 clear hS; intro hS
 refine gTake0 12 rfl (by kernel_rfl) hS (fun w => xMove rfl) rfl ?_
 clear hS; intro hS
 refine gTake0 13 rfl (by kernel_rfl) hS (fun w => xNil rfl) rfl ?_
 clear hS; intro hS
 refine gTake0 14 rfl (by kernel_rfl) hS (fun w => xFA (j' := 1) underlying339 rfl sizeOf3 rfl rfl) rfl ?_
 clear hS; intro hS
 refine gTake 15 0 rfl (by kernel_rfl) rfl (by kernel_rfl) hS (fun w hq0 => by obtain ⟨M, hq⟩ := hq0; exact xLoadC isAgg3 rfl (PR.cell hp hq (i := 0) rfl rfl)) rfl ?_
 clear hS; intro hS
 refine gTake0 16 rfl (by kernel_rfl) hS (fun w => xAr rfl rfl (rMul (wI (by omega) (by omega)))) rfl ?_
 clear hS; intro hS
 obtain ⟨a5, k6, cp7, hb8, hk9, hx10⟩ := RB.slice (P := Tryz.prog) (t := 26) (lo := (i * c)) (hi := ((i + 1) * c)) hb underlying26 sizeOf5 (Bd.some (k := .i64) (i := ((i : Int) * (c : Int))) (by omega)) (Bd.some (k := .i64) (i := (((i : Int) + 1) * (c : Int))) (by omega)) (by omega) (by omega)
 have hl11 := RB.len hb8
 refine gTake0 17 rfl (by kernel_rfl) hS (fun w => xSlice rfl rfl rfl hx10) rfl ?_
 clear hS; intro hS
 refine gEff 18 (by kernel_rfl) rfl ?_
 refine oCall call29 rfl rfl (cloneB_o _ hb8 (oneB _) (by omega) hs4) ?_
 rintro _ w15 ⟨a12, k13, cp14, rfl, hk17, hs16⟩; clear hs4; replace hk17 := Eq.symm hk17; subst hk17
 refine oEnd (kG ⟨⟨_, (Sep.front (i := 1) rfl hs16)⟩, trivial⟩ ?_)
 clear hS; intro hS
 refine gTake0 19 rfl (by kernel_rfl) hS (fun w => xAssign rfl) rfl ?_
 clear hS; intro hS
 refine gEnd (by kernel_rfl) ?_
 clear hS
 refine kSeq ?_
 refine rRet (kFin (.tmp rfl (.nil)) ?_)
 rw [show (i + 1) * c - i * c = c by omega, hfa] at hs16
 exact ownB_mk (by omega) hs16
theorem mdot_s {W0 w : World} {L : List Asn} {f : HF} {a b : Option Addr} {n m ca cb : Nat} {la lb : List UInt8} (ha : RB f a n ca la) (hb : RB f b m cb lb) (hn : n ≤ 1000000) (hm : m ≤ 1000000) (hs : Sep W0 w (pool f :: L)) :
 Calls Tryz.prog 176 [.slice a n ca, .slice b m cb].toArray w (Ret fun r w' => r = B (dot la lb (Min.min n m)) ∧ Sep W0 w' (pool f :: L)) := by
 have hla := RB.len ha; have hlb := RB.len hb
 refine enter (args := [(.slice a n ca), (.slice b m cb)]) (n := 28) (rs := [.tmp 4]) func176 rfl rfl rfl rfl ?_
 refine rSeq (rReg (oV (xAssign rfl) rfl (oEnd (kSeq (rSeq (rReg (oV (xAssign rfl) rfl (oEnd (kSeq (rSeq (rSeq (rReg (oV (xMove rfl) rfl (oV (xB1 rfl (rLenS underlying26)) rfl (oV (xMove rfl) rfl (oV (xB1 rfl (rLenS underlying26)) rfl (oV (xB1 rfl rMin) rfl (oV (xMove rfl) rfl (oEnd (kSeq (rBlk (rLoop (fun mz e w => ∃ (i : Nat), min n m - i = mz ∧ e = [(0, (.slice a n ca)), (1, (.slice b m cb)), (5, (.int .u8 ((dot la lb i).toNat : Int))), (11, (I ((Min.min n m : Nat) : Int))), (12, (I (i : Int)))] ∧ (i ≤ min n m) ∧ Sep W0 w (pool f :: L)) ⟨_, _, ⟨0, rfl, rfl, (by omega), hs⟩, ⟨rfl, rfl, rfl, vI (by omega), rfl, trivial⟩⟩ ?_))))))))))))))))))))))
 clear hs; rintro mz e w ⟨i, rfl, rfl, hi, hs⟩
 refine rSeq (rReg (oV (xCmp rfl rfl rLss) rfl (oEnd (kSeq (rSeq ?_)))))
 refine rCondD rfl (fun hc1 => ?_) (fun hc1 => ?_)
 · refine rSkip (kSeq (rSeq (rBlk (rSeq (rReg (oV (xMove rfl) rfl (oV (xAssign rfl) rfl (oEnd (kSeq ?_)))))))))
   refine rRegG [(none, fun w => ∃ M, Sep W0 w (pool f :: M))] (by kernel_rfl) hs (fun w2 hs3 => ⟨?_, fun hS => ?_⟩)
   · exact ⟨⟨_, (Sep.front (i := 0) rfl hs3)⟩, trivial⟩
   clear hs
   refine gTake0 0 rfl (by kernel_rfl) hS (fun w => xMove rfl) rfl ?_
   clear hS; intro hS
   refine gTake0 1 rfl (by kernel_rfl) hS (fun w => xMove rfl) rfl ?_
   clear hS; intro hS
   refine gTake0 2 rfl (by kernel_rfl) hS (fun w => xMove rfl) rfl ?_
   clear hS; intro hS
   obtain ⟨b4, off5, rfl⟩ := Reads.at ha (by omega)
   refine gTake0 3 rfl (by kernel_rfl) hS (fun w => xIA (o' := off5 + i) underlying26 sizeOf5 rfl rfl (by omega) (by omega) (by omega)) rfl ?_
   clear hS; intro hS
   refine gTake 4 0 rfl (by kernel_rfl) rfl (by kernel_rfl) hS (fun w hq0 => by obtain ⟨M, hq⟩ := hq0; exact xLoadC isAgg5 rfl (Reads.cell ha hq (i := 0) rfl (getB (by omega)))) rfl ?_
   clear hS; intro hS
   refine gTake0 5 rfl (by kernel_rfl) hS (fun w => xMove rfl) rfl ?_
   clear hS; intro hS
   refine gTake0 6 rfl (by kernel_rfl) hS (fun w => xMove rfl) rfl ?_
   clear hS; intro hS
   obtain ⟨b6, off7, rfl⟩ := Reads.at hb (by omega)
   refine gTake0 7 rfl (by kernel_rfl) hS (fun w => xIA (o' := off7 + i) underlying26 sizeOf5 rfl rfl (by omega) (by omega) (by omega)) rfl ?_
   clear hS; intro hS
   refine gTake 8 0 rfl (by kernel_rfl) rfl (by kernel_rfl) hS (fun w hq0 => by obtain ⟨M, hq⟩ := hq0; exact xLoadC isAgg5 rfl (Reads.cell hb hq (i := 0) rfl (getB (by omega)))) rfl ?_
   clear hS; intro hS
   refine gEff 9 (by kernel_rfl) rfl ?_
   refine oCall call108 rfl rfl (gmul_s (la.getD i 0) (lb.getD i 0) hs3) ?_
   rintro _ w8 ⟨rfl, hs9⟩; clear hs3
   refine oEnd (kG ⟨⟨_, (Sep.front (i := 0) rfl hs9)⟩, trivial⟩ ?_)
   clear hS; intro hS
   refine gEff 10 (by kernel_rfl) rfl ?_
   refine oCall call107 rfl rfl (gadd_s (dot la lb i) (gmul (la.getD i 0) (lb.getD i 0)) hs9) ?_
   rintro _ w10 ⟨rfl, hs11⟩; clear hs9
   refine oEnd (kG ⟨⟨_, (Sep.front (i := 0) rfl hs11)⟩, trivial⟩ ?_)
   clear hS; intro hS
   refine gTake0 11 rfl (by kernel_rfl) hS (fun w => xAssign rfl) rfl ?_
   clear hS; intro hS
   refine gEnd (by kernel_rfl) ?_
   clear hS
   refine kBlk (kSeq ?_)
   refine rReg (oV (xAr rfl rfl (rAdd (wI (by omega) (by omega)))) rfl (oV (xMove rfl) rfl ?_))
   exact oEnd (kLoop (min n m - (i + 1)) _ (by omega) ⟨i + 1, rfl, rfl, (by omega), hs11⟩ ⟨rfl, rfl, rfl, rfl, rfl, trivial⟩)
 · refine rExit (kSeqX (kLoopX (kBlkH (kSeq (rSeq (rReg (oV (xMove rfl) rfl (oV (xAssign rfl) rfl (oEnd (kSeq (rRet (kFin (.tmp rfl (.nil)) ?_))))))))))))
   obtain rfl : i = min n m := by omega
   exact ⟨rfl, hs⟩
end Go.Sl
