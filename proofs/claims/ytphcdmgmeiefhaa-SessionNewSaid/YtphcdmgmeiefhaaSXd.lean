/-
  The symbolic executor is right: whatever the model's code does is among the outcomes that were reckoned.
-/
import Derived.Test.YtphcdmgmeiefhaaSXc
import Derived.Control
import Derived.LoopN
import Derived.ChangeArms
import Derived.OpenShut
set_option linter.unusedVariables false
set_option linter.unusedSimpArgs false
set_option linter.unusedSectionVars false

namespace Go.SX

def exOf : Ex → Exit
  | .normal => .normal
  | .exit i => .exit i
  | .ret => .ret

def CodeRes (B : Base) (ρ : Env) (Q : Exit → Act → World → Prop) (k : Out → Res) (os : List Out) : Prop :=
  ∀ (o : Out) (ρ' : Env) (a' : Act) (w' : World) (os' : List Out), k o = some os' → (∀ x ∈ os', x ∈ os) → ρ.Ext ρ' → RepW B ρ' o.st w' → TmRep ρ' o.tmps a' → Q (exOf o.ex) a' w'
def ContRes (B : Base) (ρ : Env) (K : Act → World → Prop) (k : Cont) (os : List Out) : Prop :=
  ∀ (t : Tm) (st : St) (ρ' : Env) (a' : Act) (w' : World) (os' : List Out), k t st = some os' → (∀ x ∈ os', x ∈ os) → ρ.Ext ρ' → RepW B ρ' st w' → TmRep ρ' t a' → K a' w'
def CallRes (B : Base) (ρ : Env) (R : Ending → World → Prop) (k : Out → Res) (os : List Out) : Prop :=
  ∀ (o : Out) (ρ' : Env) (w' : World) (os' : List Out) (v : SV) (l r : T SV), k o = some os' → (∀ x ∈ os', x ∈ os) → ρ.Ext ρ' → RepW B ρ' o.st w' → o.tmps = .node v l r → v.ok ρ' → R (.returned (v.den ρ')) w'

theorem CodeRes.ext {B : Base} {ρ ρ' : Env} {Q : Exit → Act → World → Prop} {k : Out → Res} {os : List Out} (h : CodeRes B ρ Q k os) (he : ρ.Ext ρ') : CodeRes B ρ' Q k os :=
  fun o ρ'' a' w' os' h1 h2 h3 => h o ρ'' a' w' os' h1 h2 (he.trans h3)
theorem CodeRes.sub {B : Base} {ρ : Env} {Q : Exit → Act → World → Prop} {k : Out → Res} {os os' : List Out} (h : CodeRes B ρ Q k os) (hs : ∀ x ∈ os', x ∈ os) : CodeRes B ρ Q k os' :=
  fun o ρ'' a' w' os'' h1 h2 => h o ρ'' a' w' os'' h1 (fun x hx => hs x (h2 x hx))
theorem ContRes.ext {B : Base} {ρ ρ' : Env} {K : Act → World → Prop} {k : Cont} {os : List Out} (h : ContRes B ρ K k os) (he : ρ.Ext ρ') : ContRes B ρ' K k os :=
  fun o st ρ'' a' w' os' h1 h2 h3 => h o st ρ'' a' w' os' h1 h2 (he.trans h3)
theorem ContRes.sub {B : Base} {ρ : Env} {K : Act → World → Prop} {k : Cont} {os os' : List Out} (h : ContRes B ρ K k os) (hs : ∀ x ∈ os', x ∈ os) : ContRes B ρ K k os' :=
  fun o st ρ'' a' w' os'' h1 h2 => h o st ρ'' a' w' os'' h1 (fun x hx => hs x (h2 x hx))
theorem CallRes.sub {B : Base} {ρ : Env} {R : Ending → World → Prop} {k : Out → Res} {os os' : List Out} (h : CallRes B ρ R k os) (hs : ∀ x ∈ os', x ∈ os) : CallRes B ρ R k os' :=
  fun o ρ'' w' os'' v l r h1 h2 => h o ρ'' w' os'' v l r h1 (fun x hx => hs x (h2 x hx))

theorem join_some {a b : Res} {os : List Out} (h : join a b = some os) : ∃ l m, a = some l ∧ b = some m ∧ (∀ x ∈ l, x ∈ os) ∧ (∀ x ∈ m, x ∈ os) := by
  unfold join at h
  split at h
  · split at h
    · simp only [Option.some.injEq] at h; subst h
      exact ⟨_, _, rfl, rfl, fun x hx => List.mem_append.2 (.inl hx), fun x hx => List.mem_append.2 (.inr hx)⟩
    · cases h
  · cases h

/-! ### Guards -/
theorem slotOf_eq (ops : Array Oper) (j : Nat) : slotOf ops.toList j = (ops[j]?).bind (·.dst) := by
  unfold slotOf
  rw [getI_eq]
  simp only [Array.getElem?_toList]
  cases ops[j]? <;> rfl

theorem wantS_ok {ρ : Env} {ops : Array Oper} {t : Tm} {a : Act} (hT : TmRep ρ t a) (o : Oper) :
    match wantS ops.toList t o with
    | .bad => True
    | .yes => Region.wanted o (yielded ops a.tmps) = true
    | .no => Region.wanted o (yielded ops a.tmps) = false
    | .ask s e want => t.get s = some (.bool e) ∧ Region.wanted o (yielded ops a.tmps) = (e.B ρ == want) := by
  unfold wantS Region.wanted
  cases hg : o.guard with
  | none => simp
  | some q =>
    obtain ⟨j, want⟩ := q
    simp only [slotOf_eq]
    have hy : yielded ops a.tmps j = match (ops[j]?).bind (·.dst) with
        | some s => (match a.tmps[s]? with | some (.bool b) => some b | _ => none)
        | none => none := by
      unfold yielded
      cases hs : (ops[j]?).bind (·.dst) with
      | none => rfl
      | some s =>
        simp only [Option.bind_some]
        cases a.tmps[s]? with
        | none => rfl
        | some v => cases v <;> simp
    rw [hy]
    cases hs : (ops[j]?).bind (·.dst) with
    | none => simp
    | some s =>
      simp only
      cases ht : t.get s with
      | none => simp [hT.2.1 s ht]
      | some v =>
        have hval : v ≠ .junk → a.tmps[s]? = some (v.den ρ) := hT.at ht
        cases v with
        | junk => trivial
        | bool e =>
          rw [hval (by simp)]
          simp only [SV.den]
          cases e with
          | bool b =>
            simp only [E.B_bool]
            cases hb : boolB b want with
            | true => have := boolB_eq hb; subst this; simp
            | false => have := boolB_ne hb; simp [this]
          | _ => simp [ht]
        | bsl ks e => rw [hval (by simp)]; simp only [SV.den]; cases e.den ρ <;> simp [U.raw]
        | _ => rw [hval (by simp)]; simp [SV.den]

theorem TmRep.relabel {ρ : Env} {t : Tm} {a : Act} (h : TmRep ρ t a) {s : Nat} {e : E} {b : Bool} (hs : t.get s = some (.bool e)) (hb : e.B ρ = b) : TmRep ρ (t.set s (.bool (.bool b))) a := by
  refine ⟨h.1, fun i hi => ?_, fun i v hv => ?_⟩
  · rw [T.get_set] at hi
    by_cases e' : i = s
    · subst e'; rw [if_pos rfl, hs] at hi; cases hi
    · rw [if_neg e'] at hi; exact h.2.1 i hi
  · rw [T.get_set] at hv
    by_cases e' : i = s
    · subst e'
      rw [if_pos rfl, hs] at hv
      simp only [Option.map_some, Option.some.injEq] at hv; subst hv
      exact ⟨_, h.at hs (by simp), .inr ⟨by simp [SV.den, hb], by simp [SV.ok]⟩⟩
    · rw [if_neg e'] at hv; exact h.2.2 i v hv

structure RunOk (P : Program) (tb : Tab) (n : Nat) (r : Runner) : Prop where
  code : ∀ (g : FuncId) (c : Code) (t : Tm) (st : St) (k : Out → Res) (os : List Out), r (.code g c) t st k = some os →
    ∀ (B : Base) (ρ : Env) (a : Act) (w : World) (Q : Exit → Act → World → Prop), RepW B ρ st w → TmRep ρ t a → CodeRes B ρ Q k os → c.wp P Q a w
  rounds : ∀ (g : FuncId) (c : Code) (t : Tm) (st : St) (k : Out → Res) (os : List Out), r (.rounds g c) t st k = some os →
    ∀ (B : Base) (ρ : Env) (a : Act) (w : World) (Q : Exit → Act → World → Prop), RepW B ρ st w → TmRep ρ t a → CodeRes B ρ Q k os → Code.rounds P c Q n a w
  call : ∀ (g : FuncId) (args : List SV) (t : Tm) (st : St) (k : Out → Res) (os : List Out), r (.call g args) t st k = some os →
    ∀ (B : Base) (ρ : Env) (w : World) (R : Ending → World → Prop), RepW B ρ st w → SV.oks ρ args → CallRes B ρ R k os → Calls P g (SV.dens ρ args).toArray w R
  draw : ∀ (ops : Array Oper) (id : Nat) (t : Tm) (st : St) (k : Out → Res) (os : List Out), r (.draw ops.toList ops.size) t st k = some os →
    ∀ (B : Base) (ρ : Env) (a : Act) (w : World) (Q : Exit → Act → World → Prop), RepW B ρ st w → TmRep ρ t a → CodeRes B ρ Q k os → (Code.region id ops true).wp P Q a w
  layer : ∀ (ops : Array Oper), noSel ops.toList = true → ∀ (l : List Node) (t : Tm) (st : St) (k : Out → Res) (os : List Out), r (.layer ops.toList (infosOf ops.toList ops.toList) l) t st k = some os →
    ∀ (B : Base) (ρ : Env) (K : Act → World → Prop), ContRes B ρ K (fun t st => k ⟨.normal, t, st⟩) os →
    ∀ x ∈ l, ∀ (ρ' : Env) (listed : Array Bool) (a : Act) (w : World), ρ.Ext ρ' → RepW B ρ' x.st w → TmRep ρ' x.tmps a → listed.size = ops.size → (∀ j, listed.getD j false = x.listed.testBit j) →
      wpAny P .any ops (fun e a w => match e with | .normal => K a w | _ => False) x.left listed a w

section
variable {P : Program} {tb : Tab} (ht : TabOk P tb) (hng : ∀ (f : Nat) (fn : Func), P.funcs[f]? = some fn → (fn.name == "runtime.NumGoroutine") = false)
include ht hng

theorem callS_ok {ρ : Env} {t : Tm} {a : Act} (hT : TmRep ρ t a) {o : Oper} {c : Call} (ho : o.op = .call c) {g : FuncId} {args : List SV} (h : callS tb t c = some (g, args)) (w : World) :
    (execOp a.eval o).run P w = .ok (.enter g (SV.dens ρ args).toArray) w ∧ SV.oks ρ args := by
  have hev := hT.eval
  unfold callS at h
  split at h
  · rename_i f hf
    split at h
    · rename_i g' fi ca vs hfv hvs
      split at h
      · rename_i fn hfn
        split at h
        · rename_i body hb
          simp only [Option.some.injEq, Prod.mk.injEq] at h
          obtain ⟨rfl, rfl⟩ := h
          have h1 := evList_ok hev _ _ hvs
          have e1 : c.args.map a.eval = (SV.dens ρ vs).toArray := by apply Array.ext'; simpa using h1
          have h2 := ht.fn _ _ hfn
          have h3 := hng _ _ h2
          have hfo := hT.wf _ _ hfv
          simp only [SV.ok] at hfo
          refine ⟨?_, by
            rw [SV.oks_iff] at *
            intro v hv
            simp only [List.mem_append] at hv
            rcases hv with hv | hv | hv
            · exact hfo.1 v hv
            · exact (SV.oks_iff _).1 (evList_wf hT.wf _ _ hvs) v hv
            · exact (SV.oks_iff _).1 hfo.2 v hv⟩
          simp only [execOp, ho, resolve, hf, hev _ _ hfv, SV.den, Deferred.ofValue, Sem.run_bind, Sem.run_pure, Result.andThen_ok, invoke, callFunc, run_program, h2, h3, e1]
          rw [hb]
          simp [SV.dens_eq]
        · cases h
      · cases h
    · cases h
  · cases h

theorem stepCallee_ok {n : Nat} {rec : Runner} (hrec : RunOk P tb n rec) {o : Oper} {t : Tm} {st : St} {k : Cont} {os : List Out} (h : stepCallee tb rec o t st k = some os)
    {B : Base} {ρ : Env} {a : Act} {w : World} (hr : RepW B ρ st w) (hT : TmRep ρ t a) {K : Act → World → Prop} (hK : ContRes B ρ K k os) (Q : Exit → Act → World → Prop) : o.wp P a w K Q := by
  unfold stepCallee at h
  unfold Oper.wp
  split at h
  · rename_i c hc
    split at h
    · rename_i g args hca
      split at h
      · rename_i hsc
        obtain ⟨hcs, hco⟩ := callS_ok ht hng hT hc hca w
        rw [hcs, Oper.upon_enter]
        refine hrec.call _ _ _ _ _ _ h B ρ w _ hr hco ?_
        intro r ρ' w' os' v l r' h1 h2 h3 h4 h5 h6
        simp only [h5] at h1
        rw [putK_eq] at h1
        have hs : tmScoped ρ.vs.length ρ.bs.length t = true := by rw [hr.nv, hr.nb]; exact hsc
        exact hK _ _ _ _ _ _ h1 h2 h3 h4 ((hT.ext h3 hs).put _ _ h6)
      · cases h
    · cases h
  · cases h

theorem stepEff_ok {n : Nat} {rec : Runner} (hrec : RunOk P tb n rec) {o : Oper} {t : Tm} {k : Cont} {a : Act} {K : Act → World → Prop} (Q : Exit → Act → World → Prop) :
    ∀ (m : Nat) {st : St} {os : List Out}, stepEff tb rec o t k m st = some os → ∀ {B : Base} {ρ : Env} {w : World}, RepW B ρ st w → TmRep ρ t a → ContRes B ρ K k os → o.wp P a w K Q
  | 0, st, os, h, B, ρ, w, hr, hT, hK => by cases h
  | m + 1, st, os, h0, B, ρ, w, hr, hT, hK => by
    have h : (match effOp tb t st o.op with
      | .val v st => putK t o.dst v fun tmps => k tmps st
      | .skip st => putK t o.dst .undef fun tmps => k tmps st
      | .ask e => join (stepEff tb rec o t k m { st with pc := e :: st.pc }) (stepEff tb rec o t k m { st with pc := mkNot e :: st.pc })
      | .lack e => lackAt o.pos st e
      | .bad => match effOp2 tb t st o.op with
        | .val v st => putK t o.dst v fun tmps => k tmps st
        | .skip st => putK t o.dst .undef fun tmps => k tmps st
        | .ask e => join (stepEff tb rec o t k m { st with pc := e :: st.pc }) (stepEff tb rec o t k m { st with pc := mkNot e :: st.pc })
        | .lack e => lackAt o.pos st e
        | .bad => stepCallee tb rec o t st k) = some os := h0
    have heff := effOp_ok ht hr hT o
    have heff2 := effOp2_ok ht hr hT o
    have hval : ∀ {v : SV} {st' : St}, (∃ ρ' w', ρ.Ext ρ' ∧ RepW B ρ' st' w' ∧ TmRep ρ' t a ∧ v.ok ρ' ∧ (execOp a.eval o).run P w = .ok (.value (v.den ρ')) w') → putK t o.dst v (fun tmps => k tmps st') = some os → o.wp P a w K Q := by
      intro v st' heff h
      obtain ⟨ρ', w', h1, h2, h3, hv, h4⟩ := heff
      rw [putK_eq] at h
      unfold Oper.wp
      rw [h4, Oper.upon_value]
      exact hK _ _ _ _ _ _ h (fun x hx => hx) h1 h2 (h3.put _ _ hv)
    have hskip : ∀ {st' : St}, (∃ ρ' w', ρ.Ext ρ' ∧ RepW B ρ' st' w' ∧ TmRep ρ' t a ∧ (execOp a.eval o).run P w = .ok .skip w') → putK t o.dst .undef (fun tmps => k tmps st') = some os → o.wp P a w K Q := by
      intro st' heff h
      obtain ⟨ρ', w', h1, h2, h3, h4⟩ := heff
      rw [putK_eq] at h
      unfold Oper.wp
      rw [h4, Oper.upon_skip]
      have h5 := h3.put o.dst SV.undef (undef_wf _)
      rw [SV.undef_den] at h5
      exact hK _ _ _ _ _ _ h (fun x hx => hx) h1 h2 h5
    have hask : ∀ {e : E}, join (stepEff tb rec o t k m { st with pc := e :: st.pc }) (stepEff tb rec o t k m { st with pc := mkNot e :: st.pc }) = some os → o.wp P a w K Q := by
      intro e h
      obtain ⟨l, r, h1, h2, h3, h4⟩ := join_some h
      cases hb : e.B ρ with
      | true => exact stepEff_ok hrec Q m h1 (hr.assume hb) hT (hK.sub h3)
      | false => exact stepEff_ok hrec Q m h2 (hr.assume (by rw [mkNot_B, hb]; rfl)) hT (hK.sub h4)
    split at h
    · rename_i v st' he
      rw [he] at heff
      exact hval heff h
    · rename_i st' he
      rw [he] at heff
      exact hskip heff h
    · exact hask h
    · cases h
    · split at h
      · rename_i v st' he
        rw [he] at heff2
        exact hval heff2 h
      · rename_i st' he
        rw [he] at heff2
        exact hskip heff2 h
      · exact hask h
      · cases h
      · exact stepCallee_ok ht hng hrec h hr hT hK Q

theorem stepGo_ok {n : Nat} {rec : Runner} (hrec : RunOk P tb n rec) {o : Oper} {t : Tm} {st : St} {k : Cont} {os : List Out} (h : stepGo P tb rec o t st k = some os)
    {B : Base} {ρ : Env} {a : Act} {w : World} (hr : RepW B ρ st w) (hT : TmRep ρ t a) {K : Act → World → Prop} (hK : ContRes B ρ K k os) (Q : Exit → Act → World → Prop) : o.wp P a w K Q := by
  unfold stepGo at h
  split at h
  · rename_i v hv
    unfold Oper.wp
    rw [putK_eq] at h
    rw [pureOp_ok ht hT.eval hT.wf hv w, Oper.upon_value]
    exact hK _ _ _ _ _ _ h (fun x hx => hx) (Env.Ext.refl ρ) hr (hT.put _ _ (pureOp_wf hT.wf hv))
  · exact stepEff_ok ht hng hrec Q 40 h hr hT hK

theorem stepOper_ok {n : Nat} {rec : Runner} (hrec : RunOk P tb n rec) {ops : Array Oper} {o : Oper} {t : Tm} {st : St} {k : Cont} {os : List Out} (h : stepOper P tb rec ops.toList o t st k = some os)
    {B : Base} {ρ : Env} {a : Act} {w : World} (hr : RepW B ρ st w) (hT : TmRep ρ t a) {K : Act → World → Prop} (hK : ContRes B ρ K k os) (Q : Exit → Act → World → Prop) :
    if Region.wanted o (yielded ops a.tmps) then o.wp P a w K Q else K (a.put o.dst undef) w := by
  unfold stepOper at h
  have hw := wantS_ok (ops := ops) hT o
  have hundef : ∀ {t' : Tm}, TmRep ρ t' a → TmRep ρ (match o.dst with | none => t' | some d => t'.set d SV.undef) (a.put o.dst undef) := by
    intro t' h'
    have h5 := h'.put o.dst SV.undef (undef_wf _)
    rw [SV.undef_den] at h5
    exact h5
  split at h
  · rename_i hq
    rw [hq] at hw
    rw [if_pos hw]
    exact stepGo_ok ht hng hrec h hr hT hK Q
  · rename_i hq
    rw [hq] at hw
    rw [if_neg (by simp [hw])]
    rw [putK_eq] at h
    exact hK _ _ _ _ _ _ h (fun x hx => hx) (Env.Ext.refl ρ) hr (hundef hT)
  · cases h
  · rename_i s e want hq
    rw [hq] at hw
    obtain ⟨hs, hw⟩ := hw
    split at h
    · rename_i b hb
      have hb' := knownE_ok ht.facts hr.pc hb
      rw [T.setK_eq] at h
      have hT' := hT.relabel hs hb'
      split at h
      · rename_i hbw
        have := boolB_eq hbw; subst this
        rw [if_pos (by rw [hw, hb']; simp)]
        exact stepGo_ok ht hng hrec h hr hT' hK Q
      · rename_i hbw
        have := boolB_ne hbw
        rw [if_neg (by rw [hw, hb']; simpa using this)]
        rw [putK_eq] at h
        exact hK _ _ _ _ _ _ h (fun x hx => hx) (Env.Ext.refl ρ) hr (hundef hT')
    · obtain ⟨l, m, h1, h2, h3, h4⟩ := join_some h
      rw [T.setK_eq] at h1
      rw [T.setK_eq, putK_eq] at h2
      by_cases hc : e.B ρ = want
      · rw [if_pos (by rw [hw, hc]; simp)]
        refine stepGo_ok ht hng hrec h1 (hr.assume ?_) (hT.relabel hs hc) (hK.sub h3) Q
        cases want <;> simp [mkNot_B, hc]
      · rw [if_neg (by rw [hw]; simpa using hc)]
        have hc' : e.B ρ = !want := by
          cases hx : e.B ρ <;> cases want <;> simp_all
        refine hK _ _ _ _ _ _ h2 h4 (Env.Ext.refl ρ) (hr.assume ?_) (hundef (hT.relabel hs hc'))
        cases want <;> simp [mkNot_B, hc']

theorem stepOps_ok {n : Nat} {rec : Runner} (hrec : RunOk P tb n rec) {ops : Array Oper} {Q : Exit → Act → World → Prop} : ∀ (l : List Oper) {t : Tm} {st : St} {k : Cont} {os : List Out}, stepOps P tb rec ops.toList l t st k = some os →
    ∀ {B : Base} {ρ : Env} {a : Act} {w : World}, RepW B ρ st w → TmRep ρ t a → ContRes B ρ (fun a w => Q .normal a w) k os → wpList P ops Q l a w
  | [], t, st, k, os, h, B, ρ, a, w, hr, hT, hK => hK _ _ _ _ _ _ h (fun x hx => hx) (Env.Ext.refl ρ) hr hT
  | o :: l, t, st, k, os, h, B, ρ, a, w, hr, hT, hK => by
    have h' : stepOper P tb rec ops.toList o t st (fun t st => stepOps P tb rec ops.toList l t st k) = some os := h
    have := stepOper_ok ht hng hrec h' hr hT (K := wpList P ops Q l) (fun t st ρ' a' w' os' h1 h2 h3 h4 h5 =>
      stepOps_ok hrec l h1 h4 h5 ((hK.ext h3).sub h2)) Q
    unfold wpList
    split
    · rename_i hw; rw [if_pos hw] at this; exact .inl this
    · rename_i hw; rw [if_neg hw] at this; exact this
end
end Go.SX

namespace Go.SX

/-! ### Sets as numbers -/
theorem lor_bit (a b t : Nat) : (Nat.lor a b).testBit t = (a.testBit t || b.testBit t) := Nat.testBit_or a b t
theorem land_bit (a b t : Nat) : (Nat.land a b).testBit t = (a.testBit t && b.testBit t) := Nat.testBit_and a b t
theorem pow_bit (i t : Nat) : (Nat.pow 2 i).testBit t = decide (i = t) := Nat.testBit_two_pow
theorem land_zero {a b : Nat} (h : Nat.beq (Nat.land a b) 0 = true) (t : Nat) : ¬ (a.testBit t = true ∧ b.testBit t = true) := by
  rintro ⟨h1, h2⟩
  have := land_bit a b t
  rw [Nat.eq_of_beq_eq_true h, h1, h2] at this
  simp at this

theorem waitsOf_bit : ∀ (es : List Edge) (j : Nat), (waitsOf es).testBit j = true ↔ ∃ e ∈ es, Region.binds .any e = true ∧ e.on = j
  | [], j => by simp [waitsOf]
  | e :: es, j => by
    have ih := waitsOf_bit es j
    simp only [waitsOf]
    split
    · rename_i hb
      rw [lor_bit, pow_bit, Bool.or_eq_true, ih, decide_eq_true_eq]
      constructor
      · rintro (h | ⟨x, hx, h1, h2⟩)
        · exact ⟨e, by simp, hb, h⟩
        · exact ⟨x, by simp [hx], h1, h2⟩
      · rintro ⟨x, hx, h1, h2⟩
        cases hx with
        | head => exact .inl h2
        | tail _ hm => exact .inr ⟨x, hm, h1, h2⟩
    · rename_i hb
      rw [ih]
      constructor
      · rintro ⟨x, hx, h1, h2⟩; exact ⟨x, by simp [hx], h1, h2⟩
      · rintro ⟨x, hx, h1, h2⟩
        cases hx with
        | head => rw [hb] at h1; cases h1
        | tail _ hm => exact ⟨x, hm, h1, h2⟩

theorem readsOf_bit : ∀ (xs : List Operand) (t : Nat), (readsOf xs).testBit t = true ↔ t ∈ (xs.filterMap fun | .tmp t => some t | _ => none)
  | [], t => by simp [readsOf]
  | x :: xs, t => by
    have ih := readsOf_bit xs t
    cases x with
    | tmp u =>
      simp only [readsOf, lor_bit, pow_bit, Bool.or_eq_true, ih, decide_eq_true_eq, List.filterMap_cons, List.mem_cons]
      constructor
      · rintro (h | h)
        · exact .inl h.symm
        · exact .inr h
      · rintro (h | h)
        · exact .inl h.symm
        · exact .inr h
    | const v => simpa [readsOf] using ih
    | global g => simpa [readsOf] using ih
    | func f => simpa [readsOf] using ih

theorem bitOf_bit (d : Option Tmp) (t : Nat) : (bitOf d).testBit t = true ↔ d = some t := by
  cases d with
  | none => simp [bitOf]
  | some u => show (Nat.pow 2 u).testBit t = true ↔ _; rw [pow_bit]; simp

theorem reads_bit (ops : Array Oper) (o : Oper) (t : Nat) : (infoK ops.toList o).reads.testBit t = true ↔ t ∈ o.looksAt ops := by
  simp only [infoK, lor_bit, Bool.or_eq_true, readsOf_bit, Oper.looksAt, List.mem_append]
  rw [or_comm]
  refine or_congr Iff.rfl ?_
  unfold guardOf
  cases o.guard with
  | none => simp
  | some q =>
    obtain ⟨j, w⟩ := q
    simp only [bitOf_bit, slotOf_eq]
    cases (ops[j]?).bind (·.dst) <;> simp [eq_comm]

theorem infosOf_get (all : List Oper) : ∀ (l : List Oper) (i : Nat), (infosOf all l)[i]? = l[i]?.map (infoK all)
  | [], i => by simp [infosOf]
  | o :: os, i => by
    cases i with
    | zero => simp [infosOf]
    | succ i => simpa [infosOf] using infosOf_get all os i

/-- two operations that have nothing to do with each other -/
theorem apart_of_masks {ops : Array Oper} {x y : Oper} (h1 : Nat.beq (Nat.land (infoK ops.toList x).dst (infoK ops.toList y).reads) 0 = true)
    (h2 : Nat.beq (Nat.land (infoK ops.toList x).dst (infoK ops.toList y).dst) 0 = true) (h3 : Nat.beq (Nat.land (infoK ops.toList y).dst (infoK ops.toList x).reads) 0 = true) : x.apart ops y = true := by
  have k1 : ∀ d, x.dst = some d → d ∉ y.looksAt ops := fun d hd hm => land_zero h1 d ⟨(bitOf_bit _ _).2 hd, (reads_bit ops y d).2 hm⟩
  have k2 : ∀ d, x.dst = some d → y.dst ≠ some d := fun d hd hm => land_zero h2 d ⟨(bitOf_bit _ _).2 hd, (bitOf_bit _ _).2 hm⟩
  have k3 : ∀ d, y.dst = some d → d ∉ x.looksAt ops := fun d hd hm => land_zero h3 d ⟨(bitOf_bit _ _).2 hd, (reads_bit ops x d).2 hm⟩
  unfold Oper.apart
  rw [Bool.and_eq_true]
  constructor
  · cases hx : x.dst with
    | none => rfl
    | some d => simp [k1 d hx, k2 d hx]
  · cases hy : y.dst with
    | none => rfl
    | some d => simp [k3 d hy]

theorem noSel_ok : ∀ (l : List Oper), noSel l = true → ∀ (j : Nat) (o : Oper) cs b, l[j]? = some o → o.op ≠ .select cs b
  | [], _, j, o, cs, b, h => by simp at h
  | x :: xs, hn, j, o, cs, b, h => by
    simp only [noSel] at hn
    split at hn
    · cases hn
    · rename_i hx
      cases j with
      | zero => simp at h; subst h; exact fun e => hx _ _ e
      | succ j => exact noSel_ok xs hn j o cs b (by simpa using h)

/-! ### Equality of states -/
theorem fnB_eq {a b : Fn} (h : fnB a b = true) : a = b := by
  cases a <;> cases b <;> simp [fnB] at h
  rw [h]
mutual
theorem SV.beq_eq : ∀ (x y : SV), x.beq y = true → x = y
  | .int k e, y, h => by cases y <;> simp [SV.beq] at h; rw [ikB_eq h.1, E.beq_eq h.2]
  | .bool e, y, h => by cases y <;> simp [SV.beq] at h; rw [E.beq_eq h]
  | .str e, y, h => by cases y <;> simp [SV.beq] at h; rw [E.beq_eq h]
  | .nilp, y, h => by cases y <;> simp [SV.beq] at h; rfl
  | .nils, y, h => by cases y <;> simp [SV.beq] at h; rfl
  | .nilm, y, h => by cases y <;> simp [SV.beq] at h; rfl
  | .nili, y, h => by cases y <;> simp [SV.beq] at h; rfl
  | .nilf, y, h => by cases y <;> simp [SV.beq] at h; rfl
  | .junk, y, h => by cases y <;> simp [SV.beq] at h; rfl
  | .ptr b ⟨o1, o2, o3⟩, y, h => by
    cases y <;> simp [SV.beq] at h
    rename_i b' o'
    obtain ⟨o1', o2', o3'⟩ := o'
    simp at h
    rw [h.1.1.1, h.1.1.2, h.1.2, E.beq_eq h.2]
  | .slice b ⟨o1, o2, o3⟩ l c, y, h => by
    cases y <;> simp [SV.beq] at h
    rename_i b' o' l' c'
    obtain ⟨o1', o2', o3'⟩ := o'
    simp at h
    rw [h.1.1.1.1.1, h.1.1.1.1.2, h.1.1.1.2, E.beq_eq h.1.1.2, E.beq_eq h.1.2, E.beq_eq h.2]
  | .map b, y, h => by cases y <;> simp [SV.beq] at h; rw [h]
  | .nslice b l c, y, h => by cases y <;> simp [SV.beq] at h; rw [h.1.1, E.beq_eq h.1.2, E.beq_eq h.2]
  | .bsl ks e, y, h => by cases y <;> simp [SV.beq] at h; rw [ksB_eq _ _ h.1, E.beq_eq h.2]
  | .bptr ks e i j, y, h => by cases y <;> simp [SV.beq] at h; rw [ksB_eq _ _ h.1.1.1, E.beq_eq h.1.1.2, E.beq_eq h.1.2, h.2]
  | .func fn fi ca, y, h => by
    cases y <;> simp [SV.beq] at h
    rw [fnB_eq h.1.1, SV.beqs_eq fi _ h.1.2, SV.beqs_eq ca _ h.2]
  | .agg cs, y, h => by
    cases y <;> simp [SV.beq] at h
    rw [SV.beqs_eq cs _ h]
  | .tup cs, y, h => by
    cases y <;> simp [SV.beq] at h
    rw [SV.beqs_eq cs _ h]
theorem SV.beqs_eq : ∀ (x y : List SV), SV.beqs x y = true → x = y
  | [], y, h => by cases y <;> simp [SV.beqs] at h; rfl
  | x :: xs, y, h => by
    cases y with
    | nil => simp [SV.beqs] at h
    | cons y ys =>
      simp [SV.beqs] at h
      rw [SV.beq_eq x y h.1, SV.beqs_eq xs ys h.2]
end
theorem pairsB_eq : ∀ (a b : List Ent), pairsB a b = true → a = b
  | [], b, h => by cases b <;> simp [pairsB] at h; rfl
  | ⟨k, v, n⟩ :: xs, b, h => by
    cases b with
    | nil => simp [pairsB] at h
    | cons y ys =>
      obtain ⟨k', v', n'⟩ := y
      simp [pairsB] at h
      rw [SV.beq_eq _ _ h.1, SV.beq_eq _ _ h.2.1, E.beq_eq h.2.2.1, pairsB_eq xs ys h.2.2.2]
theorem SObj.beq_eq {x y : SObj} (h : x.beq y = true) : x = y := by
  cases x <;> cases y <;> simp [SObj.beq] at h
  · rfl
  · rw [h.1.1, E.beq_eq h.1.2, SV.beqs_eq _ _ h.2]
  · rw [h.1.1.1.1, E.beq_eq h.1.1.1.2, E.beq_eq h.1.1.2, E.beq_eq h.1.2, ksB_eq _ _ h.2]
  · rw [E.beq_eq h.1, pairsB_eq _ _ h.2]
theorem Blk.beq_eq {x y : Blk} (h : x.beq y = true) : x = y := by
  cases x; cases y
  simp [Blk.beq] at h
  rw [boolB_eq h.1, SObj.beq_eq h.2]
theorem T.beq_eq {α : Type} {f : α → α → Bool} (hf : ∀ x y, f x y = true → x = y) : ∀ (a b : T α), T.beq f a b = true → a = b
  | .nil, b, h => by cases b <;> simp [T.beq] at h; rfl
  | .node v l r, b, h => by
    cases b with
    | nil => simp [T.beq] at h
    | node v' l' r' =>
      simp [T.beq] at h
      rw [hf _ _ h.1.1, T.beq_eq hf l l' h.1.2, T.beq_eq hf r r' h.2]
theorem pcB_eq : ∀ (a b : List E), pcB a b = true → a = b
  | [], b, h => by cases b <;> simp [pcB] at h; rfl
  | x :: xs, b, h => by
    cases b with
    | nil => simp [pcB] at h
    | cons y ys => simp [pcB] at h; rw [E.beq_eq h.1, pcB_eq xs ys h.2]
theorem St.beq_eq {a b : St} (h : a.beq b = true) : a = b := by
  cases a; cases b
  simp [St.beq] at h
  rw [h.1.1.1, h.1.1.2, pcB_eq _ _ h.1.2, T.beq_eq (fun _ _ => Blk.beq_eq) _ _ h.2]
theorem Node.beq_eq {a b : Node} (h : a.beq b = true) : a = b := by
  cases a; cases b
  simp [Node.beq] at h
  rw [h.1.1.1, h.1.1.2, T.beq_eq (fun _ _ => SV.beq_eq _ _) _ _ h.1.2, St.beq_eq h.2]
theorem hasNode_ok : ∀ (l : List Node) (x : Node), hasNode l x = true → x ∈ l
  | [], x, h => by simp [hasNode] at h
  | y :: ys, x, h => by
    simp only [hasNode] at h
    split at h
    · rename_i hb; rw [Node.beq_eq hb]; simp
    · exact List.mem_cons_of_mem _ (hasNode_ok ys x h)

theorem heapIn_ok : ∀ (a b : T Blk), heapIn a b = true → ∀ (i : Nat) (x : Blk), a.get i = some x → b.get i = some x
  | .nil, _, _, i, x, hx => by cases hx
  | .node v l r, .nil, h, i, x, hx => by simp [heapIn] at h
  | .node v l r, .node v' l' r', h, i, x, hx => by
    simp only [heapIn] at h
    split at h
    · rename_i h1
      split at h
      · rename_i h2
        cases i with
        | zero => rw [T.get_zero] at hx ⊢; rw [← Blk.beq_eq h1]; exact hx
        | succ i =>
          rw [T.get_succ] at hx ⊢
          split at hx
          · rename_i hi; rw [if_pos hi]; exact heapIn_ok l l' h2 _ _ hx
          · rename_i hi; rw [if_neg hi]; exact heapIn_ok r r' h _ _ hx
      · cases h
    · cases h

/-- what was known before is known again, if it has stayed -/
theorem RepW.back {B : Base} {ρ ρ' : Env} {st st' : St} {w w' : World} (h : RepW B ρ st w) (h' : RepW B ρ' st' w') (he : ρ.Ext ρ') (hs : st.scp = true) (hin : heapIn st.heap st'.heap = true) : RepW B ρ st w' := by
  refine ⟨h.nv, h.nb, h.pc, ?_, h.inj, fun r o hro => h'.fz r o (he.fz r o hro), h'.os, h'.tape, h'.output⟩
  intro i b hb
  obtain ⟨k1, k2, k3⟩ := h.blk i b hb
  have h2 := (h'.blk i b (heapIn_ok _ _ hin i b hb)).2.1
  have hlt : i < ρ.bs.length := by rw [h.nb]; exact k1
  rw [he.blk hlt, he.off hlt, he.nil hlt] at h2
  refine ⟨k1, ?_, k3⟩
  have hsc' := h.blk_scp hs hb
  cases ho : b.obj with
  | gone => trivial
  | cells cs tot elem =>
    rw [ho] at h2 hsc' k2
    obtain ⟨g1, g2, g3, _⟩ := k2
    obtain ⟨_, _, _, arr, j1, j2, j3⟩ := h2
    simp only [SObj.scp, Bool.and_eq_true] at hsc'
    refine ⟨g1, g2, g3, arr, j1, by rw [j2, E.scoped_I he hsc'.1], fun j v hv => ?_⟩
    rw [j3 j v hv, SV.scoped_den he v (mem_scopeds _ hsc'.2 v (List.mem_of_getElem? hv))]
  | flat ks l n tot elem =>
    rw [ho] at h2 hsc' k2
    obtain ⟨g1, g2, g3, g4, g5⟩ := k2
    obtain ⟨_, _, _, _, j5⟩ := h2
    simp only [SObj.scp, Bool.and_eq_true] at hsc'
    rw [E.scoped_L he hsc'.1, E.scoped_I he hsc'.2.2] at j5
    refine ⟨g1, g2, g3, g4, fun hp => ?_⟩
    obtain ⟨q1, q2, arr0, q3, q4, q5⟩ := g5 hp
    obtain ⟨_, _, arr, r3, r4, r5⟩ := j5 hp
    refine ⟨q1, q2, arr, r3, fun i u hu => ?_, r5⟩
    obtain ⟨c, s1, s2, _⟩ := r4 i u hu
    obtain ⟨c', t1, _, t3⟩ := q4 i u hu
    rw [s1] at t1
    simp only [Option.some.injEq] at t1; subst t1
    exact ⟨c, s1, s2, t3⟩
  | map es clk =>
    rw [ho] at h2 hsc' k2
    obtain ⟨en0, clock0, _, _, g3, _⟩ := k2
    obtain ⟨en, clock, j1, j2, j3, j4, j5⟩ := h2
    simp only [SObj.scp, Bool.and_eq_true] at hsc'
    refine ⟨en, clock, j1, by rw [j2, E.scoped_I he hsc'.2], ⟨j3.1, fun i e x hi hx => ?_⟩, j4, j5⟩
    obtain ⟨s1, s2, s3, _⟩ := j3.2 i e x hi hx
    have hlt : i < en0.size := by
      rw [g3.1]; exact (List.getElem?_eq_some_iff.1 hx).1
    obtain ⟨_, _, _, t4, t5⟩ := g3.2 i en0[i] x (Array.getElem?_eq_getElem hlt) hx
    obtain ⟨u1, u2, u3⟩ := mem_pairsScp _ hsc'.1 x (List.mem_of_getElem? hx)
    exact ⟨by rw [s1, SV.scoped_den he _ u1], by rw [s2, SV.scoped_den he _ u2], by rw [s3, E.scoped_I he u3], t4, t5⟩

theorem RepW.drew {B : Base} {ρ : Env} {st : St} {w : World} (h : RepW B ρ st w) : RepW B ρ st { w with drawn := w.drawn + 1 } := by
  refine ⟨h.nv, h.nb, h.pc, ?_, h.inj, h.fz, h.os, h.tape, h.output⟩
  intro i b hb
  obtain ⟨k1, k2, k3⟩ := h.blk i b hb
  refine ⟨k1, ?_, k3⟩
  cases ho : b.obj with
  | gone => trivial
  | cells cs tot elem =>
    rw [ho] at k2
    exact k2
  | flat ks l n tot elem =>
    rw [ho] at k2
    exact k2
  | map es clk =>
    rw [ho] at k2
    exact k2
end Go.SX

namespace Go.SX

/-! ### What needs no memory may be taken first -/
section
variable {P : Program} {ops : Array Oper}

/-- In state 'a', in whatever world, the operation leaves 'v' and the world. -/
def YieldsP (P : Program) (ops : Array Oper) (o : Oper) (v : Value) (a : Act) : Prop :=
  (Region.wanted o (yielded ops a.tmps) = true ∧ ∀ w, (execOp a.eval o).run P w = .ok (.value v) w) ∨ (Region.wanted o (yielded ops a.tmps) = false ∧ v = undef)

theorem YieldsP.of_same {o : Oper} {v : Value} {a a' : Act} (hy : YieldsP P ops o v a) (he : execOp a'.eval o = execOp a.eval o)
    (hw : Region.wanted o (yielded ops a'.tmps) = Region.wanted o (yielded ops a.tmps)) : YieldsP P ops o v a' := by
  unfold YieldsP at *
  rw [he, hw]; exact hy

def onlyN (K : Act → World → Prop) : Exit → Act → World → Prop := fun e a w => match e with | .normal => K a w | _ => False

theorem YieldsP.wpOp {i : Nat} {o : Oper} {v : Value} {a : Act} {w : World} {K : Act → World → Prop} {Q : Exit → Act → World → Prop} (hi : ops[i]? = some o) (hy : YieldsP P ops o v a) (h : K (a.put o.dst v) w) : wpOp P ops Q i K a w := by
  unfold Go.wpOp
  simp only [hi]
  rcases hy with ⟨hw, hv⟩ | ⟨hw, rfl⟩
  · rw [if_pos hw]
    left
    unfold Oper.wp
    rw [hv w, Oper.upon_value]; exact h
  · rw [if_neg (by simp [hw])]; exact h

theorem wpOp_put {j : Nat} {oi oj : Oper} {v : Value} (hj : ops[j]? = some oj) (hap : oi.apart ops oj = true)
    (hsi : ∀ cs b, oi.op ≠ .select cs b) (hsj : ∀ cs b, oj.op ≠ .select cs b) {L : Act → World → Prop} {K : Act → World → Prop} {a : Act} {w : World}
    (hy : YieldsP P ops oi v a) (h : wpOp P ops (onlyN L) j K (a.put oi.dst v) w) :
    wpOp P ops (onlyN L) j (fun a' w' => YieldsP P ops oi v a' ∧ K (a'.put oi.dst v) w') a w := by
  obtain ⟨h1, h2, h3⟩ := Oper.apart_spec hap
  have keep : ∀ (a : Act), YieldsP P ops oi v a → ∀ u, YieldsP P ops oi v (a.put oj.dst u) := fun a hy u =>
    hy.of_same (execOp_put oi hsi a oj.dst u h3) (wanted_put oi a oj.dst u h3)
  unfold wpOp at *
  simp only [hj] at *
  rw [wanted_put oj a oi.dst v h1] at h
  split
  · rename_i hw
    rw [if_pos hw] at h
    rcases h with h | h
    · left
      unfold Oper.wp at *
      rw [execOp_put oj hsj a oi.dst v h1] at h
      generalize (execOp a.eval oj).run P w = r at *
      cases r with
      | ok n w' =>
        cases n <;> simp only [Oper.upon] at h ⊢
        case value u => exact ⟨keep a hy u, by rw [← Act.put_comm a v u h2]; exact h⟩
        case skip => exact ⟨keep a hy _, by rw [← Act.put_comm a v undef h2]; exact h⟩
        case defer d =>
          have e1 : ({ a.put oi.dst v with defers := d :: (a.put oi.dst v).defers } : Act) = ({ a with defers := d :: a.defers } : Act).put oi.dst v := by cases oi.dst <;> rfl
          rw [e1, Act.put_comm ({ a with defers := d :: a.defers } : Act) v undef h2] at h
          refine ⟨?_, h⟩
          have hb : YieldsP P ops oi v ({ a with defers := d :: a.defers } : Act) := hy.of_same (by congr 1) rfl
          exact keep _ hb _
        case enter f args =>
          refine h.mono ?_
          intro e w'' he
          cases e with
          | returned u => exact ⟨keep a hy u, by rw [← Act.put_comm a v u h2]; exact he⟩
          | panicked c => exact he
          | outgrown => exact he
        case row rw' args =>
          refine Rows.mono h ?_
          intro u w'' he
          exact ⟨keep a hy u, by rw [← Act.put_comm a v u h2]; exact he⟩
      | halt x w' => cases x <;> simp only [Oper.upon] at h ⊢ <;> exact h
    · obtain ⟨_, _, _, h'⟩ := h
      exact h'.elim
  · rename_i hw
    rw [if_neg hw] at h
    exact ⟨keep a hy _, by rw [← Act.put_comm a v undef h2]; exact h⟩

theorem wpAny_first {md : Region.Mode} {L : Act → World → Prop} {i : Nat} {oi : Oper} {v : Value} (hi : ops[i]? = some oi) (hsel : ∀ (j : Nat) (o : Oper) cs b, ops[j]? = some o → o.op ≠ .select cs b) :
    ∀ (fuel : Nat) (listed : Array Bool) (a : Act) (w : World),
      (∀ j oj, ops[j]? = some oj → j ≠ i → listed.getD j true = false → (∀ e ∈ oj.after, Region.binds md e = true → e.on ≠ i) → oi.apart ops oj = true) →
      i ∈ Region.ready md ops listed → YieldsP P ops oi v a →
      wpAny P md ops (onlyN L) fuel (listed.setIfInBounds i true) (a.put oi.dst v) w → wpAny P md ops (onlyN L) (fuel + 1) listed a w := by
  intro fuel
  induction fuel with
  | zero =>
    intro listed a w _ hr hy H
    refine ⟨fun h => (by rw [h] at hr; cases hr), fun j hj => ?_⟩
    by_cases hji : j = i
    · subst hji; exact hy.wpOp hi H
    · have := ready_mono hj hji
      rw [H.1] at this
      cases this
  | succ fuel ih =>
    intro listed a w hfree hr hy H
    refine ⟨fun h => (by rw [h] at hr; cases hr), fun j hj => ?_⟩
    by_cases hji : j = i
    · subst hji; exact hy.wpOp hi H
    · have h1 := H.2 j (ready_mono hj hji)
      obtain ⟨hjun, oj, hoj, hall⟩ := mem_ready.1 hj
      have hnot : ∀ e ∈ oj.after, Region.binds md e = true → e.on ≠ i := fun e he hb heq => by
        have h1 := hall e he hb
        have h0 := (mem_ready.1 hr).1
        rw [heq] at h1
        rcases Nat.lt_or_ge i listed.size with h' | h'
        · simp [h'] at h0 h1; rw [h0] at h1; cases h1
        · simp [Array.getElem?_eq_none h'] at h1
      have h2 := wpOp_put hoj (hfree j oj hoj hji hjun hnot) (fun cs b => hsel i oi cs b hi) (fun cs b => hsel j oj cs b hoj) hy h1
      have hfree' : ∀ k ok, ops[k]? = some ok → k ≠ i → (listed.setIfInBounds j true).getD k true = false →
          (∀ e ∈ ok.after, Region.binds md e = true → e.on ≠ i) → oi.apart ops ok = true := fun k ok hk hki hun hno => by
        refine hfree k ok hk hki ?_ hno
        by_cases hjk : j = k
        · subst hjk; exact hjun
        · rw [getD_set_ne true hjk] at hun; exact hun
      refine wpOp_mono (fun a' w' h3 => ih (listed.setIfInBounds j true) a' w' hfree' (ready_mono hr (Ne.symm hji)) h3.1 ?_) h2
      rw [Array.setIfInBounds_comm _ _ hji]
      exact h3.2
end
end Go.SX

namespace Go.SX

/-! ### Other values for variables -/
def Sub.env (z : Sub) (ρ : Env) : Env := ⟨ρ.vs.take z.n0 ++ z.es.map (E.den ρ), ρ.bs.take z.b0 ++ z.bs.map (fun b => ρ.bs.getD b ⟨0, 0, false⟩), ρ.fz⟩

section
variable {z : Sub} {ρ : Env} (hn : z.n0 ≤ ρ.vs.length) (hb : z.b0 ≤ ρ.bs.length)
include hn
theorem subVar_den (i : Nat) (hi : i < z.n0 + z.es.length) : (subVar z.n0 z.es i).den ρ = (z.env ρ).vs.getD i (.int 0) := by
  unfold subVar
  have hl : (ρ.vs.take z.n0).length = z.n0 := by rw [List.length_take]; omega
  split
  · rename_i h
    rw [blt_iff] at h
    simp only [E.den, Sub.env, List.getD]
    rw [List.getElem?_append_left (by omega), List.getElem?_take_of_lt h]
  · rename_i h
    have hge : z.n0 ≤ i := by
      rcases Nat.lt_or_ge i z.n0 with h' | h'
      · rw [← blt_iff] at h'; rw [h'] at h; cases h
      · exact h'
    have hlt : i - z.n0 < z.es.length := by omega
    simp only [Sub.env, List.getD, Nat.sub_eq]
    rw [List.getElem?_append_right (by omega), hl, getI_eq, List.getElem?_map, List.getElem?_eq_getElem hlt]
    rfl
omit hn in
theorem subFn_den (f : Nat) (a : E) : (subFn f a).den ρ = fnDen f (a.den ρ) := by
  unfold subFn
  split
  · rw [mkLen_den]; rfl
  · split <;> rfl
  · split <;> rfl
  · rfl
omit hn in
theorem subNot_den (a : E) : (subNot a).den ρ = .bool (!(a.den ρ).toB) := by
  unfold subNot; split <;> rfl
omit hn in
theorem mkAr_den (o : BinOp) (k : IntKind) (a b : E) : (mkAr o k a b).den ρ = .int (arI o k (a.I ρ) (b.I ρ)) := by
  unfold mkAr; split <;> rfl
omit hn in
theorem mkCmp_den (o : BinOp) (a b : E) : (mkCmp o a b).den ρ = .bool (cmpI o (a.I ρ) (b.I ρ)) := by
  have h := mkCmp_B ρ o a b
  have hsh : ∃ x, (mkCmp o a b).den ρ = .bool x := by
    unfold mkCmp
    repeat' split
    all_goals exact ⟨_, rfl⟩
  obtain ⟨x, hx⟩ := hsh
  unfold E.B at h
  rw [hx] at h ⊢
  simp only [U.toB] at h
  rw [h]
omit hn in
theorem mkMn_den (a b : E) : (mkMn a b).den ρ = .int (minI (a.I ρ) (b.I ρ)) := by
  unfold mkMn; split <;> rfl
omit hn in
theorem mkMx_den (a b : E) : (mkMx a b).den ρ = .int (maxI (a.I ρ) (b.I ρ)) := by
  unfold mkMx; split <;> rfl
omit hn in
theorem mkWr_den (k : IntKind) (a : E) : (mkWr k a).den ρ = .int (k.wrap (a.I ρ)) := by
  unfold mkWr; split <;> rfl
omit hn in
theorem mkSeq_den (a b : E) : (mkSeq a b).den ρ = .bool (eqS (a.S ρ) (b.S ρ)) := by
  unfold mkSeq; split <;> rfl

theorem E.sub_den : ∀ (e : E), e.scp (z.n0 + z.es.length) = true → (e.sub z.n0 z.es).den ρ = e.den (z.env ρ) := by
  intro e
  have bin : ∀ {a b : E}, (Bool.rec false (b.scp (z.n0 + z.es.length)) (a.scp (z.n0 + z.es.length)) : Bool) = true → a.scp (z.n0 + z.es.length) = true ∧ b.scp (z.n0 + z.es.length) = true := by
    intro a b h
    rwa [band, Bool.and_eq_true] at h
  induction e with
  | int n => intro _; rfl
  | bool b => intro _; rfl
  | str s => intro _; rfl
  | var i =>
    intro hs
    have hs' : Nat.blt i (z.n0 + z.es.length) = true := hs
    rw [blt_iff] at hs'
    exact subVar_den hn i hs'
  | ar o k a b ia ib => intro hs; obtain ⟨h1, h2⟩ := bin hs; simp only [E.sub, mkAr_den, E.I, E.den, ia h1, ib h2]
  | cmp o a b ia ib => intro hs; obtain ⟨h1, h2⟩ := bin hs; simp only [E.sub, mkCmp_den, E.I, E.den, ia h1, ib h2]
  | mn a b ia ib => intro hs; obtain ⟨h1, h2⟩ := bin hs; simp only [E.sub, mkMn_den, E.I, E.den, ia h1, ib h2]
  | mx a b ia ib => intro hs; obtain ⟨h1, h2⟩ := bin hs; simp only [E.sub, mkMx_den, E.I, E.den, ia h1, ib h2]
  | wr k a ia => intro hs; have h1 : a.scp _ = true := hs; simp only [E.sub, mkWr_den, E.I, E.den, ia h1]
  | not a ia => intro hs; have h1 : a.scp _ = true := hs; simp only [E.sub, subNot_den, E.den, ia h1]
  | and a b ia ib => intro hs; obtain ⟨h1, h2⟩ := bin hs; simp only [E.sub, E.den, ia h1, ib h2]
  | seq a b ia ib => intro hs; obtain ⟨h1, h2⟩ := bin hs; simp only [E.sub, mkSeq_den, E.S, E.den, ia h1, ib h2]
  | iff a b ia ib => intro hs; obtain ⟨h1, h2⟩ := bin hs; simp only [E.sub, E.den, ia h1, ib h2]
  | imp a b ia ib => intro hs; obtain ⟨h1, h2⟩ := bin hs; simp only [E.sub, E.den, ia h1, ib h2]
  | fn f a ia => intro hs; have h1 : a.scp _ = true := hs; simp only [E.sub, subFn_den, E.den, ia h1]
  | pr a b ia ib => intro hs; obtain ⟨h1, h2⟩ := bin hs; simp only [E.sub, E.den, ia h1, ib h2]

omit hn in
include hb in
theorem subBlk_env (i : Nat) (hi : i < z.b0 + z.bs.length) : (z.env ρ).bs.getD i ⟨0, 0, false⟩ = ρ.bs.getD (subBlk z.b0 z.bs i) ⟨0, 0, false⟩ := by
  unfold subBlk
  have hl : (ρ.bs.take z.b0).length = z.b0 := by rw [List.length_take]; omega
  split
  · rename_i h
    rw [blt_iff] at h
    simp only [Sub.env, List.getD]
    rw [List.getElem?_append_left (by omega), List.getElem?_take_of_lt h]
  · rename_i h
    have hge : z.b0 ≤ i := by
      rcases Nat.lt_or_ge i z.b0 with h' | h'
      · rw [← blt_iff] at h'; rw [h'] at h; cases h
      · exact h'
    have hlt : i - z.b0 < z.bs.length := by omega
    simp only [Sub.env, Nat.sub_eq, List.getD]
    rw [List.getElem?_append_right (by omega), hl, getI_eq, List.getElem?_map, List.getElem?_eq_getElem hlt]
    rfl

include hb
omit hn in
theorem env_blk (i : Nat) (hi : i < z.b0 + z.bs.length) : (z.env ρ).blk i = ρ.blk (subBlk z.b0 z.bs i) := by unfold Env.blk; rw [subBlk_env hb i hi]
omit hn in
theorem env_off (i : Nat) (hi : i < z.b0 + z.bs.length) : (z.env ρ).off i = ρ.off (subBlk z.b0 z.bs i) := by unfold Env.off; rw [subBlk_env hb i hi]

omit hn in
theorem env_nil (i : Nat) (hi : i < z.b0 + z.bs.length) : (z.env ρ).nil i = ρ.nil (subBlk z.b0 z.bs i) := by unfold Env.nil; rw [subBlk_env hb i hi]
omit hn in
theorem env_base (i : Nat) (hi : i < z.b0 + z.bs.length) : (z.env ρ).base i = ρ.base (subBlk z.b0 z.bs i) := by
  unfold Env.base; rw [env_nil hb i hi, env_blk hb i hi, env_off hb i hi]

omit hb in
theorem E.sub_I {e : E} (h : e.scp (z.n0 + z.es.length) = true) : (e.sub z.n0 z.es).I ρ = e.I (z.env ρ) := by unfold E.I; rw [E.sub_den hn e h]
omit hb in
theorem E.sub_B {e : E} (h : e.scp (z.n0 + z.es.length) = true) : (e.sub z.n0 z.es).B ρ = e.B (z.env ρ) := by unfold E.B; rw [E.sub_den hn e h]
omit hb in
theorem E.sub_S {e : E} (h : e.scp (z.n0 + z.es.length) = true) : (e.sub z.n0 z.es).S ρ = e.S (z.env ρ) := by unfold E.S; rw [E.sub_den hn e h]
omit hb in
theorem E.sub_L {e : E} (h : e.scp (z.n0 + z.es.length) = true) : (e.sub z.n0 z.es).L ρ = e.L (z.env ρ) := by unfold E.L; rw [E.sub_den hn e h]
omit hb in
theorem Off.sub_den {o : Off} (h : o.idx.scp (z.n0 + z.es.length) = true) : (o.sub z.n0 z.es).den ρ = o.den (z.env ρ) := by
  simp only [Off.sub, Off.den, E.sub_I hn h]

mutual
theorem SV.sub_den : ∀ (v : SV), v.scp (z.n0 + z.es.length) (z.b0 + z.bs.length) = true → (v.sub z).den ρ = v.den (z.env ρ)
  | .int k e, hs => by have hs' : e.scp _ = true := hs; simp [SV.sub, SV.den, E.sub_I hn hs']
  | .bool e, hs => by have hs' : e.scp _ = true := hs; simp [SV.sub, SV.den, E.sub_B hn hs']
  | .str e, hs => by have hs' : e.scp _ = true := hs; simp [SV.sub, SV.den, E.sub_S hn hs']
  | .nilp, _ => rfl
  | .nils, _ => rfl
  | .nilm, _ => rfl
  | .nili, _ => rfl
  | .nilf, _ => rfl
  | .junk, _ => rfl
  | .ptr b o, hs => by
    have hs' : (Bool.rec false (o.idx.scp (z.n0 + z.es.length)) (Nat.blt b (z.b0 + z.bs.length)) : Bool) = true := hs
    rw [band, Bool.and_eq_true, blt_iff] at hs'
    simp [SV.sub, SV.den, env_blk hb _ hs'.1, env_off hb _ hs'.1, Off.sub_den hn hs'.2]
  | .slice b o l c, hs => by
    have hs' : (Bool.rec false (Bool.rec false (Bool.rec false (c.scp (z.n0 + z.es.length)) (l.scp (z.n0 + z.es.length)) : Bool) (o.idx.scp (z.n0 + z.es.length)) : Bool) (Nat.blt b (z.b0 + z.bs.length)) : Bool) = true := hs
    rw [band, band, band, Bool.and_eq_true, Bool.and_eq_true, Bool.and_eq_true, blt_iff] at hs'
    simp [SV.sub, SV.den, env_blk hb _ hs'.1, env_off hb _ hs'.1, Off.sub_den hn hs'.2.1, E.sub_I hn hs'.2.2.1, E.sub_I hn hs'.2.2.2]
  | .nslice b l c, hs => by
    have hs' : (Bool.rec false (Bool.rec false (c.scp (z.n0 + z.es.length)) (l.scp (z.n0 + z.es.length)) : Bool) (Nat.blt b (z.b0 + z.bs.length)) : Bool) = true := hs
    rw [band, band, Bool.and_eq_true, Bool.and_eq_true, blt_iff] at hs'
    simp [SV.sub, SV.den, env_base hb _ hs'.1, E.sub_I hn hs'.2.1, E.sub_I hn hs'.2.2]
  | .bsl ks e, hs => by
    have hs' : e.scp (z.n0 + z.es.length) = true := hs
    simp [SV.sub, SV.den, E.sub_den hn e hs']
  | .bptr ks e i j, hs => by
    have hs' : (Bool.rec false (i.scp (z.n0 + z.es.length)) (e.scp (z.n0 + z.es.length)) : Bool) = true := hs
    rw [band, Bool.and_eq_true] at hs'
    simp [SV.sub, SV.den, E.sub_den hn e hs'.1, E.sub_I hn hs'.2]
  | .map b, hs => by
    have hs' : Nat.blt b (z.b0 + z.bs.length) = true := hs
    rw [blt_iff] at hs'
    simp [SV.sub, SV.den, env_blk hb _ hs']
  | .func fn a b, hs => by
    rw [SV.scoped_func, Bool.and_eq_true] at hs
    simp [SV.sub, SV.den, SV.subs_den a hs.1, SV.subs_den b hs.2]
  | .agg cs, hs => by
    rw [SV.scoped_agg] at hs
    simp [SV.sub, SV.den, SV.subs_den cs hs]
  | .tup cs, hs => by
    rw [SV.scoped_tup] at hs
    simp [SV.sub, SV.den, SV.subs_den cs hs]
theorem SV.subs_den : ∀ (l : List SV), SV.scps (z.n0 + z.es.length) (z.b0 + z.bs.length) l = true → SV.dens ρ (SV.subs z l) = SV.dens (z.env ρ) l
  | [], _ => rfl
  | v :: l, hs => by
    rw [SV.scopeds_cons, Bool.and_eq_true] at hs
    simp [SV.subs, SV.dens, SV.sub_den v hs.1, SV.subs_den l hs.2]
end
mutual
theorem SV.sub_ok : ∀ (v : SV), v.scp (z.n0 + z.es.length) (z.b0 + z.bs.length) = true → ((v.sub z).ok ρ ↔ v.ok (z.env ρ))
  | .int k e, _ => by simp [SV.sub, SV.ok]
  | .bool e, _ => by simp [SV.sub, SV.ok]
  | .str e, _ => by simp [SV.sub, SV.ok]
  | .nilp, _ => by simp [SV.sub, SV.ok]
  | .nils, _ => by simp [SV.sub, SV.ok]
  | .nilm, _ => by simp [SV.sub, SV.ok]
  | .nili, _ => by simp [SV.sub, SV.ok]
  | .nilf, _ => by simp [SV.sub, SV.ok]
  | .junk, _ => by simp [SV.sub, SV.ok]
  | .ptr b o, _ => by simp [SV.sub, SV.ok]
  | .slice b o l c, _ => by simp [SV.sub, SV.ok]
  | .nslice b l c, _ => by simp [SV.sub, SV.ok]
  | .map b, _ => by simp [SV.sub, SV.ok]
  | .bsl ks e, hs => by
    have hs' : e.scp (z.n0 + z.es.length) = true := hs
    simp only [SV.sub, SV.ok]
    rw [E.sub_den hn e hs']
    exact Iff.rfl
  | .bptr ks e i j, hs => by
    have hs' : (Bool.rec false (i.scp (z.n0 + z.es.length)) (e.scp (z.n0 + z.es.length)) : Bool) = true := hs
    rw [band, Bool.and_eq_true] at hs'
    simp only [SV.sub, SV.ok]
    rw [E.sub_den hn e hs'.1, E.sub_I hn hs'.2, E.sub_L hn hs'.1]
    exact Iff.rfl
  | .func fn a b, hs => by
    rw [SV.scoped_func, Bool.and_eq_true] at hs
    simp only [SV.sub, SV.ok]
    rw [SV.subs_ok a hs.1, SV.subs_ok b hs.2]
  | .agg cs, hs => by
    rw [SV.scoped_agg] at hs
    simp only [SV.sub, SV.ok]
    rw [SV.subs_ok cs hs]
  | .tup cs, hs => by
    rw [SV.scoped_tup] at hs
    simp only [SV.sub, SV.ok]
    rw [SV.subs_ok cs hs]
theorem SV.subs_ok : ∀ (l : List SV), SV.scps (z.n0 + z.es.length) (z.b0 + z.bs.length) l = true → (SV.oks ρ (SV.subs z l) ↔ SV.oks (z.env ρ) l)
  | [], _ => Iff.rfl
  | v :: l, hs => by
    rw [SV.scopeds_cons, Bool.and_eq_true] at hs
    simp only [SV.subs, SV.oks]
    rw [SV.sub_ok v hs.1, SV.subs_ok l hs.2]
end
omit hn hb in
theorem pairsSub_get (z : Sub) : ∀ (es : List Ent) (i : Nat), (pairsSub z es)[i]? = es[i]?.map (fun x => ⟨x.k.sub z, x.v.sub z, x.born.sub z.n0 z.es⟩)
  | [], i => by simp [pairsSub]
  | x :: es, 0 => by simp [pairsSub]
  | x :: es, i + 1 => by simp [pairsSub, pairsSub_get z es i]
omit hn hb in
theorem pairsSub_len (z : Sub) : ∀ (es : List Ent), (pairsSub z es).length = es.length
  | [] => rfl
  | x :: es => by simp [pairsSub, pairsSub_len z es]
theorem SObj.sub_real {o : SObj} (hs : o.scp (z.n0 + z.es.length) (z.b0 + z.bs.length) = true) : (o.sub z).real ρ ↔ o.real (z.env ρ) := by
  cases o with
  | flat ks l n tot elem =>
    simp only [SObj.scp, Bool.and_eq_true] at hs
    simp only [SObj.sub, SObj.real, E.sub_I hn hs.2.2]
  | _ => exact Iff.rfl
theorem SObj.sub_rep {w : World} {r off : Nat} {nil : Bool} {o : SObj} (hs : o.scp (z.n0 + z.es.length) (z.b0 + z.bs.length) = true) (h : blkRep ρ w r off nil (o.sub z)) : blkRep (z.env ρ) w r off nil o := by
  cases o with
  | gone => trivial
  | cells cs tot elem =>
    simp only [SObj.scp, Bool.and_eq_true] at hs
    obtain ⟨hnl, h0, hk, arr, h1, h2, h3⟩ := h
    rw [E.sub_I hn hs.1] at h2
    refine ⟨hnl, h0, (SV.subs_ok hn hb cs hs.2).1 hk, arr, h1, h2, fun j v hv => ?_⟩
    have hd := SV.subs_den (ρ := ρ) hn hb cs hs.2
    have hv' : (SV.dens (z.env ρ) cs)[j]? = some (v.den (z.env ρ)) := by rw [SV.dens_eq]; simp [hv]
    rw [← hd, SV.dens_eq] at hv'
    simp only [List.getElem?_map] at hv'
    cases hq : (SV.subs z cs)[j]? with
    | none => rw [hq] at hv'; cases hv'
    | some u =>
      rw [hq] at hv'
      simp only [Option.map_some, Option.some.injEq] at hv'
      rw [h3 j u hq, hv']
  | flat ks l n tot elem =>
    simp only [SObj.scp, Bool.and_eq_true] at hs
    obtain ⟨h1, h2, h3, h4, h5⟩ := h
    rw [E.sub_L hn hs.1, E.sub_I hn hs.2.1] at h2
    rw [E.sub_I hn hs.2.1, E.sub_I hn hs.2.2] at h3
    rw [E.sub_I hn hs.2.1] at h4
    rw [E.sub_I hn hs.2.2, E.sub_L hn hs.1] at h5
    exact ⟨h1, h2, h3, h4, h5⟩
  | map es clk =>
    simp only [SObj.scp, Bool.and_eq_true] at hs
    obtain ⟨en, clock, h1, h2, h3, h4, h5⟩ := h
    rw [E.sub_I hn hs.2] at h2
    refine ⟨en, clock, h1, h2, ⟨by rw [h3.1, pairsSub_len], fun i e x he hx => ?_⟩, h4, h5⟩
    obtain ⟨k1, k2, k3, k4, k5⟩ := h3.2 i e _ he (by rw [pairsSub_get, hx]; rfl)
    obtain ⟨s1, s2, s3⟩ := mem_pairsScp _ hs.1 x (List.mem_of_getElem? hx)
    exact ⟨by rw [k1, SV.sub_den hn hb _ s1], by rw [k2, SV.sub_den hn hb _ s2], by rw [k3, E.sub_I hn s3], (SV.sub_ok hn hb _ s1).1 k4, (SV.sub_ok hn hb _ s2).1 k5⟩
end

theorem SV.sub_junk {z : Sub} {v : SV} (h : v.sub z = .junk) : v = .junk := by cases v <;> simp [SV.sub] at h <;> rfl

theorem tmFits_get {z : Sub} : ∀ (p t : Tm), tmFits z p t = true → ∀ i, (p.get i = none → t.get i = none) ∧ ∀ v, p.get i = some v → ∃ u, t.get i = some u ∧ slotFits z v u = true
  | .nil, .nil, _, i => by simp [T.get_nil]
  | .nil, .node _ _ _, h, i => by simp [tmFits] at h
  | .node _ _ _, .nil, h, i => by simp [tmFits] at h
  | .node p l r, .node v l' r', h, i => by
    simp only [tmFits] at h
    split at h
    · rename_i h1
      split at h
      · rename_i h2
        cases i with
        | zero => simp [T.get_zero, h1]
        | succ i =>
          rw [T.get_succ, T.get_succ]
          split
          · exact tmFits_get l l' h2 _
          · exact tmFits_get r r' h _
      · cases h
    · cases h

theorem tmFits_ok {z : Sub} {ρ : Env} (hn : z.n0 ≤ ρ.vs.length) (hb : z.b0 ≤ ρ.bs.length) {p t : Tm} {a : Act} (hs : tmScoped (z.n0 + z.es.length) (z.b0 + z.bs.length) p = true) (h : tmFits z p t = true) (hT : TmRep ρ t a) : TmRep (z.env ρ) p a := by
  refine ⟨hT.1, fun i hi => hT.2.1 i ((tmFits_get p t h i).1 hi), fun i v hv => ?_⟩
  obtain ⟨u, hu, hfit⟩ := (tmFits_get p t h i).2 v hv
  obtain ⟨x, h1, h2⟩ := hT.2.2 i u hu
  refine ⟨x, h1, ?_⟩
  unfold slotFits at hfit
  split at hfit
  · exact .inl rfl
  · rename_i hj
    have he := SV.beq_eq _ _ hfit
    have hsc := T.all_get _ hs i v hv
    rcases h2 with h2 | h2
    · rw [h2] at he; exact .inl (SV.sub_junk he)
    · right
      rw [← he] at h2
      exact ⟨by rw [h2.1, SV.sub_den hn hb v hsc], (SV.sub_ok hn hb v hsc).1 h2.2⟩

theorem heapFits_get {z : Sub} {heap : T Blk} {nb : Nat} : ∀ (p : T Blk) (a d : Nat), heapFits z heap nb p a d = true → ∀ i b, p.get i = some b → blkFits z heap nb (a + d * i) b = true
  | .nil, a, d, _, i, b, hb => by rw [T.get_nil] at hb; cases hb
  | .node x l r, a, d, h, i, b, hb => by
    simp only [heapFits] at h
    split at h
    · rename_i h1
      split at h
      · rename_i h2
        cases i with
        | zero => rw [T.get_zero] at hb; cases hb; simpa using h1
        | succ i =>
          rw [T.get_succ] at hb
          split at hb
          · rename_i hm
            have := heapFits_get l _ _ h2 _ _ hb
            have e : Nat.add a d + Nat.add d d * (i / 2) = a + d * (i + 1) := by
              simp only [Nat.add_eq]
              have h3 : i = 2 * (i / 2) := by omega
              have h4 : (d + d) * (i / 2) = d * (2 * (i / 2)) := by rw [← Nat.two_mul, Nat.mul_comm 2 d, Nat.mul_assoc]
              have h5 : d * (i + 1) = d * (2 * (i / 2)) + d := by rw [← h3, Nat.mul_add]; simp
              rw [h4, h5]; omega
            rwa [e] at this
          · rename_i hm
            have := heapFits_get r _ _ h _ _ hb
            have e : Nat.add a (Nat.add d d) + Nat.add d d * (i / 2) = a + d * (i + 1) := by
              simp only [Nat.add_eq]
              have h3 : i = 2 * (i / 2) + 1 := by omega
              have h4 : (d + d) * (i / 2) = d * (2 * (i / 2)) := by rw [← Nat.two_mul, Nat.mul_comm 2 d, Nat.mul_assoc]
              have h5 : d * (i + 1) = d * (2 * (i / 2)) + d * 2 := by rw [← Nat.mul_add]; congr 1; omega
              rw [h4, h5]; omega
            rwa [e] at this
      · cases h
    · cases h

theorem liveAt_acc : ∀ (p : T Blk) (a d : Nat) (acc : List Nat) (x : Nat), x ∈ acc → x ∈ liveAt p a d acc
  | .nil, a, d, acc, x, h => h
  | .node b l r, a, d, acc, x, h => by
    unfold liveAt
    split
    · exact liveAt_acc r _ _ _ _ (liveAt_acc l _ _ _ _ h)
    · exact liveAt_acc r _ _ _ _ (liveAt_acc l _ _ _ _ (List.mem_cons_of_mem _ h))
theorem liveAt_get : ∀ (p : T Blk) (a d : Nat) (acc : List Nat) (i : Nat) (b : Blk), p.get i = some b → b.obj ≠ .gone → (a + d * i) ∈ liveAt p a d acc
  | .nil, a, d, acc, i, b, hb, _ => by rw [T.get_nil] at hb; cases hb
  | .node x l r, a, d, acc, i, b, hb, hl => by
    have key : ∀ acc, (a + d * i) ∈ liveAt r (Nat.add a (Nat.add d d)) (Nat.add d d) (liveAt l (Nat.add a d) (Nat.add d d) acc) ∨ i = 0 := by
      intro acc
      cases i with
      | zero => exact .inr rfl
      | succ i =>
        left
        rw [T.get_succ] at hb
        split at hb
        · rename_i hm
          have := liveAt_get l (Nat.add a d) (Nat.add d d) acc _ _ hb hl
          have e : Nat.add a d + Nat.add d d * (i / 2) = a + d * (i + 1) := by
            simp only [Nat.add_eq]
            have h3 : i = 2 * (i / 2) := by omega
            have h4 : (d + d) * (i / 2) = d * (2 * (i / 2)) := by rw [← Nat.two_mul, Nat.mul_comm 2 d, Nat.mul_assoc]
            have h5 : d * (i + 1) = d * (2 * (i / 2)) + d := by rw [← h3, Nat.mul_add]; simp
            rw [h4, h5]; omega
          rw [e] at this
          exact liveAt_acc r _ _ _ _ this
        · rename_i hm
          have := liveAt_get r (Nat.add a (Nat.add d d)) (Nat.add d d) (liveAt l (Nat.add a d) (Nat.add d d) acc) _ _ hb hl
          have e : Nat.add a (Nat.add d d) + Nat.add d d * (i / 2) = a + d * (i + 1) := by
            simp only [Nat.add_eq]
            have h4 : (d + d) * (i / 2) = d * (2 * (i / 2)) := by rw [← Nat.two_mul, Nat.mul_comm 2 d, Nat.mul_assoc]
            have h5 : d * (i + 1) = d * (2 * (i / 2)) + d * 2 := by rw [← Nat.mul_add]; congr 1; omega
            rw [h4, h5]; omega
          rwa [e] at this
    unfold liveAt
    split
    · rename_i hg
      rcases key acc with h | h
      · exact h
      · subst h
        rw [T.get_zero] at hb; cases hb
        exact absurd hg hl
    · rcases key (a :: acc) with h | h
      · exact h
      · subst h
        exact liveAt_acc r _ _ _ _ (liveAt_acc l _ _ _ _ (by simp))

theorem hasNat_ok {n : Nat} : ∀ (l : List Nat), hasNat n l = false → n ∉ l
  | [], _ => by simp
  | m :: ms, h => by
    simp only [hasNat] at h
    split at h
    · cases h
    · rename_i hb
      have h1 : n ≠ m := fun e => by rw [beq_of_eq e] at hb; cases hb
      simp [h1, hasNat_ok ms h]
theorem allDiff_ok {z : Sub} : ∀ (l : List Nat), allDiff (images z l) = true → ∀ i j, i ∈ l → j ∈ l → i ≠ j → subBlk z.b0 z.bs i ≠ subBlk z.b0 z.bs j
  | [], _, i, j, hi, _, _ => by cases hi
  | x :: xs, h, i, j, hi, hj, hij => by
    simp only [images, allDiff] at h
    split at h
    · cases h
    · rename_i hh
      have hno := hasNat_ok _ hh
      have hmem : ∀ y, y ∈ xs → subBlk z.b0 z.bs y ∈ images z xs := by
        intro y hy
        clear h hh hno hi hj
        induction xs with
        | nil => cases hy
        | cons u us ih =>
          simp only [images]
          cases hy with
          | head => simp
          | tail _ hm => exact List.mem_cons_of_mem _ (ih hm)
      cases hi with
      | head =>
        cases hj with
        | head => exact absurd rfl hij
        | tail _ hm => intro e; exact hno (e ▸ hmem j hm)
      | tail _ hm =>
        cases hj with
        | head => intro e; exact hno (e ▸ hmem i hm)
        | tail _ hm' => exact allDiff_ok xs h i j hm hm' hij

theorem pcLack_ok {fs pc : List E} {z z' : Sub} : ∀ (l : List E), pcLack fs z pc l = .ok z' → z' = z ∧ ∀ e ∈ l, knownE fs pc (e.sub z.n0 z.es) = some true
  | [], h => by simp [pcLack] at h; exact ⟨h.symm, by simp⟩
  | e :: es, h => by
    simp only [pcLack] at h
    split at h
    · rename_i hk
      obtain ⟨h1, h2⟩ := pcLack_ok es h
      exact ⟨h1, fun x hx => by cases hx with
        | head => exact hk
        | tail _ hm => exact h2 x hm⟩
    · cases h
theorem scpAll_ok {nv : Nat} : ∀ (l : List E), scpAll nv l = true → ∀ e ∈ l, e.scp nv = true
  | [], _, e, he => by cases he
  | x :: xs, h, e, he => by
    simp only [scpAll] at h
    split at h
    · rename_i hx
      cases he with
      | head => exact hx
      | tail _ hm => exact scpAll_ok xs h e hm
    · cases h

/-- **A state that fits is one of those that the template tells of.** -/
theorem fits_ok {fs : List E} (hf : ∀ x ∈ fs, ∀ ρ, x.B ρ = true) {n0 b0 : Nat} {t : Tm} {st : St} {τ : Tmpl} {z : Sub} (h : fits fs n0 b0 t st τ = .ok z) (hsc : τ.scp = true)
    {B : Base} {ρ ρ0 : Env} {w : World} {a : Act} (hr : RepW B ρ st w) (hT : TmRep ρ t a) (h0 : ρ0.Ext ρ) (hn0 : ρ0.vs.length = n0) (hb0 : ρ0.bs.length = b0) :
    z.n0 = n0 ∧ z.es.length + n0 = τ.st.nv ∧ ρ0.Ext (z.env ρ) ∧ RepW B (z.env ρ) τ.st w ∧ TmRep (z.env ρ) τ.tmps a := by
  unfold fits at h
  simp only at h
  generalize hz : guess n0 b0 t st τ = y at h
  have hy1 : y.n0 = n0 := by rw [← hz]; rfl
  have hy2 : y.b0 = b0 := by rw [← hz]; rfl
  split at h
  · rename_i hchk
    split at h
    · rename_i htm
      split at h
      · rename_i hheap
        split at h
        · rename_i hdiff
          obtain ⟨rfl, hpc⟩ := pcLack_ok _ h
          simp only [Bool.and_eq_true] at hchk
          obtain ⟨⟨c1, c2⟩, c3, c4⟩ := hchk
          have c1' : n0 + z.es.length = τ.st.nv := by have := Nat.eq_of_beq_eq_true c1; rw [lenI_eq] at this; exact this
          have c2' : b0 + z.bs.length = τ.st.nb := by have := Nat.eq_of_beq_eq_true c2; rw [lenI_eq] at this; exact this
          have hn : z.n0 ≤ ρ.vs.length := by
            obtain ⟨l, hl⟩ := h0.vs
            rw [hl, hy1, ← hn0]; simp
          have hb : z.b0 ≤ ρ.bs.length := by
            obtain ⟨l, hl⟩ := h0.bs
            rw [hl, hy2, ← hb0]; simp
          have e1 : z.n0 + z.es.length = τ.st.nv := by rw [hy1]; exact c1'
          have e2 : z.b0 + z.bs.length = τ.st.nb := by rw [hy2]; exact c2'
          simp only [Tmpl.scp, St.scp, Bool.and_eq_true] at hsc
          obtain ⟨⟨⟨s1, s2⟩, s3⟩, s4⟩ := hsc
          have hblk : ∀ i b, τ.st.heap.get i = some b → i < τ.st.nb ∧ (b.obj ≠ .gone → ∃ x, st.heap.get (subBlk z.b0 z.bs i) = some x ∧ b.own = x.own ∧ b.obj.sub z = x.obj) := by
            intro i b hib
            have := heapFits_get _ _ _ hheap i b hib
            rw [Nat.zero_add, Nat.one_mul] at this
            unfold blkFits at this
            split at this
            · rename_i hlt
              rw [blt_iff] at hlt
              refine ⟨hlt, fun hl => ?_⟩
              split at this
              · rename_i hg; exact absurd hg hl
              · split at this
                · rename_i x hx
                  rw [Bool.and_eq_true] at this
                  refine ⟨x, hx, boolB_eq this.1, ?_⟩
                  have h2 := this.2
                  unfold objFits at h2
                  split at h2
                  · rename_i hg; exact absurd hg hl
                  · exact SObj.beq_eq h2
                · cases this
            · cases this
          have hlive : ∀ {o : SObj}, o.real (z.env ρ) → o ≠ .gone := by intro o h e; subst e; cases h
          refine ⟨hy1, by omega, ?_, ?_, tmFits_ok hn hb (by rw [e1, e2]; exact s3) htm hT⟩
          · obtain ⟨l, hl⟩ := h0.vs
            obtain ⟨m, hm⟩ := h0.bs
            refine ⟨⟨z.es.map (E.den ρ), ?_⟩, ⟨z.bs.map fun b => ρ.bs.getD b ⟨0, 0, false⟩, ?_⟩, h0.fz⟩
            · simp only [Sub.env]
              congr 1
              rw [hl, hy1, ← hn0, List.take_left']
              rfl
            · simp only [Sub.env]
              congr 1
              rw [hm, hy2, ← hb0, List.take_left']
              rfl
          · refine ⟨?_, ?_, ?_, ?_, ?_, hr.fz, hr.os, hr.tape, hr.output⟩
            · simp only [Sub.env, List.length_append, List.length_take, List.length_map]; omega
            · simp only [Sub.env, List.length_append, List.length_take, List.length_map]; omega
            · intro e he
              have := knownE_ok hf hr.pc (hpc e he)
              rwa [E.sub_B hn (by rw [e1]; exact mem_pcScoped _ s1 e he)] at this
            · intro i b hib
              obtain ⟨h1, h2⟩ := hblk i b hib
              have hi : i < z.b0 + z.bs.length := by rw [e2]; exact h1
              refine ⟨h1, ?_, ?_⟩
              · by_cases hl : b.obj = .gone
                · rw [hl]; trivial
                · obtain ⟨x, hx, ho, he⟩ := h2 hl
                  have := (hr.blk _ x hx).2.1
                  rw [← he] at this
                  rw [env_blk hb i hi, env_off hb i hi, env_nil hb i hi]
                  exact SObj.sub_rep hn hb (by rw [e1, e2]; exact T.all_get _ s2 i b hib) this
              · intro hl
                obtain ⟨x, hx, ho, he⟩ := h2 (hlive hl)
                rw [env_blk hb i hi, ho]
                exact (hr.blk _ x hx).2.2 (by rw [← he]; exact (SObj.sub_real hn hb (by rw [e1, e2]; exact T.all_get _ s2 i b hib)).2 hl)
            · intro i j b c hb' hc' lb lc ob oc hij
              obtain ⟨h1, h2⟩ := hblk i b hb'
              obtain ⟨h3, h4⟩ := hblk j c hc'
              obtain ⟨x, hx, ho, he⟩ := h2 (hlive lb)
              obtain ⟨x', hx', ho', he'⟩ := h4 (hlive lc)
              rw [env_blk hb i (by rw [e2]; exact h1), env_blk hb j (by rw [e2]; exact h3)]
              have m1 := liveAt_get _ 0 1 [] i b hb' (hlive lb)
              have m2 := liveAt_get _ 0 1 [] j c hc' (hlive lc)
              rw [Nat.zero_add, Nat.one_mul] at m1 m2
              exact hr.apart hx hx' (by rw [← he]; exact (SObj.sub_real hn hb (by rw [e1, e2]; exact T.all_get _ s2 i b hb')).2 lb) (by rw [← he']; exact (SObj.sub_real hn hb (by rw [e1, e2]; exact T.all_get _ s2 j c hc')).2 lc) (.inl (by rw [← ho]; exact ob)) (allDiff_ok _ hdiff i j m1 m2 hij)
        · cases h
      · cases h
    · cases h
  · cases h
end Go.SX

namespace Go.SX

theorem least {p : Nat → Prop} (h : ∃ n, p n) : ∃ n, p n ∧ ∀ m, p m → n ≤ m := by
  obtain ⟨n, hn⟩ := h
  induction n using Nat.strongRecOn with
  | _ n ih =>
    by_cases hm : ∃ m, p m ∧ m < n
    · obtain ⟨m, h1, h2⟩ := hm
      exact ih m h2 h1
    · refine ⟨n, hn, fun m hm' => ?_⟩
      rcases Nat.lt_or_ge m n with hlt | hge
      · exact absurd ⟨m, hm', hlt⟩ hm
      · exact hge

theorem fitsAny_ok {fs : List E} {n0 b0 : Nat} {t : Tm} {st : St} {bound : Option E} {z : Sub} : ∀ (l : List Tmpl) (why : Option E), fitsAny fs n0 b0 t st bound l why = .ok z →
    ∃ τ ∈ l, fits fs n0 b0 t st τ = .ok z ∧ ∀ m, bound = some m → ltE fs st.pc (τ.less.sub z.n0 z.es) m = true ∧ nonneg fs st.pc (τ.less.sub z.n0 z.es) = true
  | [], why, h => by simp only [fitsAny] at h; split at h <;> cases h
  | τ :: τs, why, h => by
    simp only [fitsAny] at h
    split at h
    · rename_i y hy
      split at h
      · simp only [Fit.ok.injEq] at h; subst h
        exact ⟨τ, by simp, hy, fun m hm => by cases hm⟩
      · rename_i m
        split at h
        · rename_i h1
          split at h
          · rename_i h2
            simp only [Fit.ok.injEq] at h; subst h
            exact ⟨τ, by simp, hy, fun m' hm => by cases hm; exact ⟨h1, h2⟩⟩
          · cases h
        · cases h
    · obtain ⟨τ', h1, h2⟩ := fitsAny_ok τs _ h
      exact ⟨τ', List.mem_cons_of_mem _ h1, h2⟩
    · obtain ⟨τ', h1, h2⟩ := fitsAny_ok τs _ h
      exact ⟨τ', List.mem_cons_of_mem _ h1, h2⟩

theorem fitRes_ok {t : Tm} {st : St} {f : Fit} {r : Res} {os : List Out} (h : fitRes t st f r = some os) : (∃ z, f = .ok z) ∧ r = some os := by
  unfold fitRes at h
  split at h
  · exact ⟨⟨_, rfl⟩, h⟩
  · cases h

theorem tmplsScp_ok {n0 b0 : Nat} : ∀ (l : List Tmpl), tmplsScp n0 b0 l = true → ∀ τ ∈ l, n0 ≤ τ.st.nv ∧ b0 ≤ τ.st.nb ∧ τ.scp = true
  | [], _, τ, h => by cases h
  | x :: xs, h, τ, hm => by
    simp only [tmplsScp] at h
    split at h
    · rename_i h1
      simp only [Bool.and_eq_true, Nat.ble_eq] at h1
      cases hm with
      | head => exact ⟨h1.1.1, h1.1.2, h1.2⟩
      | tail _ hm => exact tmplsScp_ok xs h τ hm
    · cases h

theorem loopRuns_ok {tb : Tab} {rec : Runner} {g : FuncId} {b : Code} {n0 b0 : Nat} {ts : List Tmpl} {k : Out → Res} : ∀ (l : List Tmpl) (os : List Out), loopRuns tb rec g b n0 b0 ts k l = some os →
    ∀ τ ∈ l, ∃ os', (∀ x ∈ os', x ∈ os) ∧ rec (.code g b) τ.tmps τ.st (fun o => match o.ex with
      | .normal => fitRes o.tmps o.st (fitsAny tb.facts n0 b0 o.tmps o.st (some τ.less) ts none) (some [])
      | _ => k o) = some os'
  | [], os, _, τ, h => by cases h
  | x :: xs, os, h, τ, hm => by
    simp only [loopRuns] at h
    obtain ⟨l, m, h1, h2, h3, h4⟩ := join_some h
    cases hm with
    | head => exact ⟨l, h3, h1⟩
    | tail _ hm =>
      obtain ⟨os', h5, h6⟩ := loopRuns_ok xs m h2 τ hm
      exact ⟨os', fun x hx => h4 x (h5 x hx), h6⟩

section
variable {P : Program} {tb : Tab} (ht : TabOk P tb)
include ht
open Classical in
theorem stepLoop_ok {n : Nat} {rec : Runner} (hrec : RunOk P tb n rec) {g : FuncId} {b : Code} {t : Tm} {st : St} {k : Out → Res} {os : List Out} (h : stepLoop tb rec g b t st k = some os)
    {B : Base} {ρ : Env} {a : Act} {w : World} {Q : Exit → Act → World → Prop} (hr : RepW B ρ st w) (hT : TmRep ρ t a) (hK : CodeRes B ρ Q k os) : (Code.loop b).wp P Q a w := by
  unfold stepLoop at h
  split at h
  · exact wp_loop_rounds n (hrec.rounds _ _ _ _ _ _ h B ρ a w Q hr hT hK)
  · rename_i ts hts
    split at h
    · rename_i hscp
      obtain ⟨⟨z, hz⟩, hruns⟩ := fitRes_ok h
      let M : Act → World → Nat → Prop := fun a w m => ∃ τ ∈ ts, ∃ ρ', ρ.Ext ρ' ∧ RepW B ρ' τ.st w ∧ TmRep ρ' τ.tmps a ∧ m = (τ.less.I ρ').toNat
      let μ : Act → World → Nat := fun a w => if h : ∃ m, M a w m then Classical.choose (least h) else 0
      have hμ : ∀ {a w}, (∃ m, M a w m) → M a w (μ a w) ∧ ∀ m, M a w m → μ a w ≤ m := by
        intro a w hex
        have hs := Classical.choose_spec (least hex)
        have : μ a w = Classical.choose (least hex) := dif_pos hex
        rw [this]; exact hs
      have enter : ∀ {t' : Tm} {st' : St} {ρ' : Env} {a' : Act} {w' : World} {bound : Option E} {y : Sub}, fitsAny tb.facts st.nv st.nb t' st' bound ts none = .ok y → ρ.Ext ρ' → RepW B ρ' st' w' → TmRep ρ' t' a' →
          ∃ τ ∈ ts, ∃ ρ'', ρ.Ext ρ'' ∧ RepW B ρ'' τ.st w' ∧ TmRep ρ'' τ.tmps a' ∧ ∀ m, bound = some m → τ.less.I ρ'' < m.I ρ' ∧ 0 ≤ τ.less.I ρ'' := by
        intro t' st' ρ' a' w' bound y hy he hr' hT'
        obtain ⟨τ, hτ, hfit, hbd⟩ := fitsAny_ok _ _ hy
        obtain ⟨_, _, hsc⟩ := tmplsScp_ok _ hscp τ hτ
        obtain ⟨h1, h2, h3, h4, h5⟩ := fits_ok ht.facts hfit hsc hr' hT' he hr.nv hr.nb
        refine ⟨τ, hτ, _, h3, h4, h5, fun m hm => ?_⟩
        obtain ⟨k1, k2⟩ := hbd m hm
        have k1' := ltE_ok ht.facts hr'.pc k1
        have k2' := nonneg_ok ht.facts hr'.pc k2
        have hn : y.n0 ≤ ρ'.vs.length := by
          obtain ⟨l, hl⟩ := he.vs
          rw [h1, ← hr.nv, hl]; simp
        have hls : τ.less.scp (y.n0 + y.es.length) = true := by
          simp only [Tmpl.scp, Bool.and_eq_true] at hsc
          rw [h1, Nat.add_comm, h2]; exact hsc.2
        rw [E.sub_I hn hls] at k1' k2'
        exact ⟨k1', k2'⟩
      refine wp_loop (fun a w => ∃ m, M a w m) μ ?_ ?_
      · obtain ⟨τ, hτ, ρ'', h1, h2, h3, _⟩ := enter hz (Env.Ext.refl ρ) hr hT
        exact ⟨_, τ, hτ, ρ'', h1, h2, h3, rfl⟩
      · intro a1 w1 hI
        obtain ⟨⟨τ, hτ, ρ', h1, h2, h3, h4⟩, _⟩ := hμ hI
        obtain ⟨os', hsub, hrun⟩ := loopRuns_ok _ _ hruns τ hτ
        refine hrec.code _ _ _ _ _ _ hrun B ρ' a1 w1 _ h2 h3 ?_
        intro o ρ2 a2 w2 os2 k1 k2 k3 k4 k5
        dsimp only at k1
        cases hex : o.ex with
        | normal =>
          rw [hex] at k1
          obtain ⟨⟨y, hy⟩, _⟩ := fitRes_ok k1
          obtain ⟨τ2, hτ2, ρ3, j1, j2, j3, j4⟩ := enter hy (h1.trans k3) k4 k5
          obtain ⟨j5, j6⟩ := j4 _ rfl
          have hM : M a2 w2 (τ2.less.I ρ3).toNat := ⟨τ2, hτ2, ρ3, j1, j2, j3, rfl⟩
          refine ⟨⟨_, hM⟩, ?_⟩
          have hle := (hμ ⟨_, hM⟩).2 _ hM
          have hsc := (tmplsScp_ok _ hscp τ hτ).2.2
          have hls : τ.less.scp ρ'.vs.length = true := by
            simp only [Tmpl.scp, Bool.and_eq_true] at hsc
            rw [h2.nv]; exact hsc.2
          rw [E.scoped_I k3 hls] at j5
          omega
        | exit i =>
          rw [hex] at k1
          have := hK _ _ _ _ _ k1 (fun x hx => hsub x (k2 x hx)) (h1.trans k3) k4 k5
          rw [hex] at this; exact this
        | ret =>
          rw [hex] at k1
          have := hK _ _ _ _ _ k1 (fun x hx => hsub x (k2 x hx)) (h1.trans k3) k4 k5
          rw [hex] at this; exact this
    · cases h
end
end Go.SX

namespace Go.SX

def resFn (tmps : Array Value) : ResultVar → Sem Value
  | .tmp t => pure (tmps.getD t Go.undef)
  | .cell a t => do loadVar t (← asAddr (tmps.getD a Go.undef))

mutual
theorem SV.plain_ok {ρ : Env} : ∀ (v : SV), v.plain = true → v.ok ρ
  | .int _ _, _ => by simp [SV.ok]
  | .bool _, _ => by simp [SV.ok]
  | .str _, _ => by simp [SV.ok]
  | .nilp, _ => by simp [SV.ok]
  | .nils, _ => by simp [SV.ok]
  | .nilm, _ => by simp [SV.ok]
  | .nili, _ => by simp [SV.ok]
  | .nilf, _ => by simp [SV.ok]
  | .junk, _ => by simp [SV.ok]
  | .ptr _ _, _ => by simp [SV.ok]
  | .slice _ _ _ _, _ => by simp [SV.ok]
  | .nslice _ _ _, _ => by simp [SV.ok]
  | .map _, _ => by simp [SV.ok]
  | .bsl _ _, h => by simp [SV.plain] at h
  | .bptr _ _ _ _, h => by simp [SV.plain] at h
  | .func _ fi ca, h => by
    simp only [SV.plain, Bool.and_eq_true] at h
    simp only [SV.ok]
    exact ⟨SV.plains_ok fi h.1, SV.plains_ok ca h.2⟩
  | .agg cs, h => by simp only [SV.plain] at h; simp only [SV.ok]; exact SV.plains_ok cs h
  | .tup cs, h => by simp only [SV.plain] at h; simp only [SV.ok]; exact SV.plains_ok cs h
theorem SV.plains_ok {ρ : Env} : ∀ (l : List SV), SV.plains l = true → SV.oks ρ l
  | [], _ => by simp [SV.oks]
  | v :: l, h => by
    simp only [SV.plains, Bool.and_eq_true] at h
    exact ⟨SV.plain_ok v h.1, SV.plains_ok l h.2⟩
end

/-- what a function is known to do, without a walk through its code -/
def NatOk (P : Program) (x : Nat1) : Prop :=
  ∀ (args : List SV) (st : St) (l : List (SV × St)), x.eff args st = some l → ∀ (B : Base) (ρ : Env) (w : World) (R : Ending → World → Prop), RepW B ρ st w → SV.oks ρ args →
    (∀ y ∈ l, ∀ (ρ' : Env) (w' : World), ρ.Ext ρ' → RepW B ρ' y.2 w' → y.1.ok ρ' → R (.returned (y.1.den ρ')) w') → Calls P x.fn (SV.dens ρ args).toArray w R

section
variable {P : Program} {tb : Tab} (ht : TabOk P tb) (hnat : ∀ x ∈ tb.nats, NatOk P x) (hng : ∀ (f : Nat) (fn : Func), P.funcs[f]? = some fn → (fn.name == "runtime.NumGoroutine") = false)
include ht hnat hng

/-! ### Calls -/
omit hng hnat in
theorem resOf_ok {B : Base} {ρ : Env} {st : St} {w : World} (hr : RepW B ρ st w) {t : Tm} {a : Act} (hT : TmRep ρ t a) : ∀ (rs : List ResultVar) (vs : List SV), resOf tb st t rs = some vs →
    ((rs.mapM (resFn a.tmps) : Sem (List Value))).run P w = .ok (SV.dens ρ vs) w
  | [], vs, h => by simp [resOf] at h; subst h; simp [SV.dens]
  | .tmp i :: rs, vs, h => by
    simp only [resOf] at h
    split at h
    · rename_i l hl
      have ih := resOf_ok hr hT rs l hl
      have key : ∀ u : SV, a.tmps.getD i undef = u.den ρ → some (u :: l) = some vs → (((ResultVar.tmp i :: rs).mapM (resFn a.tmps) : Sem (List Value))).run P w = .ok (SV.dens ρ vs) w := by
        intro u hx h
        simp only [Option.some.injEq] at h; subst h
        simp only [List.mapM_cons, Sem.run_bind, resFn, Sem.run_pure, Result.andThen_ok, ih, hx, SV.dens]
      split at h
      · rename_i u hu
        split at h
        · cases h
        · rename_i hj
          refine key u ?_ h
          rw [Array.getD_eq_getD_getElem?, hT.at hu hj]
          rfl
      · rename_i hu
        refine key SV.undef ?_ h
        rw [Array.getD_eq_getD_getElem?, hT.2.1 i hu]
        simp [SV.undef_den]
    · cases h
  | .cell x ty :: rs, vs, h => by
    simp only [resOf] at h
    split at h
    · rename_i y hy
      split at h
      · rename_i v l hv hl
        simp only [Option.some.injEq] at h; subst h
        have ih := resOf_ok hr hT rs l hl
        obtain ⟨ad, h1, h2⟩ := loadS_ok ht hr hv
        have hyj : y ≠ .junk := by rintro rfl; cases h1
        have hx : a.tmps.getD x undef = .pointer (some ad) := by
          rw [Array.getD_eq_getD_getElem?, hT.at hy hyj]
          simpa using h1
        have hc : (resFn a.tmps (.cell x ty)).run P w = .ok (v.den ρ) w := by
          simp only [resFn, Sem.run_bind, hx, asAddr, Sem.run_pure, Result.andThen_ok, h2]
        rw [List.mapM_cons, Sem.run_bind, hc, Result.andThen_ok, Sem.run_bind, ih]
        rfl
      · cases h
    · cases h
omit hng hnat in
theorem resOf_wf {B : Base} {ρ : Env} {st : St} {w : World} (hr : RepW B ρ st w) {t : Tm} {a : Act} (hT : TmRep ρ t a) : ∀ (rs : List ResultVar) (vs : List SV), resOf tb st t rs = some vs → SV.oks ρ vs
  | [], vs, h => by simp [resOf] at h; subst h; simp [SV.oks]
  | .tmp i :: rs, vs, h => by
    simp only [resOf] at h
    split at h
    · rename_i l hl
      have ih := resOf_wf hr hT rs l hl
      split at h
      · rename_i u hu
        split at h
        · cases h
        · simp only [Option.some.injEq] at h; subst h
          exact ⟨hT.ok hu, ih⟩
      · simp only [Option.some.injEq] at h; subst h
        exact ⟨undef_wf ρ, ih⟩
    · cases h
  | .cell x ty :: rs, vs, h => by
    simp only [resOf] at h
    split at h
    · rename_i y hy
      split at h
      · rename_i v l hv hl
        simp only [Option.some.injEq] at h; subst h
        exact ⟨loadS_wf ht hr hv, resOf_wf hr hT rs l hl⟩
      · cases h
    · cases h

omit hng hnat ht in
theorem tupOf_ok {vs : List SV} {ρ : Env} (h : SV.oks ρ vs) : (tupOf vs).ok ρ := by
  cases vs with
  | nil => simp [tupOf, SV.ok, SV.oks]
  | cons v vs =>
    cases vs with
    | nil => exact h.1
    | cons u us => simpa [tupOf, SV.ok] using h
omit hng hnat ht in
theorem tupOf_den (vs : List SV) (ρ : Env) : (if h : (SV.dens ρ vs).toArray.size = 1 then (SV.dens ρ vs).toArray[0] else .tuple (SV.dens ρ vs).toArray) = (tupOf vs).den ρ := by
  cases vs with
  | nil => simp [SV.dens, tupOf, SV.den]
  | cons v vs =>
    cases vs with
    | nil => simp [SV.dens, tupOf]
    | cons u us => simp [SV.dens, tupOf, SV.den]

omit hng in
theorem stepCall_ok {n : Nat} {rec : Runner} (hrec : RunOk P tb n rec) {g : FuncId} {args : List SV} {st : St} {k : Out → Res} {os : List Out} (h : stepCall tb rec g args st k = some os)
    {B : Base} {ρ : Env} {w : World} (hr : RepW B ρ st w) {R : Ending → World → Prop} (hao : SV.oks ρ args) (hK : CallRes B ρ R k os) : Calls P g (SV.dens ρ args).toArray w R := by
  unfold stepCall at h
  split at h
  · rename_i l hl
    have hfind : ∀ (xs : List Nat1), findNat g args st xs = some l → ∃ x ∈ xs, x.fn = g ∧ x.eff args st = some l := by
      intro xs
      induction xs with
      | nil => intro h; cases h
      | cons x xs ih =>
        intro h
        simp only [findNat] at h
        split at h
        · rename_i hb
          split at h
          · rename_i l' hl'
            simp only [Option.some.injEq] at h; subst h
            exact ⟨x, by simp, Nat.eq_of_beq_eq_true hb, hl'⟩
          · obtain ⟨y, h1, h2⟩ := ih h; exact ⟨y, List.mem_cons_of_mem _ h1, h2⟩
        · obtain ⟨y, h1, h2⟩ := ih h; exact ⟨y, List.mem_cons_of_mem _ h1, h2⟩
    obtain ⟨x, hx, rfl, hxe⟩ := hfind _ hl
    refine hnat x hx args st l hxe B ρ w R hr hao ?_
    clear hl hxe hfind
    induction l generalizing os with
    | nil => intro y hy; cases hy
    | cons z l ih =>
      obtain ⟨v, st'⟩ := z
      simp only [natOuts] at h
      obtain ⟨l1, l2, h1, h2, h3, h4⟩ := join_some h
      intro y hy ρ' w' k1 k2 k3
      cases hy with
      | head => exact hK _ _ _ _ _ _ _ h1 h3 k1 k2 rfl k3
      | tail _ hm => exact ih (hK.sub h4) h2 y hm ρ' w' k1 k2 k3
  split at h
  · rename_i fn hfn
    split at h
    · rename_i c hc
      split at h
      · rename_i hle
        simp only [Bool.and_eq_true, Nat.ble_eq] at hle
        rw [T.putsK_eq] at h
        refine calls_of_wp (ht.fn _ _ hfn) hc ?_
        refine hrec.code _ _ _ _ _ _ h B ρ _ w _ hr ?_ ?_
        · have hslot : ∀ i, (((SV.dens ρ args).toArray ++ Array.replicate (fn.ntmps - (SV.dens ρ args).toArray.size) Go.undef))[i]? = ((((T.fill SV.undef 20 fn.ntmps).puts 0 args)).get i).map (SV.den ρ) := by
            intro i
            rw [T.get_puts, T.get_fill _ _ _ _ (by omega)]
            simp only [Nat.zero_add, Nat.sub_zero, Nat.zero_le, true_and]
            have hlen : (SV.dens ρ args).length = args.length := by simp [SV.dens_eq]
            by_cases h1 : i < args.length
            · rw [if_pos h1, if_pos (by omega)]
              rw [Array.getElem?_append_left (by simpa [hlen] using h1)]
              simp [SV.dens_eq]
            · rw [if_neg h1]
              rw [Array.getElem?_append_right (by simp [hlen]; omega)]
              simp only [List.size_toArray, hlen, Array.getElem?_replicate]
              by_cases h2 : i < fn.ntmps
              · rw [if_pos (by omega), if_pos h2]
                simp [SV.undef_den]
              · rw [if_neg (by omega), if_neg h2]; rfl
          refine ⟨rfl, fun i hi => ?_, fun i v hv => ?_⟩
          · have := hslot i
            rw [hi] at this
            exact this
          · have := hslot i
            rw [hv] at this
            refine ⟨_, this, .inr ⟨rfl, ?_⟩⟩
            rw [T.get_puts, T.get_fill _ _ _ _ (by omega)] at hv
            simp only [Nat.zero_add, Nat.sub_zero, Nat.zero_le, true_and] at hv
            by_cases h1 : i < args.length
            · rw [if_pos h1, if_pos (by omega)] at hv
              exact (SV.oks_iff _).1 hao v (List.mem_of_getElem? hv)
            · rw [if_neg h1] at hv
              split at hv
              · simp only [Option.some.injEq] at hv; subst hv; exact undef_wf ρ
              · cases hv
        · intro o ρ' a' w' os' h1 h2 h3 h4 h5
          dsimp only at h1
          have key : ∀ {vs : List SV}, resOf tb o.st o.tmps fn.results.toList = some vs → k ⟨.ret, .node (tupOf vs) .nil .nil, o.st⟩ = some os' →
              a'.defers = [] ∧ ∃ v, (results fn a'.tmps).run P w' = .ok v w' ∧ R (.returned v) w' := by
            intro vs hvs hk
            refine ⟨h5.1, (tupOf vs).den ρ', ?_, ?_⟩
            · have hm := resOf_ok ht h4 h5 _ _ hvs
              have e : results fn a'.tmps = (do let vs ← fn.results.mapM (resFn a'.tmps); pure (if h : vs.size = 1 then vs[0] else .tuple vs)) := by
                unfold results
                congr 1
              rw [e, Sem.run_bind, Array.mapM_eq_mapM_toList, Sem.run_map, hm]
              simp only [Result.andThen_ok, Sem.run_pure]
              rw [tupOf_den]
            · exact hK _ ρ' w' os' _ _ _ hk h2 h3 h4 rfl (tupOf_ok (resOf_wf ht h4 h5 _ _ hvs))
          cases hex : o.ex with
          | exit i => rw [hex] at h1; cases h1
          | normal =>
            rw [hex] at h1
            simp only at h1
            split at h1
            · rename_i vs hvs; exact key hvs h1
            · cases h1
          | ret =>
            rw [hex] at h1
            simp only at h1
            split at h1
            · rename_i vs hvs; exact key hvs h1
            · cases h1
      · cases h
    · cases h
  · cases h

/-! ### Code -/
theorem stepCode_ok {n : Nat} {rec : Runner} (hrec : RunOk P tb n rec) {g : FuncId} {c : Code} {t : Tm} {st : St} {k : Out → Res} {os : List Out} (h : stepCode P tb rec g c t st k = some os)
    {B : Base} {ρ : Env} {a : Act} {w : World} {Q : Exit → Act → World → Prop} (hr : RepW B ρ st w) (hT : TmRep ρ t a) (hK : CodeRes B ρ Q k os) : c.wp P Q a w := by
  unfold stepCode at h
  split at h
  · exact wp_skip (hK _ _ _ _ _ h (fun x hx => hx) (Env.Ext.refl ρ) hr hT)
  · exact wp_label (hK _ _ _ _ _ h (fun x hx => hx) (Env.Ext.refl ρ) hr hT)
  · exact wp_ret (hK _ _ _ _ _ h (fun x hx => hx) (Env.Ext.refl ρ) hr hT)
  · exact wp_exit (hK _ _ _ _ _ h (fun x hx => hx) (Env.Ext.refl ρ) hr hT)
  · -- seq
    refine wp_seq (hrec.code _ _ _ _ _ _ h B ρ a w _ hr hT ?_)
    intro o ρ' a' w' os' h1 h2 h3 h4 h5
    dsimp only at h1
    cases hex : o.ex with
    | normal =>
      rw [hex] at h1
      exact hrec.code _ _ _ _ _ _ h1 B ρ' a' w' Q h4 h5 ((hK.ext h3).sub h2)
    | exit i =>
      rw [hex] at h1
      have := hK _ _ _ _ _ h1 h2 h3 h4 h5
      rw [hex] at this; exact this
    | ret =>
      rw [hex] at h1
      have := hK _ _ _ _ _ h1 h2 h3 h4 h5
      rw [hex] at this; exact this
  · -- block
    rename_i id b
    refine wp_block (hrec.code _ _ _ _ _ _ h B ρ a w _ hr hT ?_)
    intro o ρ' a' w' os' h1 h2 h3 h4 h5
    dsimp only at h1
    cases hex : o.ex with
    | normal =>
      rw [hex] at h1
      have := hK _ _ _ _ _ h1 h2 h3 h4 h5
      rw [hex] at this; exact this
    | ret =>
      rw [hex] at h1
      have := hK _ _ _ _ _ h1 h2 h3 h4 h5
      rw [hex] at this; exact this
    | exit i =>
      rw [hex] at h1
      simp only at h1
      simp only [exOf, Exit.inBlock]
      split at h1
      · rename_i hi
        rw [if_pos (Nat.eq_of_beq_eq_true hi)]
        exact hK _ _ _ _ _ h1 h2 h3 h4 h5
      · rename_i hi
        have : i ≠ id := fun e => by rw [beq_of_eq e] at hi; cases hi
        rw [if_neg this]
        have := hK _ _ _ _ _ h1 h2 h3 h4 h5
        rw [hex] at this; exact this
  · -- loop
    exact stepLoop_ok ht hrec h hr hT hK
  · -- cond
    rename_i x c1 c2
    split at h
    · rename_i e he
      have hx : a.eval x = .bool (e.B ρ) := by rw [hT.eval _ _ he]; rfl
      split at h
      · rename_i hk
        have := knownE_ok ht.facts hr.pc hk
        exact wp_cond_true (by rw [hx, this]) (hrec.code _ _ _ _ _ _ h B ρ a w Q hr hT hK)
      · rename_i hk
        have := knownE_ok ht.facts hr.pc hk
        exact wp_cond_false (by rw [hx, this]) (hrec.code _ _ _ _ _ _ h B ρ a w Q hr hT hK)
      · obtain ⟨l, m, h1, h2, h3, h4⟩ := join_some h
        refine wp_cond_split hx (fun hb => ?_) (fun hb => ?_)
        · exact hrec.code _ _ _ _ _ _ h1 B ρ a w Q (hr.assume hb) hT (hK.sub h3)
        · exact hrec.code _ _ _ _ _ _ h2 B ρ a w Q (hr.assume (by simp [mkNot_B, hb])) hT (hK.sub h4)
    · cases h
  · -- region
    rename_i id ops d
    split at h
    · exact wp_region_list (stepOps_ok ht hng hrec ops.toList h hr hT (fun t st ρ' a' w' os' h1 h2 h3 h4 h5 => hK _ _ _ _ _ h1 h2 h3 h4 h5))
    · exact hrec.draw ops id t st k os h B ρ a w Q hr hT hK
  · cases h

omit ht hnat hng in
theorem stepRounds_ok {n : Nat} {rec : Runner} (hrec : RunOk P tb n rec) {g : FuncId} {c : Code} {t : Tm} {st : St} {k : Out → Res} {os : List Out} (h : stepRounds rec g c t st k = some os)
    {B : Base} {ρ : Env} {a : Act} {w : World} {Q : Exit → Act → World → Prop} (hr : RepW B ρ st w) (hT : TmRep ρ t a) (hK : CodeRes B ρ Q k os) : Code.rounds P c Q (n + 1) a w := by
  rw [rounds_succ]
  unfold stepRounds at h
  refine hrec.code _ _ _ _ _ _ h B ρ a w _ hr hT ?_
  intro o ρ' a' w' os' h1 h2 h3 h4 h5
  dsimp only at h1
  cases hex : o.ex with
  | normal =>
    rw [hex] at h1
    exact hrec.rounds _ _ _ _ _ _ h1 B ρ' a' w' Q h4 h5 ((hK.ext h3).sub h2)
  | exit i =>
    rw [hex] at h1
    have := hK _ _ _ _ _ h1 h2 h3 h4 h5
    rw [hex] at this; exact this
  | ret =>
    rw [hex] at h1
    have := hK _ _ _ _ _ h1 h2 h3 h4 h5
    rw [hex] at this; exact this

/-! ### Regions that draw their order, whose operations leave the memory as it is -/
theorem quietOp_ok {n : Nat} {rec : Runner} (hrec : RunOk P tb n rec) {o : Oper} {t : Tm} {st : St} {v : SV} (h : quietOp P tb rec o t st = .done v) {B : Base} {ρ : Env} {a : Act} (hT : TmRep ρ t a)
    (w : World) (hr : RepW B ρ st w) : o.quietAt P a (fun w' => RepW B ρ st w') w (v.den ρ) ∧ v.ok ρ := by
  unfold Oper.quietAt
  unfold quietOp at h
  split at h
  · rename_i v' hv
    simp only [QR.done.injEq] at h; subst h
    rw [pureOp_ok ht hT.eval hT.wf hv w]
    exact ⟨⟨rfl, rfl⟩, pureOp_wf hT.wf hv⟩
  · split at h
    · rename_i hro
      have hrd := readEff_ok ht hr hT o hro
      split at h
      · rename_i v' st' he
        rw [he] at hrd
        simp only [QR.done.injEq] at h; subst h
        rw [hrd.2.2]
        exact ⟨⟨rfl, rfl⟩, hrd.2.1⟩
      · cases h
      · cases h
    split at h
    · rename_i c hc
      split at h
      · rename_i g args hca
        obtain ⟨hcs, hco⟩ := callS_ok ht hng hT hc hca w
        rw [hcs]
        unfold quietCall at h
        split at h
        · rename_i os hos
          split at h
          · rename_i o'
            split at h
            · rename_i v' l r ho'
              split at h
              · rename_i hchk
                simp only [QR.done.injEq] at h; subst h
                simp only [Bool.and_eq_true] at hchk
                obtain ⟨hpl, hchk⟩ := hchk
                refine ⟨⟨rfl, ?_⟩, SV.plain_ok _ hpl⟩
                refine hrec.call _ _ _ _ _ _ hos B ρ w _ hr hco ?_
                intro o2 ρ' w' os' v2 l2 r2 h1 h2 h3 h4 h5 _
                simp only [Option.some.injEq] at h1
                have he : o2 = o' := by
                  have := h2 o2 (by rw [← h1]; simp)
                  simpa using this
                subst he
                rw [ho'] at h5
                simp only [T.node.injEq] at h5
                obtain ⟨rfl, _, _⟩ := h5
                have hsv : v'.scp ρ.vs.length ρ.bs.length = true := by rw [hr.nv, hr.nb]; exact hchk.1.1
                rw [SV.scoped_den h3 _ hsv]
                exact ⟨rfl, hr.back h4 h3 hchk.1.2 hchk.2⟩
              · cases h
            · cases h
          · cases h
        · cases h
      · cases h
    · cases h

theorem quietOps_ok {n : Nat} {rec : Runner} (hrec : RunOk P tb n rec) {ops : Array Oper} {st : St} {B : Base} {ρ : Env} {w0 : World} (hr0 : RepW B ρ st w0) : ∀ (l : List Oper) {t t' : Tm}, quietOps P tb rec ops.toList st l t = .done t' →
    ∀ {a : Act}, TmRep ρ t a → wpQuiet P ops (fun w' => RepW B ρ st w') (fun a' => TmRep ρ t' a') l a
  | [], t, t', h, a, hT => by
    simp only [quietOps, QE.done.injEq] at h; subst h; exact hT
  | o :: l, t, t', h, a, hT => by
    have hundef : ∀ {t' : Tm}, TmRep ρ t' a → TmRep ρ (match o.dst with | none => t' | some d => t'.set d SV.undef) (a.put o.dst undef) := by
      intro t' h'
      have h5 := h'.put o.dst SV.undef (undef_wf _)
      rw [SV.undef_den] at h5
      exact h5
    have hw := wantS_ok (ops := ops) hT o
    simp only [quietOps] at h
    unfold wpQuiet
    have hyes : ∀ {t2 : Tm} {v : SV}, TmRep ρ t2 a → quietOp P tb rec o t2 st = .done v → (putK t2 o.dst v fun tmps => quietOps P tb rec ops.toList st l tmps) = .done t' →
        o.quiet P a (fun w' => RepW B ρ st w') (wpQuiet P ops (fun w' => RepW B ρ st w') (fun a' => TmRep ρ t' a') l) := by
      intro t2 v hT2 hq hk
      rw [putK_eq] at hk
      exact ⟨v.den ρ, fun w hw => (quietOp_ok ht hnat hng hrec hq hT2 w hw).1, quietOps_ok hrec hr0 l hk (hT2.put _ _ (quietOp_ok ht hnat hng hrec hq hT2 _ hr0).2)⟩
    split at h
    · rename_i hq
      rw [hq] at hw
      rw [if_pos hw]
      split at h
      · rename_i v hv; exact hyes hT hv h
      · cases h
      · cases h
    · rename_i hq
      rw [hq] at hw
      rw [if_neg (by simp [hw])]
      rw [putK_eq] at h
      exact quietOps_ok hrec hr0 l h (hundef hT)
    · cases h
    · rename_i s e want hq
      rw [hq] at hw
      obtain ⟨hs, hw⟩ := hw
      split at h
      · rename_i b hb
        have hb' := knownE_ok ht.facts hr0.pc hb
        rw [T.setK_eq] at h
        have hT' := hT.relabel hs hb'
        split at h
        · rename_i hbw
          have := boolB_eq hbw; subst this
          rw [if_pos (by rw [hw, hb']; simp)]
          split at h
          · rename_i v hv; exact hyes hT' hv h
          · cases h
          · cases h
        · rename_i hbw
          have := boolB_ne hbw
          rw [if_neg (by rw [hw, hb']; simpa using this)]
          rw [putK_eq] at h
          exact quietOps_ok hrec hr0 l h (hundef hT')
      · cases h
end
end Go.SX

namespace Go.SX

section
variable {P : Program} {tb : Tab} (ht : TabOk P tb) (hng : ∀ (f : Nat) (fn : Func), P.funcs[f]? = some fn → (fn.name == "runtime.NumGoroutine") = false)

/-! ### The order of the text -/
theorem lexRest_ok (ops : Array Oper) {k : Nat} {x : Oper} : ∀ (l : List Oper), lexRest k (infoK ops.toList x) (infosOf ops.toList l) = true →
    ∀ (j : Nat) (y : Oper), l[j]? = some y → (∀ e ∈ y.after, Region.binds .any e = true → e.on ≠ k) → x.apart ops y = true
  | [], _, j, y, hy, _ => by simp at hy
  | m :: ms, h, j, y, hy, hno => by
    simp only [infosOf, lexRest] at h
    have hrest : lexRest k (infoK ops.toList x) (infosOf ops.toList ms) = true := by
      split at h
      · exact h
      · split at h
        · split at h
          · split at h
            · exact h
            · cases h
          · cases h
        · cases h
    cases j with
    | succ j => exact lexRest_ok ops ms hrest j y (by simpa using hy) hno
    | zero =>
      simp at hy; subst hy
      split at h
      · rename_i hb
        have hb' : (waitsOf m.after.toList).testBit k = true := hb
        obtain ⟨e, he, h1, h2⟩ := (waitsOf_bit _ _).1 hb'
        exact absurd h2 (hno e (by simpa using he) h1)
      · split at h
        · rename_i h1
          split at h
          · rename_i h2
            split at h
            · rename_i h3
              exact apart_of_masks h1 h2 h3
            · cases h
          · cases h
        · cases h

theorem getD_of_lt {l : Array Bool} {i : Nat} (h : i < l.size) : l.getD i true = l.getD i false := by
  simp [Array.getD, h]

/-- what the first k have come up -/
def Upto (n k : Nat) (listed : Array Bool) : Prop := listed.size = n ∧ ∀ j, listed.getD j false = decide (j < k ∧ j < n)

theorem Upto.next {n k : Nat} {listed : Array Bool} (h : Upto n k listed) (hk : k < n) : Upto n (k + 1) (listed.setIfInBounds k true) := by
  refine ⟨by simp [h.1], fun j => ?_⟩
  by_cases e : k = j
  · subst e
    simp [Array.getD, h.1, hk]
  · have h1 := h.2 j
    have : (listed.setIfInBounds k true).getD j false = listed.getD j false := by
      simp [Array.getD_eq_getD_getElem?, Array.getElem?_setIfInBounds_ne e]
    rw [this, h1]
    rw [decide_eq_decide]
    omega

theorem bits_lt {m k : Nat} (h : Nat.blt m (Nat.pow 2 k) = true) {j : Nat} (hj : m.testBit j = true) : j < k := by
  rw [blt_iff] at h
  rcases Nat.lt_or_ge j k with h1 | h1
  · exact h1
  · have h2 : m < 2 ^ j := Nat.lt_of_lt_of_le h (Nat.pow_le_pow_right (by omega) h1)
    rw [Nat.testBit_lt_two_pow h2] at hj
    cases hj

theorem quiet_lex {ops : Array Oper} {C : World → Prop} {Q : Act → Prop} (hs : noSel ops.toList = true) : ∀ (l : List Oper) (k : Nat) (listed : Array Bool) (a : Act),
    (∀ j, l[j]? = ops[k + j]?) → Upto ops.size k listed → lexAll (infosOf ops.toList l) k = true → wpQuiet P ops C Q l a → wpAnyQ P .any ops C Q l.length listed a
  | [], k, listed, a, hl, hu, hx, h => by
    refine ⟨?_, h⟩
    cases hr : Region.ready .any ops listed with
    | nil => rfl
    | cons j js =>
      exfalso
      have hj : j ∈ Region.ready .any ops listed := by rw [hr]; simp
      obtain ⟨h1, o, ho, _⟩ := mem_ready.1 hj
      have hlt : j < ops.size := (Array.getElem?_eq_some_iff.1 ho).1
      rw [getD_of_lt (by rw [hu.1]; exact hlt), hu.2 j] at h1
      have hk : k ≤ j := by
        have := of_decide_eq_false h1
        omega
      have := hl (j - k)
      rw [show k + (j - k) = j by omega, ho] at this
      simp at this
  | o :: l, k, listed, a, hl, hu, hx, h => by
    have h0 : ops[k]? = some o := by simpa using (hl 0).symm
    have hlt : k < ops.size := (Array.getElem?_eq_some_iff.1 h0).1
    simp only [infosOf, lexAll] at hx
    split at hx
    · rename_i hb
      split at hx
      · rename_i hrest
        have hready : k ∈ Region.ready .any ops listed := by
          refine mem_ready.2 ⟨?_, o, h0, fun e he hbd => ?_⟩
          · rw [getD_of_lt (by rw [hu.1]; exact hlt), hu.2 k]
            simp
          · have hbit : (waitsOf o.after.toList).testBit e.on = true := (waitsOf_bit _ _).2 ⟨e, by simpa using he, hbd, rfl⟩
            have := bits_lt hb hbit
            rw [hu.2 e.on]
            simp; omega
        have hfree : ∀ j oj, ops[j]? = some oj → j ≠ k → listed.getD j true = false → (∀ e ∈ oj.after, Region.binds .any e = true → e.on ≠ k) → o.apart ops oj = true := by
          intro j oj hj hjk hjl hno
          have hjlt : j < ops.size := (Array.getElem?_eq_some_iff.1 hj).1
          rw [getD_of_lt (by rw [hu.1]; exact hjlt), hu.2 j] at hjl
          have hkj : k < j := by
            have := of_decide_eq_false hjl
            omega
          have h2 := hl (j - k)
          rw [show k + (j - k) = j by omega, hj, show j - k = (j - k - 1) + 1 by omega, List.getElem?_cons_succ] at h2
          exact lexRest_ok ops l hrest _ _ h2 hno
        have hst : qOp P ops C k (wpQuiet P ops C Q l) a := by unfold qOp; simp only [h0]; exact h
        obtain ⟨v, hy, hK⟩ := yieldsIn_of_qOp h0 hst
        exact wpAnyQ_first h0 (noSel_ok' hs) l.length listed a hfree hready hy
          (quiet_lex hs l (k + 1) _ _ (fun j => by have := hl (j + 1); simpa [Nat.add_assoc, Nat.add_comm 1 j] using this) (hu.next hlt) hx hK)
      · cases hx
    · cases hx
where
  noSel_ok' {ops : Array Oper} (hs : noSel ops.toList = true) : ∀ (j : Nat) (o : Oper) cs b, ops[j]? = some o → o.op ≠ .select cs b :=
    fun j o cs b h => noSel_ok _ hs j o cs b (by simpa using h)

/-! ### Every order -/
def MaskOk (n : Nat) (m : Nat) (listed : Array Bool) : Prop := listed.size = n ∧ ∀ j, listed.getD j false = m.testBit j

theorem MaskOk.set {n m i : Nat} {listed : Array Bool} (h : MaskOk n m listed) (hi : i < n) : MaskOk n (Nat.lor (Nat.pow 2 i) m) (listed.setIfInBounds i true) := by
  refine ⟨by simp [h.1], fun j => ?_⟩
  rw [lor_bit, pow_bit]
  by_cases e : i = j
  · subst e; simp [Array.getD, h.1, hi]
  · have : (listed.setIfInBounds i true).getD j false = listed.getD j false := by
      simp [Array.getD_eq_getD_getElem?, Array.getElem?_setIfInBounds_ne e]
    rw [this, h.2 j]; simp [e]

theorem waits_ok {ops : Array Oper} {o : Oper} {m : Nat} {listed : Array Bool} (hm : MaskOk ops.size m listed) :
    Nat.beq (Nat.land (infoK ops.toList o).wait m) (infoK ops.toList o).wait = true ↔ ∀ e ∈ o.after, Region.binds .any e = true → listed.getD e.on false = true := by
  have hw : (infoK ops.toList o).wait = waitsOf o.after.toList := rfl
  constructor
  · intro h e he hb
    have hbit : (waitsOf o.after.toList).testBit e.on = true := (waitsOf_bit _ _).2 ⟨e, by simpa using he, hb, rfl⟩
    have h1 := land_bit (waitsOf o.after.toList) m e.on
    rw [← hw, Nat.eq_of_beq_eq_true h, hw, hbit] at h1
    rw [hm.2]; simpa using h1.symm
  · intro h
    refine beq_of_eq (Nat.eq_of_testBit_eq fun j => ?_)
    rw [land_bit, hw]
    cases hj : (waitsOf o.after.toList).testBit j with
    | false => simp
    | true =>
      obtain ⟨e, he, hb, rfl⟩ := (waitsOf_bit _ _).1 hj
      have := h e (by simpa using he) hb
      rw [hm.2] at this
      simp [this]

theorem readyFrom_ok {ops : Array Oper} {m : Nat} {listed : Array Bool} (hm : MaskOk ops.size m listed) : ∀ (l : List Oper) (k : Nat), (∀ j, l[j]? = ops[k + j]?) →
    ∀ i, k ≤ i → i ∈ Region.ready .any ops listed → ∃ o, ops[i]? = some o ∧ (i, o, infoK ops.toList o) ∈ readyFrom m l (infosOf ops.toList l) k
  | [], k, hl, i, hki, hi => by
    obtain ⟨_, o, ho, _⟩ := mem_ready.1 hi
    have := hl (i - k)
    rw [show k + (i - k) = i by omega, ho] at this
    simp at this
  | o :: l, k, hl, i, hki, hi => by
    have h0 : ops[k]? = some o := by simpa using (hl 0).symm
    have ih := readyFrom_ok hm l (k + 1) (fun j => by have := hl (j + 1); simpa [Nat.add_assoc, Nat.add_comm 1 j] using this) i
    simp only [infosOf, readyFrom]
    by_cases e : i = k
    · subst e
      obtain ⟨h1, o', ho', hall⟩ := mem_ready.1 hi
      rw [h0] at ho'; cases ho'
      have hlt : i < ops.size := (Array.getElem?_eq_some_iff.1 h0).1
      rw [getD_of_lt (by rw [hm.1]; exact hlt), hm.2] at h1
      have hw := (waits_ok (o := o) hm).2 hall
      rw [h1]
      simp only
      rw [hw]
      exact ⟨o, h0, by simp⟩
    · obtain ⟨o', h1, h2⟩ := ih (by omega) hi
      refine ⟨o', h1, ?_⟩
      split
      · exact h2
      · split
        · exact List.mem_cons_of_mem _ h2
        · exact h2

theorem freeFrom_ok {ops : Array Oper} {m i : Nat} {listed : Array Bool} {x : Oper} (hm : MaskOk ops.size m listed) : ∀ (l : List Oper) (k : Nat), (∀ j, l[j]? = ops[k + j]?) →
    freeFrom m i (infoK ops.toList x) (infosOf ops.toList l) k = true →
    ∀ j oj, k ≤ j → ops[j]? = some oj → j ≠ i → listed.getD j true = false → (∀ e ∈ oj.after, Region.binds .any e = true → e.on ≠ i) → x.apart ops oj = true
  | [], k, hl, _, j, oj, hkj, hj, _, _, _ => by
    have := hl (j - k)
    rw [show k + (j - k) = j by omega, hj] at this
    simp at this
  | o :: l, k, hl, h, j, oj, hkj, hj, hji, hjl, hno => by
    have h0 : ops[k]? = some o := by simpa using (hl 0).symm
    have hl' : ∀ j, l[j]? = ops[k + 1 + j]? := fun j => by have := hl (j + 1); simpa [Nat.add_assoc, Nat.add_comm 1 j] using this
    simp only [infosOf, freeFrom] at h
    have hrest : freeFrom m i (infoK ops.toList x) (infosOf ops.toList l) (k + 1) = true := by
      split at h
      · exact h
      · split at h
        · exact h
        · split at h
          · exact h
          · split at h
            · split at h
              · split at h
                · exact h
                · cases h
              · cases h
            · cases h
    by_cases e : j = k
    · subst e
      rw [h0] at hj; cases hj
      have hlt : j < ops.size := (Array.getElem?_eq_some_iff.1 h0).1
      rw [getD_of_lt (by rw [hm.1]; exact hlt), hm.2] at hjl
      rw [hjl] at h
      have hij : Nat.beq i j = false := by
        cases hb : Nat.beq i j with
        | false => rfl
        | true => exact absurd (Nat.eq_of_beq_eq_true hb).symm hji
      simp only [hij] at h
      split at h
      · rename_i hb
        have hb' : (waitsOf o.after.toList).testBit i = true := hb
        obtain ⟨e, he, h1, h2⟩ := (waitsOf_bit _ _).1 hb'
        exact absurd h2 (hno e (by simpa using he) h1)
      · split at h
        · rename_i h1
          split at h
          · rename_i h2
            split at h
            · rename_i h3
              exact apart_of_masks h1 h2 h3
            · cases h
          · cases h
        · cases h
    · exact freeFrom_ok hm l (k + 1) hl' hrest j oj (by omega) hj hji hjl hno

theorem forceK_eq {β : Type} (n : Nat) (k : Nat → β) : forceK n k = k n := by
  cases n <;> rfl
end
end Go.SX

namespace Go.SX

section
variable {P : Program} {tb : Tab} (ht : TabOk P tb) (hnat : ∀ x ∈ tb.nats, NatOk P x) (hng : ∀ (f : Nat) (fn : Func), P.funcs[f]? = some fn → (fn.name == "runtime.NumGoroutine") = false)

/-- whoever is through from there is through from here -/
def Passes (P : Program) (ops : Array Oper) (m n : Nat) (t : Tm) (m' n' : Nat) (t' : Tm) : Prop :=
  ∀ (L : Act → World → Prop) (ρ : Env) (a : Act) (lst : Array Bool) (w : World), TmRep ρ t a → MaskOk ops.size m lst →
    (∀ a' lst', TmRep ρ t' a' → MaskOk ops.size m' lst' → wpAny P .any ops (onlyN L) n' lst' a' w) → wpAny P .any ops (onlyN L) n lst a w

theorem Passes.refl (ops : Array Oper) (m n : Nat) (t : Tm) : Passes P ops m n t m n t := fun L ρ a lst w h1 h2 h3 => h3 a lst h1 h2
theorem Passes.trans {ops : Array Oper} {m n m' n' m'' n'' : Nat} {t t' t'' : Tm} (h : Passes P ops m n t m' n' t') (k : Passes P ops m' n' t' m'' n'' t'') : Passes P ops m n t m'' n'' t'' :=
  fun L ρ a lst w h1 h2 h3 => h L ρ a lst w h1 h2 fun a' lst' h4 h5 => k L ρ a' lst' w h4 h5 h3

theorem noSel_arr {ops : Array Oper} (hs : noSel ops.toList = true) : ∀ (j : Nat) (o : Oper) cs b, ops[j]? = some o → o.op ≠ .select cs b :=
  fun j o cs b h => noSel_ok _ hs j o cs b (by simpa using h)

theorem passes_one {ops : Array Oper} (hs : noSel ops.toList = true) {i m n : Nat} {o : Oper} {t : Tm} {v : SV} (hi : ops[i]? = some o) (hbit : m.testBit i = false)
    (hw : Nat.beq (Nat.land (infoK ops.toList o).wait m) (infoK ops.toList o).wait = true) (hf : freeFrom m i (infoK ops.toList o) (infosOf ops.toList ops.toList) 0 = true)
    (hy : ∀ (ρ : Env) (a : Act), TmRep ρ t a → YieldsP P ops o (v.den ρ) a) (hvk : ∀ (ρ : Env) (a : Act), TmRep ρ t a → v.ok ρ) :
    Passes P ops m (n + 1) t (Nat.lor (Nat.pow 2 i) m) n (match o.dst with | none => t | some d => t.set d v) := by
  intro L ρ a lst w h1 h2 h3
  have hlt : i < ops.size := (Array.getElem?_eq_some_iff.1 hi).1
  refine wpAny_first hi (noSel_arr hs) n lst a w (fun j oj => ?_) ?_ (hy ρ a h1) ?_
  · exact freeFrom_ok h2 ops.toList 0 (fun j => by simp) hf j oj (Nat.zero_le j)
  · refine mem_ready.2 ⟨?_, o, hi, (waits_ok h2).1 hw⟩
    rw [getD_of_lt (by rw [h2.1]; exact hlt), h2.2]; exact hbit
  · exact h3 _ _ (h1.put _ _ (hvk ρ a h1)) (h2.set hlt)

include ht in
theorem pureScan_ok {β : Type} {ops : Array Oper} (hs : noSel ops.toList = true) : ∀ (l : List Oper) (i m n : Nat) (t : Tm) (k : Nat → Nat → Tm → β), (∀ j, l[j]? = ops[i + j]?) →
    ∃ m' n' t', pureScan P tb ops.toList (infosOf ops.toList ops.toList) l (infosOf ops.toList l) i m n t k = k m' n' t' ∧ Passes P ops m n t m' n' t'
  | [], i, m, n, t, k, hl => ⟨m, n, t, by simp [infosOf, pureScan], Passes.refl _ _ _ _⟩
  | o :: l, i, m, n, t, k, hl => by
    have h0 : ops[i]? = some o := by simpa using (hl 0).symm
    have hl' : ∀ j, l[j]? = ops[i + 1 + j]? := fun j => by have := hl (j + 1); simpa [Nat.add_assoc, Nat.add_comm 1 j] using this
    have next := fun m n t => pureScan_ok hs l (i + 1) m n t k hl'
    simp only [infosOf, pureScan]
    split
    · exact next m n t
    · rename_i hbit
      split
      · rename_i hw
        cases n with
        | zero => exact ⟨m, 0, t, rfl, Passes.refl _ _ _ _⟩
        | succ n =>
          simp only
          split
          · rename_i hq
            split
            · rename_i v hv
              split
              · rename_i hf
                rw [putK_eq, forceK_eq]
                obtain ⟨m', n', t', h1, h2⟩ := next (Nat.lor (Nat.pow 2 i) m) n (match o.dst with | none => t | some d => t.set d v)
                refine ⟨m', n', t', h1, (passes_one hs h0 hbit hw hf ?_ (fun ρ a hT => pureOp_wf hT.wf hv)).trans h2⟩
                intro ρ a hT
                have hwant := wantS_ok (ops := ops) hT o
                rw [hq] at hwant
                exact .inl ⟨hwant, fun w => pureOp_ok ht hT.eval hT.wf hv w⟩
              · exact next m (n + 1) t
            · exact next m (n + 1) t
          · rename_i hq
            split
            · rename_i hf
              rw [putK_eq, forceK_eq]
              obtain ⟨m', n', t', h1, h2⟩ := next (Nat.lor (Nat.pow 2 i) m) n (match o.dst with | none => t | some d => t.set d SV.undef)
              refine ⟨m', n', t', h1, (passes_one hs h0 hbit hw hf ?_ (fun ρ _ _ => undef_wf ρ)).trans h2⟩
              intro ρ a hT
              have hwant := wantS_ok (ops := ops) hT o
              rw [hq] at hwant
              rw [SV.undef_den]
              exact .inr ⟨hwant, rfl⟩
            · exact next m (n + 1) t
          · exact next m (n + 1) t
      · exact next m n t

include ht in
theorem toNodes_ok {ops : Array Oper} (hs : noSel ops.toList = true) (m n : Nat) : ∀ (os : List Out) (acc : List Node),
    (∀ x ∈ acc, x ∈ toNodes P tb ops.toList (infosOf ops.toList ops.toList) m n os acc) ∧
    (∀ o ∈ os, ∃ x ∈ toNodes P tb ops.toList (infosOf ops.toList ops.toList) m n os acc, x.st = o.st ∧ Passes P ops m n o.tmps x.listed x.left x.tmps)
  | [], acc => ⟨fun x hx => hx, fun o ho => by cases ho⟩
  | o :: os, acc => by
    simp only [toNodes]
    obtain ⟨m', n', t', h1, h2⟩ := pureScan_ok (P := P) ht hs ops.toList 0 m n o.tmps (fun listed left tmps =>
      toNodes P tb ops.toList (infosOf ops.toList ops.toList) m n os (putNode acc ⟨listed, left, tmps, o.st⟩)) (fun j => by simp)
    rw [h1]
    have hmem : (⟨m', n', t', o.st⟩ : Node) ∈ putNode acc ⟨m', n', t', o.st⟩ ∧ ∀ x ∈ acc, x ∈ putNode acc ⟨m', n', t', o.st⟩ := by
      unfold putNode
      cases hh : hasNode acc ⟨m', n', t', o.st⟩ with
      | true => exact ⟨hasNode_ok _ _ hh, fun x hx => hx⟩
      | false => exact ⟨by simp, fun x hx => by simp [hx]⟩
    obtain ⟨i1, i2⟩ := toNodes_ok hs m n os (putNode acc ⟨m', n', t', o.st⟩)
    refine ⟨fun x hx => i1 x (hmem.2 x hx), fun o' ho' => ?_⟩
    cases ho' with
    | head => exact ⟨_, i1 _ hmem.1, rfl, h2⟩
    | tail _ hm => exact i2 o' hm

include ht in
theorem each_ok {rec : Runner} {ops : Array Oper} (hs : noSel ops.toList = true) {x : Node} {n : Nat} : ∀ (rs : List (Nat × Oper × Info)) (acc res : List Node),
    each P tb rec ops.toList (infosOf ops.toList ops.toList) x n rs acc = some res → (∀ y ∈ acc, y ∈ res) ∧
    (∀ i o inf, (i, o, inf) ∈ rs → ∃ os, stepOper P tb rec ops.toList o x.tmps x.st collect = some os ∧
      ∀ o' ∈ os, ∃ y ∈ res, y.st = o'.st ∧ Passes P ops (Nat.lor (Nat.pow 2 i) x.listed) n o'.tmps y.listed y.left y.tmps)
  | [], acc, res, h => by
    simp only [each, Option.some.injEq] at h; subst h
    exact ⟨fun y hy => hy, fun i o inf hm => by cases hm⟩
  | (i, o, inf) :: rs, acc, res, h => by
    simp only [each] at h
    split at h
    · rename_i os hos
      rw [forceK_eq] at h
      obtain ⟨h1, h2⟩ := each_ok hs rs _ res h
      obtain ⟨k1, k2⟩ := toNodes_ok (P := P) ht hs (Nat.lor (Nat.pow 2 i) x.listed) n os acc
      refine ⟨fun y hy => h1 y (k1 y hy), ?_⟩
      intro i' o' inf' hm
      cases hm with
      | head =>
        refine ⟨os, hos, fun o2 ho2 => ?_⟩
        obtain ⟨y, hy, e1, e2⟩ := k2 o2 ho2
        exact ⟨y, h1 y hy, e1, e2⟩
      | tail _ hm => exact h2 i' o' inf' hm
    · cases h

/-- what one step of a node has brought -/
def NodeDone (P : Program) (tb : Tab) (rec : Runner) (ops : Array Oper) (k : Cont) (next : List Node) (os : List Out) (x : Node) : Prop :=
  (readyFrom x.listed ops.toList (infosOf ops.toList ops.toList) 0 = [] ∧ ∃ os', k x.tmps x.st = some os' ∧ ∀ y ∈ os', y ∈ os) ∨
  (readyFrom x.listed ops.toList (infosOf ops.toList ops.toList) 0 ≠ [] ∧ ∃ n, x.left = n + 1 ∧
    ∀ i o inf, (i, o, inf) ∈ readyFrom x.listed ops.toList (infosOf ops.toList ops.toList) 0 → ∃ os, stepOper P tb rec ops.toList o x.tmps x.st collect = some os ∧
      ∀ o' ∈ os, ∃ y ∈ next, y.st = o'.st ∧ Passes P ops (Nat.lor (Nat.pow 2 i) x.listed) n o'.tmps y.listed y.left y.tmps)

include ht in
theorem stepNodes_ok {rec : Runner} {ops : Array Oper} (hs : noSel ops.toList = true) {k : Cont} : ∀ (l acc next : List Node) (os : List Out),
    stepNodes P tb rec ops.toList (infosOf ops.toList ops.toList) k l acc = some (next, os) → (∀ y ∈ acc, y ∈ next) ∧ ∀ x ∈ l, NodeDone P tb rec ops k next os x
  | [], acc, next, os, h => by
    simp only [stepNodes, Option.some.injEq, Prod.mk.injEq] at h
    obtain ⟨rfl, rfl⟩ := h
    exact ⟨fun y hy => hy, fun x hx => by cases hx⟩
  | x :: l, acc, next, os, h => by
    simp only [stepNodes] at h
    split at h
    · rename_i hr
      split at h
      · rename_i os1 hk
        split at h
        · rename_i acc' more hm
          simp only [Option.some.injEq, Prod.mk.injEq] at h
          obtain ⟨rfl, rfl⟩ := h
          obtain ⟨h1, h2⟩ := stepNodes_ok hs l acc _ _ hm
          refine ⟨h1, fun y hy => ?_⟩
          cases hy with
          | head => exact .inl ⟨hr, os1, hk, fun z hz => List.mem_append.2 (.inl hz)⟩
          | tail _ hy =>
            rcases h2 y hy with ⟨e1, os', e2, e3⟩ | h3
            · exact .inl ⟨e1, os', e2, fun z hz => List.mem_append.2 (.inr (e3 z hz))⟩
            · exact .inr h3
        · cases h
      · cases h
    · rename_i hr
      split at h
      · cases h
      · rename_i n hn
        split at h
        · rename_i acc' he
          obtain ⟨h1, h2⟩ := stepNodes_ok hs l acc' _ _ h
          obtain ⟨k1, k2⟩ := each_ok (P := P) ht hs _ _ _ he
          refine ⟨fun y hy => h1 y (k1 y hy), fun y hy => ?_⟩
          cases hy with
          | head =>
            refine .inr ⟨hr, n, hn, fun i o inf hm => ?_⟩
            obtain ⟨os', e1, e2⟩ := k2 i o inf hm
            refine ⟨os', e1, fun o' ho' => ?_⟩
            obtain ⟨z, hz, e3, e4⟩ := e2 o' ho'
            exact ⟨z, h1 z hz, e3, e4⟩
          | tail _ hy => exact h2 y hy
        · cases h

theorem readyFrom_conv {ops : Array Oper} {m : Nat} {listed : Array Bool} (hm : MaskOk ops.size m listed) : ∀ (l : List Oper) (k : Nat), (∀ j, l[j]? = ops[k + j]?) →
    ∀ i o inf, (i, o, inf) ∈ readyFrom m l (infosOf ops.toList l) k → i ∈ Region.ready .any ops listed
  | [], k, hl, i, o, inf, h => by simp [infosOf, readyFrom] at h
  | o :: l, k, hl, i, o', inf, h => by
    have h0 : ops[k]? = some o := by simpa using (hl 0).symm
    have ih := readyFrom_conv hm l (k + 1) (fun j => by have := hl (j + 1); simpa [Nat.add_assoc, Nat.add_comm 1 j] using this) i o' inf
    simp only [infosOf, readyFrom] at h
    split at h
    · exact ih h
    · rename_i hbit
      split at h
      · rename_i hw
        cases h with
        | head =>
          have hlt : k < ops.size := (Array.getElem?_eq_some_iff.1 h0).1
          refine mem_ready.2 ⟨?_, o, h0, (waits_ok hm).1 hw⟩
          rw [getD_of_lt (by rw [hm.1]; exact hlt), hm.2]; exact hbit
        | tail _ h => exact ih h
      · exact ih h

include ht hng in
theorem stepLayer_ok {n : Nat} {rec : Runner} (hrec : RunOk P tb n rec) {ops : Array Oper} (hs : noSel ops.toList = true) {l : List Node} {t : Tm} {st : St} {k : Out → Res} {os : List Out}
    (h : stepLayer P tb rec ops.toList (infosOf ops.toList ops.toList) l t st k = some os)
    {B : Base} {ρ : Env} {K : Act → World → Prop} (hK : ContRes B ρ K (fun t st => k ⟨.normal, t, st⟩) os) :
    ∀ x ∈ l, ∀ (ρ' : Env) (listed : Array Bool) (a : Act) (w : World), ρ.Ext ρ' → RepW B ρ' x.st w → TmRep ρ' x.tmps a → MaskOk ops.size x.listed listed → wpAny P .any ops (onlyN K) x.left listed a w := by
  unfold stepLayer at h
  split at h
  · rename_i next os1 hn
    obtain ⟨_, hnodes⟩ := stepNodes_ok (P := P) ht hs _ _ _ _ hn
    have hos1 : ∀ y ∈ os1, y ∈ os := by
      split at h
      · simp only [Option.some.injEq] at h; subst h; exact fun y hy => hy
      · split at h
        · simp only [Option.some.injEq] at h; subst h; exact fun y hy => List.mem_append.2 (.inl hy)
        · cases h
    have hnext : ∀ x ∈ next, ∀ (ρ' : Env) (listed : Array Bool) (a : Act) (w : World), ρ.Ext ρ' → RepW B ρ' x.st w → TmRep ρ' x.tmps a → MaskOk ops.size x.listed listed → wpAny P .any ops (onlyN K) x.left listed a w := by
      split at h
      · intro x hx; cases hx
      · split at h
        · rename_i more hm
          simp only [Option.some.injEq] at h
          intro x hx ρ' listed a w h1 h2 h3 h4
          exact hrec.layer ops hs _ _ _ _ _ hm B ρ K (hK.sub (fun y hy => by rw [← h]; exact List.mem_append.2 (.inr hy))) x hx ρ' listed a w h1 h2 h3 h4.1 h4.2
        · cases h
    intro x hx ρ' listed a w h1 h2 h3 h4
    rcases hnodes x hx with ⟨hr, os', hk, hsub⟩ | ⟨hr, m, hm, hall⟩
    · have hready : Region.ready .any ops listed = [] := by
        cases hrd : Region.ready .any ops listed with
        | nil => rfl
        | cons j js =>
          obtain ⟨o, _, ho⟩ := readyFrom_ok h4 ops.toList 0 (fun j => by simp) j (Nat.zero_le _) (by rw [hrd]; simp)
          rw [hr] at ho; cases ho
      have hq : onlyN K .normal a w := hK x.tmps x.st ρ' a w os' hk (fun y hy => hos1 y (hsub y hy)) h1 h2 h3
      cases x.left with
      | zero => exact ⟨hready, hq⟩
      | succ q => exact ⟨fun _ => hq, fun i hi => by rw [hready] at hi; cases hi⟩
    · rw [hm]
      refine ⟨fun h0 => ?_, fun i hi => ?_⟩
      · exfalso
        cases hrd : readyFrom x.listed ops.toList (infosOf ops.toList ops.toList) 0 with
        | nil => exact hr hrd
        | cons q qs =>
          obtain ⟨i, o, inf⟩ := q
          have := readyFrom_conv h4 ops.toList 0 (fun j => by simp) i o inf (by rw [hrd]; simp)
          rw [h0] at this; cases this
      · obtain ⟨o, ho, hmem⟩ := readyFrom_ok h4 ops.toList 0 (fun j => by simp) i (Nat.zero_le _) hi
        obtain ⟨os', hst, hres⟩ := hall i o _ hmem
        have hlt : i < ops.size := (Array.getElem?_eq_some_iff.1 ho).1
        have := stepOper_ok (P := P) ht hng hrec hst h2 h3 (K := fun a' w' => wpAny P .any ops (onlyN K) m (listed.setIfInBounds i true) a' w') (by
          intro t' st' ρ2 a2 w2 os2 e1 e2 e3 e4 e5
          simp only [collect, Option.some.injEq] at e1
          obtain ⟨y, hy, f1, f2⟩ := hres ⟨.normal, t', st'⟩ (e2 _ (by rw [← e1]; simp))
          refine f2 K ρ2 a2 _ w2 e5 (h4.set hlt) ?_
          intro a3 lst3 g1 g2
          exact hnext y hy ρ2 lst3 a3 w2 (h1.trans e3) (by rw [f1]; exact e4) g1 g2) (onlyN K)
        unfold wpOp
        simp only [ho]
        split
        · rename_i hw; rw [if_pos hw] at this; exact .inl this
        · rename_i hw; rw [if_neg hw] at this; exact this
  · cases h

include ht hnat hng in
theorem stepDraw_ok (hmix : P.follows .mixedOrders = true) {n : Nat} {rec : Runner} (hrec : RunOk P tb n rec) {ops : Array Oper} {t : Tm} {st : St} {k : Out → Res} {os : List Out}
    (h : stepDraw P tb rec ops.toList ops.size t st k = some os)
    {B : Base} {ρ : Env} {a : Act} {w : World} {Q : Exit → Act → World → Prop} (hr : RepW B ρ st w) (hT : TmRep ρ t a) (hK : CodeRes B ρ Q k os) (id : Nat) : (Code.region id ops true).wp P Q a w := by
  unfold stepDraw at h
  split at h
  · rename_i hs
    have hlayer : rec (.layer ops.toList (infosOf ops.toList ops.toList) (toNodes P tb ops.toList (infosOf ops.toList ops.toList) 0 ops.size [⟨.normal, t, st⟩] [])) t st k = some os →
        (Code.region id ops true).wp P Q a w := by
      intro hl
      have hq : (Code.region id ops true).wp P (onlyN (fun a w => Q .normal a w)) a w := by
        refine wp_region_any hmix ?_
        obtain ⟨_, h2⟩ := toNodes_ok (P := P) ht hs 0 ops.size [⟨.normal, t, st⟩] []
        obtain ⟨x, hx, e1, e2⟩ := h2 ⟨.normal, t, st⟩ (by simp)
        refine e2 (fun a w => Q .normal a w) ρ a (Array.replicate ops.size false) _ hT ⟨by simp, fun j => ?_⟩ ?_
        · simp [Array.getD_eq_getD_getElem?, Array.getElem?_replicate]
          split <;> simp
        · intro a' lst' g1 g2
          refine hrec.layer ops hs _ _ _ _ _ hl B ρ (fun a w => Q .normal a w) ?_ x hx ρ lst' a' _ (Env.Ext.refl ρ) (by rw [e1]; exact hr.drew) g1 g2.1 g2.2
          exact fun t st ρ' a' w' os' h1 h2 h3 h4 h5 => hK _ _ _ _ _ h1 h2 h3 h4 h5
      refine Go.wp_mono hq (fun e a w he => ?_)
      cases e <;> first | exact he | exact he.elim
    split at h
    · rename_i hlex
      split at h
      · rename_i t' hq
        refine wp_region_any hmix (wpAny_of_quiet (C := fun w' => RepW B ρ st w') (Q := fun a' => TmRep ρ t' a') ?_ _ _ _ _ hr.drew ?_)
        · intro a' w' hw' ha'
          exact hK _ _ _ _ _ h (fun x hx => hx) (Env.Ext.refl ρ) hw' ha'
        · have := quiet_lex (P := P) (C := fun w' => RepW B ρ st w') (Q := fun a' => TmRep ρ t' a') hs ops.toList 0 (Array.replicate ops.size false) a (fun j => by simp) ⟨by simp, fun j => by
            simp [Array.getD_eq_getD_getElem?, Array.getElem?_replicate]
            split <;> simp⟩ hlex (quietOps_ok ht hnat hng hrec hr ops.toList hq hT)
          simpa using this
      · rename_i e hq
        obtain ⟨l, m, h1, h2, h3, h4⟩ := join_some h
        by_cases hb : e.B ρ = true
        · exact hrec.draw ops id _ _ _ _ h1 B ρ a w Q (hr.assume hb) hT (hK.sub h3)
        · exact hrec.draw ops id _ _ _ _ h2 B ρ a w Q (hr.assume (by rw [mkNot_B]; simpa using hb)) hT (hK.sub h4)
      · exact hlayer h
    · exact hlayer h
  · cases h

include ht hnat hng in
theorem run_ok (hmix : P.follows .mixedOrders = true) : ∀ n, RunOk P tb n (run P tb n)
  | 0 => by
    constructor <;> (intros; rename_i h _ ; first | (exact absurd ‹run P tb 0 _ _ _ _ = some _› (by intro h; cases h)))
  | n + 1 => by
    have ih := run_ok hmix n
    constructor
    · intro g c t st k os h B ρ a w Q hr hT hK
      exact stepCode_ok ht hnat hng ih h hr hT hK
    · intro g c t st k os h B ρ a w Q hr hT hK
      exact stepRounds_ok ih h hr hT hK
    · intro g args t st k os h B ρ w R hr hao hK
      exact stepCall_ok ht hnat ih h hr hao hK
    · intro ops id t st k os h B ρ a w Q hr hT hK
      exact stepDraw_ok ht hnat hng hmix ih h hr hT hK id
    · intro ops hs l t st k os h B ρ K hK x hx ρ' listed a w h1 h2 h3 h4 h5
      exact stepLayer_ok ht hng ih hs h hK x hx ρ' listed a w h1 h2 h3 ⟨h4, h5⟩
end
end Go.SX

namespace Go.SX
noncomputable section

theorem addsT_ok {α : Type} (l : List α) (i : Nat) (x : α) (h : (T.adds (T.nil : T α) 0 l).get i = some x) : l[i]? = some x := by
  rcases T.get_adds l 0 T.nil i x h with ⟨_, h1⟩ | ⟨h1, _⟩ | ⟨h1, _⟩
  · simpa using h1
  · cases h1
  · cases h1

def theTab (P : Program) : Tab := ⟨T.adds T.nil 0 P.types.toList, T.adds T.nil 0 P.funcs.toList, [], [], []⟩
/-- with facts, with what is known at loops, and with functions that are known -/
def Tab.plus (tb : Tab) (facts : List E) (anns : List Ann) (nats : List Nat1) : Tab := ⟨tb.ty, tb.fn, facts, anns, nats⟩
theorem withTab_eq {β : Type} (P : Program) (k : Tab → β) : withTab P k = k (theTab P) := by
  unfold withTab
  rw [T.addsK_eq, T.addsK_eq]; rfl
theorem theTab_ok (P : Program) : TabOk P (theTab P) :=
  ⟨fun t i h => by have := addsT_ok _ _ _ h; simpa using this, fun f fn h => by have := addsT_ok _ _ _ h; simpa using this, fun e he => by cases he⟩
theorem TabOk.plus {P : Program} {tb : Tab} (h : TabOk P tb) {facts : List E} (hf : ∀ e ∈ facts, ∀ ρ, e.B ρ = true) (anns : List Ann) (nats : List Nat1) : TabOk P (tb.plus facts anns nats) :=
  ⟨h.ty, h.fn, hf⟩

/-- what the kernel is asked of a program, once -/
def progOk (P : Program) : Bool := P.funcs.toList.all (fun fn => !(fn.name == "runtime.NumGoroutine")) && P.follows .mixedOrders
theorem progOk_ng {P : Program} (h : progOk P = true) : ∀ (f : Nat) (fn : Func), P.funcs[f]? = some fn → (fn.name == "runtime.NumGoroutine") = false := by
  intro f fn hf
  unfold progOk at h
  rw [Bool.and_eq_true, List.all_eq_true] at h
  have := h.1 fn (List.mem_of_getElem? (by simpa using hf))
  simpa using this
theorem progOk_mix {P : Program} (h : progOk P = true) : P.follows .mixedOrders = true := by
  unfold progOk at h
  rw [Bool.and_eq_true] at h
  exact h.2
theorem run_ok' {P : Program} (h : progOk P = true) (n : Nat) : RunOk P (theTab P) n (run P (theTab P) n) := run_ok (theTab_ok P) (fun x hx => by cases hx) (progOk_ng h) (progOk_mix h) n
theorem run_plus {P : Program} (h : progOk P = true) {facts : List E} (hf : ∀ e ∈ facts, ∀ ρ, e.B ρ = true) (anns : List Ann) {nats : List Nat1} (hn : ∀ x ∈ nats, NatOk P x) (n : Nat) : RunOk P ((theTab P).plus facts anns nats) n (run P ((theTab P).plus facts anns nats) n) :=
  run_ok ((theTab_ok P).plus hf anns nats) hn (progOk_ng h) (progOk_mix h) n

def one (o : Out) : Res := some [o]
def checkAll (p : Out → Bool) (r : Res) : Bool :=
  match r with
  | some l => l.all p
  | none => false

theorem checkAll_mem {p : Out → Bool} {r : Res} (h : checkAll p r = true) : ∃ os, r = some os ∧ ∀ o ∈ os, p o = true := by
  unfold checkAll at h
  split at h
  · exact ⟨_, rfl, List.all_eq_true.1 h⟩
  · cases h

/-- **A call, by one reckoning of the kernel.** -/
theorem calls_of_check {P : Program} (hP : progOk P = true) {n : Nat} {g : FuncId} {args : List SV} {st : St} {p : Out → Bool} (h : withTab P (fun tb => checkAll p (run P tb n (.call g args) .nil st one)) = true)
    {B : Base} {ρ : Env} {w : World} (hr : RepW B ρ st w) (hao : SV.oks ρ args) : Calls P g (SV.dens ρ args).toArray w fun e w' => ∃ (o : Out) (ρ' : Env) (v : SV) (l r : T SV), p o = true ∧ o.tmps = .node v l r ∧ e = .returned (v.den ρ') ∧ ρ.Ext ρ' ∧ RepW B ρ' o.st w' ∧ v.ok ρ' := by
  rw [withTab_eq] at h
  obtain ⟨os, h1, h2⟩ := checkAll_mem h
  refine (run_ok' hP n).call _ _ _ _ _ _ h1 B ρ w _ hr hao ?_
  intro o ρ' w' os' v l r e1 e2 e3 e4 e5 e6
  simp only [one, Option.some.injEq] at e1
  exact ⟨o, ρ', v, l, r, h2 o (e2 o (by rw [← e1]; simp)), e5, rfl, e3, e4, e6⟩

/-- the same, with facts and with what is known at loops -/
theorem calls_of_check2 {P : Program} (hP : progOk P = true) {facts : List E} (hf : ∀ e ∈ facts, ∀ ρ, e.B ρ = true) {anns : List Ann} {nats : List Nat1} (hn : ∀ x ∈ nats, NatOk P x) {n : Nat} {g : FuncId} {args : List SV} {st : St} {p : Out → Bool}
    (h : withTab P (fun tb => checkAll p (run P (tb.plus facts anns nats) n (.call g args) .nil st one)) = true)
    {B : Base} {ρ : Env} {w : World} (hr : RepW B ρ st w) (hao : SV.oks ρ args) : Calls P g (SV.dens ρ args).toArray w fun e w' => ∃ (o : Out) (ρ' : Env) (v : SV) (l r : T SV), p o = true ∧ o.tmps = .node v l r ∧ e = .returned (v.den ρ') ∧ ρ.Ext ρ' ∧ RepW B ρ' o.st w' ∧ v.ok ρ' := by
  rw [withTab_eq] at h
  obtain ⟨os, h1, h2⟩ := checkAll_mem h
  refine (run_plus hP hf anns hn n).call _ _ _ _ _ _ h1 B ρ w _ hr hao ?_
  intro o ρ' w' os' v l r e1 e2 e3 e4 e5 e6
  simp only [one, Option.some.injEq] at e1
  exact ⟨o, ρ', v, l, r, h2 o (e2 o (by rw [← e1]; simp)), e5, rfl, e3, e4, e6⟩

/-- nothing that was there may change -/
def fresh (w : World) : Base := ⟨w⟩
def Env.at (w : World) (vs : List U) : Env := ⟨vs, [], fun r => w.heap[r]?⟩
theorem E.at_den (w : World) (vs : List U) (e : E) : e.den (Env.at w vs) = e.den (Env.of vs) := by
  induction e <;> simp_all only [E.den, E.I, E.B, E.S, E.L, Env.at, Env.of]
def noSt : St := ⟨0, 0, .nil, []⟩
/-- variables and assumptions -/
def varSt (n : Nat) (pc : List E) : St := ⟨n, 0, .nil, pc⟩
theorem RepW.vars (w : World) (vs : List U) (pc : List E) (hpc : ∀ e ∈ pc, e.B (Env.of vs) = true) : RepW (fresh w) (Env.at w vs) (varSt vs.length pc) w := by
  refine ⟨rfl, rfl, fun e he => ?_, fun i b hb => ?_, fun i j a b ha => ?_, fun r o hro => hro, rfl, rfl, rfl⟩
  · have := hpc e he
    unfold E.B at this ⊢
    rw [E.at_den]; exact this
  · simp [varSt, T.get_nil] at hb
  · simp [varSt, T.get_nil] at ha
theorem RepW.below {w w' : World} {vs : List U} {ρ : Env} {st : St} (h : RepW (fresh w) ρ st w') (he : (Env.at w vs).Ext ρ) : RowKit.Below w.heap.size w w' := by
  have key : ∀ k, k < w.heap.size → w'.heap[k]? = w.heap[k]? := fun k hk => by
    have h1 : w.heap[k]? = some w.heap[k] := Array.getElem?_eq_getElem hk
    rw [h1]
    exact h.fz k _ (he.fz k _ h1)
  refine ⟨h.os, h.tape, h.output, ?_, key⟩
  cases hn : w.heap.size with
  | zero => exact Nat.zero_le _
  | succ n =>
    have h1 := key n (by omega)
    have h2 : w.heap[n]? = some w.heap[n] := Array.getElem?_eq_getElem (by omega)
    rw [h2] at h1
    exact (Array.getElem?_eq_some_iff.1 h1).1

def outTrue (o : Out) : Bool :=
  match o.tmps with
  | .node v _ _ => match v with
    | .bool e => match e with
      | .bool b => b
      | _ => false
    | _ => false
  | .nil => false

theorem outTrue_den {o : Out} {v : SV} {l r : T SV} (h : outTrue o = true) (ho : o.tmps = .node v l r) (ρ : Env) : v.den ρ = .bool true := by
  unfold outTrue at h
  rw [ho] at h
  simp only at h
  split at h
  · split at h
    · subst h; rfl
    · cases h
  · cases h

/-- **A closed call that answers true**: whatever the world. -/
theorem true_of_check {P : Program} (hP : progOk P = true) {n : Nat} {g : FuncId} {args : List SV} {vs : List U} {pc : List E}
    (h : withTab P (fun tb => checkAll outTrue (run P tb n (.call g args) .nil (varSt vs.length pc) one)) = true) (hpc : ∀ e ∈ pc, e.B (Env.of vs) = true) (w : World) (hao : SV.oks (Env.at w vs) args) :
    Calls P g (SV.dens (Env.at w vs) args).toArray w fun e w' => e = .returned (.bool true) ∧ RowKit.Below w.heap.size w w' := by
  refine (calls_of_check hP h (RepW.vars w vs pc hpc) hao).mono ?_
  rintro e w' ⟨o, ρ', v, l, r, h1, h2, h3, h4, h5, _⟩
  exact ⟨by rw [h3, outTrue_den h1 h2], h5.below h4⟩

theorem true_of_check2 {P : Program} (hP : progOk P = true) {facts : List E} (hf : ∀ e ∈ facts, ∀ ρ, e.B ρ = true) {anns : List Ann} {nats : List Nat1} (hn : ∀ x ∈ nats, NatOk P x) {n : Nat} {g : FuncId} {args : List SV} {vs : List U} {pc : List E}
    (h : withTab P (fun tb => checkAll outTrue (run P (tb.plus facts anns nats) n (.call g args) .nil (varSt vs.length pc) one)) = true) (hpc : ∀ e ∈ pc, e.B (Env.of vs) = true) (w : World) (hao : SV.oks (Env.at w vs) args) :
    Calls P g (SV.dens (Env.at w vs) args).toArray w fun e w' => e = .returned (.bool true) ∧ RowKit.Below w.heap.size w w' := by
  refine (calls_of_check2 hP hf hn h (RepW.vars w vs pc hpc) hao).mono ?_
  rintro e w' ⟨o, ρ', v, l, r, h1, h2, h3, h4, h5, _⟩
  exact ⟨by rw [h3, outTrue_den h1 h2], h5.below h4⟩
end
end Go.SX

namespace Go.SX
noncomputable section
variable (ρ : Env)

/-! ### What expressions mean, for simp -/
theorem sm_I_int (n : Int) : (E.int n).I ρ = n := rfl
theorem sm_I_var (i : Nat) : (E.var i).I ρ = (ρ.vs.getD i (.int 0)).toI := rfl
theorem sm_I_mn (a b : E) : (E.mn a b).I ρ = min (a.I ρ) (b.I ρ) := by
  show minI (a.I ρ) (b.I ρ) = _
  unfold minI; split <;> omega
theorem sm_I_mx (a b : E) : (E.mx a b).I ρ = max (a.I ρ) (b.I ρ) := by
  show maxI (a.I ρ) (b.I ρ) = _
  unfold maxI; split <;> omega
theorem sm_I_add_u64 (a b : E) : (E.ar .add .u64 a b).I ρ = (a.I ρ + b.I ρ) % 18446744073709551616 := rfl
theorem sm_I_sub_u64 (a b : E) : (E.ar .sub .u64 a b).I ρ = (a.I ρ - b.I ρ) % 18446744073709551616 := rfl
theorem sm_I_mul_u64 (a b : E) : (E.ar .mul .u64 a b).I ρ = (a.I ρ * b.I ρ) % 18446744073709551616 := rfl
theorem sm_I_quo (k : IntKind) (a b : E) : (E.ar .quo k a b).I ρ = k.wrap ((a.I ρ).tdiv (b.I ρ)) := rfl
theorem sm_I_rem (k : IntKind) (a b : E) : (E.ar .rem k a b).I ρ = (a.I ρ).tmod (b.I ρ) := rfl
theorem sm_I_add (k : IntKind) (a b : E) : (E.ar .add k a b).I ρ = k.wrap (a.I ρ + b.I ρ) := rfl
theorem sm_I_sub (k : IntKind) (a b : E) : (E.ar .sub k a b).I ρ = k.wrap (a.I ρ - b.I ρ) := rfl
theorem sm_I_mul (k : IntKind) (a b : E) : (E.ar .mul k a b).I ρ = k.wrap (a.I ρ * b.I ρ) := rfl
theorem sm_I_wr (k : IntKind) (a : E) : (E.wr k a).I ρ = k.wrap (a.I ρ) := rfl
theorem sm_B_bool (b : Bool) : (E.bool b).B ρ = b := rfl
theorem sm_B_eql (a b : E) : ((E.cmp .eql a b).B ρ = true) = (a.I ρ = b.I ρ) := by
  show ((a.I ρ == b.I ρ) = true) = _
  simp
theorem sm_B_lss (a b : E) : ((E.cmp .lss a b).B ρ = true) = (a.I ρ < b.I ρ) := by
  show ((decide (a.I ρ < b.I ρ)) = true) = _
  simp
theorem sm_B_not (a : E) : ((E.not a).B ρ = true) = ¬ (a.B ρ = true) := by
  show ((!(a.B ρ)) = true) = _
  simp
theorem sm_B_and (a b : E) : ((E.and a b).B ρ = true) = (a.B ρ = true ∧ b.B ρ = true) := by
  show ((a.B ρ && b.B ρ) = true) = _
  simp
theorem sm_B_imp (a b : E) : ((E.imp a b).B ρ = true) = (a.B ρ = true → b.B ρ = true) := by
  show ((!(a.B ρ) || b.B ρ) = true) = _
  cases a.B ρ <;> simp
theorem sm_B_iff (a b : E) : ((E.iff a b).B ρ = true) = (a.B ρ = true ↔ b.B ρ = true) := by
  show ((a.B ρ == b.B ρ) = true) = _
  cases a.B ρ <;> cases b.B ρ <;> simp
theorem sm_B_seq (a b : E) : ((E.seq a b).B ρ = true) = (eqS (a.S ρ) (b.S ρ) = true) := rfl
theorem sm_B_var (i : Nat) : (E.var i).B ρ = (ρ.vs.getD i (.int 0)).toB := rfl
theorem getD_cons_zero (x : U) (l : List U) (d : U) : (x :: l).getD 0 d = x := rfl
theorem getD_cons_succ (x : U) (l : List U) (n : Nat) (d : U) : (x :: l).getD (n + 1) d = l.getD n d := rfl
theorem toI_int (n : Int) : (U.int n).toI = n := rfl
theorem toB_bool (n : Bool) : (U.bool n).toB = n := rfl
theorem wf_u64 {n : Int} (h : (Lit.int .u64 n).wf = true) : 0 ≤ n ∧ n < 18446744073709551616 := by
  simp only [Lit.wf, Bool.and_eq_true, decide_eq_true_eq] at h
  have h1 : (0 : Int) ≤ n := h.1
  have h2 : n ≤ (18446744073709551615 : Int) := h.2
  omega
theorem wf_i64 {n : Int} (h : (Lit.int .i64 n).wf = true) : -9223372036854775808 ≤ n ∧ n < 9223372036854775808 := by
  simp only [Lit.wf, Bool.and_eq_true, decide_eq_true_eq] at h
  have h1 : (-9223372036854775808 : Int) ≤ n := h.1
  have h2 : n ≤ (9223372036854775807 : Int) := h.2
  omega
theorem pc_nil {ρ : Env} : ∀ e ∈ ([] : List E), e.B ρ = true := fun e he => by cases he
theorem pc_cons {ρ : Env} {e : E} {l : List E} (h : e.B ρ = true) (hl : ∀ e ∈ l, e.B ρ = true) : ∀ x ∈ e :: l, x.B ρ = true := fun x hx => by
  cases hx with
  | head => exact h
  | tail _ hx => exact hl x hx

/-! ### One step of arithmetic, with the cases that omega needs -/
theorem cs_sub {a b : Int} (ha : 0 ≤ a ∧ a < 18446744073709551616) (hb : 0 ≤ b ∧ b < 18446744073709551616) :
    ∃ s, (a - b) % 18446744073709551616 = s ∧ (0 ≤ s ∧ s < 18446744073709551616) ∧ ((b ≤ a ∧ s = a - b) ∨ (a < b ∧ s = a - b + 18446744073709551616)) := ⟨_, rfl, by omega, by omega⟩
theorem cs_add {a b : Int} (ha : 0 ≤ a ∧ a < 18446744073709551616) (hb : 0 ≤ b ∧ b < 18446744073709551616) :
    ∃ s, (a + b) % 18446744073709551616 = s ∧ (0 ≤ s ∧ s < 18446744073709551616) ∧ ((a + b < 18446744073709551616 ∧ s = a + b) ∨ (18446744073709551616 ≤ a + b ∧ s = a + b - 18446744073709551616)) := ⟨_, rfl, by omega, by omega⟩
theorem cs_min {a b : Int} (ha : 0 ≤ a ∧ a < 18446744073709551616) (hb : 0 ≤ b ∧ b < 18446744073709551616) :
    ∃ s, min a b = s ∧ (0 ≤ s ∧ s < 18446744073709551616) ∧ ((a ≤ b ∧ s = a) ∨ (b < a ∧ s = b)) := ⟨_, rfl, by omega, by omega⟩
theorem cs_max {a b : Int} (ha : 0 ≤ a ∧ a < 18446744073709551616) (hb : 0 ≤ b ∧ b < 18446744073709551616) :
    ∃ s, max a b = s ∧ (0 ≤ s ∧ s < 18446744073709551616) ∧ ((a ≤ b ∧ s = b) ∨ (b < a ∧ s = a)) := ⟨_, rfl, by omega, by omega⟩
end
end Go.SX

namespace Go.SX

/-! ### What comes in, as values of variables -/
def ikU : IntKind → Nat
  | .i8 => 0 | .i16 => 1 | .i32 => 2 | .i64 => 3 | .u8 => 4 | .u16 => 5 | .u32 => 6 | .u64 => 7
mutual
def CK.typ : CK → U
  | .int k => .int (ikU k)
  | .bool => .int 8
  | .str => .int 9
  | .slc ks => .lst (ksTyp ks)
def ksTyp : List CK → List U
  | [] => []
  | c :: cs => c.typ :: ksTyp cs
end
def ksRep (ks : List CK) : Nat → List CK
  | 0 => []
  | n + 1 => ks ++ ksRep ks n
/-- the fields, which lie one behind the other from off on -/
def ksFields (f : TypeId → Option (List CK)) (P : Program) : List Field → Nat → Option (List CK)
  | [], _ => some []
  | x :: xs, off => match f x.type, ksFields f P xs (off + P.cellsOf x.type) with
    | some ks, some r => match Nat.beq x.offset off && Nat.beq ks.length (P.cellsOf x.type) with
      | true => some (ks ++ r)
      | false => none
    | _, _ => none
/-- the kinds of the cells of a type -/
def ksOf (P : Program) : Nat → TypeId → Option (List CK)
  | 0, _ => none
  | n + 1, t => match P.underlying t with
    | some .bool => some [.bool]
    | some (.int k) => some [.int k]
    | some .string => some [.str]
    | some (.slice e) => match ksOf P n e with
      | some ks => match Nat.beq ks.length (P.cellsOf e) && Nat.blt 0 ks.length with
        | true => some [.slc ks]
        | false => none
      | none => none
    | some (.struct fs) => match ksFields (ksOf P n) P fs.toList 0 with
      | some ks => match Nat.beq ks.length (P.cellsOf t) with
        | true => some ks
        | false => none
      | none => none
    | some (.array m e) => match ksOf P n e with
      | some ks => match Nat.beq ks.length (P.cellsOf e) && Nat.beq (m * ks.length) (P.cellsOf t) with
        | true => some (ksRep ks m)
        | false => none
      | none => none
    | _ => none

/-- cells that are of some kinds, and their values -/
def RowOk (fz : Nat → Option Obj) (ks : List CK) (us : List U) (cs : List Value) : Prop :=
  us.length = ks.length ∧ cs.length = ks.length ∧ ∀ (i : Nat) (c : CK), ks[i]? = some c → ∃ u, us[i]? = some u ∧ cs[i]? = some (c.val u) ∧ c.ok fz u ∧ U.typ u c.typ = true

theorem RowOk.nil (fz : Nat → Option Obj) : RowOk fz [] [] [] := ⟨rfl, rfl, fun i c h => by simp at h⟩
theorem RowOk.append {fz : Nat → Option Obj} {ks ks' : List CK} {us us' : List U} {cs cs' : List Value} (h : RowOk fz ks us cs) (h' : RowOk fz ks' us' cs') : RowOk fz (ks ++ ks') (us ++ us') (cs ++ cs') := by
  refine ⟨by simp [h.1, h'.1], by simp [h.2.1, h'.2.1], fun i c hi => ?_⟩
  by_cases hlt : i < ks.length
  · rw [List.getElem?_append_left hlt] at hi
    obtain ⟨u, h1, h2, h3⟩ := h.2.2 i c hi
    exact ⟨u, by rw [List.getElem?_append_left (by rw [h.1]; exact hlt)]; exact h1, by rw [List.getElem?_append_left (by rw [h.2.1]; exact hlt)]; exact h2, h3⟩
  · rw [List.getElem?_append_right (by omega)] at hi
    obtain ⟨u, h1, h2, h3⟩ := h'.2.2 _ c hi
    exact ⟨u, by rw [List.getElem?_append_right (by rw [h.1]; omega), h.1]; exact h1, by rw [List.getElem?_append_right (by rw [h.2.1]; omega), h.2.1]; exact h2, h3⟩
theorem RowOk.one {fz : Nat → Option Obj} {c : CK} {u : U} (h : c.ok fz u) (ht : U.typ u c.typ = true) : RowOk fz [c] [u] [c.val u] := by
  refine ⟨rfl, rfl, fun i c' hi => ?_⟩
  cases i with
  | zero => simp at hi; subst hi; exact ⟨u, rfl, rfl, h, ht⟩
  | succ i => simp at hi

theorem ksTyp_get : ∀ (ks : List CK) (i : Nat), (ksTyp ks)[i]? = ks[i]?.map CK.typ
  | [], i => by simp [ksTyp]
  | c :: cs, 0 => by simp [ksTyp]
  | c :: cs, i + 1 => by simp [ksTyp, ksTyp_get cs i]
theorem typs_of {ks : List U} : ∀ (l : List U) (p : Nat), p ≤ ks.length → (∀ (j : Nat) (u : U), l[j]? = some u → ∃ k, ks[(p + j) % ks.length]? = some k ∧ U.typ u k = true) → U.typs l ks (ks.drop p) = true
  | [], p, _, _ => by simp [U.typs]
  | u :: l, p, hp, h => by
    obtain ⟨k, h1, h2⟩ := h 0 u rfl
    have hpos : 0 < ks.length := by
      cases ks with
      | nil => simp at h1
      | cons => simp
    rcases Nat.lt_or_ge p ks.length with hlt | hge
    · rw [Nat.add_zero, Nat.mod_eq_of_lt hlt] at h1
      have hd : ks.drop p = k :: ks.drop (p + 1) := by
        rw [List.drop_eq_getElem_cons hlt]
        congr 1
        rw [List.getElem?_eq_getElem hlt] at h1
        exact Option.some.inj h1
      rw [hd]
      simp only [U.typs, h2, Bool.true_and]
      exact typs_of l (p + 1) hlt (fun j u hj => by
        have := h (j + 1) u (by simpa using hj)
        rwa [show p + (j + 1) = p + 1 + j by omega] at this)
    · have hpe : p = ks.length := by omega
      subst hpe
      rw [Nat.add_zero, Nat.mod_self] at h1
      have ih := typs_of (ks := ks) l 1 hpos (fun j u hj => by
        have := h (j + 1) u (by simpa using hj)
        rwa [show ks.length + (j + 1) = (1 + j) + ks.length by omega, Nat.add_mod_right] at this)
      cases ks with
      | nil => simp at hpos
      | cons a b =>
        simp only [List.getElem?_cons_zero, Option.some.injEq] at h1
        subst h1
        rw [List.drop_length]
        simp only [U.typs, h2, Bool.true_and]
        simpa using ih

theorem flat_get {α : Type} {c : Nat} {f : Nat → List α} : ∀ (n : Nat), (∀ i, i < n → (f i).length = c) → ((List.range n).flatMap f).length = n * c ∧ ∀ i r, i < n → r < c → ((List.range n).flatMap f)[i * c + r]? = (f i)[r]?
  | 0, _ => ⟨by simp, fun i r h => by omega⟩
  | n + 1, h => by
    obtain ⟨h1, h2⟩ := flat_get (f := f) (c := c) n (fun i hi => h i (by omega))
    rw [List.range_succ, List.flatMap_append]
    simp only [List.flatMap_cons, List.flatMap_nil, List.append_nil]
    refine ⟨by rw [List.length_append, h1, h n (by omega), Nat.succ_mul], fun i r hi hr => ?_⟩
    by_cases hin : i < n
    · have : i * c + r < n * c := by
        have h3 : (i + 1) * c ≤ n * c := Nat.mul_le_mul_right _ hin
        rw [Nat.succ_mul] at h3; omega
      rw [List.getElem?_append_left (by rw [h1]; exact this)]
      exact h2 i r hin hr
    · have : i = n := by omega
      subst this
      rw [List.getElem?_append_right (by rw [h1]; omega), h1]
      congr 1; omega

section
variable {H : Type} {enc : TypeId × Value → H} {P : Program} {w : World} {held : Bool}

theorem split_at {α : Type} (cs : List α) (a b : Nat) : cs.drop a = (cs.drop a).take b ++ cs.drop (a + b) := by
  rw [← List.drop_drop, List.take_append_drop]

theorem open_ks : ∀ (n : Nat) (t : TypeId) (ks : List CK), ksOf P n t = some ks → ∀ (fuel : Nat) (cs : List Value) (x : DataW H × List MemPlace), DataW.trod enc P w 0 (fun _ => true) held fuel t cs = some x →
    ∃ us, RowOk (fun r => w.heap[r]?) ks us cs
  | 0, t, ks, h, _, _, _, _ => by cases h
  | n + 1, t, ks, h, fuel, cs, x, hx => by
    have ih := open_ks n
    simp only [ksOf] at h
    split at h
    · rename_i hu
      obtain ⟨b, rfl, _⟩ := DataW.trod_bool hu hx
      simp only [Option.some.injEq] at h; subst h
      exact ⟨[.bool b], RowOk.one (c := .bool) (u := .bool b) trivial rfl⟩
    · rename_i k hu
      obtain ⟨m, rfl, _, hw⟩ := DataW.trod_int hu hx
      simp only [Option.some.injEq] at h; subst h
      refine ⟨[.int m], RowOk.one (c := .int k) (u := .int m) trivial ?_⟩
      simp only [Lit.wf, Bool.and_eq_true, decide_eq_true_eq] at hw
      simp only [CK.typ, U.typ, decide_eq_true_eq]
      cases k <;> exact ⟨by decide, by simpa [IntKind.min, IntKind.max, IntKind.signed, IntKind.bits, ikU, kindLo, kindHi] using hw⟩
    · rename_i hu
      obtain ⟨b, rfl, _⟩ := DataW.trod_string hu hx
      simp only [Option.some.injEq] at h; subst h
      exact ⟨[.str b], RowOk.one (c := .str) (u := .str b) trivial rfl⟩
    · -- slice
      rename_i e hu
      split at h
      · rename_i ks' hks
        split at h
        · rename_i hc
          simp only [Bool.and_eq_true] at hc
          obtain ⟨hc1, hc2⟩ := hc
          have hlen : ks'.length = P.cellsOf e := Nat.eq_of_beq_eq_true hc1
          have hpos : 0 < ks'.length := blt_iff.1 hc2
          simp only [Option.some.injEq] at h; subst h
          rcases DataW.trod_slice hu hx with ⟨rfl, _⟩ | ⟨a, len, cap, elems, rest, m, _, rfl, _, _, hlc, _, hel, hget, hrest, _⟩
          · exact ⟨[.bx none 0 0 []], RowOk.one (c := .slc ks') (u := .bx none 0 0 []) .nil (by simp [CK.typ, U.typ, U.typs])⟩
          · have key : ∀ i, i < cap → ∃ y, (w.cells? 0 (a.add (i * P.cellsOf e)) (P.cellsOf e)).bind (DataW.trod enc P w 0 (fun _ => true) held m e) = some y := by
              intro i hi
              obtain ⟨hr1, hr2⟩ := hrest rfl
              by_cases hil : i < len
              · rw [hget i hil]
                exact ⟨_, List.getElem?_eq_getElem (by omega)⟩
              · have := hr2 (i - len) (by omega)
                rw [show len + (i - len) = i by omega] at this
                rw [this]
                exact ⟨_, List.getElem?_eq_getElem (by omega)⟩
            have cell : ∀ i, i < cap → ∃ us cs', RowOk (fun r => w.heap[r]?) ks' us cs' ∧ ∀ r, r < ks'.length → w.cell? ((a.add (i * ks'.length)).add r) = cs'[r]? := by
              intro i hi
              obtain ⟨y, hy⟩ := key i hi
              rw [Option.bind_eq_some_iff] at hy
              obtain ⟨cs', h1, h2⟩ := hy
              obtain ⟨us, hus⟩ := ih e ks' hks m cs' y h2
              refine ⟨us, cs', hus, fun r hr => ?_⟩
              have := (World.cells?_some h1).2.2 r (by omega)
              rw [hlen]; exact this
            have hspot : 0 < cap → a.spot = none ∧ ∃ arr elem fr, w.heap[a.block]? = some (.cells arr elem fr) := by
              intro hcap
              obtain ⟨us, cs', hrow, hcell⟩ := cell 0 hcap
              have h0 := hcell 0 hpos
              have hlt : 0 < cs'.length := by rw [hrow.2.1]; exact hpos
              rw [List.getElem?_eq_getElem hlt] at h0
              rw [show (a.add (0 * ks'.length)).add 0 = a by simp [Addr.add]] at h0
              unfold World.cell? at h0
              split at h0
              · rename_i arr el fr hw
                split at h0
                · cases h0
                · rename_i hs
                  refine ⟨by simpa using hs, arr, el, fr, hw⟩
              · cases h0
            rcases Nat.eq_zero_or_pos cap with hz | hcp
            · subst hz
              have : len = 0 := by omega
              subst this
              exact ⟨[.bx (some a) 0 0 []], RowOk.one (c := .slc ks') (u := .bx (some a) 0 0 []) (.empty a) (by simp [CK.typ, U.typ, U.typs])⟩
            · obtain ⟨hsp, arr, el, fr, hw⟩ := hspot hcp
              obtain ⟨blk, off, spot⟩ := a
              have hsp' : spot = none := hsp
              have hw : w.heap[blk]? = some (.cells arr el fr) := hw
              subst hsp'
              let f : Nat → List U := fun i => if h : i < cap then Classical.choose (cell i h) else []
              have hf : ∀ i, (hi : i < cap) → ∃ cs', RowOk (fun r => w.heap[r]?) ks' (f i) cs' ∧ ∀ r, r < ks'.length → arr[off + (i * ks'.length + r)]? = cs'[r]? := by
                intro i hi
                obtain ⟨cs', h1, h2⟩ := Classical.choose_spec (cell i hi)
                have : f i = Classical.choose (cell i hi) := dif_pos hi
                rw [this]
                refine ⟨cs', h1, fun r hr => ?_⟩
                have := h2 r hr
                rw [← this]
                rw [addr_add, addr_add]
                simp only [World.cell?, hw, Option.isSome_none]
                simp [Nat.add_assoc]
              have hfl : ∀ i, i < len → (f i).length = ks'.length := fun i hi => by obtain ⟨_, h1, _⟩ := hf i (by omega); exact h1.1
              obtain ⟨hL, hLg⟩ := flat_get len hfl
              have hat : ∀ j u, ((List.range len).flatMap f)[j]? = some u → ∃ c, ks'[j % ks'.length]? = some c ∧ arr[off + j]? = some (c.val u) ∧ c.ok (fun r => w.heap[r]?) u ∧ U.typ u c.typ = true := by
                intro j u hj
                have hlt : j < len * ks'.length := by rw [← hL]; exact (List.getElem?_eq_some_iff.1 hj).1
                have hdm : j / ks'.length * ks'.length + j % ks'.length = j := by rw [Nat.mul_comm]; exact Nat.div_add_mod j ks'.length
                have hi : j / ks'.length < len := (Nat.div_lt_iff_lt_mul hpos).2 hlt
                have hr : j % ks'.length < ks'.length := Nat.mod_lt _ hpos
                have h1 := hLg (j / ks'.length) (j % ks'.length) hi hr
                rw [hdm] at h1
                obtain ⟨cs', hrow, harr⟩ := hf (j / ks'.length) (by omega)
                obtain ⟨u', g1, g2, g3, g4⟩ := hrow.2.2 (j % ks'.length) ks'[j % ks'.length] (List.getElem?_eq_getElem hr)
                rw [h1, g1] at hj
                simp only [Option.some.injEq] at hj; subst hj
                have h2 := harr (j % ks'.length) hr
                rw [hdm] at h2
                exact ⟨_, List.getElem?_eq_getElem hr, by rw [h2, g2], g3, g4⟩
              refine ⟨[.bx (some ⟨blk, off, none⟩) len cap ((List.range len).flatMap f)], RowOk.one (c := .slc ks') (u := .bx (some ⟨blk, off, none⟩) len cap ((List.range len).flatMap f)) ?_ ?_⟩
              · refine .mk (arr := arr) (elem := el) (fr := fr) hL hlc (fun _ => hw) (fun j u hj => ?_) (fun j u ks2 hj hk2 => ?_)
                · obtain ⟨c, g1, g2, _⟩ := hat j u hj; exact ⟨c, g1, g2⟩
                · obtain ⟨c, g1, _, g3, _⟩ := hat j u hj
                  rw [hk2] at g1
                  simp only [Option.some.injEq] at g1; subst g1
                  exact g3
              · simp only [CK.typ, U.typ]
                have := typs_of (ks := ksTyp ks') ((List.range len).flatMap f) (ksTyp ks').length (Nat.le_refl _) (fun j u hj => by
                  have hkl : (ksTyp ks').length = ks'.length := by
                    apply Nat.le_antisymm
                    · rcases Nat.lt_or_ge ks'.length (ksTyp ks').length with h | h
                      · have := ksTyp_get ks' ks'.length
                        rw [List.getElem?_eq_getElem h] at this
                        simp at this
                      · exact h
                    · rcases Nat.lt_or_ge (ksTyp ks').length ks'.length with h | h
                      · have := ksTyp_get ks' (ksTyp ks').length
                        rw [List.getElem?_eq_getElem h] at this
                        simp at this
                      · exact h
                  obtain ⟨c, g1, _, _, g4⟩ := hat j u hj
                  refine ⟨c.typ, ?_, g4⟩
                  rw [hkl, Nat.add_mod_left, ksTyp_get, g1]; rfl)
                simpa using this
        · cases h
      · cases h
    · -- struct
      rename_i fs hu
      obtain ⟨xs, m, _, _, hcl, hxl, hget⟩ := DataW.trod_struct hu hx
      split at h
      · rename_i ks' hks
        split at h
        · rename_i hc
          simp only [Option.some.injEq] at h; subst h
          have hlen : ks'.length = P.cellsOf t := Nat.eq_of_beq_eq_true hc
          have go : ∀ (l : List Field) (off : Nat) (r : List CK), ksFields (ksOf P n) P l off = some r → (cs.drop off).length = r.length →
              (∀ f ∈ l, ∃ y, DataW.trod enc P w 0 (fun _ => true) held m f.type ((cs.drop f.offset).take (P.cellsOf f.type)) = some y) → ∃ us, RowOk (fun r => w.heap[r]?) r us (cs.drop off) := by
            intro l
            induction l with
            | nil =>
              intro off r hr hl _
              simp only [ksFields, Option.some.injEq] at hr; subst hr
              have : cs.drop off = [] := List.length_eq_zero_iff.1 (by simpa using hl)
              rw [this]; exact ⟨[], RowOk.nil _⟩
            | cons f l ihl =>
              intro off r hr hl hall
              simp only [ksFields] at hr
              split at hr
              · rename_i k1 r1 hk1 hr1
                split at hr
                · rename_i hc
                  simp only [Bool.and_eq_true] at hc
                  have ho : f.offset = off := Nat.eq_of_beq_eq_true hc.1
                  have hk : k1.length = P.cellsOf f.type := Nat.eq_of_beq_eq_true hc.2
                  simp only [Option.some.injEq] at hr; subst hr
                  obtain ⟨y, hy⟩ := hall f (by simp)
                  rw [ho] at hy
                  obtain ⟨us1, hu1⟩ := ih f.type k1 hk1 m _ y hy
                  obtain ⟨us2, hu2⟩ := ihl (off + P.cellsOf f.type) r1 hr1 (by
                    simp only [List.length_drop, List.length_append] at hl ⊢
                    omega) (fun g hg => hall g (by simp [hg]))
                  refine ⟨us1 ++ us2, ?_⟩
                  rw [split_at cs off (P.cellsOf f.type)]
                  exact hu1.append hu2
                · cases hr
              · cases hr
          obtain ⟨us, hus⟩ := go fs.toList 0 ks' hks (by simp [hcl, hlen]) (fun f hf => by
            obtain ⟨i, hi⟩ := List.getElem?_of_mem hf
            have hi' : fs[i]? = some f := by simpa using hi
            have hlt : i < fs.size := (Array.getElem?_eq_some_iff.1 hi').1
            rw [hget i f hi']
            exact ⟨_, List.getElem?_eq_getElem (by omega)⟩)
          exact ⟨us, by simpa using hus⟩
        · cases h
      · cases h
    · -- array
      rename_i q e hu
      obtain ⟨xs, m, _, _, hcl, hxl, hget⟩ := DataW.trod_array hu hx
      split at h
      · rename_i ks' hks
        split at h
        · rename_i hc
          simp only [Bool.and_eq_true] at hc
          have hk : ks'.length = P.cellsOf e := Nat.eq_of_beq_eq_true hc.1
          have ht : q * ks'.length = P.cellsOf t := Nat.eq_of_beq_eq_true hc.2
          simp only [Option.some.injEq] at h; subst h
          have go : ∀ (j i : Nat), i + j = q → ∃ us, RowOk (fun r => w.heap[r]?) (ksRep ks' j) us (cs.drop (i * P.cellsOf e)) := by
            intro j
            induction j with
            | zero =>
              intro i hi
              have : cs.drop (i * P.cellsOf e) = [] := by
                apply List.drop_eq_nil_of_le
                rw [hcl, ← ht, ← hk, show i = q by omega]
                exact Nat.le_refl _
              rw [this]; exact ⟨[], RowOk.nil _⟩
            | succ j ihj =>
              intro i hi
              have hlt : i < q := by omega
              have hy := hget i hlt
              rw [List.getElem?_eq_getElem (by omega)] at hy
              obtain ⟨us1, hu1⟩ := ih e ks' hks m _ _ hy
              obtain ⟨us2, hu2⟩ := ihj (i + 1) (by omega)
              refine ⟨us1 ++ us2, ?_⟩
              rw [split_at cs (i * P.cellsOf e) (P.cellsOf e)]
              rw [show (i + 1) * P.cellsOf e = i * P.cellsOf e + P.cellsOf e from Nat.succ_mul _ _] at hu2
              exact hu1.append hu2
          obtain ⟨us, hus⟩ := go q 0 (by omega)
          exact ⟨us, by simpa using hus⟩
        · cases h
      · cases h
    · cases h

/-- a slice that comes in -/
theorem open_slc {n : Nat} {t e : TypeId} {ks : List CK} {r : Reach} {b0 : Nat} {v : Value} {d : DataW H} {ps : List MemPlace} (hu : P.underlying t = some (.slice e)) (hk : ksOf P n t = some [.slc ks])
    (o : Value.okWide P w r b0 t v) (h : DataW.Trod enc P w 0 (fun _ => true) held t v d ps) : ∃ u : U, v = u.raw ∧ SlOk (fun r => w.heap[r]?) ks u ∧ U.typ u (.lst (ksTyp ks)) = true := by
  obtain ⟨fuel, h⟩ := h
  obtain ⟨us, h1, h2, h3⟩ := open_ks n t _ hk fuel _ _ h
  obtain ⟨u, g1, g2, g3, g4⟩ := h3 0 (.slc ks) rfl
  refine ⟨u, ?_, g3, g4⟩
  have hv : ∃ a l c, v = .slice a l c := by
    unfold Value.okWide at o
    rw [hu] at o
    simp only at o
    unfold Cell.okWide at o
    rw [hu] at o
    cases v <;> simp [Cell.ok, hu] at o <;> exact ⟨_, _, _, rfl⟩
  obtain ⟨a, l, c, rfl⟩ := hv
  have e : (Value.slice a l c).cells.toList = [Value.slice a l c] := rfl
  rw [e] at g2
  simpa [CK.val] using g2

/-- a string that comes in -/
theorem open_str {t : TypeId} {r : Reach} {b0 : Nat} {v : Value} {d : DataW H} {ps : List MemPlace} (hu : P.underlying t = some .string)
    (o : Value.okWide P w r b0 t v) (h : DataW.Trod enc P w 0 (fun _ => true) held t v d ps) : ∃ s : ByteArray, v = .string s ∧ d = .lit (.string s.data.toList) ∧ ps = [] ∧ s.size ≤ maxLen := by
  obtain ⟨fuel, h⟩ := h
  obtain ⟨s, h1, h2, h3⟩ := DataW.trod_string hu h
  simp only [Prod.mk.injEq] at h2
  refine ⟨s, ?_, h2.1, h2.2, h3⟩
  have hv : ∃ s, v = .string s := by
    unfold Value.okWide at o
    rw [hu] at o
    simp only at o
    unfold Cell.okWide at o
    rw [hu] at o
    cases v <;> simp [Cell.ok, hu] at o <;> exact ⟨_, rfl⟩
  obtain ⟨s', rfl⟩ := hv
  have e : (Value.string s').cells.toList = [Value.string s'] := rfl
  rw [e] at h1
  simpa using h1
end
end Go.SX
