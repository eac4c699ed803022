/-
  The symbolic executor is right: whatever the model's code does is among the outcomes that were reckoned.
-/
import Derived.Test.YtmngplmblanhdaaSXc
import Derived.Control
import Derived.LoopN
import Derived.ChangeArms
import Derived.OpenShut
set_option linter.unusedVariables false
set_option linter.unusedSimpArgs false
set_option linter.unusedSectionVars false

namespace Go.SX
def exOf:Ex→Exit
 | .normal=>.normal
 | .exit i=>.exit i
 | .ret=>.ret
def CodeRes (B:Base) (ρ:Env) (Q:Exit→Act→World→Prop) (k:Out→Res) (os:List Out):Prop :=
 ∀ (o:Out) (ρ':Env) (a':Act) (w':World) (os':List Out),k o=some os'→(∀ x∈os',x∈os)→ρ.Ext ρ'→RepW B ρ' o.st w'→TmRep ρ' o.tmps a'→Q (exOf o.ex) a' w'
def ContRes (B:Base) (ρ:Env) (K:Act→World→Prop) (k:Cont) (os:List Out):Prop :=
 ∀ (t:Tm) (st:St) (ρ':Env) (a':Act) (w':World) (os':List Out),k t st=some os'→(∀ x∈os',x∈os)→ρ.Ext ρ'→RepW B ρ' st w'→TmRep ρ' t a'→K a' w'
def CallRes (B:Base) (ρ:Env) (R:Ending→World→Prop) (k:Out→Res) (os:List Out):Prop :=
 ∀ (o:Out) (ρ':Env) (w':World) (os':List Out) (v:SV) (l r:T SV),k o=some os'→(∀ x∈os',x∈os)→ρ.Ext ρ'→RepW B ρ' o.st w'→o.tmps=.node v l r→v.ok ρ'→R (.returned (v.den ρ')) w'
theorem CodeRes.ext {B:Base} {ρ ρ':Env} {Q:Exit→Act→World→Prop} {k:Out→Res} {os:List Out} (h:CodeRes B ρ Q k os) (he:ρ.Ext ρ'):CodeRes B ρ' Q k os :=
 fun o ρ'' a' w' os' h1 h2 h3=>h o ρ'' a' w' os' h1 h2 (he.trans h3)
theorem CodeRes.sub {B:Base} {ρ:Env} {Q:Exit→Act→World→Prop} {k:Out→Res} {os os':List Out} (h:CodeRes B ρ Q k os) (hs:∀ x∈os',x∈os):CodeRes B ρ Q k os' :=
 fun o ρ'' a' w' os'' h1 h2=>h o ρ'' a' w' os'' h1 (fun x hx=>hs x (h2 x hx))
theorem ContRes.ext {B:Base} {ρ ρ':Env} {K:Act→World→Prop} {k:Cont} {os:List Out} (h:ContRes B ρ K k os) (he:ρ.Ext ρ'):ContRes B ρ' K k os :=
 fun o st ρ'' a' w' os' h1 h2 h3=>h o st ρ'' a' w' os' h1 h2 (he.trans h3)
theorem ContRes.sub {B:Base} {ρ:Env} {K:Act→World→Prop} {k:Cont} {os os':List Out} (h:ContRes B ρ K k os) (hs:∀ x∈os',x∈os):ContRes B ρ K k os' :=
 fun o st ρ'' a' w' os'' h1 h2=>h o st ρ'' a' w' os'' h1 (fun x hx=>hs x (h2 x hx))
theorem CallRes.sub {B:Base} {ρ:Env} {R:Ending→World→Prop} {k:Out→Res} {os os':List Out} (h:CallRes B ρ R k os) (hs:∀ x∈os',x∈os):CallRes B ρ R k os' :=
 fun o ρ'' w' os'' v l r h1 h2=>h o ρ'' w' os'' v l r h1 (fun x hx=>hs x (h2 x hx))
theorem join_some {a b:Res} {os:List Out} (h:join a b=some os):∃ l m,a=some l∧b=some m∧(∀ x∈l,x∈os)∧(∀ x∈m,x∈os):=by
 unfold join at h
 split at h
 ·split at h
  ·simp only [Option.some.injEq] at h; subst h
   exact ⟨_,_,rfl,rfl,fun x hx=>List.mem_append.2 (.inl hx),fun x hx=>List.mem_append.2 (.inr hx)⟩
  ·cases h
 ·cases h
theorem slotOf_eq (ops:Array Oper) (j:Nat):slotOf ops.toList j=(ops[j]?).bind (·.dst):=by
 unfold slotOf
 rw [getI_eq]
 simp only [Array.getElem?_toList]
 cases ops[j]? <;> rfl
theorem wantS_ok {ρ:Env} {ops:Array Oper} {t:Tm} {a:Act} (hT:TmRep ρ t a) (o:Oper) :
  match wantS ops.toList t o with
  | .bad=>True
  | .yes=>Region.wanted o (yielded ops a.tmps)=true
  | .no=>Region.wanted o (yielded ops a.tmps)=false
  | .ask s e want=>t.get s=some (.bool e)∧Region.wanted o (yielded ops a.tmps)=(e.B ρ == want):=by
 unfold wantS Region.wanted
 cases hg:o.guard with
 | none=>simp
 | some q =>
  obtain ⟨j,want⟩:=q
  simp only [slotOf_eq]
  have hy:yielded ops a.tmps j=match (ops[j]?).bind (·.dst) with
    | some s=>(match a.tmps[s]? with | some (.bool b)=>some b | _=>none)
    | none=>none:=by
   unfold yielded
   cases hs:(ops[j]?).bind (·.dst) with
   | none=>rfl
   | some s =>
    simp only [Option.bind_some]
    cases a.tmps[s]? with
    | none=>rfl
    | some v=>cases v <;> simp
  rw [hy]
  cases hs:(ops[j]?).bind (·.dst) with
  | none=>simp
  | some s =>
   simp only
   cases ht:t.get s with
   | none=>simp [hT.2.1 s ht]
   | some v =>
    have hval:v≠.junk→a.tmps[s]?=some (v.den ρ):=hT.at ht
    cases v with
    | junk=>trivial
    | bool e =>
     rw [hval (by simp)]
     simp only [SV.den]
     cases e with
     | bool b =>
      simp only [E.B_bool]
      cases hb:boolB b want with
      | true=>have:=boolB_eq hb; subst this; simp
      | false=>have:=boolB_ne hb; simp [this]
     | _=>simp [ht]
    | bsl ks e=>rw [hval (by simp)]; simp only [SV.den]; cases e.den ρ <;> simp [U.raw]
    | nsl b ks e i c=>rw [hval (by simp)]; simp only [SV.den]; cases e.den ρ <;> simp [U.raw]
    | _=>rw [hval (by simp)]; simp [SV.den]
theorem TmRep.relabel {ρ:Env} {t:Tm} {a:Act} (h:TmRep ρ t a) {s:Nat} {e:E} {b:Bool} (hs:t.get s=some (.bool e)) (hb:e.B ρ=b):TmRep ρ (t.set s (.bool (.bool b))) a:=by
 refine ⟨h.1,fun i hi=>?_,fun i v hv=>?_⟩
 ·rw [T.get_set] at hi
  by_cases e':i=s
  ·subst e'; rw [if_pos rfl,hs] at hi; cases hi
  ·rw [if_neg e'] at hi; exact h.2.1 i hi
 ·rw [T.get_set] at hv
  by_cases e':i=s
  ·subst e'
   rw [if_pos rfl,hs] at hv
   simp only [Option.map_some,Option.some.injEq] at hv; subst hv
   exact ⟨_,h.at hs (by simp),.inr ⟨by simp [SV.den,hb],by simp [SV.ok]⟩⟩
  ·rw [if_neg e'] at hv; exact h.2.2 i v hv
inductive InC:Code→Code→Prop
 | refl (c:Code):InC c c
 | seqL {c a b:Code} (h:InC c a):InC c (.seq a b)
 | seqR {c a b:Code} (h:InC c b):InC c (.seq a b)
 | block {c b:Code} {id:Nat} (h:InC c b):InC c (.block id b)
 | condL {c a b:Code} {x:Operand} (h:InC c a):InC c (.cond x a b)
 | condR {c a b:Code} {x:Operand} (h:InC c b):InC c (.cond x a b)
 | loop {c b:Code} (h:InC c b):InC c (.loop b)
theorem InC.trans {a b c:Code} (h:InC a b) (k:InC b c):InC a c:=by
 induction k with
 | refl=>exact h
 | seqL _ ih=>exact .seqL ih
 | seqR _ ih=>exact .seqR ih
 | block _ ih=>exact .block ih
 | condL _ ih=>exact .condL ih
 | condR _ ih=>exact .condR ih
 | loop _ ih=>exact .loop ih
def OfFn (P:Program) (g:FuncId) (c:Code):Prop:=∃ fn c0,P.funcs[g]?=some fn∧fn.body=some c0∧InC c c0
theorem OfFn.part {P:Program} {g:FuncId} {c d:Code} (h:OfFn P g d) (k:InC c d):OfFn P g c:=by
 obtain ⟨fn,c0,h1,h2,h3⟩:=h
 exact ⟨fn,c0,h1,h2,k.trans h3⟩
structure RunOk (P:Program) (tb:Tab) (n:Nat) (r:Runner):Prop where
 code:∀ (g:FuncId) (c:Code) (t:Tm) (st:St) (k:Out→Res) (os:List Out),OfFn P g c→r (.code g c) t st k=some os →
  ∀ (B:Base) (ρ:Env) (a:Act) (w:World) (Q:Exit→Act→World→Prop),RepW B ρ st w→TmRep ρ t a→CodeRes B ρ Q k os→c.wp P Q a w
 rounds:∀ (g:FuncId) (c:Code) (t:Tm) (st:St) (k:Out→Res) (os:List Out),OfFn P g c→r (.rounds g c) t st k=some os →
  ∀ (B:Base) (ρ:Env) (a:Act) (w:World) (Q:Exit→Act→World→Prop),RepW B ρ st w→TmRep ρ t a→CodeRes B ρ Q k os→Code.rounds P c Q n a w
 call:∀ (g:FuncId) (args:List SV) (t:Tm) (st:St) (k:Out→Res) (os:List Out),r (.call g args) t st k=some os →
  ∀ (B:Base) (ρ:Env) (w:World) (R:Ending→World→Prop),RepW B ρ st w→SV.oks ρ args→CallRes B ρ R k os→Calls P g (SV.dens ρ args).toArray w R
 draw:∀ (ops:Array Oper) (id:Nat) (t:Tm) (st:St) (k:Out→Res) (os:List Out),r (.draw ops.toList ops.size) t st k=some os →
  ∀ (B:Base) (ρ:Env) (a:Act) (w:World) (Q:Exit→Act→World→Prop),RepW B ρ st w→TmRep ρ t a→CodeRes B ρ Q k os→(Code.region id ops true).wp P Q a w
 layer:∀ (ops:Array Oper),noSel ops.toList=true→∀ (l:List Node) (t:Tm) (st:St) (k:Out→Res) (os:List Out),r (.layer ops.toList (infosOf ops.toList ops.toList) l) t st k=some os →
  ∀ (B:Base) (ρ:Env) (K:Act→World→Prop),ContRes B ρ K (fun t st=>k ⟨.normal,t,st⟩) os →
  ∀ x∈l,∀ (ρ':Env) (listed:Array Bool) (a:Act) (w:World),ρ.Ext ρ'→RepW B ρ' x.st w→TmRep ρ' x.tmps a→listed.size=ops.size→(∀ j,listed.getD j false=x.listed.testBit j) →
   wpAny P .any ops (fun e a w=>match e with | .normal=>K a w | _=>False) x.left listed a w
section
variable {P : Program} {tb : Tab} (ht : TabOk P tb) (hng : ∀ (f : Nat) (fn : Func), P.funcs[f]? = some fn → (fn.name == "runtime.NumGoroutine") = false)
include ht hng
theorem callS_ok {ρ:Env} {t:Tm} {a:Act} (hT:TmRep ρ t a) {o:Oper} {c:Call} (ho:o.op=.call c) {g:FuncId} {args:List SV} (h:callS tb t c=some (g,args)) (w:World) :
  (execOp a.eval o).run P w=.ok (.enter g (SV.dens ρ args).toArray) w∧SV.oks ρ args:=by
 have hev:=hT.eval
 unfold callS at h
 split at h
 ·rename_i f hf
  split at h
  ·rename_i g' fi ca vs hfv hvs
   split at h
   ·rename_i fn hfn
    split at h
    ·rename_i body hb
     simp only [Option.some.injEq,Prod.mk.injEq] at h
     obtain ⟨rfl,rfl⟩:=h
     have h1:=evList_ok hev _ _ hvs
     have e1:c.args.map a.eval=(SV.dens ρ vs).toArray:=by apply Array.ext'; simpa using h1
     have h2:=ht.fn _ _ hfn
     have h3:=hng _ _ h2
     have hfo:=hT.wf _ _ hfv
     simp only [SV.ok] at hfo
     refine ⟨?_,by
      rw [SV.oks_iff] at *
      intro v hv
      simp only [List.mem_append] at hv
      rcases hv with hv | hv | hv
      ·exact hfo.1 v hv
      ·exact (SV.oks_iff _).1 (evList_wf hT.wf _ _ hvs) v hv
      ·exact (SV.oks_iff _).1 hfo.2 v hv⟩
     simp only [execOp,ho,resolve,hf,hev _ _ hfv,SV.den,Deferred.ofValue,Sem.run_bind,Sem.run_pure,Result.andThen_ok,invoke,callFunc,run_program,h2,h3,e1]
     rw [hb]
     simp [SV.dens_eq]
    ·cases h
   ·cases h
  ·cases h
 ·cases h
omit ht hng in
theorem putOuts_ok {B:Base} {ρ:Env} {K:Act→World→Prop} {k:Cont} {os:List Out} (hK:ContRes B ρ K k os) {t:Tm} {d:Option Tmp}:∀ (l:List (SV × St)) (os':List Out),putOuts t d k l=some os'→(∀ y∈os',y∈os) →
  ∀ x∈l,∀ (ρ2:Env) {a:Act} (w:World),TmRep ρ2 t a→ρ.Ext ρ2→RepW B ρ2 x.2 w→x.1.ok ρ2→K (a.put d (x.1.den ρ2)) w
 | [],os',h,hs,x,hx=>by cases hx
 | y::ys,os',h,hs,x,hx=>by
  intro ρ2 a w hT he hr hv
  simp only [putOuts] at h
  obtain ⟨l1,l2,h1,h2,h3,h4⟩:=join_some h
  cases hx with
  | head =>
   rw [putK_eq] at h1
   exact hK _ _ _ _ _ _ h1 (fun z hz=>hs z (h3 z hz)) he hr (hT.put d _ hv)
  | tail _ hm=>exact putOuts_ok hK ys l2 h2 (fun z hz=>hs z (h4 z hz)) x hm ρ2 w hT he hr hv
theorem stepCallee_ok {n:Nat} {rec:Runner} (hrec:RunOk P tb n rec) {o:Oper} {t:Tm} {st:St} {k:Cont} {os:List Out} (h:stepCallee tb rec o t st k=some os)
  {B:Base} {ρ:Env} {a:Act} {w:World} (hr:RepW B ρ st w) (hT:TmRep ρ t a) {K:Act→World→Prop} (hK:ContRes B ρ K k os) (Q:Exit→Act→World→Prop):o.wp P a w K Q:=by
 unfold stepCallee at h
 unfold Oper.wp
 split at h
 ·rename_i c hc
  split at h
  ·rename_i g args hca
   split at h
   ·rename_i hsc
    obtain ⟨hcs,hco⟩:=callS_ok ht hng hT hc hca w
    rw [hcs,Oper.upon_enter]
    split at h
    ·rename_i rs hrs
     have hraw:rawOuts rs=[]:=rfl
     rw [hraw] at h
     simp only at h
     split at h
     ·rename_i l hl
      refine hrec.call _ _ _ _ _ _ hrs B ρ w _ hr hco ?_
      intro r ρ' w' os' v a' b' h1 h2 h3 h4 h5 h6
      simp only [Option.some.injEq] at h1
      have hmem:=h2 r (by rw [← h1]; simp)
      obtain ⟨x,hx,ρ2,k1,k2,k3,k4⟩:=(callOuts_ok ht.facts hr rs [] l hl).2 r hmem v a' b' h5 ρ' w' h3 h4 h6
      have hs:tmScoped ρ.vs.length ρ.bs.length t=true:=by rw [hr.nv,hr.nb]; exact hsc
      rw [← k4]
      exact putOuts_ok hK l os h (fun y hy=>hy) x hx ρ2 w' (hT.ext k1 hs) k1 k2 k3
     ·cases h
    ·cases h
   ·cases h
  ·cases h
 ·cases h
theorem stepEff_ok {n:Nat} {rec:Runner} (hrec:RunOk P tb n rec) {o:Oper} {t:Tm} {k:Cont} {a:Act} {K:Act→World→Prop} (Q:Exit→Act→World→Prop) :
  ∀ (m:Nat) {st:St} {os:List Out},stepEff tb rec o t k m st=some os→∀ {B:Base} {ρ:Env} {w:World},RepW B ρ st w→TmRep ρ t a→ContRes B ρ K k os→o.wp P a w K Q
 | 0,st,os,h,B,ρ,w,hr,hT,hK=>by cases h
 | m + 1,st,os,h0,B,ρ,w,hr,hT,hK=>by
  have h:(match effOp tb t st o.op with
   | .val v st=>putK t o.dst v fun tmps=>k tmps st
   | .skip st=>putK t o.dst .undef fun tmps=>k tmps st
   | .ask e=>join (stepEff tb rec o t k m { st with pc:=e::st.pc }) (stepEff tb rec o t k m { st with pc:=mkNot e::st.pc })
   | .lack e=>lackAt o.pos st e
   | .bad=>match effOp2 tb t st o.op with
    | .val v st=>putK t o.dst v fun tmps=>k tmps st
    | .skip st=>putK t o.dst .undef fun tmps=>k tmps st
    | .ask e=>join (stepEff tb rec o t k m { st with pc:=e::st.pc }) (stepEff tb rec o t k m { st with pc:=mkNot e::st.pc })
    | .lack e=>lackAt o.pos st e
    | .bad=>stepCallee tb rec o t st k)=some os:=h0
  have heff:=effOp_ok ht hr hT o
  have heff2:=effOp2_ok ht hr hT o
  have hval:∀ {v:SV} {st':St},(∃ ρ' w',ρ.Ext ρ'∧RepW B ρ' st' w'∧TmRep ρ' t a∧v.ok ρ'∧(execOp a.eval o).run P w=.ok (.value (v.den ρ')) w')→putK t o.dst v (fun tmps=>k tmps st')=some os→o.wp P a w K Q:=by
   intro v st' heff h
   obtain ⟨ρ',w',h1,h2,h3,hv,h4⟩:=heff
   rw [putK_eq] at h
   unfold Oper.wp
   rw [h4,Oper.upon_value]
   exact hK _ _ _ _ _ _ h (fun x hx=>hx) h1 h2 (h3.put _ _ hv)
  have hskip:∀ {st':St},(∃ ρ' w',ρ.Ext ρ'∧RepW B ρ' st' w'∧TmRep ρ' t a∧(execOp a.eval o).run P w=.ok .skip w')→putK t o.dst .undef (fun tmps=>k tmps st')=some os→o.wp P a w K Q:=by
   intro st' heff h
   obtain ⟨ρ',w',h1,h2,h3,h4⟩:=heff
   rw [putK_eq] at h
   unfold Oper.wp
   rw [h4,Oper.upon_skip]
   have h5:=h3.put o.dst SV.undef (undef_wf _)
   rw [SV.undef_den] at h5
   exact hK _ _ _ _ _ _ h (fun x hx=>hx) h1 h2 h5
  have hask:∀ {e:E},join (stepEff tb rec o t k m { st with pc:=e::st.pc }) (stepEff tb rec o t k m { st with pc:=mkNot e::st.pc })=some os→o.wp P a w K Q:=by
   intro e h
   obtain ⟨l,r,h1,h2,h3,h4⟩:=join_some h
   cases hb:e.B ρ with
   | true=>exact stepEff_ok hrec Q m h1 (hr.assume hb) hT (hK.sub h3)
   | false=>exact stepEff_ok hrec Q m h2 (hr.assume (by rw [mkNot_B,hb]; rfl)) hT (hK.sub h4)
  split at h
  ·rename_i v st' he
   rw [he] at heff
   exact hval heff h
  ·rename_i st' he
   rw [he] at heff
   exact hskip heff h
  ·exact hask h
  ·cases h
  ·split at h
   ·rename_i v st' he
    rw [he] at heff2
    exact hval heff2 h
   ·rename_i st' he
    rw [he] at heff2
    exact hskip heff2 h
   ·exact hask h
   ·cases h
   ·exact stepCallee_ok ht hng hrec h hr hT hK Q
theorem stepGo_ok {n:Nat} {rec:Runner} (hrec:RunOk P tb n rec) {o:Oper} {t:Tm} {st:St} {k:Cont} {os:List Out} (h:stepGo P tb rec o t st k=some os)
  {B:Base} {ρ:Env} {a:Act} {w:World} (hr:RepW B ρ st w) (hT:TmRep ρ t a) {K:Act→World→Prop} (hK:ContRes B ρ K k os) (Q:Exit→Act→World→Prop):o.wp P a w K Q:=by
 unfold stepGo at h
 split at h
 ·rename_i v hv
  unfold Oper.wp
  rw [putK_eq] at h
  rw [pureOp_ok ht hT.eval hT.wf hv w,Oper.upon_value]
  exact hK _ _ _ _ _ _ h (fun x hx=>hx) (Env.Ext.refl ρ) hr (hT.put _ _ (pureOp_wf hT.wf hv))
 ·exact stepEff_ok ht hng hrec Q 40 h hr hT hK
theorem stepOper_ok {n:Nat} {rec:Runner} (hrec:RunOk P tb n rec) {ops:Array Oper} {o:Oper} {t:Tm} {st:St} {k:Cont} {os:List Out} (h:stepOper P tb rec ops.toList o t st k=some os)
  {B:Base} {ρ:Env} {a:Act} {w:World} (hr:RepW B ρ st w) (hT:TmRep ρ t a) {K:Act→World→Prop} (hK:ContRes B ρ K k os) (Q:Exit→Act→World→Prop) :
  if Region.wanted o (yielded ops a.tmps) then o.wp P a w K Q else K (a.put o.dst undef) w:=by
 unfold stepOper at h
 have hw:=wantS_ok (ops:=ops) hT o
 have hundef:∀ {t':Tm},TmRep ρ t' a→TmRep ρ (match o.dst with | none=>t' | some d=>t'.set d SV.undef) (a.put o.dst undef):=by
  intro t' h'
  have h5:=h'.put o.dst SV.undef (undef_wf _)
  rw [SV.undef_den] at h5
  exact h5
 split at h
 ·rename_i hq
  rw [hq] at hw
  rw [if_pos hw]
  exact stepGo_ok ht hng hrec h hr hT hK Q
 ·rename_i hq
  rw [hq] at hw
  rw [if_neg (by simp [hw])]
  rw [putK_eq] at h
  exact hK _ _ _ _ _ _ h (fun x hx=>hx) (Env.Ext.refl ρ) hr (hundef hT)
 ·cases h
 ·rename_i s e want hq
  rw [hq] at hw
  obtain ⟨hs,hw⟩:=hw
  split at h
  ·rename_i b hb
   have hb':=knownE_ok ht.facts hr.pc hb
   rw [T.setK_eq] at h
   have hT':=hT.relabel hs hb'
   split at h
   ·rename_i hbw
    have:=boolB_eq hbw; subst this
    rw [if_pos (by rw [hw,hb']; simp)]
    exact stepGo_ok ht hng hrec h hr hT' hK Q
   ·rename_i hbw
    have:=boolB_ne hbw
    rw [if_neg (by rw [hw,hb']; simpa using this)]
    rw [putK_eq] at h
    exact hK _ _ _ _ _ _ h (fun x hx=>hx) (Env.Ext.refl ρ) hr (hundef hT')
  ·obtain ⟨l,m,h1,h2,h3,h4⟩:=join_some h
   rw [T.setK_eq] at h1
   rw [T.setK_eq,putK_eq] at h2
   by_cases hc:e.B ρ=want
   ·rw [if_pos (by rw [hw,hc]; simp)]
    refine stepGo_ok ht hng hrec h1 (hr.assume ?_) (hT.relabel hs hc) (hK.sub h3) Q
    cases want <;> simp [mkNot_B,hc]
   ·rw [if_neg (by rw [hw]; simpa using hc)]
    have hc':e.B ρ=!want:=by
     cases hx:e.B ρ <;> cases want <;> simp_all
    refine hK _ _ _ _ _ _ h2 h4 (Env.Ext.refl ρ) (hr.assume ?_) (hundef (hT.relabel hs hc'))
    cases want <;> simp [mkNot_B,hc']
theorem stepOps_ok {n:Nat} {rec:Runner} (hrec:RunOk P tb n rec) {ops:Array Oper} {Q:Exit→Act→World→Prop}:∀ (l:List Oper) {t:Tm} {st:St} {k:Cont} {os:List Out},stepOps P tb rec ops.toList l t st k=some os →
  ∀ {B:Base} {ρ:Env} {a:Act} {w:World},RepW B ρ st w→TmRep ρ t a→ContRes B ρ (fun a w=>Q .normal a w) k os→wpList P ops Q l a w
 | [],t,st,k,os,h,B,ρ,a,w,hr,hT,hK=>hK _ _ _ _ _ _ h (fun x hx=>hx) (Env.Ext.refl ρ) hr hT
 | o::l,t,st,k,os,h,B,ρ,a,w,hr,hT,hK=>by
  have h':stepOper P tb rec ops.toList o t st (fun t st=>stepOps P tb rec ops.toList l t st k)=some os:=h
  have:=stepOper_ok ht hng hrec h' hr hT (K:=wpList P ops Q l) (fun t st ρ' a' w' os' h1 h2 h3 h4 h5 =>
   stepOps_ok hrec l h1 h4 h5 ((hK.ext h3).sub h2)) Q
  unfold wpList
  split
  ·rename_i hw; rw [if_pos hw] at this; exact .inl this
  ·rename_i hw; rw [if_neg hw] at this; exact this
end
end Go.SX

namespace Go.SX
theorem lor_bit (a b t:Nat):(Nat.lor a b).testBit t=(a.testBit t || b.testBit t):=Nat.testBit_or a b t
theorem land_bit (a b t:Nat):(Nat.land a b).testBit t=(a.testBit t && b.testBit t):=Nat.testBit_and a b t
theorem pow_bit (i t:Nat):(Nat.pow 2 i).testBit t=decide (i=t):=Nat.testBit_two_pow
theorem land_zero {a b:Nat} (h:Nat.beq (Nat.land a b) 0=true) (t:Nat):¬ (a.testBit t=true∧b.testBit t=true):=by
 rintro ⟨h1,h2⟩
 have:=land_bit a b t
 rw [Nat.eq_of_beq_eq_true h,h1,h2] at this
 simp at this
theorem waitsOf_bit:∀ (es:List Edge) (j:Nat),(waitsOf es).testBit j=true↔∃ e∈es,Region.binds .any e=true∧e.on=j
 | [],j=>by simp [waitsOf]
 | e::es,j=>by
  have ih:=waitsOf_bit es j
  simp only [waitsOf]
  split
  ·rename_i hb
   rw [lor_bit,pow_bit,Bool.or_eq_true,ih,decide_eq_true_eq]
   constructor
   ·rintro (h | ⟨x,hx,h1,h2⟩)
    ·exact ⟨e,by simp,hb,h⟩
    ·exact ⟨x,by simp [hx],h1,h2⟩
   ·rintro ⟨x,hx,h1,h2⟩
    cases hx with
    | head=>exact .inl h2
    | tail _ hm=>exact .inr ⟨x,hm,h1,h2⟩
  ·rename_i hb
   rw [ih]
   constructor
   ·rintro ⟨x,hx,h1,h2⟩; exact ⟨x,by simp [hx],h1,h2⟩
   ·rintro ⟨x,hx,h1,h2⟩
    cases hx with
    | head=>rw [hb] at h1; cases h1
    | tail _ hm=>exact ⟨x,hm,h1,h2⟩
theorem readsOf_bit:∀ (xs:List Operand) (t:Nat),(readsOf xs).testBit t=true↔t∈(xs.filterMap fun | .tmp t=>some t | _=>none)
 | [],t=>by simp [readsOf]
 | x::xs,t=>by
  have ih:=readsOf_bit xs t
  cases x with
  | tmp u =>
   simp only [readsOf,lor_bit,pow_bit,Bool.or_eq_true,ih,decide_eq_true_eq,List.filterMap_cons,List.mem_cons]
   constructor
   ·rintro (h | h)
    ·exact .inl h.symm
    ·exact .inr h
   ·rintro (h | h)
    ·exact .inl h.symm
    ·exact .inr h
  | const v=>simpa [readsOf] using ih
  | global g=>simpa [readsOf] using ih
  | func f=>simpa [readsOf] using ih
theorem bitOf_bit (d:Option Tmp) (t:Nat):(bitOf d).testBit t=true↔d=some t:=by
 cases d with
 | none=>simp [bitOf]
 | some u=>show (Nat.pow 2 u).testBit t=true↔_; rw [pow_bit]; simp
theorem reads_bit (ops:Array Oper) (o:Oper) (t:Nat):(infoK ops.toList o).reads.testBit t=true↔t∈o.looksAt ops:=by
 simp only [infoK,lor_bit,Bool.or_eq_true,readsOf_bit,Oper.looksAt,List.mem_append]
 rw [or_comm]
 refine or_congr Iff.rfl ?_
 unfold guardOf
 cases o.guard with
 | none=>simp
 | some q =>
  obtain ⟨j,w⟩:=q
  simp only [bitOf_bit,slotOf_eq]
  cases (ops[j]?).bind (·.dst) <;> simp [eq_comm]
theorem infosOf_get (all:List Oper):∀ (l:List Oper) (i:Nat),(infosOf all l)[i]?=l[i]?.map (infoK all)
 | [],i=>by simp [infosOf]
 | o::os,i=>by
  cases i with
  | zero=>simp [infosOf]
  | succ i=>simpa [infosOf] using infosOf_get all os i
theorem apart_of_masks {ops:Array Oper} {x y:Oper} (h1:Nat.beq (Nat.land (infoK ops.toList x).dst (infoK ops.toList y).reads) 0=true)
  (h2:Nat.beq (Nat.land (infoK ops.toList x).dst (infoK ops.toList y).dst) 0=true) (h3:Nat.beq (Nat.land (infoK ops.toList y).dst (infoK ops.toList x).reads) 0=true):x.apart ops y=true:=by
 have k1:∀ d,x.dst=some d→d ∉ y.looksAt ops:=fun d hd hm=>land_zero h1 d ⟨(bitOf_bit _ _).2 hd,(reads_bit ops y d).2 hm⟩
 have k2:∀ d,x.dst=some d→y.dst≠some d:=fun d hd hm=>land_zero h2 d ⟨(bitOf_bit _ _).2 hd,(bitOf_bit _ _).2 hm⟩
 have k3:∀ d,y.dst=some d→d ∉ x.looksAt ops:=fun d hd hm=>land_zero h3 d ⟨(bitOf_bit _ _).2 hd,(reads_bit ops x d).2 hm⟩
 unfold Oper.apart
 rw [Bool.and_eq_true]
 constructor
 ·cases hx:x.dst with
  | none=>rfl
  | some d=>simp [k1 d hx,k2 d hx]
 ·cases hy:y.dst with
  | none=>rfl
  | some d=>simp [k3 d hy]
theorem noSel_ok:∀ (l:List Oper),noSel l=true→∀ (j:Nat) (o:Oper) cs b,l[j]?=some o→o.op≠.select cs b
 | [],_,j,o,cs,b,h=>by simp at h
 | x::xs,hn,j,o,cs,b,h=>by
  simp only [noSel] at hn
  split at hn
  ·cases hn
  ·rename_i hx
   cases j with
   | zero=>simp at h; subst h; exact fun e=>hx _ _ e
   | succ j=>exact noSel_ok xs hn j o cs b (by simpa using h)
end Go.SX

namespace Go.SX
section
variable {P : Program} {ops : Array Oper}
def YieldsP (P:Program) (ops:Array Oper) (o:Oper) (v:Value) (a:Act):Prop :=
 (Region.wanted o (yielded ops a.tmps)=true∧∀ w,(execOp a.eval o).run P w=.ok (.value v) w)∨(Region.wanted o (yielded ops a.tmps)=false∧v=undef)
theorem YieldsP.of_same {o:Oper} {v:Value} {a a':Act} (hy:YieldsP P ops o v a) (he:execOp a'.eval o=execOp a.eval o)
  (hw:Region.wanted o (yielded ops a'.tmps)=Region.wanted o (yielded ops a.tmps)):YieldsP P ops o v a':=by
 unfold YieldsP at *
 rw [he,hw]; exact hy
def onlyN (K:Act→World→Prop):Exit→Act→World→Prop:=fun e a w=>match e with | .normal=>K a w | _=>False
theorem YieldsP.wpOp {i:Nat} {o:Oper} {v:Value} {a:Act} {w:World} {K:Act→World→Prop} {Q:Exit→Act→World→Prop} (hi:ops[i]?=some o) (hy:YieldsP P ops o v a) (h:K (a.put o.dst v) w):wpOp P ops Q i K a w:=by
 unfold Go.wpOp
 simp only [hi]
 rcases hy with ⟨hw,hv⟩ | ⟨hw,rfl⟩
 ·rw [if_pos hw]
  left
  unfold Oper.wp
  rw [hv w,Oper.upon_value]; exact h
 ·rw [if_neg (by simp [hw])]; exact h
theorem wpOp_put {j:Nat} {oi oj:Oper} {v:Value} (hj:ops[j]?=some oj) (hap:oi.apart ops oj=true)
  (hsi:∀ cs b,oi.op≠.select cs b) (hsj:∀ cs b,oj.op≠.select cs b) {L:Act→World→Prop} {K:Act→World→Prop} {a:Act} {w:World}
  (hy:YieldsP P ops oi v a) (h:wpOp P ops (onlyN L) j K (a.put oi.dst v) w) :
  wpOp P ops (onlyN L) j (fun a' w'=>YieldsP P ops oi v a'∧K (a'.put oi.dst v) w') a w:=by
 obtain ⟨h1,h2,h3⟩:=Oper.apart_spec hap
 have keep:∀ (a:Act),YieldsP P ops oi v a→∀ u,YieldsP P ops oi v (a.put oj.dst u):=fun a hy u =>
  hy.of_same (execOp_put oi hsi a oj.dst u h3) (wanted_put oi a oj.dst u h3)
 unfold wpOp at *
 simp only [hj] at *
 rw [wanted_put oj a oi.dst v h1] at h
 split
 ·rename_i hw
  rw [if_pos hw] at h
  rcases h with h | h
  ·left
   unfold Oper.wp at *
   rw [execOp_put oj hsj a oi.dst v h1] at h
   generalize (execOp a.eval oj).run P w=r at *
   cases r with
   | ok n w' =>
    cases n <;> simp only [Oper.upon] at h ⊢
    case value u=>exact ⟨keep a hy u,by rw [← Act.put_comm a v u h2]; exact h⟩
    case skip=>exact ⟨keep a hy _,by rw [← Act.put_comm a v undef h2]; exact h⟩
    case defer d =>
     have e1:({ a.put oi.dst v with defers:=d::(a.put oi.dst v).defers }:Act)=({ a with defers:=d::a.defers }:Act).put oi.dst v:=by cases oi.dst <;> rfl
     rw [e1,Act.put_comm ({ a with defers:=d::a.defers }:Act) v undef h2] at h
     refine ⟨?_,h⟩
     have hb:YieldsP P ops oi v ({ a with defers:=d::a.defers }:Act):=hy.of_same (by congr 1) rfl
     exact keep _ hb _
    case enter f args =>
     refine h.mono ?_
     intro e w'' he
     cases e with
     | returned u=>exact ⟨keep a hy u,by rw [← Act.put_comm a v u h2]; exact he⟩
     | panicked c=>exact he
     | outgrown=>exact he
    case row rw' args =>
     refine Rows.mono h ?_
     intro u w'' he
     exact ⟨keep a hy u,by rw [← Act.put_comm a v u h2]; exact he⟩
   | halt x w'=>cases x <;> simp only [Oper.upon] at h ⊢ <;> exact h
  ·obtain ⟨_,_,_,h'⟩:=h
   exact h'.elim
 ·rename_i hw
  rw [if_neg hw] at h
  exact ⟨keep a hy _,by rw [← Act.put_comm a v undef h2]; exact h⟩
theorem wpAny_first {md:Region.Mode} {L:Act→World→Prop} {i:Nat} {oi:Oper} {v:Value} (hi:ops[i]?=some oi) (hsel:∀ (j:Nat) (o:Oper) cs b,ops[j]?=some o→o.op≠.select cs b) :
  ∀ (fuel:Nat) (listed:Array Bool) (a:Act) (w:World),
   (∀ j oj,ops[j]?=some oj→j≠i→listed.getD j true=false→(∀ e∈oj.after,Region.binds md e=true→e.on≠i)→oi.apart ops oj=true) →
   i∈Region.ready md ops listed→YieldsP P ops oi v a →
   wpAny P md ops (onlyN L) fuel (listed.setIfInBounds i true) (a.put oi.dst v) w→wpAny P md ops (onlyN L) (fuel + 1) listed a w:=by
 intro fuel
 induction fuel with
 | zero =>
  intro listed a w _ hr hy H
  refine ⟨fun h=>(by rw [h] at hr; cases hr),fun j hj=>?_⟩
  by_cases hji:j=i
  ·subst hji; exact hy.wpOp hi H
  ·have:=ready_mono hj hji
   rw [H.1] at this
   cases this
 | succ fuel ih =>
  intro listed a w hfree hr hy H
  refine ⟨fun h=>(by rw [h] at hr; cases hr),fun j hj=>?_⟩
  by_cases hji:j=i
  ·subst hji; exact hy.wpOp hi H
  ·have h1:=H.2 j (ready_mono hj hji)
   obtain ⟨hjun,oj,hoj,hall⟩:=mem_ready.1 hj
   have hnot:∀ e∈oj.after,Region.binds md e=true→e.on≠i:=fun e he hb heq=>by
    have h1:=hall e he hb
    have h0:=(mem_ready.1 hr).1
    rw [heq] at h1
    rcases Nat.lt_or_ge i listed.size with h' | h'
    ·simp [h'] at h0 h1; rw [h0] at h1; cases h1
    ·simp [Array.getElem?_eq_none h'] at h1
   have h2:=wpOp_put hoj (hfree j oj hoj hji hjun hnot) (fun cs b=>hsel i oi cs b hi) (fun cs b=>hsel j oj cs b hoj) hy h1
   have hfree':∀ k ok,ops[k]?=some ok→k≠i→(listed.setIfInBounds j true).getD k true=false →
     (∀ e∈ok.after,Region.binds md e=true→e.on≠i)→oi.apart ops ok=true:=fun k ok hk hki hun hno=>by
    refine hfree k ok hk hki ?_ hno
    by_cases hjk:j=k
    ·subst hjk; exact hjun
    ·rw [getD_set_ne true hjk] at hun; exact hun
   refine wpOp_mono (fun a' w' h3=>ih (listed.setIfInBounds j true) a' w' hfree' (ready_mono hr (Ne.symm hji)) h3.1 ?_) h2
   rw [Array.setIfInBounds_comm _ _ hji]
   exact h3.2
end
end Go.SX

namespace Go.SX
theorem least {p:Nat→Prop} (h:∃ n,p n):∃ n,p n∧∀ m,p m→n≤m:=by
 obtain ⟨n,hn⟩:=h
 induction n using Nat.strongRecOn with
 | _ n ih =>
  by_cases hm:∃ m,p m∧m < n
  ·obtain ⟨m,h1,h2⟩:=hm
   exact ih m h2 h1
  ·refine ⟨n,hn,fun m hm'=>?_⟩
   rcases Nat.lt_or_ge m n with hlt | hge
   ·exact absurd ⟨m,hm',hlt⟩ hm
   ·exact hge
theorem fitsAny_ok {fs:List E} {n0 b0:Nat} {t:Tm} {st:St} {bound:Option E} {z:Sub}:∀ (l:List Tmpl) (why:Option E),fitsAny fs n0 b0 t st bound l why=.ok z →
  ∃ τ∈l,fitsN fs n0 b0 t st τ=.ok z∧∀ m,bound=some m→ltE fs st.pc (τ.less.sub z.n0 z.es) m=true∧nonneg fs st.pc (τ.less.sub z.n0 z.es)=true
 | [],why,h=>by simp only [fitsAny] at h; split at h <;> cases h
 | τ::τs,why,h=>by
  simp only [fitsAny] at h
  split at h
  ·rename_i y hy
   split at h
   ·simp only [Fit.ok.injEq] at h; subst h
    exact ⟨τ,by simp,hy,fun m hm=>by cases hm⟩
   ·rename_i m
    split at h
    ·rename_i h1
     split at h
     ·rename_i h2
      simp only [Fit.ok.injEq] at h; subst h
      exact ⟨τ,by simp,hy,fun m' hm=>by cases hm; exact ⟨h1,h2⟩⟩
     ·cases h
    ·cases h
  ·obtain ⟨τ',h1,h2⟩:=fitsAny_ok τs _ h
   exact ⟨τ',List.mem_cons_of_mem _ h1,h2⟩
  ·obtain ⟨τ',h1,h2⟩:=fitsAny_ok τs _ h
   exact ⟨τ',List.mem_cons_of_mem _ h1,h2⟩
theorem fitRes_ok {t:Tm} {st:St} {f:Fit} {r:Res} {os:List Out} (h:fitRes t st f r=some os):(∃ z,f=.ok z)∧r=some os:=by
 unfold fitRes at h
 split at h
 ·exact ⟨⟨_,rfl⟩,h⟩
 ·cases h
theorem tmplsScp_ok {n0 b0:Nat}:∀ (l:List Tmpl),tmplsScp n0 b0 l=true→∀ τ∈l,n0≤τ.st.nv∧b0≤τ.st.nb∧τ.scp=true
 | [],_,τ,h=>by cases h
 | x::xs,h,τ,hm=>by
  simp only [tmplsScp] at h
  split at h
  ·rename_i h1
   simp only [Bool.and_eq_true,Nat.ble_eq] at h1
   cases hm with
   | head=>exact ⟨h1.1.1,h1.1.2,h1.2⟩
   | tail _ hm=>exact tmplsScp_ok xs h τ hm
  ·cases h
theorem loopRuns_ok {tb:Tab} {rec:Runner} {g:FuncId} {b:Code} {n0 b0:Nat} {ts:List Tmpl} {k:Out→Res}:∀ (l:List Tmpl) (os:List Out),loopRuns tb rec g b n0 b0 ts k l=some os →
  ∀ τ∈l,∃ os',(∀ x∈os',x∈os)∧rec (.code g b) τ.tmps τ.st (fun o=>match o.ex with
   | .normal=>fitRes o.tmps o.st (fitsAny tb.facts n0 b0 o.tmps o.st (some τ.less) ts none) (some [])
   | _=>k o)=some os'
 | [],os,_,τ,h=>by cases h
 | x::xs,os,h,τ,hm=>by
  simp only [loopRuns] at h
  obtain ⟨l,m,h1,h2,h3,h4⟩:=join_some h
  cases hm with
  | head=>exact ⟨l,h3,h1⟩
  | tail _ hm =>
   obtain ⟨os',h5,h6⟩:=loopRuns_ok xs m h2 τ hm
   exact ⟨os',fun x hx=>h4 x (h5 x hx),h6⟩
def LoopOk (P:Program) (x:Ann):Prop :=
 ∀ y,x.known=some y→∀ b,OfFn P x.fn (.loop b)→keyOf b=some x.key→∀ (B:Base) (ρ0:Env) (a:Act) (w:World) (Q:Exit→Act→World→Prop),ρ0.vs.length=y.n0→ρ0.bs.length=y.b0 →
  (∃ τ∈x.ts,∃ ρ',ρ0.Ext ρ'∧RepW B ρ' τ.st w∧TmRep ρ' τ.tmps a) →
  (∀ o∈y.xs,∀ (ρ':Env) (a':Act) (w':World),ρ0.Ext ρ'→RepW B ρ' o.st w'→TmRep ρ' o.tmps a'→Q (exOf o.ex) a' w')→(Code.loop b).wp P Q a w
theorem exitOuts_ok {k:Out→Res}:∀ (l:List Out) (os:List Out),exitOuts k l=some os→∀ o∈l,∃ os',k o=some os'∧∀ x∈os',x∈os
 | [],os,h,o,ho=>by cases ho
 | x::xs,os,h,o,ho=>by
  simp only [exitOuts] at h
  obtain ⟨l,m,h1,h2,h3,h4⟩:=join_some h
  cases ho with
  | head=>exact ⟨l,h1,h3⟩
  | tail _ hm =>
   obtain ⟨os',h5,h6⟩:=exitOuts_ok xs m h2 o hm
   exact ⟨os',h5,fun x hx=>h4 x (h6 x hx)⟩
theorem findAnn_ok {g key:Nat}:∀ (l:List Ann) {x:Ann},findAnn g key l=some x→x∈l∧x.fn=g∧x.key=key
 | [],x,h=>by cases h
 | y::ys,x,h=>by
  simp only [findAnn] at h
  split at h
  ·rename_i h1
   split at h
   ·rename_i h2
    simp only [Option.some.injEq] at h; subst h
    exact ⟨by simp,Nat.eq_of_beq_eq_true h1,Nat.eq_of_beq_eq_true h2⟩
   ·obtain ⟨k1,k2⟩:=findAnn_ok ys h; exact ⟨List.mem_cons_of_mem _ k1,k2⟩
  ·obtain ⟨k1,k2⟩:=findAnn_ok ys h; exact ⟨List.mem_cons_of_mem _ k1,k2⟩
theorem annOf_ok {tb:Tab} {g:Nat} {b:Code} {x:Ann} (h:annOf tb g b=some x):x∈tb.anns∧x.fn=g∧keyOf b=some x.key:=by
 unfold annOf at h
 split at h
 ·cases h
 ·split at h
  ·rename_i key hk
   obtain ⟨h1,h2,h3⟩:=findAnn_ok _ h
   exact ⟨h1,h2,by rw [hk,h3]⟩
  ·cases h
theorem padH_get:∀ (k n:Nat) (t:T Blk) (i:Nat) (b:Blk),(padH k n t).get i=some b→t.get i=some b∨(b=⟨true,.gone⟩∧i < n + k)
 | 0,n,t,i,b,h=>.inl h
 | k + 1,n,t,i,b,h=>by
  rcases padH_get k (n + 1) _ i b h with h1 | ⟨h1,h2⟩
  ·by_cases e:i=n
   ·subst e
    exact .inr ⟨T.get_ins_self _ _ _ _ h1,by omega⟩
   ·rw [T.get_ins_ne _ _ _ _ e] at h1
    exact .inl h1
  ·exact .inr ⟨h1,by omega⟩
theorem RepW.pad {B:Base} {ρ:Env} {st:St} {w:World} (h:RepW B ρ st w) (hs:st.scp=true) {n b:Nat} (hn:st.nv≤n) (hb:st.nb≤b) :
  ∃ ρ',ρ.Ext ρ'∧RepW B ρ' (st.pad n b) w:=by
 have he:ρ.Ext ⟨ρ.vs++List.replicate (n - st.nv) (.int 0),ρ.bs++List.replicate (b - st.nb) ⟨0,0,false⟩,ρ.fz⟩:=⟨⟨_,rfl⟩,⟨_,rfl⟩,fun _ _ h=>h⟩
 refine ⟨_,he,?_,?_,?_,?_,?_,h.inn.next (fun i x hx=>?_) (fun _ _ hf=>hf),h.fz,h.fr,h.dj,h.os,h.tape,h.output⟩
 ·simp [St.pad,h.nv]; omega
 ·simp [St.pad,h.nb]; omega
 ·exact h.ext_pc hs he
 ·intro i x hx
  rcases padH_get _ _ _ i x hx with h1 | ⟨h1,h2⟩
  ·obtain ⟨k1,k2,k3⟩:=h.blk i x h1
   have hsc:=h.blk_scp hs h1
   have hlt:i < ρ.bs.length:=by rw [h.nb]; exact k1
   refine ⟨Nat.lt_of_lt_of_le k1 hb,?_,fun ho=>by rw [he.blk hlt]; exact k3 ((SObj.real_ext he hsc).1 ho)⟩
   rw [he.blk hlt,he.off hlt,he.nil hlt]
   exact k2.ext he hsc
  ·subst h1
   refine ⟨?_,trivial,fun h=>h.elim⟩
   have:Nat.sub b st.nb=b - st.nb:=rfl
   show i < b
   omega
 ·intro i j x y hx hy lx ly ox oy hij
  rcases padH_get _ _ _ i x hx with h1 | ⟨h1,_⟩
  ·rcases padH_get _ _ _ j y hy with h2 | ⟨h2,_⟩
   ·have hlti:i < ρ.bs.length:=by rw [h.nb]; exact (h.blk i x h1).1
    have hltj:j < ρ.bs.length:=by rw [h.nb]; exact (h.blk j y h2).1
    rw [he.blk hlti,he.blk hltj]
    exact h.inj i j x y h1 h2 ((SObj.real_ext he (h.blk_scp hs h1)).1 lx) ((SObj.real_ext he (h.blk_scp hs h2)).1 ly) ox oy hij
   ·subst h2; exact ly.elim
  ·subst h1; exact lx.elim
 ·rcases padH_get _ _ _ i x hx with h1 | ⟨h1,_⟩
  ·have hlt:i < ρ.bs.length:=by rw [h.nb]; exact (h.blk i x h1).1
   exact .inl ⟨x,h1,(SObj.real_ext he (h.blk_scp hs h1)).1,he.blk hlt,fun r=>(SObj.inner_ext he (h.blk_scp hs h1)).1⟩
  ·subst h1; exact .inr ⟨fun r h=>h,fun hl=>hl.elim⟩
section
variable {P : Program} {tb : Tab} (ht : TabOk P tb)
include ht
open Classical in
theorem stepLoop_ok (hloop:∀ x∈tb.anns,LoopOk P x) {n:Nat} {rec:Runner} (hrec:RunOk P tb n rec) {g:FuncId} {b:Code} {t:Tm} {st:St} {k:Out→Res} {os:List Out} (hof:OfFn P g (.loop b)) (h:stepLoop tb rec g b t st k=some os)
  {B:Base} {ρ:Env} {a:Act} {w:World} {Q:Exit→Act→World→Prop} (hr:RepW B ρ st w) (hT:TmRep ρ t a) (hK:CodeRes B ρ Q k os):(Code.loop b).wp P Q a w:=by
 unfold stepLoop at h
 split at h
 ·exact wp_loop_rounds n (hrec.rounds _ _ _ _ _ _ (hof.part (.loop (.refl b))) h B ρ a w Q hr hT hK)
 ·rename_i x hx
  obtain ⟨hxm,hxf,hxk⟩:=annOf_ok hx
  obtain ⟨ts,hts⟩:∃ ts,ts=x.ts:=⟨_,rfl⟩
  rw [← hts] at h
  split at h
  case h_2 =>
   rename_i y hy
   have key:∀ {st':St} {ρ':Env},stepKnown tb y.n0 y.b0 ts y.xs t st' k=some os→ρ.Ext ρ'→RepW B ρ' st' w→TmRep ρ' t a→st'.nv=y.n0→st'.nb=y.b0→(Code.loop b).wp P Q a w:=by
    intro st' ρ' h he hr' hT' e1 e2
    unfold stepKnown at h
    split at h
    ·rename_i hscp
     obtain ⟨⟨z,hz⟩,hexits⟩:=fitRes_ok h
     obtain ⟨τ,hτ,hfit,_⟩:=fitsAny_ok _ _ hz
     obtain ⟨_,_,hsc⟩:=tmplsScp_ok _ hscp τ hτ
     have n1:ρ'.vs.length=y.n0:=by rw [hr'.nv,e1]
     have n2:ρ'.bs.length=y.b0:=by rw [hr'.nb,e2]
     obtain ⟨h1,h2,h3,h4,h5⟩:=fitsN_ok ht.facts hfit hsc hr' hT' (Env.Ext.refl ρ') n1 n2
     subst hxf
     refine hloop x hxm y hy b hof hxk B ρ' a w Q n1 n2 ⟨τ,by rw [← hts]; exact hτ,_,h3,h4,h5⟩ ?_
     intro o ho ρ2 a' w' k1 k2 k3
     obtain ⟨os',k4,k5⟩:=exitOuts_ok _ _ hexits o ho
     exact hK _ _ _ _ _ k4 k5 (he.trans k1) k2 k3
    ·cases h
   split at h
   ·rename_i hnb
    rw [Bool.and_eq_true] at hnb
    exact key h (Env.Ext.refl ρ) hr hT (Nat.eq_of_beq_eq_true hnb.1) (Nat.eq_of_beq_eq_true hnb.2)
   ·split at h
    ·rename_i hnb
     simp only [Bool.and_eq_true] at hnb
     obtain ⟨⟨⟨m1,m2⟩,m3⟩,m4⟩:=hnb
     obtain ⟨ρ',he,hr'⟩:=hr.pad m3 (Nat.le_of_ble_eq_true m1) (Nat.le_of_ble_eq_true m2)
     exact key h he hr' (hT.ext he (by rw [hr.nv,hr.nb]; exact m4)) rfl rfl
    ·cases h
  split at h
  case h_2=>cases h
  ·rename_i hscp
   obtain ⟨⟨z,hz⟩,hruns⟩:=fitRes_ok h
   let M:Act→World→Nat→Prop:=fun a w m=>∃ τ∈ts,∃ ρ',ρ.Ext ρ'∧RepW B ρ' τ.st w∧TmRep ρ' τ.tmps a∧m=(τ.less.I ρ').toNat
   let μ:Act→World→Nat:=fun a w=>if h:∃ m,M a w m then Classical.choose (least h) else 0
   have hμ:∀ {a w},(∃ m,M a w m)→M a w (μ a w)∧∀ m,M a w m→μ a w≤m:=by
    intro a w hex
    have hs:=Classical.choose_spec (least hex)
    have:μ a w=Classical.choose (least hex):=dif_pos hex
    rw [this]; exact hs
   have enter:∀ {t':Tm} {st':St} {ρ':Env} {a':Act} {w':World} {bound:Option E} {y:Sub},fitsAny tb.facts st.nv st.nb t' st' bound ts none=.ok y→ρ.Ext ρ'→RepW B ρ' st' w'→TmRep ρ' t' a' →
     ∃ τ∈ts,∃ ρ'',ρ.Ext ρ''∧RepW B ρ'' τ.st w'∧TmRep ρ'' τ.tmps a'∧∀ m,bound=some m→τ.less.I ρ'' < m.I ρ'∧0≤τ.less.I ρ'':=by
    intro t' st' ρ' a' w' bound y hy he hr' hT'
    obtain ⟨τ,hτ,hfit,hbd⟩:=fitsAny_ok _ _ hy
    obtain ⟨_,_,hsc⟩:=tmplsScp_ok _ hscp τ hτ
    obtain ⟨h1,h2,h3,h4,h5⟩:=fitsN_ok ht.facts hfit hsc hr' hT' he hr.nv hr.nb
    refine ⟨τ,hτ,_,h3,h4,h5,fun m hm=>?_⟩
    obtain ⟨k1,k2⟩:=hbd m hm
    have k1':=ltE_ok ht.facts hr'.pc k1
    have k2':=nonneg_ok ht.facts hr'.pc k2
    have hn:y.n0≤ρ'.vs.length:=by
     obtain ⟨l,hl⟩:=he.vs
     rw [h1,← hr.nv,hl]; simp
    have hls:τ.less.scp (y.n0 + y.es.length)=true:=by
     simp only [Tmpl.scp,Bool.and_eq_true] at hsc
     rw [h1,Nat.add_comm,h2]; exact hsc.2
    rw [E.sub_I hn hls] at k1' k2'
    exact ⟨k1',k2'⟩
   refine wp_loop (fun a w=>∃ m,M a w m) μ ?_ ?_
   ·obtain ⟨τ,hτ,ρ'',h1,h2,h3,_⟩:=enter hz (Env.Ext.refl ρ) hr hT
    exact ⟨_,τ,hτ,ρ'',h1,h2,h3,rfl⟩
   ·intro a1 w1 hI
    obtain ⟨⟨τ,hτ,ρ',h1,h2,h3,h4⟩,_⟩:=hμ hI
    obtain ⟨os',hsub,hrun⟩:=loopRuns_ok _ _ hruns τ hτ
    refine hrec.code _ _ _ _ _ _ (hof.part (.loop (.refl b))) hrun B ρ' a1 w1 _ h2 h3 ?_
    intro o ρ2 a2 w2 os2 k1 k2 k3 k4 k5
    dsimp only at k1
    cases hex:o.ex with
    | normal =>
     rw [hex] at k1
     obtain ⟨⟨y,hy⟩,_⟩:=fitRes_ok k1
     obtain ⟨τ2,hτ2,ρ3,j1,j2,j3,j4⟩:=enter hy (h1.trans k3) k4 k5
     obtain ⟨j5,j6⟩:=j4 _ rfl
     have hM:M a2 w2 (τ2.less.I ρ3).toNat:=⟨τ2,hτ2,ρ3,j1,j2,j3,rfl⟩
     refine ⟨⟨_,hM⟩,?_⟩
     have hle:=(hμ ⟨_,hM⟩).2 _ hM
     have hsc:=(tmplsScp_ok _ hscp τ hτ).2.2
     have hls:τ.less.scp ρ'.vs.length=true:=by
      simp only [Tmpl.scp,Bool.and_eq_true] at hsc
      rw [h2.nv]; exact hsc.2
     rw [E.scoped_I k3 hls] at j5
     omega
    | exit i =>
     rw [hex] at k1
     have:=hK _ _ _ _ _ k1 (fun x hx=>hsub x (k2 x hx)) (h1.trans k3) k4 k5
     rw [hex] at this; exact this
    | ret =>
     rw [hex] at k1
     have:=hK _ _ _ _ _ k1 (fun x hx=>hsub x (k2 x hx)) (h1.trans k3) k4 k5
     rw [hex] at this; exact this
end
end Go.SX

namespace Go.SX
def resFn (tmps:Array Value):ResultVar→Sem Value
 | .tmp t=>pure (tmps.getD t Go.undef)
 | .cell a t=>do loadVar t (← asAddr (tmps.getD a Go.undef))
def NatOk (P:Program) (x:Nat1):Prop :=
 ∀ (fs:List E),(∀ e∈fs,∀ ρ,e.B ρ=true)→∀ (args:List SV) (st:St) (l:List (SV × St)),x.eff fs args st=.outs l→∀ (B:Base) (ρ:Env) (w:World) (R:Ending→World→Prop),RepW B ρ st w→SV.oks ρ args →
  (∀ y∈l,∀ (ρ':Env) (w':World),ρ.Ext ρ'→RepW B ρ' y.2 w'→y.1.ok ρ'→R (.returned (y.1.den ρ')) w')→Calls P x.fn (SV.dens ρ args).toArray w R
section
variable {P : Program} {tb : Tab} (ht : TabOk P tb) (hnat : ∀ x ∈ tb.nats, NatOk P x) (hng : ∀ (f : Nat) (fn : Func), P.funcs[f]? = some fn → (fn.name == "runtime.NumGoroutine") = false)
include ht hnat hng
omit hng hnat in
theorem resOf_ok {B:Base} {ρ:Env} {st:St} {w:World} (hr:RepW B ρ st w) {t:Tm} {a:Act} (hT:TmRep ρ t a):∀ (rs:List ResultVar) (vs:List SV),resOf tb st t rs=some vs →
  ((rs.mapM (resFn a.tmps):Sem (List Value))).run P w=.ok (SV.dens ρ vs) w
 | [],vs,h=>by simp [resOf] at h; subst h; simp [SV.dens]
 | .tmp i::rs,vs,h=>by
  simp only [resOf] at h
  split at h
  ·rename_i l hl
   have ih:=resOf_ok hr hT rs l hl
   have key:∀ u:SV,a.tmps.getD i undef=u.den ρ→some (u::l)=some vs→(((ResultVar.tmp i::rs).mapM (resFn a.tmps):Sem (List Value))).run P w=.ok (SV.dens ρ vs) w:=by
    intro u hx h
    simp only [Option.some.injEq] at h; subst h
    simp only [List.mapM_cons,Sem.run_bind,resFn,Sem.run_pure,Result.andThen_ok,ih,hx,SV.dens]
   split at h
   ·rename_i u hu
    split at h
    ·cases h
    ·rename_i hj
     refine key u ?_ h
     rw [Array.getD_eq_getD_getElem?,hT.at hu hj]
     rfl
   ·rename_i hu
    refine key SV.undef ?_ h
    rw [Array.getD_eq_getD_getElem?,hT.2.1 i hu]
    simp [SV.undef_den]
  ·cases h
 | .cell x ty::rs,vs,h=>by
  simp only [resOf] at h
  split at h
  ·rename_i y hy
   split at h
   ·rename_i v l hv hl
    simp only [Option.some.injEq] at h; subst h
    have ih:=resOf_ok hr hT rs l hl
    obtain ⟨ad,h1,h2⟩:=loadS_ok ht hr hv
    have hyj:y≠.junk:=by rintro rfl; cases h1
    have hx:a.tmps.getD x undef=.pointer (some ad):=by
     rw [Array.getD_eq_getD_getElem?,hT.at hy hyj]
     simpa using h1
    have hc:(resFn a.tmps (.cell x ty)).run P w=.ok (v.den ρ) w:=by
     simp only [resFn,Sem.run_bind,hx,asAddr,Sem.run_pure,Result.andThen_ok,h2]
    rw [List.mapM_cons,Sem.run_bind,hc,Result.andThen_ok,Sem.run_bind,ih]
    rfl
   ·cases h
  ·cases h
omit hng hnat in
theorem resOf_wf {B:Base} {ρ:Env} {st:St} {w:World} (hr:RepW B ρ st w) {t:Tm} {a:Act} (hT:TmRep ρ t a):∀ (rs:List ResultVar) (vs:List SV),resOf tb st t rs=some vs→SV.oks ρ vs
 | [],vs,h=>by simp [resOf] at h; subst h; simp [SV.oks]
 | .tmp i::rs,vs,h=>by
  simp only [resOf] at h
  split at h
  ·rename_i l hl
   have ih:=resOf_wf hr hT rs l hl
   split at h
   ·rename_i u hu
    split at h
    ·cases h
    ·simp only [Option.some.injEq] at h; subst h
     exact ⟨hT.ok hu,ih⟩
   ·simp only [Option.some.injEq] at h; subst h
    exact ⟨undef_wf ρ,ih⟩
  ·cases h
 | .cell x ty::rs,vs,h=>by
  simp only [resOf] at h
  split at h
  ·rename_i y hy
   split at h
   ·rename_i v l hv hl
    simp only [Option.some.injEq] at h; subst h
    exact ⟨loadS_wf ht hr hv,resOf_wf hr hT rs l hl⟩
   ·cases h
  ·cases h
omit hng hnat ht in
theorem tupOf_ok {vs:List SV} {ρ:Env} (h:SV.oks ρ vs):(tupOf vs).ok ρ:=by
 cases vs with
 | nil=>simp [tupOf,SV.ok,SV.oks]
 | cons v vs =>
  cases vs with
  | nil=>exact h.1
  | cons u us=>simpa [tupOf,SV.ok] using h
omit hng hnat ht in
theorem tupOf_den (vs:List SV) (ρ:Env):(if h:(SV.dens ρ vs).toArray.size=1 then (SV.dens ρ vs).toArray[0] else .tuple (SV.dens ρ vs).toArray)=(tupOf vs).den ρ:=by
 cases vs with
 | nil=>simp [SV.dens,tupOf,SV.den]
 | cons v vs =>
  cases vs with
  | nil=>simp [SV.dens,tupOf]
  | cons u us=>simp [SV.dens,tupOf,SV.den]
omit hng in
theorem stepCall_ok {n:Nat} {rec:Runner} (hrec:RunOk P tb n rec) {g:FuncId} {args:List SV} {st:St} {k:Out→Res} {os:List Out} (h:stepCall tb rec g args st k=some os)
  {B:Base} {ρ:Env} {w:World} (hr:RepW B ρ st w) {R:Ending→World→Prop} (hao:SV.oks ρ args) (hK:CallRes B ρ R k os):Calls P g (SV.dens ρ args).toArray w R:=by
 unfold stepCall at h
 split at h
 ·rename_i l hl
  have hfind:∀ (xs:List Nat1),findNat tb.facts g args st xs=.outs l→∃ x∈xs,x.fn=g∧x.eff tb.facts args st=.outs l:=by
   intro xs
   induction xs with
   | nil=>intro h; cases h
   | cons x xs ih =>
    intro h
    simp only [findNat] at h
    split at h
    ·rename_i hb
     split at h
     ·rename_i l' hl'
      simp only [NatR.outs.injEq] at h; subst h
      exact ⟨x,by simp,Nat.eq_of_beq_eq_true hb,hl'⟩
     ·obtain ⟨y,h1,h2⟩:=ih h; exact ⟨y,List.mem_cons_of_mem _ h1,h2⟩
    ·obtain ⟨y,h1,h2⟩:=ih h; exact ⟨y,List.mem_cons_of_mem _ h1,h2⟩
  obtain ⟨x,hx,rfl,hxe⟩:=hfind _ hl
  refine hnat x hx tb.facts ht.facts args st l hxe B ρ w R hr hao ?_
  clear hl hxe hfind
  induction l generalizing os with
  | nil=>intro y hy; cases hy
  | cons z l ih =>
   obtain ⟨v,st'⟩:=z
   simp only [natOuts] at h
   obtain ⟨l1,l2,h1,h2,h3,h4⟩:=join_some h
   intro y hy ρ' w' k1 k2 k3
   cases hy with
   | head=>exact hK _ _ _ _ _ _ _ h1 h3 k1 k2 rfl k3
   | tail _ hm=>exact ih (hK.sub h4) h2 y hm ρ' w' k1 k2 k3
 split at h
 ·rename_i fn hfn
  split at h
  ·rename_i c hc
   split at h
   ·rename_i hle
    simp only [Bool.and_eq_true,Nat.ble_eq] at hle
    rw [T.putsK_eq] at h
    refine calls_of_wp (ht.fn _ _ hfn) hc ?_
    refine hrec.code _ _ _ _ _ _ ⟨fn,c,ht.fn _ _ hfn,hc,.refl c⟩ h B ρ _ w _ hr ?_ ?_
    ·have hslot:∀ i,(((SV.dens ρ args).toArray++Array.replicate (fn.ntmps - (SV.dens ρ args).toArray.size) Go.undef))[i]?=((((T.fill SV.undef 20 fn.ntmps).puts 0 args)).get i).map (SV.den ρ):=by
      intro i
      rw [T.get_puts,T.get_fill _ _ _ _ (by omega)]
      simp only [Nat.zero_add,Nat.sub_zero,Nat.zero_le,true_and]
      have hlen:(SV.dens ρ args).length=args.length:=by simp [SV.dens_eq]
      by_cases h1:i < args.length
      ·rw [if_pos h1,if_pos (by omega)]
       rw [Array.getElem?_append_left (by simpa [hlen] using h1)]
       simp [SV.dens_eq]
      ·rw [if_neg h1]
       rw [Array.getElem?_append_right (by simp [hlen]; omega)]
       simp only [List.size_toArray,hlen,Array.getElem?_replicate]
       by_cases h2:i < fn.ntmps
       ·rw [if_pos (by omega),if_pos h2]
        simp [SV.undef_den]
       ·rw [if_neg (by omega),if_neg h2]; rfl
     refine ⟨rfl,fun i hi=>?_,fun i v hv=>?_⟩
     ·have:=hslot i
      rw [hi] at this
      exact this
     ·have:=hslot i
      rw [hv] at this
      refine ⟨_,this,.inr ⟨rfl,?_⟩⟩
      rw [T.get_puts,T.get_fill _ _ _ _ (by omega)] at hv
      simp only [Nat.zero_add,Nat.sub_zero,Nat.zero_le,true_and] at hv
      by_cases h1:i < args.length
      ·rw [if_pos h1,if_pos (by omega)] at hv
       exact (SV.oks_iff _).1 hao v (List.mem_of_getElem? hv)
      ·rw [if_neg h1] at hv
       split at hv
       ·simp only [Option.some.injEq] at hv; subst hv; exact undef_wf ρ
       ·cases hv
    ·intro o ρ' a' w' os' h1 h2 h3 h4 h5
     dsimp only at h1
     have key:∀ {vs:List SV},resOf tb o.st o.tmps fn.results.toList=some vs→k ⟨.ret,.node (tupOf vs) .nil .nil,o.st⟩=some os' →
       a'.defers=[]∧∃ v,(results fn a'.tmps).run P w'=.ok v w'∧R (.returned v) w':=by
      intro vs hvs hk
      refine ⟨h5.1,(tupOf vs).den ρ',?_,?_⟩
      ·have hm:=resOf_ok ht h4 h5 _ _ hvs
       have e:results fn a'.tmps=(do let vs ← fn.results.mapM (resFn a'.tmps); pure (if h:vs.size=1 then vs[0] else .tuple vs)):=by
        unfold results
        congr 1
       rw [e,Sem.run_bind,Array.mapM_eq_mapM_toList,Sem.run_map,hm]
       simp only [Result.andThen_ok,Sem.run_pure]
       rw [tupOf_den]
      ·exact hK _ ρ' w' os' _ _ _ hk h2 h3 h4 rfl (tupOf_ok (resOf_wf ht h4 h5 _ _ hvs))
     cases hex:o.ex with
     | exit i=>rw [hex] at h1; cases h1
     | normal =>
      rw [hex] at h1
      simp only at h1
      split at h1
      ·rename_i vs hvs; exact key hvs h1
      ·cases h1
     | ret =>
      rw [hex] at h1
      simp only at h1
      split at h1
      ·rename_i vs hvs; exact key hvs h1
      ·cases h1
   ·cases h
  ·cases h
 ·cases h
theorem stepCode_ok (hloop:∀ x∈tb.anns,LoopOk P x) {n:Nat} {rec:Runner} (hrec:RunOk P tb n rec) {g:FuncId} {c:Code} {t:Tm} {st:St} {k:Out→Res} {os:List Out} (hof:OfFn P g c) (h:stepCode P tb rec g c t st k=some os)
  {B:Base} {ρ:Env} {a:Act} {w:World} {Q:Exit→Act→World→Prop} (hr:RepW B ρ st w) (hT:TmRep ρ t a) (hK:CodeRes B ρ Q k os):c.wp P Q a w:=by
 rw [stepCode_eq] at h; unfold sC_seq sC_block sC_cond sC_region at h
 split at h
 ·exact wp_skip (hK _ _ _ _ _ h (fun x hx=>hx) (Env.Ext.refl ρ) hr hT)
 ·exact wp_label (hK _ _ _ _ _ h (fun x hx=>hx) (Env.Ext.refl ρ) hr hT)
 ·exact wp_ret (hK _ _ _ _ _ h (fun x hx=>hx) (Env.Ext.refl ρ) hr hT)
 ·exact wp_exit (hK _ _ _ _ _ h (fun x hx=>hx) (Env.Ext.refl ρ) hr hT)
 ·-- seq
  refine wp_seq (hrec.code _ _ _ _ _ _ (hof.part (.seqL (.refl _))) h B ρ a w _ hr hT ?_)
  intro o ρ' a' w' os' h1 h2 h3 h4 h5
  dsimp only at h1
  cases hex:o.ex with
  | normal =>
   rw [hex] at h1
   exact hrec.code _ _ _ _ _ _ (hof.part (.seqR (.refl _))) h1 B ρ' a' w' Q h4 h5 ((hK.ext h3).sub h2)
  | exit i =>
   rw [hex] at h1
   have:=hK _ _ _ _ _ h1 h2 h3 h4 h5
   rw [hex] at this; exact this
  | ret =>
   rw [hex] at h1
   have:=hK _ _ _ _ _ h1 h2 h3 h4 h5
   rw [hex] at this; exact this
 ·-- block
  rename_i id b
  refine wp_block (hrec.code _ _ _ _ _ _ (hof.part (.block (.refl _))) h B ρ a w _ hr hT ?_)
  intro o ρ' a' w' os' h1 h2 h3 h4 h5
  dsimp only at h1
  cases hex:o.ex with
  | normal =>
   rw [hex] at h1
   have:=hK _ _ _ _ _ h1 h2 h3 h4 h5
   rw [hex] at this; exact this
  | ret =>
   rw [hex] at h1
   have:=hK _ _ _ _ _ h1 h2 h3 h4 h5
   rw [hex] at this; exact this
  | exit i =>
   rw [hex] at h1
   simp only at h1
   simp only [exOf,Exit.inBlock]
   split at h1
   ·rename_i hi
    rw [if_pos (Nat.eq_of_beq_eq_true hi)]
    exact hK _ _ _ _ _ h1 h2 h3 h4 h5
   ·rename_i hi
    have:i≠id:=fun e=>by rw [beq_of_eq e] at hi; cases hi
    rw [if_neg this]
    have:=hK _ _ _ _ _ h1 h2 h3 h4 h5
    rw [hex] at this; exact this
 ·-- loop
  exact stepLoop_ok ht hloop hrec hof h hr hT hK
 ·-- cond
  rename_i x c1 c2
  split at h
  ·rename_i e he
   have hx:a.eval x=.bool (e.B ρ):=by rw [hT.eval _ _ he]; rfl
   split at h
   ·rename_i hk
    have:=knownE_ok ht.facts hr.pc hk
    exact wp_cond_true (by rw [hx,this]) (hrec.code _ _ _ _ _ _ (hof.part (.condL (.refl _))) h B ρ a w Q hr hT hK)
   ·rename_i hk
    have:=knownE_ok ht.facts hr.pc hk
    exact wp_cond_false (by rw [hx,this]) (hrec.code _ _ _ _ _ _ (hof.part (.condR (.refl _))) h B ρ a w Q hr hT hK)
   ·obtain ⟨l,m,h1,h2,h3,h4⟩:=join_some h
    refine wp_cond_split hx (fun hb=>?_) (fun hb=>?_)
    ·exact hrec.code _ _ _ _ _ _ (hof.part (.condL (.refl _))) h1 B ρ a w Q (hr.assume hb) hT (hK.sub h3)
    ·exact hrec.code _ _ _ _ _ _ (hof.part (.condR (.refl _))) h2 B ρ a w Q (hr.assume (by simp [mkNot_B,hb])) hT (hK.sub h4)
  ·cases h
 ·-- region
  rename_i id ops d
  split at h
  ·exact wp_region_list (stepOps_ok ht hng hrec ops.toList h hr hT (fun t st ρ' a' w' os' h1 h2 h3 h4 h5=>hK _ _ _ _ _ h1 h2 h3 h4 h5))
  ·exact hrec.draw ops id t st k os h B ρ a w Q hr hT hK
 ·cases h
omit ht hnat hng in
theorem stepRounds_ok {n:Nat} {rec:Runner} (hrec:RunOk P tb n rec) {g:FuncId} {c:Code} {t:Tm} {st:St} {k:Out→Res} {os:List Out} (hof:OfFn P g c) (h:stepRounds rec g c t st k=some os)
  {B:Base} {ρ:Env} {a:Act} {w:World} {Q:Exit→Act→World→Prop} (hr:RepW B ρ st w) (hT:TmRep ρ t a) (hK:CodeRes B ρ Q k os):Code.rounds P c Q (n + 1) a w:=by
 rw [rounds_succ]
 unfold stepRounds at h
 refine hrec.code _ _ _ _ _ _ hof h B ρ a w _ hr hT ?_
 intro o ρ' a' w' os' h1 h2 h3 h4 h5
 dsimp only at h1
 cases hex:o.ex with
 | normal =>
  rw [hex] at h1
  exact hrec.rounds _ _ _ _ _ _ hof h1 B ρ' a' w' Q h4 h5 ((hK.ext h3).sub h2)
 | exit i =>
  rw [hex] at h1
  have:=hK _ _ _ _ _ h1 h2 h3 h4 h5
  rw [hex] at this; exact this
 | ret =>
  rw [hex] at h1
  have:=hK _ _ _ _ _ h1 h2 h3 h4 h5
  rw [hex] at this; exact this
theorem quietOp_ok {n:Nat} {rec:Runner} (hrec:RunOk P tb n rec) {o:Oper} {t:Tm} {st:St} {v:SV} (h:quietOp P tb rec o t st=.done v) {B:Base} {ρ:Env} {a:Act} (hT:TmRep ρ t a)
  (w:World) (hr:RepW B ρ st w):o.quietAt P a (fun w'=>RepW B ρ st w') w (v.den ρ)∧v.ok ρ:=by
 unfold Oper.quietAt
 unfold quietOp at h
 split at h
 ·rename_i v' hv
  simp only [QR.done.injEq] at h; subst h
  rw [pureOp_ok ht hT.eval hT.wf hv w]
  exact ⟨⟨rfl,rfl⟩,pureOp_wf hT.wf hv⟩
 ·split at h
  ·rename_i hro
   have hrd:=readEff_ok ht hr hT o hro
   split at h
   ·rename_i v' st' he
    rw [he] at hrd
    simp only [QR.done.injEq] at h; subst h
    rw [hrd.2.2]
    exact ⟨⟨rfl,rfl⟩,hrd.2.1⟩
   ·cases h
   ·cases h
  split at h
  ·rename_i c hc
   split at h
   ·rename_i g args hca
    obtain ⟨hcs,hco⟩:=callS_ok ht hng hT hc hca w
    rw [hcs]
    unfold quietCall at h
    split at h
    ·rename_i os hos
     split at h
     ·rename_i o'
      split at h
      ·rename_i v' l r ho'
       split at h
       ·rename_i hchk
        simp only [QR.done.injEq] at h; subst h
        simp only [Bool.and_eq_true] at hchk
        obtain ⟨hpl,hchk⟩:=hchk
        refine ⟨⟨rfl,?_⟩,SV.plain_ok _ hpl⟩
        refine hrec.call _ _ _ _ _ _ hos B ρ w _ hr hco ?_
        intro o2 ρ' w' os' v2 l2 r2 h1 h2 h3 h4 h5 _
        simp only [Option.some.injEq] at h1
        have he:o2=o':=by
         have:=h2 o2 (by rw [← h1]; simp)
         simpa using this
        subst he
        rw [ho'] at h5
        simp only [T.node.injEq] at h5
        obtain ⟨rfl,_,_⟩:=h5
        have hsv:v'.scp ρ.vs.length ρ.bs.length=true:=by rw [hr.nv,hr.nb]; exact hchk.1.1
        rw [SV.scoped_den h3 _ hsv]
        exact ⟨rfl,hr.back h4 h3 hchk.1.2 hchk.2⟩
       ·cases h
      ·cases h
     ·cases h
    ·cases h
   ·cases h
  ·cases h
theorem quietOps_ok {n:Nat} {rec:Runner} (hrec:RunOk P tb n rec) {ops:Array Oper} {st:St} {B:Base} {ρ:Env} {w0:World} (hr0:RepW B ρ st w0):∀ (l:List Oper) {t t':Tm},quietOps P tb rec ops.toList st l t=.done t' →
  ∀ {a:Act},TmRep ρ t a→wpQuiet P ops (fun w'=>RepW B ρ st w') (fun a'=>TmRep ρ t' a') l a
 | [],t,t',h,a,hT=>by
  simp only [quietOps,QE.done.injEq] at h; subst h; exact hT
 | o::l,t,t',h,a,hT=>by
  have hundef:∀ {t':Tm},TmRep ρ t' a→TmRep ρ (match o.dst with | none=>t' | some d=>t'.set d SV.undef) (a.put o.dst undef):=by
   intro t' h'
   have h5:=h'.put o.dst SV.undef (undef_wf _)
   rw [SV.undef_den] at h5
   exact h5
  have hw:=wantS_ok (ops:=ops) hT o
  simp only [quietOps] at h
  unfold wpQuiet
  have hyes:∀ {t2:Tm} {v:SV},TmRep ρ t2 a→quietOp P tb rec o t2 st=.done v→(putK t2 o.dst v fun tmps=>quietOps P tb rec ops.toList st l tmps)=.done t' →
    o.quiet P a (fun w'=>RepW B ρ st w') (wpQuiet P ops (fun w'=>RepW B ρ st w') (fun a'=>TmRep ρ t' a') l):=by
   intro t2 v hT2 hq hk
   rw [putK_eq] at hk
   exact ⟨v.den ρ,fun w hw=>(quietOp_ok ht hnat hng hrec hq hT2 w hw).1,quietOps_ok hrec hr0 l hk (hT2.put _ _ (quietOp_ok ht hnat hng hrec hq hT2 _ hr0).2)⟩
  split at h
  ·rename_i hq
   rw [hq] at hw
   rw [if_pos hw]
   split at h
   ·rename_i v hv; exact hyes hT hv h
   ·cases h
   ·cases h
  ·rename_i hq
   rw [hq] at hw
   rw [if_neg (by simp [hw])]
   rw [putK_eq] at h
   exact quietOps_ok hrec hr0 l h (hundef hT)
  ·cases h
  ·rename_i s e want hq
   rw [hq] at hw
   obtain ⟨hs,hw⟩:=hw
   split at h
   ·rename_i b hb
    have hb':=knownE_ok ht.facts hr0.pc hb
    rw [T.setK_eq] at h
    have hT':=hT.relabel hs hb'
    split at h
    ·rename_i hbw
     have:=boolB_eq hbw; subst this
     rw [if_pos (by rw [hw,hb']; simp)]
     split at h
     ·rename_i v hv; exact hyes hT' hv h
     ·cases h
     ·cases h
    ·rename_i hbw
     have:=boolB_ne hbw
     rw [if_neg (by rw [hw,hb']; simpa using this)]
     rw [putK_eq] at h
     exact quietOps_ok hrec hr0 l h (hundef hT')
   ·cases h
end
end Go.SX

namespace Go.SX
section
variable {P : Program} {tb : Tab} (ht : TabOk P tb) (hng : ∀ (f : Nat) (fn : Func), P.funcs[f]? = some fn → (fn.name == "runtime.NumGoroutine") = false)
theorem lexRest_ok (ops:Array Oper) {k:Nat} {x:Oper}:∀ (l:List Oper),lexRest k (infoK ops.toList x) (infosOf ops.toList l)=true →
  ∀ (j:Nat) (y:Oper),l[j]?=some y→(∀ e∈y.after,Region.binds .any e=true→e.on≠k)→x.apart ops y=true
 | [],_,j,y,hy,_=>by simp at hy
 | m::ms,h,j,y,hy,hno=>by
  simp only [infosOf,lexRest] at h
  have hrest:lexRest k (infoK ops.toList x) (infosOf ops.toList ms)=true:=by
   split at h
   ·exact h
   ·split at h
    ·split at h
     ·split at h
      ·exact h
      ·cases h
     ·cases h
    ·cases h
  cases j with
  | succ j=>exact lexRest_ok ops ms hrest j y (by simpa using hy) hno
  | zero =>
   simp at hy; subst hy
   split at h
   ·rename_i hb
    have hb':(waitsOf m.after.toList).testBit k=true:=hb
    obtain ⟨e,he,h1,h2⟩:=(waitsOf_bit _ _).1 hb'
    exact absurd h2 (hno e (by simpa using he) h1)
   ·split at h
    ·rename_i h1
     split at h
     ·rename_i h2
      split at h
      ·rename_i h3
       exact apart_of_masks h1 h2 h3
      ·cases h
     ·cases h
    ·cases h
theorem getD_of_lt {l:Array Bool} {i:Nat} (h:i < l.size):l.getD i true=l.getD i false:=by
 simp [Array.getD,h]
def Upto (n k:Nat) (listed:Array Bool):Prop:=listed.size=n∧∀ j,listed.getD j false=decide (j < k∧j < n)
theorem Upto.next {n k:Nat} {listed:Array Bool} (h:Upto n k listed) (hk:k < n):Upto n (k + 1) (listed.setIfInBounds k true):=by
 refine ⟨by simp [h.1],fun j=>?_⟩
 by_cases e:k=j
 ·subst e
  simp [Array.getD,h.1,hk]
 ·have h1:=h.2 j
  have:(listed.setIfInBounds k true).getD j false=listed.getD j false:=by
   simp [Array.getD_eq_getD_getElem?,Array.getElem?_setIfInBounds_ne e]
  rw [this,h1]
  rw [decide_eq_decide]
  omega
theorem bits_lt {m k:Nat} (h:Nat.blt m (Nat.pow 2 k)=true) {j:Nat} (hj:m.testBit j=true):j < k:=by
 rw [blt_iff] at h
 rcases Nat.lt_or_ge j k with h1 | h1
 ·exact h1
 ·have h2:m < 2 ^ j:=Nat.lt_of_lt_of_le h (Nat.pow_le_pow_right (by omega) h1)
  rw [Nat.testBit_lt_two_pow h2] at hj
  cases hj
theorem quiet_lex {ops:Array Oper} {C:World→Prop} {Q:Act→Prop} (hs:noSel ops.toList=true):∀ (l:List Oper) (k:Nat) (listed:Array Bool) (a:Act),
  (∀ j,l[j]?=ops[k + j]?)→Upto ops.size k listed→lexAll (infosOf ops.toList l) k=true→wpQuiet P ops C Q l a→wpAnyQ P .any ops C Q l.length listed a
 | [],k,listed,a,hl,hu,hx,h=>by
  refine ⟨?_,h⟩
  cases hr:Region.ready .any ops listed with
  | nil=>rfl
  | cons j js =>
   exfalso
   have hj:j∈Region.ready .any ops listed:=by rw [hr]; simp
   obtain ⟨h1,o,ho,_⟩:=mem_ready.1 hj
   have hlt:j < ops.size:=(Array.getElem?_eq_some_iff.1 ho).1
   rw [getD_of_lt (by rw [hu.1]; exact hlt),hu.2 j] at h1
   have hk:k≤j:=by
    have:=of_decide_eq_false h1
    omega
   have:=hl (j - k)
   rw [show k + (j - k)=j by omega,ho] at this
   simp at this
 | o::l,k,listed,a,hl,hu,hx,h=>by
  have h0:ops[k]?=some o:=by simpa using (hl 0).symm
  have hlt:k < ops.size:=(Array.getElem?_eq_some_iff.1 h0).1
  simp only [infosOf,lexAll] at hx
  split at hx
  ·rename_i hb
   split at hx
   ·rename_i hrest
    have hready:k∈Region.ready .any ops listed:=by
     refine mem_ready.2 ⟨?_,o,h0,fun e he hbd=>?_⟩
     ·rw [getD_of_lt (by rw [hu.1]; exact hlt),hu.2 k]
      simp
     ·have hbit:(waitsOf o.after.toList).testBit e.on=true:=(waitsOf_bit _ _).2 ⟨e,by simpa using he,hbd,rfl⟩
      have:=bits_lt hb hbit
      rw [hu.2 e.on]
      simp; omega
    have hfree:∀ j oj,ops[j]?=some oj→j≠k→listed.getD j true=false→(∀ e∈oj.after,Region.binds .any e=true→e.on≠k)→o.apart ops oj=true:=by
     intro j oj hj hjk hjl hno
     have hjlt:j < ops.size:=(Array.getElem?_eq_some_iff.1 hj).1
     rw [getD_of_lt (by rw [hu.1]; exact hjlt),hu.2 j] at hjl
     have hkj:k < j:=by
      have:=of_decide_eq_false hjl
      omega
     have h2:=hl (j - k)
     rw [show k + (j - k)=j by omega,hj,show j - k=(j - k - 1) + 1 by omega,List.getElem?_cons_succ] at h2
     exact lexRest_ok ops l hrest _ _ h2 hno
    have hst:qOp P ops C k (wpQuiet P ops C Q l) a:=by unfold qOp; simp only [h0]; exact h
    obtain ⟨v,hy,hK⟩:=yieldsIn_of_qOp h0 hst
    exact wpAnyQ_first h0 (noSel_ok' hs) l.length listed a hfree hready hy
     (quiet_lex hs l (k + 1) _ _ (fun j=>by have:=hl (j + 1); simpa [Nat.add_assoc,Nat.add_comm 1 j] using this) (hu.next hlt) hx hK)
   ·cases hx
  ·cases hx
where
 noSel_ok' {ops:Array Oper} (hs:noSel ops.toList=true):∀ (j:Nat) (o:Oper) cs b,ops[j]?=some o→o.op≠.select cs b :=
  fun j o cs b h=>noSel_ok _ hs j o cs b (by simpa using h)
def MaskOk (n:Nat) (m:Nat) (listed:Array Bool):Prop:=listed.size=n∧∀ j,listed.getD j false=m.testBit j
theorem MaskOk.set {n m i:Nat} {listed:Array Bool} (h:MaskOk n m listed) (hi:i < n):MaskOk n (Nat.lor (Nat.pow 2 i) m) (listed.setIfInBounds i true):=by
 refine ⟨by simp [h.1],fun j=>?_⟩
 rw [lor_bit,pow_bit]
 by_cases e:i=j
 ·subst e; simp [Array.getD,h.1,hi]
 ·have:(listed.setIfInBounds i true).getD j false=listed.getD j false:=by
   simp [Array.getD_eq_getD_getElem?,Array.getElem?_setIfInBounds_ne e]
  rw [this,h.2 j]; simp [e]
theorem waits_ok {ops:Array Oper} {o:Oper} {m:Nat} {listed:Array Bool} (hm:MaskOk ops.size m listed) :
  Nat.beq (Nat.land (infoK ops.toList o).wait m) (infoK ops.toList o).wait=true↔∀ e∈o.after,Region.binds .any e=true→listed.getD e.on false=true:=by
 have hw:(infoK ops.toList o).wait=waitsOf o.after.toList:=rfl
 constructor
 ·intro h e he hb
  have hbit:(waitsOf o.after.toList).testBit e.on=true:=(waitsOf_bit _ _).2 ⟨e,by simpa using he,hb,rfl⟩
  have h1:=land_bit (waitsOf o.after.toList) m e.on
  rw [← hw,Nat.eq_of_beq_eq_true h,hw,hbit] at h1
  rw [hm.2]; simpa using h1.symm
 ·intro h
  refine beq_of_eq (Nat.eq_of_testBit_eq fun j=>?_)
  rw [land_bit,hw]
  cases hj:(waitsOf o.after.toList).testBit j with
  | false=>simp
  | true =>
   obtain ⟨e,he,hb,rfl⟩:=(waitsOf_bit _ _).1 hj
   have:=h e (by simpa using he) hb
   rw [hm.2] at this
   simp [this]
theorem readyFrom_ok {ops:Array Oper} {m:Nat} {listed:Array Bool} (hm:MaskOk ops.size m listed):∀ (l:List Oper) (k:Nat),(∀ j,l[j]?=ops[k + j]?) →
  ∀ i,k≤i→i∈Region.ready .any ops listed→∃ o,ops[i]?=some o∧(i,o,infoK ops.toList o)∈readyFrom m l (infosOf ops.toList l) k
 | [],k,hl,i,hki,hi=>by
  obtain ⟨_,o,ho,_⟩:=mem_ready.1 hi
  have:=hl (i - k)
  rw [show k + (i - k)=i by omega,ho] at this
  simp at this
 | o::l,k,hl,i,hki,hi=>by
  have h0:ops[k]?=some o:=by simpa using (hl 0).symm
  have ih:=readyFrom_ok hm l (k + 1) (fun j=>by have:=hl (j + 1); simpa [Nat.add_assoc,Nat.add_comm 1 j] using this) i
  simp only [infosOf,readyFrom]
  by_cases e:i=k
  ·subst e
   obtain ⟨h1,o',ho',hall⟩:=mem_ready.1 hi
   rw [h0] at ho'; cases ho'
   have hlt:i < ops.size:=(Array.getElem?_eq_some_iff.1 h0).1
   rw [getD_of_lt (by rw [hm.1]; exact hlt),hm.2] at h1
   have hw:=(waits_ok (o:=o) hm).2 hall
   rw [h1]
   simp only
   rw [hw]
   exact ⟨o,h0,by simp⟩
  ·obtain ⟨o',h1,h2⟩:=ih (by omega) hi
   refine ⟨o',h1,?_⟩
   split
   ·exact h2
   ·split
    ·exact List.mem_cons_of_mem _ h2
    ·exact h2
theorem freeFrom_ok {ops:Array Oper} {m i:Nat} {listed:Array Bool} {x:Oper} (hm:MaskOk ops.size m listed):∀ (l:List Oper) (k:Nat),(∀ j,l[j]?=ops[k + j]?) →
  freeFrom m i (infoK ops.toList x) (infosOf ops.toList l) k=true →
  ∀ j oj,k≤j→ops[j]?=some oj→j≠i→listed.getD j true=false→(∀ e∈oj.after,Region.binds .any e=true→e.on≠i)→x.apart ops oj=true
 | [],k,hl,_,j,oj,hkj,hj,_,_,_=>by
  have:=hl (j - k)
  rw [show k + (j - k)=j by omega,hj] at this
  simp at this
 | o::l,k,hl,h,j,oj,hkj,hj,hji,hjl,hno=>by
  have h0:ops[k]?=some o:=by simpa using (hl 0).symm
  have hl':∀ j,l[j]?=ops[k + 1 + j]?:=fun j=>by have:=hl (j + 1); simpa [Nat.add_assoc,Nat.add_comm 1 j] using this
  simp only [infosOf,freeFrom] at h
  have hrest:freeFrom m i (infoK ops.toList x) (infosOf ops.toList l) (k + 1)=true:=by
   split at h
   ·exact h
   ·split at h
    ·exact h
    ·split at h
     ·exact h
     ·split at h
      ·split at h
       ·split at h
        ·exact h
        ·cases h
       ·cases h
      ·cases h
  by_cases e:j=k
  ·subst e
   rw [h0] at hj; cases hj
   have hlt:j < ops.size:=(Array.getElem?_eq_some_iff.1 h0).1
   rw [getD_of_lt (by rw [hm.1]; exact hlt),hm.2] at hjl
   rw [hjl] at h
   have hij:Nat.beq i j=false:=by
    cases hb:Nat.beq i j with
    | false=>rfl
    | true=>exact absurd (Nat.eq_of_beq_eq_true hb).symm hji
   simp only [hij] at h
   split at h
   ·rename_i hb
    have hb':(waitsOf o.after.toList).testBit i=true:=hb
    obtain ⟨e,he,h1,h2⟩:=(waitsOf_bit _ _).1 hb'
    exact absurd h2 (hno e (by simpa using he) h1)
   ·split at h
    ·rename_i h1
     split at h
     ·rename_i h2
      split at h
      ·rename_i h3
       exact apart_of_masks h1 h2 h3
      ·cases h
     ·cases h
    ·cases h
  ·exact freeFrom_ok hm l (k + 1) hl' hrest j oj (by omega) hj hji hjl hno
end
end Go.SX

namespace Go.SX
section
variable {P : Program} {tb : Tab} (ht : TabOk P tb) (hng : ∀ (f : Nat) (fn : Func), P.funcs[f]? = some fn → (fn.name == "runtime.NumGoroutine") = false)
def YieldsAt (P:Program) (ops:Array Oper) (o:Oper) (v:Value) (a:Act) (w:World):Prop :=
 (Region.wanted o (yielded ops a.tmps)=true∧(execOp a.eval o).run P w=.ok (.value v) w)∨(Region.wanted o (yielded ops a.tmps)=false∧v=undef)
include ht in
theorem neutGo_ok {B:Base} {ρ:Env} {st:St} {w:World} {t:Tm} {a:Act} {o:Oper} {v:SV} (h:neutGo P tb t st o=.val v) (hr:RepW B ρ st w) (hT:TmRep ρ t a) :
  (execOp a.eval o).run P w=.ok (.value (v.den ρ)) w∧v.ok ρ:=by
 unfold neutGo at h
 split at h
 ·rename_i v' hv
  simp only [NS.val.injEq] at h; subst h
  exact ⟨pureOp_ok ht hT.eval hT.wf hv w,pureOp_wf hT.wf hv⟩
 ·split at h
  ·rename_i hro
   have hrd:=readEff_ok ht hr hT o hro
   split at h
   ·rename_i v' st' he
    rw [he] at hrd
    simp only [NS.val.injEq] at h; subst h
    exact ⟨hrd.2.2,hrd.2.1⟩
   ·cases h
   ·cases h
  ·cases h
include ht in
theorem neutS_ok {B:Base} {ρ:Env} {st:St} {w:World} {ops:Array Oper} {t:Tm} {a:Act} {o:Oper} {v:SV} (h:neutS P tb ops.toList t st o=.val v) (hr:RepW B ρ st w) (hT:TmRep ρ t a) :
  YieldsAt P ops o (v.den ρ) a w∧v.ok ρ:=by
 have hw:=wantS_ok (ops:=ops) hT o
 unfold neutS at h
 split at h
 ·rename_i hq
  rw [hq] at hw
  obtain ⟨h1,h2⟩:=neutGo_ok ht h hr hT
  exact ⟨.inl ⟨hw,h1⟩,h2⟩
 ·rename_i hq
  rw [hq] at hw
  simp only [NS.val.injEq] at h; subst h
  exact ⟨.inr ⟨hw,by rw [SV.undef_den]⟩,undef_wf ρ⟩
 ·cases h
 ·rename_i s e want hq
  rw [hq] at hw
  split at h
  ·rename_i b hb
   have hb':=knownE_ok ht.facts hr.pc hb
   split at h
   ·rename_i hbw
    have:=boolB_eq hbw; subst this
    obtain ⟨h1,h2⟩:=neutGo_ok ht h hr hT
    exact ⟨.inl ⟨by rw [hw.2,hb']; simp,h1⟩,h2⟩
   ·rename_i hbw
    have:=boolB_ne hbw
    simp only [NS.val.injEq] at h; subst h
    exact ⟨.inr ⟨by rw [hw.2,hb']; simpa using this,by rw [SV.undef_den]⟩,undef_wf ρ⟩
  ·cases h
theorem eval_agree {a a':Act} {x:Operand} (h:∀ t,x=.tmp t→a'.tmps[t]?=a.tmps[t]?):a'.eval x=a.eval x:=by
 cases x with
 | tmp t=>simp only [Act.eval,Array.getD_eq_getD_getElem?,h t rfl]
 | _=>rfl
theorem exec_agree {ops:Array Oper} {a a':Act} (o:Oper) (hs:∀ cs b,o.op≠.select cs b) (h:∀ t∈o.looksAt ops,a'.tmps[t]?=a.tmps[t]?):execOp a'.eval o=execOp a.eval o :=
 execOp_congr o hs fun x hx=>eval_agree fun t ht=>h t (List.mem_append_left _ (List.mem_filterMap.2 ⟨.tmp t,by subst ht; simpa using hx,rfl⟩))
theorem wanted_agree {ops:Array Oper} {a a':Act} (o:Oper) (h:∀ t∈o.looksAt ops,a'.tmps[t]?=a.tmps[t]?):Region.wanted o (yielded ops a'.tmps)=Region.wanted o (yielded ops a.tmps):=by
 unfold Region.wanted
 cases hg:o.guard with
 | none=>rfl
 | some gw =>
  obtain ⟨g,want⟩:=gw
  have:yielded ops a'.tmps g=yielded ops a.tmps g:=by
   unfold yielded
   cases hd:(ops[g]?).bind (·.dst) with
   | none=>rfl
   | some d =>
    have:=h d (by unfold Oper.looksAt; rw [hg]; simp [hd])
    simp only [Option.bind_some,this]
  simp only [this]
theorem YieldsAt.agree {ops:Array Oper} {o:Oper} {v:Value} {a a':Act} {w:World} (hy:YieldsAt P ops o v a w) (hs:∀ cs b,o.op≠.select cs b) (h:∀ t∈o.looksAt ops,a'.tmps[t]?=a.tmps[t]?):YieldsAt P ops o v a' w:=by
 unfold YieldsAt at *
 rw [exec_agree o hs h,wanted_agree o h]; exact hy
theorem YieldsAt.wpOp {ops:Array Oper} {i:Nat} {o:Oper} {v:Value} {a:Act} {w:World} {K:Act→World→Prop} {Q:Exit→Act→World→Prop} (hi:ops[i]?=some o) (hy:YieldsAt P ops o v a w) (h:K (a.put o.dst v) w):wpOp P ops Q i K a w:=by
 unfold Go.wpOp
 simp only [hi]
 rcases hy with ⟨hw,hv⟩ | ⟨hw,rfl⟩
 ·rw [if_pos hw]
  left
  unfold Oper.wp
  rw [hv,Oper.upon_value]; exact h
 ·rw [if_neg (by simp [hw])]; exact h
theorem wp_transfer {ops:Array Oper} {j:Nat} {o:Oper} (hj:ops[j]?=some o) (hs:∀ cs b,o.op≠.select cs b) {L:Act→World→Prop} {Kc Kr:Act→World→Prop} {a a':Act} {w:World}
  (hag:∀ t∈o.looksAt ops,a'.tmps[t]?=a.tmps[t]?) (hdf:∀ b w',Kc b w'→b.defers=[]) (hd0:a'.defers=a.defers)
  (hput:∀ u w',Kc (a.put o.dst u) w'→Kr (a'.put o.dst u) w')
  (h:if Region.wanted o (yielded ops a.tmps) then o.wp P a w Kc (onlyN L) else Kc (a.put o.dst undef) w):wpOp P ops (onlyN L) j Kr a' w:=by
 unfold wpOp
 simp only [hj]
 rw [wanted_agree o hag]
 split
 ·rename_i hw
  rw [if_pos hw] at h
  left
  unfold Oper.wp at *
  rw [exec_agree o hs hag]
  generalize (execOp a.eval o).run P w=r at *
  cases r with
  | ok n w' =>
   cases n <;> simp only [Oper.upon] at h ⊢
   case value u=>exact hput u w' h
   case skip=>exact hput _ w' h
   case defer d =>
    have:=hdf _ _ h
    cases hdst:o.dst <;> simp [hdst,Act.put] at this
   case enter f args =>
    refine h.mono ?_
    intro e w'' he
    cases e with
    | returned u=>exact hput u w'' he
    | panicked c=>exact he
    | outgrown=>exact he
   case row rw' args =>
    refine Rows.mono h ?_
    intro u w'' he
    exact hput u w'' he
  | halt x w'=>cases x <;> simp only [Oper.upon] at h ⊢ <;> exact h
 ·rename_i hw
  rw [if_neg hw] at h
  exact hput _ w h
theorem cloOf_bit (m:Nat) (t:Nat):∀ (cs:List Nat) (j r:Nat),(cloOf m cs j r).testBit t=true→r.testBit t=true∨∃ k c,cs[k]?=some c∧m.testBit (j + k)=true∧c.testBit t=true
 | [],j,r,h=>.inl h
 | c::cs,j,r,h=>by
  simp only [cloOf] at h
  split at h
  ·rename_i hb
   rcases cloOf_bit m t cs (j + 1) _ h with h' | ⟨k,c',h1,h2,h3⟩
   ·rw [lor_bit,Bool.or_eq_true] at h'
    rcases h' with h' | h'
    ·exact .inr ⟨0,c,rfl,hb,h'⟩
    ·exact .inl h'
   ·exact .inr ⟨k + 1,c',by simpa using h1,by rw [← h2]; congr 1; omega,h3⟩
  ·rcases cloOf_bit m t cs (j + 1) _ h with h' | ⟨k,c',h1,h2,h3⟩
   ·exact .inl h'
   ·exact .inr ⟨k + 1,c',by simpa using h1,by rw [← h2]; congr 1; omega,h3⟩
def CloGood (infos:List Info) (clos:List Nat):Prop:=∀ (i c:Nat),clos[i]?=some c→∃ m,infos[i]?=some m∧∀ t,c.testBit t=true→m.wait.testBit t=true∨∃ k c',k < i∧clos[k]?=some c'∧m.wait.testBit k=true∧c'.testBit t=true
theorem closFrom_good (infos:List Info):∀ (ms:List Info) (acc:List Nat),(∀ k,ms[k]?=infos[acc.length + k]?)→CloGood infos acc→CloGood infos (closFrom ms acc)
 | [],acc,_,h=>h
 | m::ms,acc,hm,h=>by
  simp only [closFrom,forceK_eq]
  have h0:infos[acc.length]?=some m:=by simpa using (hm 0).symm
  refine closFrom_good infos ms _ (fun k=>?_) ?_
  ·have:=hm (k + 1)
   simpa [Nat.add_assoc,Nat.add_comm 1 k] using this
  ·intro i c hc
   rcases Nat.lt_or_ge i acc.length with hi | hi
   ·rw [List.getElem?_append_left hi] at hc
    obtain ⟨m',h1,h2⟩:=h i c hc
    refine ⟨m',h1,fun t ht=>?_⟩
    rcases h2 t ht with h3 | ⟨k,c',k1,k2,k3,k4⟩
    ·exact .inl h3
    ·exact .inr ⟨k,c',k1,by rw [List.getElem?_append_left (by omega)]; exact k2,k3,k4⟩
   ·rw [List.getElem?_append_right hi] at hc
    have hi0:i=acc.length:=by
     rcases Nat.lt_or_ge (i - acc.length) 1 with h' | h'
     ·omega
     ·rw [List.getElem?_eq_none (by simpa using h')] at hc; cases hc
    subst hi0
    simp at hc
    subst hc
    refine ⟨m,h0,fun t ht=>?_⟩
    rcases cloOf_bit _ t _ _ _ ht with h3 | ⟨k,c',k1,k2,k3⟩
    ·exact .inl h3
    ·have hk:k < acc.length:=(List.getElem?_eq_some_iff.1 k1).1
     exact .inr ⟨k,c',hk,by rw [List.getElem?_append_left hk]; exact k1,by simpa using k2,k3⟩
def Down (infos:List Info) (r:Nat):Prop:=∀ i m,infos[i]?=some m→r.testBit i=true→∀ j,m.wait.testBit j=true→r.testBit j=true
theorem clo_down {infos:List Info} {clos:List Nat} (hg:CloGood infos clos) {r:Nat} (hd:Down infos r):∀ (i c:Nat) (m:Info),clos[i]?=some c→infos[i]?=some m→(∀ j,m.wait.testBit j=true→r.testBit j=true)→∀ t,c.testBit t=true→r.testBit t=true:=by
 intro i
 induction i using Nat.strongRecOn with
 | _ i ih =>
  intro c m hc hm hw t ht
  obtain ⟨m',h1,h2⟩:=hg i c hc
  rw [hm] at h1
  simp only [Option.some.injEq] at h1; subst h1
  rcases h2 t ht with h3 | ⟨k,c',k1,k2,k3,k4⟩
  ·exact hw t h3
  ·obtain ⟨mk,g1,_⟩:=hg k c' k2
   exact ih k k1 c' mk k2 g1 (hd k mk g1 (hw k k3)) t k4
theorem confOf_mono (dst t:Nat):∀ (ms:List Info) (j r:Nat),r.testBit t=true→(confOf dst ms j r).testBit t=true
 | [],j,r,h=>h
 | m::ms,j,r,h=>by
  simp only [confOf]
  split
  ·exact confOf_mono dst t ms _ _ h
  ·exact confOf_mono dst t ms _ _ (by rw [lor_bit,h]; simp)
theorem confOf_bit (dst t:Nat):∀ (ms:List Info) (j r:Nat) (k:Nat) (m:Info),ms[k]?=some m→j + k=t→Nat.beq (Nat.land dst (Nat.lor m.reads m.dst)) 0=false→(confOf dst ms j r).testBit t=true
 | [],j,r,k,m,h,_,_=>by simp at h
 | x::ms,j,r,k,m,h,e,hb=>by
  simp only [confOf]
  cases k with
  | zero =>
   simp at h; subst h
   rw [hb]
   simp only
   refine confOf_mono dst t ms _ _ ?_
   rw [lor_bit,pow_bit]
   simp at e
   simp [e]
  | succ k =>
   have h':ms[k]?=some m:=by simpa using h
   split
   ·exact confOf_bit dst t ms _ _ k m h' (by omega) hb
   ·exact confOf_bit dst t ms _ _ k m h' (by omega) hb
end
end Go.SX

namespace Go.SX
section
variable {P : Program} {tb : Tab} (ht : TabOk P tb) (hng : ∀ (f : Nat) (fn : Func), P.funcs[f]? = some fn → (fn.name == "runtime.NumGoroutine") = false)
structure AtNode (infos:List Info) (n listed used:Nat):Prop where
 down:Down infos listed
 lt:∀ i,listed.testBit i=true→i < n
 used:∀ i m,infos[i]?=some m→listed.testBit i=true→∀ t,(m.reads.testBit t=true∨m.dst.testBit t=true)→used.testBit t=true
structure Behind (P:Program) (ops:Array Oper) (listed neu real:Nat) (a a':Act) (w:World):Prop where
 sub:∀ i,real.testBit i=true→listed.testBit i=true
 down:Down (infosOf ops.toList ops.toList) real
 neu:∀ i,listed.testBit i=true→real.testBit i=false→neu.testBit i=true
 yields:∀ i o,ops[i]?=some o→listed.testBit i=true→real.testBit i=false→∃ v,YieldsAt P ops o v a w∧∀ d,o.dst=some d→d < a.tmps.size→a.tmps[d]?=some v
 conf:∀ i j oi oj,ops[i]?=some oi→ops[j]?=some oj→listed.testBit i=true→real.testBit i=false→listed.testBit j=true→real.testBit j=false →
  ∀ d,oj.dst=some d→(d∈oi.looksAt ops∨(i≠j∧oi.dst=some d))→i≠j∧(infoK ops.toList oi).wait.testBit j=true
 size:a'.tmps.size=a.tmps.size
 tmps:∀ s,(∀ i o,ops[i]?=some o→listed.testBit i=true→real.testBit i=false→o.dst≠some s)→a'.tmps[s]?=a.tmps[s]?
 defers:a'.defers=a.defers
theorem put_size (a:Act) (d:Option Tmp) (v:Value):(a.put d v).tmps.size=a.tmps.size:=by cases d <;> simp [Act.put]
theorem put_defers (a:Act) (d:Option Tmp) (v:Value):(a.put d v).defers=a.defers:=by cases d <;> rfl
theorem put_ne (a:Act) {d:Option Tmp} (v:Value) {s:Nat} (h:d≠some s):(a.put d v).tmps[s]?=a.tmps[s]?:=by
 cases d with
 | none=>rfl
 | some d =>
  have:d≠s:=fun e=>h (by rw [e])
  simp only [Act.put]
  rw [Array.getElem?_setIfInBounds_ne this]
theorem put_self (a:Act) {d:Nat} (v:Value) (h:d < a.tmps.size):(a.put (some d) v).tmps[d]?=some v:=by
 simp [Act.put,h]
theorem put_out (a:Act) {d:Nat} (v:Value) (h:¬ d < a.tmps.size):(a.put (some d) v).tmps[d]?=none:=by
 simp only [Act.put]; simp; omega
theorem andNot_bit (a b t:Nat):(andNot a b).testBit t=(a.testBit t && !b.testBit t):=by
 unfold andNot
 have h1:(Nat.xor a (Nat.land a b)).testBit t=((a.testBit t) ^^ (Nat.land a b).testBit t):=Nat.testBit_xor a (Nat.land a b) t
 rw [h1,land_bit]
 cases a.testBit t <;> cases b.testBit t <;> rfl
theorem lex_pair {ops:Array Oper}:∀ (l:List Oper) (k:Nat),lexAll (infosOf ops.toList l) k=true→(∀ j,l[j]?=ops[k + j]?) →
  ∀ i j x y,k≤i→i < j→ops[i]?=some x→ops[j]?=some y→(infoK ops.toList y).wait.testBit i=true∨x.apart ops y=true
 | [],k,_,hl,i,j,x,y,hki,_,hx,_=>by
  have:=hl (i - k)
  rw [show k + (i - k)=i by omega,hx] at this
  simp at this
 | o::l,k,h,hl,i,j,x,y,hki,hij,hx,hy=>by
  have h0:ops[k]?=some o:=by simpa using (hl 0).symm
  have hl':∀ j,l[j]?=ops[k + 1 + j]?:=fun j=>by have:=hl (j + 1); simpa [Nat.add_assoc,Nat.add_comm 1 j] using this
  simp only [infosOf,lexAll] at h
  split at h
  ·split at h
   ·rename_i hrest
    by_cases e:i=k
    ·subst e
     rw [h0] at hx; cases hx
     by_cases hw:(infoK ops.toList y).wait.testBit i=true
     ·exact .inl hw
     ·right
      have hlj:=hl' (j - (i + 1))
      rw [show i + 1 + (j - (i + 1))=j by omega,hy] at hlj
      refine lexRest_ok ops l hrest _ y hlj ?_
      intro e' he hb hon
      exact hw ((waitsOf_bit _ _).2 ⟨e',by simpa using he,hb,hon⟩)
    ·exact lex_pair l (k + 1) h hl' i j x y (by omega) hij hx hy
   ·cases h
  ·cases h
theorem lex_wait {ops:Array Oper}:∀ (l:List Oper) (k:Nat),lexAll (infosOf ops.toList l) k=true→(∀ j,l[j]?=ops[k + j]?) →
  ∀ i x,k≤i→ops[i]?=some x→∀ t,(infoK ops.toList x).wait.testBit t=true→t < i
 | [],k,_,hl,i,x,hki,hx=>by
  have:=hl (i - k)
  rw [show k + (i - k)=i by omega,hx] at this
  simp at this
 | o::l,k,h,hl,i,x,hki,hx=>by
  have h0:ops[k]?=some o:=by simpa using (hl 0).symm
  have hl':∀ j,l[j]?=ops[k + 1 + j]?:=fun j=>by have:=hl (j + 1); simpa [Nat.add_assoc,Nat.add_comm 1 j] using this
  simp only [infosOf,lexAll] at h
  split at h
  ·rename_i hb
   split at h
   ·by_cases e:i=k
    ·subst e
     rw [h0] at hx; cases hx
     intro t ht
     exact bits_lt hb ht
    ·exact lex_wait l (k + 1) h hl' i x (by omega) hx
   ·cases h
  ·cases h
def unl (n r:Nat):Nat:=(List.range n).countP fun i=>!r.testBit i
theorem unl_set {n r i:Nat} (hi:i < n) (h:r.testBit i=false):unl n (Nat.lor (Nat.pow 2 i) r) < unl n r:=by
 unfold unl
 have hsplit:List.range n=(List.range n).take i++i::(List.range n).drop (i + 1):=by
  have hl:i < (List.range n).length:=by simpa using hi
  have h1:(List.range n)[i]=i:=by simp
  exact (List.take_append_drop i (List.range n)).symm.trans (by rw [List.drop_eq_getElem_cons hl,h1])
 have hle:∀ l:List Nat,l.countP (fun j=>!(Nat.lor (Nat.pow 2 i) r).testBit j)≤l.countP (fun j=>!r.testBit j):=by
  intro l
  refine List.countP_mono_left fun j _ hj=>?_
  rw [lor_bit] at hj
  simp at hj ⊢
  exact hj.2
 rw [hsplit,List.countP_append,List.countP_append,List.countP_cons,List.countP_cons]
 have e1:(!(Nat.lor (Nat.pow 2 i) r).testBit i)=false:=by rw [lor_bit,pow_bit]; simp
 have e2:(!r.testBit i)=true:=by rw [h]; rfl
 rw [e1,e2]
 have a1:=hle ((List.range n).take i)
 have a2:=hle ((List.range n).drop (i + 1))
 simp only [Bool.false_eq_true,if_false,if_true]
 omega
theorem unl_zero {n r:Nat} (h:unl n r=0):∀ i,i < n→r.testBit i=true:=by
 intro i hi
 unfold unl at h
 rw [List.countP_eq_zero] at h
 have:=h i (by simpa using hi)
 simpa using this
def maskArr (n r:Nat):Array Bool:=(Array.range n).map fun i=>r.testBit i
theorem maskArr_ok {n r:Nat} (h:∀ i,r.testBit i=true→i < n):MaskOk n r (maskArr n r):=by
 refine ⟨by simp [maskArr],fun j=>?_⟩
 simp only [maskArr,Array.getD_eq_getD_getElem?,Array.getElem?_map,Array.getElem?_range]
 by_cases hj:j < n
 ·simp [hj]
 ·have:r.testBit j=false:=by
   cases hb:r.testBit j with
   | false=>rfl
   | true=>exact absurd (h j hb) hj
  simp [hj,this]
theorem ready_bits {ops:Array Oper} {r:Nat} {lst:Array Bool} (hm:MaskOk ops.size r lst) {j:Nat}:j∈Region.ready .any ops lst↔r.testBit j=false∧∃ o,ops[j]?=some o∧∀ t,(infoK ops.toList o).wait.testBit t=true→r.testBit t=true:=by
 rw [mem_ready]
 constructor
 ·rintro ⟨h1,o,ho,hall⟩
  have hlt:j < ops.size:=(Array.getElem?_eq_some_iff.1 ho).1
  rw [getD_of_lt (by rw [hm.1]; exact hlt),hm.2] at h1
  refine ⟨h1,o,ho,fun t ht=>?_⟩
  obtain ⟨e,he,hb,rfl⟩:=(waitsOf_bit _ _).1 ht
  have:=hall e (by simpa using he) hb
  rwa [hm.2] at this
 ·rintro ⟨h1,o,ho,hall⟩
  have hlt:j < ops.size:=(Array.getElem?_eq_some_iff.1 ho).1
  refine ⟨by rw [getD_of_lt (by rw [hm.1]; exact hlt),hm.2]; exact h1,o,ho,fun e he hb=>?_⟩
  rw [hm.2]
  exact hall _ ((waitsOf_bit _ _).2 ⟨e,by simpa using he,hb,rfl⟩)
theorem info_at {ops:Array Oper} {i:Nat} {o:Oper} (h:ops[i]?=some o):(infosOf ops.toList ops.toList)[i]?=some (infoK ops.toList o):=by
 rw [infosOf_get]
 simp [h]
theorem info_inv {ops:Array Oper} {i:Nat} {m:Info} (h:(infosOf ops.toList ops.toList)[i]?=some m):∃ o,ops[i]?=some o∧m=infoK ops.toList o:=by
 rw [infosOf_get] at h
 simp only [Array.getElem?_toList,Option.map_eq_some_iff] at h
 obtain ⟨o,h1,h2⟩:=h
 exact ⟨o,h1,h2.symm⟩
theorem Behind.advance {ops:Array Oper} {listed used neu real:Nat} {a a':Act} {w:World} (hb:Behind P ops listed neu real a a' w) (hs:∀ (j:Nat) (o:Oper) cs b,ops[j]?=some o→o.op≠.select cs b)
  (hlex:lexAll (infosOf ops.toList ops.toList) 0=true) (hnode:AtNode (infosOf ops.toList ops.toList) ops.size listed used)
  {k:Nat} {o:Oper} {v:Value} (hk:ops[k]?=some o) (hkl:listed.testBit k=false)
  (hy:YieldsAt P ops o v a w) (hself:∀ d,o.dst=some d→d ∉ o.looksAt ops)
  (hconf:∀ i oi,ops[i]?=some oi→listed.testBit i=true→real.testBit i=false→∀ d,o.dst=some d→d ∉ oi.looksAt ops∧oi.dst≠some d) :
  Behind P ops (Nat.lor (Nat.pow 2 k) listed) (Nat.lor (Nat.pow 2 k) neu) real (a.put o.dst v) a' w:=by
 have hbit:∀ i,(Nat.lor (Nat.pow 2 k) listed).testBit i=true→i=k∨listed.testBit i=true:=by
  intro i h
  rw [lor_bit,pow_bit,Bool.or_eq_true,decide_eq_true_eq] at h
  exact h.imp Eq.symm id
 refine ⟨fun i hi=>?_,hb.down,fun i h1 h2=>?_,fun i oi hoi h1 h2=>?_,fun i j oi oj hoi hoj h1 h2 h3 h4 d hd hor=>?_,by rw [put_size]; exact hb.size,fun s hsl=>?_,by rw [put_defers]; exact hb.defers⟩
 ·rw [lor_bit,hb.sub i hi]; simp
 ·rw [lor_bit]
  rcases hbit i h1 with rfl | h
  ·rw [pow_bit]; simp
  ·rw [hb.neu i h h2]; simp
 ·by_cases e:i=k
  ·subst e
   rw [hk] at hoi; cases hoi
   refine ⟨v,hy.agree (hs i o · · hk) fun t ht=>?_,fun d hd hlt=>?_⟩
   ·exact put_ne _ _ fun hd=>hself t hd ht
   ·rw [hd]
    rw [put_size] at hlt
    exact put_self _ _ hlt
  ·have hli:listed.testBit i=true:=(hbit i h1).resolve_left e
   obtain ⟨u,hu1,hu2⟩:=hb.yields i oi hoi hli h2
   refine ⟨u,hu1.agree (hs i oi · · hoi) fun t ht=>?_,fun d hd hlt=>?_⟩
   ·exact put_ne _ _ fun hd=>(hconf i oi hoi hli h2 t hd).1 ht
   ·rw [put_size] at hlt
    rw [put_ne _ _ fun hd'=>(hconf i oi hoi hli h2 d hd').2 hd]
    exact hu2 d hd hlt
 ·by_cases ei:i=k
  ·subst ei
   rw [hk] at hoi; cases hoi
   by_cases ej:j=i
   ·subst ej
    rw [hk] at hoj; cases hoj
    rcases hor with h | ⟨h,_⟩
    ·exact absurd h (hself d hd)
    ·exact absurd rfl h
   ·have hlj:listed.testBit j=true:=(hbit j h3).resolve_left ej
    refine ⟨fun e=>ej e.symm,?_⟩
    rcases Nat.lt_trichotomy j i with hji | hji | hji
    ·rcases lex_pair ops.toList 0 hlex (fun j=>by simp) j i oj o (Nat.zero_le _) hji hoj hk with hw | hap
     ·exact hw
     ·obtain ⟨p1,p2,p3⟩:=Oper.apart_spec hap
      rcases hor with h | ⟨_,h⟩
      ·exact absurd h (p1 d hd)
      ·exact absurd h (p2 d hd)
    ·exact absurd hji ej
    ·rcases lex_pair ops.toList 0 hlex (fun j=>by simp) i j o oj (Nat.zero_le _) hji hk hoj with hw | hap
     ·have:=hnode.down j _ (info_at hoj) hlj i hw
      rw [hkl] at this; cases this
     ·obtain ⟨p1,p2,p3⟩:=Oper.apart_spec hap
      rcases hor with h | ⟨_,h⟩
      ·exact absurd h (p3 d hd)
      ·exact absurd hd (p2 d h)
  ·have hli:listed.testBit i=true:=(hbit i h1).resolve_left ei
   by_cases ej:j=k
   ·subst ej
    rw [hk] at hoj; cases hoj
    obtain ⟨c1,c2⟩:=hconf i oi hoi hli h2 d hd
    rcases hor with h | ⟨_,h⟩
    ·exact absurd h c1
    ·exact absurd h c2
   ·exact hb.conf i j oi oj hoi hoj hli h2 ((hbit j h3).resolve_left ej) h4 d hd hor
 ·have hne:o.dst≠some s:=hsl k o hk (by rw [lor_bit,pow_bit]; simp) (by
   cases hr:real.testBit k with
   | false=>rfl
   | true=>rw [hb.sub k hr] at hkl; cases hkl)
  rw [put_ne _ _ hne]
  exact hb.tmps s fun i oi hoi h1 h2=>hsl i oi hoi (by rw [lor_bit,h1]; simp) h2
theorem Behind.catch {ops : Array Oper} {listed neu real : Nat} {a a' : Act} {w : World} (hb : Behind P ops listed neu real a a' w) (hs : ∀ (j : Nat) (o : Oper) cs b, ops[j]? = some o → o.op ≠ .select cs b)
    {j : Nat} {o : Oper} (hj : ops[j]? = some o) (hl : listed.testBit j = true) (hr : real.testBit j = false) (hw : ∀ t, (infoK ops.toList o).wait.testBit t = true → real.testBit t = true) :
    ∃ v, YieldsAt P ops o v a' w ∧ Behind P ops listed neu (Nat.lor (Nat.pow 2 j) real) a (a'.put o.dst v) w := by
  obtain ⟨v, hv1, hv2⟩ := hb.yields j o hj hl hr
  have hbit : ∀ i, (Nat.lor (Nat.pow 2 j) real).testBit i = true ↔ i = j ∨ real.testBit i = true := by
    intro i
    rw [lor_bit, pow_bit, Bool.or_eq_true, decide_eq_true_eq]
    constructor <;> exact Or.imp Eq.symm id
  have hnb : ∀ i, (Nat.lor (Nat.pow 2 j) real).testBit i = false → i ≠ j ∧ real.testBit i = false := by
    intro i h
    refine ⟨fun e => ?_, ?_⟩
    · rw [(hbit i).2 (.inl e)] at h; cases h
    · cases hri : real.testBit i with
      | false => rfl
      | true => rw [(hbit i).2 (.inr hri)] at h; cases h
  refine ⟨v, hv1.agree (hs j o · · hj) fun t ht => hb.tmps t fun i oi hoi h1 h2 hd => ?_, fun i hi => ?_, fun i m hm hi t ht => ?_, fun i h1 h2 => hb.neu i h1 (hnb i h2).2, fun i oi hoi h1 h2 => hb.yields i oi hoi h1 (hnb i h2).2,
    fun i k oi ok hoi hok h1 h2 h3 h4 => hb.conf i k oi ok hoi hok h1 (hnb i h2).2 h3 (hnb k h4).2, by rw [put_size]; exact hb.size, fun s hsl => ?_, by rw [put_defers]; exact hb.defers⟩
  · obtain ⟨hne, hwt⟩ := hb.conf j i o oi hj hoi hl hr h1 h2 t hd (.inl ht)
    rw [hw i hwt] at h2; cases h2
  · rcases (hbit i).1 hi with rfl | h
    · exact hl
    · exact hb.sub i h
  · rcases (hbit i).1 hi with rfl | h
    · obtain ⟨o', ho', rfl⟩ := info_inv hm
      rw [hj] at ho'; cases ho'
      exact (hbit t).2 (.inr (hw t ht))
    · exact (hbit t).2 (.inr (hb.down i m hm h t ht))
  · by_cases hd : o.dst = some s
    · rw [hd]
      by_cases hlt : s < a.tmps.size
      · rw [put_self _ _ (by rw [hb.size]; exact hlt), hv2 s hd hlt]
      · rw [put_out _ _ (by rw [hb.size]; exact hlt)]
        exact (Array.getElem?_eq_none (Nat.le_of_not_lt hlt)).symm
    · rw [put_ne _ _ hd]
      refine hb.tmps s fun i oi hoi h1 h2 => ?_
      by_cases e : i = j
      · subst e; rw [hj] at hoi; cases hoi; exact hd
      · refine hsl i oi hoi h1 ?_
        cases hx : (Nat.lor (Nat.pow 2 j) real).testBit i with
        | false => rfl
        | true => rcases (hbit i).1 hx with h | h
                  · exact absurd h e
                  · rw [h] at h2; cases h2
end
end Go.SX

namespace Go.SX
section
variable {P : Program} {tb : Tab} (ht : TabOk P tb) (hng : ∀ (f : Nat) (fn : Func), P.funcs[f]? = some fn → (fn.name == "runtime.NumGoroutine") = false)
theorem pow_lor_bit (k listed i:Nat):(Nat.lor (Nat.pow 2 k) listed).testBit i=true↔i=k∨listed.testBit i=true:=by
 rw [lor_bit,pow_bit,Bool.or_eq_true,decide_eq_true_eq]
 constructor <;> exact Or.imp Eq.symm id
theorem AtNode.next {ops:Array Oper} {listed used:Nat} (h:AtNode (infosOf ops.toList ops.toList) ops.size listed used) {k:Nat} {o:Oper} (hk:ops[k]?=some o)
  (hw:∀ t,(infoK ops.toList o).wait.testBit t=true→listed.testBit t=true) :
  AtNode (infosOf ops.toList ops.toList) ops.size (Nat.lor (Nat.pow 2 k) listed) (Nat.lor (Nat.lor (infoK ops.toList o).reads (infoK ops.toList o).dst) used):=by
 refine ⟨fun i m hm hi j hj=>?_,fun i hi=>?_,fun i m hm hi t ht=>?_⟩
 ·rw [pow_lor_bit] at hi ⊢
  rcases hi with rfl | hi
  ·obtain ⟨o',ho',rfl⟩:=info_inv hm
   rw [hk] at ho'; cases ho'
   exact .inr (hw j hj)
  ·exact .inr (h.down i m hm hi j hj)
 ·rcases (pow_lor_bit _ _ _).1 hi with rfl | hi
  ·exact (Array.getElem?_eq_some_iff.1 hk).1
  ·exact h.lt i hi
 ·rw [lor_bit,lor_bit]
  rcases (pow_lor_bit _ _ _).1 hi with rfl | hi
  ·obtain ⟨o',ho',rfl⟩:=info_inv hm
   rw [hk] at ho'; cases ho'
   rcases ht with ht | ht <;> rw [ht] <;> simp
  ·rw [h.used i m hm hi t ht]; simp
def Full (P:Program) (ops:Array Oper) (K:Act→World→Prop) (listed neu:Nat) (a:Act) (w:World):Prop :=
 ∀ (fuel real:Nat) (lst:Array Bool) (a':Act),MaskOk ops.size real lst→Behind P ops listed neu real a a' w→unl ops.size real≤fuel→wpAny P .any ops (onlyN K) fuel lst a' w
theorem ready_all {ops:Array Oper} (hlex:lexAll (infosOf ops.toList ops.toList) 0=true) {r:Nat} {lst:Array Bool} (hm:MaskOk ops.size r lst) (h:Region.ready .any ops lst=[]):∀ i,i < ops.size→r.testBit i=true:=by
 intro i
 induction i using Nat.strongRecOn with
 | _ i ih =>
  intro hi
  cases hb:r.testBit i with
  | true=>rfl
  | false =>
   have:i∈Region.ready .any ops lst:=by
    rw [ready_bits hm]
    have ho:ops[i]?=some ops[i]:=Array.getElem?_eq_getElem hi
    refine ⟨hb,_,ho,fun t ht=>?_⟩
    have hlt:=lex_wait ops.toList 0 hlex (fun j=>by simp) i _ (Nat.zero_le _) ho t ht
    exact ih t hlt (by omega)
   rw [h] at this; cases this
theorem full_of {ops:Array Oper} (hsel:∀ (j:Nat) (o:Oper) cs b,ops[j]?=some o→o.op≠.select cs b) (hlex:lexAll (infosOf ops.toList ops.toList) 0=true)
  {K:Act→World→Prop} {listed neu:Nat} {a:Act} {w:World}
  (hend:∀ real lst a',MaskOk ops.size real lst→Behind P ops listed neu real a a' w→(∀ i,i < ops.size→real.testBit i=true)→K a' w)
  (hstep:∀ fuel real lst a',MaskOk ops.size real lst→Behind P ops listed neu real a a' w→unl ops.size real≤fuel + 1→∀ j,j∈Region.ready .any ops lst→listed.testBit j=false →
   wpOp P ops (onlyN K) j (wpAny P .any ops (onlyN K) fuel (lst.setIfInBounds j true)) a' w):Full P ops K listed neu a w:=by
 intro fuel
 induction fuel with
 | zero =>
  intro real lst a' hm hb hu
  have hall:=unl_zero (n:=ops.size) (r:=real) (by omega)
  refine ⟨?_,hend real lst a' hm hb hall⟩
  cases hr:Region.ready .any ops lst with
  | nil=>rfl
  | cons j js =>
   have hj:j∈Region.ready .any ops lst:=by rw [hr]; simp
   obtain ⟨h1,o,ho,_⟩:=(ready_bits hm).1 hj
   rw [hall j (Array.getElem?_eq_some_iff.1 ho).1] at h1
   cases h1
 | succ fuel ih =>
  intro real lst a' hm hb hu
  refine ⟨fun hr=>hend real lst a' hm hb (ready_all hlex hm hr),fun j hj=>?_⟩
  obtain ⟨h1,o,ho,hw⟩:=(ready_bits hm).1 hj
  have hlt:=(Array.getElem?_eq_some_iff.1 ho).1
  cases hl:listed.testBit j with
  | false=>exact hstep fuel real lst a' hm hb hu j hj hl
  | true =>
   obtain ⟨v,hv,hb'⟩:=hb.catch hsel ho hl h1 hw
   refine hv.wpOp ho (ih _ _ _ (hm.set hlt) hb' ?_)
   have:=unl_set hlt h1
   omega
theorem allClo_ok (cs:Nat) (clos:List Nat):∀ (rs:List (Nat × Oper × Info)),allClo cs clos rs=true→∀ j o m,(j,o,m)∈rs→∃ c,clos[j]?=some c∧∀ t,cs.testBit t=true→c.testBit t=true
 | [],_,j,o,m,h=>by cases h
 | (i,o',m')::rs,h,j,o,m,hm=>by
  simp only [allClo] at h
  split at h
  ·rename_i c hc
   rw [getI_eq] at hc
   split at h
   ·rename_i hb
    cases hm with
    | head =>
     refine ⟨c,hc,fun t ht=>?_⟩
     have:=land_bit cs c t
     rw [Nat.eq_of_beq_eq_true hb,ht] at this
     simpa using this.symm
    | tail _ hm=>exact allClo_ok cs clos rs h j o m hm
   ·cases h
  ·cases h
theorem confOk_ok {ops:Array Oper} {clos:List Nat} (hgood:CloGood (infosOf ops.toList ops.toList) clos) {listed used:Nat} (hnode:AtNode (infosOf ops.toList ops.toList) ops.size listed used)
  {o:Oper} (h:confOk ops.toList (infosOf ops.toList ops.toList) clos listed used (infoK ops.toList o)=true):(∀ d,o.dst=some d→d ∉ o.looksAt ops) ∧
  ∀ {real:Nat} {lst:Array Bool},MaskOk ops.size real lst→(∀ i,real.testBit i=true→listed.testBit i=true)→Down (infosOf ops.toList ops.toList) real→∀ j,j∈Region.ready .any ops lst→listed.testBit j=false →
   ∀ i oi,ops[i]?=some oi→listed.testBit i=true→real.testBit i=false→∀ d,o.dst=some d→d ∉ oi.looksAt ops∧oi.dst≠some d:=by
 have hdst:∀ d,o.dst=some d→(infoK ops.toList o).dst.testBit d=true:=fun d hd=>(bitOf_bit _ _).2 hd
 have hself:Nat.beq (Nat.land (infoK ops.toList o).dst (infoK ops.toList o).reads) 0=true→∀ d,o.dst=some d→d ∉ o.looksAt ops:=by
  intro hz d hd hm
  exact land_zero hz d ⟨hdst d hd,(reads_bit _ _ _).2 hm⟩
 unfold confOk at h
 split at h
 ·rename_i hz
  have hz':∀ t,¬ ((infoK ops.toList o).dst.testBit t=true∧((infoK ops.toList o).reads.testBit t=true∨used.testBit t=true)):=by
   rintro t ⟨h1,h2⟩
   refine land_zero hz t ⟨h1,?_⟩
   rw [lor_bit]
   rcases h2 with h2 | h2 <;> rw [h2] <;> simp
  refine ⟨fun d hd hm=>hz' d ⟨hdst d hd,.inl ((reads_bit _ _ _).2 hm)⟩,?_⟩
  intro real lst hm hsub hdown j hj hjl i oi hoi h1 h2 d hd
  refine ⟨fun hmem=>hz' d ⟨hdst d hd,.inr (hnode.used i _ (info_at hoi) h1 d (.inl ((reads_bit _ _ _).2 hmem)))⟩,fun he=>hz' d ⟨hdst d hd,.inr (hnode.used i _ (info_at hoi) h1 d (.inr ((bitOf_bit _ _).2 he)))⟩⟩
 ·rw [Bool.and_eq_true] at h
  obtain ⟨hz,hall⟩:=h
  refine ⟨hself hz,?_⟩
  intro real lst hm hsub hdown j hj hjl i oi hoi h1 h2 d hd
  obtain ⟨hr,oj,hoj,hw⟩:=(ready_bits hm).1 hj
  have harr:=maskArr_ok hnode.lt
  have hj':j∈Region.ready .any ops (maskArr ops.size listed):=(ready_bits harr).2 ⟨hjl,oj,hoj,fun t ht=>hsub t (hw t ht)⟩
  obtain ⟨oj',ho',hmem⟩:=readyFrom_ok harr ops.toList 0 (fun j=>by simp) j (Nat.zero_le _) hj'
  obtain ⟨c,hc,hcs⟩:=allClo_ok _ _ _ hall j _ _ hmem
  have key:(confOf (infoK ops.toList o).dst (infosOf ops.toList ops.toList) 0 0).testBit i=true→False:=by
   intro hcf
   have h3:(Nat.land (confOf (infoK ops.toList o).dst (infosOf ops.toList ops.toList) 0 0) listed).testBit i=true:=by rw [land_bit,hcf,h1]; rfl
   have h4:=hcs i h3
   have h5:=clo_down hgood hdown j c _ hc (info_at hoj) hw i h4
   rw [h5] at h2; cases h2
  have hnz:((infoK ops.toList oi).reads.testBit d=true∨(infoK ops.toList oi).dst.testBit d=true)→False:=by
   intro hx
   refine key (confOf_bit _ i _ 0 0 i _ (info_at hoi) (by omega) ?_)
   cases hb:Nat.beq (Nat.land (infoK ops.toList o).dst (Nat.lor (infoK ops.toList oi).reads (infoK ops.toList oi).dst)) 0 with
   | false=>rfl
   | true =>
    exfalso
    refine land_zero hb d ⟨hdst d hd,?_⟩
    rw [lor_bit]
    rcases hx with hx | hx <;> rw [hx] <;> simp
  exact ⟨fun hmem=>hnz (.inl ((reads_bit _ _ _).2 hmem)),fun he=>hnz (.inr ((bitOf_bit _ _).2 he))⟩
include ht in
theorem canonScan_ok {ops:Array Oper} (hsel:∀ (j:Nat) (o:Oper) cs b,ops[j]?=some o→o.op≠.select cs b) (hlex:lexAll (infosOf ops.toList ops.toList) 0=true) {clos:List Nat} (hgood:CloGood (infosOf ops.toList ops.toList) clos)
  {K:Act→World→Prop} {B:Base} {ρ:Env} {st:St} {w:World} (hr:RepW B ρ st w) {os:List Out} {kk:Nat→Nat→Nat→Tm→Option E→Res}
  (hend:∀ listed used neu t pend a,kk listed used neu t pend=some os→AtNode (infosOf ops.toList ops.toList) ops.size listed used→TmRep ρ t a→Full P ops K listed neu a w) :
  ∀ (l:List Oper) (i:Nat),(∀ j,l[j]?=ops[i + j]?)→∀ (listed used neu:Nat) (t:Tm) (a:Act),canonScan P tb ops.toList (infosOf ops.toList ops.toList) clos st l (infosOf ops.toList l) i listed used neu t kk=some os →
   AtNode (infosOf ops.toList ops.toList) ops.size listed used→TmRep ρ t a→Full P ops K listed neu a w
 | [],i,hl,listed,used,neu,t,a,h,hnode,hT=>by
  simp only [infosOf,canonScan] at h
  exact hend _ _ _ _ _ _ h hnode hT
 | o::l,i,hl,listed,used,neu,t,a,h,hnode,hT=>by
  have h0:ops[i]?=some o:=by simpa using (hl 0).symm
  have hl':∀ j,l[j]?=ops[i + 1 + j]?:=fun j=>by have:=hl (j + 1); simpa [Nat.add_assoc,Nat.add_comm 1 j] using this
  have skip:=canonScan_ok hsel hlex hgood hr hend l (i + 1) hl' listed used neu t a
  simp only [infosOf,canonScan] at h
  split at h
  ·exact skip h hnode hT
  ·rename_i hbit
   split at h
   ·rename_i hw
    split at h
    ·rename_i v hv
     split at h
     ·rename_i hconf
      rw [putK_eq,forceK_eq,forceK_eq,forceK_eq] at h
      obtain ⟨hy,hvk⟩:=neutS_ok (P:=P) (ops:=ops) ht hv hr hT
      have harr:=maskArr_ok hnode.lt
      have hwait:∀ t,(infoK ops.toList o).wait.testBit t=true→listed.testBit t=true:=by
       intro t ht'
       have:=land_bit (infoK ops.toList o).wait listed t
       rw [Nat.eq_of_beq_eq_true hw,ht'] at this
       simpa using this.symm
      obtain ⟨hself,hcf⟩:=confOk_ok hgood hnode hconf
      have hnext:=canonScan_ok hsel hlex hgood hr hend l (i + 1) hl' _ _ _ _ (a.put o.dst (v.den ρ)) h (hnode.next h0 hwait) (hT.put _ _ hvk)
      have hlt:=(Array.getElem?_eq_some_iff.1 h0).1
      refine full_of hsel hlex (fun real lst a' hm hb hall=>?_) (fun fuel real lst a' hm hb hu j hj hjl=>?_)
      ·have:=hb.sub i (hall i hlt)
       rw [hbit] at this; cases this
      ·have hb':=hb.advance hsel hlex hnode h0 hbit hy hself (hcf hm hb.sub hb.down j hj hjl)
       exact (hnext (fuel + 1) real lst a' hm hb' hu).2 j hj
     ·exact skip h hnode hT
    ·exact hend _ _ _ _ _ _ h hnode hT
    ·exact skip h hnode hT
   ·exact skip h hnode hT
theorem canonTrack_ok {rec:Runner} {ops:Array Oper} {clos:List Nat} {listed used neu:Nat} {t:Tm} {st:St} {ih:Nat→Nat→Nat→Tm→St→Res}:∀ (rs:List (Nat × Oper × Info)) (os:List Out),
  canonTrack P tb rec ops.toList (infosOf ops.toList ops.toList) clos listed used neu t st ih rs=some os→∀ i o m,(i,o,m)∈rs→∃ c os',clos[i]?=some c∧(∀ x∈os',x∈os) ∧
   stepOper P tb rec ops.toList o t st (fun t' st'=>match recheck P tb ops.toList t' st' (andNot neu c) ops.toList 0 with
    | true=>ih (Nat.lor (Nat.pow 2 i) listed) (Nat.lor (Nat.lor m.reads m.dst) used) (andNot neu c) t' st'
    | false=>none)=some os'
 | [],os,h,i,o,m,hm=>by cases hm
 | (i',o',m')::rs,os,h,i,o,m,hm=>by
  simp only [canonTrack] at h
  split at h
  ·rename_i c hc
   rw [getI_eq] at hc
   split at h
   ·rename_i os1 h1
    split at h
    ·rename_i os2 h2
     simp only [Option.some.injEq] at h; subst h
     cases hm with
     | head =>
      refine ⟨c,os1,hc,fun x hx=>List.mem_append.2 (.inl hx),?_⟩
      rw [forceK_eq] at h1
      rw [← h1]
      congr 1
      funext t' st'
      cases recheck P tb ops.toList t' st' (andNot neu c) ops.toList 0 <;> simp only [forceK_eq]
     | tail _ hm =>
      obtain ⟨c',os',k1,k2,k3⟩:=canonTrack_ok rs os2 h2 i o m hm
      exact ⟨c',os',k1,fun x hx=>List.mem_append.2 (.inr (k2 x hx)),k3⟩
    ·cases h
   ·cases h
  ·cases h
include ht in
theorem recheck_ok {B:Base} {ρ:Env} {st:St} {w:World} {ops:Array Oper} {t:Tm} {a:Act} {neu:Nat} (hr:RepW B ρ st w) (hT:TmRep ρ t a):∀ (l:List Oper) (i:Nat),(∀ j,l[j]?=ops[i + j]?)→recheck P tb ops.toList t st neu l i=true →
  ∀ k o,i≤k→ops[k]?=some o→neu.testBit k=true→∃ v,YieldsAt P ops o v a w∧∀ d,o.dst=some d→d < a.tmps.size→a.tmps[d]?=some v
 | [],i,hl,h,k,o,hik,hk,hn=>by
  have:=hl (k - i)
  rw [show i + (k - i)=k by omega,hk] at this
  simp at this
 | x::l,i,hl,h,k,o,hik,hk,hn=>by
  have h0:ops[i]?=some x:=by simpa using (hl 0).symm
  have hl':∀ j,l[j]?=ops[i + 1 + j]?:=fun j=>by have:=hl (j + 1); simpa [Nat.add_assoc,Nat.add_comm 1 j] using this
  simp only [recheck] at h
  by_cases e:k=i
  ·subst e
   rw [h0] at hk; cases hk
   rw [hn] at h
   simp only at h
   split at h
   ·rename_i v hv
    obtain ⟨hy,_⟩:=neutS_ok (P:=P) (ops:=ops) ht hv hr hT
    refine ⟨_,hy,fun d hd hlt=>?_⟩
    rw [hd] at h
    simp only at h
    split at h
    ·rename_i u hu
     split at h
     ·rename_i hb
      rw [Bool.and_eq_true] at hb
      have:=SV.beq_eq _ _ hb.2
      subst this
      exact hT.at hu (by intro e; subst e; simp [SV.isJunk] at hb)
     ·cases h
    ·cases h
   ·cases h
  ·refine recheck_ok hr hT l (i + 1) hl' ?_ k o (by omega) hk hn
   split at h
   ·exact h
   ·split at h
    ·split at h
     ·exact h
     ·split at h
      ·split at h
       ·exact h
       ·cases h
      ·cases h
    ·cases h
include ht hng in
theorem canonGo_ok {ops:Array Oper} (hsel:∀ (j:Nat) (o:Oper) cs b,ops[j]?=some o→o.op≠.select cs b) (hlex:lexAll (infosOf ops.toList ops.toList) 0=true) {clos:List Nat} (hgood:CloGood (infosOf ops.toList ops.toList) clos)
  {q:Nat} {rec:Runner} (hrec:RunOk P tb q rec) {K:Act→World→Prop} {B:Base} {ρ0:Env} {k:Cont} {os0:List Out} (hK:ContRes B ρ0 K k os0) :
  ∀ (n listed used neu:Nat) (t:Tm) (st:St) (os:List Out),canonGo P tb rec ops.toList (infosOf ops.toList ops.toList) clos k n listed used neu t st=some os→(∀ x∈os,x∈os0) →
   ∀ (ρ:Env) (a:Act) (w:World),ρ0.Ext ρ→RepW B ρ st w→TmRep ρ t a→AtNode (infosOf ops.toList ops.toList) ops.size listed used→Full P ops K listed neu a w:=by
 intro n
 induction n with
 | zero=>intro listed used neu t st os h; cases h
 | succ n ih =>
  intro listed used neu t st os h hsub ρ a w he hr hT hnode
  have h':canonScan P tb ops.toList (infosOf ops.toList ops.toList) clos st ops.toList (infosOf ops.toList ops.toList) 0 listed used neu t (fun listed used neu tmps pend=>match pend with
   | some e=>join (canonGo P tb rec ops.toList (infosOf ops.toList ops.toList) clos k n listed used neu tmps { st with pc:=e::st.pc }) (canonGo P tb rec ops.toList (infosOf ops.toList ops.toList) clos k n listed used neu tmps { st with pc:=mkNot e::st.pc })
   | none=>canonNext P tb rec ops.toList (infosOf ops.toList ops.toList) clos listed used neu tmps st k (canonGo P tb rec ops.toList (infosOf ops.toList ops.toList) clos k n))=some os:=h
  clear h
  refine canonScan_ok ht hsel hlex hgood hr ?_ ops.toList 0 (fun j=>by simp) listed used neu t a h' hnode hT
  clear h' hnode hT listed used neu t a
  intro listed used neu t pend a h hnode hT
  cases pend with
  | some e =>
   obtain ⟨l,m,h1,h2,h3,h4⟩:=join_some h
   by_cases hb:e.B ρ=true
   ·exact ih _ _ _ _ _ _ h1 (fun x hx=>hsub x (h3 x hx)) ρ a w he (hr.assume hb) hT hnode
   ·exact ih _ _ _ _ _ _ h2 (fun x hx=>hsub x (h4 x hx)) ρ a w he (hr.assume (by rw [mkNot_B]; simpa using hb)) hT hnode
  | none =>
   simp only [canonNext] at h
   have harr:=maskArr_ok hnode.lt
   split at h
   ·rename_i hrd
    have hall:∀ i,i < ops.size→listed.testBit i=true:=by
     refine ready_all hlex harr ?_
     cases hx:Region.ready .any ops (maskArr ops.size listed) with
     | nil=>rfl
     | cons j js =>
      obtain ⟨o,_,hmem⟩:=readyFrom_ok harr ops.toList 0 (fun j=>by simp) j (Nat.zero_le _) (by rw [hx]; simp)
      rw [hrd] at hmem; cases hmem
    refine full_of hsel hlex (fun real lst a' hm hb hreal=>?_) (fun fuel real lst a' hm hb hu j hj hjl=>?_)
    ·have hsame:a'=a:=by
      have h1:a'.tmps=a.tmps:=by
       refine Array.ext (hb.size) fun i h1 h2=>?_
       have:=hb.tmps i fun k o ho hl hr'=>by
        rw [hreal k (Array.getElem?_eq_some_iff.1 ho).1] at hr'; cases hr'
       rw [Array.getElem?_eq_getElem h1,Array.getElem?_eq_getElem h2] at this
       simpa using this
      have h2:=hb.defers
      cases a; cases a'
      simp_all
     rw [hsame]
     exact hK t st ρ a w os h hsub he hr hT
    ·obtain ⟨_,o,ho,_⟩:=(ready_bits hm).1 hj
     rw [hall j (Array.getElem?_eq_some_iff.1 ho).1] at hjl; cases hjl
   ·rename_i hrd
    refine full_of hsel hlex (fun real lst a' hm hb hreal=>?_) (fun fuel real lst a' hm hb hu j hj hjl=>?_)
    ·exfalso
     cases hx:readyFrom listed ops.toList (infosOf ops.toList ops.toList) 0 with
     | nil=>exact hrd hx
     | cons y ys =>
      obtain ⟨i,o,m⟩:=y
      have hi:=readyFrom_conv' harr ops.toList 0 (fun j=>by simp) i o m (by rw [hx]; simp)
      obtain ⟨h1,o',ho',_⟩:=(ready_bits harr).1 hi
      rw [hb.sub i (hreal i (Array.getElem?_eq_some_iff.1 ho').1)] at h1
      cases h1
    ·obtain ⟨hrj,o,ho,hw⟩:=(ready_bits hm).1 hj
     have hlt:=(Array.getElem?_eq_some_iff.1 ho).1
     have hj':j∈Region.ready .any ops (maskArr ops.size listed):=(ready_bits harr).2 ⟨hjl,o,ho,fun t ht=>hb.sub t (hw t ht)⟩
     obtain ⟨o',ho',hmem⟩:=readyFrom_ok harr ops.toList 0 (fun j=>by simp) j (Nat.zero_le _) hj'
     rw [ho] at ho'; cases ho'
     obtain ⟨c,os',hc,hos',hst⟩:=canonTrack_ok _ _ h j o _ hmem
     have hsop:=stepOper_ok (P:=P) ht hng hrec hst hr hT (B:=B) (K:=fun b w2=>∃ ρ2 t2 st2 os2,recheck P tb ops.toList t2 st2 (andNot neu c) ops.toList 0=true ∧
       canonGo P tb rec ops.toList (infosOf ops.toList ops.toList) clos k n (Nat.lor (Nat.pow 2 j) listed) (Nat.lor (Nat.lor (infoK ops.toList o).reads (infoK ops.toList o).dst) used) (andNot neu c) t2 st2=some os2∧(∀ x∈os2,x∈os0) ∧
       ρ0.Ext ρ2∧RepW B ρ2 st2 w2∧TmRep ρ2 t2 b) (by
      intro t2 st2 ρ2 b w2 os2 e1 e2 e3 e4 e5
      dsimp only at e1
      split at e1
      ·rename_i hrc
       exact ⟨ρ2,t2,st2,os2,hrc,e1,fun x hx=>hsub x (hos' x (e2 x hx)),he.trans e3,e4,e5⟩
      ·cases e1) (onlyN K)
     have hnoD:∀ i oi,ops[i]?=some oi→listed.testBit i=true→real.testBit i=false→∀ d,oi.dst=some d→d ∉ o.looksAt ops:=by
      intro i oi hoi h1 h2 d hd hmem
      rcases Nat.lt_trichotomy i j with hij | hij | hij
      ·rcases lex_pair ops.toList 0 hlex (fun j=>by simp) i j oi o (Nat.zero_le _) hij hoi ho with hwt | hap
       ·rw [hw i hwt] at h2; cases h2
       ·exact (Oper.apart_spec hap).1 d hd hmem
      ·subst hij; rw [h1] at hjl; cases hjl
      ·rcases lex_pair ops.toList 0 hlex (fun j=>by simp) j i o oi (Nat.zero_le _) hij ho hoi with hwt | hap
       ·rw [hnode.down i _ (info_at hoi) h1 j hwt] at hjl; cases hjl
       ·exact (Oper.apart_spec hap).2.2 d hd hmem
     refine wp_transfer ho (hsel j o · · ho) (fun s hs=>hb.tmps s fun i oi hoi h1 h2 hd=>hnoD i oi hoi h1 h2 s hd hs) (fun b w' hx=>by
      obtain ⟨ρ2,t2,st2,os2,_,_,_,_,_,hT2⟩:=hx; exact hT2.1) hb.defers ?_ hsop
     rintro u w2 ⟨ρ2,t2,st2,os2,hrc,hgo,hsub2,he2,hr2,hT2⟩
     have hw':∀ t,(infoK ops.toList o).wait.testBit t=true→listed.testBit t=true:=fun t ht=>hb.sub t (hw t ht)
     have hclo:=clo_down hgood hb.down j c _ hc (info_at ho) hw
     have hbit:∀ i,(Nat.lor (Nat.pow 2 j) real).testBit i=false→i≠j∧real.testBit i=false:=by
      intro i hx
      refine ⟨fun e=>?_,?_⟩
      ·rw [(pow_lor_bit j real i).2 (.inl e)] at hx; cases hx
      ·cases hri:real.testBit i with
       | false=>rfl
       | true=>rw [(pow_lor_bit j real i).2 (.inr hri)] at hx; cases hx
     have hold:∀ i,(Nat.lor (Nat.pow 2 j) listed).testBit i=true→(Nat.lor (Nat.pow 2 j) real).testBit i=false→listed.testBit i=true∧real.testBit i=false:=by
      intro i h1 h2
      obtain ⟨hne,hri⟩:=hbit i h2
      exact ⟨((pow_lor_bit j listed i).1 h1).resolve_left hne,hri⟩
     have hneu:∀ i,listed.testBit i=true→real.testBit i=false→(andNot neu c).testBit i=true:=by
      intro i h1 h2
      rw [andNot_bit,hb.neu i h1 h2]
      cases hci:c.testBit i with
      | false=>rfl
      | true=>rw [hclo i hci] at h2; cases h2
     have hb2:Behind P ops (Nat.lor (Nat.pow 2 j) listed) (andNot neu c) (Nat.lor (Nat.pow 2 j) real) (a.put o.dst u) (a'.put o.dst u) w2:=by
      refine ⟨fun i hi=>?_,fun i m hm' hi t ht'=>?_,fun i h1 h2=>?_,fun i oi hoi h1 h2=>?_,fun i i' oi oi' hoi hoi' h1 h2 h3 h4=>?_,by rw [put_size,put_size]; exact hb.size,fun s hs=>?_,by rw [put_defers,put_defers]; exact hb.defers⟩
      ·rw [pow_lor_bit] at hi ⊢
       exact hi.imp id (hb.sub i)
      ·rw [pow_lor_bit] at hi ⊢
       rcases hi with rfl | hi
       ·obtain ⟨o2,ho2,rfl⟩:=info_inv hm'
        rw [ho] at ho2; cases ho2
        exact .inr (hw t ht')
       ·exact .inr (hb.down i m hm' hi t ht')
      ·obtain ⟨k1,k2⟩:=hold i h1 h2
       exact hneu i k1 k2
      ·obtain ⟨k1,k2⟩:=hold i h1 h2
       exact recheck_ok ht hr2 hT2 ops.toList 0 (fun j=>by simp) hrc i oi (Nat.zero_le _) hoi (hneu i k1 k2)
      ·obtain ⟨k1,k2⟩:=hold i h1 h2
       obtain ⟨k3,k4⟩:=hold i' h3 h4
       exact hb.conf i i' oi oi' hoi hoi' k1 k2 k3 k4
      ·by_cases hd:o.dst=some s
       ·rw [hd]
        by_cases hlt':s < a.tmps.size
        ·rw [put_self _ _ hlt',put_self _ _ (by rw [hb.size]; exact hlt')]
        ·rw [put_out _ _ hlt',put_out _ _ (by rw [hb.size]; exact hlt')]
       ·rw [put_ne _ _ hd,put_ne _ _ hd]
        refine hb.tmps s fun i oi hoi h1 h2=>hs i oi hoi ((pow_lor_bit _ _ _).2 (.inr h1)) ?_
        cases hx:(Nat.lor (Nat.pow 2 j) real).testBit i with
        | false=>rfl
        | true =>
         rcases (pow_lor_bit _ _ _).1 hx with rfl | hx
         ·rw [h1] at hjl; cases hjl
         ·rw [hx] at h2; cases h2
     refine ih _ _ _ _ _ _ hgo hsub2 ρ2 _ w2 he2 hr2 hT2 (hnode.next ho hw') fuel _ _ _ (hm.set hlt) hb2 ?_
     have:=unl_set hlt hrj
     omega
where
 readyFrom_conv' {ops:Array Oper} {m:Nat} {listed:Array Bool} (hm:MaskOk ops.size m listed):∀ (l:List Oper) (k:Nat),(∀ j,l[j]?=ops[k + j]?) →
   ∀ i o inf,(i,o,inf)∈readyFrom m l (infosOf ops.toList l) k→i∈Region.ready .any ops listed
  | [],k,hl,i,o,inf,h=>by simp [infosOf,readyFrom] at h
  | o::l,k,hl,i,o',inf,h=>by
   have h0:ops[k]?=some o:=by simpa using (hl 0).symm
   have ih:=readyFrom_conv' hm l (k + 1) (fun j=>by have:=hl (j + 1); simpa [Nat.add_assoc,Nat.add_comm 1 j] using this) i o' inf
   simp only [infosOf,readyFrom] at h
   split at h
   ·exact ih h
   ·rename_i hbit
    split at h
    ·rename_i hw
     cases h with
     | head =>
      have hlt:k < ops.size:=(Array.getElem?_eq_some_iff.1 h0).1
      refine mem_ready.2 ⟨?_,o,h0,(waits_ok hm).1 hw⟩
      rw [getD_of_lt (by rw [hm.1]; exact hlt),hm.2]; exact hbit
     | tail _ h=>exact ih h
    ·exact ih h
end
end Go.SX

namespace Go.SX
section
variable {P : Program} {tb : Tab} (ht : TabOk P tb) (hnat : ∀ x ∈ tb.nats, NatOk P x) (hng : ∀ (f : Nat) (fn : Func), P.funcs[f]? = some fn → (fn.name == "runtime.NumGoroutine") = false)
def Passes (P:Program) (ops:Array Oper) (m n:Nat) (t:Tm) (m' n':Nat) (t':Tm):Prop :=
 ∀ (L:Act→World→Prop) (ρ:Env) (a:Act) (lst:Array Bool) (w:World),TmRep ρ t a→MaskOk ops.size m lst →
  (∀ a' lst',TmRep ρ t' a'→MaskOk ops.size m' lst'→wpAny P .any ops (onlyN L) n' lst' a' w)→wpAny P .any ops (onlyN L) n lst a w
theorem Passes.refl (ops:Array Oper) (m n:Nat) (t:Tm):Passes P ops m n t m n t:=fun L ρ a lst w h1 h2 h3=>h3 a lst h1 h2
theorem Passes.trans {ops:Array Oper} {m n m' n' m'' n'':Nat} {t t' t'':Tm} (h:Passes P ops m n t m' n' t') (k:Passes P ops m' n' t' m'' n'' t''):Passes P ops m n t m'' n'' t'' :=
 fun L ρ a lst w h1 h2 h3=>h L ρ a lst w h1 h2 fun a' lst' h4 h5=>k L ρ a' lst' w h4 h5 h3
theorem noSel_arr {ops:Array Oper} (hs:noSel ops.toList=true):∀ (j:Nat) (o:Oper) cs b,ops[j]?=some o→o.op≠.select cs b :=
 fun j o cs b h=>noSel_ok _ hs j o cs b (by simpa using h)
theorem passes_one {ops:Array Oper} (hs:noSel ops.toList=true) {i m n:Nat} {o:Oper} {t:Tm} {v:SV} (hi:ops[i]?=some o) (hbit:m.testBit i=false)
  (hw:Nat.beq (Nat.land (infoK ops.toList o).wait m) (infoK ops.toList o).wait=true) (hf:freeFrom m i (infoK ops.toList o) (infosOf ops.toList ops.toList) 0=true)
  (hy:∀ (ρ:Env) (a:Act),TmRep ρ t a→YieldsP P ops o (v.den ρ) a) (hvk:∀ (ρ:Env) (a:Act),TmRep ρ t a→v.ok ρ) :
  Passes P ops m (n + 1) t (Nat.lor (Nat.pow 2 i) m) n (match o.dst with | none=>t | some d=>t.set d v):=by
 intro L ρ a lst w h1 h2 h3
 have hlt:i < ops.size:=(Array.getElem?_eq_some_iff.1 hi).1
 refine wpAny_first hi (noSel_arr hs) n lst a w (fun j oj=>?_) ?_ (hy ρ a h1) ?_
 ·exact freeFrom_ok h2 ops.toList 0 (fun j=>by simp) hf j oj (Nat.zero_le j)
 ·refine mem_ready.2 ⟨?_,o,hi,(waits_ok h2).1 hw⟩
  rw [getD_of_lt (by rw [h2.1]; exact hlt),h2.2]; exact hbit
 ·exact h3 _ _ (h1.put _ _ (hvk ρ a h1)) (h2.set hlt)
include ht in
theorem pureScan_ok {β:Type} {ops:Array Oper} (hs:noSel ops.toList=true):∀ (l:List Oper) (i m n:Nat) (t:Tm) (k:Nat→Nat→Tm→β),(∀ j,l[j]?=ops[i + j]?) →
  ∃ m' n' t',pureScan P tb ops.toList (infosOf ops.toList ops.toList) l (infosOf ops.toList l) i m n t k=k m' n' t'∧Passes P ops m n t m' n' t'
 | [],i,m,n,t,k,hl=>⟨m,n,t,by simp [infosOf,pureScan],Passes.refl _ _ _ _⟩
 | o::l,i,m,n,t,k,hl=>by
  have h0:ops[i]?=some o:=by simpa using (hl 0).symm
  have hl':∀ j,l[j]?=ops[i + 1 + j]?:=fun j=>by have:=hl (j + 1); simpa [Nat.add_assoc,Nat.add_comm 1 j] using this
  have next:=fun m n t=>pureScan_ok hs l (i + 1) m n t k hl'
  simp only [infosOf,pureScan]
  split
  ·exact next m n t
  ·rename_i hbit
   split
   ·rename_i hw
    cases n with
    | zero=>exact ⟨m,0,t,rfl,Passes.refl _ _ _ _⟩
    | succ n =>
     simp only
     split
     ·rename_i hq
      split
      ·rename_i v hv
       split
       ·rename_i hf
        rw [putK_eq,forceK_eq]
        obtain ⟨m',n',t',h1,h2⟩:=next (Nat.lor (Nat.pow 2 i) m) n (match o.dst with | none=>t | some d=>t.set d v)
        refine ⟨m',n',t',h1,(passes_one hs h0 hbit hw hf ?_ (fun ρ a hT=>pureOp_wf hT.wf hv)).trans h2⟩
        intro ρ a hT
        have hwant:=wantS_ok (ops:=ops) hT o
        rw [hq] at hwant
        exact .inl ⟨hwant,fun w=>pureOp_ok ht hT.eval hT.wf hv w⟩
       ·exact next m (n + 1) t
      ·exact next m (n + 1) t
     ·rename_i hq
      split
      ·rename_i hf
       rw [putK_eq,forceK_eq]
       obtain ⟨m',n',t',h1,h2⟩:=next (Nat.lor (Nat.pow 2 i) m) n (match o.dst with | none=>t | some d=>t.set d SV.undef)
       refine ⟨m',n',t',h1,(passes_one hs h0 hbit hw hf ?_ (fun ρ _ _=>undef_wf ρ)).trans h2⟩
       intro ρ a hT
       have hwant:=wantS_ok (ops:=ops) hT o
       rw [hq] at hwant
       rw [SV.undef_den]
       exact .inr ⟨hwant,rfl⟩
      ·exact next m (n + 1) t
     ·exact next m (n + 1) t
   ·exact next m n t
include ht in
theorem toNodes_ok {ops:Array Oper} (hs:noSel ops.toList=true) (m n:Nat):∀ (os:List Out) (acc:List Node),
  (∀ x∈acc,x∈toNodes P tb ops.toList (infosOf ops.toList ops.toList) m n os acc) ∧
  (∀ o∈os,∃ x∈toNodes P tb ops.toList (infosOf ops.toList ops.toList) m n os acc,x.st=o.st∧Passes P ops m n o.tmps x.listed x.left x.tmps)
 | [],acc=>⟨fun x hx=>hx,fun o ho=>by cases ho⟩
 | o::os,acc=>by
  simp only [toNodes]
  obtain ⟨m',n',t',h1,h2⟩:=pureScan_ok (P:=P) ht hs ops.toList 0 m n o.tmps (fun listed left tmps =>
   toNodes P tb ops.toList (infosOf ops.toList ops.toList) m n os (putNode acc ⟨listed,left,tmps,o.st⟩)) (fun j=>by simp)
  rw [h1]
  have hmem:(⟨m',n',t',o.st⟩:Node)∈putNode acc ⟨m',n',t',o.st⟩∧∀ x∈acc,x∈putNode acc ⟨m',n',t',o.st⟩:=by
   unfold putNode
   cases hh:hasNode acc ⟨m',n',t',o.st⟩ with
   | true=>exact ⟨hasNode_ok _ _ hh,fun x hx=>hx⟩
   | false=>exact ⟨by simp,fun x hx=>by simp [hx]⟩
  obtain ⟨i1,i2⟩:=toNodes_ok hs m n os (putNode acc ⟨m',n',t',o.st⟩)
  refine ⟨fun x hx=>i1 x (hmem.2 x hx),fun o' ho'=>?_⟩
  cases ho' with
  | head=>exact ⟨_,i1 _ hmem.1,rfl,h2⟩
  | tail _ hm=>exact i2 o' hm
include ht in
theorem each_ok {rec:Runner} {ops:Array Oper} (hs:noSel ops.toList=true) {x:Node} {n:Nat}:∀ (rs:List (Nat × Oper × Info)) (acc res:List Node),
  each P tb rec ops.toList (infosOf ops.toList ops.toList) x n rs acc=some res→(∀ y∈acc,y∈res) ∧
  (∀ i o inf,(i,o,inf)∈rs→∃ os,stepOper P tb rec ops.toList o x.tmps x.st collect=some os ∧
   ∀ o'∈os,∃ y∈res,y.st=o'.st∧Passes P ops (Nat.lor (Nat.pow 2 i) x.listed) n o'.tmps y.listed y.left y.tmps)
 | [],acc,res,h=>by
  simp only [each,Option.some.injEq] at h; subst h
  exact ⟨fun y hy=>hy,fun i o inf hm=>by cases hm⟩
 | (i,o,inf)::rs,acc,res,h=>by
  simp only [each] at h
  split at h
  ·rename_i os hos
   rw [forceK_eq] at h
   obtain ⟨h1,h2⟩:=each_ok hs rs _ res h
   obtain ⟨k1,k2⟩:=toNodes_ok (P:=P) ht hs (Nat.lor (Nat.pow 2 i) x.listed) n os acc
   refine ⟨fun y hy=>h1 y (k1 y hy),?_⟩
   intro i' o' inf' hm
   cases hm with
   | head =>
    refine ⟨os,hos,fun o2 ho2=>?_⟩
    obtain ⟨y,hy,e1,e2⟩:=k2 o2 ho2
    exact ⟨y,h1 y hy,e1,e2⟩
   | tail _ hm=>exact h2 i' o' inf' hm
  ·cases h
def NodeDone (P:Program) (tb:Tab) (rec:Runner) (ops:Array Oper) (k:Cont) (next:List Node) (os:List Out) (x:Node):Prop :=
 (readyFrom x.listed ops.toList (infosOf ops.toList ops.toList) 0=[]∧∃ os',k x.tmps x.st=some os'∧∀ y∈os',y∈os) ∨
 (readyFrom x.listed ops.toList (infosOf ops.toList ops.toList) 0≠[]∧∃ n,x.left=n + 1 ∧
  ∀ i o inf,(i,o,inf)∈readyFrom x.listed ops.toList (infosOf ops.toList ops.toList) 0→∃ os,stepOper P tb rec ops.toList o x.tmps x.st collect=some os ∧
   ∀ o'∈os,∃ y∈next,y.st=o'.st∧Passes P ops (Nat.lor (Nat.pow 2 i) x.listed) n o'.tmps y.listed y.left y.tmps)
include ht in
theorem stepNodes_ok {rec:Runner} {ops:Array Oper} (hs:noSel ops.toList=true) {k:Cont}:∀ (l acc next:List Node) (os:List Out),
  stepNodes P tb rec ops.toList (infosOf ops.toList ops.toList) k l acc=some (next,os)→(∀ y∈acc,y∈next)∧∀ x∈l,NodeDone P tb rec ops k next os x
 | [],acc,next,os,h=>by
  simp only [stepNodes,Option.some.injEq,Prod.mk.injEq] at h
  obtain ⟨rfl,rfl⟩:=h
  exact ⟨fun y hy=>hy,fun x hx=>by cases hx⟩
 | x::l,acc,next,os,h=>by
  simp only [stepNodes] at h
  split at h
  ·rename_i hr
   split at h
   ·rename_i os1 hk
    split at h
    ·rename_i acc' more hm
     simp only [Option.some.injEq,Prod.mk.injEq] at h
     obtain ⟨rfl,rfl⟩:=h
     obtain ⟨h1,h2⟩:=stepNodes_ok hs l acc _ _ hm
     refine ⟨h1,fun y hy=>?_⟩
     cases hy with
     | head=>exact .inl ⟨hr,os1,hk,fun z hz=>List.mem_append.2 (.inl hz)⟩
     | tail _ hy =>
      rcases h2 y hy with ⟨e1,os',e2,e3⟩ | h3
      ·exact .inl ⟨e1,os',e2,fun z hz=>List.mem_append.2 (.inr (e3 z hz))⟩
      ·exact .inr h3
    ·cases h
   ·cases h
  ·rename_i hr
   split at h
   ·cases h
   ·rename_i n hn
    split at h
    ·rename_i acc' he
     obtain ⟨h1,h2⟩:=stepNodes_ok hs l acc' _ _ h
     obtain ⟨k1,k2⟩:=each_ok (P:=P) ht hs _ _ _ he
     refine ⟨fun y hy=>h1 y (k1 y hy),fun y hy=>?_⟩
     cases hy with
     | head =>
      refine .inr ⟨hr,n,hn,fun i o inf hm=>?_⟩
      obtain ⟨os',e1,e2⟩:=k2 i o inf hm
      refine ⟨os',e1,fun o' ho'=>?_⟩
      obtain ⟨z,hz,e3,e4⟩:=e2 o' ho'
      exact ⟨z,h1 z hz,e3,e4⟩
     | tail _ hy=>exact h2 y hy
    ·cases h
theorem readyFrom_conv {ops:Array Oper} {m:Nat} {listed:Array Bool} (hm:MaskOk ops.size m listed):∀ (l:List Oper) (k:Nat),(∀ j,l[j]?=ops[k + j]?) →
  ∀ i o inf,(i,o,inf)∈readyFrom m l (infosOf ops.toList l) k→i∈Region.ready .any ops listed
 | [],k,hl,i,o,inf,h=>by simp [infosOf,readyFrom] at h
 | o::l,k,hl,i,o',inf,h=>by
  have h0:ops[k]?=some o:=by simpa using (hl 0).symm
  have ih:=readyFrom_conv hm l (k + 1) (fun j=>by have:=hl (j + 1); simpa [Nat.add_assoc,Nat.add_comm 1 j] using this) i o' inf
  simp only [infosOf,readyFrom] at h
  split at h
  ·exact ih h
  ·rename_i hbit
   split at h
   ·rename_i hw
    cases h with
    | head =>
     have hlt:k < ops.size:=(Array.getElem?_eq_some_iff.1 h0).1
     refine mem_ready.2 ⟨?_,o,h0,(waits_ok hm).1 hw⟩
     rw [getD_of_lt (by rw [hm.1]; exact hlt),hm.2]; exact hbit
    | tail _ h=>exact ih h
   ·exact ih h
include ht hng in
theorem stepLayer_ok {n:Nat} {rec:Runner} (hrec:RunOk P tb n rec) {ops:Array Oper} (hs:noSel ops.toList=true) {l:List Node} {t:Tm} {st:St} {k:Out→Res} {os:List Out}
  (h:stepLayer P tb rec ops.toList (infosOf ops.toList ops.toList) l t st k=some os)
  {B:Base} {ρ:Env} {K:Act→World→Prop} (hK:ContRes B ρ K (fun t st=>k ⟨.normal,t,st⟩) os) :
  ∀ x∈l,∀ (ρ':Env) (listed:Array Bool) (a:Act) (w:World),ρ.Ext ρ'→RepW B ρ' x.st w→TmRep ρ' x.tmps a→MaskOk ops.size x.listed listed→wpAny P .any ops (onlyN K) x.left listed a w:=by
 unfold stepLayer at h
 split at h
 ·rename_i next os1 hn
  obtain ⟨_,hnodes⟩:=stepNodes_ok (P:=P) ht hs _ _ _ _ hn
  have hos1:∀ y∈os1,y∈os:=by
   split at h
   ·simp only [Option.some.injEq] at h; subst h; exact fun y hy=>hy
   ·split at h
    ·simp only [Option.some.injEq] at h; subst h; exact fun y hy=>List.mem_append.2 (.inl hy)
    ·cases h
  have hnext:∀ x∈next,∀ (ρ':Env) (listed:Array Bool) (a:Act) (w:World),ρ.Ext ρ'→RepW B ρ' x.st w→TmRep ρ' x.tmps a→MaskOk ops.size x.listed listed→wpAny P .any ops (onlyN K) x.left listed a w:=by
   split at h
   ·intro x hx; cases hx
   ·split at h
    ·rename_i more hm
     simp only [Option.some.injEq] at h
     intro x hx ρ' listed a w h1 h2 h3 h4
     exact hrec.layer ops hs _ _ _ _ _ hm B ρ K (hK.sub (fun y hy=>by rw [← h]; exact List.mem_append.2 (.inr hy))) x hx ρ' listed a w h1 h2 h3 h4.1 h4.2
    ·cases h
  intro x hx ρ' listed a w h1 h2 h3 h4
  rcases hnodes x hx with ⟨hr,os',hk,hsub⟩ | ⟨hr,m,hm,hall⟩
  ·have hready:Region.ready .any ops listed=[]:=by
    cases hrd:Region.ready .any ops listed with
    | nil=>rfl
    | cons j js =>
     obtain ⟨o,_,ho⟩:=readyFrom_ok h4 ops.toList 0 (fun j=>by simp) j (Nat.zero_le _) (by rw [hrd]; simp)
     rw [hr] at ho; cases ho
   have hq:onlyN K .normal a w:=hK x.tmps x.st ρ' a w os' hk (fun y hy=>hos1 y (hsub y hy)) h1 h2 h3
   cases x.left with
   | zero=>exact ⟨hready,hq⟩
   | succ q=>exact ⟨fun _=>hq,fun i hi=>by rw [hready] at hi; cases hi⟩
  ·rw [hm]
   refine ⟨fun h0=>?_,fun i hi=>?_⟩
   ·exfalso
    cases hrd:readyFrom x.listed ops.toList (infosOf ops.toList ops.toList) 0 with
    | nil=>exact hr hrd
    | cons q qs =>
     obtain ⟨i,o,inf⟩:=q
     have:=readyFrom_conv h4 ops.toList 0 (fun j=>by simp) i o inf (by rw [hrd]; simp)
     rw [h0] at this; cases this
   ·obtain ⟨o,ho,hmem⟩:=readyFrom_ok h4 ops.toList 0 (fun j=>by simp) i (Nat.zero_le _) hi
    obtain ⟨os',hst,hres⟩:=hall i o _ hmem
    have hlt:i < ops.size:=(Array.getElem?_eq_some_iff.1 ho).1
    have:=stepOper_ok (P:=P) ht hng hrec hst h2 h3 (K:=fun a' w'=>wpAny P .any ops (onlyN K) m (listed.setIfInBounds i true) a' w') (by
     intro t' st' ρ2 a2 w2 os2 e1 e2 e3 e4 e5
     simp only [collect,Option.some.injEq] at e1
     obtain ⟨y,hy,f1,f2⟩:=hres ⟨.normal,t',st'⟩ (e2 _ (by rw [← e1]; simp))
     refine f2 K ρ2 a2 _ w2 e5 (h4.set hlt) ?_
     intro a3 lst3 g1 g2
     exact hnext y hy ρ2 lst3 a3 w2 (h1.trans e3) (by rw [f1]; exact e4) g1 g2) (onlyN K)
    unfold wpOp
    simp only [ho]
    split
    ·rename_i hw; rw [if_pos hw] at this; exact .inl this
    ·rename_i hw; rw [if_neg hw] at this; exact this
 ·cases h
theorem wpAny_mono' {ops:Array Oper} {K K':Act→World→Prop} (hk:∀ a w,K a w→K' a w):∀ {fuel:Nat} {lst:Array Bool} {a:Act} {w:World},wpAny P .any ops (onlyN K) fuel lst a w→wpAny P .any ops (onlyN K') fuel lst a w:=by
 intro h
 exact wpAny_monoQ h
where
 wpAny_monoQ {fuel:Nat} {lst:Array Bool} {a:Act} {w:World} (h:wpAny P .any ops (onlyN K) fuel lst a w):wpAny P .any ops (onlyN K') fuel lst a w:=by
  induction fuel generalizing lst a w with
  | zero=>exact ⟨h.1,hk _ _ h.2⟩
  | succ fuel ih =>
   refine ⟨fun hr=>hk _ _ (h.1 hr),fun i hi=>?_⟩
   have h2:=h.2 i hi
   unfold wpOp at h2 ⊢
   split
   ·rename_i hn; rw [hn] at h2; exact ih h2
   ·rename_i o ho
    rw [ho] at h2
    simp only at h2
    split
    ·rename_i hw
     rw [if_pos hw] at h2
     rcases h2 with h2 | h2
     ·left
      unfold Oper.wp at *
      generalize (execOp a.eval o).run P w=r at *
      cases r with
      | ok n w' =>
       cases n <;> simp only [Oper.upon] at h2 ⊢
       case value u=>exact ih h2
       case skip=>exact ih h2
       case defer d=>exact ih h2
       case enter f args =>
        refine h2.mono ?_
        intro e w'' he
        cases e with
        | returned u=>exact ih he
        | panicked c=>exact he
        | outgrown=>exact he
       case row rw' args =>
        refine Rows.mono h2 ?_
        intro u w'' he
        exact ih he
      | halt x w'=>cases x <;> simp only [Oper.upon] at h2 ⊢ <;> exact h2
     ·obtain ⟨_,_,_,h'⟩:=h2
      exact h'.elim
    ·rename_i hw
     rw [if_neg hw] at h2
     exact ih h2
theorem runOuts_ok {B:Base} {ρ:Env} {Q:Exit→Act→World→Prop} {k:Out→Res} {os:List Out} (hK:CodeRes B ρ Q k os):∀ (l:List (Tm × St)) (os':List Out),runOuts k l=some os'→(∀ y∈os',y∈os) →
  ∀ x∈l,∀ (ρ2:Env) (a:Act) (w:World),ρ.Ext ρ2→RepW B ρ2 x.2 w→TmRep ρ2 x.1 a→Q .normal a w
 | [],os',h,hs,x,hx=>by cases hx
 | y::ys,os',h,hs,x,hx=>by
  intro ρ2 a w he hr hT
  simp only [runOuts] at h
  obtain ⟨l1,l2,h1,h2,h3,h4⟩:=join_some h
  cases hx with
  | head=>exact hK _ _ _ _ _ h1 (fun z hz=>hs z (h3 z hz)) he hr hT
  | tail _ hm=>exact runOuts_ok hK ys l2 h2 (fun z hz=>hs z (h4 z hz)) x hm ρ2 a w he hr hT
include ht hnat hng in
theorem stepDraw_ok (hmix:P.follows .mixedOrders=true) {n:Nat} {rec:Runner} (hrec:RunOk P tb n rec) {ops:Array Oper} {t:Tm} {st:St} {k:Out→Res} {os:List Out}
  (h:stepDraw P tb rec ops.toList ops.size t st k=some os)
  {B:Base} {ρ:Env} {a:Act} {w:World} {Q:Exit→Act→World→Prop} (hr:RepW B ρ st w) (hT:TmRep ρ t a) (hK:CodeRes B ρ Q k os) (id:Nat):(Code.region id ops true).wp P Q a w:=by
 unfold stepDraw at h
 split at h
 ·rename_i hs
  have hlayer:rec (.layer ops.toList (infosOf ops.toList ops.toList) (toNodes P tb ops.toList (infosOf ops.toList ops.toList) 0 ops.size [⟨.normal,t,st⟩] [])) t st k=some os →
    (Code.region id ops true).wp P Q a w:=by
   intro hl
   have hq:(Code.region id ops true).wp P (onlyN (fun a w=>Q .normal a w)) a w:=by
    refine wp_region_any hmix ?_
    obtain ⟨_,h2⟩:=toNodes_ok (P:=P) ht hs 0 ops.size [⟨.normal,t,st⟩] []
    obtain ⟨x,hx,e1,e2⟩:=h2 ⟨.normal,t,st⟩ (by simp)
    refine e2 (fun a w=>Q .normal a w) ρ a (Array.replicate ops.size false) _ hT ⟨by simp,fun j=>?_⟩ ?_
    ·simp [Array.getD_eq_getD_getElem?,Array.getElem?_replicate]
     split <;> simp
    ·intro a' lst' g1 g2
     refine hrec.layer ops hs _ _ _ _ _ hl B ρ (fun a w=>Q .normal a w) ?_ x hx ρ lst' a' _ (Env.Ext.refl ρ) (by rw [e1]; exact hr.drew) g1 g2.1 g2.2
     exact fun t st ρ' a' w' os' h1 h2 h3 h4 h5=>hK _ _ _ _ _ h1 h2 h3 h4 h5
   refine Go.wp_mono hq (fun e a w he=>?_)
   cases e <;> first | exact he | exact he.elim
  split at h
  ·rename_i hlex
   split at h
   ·-- one order
    rename_i outs ho
    have hraw:rawOuts outs=[]:=rfl
    rw [hraw] at h
    simp only at h
    have hfull:=canonGo_ok (P:=P) ht hng (noSel_arr hs) hlex (closFrom_good _ _ [] (fun k=>by simp) (fun i c h=>by simp at h)) hrec (K:=fun a w=>∃ o∈outs,∃ ρ',ρ.Ext ρ'∧RepW B ρ' o.st w∧TmRep ρ' o.tmps a) (B:=B) (ρ0:=ρ) (k:=collect) (os0:=outs)
     (fun t st ρ' a' w' os' h1 h2 h3 h4 h5=>by
      simp only [collect,Option.some.injEq] at h1
      exact ⟨⟨.normal,t,st⟩,h2 _ (by rw [← h1]; simp),ρ',h3,h4,h5⟩) _ 0 0 0 t st outs ho (fun x hx=>hx) ρ a _ (Env.Ext.refl ρ) hr.drew hT
     ⟨fun i m _ hi=>by simp at hi,fun i hi=>by simp at hi,fun i m _ hi=>by simp at hi⟩
    have hq:(Code.region id ops true).wp P (onlyN (fun a w=>Q .normal a w)) a w:=by
     refine wp_region_any hmix (wpAny_mono' ?_ (hfull ops.size 0 (Array.replicate ops.size false) a ⟨by simp,fun j=>?_⟩ ?_ ?_))
     ·rintro a' w' ⟨o,hom,ρ',k1,k2,k3⟩
      obtain ⟨x,hx,ρ2,g1,g2,g3⟩:=(mergeOuts_ok ht.facts hr.nv hr.nb outs []).2 o hom ρ' a' w' k1 k2 k3
      exact runOuts_ok hK _ os h (fun y hy=>hy) x hx ρ2 a' w' g1 g2 g3
     ·simp [Array.getD_eq_getD_getElem?,Array.getElem?_replicate]
      split <;> simp
     ·exact ⟨fun i hi=>hi,fun i m _ hi=>by simp at hi,fun i hi=>by simp at hi,fun i o _ hi=>by simp at hi,fun i j oi oj _ _ hi=>by simp at hi,rfl,fun s _=>rfl,rfl⟩
     ·unfold unl
      exact Nat.le_trans List.countP_le_length (by simp)
    refine Go.wp_mono hq (fun e a w he=>?_)
    cases e <;> first | exact he | exact he.elim
   ·split at h
    ·rename_i t' hq
     refine wp_region_any hmix (wpAny_of_quiet (C:=fun w'=>RepW B ρ st w') (Q:=fun a'=>TmRep ρ t' a') ?_ _ _ _ _ hr.drew ?_)
     ·intro a' w' hw' ha'
      exact hK _ _ _ _ _ h (fun x hx=>hx) (Env.Ext.refl ρ) hw' ha'
     ·have:=quiet_lex (P:=P) (C:=fun w'=>RepW B ρ st w') (Q:=fun a'=>TmRep ρ t' a') hs ops.toList 0 (Array.replicate ops.size false) a (fun j=>by simp) ⟨by simp,fun j=>by
       simp [Array.getD_eq_getD_getElem?,Array.getElem?_replicate]
       split <;> simp⟩ hlex (quietOps_ok ht hnat hng hrec hr ops.toList hq hT)
      simpa using this
    ·rename_i e hq
     obtain ⟨l,m,h1,h2,h3,h4⟩:=join_some h
     by_cases hb:e.B ρ=true
     ·exact hrec.draw ops id _ _ _ _ h1 B ρ a w Q (hr.assume hb) hT (hK.sub h3)
     ·exact hrec.draw ops id _ _ _ _ h2 B ρ a w Q (hr.assume (by rw [mkNot_B]; simpa using hb)) hT (hK.sub h4)
    ·exact hlayer h
  ·exact hlayer h
 ·cases h
include ht hnat hng in
theorem run_ok (hmix:P.follows .mixedOrders=true) (hloop:∀ x∈tb.anns,LoopOk P x):∀ n,RunOk P tb n (run P tb n)
 | 0=>by
  constructor <;> (intros; rename_i h _ ; first | (exact absurd ‹run P tb 0 _ _ _ _=some _› (by intro h; cases h)))
 | n + 1=>by
  have ih:=run_ok hmix hloop n
  constructor
  ·intro g c t st k os hof h B ρ a w Q hr hT hK
   exact stepCode_ok ht hnat hng hloop ih hof h hr hT hK
  ·intro g c t st k os hof h B ρ a w Q hr hT hK
   exact stepRounds_ok ih hof h hr hT hK
  ·intro g args t st k os h B ρ w R hr hao hK
   exact stepCall_ok ht hnat ih h hr hao hK
  ·intro ops id t st k os h B ρ a w Q hr hT hK
   exact stepDraw_ok ht hnat hng hmix ih h hr hT hK id
  ·intro ops hs l t st k os h B ρ K hK x hx ρ' listed a w h1 h2 h3 h4 h5
   exact stepLayer_ok ht hng ih hs h hK x hx ρ' listed a w h1 h2 h3 ⟨h4,h5⟩
end
end Go.SX

namespace Go.SX
noncomputable section
theorem addsT_ok {α:Type} (l:List α) (i:Nat) (x:α) (h:(T.adds (T.nil:T α) 0 l).get i=some x):l[i]?=some x:=by
 rcases T.get_adds l 0 T.nil i x h with ⟨_,h1⟩ | ⟨h1,_⟩ | ⟨h1,_⟩
 ·simpa using h1
 ·cases h1
 ·cases h1
def theTab (P:Program):Tab:=⟨T.adds T.nil 0 P.types.toList,T.adds T.nil 0 P.funcs.toList,[],[],[]⟩
def Tab.plus (tb:Tab) (facts:List E) (anns:List Ann) (nats:List Nat1):Tab:=⟨tb.ty,tb.fn,facts,anns,nats⟩
theorem withTab_eq {β:Type} (P:Program) (k:Tab→β):withTab P k=k (theTab P):=by
 unfold withTab
 rw [T.addsK_eq,T.addsK_eq]; rfl
theorem theTab_ok (P:Program):TabOk P (theTab P) :=
 ⟨fun t i h=>by have:=addsT_ok _ _ _ h; simpa using this,fun f fn h=>by have:=addsT_ok _ _ _ h; simpa using this,fun e he=>by cases he⟩
theorem TabOk.plus {P:Program} {tb:Tab} (h:TabOk P tb) {facts:List E} (hf:∀ e∈facts,∀ ρ,e.B ρ=true) (anns:List Ann) (nats:List Nat1):TabOk P (tb.plus facts anns nats) :=
 ⟨h.ty,h.fn,hf⟩
def progOk (P:Program):Bool:=P.funcs.toList.all (fun fn=>!(fn.name == "runtime.NumGoroutine")) && P.follows .mixedOrders
theorem progOk_ng {P:Program} (h:progOk P=true):∀ (f:Nat) (fn:Func),P.funcs[f]?=some fn→(fn.name == "runtime.NumGoroutine")=false:=by
 intro f fn hf
 unfold progOk at h
 rw [Bool.and_eq_true,List.all_eq_true] at h
 have:=h.1 fn (List.mem_of_getElem? (by simpa using hf))
 simpa using this
theorem progOk_mix {P:Program} (h:progOk P=true):P.follows .mixedOrders=true:=by
 unfold progOk at h
 rw [Bool.and_eq_true] at h
 exact h.2
theorem run_plus {P:Program} (h:progOk P=true) {facts:List E} (hf:∀ e∈facts,∀ ρ,e.B ρ=true) {anns:List Ann} (ha:∀ x∈anns,LoopOk P x) {nats:List Nat1} (hn:∀ x∈nats,NatOk P x) (n:Nat):RunOk P ((theTab P).plus facts anns nats) n (run P ((theTab P).plus facts anns nats) n) :=
 run_ok ((theTab_ok P).plus hf anns nats) hn (progOk_ng h) (progOk_mix h) ha n
def one (o:Out):Res:=some [o]
def checkAll (p:Out→Bool) (r:Res):Bool :=
 match r with
 | some l=>l.all p
 | none=>false
theorem checkAll_mem {p:Out→Bool} {r:Res} (h:checkAll p r=true):∃ os,r=some os∧∀ o∈os,p o=true:=by
 unfold checkAll at h
 split at h
 ·exact ⟨_,rfl,List.all_eq_true.1 h⟩
 ·cases h
theorem calls_of_check2 {P:Program} (hP:progOk P=true) {facts:List E} (hf:∀ e∈facts,∀ ρ,e.B ρ=true) {anns:List Ann} (ha:∀ x∈anns,LoopOk P x) {nats:List Nat1} (hn:∀ x∈nats,NatOk P x) {n:Nat} {g:FuncId} {args:List SV} {st:St} {p:Out→Bool}
  (h:withTab P (fun tb=>checkAll p (run P (tb.plus facts anns nats) n (.call g args) .nil st one))=true)
  {B:Base} {ρ:Env} {w:World} (hr:RepW B ρ st w) (hao:SV.oks ρ args):Calls P g (SV.dens ρ args).toArray w fun e w'=>∃ (o:Out) (ρ':Env) (v:SV) (l r:T SV),p o=true∧o.tmps=.node v l r∧e=.returned (v.den ρ')∧ρ.Ext ρ'∧RepW B ρ' o.st w'∧v.ok ρ':=by
 rw [withTab_eq] at h
 obtain ⟨os,h1,h2⟩:=checkAll_mem h
 refine (run_plus hP hf ha hn n).call _ _ _ _ _ _ h1 B ρ w _ hr hao ?_
 intro o ρ' w' os' v l r e1 e2 e3 e4 e5 e6
 simp only [one,Option.some.injEq] at e1
 exact ⟨o,ρ',v,l,r,h2 o (e2 o (by rw [← e1]; simp)),e5,rfl,e3,e4,e6⟩
def fresh (w:World):Base:=⟨w,fun _=>none⟩
def Env.at (w:World) (vs:List U):Env:=⟨vs,[],fun r=>w.heap[r]?⟩
theorem E.at_den (w:World) (vs:List U) (e:E):e.den (Env.at w vs)=e.den (Env.of vs):=by
 induction e <;> simp_all only [E.den,E.I,E.B,E.S,E.L,Env.at,Env.of]
def varSt (n:Nat) (pc:List E):St:=⟨n,0,.nil,pc⟩
theorem RepW.vars (w:World) (vs:List U) (pc:List E) (hpc:∀ e∈pc,e.B (Env.of vs)=true):RepW (fresh w) (Env.at w vs) (varSt vs.length pc) w:=by
 refine ⟨rfl,rfl,fun e he=>?_,fun i b hb=>?_,fun i j a b ha=>?_,(fun i b hb=>by simp [varSt,T.get_nil] at hb),fun r o hro=>hro,(fun r o hro=>by cases hro),(fun r o hro=>by cases hro),rfl,rfl,rfl⟩
 ·have:=hpc e he
  unfold E.B at this ⊢
  rw [E.at_den]; exact this
 ·simp [varSt,T.get_nil] at hb
 ·simp [varSt,T.get_nil] at ha
theorem RepW.below {w w':World} {vs:List U} {ρ:Env} {st:St} (h:RepW (fresh w) ρ st w') (he:(Env.at w vs).Ext ρ):RowKit.Below w.heap.size w w':=by
 have key:∀ k,k < w.heap.size→w'.heap[k]?=w.heap[k]?:=fun k hk=>by
  have h1:w.heap[k]?=some w.heap[k]:=Array.getElem?_eq_getElem hk
  rw [h1]
  exact h.fz k _ (he.fz k _ h1)
 refine ⟨h.os,h.tape,h.output,?_,key⟩
 cases hn:w.heap.size with
 | zero=>exact Nat.zero_le _
 | succ n =>
  have h1:=key n (by omega)
  have h2:w.heap[n]?=some w.heap[n]:=Array.getElem?_eq_getElem (by omega)
  rw [h2] at h1
  exact (Array.getElem?_eq_some_iff.1 h1).1
def outTrue (o:Out):Bool :=
 match o.tmps with
 | .node v _ _=>match v with
  | .bool e=>match e with
   | .bool b=>b
   | _=>false
  | _=>false
 | .nil=>false
theorem outTrue_den {o:Out} {v:SV} {l r:T SV} (h:outTrue o=true) (ho:o.tmps=.node v l r) (ρ:Env):v.den ρ=.bool true:=by
 unfold outTrue at h
 rw [ho] at h
 simp only at h
 split at h
 ·split at h
  ·subst h; rfl
  ·cases h
 ·cases h
theorem true_of_check2 {P:Program} (hP:progOk P=true) {facts:List E} (hf:∀ e∈facts,∀ ρ,e.B ρ=true) {anns:List Ann} (ha:∀ x∈anns,LoopOk P x) {nats:List Nat1} (hn:∀ x∈nats,NatOk P x) {n:Nat} {g:FuncId} {args:List SV} {vs:List U} {pc:List E}
  (h:withTab P (fun tb=>checkAll outTrue (run P (tb.plus facts anns nats) n (.call g args) .nil (varSt vs.length pc) one))=true) (hpc:∀ e∈pc,e.B (Env.of vs)=true) (w:World) (hao:SV.oks (Env.at w vs) args) :
  Calls P g (SV.dens (Env.at w vs) args).toArray w fun e w'=>e=.returned (.bool true)∧RowKit.Below w.heap.size w w':=by
 refine (calls_of_check2 hP hf ha hn h (RepW.vars w vs pc hpc) hao).mono ?_
 rintro e w' ⟨o,ρ',v,l,r,h1,h2,h3,h4,h5,_⟩
 exact ⟨by rw [h3,outTrue_den h1 h2],h5.below h4⟩
end
end Go.SX

namespace Go.SX
noncomputable section
variable (ρ : Env)
theorem sm_I_int (n:Int):(E.int n).I ρ=n:=rfl
theorem sm_I_var (i:Nat):(E.var i).I ρ=(ρ.vs.getD i (.int 0)).toI:=rfl
theorem sm_I_mn (a b:E):(E.mn a b).I ρ=min (a.I ρ) (b.I ρ):=by
 show minI (a.I ρ) (b.I ρ)=_
 unfold minI; split <;> omega
theorem sm_I_mx (a b:E):(E.mx a b).I ρ=max (a.I ρ) (b.I ρ):=by
 show maxI (a.I ρ) (b.I ρ)=_
 unfold maxI; split <;> omega
theorem sm_B_eql (a b:E):((E.cmp .eql a b).B ρ=true)=(a.I ρ=b.I ρ):=by
 show ((a.I ρ == b.I ρ)=true)=_
 simp
theorem sm_B_lss (a b:E):((E.cmp .lss a b).B ρ=true)=(a.I ρ < b.I ρ):=by
 show ((decide (a.I ρ < b.I ρ))=true)=_
 simp
theorem sm_B_not (a:E):((E.not a).B ρ=true)=¬ (a.B ρ=true):=by
 show ((!(a.B ρ))=true)=_
 simp
theorem sm_B_and (a b:E):((E.and a b).B ρ=true)=(a.B ρ=true∧b.B ρ=true):=by
 show ((a.B ρ && b.B ρ)=true)=_
 simp
theorem sm_B_imp (a b:E):((E.imp a b).B ρ=true)=(a.B ρ=true→b.B ρ=true):=by
 show ((!(a.B ρ) || b.B ρ)=true)=_
 cases a.B ρ <;> simp
theorem sm_B_iff (a b:E):((E.iff a b).B ρ=true)=(a.B ρ=true↔b.B ρ=true):=by
 show ((a.B ρ == b.B ρ)=true)=_
 cases a.B ρ <;> cases b.B ρ <;> simp
theorem getD_cons_zero (x:U) (l:List U) (d:U):(x::l).getD 0 d=x:=rfl
theorem getD_cons_succ (x:U) (l:List U) (n:Nat) (d:U):(x::l).getD (n + 1) d=l.getD n d:=rfl
theorem toI_int (n:Int):(U.int n).toI=n:=rfl
theorem wf_i64 {n:Int} (h:(Lit.int .i64 n).wf=true):-9223372036854775808≤n∧n < 9223372036854775808:=by
 simp only [Lit.wf,Bool.and_eq_true,decide_eq_true_eq] at h
 have h1:(-9223372036854775808:Int)≤n:=h.1
 have h2:n≤(9223372036854775807:Int):=h.2
 omega
theorem pc_nil {ρ:Env}:∀ e∈([]:List E),e.B ρ=true:=fun e he=>by cases he
theorem pc_cons {ρ:Env} {e:E} {l:List E} (h:e.B ρ=true) (hl:∀ e∈l,e.B ρ=true):∀ x∈e::l,x.B ρ=true:=fun x hx=>by
 cases hx with
 | head=>exact h
 | tail _ hx=>exact hl x hx
end
end Go.SX

namespace Go.SX
theorem cs_i64 (x:Int):∃ s,IntKind.i64.wrap x=s∧(-9223372036854775808≤s∧s < 9223372036854775808)∧(-9223372036854775808≤x→x < 9223372036854775808→s=x):=by
 refine ⟨_,rfl,?_,?_⟩ <;> simp only [IntKind.wrap,IntKind.bits,IntKind.signed,Bool.true_and] <;> split <;> simp_all <;> omega
theorem fn0_nn {ρ:Env} (l:E):0≤E.I ρ (.fn 0 l):=by
 show (0:Int)≤((E.L ρ l).length:Int)
 omega
theorem typ_slc {u:U} {ks:List U} (h:U.typ u (.lst ks)=true):U.typs u.toL ks []=true:=by
 cases u <;> simp [U.typ] at h
 exact h
theorem all_nil:∀ e∈([]:List E),∀ ρ:Env,e.B ρ=true:=fun e he=>by cases he
theorem all_cons {e:E} {l:List E} (h:∀ ρ:Env,e.B ρ=true) (hl:∀ x∈l,∀ ρ:Env,x.B ρ=true):∀ x∈e::l,∀ ρ:Env,x.B ρ=true:=fun x hx=>by
 cases hx with
 | head=>exact h
 | tail _ hx=>exact hl x hx
theorem smA:(∀ (ρ:Env) (n:Int),(E.int n).I ρ=n)∧(∀ (ρ:Env) (a b:E),(E.fn 6 (.pr a b)).I ρ=a.I ρ + b.I ρ)∧(∀ (ρ:Env) (a b:E),(E.fn 7 (.pr a b)).I ρ=a.I ρ - b.I ρ)∧(∀ (ρ:Env) (a b:E),(E.fn 8 (.pr a b)).I ρ=a.I ρ * b.I ρ) ∧
  (∀ (ρ:Env) (b:Bool),(E.bool b).B ρ=b)∧(∀ (ρ:Env) (a b:E),((E.cmp .eql a b).B ρ=true)=(a.I ρ=b.I ρ))∧(∀ (ρ:Env) (a b:E),((E.cmp .lss a b).B ρ=true)=(a.I ρ < b.I ρ))∧(∀ (ρ:Env) (a:E),((E.not a).B ρ=true)=¬ (a.B ρ=true)) ∧
  (∀ (ρ:Env) (a b:E),((E.and a b).B ρ=true)=(a.B ρ=true∧b.B ρ=true))∧(∀ (ρ:Env) (a b:E),((E.imp a b).B ρ=true)=(a.B ρ=true→b.B ρ=true))∧(∀ (ρ:Env) (a b:E),((E.iff a b).B ρ=true)=(a.B ρ=true↔b.B ρ=true)) ∧
  (∀ (ρ:Env) (a b:E),(E.mn a b).I ρ=min (a.I ρ) (b.I ρ))∧(∀ (ρ:Env) (a b:E),(E.mx a b).I ρ=max (a.I ρ) (b.I ρ))∧(∀ (ρ:Env) (k:IntKind) (a b:E),(E.ar .rem k a b).I ρ=(a.I ρ).tmod (b.I ρ))∧(∀ (ρ:Env) (k:IntKind) (a:E),(E.wr k a).I ρ=k.wrap (a.I ρ))∧(∀ p:Prop,(True→p)=p) :=
 by refine ⟨?_,?_,?_,?_,?_,?_,?_,?_,?_,?_,?_,?_,?_,?_,?_,?_⟩ <;> intros <;> first | rfl | simp only [sm_B_eql,sm_B_lss,sm_B_not,sm_B_and,sm_B_imp,sm_B_iff,sm_I_mn,sm_I_mx,true_implies]
theorem smW:(∀ (ρ:Env) (a b:E),(E.ar .add .i64 a b).I ρ=IntKind.i64.wrap (a.I ρ + b.I ρ))∧(∀ (ρ:Env) (a b:E),(E.ar .sub .i64 a b).I ρ=IntKind.i64.wrap (a.I ρ - b.I ρ))∧(∀ (ρ:Env) (a b:E),(E.ar .mul .i64 a b).I ρ=IntKind.i64.wrap (a.I ρ * b.I ρ)) :=
 ⟨fun _ _ _=>rfl,fun _ _ _=>rfl,fun _ _ _=>rfl⟩
end Go.SX

namespace Go.SX
open Go.RowKit
theorem RepW.kept {B:Base} {ρ:Env} {st:St} {w w':World} (h:RepW B ρ st w) (hb:Below w.heap.size w w'):RepW B ρ st w':=by
 refine ⟨h.nv,h.nb,h.pc,fun i b hi=>?_,h.inj,h.inn,fun r o ho=>?_,fun r o ho=>?_,h.dj,by rw [hb.os,h.os],by rw [hb.tape,h.tape],by rw [hb.output,h.output]⟩
 ·obtain ⟨h1,h2,h3⟩:=h.blk i b hi
  exact ⟨h1,h2.world (fun hl=>hb.block _ (h2.lt hl)) (fun x hx=>hb.block _ (h2.inner_lt hx)),h3⟩
 ·have h1:=h.fz r o ho
  rw [hb.block r (Array.getElem?_eq_some_iff.1 h1).1]; exact h1
 ·have h1:=h.fr r o ho
  rw [hb.block r (Array.getElem?_eq_some_iff.1 h1).1]; exact h1
theorem closedNat_ok {P:Program} {g:FuncId} (h:∀ w:World,Calls P g #[] w fun e w'=>e=.returned (.bool true)∧Below w.heap.size w w'):NatOk P (closedNat g):=by
 intro fs hfs args st l hl B ρ w R hr hao hK
 unfold closedNat at hl
 simp only at hl
 cases args with
 | cons _ _=>simp [closedEff,natR] at hl
 | nil =>
  simp only [closedEff,natR,NatR.outs.injEq] at hl
  subst hl
  refine (h w).mono ?_
  rintro e w' ⟨rfl,hb⟩
  exact hK (.bool (.bool true),st) (by simp) ρ w' (Env.Ext.refl ρ) (hr.kept hb) (by simp [SV.ok])
theorem closed_of_check {P:Program} (hP:progOk P=true) {facts:List E} (hf:∀ e∈facts,∀ ρ,e.B ρ=true) {anns:List Ann} (ha:∀ x∈anns,LoopOk P x) {nats:List Nat1} (hn:∀ x∈nats,NatOk P x) {n:Nat} {g:FuncId}
  (h:withTab P (fun tb=>checkAll outTrue (run P (tb.plus facts anns nats) n (.call g []) .nil (varSt 0 []) one))=true):NatOk P (closedNat g) :=
 closedNat_ok fun w=>true_of_check2 hP hf ha hn (vs:=[]) (pc:=[]) h (fun e he=>by cases he) w (by simp [SV.oks])
end Go.SX

namespace Go.SX
def ikU:IntKind→Nat
 | .i8=>0 | .i16=>1 | .i32=>2 | .i64=>3 | .u8=>4 | .u16=>5 | .u32=>6 | .u64=>7
mutual
def CK.typ:CK→U
 | .int k=>.int (ikU k)
 | .bool=>.int 8
 | .str=>.int 9
 | .slc ks=>.lst (ksTyp ks)
def ksTyp:List CK→List U
 | []=>[]
 | c::cs=>c.typ::ksTyp cs
end
def ksRep (ks:List CK):Nat→List CK
 | 0=>[]
 | n + 1=>ks++ksRep ks n
def ksFields (f:TypeId→Option (List CK)) (P:Program):List Field→Nat→Option (List CK)
 | [],_=>some []
 | x::xs,off=>match f x.type,ksFields f P xs (off + P.cellsOf x.type) with
  | some ks,some r=>match Nat.beq x.offset off && Nat.beq ks.length (P.cellsOf x.type) with
   | true=>some (ks++r)
   | false=>none
  | _,_=>none
def ksOf (P:Program):Nat→TypeId→Option (List CK)
 | 0,_=>none
 | n + 1,t=>match P.underlying t with
  | some .bool=>some [.bool]
  | some (.int k)=>some [.int k]
  | some .string=>some [.str]
  | some (.slice e)=>match ksOf P n e with
   | some ks=>match Nat.beq ks.length (P.cellsOf e) && Nat.blt 0 ks.length with
    | true=>some [.slc ks]
    | false=>none
   | none=>none
  | some (.struct fs)=>match ksFields (ksOf P n) P fs.toList 0 with
   | some ks=>match Nat.beq ks.length (P.cellsOf t) with
    | true=>some ks
    | false=>none
   | none=>none
  | some (.array m e)=>match ksOf P n e with
   | some ks=>match Nat.beq ks.length (P.cellsOf e) && Nat.beq (m * ks.length) (P.cellsOf t) with
    | true=>some (ksRep ks m)
    | false=>none
   | none=>none
  | _=>none
def RowOk (fz:Nat→Option Obj) (ks:List CK) (us:List U) (cs:List Value):Prop :=
 us.length=ks.length∧cs.length=ks.length∧∀ (i:Nat) (c:CK),ks[i]?=some c→∃ u,us[i]?=some u∧cs[i]?=some (c.val u)∧c.ok fz u∧U.typ u c.typ=true
theorem RowOk.nil (fz:Nat→Option Obj):RowOk fz [] [] []:=⟨rfl,rfl,fun i c h=>by simp at h⟩
theorem RowOk.append {fz:Nat→Option Obj} {ks ks':List CK} {us us':List U} {cs cs':List Value} (h:RowOk fz ks us cs) (h':RowOk fz ks' us' cs'):RowOk fz (ks++ks') (us++us') (cs++cs'):=by
 refine ⟨by simp [h.1,h'.1],by simp [h.2.1,h'.2.1],fun i c hi=>?_⟩
 by_cases hlt:i < ks.length
 ·rw [List.getElem?_append_left hlt] at hi
  obtain ⟨u,h1,h2,h3⟩:=h.2.2 i c hi
  exact ⟨u,by rw [List.getElem?_append_left (by rw [h.1]; exact hlt)]; exact h1,by rw [List.getElem?_append_left (by rw [h.2.1]; exact hlt)]; exact h2,h3⟩
 ·rw [List.getElem?_append_right (by omega)] at hi
  obtain ⟨u,h1,h2,h3⟩:=h'.2.2 _ c hi
  exact ⟨u,by rw [List.getElem?_append_right (by rw [h.1]; omega),h.1]; exact h1,by rw [List.getElem?_append_right (by rw [h.2.1]; omega),h.2.1]; exact h2,h3⟩
theorem RowOk.one {fz:Nat→Option Obj} {c:CK} {u:U} (h:c.ok fz u) (ht:U.typ u c.typ=true):RowOk fz [c] [u] [c.val u]:=by
 refine ⟨rfl,rfl,fun i c' hi=>?_⟩
 cases i with
 | zero=>simp at hi; subst hi; exact ⟨u,rfl,rfl,h,ht⟩
 | succ i=>simp at hi
theorem ksTyp_get:∀ (ks:List CK) (i:Nat),(ksTyp ks)[i]?=ks[i]?.map CK.typ
 | [],i=>by simp [ksTyp]
 | c::cs,0=>by simp [ksTyp]
 | c::cs,i + 1=>by simp [ksTyp,ksTyp_get cs i]
theorem typs_of {ks:List U}:∀ (l:List U) (p:Nat),p≤ks.length→(∀ (j:Nat) (u:U),l[j]?=some u→∃ k,ks[(p + j) % ks.length]?=some k∧U.typ u k=true)→U.typs l ks (ks.drop p)=true
 | [],p,_,_=>by simp [U.typs]
 | u::l,p,hp,h=>by
  obtain ⟨k,h1,h2⟩:=h 0 u rfl
  have hpos:0 < ks.length:=by
   cases ks with
   | nil=>simp at h1
   | cons=>simp
  rcases Nat.lt_or_ge p ks.length with hlt | hge
  ·rw [Nat.add_zero,Nat.mod_eq_of_lt hlt] at h1
   have hd:ks.drop p=k::ks.drop (p + 1):=by
    rw [List.drop_eq_getElem_cons hlt]
    congr 1
    rw [List.getElem?_eq_getElem hlt] at h1
    exact Option.some.inj h1
   rw [hd]
   simp only [U.typs,h2,Bool.true_and]
   exact typs_of l (p + 1) hlt (fun j u hj=>by
    have:=h (j + 1) u (by simpa using hj)
    rwa [show p + (j + 1)=p + 1 + j by omega] at this)
  ·have hpe:p=ks.length:=by omega
   subst hpe
   rw [Nat.add_zero,Nat.mod_self] at h1
   have ih:=typs_of (ks:=ks) l 1 hpos (fun j u hj=>by
    have:=h (j + 1) u (by simpa using hj)
    rwa [show ks.length + (j + 1)=(1 + j) + ks.length by omega,Nat.add_mod_right] at this)
   cases ks with
   | nil=>simp at hpos
   | cons a b =>
    simp only [List.getElem?_cons_zero,Option.some.injEq] at h1
    subst h1
    rw [List.drop_length]
    simp only [U.typs,h2,Bool.true_and]
    simpa using ih
theorem flat_get {α:Type} {c:Nat} {f:Nat→List α}:∀ (n:Nat),(∀ i,i < n→(f i).length=c)→((List.range n).flatMap f).length=n * c∧∀ i r,i < n→r < c→((List.range n).flatMap f)[i * c + r]?=(f i)[r]?
 | 0,_=>⟨by simp,fun i r h=>by omega⟩
 | n + 1,h=>by
  obtain ⟨h1,h2⟩:=flat_get (f:=f) (c:=c) n (fun i hi=>h i (by omega))
  rw [List.range_succ,List.flatMap_append]
  simp only [List.flatMap_cons,List.flatMap_nil,List.append_nil]
  refine ⟨by rw [List.length_append,h1,h n (by omega),Nat.succ_mul],fun i r hi hr=>?_⟩
  by_cases hin:i < n
  ·have:i * c + r < n * c:=by
    have h3:(i + 1) * c≤n * c:=Nat.mul_le_mul_right _ hin
    rw [Nat.succ_mul] at h3; omega
   rw [List.getElem?_append_left (by rw [h1]; exact this)]
   exact h2 i r hin hr
  ·have:i=n:=by omega
   subst this
   rw [List.getElem?_append_right (by rw [h1]; omega),h1]
   congr 1; omega
structure BulkOk {H:Type} (B:DataW H→Nat) (BA:List (DataW H)→Nat):Prop where
 one:∀ d,1≤B d
 agg:∀ l,B (.agg l)=BA l + 1
 slice:∀ l m,BA l + 1≤B (.slice l m)
 cons:∀ d l,BA (d::l)=B d + BA l
theorem sizes_append:∀ (a b:List U),U.sizes (a++b)=U.sizes a + U.sizes b
 | [],b=>by simp [U.sizes]
 | u::a,b=>by simp only [List.cons_append,U.sizes,sizes_append a b]; omega
theorem sizes_flat {H:Type} {B:DataW H→Nat} {BA:List (DataW H)→Nat} (hB:BulkOk B BA):∀ (n:Nat) (f:Nat→List U) (zs:List (DataW H × List MemPlace)),zs.length=n→(∀ i,i < n→∀ z,zs[i]?=some z→U.sizes (f i)≤B z.1) →
  U.sizes ((List.range n).flatMap f)≤BA (zs.map (·.1))
 | 0,f,zs,_,_=>by simp [U.sizes]
 | n + 1,f,[],h,_=>by simp at h
 | n + 1,f,z::zs,h,hz=>by
  rw [List.range_succ_eq_map,List.flatMap_cons,sizes_append,List.map_cons,hB.cons]
  have h1:=hz 0 (by omega) z rfl
  have h2:=sizes_flat hB n (fun i=>f (i + 1)) zs (by simpa using h) (fun i hi y hy=>hz (i + 1) (by omega) y (by simpa using hy))
  have e:(List.map Nat.succ (List.range n)).flatMap f=(List.range n).flatMap (fun i=>f (i + 1)):=by
   rw [List.flatMap_map]
  rw [e]; omega
mutual
def bulkD {H:Type}:DataW H→Nat
 | .agg l=>bulkDs l + 1
 | .slice l m=>bulkDs l + bulkDs m + 1
 | _=>1
def bulkDs {H:Type}:List (DataW H)→Nat
 | []=>0
 | d::r=>bulkD d + bulkDs r
end
theorem bulkD_ok {H:Type}:BulkOk (bulkD (H:=H)) bulkDs:=⟨fun d=>by cases d <;> simp [bulkD],fun l=>by simp [bulkD],fun l m=>by simp only [bulkD]; omega,fun d l=>by simp [bulkDs]⟩
section
variable {H : Type} {enc : TypeId × Value → H} {P : Program} {w : World} {held : Bool}
theorem split_at {α:Type} (cs:List α) (a b:Nat):cs.drop a=(cs.drop a).take b++cs.drop (a + b):=by
 rw [← List.drop_drop,List.take_append_drop]
theorem open_kz {B:DataW H→Nat} {BA:List (DataW H)→Nat} (hB:BulkOk B BA):∀ (n:Nat) (t:TypeId) (ks:List CK),ksOf P n t=some ks→∀ (fuel:Nat) (cs:List Value) (x:DataW H × List MemPlace),DataW.trod enc P w 0 (fun _=>true) held fuel t cs=some x →
  ∃ us,RowOk (fun r=>w.heap[r]?) ks us cs∧U.sizes us≤B x.1
 | 0,t,ks,h,_,_,_,_=>by cases h
 | n + 1,t,ks,h,fuel,cs,x,hx=>by
  have ih:=open_kz hB n
  simp only [ksOf] at h
  split at h
  ·rename_i hu
   obtain ⟨b,rfl,_⟩:=DataW.trod_bool hu hx
   simp only [Option.some.injEq] at h; subst h
   exact ⟨[.bool b],RowOk.one (c:=.bool) (u:=.bool b) trivial rfl,by simpa [U.sizes,U.size] using hB.one _⟩
  ·rename_i k hu
   obtain ⟨m,rfl,_,hw⟩:=DataW.trod_int hu hx
   simp only [Option.some.injEq] at h; subst h
   refine ⟨[.int m],RowOk.one (c:=.int k) (u:=.int m) trivial ?_,by simpa [U.sizes,U.size] using hB.one _⟩
   simp only [Lit.wf,Bool.and_eq_true,decide_eq_true_eq] at hw
   simp only [CK.typ,U.typ,decide_eq_true_eq]
   cases k <;> exact ⟨by decide,by simpa [IntKind.min,IntKind.max,IntKind.signed,IntKind.bits,ikU,kindLo,kindHi] using hw⟩
  ·rename_i hu
   obtain ⟨b,rfl,_⟩:=DataW.trod_string hu hx
   simp only [Option.some.injEq] at h; subst h
   exact ⟨[.str b],RowOk.one (c:=.str) (u:=.str b) trivial rfl,by simpa [U.sizes,U.size] using hB.one _⟩
  ·-- slice
   rename_i e hu
   split at h
   ·rename_i ks' hks
    split at h
    ·rename_i hc
     simp only [Bool.and_eq_true] at hc
     obtain ⟨hc1,hc2⟩:=hc
     have hlen:ks'.length=P.cellsOf e:=Nat.eq_of_beq_eq_true hc1
     have hpos:0 < ks'.length:=blt_iff.1 hc2
     simp only [Option.some.injEq] at h; subst h
     rcases DataW.trod_slice hu hx with ⟨rfl,hx0⟩ | ⟨a,len,cap,elems,rest,m,_,rfl,hx0,_,hlc,_,hel,hget,hrest,_⟩
     ·exact ⟨[.bx none 0 0 []],RowOk.one (c:=.slc ks') (u:=.bx none 0 0 []) .nil (by simp [CK.typ,U.typ,U.typs]),by simpa [U.sizes,U.size] using hB.one _⟩
     ·have key:∀ i,i < cap→∃ y,(w.cells? 0 (a.add (i * P.cellsOf e)) (P.cellsOf e)).bind (DataW.trod enc P w 0 (fun _=>true) held m e)=some y:=by
       intro i hi
       obtain ⟨hr1,hr2⟩:=hrest rfl
       by_cases hil:i < len
       ·rw [hget i hil]
        exact ⟨_,List.getElem?_eq_getElem (by omega)⟩
       ·have:=hr2 (i - len) (by omega)
        rw [show len + (i - len)=i by omega] at this
        rw [this]
        exact ⟨_,List.getElem?_eq_getElem (by omega)⟩
      have cell:∀ i,i < cap→∃ us,(∃ cs',RowOk (fun r=>w.heap[r]?) ks' us cs'∧∀ r,r < ks'.length→w.cell? ((a.add (i * ks'.length)).add r)=cs'[r]?)∧(i < len→∀ z,elems[i]?=some z→U.sizes us≤B z.1):=by
       intro i hi
       obtain ⟨y,hy⟩:=key i hi
       rw [Option.bind_eq_some_iff] at hy
       obtain ⟨cs',h1,h2⟩:=hy
       obtain ⟨us,hus,hsz⟩:=ih e ks' hks m cs' y h2
       refine ⟨us,⟨cs',hus,fun r hr=>?_⟩,fun hil z hz=>?_⟩
       ·have:=(World.cells?_some h1).2.2 r (by omega)
        rw [hlen]; exact this
       ·have h3:=hget i hil
        rw [hz,h1,Option.bind_some,h2] at h3
        simp only [Option.some.injEq] at h3
        subst h3; exact hsz
      have hspot:0 < cap→a.spot=none∧∃ arr elem fr,w.heap[a.block]?=some (.cells arr elem fr):=by
       intro hcap
       obtain ⟨us,⟨cs',hrow,hcell⟩,_⟩:=cell 0 hcap
       have h0:=hcell 0 hpos
       have hlt:0 < cs'.length:=by rw [hrow.2.1]; exact hpos
       rw [List.getElem?_eq_getElem hlt] at h0
       rw [show (a.add (0 * ks'.length)).add 0=a by simp [Addr.add]] at h0
       unfold World.cell? at h0
       split at h0
       ·rename_i arr el fr hw
        split at h0
        ·cases h0
        ·rename_i hs
         refine ⟨by simpa using hs,arr,el,fr,hw⟩
       ·cases h0
      rcases Nat.eq_zero_or_pos cap with hz | hcp
      ·subst hz
       have:len=0:=by omega
       subst this
       exact ⟨[.bx (some a) 0 0 []],RowOk.one (c:=.slc ks') (u:=.bx (some a) 0 0 []) (.empty a) (by simp [CK.typ,U.typ,U.typs]),by simpa [U.sizes,U.size] using hB.one _⟩
      ·obtain ⟨hsp,arr,el,fr,hw⟩:=hspot hcp
       obtain ⟨blk,off,spot⟩:=a
       have hsp':spot=none:=hsp
       have hw:w.heap[blk]?=some (.cells arr el fr):=hw
       subst hsp'
       let f:Nat→List U:=fun i=>if h:i < cap then Classical.choose (cell i h) else []
       have hf:∀ i,(hi:i < cap)→∃ cs',RowOk (fun r=>w.heap[r]?) ks' (f i) cs'∧∀ r,r < ks'.length→arr[off + (i * ks'.length + r)]?=cs'[r]?:=by
        intro i hi
        obtain ⟨⟨cs',h1,h2⟩,_⟩:=Classical.choose_spec (cell i hi)
        have:f i=Classical.choose (cell i hi):=dif_pos hi
        rw [this]
        refine ⟨cs',h1,fun r hr=>?_⟩
        have:=h2 r hr
        rw [← this]
        rw [addr_add,addr_add]
        simp only [World.cell?,hw,Option.isSome_none]
        simp [Nat.add_assoc]
       have hsz:∀ i,i < len→∀ z,elems[i]?=some z→U.sizes (f i)≤B z.1:=by
        intro i hi z hz
        have h1:=(Classical.choose_spec (cell i (by omega))).2 hi z hz
        have:f i=Classical.choose (cell i (by omega)):=dif_pos (by omega)
        rw [this]; exact h1
       have hfl:∀ i,i < len→(f i).length=ks'.length:=fun i hi=>by obtain ⟨_,h1,_⟩:=hf i (by omega); exact h1.1
       obtain ⟨hL,hLg⟩:=flat_get len hfl
       have hat:∀ j u,((List.range len).flatMap f)[j]?=some u→∃ c,ks'[j % ks'.length]?=some c∧arr[off + j]?=some (c.val u)∧c.ok (fun r=>w.heap[r]?) u∧U.typ u c.typ=true:=by
        intro j u hj
        have hlt:j < len * ks'.length:=by rw [← hL]; exact (List.getElem?_eq_some_iff.1 hj).1
        have hdm:j / ks'.length * ks'.length + j % ks'.length=j:=by rw [Nat.mul_comm]; exact Nat.div_add_mod j ks'.length
        have hi:j / ks'.length < len:=(Nat.div_lt_iff_lt_mul hpos).2 hlt
        have hr:j % ks'.length < ks'.length:=Nat.mod_lt _ hpos
        have h1:=hLg (j / ks'.length) (j % ks'.length) hi hr
        rw [hdm] at h1
        obtain ⟨cs',hrow,harr⟩:=hf (j / ks'.length) (by omega)
        obtain ⟨u',g1,g2,g3,g4⟩:=hrow.2.2 (j % ks'.length) ks'[j % ks'.length] (List.getElem?_eq_getElem hr)
        rw [h1,g1] at hj
        simp only [Option.some.injEq] at hj; subst hj
        have h2:=harr (j % ks'.length) hr
        rw [hdm] at h2
        exact ⟨_,List.getElem?_eq_getElem hr,by rw [h2,g2],g3,g4⟩
       refine ⟨[.bx (some ⟨blk,off,none⟩) len cap ((List.range len).flatMap f)],RowOk.one (c:=.slc ks') (u:=.bx (some ⟨blk,off,none⟩) len cap ((List.range len).flatMap f)) ?_ ?_,?_⟩
       ·refine .mk (arr:=arr) (elem:=el) (fr:=fr) hL hlc (fun _=>hw) (fun j u hj=>?_) (fun j u ks2 hj hk2=>?_)
        ·obtain ⟨c,g1,g2,_⟩:=hat j u hj; exact ⟨c,g1,g2⟩
        ·obtain ⟨c,g1,_,g3,_⟩:=hat j u hj
         rw [hk2] at g1
         simp only [Option.some.injEq] at g1; subst g1
         exact g3
       ·simp only [CK.typ,U.typ]
        have:=typs_of (ks:=ksTyp ks') ((List.range len).flatMap f) (ksTyp ks').length (Nat.le_refl _) (fun j u hj=>by
         have hkl:(ksTyp ks').length=ks'.length:=by
          apply Nat.le_antisymm
          ·rcases Nat.lt_or_ge ks'.length (ksTyp ks').length with h | h
           ·have:=ksTyp_get ks' ks'.length
            rw [List.getElem?_eq_getElem h] at this
            simp at this
           ·exact h
          ·rcases Nat.lt_or_ge (ksTyp ks').length ks'.length with h | h
           ·have:=ksTyp_get ks' (ksTyp ks').length
            rw [List.getElem?_eq_getElem h] at this
            simp at this
           ·exact h
         obtain ⟨c,g1,_,_,g4⟩:=hat j u hj
         refine ⟨c.typ,?_,g4⟩
         rw [hkl,Nat.add_mod_left,ksTyp_get,g1]; rfl)
        simpa using this
       ·have h1:=sizes_flat hB len f elems hel hsz
        rw [hx0]
        have h2:=hB.slice (elems.map (·.1)) (rest.map (·.1))
        simp only [U.sizes,U.size] at h1 ⊢
        omega
    ·cases h
   ·cases h
  ·-- struct
   rename_i fs hu
   obtain ⟨xs,m,_,hx0,hcl,hxl,hget⟩:=DataW.trod_struct hu hx
   split at h
   ·rename_i ks' hks
    split at h
    ·rename_i hc
     simp only [Option.some.injEq] at h; subst h
     have hlen:ks'.length=P.cellsOf t:=Nat.eq_of_beq_eq_true hc
     have go:∀ (l:List Field) (zs:List (DataW H × List MemPlace)) (off:Nat) (r:List CK),ksFields (ksOf P n) P l off=some r→(cs.drop off).length=r.length→zs.length=l.length →
       (∀ (i:Nat) (f:Field),l[i]?=some f→DataW.trod enc P w 0 (fun _=>true) held m f.type ((cs.drop f.offset).take (P.cellsOf f.type))=zs[i]?)→∃ us,RowOk (fun r=>w.heap[r]?) r us (cs.drop off)∧U.sizes us≤BA (zs.map (·.1)):=by
      intro l
      induction l with
      | nil =>
       intro zs off r hr hl _ _
       simp only [ksFields,Option.some.injEq] at hr; subst hr
       have:cs.drop off=[]:=List.length_eq_zero_iff.1 (by simpa using hl)
       rw [this]; exact ⟨[],RowOk.nil _,by simp [U.sizes]⟩
      | cons f l ihl =>
       intro zs off r hr hl hzl hall
       obtain ⟨y,zs,rfl⟩:∃ y zs',zs=y::zs':=by
        cases zs with
        | nil=>simp at hzl
        | cons y zs=>exact ⟨y,zs,rfl⟩
       simp only [ksFields] at hr
       split at hr
       ·rename_i k1 r1 hk1 hr1
        split at hr
        ·rename_i hc
         simp only [Bool.and_eq_true] at hc
         have ho:f.offset=off:=Nat.eq_of_beq_eq_true hc.1
         have hk:k1.length=P.cellsOf f.type:=Nat.eq_of_beq_eq_true hc.2
         simp only [Option.some.injEq] at hr; subst hr
         have hy:=hall 0 f rfl
         rw [ho] at hy
         obtain ⟨us1,hu1,hs1⟩:=ih f.type k1 hk1 m _ y (by simpa using hy)
         obtain ⟨us2,hu2,hs2⟩:=ihl zs (off + P.cellsOf f.type) r1 hr1 (by
          simp only [List.length_drop,List.length_append] at hl ⊢
          omega) (by simpa using hzl) (fun i g hg=>by
           have:=hall (i + 1) g (by simpa using hg)
           simpa using this)
         refine ⟨us1++us2,?_,?_⟩
         ·rw [split_at cs off (P.cellsOf f.type)]
          exact hu1.append hu2
         ·rw [sizes_append,List.map_cons,hB.cons]; omega
        ·cases hr
       ·cases hr
     obtain ⟨us,hus,hsz⟩:=go fs.toList xs 0 ks' hks (by simp [hcl,hlen]) (by simpa using hxl) (fun i f hf=>hget i f (by simpa using hf))
     refine ⟨us,by simpa using hus,?_⟩
     rw [hx0,hB.agg]; omega
    ·cases h
   ·cases h
  ·-- array
   rename_i q e hu
   obtain ⟨xs,m,_,hx0,hcl,hxl,hget⟩:=DataW.trod_array hu hx
   split at h
   ·rename_i ks' hks
    split at h
    ·rename_i hc
     simp only [Bool.and_eq_true] at hc
     have hk:ks'.length=P.cellsOf e:=Nat.eq_of_beq_eq_true hc.1
     have ht:q * ks'.length=P.cellsOf t:=Nat.eq_of_beq_eq_true hc.2
     simp only [Option.some.injEq] at h; subst h
     have go:∀ (j i:Nat),i + j=q→∃ us,RowOk (fun r=>w.heap[r]?) (ksRep ks' j) us (cs.drop (i * P.cellsOf e))∧U.sizes us≤BA ((xs.drop i).map (·.1)):=by
      intro j
      induction j with
      | zero =>
       intro i hi
       have:cs.drop (i * P.cellsOf e)=[]:=by
        apply List.drop_eq_nil_of_le
        rw [hcl,← ht,← hk,show i=q by omega]
        exact Nat.le_refl _
       rw [this]; exact ⟨[],RowOk.nil _,by simp [U.sizes]⟩
      | succ j ihj =>
       intro i hi
       have hlt:i < q:=by omega
       have hy:=hget i hlt
       rw [List.getElem?_eq_getElem (by omega)] at hy
       obtain ⟨us1,hu1,hs1⟩:=ih e ks' hks m _ _ hy
       obtain ⟨us2,hu2,hs2⟩:=ihj (i + 1) (by omega)
       refine ⟨us1++us2,?_,?_⟩
       ·rw [split_at cs (i * P.cellsOf e) (P.cellsOf e)]
        rw [show (i + 1) * P.cellsOf e=i * P.cellsOf e + P.cellsOf e from Nat.succ_mul _ _] at hu2
        exact hu1.append hu2
       ·rw [sizes_append,List.drop_eq_getElem_cons (by omega),List.map_cons,hB.cons]; omega
     obtain ⟨us,hus,hsz⟩:=go q 0 (by omega)
     refine ⟨us,by simpa using hus,?_⟩
     rw [hx0,hB.agg]
     simp only [List.drop_zero] at hsz; omega
    ·cases h
   ·cases h
  ·cases h
theorem open_slc {n:Nat} {t e:TypeId} {ks:List CK} {r:Reach} {b0:Nat} {v:Value} {d:DataW H} {ps:List MemPlace} (hu:P.underlying t=some (.slice e)) (hk:ksOf P n t=some [.slc ks])
  (o:Value.okWide P w r b0 t v) (h:DataW.Trod enc P w 0 (fun _=>true) held t v d ps):∃ u:U,v=u.raw∧SlOk (fun r=>w.heap[r]?) ks u∧U.typ u (.lst (ksTyp ks))=true:=by
 obtain ⟨fuel,h⟩:=h
 obtain ⟨us,⟨h1,h2,h3⟩,_⟩:=open_kz bulkD_ok n t _ hk fuel _ _ h
 obtain ⟨u,g1,g2,g3,g4⟩:=h3 0 (.slc ks) rfl
 refine ⟨u,?_,g3,g4⟩
 have hv:∃ a l c,v=.slice a l c:=by
  unfold Value.okWide at o
  rw [hu] at o
  simp only at o
  unfold Cell.okWide at o
  rw [hu] at o
  cases v <;> simp [Cell.ok,hu] at o <;> exact ⟨_,_,_,rfl⟩
 obtain ⟨a,l,c,rfl⟩:=hv
 have e:(Value.slice a l c).cells.toList=[Value.slice a l c]:=rfl
 rw [e] at g2
 simpa [CK.val] using g2
def valsAt:List CK→List U→Nat→List Value
 | [],_,_=>[]
 | c::cs,us,j=>c.val (us.getD j (.int 0))::valsAt cs us (j + 1)
theorem valsAt_eq {fz:Nat→Option Obj} {ks:List CK} {us:List U} {cs:List Value} (h:RowOk fz ks us cs):∀ (k:List CK) (j:Nat),ks.drop j=k→cs.drop j=valsAt k us j
 | [],j,hj=>by
  have:ks.length≤j:=by
   have:=congrArg List.length hj
   simp only [List.length_drop,List.length_nil] at this; omega
  rw [List.drop_eq_nil_of_le (by rw [h.2.1]; exact this)]; rfl
 | c::k,j,hj=>by
  have hlt:j < ks.length:=by
   have:=congrArg List.length hj
   simp only [List.length_drop,List.length_cons] at this; omega
  rw [List.drop_eq_getElem_cons hlt] at hj
  simp only [List.cons.injEq] at hj
  obtain ⟨u,h1,h2,_⟩:=h.2.2 j ks[j] (List.getElem?_eq_getElem hlt)
  have hlt2:j < cs.length:=by rw [h.2.1]; exact hlt
  rw [List.drop_eq_getElem_cons hlt2,valsAt_eq h k (j + 1) hj.2]
  rw [List.getElem?_eq_getElem hlt2] at h2
  simp only [Option.some.injEq] at h2
  rw [h2,hj.1,valsAt,List.getD_eq_getElem?_getD,h1]; rfl
theorem open_row {B:DataW H→Nat} {BA:List (DataW H)→Nat} (hB:BulkOk B BA) {n:Nat} {t:TypeId} {fs:Array Field} {ks:List CK} {r:Reach} {b0:Nat} {v:Value} {d:DataW H} {ps:List MemPlace} (hu:P.underlying t=some (.struct fs)) (hk:ksOf P n t=some ks)
  (o:Value.okWide P w r b0 t v) (h:DataW.Trod enc P w 0 (fun _=>true) held t v d ps):∃ us:List U,v=.agg (valsAt ks us 0).toArray∧us.length=ks.length∧(∀ (i:Nat) (c:CK),ks[i]?=some c→c.ok (fun r=>w.heap[r]?) (us.getD i (.int 0)))∧U.typs us (ksTyp ks) []=true∧U.sizes us≤B d:=by
 obtain ⟨fuel,h⟩:=h
 unfold Value.okWide at o
 rw [hu] at o
 obtain ⟨cs,rfl,_,_⟩:=o
 obtain ⟨us,h1,h2⟩:=open_kz hB n t _ hk fuel _ _ h
 have e:(Value.agg cs).cells.toList=cs.toList:=rfl
 rw [e] at h1
 have hkl:(ksTyp ks).length=ks.length:=by
  have g:∀ l:List CK,(ksTyp l).length=l.length:=by
   intro l
   induction l with
   | nil=>simp [ksTyp]
   | cons c l ih=>simp [ksTyp,ih]
  exact g ks
 refine ⟨us,?_,h1.1,fun i c hc=>?_,?_,h2⟩
 ·have:=valsAt_eq h1 ks 0 rfl
  rw [List.drop_zero] at this
  rw [← this,Array.toArray_toList]
 ·obtain ⟨u,g1,_,g3,_⟩:=h1.2.2 i c hc
  rw [List.getD_eq_getElem?_getD,g1]; exact g3
 ·have:=typs_of (ks:=ksTyp ks) us (ksTyp ks).length (Nat.le_refl _) (fun j u hj=>by
   have hlt:j < ks.length:=by rw [← h1.1]; exact (List.getElem?_eq_some_iff.1 hj).1
   obtain ⟨u',g1,_,_,g4⟩:=h1.2.2 j ks[j] (List.getElem?_eq_getElem hlt)
   rw [hj] at g1
   simp only [Option.some.injEq] at g1; subst g1
   refine ⟨ks[j].typ,?_,g4⟩
   rw [hkl,Nat.add_mod_left,Nat.mod_eq_of_lt hlt,ksTyp_get,List.getElem?_eq_getElem hlt]; rfl)
  simpa using this
end
end Go.SX

namespace Go.SX
theorem varsFrom_len (n0:Nat):∀ (k:Nat),(varsFrom n0 k).length=k:=by
 intro k
 induction k generalizing n0 with
 | zero=>rfl
 | succ k ih=>simp [varsFrom,ih]
theorem natsFrom_len (n0:Nat):∀ (k:Nat),(natsFrom n0 k).length=k:=by
 intro k
 induction k generalizing n0 with
 | zero=>rfl
 | succ k ih=>simp [natsFrom,ih]
theorem varsFrom_den {ρ:Env}:∀ (l:List U) (n0:Nat),(∃ p,ρ.vs=p++l∧p.length=n0)→(varsFrom n0 l.length).map (E.den ρ)=l
 | [],n0,_=>rfl
 | u::l,n0,⟨p,hp,hn⟩=>by
  simp only [List.length_cons,varsFrom,List.map_cons]
  rw [varsFrom_den l (Nat.succ n0) ⟨p++[u],by rw [hp]; simp,by simp [hn]⟩]
  congr 1
  simp [E.den,hp,← hn,List.getD]
theorem natsFrom_get {bs:List Bk} {d:Bk}:∀ (l:List Bk) (n0:Nat),(∃ p,bs=p++l∧p.length=n0)→(natsFrom n0 l.length).map (fun b=>bs.getD b d)=l
 | [],n0,_=>rfl
 | u::l,n0,⟨p,hp,hn⟩=>by
  simp only [List.length_cons,natsFrom,List.map_cons]
  rw [natsFrom_get l (Nat.succ n0) ⟨p++[u],by rw [hp]; simp,by simp [hn]⟩]
  congr 1
  simp [hp,← hn,List.getD]
theorem natsFrom_getI:∀ (k n0 j:Nat),j < k→getI (natsFrom n0 k) j=some (n0 + j)
 | 0,_,j,h=>by omega
 | k + 1,n0,0,_=>rfl
 | k + 1,n0,j + 1,h=>by
  show getI (natsFrom (Nat.succ n0) k) j=_
  rw [natsFrom_getI k (Nat.succ n0) j (by omega)]; simp; omega
def Live (t:T Blk) (i:Nat):Prop:=∃ p,t.get i=some p∧p.obj≠.gone
noncomputable def asBlk (z:Sub):Option Blk→Blk
 | none=>⟨true,.gone⟩
 | some q=>⟨true,q.obj.sub z⟩
theorem setBlks_get {z:Sub} {pre post:T Blk}:∀ (n i:Nat) (heap:T Blk) (k:Nat) (b:Blk),(setBlks z pre post n i heap).get k=some b →
  (heap.get k=some b∧∀ m,i≤m→m < i + n→Live pre m→subBlk 0 z.bs m≠k)∨(∃ m,i≤m∧m < i + n∧Live pre m∧subBlk 0 z.bs m=k∧b=asBlk z (post.get m))
 | 0,i,heap,k,b,h=>.inl ⟨h,fun m h1 h2=>by omega⟩
 | n + 1,i,heap,k,b,h=>by
  have skip:(¬ Live pre i)→(setBlks z pre post n (Nat.succ i) heap).get k=some b→(heap.get k=some b∧∀ m,i≤m→m < i + (n + 1)→Live pre m→subBlk 0 z.bs m≠k)∨(∃ m,i≤m∧m < i + (n + 1)∧Live pre m∧subBlk 0 z.bs m=k∧b=asBlk z (post.get m)):=by
   intro hn h
   rcases setBlks_get n _ heap k b h with ⟨h1,h2⟩ | ⟨m,h1,h2,h3⟩
   ·refine .inl ⟨h1,fun m k1 k2 k3=>?_⟩
    by_cases e:m=i
    ·subst e; exact absurd k3 hn
    ·exact h2 m (by simp; omega) (by simp; omega) k3
   ·exact .inr ⟨m,by simp at h1; omega,by simp at h2; omega,h3⟩
  have put:Live pre i→(setBlks z pre post n (Nat.succ i) (heap.set (subBlk 0 z.bs i) (asBlk z (post.get i)))).get k=some b→(heap.get k=some b∧∀ m,i≤m→m < i + (n + 1)→Live pre m→subBlk 0 z.bs m≠k)∨(∃ m,i≤m∧m < i + (n + 1)∧Live pre m∧subBlk 0 z.bs m=k∧b=asBlk z (post.get m)):=by
   intro hl h
   rcases setBlks_get n _ _ k b h with ⟨h1,h2⟩ | ⟨m,h1,h2,h3⟩
   ·rw [T.get_set] at h1
    split at h1
    ·rename_i e
     right
     refine ⟨i,Nat.le_refl _,by omega,hl,e.symm,?_⟩
     cases hq:heap.get (subBlk 0 z.bs i) with
     | none=>rw [hq] at h1; cases h1
     | some y=>rw [hq] at h1; simpa using h1.symm
    ·rename_i e
     refine .inl ⟨h1,fun m k1 k2 k3=>?_⟩
     by_cases e':m=i
     ·subst e'; exact fun h=>e h.symm
     ·exact h2 m (by simp; omega) (by simp; omega) k3
   ·exact .inr ⟨m,by simp at h1; omega,by simp at h2; omega,h3⟩
  unfold setBlks at h
  split at h
  ·rename_i hp
   exact skip (fun ⟨p,hp',_⟩=>by rw [hp] at hp'; cases hp') h
  ·rename_i p hp
   split at h
   ·rename_i hg
    exact skip (fun ⟨p',hp',hg'⟩=>by rw [hp] at hp'; cases hp'; exact hg' hg) h
   ·rename_i hg
    have hl:Live pre i:=⟨p,hp,hg⟩
    split at h
    ·rename_i hq
     rw [T.setK_eq] at h
     refine put hl ?_
     rw [hq]; exact h
    ·rename_i q hq
     rw [T.setK_eq] at h
     refine put hl ?_
     rw [hq]; exact h
theorem insBlks_get {z:Sub} {post:T Blk}:∀ (n i b0:Nat) (heap:T Blk) (k:Nat) (b:Blk),(insBlks z post n i b0 heap).get k=some b →
  (heap.get k=some b∧(k < b0∨b0 + n≤k))∨(∃ j,j < n∧k=b0 + j∧b=asBlk z (post.get (i + j)))
 | 0,i,b0,heap,k,b,h=>.inl ⟨h,by omega⟩
 | n + 1,i,b0,heap,k,b,h=>by
  have h':(insBlks z post n (Nat.succ i) (Nat.succ b0) (heap.ins b0 (asBlk z (post.get i)))).get k=some b:=by
   unfold insBlks at h
   split at h
   ·rename_i hq; rw [T.insK_eq] at h; rw [hq]; exact h
   ·rename_i q hq; rw [T.insK_eq] at h; rw [hq]; exact h
  rcases insBlks_get n _ _ _ k b h' with ⟨h1,h2⟩ | ⟨j,h1,h2,h3⟩
  ·by_cases e:k=b0
   ·subst e
    right
    exact ⟨0,by omega,rfl,T.get_ins_self _ _ _ _ h1⟩
   ·rw [T.get_ins_ne _ _ _ _ e] at h1
    exact .inl ⟨h1,by simp at h2; omega⟩
  ·exact .inr ⟨j + 1,by omega,by simp at h2; omega,by rw [h3]; congr 2; simp; omega⟩
theorem pcSub_mem {z:Sub} {pc:List E}:∀ (l:List E) (e:E),e∈pcSub z pc l→(∃ x∈l,e=x.sub z.n0 z.es)∨e∈pc
 | [],e,h=>.inr h
 | x::xs,e,h=>by
  simp only [pcSub,List.mem_cons] at h
  rcases h with h | h
  ·exact .inl ⟨x,by simp,h⟩
  ·rcases pcSub_mem xs e h with ⟨y,h1,h2⟩ | h
   ·exact .inl ⟨y,List.mem_cons_of_mem _ h1,h2⟩
   ·exact .inr h
theorem bltAll_ok {nb:Nat}:∀ (l:List Nat),bltAll nb l=true→∀ b∈l,b < nb
 | [],_,b,hb=>by cases hb
 | x::xs,h,b,hb=>by
  simp only [bltAll] at h
  split at h
  ·rename_i hx
   rw [blt_iff] at hx
   cases hb with
   | head=>exact hx
   | tail _ hm=>exact bltAll_ok xs h b hm
  ·cases h
theorem fits_parts {fs:List E} {n0 b0:Nat} {t:Tm} {st:St} {τ:Tmpl} {z:Sub} (h:fits fs n0 b0 t st τ=.ok z) :
  z.n0=n0∧z.b0=b0∧n0 + z.es.length=τ.st.nv∧b0 + z.bs.length=τ.st.nb∧(∀ e∈z.es,e.scp st.nv=true)∧(∀ b∈z.bs,b < st.nb) ∧
  (∀ i b,τ.st.heap.get i=some b→b.obj≠.gone→i < τ.st.nb∧∃ x,st.heap.get (subBlk z.b0 z.bs i)=some x∧b.own=x.own∧ObjTo x.obj (b.obj.sub z)∧∀ ρ r,(b.obj.sub z).inner ρ r→x.obj.inner ρ r) ∧
  (∀ i j,Live τ.st.heap i→Live τ.st.heap j→i≠j→subBlk z.b0 z.bs i≠subBlk z.b0 z.bs j):=by
 unfold fits at h
 simp only at h
 generalize hz:guess n0 b0 t st τ=y at h
 have hy1:y.n0=n0:=by rw [← hz]; rfl
 have hy2:y.b0=b0:=by rw [← hz]; rfl
 split at h
 ·rename_i hchk
  split at h
  ·rename_i htm
   split at h
   ·rename_i hheap
    split at h
    ·rename_i hdiff
     obtain ⟨rfl,hpc⟩:=pcLack_ok _ h
     simp only [Bool.and_eq_true] at hchk
     obtain ⟨⟨c1,c2⟩,c3,c4⟩:=hchk
     have c1':n0 + z.es.length=τ.st.nv:=by have:=Nat.eq_of_beq_eq_true c1; rw [lenI_eq] at this; exact this
     have c2':b0 + z.bs.length=τ.st.nb:=by have:=Nat.eq_of_beq_eq_true c2; rw [lenI_eq] at this; exact this
     refine ⟨hy1,hy2,c1',c2',scpAll_ok _ c3,bltAll_ok _ c4,fun i b hib hl=>?_,fun i j ⟨b,hb,hl⟩ ⟨c,hc,hl'⟩ hij=>?_⟩
     ·have:=heapFits_get _ _ _ hheap i b hib
      rw [Nat.zero_add,Nat.one_mul] at this
      unfold blkFits at this
      split at this
      ·rename_i hlt
       rw [blt_iff] at hlt
       refine ⟨hlt,?_⟩
       split at this
       ·rename_i hg; exact absurd hg hl
       ·split at this
        ·rename_i x hx
         rw [Bool.and_eq_true] at this
         refine ⟨x,hx,boolB_eq this.1,?_⟩
         have h2:=this.2
         unfold objFits at h2
         split at h2
         ·rename_i hg; exact absurd hg hl
         ·split at h2
          ·rename_i x' hx'
           rw [SObj.beq_eq h2]
           exact ⟨objConv_ok hx',objConv_inner hx'⟩
          ·rw [SObj.beq_eq h2]; exact ⟨ObjTo.refl _,fun _ _=>id⟩
        ·cases this
      ·cases this
     ·have m1:=liveAt_get _ 0 1 [] i b hb hl
      have m2:=liveAt_get _ 0 1 [] j c hc hl'
      rw [Nat.zero_add,Nat.one_mul] at m1 m2
      exact allDiff_ok _ hdiff i j m1 m2 hij
    ·cases h
   ·cases h
  ·cases h
 ·cases h
section
variable {z : Sub} {ρ : Env} (hn : z.n0 ≤ ρ.vs.length) (hb : z.b0 ≤ ρ.bs.length)
include hn hb
theorem subs_get:∀ (cs:List SV) (j:Nat),(SV.subs z cs)[j]?=cs[j]?.map (SV.sub z)
 | [],j=>by simp [SV.subs]
 | c::cs,0=>by simp [SV.subs]
 | c::cs,j + 1=>by simp [SV.subs,subs_get cs j]
theorem SObj.rep_sub {w:World} {r off:Nat} {nil:Bool} {o:SObj} (hs:o.scp (z.n0 + z.es.length) (z.b0 + z.bs.length)=true) (h:blkRep (z.env ρ) w r off nil o):blkRep ρ w r off nil (o.sub z):=by
 cases o with
 | gone=>trivial
 | cells cs tot elem =>
  simp only [SObj.scp,Bool.and_eq_true] at hs
  obtain ⟨hnl,h0,hk,arr,h1,h2,h3⟩:=h
  rw [← E.sub_I hn hs.1] at h2
  refine ⟨hnl,h0,(SV.subs_ok hn hb cs hs.2).2 hk,arr,h1,h2,fun j v hv=>?_⟩
  rw [subs_get hn hb] at hv
  cases hq:cs[j]? with
  | none=>rw [hq] at hv; cases hv
  | some u =>
   rw [hq] at hv
   simp only [Option.map_some,Option.some.injEq] at hv
   rw [h3 j u hq,← hv,SV.sub_den hn hb u (mem_scopeds _ hs.2 u (List.mem_of_getElem? hq))]
 | flat ks l n tot elem =>
  simp only [SObj.scp,Bool.and_eq_true] at hs
  obtain ⟨h1,h2,h3,h4,h5⟩:=h
  rw [← E.sub_L hn hs.1,← E.sub_I hn hs.2.1] at h2
  rw [← E.sub_I hn hs.2.1,← E.sub_I hn hs.2.2] at h3
  rw [← E.sub_I hn hs.2.1] at h4
  rw [← E.sub_I hn hs.2.2,← E.sub_L hn hs.1] at h5
  exact ⟨h1,h2,h3,h4,h5⟩
 | nest ks l n tot elem =>
  simp only [SObj.scp,Bool.and_eq_true] at hs
  obtain ⟨h1,h2,h3,h4,h6,h5⟩:=h
  rw [← E.sub_L hn hs.1,← E.sub_I hn hs.2.1] at h2
  rw [← E.sub_I hn hs.2.1,← E.sub_I hn hs.2.2] at h3
  rw [← E.sub_I hn hs.2.1] at h4
  rw [← E.sub_I hn hs.2.2,← E.sub_L hn hs.1] at h5
  rw [← E.sub_L hn hs.1] at h6
  exact ⟨h1,h2,h3,h4,h6,h5⟩
 | map es clk =>
  simp only [SObj.scp,Bool.and_eq_true] at hs
  obtain ⟨en,clock,h1,h2,h3,h4,h5⟩:=h
  rw [← E.sub_I hn hs.2] at h2
  refine ⟨en,clock,h1,h2,⟨by rw [h3.1,pairsSub_len],fun i e x he hx=>?_⟩,h4,h5⟩
  rw [pairsSub_get] at hx
  cases hq:es[i]? with
  | none=>rw [hq] at hx; cases hx
  | some y =>
   rw [hq] at hx
   simp only [Option.map_some,Option.some.injEq] at hx; subst hx
   obtain ⟨k1,k2,k3,k4,k5⟩:=h3.2 i e _ he hq
   obtain ⟨s1,s2,s3⟩:=mem_pairsScp _ hs.1 y (List.mem_of_getElem? hq)
   exact ⟨by rw [k1,SV.sub_den hn hb _ s1],by rw [k2,SV.sub_den hn hb _ s2],by rw [k3,E.sub_I hn s3],(SV.sub_ok hn hb _ s1).2 k4,(SV.sub_ok hn hb _ s2).2 k5⟩
 | mapl k c e =>
  simp only [SObj.scp] at hs
  obtain ⟨en,clock,h1,h2,h3⟩:=h
  rw [← E.sub_L hn hs] at h2
  exact ⟨en,clock,h1,h2,h3⟩
 | maplp k c e ke s =>
  simp only [SObj.scp,Bool.and_eq_true] at hs
  obtain ⟨en,clock,h1,h2,h3,j,e1,h4,h5,h6,h7⟩:=h
  rw [← E.sub_L hn hs.1] at h2 h7
  rw [← E.sub_I hn hs.2.1] at h5 h7
  rw [← E.sub_I hn hs.2.2] at h6
  exact ⟨en,clock,h1,h2,h3,j,e1,h4,h5,h6,h7⟩
 | iter k c e n u =>
  simp only [SObj.scp,Bool.and_eq_true] at hs
  obtain ⟨h0,h1,h2⟩:=h
  refine ⟨h0,by rw [E.sub_L hn hs.1,E.sub_I hn hs.2.1]; exact h1,fun x hx=>?_⟩
  cases u with
  | none=>cases hx
  | some y =>
   simp only [Option.some.injEq] at hx; subst hx
   rw [E.sub_L hn hs.1,E.sub_I hn hs.2.2]
   exact h2 y rfl
end
def SpecOk (P:Program) (s:Pact):Prop :=
 ∀ (B:Base) (ρ:Env) (w:World) (R:Ending→World→Prop),RepW B ρ s.st w→SV.oks ρ s.args →
  (∀ y∈s.posts,∀ (ρ':Env) (w':World),ρ.Ext ρ'→RepW B ρ' y.2 w'→y.1.ok ρ'→R (.returned (y.1.den ρ')) w')→Calls P s.fn (SV.dens ρ s.args).toArray w R
theorem specPosts_mem {z:Sub} {st pre:St}:∀ (l:List (SV × St)) (y:SV × St),y∈l→specPost z st pre y∈specPosts z st pre l
 | [],y,h=>by cases h
 | x::xs,y,h=>by
  simp only [specPosts,List.mem_cons]
  cases h with
  | head=>exact .inl rfl
  | tail _ hm=>exact .inr (specPosts_mem xs y hm)
theorem postsGood_ok {s:Pact}:∀ (l:List (SV × St)),postsGood s l=true→∀ p∈l,postGood s p=true
 | [],_,p,hp=>by cases hp
 | x::xs,h,p,hp=>by
  simp only [postsGood] at h
  split at h
  ·rename_i hx
   cases hp with
   | head=>exact hx
   | tail _ hm=>exact postsGood_ok xs h p hm
  ·cases h
theorem goneIn_ok {pre post:T Blk}:∀ (n:Nat),goneIn pre post n=true→∀ i,i < n→Live post i→Live pre i
 | 0,_,i,hi,_=>by omega
 | n + 1,h,i,hi,hl=>by
  simp only [goneIn] at h
  split at h
  ·rename_i h1
   by_cases e:i=n
   ·subst e
    obtain ⟨q,hq,hg⟩:=hl
    rw [hq] at h
    cases hp:pre.get i with
    | none=>rw [hp] at h; exfalso; revert h; cases hqo:q.obj <;> simp_all
    | some p =>
     rw [hp] at h
     refine ⟨p,hp,fun hg2=>?_⟩
     simp only at h
     rw [hg2] at h
     revert h
     cases hqo:q.obj <;> simp_all
   ·exact goneIn_ok n h1 i (by omega) hl
  ·cases h
end Go.SX

namespace Go.SX
def FootBlk (s:Pact) (ρc:Env) (r:Nat):Prop:=∃ i p,s.st.heap.get i=some p∧((p.obj.real ρc∧ρc.blk i=r)∨p.obj.inner ρc r)
open Classical in
noncomputable def rest (s:Pact) (ρ ρc:Env) (w:World) (r:Nat):Option Obj:=if FootBlk s ρc r then none else match ρ.fz r with | some _=>none | none=>w.heap[r]?
theorem ownAll_ok {t:T Blk} (h:ownAll t=true) {i:Nat} {b:Blk} (hb:t.get i=some b):b.own=true:=T.all_get t h i b hb
theorem real_live {ρ:Env} {o:SObj} (h:o.real ρ):o≠.gone:=by rintro rfl; cases h
def backEnv (ρ ρ1:Env) (nv nb:Nat):Env:=⟨ρ.vs++ρ1.vs.drop nv,ρ.bs++ρ1.bs.drop nb,ρ1.fz⟩
theorem specNat0_ok {P:Program} {s:Pact} (hs:s.good=true) (hS:SpecOk P s):NatOk P ⟨s.fn,specEff0 s⟩:=by
 intro fs hf args st l hl B ρ w R hr hao hK
 simp only [specEff0] at hl
 split at hl
 case h_2=>cases hl
 rename_i hst
 split at hl
 case h_2=>cases hl
 case h_3=>cases hl
 rename_i z hz
 simp only [NatR.outs.injEq] at hl
 subst hl
 simp only [Pact.good,Bool.and_eq_true] at hs
 obtain ⟨g1,g2,g3,g4⟩:=hs
 have htm:s.tmpl.scp=true:=by
  simp only [Pact.tmpl,Tmpl.scp,Bool.and_eq_true]
  refine ⟨⟨g1,?_⟩,rfl⟩
  unfold tmScoped oneTm
  rw [T.all_node,SV.scoped_tup,g2]
  rfl
 have hT:TmRep ρ (oneTm (.tup args)) ⟨#[(SV.tup args).den ρ],[]⟩:=by
  refine ⟨rfl,fun i hi=>?_,fun i u hu=>?_⟩
  ·cases i with
   | zero=>cases hi
   | succ i=>simp
  ·cases i with
   | zero=>cases hu; exact ⟨_,rfl,.inr ⟨rfl,by simp only [SV.ok]; exact hao⟩⟩
   | succ i =>
    simp only [oneTm] at hu
    rw [T.get_succ] at hu
    split at hu <;> cases hu
 have h0:(Env.mk [] [] ρ.fz).Ext ρ:=⟨⟨ρ.vs,by simp⟩,⟨ρ.bs,by simp⟩,fun _ _ h=>h⟩
 obtain ⟨q1,q2,q3,q4,q5⟩:=fits_ok hf hz htm hr hT h0 rfl rfl
 obtain ⟨p1,p2,p3,p4,p5,p6,p7,p8⟩:=fits_parts hz
 have e0:s.tmpl.st=s.st:=rfl
 rw [e0] at p3 p4 p7 p8 q4
 rw [Nat.zero_add] at p3 p4
 rw [p2] at p7 p8
 have hargs:SV.dens ρ args=SV.dens (z.env ρ) s.args∧SV.oks (z.env ρ) s.args:=by
  obtain ⟨x,hx1,hx2⟩:=q5.2.2 0 (.tup s.args) rfl
  rcases hx2 with hx2 | ⟨hx2,hx3⟩
  ·cases hx2
  ·simp only [SV.den,List.getElem?_toArray,List.getElem?_cons_zero,Option.some.injEq] at hx1
   rw [hx2] at hx1
   simp only [SV.den,Value.tuple.injEq] at hx1
   exact ⟨by simpa using congrArg Array.toList hx1,by simpa [SV.ok] using hx3⟩
 obtain ⟨ha1,ha2⟩:=hargs
 rw [ha1]
 have hzf:(z.env ρ).fz=ρ.fz:=rfl
 have hown:∀ {i:Nat} {p:Blk},s.st.heap.get i=some p→p.own=true:=fun h=>ownAll_ok g3 h
 have hfoot:∀ {r:Nat},FootBlk s (z.env ρ) r→ρ.fz r=none∧B.fr r=none:=by
  rintro r ⟨i,p,hp,⟨hreal,rfl⟩ | hin⟩
  ·exact ((q4.blk i p hp).2.2 hreal).1 (hown hp)
  ·exact (q4.inn i p hp r hin).1
 have hBrest:∀ r o,B.fr r=some o→rest s ρ (z.env ρ) w r=some o:=by
  intro r o ho
  unfold rest
  rw [if_neg (fun h=>by rw [(hfoot h).2] at ho; cases ho),hr.dj r o ho]
  exact hr.fr r o ho
 have hrestW:∀ r o,rest s ρ (z.env ρ) w r=some o→w.heap[r]?=some o∧ρ.fz r=none∧¬ FootBlk s (z.env ρ) r:=by
  intro r o ho
  unfold rest at ho
  split at ho
  ·cases ho
  ·rename_i hn
   split at ho
   ·cases ho
   ·rename_i hf; exact ⟨ho,hf,hn⟩
 have hr':RepW ⟨B.w0,rest s ρ (z.env ρ) w⟩ (z.env ρ) s.st w:=by
  have hinn:Inn ⟨B.w0,rest s ρ (z.env ρ) w⟩ (z.env ρ) s.st.heap:=by
   intro i b hb r hbr
   obtain ⟨g1,g2⟩:=q4.inn i b hb r hbr
   refine ⟨⟨g1.1,?_⟩,g2⟩
   show rest s ρ (z.env ρ) w r=none
   unfold rest
   rw [if_pos ⟨i,b,hb,.inr hbr⟩]
  refine ⟨q4.nv,q4.nb,q4.pc,fun i b hb=>?_,q4.inj,hinn,q4.fz,fun r o ho=>(hrestW r o ho).1,fun r o ho=>(hrestW r o ho).2.1,q4.os,q4.tape,q4.output⟩
  obtain ⟨k1,k2,k3⟩:=q4.blk i b hb
  refine ⟨k1,k2,fun hl=>⟨fun _=>⟨((k3 hl).1 (hown hb)).1,?_⟩,fun _=>hown hb⟩⟩
  show rest s ρ (z.env ρ) w ((z.env ρ).blk i)=none
  unfold rest
  rw [if_pos ⟨i,b,hb,.inl ⟨hl,rfl⟩⟩]
 refine hS ⟨B.w0,rest s ρ (z.env ρ) w⟩ (z.env ρ) w R hr' ha2 ?_
 intro y hy ρ1 w' he1 hr1 hok1
 have hpg:=postsGood_ok _ g4 y hy
 simp only [postGood,Bool.and_eq_true,Nat.ble_eq] at hpg
 obtain ⟨t1,t2,t3,t4,t5,t6⟩:=hpg
 have hgone:=goneIn_ok _ t6
 obtain ⟨l1,hl1⟩:=he1.vs
 obtain ⟨m1,hm1⟩:=he1.bs
 have hv0:(z.env ρ).vs=z.es.map (E.den ρ):=by simp [Sub.env,p1]
 have hb0:(z.env ρ).bs=z.bs.map (fun b=>ρ.bs.getD b ⟨0,0,false⟩):=by simp [Sub.env,p2]
 have hvl:(z.env ρ).vs.length=s.st.nv:=q4.nv
 have hbl:(z.env ρ).bs.length=s.st.nb:=q4.nb
 have hd1:ρ1.vs.drop s.st.nv=l1:=by rw [hl1,← hvl]; simp
 have hd2:ρ1.bs.drop s.st.nb=m1:=by rw [hm1,← hbl]; simp
 have hl1n:l1.length=y.2.nv - s.st.nv:=by have:=hr1.nv; rw [hl1,List.length_append,hvl] at this; omega
 have hm1n:m1.length=y.2.nb - s.st.nb:=by have:=hr1.nb; rw [hm1,List.length_append,hbl] at this; omega
 obtain ⟨ρ',hρ'⟩:∃ ρ',ρ'=backEnv ρ ρ1 s.st.nv s.st.nb:=⟨_,rfl⟩
 have hvs':ρ'.vs=ρ.vs++l1:=by rw [hρ']; simp [backEnv,hd1]
 have hbs':ρ'.bs=ρ.bs++m1:=by rw [hρ']; simp [backEnv,hd2]
 have hfz':ρ'.fz=ρ1.fz:=by rw [hρ']; rfl
 have hext:ρ.Ext ρ':=⟨⟨l1,hvs'⟩,⟨m1,hbs'⟩,fun r o h=>by rw [hfz']; exact he1.fz r o h⟩
 obtain ⟨z',hz'⟩:∃ z',z'=postSub z st s.st y.2:=⟨_,rfl⟩
 have hz0:z'.n0=0:=by rw [hz']; rfl
 have hz1:z'.b0=0:=by rw [hz']; rfl
 have hzes:z'.es=z.es++varsFrom st.nv l1.length:=by rw [hz',hl1n]; rfl
 have hzbs:z'.bs=z.bs++natsFrom st.nb m1.length:=by rw [hz',hm1n]; rfl
 have henv:z'.env ρ'=ρ1:=by
  unfold Sub.env
  rw [hz0,hz1,hzes,hzbs,hfz']
  have a1:z.es.map (E.den ρ')=z.es.map (E.den ρ):=List.map_congr_left fun e he=>E.scoped_den hext e (by rw [hr.nv]; exact p5 e he)
  have a2:(varsFrom st.nv l1.length).map (E.den ρ')=l1:=varsFrom_den l1 _ ⟨ρ.vs,hvs',hr.nv⟩
  have a3:z.bs.map (fun b=>ρ'.bs.getD b ⟨0,0,false⟩)=z.bs.map (fun b=>ρ.bs.getD b ⟨0,0,false⟩):=List.map_congr_left fun b hb=>by
   rw [hbs']
   have:b < ρ.bs.length:=by rw [hr.nb]; exact p6 b hb
   simp [List.getD,List.getElem?_append_left this]
  have a4:(natsFrom st.nb m1.length).map (fun b=>ρ'.bs.getD b ⟨0,0,false⟩)=m1:=natsFrom_get m1 _ ⟨ρ.bs,hbs',hr.nb⟩
  simp only [List.take_zero,List.nil_append,List.map_append,a1,a2,a3,a4]
  rw [← hv0,← hb0,← hl1,← hm1]
 have hn':z'.n0≤ρ'.vs.length:=by rw [hz0]; exact Nat.zero_le _
 have hb':z'.b0≤ρ'.bs.length:=by rw [hz1]; exact Nat.zero_le _
 have hlenv:z'.n0 + z'.es.length=y.2.nv:=by rw [hz0,hzes,List.length_append,varsFrom_len,hl1n]; omega
 have hlenb:z'.b0 + z'.bs.length=y.2.nb:=by rw [hz1,hzbs,List.length_append,natsFrom_len,hm1n]; omega
 have hblkE:∀ i,i < y.2.nb→ρ'.blk (subBlk z'.b0 z'.bs i)=ρ1.blk i∧ρ'.off (subBlk z'.b0 z'.bs i)=ρ1.off i∧ρ'.nil (subBlk z'.b0 z'.bs i)=ρ1.nil i:=by
  intro i hi
  rw [← henv]
  exact ⟨(env_blk hb' i (by rw [hlenb]; exact hi)).symm,(env_off hb' i (by rw [hlenb]; exact hi)).symm,(env_nil hb' i (by rw [hlenb]; exact hi)).symm⟩
 have hsub1:∀ i,i < s.st.nb→subBlk 0 z'.bs i=subBlk 0 z.bs i:=by
  intro i hi
  unfold subBlk
  rw [hzbs]
  have hlt:¬ Nat.blt i 0=true:=by rw [blt_iff]; omega
  simp only [getI_eq,Nat.sub_zero,Nat.sub_eq]
  rw [List.getElem?_append_left (by rw [p4]; exact hi)]
 have hsub2:∀ j,j < m1.length→subBlk 0 z'.bs (s.st.nb + j)=st.nb + j:=by
  intro j hj
  unfold subBlk
  rw [hzbs]
  have hlt:¬ Nat.blt (s.st.nb + j) 0=true:=by rw [blt_iff]; omega
  simp only [getI_eq,Nat.sub_zero,Nat.sub_eq]
  rw [List.getElem?_append_right (by rw [p4]; omega)]
  have h1:s.st.nb + j - z.bs.length=j:=by rw [p4]; omega
  have h2:=natsFrom_getI m1.length st.nb j hj
  rw [getI_eq] at h2
  rw [h1,h2]
  split
  ·rename_i hh; exact absurd hh hlt
  ·rfl
 have hcase:∀ k b,(specPost z st s.st y).2.heap.get k=some b →
   (st.heap.get k=some b∧k < st.nb∧∀ m,Live s.st.heap m→subBlk 0 z.bs m≠k) ∨
   (∃ i,i < y.2.nb∧subBlk 0 z'.bs i=k∧k < st.nb + m1.length∧b=asBlk z' (y.2.heap.get i)∧(i < s.st.nb→Live s.st.heap i)):=by
  intro k b hk
  have hk':(insBlks z' y.2.heap m1.length s.st.nb st.nb (setBlks z' s.st.heap y.2.heap s.st.nb 0 st.heap)).get k=some b:=by
   rw [hm1n,hz']; exact hk
  rcases insBlks_get _ _ _ _ _ _ hk' with ⟨h1,h2⟩ | ⟨j,h1,h2,h3⟩
  ·rcases setBlks_get _ _ _ _ _ h1 with ⟨h3,h4⟩ | ⟨m,h3,h4,h5,h6,h7⟩
   ·left
    refine ⟨h3,(hr.blk k b h3).1,fun m hm=>?_⟩
    obtain ⟨p,hp,hg⟩:=hm
    have hlt:=(p7 m p hp hg).1
    rw [← hsub1 m hlt]
    exact h4 m (Nat.zero_le _) (by omega) ⟨p,hp,hg⟩
   ·right
    refine ⟨m,by omega,h6,?_,h7,fun _=>h5⟩
    obtain ⟨p,hp,hg⟩:=h5
    obtain ⟨hlt,x,hx,_⟩:=p7 m p hp hg
    rw [hsub1 m hlt] at h6
    have:=(hr.blk _ _ hx).1
    omega
  ·right
   refine ⟨s.st.nb + j,by omega,?_,by omega,h3,fun h=>by omega⟩
   rw [hsub2 j h1]; exact h2.symm
 have hreal1:∀ {i:Nat} {q:Blk},y.2.heap.get i=some q→((q.obj.sub z').real ρ'↔q.obj.real ρ1):=by
  intro i q hq
  rw [← henv]
  refine SObj.sub_real hn' hb' ?_
  rw [hlenv,hlenb]
  simp only [St.scp,Bool.and_eq_true] at t3
  exact T.all_get _ t3.2 i q hq
 have hfree1:∀ r,Free ⟨B.w0,rest s ρ (z.env ρ) w⟩ ρ1 r→Free B ρ' r:=by
  rintro r ⟨h1,h2⟩
  refine ⟨by rw [hfz']; exact h1,?_⟩
  cases hq:B.fr r with
  | none=>rfl
  | some o =>
   have h3:rest s ρ (z.env ρ) w r=none:=h2
   rw [hBrest r o hq] at h3; cases h3
 have hpinner:∀ {i:Nat} {p:Blk} {r:Nat},s.st.heap.get i=some p→p.obj.inner (z.env ρ) r→∃ x,st.heap.get (subBlk 0 z.bs i)=some x∧x.obj.inner ρ r:=by
  intro i p r hp hin
  have hg:p.obj≠.gone:=by intro e; rw [e] at hin; exact hin
  obtain ⟨_,x,hx,_,_,hxi⟩:=p7 i p hp hg
  refine ⟨x,hx,hxi ρ r ((SObj.sub_inner (by rw [p1]; exact Nat.zero_le _) (by rw [p2]; exact Nat.zero_le _) ?_).2 hin)⟩
  rw [p1,p2,Nat.zero_add,Nat.zero_add,p3,p4]
  simp only [St.scp,Bool.and_eq_true] at g1
  exact T.all_get _ g1.2 i p hp
 have hother:∀ k b,st.heap.get k=some b→(∀ m,Live s.st.heap m→subBlk 0 z.bs m≠k)→b.obj.real ρ→w'.heap[ρ.blk k]?=w.heap[ρ.blk k]?∧(b.own=true→rest s ρ (z.env ρ) w (ρ.blk k)≠none):=by
  intro k b hb hno hl
  obtain ⟨k1,k2,k3⟩:=hr.blk k b hb
  have hlt:=k2.lt hl
  have hsome:w.heap[ρ.blk k]?=some w.heap[ρ.blk k]:=Array.getElem?_eq_getElem hlt
  have hnf:b.own=true→¬ FootBlk s (z.env ρ) (ρ.blk k):=by
   rintro ob ⟨i,p,hp,⟨hreal,e⟩ | hpin⟩
   rotate_left
   ·obtain ⟨x,hx,hxr⟩:=hpinner hp hpin
    exact ((hr.inn _ x hx _ hxr).2 k b hb).1 hl rfl
   have hi:i < s.st.nb:=(p7 i p hp (real_live hreal)).1
   obtain ⟨_,x,hx,ho,hoe,_⟩:=p7 i p hp (real_live hreal)
   rw [env_blk (by rw [p2]; exact Nat.zero_le _) i (by rw [p2,p4]; omega),p2] at e
   have hxr:x.obj.real ρ:=by
    refine (hoe ρ w _ _ _ (hr.blk _ x hx).2.1).2 ?_
    refine (SObj.sub_real (by rw [p1]; exact Nat.zero_le _) (by rw [p2]; exact Nat.zero_le _) ?_).2 hreal
    rw [p1,p2,Nat.zero_add,Nat.zero_add,p3,p4]
    simp only [St.scp,Bool.and_eq_true] at g1
    exact T.all_get _ g1.2 i p hp
   exact hr.inj _ _ _ _ hx hb hxr hl (by rw [← ho]; exact hown hp) ob (hno i ⟨p,hp,real_live hreal⟩) e
  have hrest:rest s ρ (z.env ρ) w (ρ.blk k)≠none→w'.heap[ρ.blk k]?=w.heap[ρ.blk k]?:=by
   intro h
   cases hq:rest s ρ (z.env ρ) w (ρ.blk k) with
   | none=>exact absurd hq h
   | some o=>rw [hr1.fr _ o hq,(hrestW _ o hq).1]
  cases ob:b.own with
  | true =>
   have hfree:=(k3 hl).1 ob
   have hne:rest s ρ (z.env ρ) w (ρ.blk k)≠none:=by
    unfold rest
    rw [if_neg (hnf ob),hfree.1]
    simp only [hsome]
    exact fun h=>by cases h
   exact ⟨hrest hne,fun _=>hne⟩
  | false =>
   refine ⟨?_,fun h=>by cases h⟩
   have hnfree:¬ Free B ρ (ρ.blk k):=fun h=>by have:=(k3 hl).2 h; rw [ob] at this; cases this
   cases hq:ρ.fz (ρ.blk k) with
   | some o =>
    rw [hr.fz _ o hq,hr1.fz _ o (he1.fz _ o hq)]
   | none =>
    cases hq2:B.fr (ρ.blk k) with
    | none=>exact absurd ⟨hq,hq2⟩ hnfree
    | some o=>exact hrest (by rw [hBrest _ o hq2]; exact fun h=>by cases h)
 have hscpE:st.scp=true:=hst
 have hother2:∀ k b,st.heap.get k=some b→(∀ m,Live s.st.heap m→subBlk 0 z.bs m≠k)→∀ r,b.obj.inner ρ r→w'.heap[r]?=w.heap[r]?∧rest s ρ (z.env ρ) w r≠none:=by
  intro k b hb hno r hbr
  obtain ⟨f1,f2⟩:=hr.inn k b hb r hbr
  have hsome:w.heap[r]?=some (w.heap[r]'((hr.blk k b hb).2.1.inner_lt hbr)):=Array.getElem?_eq_getElem _
  have hnf:¬ FootBlk s (z.env ρ) r:=by
   rintro ⟨i,p,hp,⟨hreal,e⟩ | hpin⟩
   ·have hi:i < s.st.nb:=(p7 i p hp (real_live hreal)).1
    obtain ⟨_,x,hx,ho,hoe,_⟩:=p7 i p hp (real_live hreal)
    rw [env_blk (by rw [p2]; exact Nat.zero_le _) i (by rw [p2,p4]; omega),p2] at e
    have hxr:x.obj.real ρ:=by
     refine (hoe ρ w _ _ _ (hr.blk _ x hx).2.1).2 ?_
     refine (SObj.sub_real (by rw [p1]; exact Nat.zero_le _) (by rw [p2]; exact Nat.zero_le _) ?_).2 hreal
     rw [p1,p2,Nat.zero_add,Nat.zero_add,p3,p4]
     simp only [St.scp,Bool.and_eq_true] at g1
     exact T.all_get _ g1.2 i p hp
    exact (f2 _ x hx).1 hxr e
   ·obtain ⟨x,hx,hxr⟩:=hpinner hp hpin
    have hg:p.obj≠.gone:=by intro e; rw [e] at hpin; exact hpin
    exact (f2 _ x hx).2 (hno i ⟨p,hp,hg⟩) hxr
  have hne:rest s ρ (z.env ρ) w r=some (w.heap[r]'((hr.blk k b hb).2.1.inner_lt hbr)):=by
   unfold rest
   rw [if_neg hnf,f1.1]
   exact hsome
  refine ⟨?_,by rw [hne]; exact fun h=>by cases h⟩
  rw [hr1.fr _ _ hne,hsome]
 have hinn1:∀ {i:Nat} {q:Blk} {r:Nat},y.2.heap.get i=some q→((q.obj.sub z').inner ρ' r↔q.obj.inner ρ1 r):=by
  intro i q r hq
  rw [← henv]
  refine SObj.sub_inner hn' hb' ?_
  rw [hlenv,hlenb]
  simp only [St.scp,Bool.and_eq_true] at t3
  exact T.all_get _ t3.2 i q hq
 have hasIn:∀ {i r:Nat},(asBlk z' (y.2.heap.get i)).obj.inner ρ' r→∃ q,y.2.heap.get i=some q∧q.obj.inner ρ1 r:=by
  intro i r h
  cases hq:y.2.heap.get i with
  | none=>rw [hq] at h; exact h.elim
  | some q=>rw [hq] at h; exact ⟨q,rfl,(hinn1 hq).1 h⟩
 have hasReal:∀ {i:Nat},(asBlk z' (y.2.heap.get i)).obj.real ρ'→∃ q,y.2.heap.get i=some q∧q.obj.real ρ1:=by
  intro i h
  cases hq:y.2.heap.get i with
  | none=>rw [hq] at h; exact h.elim
  | some q=>rw [hq] at h; exact ⟨q,rfl,(hreal1 hq).1 h⟩
 have hinnF:Inn B ρ' (specPost z st s.st y).2.heap:=by
  intro k b hk r hbr
  rcases hcase k b hk with ⟨h1,h2,h3⟩ | ⟨i,h1,h2,h3,h4,h5⟩
  ·have hsc:=hr.blk_scp hscpE h1
   have hbr':=(SObj.inner_ext hext hsc).1 hbr
   obtain ⟨f1,f2⟩:=hr.inn k b h1 r hbr'
   obtain ⟨w1,w2⟩:=hother2 k b h1 h3 r hbr'
   refine ⟨⟨?_,f1.2⟩,fun j b' hj=>?_⟩
   ·rw [hfz']
    cases hq:rest s ρ (z.env ρ) w r with
    | none=>exact absurd hq w2
    | some o=>exact hr1.dj _ o hq
   ·rcases hcase j b' hj with ⟨m1',m2',m3'⟩ | ⟨i',m1',m2',m3',m4',m5'⟩
    ·have hsc':=hr.blk_scp hscpE m1'
     have hlt:j < ρ.bs.length:=by rw [hr.nb]; exact m2'
     obtain ⟨u1,u2⟩:=f2 j b' m1'
     exact ⟨fun hl=>by rw [hext.blk hlt]; exact u1 ((SObj.real_ext hext hsc').1 hl),fun hjk hx=>u2 hjk ((SObj.inner_ext hext hsc').1 hx)⟩
    ·rw [m4']
     refine ⟨fun hl e=>?_,fun _ hx=>?_⟩
     ·obtain ⟨q,hq,hql⟩:=hasReal hl
      obtain ⟨_,_,k3⟩:=hr1.blk i' q hq
      have hfree:=(k3 hql).1 (ownAll_ok t5 hq)
      obtain ⟨e1,_,_⟩:=hblkE i' m1'
      rw [hz1,m2'] at e1
      rw [e1] at e
      rw [e] at hfree
      exact w2 hfree.2
     ·obtain ⟨q,hq,hqr⟩:=hasIn hx
      exact w2 (hr1.inn i' q hq r hqr).1.2
  ·rw [h4] at hbr
   obtain ⟨q,hq,hqr⟩:=hasIn hbr
   obtain ⟨f1,f2⟩:=hr1.inn i q hq r hqr
   have hf:=hfree1 r f1
   refine ⟨hf,fun j b' hj=>?_⟩
   rcases hcase j b' hj with ⟨m1',m2',m3'⟩ | ⟨i',m1',m2',m3',m4',m5'⟩
   ·have hsc':=hr.blk_scp hscpE m1'
    have hlt:j < ρ.bs.length:=by rw [hr.nb]; exact m2'
    refine ⟨fun hl e=>?_,fun _ hx=>?_⟩
    ·have hl':=(SObj.real_ext hext hsc').1 hl
     rw [hext.blk hlt] at e
     obtain ⟨_,_,k3⟩:=hr.blk j b' m1'
     have hfr:Free B ρ (ρ.blk j):=by
      rw [e]
      refine ⟨?_,hf.2⟩
      cases hq2:ρ.fz r with
      | none=>rfl
      | some o=>have:=hf.1; rw [hfz',he1.fz _ o hq2] at this; cases this
     have:=(hother j b' m1' m3' hl').2 ((k3 hl').2 hfr)
     rw [e] at this
     exact this f1.2
    ·exact (hother2 j b' m1' m3' r ((SObj.inner_ext hext hsc').1 hx)).2 f1.2
   ·rw [m4']
    refine ⟨fun hl e=>?_,fun hjk hx=>?_⟩
    ·obtain ⟨q',hq',hql⟩:=hasReal hl
     obtain ⟨e1,_,_⟩:=hblkE i' m1'
     rw [hz1,m2'] at e1
     rw [e1] at e
     exact (f2 i' q' hq').1 hql e
    ·obtain ⟨q',hq',hqr'⟩:=hasIn hx
     exact (f2 i' q' hq').2 (fun e=>hjk (by rw [← m2',← h2,e])) hqr'
 have hrep:RepW B ρ' (specPost z st s.st y).2 w':=by
  refine ⟨?_,?_,?_,?_,?_,hinnF,?_,?_,?_,hr1.os,hr1.tape,hr1.output⟩
  ·rw [hvs',List.length_append,hr.nv,hl1n]; rfl
  ·rw [hbs',List.length_append,hr.nb,hm1n]; rfl
  ·intro e he
   have he':e∈pcSub z' st.pc y.2.pc:=by rw [hz']; exact he
   rcases pcSub_mem _ _ he' with ⟨x,hx,rfl⟩ | he
   ·rw [E.sub_B hn' (by rw [hlenv]; simp only [St.scp,Bool.and_eq_true] at t3; exact mem_pcScoped _ t3.1 x hx),henv]
    exact hr1.pc x hx
   ·exact hr.ext_pc hscpE hext e he
  ·intro k b hk
   rcases hcase k b hk with ⟨h1,h2,h3⟩ | ⟨i,h1,h2,h3,h4,h5⟩
   ·have hsc:=hr.blk_scp hscpE h1
    obtain ⟨k1,k2,k3⟩:=hr.blk k b h1
    have hlt:k < ρ.bs.length:=by rw [hr.nb]; exact h2
    refine ⟨by show k < Nat.add st.nb _; simp; omega,?_,fun hl=>?_⟩
    ·rw [hext.blk hlt,hext.off hlt,hext.nil hlt]
     exact (k2.ext hext hsc).world (fun hl=>(hother k b h1 h3 ((SObj.real_ext hext hsc).1 hl)).1) (fun x hx=>(hother2 k b h1 h3 x ((SObj.inner_ext hext hsc).1 hx)).1)
    ·have hl':=(SObj.real_ext hext hsc).1 hl
     rw [hext.blk hlt]
     obtain ⟨w1,w2⟩:=hother k b h1 h3 hl'
     constructor
     ·intro ob
      have hfree:=(k3 hl').1 ob
      refine ⟨?_,hfree.2⟩
      rw [hfz']
      cases hq:rest s ρ (z.env ρ) w (ρ.blk k) with
      | none=>exact absurd hq (w2 ob)
      | some o=>exact hr1.dj _ o hq
     ·rintro ⟨hf1,hf2⟩
      refine (k3 hl').2 ⟨?_,hf2⟩
      cases hq:ρ.fz (ρ.blk k) with
      | none=>rfl
      | some o=>rw [hfz',he1.fz _ o hq] at hf1; cases hf1
   ·refine ⟨?_,?_,?_⟩
    ·show k < Nat.add st.nb _
     rw [hm1n] at h3
     exact h3
    ·cases hq:y.2.heap.get i with
     | none=>rw [h4,hq]; trivial
     | some q =>
      rw [h4,hq]
      obtain ⟨k1,k2,k3⟩:=hr1.blk i q hq
      obtain ⟨e1,e2,e3⟩:=hblkE i h1
      rw [hz1,h2] at e1 e2 e3
      rw [e1,e2,e3]
      refine SObj.rep_sub hn' hb' ?_ (by rw [henv]; exact k2)
      rw [hlenv,hlenb]
      simp only [St.scp,Bool.and_eq_true] at t3
      exact T.all_get _ t3.2 i q hq
    ·intro hl
     cases hq:y.2.heap.get i with
     | none=>rw [h4,hq] at hl; cases hl
     | some q =>
      rw [h4,hq] at hl ⊢
      have hl':=(hreal1 hq).1 hl
      obtain ⟨k1,k2,k3⟩:=hr1.blk i q hq
      obtain ⟨e1,_,_⟩:=hblkE i h1
      rw [hz1,h2] at e1
      rw [e1]
      exact ⟨fun _=>hfree1 _ ((k3 hl').1 (ownAll_ok t5 hq)),fun _=>rfl⟩
  ·intro i j a b ha hb la lb oa ob hij
   have key:∀ k k' c d,st.heap.get k=some c→k < st.nb→(∀ m,Live s.st.heap m→subBlk 0 z.bs m≠k)→c.own=true→c.obj.real ρ'→∀ i',i' < y.2.nb→subBlk 0 z'.bs i'=k'→d=asBlk z' (y.2.heap.get i')→d.obj.real ρ'→ρ'.blk k≠ρ'.blk k':=by
    intro k k' c d hc hk hno oc lc i' hi' hk' hd ld e
    have hsc:=hr.blk_scp hscpE hc
    have lc':=(SObj.real_ext hext hsc).1 lc
    have hlt:k < ρ.bs.length:=by rw [hr.nb]; exact hk
    cases hq:y.2.heap.get i' with
    | none=>rw [hd,hq] at ld; cases ld
    | some q =>
     rw [hd,hq] at ld
     have ld':=(hreal1 hq).1 ld
     obtain ⟨_,_,k3⟩:=hr1.blk i' q hq
     have hfree:=(k3 ld').1 (ownAll_ok t5 hq)
     obtain ⟨e1,_,_⟩:=hblkE i' hi'
     rw [hz1,hk'] at e1
     rw [hext.blk hlt,e1] at e
     exact (hother k c hc hno lc').2 oc (by rw [e]; exact hfree.2)
   rcases hcase i a ha with ⟨h1,h2,h3⟩ | ⟨i',h1,h2,h3,h4,h5⟩
   ·rcases hcase j b hb with ⟨h1',h2',h3'⟩ | ⟨j',h1',h2',h3',h4',h5'⟩
    ·have hlt:i < ρ.bs.length:=by rw [hr.nb]; exact h2
     have hlt':j < ρ.bs.length:=by rw [hr.nb]; exact h2'
     rw [hext.blk hlt,hext.blk hlt']
     exact hr.inj i j a b h1 h1' ((SObj.real_ext hext (hr.blk_scp hscpE h1)).1 la) ((SObj.real_ext hext (hr.blk_scp hscpE h1')).1 lb) oa ob hij
    ·exact key i j a b h1 h2 h3 oa la j' h1' h2' h4' lb
   ·rcases hcase j b hb with ⟨h1',h2',h3'⟩ | ⟨j',h1',h2',h3',h4',h5'⟩
    ·exact fun e=>key j i b a h1' h2' h3' ob lb i' h1 h2 h4 la e.symm
    ·cases hq:y.2.heap.get i' with
     | none=>rw [h4,hq] at la; cases la
     | some q =>
      cases hq':y.2.heap.get j' with
      | none=>rw [h4',hq'] at lb; cases lb
      | some q' =>
       rw [h4,hq] at la
       rw [h4',hq'] at lb
       obtain ⟨e1,_,_⟩:=hblkE i' h1
       obtain ⟨e2,_,_⟩:=hblkE j' h1'
       rw [hz1,h2] at e1
       rw [hz1,h2'] at e2
       rw [e1,e2]
       refine hr1.inj i' j' q q' hq hq' ((hreal1 hq).1 la) ((hreal1 hq').1 lb) (ownAll_ok t5 hq) (ownAll_ok t5 hq') fun e=>?_
       subst e
       exact hij (h2.symm.trans h2')
  ·intro r o ho
   rw [hfz'] at ho
   exact hr1.fz r o ho
  ·intro r o ho
   exact hr1.fr r o (hBrest r o ho)
  ·intro r o ho
   rw [hfz']
   exact hr1.dj r o (hBrest r o ho)
 have hden:((specPost z st s.st y).1).den ρ'=y.1.den ρ1:=by
  show (y.1.sub (postSub z st s.st y.2)).den ρ'=_
  rw [← hz',SV.sub_den hn' hb' _ (by rw [hlenv,hlenb]; exact t4),henv]
 have hok:((specPost z st s.st y).1).ok ρ':=by
  show (y.1.sub (postSub z st s.st y.2)).ok ρ'
  rw [← hz',SV.sub_ok hn' hb' _ (by rw [hlenv,hlenb]; exact t4),henv]
  exact hok1
 rw [← hden]
 exact hK _ (specPosts_mem _ y hy) ρ' w' hext hrep hok
theorem outsFit_ok {tb:Tab} {s:Pact}:∀ (os:List Out),outsFit tb s os=true→∀ o∈os,∃ v l r,o.tmps=.node v l r∧likeOne tb.facts s.st.nv s.st.nb (oneTm v) o.st (asTms s.posts)=true
 | [],_,o,ho=>by cases ho
 | x::xs,h,o,ho=>by
  simp only [outsFit] at h
  split at h
  ·rename_i v l r hx
   split at h
   ·rename_i hl
    cases ho with
    | head=>exact ⟨v,l,r,hx,hl⟩
    | tail _ hm=>exact outsFit_ok xs h o hm
   ·cases h
  ·cases h
theorem lives_mem {fs:List E} {ρ:Env} (hf:∀ e∈fs,∀ ρ,e.B ρ=true):∀ {l:List (SV × St)} {p:SV × St},p∈l→(∀ e∈p.2.pc,e.B ρ=true)→p∈lives fs l:=by
 intro l p hp hpc
 induction l with
 | nil=>cases hp
 | cons q qs ih =>
  unfold lives
  rcases List.mem_cons.1 hp with rfl | hp
  ·have:liveO fs p=true:=by
    unfold liveO
    split
    ·rfl
    ·rename_i c rest hcr
     split
     ·rename_i b hb
      have h1:=knownE_ok (ρ:=ρ) hf (fun e he=>hpc e (by rw [hcr]; exact List.mem_cons_of_mem _ he)) hb
      have h2:=hpc c (by rw [hcr]; exact List.mem_cons_self ..)
      rw [mkNot_B,h2] at h1; rw [← h1]; rfl
     ·rfl
   rw [this]; exact List.mem_cons_self ..
  ·have:=ih hp
   split
   ·exact List.mem_cons_of_mem _ this
   ·exact this
theorem specNat_ok {P:Program} {s:Pact} (hs:s.good=true) (hS:SpecOk P s):NatOk P (specNat s):=by
 intro fs hf args st l hl B ρ w R hr hao hK
 obtain ⟨h1,h2⟩:=SV.norms_ok hr args
 have hl':specEff s fs args st=.outs l:=hl
 unfold specEff at hl'
 split at hl'
 ·rename_i l0 hl0
  simp only [NatR.outs.injEq] at hl'
  subst hl'
  have:=specNat0_ok hs hS fs hf (SV.norms st.heap args) st.norm l0 hl0 B ρ w R hr.norm (h2 hao) (fun p hp ρ' w' hx hrep=>hK p (lives_mem hf hp hrep.pc) ρ' w' hx hrep)
  rw [h1] at this
  exact this
 ·cases hl'
 ·cases hl'
theorem spec_of_check {P:Program} (hP:progOk P=true) {facts:List E} (hf:∀ e∈facts,∀ ρ,e.B ρ=true) {anns:List Ann} (ha:∀ x∈anns,LoopOk P x) {nats:List Nat1} (hn:∀ x∈nats,NatOk P x) {n:Nat} {s:Pact}
  (h:withTab P (fun tb=>specCheck P (tb.plus facts anns nats) n s)=true):NatOk P (specNat s):=by
 rw [withTab_eq] at h
 unfold specCheck at h
 split at h
 case h_2=>cases h
 rename_i hg
 split at h
 case h_2=>cases h
 rename_i os hos
 refine specNat_ok hg ?_
 intro B ρ w R hr hao hK
 refine (run_plus hP hf ha hn n).call _ _ _ _ _ _ hos B ρ w _ hr hao ?_
 intro o ρ' w' os' v l r e1 e2 e3 e4 e5 e6
 simp only [Option.some.injEq] at e1
 obtain ⟨v',l',r',k1,k2⟩:=outsFit_ok _ h o (e2 o (by rw [← e1]; simp))
 rw [e5] at k1
 simp only [T.node.injEq] at k1
 obtain ⟨rfl,_,_⟩:=k1
 have hT:TmRep ρ' (oneTm v) ⟨#[v.den ρ'],[]⟩:=by
  refine ⟨rfl,fun i hi=>?_,fun i u hu=>?_⟩
  ·cases i with
   | zero=>cases hi
   | succ i=>simp
  ·cases i with
   | zero=>cases hu; exact ⟨_,rfl,.inr ⟨rfl,e6⟩⟩
   | succ i =>
    simp only [oneTm] at hu
    rw [T.get_succ] at hu
    split at hu <;> cases hu
 obtain ⟨y,hy,ρ3,j1,j2,j3⟩:=likeOne_ok (ρ0:=ρ) hf e4 hT e3 hr.nv hr.nb _ k2
 obtain ⟨x,hx,hj,rfl⟩:=asTms_mem _ _ hy
 obtain ⟨u,hu1,hu2⟩:=j3.2.2 0 x.1 rfl
 rcases hu2 with hu2 | ⟨hu2,hu3⟩
 ·exact absurd hu2 hj
 ·have:v.den ρ'=x.1.den ρ3:=by
   rw [← hu2]
   simpa using hu1
  rw [this]
  exact hK x hx ρ3 w' j1 j2 hu3
end Go.SX

namespace Go.SX
theorem frzAll_mem {kss:List (List CK)} {fs:List E}:∀ {l:List (SV × St)} {p:SV × St},p∈l→frzP kss fs p∈frzAll kss fs l
 | q::l,p,h=>by
  rcases List.mem_cons.1 h with e | e
  ·subst e; exact List.mem_cons_self
  ·exact List.mem_cons_of_mem _ (frzAll_mem e)
theorem frzNat_ok {P:Program} {kss:List (List CK)} {x:Nat1} (h:NatOk P x):NatOk P (frzNat kss x):=by
 intro fs hf args st l hl B ρ w R hr ha hK
 have hl':frzEff kss x fs args st=.outs l:=hl
 unfold frzEff at hl'
 split at hl'
 ·rename_i l0 e
  simp only [NatR.outs.injEq] at hl'; subst hl'
  refine h fs hf args st l0 e B ρ w R hr ha ?_
  intro y hy ρ' w' hx hrep hok
  obtain ⟨ρ2,hx2,hr2,ho2,hd2⟩:=frzP_ok (kss:=kss) hf hrep hok
  have:=hK _ (frzAll_mem hy) ρ2 w' (hx.trans hx2) hr2 ho2
  rw [hd2] at this
  exact this
 ·cases hl'
 ·cases hl'
end Go.SX

namespace Go.SX
def BodyOk (P:Program) (x:Ann) (y:LoopX) (less:E) (tmps:Tm) (st:St):Prop :=
 ∀ b,OfFn P x.fn (.loop b)→keyOf b=some x.key→∀ (B:Base) (ρ0 ρ:Env) (a:Act) (w:World) (Q:Exit→Act→World→Prop),ρ0.vs.length=y.n0→ρ0.bs.length=y.b0→ρ0.Ext ρ→RepW B ρ st w→TmRep ρ tmps a →
  (∀ τ∈x.ts,∀ (ρ':Env) (a':Act) (w':World),ρ0.Ext ρ'→RepW B ρ' τ.st w'→TmRep ρ' τ.tmps a'→τ.less.I ρ' < less.I ρ→0≤τ.less.I ρ'→Q .normal a' w') →
  (∀ o∈y.xs,∀ (ρ':Env) (a':Act) (w':World),ρ0.Ext ρ'→RepW B ρ' o.st w'→TmRep ρ' o.tmps a'→Q (exOf o.ex) a' w')→b.wp P Q a w
theorem loopsIn_ok {key:Nat} {b:Code} (hk:keyOf b=some key) {c:Code} (h:InC (.loop b) c):b∈loopsIn key c:=by
 induction h with
 | refl=>simp [loopsIn,hk]
 | seqL _ ih=>simp only [loopsIn,List.mem_append]; exact .inl ih
 | seqR _ ih=>simp only [loopsIn,List.mem_append]; exact .inr ih
 | condL _ ih=>simp only [loopsIn,List.mem_append]; exact .inl ih
 | condR _ ih=>simp only [loopsIn,List.mem_append]; exact .inr ih
 | block _ ih=>simp only [loopsIn]; exact ih
 | loop _ ih =>
  simp only [loopsIn]
  split
  ·split
   ·exact List.mem_cons_of_mem _ ih
   ·exact ih
  ·exact ih
theorem exB_eq {a b:Ex} (h:exB a b=true):a=b:=by
 cases a <;> cases b <;> simp [exB] at h <;> first | rfl | rw [h]
theorem exitTs_mem {e:Ex}:∀ (l:List Out) (τ:Tmpl),τ∈exitTs e l→∃ x∈l,x.ex=e∧τ=⟨x.tmps,x.st,.int 0⟩
 | [],τ,h=>by cases h
 | x::xs,τ,h=>by
  simp only [exitTs] at h
  split at h
  ·rename_i hb
   cases h with
   | head=>exact ⟨x,by simp,(exB_eq hb).symm,rfl⟩
   | tail _ hm=>obtain ⟨y,h1,h2⟩:=exitTs_mem xs τ hm; exact ⟨y,List.mem_cons_of_mem _ h1,h2⟩
  ·obtain ⟨y,h1,h2⟩:=exitTs_mem xs τ h; exact ⟨y,List.mem_cons_of_mem _ h1,h2⟩
theorem exitsTs_mem:∀ (l:List Out) (x:Out),x∈l→(⟨x.tmps,x.st,.int 0⟩:Tmpl)∈exitsTs l
 | [],x,h=>by cases h
 | y::ys,x,h=>by
  simp only [exitsTs]
  cases h with
  | head=>simp
  | tail _ hm=>exact List.mem_cons_of_mem _ (exitsTs_mem ys x hm)
theorem body_of_check {P:Program} (hP:progOk P=true) {facts:List E} (hf:∀ e∈facts,∀ ρ,e.B ρ=true) {anns:List Ann} (ha:∀ x∈anns,LoopOk P x) {nats:List Nat1} (hn:∀ x∈nats,NatOk P x) {n:Nat}
  {x:Ann} {y:LoopX} {less:E} {tmps:Tm} {st:St} (h:withTab P (fun tb=>bodyCheck P (tb.plus facts anns nats) n x.fn x.key y.n0 y.b0 x.ts y.xs less tmps st)=true) (hs3:less.scp st.nv=true):BodyOk P x y less tmps st:=by
 intro b hof hk B ρ0 ρ a w Q hn0 hb0 he hr hT hN hX
 rw [withTab_eq] at h
 have ht:=(theTab_ok P).plus hf anns nats
 unfold bodyCheck at h
 split at h
 case h_2=>cases h
 rename_i fn hfn
 split at h
 case h_2=>cases h
 rename_i c hc
 split at h
 case h_2=>cases h
 rename_i b' hb'
 split at h
 case h_2=>cases h
 rename_i hscp
 simp only [Bool.and_eq_true] at hscp
 obtain ⟨hs1,hs2⟩:=hscp
 have hbb:b=b':=by
  obtain ⟨fn',c',h1,h2,h3⟩:=hof
  have h4:=ht.fn _ _ hfn
  rw [h1] at h4
  simp only [Option.some.injEq] at h4; subst h4
  rw [h2] at hc
  simp only [Option.some.injEq] at hc; subst hc
  have:=loopsIn_ok hk h3
  rw [hb'] at this
  simpa using this
 subst hbb
 unfold isSomeR at h
 split at h
 case h_2=>cases h
 rename_i os hos
 refine (run_plus hP hf ha hn n).code _ _ _ _ _ _ (hof.part (.loop (.refl b))) hos B ρ a w Q hr hT ?_
 intro o ρ' a' w' os' h1 h2 h3 h4 h5
 have hfacts:∀ e∈((theTab P).plus facts anns nats).facts,∀ ρ,e.B ρ=true:=ht.facts
 unfold bodyK at h1
 have leave:∀ {r:Res},fitRes o.tmps o.st (fitsAny ((theTab P).plus facts anns nats).facts y.n0 y.b0 o.tmps o.st none (exitTs o.ex y.xs) none) r=some os'→Q (exOf o.ex) a' w':=by
  intro r hh
  obtain ⟨⟨z,hz⟩,_⟩:=fitRes_ok hh
  obtain ⟨τ,hτ,hfit,_⟩:=fitsAny_ok _ _ hz
  obtain ⟨o2,ho2,e1,rfl⟩:=exitTs_mem _ _ hτ
  obtain ⟨_,_,hsc⟩:=tmplsScp_ok _ hs2 _ (exitsTs_mem _ _ ho2)
  obtain ⟨k1,k2,k3,k4,k5⟩:=fitsN_ok hfacts hfit hsc h4 h5 (he.trans h3) hn0 hb0
  rw [← e1]
  exact hX o2 ho2 _ a' w' k3 k4 k5
 cases hex:o.ex with
 | normal =>
  rw [hex] at h1
  obtain ⟨⟨z,hz⟩,_⟩:=fitRes_ok h1
  obtain ⟨τ,hτ,hfit,hbd⟩:=fitsAny_ok _ _ hz
  obtain ⟨_,_,hsc⟩:=tmplsScp_ok _ hs1 τ hτ
  obtain ⟨k1,k2,k3,k4,k5⟩:=fitsN_ok hfacts hfit hsc h4 h5 (he.trans h3) hn0 hb0
  obtain ⟨j1,j2⟩:=hbd _ rfl
  have j1':=ltE_ok hfacts h4.pc j1
  have j2':=nonneg_ok hfacts h4.pc j2
  have hzn:z.n0≤ρ'.vs.length:=by
   obtain ⟨l,hl⟩:=(he.trans h3).vs
   rw [k1,← hn0,hl]; simp
  have hls:τ.less.scp (z.n0 + z.es.length)=true:=by
   simp only [Tmpl.scp,Bool.and_eq_true] at hsc
   rw [k1,Nat.add_comm,k2]; exact hsc.2
  rw [E.sub_I hzn hls] at j1' j2'
  rw [E.scoped_I h3 (by rw [hr.nv]; exact hs3)] at j1'
  exact hN τ hτ _ a' w' k3 k4 k5 j1' j2'
 | exit i=>rw [hex] at h1; have:=leave (by rw [hex]; exact h1); rw [hex] at this; exact this
 | ret=>rw [hex] at h1; have:=leave (by rw [hex]; exact h1); rw [hex] at this; exact this
theorem BodyOk.cases {P:Program} {x:Ann} {y:LoopX} {less:E} {tmps:Tm} {st:St} (c:E) (h1:BodyOk P x y less tmps { st with pc:=c::st.pc }) (h2:BodyOk P x y less tmps { st with pc:=.not c::st.pc }):BodyOk P x y less tmps st:=by
 intro b hof hk B ρ0 ρ a w Q hn0 hb0 he hr hT hN hX
 by_cases hb:c.B ρ=true
 ·exact h1 b hof hk B ρ0 ρ a w Q hn0 hb0 he (hr.assume hb) hT hN hX
 ·refine h2 b hof hk B ρ0 ρ a w Q hn0 hb0 he (hr.assume ?_) hT hN hX
  show (!(c.B ρ))=true
  simpa using hb
def noNormal:List Out→Bool
 | []=>true
 | o::os=>match o.ex with
  | .normal=>false
  | _=>noNormal os
theorem noNormal_ok:∀ (l:List Out),noNormal l=true→∀ o∈l,o.ex≠.normal
 | [],_,o,ho=>by cases ho
 | x::xs,h,o,ho=>by
  simp only [noNormal] at h
  split at h
  ·cases h
  ·rename_i hn
   cases ho with
   | head=>exact hn
   | tail _ hm=>exact noNormal_ok xs h o hm
open Classical in
theorem loop_of_bodies {P:Program} {x:Ann} {y:LoopX} (hxy:x.known=some y) (hxs:noNormal y.xs=true) (h:∀ τ∈x.ts,BodyOk P x y τ.less τ.tmps τ.st):LoopOk P x:=by
 intro y' hy' b hof hk B ρ0 a w Q hn0 hb0 hent hX
 rw [hxy] at hy'
 simp only [Option.some.injEq] at hy'; subst hy'
 let M:Act→World→Nat→Prop:=fun a w m=>∃ τ∈x.ts,∃ ρ',ρ0.Ext ρ'∧RepW B ρ' τ.st w∧TmRep ρ' τ.tmps a∧m=(τ.less.I ρ').toNat
 let μ:Act→World→Nat:=fun a w=>if h:∃ m,M a w m then Classical.choose (least h) else 0
 have hμ:∀ {a w},(∃ m,M a w m)→M a w (μ a w)∧∀ m,M a w m→μ a w≤m:=by
  intro a w hex
  have hs:=Classical.choose_spec (least hex)
  have:μ a w=Classical.choose (least hex):=dif_pos hex
  rw [this]; exact hs
 refine wp_loop (fun a w=>∃ m,M a w m) μ ?_ ?_
 ·obtain ⟨τ,hτ,ρ',h1,h2,h3⟩:=hent
  exact ⟨_,τ,hτ,ρ',h1,h2,h3,rfl⟩
 ·intro a1 w1 hI
  obtain ⟨⟨τ,hτ,ρ',h1,h2,h3,h4⟩,_⟩:=hμ hI
  refine h τ hτ b hof hk B ρ0 ρ' a1 w1 _ hn0 hb0 h1 h2 h3 ?_ ?_
  ·intro τ2 hτ2 ρ2 a2 w2 k1 k2 k3 k4 k5
   have hM:M a2 w2 (τ2.less.I ρ2).toNat:=⟨τ2,hτ2,ρ2,k1,k2,k3,rfl⟩
   refine ⟨⟨_,hM⟩,?_⟩
   have hle:=(hμ ⟨_,hM⟩).2 _ hM
   omega
  ·intro o ho ρ2 a2 w2 k1 k2 k3
   have:=hX o ho ρ2 a2 w2 k1 k2 k3
   cases hex:o.ex with
   | normal=>rw [hex] at this; exact absurd hex (noNormal_ok _ hxs o ho)
   | exit i=>rw [hex] at this; exact this
   | ret=>rw [hex] at this; exact this
theorem loopOk_none {P:Program} {x:Ann} (h:x.known=none):LoopOk P x:=fun y hy=>by rw [h] at hy; cases hy
def plainAnns:List Ann→Bool
 | []=>true
 | x::xs=>match x.known with
  | none=>plainAnns xs
  | some _=>false
theorem plainAnns_ok {P:Program}:∀ (l:List Ann),plainAnns l=true→∀ x∈l,LoopOk P x
 | [],_,x,hx=>by cases hx
 | y::ys,h,x,hx=>by
  simp only [plainAnns] at h
  split at h
  ·rename_i hn
   cases hx with
   | head=>exact loopOk_none hn
   | tail _ hm=>exact plainAnns_ok ys h x hm
  ·cases h
end Go.SX
