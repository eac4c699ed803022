/-
  The symbolic executor is right: whatever the model's code does is among the outcomes that were aed.
-/
import Derived.Test.YtnggbcblogpnfaaGreatSXc
import Derived.Control
import Derived.LoopN
import Derived.Scope
import Derived.ChangeArms
import Derived.OpenShut
set_option linter.unusedVariables false
set_option linter.unusedSimpArgs false
set_option linter.unusedSectionVars false

namespace Go.SX
def yD:Ex->Exit
 |.normal=>.normal
 |.exit i=>.exit i
 |.ret=>.ret
def CodeRes(B:Base)(ρ:Env)(Q:Exit->Act->World->Prop)(k:Out->aT)(os:List Out):Prop:=
 ∀(o:Out)(ρ':Env)(a':Act)(w':World)(os':List Out),k o=some os'->(∀x∈os',x∈os)->ρ.Ext ρ'->RepW B ρ' o.st w'->TmRep ρ' o.tmps a'->Q (yD o.ex) a' w'
def ContRes(B:Base)(ρ:Env)(K:Act->World->Prop)(k:fG)(os:List Out):Prop:=
 ∀(t:Tm)(st:St)(ρ':Env)(a':Act)(w':World)(os':List Out),k t st=some os'->(∀x∈os',x∈os)->ρ.Ext ρ'->RepW B ρ' st w'->TmRep ρ' t a'->K a' w'
def CallRes(B:Base)(ρ:Env)(R:Ending->World->Prop)(k:Out->aT)(os:List Out):Prop:=
 ∀(o:Out)(ρ':Env)(w':World)(os':List Out)(v:SV)(l r:T SV),k o=some os'->(∀x∈os',x∈os)->ρ.Ext ρ'->RepW B ρ' o.st w'->o.tmps=.node v l r->v.ok ρ'->R (.returned (v.den ρ')) w'
theorem CodeRes.ext{B:Base}{ρ ρ':Env}{Q:Exit->Act->World->Prop}{k:Out->aT}{os:List Out}(h:CodeRes B ρ Q k os)(he:ρ.Ext ρ'):CodeRes B ρ' Q k os:=
 fun o ρ'' a' w' os' h1 h2 h3=>h o _ a' w' _ h1 h2 (he.trans h3)
theorem CodeRes.sub{B:Base}{ρ:Env}{Q:Exit->Act->World->Prop}{k:Out->aT}{os os':List Out}(h:CodeRes B ρ Q k os)(hs:∀x∈os',x∈os):CodeRes B ρ Q k os':=
 fun o ρ'' a' w' os'' h1 h2=>h o _ a' w' _ h1 (fun x hx=>hs x (h2 x hx))
theorem ContRes.ext{B:Base}{ρ ρ':Env}{K:Act->World->Prop}{k:fG}{os:List Out}(h:ContRes B ρ K k os)(he:ρ.Ext ρ'):ContRes B ρ' K k os:=
 fun o st ρ'' a' w' os' h1 h2 h3=>h o st _ a' w' _ h1 h2 (he.trans h3)
theorem ContRes.sub{B:Base}{ρ:Env}{K:Act->World->Prop}{k:fG}{os os':List Out}(h:ContRes B ρ K k os)(hs:∀x∈os',x∈os):ContRes B ρ K k os':=
 fun o st ρ'' a' w' os'' h1 h2=>h o st _ a' w' _ h1 (fun x hx=>hs x (h2 x hx))
theorem CallRes.sub{B:Base}{ρ:Env}{R:Ending->World->Prop}{k:Out->aT}{os os':List Out}(h:CallRes B ρ R k os)(hs:∀x∈os',x∈os):CallRes B ρ R k os':=
 fun o ρ'' w' os'' v l r h1 h2=>h o _ w' _ v l r h1 (fun x hx=>hs x (h2 x hx))
theorem mQ{a b:aT}{os:List Out}(h:gY a b=some os):∃l m,a=some l/\b=some m/\(∀x∈l,x∈os)/\(∀x∈m,x∈os):=by
 unfold gY at h;grind
theorem aeG(ops:Array Oper)(j:Nat):FV ops.toList j=(ops[j]?).bind (·.dst):=by
 grind[FV,ee]
theorem Aj{ρ:Env}{ops:Array Oper}{t:Tm}{a:Act}(hT:TmRep ρ t a)(o:Oper):
  match wq ops.toList t o with
  |.bad=>True
  |.yes=>Region.wanted o (yielded ops a.tmps)=true
  |.no=>Region.wanted o (yielded ops a.tmps)=false
  |.ask s e want=>t.get s=some (.bool e)/\Region.wanted o (yielded ops a.tmps)=(e.B ρ==want):=by
 unfold wq Region.wanted;cases hg:o.guard with
 |none=>simp
 |some q=>
  obtain⟨j,want⟩:=q
  simp only[aeG];have hy:yielded ops a.tmps j=match (ops[j]?).bind (·.dst)with
    |some s=>(match a.tmps[s]? with | some (.bool b)=>some b | _=>none)
    |none=>none:=by
   grind[yielded]
  rw[hy]
  cases hs:(ops[j]?).bind _ with
  |none=>simp
  |some s=>
   simp only;cases ht:t.get s with
   |none=>simp[hT.2.1 s ht]
   |some v=>
    have hval:=hT.at ht;cases v with
    |junk=>trivial
    |bool e=>
     grind[SV.den,E.B_bool,pA,CL]
    |bsl ks e=>rw[hval (by simp)];simp only[SV.den];cases e.den ρ<;>simp[U.raw]
    |nsl b ks e i c=>rw[hval (by simp)];simp only[SV.den];cases e.den ρ<;>simp[U.raw]
    |_=>simp_all[SV.den]
theorem TmRep.relabel{ρ:Env}{t:Tm}{a:Act}(h:TmRep ρ t a){s:Nat}{e:E}{b:Bool}(hs:t.get s=some (.bool e))(hb:e.B ρ=b):TmRep ρ (t.set s (.bool (.bool b))) a:=by
 refine⟨h.1,fun i hi=>?_,fun i v hv=>?_⟩
 ·rw[T.get_set]at hi
  by_cases e':i=s
  ·simp_all
  ·rw[if_neg e']at hi;exact h.2.1 i hi
 ·rw[T.get_set]at hv
  by_cases e':i=s
  ·subst e'
   rw[if_pos rfl,hs]at hv
   simp only[Option.map_some,Option.some.injEq]at hv;subst hv
   exact⟨_,h.at hs (by simp),.inr ⟨by simp[SV.den,hb],by simp[SV.ok]⟩⟩
  ·rw[if_neg e']at hv;exact h.2.2 i v hv
inductive InC:Code->Code->Prop
 |refl (c:Code):InC c c
 |seqL {c a b:Code} (h:InC c a):InC c (.seq a b)
 |seqR {c a b:Code} (h:InC c b):InC c (.seq a b)
 |block {c b:Code} {id:Nat} (h:InC c b):InC c (.block id b)
 |condL {c a b:Code} {x:Operand} (h:InC c a):InC c (.cond x a b)
 |condR {c a b:Code} {x:Operand} (h:InC c b):InC c (.cond x a b)
 |loop {c b:Code} (h:InC c b):InC c (.loop b)
 |scope {c b:Code} (h:InC c b):InC c (.scope b)
theorem InC.trans{a b c:Code}(h:InC a b)(k:InC b c):InC a c:=by
 induction k with
 |refl=>exact h
 |seqL _ ih=>exact .seqL ih
 |seqR _ ih=>exact .seqR ih
 |block _ ih=>exact .block ih
 |condL _ ih=>exact .condL ih
 |condR _ ih=>exact .condR ih
 |loop _ ih=>exact .loop ih
 |scope _ ih=>exact .scope ih
def OfFn(P:Program)(g:FuncId)(c:Code):Prop:=∃fn c0,P.funcs[g]?=some fn/\fn.body=some c0/\InC c c0
theorem OfFn.part{P:Program}{g:FuncId}{c d:Code}(h:OfFn P g d)(k:InC c d):OfFn P g c:=by
 obtain⟨fn,c0,h1,h2,h3⟩:=h
 exact⟨fn,c0,h1,h2,k.trans h3⟩
structure RunOk (P:Program) (tb:Tab) (n:Nat) (r:cq):Prop where
 code:∀(g:FuncId)(c:Code)(t:Tm)(st:St)(k:Out->aT)(os:List Out),OfFn P g c->r (.code g c) t st k=some os->
  ∀(B:Base)(ρ:Env)(a:Act)(w:World)(Q:Exit->Act->World->Prop),RepW B ρ st w->TmRep ρ t a->CodeRes B ρ Q k os->c.wp P Q a w
 rounds:∀(g:FuncId)(c:Code)(t:Tm)(st:St)(k:Out->aT)(os:List Out),OfFn P g c->r (.rounds g c) t st k=some os->
  ∀(B:Base)(ρ:Env)(a:Act)(w:World)(Q:Exit->Act->World->Prop),RepW B ρ st w->TmRep ρ t a->CodeRes B ρ Q k os->Code.rounds P c Q n a w
 call:∀(g:FuncId)(args:List SV)(t:Tm)(st:St)(k:Out->aT)(os:List Out),r (.call g args) t st k=some os->
  ∀(B:Base)(ρ:Env)(w:World)(R:Ending->World->Prop),RepW B ρ st w->SV.oks ρ args->CallRes B ρ R k os->Calls P g (SV.dens ρ args).toArray w R
 draw:∀(ops:Array Oper)(id:Nat)(t:Tm)(st:St)(k:Out->aT)(os:List Out),r (.draw ops.toList ops.size) t st k=some os->
  ∀(B:Base)(ρ:Env)(a:Act)(w:World)(Q:Exit->Act->World->Prop),RepW B ρ st w->TmRep ρ t a->CodeRes B ρ Q k os->(Code.region id ops true).wp P Q a w
 layer:∀(ops:Array Oper),jm ops.toList=true->∀(l:List Node)(t:Tm)(st:St)(k:Out->aT)(os:List Out),r (.layer ops.toList (aY ops.toList ops.toList) l) t st k=some os->
  ∀(B:Base)(ρ:Env)(K:Act->World->Prop),ContRes B ρ K (fun t st=>k ⟨.normal,t,st⟩) os->
  ∀x∈l,∀(ρ':Env)(listed:Array Bool)(a:Act)(w:World),ρ.Ext ρ'->RepW B ρ' x.st w->TmRep ρ' x.tmps a->listed.size=ops.size->(∀j,listed.getD j false=x.listed.testBit j)->
   wpAny P .any ops (fun e a w=>match e with | .normal=>K a w | _=>False) x.left listed a w
section
variable {P:Program} {tb:Tab} (ht:TabOk P tb) (hng:∀(f:Nat)(fn:Func),P.funcs[f]? =some fn->(fn.name == "runtime.NumGoroutine")=false)
include ht hng
theorem YV{ρ:Env}{t:Tm}{a:Act}(hT:TmRep ρ t a){o:Oper}{c:Call}(ho:o.op=.call c){g:FuncId}{args:List SV}(h:CR tb t c=some (g,args))(w:World):
  (execOp a.eval o).run P w=.ok (.enter g (SV.dens ρ args).toArray) w/\SV.oks ρ args:=by
 have hev:=hT.eval;unfold CR at h;split at h
 ·rename_i f hf;split at h
  ·rename_i g' fi ca vs hfv hvs;split at h
   ·rename_i fn hfn;split at h
    ·obtain⟨rfl,rfl⟩:=h
     have h1:=od hev _ _ hvs;have h2:=ht.fn _ _ hfn;have h3:=hng _ _ h2;have hfo:=hT.wf _ _ hfv;simp only[SV.ok]at hfo
     refine⟨?_,by
      rw[SV.oks_iff]at *
      intro v hv;simp only[List.mem_append]at hv;rcases hv with hv|hv|hv
      ·simp_all
      ·exact(SV.oks_iff _).1 (sd hT.wf _ _ hvs) v hv
      simp_all[SV.oks_iff]⟩
     simp only[execOp,ho,resolve,hf,hev _ _ hfv,SV.den,Deferred.ofValue,Sem.run_bind,Sem.run_pure,Result.andThen_ok,invoke,callFunc];simp_all[SV.dens_eq]
    ·cases h
   ·cases h
  ·cases h
 ·cases h
omit ht hng in
theorem ad0{B:Base}{ρ:Env}{K:Act->World->Prop}{k:fG}{os:List Out}(hK:ContRes B ρ K k os){t:Tm}{d:Option Tmp}:∀(l:List (SV×St))(os':List Out),MY t d k l=some os'->(∀y∈os',y∈os)->
  ∀x∈l,∀(ρ2:Env){a:Act}(w:World),TmRep ρ2 t a->ρ.Ext ρ2->RepW B ρ2 x.2 w->x.1.ok ρ2->K (a.put d (x.1.den ρ2)) w
 |[],os',h,hs,x,hx=>by cases hx
 |y::ys,os',h,hs,x,hx=>by
  intro ρ2 a w hT he hr hv
  obtain⟨l1,l2,h1,h2,h3,h4⟩:=mQ h
  cases hx with
  |head=>
   rw[jR]at h1
   exact hK _ _ _ _ _ _ h1 (fun z hz=>hs z (h3 z hz)) he hr (hT.put d _ hv)
  |tail _ hm=>exact ad0 hK ys l2 h2 (fun z hz=>hs z (h4 z hz)) x hm _ w hT he hr hv
theorem aH4{n:Nat}{rec:cq}(hrec:RunOk P tb n rec){o:Oper}{t:Tm}{st:St}{k:fG}{os:List Out}(h:FZ tb rec o t st k=some os)
  {B:Base}{ρ:Env}{a:Act}{w:World}(hr:RepW B ρ st w)(hT:TmRep ρ t a){K:Act->World->Prop}(hK:ContRes B ρ K k os)(Q:Exit->Act->World->Prop):o.wp P a w K Q:=by
 unfold FZ at h;unfold Oper.wp;split at h
 ·rename_i c hc;split at h
  ·rename_i g args hca;split at h
   ·obtain⟨hcs,hco⟩:=YV ht hng hT hc hca w
    rw[hcs,Oper.upon_enter]
    split at h
    ·rename_i rs hrs;have hraw:FH rs=[]:=rfl
     rw[hraw]at h
     simp only at h;split at h
     ·rename_i l hl;refine hrec.call _ _ _ _ _ _ hrs B ρ w _ hr hco ?_;intro r ρ' w' os' v a' b' h1 h2 h3 h4 h5 h6;have hmem:=h2 r (by grind)
      obtain⟨x,hx,ρ2,k1,k2,k3,k4⟩:=(YU ht.facts hr rs [] l hl).2 r hmem v a' b' h5 _ w' h3 h4 h6
      have hs:jT ρ.vs.length ρ.bs.length t=true:=by rw[hr.nv,hr.nb];omega
      rw[<- k4]
      exact ad0 hK l os h (fun y hy=>hy) x hx _ w' (hT.ext k1 hs) k1 k2 k3
     ·cases h
    ·cases h
   ·cases h
  ·cases h
 ·cases h
theorem Nx{n:Nat}{rec:cq}(hrec:RunOk P tb n rec){o:Oper}{t:Tm}{k:fG}{a:Act}{K:Act->World->Prop}(Q:Exit->Act->World->Prop):
  ∀(m:Nat){st:St}{os:List Out},qv tb rec o t k m st=some os->∀ {B:Base} {ρ:Env} {w:World},RepW B ρ st w->TmRep ρ t a->ContRes B ρ K k os->o.wp P a w K Q
 |0,st,os,h,B,ρ,w,hr,hT,hK=>by cases h
 |m+1,st,os,h0,B,ρ,w,hr,hT,hK=>by
  have h:(match n9 tb t st _ with
   |.val v st=>fv t _ v _
   |.skip st=>fv t _ _ _
   |.ask e=>gY (qv tb _ o t k m _) (qv tb _ o t k m _)
   |.lack e=>Ed _ st e
   |.bad=>match yu tb t st _ with
    |.val v st=>fv t _ v _
    |.skip st=>fv t _ _ _
    |.ask e=>gY (qv tb _ o t k m _) (qv tb _ o t k m _)
    |.lack e=>Ed _ st e
    |.bad=>FZ tb _ o t st k)=some os:=h0
  have heff:=aCZ ht hr hT o;have heff2:=aCY ht hr hT o;have hval:∀ {v:SV} {st':St},(∃ρ' w',ρ.Ext ρ'/\RepW B ρ' st' w'/\TmRep ρ' t a/\v.ok ρ'/\(execOp a.eval o).run P w=.ok (.value (v.den ρ')) w')->fv t o.dst v (fun tmps=>k tmps st')=some os->o.wp P a w K Q:=by
   intro v st' heff h
   obtain⟨ρ',w',h1,h2,h3,hv,h4⟩:=heff
   rw[jR]at h
   unfold Oper.wp
   rw[h4,Oper.upon_value]
   exact hK _ _ _ _ _ _ h (fun x hx=>hx) h1 h2 (h3.put _ _ hv)
  have hskip:∀ {st':St},(∃ρ' w',ρ.Ext ρ'/\RepW B ρ' st' w'/\TmRep ρ' t a/\(execOp a.eval o).run P w=.ok .skip w')->fv t o.dst .undef (fun tmps=>k tmps st')=some os->o.wp P a w K Q:=by
   intro st' heff h
   obtain⟨ρ',w',h1,h2,h3,h4⟩:=heff
   rw[jR]at h
   unfold Oper.wp
   rw[h4,Oper.upon_skip]
   have h5:=h3.put o.dst _ (iH _);exact hK _ _ _ _ _ _ h (fun x hx=>hx) h1 h2 h5
  have hask:∀ {e:E},gY (qv tb rec o t k m {st with pc:=e::st.pc}) (qv tb rec o t k m {st with pc:=bm e::st.pc})=some os->o.wp P a w K Q:=by
   intro e h
   obtain⟨l,r,h1,h2,h3,h4⟩:=mQ h
   cases hb:e.B ρ with
   |true=>exact Nx hrec Q m h1 (hr.assume hb) hT (hK.sub h3)
   |false=>exact Nx hrec Q m h2 (hr.assume (by simp_all[iA])) hT (hK.sub h4)
  split at h
  ·rename_i v st' he
   rw[he]at heff
   exact hval heff h
  ·rename_i st' he
   rw[he]at heff
   exact hskip heff h
  ·grind
  ·cases h
  ·split at h
   ·rename_i v st' he
    rw[he]at heff2
    exact hval heff2 h
   ·rename_i st' he
    rw[he]at heff2
    exact hskip heff2 h
   ·grind
   ·cases h
   grind[aH4]
theorem Ny{n:Nat}{rec:cq}(hrec:RunOk P tb n rec){o:Oper}{t:Tm}{st:St}{k:fG}{os:List Out}(h:Ab P tb rec o t st k=some os)
  {B:Base}{ρ:Env}{a:Act}{w:World}(hr:RepW B ρ st w)(hT:TmRep ρ t a){K:Act->World->Prop}(hK:ContRes B ρ K k os)(Q:Exit->Act->World->Prop):o.wp P a w K Q:=by
 unfold Ab at h;split at h
 ·rename_i v hv;unfold Oper.wp
  rw[jR]at h
  rw[Fy ht hT.eval hT.wf hv w,Oper.upon_value]
  exact hK _ _ _ _ _ _ h (fun x hx=>hx) (Env.Ext.refl ρ) hr (hT.put _ _ (Fz hT.wf hv))
 grind[Nx]
theorem ND{n:Nat}{rec:cq}(hrec:RunOk P tb n rec){ops:Array Oper}{o:Oper}{t:Tm}{st:St}{k:fG}{os:List Out}(h:qx P tb rec ops.toList o t st k=some os)
  {B:Base}{ρ:Env}{a:Act}{w:World}(hr:RepW B ρ st w)(hT:TmRep ρ t a){K:Act->World->Prop}(hK:ContRes B ρ K k os)(Q:Exit->Act->World->Prop):
  if Region.wanted o (yielded ops a.tmps)then o.wp P a w K Q else K (a.put o.dst undef) w:=by
 unfold qx at h;have hw:=Aj (ops:=ops) hT o;have hundef:∀ {t':Tm},TmRep ρ t' a->TmRep ρ (match o.dst with | none=>t' | some d=>t'.set d SV.undef) (a.put o.dst undef):=by
  intro t' h';have h5:=h'.put o.dst _ (iH _);grind[SV.undef_den]
 split at h
 ·grind[Ny]
 ·rename_i hq
  rw[hq]at hw
  rw[if_neg (by simp[hw])]
  rw[jR]at h
  exact hK _ _ _ _ _ _ h (fun x hx=>hx) (Env.Ext.refl ρ) hr (hundef hT)
 ·cases h
 ·rename_i s e want hq
  rw[hq]at hw
  obtain⟨hs,hw⟩:=hw
  split at h
  ·rename_i b hb;have hb':=eK ht.facts hr.pc hb
   rw[T.setK_eq]at h
   have hT':=hT.relabel hs hb';split at h
   ·rename_i hbw
    have:=pA hbw;grind[Ny]
   ·rename_i hbw
    have:=CL hbw
    rw[if_neg (by simp_all)]
    rw[jR]at h
    exact hK _ _ _ _ _ _ h (fun x hx=>hx) (Env.Ext.refl ρ) hr (hundef hT')
  ·obtain⟨l,m,h1,h2,h3,h4⟩:=mQ h
   rw[T.setK_eq]at h1
   rw[T.setK_eq,jR]at h2
   by_cases hc:e.B ρ=want
   ·rw[if_pos (by simp_all)]
    refine Ny ht hng hrec h1 (hr.assume ?_) (hT.relabel hs hc) (hK.sub h3) Q;grind[iA]
   ·rw[if_neg (by simp_all)]
    have hc':e.B ρ=!want:=by
     grind
    refine hK _ _ _ _ _ _ h2 h4 (Env.Ext.refl ρ) (hr.assume ?_) (hundef (hT.relabel hs hc'));grind[iA]
theorem ae5{n:Nat}{rec:cq}(hrec:RunOk P tb n rec){ops:Array Oper}{Q:Exit->Act->World->Prop}:∀(l:List Oper){t:Tm}{st:St}{k:fG}{os:List Out},ae4 P tb rec ops.toList l t st k=some os->
  ∀ {B:Base} {ρ:Env} {a:Act} {w:World},RepW B ρ st w->TmRep ρ t a->ContRes B ρ (fun a w=>Q .normal a w) k os->wpList P ops Q l a w
 |[],t,st,k,os,h,B,ρ,a,w,hr,hT,hK=>hK _ _ _ _ _ _ h (fun x hx=>hx) (Env.Ext.refl ρ) hr hT
 |o::l,t,st,k,os,h,B,ρ,a,w,hr,hT,hK=>by
  have h':=h
  have:=ND ht hng hrec h' hr hT (K:=wpList P _ Q l) (fun t st ρ' a' w' os' h1 h2 h3 h4 h5=>
   ae5 hrec l h1 h4 h5 ((hK.ext h3).sub h2)) Q
  grind[wpList]
end
end Go.SX

namespace Go.SX
theorem lR(a b t:Nat):(Nat.lor a b).testBit t=(a.testBit t||b.testBit t):=Nat.testBit_or a b t
theorem u0(a b t:Nat):(Nat.land a b).testBit t=(a.testBit t&&b.testBit t):=Nat.testBit_and a b t
theorem vL(i t:Nat):(Nat.pow 2 i).testBit t=decide (i=t):=Nat.testBit_two_pow
theorem u5{a b:Nat}(h:Nat.beq (Nat.land a b) 0=true)(t:Nat):¬(a.testBit t=true/\b.testBit t=true):=by
 rintro⟨h1,h2⟩
 have:=u0 a b t
 rw[Nat.eq_of_beq_eq_true h,h1,h2]at this
 simp at this
theorem o6:∀(es:List Edge)(j:Nat),(jU es).testBit j=true↔∃e∈es,Region.binds .any e=true/\e.on=j
 |[],j=>by simp[jU]
 |e::es,j=>by
  have ih:=o6 es j;simp only[jU];split
  ·rename_i hb
   rw[lR,vL,Bool.or_eq_true,ih,decide_eq_true_eq]
   constructor
   ·rintro (h|⟨x,hx,h1,h2⟩)
    ·exact⟨e,by simp,hb,h⟩
    ·exact⟨x,by simp[hx],h1,h2⟩
   ·rintro⟨x,hx,h1,h2⟩
    cases hx with
    |head=>exact .inl h2
    |tail _ hm=>exact .inr ⟨x,hm,h1,h2⟩
  ·rename_i hb
   rw[ih]
   constructor
   ·rintro⟨x,hx,h1,h2⟩;exact⟨x,by simp[hx],h1,h2⟩
   ·rintro⟨x,hx,h1,h2⟩
    cases hx with
    |head=>rw[hb]at h1;cases h1
    |tail _ hm=>exact⟨x,hm,h1,h2⟩
theorem ad9:∀(xs:List Operand)(t:Nat),(oW xs).testBit t=true↔t∈(xs.filterMap fun | .tmp t=>some t | _=>none)
 |[],t=>by simp[oW]
 |x::xs,t=>by
  have ih:=ad9 xs t;cases x with
  |tmp u=>
   simp only[oW,lR,vL,Bool.or_eq_true,ih,decide_eq_true_eq,List.filterMap_cons,List.mem_cons];constructor
   ·rintro (h|h)
    ·exact .inl h.symm
    ·exact .inr h
   ·rintro (h|h)
    ·exact .inl h.symm
    ·exact .inr h
  |const v=>simpa[oW]using ih
  |global g=>simpa[oW]using ih
  |func f=>simpa[oW]using ih
theorem px(d:Option Tmp)(t:Nat):(CC d).testBit t=true↔d=some t:=by
 cases d with
 |none=>simp[CC]
 |some u=>show(Nat.pow 2 u).testBit t=true↔_;rw[vL];simp
theorem vQ(ops:Array Oper)(o:Oper)(t:Nat):(cv ops.toList o).reads.testBit t=true↔t∈o.looksAt ops:=by
 simp only[cv,lR,Bool.or_eq_true,ad9,Oper.looksAt,List.mem_append]
 rw[or_comm]
 refine or_congr Iff.rfl ?_;unfold aaB;cases o.guard with
 |none=>simp
 |some q=>
  obtain⟨j,w⟩:=q
  simp only[px,aeG];cases (ops[j]?).bind (·.dst)<;>simp[eq_comm]
theorem Lr(all:List Oper):∀(l:List Oper)(i:Nat),(aY all l)[i]?=l[i]?.map (cv all)
 |[],i=>by simp[aY]
 |o::os,i=>by
  cases i with
  |zero=>simp[aY]
  |succ i=>simpa[aY]using Lr all os i
theorem Yw{ops:Array Oper}{x y:Oper}(h1:Nat.beq (Nat.land (cv ops.toList x).dst (cv ops.toList y).reads) 0=true)
  (h2:Nat.beq (Nat.land (cv ops.toList x).dst (cv ops.toList y).dst) 0=true)(h3:Nat.beq (Nat.land (cv ops.toList y).dst (cv ops.toList x).reads) 0=true):x.apart ops y=true:=by
 have k1:∀d,x.dst=some d->d∉y.looksAt ops:=fun d hd hm=>u5 h1 d ⟨(px _ _).2 hd,(vQ ops y d).2 hm⟩
 have k2:∀d,x.dst=some d->y.dst≠some d:=fun d hd hm=>u5 h2 d ⟨(px _ _).2 hd,(px _ _).2 hm⟩
 have k3:∀d,y.dst=some d->d∉x.looksAt ops:=fun d hd hm=>u5 h3 d ⟨(px _ _).2 hd,(vQ ops x d).2 hm⟩
 unfold Oper.apart
 rw[Bool.and_eq_true]
 constructor
 ·cases hx:x.dst with
  |none=>rfl
  |some d=>simp[k1 d hx,k2 d hx]
 ·cases hy:y.dst with
  |none=>rfl
  |some d=>simp[k3 d hy]
theorem Mp:∀(l:List Oper),jm l=true->∀(j:Nat)(o:Oper) cs b,l[j]?=some o->o.op≠.select cs b
 |[],_,j,o,cs,b,h=>by simp at h
 |x::xs,hn,j,o,cs,b,h=>by
  simp only[jm]at hn;split at hn
  ·cases hn
  ·rename_i hx;cases j with
   |zero=>simp at h;subst h;exact fun e=>hx _ _ e
   |succ j=>exact Mp xs hn j o cs b (by simpa using h)
end Go.SX

namespace Go.SX
section
variable {P:Program} {ops:Array Oper}
def YieldsP(P:Program)(ops:Array Oper)(o:Oper)(v:Value)(a:Act):Prop:=
 (Region.wanted o (yielded ops a.tmps)=true/\∀w,(execOp a.eval o).run P w=.ok (.value v) w)\/(Region.wanted o (yielded ops a.tmps)=false/\v=undef)
theorem YieldsP.of_same{o:Oper}{v:Value}{a a':Act}(hy:YieldsP P ops o v a)(he:execOp a'.eval o=execOp a.eval o)
  (hw:Region.wanted o (yielded ops a'.tmps)=Region.wanted o (yielded ops a.tmps)):YieldsP P ops o v a':=by
 simp_all[YieldsP]
def fC(K:Act->World->Prop):Exit->Act->World->Prop:=fun e a w=>match e with | .normal=>K a w | _=>False
theorem YieldsP.wpOp{i:Nat}{o:Oper}{v:Value}{a:Act}{w:World}{K:Act->World->Prop}{Q:Exit->Act->World->Prop}(hi:ops[i]?=some o)(hy:YieldsP P ops o v a)(h:K (a.put o.dst v) w):wpOp P ops Q i K a w:=by
 unfold Go.wpOp;rcases hy with⟨hw,hv⟩|⟨hw,rfl⟩
 all_goals simp_all[Oper.wp,Oper.upon_value]
theorem aJ3{j:Nat}{oi oj:Oper}{v:Value}(hj:ops[j]?=some oj)(hap:oi.apart ops oj=true)
  (hsi:∀cs b,oi.op≠.select cs b)(hsj:∀cs b,oj.op≠.select cs b){L:Act->World->Prop}{K:Act->World->Prop}{a:Act}{w:World}
  (hy:YieldsP P ops oi v a)(h:wpOp P ops (fC L) j K (a.put oi.dst v) w):
  wpOp P ops (fC L) j (fun a' w'=>YieldsP P ops oi v a'/\K (a'.put oi.dst v) w') a w:=by
 obtain⟨h1,h2,h3⟩:=Oper.apart_spec hap
 have keep:∀(a:Act),YieldsP P _ oi v a->∀u,YieldsP P _ oi v _:=fun a hy u=>
  hy.of_same (execOp_put oi hsi a _ u h3) (wanted_put oi a _ u h3)
 unfold wpOp at *;simp only[hj]at *
 rw[wanted_put oj a _ v h1]at h
 split
 ·rename_i hw
  rw[if_pos hw]at h
  rcases h with h|h
  ·left;unfold Oper.wp at *
   rw[execOp_put oj hsj a _ v h1]at h
   generalize (execOp _ oj).run P w=r at *;cases r with
   |ok n w'=>
    cases n<;>simp only[Oper.upon]at h ⊢;case value u=>grind[Act.put_comm]
    case skip=>grind[Act.put_comm]
    case defer d=>
     have e1:{a.put oi.dst v with defers:=d::(a.put oi.dst v).defers}={a with defers:=d::a.defers}.put oi.dst v:=by cases oi.dst<;>rfl
     rw[e1,Act.put_comm _ v _ h2]at h
     have hb:YieldsP P _ oi v {a with defers:=d::a.defers}:=hy.of_same (by rfl) rfl;simp_all
    case enter f args=>
     refine h.mono ?_;intro e w'' he;cases e with
     |returned u=>grind[Act.put_comm]
     |panicked c=>exact he
     |outgrown=>omega
    grind[Act.put_comm]
   |halt x w'=>cases x<;>simp only[Oper.upon]at h ⊢ <;> exact h
  ·obtain⟨_,_,_,h'⟩:=h
   exact h'.elim
 ·grind[Act.put_comm]
theorem aJ1{md:Region.Mode}{L:Act->World->Prop}{i:Nat}{oi:Oper}{v:Value}(hi:ops[i]?=some oi)(hsel:∀(j:Nat)(o:Oper) cs b,ops[j]?=some o->o.op≠.select cs b):
  ∀(fuel:Nat)(listed:Array Bool)(a:Act)(w:World),
   (∀j oj,ops[j]?=some oj->j≠i->listed.getD j true=false->(∀e∈oj.after,Region.binds md e=true->e.on≠i)->oi.apart ops oj=true)->
   i∈Region.ready md ops listed->YieldsP P ops oi v a->
   wpAny P md ops (fC L) fuel (listed.setIfInBounds i true) (a.put oi.dst v) w->wpAny P md ops (fC L) (fuel+1) listed a w:=by
 intro fuel;induction fuel with
 |zero=>
  intro listed a w _ hr hy H
  refine⟨fun h=>(by simp_all),fun j hj=>?_⟩
  by_cases hji:j=i
  ·subst hji;exact hy.wpOp hi H
  ·have:=ready_mono hj hji
   rw[H.1]at this
   cases this
 |succ fuel ih=>
  intro listed a w hfree hr hy H
  refine⟨fun h=>(by simp_all),fun j hj=>?_⟩
  by_cases hji:j=i
  ·subst hji;exact hy.wpOp hi H
  ·have h1:=H.2 j (ready_mono hj hji)
   obtain⟨hjun,oj,hoj,hall⟩:=mem_ready.1 hj
   have hnot:∀e∈oj.after,Region.binds md e=true->e.on≠i:=fun e he hb heq=>by
    grind[mem_ready,Nat.lt_or_ge,Array.getElem?_eq_none]
   have h2:=aJ3 hoj (hfree j oj hoj hji hjun hnot) (fun cs b=>hsel i oi cs b hi) (fun cs b=>hsel j oj cs b hoj) hy h1;have hfree':∀k ok,ops[k]?=some ok->k≠i->(listed.setIfInBounds j true).getD k true=false->
     (∀e∈ok.after,Region.binds md e=true->e.on≠i)->oi.apart ops ok=true:=fun k ok hk hki hun hno=>by
    refine hfree k ok hk hki ?_ hno;by_cases hjk:j=k
    all_goals simp_all
   refine wpOp_mono (fun a' w' h3=>ih (listed.setIfInBounds j true) a' w' hfree' (ready_mono hr (Ne.symm hji)) h3.1 ?_) h2;simp_all[Array.setIfInBounds_comm]
end
end Go.SX

namespace Go.SX
theorem abn{p:Nat->Prop}(h:∃n,p n):∃n,p n/\∀m,p m->n<=m:=by
 obtain⟨n,hn⟩:=h
 induction n using Nat.strongRecOn with
 |_ n ih=>
  grind
theorem uI{fs:List E}{n0 b0:Nat}{t:Tm}{st:St}{bound:Option E}{z:Sub}:∀(l:List Tmpl)(why:Option E),jH fs n0 b0 t st bound l why=.ok z->
  ∃τ∈l,Lb fs n0 b0 t st τ=.ok z/\∀m,bound=some m->iU fs st.pc (τ.less.sub z.n0 z.es) m=true/\fg fs st.pc (τ.less.sub z.n0 z.es)=true
 |[],why,h=>by simp only[jH]at h;grind
 |τ::τs,why,h=>by
  simp only[jH]at h;split at h
  ·grind
  ·obtain⟨τ',h1,h2⟩:=uI _ _ h
   grind
  ·obtain⟨τ',h1,h2⟩:=uI _ _ h
   grind
theorem yJ{t:Tm}{st:St}{f:Fit}{r:aT}{os:List Out}(h:ol t st f r=some os):(∃z,f=.ok z)/\r=some os:=by
 unfold ol at h;grind
theorem wm{n0 b0:Nat}:∀(l:List Tmpl),tf n0 b0 l=true->∀τ∈l,n0<=τ.st.nv/\b0<=τ.st.nb/\τ.scp=true
 |[],_,τ,h=>by cases h
 |x::xs,h,τ,hm=>by
  simp only[tf]at h;split at h
  ·cases hm with
   |head=>simp_all
   |tail _ hm=>exact wm xs h τ hm
  ·cases h
theorem abK{tb:Tab}{rec:cq}{g:FuncId}{b:Code}{n0 b0:Nat}{ts:List Tmpl}{k:Out->aT}:∀(l:List Tmpl)(os:List Out),L7 tb rec g b n0 b0 ts k l=some os->
  ∀τ∈l,∃os',(∀x∈os',x∈os)/\rec (.code g b) τ.tmps τ.st (fun o=>match o.ex with
   |.normal=>ol o.tmps o.st (jH tb.facts n0 b0 o.tmps o.st (some τ.less) ts none) (some [])
   |_=>k o)=some os'
 |[],os,_,τ,h=>by cases h
 |x::xs,os,h,τ,hm=>by
  obtain⟨l,m,h1,h2,h3,h4⟩:=mQ h
  cases hm with
  |head=>grind
  |tail _ hm=>
   obtain⟨os',h5,h6⟩:=abK xs m h2 τ hm
   simp_all
def gA(P:Program)(x:Ann):Prop:=
 ∀y,x.known=some y->∀b,OfFn P x.fn (.loop b)->jJ b=some x.key->∀(B:Base)(ρ0:Env)(a:Act)(w:World)(Q:Exit->Act->World->Prop),ρ0.vs.length=y.n0->ρ0.bs.length=y.b0->
  (∃τ∈x.ts,∃ρ',ρ0.Ext ρ'/\RepW B ρ' τ.st w/\TmRep ρ' τ.tmps a)->
  (∀o∈y.xs,∀(ρ':Env)(a':Act)(w':World),ρ0.Ext ρ'->RepW B ρ' o.st w'->TmRep ρ' o.tmps a'->Q (yD o.ex) a' w')->(Code.loop b).wp P Q a w
theorem ZY{k:Out->aT}:∀(l:List Out)(os:List Out),KG k l=some os->∀o∈l,∃os',k o=some os'/\∀x∈os',x∈os
 |[],os,h,o,ho=>by cases ho
 |x::xs,os,h,o,ho=>by
  obtain⟨l,m,h1,h2,h3,h4⟩:=mQ h
  cases ho with
  |head=>simp_all
  |tail _ hm=>
   obtain⟨os',h5,h6⟩:=ZY xs m h2 o hm
   simp_all
theorem La{g key:Nat}:∀(l:List Ann){x:Ann},yG g key l=some x->x∈l/\x.fn=g/\x.key=key
 |[],x,h=>by cases h
 |y::ys,x,h=>by
  simp only[yG]at h;split at h
  ·split at h
   ·simp_all
   ·obtain⟨k1,k2⟩:=La ys h;simp_all
  ·obtain⟨k1,k2⟩:=La ys h;simp_all
theorem aBh{tb:Tab}{g:Nat}{b:Code}{x:Ann}(h:JT tb g b=some x):x∈tb.anns/\x.fn=g/\jJ b=some x.key:=by
 grind[JT,La]
theorem zJ:∀(k n:Nat)(t:T Blk)(i:Nat)(b:Blk),(MF k n t).get i=some b->t.get i=some b\/(b=⟨true,.gone⟩/\i<n+k)
 |0,n,t,i,b,h=>.inl h
 |k+1,n,t,i,b,h=>by
  rcases zJ k _ _ i b h with h1|⟨h1,h2⟩
  all_goals grind[T.get_ins_self,T.get_ins_ne]
theorem RepW.pad{B:Base}{ρ:Env}{st:St}{w:World}(h:RepW B ρ st w)(hs:st.scp=true){n b:Nat}(hn:st.nv<=n)(hb:st.nb<=b):
  ∃ρ',ρ.Ext ρ'/\RepW B ρ' (st.pad n b) w:=by
 have he:ρ.Ext ⟨ρ.vs++List.replicate (n-st.nv) (.int 0),ρ.bs++List.replicate (b-st.nb) ⟨0,0,none⟩,ρ.fz⟩:=⟨⟨_,rfl⟩,⟨_,rfl⟩,fun _ _ h=>h⟩
 refine⟨_,he,?_,?_,?_,?_,?_,h.inn.next (fun i x hx=>?_) (fun _ _ hf=>hf),h.fz,h.fr,h.dj,h.os,h.tape,h.output⟩
 ·simp[St.pad,h.nv];omega
 ·simp[St.pad,h.nb];omega
 ·exact h.ext_pc hs he
 ·intro i x hx;rcases zJ _ _ _ i x hx with h1|⟨h1,h2⟩
  ·obtain⟨k1,k2,k3⟩:=h.blk i x h1
   have hsc:=h.blk_scp hs h1;have hlt:i<ρ.bs.length:=by rw[h.nb];omega
   refine⟨Nat.lt_of_lt_of_le k1 hb,?_,fun ho=>by rw[he.blk hlt];exact k3 ((SObj.real_ext he hsc).1 ho)⟩
   rw[he.blk hlt,he.off hlt,he.nil hlt]
   exact k2.ext he hsc
  ·subst h1
   refine⟨?_,trivial,fun h=>h.elim⟩
   have:Nat.sub b _=b-st.nb:=rfl
   show i<b;omega
 ·intro i j x y hx hy lx ly ox oy hij;rcases zJ _ _ _ i x hx with h1|⟨h1,_⟩
  ·rcases zJ _ _ _ j y hy with h2|⟨h2,_⟩
   ·have hlti:i<ρ.bs.length:=by rw[h.nb];exact(h.blk i x h1).1
    have hltj:j<ρ.bs.length:=by rw[h.nb];exact(h.blk j y h2).1
    rw[he.blk hlti,he.blk hltj]
    exact h.inj i j x y h1 h2 ((SObj.real_ext he (h.blk_scp hs h1)).1 lx) ((SObj.real_ext he (h.blk_scp hs h2)).1 ly) ox oy hij
   ·subst h2;exact ly.elim
  ·subst h1;exact lx.elim
 ·rcases zJ _ _ _ i x hx with h1|⟨h1,_⟩
  ·have hlt:i<ρ.bs.length:=by rw[h.nb];exact(h.blk i x h1).1
   exact .inl ⟨x,h1,(SObj.real_ext he (h.blk_scp hs h1)).1,he.blk hlt,fun r=>(SObj.inner_ext he (h.blk_scp hs h1)).1⟩
  ·subst h1;exact .inr ⟨fun r h=>h,fun hl=>hl.elim⟩
section
variable {P:Program} {tb:Tab} (ht:TabOk P tb)
include ht
open Classical in
theorem aH9(hloop:∀x∈tb.anns,gA P x){n:Nat}{rec:cq}(hrec:RunOk P tb n rec){g:FuncId}{b:Code}{t:Tm}{st:St}{k:Out->aT}{os:List Out}(hof:OfFn P g (.loop b))(h:F1 tb rec g b t st k=some os)
  {B:Base}{ρ:Env}{a:Act}{w:World}{Q:Exit->Act->World->Prop}(hr:RepW B ρ st w)(hT:TmRep ρ t a)(hK:CodeRes B ρ Q k os):(Code.loop b).wp P Q a w:=by
 unfold F1 at h;split at h
 ·exact wp_loop_rounds n (hrec.rounds _ _ _ _ _ _ (hof.part (.loop (.refl b))) h B ρ a w Q hr hT hK)
 ·rename_i x hx
  obtain⟨hxm,hxf,hxk⟩:=aBh hx
  obtain⟨ts,hts⟩:∃ts,ts=x.ts:=⟨_,rfl⟩
  rw[<- hts]at h
  split at h;case h_2=>
   rename_i y hy;have key:∀ {st':St} {ρ':Env},F0 tb y.n0 y.b0 ts y.xs t st' k=some os->ρ.Ext ρ'->RepW B ρ' st' w->TmRep ρ' t a->st'.nv=y.n0->st'.nb=y.b0->(Code.loop b).wp P Q a w:=by
    intro st' ρ' h he hr' hT' e1 e2;unfold F0 at h;split at h
    ·rename_i hscp
     obtain⟨⟨z,hz⟩,hexits⟩:=yJ h
     obtain⟨τ,hτ,hfit,_⟩:=uI _ _ hz
     obtain⟨_,_,hsc⟩:=wm _ hscp τ hτ
     have n1:ρ'.vs.length=y.n0:=by rw[hr'.nv,e1]
     have n2:ρ'.bs.length=y.b0:=by rw[hr'.nb,e2]
     obtain⟨h1,h2,h3,h4,h5⟩:=Dy ht.facts hfit hsc hr' hT' (Env.Ext.refl ρ') n1 n2
     subst hxf;refine hloop x hxm y hy b hof hxk B ρ' a w Q n1 n2 ⟨τ,by simp_all,_,h3,h4,h5⟩ ?_;intro o ho ρ2 a' w' k1 k2 k3
     obtain⟨os',k4,k5⟩:=ZY _ _ hexits o ho
     exact hK _ _ _ _ _ k4 k5 (he.trans k1) k2 k3
    ·cases h
   split at h
   ·rename_i hnb
    rw[Bool.and_eq_true]at hnb
    grind[Env.Ext.refl,Nat.eq_of_beq_eq_true]
   ·split at h
    ·rename_i hnb;simp only[Bool.and_eq_true]at hnb
     obtain⟨⟨⟨m1,m2⟩,m3⟩,m4⟩:=hnb
     obtain⟨ρ',he,hr'⟩:=hr.pad m3 (Nat.le_of_ble_eq_true m1) (Nat.le_of_ble_eq_true m2)
     exact key h he hr' (hT.ext he (by rw[hr.nv,hr.nb];omega)) rfl rfl
    ·cases h
  split at h;case h_2=>cases h
  ·rename_i hscp
   obtain⟨⟨z,hz⟩,hruns⟩:=yJ h
   let M:Act->World->Nat->Prop:=fun a w m=>∃τ∈ts,∃ρ',ρ.Ext ρ'/\RepW B ρ' τ.st w/\TmRep ρ' τ.tmps a/\m=(τ.less.I ρ').toNat
   let μ:Act->World->Nat:=fun a w=>if h:∃m,M a w m then Classical.choose (abn h)else 0
   have hμ:∀ {a w},(∃m,M a w m)->M a w (μ a w)/\∀m,M a w m->μ a w<=m:=by
    intro a w hex;grind
   have enter:∀ {t':Tm} {st':St} {ρ':Env} {a':Act} {w':World} {bound:Option E} {y:Sub},jH tb.facts st.nv st.nb t' st' bound ts none=.ok y->ρ.Ext ρ'->RepW B ρ' st' w'->TmRep ρ' t' a'->
     ∃τ∈ts,∃ρ'',ρ.Ext ρ''/\RepW B ρ'' τ.st w'/\TmRep ρ'' τ.tmps a'/\∀m,bound=some m->τ.less.I ρ''<m.I ρ'/\0<=τ.less.I ρ'':=by
    intro t' st' ρ' a' w' bound y hy he hr' hT'
    obtain⟨τ,hτ,hfit,hbd⟩:=uI _ _ hy
    obtain⟨_,_,hsc⟩:=wm _ hscp τ hτ
    obtain⟨h1,h2,h3,h4,h5⟩:=Dy ht.facts hfit hsc hr' hT' he hr.nv hr.nb
    refine⟨τ,hτ,_,h3,h4,h5,fun m hm=>?_⟩
    obtain⟨k1,k2⟩:=hbd m hm
    have k1':=kP ht.facts hr'.pc k1;have k2':=iY ht.facts hr'.pc k2;have hn:y.n0<=ρ'.vs.length:=by
     obtain⟨l,hl⟩:=he.vs
     rw[h1,<- hr.nv,hl];simp
    have hls:τ.less.scp (y.n0+y.es.length)=true:=by
     simp_all[Tmpl.scp,Bool.and_eq_true,Nat.add_comm]
    grind[E.sub_I]
   refine wp_loop (fun a w=>∃m,M a w m) μ ?_ ?_
   ·grind[Env.Ext.refl]
   ·intro a1 w1 hI
    obtain⟨⟨τ,hτ,ρ',h1,h2,h3,h4⟩,_⟩:=hμ hI
    obtain⟨os',hsub,hrun⟩:=abK _ _ hruns τ hτ
    refine hrec.code _ _ _ _ _ _ (hof.part (.loop (.refl b))) hrun B ρ' a1 w1 _ h2 h3 ?_;intro o ρ2 a2 w2 os2 k1 k2 k3 k4 k5;dsimp only at k1;cases hex:o.ex with
    |normal=>
     rw[hex]at k1
     obtain⟨⟨y,hy⟩,_⟩:=yJ k1
     obtain⟨τ2,hτ2,ρ3,j1,j2,j3,j4⟩:=enter hy (h1.trans k3) k4 k5
     obtain⟨j5,j6⟩:=j4 _ rfl
     have hM:M a2 w2 (τ2.less.I ρ3).toNat:=⟨τ2,hτ2,ρ3,j1,j2,j3,rfl⟩
     refine⟨⟨_,hM⟩,?_⟩
     have hle:=(hμ ⟨_,hM⟩).2 _ hM;have hsc:=(wm _ hscp τ hτ).2.2;have hls:τ.less.scp ρ'.vs.length=true:=by
      simp only[Tmpl.scp,Bool.and_eq_true]at hsc
      rw[h2.nv];simp_all
     grind[E.scoped_I]
    |exit i=>
     rw[hex]at k1
     have:=hK _ _ _ _ _ k1 (fun x hx=>hsub x (k2 x hx)) (h1.trans k3) k4 k5
     rw[hex]at this;exact this
    |ret=>
     rw[hex]at k1
     have:=hK _ _ _ _ _ k1 (fun x hx=>hsub x (k2 x hx)) (h1.trans k3) k4 k5
     rw[hex]at this;exact this
end
end Go.SX

namespace Go.SX
def vS(tmps:Array Value):ResultVar->Sem Value
 |.tmp t=>pure (tmps.getD t Go.undef)
 |.cell a t=>do loadVar t (<- asAddr (tmps.getD a Go.undef))
def aV(P:Program)(x:Nat1):Prop:=
 ∀(fs:List E),(∀e∈fs,∀ρ,e.B ρ=true)->∀(args:List SV)(st:St)(l:List (SV×St)),x.eff fs args st=.outs l->∀(B:Base)(ρ:Env)(w:World)(R:Ending->World->Prop),RepW B ρ st w->SV.oks ρ args->
  (∀y∈l,∀(ρ':Env)(w':World),ρ.Ext ρ'->RepW B ρ' y.2 w'->y.1.ok ρ'->R (.returned (y.1.den ρ')) w')->Calls P x.fn (SV.dens ρ args).toArray w R
section
variable {P:Program} {tb:Tab} (ht:TabOk P tb) (hnat:∀x∈tb.nats,aV P x) (hng:∀(f:Nat)(fn:Func),P.funcs[f]? =some fn->(fn.name == "runtime.NumGoroutine")=false)
include ht hnat hng
omit hng hnat in
theorem M1{B:Base}{ρ:Env}{st:St}{w:World}(hr:RepW B ρ st w){t:Tm}{a:Act}(hT:TmRep ρ t a):∀(rs:List ResultVar)(vs:List SV),kW tb st t rs=some vs->
  ((rs.mapM (vS a.tmps):Sem (List Value))).run P w=.ok (SV.dens ρ vs) w
 |[],vs,h=>by simp_all[kW,SV.dens]
 |.tmp i::rs,vs,h=>by
  simp only[kW]at h;split at h
  ·rename_i l hl;have ih:=M1 hr hT rs l hl;have key:∀u,a.tmps.getD i undef=u.den ρ->some (u::l)=some vs->((ResultVar.tmp i::rs).mapM (vS a.tmps)).run P w=.ok (SV.dens ρ vs) w:=by
    grind[Sem.run_bind,vS,Sem.run_pure,Result.andThen_ok,SV.dens]
   split at h
   ·rename_i u hu;split at h
    ·cases h
    ·rename_i hj;refine key u ?_ h
     rw[Array.getD_eq_getD_getElem?,hT.at hu hj]
     rfl
   ·rename_i hu;refine key _ ?_ h
    rw[Array.getD_eq_getD_getElem?,hT.2.1 i hu]
    rfl
  ·cases h
 |.cell x ty::rs,vs,h=>by
  simp only[kW]at h;split at h
  ·rename_i y hy;split at h
   ·rename_i v l hv hl;simp only[Option.some.injEq]at h;subst h;have ih:=M1 hr hT rs l hl
    obtain⟨ad,h1,h2⟩:=L5 ht hr hv
    have hyj:y≠.junk:=by rintro rfl;cases h1
    have hx:a.tmps.getD x undef=.pointer (some ad):=by
     rw[Array.getD_eq_getD_getElem?,hT.at hy hyj]
     simp_all
    have hc:(vS a.tmps (.cell x ty)).run P w=.ok (v.den ρ) w:=by
     simp_all[vS,asAddr]
    rw[List.mapM_cons,Sem.run_bind,hc,Result.andThen_ok,Sem.run_bind,ih]
    rfl
   ·cases h
  ·cases h
omit hng hnat in
theorem M2{B:Base}{ρ:Env}{st:St}{w:World}(hr:RepW B ρ st w){t:Tm}{a:Act}(hT:TmRep ρ t a):∀(rs:List ResultVar)(vs:List SV),kW tb st t rs=some vs->SV.oks ρ vs
 |[],vs,h=>by simp_all[kW,SV.oks]
 |.tmp i::rs,vs,h=>by
  simp only[kW]at h;split at h
  ·rename_i l hl;have ih:=M2 hr hT rs l hl;split at h
   ·rename_i u hu;split at h
    ·cases h
    ·simp only[Option.some.injEq]at h;subst h
     exact⟨hT.ok hu,ih⟩
   ·simp only[Option.some.injEq]at h;subst h
    exact⟨iH ρ,ih⟩
  ·cases h
 |.cell x ty::rs,vs,h=>by
  simp only[kW]at h;split at h
  ·split at h
   ·rename_i v l hv hl;simp only[Option.some.injEq]at h;subst h
    exact⟨L6 ht hr hv,M2 hr hT rs l hl⟩
   ·cases h
  ·cases h
omit hng hnat ht in
theorem aJN{vs:List SV}{ρ:Env}(h:SV.oks ρ vs):(tg vs).ok ρ:=by
 cases vs with
 |nil=>simp[tg,SV.ok,SV.oks]
 |cons v vs=>
  cases vs with
  |nil=>exact h.1
  |cons u us=>simp_all[tg,SV.ok]
omit hng hnat ht in
theorem aJM(vs:List SV)(ρ:Env):(if h:(SV.dens ρ vs).toArray.size=1 then(SV.dens ρ vs).toArray[0] else .tuple (SV.dens ρ vs).toArray)=(tg vs).den ρ:=by
 cases vs with
 |nil=>rfl
 |cons v vs=>
  cases vs with
  |nil=>rfl
  |cons u us=>rfl
omit hng in
theorem aH3{n:Nat}{rec:cq}(hrec:RunOk P tb n rec){g:FuncId}{args:List SV}{st:St}{k:Out->aT}{os:List Out}(h:Nu tb rec g args st k=some os)
  {B:Base}{ρ:Env}{w:World}(hr:RepW B ρ st w){R:Ending->World->Prop}(hao:SV.oks ρ args)(hK:CallRes B ρ R k os):Calls P g (SV.dens ρ args).toArray w R:=by
 unfold Nu at h;split at h
 ·rename_i l hl;have hfind:∀(xs:List _),yI tb.facts g args st xs=.outs l->∃x∈xs,x.fn=g/\x.eff tb.facts args st=.outs l:=by
   intro xs;induction xs with
   |nil=>intro h;cases h
   |cons x xs ih=>
    grind[yI,Nat.eq_of_beq_eq_true]
  obtain⟨x,hx,rfl,hxe⟩:=hfind _ hl
  refine hnat x hx _ ht.facts _ st l hxe B ρ w R hr hao ?_;clear hl hxe hfind;induction l generalizing os with
  |nil=>simp_all
  |cons z l ih=>
   obtain⟨l1,l2,h1,h2,h3,h4⟩:=mQ h
   intro y hy ρ' w' k1 k2 k3;cases hy with
   |head=>exact hK _ _ _ _ _ _ _ h1 h3 k1 k2 rfl k3
   |tail _ hm=>exact ih (hK.sub h4) h2 y hm _ w' k1 k2 k3
 split at h
 ·rename_i fn hfn;split at h
  ·rename_i c hc;split at h
   ·rename_i hle;simp only[Bool.and_eq_true,Nat.ble_eq]at hle
    rw[T.putsK_eq]at h
    refine calls_of_wp (ht.fn _ _ hfn) hc ?_;refine hrec.code _ _ _ _ _ _ ⟨fn,c,ht.fn _ _ hfn,hc,.refl c⟩ h B ρ _ w _ hr ?_ ?_
    ·have hslot:∀i,(((SV.dens ρ args).toArray++Array.replicate (fn.ntmps-(SV.dens ρ args).toArray.size) Go.undef))[i]?=((((T.fill SV.undef 20 fn.ntmps).puts 0 args)).get i).map (SV.den ρ):=by
      intro i
      rw[T.get_puts,T.get_fill _ _ _ _ (by omega)]
      simp only[Nat.zero_add,Nat.zero_le,true_and];have hlen:(SV.dens ρ args).length=args.length:=by simp[SV.dens_eq]
      by_cases h1:i<args.length
      ·rw[if_pos h1,if_pos (by omega)]
       simp_all[Array.getElem?_append_left,SV.dens_eq]
      ·rw[Array.getElem?_append_right _]
       simp only[Array.getElem?_replicate];by_cases h2:i<fn.ntmps
       all_goals simp_all[SV.undef_den,if_neg]
     refine⟨rfl,fun i hi=>?_,fun i v hv=>?_⟩
     ·simp_all
     ·have:=hslot i
      rw[hv]at this
      rw[T.get_puts,T.get_fill _ _ _ _ (by omega)]at hv
      by_cases h1:i<args.length
      ·grind[SV.oks_iff]
      ·grind[iH]
    ·intro o ρ' a' w' os' h1 h2 h3 h4 h5;dsimp only at h1;have key:∀ {vs:List SV},kW tb o.st o.tmps fn.results.toList=some vs->k ⟨.ret,.node (tg vs) .nil .nil,o.st⟩=some os'->
       a'.defers=[]/\∃v,(results fn a'.tmps).run P w'=.ok v w'/\R (.returned v) w':=by
      intro vs hvs hk
      refine⟨h5.1,(tg vs).den ρ',?_,?_⟩
      ·have hm:=M1 ht h4 h5 _ _ hvs;have e:results fn a'.tmps=(do let vs <- fn.results.mapM (vS a'.tmps);pure (if h:vs.size=1 then vs[0] else .tuple vs)):=by
        rfl
       grind[Sem.run_bind,Array.mapM_eq_mapM_toList,Sem.run_map,Result.andThen_ok,Sem.run_pure,aJM]
      ·exact hK _ _ w' _ _ _ _ hk h2 h3 h4 rfl (aJN (M2 ht h4 h5 _ _ hvs))
     cases hex:o.ex with
     |exit i=>simp_all
     |normal=>
      rw[hex]at h1
      simp only at h1;split at h1
      ·rename_i vs hvs;exact key hvs h1
      simp_all
     |ret=>
      rw[hex]at h1
      simp only at h1;split at h1
      ·rename_i vs hvs;exact key hvs h1
      simp_all
   ·cases h
  ·cases h
 ·cases h
theorem aH6(hloop:∀x∈tb.anns,gA P x){n:Nat}{rec:cq}(hrec:RunOk P tb n rec){g:FuncId}{c:Code}{t:Tm}{st:St}{k:Out->aT}{os:List Out}(hof:OfFn P g c)(h:Nv P tb rec g c t st k=some os)
  {B:Base}{ρ:Env}{a:Act}{w:World}{Q:Exit->Act->World->Prop}(hr:RepW B ρ st w)(hT:TmRep ρ t a)(hK:CodeRes B ρ Q k os):c.wp P Q a w:=by
 rw[aH5]at h;unfold Nd Na Nb Nc at h
 split at h
 ·exact wp_skip (hK _ _ _ _ _ h (fun x hx=>hx) (Env.Ext.refl ρ) hr hT)
 ·exact wp_label (hK _ _ _ _ _ h (fun x hx=>hx) (Env.Ext.refl ρ) hr hT)
 ·exact wp_ret (hK _ _ _ _ _ h (fun x hx=>hx) (Env.Ext.refl ρ) hr hT)
 ·exact wp_exit (hK _ _ _ _ _ h (fun x hx=>hx) (Env.Ext.refl ρ) hr hT)
 ·-- seq
  refine wp_seq (hrec.code _ _ _ _ _ _ (hof.part (.seqL (.refl _))) h B ρ a w _ hr hT ?_);intro o ρ' a' w' os' h1 h2 h3 h4 h5;dsimp only at h1;cases hex:o.ex with
  |normal=>
   rw[hex]at h1
   exact hrec.code _ _ _ _ _ _ (hof.part (.seqR (.refl _))) h1 B _ a' w' Q h4 h5 ((hK.ext h3).sub h2)
  |exit i=>
   rw[hex]at h1
   have:=hK _ _ _ _ _ h1 h2 h3 h4 h5
   rw[hex]at this;exact this
  |ret=>
   rw[hex]at h1
   have:=hK _ _ _ _ _ h1 h2 h3 h4 h5
   rw[hex]at this;exact this
 ·-- block
  rename_i id b;refine wp_block (hrec.code _ _ _ _ _ _ (hof.part (.block (.refl _))) h B ρ a w _ hr hT ?_);intro o ρ' a' w' os' h1 h2 h3 h4 h5;dsimp only at h1;cases hex:o.ex with
  |normal=>
   rw[hex]at h1
   have:=hK _ _ _ _ _ h1 h2 h3 h4 h5
   rw[hex]at this;exact this
  |ret=>
   rw[hex]at h1
   have:=hK _ _ _ _ _ h1 h2 h3 h4 h5
   rw[hex]at this;exact this
  |exit i=>
   rw[hex]at h1
   simp only at h1;simp only[yD,Exit.inBlock];split at h1
   ·rename_i hi
    rw[if_pos (Nat.eq_of_beq_eq_true hi)]
    exact hK _ _ _ _ _ h1 h2 h3 h4 h5
   ·have:i≠id:=fun e=>by simp_all
    rw[if_neg this]
    have:=hK _ _ _ _ _ h1 h2 h3 h4 h5
    rw[hex]at this;exact this
 ·-- loop
  grind[aH9]
 ·-- cond
  rename_i x c1 c2;split at h
  ·rename_i e he;have hx:a.eval x=.bool (e.B ρ):=by rw[hT.eval _ _ he];rfl
   split at h
   ·rename_i hk
    have:=eK ht.facts hr.pc hk
    exact wp_cond_true (by simp_all) (hrec.code _ _ _ _ _ _ (hof.part (.condL (.refl _))) h B ρ a w Q hr hT hK)
   ·rename_i hk
    have:=eK ht.facts hr.pc hk
    exact wp_cond_false (by simp_all) (hrec.code _ _ _ _ _ _ (hof.part (.condR (.refl _))) h B ρ a w Q hr hT hK)
   ·obtain⟨l,m,h1,h2,h3,h4⟩:=mQ h
    refine wp_cond_split hx (fun hb=>?_) (fun hb=>?_)
    ·exact hrec.code _ _ _ _ _ _ (hof.part (.condL (.refl _))) h1 B ρ a w Q (hr.assume hb) hT (hK.sub h3)
    ·exact hrec.code _ _ _ _ _ _ (hof.part (.condR (.refl _))) h2 B ρ a w Q (hr.assume (by simp[iA,hb])) hT (hK.sub h4)
  ·cases h
 ·-- region
  rename_i id ops d;split at h
  ·exact wp_region_list (ae5 ht hng hrec _ h hr hT (fun t st ρ' a' w' os' h1 h2 h3 h4 h5=>hK _ _ _ _ _ h1 h2 h3 h4 h5))
  ·exact hrec.draw _ id t st k os h B ρ a w Q hr hT hK
 ·-- scope
  refine wp_scope_straight (hrec.code _ _ _ _ _ _ (hof.part (.scope (.refl _))) h B ρ a w _ hr hT ?_);intro o ρ' a' w' os' h1 h2 h3 h4 h5
  have:=hK _ _ _ _ _ h1 h2 h3 h4 h5
  cases hex:o.ex<;>(rw[hex]at this;exact this)
 ·cases h
omit ht hnat hng in
theorem aIa{n:Nat}{rec:cq}(hrec:RunOk P tb n rec){g:FuncId}{c:Code}{t:Tm}{st:St}{k:Out->aT}{os:List Out}(hof:OfFn P g c)(h:ae6 rec g c t st k=some os)
  {B:Base}{ρ:Env}{a:Act}{w:World}{Q:Exit->Act->World->Prop}(hr:RepW B ρ st w)(hT:TmRep ρ t a)(hK:CodeRes B ρ Q k os):Code.rounds P c Q (n+1) a w:=by
 refine hrec.code _ _ _ _ _ _ hof h B ρ a w _ hr hT ?_;intro o ρ' a' w' os' h1 h2 h3 h4 h5;dsimp only at h1;cases hex:o.ex with
 |normal=>
  rw[hex]at h1
  exact hrec.rounds _ _ _ _ _ _ hof h1 B _ a' w' Q h4 h5 ((hK.ext h3).sub h2)
 |exit i=>
  rw[hex]at h1
  have:=hK _ _ _ _ _ h1 h2 h3 h4 h5
  rw[hex]at this;exact this
 |ret=>
  rw[hex]at h1
  have:=hK _ _ _ _ _ h1 h2 h3 h4 h5
  rw[hex]at this;exact this
theorem ad2{n:Nat}{rec:cq}(hrec:RunOk P tb n rec){o:Oper}{t:Tm}{st:St}{v:SV}(h:zQ P tb rec o t st=.done v){B:Base}{ρ:Env}{a:Act}(hT:TmRep ρ t a)
  (w:World)(hr:RepW B ρ st w):o.quietAt P a (fun w'=>RepW B ρ st w') w (v.den ρ)/\v.ok ρ:=by
 unfold Oper.quietAt;unfold zQ at h;split at h
 ·rename_i v' hv;simp only[QR.done.injEq]at h;subst h
  rw[Fy ht hT.eval hT.wf hv w]
  exact⟨⟨rfl,rfl⟩,Fz hT.wf hv⟩
 ·split at h
  ·rename_i hro;have hrd:=ad8 ht hr hT o hro;split at h
   ·rename_i v' st' he
    rw[he]at hrd
    simp only[QR.done.injEq]at h;subst h
    rw[hrd.2.2]
    exact⟨⟨rfl,rfl⟩,hrd.2.1⟩
   all_goals simp_all
  split at h
  ·rename_i c hc;split at h
   ·rename_i g args hca
    obtain⟨hcs,hco⟩:=YV ht hng hT hc hca w
    rw[hcs]
    unfold ad1 at h;split at h
    ·rename_i os hos;split at h
     ·rename_i o';split at h
      ·rename_i v' l r ho';split at h
       ·rename_i hchk;simp only[QR.done.injEq]at h;subst h;simp only[Bool.and_eq_true]at hchk
        obtain⟨hpl,hchk⟩:=hchk
        refine⟨⟨rfl,?_⟩,SV.plain_ok _ hpl⟩
        refine hrec.call _ _ _ _ _ _ hos B ρ w _ hr hco ?_;intro o2 ρ' w' os' v2 l2 r2 h1 h2 h3 h4 h5 _;have he:o2=o':=by
         have:=h2 o2 (by grind)
         simp_all
        subst he
        rw[ho']at h5
        obtain⟨rfl,_,_⟩:=h5
        have hsv:v'.scp ρ.vs.length ρ.bs.length=true:=by rw[hr.nv,hr.nb];simp_all
        rw[SV.scoped_den h3 _ hsv]
        exact⟨rfl,hr.back h4 h3 hchk.1.2 hchk.2⟩
       ·cases h
      ·cases h
     ·cases h
    ·cases h
   ·cases h
  ·cases h
theorem FG{n:Nat}{rec:cq}(hrec:RunOk P tb n rec){ops:Array Oper}{st:St}{B:Base}{ρ:Env}{w0:World}(hr0:RepW B ρ st w0):∀(l:List Oper){t t':Tm},oV P tb rec ops.toList st l t=.done t'->
  ∀ {a:Act},TmRep ρ t a->wpQuiet P ops (fun w'=>RepW B ρ st w') (fun a'=>TmRep ρ t' a') l a
 |[],t,t',h,a,hT=>by
  simp only[oV,QE.done.injEq]at h;subst h;exact hT
 |o::l,t,t',h,a,hT=>by
  have hundef:∀ {t':Tm},TmRep ρ t' a->TmRep ρ (match o.dst with | none=>t' | some d=>t'.set d SV.undef) (a.put o.dst undef):=by
   intro t' h';have h5:=h'.put o.dst _ (iH _);grind[SV.undef_den]
  have hw:=Aj (ops:=ops) hT o;simp only[oV]at h;unfold wpQuiet;have hyes:∀ {t2:Tm} {v:SV},TmRep ρ t2 a->zQ P tb rec o t2 st=.done v->(fv t2 o.dst v fun tmps=>oV P tb rec ops.toList st l tmps)=.done t'->
    o.quiet P a (fun w'=>RepW B ρ st w') (wpQuiet P ops (fun w'=>RepW B ρ st w') (fun a'=>TmRep ρ t' a') l):=by
   intro t2 v hT2 hq hk
   rw[jR]at hk
   exact⟨v.den ρ,fun w hw=>(ad2 ht hnat hng hrec hq hT2 w hw).1,FG hrec hr0 l hk (hT2.put _ _ (ad2 ht hnat hng hrec hq hT2 _ hr0).2)⟩
  split at h
  ·grind
  ·rename_i hq
   rw[hq]at hw
   rw[if_neg (by simp[hw])]
   rw[jR]at h
   exact FG hrec hr0 l h (hundef hT)
  ·cases h
  ·rename_i s e want hq
   rw[hq]at hw
   obtain⟨hs,hw⟩:=hw
   split at h
   ·rename_i b hb;have hb':=eK ht.facts hr0.pc hb
    rw[T.setK_eq]at h
    have hT':=hT.relabel hs hb';split at h
    ·grind[pA]
    ·rename_i hbw
     have:=CL hbw
     rw[if_neg (by simp_all)]
     rw[jR]at h
     exact FG hrec hr0 l h (hundef hT')
   ·cases h
end
end Go.SX

namespace Go.SX
section
variable {P:Program} {tb:Tab} (ht:TabOk P tb) (hng:∀(f:Nat)(fn:Func),P.funcs[f]? =some fn->(fn.name == "runtime.NumGoroutine")=false)
theorem LX(ops:Array Oper){k:Nat}{x:Oper}:∀(l:List Oper),vb k (cv ops.toList x) (aY ops.toList l)=true->
  ∀(j:Nat)(y:Oper),l[j]?=some y->(∀e∈y.after,Region.binds .any e=true->e.on≠k)->x.apart ops y=true
 |[],_,j,y,hy,_=>by simp at hy
 |m::ms,h,j,y,hy,hno=>by
  simp only[aY,vb]at h;have hrest:vb k (cv ops.toList x) (aY ops.toList ms)=true:=by
   grind
  cases j with
  |succ j=>exact LX _ ms hrest j y (by simp_all) hno
  |zero=>
   split at h
   ·rename_i hb;have hb':(jU _).testBit k=true:=hb;grind[o6]
   grind[Yw]
theorem mL{l:Array Bool}{i:Nat}(h:i<l.size):l.getD i true=l.getD i false:=by grind
def Upto(n k:Nat)(listed:Array Bool):Prop:=listed.size=n/\∀j,listed.getD j false=decide (j<k/\j<n)
theorem Upto.next{n k:Nat}{listed:Array Bool}(h:Upto n k listed)(hk:k<n):Upto n (k+1) (listed.setIfInBounds k true):=by
 refine⟨by simp[h.1],fun j=>?_⟩
 by_cases e:k=j
 ·subst e;simp[h.1]
 ·have h1:=h.2 j
  have:(listed.setIfInBounds k true).getD j false=listed.getD j false:=by
   simp_all
  grind
theorem YJ{m k:Nat}(h:Nat.blt m (Nat.pow 2 k)=true){j:Nat}(hj:m.testBit j=true):j<k:=by
 rw[eA]at h
 rcases Nat.lt_or_ge j k with h1|h1
 ·omega
 ·have h2:=Nat.lt_of_lt_of_le h (Nat.pow_le_pow_right (by omega) h1);simp_all[Nat.testBit_lt_two_pow]
theorem ad3{ops:Array Oper}{C:World->Prop}{Q:Act->Prop}(hs:jm ops.toList=true):∀(l:List Oper)(k:Nat)(listed:Array Bool)(a:Act),
  (∀j,l[j]?=ops[k+j]?)->Upto ops.size k listed->jK (aY ops.toList l) k=true->wpQuiet P ops C Q l a->wpAnyQ P .any ops C Q l.length listed a
 |[],k,listed,a,hl,hu,hx,h=>by
  refine⟨?_,h⟩
  cases hr:Region.ready _ _ _ with
  |nil=>rfl
  |cons j js=>
   have hj:j∈Region.ready .any ops listed:=by simp_all
   obtain⟨h1,o,ho,_⟩:=mem_ready.1 hj
   have hlt:=(Array.getElem?_eq_some_iff.1 ho).1
   rw[mL (by grind),hu.2 j]at h1
   have:=hl (j-k)
   simp_all
 |o::l,k,listed,a,hl,hu,hx,h=>by
  have h0:=by simpa using (hl 0).symm
  have hlt:=(Array.getElem?_eq_some_iff.1 h0).1;simp only[aY,jK]at hx;split at hx
  ·rename_i hb;split at hx
   ·have hready:k∈Region.ready .any ops listed:=by
     refine mem_ready.2 ⟨?_,o,h0,fun e he hbd=>?_⟩
     ·rw[mL (by rw[hu.1];omega),hu.2 k]
      simp
     ·have hbit:(jU o.after.toList).testBit _=true:=(o6 _ _).2 ⟨e,by simp_all,hbd,rfl⟩
      have:=YJ hb hbit
      rw[hu.2 _]
      grind
    have hfree:∀j oj,ops[j]?=some oj->j≠k->listed.getD j true=false->(∀e∈oj.after,Region.binds .any e=true->e.on≠k)->o.apart ops oj=true:=by
     intro j oj hj hjk hjl hno
     rw[mL (by grind),hu.2 j]at hjl
     have h2:=hl (j-k);grind[LX]
    have hst:qOp P ops C k (wpQuiet P ops C Q l) a:=by unfold qOp;simp only[h0];exact h
    obtain⟨v,hy,hK⟩:=yieldsIn_of_qOp h0 hst
    exact wpAnyQ_first h0 (noSel_ok' hs) _ _ a hfree hready hy
     (ad3 hs l _ _ _ (fun j=>by have:=hl (j+1);grind) (hu.next hlt) hx hK)
   simp_all
  simp_all
where
 noSel_ok' {ops:Array _} (hs:jm ops.toList=true):∀(j:Nat)(o:Oper) cs b,ops[j]?=some o->o.op≠.select cs b:=
  fun j o cs b h=>Mp _ hs j o cs b (by simp_all)
def MaskOk(n:Nat)(m:Nat)(listed:Array Bool):Prop:=listed.size=n/\∀j,listed.getD j false=m.testBit j
theorem MaskOk.set{n m i:Nat}{listed:Array Bool}(h:MaskOk n m listed)(hi:i<n):MaskOk n (Nat.lor (Nat.pow 2 i) m) (listed.setIfInBounds i true):=by
 refine⟨by simp[h.1],fun j=>?_⟩
 by_cases e:i=j
 ·subst e;simp[h.1,hi]
 ·have:(listed.setIfInBounds i true).getD j false=listed.getD j false:=by
   simp_all
  rw[this,h.2 j];simp[e]
theorem GG{ops:Array Oper}{o:Oper}{m:Nat}{listed:Array Bool}(hm:MaskOk ops.size m listed):
  Nat.beq (Nat.land (cv ops.toList o).wait m) (cv ops.toList o).wait=true↔∀e∈o.after,Region.binds .any e=true->listed.getD e.on false=true:=by
 have hw:(cv ops.toList o).wait=jU _:=rfl;constructor
 ·intro h e he hb;have hbit:(jU o.after.toList).testBit _=true:=(o6 _ _).2 ⟨e,by simp_all,hb,rfl⟩;have h1:=u0 (jU o.after.toList) m e.on
  rw[<- hw,Nat.eq_of_beq_eq_true h,hw,hbit]at h1
  rw[hm.2];grind
 ·intro h;refine mB (Nat.eq_of_testBit_eq fun j=>?_)
  rw[u0,hw]
  cases hj:(jU _).testBit j with
  |false=>simp
  |true=>
   obtain⟨e,he,hb,rfl⟩:=(o6 _ _).1 hj
   have:=h e (by simp_all) hb
   rw[hm.2]at this
   simp_all
theorem vR{ops:Array Oper}{m:Nat}{listed:Array Bool}(hm:MaskOk ops.size m listed):∀(l:List Oper)(k:Nat),(∀j,l[j]?=ops[k+j]?)->
  ∀i,k<=i->i∈Region.ready .any ops listed->∃o,ops[i]?=some o/\(i,o,cv ops.toList o)∈gu m l (aY ops.toList l) k
 |[],k,hl,i,hki,hi=>by
  obtain⟨_,o,ho,_⟩:=mem_ready.1 hi
  have:=hl (i-k)
  simp_all
 |o::l,k,hl,i,hki,hi=>by
  have h0:=by simpa using (hl 0).symm
  have ih:=vR hm l (k+1) (fun j=>by have:=hl (j+1);grind) i;simp only[aY,gu];by_cases e:i=k
  ·obtain⟨h1,o',ho',hall⟩:=mem_ready.1 hi
   rw[mL (by grind),hm.2]at h1
   grind[GG]
  grind
theorem aap{ops:Array Oper}{m i:Nat}{listed:Array Bool}{x:Oper}(hm:MaskOk ops.size m listed):∀(l:List Oper)(k:Nat),(∀j,l[j]?=ops[k+j]?)->
  mK m i (cv ops.toList x) (aY ops.toList l) k=true->
  ∀j oj,k<=j->ops[j]?=some oj->j≠i->listed.getD j true=false->(∀e∈oj.after,Region.binds .any e=true->e.on≠i)->x.apart ops oj=true
 |[],k,hl,_,j,oj,hkj,hj,_,_,_=>by
  have:=hl (j-k)
  simp_all
 |o::l,k,hl,h,j,oj,hkj,hj,hji,hjl,hno=>by
  have h0:=by simpa using (hl 0).symm
  have hl':∀j,l[j]?=ops[k+1+j]?:=fun j=>by have:=hl (j+1);grind
  simp only[aY,mK]at h;have hrest:mK m i (cv ops.toList x) (aY ops.toList l) (k+1)=true:=by
   grind
  by_cases e:j=k
  ·subst e
   rw[mL (by grind),hm.2]at hjl
   rw[hjl]at h
   have hij:Nat.beq i j=false:=by
    grind[Nat.eq_of_beq_eq_true]
   simp only[hij]at h;split at h
   ·rename_i hb;have hb':(jU _).testBit i=true:=hb;grind[o6]
   grind[Yw]
  ·exact aap hm l _ hl' hrest j oj (by omega) hj hji hjl hno
end
end Go.SX

namespace Go.SX
section
variable {P:Program} {tb:Tab} (ht:TabOk P tb) (hng:∀(f:Nat)(fn:Func),P.funcs[f]? =some fn->(fn.name == "runtime.NumGoroutine")=false)
def YieldsAt(P:Program)(ops:Array Oper)(o:Oper)(v:Value)(a:Act)(w:World):Prop:=
 (Region.wanted o (yielded ops a.tmps)=true/\(execOp a.eval o).run P w=.ok (.value v) w)\/(Region.wanted o (yielded ops a.tmps)=false/\v=undef)
include ht in
theorem ac2{B:Base}{ρ:Env}{st:St}{w:World}{t:Tm}{a:Act}{o:Oper}{v:SV}(h:EL P tb t st o=.val v)(hr:RepW B ρ st w)(hT:TmRep ρ t a):
  (execOp a.eval o).run P w=.ok (.value (v.den ρ)) w/\v.ok ρ:=by
 unfold EL at h;split at h
 ·rename_i v' hv;simp only[NS.val.injEq]at h;subst h
  exact⟨Fy ht hT.eval hT.wf hv w,Fz hT.wf hv⟩
 ·split at h
  ·rename_i hro;have hrd:=ad8 ht hr hT o hro;split at h
   ·rename_i v' st' he
    rw[he]at hrd
    simp only[NS.val.injEq]at h;subst h
    exact⟨hrd.2.2,hrd.2.1⟩
   all_goals simp_all
  ·cases h
include ht in
theorem ac3{B:Base}{ρ:Env}{st:St}{w:World}{ops:Array Oper}{t:Tm}{a:Act}{o:Oper}{v:SV}(h:EM P tb ops.toList t st o=.val v)(hr:RepW B ρ st w)(hT:TmRep ρ t a):
  YieldsAt P ops o (v.den ρ) a w/\v.ok ρ:=by
 have hw:=Aj (ops:=ops) hT o;unfold EM at h;split at h
 ·rename_i hq
  rw[hq]at hw
  obtain⟨h1,h2⟩:=ac2 ht h hr hT
  exact⟨.inl ⟨hw,h1⟩,h2⟩
 ·rename_i hq
  rw[hq]at hw
  simp only[NS.val.injEq]at h;subst h
  exact⟨.inr ⟨hw,by rfl⟩,iH ρ⟩
 ·cases h
 ·split at h
  ·rename_i b hb;have hb':=eK ht.facts hr.pc hb;split at h
   ·rename_i hbw
    have:=pA hbw;obtain⟨h1,h2⟩:=ac2 ht h hr hT
    exact⟨.inl ⟨by simp_all,h1⟩,h2⟩
   ·rename_i hbw
    have:=CL hbw
    simp only[NS.val.injEq]at h;subst h
    exact⟨.inr ⟨by simp_all,by rfl⟩,iH ρ⟩
  ·cases h
theorem aC9{a a':Act}{x:Operand}(h:∀t,x=.tmp t->a'.tmps[t]?=a.tmps[t]?):a'.eval x=a.eval x:=by
 cases x with
 |tmp t=>simp only[Act.eval,Array.getD_eq_getD_getElem?,h t _]
 |_=>rfl
theorem ZX{ops:Array Oper}{a a':Act}(o:Oper)(hs:∀cs b,o.op≠.select cs b)(h:∀t∈o.looksAt ops,a'.tmps[t]?=a.tmps[t]?):execOp a'.eval o=execOp a.eval o:=
 execOp_congr o hs fun x hx=>aC9 fun t ht=>h t (List.mem_append_left _ (List.mem_filterMap.2 ⟨.tmp t,by simp_all,rfl⟩))
theorem af3{ops:Array Oper}{a a':Act}(o:Oper)(h:∀t∈o.looksAt ops,a'.tmps[t]?=a.tmps[t]?):Region.wanted o (yielded ops a'.tmps)=Region.wanted o (yielded ops a.tmps):=by
 unfold Region.wanted;cases hg:o.guard with
 |none=>rfl
 |some gw=>
  obtain⟨g,want⟩:=gw
  have:yielded ops a'.tmps g=yielded ops a.tmps g:=by
   unfold yielded;cases hd:(ops[g]?).bind _ with
   |none=>rfl
   |some d=>
    simp_all[Oper.looksAt]
  simp_all
theorem YieldsAt.agree{ops:Array Oper}{o:Oper}{v:Value}{a a':Act}{w:World}(hy:YieldsAt P ops o v a w)(hs:∀cs b,o.op≠.select cs b)(h:∀t∈o.looksAt ops,a'.tmps[t]?=a.tmps[t]?):YieldsAt P ops o v a' w:=by
 unfold YieldsAt at *
 rw[ZX o hs h,af3 o h];omega
theorem YieldsAt.wpOp{ops:Array Oper}{i:Nat}{o:Oper}{v:Value}{a:Act}{w:World}{K:Act->World->Prop}{Q:Exit->Act->World->Prop}(hi:ops[i]?=some o)(hy:YieldsAt P ops o v a w)(h:K (a.put o.dst v) w):wpOp P ops Q i K a w:=by
 unfold Go.wpOp;rcases hy with⟨hw,hv⟩|⟨hw,rfl⟩
 all_goals simp_all[Oper.wp,Oper.upon_value]
theorem aJ4{ops:Array Oper}{j:Nat}{o:Oper}(hj:ops[j]?=some o)(hs:∀cs b,o.op≠.select cs b){L:Act->World->Prop}{Kc Kr:Act->World->Prop}{a a':Act}{w:World}
  (hag:∀t∈o.looksAt ops,a'.tmps[t]?=a.tmps[t]?)(hdf:∀b w',Kc b w'->b.defers=[])(hd0:a'.defers=a.defers)
  (hput:∀u w',Kc (a.put o.dst u) w'->Kr (a'.put o.dst u) w')
  (h:if Region.wanted o (yielded ops a.tmps)then o.wp P a w Kc (fC L)else Kc (a.put o.dst undef) w):wpOp P ops (fC L) j Kr a' w:=by
 unfold wpOp;simp only[hj]
 rw[af3 o hag]
 split
 ·rename_i hw
  rw[if_pos hw]at h
  left;unfold Oper.wp at *
  rw[ZX o hs hag]
  generalize (execOp _ o).run P w=r at *;cases r with
  |ok n w'=>
   cases n<;>simp only[Oper.upon]at h ⊢;case value u=>simp_all
   case skip=>simp_all
   case defer d=>
    have:=hdf _ _ h
    cases hdst:o.dst<;>simp[hdst,Act.put]at this
   case enter f args=>
    refine h.mono ?_;intro e w'' he;cases e with
    |returned u=>simp_all
    |panicked c=>exact he
    |outgrown=>omega
   grind[Rows.mono]
  |halt x w'=>cases x<;>simp only[Oper.upon]at h ⊢ <;> exact h
 simp_all
theorem Kh(m:Nat)(t:Nat):∀(cs:List Nat)(j r:Nat),(yg m cs j r).testBit t=true->r.testBit t=true\/∃k c,cs[k]?=some c/\m.testBit (j+k)=true/\c.testBit t=true
 |[],j,r,h=>.inl h
 |c::cs,j,r,h=>by
  simp only[yg]at h;split at h
  ·rename_i hb;rcases Kh m t cs _ _ h with h'|⟨k,c',h1,h2,h3⟩
   ·rw[lR,Bool.or_eq_true]at h'
    rcases h' with h'|h'
    ·exact .inr ⟨0,c,rfl,hb,h'⟩
    simp_all
   ·exact .inr ⟨k+1,c',by simp_all,by grind,h3⟩
  ·rcases Kh m t cs _ _ h with h'|⟨k,c',h1,h2,h3⟩
   ·simp_all
   ·exact .inr ⟨k+1,c',by simpa using h1,by rw[<- h2];congr 1;omega,h3⟩
def tw(infos:List Info)(clos:List Nat):Prop:=∀(i c:Nat),clos[i]?=some c->∃m,infos[i]?=some m/\∀t,c.testBit t=true->m.wait.testBit t=true\/∃k c',k<i/\clos[k]?=some c'/\m.wait.testBit k=true/\c'.testBit t=true
theorem Zb(infos:List Info):∀(ms:List Info)(acc:List Nat),(∀k,ms[k]?=infos[acc.length+k]?)->tw infos acc->tw infos (CX ms acc)
 |[],acc,_,h=>h
 |m::ms,acc,hm,h=>by
  simp only[CX,jf];have h0:infos[acc.length]?=some m:=by simpa using (hm 0).symm
  refine Zb infos ms _ (fun k=>?_) ?_
  ·have:=hm (k+1)
   grind
  ·intro i c hc;rcases Nat.lt_or_ge i acc.length with hi|hi
   ·rw[List.getElem?_append_left hi]at hc
    obtain⟨m',h1,h2⟩:=h i c hc
    refine⟨m',h1,fun t ht=>?_⟩
    rcases h2 t ht with h3|⟨k,c',k1,k2,k3,k4⟩
    ·simp_all
    ·exact .inr ⟨k,c',k1,by grind,k3,k4⟩
   grind[List.getElem?_append_right,Nat.lt_or_ge,List.getElem?_eq_none,Kh,List.getElem?_eq_some_iff,List.getElem?_append_left]
def AH(infos:List Info)(r:Nat):Prop:=∀i m,infos[i]?=some m->r.testBit i=true->∀j,m.wait.testBit j=true->r.testBit j=true
theorem Za{infos:List Info}{clos:List Nat}(hg:tw infos clos){r:Nat}(hd:AH infos r):∀(i c:Nat)(m:Info),clos[i]?=some c->infos[i]?=some m->(∀j,m.wait.testBit j=true->r.testBit j=true)->∀t,c.testBit t=true->r.testBit t=true:=by
 intro i;induction i using Nat.strongRecOn with
 |_ i ih=>
  intro c m hc hm hw t ht
  obtain⟨m',h1,h2⟩:=hg i c hc
  rw[hm]at h1
  simp only[Option.some.injEq]at h1;subst h1;rcases h2 t ht with h3|⟨k,c',k1,k2,k3,k4⟩
  ·simp_all
  ·obtain⟨mk,g1,_⟩:=hg k c' k2
   exact ih k k1 c' mk k2 g1 (hd k mk g1 (hw k k3)) t k4
theorem Ko(dst t:Nat):∀(ms:List Info)(j r:Nat),r.testBit t=true->(n8 dst ms j r).testBit t=true
 |[],j,r,h=>h
 |m::ms,j,r,h=>by
  simp only[n8];split
  ·exact Ko _ t ms _ _ h
  ·exact Ko _ t ms _ _ (by simp_all)
theorem Kn(dst t:Nat):∀(ms:List Info)(j r:Nat)(k:Nat)(m:Info),ms[k]?=some m->j+k=t->Nat.beq (Nat.land dst (Nat.lor m.reads m.dst)) 0=false->(n8 dst ms j r).testBit t=true
 |[],j,r,k,m,h,_,_=>by simp at h
 |x::ms,j,r,k,m,h,e,hb=>by
  simp only[n8];cases k with
  |zero=>
   simp_all[Ko]
  |succ k=>
   have h':ms[k]?=some m:=by simp_all
   split
   ·exact Kn _ t ms _ _ k m h' (by omega) hb
   ·exact Kn _ t ms _ _ k m h' (by omega) hb
end
end Go.SX

namespace Go.SX
section
variable {P:Program} {tb:Tab} (ht:TabOk P tb) (hng:∀(f:Nat)(fn:Func),P.funcs[f]? =some fn->(fn.name == "runtime.NumGoroutine")=false)
structure AtNode (infos:List Info) (n listed used:Nat):Prop where
 down:AH infos listed
 lt:∀i,listed.testBit i=true->i<n
 used:∀i m,infos[i]?=some m->listed.testBit i=true->∀t,(m.reads.testBit t=true\/m.dst.testBit t=true)->used.testBit t=true
structure Behind (P:Program) (ops:Array Oper) (listed neu real:Nat) (a a':Act) (w:World):Prop where
 sub:∀i,real.testBit i=true->listed.testBit i=true
 down:AH (aY ops.toList ops.toList) real
 neu:∀i,listed.testBit i=true->real.testBit i=false->neu.testBit i=true
 yields:∀i o,ops[i]?=some o->listed.testBit i=true->real.testBit i=false->∃v,YieldsAt P ops o v a w/\∀d,o.dst=some d->d<a.tmps.size->a.tmps[d]?=some v
 conf:∀i j oi oj,ops[i]?=some oi->ops[j]?=some oj->listed.testBit i=true->real.testBit i=false->listed.testBit j=true->real.testBit j=false->
  ∀d,oj.dst=some d->(d∈oi.looksAt ops\/(i≠j/\oi.dst=some d))->i≠j/\(cv ops.toList oi).wait.testBit j=true
 size:a'.tmps.size=a.tmps.size
 tmps:∀s,(∀i o,ops[i]?=some o->listed.testBit i=true->real.testBit i=false->o.dst≠some s)->a'.tmps[s]?=a.tmps[s]?
 defers:a'.defers=a.defers
theorem vP(a:Act)(d:Option Tmp)(v:Value):(a.put d v).tmps.size=a.tmps.size:=by cases d<;>simp[Act.put]
theorem FE(a:Act)(d:Option Tmp)(v:Value):(a.put d v).defers=a.defers:=by cases d<;>rfl
theorem vO(a:Act){d:Option Tmp}(v:Value){s:Nat}(h:d≠some s):(a.put d v).tmps[s]?=a.tmps[s]?:=by
 cases d with
 |none=>rfl
 |some d=>
  simp_all[Act.put]
theorem FF(a:Act){d:Nat}(v:Value)(h:d<a.tmps.size):(a.put (some d) v).tmps[d]?=some v:=by
 simp[Act.put,h]
theorem MZ(a:Act){d:Nat}(v:Value)(h:¬d<a.tmps.size):(a.put (some d) v).tmps[d]?=none:=by
 simp_all[Act.put]
theorem aA1(a b t:Nat):(andNot a b).testBit t=(a.testBit t && !b.testBit t):=by
 unfold andNot;have h1:(Nat.xor a _).testBit t=((a.testBit t) ^^ (Nat.land a b).testBit t):=Nat.testBit_xor a _ t;grind[u0]
theorem zj{ops:Array Oper}:∀(l:List Oper)(k:Nat),jK (aY ops.toList l) k=true->(∀j,l[j]?=ops[k+j]?)->
  ∀i j x y,k<=i->i<j->ops[i]?=some x->ops[j]?=some y->(cv ops.toList y).wait.testBit i=true\/x.apart ops y=true
 |[],k,_,hl,i,j,x,y,hki,_,hx,_=>by
  have:=hl (i-k)
  simp_all
 |o::l,k,h,hl,i,j,x,y,hki,hij,hx,hy=>by
  have h0:=by simpa using (hl 0).symm
  have hl':∀j,l[j]?=ops[k+1+j]?:=fun j=>by have:=hl (j+1);grind
  simp only[aY,jK]at h;split at h
  ·split at h
   ·rename_i hrest;by_cases e:i=k
    ·subst e
     rw[h0]at hx;cases hx
     by_cases hw:(cv ops.toList y).wait.testBit i=true
     ·simp_all
     ·right;have hlj:=hl' (j-(i+1))
      rw[show i+1+(j-(i+1))=j by omega,hy]at hlj
      refine LX _ l hrest _ y hlj ?_;intro e' he hb hon;exact hw ((o6 _ _).2 ⟨e',by simp_all,hb,hon⟩)
    ·exact zj l _ h hl' i j x y (by omega) hij hx hy
   ·cases h
  ·cases h
theorem aby{ops:Array Oper}:∀(l:List Oper)(k:Nat),jK (aY ops.toList l) k=true->(∀j,l[j]?=ops[k+j]?)->
  ∀i x,k<=i->ops[i]?=some x->∀t,(cv ops.toList x).wait.testBit t=true->t<i
 |[],k,_,hl,i,x,hki,hx=>by
  have:=hl (i-k)
  simp_all
 |o::l,k,h,hl,i,x,hki,hx=>by
  have h0:=by simpa using (hl 0).symm
  have hl':∀j,l[j]?=ops[k+1+j]?:=fun j=>by have:=hl (j+1);grind
  simp only[aY,jK]at h;split at h
  ·split at h
   ·by_cases e:i=k
    ·grind[YJ]
    ·exact aby l _ h hl' i x (by omega) hx
   ·cases h
  ·cases h
def qD(n r:Nat):Nat:=(List.range n).countP fun i=>!r.testBit i
theorem afX{n r i:Nat}(hi:i<n)(h:r.testBit i=false):qD n (Nat.lor (Nat.pow 2 i) r)<qD n r:=by
 unfold qD;have hsplit:List.range n=(List.range n).take i++i::(List.range n).drop (i+1):=by
  grind[List.take_append_drop,List.drop_eq_getElem_cons]
 have hle:∀l:List _,l.countP (fun j=>!(Nat.lor (Nat.pow 2 i) r).testBit j)<=l.countP (fun j=>!r.testBit j):=by
  simp_all[List.countP_mono_left]
 have e1:(!(Nat.lor (Nat.pow 2 i) r).testBit i)=false:=by simp_all
 grind
theorem aJU{n r:Nat}(h:qD n r=0):∀i,i<n->r.testBit i=true:=by
 simp_all[qD]
def zu(n r:Nat):Array Bool:=(Array.range n).map fun i=>r.testBit i
theorem abO{n r:Nat}(h:∀i,r.testBit i=true->i<n):MaskOk n r (zu n r):=by
 refine⟨by simp[zu],fun j=>?_⟩
 simp only[zu,Array.getD_eq_getD_getElem?];grind
theorem oX{ops:Array Oper}{r:Nat}{lst:Array Bool}(hm:MaskOk ops.size r lst){j:Nat}:j∈Region.ready .any ops lst↔r.testBit j=false/\∃o,ops[j]?=some o/\∀t,(cv ops.toList o).wait.testBit t=true->r.testBit t=true:=by
 rw[mem_ready]
 constructor
 ·rintro⟨h1,o,ho,hall⟩
  rw[mL (by grind),hm.2]at h1
  refine⟨h1,o,ho,fun t ht=>?_⟩
  obtain⟨e,he,hb,rfl⟩:=(o6 _ _).1 ht
  have:=hall e (by simp_all) hb
  rwa [hm.2]at this
 ·rintro⟨h1,o,ho,hall⟩
  have hlt:=(Array.getElem?_eq_some_iff.1 ho).1
  refine⟨by rw[mL (by rw[hm.1];omega),hm.2];omega,o,ho,fun e he hb=>?_⟩
  rw[hm.2]
  exact hall _ ((o6 _ _).2 ⟨e,by simp_all,hb,rfl⟩)
theorem sA{ops:Array Oper}{i:Nat}{o:Oper}(h:ops[i]?=some o):(aY ops.toList ops.toList)[i]?=some (cv ops.toList o):=by
 simp_all[Lr]
theorem DU{ops:Array Oper}{i:Nat}{m:Info}(h:(aY ops.toList ops.toList)[i]?=some m):∃o,ops[i]?=some o/\m=cv ops.toList o:=by
 grind[Lr]
theorem Behind.advance{ops:Array Oper}{listed used neu real:Nat}{a a':Act}{w:World}(hb:Behind P ops listed neu real a a' w)(hs:∀(j:Nat)(o:Oper) cs b,ops[j]?=some o->o.op≠.select cs b)
  (hlex:jK (aY ops.toList ops.toList) 0=true)(hnode:AtNode (aY ops.toList ops.toList) ops.size listed used)
  {k:Nat}{o:Oper}{v:Value}(hk:ops[k]?=some o)(hkl:listed.testBit k=false)
  (hy:YieldsAt P ops o v a w)(hself:∀d,o.dst=some d->d∉o.looksAt ops)
  (hconf:∀i oi,ops[i]?=some oi->listed.testBit i=true->real.testBit i=false->∀d,o.dst=some d->d∉oi.looksAt ops/\oi.dst≠some d):
  Behind P ops (Nat.lor (Nat.pow 2 k) listed) (Nat.lor (Nat.pow 2 k) neu) real (a.put o.dst v) a' w:=by
 have hbit:∀i,(Nat.lor (Nat.pow 2 k) listed).testBit i=true->i=k\/listed.testBit i=true:=by
  intro i h
  rw[lR,vL,Bool.or_eq_true,decide_eq_true_eq]at h
  grind
 refine⟨fun i hi=>?_,hb.down,fun i h1 h2=>?_,fun i oi hoi h1 h2=>?_,fun i j oi oj hoi hoj h1 h2 h3 h4 d hd hor=>?_,by rw[vP];exact hb.size,fun s hsl=>?_,by rw[FE];exact hb.defers⟩
 ·rw[lR,hb.sub i hi];simp
 ·rw[lR]
  rcases hbit i h1 with rfl|h
  ·simp_all
  ·rw[hb.neu i h h2];simp
 ·by_cases e:i=k
  ·subst e
   rw[hk]at hoi;cases hoi
   refine⟨v,hy.agree (hs i o · · hk) fun t ht=>?_,fun d hd hlt=>?_⟩
   all_goals grind[vO,vP,FF]
  ·have hli:listed.testBit i=true:=(hbit i h1).resolve_left e
   obtain⟨u,hu1,hu2⟩:=hb.yields i oi hoi hli h2
   refine⟨u,hu1.agree (hs i oi · · hoi) fun t ht=>?_,fun d hd hlt=>?_⟩
   all_goals grind[vO,vP]
 ·by_cases ei:i=k
  ·subst ei
   rw[hk]at hoi;cases hoi
   by_cases ej:j=i
   ·simp_all
   ·have hlj:listed.testBit j=true:=(hbit j h3).resolve_left ej
    refine⟨fun e=>ej e.symm,?_⟩
    rcases Nat.lt_trichotomy j i with hji|hji|hji
    ·rcases zj ops.toList 0 hlex (fun j=>by simp) j i oj o (Nat.zero_le _) hji hoj hk with hw | hap
     all_goals grind[Oper.apart_spec,absurd]
    ·omega
    ·rcases zj ops.toList 0 hlex (fun j=>by simp) i j o oj (Nat.zero_le _) hji hk hoj with hw | hap
     ·have:=hnode.down j _ (sA hoj) hlj i hw
      simp_all
     grind[Oper.apart_spec,absurd]
  ·have hli:listed.testBit i=true:=(hbit i h1).resolve_left ei;by_cases ej:j=k
   ·grind
   ·exact hb.conf i j oi oj hoi hoj hli h2 ((hbit j h3).resolve_left ej) h4 d hd hor
 ·have hne:o.dst≠some s:=hsl k o hk (by simp_all) (by
   cases hr:real.testBit k with
   |false=>rfl
   |true=>rw[hb.sub k hr]at hkl;omega)
  rw[vO _ _ hne]
  exact hb.tmps s fun i oi hoi h1 h2=>hsl i oi hoi (by simp_all) h2
theorem Behind.catch{ops:Array Oper}{listed neu real:Nat}{a a':Act}{w:World}(hb:Behind P ops listed neu real a a' w)(hs:∀(j:Nat)(o:Oper) cs b,ops[j]?=some o->o.op≠.select cs b)
  {j:Nat}{o:Oper}(hj:ops[j]?=some o)(hl:listed.testBit j=true)(hr:real.testBit j=false)(hw:∀t,(cv ops.toList o).wait.testBit t=true->real.testBit t=true):
  ∃v,YieldsAt P ops o v a' w/\Behind P ops listed neu (Nat.lor (Nat.pow 2 j) real) a (a'.put o.dst v) w:=by
 obtain⟨v,hv1,hv2⟩:=hb.yields j o hj hl hr
 have hbit:∀i,(Nat.lor (Nat.pow 2 j) real).testBit i=true↔i=j\/real.testBit i=true:=by
  intro i
  rw[lR,vL,Bool.or_eq_true,decide_eq_true_eq]
  grind
 have hnb:∀i,(Nat.lor (Nat.pow 2 j) real).testBit i=false->i≠j/\real.testBit i=false:=by
  grind
 refine⟨v,hv1.agree (hs j o · · hj) fun t ht=>hb.tmps t fun i oi hoi h1 h2 hd=>?_,fun i hi=>?_,fun i m hm hi t ht=>?_,fun i h1 h2=>hb.neu i h1 (hnb i h2).2,fun i oi hoi h1 h2=>hb.yields i oi hoi h1 (hnb i h2).2,
  fun i k oi ok hoi hok h1 h2 h3 h4=>hb.conf i k oi ok hoi hok h1 (hnb i h2).2 h3 (hnb k h4).2,by rw[vP];exact hb.size,fun s hsl=>?_,by rw[FE];exact hb.defers⟩
 ·obtain⟨hne,hwt⟩:=hb.conf j i o oi hj hoi hl hr h1 h2 t hd (.inl ht)
  simp_all
 ·rcases (hbit i).1 hi with rfl|h
  ·omega
  ·exact hb.sub i h
 ·rcases (hbit i).1 hi with rfl|h
  ·obtain⟨o',ho',rfl⟩:=DU hm
   simp_all
  ·exact(hbit t).2 (.inr (hb.down i m hm h t ht))
 ·by_cases hd:o.dst=some s
  ·rw[hd]
   by_cases hlt:s<a.tmps.size
   ·rw[FF _ _ (by rw[hb.size];omega),hv2 s hd hlt]
   ·rw[MZ _ _ (by rw[hb.size];omega)]
    simp_all
  ·rw[vO _ _ hd]
   refine hb.tmps s fun i oi hoi h1 h2=>?_
   grind
end
end Go.SX

namespace Go.SX
section
variable {P:Program} {tb:Tab} (ht:TabOk P tb) (hng:∀(f:Nat)(fn:Func),P.funcs[f]? =some fn->(fn.name == "runtime.NumGoroutine")=false)
theorem oT(k listed i:Nat):(Nat.lor (Nat.pow 2 k) listed).testBit i=true↔i=k\/listed.testBit i=true:=by
 rw[lR,vL,Bool.or_eq_true,decide_eq_true_eq]
 grind
theorem AtNode.next{ops:Array Oper}{listed used:Nat}(h:AtNode (aY ops.toList ops.toList) ops.size listed used){k:Nat}{o:Oper}(hk:ops[k]?=some o)
  (hw:∀t,(cv ops.toList o).wait.testBit t=true->listed.testBit t=true):
  AtNode (aY ops.toList ops.toList) ops.size (Nat.lor (Nat.pow 2 k) listed) (Nat.lor (Nat.lor (cv ops.toList o).reads (cv ops.toList o).dst) used):=by
 refine⟨fun i m hm hi j hj=>?_,fun i hi=>?_,fun i m hm hi t ht=>?_⟩
 ·rw[oT]at hi ⊢
  rcases hi with rfl|hi
  ·obtain⟨o',ho',rfl⟩:=DU hm
   simp_all
  ·exact .inr (h.down i m hm hi j hj)
 ·rcases (oT _ _ _).1 hi with rfl|hi
  ·grind
  ·exact h.lt i hi
 ·rw[lR,lR]
  rcases (oT _ _ _).1 hi with rfl|hi
  ·obtain⟨o',ho',rfl⟩:=DU hm
   simp_all
  ·rw[h.used i m hm hi t ht];simp
def AI(P:Program)(ops:Array Oper)(K:Act->World->Prop)(listed neu:Nat)(a:Act)(w:World):Prop:=
 ∀(fuel real:Nat)(lst:Array Bool)(a':Act),MaskOk ops.size real lst->Behind P ops listed neu real a a' w->qD ops.size real<=fuel->wpAny P .any ops (fC K) fuel lst a' w
theorem aeb{ops:Array Oper}(hlex:jK (aY ops.toList ops.toList) 0=true){r:Nat}{lst:Array Bool}(hm:MaskOk ops.size r lst)(h:Region.ready .any ops lst=[]):∀i,i<ops.size->r.testBit i=true:=by
 intro i;induction i using Nat.strongRecOn with
 |_ i ih=>
  intro hi;cases hb:r.testBit i with
  |true=>rfl
  |false=>
   have:i∈Region.ready .any ops lst:=by
    rw[oX hm]
    have ho:=Array.getElem?_eq_getElem hi
    refine⟨hb,_,ho,fun t ht=>?_⟩
    have hlt:=aby _ 0 hlex (fun j=>by simp) i _ (Nat.zero_le _) ho t ht;grind
   simp_all
theorem Lf{ops:Array Oper}(hsel:∀(j:Nat)(o:Oper) cs b,ops[j]?=some o->o.op≠.select cs b)(hlex:jK (aY ops.toList ops.toList) 0=true)
  {K:Act->World->Prop}{listed neu:Nat}{a:Act}{w:World}
  (hend:∀real lst a',MaskOk ops.size real lst->Behind P ops listed neu real a a' w->(∀i,i<ops.size->real.testBit i=true)->K a' w)
  (hstep:∀fuel real lst a',MaskOk ops.size real lst->Behind P ops listed neu real a a' w->qD ops.size real<=fuel+1->∀j,j∈Region.ready .any ops lst->listed.testBit j=false->
   wpOp P ops (fC K) j (wpAny P .any ops (fC K) fuel (lst.setIfInBounds j true)) a' w):AI P ops K listed neu a w:=by
 intro fuel;induction fuel with
 |zero=>
  intro real lst a' hm hb hu;have hall:=aJU (n:=ops.size) (r:=real) (by omega)
  refine⟨?_,hend _ _ a' hm hb hall⟩
  cases hr:Region.ready _ _ _ with
  |nil=>rfl
  |cons j js=>
   have hj:j∈Region.ready .any ops lst:=by simp_all
   obtain⟨h1,o,ho,_⟩:=(oX hm).1 hj
   grind
 |succ fuel ih=>
  intro real lst a' hm hb hu
  refine⟨fun hr=>hend _ _ a' hm hb (aeb hlex hm hr),fun j hj=>?_⟩
  obtain⟨h1,o,ho,hw⟩:=(oX hm).1 hj
  have hlt:=(Array.getElem?_eq_some_iff.1 ho).1;cases hl:listed.testBit j with
  |false=>grind
  |true=>
   obtain⟨v,hv,hb'⟩:=hb.catch hsel ho hl h1 hw
   refine hv.wpOp ho (ih _ _ _ (hm.set hlt) hb' ?_)
   have:=afX hlt h1
   omega
theorem Yp(cs:Nat)(clos:List Nat):∀(rs:List (Nat×Oper×Info)),Cr cs clos rs=true->∀j o m,(j,o,m)∈rs->∃c,clos[j]?=some c/\∀t,cs.testBit t=true->c.testBit t=true
 |[],_,j,o,m,h=>by cases h
 |(i,o',m')::rs,h,j,o,m,hm=>by
  simp only[Cr]at h;split at h
  ·rename_i c hc
   rw[ee]at hc
   split at h
   ·cases hm with
    |head=>
     grind[u0,Nat.eq_of_beq_eq_true]
    |tail _ hm=>exact Yp cs _ rs h j o m hm
   ·cases h
  ·cases h
theorem aCB{ops:Array Oper}{clos:List Nat}(hgood:tw (aY ops.toList ops.toList) clos){listed used:Nat}(hnode:AtNode (aY ops.toList ops.toList) ops.size listed used)
  {o:Oper}(h:Kp ops.toList (aY ops.toList ops.toList) clos listed used (cv ops.toList o)=true):(∀d,o.dst=some d->d∉o.looksAt ops)/\
  ∀ {real:Nat} {lst:Array Bool},MaskOk ops.size real lst->(∀i,real.testBit i=true->listed.testBit i=true)->AH (aY ops.toList ops.toList) real->∀j,j∈Region.ready .any ops lst->listed.testBit j=false->
   ∀i oi,ops[i]?=some oi->listed.testBit i=true->real.testBit i=false->∀d,o.dst=some d->d∉oi.looksAt ops/\oi.dst≠some d:=by
 have hdst:∀d,o.dst=some d->(cv ops.toList o).dst.testBit d=true:=fun d hd=>(px _ _).2 hd
 have hself:Nat.beq (Nat.land (cv ops.toList o).dst (cv ops.toList o).reads) 0=true->∀d,o.dst=some d->d∉o.looksAt ops:=by
  intro hz d hd hm;exact u5 hz d ⟨hdst d hd,(vQ _ _ _).2 hm⟩
 unfold Kp at h;split at h
 ·rename_i hz;have hz':∀t,¬((cv ops.toList o).dst.testBit t=true/\((cv ops.toList o).reads.testBit t=true\/used.testBit t=true)):=by
   rintro t ⟨h1,h2⟩
   refine u5 hz t ⟨h1,?_⟩;simp_all
  refine⟨fun d hd hm=>hz' d ⟨hdst d hd,.inl ((vQ _ _ _).2 hm)⟩,?_⟩
  intro real lst hm hsub hdown j hj hjl i oi hoi h1 h2 d hd
  refine⟨fun hmem=>hz' d ⟨hdst d hd,.inr (hnode.used i _ (sA hoi) h1 d (.inl ((vQ _ _ _).2 hmem)))⟩,fun he=>hz' d ⟨hdst d hd,.inr (hnode.used i _ (sA hoi) h1 d (.inr ((px _ _).2 he)))⟩⟩
 ·rw[Bool.and_eq_true]at h
  obtain⟨hz,hall⟩:=h
  refine⟨hself hz,?_⟩
  intro real lst hm hsub hdown j hj hjl i oi hoi h1 h2 d hd
  obtain⟨hr,oj,hoj,hw⟩:=(oX hm).1 hj
  have harr:=abO hnode.lt;have hj':=(oX harr).2 ⟨hjl,oj,hoj,fun t ht=>hsub t (hw t ht)⟩
  obtain⟨oj',ho',hmem⟩:=vR harr ops.toList 0 (fun j=>by simp) j (Nat.zero_le _) hj'
  obtain⟨c,hc,hcs⟩:=Yp _ _ _ hall j _ _ hmem
  have key:(n8 (cv ops.toList o).dst (aY ops.toList ops.toList) 0 0).testBit i=true->False:=by
   intro hcf;have h3:(Nat.land (n8 (cv ops.toList o).dst (aY ops.toList ops.toList) 0 0) listed).testBit i=true:=by simp_all
   have h4:=hcs i h3;have h5:=Za hgood hdown j c _ hc (sA hoj) hw i h4;simp_all
  have hnz:((cv ops.toList oi).reads.testBit d=true\/(cv ops.toList oi).dst.testBit d=true)->False:=by
   intro hx;refine key (Kn _ i _ 0 0 i _ (sA hoi) (by omega) ?_);cases hb:Nat.beq _ 0 with
   |false=>rfl
   |true=>
    exfalso;refine u5 hb d ⟨hdst d hd,?_⟩;simp_all
  exact⟨fun hmem=>hnz (.inl ((vQ _ _ _).2 hmem)),fun he=>hnz (.inr ((px _ _).2 he))⟩
include ht in
theorem J9{ops:Array Oper}(hsel:∀(j:Nat)(o:Oper) cs b,ops[j]?=some o->o.op≠.select cs b)(hlex:jK (aY ops.toList ops.toList) 0=true){clos:List Nat}(hgood:tw (aY ops.toList ops.toList) clos)
  {K:Act->World->Prop}{B:Base}{ρ:Env}{st:St}{w:World}(hr:RepW B ρ st w){os:List Out}{kk:Nat->Nat->Nat->Tm->Option E->aT}
  (hend:∀listed used neu t pend a,kk listed used neu t pend=some os->AtNode (aY ops.toList ops.toList) ops.size listed used->TmRep ρ t a->AI P ops K listed neu a w):
  ∀(l:List Oper)(i:Nat),(∀j,l[j]?=ops[i+j]?)->∀(listed used neu:Nat)(t:Tm)(a:Act),mD P tb ops.toList (aY ops.toList ops.toList) clos st l (aY ops.toList l) i listed used neu t kk=some os->
   AtNode (aY ops.toList ops.toList) ops.size listed used->TmRep ρ t a->AI P ops K listed neu a w
 |[],i,hl,listed,used,neu,t,a,h,hnode,hT=>by
  grind[mD]
 |o::l,i,hl,listed,used,neu,t,a,h,hnode,hT=>by
  have h0:=by simpa using (hl 0).symm
  have hl':∀j,l[j]?=ops[i+1+j]?:=fun j=>by have:=hl (j+1);grind
  have skip:=J9 hsel hlex hgood hr hend l _ hl' listed used neu t a;simp only[aY,mD]at h;split at h
  ·simp_all
  ·rename_i hbit;split at h
   ·split at h
    ·rename_i v hv;split at h
     ·rename_i hconf
      rw[jR,jf,jf,jf]at h
      obtain⟨hy,hvk⟩:=ac3 (P:=P) (ops:=ops) ht hv hr hT
      have hwait:∀t,(cv ops.toList o).wait.testBit t=true->listed.testBit t=true:=by
       grind[u0,Nat.eq_of_beq_eq_true]
      obtain⟨hself,hcf⟩:=aCB hgood hnode hconf
      have hnext:=J9 hsel hlex hgood hr hend l _ hl' _ _ _ _ _ h (hnode.next h0 hwait) (hT.put _ _ hvk);have hlt:=(Array.getElem?_eq_some_iff.1 h0).1;refine Lf hsel hlex (fun real lst a' hm hb hall=>?_) (fun fuel real lst a' hm hb hu j hj hjl=>?_)
      ·have:=hb.sub i (hall i hlt)
       simp_all
      ·have hb':=hb.advance hsel hlex hnode h0 hbit hy hself (hcf hm hb.sub hb.down j hj hjl)
       exact(hnext _ _ _ a' hm hb' hu).2 j hj
     simp_all
    all_goals grind
   simp_all
theorem YW{rec:cq}{ops:Array Oper}{clos:List Nat}{listed used neu:Nat}{t:Tm}{st:St}{ih:Nat->Nat->Nat->Tm->St->aT}:∀(rs:List (Nat×Oper×Info))(os:List Out),
  CS P tb rec ops.toList (aY ops.toList ops.toList) clos listed used neu t st ih rs=some os->∀i o m,(i,o,m)∈rs->∃c os',clos[i]?=some c/\(∀x∈os',x∈os)/\
   qx P tb rec ops.toList o t st (fun t' st'=>match qn P tb ops.toList t' st' (andNot neu c) ops.toList 0 with
    |true=>ih (Nat.lor (Nat.pow 2 i) listed) (Nat.lor (Nat.lor m.reads m.dst) used) (andNot neu c) t' st'
    |false=>none)=some os'
 |[],os,h,i,o,m,hm=>by cases hm
 |(i',o',m')::rs,os,h,i,o,m,hm=>by
  simp only[CS]at h;split at h
  ·rename_i c hc
   rw[ee]at hc
   split at h
   ·split at h
    ·rename_i os2 h2;simp only[Option.some.injEq]at h;subst h;cases hm with
     |head=>
      grind[jf]
     |tail _ hm=>
      obtain⟨c',os',k1,k2,k3⟩:=YW rs _ h2 i o m hm
      simp_all
    ·cases h
   ·cases h
  ·cases h
include ht in
theorem aec{B:Base}{ρ:Env}{st:St}{w:World}{ops:Array Oper}{t:Tm}{a:Act}{neu:Nat}(hr:RepW B ρ st w)(hT:TmRep ρ t a):∀(l:List Oper)(i:Nat),(∀j,l[j]?=ops[i+j]?)->qn P tb ops.toList t st neu l i=true->
  ∀k o,i<=k->ops[k]?=some o->neu.testBit k=true->∃v,YieldsAt P ops o v a w/\∀d,o.dst=some d->d<a.tmps.size->a.tmps[d]?=some v
 |[],i,hl,h,k,o,hik,hk,hn=>by
  have:=hl (k-i)
  simp_all
 |x::l,i,hl,h,k,o,hik,hk,hn=>by
  have h0:=by simpa using (hl 0).symm
  have hl':∀j,l[j]?=ops[i+1+j]?:=fun j=>by have:=hl (j+1);grind
  simp only[qn]at h;by_cases e:k=i
  ·subst e
   rw[h0]at hk;cases hk
   rw[hn]at h
   simp only at h;split at h
   ·rename_i v hv
    obtain⟨hy,_⟩:=ac3 (P:=P) (ops:=ops) ht hv hr hT
    refine⟨_,hy,fun d hd hlt=>?_⟩
    rw[hd]at h
    simp only at h;split at h
    ·rename_i u hu;split at h
     ·rename_i hb
      rw[Bool.and_eq_true]at hb
      have:=SV.beq_eq _ _ hb.2
      subst this;exact hT.at hu (by grind[SV.isJunk])
     ·cases h
    ·cases h
   ·cases h
  ·refine aec hr hT l _ hl' ?_ k o (by omega) hk hn;grind
include ht hng in
theorem aCh{ops:Array Oper}(hsel:∀(j:Nat)(o:Oper) cs b,ops[j]?=some o->o.op≠.select cs b)(hlex:jK (aY ops.toList ops.toList) 0=true){clos:List Nat}(hgood:tw (aY ops.toList ops.toList) clos)
  {q:Nat}{rec:cq}(hrec:RunOk P tb q rec){K:Act->World->Prop}{B:Base}{ρ0:Env}{k:fG}{os0:List Out}(hK:ContRes B ρ0 K k os0):
  ∀(n listed used neu:Nat)(t:Tm)(st:St)(os:List Out),uv P tb rec ops.toList (aY ops.toList ops.toList) clos k n listed used neu t st=some os->(∀x∈os,x∈os0)->
   ∀(ρ:Env)(a:Act)(w:World),ρ0.Ext ρ->RepW B ρ st w->TmRep ρ t a->AtNode (aY ops.toList ops.toList) ops.size listed used->AI P ops K listed neu a w:=by
 intro n;induction n with
 |zero=>intro listed used neu t st os h;cases h
 |succ n ih=>
  intro listed used neu t st os h hsub ρ a w he hr hT hnode;have h':mD P tb ops.toList (aY ops.toList ops.toList) clos st ops.toList (aY ops.toList ops.toList) 0 listed used neu t (fun listed used neu tmps pend=>match pend with
   |some e=>gY (uv P tb rec ops.toList (aY ops.toList ops.toList) clos k n listed used neu tmps {st with pc:=e::st.pc}) (uv P tb rec ops.toList (aY ops.toList ops.toList) clos k n listed used neu tmps {st with pc:=bm e::st.pc})
   |none=>J8 P tb rec ops.toList (aY ops.toList ops.toList) clos listed used neu tmps st k (uv P tb rec ops.toList (aY ops.toList ops.toList) clos k n))=some os:=h
  clear h;refine J9 ht hsel hlex hgood hr ?_ ops.toList 0 (fun j=>by simp) listed used neu t a h' hnode hT;clear h' hnode hT listed used neu t a;intro listed used neu t pend a h hnode hT;cases pend with
  |some e=>
   obtain⟨l,m,h1,h2,h3,h4⟩:=mQ h
   by_cases hb:e.B ρ=true
   ·exact ih _ _ _ _ _ _ h1 (fun x hx=>hsub x (h3 x hx)) ρ a w he (hr.assume hb) hT hnode
   ·exact ih _ _ _ _ _ _ h2 (fun x hx=>hsub x (h4 x hx)) ρ a w he (hr.assume (by simp_all[iA])) hT hnode
  |none=>
   simp only[J8]at h;have harr:=abO hnode.lt;split at h
   ·rename_i hrd;have hall:∀i,i<ops.size->listed.testBit i=true:=by
     refine aeb hlex harr ?_;cases hx:Region.ready .any ops (zu ops.size listed)with
     |nil=>rfl
     |cons j js=>
      obtain⟨o,_,hmem⟩:=vR harr ops.toList 0 (fun j=>by simp) j (Nat.zero_le _) (by simp_all)
      simp_all
    refine Lf hsel hlex (fun real lst a' hm hb hreal=>?_) (fun fuel real lst a' hm hb hu j hj hjl=>?_)
    ·have hsame:a'=a:=by
      have h1:a'.tmps=a.tmps:=by
       refine Array.ext (hb.size) fun i h1 h2=>?_
       have:=hb.tmps i fun k o ho hl hr'=>by
        grind
       simp_all
      have h2:=hb.defers;cases a;cases a';simp_all
     rw[hsame]
     exact hK t st ρ a w os h hsub he hr hT
    ·obtain⟨_,o,ho,_⟩:=(oX hm).1 hj
     grind
   ·rename_i hrd;refine Lf hsel hlex (fun real lst a' hm hb hreal=>?_) (fun fuel real lst a' hm hb hu j hj hjl=>?_)
    ·exfalso;cases hx:gu listed ops.toList (aY ops.toList ops.toList) 0 with
     |nil=>simp_all
     |cons y ys=>
      obtain⟨i,o,m⟩:=y
      have hi:=readyFrom_conv' harr ops.toList 0 (fun j=>by simp) i o m (by simp_all)
      obtain⟨h1,o',ho',_⟩:=(oX harr).1 hi
      rw[hb.sub i (hreal i (Array.getElem?_eq_some_iff.1 ho').1)]at h1
      cases h1
    ·obtain⟨hrj,o,ho,hw⟩:=(oX hm).1 hj
     have hlt:=(Array.getElem?_eq_some_iff.1 ho).1;have hj':j∈Region.ready .any ops (zu ops.size listed):=(oX harr).2 ⟨hjl,o,ho,fun t ht=>hb.sub t (hw t ht)⟩
     obtain⟨o',ho',hmem⟩:=vR harr ops.toList 0 (fun j=>by simp) j (Nat.zero_le _) hj'
     rw[ho]at ho';cases ho'
     obtain⟨c,os',hc,hos',hst⟩:=YW _ _ h j o _ hmem
     have hsop:=ND (P:=P) ht hng hrec hst hr hT (B:=B) (K:=fun b w2=>∃ρ2 t2 st2 os2,qn P tb ops.toList t2 st2 (andNot neu c) ops.toList 0=true/\
       uv P tb rec ops.toList (aY ops.toList ops.toList) clos k n (Nat.lor (Nat.pow 2 j) listed) (Nat.lor (Nat.lor (cv ops.toList o).reads (cv ops.toList o).dst) used) (andNot neu c) t2 st2=some os2/\(∀x∈os2,x∈os0)/\
       ρ0.Ext ρ2/\RepW B ρ2 st2 w2/\TmRep ρ2 t2 b) (by
      intro t2 st2 ρ2 b w2 os2 e1 e2 e3 e4 e5;dsimp only at e1;split at e1
      ·rename_i hrc
       exact⟨ρ2,t2,st2,os2,hrc,e1,fun x hx=>hsub x (hos' x (e2 x hx)),he.trans e3,e4,e5⟩
      simp_all) (fC K)
     have hnoD:∀i oi,ops[i]?=some oi->listed.testBit i=true->real.testBit i=false->∀d,oi.dst=some d->d∉o.looksAt ops:=by
      intro i oi hoi h1 h2 d hd hmem;rcases Nat.lt_trichotomy i j with hij|hij|hij
      ·rcases zj ops.toList 0 hlex (fun j=>by simp) i j oi o (Nat.zero_le _) hij hoi ho with hwt | hap
       all_goals grind[Oper.apart_spec]
      ·simp_all
      ·rcases zj ops.toList 0 hlex (fun j=>by simp) j i o oi (Nat.zero_le _) hij ho hoi with hwt | hap
       ·rw[hnode.down i _ (sA hoi) h1 j hwt]at hjl;cases hjl
       grind[Oper.apart_spec]
     refine aJ4 ho (hsel j o · · ho) (fun s hs=>hb.tmps s fun i oi hoi h1 h2 hd=>hnoD i oi hoi h1 h2 s hd hs) (fun b w' hx=>by
      obtain⟨ρ2,t2,st2,os2,_,_,_,_,_,hT2⟩:=hx;exact hT2.1) hb.defers ?_ hsop
     rintro u w2 ⟨ρ2,t2,st2,os2,hrc,hgo,hsub2,he2,hr2,hT2⟩
     have hw':∀t,(cv ops.toList o).wait.testBit t=true->listed.testBit t=true:=fun t ht=>hb.sub t (hw t ht)
     have hclo:=Za hgood hb.down j c _ hc (sA ho) hw;have hbit:∀i,(Nat.lor (Nat.pow 2 j) real).testBit i=false->i≠j/\real.testBit i=false:=by
      grind[oT]
     have hold:∀i,(Nat.lor (Nat.pow 2 j) listed).testBit i=true->(Nat.lor (Nat.pow 2 j) real).testBit i=false->listed.testBit i=true/\real.testBit i=false:=by
      grind[oT]
     have hneu:∀i,listed.testBit i=true->real.testBit i=false->(andNot neu c).testBit i=true:=by
      intro i h1 h2
      rw[aA1,hb.neu i h1 h2]
      grind
     have hb2:Behind P ops (Nat.lor (Nat.pow 2 j) listed) (andNot neu c) (Nat.lor (Nat.pow 2 j) real) (a.put o.dst u) (a'.put o.dst u) w2:=by
      refine⟨fun i hi=>?_,fun i m hm' hi t ht'=>?_,fun i h1 h2=>?_,fun i oi hoi h1 h2=>?_,fun i i' oi oi' hoi hoi' h1 h2 h3 h4=>?_,by rw[vP,vP];exact hb.size,fun s hs=>?_,by rw[FE,FE];exact hb.defers⟩
      ·rw[oT]at hi ⊢
       exact hi.imp id (hb.sub i)
      ·rw[oT]at hi ⊢
       rcases hi with rfl|hi
       ·obtain⟨o2,ho2,rfl⟩:=DU hm'
        simp_all
       ·exact .inr (hb.down i m hm' hi t ht')
      ·simp_all
      ·obtain⟨k1,k2⟩:=hold i h1 h2
       exact aec ht hr2 hT2 ops.toList 0 (fun j=>by simp) hrc i oi (Nat.zero_le _) hoi (hneu i k1 k2)
      ·obtain⟨k1,k2⟩:=hold i h1 h2
       obtain⟨k3,k4⟩:=hold i' h3 h4
       exact hb.conf i i' oi oi' hoi hoi' k1 k2 k3 k4
      ·by_cases hd:o.dst=some s
       ·rw[hd]
        by_cases hlt':s<a.tmps.size
        ·rw[FF _ _ hlt',FF _ _ (by rw[hb.size];omega)]
        ·rw[MZ _ _ hlt',MZ _ _ (by rw[hb.size];omega)]
       ·rw[vO _ _ hd,vO _ _ hd]
        refine hb.tmps s fun i oi hoi h1 h2=>hs i oi hoi ((oT _ _ _).2 (.inr h1)) ?_
        cases hx:(Nat.lor (Nat.pow 2 j) real).testBit i with
        |false=>rfl
        |true=>
         rcases (oT _ _ _).1 hx with rfl|hx
         all_goals simp_all
     refine ih _ _ _ _ _ _ hgo hsub2 ρ2 _ w2 he2 hr2 hT2 (hnode.next ho hw') fuel _ _ _ (hm.set hlt) hb2 ?_
     have:=afX hlt hrj
     omega
where
 readyFrom_conv' {ops:Array Oper} {m:Nat} {listed:Array Bool} (hm:MaskOk ops.size m listed):∀(l:List Oper)(k:Nat),(∀j,l[j]?=ops[k+j]?)->
   ∀i o inf,(i,o,inf)∈gu m l (aY ops.toList l) k->i∈Region.ready .any ops listed
  |[],k,hl,i,o,inf,h=>by simp[aY,gu]at h
  |o::l,k,hl,i,o',inf,h=>by
   have h0:ops[k]?=some o:=by simpa using (hl 0).symm
   have ih:=readyFrom_conv' hm l (k+1) (fun j=>by have:=hl (j+1);grind) i o' inf;simp only[aY,gu]at h;split at h
   ·exact ih h
   ·rename_i hbit;split at h
    ·rename_i hw;cases h with
     |head=>
      have hlt:k<ops.size:=(Array.getElem?_eq_some_iff.1 h0).1;refine mem_ready.2 ⟨?_,o,h0,(GG hm).1 hw⟩
      rw[mL (by rw[hm.1];omega),hm.2];omega
     |tail _ h=>exact ih h
    simp_all
end
end Go.SX

namespace Go.SX
section
variable {P:Program} {tb:Tab} (ht:TabOk P tb) (hnat:∀x∈tb.nats,aV P x) (hng:∀(f:Nat)(fn:Func),P.funcs[f]? =some fn->(fn.name == "runtime.NumGoroutine")=false)
def Passes(P:Program)(ops:Array Oper)(m n:Nat)(t:Tm)(m' n':Nat)(t':Tm):Prop:=
 ∀(L:Act->World->Prop)(ρ:Env)(a:Act)(lst:Array Bool)(w:World),TmRep ρ t a->MaskOk ops.size m lst->
  (∀a' lst',TmRep ρ t' a'->MaskOk ops.size m' lst'->wpAny P .any ops (fC L) n' lst' a' w)->wpAny P .any ops (fC L) n lst a w
theorem Passes.refl(ops:Array Oper)(m n:Nat)(t:Tm):Passes P ops m n t m n t:=fun L ρ a lst w h1 h2 h3=>h3 a _ h1 h2
theorem Passes.trans{ops:Array Oper}{m n m' n' m'' n'':Nat}{t t' t'':Tm}(h:Passes P ops m n t m' n' t')(k:Passes P ops m' n' t' m'' n'' t''):Passes P ops m n t m'' n'' t'':=
 fun L ρ a lst w h1 h2 h3=>h L ρ a _ w h1 h2 fun a' lst' h4 h5=>k L ρ a' _ w h4 h5 h3
theorem ac8{ops:Array Oper}(hs:jm ops.toList=true):∀(j:Nat)(o:Oper) cs b,ops[j]?=some o->o.op≠.select cs b:=
 fun j o cs b h=>Mp _ hs j o cs b (by simp_all)
theorem ady{ops:Array Oper}(hs:jm ops.toList=true){i m n:Nat}{o:Oper}{t:Tm}{v:SV}(hi:ops[i]?=some o)(hbit:m.testBit i=false)
  (hw:Nat.beq (Nat.land (cv ops.toList o).wait m) (cv ops.toList o).wait=true)(hf:mK m i (cv ops.toList o) (aY ops.toList ops.toList) 0=true)
  (hy:∀(ρ:Env)(a:Act),TmRep ρ t a->YieldsP P ops o (v.den ρ) a)(hvk:∀(ρ:Env)(a:Act),TmRep ρ t a->v.ok ρ):
  Passes P ops m (n+1) t (Nat.lor (Nat.pow 2 i) m) n (match o.dst with | none=>t | some d=>t.set d v):=by
 intro L ρ a lst w h1 h2 h3;have hlt:=(Array.getElem?_eq_some_iff.1 hi).1;refine aJ1 hi (ac8 hs) n _ a w (fun j oj=>?_) ?_ (hy ρ a h1) ?_
 ·exact aap h2 _ 0 (fun j=>by simp) hf j oj (Nat.zero_le j)
 ·refine mem_ready.2 ⟨?_,o,hi,(GG h2).1 hw⟩
  rw[mL (by rw[h2.1];omega),h2.2];omega
 ·exact h3 _ _ (h1.put _ _ (hvk ρ a h1)) (h2.set hlt)
include ht in
theorem adX{Z:Type}{ops:Array Oper}(hs:jm ops.toList=true):∀(l:List Oper)(i m n:Nat)(t:Tm)(k:Nat->Nat->Tm->Z),(∀j,l[j]?=ops[i+j]?)->
  ∃m' n' t',lW P tb ops.toList (aY ops.toList ops.toList) l (aY ops.toList l) i m n t k=k m' n' t'/\Passes P ops m n t m' n' t'
 |[],i,m,n,t,k,hl=>⟨m,n,t,by rfl,Passes.refl _ _ _ _⟩
 |o::l,i,m,n,t,k,hl=>by
  have h0:=by simpa using (hl 0).symm
  have hl':∀j,l[j]?=ops[i+1+j]?:=fun j=>by have:=hl (j+1);grind
  have next:=fun m n t=>adX hs l _ m n t k hl'
  simp only[aY,lW];split
  ·simp_all
  ·rename_i hbit;split
   ·rename_i hw;cases n with
    |zero=>exact⟨m,0,t,rfl,Passes.refl _ _ _ _⟩
    |succ n=>
     simp only;split
     ·rename_i hq;split
      ·rename_i v hv;split
       ·rename_i hf
        rw[jR,jf]
        obtain⟨m',n',t',h1,h2⟩:=next _ n _
        refine⟨m',n',t',h1,(ady hs h0 hbit hw hf ?_ (fun ρ a hT=>Fz hT.wf hv)).trans h2⟩
        intro ρ a hT;have hwant:=Aj (ops:=ops) hT o
        rw[hq]at hwant
        exact .inl ⟨hwant,fun w=>Fy ht hT.eval hT.wf hv w⟩
       simp_all
      simp_all
     ·rename_i hq;split
      ·rename_i hf
       rw[jR,jf]
       obtain⟨m',n',t',h1,h2⟩:=next _ n _
       refine⟨m',n',t',h1,(ady hs h0 hbit hw hf ?_ (fun ρ _ _=>iH ρ)).trans h2⟩
       intro ρ a hT;have hwant:=Aj (ops:=ops) hT o
       rw[hq]at hwant
       exact .inr ⟨hwant,rfl⟩
      simp_all
     simp_all
   simp_all
include ht in
theorem NW{ops:Array Oper}(hs:jm ops.toList=true)(m n:Nat):∀(os:List Out)(acc:List Node),
  (∀x∈acc,x∈o5 P tb ops.toList (aY ops.toList ops.toList) m n os acc)/\
  (∀o∈os,∃x∈o5 P tb ops.toList (aY ops.toList ops.toList) m n os acc,x.st=o.st/\Passes P ops m n o.tmps x.listed x.left x.tmps)
 |[],acc=>⟨fun x hx=>hx,fun o ho=>by cases ho⟩
 |o::os,acc=>by
  simp only[o5]
  obtain⟨m',n',t',h1,h2⟩:=adX (P:=P) ht hs ops.toList 0 m n o.tmps (fun listed left tmps=>
   o5 P tb ops.toList (aY ops.toList ops.toList) m n os (vN acc ⟨listed,left,tmps,o.st⟩)) (fun j=>by simp)
  have hmem:⟨m',n',t',o.st⟩∈vN acc ⟨m',n',t',o.st⟩/\∀x∈acc,x∈vN acc ⟨m',n',t',o.st⟩:=by
   grind[vN,aaF]
  obtain⟨i1,i2⟩:=NW hs m n os (vN acc ⟨m',n',t',o.st⟩)
  grind
include ht in
theorem Zy{rec:cq}{ops:Array Oper}(hs:jm ops.toList=true){x:Node}{n:Nat}:∀(rs:List (Nat×Oper×Info))(acc res:List Node),
  yr P tb rec ops.toList (aY ops.toList ops.toList) x n rs acc=some res->(∀y∈acc,y∈res)/\
  (∀i o inf,(i,o,inf)∈rs->∃os,qx P tb rec ops.toList o x.tmps x.st rZ=some os/\
   ∀o'∈os,∃y∈res,y.st=o'.st/\Passes P ops (Nat.lor (Nat.pow 2 i) x.listed) n o'.tmps y.listed y.left y.tmps)
 |[],acc,res,h=>by
  simp_all[yr]
 |(i,o,inf)::rs,acc,res,h=>by
  simp only[yr]at h;split at h
  ·rename_i os hos
   rw[jf]at h
   obtain⟨h1,h2⟩:=Zy hs rs _ _ h
   obtain⟨k1,k2⟩:=NW (P:=P) ht hs (Nat.lor (Nat.pow 2 i) x.listed) n os acc
   grind
  ·cases h
def avl(P:Program)(tb:Tab)(rec:cq)(ops:Array Oper)(k:fG)(next:List Node)(os:List Out)(x:Node):Prop:=
 (gu x.listed ops.toList (aY ops.toList ops.toList) 0=[]/\∃os',k x.tmps x.st=some os'/\∀y∈os',y∈os)\/
 (gu x.listed ops.toList (aY ops.toList ops.toList) 0≠[]/\∃n,x.left=n+1/\
  ∀i o inf,(i,o,inf)∈gu x.listed ops.toList (aY ops.toList ops.toList) 0->∃os,qx P tb rec ops.toList o x.tmps x.st rZ=some os/\
   ∀o'∈os,∃y∈next,y.st=o'.st/\Passes P ops (Nat.lor (Nat.pow 2 i) x.listed) n o'.tmps y.listed y.left y.tmps)
include ht in
theorem NC{rec:cq}{ops:Array Oper}(hs:jm ops.toList=true){k:fG}:∀(l acc next:List Node)(os:List Out),
  Ac P tb rec ops.toList (aY ops.toList ops.toList) k l acc=some (next,os)->(∀y∈acc,y∈next)/\∀x∈l,avl P tb rec ops k next os x
 |[],acc,next,os,h=>by
  obtain⟨rfl,rfl⟩:=h
  exact⟨fun y hy=>hy,fun x hx=>by cases hx⟩
 |x::l,acc,next,os,h=>by
  simp only[Ac]at h;split at h
  ·rename_i hr;split at h
   ·rename_i os1 hk;split at h
    ·rename_i acc' more hm
     obtain⟨rfl,rfl⟩:=h
     obtain⟨h1,h2⟩:=NC hs l _ _ _ hm
     refine⟨h1,fun y hy=>?_⟩
     cases hy with
     |head=>exact .inl ⟨hr,os1,hk,fun z hz=>List.mem_append.2 (.inl hz)⟩
     |tail _ hy=>
      rcases h2 y hy with⟨e1,os',e2,e3⟩|h3
      ·exact .inl ⟨e1,os',e2,fun z hz=>List.mem_append.2 (.inr (e3 z hz))⟩
      ·exact .inr h3
    ·cases h
   ·cases h
  ·rename_i hr;split at h
   ·cases h
   ·rename_i n hn;split at h
    ·rename_i acc' he
     obtain⟨h1,h2⟩:=NC hs l _ _ _ h
     obtain⟨k1,k2⟩:=Zy (P:=P) ht hs _ _ _ he
     refine⟨fun y hy=>h1 y (k1 y hy),fun y hy=>?_⟩
     cases hy with
     |head=>
      refine .inr ⟨hr,n,hn,fun i o inf hm=>?_⟩;grind
     |tail _ hy=>exact h2 y hy
    ·cases h
theorem aea{ops:Array Oper}{m:Nat}{listed:Array Bool}(hm:MaskOk ops.size m listed):∀(l:List Oper)(k:Nat),(∀j,l[j]?=ops[k+j]?)->
  ∀i o inf,(i,o,inf)∈gu m l (aY ops.toList l) k->i∈Region.ready .any ops listed
 |[],k,hl,i,o,inf,h=>by simp[gu]at h
 |o::l,k,hl,i,o',inf,h=>by
  have h0:=by simpa using (hl 0).symm
  have ih:=aea hm l (k+1) (fun j=>by have:=hl (j+1);grind) i o' inf;simp only[aY,gu]at h;split at h
  ·exact ih h
  ·split at h
   ·rename_i hw;cases h with
    |head=>
     have hlt:=(Array.getElem?_eq_some_iff.1 h0).1;refine mem_ready.2 ⟨?_,o,h0,(GG hm).1 hw⟩
     rw[mL (by rw[hm.1];omega),hm.2];omega
    |tail _ h=>exact ih h
   simp_all
include ht hng in
theorem aH8{n:Nat}{rec:cq}(hrec:RunOk P tb n rec){ops:Array Oper}(hs:jm ops.toList=true){l:List Node}{t:Tm}{st:St}{k:Out->aT}{os:List Out}
  (h:NB P tb rec ops.toList (aY ops.toList ops.toList) l t st k=some os)
  {B:Base}{ρ:Env}{K:Act->World->Prop}(hK:ContRes B ρ K (fun t st=>k ⟨.normal,t,st⟩) os):
  ∀x∈l,∀(ρ':Env)(listed:Array Bool)(a:Act)(w:World),ρ.Ext ρ'->RepW B ρ' x.st w->TmRep ρ' x.tmps a->MaskOk ops.size x.listed listed->wpAny P .any ops (fC K) x.left listed a w:=by
 unfold NB at h;split at h
 ·rename_i next os1 hn
  obtain⟨_,hnodes⟩:=NC (P:=P) ht hs _ _ _ _ hn
  have hos1:∀y∈os1,y∈os:=by
   grind
  have hnext:∀x∈next,∀(ρ':Env)(listed:Array Bool)(a:Act)(w:World),ρ.Ext ρ'->RepW B ρ' x.st w->TmRep ρ' x.tmps a->MaskOk ops.size x.listed listed->wpAny P .any ops (fC K) x.left listed a w:=by
   split at h
   ·simp_all
   ·split at h
    ·rename_i more hm;simp only[Option.some.injEq]at h;intro x hx ρ' listed a w h1 h2 h3 h4;exact hrec.layer ops hs _ _ _ _ _ hm B ρ K (hK.sub (fun y hy=>by grind)) x hx ρ' listed a w h1 h2 h3 h4.1 h4.2
    ·cases h
  intro x hx ρ' listed a w h1 h2 h3 h4;rcases hnodes x hx with⟨hr,os',hk,hsub⟩|⟨hr,m,hm,hall⟩
  ·have hready:Region.ready .any ops listed=[]:=by
    cases hrd:Region.ready .any ops listed with
    |nil=>rfl
    |cons j js=>
     obtain⟨o,_,ho⟩:=vR h4 ops.toList 0 (fun j=>by simp) j (Nat.zero_le _) (by simp_all)
     simp_all
   have hq:fC K .normal a w:=hK x.tmps x.st ρ' a w os' hk (fun y hy=>hos1 y (hsub y hy)) h1 h2 h3;cases x.left with
   |zero=>exact⟨hready,hq⟩
   |succ q=>exact⟨fun _=>hq,fun i hi=>by simp_all⟩
  ·rw[hm]
   refine⟨fun h0=>?_,fun i hi=>?_⟩
   ·exfalso;cases hrd:gu x.listed ops.toList (aY ops.toList ops.toList) 0 with
    |nil=>simp_all
    |cons q qs=>
     obtain⟨i,o,inf⟩:=q
     have:=aea h4 ops.toList 0 (fun j=>by simp) i o inf (by simp_all)
     simp_all
   ·obtain⟨o,ho,hmem⟩:=vR h4 ops.toList 0 (fun j=>by simp) i (Nat.zero_le _) hi
    obtain⟨os',hst,hres⟩:=hall i o _ hmem
    have hlt:i<ops.size:=(Array.getElem?_eq_some_iff.1 ho).1
    have:=ND (P:=P) ht hng hrec hst h2 h3 (K:=fun a' w'=>wpAny P .any ops (fC K) m (listed.setIfInBounds i true) a' w') (by
     intro t' st' ρ2 a2 w2 os2 e1 e2 e3 e4 e5;simp only[rZ,Option.some.injEq]at e1
     obtain⟨y,hy,f1,f2⟩:=hres ⟨.normal,t',st'⟩ (e2 _ (by grind))
     refine f2 K ρ2 a2 _ w2 e5 (h4.set hlt) ?_;intro a3 lst3 g1 g2;exact hnext y hy ρ2 lst3 a3 w2 (h1.trans e3) (by simp_all) g1 g2) (fC K)
    grind[wpOp]
 ·cases h
theorem aJ2{ops:Array Oper}{K K':Act->World->Prop}(hk:∀a w,K a w->K' a w):∀ {fuel:Nat} {lst:Array Bool} {a:Act} {w:World},wpAny P .any ops (fC K) fuel lst a w->wpAny P .any ops (fC K') fuel lst a w:=by
 intro h;exact wpAny_monoQ h
where
 wpAny_monoQ {fuel:Nat} {lst:Array _} {a:Act} {w:World} (h:wpAny P _ _ (fC K) fuel lst a w):wpAny P .any ops (fC K') fuel lst a w:=by
  induction fuel generalizing lst a w with
  |zero=>exact⟨h.1,hk _ _ h.2⟩
  |succ fuel ih=>
   refine⟨fun hr=>hk _ _ (h.1 hr),fun i hi=>?_⟩
   have h2:=h.2 i hi;unfold wpOp at h2 ⊢;split
   ·simp_all
   ·rename_i o ho
    rw[ho]at h2
    simp only at h2;split
    ·rename_i hw
     rw[if_pos hw]at h2
     rcases h2 with h2|h2
     ·left;unfold Oper.wp at *;generalize (execOp _ o).run P w=r at *;cases r with
      |ok n w'=>
       cases n<;>simp only[Oper.upon]at h2 ⊢;case value u=>simp_all
       case skip=>simp_all
       case defer d=>simp_all
       case enter f args=>
        refine h2.mono ?_;intro e w'' he;cases e with
        |returned u=>simp_all
        |panicked c=>exact he
        |outgrown=>exact he
       grind[Rows.mono]
      |halt x w'=>cases x<;>simp only[Oper.upon]at h2 ⊢ <;> exact h2
     ·obtain⟨_,_,_,h'⟩:=h2
      exact h'.elim
    simp_all
theorem aem{B:Base}{ρ:Env}{Q:Exit->Act->World->Prop}{k:Out->aT}{os:List Out}(hK:CodeRes B ρ Q k os):∀(l:List (Tm×St))(os':List Out),M6 k l=some os'->(∀y∈os',y∈os)->
  ∀x∈l,∀(ρ2:Env)(a:Act)(w:World),ρ.Ext ρ2->RepW B ρ2 x.2 w->TmRep ρ2 x.1 a->Q .normal a w
 |[],os',h,hs,x,hx=>by cases hx
 |y::ys,os',h,hs,x,hx=>by
  intro ρ2 a w he hr hT
  obtain⟨l1,l2,h1,h2,h3,h4⟩:=mQ h
  cases hx with
  |head=>exact hK _ _ _ _ _ h1 (fun z hz=>hs z (h3 z hz)) he hr hT
  |tail _ hm=>exact aem hK ys l2 h2 (fun z hz=>hs z (h4 z hz)) x hm _ a w he hr hT
include ht hnat hng in
theorem aH7(hmix:P.follows .mixedOrders=true){n:Nat}{rec:cq}(hrec:RunOk P tb n rec){ops:Array Oper}{t:Tm}{st:St}{k:Out->aT}{os:List Out}
  (h:Nw P tb rec ops.toList ops.size t st k=some os)
  {B:Base}{ρ:Env}{a:Act}{w:World}{Q:Exit->Act->World->Prop}(hr:RepW B ρ st w)(hT:TmRep ρ t a)(hK:CodeRes B ρ Q k os)(id:Nat):(Code.region id ops true).wp P Q a w:=by
 unfold Nw at h;split at h
 ·rename_i hs;have hlayer:rec (.layer ops.toList (aY ops.toList ops.toList) (o5 P tb ops.toList (aY ops.toList ops.toList) 0 ops.size [⟨.normal,t,st⟩] [])) t st k=some os->
    (Code.region id ops true).wp P Q a w:=by
   intro hl;have hq:(Code.region id ops true).wp P (fC (fun a w=>Q .normal a w)) a w:=by
    refine wp_region_any hmix ?_
    obtain⟨_,h2⟩:=NW (P:=P) ht hs 0 _ [⟨.normal,t,st⟩] []
    obtain⟨x,hx,e1,e2⟩:=h2 ⟨.normal,t,st⟩ (by simp)
    refine e2 _ ρ a _ _ hT ⟨by simp,fun j=>?_⟩ ?_
    ·simp[Array.getD_eq_getD_getElem?];grind
    ·intro a' lst' g1 g2;refine hrec.layer _ hs _ _ _ _ _ hl B ρ _ ?_ x hx ρ _ a' _ (Env.Ext.refl ρ) (by rw[e1];exact hr.drew) g1 g2.1 g2.2;exact fun t st ρ' a' w' os' h1 h2 h3 h4 h5=>hK _ _ _ _ _ h1 h2 h3 h4 h5
   refine Go.wp_mono hq (fun e a w he=>?_);cases e<;>first | exact he | exact he.elim
  split at h
  ·rename_i hlex;split at h
   ·-- one order
    rename_i outs ho;have hraw:FH outs=[]:=rfl;have hfull:=aCh (P:=P) ht hng (ac8 hs) hlex (Zb _ _ [] (fun k=>by simp) (fun i c h=>by simp at h)) hrec (K:=fun a w=>∃o∈outs,∃ρ',ρ.Ext ρ'/\RepW B ρ' o.st w/\TmRep ρ' o.tmps a) (B:=B) (ρ0:=ρ) (k:=rZ) (os0:=outs)
     (fun t st ρ' a' w' os' h1 h2 h3 h4 h5=>by
      simp only[rZ]at h1
      exact⟨⟨.normal,t,st⟩,h2 _ (by grind),ρ',h3,h4,h5⟩) _ 0 0 0 t st _ ho (fun x hx=>hx) ρ a _ (Env.Ext.refl ρ) hr.drew hT
     ⟨fun i m _ hi=>by simp at hi,fun i hi=>by simp at hi,fun i m _ hi=>by simp at hi⟩
    have hq:(Code.region id ops true).wp P (fC (fun a w=>Q .normal a w)) a w:=by
     refine wp_region_any hmix (aJ2 ?_ (hfull _ 0 _ a ⟨by simp,fun j=>?_⟩ ?_ ?_))
     ·rintro a' w' ⟨o,hom,ρ',k1,k2,k3⟩
      obtain⟨x,hx,ρ2,g1,g2,g3⟩:=(abQ ht.facts hr.nv hr.nb _ []).2 o hom _ a' w' k1 k2 k3
      grind[aem]
     ·simp[Array.getD_eq_getD_getElem?];grind
     ·exact⟨fun i hi=>hi,fun i m _ hi=>by simp at hi,fun i hi=>by simp at hi,fun i o _ hi=>by simp at hi,fun i j oi oj _ _ hi=>by simp at hi,rfl,fun s _=>rfl,rfl⟩
     simp_all[qD]
    refine Go.wp_mono hq (fun e a w he=>?_);cases e<;>first | exact he | exact he.elim
   ·split at h
    ·rename_i t' hq;refine wp_region_any hmix (wpAny_of_quiet (C:=fun w'=>RepW B ρ st w') (Q:=fun a'=>TmRep ρ t' a') ?_ _ _ _ _ hr.drew ?_)
     ·intro a' w' hw' ha';exact hK _ _ _ _ _ h (fun x hx=>hx) (Env.Ext.refl ρ) hw' ha'
     ·have:=ad3 (P:=P) (C:=fun w'=>RepW B ρ st w') (Q:=fun a'=>TmRep ρ t' a') hs _ 0 (Array.replicate ops.size false) a (fun j=>by simp) ⟨by simp,fun j=>by
       simp[Array.getD_eq_getD_getElem?];grind⟩ hlex (FG ht hnat hng hrec hr _ hq hT)
      omega
    ·rename_i e hq
     obtain⟨l,m,h1,h2,h3,h4⟩:=mQ h
     by_cases hb:e.B ρ=true
     ·exact hrec.draw _ id _ _ _ _ h1 B ρ a w Q (hr.assume hb) hT (hK.sub h3)
     ·exact hrec.draw _ id _ _ _ _ h2 B ρ a w Q (hr.assume (by simp_all[iA])) hT (hK.sub h4)
    simp_all
  simp_all
 ·cases h
include ht hnat hng in
theorem aep(hmix:P.follows .mixedOrders=true)(hloop:∀x∈tb.anns,gA P x):∀n,RunOk P tb n (run P tb n)
 |0=>by
  constructor<;>(simp_all[run])
 |n+1=>by
  have ih:=aep hmix hloop n;constructor
  ·intro g c t st k os hof h B ρ a w Q hr hT hK;exact aH6 ht hnat hng hloop ih hof h hr hT hK
  ·intro g c t st k os hof h B ρ a w Q hr hT hK;exact aIa ih hof h hr hT hK
  ·intro g args t st k os h B ρ w R hr hao hK;exact aH3 ht hnat ih h hr hao hK
  ·intro ops id t st k os h B ρ a w Q hr hT hK;exact aH7 ht hnat hng hmix ih h hr hT hK id
  ·intro ops hs l t st k os h B ρ K hK x hx ρ' listed a w h1 h2 h3 h4 h5;exact aH8 ht hng ih hs h hK x hx _ _ a w h1 h2 h3 ⟨h4,h5⟩
end
end Go.SX

namespace Go.SX
noncomputable section
theorem Yh{G:Type}(l:List G)(i:Nat)(x:G)(h:(T.adds (T.nil:T G) 0 l).get i=some x):l[i]?=some x:=by
 rcases T.get_adds l 0 _ i x h with⟨_,h1⟩|⟨h1,_⟩|⟨h1,_⟩
 ·omega
 ·omega
 ·cases h1
def Ag(P:Program):Tab:=⟨T.adds T.nil 0 P.types.toList,T.adds T.nil 0 P.funcs.toList,[],[],[]⟩
def Tab.plus(tb:Tab)(facts:List E)(anns:List Ann)(nats:List Nat1):Tab:=⟨tb.ty,tb.fn,facts,anns,nats⟩
theorem Ob{Z:Type}(P:Program)(k:Tab->Z):nr P k=k (Ag P):=by
 unfold nr
 rw[T.addsK_eq,T.addsK_eq];rfl
theorem afM(P:Program):TabOk P (Ag P):=
 ⟨fun t i h=>by have:=Yh _ _ _ h;simp_all,fun f fn h=>by have:=Yh _ _ _ h;simp_all,fun e he=>by cases he⟩
theorem TabOk.plus{P:Program}{tb:Tab}(h:TabOk P tb){facts:List E}(hf:∀e∈facts,∀ρ,e.B ρ=true)(anns:List Ann)(nats:List Nat1):TabOk P (tb.plus facts anns nats):=
 ⟨h.ty,h.fn,hf⟩
def lV(P:Program):Bool:=P.funcs.toList.all (fun fn=>!(fn.name == "runtime.NumGoroutine"))&&P.follows .mixedOrders
theorem aFx{P:Program}(h:lV P=true):∀(f:Nat)(fn:Func),P.funcs[f]?=some fn->(fn.name == "runtime.NumGoroutine")=false:=by
 grind[lV]
theorem aFw{P:Program}(h:lV P=true):P.follows .mixedOrders=true:=by
 simp_all[lV]
theorem M9{P:Program}(h:lV P=true){facts:List E}(hf:∀e∈facts,∀ρ,e.B ρ=true){anns:List Ann}(ha:∀x∈anns,gA P x){nats:List Nat1}(hn:∀x∈nats,aV P x)(n:Nat):RunOk P ((Ag P).plus facts anns nats) n (run P ((Ag P).plus facts anns nats) n):=
 aep ((afM P).plus hf _ _) hn (aFx h) (aFw h) ha n
def one(o:Out):aT:=some [o]
def rX(p:Out->Bool)(r:aT):Bool:=
 match r with
 |some l=>l.all p
 |none=>false
theorem aCs{p:Out->Bool}{r:aT}(h:rX p r=true):∃os,r=some os/\∀o∈os,p o=true:=by
 unfold rX at h;grind
theorem aCg{P:Program}(hP:lV P=true){facts:List E}(hf:∀e∈facts,∀ρ,e.B ρ=true){anns:List Ann}(ha:∀x∈anns,gA P x){nats:List Nat1}(hn:∀x∈nats,aV P x){n:Nat}{g:FuncId}{args:List SV}{st:St}{p:Out->Bool}
  (h:nr P (fun tb=>rX p (run P (tb.plus facts anns nats) n (.call g args) .nil st one))=true)
  {B:Base}{ρ:Env}{w:World}(hr:RepW B ρ st w)(hao:SV.oks ρ args):Calls P g (SV.dens ρ args).toArray w fun e w'=>∃(o:Out) (ρ':Env) (v:SV) (l r:T SV),p o=true/\o.tmps=.node v l r/\e=.returned (v.den ρ')/\ρ.Ext ρ'/\RepW B ρ' o.st w'/\v.ok ρ':=by
 rw[Ob]at h
 obtain⟨os,h1,h2⟩:=aCs h
 refine(M9 hP hf ha hn n).call _ _ _ _ _ _ h1 B ρ w _ hr hao ?_
 intro o ρ' w' os' v l r e1 e2 e3 e4 e5 e6;grind[one]
def aaq(w:World):Base:=⟨w,fun _=>none⟩
def Env.at(w:World)(vs:List U):Env:=⟨vs,[],fun r=>w.heap[r]?⟩
theorem E.at_den(w:World)(vs:List U)(e:E):e.den (Env.at w vs)=e.den (Env.of vs):=by
 induction e<;>simp_all only[E.den,Env.at,Env.of]
def tj(n:Nat)(pc:List E):St:=⟨n,0,.nil,pc⟩
theorem RepW.vars(w:World)(vs:List U)(pc:List E)(hpc:∀e∈pc,e.B (Env.of vs)=true):RepW (aaq w) (Env.at w vs) (tj vs.length pc) w:=by
 refine⟨rfl,rfl,fun e he=>?_,fun i b hb=>?_,fun i j a b ha=>?_,(fun i b hb=>by simp[tj,T.get_nil]at hb),fun r o hro=>hro,(fun r o hro=>by cases hro),(fun r o hro=>by cases hro),rfl,rfl,rfl⟩
 all_goals simp_all[E.B,E.at_den,tj,T.get_nil]
theorem RepW.below{w w':World}{vs:List U}{ρ:Env}{st:St}(h:RepW (aaq w) ρ st w')(he:(Env.at w vs).Ext ρ):RowKit.Below w.heap.size w w':=by
 have key:∀k,k<w.heap.size->w'.heap[k]?=w.heap[k]?:=fun k hk=>by
  have h1:=Array.getElem?_eq_getElem hk
  rw[h1]
  exact h.fz k _ (he.fz k _ h1)
 refine⟨h.os,h.tape,h.output,?_,key⟩
 grind
def vz(o:Out):Bool:=
 match o.tmps with
 |.node v _ _=>match v with
  |.bool e=>match e with
   |.bool b=>b
   |_=>false
  |_=>false
 |.nil=>false
theorem aFf{o:Out}{v:SV}{l r:T SV}(h:vz o=true)(ho:o.tmps=.node v l r)(ρ:Env):v.den ρ=.bool true:=by
 unfold vz at h
 rw[ho]at h
 simp only at h;split at h
 ·split at h
  ·subst h;rfl
  ·cases h
 ·cases h
theorem afQ{P:Program}(hP:lV P=true){facts:List E}(hf:∀e∈facts,∀ρ,e.B ρ=true){anns:List Ann}(ha:∀x∈anns,gA P x){nats:List Nat1}(hn:∀x∈nats,aV P x){n:Nat}{g:FuncId}{args:List SV}{vs:List U}{pc:List E}
  (h:nr P (fun tb=>rX vz (run P (tb.plus facts anns nats) n (.call g args) .nil (tj vs.length pc) one))=true)(hpc:∀e∈pc,e.B (Env.of vs)=true)(w:World)(hao:SV.oks (Env.at w vs) args):
  Calls P g (SV.dens (Env.at w vs) args).toArray w fun e w'=>e=.returned (.bool true)/\RowKit.Below w.heap.size w w':=by
 refine(aCg hP hf ha hn h (RepW.vars w vs pc hpc) hao).mono ?_
 rintro e w' ⟨o,ρ',v,l,r,h1,h2,h3,h4,h5,_⟩
 exact⟨by grind[aFf],h5.below h4⟩
end
end Go.SX

namespace Go.SX
noncomputable section
variable (ρ:Env)
theorem aeK(n:Int):(E.int n).I ρ=n:=rfl
theorem aF8(i:Nat):(E.var i).I ρ=(ρ.vs.getD i (.int 0)).toI:=rfl
theorem aF6(a b:E):(E.mn a b).I ρ=min (a.I ρ) (b.I ρ):=by
 show oG (a.I ρ) (b.I ρ)=_;grind[oG]
theorem aF7(a b:E):(E.mx a b).I ρ=max (a.I ρ) (b.I ρ):=by
 show lS (a.I ρ) (b.I ρ)=_;grind[lS]
theorem aeI(a b:E):((E.cmp .eql a b).B ρ=true)=(a.I ρ=b.I ρ):=by
 show((a.I ρ==b.I ρ)=true)=_
 simp
theorem aeJ(a b:E):((E.cmp .lss a b).B ρ=true)=(a.I ρ<b.I ρ):=by
 show((decide (a.I ρ<b.I ρ))=true)=_
 simp
theorem gh(a:E):((E.not a).B ρ=true)=¬(a.B ρ=true):=by
 simp_all
theorem cZ(a b:E):((E.and a b).B ρ=true)=(a.B ρ=true/\b.B ρ=true):=by
 simp_all
theorem cb(a b:E):((E.imp a b).B ρ=true)=(a.B ρ=true->b.B ρ=true):=by
 show((!(a.B ρ)||b.B ρ)=true)=_
 grind
theorem lY(a b:E):((E.iff a b).B ρ=true)=(a.B ρ=true↔b.B ρ=true):=by
 simp_all
theorem aDr(x:U)(l:List U)(d:U):(x::l).getD 0 d=x:=rfl
theorem aDq(x:U)(l:List U)(n:Nat)(d:U):(x::l).getD (n+1) d=l.getD n d:=rfl
theorem aJK(n:Int):(U.int n).toI=n:=rfl
theorem aFp{ρ:Env}:∀e∈([]:List E),e.B ρ=true:=by simp_all
theorem aFo{ρ:Env}{e:E}{l:List E}(h:e.B ρ=true)(hl:∀e∈l,e.B ρ=true):∀x∈e::l,x.B ρ=true:=by simp_all
end
end Go.SX

namespace Go.SX
theorem ab(x:Int):∃s,IntKind.i64.wrap x=s/\(-9223372036854775808<=s/\s<9223372036854775808)/\(-9223372036854775808<=x->x<9223372036854775808->s=x):=by
 refine⟨_,rfl,?_,?_⟩<;>simp only[IntKind.wrap,IntKind.bits,IntKind.signed,Bool.true_and]<;>split<;>simp_all<;>omega
theorem afV{ks:List U}:∀(l:List U)(p:Nat),p<=ks.length->U.typs l ks (ks.drop p)=true->∀(n:Nat)(u:U),l[n]?=some u->∃k,ks[(p+n)%ks.length]?=some k/\U.typ u k=true
 |[],p,hp,h,n,u,hn=>by simp at hn
 |x::xs,p,hp,h,n,u,hn=>by
  have step:∀(q:Nat),q<ks.length->U.typ x (ks.getD q (.int 0))=true->U.typs xs ks (ks.drop (q+1))=true->(p+0)%ks.length=q->∃k,ks[(p+n)%ks.length]?=some k/\U.typ u k=true:=by
   intro q hq h1 h2 hpq;cases n with
   |zero=>
    simp_all
   |succ n=>
    have hn':xs[n]?=some u:=by simp_all
    obtain⟨k,k1,k2⟩:=afV xs (q+1) (by omega) h2 n u hn'
    refine⟨k,?_,k2⟩
    rw[<- k1]
    congr 1
    rw[<- hpq]
    simp only[Nat.add_zero];have h3:(p+(n+1))%ks.length=((p%ks.length)+1+n)%ks.length:=by
     rw[Nat.add_assoc,Nat.add_comm 1 n,Nat.mod_add_mod]
    rw[h3]
  rcases Nat.lt_or_ge p ks.length with hlt|hge
  ·rw[List.drop_eq_getElem_cons hlt]at h
   simp_all[U.typs,Bool.and_eq_true,step,List.getD,List.getElem?_eq_getElem,Nat.mod_eq_of_lt]
  ·have hpe:p=ks.length:=by omega
   rw[List.drop_eq_nil_of_le hge]at h
   cases hk:ks with
   |nil=>simp_all[U.typs]
   |cons k r=>
    have h0:0<ks.length:=by simp_all
    rw[hk]at h
    simp only[U.typs,Bool.and_eq_true]at h
    have:=step 0 h0 (by simp_all) (by simp_all) (by simp_all)
    simp_all
theorem fk{ρ:Env}(l:E):0<=E.I ρ (.fn 0 l):=by
 show 0<=((E.L ρ l).length:Int);omega
theorem aJQ{u:U}{ks:List U}(h:U.typ u (.lst ks)=true):U.typs u.toL ks []=true:=by
 cases u<;>simp[U.typ]at h;exact h
theorem all_nil:∀e∈([]:List E),∀ρ:Env,e.B ρ=true:=by simp_all
theorem all_cons{e:E}{l:List E}(h:∀ρ:Env,e.B ρ=true)(hl:∀x∈l,∀ρ:Env,x.B ρ=true):∀x∈e::l,∀ρ:Env,x.B ρ=true:=by simp_all
theorem aa:(∀(ρ:Env)(n:Int),(E.int n).I ρ=n)/\(∀(ρ:Env)(a b:E),(E.fn 6 (.pr a b)).I ρ=a.I ρ+b.I ρ)/\(∀(ρ:Env)(a b:E),(E.fn 7 (.pr a b)).I ρ=a.I ρ-b.I ρ)/\(∀(ρ:Env)(a b:E),(E.fn 8 (.pr a b)).I ρ=a.I ρ*b.I ρ)/\
  (∀(ρ:Env)(b:Bool),(E.bool b).B ρ=b)/\(∀(ρ:Env)(a b:E),((E.cmp .eql a b).B ρ=true)=(a.I ρ=b.I ρ))/\(∀(ρ:Env)(a b:E),((E.cmp .lss a b).B ρ=true)=(a.I ρ<b.I ρ))/\(∀(ρ:Env)(a:E),((E.not a).B ρ=true)=¬(a.B ρ=true))/\
  (∀(ρ:Env)(a b:E),((E.and a b).B ρ=true)=(a.B ρ=true/\b.B ρ=true))/\(∀(ρ:Env)(a b:E),((E.imp a b).B ρ=true)=(a.B ρ=true->b.B ρ=true))/\(∀(ρ:Env)(a b:E),((E.iff a b).B ρ=true)=(a.B ρ=true↔b.B ρ=true))/\
  (∀(ρ:Env)(a b:E),(E.mn a b).I ρ=min (a.I ρ) (b.I ρ))/\(∀(ρ:Env)(a b:E),(E.mx a b).I ρ=max (a.I ρ) (b.I ρ))/\(∀(ρ:Env)(k:IntKind)(a b:E),(E.ar .rem k a b).I ρ=(a.I ρ).tmod (b.I ρ))/\(∀(ρ:Env)(k:IntKind)(a:E),(E.wr k a).I ρ=k.wrap (a.I ρ))/\(∀p:Prop,(True->p)=p):=
 by refine⟨?_,?_,?_,?_,?_,?_,?_,?_,?_,?_,?_,?_,?_,?_,?_,?_⟩<;>intros<;>first | rfl | simp only[aeI,aeJ,gh,cZ,cb,lY,aF6,aF7,true_implies]
theorem ae:(∀(ρ:Env)(a b:E),(E.ar .add .i64 a b).I ρ=IntKind.i64.wrap (a.I ρ+b.I ρ))/\(∀(ρ:Env)(a b:E),(E.ar .sub .i64 a b).I ρ=IntKind.i64.wrap (a.I ρ-b.I ρ))/\(∀(ρ:Env)(a b:E),(E.ar .mul .i64 a b).I ρ=IntKind.i64.wrap (a.I ρ*b.I ρ)):=
 ⟨fun _ _ _=>rfl,fun _ _ _=>rfl,fun _ _ _=>rfl⟩
end Go.SX

namespace Go.SX
open Go.RowKit
theorem RepW.kept{B:Base}{ρ:Env}{st:St}{w w':World}(h:RepW B ρ st w)(hb:Below w.heap.size w w'):RepW B ρ st w':=by
 refine⟨h.nv,h.nb,h.pc,fun i b hi=>?_,h.inj,h.inn,fun r o ho=>?_,fun r o ho=>?_,h.dj,by rw[hb.os,h.os],by rw[hb.tape,h.tape],by rw[hb.output,h.output]⟩
 ·obtain⟨h1,h2,h3⟩:=h.blk i b hi
  exact⟨h1,h2.world (fun hl=>hb.block _ (h2.lt hl)) (fun x hx=>hb.block _ (h2.inner_lt hx)),h3⟩
 ·have h1:=h.fz r o ho
  rw[hb.block r (Array.getElem?_eq_some_iff.1 h1).1];omega
 ·have h1:=h.fr r o ho
  rw[hb.block r (Array.getElem?_eq_some_iff.1 h1).1];omega
theorem aCv{P:Program}{g:FuncId}(h:∀w:World,Calls P g #[] w fun e w'=>e=.returned (.bool true)/\Below w.heap.size w w'):aV P (Kj g):=by
 intro fs hfs args st l hl B ρ w R hr hao hK;unfold Kj at hl;cases args with
 |cons _ _=>simp[Ki,oJ]at hl
 |nil=>
  simp only[Ki,oJ,NatR.outs.injEq]at hl;subst hl
  refine(h w).mono ?_
  rintro e w' ⟨rfl,hb⟩
  exact hK (.bool (.bool _),st) (by simp) ρ w' (Env.Ext.refl ρ) (hr.kept hb) (by simp[SV.ok])
theorem aCw{P:Program}(hP:lV P=true){facts:List E}(hf:∀e∈facts,∀ρ,e.B ρ=true){anns:List Ann}(ha:∀x∈anns,gA P x){nats:List Nat1}(hn:∀x∈nats,aV P x){n:Nat}{g:FuncId}
  (h:nr P (fun tb=>rX vz (run P (tb.plus facts anns nats) n (.call g []) .nil (tj 0 []) one))=true):aV P (Kj g):=
 aCv fun w=>afQ hP hf ha hn (vs:=[]) (pc:=[]) h (fun e he=>by cases he) w (by simp[SV.oks])
end Go.SX

namespace Go.SX
def ikU:IntKind->Nat
 |.i8=>0 | .i16=>1 | .i32=>2 | .i64=>3 | .u8=>4 | .u16=>5 | .u32=>6 | .u64=>7
mutual
def CK.typ:CK->U
 |.int k=>.int (ikU k)
 |.bool=>.int 8
 |.str=>.int 9
 |.slc ks=>.lst (iS ks)
def iS:List CK->List U
 |[]=>[]
 |c::cs=>c.typ::iS cs
end
def LP(ks:List CK):Nat->List CK
 |0=>[]
 |n+1=>ks++LP ks n
def zf(f:TypeId->Option (List CK))(P:Program):List Field->Nat->Option (List CK)
 |[],_=>some []
 |x::xs,off=>match f x.type,zf f P xs (off+P.cellsOf x.type)with
  |some ks,some r=>match Nat.beq x.offset off&&Nat.beq ks.length (P.cellsOf x.type)with
   |true=>some (ks++r)
   |false=>none
  |_,_=>none
def pV(P:Program):Nat->TypeId->Option (List CK)
 |0,_=>none
 |n+1,t=>match P.underlying t with
  |some .bool=>some [.bool]
  |some (.int k)=>some [.int k]
  |some .string=>some [.str]
  |some (.slice e)=>match pV P n e with
   |some ks=>match Nat.beq ks.length (P.cellsOf e)&&Nat.blt 0 ks.length with
    |true=>some [.slc ks]
    |false=>none
   |none=>none
  |some (.struct fs)=>match zf (pV P n) P fs.toList 0 with
   |some ks=>match Nat.beq ks.length (P.cellsOf t)with
    |true=>some ks
    |false=>none
   |none=>none
  |some (.array m e)=>match pV P n e with
   |some ks=>match Nat.beq ks.length (P.cellsOf e)&&Nat.beq (m*ks.length) (P.cellsOf t)with
    |true=>some (LP ks m)
    |false=>none
   |none=>none
  |_=>none
def RowOk(fz:Nat->Option Obj)(ks:List CK)(us:List U)(cs:List Value):Prop:=
 us.length=ks.length/\cs.length=ks.length/\∀(i:Nat)(c:CK),ks[i]?=some c->∃u,us[i]?=some u/\cs[i]?=some (c.val u)/\c.ok fz u/\U.typ u c.typ=true
theorem RowOk.nil(fz:Nat->Option Obj):RowOk fz [] [] []:=⟨rfl,rfl,fun i c h=>by simp at h⟩
theorem RowOk.append{fz:Nat->Option Obj}{ks ks':List CK}{us us':List U}{cs cs':List Value}(h:RowOk fz ks us cs)(h':RowOk fz ks' us' cs'):RowOk fz (ks++ks') (us++us') (cs++cs'):=by
 refine⟨by simp[h.1,h'.1],by simp[h.2.1,h'.2.1],fun i c hi=>?_⟩
 by_cases hlt:i<ks.length
 ·rw[List.getElem?_append_left hlt]at hi
  obtain⟨u,h1,h2,h3⟩:=h.2.2 i c hi
  grind
 ·rw[List.getElem?_append_right (by omega)]at hi
  obtain⟨u,h1,h2,h3⟩:=h'.2.2 _ c hi
  exact⟨u,by rw[List.getElem?_append_right (by rw[h.1];omega),h.1];omega,by rw[List.getElem?_append_right (by rw[h.2.1];omega),h.2.1];omega,h3⟩
theorem RowOk.one{fz:Nat->Option Obj}{c:CK}{u:U}(h:c.ok fz u)(ht:U.typ u c.typ=true):RowOk fz [c] [u] [c.val u]:=by
 refine⟨rfl,rfl,fun i c' hi=>?_⟩
 grind
theorem zg:∀(ks:List CK)(i:Nat),(iS ks)[i]?=ks[i]?.map CK.typ
 |[],i=>by rfl
 |c::cs,0=>by rfl
 |c::cs,i+1=>by simp[iS,zg cs i]
theorem Gz{ks:List U}:∀(l:List U)(p:Nat),p<=ks.length->(∀(j:Nat)(u:U),l[j]?=some u->∃k,ks[(p+j)%ks.length]?=some k/\U.typ u k=true)->U.typs l ks (ks.drop p)=true
 |[],p,_,_=>by rfl
 |u::l,p,hp,h=>by
  obtain⟨k,h1,h2⟩:=h 0 u rfl
  have hpos:0<ks.length:=by
   grind
  rcases Nat.lt_or_ge p _ with hlt|hge
  ·rw[Nat.add_zero,Nat.mod_eq_of_lt hlt]at h1
   have hd:ks.drop p=k::ks.drop (p+1):=by
    grind[List.drop_eq_getElem_cons]
   rw[hd]
   simp only[U.typs,h2];exact Gz l _ hlt (fun j u hj=>by
    have:=h (j+1) u (by simp_all)
    grind)
  ·have hpe:p=ks.length:=by omega
   subst hpe;have ih:=Gz (ks:=ks) l 1 hpos (fun j u hj=>by
    have:=h (j+1) u (by simp_all)
    rwa [show ks.length+(j+1)=(1+j)+ks.length by omega,Nat.add_mod_right]at this)
   cases ks with
   |nil=>simp_all
   |cons a b=>
    simp_all[U.typs]
theorem aal{G:Type}{c:Nat}{f:Nat->List G}:∀(n:Nat),(∀i,i<n->(f i).length=c)->((List.range n).flatMap f).length=n*c/\∀i r,i<n->r<c->((List.range n).flatMap f)[i*c+r]?=(f i)[r]?
 |0,_=>⟨by simp,fun i r h=>by omega⟩
 |n+1,h=>by
  obtain⟨h1,h2⟩:=aal (f:=f) (c:=c) n (fun i hi=>h i (by omega))
  rw[List.range_succ,List.flatMap_append]
  refine⟨by grind,fun i r hi hr=>?_⟩
  by_cases hin:i<n
  ·grind
  ·have:i=n:=by omega
   simp_all
structure BulkOk {H:Type} (B:DataW H->Nat) (BA:List (DataW H)->Nat):Prop where
 one:∀d,1<=B d
 agg:∀l,B (.agg l)=BA l+1
 slice:∀l m,BA l+1<=B (.slice l m)
 cons:∀d l,BA (d::l)=B d+BA l
theorem FS:∀(a b:List U),U.sizes (a++b)=U.sizes a+U.sizes b
 |[],b=>by simp[U.sizes]
 |u::a,b=>by simp only[List.cons_append,U.sizes,FS a b];omega
theorem aeA{H:Type}{B:DataW H->Nat}{BA:List (DataW H)->Nat}(hB:BulkOk B BA):∀(n:Nat)(f:Nat->List U)(zs:List (DataW H×List MemPlace)),zs.length=n->(∀i,i<n->∀z,zs[i]?=some z->U.sizes (f i)<=B z.1)->
  U.sizes ((List.range n).flatMap f)<=BA (zs.map (·.1))
 |0,f,zs,_,_=>by simp[U.sizes]
 |n+1,f,[],h,_=>by simp at h
 |n+1,f,z::zs,h,hz=>by
  rw[List.range_succ_eq_map,List.flatMap_cons,FS,List.map_cons,hB.cons]
  have h1:=hz 0 (by omega) z rfl;have h2:=aeA hB n _ zs (by simp_all) (fun i hi y hy=>hz (i+1) (by omega) y (by simp_all));have e:(List.map Nat.succ (List.range n)).flatMap f=(List.range n).flatMap (fun i=>f (i+1)):=by
   rw[List.flatMap_map]
  grind
mutual
def ya{H:Type}:DataW H->Nat
 |.agg l=>ut l+1
 |.slice l m=>ut l+ut m+1
 |_=>1
def ut{H:Type}:List (DataW H)->Nat
 |[]=>0
 |d::r=>ya d+ut r
end
theorem YR{H:Type}:BulkOk (ya (H:=H)) ut:=⟨fun d=>by cases d<;>simp[ya],fun l=>by rfl,fun l m=>by simp_all[ya],fun d l=>by rfl⟩
section
variable {H:Type} {enc:TypeId×Value->H} {P:Program} {w:World} {held:Bool}
theorem ae2{G:Type}(cs:List G)(a b:Nat):cs.drop a=(cs.drop a).take b++cs.drop (a+b):=by
 rw[<- List.drop_drop,List.take_append_drop]
theorem Mz{B:DataW H->Nat}{BA:List (DataW H)->Nat}(hB:BulkOk B BA):∀(n:Nat)(t:TypeId)(ks:List CK),pV P n t=some ks->∀(fuel:Nat)(cs:List Value)(x:DataW H×List MemPlace),DataW.trod enc P w 0 (fun _=>true) held fuel t cs=some x->
  ∃us,RowOk (fun r=>w.heap[r]?) ks us cs/\U.sizes us<=B x.1
 |0,t,ks,h,_,_,_,_=>by cases h
 |n+1,t,ks,h,fuel,cs,x,hx=>by
  have ih:=Mz hB n;simp only[pV]at h;split at h
  ·rename_i hu
   obtain⟨b,rfl,_⟩:=DataW.trod_bool hu hx
   simp only[Option.some.injEq]at h;subst h
   exact⟨[.bool b],RowOk.one (c:=.bool) (u:=.bool b) trivial rfl,by simpa[U.sizes,U.size]using hB.one _⟩
  ·rename_i k hu
   obtain⟨m,rfl,_,hw⟩:=DataW.trod_int hu hx
   simp only[Option.some.injEq]at h;subst h
   refine⟨[.int m],RowOk.one (c:=.int k) (u:=.int m) trivial ?_,by simpa[U.sizes,U.size]using hB.one _⟩
   simp only[Lit.wf,Bool.and_eq_true,decide_eq_true_eq]at hw;simp only[CK.typ,U.typ,decide_eq_true_eq];cases k<;>exact⟨by decide,by simp_all[IntKind.min,IntKind.max,IntKind.signed,IntKind.bits,ikU,abl,abk]⟩
  ·rename_i hu
   obtain⟨b,rfl,_⟩:=DataW.trod_string hu hx
   simp only[Option.some.injEq]at h;subst h
   exact⟨[.str b],RowOk.one (c:=.str) (u:=.str b) trivial rfl,by simpa[U.sizes,U.size]using hB.one _⟩
  ·-- slice
   rename_i e hu;split at h
   ·rename_i ks' hks;split at h
    ·rename_i hc;simp only[Bool.and_eq_true]at hc
     obtain⟨hc1,hc2⟩:=hc
     have hlen:ks'.length=P.cellsOf e:=Nat.eq_of_beq_eq_true hc1;have hpos:0<ks'.length:=eA.1 hc2;simp only[Option.some.injEq]at h;subst h;rcases DataW.trod_slice hu hx with⟨rfl,hx0⟩|⟨a,len,cap,elems,bU,m,_,rfl,hx0,_,hlc,_,hel,hget,hrest,_⟩
     ·exact⟨[.bx none 0 0 []],RowOk.one (c:=.slc ks') (u:=.bx none 0 0 []) .nil (by rfl),by simpa[U.sizes,U.size]using hB.one _⟩
     ·have key:∀i,i<cap->∃y,(w.cells? 0 (a.add (i*P.cellsOf e)) (P.cellsOf e)).bind (DataW.trod enc P w 0 (fun _=>true) held m e)=some y:=by
       intro i hi
       obtain⟨hr1,hr2⟩:=hrest rfl
       by_cases hil:i<len
       ·simp_all
       ·have:=hr2 (i-len) (by omega)
        grind
      have cell:∀i,i<cap->∃us,(∃cs',RowOk (fun r=>w.heap[r]?) ks' us cs'/\∀r,r<ks'.length->w.cell? ((a.add (i*ks'.length)).add r)=cs'[r]?)/\(i<len->∀z,elems[i]?=some z->U.sizes us<=B z.1):=by
       intro i hi
       obtain⟨y,hy⟩:=key i hi
       rw[Option.bind_eq_some_iff]at hy
       obtain⟨cs',h1,h2⟩:=hy
       obtain⟨us,hus,hsz⟩:=ih e ks' hks m cs' y h2
       refine⟨us,⟨cs',hus,fun r hr=>?_⟩,fun hil z hz=>?_⟩
       ·have:=(World.cells?_some h1).2.2 r (by omega)
        simp_all
       grind
      have hspot:0<cap->a.spot=none/\∃arr elem fr,w.heap[a.block]?=some (.cells arr elem fr):=by
       intro hcap
       obtain⟨us,⟨cs',hrow,hcell⟩,_⟩:=cell 0 hcap
       have h0:=hcell 0 hpos;have hlt:0<cs'.length:=by rw[hrow.2.1];omega
       rw[List.getElem?_eq_getElem hlt]at h0
       rw[show(a.add (0*ks'.length)).add 0=a by simp[Addr.add]]at h0
       unfold World.cell? at h0;split at h0;all_goals simp_all
      rcases Nat.eq_zero_or_pos cap with hz|hcp
      ·subst hz
       have:len=0:=by omega
       subst this
       exact⟨[.bx (some a) 0 0 []],RowOk.one (c:=.slc ks') (u:=.bx (some a) 0 0 []) (.empty a) (by rfl),by simpa[U.sizes,U.size]using hB.one _⟩
      ·obtain⟨hsp,arr,el,fr,hw⟩:=hspot hcp
       obtain⟨blk,off,spot⟩:=a
       have hsp':spot=none:=hsp;have hw:w.heap[blk]?=some (.cells arr el fr):=hw;subst hsp';let f:Nat->List U:=fun i=>if h:i<cap then Classical.choose (cell i h)else []
       have hf:∀i,(hi:i<cap)->∃cs',RowOk (fun r=>w.heap[r]?) ks' (f i) cs'/\∀r,r<ks'.length->arr[off+(i*ks'.length+r)]?=cs'[r]?:=by
        intro i hi
        obtain⟨⟨cs',h1,h2⟩,_⟩:=Classical.choose_spec (cell i hi)
        have:f i=Classical.choose (cell i hi):=dif_pos hi
        grind[gG,World.cell?,Option.isSome_none,Nat.add_assoc]
       have hsz:∀i,i<len->∀z,elems[i]?=some z->U.sizes (f i)<=B z.1:=by
        grind
       have hfl:∀i,i<len->(f i).length=ks'.length:=fun i hi=>by obtain⟨_,h1,_⟩:=hf i (by omega);exact h1.1
       obtain⟨hL,hLg⟩:=aal len hfl
       have hat:∀j u,((List.range len).flatMap f)[j]?=some u->∃c,ks'[j%ks'.length]?=some c/\arr[off+j]?=some (c.val u)/\c.ok (fun r=>w.heap[r]?) u/\U.typ u c.typ=true:=by
        intro j u hj;have hlt:j<len*ks'.length:=by grind
        have hdm:j/ks'.length*ks'.length+j%ks'.length=j:=by simp_all[Nat.mul_comm,Nat.div_add_mod]
        have hi:j/ks'.length<len:=(Nat.div_lt_iff_lt_mul hpos).2 hlt;have hr:j%ks'.length<ks'.length:=Nat.mod_lt _ hpos;have h1:=hLg (j/ks'.length) (j%ks'.length) hi hr
        rw[hdm]at h1
        obtain⟨cs',hrow,harr⟩:=hf (j/ks'.length) (by omega)
        obtain⟨u',g1,g2,g3,g4⟩:=hrow.2.2 (j%ks'.length) ks'[j%ks'.length] (List.getElem?_eq_getElem hr)
        rw[h1,g1]at hj
        simp only[Option.some.injEq]at hj;subst hj;have h2:=harr (j%ks'.length) hr
        rw[hdm]at h2
        grind
       refine⟨[.bx (some ⟨blk,off,none⟩) len cap ((List.range len).flatMap f)],RowOk.one (c:=.slc ks') (u:=.bx (some ⟨blk,off,none⟩) len cap ((List.range len).flatMap f)) ?_ ?_,?_⟩
       ·refine .mk (arr:=arr) (elem:=el) (fr:=fr) hL hlc (fun _=>hw) (fun j u hj=>?_) (fun j u ks2 hj hk2=>?_)
        ·grind
        ·obtain⟨c,g1,_,g3,_⟩:=hat j u hj
         rw[hk2]at g1
         simp only[Option.some.injEq]at g1;subst g1;exact g3
       ·simp only[CK.typ,U.typ]
        have:=Gz (ks:=iS ks') ((List.range len).flatMap f) (iS ks').length (Nat.le_refl _) (fun j u hj=>by
         have hkl:(iS ks').length=ks'.length:=by
          apply Nat.le_antisymm
          ·rcases Nat.lt_or_ge ks'.length (iS ks').length with h|h
           ·have:=zg ks' ks'.length
            simp_all
           omega
          ·rcases Nat.lt_or_ge (iS ks').length ks'.length with h|h
           ·have:=zg ks' (iS ks').length
            simp_all
           omega
         obtain⟨c,g1,_,_,g4⟩:=hat j u hj
         simp_all[Nat.add_mod_left,zg])
        simp_all
       ·have h1:=aeA hB len f elems hel hsz
        rw[hx0]
        have h2:=hB.slice (elems.map (·.1)) (bU.map (·.1));simp only[U.sizes,U.size]at h1 ⊢;omega
    ·cases h
   ·cases h
  ·-- struct
   rename_i fs hu
   obtain⟨xs,m,_,hx0,hcl,hxl,hget⟩:=DataW.trod_struct hu hx
   split at h
   ·rename_i ks' hks;split at h
    ·rename_i hc;simp only[Option.some.injEq]at h;subst h;have hlen:ks'.length=P.cellsOf t:=Nat.eq_of_beq_eq_true hc;have go:∀(l:List Field)(zs:List (DataW H×List MemPlace))(off:Nat)(r:List CK),zf (pV P n) P l off=some r->(cs.drop off).length=r.length->zs.length=l.length->
       (∀(i:Nat)(f:Field),l[i]?=some f->DataW.trod enc P w 0 (fun _=>true) held m f.type ((cs.drop f.offset).take (P.cellsOf f.type))=zs[i]?)->∃us,RowOk (fun r=>w.heap[r]?) r us (cs.drop off)/\U.sizes us<=BA (zs.map (·.1)):=by
      intro l;induction l with
      |nil=>
       intro zs off r hr hl _ _;simp only[zf,Option.some.injEq]at hr;subst hr
       have:cs.drop off=[]:=List.length_eq_zero_iff.1 (by simpa using hl)
       rw[this];exact⟨[],RowOk.nil _,by simp[U.sizes]⟩
      |cons f l ihl=>
       intro zs off r hr hl hzl hall
       obtain⟨y,zs,rfl⟩:∃y zs',zs=y::zs':=by
        cases zs with
        |nil=>simp at hzl
        |cons y zs=>exact⟨y,zs,rfl⟩
       simp only[zf]at hr;split at hr
       ·rename_i k1 r1 hk1 hr1;split at hr
        ·rename_i hc;simp only[Bool.and_eq_true]at hc;have ho:f.offset=off:=Nat.eq_of_beq_eq_true hc.1;have hk:k1.length=P.cellsOf f.type:=Nat.eq_of_beq_eq_true hc.2;simp only[Option.some.injEq]at hr;subst hr;have hy:=hall 0 f rfl
         rw[ho]at hy
         obtain⟨us1,hu1,hs1⟩:=ih f.type k1 hk1 m _ y (by simpa using hy)
         obtain⟨us2,hu2,hs2⟩:=ihl zs (off+P.cellsOf f.type) r1 hr1 (by
          simp only[List.length_drop,List.length_append]at hl ⊢;omega) (by simpa using hzl) (fun i g hg=>by
           have:=hall (i+1) g (by simpa using hg)
           simpa using this)
         refine⟨us1++us2,?_,?_⟩
         ·rw[ae2 cs off (P.cellsOf f.type)]
          exact hu1.append hu2
         ·rw[FS,List.map_cons,hB.cons];omega
        ·cases hr
       ·cases hr
     obtain⟨us,hus,hsz⟩:=go fs.toList xs 0 ks' hks (by simp[hcl,hlen]) (by simpa using hxl) (fun i f hf=>hget i f (by simpa using hf))
     refine⟨us,by simpa using hus,?_⟩
     rw[hx0,hB.agg];omega
    ·cases h
   ·cases h
  ·-- array
   rename_i q e hu
   obtain⟨xs,m,_,hx0,hcl,hxl,hget⟩:=DataW.trod_array hu hx
   split at h
   ·rename_i ks' hks;split at h
    ·rename_i hc;simp only[Bool.and_eq_true]at hc;have hk:ks'.length=P.cellsOf e:=Nat.eq_of_beq_eq_true hc.1;have ht:q*ks'.length=P.cellsOf t:=Nat.eq_of_beq_eq_true hc.2;simp only[Option.some.injEq]at h;subst h;have go:∀(j i:Nat),i+j=q->∃us,RowOk (fun r=>w.heap[r]?) (LP ks' j) us (cs.drop (i*P.cellsOf e))/\U.sizes us<=BA ((xs.drop i).map (·.1)):=by
      intro j;induction j with
      |zero=>
       intro i hi
       have:cs.drop (i*P.cellsOf e)=[]:=by
        apply List.drop_eq_nil_of_le
        rw[hcl,<- ht,<- hk,show i=q by omega]
        exact Nat.le_refl _
       rw[this];exact⟨[],RowOk.nil _,by simp[U.sizes]⟩
      |succ j ihj=>
       intro i hi;have hlt:i<q:=by omega
       have hy:=hget i hlt
       rw[List.getElem?_eq_getElem (by omega)]at hy
       obtain⟨us1,hu1,hs1⟩:=ih e ks' hks m _ _ hy
       obtain⟨us2,hu2,hs2⟩:=ihj (i+1) (by omega)
       refine⟨us1++us2,?_,?_⟩
       ·rw[ae2 cs (i*P.cellsOf e) (P.cellsOf e)]
        rw[show(i+1)*P.cellsOf e=i*P.cellsOf e+P.cellsOf e from Nat.succ_mul _ _]at hu2
        exact hu1.append hu2
       ·rw[FS,List.drop_eq_getElem_cons (by omega),List.map_cons,hB.cons];omega
     obtain⟨us,hus,hsz⟩:=go q 0 (by omega)
     refine⟨us,by simpa using hus,?_⟩
     rw[hx0,hB.agg]
     simp only[List.drop_zero]at hsz;omega
    ·cases h
   ·cases h
  ·cases h
theorem aFb{n:Nat}{t e:TypeId}{ks:List CK}{r:Reach}{b0:Nat}{v:Value}{d:DataW H}{ps:List MemPlace}(hu:P.underlying t=some (.slice e))(hk:pV P n t=some [.slc ks])
  (o:Value.okWide P w r b0 t v)(h:DataW.Trod enc P w 0 (fun _=>true) held t v d ps):∃u:U,v=u.raw/\SlOk (fun r=>w.heap[r]?) ks u/\U.typ u (.lst (iS ks))=true:=by
 obtain⟨fuel,h⟩:=h
 obtain⟨us,⟨h1,h2,h3⟩,_⟩:=Mz YR n t _ hk _ _ _ h
 obtain⟨u,g1,g2,g3,g4⟩:=h3 0 _ rfl
 refine⟨u,?_,g3,g4⟩
 have hv:∃a l c,v=.slice a l c:=by
  unfold Value.okWide at o;unfold Cell.okWide at o;cases v<;>simp[Cell.ok,hu]at o<;>exact⟨_,_,_,rfl⟩
 obtain⟨a,l,c,rfl⟩:=hv
 have e:(Value.slice a l c).cells.toList=[Value.slice a l c]:=rfl;simp_all[CK.val]
def GC:List CK->List U->Nat->List Value
 |[],_,_=>[]
 |c::cs,us,j=>c.val (us.getD j (.int 0))::GC cs us (j+1)
theorem af0{fz:Nat->Option Obj}{ks:List CK}{us:List U}{cs:List Value}(h:RowOk fz ks us cs):∀(k:List CK)(j:Nat),ks.drop j=k->cs.drop j=GC k us j
 |[],j,hj=>by
  have:ks.length<=j:=by
   simp_all
  rw[List.drop_eq_nil_of_le (by rw[h.2.1];omega)];rfl
 |c::k,j,hj=>by
  have hlt:j<ks.length:=by
   have:=congrArg List.length hj
   grind
  rw[List.drop_eq_getElem_cons hlt]at hj
  simp only[List.cons.injEq]at hj
  obtain⟨u,h1,h2,_⟩:=h.2.2 j _ (List.getElem?_eq_getElem hlt)
  have hlt2:j<cs.length:=by grind
  rw[List.drop_eq_getElem_cons hlt2,af0 h k _ hj.2]
  simp_all[GC]
theorem aFa{B:DataW H->Nat}{BA:List (DataW H)->Nat}(hB:BulkOk B BA){n:Nat}{t:TypeId}{fs:Array Field}{ks:List CK}{r:Reach}{b0:Nat}{v:Value}{d:DataW H}{ps:List MemPlace}(hu:P.underlying t=some (.struct fs))(hk:pV P n t=some ks)
  (o:Value.okWide P w r b0 t v)(h:DataW.Trod enc P w 0 (fun _=>true) held t v d ps):∃us:List U,v=.agg (GC ks us 0).toArray/\us.length=ks.length/\(∀(i:Nat)(c:CK),ks[i]?=some c->c.ok (fun r=>w.heap[r]?) (us.getD i (.int 0)))/\U.typs us (iS ks) []=true/\U.sizes us<=B d:=by
 obtain⟨fuel,h⟩:=h
 unfold Value.okWide at o
 rw[hu]at o
 obtain⟨cs,rfl,_,_⟩:=o
 obtain⟨us,h1,h2⟩:=Mz hB n t _ hk _ _ _ h
 have e:(Value.agg cs).cells.toList=cs.toList:=rfl
 rw[e]at h1
 have hkl:=by
  have g:∀l,(iS l).length=l.length:=by
   intro l;induction l with
   |nil=>rfl
   |cons c l ih=>simp[iS,ih]
  exact g ks
 refine⟨us,?_,h1.1,fun i c hc=>?_,?_,h2⟩
 ·have:=af0 h1 ks 0 rfl
  rw[List.drop_zero]at this
  rw[<- this,Array.toArray_toList]
 ·obtain⟨u,g1,_,g3,_⟩:=h1.2.2 i c hc
  simp_all
 ·have:=Gz (ks:=iS ks) us _ (Nat.le_refl _) (fun j u hj=>by
   have hlt:j<ks.length:=by rw[<- h1.1];grind
   obtain⟨u',g1,_,_,g4⟩:=h1.2.2 j _ (List.getElem?_eq_getElem _)
   rw[hj]at g1
   simp only[Option.some.injEq]at g1;subst g1
   refine⟨ks[j].typ,?_,g4⟩
   rw[hkl,Nat.add_mod_left,Nat.mod_eq_of_lt hlt,zg,List.getElem?_eq_getElem hlt];rfl)
  grind
end
end Go.SX

namespace Go.SX
theorem aJ0(n0:Nat):∀(k:Nat),(qH n0 k).length=k:=by
 intro k;induction k generalizing n0 with
 |zero=>rfl
 |succ k ih=>simp[qH,ih]
theorem aEX(n0:Nat):∀(k:Nat),(oK n0 k).length=k:=by
 intro k;induction k generalizing n0 with
 |zero=>rfl
 |succ k ih=>simp[oK,ih]
theorem af2{ρ:Env}:∀(l:List U)(n0:Nat),(∃p,ρ.vs=p++l/\p.length=n0)->(qH n0 l.length).map (E.den ρ)=l
 |[],n0,_=>rfl
 |u::l,n0,⟨p,hp,hn⟩=>by
  simp only[List.length_cons,qH,List.map_cons]
  rw[af2 l _ ⟨p++[u],by simp_all,by simp[hn]⟩]
  simp_all[E.den]
theorem acY{bs:List Bk}{d:Bk}:∀(l:List Bk)(n0:Nat),(∃p,bs=p++l/\p.length=n0)->(oK n0 l.length).map (fun b=>bs.getD b d)=l
 |[],n0,_=>rfl
 |u::l,n0,⟨p,hp,hn⟩=>by
  simp only[List.length_cons,oK,List.map_cons]
  rw[acY l _ ⟨p++[u],by simp_all,by simp[hn]⟩]
  simp_all
theorem acZ:∀(k n0 j:Nat),j<k->d9 (oK n0 k) j=some (n0+j)
 |0,_,j,h=>by omega
 |k+1,n0,0,_=>rfl
 |k+1,n0,j+1,h=>by
  show d9 _ j=_
  rw[acZ k _ j (by omega)];grind
def gz(t:T Blk)(i:Nat):Prop:=∃p,t.get i=some p/\p.obj≠.gone
noncomputable def mA(z:Sub):Option Blk->Blk
 |none=>⟨true,.gone⟩
 |some q=>⟨true,q.obj.sub z⟩
theorem Nh{z:Sub}{pre post:T Blk}:∀(n i:Nat)(heap:T Blk)(k:Nat)(b:Blk),(ng z pre post n i heap).get k=some b->
  (heap.get k=some b/\∀m,i<=m->m<i+n->gz pre m->cw 0 z.bs m≠k)\/(∃m,i<=m/\m<i+n/\gz pre m/\cw 0 z.bs m=k/\b=mA z (post.get m))
 |0,i,heap,k,b,h=>.inl ⟨h,fun m h1 h2=>by omega⟩
 |n+1,i,heap,k,b,h=>by
  have skip:(¬gz pre i)->(ng z pre post n (Nat.succ i) heap).get k=some b->(heap.get k=some b/\∀m,i<=m->m<i+(n+1)->gz pre m->cw 0 z.bs m≠k)\/(∃m,i<=m/\m<i+(n+1)/\gz pre m/\cw 0 z.bs m=k/\b=mA z (post.get m)):=by
   intro hn h;rcases Nh n _ _ k b h with⟨h1,h2⟩|⟨m,h1,h2,h3⟩
   all_goals grind
  have put:gz pre i->(ng z pre post n (Nat.succ i) (heap.set (cw 0 z.bs i) (mA z (post.get i)))).get k=some b->(heap.get k=some b/\∀m,i<=m->m<i+(n+1)->gz pre m->cw 0 z.bs m≠k)\/(∃m,i<=m/\m<i+(n+1)/\gz pre m/\cw 0 z.bs m=k/\b=mA z (post.get m)):=by
   intro hl h;rcases Nh n _ _ k b h with⟨h1,h2⟩|⟨m,h1,h2,h3⟩
   ·rw[T.get_set]at h1
    split at h1
    ·rename_i e;right
     refine⟨i,Nat.le_refl _,by omega,hl,e.symm,?_⟩
     simp_all
    grind
   grind
  unfold ng at h;split at h
  ·exact skip (fun⟨p,hp',_⟩=>by simp_all) h
  ·rename_i p hp;split at h
   ·exact skip (fun⟨p',hp',hg'⟩=>by simp_all) h
   ·rename_i hg;have hl:gz _ i:=⟨p,hp,hg⟩;split at h
    ·rename_i hq
     rw[T.setK_eq]at h
     refine put hl ?_
     rw[hq];exact h
    ·rename_i q hq
     rw[T.setK_eq]at h
     refine put hl ?_
     rw[hq];exact h
theorem aba{z:Sub}{post:T Blk}:∀(n i b0:Nat)(heap:T Blk)(k:Nat)(b:Blk),(sB z post n i b0 heap).get k=some b->
  (heap.get k=some b/\(k<b0\/b0+n<=k))\/(∃j,j<n/\k=b0+j/\b=mA z (post.get (i+j)))
 |0,i,b0,heap,k,b,h=>.inl ⟨h,by omega⟩
 |n+1,i,b0,heap,k,b,h=>by
  have h':(sB z post n (Nat.succ i) (Nat.succ b0) (heap.ins b0 (mA z (post.get i)))).get k=some b:=by
   unfold sB at h;split at h
   ·rename_i hq;rw[T.insK_eq]at h;rw[hq];exact h
   ·rename_i q hq;rw[T.insK_eq]at h;rw[hq];exact h
  rcases aba n _ _ _ k b h' with⟨h1,h2⟩|⟨j,h1,h2,h3⟩
  ·by_cases e:k=b0
   ·subst e;right
    exact⟨0,by omega,rfl,T.get_ins_self _ _ _ _ h1⟩
   grind[T.get_ins_ne]
  ·exact .inr ⟨j+1,by omega,by omega,by grind⟩
theorem adL{z:Sub}{pc:List E}:∀(l:List E)(e:E),e∈zM z pc l->(∃x∈l,e=x.sub z.n0 z.es)\/e∈pc
 |[],e,h=>.inr h
 |x::xs,e,h=>by
  simp only[zM,List.mem_cons]at h;rcases h with h|h
  ·simp_all
  ·rcases adL xs e h with⟨y,h1,h2⟩|h
   all_goals grind
theorem YN{nb:Nat}:∀(l:List Nat),CJ nb l=true->∀b∈l,b<nb
 |[],_,b,hb=>by cases hb
 |x::xs,h,b,hb=>by
  simp only[CJ]at h;split at h
  ·rename_i hx
   rw[eA]at hx
   cases hb with
   |head=>omega
   |tail _ hm=>exact YN xs h b hm
  ·cases h
theorem aDk{fs:List E}{n0 b0:Nat}{t:Tm}{st:St}{τ:Tmpl}{z:Sub}(h:si fs n0 b0 t st τ=.ok z):
  z.n0=n0/\z.b0=b0/\n0+z.es.length=τ.st.nv/\b0+z.bs.length=τ.st.nb/\(∀e∈z.es,e.scp st.nv=true)/\(∀b∈z.bs,b<st.nb)/\
  (∀i b,τ.st.heap.get i=some b->b.obj≠.gone->i<τ.st.nb/\∃x,st.heap.get (cw z.b0 z.bs i)=some x/\b.own=x.own/\ObjTo x.obj (b.obj.sub z)/\∀ρ r,(b.obj.sub z).inner ρ r->x.obj.inner ρ r)/\
  (∀i j,gz τ.st.heap i->gz τ.st.heap j->i≠j->cw z.b0 z.bs i≠cw z.b0 z.bs j):=by
 unfold si at h;simp only at h;generalize hz:Li n0 b0 t st τ=y at h;have hy1:y.n0=n0:=by rw[<- hz];rfl
 have hy2:y.b0=b0:=by rw[<- hz];rfl
 split at h
 ·rename_i hchk;split at h
  ·split at h
   ·rename_i hheap;split at h
    ·obtain⟨rfl,hpc⟩:=MO _ h
     simp only[Bool.and_eq_true]at hchk
     obtain⟨⟨c1,c2⟩,c3,c4⟩:=hchk
     have c1':n0+z.es.length=τ.st.nv:=by simp_all[b7]
     have c2':b0+z.bs.length=τ.st.nb:=by simp_all[b7]
     refine⟨hy1,hy2,c1',c2',aer _ c3,YN _ c4,fun i b hib hl=>?_,fun i j ⟨b,hb,hl⟩ ⟨c,hc,hl'⟩ hij=>?_⟩
     ·have:=DK _ _ _ hheap i b hib
      rw[Nat.zero_add,Nat.one_mul]at this
      unfold CD at this;split at this
      ·rename_i hlt
       rw[eA]at hlt
       refine⟨hlt,?_⟩
       split at this
       ·simp_all
       ·split at this
        ·rename_i x hx
         rw[Bool.and_eq_true]at this
         refine⟨x,hx,pA this.1,?_⟩
         grind[Mu,SObj.beq_eq,adh,adg,ObjTo.refl]
        simp_all
      simp_all
     ·have m1:=pZ _ 0 1 [] i b hb hl;have m2:=pZ _ 0 1 [] j c hc hl';grind[Ct]
    ·cases h
   ·cases h
  ·cases h
 ·cases h
section
variable {z:Sub} {ρ:Env} (hn:z.n0<=ρ.vs.length) (hb:z.b0<=ρ.bs.length)
include hn hb
theorem afa:∀(cs:List SV)(j:Nat),(SV.subs z cs)[j]?=cs[j]?.map (SV.sub z)
 |[],j=>by rfl
 |c::cs,0=>by rfl
 |c::cs,j+1=>by simp[SV.subs,afa cs j]
theorem SObj.rep_sub{w:World}{r off:Nat}{nil:Bool}{o:SObj}(hs:o.scp (z.n0+z.es.length) (z.b0+z.bs.length)=true)(h:blkRep (z.env ρ) w r off nil o):blkRep ρ w r off nil (o.sub z):=by
 cases o with
 |gone=>trivial
 |cells cs af elem=>
  simp only[SObj.scp,Bool.and_eq_true]at hs
  obtain⟨hnl,h0,hk,arr,h1,h2,h3⟩:=h
  rw[<- E.sub_I hn hs.1]at h2
  refine⟨hnl,h0,(SV.subs_ok hn hb cs hs.2).2 hk,arr,h1,h2,fun j v hv=>?_⟩
  grind[afa,Option.some.injEq,SV.sub_den,zx,List.mem_of_getElem?]
 |flat ks l n af elem=>
  simp only[SObj.scp,Bool.and_eq_true]at hs
  obtain⟨h1,h2,h3,h4,h5⟩:=h
  rw[<- E.sub_L hn hs.1,<- E.sub_I hn hs.2.1]at h2
  rw[<- E.sub_I hn hs.2.1,<- E.sub_I hn hs.2.2]at h3
  rw[<- E.sub_I hn hs.2.1]at h4
  rw[<- E.sub_I hn hs.2.2,<- E.sub_L hn hs.1]at h5
  exact⟨h1,h2,h3,h4,h5⟩
 |nest ks l n af elem own=>
  simp only[SObj.scp,Bool.and_eq_true]at hs
  obtain⟨h1,h2,h3,h4,h6,h5⟩:=h
  rw[<- E.sub_L hn hs.1,<- E.sub_I hn hs.2.1]at h2
  rw[<- E.sub_I hn hs.2.1,<- E.sub_I hn hs.2.2.1]at h3
  rw[<- E.sub_I hn hs.2.1]at h4
  rw[<- E.sub_I hn hs.2.2.1,<- E.sub_L hn hs.1,<- E.sub_I hn hs.2.2.2]at h5
  rw[<- E.sub_L hn hs.1,<- E.sub_I hn hs.2.2.2]at h6
  exact⟨h1,h2,h3,h4,h6,h5⟩
 |map es clk=>
  simp only[SObj.scp,Bool.and_eq_true]at hs
  obtain⟨en,clock,h1,h2,h3,h4,h5⟩:=h
  rw[<- E.sub_I hn hs.2]at h2
  refine⟨en,clock,h1,h2,⟨by rw[h3.1,MH],fun i e x he hx=>?_⟩,h4,h5⟩
  rw[MG]at hx
  cases hq:es[i]? with
  |none=>simp_all
  |some y=>
   rw[hq]at hx
   simp only[Option.map_some,Option.some.injEq]at hx;subst hx
   obtain⟨k1,k2,k3,k4,k5⟩:=h3.2 i e _ he hq
   grind[zw,List.mem_of_getElem?,SV.sub_den,E.sub_I,SV.sub_ok]
 |mapl k c e=>
  simp only[SObj.scp]at hs
  obtain⟨en,clock,h1,h2,h3⟩:=h
  rw[<- E.sub_L hn hs]at h2
  exact⟨en,clock,h1,h2,h3⟩
 |maplp k c e ke s=>
  simp only[SObj.scp,Bool.and_eq_true]at hs
  obtain⟨en,clock,h1,h2,h3,j,e1,h4,h5,h6,h7⟩:=h
  rw[<- E.sub_L hn hs.1]at h2 h7
  rw[<- E.sub_I hn hs.2.1]at h5 h7
  rw[<- E.sub_I hn hs.2.2]at h6
  exact⟨en,clock,h1,h2,h3,j,e1,h4,h5,h6,h7⟩
 |iter k c e n u=>
  simp only[SObj.scp,Bool.and_eq_true]at hs
  obtain⟨h0,h1,h2⟩:=h
  refine⟨h0,by rw[E.sub_L hn hs.1,E.sub_I hn hs.2.1];exact h1,fun x hx=>?_⟩
  cases u with
  |none=>cases hx
  |some y=>
   simp only[Option.some.injEq]at hx;subst hx
   rw[E.sub_L hn hs.1,E.sub_I hn hs.2.2]
   exact h2 y rfl
end
def TL(P:Program)(s:Pact):Prop:=
 ∀(B:Base)(ρ:Env)(w:World)(R:Ending->World->Prop),RepW B ρ s.st w->SV.oks ρ s.args->
  (∀y∈s.posts,∀(ρ':Env)(w':World),ρ.Ext ρ'->RepW B ρ' y.2 w'->y.1.ok ρ'->R (.returned (y.1.den ρ')) w')->Calls P s.fn (SV.dens ρ s.args).toArray w R
theorem ae0{z:Sub}{st pre:St}:∀(l:List (SV×St))(y:SV×St),y∈l->v8 z st pre y∈FX z st pre l
 |[],y,h=>by cases h
 |x::xs,y,h=>by
  simp only[FX,List.mem_cons];cases h with
  |head=>simp_all
  |tail _ hm=>exact .inr (ae0 xs y hm)
theorem adT{s:Pact}:∀(l:List (SV×St)),Fv s l=true->∀p∈l,MR s p=true
 |[],_,p,hp=>by cases hp
 |x::xs,h,p,hp=>by
  simp only[Fv]at h;split at h
  ·cases hp with
   |head=>omega
   |tail _ hm=>exact adT xs h p hm
  ·cases h
theorem aaz{pre post:T Blk}:∀(n:Nat),DD pre post n=true->∀i,i<n->gz post i->gz pre i
 |0,_,i,hi,_=>by omega
 |n+1,h,i,hi,hl=>by
  simp only[DD]at h;split at h
  ·rename_i h1;by_cases e:i=n
   ·obtain⟨q,hq,hg⟩:=hl
    cases hp:pre.get i with
    |none=>simp_all
    |some p=>
     refine⟨p,hp,fun hg2=>?_⟩
     simp_all
   ·exact aaz n h1 i (by omega) hl
  ·cases h
end Go.SX

namespace Go.SX
def wG(s:Pact)(ρc:Env)(r:Nat):Prop:=∃i p,s.st.heap.get i=some p/\((p.obj.real ρc/\ρc.blk i=r)\/p.obj.inner ρc r)
open Classical in
noncomputable def bU(s:Pact)(ρ ρc:Env)(w:World)(r:Nat):Option Obj:=if wG s ρc r then none else match ρ.fz r with | some _=>none | none=>w.heap[r]?
theorem vA{t:T Blk}(h:MC t=true){i:Nat}{b:Blk}(hb:t.get i=some b):b.own=true:=T.all_get t h i b hb
theorem zS{ρ:Env}{o:SObj}(h:o.real ρ):o≠.gone:=by rintro rfl;cases h
def J0(ρ ρ1:Env)(nv nb:Nat):Env:=⟨ρ.vs++ρ1.vs.drop nv,ρ.bs++ρ1.bs.drop nb,ρ1.fz⟩
theorem aHV{P:Program}{s:Pact}(hs:s.good=true)(hS:TL P s):aV P ⟨s.fn,Ns s⟩:=by
 intro fs hf args st l hl B ρ w R hr hao hK;simp only[Ns]at hl;split at hl;case h_2=>cases hl
 rename_i hst;split at hl;case h_2=>cases hl
 case h_3=>cases hl
 rename_i z hz;simp only[NatR.outs.injEq]at hl;subst hl;simp only[Pact.good,Bool.and_eq_true]at hs
 obtain⟨g1,g2,g3,g4⟩:=hs
 have htm:s.tmpl.scp=true:=by
  simp only[Pact.tmpl,Tmpl.scp,Bool.and_eq_true]
  refine⟨⟨g1,?_⟩,rfl⟩
  unfold jT jP
  rw[T.all_node,SV.scoped_tup,g2]
  rfl
 have hT:TmRep ρ (jP (.tup args)) ⟨#[(SV.tup args).den ρ],[]⟩:=by
  refine⟨rfl,fun i hi=>?_,fun i u hu=>?_⟩
  ·cases i with
   |zero=>cases hi
   |succ i=>simp
  ·cases i with
   |zero=>cases hu;exact⟨_,rfl,.inr ⟨rfl,by simp only[SV.ok];exact hao⟩⟩
   |succ i=>
    simp only[jP]at hu
    rw[T.get_succ]at hu
    split at hu<;>cases hu
 have h0:(Env.mk [] [] ρ.fz).Ext ρ:=⟨⟨ρ.vs,by simp⟩,⟨ρ.bs,by simp⟩,fun _ _ h=>h⟩
 obtain⟨q1,q2,q3,q4,q5⟩:=Lc hf hz htm hr hT h0 rfl rfl
 obtain⟨p1,p2,p3,p4,p5,p6,p7,p8⟩:=aDk hz
 have e0:s.tmpl.st=s.st:=rfl
 rw[e0]at p3 p4 p7 p8 q4
 rw[Nat.zero_add]at p3 p4
 rw[p2]at p7 p8
 have hargs:SV.dens ρ args=SV.dens (z.env ρ) s.args/\SV.oks (z.env ρ) s.args:=by
  obtain⟨x,hx1,hx2⟩:=q5.2.2 0 (.tup s.args) rfl
  rcases hx2 with hx2|⟨hx2,hx3⟩
  ·cases hx2
  ·simp only[SV.den,List.getElem?_toArray,List.getElem?_cons_zero,Option.some.injEq]at hx1
   rw[hx2]at hx1
   simp only[SV.den,Value.tuple.injEq]at hx1
   exact⟨by simp_all,by simp_all[SV.ok]⟩
 obtain⟨ha1,ha2⟩:=hargs
 rw[ha1]
 have hzf:(z.env ρ).fz=ρ.fz:=rfl;have hown:∀ {i:Nat} {p:Blk},s.st.heap.get i=some p->p.own=true:=fun h=>vA g3 h
 have hfoot:∀ {r:Nat},wG s (z.env ρ) r->ρ.fz r=none/\B.fr r=none:=by
  rintro r ⟨i,p,hp,⟨hreal,rfl⟩|hin⟩
  ·exact((q4.blk i p hp).2.2 hreal).1 (hown hp)
  ·exact(q4.inn i p hp r hin).1
 have hBrest:∀r o,B.fr r=some o->bU s ρ (z.env ρ) w r=some o:=by
  intro r o ho;unfold bU
  rw[if_neg (fun h=>by simp_all),hr.dj r o ho]
  exact hr.fr r o ho
 have hrestW:∀r o,bU s ρ (z.env ρ) w r=some o->w.heap[r]?=some o/\ρ.fz r=none/\¬wG s (z.env ρ) r:=by
  grind[bU]
 have hr':RepW ⟨B.w0,bU s ρ (z.env ρ) w⟩ (z.env ρ) s.st w:=by
  have hinn:Inn ⟨B.w0,bU s ρ (z.env ρ) w⟩ (z.env ρ) s.st.heap:=by
   intro i b hb r hbr
   obtain⟨g1,g2⟩:=q4.inn i b hb r hbr
   refine⟨⟨g1.1,?_⟩,g2⟩
   show bU s ρ (z.env ρ) w r=none;unfold bU
   rw[if_pos ⟨i,b,hb,.inr hbr⟩]
  refine⟨q4.nv,q4.nb,q4.pc,fun i b hb=>?_,q4.inj,hinn,q4.fz,fun r o ho=>(hrestW r o ho).1,fun r o ho=>(hrestW r o ho).2.1,q4.os,q4.tape,q4.output⟩
  obtain⟨k1,k2,k3⟩:=q4.blk i b hb
  refine⟨k1,k2,fun hl=>⟨fun _=>⟨((k3 hl).1 (hown hb)).1,?_⟩,fun _=>hown hb⟩⟩
  show bU s ρ (z.env ρ) w ((z.env ρ).blk i)=none;unfold bU
  rw[if_pos ⟨i,b,hb,.inl ⟨hl,rfl⟩⟩]
 refine hS ⟨B.w0,bU s ρ (z.env ρ) w⟩ (z.env ρ) w R hr' ha2 ?_;intro y hy ρ1 w' he1 hr1 hok1;have hpg:=adT _ g4 y hy;simp only[MR,Bool.and_eq_true,Nat.ble_eq]at hpg
 obtain⟨t1,t2,t3,t4,t5,t6⟩:=hpg
 have hgone:=aaz _ t6
 obtain⟨l1,hl1⟩:=he1.vs
 obtain⟨m1,hm1⟩:=he1.bs
 have hv0:(z.env ρ).vs=z.es.map (E.den ρ):=by simp[Sub.env,p1]
 have hb0:(z.env ρ).bs=z.bs.map (fun b=>ρ.bs.getD b ⟨0,0,none⟩):=by simp[Sub.env,p2]
 have hvl:(z.env ρ).vs.length=s.st.nv:=q4.nv;have hbl:(z.env ρ).bs.length=s.st.nb:=q4.nb;have hd1:ρ1.vs.drop s.st.nv=l1:=by simp_all
 have hd2:ρ1.bs.drop s.st.nb=m1:=by simp_all
 have hl1n:l1.length=y.2.nv-s.st.nv:=by have:=hr1.nv;grind
 have hm1n:m1.length=y.2.nb-s.st.nb:=by have:=hr1.nb;grind
 obtain⟨ρ',hρ'⟩:∃ρ',ρ'=J0 ρ ρ1 s.st.nv s.st.nb:=⟨_,rfl⟩
 have hvs':ρ'.vs=ρ.vs++l1:=by simp_all[J0]
 have hbs':ρ'.bs=ρ.bs++m1:=by simp_all[J0]
 have hfz':ρ'.fz=ρ1.fz:=by rw[hρ'];rfl
 have hext:ρ.Ext ρ':=⟨⟨l1,hvs'⟩,⟨m1,hbs'⟩,fun r o h=>by rw[hfz'];exact he1.fz r o h⟩
 obtain⟨z',hz'⟩:∃z',z'=MS z st s.st y.2:=⟨_,rfl⟩
 have hz0:z'.n0=0:=by rw[hz'];rfl
 have hz1:z'.b0=0:=by rw[hz'];rfl
 have hzes:z'.es=z.es++qH st.nv l1.length:=by rw[hz',hl1n];rfl
 have hzbs:z'.bs=z.bs++oK st.nb m1.length:=by rw[hz',hm1n];rfl
 have henv:z'.env ρ'=ρ1:=by
  unfold Sub.env
  rw[hz0,hz1,hzes,hzbs,hfz']
  have a1:z.es.map (E.den ρ')=z.es.map (E.den ρ):=List.map_congr_left fun e he=>E.scoped_den hext e (by rw[hr.nv];simp_all)
  have a2:(qH st.nv l1.length).map (E.den ρ')=l1:=af2 l1 _ ⟨ρ.vs,hvs',hr.nv⟩;have a3:z.bs.map (fun b=>ρ'.bs.getD b ⟨0,0,none⟩)=z.bs.map (fun b=>ρ.bs.getD b ⟨0,0,none⟩):=List.map_congr_left fun b hb=>by
   rw[hbs']
   have:b<ρ.bs.length:=by rw[hr.nb];simp_all
   grind
  have a4:(oK st.nb m1.length).map (fun b=>ρ'.bs.getD b ⟨0,0,none⟩)=m1:=acY m1 _ ⟨ρ.bs,hbs',hr.nb⟩;simp only[List.take_zero,List.nil_append,List.map_append,a1,a2,a3,a4]
  rw[<- hv0,<- hb0,<- hl1,<- hm1]
 have hn':z'.n0<=ρ'.vs.length:=by omega
 have hb':z'.b0<=ρ'.bs.length:=by omega
 have hlenv:z'.n0+z'.es.length=y.2.nv:=by simp_all[List.length_append,aJ0]
 have hlenb:z'.b0+z'.bs.length=y.2.nb:=by simp_all[List.length_append,aEX]
 have hblkE:∀i,i<y.2.nb->ρ'.blk (cw z'.b0 z'.bs i)=ρ1.blk i/\ρ'.off (cw z'.b0 z'.bs i)=ρ1.off i/\ρ'.nil (cw z'.b0 z'.bs i)=ρ1.nil i:=by
  grind[lL,Dg,ZD]
 have hsub1:∀i,i<s.st.nb->cw 0 z'.bs i=cw 0 z.bs i:=by
  simp_all[cw,Nat.blt,eA,ee,Nat.sub_zero,Nat.sub_eq,List.getElem?_append_left]
 have hsub2:∀j,j<m1.length->cw 0 z'.bs (s.st.nb+j)=st.nb+j:=by
  intro j hj;unfold cw
  rw[hzbs]
  have hlt:¬Nat.blt (s.st.nb+j) 0=true:=by simp_all
  simp only[ee,Nat.sub_zero,Nat.sub_eq]
  rw[List.getElem?_append_right (by omega)]
  have h1:s.st.nb+j-z.bs.length=j:=by omega
  have h2:=acZ m1.length st.nb j hj;grind[ee,absurd]
 have hcase:∀k b,(v8 z st s.st y).2.heap.get k=some b->
   (st.heap.get k=some b/\k<st.nb/\∀m,gz s.st.heap m->cw 0 z.bs m≠k)\/
   (∃i,i<y.2.nb/\cw 0 z'.bs i=k/\k<st.nb+m1.length/\b=mA z' (y.2.heap.get i)/\(i<s.st.nb->gz s.st.heap i)):=by
  intro k b hk;have hk':(sB z' y.2.heap m1.length s.st.nb st.nb (ng z' s.st.heap y.2.heap s.st.nb 0 st.heap)).get k=some b:=by
   rw[hm1n,hz'];exact hk
  rcases aba _ _ _ _ _ _ hk' with⟨h1,h2⟩|⟨j,h1,h2,h3⟩
  ·rcases Nh _ _ _ _ _ h1 with⟨h3,h4⟩|⟨m,h3,h4,h5,h6,h7⟩
   ·left
    refine⟨h3,(hr.blk k b h3).1,fun m hm=>?_⟩
    obtain⟨p,hp,hg⟩:=hm
    have hlt:=(p7 m p hp hg).1
    rw[<- hsub1 m hlt]
    exact h4 m (Nat.zero_le _) (by omega) ⟨p,hp,hg⟩
   ·right
    refine⟨m,by omega,h6,?_,h7,fun _=>h5⟩
    obtain⟨p,hp,hg⟩:=h5
    obtain⟨hlt,x,hx,_⟩:=p7 m p hp hg
    rw[hsub1 m hlt]at h6
    have:=(hr.blk _ _ hx).1
    omega
  grind
 have hreal1:∀ {i:Nat} {q:Blk},y.2.heap.get i=some q->((q.obj.sub z').real ρ'↔q.obj.real ρ1):=by
  intro i q hq
  rw[<- henv]
  refine SObj.sub_real hn' hb' ?_
  rw[hlenv,hlenb]
  simp only[St.scp,Bool.and_eq_true]at t3;exact T.all_get _ t3.2 i q hq
 have hfree1:∀r,hG ⟨B.w0,bU s ρ (z.env ρ) w⟩ ρ1 r->hG B ρ' r:=by
  rintro r ⟨h1,h2⟩
  refine⟨by simp_all,?_⟩
  cases hq:B.fr r with
  |none=>rfl
  |some o=>
   simp_all
 have hpinner:∀ {i:Nat} {p:Blk} {r:Nat},s.st.heap.get i=some p->p.obj.inner (z.env ρ) r->∃x,st.heap.get (cw 0 z.bs i)=some x/\x.obj.inner ρ r:=by
  intro i p r hp hin;have hg:p.obj≠.gone:=by intro e;rw[e]at hin;exact hin
  obtain⟨_,x,hx,_,_,hxi⟩:=p7 i p hp hg
  refine⟨x,hx,hxi ρ r ((SObj.sub_inner (by omega) (by omega) ?_).2 hin)⟩
  rw[p1,p2,Nat.zero_add,Nat.zero_add,p3,p4]
  simp only[St.scp,Bool.and_eq_true]at g1;exact T.all_get _ g1.2 i p hp
 have hother:∀k b,st.heap.get k=some b->(∀m,gz s.st.heap m->cw 0 z.bs m≠k)->b.obj.real ρ->w'.heap[ρ.blk k]?=w.heap[ρ.blk k]?/\(b.own=true->bU s ρ (z.env ρ) w (ρ.blk k)≠none):=by
  intro k b hb hno hl
  obtain⟨k1,k2,k3⟩:=hr.blk k b hb
  have hlt:=k2.lt hl;have hsome:w.heap[ρ.blk k]?=some w.heap[ρ.blk k]:=Array.getElem?_eq_getElem hlt;have hnf:b.own=true->¬wG s (z.env ρ) (ρ.blk k):=by
   rintro ob ⟨i,p,hp,⟨hreal,e⟩|hpin⟩
   rotate_left
   ·obtain⟨x,hx,hxr⟩:=hpinner hp hpin
    exact((hr.inn _ x hx _ hxr).2 k b hb).1 hl rfl
   have hi:i<s.st.nb:=(p7 i p hp (zS hreal)).1
   obtain⟨_,x,hx,ho,hoe,_⟩:=p7 i p hp (zS hreal)
   rw[lL (by omega) i (by omega),p2]at e
   have hxr:x.obj.real ρ:=by
    refine(hoe ρ w _ _ _ (hr.blk _ x hx).2.1).2 ?_
    refine(SObj.sub_real (by omega) (by omega) ?_).2 hreal
    rw[p1,p2,Nat.zero_add,Nat.zero_add,p3,p4]
    simp only[St.scp,Bool.and_eq_true]at g1;exact T.all_get _ g1.2 i p hp
   exact hr.inj _ _ _ _ hx hb hxr hl (by grind) ob (hno i ⟨p,hp,zS hreal⟩) e
  have hrest:bU s ρ (z.env ρ) w (ρ.blk k)≠none->w'.heap[ρ.blk k]?=w.heap[ρ.blk k]?:=by
   intro h;cases hq:bU s ρ (z.env ρ) w (ρ.blk k)with
   |none=>simp_all
   |some o=>rw[hr1.fr _ o hq,(hrestW _ o hq).1]
  cases ob:b.own with
  |true=>
   have hfree:=(k3 hl).1 ob;have hne:bU s ρ (z.env ρ) w (ρ.blk k)≠none:=by
    unfold bU
    rw[if_neg (hnf ob),hfree.1]
    simp_all
   simp_all
  |false=>
   refine⟨?_,fun h=>by cases h⟩
   have hnfree:¬hG B ρ (ρ.blk k):=fun h=>by simp_all
   cases hq:ρ.fz (ρ.blk k)with
   |some o=>
    rw[hr.fz _ o hq,hr1.fz _ o (he1.fz _ o hq)]
   |none=>
    cases hq2:B.fr (ρ.blk k)with
    |none=>exact absurd ⟨hq,hq2⟩ hnfree
    |some o=>simp_all
 have hscpE:st.scp=true:=hst;have hother2:∀k b,st.heap.get k=some b->(∀m,gz s.st.heap m->cw 0 z.bs m≠k)->∀r,b.obj.inner ρ r->w'.heap[r]?=w.heap[r]?/\bU s ρ (z.env ρ) w r≠none:=by
  intro k b hb hno r hbr
  obtain⟨f1,f2⟩:=hr.inn k b hb r hbr
  have hsome:w.heap[r]?=some (w.heap[r]'((hr.blk k b hb).2.1.inner_lt hbr)):=Array.getElem?_eq_getElem _;have hnf:¬wG s (z.env ρ) r:=by
   rintro⟨i,p,hp,⟨hreal,e⟩|hpin⟩
   ·have hi:i<s.st.nb:=(p7 i p hp (zS hreal)).1
    obtain⟨_,x,hx,ho,hoe,_⟩:=p7 i p hp (zS hreal)
    rw[lL (by omega) i (by omega),p2]at e
    have hxr:x.obj.real ρ:=by
     refine(hoe ρ w _ _ _ (hr.blk _ x hx).2.1).2 ?_
     refine(SObj.sub_real (by omega) (by omega) ?_).2 hreal
     rw[p1,p2,Nat.zero_add,Nat.zero_add,p3,p4]
     simp only[St.scp,Bool.and_eq_true]at g1;exact T.all_get _ g1.2 i p hp
    simp_all
   ·obtain⟨x,hx,hxr⟩:=hpinner hp hpin
    have hg:p.obj≠.gone:=by intro e;rw[e]at hpin;exact hpin
    exact(f2 _ x hx).2 (hno i ⟨p,hp,hg⟩) hxr
  have hne:bU s ρ (z.env ρ) w r=some (w.heap[r]'((hr.blk k b hb).2.1.inner_lt hbr)):=by
   unfold bU
   rw[if_neg hnf,f1.1]
   omega
  refine⟨?_,by simp_all⟩
  rw[hr1.fr _ _ hne,hsome]
 have hinn1:∀ {i:Nat} {q:Blk} {r:Nat},y.2.heap.get i=some q->((q.obj.sub z').inner ρ' r↔q.obj.inner ρ1 r):=by
  intro i q r hq
  rw[<- henv]
  refine SObj.sub_inner hn' hb' ?_
  rw[hlenv,hlenb]
  simp only[St.scp,Bool.and_eq_true]at t3;exact T.all_get _ t3.2 i q hq
 have hasIn:∀ {i r:Nat},(mA z' (y.2.heap.get i)).obj.inner ρ' r->∃q,y.2.heap.get i=some q/\q.obj.inner ρ1 r:=by
  intro i r h;cases hq:y.2.heap.get i with
  |none=>rw[hq]at h;exact h.elim
  |some q=>rw[hq]at h;exact⟨q,rfl,(hinn1 hq).1 h⟩
 have hasReal:∀ {i:Nat},(mA z' (y.2.heap.get i)).obj.real ρ'->∃q,y.2.heap.get i=some q/\q.obj.real ρ1:=by
  intro i h;cases hq:y.2.heap.get i with
  |none=>rw[hq]at h;exact h.elim
  |some q=>rw[hq]at h;exact⟨q,rfl,(hreal1 hq).1 h⟩
 have hinnF:Inn B ρ' (v8 z st s.st y).2.heap:=by
  intro k b hk r hbr;rcases hcase k b hk with⟨h1,h2,h3⟩|⟨i,h1,h2,h3,h4,h5⟩
  ·have hsc:=hr.blk_scp hscpE h1;have hbr':=(SObj.inner_ext hext hsc).1 hbr
   obtain⟨f1,f2⟩:=hr.inn k b h1 r hbr'
   obtain⟨w1,w2⟩:=hother2 k b h1 h3 r hbr'
   refine⟨⟨?_,f1.2⟩,fun j b' hj=>?_⟩
   ·rw[hfz']
    cases hq:bU s ρ (z.env ρ) w r with
    |none=>exact absurd hq w2
    |some o=>exact hr1.dj _ o hq
   ·rcases hcase j b' hj with⟨m1',m2',m3'⟩|⟨i',m1',m2',m3',m4',m5'⟩
    ·have hsc':=hr.blk_scp hscpE m1';have hlt:j<ρ.bs.length:=by rw[hr.nb];exact m2'
     obtain⟨u1,u2⟩:=f2 j b' m1'
     exact⟨fun hl=>by rw[hext.blk hlt];exact u1 ((SObj.real_ext hext hsc').1 hl),fun hjk hx=>u2 hjk ((SObj.inner_ext hext hsc').1 hx)⟩
    ·rw[m4']
     refine⟨fun hl e=>?_,fun _ hx=>?_⟩
     ·obtain⟨q,hq,hql⟩:=hasReal hl
      obtain⟨_,_,k3⟩:=hr1.blk i' q hq
      have hfree:=(k3 hql).1 (vA t5 hq)
      obtain⟨e1,_,_⟩:=hblkE i' m1'
      rw[hz1,m2']at e1
      rw[e1]at e
      rw[e]at hfree
      exact w2 hfree.2
     ·obtain⟨q,hq,hqr⟩:=hasIn hx
      exact w2 (hr1.inn i' q hq r hqr).1.2
  ·rw[h4]at hbr
   obtain⟨q,hq,hqr⟩:=hasIn hbr
   obtain⟨f1,f2⟩:=hr1.inn i q hq r hqr
   have hf:=hfree1 r f1
   refine⟨hf,fun j b' hj=>?_⟩
   rcases hcase j b' hj with⟨m1',m2',m3'⟩|⟨i',m1',m2',m3',m4',m5'⟩
   ·have hsc':=hr.blk_scp hscpE m1';have hlt:j<ρ.bs.length:=by rw[hr.nb];exact m2'
    refine⟨fun hl e=>?_,fun _ hx=>?_⟩
    ·have hl':=(SObj.real_ext hext hsc').1 hl
     rw[hext.blk hlt]at e
     obtain⟨_,_,k3⟩:=hr.blk j b' m1'
     have hfr:hG B ρ (ρ.blk j):=by
      rw[e]
      refine⟨?_,hf.2⟩
      cases hq2:ρ.fz r with
      |none=>rfl
      |some o=>have:=hf.1;rw[hfz',he1.fz _ o hq2]at this;cases this
     have:=(hother j b' m1' m3' hl').2 ((k3 hl').2 hfr)
     rw[e]at this
     exact this f1.2
    ·exact(hother2 j b' m1' m3' r ((SObj.inner_ext hext hsc').1 hx)).2 f1.2
   ·rw[m4']
    refine⟨fun hl e=>?_,fun hjk hx=>?_⟩
    ·obtain⟨q',hq',hql⟩:=hasReal hl
     obtain⟨e1,_,_⟩:=hblkE i' m1'
     rw[hz1,m2']at e1
     rw[e1]at e
     exact(f2 i' q' hq').1 hql e
    ·obtain⟨q',hq',hqr'⟩:=hasIn hx
     exact(f2 i' q' hq').2 (fun e=>hjk (by rw[<- m2',<- h2,e])) hqr'
 have hrep:RepW B ρ' (v8 z st s.st y).2 w':=by
  refine⟨?_,?_,?_,?_,?_,hinnF,?_,?_,?_,hr1.os,hr1.tape,hr1.output⟩
  ·rw[hvs',List.length_append,hr.nv,hl1n];rfl
  ·rw[hbs',List.length_append,hr.nb,hm1n];rfl
  ·intro e he;have he':e∈zM z' st.pc y.2.pc:=by rw[hz'];exact he
   rcases adL _ _ he' with⟨x,hx,rfl⟩|he
   ·rw[E.sub_B hn' (by rw[hlenv];simp only[St.scp,Bool.and_eq_true]at t3;exact Ey _ t3.1 x hx),henv]
    exact hr1.pc x hx
   ·exact hr.ext_pc hscpE hext e he
  ·intro k b hk;rcases hcase k b hk with⟨h1,h2,h3⟩|⟨i,h1,h2,h3,h4,h5⟩
   ·have hsc:=hr.blk_scp hscpE h1
    obtain⟨k1,k2,k3⟩:=hr.blk k b h1
    have hlt:k<ρ.bs.length:=by rw[hr.nb];exact h2
    refine⟨by show k<Nat.add st.nb _;simp;omega,?_,fun hl=>?_⟩
    ·rw[hext.blk hlt,hext.off hlt,hext.nil hlt]
     exact(k2.ext hext hsc).world (fun hl=>(hother k b h1 h3 ((SObj.real_ext hext hsc).1 hl)).1) (fun x hx=>(hother2 k b h1 h3 x ((SObj.inner_ext hext hsc).1 hx)).1)
    ·have hl':=(SObj.real_ext hext hsc).1 hl
     rw[hext.blk hlt]
     obtain⟨w1,w2⟩:=hother k b h1 h3 hl'
     constructor
     ·intro ob;have hfree:=(k3 hl').1 ob
      refine⟨?_,hfree.2⟩
      rw[hfz']
      cases hq:bU s ρ (z.env ρ) w (ρ.blk k)with
      |none=>exact absurd hq (w2 ob)
      |some o=>exact hr1.dj _ o hq
     ·rintro⟨hf1,hf2⟩
      refine(k3 hl').2 ⟨?_,hf2⟩
      cases hq:ρ.fz (ρ.blk k)with
      |none=>rfl
      |some o=>rw[hfz',he1.fz _ o hq]at hf1;cases hf1
   ·refine⟨?_,?_,?_⟩
    ·show k<Nat.add st.nb _
     rw[hm1n]at h3
     exact h3
    ·cases hq:y.2.heap.get i with
     |none=>rw[h4,hq];trivial
     |some q=>
      rw[h4,hq]
      obtain⟨k1,k2,k3⟩:=hr1.blk i q hq
      obtain⟨e1,e2,e3⟩:=hblkE i h1
      rw[hz1,h2]at e1 e2 e3
      rw[e1,e2,e3]
      refine SObj.rep_sub hn' hb' ?_ (by rw[henv];exact k2)
      rw[hlenv,hlenb]
      simp only[St.scp,Bool.and_eq_true]at t3;exact T.all_get _ t3.2 i q hq
    ·intro hl;cases hq:y.2.heap.get i with
     |none=>rw[h4,hq]at hl;cases hl
     |some q=>
      rw[h4,hq]at hl ⊢
      have hl':=(hreal1 hq).1 hl
      obtain⟨k1,k2,k3⟩:=hr1.blk i q hq
      obtain⟨e1,_,_⟩:=hblkE i h1
      rw[hz1,h2]at e1
      rw[e1]
      exact⟨fun _=>hfree1 _ ((k3 hl').1 (vA t5 hq)),fun _=>rfl⟩
  ·intro i j a b ha hb la lb oa ob hij;have key:∀k k' c d,st.heap.get k=some c->k<st.nb->(∀m,gz s.st.heap m->cw 0 z.bs m≠k)->c.own=true->c.obj.real ρ'->∀i',i'<y.2.nb->cw 0 z'.bs i'=k'->d=mA z' (y.2.heap.get i')->d.obj.real ρ'->ρ'.blk k≠ρ'.blk k':=by
    intro k k' c d hc hk hno oc lc i' hi' hk' hd ld e;have hsc:=hr.blk_scp hscpE hc;have lc':=(SObj.real_ext hext hsc).1 lc;have hlt:k<ρ.bs.length:=by rw[hr.nb];exact hk
    cases hq:y.2.heap.get i' with
    |none=>rw[hd,hq]at ld;cases ld
    |some q=>
     rw[hd,hq]at ld
     have ld':=(hreal1 hq).1 ld
     obtain⟨_,_,k3⟩:=hr1.blk i' q hq
     have hfree:=(k3 ld').1 (vA t5 hq)
     obtain⟨e1,_,_⟩:=hblkE i' hi'
     rw[hz1,hk']at e1
     rw[hext.blk hlt,e1]at e
     exact(hother k c hc hno lc').2 oc (by rw[e];exact hfree.2)
   rcases hcase i a ha with⟨h1,h2,h3⟩|⟨i',h1,h2,h3,h4,h5⟩
   ·rcases hcase j b hb with⟨h1',h2',h3'⟩|⟨j',h1',h2',h3',h4',h5'⟩
    ·have hlt:i<ρ.bs.length:=by rw[hr.nb];exact h2
     have hlt':j<ρ.bs.length:=by rw[hr.nb];exact h2'
     rw[hext.blk hlt,hext.blk hlt']
     exact hr.inj i j a b h1 h1' ((SObj.real_ext hext (hr.blk_scp hscpE h1)).1 la) ((SObj.real_ext hext (hr.blk_scp hscpE h1')).1 lb) oa ob hij
    ·exact key i j a b h1 h2 h3 oa la j' h1' h2' h4' lb
   ·rcases hcase j b hb with⟨h1',h2',h3'⟩|⟨j',h1',h2',h3',h4',h5'⟩
    ·exact fun e=>key j i b a h1' h2' h3' ob lb i' h1 h2 h4 la e.symm
    ·cases hq:y.2.heap.get i' with
     |none=>rw[h4,hq]at la;cases la
     |some q=>
      cases hq':y.2.heap.get j' with
      |none=>rw[h4',hq']at lb;cases lb
      |some q'=>
       rw[h4,hq]at la
       rw[h4',hq']at lb
       obtain⟨e1,_,_⟩:=hblkE i' h1
       obtain⟨e2,_,_⟩:=hblkE j' h1'
       rw[hz1,h2]at e1
       rw[hz1,h2']at e2
       rw[e1,e2]
       refine hr1.inj i' j' q q' hq hq' ((hreal1 hq).1 la) ((hreal1 hq').1 lb) (vA t5 hq) (vA t5 hq') fun e=>?_
       subst e;exact hij (h2.symm.trans h2')
  ·intro r o ho
   rw[hfz']at ho
   exact hr1.fz r o ho
  ·intro r o ho;exact hr1.fr r o (hBrest r o ho)
  ·intro r o ho
   rw[hfz']
   exact hr1.dj r o (hBrest r o ho)
 grind[v8,MS,SV.sub_den,SV.sub_ok,ae0]
theorem adq{tb:Tab}{ms:List FM}{s:Pact}:∀(os:List Out),E2 tb ms s os=true->∀o∈os,∃v l r,o.tmps=.node v l r/\MB tb.facts s (ot ms tb.facts (v,o.st))=true
 |[],_,o,ho=>by cases ho
 |x::xs,h,o,ho=>by
  simp only[E2]at h;split at h
  ·split at h
   ·cases ho with
    |head=>simp_all
    |tail _ hm=>exact adq xs h o hm
   ·cases h
  ·cases h
theorem aEo{fs:List E}{ρ:Env}(hf:∀e∈fs,∀ρ,e.B ρ=true):∀ {l:List (SV×St)} {p:SV×St},p∈l->(∀e∈p.2.pc,e.B ρ=true)->p∈zk fs l:=by
 intro l p hp hpc;induction l with
 |nil=>cases hp
 |cons q qs ih=>
  unfold zk;rcases List.mem_cons.1 hp with rfl|hp
  ·have:LZ fs p=true:=by
    unfold LZ;split
    ·rfl
    ·split
     ·rename_i b hb;have h1:=eK (ρ:=ρ) hf (fun e he=>hpc e (by simp_all)) hb;simp_all[iA]
     rfl
   simp_all
  grind
theorem aHW{P:Program}{s:Pact}(hs:s.good=true)(hS:TL P s):aV P (bz s):=by
 intro fs hf args st l hl B ρ w R hr hao hK
 obtain⟨h1,h2⟩:=SV.norms_ok hr _
 have hl':Nr s fs _ st=.outs l:=hl;unfold Nr at hl';split at hl'
 ·rename_i l0 hl0;simp only[NatR.outs.injEq]at hl';subst hl'
  have:=aHV hs hS fs hf _ _ l0 hl0 B ρ w R hr.norm (h2 hao) (fun p hp ρ' w' hx hrep=>hK p (aEo hf hp hrep.pc) _ w' hx hrep)
  rw[h1]at this
  exact this
 all_goals simp_all
theorem ae1{P:Program}(hP:lV P=true){facts:List E}(hf:∀e∈facts,∀ρ,e.B ρ=true){anns:List Ann}(ha:∀x∈anns,gA P x){nats:List Nat1}(hn:∀x∈nats,aV P x){n:Nat}{ms:List FM}{s:Pact}
  (h:nr P (fun tb=>Nq P (tb.plus facts anns nats) n ms s)=true):aV P (bz s):=by
 rw[Ob]at h
 unfold Nq at h;split at h;case h_2=>cases h
 rename_i hg;split at h;case h_2=>cases h
 rename_i os hos;refine aHW hg ?_;intro B ρ w R hr hao hK
 refine(M9 hP hf ha hn n).call _ _ _ _ _ _ hos B ρ w _ hr hao ?_
 intro o ρ' w' os' v l r e1 e2 e3 e4 e5 e6
 obtain⟨v',l',r',k1,k2⟩:=adq _ h o (e2 o (by grind))
 rw[e5]at k1
 obtain⟨rfl,_,_⟩:=k1
 obtain⟨ρ',hxf,e4,e6,hdf⟩:=aas (ms:=ms) hf (p:=(v,o.st)) e4 e6
 have e3:=e3.trans hxf
 rw[show v.den _=_ from hdf.symm]
 have k2:MB _ s (ot ms facts _)=true:=k2;generalize ot ms _ _=q at k2 e4 e6 ⊢
 obtain⟨v,st1⟩:=q
 have hT:TmRep ρ' (jP v) ⟨#[v.den ρ'],[]⟩:=by
  refine⟨rfl,fun i hi=>?_,fun i u hu=>?_⟩
  ·cases i with
   |zero=>cases hi
   |succ i=>simp
  ·cases i with
   |zero=>cases hu;simp_all
   |succ i=>
    simp only[jP]at hu
    rw[T.get_succ]at hu
    split at hu<;>cases hu
 obtain⟨y,hy,ρ3,j1,j2,j3⟩:=Er (ρ0:=ρ) hf e4 hT e3 hr.nv hr.nb _ k2
 obtain⟨x,hx,hj,rfl⟩:=Cz _ _ hy
 obtain⟨u,hu1,hu2⟩:=j3.2.2 0 _ rfl
 grind
end Go.SX

namespace Go.SX
end Go.SX

namespace Go.SX
def iceAll(B:Base)(w:World)(r:Nat):Option Obj:=match B.fr r with
 |none=>w.heap[r]?
 |some _=>none
def Env.lnt(ρ:Env)(B:Base)(w:World)(l:List U):Env:=⟨ρ.vs++l,ρ.bs,iceAll B w⟩
theorem RepW.iceExt{B:Base}{ρ:Env}{st:St}{w:World}(h:RepW B ρ st w)(l:List U):ρ.Ext (ρ.lnt B w l):=
 ⟨⟨l,rfl⟩,⟨[],by simp[Env.lnt]⟩,fun r o hr=>by
  show iceAll B w r=some o;unfold iceAll;split
  ·exact h.fz r o hr
  ·rename_i o' ho
   rw[h.dj r o' ho]at hr;cases hr⟩
theorem Env.lnt_more(ρ:Env)(B:Base)(w:World)(l l':List U):(ρ.lnt B w l).Ext (ρ.lnt B w (l++l')):=
 ⟨⟨l',by simp[Env.lnt]⟩,⟨[],by simp[Env.lnt]⟩,fun _ _ h=>h⟩
theorem T.get_none{G:Type}(i:Nat):(T.nil:T G).get i=none:=by cases i<;>rfl
theorem RepW.iceAll{B:Base}{ρ:Env}{st:St}{w:World}(h:RepW B ρ st w)(hs:st.scp=true)(l:List U):RepW B (ρ.lnt B w l) ⟨st.nv+l.length,st.nb,.nil,st.pc⟩ w:=by
 refine⟨by simp[Env.lnt,h.nv],h.nb,h.ext_pc hs (h.iceExt l),fun i b hb=>?_,fun i j a b ha=>?_,fun i b hb=>?_,fun r o ho=>?_,h.fr,fun r o ho=>?_,h.os,h.tape,h.output⟩
 ·have hb:(T.nil:T Blk).get i=some b:=hb
  rw[T.get_none]at hb;cases hb
 ·have ha:(T.nil:T Blk).get i=some a:=ha
  rw[T.get_none]at ha;cases ha
 ·have hb:(T.nil:T Blk).get i=some b:=hb
  rw[T.get_none]at hb;cases hb
 ·have ho:Go.SX.iceAll B w r=some o:=ho;unfold Go.SX.iceAll at ho;split at ho
  ·exact ho
  ·cases ho
 ·show Go.SX.iceAll B w r=none;unfold Go.SX.iceAll
  rw[ho]
theorem E.den_vs{ρ ρ':Env}(h:ρ'.vs=ρ.vs)(e:E):e.den ρ'=e.den ρ:=by
 induction e<;>simp_all[E.den]
theorem RepW.lent{B:Base}{ρ ρ':Env}{st st':St}{w w':World}(h:RepW B ρ st w)(hs:st.scp=true)(h':RepW B ρ' st' w'){l:List U}(hx:(ρ.lnt B w l).Ext ρ'):
  ρ.Ext ⟨ρ'.vs,ρ'.bs,ρ.fz⟩/\RepW B ⟨ρ'.vs,ρ'.bs,ρ.fz⟩ ⟨st'.nv,st'.nb,st.heap,st'.pc⟩ w':=by
 have he:ρ.Ext ⟨ρ'.vs,ρ'.bs,ρ.fz⟩:=⟨((h.iceExt l).trans hx).vs,((h.iceExt l).trans hx).bs,fun _ _ h=>h⟩;have hw:∀(r:Nat)(o:Obj),w.heap[r]?=some o->w'.heap[r]?=some o:=by
  intro r o ho;cases hf:B.fr r with
  |some o'=>
   have h1:=h.fr r o' hf
   rw[ho]at h1
   rw[h'.fr r o' hf,h1]
  |none=>
   refine h'.fz r o (hx.fz r o ?_);show Go.SX.iceAll B w r=some o;unfold Go.SX.iceAll
   rw[hf];exact ho
 have hw2:∀(r:Nat),r<w.heap.size->w'.heap[r]?=w.heap[r]?:=fun r hr=>by
  rw[Array.getElem?_eq_getElem hr];exact hw r _ (Array.getElem?_eq_getElem hr)
 have hlt:∀ {i b},st.heap.get i=some b->i<ρ.bs.length:=fun hb=>by rw[h.nb];exact(h.blk _ _ hb).1
 refine⟨he,h'.nv,h'.nb,fun e hm=>?_,fun i b hb=>?_,fun i j a b ha hb la lb oa ob hij=>?_,h.inn.next (fun i b hb=>.inl ⟨b,hb,(SObj.real_ext he (h.blk_scp hs hb)).1,he.blk (hlt hb),fun r=>(SObj.inner_ext he (h.blk_scp hs hb)).1⟩) (fun _ _ hf=>hf),
  fun r o ho=>hw r o (h.fz r o ho),h'.fr,h.dj,h'.os,h'.tape,h'.output⟩
 ·show(e.den _).toB=true
  rw[E.den_vs (ρ:=ρ') (ρ':=⟨ρ'.vs,ρ'.bs,ρ.fz⟩) rfl e]
  exact h'.pc e hm
 ·obtain⟨h1,h2,h3⟩:=h.blk i b hb
  have hsc:=h.blk_scp hs hb;have hl:=hlt hb
  refine⟨?_,?_,fun hl'=>?_⟩
  ·obtain⟨l,hl2⟩:=he.bs
   show i<st'.nb
   rw[<- h'.nb]
   have:ρ'.bs=ρ.bs++l:=hl2
   rw[this];simp;omega
  ·rw[he.blk hl,he.off hl,he.nil hl]
   exact(h2.world (fun hq=>hw2 _ (h2.lt hq)) (fun x hx=>hw2 _ (h2.inner_lt hx))).ext he hsc
  ·rw[he.blk hl];exact h3 ((SObj.real_ext he hsc).1 hl')
 ·rw[he.blk (hlt ha),he.blk (hlt hb)]
  exact h.inj i j a b ha hb ((SObj.real_ext he (h.blk_scp hs ha)).1 la) ((SObj.real_ext he (h.blk_scp hs hb)).1 lb) oa ob hij
section
variable {B:Base} {ρ:Env} {st:St} {w:World}
theorem aFO(hr:RepW B ρ st w){ks:List CK}:∀ {u:U},(∀r,gN u=some r->hG B ρ r)->rowN ρ.fz w ks u->SlOk (iceAll B w) ks u
 |.bx none _ _ _,_,h=>by
  obtain⟨rfl,rfl,rfl⟩:=h
  exact .nil
 |.bx (some a) _ 0 _,_,h=>by
  obtain⟨rfl,rfl⟩:=h
  exact .empty a
 |.bx (some a) n (c+1) l,hf,h=>by
  obtain⟨h1,h2,h3,arr,el,h4,h5,h6⟩:=h
  have hfr:=(hf a.block rfl).2
  rw[h1]
  refine SlOk.mk (arr:=arr) (elem:=el) (fr:=(0,0)) h2 h3 (fun _=>?_) (fun i x hi=>?_) (fun i x ks' hi hk=>?_)
  ·unfold iceAll
   rw[hfr];exact h4
  ·obtain⟨cc,c1,c2,_⟩:=h6 i x hi
   exact⟨cc,c1,by rw[Nat.zero_add];exact c2⟩
  ·obtain⟨cc,c1,_,c3⟩:=h6 i x hi
   rw[hk]at c1
   simp only[Option.some.injEq]at c1;subst c1;exact SlOk.mono (hr.iceExt []).fz c3
 |.int _,_,h=>h.elim
 |.bool _,_,h=>h.elim
 |.str _,_,h=>h.elim
 |.lst _,_,h=>h.elim
variable (B ρ st w) in
def tI(l:List U)(v:SV)(p:SV×Nat):Prop:=∃l',p.2=st.nv+(l++l').length/\p.1.ok (ρ.lnt B w (l++l'))/\p.1.den (ρ.lnt B w (l++l'))=v.den ρ
variable (hr:RepW B ρ st w)
include hr
theorem zi(l:List U){v:SV}(hsc:v.scp st.nv st.nb=true)(hv:v.ok ρ):tI B ρ st w l v (v,st.nv+l.length):=by
 rw[<- hr.nv,<- hr.nb]at hsc
 exact⟨[],by simp,SV.ok_ext (hr.iceExt _) v hsc hv,SV.scoped_den (hr.iceExt _) _ hsc⟩
theorem abr(li:List U){b:Nat}{ks:List CK}{l n len cap af:E}
  (hsc:(SV.nslice b len cap).scp st.nv st.nb=true)(hl:l.scp st.nv=true)(hok:n=len->cap=af->SlOk (iceAll B w) ks (.bx (ρ.base b) (len.I ρ).toNat (cap.I ρ).toNat (l.L ρ))):
  tI B ρ st w li (.nslice b len cap) (En ks l n len cap af (.nslice b len cap) (st.nv+li.length)):=by
 unfold En;split
 ·rename_i hb
  rw[Bool.and_eq_true]at hb
  have hok:=hok (E.beq_eq hb.1) (E.beq_eq hb.2);let u:U:=.bx (ρ.base b) 0 (cap.I ρ).toNat []
  have hx:=hr.iceExt (li++[u]);have hsc':Bool.rec _ _ _=true:=hsc
  rw[cS,cS,Bool.and_eq_true,Bool.and_eq_true,eA,<- hr.nv]at hsc'
  rw[<- hr.nv]at hl
  have eI:len.I _=len.I ρ:=E.scoped_I hx hsc'.2.1;have eL:l.L _=l.L ρ:=E.scoped_L hx hl;have eu:(E.var (st.nv+li.length)).den (ρ.lnt B w (li++[u]))=u:=by
   show(ρ.vs++(li++[u])).getD _ _=u
   rw[<- hr.nv,<- List.append_assoc];simp[List.getD]
  have eden:(E.fn 28 (.pr (.pr (.var (st.nv+li.length)) len) l)).den (ρ.lnt B w (li++[u]))=.bx (ρ.base b) (len.I ρ).toNat (cap.I ρ).toNat (l.L ρ):=by
   show U.bx ((E.var _).den _).adr (len.I _).toNat ((E.var _).den _).rcap (l.L _)=_
   rw[eu,eI,eL];rfl
  refine⟨[u],by simp;omega,?_,?_⟩
  ·show SlOk _ ks _
   rw[eden];exact hok
  ·show((E.fn 28 _).den _).raw=.slice _ _ _
   rw[eden];rfl
 ·exact zi hr li hsc trivial
theorem aEj(hs:st.scp=true)(li:List U)(ks0:List CK){v:SV}(hsc:v.scp st.nv st.nb=true)(hv:v.ok ρ):tI B ρ st w li v (LV st.heap ks0 v (st.nv+li.length)):=by
 unfold LV;split
 ·refine⟨[],by simp,?_,rfl⟩
  show SlOk _ ks0 (.bx none 0 0 []);exact .nil
 ·rename_i b len cap;split
  ·rename_i ks l n af elem hb;have hbs:=hr.blk_scp hs hb;simp only[SObj.scp,Bool.and_eq_true]at hbs;refine abr hr li hsc (by rw[<- hr.nv];exact hbs.1) fun en ec=>?_
   subst en;subst ec
   obtain⟨hlt,⟨k0,k1,k2,k3,k4⟩,hown⟩:=hr.blk _ _ hb
   have hlen5:(l.L ρ).length=(n.I ρ).toNat*ks.length:=by grind
   by_cases ht:0<cap.I ρ
   ·obtain⟨hnil,hoff,arr,ha,hfl,hsz⟩:=k4 ht
    have hbase:ρ.base b=some ⟨ρ.blk b,0,none⟩:=by simp_all[fj]
    rw[hbase]
    have hfl':=hfl.mono (hr.iceExt []).fz;refine SlOk.mk (arr:=arr) (elem:=elem) (fr:=(0,0)) hlen5 (by omega) ?_ ?_ ?_
    ·intro _;unfold iceAll
     rw[((hown ht).1 rfl).2];exact ha
    ·intro i x hi
     obtain⟨c,c1,c2,_⟩:=hfl' i x hi
     simp_all
    ·intro i x ks' hi hk
     obtain⟨c,c1,_,c3⟩:=hfl' i x hi
     rw[hk]at c1
     simp only[Option.some.injEq]at c1;subst c1;exact c3
   ·have e0:(n.I ρ).toNat=0:=by omega
    have e1:(cap.I ρ).toNat=0:=by omega
    have e2:l.L ρ=[]:=List.length_eq_zero_iff.1 (by simp_all)
    rw[e0,e1,e2]
    cases hbase:ρ.base b with
    |none=>exact SlOk.nil
    |some a=>exact SlOk.empty _
  ·rename_i ks l n af elem ow hb;have hbs:=hr.blk_scp hs hb;simp only[SObj.scp,Bool.and_eq_true]at hbs;refine abr hr li hsc (by rw[<- hr.nv];exact hbs.1) fun en ec=>?_
   subst en;subst ec
   obtain⟨hlt,⟨k0,k1,k2,k3,_,k4⟩,hown⟩:=hr.blk _ _ hb
   have hlen5:(l.L ρ).length=(n.I ρ).toNat*ks.length:=by grind
   by_cases ht:0<cap.I ρ
   ·obtain⟨hnil,hoff,arr,ha,hfl,hsz⟩:=k4 ht
    have hbase:ρ.base b=some ⟨ρ.blk b,0,none⟩:=by simp_all[fj]
    rw[hbase]
    refine SlOk.mk (arr:=arr) (elem:=elem) (fr:=(0,0)) hlen5 (by omega) ?_ ?_ ?_
    ·intro _;unfold iceAll
     rw[((hown ht).1 rfl).2];exact ha
    ·intro i x hi
     obtain⟨c,c1,c2,_⟩:=hfl i x hi
     exact⟨c,c1,by rw[Nat.zero_add];exact c2⟩
    ·intro i x ks' hi hk
     obtain⟨c,c1,_,c3⟩:=hfl i x hi
     rw[hk]at c1
     simp only[Option.some.injEq]at c1;subst c1;by_cases ho:(i:Int)<ow.I ρ*ks.length
     ·exact aFO hr (fun r hr'=>(hr.inn _ _ hb r ⟨i,x,ks',hi,hk,hr',ho⟩).1) (c3.1 ho)
     ·exact SlOk.mono (hr.iceExt []).fz (c3.2 ho)
   ·have e0:(n.I ρ).toNat=0:=by omega
    have e1:(cap.I ρ).toNat=0:=by omega
    have e2:l.L ρ=[]:=List.length_eq_zero_iff.1 (by simp_all)
    rw[e0,e1,e2]
    cases hbase:ρ.base b with
    |none=>exact SlOk.nil
    |some a=>exact SlOk.empty _
  ·exact zi hr li hsc hv
 ·exact zi hr li hsc hv
theorem abu(hs:st.scp=true)(li:List U)(m:FM){v:SV}(hsc:v.scp st.nv st.nb=true)(hv:v.ok ρ):tI B ρ st w li v (Eo st.heap m v (st.nv+li.length)):=by
 unfold Eo;split
 ·exact aEj hr hs li _ hsc hv
 ·exact zi hr li hsc hv
omit hr in
variable (B ρ st w) in
def wX(l:List U)(vs:List SV)(p:List SV×Nat):Prop:=∃l',p.2=st.nv+(l++l').length/\SV.oks (ρ.lnt B w (l++l')) p.1/\SV.dens (ρ.lnt B w (l++l')) p.1=SV.dens ρ vs
theorem va(l:List U){vs:List SV}(hsc:SV.scps st.nv st.nb vs=true)(hv:SV.oks ρ vs):wX B ρ st w l vs (vs,st.nv+l.length):=by
 rw[<- hr.nv,<- hr.nb]at hsc
 exact⟨[],by simp,SV.oks_ext (hr.iceExt _) vs hsc hv,SV.scopeds_den (hr.iceExt _) _ hsc⟩
theorem abx{li:List U}{v v':SV}{vs:List SV}{nv1:Nat}{p:List SV×Nat}(h1:tI B ρ st w li v (v',nv1))(hsc:v'.scp nv1 st.nb=true)(h2:∀li',nv1=st.nv+li'.length->wX B ρ st w li' vs p):wX B ρ st w li (v::vs) (v'::p.1,p.2):=by
 obtain⟨l1,e1,k1,d1⟩:=h1
 obtain⟨l2,e2,k2,d2⟩:=h2 _ e1
 have hx:=Env.lnt_more ρ B w (li++l1) l2;have hsc':v'.scp (ρ.lnt B w (li++l1)).vs.length (ρ.lnt B w (li++l1)).bs.length=true:=by
  have e1:nv1=_:=e1;simp only[Env.lnt,List.length_append,hr.nv,hr.nb]
  rw[e1]at hsc
  simpa using hsc
 refine⟨l1++l2,by rw[<- List.append_assoc];exact e2,?_,?_⟩
 ·rw[<- List.append_assoc]
  exact⟨SV.ok_ext hx v' hsc' k1,k2⟩
 ·rw[<- List.append_assoc]
  show v'.den _::_=v.den ρ::_
  rw[SV.scoped_den hx _ hsc',d2]
  exact congrArg (·::_) d1
theorem abt(hs:st.scp=true):∀(ms:List FM)(vs:List SV)(li:List U),SV.scps st.nv st.nb vs=true->SV.oks ρ vs->wX B ρ st w li vs (u9 st.heap st.nb ms vs (st.nv+li.length))
 |[],vs,li,hsc,hv=>by
  unfold u9;exact va hr li hsc hv
 |m::ms,[],li,hsc,hv=>by
  unfold u9;exact va hr li hsc hv
 |m::ms,v::vs,li,hsc,hv=>by
  have hsc0:=hsc
  rw[SV.scopeds_cons,Bool.and_eq_true]at hsc
  have h1:=abu hr hs li m hsc.1 hv.1;unfold u9;split;rename_i v' nv1 he
  rw[he]at h1
  split
  ·rename_i hb;refine abx hr h1 hb fun li' e=>?_
   rw[e]
   exact abt hs ms vs li' hsc.2 hv.2
  ·exact va hr li hsc0 hv
theorem aEk(hs:st.scp=true)(li:List U)(ms:List FM){v:SV}(hsc:v.scp st.nv st.nb=true)(hv:v.ok ρ):tI B ρ st w li v (LW st.heap st.nb ms v (st.nv+li.length)):=by
 unfold LW;split
 ·rename_i cs
  rw[SV.scoped_agg]at hsc
  obtain⟨l',e1,k1,d1⟩:=abt hr hs ms cs li hsc hv
  refine⟨l',e1,k1,?_⟩
  show Value.agg _=Value.agg _
  rw[d1]
 ·split
  ·exact abu hr hs li _ hsc hv
  ·exact zi hr li hsc hv
theorem abp(hs:st.scp=true):∀(ms:List (List FM))(vs:List SV)(li:List U),SV.scps st.nv st.nb vs=true->SV.oks ρ vs->wX B ρ st w li vs (sG st.heap st.nb ms vs (st.nv+li.length))
 |[],vs,li,hsc,hv=>by
  unfold sG;exact va hr li hsc hv
 |m::ms,[],li,hsc,hv=>by
  unfold sG;exact va hr li hsc hv
 |m::ms,v::vs,li,hsc,hv=>by
  have hsc0:=hsc
  rw[SV.scopeds_cons,Bool.and_eq_true]at hsc
  have h1:=aEk hr hs li m hsc.1 hv.1;unfold sG;split;rename_i v' nv1 he
  rw[he]at h1
  split
  ·rename_i hb;refine abx hr h1 hb fun li' e=>?_
   rw[e]
   exact abp hs ms vs li' hsc.2 hv.2
  ·exact va hr li hsc0 hv
end
theorem abq{h:T Blk}:∀ {l l':List (SV×St)},Em h l=some l'->∀y∈l,Fu y.1=true/\(y.1,(⟨y.2.nv,y.2.nb,h,y.2.pc⟩:St))∈l'
 |[],l',hl,y,hy=>by cases hy
 |x::l,l',hl,y,hy=>by
  unfold Em at hl;split at hl
  ·rename_i hp;split at hl
   ·rename_i l2 h2;simp only[Option.some.injEq]at hl;subst hl;rcases List.mem_cons.1 hy with rfl|hy
    ·exact⟨hp,List.mem_cons_self ..⟩
    ·obtain⟨q1,q2⟩:=abq h2 y hy
     exact⟨q1,List.mem_cons_of_mem _ q2⟩
   ·cases hl
  ·cases hl
theorem adP{v:SV}(h:Fr v=true)(ρ ρ':Env)(hv:ρ'.vs=ρ.vs):v.ok ρ'/\v.den ρ'=v.den ρ:=by
 cases v<;>simp[Fr]at h<;>simp[SV.ok,SV.den,E.I,E.B,E.S,E.den_vs hv]
theorem plains_ok(ρ ρ':Env)(hv:ρ'.vs=ρ.vs):∀(l:List SV),plains l=true->SV.oks ρ' l/\SV.dens ρ' l=SV.dens ρ l
 |[],_=>⟨trivial,rfl⟩
 |v::vs,h=>by
  simp only[plains]at h;split at h
  ·rename_i h1
   obtain⟨a,b⟩:=adP h1 ρ ρ' hv
   obtain⟨c,d⟩:=plains_ok ρ ρ' hv vs h
   exact⟨⟨a,c⟩,by simp only[SV.dens,b,d]⟩
  ·cases h
theorem plain_ok{v:SV}(h:Fu v=true)(ρ ρ':Env)(hv:ρ'.vs=ρ.vs):v.ok ρ'/\v.den ρ'=v.den ρ:=by
 unfold Fu at h;split at h
 ·rename_i l
  obtain⟨a,b⟩:=plains_ok ρ ρ' hv l h
  exact⟨a,by simp only[SV.den,b]⟩
 ·exact adP h ρ ρ' hv
theorem abv{P:Program}{mss:List (List FM)}{x:Nat1}(h:aV P x):aV P (aEi mss x):=by
 intro fs hf args st l hl B ρ w R hr ha hK;have hl':LU mss x fs args st=.outs l:=hl;unfold LU at hl';split at hl'
 ·rename_i hc
  rw[Bool.and_eq_true]at hc
  obtain⟨hs,hsc⟩:=hc
  obtain⟨li,e1,k1,d1⟩:=abp hr hs mss args [] hsc ha
  split at hl';rename_i args' nv' he;have he:sG st.heap st.nb mss args (st.nv+([]:List U).length)=(args',nv'):=he
  rw[he]at e1 k1 d1
  simp only[List.nil_append]at e1 k1 d1;split at hl'
  ·rename_i l0 h0;split at hl'
   ·rename_i l2 h2;simp only[NatR.outs.injEq]at hl';subst hl'
    rw[<- d1]
    have hr1:=hr.iceAll hs li
    rw[<- e1]at hr1
    refine h fs hf _ _ l0 h0 B _ w R hr1 k1 fun y hy ρ' w' hx hrep hok=>?_
    obtain⟨p1,p2⟩:=abq h2 y hy
    obtain⟨q1,q2⟩:=hr.lent hs hrep hx
    have q3:=plain_ok p1 ρ' ⟨ρ'.vs,ρ'.bs,ρ.fz⟩ rfl
    rw[<- q3.2]
    exact hK _ p2 _ w' q1 q2 q3.1
   ·cases hl'
  ·split at hl'<;>cases hl'
  ·cases hl'
 ·cases hl'
theorem Zt{ρ:Env}{n:Nat}{x:E}:∀ {l:List E},ym n l=some x->(∀e∈l,e.B ρ=true)->(E.var n).I ρ=x.I ρ
 |[],h,_=>by cases h
 |e::l,h,hl=>by
  have ih:=Zt (ρ:=ρ) (n:=n) (x:=x) (l:=l);have h1:=hl e (List.mem_cons_self ..);have h2:∀e∈l,e.B ρ=true:=fun e he=>hl e (List.mem_cons_of_mem _ he)
  unfold ym at h;split at h
  ·rename_i m y;split at h
   ·rename_i hm
    have:=Nat.eq_of_beq_eq_true hm
    subst this;simp only[Option.some.injEq]at h;subst h;simpa[E.B,E.den,U.toB,cK,E.I]using h1
   ·exact ih h h2
  ·exact ih h h2
theorem Zs{ρ:Env}{n:Nat}{x:E}:∀ {l:List E},yl n l=some x->(∀e∈l,e.B ρ=true)->(E.var n).B ρ=x.B ρ
 |[],h,_=>by cases h
 |e::l,h,hl=>by
  have ih:=Zs (ρ:=ρ) (n:=n) (x:=x) (l:=l);have h1:=hl e (List.mem_cons_self ..);have h2:∀e∈l,e.B ρ=true:=fun e he=>hl e (List.mem_cons_of_mem _ he)
  unfold yl at h;split at h
  ·rename_i m y;split at h
   ·rename_i hm
    have:=Nat.eq_of_beq_eq_true hm
    subst this;simp only[Option.some.injEq]at h;subst h;simpa[E.B,E.den,U.toB]using h1
   ·exact ih h h2
  ·exact ih h h2
theorem Zq{ρ:Env}{pc:List E}(hp:∀e∈pc,e.B ρ=true)(v:SV):(v.ok ρ->(yk pc v).ok ρ)/\(yk pc v).den ρ=v.den ρ:=by
 unfold yk;split
 ·split
  ·rename_i h
   exact⟨fun _=>trivial,by simp only[SV.den,Zt h hp]⟩
  ·exact⟨id,rfl⟩
 ·split
  ·rename_i h
   exact⟨fun _=>trivial,by simp only[SV.den,Zs h hp]⟩
  ·exact⟨id,rfl⟩
 ·exact⟨id,rfl⟩
theorem Zu{ρ:Env}{pc:List E}(hp:∀e∈pc,e.B ρ=true):∀l:List SV,(SV.oks ρ l->SV.oks ρ (yp pc l))/\SV.dens ρ (yp pc l)=SV.dens ρ l
 |[]=>⟨id,rfl⟩
 |v::vs=>by
  obtain⟨a,b⟩:=Zq hp v
  obtain⟨c,d⟩:=Zu hp vs
  exact⟨fun h=>⟨a h.1,c h.2⟩,by simp only[yp,SV.dens,b,d]⟩
theorem aCV{ρ:Env}{pc:List E}(hp:∀e∈pc,e.B ρ=true)(v:SV):(v.ok ρ->(yn pc v).ok ρ)/\(yn pc v).den ρ=v.den ρ:=by
 unfold yn;split
 ·rename_i l
  obtain⟨a,b⟩:=Zu hp l
  exact⟨a,by simp only[SV.den,b]⟩
 ·exact Zq hp v
theorem Zr:∀ {l:List (SV×St)} {y:SV×St},y∈l->(yn y.2.pc y.1,y.2)∈Kv l
 |q::l,y,h=>by
  rcases List.mem_cons.1 h with e|e
  ·subst e;exact List.mem_cons_self
  ·exact List.mem_cons_of_mem _ (Zr e)
theorem r8{P:Program}{x:Nat1}(h:aV P x):aV P (aCU x):=by
 intro fs hf args st l hl B ρ w R hr ha hK;have hl':Kw x fs args st=.outs l:=hl;unfold Kw at hl';split at hl'
 ·rename_i l0 h0;simp only[NatR.outs.injEq]at hl';subst hl';refine h fs hf _ _ l0 h0 B _ w R hr ha fun y hy ρ' w' hx hrep hok=>?_
  obtain⟨a,b⟩:=aCV hrep.pc y.1
  rw[<- b]
  exact hK _ (Zr hy) _ w' hx hrep (a hok)
 ·rename_i hn;exact absurd hl' (hn l)
end Go.SX

namespace Go.SX
def BodyOk(P:Program)(x:Ann)(y:LoopX)(less:E)(tmps:Tm)(st:St):Prop:=
 ∀b,OfFn P x.fn (.loop b)->jJ b=some x.key->∀(B:Base)(ρ0 ρ:Env)(a:Act)(w:World)(Q:Exit->Act->World->Prop),ρ0.vs.length=y.n0->ρ0.bs.length=y.b0->ρ0.Ext ρ->RepW B ρ st w->TmRep ρ tmps a->
  (∀τ∈x.ts,∀(ρ':Env)(a':Act)(w':World),ρ0.Ext ρ'->RepW B ρ' τ.st w'->TmRep ρ' τ.tmps a'->τ.less.I ρ'<less.I ρ->0<=τ.less.I ρ'->Q .normal a' w')->
  (∀o∈y.xs,∀(ρ':Env)(a':Act)(w':World),ρ0.Ext ρ'->RepW B ρ' o.st w'->TmRep ρ' o.tmps a'->Q (yD o.ex) a' w')->b.wp P Q a w
theorem aEy{key:Nat}{b:Code}(hk:jJ b=some key){c:Code}(h:InC (.loop b) c):b∈gq key c:=by
 induction h with
 |refl=>simp[gq,hk]
 |seqL _ ih=>simp_all[gq]
 |seqR _ ih=>simp_all[gq]
 |condL _ ih=>simp_all[gq]
 |condR _ ih=>simp_all[gq]
 |block _ ih=>simp_all[gq]
 |loop _ ih=>
  grind[gq]
 |scope _ ih=>simp_all[gq]
theorem aDa{a b:Ex}(h:KF a b=true):a=b:=by
 cases a<;>cases b<;>simp[KF]at h<;>first | rfl | rw[h]
theorem KH{e:Ex}:∀(l:List Out)(τ:Tmpl),τ∈uD e l->∃x∈l,x.ex=e/\τ=⟨x.tmps,x.st,.int 0⟩
 |[],τ,h=>by cases h
 |x::xs,τ,h=>by
  simp only[uD]at h;split at h
  ·rename_i hb;cases h with
   |head=>exact⟨x,by simp,(aDa hb).symm,rfl⟩
   |tail _ hm=>obtain⟨y,h1,h2⟩:=KH xs τ hm;grind
  ·obtain⟨y,h1,h2⟩:=KH xs τ h;grind
theorem ZZ:∀(l:List Out)(x:Out),x∈l->(⟨x.tmps,x.st,.int 0⟩:Tmpl)∈Dl l
 |[],x,h=>by cases h
 |y::ys,x,h=>by
  simp only[Dl];cases h with
  |head=>simp
  |tail _ hm=>exact List.mem_cons_of_mem _ (ZZ ys x hm)
theorem x6{P:Program}(hP:lV P=true){facts:List E}(hf:∀e∈facts,∀ρ,e.B ρ=true){anns:List Ann}(ha:∀x∈anns,gA P x){nats:List Nat1}(hn:∀x∈nats,aV P x){n:Nat}
  {x:Ann}{y:LoopX}{less:E}{tmps:Tm}{st:St}(h:nr P (fun tb=>YO P (tb.plus facts anns nats) n x.fn x.key y.n0 y.b0 x.ts y.xs less tmps st)=true)(hs3:less.scp st.nv=true):BodyOk P x y less tmps st:=by
 intro b hof hk B ρ0 ρ a w Q hn0 hb0 he hr hT hN hX
 rw[Ob]at h
 have ht:=(afM P).plus hf anns nats;unfold YO at h;split at h;case h_2=>cases h
 rename_i fn hfn;split at h;case h_2=>cases h
 split at h;case h_2=>cases h
 rename_i b' hb';split at h;case h_2=>cases h
 rename_i hscp;simp only[Bool.and_eq_true]at hscp
 obtain⟨hs1,hs2⟩:=hscp
 have hbb:b=b':=by
  obtain⟨fn',c',h1,h2,h3⟩:=hof
  have h4:=ht.fn _ _ hfn
  have:=aEy hk h3
  simp_all
 subst hbb;unfold abj at h;split at h;case h_2=>cases h
 rename_i os hos
 refine(M9 hP hf ha hn n).code _ _ _ _ _ _ (hof.part (.loop (.refl b))) hos B ρ a w Q hr hT ?_
 intro o ρ' a' w' os' h1 h2 h3 h4 h5;have hfacts:=ht.facts;unfold YP at h1;have leave:∀ {r:aT},ol o.tmps o.st (jH ((Ag P).plus facts anns nats).facts y.n0 y.b0 o.tmps o.st none (uD o.ex y.xs) none) r=some os'->Q (yD o.ex) a' w':=by
  intro r hh
  obtain⟨⟨z,hz⟩,_⟩:=yJ hh
  obtain⟨τ,hτ,hfit,_⟩:=uI _ _ hz
  obtain⟨o2,ho2,e1,rfl⟩:=KH _ _ hτ
  obtain⟨_,_,hsc⟩:=wm _ hs2 _ (ZZ _ _ ho2)
  obtain⟨k1,k2,k3,k4,k5⟩:=Dy hfacts hfit hsc h4 h5 (he.trans h3) hn0 hb0
  grind
 cases hex:o.ex with
 |normal=>
  rw[hex]at h1
  obtain⟨⟨z,hz⟩,_⟩:=yJ h1
  obtain⟨τ,hτ,hfit,hbd⟩:=uI _ _ hz
  obtain⟨_,_,hsc⟩:=wm _ hs1 τ hτ
  obtain⟨k1,k2,k3,k4,k5⟩:=Dy hfacts hfit hsc h4 h5 (he.trans h3) hn0 hb0
  obtain⟨j1,j2⟩:=hbd _ rfl
  have j1':=kP hfacts h4.pc j1;have j2':=iY hfacts h4.pc j2;have hzn:z.n0<=ρ'.vs.length:=by
   obtain⟨l,hl⟩:=(he.trans h3).vs
   simp_all
  have hls:τ.less.scp (z.n0+z.es.length)=true:=by
   simp_all[Tmpl.scp,Nat.add_comm]
  rw[E.sub_I hzn hls]at j1' j2'
  rw[E.scoped_I h3 (by rw[hr.nv];omega)]at j1'
  exact hN τ hτ _ a' w' k3 k4 k5 j1' j2'
 |exit i=>grind
 |ret=>grind
theorem BodyOk.cases{P:Program}{x:Ann}{y:LoopX}{less:E}{tmps:Tm}{st:St}(c:E)(h1:BodyOk P x y less tmps {st with pc:=c::st.pc})(h2:BodyOk P x y less tmps {st with pc:=.not c::st.pc}):BodyOk P x y less tmps st:=by
 intro b hof hk B ρ0 ρ a w Q hn0 hb0 he hr hT hN hX;by_cases hb:c.B ρ=true
 ·exact h1 b hof hk B _ ρ a w Q hn0 hb0 he (hr.assume hb) hT hN hX
 ·refine h2 b hof hk B _ ρ a w Q hn0 hb0 he (hr.assume ?_) hT hN hX;simp_all
def EP:List Out->Bool
 |[]=>true
 |o::os=>match o.ex with
  |.normal=>false
  |_=>EP os
theorem ac7:∀(l:List Out),EP l=true->∀o∈l,o.ex≠.normal
 |[],_,o,ho=>by cases ho
 |x::xs,h,o,ho=>by
  simp only[EP]at h;split at h
  ·cases h
  ·cases ho with
   |head=>omega
   |tail _ hm=>exact ac7 xs h o hm
open Classical in
theorem Eu{P:Program}{x:Ann}{y:LoopX}(hxy:x.known=some y)(hxs:EP y.xs=true)(h:∀τ∈x.ts,BodyOk P x y τ.less τ.tmps τ.st):gA P x:=by
 intro y' hy' b hof hk B ρ0 a w Q hn0 hb0 hent hX
 rw[hxy]at hy'
 simp only[Option.some.injEq]at hy';subst hy';let M:=fun a w m=>∃τ∈x.ts,∃ρ',ρ0.Ext ρ'/\RepW B ρ' τ.st w/\TmRep ρ' τ.tmps a/\m=(τ.less.I ρ').toNat
 let μ:=fun a w=>if h:∃m,M a w m then Classical.choose (abn h)else 0
 have hμ:∀ {a w},(∃m,M a w m)->M a w (μ a w)/\∀m,M a w m->μ a w<=m:=by
  intro a w hex;grind
 refine wp_loop (fun a w=>∃m,M a w m) μ ?_ ?_
 ·grind
 ·intro a1 w1 hI
  obtain⟨⟨τ,hτ,ρ',h1,h2,h3,h4⟩,_⟩:=hμ hI
  refine h τ hτ b hof hk B _ _ a1 w1 _ hn0 hb0 h1 h2 h3 ?_ ?_
  ·intro τ2 hτ2 ρ2 a2 w2 k1 k2 k3 k4 k5;have hM:M a2 w2 _:=⟨τ2,hτ2,ρ2,k1,k2,k3,rfl⟩
   refine⟨⟨_,hM⟩,?_⟩
   have hle:=(hμ ⟨_,hM⟩).2 _ hM;omega
  ·intro o ho ρ2 a2 w2 k1 k2 k3
   have:=hX o ho _ a2 w2 k1 k2 k3
   cases hex:o.ex with
   |normal=>grind[ac7]
   |exit i=>rw[hex]at this;exact this
   |ret=>rw[hex]at this;exact this
theorem aEx{P:Program}{x:Ann}(h:x.known=none):gA P x:=fun y hy=>by simp_all
def Fs:List Ann->Bool
 |[]=>true
 |x::xs=>match x.known with
  |none=>Fs xs
  |some _=>false
theorem mX{P:Program}:∀(l:List Ann),Fs l=true->∀x∈l,gA P x
 |[],_,x,hx=>by cases hx
 |y::ys,h,x,hx=>by
  simp only[Fs]at h;split at h
  ·rename_i hn;cases hx with
   |head=>exact aEx hn
   |tail _ hm=>exact mX ys h x hm
  ·cases h
end Go.SX
