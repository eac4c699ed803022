/-
  The symbolic executor is right: whatever the model's code does is among the outcomes that were aeB.
-/
import Derived.Test.YtnggbcblogpnfaaGreatSXc
import Derived.Control
import Derived.LoopN
import Derived.Scope
import Derived.ChangeArms
import Derived.OpenShut
set_option linter.unusedVariables false
set_option linter.unusedSimpArgs false
set_option linter.unusedSectionVars false

namespace Go.SX
def xT:Ex->Exit
 |.normal=>.normal
 |.exit i=>.exit i
 |.ret=>.ret
def CodeRes(B:Base)(F:Env)(Q:Exit->Act->World->Prop)(k:Out->aQ)(os:List Out):Prop:=
 ∀(o:Out)(F':Env)(a':Act)(w':World)(os':List Out),k o=some os'->(∀x∈os',x∈os)->F.Ext F'->RepW B F' o.st w'->TmRep F' o.tmps a'->Q (xT o.ex) a' w'
def ContRes(B:Base)(F:Env)(K:Act->World->Prop)(k:d7)(os:List Out):Prop:=
 ∀(t:Tm)(st:St)(F':Env)(a':Act)(w':World)(os':List Out),k t st=some os'->(∀x∈os',x∈os)->F.Ext F'->RepW B F' st w'->TmRep F' t a'->K a' w'
def CallRes(B:Base)(F:Env)(R:Ending->World->Prop)(k:Out->aQ)(os:List Out):Prop:=
 ∀(o:Out)(F':Env)(w':World)(os':List Out)(v:SV)(l r:T SV),k o=some os'->(∀x∈os',x∈os)->F.Ext F'->RepW B F' o.st w'->o.tmps=.node v l r->v.ok F'->R (.returned (v.den F')) w'
theorem CodeRes.ext{B:Base}{F F':Env}{Q:Exit->Act->World->Prop}{k:Out->aQ}{os:List Out}(h:CodeRes B F Q k os)(he:F.Ext F'):CodeRes B F' Q k os:=
 fun o F'' a' w' os' h1 h2 h3=>h o _ a' w' _ h1 h2 (he.trans h3)
theorem CodeRes.sub{B:Base}{F:Env}{Q:Exit->Act->World->Prop}{k:Out->aQ}{os os':List Out}(h:CodeRes B F Q k os)(hs:∀x∈os',x∈os):CodeRes B F Q k os':=
 fun o F'' a' w' os'' h1 h2=>h o _ a' w' _ h1 (fun x hx=>hs x (h2 x hx))
theorem ContRes.ext{B:Base}{F F':Env}{K:Act->World->Prop}{k:d7}{os:List Out}(h:ContRes B F K k os)(he:F.Ext F'):ContRes B F' K k os:=
 fun o st F'' a' w' os' h1 h2 h3=>h o st _ a' w' _ h1 h2 (he.trans h3)
theorem ContRes.sub{B:Base}{F:Env}{K:Act->World->Prop}{k:d7}{os os':List Out}(h:ContRes B F K k os)(hs:∀x∈os',x∈os):ContRes B F K k os':=
 fun o st F'' a' w' os'' h1 h2=>h o st _ a' w' _ h1 (fun x hx=>hs x (h2 x hx))
theorem CallRes.sub{B:Base}{F:Env}{R:Ending->World->Prop}{k:Out->aQ}{os os':List Out}(h:CallRes B F R k os)(hs:∀x∈os',x∈os):CallRes B F R k os':=
 fun o F'' w' os'' v l r h1 h2=>h o _ w' _ v l r h1 (fun x hx=>hs x (h2 x hx))
theorem lz{a b:aQ}{os:List Out}(h:fQ a b=some os):∃l m,a=some l/\b=some m/\(∀x∈l,x∈os)/\(∀x∈m,x∈os):=by
 unfold fQ at h;grind
theorem ae3(ops:Array Oper)(j:Nat):Fv ops.toList j=(ops[j]?).bind (·.dst):=by
 grind[Fv,dr]
theorem zB{F:Env}{ops:Array Oper}{t:Tm}{a:Act}(hT:TmRep F t a)(o:Oper):
  match vd ops.toList t o with
  |.bad=>True
  |.yes=>Region.wanted o (yielded ops a.tmps)=true
  |.no=>Region.wanted o (yielded ops a.tmps)=false
  |.ask s e want=>t.get s=some (.bool e)/\Region.wanted o (yielded ops a.tmps)=(e.B F==want):=by
 unfold vd Region.wanted;cases hg:o.guard with
 |none=>simp
 |some q=>
  obtain⟨j,want⟩:=q
  simp only[ae3];have hy:yielded ops a.tmps j=match (ops[j]?).bind (·.dst)with
    |some s=>(match a.tmps[s]? with | some (.bool b)=>some b | _=>none)
    |none=>none:=by
   grind[yielded]
  rw[hy]
  cases hs:(ops[j]?).bind _ with
  |none=>simp
  |some s=>
   simp only;cases ht:t.get s with
   |none=>simp[hT.2.1 s ht]
   |some v=>
    have hval:=hT.at ht;cases v with
    |junk=>trivial
    |bool e=>
     grind[SV.den,E.B_bool,oG,Cw]
    |bsl ks e=>rw[hval (by simp)];simp only[SV.den];cases e.den F<;>simp[U.raw]
    |nsl b ks e i c=>rw[hval (by simp)];simp only[SV.den];cases e.den F<;>simp[U.raw]
    |_=>simp_all[SV.den]
theorem TmRep.relabel{F:Env}{t:Tm}{a:Act}(h:TmRep F t a){s:Nat}{e:E}{b:Bool}(hs:t.get s=some (.bool e))(hb:e.B F=b):TmRep F (t.set s (.bool (.bool b))) a:=by
 refine⟨h.1,fun i hi=>?_,fun i v hv=>?_⟩
 ·rw[T.get_set]at hi
  by_cases e':i=s
  ·simp_all
  ·rw[if_neg e']at hi;exact h.2.1 i hi
 ·rw[T.get_set]at hv
  by_cases e':i=s
  ·subst e'
   rw[if_pos rfl,hs]at hv
   simp only[Option.map_some,Option.some.injEq]at hv;subst hv
   exact⟨_,h.at hs (by simp),.inr ⟨by simp[SV.den,hb],by simp[SV.ok]⟩⟩
  ·rw[if_neg e']at hv;exact h.2.2 i v hv
inductive InC:Code->Code->Prop
 |refl (c:Code):InC c c
 |seqL {c a b:Code} (h:InC c a):InC c (.seq a b)
 |seqR {c a b:Code} (h:InC c b):InC c (.seq a b)
 |block {c b:Code} {id:Nat} (h:InC c b):InC c (.block id b)
 |condL {c a b:Code} {x:Operand} (h:InC c a):InC c (.cond x a b)
 |condR {c a b:Code} {x:Operand} (h:InC c b):InC c (.cond x a b)
 |loop {c b:Code} (h:InC c b):InC c (.loop b)
 |scope {c b:Code} (h:InC c b):InC c (.scope b)
theorem InC.trans{a b c:Code}(h:InC a b)(k:InC b c):InC a c:=by
 induction k with
 |refl=>exact h
 |seqL _ ih=>exact .seqL ih
 |seqR _ ih=>exact .seqR ih
 |block _ ih=>exact .block ih
 |condL _ ih=>exact .condL ih
 |condR _ ih=>exact .condR ih
 |loop _ ih=>exact .loop ih
 |scope _ ih=>exact .scope ih
def OfFn(P:Program)(g:FuncId)(c:Code):Prop:=∃fn c0,P.funcs[g]?=some fn/\fn.body=some c0/\InC c c0
theorem OfFn.part{P:Program}{g:FuncId}{c d:Code}(h:OfFn P g d)(k:InC c d):OfFn P g c:=by
 obtain⟨fn,c0,h1,h2,h3⟩:=h
 exact⟨fn,c0,h1,h2,k.trans h3⟩
structure RunOk (P:Program) (tb:Tab) (n:Nat) (r:bR):Prop where
 code:∀(g:FuncId)(c:Code)(t:Tm)(st:St)(k:Out->aQ)(os:List Out),OfFn P g c->r (.code g c) t st k=some os->
  ∀(B:Base)(F:Env)(a:Act)(w:World)(Q:Exit->Act->World->Prop),RepW B F st w->TmRep F t a->CodeRes B F Q k os->c.wp P Q a w
 rounds:∀(g:FuncId)(c:Code)(t:Tm)(st:St)(k:Out->aQ)(os:List Out),OfFn P g c->r (.rounds g c) t st k=some os->
  ∀(B:Base)(F:Env)(a:Act)(w:World)(Q:Exit->Act->World->Prop),RepW B F st w->TmRep F t a->CodeRes B F Q k os->Code.rounds P c Q n a w
 call:∀(g:FuncId)(args:List SV)(t:Tm)(st:St)(k:Out->aQ)(os:List Out),r (.call g args) t st k=some os->
  ∀(B:Base)(F:Env)(w:World)(R:Ending->World->Prop),RepW B F st w->SV.oks F args->CallRes B F R k os->Calls P g (SV.dens F args).toArray w R
 draw:∀(ops:Array Oper)(id:Nat)(t:Tm)(st:St)(k:Out->aQ)(os:List Out),r (.draw ops.toList ops.size) t st k=some os->
  ∀(B:Base)(F:Env)(a:Act)(w:World)(Q:Exit->Act->World->Prop),RepW B F st w->TmRep F t a->CodeRes B F Q k os->(Code.region id ops true).wp P Q a w
 layer:∀(ops:Array Oper),ik ops.toList=true->∀(l:List Node)(t:Tm)(st:St)(k:Out->aQ)(os:List Out),r (.layer ops.toList (aU ops.toList ops.toList) l) t st k=some os->
  ∀(B:Base)(F:Env)(K:Act->World->Prop),ContRes B F K (fun t st=>k ⟨.normal,t,st⟩) os->
  ∀x∈l,∀(F':Env)(listed:Array Bool)(a:Act)(w:World),F.Ext F'->RepW B F' x.st w->TmRep F' x.tmps a->listed.size=ops.size->(∀j,listed.getD j false=x.listed.testBit j)->
   wpAny P .any ops (fun e a w=>match e with | .normal=>K a w | _=>False) x.left listed a w
section
variable {P:Program} {tb:Tab} (ht:TabOk P tb) (hng:∀(f:Nat)(fn:Func),P.funcs[f]? =some fn->(fn.name == "runtime.NumGoroutine")=false)
include ht hng
theorem ZC{F:Env}{t:Tm}{a:Act}(hT:TmRep F t a){o:Oper}{c:Call}(ho:o.op=.call c){g:FuncId}{args:List SV}(h:CD tb t c=some (g,args))(w:World):
  (execOp a.eval o).run P w=.ok (.enter g (SV.dens F args).toArray) w/\SV.oks F args:=by
 have hev:=hT.eval;unfold CD at h;split at h
 ·rename_i f hf;split at h
  ·rename_i g' fi ca vs hfv hvs;split at h
   ·rename_i fn hfn;split at h
    ·obtain⟨rfl,rfl⟩:=h
     have h1:=mU hev _ _ hvs;have h2:=ht.fn _ _ hfn;have h3:=hng _ _ h2;have hfo:=hT.wf _ _ hfv;simp only[SV.ok]at hfo
     refine⟨?_,by
      rw[SV.oks_iff]at *
      intro v hv;simp only[List.mem_append]at hv;rcases hv with hv|hv|hv
      ·simp_all
      ·exact(SV.oks_iff _).1 (qI hT.wf _ _ hvs) v hv
      simp_all[SV.oks_iff]⟩
     simp only[execOp,ho,resolve,hf,hev _ _ hfv,SV.den,Deferred.ofValue,Sem.run_bind,Sem.run_pure,Result.andThen_ok,invoke,callFunc];simp_all[SV.dens_eq]
    ·cases h
   ·cases h
  ·cases h
 ·cases h
omit ht hng in
theorem aep{B:Base}{F:Env}{K:Act->World->Prop}{k:d7}{os:List Out}(hK:ContRes B F K k os){t:Tm}{d:Option Tmp}:∀(l:List (SV×St))(os':List Out),MQ t d k l=some os'->(∀y∈os',y∈os)->
  ∀x∈l,∀(F2:Env){a:Act}(w:World),TmRep F2 t a->F.Ext F2->RepW B F2 x.2 w->x.1.ok F2->K (a.put d (x.1.den F2)) w
 |[],os',h,hs,x,hx=>by cases hx
 |y::ys,os',h,hs,x,hx=>by
  intro F2 a w hT he hr hv
  obtain⟨l1,l2,h1,h2,h3,h4⟩:=lz h
  cases hx with
  |head=>
   rw[iW]at h1
   exact hK _ _ _ _ _ _ h1 (fun z hz=>hs z (h3 z hz)) he hr (hT.put d _ hv)
  |tail _ hm=>exact aep hK ys l2 h2 (fun z hz=>hs z (h4 z hz)) x hm _ w hT he hr hv
theorem aJU{n:Nat}{rec:bR}(hrec:RunOk P tb n rec){o:Oper}{t:Tm}{st:St}{k:d7}{os:List Out}(h:Fz tb rec o t st k=some os)
  {B:Base}{F:Env}{a:Act}{w:World}(hr:RepW B F st w)(hT:TmRep F t a){K:Act->World->Prop}(hK:ContRes B F K k os)(Q:Exit->Act->World->Prop):o.wp P a w K Q:=by
 unfold Fz at h;unfold Oper.wp;split at h
 ·rename_i c hc;split at h
  ·rename_i g args hca;split at h
   ·obtain⟨hcs,hco⟩:=ZC ht hng hT hc hca w
    rw[hcs,Oper.upon_enter]
    split at h
    ·rename_i rs hrs;have hraw:Fj rs=[]:=rfl
     rw[hraw]at h
     simp only at h;split at h
     ·rename_i l hl;refine hrec.call _ _ _ _ _ _ hrs B F w _ hr hco ?_;intro r F' w' os' v a' b' h1 h2 h3 h4 h5 h6;have hmem:=h2 r (by grind)
      obtain⟨x,hx,F2,k1,k2,k3,k4⟩:=(ZB ht.facts hr rs [] l hl).2 r hmem v a' b' h5 _ w' h3 h4 h6
      have hs:i3 F.vs.length F.bs.length t=true:=by rw[hr.nv,hr.nb];omega
      rw[<- k4]
      exact aep hK l os h (fun y hy=>hy) x hx _ w' (hT.ext k1 hs) k1 k2 k3
     ·cases h
    ·cases h
   ·cases h
  ·cases h
 ·cases h
theorem Np{n:Nat}{rec:bR}(hrec:RunOk P tb n rec){o:Oper}{t:Tm}{k:d7}{a:Act}{K:Act->World->Prop}(Q:Exit->Act->World->Prop):
  ∀(m:Nat){st:St}{os:List Out},pt tb rec o t k m st=some os->∀ {B:Base} {F:Env} {w:World},RepW B F st w->TmRep F t a->ContRes B F K k os->o.wp P a w K Q
 |0,st,os,h,B,F,w,hr,hT,hK=>by cases h
 |m+1,st,os,h0,B,F,w,hr,hT,hK=>by
  have h:(match mS tb t st _ with
   |.val v st=>dW t _ v _
   |.skip st=>dW t _ _ _
   |.ask e=>fQ (pt tb _ o t k m _) (pt tb _ o t k m _)
   |.lack e=>DQ _ st e
   |.bad=>match xL tb t st _ with
    |.val v st=>dW t _ v _
    |.skip st=>dW t _ _ _
    |.ask e=>fQ (pt tb _ o t k m _) (pt tb _ o t k m _)
    |.lack e=>DQ _ st e
    |.bad=>Fz tb _ o t st k)=some os:=h0
  have heff:=aEM ht hr hT o;have heff2:=aEL ht hr hT o;have hval:∀ {v:SV} {st':St},(∃F' w',F.Ext F'/\RepW B F' st' w'/\TmRep F' t a/\v.ok F'/\(execOp a.eval o).run P w=.ok (.value (v.den F')) w')->dW t o.dst v (fun tmps=>k tmps st')=some os->o.wp P a w K Q:=by
   intro v st' heff h
   obtain⟨F',w',h1,h2,h3,hv,h4⟩:=heff
   rw[iW]at h
   unfold Oper.wp
   rw[h4,Oper.upon_value]
   exact hK _ _ _ _ _ _ h (fun x hx=>hx) h1 h2 (h3.put _ _ hv)
  have hskip:∀ {st':St},(∃F' w',F.Ext F'/\RepW B F' st' w'/\TmRep F' t a/\(execOp a.eval o).run P w=.ok .skip w')->dW t o.dst .undef (fun tmps=>k tmps st')=some os->o.wp P a w K Q:=by
   intro st' heff h
   obtain⟨F',w',h1,h2,h3,h4⟩:=heff
   rw[iW]at h
   unfold Oper.wp
   rw[h4,Oper.upon_skip]
   have h5:=h3.put o.dst _ (gu _);exact hK _ _ _ _ _ _ h (fun x hx=>hx) h1 h2 h5
  have hask:∀ {e:E},fQ (pt tb rec o t k m {st with pc:=e::st.pc}) (pt tb rec o t k m {st with pc:=bc e::st.pc})=some os->o.wp P a w K Q:=by
   intro e h
   obtain⟨l,r,h1,h2,h3,h4⟩:=lz h
   cases hb:e.B F with
   |true=>exact Np hrec Q m h1 (hr.assume hb) hT (hK.sub h3)
   |false=>exact Np hrec Q m h2 (hr.assume (by simp_all[gh])) hT (hK.sub h4)
  split at h
  ·rename_i v st' he
   rw[he]at heff
   exact hval heff h
  ·rename_i st' he
   rw[he]at heff
   exact hskip heff h
  ·grind
  ·cases h
  ·split at h
   ·rename_i v st' he
    rw[he]at heff2
    exact hval heff2 h
   ·rename_i st' he
    rw[he]at heff2
    exact hskip heff2 h
   ·grind
   ·cases h
   grind[aJU]
theorem Nq{n:Nat}{rec:bR}(hrec:RunOk P tb n rec){o:Oper}{t:Tm}{st:St}{k:d7}{os:List Out}(h:zr P tb rec o t st k=some os)
  {B:Base}{F:Env}{a:Act}{w:World}(hr:RepW B F st w)(hT:TmRep F t a){K:Act->World->Prop}(hK:ContRes B F K k os)(Q:Exit->Act->World->Prop):o.wp P a w K Q:=by
 unfold zr at h;split at h
 ·rename_i v hv;unfold Oper.wp
  rw[iW]at h
  rw[E9 ht hT.eval hT.wf hv w,Oper.upon_value]
  exact hK _ _ _ _ _ _ h (fun x hx=>hx) (Env.Ext.refl F) hr (hT.put _ _ (Fb hT.wf hv))
 grind[Np]
theorem Nu{n:Nat}{rec:bR}(hrec:RunOk P tb n rec){ops:Array Oper}{o:Oper}{t:Tm}{st:St}{k:d7}{os:List Out}(h:pu P tb rec ops.toList o t st k=some os)
  {B:Base}{F:Env}{a:Act}{w:World}(hr:RepW B F st w)(hT:TmRep F t a){K:Act->World->Prop}(hK:ContRes B F K k os)(Q:Exit->Act->World->Prop):
  if Region.wanted o (yielded ops a.tmps)then o.wp P a w K Q else K (a.put o.dst undef) w:=by
 unfold pu at h;have hw:=zB (ops:=ops) hT o;have hundef:∀ {t':Tm},TmRep F t' a->TmRep F (match o.dst with | none=>t' | some d=>t'.set d SV.undef) (a.put o.dst undef):=by
  intro t' h';have h5:=h'.put o.dst _ (gu _);grind[SV.undef_den]
 split at h
 ·grind[Nq]
 ·rename_i hq
  rw[hq]at hw
  rw[if_neg (by simp[hw])]
  rw[iW]at h
  exact hK _ _ _ _ _ _ h (fun x hx=>hx) (Env.Ext.refl F) hr (hundef hT)
 ·cases h
 ·rename_i s e want hq
  rw[hq]at hw
  obtain⟨hs,hw⟩:=hw
  split at h
  ·rename_i b hb;have hb':=dv ht.facts hr.pc hb
   rw[T.setK_eq]at h
   have hT':=hT.relabel hs hb';split at h
   ·rename_i hbw
    have:=oG hbw;grind[Nq]
   ·rename_i hbw
    have:=Cw hbw
    rw[if_neg (by simp_all)]
    rw[iW]at h
    exact hK _ _ _ _ _ _ h (fun x hx=>hx) (Env.Ext.refl F) hr (hundef hT')
  ·obtain⟨l,m,h1,h2,h3,h4⟩:=lz h
   rw[T.setK_eq]at h1
   rw[T.setK_eq,iW]at h2
   by_cases hc:e.B F=want
   ·rw[if_pos (by simp_all)]
    refine Nq ht hng hrec h1 (hr.assume ?_) (hT.relabel hs hc) (hK.sub h3) Q;grind[gh]
   ·rw[if_neg (by simp_all)]
    have hc':e.B F=!want:=by
     grind
    refine hK _ _ _ _ _ _ h2 h4 (Env.Ext.refl F) (hr.assume ?_) (hundef (hT.relabel hs hc'));grind[gh]
theorem afu{n:Nat}{rec:bR}(hrec:RunOk P tb n rec){ops:Array Oper}{Q:Exit->Act->World->Prop}:∀(l:List Oper){t:Tm}{st:St}{k:d7}{os:List Out},aft P tb rec ops.toList l t st k=some os->
  ∀ {B:Base} {F:Env} {a:Act} {w:World},RepW B F st w->TmRep F t a->ContRes B F (fun a w=>Q .normal a w) k os->wpList P ops Q l a w
 |[],t,st,k,os,h,B,F,a,w,hr,hT,hK=>hK _ _ _ _ _ _ h (fun x hx=>hx) (Env.Ext.refl F) hr hT
 |o::l,t,st,k,os,h,B,F,a,w,hr,hT,hK=>by
  have h':=h
  have:=Nu ht hng hrec h' hr hT (K:=wpList P _ Q l) (fun t st F' a' w' os' h1 h2 h3 h4 h5=>
   afu hrec l h1 h4 h5 ((hK.ext h3).sub h2)) Q
  grind[wpList]
end
end Go.SX

namespace Go.SX
theorem km(a b t:Nat):(Nat.lor a b).testBit t=(a.testBit t||b.testBit t):=Nat.testBit_or a b t
theorem tS(a b t:Nat):(Nat.land a b).testBit t=(a.testBit t&&b.testBit t):=Nat.testBit_and a b t
theorem uz(i t:Nat):(Nat.pow 2 i).testBit t=decide (i=t):=Nat.testBit_two_pow
theorem tT{a b:Nat}(h:Nat.beq (Nat.land a b) 0=true)(t:Nat):¬(a.testBit t=true/\b.testBit t=true):=by
 rintro⟨h1,h2⟩
 have:=tS a b t
 rw[Nat.eq_of_beq_eq_true h,h1,h2]at this
 simp at this
theorem nW:∀(es:List Edge)(j:Nat),(i4 es).testBit j=true↔∃e∈es,Region.binds .any e=true/\e.on=j
 |[],j=>by simp[i4]
 |e::es,j=>by
  have ih:=nW es j;simp only[i4];split
  ·rename_i hb
   rw[km,uz,Bool.or_eq_true,ih,decide_eq_true_eq]
   constructor
   ·rintro (h|⟨x,hx,h1,h2⟩)
    ·exact⟨e,by simp,hb,h⟩
    ·exact⟨x,by simp[hx],h1,h2⟩
   ·rintro⟨x,hx,h1,h2⟩
    cases hx with
    |head=>exact .inl h2
    |tail _ hm=>exact .inr ⟨x,hm,h1,h2⟩
  ·rename_i hb
   rw[ih]
   constructor
   ·rintro⟨x,hx,h1,h2⟩;exact⟨x,by simp[hx],h1,h2⟩
   ·rintro⟨x,hx,h1,h2⟩
    cases hx with
    |head=>rw[hb]at h1;cases h1
    |tail _ hm=>exact⟨x,hm,h1,h2⟩
theorem aex:∀(xs:List Operand)(t:Nat),(nL xs).testBit t=true↔t∈(xs.filterMap fun | .tmp t=>some t | _=>none)
 |[],t=>by simp[nL]
 |x::xs,t=>by
  have ih:=aex xs t;cases x with
  |tmp u=>
   simp only[nL,km,uz,Bool.or_eq_true,ih,decide_eq_true_eq,List.filterMap_cons,List.mem_cons];constructor
   ·rintro (h|h)
    ·exact .inl h.symm
    ·exact .inr h
   ·rintro (h|h)
    ·exact .inl h.symm
    ·exact .inr h
  |const v=>simpa[nL]using ih
  |global g=>simpa[nL]using ih
  |func f=>simpa[nL]using ih
theorem oE(d:Option Tmp)(t:Nat):(Cp d).testBit t=true↔d=some t:=by
 cases d with
 |none=>simp[Cp]
 |some u=>show(Nat.pow 2 u).testBit t=true↔_;rw[uz];simp
theorem uE(ops:Array Oper)(o:Oper)(t:Nat):(bU ops.toList o).reads.testBit t=true↔t∈o.looksAt ops:=by
 simp only[bU,km,Bool.or_eq_true,aex,Oper.looksAt,List.mem_append]
 rw[or_comm]
 refine or_congr Iff.rfl ?_;unfold abb;cases o.guard with
 |none=>simp
 |some q=>
  obtain⟨j,w⟩:=q
  simp only[oE,ae3];cases (ops[j]?).bind (·.dst)<;>simp[eq_comm]
theorem Lr(all:List Oper):∀(l:List Oper)(i:Nat),(aU all l)[i]?=l[i]?.map (bU all)
 |[],i=>by simp[aU]
 |o::os,i=>by
  cases i with
  |zero=>simp[aU]
  |succ i=>simpa[aU]using Lr all os i
theorem Ze{ops:Array Oper}{x y:Oper}(h1:Nat.beq (Nat.land (bU ops.toList x).dst (bU ops.toList y).reads) 0=true)
  (h2:Nat.beq (Nat.land (bU ops.toList x).dst (bU ops.toList y).dst) 0=true)(h3:Nat.beq (Nat.land (bU ops.toList y).dst (bU ops.toList x).reads) 0=true):x.apart ops y=true:=by
 have k1:∀d,x.dst=some d->d∉y.looksAt ops:=fun d hd hm=>tT h1 d ⟨(oE _ _).2 hd,(uE ops y d).2 hm⟩
 have k2:∀d,x.dst=some d->y.dst≠some d:=fun d hd hm=>tT h2 d ⟨(oE _ _).2 hd,(oE _ _).2 hm⟩
 have k3:∀d,y.dst=some d->d∉x.looksAt ops:=fun d hd hm=>tT h3 d ⟨(oE _ _).2 hd,(uE ops x d).2 hm⟩
 unfold Oper.apart
 rw[Bool.and_eq_true]
 constructor
 ·cases hx:x.dst with
  |none=>rfl
  |some d=>simp[k1 d hx,k2 d hx]
 ·cases hy:y.dst with
  |none=>rfl
  |some d=>simp[k3 d hy]
theorem Mi:∀(l:List Oper),ik l=true->∀(j:Nat)(o:Oper) cs b,l[j]?=some o->o.op≠.select cs b
 |[],_,j,o,cs,b,h=>by simp at h
 |x::xs,hn,j,o,cs,b,h=>by
  simp only[ik]at hn;split at hn
  ·cases hn
  ·rename_i hx;cases j with
   |zero=>simp at h;subst h;exact fun e=>hx _ _ e
   |succ j=>exact Mi xs hn j o cs b (by simpa using h)
end Go.SX

namespace Go.SX
section
variable {P:Program} {ops:Array Oper}
def YieldsP(P:Program)(ops:Array Oper)(o:Oper)(v:Value)(a:Act):Prop:=
 (Region.wanted o (yielded ops a.tmps)=true/\∀w,(execOp a.eval o).run P w=.ok (.value v) w)\/(Region.wanted o (yielded ops a.tmps)=false/\v=undef)
theorem YieldsP.of_same{o:Oper}{v:Value}{a a':Act}(hy:YieldsP P ops o v a)(he:execOp a'.eval o=execOp a.eval o)
  (hw:Region.wanted o (yielded ops a'.tmps)=Region.wanted o (yielded ops a.tmps)):YieldsP P ops o v a':=by
 simp_all[YieldsP]
def d5(K:Act->World->Prop):Exit->Act->World->Prop:=fun e a w=>match e with | .normal=>K a w | _=>False
theorem YieldsP.wpOp{i:Nat}{o:Oper}{v:Value}{a:Act}{w:World}{K:Act->World->Prop}{Q:Exit->Act->World->Prop}(hi:ops[i]?=some o)(hy:YieldsP P ops o v a)(h:K (a.put o.dst v) w):wpOp P ops Q i K a w:=by
 unfold Go.wpOp;rcases hy with⟨hw,hv⟩|⟨hw,rfl⟩
 all_goals simp_all[Oper.wp,Oper.upon_value]
theorem aLX{j:Nat}{oi oj:Oper}{v:Value}(hj:ops[j]?=some oj)(hap:oi.apart ops oj=true)
  (hsi:∀cs b,oi.op≠.select cs b)(hsj:∀cs b,oj.op≠.select cs b){L:Act->World->Prop}{K:Act->World->Prop}{a:Act}{w:World}
  (hy:YieldsP P ops oi v a)(h:wpOp P ops (d5 L) j K (a.put oi.dst v) w):
  wpOp P ops (d5 L) j (fun a' w'=>YieldsP P ops oi v a'/\K (a'.put oi.dst v) w') a w:=by
 obtain⟨h1,h2,h3⟩:=Oper.apart_spec hap
 have keep:∀(a:Act),YieldsP P _ oi v a->∀u,YieldsP P _ oi v _:=fun a hy u=>
  hy.of_same (execOp_put oi hsi a _ u h3) (wanted_put oi a _ u h3)
 unfold wpOp at *;simp only[hj]at *
 rw[wanted_put oj a _ v h1]at h
 split
 ·rename_i hw
  rw[if_pos hw]at h
  rcases h with h|h
  ·left;unfold Oper.wp at *
   rw[execOp_put oj hsj a _ v h1]at h
   generalize (execOp _ oj).run P w=r at *;cases r with
   |ok n w'=>
    cases n<;>simp only[Oper.upon]at h ⊢;case value u=>grind[Act.put_comm]
    case skip=>grind[Act.put_comm]
    case defer d=>
     have e1:{a.put oi.dst v with defers:=d::(a.put oi.dst v).defers}={a with defers:=d::a.defers}.put oi.dst v:=by cases oi.dst<;>rfl
     rw[e1,Act.put_comm _ v _ h2]at h
     have hb:YieldsP P _ oi v {a with defers:=d::a.defers}:=hy.of_same (by rfl) rfl;simp_all
    case enter f args=>
     refine h.mono ?_;intro e w'' he;cases e with
     |returned u=>grind[Act.put_comm]
     |panicked c=>exact he
     |outgrown=>omega
    grind[Act.put_comm]
   |halt x w'=>cases x<;>simp only[Oper.upon]at h ⊢ <;> exact h
  ·obtain⟨_,_,_,h'⟩:=h
   exact h'.elim
 ·grind[Act.put_comm]
theorem aLV{md:Region.Mode}{L:Act->World->Prop}{i:Nat}{oi:Oper}{v:Value}(hi:ops[i]?=some oi)(hsel:∀(j:Nat)(o:Oper) cs b,ops[j]?=some o->o.op≠.select cs b):
  ∀(fuel:Nat)(listed:Array Bool)(a:Act)(w:World),
   (∀j oj,ops[j]?=some oj->j≠i->listed.getD j true=false->(∀e∈oj.after,Region.binds md e=true->e.on≠i)->oi.apart ops oj=true)->
   i∈Region.ready md ops listed->YieldsP P ops oi v a->
   wpAny P md ops (d5 L) fuel (listed.setIfInBounds i true) (a.put oi.dst v) w->wpAny P md ops (d5 L) (fuel+1) listed a w:=by
 intro fuel;induction fuel with
 |zero=>
  intro listed a w _ hr hy H
  refine⟨fun h=>(by simp_all),fun j hj=>?_⟩
  by_cases hji:j=i
  ·subst hji;exact hy.wpOp hi H
  ·have:=ready_mono hj hji
   rw[H.1]at this
   cases this
 |succ fuel ih=>
  intro listed a w hfree hr hy H
  refine⟨fun h=>(by simp_all),fun j hj=>?_⟩
  by_cases hji:j=i
  ·subst hji;exact hy.wpOp hi H
  ·have h1:=H.2 j (ready_mono hj hji)
   obtain⟨hjun,oj,hoj,hall⟩:=mem_ready.1 hj
   have hnot:∀e∈oj.after,Region.binds md e=true->e.on≠i:=fun e he hb heq=>by
    grind[mem_ready,Nat.lt_or_ge,Array.getElem?_eq_none]
   have h2:=aLX hoj (hfree j oj hoj hji hjun hnot) (fun cs b=>hsel i oi cs b hi) (fun cs b=>hsel j oj cs b hoj) hy h1;have hfree':∀k ok,ops[k]?=some ok->k≠i->(listed.setIfInBounds j true).getD k true=false->
     (∀e∈ok.after,Region.binds md e=true->e.on≠i)->oi.apart ops ok=true:=fun k ok hk hki hun hno=>by
    refine hfree k ok hk hki ?_ hno;by_cases hjk:j=k
    all_goals simp_all
   refine wpOp_mono (fun a' w' h3=>ih (listed.setIfInBounds j true) a' w' hfree' (ready_mono hr (Ne.symm hji)) h3.1 ?_) h2;simp_all[Array.setIfInBounds_comm]
end
end Go.SX

namespace Go.SX
theorem abS{p:Nat->Prop}(h:∃n,p n):∃n,p n/\∀m,p m->n<=m:=by
 obtain⟨n,hn⟩:=h
 induction n using Nat.strongRecOn with
 |_ n ih=>
  grind
theorem tu{fs:List E}{n0 b0:Nat}{t:Tm}{st:St}{bound:Option E}{z:Sub}:∀(l:List Tmpl)(why:Option E),iL fs n0 b0 t st bound l why=.ok z->
  ∃τ∈l,La fs n0 b0 t st τ=.ok z/\∀m,bound=some m->gL fs st.pc (τ.less.sub z.n0 z.es) m=true/\dR fs st.pc (τ.less.sub z.n0 z.es)=true
 |[],why,h=>by simp only[iL]at h;grind
 |τ::τs,why,h=>by
  simp only[iL]at h;split at h
  ·grind
  ·obtain⟨τ',h1,h2⟩:=tu _ _ h
   grind
  ·obtain⟨τ',h1,h2⟩:=tu _ _ h
   grind
theorem xZ{t:Tm}{st:St}{f:Fit}{r:aQ}{os:List Out}(h:mY t st f r=some os):(∃z,f=.ok z)/\r=some os:=by
 unfold mY at h;grind
theorem va{n0 b0:Nat}:∀(l:List Tmpl),rC n0 b0 l=true->∀τ∈l,n0<=τ.st.nv/\b0<=τ.st.nb/\τ.scp=true
 |[],_,τ,h=>by cases h
 |x::xs,h,τ,hm=>by
  simp only[rC]at h;split at h
  ·cases hm with
   |head=>simp_all
   |tail _ hm=>exact va xs h τ hm
  ·cases h
theorem acd{tb:Tab}{rec:bR}{g:FuncId}{b:Code}{n0 b0:Nat}{ts:List Tmpl}{k:Out->aQ}:∀(l:List Tmpl)(os:List Out),LZ tb rec g b n0 b0 ts k l=some os->
  ∀τ∈l,∃os',(∀x∈os',x∈os)/\rec (.code g b) τ.tmps τ.st (fun o=>match o.ex with
   |.normal=>mY o.tmps o.st (iL tb.facts n0 b0 o.tmps o.st (some τ.less) ts none) (some [])
   |_=>k o)=some os'
 |[],os,_,τ,h=>by cases h
 |x::xs,os,h,τ,hm=>by
  obtain⟨l,m,h1,h2,h3,h4⟩:=lz h
  cases hm with
  |head=>grind
  |tail _ hm=>
   obtain⟨os',h5,h6⟩:=acd xs m h2 τ hm
   simp_all
def fB(P:Program)(x:Ann):Prop:=
 ∀y,x.known=some y->∀b,OfFn P x.fn (.loop b)->iO b=some x.key->∀(B:Base)(F0:Env)(a:Act)(w:World)(Q:Exit->Act->World->Prop),F0.vs.length=y.n0->F0.bs.length=y.b0->
  (∃τ∈x.ts,∃F',F0.Ext F'/\RepW B F' τ.st w/\TmRep F' τ.tmps a)->
  (∀o∈y.xs,∀(F':Env)(a':Act)(w':World),F0.Ext F'->RepW B F' o.st w'->TmRep F' o.tmps a'->Q (xT o.ex) a' w')->(Code.loop b).wp P Q a w
theorem aaE{k:Out->aQ}:∀(l:List Out)(os:List Out),KE k l=some os->∀o∈l,∃os',k o=some os'/\∀x∈os',x∈os
 |[],os,h,o,ho=>by cases ho
 |x::xs,os,h,o,ho=>by
  obtain⟨l,m,h1,h2,h3,h4⟩:=lz h
  cases ho with
  |head=>simp_all
  |tail _ hm=>
   obtain⟨os',h5,h6⟩:=aaE xs m h2 o hm
   simp_all
theorem KZ{g key:Nat}:∀(l:List Ann){x:Ann},xW g key l=some x->x∈l/\x.fn=g/\x.key=key
 |[],x,h=>by cases h
 |y::ys,x,h=>by
  simp only[xW]at h;split at h
  ·split at h
   ·simp_all
   ·obtain⟨k1,k2⟩:=KZ ys h;simp_all
  ·obtain⟨k1,k2⟩:=KZ ys h;simp_all
theorem aDh{tb:Tab}{g:Nat}{b:Code}{x:Ann}(h:JU tb g b=some x):x∈tb.anns/\x.fn=g/\iO b=some x.key:=by
 grind[JU,KZ]
theorem yZ:∀(k n:Nat)(t:T Blk)(i:Nat)(b:Blk),(Mw k n t).get i=some b->t.get i=some b\/(b=⟨true,.gone⟩/\i<n+k)
 |0,n,t,i,b,h=>.inl h
 |k+1,n,t,i,b,h=>by
  rcases yZ k _ _ i b h with h1|⟨h1,h2⟩
  all_goals grind[T.get_ins_self,T.get_ins_ne]
theorem RepW.pad{B:Base}{F:Env}{st:St}{w:World}(h:RepW B F st w)(hs:st.scp=true){n b:Nat}(hn:st.nv<=n)(hb:st.nb<=b):
  ∃F',F.Ext F'/\RepW B F' (st.pad n b) w:=by
 have he:F.Ext ⟨F.vs++List.replicate (n-st.nv) (.int 0),F.bs++List.replicate (b-st.nb) ⟨0,0,none⟩,F.fz⟩:=⟨⟨_,rfl⟩,⟨_,rfl⟩,fun _ _ h=>h⟩
 refine⟨_,he,?_,?_,?_,?_,?_,h.inn.next (fun i x hx=>?_) (fun _ _ hf=>hf),h.fz,h.fr,h.dj,h.os,h.tape,h.output⟩
 ·simp[St.pad,h.nv];omega
 ·simp[St.pad,h.nb];omega
 ·exact h.ext_pc hs he
 ·intro i x hx;rcases yZ _ _ _ i x hx with h1|⟨h1,h2⟩
  ·obtain⟨k1,k2,k3⟩:=h.blk i x h1
   have hsc:=h.blk_scp hs h1;have hlt:i<F.bs.length:=by rw[h.nb];omega
   refine⟨Nat.lt_of_lt_of_le k1 hb,?_,fun ho=>by rw[he.blk hlt];exact k3 ((SObj.real_ext he hsc).1 ho)⟩
   rw[he.blk hlt,he.off hlt,he.nil hlt]
   exact k2.ext he hsc
  ·subst h1
   refine⟨?_,trivial,fun h=>h.elim⟩
   have:Nat.sub b _=b-st.nb:=rfl
   show i<b;omega
 ·intro i j x y hx hy lx ly ox oy hij;rcases yZ _ _ _ i x hx with h1|⟨h1,_⟩
  ·rcases yZ _ _ _ j y hy with h2|⟨h2,_⟩
   ·have hlti:i<F.bs.length:=by rw[h.nb];exact(h.blk i x h1).1
    have hltj:j<F.bs.length:=by rw[h.nb];exact(h.blk j y h2).1
    rw[he.blk hlti,he.blk hltj]
    exact h.inj i j x y h1 h2 ((SObj.real_ext he (h.blk_scp hs h1)).1 lx) ((SObj.real_ext he (h.blk_scp hs h2)).1 ly) ox oy hij
   ·subst h2;exact ly.elim
  ·subst h1;exact lx.elim
 ·rcases yZ _ _ _ i x hx with h1|⟨h1,_⟩
  ·have hlt:i<F.bs.length:=by rw[h.nb];exact(h.blk i x h1).1
   exact .inl ⟨x,h1,(SObj.real_ext he (h.blk_scp hs h1)).1,he.blk hlt,fun r=>(SObj.inner_ext he (h.blk_scp hs h1)).1⟩
  ·subst h1;exact .inr ⟨fun r h=>h,fun hl=>hl.elim⟩
section
variable {P:Program} {tb:Tab} (ht:TabOk P tb)
include ht
open Classical in
theorem aJZ(hloop:∀x∈tb.anns,fB P x){n:Nat}{rec:bR}(hrec:RunOk P tb n rec){g:FuncId}{b:Code}{t:Tm}{st:St}{k:Out->aQ}{os:List Out}(hof:OfFn P g (.loop b))(h:FC tb rec g b t st k=some os)
  {B:Base}{F:Env}{a:Act}{w:World}{Q:Exit->Act->World->Prop}(hr:RepW B F st w)(hT:TmRep F t a)(hK:CodeRes B F Q k os):(Code.loop b).wp P Q a w:=by
 unfold FC at h;split at h
 ·exact wp_loop_rounds n (hrec.rounds _ _ _ _ _ _ (hof.part (.loop (.refl b))) h B F a w Q hr hT hK)
 ·rename_i x hx
  obtain⟨hxm,hxf,hxk⟩:=aDh hx
  obtain⟨ts,hts⟩:∃ts,ts=x.ts:=⟨_,rfl⟩
  rw[<- hts]at h
  split at h;case h_2=>
   rename_i y hy;have key:∀ {st':St} {F':Env},FB tb y.n0 y.b0 ts y.xs t st' k=some os->F.Ext F'->RepW B F' st' w->TmRep F' t a->st'.nv=y.n0->st'.nb=y.b0->(Code.loop b).wp P Q a w:=by
    intro st' F' h he hr' hT' e1 e2;unfold FB at h;split at h
    ·rename_i hscp
     obtain⟨⟨z,hz⟩,hexits⟩:=xZ h
     obtain⟨τ,hτ,hfit,_⟩:=tu _ _ hz
     obtain⟨_,_,hsc⟩:=va _ hscp τ hτ
     have n1:F'.vs.length=y.n0:=by rw[hr'.nv,e1]
     have n2:F'.bs.length=y.b0:=by rw[hr'.nb,e2]
     obtain⟨h1,h2,h3,h4,h5⟩:=Do ht.facts hfit hsc hr' hT' (Env.Ext.refl F') n1 n2
     subst hxf;refine hloop x hxm y hy b hof hxk B F' a w Q n1 n2 ⟨τ,by simp_all,_,h3,h4,h5⟩ ?_;intro o ho F2 a' w' k1 k2 k3
     obtain⟨os',k4,k5⟩:=aaE _ _ hexits o ho
     exact hK _ _ _ _ _ k4 k5 (he.trans k1) k2 k3
    ·cases h
   split at h
   ·rename_i hnb
    rw[Bool.and_eq_true]at hnb
    grind[Env.Ext.refl,Nat.eq_of_beq_eq_true]
   ·split at h
    ·rename_i hnb;simp only[Bool.and_eq_true]at hnb
     obtain⟨⟨⟨m1,m2⟩,m3⟩,m4⟩:=hnb
     obtain⟨F',he,hr'⟩:=hr.pad m3 (Nat.le_of_ble_eq_true m1) (Nat.le_of_ble_eq_true m2)
     exact key h he hr' (hT.ext he (by rw[hr.nv,hr.nb];omega)) rfl rfl
    ·cases h
  split at h;case h_2=>cases h
  ·rename_i hscp
   obtain⟨⟨z,hz⟩,hruns⟩:=xZ h
   let M:Act->World->Nat->Prop:=fun a w m=>∃τ∈ts,∃F',F.Ext F'/\RepW B F' τ.st w/\TmRep F' τ.tmps a/\m=(τ.less.I F').toNat
   let Z:Act->World->Nat:=fun a w=>if h:∃m,M a w m then Classical.choose (abS h)else 0
   have hZ:∀ {a w},(∃m,M a w m)->M a w (Z a w)/\∀m,M a w m->Z a w<=m:=by
    intro a w hex;grind
   have enter:∀ {t':Tm} {st':St} {F':Env} {a':Act} {w':World} {bound:Option E} {y:Sub},iL tb.facts st.nv st.nb t' st' bound ts none=.ok y->F.Ext F'->RepW B F' st' w'->TmRep F' t' a'->
     ∃τ∈ts,∃F'',F.Ext F''/\RepW B F'' τ.st w'/\TmRep F'' τ.tmps a'/\∀m,bound=some m->τ.less.I F''<m.I F'/\0<=τ.less.I F'':=by
    intro t' st' F' a' w' bound y hy he hr' hT'
    obtain⟨τ,hτ,hfit,hbd⟩:=tu _ _ hy
    obtain⟨_,_,hsc⟩:=va _ hscp τ hτ
    obtain⟨h1,h2,h3,h4,h5⟩:=Do ht.facts hfit hsc hr' hT' he hr.nv hr.nb
    refine⟨τ,hτ,_,h3,h4,h5,fun m hm=>?_⟩
    obtain⟨k1,k2⟩:=hbd m hm
    have k1':=jv ht.facts hr'.pc k1;have k2':=gO ht.facts hr'.pc k2;have hn:y.n0<=F'.vs.length:=by
     obtain⟨l,hl⟩:=he.vs
     rw[h1,<- hr.nv,hl];simp
    have hls:τ.less.scp (y.n0+y.es.length)=true:=by
     simp_all[Tmpl.scp,Bool.and_eq_true,Nat.add_comm]
    grind[E.sub_I]
   refine wp_loop (fun a w=>∃m,M a w m) Z ?_ ?_
   ·grind[Env.Ext.refl]
   ·intro a1 w1 hI
    obtain⟨⟨τ,hτ,F',h1,h2,h3,h4⟩,_⟩:=hZ hI
    obtain⟨os',hsub,hrun⟩:=acd _ _ hruns τ hτ
    refine hrec.code _ _ _ _ _ _ (hof.part (.loop (.refl b))) hrun B F' a1 w1 _ h2 h3 ?_;intro o F2 a2 w2 os2 k1 k2 k3 k4 k5;dsimp only at k1;cases hex:o.ex with
    |normal=>
     rw[hex]at k1
     obtain⟨⟨y,hy⟩,_⟩:=xZ k1
     obtain⟨τ2,hτ2,F3,j1,j2,j3,j4⟩:=enter hy (h1.trans k3) k4 k5
     obtain⟨j5,j6⟩:=j4 _ rfl
     have hM:M a2 w2 (τ2.less.I F3).toNat:=⟨τ2,hτ2,F3,j1,j2,j3,rfl⟩
     refine⟨⟨_,hM⟩,?_⟩
     have hle:=(hZ ⟨_,hM⟩).2 _ hM;have hsc:=(va _ hscp τ hτ).2.2;have hls:τ.less.scp F'.vs.length=true:=by
      simp only[Tmpl.scp,Bool.and_eq_true]at hsc
      rw[h2.nv];simp_all
     grind[E.scoped_I]
    |exit i=>
     rw[hex]at k1
     have:=hK _ _ _ _ _ k1 (fun x hx=>hsub x (k2 x hx)) (h1.trans k3) k4 k5
     rw[hex]at this;exact this
    |ret=>
     rw[hex]at k1
     have:=hK _ _ _ _ _ k1 (fun x hx=>hsub x (k2 x hx)) (h1.trans k3) k4 k5
     rw[hex]at this;exact this
end
end Go.SX

namespace Go.SX
def uG(tmps:Array Value):ResultVar->Sem Value
 |.tmp t=>pure (tmps.getD t Go.undef)
 |.cell a t=>do loadVar t (<- asAddr (tmps.getD a Go.undef))
def aR(P:Program)(x:Nat1):Prop:=
 ∀(fs:List E),(∀e∈fs,∀F,e.B F=true)->∀(args:List SV)(st:St)(l:List (SV×St)),x.eff fs args st=.outs l->∀(B:Base)(F:Env)(w:World)(R:Ending->World->Prop),RepW B F st w->SV.oks F args->
  (∀y∈l,∀(F':Env)(w':World),F.Ext F'->RepW B F' y.2 w'->y.1.ok F'->R (.returned (y.1.den F')) w')->Calls P x.fn (SV.dens F args).toArray w R
section
variable {P:Program} {tb:Tab} (ht:TabOk P tb) (hnat:∀x∈tb.nats,aR P x) (hng:∀(f:Nat)(fn:Func),P.funcs[f]? =some fn->(fn.name == "runtime.NumGoroutine")=false)
include ht hnat hng
omit hng hnat in
theorem MT{B:Base}{F:Env}{st:St}{w:World}(hr:RepW B F st w){t:Tm}{a:Act}(hT:TmRep F t a):∀(rs:List ResultVar)(vs:List SV),jA tb st t rs=some vs->
  ((rs.mapM (uG a.tmps):Sem (List Value))).run P w=.ok (SV.dens F vs) w
 |[],vs,h=>by simp_all[jA,SV.dens]
 |.tmp i::rs,vs,h=>by
  simp only[jA]at h;split at h
  ·rename_i l hl;have ih:=MT hr hT rs l hl;have key:∀u,a.tmps.getD i undef=u.den F->some (u::l)=some vs->((ResultVar.tmp i::rs).mapM (uG a.tmps)).run P w=.ok (SV.dens F vs) w:=by
    grind[Sem.run_bind,uG,Sem.run_pure,Result.andThen_ok,SV.dens]
   split at h
   ·rename_i u hu;split at h
    ·cases h
    ·rename_i hj;refine key u ?_ h
     rw[Array.getD_eq_getD_getElem?,hT.at hu hj]
     rfl
   ·rename_i hu;refine key _ ?_ h
    rw[Array.getD_eq_getD_getElem?,hT.2.1 i hu]
    rfl
  ·cases h
 |.cell x ty::rs,vs,h=>by
  simp only[jA]at h;split at h
  ·rename_i y hy;split at h
   ·rename_i v l hv hl;simp only[Option.some.injEq]at h;subst h;have ih:=MT hr hT rs l hl
    obtain⟨ad,h1,h2⟩:=LX ht hr hv
    have hyj:y≠.junk:=by rintro rfl;cases h1
    have hx:a.tmps.getD x undef=.pointer (some ad):=by
     rw[Array.getD_eq_getD_getElem?,hT.at hy hyj]
     simp_all
    have hc:(uG a.tmps (.cell x ty)).run P w=.ok (v.den F) w:=by
     simp_all[uG,asAddr]
    rw[List.mapM_cons,Sem.run_bind,hc,Result.andThen_ok,Sem.run_bind,ih]
    rfl
   ·cases h
  ·cases h
omit hng hnat in
theorem MU{B:Base}{F:Env}{st:St}{w:World}(hr:RepW B F st w){t:Tm}{a:Act}(hT:TmRep F t a):∀(rs:List ResultVar)(vs:List SV),jA tb st t rs=some vs->SV.oks F vs
 |[],vs,h=>by simp_all[jA,SV.oks]
 |.tmp i::rs,vs,h=>by
  simp only[jA]at h;split at h
  ·rename_i l hl;have ih:=MU hr hT rs l hl;split at h
   ·rename_i u hu;split at h
    ·cases h
    ·simp only[Option.some.injEq]at h;subst h
     exact⟨hT.ok hu,ih⟩
   ·simp only[Option.some.injEq]at h;subst h
    exact⟨gu F,ih⟩
  ·cases h
 |.cell x ty::rs,vs,h=>by
  simp only[jA]at h;split at h
  ·split at h
   ·rename_i v l hv hl;simp only[Option.some.injEq]at h;subst h
    exact⟨LY ht hr hv,MU hr hT rs l hl⟩
   ·cases h
  ·cases h
omit hng hnat ht in
theorem aLJ{vs:List SV}{F:Env}(h:SV.oks F vs):(rD vs).ok F:=by
 cases vs with
 |nil=>simp[rD,SV.ok,SV.oks]
 |cons v vs=>
  cases vs with
  |nil=>exact h.1
  |cons u us=>simp_all[rD,SV.ok]
omit hng hnat ht in
theorem aLI(vs:List SV)(F:Env):(if h:(SV.dens F vs).toArray.size=1 then(SV.dens F vs).toArray[0] else .tuple (SV.dens F vs).toArray)=(rD vs).den F:=by
 cases vs with
 |nil=>rfl
 |cons v vs=>
  cases vs with
  |nil=>rfl
  |cons u us=>rfl
omit hng in
theorem aJT{n:Nat}{rec:bR}(hrec:RunOk P tb n rec){g:FuncId}{args:List SV}{st:St}{k:Out->aQ}{os:List Out}(h:Nm tb rec g args st k=some os)
  {B:Base}{F:Env}{w:World}(hr:RepW B F st w){R:Ending->World->Prop}(hao:SV.oks F args)(hK:CallRes B F R k os):Calls P g (SV.dens F args).toArray w R:=by
 unfold Nm at h;split at h
 ·rename_i l hl;have hfind:∀(xs:List _),xY tb.facts g args st xs=.outs l->∃x∈xs,x.fn=g/\x.eff tb.facts args st=.outs l:=by
   intro xs;induction xs with
   |nil=>intro h;cases h
   |cons x xs ih=>
    grind[xY,Nat.eq_of_beq_eq_true]
  obtain⟨x,hx,rfl,hxe⟩:=hfind _ hl
  refine hnat x hx _ ht.facts _ st l hxe B F w R hr hao ?_;clear hl hxe hfind;induction l generalizing os with
  |nil=>simp_all
  |cons z l ih=>
   obtain⟨l1,l2,h1,h2,h3,h4⟩:=lz h
   intro y hy F' w' k1 k2 k3;cases hy with
   |head=>exact hK _ _ _ _ _ _ _ h1 h3 k1 k2 rfl k3
   |tail _ hm=>exact ih (hK.sub h4) h2 y hm _ w' k1 k2 k3
 split at h
 ·rename_i fn hfn;split at h
  ·rename_i c hc;split at h
   ·rename_i hle;simp only[Bool.and_eq_true,Nat.ble_eq]at hle
    rw[T.putsK_eq]at h
    refine calls_of_wp (ht.fn _ _ hfn) hc ?_;refine hrec.code _ _ _ _ _ _ ⟨fn,c,ht.fn _ _ hfn,hc,.refl c⟩ h B F _ w _ hr ?_ ?_
    ·have hslot:∀i,(((SV.dens F args).toArray++Array.replicate (fn.ntmps-(SV.dens F args).toArray.size) Go.undef))[i]?=((((T.fill SV.undef 20 fn.ntmps).puts 0 args)).get i).map (SV.den F):=by
      intro i
      rw[T.get_puts,T.get_fill _ _ _ _ (by omega)]
      simp only[Nat.zero_add,Nat.zero_le,true_and];have hlen:(SV.dens F args).length=args.length:=by simp[SV.dens_eq]
      by_cases h1:i<args.length
      ·rw[if_pos h1,if_pos (by omega)]
       simp_all[Array.getElem?_append_left,SV.dens_eq]
      ·rw[Array.getElem?_append_right _]
       simp only[Array.getElem?_replicate];by_cases h2:i<fn.ntmps
       all_goals simp_all[SV.undef_den,if_neg]
     refine⟨rfl,fun i hi=>?_,fun i v hv=>?_⟩
     ·simp_all
     ·have:=hslot i
      rw[hv]at this
      rw[T.get_puts,T.get_fill _ _ _ _ (by omega)]at hv
      by_cases h1:i<args.length
      ·grind[SV.oks_iff]
      ·grind[gu]
    ·intro o F' a' w' os' h1 h2 h3 h4 h5;dsimp only at h1;have key:∀ {vs:List SV},jA tb o.st o.tmps fn.results.toList=some vs->k ⟨.ret,.node (rD vs) .nil .nil,o.st⟩=some os'->
       a'.defers=[]/\∃v,(results fn a'.tmps).run P w'=.ok v w'/\R (.returned v) w':=by
      intro vs hvs hk
      refine⟨h5.1,(rD vs).den F',?_,?_⟩
      ·have hm:=MT ht h4 h5 _ _ hvs;have e:results fn a'.tmps=(do let vs <- fn.results.mapM (uG a'.tmps);pure (if h:vs.size=1 then vs[0] else .tuple vs)):=by
        rfl
       grind[Sem.run_bind,Array.mapM_eq_mapM_toList,Sem.run_map,Result.andThen_ok,Sem.run_pure,aLI]
      ·exact hK _ _ w' _ _ _ _ hk h2 h3 h4 rfl (aLJ (MU ht h4 h5 _ _ hvs))
     cases hex:o.ex with
     |exit i=>simp_all
     |normal=>
      rw[hex]at h1
      simp only at h1;split at h1
      ·rename_i vs hvs;exact key hvs h1
      simp_all
     |ret=>
      rw[hex]at h1
      simp only at h1;split at h1
      ·rename_i vs hvs;exact key hvs h1
      simp_all
   ·cases h
  ·cases h
 ·cases h
theorem aJW(hloop:∀x∈tb.anns,fB P x){n:Nat}{rec:bR}(hrec:RunOk P tb n rec){g:FuncId}{c:Code}{t:Tm}{st:St}{k:Out->aQ}{os:List Out}(hof:OfFn P g c)(h:Nn P tb rec g c t st k=some os)
  {B:Base}{F:Env}{a:Act}{w:World}{Q:Exit->Act->World->Prop}(hr:RepW B F st w)(hT:TmRep F t a)(hK:CodeRes B F Q k os):c.wp P Q a w:=by
 rw[aJV]at h;unfold M5 M2 M3 M4 at h
 split at h
 ·exact wp_skip (hK _ _ _ _ _ h (fun x hx=>hx) (Env.Ext.refl F) hr hT)
 ·exact wp_label (hK _ _ _ _ _ h (fun x hx=>hx) (Env.Ext.refl F) hr hT)
 ·exact wp_ret (hK _ _ _ _ _ h (fun x hx=>hx) (Env.Ext.refl F) hr hT)
 ·exact wp_exit (hK _ _ _ _ _ h (fun x hx=>hx) (Env.Ext.refl F) hr hT)
 ·-- seq
  refine wp_seq (hrec.code _ _ _ _ _ _ (hof.part (.seqL (.refl _))) h B F a w _ hr hT ?_);intro o F' a' w' os' h1 h2 h3 h4 h5;dsimp only at h1;cases hex:o.ex with
  |normal=>
   rw[hex]at h1
   exact hrec.code _ _ _ _ _ _ (hof.part (.seqR (.refl _))) h1 B _ a' w' Q h4 h5 ((hK.ext h3).sub h2)
  |exit i=>
   rw[hex]at h1
   have:=hK _ _ _ _ _ h1 h2 h3 h4 h5
   rw[hex]at this;exact this
  |ret=>
   rw[hex]at h1
   have:=hK _ _ _ _ _ h1 h2 h3 h4 h5
   rw[hex]at this;exact this
 ·-- block
  rename_i id b;refine wp_block (hrec.code _ _ _ _ _ _ (hof.part (.block (.refl _))) h B F a w _ hr hT ?_);intro o F' a' w' os' h1 h2 h3 h4 h5;dsimp only at h1;cases hex:o.ex with
  |normal=>
   rw[hex]at h1
   have:=hK _ _ _ _ _ h1 h2 h3 h4 h5
   rw[hex]at this;exact this
  |ret=>
   rw[hex]at h1
   have:=hK _ _ _ _ _ h1 h2 h3 h4 h5
   rw[hex]at this;exact this
  |exit i=>
   rw[hex]at h1
   simp only at h1;simp only[xT,Exit.inBlock];split at h1
   ·rename_i hi
    rw[if_pos (Nat.eq_of_beq_eq_true hi)]
    exact hK _ _ _ _ _ h1 h2 h3 h4 h5
   ·have:i≠id:=fun e=>by simp_all
    rw[if_neg this]
    have:=hK _ _ _ _ _ h1 h2 h3 h4 h5
    rw[hex]at this;exact this
 ·-- loop
  grind[aJZ]
 ·-- cond
  rename_i x c1 c2;split at h
  ·rename_i e he;have hx:a.eval x=.bool (e.B F):=by rw[hT.eval _ _ he];rfl
   split at h
   ·rename_i hk
    have:=dv ht.facts hr.pc hk
    exact wp_cond_true (by simp_all) (hrec.code _ _ _ _ _ _ (hof.part (.condL (.refl _))) h B F a w Q hr hT hK)
   ·rename_i hk
    have:=dv ht.facts hr.pc hk
    exact wp_cond_false (by simp_all) (hrec.code _ _ _ _ _ _ (hof.part (.condR (.refl _))) h B F a w Q hr hT hK)
   ·obtain⟨l,m,h1,h2,h3,h4⟩:=lz h
    refine wp_cond_split hx (fun hb=>?_) (fun hb=>?_)
    ·exact hrec.code _ _ _ _ _ _ (hof.part (.condL (.refl _))) h1 B F a w Q (hr.assume hb) hT (hK.sub h3)
    ·exact hrec.code _ _ _ _ _ _ (hof.part (.condR (.refl _))) h2 B F a w Q (hr.assume (by simp[gh,hb])) hT (hK.sub h4)
  ·cases h
 ·-- region
  rename_i id ops d;split at h
  ·exact wp_region_list (afu ht hng hrec _ h hr hT (fun t st F' a' w' os' h1 h2 h3 h4 h5=>hK _ _ _ _ _ h1 h2 h3 h4 h5))
  ·exact hrec.draw _ id t st k os h B F a w Q hr hT hK
 ·-- scope
  refine wp_scope_straight (hrec.code _ _ _ _ _ _ (hof.part (.scope (.refl _))) h B F a w _ hr hT ?_);intro o F' a' w' os' h1 h2 h3 h4 h5
  have:=hK _ _ _ _ _ h1 h2 h3 h4 h5
  cases hex:o.ex<;>(rw[hex]at this;exact this)
 ·cases h
omit ht hnat hng in
theorem aJ0{n:Nat}{rec:bR}(hrec:RunOk P tb n rec){g:FuncId}{c:Code}{t:Tm}{st:St}{k:Out->aQ}{os:List Out}(hof:OfFn P g c)(h:afv rec g c t st k=some os)
  {B:Base}{F:Env}{a:Act}{w:World}{Q:Exit->Act->World->Prop}(hr:RepW B F st w)(hT:TmRep F t a)(hK:CodeRes B F Q k os):Code.rounds P c Q (n+1) a w:=by
 refine hrec.code _ _ _ _ _ _ hof h B F a w _ hr hT ?_;intro o F' a' w' os' h1 h2 h3 h4 h5;dsimp only at h1;cases hex:o.ex with
 |normal=>
  rw[hex]at h1
  exact hrec.rounds _ _ _ _ _ _ hof h1 B _ a' w' Q h4 h5 ((hK.ext h3).sub h2)
 |exit i=>
  rw[hex]at h1
  have:=hK _ _ _ _ _ h1 h2 h3 h4 h5
  rw[hex]at this;exact this
 |ret=>
  rw[hex]at h1
  have:=hK _ _ _ _ _ h1 h2 h3 h4 h5
  rw[hex]at this;exact this
theorem aer{n:Nat}{rec:bR}(hrec:RunOk P tb n rec){o:Oper}{t:Tm}{st:St}{v:SV}(h:zd P tb rec o t st=.done v){B:Base}{F:Env}{a:Act}(hT:TmRep F t a)
  (w:World)(hr:RepW B F st w):o.quietAt P a (fun w'=>RepW B F st w') w (v.den F)/\v.ok F:=by
 unfold Oper.quietAt;unfold zd at h;split at h
 ·rename_i v' hv;simp only[QR.done.injEq]at h;subst h
  rw[E9 ht hT.eval hT.wf hv w]
  exact⟨⟨rfl,rfl⟩,Fb hT.wf hv⟩
 ·split at h
  ·rename_i hro;have hrd:=aew ht hr hT o hro;split at h
   ·rename_i v' st' he
    rw[he]at hrd
    simp only[QR.done.injEq]at h;subst h
    rw[hrd.2.2]
    exact⟨⟨rfl,rfl⟩,hrd.2.1⟩
   all_goals simp_all
  split at h
  ·rename_i c hc;split at h
   ·rename_i g args hca
    obtain⟨hcs,hco⟩:=ZC ht hng hT hc hca w
    rw[hcs]
    unfold aeq at h;split at h
    ·rename_i os hos;split at h
     ·rename_i o';split at h
      ·rename_i v' l r ho';split at h
       ·rename_i hchk;simp only[QR.done.injEq]at h;subst h;simp only[Bool.and_eq_true]at hchk
        obtain⟨hpl,hchk⟩:=hchk
        refine⟨⟨rfl,?_⟩,SV.plain_ok _ hpl⟩
        refine hrec.call _ _ _ _ _ _ hos B F w _ hr hco ?_;intro o2 F' w' os' v2 l2 r2 h1 h2 h3 h4 h5 _;have he:o2=o':=by
         have:=h2 o2 (by grind)
         simp_all
        subst he
        rw[ho']at h5
        obtain⟨rfl,_,_⟩:=h5
        have hsv:v'.scp F.vs.length F.bs.length=true:=by rw[hr.nv,hr.nb];simp_all
        rw[SV.scoped_den h3 _ hsv]
        exact⟨rfl,hr.back h4 h3 hchk.1.2 hchk.2⟩
       ·cases h
      ·cases h
     ·cases h
    ·cases h
   ·cases h
  ·cases h
theorem Fh{n:Nat}{rec:bR}(hrec:RunOk P tb n rec){ops:Array Oper}{st:St}{B:Base}{F:Env}{w0:World}(hr0:RepW B F st w0):∀(l:List Oper){t t':Tm},nK P tb rec ops.toList st l t=.done t'->
  ∀ {a:Act},TmRep F t a->wpQuiet P ops (fun w'=>RepW B F st w') (fun a'=>TmRep F t' a') l a
 |[],t,t',h,a,hT=>by
  simp only[nK,QE.done.injEq]at h;subst h;exact hT
 |o::l,t,t',h,a,hT=>by
  have hundef:∀ {t':Tm},TmRep F t' a->TmRep F (match o.dst with | none=>t' | some d=>t'.set d SV.undef) (a.put o.dst undef):=by
   intro t' h';have h5:=h'.put o.dst _ (gu _);grind[SV.undef_den]
  have hw:=zB (ops:=ops) hT o;simp only[nK]at h;unfold wpQuiet;have hyes:∀ {t2:Tm} {v:SV},TmRep F t2 a->zd P tb rec o t2 st=.done v->(dW t2 o.dst v fun tmps=>nK P tb rec ops.toList st l tmps)=.done t'->
    o.quiet P a (fun w'=>RepW B F st w') (wpQuiet P ops (fun w'=>RepW B F st w') (fun a'=>TmRep F t' a') l):=by
   intro t2 v hT2 hq hk
   rw[iW]at hk
   exact⟨v.den F,fun w hw=>(aer ht hnat hng hrec hq hT2 w hw).1,Fh hrec hr0 l hk (hT2.put _ _ (aer ht hnat hng hrec hq hT2 _ hr0).2)⟩
  split at h
  ·grind
  ·rename_i hq
   rw[hq]at hw
   rw[if_neg (by simp[hw])]
   rw[iW]at h
   exact Fh hrec hr0 l h (hundef hT)
  ·cases h
  ·rename_i s e want hq
   rw[hq]at hw
   obtain⟨hs,hw⟩:=hw
   split at h
   ·rename_i b hb;have hb':=dv ht.facts hr0.pc hb
    rw[T.setK_eq]at h
    have hT':=hT.relabel hs hb';split at h
    ·grind[oG]
    ·rename_i hbw
     have:=Cw hbw
     rw[if_neg (by simp_all)]
     rw[iW]at h
     exact Fh hrec hr0 l h (hundef hT')
   ·cases h
end
end Go.SX

namespace Go.SX
section
variable {P:Program} {tb:Tab} (ht:TabOk P tb) (hng:∀(f:Nat)(fn:Func),P.funcs[f]? =some fn->(fn.name == "runtime.NumGoroutine")=false)
theorem LQ(ops:Array Oper){k:Nat}{x:Oper}:∀(l:List Oper),tY k (bU ops.toList x) (aU ops.toList l)=true->
  ∀(j:Nat)(y:Oper),l[j]?=some y->(∀e∈y.after,Region.binds .any e=true->e.on≠k)->x.apart ops y=true
 |[],_,j,y,hy,_=>by simp at hy
 |m::ms,h,j,y,hy,hno=>by
  simp only[aU,tY]at h;have hrest:tY k (bU ops.toList x) (aU ops.toList ms)=true:=by
   grind
  cases j with
  |succ j=>exact LQ _ ms hrest j y (by simp_all) hno
  |zero=>
   split at h
   ·rename_i hb;have hb':(i4 _).testBit k=true:=hb;grind[nW]
   grind[Ze]
theorem lu{l:Array Bool}{i:Nat}(h:i<l.size):l.getD i true=l.getD i false:=by grind
def Upto(n k:Nat)(listed:Array Bool):Prop:=listed.size=n/\∀j,listed.getD j false=decide (j<k/\j<n)
theorem Upto.next{n k:Nat}{listed:Array Bool}(h:Upto n k listed)(hk:k<n):Upto n (k+1) (listed.setIfInBounds k true):=by
 refine⟨by simp[h.1],fun j=>?_⟩
 by_cases e:k=j
 ·subst e;simp[h.1]
 ·have h1:=h.2 j
  have:(listed.setIfInBounds k true).getD j false=listed.getD j false:=by
   simp_all
  grind
theorem Zq{m k:Nat}(h:Nat.blt m (Nat.pow 2 k)=true){j:Nat}(hj:m.testBit j=true):j<k:=by
 rw[dp]at h
 rcases Nat.lt_or_ge j k with h1|h1
 ·omega
 ·have h2:=Nat.lt_of_lt_of_le h (Nat.pow_le_pow_right (by omega) h1);simp_all[Nat.testBit_lt_two_pow]
theorem aes{ops:Array Oper}{C:World->Prop}{Q:Act->Prop}(hs:ik ops.toList=true):∀(l:List Oper)(k:Nat)(listed:Array Bool)(a:Act),
  (∀j,l[j]?=ops[k+j]?)->Upto ops.size k listed->iP (aU ops.toList l) k=true->wpQuiet P ops C Q l a->wpAnyQ P .any ops C Q l.length listed a
 |[],k,listed,a,hl,hu,hx,h=>by
  refine⟨?_,h⟩
  cases hr:Region.ready _ _ _ with
  |nil=>rfl
  |cons j js=>
   have hj:j∈Region.ready .any ops listed:=by simp_all
   obtain⟨h1,o,ho,_⟩:=mem_ready.1 hj
   have hlt:=(Array.getElem?_eq_some_iff.1 ho).1
   rw[lu (by grind),hu.2 j]at h1
   have:=hl (j-k)
   simp_all
 |o::l,k,listed,a,hl,hu,hx,h=>by
  have h0:=by simpa using (hl 0).symm
  have hlt:=(Array.getElem?_eq_some_iff.1 h0).1;simp only[aU,iP]at hx;split at hx
  ·rename_i hb;split at hx
   ·have hready:k∈Region.ready .any ops listed:=by
     refine mem_ready.2 ⟨?_,o,h0,fun e he hbd=>?_⟩
     ·rw[lu (by rw[hu.1];omega),hu.2 k]
      simp
     ·have hbit:(i4 o.after.toList).testBit _=true:=(nW _ _).2 ⟨e,by simp_all,hbd,rfl⟩
      have:=Zq hb hbit
      rw[hu.2 _]
      grind
    have hfree:∀j oj,ops[j]?=some oj->j≠k->listed.getD j true=false->(∀e∈oj.after,Region.binds .any e=true->e.on≠k)->o.apart ops oj=true:=by
     intro j oj hj hjk hjl hno
     rw[lu (by grind),hu.2 j]at hjl
     have h2:=hl (j-k);grind[LQ]
    have hst:qOp P ops C k (wpQuiet P ops C Q l) a:=by unfold qOp;simp only[h0];exact h
    obtain⟨v,hy,hK⟩:=yieldsIn_of_qOp h0 hst
    exact wpAnyQ_first h0 (noSel_ok' hs) _ _ a hfree hready hy
     (aes hs l _ _ _ (fun j=>by have:=hl (j+1);grind) (hu.next hlt) hx hK)
   simp_all
  simp_all
where
 noSel_ok' {ops:Array _} (hs:ik ops.toList=true):∀(j:Nat)(o:Oper) cs b,ops[j]?=some o->o.op≠.select cs b:=
  fun j o cs b h=>Mi _ hs j o cs b (by simp_all)
def MaskOk(n:Nat)(m:Nat)(listed:Array Bool):Prop:=listed.size=n/\∀j,listed.getD j false=m.testBit j
theorem MaskOk.set{n m i:Nat}{listed:Array Bool}(h:MaskOk n m listed)(hi:i<n):MaskOk n (Nat.lor (Nat.pow 2 i) m) (listed.setIfInBounds i true):=by
 refine⟨by simp[h.1],fun j=>?_⟩
 by_cases e:i=j
 ·subst e;simp[h.1,hi]
 ·have:(listed.setIfInBounds i true).getD j false=listed.getD j false:=by
   simp_all
  rw[this,h.2 j];simp[e]
theorem Gk{ops:Array Oper}{o:Oper}{m:Nat}{listed:Array Bool}(hm:MaskOk ops.size m listed):
  Nat.beq (Nat.land (bU ops.toList o).wait m) (bU ops.toList o).wait=true↔∀e∈o.after,Region.binds .any e=true->listed.getD e.on false=true:=by
 have hw:(bU ops.toList o).wait=i4 _:=rfl;constructor
 ·intro h e he hb;have hbit:(i4 o.after.toList).testBit _=true:=(nW _ _).2 ⟨e,by simp_all,hb,rfl⟩;have h1:=tS (i4 o.after.toList) m e.on
  rw[<- hw,Nat.eq_of_beq_eq_true h,hw,hbit]at h1
  rw[hm.2];grind
 ·intro h;refine lj (Nat.eq_of_testBit_eq fun j=>?_)
  rw[tS,hw]
  cases hj:(i4 _).testBit j with
  |false=>simp
  |true=>
   obtain⟨e,he,hb,rfl⟩:=(nW _ _).1 hj
   have:=h e (by simp_all) hb
   rw[hm.2]at this
   simp_all
theorem uF{ops:Array Oper}{m:Nat}{listed:Array Bool}(hm:MaskOk ops.size m listed):∀(l:List Oper)(k:Nat),(∀j,l[j]?=ops[k+j]?)->
  ∀i,k<=i->i∈Region.ready .any ops listed->∃o,ops[i]?=some o/\(i,o,bU ops.toList o)∈fo m l (aU ops.toList l) k
 |[],k,hl,i,hki,hi=>by
  obtain⟨_,o,ho,_⟩:=mem_ready.1 hi
  have:=hl (i-k)
  simp_all
 |o::l,k,hl,i,hki,hi=>by
  have h0:=by simpa using (hl 0).symm
  have ih:=uF hm l (k+1) (fun j=>by have:=hl (j+1);grind) i;simp only[aU,fo];by_cases e:i=k
  ·obtain⟨h1,o',ho',hall⟩:=mem_ready.1 hi
   rw[lu (by grind),hm.2]at h1
   grind[Gk]
  grind
theorem aaX{ops:Array Oper}{m i:Nat}{listed:Array Bool}{x:Oper}(hm:MaskOk ops.size m listed):∀(l:List Oper)(k:Nat),(∀j,l[j]?=ops[k+j]?)->
  lr m i (bU ops.toList x) (aU ops.toList l) k=true->
  ∀j oj,k<=j->ops[j]?=some oj->j≠i->listed.getD j true=false->(∀e∈oj.after,Region.binds .any e=true->e.on≠i)->x.apart ops oj=true
 |[],k,hl,_,j,oj,hkj,hj,_,_,_=>by
  have:=hl (j-k)
  simp_all
 |o::l,k,hl,h,j,oj,hkj,hj,hji,hjl,hno=>by
  have h0:=by simpa using (hl 0).symm
  have hl':∀j,l[j]?=ops[k+1+j]?:=fun j=>by have:=hl (j+1);grind
  simp only[aU,lr]at h;have hrest:lr m i (bU ops.toList x) (aU ops.toList l) (k+1)=true:=by
   grind
  by_cases e:j=k
  ·subst e
   rw[lu (by grind),hm.2]at hjl
   rw[hjl]at h
   have hij:Nat.beq i j=false:=by
    grind[Nat.eq_of_beq_eq_true]
   simp only[hij]at h;split at h
   ·rename_i hb;have hb':(i4 _).testBit i=true:=hb;grind[nW]
   grind[Ze]
  ·exact aaX hm l _ hl' hrest j oj (by omega) hj hji hjl hno
end
end Go.SX

namespace Go.SX
section
variable {P:Program} {tb:Tab} (ht:TabOk P tb) (hng:∀(f:Nat)(fn:Func),P.funcs[f]? =some fn->(fn.name == "runtime.NumGoroutine")=false)
def YieldsAt(P:Program)(ops:Array Oper)(o:Oper)(v:Value)(a:Act)(w:World):Prop:=
 (Region.wanted o (yielded ops a.tmps)=true/\(execOp a.eval o).run P w=.ok (.value v) w)\/(Region.wanted o (yielded ops a.tmps)=false/\v=undef)
include ht in
theorem adx{B:Base}{F:Env}{st:St}{w:World}{t:Tm}{a:Act}{o:Oper}{v:SV}(h:Ew P tb t st o=.val v)(hr:RepW B F st w)(hT:TmRep F t a):
  (execOp a.eval o).run P w=.ok (.value (v.den F)) w/\v.ok F:=by
 unfold Ew at h;split at h
 ·rename_i v' hv;simp only[NS.val.injEq]at h;subst h
  exact⟨E9 ht hT.eval hT.wf hv w,Fb hT.wf hv⟩
 ·split at h
  ·rename_i hro;have hrd:=aew ht hr hT o hro;split at h
   ·rename_i v' st' he
    rw[he]at hrd
    simp only[NS.val.injEq]at h;subst h
    exact⟨hrd.2.2,hrd.2.1⟩
   all_goals simp_all
  ·cases h
include ht in
theorem ady{B:Base}{F:Env}{st:St}{w:World}{ops:Array Oper}{t:Tm}{a:Act}{o:Oper}{v:SV}(h:Ey P tb ops.toList t st o=.val v)(hr:RepW B F st w)(hT:TmRep F t a):
  YieldsAt P ops o (v.den F) a w/\v.ok F:=by
 have hw:=zB (ops:=ops) hT o;unfold Ey at h;split at h
 ·rename_i hq
  rw[hq]at hw
  obtain⟨h1,h2⟩:=adx ht h hr hT
  exact⟨.inl ⟨hw,h1⟩,h2⟩
 ·rename_i hq
  rw[hq]at hw
  simp only[NS.val.injEq]at h;subst h
  exact⟨.inr ⟨hw,by rfl⟩,gu F⟩
 ·cases h
 ·split at h
  ·rename_i b hb;have hb':=dv ht.facts hr.pc hb;split at h
   ·rename_i hbw
    have:=oG hbw;obtain⟨h1,h2⟩:=adx ht h hr hT
    exact⟨.inl ⟨by simp_all,h1⟩,h2⟩
   ·rename_i hbw
    have:=Cw hbw
    simp only[NS.val.injEq]at h;subst h
    exact⟨.inr ⟨by simp_all,by rfl⟩,gu F⟩
  ·cases h
theorem aEX{a a':Act}{x:Operand}(h:∀t,x=.tmp t->a'.tmps[t]?=a.tmps[t]?):a'.eval x=a.eval x:=by
 cases x with
 |tmp t=>simp only[Act.eval,Array.getD_eq_getD_getElem?,h t _]
 |_=>rfl
theorem aaD{ops:Array Oper}{a a':Act}(o:Oper)(hs:∀cs b,o.op≠.select cs b)(h:∀t∈o.looksAt ops,a'.tmps[t]?=a.tmps[t]?):execOp a'.eval o=execOp a.eval o:=
 execOp_congr o hs fun x hx=>aEX fun t ht=>h t (List.mem_append_left _ (List.mem_filterMap.2 ⟨.tmp t,by simp_all,rfl⟩))
theorem ags{ops:Array Oper}{a a':Act}(o:Oper)(h:∀t∈o.looksAt ops,a'.tmps[t]?=a.tmps[t]?):Region.wanted o (yielded ops a'.tmps)=Region.wanted o (yielded ops a.tmps):=by
 unfold Region.wanted;cases hg:o.guard with
 |none=>rfl
 |some gw=>
  obtain⟨g,want⟩:=gw
  have:yielded ops a'.tmps g=yielded ops a.tmps g:=by
   unfold yielded;cases hd:(ops[g]?).bind _ with
   |none=>rfl
   |some d=>
    simp_all[Oper.looksAt]
  simp_all
theorem YieldsAt.agree{ops:Array Oper}{o:Oper}{v:Value}{a a':Act}{w:World}(hy:YieldsAt P ops o v a w)(hs:∀cs b,o.op≠.select cs b)(h:∀t∈o.looksAt ops,a'.tmps[t]?=a.tmps[t]?):YieldsAt P ops o v a' w:=by
 unfold YieldsAt at *
 rw[aaD o hs h,ags o h];omega
theorem YieldsAt.wpOp{ops:Array Oper}{i:Nat}{o:Oper}{v:Value}{a:Act}{w:World}{K:Act->World->Prop}{Q:Exit->Act->World->Prop}(hi:ops[i]?=some o)(hy:YieldsAt P ops o v a w)(h:K (a.put o.dst v) w):wpOp P ops Q i K a w:=by
 unfold Go.wpOp;rcases hy with⟨hw,hv⟩|⟨hw,rfl⟩
 all_goals simp_all[Oper.wp,Oper.upon_value]
theorem aLY{ops:Array Oper}{j:Nat}{o:Oper}(hj:ops[j]?=some o)(hs:∀cs b,o.op≠.select cs b){L:Act->World->Prop}{Kc Kr:Act->World->Prop}{a a':Act}{w:World}
  (hag:∀t∈o.looksAt ops,a'.tmps[t]?=a.tmps[t]?)(hdf:∀b w',Kc b w'->b.defers=[])(hd0:a'.defers=a.defers)
  (hput:∀u w',Kc (a.put o.dst u) w'->Kr (a'.put o.dst u) w')
  (h:if Region.wanted o (yielded ops a.tmps)then o.wp P a w Kc (d5 L)else Kc (a.put o.dst undef) w):wpOp P ops (d5 L) j Kr a' w:=by
 unfold wpOp;simp only[hj]
 rw[ags o hag]
 split
 ·rename_i hw
  rw[if_pos hw]at h
  left;unfold Oper.wp at *
  rw[aaD o hs hag]
  generalize (execOp _ o).run P w=r at *;cases r with
  |ok n w'=>
   cases n<;>simp only[Oper.upon]at h ⊢;case value u=>simp_all
   case skip=>simp_all
   case defer d=>
    have:=hdf _ _ h
    cases hdst:o.dst<;>simp[hdst,Act.put]at this
   case enter f args=>
    refine h.mono ?_;intro e w'' he;cases e with
    |returned u=>simp_all
    |panicked c=>exact he
    |outgrown=>omega
   grind[Rows.mono]
  |halt x w'=>cases x<;>simp only[Oper.upon]at h ⊢ <;> exact h
 simp_all
theorem Kh(m:Nat)(t:Nat):∀(cs:List Nat)(j r:Nat),(xD m cs j r).testBit t=true->r.testBit t=true\/∃k c,cs[k]?=some c/\m.testBit (j+k)=true/\c.testBit t=true
 |[],j,r,h=>.inl h
 |c::cs,j,r,h=>by
  simp only[xD]at h;split at h
  ·rename_i hb;rcases Kh m t cs _ _ h with h'|⟨k,c',h1,h2,h3⟩
   ·rw[km,Bool.or_eq_true]at h'
    rcases h' with h'|h'
    ·exact .inr ⟨0,c,rfl,hb,h'⟩
    simp_all
   ·exact .inr ⟨k+1,c',by simp_all,by grind,h3⟩
  ·rcases Kh m t cs _ _ h with h'|⟨k,c',h1,h2,h3⟩
   ·simp_all
   ·exact .inr ⟨k+1,c',by simpa using h1,by rw[<- h2];congr 1;omega,h3⟩
def rP(infos:List Info)(clos:List Nat):Prop:=∀(i c:Nat),clos[i]?=some c->∃m,infos[i]?=some m/\∀t,c.testBit t=true->m.wait.testBit t=true\/∃k c',k<i/\clos[k]?=some c'/\m.wait.testBit k=true/\c'.testBit t=true
theorem ZQ(infos:List Info):∀(ms:List Info)(acc:List Nat),(∀k,ms[k]?=infos[acc.length+k]?)->rP infos acc->rP infos (CL ms acc)
 |[],acc,_,h=>h
 |m::ms,acc,hm,h=>by
  simp only[CL,hJ];have h0:infos[acc.length]?=some m:=by simpa using (hm 0).symm
  refine ZQ infos ms _ (fun k=>?_) ?_
  ·have:=hm (k+1)
   grind
  ·intro i c hc;rcases Nat.lt_or_ge i acc.length with hi|hi
   ·rw[List.getElem?_append_left hi]at hc
    obtain⟨m',h1,h2⟩:=h i c hc
    refine⟨m',h1,fun t ht=>?_⟩
    rcases h2 t ht with h3|⟨k,c',k1,k2,k3,k4⟩
    ·simp_all
    ·exact .inr ⟨k,c',k1,by grind,k3,k4⟩
   grind[List.getElem?_append_right,Nat.lt_or_ge,List.getElem?_eq_none,Kh,List.getElem?_eq_some_iff,List.getElem?_append_left]
def zZ(infos:List Info)(r:Nat):Prop:=∀i m,infos[i]?=some m->r.testBit i=true->∀j,m.wait.testBit j=true->r.testBit j=true
theorem ZP{infos:List Info}{clos:List Nat}(hg:rP infos clos){r:Nat}(hd:zZ infos r):∀(i c:Nat)(m:Info),clos[i]?=some c->infos[i]?=some m->(∀j,m.wait.testBit j=true->r.testBit j=true)->∀t,c.testBit t=true->r.testBit t=true:=by
 intro i;induction i using Nat.strongRecOn with
 |_ i ih=>
  intro c m hc hm hw t ht
  obtain⟨m',h1,h2⟩:=hg i c hc
  rw[hm]at h1
  simp only[Option.some.injEq]at h1;subst h1;rcases h2 t ht with h3|⟨k,c',k1,k2,k3,k4⟩
  ·simp_all
  ·obtain⟨mk,g1,_⟩:=hg k c' k2
   exact ih k k1 c' mk k2 g1 (hd k mk g1 (hw k k3)) t k4
theorem Ko(dst t:Nat):∀(ms:List Info)(j r:Nat),r.testBit t=true->(mQ dst ms j r).testBit t=true
 |[],j,r,h=>h
 |m::ms,j,r,h=>by
  simp only[mQ];split
  ·exact Ko _ t ms _ _ h
  ·exact Ko _ t ms _ _ (by simp_all)
theorem Kn(dst t:Nat):∀(ms:List Info)(j r:Nat)(k:Nat)(m:Info),ms[k]?=some m->j+k=t->Nat.beq (Nat.land dst (Nat.lor m.reads m.dst)) 0=false->(mQ dst ms j r).testBit t=true
 |[],j,r,k,m,h,_,_=>by simp at h
 |x::ms,j,r,k,m,h,e,hb=>by
  simp only[mQ];cases k with
  |zero=>
   simp_all[Ko]
  |succ k=>
   have h':ms[k]?=some m:=by simp_all
   split
   ·exact Kn _ t ms _ _ k m h' (by omega) hb
   ·exact Kn _ t ms _ _ k m h' (by omega) hb
end
end Go.SX

namespace Go.SX
section
variable {P:Program} {tb:Tab} (ht:TabOk P tb) (hng:∀(f:Nat)(fn:Func),P.funcs[f]? =some fn->(fn.name == "runtime.NumGoroutine")=false)
structure AtNode (infos:List Info) (n listed used:Nat):Prop where
 down:zZ infos listed
 lt:∀i,listed.testBit i=true->i<n
 used:∀i m,infos[i]?=some m->listed.testBit i=true->∀t,(m.reads.testBit t=true\/m.dst.testBit t=true)->used.testBit t=true
structure Behind (P:Program) (ops:Array Oper) (listed neu real:Nat) (a a':Act) (w:World):Prop where
 sub:∀i,real.testBit i=true->listed.testBit i=true
 down:zZ (aU ops.toList ops.toList) real
 neu:∀i,listed.testBit i=true->real.testBit i=false->neu.testBit i=true
 yields:∀i o,ops[i]?=some o->listed.testBit i=true->real.testBit i=false->∃v,YieldsAt P ops o v a w/\∀d,o.dst=some d->d<a.tmps.size->a.tmps[d]?=some v
 conf:∀i j oi oj,ops[i]?=some oi->ops[j]?=some oj->listed.testBit i=true->real.testBit i=false->listed.testBit j=true->real.testBit j=false->
  ∀d,oj.dst=some d->(d∈oi.looksAt ops\/(i≠j/\oi.dst=some d))->i≠j/\(bU ops.toList oi).wait.testBit j=true
 size:a'.tmps.size=a.tmps.size
 tmps:∀s,(∀i o,ops[i]?=some o->listed.testBit i=true->real.testBit i=false->o.dst≠some s)->a'.tmps[s]?=a.tmps[s]?
 defers:a'.defers=a.defers
theorem uD(a:Act)(d:Option Tmp)(v:Value):(a.put d v).tmps.size=a.tmps.size:=by cases d<;>simp[Act.put]
theorem Ff(a:Act)(d:Option Tmp)(v:Value):(a.put d v).defers=a.defers:=by cases d<;>rfl
theorem uC(a:Act){d:Option Tmp}(v:Value){s:Nat}(h:d≠some s):(a.put d v).tmps[s]?=a.tmps[s]?:=by
 cases d with
 |none=>rfl
 |some d=>
  simp_all[Act.put]
theorem Fg(a:Act){d:Nat}(v:Value)(h:d<a.tmps.size):(a.put (some d) v).tmps[d]?=some v:=by
 simp[Act.put,h]
theorem MR(a:Act){d:Nat}(v:Value)(h:¬d<a.tmps.size):(a.put (some d) v).tmps[d]?=none:=by
 simp_all[Act.put]
theorem aC0(a b t:Nat):(andNot a b).testBit t=(a.testBit t && !b.testBit t):=by
 unfold andNot;have h1:(Nat.xor a _).testBit t=((a.testBit t) ^^ (Nat.land a b).testBit t):=Nat.testBit_xor a _ t;grind[tS]
theorem yB{ops:Array Oper}:∀(l:List Oper)(k:Nat),iP (aU ops.toList l) k=true->(∀j,l[j]?=ops[k+j]?)->
  ∀i j x y,k<=i->i<j->ops[i]?=some x->ops[j]?=some y->(bU ops.toList y).wait.testBit i=true\/x.apart ops y=true
 |[],k,_,hl,i,j,x,y,hki,_,hx,_=>by
  have:=hl (i-k)
  simp_all
 |o::l,k,h,hl,i,j,x,y,hki,hij,hx,hy=>by
  have h0:=by simpa using (hl 0).symm
  have hl':∀j,l[j]?=ops[k+1+j]?:=fun j=>by have:=hl (j+1);grind
  simp only[aU,iP]at h;split at h
  ·split at h
   ·rename_i hrest;by_cases e:i=k
    ·subst e
     rw[h0]at hx;cases hx
     by_cases hw:(bU ops.toList y).wait.testBit i=true
     ·simp_all
     ·right;have hlj:=hl' (j-(i+1))
      rw[show i+1+(j-(i+1))=j by omega,hy]at hlj
      refine LQ _ l hrest _ y hlj ?_;intro e' he hb hon;exact hw ((nW _ _).2 ⟨e',by simp_all,hb,hon⟩)
    ·exact yB l _ h hl' i j x y (by omega) hij hx hy
   ·cases h
  ·cases h
theorem ab3{ops:Array Oper}:∀(l:List Oper)(k:Nat),iP (aU ops.toList l) k=true->(∀j,l[j]?=ops[k+j]?)->
  ∀i x,k<=i->ops[i]?=some x->∀t,(bU ops.toList x).wait.testBit t=true->t<i
 |[],k,_,hl,i,x,hki,hx=>by
  have:=hl (i-k)
  simp_all
 |o::l,k,h,hl,i,x,hki,hx=>by
  have h0:=by simpa using (hl 0).symm
  have hl':∀j,l[j]?=ops[k+1+j]?:=fun j=>by have:=hl (j+1);grind
  simp only[aU,iP]at h;split at h
  ·split at h
   ·by_cases e:i=k
    ·grind[Zq]
    ·exact ab3 l _ h hl' i x (by omega) hx
   ·cases h
  ·cases h
def pz(n r:Nat):Nat:=(List.range n).countP fun i=>!r.testBit i
theorem agm{n r i:Nat}(hi:i<n)(h:r.testBit i=false):pz n (Nat.lor (Nat.pow 2 i) r)<pz n r:=by
 unfold pz;have hsplit:List.range n=(List.range n).take i++i::(List.range n).drop (i+1):=by
  grind[List.take_append_drop,List.drop_eq_getElem_cons]
 have hle:∀l:List _,l.countP (fun j=>!(Nat.lor (Nat.pow 2 i) r).testBit j)<=l.countP (fun j=>!r.testBit j):=by
  simp_all[List.countP_mono_left]
 have e1:(!(Nat.lor (Nat.pow 2 i) r).testBit i)=false:=by simp_all
 grind
theorem aLP{n r:Nat}(h:pz n r=0):∀i,i<n->r.testBit i=true:=by
 simp_all[pz]
def yK(n r:Nat):Array Bool:=(Array.range n).map fun i=>r.testBit i
theorem ach{n r:Nat}(h:∀i,r.testBit i=true->i<n):MaskOk n r (yK n r):=by
 refine⟨by simp[yK],fun j=>?_⟩
 simp only[yK,Array.getD_eq_getD_getElem?];grind
theorem nM{ops:Array Oper}{r:Nat}{lst:Array Bool}(hm:MaskOk ops.size r lst){j:Nat}:j∈Region.ready .any ops lst↔r.testBit j=false/\∃o,ops[j]?=some o/\∀t,(bU ops.toList o).wait.testBit t=true->r.testBit t=true:=by
 rw[mem_ready]
 constructor
 ·rintro⟨h1,o,ho,hall⟩
  rw[lu (by grind),hm.2]at h1
  refine⟨h1,o,ho,fun t ht=>?_⟩
  obtain⟨e,he,hb,rfl⟩:=(nW _ _).1 ht
  have:=hall e (by simp_all) hb
  rwa [hm.2]at this
 ·rintro⟨h1,o,ho,hall⟩
  have hlt:=(Array.getElem?_eq_some_iff.1 ho).1
  refine⟨by rw[lu (by rw[hm.1];omega),hm.2];omega,o,ho,fun e he hb=>?_⟩
  rw[hm.2]
  exact hall _ ((nW _ _).2 ⟨e,by simp_all,hb,rfl⟩)
theorem qU{ops:Array Oper}{i:Nat}{o:Oper}(h:ops[i]?=some o):(aU ops.toList ops.toList)[i]?=some (bU ops.toList o):=by
 simp_all[Lr]
theorem DG{ops:Array Oper}{i:Nat}{m:Info}(h:(aU ops.toList ops.toList)[i]?=some m):∃o,ops[i]?=some o/\m=bU ops.toList o:=by
 grind[Lr]
theorem Behind.advance{ops:Array Oper}{listed used neu real:Nat}{a a':Act}{w:World}(hb:Behind P ops listed neu real a a' w)(hs:∀(j:Nat)(o:Oper) cs b,ops[j]?=some o->o.op≠.select cs b)
  (hlex:iP (aU ops.toList ops.toList) 0=true)(hnode:AtNode (aU ops.toList ops.toList) ops.size listed used)
  {k:Nat}{o:Oper}{v:Value}(hk:ops[k]?=some o)(hkl:listed.testBit k=false)
  (hy:YieldsAt P ops o v a w)(hself:∀d,o.dst=some d->d∉o.looksAt ops)
  (hconf:∀i oi,ops[i]?=some oi->listed.testBit i=true->real.testBit i=false->∀d,o.dst=some d->d∉oi.looksAt ops/\oi.dst≠some d):
  Behind P ops (Nat.lor (Nat.pow 2 k) listed) (Nat.lor (Nat.pow 2 k) neu) real (a.put o.dst v) a' w:=by
 have hbit:∀i,(Nat.lor (Nat.pow 2 k) listed).testBit i=true->i=k\/listed.testBit i=true:=by
  intro i h
  rw[km,uz,Bool.or_eq_true,decide_eq_true_eq]at h
  grind
 refine⟨fun i hi=>?_,hb.down,fun i h1 h2=>?_,fun i oi hoi h1 h2=>?_,fun i j oi oj hoi hoj h1 h2 h3 h4 d hd hor=>?_,by rw[uD];exact hb.size,fun s hsl=>?_,by rw[Ff];exact hb.defers⟩
 ·rw[km,hb.sub i hi];simp
 ·rw[km]
  rcases hbit i h1 with rfl|h
  ·simp_all
  ·rw[hb.neu i h h2];simp
 ·by_cases e:i=k
  ·subst e
   rw[hk]at hoi;cases hoi
   refine⟨v,hy.agree (hs i o · · hk) fun t ht=>?_,fun d hd hlt=>?_⟩
   all_goals grind[uC,uD,Fg]
  ·have hli:listed.testBit i=true:=(hbit i h1).resolve_left e
   obtain⟨u,hu1,hu2⟩:=hb.yields i oi hoi hli h2
   refine⟨u,hu1.agree (hs i oi · · hoi) fun t ht=>?_,fun d hd hlt=>?_⟩
   all_goals grind[uC,uD]
 ·by_cases ei:i=k
  ·subst ei
   rw[hk]at hoi;cases hoi
   by_cases ej:j=i
   ·simp_all
   ·have hlj:listed.testBit j=true:=(hbit j h3).resolve_left ej
    refine⟨fun e=>ej e.symm,?_⟩
    rcases Nat.lt_trichotomy j i with hji|hji|hji
    ·rcases yB ops.toList 0 hlex (fun j=>by simp) j i oj o (Nat.zero_le _) hji hoj hk with hw | hap
     all_goals grind[Oper.apart_spec,absurd]
    ·omega
    ·rcases yB ops.toList 0 hlex (fun j=>by simp) i j o oj (Nat.zero_le _) hji hk hoj with hw | hap
     ·have:=hnode.down j _ (qU hoj) hlj i hw
      simp_all
     grind[Oper.apart_spec,absurd]
  ·have hli:listed.testBit i=true:=(hbit i h1).resolve_left ei;by_cases ej:j=k
   ·grind
   ·exact hb.conf i j oi oj hoi hoj hli h2 ((hbit j h3).resolve_left ej) h4 d hd hor
 ·have hne:o.dst≠some s:=hsl k o hk (by simp_all) (by
   cases hr:real.testBit k with
   |false=>rfl
   |true=>rw[hb.sub k hr]at hkl;omega)
  rw[uC _ _ hne]
  exact hb.tmps s fun i oi hoi h1 h2=>hsl i oi hoi (by simp_all) h2
theorem Behind.catch{ops:Array Oper}{listed neu real:Nat}{a a':Act}{w:World}(hb:Behind P ops listed neu real a a' w)(hs:∀(j:Nat)(o:Oper) cs b,ops[j]?=some o->o.op≠.select cs b)
  {j:Nat}{o:Oper}(hj:ops[j]?=some o)(hl:listed.testBit j=true)(hr:real.testBit j=false)(hw:∀t,(bU ops.toList o).wait.testBit t=true->real.testBit t=true):
  ∃v,YieldsAt P ops o v a' w/\Behind P ops listed neu (Nat.lor (Nat.pow 2 j) real) a (a'.put o.dst v) w:=by
 obtain⟨v,hv1,hv2⟩:=hb.yields j o hj hl hr
 have hbit:∀i,(Nat.lor (Nat.pow 2 j) real).testBit i=true↔i=j\/real.testBit i=true:=by
  intro i
  rw[km,uz,Bool.or_eq_true,decide_eq_true_eq]
  grind
 have hnb:∀i,(Nat.lor (Nat.pow 2 j) real).testBit i=false->i≠j/\real.testBit i=false:=by
  grind
 refine⟨v,hv1.agree (hs j o · · hj) fun t ht=>hb.tmps t fun i oi hoi h1 h2 hd=>?_,fun i hi=>?_,fun i m hm hi t ht=>?_,fun i h1 h2=>hb.neu i h1 (hnb i h2).2,fun i oi hoi h1 h2=>hb.yields i oi hoi h1 (hnb i h2).2,
  fun i k oi ok hoi hok h1 h2 h3 h4=>hb.conf i k oi ok hoi hok h1 (hnb i h2).2 h3 (hnb k h4).2,by rw[uD];exact hb.size,fun s hsl=>?_,by rw[Ff];exact hb.defers⟩
 ·obtain⟨hne,hwt⟩:=hb.conf j i o oi hj hoi hl hr h1 h2 t hd (.inl ht)
  simp_all
 ·rcases (hbit i).1 hi with rfl|h
  ·omega
  ·exact hb.sub i h
 ·rcases (hbit i).1 hi with rfl|h
  ·obtain⟨o',ho',rfl⟩:=DG hm
   simp_all
  ·exact(hbit t).2 (.inr (hb.down i m hm h t ht))
 ·by_cases hd:o.dst=some s
  ·rw[hd]
   by_cases hlt:s<a.tmps.size
   ·rw[Fg _ _ (by rw[hb.size];omega),hv2 s hd hlt]
   ·rw[MR _ _ (by rw[hb.size];omega)]
    simp_all
  ·rw[uC _ _ hd]
   refine hb.tmps s fun i oi hoi h1 h2=>?_
   grind
end
end Go.SX

namespace Go.SX
section
variable {P:Program} {tb:Tab} (ht:TabOk P tb) (hng:∀(f:Nat)(fn:Func),P.funcs[f]? =some fn->(fn.name == "runtime.NumGoroutine")=false)
theorem nH(k listed i:Nat):(Nat.lor (Nat.pow 2 k) listed).testBit i=true↔i=k\/listed.testBit i=true:=by
 rw[km,uz,Bool.or_eq_true,decide_eq_true_eq]
 grind
theorem AtNode.next{ops:Array Oper}{listed used:Nat}(h:AtNode (aU ops.toList ops.toList) ops.size listed used){k:Nat}{o:Oper}(hk:ops[k]?=some o)
  (hw:∀t,(bU ops.toList o).wait.testBit t=true->listed.testBit t=true):
  AtNode (aU ops.toList ops.toList) ops.size (Nat.lor (Nat.pow 2 k) listed) (Nat.lor (Nat.lor (bU ops.toList o).reads (bU ops.toList o).dst) used):=by
 refine⟨fun i m hm hi j hj=>?_,fun i hi=>?_,fun i m hm hi t ht=>?_⟩
 ·rw[nH]at hi ⊢
  rcases hi with rfl|hi
  ·obtain⟨o',ho',rfl⟩:=DG hm
   simp_all
  ·exact .inr (h.down i m hm hi j hj)
 ·rcases (nH _ _ _).1 hi with rfl|hi
  ·grind
  ·exact h.lt i hi
 ·rw[km,km]
  rcases (nH _ _ _).1 hi with rfl|hi
  ·obtain⟨o',ho',rfl⟩:=DG hm
   simp_all
  ·rw[h.used i m hm hi t ht];simp
def z8(P:Program)(ops:Array Oper)(K:Act->World->Prop)(listed neu:Nat)(a:Act)(w:World):Prop:=
 ∀(fuel real:Nat)(lst:Array Bool)(a':Act),MaskOk ops.size real lst->Behind P ops listed neu real a a' w->pz ops.size real<=fuel->wpAny P .any ops (d5 K) fuel lst a' w
theorem aez{ops:Array Oper}(hlex:iP (aU ops.toList ops.toList) 0=true){r:Nat}{lst:Array Bool}(hm:MaskOk ops.size r lst)(h:Region.ready .any ops lst=[]):∀i,i<ops.size->r.testBit i=true:=by
 intro i;induction i using Nat.strongRecOn with
 |_ i ih=>
  intro hi;cases hb:r.testBit i with
  |true=>rfl
  |false=>
   have:i∈Region.ready .any ops lst:=by
    rw[nM hm]
    have ho:=Array.getElem?_eq_getElem hi
    refine⟨hb,_,ho,fun t ht=>?_⟩
    have hlt:=ab3 _ 0 hlex (fun j=>by simp) i _ (Nat.zero_le _) ho t ht;grind
   simp_all
theorem Le{ops:Array Oper}(hsel:∀(j:Nat)(o:Oper) cs b,ops[j]?=some o->o.op≠.select cs b)(hlex:iP (aU ops.toList ops.toList) 0=true)
  {K:Act->World->Prop}{listed neu:Nat}{a:Act}{w:World}
  (hend:∀real lst a',MaskOk ops.size real lst->Behind P ops listed neu real a a' w->(∀i,i<ops.size->real.testBit i=true)->K a' w)
  (hstep:∀fuel real lst a',MaskOk ops.size real lst->Behind P ops listed neu real a a' w->pz ops.size real<=fuel+1->∀j,j∈Region.ready .any ops lst->listed.testBit j=false->
   wpOp P ops (d5 K) j (wpAny P .any ops (d5 K) fuel (lst.setIfInBounds j true)) a' w):z8 P ops K listed neu a w:=by
 intro fuel;induction fuel with
 |zero=>
  intro real lst a' hm hb hu;have hall:=aLP (n:=ops.size) (r:=real) (by omega)
  refine⟨?_,hend _ _ a' hm hb hall⟩
  cases hr:Region.ready _ _ _ with
  |nil=>rfl
  |cons j js=>
   have hj:j∈Region.ready .any ops lst:=by simp_all
   obtain⟨h1,o,ho,_⟩:=(nM hm).1 hj
   grind
 |succ fuel ih=>
  intro real lst a' hm hb hu
  refine⟨fun hr=>hend _ _ a' hm hb (aez hlex hm hr),fun j hj=>?_⟩
  obtain⟨h1,o,ho,hw⟩:=(nM hm).1 hj
  have hlt:=(Array.getElem?_eq_some_iff.1 ho).1;cases hl:listed.testBit j with
  |false=>grind
  |true=>
   obtain⟨v,hv,hb'⟩:=hb.catch hsel ho hl h1 hw
   refine hv.wpOp ho (ih _ _ _ (hm.set hlt) hb' ?_)
   have:=agm hlt h1
   omega
theorem Y7(cs:Nat)(clos:List Nat):∀(rs:List (Nat×Oper×Info)),Ce cs clos rs=true->∀j o m,(j,o,m)∈rs->∃c,clos[j]?=some c/\∀t,cs.testBit t=true->c.testBit t=true
 |[],_,j,o,m,h=>by cases h
 |(i,o',m')::rs,h,j,o,m,hm=>by
  simp only[Ce]at h;split at h
  ·rename_i c hc
   rw[dr]at hc
   split at h
   ·cases hm with
    |head=>
     grind[tS,Nat.eq_of_beq_eq_true]
    |tail _ hm=>exact Y7 cs _ rs h j o m hm
   ·cases h
  ·cases h
theorem aEu{ops:Array Oper}{clos:List Nat}(hgood:rP (aU ops.toList ops.toList) clos){listed used:Nat}(hnode:AtNode (aU ops.toList ops.toList) ops.size listed used)
  {o:Oper}(h:Kp ops.toList (aU ops.toList ops.toList) clos listed used (bU ops.toList o)=true):(∀d,o.dst=some d->d∉o.looksAt ops)/\
  ∀ {real:Nat} {lst:Array Bool},MaskOk ops.size real lst->(∀i,real.testBit i=true->listed.testBit i=true)->zZ (aU ops.toList ops.toList) real->∀j,j∈Region.ready .any ops lst->listed.testBit j=false->
   ∀i oi,ops[i]?=some oi->listed.testBit i=true->real.testBit i=false->∀d,o.dst=some d->d∉oi.looksAt ops/\oi.dst≠some d:=by
 have hdst:∀d,o.dst=some d->(bU ops.toList o).dst.testBit d=true:=fun d hd=>(oE _ _).2 hd
 have hself:Nat.beq (Nat.land (bU ops.toList o).dst (bU ops.toList o).reads) 0=true->∀d,o.dst=some d->d∉o.looksAt ops:=by
  intro hz d hd hm;exact tT hz d ⟨hdst d hd,(uE _ _ _).2 hm⟩
 unfold Kp at h;split at h
 ·rename_i hz;have hz':∀t,¬((bU ops.toList o).dst.testBit t=true/\((bU ops.toList o).reads.testBit t=true\/used.testBit t=true)):=by
   rintro t ⟨h1,h2⟩
   refine tT hz t ⟨h1,?_⟩;simp_all
  refine⟨fun d hd hm=>hz' d ⟨hdst d hd,.inl ((uE _ _ _).2 hm)⟩,?_⟩
  intro real lst hm hsub hdown j hj hjl i oi hoi h1 h2 d hd
  refine⟨fun hmem=>hz' d ⟨hdst d hd,.inr (hnode.used i _ (qU hoi) h1 d (.inl ((uE _ _ _).2 hmem)))⟩,fun he=>hz' d ⟨hdst d hd,.inr (hnode.used i _ (qU hoi) h1 d (.inr ((oE _ _).2 he)))⟩⟩
 ·rw[Bool.and_eq_true]at h
  obtain⟨hz,hall⟩:=h
  refine⟨hself hz,?_⟩
  intro real lst hm hsub hdown j hj hjl i oi hoi h1 h2 d hd
  obtain⟨hr,oj,hoj,hw⟩:=(nM hm).1 hj
  have harr:=ach hnode.lt;have hj':=(nM harr).2 ⟨hjl,oj,hoj,fun t ht=>hsub t (hw t ht)⟩
  obtain⟨oj',ho',hmem⟩:=uF harr ops.toList 0 (fun j=>by simp) j (Nat.zero_le _) hj'
  obtain⟨c,hc,hcs⟩:=Y7 _ _ _ hall j _ _ hmem
  have key:(mQ (bU ops.toList o).dst (aU ops.toList ops.toList) 0 0).testBit i=true->False:=by
   intro hcf;have h3:(Nat.land (mQ (bU ops.toList o).dst (aU ops.toList ops.toList) 0 0) listed).testBit i=true:=by simp_all
   have h4:=hcs i h3;have h5:=ZP hgood hdown j c _ hc (qU hoj) hw i h4;simp_all
  have hnz:((bU ops.toList oi).reads.testBit d=true\/(bU ops.toList oi).dst.testBit d=true)->False:=by
   intro hx;refine key (Kn _ i _ 0 0 i _ (qU hoi) (by omega) ?_);cases hb:Nat.beq _ 0 with
   |false=>rfl
   |true=>
    exfalso;refine tT hb d ⟨hdst d hd,?_⟩;simp_all
  exact⟨fun hmem=>hnz (.inl ((uE _ _ _).2 hmem)),fun he=>hnz (.inr ((oE _ _).2 he))⟩
include ht in
theorem Ka{ops:Array Oper}(hsel:∀(j:Nat)(o:Oper) cs b,ops[j]?=some o->o.op≠.select cs b)(hlex:iP (aU ops.toList ops.toList) 0=true){clos:List Nat}(hgood:rP (aU ops.toList ops.toList) clos)
  {K:Act->World->Prop}{B:Base}{F:Env}{st:St}{w:World}(hr:RepW B F st w){os:List Out}{kk:Nat->Nat->Nat->Tm->Option E->aQ}
  (hend:∀listed used neu t pend a,kk listed used neu t pend=some os->AtNode (aU ops.toList ops.toList) ops.size listed used->TmRep F t a->z8 P ops K listed neu a w):
  ∀(l:List Oper)(i:Nat),(∀j,l[j]?=ops[i+j]?)->∀(listed used neu:Nat)(t:Tm)(a:Act),ll P tb ops.toList (aU ops.toList ops.toList) clos st l (aU ops.toList l) i listed used neu t kk=some os->
   AtNode (aU ops.toList ops.toList) ops.size listed used->TmRep F t a->z8 P ops K listed neu a w
 |[],i,hl,listed,used,neu,t,a,h,hnode,hT=>by
  grind[ll]
 |o::l,i,hl,listed,used,neu,t,a,h,hnode,hT=>by
  have h0:=by simpa using (hl 0).symm
  have hl':∀j,l[j]?=ops[i+1+j]?:=fun j=>by have:=hl (j+1);grind
  have skip:=Ka hsel hlex hgood hr hend l _ hl' listed used neu t a;simp only[aU,ll]at h;split at h
  ·simp_all
  ·rename_i hbit;split at h
   ·split at h
    ·rename_i v hv;split at h
     ·rename_i hconf
      rw[iW,hJ,hJ,hJ]at h
      obtain⟨hy,hvk⟩:=ady (P:=P) (ops:=ops) ht hv hr hT
      have hwait:∀t,(bU ops.toList o).wait.testBit t=true->listed.testBit t=true:=by
       grind[tS,Nat.eq_of_beq_eq_true]
      obtain⟨hself,hcf⟩:=aEu hgood hnode hconf
      have hnext:=Ka hsel hlex hgood hr hend l _ hl' _ _ _ _ _ h (hnode.next h0 hwait) (hT.put _ _ hvk);have hlt:=(Array.getElem?_eq_some_iff.1 h0).1;refine Le hsel hlex (fun real lst a' hm hb hall=>?_) (fun fuel real lst a' hm hb hu j hj hjl=>?_)
      ·have:=hb.sub i (hall i hlt)
       simp_all
      ·have hb':=hb.advance hsel hlex hnode h0 hbit hy hself (hcf hm hb.sub hb.down j hj hjl)
       exact(hnext _ _ _ a' hm hb' hu).2 j hj
     simp_all
    all_goals grind
   simp_all
theorem ZD{rec:bR}{ops:Array Oper}{clos:List Nat}{listed used neu:Nat}{t:Tm}{st:St}{ih:Nat->Nat->Nat->Tm->St->aQ}:∀(rs:List (Nat×Oper×Info))(os:List Out),
  CE P tb rec ops.toList (aU ops.toList ops.toList) clos listed used neu t st ih rs=some os->∀i o m,(i,o,m)∈rs->∃c os',clos[i]?=some c/\(∀x∈os',x∈os)/\
   pu P tb rec ops.toList o t st (fun t' st'=>match pk P tb ops.toList t' st' (andNot neu c) ops.toList 0 with
    |true=>ih (Nat.lor (Nat.pow 2 i) listed) (Nat.lor (Nat.lor m.reads m.dst) used) (andNot neu c) t' st'
    |false=>none)=some os'
 |[],os,h,i,o,m,hm=>by cases hm
 |(i',o',m')::rs,os,h,i,o,m,hm=>by
  simp only[CE]at h;split at h
  ·rename_i c hc
   rw[dr]at hc
   split at h
   ·split at h
    ·rename_i os2 h2;simp only[Option.some.injEq]at h;subst h;cases hm with
     |head=>
      grind[hJ]
     |tail _ hm=>
      obtain⟨c',os',k1,k2,k3⟩:=ZD rs _ h2 i o m hm
      simp_all
    ·cases h
   ·cases h
  ·cases h
include ht in
theorem aeA{B:Base}{F:Env}{st:St}{w:World}{ops:Array Oper}{t:Tm}{a:Act}{neu:Nat}(hr:RepW B F st w)(hT:TmRep F t a):∀(l:List Oper)(i:Nat),(∀j,l[j]?=ops[i+j]?)->pk P tb ops.toList t st neu l i=true->
  ∀k o,i<=k->ops[k]?=some o->neu.testBit k=true->∃v,YieldsAt P ops o v a w/\∀d,o.dst=some d->d<a.tmps.size->a.tmps[d]?=some v
 |[],i,hl,h,k,o,hik,hk,hn=>by
  have:=hl (k-i)
  simp_all
 |x::l,i,hl,h,k,o,hik,hk,hn=>by
  have h0:=by simpa using (hl 0).symm
  have hl':∀j,l[j]?=ops[i+1+j]?:=fun j=>by have:=hl (j+1);grind
  simp only[pk]at h;by_cases e:k=i
  ·subst e
   rw[h0]at hk;cases hk
   rw[hn]at h
   simp only at h;split at h
   ·rename_i v hv
    obtain⟨hy,_⟩:=ady (P:=P) (ops:=ops) ht hv hr hT
    refine⟨_,hy,fun d hd hlt=>?_⟩
    rw[hd]at h
    simp only at h;split at h
    ·rename_i u hu;split at h
     ·rename_i hb
      rw[Bool.and_eq_true]at hb
      have:=SV.beq_eq _ _ hb.2
      subst this;exact hT.at hu (by grind[SV.isJunk])
     ·cases h
    ·cases h
   ·cases h
  ·refine aeA hr hT l _ hl' ?_ k o (by omega) hk hn;grind
include ht hng in
theorem aEd{ops:Array Oper}(hsel:∀(j:Nat)(o:Oper) cs b,ops[j]?=some o->o.op≠.select cs b)(hlex:iP (aU ops.toList ops.toList) 0=true){clos:List Nat}(hgood:rP (aU ops.toList ops.toList) clos)
  {q:Nat}{rec:bR}(hrec:RunOk P tb q rec){K:Act->World->Prop}{B:Base}{F0:Env}{k:d7}{os0:List Out}(hK:ContRes B F0 K k os0):
  ∀(n listed used neu:Nat)(t:Tm)(st:St)(os:List Out),td P tb rec ops.toList (aU ops.toList ops.toList) clos k n listed used neu t st=some os->(∀x∈os,x∈os0)->
   ∀(F:Env)(a:Act)(w:World),F0.Ext F->RepW B F st w->TmRep F t a->AtNode (aU ops.toList ops.toList) ops.size listed used->z8 P ops K listed neu a w:=by
 intro n;induction n with
 |zero=>intro listed used neu t st os h;cases h
 |succ n ih=>
  intro listed used neu t st os h hsub F a w he hr hT hnode;have h':ll P tb ops.toList (aU ops.toList ops.toList) clos st ops.toList (aU ops.toList ops.toList) 0 listed used neu t (fun listed used neu tmps pend=>match pend with
   |some e=>fQ (td P tb rec ops.toList (aU ops.toList ops.toList) clos k n listed used neu tmps {st with pc:=e::st.pc}) (td P tb rec ops.toList (aU ops.toList ops.toList) clos k n listed used neu tmps {st with pc:=bc e::st.pc})
   |none=>J9 P tb rec ops.toList (aU ops.toList ops.toList) clos listed used neu tmps st k (td P tb rec ops.toList (aU ops.toList ops.toList) clos k n))=some os:=h
  clear h;refine Ka ht hsel hlex hgood hr ?_ ops.toList 0 (fun j=>by simp) listed used neu t a h' hnode hT;clear h' hnode hT listed used neu t a;intro listed used neu t pend a h hnode hT;cases pend with
  |some e=>
   obtain⟨l,m,h1,h2,h3,h4⟩:=lz h
   by_cases hb:e.B F=true
   ·exact ih _ _ _ _ _ _ h1 (fun x hx=>hsub x (h3 x hx)) F a w he (hr.assume hb) hT hnode
   ·exact ih _ _ _ _ _ _ h2 (fun x hx=>hsub x (h4 x hx)) F a w he (hr.assume (by simp_all[gh])) hT hnode
  |none=>
   simp only[J9]at h;have harr:=ach hnode.lt;split at h
   ·rename_i hrd;have hall:∀i,i<ops.size->listed.testBit i=true:=by
     refine aez hlex harr ?_;cases hx:Region.ready .any ops (yK ops.size listed)with
     |nil=>rfl
     |cons j js=>
      obtain⟨o,_,hmem⟩:=uF harr ops.toList 0 (fun j=>by simp) j (Nat.zero_le _) (by simp_all)
      simp_all
    refine Le hsel hlex (fun real lst a' hm hb hreal=>?_) (fun fuel real lst a' hm hb hu j hj hjl=>?_)
    ·have hsame:a'=a:=by
      have h1:a'.tmps=a.tmps:=by
       refine Array.ext (hb.size) fun i h1 h2=>?_
       have:=hb.tmps i fun k o ho hl hr'=>by
        grind
       simp_all
      have h2:=hb.defers;cases a;cases a';simp_all
     rw[hsame]
     exact hK t st F a w os h hsub he hr hT
    ·obtain⟨_,o,ho,_⟩:=(nM hm).1 hj
     grind
   ·rename_i hrd;refine Le hsel hlex (fun real lst a' hm hb hreal=>?_) (fun fuel real lst a' hm hb hu j hj hjl=>?_)
    ·exfalso;cases hx:fo listed ops.toList (aU ops.toList ops.toList) 0 with
     |nil=>simp_all
     |cons y ys=>
      obtain⟨i,o,m⟩:=y
      have hi:=readyFrom_conv' harr ops.toList 0 (fun j=>by simp) i o m (by simp_all)
      obtain⟨h1,o',ho',_⟩:=(nM harr).1 hi
      rw[hb.sub i (hreal i (Array.getElem?_eq_some_iff.1 ho').1)]at h1
      cases h1
    ·obtain⟨hrj,o,ho,hw⟩:=(nM hm).1 hj
     have hlt:=(Array.getElem?_eq_some_iff.1 ho).1;have hj':j∈Region.ready .any ops (yK ops.size listed):=(nM harr).2 ⟨hjl,o,ho,fun t ht=>hb.sub t (hw t ht)⟩
     obtain⟨o',ho',hmem⟩:=uF harr ops.toList 0 (fun j=>by simp) j (Nat.zero_le _) hj'
     rw[ho]at ho';cases ho'
     obtain⟨c,os',hc,hos',hst⟩:=ZD _ _ h j o _ hmem
     have hsop:=Nu (P:=P) ht hng hrec hst hr hT (B:=B) (K:=fun b w2=>∃F2 t2 st2 os2,pk P tb ops.toList t2 st2 (andNot neu c) ops.toList 0=true/\
       td P tb rec ops.toList (aU ops.toList ops.toList) clos k n (Nat.lor (Nat.pow 2 j) listed) (Nat.lor (Nat.lor (bU ops.toList o).reads (bU ops.toList o).dst) used) (andNot neu c) t2 st2=some os2/\(∀x∈os2,x∈os0)/\
       F0.Ext F2/\RepW B F2 st2 w2/\TmRep F2 t2 b) (by
      intro t2 st2 F2 b w2 os2 e1 e2 e3 e4 e5;dsimp only at e1;split at e1
      ·rename_i hrc
       exact⟨F2,t2,st2,os2,hrc,e1,fun x hx=>hsub x (hos' x (e2 x hx)),he.trans e3,e4,e5⟩
      simp_all) (d5 K)
     have hnoD:∀i oi,ops[i]?=some oi->listed.testBit i=true->real.testBit i=false->∀d,oi.dst=some d->d∉o.looksAt ops:=by
      intro i oi hoi h1 h2 d hd hmem;rcases Nat.lt_trichotomy i j with hij|hij|hij
      ·rcases yB ops.toList 0 hlex (fun j=>by simp) i j oi o (Nat.zero_le _) hij hoi ho with hwt | hap
       all_goals grind[Oper.apart_spec]
      ·simp_all
      ·rcases yB ops.toList 0 hlex (fun j=>by simp) j i o oi (Nat.zero_le _) hij ho hoi with hwt | hap
       ·rw[hnode.down i _ (qU hoi) h1 j hwt]at hjl;cases hjl
       grind[Oper.apart_spec]
     refine aLY ho (hsel j o · · ho) (fun s hs=>hb.tmps s fun i oi hoi h1 h2 hd=>hnoD i oi hoi h1 h2 s hd hs) (fun b w' hx=>by
      obtain⟨F2,t2,st2,os2,_,_,_,_,_,hT2⟩:=hx;exact hT2.1) hb.defers ?_ hsop
     rintro u w2 ⟨F2,t2,st2,os2,hrc,hgo,hsub2,he2,hr2,hT2⟩
     have hw':∀t,(bU ops.toList o).wait.testBit t=true->listed.testBit t=true:=fun t ht=>hb.sub t (hw t ht)
     have hclo:=ZP hgood hb.down j c _ hc (qU ho) hw;have hbit:∀i,(Nat.lor (Nat.pow 2 j) real).testBit i=false->i≠j/\real.testBit i=false:=by
      grind[nH]
     have hold:∀i,(Nat.lor (Nat.pow 2 j) listed).testBit i=true->(Nat.lor (Nat.pow 2 j) real).testBit i=false->listed.testBit i=true/\real.testBit i=false:=by
      grind[nH]
     have hneu:∀i,listed.testBit i=true->real.testBit i=false->(andNot neu c).testBit i=true:=by
      intro i h1 h2
      rw[aC0,hb.neu i h1 h2]
      grind
     have hb2:Behind P ops (Nat.lor (Nat.pow 2 j) listed) (andNot neu c) (Nat.lor (Nat.pow 2 j) real) (a.put o.dst u) (a'.put o.dst u) w2:=by
      refine⟨fun i hi=>?_,fun i m hm' hi t ht'=>?_,fun i h1 h2=>?_,fun i oi hoi h1 h2=>?_,fun i i' oi oi' hoi hoi' h1 h2 h3 h4=>?_,by rw[uD,uD];exact hb.size,fun s hs=>?_,by rw[Ff,Ff];exact hb.defers⟩
      ·rw[nH]at hi ⊢
       exact hi.imp id (hb.sub i)
      ·rw[nH]at hi ⊢
       rcases hi with rfl|hi
       ·obtain⟨o2,ho2,rfl⟩:=DG hm'
        simp_all
       ·exact .inr (hb.down i m hm' hi t ht')
      ·simp_all
      ·obtain⟨k1,k2⟩:=hold i h1 h2
       exact aeA ht hr2 hT2 ops.toList 0 (fun j=>by simp) hrc i oi (Nat.zero_le _) hoi (hneu i k1 k2)
      ·obtain⟨k1,k2⟩:=hold i h1 h2
       obtain⟨k3,k4⟩:=hold i' h3 h4
       exact hb.conf i i' oi oi' hoi hoi' k1 k2 k3 k4
      ·by_cases hd:o.dst=some s
       ·rw[hd]
        by_cases hlt':s<a.tmps.size
        ·rw[Fg _ _ hlt',Fg _ _ (by rw[hb.size];omega)]
        ·rw[MR _ _ hlt',MR _ _ (by rw[hb.size];omega)]
       ·rw[uC _ _ hd,uC _ _ hd]
        refine hb.tmps s fun i oi hoi h1 h2=>hs i oi hoi ((nH _ _ _).2 (.inr h1)) ?_
        cases hx:(Nat.lor (Nat.pow 2 j) real).testBit i with
        |false=>rfl
        |true=>
         rcases (nH _ _ _).1 hx with rfl|hx
         all_goals simp_all
     refine ih _ _ _ _ _ _ hgo hsub2 F2 _ w2 he2 hr2 hT2 (hnode.next ho hw') fuel _ _ _ (hm.set hlt) hb2 ?_
     have:=agm hlt hrj
     omega
where
 readyFrom_conv' {ops:Array Oper} {m:Nat} {listed:Array Bool} (hm:MaskOk ops.size m listed):∀(l:List Oper)(k:Nat),(∀j,l[j]?=ops[k+j]?)->
   ∀i o inf,(i,o,inf)∈fo m l (aU ops.toList l) k->i∈Region.ready .any ops listed
  |[],k,hl,i,o,inf,h=>by simp[aU,fo]at h
  |o::l,k,hl,i,o',inf,h=>by
   have h0:ops[k]?=some o:=by simpa using (hl 0).symm
   have ih:=readyFrom_conv' hm l (k+1) (fun j=>by have:=hl (j+1);grind) i o' inf;simp only[aU,fo]at h;split at h
   ·exact ih h
   ·rename_i hbit;split at h
    ·rename_i hw;cases h with
     |head=>
      have hlt:k<ops.size:=(Array.getElem?_eq_some_iff.1 h0).1;refine mem_ready.2 ⟨?_,o,h0,(Gk hm).1 hw⟩
      rw[lu (by rw[hm.1];omega),hm.2];omega
     |tail _ h=>exact ih h
    simp_all
end
end Go.SX

namespace Go.SX
section
variable {P:Program} {tb:Tab} (ht:TabOk P tb) (hnat:∀x∈tb.nats,aR P x) (hng:∀(f:Nat)(fn:Func),P.funcs[f]? =some fn->(fn.name == "runtime.NumGoroutine")=false)
def Passes(P:Program)(ops:Array Oper)(m n:Nat)(t:Tm)(m' n':Nat)(t':Tm):Prop:=
 ∀(L:Act->World->Prop)(F:Env)(a:Act)(lst:Array Bool)(w:World),TmRep F t a->MaskOk ops.size m lst->
  (∀a' lst',TmRep F t' a'->MaskOk ops.size m' lst'->wpAny P .any ops (d5 L) n' lst' a' w)->wpAny P .any ops (d5 L) n lst a w
theorem Passes.refl(ops:Array Oper)(m n:Nat)(t:Tm):Passes P ops m n t m n t:=fun L F a lst w h1 h2 h3=>h3 a _ h1 h2
theorem Passes.trans{ops:Array Oper}{m n m' n' m'' n'':Nat}{t t' t'':Tm}(h:Passes P ops m n t m' n' t')(k:Passes P ops m' n' t' m'' n'' t''):Passes P ops m n t m'' n'' t'':=
 fun L F a lst w h1 h2 h3=>h L F a _ w h1 h2 fun a' lst' h4 h5=>k L F a' _ w h4 h5 h3
theorem adD{ops:Array Oper}(hs:ik ops.toList=true):∀(j:Nat)(o:Oper) cs b,ops[j]?=some o->o.op≠.select cs b:=
 fun j o cs b h=>Mi _ hs j o cs b (by simp_all)
theorem ad1{ops:Array Oper}(hs:ik ops.toList=true){i m n:Nat}{o:Oper}{t:Tm}{v:SV}(hi:ops[i]?=some o)(hbit:m.testBit i=false)
  (hw:Nat.beq (Nat.land (bU ops.toList o).wait m) (bU ops.toList o).wait=true)(hf:lr m i (bU ops.toList o) (aU ops.toList ops.toList) 0=true)
  (hy:∀(F:Env)(a:Act),TmRep F t a->YieldsP P ops o (v.den F) a)(hvk:∀(F:Env)(a:Act),TmRep F t a->v.ok F):
  Passes P ops m (n+1) t (Nat.lor (Nat.pow 2 i) m) n (match o.dst with | none=>t | some d=>t.set d v):=by
 intro L F a lst w h1 h2 h3;have hlt:=(Array.getElem?_eq_some_iff.1 hi).1;refine aLV hi (adD hs) n _ a w (fun j oj=>?_) ?_ (hy F a h1) ?_
 ·exact aaX h2 _ 0 (fun j=>by simp) hf j oj (Nat.zero_le j)
 ·refine mem_ready.2 ⟨?_,o,hi,(Gk h2).1 hw⟩
  rw[lu (by rw[h2.1];omega),h2.2];omega
 ·exact h3 _ _ (h1.put _ _ (hvk F a h1)) (h2.set hlt)
include ht in
theorem aem{O:Type}{ops:Array Oper}(hs:ik ops.toList=true):∀(l:List Oper)(i m n:Nat)(t:Tm)(k:Nat->Nat->Tm->O),(∀j,l[j]?=ops[i+j]?)->
  ∃m' n' t',kr P tb ops.toList (aU ops.toList ops.toList) l (aU ops.toList l) i m n t k=k m' n' t'/\Passes P ops m n t m' n' t'
 |[],i,m,n,t,k,hl=>⟨m,n,t,by rfl,Passes.refl _ _ _ _⟩
 |o::l,i,m,n,t,k,hl=>by
  have h0:=by simpa using (hl 0).symm
  have hl':∀j,l[j]?=ops[i+1+j]?:=fun j=>by have:=hl (j+1);grind
  have next:=fun m n t=>aem hs l _ m n t k hl'
  simp only[aU,kr];split
  ·simp_all
  ·rename_i hbit;split
   ·rename_i hw;cases n with
    |zero=>exact⟨m,0,t,rfl,Passes.refl _ _ _ _⟩
    |succ n=>
     simp only;split
     ·rename_i hq;split
      ·rename_i v hv;split
       ·rename_i hf
        rw[iW,hJ]
        obtain⟨m',n',t',h1,h2⟩:=next _ n _
        refine⟨m',n',t',h1,(ad1 hs h0 hbit hw hf ?_ (fun F a hT=>Fb hT.wf hv)).trans h2⟩
        intro F a hT;have hwant:=zB (ops:=ops) hT o
        rw[hq]at hwant
        exact .inl ⟨hwant,fun w=>E9 ht hT.eval hT.wf hv w⟩
       simp_all
      simp_all
     ·rename_i hq;split
      ·rename_i hf
       rw[iW,hJ]
       obtain⟨m',n',t',h1,h2⟩:=next _ n _
       refine⟨m',n',t',h1,(ad1 hs h0 hbit hw hf ?_ (fun F _ _=>gu F)).trans h2⟩
       intro F a hT;have hwant:=zB (ops:=ops) hT o
       rw[hq]at hwant
       exact .inr ⟨hwant,rfl⟩
      simp_all
     simp_all
   simp_all
include ht in
theorem NQ{ops:Array Oper}(hs:ik ops.toList=true)(m n:Nat):∀(os:List Out)(acc:List Node),
  (∀x∈acc,x∈nU P tb ops.toList (aU ops.toList ops.toList) m n os acc)/\
  (∀o∈os,∃x∈nU P tb ops.toList (aU ops.toList ops.toList) m n os acc,x.st=o.st/\Passes P ops m n o.tmps x.listed x.left x.tmps)
 |[],acc=>⟨fun x hx=>hx,fun o ho=>by cases ho⟩
 |o::os,acc=>by
  simp only[nU]
  obtain⟨m',n',t',h1,h2⟩:=aem (P:=P) ht hs ops.toList 0 m n o.tmps (fun listed left tmps=>
   nU P tb ops.toList (aU ops.toList ops.toList) m n os (uB acc ⟨listed,left,tmps,o.st⟩)) (fun j=>by simp)
  have hmem:⟨m',n',t',o.st⟩∈uB acc ⟨m',n',t',o.st⟩/\∀x∈acc,x∈uB acc ⟨m',n',t',o.st⟩:=by
   grind[uB,abf]
  obtain⟨i1,i2⟩:=NQ hs m n os (uB acc ⟨m',n',t',o.st⟩)
  grind
include ht in
theorem aag{rec:bR}{ops:Array Oper}(hs:ik ops.toList=true){x:Node}{n:Nat}:∀(rs:List (Nat×Oper×Info))(acc res:List Node),
  xK P tb rec ops.toList (aU ops.toList ops.toList) x n rs acc=some res->(∀y∈acc,y∈res)/\
  (∀i o inf,(i,o,inf)∈rs->∃os,pu P tb rec ops.toList o x.tmps x.st qB=some os/\
   ∀o'∈os,∃y∈res,y.st=o'.st/\Passes P ops (Nat.lor (Nat.pow 2 i) x.listed) n o'.tmps y.listed y.left y.tmps)
 |[],acc,res,h=>by
  simp_all[xK]
 |(i,o,inf)::rs,acc,res,h=>by
  simp only[xK]at h;split at h
  ·rename_i os hos
   rw[hJ]at h
   obtain⟨h1,h2⟩:=aag hs rs _ _ h
   obtain⟨k1,k2⟩:=NQ (P:=P) ht hs (Nat.lor (Nat.pow 2 i) x.listed) n os acc
   grind
  ·cases h
def axj(P:Program)(tb:Tab)(rec:bR)(ops:Array Oper)(k:d7)(next:List Node)(os:List Out)(x:Node):Prop:=
 (fo x.listed ops.toList (aU ops.toList ops.toList) 0=[]/\∃os',k x.tmps x.st=some os'/\∀y∈os',y∈os)\/
 (fo x.listed ops.toList (aU ops.toList ops.toList) 0≠[]/\∃n,x.left=n+1/\
  ∀i o inf,(i,o,inf)∈fo x.listed ops.toList (aU ops.toList ops.toList) 0->∃os,pu P tb rec ops.toList o x.tmps x.st qB=some os/\
   ∀o'∈os,∃y∈next,y.st=o'.st/\Passes P ops (Nat.lor (Nat.pow 2 i) x.listed) n o'.tmps y.listed y.left y.tmps)
include ht in
theorem Nt{rec:bR}{ops:Array Oper}(hs:ik ops.toList=true){k:d7}:∀(l acc next:List Node)(os:List Out),
  zt P tb rec ops.toList (aU ops.toList ops.toList) k l acc=some (next,os)->(∀y∈acc,y∈next)/\∀x∈l,axj P tb rec ops k next os x
 |[],acc,next,os,h=>by
  obtain⟨rfl,rfl⟩:=h
  exact⟨fun y hy=>hy,fun x hx=>by cases hx⟩
 |x::l,acc,next,os,h=>by
  simp only[zt]at h;split at h
  ·rename_i hr;split at h
   ·rename_i os1 hk;split at h
    ·rename_i acc' more hm
     obtain⟨rfl,rfl⟩:=h
     obtain⟨h1,h2⟩:=Nt hs l _ _ _ hm
     refine⟨h1,fun y hy=>?_⟩
     cases hy with
     |head=>exact .inl ⟨hr,os1,hk,fun z hz=>List.mem_append.2 (.inl hz)⟩
     |tail _ hy=>
      rcases h2 y hy with⟨e1,os',e2,e3⟩|h3
      ·exact .inl ⟨e1,os',e2,fun z hz=>List.mem_append.2 (.inr (e3 z hz))⟩
      ·exact .inr h3
    ·cases h
   ·cases h
  ·rename_i hr;split at h
   ·cases h
   ·rename_i n hn;split at h
    ·rename_i acc' he
     obtain⟨h1,h2⟩:=Nt hs l _ _ _ h
     obtain⟨k1,k2⟩:=aag (P:=P) ht hs _ _ _ he
     refine⟨fun y hy=>h1 y (k1 y hy),fun y hy=>?_⟩
     cases hy with
     |head=>
      refine .inr ⟨hr,n,hn,fun i o inf hm=>?_⟩;grind
     |tail _ hy=>exact h2 y hy
    ·cases h
theorem aey{ops:Array Oper}{m:Nat}{listed:Array Bool}(hm:MaskOk ops.size m listed):∀(l:List Oper)(k:Nat),(∀j,l[j]?=ops[k+j]?)->
  ∀i o inf,(i,o,inf)∈fo m l (aU ops.toList l) k->i∈Region.ready .any ops listed
 |[],k,hl,i,o,inf,h=>by simp[fo]at h
 |o::l,k,hl,i,o',inf,h=>by
  have h0:=by simpa using (hl 0).symm
  have ih:=aey hm l (k+1) (fun j=>by have:=hl (j+1);grind) i o' inf;simp only[aU,fo]at h;split at h
  ·exact ih h
  ·split at h
   ·rename_i hw;cases h with
    |head=>
     have hlt:=(Array.getElem?_eq_some_iff.1 h0).1;refine mem_ready.2 ⟨?_,o,h0,(Gk hm).1 hw⟩
     rw[lu (by rw[hm.1];omega),hm.2];omega
    |tail _ h=>exact ih h
   simp_all
include ht hng in
theorem aJY{n:Nat}{rec:bR}(hrec:RunOk P tb n rec){ops:Array Oper}(hs:ik ops.toList=true){l:List Node}{t:Tm}{st:St}{k:Out->aQ}{os:List Out}
  (h:Ns P tb rec ops.toList (aU ops.toList ops.toList) l t st k=some os)
  {B:Base}{F:Env}{K:Act->World->Prop}(hK:ContRes B F K (fun t st=>k ⟨.normal,t,st⟩) os):
  ∀x∈l,∀(F':Env)(listed:Array Bool)(a:Act)(w:World),F.Ext F'->RepW B F' x.st w->TmRep F' x.tmps a->MaskOk ops.size x.listed listed->wpAny P .any ops (d5 K) x.left listed a w:=by
 unfold Ns at h;split at h
 ·rename_i next os1 hn
  obtain⟨_,hnodes⟩:=Nt (P:=P) ht hs _ _ _ _ hn
  have hos1:∀y∈os1,y∈os:=by
   grind
  have hnext:∀x∈next,∀(F':Env)(listed:Array Bool)(a:Act)(w:World),F.Ext F'->RepW B F' x.st w->TmRep F' x.tmps a->MaskOk ops.size x.listed listed->wpAny P .any ops (d5 K) x.left listed a w:=by
   split at h
   ·simp_all
   ·split at h
    ·rename_i more hm;simp only[Option.some.injEq]at h;intro x hx F' listed a w h1 h2 h3 h4;exact hrec.layer ops hs _ _ _ _ _ hm B F K (hK.sub (fun y hy=>by grind)) x hx F' listed a w h1 h2 h3 h4.1 h4.2
    ·cases h
  intro x hx F' listed a w h1 h2 h3 h4;rcases hnodes x hx with⟨hr,os',hk,hsub⟩|⟨hr,m,hm,hall⟩
  ·have hready:Region.ready .any ops listed=[]:=by
    cases hrd:Region.ready .any ops listed with
    |nil=>rfl
    |cons j js=>
     obtain⟨o,_,ho⟩:=uF h4 ops.toList 0 (fun j=>by simp) j (Nat.zero_le _) (by simp_all)
     simp_all
   have hq:d5 K .normal a w:=hK x.tmps x.st F' a w os' hk (fun y hy=>hos1 y (hsub y hy)) h1 h2 h3;cases x.left with
   |zero=>exact⟨hready,hq⟩
   |succ q=>exact⟨fun _=>hq,fun i hi=>by simp_all⟩
  ·rw[hm]
   refine⟨fun h0=>?_,fun i hi=>?_⟩
   ·exfalso;cases hrd:fo x.listed ops.toList (aU ops.toList ops.toList) 0 with
    |nil=>simp_all
    |cons q qs=>
     obtain⟨i,o,inf⟩:=q
     have:=aey h4 ops.toList 0 (fun j=>by simp) i o inf (by simp_all)
     simp_all
   ·obtain⟨o,ho,hmem⟩:=uF h4 ops.toList 0 (fun j=>by simp) i (Nat.zero_le _) hi
    obtain⟨os',hst,hres⟩:=hall i o _ hmem
    have hlt:i<ops.size:=(Array.getElem?_eq_some_iff.1 ho).1
    have:=Nu (P:=P) ht hng hrec hst h2 h3 (K:=fun a' w'=>wpAny P .any ops (d5 K) m (listed.setIfInBounds i true) a' w') (by
     intro t' st' F2 a2 w2 os2 e1 e2 e3 e4 e5;simp only[qB,Option.some.injEq]at e1
     obtain⟨y,hy,f1,f2⟩:=hres ⟨.normal,t',st'⟩ (e2 _ (by grind))
     refine f2 K F2 a2 _ w2 e5 (h4.set hlt) ?_;intro a3 lst3 g1 g2;exact hnext y hy F2 lst3 a3 w2 (h1.trans e3) (by simp_all) g1 g2) (d5 K)
    grind[wpOp]
 ·cases h
theorem aLW{ops:Array Oper}{K K':Act->World->Prop}(hk:∀a w,K a w->K' a w):∀ {fuel:Nat} {lst:Array Bool} {a:Act} {w:World},wpAny P .any ops (d5 K) fuel lst a w->wpAny P .any ops (d5 K') fuel lst a w:=by
 intro h;exact wpAny_monoQ h
where
 wpAny_monoQ {fuel:Nat} {lst:Array _} {a:Act} {w:World} (h:wpAny P _ _ (d5 K) fuel lst a w):wpAny P .any ops (d5 K') fuel lst a w:=by
  induction fuel generalizing lst a w with
  |zero=>exact⟨h.1,hk _ _ h.2⟩
  |succ fuel ih=>
   refine⟨fun hr=>hk _ _ (h.1 hr),fun i hi=>?_⟩
   have h2:=h.2 i hi;unfold wpOp at h2 ⊢;split
   ·simp_all
   ·rename_i o ho
    rw[ho]at h2
    simp only at h2;split
    ·rename_i hw
     rw[if_pos hw]at h2
     rcases h2 with h2|h2
     ·left;unfold Oper.wp at *;generalize (execOp _ o).run P w=r at *;cases r with
      |ok n w'=>
       cases n<;>simp only[Oper.upon]at h2 ⊢;case value u=>simp_all
       case skip=>simp_all
       case defer d=>simp_all
       case enter f args=>
        refine h2.mono ?_;intro e w'' he;cases e with
        |returned u=>simp_all
        |panicked c=>exact he
        |outgrown=>exact he
       grind[Rows.mono]
      |halt x w'=>cases x<;>simp only[Oper.upon]at h2 ⊢ <;> exact h2
     ·obtain⟨_,_,_,h'⟩:=h2
      exact h'.elim
    simp_all
theorem aeK{B:Base}{F:Env}{Q:Exit->Act->World->Prop}{k:Out->aQ}{os:List Out}(hK:CodeRes B F Q k os):∀(l:List (Tm×St))(os':List Out),MY k l=some os'->(∀y∈os',y∈os)->
  ∀x∈l,∀(F2:Env)(a:Act)(w:World),F.Ext F2->RepW B F2 x.2 w->TmRep F2 x.1 a->Q .normal a w
 |[],os',h,hs,x,hx=>by cases hx
 |y::ys,os',h,hs,x,hx=>by
  intro F2 a w he hr hT
  obtain⟨l1,l2,h1,h2,h3,h4⟩:=lz h
  cases hx with
  |head=>exact hK _ _ _ _ _ h1 (fun z hz=>hs z (h3 z hz)) he hr hT
  |tail _ hm=>exact aeK hK ys l2 h2 (fun z hz=>hs z (h4 z hz)) x hm _ a w he hr hT
include ht hnat hng in
theorem aJX(hmix:P.follows .mixedOrders=true){n:Nat}{rec:bR}(hrec:RunOk P tb n rec){ops:Array Oper}{t:Tm}{st:St}{k:Out->aQ}{os:List Out}
  (h:No P tb rec ops.toList ops.size t st k=some os)
  {B:Base}{F:Env}{a:Act}{w:World}{Q:Exit->Act->World->Prop}(hr:RepW B F st w)(hT:TmRep F t a)(hK:CodeRes B F Q k os)(id:Nat):(Code.region id ops true).wp P Q a w:=by
 unfold No at h;split at h
 ·rename_i hs;have hlayer:rec (.layer ops.toList (aU ops.toList ops.toList) (nU P tb ops.toList (aU ops.toList ops.toList) 0 ops.size [⟨.normal,t,st⟩] [])) t st k=some os->
    (Code.region id ops true).wp P Q a w:=by
   intro hl;have hq:(Code.region id ops true).wp P (d5 (fun a w=>Q .normal a w)) a w:=by
    refine wp_region_any hmix ?_
    obtain⟨_,h2⟩:=NQ (P:=P) ht hs 0 _ [⟨.normal,t,st⟩] []
    obtain⟨x,hx,e1,e2⟩:=h2 ⟨.normal,t,st⟩ (by simp)
    refine e2 _ F a _ _ hT ⟨by simp,fun j=>?_⟩ ?_
    ·simp[Array.getD_eq_getD_getElem?];grind
    ·intro a' lst' g1 g2;refine hrec.layer _ hs _ _ _ _ _ hl B F _ ?_ x hx F _ a' _ (Env.Ext.refl F) (by rw[e1];exact hr.drew) g1 g2.1 g2.2;exact fun t st F' a' w' os' h1 h2 h3 h4 h5=>hK _ _ _ _ _ h1 h2 h3 h4 h5
   refine Go.wp_mono hq (fun e a w he=>?_);cases e<;>first | exact he | exact he.elim
  split at h
  ·rename_i hlex;split at h
   ·-- one order
    rename_i outs ho;have hraw:Fj outs=[]:=rfl;have hfull:=aEd (P:=P) ht hng (adD hs) hlex (ZQ _ _ [] (fun k=>by simp) (fun i c h=>by simp at h)) hrec (K:=fun a w=>∃o∈outs,∃F',F.Ext F'/\RepW B F' o.st w/\TmRep F' o.tmps a) (B:=B) (F0:=F) (k:=qB) (os0:=outs)
     (fun t st F' a' w' os' h1 h2 h3 h4 h5=>by
      simp only[qB]at h1
      exact⟨⟨.normal,t,st⟩,h2 _ (by grind),F',h3,h4,h5⟩) _ 0 0 0 t st _ ho (fun x hx=>hx) F a _ (Env.Ext.refl F) hr.drew hT
     ⟨fun i m _ hi=>by simp at hi,fun i hi=>by simp at hi,fun i m _ hi=>by simp at hi⟩
    have hq:(Code.region id ops true).wp P (d5 (fun a w=>Q .normal a w)) a w:=by
     refine wp_region_any hmix (aLW ?_ (hfull _ 0 _ a ⟨by simp,fun j=>?_⟩ ?_ ?_))
     ·rintro a' w' ⟨o,hom,F',k1,k2,k3⟩
      obtain⟨x,hx,F2,g1,g2,g3⟩:=(ack ht.facts hr.nv hr.nb _ []).2 o hom _ a' w' k1 k2 k3
      grind[aeK]
     ·simp[Array.getD_eq_getD_getElem?];grind
     ·exact⟨fun i hi=>hi,fun i m _ hi=>by simp at hi,fun i hi=>by simp at hi,fun i o _ hi=>by simp at hi,fun i j oi oj _ _ hi=>by simp at hi,rfl,fun s _=>rfl,rfl⟩
     simp_all[pz]
    refine Go.wp_mono hq (fun e a w he=>?_);cases e<;>first | exact he | exact he.elim
   ·split at h
    ·rename_i t' hq;refine wp_region_any hmix (wpAny_of_quiet (C:=fun w'=>RepW B F st w') (Q:=fun a'=>TmRep F t' a') ?_ _ _ _ _ hr.drew ?_)
     ·intro a' w' hw' ha';exact hK _ _ _ _ _ h (fun x hx=>hx) (Env.Ext.refl F) hw' ha'
     ·have:=aes (P:=P) (C:=fun w'=>RepW B F st w') (Q:=fun a'=>TmRep F t' a') hs _ 0 (Array.replicate ops.size false) a (fun j=>by simp) ⟨by simp,fun j=>by
       simp[Array.getD_eq_getD_getElem?];grind⟩ hlex (Fh ht hnat hng hrec hr _ hq hT)
      omega
    ·rename_i e hq
     obtain⟨l,m,h1,h2,h3,h4⟩:=lz h
     by_cases hb:e.B F=true
     ·exact hrec.draw _ id _ _ _ _ h1 B F a w Q (hr.assume hb) hT (hK.sub h3)
     ·exact hrec.draw _ id _ _ _ _ h2 B F a w Q (hr.assume (by simp_all[gh])) hT (hK.sub h4)
    simp_all
  simp_all
 ·cases h
include ht hnat hng in
theorem aeN(hmix:P.follows .mixedOrders=true)(hloop:∀x∈tb.anns,fB P x):∀n,RunOk P tb n (run P tb n)
 |0=>by
  constructor<;>(simp_all[run])
 |n+1=>by
  have ih:=aeN hmix hloop n;constructor
  ·intro g c t st k os hof h B F a w Q hr hT hK;exact aJW ht hnat hng hloop ih hof h hr hT hK
  ·intro g c t st k os hof h B F a w Q hr hT hK;exact aJ0 ih hof h hr hT hK
  ·intro g args t st k os h B F w R hr hao hK;exact aJT ht hnat ih h hr hao hK
  ·intro ops id t st k os h B F a w Q hr hT hK;exact aJX ht hnat hng hmix ih h hr hT hK id
  ·intro ops hs l t st k os h B F K hK x hx F' listed a w h1 h2 h3 h4 h5;exact aJY ht hng ih hs h hK x hx _ _ a w h1 h2 h3 ⟨h4,h5⟩
end
end Go.SX

namespace Go.SX
noncomputable section
theorem Y4{G:Type}(l:List G)(i:Nat)(x:G)(h:(T.adds (T.nil:T G) 0 l).get i=some x):l[i]?=some x:=by
 rcases T.get_adds l 0 _ i x h with⟨_,h1⟩|⟨h1,_⟩|⟨h1,_⟩
 ·omega
 ·omega
 ·cases h1
def zx(P:Program):Tab:=⟨T.adds T.nil 0 P.types.toList,T.adds T.nil 0 P.funcs.toList,[],[],[]⟩
def Tab.plus(tb:Tab)(facts:List E)(anns:List Ann)(nats:List Nat1):Tab:=⟨tb.ty,tb.fn,facts,anns,nats⟩
theorem NW{O:Type}(P:Program)(k:Tab->O):lQ P k=k (zx P):=by
 unfold lQ
 rw[T.addsK_eq,T.addsK_eq];rfl
theorem agb(P:Program):TabOk P (zx P):=
 ⟨fun t i h=>by have:=Y4 _ _ _ h;simp_all,fun f fn h=>by have:=Y4 _ _ _ h;simp_all,fun e he=>by cases he⟩
theorem TabOk.plus{P:Program}{tb:Tab}(h:TabOk P tb){facts:List E}(hf:∀e∈facts,∀F,e.B F=true)(anns:List Ann)(nats:List Nat1):TabOk P (tb.plus facts anns nats):=
 ⟨h.ty,h.fn,hf⟩
def kq(P:Program):Bool:=P.funcs.toList.all (fun fn=>!(fn.name == "runtime.NumGoroutine"))&&P.follows .mixedOrders
theorem aHf{P:Program}(h:kq P=true):∀(f:Nat)(fn:Func),P.funcs[f]?=some fn->(fn.name == "runtime.NumGoroutine")=false:=by
 grind[kq]
theorem aHe{P:Program}(h:kq P=true):P.follows .mixedOrders=true:=by
 simp_all[kq]
theorem M1{P:Program}(h:kq P=true){facts:List E}(hf:∀e∈facts,∀F,e.B F=true){anns:List Ann}(ha:∀x∈anns,fB P x){nats:List Nat1}(hn:∀x∈nats,aR P x)(n:Nat):RunOk P ((zx P).plus facts anns nats) n (run P ((zx P).plus facts anns nats) n):=
 aeN ((agb P).plus hf _ _) hn (aHf h) (aHe h) ha n
def one(o:Out):aQ:=some [o]
def qz(p:Out->Bool)(r:aQ):Bool:=
 match r with
 |some l=>l.all p
 |none=>false
theorem aEl{p:Out->Bool}{r:aQ}(h:qz p r=true):∃os,r=some os/\∀o∈os,p o=true:=by
 unfold qz at h;grind
theorem aEc{P:Program}(hP:kq P=true){facts:List E}(hf:∀e∈facts,∀F,e.B F=true){anns:List Ann}(ha:∀x∈anns,fB P x){nats:List Nat1}(hn:∀x∈nats,aR P x){n:Nat}{g:FuncId}{args:List SV}{st:St}{p:Out->Bool}
  (h:lQ P (fun tb=>qz p (run P (tb.plus facts anns nats) n (.call g args) .nil st one))=true)
  {B:Base}{F:Env}{w:World}(hr:RepW B F st w)(hao:SV.oks F args):Calls P g (SV.dens F args).toArray w fun e w'=>∃(o:Out) (F':Env) (v:SV) (l r:T SV),p o=true/\o.tmps=.node v l r/\e=.returned (v.den F')/\F.Ext F'/\RepW B F' o.st w'/\v.ok F':=by
 rw[NW]at h
 obtain⟨os,h1,h2⟩:=aEl h
 refine(M1 hP hf ha hn n).call _ _ _ _ _ _ h1 B F w _ hr hao ?_
 intro o F' w' os' v l r e1 e2 e3 e4 e5 e6;grind[one]
def aaY(w:World):Base:=⟨w,fun _=>none⟩
def Env.at(w:World)(vs:List U):Env:=⟨vs,[],fun r=>w.heap[r]?⟩
theorem E.at_den(w:World)(vs:List U)(e:E):e.den (Env.at w vs)=e.den (Env.of vs):=by
 induction e<;>simp_all only[E.den,Env.at,Env.of]
def rH(n:Nat)(pc:List E):St:=⟨n,0,.nil,pc⟩
theorem RepW.vars(w:World)(vs:List U)(pc:List E)(hpc:∀e∈pc,e.B (Env.of vs)=true):RepW (aaY w) (Env.at w vs) (rH vs.length pc) w:=by
 refine⟨rfl,rfl,fun e he=>?_,fun i b hb=>?_,fun i j a b ha=>?_,(fun i b hb=>by simp[rH,T.get_nil]at hb),fun r o hro=>hro,(fun r o hro=>by cases hro),(fun r o hro=>by cases hro),rfl,rfl,rfl⟩
 all_goals simp_all[E.B,E.at_den,rH,T.get_nil]
theorem RepW.below{w w':World}{vs:List U}{F:Env}{st:St}(h:RepW (aaY w) F st w')(he:(Env.at w vs).Ext F):RowKit.Below w.heap.size w w':=by
 have key:∀k,k<w.heap.size->w'.heap[k]?=w.heap[k]?:=fun k hk=>by
  have h1:=Array.getElem?_eq_getElem hk
  rw[h1]
  exact h.fz k _ (he.fz k _ h1)
 refine⟨h.os,h.tape,h.output,?_,key⟩
 grind
def um(o:Out):Bool:=
 match o.tmps with
 |.node v _ _=>match v with
  |.bool e=>match e with
   |.bool b=>b
   |_=>false
  |_=>false
 |.nil=>false
theorem aGZ{o:Out}{v:SV}{l r:T SV}(h:um o=true)(ho:o.tmps=.node v l r)(F:Env):v.den F=.bool true:=by
 unfold um at h
 rw[ho]at h
 simp only at h;split at h
 ·split at h
  ·subst h;rfl
  ·cases h
 ·cases h
theorem agf{P:Program}(hP:kq P=true){facts:List E}(hf:∀e∈facts,∀F,e.B F=true){anns:List Ann}(ha:∀x∈anns,fB P x){nats:List Nat1}(hn:∀x∈nats,aR P x){n:Nat}{g:FuncId}{args:List SV}{vs:List U}{pc:List E}
  (h:lQ P (fun tb=>qz um (run P (tb.plus facts anns nats) n (.call g args) .nil (rH vs.length pc) one))=true)(hpc:∀e∈pc,e.B (Env.of vs)=true)(w:World)(hao:SV.oks (Env.at w vs) args):
  Calls P g (SV.dens (Env.at w vs) args).toArray w fun e w'=>e=.returned (.bool true)/\RowKit.Below w.heap.size w w':=by
 refine(aEc hP hf ha hn h (RepW.vars w vs pc hpc) hao).mono ?_
 rintro e w' ⟨o,F',v,l,r,h1,h2,h3,h4,h5,_⟩
 exact⟨by grind[aGZ],h5.below h4⟩
end
end Go.SX

namespace Go.SX
noncomputable section
variable (F:Env)
theorem ae7(n:Int):(E.int n).I F=n:=rfl
theorem aHV(i:Nat):(E.var i).I F=(F.vs.getD i (.int 0)).toI:=rfl
theorem aHT(a b:E):(E.mn a b).I F=min (a.I F) (b.I F):=by
 show nu (a.I F) (b.I F)=_;grind[nu]
theorem aHU(a b:E):(E.mx a b).I F=max (a.I F) (b.I F):=by
 show kn (a.I F) (b.I F)=_;grind[kn]
theorem ae5(a b:E):((E.cmp .eql a b).B F=true)=(a.I F=b.I F):=by
 show((a.I F==b.I F)=true)=_
 simp
theorem ae6(a b:E):((E.cmp .lss a b).B F=true)=(a.I F<b.I F):=by
 show((decide (a.I F<b.I F))=true)=_
 simp
theorem bv(a:E):((E.not a).B F=true)=¬(a.B F=true):=by
 simp_all
theorem cz(a b:E):((E.and a b).B F=true)=(a.B F=true/\b.B F=true):=by
 simp_all
theorem aG(a b:E):((E.imp a b).B F=true)=(a.B F=true->b.B F=true):=by
 show((!(a.B F)||b.B F)=true)=_
 grind
theorem bg(a b:E):((E.iff a b).B F=true)=(a.B F=true↔b.B F=true):=by
 simp_all
theorem aFf(x:U)(l:List U)(d:U):(x::l).getD 0 d=x:=rfl
theorem aFe(x:U)(l:List U)(n:Nat)(d:U):(x::l).getD (n+1) d=l.getD n d:=rfl
theorem aLG(n:Int):(U.int n).toI=n:=rfl
theorem aLU{n:Int}(h:(Lit.int .i64 n).wf=true):-9223372036854775808<=n/\n<9223372036854775808:=by
 simp only[Lit.wf,Bool.and_eq_true,decide_eq_true_eq]at h;have h1:-9223372036854775808<=n:=h.1;have h2:n<=9223372036854775807:=h.2;omega
theorem aHa{F:Env}:∀e∈([]:List E),e.B F=true:=by simp_all
theorem aG9{F:Env}{e:E}{l:List E}(h:e.B F=true)(hl:∀e∈l,e.B F=true):∀x∈e::l,x.B F=true:=by simp_all
end
end Go.SX

namespace Go.SX
theorem ab(x:Int):∃s,IntKind.i64.wrap x=s/\(-9223372036854775808<=s/\s<9223372036854775808)/\(-9223372036854775808<=x->x<9223372036854775808->s=x):=by
 refine⟨_,rfl,?_,?_⟩<;>simp only[IntKind.wrap,IntKind.bits,IntKind.signed,Bool.true_and]<;>split<;>simp_all<;>omega
theorem cP{F:Env}(l:E):0<=E.I F (.fn 0 l):=by
 show 0<=((E.L F l).length:Int);omega
theorem aLL{u:U}{ks:List U}(h:U.typ u (.lst ks)=true):U.typs u.toL ks []=true:=by
 cases u<;>simp[U.typ]at h;exact h
theorem all_nil:∀e∈([]:List E),∀F:Env,e.B F=true:=by simp_all
theorem all_cons{e:E}{l:List E}(h:∀F:Env,e.B F=true)(hl:∀x∈l,∀F:Env,x.B F=true):∀x∈e::l,∀F:Env,x.B F=true:=by simp_all
theorem aa:(∀(F:Env)(n:Int),(E.int n).I F=n)/\(∀(F:Env)(a b:E),(E.fn 6 (.pr a b)).I F=a.I F+b.I F)/\(∀(F:Env)(a b:E),(E.fn 7 (.pr a b)).I F=a.I F-b.I F)/\(∀(F:Env)(a b:E),(E.fn 8 (.pr a b)).I F=a.I F*b.I F)/\
  (∀(F:Env)(b:Bool),(E.bool b).B F=b)/\(∀(F:Env)(a b:E),((E.cmp .eql a b).B F=true)=(a.I F=b.I F))/\(∀(F:Env)(a b:E),((E.cmp .lss a b).B F=true)=(a.I F<b.I F))/\(∀(F:Env)(a:E),((E.not a).B F=true)=¬(a.B F=true))/\
  (∀(F:Env)(a b:E),((E.and a b).B F=true)=(a.B F=true/\b.B F=true))/\(∀(F:Env)(a b:E),((E.imp a b).B F=true)=(a.B F=true->b.B F=true))/\(∀(F:Env)(a b:E),((E.iff a b).B F=true)=(a.B F=true↔b.B F=true))/\
  (∀(F:Env)(a b:E),(E.mn a b).I F=min (a.I F) (b.I F))/\(∀(F:Env)(a b:E),(E.mx a b).I F=max (a.I F) (b.I F))/\(∀(F:Env)(k:IntKind)(a b:E),(E.ar .rem k a b).I F=(a.I F).tmod (b.I F))/\(∀(F:Env)(k:IntKind)(a:E),(E.wr k a).I F=k.wrap (a.I F))/\(∀p:Prop,(True->p)=p):=
 by refine⟨?_,?_,?_,?_,?_,?_,?_,?_,?_,?_,?_,?_,?_,?_,?_,?_⟩<;>intros<;>first | rfl | simp only[ae5,ae6,bv,cz,aG,bg,aHT,aHU,true_implies]
theorem ae:(∀(F:Env)(a b:E),(E.ar .add .i64 a b).I F=IntKind.i64.wrap (a.I F+b.I F))/\(∀(F:Env)(a b:E),(E.ar .sub .i64 a b).I F=IntKind.i64.wrap (a.I F-b.I F))/\(∀(F:Env)(a b:E),(E.ar .mul .i64 a b).I F=IntKind.i64.wrap (a.I F*b.I F)):=
 ⟨fun _ _ _=>rfl,fun _ _ _=>rfl,fun _ _ _=>rfl⟩
end Go.SX

namespace Go.SX
open Go.RowKit
theorem RepW.kept{B:Base}{F:Env}{st:St}{w w':World}(h:RepW B F st w)(hb:Below w.heap.size w w'):RepW B F st w':=by
 refine⟨h.nv,h.nb,h.pc,fun i b hi=>?_,h.inj,h.inn,fun r o ho=>?_,fun r o ho=>?_,h.dj,by rw[hb.os,h.os],by rw[hb.tape,h.tape],by rw[hb.output,h.output]⟩
 ·obtain⟨h1,h2,h3⟩:=h.blk i b hi
  exact⟨h1,h2.world (fun hl=>hb.block _ (h2.lt hl)) (fun x hx=>hb.block _ (h2.inner_lt hx)),h3⟩
 ·have h1:=h.fz r o ho
  rw[hb.block r (Array.getElem?_eq_some_iff.1 h1).1];omega
 ·have h1:=h.fr r o ho
  rw[hb.block r (Array.getElem?_eq_some_iff.1 h1).1];omega
theorem aEo{P:Program}{g:FuncId}(h:∀w:World,Calls P g #[] w fun e w'=>e=.returned (.bool true)/\Below w.heap.size w w'):aR P (Kj g):=by
 intro fs hfs args st l hl B F w R hr hao hK;unfold Kj at hl;cases args with
 |cons _ _=>simp[Ki,ny]at hl
 |nil=>
  simp only[Ki,ny,NatR.outs.injEq]at hl;subst hl
  refine(h w).mono ?_
  rintro e w' ⟨rfl,hb⟩
  exact hK (.bool (.bool _),st) (by simp) F w' (Env.Ext.refl F) (hr.kept hb) (by simp[SV.ok])
theorem aEp{P:Program}(hP:kq P=true){facts:List E}(hf:∀e∈facts,∀F,e.B F=true){anns:List Ann}(ha:∀x∈anns,fB P x){nats:List Nat1}(hn:∀x∈nats,aR P x){n:Nat}{g:FuncId}
  (h:lQ P (fun tb=>qz um (run P (tb.plus facts anns nats) n (.call g []) .nil (rH 0 []) one))=true):aR P (Kj g):=
 aEo fun w=>agf hP hf ha hn (vs:=[]) (pc:=[]) h (fun e he=>by cases he) w (by simp[SV.oks])
end Go.SX

namespace Go.SX
def ikU:IntKind->Nat
 |.i8=>0 | .i16=>1 | .i32=>2 | .i64=>3 | .u8=>4 | .u16=>5 | .u32=>6 | .u64=>7
mutual
def CK.typ:CK->U
 |.int k=>.int (ikU k)
 |.bool=>.int 8
 |.str=>.int 9
 |.slc ks=>.lst (gK ks)
def gK:List CK->List U
 |[]=>[]
 |c::cs=>c.typ::gK cs
end
def LK(ks:List CK):Nat->List CK
 |0=>[]
 |n+1=>ks++LK ks n
def yw(f:TypeId->Option (List CK))(P:Program):List Field->Nat->Option (List CK)
 |[],_=>some []
 |x::xs,off=>match f x.type,yw f P xs (off+P.cellsOf x.type)with
  |some ks,some r=>match Nat.beq x.offset off&&Nat.beq ks.length (P.cellsOf x.type)with
   |true=>some (ks++r)
   |false=>none
  |_,_=>none
def oY(P:Program):Nat->TypeId->Option (List CK)
 |0,_=>none
 |n+1,t=>match P.underlying t with
  |some .bool=>some [.bool]
  |some (.int k)=>some [.int k]
  |some .string=>some [.str]
  |some (.slice e)=>match oY P n e with
   |some ks=>match Nat.beq ks.length (P.cellsOf e)&&Nat.blt 0 ks.length with
    |true=>some [.slc ks]
    |false=>none
   |none=>none
  |some (.struct fs)=>match yw (oY P n) P fs.toList 0 with
   |some ks=>match Nat.beq ks.length (P.cellsOf t)with
    |true=>some ks
    |false=>none
   |none=>none
  |some (.array m e)=>match oY P n e with
   |some ks=>match Nat.beq ks.length (P.cellsOf e)&&Nat.beq (m*ks.length) (P.cellsOf t)with
    |true=>some (LK ks m)
    |false=>none
   |none=>none
  |_=>none
def RowOk(fz:Nat->Option Obj)(ks:List CK)(us:List U)(cs:List Value):Prop:=
 us.length=ks.length/\cs.length=ks.length/\∀(i:Nat)(c:CK),ks[i]?=some c->∃u,us[i]?=some u/\cs[i]?=some (c.val u)/\c.ok fz u/\U.typ u c.typ=true
theorem RowOk.nil(fz:Nat->Option Obj):RowOk fz [] [] []:=⟨rfl,rfl,fun i c h=>by simp at h⟩
theorem RowOk.append{fz:Nat->Option Obj}{ks ks':List CK}{us us':List U}{cs cs':List Value}(h:RowOk fz ks us cs)(h':RowOk fz ks' us' cs'):RowOk fz (ks++ks') (us++us') (cs++cs'):=by
 refine⟨by simp[h.1,h'.1],by simp[h.2.1,h'.2.1],fun i c hi=>?_⟩
 by_cases hlt:i<ks.length
 ·rw[List.getElem?_append_left hlt]at hi
  obtain⟨u,h1,h2,h3⟩:=h.2.2 i c hi
  grind
 ·rw[List.getElem?_append_right (by omega)]at hi
  obtain⟨u,h1,h2,h3⟩:=h'.2.2 _ c hi
  exact⟨u,by rw[List.getElem?_append_right (by rw[h.1];omega),h.1];omega,by rw[List.getElem?_append_right (by rw[h.2.1];omega),h.2.1];omega,h3⟩
theorem RowOk.one{fz:Nat->Option Obj}{c:CK}{u:U}(h:c.ok fz u)(ht:U.typ u c.typ=true):RowOk fz [c] [u] [c.val u]:=by
 refine⟨rfl,rfl,fun i c' hi=>?_⟩
 grind
theorem yx:∀(ks:List CK)(i:Nat),(gK ks)[i]?=ks[i]?.map CK.typ
 |[],i=>by rfl
 |c::cs,0=>by rfl
 |c::cs,i+1=>by simp[gK,yx cs i]
theorem Ge{ks:List U}:∀(l:List U)(p:Nat),p<=ks.length->(∀(j:Nat)(u:U),l[j]?=some u->∃k,ks[(p+j)%ks.length]?=some k/\U.typ u k=true)->U.typs l ks (ks.drop p)=true
 |[],p,_,_=>by rfl
 |u::l,p,hp,h=>by
  obtain⟨k,h1,h2⟩:=h 0 u rfl
  have hpos:0<ks.length:=by
   grind
  rcases Nat.lt_or_ge p _ with hlt|hge
  ·rw[Nat.add_zero,Nat.mod_eq_of_lt hlt]at h1
   have hd:ks.drop p=k::ks.drop (p+1):=by
    grind[List.drop_eq_getElem_cons]
   rw[hd]
   simp only[U.typs,h2];exact Ge l _ hlt (fun j u hj=>by
    have:=h (j+1) u (by simp_all)
    grind)
  ·have hpe:p=ks.length:=by omega
   subst hpe;have ih:=Ge (ks:=ks) l 1 hpos (fun j u hj=>by
    have:=h (j+1) u (by simp_all)
    rwa [show ks.length+(j+1)=(1+j)+ks.length by omega,Nat.add_mod_right]at this)
   cases ks with
   |nil=>simp_all
   |cons a b=>
    simp_all[U.typs]
theorem aaT{G:Type}{c:Nat}{f:Nat->List G}:∀(n:Nat),(∀i,i<n->(f i).length=c)->((List.range n).flatMap f).length=n*c/\∀i r,i<n->r<c->((List.range n).flatMap f)[i*c+r]?=(f i)[r]?
 |0,_=>⟨by simp,fun i r h=>by omega⟩
 |n+1,h=>by
  obtain⟨h1,h2⟩:=aaT (f:=f) (c:=c) n (fun i hi=>h i (by omega))
  rw[List.range_succ,List.flatMap_append]
  refine⟨by grind,fun i r hi hr=>?_⟩
  by_cases hin:i<n
  ·grind
  ·have:i=n:=by omega
   simp_all
structure BulkOk {H:Type} (B:DataW H->Nat) (BA:List (DataW H)->Nat):Prop where
 one:∀d,1<=B d
 agg:∀l,B (.agg l)=BA l+1
 slice:∀l m,BA l+1<=B (.slice l m)
 cons:∀d l,BA (d::l)=B d+BA l
theorem Fs:∀(a b:List U),U.sizes (a++b)=U.sizes a+U.sizes b
 |[],b=>by simp[U.sizes]
 |u::a,b=>by simp only[List.cons_append,U.sizes,Fs a b];omega
theorem aeX{H:Type}{B:DataW H->Nat}{BA:List (DataW H)->Nat}(hB:BulkOk B BA):∀(n:Nat)(f:Nat->List U)(zs:List (DataW H×List MemPlace)),zs.length=n->(∀i,i<n->∀z,zs[i]?=some z->U.sizes (f i)<=B z.1)->
  U.sizes ((List.range n).flatMap f)<=BA (zs.map (·.1))
 |0,f,zs,_,_=>by simp[U.sizes]
 |n+1,f,[],h,_=>by simp at h
 |n+1,f,z::zs,h,hz=>by
  rw[List.range_succ_eq_map,List.flatMap_cons,Fs,List.map_cons,hB.cons]
  have h1:=hz 0 (by omega) z rfl;have h2:=aeX hB n _ zs (by simp_all) (fun i hi y hy=>hz (i+1) (by omega) y (by simp_all));have e:(List.map Nat.succ (List.range n)).flatMap f=(List.range n).flatMap (fun i=>f (i+1)):=by
   rw[List.flatMap_map]
  grind
mutual
def xu{H:Type}:DataW H->Nat
 |.agg l=>tc l+1
 |.slice l m=>tc l+tc m+1
 |_=>1
def tc{H:Type}:List (DataW H)->Nat
 |[]=>0
 |d::r=>xu d+tc r
end
theorem Zx{H:Type}:BulkOk (xu (H:=H)) tc:=⟨fun d=>by cases d<;>simp[xu],fun l=>by rfl,fun l m=>by simp_all[xu],fun d l=>by rfl⟩
section
variable {H:Type} {enc:TypeId×Value->H} {P:Program} {w:World} {held:Bool}
theorem afr{G:Type}(cs:List G)(a b:Nat):cs.drop a=(cs.drop a).take b++cs.drop (a+b):=by
 rw[<- List.drop_drop,List.take_append_drop]
theorem Mr{B:DataW H->Nat}{BA:List (DataW H)->Nat}(hB:BulkOk B BA):∀(n:Nat)(t:TypeId)(ks:List CK),oY P n t=some ks->∀(fuel:Nat)(cs:List Value)(x:DataW H×List MemPlace),DataW.trod enc P w 0 (fun _=>true) held fuel t cs=some x->
  ∃us,RowOk (fun r=>w.heap[r]?) ks us cs/\U.sizes us<=B x.1
 |0,t,ks,h,_,_,_,_=>by cases h
 |n+1,t,ks,h,fuel,cs,x,hx=>by
  have ih:=Mr hB n;simp only[oY]at h;split at h
  ·rename_i hu
   obtain⟨b,rfl,_⟩:=DataW.trod_bool hu hx
   simp only[Option.some.injEq]at h;subst h
   exact⟨[.bool b],RowOk.one (c:=.bool) (u:=.bool b) trivial rfl,by simpa[U.sizes,U.size]using hB.one _⟩
  ·rename_i k hu
   obtain⟨m,rfl,_,hw⟩:=DataW.trod_int hu hx
   simp only[Option.some.injEq]at h;subst h
   refine⟨[.int m],RowOk.one (c:=.int k) (u:=.int m) trivial ?_,by simpa[U.sizes,U.size]using hB.one _⟩
   simp only[Lit.wf,Bool.and_eq_true,decide_eq_true_eq]at hw;simp only[CK.typ,U.typ,decide_eq_true_eq];cases k<;>exact⟨by decide,by simp_all[IntKind.min,IntKind.max,IntKind.signed,IntKind.bits,ikU,abQ,abP]⟩
  ·rename_i hu
   obtain⟨b,rfl,_⟩:=DataW.trod_string hu hx
   simp only[Option.some.injEq]at h;subst h
   exact⟨[.str b],RowOk.one (c:=.str) (u:=.str b) trivial rfl,by simpa[U.sizes,U.size]using hB.one _⟩
  ·-- slice
   rename_i e hu;split at h
   ·rename_i ks' hks;split at h
    ·rename_i hc;simp only[Bool.and_eq_true]at hc
     obtain⟨hc1,hc2⟩:=hc
     have hlen:ks'.length=P.cellsOf e:=Nat.eq_of_beq_eq_true hc1;have hpos:0<ks'.length:=dp.1 hc2;simp only[Option.some.injEq]at h;subst h;rcases DataW.trod_slice hu hx with⟨rfl,hx0⟩|⟨a,len,cap,elems,bE,m,_,rfl,hx0,_,hlc,_,hel,hget,hrest,_⟩
     ·exact⟨[.bx none 0 0 []],RowOk.one (c:=.slc ks') (u:=.bx none 0 0 []) .nil (by rfl),by simpa[U.sizes,U.size]using hB.one _⟩
     ·have key:∀i,i<cap->∃y,(w.cells? 0 (a.add (i*P.cellsOf e)) (P.cellsOf e)).bind (DataW.trod enc P w 0 (fun _=>true) held m e)=some y:=by
       intro i hi
       obtain⟨hr1,hr2⟩:=hrest rfl
       by_cases hil:i<len
       ·simp_all
       ·have:=hr2 (i-len) (by omega)
        grind
      have cell:∀i,i<cap->∃us,(∃cs',RowOk (fun r=>w.heap[r]?) ks' us cs'/\∀r,r<ks'.length->w.cell? ((a.add (i*ks'.length)).add r)=cs'[r]?)/\(i<len->∀z,elems[i]?=some z->U.sizes us<=B z.1):=by
       intro i hi
       obtain⟨y,hy⟩:=key i hi
       rw[Option.bind_eq_some_iff]at hy
       obtain⟨cs',h1,h2⟩:=hy
       obtain⟨us,hus,hsz⟩:=ih e ks' hks m cs' y h2
       refine⟨us,⟨cs',hus,fun r hr=>?_⟩,fun hil z hz=>?_⟩
       ·have:=(World.cells?_some h1).2.2 r (by omega)
        simp_all
       grind
      have hspot:0<cap->a.spot=none/\∃arr elem fr,w.heap[a.block]?=some (.cells arr elem fr):=by
       intro hcap
       obtain⟨us,⟨cs',hrow,hcell⟩,_⟩:=cell 0 hcap
       have h0:=hcell 0 hpos;have hlt:0<cs'.length:=by rw[hrow.2.1];omega
       rw[List.getElem?_eq_getElem hlt]at h0
       rw[show(a.add (0*ks'.length)).add 0=a by simp[Addr.add]]at h0
       unfold World.cell? at h0;split at h0;all_goals simp_all
      rcases Nat.eq_zero_or_pos cap with hz|hcp
      ·subst hz
       have:len=0:=by omega
       subst this
       exact⟨[.bx (some a) 0 0 []],RowOk.one (c:=.slc ks') (u:=.bx (some a) 0 0 []) (.empty a) (by rfl),by simpa[U.sizes,U.size]using hB.one _⟩
      ·obtain⟨hsp,arr,el,fr,hw⟩:=hspot hcp
       obtain⟨blk,off,spot⟩:=a
       have hsp':spot=none:=hsp;have hw:w.heap[blk]?=some (.cells arr el fr):=hw;subst hsp';let f:Nat->List U:=fun i=>if h:i<cap then Classical.choose (cell i h)else []
       have hf:∀i,(hi:i<cap)->∃cs',RowOk (fun r=>w.heap[r]?) ks' (f i) cs'/\∀r,r<ks'.length->arr[off+(i*ks'.length+r)]?=cs'[r]?:=by
        intro i hi
        obtain⟨⟨cs',h1,h2⟩,_⟩:=Classical.choose_spec (cell i hi)
        have:f i=Classical.choose (cell i hi):=dif_pos hi
        grind[eO,World.cell?,Option.isSome_none,Nat.add_assoc]
       have hsz:∀i,i<len->∀z,elems[i]?=some z->U.sizes (f i)<=B z.1:=by
        grind
       have hfl:∀i,i<len->(f i).length=ks'.length:=fun i hi=>by obtain⟨_,h1,_⟩:=hf i (by omega);exact h1.1
       obtain⟨hL,hLg⟩:=aaT len hfl
       have hat:∀j u,((List.range len).flatMap f)[j]?=some u->∃c,ks'[j%ks'.length]?=some c/\arr[off+j]?=some (c.val u)/\c.ok (fun r=>w.heap[r]?) u/\U.typ u c.typ=true:=by
        intro j u hj;have hlt:j<len*ks'.length:=by grind
        have hdm:j/ks'.length*ks'.length+j%ks'.length=j:=by simp_all[Nat.mul_comm,Nat.div_add_mod]
        have hi:j/ks'.length<len:=(Nat.div_lt_iff_lt_mul hpos).2 hlt;have hr:j%ks'.length<ks'.length:=Nat.mod_lt _ hpos;have h1:=hLg (j/ks'.length) (j%ks'.length) hi hr
        rw[hdm]at h1
        obtain⟨cs',hrow,harr⟩:=hf (j/ks'.length) (by omega)
        obtain⟨u',g1,g2,g3,g4⟩:=hrow.2.2 (j%ks'.length) ks'[j%ks'.length] (List.getElem?_eq_getElem hr)
        rw[h1,g1]at hj
        simp only[Option.some.injEq]at hj;subst hj;have h2:=harr (j%ks'.length) hr
        rw[hdm]at h2
        grind
       refine⟨[.bx (some ⟨blk,off,none⟩) len cap ((List.range len).flatMap f)],RowOk.one (c:=.slc ks') (u:=.bx (some ⟨blk,off,none⟩) len cap ((List.range len).flatMap f)) ?_ ?_,?_⟩
       ·refine .mk (arr:=arr) (elem:=el) (fr:=fr) hL hlc (fun _=>hw) (fun j u hj=>?_) (fun j u ks2 hj hk2=>?_)
        ·grind
        ·obtain⟨c,g1,_,g3,_⟩:=hat j u hj
         rw[hk2]at g1
         simp only[Option.some.injEq]at g1;subst g1;exact g3
       ·simp only[CK.typ,U.typ]
        have:=Ge (ks:=gK ks') ((List.range len).flatMap f) (gK ks').length (Nat.le_refl _) (fun j u hj=>by
         have hkl:(gK ks').length=ks'.length:=by
          apply Nat.le_antisymm
          ·rcases Nat.lt_or_ge ks'.length (gK ks').length with h|h
           ·have:=yx ks' ks'.length
            simp_all
           omega
          ·rcases Nat.lt_or_ge (gK ks').length ks'.length with h|h
           ·have:=yx ks' (gK ks').length
            simp_all
           omega
         obtain⟨c,g1,_,_,g4⟩:=hat j u hj
         simp_all[Nat.add_mod_left,yx])
        simp_all
       ·have h1:=aeX hB len f elems hel hsz
        rw[hx0]
        have h2:=hB.slice (elems.map (·.1)) (bE.map (·.1));simp only[U.sizes,U.size]at h1 ⊢;omega
    ·cases h
   ·cases h
  ·-- struct
   rename_i fs hu
   obtain⟨xs,m,_,hx0,hcl,hxl,hget⟩:=DataW.trod_struct hu hx
   split at h
   ·rename_i ks' hks;split at h
    ·rename_i hc;simp only[Option.some.injEq]at h;subst h;have hlen:ks'.length=P.cellsOf t:=Nat.eq_of_beq_eq_true hc;have go:∀(l:List Field)(zs:List (DataW H×List MemPlace))(off:Nat)(r:List CK),yw (oY P n) P l off=some r->(cs.drop off).length=r.length->zs.length=l.length->
       (∀(i:Nat)(f:Field),l[i]?=some f->DataW.trod enc P w 0 (fun _=>true) held m f.type ((cs.drop f.offset).take (P.cellsOf f.type))=zs[i]?)->∃us,RowOk (fun r=>w.heap[r]?) r us (cs.drop off)/\U.sizes us<=BA (zs.map (·.1)):=by
      intro l;induction l with
      |nil=>
       intro zs off r hr hl _ _;simp only[yw,Option.some.injEq]at hr;subst hr
       have:cs.drop off=[]:=List.length_eq_zero_iff.1 (by simpa using hl)
       rw[this];exact⟨[],RowOk.nil _,by simp[U.sizes]⟩
      |cons f l ihl=>
       intro zs off r hr hl hzl hall
       obtain⟨y,zs,rfl⟩:∃y zs',zs=y::zs':=by
        cases zs with
        |nil=>simp at hzl
        |cons y zs=>exact⟨y,zs,rfl⟩
       simp only[yw]at hr;split at hr
       ·rename_i k1 r1 hk1 hr1;split at hr
        ·rename_i hc;simp only[Bool.and_eq_true]at hc;have ho:f.offset=off:=Nat.eq_of_beq_eq_true hc.1;have hk:k1.length=P.cellsOf f.type:=Nat.eq_of_beq_eq_true hc.2;simp only[Option.some.injEq]at hr;subst hr;have hy:=hall 0 f rfl
         rw[ho]at hy
         obtain⟨us1,hu1,hs1⟩:=ih f.type k1 hk1 m _ y (by simpa using hy)
         obtain⟨us2,hu2,hs2⟩:=ihl zs (off+P.cellsOf f.type) r1 hr1 (by
          simp only[List.length_drop,List.length_append]at hl ⊢;omega) (by simpa using hzl) (fun i g hg=>by
           have:=hall (i+1) g (by simpa using hg)
           simpa using this)
         refine⟨us1++us2,?_,?_⟩
         ·rw[afr cs off (P.cellsOf f.type)]
          exact hu1.append hu2
         ·rw[Fs,List.map_cons,hB.cons];omega
        ·cases hr
       ·cases hr
     obtain⟨us,hus,hsz⟩:=go fs.toList xs 0 ks' hks (by simp[hcl,hlen]) (by simpa using hxl) (fun i f hf=>hget i f (by simpa using hf))
     refine⟨us,by simpa using hus,?_⟩
     rw[hx0,hB.agg];omega
    ·cases h
   ·cases h
  ·-- array
   rename_i q e hu
   obtain⟨xs,m,_,hx0,hcl,hxl,hget⟩:=DataW.trod_array hu hx
   split at h
   ·rename_i ks' hks;split at h
    ·rename_i hc;simp only[Bool.and_eq_true]at hc;have hk:ks'.length=P.cellsOf e:=Nat.eq_of_beq_eq_true hc.1;have ht:q*ks'.length=P.cellsOf t:=Nat.eq_of_beq_eq_true hc.2;simp only[Option.some.injEq]at h;subst h;have go:∀(j i:Nat),i+j=q->∃us,RowOk (fun r=>w.heap[r]?) (LK ks' j) us (cs.drop (i*P.cellsOf e))/\U.sizes us<=BA ((xs.drop i).map (·.1)):=by
      intro j;induction j with
      |zero=>
       intro i hi
       have:cs.drop (i*P.cellsOf e)=[]:=by
        apply List.drop_eq_nil_of_le
        rw[hcl,<- ht,<- hk,show i=q by omega]
        exact Nat.le_refl _
       rw[this];exact⟨[],RowOk.nil _,by simp[U.sizes]⟩
      |succ j ihj=>
       intro i hi;have hlt:i<q:=by omega
       have hy:=hget i hlt
       rw[List.getElem?_eq_getElem (by omega)]at hy
       obtain⟨us1,hu1,hs1⟩:=ih e ks' hks m _ _ hy
       obtain⟨us2,hu2,hs2⟩:=ihj (i+1) (by omega)
       refine⟨us1++us2,?_,?_⟩
       ·rw[afr cs (i*P.cellsOf e) (P.cellsOf e)]
        rw[show(i+1)*P.cellsOf e=i*P.cellsOf e+P.cellsOf e from Nat.succ_mul _ _]at hu2
        exact hu1.append hu2
       ·rw[Fs,List.drop_eq_getElem_cons (by omega),List.map_cons,hB.cons];omega
     obtain⟨us,hus,hsz⟩:=go q 0 (by omega)
     refine⟨us,by simpa using hus,?_⟩
     rw[hx0,hB.agg]
     simp only[List.drop_zero]at hsz;omega
    ·cases h
   ·cases h
  ·cases h
theorem aGV{n:Nat}{t e:TypeId}{ks:List CK}{r:Reach}{b0:Nat}{v:Value}{d:DataW H}{ps:List MemPlace}(hu:P.underlying t=some (.slice e))(hk:oY P n t=some [.slc ks])
  (o:Value.okWide P w r b0 t v)(h:DataW.Trod enc P w 0 (fun _=>true) held t v d ps):∃u:U,v=u.raw/\SlOk (fun r=>w.heap[r]?) ks u/\U.typ u (.lst (gK ks))=true:=by
 obtain⟨fuel,h⟩:=h
 obtain⟨us,⟨h1,h2,h3⟩,_⟩:=Mr Zx n t _ hk _ _ _ h
 obtain⟨u,g1,g2,g3,g4⟩:=h3 0 _ rfl
 refine⟨u,?_,g3,g4⟩
 have hv:∃a l c,v=.slice a l c:=by
  unfold Value.okWide at o;unfold Cell.okWide at o;cases v<;>simp[Cell.ok,hu]at o<;>exact⟨_,_,_,rfl⟩
 obtain⟨a,l,c,rfl⟩:=hv
 have e:(Value.slice a l c).cells.toList=[Value.slice a l c]:=rfl;simp_all[CK.val]
def Gh:List CK->List U->Nat->List Value
 |[],_,_=>[]
 |c::cs,us,j=>c.val (us.getD j (.int 0))::Gh cs us (j+1)
theorem agp{fz:Nat->Option Obj}{ks:List CK}{us:List U}{cs:List Value}(h:RowOk fz ks us cs):∀(k:List CK)(j:Nat),ks.drop j=k->cs.drop j=Gh k us j
 |[],j,hj=>by
  have:ks.length<=j:=by
   simp_all
  rw[List.drop_eq_nil_of_le (by rw[h.2.1];omega)];rfl
 |c::k,j,hj=>by
  have hlt:j<ks.length:=by
   have:=congrArg List.length hj
   grind
  rw[List.drop_eq_getElem_cons hlt]at hj
  simp only[List.cons.injEq]at hj
  obtain⟨u,h1,h2,_⟩:=h.2.2 j _ (List.getElem?_eq_getElem hlt)
  have hlt2:j<cs.length:=by grind
  rw[List.drop_eq_getElem_cons hlt2,agp h k _ hj.2]
  simp_all[Gh]
theorem aGU{B:DataW H->Nat}{BA:List (DataW H)->Nat}(hB:BulkOk B BA){n:Nat}{t:TypeId}{fs:Array Field}{ks:List CK}{r:Reach}{b0:Nat}{v:Value}{d:DataW H}{ps:List MemPlace}(hu:P.underlying t=some (.struct fs))(hk:oY P n t=some ks)
  (o:Value.okWide P w r b0 t v)(h:DataW.Trod enc P w 0 (fun _=>true) held t v d ps):∃us:List U,v=.agg (Gh ks us 0).toArray/\us.length=ks.length/\(∀(i:Nat)(c:CK),ks[i]?=some c->c.ok (fun r=>w.heap[r]?) (us.getD i (.int 0)))/\U.typs us (gK ks) []=true/\U.sizes us<=B d:=by
 obtain⟨fuel,h⟩:=h
 unfold Value.okWide at o
 rw[hu]at o
 obtain⟨cs,rfl,_,_⟩:=o
 obtain⟨us,h1,h2⟩:=Mr hB n t _ hk _ _ _ h
 have e:(Value.agg cs).cells.toList=cs.toList:=rfl
 rw[e]at h1
 have hkl:=by
  have g:∀l,(gK l).length=l.length:=by
   intro l;induction l with
   |nil=>rfl
   |cons c l ih=>simp[gK,ih]
  exact g ks
 refine⟨us,?_,h1.1,fun i c hc=>?_,?_,h2⟩
 ·have:=agp h1 ks 0 rfl
  rw[List.drop_zero]at this
  rw[<- this,Array.toArray_toList]
 ·obtain⟨u,g1,_,g3,_⟩:=h1.2.2 i c hc
  simp_all
 ·have:=Ge (ks:=gK ks) us _ (Nat.le_refl _) (fun j u hj=>by
   have hlt:j<ks.length:=by rw[<- h1.1];grind
   obtain⟨u',g1,_,_,g4⟩:=h1.2.2 j _ (List.getElem?_eq_getElem _)
   rw[hj]at g1
   simp only[Option.some.injEq]at g1;subst g1
   refine⟨ks[j].typ,?_,g4⟩
   rw[hkl,Nat.add_mod_left,Nat.mod_eq_of_lt hlt,yx,List.getElem?_eq_getElem hlt];rfl)
  grind
end
end Go.SX

namespace Go.SX
theorem aLT(n0:Nat):∀(k:Nat),(pB n0 k).length=k:=by
 intro k;induction k generalizing n0 with
 |zero=>rfl
 |succ k ih=>simp[pB,ih]
theorem aGJ(n0:Nat):∀(k:Nat),(nz n0 k).length=k:=by
 intro k;induction k generalizing n0 with
 |zero=>rfl
 |succ k ih=>simp[nz,ih]
theorem agr{F:Env}:∀(l:List U)(n0:Nat),(∃p,F.vs=p++l/\p.length=n0)->(pB n0 l.length).map (E.den F)=l
 |[],n0,_=>rfl
 |u::l,n0,⟨p,hp,hn⟩=>by
  simp only[List.length_cons,pB,List.map_cons]
  rw[agr l _ ⟨p++[u],by simp_all,by simp[hn]⟩]
  simp_all[E.den]
theorem adt{bs:List Bk}{d:Bk}:∀(l:List Bk)(n0:Nat),(∃p,bs=p++l/\p.length=n0)->(nz n0 l.length).map (fun b=>bs.getD b d)=l
 |[],n0,_=>rfl
 |u::l,n0,⟨p,hp,hn⟩=>by
  simp only[List.length_cons,nz,List.map_cons]
  rw[adt l _ ⟨p++[u],by simp_all,by simp[hn]⟩]
  simp_all
theorem adu:∀(k n0 j:Nat),j<k->dq (nz n0 k) j=some (n0+j)
 |0,_,j,h=>by omega
 |k+1,n0,0,_=>rfl
 |k+1,n0,j+1,h=>by
  show dq _ j=_
  rw[adu k _ j (by omega)];grind
def fA(t:T Blk)(i:Nat):Prop:=∃p,t.get i=some p/\p.obj≠.gone
noncomputable def lh(z:Sub):Option Blk->Blk
 |none=>⟨true,.gone⟩
 |some q=>⟨true,q.obj.sub z⟩
theorem M8{z:Sub}{pre post:T Blk}:∀(n i:Nat)(heap:T Blk)(k:Nat)(b:Blk),(lL z pre post n i heap).get k=some b->
  (heap.get k=some b/\∀m,i<=m->m<i+n->fA pre m->bW 0 z.bs m≠k)\/(∃m,i<=m/\m<i+n/\fA pre m/\bW 0 z.bs m=k/\b=lh z (post.get m))
 |0,i,heap,k,b,h=>.inl ⟨h,fun m h1 h2=>by omega⟩
 |n+1,i,heap,k,b,h=>by
  have skip:(¬fA pre i)->(lL z pre post n (Nat.succ i) heap).get k=some b->(heap.get k=some b/\∀m,i<=m->m<i+(n+1)->fA pre m->bW 0 z.bs m≠k)\/(∃m,i<=m/\m<i+(n+1)/\fA pre m/\bW 0 z.bs m=k/\b=lh z (post.get m)):=by
   intro hn h;rcases M8 n _ _ k b h with⟨h1,h2⟩|⟨m,h1,h2,h3⟩
   all_goals grind
  have put:fA pre i->(lL z pre post n (Nat.succ i) (heap.set (bW 0 z.bs i) (lh z (post.get i)))).get k=some b->(heap.get k=some b/\∀m,i<=m->m<i+(n+1)->fA pre m->bW 0 z.bs m≠k)\/(∃m,i<=m/\m<i+(n+1)/\fA pre m/\bW 0 z.bs m=k/\b=lh z (post.get m)):=by
   intro hl h;rcases M8 n _ _ k b h with⟨h1,h2⟩|⟨m,h1,h2,h3⟩
   ·rw[T.get_set]at h1
    split at h1
    ·rename_i e;right
     refine⟨i,Nat.le_refl _,by omega,hl,e.symm,?_⟩
     simp_all
    grind
   grind
  unfold lL at h;split at h
  ·exact skip (fun⟨p,hp',_⟩=>by simp_all) h
  ·rename_i p hp;split at h
   ·exact skip (fun⟨p',hp',hg'⟩=>by simp_all) h
   ·rename_i hg;have hl:fA _ i:=⟨p,hp,hg⟩;split at h
    ·rename_i hq
     rw[T.setK_eq]at h
     refine put hl ?_
     rw[hq];exact h
    ·rename_i q hq
     rw[T.setK_eq]at h
     refine put hl ?_
     rw[hq];exact h
theorem abF{z:Sub}{post:T Blk}:∀(n i b0:Nat)(heap:T Blk)(k:Nat)(b:Blk),(qV z post n i b0 heap).get k=some b->
  (heap.get k=some b/\(k<b0\/b0+n<=k))\/(∃j,j<n/\k=b0+j/\b=lh z (post.get (i+j)))
 |0,i,b0,heap,k,b,h=>.inl ⟨h,by omega⟩
 |n+1,i,b0,heap,k,b,h=>by
  have h':(qV z post n (Nat.succ i) (Nat.succ b0) (heap.ins b0 (lh z (post.get i)))).get k=some b:=by
   unfold qV at h;split at h
   ·rename_i hq;rw[T.insK_eq]at h;rw[hq];exact h
   ·rename_i q hq;rw[T.insK_eq]at h;rw[hq];exact h
  rcases abF n _ _ _ k b h' with⟨h1,h2⟩|⟨j,h1,h2,h3⟩
  ·by_cases e:k=b0
   ·subst e;right
    exact⟨0,by omega,rfl,T.get_ins_self _ _ _ _ h1⟩
   grind[T.get_ins_ne]
  ·exact .inr ⟨j+1,by omega,by omega,by grind⟩
theorem aee{z:Sub}{pc:List E}:∀(l:List E)(e:E),e∈y6 z pc l->(∃x∈l,e=x.sub z.n0 z.es)\/e∈pc
 |[],e,h=>.inr h
 |x::xs,e,h=>by
  simp only[y6,List.mem_cons]at h;rcases h with h|h
  ·simp_all
  ·rcases aee xs e h with⟨y,h1,h2⟩|h
   all_goals grind
theorem Zs{nb:Nat}:∀(l:List Nat),Cv nb l=true->∀b∈l,b<nb
 |[],_,b,hb=>by cases hb
 |x::xs,h,b,hb=>by
  simp only[Cv]at h;split at h
  ·rename_i hx
   rw[dp]at hx
   cases hb with
   |head=>omega
   |tail _ hm=>exact Zs xs h b hm
  ·cases h
theorem aE8{fs:List E}{n0 b0:Nat}{t:Tm}{st:St}{τ:Tmpl}{z:Sub}(h:qL fs n0 b0 t st τ=.ok z):
  z.n0=n0/\z.b0=b0/\n0+z.es.length=τ.st.nv/\b0+z.bs.length=τ.st.nb/\(∀e∈z.es,e.scp st.nv=true)/\(∀b∈z.bs,b<st.nb)/\
  (∀i b,τ.st.heap.get i=some b->b.obj≠.gone->i<τ.st.nb/\∃x,st.heap.get (bW z.b0 z.bs i)=some x/\b.own=x.own/\ObjTo x.obj (b.obj.sub z)/\∀F r,(b.obj.sub z).inner F r->x.obj.inner F r)/\
  (∀i j,fA τ.st.heap i->fA τ.st.heap j->i≠j->bW z.b0 z.bs i≠bW z.b0 z.bs j):=by
 unfold qL at h;simp only at h;generalize hz:Lg n0 b0 t st τ=y at h;have hy1:y.n0=n0:=by rw[<- hz];rfl
 have hy2:y.b0=b0:=by rw[<- hz];rfl
 split at h
 ·rename_i hchk;split at h
  ·split at h
   ·rename_i hheap;split at h
    ·obtain⟨rfl,hpc⟩:=MH _ h
     simp only[Bool.and_eq_true]at hchk
     obtain⟨⟨c1,c2⟩,c3,c4⟩:=hchk
     have c1':n0+z.es.length=τ.st.nv:=by simp_all[bJ]
     have c2':b0+z.bs.length=τ.st.nb:=by simp_all[bJ]
     refine⟨hy1,hy2,c1',c2',aeP _ c3,Zs _ c4,fun i b hib hl=>?_,fun i j ⟨b,hb,hl⟩ ⟨c,hc,hl'⟩ hij=>?_⟩
     ·have:=DA _ _ _ hheap i b hib
      rw[Nat.zero_add,Nat.one_mul]at this
      unfold Cq at this;split at this
      ·rename_i hlt
       rw[dp]at hlt
       refine⟨hlt,?_⟩
       split at this
       ·simp_all
       ·split at this
        ·rename_i x hx
         rw[Bool.and_eq_true]at this
         refine⟨x,hx,oG this.1,?_⟩
         grind[Mm,SObj.beq_eq,adM,adL,ObjTo.refl]
        simp_all
      simp_all
     ·have m1:=o7 _ 0 1 [] i b hb hl;have m2:=o7 _ 0 1 [] j c hc hl';grind[Cg]
    ·cases h
   ·cases h
  ·cases h
 ·cases h
section
variable {z:Sub} {F:Env} (hn:z.n0<=F.vs.length) (hb:z.b0<=F.bs.length)
include hn hb
theorem afz:∀(cs:List SV)(j:Nat),(SV.subs z cs)[j]?=cs[j]?.map (SV.sub z)
 |[],j=>by rfl
 |c::cs,0=>by rfl
 |c::cs,j+1=>by simp[SV.subs,afz cs j]
theorem SObj.rep_sub{w:World}{r off:Nat}{nil:Bool}{o:SObj}(hs:o.scp (z.n0+z.es.length) (z.b0+z.bs.length)=true)(h:blkRep (z.env F) w r off nil o):blkRep F w r off nil (o.sub z):=by
 cases o with
 |gone=>trivial
 |cells cs ag elem=>
  simp only[SObj.scp,Bool.and_eq_true]at hs
  obtain⟨hnl,h0,hk,arr,h1,h2,h3⟩:=h
  rw[<- E.sub_I hn hs.1]at h2
  refine⟨hnl,h0,(SV.subs_ok hn hb cs hs.2).2 hk,arr,h1,h2,fun j v hv=>?_⟩
  grind[afz,Option.some.injEq,SV.sub_den,yN,List.mem_of_getElem?]
 |flat ks l n ag elem=>
  simp only[SObj.scp,Bool.and_eq_true]at hs
  obtain⟨h1,h2,h3,h4,h5⟩:=h
  rw[<- E.sub_L hn hs.1,<- E.sub_I hn hs.2.1]at h2
  rw[<- E.sub_I hn hs.2.1,<- E.sub_I hn hs.2.2]at h3
  rw[<- E.sub_I hn hs.2.1]at h4
  rw[<- E.sub_I hn hs.2.2,<- E.sub_L hn hs.1]at h5
  exact⟨h1,h2,h3,h4,h5⟩
 |nest ks l n ag elem own=>
  simp only[SObj.scp,Bool.and_eq_true]at hs
  obtain⟨h1,h2,h3,h4,h6,h5⟩:=h
  rw[<- E.sub_L hn hs.1,<- E.sub_I hn hs.2.1]at h2
  rw[<- E.sub_I hn hs.2.1,<- E.sub_I hn hs.2.2.1]at h3
  rw[<- E.sub_I hn hs.2.1]at h4
  rw[<- E.sub_I hn hs.2.2.1,<- E.sub_L hn hs.1,<- E.sub_I hn hs.2.2.2]at h5
  rw[<- E.sub_L hn hs.1,<- E.sub_I hn hs.2.2.2]at h6
  exact⟨h1,h2,h3,h4,h6,h5⟩
 |map es clk=>
  simp only[SObj.scp,Bool.and_eq_true]at hs
  obtain⟨en,clock,h1,h2,h3,h4,h5⟩:=h
  rw[<- E.sub_I hn hs.2]at h2
  refine⟨en,clock,h1,h2,⟨by rw[h3.1,My],fun i e x he hx=>?_⟩,h4,h5⟩
  rw[Mx]at hx
  cases hq:es[i]? with
  |none=>simp_all
  |some y=>
   rw[hq]at hx
   simp only[Option.map_some,Option.some.injEq]at hx;subst hx
   obtain⟨k1,k2,k3,k4,k5⟩:=h3.2 i e _ he hq
   grind[yM,List.mem_of_getElem?,SV.sub_den,E.sub_I,SV.sub_ok]
 |mapl k c e=>
  simp only[SObj.scp]at hs
  obtain⟨en,clock,h1,h2,h3⟩:=h
  rw[<- E.sub_L hn hs]at h2
  exact⟨en,clock,h1,h2,h3⟩
 |maplp k c e ke s=>
  simp only[SObj.scp,Bool.and_eq_true]at hs
  obtain⟨en,clock,h1,h2,h3,j,e1,h4,h5,h6,h7⟩:=h
  rw[<- E.sub_L hn hs.1]at h2 h7
  rw[<- E.sub_I hn hs.2.1]at h5 h7
  rw[<- E.sub_I hn hs.2.2]at h6
  exact⟨en,clock,h1,h2,h3,j,e1,h4,h5,h6,h7⟩
 |iter k c e n u=>
  simp only[SObj.scp,Bool.and_eq_true]at hs
  obtain⟨h0,h1,h2⟩:=h
  refine⟨h0,by rw[E.sub_L hn hs.1,E.sub_I hn hs.2.1];exact h1,fun x hx=>?_⟩
  cases u with
  |none=>cases hx
  |some y=>
   simp only[Option.some.injEq]at hx;subst hx
   rw[E.sub_L hn hs.1,E.sub_I hn hs.2.2]
   exact h2 y rfl
end
def Uh(P:Program)(s:Pact):Prop:=
 ∀(B:Base)(F:Env)(w:World)(R:Ending->World->Prop),RepW B F s.st w->SV.oks F s.args->
  (∀y∈s.posts,∀(F':Env)(w':World),F.Ext F'->RepW B F' y.2 w'->y.1.ok F'->R (.returned (y.1.den F')) w')->Calls P s.fn (SV.dens F s.args).toArray w R
theorem afp{z:Sub}{st pre:St}:∀(l:List (SV×St))(y:SV×St),y∈l->uP z st pre y∈Fx z st pre l
 |[],y,h=>by cases h
 |x::xs,y,h=>by
  simp only[Fx,List.mem_cons];cases h with
  |head=>simp_all
  |tail _ hm=>exact .inr (afp xs y hm)
theorem aei{s:Pact}:∀(l:List (SV×St)),E7 s l=true->∀p∈l,MK s p=true
 |[],_,p,hp=>by cases hp
 |x::xs,h,p,hp=>by
  simp only[E7]at h;split at h
  ·cases hp with
   |head=>omega
   |tail _ hm=>exact aei xs h p hm
  ·cases h
theorem aa9{pre post:T Blk}:∀(n:Nat),Dt pre post n=true->∀i,i<n->fA post i->fA pre i
 |0,_,i,hi,_=>by omega
 |n+1,h,i,hi,hl=>by
  simp only[Dt]at h;split at h
  ·rename_i h1;by_cases e:i=n
   ·obtain⟨q,hq,hg⟩:=hl
    cases hp:pre.get i with
    |none=>simp_all
    |some p=>
     refine⟨p,hp,fun hg2=>?_⟩
     simp_all
   ·exact aa9 n h1 i (by omega) hl
  ·cases h
end Go.SX

namespace Go.SX
def vz(s:Pact)(Fc:Env)(r:Nat):Prop:=∃i p,s.st.heap.get i=some p/\((p.obj.real Fc/\Fc.blk i=r)\/p.obj.inner Fc r)
open Classical in
noncomputable def bE(s:Pact)(F Fc:Env)(w:World)(r:Nat):Option Obj:=if vz s Fc r then none else match F.fz r with | some _=>none | none=>w.heap[r]?
theorem un{t:T Blk}(h:Mt t=true){i:Nat}{b:Blk}(hb:t.get i=some b):b.own=true:=T.all_get t h i b hb
theorem zg{F:Env}{o:SObj}(h:o.real F):o≠.gone:=by rintro rfl;cases h
def J0(F F1:Env)(nv nb:Nat):Env:=⟨F.vs++F1.vs.drop nv,F.bs++F1.bs.drop nb,F1.fz⟩
theorem aJL{P:Program}{s:Pact}(hs:s.good=true)(hS:Uh P s):aR P ⟨s.fn,Nj s⟩:=by
 intro fs hf args st l hl B F w R hr hao hK;simp only[Nj]at hl;split at hl;case h_2=>cases hl
 rename_i hst;split at hl;case h_2=>cases hl
 case h_3=>cases hl
 rename_i z hz;simp only[NatR.outs.injEq]at hl;subst hl;simp only[Pact.good,Bool.and_eq_true]at hs
 obtain⟨g1,g2,g3,g4⟩:=hs
 have htm:s.tmpl.scp=true:=by
  simp only[Pact.tmpl,Tmpl.scp,Bool.and_eq_true]
  refine⟨⟨g1,?_⟩,rfl⟩
  unfold i3 iU
  rw[T.all_node,SV.scoped_tup,g2]
  rfl
 have hT:TmRep F (iU (.tup args)) ⟨#[(SV.tup args).den F],[]⟩:=by
  refine⟨rfl,fun i hi=>?_,fun i u hu=>?_⟩
  ·cases i with
   |zero=>cases hi
   |succ i=>simp
  ·cases i with
   |zero=>cases hu;exact⟨_,rfl,.inr ⟨rfl,by simp only[SV.ok];exact hao⟩⟩
   |succ i=>
    simp only[iU]at hu
    rw[T.get_succ]at hu
    split at hu<;>cases hu
 have h0:(Env.mk [] [] F.fz).Ext F:=⟨⟨F.vs,by simp⟩,⟨F.bs,by simp⟩,fun _ _ h=>h⟩
 obtain⟨q1,q2,q3,q4,q5⟩:=Lb hf hz htm hr hT h0 rfl rfl
 obtain⟨p1,p2,p3,p4,p5,p6,p7,p8⟩:=aE8 hz
 have e0:s.tmpl.st=s.st:=rfl
 rw[e0]at p3 p4 p7 p8 q4
 rw[Nat.zero_add]at p3 p4
 rw[p2]at p7 p8
 have hargs:SV.dens F args=SV.dens (z.env F) s.args/\SV.oks (z.env F) s.args:=by
  obtain⟨x,hx1,hx2⟩:=q5.2.2 0 (.tup s.args) rfl
  rcases hx2 with hx2|⟨hx2,hx3⟩
  ·cases hx2
  ·simp only[SV.den,List.getElem?_toArray,List.getElem?_cons_zero,Option.some.injEq]at hx1
   rw[hx2]at hx1
   simp only[SV.den,Value.tuple.injEq]at hx1
   exact⟨by simp_all,by simp_all[SV.ok]⟩
 obtain⟨ha1,ha2⟩:=hargs
 rw[ha1]
 have hzf:(z.env F).fz=F.fz:=rfl;have hown:∀ {i:Nat} {p:Blk},s.st.heap.get i=some p->p.own=true:=fun h=>un g3 h
 have hfoot:∀ {r:Nat},vz s (z.env F) r->F.fz r=none/\B.fr r=none:=by
  rintro r ⟨i,p,hp,⟨hreal,rfl⟩|hin⟩
  ·exact((q4.blk i p hp).2.2 hreal).1 (hown hp)
  ·exact(q4.inn i p hp r hin).1
 have hBrest:∀r o,B.fr r=some o->bE s F (z.env F) w r=some o:=by
  intro r o ho;unfold bE
  rw[if_neg (fun h=>by simp_all),hr.dj r o ho]
  exact hr.fr r o ho
 have hrestW:∀r o,bE s F (z.env F) w r=some o->w.heap[r]?=some o/\F.fz r=none/\¬vz s (z.env F) r:=by
  grind[bE]
 have hr':RepW ⟨B.w0,bE s F (z.env F) w⟩ (z.env F) s.st w:=by
  have hinn:Inn ⟨B.w0,bE s F (z.env F) w⟩ (z.env F) s.st.heap:=by
   intro i b hb r hbr
   obtain⟨g1,g2⟩:=q4.inn i b hb r hbr
   refine⟨⟨g1.1,?_⟩,g2⟩
   show bE s F (z.env F) w r=none;unfold bE
   rw[if_pos ⟨i,b,hb,.inr hbr⟩]
  refine⟨q4.nv,q4.nb,q4.pc,fun i b hb=>?_,q4.inj,hinn,q4.fz,fun r o ho=>(hrestW r o ho).1,fun r o ho=>(hrestW r o ho).2.1,q4.os,q4.tape,q4.output⟩
  obtain⟨k1,k2,k3⟩:=q4.blk i b hb
  refine⟨k1,k2,fun hl=>⟨fun _=>⟨((k3 hl).1 (hown hb)).1,?_⟩,fun _=>hown hb⟩⟩
  show bE s F (z.env F) w ((z.env F).blk i)=none;unfold bE
  rw[if_pos ⟨i,b,hb,.inl ⟨hl,rfl⟩⟩]
 refine hS ⟨B.w0,bE s F (z.env F) w⟩ (z.env F) w R hr' ha2 ?_;intro y hy F1 w' he1 hr1 hok1;have hpg:=aei _ g4 y hy;simp only[MK,Bool.and_eq_true,Nat.ble_eq]at hpg
 obtain⟨t1,t2,t3,t4,t5,t6⟩:=hpg
 have hgone:=aa9 _ t6
 obtain⟨l1,hl1⟩:=he1.vs
 obtain⟨m1,hm1⟩:=he1.bs
 have hv0:(z.env F).vs=z.es.map (E.den F):=by simp[Sub.env,p1]
 have hb0:(z.env F).bs=z.bs.map (fun b=>F.bs.getD b ⟨0,0,none⟩):=by simp[Sub.env,p2]
 have hvl:(z.env F).vs.length=s.st.nv:=q4.nv;have hbl:(z.env F).bs.length=s.st.nb:=q4.nb;have hd1:F1.vs.drop s.st.nv=l1:=by simp_all
 have hd2:F1.bs.drop s.st.nb=m1:=by simp_all
 have hl1n:l1.length=y.2.nv-s.st.nv:=by have:=hr1.nv;grind
 have hm1n:m1.length=y.2.nb-s.st.nb:=by have:=hr1.nb;grind
 obtain⟨F',hF'⟩:∃F',F'=J0 F F1 s.st.nv s.st.nb:=⟨_,rfl⟩
 have hvs':F'.vs=F.vs++l1:=by simp_all[J0]
 have hbs':F'.bs=F.bs++m1:=by simp_all[J0]
 have hfz':F'.fz=F1.fz:=by rw[hF'];rfl
 have hext:F.Ext F':=⟨⟨l1,hvs'⟩,⟨m1,hbs'⟩,fun r o h=>by rw[hfz'];exact he1.fz r o h⟩
 obtain⟨z',hz'⟩:∃z',z'=ML z st s.st y.2:=⟨_,rfl⟩
 have hz0:z'.n0=0:=by rw[hz'];rfl
 have hz1:z'.b0=0:=by rw[hz'];rfl
 have hzes:z'.es=z.es++pB st.nv l1.length:=by rw[hz',hl1n];rfl
 have hzbs:z'.bs=z.bs++nz st.nb m1.length:=by rw[hz',hm1n];rfl
 have henv:z'.env F'=F1:=by
  unfold Sub.env
  rw[hz0,hz1,hzes,hzbs,hfz']
  have a1:z.es.map (E.den F')=z.es.map (E.den F):=List.map_congr_left fun e he=>E.scoped_den hext e (by rw[hr.nv];simp_all)
  have a2:(pB st.nv l1.length).map (E.den F')=l1:=agr l1 _ ⟨F.vs,hvs',hr.nv⟩;have a3:z.bs.map (fun b=>F'.bs.getD b ⟨0,0,none⟩)=z.bs.map (fun b=>F.bs.getD b ⟨0,0,none⟩):=List.map_congr_left fun b hb=>by
   rw[hbs']
   have:b<F.bs.length:=by rw[hr.nb];simp_all
   grind
  have a4:(nz st.nb m1.length).map (fun b=>F'.bs.getD b ⟨0,0,none⟩)=m1:=adt m1 _ ⟨F.bs,hbs',hr.nb⟩;simp only[List.take_zero,List.nil_append,List.map_append,a1,a2,a3,a4]
  rw[<- hv0,<- hb0,<- hl1,<- hm1]
 have hn':z'.n0<=F'.vs.length:=by omega
 have hb':z'.b0<=F'.bs.length:=by omega
 have hlenv:z'.n0+z'.es.length=y.2.nv:=by simp_all[List.length_append,aLT]
 have hlenb:z'.b0+z'.bs.length=y.2.nb:=by simp_all[List.length_append,aGJ]
 have hblkE:∀i,i<y.2.nb->F'.blk (bW z'.b0 z'.bs i)=F1.blk i/\F'.off (bW z'.b0 z'.bs i)=F1.off i/\F'.nil (bW z'.b0 z'.bs i)=F1.nil i:=by
  grind[kd,C3,aal]
 have hsub1:∀i,i<s.st.nb->bW 0 z'.bs i=bW 0 z.bs i:=by
  simp_all[bW,Nat.blt,dp,dr,Nat.sub_zero,Nat.sub_eq,List.getElem?_append_left]
 have hsub2:∀j,j<m1.length->bW 0 z'.bs (s.st.nb+j)=st.nb+j:=by
  intro j hj;unfold bW
  rw[hzbs]
  have hlt:¬Nat.blt (s.st.nb+j) 0=true:=by simp_all
  simp only[dr,Nat.sub_zero,Nat.sub_eq]
  rw[List.getElem?_append_right (by omega)]
  have h1:s.st.nb+j-z.bs.length=j:=by omega
  have h2:=adu m1.length st.nb j hj;grind[dr,absurd]
 have hcase:∀k b,(uP z st s.st y).2.heap.get k=some b->
   (st.heap.get k=some b/\k<st.nb/\∀m,fA s.st.heap m->bW 0 z.bs m≠k)\/
   (∃i,i<y.2.nb/\bW 0 z'.bs i=k/\k<st.nb+m1.length/\b=lh z' (y.2.heap.get i)/\(i<s.st.nb->fA s.st.heap i)):=by
  intro k b hk;have hk':(qV z' y.2.heap m1.length s.st.nb st.nb (lL z' s.st.heap y.2.heap s.st.nb 0 st.heap)).get k=some b:=by
   rw[hm1n,hz'];exact hk
  rcases abF _ _ _ _ _ _ hk' with⟨h1,h2⟩|⟨j,h1,h2,h3⟩
  ·rcases M8 _ _ _ _ _ h1 with⟨h3,h4⟩|⟨m,h3,h4,h5,h6,h7⟩
   ·left
    refine⟨h3,(hr.blk k b h3).1,fun m hm=>?_⟩
    obtain⟨p,hp,hg⟩:=hm
    have hlt:=(p7 m p hp hg).1
    rw[<- hsub1 m hlt]
    exact h4 m (Nat.zero_le _) (by omega) ⟨p,hp,hg⟩
   ·right
    refine⟨m,by omega,h6,?_,h7,fun _=>h5⟩
    obtain⟨p,hp,hg⟩:=h5
    obtain⟨hlt,x,hx,_⟩:=p7 m p hp hg
    rw[hsub1 m hlt]at h6
    have:=(hr.blk _ _ hx).1
    omega
  grind
 have hreal1:∀ {i:Nat} {q:Blk},y.2.heap.get i=some q->((q.obj.sub z').real F'↔q.obj.real F1):=by
  intro i q hq
  rw[<- henv]
  refine SObj.sub_real hn' hb' ?_
  rw[hlenv,hlenb]
  simp only[St.scp,Bool.and_eq_true]at t3;exact T.all_get _ t3.2 i q hq
 have hfree1:∀r,fW ⟨B.w0,bE s F (z.env F) w⟩ F1 r->fW B F' r:=by
  rintro r ⟨h1,h2⟩
  refine⟨by simp_all,?_⟩
  cases hq:B.fr r with
  |none=>rfl
  |some o=>
   simp_all
 have hpinner:∀ {i:Nat} {p:Blk} {r:Nat},s.st.heap.get i=some p->p.obj.inner (z.env F) r->∃x,st.heap.get (bW 0 z.bs i)=some x/\x.obj.inner F r:=by
  intro i p r hp hin;have hg:p.obj≠.gone:=by intro e;rw[e]at hin;exact hin
  obtain⟨_,x,hx,_,_,hxi⟩:=p7 i p hp hg
  refine⟨x,hx,hxi F r ((SObj.sub_inner (by omega) (by omega) ?_).2 hin)⟩
  rw[p1,p2,Nat.zero_add,Nat.zero_add,p3,p4]
  simp only[St.scp,Bool.and_eq_true]at g1;exact T.all_get _ g1.2 i p hp
 have hother:∀k b,st.heap.get k=some b->(∀m,fA s.st.heap m->bW 0 z.bs m≠k)->b.obj.real F->w'.heap[F.blk k]?=w.heap[F.blk k]?/\(b.own=true->bE s F (z.env F) w (F.blk k)≠none):=by
  intro k b hb hno hl
  obtain⟨k1,k2,k3⟩:=hr.blk k b hb
  have hlt:=k2.lt hl;have hsome:w.heap[F.blk k]?=some w.heap[F.blk k]:=Array.getElem?_eq_getElem hlt;have hnf:b.own=true->¬vz s (z.env F) (F.blk k):=by
   rintro ob ⟨i,p,hp,⟨hreal,e⟩|hpin⟩
   rotate_left
   ·obtain⟨x,hx,hxr⟩:=hpinner hp hpin
    exact((hr.inn _ x hx _ hxr).2 k b hb).1 hl rfl
   have hi:i<s.st.nb:=(p7 i p hp (zg hreal)).1
   obtain⟨_,x,hx,ho,hoe,_⟩:=p7 i p hp (zg hreal)
   rw[kd (by omega) i (by omega),p2]at e
   have hxr:x.obj.real F:=by
    refine(hoe F w _ _ _ (hr.blk _ x hx).2.1).2 ?_
    refine(SObj.sub_real (by omega) (by omega) ?_).2 hreal
    rw[p1,p2,Nat.zero_add,Nat.zero_add,p3,p4]
    simp only[St.scp,Bool.and_eq_true]at g1;exact T.all_get _ g1.2 i p hp
   exact hr.inj _ _ _ _ hx hb hxr hl (by grind) ob (hno i ⟨p,hp,zg hreal⟩) e
  have hrest:bE s F (z.env F) w (F.blk k)≠none->w'.heap[F.blk k]?=w.heap[F.blk k]?:=by
   intro h;cases hq:bE s F (z.env F) w (F.blk k)with
   |none=>simp_all
   |some o=>rw[hr1.fr _ o hq,(hrestW _ o hq).1]
  cases ob:b.own with
  |true=>
   have hfree:=(k3 hl).1 ob;have hne:bE s F (z.env F) w (F.blk k)≠none:=by
    unfold bE
    rw[if_neg (hnf ob),hfree.1]
    simp_all
   simp_all
  |false=>
   refine⟨?_,fun h=>by cases h⟩
   have hnfree:¬fW B F (F.blk k):=fun h=>by simp_all
   cases hq:F.fz (F.blk k)with
   |some o=>
    rw[hr.fz _ o hq,hr1.fz _ o (he1.fz _ o hq)]
   |none=>
    cases hq2:B.fr (F.blk k)with
    |none=>exact absurd ⟨hq,hq2⟩ hnfree
    |some o=>simp_all
 have hscpE:st.scp=true:=hst;have hother2:∀k b,st.heap.get k=some b->(∀m,fA s.st.heap m->bW 0 z.bs m≠k)->∀r,b.obj.inner F r->w'.heap[r]?=w.heap[r]?/\bE s F (z.env F) w r≠none:=by
  intro k b hb hno r hbr
  obtain⟨f1,f2⟩:=hr.inn k b hb r hbr
  have hsome:w.heap[r]?=some (w.heap[r]'((hr.blk k b hb).2.1.inner_lt hbr)):=Array.getElem?_eq_getElem _;have hnf:¬vz s (z.env F) r:=by
   rintro⟨i,p,hp,⟨hreal,e⟩|hpin⟩
   ·have hi:i<s.st.nb:=(p7 i p hp (zg hreal)).1
    obtain⟨_,x,hx,ho,hoe,_⟩:=p7 i p hp (zg hreal)
    rw[kd (by omega) i (by omega),p2]at e
    have hxr:x.obj.real F:=by
     refine(hoe F w _ _ _ (hr.blk _ x hx).2.1).2 ?_
     refine(SObj.sub_real (by omega) (by omega) ?_).2 hreal
     rw[p1,p2,Nat.zero_add,Nat.zero_add,p3,p4]
     simp only[St.scp,Bool.and_eq_true]at g1;exact T.all_get _ g1.2 i p hp
    simp_all
   ·obtain⟨x,hx,hxr⟩:=hpinner hp hpin
    have hg:p.obj≠.gone:=by intro e;rw[e]at hpin;exact hpin
    exact(f2 _ x hx).2 (hno i ⟨p,hp,hg⟩) hxr
  have hne:bE s F (z.env F) w r=some (w.heap[r]'((hr.blk k b hb).2.1.inner_lt hbr)):=by
   unfold bE
   rw[if_neg hnf,f1.1]
   omega
  refine⟨?_,by simp_all⟩
  rw[hr1.fr _ _ hne,hsome]
 have hinn1:∀ {i:Nat} {q:Blk} {r:Nat},y.2.heap.get i=some q->((q.obj.sub z').inner F' r↔q.obj.inner F1 r):=by
  intro i q r hq
  rw[<- henv]
  refine SObj.sub_inner hn' hb' ?_
  rw[hlenv,hlenb]
  simp only[St.scp,Bool.and_eq_true]at t3;exact T.all_get _ t3.2 i q hq
 have hasIn:∀ {i r:Nat},(lh z' (y.2.heap.get i)).obj.inner F' r->∃q,y.2.heap.get i=some q/\q.obj.inner F1 r:=by
  intro i r h;cases hq:y.2.heap.get i with
  |none=>rw[hq]at h;exact h.elim
  |some q=>rw[hq]at h;exact⟨q,rfl,(hinn1 hq).1 h⟩
 have hasReal:∀ {i:Nat},(lh z' (y.2.heap.get i)).obj.real F'->∃q,y.2.heap.get i=some q/\q.obj.real F1:=by
  intro i h;cases hq:y.2.heap.get i with
  |none=>rw[hq]at h;exact h.elim
  |some q=>rw[hq]at h;exact⟨q,rfl,(hreal1 hq).1 h⟩
 have hinnF:Inn B F' (uP z st s.st y).2.heap:=by
  intro k b hk r hbr;rcases hcase k b hk with⟨h1,h2,h3⟩|⟨i,h1,h2,h3,h4,h5⟩
  ·have hsc:=hr.blk_scp hscpE h1;have hbr':=(SObj.inner_ext hext hsc).1 hbr
   obtain⟨f1,f2⟩:=hr.inn k b h1 r hbr'
   obtain⟨w1,w2⟩:=hother2 k b h1 h3 r hbr'
   refine⟨⟨?_,f1.2⟩,fun j b' hj=>?_⟩
   ·rw[hfz']
    cases hq:bE s F (z.env F) w r with
    |none=>exact absurd hq w2
    |some o=>exact hr1.dj _ o hq
   ·rcases hcase j b' hj with⟨m1',m2',m3'⟩|⟨i',m1',m2',m3',m4',m5'⟩
    ·have hsc':=hr.blk_scp hscpE m1';have hlt:j<F.bs.length:=by rw[hr.nb];exact m2'
     obtain⟨u1,u2⟩:=f2 j b' m1'
     exact⟨fun hl=>by rw[hext.blk hlt];exact u1 ((SObj.real_ext hext hsc').1 hl),fun hjk hx=>u2 hjk ((SObj.inner_ext hext hsc').1 hx)⟩
    ·rw[m4']
     refine⟨fun hl e=>?_,fun _ hx=>?_⟩
     ·obtain⟨q,hq,hql⟩:=hasReal hl
      obtain⟨_,_,k3⟩:=hr1.blk i' q hq
      have hfree:=(k3 hql).1 (un t5 hq)
      obtain⟨e1,_,_⟩:=hblkE i' m1'
      rw[hz1,m2']at e1
      rw[e1]at e
      rw[e]at hfree
      exact w2 hfree.2
     ·obtain⟨q,hq,hqr⟩:=hasIn hx
      exact w2 (hr1.inn i' q hq r hqr).1.2
  ·rw[h4]at hbr
   obtain⟨q,hq,hqr⟩:=hasIn hbr
   obtain⟨f1,f2⟩:=hr1.inn i q hq r hqr
   have hf:=hfree1 r f1
   refine⟨hf,fun j b' hj=>?_⟩
   rcases hcase j b' hj with⟨m1',m2',m3'⟩|⟨i',m1',m2',m3',m4',m5'⟩
   ·have hsc':=hr.blk_scp hscpE m1';have hlt:j<F.bs.length:=by rw[hr.nb];exact m2'
    refine⟨fun hl e=>?_,fun _ hx=>?_⟩
    ·have hl':=(SObj.real_ext hext hsc').1 hl
     rw[hext.blk hlt]at e
     obtain⟨_,_,k3⟩:=hr.blk j b' m1'
     have hfr:fW B F (F.blk j):=by
      rw[e]
      refine⟨?_,hf.2⟩
      cases hq2:F.fz r with
      |none=>rfl
      |some o=>have:=hf.1;rw[hfz',he1.fz _ o hq2]at this;cases this
     have:=(hother j b' m1' m3' hl').2 ((k3 hl').2 hfr)
     rw[e]at this
     exact this f1.2
    ·exact(hother2 j b' m1' m3' r ((SObj.inner_ext hext hsc').1 hx)).2 f1.2
   ·rw[m4']
    refine⟨fun hl e=>?_,fun hjk hx=>?_⟩
    ·obtain⟨q',hq',hql⟩:=hasReal hl
     obtain⟨e1,_,_⟩:=hblkE i' m1'
     rw[hz1,m2']at e1
     rw[e1]at e
     exact(f2 i' q' hq').1 hql e
    ·obtain⟨q',hq',hqr'⟩:=hasIn hx
     exact(f2 i' q' hq').2 (fun e=>hjk (by rw[<- m2',<- h2,e])) hqr'
 have hrep:RepW B F' (uP z st s.st y).2 w':=by
  refine⟨?_,?_,?_,?_,?_,hinnF,?_,?_,?_,hr1.os,hr1.tape,hr1.output⟩
  ·rw[hvs',List.length_append,hr.nv,hl1n];rfl
  ·rw[hbs',List.length_append,hr.nb,hm1n];rfl
  ·intro e he;have he':e∈y6 z' st.pc y.2.pc:=by rw[hz'];exact he
   rcases aee _ _ he' with⟨x,hx,rfl⟩|he
   ·rw[E.sub_B hn' (by rw[hlenv];simp only[St.scp,Bool.and_eq_true]at t3;exact Eh _ t3.1 x hx),henv]
    exact hr1.pc x hx
   ·exact hr.ext_pc hscpE hext e he
  ·intro k b hk;rcases hcase k b hk with⟨h1,h2,h3⟩|⟨i,h1,h2,h3,h4,h5⟩
   ·have hsc:=hr.blk_scp hscpE h1
    obtain⟨k1,k2,k3⟩:=hr.blk k b h1
    have hlt:k<F.bs.length:=by rw[hr.nb];exact h2
    refine⟨by show k<Nat.add st.nb _;simp;omega,?_,fun hl=>?_⟩
    ·rw[hext.blk hlt,hext.off hlt,hext.nil hlt]
     exact(k2.ext hext hsc).world (fun hl=>(hother k b h1 h3 ((SObj.real_ext hext hsc).1 hl)).1) (fun x hx=>(hother2 k b h1 h3 x ((SObj.inner_ext hext hsc).1 hx)).1)
    ·have hl':=(SObj.real_ext hext hsc).1 hl
     rw[hext.blk hlt]
     obtain⟨w1,w2⟩:=hother k b h1 h3 hl'
     constructor
     ·intro ob;have hfree:=(k3 hl').1 ob
      refine⟨?_,hfree.2⟩
      rw[hfz']
      cases hq:bE s F (z.env F) w (F.blk k)with
      |none=>exact absurd hq (w2 ob)
      |some o=>exact hr1.dj _ o hq
     ·rintro⟨hf1,hf2⟩
      refine(k3 hl').2 ⟨?_,hf2⟩
      cases hq:F.fz (F.blk k)with
      |none=>rfl
      |some o=>rw[hfz',he1.fz _ o hq]at hf1;cases hf1
   ·refine⟨?_,?_,?_⟩
    ·show k<Nat.add st.nb _
     rw[hm1n]at h3
     exact h3
    ·cases hq:y.2.heap.get i with
     |none=>rw[h4,hq];trivial
     |some q=>
      rw[h4,hq]
      obtain⟨k1,k2,k3⟩:=hr1.blk i q hq
      obtain⟨e1,e2,e3⟩:=hblkE i h1
      rw[hz1,h2]at e1 e2 e3
      rw[e1,e2,e3]
      refine SObj.rep_sub hn' hb' ?_ (by rw[henv];exact k2)
      rw[hlenv,hlenb]
      simp only[St.scp,Bool.and_eq_true]at t3;exact T.all_get _ t3.2 i q hq
    ·intro hl;cases hq:y.2.heap.get i with
     |none=>rw[h4,hq]at hl;cases hl
     |some q=>
      rw[h4,hq]at hl ⊢
      have hl':=(hreal1 hq).1 hl
      obtain⟨k1,k2,k3⟩:=hr1.blk i q hq
      obtain⟨e1,_,_⟩:=hblkE i h1
      rw[hz1,h2]at e1
      rw[e1]
      exact⟨fun _=>hfree1 _ ((k3 hl').1 (un t5 hq)),fun _=>rfl⟩
  ·intro i j a b ha hb la lb oa ob hij;have key:∀k k' c d,st.heap.get k=some c->k<st.nb->(∀m,fA s.st.heap m->bW 0 z.bs m≠k)->c.own=true->c.obj.real F'->∀i',i'<y.2.nb->bW 0 z'.bs i'=k'->d=lh z' (y.2.heap.get i')->d.obj.real F'->F'.blk k≠F'.blk k':=by
    intro k k' c d hc hk hno oc lc i' hi' hk' hd ld e;have hsc:=hr.blk_scp hscpE hc;have lc':=(SObj.real_ext hext hsc).1 lc;have hlt:k<F.bs.length:=by rw[hr.nb];exact hk
    cases hq:y.2.heap.get i' with
    |none=>rw[hd,hq]at ld;cases ld
    |some q=>
     rw[hd,hq]at ld
     have ld':=(hreal1 hq).1 ld
     obtain⟨_,_,k3⟩:=hr1.blk i' q hq
     have hfree:=(k3 ld').1 (un t5 hq)
     obtain⟨e1,_,_⟩:=hblkE i' hi'
     rw[hz1,hk']at e1
     rw[hext.blk hlt,e1]at e
     exact(hother k c hc hno lc').2 oc (by rw[e];exact hfree.2)
   rcases hcase i a ha with⟨h1,h2,h3⟩|⟨i',h1,h2,h3,h4,h5⟩
   ·rcases hcase j b hb with⟨h1',h2',h3'⟩|⟨j',h1',h2',h3',h4',h5'⟩
    ·have hlt:i<F.bs.length:=by rw[hr.nb];exact h2
     have hlt':j<F.bs.length:=by rw[hr.nb];exact h2'
     rw[hext.blk hlt,hext.blk hlt']
     exact hr.inj i j a b h1 h1' ((SObj.real_ext hext (hr.blk_scp hscpE h1)).1 la) ((SObj.real_ext hext (hr.blk_scp hscpE h1')).1 lb) oa ob hij
    ·exact key i j a b h1 h2 h3 oa la j' h1' h2' h4' lb
   ·rcases hcase j b hb with⟨h1',h2',h3'⟩|⟨j',h1',h2',h3',h4',h5'⟩
    ·exact fun e=>key j i b a h1' h2' h3' ob lb i' h1 h2 h4 la e.symm
    ·cases hq:y.2.heap.get i' with
     |none=>rw[h4,hq]at la;cases la
     |some q=>
      cases hq':y.2.heap.get j' with
      |none=>rw[h4',hq']at lb;cases lb
      |some q'=>
       rw[h4,hq]at la
       rw[h4',hq']at lb
       obtain⟨e1,_,_⟩:=hblkE i' h1
       obtain⟨e2,_,_⟩:=hblkE j' h1'
       rw[hz1,h2]at e1
       rw[hz1,h2']at e2
       rw[e1,e2]
       refine hr1.inj i' j' q q' hq hq' ((hreal1 hq).1 la) ((hreal1 hq').1 lb) (un t5 hq) (un t5 hq') fun e=>?_
       subst e;exact hij (h2.symm.trans h2')
  ·intro r o ho
   rw[hfz']at ho
   exact hr1.fz r o ho
  ·intro r o ho;exact hr1.fr r o (hBrest r o ho)
  ·intro r o ho
   rw[hfz']
   exact hr1.dj r o (hBrest r o ho)
 grind[uP,ML,SV.sub_den,SV.sub_ok,afp]
theorem adV{tb:Tab}{ms:List FM}{s:Pact}:∀(os:List Out),EJ tb ms s os=true->∀o∈os,∃v l r,o.tmps=.node v l r/\Ms tb.facts s (nf ms tb.facts (v,o.st))=true
 |[],_,o,ho=>by cases ho
 |x::xs,h,o,ho=>by
  simp only[EJ]at h;split at h
  ·split at h
   ·cases ho with
    |head=>simp_all
    |tail _ hm=>exact adV xs h o hm
   ·cases h
  ·cases h
theorem aF1{fs:List E}{F:Env}(hf:∀e∈fs,∀F,e.B F=true):∀ {l:List (SV×St)} {p:SV×St},p∈l->(∀e∈p.2.pc,e.B F=true)->p∈yC fs l:=by
 intro l p hp hpc;induction l with
 |nil=>cases hp
 |cons q qs ih=>
  unfold yC;rcases List.mem_cons.1 hp with rfl|hp
  ·have:LS fs p=true:=by
    unfold LS;split
    ·rfl
    ·split
     ·rename_i b hb;have h1:=dv (F:=F) hf (fun e he=>hpc e (by simp_all)) hb;simp_all[gh]
     rfl
   simp_all
  grind
theorem aJM{P:Program}{s:Pact}(hs:s.good=true)(hS:Uh P s):aR P (bj s):=by
 intro fs hf args st l hl B F w R hr hao hK
 obtain⟨h1,h2⟩:=SV.norms_ok hr _
 have hl':Ni s fs _ st=.outs l:=hl;unfold Ni at hl';split at hl'
 ·rename_i l0 hl0;simp only[NatR.outs.injEq]at hl';subst hl'
  have:=aJL hs hS fs hf _ _ l0 hl0 B F w R hr.norm (h2 hao) (fun p hp F' w' hx hrep=>hK p (aF1 hf hp hrep.pc) _ w' hx hrep)
  rw[h1]at this
  exact this
 all_goals simp_all
theorem afq{P:Program}(hP:kq P=true){facts:List E}(hf:∀e∈facts,∀F,e.B F=true){anns:List Ann}(ha:∀x∈anns,fB P x){nats:List Nat1}(hn:∀x∈nats,aR P x){n:Nat}{ms:List FM}{s:Pact}
  (h:lQ P (fun tb=>Nh P (tb.plus facts anns nats) n ms s)=true):aR P (bj s):=by
 rw[NW]at h
 unfold Nh at h;split at h;case h_2=>cases h
 rename_i hg;split at h;case h_2=>cases h
 rename_i os hos;refine aJM hg ?_;intro B F w R hr hao hK
 refine(M1 hP hf ha hn n).call _ _ _ _ _ _ hos B F w _ hr hao ?_
 intro o F' w' os' v l r e1 e2 e3 e4 e5 e6
 obtain⟨v',l',r',k1,k2⟩:=adV _ h o (e2 o (by grind))
 rw[e5]at k1
 obtain⟨rfl,_,_⟩:=k1
 obtain⟨F',hxf,e4,e6,hdf⟩:=aa0 (ms:=ms) hf (p:=(v,o.st)) e4 e6
 have e3:=e3.trans hxf
 rw[show v.den _=_ from hdf.symm]
 have k2:Ms _ s (nf ms facts _)=true:=k2;generalize nf ms _ _=q at k2 e4 e6 ⊢
 obtain⟨v,st1⟩:=q
 have hT:TmRep F' (iU v) ⟨#[v.den F'],[]⟩:=by
  refine⟨rfl,fun i hi=>?_,fun i u hu=>?_⟩
  ·cases i with
   |zero=>cases hi
   |succ i=>simp
  ·cases i with
   |zero=>cases hu;simp_all
   |succ i=>
    simp only[iU]at hu
    rw[T.get_succ]at hu
    split at hu<;>cases hu
 obtain⟨y,hy,F3,j1,j2,j3⟩:=Eb (F0:=F) hf e4 hT e3 hr.nv hr.nb _ k2
 obtain⟨x,hx,hj,rfl⟩:=Cn _ _ hy
 obtain⟨u,hu1,hu2⟩:=j3.2.2 0 _ rfl
 grind
end Go.SX

namespace Go.SX
end Go.SX

namespace Go.SX
def iceAll(B:Base)(w:World)(r:Nat):Option Obj:=match B.fr r with
 |none=>w.heap[r]?
 |some _=>none
def Env.lnt(F:Env)(B:Base)(w:World)(l:List U):Env:=⟨F.vs++l,F.bs,iceAll B w⟩
theorem RepW.iceExt{B:Base}{F:Env}{st:St}{w:World}(h:RepW B F st w)(l:List U):F.Ext (F.lnt B w l):=
 ⟨⟨l,rfl⟩,⟨[],by simp[Env.lnt]⟩,fun r o hr=>by
  show iceAll B w r=some o;unfold iceAll;split
  ·exact h.fz r o hr
  ·rename_i o' ho
   rw[h.dj r o' ho]at hr;cases hr⟩
theorem Env.lnt_more(F:Env)(B:Base)(w:World)(l l':List U):(F.lnt B w l).Ext (F.lnt B w (l++l')):=
 ⟨⟨l',by simp[Env.lnt]⟩,⟨[],by simp[Env.lnt]⟩,fun _ _ h=>h⟩
theorem T.get_none{G:Type}(i:Nat):(T.nil:T G).get i=none:=by cases i<;>rfl
theorem RepW.iceAll{B:Base}{F:Env}{st:St}{w:World}(h:RepW B F st w)(hs:st.scp=true)(l:List U):RepW B (F.lnt B w l) ⟨st.nv+l.length,st.nb,.nil,st.pc⟩ w:=by
 refine⟨by simp[Env.lnt,h.nv],h.nb,h.ext_pc hs (h.iceExt l),fun i b hb=>?_,fun i j a b ha=>?_,fun i b hb=>?_,fun r o ho=>?_,h.fr,fun r o ho=>?_,h.os,h.tape,h.output⟩
 ·have hb:(T.nil:T Blk).get i=some b:=hb
  rw[T.get_none]at hb;cases hb
 ·have ha:(T.nil:T Blk).get i=some a:=ha
  rw[T.get_none]at ha;cases ha
 ·have hb:(T.nil:T Blk).get i=some b:=hb
  rw[T.get_none]at hb;cases hb
 ·have ho:Go.SX.iceAll B w r=some o:=ho;unfold Go.SX.iceAll at ho;split at ho
  ·exact ho
  ·cases ho
 ·show Go.SX.iceAll B w r=none;unfold Go.SX.iceAll
  rw[ho]
theorem E.den_vs{F F':Env}(h:F'.vs=F.vs)(e:E):e.den F'=e.den F:=by
 induction e<;>simp_all[E.den]
theorem RepW.lent{B:Base}{F F':Env}{st st':St}{w w':World}(h:RepW B F st w)(hs:st.scp=true)(h':RepW B F' st' w'){l:List U}(hx:(F.lnt B w l).Ext F'):
  F.Ext ⟨F'.vs,F'.bs,F.fz⟩/\RepW B ⟨F'.vs,F'.bs,F.fz⟩ ⟨st'.nv,st'.nb,st.heap,st'.pc⟩ w':=by
 have he:F.Ext ⟨F'.vs,F'.bs,F.fz⟩:=⟨((h.iceExt l).trans hx).vs,((h.iceExt l).trans hx).bs,fun _ _ h=>h⟩;have hw:∀(r:Nat)(o:Obj),w.heap[r]?=some o->w'.heap[r]?=some o:=by
  intro r o ho;cases hf:B.fr r with
  |some o'=>
   have h1:=h.fr r o' hf
   rw[ho]at h1
   rw[h'.fr r o' hf,h1]
  |none=>
   refine h'.fz r o (hx.fz r o ?_);show Go.SX.iceAll B w r=some o;unfold Go.SX.iceAll
   rw[hf];exact ho
 have hw2:∀(r:Nat),r<w.heap.size->w'.heap[r]?=w.heap[r]?:=fun r hr=>by
  rw[Array.getElem?_eq_getElem hr];exact hw r _ (Array.getElem?_eq_getElem hr)
 have hlt:∀ {i b},st.heap.get i=some b->i<F.bs.length:=fun hb=>by rw[h.nb];exact(h.blk _ _ hb).1
 refine⟨he,h'.nv,h'.nb,fun e hm=>?_,fun i b hb=>?_,fun i j a b ha hb la lb oa ob hij=>?_,h.inn.next (fun i b hb=>.inl ⟨b,hb,(SObj.real_ext he (h.blk_scp hs hb)).1,he.blk (hlt hb),fun r=>(SObj.inner_ext he (h.blk_scp hs hb)).1⟩) (fun _ _ hf=>hf),
  fun r o ho=>hw r o (h.fz r o ho),h'.fr,h.dj,h'.os,h'.tape,h'.output⟩
 ·show(e.den _).toB=true
  rw[E.den_vs (F:=F') (F':=⟨F'.vs,F'.bs,F.fz⟩) rfl e]
  exact h'.pc e hm
 ·obtain⟨h1,h2,h3⟩:=h.blk i b hb
  have hsc:=h.blk_scp hs hb;have hl:=hlt hb
  refine⟨?_,?_,fun hl'=>?_⟩
  ·obtain⟨l,hl2⟩:=he.bs
   show i<st'.nb
   rw[<- h'.nb]
   have:F'.bs=F.bs++l:=hl2
   rw[this];simp;omega
  ·rw[he.blk hl,he.off hl,he.nil hl]
   exact(h2.world (fun hq=>hw2 _ (h2.lt hq)) (fun x hx=>hw2 _ (h2.inner_lt hx))).ext he hsc
  ·rw[he.blk hl];exact h3 ((SObj.real_ext he hsc).1 hl')
 ·rw[he.blk (hlt ha),he.blk (hlt hb)]
  exact h.inj i j a b ha hb ((SObj.real_ext he (h.blk_scp hs ha)).1 la) ((SObj.real_ext he (h.blk_scp hs hb)).1 lb) oa ob hij
section
variable {B:Base} {F:Env} {st:St} {w:World}
theorem aHv(hr:RepW B F st w){ks:List CK}:∀ {u:U},(∀r,gk u=some r->fW B F r)->rowN F.fz w ks u->SlOk (iceAll B w) ks u
 |.bx none _ _ _,_,h=>by
  obtain⟨rfl,rfl,rfl⟩:=h
  exact .nil
 |.bx (some a) _ 0 _,_,h=>by
  obtain⟨rfl,rfl⟩:=h
  exact .empty a
 |.bx (some a) n (c+1) l,hf,h=>by
  obtain⟨h1,h2,h3,arr,el,h4,h5,h6⟩:=h
  have hfr:=(hf a.block rfl).2
  rw[h1]
  refine SlOk.mk (arr:=arr) (elem:=el) (fr:=(0,0)) h2 h3 (fun _=>?_) (fun i x hi=>?_) (fun i x ks' hi hk=>?_)
  ·unfold iceAll
   rw[hfr];exact h4
  ·obtain⟨cc,c1,c2,_⟩:=h6 i x hi
   exact⟨cc,c1,by rw[Nat.zero_add];exact c2⟩
  ·obtain⟨cc,c1,_,c3⟩:=h6 i x hi
   rw[hk]at c1
   simp only[Option.some.injEq]at c1;subst c1;exact SlOk.mono (hr.iceExt []).fz c3
 |.int _,_,h=>h.elim
 |.bool _,_,h=>h.elim
 |.str _,_,h=>h.elim
 |.lst _,_,h=>h.elim
variable (B F st w) in
def si(l:List U)(v:SV)(p:SV×Nat):Prop:=∃l',p.2=st.nv+(l++l').length/\p.1.ok (F.lnt B w (l++l'))/\p.1.den (F.lnt B w (l++l'))=v.den F
variable (hr:RepW B F st w)
include hr
theorem yA(l:List U){v:SV}(hsc:v.scp st.nv st.nb=true)(hv:v.ok F):si B F st w l v (v,st.nv+l.length):=by
 rw[<- hr.nv,<- hr.nb]at hsc
 exact⟨[],by simp,SV.ok_ext (hr.iceExt _) v hsc hv,SV.scoped_den (hr.iceExt _) _ hsc⟩
theorem abX(li:List U){b:Nat}{ks:List CK}{l n len cap ag:E}
  (hsc:(SV.nslice b len cap).scp st.nv st.nb=true)(hl:l.scp st.nv=true)(hok:n=len->cap=ag->SlOk (iceAll B w) ks (.bx (F.base b) (len.I F).toNat (cap.I F).toNat (l.L F))):
  si B F st w li (.nslice b len cap) (DY ks l n len cap ag (.nslice b len cap) (st.nv+li.length)):=by
 unfold DY;split
 ·rename_i hb
  rw[Bool.and_eq_true]at hb
  have hok:=hok (E.beq_eq hb.1) (E.beq_eq hb.2);let u:U:=.bx (F.base b) 0 (cap.I F).toNat []
  have hx:=hr.iceExt (li++[u]);have hsc':Bool.rec _ _ _=true:=hsc
  rw[cm,cm,Bool.and_eq_true,Bool.and_eq_true,dp,<- hr.nv]at hsc'
  rw[<- hr.nv]at hl
  have eI:len.I _=len.I F:=E.scoped_I hx hsc'.2.1;have eL:l.L _=l.L F:=E.scoped_L hx hl;have eu:(E.var (st.nv+li.length)).den (F.lnt B w (li++[u]))=u:=by
   show(F.vs++(li++[u])).getD _ _=u
   rw[<- hr.nv,<- List.append_assoc];simp[List.getD]
  have eden:(E.fn 28 (.pr (.pr (.var (st.nv+li.length)) len) l)).den (F.lnt B w (li++[u]))=.bx (F.base b) (len.I F).toNat (cap.I F).toNat (l.L F):=by
   show U.bx ((E.var _).den _).adr (len.I _).toNat ((E.var _).den _).rcap (l.L _)=_
   rw[eu,eI,eL];rfl
  refine⟨[u],by simp;omega,?_,?_⟩
  ·show SlOk _ ks _
   rw[eden];exact hok
  ·show((E.fn 28 _).den _).raw=.slice _ _ _
   rw[eden];rfl
 ·exact yA hr li hsc trivial
theorem aFW(hs:st.scp=true)(li:List U)(ks0:List CK){v:SV}(hsc:v.scp st.nv st.nb=true)(hv:v.ok F):si B F st w li v (LO st.heap ks0 v (st.nv+li.length)):=by
 unfold LO;split
 ·refine⟨[],by simp,?_,rfl⟩
  show SlOk _ ks0 (.bx none 0 0 []);exact .nil
 ·rename_i b len cap;split
  ·rename_i ks l n ag elem hb;have hbs:=hr.blk_scp hs hb;simp only[SObj.scp,Bool.and_eq_true]at hbs;refine abX hr li hsc (by rw[<- hr.nv];exact hbs.1) fun en ec=>?_
   subst en;subst ec
   obtain⟨hlt,⟨k0,k1,k2,k3,k4⟩,hown⟩:=hr.blk _ _ hb
   have hlen5:(l.L F).length=(n.I F).toNat*ks.length:=by grind
   by_cases ht:0<cap.I F
   ·obtain⟨hnil,hoff,arr,ha,hfl,hsz⟩:=k4 ht
    have hbase:F.base b=some ⟨F.blk b,0,none⟩:=by simp_all[dS]
    rw[hbase]
    have hfl':=hfl.mono (hr.iceExt []).fz;refine SlOk.mk (arr:=arr) (elem:=elem) (fr:=(0,0)) hlen5 (by omega) ?_ ?_ ?_
    ·intro _;unfold iceAll
     rw[((hown ht).1 rfl).2];exact ha
    ·intro i x hi
     obtain⟨c,c1,c2,_⟩:=hfl' i x hi
     simp_all
    ·intro i x ks' hi hk
     obtain⟨c,c1,_,c3⟩:=hfl' i x hi
     rw[hk]at c1
     simp only[Option.some.injEq]at c1;subst c1;exact c3
   ·have e0:(n.I F).toNat=0:=by omega
    have e1:(cap.I F).toNat=0:=by omega
    have e2:l.L F=[]:=List.length_eq_zero_iff.1 (by simp_all)
    rw[e0,e1,e2]
    cases hbase:F.base b with
    |none=>exact SlOk.nil
    |some a=>exact SlOk.empty _
  ·rename_i ks l n ag elem ow hb;have hbs:=hr.blk_scp hs hb;simp only[SObj.scp,Bool.and_eq_true]at hbs;refine abX hr li hsc (by rw[<- hr.nv];exact hbs.1) fun en ec=>?_
   subst en;subst ec
   obtain⟨hlt,⟨k0,k1,k2,k3,_,k4⟩,hown⟩:=hr.blk _ _ hb
   have hlen5:(l.L F).length=(n.I F).toNat*ks.length:=by grind
   by_cases ht:0<cap.I F
   ·obtain⟨hnil,hoff,arr,ha,hfl,hsz⟩:=k4 ht
    have hbase:F.base b=some ⟨F.blk b,0,none⟩:=by simp_all[dS]
    rw[hbase]
    refine SlOk.mk (arr:=arr) (elem:=elem) (fr:=(0,0)) hlen5 (by omega) ?_ ?_ ?_
    ·intro _;unfold iceAll
     rw[((hown ht).1 rfl).2];exact ha
    ·intro i x hi
     obtain⟨c,c1,c2,_⟩:=hfl i x hi
     exact⟨c,c1,by rw[Nat.zero_add];exact c2⟩
    ·intro i x ks' hi hk
     obtain⟨c,c1,_,c3⟩:=hfl i x hi
     rw[hk]at c1
     simp only[Option.some.injEq]at c1;subst c1;by_cases ho:(i:Int)<ow.I F*ks.length
     ·exact aHv hr (fun r hr'=>(hr.inn _ _ hb r ⟨i,x,ks',hi,hk,hr',ho⟩).1) (c3.1 ho)
     ·exact SlOk.mono (hr.iceExt []).fz (c3.2 ho)
   ·have e0:(n.I F).toNat=0:=by omega
    have e1:(cap.I F).toNat=0:=by omega
    have e2:l.L F=[]:=List.length_eq_zero_iff.1 (by simp_all)
    rw[e0,e1,e2]
    cases hbase:F.base b with
    |none=>exact SlOk.nil
    |some a=>exact SlOk.empty _
  ·exact yA hr li hsc hv
 ·exact yA hr li hsc hv
theorem abZ(hs:st.scp=true)(li:List U)(m:FM){v:SV}(hsc:v.scp st.nv st.nb=true)(hv:v.ok F):si B F st w li v (DZ st.heap m v (st.nv+li.length)):=by
 unfold DZ;split
 ·exact aFW hr hs li _ hsc hv
 ·exact yA hr li hsc hv
omit hr in
variable (B F st w) in
def vY(l:List U)(vs:List SV)(p:List SV×Nat):Prop:=∃l',p.2=st.nv+(l++l').length/\SV.oks (F.lnt B w (l++l')) p.1/\SV.dens (F.lnt B w (l++l')) p.1=SV.dens F vs
theorem tX(l:List U){vs:List SV}(hsc:SV.scps st.nv st.nb vs=true)(hv:SV.oks F vs):vY B F st w l vs (vs,st.nv+l.length):=by
 rw[<- hr.nv,<- hr.nb]at hsc
 exact⟨[],by simp,SV.oks_ext (hr.iceExt _) vs hsc hv,SV.scopeds_den (hr.iceExt _) _ hsc⟩
theorem ab2{li:List U}{v v':SV}{vs:List SV}{nv1:Nat}{p:List SV×Nat}(h1:si B F st w li v (v',nv1))(hsc:v'.scp nv1 st.nb=true)(h2:∀li',nv1=st.nv+li'.length->vY B F st w li' vs p):vY B F st w li (v::vs) (v'::p.1,p.2):=by
 obtain⟨l1,e1,k1,d1⟩:=h1
 obtain⟨l2,e2,k2,d2⟩:=h2 _ e1
 have hx:=Env.lnt_more F B w (li++l1) l2;have hsc':v'.scp (F.lnt B w (li++l1)).vs.length (F.lnt B w (li++l1)).bs.length=true:=by
  have e1:nv1=_:=e1;simp only[Env.lnt,List.length_append,hr.nv,hr.nb]
  rw[e1]at hsc
  simpa using hsc
 refine⟨l1++l2,by rw[<- List.append_assoc];exact e2,?_,?_⟩
 ·rw[<- List.append_assoc]
  exact⟨SV.ok_ext hx v' hsc' k1,k2⟩
 ·rw[<- List.append_assoc]
  show v'.den _::_=v.den F::_
  rw[SV.scoped_den hx _ hsc',d2]
  exact congrArg (·::_) d1
theorem abY(hs:st.scp=true):∀(ms:List FM)(vs:List SV)(li:List U),SV.scps st.nv st.nb vs=true->SV.oks F vs->vY B F st w li vs (tW st.heap st.nb ms vs (st.nv+li.length))
 |[],vs,li,hsc,hv=>by
  unfold tW;exact tX hr li hsc hv
 |m::ms,[],li,hsc,hv=>by
  unfold tW;exact tX hr li hsc hv
 |m::ms,v::vs,li,hsc,hv=>by
  have hsc0:=hsc
  rw[SV.scopeds_cons,Bool.and_eq_true]at hsc
  have h1:=abZ hr hs li m hsc.1 hv.1;unfold tW;split;rename_i v' nv1 he
  rw[he]at h1
  split
  ·rename_i hb;refine ab2 hr h1 hb fun li' e=>?_
   rw[e]
   exact abY hs ms vs li' hsc.2 hv.2
  ·exact tX hr li hsc0 hv
theorem aFX(hs:st.scp=true)(li:List U)(ms:List FM){v:SV}(hsc:v.scp st.nv st.nb=true)(hv:v.ok F):si B F st w li v (LP st.heap st.nb ms v (st.nv+li.length)):=by
 unfold LP;split
 ·rename_i cs
  rw[SV.scoped_agg]at hsc
  obtain⟨l',e1,k1,d1⟩:=abY hr hs ms cs li hsc hv
  refine⟨l',e1,k1,?_⟩
  show Value.agg _=Value.agg _
  rw[d1]
 ·split
  ·exact abZ hr hs li _ hsc hv
  ·exact yA hr li hsc hv
theorem abV(hs:st.scp=true):∀(ms:List (List FM))(vs:List SV)(li:List U),SV.scps st.nv st.nb vs=true->SV.oks F vs->vY B F st w li vs (qZ st.heap st.nb ms vs (st.nv+li.length))
 |[],vs,li,hsc,hv=>by
  unfold qZ;exact tX hr li hsc hv
 |m::ms,[],li,hsc,hv=>by
  unfold qZ;exact tX hr li hsc hv
 |m::ms,v::vs,li,hsc,hv=>by
  have hsc0:=hsc
  rw[SV.scopeds_cons,Bool.and_eq_true]at hsc
  have h1:=aFX hr hs li m hsc.1 hv.1;unfold qZ;split;rename_i v' nv1 he
  rw[he]at h1
  split
  ·rename_i hb;refine ab2 hr h1 hb fun li' e=>?_
   rw[e]
   exact abV hs ms vs li' hsc.2 hv.2
  ·exact tX hr li hsc0 hv
end
theorem abW{h:T Blk}:∀ {l l':List (SV×St)},DX h l=some l'->∀y∈l,E6 y.1=true/\(y.1,(⟨y.2.nv,y.2.nb,h,y.2.pc⟩:St))∈l'
 |[],l',hl,y,hy=>by cases hy
 |x::l,l',hl,y,hy=>by
  unfold DX at hl;split at hl
  ·rename_i hp;split at hl
   ·rename_i l2 h2;simp only[Option.some.injEq]at hl;subst hl;rcases List.mem_cons.1 hy with rfl|hy
    ·exact⟨hp,List.mem_cons_self ..⟩
    ·obtain⟨q1,q2⟩:=abW h2 y hy
     exact⟨q1,List.mem_cons_of_mem _ q2⟩
   ·cases hl
  ·cases hl
theorem plain_ok{v:SV}(h:E6 v=true)(F F':Env)(hv:F'.vs=F.vs):v.ok F'/\v.den F'=v.den F:=by
 cases v<;>simp[E6]at h<;>simp[SV.ok,SV.den,E.I,E.B,E.S,E.den_vs hv]
theorem ab0{P:Program}{mss:List (List FM)}{x:Nat1}(h:aR P x):aR P (aFV mss x):=by
 intro fs hf args st l hl B F w R hr ha hK;have hl':LN mss x fs args st=.outs l:=hl;unfold LN at hl';split at hl'
 ·rename_i hc
  rw[Bool.and_eq_true]at hc
  obtain⟨hs,hsc⟩:=hc
  obtain⟨li,e1,k1,d1⟩:=abV hr hs mss args [] hsc ha
  split at hl';rename_i args' nv' he;have he:qZ st.heap st.nb mss args (st.nv+([]:List U).length)=(args',nv'):=he
  rw[he]at e1 k1 d1
  simp only[List.nil_append]at e1 k1 d1;split at hl'
  ·rename_i l0 h0;split at hl'
   ·rename_i l2 h2;simp only[NatR.outs.injEq]at hl';subst hl'
    rw[<- d1]
    have hr1:=hr.iceAll hs li
    rw[<- e1]at hr1
    refine h fs hf _ _ l0 h0 B _ w R hr1 k1 fun y hy F' w' hx hrep hok=>?_
    obtain⟨p1,p2⟩:=abW h2 y hy
    obtain⟨q1,q2⟩:=hr.lent hs hrep hx
    have q3:=plain_ok p1 F' ⟨F'.vs,F'.bs,F.fz⟩ rfl
    rw[<- q3.2]
    exact hK _ p2 _ w' q1 q2 q3.1
   ·cases hl'
  ·split at hl'<;>cases hl'
  ·cases hl'
 ·cases hl'
end Go.SX

namespace Go.SX
def BodyOk(P:Program)(x:Ann)(y:LoopX)(less:E)(tmps:Tm)(st:St):Prop:=
 ∀b,OfFn P x.fn (.loop b)->iO b=some x.key->∀(B:Base)(F0 F:Env)(a:Act)(w:World)(Q:Exit->Act->World->Prop),F0.vs.length=y.n0->F0.bs.length=y.b0->F0.Ext F->RepW B F st w->TmRep F tmps a->
  (∀τ∈x.ts,∀(F':Env)(a':Act)(w':World),F0.Ext F'->RepW B F' τ.st w'->TmRep F' τ.tmps a'->τ.less.I F'<less.I F->0<=τ.less.I F'->Q .normal a' w')->
  (∀o∈y.xs,∀(F':Env)(a':Act)(w':World),F0.Ext F'->RepW B F' o.st w'->TmRep F' o.tmps a'->Q (xT o.ex) a' w')->b.wp P Q a w
theorem aGb{key:Nat}{b:Code}(hk:iO b=some key){c:Code}(h:InC (.loop b) c):b∈fh key c:=by
 induction h with
 |refl=>simp[fh,hk]
 |seqL _ ih=>simp_all[fh]
 |seqR _ ih=>simp_all[fh]
 |condL _ ih=>simp_all[fh]
 |condR _ ih=>simp_all[fh]
 |block _ ih=>simp_all[fh]
 |loop _ ih=>
  grind[fh]
 |scope _ ih=>simp_all[fh]
theorem aEY{a b:Ex}(h:KD a b=true):a=b:=by
 cases a<;>cases b<;>simp[KD]at h<;>first | rfl | rw[h]
theorem KF{e:Ex}:∀(l:List Out)(τ:Tmpl),τ∈tk e l->∃x∈l,x.ex=e/\τ=⟨x.tmps,x.st,.int 0⟩
 |[],τ,h=>by cases h
 |x::xs,τ,h=>by
  simp only[tk]at h;split at h
  ·rename_i hb;cases h with
   |head=>exact⟨x,by simp,(aEY hb).symm,rfl⟩
   |tail _ hm=>obtain⟨y,h1,h2⟩:=KF xs τ hm;grind
  ·obtain⟨y,h1,h2⟩:=KF xs τ h;grind
theorem aaF:∀(l:List Out)(x:Out),x∈l->(⟨x.tmps,x.st,.int 0⟩:Tmpl)∈C9 l
 |[],x,h=>by cases h
 |y::ys,x,h=>by
  simp only[C9];cases h with
  |head=>simp
  |tail _ hm=>exact List.mem_cons_of_mem _ (aaF ys x hm)
theorem xn{P:Program}(hP:kq P=true){facts:List E}(hf:∀e∈facts,∀F,e.B F=true){anns:List Ann}(ha:∀x∈anns,fB P x){nats:List Nat1}(hn:∀x∈nats,aR P x){n:Nat}
  {x:Ann}{y:LoopX}{less:E}{tmps:Tm}{st:St}(h:lQ P (fun tb=>Zt P (tb.plus facts anns nats) n x.fn x.key y.n0 y.b0 x.ts y.xs less tmps st)=true)(hs3:less.scp st.nv=true):BodyOk P x y less tmps st:=by
 intro b hof hk B F0 F a w Q hn0 hb0 he hr hT hN hX
 rw[NW]at h
 have ht:=(agb P).plus hf anns nats;unfold Zt at h;split at h;case h_2=>cases h
 rename_i fn hfn;split at h;case h_2=>cases h
 split at h;case h_2=>cases h
 rename_i b' hb';split at h;case h_2=>cases h
 rename_i hscp;simp only[Bool.and_eq_true]at hscp
 obtain⟨hs1,hs2⟩:=hscp
 have hbb:b=b':=by
  obtain⟨fn',c',h1,h2,h3⟩:=hof
  have h4:=ht.fn _ _ hfn
  have:=aGb hk h3
  simp_all
 subst hbb;unfold abO at h;split at h;case h_2=>cases h
 rename_i os hos
 refine(M1 hP hf ha hn n).code _ _ _ _ _ _ (hof.part (.loop (.refl b))) hos B F a w Q hr hT ?_
 intro o F' a' w' os' h1 h2 h3 h4 h5;have hfacts:=ht.facts;unfold Zu at h1;have leave:∀ {r:aQ},mY o.tmps o.st (iL ((zx P).plus facts anns nats).facts y.n0 y.b0 o.tmps o.st none (tk o.ex y.xs) none) r=some os'->Q (xT o.ex) a' w':=by
  intro r hh
  obtain⟨⟨z,hz⟩,_⟩:=xZ hh
  obtain⟨τ,hτ,hfit,_⟩:=tu _ _ hz
  obtain⟨o2,ho2,e1,rfl⟩:=KF _ _ hτ
  obtain⟨_,_,hsc⟩:=va _ hs2 _ (aaF _ _ ho2)
  obtain⟨k1,k2,k3,k4,k5⟩:=Do hfacts hfit hsc h4 h5 (he.trans h3) hn0 hb0
  grind
 cases hex:o.ex with
 |normal=>
  rw[hex]at h1
  obtain⟨⟨z,hz⟩,_⟩:=xZ h1
  obtain⟨τ,hτ,hfit,hbd⟩:=tu _ _ hz
  obtain⟨_,_,hsc⟩:=va _ hs1 τ hτ
  obtain⟨k1,k2,k3,k4,k5⟩:=Do hfacts hfit hsc h4 h5 (he.trans h3) hn0 hb0
  obtain⟨j1,j2⟩:=hbd _ rfl
  have j1':=jv hfacts h4.pc j1;have j2':=gO hfacts h4.pc j2;have hzn:z.n0<=F'.vs.length:=by
   obtain⟨l,hl⟩:=(he.trans h3).vs
   simp_all
  have hls:τ.less.scp (z.n0+z.es.length)=true:=by
   simp_all[Tmpl.scp,Nat.add_comm]
  rw[E.sub_I hzn hls]at j1' j2'
  rw[E.scoped_I h3 (by rw[hr.nv];omega)]at j1'
  exact hN τ hτ _ a' w' k3 k4 k5 j1' j2'
 |exit i=>grind
 |ret=>grind
theorem BodyOk.cases{P:Program}{x:Ann}{y:LoopX}{less:E}{tmps:Tm}{st:St}(c:E)(h1:BodyOk P x y less tmps {st with pc:=c::st.pc})(h2:BodyOk P x y less tmps {st with pc:=.not c::st.pc}):BodyOk P x y less tmps st:=by
 intro b hof hk B F0 F a w Q hn0 hb0 he hr hT hN hX;by_cases hb:c.B F=true
 ·exact h1 b hof hk B _ F a w Q hn0 hb0 he (hr.assume hb) hT hN hX
 ·refine h2 b hof hk B _ F a w Q hn0 hb0 he (hr.assume ?_) hT hN hX;simp_all
def EA:List Out->Bool
 |[]=>true
 |o::os=>match o.ex with
  |.normal=>false
  |_=>EA os
theorem adC:∀(l:List Out),EA l=true->∀o∈l,o.ex≠.normal
 |[],_,o,ho=>by cases ho
 |x::xs,h,o,ho=>by
  simp only[EA]at h;split at h
  ·cases h
  ·cases ho with
   |head=>omega
   |tail _ hm=>exact adC xs h o hm
open Classical in
theorem Ee{P:Program}{x:Ann}{y:LoopX}(hxy:x.known=some y)(hxs:EA y.xs=true)(h:∀τ∈x.ts,BodyOk P x y τ.less τ.tmps τ.st):fB P x:=by
 intro y' hy' b hof hk B F0 a w Q hn0 hb0 hent hX
 rw[hxy]at hy'
 simp only[Option.some.injEq]at hy';subst hy';let M:=fun a w m=>∃τ∈x.ts,∃F',F0.Ext F'/\RepW B F' τ.st w/\TmRep F' τ.tmps a/\m=(τ.less.I F').toNat
 let Z:=fun a w=>if h:∃m,M a w m then Classical.choose (abS h)else 0
 have hZ:∀ {a w},(∃m,M a w m)->M a w (Z a w)/\∀m,M a w m->Z a w<=m:=by
  intro a w hex;grind
 refine wp_loop (fun a w=>∃m,M a w m) Z ?_ ?_
 ·grind
 ·intro a1 w1 hI
  obtain⟨⟨τ,hτ,F',h1,h2,h3,h4⟩,_⟩:=hZ hI
  refine h τ hτ b hof hk B _ _ a1 w1 _ hn0 hb0 h1 h2 h3 ?_ ?_
  ·intro τ2 hτ2 F2 a2 w2 k1 k2 k3 k4 k5;have hM:M a2 w2 _:=⟨τ2,hτ2,F2,k1,k2,k3,rfl⟩
   refine⟨⟨_,hM⟩,?_⟩
   have hle:=(hZ ⟨_,hM⟩).2 _ hM;omega
  ·intro o ho F2 a2 w2 k1 k2 k3
   have:=hX o ho _ a2 w2 k1 k2 k3
   cases hex:o.ex with
   |normal=>grind[adC]
   |exit i=>rw[hex]at this;exact this
   |ret=>rw[hex]at this;exact this
theorem aGa{P:Program}{x:Ann}(h:x.known=none):fB P x:=fun y hy=>by simp_all
def E4:List Ann->Bool
 |[]=>true
 |x::xs=>match x.known with
  |none=>E4 xs
  |some _=>false
theorem lF{P:Program}:∀(l:List Ann),E4 l=true->∀x∈l,fB P x
 |[],_,x,hx=>by cases hx
 |y::ys,h,x,hx=>by
  simp only[E4]at h;split at h
  ·rename_i hn;cases hx with
   |head=>exact aGa hn
   |tail _ hm=>exact lF ys h x hm
  ·cases h
end Go.SX
