/-
  The symbolic executor is right (operations that make and change memory).
-/
import Derived.Test.YtnggbcblogpnfaaGreatSXb
import Derived.Laws.Append
import Derived.Laws.MakeOwn
import Derived.Maps.RangeRun
set_option linter.unusedVariables false
set_option linter.unusedSimpArgs false
set_option linter.unusedSectionVars false

namespace Go.SX
def Env.grow(ρ:Env)(us:List U)(k:Bk):Env:=⟨ρ.vs++us,ρ.bs++[k],ρ.fz⟩
theorem Env.grow_ext(ρ:Env)(us:List U)(k:Bk):ρ.Ext (ρ.grow us k):=⟨⟨us,rfl⟩,⟨[k],rfl⟩,fun _ _ h=>h⟩
theorem Env.grow_blk{ρ:Env}{us:List U}{k:Bk}{n:Nat}(h:ρ.bs.length=n):(ρ.grow us k).blk n=k.blk/\(ρ.grow us k).off n=k.off/\(ρ.grow us k).nil n=k.nil:=by
 simp_all[Env.grow,Env.blk,Env.off,Env.nil]
theorem Env.grow_base{ρ:Env}{us:List U}{k:Bk}{n:Nat}(h:ρ.bs.length=n):(ρ.grow us k).base n=k.base:=by
 simp_all[Env.grow,Env.base]
theorem Env.grow_var{ρ:Env}{u:U}{k:Bk}{n:Nat}(h:ρ.vs.length=n):(E.var n).den (ρ.grow [u] k)=u:=by
 simp_all[E.den,Env.grow]
theorem RepW.grow{B:Base}{ρ:Env}{st:St}{w w':World}(h:RepW B ρ st w)(hs:st.scp=true)(us:List U)(pc:List E)(k:Bk)(obj:SObj)
  (hpc:∀e∈pc,e.B (ρ.grow us k)=true)
  (hw:∀r,r<w.heap.size->r≠k.blk->w'.heap[r]?=w.heap[r]?)(ho:w'.os=w.os)(ht:w'.tape=w.tape)(hu:w'.output=w.output)
  (hold:(∀r,r<w.heap.size->w'.heap[r]?=w.heap[r]?)\/(hG B ρ k.blk/\(∀i b,st.heap.get i=some b->b.obj.real ρ->ρ.blk i≠k.blk)/\∀r,jX ρ st.heap r->r≠k.blk))
  (hrep:blkRep (ρ.grow us k) w' k.blk k.off k.nil obj)
  (hnew:obj.real (ρ.grow us k)->hG B ρ k.blk/\(∀i b,st.heap.get i=some b->b.obj.real ρ->b.own=true->ρ.blk i≠k.blk)/\∀r,jX ρ st.heap r->r≠k.blk)
  (hin:∀r,¬obj.inner (ρ.grow us k) r:=by intro r h;exact False.elim h):
  RepW B (ρ.grow us k) ⟨st.nv+us.length,st.nb+1,st.heap.ins st.nb ⟨true,obj⟩,pc++st.pc⟩ w':=by
 have hext:=ρ.grow_ext us k
 obtain⟨hnew1,hnew2,hnew3⟩:=Env.grow_blk (ρ:=ρ) (us:=us) (k:=k) h.nb
 have hlive:∀i b,st.heap.get i=some b->b.obj.real ρ->ρ.blk i<w.heap.size:=fun i b hb hl=>(h.blk i b hb).2.1.lt hl
 have hfz:∀r o,ρ.fz r=some o->r<w.heap.size:=fun r o ho=>(Array.getElem?_eq_some_iff.1 (h.fz r o ho)).1
 have hkeep:∀i b,st.heap.get i=some b->b.obj.real ρ->w'.heap[ρ.blk i]?=w.heap[ρ.blk i]?:=by
  grind
 have hkeep2:∀r,jX ρ st.heap r->w'.heap[r]?=w.heap[r]?:=by
  intro r hr;have hlt:r<w.heap.size:=by obtain⟨j,b,hb,hx⟩:=hr;exact(h.blk j b hb).2.1.inner_lt hx
  grind
 have hinn:Inn B (ρ.grow us k) (st.heap.ins st.nb ⟨true,obj⟩):=by
  refine h.inn.next (fun i b hb=>?_) (fun _ _ hf=>hf);by_cases hi:i=st.nb
  ·grind[T.get_ins_self]
  ·rw[T.get_ins_ne _ _ _ _ hi]at hb
   have hlt:i<ρ.bs.length:=by rw[h.nb];exact(h.blk i b hb).1
   exact .inl ⟨b,hb,(SObj.real_ext hext (h.blk_scp hs hb)).1,hext.blk hlt,fun r=>(SObj.inner_ext hext (h.blk_scp hs hb)).1⟩
 refine⟨by simp[Env.grow,h.nv],by simp[Env.grow,h.nb],?_,?_,?_,hinn,?_,?_,h.dj,by rw[ho,h.os],by rw[ht,h.tape],by rw[hu,h.output]⟩
 ·intro e hm;rcases List.mem_append.1 hm with hm|hm
  ·simp_all
  ·exact h.ext_pc hs hext e hm
 ·intro i b hb;by_cases hi:i=st.nb
  ·subst hi
   have:=T.get_ins_self _ _ _ _ hb
   subst this
   refine⟨Nat.lt_succ_self _,by simp_all,fun hl=>⟨fun _=>by rw[hnew1];exact(hnew hl).1,fun _=>rfl⟩⟩
  ·rw[T.get_ins_ne _ _ _ _ hi]at hb
   obtain⟨h1,h2,h3⟩:=h.blk i b hb
   have hlt:i<ρ.bs.length:=by rw[h.nb];omega
   have hsc:=h.blk_scp hs hb
   refine⟨Nat.lt_succ_of_lt h1,?_,fun ho=>by rw[hext.blk hlt];exact h3 ((SObj.real_ext hext hsc).1 ho)⟩
   rw[hext.blk hlt,hext.off hlt,hext.nil hlt]
   exact(h2.ext hext hsc).world (fun hl=>hkeep i b hb ((SObj.real_ext hext hsc).1 hl)) (fun x hx=>hkeep2 x ⟨i,b,hb,(SObj.inner_ext hext hsc).1 hx⟩)
 ·intro i j a b ha hb la lb oa ob hij;by_cases hi:i=st.nb
  ·subst hi;have hj:j≠st.nb:=fun e=>hij e.symm
   have:=T.get_ins_self _ _ _ _ ha
   subst this
   rw[T.get_ins_ne _ _ _ _ hj]at hb
   have hlt:j<ρ.bs.length:=by rw[h.nb];exact(h.blk j b hb).1
   rw[hnew1,hext.blk hlt]
   exact fun e=>(hnew la).2.1 j b hb ((SObj.real_ext hext (h.blk_scp hs hb)).1 lb) ob e.symm
  ·rw[T.get_ins_ne _ _ _ _ hi]at ha
   have hlti:i<ρ.bs.length:=by rw[h.nb];exact(h.blk i a ha).1
   have la':=(SObj.real_ext hext (h.blk_scp hs ha)).1 la;by_cases hj:j=st.nb
   ·subst hj
    have:=T.get_ins_self _ _ _ _ hb
    subst this
    rw[hnew1,hext.blk hlti]
    simp_all
   ·rw[T.get_ins_ne _ _ _ _ hj]at hb
    have hltj:j<ρ.bs.length:=by rw[h.nb];exact(h.blk j b hb).1
    rw[hext.blk hlti,hext.blk hltj]
    exact h.inj i j a b ha hb la' ((SObj.real_ext hext (h.blk_scp hs hb)).1 lb) oa ob hij
 ·intro r o' hro;have hro':ρ.fz r=some o':=hro;have h1:=hfz r o' hro';rcases hold with ho|⟨ho,_⟩
  ·rw[ho r h1];exact h.fz r o' hro'
  ·rw[hw r h1 (fun e=>by rw[e,ho.1]at hro';cases hro')];exact h.fz r o' hro'
 ·intro r o' hro;have h1:=(Array.getElem?_eq_some_iff.1 (h.fr r o' hro)).1;rcases hold with ho|⟨ho,_⟩
  ·rw[ho r h1];exact h.fr r o' hro
  ·rw[hw r h1 (fun e=>by rw[e,ho.2]at hro;cases hro)];exact h.fr r o' hro
theorem RepW.drop{B:Base}{ρ:Env}{st:St}{w:World}(h:RepW B ρ st w)(b:Nat)(own:Bool):RepW B ρ {st with heap:=st.heap.set b ⟨own,.gone⟩} w:=by
 have key:∀i x,(st.heap.set b ⟨own,.gone⟩).get i=some x->x.obj.real ρ->st.heap.get i=some x:=by
  intro i x hx hl
  rw[T.get_set]at hx
  split at hx
  ·cases hq:st.heap.get b with
   |none=>simp_all
   |some y=>
    rw[hq]at hx
    simp only[Option.map_some,Option.some.injEq]at hx;subst hx;cases hl
  omega
 refine⟨h.nv,h.nb,h.pc,?_,fun i j x y hx hy lx ly=>h.inj i j x y (key i x hx lx) (key j y hy ly) lx ly,h.inn.next (fun i x hx=>?_) (fun _ _ hf=>hf),h.fz,h.fr,h.dj,h.os,h.tape,h.output⟩
 rotate_left
 ·rw[T.get_set]at hx
  split at hx
  ·cases hq:st.heap.get b with
   |none=>simp_all
   |some y=>
    rw[hq]at hx
    simp only[Option.map_some,Option.some.injEq]at hx;subst hx;exact .inr ⟨fun r h=>h,fun hl=>hl.elim⟩
  simp_all
 intro i x hx
 rw[T.get_set]at hx
 split at hx
 ·rename_i e;subst e;cases hq:st.heap.get i with
  |none=>simp_all
  |some y=>
   rw[hq]at hx
   simp only[Option.map_some,Option.some.injEq]at hx;subst hx
   exact⟨(h.blk i y hq).1,trivial,fun hl=>by cases hl⟩
 ·exact h.blk i x hx
theorem T.all_set{G:Type}{p:G->Bool}(t:T G):∀(n:Nat)(x:G),T.all p t=true->p x=true->T.all p (t.set n x)=true:=by
 induction t with
 |nil=>simp_all[T.set_nil]
 |node v l r il ir=>
  intro n x h hx;cases n with
  |zero=>simp_all[T.set_zero,T.all_node]
  |succ n=>
   grind[T.set_succ,T.all_node]
theorem afO{sz:Nat}{c:E}{ρ:Env}(h:0<=c.I ρ):((Gw sz c).I ρ).toNat=(c.I ρ).toNat*sz:=by
 unfold Gw;split
 ·simp
 ·obtain⟨m,hm⟩:∃m:Nat,c.I ρ=m:=⟨(c.I ρ).toNat,by omega⟩
  have:(c.den ρ).toI=m:=hm
  have e:(c.I ρ).toNat=m:=by omega
  rw[e]
  show((c.den ρ).toI*(Int.ofNat sz)).toNat=m*sz
  grind
section
variable {P:Program} {tb:Tab} (ht:TabOk P tb)
include ht
omit ht in
def Held.Ok(ρ:Env)(sz:Nat)(ln:E)(vals:List Value):Held->Prop
 |.cells vs=>vals=SV.dens ρ vs/\SV.oks ρ vs/\∀v∈vs,v.one=true
 |.list ks l n=>n=ln/\ks.length=sz/\0<sz/\(l.L ρ).length=vals.length/\∀(i:Nat)(u:U),(l.L ρ)[i]?=some u->∃c,ks[i%ks.length]?=some c/\vals[i]?=some (c.val u)/\c.ok ρ.fz u
omit ht in
theorem aIf{w:Nat}{l n lo len:E}{ρ:Env}(h0:0<=lo.I ρ)(h1:0<=len.I ρ)(hL:((l.L ρ).length:Int)=n.I ρ*(w:Int))(h2:lo.I ρ+len.I ρ<=n.I ρ):
  (wc w l n lo len).L ρ=((l.L ρ).take (((lo.I ρ).toNat+(len.I ρ).toNat)*w)).drop ((lo.I ρ).toNat*w):=by
 have mulN:∀e,0<=e.I ρ->((E.fn 8 (.pr e (.int (.ofNat w)))).den ρ).toI.toNat=(e.I ρ).toNat*w:=by
  intro e he
  obtain⟨m,hm⟩:∃m:Nat,e.I ρ=m:=⟨(e.I ρ).toNat,by omega⟩
  have hm':(e.den ρ).toI=m:=hm
  rw[hm,Int.toNat_natCast]
  show((e.den ρ).toI*(Int.ofNat w)).toNat=m*w
  grind
 have hadd:((dA lo len).I ρ).toNat=(lo.I ρ).toNat+(len.I ρ).toNat:=by rw[kR];omega
 unfold wc;split
 ·rename_i hz
  rw[Bool.and_eq_true]at hz
  have hz1:=Av hz.1;subst hz1;have hz2:=E.beq_eq hz.2;simp only[E.I_int];grind[List.take_of_length_le]
 ·split
  ·show((l.L ρ).take ((dA lo _).I ρ).toNat).drop (lo.I ρ).toNat=_
   simp_all
  ·split
   ·rename_i hz;have hz1:=Av hz;show(l.L ρ).take ((E.fn 8 _).den ρ).toI.toNat=_;simp_all
   ·show((l.L ρ).take ((E.fn 8 _).den ρ).toI.toNat).drop ((E.fn 8 _).den ρ).toI.toNat=_
    rw[mulN (dA lo _) (by grind[kR]),mulN lo h0,hadd]
omit ht in
def ik(P:Program)(sz len:Nat)(v:Value)(vals:List Value)(w:World):Prop:=∀w':World,w'.heap=w.heap->(Builtin.firstCells sz len v).run P w'=.ok vals.toArray w'
omit ht in
theorem M8{sz len cap r off:Nat}{vals:List Value}{w:World}(hlen:vals.length=len*sz)(h:∀i v,vals[i]?=some v->w.cell? ⟨r,off+i,none⟩=some v):
  ik P sz len (.slice (some ⟨r,off,none⟩) len cap) vals w:=by
 intro w' hw'
 show(loadCells _ _).run P w'=_
 grind[run_loadCells_list,gG,World.cell?]
omit ht in
theorem aan{fz:Nat->Option Obj}{ks:List CK}{L:List U}{arr:Array Value}{off r len cap sz:Nat}{elem:TypeId}{fr:Nat×Nat}{w:World}(hw:w.heap[r]?=some (.cells arr elem fr))(hL:L.length=len*sz)
  (h:∀(i:Nat)(u:U),L[i]?=some u->∃c,ks[i%ks.length]?=some c/\arr[off+i]?=some (c.val u)/\c.ok fz u):
  ∃vals:List Value,vals.length=len*sz/\ik P sz len (.slice (some ⟨r,off,none⟩) len cap) vals w/\
   ∀(i:Nat)(u:U),L[i]?=some u->∃c,ks[i%ks.length]?=some c/\vals[i]?=some (c.val u)/\c.ok fz u:=by
 have hlen:((arr.toList.drop off).take L.length).length=L.length:=by
  rw[List.length_take,List.length_drop]
  rcases Nat.eq_zero_or_pos L.length with h0|h0
  ·omega
  ·obtain⟨c,_,h2,_⟩:=h (L.length-1) L[L.length-1] (by simp)
   grind
 grind[M8,List.getElem?_eq_some_iff,n6]
omit ht in
theorem aIj{L:List U}{a b i:Nat}{u:U}(h:((L.take b).drop a)[i]?=some u):L[a+i]?=some u:=by
 grind
omit ht in
theorem Y6{ρ:Env}{cs vs:List SV}{arr:Array Value}{r m len cap sz:Nat}{elem:TypeId}{fr:Nat×Nat}{w:World}(hw:w.heap[r]?=some (.cells arr elem fr))(hc:∀(j:Nat)(v:SV),cs[j]?=some v->arr[j]?=some (v.den ρ))
  (hk:SV.oks ρ cs)(ht:kZ (sa cs m) (len*sz)=some vs):
  (SV.dens ρ vs).length=len*sz/\ik P sz len (.slice (some ⟨r,m,none⟩) len cap) (SV.dens ρ vs) w/\SV.oks ρ vs:=by
 obtain⟨h1,h2⟩:=qB _ _ _ ht
 rw[sb]at h1 h2
 refine⟨by simp_all[SV.dens_eq],?_,?_⟩
 ·grind[M8,SV.dens_eq,n6]
 grind[SV.oks_iff]
omit ht in
theorem aE8{w:Nat}{o:Off}{lo:E}(h:E0 w o=some lo){ρ:Env}:o.den ρ=(lo.I ρ).toNat*w:=by
 unfold E0 at h;split at h
 ·rename_i hs;split at h
  ·rename_i hm;simp only[Option.some.injEq]at h;subst h
   have:o.base%w=0:=Nat.eq_of_beq_eq_true hm
   simp only[Off.den,hs,Nat.zero_mul];have h2:=Nat.div_add_mod o.base w
   rw[this,Nat.add_zero,Nat.mul_comm]at h2
   exact h2.symm
  ·cases h
 ·split at h;all_goals simp_all[Off.den,Nat.mul_comm]
theorem aam{B:Base}{ρ:Env}{st:St}{w:World}(hr:RepW B ρ st w){b sz:Nat}{own:Bool}{ks:List CK}{l n af lo len:E}{elem:TypeId}(hb:st.heap.get b=some ⟨own,.flat ks l n af elem⟩)(hks:ks.length=sz)(hsz0:0<sz)
  (c1:0<=lo.I ρ)(c2:0<=len.I ρ)(c3:lo.I ρ+len.I ρ<=n.I ρ)(cap:Nat)(a:Option Addr)(ha:0<af.I ρ->ρ.nil b=false->ρ.off b=0->a=some ⟨ρ.blk b,(lo.I ρ).toNat*sz,none⟩)(hz:af.I ρ<=0->a=none\/∃x,a=some x):
  ∃vals:List Value,vals.length=(len.I ρ).toNat*sz/\ik P sz (len.I ρ).toNat (.slice a (len.I ρ).toNat cap) vals w/\
   ((wc sz l n lo len).L ρ).length=vals.length/\∀(i:Nat)(u:U),((wc sz l n lo len).L ρ)[i]?=some u->∃c,ks[i%ks.length]?=some c/\vals[i]?=some (c.val u)/\c.ok ρ.fz u:=by
 obtain⟨_,⟨f1,f2,f3,f4,f5⟩,_⟩:=hr.blk _ _ hb
 rw[hks]at f2
 have hsub:=aIf c1 c2 f2 c3
 rw[hsub]
 have hlen:(((l.L ρ).take (((lo.I ρ).toNat+(len.I ρ).toNat)*sz)).drop ((lo.I ρ).toNat*sz)).length=(len.I ρ).toNat*sz:=by
  have h1:(lo.I ρ).toNat+(len.I ρ).toNat<=(n.I ρ).toNat:=by omega
  have h2:((lo.I ρ).toNat+(len.I ρ).toNat)*sz<=(n.I ρ).toNat*sz:=Nat.mul_le_mul_right _ h1;grind
 by_cases htot:0<af.I ρ
 ·obtain⟨k1,k2,arr,k3,k4,k5⟩:=f5 htot
  obtain⟨vals,v1,v2,v3⟩:=aan (P:=P) (ks:=ks) (fz:=ρ.fz) (off:=(lo.I ρ).toNat*sz) (cap:=cap) k3 hlen (fun i u hu=>by
   have h1:=aIj hu
   obtain⟨c,g1,g2,g3⟩:=k4 _ _ h1
   simp_all)
  grind
 ·have e0:(len.I ρ).toNat=0:=by omega
  rw[e0]at hlen ⊢
  rw[Nat.zero_mul]at hlen ⊢
  refine⟨[],rfl,?_,by omega,by simp_all⟩
  intro w' _;rcases hz (by omega)with rfl|⟨x,rfl⟩
  ·rfl
  ·show(loadCells x _).run P w'=_
   rw[Nat.zero_mul];rfl
theorem Zg{B:Base}{ρ:Env}{st:St}{w:World}(hr:RepW B ρ st w){sz:Nat}{v:SV}(hv:v.ok ρ){ct:Held}(h:CY tb st sz v=some ct):
  ∃(a:Option Addr) (len cap:Nat) (vals:List Value) (ln:E),v.den ρ=.slice a len cap/\sF sz v=some ln/\(ln.I ρ).toNat=len/\vals.length=len*sz/\
   ik P sz len (v.den ρ) vals w/\ct.Ok ρ sz ln vals:=by
 have hp:=hr.pc;unfold CY at h;split at h
 ·simp only[Option.some.injEq]at h;subst h
  exact⟨none,0,0,[],.int 0,by rfl,rfl,rfl,by simp,fun w' _=>by rfl,by simp[SV.dens,SV.oks,Held.Ok]⟩
 ·rename_i ks e;split at h
  ·rename_i hc;simp only[Bool.and_eq_true]at hc;have hks:ks.length=sz:=by simp_all[b7,Nat.eq_of_beq_eq_true]
   have hsz0:=eA.1 hc.2;simp only[Option.some.injEq]at h;subst h;have hx':SlOk _ ks _:=hv
   obtain⟨q1,q2⟩:=vX hx' hks.symm hsz0
   have hd:(SV.bsl ks e).den ρ=.slice (e.den ρ).adr (e.den ρ).rlen (e.den ρ).rcap:=by grind[SV.den,zR]
   have hLU:e.L ρ=(e.den ρ).toL:=rfl;have hvals:∃vals:List _,vals.length=(e.den ρ).rlen*sz/\ik P sz (e.den ρ).rlen (.slice (e.den ρ).adr (e.den ρ).rlen (e.den ρ).rcap) vals w/\
     ∀(i:Nat)(u:U),(e.den ρ).toL[i]?=some u->∃c,ks[i%ks.length]?=some c/\vals[i]?=some (c.val u)/\c.ok ρ.fz u:=by
    generalize e.den ρ=u at hx';cases hx' with
    |nil=>exact⟨[],by simp[U.rlen],fun w' _=>by rfl,by simp[U.toL]⟩
    |empty a=>exact⟨[],by simp[U.rlen],fun w' _=>by
      show(loadCells a (0*sz)).run P w'=_
      rw[Nat.zero_mul];rfl,by simp[U.toL]⟩
    |mk hl hc hz hv hs=>
     rename_i r off len cap L arr elem fr;by_cases hne:L=[]
     ·subst hne;have hlen:len*sz=0:=by simp_all
      refine⟨[],by simp[U.rlen,hlen],?_,by simp[U.toL]⟩
      intro w' _
      show(loadCells _ (len*sz)).run P w'=_
      rw[hlen];rfl
     ·have hw:=hr.fz _ _ (hz hne);exact aan (P:=P) hw (by rw[<- hks];exact hl) (fun i u hu=>by
       obtain⟨c,g1,g2⟩:=hv i u hu
       refine⟨c,g1,g2,?_⟩
       cases c with
       |slc ks'=>exact hs i u _ hu g1
       |_=>trivial)
   obtain⟨vals,v1,v2,v3⟩:=hvals
   exact⟨_,_,_,vals,_,hd,rfl,q1,v1,by simp_all,rfl,hks,hsz0,by simp_all,v3⟩
  ·cases h
 ·rename_i b o len cap;split at h
  ·rename_i own cs af elem hb
   obtain⟨_,⟨_,z0,hk,arr,h1,h2,h3⟩,_⟩:=hr.blk _ _ hb
   split at h
   ·rename_i n m hn hm
    have:=iz hn;subst this
    have ho:=jL hm ρ;split at h
    ·rename_i vs hvs;split at h
     ·rename_i hone;simp only[Option.some.injEq]at h;subst h;have hd:(SV.slice b o (.int (.ofNat n)) cap).den ρ=.slice (some ⟨ρ.blk b,m,none⟩) n (cap.I ρ).toNat:=by simp_all[SV.den]
      obtain⟨g1,g2,g3⟩:=Y6 (P:=P) (cap:=(cap.I ρ).toNat) h1 h3 hk hvs
      exact⟨_,_,_,_,_,hd,rfl,by simp,g1,by simp_all,rfl,g3,rQ _ hone⟩
     ·cases h
    ·cases h
   ·cases h
  ·rename_i own ks l n af elem hb;split at h
   ·rename_i lo hc hlo;simp only[Bool.and_eq_true]at hc;have hks:ks.length=sz:=by simp_all[b7]
    have hsz0:=eA.1 hc.2;split at h
    ·rename_i hcc;simp only[Bool.and_eq_true]at hcc;have c1:=iY ht.facts hp hcc.1;have c2:=iY ht.facts hp hcc.2.1;have c3:=jk ht.facts hp hcc.2.2
     rw[kR]at c3
     simp only[Option.some.injEq]at h;subst h;have ho:=aE8 hlo (ρ:=ρ);have hd:(SV.slice b o len cap).den ρ=.slice (some ⟨ρ.blk b,ρ.off b+o.den ρ,none⟩) (len.I ρ).toNat (cap.I ρ).toNat:=by rfl
     obtain⟨vals,v1,v2,v3,v4⟩:=aam ht hr hb hks hsz0 c1 c2 c3 (cap.I ρ).toNat (some ⟨ρ.blk b,ρ.off b+o.den ρ,none⟩) (fun _ _ h=>by simp_all) (fun _=>.inr ⟨_,rfl⟩)
     exact⟨_,_,_,vals,_,hd,rfl,rfl,v1,by simp_all,rfl,hks,hsz0,v3,v4⟩
    ·cases h
   ·cases h
  ·cases h
 ·rename_i b len cap;split at h
  ·rename_i own cs af elem hb
   obtain⟨_,⟨z1,z0,hk,arr,h1,h2,h3⟩,_⟩:=hr.blk _ _ hb
   split at h
   ·rename_i n hn
    have:=iz hn;subst this
    split at h
    ·rename_i vs hvs;split at h
     ·rename_i hone;simp only[Option.some.injEq]at h;subst h;have hd:(SV.nslice b (.int (.ofNat n)) cap).den ρ=.slice (some ⟨ρ.blk b,0,none⟩) n (cap.I ρ).toNat:=by
       simp_all[fj,SV.den]
      obtain⟨g1,g2,g3⟩:=Y6 (P:=P) (m:=0) (cap:=(cap.I ρ).toNat) h1 h3 hk (by rw[sb];exact hvs)
      exact⟨_,_,_,_,_,hd,rfl,by simp,g1,by simp_all,rfl,g3,rQ _ hone⟩
     ·cases h
    ·cases h
   ·cases h
  ·rename_i own ks l n af elem hb;split at h
   ·rename_i hc;simp only[Bool.and_eq_true]at hc;have hks:ks.length=sz:=by simp_all[b7]
    have hsz0:=eA.1 hc.2;split at h
    ·rename_i hcc;simp only[Bool.and_eq_true]at hcc;have c2:=iY ht.facts hp hcc.1;have c3:=jk ht.facts hp hcc.2;simp only[Option.some.injEq]at h;subst h;have hd:(SV.nslice b len cap).den ρ=.slice (ρ.base b) (len.I ρ).toNat (cap.I ρ).toNat:=by rfl
     obtain⟨vals,v1,v2,v3,v4⟩:=aam ht hr hb hks hsz0 (lo:=.int 0) (by simp) c2 (by simp_all) (cap.I ρ).toNat (ρ.base b) (fun _ h1 h2=>by simp_all[fj]) (fun _=>by cases ρ.base b<;>simp)
     exact⟨_,_,_,vals,_,hd,rfl,rfl,v1,by simp_all,rfl,hks,hsz0,v3,v4⟩
    ·cases h
   ·cases h
  ·cases h
 ·cases h
end
end Go.SX

namespace Go.SX
section
variable {P:Program} {tb:Tab} (ht:TabOk P tb)
include ht
omit ht in
theorem aaj{ρ:Env}:∀(ks:List CK)(vs:List SV)(es:List E),sj ks vs=some es->SV.oks ρ vs->es.length=ks.length/\vs.length=ks.length/\
  ∀(i:Nat)(e:E),es[i]?=some e->∃c v,ks[i]?=some c/\vs[i]?=some v/\v.den ρ=c.val (e.den ρ)/\c.ok ρ.fz (e.den ρ)
 |[],[],es,h,_=>by simp_all[sj]
 |[],_::_,es,h,_=>by simp[sj]at h
 |_::_,[],es,h,_=>by simp[sj]at h
 |c::ks,v::vs,es,h,hk=>by
  simp only[sj]at h;split at h
  ·rename_i e l he hl;simp only[Option.some.injEq]at h;subst h
   obtain⟨h1,h2,h3⟩:=aaj ks vs l hl hk.2
   refine⟨by simp[h1],by simp[h2],fun i x hx=>?_⟩
   cases i with
   |zero=>
    obtain⟨f1,_,f3⟩:=uJ he hk.1
    simp_all
   |succ i=>
    simp_all
  ·cases h
omit ht in
theorem Ec(ks:List CK):∀(n i:Nat),(oE ks n).length=n*ks.length/\(i<n*ks.length->(oE ks n)[i]?=ks[i%ks.length]?)
 |0,i=>by simp[oE]
 |n+1,i=>by
  obtain⟨h1,_⟩:=Ec ks n i
  refine⟨by simp[oE,h1,Nat.succ_mul,Nat.add_comm],fun hi=>?_⟩
  simp only[oE];by_cases hlt:i<ks.length
  ·rw[List.getElem?_append_left hlt,Nat.mod_eq_of_lt hlt]
  ·have hle:=Nat.le_of_not_lt hlt
   rw[List.getElem?_append_right hle,(Ec ks n _).2 (by grind)]
   simp_all[Nat.mod_eq_sub_mod]
omit ht in
theorem vk{ρ:Env}:∀(es:List E),(cU es).L ρ=es.map (E.den ρ)
 |[]=>rfl
 |e::es=>by
  have ih:=vk (ρ:=ρ) es
  show(e.den ρ)::(cU es).L ρ=_
  simp_all
omit ht in
theorem abC{ρ:Env}{ks:List CK}{n:Nat}{vs:List SV}{l:E}(h:Es ks n vs=some l)(hk:SV.oks ρ vs):(l.L ρ).length=n*ks.length/\vs.length=n*ks.length/\
  ∀(i:Nat)(u:U),(l.L ρ)[i]?=some u->∃c,ks[i%ks.length]?=some c/\(SV.dens ρ vs)[i]?=some (c.val u)/\c.ok ρ.fz u:=by
 unfold Es at h;split at h
 ·rename_i es hes
  obtain⟨h1,h2,h3⟩:=aaj _ _ _ hes hk
  rw[(Ec ks n 0).1]at h1 h2
  grind[vk,Ec,SV.dens_eq]
 ·cases h
omit ht in
theorem Held.Ok.ext{ρ ρ':Env}{sz:Nat}{ln:E}{vals:List Value}{ct:Held}(h:ct.Ok ρ sz ln vals)(he:ρ.Ext ρ')(hs:ct.scp ρ.vs.length ρ.bs.length=true):ct.Ok ρ' sz ln vals:=by
 cases ct with
 |cells vs=>
  simp only[Held.scp]at hs
  obtain⟨h1,h2,h3⟩:=h
  exact⟨by grind[SV.scopeds_den],SV.oks_ext he vs hs h2,h3⟩
 |list ks l n=>
  simp only[Held.scp,Bool.and_eq_true]at hs
  obtain⟨h1,h2,h3,h4,h5⟩:=h
  refine⟨h1,h2,h3,by grind[E.scoped_L],?_⟩
  rw[E.scoped_L he hs.1]
  intro i u hu
  obtain⟨c,g1,g2,g3⟩:=h5 i u hu
  exact⟨c,g1,g2,CK.ok_mono he.fz g3⟩
omit ht in
theorem adj{ρ:Env}{sz:Nat}{elem:TypeId}{ct:Held}{need c:E}{vals:List Value}(hk:ct.Ok ρ sz need vals)(hn:0<=need.I ρ)(hlen:vals.length=(need.I ρ).toNat*sz)(hc:need.I ρ<=c.I ρ){w:World}{r off:Nat}{nil:Bool}
  (hw:(0<c.I ρ\/∃vs,ct=.cells vs)->nil=false/\off=0/\∃arr:Array Value,w.heap[r]?=some (.cells arr elem (0,0))/\arr.size=(c.I ρ).toNat*sz/\∀(i:Nat)(v:Value),vals[i]?=some v->arr[i]?=some v):
  blkRep ρ w r off nil (adi sz elem ct c):=by
 cases ct with
 |cells vs=>
  obtain⟨h1,h2,_⟩:=hk
  obtain⟨k1,k2,arr,k3,k4,k5⟩:=hw (.inr ⟨vs,rfl⟩)
  refine⟨k1,k2,h2,arr,k3,by grind[afO],fun j v hv=>k5 j _ ?_⟩
  simp_all[SV.dens_eq]
 |list ks l n=>
  obtain⟨h1,h2,h3,h4,h5⟩:=hk
  subst h1
  refine⟨by omega,?_,hc,hn,fun hpos=>?_⟩
  ·grind
  ·obtain⟨k1,k2,arr,k3,k4,k5⟩:=hw (.inl hpos)
   refine⟨k1,k2,arr,k3,fun i u hu=>?_,?_⟩
   all_goals grind
omit ht in
theorem Lh{B:Base}{ρ:Env}{st st':St}{w w':World}{t:Tm}{a:Act}(hr:RepW B ρ st w)(hT:TmRep ρ t a){sz:Nat}{elem:TypeId}{ct:Held}{need:E}{v:SV}(h:pM t st sz elem ct need=some (v,st'))
  {vals:List Value}(hk:ct.Ok ρ sz need vals)(hn:0<=need.I ρ)(hlen:vals.length=(need.I ρ).toNat*sz)(k:Bk)(capN:Nat)(hcap:(need.I ρ).toNat<=capN)
  (hw:∀r,r<w.heap.size->r≠k.blk->w'.heap[r]?=w.heap[r]?)(ho:w'.os=w.os)(htp:w'.tape=w.tape)(hu:w'.output=w.output)
  (hold:(∀r,r<w.heap.size->w'.heap[r]?=w.heap[r]?)\/(hG B ρ k.blk/\(∀i b,st.heap.get i=some b->b.obj.real ρ->ρ.blk i≠k.blk)/\∀r,jX ρ st.heap r->r≠k.blk))
  (hmem:(0<capN\/∃vs,ct=.cells vs)->k.nil=false/\k.off=0/\(∃arr:Array Value,w'.heap[k.blk]?=some (.cells arr elem (0,0))/\arr.size=capN*sz/\∀(i:Nat)(v:Value),vals[i]?=some v->arr[i]?=some v)/\
   hG B ρ k.blk/\(∀i b,st.heap.get i=some b->b.obj.real ρ->b.own=true->ρ.blk i≠k.blk)/\∀r,jX ρ st.heap r->r≠k.blk):
  ∃ρ',ρ.Ext ρ'/\RepW B ρ' st' w'/\TmRep ρ' t a/\v.ok ρ'/\v.den ρ'=.slice k.base (need.I ρ).toNat capN:=by
 unfold pM at h;simp only at h;split at h
 ·rename_i hc;simp only[Bool.and_eq_true,o4]at hc
  obtain⟨⟨hs1,hs2⟩,hs3,hs4⟩:=hc
  rw[T.insK_eq]at h
  simp only[Option.some.injEq,Prod.mk.injEq]at h
  obtain⟨rfl,rfl⟩:=h
  have hext:=ρ.grow_ext [.int capN] k
  obtain⟨e1,e2,e3⟩:=Env.grow_blk (ρ:=ρ) (us:=[.int capN]) (k:=k) hr.nb
  have hvar:=Env.grow_var (ρ:=ρ) (u:=.int capN) (k:=k) hr.nv;have hcI:(E.var st.nv).I (ρ.grow [.int capN] k)=capN:=by unfold E.I;rw[hvar];rfl
  have hneed:need.I (ρ.grow [.int capN] k)=need.I ρ:=E.scoped_I hext (by rw[hr.nv];omega);have hk':=hk.ext hext (by rw[hr.nv,hr.nb];omega);have hle:need.I ρ<=(capN:Int):=by omega
  refine⟨ρ.grow [.int capN] k,hext,?_,hT.ext hext (by rw[hr.nv,hr.nb];omega),by simp[SV.ok],?_⟩
  ·refine hr.grow hs1 [.int capN] [bm (aN .lss (.var st.nv) need),bm (aN .lss (.var st.nv) (.int 0))] k _ ?_ hw ho htp hu hold ?_ ?_ ?_
   ·intro e he;simp only[List.mem_cons,List.not_mem_nil,or_false]at he;rcases he with rfl|rfl
    all_goals simp_all[iA,eM,Bool.not_eq_true',oF,E.I_int]
   ·grind[adj,id]
   ·intro hreal;have hq:0<capN\/∃vs,ct=.cells vs:=by
     cases ct with
     |cells vs=>simp_all
     |list ks l n=>
      left
      have:0<(E.var st.nv).I (ρ.grow [.int capN] k):=hreal
      omega
    simp_all
   ·intro r h;cases ct<;>exact False.elim h
  ·simp only[SV.den,hcI,hneed,Int.toNat_natCast]
   rw[Env.grow_base hr.nb]
 ·cases h
end
end Go.SX

namespace Go.SX
section
variable {P:Program} {tb:Tab} (ht:TabOk P tb)
include ht
omit ht in
theorem aDt(w:World)(need old:Nat)(e:TypeId):need<=grownCap w need old e:=by
 show need<=need+_;omega
omit ht in
theorem aFW{t xt ty e e':TypeId}{i:TypeInfo}{z:Value}(ht:P.underlying t=some (.slice e))(hx:P.underlying xt=some (.slice e'))(hi:P.info? e=some i)(hz:i.zero=some z)
  {a:Option Addr}{sLen sCap:Nat}{olds:List Value}{b:Option Addr}{n c:Nat}{news:List Value}{w:World}
  (h1:ik P i.size sLen (.slice a sLen sCap) olds w)(h2:ik P i.size n (.slice b n c) news w)
  (hg:sCap<sLen+n)(hlim:sLen+n<=2147483648)(hb0:0<i.bytes)(hb:i.bytes<=32768):
  (Builtin.append_ #[t,xt] ty #[.slice a sLen sCap,.slice b n c]).run P w=
   .ok (.slice (some ⟨w.heap.size,0,none⟩) (sLen+n) (grownCap w (sLen+n) sCap e))
    (w.drew.alloc (.cells (olds.toArray++news.toArray++Builtin.zeroCells z.cells (grownCap w (sLen+n) sCap e-(sLen+n))) e)):=by
 have hn:¬(sLen+n<=sCap):=by omega
 have hfit:Builtin.nextslicecap _ _*i.bytes<=281474976710656:=growslice_fits hg (by
  have:=Nat.mul_le_mul hlim hb
  omega)
 have h48':¬(281474976710656<Builtin.nextslicecap (sLen+n) sCap*i.bytes):=by omega
 have hbz:i.bytes≠0:=by omega
 have hr1:=h1 w.drew rfl;have hr2:=h2 w.drew rfl;simp[Builtin.append_,run_underlying ht,run_underlying hx,sizeOf,typeInfo,zeroValue,hi,hz,Builtin.lenOf,hn,hbz,h48',Question.forced,newRow,grownCap]
 rw[hr1]
 simp only[Result.andThen_ok]
 rw[hr2]
 simp only[Result.andThen_ok];congr 3;grind
omit ht in
theorem aFY{t xt ty e e':TypeId}{i:TypeInfo}(ht:P.underlying t=some (.slice e))(hx:P.underlying xt=some (.slice e'))(hi:P.info? e=some i)
  {r:Nat}{sLen sCap:Nat}{b:Option Addr}{n c:Nat}{news:List Value}{w:World}{arr:Array Value}{elem:TypeId}
  (h2:ik P i.size n (.slice b n c) news w)(hw:w.heap[r]?=some (.cells arr elem (0,0)))(hroom:sLen+n<=sCap)(hle:sLen*i.size+news.length<=arr.size)(hone:∀v∈news,v.oneCell'=true):
  (Builtin.append_ #[t,xt] ty #[.slice (some ⟨r,0,none⟩) sLen sCap,.slice b n c]).run P w=
   .ok (.slice (some ⟨r,0,none⟩) (sLen+n) sCap) (w.setRow r (arr.toList.take (sLen*i.size)++news++arr.toList.drop (sLen*i.size+news.length)).toArray):=by
 have hr2:=h2 w rfl;have hst:=run_storeCells_at (P:=P) r _ _ _ 0 _ w hw (by omega) hone;simp[Builtin.append_,run_underlying ht,run_underlying hx,sizeOf,typeInfo,Builtin.lenOf];simp_all[gG]
omit ht in
theorem aFX{t xt ty e e':TypeId}{i:TypeInfo}(ht:P.underlying t=some (.slice e))(hx:P.underlying xt=some (.slice e'))(hi:P.info? e=some i)
  {a:Option Addr}{sLen sCap:Nat}{b:Option Addr}{n c:Nat}{w:World}(h2:ik P i.size n (.slice b n c) [] w)(hroom:sLen+n<=sCap):
  (Builtin.append_ #[t,xt] ty #[.slice a sLen sCap,.slice b n c]).run P w=.ok (.slice a (sLen+n) sCap) w:=by
 have hr2:=h2 w rfl;simp[Builtin.append_,run_underlying ht,run_underlying hx,sizeOf,typeInfo,hi,Builtin.lenOf,hroom]
 rw[hr2]
 cases a with
 |none=>simp
 |some x=>rfl
omit ht in
theorem Held.one_cells{ρ:Env}{sz:Nat}{ln:E}{vals:List Value}{ct:Held}(h:ct.Ok ρ sz ln vals):∀v∈vals,v.oneCell'=true:=by
 intro v hv;cases ct with
 |cells vs=>
  obtain⟨h1,_,h3⟩:=h
  grind[SV.dens_eq,qk]
 |list ks l n=>
  obtain⟨_,_,_,h4,h5⟩:=h
  obtain⟨i,hi⟩:=List.getElem?_of_mem hv
  have hlt:i<(l.L ρ).length:=by grind
  obtain⟨c,_,g2,_⟩:=h5 i _ (List.getElem?_eq_getElem hlt)
  rw[hi]at g2
  simp only[Option.some.injEq]at g2
  rw[g2]
  have raw1:∀u:U,u.raw.oneCell'=true:=fun u=>by cases u<;>rfl
  cases c<;>simp[CK.val,Value.oneCell'];exact raw1 _
omit ht in
theorem Held.Ok.app{ρ:Env}{sz:Nat}{ls lx:E}{v1 v2:List Value}{a b ct:Held}(ha:a.Ok ρ sz ls v1)(hb:b.Ok ρ sz lx v2)(h1:v1.length=(ls.I ρ).toNat*sz)(h2:v2.length=(lx.I ρ).toNat*sz)
  (h:JU sz (fK ls) (fK lx) a b=some ct):ct.Ok ρ sz (dA ls lx) (v1++v2):=by
 have cat:∀ {ks:List CK} {L1 L2:List U},ks.length=sz->L1.length=v1.length->L2.length=v2.length->
   (∀(i:Nat)(u:U),L1[i]?=some u->∃c,ks[i%ks.length]?=some c/\v1[i]?=some (c.val u)/\c.ok ρ.fz u)->
   (∀(i:Nat)(u:U),L2[i]?=some u->∃c,ks[i%ks.length]?=some c/\v2[i]?=some (c.val u)/\c.ok ρ.fz u)->
   (L1++L2).length=(v1++v2).length/\∀(i:Nat)(u:U),(L1++L2)[i]?=some u->∃c,ks[i%ks.length]?=some c/\(v1++v2)[i]?=some (c.val u)/\c.ok ρ.fz u:=by
  intro ks L1 L2 hk e1 e2 g1 g2
  refine⟨by simp_all,fun i u hu=>?_⟩
  by_cases hi:i<L1.length
  ·grind
  ·have hle:L1.length<=i:=Nat.le_of_not_lt hi
   rw[List.getElem?_append_right hle]at hu
   rw[List.getElem?_append_right (by omega)]
   obtain⟨c,k1,k2,k3⟩:=g2 _ u hu
   refine⟨c,?_,by simp_all,k3⟩
   rw[<- k1]
   rw[e1,h1,hk]
   have:i=(ls.I ρ).toNat*sz+(i-(ls.I ρ).toNat*sz):=by omega
   conv=>lhs;rw[this]
   rw[Nat.mul_comm (ls.I ρ).toNat sz,Nat.mul_add_mod]
 have appL:∀(x y:E),(EB x y).L ρ=x.L ρ++y.L ρ:=by
  intro x y;unfold EB;split
  ·rename_i hn;unfold DX at hn;split at hn
   ·show _=x.L ρ++[];simp
   ·show _=x.L ρ++[];simp
   simp_all
  ·split
   ·grind[aBx]
   rfl
 unfold JU at h;split at h
 ·rename_i x y;simp only[Option.some.injEq]at h;subst h
  obtain⟨p1,p2,p3⟩:=ha
  obtain⟨q1,q2,q3⟩:=hb
  refine⟨by simp_all[SV.dens_eq,List.map_append],?_,?_⟩
  all_goals grind[SV.oks_iff]
 ·rename_i ks l n ks' l' n';split at h
  ·rename_i hk
   have:=kL _ _ hk;subst this
   simp only[Option.some.injEq]at h;subst h
   obtain⟨p1,p2,p3,p4,p5⟩:=ha
   obtain⟨q1,q2,q3,q4,q5⟩:=hb
   subst p1;subst q1
   obtain⟨c1,c2⟩:=cat p2 p4 q4 p5 q5
   exact⟨rfl,p2,p3,by simp_all,by simp_all⟩
  ·cases h
 ·rename_i ks l n y;split at h
  ·rename_i m hm;split at h
   ·rename_i l' hl';simp only[Option.some.injEq]at h;subst h
    obtain⟨p1,p2,p3,p4,p5⟩:=ha
    obtain⟨q1,q2,q3⟩:=hb
    obtain⟨f1,f2,f3⟩:=abC hl' q2
    have hlx:=iz hm;subst p1
    rw[q1]at h2
    have e2:(l'.L ρ).length=v2.length:=by simp_all
    obtain⟨c1,c2⟩:=cat p2 p4 e2 p5 (by simp_all)
    exact⟨by rw[hlx],p2,p3,by simp_all,by simp_all⟩
   ·cases h
  ·cases h
 ·rename_i x ks l' n';split at h
  ·rename_i n hn;split at h
   ·rename_i l hl;simp only[Option.some.injEq]at h;subst h
    obtain⟨p1,p2,p3⟩:=ha
    obtain⟨q1,q2,q3,q4,q5⟩:=hb
    obtain⟨f1,f2,f3⟩:=abC hl p2
    have hls:=iz hn;subst q1;have e1:(l.L ρ).length=v1.length:=by rw[f1,p1,SV.dens_eq,List.length_map,f2]
    obtain⟨c1,c2⟩:=cat q2 e1 q4 (by rw[p1];exact f3) q5
    have hL:(MU l l').L ρ=l.L ρ++l'.L ρ:=by
     unfold MU;split
     ·rename_i hn
      have:l.L ρ=[]:=by
       unfold DX at hn;split at hn
       ·rfl
       ·rfl
       ·cases hn
      rw[this];rfl
     ·rfl
    exact⟨by rw[hls],q2,q3,by rw[hL];exact c1,by rw[hL];exact c2⟩
   ·cases h
  ·cases h
omit ht in
def nx(P:Program)(B:Base)(ρ:Env)(t:Tm)(a:Act)(w:World)(s:Sem Next):Eff2->Prop
 |.val v st'=>∃ρ' w',ρ.Ext ρ'/\RepW B ρ' st' w'/\TmRep ρ' t a/\v.ok ρ'/\s.run P w=.ok (.value (v.den ρ')) w'
 |.skip st'=>∃ρ' w',ρ.Ext ρ'/\RepW B ρ' st' w'/\TmRep ρ' t a/\s.run P w=.ok .skip w'
 |.ask _=>True
 |.lack _=>True
 |.bad=>True
omit ht in
def ValOk(P:Program)(B:Base)(ρ:Env)(t:Tm)(a:Act)(w:World)(s:Sem Value):Eff2->Prop
 |.val v st'=>∃ρ' w',ρ.Ext ρ'/\RepW B ρ' st' w'/\TmRep ρ' t a/\v.ok ρ'/\s.run P w=.ok (v.den ρ') w'
 |.skip _=>False
 |.ask _=>True
 |.lack _=>True
 |.bad=>True
omit ht in
theorem aJL{sz:Nat}{c af:E}(h:Ah sz c af=true){ρ:Env}(hc:0<=c.I ρ):(af.I ρ).toNat=(c.I ρ).toNat*sz:=by
 unfold Ah at h;split at h
 ·rename_i n hn
  have:=iz hn;subst this
  rw[<- E.beq_eq h]
  rfl
 grind[E.beq_eq,afO]
omit ht in
theorem af5{B:Base}{ρ:Env}{st:St}{w:World}(hr:RepW B ρ st w){sz b:Nat}{elem:TypeId}{v:SV}{ls c:E}(h:GI st sz elem v=some b)(hc:rV v=some c)(hl:sF sz v=some ls)(hc0:0<=c.I ρ):
  ∃(obj:SObj),st.heap.get b=some ⟨true,obj⟩/\v.den ρ=.slice (ρ.base b) (ls.I ρ).toNat (c.I ρ).toNat/\
   (obj.real ρ->ρ.nil b=false/\ρ.off b=0/\∃arr,w.heap[ρ.blk b]?=some (.cells arr elem (0,0))/\arr.size=(c.I ρ).toNat*sz)/\
   ((∃cs af,obj=.cells cs af elem)\/(∃ks l n,obj=.flat ks l n c elem/\ks.length=sz)):=by
 have flat:∀ {ks l n af e},st.heap.get b=some ⟨true,.flat ks l n af e⟩->(c.beq af&&(Nat.beq (aR ks) sz&&Nat.beq e elem))=true->af=c/\ks.length=sz/\e=elem/\((SObj.flat ks l n af e).real ρ->ρ.nil b=false/\ρ.off b=0/\∃arr,w.heap[ρ.blk b]?=some (.cells arr elem (0,0))/\arr.size=(c.I ρ).toNat*sz):=by
  intro ks l n af e hb hct;simp only[Bool.and_eq_true]at hct
  obtain⟨h1,h2,h3⟩:=hct
  have:=E.beq_eq h1;subst this
  have h2':ks.length=sz:=by simp_all[b7]
  have h3':=Nat.eq_of_beq_eq_true h3;subst h3'
  refine⟨rfl,h2',rfl,fun hreal=>?_⟩
  obtain⟨_,⟨_,_,_,_,f5⟩,_⟩:=hr.blk _ _ hb
  obtain⟨k1,k2,arr,k3,_,k5⟩:=f5 hreal
  grind
 have cell:∀ {cs af e},st.heap.get b=some ⟨true,.cells cs af e⟩->(Ah sz c af&&Nat.beq e elem)=true->e=elem/\ρ.nil b=false/\ρ.off b=0/\∃arr,w.heap[ρ.blk b]?=some (.cells arr elem (0,0))/\arr.size=(c.I ρ).toNat*sz:=by
  intro cs af e hb hct;simp only[Bool.and_eq_true]at hct;have h3':=Nat.eq_of_beq_eq_true hct.2;subst h3'
  obtain⟨_,⟨k1,k2,_,arr,k3,k4,_⟩,_⟩:=hr.blk _ _ hb
  exact⟨rfl,k1,k2,arr,k3,by grind[aJL]⟩
 unfold GI at h;split at h
 ·rename_i b' l' c';simp only[rV,Option.some.injEq]at hc;subst hc;simp only[sF,Option.some.injEq]at hl;subst hl;have hd:∀x,(SV.nslice x l' c').den ρ=.slice (ρ.base x) (l'.I ρ).toNat (c'.I ρ).toNat:=by
   grind[SV.den]
  grind
 ·rename_i b' o' l' c';simp only[rV,Option.some.injEq]at hc;subst hc;simp only[sF,Option.some.injEq]at hl;subst hl;split at h
  ·rename_i ho;have ho':=jL ho ρ;split at h
   ·rename_i cs af e hb;split at h
    ·rename_i hct;simp only[Option.some.injEq]at h;subst h
     obtain⟨rfl,g2⟩:=cell hb hct
     refine⟨_,hb,?_,fun _=>g2,.inl ⟨_,_,rfl⟩⟩
     simp_all[SV.den,fj,Nat.add_zero]
    grind
   grind
  grind
 grind
omit ht in
theorem ac4{o o':SObj}{ct:Held}(h:zF o ct=some o'){ρ:Env}{r:Nat}:¬o'.inner ρ r:=by
 unfold zF at h;split at h
 ·simp only[Option.some.injEq]at h;subst h;exact fun h=>h
 ·simp only[Option.some.injEq]at h;subst h;exact fun h=>h
 grind
omit ht in
theorem RepW.swap{B:Base}{ρ:Env}{st:St}{w:World}(h:RepW B ρ st w){b:Nat}{own:Bool}{obj obj':SObj}(hb:st.heap.get b=some ⟨own,obj⟩)(hc:blkRep ρ w (ρ.blk b) (ρ.off b) (ρ.nil b) obj')(hn:¬obj'.real ρ)(hin:∀r,obj'.inner ρ r->obj.inner ρ r:=by intro r h;exact False.elim h):
  RepW B ρ {st with heap:=st.heap.set b ⟨own,obj'⟩} w:=by
 have key:∀i x,(st.heap.set b ⟨own,obj'⟩).get i=some x->x.obj.real ρ->st.heap.get i=some x:=by
  grind[T.get_set]
 refine⟨h.nv,h.nb,h.pc,?_,fun i j x y hx hy lx ly=>h.inj i j x y (key i x hx lx) (key j y hy ly) lx ly,h.inn.next (fun i x hx=>?_) (fun _ _ hf=>hf),h.fz,h.fr,h.dj,h.os,h.tape,h.output⟩
 rotate_left
 ·grind[T.get_set]
 intro i x hx
 rw[T.get_set]at hx
 split at hx
 ·rename_i e;subst e
  rw[hb]at hx
  simp only[Option.map_some,Option.some.injEq]at hx;subst hx
  exact⟨(h.blk i _ hb).1,hc,fun hl=>absurd hl hn⟩
 ·exact h.blk i x hx
omit ht in
theorem abi(ht:TabOk P tb){t:TypeId}(h:DZ tb t=true):∃e,P.underlying t=some (.slice e):=by
 unfold DZ at h;split at h
 ·rename_i e hu;exact⟨e,ht.und hu⟩
 grind
omit ht in
theorem aCf(ht:TabOk P tb){t:TypeId}{sz bytes:Nat}(h1:dd tb t=some sz)(h2:J7 tb t=some bytes):∃i,P.info? t=some i/\i.size=sz/\i.bytes=bytes/\tb.ty.get t=some i:=by
 unfold dd at h1;unfold J7 at h2;split at h1
 ·rename_i i hi
  rw[hi]at h2
  simp only[Option.some.injEq]at h1 h2
  exact⟨i,ht.info hi,h1,h2,hi⟩
 grind
omit ht in
def wN(P:Program)(elem:TypeId)(i:TypeInfo)(z:Value)(ad:Option Addr)(sLen sCap n:Nat)(news:List Value)(w:World)(app:Sem Value):Prop:=
 (∀olds:List Value,ik P i.size sLen (.slice ad sLen sCap) olds w->sCap<sLen+n->sLen+n<=2147483648->0<i.bytes->i.bytes<=32768->
  app.run P w=.ok (.slice (some ⟨w.heap.size,0,none⟩) (sLen+n) (grownCap w (sLen+n) sCap elem)) (w.drew.alloc (.cells (olds.toArray++news.toArray++Builtin.zeroCells z.cells (grownCap w (sLen+n) sCap elem-(sLen+n))) elem)))/\
 (∀(r:Nat)(arr:Array Value)(el:TypeId),ad=some ⟨r,0,none⟩->w.heap[r]?=some (.cells arr el (0,0))->sLen+n<=sCap->sLen*i.size+news.length<=arr.size->(∀v∈news,v.oneCell'=true)->
  app.run P w=.ok (.slice (some ⟨r,0,none⟩) (sLen+n) sCap) (w.setRow r (arr.toList.take (sLen*i.size)++news++arr.toList.drop (sLen*i.size+news.length)).toArray))/\
 (news=[]->sLen+n<=sCap->app.run P w=.ok (.slice ad (sLen+n) sCap) w)
omit ht in
theorem aD1{t xt ty e e':TypeId}{i:TypeInfo}{z:Value}(ht:P.underlying t=some (.slice e))(hx:P.underlying xt=some (.slice e'))(hi:P.info? e=some i)(hz:i.zero=some z)
  {a:Option Addr}{sLen sCap:Nat}{b:Option Addr}{n c:Nat}{news:List Value}{w:World}(h2:ik P i.size n (.slice b n c) news w):
  wN P e i z a sLen sCap n news w (Builtin.append_ #[t,xt] ty #[.slice a sLen sCap,.slice b n c]):=by
 refine⟨fun olds h1 hg hlim hb0 hb=>aFW ht hx hi hz h1 h2 hg hlim hb0 hb,fun r arr el ha hw hroom hle hone=>?_,fun hn hroom=>?_⟩
 all_goals grind[aFY,aFX]
theorem JX{B:Base}{ρ:Env}{st st':St}{w:World}{t:Tm}{a:Act}(hr:RepW B ρ st w)(hT:TmRep ρ t a){elem:TypeId}{i:TypeInfo}{z:Value}{app:Sem Value}(hzs:z.cells.size=i.size)
  {ad:Option Addr}{sLen sCap:Nat}{olds:List Value}{n:Nat}{news:List Value}{ct:Held}{need:E}{v:SV}
  (h1:ik P i.size sLen (.slice ad sLen sCap) olds w)(h2:wN P elem i z ad sLen sCap n news w app)(hl1:olds.length=sLen*i.size)(hl2:news.length=n*i.size)
  (hneed:need.I ρ=((sLen+n:Nat):Int))(hk:ct.Ok ρ i.size need (olds++news))(hg:sCap<sLen+n)(hlim:sLen+n<=2147483648)(hb0:0<i.bytes)(hb:i.bytes<=32768)
  (h:pM t st i.size elem ct need=some (v,st')):
  ∃ρ' w',ρ.Ext ρ'/\RepW B ρ' st' w'/\TmRep ρ' t a/\v.ok ρ'/\app.run P w=.ok (v.den ρ') w':=by
 have hrun:=h2.1 _ h1 hg hlim hb0 hb;have hcap:=aDt w (sLen+n) sCap elem;have hnN:(need.I ρ).toNat=sLen+n:=by omega
 have hlen:(olds++news).length=(need.I ρ).toNat*i.size:=by grind
 have hfz:=hr.free_ge (Nat.le_refl _);have hheap:∀(o:Obj)(r:Nat),r<w.heap.size->(w.drew.alloc o).heap[r]?=w.heap[r]?:=by
  intro o r hr
  show(w.heap.push o)[r]?=_
  grind
 generalize harr:olds.toArray++news.toArray++Builtin.zeroCells _ _=arr at hrun;have hsize:arr.size=grownCap w (sLen+n) sCap elem*i.size:=by
  rw[<- harr]
  simp only[Array.size_append,List.size_toArray,Builtin.zeroCells,Array.size_map,Array.size_range,hl1,hl2,hzs]
  rw[<- Nat.add_mul,<- Nat.add_mul]
  grind
 have hget:∀(j:Nat)(x:Value),(olds++news)[j]?=some x->arr[j]?=some x:=by
  grind
 have hmem:(w.drew.alloc (.cells arr elem)).heap[w.heap.size]?=some (.cells arr elem (0,0)):=by
  show(w.heap.push _)[w.heap.size]?=_
  simp
 obtain⟨ρ',k1,k2,k3,k4,k5⟩:=Lh (w':=w.drew.alloc _) hr hT h hk (by omega) hlen ⟨w.heap.size,0,none⟩ _ (by omega)
  (fun r h _=>hheap _ r h) rfl rfl rfl (.inl fun r h=>hheap _ r h) (fun _=>⟨rfl,rfl,⟨arr,hmem,hsize,hget⟩,hfz,fun j x hx hl _=>Nat.ne_of_lt ((hr.blk j x hx).2.1.lt hl),fun r h=>Nat.ne_of_lt (hr.held_lt h)⟩)
 refine⟨ρ',_,k1,k2,k3,k4,?_⟩
 rw[hrun,k5,hnN]
 rfl
theorem Yz{B:Base}{ρ:Env}{st:St}{w:World}(hr:RepW B ρ st w){elem:TypeId}{i:TypeInfo}{z:Value}{app:Sem Value}
  {b0:Nat}{obj:SObj}(hb:st.heap.get b0=some ⟨true,obj⟩){sLen sCap:Nat}{olds:List Value}{n:Nat}{news:List Value}{ct:Held}{ln need:E}
  (h1:ik P i.size sLen (.slice (ρ.base b0) sLen sCap) olds w)(h2:wN P elem i z (ρ.base b0) sLen sCap n news w app)(hl1:olds.length=sLen*i.size)(hl2:news.length=n*i.size)
  (hone:∀v∈news,v.oneCell'=true)(hroom:sLen+n<=sCap)
  (hmem:obj.real ρ->ρ.nil b0=false/\ρ.off b0=0/\∃arr,w.heap[ρ.blk b0]?=some (.cells arr elem (0,0))/\arr.size=sCap*i.size)(hno:¬obj.real ρ->sCap=0):
  ∃w',app.run P w=.ok (.slice (ρ.base b0) (sLen+n) sCap) w'/\
   (∀r,r≠ρ.blk b0->w'.heap[r]?=w.heap[r]?)/\w'.os=w.os/\w'.tape=w.tape/\w'.output=w.output/\(¬obj.real ρ->w'=w)/\
   (obj.real ρ->∃arr,w'.heap[ρ.blk b0]?=some (.cells arr elem (0,0))/\arr.size=sCap*i.size/\∀(j:Nat)(v:Value),(olds++news)[j]?=some v->arr[j]?=some v):=by
 by_cases hreal:obj.real ρ
 ·obtain⟨g1,g2,arr,g3,g4⟩:=hmem hreal
  rw[fj g1,g2]at h1 h2 ⊢
  have hle:sLen*i.size+news.length<=arr.size:=by
   rw[hl2,g4,<- Nat.add_mul];simp_all[Nat.mul_le_mul_right]
  have hrun:=h2.2.1 _ _ _ rfl g3 hroom hle hone;have hold:∀(j:Nat)(v:Value),olds[j]?=some v->arr[j]?=some v:=by
   have hrd:=h1 w rfl;have hcells:(Builtin.firstCells i.size sLen (.slice (some ⟨ρ.blk b0,0,none⟩) sLen sCap)).run P w=.ok ((arr.toList.take (sLen*i.size))).toArray w:=by
    refine M8 (P:=P) (by grind) (fun j v hj=>?_) w rfl
    rw[n6 g3,Nat.zero_add]
    grind
   grind
  refine⟨_,hrun,?_,rfl,rfl,rfl,fun h=>absurd hreal h,fun _=>⟨(arr.toList.take (sLen*i.size)++news++arr.toList.drop (sLen*i.size+news.length)).toArray,?_,?_,?_⟩⟩
  ·grind[World.setRow]
  ·simp_all[World.setRow,Array.getElem?_modify]
  all_goals grind
 ·have e3:news=[]:=List.length_eq_zero_iff.1 (by grind);subst e3
  exact⟨w,h2.2.2 rfl hroom,fun _ _=>rfl,rfl,rfl,rfl,fun _=>rfl,fun h=>absurd h hreal⟩
theorem aJA{B:Base}{ρ:Env}{st st':St}{w:World}{t:Tm}{a:Act}(hr:RepW B ρ st w)(hT:TmRep ρ t a){elem:TypeId}{i:TypeInfo}{z:Value}{app:Sem Value}(hzs:z.cells.size=i.size)
  {b0:Nat}{obj:SObj}(hb:st.heap.get b0=some ⟨true,obj⟩){sLen sCap:Nat}{olds:List Value}{n:Nat}{news:List Value}{ct:Held}{need cE:E}{v:SV}
  (h1:ik P i.size sLen (.slice (ρ.base b0) sLen sCap) olds w)(h2:wN P elem i z (ρ.base b0) sLen sCap n news w app)(hl1:olds.length=sLen*i.size)(hl2:news.length=n*i.size)
  (hone:∀v∈news,v.oneCell'=true)(hneed:need.I ρ=((sLen+n:Nat):Int))(hk:ct.Ok ρ i.size need (olds++news))(hlim:sLen+n<=2147483648)(hb0:0<i.bytes)(hbb:i.bytes<=32768)
  (hc0:0<=cE.I ρ)(hcN:(cE.I ρ).toNat=sCap)
  (hmem:obj.real ρ->ρ.nil b0=false/\ρ.off b0=0/\∃arr,w.heap[ρ.blk b0]?=some (.cells arr elem (0,0))/\arr.size=(cE.I ρ).toNat*i.size)
  (hobj:(∃cs af,obj=.cells cs af elem)\/(∃ks l m,obj=.flat ks l m cE elem/\ks.length=i.size))
  (h:Gt t st b0 i.size elem ct need=some (v,st')):
  ∃ρ' w',ρ.Ext ρ'/\RepW B ρ' st' w'/\TmRep ρ' t a/\v.ok ρ'/\app.run P w=.ok (v.den ρ') w':=by
 rw[hcN]at hmem
 unfold Gt at h
 rw[hb]at h
 simp only at h;split at h
 ·rw[T.setK_eq]at h
  have hd:=hr.drop b0 true;by_cases hg:sCap<sLen+n
  ·grind[JX]
  ·have hroom:=Nat.le_of_not_lt hg;have hno:¬obj.real ρ->sCap=0:=by
    intro hn;rcases hobj with⟨cs,af,rfl⟩|⟨ks,l,m,rfl,_⟩
    ·exact absurd trivial hn
    ·have:¬0<cE.I ρ:=hn
     omega
   obtain⟨w',q1,q2,q3,q4,q5,q6,q7⟩:=Yz ht hr hb h1 h2 hl1 hl2 hone hroom hmem hno (ct:=ct) (ln:=need) (need:=need)
   have hnN:(need.I ρ).toNat=sLen+n:=by omega
   have hlen:(olds++news).length=(need.I ρ).toNat*i.size:=by grind
   have hneq:∀j x,(st.heap.set b0 ⟨true,.gone⟩).get j=some x->x.obj.real ρ->j≠b0/\st.heap.get j=some x:=by
    intro j x hj hl
    rw[T.get_set]at hj
    split at hj
    ·rw[hb]at hj
     simp only[Option.map_some,Option.some.injEq]at hj;subst hj;cases hl
    simp_all
   have hcase:obj.real ρ\/¬obj.real ρ:=Classical.em _;have hapart:obj.real ρ->hG B ρ (ρ.blk b0)/\(∀j x,(st.heap.set b0 ⟨true,.gone⟩).get j=some x->x.obj.real ρ->ρ.blk j≠ρ.blk b0)/\∀r,jX ρ (st.heap.set b0 ⟨true,.gone⟩) r->r≠ρ.blk b0:=by
    intro hreal
    refine⟨((hr.blk _ _ hb).2.2 hreal).1 rfl,fun j x hj hl=>?_,fun r ⟨j,x,hj,hx⟩=>?_⟩
    ·obtain⟨g1,g2⟩:=hneq j x hj hl
     exact hr.apart g2 hb hl hreal (.inr rfl) g1
    ·rw[T.get_set]at hj
     split at hj
     ·rw[hb]at hj
      simp only[Option.map_some,Option.some.injEq]at hj;subst hj;exact hx.elim
     ·exact(((hr.inn j x hj r hx).2 _ _ hb).1 hreal).symm
   obtain⟨ρ',k1,k2,k3,k4,k5⟩:=Lh (w':=w') hd hT h hk (by omega) hlen _ sCap (by omega)
    (fun r _ hne=>q2 r hne) q3 q4 q5
    (by
     rcases hcase with hreal|hreal
     ·exact .inr (hapart hreal)
     simp_all)
    (by
     intro hq;have hreal:obj.real ρ:=by
      rcases hcase with hreal|hreal
      ·omega
      ·exfalso
       have:=hno hreal
       rcases hq with hq|⟨vs,rfl⟩
       ·omega
       ·rcases hobj with⟨cs,af,rfl⟩|⟨ks,l,m,rfl,_⟩
        ·exact hreal trivial
        simp_all[aaL]
     obtain⟨g1,g2,_⟩:=hmem hreal
     obtain⟨arr,m1,m2,m3⟩:=q7 hreal
     obtain⟨a1,a2,a3⟩:=hapart hreal
     exact⟨g1,g2,⟨arr,m1,m2,m3⟩,a1,fun j x hj hl _=>a2 j x hj hl,a3⟩)
   refine⟨ρ',w',k1,k2,k3,k4,?_⟩
   rw[q1,k5,hnN]
   rfl
 grind
omit ht in
theorem LQ{B:Base}{ρ:Env}{t:Tm}{a:Act}{w:World}{s:Sem Value}(x:Option E):ValOk P B ρ t a w s (Ee x):=by
 cases x<;>trivial
omit ht in
theorem GQ{fs pc:List E}{ρ:Env}(hf:∀x∈fs,∀ρ,x.B ρ=true)(hp:∀x∈pc,x.B ρ=true){e:E}(h:o9 fs pc e=true):e.I ρ=0:=by
 unfold o9 at h;split at h
 ·rename_i hz
  have:=Av hz;simp_all
 ·split at h
  ·rename_i hk
   have:=eK hf hp hk
   grind[eM,cK,E.I_int]
  grind
omit ht in
theorem aJT{fs pc:List E}{s:SV}{c:E}{ct:Held}(h:NY fs pc s c ct=true):∃ks l m,ct=.list ks l m/\(s=.nils\/(uT s=true/\o9 fs pc c=true)):=by
 unfold NY at h;split at h
 ·rename_i ks l m
  refine⟨ks,l,m,rfl,?_⟩
  split at h
  ·grind
  ·split at h
   ·exact .inr ⟨rfl,h⟩
   grind
  grind
 grind
theorem aBy{B:Base}{ρ:Env}{st:St}{w:World}{t:Tm}{a:Act}(hr:RepW B ρ st w)(hT:TmRep ρ t a){elem:TypeId}{i:TypeInfo}{z:Value}{app:Sem Value}(hzs:z.cells.size=i.size)
  {s:SV}(hs:s.ok ρ){ad:Option Addr}{sLen sCap n:Nat}{olds news:List Value}{A C:Held}{ls' lx' cE:E}(d1:s.den ρ=.slice ad sLen sCap)(e1:sF i.size s=some ls')(hcE:rV s=some cE)
  (l1:(ls'.I ρ).toNat=sLen)(v1:olds.length=sLen*i.size)(r1:ik P i.size sLen (.slice ad sLen sCap) olds w)(o1:A.Ok ρ i.size ls' olds)
  (l2:(lx'.I ρ).toNat=n)(v2:news.length=n*i.size)(r2:wN P elem i z ad sLen sCap n news w app)(o2:C.Ok ρ i.size lx' news)(hcap:(cE.I ρ).toNat=sCap/\(uT s=true->sLen<=sCap))
  (hb0:0<i.bytes)(c2:i.bytes<=32768):ValOk P B ρ t a w app (xV tb t st elem i.size s A C ls' lx' cE):=by
 have hp:=hr.pc;generalize hR:xV tb t st elem i.size s A C ls' lx' cE=R;unfold xV at hR;split at hR
 ·rename_i ct hct;dsimp only at hR;split at hR
  ·rename_i hnn;simp only[Bool.and_eq_true]at hnn;have n1:=iY ht.facts hp hnn.1;have n2:=iY ht.facts hp hnn.2.1;have n3:=iY ht.facts hp hnn.2.2;have hneed:(dA ls' lx').I ρ=((sLen+n:Nat):Int):=by rw[kR];omega
   have hk:=o1.app o2 (by simp_all) (by simp_all) hct;split at hR
   ·rename_i hlimB;have hlim:sLen+n<=2147483648:=by
     have:=jk ht.facts hp hlimB
     rw[hneed]at this
     have e:jD.I ρ=2147483648:=rfl;omega
    split at hR
    ·-- growth
     rename_i hkn;have hkn':=eK ht.facts hp hkn
     rw[eM,abL,hneed]at hkn'
     have hg:sCap<sLen+n:=by omega
     cases hg':pM t st i.size elem ct (dA ls' lx')with
     |none=>rw[hg']at hR;subst hR;trivial
     |some q=>
      obtain⟨v,st'⟩:=q
      rw[hg']at hR;subst hR
      exact JX ht hr hT hzs r1 r2 v1 v2 hneed hk hg hlim hb0 c2 hg'
    ·-- there is room
     rename_i hkn;have hkn':=eK ht.facts hp hkn
     rw[eM,oF,hneed]at hkn'
     have hroom:sLen+n<=sCap:=by omega
     have tu:o9 tb.facts st.pc lx'=true->ValOk P B ρ t a w app (.val s st):=by
      intro hze;have hn0:n=0:=by
       have:=GQ ht.facts hp hze
       omega
      subst hn0;have hnil:news=[]:=List.length_eq_zero_iff.1 (by omega);subst hnil
      refine⟨ρ,w,Env.Ext.refl ρ,hr,hT,hs,?_⟩
      rw[r2.2.2 rfl hroom,d1]
      rfl
     split at hR
     ·simp_all
     ·split at hR
      ·rename_i b0 hwh
       obtain⟨obj,hb,hd,hmem,hobj⟩:=af5 hr hwh hcE e1 n3
       rw[hb]at hR
       simp only at hR;split at hR
       ·rename_i obj' hno
        rw[T.setK_eq]at hR
        subst hR
        rw[d1,l1,hcap.1]at hd
        simp only[Value.slice.injEq,and_true]at hd;subst hd;have hno':¬obj.real ρ->sCap=0:=by
         intro hn;rcases hobj with⟨cs,af,rfl⟩|⟨ks,l,m,rfl,_⟩
         ·exact absurd trivial hn
         ·have:¬0<cE.I ρ:=hn
          omega
        rw[hcap.1]at hmem
        obtain⟨w',q1,q2,q3,q4,q5,q6,q7⟩:=Yz ht hr hb r1 r2 v1 v2 (Held.one_cells o2) hroom hmem hno' (ct:=ct) (ln:=ls') (need:=ls')
        have hnN:((dA ls' lx').I ρ).toNat=sLen+n:=by omega
        have hlen:(olds++news).length=((dA ls' lx').I ρ).toNat*i.size:=by grind
        have hrep:blkRep ρ w' (ρ.blk b0) (ρ.off b0) (ρ.nil b0) obj':=by
         unfold zF at hno;split at hno
         ·rename_i cs af e vs;simp only[Option.some.injEq]at hno;subst hno
          obtain⟨_,_,hcs⟩:True/\True/\∃cs' tot',SObj.cells cs af e=.cells cs' tot' elem:=by
           simp_all
          obtain⟨cs',tot',he⟩:=hcs
          cases he
          obtain⟨g1,g2,_⟩:=hmem trivial
          obtain⟨arr,m1,m2,m3⟩:=q7 trivial
          obtain⟨p1,p2,_⟩:=hk
          have htot:=(hr.blk _ _ hb).2.1
          obtain⟨_,_,_,arr0,t1,t2,_⟩:=htot
          obtain⟨_,_,arr1,t3,t4⟩:=hmem trivial
          rw[t1]at t3
          simp only[Option.some.injEq,Obj.cells.injEq,and_true]at t3;subst t3
          refine⟨g1,g2,p2,arr,m1,by omega,fun j v hv=>m3 j _ ?_⟩
          simp_all[SV.dens_eq,List.getElem?_map]
         ·rename_i ks0 l0 n0 af e ks l nn;simp only[Option.some.injEq]at hno;subst hno;rcases hobj with⟨cs',tot',h⟩|⟨ks',l',m',h,hks'⟩
          ·cases h
          ·cases h;have hcE':cE.I ρ=(sCap:Int):=by omega
           refine adj (c:=cE) (ct:=.list ks l nn) hk (by omega) hlen (by omega) (fun hq=>?_);have hreal:(SObj.flat ks0 l0 n0 cE elem).real ρ:=by
            grind
           simp_all
         simp_all
        have hreal':obj.real ρ\/¬obj.real ρ:=Classical.em _;have hrep2:RepW B ρ {st with heap:=st.heap.set b0 ⟨true,obj'⟩} w':=by
         rcases hreal' with hreal|hreal
         ·exact hr.putObj hb hreal q2 q3 q4 q5 hrep (fun r h=>(ac4 hno h).elim)
         ·rw[q6 hreal]at hrep ⊢
          have hnr:¬obj'.real ρ:=by
           unfold zF at hno;split at hno
           ·exact absurd trivial hreal
           ·simp only[Option.some.injEq]at hno;subst hno;exact hreal
           simp_all
          exact hr.swap hb hrep hnr (fun r h=>(ac4 hno h).elim)
        refine⟨ρ,w',Env.Ext.refl ρ,hrep2,hT,by simp[SV.ok],?_⟩
        simp_all[SV.den]
       ·subst hR;trivial
      ·split at hR
       ·simp_all
       ·subst hR;trivial
    ·-- it is not known
     rename_i hkn;split at hR
     ·rename_i b0 hwh
      obtain⟨obj,hb,hd,hmem,hobj⟩:=af5 hr hwh hcE e1 n3
      cases hg':Gt t st b0 i.size elem ct (dA ls' lx')with
      |none=>rw[hg']at hR;subst hR;trivial
      |some q=>
       obtain⟨v,st'⟩:=q
       rw[hg']at hR;subst hR
       rw[d1,l1,hcap.1]at hd
       simp only[Value.slice.injEq,and_true]at hd;subst hd;exact aJA ht hr hT hzs hb r1 r2 v1 v2 (Held.one_cells o2) hneed hk hlim hb0 c2 n3 hcap.1 hmem hobj hg'
     ·split at hR
      ·rename_i hun
       obtain⟨ks,l,m,hct',hu⟩:=aJT hun
       have hz2:sLen=0/\sCap=0:=by
        rcases hu with rfl|⟨hb,hz⟩
        ·grind[SV.den,Value.slice.injEq]
        ·have:=GQ ht.facts hp hz
         grind
       cases hg':pM t st i.size elem ct (dA ls' lx')with
       |none=>rw[hg']at hR;subst hR;trivial
       |some q=>
        obtain⟨v,st'⟩:=q
        rw[hg']at hR;subst hR
        by_cases hg:sCap<sLen+n
        ·exact JX ht hr hT hzs r1 r2 v1 v2 hneed hk hg hlim hb0 c2 hg'
        ·have hn0:n=0:=by omega
         subst hn0;have hnil:news=[]:=List.length_eq_zero_iff.1 (by omega);subst hnil;have hnN:((dA ls' lx').I ρ).toNat=0:=by omega
         obtain⟨ρ',k1,k2,k3,k4,k5⟩:=Lh (w':=w) hr hT hg' hk (by omega) (by simp_all) ⟨0,0,some ad⟩ 0 (by omega)
          (fun _ _ _=>rfl) rfl rfl rfl (.inl fun _ _=>rfl) (fun hq=>by
           simp_all)
         refine⟨ρ',w,k1,k2,k3,k4,?_⟩
         rw[r2.2.2 rfl (by omega),k5,hnN,hz2.1,hz2.2]
         rfl
      split at hR
      ·rename_i hbsl;split at hR
       ·rename_i hk0;have hk0':=eK ht.facts hp hk0
        rw[eM,mH,E.I_int]at hk0'
        subst hR;have hn0:n=0:=by omega
        subst hn0;have hnil:news=[]:=List.length_eq_zero_iff.1 (by omega);subst hnil
        refine⟨ρ,w,Env.Ext.refl ρ,hr,hT,hs,?_⟩
        rw[r2.2.2 rfl (by simp_all),d1]
        rfl
       ·subst hR;trivial
       ·subst hR;trivial
      ·split at hR
       ·split at hR
        ·rename_i hk0;have hk0':=eK ht.facts hp hk0
         rw[eM,mH,E.I_int]at hk0'
         subst hR;have hn0:n=0:=by omega
         subst hn0;have hnil:news=[]:=List.length_eq_zero_iff.1 (by omega);subst hnil;have hz2:sLen=0/\sCap=0:=by grind[SV.den,Value.slice.injEq]
         refine⟨ρ,w,Env.Ext.refl ρ,hr,hT,hs,?_⟩
         rw[r2.2.2 rfl (by omega),d1]
         rfl
        ·subst hR;trivial
        ·subst hR;trivial
       ·subst hR;trivial
   ·subst hR;trivial
  ·subst hR;trivial
 ·subst hR;trivial
omit ht in
theorem aCi{ρ:Env}{s:SV}(hs:s.ok ρ){cE:E}(hcE:rV s=some cE){ad:Option Addr}{sLen sCap:Nat}(d1:s.den ρ=.slice ad sLen sCap):(cE.I ρ).toNat=sCap/\(uT s=true->sLen<=sCap):=by
  cases s<;>simp only[rV,Option.some.injEq,reduceCtorEq]at hcE<;>subst hcE
  ·simp only[SV.den,Value.slice.injEq]at d1;exact⟨by rw[<- d1.2.2];rfl,fun h=>by omega⟩
  ·grind[SV.den,uT]
  ·grind[SV.den,uT]
  ·rename_i ks e;have hx':SlOk _ ks _:=hs;have hd:(SV.bsl ks e).den ρ=.slice (e.den ρ).adr (e.den ρ).rlen (e.den ρ).rcap:=by grind[SV.den,zR]
   rw[hd]at d1
   simp only[Value.slice.injEq]at d1
   refine⟨by grind[yc],fun _=>?_⟩
   rw[<- d1.2.1,<- d1.2.2]
   generalize e.den ρ=u at hx';cases hx' with
   |nil=>simp[U.rlen]
   |empty=>simp[U.rlen]
   |mk _ hc _ _ _=>exact hc
theorem Yx{B:Base}{ρ:Env}{st:St}{w:World}{t:Tm}{a:Act}(hr:RepW B ρ st w)(hT:TmRep ρ t a){ty xt rt:TypeId}{s x:SV}(hs:s.ok ρ)(hx:x.ok ρ):
  ValOk P B ρ t a w (Builtin.append_ #[ty,xt] rt #[s.den ρ,x.den ρ]) (uh tb t st ty xt s x):=by
 generalize hR:uh tb t st ty xt s x=R;unfold uh at hR;split at hR
 ·rename_i elem hu;split at hR
  ·rename_i sz bytes z hsz hby hz;split at hR
   ·rename_i hc;simp only[Bool.and_eq_true]at hc
    obtain⟨c1,c2,c3,c4⟩:=hc
    have hb0:=eA.1 c1
    rw[Nat.ble_eq]at c2
    have hsz0:=eA.1 c3
    obtain⟨i,hi,rfl,rfl,hget⟩:=aCf ht hsz hby
    have hz0:i.zero=some (z.den ρ)/\z.ok ρ:=by
     grind[jW,i7,EZ]
    have hzs:(z.den ρ).cells.size=i.size:=by simp_all[SV.cells_size]
    split at hR
    ·rename_i A ls cE hA hls hcE
     obtain⟨ad,sLen,sCap,olds,ls',d1,e1,l1,v1,r1,o1⟩:=Zg ht hr hs hA
     rw[e1]at hls;simp only[Option.some.injEq]at hls;subst hls
     rw[d1]at r1
     have hcap:=aCi hs hcE d1;split at hR
     ·rename_i hxt
      obtain⟨e',hxu⟩:=abi ht hxt
      split at hR
      ·rename_i C lx hC hlx
       obtain⟨bd,n,cc,news,lx',d2,e2,l2,v2,r2,o2⟩:=Zg ht hr hx hC
       rw[e2]at hlx;simp only[Option.some.injEq]at hlx;subst hlx
       rw[d2]at r2
       subst hR
       rw[d1,d2]
       exact aBy ht hr hT hzs hs d1 e1 hcE l1 v1 r1 o1 l2 v2 (aD1 (ht.und hu) hxu hi hz0.1 r2) o2 hcap hb0 c2
      grind[LQ]
     ·split at hR
      ·rename_i C lx hC;subst hR;unfold agl at hC;cases hC
      grind[LQ]
    grind[LQ]
   ·subst hR;trivial
  ·subst hR;trivial
 ·subst hR;trivial
end
end Go.SX

namespace Go.SX
section
variable {P:Program} {tb:Tab} (ht:TabOk P tb)
include ht
theorem aEA{B:Base}{ρ:Env}{st:St}{w:World}{t:Tm}{a:Act}(hr:RepW B ρ st w)(hT:TmRep ρ t a){ty:TypeId}{x y:SV}:
  ValOk P B ρ t a w (Instr.makeSlice ty (x.den ρ) (y.den ρ)) (abM tb t st ty x y):=trivial
end
end Go.SX

namespace Go.SX
section
variable {P:Program} {tb:Tab} (ht:TabOk P tb)
include ht
omit ht in
theorem aFB{B:Base}{ρ:Env}{st:St}{w:World}(hr:RepW B ρ st w){b off:Nat}{cs cs' ws:List SV}{af:E}{e:TypeId}(hb:st.heap.get b=some ⟨true,.cells cs af e⟩)(hov:oQ cs off ws=some cs')(hone:∀v∈ws,v.one=true)(hok:SV.oks ρ ws):
  ∃w',(storeCells ⟨ρ.blk b,off,none⟩ (SV.dens ρ ws)).run P w=.ok () w'/\RepW B ρ {st with heap:=st.heap.set b ⟨true,.cells cs' af e⟩} w':=by
 obtain⟨_,⟨_,h0,hk,arr,h1,h2,h3⟩,_⟩:=hr.blk _ _ hb
 obtain⟨k1,k2⟩:=zH _ _ _ _ hov
 have hl:(SV.dens ρ ws).length=ws.length:=by grind[SV.dens_eq]
 have hca:cs.length<=arr.size:=by
  rcases Nat.lt_or_ge 0 cs.length with hpos|hpos
  ·have hlast:=h3 (cs.length-1) (cs[cs.length-1]'(by omega)) (by simp);grind
  omega
 have hle:off+0+(SV.dens ρ ws).length<=arr.size:=by omega
 have hst:=run_storeCells_at (P:=P) (ρ.blk b) off e (SV.dens ρ ws) 0 arr w h1 hle (by
  intro y hy
  rw[SV.dens_eq]at hy
  obtain⟨s,hs,rfl⟩:=List.mem_map.1 hy
  exact qk (hone s hs) ρ)
 refine⟨_,hst,RepW.row hr hb h1 ?_ (E4 hk hok hov) ?_ h2⟩
 ·grind
 ·intro j y hj
  rw[k1]at hj
  simp only[List.getElem?_toArray]
  rw[hl,Nat.add_zero]
  have hle':off+ws.length<=arr.size:=by omega
  by_cases h4:j<off
  ·grind
  grind[List.getElem?_append_left,List.getElem?_append_right,List.length_take,Array.length_toList,SV.dens_eq,List.length_append]
theorem aFA{B:Base}{ρ:Env}{st:St}{w:World}{t:Tm}{a:Act}(hr:RepW B ρ st w)(hT:TmRep ρ t a){b off:Nat}{ws:List SV}{v:SV}(hv:v.ok ρ)(hone:∀v∈ws,v.one=true)(hok:SV.oks ρ ws){s:Sem Value}
  (hrun:∀w',ρ.nil b=false->ρ.off b=0->(storeCells ⟨ρ.blk b,off,none⟩ (SV.dens ρ ws)).run P w=.ok () w'->s.run P w=.ok (v.den ρ) w'):ValOk P B ρ t a w s (FD st b off ws v):=by
 generalize hR:FD st b _ ws v=R;unfold FD at hR;split at hR
 ·rename_i cs af e hb;split at hR
  ·rename_i cs' hov
   rw[T.setK_eq]at hR
   subst hR
   obtain⟨w',h1,h2⟩:=aFB (P:=P) hr hb hov hone hok
   obtain⟨_,⟨z1,z0,_⟩,_⟩:=hr.blk _ _ hb
   exact⟨ρ,w',Env.Ext.refl ρ,h2,hT,hv,hrun w' z1 z0 h1⟩
  ·subst hR;trivial
 ·subst hR;trivial
theorem aCF{B:Base}{ρ:Env}{st:St}{w:World}{t:Tm}{a:Act}(hr:RepW B ρ st w)(hT:TmRep ρ t a){ty xt rt:TypeId}{d s:SV}(hd:d.ok ρ)(hs:s.ok ρ):
  ValOk P B ρ t a w (Builtin.copy_ #[ty,xt] rt #[d.den ρ,s.den ρ]) (Zh tb st ty xt d s):=trivial
omit ht in
theorem aKf(c:Array Value):Builtin.zeroCells c 1=c:=by
 grind[Builtin.zeroCells,Nat.mod_eq_of_lt]
omit ht in
theorem aCx{arr:Array Value}{n:Nat}{v:List Value}{j:Nat}(hj:j<n)(hle:n+0+v.length<=arr.size):
  (arr.toList.take (n+0)++v++arr.toList.drop (n+0+v.length)).toArray[j]?=arr[j]?:=by
 grind
omit ht in
theorem Kk{arr:Array Value}{n:Nat}{v:List Value}(hle:n+0+v.length<=arr.size):
  (arr.toList.take (n+0)++v++arr.toList.drop (n+0+v.length)).toArray.size=arr.size:=by
 grind
omit ht in
theorem aFJ{fs pc:List E}{ρ:Env}(hf:∀x∈fs,∀ρ,x.B ρ=true)(hp:∀x∈pc,x.B ρ=true){m:Nat}{af:E}(h:M3 fs pc m af=true):(m:Int)<=af.I ρ:=by
 unfold M3 at h;split at h
 ·rename_i hl;exact jk hf hp hl
 ·split at h
  ·rename_i f c k hl;split at h
   ·rename_i hf8 hk
    have:=Nat.eq_of_beq_eq_true hf8;subst this
    rw[Nat.blt_eq]at hk
    have h1:=jk hf hp h;have h2:m<=((m+k-1)/k)*k:=by
     have:=Nat.div_add_mod (m+k-1) k
     have:=Nat.mod_lt (m+k-1) hk
     grind
    have h3:((m+k-1)/k:Nat)*k<=c.I ρ*k:=Int.mul_le_mul_of_nonneg_right h1 (Int.natCast_nonneg _);have e:(E.fn 8 (.pr c (.int (.ofNat k)))).I ρ=c.I ρ*k:=rfl;omega
   ·cases h
  ·cases h
theorem Kg{B:Base}{ρ:Env}{st:St}{w:World}{t:Tm}{a:Act}(hr:RepW B ρ st w)(hT:TmRep ρ t a){ty rt elem:TypeId}{b:Nat}{o:Off}{c:Nat}(hu:tb.und ty=some (.slice elem)):
  ValOk P B ρ t a w (Builtin.clear_ #[ty] rt #[.slice (some ⟨ρ.blk b,ρ.off b+o.den ρ,none⟩) 1 c]) (uz tb st elem b o):=by
 have hp:=hr.pc;generalize hR:uz tb st elem b o=R;unfold uz at hR;split at hR
 ·rename_i sz z hsz hz;have hcl:(z.den ρ).cells.toList.length=z.cells.length:=by grind[SV.cells_den]
  have key0:∀st' w',(storeCells ⟨ρ.blk b,ρ.off b+o.den ρ,none⟩ (z.den ρ).cells.toList).run P w=.ok () w'->RepW B ρ st' w'->
    ValOk P B ρ t a w (Builtin.clear_ #[ty] rt #[.slice (some ⟨ρ.blk b,ρ.off b+o.den ρ,none⟩) 1 c]) (.val .undef st'):=by
   intro st' w' e2 e3
   refine⟨ρ,w',Env.Ext.refl ρ,e3,hT,iH ρ,?_⟩
   have hund:SV.undef.den ρ=Value.tuple #[]:=SV.undef_den ρ
   rw[hund]
   simp[Builtin.clear_,ht.run_und hu,ht.run_zero hz ρ w,aKf,e2]
  have key:∀st',(∃ad w',(SV.ptr b o).den ρ=.pointer (some ad)/\(storeVar elem ad (z.den ρ)).run P w=.ok () w'/\RepW B ρ st' w')->
    ValOk P B ρ t a w (Builtin.clear_ #[ty] rt #[.slice (some ⟨ρ.blk b,ρ.off b+o.den ρ,none⟩) 1 c]) (.val .undef st'):=by
   rintro st' ⟨ad,w',e1,e2,e3⟩
   simp only[SV.den,Value.pointer.injEq,Option.some.injEq]at e1;subst e1;simp only[storeVar,Sem.run_bind,ht.run_size hsz,Result.andThen_ok]at e2;split at e2;all_goals simp_all
  have k0:∀R',CV tb st elem b o z=R'->ValOk P B ρ t a w (Builtin.clear_ #[ty] rt #[.slice (some ⟨ρ.blk b,ρ.off b+o.den ρ,none⟩) 1 c]) R':=by
   intro R' hR';unfold CV at hR';split at hR'
   ·rename_i st' hs;subst hR';exact key _ (ae8 ht hr (jW hz ρ) hs)
   ·split at hR'
    ·rename_i st' hs;subst hR';exact key _ (NF ht hr trivial (jW hz ρ) hs)
    ·subst hR';trivial
    ·subst hR';trivial
    ·subst hR';trivial
  split at hR
  ·rename_i hcz;simp only[Bool.and_eq_true]at hcz;have hone:∀v∈(z.den ρ).cells.toList,v.oneCell'=true:=by
    intro y hy
    rw[SV.cells_den]at hy
    obtain⟨s,hs,rfl⟩:=List.mem_map.1 hy
    grind[qk,rQ]
   split at hR
   ·rename_i cs af e' hb;split at hR
    ·rename_i off hoff;have ho:=jL hoff ρ
     obtain⟨_,⟨hn,h0,hk,arr,h1,h2,h3⟩,_⟩:=hr.blk _ _ hb
     split at hR
     ·rename_i hbl
      rw[Nat.ble_eq]at hbl
      split at hR
      ·rename_i hle;have hle:=aFJ ht.facts hp hle
       rw[T.setK_eq]at hR
       subst hR;have hle':off+0+(z.den ρ).cells.toList.length<=arr.size:=by
        grind
       have hst:=run_storeCells_at (P:=P) (ρ.blk b) off e' (z.den ρ).cells.toList 0 arr w h1 hle' hone;refine key0 _ _ (by simp_all) (RepW.put hr hb trivial h1 (arr':=(arr.toList.take (off+0)++(z.den ρ).cells.toList++arr.toList.drop (off+0+(z.den ρ).cells.toList.length)).toArray) ?_);intro w' hw'
       refine⟨hn,h0,hk,_,hw',by grind,fun j y hj=>?_⟩
       grind
      ·subst hR;trivial
     simp_all
    ·subst hR;trivial
   ·rename_i ks l n af e' hb;split at hR
    ·rename_i idx j hat
     obtain⟨q1,q2,q3,q4,q5⟩:=pK ht.facts hp hat
     rw[b7]at q1 q2 q4
     split at hR
     ·rename_i hc;simp only[Bool.and_eq_true]at hc
      obtain⟨c1,c2,c3⟩:=hc
      have c1:=Nat.eq_of_beq_eq_true c1;subst c1;have c2:=Nat.eq_of_beq_eq_true c2
      rw[b7]at c2
      have c3:=jk ht.facts hp c3
      obtain⟨_,⟨f1,f2,f3,f4,f5⟩,_⟩:=hr.blk _ _ hb
      have htot:0<af.I ρ:=by omega
      obtain⟨g1,g2,arr,h1,g4,g5⟩:=f5 htot
      rw[T.setK_eq]at hR
      subst hR;have hle':(idx.I ρ).toNat*ks.length+0+(z.den ρ).cells.toList.length<=arr.size:=by
       rw[hcl,c2]
       have hm:(((idx.I ρ).toNat+1:Nat):Int)*(ks.length:Int)<=af.I ρ*(ks.length:Int):=Int.mul_le_mul_of_nonneg_right (by omega) (by omega);grind
      have hst:=run_storeCells_at (P:=P) (ρ.blk b) ((idx.I ρ).toNat*ks.length) e' (z.den ρ).cells.toList 0 arr w h1 hle' hone;refine key0 _ _ (by simp_all) (RepW.put hr hb htot h1 (arr':=(arr.toList.take ((idx.I ρ).toNat*ks.length+0)++(z.den ρ).cells.toList++arr.toList.drop ((idx.I ρ).toNat*ks.length+0+(z.den ρ).cells.toList.length)).toArray) ?_);intro w' hw'
      refine⟨f1,f2,f3,f4,fun _=>⟨g1,g2,_,hw',?_,by grind[Kk]⟩⟩
      intro j' u hu'
      obtain⟨cc,d1,d2,d3⟩:=g4 j' u hu'
      have hjl:j'<(l.L ρ).length:=(List.getElem?_eq_some_iff.1 hu').1;have hlt:j'<(idx.I ρ).toNat*ks.length:=by
       have h6:n.I ρ*(ks.length:Int)<=(((idx.I ρ).toNat:Nat):Int)*(ks.length:Int):=Int.mul_le_mul_of_nonneg_right (by omega) (by omega);omega
      grind
     simp_all
    ·subst hR;trivial
    ·subst hR;trivial
   ·subst hR;trivial
  ·subst hR;trivial
 ·subst hR;trivial
omit ht in
theorem aee(ρ:Env)(zc:List SV):∀m,SV.dens ρ (zT zc m)=(Builtin.zeroCells (SV.dens ρ zc).toArray m).toList
 |0=>by simp[zT,SV.dens_eq,Builtin.zeroCells]
 |m+1=>by
  have ih:=aee ρ zc m;simp only[SV.dens_eq,zT,List.map_append]at *
  rw[ih]
  have e:(List.map (SV.den ρ) zc).length=zc.length:=by simp
  apply List.ext_getElem?;intro i;simp only[Builtin.zeroCells,Array.toList_map,Array.toList_range,List.getElem?_append,List.getElem?_map,List.length_map,List.size_toArray];by_cases h:i<zc.length
  ·have h1:i<(m+1)*zc.length:=by rw[Nat.succ_mul];omega
   have h2:i%zc.length=i:=Nat.mod_eq_of_lt h;simp[h,h1,h2,List.getElem?_range]
  ·by_cases h0:zc.length=0
   ·simp[h0]
   ·have h3:(i-zc.length)%zc.length=i%zc.length:=by
     rw[Nat.mod_eq_sub_mod (a:=i) (by omega)]
    by_cases h4:i-zc.length<m*zc.length
    ·have h5:i<(m+1)*zc.length:=by rw[Nat.succ_mul];omega
     simp[h,h4,h5,h3,List.getElem?_range]
    ·have h5:¬i<(m+1)*zc.length:=by rw[Nat.succ_mul];omega
     simp[h,h4,h5]
theorem Y8{B:Base}{ρ:Env}{st:St}{w:World}{t:Tm}{a:Act}(hr:RepW B ρ st w)(hT:TmRep ρ t a){ty rt elem:TypeId}{b off m c:Nat}(hu:tb.und ty=some (.slice elem)):
  ValOk P B ρ t a w (Builtin.clear_ #[ty] rt #[.slice (some ⟨ρ.blk b,ρ.off b+off,none⟩) (m+1) c]) (yf tb st elem b off (m+1)):=by
 generalize hR:yf tb st elem b off (m+1)=R;unfold yf at hR;split at hR
 ·rename_i z hz;split at hR
  ·rename_i hone;subst hR;have hall:=rQ _ hone;have hok:SV.oks ρ z.cells:=SV.cells_ok (jW hz ρ);refine aFA ht hr hT (iH ρ) ?_ ?_ ?_
   ·generalize m+1=k;induction k with
    |zero=>intro v hv;cases hv
    |succ k ih=>intro v hv;rcases List.mem_append.1 hv with h|h<;>grind
   ·generalize m+1=k
    rw[SV.oks_iff]at *
    induction k with
    |zero=>intro v hv;cases hv
    |succ k ih=>intro v hv;rcases List.mem_append.1 hv with h|h<;>grind
   ·intro w' h0 h1 h2
    rw[aee]at h2
    have hund:SV.undef.den ρ=Value.tuple #[]:=SV.undef_den ρ;have hc:(SV.dens ρ z.cells).toArray=(z.den ρ).cells:=by
     apply Array.ext'
     rw[SV.cells_den,SV.dens_eq]
    rw[hc]at h2
    rw[hund]
    simp[Builtin.clear_,ht.run_und hu,ht.run_zero hz ρ w,h1,h2]
  ·subst hR;trivial
 ·subst hR;trivial
omit ht in
theorem aKd(c:Array Value)(n:Nat):(Builtin.zeroCells c n).toList.length=n*c.size:=by
 simp[Builtin.zeroCells]
omit ht in
theorem aKe{c:Array Value}{n:Nat}{P:Value->Prop}(h:∀v∈c.toList,P v):∀v∈(Builtin.zeroCells c n).toList,P v:=by
 intro v hv;simp only[Builtin.zeroCells,Array.toList_map,Array.toList_range,List.mem_map,List.mem_range]at hv
 obtain⟨i,hi,rfl⟩:=hv
 have hc:0<c.size:=by
  rcases Nat.eq_zero_or_pos c.size with h0|h0
  ·simp[h0]at hi
  ·exact h0
 have hm:i%c.size<c.size:=Nat.mod_lt _ hc;refine h _ ?_;simp[hm]
theorem Y9{B:Base}{ρ:Env}{st:St}{w:World}{t:Tm}{a:Act}(hr:RepW B ρ st w)(hT:TmRep ρ t a){ty rt elem:TypeId}{b:Nat}{o:Off}{n:E}{c:Nat}(hu:tb.und ty=some (.slice elem)):
  ValOk P B ρ t a w (Builtin.clear_ #[ty] rt #[.slice (some ⟨ρ.blk b,ρ.off b+o.den ρ,none⟩) (n.I ρ).toNat c]) (uA tb st elem b o n):=by
 have hp:=hr.pc;generalize hR:uA tb st elem b o n=R;unfold uA at hR;split at hR
 ·rename_i z hz;split at hR
  ·rename_i ks l m af e' hb;split at hR
   ·rename_i idx j hat
    obtain⟨q1,q2,q3,q4,q5⟩:=pK ht.facts hp hat
    rw[b7]at q1 q2 q4
    split at hR
    ·rename_i hc;simp only[Bool.and_eq_true]at hc
     obtain⟨c1,c2,c3,c4⟩:=hc
     have c1:=Nat.eq_of_beq_eq_true c1;subst c1;have c2:=Nat.eq_of_beq_eq_true c2
     rw[b7]at c2
     have c4:=jk ht.facts hp c4;split at hR
     ·rename_i hk;have hk:=eK ht.facts hp hk
      rw[eM]at hk
      have hm:m.I ρ=idx.I ρ+n.I ρ:=by simpa[cK,kR]using hk
      have c4:(0:Int)<=n.I ρ:=c4
      obtain⟨_,⟨f1,f2,f3,f4,f5⟩,_⟩:=hr.blk _ _ hb
      have htot:0<af.I ρ:=by omega
      obtain⟨g1,g2,arr,h1,g4,g5⟩:=f5 htot
      rw[T.setK_eq]at hR
      subst hR;have hL:(E.fn 18 (.pr l (.fn 8 (.pr idx (.int (.ofNat (aR ks))))))).L ρ=(l.L ρ).take ((idx.I ρ).toNat*ks.length):=by
       have:(E.fn 18 (.pr l (.fn 8 (.pr idx (.int (.ofNat (aR ks))))))).L ρ=(l.L ρ).take (idx.I ρ*((aR ks:Nat):Int)).toNat:=rfl
       rw[this,b7]
       congr 1
       have:idx.I ρ=(((idx.I ρ).toNat:Nat):Int):=by omega
       rw[this,<- Int.natCast_mul,Int.toNat_natCast,Int.toNat_natCast]
      have hle1:(((idx.I ρ).toNat*ks.length:Nat):Int)<=((l.L ρ).length:Int):=by
       rw[f2,Int.natCast_mul]
       exact Int.mul_le_mul_of_nonneg_right (by omega) (Int.natCast_nonneg _)
      have hLl:((((l.L ρ).take ((idx.I ρ).toNat*ks.length)).length:Nat):Int)=idx.I ρ*ks.length:=by
       rw[List.length_take,Nat.min_eq_left (by omega),Int.natCast_mul]
       congr 1;omega
      have hund:SV.undef.den ρ=Value.tuple #[]:=SV.undef_den ρ;have key:∀arr':Array Value,arr'.size=arr.size->(∀i,i<(idx.I ρ).toNat*ks.length->arr'[i]?=arr[i]?)->flatRep ρ.fz ks ((l.L ρ).take ((idx.I ρ).toNat*ks.length)) arr':=by
       intro arr' hs ha i u hu';have hi:i<(idx.I ρ).toNat*ks.length:=by
        have:=(List.getElem?_eq_some_iff.1 hu').1
        rw[List.length_take]at this;omega
       rw[List.getElem?_take,if_pos hi]at hu'
       obtain⟨cc,d1,d2,d3⟩:=g4 i u hu'
       grind
      by_cases hn0:(n.I ρ).toNat=0
      ·refine⟨ρ,w,Env.Ext.refl ρ,?_,hT,iH ρ,?_⟩
       ·refine hr.putObj hb htot (fun _ _=>rfl) rfl rfl rfl ?_ (fun r h=>False.elim h)
        refine⟨f1,by rw[hL];exact hLl,by omega,by omega,fun _=>⟨g1,g2,arr,h1,?_,g5⟩⟩
        rw[hL]
        exact key arr rfl (fun _ _=>rfl)
       ·rw[hund,hn0]
        simp[Builtin.clear_,ht.run_und hu]
      ·have hcl:(z.den ρ).cells.toList.length=z.cells.length:=by grind[SV.cells_den]
       have hcs:(z.den ρ).cells.size=ks.length:=by rw[<- Array.length_toList,hcl,c2]
       have hzl:(Builtin.zeroCells (z.den ρ).cells (n.I ρ).toNat).toList.length=(n.I ρ).toNat*ks.length:=by rw[aKd,hcs]
       have hone:∀v∈(Builtin.zeroCells (z.den ρ).cells (n.I ρ).toNat).toList,v.oneCell'=true:=aKe (fun y hy=>by
        rw[SV.cells_den]at hy
        obtain⟨s,hs,rfl⟩:=List.mem_map.1 hy
        exact qk (rQ _ c3 s hs) ρ)
       have hle':(idx.I ρ).toNat*ks.length+0+(Builtin.zeroCells (z.den ρ).cells (n.I ρ).toNat).toList.length<=arr.size:=by
        rw[hzl,Nat.add_zero,<- Nat.add_mul]
        have h3:((((idx.I ρ).toNat+(n.I ρ).toNat:Nat):Int))*(ks.length:Int)<=af.I ρ*(ks.length:Int):=Int.mul_le_mul_of_nonneg_right (by omega) (Int.natCast_nonneg _)
        rw[<- Int.natCast_mul]at h3
        omega
       have hst:=run_storeCells_at (P:=P) (ρ.blk b) ((idx.I ρ).toNat*ks.length) e' (Builtin.zeroCells (z.den ρ).cells (n.I ρ).toNat).toList 0 arr w h1 hle' hone;have hrw:=RepW.put hr hb htot h1 (obj':=.flat ks (.fn 18 (.pr l (.fn 8 (.pr idx (.int (.ofNat (aR ks))))))) idx af e') (arr':=(arr.toList.take ((idx.I ρ).toNat*ks.length+0)++(Builtin.zeroCells (z.den ρ).cells (n.I ρ).toNat).toList++arr.toList.drop ((idx.I ρ).toNat*ks.length+0+(Builtin.zeroCells (z.den ρ).cells (n.I ρ).toNat).toList.length)).toArray) (by
        intro w' hw'
        refine⟨f1,by rw[hL];exact hLl,by omega,by omega,fun _=>⟨g1,g2,_,hw',?_,by rw[Kk hle'];exact g5⟩⟩
        rw[hL]
        exact key _ (Kk hle') (fun i hi=>aCx hi hle'))
       refine⟨ρ,_,Env.Ext.refl ρ,hrw,hT,iH ρ,?_⟩
       rw[hund]
       have ho:ρ.off b+o.den ρ=(idx.I ρ).toNat*ks.length:=by rw[g2,q4];omega
       rw[ho]
       obtain⟨k,hkk⟩:∃k,(n.I ρ).toNat=k+1:=⟨(n.I ρ).toNat-1,by omega⟩
       rw[hkk]at hst ⊢
       simp[Builtin.clear_,ht.run_und hu,ht.run_zero hz ρ w,hst]
     ·subst hR;trivial
    ·subst hR;trivial
   ·subst hR;trivial
   ·subst hR;trivial
  ·subst hR;trivial
 ·subst hR;trivial
theorem aCu{B:Base}{ρ:Env}{st:St}{w:World}{t:Tm}{a:Act}(hr:RepW B ρ st w)(hT:TmRep ρ t a){ty rt:TypeId}{x:SV}:
  ValOk P B ρ t a w (Builtin.clear_ #[ty] rt #[x.den ρ]) (CW tb st ty x):=by
 have hp:=hr.pc;generalize hR:CW tb st ty x=R;unfold CW at hR;have hund:SV.undef.den ρ=Value.tuple _:=SV.undef_den ρ;split at hR
 ·rename_i elem hu;split at hR
  ·rename_i b o n c;split at hR
   ·rename_i m hm
    have:=iz hm;subst this
    split at hR
    ·subst hR
     refine⟨ρ,w,Env.Ext.refl ρ,hr,hT,iH ρ,?_⟩
     rw[hund]
     simp[Builtin.clear_,ht.run_und hu,SV.den]
    ·split at hR
     ·subst hR;exact Kg ht hr hT hu
     ·split at hR
      ·rename_i off ho;have ho:=jL ho ρ;subst hR;simp only[SV.den,ho];exact Y8 ht hr hT hu
      ·subst hR;trivial
   ·split at hR
    ·rename_i hk;have hk:=eK ht.facts hp hk
     rw[eM]at hk
     have hn:n.I ρ=1:=by simp_all[cK]
     subst hR;simp_all[SV.den,Kg]
    ·subst hR;simp only[SV.den];exact Y9 ht hr hT hu
  ·rename_i b n c;split at hR
   ·rename_i cs af e' m hb hm
    have:=iz hm;subst this
    obtain⟨_,⟨hn,h0,_⟩,_⟩:=hr.blk _ _ hb
    have hbase:ρ.base b=some ⟨ρ.blk b,ρ.off b+(⟨0,0,.int 0⟩:Off).den ρ,none⟩:=by
     rw[fj hn,h0];rfl
    split at hR
    ·subst hR
     refine⟨ρ,w,Env.Ext.refl ρ,hr,hT,iH ρ,?_⟩
     rw[hund]
     simp only[SV.den,hbase];simp[Builtin.clear_,ht.run_und hu]
    ·split at hR
     ·have hd:(SV.nslice b (.int (.ofNat (0+1))) c).den ρ=.slice (some ⟨ρ.blk b,ρ.off b+(⟨0,0,.int 0⟩:Off).den ρ,none⟩) 1 (c.I ρ).toNat:=by
       simp_all[SV.den]
      grind[Kg]
     ·subst hR;simp only[SV.den,hbase];exact Y8 ht hr hT (off:=0) hu
   ·rename_i ks l m af e' hb;subst hR;by_cases htot:0<af.I ρ
    ·obtain⟨_,⟨f1,f2,f3,f4,f5⟩,_⟩:=hr.blk _ _ hb
     obtain⟨hn,h0,_⟩:=f5 htot
     have hbase:ρ.base b=some ⟨ρ.blk b,ρ.off b+(⟨0,0,.int 0⟩:Off).den ρ,none⟩:=by
      rw[fj hn,h0];rfl
     simp only[SV.den,hbase];exact Y9 ht hr hT hu
    ·unfold uA;split
     ·simp only[hb];split
      ·rename_i idx j hat
       have:=(pK ht.facts hp hat).2.2
       exact absurd (by omega) htot
      ·trivial
      ·trivial
     ·trivial
   ·subst hR;trivial
  ·subst hR
   refine⟨ρ,w,Env.Ext.refl ρ,hr,hT,iH ρ,?_⟩
   rw[hund]
   simp[Builtin.clear_,ht.run_und hu,SV.den]
  ·subst hR;trivial
 ·subst hR;trivial
end
end Go.SX

namespace Go.SX
section
variable {P:Program} {tb:Tab} (ht:TabOk P tb)
include ht
omit ht in
def World.putM(w:World)(r:Nat)(o:Obj):World:={w with heap:=w.heap.setIfInBounds r o}
omit ht in
theorem mZ{w:World}{r:Nat}{es:Array MapEntry}{c:Nat}(h:w.heap[r]?=some (.map es c))(o:Obj):(setObj r o).run P w=.ok () (World.putM w r o):=by
 simp[setObj,Sem.run,h,World.putM]
omit ht in
theorem vY{w:World}{r:Nat}{es:Array MapEntry}{c:Nat}(h:w.heap[r]?=some (.map es c)):(getObj r).run P w=.ok (.map es c) w:=by
 simp[getObj,Sem.run,h]
omit ht in
theorem RepW.setMap{B:Base}{ρ:Env}{st:St}{w:World}(hr:RepW B ρ st w){b:Nat}{es es':List Ent}{clk clk':E}(hb:st.heap.get b=some ⟨true,.map es clk⟩){entries:Array MapEntry}{clock:Nat}
  (hc:(clock:Int)=clk'.I ρ)(he:entRep ρ entries es')(h1:∀(i:Nat)(e:MapEntry),entries[i]?=some e->e.born<clock)(h2:∀(i j:Nat)(a b:MapEntry),entries[i]?=some a->entries[j]?=some b->a.born=b.born->i=j):
  RepW B ρ (vM st b es' clk') (World.putM w (ρ.blk b) (.map entries clock)):=by
 have hlt:ρ.blk b<w.heap.size:=(hr.blk _ _ hb).2.1.lt trivial;have hne:∀r,r≠ρ.blk b->(World.putM w (ρ.blk b) (.map entries clock)).heap[r]?=w.heap[r]?:=by
  grind[World.putM]
 have hself:(World.putM w (ρ.blk b) (.map entries clock)).heap[ρ.blk b]?=some (.map entries clock):=by
  simp_all[World.putM,if_pos]
 unfold vM
 rw[T.setK_eq]
 exact hr.putObj hb trivial hne rfl rfl rfl ⟨entries,clock,hself,hc,he,h1,h2⟩
omit ht in
theorem aeu:∀(es:List Ent)(i:Nat)(v:SV)(j:Nat),(nf es i v)[j]?=if j=i then es[j]?.map (fun x=>⟨x.k,v,x.born⟩)else es[j]?
 |[],i,v,j=>by simp[nf]
 |x::es,0,v,j=>by grind[nf]
 |x::es,i+1,v,j=>by
  cases j with
  |zero=>rfl
  |succ j=>
   simp only[nf,List.getElem?_cons_succ,aeu es i v j,Nat.add_right_cancel_iff]
omit ht in
theorem aev:∀(es:List Ent)(i:Nat)(v:SV),(nf es i v).length=es.length
 |[],i,v=>by rfl
 |x::es,0,v=>by rfl
 |x::es,i+1,v=>by simp[nf,aev es i v]
omit ht in
theorem Zx:∀(es:List Ent)(i:Nat),C0 es i=es.eraseIdx i
 |[],i=>by rfl
 |x::es,0=>by rfl
 |x::es,i+1=>by simp[C0,Zx es i]
omit ht in
theorem entRep.set{ρ:Env}{entries:Array MapEntry}{es:List Ent}(h:entRep ρ entries es){i:Nat}{v:SV}(hv:v.ok ρ){key:Value}(hk:∀e,entries[i]?=some e->key=e.key):
  entRep ρ (entries.modify i fun e=>{e with key:=key,val:=v.den ρ}) (nf es i v):=by
 refine⟨by simp[aev,h.1],fun j e x he hx=>?_⟩
 rw[Array.getElem?_modify]at he
 rw[aeu]at hx
 by_cases hij:i=j
 ·subst hij
  rw[if_pos rfl]at he hx
  cases h1:entries[i]? with
  |none=>grind
  |some e0=>
   cases h2:es[i]? with
   |none=>grind
   |some x0=>
    rw[h1]at he;rw[h2]at hx
    simp only[Option.map_some,Option.some.injEq]at he hx
    obtain⟨k1,k2,k3,k4,k5⟩:=h.2 i e0 x0 h1 h2
    grind
 ·rw[if_neg hij]at he
  rw[if_neg (fun e=>hij e.symm)]at hx
  exact h.2 j e x he hx
omit ht in
theorem Mh{entries:Array MapEntry}{i:Nat}{f:MapEntry->MapEntry}(hf:∀e,(f e).born=e.born){j:Nat}{e:MapEntry}(h:(entries.modify i f)[j]?=some e):∃e0,entries[j]?=some e0/\e.born=e0.born:=by
 grind
omit ht in
theorem entRep.push{ρ:Env}{entries:Array MapEntry}{es:List Ent}(h:entRep ρ entries es){k v:SV}{clk:E}{clock:Nat}(hc:(clock:Int)=clk.I ρ)(hk:k.ok ρ)(hv:v.ok ρ):
  entRep ρ (entries.push {key:=k.den ρ,val:=v.den ρ,born:=clock}) (es++[⟨k,v,clk⟩]):=by
 refine⟨by simp[h.1],fun j e x he hx=>?_⟩
 rw[Array.getElem?_push]at he
 split at he
 ·rename_i hj;simp only[Option.some.injEq]at he;rw[hj,h.1,List.getElem?_append_right (Nat.le_refl _)]at hx;grind
 ·have hj:j<entries.size:=(Array.getElem?_eq_some_iff.1 he).1
  rw[List.getElem?_append_left (by rw[<- h.1];omega)]at hx
  exact h.2 j e x he hx
omit ht in
theorem FB{entries:Array MapEntry}{clock:Nat}{k v:Value}(h1:∀(i:Nat)(e:MapEntry),entries[i]?=some e->e.born<clock)(h2:∀(i j:Nat)(a b:MapEntry),entries[i]?=some a->entries[j]?=some b->a.born=b.born->i=j):
  (∀(i:Nat)(e:MapEntry),(entries.push {key:=k,val:=v,born:=clock})[i]?=some e->e.born<clock+1)/\
  (∀(i j:Nat)(a b:MapEntry),(entries.push {key:=k,val:=v,born:=clock})[i]?=some a->(entries.push {key:=k,val:=v,born:=clock})[j]?=some b->a.born=b.born->i=j):=by
 grind
omit ht in
theorem entRep.erase{ρ:Env}{entries:Array MapEntry}{es:List Ent}(h:entRep ρ entries es)(i:Nat):entRep ρ (entries.eraseIdxIfInBounds i) (C0 es i):=by
 rw[yv]at *
 rw[Zx]
 have e:(entries.eraseIdxIfInBounds i).toList=entries.toList.eraseIdx i:=by
  simp_all
 rw[e]
 refine⟨by simp[List.length_eraseIdx,h.1],fun j a x ha hx=>?_⟩
 rw[List.getElem?_eraseIdx]at ha hx
 split at ha
 ·rename_i hj
  rw[if_pos hj]at hx
  exact h.2 j a x ha hx
 ·rename_i hj
  rw[if_neg hj]at hx
  exact h.2 (j+1) a x ha hx
omit ht in
theorem KC{entries:Array MapEntry}{i j:Nat}{e:MapEntry}(h:(entries.eraseIdxIfInBounds i)[j]?=some e):entries[if j<i then j else j+1]?=some e:=by
 grind
omit ht in
theorem Mj(x:Int)(v v':U)(L:List U):cO x v (cO x v' L)=cO x v L:=by
 induction L with
 |nil=>simp[cO,U.fst,U.toI]
 |cons u L ih=>
  by_cases hx:u.fst.toI=x
  ·have h1:∀w,cO x w (u::L)=.lst [.int x,w]::L:=fun w=>by simp_all[cO]
   rw[h1,h1]
   simp only[cO]
   rw[if_pos (show(U.lst [U.int x,v']).fst.toI=x from rfl)]
  simp_all[cO]
omit ht in
theorem aFG(e ke ve:E)(ρ:Env):(FI e ke ve).L ρ=cO (ke.I ρ) (ve.den ρ) (e.L ρ):=by
 unfold FI;split
 ·rename_i e1 ke0 w0;split
  ·rename_i hb0
   have:=E.beq_eq hb0;subst this
   show cO (ke0.I ρ) (ve.den ρ) (e1.L ρ)=cO (ke0.I ρ) (ve.den ρ) (cO (ke0.I ρ) (w0.den ρ) (e1.L ρ))
   rw[Mj]
  rfl
 rfl
omit ht in
theorem RepW.setMapl{B:Base}{ρ:Env}{st:St}{w:World}(hr:RepW B ρ st w){b:Nat}{k:IntKind}{c:VK}{e e':E}(hb:st.heap.get b=some ⟨true,.mapl k c e⟩){entries:Array MapEntry}{clock:Nat}
  (he:entU ρ.fz k c entries (e'.L ρ))(h1:bornOk entries clock):
  RepW B ρ (zP st b k c e') (World.putM w (ρ.blk b) (.map entries clock)):=by
 have hlt:ρ.blk b<w.heap.size:=(hr.blk _ _ hb).2.1.lt trivial;have hne:∀r,r≠ρ.blk b->(World.putM w (ρ.blk b) (.map entries clock)).heap[r]?=w.heap[r]?:=by
  grind[World.putM]
 have hself:(World.putM w (ρ.blk b) (.map entries clock)).heap[ρ.blk b]?=some (.map entries clock):=by
  simp_all[World.putM,if_pos]
 unfold zP
 rw[T.setK_eq]
 exact hr.putObj hb trivial hne rfl rfl rfl ⟨entries,clock,hself,he,h1⟩
omit ht in
theorem aFz{w:World}{r:Nat}{o:Obj}(h1:w.heap[r]?=some o):World.putM w r o=w:=by
 unfold World.putM
 have:w.heap.setIfInBounds r o=w.heap:=by
  grind
 rw[this]
omit ht in
theorem entU.set{fz:Nat->Option Obj}{k:IntKind}{c:VK}{entries:Array MapEntry}{L:List U}(h:entU fz k c entries L){i:Nat}{x:Int}{v:U}(hv:c.ok fz v):
  entU fz k c (entries.modify i fun e=>{e with key:=.int k x,val:=c.val v}) (L.set i (.lst [.int x,v])):=by
 refine⟨by simp[h.1],fun j e u he hu=>?_⟩
 rw[Array.getElem?_modify]at he
 rw[List.getElem?_set]at hu
 by_cases hij:i=j
 ·subst hij
  rw[if_pos rfl]at he hu
  cases h1:entries[i]? with
  |none=>grind
  |some e0=>
   rw[h1]at he
   simp only[Option.map_some,Option.some.injEq]at he;subst he;split at hu
   ·simp only[Option.some.injEq]at hu;subst hu
    exact⟨rfl,rfl,hv⟩
   grind
 ·rw[if_neg hij]at he
  rw[if_neg hij]at hu
  exact h.2 j e u he hu
omit ht in
theorem entU.push{fz:Nat->Option Obj}{k:IntKind}{c:VK}{entries:Array MapEntry}{L:List U}(h:entU fz k c entries L){x:Int}{v:U}{clock:Nat}(hv:c.ok fz v):
  entU fz k c (entries.push {key:=.int k x,val:=c.val v,born:=clock}) (L++[.lst [.int x,v]]):=by
 refine⟨by simp[h.1],fun j e u he hu=>?_⟩
 rw[Array.getElem?_push]at he
 split at he
 ·rename_i hj;simp only[Option.some.injEq]at he;subst he
  rw[hj,h.1,List.getElem?_append_right (Nat.le_refl _)]at hu
  simp only[Nat.sub_self,List.getElem?_cons_zero,Option.some.injEq]at hu;subst hu
  exact⟨rfl,rfl,hv⟩
 ·have hj:j<entries.size:=(Array.getElem?_eq_some_iff.1 he).1
  rw[List.getElem?_append_left (by rw[<- h.1];omega)]at hu
  exact h.2 j e u he hu
omit ht in
theorem entU.erase{fz:Nat->Option Obj}{k:IntKind}{c:VK}{entries:Array MapEntry}{L:List U}(h:entU fz k c entries L)(i:Nat):entU fz k c (entries.eraseIdxIfInBounds i) (L.eraseIdx i):=by
 have e:(entries.eraseIdxIfInBounds i).toList=entries.toList.eraseIdx i:=by
  simp_all
 refine⟨?_,fun j a u ha hu=>?_⟩
 ·rw[<- Array.length_toList,e]
  simp[List.length_eraseIdx,h.1]
 ·rw[<- Array.getElem?_toList,e]at ha
  rw[List.getElem?_eraseIdx]at ha hu
  split at ha
  ·rename_i hj
   rw[if_pos hj]at hu
   exact h.2 j a u (by grind) hu
  ·rename_i hj
   rw[if_neg hj]at hu
   exact h.2 (j+1) a u (by grind) hu
omit ht in
theorem bornOk.modify{entries:Array MapEntry}{clock:Nat}(h:bornOk entries clock){i:Nat}{f:MapEntry->MapEntry}(hf:∀e,(f e).born=e.born):bornOk (entries.modify i f) clock:=by
 refine⟨fun j e' he'=>?_,fun j l e1 e2 q1 q2 q3=>?_⟩
 ·obtain⟨e0,q1,q2⟩:=Mh hf he'
  rw[q2];exact h.1 j e0 q1
 ·obtain⟨e01,r1,r2⟩:=Mh hf q1
  obtain⟨e02,r3,r4⟩:=Mh hf q2
  exact h.2 j l e01 e02 r1 r3 (by omega)
omit ht in
theorem bornOk.erase{entries:Array MapEntry}{clock:Nat}(h:bornOk entries clock)(i:Nat):bornOk (entries.eraseIdxIfInBounds i) clock:=by
 refine⟨fun j e' he'=>h.1 _ _ (KC he'),fun j l e1 e2 q1 q2 q3=>?_⟩
 have:=h.2 _ _ _ _ (KC q1) (KC q2) q3
 grind
theorem abN{B:Base}{ρ:Env}{st:St}{w:World}{t:Tm}{a:Act}(hr:RepW B ρ st w)(hT:TmRep ρ t a){ty:TypeId}{x k v:SV}(hk:k.ok ρ)(hv:v.ok ρ):
  nx P B ρ t a w (do Instr.mapUpdate ty (x.den ρ) (k.den ρ) (v.den ρ);pure .skip) (zt tb st ty x k v):=by
 have hp:=hr.pc;generalize hR:zt tb st ty x k v=R;unfold zt at hR;split at hR
 ·rename_i kt vt hu;split at hR
  ·rename_i b hkf
   obtain⟨d,hd,hck⟩:=LN ht hkf ρ
   split at hR
   ·rename_i es clk hb
    obtain⟨_,⟨entries,clock,h1,h2,h3,h4,h5⟩,_⟩:=hr.blk _ _ hb
    have hg:=vY (P:=P) h1;have hf:=Dv ht hp hd (k:=k) es entries.toList 0 (yv.1 h3);split at hR
    ·rename_i i v0 s0 hfs
     rw[hfs]at hf
     obtain⟨m,e,y,g1,g2,g3,g4,g5,g6,g7,g8⟩:=hf
     subst hR;have hi:i=m:=by omega
     have g2':entries[i]?=some e:=by grind
     refine⟨ρ,_,Env.Ext.refl ρ,hr.setMap hb h2 (h3.set (i:=i) (key:=k.den ρ) hv (fun e' he'=>by grind)) (fun j e' he'=>?_) (fun j l e1 e2 q1 q2 q3=>?_),hT,?_⟩
     ·grind
     ·grind
     ·refine qp ?_;simp only[Instr.mapUpdate,Sem.run_bind,ht.run_und hu,Result.andThen_ok,SV.den,hg,hck,jS (ht.und hd) g6,Instr.keyThatStays,g2',Option.map_some,Option.getD_some,g8,if_true,Sem.run_pure];grind[mZ]
    ·rename_i hfs
     rw[hfs]at hf
     subst hR
     obtain⟨p1,p2⟩:=FB (k:=k.den ρ) (v:=v.den ρ) h4 h5
     refine⟨ρ,_,Env.Ext.refl ρ,hr.setMap (clock:=clock+1) hb (by rw[kR,<- h2];simp) (h3.push h2 hk hv) p1 p2,hT,?_⟩
     refine qp ?_;simp only[Instr.mapUpdate,Sem.run_bind,ht.run_und hu,Result.andThen_ok,SV.den,hg,hck,jS (ht.und hd) hf]
     rw[mZ (P:=P) h1]
    ·subst hR;trivial
    ·subst hR;trivial
   ·rename_i k0 c e0 hb
    obtain⟨_,⟨entries,clock,h1,h2,h3⟩,_⟩:=hr.blk _ _ hb
    have hg:=vY (P:=P) h1;split at hR
    ·rename_i k1 ke ve hfv
     obtain⟨q,hq⟩:=LM hkf
     rw[hq]at hd
     simp only[Option.some.injEq]at hd;subst hd
     obtain⟨z1,_,z3⟩:=yK hfv hv
     split at hR
     ·rename_i hk1;have hk':=gJ hk1;subst hk';have hck0:∀w em,(Instr.checkKey em 10000 kt (.int k1 (ke.I ρ))).run P w=.ok () w:=hck;subst hR;have e1:(E.fn 34 (.pr e0 (.pr ke ve))).L ρ=cO (ke.I ρ) (ve.den ρ) (e0.L ρ):=rfl;rcases Dw (q:=q) (ke.I ρ) (e0.L ρ) entries.toList 0 (by simpa using h2.1) (fun j e' u he hu=>h2.2 j e' u (by simpa using he) hu)with⟨g1,g2,g3,g4⟩ | ⟨j,en,u,g1,g2,g3,g4,g5,g6,g7⟩
      ·obtain⟨p1,p2⟩:=FB (k:=Value.int k1 (ke.I ρ)) (v:=v.den ρ) h3.1 h3.2
       refine⟨ρ,_,Env.Ext.refl ρ,hr.setMapl (clock:=clock+1) (entries:=entries.push {key:=.int k1 (ke.I ρ),val:=v.den ρ,born:=clock}) hb (by rw[e1,g3,z1];exact h2.push z3) ⟨p1,p2⟩,hT,?_⟩
       refine qp ?_;simp only[Instr.mapUpdate,Sem.run_bind,ht.run_und hu,Result.andThen_ok,SV.den,hg,hck0,jS (ht.und hq) (.inl g2)]
       rw[mZ (P:=P) h1]
      ·have g1':entries[j]?=some en:=by simpa using g1
       obtain⟨k1',k2',k3'⟩:=h2.2 j en u g1' g2
       have hkey:en.key=.int k1 (ke.I ρ):=by rw[k1',g3]
       refine⟨ρ,_,Env.Ext.refl ρ,hr.setMapl (clock:=clock) (entries:=entries.modify j fun e=>{e with key:=.int k1 (ke.I ρ),val:=v.den ρ}) hb (by rw[e1,g6,z1];exact h2.set z3) (h3.modify fun _=>rfl),hT,?_⟩
       refine qp ?_;have hsb:Instr.sameBits 10000 (.int k1 (ke.I ρ)) (.int k1 (ke.I ρ))=true:=by simp[Instr.sameBits]
       simp only[Instr.mapUpdate,Sem.run_bind,ht.run_und hu,Result.andThen_ok,SV.den,hg,hck0,jS (ht.und hq) (.inl g5),Nat.zero_add,Instr.keyThatStays,g1',Option.map_some,Option.getD_some,hkey,hsb,if_true,Sem.run_pure]
       rw[mZ (P:=P) h1]
     ·subst hR;trivial
    ·subst hR;trivial
   ·subst hR;trivial
  ·subst hR;trivial
 ·subst hR;trivial
theorem aEB{B:Base}{ρ:Env}{st:St}{w:World}{t:Tm}{a:Act}(hr:RepW B ρ st w)(hT:TmRep ρ t a){ty:TypeId}{x k:SV}(hk:k.ok ρ):
  ValOk P B ρ t a w (Instr.mapEntry ty (x.den ρ) (k.den ρ)) (Ev tb t st ty x k):=by
 have hp:=hr.pc;generalize hR:Ev tb t st ty x k=R;unfold Ev at hR;split at hR
 ·rename_i kt vt hu;split at hR
  ·rename_i b hkf
   obtain⟨d,hd,hck⟩:=LN ht hkf ρ
   split at hR
   ·rename_i es clk hb
    obtain⟨_,⟨entries,clock,h1,h2,h3,h4,h5⟩,_⟩:=hr.blk _ _ hb
    have hg:=vY (P:=P) h1;have hf:=Dv ht hp hd (k:=k) es entries.toList 0 (yv.1 h3);split at hR
    ·rename_i i v0 s0 hfs
     rw[hfs]at hf
     obtain⟨m,e,y,g1,g2,g3,g4,g5,g6,g7,g8⟩:=hf
     subst hR;have hi:i=m:=by omega
     subst hi;have g2':entries[i]?=some e:=by grind
     obtain⟨q1,q2,q3,q4,q5⟩:=h3.2 i e y g2' g3
     rw[g4]at q2 q5
     rw[g5]at q3
     have hsame:(entries.modify i fun e=>{e with key:=k.den ρ})=entries:=by
      apply Array.ext_getElem?;intro j
      rw[Array.getElem?_modify]
      split
      ·rename_i hj;subst hj
       rw[g2']
       simp only[Option.map_some]
       rw[g7]
      rfl
     have hput:World.putM w (ρ.blk b) (.map entries clock)=w:=by
      unfold World.putM
      have:w.heap.setIfInBounds (ρ.blk b) (.map entries clock)=w.heap:=by
       apply Array.ext_getElem?;intro j
       rw[Array.getElem?_setIfInBounds]
       split
       ·rename_i hj;subst hj
        rw[h1]
        split
        ·rfl
        ·rename_i hn;exact absurd (Array.getElem?_eq_some_iff.1 h1).1 hn
       ·rfl
      rw[this]
     refine⟨ρ,w,Env.Ext.refl ρ,hr,hT,?_,?_⟩
     ·simp only[SV.ok,SV.oks,and_true];exact q5
     ·simp only[Instr.mapEntry,Sem.run_bind,ht.run_und hu,Result.andThen_ok,SV.den,hg,hck,jS (ht.und hd) g6,Instr.keyThatStays,g2',Option.map_some,Option.getD_some,g8,if_true,Sem.run_pure,hsame]
      rw[mZ (P:=P) h1,hput]
      simp only[Result.andThen_ok,SV.dens,SV.den,goInt,q2,q3]
    ·rename_i hfs
     rw[hfs]at hf
     split at hR
     ·rename_i z hz;subst hR
      obtain⟨p1,p2⟩:=FB (k:=k.den ρ) (v:=z.den ρ) h4 h5
      have hzr:=ht.run_zero hz ρ w
      refine⟨ρ,_,Env.Ext.refl ρ,hr.setMap (clock:=clock+1) hb (by rw[kR,<- h2];simp) (h3.push h2 hk (jW hz ρ)) p1 p2,hT,?_,?_⟩
      ·simp only[SV.ok,SV.oks,and_true];exact jW hz ρ
      ·simp only[Instr.mapEntry,Sem.run_bind,ht.run_und hu,Result.andThen_ok,SV.den,hg,hck,jS (ht.und hd) hf,hzr]
       rw[mZ (P:=P) h1]
       simp only[Result.andThen_ok,Sem.run_pure,SV.dens,SV.den,goInt,h2]
     ·subst hR;trivial
    ·subst hR;trivial
    ·subst hR;trivial
   ·rename_i k0 c e0 hb
    obtain⟨_,⟨entries,clock,h1,h2,h3⟩,_⟩:=hr.blk _ _ hb
    have hg:=vY (P:=P) h1;split at hR
    ·rename_i z hz;split at hR
     ·rename_i k1 ke ze hfz
      obtain⟨q,hq⟩:=LM hkf
      rw[hq]at hd
      simp only[Option.some.injEq]at hd;subst hd;split at hR
      ·rename_i hk1 hsc;have hk':=gJ hk1;subst hk';have hck0:∀w em,(Instr.checkKey em 10000 kt (.int k1 (ke.I ρ))).run P w=.ok () w:=hck;simp only[Bool.and_eq_true,o4]at hsc
       obtain⟨⟨hs1,hs2⟩,hs3⟩:=hsc
       subst hR;have hzr:=ht.run_zero hz;have hesc:e0.scp ρ.vs.length=true:=by have:=hr.blk_scp hs1 hb;exact this
       have key:∀(born:Nat)(entries':Array MapEntry)(clock':Nat)(val:Value)(j:Nat)(en:MapEntry),
         (Instr.mapEntry ty (SV.den ρ (.map b)) (SV.den ρ (.int k1 ke))).run P w=.ok (.tuple #[val,goInt born]) (World.putM w (ρ.blk b) (.map entries' clock'))->
         bornOk entries' clock'->entries'[j]?=some en->en.key=.int k1 (ke.I ρ)->en.born=born->
         (∀ρ':Env,ρ.Ext ρ'->ρ'.fz=ρ.fz->entU ρ'.fz k1 c entries' (cO (ke.I ρ) ((cF (ke.I ρ) (e0.L ρ)).getD (ze.den ρ')) (e0.L ρ))/\
          (∀v,cO (ke.I ρ) v (cO (ke.I ρ) ((cF (ke.I ρ) (e0.L ρ)).getD (ze.den ρ')) (e0.L ρ))=(cO (ke.I ρ) ((cF (ke.I ρ) (e0.L ρ)).getD (ze.den ρ')) (e0.L ρ)).set j (.lst [.int (ke.I ρ),v]))/\
          val=c.val ((cF (ke.I ρ) (e0.L ρ)).getD (ze.den ρ'))/\c.ok ρ'.fz ((cF (ke.I ρ) (e0.L ρ)).getD (ze.den ρ')))->
         ValOk P B ρ t a w (Instr.mapEntry ty (SV.den ρ (.map b)) (SV.den ρ (.int k1 ke))) (.val (.tup [wd c (.fn 32 (.pr e0 (.pr ke ze))),.int .i64 (.var st.nv)])
          (MX {st with nv:=Nat.succ st.nv} b k1 c (.fn 34 (.pr e0 (.pr ke (.fn 32 (.pr e0 (.pr ke ze)))))) ke (.var st.nv))):=by
        intro born entries' clock' val j en hrun hbo hj hkey hborn hU;have hext:=ρ.more_ext [.int born];have hvar:(E.var st.nv).I (ρ.more [.int born])=born:=by
         show((ρ.vs++[U.int born]).getD st.nv (.int 0)).toI=_
         rw[<- hr.nv];simp[List.getD,U.toI]
        have hke:ke.I (ρ.more [.int born])=ke.I ρ:=E.scoped_I hext (by rw[hr.nv];exact hs3);have he0:e0.L (ρ.more [.int born])=e0.L ρ:=E.scoped_L hext hesc
        obtain⟨u1,u2,u3,u4⟩:=hU (ρ.more [.int born]) hext rfl
        have f32:(E.fn 32 (.pr e0 (.pr ke ze))).den (ρ.more [.int born])=(cF (ke.I ρ) (e0.L ρ)).getD (ze.den (ρ.more [.int born])):=by
         rw[<- hke,<- he0];rfl
        have f34:(E.fn 34 (.pr e0 (.pr ke (.fn 32 (.pr e0 (.pr ke ze)))))).L (ρ.more [.int born])=cO (ke.I ρ) ((cF (ke.I ρ) (e0.L ρ)).getD (ze.den (ρ.more [.int born]))) (e0.L ρ):=by
         rw[<- f32]
         show cO (ke.I (ρ.more [.int born])) _ (e0.L (ρ.more [.int born]))=_
         rw[hke,he0]
         rfl
        have hr2:=hr.more hs1 [.int born] [] (fun e he=>by cases he);have hb2:({st with nv:=st.nv+[U.int born].length,pc:=[]++st.pc}:St).heap.get b=some ⟨true,.mapl k1 c e0⟩:=hb;have hlt:ρ.blk b<w.heap.size:=(hr.blk _ _ hb).2.1.lt trivial
        refine⟨ρ.more [.int born],World.putM w (ρ.blk b) (.map entries' clock'),hext,?_,hT.ext hext (by rw[hr.nv,hr.nb];exact hs2),?_,?_⟩
        ·unfold MX
         rw[T.setK_eq]
         refine hr2.putObj (w':=World.putM w (ρ.blk b) (.map entries' clock')) hb2 trivial ?_ rfl rfl rfl ?_
         ·intro r hne;have hne':r≠ρ.blk b:=hne;simp only[World.putM,Array.getElem?_setIfInBounds]
          rw[if_neg (fun e=>hne' e.symm)]
         ·refine⟨entries',clock',?_,by rw[f34];exact u1,hbo,j,en,hj,by rw[hke];exact hkey,by rw[hvar,hborn],by rw[hke,f34];exact u2⟩
          show(World.putM w (ρ.blk b) (.map entries' clock')).heap[ρ.blk b]?=_
          simp only[World.putM,Array.getElem?_setIfInBounds,if_true,if_pos hlt]
        ·simp only[SV.ok,SV.oks,and_true];exact Gb _ _ _ (by rw[f32];exact u4)
        ·rw[hrun]
         simp only[SV.den,SV.dens,Ga,f32,u3,goInt,hvar]
       have hput:World.putM w (ρ.blk b) (.map entries clock)=w:=aFz h1;rcases Dw (q:=q) (ke.I ρ) (e0.L ρ) entries.toList 0 (by simpa using h2.1) (fun j e' u he hu=>h2.2 j e' u (by simpa using he) hu)with⟨g1,g2,g3,g4⟩ | ⟨j,en,u,g1,g2,g3,g4,g5,g6,g7⟩
       ·obtain⟨p1,p2⟩:=FB (k:=Value.int k1 (ke.I ρ)) (v:=z.den ρ) h3.1 h3.2
        refine key clock (entries.push {key:=.int k1 (ke.I ρ),val:=z.den ρ,born:=clock}) (clock+1) (z.den ρ) entries.size {key:=.int k1 (ke.I ρ),val:=z.den ρ,born:=clock} ?_ ⟨p1,p2⟩ (by simp) rfl rfl ?_
        ·simp only[Instr.mapEntry,Sem.run_bind,ht.run_und hu,Result.andThen_ok,SV.den,hg,hck0,jS (ht.und hq) (.inl g2),hzr ρ w]
         rw[mZ (P:=P) h1]
         simp only[Result.andThen_ok,Sem.run_pure]
        ·intro ρ' hext' hfz';have hzz:z.den ρ'=z.den ρ:=by
          have a1:=hzr ρ w;have a2:=hzr ρ' w
          rw[a1]at a2
          simpa using a2.symm
         obtain⟨z1,_,z3⟩:=yK hfz (jW hz ρ')
         rw[g1,Option.getD_none]
         rw[<- hzz,z1]
         refine⟨?_,fun v=>?_,rfl,z3⟩
         ·rw[g3,hfz'];exact h2.push (by rw[<- hfz'];exact z3)
         ·rw[Mj,g3,g3,h2.1]
          simp
       ·have g1':entries[j]?=some en:=by simpa using g1
        obtain⟨k1',k2',k3'⟩:=h2.2 j en u g1' g2
        have hkey:en.key=.int k1 (ke.I ρ):=by rw[k1',g3]
        have hsb:Instr.sameBits 10000 (.int k1 (ke.I ρ)) (.int k1 (ke.I ρ))=true:=by simp[Instr.sameBits]
        have hsame:(entries.modify j fun e=>{e with key:=.int k1 (ke.I ρ)})=entries:=by
         apply Array.ext_getElem?;intro i
         rw[Array.getElem?_modify]
         split
         ·rename_i hj;subst hj
          rw[g1']
          simp only[Option.map_some,Option.some.injEq]
          rw[<- hkey]
         ·rfl
        refine key en.born entries clock en.val j en ?_ h3 g1' hkey rfl ?_
        ·simp only[Instr.mapEntry,Sem.run_bind,ht.run_und hu,Result.andThen_ok,SV.den,hg,hck0,jS (ht.und hq) (.inl g5),Nat.zero_add,Instr.keyThatStays,g1',Option.map_some,Option.getD_some,hkey,hsb,if_true,Sem.run_pure,hsame]
         rw[mZ (P:=P) h1]
         simp only[Result.andThen_ok]
        ·intro ρ' hext' hfz'
         rw[g4,Option.getD_some]
         refine⟨?_,fun v=>?_,k2',by rw[hfz'];exact k3'⟩
         ·have hs':=h2.set (i:=j) (x:=ke.I ρ) (v:=u.snd) k3';have e1:(entries.modify j fun e=>{e with key:=.int k1 (ke.I ρ),val:=c.val u.snd})=entries:=by
           apply Array.ext_getElem?;intro i
           rw[Array.getElem?_modify]
           split
           ·rename_i hj;subst hj
            rw[g1']
            simp only[Option.map_some,Option.some.injEq]
            rw[<- hkey,<- k2']
           ·rfl
          rw[e1]at hs'
          rw[g6,hfz'];exact hs'
         ·rw[Mj,g6,g6];simp
      ·subst hR;trivial
     ·subst hR;trivial
    ·subst hR;trivial
   ·subst hR;trivial
  ·subst hR;trivial
 ·subst hR;trivial
omit ht in
theorem aag{s:E}:∀(es:List Ent)(i j:Nat),yH s es i=some j->∃m x,j=i+m/\es[m]?=some x/\x.born=s
 |[],i,j,h=>by grind[yH]
 |x::es,i,j,h=>by
  simp only[yH]at h;split at h
  ·rename_i hb;simp only[Option.some.injEq]at h;subst h
   exact⟨0,x,rfl,rfl,E.beq_eq hb⟩
  ·obtain⟨m,y,h1,h2,h3⟩:=aag es _ j h
   exact⟨m+1,y,by omega,by grind,h3⟩
theorem aC1{B:Base}{ρ:Env}{st:St}{w:World}{t:Tm}{a:Act}(hr:RepW B ρ st w)(hT:TmRep ρ t a){ty:TypeId}{x s v:SV}(hv:v.ok ρ):
  nx P B ρ t a w (do Instr.entryStore ty (x.den ρ) (s.den ρ) (v.den ρ);pure .skip) (Df st x s v):=by
 generalize hR:Df st x s v=R;unfold Df at hR;split at hR
 ·rename_i b k s;split at hR
  ·rename_i es clk hb
   obtain⟨_,⟨entries,clock,h1,h2,h3,h4,h5⟩,_⟩:=hr.blk _ _ hb
   have hg:=vY (P:=P) h1;split at hR
   ·rename_i i hf;subst hR
    obtain⟨m,y,g1,g2,g3⟩:=aag es 0 i hf
    have hi:i=m:=by omega
    subst hi;have hlt:i<entries.size:=by rw[h3.1];grind
    have ge:entries[i]?=some entries[i]:=by grind
    obtain⟨q1,q2,q3,q4,q5⟩:=h3.2 i _ y ge g2
    have hfind:entries.findIdx? (fun e=>(e.born:Int)==s.I ρ)=some i:=by
     rw[Array.findIdx?_eq_some_iff_getElem]
     refine⟨hlt,by grind,fun j hj=>?_⟩
     have hne:entries[j].born≠entries[i].born:=fun e=>by
      have:=h5 j i entries[j] entries[i] (by grind) ge e
      omega
     grind
    have hset:(entries.modify i fun e=>{e with val:=v.den ρ})=(entries.modify i fun e=>{e with key:=entries[i].key,val:=v.den ρ}):=by
     rfl
    refine⟨ρ,_,Env.Ext.refl ρ,hr.setMap hb h2 (h3.set (i:=i) (key:=entries[i].key) hv (fun e' he'=>by grind)) (fun j e' he'=>?_) (fun j l e1 e2 q1 q2 q3=>?_),hT,?_⟩
    ·grind
    ·grind
    ·refine qp ?_;simp only[Instr.entryStore,SV.den,Sem.run_bind,hg,Result.andThen_ok,asInt,asIntOf,Sem.run_pure,hfind,<- hset];grind[mZ]
   ·subst hR;trivial
  ·rename_i k0 c e0 ke s0 hb
   obtain⟨_,⟨entries,clock,h1,h2,h3,j,en,h4,h5,h6,h7⟩,_⟩:=hr.blk _ _ hb
   have hg:=vY (P:=P) h1;split at hR
   ·rename_i ve hbeq hfv;have hss:=E.beq_eq hbeq;subst hss;subst hR
    obtain⟨z1,_,z3⟩:=yK hfv hv
    have hlt:j<entries.size:=(Array.getElem?_eq_some_iff.1 h4).1;have hje:entries[j]=en:=by simp_all
    have hfind:entries.findIdx? (fun e=>(e.born:Int)==s0.I ρ)=some j:=by
     rw[Array.findIdx?_eq_some_iff_getElem]
     refine⟨hlt,by simp_all,fun i hi=>?_⟩
     have hi':i<entries.size:=by omega
     have hne:entries[i].born≠en.born:=fun e=>by
      have:=h3.2 i j entries[i] en (by grind) h4 e
      omega
     grind
    have hset:(entries.modify j fun e=>{e with val:=v.den ρ})=(entries.modify j fun e=>{e with key:=.int k0 (ke.I ρ),val:=c.val (ve.den ρ)}):=by
     grind
    have hre:(FI e0 ke ve).L ρ=(e0.L ρ).set j (.lst [.int (ke.I ρ),ve.den ρ]):=by
     grind[aFG]
    obtain⟨en',hen'⟩:∃x,x=(entries.modify j fun e=>{e with val:=v.den ρ}):=⟨_,rfl⟩
    refine⟨ρ,World.putM w (ρ.blk b) (.map en' clock),Env.Ext.refl ρ,?_,hT,?_⟩
    ·have hlt':ρ.blk b<w.heap.size:=(hr.blk _ _ hb).2.1.lt trivial;unfold zP
     rw[T.setK_eq]
     refine hr.putObj hb trivial ?_ rfl rfl rfl ⟨en',clock,?_,by rw[hre,hen',hset];exact h2.set z3,by rw[hen'];exact h3.modify fun _=>rfl⟩
     ·intro r hne;simp only[World.putM,Array.getElem?_setIfInBounds];grind
     simp_all[World.putM,Array.getElem?_setIfInBounds,if_true,if_pos]
    ·refine qp ?_;simp only[Instr.entryStore,SV.den,Sem.run_bind,hg,Result.andThen_ok,asInt,asIntOf,Sem.run_pure,hfind];grind[mZ]
   ·subst hR;trivial
  ·subst hR;trivial
 ·subst hR;trivial
theorem aCQ{B:Base}{ρ:Env}{st:St}{w:World}{t:Tm}{a:Act}(hr:RepW B ρ st w)(hT:TmRep ρ t a){ty rt:TypeId}{bU:List TypeId}{x k:SV}:
  ValOk P B ρ t a w (Builtin.delete_ (ty::bU).toArray rt #[x.den ρ,k.den ρ]) (Zp tb st ty x k):=trivial
end
end Go.SX

namespace Go.SX
section
variable {P:Program} {tb:Tab} (ht:TabOk P tb)
include ht
omit ht in
theorem Lv(k:Int)(ρ:Env):(E.int k).I ρ=k:=rfl
omit ht in
theorem isB{e:E}{ρ:Env}{b:Bool}(h:e.den ρ=.bool b):e.B ρ=b:=by simp_all[E.B,U.toB]
omit ht in
def avk(B:Base)(ρ:Env)(t:Tm)(a:Act)(w:World)(v:SV)(yes:Bool):Eff2->Prop
 |.val v' st'=>∃ρ',ρ.Ext ρ'/\RepW B ρ' st' w/\TmRep ρ' t a/\v'.ok ρ'/\∃(ad:Option Addr) (n c:Nat),v.den ρ=.slice ad n c/\v'.den ρ'=.bool (ad.isNone==yes)
 |.skip _=>False
 |.ask _=>True
 |.lack _=>True
 |.bad=>True
theorem aD3{B:Base}{ρ:Env}{st:St}{w:World}{t:Tm}{a:Act}(hr:RepW B ρ st w)(hT:TmRep ρ t a){v:SV}(hv:v.ok ρ)(yes:Bool):
  avk B ρ t a w v yes (pT tb t st v yes):=by
 have hp:=hr.pc;generalize hR:pT tb t st v _=R;unfold pT at hR;split at hR
 ·rename_i b len cap;split at hR
  ·rename_i own cs af e hb
   obtain⟨_,⟨h1,_⟩,_⟩:=hr.blk _ _ hb
   subst hR
   refine⟨ρ,Env.Ext.refl ρ,hr,hT,by simp[SV.ok],some ⟨ρ.blk b,ρ.off b,none⟩,(len.I ρ).toNat,(cap.I ρ).toNat,?_,?_⟩
   all_goals simp_all[SV.den,fj]
  ·rename_i own ks l n af e hb
   obtain⟨_,⟨h1,h2,h3,h4,h5⟩,_⟩:=hr.blk _ _ hb
   split at hR
   ·rename_i hc;have hpos:0<af.I ρ:=by
     simp only[Bool.or_eq_true]at hc;rcases hc with hc|hc
     ·have:=kP (fun x hx ρ=>ht.facts x hx ρ) hp hc
      simp_all
     ·have:=kP (fun x hx ρ=>ht.facts x hx ρ) hp hc
      grind[E.I,E.den,U.toI]
    subst hR
    refine⟨ρ,Env.Ext.refl ρ,hr,hT,by simp[SV.ok],some ⟨ρ.blk b,ρ.off b,none⟩,(len.I ρ).toNat,(cap.I ρ).toNat,?_,?_⟩
    all_goals simp_all[SV.den,fj]
   ·split at hR
    ·rename_i hs;simp only[Bool.and_eq_true,o4]at hs
     obtain⟨⟨hs1,hs2⟩,hs3⟩:=hs
     subst hR;have hvar:(E.var st.nv).den (ρ.more [.bool (ρ.base b).isNone])=.bool (ρ.base b).isNone:=by
      simp[E.den,Env.more,<- hr.nv]
     have hext:=ρ.more_ext [.bool (ρ.base b).isNone];have hnI:=E.scoped_I hext (by rw[hr.nv];omega)
     have:=hr.more hs1 [.bool (ρ.base b).isNone] [.imp (.var st.nv) (aN .eql n (.int 0))] (fun e he=>by
      have:(E.imp (.var st.nv) (aN .eql n (.int 0))).B (ρ.more [.bool (ρ.base b).isNone])=(!(ρ.base b).isNone||(aN .eql n (.int 0)).B (ρ.more [.bool (ρ.base b).isNone])):=by
       simp_all[E.B,E.den,U.toB]
      grind[eM,fj,cK,Lv])
     refine⟨ρ.more _,hext,this,hT.ext hext (by rw[hr.nv,hr.nb];omega),by simp[SV.ok],ρ.base b,(len.I ρ).toNat,(cap.I ρ).toNat,by rfl,?_⟩
     have hB:=isB hvar;cases yes<;>simp[SV.den,hB]
    ·subst hR;trivial
  ·subst hR;trivial
 ·rename_i ks e;split at hR
  ·have hv':SlOk ρ.fz ks (e.den ρ):=by simp_all[SV.ok]
   subst hR
   obtain⟨q1,q2⟩:=vX (w:=aR ks) hv' (b7 ks) (by simp_all)
   have hfn:(E.fn 31 e).den ρ=.bool _:=rfl
   refine⟨ρ,Env.Ext.refl ρ,?_,hT,by simp[SV.ok],(e.den ρ).adr,(e.den ρ).rlen,(e.den ρ).rcap,?_,?_⟩
   ·split
    ·rename_i hnf
     refine⟨hr.nv,hr.nb,fun x hx=>?_,hr.blk,hr.inj,hr.inn,hr.fz,hr.fr,hr.dj,hr.os,hr.tape,hr.output⟩
     rcases List.mem_cons.1 hx with hx|hx
     ·subst hx;have h1:(E.imp (.fn 31 e) (aN .eql (iD (aR ks) e) (.int 0))).B ρ=(!(e.den ρ).adr.isNone||(aN .eql (iD (aR ks) e) (.int 0)).B ρ):=by
       rfl
      rw[h1,eM]
      have h2:=Mk hnf (ρ:=ρ);have h3:(e.den ρ).adr=none->(e.den ρ).rlen=0:=by
       intro hq;generalize e.den ρ=u at hv' hq;cases hv' with
       |nil=>rfl
       |empty=>rfl
       |mk=>cases hq
      cases hq:(e.den ρ).adr with
      |some x=>rfl
      |none=>
       grind[cK,Lv]
     rcases List.mem_cons.1 hx with hx|hx
     ·subst hx;have h1:(E.imp (.fn 31 e) (aN .eql (.fn 0 e) (.int 0))).B ρ=(!(e.den ρ).adr.isNone||(aN .eql (.fn 0 e) (.int 0)).B ρ):=rfl
      rw[h1,eM]
      have h3:(e.den ρ).adr=none->(e.den ρ).toL=[]:=by
       intro hq;generalize e.den ρ=u at hv' hq;cases hv' with
       |nil=>rfl
       |empty=>rfl
       |mk=>cases hq
      have h4:(E.fn 0 e).I ρ=((e.den ρ).toL.length:Int):=rfl;cases hq:(e.den ρ).adr with
      |some x=>rfl
      |none=>simp[cK,h4,h3 hq,Lv]
     simp_all
    omega
   ·simp only[SV.den];generalize e.den ρ=u at hv';cases hv'<;>rfl
   ·have hB:=isB hfn;cases yes<;>simp[SV.den,hB]
  ·subst hR;trivial
 ·subst hR;trivial
theorem aIe{B:Base}{ρ:Env}{st:St}{w:World}{t:Tm}{a:Act}(hr:RepW B ρ st w)(hT:TmRep ρ t a){src dst:TypeId}{v:SV}(hv:v.ok ρ):
  ValOk P B ρ t a w (convert src dst (v.den ρ)) (ae9 tb t st src dst v):=trivial
end
end Go.SX

namespace Go.SX
section
variable {P:Program} {tb:Tab} (ht:TabOk P tb)
include ht
omit ht in
theorem aEz{B:Base}{ρ:Env}{st:St}{w:World}{t:Tm}{a:Act}(hr:RepW B ρ st w)(hT:TmRep ρ t a)(hs:o4 t st=true)(ty:TypeId):
  ValOk P B ρ t a w (Instr.makeMap ty none) (.val (.map st.nb) {st with nb:=Nat.succ st.nb,heap:=st.heap.ins st.nb ⟨true,.map [] (.int 0)⟩}):=by
 simp only[o4,Bool.and_eq_true]at hs;have hext:=ρ.grow_ext [] ⟨w.heap.size,0,none⟩
 obtain⟨e1,e2,e3⟩:=Env.grow_blk (ρ:=ρ) (us:=[]) (k:=⟨w.heap.size,0,none⟩) hr.nb
 have hlt:∀r,r<w.heap.size->(w.heap.push (Obj.map #[] 0))[r]?=w.heap[r]?:=by
  grind
 have hfz:=hr.free_ge (Nat.le_refl _)
 have:=hr.grow (w':={w with heap:=w.heap.push _}) hs.1 [] [] ⟨w.heap.size,0,none⟩ (.map [] (.int 0)) (fun e he=>by grind) (fun r h1 _=>hlt r h1) rfl rfl rfl (.inl hlt)
  ⟨#[],0,by simp,rfl,⟨rfl,fun i e x he=>by grind⟩,fun i e he=>by grind,fun i j a b he=>by grind⟩
  (fun _=>⟨hfz,fun i b hb hl ho=>by
   have:=(hr.blk i b hb).2.1.lt hl
   grind,fun r h=>Nat.ne_of_lt (hr.held_lt h)⟩)
 refine⟨ρ.grow [] _,{w with heap:=w.heap.push _},hext,this,hT.ext hext (by rw[hr.nv,hr.nb];grind),by simp[SV.ok],?_⟩
 grind[Instr.makeMap,Sem.run_bind,Sem.run_pure,run_newObj,Result.andThen_ok,SV.den]
def Env.frz(ρ:Env)(r:Nat)(o:Obj):Env:=⟨ρ.vs,ρ.bs,fun q=>if q=r then some o else ρ.fz q⟩
omit ht in
theorem RepW.freeze{B:Base}{ρ:Env}{st:St}{w:World}(h:RepW B ρ st w)(hs:st.scp=true){b:Nat}{obj:SObj}{o:Obj}(hb:st.heap.get b=some ⟨true,obj⟩)(hl:obj.real ρ)(ho:w.heap[ρ.blk b]?=some o):
  ρ.Ext (ρ.frz (ρ.blk b) o)/\RepW B (ρ.frz (ρ.blk b) o) {st with heap:=st.heap.set b ⟨true,.gone⟩} w:=by
 have hk:=((h.blk _ _ hb).2.2 hl).1 rfl;have hext:ρ.Ext (ρ.frz _ o):=⟨⟨[],by simp[Env.frz]⟩,⟨[],by simp[Env.frz]⟩,fun r x hx=>by
  show(if r=ρ.blk b then some o else ρ.fz r)=some x
  rw[if_neg (fun e=>by rw[e,hk.1]at hx;grind)];omega⟩
 have key:∀i x,(st.heap.set b ⟨true,.gone⟩).get i=some x->x.obj.real (ρ.frz (ρ.blk b) o)->i≠b/\st.heap.get i=some x/\x.obj.real ρ:=by
  intro i x hx hlx
  rw[T.get_set]at hx
  split at hx
  ·rw[hb]at hx
   simp only[Option.map_some,Option.some.injEq]at hx;subst hx;cases hlx
  ·rename_i hi
   exact⟨hi,hx,(SObj.real_ext hext (h.blk_scp hs hx)).1 hlx⟩
 have hinn:Inn B (ρ.frz (ρ.blk b) o) (st.heap.set b ⟨true,.gone⟩):=by
  refine h.inn.next (fun i x hx=>?_) (fun r ⟨j,y,hy,hx⟩ hf=>⟨?_,hf.2⟩)
  ·rw[T.get_set]at hx
   split at hx
   ·rw[hb]at hx
    simp only[Option.map_some,Option.some.injEq]at hx;subst hx;exact .inr ⟨fun r h=>h,fun hl=>hl.elim⟩
   ·exact .inl ⟨x,hx,(SObj.real_ext hext (h.blk_scp hs hx)).1,rfl,fun r=>(SObj.inner_ext hext (h.blk_scp hs hx)).1⟩
  ·show(if r=ρ.blk b then some o else ρ.fz r)=none
   rw[if_neg (((h.inn j y hy r hx).2 _ _ hb).1 hl).symm];exact hf.1
 refine⟨hext,h.nv,h.nb,h.ext_pc hs hext,?_,?_,hinn,?_,h.fr,?_,h.os,h.tape,h.output⟩
 ·intro i x hx;by_cases hi:i=b
  ·subst hi
   rw[T.get_set,if_pos rfl,hb]at hx
   simp only[Option.map_some,Option.some.injEq]at hx;subst hx
   exact⟨(h.blk _ _ hb).1,trivial,fun hl=>by cases hl⟩
  ·rw[T.get_set,if_neg hi]at hx
   obtain⟨k1,k2,k3⟩:=h.blk i x hx
   have hsc:=h.blk_scp hs hx
   refine⟨k1,k2.ext hext hsc,fun hl'=>?_⟩
   have hlx:=(SObj.real_ext hext hsc).1 hl';have hne:=h.apart hx hb hlx hl (.inr rfl) hi;show x.own=true↔((if ρ.blk i=ρ.blk b then some o else ρ.fz _)=none/\B.fr _=none)
   rw[if_neg hne];exact k3 hlx
 ·intro i j x y hx hy lx ly ox oy hij
  obtain⟨_,h1,h2⟩:=key i x hx lx
  obtain⟨_,h3,h4⟩:=key j y hy ly
  exact h.inj i j x y h1 h3 h2 h4 ox oy hij
 ·intro r x hx;have hx':(if r=ρ.blk b then some o else ρ.fz r)=some x:=hx;split at hx'
  ·simp_all
  ·exact h.fz r x hx'
 ·intro r x hx
  show(if r=ρ.blk b then some o else ρ.fz r)=none
  rw[if_neg (fun e=>by rw[e,hk.2]at hx;grind)]
  exact h.dj r x hx
omit ht in
theorem aFE{st:St}(hs:st.scp=true)(b:Nat):({st with heap:=st.heap.set b ⟨true,.gone⟩}:St).scp=true:=by
 simp only[St.scp,Bool.and_eq_true]at hs ⊢
 exact⟨hs.1,T.all_set _ _ _ hs.2 rfl⟩
theorem aFD{B:Base}{ρ:Env}{st:St}{w:World}{t:Tm}{a:Act}(hr:RepW B ρ st w)(hT:TmRep ρ t a)(ty:TypeId)(x:SV):
  ValOk P B ρ t a w (Instr.range ty (x.den ρ)) (ad5 tb t st ty x):=trivial
omit ht in
theorem aB7{entries:Array MapEntry}{clock:Nat}(h:bornOk entries clock):(entries.toList.map (·.born)).Nodup:=by
 unfold List.Nodup
 rw[List.pairwise_map,List.pairwise_iff_getElem]
 intro i j hi hj hij heq
 have:=h.2 i j _ _ (by grind) (by grind) heq
 omega
theorem aE1{B:Base}{ρ:Env}{st:St}{w:World}{t:Tm}{a:Act}(hr:RepW B ρ st w)(hT:TmRep ρ t a)(ty:TypeId)(x:SV)(str:Bool):
  ValOk P B ρ t a w (Instr.next (x.den ρ) str ty) (ac5 tb t st x str):=trivial
theorem aC0{B:Base}{ρ:Env}{st:St}{w:World}{t:Tm}{a:Act}(hr:RepW B ρ st w)(hT:TmRep ρ t a)(x:SV):
  ValOk P B ρ t a w (Instr.entry (x.den ρ)) (Kz st x):=by
 unfold Kz;split
 ·rename_i b o;split
  ·split
   ·rename_i k c e n u hb
    obtain⟨h0,_,h⟩:=(hr.blk _ _ hb).2.1
    obtain⟨mb,entries,clock,seen,i,en,v,h1,h2,h3,h4,h5,h6,h7,h8⟩:=h u rfl
    have hmb:=hr.fz _ _ h2;have hden:(SV.ptr b o).den ρ=.pointer (some ⟨ρ.blk b,0,none⟩):=by
     grind[SV.den,jL]
    have hmem:en∈entries.toList:=List.mem_iff_getElem?.2 ⟨i,by grind⟩;have hrun:=run_entry_at (P:=P) w _ mb _ _ _ _ en h1 hmb hmem (aB7 h3);have f32:(E.fn 32 (.pr e (.pr u (.int 0)))).den ρ=v:=by
     show(cF (u.I ρ) (e.L ρ)).getD _=_
     grind
    refine⟨ρ,w,Env.Ext.refl ρ,hr,hT,?_,?_⟩
    all_goals simp_all[SV.ok,SV.oks,Gb,SV.den,SV.dens,Ga]
   ·trivial
  ·trivial
 ·trivial
omit ht in
theorem ValOk.next{B:Base}{ρ:Env}{t:Tm}{a:Act}{w:World}{s:Sem Value}{R:Eff2}(h:ValOk P B ρ t a w s R):nx P B ρ t a w (do pure (Next.value (<- s))) R:=by
 cases R with
 |val v st'=>
  obtain⟨ρ',w',h1,h2,h3,h4,h5⟩:=h
  exact⟨ρ',w',h1,h2,h3,h4,eE h5⟩
 |skip=>cases h
 |_=>trivial
omit ht in
theorem DY{v:SV}(h:uU v=true):v=.nils:=by
 grind[uU]
theorem Di{ty:TypeId}{e:TypeId}(hu:P.underlying ty=some (.slice e))(ad:Option Addr)(n c:Nat)(w:World):
  (Op.equal ty (.slice ad n c) (.slice none 0 0)).run P w=.ok ad.isNone w/\(Op.equal ty (.slice none 0 0) (.slice ad n c)).run P w=.ok ad.isNone w:=by
 have hD:∀D,(Op.equalIn (D+1) ty (.slice ad n c) (.slice none 0 0)).run P w=.ok ad.isNone w/\(Op.equalIn (D+1) ty (.slice none 0 0) (.slice ad n c)).run P w=.ok ad.isNone w:=by
  intro D;constructor
  ·cases ad<;>simp[Op.equalIn,run_underlying hu]
  simp_all[Op.equalIn,run_underlying]
 exact hD _
omit ht in
theorem aDo{ks0:List CK}{fs:List E}(hf:∀x∈fs,∀ρ,x.B ρ=true){B:Base}{ρ:Env}{w:World}{p:SV×St}(hr:RepW B ρ p.2 w)(hv:p.1.ok ρ):
  ∃ρ',ρ.Ext ρ'/\RepW B ρ' (yL ks0 fs p).2 w/\(yL ks0 fs p).1.ok ρ'/\(yL ks0 fs p).1.den ρ'=p.1.den ρ:=by
 have same:∃ρ',ρ.Ext ρ'/\RepW B ρ' _ w/\p.1.ok ρ'/\p.1.den ρ'=p.1.den ρ:=⟨ρ,Env.Ext.refl ρ,hr,hv,rfl⟩
 obtain⟨v,st⟩:=p
 unfold yL;cases v with
 |nils=>exact⟨ρ,Env.Ext.refl ρ,hr,SlOk.nil,rfl⟩
 |nslice b len cap=>
  split
  ·simp_all
  ·rename_i h1
   obtain⟨rfl,rfl,rfl⟩:=h1
   split
   ·rename_i hs;let u:U:=.bx (ρ.base b) 0 0 []
    have hx:=Env.more_ext ρ [u];have hrm:=hr.more hs [u] [] (by simp_all);have eu:(E.var st.nv).den (ρ.more [u])=u:=by
     show(ρ.vs++[u]).getD _ _=u
     rw[<- hr.nv];simp
    have eden:(E.fn 28 (.pr (.pr (.var st.nv) (.int 0)) (.fn 10 (.int 0)))).den (ρ.more [u])=.bx (ρ.base b) 0 0 []:=by
     show U.bx ((E.var _).den _).adr 0 ((E.var _).den _).rcap []=_
     rw[eu];rfl
    refine⟨_,hx,hrm,?_,?_⟩
    ·show SlOk _ _ _
     rw[eden]
     cases hbase:ρ.base b with
     |none=>exact SlOk.nil
     |some a=>exact SlOk.empty _
    ·show((E.fn 28 _).den _).raw=_
     rw[eden];rfl
   omega
  ·rename_i b' len' cap' hne h1
   obtain⟨rfl,rfl,rfl⟩:=h1
   split
   ·rename_i ks l n af elem hb;split
    ·rename_i hi;simp only[DB,Bool.and_eq_true]at hi
     obtain⟨h1,h2,hs,hl,hlen,hcap⟩:=hi
     rw[T.setK_eq]
     have en:=E.beq_eq h1;subst en;have ec:=E.beq_eq h2;subst ec
     obtain⟨hlt,hrep,hown⟩:=hr.blk _ _ hb
     obtain⟨k0,k1,k2,k3,k4⟩:=hrep
     have hs':=aFE hs b;have nvl:=hr.nv;let u:U:=.bx (ρ.base b) 0 (cap.I ρ).toNat []
     have fin:∀ρ1,ρ.Ext ρ1->ρ1.vs=ρ.vs->RepW B ρ1 {st with heap:=st.heap.set b ⟨true,.gone⟩} w->SlOk ρ1.fz ks (.bx (ρ.base b) (n.I ρ).toNat (cap.I ρ).toNat (l.L ρ))->
       ∃ρ',ρ.Ext ρ'/\RepW B ρ' {st with nv:=Nat.succ st.nv,heap:=st.heap.set b ⟨true,.gone⟩} w/\(SV.bsl ks (.fn 28 (.pr (.pr (.var st.nv) n) l))).ok ρ'/\(SV.bsl ks (.fn 28 (.pr (.pr (.var st.nv) n) l))).den ρ'=(SV.nslice b n cap).den ρ:=by
      intro ρ1 hx hvs hr1 hok;have hx2:=Env.more_ext ρ1 [u];have hrm:=hr1.more hs' [u] [] (by simp_all);have hxx:=hx.trans hx2;have eI:n.I _=n.I ρ:=E.scoped_I hxx (by simp_all);have eL:l.L _=l.L ρ:=E.scoped_L hxx (by simp_all);have eu:(E.var st.nv).den (ρ1.more [u])=u:=by
       show(ρ1.vs++[u]).getD _ _=u
       simp_all
      have eden:(E.fn 28 (.pr (.pr (.var st.nv) n) l)).den (ρ1.more [u])=.bx (ρ.base b) (n.I ρ).toNat (cap.I ρ).toNat (l.L ρ):=by
       show U.bx ((E.var _).den _).adr (n.I _).toNat ((E.var _).den _).rcap (l.L _)=_
       rw[eu,eI,eL];rfl
      refine⟨_,hxx,hrm,?_,?_⟩
      ·show SlOk _ ks _
       rw[eden];exact hok.mono hx2.fz
      ·show((E.fn 28 _).den _).raw=.slice _ _ _
       rw[eden];rfl
     have hlen5:(l.L ρ).length=(n.I ρ).toNat*ks.length:=by
      grind
     by_cases ht:0<cap.I ρ
     ·obtain⟨hnil,hoff,arr,ha,hfl,hsz⟩:=k4 ht
      obtain⟨hx,hr'⟩:=hr.freeze hs hb (show 0<cap.I ρ from ht) ha
      refine fin _ hx rfl hr' ?_;have hbase:ρ.base b=some ⟨ρ.blk b,0,none⟩:=by simp_all[fj]
      rw[hbase]
      have hfl':=hfl.mono hx.fz;refine SlOk.mk (arr:=arr) (elem:=elem) (fr:=(0,0)) hlen5 (by omega) ?_ ?_ ?_
      ·intro _
       show(if ρ.blk b=ρ.blk b then some _ else _)=_
       simp_all
      ·intro i x hi
       obtain⟨c,c1,c2,_⟩:=hfl' i x hi
       simp_all
      ·intro i x ks' hi hk
       obtain⟨c,c1,_,c3⟩:=hfl' i x hi
       rw[hk]at c1
       simp only[Option.some.injEq]at c1;subst c1;exact c3
     ·have e0:(n.I ρ).toNat=0:=by omega
      have e1:(cap.I ρ).toNat=0:=by omega
      have e2:l.L ρ=[]:=List.length_eq_zero_iff.1 (by simp_all);refine fin ρ (Env.Ext.refl ρ) rfl (hr.drop b true) ?_
      rw[e0,e1,e2]
      cases hbase:ρ.base b with
      |none=>exact SlOk.nil
      |some a=>exact SlOk.empty _
    omega
   omega
  all_goals simp_all
 |slice b o len cap=>
  split
  ·simp_all
  ·simp_all
  ·simp_all
  ·rename_i h1
   obtain⟨rfl,rfl,rfl,rfl⟩:=h1
   split
   ·rename_i hs;let u:U:=.bx (some ⟨ρ.blk b,ρ.off b+o.den ρ,none⟩) 0 0 []
    have hx:=Env.more_ext ρ [u];have hrm:=hr.more hs [u] [] (by simp_all);have eu:(E.var st.nv).den (ρ.more [u])=u:=by
     show(ρ.vs++[u]).getD st.nv (.int 0)=u
     rw[<- hr.nv];simp
    have eden:(E.fn 28 (.pr (.pr (.var st.nv) (.int 0)) (.fn 10 (.int 0)))).den (ρ.more [u])=.bx (some ⟨ρ.blk b,ρ.off b+o.den ρ,none⟩) 0 0 []:=by
     show U.bx ((E.var st.nv).den _).adr 0 ((E.var st.nv).den _).rcap []=_
     rw[eu];rfl
    refine⟨_,hx,hrm,?_,?_⟩
    ·show SlOk _ ks0 ((E.fn 28 (.pr (.pr (.var st.nv) (.int 0)) (.fn 10 (.int 0)))).den _);simp_all[SlOk.empty]
    ·show((E.fn 28 (.pr (.pr (.var st.nv) (.int 0)) (.fn 10 (.int 0)))).den _).raw=_
     rw[eden];rfl
   omega
  omega
 |_=>omega
omit ht in
theorem afY{ks:List CK}{el:TypeId}{B:Base}{ρ:Env}{w:World}{v:SV}{st:St}(hr:RepW B ρ st w)(hv:v.ok ρ){ad:Option Addr}(hd:v.den ρ=.slice ad 0 0):
  ∃ρ',ρ.Ext ρ'/\RepW B ρ' (wo ks el v st).2 w/\(wo ks el v st).1.ok ρ'/\(wo ks el v st).1.den ρ'=v.den ρ:=by
 unfold wo;split
 ·rename_i hc
  rw[Bool.and_eq_true]at hc
  rw[T.insK_eq]
  have hk0:0<ks.length:=by grind[b7,eA]
  have hext:=ρ.grow_ext [] ⟨0,0,some ad⟩
  refine⟨ρ.grow [] _,hext,?_,by simp[SV.ok],?_⟩
  ·have:=hr.grow (w':=w) hc.1 [] [] _ (.flat ks (.fn 10 (.int 0)) (.int 0) (.int 0) el) (fun e he=>by grind) (fun r h1 _=>rfl) rfl rfl rfl (.inl fun _ _=>rfl)
    ⟨hk0,by simp[E.L,E.den,sn,wa,U.toL,Nat.blt],by simp,by simp,fun h=>by simp at h⟩ (fun h=>by
     have h':0<(E.int 0).I (ρ.grow [] ⟨0,0,some ad⟩):=h;simp at h') (fun r h=>h)
   grind
  ·rw[hd]
   simp only[SV.den,Env.grow_base hr.nb];rfl
 ·exact⟨ρ,Env.Ext.refl ρ,hr,hv,rfl⟩
omit ht in
theorem aJW{ks0:List CK}{el:TypeId}{fs:List E}(hf:∀x∈fs,∀ρ,x.B ρ=true){B:Base}{ρ:Env}{w:World}{v:SV}{st:St}(hr:RepW B ρ st w)(hv:v.ok ρ):
  ∃ρ',ρ.Ext ρ'/\RepW B ρ' (Ai ks0 el fs v st).2 w/\(Ai ks0 el fs v st).1.ok ρ'/\(Ai ks0 el fs v st).1.den ρ'=v.den ρ:=by
 have same:∃ρ',ρ.Ext ρ'/\RepW B ρ' st w/\v.ok ρ'/\v.den ρ'=v.den ρ:=⟨ρ,Env.Ext.refl ρ,hr,hv,rfl⟩;unfold Ai;split
 ·exact afY (ad:=none) hr hv rfl
 ·rename_i ks e;split
  ·rename_i hc;simp only[Bool.and_eq_true]at hc;have z1:=GQ (fun x hx ρ=>hf x hx ρ) hr.pc hc.2.1;have z2:=GQ (fun x hx ρ=>hf x hx ρ) hr.pc hc.2.2;have hv':SlOk ρ.fz ks (e.den ρ):=by grind[SV.ok]
   obtain⟨q1,q2⟩:=vX (w:=aR ks) hv' (b7 ks) (by simp_all)
   have q3:=yc (e:=e) (ρ:=ρ);refine afY (ad:=(e.den ρ).adr) hr hv ?_;have hd:(SV.bsl ks e).den ρ=.slice (e.den ρ).adr (e.den ρ).rlen (e.den ρ).rcap:=by grind[SV.den,zR]
   grind
  omega
 omega
omit ht in
theorem aar{m:FM}{fs:List E}(hf:∀x∈fs,∀ρ,x.B ρ=true){B:Base}{ρ:Env}{w:World}{v:SV}{st:St}(hr:RepW B ρ st w)(hv:v.ok ρ):
  ∃ρ',ρ.Ext ρ'/\RepW B ρ' (yM m fs v st).2 w/\(yM m fs v st).1.ok ρ'/\(yM m fs v st).1.den ρ'=v.den ρ:=by
 cases m with
 |stay=>exact⟨ρ,Env.Ext.refl ρ,hr,hv,rfl⟩
 |down ks=>exact aDo hf (p:=(v,st)) hr hv
 |up ks el=>exact aJW hf hr hv
omit ht in
theorem DC{fs:List E}(hf:∀x∈fs,∀ρ,x.B ρ=true){B:Base}{w:World}:∀(ms:List FM)(vs:List SV)(st:St){ρ:Env},RepW B ρ st w->SV.oks ρ vs->
  ∃ρ',ρ.Ext ρ'/\RepW B ρ' (kD fs ms vs st).2 w/\SV.oks ρ' (kD fs ms vs st).1/\SV.dens ρ' (kD fs ms vs st).1=SV.dens ρ vs
 |[],vs,st,ρ,hr,hv=>⟨ρ,Env.Ext.refl ρ,by grind[kD],by grind[kD],by rfl⟩
 |m::ms,[],st,ρ,hr,hv=>⟨ρ,Env.Ext.refl ρ,by grind[kD],by grind[kD],by rfl⟩
 |m::ms,v::vs,st,ρ,hr,hv=>by
  have same:∃ρ',ρ.Ext ρ'/\RepW B ρ' st w/\SV.oks ρ' _/\SV.dens ρ' _=SV.dens ρ (v::vs):=⟨ρ,Env.Ext.refl ρ,hr,hv,rfl⟩;unfold kD;split
  ·split
   ·obtain⟨ρ',hx,h1,h2,h3⟩:=DC hf ms vs st hr hv.2
    have hs':v.scp ρ.vs.length ρ.bs.length=true:=by rw[hr.nv,hr.nb];omega
    refine⟨ρ',hx,h1,⟨SV.ok_ext hx v hs' hv.1,h2⟩,?_⟩
    grind[SV.dens,SV.scoped_den]
   omega
  ·split;rename_i v' st1 he
   obtain⟨ρ1,hx1,h1,h2,h3⟩:=aar (m:=m) hf hr hv.1
   rw[he]at h1 h2 h3
   split
   ·have hvs:SV.scps ρ.vs.length ρ.bs.length vs=true:=by rw[hr.nv,hr.nb];grind
    obtain⟨ρ',hx,h4,h5,h6⟩:=DC hf ms vs _ h1 (SV.oks_ext hx1 vs hvs hv.2)
    have hs':v'.scp ρ1.vs.length ρ1.bs.length=true:=by rw[h1.nv,h1.nb];grind
    refine⟨ρ',hx1.trans hx,h4,⟨SV.ok_ext hx _ hs' h2,h5⟩,?_⟩
    grind[SV.dens,SV.scoped_den,SV.scopeds_den]
   omega
omit ht in
theorem aat{ms:List FM}{fs:List E}(hf:∀x∈fs,∀ρ,x.B ρ=true){B:Base}{ρ:Env}{w:World}{v:SV}{st:St}(hr:RepW B ρ st w)(hv:v.ok ρ):
  ∃ρ',ρ.Ext ρ'/\RepW B ρ' (ss ms fs v st).2 w/\(ss ms fs v st).1.ok ρ'/\(ss ms fs v st).1.den ρ'=v.den ρ:=by
 unfold ss;split
 ·rename_i cs
  obtain⟨ρ',hx,h1,h2,h3⟩:=DC hf ms cs st hr hv
  refine⟨ρ',hx,h1,h2,?_⟩
  show Value.agg _=Value.agg _
  rw[h3]
 ·split
  ·simp_all[aar]
  ·exact⟨ρ,Env.Ext.refl ρ,hr,hv,rfl⟩
omit ht in
theorem aas{ms:List FM}{fs:List E}(hf:∀x∈fs,∀ρ,x.B ρ=true){B:Base}{ρ:Env}{w:World}{p:SV×St}(hr:RepW B ρ p.2 w)(hv:p.1.ok ρ):
  ∃ρ',ρ.Ext ρ'/\RepW B ρ' (ot ms fs p).2 w/\(ot ms fs p).1.ok ρ'/\(ot ms fs p).1.den ρ'=p.1.den ρ:=by
 obtain⟨v,st⟩:=p
 have same:∃ρ',ρ.Ext ρ'/\RepW B ρ' st w/\v.ok ρ'/\v.den ρ'=v.den ρ:=⟨ρ,Env.Ext.refl ρ,hr,hv,rfl⟩;unfold ot;simp only;split
 ·split
  ·rename_i v0 vs
   obtain⟨ρ',hx,h1,h2,h3⟩:=aat (ms:=ms) hf hr hv.1
   split
   ·have hvs:SV.scps ρ.vs.length ρ.bs.length vs=true:=by rw[hr.nv,hr.nb];omega
    refine⟨ρ',hx,h1,⟨h2,SV.oks_ext hx vs hvs hv.2⟩,?_⟩
    show Value.tuple ((ss ms fs v0 st).1.den _::SV.dens _ vs).toArray=Value.tuple (v0.den ρ::SV.dens ρ vs).toArray;grind[SV.scopeds_den]
   omega
  omega
 simp_all[aat]
theorem aCE{B:Base}{ρ:Env}{st st':St}{w:World}{t:Tm}{a:Act}(hr:RepW B ρ st w)(hT:TmRep ρ t a){elem:TypeId}{b:Nat}{s x:SV}(hs:s.ok ρ)(hx:x.ok ρ)(h:yh tb t st elem b s x=some st'):
  ∃ρ',ρ.Ext ρ'/\RepW B ρ' st' w/\TmRep ρ' t a/\s.ok ρ'/\x.ok ρ'/\s.den ρ'=s.den ρ/\x.den ρ'=x.den ρ:=by
 unfold yh at h;split at h
 ·rename_i vs af e hb;split at h
  ·rename_i ks hks;split at h
   ·rename_i hc;simp only[Bool.and_eq_true]at hc
    obtain⟨c1,c2,c3,c4⟩:=hc
    rw[<- hr.nv,<- hr.nb]at c1 c2 c3
    rw[<- hr.nv]at c4
    split at h;rename_i vs' st1 he;split at h
    ·rename_i vs2 tot2 e2 hb2
     rw[T.setK_eq]at h
     simp only[Option.some.injEq]at h;subst h
     obtain⟨hlt,⟨k1,k2,k3,arr,k4,k5,k6⟩,_⟩:=hr.blk _ _ hb
     obtain⟨ρ',hx',h1,h2,h3⟩:=DC ht.facts _ vs st hr k3
     rw[he]at h1 h2 h3
     have hbl:b<ρ.bs.length:=by rw[hr.nb];omega
     refine⟨ρ',hx',?_,hT.ext hx' c1,SV.ok_ext hx' s c2 hs,SV.ok_ext hx' x c3 hx,SV.scoped_den hx' s c2,SV.scoped_den hx' x c3⟩
     refine h1.putObj hb2 trivial (fun _ _=>rfl) rfl rfl rfl ?_
     refine⟨by rw[hx'.nil hbl];omega,by rw[hx'.off hbl];omega,h2,arr,by rw[hx'.blk hbl];omega,by grind[E.scoped_I],fun j v hv=>?_⟩
     have e1:(SV.dens ρ' vs')[j]?=some (v.den ρ'):=by grind[SV.dens_eq]
     grind[SV.dens_eq]
    grind
   grind
  grind
 grind
theorem aBA{B:Base}{ρ:Env}{st:St}{w:World}{t:Tm}{a:Act}(hr:RepW B ρ st w)(hT:TmRep ρ t a){ty xt rt:TypeId}{s x:SV}(hs:s.ok ρ)(hx:x.ok ρ):
  ValOk P B ρ t a w (Builtin.append_ #[ty,xt] rt #[s.den ρ,x.den ρ]) (JW tb t st ty xt s x):=by
 have hZ:ValOk P B ρ t a w (Builtin.append_ #[ty,xt] rt #[s.den ρ,x.den ρ]) (xW tb t st ty xt s x):=by
  generalize hR:xW tb t st ty xt s x=R;unfold xW at hR;split at hR
  ·split at hR
   ·rename_i st' he;have key:∃b elem,yh tb t st elem b s x=some st':=by
     grind
    obtain⟨b,elem,hc⟩:=key
    obtain⟨ρ',hx',h1,h2,h3,h4,h5,h6⟩:=aCE ht hr hT hs hx hc
    have:=Yx ht h1 h2 h3 h4 (ty:=ty) (xt:=xt) (rt:=rt)
    rw[h5,h6,hR]at this
    cases R with
    |val v st2=>
     obtain⟨ρ2,w2,m1,m2⟩:=this
     exact⟨ρ2,w2,hx'.trans m1,m2⟩
    |skip st2=>exact this
    |_=>trivial
   ·subst hR;trivial
  ·subst hR;trivial
 grind[Yx,JW]
omit ht in
theorem RepW.putObjN{B:Base}{ρ:Env}{st:St}{w w':World}(hr:RepW B ρ st w){b:Nat}{obj obj':SObj}(hb:st.heap.get b=some ⟨true,obj⟩)(hl:obj.real ρ)
  (hheap:∀r,r≠ρ.blk b->w'.heap[r]?=w.heap[r]?)(ho:w'.os=w.os)(ht:w'.tape=w.tape)(hu:w'.output=w.output)
  (hc:blkRep ρ w' (ρ.blk b) (ρ.off b) (ρ.nil b) obj')
  (hin:∀r,obj'.inner ρ r->obj.inner ρ r\/(hG B ρ r/\(∀(j:Nat)(x:Blk),st.heap.get j=some x->x.obj.real ρ->ρ.blk j≠r)/\¬jX ρ st.heap r)):
  RepW B ρ {st with heap:=st.heap.set b ⟨true,obj'⟩} w':=by
 have hnk:=((hr.blk _ _ hb).2.2 hl).1 rfl;have conv:∀(i:Nat)(x:Blk),(st.heap.set b ⟨true,obj'⟩).get i=some x->(i=b/\x=⟨true,obj'⟩)\/(i≠b/\st.heap.get i=some x):=by
  grind[T.get_set]
 have hinn:Inn B ρ (st.heap.set b ⟨true,obj'⟩):=by
  intro i x hx0 r hr';rcases conv i x hx0 with⟨rfl,rfl⟩|⟨hi,hx⟩
  ·rcases hin r hr' with h|⟨h1,h2,h3⟩
   ·obtain⟨g1,g2⟩:=hr.inn i _ hb r h
    grind
   ·refine⟨h1,fun j y hy=>?_⟩
    rcases conv j y hy with⟨rfl,rfl⟩|⟨hj,hy⟩
    ·grind
    ·exact⟨h2 j y hy,fun _ hyr=>h3 ⟨j,y,hy,hyr⟩⟩
  ·obtain⟨g1,g2⟩:=hr.inn i x hx r hr'
   refine⟨g1,fun j y hy=>?_⟩
   rcases conv j y hy with⟨rfl,rfl⟩|⟨hj,hy⟩
   ·refine⟨fun _=>(g2 j _ hb).1 hl,fun hj hyr=>?_⟩
    rcases hin r hyr with h|⟨_,_,h3⟩
    ·grind
    ·exact h3 ⟨i,x,by omega,hr'⟩
   grind
 refine⟨hr.nv,hr.nb,hr.pc,?_,?_,hinn,?_,?_,hr.dj,by rw[ho,hr.os],by rw[ht,hr.tape],by rw[hu,hr.output]⟩
 ·intro i x hx;rcases conv i x hx with⟨rfl,rfl⟩|⟨hi,hx⟩
  ·exact⟨(hr.blk _ _ hb).1,hc,fun _=>⟨fun _=>hnk,fun _=>rfl⟩⟩
  ·obtain⟨k1,k2,k3⟩:=hr.blk _ _ hx
   exact⟨k1,k2.world (fun hlx=>hheap _ (hr.apart hx hb hlx hl (.inr rfl) hi)) (fun r hr'=>hheap _ fun e=>((hr.inn i x hx r hr').2 b _ hb).1 hl e.symm),k3⟩
 ·intro i j x y hx hy lx ly ox oy hij;have hx':∃x',st.heap.get i=some x'/\x'.obj.real ρ/\x'.own=true:=by
   grind
  have hy':∃y',st.heap.get j=some y'/\y'.obj.real ρ/\y'.own=true:=by
   grind
  obtain⟨x',hx1,hx2,hx3⟩:=hx'
  obtain⟨y',hy1,hy2,hy3⟩:=hy'
  exact hr.inj i j x' y' hx1 hy1 hx2 hy2 hx3 hy3 hij
 ·intro r o hk
  rw[hheap r (fun e=>by rw[e,hnk.1]at hk;grind)]
  exact hr.fz r o hk
 ·intro r o hk
  rw[hheap r (fun e=>by rw[e,hnk.2]at hk;grind)]
  exact hr.fr r o hk
omit ht in
theorem aE0(t:Tm)(st:St)(tt:TypeId)(p v x:SV)(st':St):vq tb t st tt p v≠.val x st':=by
 unfold vq;repeat' split
 all_goals simp[T.setK_eq]
omit ht in
theorem FT:∀(ks:List CK)(j:Nat)(k:List CK),ks[j]?=some (.slc k)->1<=lX ks
 |[],j,k,h=>by simp at h
 |c::cs,0,k,h=>by
  simp only[List.getElem?_cons_zero,Option.some.injEq]at h;subst h;simp[lX]
 |c::cs,j+1,k,h=>by
  have:=FT cs j k (by simpa using h)
  unfold lX;split<;>omega
omit ht in
theorem aeC:∀(ks:List CK)(i j:Nat)(k k':List CK),lX ks=1->ks[i]?=some (.slc k)->ks[j]?=some (.slc k')->i=j
 |[],i,j,k,k',_,h,_=>by simp at h
 |c::cs,0,0,k,k',_,_,_=>rfl
 |c::cs,0,j+1,k,k',h,g,g'=>by
  simp only[List.getElem?_cons_zero,Option.some.injEq]at g;subst g
  have:=FT cs j k' (by simpa using g')
  simp[lX]at h;omega
 |c::cs,i+1,0,k,k',h,g,g'=>by
  simp only[List.getElem?_cons_zero,Option.some.injEq]at g';subst g'
  have:=FT cs i k (by simpa using g)
  simp[lX]at h;omega
 |c::cs,i+1,j+1,k,k',h,g,g'=>by
  have e:=FT cs i k (by simpa using g)
  have:lX cs=1:=by
   unfold lX at h;split at h<;>omega
  have:=aeC cs i j k k' this (by simpa using g) (by simpa using g')
  omega
theorem aFh{ρ:Env}{pc:List E}(hp:∀x∈pc,x.B ρ=true){ks:List CK}{idx ow ow':E}{j:Nat}{k:List CK}(h:MD tb.facts pc ks idx ow=some ow')(h0:0<=idx.I ρ)(hj:ks[j]?=some (.slc k)):
  ∀(i:Nat)(k':List CK),ks[i%ks.length]?=some (.slc k')->((i:Int)<ow'.I ρ*ks.length↔(i:Int)<ow.I ρ*ks.length\/i=(idx.I ρ).toNat*ks.length+j):=by
 have hjl:j<ks.length:=(List.getElem?_eq_some_iff.1 hj).1;unfold MD at h;split at h
 ·rename_i hlt;have hlt:=kP ht.facts hp hlt;simp only[Option.some.injEq]at h;subst h;intro i k' _
  refine⟨.inl,fun g=>?_⟩
  rcases g with g|g
  ·exact g
  ·subst g
   have:((((idx.I ρ).toNat+1:Nat):Int))*(ks.length:Int)<=ow.I ρ*(ks.length:Int):=Int.mul_le_mul_of_nonneg_right (by omega) (by omega)
   rw[<- Int.natCast_mul,Nat.add_mul]at this
   omega
 ·split at h
  ·rename_i hkn;have heq:idx.I ρ=ow.I ρ:=by
    rw[Bool.and_eq_true]at hkn
    have h1:=pL ht.facts hp hkn.1;have h2:=pL ht.facts hp hkn.2;omega
   split at h
   ·rename_i h1;have h1:=Nat.eq_of_beq_eq_true h1;simp only[Option.some.injEq]at h;subst h;intro i k' hk';have e6:(E.fn 6 (.pr idx (.int 1))).I ρ=idx.I ρ+1:=rfl;have ej:i%ks.length=j:=aeC ks _ _ _ _ h1 hk' hj;have ed:=Nat.div_add_mod i ks.length
    obtain⟨q,hq⟩:∃q:Nat,idx.I ρ=q:=⟨(idx.I ρ).toNat,by omega⟩
    rw[e6,<- heq,hq]
    have hiq:i=i/ks.length*ks.length+j:=by rw[Nat.mul_comm];omega
    have l1:((i:Int)<((q:Int)+1)*ks.length)↔i<(q+1)*ks.length:=by
     rw[show((q:Int)+1)*(ks.length:Int)=(((q+1)*ks.length:Nat):Int) by push_cast;rfl];omega
    have l2:((i:Int)<(q:Int)*ks.length)↔i<q*ks.length:=by
     rw[show(q:Int)*(ks.length:Int)=((q*ks.length:Nat):Int) by push_cast;rfl];omega
    rw[l1,l2,show((q:Int)).toNat=q by omega,Nat.add_mul]
    constructor
    ·intro g;by_cases g2:i<q*ks.length
     ·exact .inl g2
     ·right
      have:i/ks.length=q:=by
       have a1:q<=i/ks.length:=(Nat.le_div_iff_mul_le (by omega)).2 (by omega);have a2:i/ks.length<q+1:=(Nat.div_lt_iff_lt_mul (by omega)).2 (by rw[Nat.add_mul];omega);omega
      rw[this]at hiq;exact hiq
    ·rintro (g|g)<;>omega
   ·cases h
  ·cases h
theorem aEZ{B:Base}{ρ:Env}{st st':St}{w:World}{t:Tm}{a:Act}(hr:RepW B ρ st w)(hT:TmRep ρ t a){tt:TypeId}{p v:SV}(h:vq tb t st tt p v=.skip st'):
  ∃(ρ':Env) (w':World) (ad:Addr),ρ.Ext ρ'/\p.den ρ=.pointer (some ad)/\(storeVar tt ad (v.den ρ)).run P w=.ok () w'/\RepW B ρ' st' w'/\TmRep ρ' t a:=by
 unfold vq at h;split at h
 ·rename_i b o b2 len cap;split at h
  ·rename_i ks l n af elem ow ks2 l2 n2 tot2 el2 hb hb2;split at h
   ·rename_i idx j hat;split at h
    ·rename_i ks' hk;split at h
     ·rename_i hc;split at h
      ·rename_i hsz;split at h
       rotate_left
       ·cases h
       rename_i ow' how;simp only[Bool.and_eq_true]at hc
       obtain⟨⟨⟨c1,c2⟩,c3⟩,c4⟩:=hc
       have:=kL _ _ c1
       subst this;simp only[DB,Bool.and_eq_true]at c2
       obtain⟨h1,h2,hs,hl,hlen,hcap⟩:=c2
       have en:n2=len:=E.beq_eq h1;subst en;have ec:cap=tot2:=E.beq_eq h2;subst ec
       rw[T.setK_eq,T.setK_eq]at h
       simp only[Eff2.skip.injEq]at h;subst h
       rw[ee]at hk
       have hne:b≠b2:=by grind
       have nvl:ρ.vs.length=st.nv:=hr.nv
       obtain⟨u,hu⟩:∃u:U,u=.bx (ρ.base b2) 0 (cap.I ρ).toNat []:=⟨_,rfl⟩
       have hx:=Env.more_ext ρ [u];have hrm:=hr.more hs [u] [] (by simp_all)
       obtain⟨ρ',hρ⟩:∃ρ',ρ'=ρ.more [u]:=⟨_,rfl⟩
       rw[<- hρ]at hx hrm
       have hblk:∀i,ρ'.blk i=ρ.blk i:=fun i=>by rw[hρ];rfl
       have hbase:∀i,ρ'.base i=ρ.base i:=fun i=>by rw[hρ];rfl
       have hfz:ρ'.fz=ρ.fz:=by rw[hρ];rfl
       have eu:(E.var st.nv).den ρ'=u:=by
        show ρ'.vs.getD st.nv (.int 0)=u
        rw[hρ];show(ρ.vs++[u]).getD st.nv (.int 0)=u
        simp_all
       have eI:n2.I ρ'=n2.I ρ:=E.scoped_I hx (by simp_all);have eL:l2.L ρ'=l2.L ρ:=E.scoped_L hx (by simp_all);have eC:cap.I ρ'=cap.I ρ:=E.scoped_I hx (by simp_all)
       obtain⟨uu,huu⟩:∃uu,uu=(E.fn 28 (.pr (.pr (.var st.nv) n2) l2)).den ρ':=⟨_,rfl⟩
       have eden:uu=.bx (ρ.base b2) (n2.I ρ).toNat (cap.I ρ).toNat (l2.L ρ):=by
        rw[huu]
        show U.bx ((E.var st.nv).den _).adr (n2.I _).toNat ((E.var st.nv).den _).rcap (l2.L _)=_
        rw[eu,eI,eL,hu];rfl
       have hpd:(SV.ptr b o).den ρ'=(SV.ptr b o).den ρ:=SV.scoped_den hx _ (by rw[hr.nv,hr.nb];omega)
       obtain⟨k1,k2,k3,k4,k5⟩:=pK ht.facts hrm.pc hat
       rw[b7]at k1 k2 k4
       obtain⟨arr,m1,m2,m3,m4,m5,m6,m7,m8,m9,m10⟩:=zD ht hrm hb k3 k5
       obtain⟨_,⟨q1,q2,q3,q4,q5⟩,q6⟩:=hr.blk _ _ hb2
       obtain⟨pos,hpos⟩:∃pos,pos=(idx.I ρ').toNat*ks.length+j:=⟨_,rfl⟩
       rw[<- hpos]at k4
       have hin:pos<(l.L ρ').length:=by grind
       have hm:pos%ks.length=j:=by simp_all[Nat.add_comm,Nat.add_mul_mod_self_right,Nat.mod_eq_of_lt]
       obtain⟨_,hposN0⟩:=vK (w:=aR ks) (idx:=idx) (j:=j) (ρ:=ρ') k3 (fun e=>by simp_all[b7])
       have hposN:((eD (aR ks) idx j).I ρ').toNat=pos:=by simp_all[b7]
       obtain⟨l',hl'⟩:∃l',l'=jN l (eD (aR ks) idx j) (.fn 28 (.pr (.pr (.var st.nv) n2) l2)):=⟨_,rfl⟩
       rw[<- hl']
       have hL:l'.L ρ'=(l.L ρ').set pos uu:=by simp_all[E.L_upd]
       have hH:=aFh ht hrm.pc how k3 hk
       rw[<- hpos]at hH
       have hpo:(pos:Int)<ow'.I ρ'*ks.length:=(hH pos ks' (by rw[hm];exact hk)).2 (.inr rfl);have hV:(SV.nslice b2 n2 cap).den ρ=uu.raw:=by rw[eden];rfl
       obtain⟨V,hVe⟩:∃V,V=(SV.nslice b2 n2 cap).den ρ:=⟨_,rfl⟩
       have hVc:V.cells=#[V]:=by rw[hVe];rfl
       have hlt:pos<arr.size:=by omega
       have hst:=run_storeCells_at (P:=P) (ρ'.blk b) pos elem [V] 0 arr w m1 (by grind) (by
        intro y hy
        rw[List.mem_singleton]at hy
        subst hy;rw[hVe];rfl)
       obtain⟨arr',harr⟩:∃arr':Array Value,arr'=(arr.toList.take (pos+0)++[V]++arr.toList.drop (pos+0+[V].length)).toArray:=⟨_,rfl⟩
       rw[<- harr]at hst
       have harr2:arr'=arr.setIfInBounds pos V:=by
        apply Array.ext';simp_all[Array.toList_setIfInBounds,List.set_eq_take_append_cons_drop,if_pos]
       have hg1:=fun x=>v6 (arr':=arr') m1 x
       have hreal2:0<cap.I ρ->(SObj.flat ks' l2 n2 cap el2).real ρ:=fun h=>h
       have hown2:∀r,gN uu=some r->0<cap.I ρ/\r=ρ.blk b2:=by
        intro r hr'
        rw[eden]at hr'
        rcases Int.lt_or_le 0 (cap.I ρ)with hc|hc
        ·refine⟨hc,?_⟩
         obtain⟨z1,z2,_⟩:=q5 hc
         have hbs:ρ.base b2=some ⟨ρ.blk b2,0,none⟩:=by rw[fj z1,z2]
         obtain⟨m,hm'⟩:∃m,(cap.I ρ).toNat=m+1:=⟨(cap.I ρ).toNat-1,by omega⟩
         grind[gN]
        ·have e0:(cap.I ρ).toNat=0:=by omega
         rw[e0]at hr'
         cases hbs:ρ.base b2<;>rw[hbs]at hr'<;>simp[gN]at hr'
       have hb2m:0<cap.I ρ->ρ'.blk b≠ρ.blk b2:=by
        intro hc
        rw[hblk]
        exact hr.apart hb hb2 (by
         have h10:0<af.I ρ':=m10
         have:af.I ρ'=af.I ρ:=E.scoped_I hx (by
          have hsc:=hr.blk_scp hs hb;simp only[SObj.scp,Bool.and_eq_true]at hsc;grind)
         show 0<af.I ρ;omega) (hreal2 hc) (.inl rfl) hne
       have hhb2:∀(i:Nat)(x:Blk),(st.heap.set b2 ⟨true,.gone⟩).get i=some x->(i=b2/\x=⟨true,.gone⟩)\/(i≠b2/\st.heap.get i=some x):=by
        intro i x hx'
        rw[T.get_set]at hx'
        grind
       have hd:=hrm.drop b2 true;have hbd:(st.heap.set b2 ⟨true,.gone⟩).get b=some ⟨true,.nest ks l n af elem ow⟩:=by rw[T.get_set,if_neg hne];exact hb
       have hslc:∀i r,gv ks (ow'.I ρ'*ks.length) (l'.L ρ') i r->(i=pos/\0<cap.I ρ/\r=ρ.blk b2)\/(i≠pos/\gv ks (ow.I ρ'*ks.length) (l.L ρ') i r):=by
        rintro i r ⟨v,ks3,hv,hk3,ho3,hlo⟩
        rw[hL]at hv
        by_cases hip:i=pos
        ·grind
        ·rw[List.getElem?_set_ne (Ne.symm hip)]at hv
         exact .inr ⟨hip,v,ks3,hv,hk3,ho3,((hH i ks3 hk3).1 hlo).resolve_right hip⟩
       have hinold:∀i r,gv ks (ow.I ρ'*ks.length) (l.L ρ') i r->(SObj.nest ks l n af elem ow).inner ρ' r:=fun i r h=>⟨i,h⟩
       have hb2in:∀i,0<cap.I ρ->¬gv ks (ow.I ρ'*ks.length) (l.L ρ') i (ρ.blk b2):=by
        intro i hc hsl
        have:=((hrm.inn b _ hb _ (hinold i _ hsl)).2 b2 _ hb2).1 (show 0<cap.I ρ' by omega)
        grind
       have hrep:=RepW.putObjN hd (w':=w.setRow (ρ'.blk b) arr') hbd m10 (obj':=.nest ks l' n af elem ow') (fun r hr'=>by grind) rfl rfl rfl (by
        obtain⟨_,⟨g1,g2,g3,g4,g5,_⟩,_⟩:=hrm.blk _ _ hb
        refine⟨g1,by grind,g3,g4,?_,fun _=>⟨m2,m3,arr',by grind,?_,by grind⟩⟩
        ·intro i i' x h1 h2;rcases hslc i x h1 with⟨e1,hc,ex⟩|⟨_,h1⟩
         all_goals grind
        ·intro i v hv
         rw[hL]at hv
         by_cases hip:i=pos
         ·subst hip
          rw[List.getElem?_set_self hin]at hv
          simp only[Option.some.injEq]at hv;subst hv
          refine⟨_,by rw[hm];omega,?_,?_⟩
          ·rw[harr2,Array.getElem?_setIfInBounds,if_pos rfl,if_pos hlt,hVe,hV];rfl
          ·refine⟨fun _=>?_,fun hn=>absurd hpo hn⟩
           rw[eden]
           have hlen5:(l2.L ρ).length=(n2.I ρ).toNat*ks'.length:=by
            grind[Int,Int.toNat_of_nonneg]
           rcases Int.lt_or_le 0 (cap.I ρ)with hc|hc
           ·obtain⟨z1,z2,arr2,z3,z4,z5⟩:=q5 hc
            have hbs:ρ.base b2=some ⟨ρ.blk b2,0,none⟩:=by grind[fj]
            obtain⟨m,hm'⟩:∃m,(cap.I ρ).toNat=m+1:=⟨(cap.I ρ).toNat-1,by omega⟩
            rw[hbs,hm']
            refine⟨rfl,hlen5,by omega,arr2,el2,?_,?_,by grind⟩
            ·grind
            ·have e1:((arr2.size:Nat):Int)=((m+1:Nat):Int)*(ks'.length:Int):=by rw[z5,<- hm',Int.toNat_of_nonneg (by omega)]
             omega
           ·have e0:(n2.I ρ).toNat=0:=by omega
            have e1:(cap.I ρ).toNat=0:=by omega
            have e2:l2.L ρ=[]:=List.length_eq_zero_iff.1 (by grind)
            rw[e0,e1,e2]
            cases ρ.base b2 with
            |none=>exact⟨rfl,rfl,rfl⟩
            |some a=>exact⟨rfl,rfl⟩
         ·rw[List.getElem?_set_ne (Ne.symm hip)]at hv
          obtain⟨c,e1,e2,e3⟩:=m4 i v hv
          refine⟨c,e1,by grind,?_⟩
          cases c with
          |slc ks3=>
           have hio:=hH i ks3 e1
           refine⟨fun hlo=>rowN.world (e3.1 ((hio.1 hlo).resolve_right hip)) fun x hx'=>?_,fun hlo=>e3.2 fun q=>hlo (hio.2 (.inl q))⟩
           rw[hg1,if_neg]
           exact(((hrm.inn b _ hb x (hinold i x ⟨v,ks3,hv,e1,hx',(hio.1 hlo).resolve_right hip⟩)).2 b _ hb).1 m10).symm
          |_=>trivial) (by
        rintro r ⟨i,hsl⟩
        rcases hslc i r hsl with⟨_,hc,rfl⟩|⟨_,hsl⟩
        ·right;have hc':0<cap.I ρ':=by omega
         refine⟨?_,?_,?_⟩
         ·have:=((hrm.blk _ _ hb2).2.2 hc').1 rfl
          grind
         ·intro j x hj hlx;rcases hhb2 j x hj with⟨_,rfl⟩|⟨hj2,hj⟩
          ·exact hlx.elim
          ·have:=hrm.apart hj hb2 hlx hc' (.inr rfl) hj2
           grind
         ·rintro⟨j,x,hj,hxr⟩
          rcases hhb2 j x hj with⟨_,rfl⟩|⟨hj2,hj⟩
          ·exact hxr.elim
          ·have:=((hrm.inn j x hj _ hxr).2 b2 _ hb2).1 hc'
           exact this (hblk b2)
        grind)
       refine⟨ρ',w.setRow (ρ'.blk b) arr',⟨ρ'.blk b,pos,none⟩,hx,?_,?_,hrep,hT.ext hx (by rw[hr.nv,hr.nb];exact c3)⟩
       ·rw[<- hpd,SV.den,k4,m3,Nat.zero_add]
       ·rw[<- hVe]
        have hs1:V.cells.size=1:=by rw[hVc];rfl
        simp only[storeVar,Sem.run_bind,ht.run_size hsz,Result.andThen_ok,hs1,ne_eq,not_true_eq_false,if_false]
        rw[hVc]
        simpa using hst
      grind
     grind
    grind
   all_goals simp_all
  grind
 grind
theorem aCY{B:Base}{ρ:Env}{st:St}{w:World}{t:Tm}{a:Act}(hr:RepW B ρ st w)(hT:TmRep ρ t a)(o:Oper):
  nx P B ρ t a w (execOp a.eval o) (yu tb t st o.op):=by
 have hev:=hT.eval;have hwf:=hT.wf;generalize hR:yu tb t st _=R
 rw[aCX]at hR;unfold KS KR KU KQ KT KP KW KV KO KL KN KM KX at hR
 split at hR;all_goals (rename_i ho)
 ·split at hR
  ·rename_i x y hx hy;subst hR;simp only[execOp,ho,hev _ _ hx,hev _ _ hy]
   exact(aEA ht hr hT).next
  ·subst hR;trivial
 ·split at hR
  ·split at hR
   ·rename_i hs
    rw[T.insK_eq]at hR
    subst hR;simp only[execOp,ho,Option.map_none]
    exact(aEz hr hT hs _).next
   ·subst hR;trivial
  ·subst hR;trivial
 ·split at hR
  ·rename_i x y z hx hy hz;subst hR;simp only[execOp,ho,hev _ _ hx,hev _ _ hy,hev _ _ hz];exact abN ht hr hT (hwf _ _ hy) (hwf _ _ hz)
  ·subst hR;trivial
 ·split at hR
  ·rename_i x y z hx hy hz;subst hR;simp only[execOp,ho,hev _ _ hx,hev _ _ hy,hev _ _ hz];exact abN ht hr hT (hwf _ _ hy) (hwf _ _ hz)
  ·subst hR;trivial
 ·split at hR
  ·rename_i x y hx hy;subst hR;simp only[execOp,ho,hev _ _ hx,hev _ _ hy]
   exact(aEB ht hr hT (hwf _ _ hy)).next
  ·subst hR;trivial
 ·split at hR
  ·rename_i x y z hx hy hz;subst hR;simp only[execOp,ho,hev _ _ hx,hev _ _ hy,hev _ _ hz];exact aC1 ht hr hT (hwf _ _ hz)
  ·subst hR;trivial
 ·split at hR
  ·rename_i x hx;subst hR;simp only[execOp,ho,hev _ _ hx]
   exact(aFD ht hr hT _ _).next
  ·subst hR;trivial
 ·split at hR
  ·rename_i x hx;subst hR;simp only[execOp,ho,hev _ _ hx]
   exact(aE1 ht hr hT _ _ _).next
  ·subst hR;trivial
 ·split at hR
  ·rename_i x hx;subst hR;simp only[execOp,ho,hev _ _ hx]
   exact(aC0 ht hr hT _).next
  ·subst hR;trivial
 ·-- binOp
  rename_i op ty X Y sz;split at hR
  ·rename_i x y hsl hx hy
   obtain⟨e,hu⟩:=abi ht hsl
   have hnil:SV.nils.den ρ=Value.slice none 0 0:=by rfl
   have key:∀(v:SV)(yes:Bool)(hv:v.ok ρ)(s:Sem _),(∀ad n c,v.den ρ=.slice ad n c->s.run P w=.ok (.bool (ad.isNone==yes)) w)->
     pT tb t st v yes=R->nx P B ρ t a w (do pure (Next.value (<- s))) R:=by
    intro v yes hv s hs hR;have h:=aD3 ht hr hT hv yes
    rw[hR]at h
    cases R with
    |val v' st'=>
     obtain⟨ρ',h1,h2,h3,h4,ad,n,c,h5,h6⟩:=h
     refine⟨ρ',w,h1,h2,h3,h4,eE ?_⟩
     simp_all
    |skip=>cases h
    |_=>trivial
   have hg:∀(ad:Option _)(n c:Nat)(V:Value),(eqGuard op ty X Y (.slice ad n c) V).run P w=.ok () w:=
    fun ad n c V=>Dh op ty _ _ (by simp) (fun cs h=>by grind) X Y w
   simp only[execOp,ho,hev _ _ hx,hev _ _ hy];split at hR
   ·split at hR
    ·rename_i hn;obtain rfl:=DY hn;refine key x _ (hwf _ _ hx) _ (fun ad n c h5=>?_) hR
     rw[hnil,h5,Sem.run_bind,hg,Result.andThen_ok]
     have hb:binOp .eql ty (.slice ad n c) _=(do pure (.bool (<- Op.equal ty _ (.slice none 0 0)))):=rfl
     rw[hb,Sem.run_bind,(Di ht hu ad n c w).1];simp
    ·split at hR
     ·rename_i hn;obtain rfl:=DY hn;refine key y _ (hwf _ _ hy) _ (fun ad n c h5=>?_) hR
      rw[hnil,h5,Sem.run_bind,hg,Result.andThen_ok]
      have hb:binOp .eql ty (.slice _ 0 0) _=(do pure (.bool (<- Op.equal ty (.slice none 0 0) (.slice ad n c)))):=rfl
      rw[hb,Sem.run_bind,(Di ht hu ad n c w).2];simp
     ·subst hR;trivial
   ·split at hR
    ·rename_i hn;obtain rfl:=DY hn;refine key x _ (hwf _ _ hx) _ (fun ad n c h5=>?_) hR
     rw[hnil,h5,Sem.run_bind,hg,Result.andThen_ok]
     have hb:binOp .neq ty (.slice ad n c) _=(do pure (.bool (!(<- Op.equal ty _ (.slice none 0 0))))):=rfl
     rw[hb,Sem.run_bind,(Di ht hu ad n c w).1];simp
    ·split at hR
     ·rename_i hn;obtain rfl:=DY hn;refine key y _ (hwf _ _ hy) _ (fun ad n c h5=>?_) hR
      rw[hnil,h5,Sem.run_bind,hg,Result.andThen_ok]
      have hb:binOp .neq ty (.slice _ 0 0) _=(do pure (.bool (!(<- Op.equal ty (.slice none 0 0) (.slice ad n c))))):=rfl
      rw[hb,Sem.run_bind,(Di ht hu ad n c w).2];simp
     ·subst hR;trivial
   ·subst hR;trivial
  ·subst hR;trivial
 ·split at hR
  ·rename_i v hv;subst hR;simp only[execOp,ho,hev _ _ hv]
   exact(aIe ht hr hT (hwf _ _ hv)).next
  ·subst hR;trivial
 ·rename_i c;split at hR
  ·rename_i b hb;split at hR
   ·rename_i v w' hvs;have h1:=od hev _ _ hvs;have e1:c.args.map a.eval=#[v.den ρ,w'.den ρ]:=by grind[Array.ext',SV.dens]
    have hvw:=sd hwf _ _ hvs;have hv:=(SV.oks_iff _).1 hvw v (by simp);have hw:=(SV.oks_iff _).1 hvw w' (by simp);have hx:∀s,(∀cs,builtin b c.argTypes o.type cs #[v.den ρ,w'.den ρ]=s)->nx P B ρ t a w s R->nx P B ρ t a w (execOp a.eval o) R:=by
     intro s hs h
     have:∀w1,(execOp a.eval o).run P w1=s.run P w1:=by
      simp_all[execOp,resolve,Sem.run_bind,Sem.run_pure,Result.andThen_ok,invoke]
     cases R with
     |val v' st'=>
      obtain⟨ρ',w2,h1,h2,h3,h4,h5⟩:=h
      exact⟨ρ',w2,h1,h2,h3,h4,by simp_all⟩
     |skip st'=>
      obtain⟨ρ',w2,h1,h2,h3,h5⟩:=h
      exact⟨ρ',w2,h1,h2,h3,by simp_all⟩
     |_=>trivial
    split at hR
    ·split at hR
     ·rename_i ty xt hts;have hts':c.argTypes=#[ty,xt]:=by grind
      subst hR;refine hx _ (fun cs=>by rw[hts'];rfl) (aBA ht hr hT hv hw (rt:=o.type)).next
     ·subst hR;trivial
    ·split at hR
     ·rename_i ty xt hts;have hts':c.argTypes=#[ty,xt]:=by grind
      subst hR;refine hx _ (fun cs=>by rw[hts'];rfl) (aCF ht hr hT hv hw (rt:=o.type)).next
     ·subst hR;trivial
    ·split at hR
     ·rename_i ty bU hts;have hts':c.argTypes=(ty::bU).toArray:=by grind
      subst hR;refine hx _ (fun cs=>by rw[hts'];rfl) (aCQ ht hr hT (rt:=o.type) (bU:=bU)).next
     ·subst hR;trivial
    ·subst hR;trivial
   ·rename_i v hvs;have h1:=od hev _ _ hvs;have e1:c.args.map a.eval=#[v.den ρ]:=by grind[SV.dens]
    have hx:∀s:Sem Next,(∀cs,builtin b c.argTypes o.type cs #[v.den ρ]=s)->nx P B ρ t a w s R->nx P B ρ t a w (execOp a.eval o) R:=by
     intro s hs h
     have:∀w1,(execOp a.eval o).run P w1=s.run P w1:=by
      grind[execOp,resolve,invoke]
     cases R with
     |val v' st'=>
      obtain⟨ρ',w2,h1,h2,h3,h4,h5⟩:=h
      exact⟨ρ',w2,h1,h2,h3,h4,by simp_all⟩
     |skip st'=>
      obtain⟨ρ',w2,h1,h2,h3,h5⟩:=h
      exact⟨ρ',w2,h1,h2,h3,by simp_all⟩
     |_=>trivial
    split at hR
    ·split at hR
     ·rename_i ty hts;have hts':c.argTypes=#[ty]:=by grind
      subst hR;refine hx _ (fun cs=>by rw[hts'];rfl) (aCu ht hr hT (rt:=o.type)).next
     ·subst hR;trivial
    ·subst hR;trivial
   ·subst hR;trivial
  ·subst hR;trivial
 ·rename_i tt xo yo;split at hR
  ·rename_i p v hpv hv;split at hR
   ·cases hn:vq tb t st tt p v with
    |skip st'=>
     rw[hn]at hR;subst hR
     obtain⟨ρ',w',ad,hx,h1,h2,h3,h4⟩:=aEZ ht hr hT hn
     refine⟨ρ',w',hx,h3,h4,?_⟩
     simp only[execOp,ho,hev _ _ hpv,hev _ _ hv];simp_all[Instr.storeAt,Instr.sureAddr]
    |val x st'=>grind[aE0]
    |ask e=>rw[hn]at hR;subst hR;trivial
    |lack e=>rw[hn]at hR;subst hR;trivial
    |bad=>rw[hn]at hR;subst hR;trivial
   split at hR
   ·rename_i ks hks;split at hR
    ·obtain⟨ρ',hx,hr',hvok,hden⟩:=aas (ms:=uK ks) ht.facts hr (p:=(v,st)) (hwf _ _ hv)
     have hT':=hT.ext hx (by rw[hr.nv,hr.nb];simp_all);have hpd:p.den ρ'=p.den ρ:=SV.scoped_den hx p (by rw[hr.nv,hr.nb];simp_all);split at hR;rename_i v' st' he
     rw[he]at hr' hvok hden
     split at hR
     ·rename_i st'' hs;subst hR
      obtain⟨ad,w',h1,h2,h3⟩:=NF ht hr' (SV.ok_ext hx p (by rw[hr.nv,hr.nb];simp_all) (hwf _ _ hpv)) hvok hs
      refine⟨ρ',w',hx,h3,hT',?_⟩
      rw[hpd]at h1
      simp only[execOp,ho,hev _ _ hpv,hev _ _ hv];simp_all[Instr.storeAt,Instr.sureAddr]
     ·subst hR;trivial
     ·subst hR;trivial
    ·subst hR;trivial
   ·subst hR;trivial
  ·subst hR;trivial
 ·subst hR;trivial
end
end Go.SX

namespace Go.SX
theorem aDn{a b:Fn}(h:Le a b=true):a=b:=by
 cases a<;>cases b<;>simp[Le]at h
 rw[h]
mutual
theorem SV.beq_eq:∀(x y:SV),x.beq y=true->x=y
 |.int k e,y,h=>by cases y<;>simp[SV.beq]at h;grind[gJ,E.beq_eq]
 |.bool e,y,h=>by cases y<;>simp[SV.beq]at h;rw[E.beq_eq h]
 |.str e,y,h=>by cases y<;>simp[SV.beq]at h;rw[E.beq_eq h]
 |.nilp,y,h=>by grind[SV.beq]
 |.nils,y,h=>by grind[SV.beq]
 |.nilm,y,h=>by grind[SV.beq]
 |.nili,y,h=>by grind[SV.beq]
 |.nilf,y,h=>by grind[SV.beq]
 |.junk,y,h=>by grind[SV.beq]
 |.ptr b ⟨o1,o2,o3⟩,y,h=>by
  cases y<;>simp[SV.beq]at h;rename_i b' o'
  obtain⟨o1',o2',o3'⟩:=o'
  grind[E.beq_eq]
 |.slice b ⟨o1,o2,o3⟩ l c,y,h=>by
  cases y<;>simp[SV.beq]at h;rename_i b' o' l' c'
  obtain⟨o1',o2',o3'⟩:=o'
  grind[E.beq_eq]
 |.map b,y,h=>by cases y<;>simp[SV.beq]at h;rw[h]
 |.nslice b l c,y,h=>by cases y<;>simp[SV.beq]at h;grind[E.beq_eq]
 |.bsl ks e,y,h=>by cases y<;>simp[SV.beq]at h;grind[kL,E.beq_eq]
 |.bptr ks e i j,y,h=>by cases y<;>simp[SV.beq]at h;grind[kL,E.beq_eq]
 |.nsl b ks e i c,y,h=>by cases y<;>simp[SV.beq]at h;grind[kL,E.beq_eq]
 |.nptr b ks e i c x j,y,h=>by cases y<;>simp[SV.beq]at h;grind[kL,E.beq_eq]
 |.func fn fi ca,y,h=>by
  cases y<;>simp[SV.beq]at h
  rw[aDn h.1.1,SV.beqs_eq fi _ h.1.2,SV.beqs_eq ca _ h.2]
 |.agg cs,y,h=>by
  cases y<;>simp[SV.beq]at h
  rw[SV.beqs_eq cs _ h]
 |.tup cs,y,h=>by
  cases y<;>simp[SV.beq]at h
  rw[SV.beqs_eq cs _ h]
theorem SV.beqs_eq:∀(x y:List SV),SV.beqs x y=true->x=y
 |[],y,h=>by grind[SV.beqs]
 |x::xs,y,h=>by
  cases y with
  |nil=>simp[SV.beqs]at h
  |cons y ys=>
   simp[SV.beqs]at h
   rw[SV.beq_eq x y h.1,SV.beqs_eq xs ys h.2]
end
theorem adw:∀(a b:List Ent),vD a b=true->a=b
 |[],b,h=>by grind[vD]
 |⟨k,v,n⟩::xs,b,h=>by
  cases b with
  |nil=>simp[vD]at h
  |cons y ys=>
   simp[vD]at h
   rw[SV.beq_eq _ _ h.1,SV.beq_eq _ _ h.2.1,E.beq_eq h.2.2.1,adw xs ys h.2.2.2]
theorem aFc:∀ {a b:Option E},adp a b=true->a=b
 |none,none,_=>rfl
 |some a,some b,h=>by rw[E.beq_eq (show a.beq b=true from h)]
 |none,some _,h=>by cases h
 |some _,none,h=>by cases h
theorem VK.beq_eq:∀(x y:VK),x.beq y=true->x=y
 |.one c,.one d,h=>by rw[CK.beq_eq c d h]
 |.row a,.row b,h=>by rw[kL a b h]
 |.one _,.row _,h=>by cases h
 |.row _,.one _,h=>by cases h
theorem SObj.beq_eq{x y:SObj}(h:x.beq y=true):x=y:=by
 cases x<;>cases y<;>simp[SObj.beq]at h;all_goals grind[E.beq_eq,SV.beqs_eq,kL,adw,gJ,VK.beq_eq,aFc]
theorem Blk.beq_eq{x y:Blk}(h:x.beq y=true):x=y:=by
 cases x;cases y;grind[Blk.beq,pA,SObj.beq_eq]
theorem T.beq_eq{G:Type}{f:G->G->Bool}(hf:∀x y,f x y=true->x=y):∀(a b:T G),T.beq f a b=true->a=b
 |.nil,b,h=>by grind[T.beq]
 |.node v l r,b,h=>by
  cases b with
  |nil=>simp[T.beq]at h
  |node v' l' r'=>
   simp[T.beq]at h
   rw[hf _ _ h.1.1,T.beq_eq hf l l' h.1.2,T.beq_eq hf r r' h.2]
theorem adB:∀(a b:List E),vG a b=true->a=b
 |[],b,h=>by grind[vG]
 |x::xs,b,h=>by
  cases b with
  |nil=>simp[vG]at h
  |cons y ys=>simp[vG]at h;rw[E.beq_eq h.1,adB xs ys h.2]
theorem St.beq_eq{a b:St}(h:a.beq b=true):a=b:=by
 cases a;cases b;simp[St.beq]at h;grind[adB,T.beq_eq,Blk.beq_eq]
theorem Node.beq_eq{a b:Node}(h:a.beq b=true):a=b:=by
 cases a;cases b;simp[Node.beq]at h;grind[T.beq_eq,SV.beq_eq,St.beq_eq]
theorem aaF:∀(l:List Node)(x:Node),yO l x=true->x∈l
 |[],x,h=>by simp[yO]at h
 |y::ys,x,h=>by
  simp only[yO]at h;split at h
  ·grind[Node.beq_eq]
  ·exact List.mem_cons_of_mem _ (aaF ys x h)
theorem Blk.same_eq{x y:Blk}(h:x.same y=true):x=y/\∀k c e n u,x.obj≠.iter k c e n u:=by
 grind[Blk.same,Blk.beq_eq]
theorem Lk:∀(a b:T Blk),oz a b=true->∀(i:Nat)(x:Blk),a.get i=some x->b.get i=some x/\∀k c e n u,x.obj≠.iter k c e n u
 |.nil,_,_,i,x,hx=>by cases hx
 |.node v l r,.nil,h,i,x,hx=>by simp[oz]at h
 |.node v l r,.node v' l' r',h,i,x,hx=>by
  simp only[oz]at h;split at h
  ·rename_i h1;split at h
   ·rename_i h2;cases i with
    |zero=>
     rw[T.get_zero]at hx ⊢
     simp only[Option.some.injEq]at hx;subst hx
     rw[<- (Blk.same_eq h1).1];exact⟨rfl,(Blk.same_eq h1).2⟩
    |succ i=>
     rw[T.get_succ]at hx ⊢
     split at hx
     ·rename_i hi;rw[if_pos hi];exact Lk l l' h2 _ _ hx
     ·rename_i hi;rw[if_neg hi];exact Lk r r' h _ _ hx
   ·cases h
  ·cases h
theorem aFN{fz fz':Nat->Option Obj}{w w':World}{ks:List CK}:∀ {u:U},rowN fz' w' ks u->rowN fz w ks u->rowN fz w' ks u
 |.bx none _ _ _,h,_=>h
 |.bx (some _) _ 0 _,h,_=>h
 |.bx (some _) _ (_+1) _,h,h0=>by
  obtain⟨h1,h2,h3,arr,el,h4,h5,h6⟩:=h
  obtain⟨_,_,_,arr0,el0,_,_,g6⟩:=h0
  refine⟨h1,h2,h3,arr,el,h4,h5,fun i u hu=>?_⟩
  obtain⟨c,s1,s2,_⟩:=h6 i u hu
  obtain⟨c',t1,_,t3⟩:=g6 i u hu
  grind
 |.int _,h,_=>h
 |.bool _,h,_=>h
 |.str _,h,_=>h
 |.lst _,h,_=>h
theorem RepW.back{B:Base}{ρ ρ':Env}{st st':St}{w w':World}(h:RepW B ρ st w)(h':RepW B ρ' st' w')(he:ρ.Ext ρ')(hs:st.scp=true)(hin:oz st.heap st'.heap=true):RepW B ρ st w':=by
 refine⟨h.nv,h.nb,h.pc,?_,h.inj,h.inn,fun r o hro=>h'.fz r o (he.fz r o hro),h'.fr,h.dj,h'.os,h'.tape,h'.output⟩
 intro i b hb
 obtain⟨k1,k2,k3⟩:=h.blk i b hb
 obtain⟨hin1,hin'⟩:=Lk _ _ hin i b hb
 have h2:=(h'.blk i b hin1).2.1;have hlt:i<ρ.bs.length:=by rw[h.nb];omega
 rw[he.blk hlt,he.off hlt,he.nil hlt]at h2
 refine⟨k1,?_,k3⟩
 have hsc':=h.blk_scp hs hb;cases ho:b.obj with
 |gone=>trivial
 |cells cs af elem=>
  rw[ho]at h2 hsc' k2
  obtain⟨g1,g2,g3,_⟩:=k2
  obtain⟨_,_,_,arr,j1,j2,j3⟩:=h2
  simp only[SObj.scp,Bool.and_eq_true]at hsc'
  refine⟨g1,g2,g3,arr,j1,by grind[E.scoped_I],fun j v hv=>?_⟩
  grind[SV.scoped_den,zx,List.mem_of_getElem?]
 |flat ks l n af elem=>
  rw[ho]at h2 hsc' k2
  obtain⟨g1,g2,g3,g4,g5⟩:=k2
  obtain⟨_,_,_,_,j5⟩:=h2
  simp only[SObj.scp,Bool.and_eq_true]at hsc'
  rw[E.scoped_L he hsc'.1,E.scoped_I he hsc'.2.2]at j5
  refine⟨g1,g2,g3,g4,fun hp=>?_⟩
  obtain⟨q1,q2,arr0,q3,q4,q5⟩:=g5 hp
  obtain⟨_,_,arr,r3,r4,r5⟩:=j5 hp
  refine⟨q1,q2,arr,r3,fun i u hu=>?_,r5⟩
  obtain⟨c,s1,s2,_⟩:=r4 i u hu
  obtain⟨c',t1,_,t3⟩:=q4 i u hu
  simp_all
 |map es clk=>
  rw[ho]at h2 hsc' k2
  obtain⟨en0,clock0,_,_,g3,_⟩:=k2
  obtain⟨en,clock,j1,j2,j3,j4,j5⟩:=h2
  simp only[SObj.scp]at hsc'
  refine⟨en,clock,j1,by grind[E.scoped_I],⟨j3.1,fun i e x hi hx=>?_⟩,j4,j5⟩
  obtain⟨s1,s2,s3,_⟩:=j3.2 i e x hi hx
  have hlt:i<en0.size:=by
   rw[g3.1];grind
  obtain⟨_,_,_,t4,t5⟩:=g3.2 i _ x (Array.getElem?_eq_getElem hlt) hx
  grind[zw,SV.scoped_den,E.scoped_I]
 |mapl k c e=>
  rw[ho]at h2 hsc' k2
  obtain⟨en0,clock0,_,g3,_⟩:=k2
  obtain⟨en,clock,j1,j3,j4⟩:=h2
  rw[E.scoped_L he hsc']at j3
  refine⟨en,clock,j1,⟨j3.1,fun i e' u hi hu=>?_⟩,j4⟩
  obtain⟨s1,s2,_⟩:=j3.2 i e' u hi hu
  have hlt:i<en0.size:=by
   rw[g3.1];grind
  exact⟨s1,s2,(g3.2 i _ u (Array.getElem?_eq_getElem hlt) hu).2.2⟩
 |maplp k c e ke s=>
  rw[ho]at h2 hsc' k2
  obtain⟨en0,clock0,_,g3,_⟩:=k2
  obtain⟨en,clock,j1,j3,j4,j,e1,j5,j6,j7,j8⟩:=h2
  simp only[SObj.scp,Bool.and_eq_true]at hsc'
  rw[E.scoped_L he hsc'.1]at j3 j8
  rw[E.scoped_I he hsc'.2.1]at j6 j8
  rw[E.scoped_I he hsc'.2.2]at j7
  refine⟨en,clock,j1,⟨j3.1,fun i e' u hi hu=>?_⟩,j4,j,e1,j5,j6,j7,j8⟩
  obtain⟨s1,s2,_⟩:=j3.2 i e' u hi hu
  have hlt:i<en0.size:=by
   rw[g3.1];grind
  exact⟨s1,s2,(g3.2 i _ u (Array.getElem?_eq_getElem hlt) hu).2.2⟩
 |iter k c e n u=>grind
 |nest ks l n af elem own=>
  rw[ho]at h2 hsc' k2
  obtain⟨g1,g2,g3,g4,g6,g5⟩:=k2
  obtain⟨_,_,_,_,_,j5⟩:=h2
  simp only[SObj.scp,Bool.and_eq_true]at hsc'
  rw[E.scoped_L he hsc'.1,E.scoped_I he hsc'.2.2.1,E.scoped_I he hsc'.2.2.2]at j5
  refine⟨g1,g2,g3,g4,g6,fun hp=>?_⟩
  obtain⟨q1,q2,arr0,q3,q4,q5⟩:=g5 hp
  obtain⟨_,_,arr,r3,r4,r5⟩:=j5 hp
  refine⟨q1,q2,arr,r3,fun i u hu=>?_,r5⟩
  obtain⟨c,s1,s2,s3⟩:=r4 i u hu
  obtain⟨c',t1,_,t3⟩:=q4 i u hu
  rw[s1]at t1
  simp only[Option.some.injEq]at t1;subst t1
  refine⟨c,s1,s2,?_⟩
  cases c with
  |slc ks'=>exact⟨fun hlo=>aFN (s3.1 hlo) (t3.1 hlo),t3.2⟩
  |_=>trivial
theorem RepW.drew{B:Base}{ρ:Env}{st:St}{w:World}(h:RepW B ρ st w):RepW B ρ st {w with drawn:=w.drawn+1}:=by
 refine⟨h.nv,h.nb,h.pc,?_,h.inj,h.inn,h.fz,h.fr,h.dj,h.os,h.tape,h.output⟩
 intro i b hb
 obtain⟨k1,k2,k3⟩:=h.blk i b hb
 refine⟨k1,?_,k3⟩
 cases ho:b.obj with
 |gone=>trivial
 |cells cs af elem=>
  rw[ho]at k2
  exact k2
 |flat ks l n af elem=>
  rw[ho]at k2
  exact k2
 |map es clk=>
  rw[ho]at k2
  exact k2
 |mapl k c e=>
  rw[ho]at k2
  exact k2
 |maplp k c e ke s=>
  rw[ho]at k2
  exact k2
 |iter k c e n u=>
  rw[ho]at k2
  exact k2
 |nest ks l n af elem=>
  rw[ho]at k2
  exact k2.world (fun _=>rfl) (fun _ _=>rfl)
end Go.SX

namespace Go.SX
def Sub.env(z:Sub)(ρ:Env):Env:=⟨ρ.vs.take z.n0++z.es.map (E.den ρ),ρ.bs.take z.b0++z.bs.map (fun b=>ρ.bs.getD b ⟨0,0,none⟩),ρ.fz⟩
section
variable {z:Sub} {ρ:Env} (hn:z.n0<=ρ.vs.length) (hb:z.b0<=ρ.bs.length)
include hn
theorem aIi(i:Nat)(hi:i<z.n0+z.es.length):(NG z.n0 z.es i).den ρ=(z.env ρ).vs.getD i (.int 0):=by
 grind[NG,eA,E.den,Sub.env,ee]
omit hn in
theorem aE3:∀(l:E)(n:Nat)(e:E),EQ l n=some e->e.den ρ=(l.den ρ).toL.getD n (.int 0):=by
 intro l n;fun_induction EQ l n with
 |case1 x r=>intro e h;simp only[Option.some.injEq]at h;subst h;rfl
 |case2 x r n ih=>intro e h;rw[ih e h];rfl
 |case3=>grind
omit hn in
theorem aIg(f:Nat)(a:E):(F8 f a).den ρ=sn f (a.den ρ):=by
 unfold F8;split
 ·rw[ED];rfl
 ·split<;>rfl
 ·split<;>rfl
 ·split
  ·split
   ·rename_i l n _ e he
    have:=aE3 (ρ:=ρ) l n e he
    simp_all[E.den,sn,wa,Nat.blt,U.fst,U.snd,U.toI]
   rfl
  rfl
 rfl
omit hn in
theorem aIh(a:E):(F9 a).den ρ=.bool (!(a.den ρ).toB):=by
 unfold F9;split<;>rfl
omit hn in
theorem aEF(o:BinOp)(k:IntKind)(a b:E):(jl o k a b).den ρ=.int (mz o k (a.I ρ) (b.I ρ)):=by
 unfold jl;split<;>rfl
omit hn in
theorem aEG(o:BinOp)(a b:E):(aN o a b).den ρ=.bool (cK o (a.I ρ) (b.I ρ)):=by
 have h:=eM ρ o a b;have hsh:∃x,(aN o a b).den ρ=.bool x:=by
  unfold aN;repeat' split
  all_goals exact⟨_,rfl⟩
 grind[E.B,U.toB]
omit hn in
theorem aEI(a b:E):(sJ a b).den ρ=.int (oG (a.I ρ) (b.I ρ)):=by
 unfold sJ;split<;>rfl
omit hn in
theorem aEK(a b:E):(oH a b).den ρ=.int (lS (a.I ρ) (b.I ρ)):=by
 unfold oH;split<;>rfl
omit hn in
theorem aEO(k:IntKind)(a:E):(sK k a).den ρ=.int (k.wrap (a.I ρ)):=by
 unfold sK;split<;>rfl
omit hn in
theorem aEM(a b:E):(mS a b).den ρ=.bool (kA (a.S ρ) (b.S ρ)):=by
 unfold mS;split<;>rfl
theorem E.sub_den:∀(e:E),e.scp (z.n0+z.es.length)=true->(e.sub z.n0 z.es).den ρ=e.den (z.env ρ):=by
 intro e;have bin:∀ {a b:E},Bool.rec false (b.scp (z.n0+z.es.length)) (a.scp (z.n0+z.es.length))=true->a.scp (z.n0+z.es.length)=true/\b.scp (z.n0+z.es.length)=true:=by
  simp_all[cS]
 induction e with
 |int n=>intro _;rfl
 |bool b=>intro _;rfl
 |str s=>intro _;rfl
 |var i=>
  intro hs;have hs':Nat.blt i _=true:=hs
  rw[eA]at hs'
  exact aIi hn i hs'
 |ar o k a b ia ib=>intro hs;obtain⟨h1,h2⟩:=bin hs;grind[E.sub_eq_ar,aEF,E.I,E.den]
 |cmp o a b ia ib=>intro hs;obtain⟨h1,h2⟩:=bin hs;grind[E.sub_eq_cmp,aEG,E.I,E.den]
 |mn a b ia ib=>intro hs;obtain⟨h1,h2⟩:=bin hs;grind[E.sub_eq_mn,aEI,E.I,E.den]
 |mx a b ia ib=>intro hs;obtain⟨h1,h2⟩:=bin hs;grind[E.sub_eq_mx,aEK,E.I,E.den]
 |wr k a ia=>intro hs;have h1:a.scp _=true:=hs;grind[E.sub_eq_wr,aEO,E.I,E.den]
 |not a ia=>intro hs;have h1:a.scp _=true:=hs;grind[E.sub_eq_not,aIh,E.den]
 |and a b ia ib=>intro hs;obtain⟨h1,h2⟩:=bin hs;grind[E.sub_eq_and,E.den]
 |seq a b ia ib=>intro hs;obtain⟨h1,h2⟩:=bin hs;grind[E.sub_eq_seq,aEM,E.S,E.den]
 |iff a b ia ib=>intro hs;obtain⟨h1,h2⟩:=bin hs;grind[E.sub_eq_iff,E.den]
 |imp a b ia ib=>intro hs;obtain⟨h1,h2⟩:=bin hs;grind[E.sub_eq_imp,E.den]
 |fn f a ia=>intro hs;have h1:a.scp _=true:=hs;grind[E.sub_eq_fn,aIg,E.den]
 |pr a b ia ib=>intro hs;obtain⟨h1,h2⟩:=bin hs;grind[E.sub_eq_pr,E.den]
omit hn in
include hb in
theorem F7(i:Nat)(hi:i<z.b0+z.bs.length):(z.env ρ).bs.getD i ⟨0,0,none⟩=ρ.bs.getD (cw z.b0 z.bs i) ⟨0,0,none⟩:=by
 grind[cw,eA,Sub.env,ee]
include hb
omit hn in
theorem lL(i:Nat)(hi:i<z.b0+z.bs.length):(z.env ρ).blk i=ρ.blk (cw z.b0 z.bs i):=by grind[Env.blk,F7]
omit hn in
theorem Dg(i:Nat)(hi:i<z.b0+z.bs.length):(z.env ρ).off i=ρ.off (cw z.b0 z.bs i):=by grind[Env.off,F7]
omit hn in
theorem ZD(i:Nat)(hi:i<z.b0+z.bs.length):(z.env ρ).nil i=ρ.nil (cw z.b0 z.bs i):=by grind[Env.nil,F7]
omit hn in
theorem aC2(i:Nat)(hi:i<z.b0+z.bs.length):(z.env ρ).base i=ρ.base (cw z.b0 z.bs i):=by
 grind[Env.base,F7]
omit hb in
theorem E.sub_I{e:E}(h:e.scp (z.n0+z.es.length)=true):(e.sub z.n0 z.es).I ρ=e.I (z.env ρ):=by grind[E.I,E.sub_den]
omit hb in
theorem E.sub_B{e:E}(h:e.scp (z.n0+z.es.length)=true):(e.sub z.n0 z.es).B ρ=e.B (z.env ρ):=by grind[E.B,E.sub_den]
omit hb in
theorem E.sub_S{e:E}(h:e.scp (z.n0+z.es.length)=true):(e.sub z.n0 z.es).S ρ=e.S (z.env ρ):=by grind[E.S,E.sub_den]
omit hb in
theorem E.sub_L{e:E}(h:e.scp (z.n0+z.es.length)=true):(e.sub z.n0 z.es).L ρ=e.L (z.env ρ):=by grind[E.L,E.sub_den]
omit hb in
theorem Off.sub_den{o:Off}(h:o.idx.scp (z.n0+z.es.length)=true):(o.sub z.n0 z.es).den ρ=o.den (z.env ρ):=by
 grind[Off.sub,Off.den,E.sub_I]
mutual
theorem SV.sub_den:∀(v:SV),v.scp (z.n0+z.es.length) (z.b0+z.bs.length)=true->(v.sub z).den ρ=v.den (z.env ρ)
 |.int k e,hs=>by have hs':e.scp _=true:=hs;grind[SV.sub,SV.den,E.sub_I]
 |.bool e,hs=>by have hs':e.scp _=true:=hs;grind[SV.sub,SV.den,E.sub_B]
 |.str e,hs=>by have hs':e.scp _=true:=hs;grind[SV.sub,SV.den,E.sub_S]
 |.nilp,_=>rfl
 |.nils,_=>rfl
 |.nilm,_=>rfl
 |.nili,_=>rfl
 |.nilf,_=>rfl
 |.junk,_=>rfl
 |.ptr b o,hs=>by
  have hs':Bool.rec _ _ _=true:=hs
  rw[cS,Bool.and_eq_true,eA]at hs'
  grind[SV.sub,SV.den,lL,Dg,Off.sub_den]
 |.slice b o l c,hs=>by
  have hs':Bool.rec _ _ _=true:=hs
  rw[cS,cS,cS,Bool.and_eq_true,Bool.and_eq_true,Bool.and_eq_true,eA]at hs'
  grind[SV.sub,SV.den,lL,Dg,Off.sub_den,E.sub_I]
 |.nslice b l c,hs=>by
  have hs':Bool.rec _ _ _=true:=hs;simp_all[cS,SV.sub,SV.den,aC2,E.sub_I]
 |.bsl ks e,hs=>by
  have hs':e.scp _=true:=hs;grind[SV.sub,SV.den,E.sub_den]
 |.bptr ks e i j,hs=>by
  have hs':Bool.rec _ _ _=true:=hs;simp_all[cS,SV.sub,SV.den,E.sub_den,E.sub_I]
 |.nsl b ks e i c,hs=>by
  have hs':Bool.rec _ _ _=true:=hs;simp_all[cS,SV.sub,SV.den,E.sub_den]
 |.nptr b ks e i c x j,hs=>by
  have hs':Bool.rec _ _ _=true:=hs;simp_all[cS,SV.sub,SV.den,E.sub_den,E.sub_I]
 |.map b,hs=>by
  have hs':Nat.blt b _=true:=hs;grind[eA,SV.sub,SV.den,lL]
 |.func fn a b,hs=>by
  rw[SV.scoped_func,Bool.and_eq_true]at hs
  simp[SV.sub,SV.den,SV.subs_den a hs.1,SV.subs_den b hs.2]
 |.agg cs,hs=>by
  rw[SV.scoped_agg]at hs
  simp[SV.sub,SV.den,SV.subs_den cs hs]
 |.tup cs,hs=>by
  rw[SV.scoped_tup]at hs
  simp[SV.sub,SV.den,SV.subs_den cs hs]
theorem SV.subs_den:∀(l:List SV),SV.scps (z.n0+z.es.length) (z.b0+z.bs.length) l=true->SV.dens ρ (SV.subs z l)=SV.dens (z.env ρ) l
 |[],_=>rfl
 |v::l,hs=>by
  rw[SV.scopeds_cons,Bool.and_eq_true]at hs
  simp[SV.subs,SV.dens,SV.sub_den v hs.1,SV.subs_den l hs.2]
end
mutual
theorem SV.sub_ok:∀(v:SV),v.scp (z.n0+z.es.length) (z.b0+z.bs.length)=true->((v.sub z).ok ρ↔v.ok (z.env ρ))
 |.int k e,_=>by rfl
 |.bool e,_=>by rfl
 |.str e,_=>by rfl
 |.nilp,_=>by rfl
 |.nils,_=>by rfl
 |.nilm,_=>by rfl
 |.nili,_=>by rfl
 |.nilf,_=>by rfl
 |.junk,_=>by rfl
 |.ptr b o,_=>by rfl
 |.slice b o l c,_=>by rfl
 |.nslice b l c,_=>by rfl
 |.map b,_=>by rfl
 |.bsl ks e,hs=>by
  have hs':=hs;simp only[SV.sub,SV.ok]
  rw[E.sub_den hn e hs']
  rfl
 |.bptr ks e i j,hs=>by
  have hs':Bool.rec _ _ _=true:=hs
  rw[cS,Bool.and_eq_true]at hs'
  simp only[SV.sub,SV.ok]
  rw[E.sub_den hn e hs'.1,E.sub_I hn hs'.2,E.sub_L hn hs'.1]
  rfl
 |.nsl b ks e i c,_=>by rfl
 |.nptr b ks e i c x j,hs=>by
  have hs':Bool.rec _ _ _=true:=hs;simp_all[cS,SV.sub,SV.ok,E.sub_den,E.sub_I]
 |.func fn a b,hs=>by
  rw[SV.scoped_func,Bool.and_eq_true]at hs
  simp only[SV.sub,SV.ok]
  rw[SV.subs_ok a hs.1,SV.subs_ok b hs.2]
 |.agg cs,hs=>by
  rw[SV.scoped_agg]at hs
  simp only[SV.sub,SV.ok]
  rw[SV.subs_ok cs hs]
 |.tup cs,hs=>by
  rw[SV.scoped_tup]at hs
  simp only[SV.sub,SV.ok]
  rw[SV.subs_ok cs hs]
theorem SV.subs_ok:∀(l:List SV),SV.scps (z.n0+z.es.length) (z.b0+z.bs.length) l=true->(SV.oks ρ (SV.subs z l)↔SV.oks (z.env ρ) l)
 |[],_=>Iff.rfl
 |v::l,hs=>by
  rw[SV.scopeds_cons,Bool.and_eq_true]at hs
  simp only[SV.subs,SV.oks]
  rw[SV.sub_ok v hs.1,SV.subs_ok l hs.2]
end
omit hn hb in
theorem MG(z:Sub):∀(es:List Ent)(i:Nat),(vE z es)[i]?=es[i]?.map (fun x=>⟨x.k.sub z,x.v.sub z,x.born.sub z.n0 z.es⟩)
 |[],i=>by rfl
 |x::es,0=>by rfl
 |x::es,i+1=>by simp[vE,MG z es i]
omit hn hb in
theorem MH(z:Sub):∀(es:List Ent),(vE z es).length=es.length
 |[]=>rfl
 |x::es=>by simp[vE,MH z es]
theorem SObj.sub_real{o:SObj}(hs:o.scp (z.n0+z.es.length) (z.b0+z.bs.length)=true):(o.sub z).real ρ↔o.real (z.env ρ):=by
 cases o with
 |flat ks l n af elem=>
  simp_all[SObj.scp,SObj.sub,SObj.real,E.sub_I]
 |nest ks l n af elem own=>
  simp_all[SObj.scp,SObj.sub,SObj.real,E.sub_I]
 |_=>rfl
theorem SObj.sub_inner{o:SObj}(hs:o.scp (z.n0+z.es.length) (z.b0+z.bs.length)=true){r:Nat}:(o.sub z).inner ρ r↔o.inner (z.env ρ) r:=by
 cases o with
 |nest ks l n af elem own=>
  simp_all[SObj.scp,SObj.sub,SObj.inner,E.sub_L,E.sub_I]
 |_=>rfl
theorem SObj.sub_rep{w:World}{r off:Nat}{nil:Bool}{o:SObj}(hs:o.scp (z.n0+z.es.length) (z.b0+z.bs.length)=true)(h:blkRep ρ w r off nil (o.sub z)):blkRep (z.env ρ) w r off nil o:=by
 cases o with
 |gone=>trivial
 |cells cs af elem=>
  simp only[SObj.scp,Bool.and_eq_true]at hs
  obtain⟨hnl,h0,hk,arr,h1,h2,h3⟩:=h
  rw[E.sub_I hn hs.1]at h2
  refine⟨hnl,h0,(SV.subs_ok hn hb cs hs.2).1 hk,arr,h1,h2,fun j v hv=>?_⟩
  have hd:=SV.subs_den (ρ:=ρ) hn hb cs hs.2;have hv':(SV.dens (z.env ρ) cs)[j]?=some (v.den (z.env ρ)):=by grind[SV.dens_eq]
  grind[SV.dens_eq]
 |flat ks l n af elem=>
  simp only[SObj.scp,Bool.and_eq_true]at hs
  obtain⟨h1,h2,h3,h4,h5⟩:=h
  rw[E.sub_L hn hs.1,E.sub_I hn hs.2.1]at h2
  rw[E.sub_I hn hs.2.1,E.sub_I hn hs.2.2]at h3
  rw[E.sub_I hn hs.2.1]at h4
  rw[E.sub_I hn hs.2.2,E.sub_L hn hs.1]at h5
  exact⟨h1,h2,h3,h4,h5⟩
 |nest ks l n af elem own=>
  simp only[SObj.scp,Bool.and_eq_true]at hs
  obtain⟨h1,h2,h3,h4,h6,h5⟩:=h
  rw[E.sub_L hn hs.1,E.sub_I hn hs.2.1]at h2
  rw[E.sub_I hn hs.2.1,E.sub_I hn hs.2.2.1]at h3
  rw[E.sub_I hn hs.2.1]at h4
  rw[E.sub_I hn hs.2.2.1,E.sub_L hn hs.1,E.sub_I hn hs.2.2.2]at h5
  rw[E.sub_L hn hs.1,E.sub_I hn hs.2.2.2]at h6
  exact⟨h1,h2,h3,h4,h6,h5⟩
 |map es clk=>
  simp only[SObj.scp,Bool.and_eq_true]at hs
  obtain⟨en,clock,h1,h2,h3,h4,h5⟩:=h
  rw[E.sub_I hn hs.2]at h2
  refine⟨en,clock,h1,h2,⟨by rw[h3.1,MH],fun i e x he hx=>?_⟩,h4,h5⟩
  obtain⟨k1,k2,k3,k4,k5⟩:=h3.2 i e _ he (by rw[MG,hx];rfl)
  grind[zw,SV.sub_den,E.sub_I,SV.sub_ok]
 |mapl k c e=>
  obtain⟨en,clock,h1,h2,h3⟩:=h
  rw[E.sub_L hn hs]at h2
  exact⟨en,clock,h1,h2,h3⟩
 |maplp k c e ke s=>
  simp only[SObj.scp,Bool.and_eq_true]at hs
  obtain⟨en,clock,h1,h2,h3,j,e1,h4,h5,h6,h7⟩:=h
  rw[E.sub_L hn hs.1]at h2 h7
  rw[E.sub_I hn hs.2.1]at h5 h7
  rw[E.sub_I hn hs.2.2]at h6
  exact⟨en,clock,h1,h2,h3,j,e1,h4,h5,h6,h7⟩
 |iter k c e n u=>
  simp only[SObj.scp,Bool.and_eq_true]at hs
  obtain⟨h0,h1,h2⟩:=h
  rw[E.sub_L hn hs.1,E.sub_I hn hs.2.1]at h1
  refine⟨h0,h1,fun x hx=>?_⟩
  subst hx
  have:=h2 _ rfl
  rw[E.sub_L hn hs.1,E.sub_I hn hs.2.2]at this
  exact this
end
theorem ZC{k:IntKind}{c:VK}{ρ:Env}:∀(es:List Ent)(l:List E),yw k c es=some l->l.length=es.length/\
  ∀(i:Nat)(x:Ent),es[i]?=some x->x.k.ok ρ->x.v.ok ρ->∃a,l[i]?=some a/\x.k.den ρ=.int k (a.den ρ).fst.toI/\x.v.den ρ=c.val (a.den ρ).snd/\c.ok ρ.fz (a.den ρ).snd
 |[],l,h=>by
  simp only[yw,Option.some.injEq]at h;subst h
  exact⟨rfl,fun i x hx=>by simp at hx⟩
 |x::es,l,h=>by
  simp only[yw]at h;split at h
  ·rename_i k' ke hxk;split at h
   ·rename_i ve hk hv;have hk':=gJ hk;split at h
    ·rename_i l' hl';simp only[Option.some.injEq]at h;subst h
     obtain⟨h1,h2⟩:=ZC es l' hl'
     refine⟨by grind,fun i y hy hok hov=>?_⟩
     cases i with
     |zero=>
      simp only[List.getElem?_cons_zero,Option.some.injEq]at hy;subst hy
      obtain⟨g1,_,g3⟩:=yK hv hov
      exact⟨_,rfl,by rw[hxk,<- hk'];rfl,g1,g3⟩
     |succ i=>exact h2 i y (by grind) hok hov
    grind
   grind
  grind
theorem Y1{ks:List CK}{ρ:Env}:∀(cs:List SV)(r:List CK)(p:Nat)(l:List E),p<=ks.length->r=ks.drop p->ye ks cs r=some l->l.length=cs.length/\
  ∀(i:Nat)(x:SV),cs[i]?=some x->x.ok ρ->∃a c,l[i]?=some a/\ks[(p+i)%ks.length]?=some c/\x.den ρ=c.val (a.den ρ)/\c.ok ρ.fz (a.den ρ)
 |[],r,p,l,hp,hr,h=>by
  simp only[ye,Option.some.injEq]at h;subst h
  exact⟨rfl,fun i x hx=>by simp at hx⟩
 |x::cs,r,p,l,hp,hr,h=>by
  simp only[ye]at h
  obtain⟨q,hq,hq2,hq3⟩:∃q,Mo ks r=ks.drop q/\(ks≠[]->q<ks.length)/\(ks≠[]->(p+0)%ks.length=q):=by
   cases hd:ks.drop p with
   |nil=>
    rw[hr,hd]
    refine⟨0,rfl,fun hne=>List.length_pos_iff.2 hne,fun hne=>?_⟩
    have:=List.drop_eq_nil_iff.1 hd
    have:p=ks.length:=by omega
    simp_all
   |cons a as=>
    rw[hr,hd]
    have hlt:p<ks.length:=by
     grind
    exact⟨p,hd.symm,fun _=>hlt,fun _=>by grind[Nat.mod_eq_of_lt]⟩
  rw[hq]at h
  split at h
  ·cases h
  ·rename_i c hcr0
   obtain⟨r',hcr⟩:∃r',ks.drop q=c::r':=by
    cases hq0:ks.drop q with
    |nil=>rw[hq0]at hcr0;cases hcr0
    |cons a as=>rw[hq0]at hcr0;simp only[aaI,Option.some.injEq]at hcr0;subst hcr0;exact⟨as,rfl⟩
   rw[hcr]at h
   have hne:ks≠[]:=by grind
   have hlt:=hq2 hne
   rw[List.drop_eq_getElem_cons hlt]at hcr
   obtain⟨rfl,rfl⟩:=hcr
   split at h
   ·split at h
    ·rename_i l' hl';simp only[Option.some.injEq]at h;subst h
     obtain⟨h1,h2⟩:=Y1 cs _ _ l' (by omega) rfl hl'
     refine⟨by grind,fun i y hy hok=>?_⟩
     cases i with
     |zero=>
      grind[uJ]
     |succ i=>
      obtain⟨a,c,k1,k2,k3⟩:=h2 i y (by simp_all) hok
      have e1:(p+(i+1))%ks.length=((p%ks.length)+1+i)%ks.length:=by
       rw[Nat.add_assoc,Nat.add_comm 1 i,Nat.mod_add_mod]
      simp_all
    grind
   grind
theorem afP{w:Nat}{af t:E}{ρ:Env}(h:NX w af=some t):af.I ρ=t.I ρ*w:=by
 unfold NX at h;split at h
 ·grind
 ·split at h
  ·split at h
   ·rename_i c m hm
    have:=Nat.eq_of_beq_eq_true hm;subst this
    simp only[Option.some.injEq]at h;subst h;rfl
   grind
  ·split at h;all_goals grind[Nat.eq_of_beq_eq_true,E.I_int]
  grind
theorem SV.oks_at{ρ:Env}:∀ {cs:List SV} {i:Nat} {v:SV},SV.oks ρ cs->cs[i]?=some v->v.ok ρ
 |[],i,v,_,h=>by grind
 |x::xs,0,v,hk,h=>by simp only[List.getElem?_cons_zero,Option.some.injEq]at h;subst h;exact hk.1
 |x::xs,i+1,v,hk,h=>SV.oks_at hk.2 (by simpa using h)
def ObjTo(x x':SObj):Prop:=∀(ρ:Env),(∀(w:World)(r off:Nat)(nil:Bool),blkRep ρ w r off nil x->blkRep ρ w r off nil x'/\(x'.real ρ->x.real ρ))
theorem ObjTo.refl(x:SObj):ObjTo x x:=fun _ _ _ _ _ h=>⟨h,id⟩
theorem ac6{ks:List CK}{a b:E}{ρ:Env}{i r:Nat}{o:Int}:¬gv ks o ((E.fn 5 (.pr a (.fn 30 b))).L ρ) i r:=by
 rintro⟨u,ks',hu,_,ho,_⟩
 have hL:(E.fn 5 (.pr a (.fn 30 b))).L ρ=List.replicate _ (.bx _ 0 0 []):=rfl;grind[gN]
theorem agk{ks:List CK}{L:List U}{ρ:Env}{i r:Nat}{n:Nat}:¬gv ks ((E.int 0).I ρ*n) L i r:=by
 rintro⟨u,ks',hu,_,_,ho⟩
 have e:(E.int 0).I ρ=0:=rfl
 rw[e,Int.zero_mul]at ho
 omega
theorem adg{p x x':SObj}(h:vu p x=some x')(ρ:Env)(r:Nat):x'.inner ρ r->x.inner ρ r:=by
 unfold vu at h;repeat' split at h
 all_goals first
  |(cases h;done)
  |(simp only[Option.some.injEq]at h;subst h;first | (intro h;exact False.elim h) | (rintro⟨i,hi⟩;exact absurd hi ac6) | (rintro⟨i,hi⟩;exact absurd hi agk))
theorem adh{p x x':SObj}(h:vu p x=some x'):ObjTo x x':=by
 intro ρ w r off nil hr;unfold vu at h;split at h
 ·split at h
  ·rename_i es clk;split at h
   ·rename_i l hl;simp only[Option.some.injEq]at h;subst h
    refine⟨?_,id⟩
    obtain⟨entries,clock,h1,h2,h3,h4,h5⟩:=hr
    obtain⟨g1,g2⟩:=ZC (ρ:=ρ) es l hl
    refine⟨entries,clock,h1,⟨?_,fun i e u he hu=>?_⟩,h4,h5⟩
    ·rw[vk,List.length_map,g1,h3.1]
    ·rw[vk,List.getElem?_map]at hu
     have hlt:i<es.length:=by grind
     obtain⟨k1,k2,k3,k4,k5⟩:=h3.2 i e _ he (List.getElem?_eq_getElem hlt)
     obtain⟨a,q1,q2,q3,q4⟩:=g2 i _ (List.getElem?_eq_getElem _) k4 k5
     simp_all
   grind
  grind
 ·split at h
  ·split at h
   ·simp only[Option.some.injEq]at h;subst h
    exact⟨⟨hr.1,hr.2.1,fun x hx=>by grind⟩,id⟩
   grind
  grind
 ·split at h
  ·split at h
   ·split at h
    ·simp only[Option.some.injEq]at h;subst h
     refine⟨?_,id⟩
     obtain⟨h1,h2,h3,h4,h5⟩:=hr
     refine⟨h1,h2,h3,h4,fun i j x hi _=>absurd hi ac6,fun hp=>?_⟩
     obtain⟨q1,q2,arr,q3,q4,q5⟩:=h5 hp
     refine⟨q1,q2,arr,q3,fun i u hu=>?_,q5⟩
     obtain⟨c,s1,s2,s3⟩:=q4 i u hu
     refine⟨c,s1,s2,?_⟩
     have:=List.eq_of_mem_replicate (List.mem_of_getElem? hu)
     subst this;cases c with
     |slc ks2=>exact⟨fun _=>⟨rfl,rfl,rfl⟩,fun _=>s3⟩
     |_=>trivial
    ·simp only[Option.some.injEq]at h;subst h
     refine⟨?_,id⟩
     obtain⟨h1,h2,h3,h4,h5⟩:=hr
     refine⟨h1,h2,h3,h4,fun i j x hi _=>absurd hi agk,fun hp=>?_⟩
     obtain⟨q1,q2,arr,q3,q4,q5⟩:=h5 hp
     refine⟨q1,q2,arr,q3,fun i u hu=>?_,q5⟩
     obtain⟨c,s1,s2,s3⟩:=q4 i u hu
     refine⟨c,s1,s2,?_⟩
     cases c with
     |slc ks2=>
      have e:(E.int 0).I ρ=0:=rfl
      refine⟨fun ho=>?_,fun _=>s3⟩
      rw[e,Int.zero_mul]at ho
      omega
     |_=>trivial
   grind
  grind
 ·rename_i ks l0 n0 t0 e0;split at h
  ·rename_i cs af elem;split at h
   ·rename_i l t hl ht;split at h
    ·split at h
     ·rename_i m;split at h
      ·rename_i hw
       rw[eA,b7]at hw
       simp only[b7]at ht;simp only[Option.some.injEq]at h;subst h
       obtain⟨hnil,hoff,hok,arr,h1,h2,h3⟩:=hr
       have htot:=afP (ρ:=ρ) ht;have hm:(E.int (Int.ofNat m)).I ρ=m:=rfl
       rw[hm]at htot
       have hn:(E.fn 10 (.int 0)).L ρ=[]:=rfl;have h0:(E.int 0).I ρ=0:=rfl
       refine⟨⟨hw,by simp_all,by omega,by omega,fun _=>⟨hnil,hoff,arr,h1,fun i u hu=>by simp_all,?_⟩⟩,fun _=>trivial⟩
       grind[Int.toNat_of_nonneg]
      ·cases h
     ·cases h
    ·split at h
     ·rename_i hdiv;simp only[b7]at hdiv ht;have hdiv':cs.length/ks.length*ks.length=cs.length:=Nat.eq_of_beq_eq_true hdiv;simp only[Option.some.injEq]at h;subst h
      obtain⟨hnil,hoff,hok,arr,h1,h2,h3⟩:=hr
      obtain⟨g1,g2⟩:=Y1 (ρ:=ρ) cs [] _ l (Nat.le_refl _) (by simp) hl
      have hpos:0<cs.length:=by
       grind
      have hw:0<ks.length:=by
       grind
      have hsz:cs.length<=arr.size:=by
       have:=h3 (cs.length-1) _ (List.getElem?_eq_getElem (by omega))
       grind
      have htot:=afP (ρ:=ρ) ht;have htp:arr.size=t.I ρ*ks.length:=by omega
      have hle:cs.length/ks.length<=t.I ρ:=by
       have:(cs.length/ks.length:Nat)*ks.length<=t.I ρ*ks.length:=by
        omega
       simp_all
      refine⟨⟨hw,?_,?_,?_,fun _=>⟨hnil,hoff,arr,h1,?_,htp⟩⟩,fun _=>trivial⟩
      ·rw[vk,List.length_map,g1,b7,b7]
       show cs.length=(cs.length/ks.length:Nat)*(ks.length:Int);omega
      ·rw[b7,b7];exact hle
      ·simp_all
      ·intro i u hu
       rw[vk,List.getElem?_map]at hu
       have hlt:i<cs.length:=by
        grind
       obtain⟨a,c,q1,q2,q3,q4⟩:=g2 i _ (List.getElem?_eq_getElem hlt) (SV.oks_at hok (List.getElem?_eq_getElem hlt))
       simp_all
     ·cases h
   ·cases h
  ·cases h
 grind
theorem SV.sub_junk{z:Sub}{v:SV}(h:v.sub z=.junk):v=.junk:=by cases v<;>simp[SV.sub]at h<;>rfl
theorem Gv{z:Sub}:∀(p t:Tm),nq z p t=true->∀i,(p.get i=none->t.get i=none)/\∀v,p.get i=some v->∃u,t.get i=some u/\v7 z v u=true
 |.nil,.nil,_,i=>by simp[T.get_nil]
 |.nil,.node _ _ _,h,i=>by cases (show false=true from h)
 |.node _ _ _,.nil,h,i=>by cases (show false=true from h)
 |.node p l r,.node v l' r',h,i=>by
  rw[aJG]at h
  split at h
  ·split at h
   ·rename_i h2;cases i with
    |zero=>grind[T.get_zero]
    |succ i=>
     rw[T.get_succ,T.get_succ]
     split
     ·exact Gv l l' h2 _
     ·exact Gv r r' h _
   grind
  grind
theorem aJH{z:Sub}{ρ:Env}(hn:z.n0<=ρ.vs.length)(hb:z.b0<=ρ.bs.length){p t:Tm}{a:Act}(hs:jT (z.n0+z.es.length) (z.b0+z.bs.length) p=true)(h:nq z p t=true)(hT:TmRep ρ t a):TmRep (z.env ρ) p a:=by
 refine⟨hT.1,fun i hi=>hT.2.1 i ((Gv p t h i).1 hi),fun i v hv=>?_⟩
 obtain⟨u,hu,hfit⟩:=(Gv p t h i).2 v hv
 obtain⟨x,h1,h2⟩:=hT.2.2 i u hu
 rw[aF5]at hfit
 split at hfit
 ·grind
 ·have he:=SV.beq_eq _ _ hfit;have hsc:=T.all_get _ hs i v hv;grind[SV.sub_junk,SV.sub_den,SV.sub_ok]
theorem DK{z:Sub}{heap:T Blk}{nb:Nat}:∀(p:T Blk)(a d:Nat),yQ z heap nb p a d=true->∀i b,p.get i=some b->CD z heap nb (a+d*i) b=true
 |.nil,a,d,_,i,b,hb=>by grind[T.get_nil]
 |.node x l r,a,d,h,i,b,hb=>by
  simp only[yQ]at h;split at h
  ·split at h
   ·rename_i h2;cases i with
    |zero=>grind[T.get_zero]
    |succ i=>
     rw[T.get_succ]at hb
     split at hb
     ·have:=DK l _ _ h2 _ _ hb
      have e:Nat.add a d+Nat.add d d*(i/2)=a+d*(i+1):=by
       have h3:i=2*(i/2):=by omega
       grind
      grind
     ·have:=DK r _ _ h _ _ hb
      have e:Nat.add a (Nat.add d d)+Nat.add d d*(i/2)=a+d*(i+1):=by
       have h3:i=2*(i/2)+1:=by omega
       grind
      grind
   grind
  grind
theorem vc:∀(p:T Blk)(a d:Nat)(acc:List Nat)(x:Nat),x∈acc->x∈kN p a d acc
 |.nil,a,d,acc,x,h=>h
 |.node b l r,a,d,acc,x,h=>by
  unfold kN;split
  ·exact vc r _ _ _ _ (vc l _ _ _ _ h)
  ·exact vc r _ _ _ _ (vc l _ _ _ _ (List.mem_cons_of_mem _ h))
theorem pZ:∀(p:T Blk)(a d:Nat)(acc:List Nat)(i:Nat)(b:Blk),p.get i=some b->b.obj≠.gone->(a+d*i)∈kN p a d acc
 |.nil,a,d,acc,i,b,hb,_=>by grind[T.get_nil]
 |.node x l r,a,d,acc,i,b,hb,hl=>by
  have key:∀acc,(a+d*i)∈kN r (Nat.add a (Nat.add d d)) (Nat.add d d) (kN l (Nat.add a d) (Nat.add d d) acc)\/i=0:=by
   intro acc;cases i with
   |zero=>omega
   |succ i=>
    rw[T.get_succ]at hb
    split at hb
    ·have:=pZ l (Nat.add a d) (Nat.add d d) acc _ _ hb hl
     have e:Nat.add a d+Nat.add d d*(i/2)=a+d*(i+1):=by
      have h3:i=2*(i/2):=by omega
      grind
     grind[vc]
    ·have:=pZ r (Nat.add a (Nat.add d d)) (Nat.add d d) (kN l (Nat.add a d) (Nat.add d d) acc) _ _ hb hl
     have e:Nat.add a (Nat.add d d)+Nat.add d d*(i/2)=a+d*(i+1):=by
      simp only[Nat.add_eq];have h4:(d+d)*(i/2)=d*(2*(i/2)):=by grind
      have h5:d*(i+1)=d*(2*(i/2))+d*2:=by rw[<- Nat.mul_add];grind
      omega
     simp_all
  grind[kN,T.get_zero,vc]
theorem aaE{n:Nat}:∀(l:List Nat),DH n l=false->n∉l
 |[],_=>by simp
 |m::ms,h=>by
  simp only[DH]at h;split at h
  ·cases h
  ·have h1:n≠m:=fun e=>by simp_all
   simp[h1,aaE ms h]
theorem Ct{z:Sub}:∀(l:List Nat),Cs (uQ z l)=true->∀i j,i∈l->j∈l->i≠j->cw z.b0 z.bs i≠cw z.b0 z.bs j
 |[],_,i,j,hi,_,_=>by grind
 |x::xs,h,i,j,hi,hj,hij=>by
  simp only[uQ,Cs]at h;split at h
  ·cases h
  ·rename_i hh;have hno:=aaE _ hh;have hmem:∀y,y∈xs->cw z.b0 z.bs y∈uQ z xs:=by
    clear h hh hno hi hj;induction xs with
    |nil=>grind
    |cons u us ih=>
     grind[uQ]
   cases hi with
   |head=>
    grind
   |tail _ hm=>
    cases hj with
    |head=>intro e;exact hno (e▸hmem i hm)
    |tail _ hm'=>exact Ct xs h i j hm hm' hij
theorem MO{fs pc:List E}{z z':Sub}:∀(l:List E),zL fs z pc l=.ok z'->z'=z/\∀e∈l,fe fs pc (e.sub z.n0 z.es)=some true
 |[],h=>by grind[zL]
 |e::es,h=>by
  simp only[zL]at h;split at h
  ·obtain⟨h1,h2⟩:=MO es h
   grind
  grind
theorem aer{nv:Nat}:∀(l:List E),FP nv l=true->∀e∈l,e.scp nv=true
 |[],_,e,he=>by grind
 |x::xs,h,e,he=>by
  simp only[FP]at h;split at h
  ·cases he with
   |head=>omega
   |tail _ hm=>exact aer xs h e hm
  grind
theorem Lc{fs:List E}(hf:∀x∈fs,∀ρ,x.B ρ=true){n0 b0:Nat}{t:Tm}{st:St}{τ:Tmpl}{z:Sub}(h:si fs n0 b0 t st τ=.ok z)(hsc:τ.scp=true)
  {B:Base}{ρ ρ0:Env}{w:World}{a:Act}(hr:RepW B ρ st w)(hT:TmRep ρ t a)(h0:ρ0.Ext ρ)(hn0:ρ0.vs.length=n0)(hb0:ρ0.bs.length=b0):
  z.n0=n0/\z.es.length+n0=τ.st.nv/\ρ0.Ext (z.env ρ)/\RepW B (z.env ρ) τ.st w/\TmRep (z.env ρ) τ.tmps a:=by
 unfold si at h;simp only at h;generalize hz:Li n0 b0 t st τ=y at h;have hy1:y.n0=n0:=by rw[<- hz];rfl
 have hy2:y.b0=b0:=by rw[<- hz];rfl
 split at h
 ·rename_i hchk;split at h
  ·rename_i htm;split at h
   ·rename_i hheap;split at h
    ·rename_i hdiff
     obtain⟨rfl,hpc⟩:=MO _ h
     simp only[Bool.and_eq_true]at hchk;have c1':n0+z.es.length=τ.st.nv:=by simp_all[b7]
     have c2':b0+z.bs.length=τ.st.nb:=by simp_all[Nat.eq_of_beq_eq_true,b7]
     have hn:z.n0<=ρ.vs.length:=by
      obtain⟨l,hl⟩:=h0.vs
      simp_all
     have hb:z.b0<=ρ.bs.length:=by
      obtain⟨l,hl⟩:=h0.bs
      simp_all
     have e1:z.n0+z.es.length=τ.st.nv:=by omega
     have e2:z.b0+z.bs.length=τ.st.nb:=by omega
     simp only[Tmpl.scp,St.scp,Bool.and_eq_true]at hsc
     obtain⟨⟨⟨s1,s2⟩,s3⟩,s4⟩:=hsc
     have hblk:∀i b,τ.st.heap.get i=some b->i<τ.st.nb/\(b.obj≠.gone->∃x,st.heap.get (cw z.b0 z.bs i)=some x/\b.own=x.own/\ObjTo x.obj (b.obj.sub z)/\∀ρ r,(b.obj.sub z).inner ρ r->x.obj.inner ρ r):=by
      intro i b hib
      have:=DK _ _ _ hheap i b hib
      rw[Nat.zero_add,Nat.one_mul]at this
      unfold CD at this;split at this
      ·rename_i hlt
       rw[eA]at hlt
       refine⟨hlt,fun hl=>?_⟩
       split at this
       ·simp_all
       ·split at this
        ·rename_i x hx
         rw[Bool.and_eq_true]at this
         refine⟨x,hx,pA this.1,?_⟩
         grind[Mu,absurd,SObj.beq_eq,adh,adg,ObjTo.refl,id]
        simp_all
      simp_all
     have hlive:∀ {o:SObj},o.real (z.env ρ)->o≠.gone:=by intro o h e;subst e;cases h
     refine⟨hy1,by omega,?_,?_,aJH hn hb (by simp_all) htm hT⟩
     ·obtain⟨l,hl⟩:=h0.vs
      obtain⟨m,hm⟩:=h0.bs
      refine⟨⟨z.es.map (E.den ρ),?_⟩,⟨z.bs.map fun b=>ρ.bs.getD b ⟨0,0,none⟩,?_⟩,h0.fz⟩
      all_goals simp_all[Sub.env,List.take_left']
     ·have hsinn:∀ {i:Nat} {b:Blk} {r:Nat},τ.st.heap.get i=some b->b.obj.inner (z.env ρ) r->i<z.b0+z.bs.length/\b.obj≠.gone/\∃x,st.heap.get (cw z.b0 z.bs i)=some x/\x.obj.inner ρ r:=by
       intro i b r hib hbr;have hg:b.obj≠.gone:=by intro e;rw[e]at hbr;exact hbr
       obtain⟨h1,h2⟩:=hblk i b hib
       obtain⟨x,hx,_,_,hin⟩:=h2 hg
       exact⟨by omega,hg,x,hx,hin ρ r ((SObj.sub_inner hn hb (by rw[e1,e2];exact T.all_get _ s2 i b hib)).2 hbr)⟩
      have hinn:Inn B (z.env ρ) τ.st.heap:=by
       intro i b hib r hbr
       obtain⟨hi,hg,x,hx,hxr⟩:=hsinn hib hbr
       obtain⟨g1,g2⟩:=hr.inn _ x hx r hxr
       refine⟨g1,fun j b' hjb=>⟨fun hl=>?_,fun hji hbr'=>?_⟩⟩
       ·obtain⟨h3,h4⟩:=hblk j b' hjb
        obtain⟨x',hx',_,he',_⟩:=h4 (hlive hl)
        rw[lL hb j (by omega)]
        exact(g2 _ x' hx').1 ((he' ρ w _ _ _ (hr.blk _ x' hx').2.1).2 ((SObj.sub_real hn hb (by rw[e1,e2];exact T.all_get _ s2 j b' hjb)).2 hl))
       ·obtain⟨hj,hg',x',hx',hxr'⟩:=hsinn hjb hbr'
        have m1:=pZ _ 0 1 [] i b hib hg;have m2:=pZ _ 0 1 [] j b' hjb hg';grind[Ct]
      refine⟨?_,?_,?_,?_,?_,hinn,hr.fz,hr.fr,hr.dj,hr.os,hr.tape,hr.output⟩
      ·simp_all[Sub.env]
      ·simp_all[Sub.env]
      ·intro e he
       have:=eK hf hr.pc (hpc e he)
       grind[E.sub_B,Ey]
      ·intro i b hib
       obtain⟨h1,h2⟩:=hblk i b hib
       have hi:i<z.b0+z.bs.length:=by omega
       refine⟨h1,?_,?_⟩
       ·by_cases hl:b.obj=.gone
        ·rw[hl];trivial
        ·obtain⟨x,hx,ho,he,_⟩:=h2 hl
         have:=(he ρ w _ _ _ (hr.blk _ x hx).2.1).1
         rw[lL hb i hi,Dg hb i hi,ZD hb i hi]
         exact SObj.sub_rep hn hb (by rw[e1,e2];exact T.all_get _ s2 i b hib) this
       ·intro hl
        obtain⟨x,hx,ho,he,_⟩:=h2 (hlive hl)
        rw[lL hb i hi,ho]
        exact(hr.blk _ x hx).2.2 ((he ρ w _ _ _ (hr.blk _ x hx).2.1).2 ((SObj.sub_real hn hb (by rw[e1,e2];exact T.all_get _ s2 i b hib)).2 hl))
      ·intro i j b c hb' hc' lb lc ob oc hij
       obtain⟨h1,h2⟩:=hblk i b hb'
       obtain⟨h3,h4⟩:=hblk j c hc'
       obtain⟨x,hx,ho,he,_⟩:=h2 (hlive lb)
       obtain⟨x',hx',ho',he',_⟩:=h4 (hlive lc)
       rw[lL hb i (by omega),lL hb j (by omega)]
       have m1:=pZ _ 0 1 [] i b hb' (hlive lb);have m2:=pZ _ 0 1 [] j c hc' (hlive lc)
       rw[Nat.zero_add,Nat.one_mul]at m1 m2
       exact hr.apart hx hx' ((he ρ w _ _ _ (hr.blk _ x hx).2.1).2 ((SObj.sub_real hn hb (by rw[e1,e2];exact T.all_get _ s2 i b hb')).2 lb)) ((he' ρ w _ _ _ (hr.blk _ x' hx').2.1).2 ((SObj.sub_real hn hb (by rw[e1,e2];exact T.all_get _ s2 j c hc')).2 lc)) (.inl (by simp_all)) (Ct _ hdiff i j m1 m2 hij)
    grind
   grind
  grind
 grind
theorem T.get_map{G Z:Type}(f:G->Z)(t:T G):∀n,(t.map f).get n=(t.get n).map f:=by
 induction t with
 |nil=>intro n;rfl
 |node v l r hl hr=>
  intro n;have e:(T.node v l r).map f=T.node _ (l.map f) (r.map f):=rfl;cases n with
  |zero=>rfl
  |succ n=>
   grind[T.get_succ]
section
variable {B:Base} {ρ:Env} {st:St} {w:World} (hr:RepW B ρ st w)
include hr
theorem aCr{b:Nat}(h:Ly (st.heap.get b)=true):ρ.nil b=false:=by
 cases hg:st.heap.get b with
 |none=>rw[hg]at h;cases h
 |some x=>
  rw[hg]at h
  obtain⟨own,o⟩:=x
  cases o with
  |cells cs af e=>exact(hr.blk _ _ hg).2.1.1
  |_=>cases h
theorem aF4{b:Nat}{o:Off}{l c:E}(h:(Ly (st.heap.get b)&&Mx o)=true):(SV.nslice b l c).den ρ=(SV.slice b o l c).den ρ:=by
 grind[aCr,Mx,Nat.eq_of_beq_eq_true,jL,SV.den,fj]
mutual
theorem SV.norm_ok:∀(v:SV),(v.norm st.heap).den ρ=v.den ρ/\(v.ok ρ->(v.norm st.heap).ok ρ)
 |.int k e=>⟨rfl,id⟩
 |.bool e=>⟨rfl,id⟩
 |.str e=>⟨rfl,id⟩
 |.ptr b o=>⟨rfl,id⟩
 |.slice b o l c=>by
  grind[SV.norm,aF4,SV.ok]
 |.nslice b l c=>⟨rfl,id⟩
 |.bsl ks e=>⟨rfl,id⟩
 |.bptr ks e i j=>⟨rfl,id⟩
 |.nsl _ _ _ _ _=>⟨rfl,id⟩
 |.nptr _ _ _ _ _ _ _=>⟨rfl,id⟩
 |.map b=>⟨rfl,id⟩
 |.func fn fi ca=>by
  obtain⟨h1,h2⟩:=SV.norms_ok fi
  obtain⟨h3,h4⟩:=SV.norms_ok ca
  grind[SV.norm,SV.den,SV.ok]
 |.agg cs=>by
  obtain⟨h1,h2⟩:=SV.norms_ok cs
  grind[SV.norm,SV.den,SV.ok]
 |.tup cs=>by
  obtain⟨h1,h2⟩:=SV.norms_ok cs
  grind[SV.norm,SV.den,SV.ok]
 |.nilp=>⟨rfl,id⟩
 |.nils=>⟨rfl,id⟩
 |.nilm=>⟨rfl,id⟩
 |.nili=>⟨rfl,id⟩
 |.nilf=>⟨rfl,id⟩
 |.junk=>⟨rfl,id⟩
theorem SV.norms_ok:∀(l:List SV),SV.dens ρ (SV.norms st.heap l)=SV.dens ρ l/\(SV.oks ρ l->SV.oks ρ (SV.norms st.heap l))
 |[]=>⟨rfl,id⟩
 |v::vs=>by
  obtain⟨h1,h2⟩:=SV.norm_ok v
  obtain⟨h3,h4⟩:=SV.norms_ok vs
  exact⟨by grind[SV.norms,SV.dens],fun h=>⟨h2 h.1,h4 h.2⟩⟩
end
omit hr in
theorem ada(h:T Blk):∀(l:List SV)(j:Nat),(SV.norms h l)[j]?=l[j]?.map (SV.norm h)
 |[],j=>by rfl
 |v::vs,0=>by rfl
 |v::vs,j+1=>by simp[SV.norms,ada h vs j]
theorem RepW.norm:RepW B ρ st.norm w:=by
 have key:∀i b,st.norm.heap.get i=some b->∃b0,st.heap.get i=some b0/\b=b0.norm st.heap:=by
  intro i b hb
  have:st.norm.heap.get i=(st.heap.get i).map _:=T.get_map _ _ _
  cases hg:st.heap.get i with
  |none=>grind
  |some b0=>grind
 have real:∀b0:Blk,(b0.norm st.heap).obj.real ρ↔b0.obj.real ρ:=by
  rintro⟨own,o⟩
  cases o<;>exact Iff.rfl
 have hinn:Inn B ρ st.norm.heap:=by
  refine hr.inn.next (fun i b hb=>?_) (fun _ _ hf=>hf)
  obtain⟨b0,h0,rfl⟩:=key i b hb
  refine .inl ⟨b0,h0,(real b0).1,rfl,fun r=>?_⟩
  obtain⟨own,o⟩:=b0
  cases o<;>exact id
 refine⟨hr.nv,hr.nb,hr.pc,?_,?_,hinn,hr.fz,hr.fr,hr.dj,hr.os,hr.tape,hr.output⟩
 ·intro i b hb
  obtain⟨b0,h0,rfl⟩:=key i b hb
  obtain⟨h1,h2,h3⟩:=hr.blk i b0 h0
  refine⟨h1,?_,fun h=>h3 ((real b0).1 h)⟩
  obtain⟨own,o⟩:=b0
  cases o with
  |cells cs af e=>
   obtain⟨g1,g2,g3,arr,g4,g5,g6⟩:=h2
   refine⟨g1,g2,(SV.norms_ok hr cs).2 g3,arr,g4,g5,fun j v hj=>?_⟩
   grind[ada,SV.norm_ok]
  |_=>exact h2
 ·intro i j a b ha hb la lb oa ob hij
  obtain⟨a0,h0,rfl⟩:=key i a ha
  obtain⟨b0,h1,rfl⟩:=key j b hb
  exact hr.inj i j a0 b0 h0 h1 ((real a0).1 la) ((real b0).1 lb) oa ob hij
theorem TmRep.norm{t:Tm}{a:Act}(hT:TmRep ρ t a):TmRep ρ (t.map (SV.norm st.heap)) a:=by
 refine⟨hT.1,fun i hi=>?_,fun i v hv=>?_⟩
 ·rw[T.get_map]at hi
  cases hg:t.get i with
  |none=>exact hT.2.1 i hg
  |some u=>grind
 ·rw[T.get_map]at hv
  cases hg:t.get i with
  |none=>grind
  |some u=>
   rw[hg]at hv
   simp only[Option.map_some,Option.some.injEq]at hv;subst hv
   obtain⟨x,h1,h2⟩:=hT.2.2 i u hg
   refine⟨x,h1,?_⟩
   rcases h2 with rfl|⟨h2,h3⟩
   ·exact .inl rfl
   grind[SV.norm_ok]
end
theorem Dy{fs:List E}(hf:∀x∈fs,∀ρ,x.B ρ=true){n0 b0:Nat}{t:Tm}{st:St}{τ:Tmpl}{z:Sub}(h:Lb fs n0 b0 t st τ=.ok z)(hsc:τ.scp=true)
  {B:Base}{ρ ρ0:Env}{w:World}{a:Act}(hr:RepW B ρ st w)(hT:TmRep ρ t a)(h0:ρ0.Ext ρ)(hn0:ρ0.vs.length=n0)(hb0:ρ0.bs.length=b0):
  z.n0=n0/\z.es.length+n0=τ.st.nv/\ρ0.Ext (z.env ρ)/\RepW B (z.env ρ) τ.st w/\TmRep (z.env ρ) τ.tmps a:=
 Lc hf h hsc hr.norm (TmRep.norm hr hT) h0 hn0 hb0
end Go.SX

namespace Go.SX
theorem RepW.withPc{B:Base}{ρ:Env}{st:St}{w:World}(h:RepW B ρ st w){l:List E}(hl:∀e∈l,e.B ρ=true):RepW B ρ ⟨st.nv,st.nb,st.heap,l⟩ w:=
 ⟨h.nv,h.nb,hl,h.blk,h.inj,h.inn,h.fz,h.fr,h.dj,h.os,h.tape,h.output⟩
theorem LK(nv:Nat):∀(l:List E)(e:E),e∈y9 nv l->e∈l/\e.scp nv=true
 |[],e,h=>by cases h
 |x::xs,e,h=>by
  simp only[y9]at h;split at h
  ·cases h with
   |head=>simp_all
   |tail _ hm=>obtain⟨h1,h2⟩:=LK nv xs e hm;simp_all
  ·obtain⟨h1,h2⟩:=LK nv xs e h;simp_all
mutual
theorem SV.plain_ok{ρ:Env}:∀(v:SV),v.plain=true->v.ok ρ
 |.int _ _,_=>by simp[SV.ok]
 |.bool _,_=>by simp[SV.ok]
 |.str _,_=>by simp[SV.ok]
 |.nilp,_=>by simp[SV.ok]
 |.nils,_=>by simp[SV.ok]
 |.nilm,_=>by simp[SV.ok]
 |.nili,_=>by simp[SV.ok]
 |.nilf,_=>by simp[SV.ok]
 |.junk,_=>by simp[SV.ok]
 |.ptr _ _,_=>by simp[SV.ok]
 |.slice _ _ _ _,_=>by simp[SV.ok]
 |.nslice _ _ _,_=>by simp[SV.ok]
 |.map _,_=>by simp[SV.ok]
 |.bsl _ _,h=>by simp[SV.plain]at h
 |.bptr _ _ _ _,h=>by simp[SV.plain]at h
 |.nsl _ _ _ _ _,h=>by simp[SV.plain]at h
 |.nptr _ _ _ _ _ _ _,h=>by simp[SV.plain]at h
 |.func _ fi ca,h=>by
  simp only[SV.plain,Bool.and_eq_true]at h
  exact⟨SV.plains_ok fi h.1,SV.plains_ok ca h.2⟩
 |.agg cs,h=>by exact SV.plains_ok cs h
 |.tup cs,h=>by exact SV.plains_ok cs h
theorem SV.plains_ok{ρ:Env}:∀(l:List SV),SV.plains l=true->SV.oks ρ l
 |[],_=>by simp[SV.oks]
 |v::l,h=>by
  simp only[SV.plains,Bool.and_eq_true]at h
  exact⟨SV.plain_ok v h.1,SV.plains_ok l h.2⟩
end
theorem aBI{B:Base}{ρ ρ':Env}{st st':St}{w w':World}{v:SV}(h:RepW B ρ st w)(h':RepW B ρ' st' w')(he:ρ.Ext ρ')(hv:v.ok ρ'):
  ∃ρ2,ρ.Ext ρ2/\RepW B ρ2 (J1 st v st') w'/\v.ok ρ2/\v.den ρ2=v.den ρ':=by
 unfold J1;split
 ·grind
 ·split
  ·rename_i hc;simp only[Bool.and_eq_true]at hc
   obtain⟨c1,c2,c3,c4⟩:=hc
   refine⟨ρ,Env.Ext.refl ρ,(h.back h' he c3 c4).withPc fun e hm=>?_,SV.plain_ok v c1,?_⟩
   ·obtain⟨h1,h2⟩:=LK _ _ e hm
    rw[<- E.scoped_B he (by rw[h.nv];omega)]
    exact h'.pc e h1
   ·rw[SV.scoped_den he v (by rw[h.nv,h.nb];omega)]
  grind
theorem LL(nv live:Nat):∀(l:List E)(e:E),e∈zd nv live l->e∈l
 |[],e,h=>by cases h
 |x::xs,e,h=>by
  simp only[zd]at h;split at h
  ·cases h with
   |head=>simp
   |tail _ hm=>exact List.mem_cons_of_mem _ (LL nv _ xs e hm)
  ·exact List.mem_cons_of_mem _ (LL nv _ xs e h)
theorem Ky{B:Base}{ρ:Env}{w:World}(m:Nat):∀(n b:Nat)(st:St),RepW B ρ st w->RepW B ρ ⟨st.nv,st.nb,yq m n b st.heap,st.pc⟩ w
 |0,b,st,h=>h
 |n+1,b,st,h=>by
  simp only[yq];split
  ·exact Ky m n _ st h
  ·rw[T.setK_eq]
   exact Ky m n _ _ (h.drop b _)
theorem aav{B:Base}{ρ:Env}{st st':St}{w:World}{v:SV}(h:RepW B ρ st' w):RepW B ρ (yN st v st') w:=by
 unfold yN;split
 ·exact h
 ·split
  ·rw[jf,jf]
   exact(Ky _ _ _ _ h).withPc fun e hm=>h.pc e (LL _ _ _ e hm)
  omega
theorem aaG{v:SV}{st:St}:∀(l:List (SV×St)),yP v st l=true->(v,st)∈l
 |[],h=>by simp[yP]at h
 |x::xs,h=>by
  simp only[yP]at h;split at h
  ·grind[SV.beq_eq,St.beq_eq]
  ·exact List.mem_cons_of_mem _ (aaG xs h)
theorem aD4{f:Fit}(h:LB f=true):∃z,f=.ok z:=by
 cases f<;>simp[LB]at h;simp_all
theorem Er{fs:List E}(hf:∀x∈fs,∀ρ,x.B ρ=true){n0 b0:Nat}{t:Tm}{st:St}{B:Base}{ρ ρ0:Env}{w:World}{a:Act}(hr:RepW B ρ st w)(hT:TmRep ρ t a)(h0:ρ0.Ext ρ)
  (hn0:ρ0.vs.length=n0)(hb0:ρ0.bs.length=b0):∀(l:List (Tm×St)),pY fs n0 b0 t st l=true->∃x∈l,∃ρ2,ρ0.Ext ρ2/\RepW B ρ2 x.2 w/\TmRep ρ2 x.1 a
 |[],h=>by simp[pY]at h
 |x::xs,h=>by
  simp only[pY]at h;split at h
  ·rename_i hc
   rw[Bool.and_eq_true]at hc
   obtain⟨z,hz⟩:=aD4 hc.2
   unfold afN at hc;simp only[Bool.and_eq_true]at hc
   obtain⟨⟨_,_,c3,c4⟩,_⟩:=hc
   obtain⟨_,_,k1,k2,k3⟩:=Lc hf hz (by simp only[Tmpl.scp,Bool.and_eq_true];exact⟨⟨c3,c4⟩,rfl⟩) hr hT h0 hn0 hb0
   grind
  ·obtain⟨y,hy,k⟩:=Er hf hr hT h0 hn0 hb0 xs h
   grind
def HasOut(B:Base)(ρ:Env)(acc:List (SV×St))(u:Value)(w:World):Prop:=∃x∈acc,∃ρ2,ρ.Ext ρ2/\RepW B ρ2 x.2 w/\x.1.ok ρ2/\x.1.den ρ2=u
theorem HasOut.sub{B:Base}{ρ:Env}{acc acc':List (SV×St)}{u:Value}{w:World}(h:HasOut B ρ acc u w)(hs:∀x∈acc,x∈acc'):HasOut B ρ acc' u w:=by
 obtain⟨x,hx,k⟩:=h
 exact⟨x,hs x hx,k⟩
theorem Cz:∀(l:List (SV×St))(y:Tm×St),y∈ui l->∃x∈l,x.1≠.junk/\y=(jP x.1,x.2)
 |[],y,h=>by cases h
 |x::xs,y,h=>by
  simp only[ui]at h;split at h
  ·obtain⟨x',h1,h2⟩:=Cz xs y h;grind
  ·cases h with
   |head=>simp_all
   |tail _ hm=>obtain⟨x',h1,h2⟩:=Cz xs y hm;grind
theorem aAP(fs:List E)(st0:St)(v:SV)(st:St)(acc:List (SV×St)):∀x∈acc,x∈xQ fs st0 v st acc:=by
 unfold xQ;grind
theorem aAO{fs:List E}(hf:∀x∈fs,∀ρ,x.B ρ=true){B:Base}{ρ ρ2:Env}{st0 st:St}{v:SV}{w0 w:World}(h0:RepW B ρ st0 w0)(he:ρ.Ext ρ2)(hr:RepW B ρ2 st w)(hv:v.ok ρ2)(acc:List (SV×St)):
  HasOut B ρ (xQ fs st0 v st acc) (v.den ρ2) w:=by
 unfold xQ;split
 ·exact⟨(v,st),by simp,ρ2,he,hr,hv,rfl⟩
 ·split
  ·rename_i h;exact⟨(v,st),aaG _ h,ρ2,he,hr,hv,rfl⟩
  ·split
   ·exact⟨(v,st),by simp,ρ2,he,hr,hv,rfl⟩
   ·split
    ·rename_i h;have hT:TmRep ρ2 (jP v) ⟨#[v.den ρ2],[]⟩:=by
      refine⟨rfl,fun i hi=>?_,fun i u hu=>?_⟩
      ·cases i with
       |zero=>cases hi
       |succ i=>simp
      ·cases i with
       |zero=>cases hu;simp_all
       |succ i=>
        simp only[jP]at hu
        rw[T.get_succ]at hu
        split at hu<;>cases hu
     obtain⟨y,hy,ρ3,k1,k2,k3⟩:=Er hf (aav (st:=st0) (v:=v) hr) hT he h0.nv h0.nb _ h
     obtain⟨x,hx,hj,rfl⟩:=Cz _ _ hy
     obtain⟨u,hu1,hu2⟩:=k3.2.2 0 _ rfl
     rcases hu2 with hu2|⟨hu2,hu3⟩
     ·simp_all
     ·refine⟨x,hx,ρ3,k1,k2,hu3,?_⟩
      simp_all
    ·exact⟨(v,yN st0 v st),by simp,ρ2,he,aav hr,hv,rfl⟩
theorem YU{fs:List E}(hf:∀x∈fs,∀ρ,x.B ρ=true){B:Base}{ρ:Env}{st:St}{w0:World}(h0:RepW B ρ st w0):∀(rs:List Out)(acc l:List (SV×St)),yb fs st rs acc=some l->
  (∀x∈acc,x∈l)/\∀r∈rs,∀(v:SV)(a b:T SV),r.tmps=.node v a b->∀(ρ':Env)(w:World),ρ.Ext ρ'->RepW B ρ' r.st w->v.ok ρ'->HasOut B ρ l (v.den ρ') w
 |[],acc,l,h=>by
  simp_all[yb]
 |r::rs,acc,l,h=>by
  simp only[yb]at h;split at h
  ·rename_i v a b hr
   obtain⟨h1,h2⟩:=YU hf h0 rs _ l h
   refine⟨fun x hx=>h1 x (aAP _ _ _ _ _ x hx),fun r' hr'=>?_⟩
   cases hr' with
   |tail _ hm=>exact h2 r' hm
   |head=>
    intro v' a' b' e ρ' w he hw hv
    rw[hr]at e
    obtain⟨rfl,_,_⟩:=e
    obtain⟨ρ2,k1,k2,k3,k4⟩:=aBI h0 hw he hv
    rw[<- k4]
    exact(aAO hf h0 k1 k2 k3 _).sub h1
  ·cases h
def Hx(B:Base)(ρ:Env)(acc:List (Tm×St))(a:Act)(w:World):Prop:=∃x∈acc,∃ρ2,ρ.Ext ρ2/\RepW B ρ2 x.2 w/\TmRep ρ2 x.1 a
theorem abQ{fs:List E}(hf:∀x∈fs,∀ρ,x.B ρ=true){B:Base}{ρ:Env}{n0 b0:Nat}(hn0:ρ.vs.length=n0)(hb0:ρ.bs.length=b0):∀(os:List Out)(acc:List (Tm×St)),
  (∀x∈acc,x∈kQ fs n0 b0 os acc)/\∀o∈os,∀(ρ':Env)(a:Act)(w:World),ρ.Ext ρ'->RepW B ρ' o.st w->TmRep ρ' o.tmps a->Hx B ρ (kQ fs n0 b0 os acc) a w
 |[],acc=>⟨fun x hx=>hx,fun o ho=>by cases ho⟩
 |o::os,acc=>by
  have key:∀acc',(∀x∈acc,x∈acc')->(∀(ρ':Env)(a:Act)(w:World),ρ.Ext ρ'->RepW B ρ' o.st w->TmRep ρ' o.tmps a->Hx B ρ acc' a w)->kQ fs n0 b0 (o::os) acc=kQ fs n0 b0 os acc'->
    (∀x∈acc,x∈kQ fs n0 b0 (o::os) acc)/\∀o'∈o::os,∀(ρ':Env)(a:Act)(w:World),ρ.Ext ρ'->RepW B ρ' o'.st w->TmRep ρ' o'.tmps a->Hx B ρ (kQ fs n0 b0 (o::os) acc) a w:=by
   intro acc' h1 h2 e
   obtain⟨k1,k2⟩:=abQ hf hn0 hb0 os _
   rw[e]
   refine⟨fun x hx=>k1 x (h1 x hx),fun o' ho'=>?_⟩
   cases ho' with
   |tail _ hm=>exact k2 o' hm
   |head=>
    intro ρ' a w he hr hT
    obtain⟨x,hx,k⟩:=h2 _ a w he hr hT
    exact⟨x,k1 x hx,k⟩
  cases acc with
  |nil=>exact key _ (fun x hx=>by cases hx) (fun ρ' a w he hr hT=>⟨(o.tmps,o.st),by simp,ρ',he,hr,hT⟩) rfl
  |cons y ys=>
   cases hl:pY fs n0 b0 _ _ _ with
   |true=>exact key _ (fun x hx=>hx) (fun ρ' a w he hr hT=>Er hf hr hT he hn0 hb0 _ hl) (by simp_all[kQ])
   |false=>exact key ((o.tmps,o.st)::y::ys) (fun x hx=>List.mem_cons_of_mem _ hx) (fun ρ' a w he hr hT=>⟨(o.tmps,o.st),by simp,ρ',he,hr,hT⟩) (by simp_all[kQ])
end Go.SX
