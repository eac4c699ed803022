/-
  What the program's own functions say
-/
import Derived.Test.YtnnbmcfabojjjaaGreatSXe
set_option linter.unusedSectionVars false
set_option linter.unusedVariables false
set_option linter.unusedSimpArgs false
namespace Go.SX
/-! ### Boards: what is valid -/
noncomputable def aq(F:Env)(e:E):List Int:=(E.L F e).map U.toI
theorem II(l:List U)(k:Nat):(l.getD k (.int 0)).toI=(l.map U.toI).getD k 0:=by
 simp only[List.getD_eq_getElem?_getD,List.getElem?_map];cases l[k]? <;> rfl
theorem aid{p:Nat->Bool}(n:Nat):(List.range n).all p=true↔∀i,i<n->p i=true:=by grind
theorem PP(l:List U)(n:Nat):B2 l n=true↔∀i,i<n->HJ (nI l (i*2)) (nI l (i*2+1))=true:=by
 simp_all[B2]
theorem C1(l:List U)(q:Bool)(n:Nat):yf l q n=true↔∀i,i<n->qn (nI l (i*5)) (nI l (i*5+1)) (nI l (i*5+2)) (nI l (i*5+3)) (l.getD (i*5+4) (.int 0)).toL q=true:=by
 simp_all[yf]
theorem iz(a x b:Int):dh a x b=true↔a<=x/\x<=b:=by grind[dh]
theorem aic(a b:Int):HJ a b=true↔0<=a/\a<=500/\0<=b/\b<=1/\(a=0\/b=0):=by
 simp_all[HJ,iz,and_assoc]
/-- a row of a list whose cR have w cells -/
def bV(T:E)(i:E)(w j:Nat):E:= .fn 1 (.pr T (.fn 6 (.pr (.fn 8 (.pr i (.int (Int.ofNat w)))) (.int (Int.ofNat j)))))
section
variable {F:Env} {x y l A a b k u i j p q n m r o c d w v X T N L:E}
theorem br:((aq F l).length:Int)=E.I F (.fn 0 l):=by
 show((E.L F l).map _).length=((E.L F l).length:Int)
 simp
theorem fh:E.I F (.fn 1 (.pr l i))=(aq F l).getD (E.I F i).toNat 0:=II _ _
theorem nw(i:E)(w j:Nat)(h:0<=E.I F i):E.I F (.fn 1 (.pr T (.fn 6 (.pr (.fn 8 (.pr i (.int (Int.ofNat w)))) (.int (Int.ofNat j))))))=nI (E.L F T) ((E.I F i).toNat*w+j):=by
 show((E.L F T).getD (E.I F i*w+j).toNat _).toI=_
 have e:(E.I F i*w+j).toNat=(E.I F i).toNat*w+j:=by
  grind
 rw[e];rfl
theorem wu(i:E)(w j:Nat)(h:0<=E.I F i):E.L F (.fn 1 (.pr T (.fn 6 (.pr (.fn 8 (.pr i (.int (Int.ofNat w)))) (.int (Int.ofNat j))))))=((E.L F T).getD ((E.I F i).toNat*w+j) (.int 0)).toL:=by
 show((E.L F T).getD (E.I F i*w+j).toNat _).toL=_
 grind
/-! targets -/
theorem Ln:(E.B F (.fn 101 (.pr T n))=true)=(B2 (E.L F T) (E.I F n).toNat=true):=rfl
theorem KI(h:E.B F (.fn 101 (.pr T i))=true)(h0:0<=E.I F i)(hm:E.I F m=E.I F i+1){a b:E}(ea:a=bV T i 2 0)(eb:b=bV T i 2 1)
  (ha:0<=E.I F a/\E.I F a<=500/\0<=E.I F b/\E.I F b<=1/\(E.I F a=0\/E.I F b=0)):E.B F (.fn 101 (.pr T m))=true:=by
 grind[Ln,PP,bV,nw,aic]
theorem oO(h0:0<=E.I F i)(h1:E.I F i<E.I F N){a b:E}(ea:a=bV T i 2 0)(eb:b=bV T i 2 1)
  (ha:¬(0<=E.I F a/\E.I F a<=500/\0<=E.I F b/\E.I F b<=1/\(E.I F a=0\/E.I F b=0))):¬(E.B F (.fn 101 (.pr T N))=true):=by
 subst ea;subst eb;intro h
 rw[Ln,PP]at h
 apply ha;unfold bV
 rw[nw (T:=T) i 2 0 h0,nw (T:=T) i 2 1 h0]
 grind[aic]
theorem aoT(h:E.B F (.fn 101 (.pr T i))=true)(h1:E.I F N<=E.I F i):E.B F (.fn 101 (.pr T N))=true:=by
 grind[Ln,PP]
/-! items -/
theorem dF:(E.B F (.fn 102 (.pr p (.pr i (.pr c (.pr k (.pr T q))))))=true)=(0<=E.I F p/\E.I F p<=1/\1<=E.I F i/\E.I F i<=500/\0<=E.I F c/\E.I F c<=399/\-1<=E.I F k/\E.I F k<=1/\E.I F (.fn 9 (.pr T (.int 2)))<=4/\
  (E.I F k<0\/E.I F (.fn 9 (.pr T (.int 2)))=0)/\(E.B F q=true->0<=E.I F k)/\E.B F (.fn 101 (.pr T (.fn 9 (.pr T (.int 2)))))=true):=by
 show(qn (E.I F p) (E.I F i) (E.I F c) (E.I F k) (E.L F T) (E.B F q)=true)=_
 rw[Ln]
 have e9:E.I F (.fn 9 (.pr T (.int 2)))=(E.L F T).length/2:=rfl;unfold qn;simp only[Bool.and_eq_true,iz];grind
theorem vS:(E.B F (.fn 103 (.pr L (.pr q n)))=true)=(yf (E.L F L) (E.B F q) (E.I F n).toNat=true):=rfl
theorem aqC(i:E)(h0:0<=E.I F i):(E.B F (.fn 102 (.pr (bV L i 5 0) (.pr (bV L i 5 1) (.pr (bV L i 5 2) (.pr (bV L i 5 3) (.pr (bV L i 5 4) q))))))=true)=
  (qn (nI (E.L F L) ((E.I F i).toNat*5)) (nI (E.L F L) ((E.I F i).toNat*5+1)) (nI (E.L F L) ((E.I F i).toNat*5+2)) (nI (E.L F L) ((E.I F i).toNat*5+3)) ((E.L F L).getD ((E.I F i).toNat*5+4) (.int 0)).toL (E.B F q)=true):=by
 show(qn (E.I F _) (E.I F _) (E.I F _) (E.I F _) (E.L F _) (E.B F q)=true)=_
 grind[bV,nw,wu]
theorem KL(h:E.B F (.fn 103 (.pr L (.pr q i)))=true)(h0:0<=E.I F i)(hm:E.I F m=E.I F i+1){a:E}(ea:a=.fn 102 (.pr (bV L i 5 0) (.pr (bV L i 5 1) (.pr (bV L i 5 2) (.pr (bV L i 5 3) (.pr (bV L i 5 4) q))))))
  (ha:E.B F a=true):E.B F (.fn 103 (.pr L (.pr q m)))=true:=by
 grind[aqC,vS,C1]
theorem KK(h0:0<=E.I F i)(h1:E.I F i<E.I F N){a:E}(ea:a=.fn 102 (.pr (bV L i 5 0) (.pr (bV L i 5 1) (.pr (bV L i 5 2) (.pr (bV L i 5 3) (.pr (bV L i 5 4) q))))))
  (ha:¬(E.B F a=true)):¬(E.B F (.fn 103 (.pr L (.pr q N)))=true):=by
 grind[aqC,vS,C1]
theorem KJ(h:E.B F (.fn 103 (.pr L (.pr q i)))=true)(h1:E.I F N<=E.I F i):E.B F (.fn 103 (.pr L (.pr q N)))=true:=by
 grind[vS,C1]
/-! lists of numbers -/
theorem zA:(E.B F (.fn 114 (.pr l k))=true)=(E.I F k∈aq F l):=by
 show((bI _).contains _=true)=_
 rw[List.contains_iff_mem];rfl
theorem Ej:E.I F (.fn 131 (.pr l (.pr k n)))=(((aq F l).take (E.I F n).toNat).count (E.I F k):Nat):=rfl
theorem np(l:List Int)(n:Nat)(h:n<l.length):l.take (n+1)=l.take n++[l.getD n 0]:=by
 simp_all
theorem TN(h0:0<=E.I F i)(h1:E.I F i<E.I F (.fn 0 l))(hm:E.I F m=E.I F i+1):
  E.I F (.fn 131 (.pr l (.pr k m)))=E.I F (.fn 131 (.pr l (.pr k i)))+(if E.I F k=E.I F (.fn 1 (.pr l i))then 1 else 0):=by
 rw[Ej,Ej,fh]
 rw[<- br]at h1
 have e:(E.I F m).toNat=(E.I F i).toNat+1:=by omega
 grind[np]
theorem a4N(h:E.I F (.fn 0 l)<=E.I F n):(E.B F (.fn 114 (.pr l k))=true)↔¬(E.I F (.fn 131 (.pr l (.pr k n)))=0):=by
 grind[zA,Ej,br,List.take_of_length_le]
theorem a4C(h0:0<=E.I F i)(h1:E.I F i<E.I F (.fn 0 l))(he:E.I F k=E.I F (.fn 1 (.pr l i))):E.B F (.fn 114 (.pr l k))=true:=by
 simp_all[zA,fh,br]
end
end Go.SX

set_option linter.unusedVariables false
set_option linter.unusedSimpArgs false
namespace Go.SX
/-! ### maps as lists of pairs -/
theorem yq(q:Int)(u:U)(m:List U):d5 q (u::m)=if u.fst.toI=q then some u.snd else d5 q m:=rfl
theorem alm(k:Int)(v u:U)(m:List U):gv k v (u::m)=if u.fst.toI=k then .lst [.int k,v]::m else u::gv k v m:=rfl
theorem aj3(k:Int)(v:U):(U.lst [.int k,v]).fst.toI=k:=rfl
theorem aoo(k:Int)(v:U):(U.lst [.int k,v]).snd=v:=rfl
theorem alf(k q:Int)(v:U):∀m:List U,d5 q (gv k v m)=if q=k then some v else d5 q m
 |[]=>by
  show d5 q [U.lst _]=_;grind[yq,aj3,aoo]
 |u::l=>by
  rw[alm]
  by_cases h:u.fst.toI=k
  ·rw[if_pos h,yq,aj3,aoo,yq,h]
   grind
  ·rw[if_neg h,yq,alf k q v l,yq]
   grind
theorem ane(k:Int)(v:U):∀m:List U,k∉(kc m).map Prod.fst->kc (gv k v m)=kc m++[(k,v.toI)]
 |[],_=>rfl
 |u::l,h=>by
  have e:kc (u::l)=(u.fst.toI,u.snd.toI)::kc l:=rfl
  rw[e]at h ⊢
  simp only[List.map_cons,List.mem_cons,not_or]at h
  rw[alm,if_neg (fun e=>h.1 e.symm)]
  show(u.fst.toI,u.snd.toI)::kc _=_
  rw[ane k v l h.2];rfl
theorem Jh(k:Int):∀m:List U,(d5 k m).map U.toI=gu (kc m) k
 |[]=>rfl
 |u::l=>by
  have e:kc (u::l)=(u.fst.toI,u.snd.toI)::kc l:=rfl
  rw[yq,e]
  unfold gu;by_cases h:u.fst.toI=k
  ·simp[h]
  ·have:=Jh k l
   grind[gu]
theorem Sb(k:Int)(m:List U):(d5 k m).isSome=true↔k∈(kc m).map Prod.fst:=by
 grind[Jh,gu,Option.isSome_map]
theorem C9{l:List (Int×Int)}{k v:Int}(h:gu l k=some v):(k,v)∈l:=by
 unfold gu at h;cases hc:l.find? fun p=>p.1==k with
 |none=>simp_all
 |some p=>
  grind
theorem R0:∀ {l:List (Int×Int)} {k v:Int},(l.map Prod.fst).Nodup->(k,v)∈l->gu l k=some v
 |[],k,v,_,h=>by simp at h
 |p::l,k,v,hn,h=>by
  simp only[List.map_cons,List.nodup_cons]at hn;unfold gu;rcases List.mem_cons.1 h with e|e
  ·grind
  ·have:=R0 hn.2 e
   grind[gu]
theorem r8:∀l:List Int,qv l=true↔l.Nodup
 |[]=>by simp[qv]
 |x::l=>by
  unfold qv
  rw[Bool.and_eq_true,r8 l,List.nodup_cons]
  simp
theorem De(m:List U)(l:List (Int×Int)):jn m l=true↔kc m=l/\(l.map Prod.fst).Nodup:=by
 simp_all[jn,r8]
theorem R9{m:List U}{l:List (Int×Int)}{k:Int}{v:U}(h:jn m l=true)(hk:¬(d5 k m).isSome=true):jn (gv k v m) (l++[(k,v.toI)])=true:=by
 grind[De,Sb,ane]
/-! the places, one after the other -/
theorem LA(X:U)(k:Nat):nu X (k+1)=nu X k++(bg X k).map fun i=>(i,((k/4:Nat):Int)):=by
 simp_all[nu,List.range_succ]
theorem a0N(X:U)(k:Nat):fV X k (bg X k).length=fV X (k+1) 0:=by
 simp_all[fV,LA]
theorem a0O(X:U)(k i:Nat)(h:i<(bg X k).length):fV X k (i+1)=fV X k i++[((bg X k).getD i 0,((k/4:Nat):Int))]:=by
 grind[fV,np]
theorem aqQ(X:U)(k:Nat):∀d,∃r,nu X (k+d)=nu X k++r
 |0=>⟨[],by simp⟩
 |d+1=>by
  obtain⟨r,hr⟩:=aqQ X k d
  grind[LA]
theorem Kd(X:U)(k i:Nat)(h:k<8):∃r,dg X=fV X k i++r:=by
 obtain⟨r,hr⟩:=aqQ X _ _
 have e:k+1+(8-(k+1))=8:=by omega
 rw[e]at hr
 refine⟨((bg X k).drop i).map (fun x=>(x,(k/4:Int)))++(r++kf X (cy X)),?_⟩
 have h8:fV X 8 0=nu X 8:=by simp[fV]
 unfold dg
 rw[h8,hr,LA]
 grind[fV,List.take_append_drop]
theorem KB(X:U)(s:Nat):lf X (s+1)=lf X s++if nI (cX X 29).toL (s*5+3)<0 then [s] else []:=by
 grind[lf,List.range_succ]
theorem aoO(X:U)(s:Nat):∀d,∃r,lf X (s+d)=lf X s++r
 |0=>⟨[],by simp⟩
 |d+1=>by
  obtain⟨r,hr⟩:=aoO X s d
  grind[KB]
theorem a4b(X:U)(s:Nat)(h:s<=cy X):∃r,dg X=(fV X 8 0++kf X s)++r:=by
 obtain⟨r,hr⟩:=aoO X s (cy X-s)
 simp_all[dg,kf]
theorem amM{X:U}{l:List (Int×Int)}{k v:Int}(h:∃r,dg X=(l++[(k,v)])++r)(hk:k∈l.map Prod.fst):¬du X=true:=by
 intro hp;unfold du at hp;simp only[Bool.and_eq_true,r8]at hp;grind
theorem oE(X:U)(n:Nat):yG X n=true↔∀i,i<n->(vo X i=true/\(i=0\/oI X (i-1) 0<oI X i 0)/\gu (dg X) (oI X i 0)=some (oI X i 2)/\(∀c,gu (jv X (cy X)) (oI X i 0)=some c->c=oI X i 1)):=by
 grind[yG]
theorem vp(X:U)(i:Nat):vo X i=true↔1<=oI X i 0/\oI X i 0<=500/\-1<=oI X i 1/\oI X i 1<=399/\0<=oI X i 2/\oI X i 2<=1/\(oI X i 1=-1\/(oI X i 3=0/\oI X i 4=0))/\
  0<=oI X i 3/\oI X i 3<=99/\0<=oI X i 4/\oI X i 4<=99/\0<=oI X i 5/\oI X i 5<=99/\0<=oI X i 6/\oI X i 6<=99/\0<=oI X i 7/\oI X i 7<=99/\0<=oI X i 8/\oI X i 8<=99:=by
 unfold vo;simp only[List.all_cons,List.all_nil,Bool.and_eq_true,Bool.or_eq_true,iz,beq_iff_eq,and_assoc,and_true]
/-! distinct ids: as many places as objects -/
theorem akY:∀(l1 l2:List Int),l1.Nodup->(∀x∈l1,x∈l2)->l1.length<=l2.length
 |[],l2,_,_=>Nat.zero_le _
 |x::l1,l2,hn,hs=>by
  have h:=akY l1 (l2.erase x) (List.nodup_cons.1 hn).2 (by
   grind)
  grind
theorem aoS{l1 l2:List Int}(hn:l1.Nodup)(hs:∀x∈l1,x∈l2)(hl:l2.length<=l1.length):∀x∈l2,x∈l1:=by
 intro x hx;by_cases h:x∈l1
 ·exact h
 ·have:=akY _ l2 (List.nodup_cons.2 ⟨h,hn⟩) (by
   simp_all)
  grind
def nd(X:U):List Int:=(List.range (aJ X)).map fun i=>oI X i 0
theorem aow{f:Nat->Int}{n:Nat}(h:∀i,i<n->(i=0\/f (i-1)<f i)):∀i j,i<j->j<n->f i<f j:=by
 intro i j hij hj;induction j with
 |zero=>omega
 |succ j ih=>
  grind
theorem Jx{X:U}(h:∀i,i<aJ X->(i=0\/oI X (i-1) 0<oI X i 0)):(nd X).Nodup:=by
 unfold nd
 rw[List.nodup_iff_pairwise_ne,List.pairwise_map]
 refine List.Pairwise.imp_of_mem ?_ (List.pairwise_lt_range (n:=aJ X));intro a b ha hb hab e
 have:=aow (f:=fun i=>oI X i 0) h a b hab (List.mem_range.1 hb)
 omega
theorem anB{X:U}(h:du X=true):∀k∈(dg X).map Prod.fst,1<=k/\k<=500:=by
 unfold du at h;simp only[Bool.and_eq_true,beq_iff_eq]at h
 obtain⟨⟨hn,ho⟩,hl⟩:=h
 rw[oE]at ho
 have hs:=aoS (l1:=nd X) (l2:=(dg X).map _) (Jx fun i hi=>(ho i hi).2.1) (by
  intro x hx
  obtain⟨i,hi,rfl⟩:=List.mem_map.1 hx
  exact List.mem_map_of_mem (f:=Prod.fst) (C9 (ho i (List.mem_range.1 hi)).2.2.1)) (by simp[nd,hl])
 intro k hk
 obtain⟨i,hi,rfl⟩:=List.mem_map.1 (hs k hk)
 simp_all[vp]
theorem aqS(X:U)(k:Nat)(h:k<8):∀x∈bg X k,x∈(dg X).map Prod.fst:=by
 obtain⟨r,hr⟩:=Kd X k (bg X k).length h
 simp_all[fV]
end Go.SX

set_option linter.unusedVariables false
set_option linter.unusedSimpArgs false
namespace Go.SX
/-! ### attackers and blocks -/
theorem P1(X:U)(j c:Nat):dM X (j+1) c=dM X j c++[blk X j c]:=by
 simp_all[dM,List.range_succ]
theorem aWB{X:U}{j n c:Nat}(h:j<=n){k:Int}(hk:k∈dM X j c):k∈dM X n c:=by
 grind[dM]
theorem oM(X:U)(n j:Nat)(k:Int)(h:0<k):si X n j k=(((bn X).take n).contains k && !(dM X j 1).contains k):=by
 simp_all[si]
theorem sk(X:U)(n j:Nat)(k:Int)(h:¬0<k):si X n j k=(dM X j 0).contains (-k):=by
 grind[si]
theorem Tk(m:List U)(k q:Int)(b:Bool):ju (gv k (.bool b) m) q=if q=k then b else ju m q:=by
 unfold ju;rw[alf];by_cases h:q=k<;>simp[h]
 rfl
theorem sj{X:U}{m:List U}{n j:Nat}(h:kd X m n j=true)(hj:j<=fe X)(k:Int):ju m k=si X n j k:=by
 unfold kd at h
 rw[List.all_eq_true]at h
 by_cases hk:k∈(m.map fun u=>u.fst.toI)++bn X++(dM X (fe X) 0).map fun k=>-k
 ·simp_all
 ·have h1:ju m k=false:=by
   unfold ju;cases hc:d5 k m with
   |none=>rfl
   |some v=>
    grind[Sb,kc]
  by_cases hp:0<k
  ·grind[oM]
  ·rw[sk _ _ _ _ hp]
   grind[aWB]
theorem Tl{X:U}{m:List U}{n j:Nat}(h:∀k,ju m k=si X n j k):kd X m n j=true:=by
 simp_all[kd]
theorem uG(X:U)(n:Nat):lA X n=true↔((bn X).take n).Nodup/\∀a∈(bn X).take n,a∈iC X:=by
 simp_all[lA,r8]
theorem B8(X:U)(n:Nat):mM X n=true↔(dM X n 1).Nodup/\(dM X n 0).Nodup/\∀i,i<n->(blk X i 1∈bn X/\blk X i 0∈gA X):=by
 simp_all[mM,r8,and_assoc]
theorem SB{X:U}(h:du X=true)(ha:eB X<=1){a:Int}(hm:a∈iC X):1<=a/\a<=500:=
 anB h a (aqS X _ (by omega) a hm)
theorem am5{X:U}(h:du X=true){a:Int}(hm:a∈gA X):1<=a/\a<=500:=
 anB h a (aqS X _ (by omega) a hm)
theorem CC(X:U):jT X=true↔lA X (bn X).length=true/\mM X (fe X)=true:=by
 simp_all[jT]
theorem a2u{X:U}{i:Nat}{a:Int}(h:si X i 0 a=true):a∈(bn X).take i:=by
 by_cases hp:0<a
 all_goals simp_all[oM,sk,dM]
theorem aWo{X:U}{m:List U}{i:Nat}(h:lA X i=true)(hp:du X=true)(ha:eB X<=1)(hs:kd X m i 0=true)(hi:i<(bn X).length)
  (hv:¬ju m ((bn X).getD i 0)=true)(ho:(bn X).getD i 0∈iC X):lA X (i+1)=true:=by
 rw[uG]at *
 have hpos:=SB hp ha ho
 rw[sj hs (Nat.zero_le _),oM _ _ _ _ (by omega)]at hv
 have hb:(dM X 0 1).contains ((bn X).getD i 0)=false:=by rfl
 grind[np]
theorem aWn{X:U}{m:List U}{i:Nat}(hp:du X=true)(ha:eB X<=1)(hs:kd X m i 0=true)(hi:i<(bn X).length)(ho:(bn X).getD i 0∈iC X):kd X (gv ((bn X).getD i 0) (.bool true) m) (i+1) 0=true:=by
 apply Tl;intro k;have hpos:=SB hp ha ho
 rw[Tk,sj hs (Nat.zero_le _)]
 by_cases hk:0<k
 ·rw[oM _ _ _ _ hk,oM _ _ _ _ hk,np _ _ hi]
  by_cases e:k=(bn X).getD i 0
  ·grind[dM]
  grind
 ·rw[sk _ _ _ _ hk,sk _ _ _ _ hk,if_neg (by omega)]
theorem aWp{X:U}{m:List U}{i:Nat}(hs:kd X m i 0=true)(hi:i<(bn X).length)(hv:ju m ((bn X).getD i 0)=true):¬jT X=true:=by
 intro hf
 rw[CC,uG,List.take_length]at hf
 rw[sj hs (Nat.zero_le _)]at hv
 have hm:=a2u hv;have ht:=np _ i hi;grind[List.take_sublist]
theorem aWm{X:U}{i:Nat}(hi:i<(bn X).length)(ho:¬(bn X).getD i 0∈iC X):¬jT X=true:=by
 grind[CC,uG]
theorem HY{X:U}{j:Nat}(hj:j<fe X)(h:mM X (j+1)=true->False):¬jT X=true:=by
 intro hf
 rw[CC,B8]at hf
 apply h
 rw[B8]
 have sub:∀c,(dM X (j+1) c).Sublist (dM X (fe X) c):=by
  grind[dM]
 grind
/-- a block that is right, when the ones ahead of it are -/
theorem B9{X:U}{j:Nat}:mM X (j+1)=true↔mM X j=true/\blk X j 1∉dM X j 1/\blk X j 0∉dM X j 0/\blk X j 1∈bn X/\blk X j 0∈gA X:=by
  grind[B8,P1]
theorem air{X:U}(hp:du X=true)(ha:eB X<=1)(h:lA X (bn X).length=true){a:Int}(hm:a∈bn X):1<=a/\a<=500:=by
 rw[uG,List.take_length]at h
 exact SB hp ha (h.2 a hm)
section
variable {X:U} {m:List U} {j:Nat} {nk:Int}
theorem aWw(hp:du X=true)(ha:eB X<=1)(h:lA X (bn X).length=true)(hs:kd X m (bn X).length j=true)(hj:j<fe X)(hv:¬ju m (blk X j 1)=true):¬jT X=true:=by
 apply HY hj;intro hb
 rw[B9]at hb
 have hpos:=air hp ha h hb.2.2.2.1
 rw[sj hs (by omega),oM _ _ _ _ (by omega),List.take_length,Bool.and_eq_true,List.contains_iff_mem]at hv
 simp_all
theorem aWx(hp:du X=true)(hs:kd X m (bn X).length j=true)(hj:j<fe X)(hk:1<=blk X j 0->blk X j 0<=500->nk=-(blk X j 0))(hv:ju m nk=true):¬jT X=true:=by
 apply HY hj;intro hb
 rw[B9]at hb
 have hpos:=am5 hp hb.2.2.2.2;have e:=hk hpos.1 hpos.2
 rw[sj hs (by omega),sk _ _ _ _ (by omega),List.contains_iff_mem,e,Int.neg_neg]at hv
 simp_all
theorem aWy(hj:j<fe X)(hv:¬blk X j 1∈bn X):¬jT X=true:=by
 grind[HY,B9]
theorem aWz(hj:j<fe X)(hv:¬blk X j 0∈gA X):¬jT X=true:=by
 grind[HY,B9]
theorem aWA(hp:du X=true)(ha:eB X<=1)(h:lA X (bn X).length=true)(hb:mM X j=true)(hs:kd X m (bn X).length j=true)(hj:j<fe X)(hv:ju m (blk X j 1)=true)
  (hk:1<=blk X j 0->blk X j 0<=500->nk=-(blk X j 0))(hn:¬ju m nk=true)(h1:blk X j 1∈bn X)(h2:blk X j 0∈gA X):mM X (j+1)=true/\kd X (gv nk (.bool true) (gv (blk X j 1) (.bool false) m)) (bn X).length (j+1)=true:=by
 have hpos:=air hp ha h h1;have hpos2:=am5 hp h2;have e:=hk hpos2.1 hpos2.2;have hv':=hv
 rw[sj hs (by omega),oM _ _ _ _ (by omega),Bool.and_eq_true]at hv'
 have hn':=hn
 rw[sj hs (by omega),sk _ _ _ _ (by omega),e,Int.neg_neg,List.contains_iff_mem]at hn'
 have hv2:blk X j 1∉dM X j 1:=by
  simp_all
 refine⟨B9.2 ⟨hb,hv2,hn',h1,h2⟩,?_⟩
 apply Tl;intro k
 rw[Tk,Tk,sj hs (by omega)]
 by_cases hk:0<k
 ·rw[oM _ _ _ _ hk,oM _ _ _ _ hk,if_neg (by omega),P1]
  grind
 grind[sk,P1]
end
end Go.SX

set_option linter.unusedVariables false
set_option linter.unusedSimpArgs false
namespace Go.SX
/-! ### what expressions say of a board -/
section
variable {F:Env} {x y l A a b k u i j p q n m r o c d w v X T N L L2 mc s:E}
theorem ay:-9223372036854775808<=E.I F a+E.I F b->E.I F a+E.I F b<9223372036854775808->E.I F (.ar .add .i64 a b)=E.I F a+E.I F b:=by
 have e:E.I F (.ar .add _ a b)=IntKind.i64.wrap (E.I F a+E.I F b):=rfl
 obtain⟨s,e2,q,r⟩:=ae (E.I F a+E.I F b)
 omega
theorem aR:-9223372036854775808<=E.I F a-E.I F b->E.I F a-E.I F b<9223372036854775808->E.I F (.ar .sub .i64 a b)=E.I F a-E.I F b:=by
 have e:E.I F (.ar .sub _ a b)=IntKind.i64.wrap (E.I F a-E.I F b):=rfl
 obtain⟨s,e2,q,r⟩:=ae (E.I F a-E.I F b)
 omega
theorem zy:(E.B F (.fn 108 X)=true)=(du (X.den F)=true):=rfl
theorem zz:(E.B F (.fn 109 (.pr L (.pr X (.pr p q))))=true)=(aq F L=bg (X.den F) ((E.I F p).toNat*4+(E.I F q).toNat)):=by
 show((bI _==bg _ _)=true)=_
 rw[beq_iff_eq];rfl
theorem Us:(E.B F (.fn 110 X)=true)=(jT (X.den F)=true):=rfl
theorem Lp:(E.B F (.fn 111 (.pr X n))=true)=(lA (X.den F) (E.I F n).toNat=true):=rfl
theorem aqD:(E.B F (.fn 112 (.pr X n))=true)=(mM (X.den F) (E.I F n).toNat=true):=rfl
theorem DX:(E.B F (.fn 113 (.pr m (.pr X (.pr n j))))=true)=(kd (X.den F) (E.L F m) (E.I F n).toNat (E.I F j).toNat=true):=rfl
theorem UF:E.B F (.fn 32 (.pr m (.pr k (.bool false))))=ju (E.L F m) (E.I F k):=rfl
theorem wt:E.L F (.fn 34 (.pr m (.pr k v)))=gv (E.I F k) (v.den F) (E.L F m):=rfl
theorem a6K(P Q j:Nat)(hQ:Q<4)(hj:j=6+14*P+Q):bg (X.den F) (P*4+Q)=aq F (.fn 1 (.pr X (.int (Int.ofNat j)))):=by
 show bI _=bI (cX (X.den F) j);grind
theorem iF(P Q j:Nat)(hQ:Q<4)(hj:j=6+14*P+Q)(hp:E.I F p=(P:Int))(hq:E.I F q=(Q:Int)):E.B F (.fn 109 (.pr (.fn 1 (.pr X (.int (Int.ofNat j)))) (.pr X (.pr p q))))=true:=by
 simp_all[zz,a6K]
theorem a6L(Y:U)(z:Nat):(bg Y z).length=(cX Y (6+14*(z/4)+z%4)).toL.length:=by
 grind[bg,bI]
theorem ap(h:E.B F (.fn 117 X)=true):(E.I F (.fn 0 (.fn 1 (.pr X (.int 6))))<=40/\E.I F (.fn 0 (.fn 1 (.pr X (.int 7))))<=40/\E.I F (.fn 0 (.fn 1 (.pr X (.int 8))))<=40/\E.I F (.fn 0 (.fn 1 (.pr X (.int 9))))<=40)/\
  (E.I F (.fn 0 (.fn 1 (.pr X (.int 20))))<=40/\E.I F (.fn 0 (.fn 1 (.pr X (.int 21))))<=40/\E.I F (.fn 0 (.fn 1 (.pr X (.int 22))))<=40/\E.I F (.fn 0 (.fn 1 (.pr X (.int 23))))<=40)/\
  (E.I F (.fn 9 (.pr (.fn 1 (.pr X (.int 29))) (.int 5)))<=20/\E.I F (.fn 9 (.pr (.fn 1 (.pr X (.int 30))) (.int 5)))<=20/\E.I F (.fn 9 (.pr (.fn 1 (.pr X (.int 0))) (.int 12)))<=30/\E.I F (.fn 0 (.fn 1 (.pr X (.int 31))))<=30/\E.I F (.fn 9 (.pr (.fn 1 (.pr X (.int 32))) (.int 2)))<=30)/\
  (0<=E.I F (.fn 9 (.pr (.fn 1 (.pr X (.int 29))) (.int 5)))/\0<=E.I F (.fn 9 (.pr (.fn 1 (.pr X (.int 30))) (.int 5)))/\0<=E.I F (.fn 9 (.pr (.fn 1 (.pr X (.int 0))) (.int 12)))/\0<=E.I F (.fn 0 (.fn 1 (.pr X (.int 31))))/\0<=E.I F (.fn 9 (.pr (.fn 1 (.pr X (.int 32))) (.int 2)))):=by
 have h':k8 _=true:=h;unfold k8 at h';simp only[Bool.and_eq_true,aid,decide_eq_true_eq]at h'
 obtain⟨⟨⟨⟨⟨⟨⟨h1,h2⟩,h3⟩,_⟩,_⟩,h4⟩,h5⟩,h6⟩:=h'
 have z (n:Nat) (hn:n<8):=h1 n hn;simp only[a6L]at z;have z0:=z 0 (by omega);have z1:=z 1 (by omega);have z2:=z 2 (by omega);have z3:=z 3 (by omega);have z4:=z 4 (by omega);have z5:=z 5 (by omega);have z6:=z 6 (by omega);have z7:=z 7 (by omega);have a31:(bn (X.den F)).length=(cX (X.den F) 31).toL.length:=by grind[bn,bI]
 rw[a31]at h5
 refine⟨⟨?_,?_,?_,?_⟩,⟨?_,?_,?_,?_⟩,⟨?_,?_,?_,?_,?_⟩,?_,?_,?_,?_,?_⟩
 ·exact Int.ofNat_le.2 z0
 ·exact Int.ofNat_le.2 z1
 ·exact Int.ofNat_le.2 z2
 ·exact Int.ofNat_le.2 z3
 ·exact Int.ofNat_le.2 z4
 ·exact Int.ofNat_le.2 z5
 ·exact Int.ofNat_le.2 z6
 ·exact Int.ofNat_le.2 z7
 ·exact Int.ofNat_le.2 h2
 ·exact Int.ofNat_le.2 h3
 ·exact Int.ofNat_le.2 h4
 ·exact Int.ofNat_le.2 h5
 ·exact Int.ofNat_le.2 h6
 ·exact Int.natCast_nonneg _
 ·exact Int.natCast_nonneg _
 ·exact Int.natCast_nonneg _
 ·exact Int.natCast_nonneg _
 ·exact Int.natCast_nonneg _
/-! fights -/
theorem a4B(h:E.I F n<=0)(h':E.I F j<=0):E.B F (.fn 113 (.pr (.fn 10 a) (.pr X (.pr n j))))=true:=by
 have e:(E.I F n).toNat=0:=by omega
 have e':(E.I F j).toNat=0:=by omega
 rw[DX,e,e']
 apply Tl;intro k;show false=_;grind[oM,sk,dM]
theorem a4z(h:E.B F (.fn 111 (.pr X i))=true)(e:E.I F n=E.I F i):E.B F (.fn 111 (.pr X n))=true:=by
 simp_all[Lp]
theorem a4A(h:E.B F (.fn 113 (.pr m (.pr X (.pr i j))))=true)(e:E.I F n=E.I F i)(e':E.I F k=E.I F j):E.B F (.fn 113 (.pr m (.pr X (.pr n k))))=true:=by
 simp_all[DX]
theorem aWl(h0:0<=E.I F i):(bn (X.den F)).getD (E.I F i).toNat 0=E.I F (.fn 1 (.pr (.fn 1 (.pr X (.int 31))) i)):=by
 rw[fh];rfl
theorem xA:((bn (X.den F)).length:Int)=E.I F (.fn 0 (.fn 1 (.pr X (.int 31)))):=by
 show(((cX _ 31).toL.map _).length:Int)=_
 rw[List.length_map];rfl
theorem yx:((fe (X.den F):Nat):Int)=E.I F (.fn 9 (.pr (.fn 1 (.pr X (.int 32))) (.int 2))):=rfl
theorem rA(h0:0<=E.I F i)(c:Nat):blk (X.den F) (E.I F i).toNat c=E.I F (.fn 1 (.pr (.fn 1 (.pr X (.int 32))) (.fn 6 (.pr (.fn 8 (.pr i (.int 2))) (.int (Int.ofNat c)))))):=by
 exact(nw (T:=.fn 1 (.pr X (.int 32))) i 2 c h0).symm
theorem a0u(h:E.B F (.fn 109 (.pr L (.pr X (.pr (.fn 1 (.pr X (.int 34))) (.int 2)))))=true):aq F L=iC (X.den F):=by
 rw[zz]at h
 rw[h];unfold iC eB
 have e:(E.I F (.fn 1 (.pr X (.int 34)))).toNat*4+(E.I F (.int 2)).toNat=4*(iX (X.den F) 34).toNat+2:=by
  have:E.I F (.fn 1 (.pr X (.int 34)))=iX (X.den F) 34:=rfl
  have:(E.I F (.int 2)).toNat=2:=rfl
  omega
 rw[e]
theorem a0p(h:E.B F (.fn 109 (.pr L (.pr X (.pr (.fn 7 (.pr (.int 1) (.fn 1 (.pr X (.int 34))))) (.int 2)))))=true)(h0:0<=E.I F (.fn 1 (.pr X (.int 34)))):aq F L=gA (X.den F):=by
 rw[zz]at h
 rw[h];unfold gA eB
 have e:(E.I F (.fn 7 (.pr (.int 1) (.fn 1 (.pr X (.int 34)))))).toNat*4+(E.I F (.int 2)).toNat=4*(1-(iX (X.den F) 34).toNat)+2:=by
  have e1:E.I F (.fn 7 (.pr (.int 1) (.fn 1 (.pr X (.int 34)))))=1-iX (X.den F) 34:=rfl;have e2:E.I F (.fn 1 (.pr X (.int 34)))=iX (X.den F) 34:=rfl
  have:(E.I F (.int 2)).toNat=2:=rfl
  omega
 rw[e]
/-- an attacker -/
theorem KW(hp:E.B F (.fn 108 X)=true)(ha:0<=E.I F (.fn 1 (.pr X (.int 34))))(ha':E.I F (.fn 1 (.pr X (.int 34)))<=1)(hs:E.B F (.fn 113 (.pr m (.pr X (.pr i (.int 0)))))=true)(h:E.B F (.fn 111 (.pr X i))=true)
    (h0:0<=E.I F i)(hi:E.I F i<E.I F (.fn 0 (.fn 1 (.pr X (.int 31)))))(hL:E.B F (.fn 109 (.pr L (.pr X (.pr (.fn 1 (.pr X (.int 34))) (.int 2)))))=true)(hm:E.I F n=E.I F i+1):
    (E.B F (.fn 32 (.pr m (.pr (.fn 1 (.pr (.fn 1 (.pr X (.int 31))) i)) (.bool false))))=true->¬E.B F (.fn 110 X)=true)/\
    (¬E.B F (.fn 114 (.pr L (.fn 1 (.pr (.fn 1 (.pr X (.int 31))) i))))=true->¬E.B F (.fn 110 X)=true)/\
    (¬E.B F (.fn 32 (.pr m (.pr (.fn 1 (.pr (.fn 1 (.pr X (.int 31))) i)) (.bool false))))=true->E.B F (.fn 114 (.pr L (.fn 1 (.pr (.fn 1 (.pr X (.int 31))) i))))=true->E.B F (.fn 111 (.pr X n))=true/\
      E.B F (.fn 113 (.pr (.fn 34 (.pr m (.pr (.fn 1 (.pr (.fn 1 (.pr X (.int 31))) i)) (.bool true)))) (.pr X (.pr n (.int 0)))))=true):=by
  have hl:=a0u hL
  rw[zy]at hp
  rw[<- xA]at hi
  have hi':(E.I F i).toNat<(bn (X.den F)).length:=by omega
  have e1:(E.I F n).toNat=(E.I F i).toNat+1:=by omega
  have ha2:eB (X.den F)<=1:=by
    have:E.I F (.fn 1 (.pr X (.int 34)))=iX (X.den F) 34:=rfl
    simp_all[eB]
  have z0:(E.I F (.int 0)).toNat=0:=rfl
  rw[UF,zA,Us,Lp,DX,wt,hl,e1,z0,<- aWl (X:=X) h0]
  exact⟨fun hv=>aWp hs hi' hv,fun ho=>aWm hi' ho,fun hv ho=>⟨aWo h hp ha2 hs hi' hv ho,aWn hp ha2 hs hi' ho⟩⟩
/-- a block -/
theorem zo{nk:E}(hp:E.B F (.fn 108 X)=true)(ha:0<=E.I F (.fn 1 (.pr X (.int 34))))(ha':E.I F (.fn 1 (.pr X (.int 34)))<=1)(hs:E.B F (.fn 113 (.pr m (.pr X (.pr (.fn 0 (.fn 1 (.pr X (.int 31)))) j))))=true)(h:E.B F (.fn 111 (.pr X (.fn 0 (.fn 1 (.pr X (.int 31))))))=true)
    (hb:E.B F (.fn 112 (.pr X j))=true)(h0:0<=E.I F j)(hj:E.I F j<E.I F (.fn 9 (.pr (.fn 1 (.pr X (.int 32))) (.int 2))))(hL:E.B F (.fn 109 (.pr L (.pr X (.pr (.fn 7 (.pr (.int 1) (.fn 1 (.pr X (.int 34))))) (.int 2)))))=true)(hm:E.I F n=E.I F j+1)
    {t b:E}(et:t= .fn 1 (.pr (.fn 1 (.pr X (.int 32))) (.fn 6 (.pr (.fn 8 (.pr j (.int 2))) (.int 1)))))(eb:b= .fn 1 (.pr (.fn 1 (.pr X (.int 32))) (.fn 6 (.pr (.fn 8 (.pr j (.int 2))) (.int 0)))))
    (hk:1<=E.I F b->E.I F b<=500->E.I F nk= -(E.I F b)):
    (¬E.B F (.fn 32 (.pr m (.pr t (.bool false))))=true->¬E.B F (.fn 110 X)=true)/\
    (E.B F (.fn 32 (.pr m (.pr nk (.bool false))))=true->¬E.B F (.fn 110 X)=true)/\
    (¬E.B F (.fn 114 (.pr (.fn 1 (.pr X (.int 31))) t))=true->¬E.B F (.fn 110 X)=true)/\
    (¬E.B F (.fn 114 (.pr L b))=true->¬E.B F (.fn 110 X)=true)/\
    (E.B F (.fn 32 (.pr m (.pr t (.bool false))))=true->¬E.B F (.fn 32 (.pr m (.pr nk (.bool false))))=true->E.B F (.fn 114 (.pr (.fn 1 (.pr X (.int 31))) t))=true->E.B F (.fn 114 (.pr L b))=true->
      E.B F (.fn 112 (.pr X n))=true/\E.B F (.fn 113 (.pr (.fn 34 (.pr (.fn 34 (.pr m (.pr t (.bool false)))) (.pr nk (.bool true)))) (.pr X (.pr (.fn 0 (.fn 1 (.pr X (.int 31)))) n))))=true):=by
  subst et;subst eb;have hl:=a0p hL ha
  rw[zy]at hp
  rw[DX]at hs
  rw[Lp]at h
  rw[<- yx]at hj
  have hj':(E.I F j).toNat<fe (X.den F):=by omega
  have e1:(E.I F n).toNat=(E.I F j).toNat+1:=by omega
  have ha2:eB (X.den F)<=1:=by
    have:E.I F (.fn 1 (.pr X (.int 34)))=iX (X.den F) 34:=rfl
    simp_all[eB]
  have el:(E.I F (.fn 0 (.fn 1 (.pr X (.int 31))))).toNat=(bn (X.den F)).length:=by grind[xA]
  have ea:aq F (.fn 1 (.pr X (.int 31)))=bn _:=rfl
  rw[el]at hs h
  have b0:=rA (X:=X) h0 0;have b1:=rA (X:=X) h0 1;have c0:(Int.ofNat 0)=0:=rfl;have c1:(Int.ofNat 1)=1:=rfl
  rw[c0]at b0
  rw[c1]at b1
  rw[<- b0]at hk
  rw[UF,UF,zA,zA,Us,aqD,DX,wt,wt,hl,e1,el,ea,<- b0,<- b1]
  exact⟨fun hv=>aWw hp ha2 h hs hj' hv,fun hv=>aWx hp hs hj' hk hv,fun hv=>aWy hj' hv,fun hv=>aWz hj' hv,fun hv hn h1 h2=>aWA hp ha2 h hb hs hj' hv hk hn h1 h2⟩
theorem yz{b:E}(h:1<=E.I F b)(h':E.I F b<=500):E.I F (.ar .sub .i64 (.int 0) b)=-(E.I F b):=by
 have e:E.I F (.ar .sub _ (.int 0) b)=IntKind.i64.wrap (0-E.I F b):=rfl
 obtain⟨s,e,q,r⟩:=ae (0-E.I F b)
 omega
theorem a50(h:E.B F (.fn 111 (.pr X (.fn 0 (.fn 1 (.pr X (.int 31))))))=true)(hb:E.B F (.fn 112 (.pr X j))=true)(h1:E.I F (.fn 9 (.pr (.fn 1 (.pr X (.int 32))) (.int 2)))=E.I F j):E.B F (.fn 110 X)=true:=by
 have el:(E.I F (.fn 0 (.fn 1 (.pr X (.int 31))))).toNat=(bn (X.den F)).length:=by grind[xA]
 grind[Lp,aqD,yx,Us,CC]
/-! valid boards -/
theorem cu:(E.B F (.fn 115 X)=true)=(0<=E.I F (.fn 1 (.pr X (.int 34)))/\E.I F (.fn 1 (.pr X (.int 34)))<=1/\0<=E.I F (.fn 1 (.pr X (.int 33)))/\E.I F (.fn 1 (.pr X (.int 33)))<=1000/\0<=E.I F (.fn 1 (.pr X (.int 35)))/\E.I F (.fn 1 (.pr X (.int 35)))<=10/\-1<=E.I F (.fn 1 (.pr X (.int 36)))/\E.I F (.fn 1 (.pr X (.int 36)))<=1/\0<=E.I F (.fn 1 (.pr X (.int 37)))/\E.I F (.fn 1 (.pr X (.int 37)))<=2/\E.I F (.fn 9 (.pr (.fn 1 (.pr X (.int 0))) (.int 12)))<=500/\E.I F (.fn 9 (.pr (.fn 1 (.pr X (.int 29))) (.int 5)))<=200/\E.I F (.fn 9 (.pr (.fn 1 (.pr X (.int 30))) (.int 5)))<=200/\0<=E.I F (.fn 1 (.pr X (.int 1)))/\E.I F (.fn 1 (.pr X (.int 1)))<=9999/\0<=E.I F (.fn 1 (.pr X (.int 2)))/\E.I F (.fn 1 (.pr X (.int 2)))<=99/\0<=E.I F (.fn 1 (.pr X (.int 3)))/\E.I F (.fn 1 (.pr X (.int 3)))<=99/\0<=E.I F (.fn 1 (.pr X (.int 4)))/\E.I F (.fn 1 (.pr X (.int 4)))<=99/\0<=E.I F (.fn 1 (.pr X (.int 5)))/\E.I F (.fn 1 (.pr X (.int 5)))<=99/\0<=E.I F (.fn 1 (.pr X (.int 13)))/\E.I F (.fn 1 (.pr X (.int 13)))<=7/\0<=E.I F (.fn 1 (.pr X (.int 14)))/\E.I F (.fn 1 (.pr X (.int 14)))<=255/\0<=E.I F (.fn 1 (.pr X (.int 15)))/\E.I F (.fn 1 (.pr X (.int 15)))<=9999/\0<=E.I F (.fn 1 (.pr X (.int 16)))/\E.I F (.fn 1 (.pr X (.int 16)))<=99/\0<=E.I F (.fn 1 (.pr X (.int 17)))/\E.I F (.fn 1 (.pr X (.int 17)))<=99/\0<=E.I F (.fn 1 (.pr X (.int 18)))/\E.I F (.fn 1 (.pr X (.int 18)))<=99/\0<=E.I F (.fn 1 (.pr X (.int 19)))/\E.I F (.fn 1 (.pr X (.int 19)))<=99/\0<=E.I F (.fn 1 (.pr X (.int 27)))/\E.I F (.fn 1 (.pr X (.int 27)))<=7/\0<=E.I F (.fn 1 (.pr X (.int 28)))/\E.I F (.fn 1 (.pr X (.int 28)))<=255/\E.B F (.fn 103 (.pr (.fn 1 (.pr X (.int 29))) (.pr (.bool false) (.fn 9 (.pr (.fn 1 (.pr X (.int 29))) (.int 5))))))=true/\E.B F (.fn 103 (.pr (.fn 1 (.pr X (.int 30))) (.pr (.bool true) (.fn 9 (.pr (.fn 1 (.pr X (.int 30))) (.int 5))))))=true/\E.B F (.fn 108 X)=true/\E.B F (.fn 110 X)=true):=by
 show(vP _=true)=_
 have e34:E.I F (.fn 1 (.pr X (.int 34)))=iX (X.den F) 34:=rfl;have e33:E.I F (.fn 1 (.pr X (.int 33)))=iX (X.den F) 33:=rfl;have e35:E.I F (.fn 1 (.pr X (.int 35)))=iX (X.den F) 35:=rfl;have e36:E.I F (.fn 1 (.pr X (.int 36)))=iX (X.den F) 36:=rfl;have e37:E.I F (.fn 1 (.pr X (.int 37)))=iX (X.den F) 37:=rfl;have e1:E.I F (.fn 1 (.pr X (.int 1)))=iX (X.den F) 1:=rfl;have e2:E.I F (.fn 1 (.pr X (.int 2)))=iX (X.den F) 2:=rfl;have e3:E.I F (.fn 1 (.pr X (.int 3)))=iX (X.den F) 3:=rfl;have e4:E.I F (.fn 1 (.pr X (.int 4)))=iX (X.den F) 4:=rfl;have e5:E.I F (.fn 1 (.pr X (.int 5)))=iX (X.den F) 5:=rfl;have e13:E.I F (.fn 1 (.pr X (.int 13)))=iX (X.den F) 13:=rfl;have e14:E.I F (.fn 1 (.pr X (.int 14)))=iX (X.den F) 14:=rfl;have e15:E.I F (.fn 1 (.pr X (.int 15)))=iX (X.den F) 15:=rfl;have e16:E.I F (.fn 1 (.pr X (.int 16)))=iX (X.den F) 16:=rfl;have e17:E.I F (.fn 1 (.pr X (.int 17)))=iX (X.den F) 17:=rfl;have e18:E.I F (.fn 1 (.pr X (.int 18)))=iX (X.den F) 18:=rfl;have e19:E.I F (.fn 1 (.pr X (.int 19)))=iX (X.den F) 19:=rfl;have e27:E.I F (.fn 1 (.pr X (.int 27)))=iX (X.den F) 27:=rfl;have e28:E.I F (.fn 1 (.pr X (.int 28)))=iX (X.den F) 28:=rfl;have q0:E.I F (.fn 9 (.pr (.fn 1 (.pr X (.int 0))) (.int 12)))=aJ (X.den F):=rfl;have q29:E.I F (.fn 9 (.pr (.fn 1 (.pr X (.int 29))) (.int 5)))=cy (X.den F):=rfl;have q30:E.I F (.fn 9 (.pr (.fn 1 (.pr X (.int 30))) (.int 5)))=((cX (X.den F) 30).toL.length/5:Nat):=rfl;have l29:E.L F (.fn 1 (.pr X (.int 29)))=(cX (X.den F) 29).toL:=rfl;have l30:E.L F (.fn 1 (.pr X (.int 30)))=(cX (X.den F) 30).toL:=rfl;have bt:E.B F (.bool _)=true:=rfl;have bf:E.B F (.bool _)=false:=rfl;have za:(E.B F (.fn 108 X)=true)=(du _=true):=rfl;have zb:(E.B F (.fn 110 X)=true)=(jT _=true):=rfl
 rw[za,zb,vS,vS,l29,l30,bt,bf,q29,q30,q0,e34,e33,e35,e36,e37,e1,e2,e3,e4,e5,e13,e14,e15,e16,e17,e18,e19,e27,e28,Int.toNat_natCast,Int.toNat_natCast]
 unfold vP yE sg ye;simp only[Bool.and_eq_true,iz,List.all_cons];grind
theorem cv:(E.B F (.fn 130 X)=true)=(0<=E.I F (.fn 1 (.pr X (.int 34)))/\E.I F (.fn 1 (.pr X (.int 34)))<=1/\0<=E.I F (.fn 1 (.pr X (.int 33)))/\E.I F (.fn 1 (.pr X (.int 33)))<=1000/\0<=E.I F (.fn 1 (.pr X (.int 35)))/\E.I F (.fn 1 (.pr X (.int 35)))<=10/\-1<=E.I F (.fn 1 (.pr X (.int 36)))/\E.I F (.fn 1 (.pr X (.int 36)))<=1/\0<=E.I F (.fn 1 (.pr X (.int 37)))/\E.I F (.fn 1 (.pr X (.int 37)))<=2/\E.I F (.fn 9 (.pr (.fn 1 (.pr X (.int 0))) (.int 12)))<=500/\E.I F (.fn 9 (.pr (.fn 1 (.pr X (.int 29))) (.int 5)))<=200/\E.I F (.fn 9 (.pr (.fn 1 (.pr X (.int 30))) (.int 5)))<=200/\0<=E.I F (.fn 1 (.pr X (.int 1)))/\E.I F (.fn 1 (.pr X (.int 1)))<=9999/\0<=E.I F (.fn 1 (.pr X (.int 2)))/\E.I F (.fn 1 (.pr X (.int 2)))<=99/\0<=E.I F (.fn 1 (.pr X (.int 3)))/\E.I F (.fn 1 (.pr X (.int 3)))<=99/\0<=E.I F (.fn 1 (.pr X (.int 4)))/\E.I F (.fn 1 (.pr X (.int 4)))<=99/\0<=E.I F (.fn 1 (.pr X (.int 5)))/\E.I F (.fn 1 (.pr X (.int 5)))<=99/\0<=E.I F (.fn 1 (.pr X (.int 13)))/\E.I F (.fn 1 (.pr X (.int 13)))<=7/\0<=E.I F (.fn 1 (.pr X (.int 14)))/\E.I F (.fn 1 (.pr X (.int 14)))<=255/\0<=E.I F (.fn 1 (.pr X (.int 15)))/\E.I F (.fn 1 (.pr X (.int 15)))<=9999/\0<=E.I F (.fn 1 (.pr X (.int 16)))/\E.I F (.fn 1 (.pr X (.int 16)))<=99/\0<=E.I F (.fn 1 (.pr X (.int 17)))/\E.I F (.fn 1 (.pr X (.int 17)))<=99/\0<=E.I F (.fn 1 (.pr X (.int 18)))/\E.I F (.fn 1 (.pr X (.int 18)))<=99/\0<=E.I F (.fn 1 (.pr X (.int 19)))/\E.I F (.fn 1 (.pr X (.int 19)))<=99/\0<=E.I F (.fn 1 (.pr X (.int 27)))/\E.I F (.fn 1 (.pr X (.int 27)))<=7/\0<=E.I F (.fn 1 (.pr X (.int 28)))/\E.I F (.fn 1 (.pr X (.int 28)))<=255/\E.B F (.fn 103 (.pr (.fn 1 (.pr X (.int 29))) (.pr (.bool false) (.fn 9 (.pr (.fn 1 (.pr X (.int 29))) (.int 5))))))=true/\E.B F (.fn 103 (.pr (.fn 1 (.pr X (.int 30))) (.pr (.bool true) (.fn 9 (.pr (.fn 1 (.pr X (.int 30))) (.int 5))))))=true/\E.B F (.fn 125 X)=true/\E.B F (.fn 129 X)=true):=by
 show(qE _=true)=_
 have e34:E.I F (.fn 1 (.pr X (.int 34)))=iX (X.den F) 34:=rfl;have e33:E.I F (.fn 1 (.pr X (.int 33)))=iX (X.den F) 33:=rfl;have e35:E.I F (.fn 1 (.pr X (.int 35)))=iX (X.den F) 35:=rfl;have e36:E.I F (.fn 1 (.pr X (.int 36)))=iX (X.den F) 36:=rfl;have e37:E.I F (.fn 1 (.pr X (.int 37)))=iX (X.den F) 37:=rfl;have e1:E.I F (.fn 1 (.pr X (.int 1)))=iX (X.den F) 1:=rfl;have e2:E.I F (.fn 1 (.pr X (.int 2)))=iX (X.den F) 2:=rfl;have e3:E.I F (.fn 1 (.pr X (.int 3)))=iX (X.den F) 3:=rfl;have e4:E.I F (.fn 1 (.pr X (.int 4)))=iX (X.den F) 4:=rfl;have e5:E.I F (.fn 1 (.pr X (.int 5)))=iX (X.den F) 5:=rfl;have e13:E.I F (.fn 1 (.pr X (.int 13)))=iX (X.den F) 13:=rfl;have e14:E.I F (.fn 1 (.pr X (.int 14)))=iX (X.den F) 14:=rfl;have e15:E.I F (.fn 1 (.pr X (.int 15)))=iX (X.den F) 15:=rfl;have e16:E.I F (.fn 1 (.pr X (.int 16)))=iX (X.den F) 16:=rfl;have e17:E.I F (.fn 1 (.pr X (.int 17)))=iX (X.den F) 17:=rfl;have e18:E.I F (.fn 1 (.pr X (.int 18)))=iX (X.den F) 18:=rfl;have e19:E.I F (.fn 1 (.pr X (.int 19)))=iX (X.den F) 19:=rfl;have e27:E.I F (.fn 1 (.pr X (.int 27)))=iX (X.den F) 27:=rfl;have e28:E.I F (.fn 1 (.pr X (.int 28)))=iX (X.den F) 28:=rfl;have q0:E.I F (.fn 9 (.pr (.fn 1 (.pr X (.int 0))) (.int 12)))=aJ (X.den F):=rfl;have q29:E.I F (.fn 9 (.pr (.fn 1 (.pr X (.int 29))) (.int 5)))=cy (X.den F):=rfl;have q30:E.I F (.fn 9 (.pr (.fn 1 (.pr X (.int 30))) (.int 5)))=((cX (X.den F) 30).toL.length/5:Nat):=rfl;have l29:E.L F (.fn 1 (.pr X (.int 29)))=(cX (X.den F) 29).toL:=rfl;have l30:E.L F (.fn 1 (.pr X (.int 30)))=(cX (X.den F) 30).toL:=rfl;have bt:E.B F (.bool _)=true:=rfl;have bf:E.B F (.bool _)=false:=rfl;have za:(E.B F (.fn 125 X)=true)=(uY _=true):=rfl;have zb:(E.B F (.fn 129 X)=true)=(uR _=true):=rfl
 rw[za,zb,vS,vS,l29,l30,bt,bf,q29,q30,q0,e34,e33,e35,e36,e37,e1,e2,e3,e4,e5,e13,e14,e15,e16,e17,e18,e19,e27,e28,Int.toNat_natCast,Int.toNat_natCast]
 unfold qE yE sg ye;simp only[Bool.and_eq_true,iz,List.all_cons];grind
end
end Go.SX

set_option linter.unusedVariables false
set_option linter.unusedSimpArgs false
namespace Go.SX
/-! ### all objects in just one place: the program's way -/
theorem aoJ(X:U)(s:Nat):kf X (s+1)=kf X s++if nI (cX X 29).toL (s*5+3)<0 then [(nI (cX X 29).toL (s*5+1),nI (cX X 29).toL (s*5))] else []:=by
 grind[kf,KB]
theorem a4a(X:U)(s:Nat):jv X (s+1)=jv X s++if nI (cX X 29).toL (s*5+3)<0 then [(nI (cX X 29).toL (s*5+1),nI (cX X 29).toL (s*5+2))] else []:=by
 grind[jv,KB]
theorem TB(X:U)(s:Nat):(jv X s).map Prod.fst=(kf X s).map Prod.fst:=by
 simp_all[jv,kf]
theorem a4c(X:U):kf X 0=[]:=by rfl
theorem Jf{m:List U}{l:List (Int×Int)}(h:jn m l=true)(k:Int):(d5 k m).isSome=true↔k∈l.map Prod.fst:=by
 simp_all[De,Sb]
section
variable {F:Env} {x y l A a b k u i j p q n m r o c d w v X T N L L2 mc s p' q' i':E}
theorem D9:E.B F (.fn 33 (.pr m k))=(d5 (E.I F k) (E.L F m)).isSome:=rfl
theorem Lo:(E.B F (.fn 104 (.pr m (.pr X (.pr p (.pr q i)))))=true)=(jn (E.L F m) (fV (X.den F) ((E.I F p).toNat*4+(E.I F q).toNat) (E.I F i).toNat)=true):=rfl
theorem zx:(E.B F (.fn 105 (.pr m (.pr X s)))=true)=(jn (E.L F m) (fV (X.den F) 8 0++kf (X.den F) (E.I F s).toNat)=true):=rfl
theorem DW:(E.B F (.fn 106 (.pr m (.pr X s)))=true)=(jn (E.L F m) (jv (X.den F) (E.I F s).toNat)=true):=rfl
theorem Ur:(E.B F (.fn 107 (.pr X n))=true)=(yG (X.den F) (E.I F n).toNat=true):=rfl
theorem aoU(h:E.B F (.fn 104 (.pr m (.pr X (.pr p (.pr q i)))))=true)(h1:0<=E.I F p)(h2:0<=E.I F q)(h3:0<=E.I F p')(h4:0<=E.I F q')(hk:E.I F p'*4+E.I F q'=E.I F p*4+E.I F q)(hi:E.I F i'=E.I F i):
  E.B F (.fn 104 (.pr m (.pr X (.pr p' (.pr q' i')))))=true:=by
 grind[Lo]
theorem a4v(h:E.B F (.fn 104 (.pr m (.pr X (.pr p (.pr q i)))))=true)(hL:E.B F (.fn 109 (.pr L (.pr X (.pr p q))))=true)(h2:0<=E.I F q)(hi:E.I F i=E.I F (.fn 0 L))(hq:E.I F q'=E.I F q+1)(hz:E.I F i'=0):
  E.B F (.fn 104 (.pr m (.pr X (.pr p (.pr q' i')))))=true:=by
 grind[Lo,zz,br,a0N]
theorem KM(h:E.B F (.fn 104 (.pr m (.pr X (.pr p (.pr q i)))))=true)(hL:E.B F (.fn 109 (.pr L (.pr X (.pr p q))))=true)(h0:0<=E.I F p)(h1:0<=E.I F q)(h2:E.I F q<4)(hi:0<=E.I F i)(hi':E.I F i<E.I F (.fn 0 L))(hn:E.I F n=E.I F i+1)(hp:E.I F p<=1):
  (¬E.B F (.fn 33 (.pr m (.fn 1 (.pr L i))))=true->E.B F (.fn 104 (.pr (.fn 34 (.pr m (.pr (.fn 1 (.pr L i)) p))) (.pr X (.pr p (.pr q n)))))=true)/\
  (E.B F (.fn 33 (.pr m (.fn 1 (.pr L i))))=true->¬E.B F (.fn 108 X)=true):=by
 rw[Lo]at *
 rw[zz]at hL
 have ei:(E.I F n).toNat=(E.I F i).toNat+1:=by omega
 have hlt:(E.I F i).toNat<(bg (X.den F) ((E.I F p).toNat*4+(E.I F q).toNat)).length:=by grind[br]
 have ek:((E.I F p).toNat*4+(E.I F q).toNat)/4=(E.I F p).toNat:=by omega
 have hs:=a0O _ _ _ hlt
 rw[ek,<- hL,<- fh,Int.toNat_of_nonneg h0]at hs
 refine⟨fun hn'=>?_,fun ht=>?_⟩
 ·rw[ei,wt,hs]
  exact R9 h hn'
 ·rw[D9,Jf h]at ht
  rw[zy]
  refine amM (k:=E.I F _) (v:=E.I F p) ?_ ht
  have:=Kd (X.den F) ((E.I F p).toNat*4+(E.I F q).toNat) ((E.I F i).toNat+1) (by omega)
  simp_all
theorem a4x(h:E.B F (.fn 104 (.pr m (.pr X (.pr p (.pr q i)))))=true)(h1:E.I F p=2)(h2:E.I F q=0)(h3:E.I F i=0)(hs:E.I F s=0):E.B F (.fn 105 (.pr m (.pr X s)))=true:=by
 rw[Lo,h1,h2,h3]at h
 rw[zx,hs]
 have e:(0:Int).toNat=0:=rfl
 rw[e,a4c,List.append_nil];exact h
theorem a4w(h:E.B F (.fn 105 (.pr m (.pr X s)))=true)(e:E.I F n=E.I F s):E.B F (.fn 105 (.pr m (.pr X n)))=true:=by
 simp_all[zx]
theorem a4y(h:E.B F (.fn 106 (.pr m (.pr X s)))=true)(e:E.I F n=E.I F s):E.B F (.fn 106 (.pr m (.pr X n)))=true:=by
 simp_all[DW]
theorem nl(h0:0<=E.I F s)(c:Nat):nI (cX (X.den F) 29).toL ((E.I F s).toNat*5+c)=E.I F (.fn 1 (.pr (.fn 1 (.pr X (.int 29))) (.fn 6 (.pr (.fn 8 (.pr s (.int 5))) (.int (Int.ofNat c)))))):=
 (nw (T:=.fn 1 (.pr X (.int 29))) s 5 c h0).symm
theorem DQ(h:E.B F (.fn 105 (.pr m (.pr X s)))=true)(h':E.B F (.fn 106 (.pr mc (.pr X s)))=true)(h0:0<=E.I F s)(h1:E.I F s<E.I F (.fn 9 (.pr (.fn 1 (.pr X (.int 29))) (.int 5))))(hn:E.I F n=E.I F s+1)
  {pl id cd tr:E}(e0:pl=.fn 1 (.pr (.fn 1 (.pr X (.int 29))) (.fn 6 (.pr (.fn 8 (.pr s (.int 5))) (.int 0)))))(e1:id=.fn 1 (.pr (.fn 1 (.pr X (.int 29))) (.fn 6 (.pr (.fn 8 (.pr s (.int 5))) (.int 1)))))
  (e2:cd=.fn 1 (.pr (.fn 1 (.pr X (.int 29))) (.fn 6 (.pr (.fn 8 (.pr s (.int 5))) (.int 2)))))(e3:tr=.fn 1 (.pr (.fn 1 (.pr X (.int 29))) (.fn 6 (.pr (.fn 8 (.pr s (.int 5))) (.int 3))))):
  (¬E.I F tr<0->E.B F (.fn 105 (.pr m (.pr X n)))=true/\E.B F (.fn 106 (.pr mc (.pr X n)))=true)/\
  (E.I F tr<0->E.B F (.fn 33 (.pr m id))=true->¬E.B F (.fn 108 X)=true)/\
  (E.I F tr<0->¬E.B F (.fn 33 (.pr m id))=true->E.B F (.fn 105 (.pr (.fn 34 (.pr m (.pr id pl))) (.pr X n)))=true/\E.B F (.fn 106 (.pr (.fn 34 (.pr mc (.pr id cd))) (.pr X n)))=true):=by
 subst e0;subst e1;subst e2;subst e3
 rw[zx]at h
 rw[DW]at h'
 have hs:(E.I F s).toNat<cy (X.den F):=by
  have:E.I F (.fn 9 (.pr (.fn 1 (.pr X (.int 29))) (.int 5)))=cy (X.den F):=rfl
  omega
 have en:(E.I F n).toNat=(E.I F s).toNat+1:=by omega
 have c0:=nl (X:=X) h0 0;have c1:=nl (X:=X) h0 1;have c2:=nl (X:=X) h0 2;have c3:=nl (X:=X) h0 3;simp only[Nat.add_zero]at c0;have k3:(Int.ofNat 3)=3:=rfl
 rw[k3]at c3
 have sp:=aoJ (X.den F) (E.I F s).toNat;have sc:=a4a (X.den F) (E.I F s).toNat
 rw[c0,c1,c3]at sp
 rw[c1,c2,c3]at sc
 refine⟨fun ht=>?_,fun ht hb=>?_,fun ht hb=>?_⟩
 ·simp_all[zx,DW]
 ·rw[D9,Jf h]at hb
  rw[zy]
  refine amM (k:=E.I F _) (v:=E.I F (.fn 1 (.pr (.fn 1 (.pr X (.int 29))) (.fn 6 (.pr (.fn 8 (.pr s (.int 5))) (.int 0)))))) ?_ hb;grind[a4b]
 ·rw[if_pos ht]at sp sc
  rw[D9]at hb
  rw[zx,DW,en,sp,sc,wt,wt,<- List.append_assoc]
  refine⟨R9 h hb,R9 h' ?_⟩
  rw[Jf h,List.map_append,List.mem_append]at hb
  grind[Jf,TB]
theorem gz(h0:0<=E.I F i)(c:Nat):oI (X.den F) (E.I F i).toNat c=E.I F (.fn 1 (.pr (.fn 1 (.pr X (.int 0))) (.fn 6 (.pr (.fn 8 (.pr i (.int 12))) (.int (Int.ofNat c)))))):=
 (nw (T:=.fn 1 (.pr X (.int 0))) i 12 c h0).symm
theorem ak2{l:List (Int×Int)}(h:jn (E.L F m) l=true)(hb:E.B F (.fn 33 (.pr m k))=true):gu l (E.I F k)=some (E.I F (.fn 32 (.pr m (.pr k (.int 0))))):=by
 rw[De]at h
 rw[D9]at hb
 rw[<- h.1,<- Jh]
 have e:E.I F (.fn 32 (.pr m (.pr k (.int 0))))=((d5 (E.I F k) (E.L F m)).getD _).toI:=rfl
 rw[e]
 cases hc:d5 _ _ with
 |none=>simp_all
 |some v=>rfl
theorem ak3{l:List (Int×Int)}(h:jn (E.L F m) l=true)(hb:¬E.B F (.fn 33 (.pr m k))=true):gu l (E.I F k)=none:=by
 rw[De]at h
 rw[D9]at hb
 rw[<- h.1,<- Jh]
 simp_all
theorem DA{Y:U}(h:du Y=true):yG Y (aJ Y)=true:=by
 simp_all[du]
/-- an object -/
theorem a55(hm:E.B F (.fn 105 (.pr m (.pr X (.fn 9 (.pr (.fn 1 (.pr X (.int 29))) (.int 5))))))=true)(hc:E.B F (.fn 106 (.pr mc (.pr X (.fn 9 (.pr (.fn 1 (.pr X (.int 29))) (.int 5))))))=true)(h:E.B F (.fn 107 (.pr X i))=true)
    (h0:0<=E.I F i)(hi:E.I F i<E.I F (.fn 9 (.pr (.fn 1 (.pr X (.int 0))) (.int 12))))(hn:E.I F n=E.I F i+1){t:E}(ht:0<E.I F i->E.I F t=E.I F i-1){C:Prop}{f:Nat->E}(hf:f=fun j=> .fn 1 (.pr (.fn 1 (.pr X (.int 0))) (.fn 6 (.pr (.fn 8 (.pr i (.int 12))) (.int (Int.ofNat j))))))
    (hC:C↔(1<=E.I F (f 0)/\E.I F (f 0)<=500/\ -1<=E.I F (f 1)/\E.I F (f 1)<=399/\0<=E.I F (f 2)/\E.I F (f 2)<=1/\(E.I F (f 1)= -1\/(E.I F (f 3)=0/\E.I F (f 4)=0))/\
      0<=E.I F (f 3)/\E.I F (f 3)<=99/\0<=E.I F (f 4)/\E.I F (f 4)<=99/\0<=E.I F (f 5)/\E.I F (f 5)<=99/\0<=E.I F (f 6)/\E.I F (f 6)<=99/\0<=E.I F (f 7)/\E.I F (f 7)<=99/\0<=E.I F (f 8)/\E.I F (f 8)<=99)/\
      (E.I F i=0\/E.I F (.fn 1 (.pr (.fn 1 (.pr X (.int 0))) (.fn 6 (.pr (.fn 8 (.pr t (.int 12))) (.int 0)))))<E.I F (f 0))/\
      (E.B F (.fn 33 (.pr m (f 0)))=true/\E.I F (.fn 32 (.pr m (.pr (f 0) (.int 0))))=E.I F (f 2))/\(E.B F (.fn 33 (.pr mc (f 0)))=true->E.I F (.fn 32 (.pr mc (.pr (f 0) (.int 0))))=E.I F (f 1))):
    (C->E.B F (.fn 107 (.pr X n))=true)/\(¬C->¬E.B F (.fn 108 X)=true):=by
  rw[zx]at hm
  rw[DW]at hc
  have es:(E.I F (.fn 9 (.pr (.fn 1 (.pr X (.int 29))) (.int 5)))).toNat=cy (X.den F):=rfl
  rw[es]at hm hc
  have hall:jn (E.L F m) (dg (X.den F))=true:=hm;have hi':(E.I F i).toNat<aJ (X.den F):=by
    have:E.I F (.fn 9 (.pr (.fn 1 (.pr X (.int 0))) (.int 12)))=((aJ (X.den F):Nat):Int):=rfl
    omega
  have fc:∀j,E.I F (f j)=oI (X.den F) (E.I F i).toNat j:=by
    simp_all[gz]
  have hprev:(E.I F i=0\/E.I F (.fn 1 (.pr (.fn 1 (.pr X (.int 0))) (.fn 6 (.pr (.fn 8 (.pr t (.int 12))) (.int 0)))))<E.I F (f 0))↔((E.I F i).toNat=0\/oI (X.den F) ((E.I F i).toNat-1) 0<oI (X.den F) (E.I F i).toNat 0):=by
    by_cases hz:E.I F i=0
    · omega
    · have ht':=ht (by omega);have e:=gz (X:=X) (i:=t) (F:=F) (by omega) 0;grind
  have hown:(E.B F (.fn 33 (.pr m (f 0)))=true/\E.I F (.fn 32 (.pr m (.pr (f 0) (.int 0))))=E.I F (f 2))↔gu (dg (X.den F)) (oI (X.den F) (E.I F i).toNat 0)=some (oI (X.den F) (E.I F i).toNat 2):=by
    grind[E.B,ak2,ak3]
  have hcard:(E.B F (.fn 33 (.pr mc (f 0)))=true->E.I F (.fn 32 (.pr mc (.pr (f 0) (.int 0))))=E.I F (f 1))↔(∀c,gu (jv (X.den F) (cy (X.den F))) (oI (X.den F) (E.I F i).toNat 0)=some c->c=oI (X.den F) (E.I F i).toNat 1):=by
    grind[E.B,ak2,ak3]
  have key:C↔(vo (X.den F) (E.I F i).toNat=true/\((E.I F i).toNat=0\/oI (X.den F) ((E.I F i).toNat-1) 0<oI (X.den F) (E.I F i).toNat 0)/\gu (dg (X.den F)) (oI (X.den F) (E.I F i).toNat 0)=some (oI (X.den F) (E.I F i).toNat 2)/\(∀c,gu (jv (X.den F) (cy (X.den F))) (oI (X.den F) (E.I F i).toNat 0)=some c->c=oI (X.den F) (E.I F i).toNat 1)):=by
    grind[vp]
  rw[Ur,oE]at h
  refine⟨fun hc'=>?_,fun hc' hp=>?_⟩
  · rw[Ur,oE]
    intro k hk;by_cases e:k=(E.I F i).toNat
    · grind
    · exact h k (by omega)
  grind[zy,oE,DA]
theorem a56(hm:E.B F (.fn 105 (.pr m (.pr X (.fn 9 (.pr (.fn 1 (.pr X (.int 29))) (.int 5))))))=true)(hc:E.B F (.fn 106 (.pr mc (.pr X (.fn 9 (.pr (.fn 1 (.pr X (.int 29))) (.int 5))))))=true)(h:E.B F (.fn 107 (.pr X i))=true)
  {t a0 a1 a2 a3 a4 a5 a6 a7 a8:E}(e0:a0=.fn 1 (.pr (.fn 1 (.pr X (.int 0))) (.fn 6 (.pr (.fn 8 (.pr i (.int 12))) (.int 0)))))(e1:a1=.fn 1 (.pr (.fn 1 (.pr X (.int 0))) (.fn 6 (.pr (.fn 8 (.pr i (.int 12))) (.int 1)))))(e2:a2=.fn 1 (.pr (.fn 1 (.pr X (.int 0))) (.fn 6 (.pr (.fn 8 (.pr i (.int 12))) (.int 2)))))(e3:a3=.fn 1 (.pr (.fn 1 (.pr X (.int 0))) (.fn 6 (.pr (.fn 8 (.pr i (.int 12))) (.int 3)))))(e4:a4=.fn 1 (.pr (.fn 1 (.pr X (.int 0))) (.fn 6 (.pr (.fn 8 (.pr i (.int 12))) (.int 4)))))(e5:a5=.fn 1 (.pr (.fn 1 (.pr X (.int 0))) (.fn 6 (.pr (.fn 8 (.pr i (.int 12))) (.int 5)))))(e6:a6=.fn 1 (.pr (.fn 1 (.pr X (.int 0))) (.fn 6 (.pr (.fn 8 (.pr i (.int 12))) (.int 6)))))(e7:a7=.fn 1 (.pr (.fn 1 (.pr X (.int 0))) (.fn 6 (.pr (.fn 8 (.pr i (.int 12))) (.int 7)))))(e8:a8=.fn 1 (.pr (.fn 1 (.pr X (.int 0))) (.fn 6 (.pr (.fn 8 (.pr i (.int 12))) (.int 8)))))
  (h0:0<=E.I F i)(hi:E.I F i<E.I F (.fn 9 (.pr (.fn 1 (.pr X (.int 0))) (.int 12))))(hn:E.I F n=E.I F i+1)(ht:0<E.I F i->E.I F t=E.I F i-1):
  (((1<=E.I F a0/\E.I F a0<=500/\-1<=E.I F a1/\E.I F a1<=399/\0<=E.I F a2/\E.I F a2<=1/\(E.I F a1=-1\/(E.I F a3=0/\E.I F a4=0))/\0<=E.I F a3/\E.I F a3<=99/\0<=E.I F a4/\E.I F a4<=99/\0<=E.I F a5/\E.I F a5<=99/\0<=E.I F a6/\E.I F a6<=99/\0<=E.I F a7/\E.I F a7<=99/\0<=E.I F a8/\E.I F a8<=99)/\(E.I F i=0\/E.I F (.fn 1 (.pr (.fn 1 (.pr X (.int 0))) (.fn 6 (.pr (.fn 8 (.pr t (.int 12))) (.int 0)))))<E.I F a0)/\(E.B F (.fn 33 (.pr m a0))=true/\E.I F (.fn 32 (.pr m (.pr a0 (.int 0))))=E.I F a2)/\(E.B F (.fn 33 (.pr mc a0))=true->E.I F (.fn 32 (.pr mc (.pr a0 (.int 0))))=E.I F a1))->E.B F (.fn 107 (.pr X n))=true)/\(¬((1<=E.I F a0/\E.I F a0<=500/\-1<=E.I F a1/\E.I F a1<=399/\0<=E.I F a2/\E.I F a2<=1/\(E.I F a1=-1\/(E.I F a3=0/\E.I F a4=0))/\0<=E.I F a3/\E.I F a3<=99/\0<=E.I F a4/\E.I F a4<=99/\0<=E.I F a5/\E.I F a5<=99/\0<=E.I F a6/\E.I F a6<=99/\0<=E.I F a7/\E.I F a7<=99/\0<=E.I F a8/\E.I F a8<=99)/\(E.I F i=0\/E.I F (.fn 1 (.pr (.fn 1 (.pr X (.int 0))) (.fn 6 (.pr (.fn 8 (.pr t (.int 12))) (.int 0)))))<E.I F a0)/\(E.B F (.fn 33 (.pr m a0))=true/\E.I F (.fn 32 (.pr m (.pr a0 (.int 0))))=E.I F a2)/\(E.B F (.fn 33 (.pr mc a0))=true->E.I F (.fn 32 (.pr mc (.pr a0 (.int 0))))=E.I F a1))->¬E.B F (.fn 108 X)=true):=by
 subst e0;subst e1;subst e2;subst e3;subst e4;subst e5;subst e6;subst e7;subst e8;exact a55 hm hc h h0 hi hn ht (f:=fun j=>.fn 1 _) rfl Iff.rfl
theorem cz{a0 a1 a2 a3 a4 a5 a6 a7 a8:E}:(E.B F (.fn 137 (.pr a0 (.pr a1 (.pr a2 (.pr a3 (.pr a4 (.pr a5 (.pr a6 (.pr a7 a8)))))))))=true)=(1<=E.I F a0/\E.I F a0<=500/\-1<=E.I F a1/\E.I F a1<=399/\0<=E.I F a2/\E.I F a2<=1/\(E.I F a1=-1\/(E.I F a3=0/\E.I F a4=0))/\0<=E.I F a3/\E.I F a3<=99/\0<=E.I F a4/\E.I F a4<=99/\0<=E.I F a5/\E.I F a5<=99/\0<=E.I F a6/\E.I F a6<=99/\0<=E.I F a7/\E.I F a7<=99/\0<=E.I F a8/\E.I F a8<=99):=by
 show(So (E.I F a0) (E.I F a1) (E.I F a2) (E.I F a3) (E.I F a4) (E.I F a5) (E.I F a6) (E.I F a7) (E.I F a8)=true)=_
 unfold So;simp only[List.all_cons,List.all_nil,Bool.and_eq_true,Bool.or_eq_true,iz,beq_iff_eq,and_assoc,and_true]
theorem lW(hm:E.B F (.fn 105 (.pr m (.pr X (.fn 9 (.pr (.fn 1 (.pr X (.int 29))) (.int 5))))))=true)(hc:E.B F (.fn 106 (.pr mc (.pr X (.fn 9 (.pr (.fn 1 (.pr X (.int 29))) (.int 5))))))=true)(h:E.B F (.fn 107 (.pr X i))=true)
  {t a0 a1 a2 a3 a4 a5 a6 a7 a8:E}(e0:a0=.fn 1 (.pr (.fn 1 (.pr X (.int 0))) (.fn 6 (.pr (.fn 8 (.pr i (.int 12))) (.int 0)))))(e1:a1=.fn 1 (.pr (.fn 1 (.pr X (.int 0))) (.fn 6 (.pr (.fn 8 (.pr i (.int 12))) (.int 1)))))(e2:a2=.fn 1 (.pr (.fn 1 (.pr X (.int 0))) (.fn 6 (.pr (.fn 8 (.pr i (.int 12))) (.int 2)))))(e3:a3=.fn 1 (.pr (.fn 1 (.pr X (.int 0))) (.fn 6 (.pr (.fn 8 (.pr i (.int 12))) (.int 3)))))(e4:a4=.fn 1 (.pr (.fn 1 (.pr X (.int 0))) (.fn 6 (.pr (.fn 8 (.pr i (.int 12))) (.int 4)))))(e5:a5=.fn 1 (.pr (.fn 1 (.pr X (.int 0))) (.fn 6 (.pr (.fn 8 (.pr i (.int 12))) (.int 5)))))(e6:a6=.fn 1 (.pr (.fn 1 (.pr X (.int 0))) (.fn 6 (.pr (.fn 8 (.pr i (.int 12))) (.int 6)))))(e7:a7=.fn 1 (.pr (.fn 1 (.pr X (.int 0))) (.fn 6 (.pr (.fn 8 (.pr i (.int 12))) (.int 7)))))(e8:a8=.fn 1 (.pr (.fn 1 (.pr X (.int 0))) (.fn 6 (.pr (.fn 8 (.pr i (.int 12))) (.int 8)))))
  (h0:0<=E.I F i)(hi:E.I F i<E.I F (.fn 9 (.pr (.fn 1 (.pr X (.int 0))) (.int 12))))(hn:E.I F n=E.I F i+1)(ht:0<E.I F i->E.I F t=E.I F i-1):
  (((E.B F (.fn 137 (.pr a0 (.pr a1 (.pr a2 (.pr a3 (.pr a4 (.pr a5 (.pr a6 (.pr a7 a8)))))))))=true)/\(E.I F i=0\/E.I F (.fn 1 (.pr (.fn 1 (.pr X (.int 0))) (.fn 6 (.pr (.fn 8 (.pr t (.int 12))) (.int 0)))))<E.I F a0)/\(E.B F (.fn 33 (.pr m a0))=true/\E.I F (.fn 32 (.pr m (.pr a0 (.int 0))))=E.I F a2)/\(E.B F (.fn 33 (.pr mc a0))=true->E.I F (.fn 32 (.pr mc (.pr a0 (.int 0))))=E.I F a1))->E.B F (.fn 107 (.pr X n))=true)/\(¬((E.B F (.fn 137 (.pr a0 (.pr a1 (.pr a2 (.pr a3 (.pr a4 (.pr a5 (.pr a6 (.pr a7 a8)))))))))=true)/\(E.I F i=0\/E.I F (.fn 1 (.pr (.fn 1 (.pr X (.int 0))) (.fn 6 (.pr (.fn 8 (.pr t (.int 12))) (.int 0)))))<E.I F a0)/\(E.B F (.fn 33 (.pr m a0))=true/\E.I F (.fn 32 (.pr m (.pr a0 (.int 0))))=E.I F a2)/\(E.B F (.fn 33 (.pr mc a0))=true->E.I F (.fn 32 (.pr mc (.pr a0 (.int 0))))=E.I F a1))->¬E.B F (.fn 108 X)=true):=by
 rw[cz]
 exact a56 hm hc h e0 e1 e2 e3 e4 e5 e6 e7 e8 h0 hi hn ht
theorem a58(hm:E.B F (.fn 105 (.pr m (.pr X (.fn 9 (.pr (.fn 1 (.pr X (.int 29))) (.int 5))))))=true)(h:E.B F (.fn 107 (.pr X i))=true)(hi:E.I F (.fn 9 (.pr (.fn 1 (.pr X (.int 0))) (.int 12)))=E.I F i):
  (E.I F (.fn 0 m)=E.I F (.fn 9 (.pr (.fn 1 (.pr X (.int 0))) (.int 12))))↔E.B F (.fn 108 X)=true:=by
 have hall:jn (E.L F m) (dg (X.den F))=true:=hm
 rw[De]at hall
 have hl:(E.L F m).length=(dg (X.den F)).length:=by grind[kc]
 have e9:E.I F (.fn 9 (.pr (.fn 1 (.pr X (.int 0))) (.int 12)))=aJ (X.den F):=rfl;have e0:E.I F (.fn 0 m)=(E.L F m).length:=rfl
 rw[Ur]at h
 rw[zy,e9,e0,hl]
 unfold du
 rw[Bool.and_eq_true,Bool.and_eq_true,r8,beq_iff_eq]
 grind
end
end Go.SX

set_option linter.unusedVariables false
set_option linter.unusedSimpArgs false
namespace Go.SX
/-! ### valid boards: the reference's way -/
theorem ais(X:U)(n:Nat):uH X n=true↔∀i,i<n->((bn X).count (nI (cX X 31).toL i)=1/\(iC X).count (nI (cX X 31).toL i)=1):=by
 simp_all[uH]
theorem HV(X:U)(i k:Nat):xB X i k=true↔∀q,q<k->(¬blk X q 1=blk X i 1/\¬blk X q 0=blk X i 0):=by
 simp_all[xB]
theorem Ca(X:U)(n:Nat):xC X n=true↔∀i,i<n->(((bn X).count (blk X i 1)=1/\(gA X).count (blk X i 0)=1)/\xB X i i=true):=by
 simp_all[xC]
theorem CD(X:U):uR X=true↔uH X (bn X).length=true/\xC X (fe X)=true:=by
 simp_all[uR]
theorem Dp(X:U)(n:Nat):yH X n=true↔∀i,i<n->(vo X i=true/\(i=0\/oI X (i-1) 0<oI X i 0)/\sd X (oI X i 2).toNat (oI X i 0)=1):=by
 simp_all[yH,and_assoc]
def TJ(X:U)(i:Nat):Prop:=nI (cX X 29).toL (i*5+3)<0->(0<=cO X (nI (cX X 29).toL (i*5+1)) (aJ X)/\oI X (cO X (nI (cX X 29).toL (i*5+1)) (aJ X)).toNat 1=nI (cX X 29).toL (i*5+2))
theorem KA(X:U)(s:Nat):zf X s=true↔∀i,i<s->TJ X i:=by
 grind[zf,lf,TJ]
theorem IE(X:U):uY X=true↔zf X (cy X)=true/\yH X (aJ X)=true/\Dd X=aJ X:=by
 simp_all[uY,and_assoc]
theorem aYw(X:U)(k:Int)(n i:Nat)(hi:i<n)(h:cO X k i=-1)(he:oI X i 0=k):cO X k n=i:=by
 unfold cO at *;have e:List.range n=List.range i++(i::(List.range (n-i-1)).map (fun x=>i+1+x)):=by
  have h1:List.range n=List.range (i+(n-i)):=by grind
  rw[h1,List.range_add]
  congr 1;have h2:n-i=(n-i-1)+1:=by omega
  rw[h2,List.range_succ_eq_map,List.map_cons,List.map_map]
  congr 1;grind[List.map_congr_left]
 grind
theorem aYy(X:U)(k:Int)(i:Nat)(h:cO X k i=-1)(he:¬oI X i 0=k):cO X k (i+1)=-1:=by
 grind[cO]
section
variable {F:Env} {x y l A a b k u i j p q n m r o c d w v X T N L L2 mc s:E}
theorem lj:E.I F (.fn 121 (.pr l k))=(((aq F l).count (E.I F k):Nat):Int):=rfl
theorem a4I(h:E.I F (.fn 0 l)<=E.I F n):E.I F (.fn 121 (.pr l k))=E.I F (.fn 131 (.pr l (.pr k n))):=by
 grind[lj,Ej,br,List.take_of_length_le]
theorem qL:E.I F (.fn 120 (.pr X (.pr k n)))=cO (X.den F) (E.I F k) (E.I F n).toNat:=rfl
theorem a4H(e:E.I F n=E.I F i):E.I F (.fn 120 (.pr X (.pr k n)))=E.I F (.fn 120 (.pr X (.pr k i))):=by
 simp_all[qL]
theorem aoY(h:E.I F (.fn 120 (.pr X (.pr k i)))=-1){a:E}(ea:a=.fn 1 (.pr (.fn 1 (.pr X (.int 0))) (.fn 6 (.pr (.fn 8 (.pr i (.int 12))) (.int 0)))))(h0:0<=E.I F i)(hi:E.I F i<E.I F N)(hn:E.I F n=E.I F i+1):
  (¬E.I F a=E.I F k->E.I F (.fn 120 (.pr X (.pr k n)))=-1)/\(E.I F a=E.I F k->E.I F (.fn 120 (.pr X (.pr k N)))=E.I F i):=by
 subst ea;have e:=gz (X:=X) h0 0;have k0:(Int.ofNat 0)=0:=rfl
 rw[k0]at e
 rw[qL]at h
 have en:(E.I F n).toNat=(E.I F i).toNat+1:=by omega
 grind[qL,aYy,aYw]
/-! places -/
theorem aab:E.I F (.fn 122 (.pr X (.pr p k)))=((sd (X.den F) (E.I F p).toNat (E.I F k):Nat):Int):=rfl
theorem LZ:E.I F (.fn 132 (.pr X (.pr p (.pr q k))))=((uO (X.den F) (E.I F p).toNat (E.I F q).toNat (E.I F k):Nat):Int):=rfl
theorem L0:E.I F (.fn 133 (.pr X (.pr p (.pr k s))))=((rE (X.den F) (E.I F p) (E.I F k) (E.I F s).toNat:Nat):Int):=rfl
theorem a4J(h0:0<=E.I F p)(hs:E.I F s=E.I F (.fn 9 (.pr (.fn 1 (.pr X (.int 29))) (.int 5)))):E.I F (.fn 122 (.pr X (.pr p k)))=E.I F (.fn 132 (.pr X (.pr p (.pr (.int 4) k))))+E.I F (.fn 133 (.pr X (.pr p (.pr k s)))):=by
 rw[aab,LZ,L0,hs]
 have e:(E.I F (.fn 9 (.pr (.fn 1 (.pr X (.int 29))) (.int 5)))).toNat=cy (X.den F):=rfl;have e4:(E.I F (.int 4)).toNat=4:=rfl;grind[sd]
theorem ao1(h:E.I F s<=0):E.I F (.fn 133 (.pr X (.pr p (.pr k s))))=0:=by
 have e:(E.I F s).toNat=0:=by omega
 rw[L0,e];rfl
theorem KO{pl id tr:E}(e0:pl=.fn 1 (.pr (.fn 1 (.pr X (.int 29))) (.fn 6 (.pr (.fn 8 (.pr s (.int 5))) (.int 0)))))(e1:id=.fn 1 (.pr (.fn 1 (.pr X (.int 29))) (.fn 6 (.pr (.fn 8 (.pr s (.int 5))) (.int 1)))))
  (e3:tr=.fn 1 (.pr (.fn 1 (.pr X (.int 29))) (.fn 6 (.pr (.fn 8 (.pr s (.int 5))) (.int 3)))))(h0:0<=E.I F s)(hn:E.I F n=E.I F s+1):
  ((E.I F tr=-1/\E.I F id=E.I F k/\E.I F pl=E.I F p)->E.I F (.fn 133 (.pr X (.pr p (.pr k n))))=E.I F (.fn 133 (.pr X (.pr p (.pr k s))))+1)/\
  (¬(E.I F tr=-1/\E.I F id=E.I F k/\E.I F pl=E.I F p)->E.I F (.fn 133 (.pr X (.pr p (.pr k n))))=E.I F (.fn 133 (.pr X (.pr p (.pr k s))))):=by
 have en:(E.I F n).toNat=(E.I F s).toNat+1:=by omega
 have c0:=nl (X:=X) h0 0;have c1:=nl (X:=X) h0 1;have c3:=nl (X:=X) h0 3;simp_all[L0,rE,List.range_succ]
theorem a4O(h:E.I F p=0):E.I F (.fn 132 (.pr X (.pr p (.pr (.int 4) k))))=E.I F (.fn 121 (.pr (.fn 1 (.pr X (.int 6))) k))+E.I F (.fn 121 (.pr (.fn 1 (.pr X (.int 7))) k))+E.I F (.fn 121 (.pr (.fn 1 (.pr X (.int 8))) k))+E.I F (.fn 121 (.pr (.fn 1 (.pr X (.int 9))) k)):=by
 rw[LZ,h]
 have e4:(E.I F (.int 4)).toNat=4:=rfl;unfold uO;have er:List.range 4=[0,1,2,3]:=rfl
 rw[lj,lj,lj,lj]
 have z0:aq F (.fn 1 (.pr X (.int 6)))=bg (X.den F) (4*0+0):=rfl;have z1:aq F (.fn 1 (.pr X (.int 7)))=bg (X.den F) (4*0+1):=rfl;have z2:aq F (.fn 1 (.pr X (.int 8)))=bg (X.den F) (4*0+2):=rfl;have z3:aq F (.fn 1 (.pr X (.int 9)))=bg (X.den F) (4*0+3):=rfl;grind
theorem a4P(h:E.I F p=1):E.I F (.fn 132 (.pr X (.pr p (.pr (.int 4) k))))=E.I F (.fn 121 (.pr (.fn 1 (.pr X (.int 20))) k))+E.I F (.fn 121 (.pr (.fn 1 (.pr X (.int 21))) k))+E.I F (.fn 121 (.pr (.fn 1 (.pr X (.int 22))) k))+E.I F (.fn 121 (.pr (.fn 1 (.pr X (.int 23))) k)):=by
 rw[LZ,h]
 have e4:(E.I F (.int 4)).toNat=4:=rfl;unfold uO;have er:List.range 4=[0,1,2,3]:=rfl
 rw[lj,lj,lj,lj]
 have z0:aq F (.fn 1 (.pr X (.int 20)))=bg (X.den F) (4*1+0):=rfl;have z1:aq F (.fn 1 (.pr X (.int 21)))=bg (X.den F) (4*1+1):=rfl;have z2:aq F (.fn 1 (.pr X (.int 22)))=bg (X.den F) (4*1+2):=rfl;have z3:aq F (.fn 1 (.pr X (.int 23)))=bg (X.den F) (4*1+3):=rfl;grind
/-! found -/
theorem a4Q:E.I F (.fn 134 (.pr X (.int 8)))=E.I F (.fn 0 (.fn 1 (.pr X (.int 6))))+E.I F (.fn 0 (.fn 1 (.pr X (.int 7))))+E.I F (.fn 0 (.fn 1 (.pr X (.int 8))))+E.I F (.fn 0 (.fn 1 (.pr X (.int 9)))) +
  E.I F (.fn 0 (.fn 1 (.pr X (.int 20))))+E.I F (.fn 0 (.fn 1 (.pr X (.int 21))))+E.I F (.fn 0 (.fn 1 (.pr X (.int 22))))+E.I F (.fn 0 (.fn 1 (.pr X (.int 23)))):=by
 have e:E.I F (.fn 134 (.pr X (.int 8)))=((List.range 8).map fun z=>(bg (X.den F) z).length).sum:=rfl;have er:List.range 8=[0,1,2,3,4,5,6,7]:=rfl
 rw[e,er]
 simp only[List.map_cons,List.map_nil]
 rw[<- br,<- br,<- br,<- br,<- br,<- br,<- br,<- br]
 have z0:aq F (.fn 1 (.pr X (.int 6)))=bg (X.den F) 0:=rfl;have z1:aq F (.fn 1 (.pr X (.int 7)))=bg (X.den F) 1:=rfl;have z2:aq F (.fn 1 (.pr X (.int 8)))=bg (X.den F) 2:=rfl;have z3:aq F (.fn 1 (.pr X (.int 9)))=bg (X.den F) 3:=rfl;have y0:aq F (.fn 1 (.pr X (.int 20)))=bg (X.den F) 4:=rfl;have y1:aq F (.fn 1 (.pr X (.int 21)))=bg (X.den F) 5:=rfl;have y2:aq F (.fn 1 (.pr X (.int 22)))=bg (X.den F) 6:=rfl;have y3:aq F (.fn 1 (.pr X (.int 23)))=bg (X.den F) 7:=rfl;grind
theorem Ek:E.I F (.fn 135 (.pr X s))=(((lf (X.den F) (E.I F s).toNat).length:Nat):Int):=rfl
theorem a4S(h:E.I F s<=0):E.I F (.fn 135 (.pr X s))=0:=by
 have e:(E.I F s).toNat=0:=by omega
 rw[Ek,e];rfl
theorem a4R(e:E.I F n=E.I F s):E.I F (.fn 135 (.pr X n))=E.I F (.fn 135 (.pr X s)):=by simp_all[Ek]
theorem ao2{tr:E}(e3:tr=.fn 1 (.pr (.fn 1 (.pr X (.int 29))) (.fn 6 (.pr (.fn 8 (.pr s (.int 5))) (.int 3)))))(h0:0<=E.I F s)(hn:E.I F n=E.I F s+1):
  (E.I F tr<0->E.I F (.fn 135 (.pr X n))=E.I F (.fn 135 (.pr X s))+1)/\(¬E.I F tr<0->E.I F (.fn 135 (.pr X n))=E.I F (.fn 135 (.pr X s))):=by
 have en:(E.I F n).toNat=(E.I F s).toNat+1:=by omega
 have c3:=nl (X:=X) h0 3;grind[Ek,KB]
theorem Ut:(E.B F (.fn 123 (.pr X s))=true)=(zf (X.den F) (E.I F s).toNat=true):=rfl
theorem Uu:(E.B F (.fn 124 (.pr X n))=true)=(yH (X.den F) (E.I F n).toNat=true):=rfl
theorem Uv:(E.B F (.fn 125 X)=true)=(uY (X.den F)=true):=rfl
theorem a4K(h:E.B F (.fn 123 (.pr X s))=true)(e:E.I F n=E.I F s):E.B F (.fn 123 (.pr X n))=true:=by
 simp_all[Ut]
theorem KX(h:E.B F (.fn 123 (.pr X s))=true){id cd tr v rw1:E}(e1:id=.fn 1 (.pr (.fn 1 (.pr X (.int 29))) (.fn 6 (.pr (.fn 8 (.pr s (.int 5))) (.int 1)))))
  (e2:cd=.fn 1 (.pr (.fn 1 (.pr X (.int 29))) (.fn 6 (.pr (.fn 8 (.pr s (.int 5))) (.int 2)))))(e3:tr=.fn 1 (.pr (.fn 1 (.pr X (.int 29))) (.fn 6 (.pr (.fn 8 (.pr s (.int 5))) (.int 3)))))
  (e4:rw1=.fn 1 (.pr (.fn 1 (.pr X (.int 0))) (.fn 6 (.pr (.fn 8 (.pr v (.int 12))) (.int 1)))))
  (h0:0<=E.I F s)(h1:E.I F s<E.I F (.fn 9 (.pr (.fn 1 (.pr X (.int 29))) (.int 5))))(hn:E.I F n=E.I F s+1):
  (¬E.I F tr<0->E.B F (.fn 123 (.pr X n))=true)/\
  (E.I F tr<0->E.I F v=E.I F (.fn 120 (.pr X (.pr id (.fn 9 (.pr (.fn 1 (.pr X (.int 0))) (.int 12))))))->((0<=E.I F v/\E.I F rw1=E.I F cd)->E.B F (.fn 123 (.pr X n))=true)/\(¬(0<=E.I F v/\E.I F rw1=E.I F cd)->¬E.B F (.fn 125 X)=true)):=by
 subst e3;have hs:(E.I F s).toNat<cy (X.den F):=by
  have:E.I F (.fn 9 (.pr (.fn 1 (.pr X (.int 29))) (.int 5)))=cy (X.den F):=rfl
  omega
 have c1:=nl (X:=X) h0 1;have c2:=nl (X:=X) h0 2;have c3:=nl (X:=X) h0 3;have k3:(Int.ofNat 3)=3:=rfl
 rw[k3]at c3
 have en9:(E.I F (.fn 9 (.pr (.fn 1 (.pr X (.int 0))) (.int 12)))).toNat=aJ (X.den F):=rfl;have ext:TJ (X.den F) (E.I F s).toNat->E.B F (.fn 123 (.pr X n))=true:=by
  grind[Ut,KA]
 refine⟨fun ht=>ext ?_,fun ht hv=>⟨fun hc=>ext ?_,fun hc hf=>hc ?_⟩⟩
 ·intro hh;omega
 ·intro _;grind[qL,gz]
 ·rw[Uv,IE,KA]at hf
  have:=hf.1 _ hs (by omega)
  grind[qL,gz]
theorem a54(h:E.B F (.fn 124 (.pr X i))=true){t a0 a1 a2 a3 a4 a5 a6 a7 a8:E}(e0:a0=.fn 1 (.pr (.fn 1 (.pr X (.int 0))) (.fn 6 (.pr (.fn 8 (.pr i (.int 12))) (.int 0)))))(e1:a1=.fn 1 (.pr (.fn 1 (.pr X (.int 0))) (.fn 6 (.pr (.fn 8 (.pr i (.int 12))) (.int 1)))))(e2:a2=.fn 1 (.pr (.fn 1 (.pr X (.int 0))) (.fn 6 (.pr (.fn 8 (.pr i (.int 12))) (.int 2)))))(e3:a3=.fn 1 (.pr (.fn 1 (.pr X (.int 0))) (.fn 6 (.pr (.fn 8 (.pr i (.int 12))) (.int 3)))))(e4:a4=.fn 1 (.pr (.fn 1 (.pr X (.int 0))) (.fn 6 (.pr (.fn 8 (.pr i (.int 12))) (.int 4)))))(e5:a5=.fn 1 (.pr (.fn 1 (.pr X (.int 0))) (.fn 6 (.pr (.fn 8 (.pr i (.int 12))) (.int 5)))))(e6:a6=.fn 1 (.pr (.fn 1 (.pr X (.int 0))) (.fn 6 (.pr (.fn 8 (.pr i (.int 12))) (.int 6)))))(e7:a7=.fn 1 (.pr (.fn 1 (.pr X (.int 0))) (.fn 6 (.pr (.fn 8 (.pr i (.int 12))) (.int 7)))))(e8:a8=.fn 1 (.pr (.fn 1 (.pr X (.int 0))) (.fn 6 (.pr (.fn 8 (.pr i (.int 12))) (.int 8)))))
  (h0:0<=E.I F i)(hi:E.I F i<E.I F (.fn 9 (.pr (.fn 1 (.pr X (.int 0))) (.int 12))))(hn:E.I F n=E.I F i+1)(ht:0<E.I F i->E.I F t=E.I F i-1):
  (((1<=E.I F a0/\E.I F a0<=500/\-1<=E.I F a1/\E.I F a1<=399/\0<=E.I F a2/\E.I F a2<=1/\(E.I F a1=-1\/(E.I F a3=0/\E.I F a4=0))/\0<=E.I F a3/\E.I F a3<=99/\0<=E.I F a4/\E.I F a4<=99/\0<=E.I F a5/\E.I F a5<=99/\0<=E.I F a6/\E.I F a6<=99/\0<=E.I F a7/\E.I F a7<=99/\0<=E.I F a8/\E.I F a8<=99)/\
   (E.I F i=0\/E.I F (.fn 1 (.pr (.fn 1 (.pr X (.int 0))) (.fn 6 (.pr (.fn 8 (.pr t (.int 12))) (.int 0)))))<E.I F a0)/\E.I F (.fn 122 (.pr X (.pr a2 a0)))=1)->E.B F (.fn 124 (.pr X n))=true)/\
  (¬((1<=E.I F a0/\E.I F a0<=500/\-1<=E.I F a1/\E.I F a1<=399/\0<=E.I F a2/\E.I F a2<=1/\(E.I F a1=-1\/(E.I F a3=0/\E.I F a4=0))/\0<=E.I F a3/\E.I F a3<=99/\0<=E.I F a4/\E.I F a4<=99/\0<=E.I F a5/\E.I F a5<=99/\0<=E.I F a6/\E.I F a6<=99/\0<=E.I F a7/\E.I F a7<=99/\0<=E.I F a8/\E.I F a8<=99)/\
   (E.I F i=0\/E.I F (.fn 1 (.pr (.fn 1 (.pr X (.int 0))) (.fn 6 (.pr (.fn 8 (.pr t (.int 12))) (.int 0)))))<E.I F a0)/\E.I F (.fn 122 (.pr X (.pr a2 a0)))=1)->¬E.B F (.fn 125 X)=true):=by
 subst e0;subst e1;subst e2;subst e3;subst e4;subst e5;subst e6;subst e7;subst e8;have hi':(E.I F i).toNat<aJ (X.den F):=by
  have:E.I F (.fn 9 (.pr (.fn 1 (.pr X (.int 0))) (.int 12)))=((aJ (X.den F):Nat):Int):=rfl
  omega
 have en:(E.I F n).toNat=(E.I F i).toNat+1:=by omega
 have c0:oI (X.den F) (E.I F i).toNat 0=_:=gz (X:=X) h0 0;have c1:oI (X.den F) (E.I F i).toNat 1=_:=gz (X:=X) h0 1;have c2:oI (X.den F) (E.I F i).toNat 2=_:=gz (X:=X) h0 2;have c3:oI (X.den F) (E.I F i).toNat 3=_:=gz (X:=X) h0 3;have c4:oI (X.den F) (E.I F i).toNat 4=_:=gz (X:=X) h0 4;have c5:oI (X.den F) (E.I F i).toNat 5=_:=gz (X:=X) h0 5;have c6:oI (X.den F) (E.I F i).toNat 6=_:=gz (X:=X) h0 6;have c7:oI (X.den F) (E.I F i).toNat 7=_:=gz (X:=X) h0 7;have c8:oI (X.den F) (E.I F i).toNat 8=_:=gz (X:=X) h0 8;have k (z:Nat) (w:Int) (e:Int.ofNat z=w):E.int (Int.ofNat z)=E.int w:=by rw[e]
 rw[k 0 0 rfl]at c0
 rw[k 1 1 rfl]at c1
 rw[k 2 2 rfl]at c2
 rw[k 3 3 rfl]at c3
 rw[k 4 4 rfl]at c4
 rw[k 5 5 rfl]at c5
 rw[k 6 6 rfl]at c6
 rw[k 7 7 rfl]at c7
 rw[k 8 8 rfl]at c8
 have hprev:(E.I F i=0\/E.I F (.fn 1 (.pr (.fn 1 (.pr X (.int 0))) (.fn 6 (.pr (.fn 8 (.pr t (.int 12))) (.int 0)))))<oI (X.den F) (E.I F i).toNat 0)↔((E.I F i).toNat=0\/oI (X.den F) ((E.I F i).toNat-1) 0<oI (X.den F) (E.I F i).toNat 0):=by
  by_cases hz:E.I F i=0
  ·omega
  ·have ht':=ht (by omega);have e:=gz (X:=X) (i:=t) (F:=F) (by omega) 0
   rw[k 0 0 rfl]at e
   have et:(E.I F t).toNat=(E.I F i).toNat-1:=by omega
   grind
 have h122:(E.I F (.fn 122 (.pr X (.pr (.fn 1 (.pr (.fn 1 (.pr X (.int 0))) (.fn 6 (.pr (.fn 8 (.pr i (.int 12))) (.int 2))))) (.fn 1 (.pr (.fn 1 (.pr X (.int 0))) (.fn 6 (.pr (.fn 8 (.pr i (.int 12))) (.int 0))))))))=1)↔sd (X.den F) (oI (X.den F) (E.I F i).toNat 2).toNat (oI (X.den F) (E.I F i).toNat 0)=1:=by
  grind[aab]
 rw[h122,<- c0,<- c1,<- c2,<- c3,<- c4,<- c5,<- c6,<- c7,<- c8,hprev]
 rw[Uu,Dp]at h
 refine⟨fun hc=>?_,fun hc hf=>hc ?_⟩
 ·rw[Uu,Dp,en]
  intro q hq;rcases Nat.lt_or_eq_of_le (Nat.le_of_lt_succ hq)with h2|h2
  all_goals simp_all[vp]
 ·rw[Uv,IE,Dp]at hf
  have:=hf.2.1 _ hi'
  exact⟨(vp _ _).1 this.1,this.2.1,this.2.2⟩
theorem zp(h:E.B F (.fn 124 (.pr X i))=true){t a0 a1 a2 a3 a4 a5 a6 a7 a8:E}(e0:a0=.fn 1 (.pr (.fn 1 (.pr X (.int 0))) (.fn 6 (.pr (.fn 8 (.pr i (.int 12))) (.int 0)))))(e1:a1=.fn 1 (.pr (.fn 1 (.pr X (.int 0))) (.fn 6 (.pr (.fn 8 (.pr i (.int 12))) (.int 1)))))(e2:a2=.fn 1 (.pr (.fn 1 (.pr X (.int 0))) (.fn 6 (.pr (.fn 8 (.pr i (.int 12))) (.int 2)))))(e3:a3=.fn 1 (.pr (.fn 1 (.pr X (.int 0))) (.fn 6 (.pr (.fn 8 (.pr i (.int 12))) (.int 3)))))(e4:a4=.fn 1 (.pr (.fn 1 (.pr X (.int 0))) (.fn 6 (.pr (.fn 8 (.pr i (.int 12))) (.int 4)))))(e5:a5=.fn 1 (.pr (.fn 1 (.pr X (.int 0))) (.fn 6 (.pr (.fn 8 (.pr i (.int 12))) (.int 5)))))(e6:a6=.fn 1 (.pr (.fn 1 (.pr X (.int 0))) (.fn 6 (.pr (.fn 8 (.pr i (.int 12))) (.int 6)))))(e7:a7=.fn 1 (.pr (.fn 1 (.pr X (.int 0))) (.fn 6 (.pr (.fn 8 (.pr i (.int 12))) (.int 7)))))(e8:a8=.fn 1 (.pr (.fn 1 (.pr X (.int 0))) (.fn 6 (.pr (.fn 8 (.pr i (.int 12))) (.int 8)))))
  (h0:0<=E.I F i)(hi:E.I F i<E.I F (.fn 9 (.pr (.fn 1 (.pr X (.int 0))) (.int 12))))(hn:E.I F n=E.I F i+1)(ht:0<E.I F i->E.I F t=E.I F i-1):
  (((E.B F (.fn 137 (.pr a0 (.pr a1 (.pr a2 (.pr a3 (.pr a4 (.pr a5 (.pr a6 (.pr a7 a8)))))))))=true)/\
   (E.I F i=0\/E.I F (.fn 1 (.pr (.fn 1 (.pr X (.int 0))) (.fn 6 (.pr (.fn 8 (.pr t (.int 12))) (.int 0)))))<E.I F a0)/\E.I F (.fn 122 (.pr X (.pr a2 a0)))=1)->E.B F (.fn 124 (.pr X n))=true)/\
  (¬((E.B F (.fn 137 (.pr a0 (.pr a1 (.pr a2 (.pr a3 (.pr a4 (.pr a5 (.pr a6 (.pr a7 a8)))))))))=true)/\
   (E.I F i=0\/E.I F (.fn 1 (.pr (.fn 1 (.pr X (.int 0))) (.fn 6 (.pr (.fn 8 (.pr t (.int 12))) (.int 0)))))<E.I F a0)/\E.I F (.fn 122 (.pr X (.pr a2 a0)))=1)->¬E.B F (.fn 125 X)=true):=by
 rw[cz]
 exact a54 h e0 e1 e2 e3 e4 e5 e6 e7 e8 h0 hi hn ht
theorem a52{v:E}(hs:E.B F (.fn 123 (.pr X (.fn 9 (.pr (.fn 1 (.pr X (.int 29))) (.int 5)))))=true)(h:E.B F (.fn 124 (.pr X i))=true)(hi:E.I F (.fn 9 (.pr (.fn 1 (.pr X (.int 0))) (.int 12)))=E.I F i)
  (hv:E.I F v=E.I F (.fn 134 (.pr X (.int 8)))+E.I F (.fn 135 (.pr X (.fn 9 (.pr (.fn 1 (.pr X (.int 29))) (.int 5)))))):E.I F v=E.I F (.fn 9 (.pr (.fn 1 (.pr X (.int 0))) (.int 12)))↔E.B F (.fn 125 X)=true:=by
 have e9:E.I F (.fn 9 (.pr (.fn 1 (.pr X (.int 0))) (.int 12)))=aJ (X.den F):=rfl;have es:(E.I F (.fn 9 (.pr (.fn 1 (.pr X (.int 29))) (.int 5)))).toNat=cy (X.den F):=rfl;have e8:E.I F (.fn 134 (.pr X (.int 8)))=((List.range 8).map fun z=>(bg (X.den F) z).length).sum:=rfl
 rw[Ut,es]at hs
 grind[Uu,Ek,Uv,IE,Dd]
/-! fights -/
theorem Uw:(E.B F (.fn 126 (.pr X n))=true)=(uH (X.den F) (E.I F n).toNat=true):=rfl
theorem aqE:(E.B F (.fn 127 (.pr X n))=true)=(xC (X.den F) (E.I F n).toNat=true):=rfl
theorem aqF:(E.B F (.fn 128 (.pr X (.pr j n)))=true)=(xB (X.den F) (E.I F j).toNat (E.I F n).toNat=true):=rfl
theorem Lq:(E.B F (.fn 129 X)=true)=(uR (X.den F)=true):=rfl
theorem aqG:(E.B F (.fn 136 (.pr X j))=true)=((bn (X.den F)).count (blk (X.den F) (E.I F j).toNat 1)=1/\(gA (X.den F)).count (blk (X.den F) (E.I F j).toNat 0)=1):=by
 show(((bn (X.den F)).count (blk (X.den F) (E.I F j).toNat 1)==1&&(gA (X.den F)).count (blk (X.den F) (E.I F j).toNat 0)==1)=true)=_
 simp_all
theorem a4L(h:E.B F (.fn 126 (.pr X i))=true)(e:E.I F n=E.I F i):E.B F (.fn 126 (.pr X n))=true:=by
 simp_all[Uw]
theorem yL(h:E.I F (.fn 1 (.pr X (.int 34)))=0):iC (X.den F)=aq F (.fn 1 (.pr X (.int 8)))/\gA (X.den F)=aq F (.fn 1 (.pr X (.int 22))):=by
 have e:iX (X.den F) 34=0:=h;unfold iC gA eB
 rw[e];exact⟨rfl,rfl⟩
theorem yM(h:E.I F (.fn 1 (.pr X (.int 34)))=1):iC (X.den F)=aq F (.fn 1 (.pr X (.int 22)))/\gA (X.den F)=aq F (.fn 1 (.pr X (.int 8))):=by
 have e:iX (X.den F) 34=1:=h;unfold iC gA eB
 rw[e];exact⟨rfl,rfl⟩
theorem zl(h:E.B F (.fn 126 (.pr X i))=true){a:E}(ea:a=.fn 1 (.pr (.fn 1 (.pr X (.int 31))) i))(hL:iC (X.den F)=aq F L)(h0:0<=E.I F i)(hi:E.I F i<E.I F (.fn 0 (.fn 1 (.pr X (.int 31)))))(hn:E.I F n=E.I F i+1):
  ((E.I F (.fn 121 (.pr (.fn 1 (.pr X (.int 31))) a))=1/\E.I F (.fn 121 (.pr L a))=1)->E.B F (.fn 126 (.pr X n))=true)/\
  (¬(E.I F (.fn 121 (.pr (.fn 1 (.pr X (.int 31))) a))=1/\E.I F (.fn 121 (.pr L a))=1)->¬E.B F (.fn 129 X)=true):=by
 subst ea
 rw[<- xA]at hi
 have ea:aq F (.fn 1 (.pr X (.int 31)))=bn (X.den F):=rfl;have e1:E.I F (.fn 1 (.pr (.fn 1 (.pr X (.int 31))) i))=nI (cX (X.den F) 31).toL (E.I F i).toNat:=rfl
 rw[lj,lj,ea,<- hL,e1]
 grind[Uw,ais,Lq,CD]
theorem zm{t b:E}(et:t=.fn 1 (.pr (.fn 1 (.pr X (.int 32))) (.fn 6 (.pr (.fn 8 (.pr j (.int 2))) (.int 1)))))(eb:b=.fn 1 (.pr (.fn 1 (.pr X (.int 32))) (.fn 6 (.pr (.fn 8 (.pr j (.int 2))) (.int 0)))))
  (hL:gA (X.den F)=aq F L)(h0:0<=E.I F j)(hi:E.I F j<E.I F (.fn 9 (.pr (.fn 1 (.pr X (.int 32))) (.int 2)))):
  ((E.I F (.fn 121 (.pr (.fn 1 (.pr X (.int 31))) t))=1/\E.I F (.fn 121 (.pr L b))=1)->E.B F (.fn 136 (.pr X j))=true)/\
  (¬(E.I F (.fn 121 (.pr (.fn 1 (.pr X (.int 31))) t))=1/\E.I F (.fn 121 (.pr L b))=1)->¬E.B F (.fn 129 X)=true):=by
 rw[<- yx]at hi
 have ea:aq F (.fn 1 (.pr X (.int 31)))=bn (X.den F):=rfl;have b0:=rA (X:=X) h0 0;have b1:=rA (X:=X) h0 1;grind[lj,aqG,Lq,CD,Ca]
theorem Uc(h:E.B F (.fn 128 (.pr X (.pr j k)))=true){t b u w:E}(et:t=.fn 1 (.pr (.fn 1 (.pr X (.int 32))) (.fn 6 (.pr (.fn 8 (.pr j (.int 2))) (.int 1)))))(eb:b=.fn 1 (.pr (.fn 1 (.pr X (.int 32))) (.fn 6 (.pr (.fn 8 (.pr j (.int 2))) (.int 0)))))
  (eu:u=.fn 1 (.pr (.fn 1 (.pr X (.int 32))) (.fn 6 (.pr (.fn 8 (.pr k (.int 2))) (.int 1)))))(ew:w=.fn 1 (.pr (.fn 1 (.pr X (.int 32))) (.fn 6 (.pr (.fn 8 (.pr k (.int 2))) (.int 0)))))
  (h0:0<=E.I F j)(hi:E.I F j<E.I F (.fn 9 (.pr (.fn 1 (.pr X (.int 32))) (.int 2))))(hk:0<=E.I F k)(hkj:E.I F k<E.I F j)(hn:E.I F n=E.I F k+1):
  ((¬E.I F u=E.I F t/\¬E.I F w=E.I F b)->E.B F (.fn 128 (.pr X (.pr j n)))=true)/\(¬(¬E.I F u=E.I F t/\¬E.I F w=E.I F b)->¬E.B F (.fn 129 X)=true):=by
 rw[<- yx]at hi
 have b0:=rA (X:=X) h0 0;have b1:=rA (X:=X) h0 1;have d0:=rA (X:=X) hk 0;have d1:=rA (X:=X) hk 1
 refine⟨fun hc=>?_,fun hc hf=>hc ?_⟩
 ·grind[aqF,HV]
 grind[Lq,CD,Ca,HV]
theorem a4M(h:E.B F (.fn 127 (.pr X j))=true)(h1:E.B F (.fn 136 (.pr X j))=true)(h2:E.B F (.fn 128 (.pr X (.pr j k)))=true)(h0:0<=E.I F j)(hk:E.I F k=E.I F j)(hn:E.I F n=E.I F j+1):E.B F (.fn 127 (.pr X n))=true:=by
 grind[aqE,Ca,aqG,aqF]
theorem a51(h:E.B F (.fn 126 (.pr X (.fn 0 (.fn 1 (.pr X (.int 31))))))=true)(hb:E.B F (.fn 127 (.pr X j))=true)(h1:E.I F (.fn 9 (.pr (.fn 1 (.pr X (.int 32))) (.int 2)))=E.I F j):E.B F (.fn 129 X)=true:=by
 have el:(E.I F (.fn 0 (.fn 1 (.pr X (.int 31))))).toNat=(bn (X.den F)).length:=by grind[xA]
 grind[Uw,aqE,yx,Lq,CD]
end
end Go.SX

set_option linter.unusedVariables false
set_option linter.unusedSimpArgs false
namespace Go.SX
/-! ### both ways say the same -/
theorem SP{G:Type}[DecidableEq G]:∀(l1 l2:List G),l1.Nodup->(∀x∈l1,x∈l2)->l2.length<=l1.length->l1.Perm l2
 |[],l2,_,_,h=>by
  simp_all
 |x::l1,l2,hn,hs,hl=>by
  have hx:=hs x (by simp);have hn':=List.nodup_cons.1 hn;have hp:=List.perm_cons_erase hx;refine List.Perm.trans ?_ hp.symm;refine List.Perm.cons x (SP l1 _ hn'.2 ?_ ?_);all_goals grind
theorem aXF(l:List Int)(c k p:Int):(l.map fun i=>(i,c)).count (k,p)=if c=p then l.count k else 0:=by
 induction l with
 |nil=>simp
 |cons x l ih=>
  grind
theorem aXG(X:U)(k:Int)(p:Nat)(hp:p<2):(nu X 8).count (k,(p:Int))=uO X p 4 k:=by
 unfold nu uO;have er:List.range 8=[0,1,2,3,4,5,6,7]:=rfl;have er4:List.range 4=[0,1,2,3]:=rfl
 rw[er,er4]
 simp only[List.flatMap_cons,List.flatMap_nil,List.count_append,aXF];grind
theorem aiZ(X:U)(k p:Int):∀s,(∀i,i<s->-1<=nI (cX X 29).toL (i*5+3))->(kf X s).count (k,p)=rE X p k s
 |0,_=>by rfl
 |s+1,h=>by
  have ih:=aiZ X k p s (fun i hi=>h i (by omega));have e:rE X p k (s+1)=rE X p k s+if(nI (cX X 29).toL (s*5+3) == -1&&nI (cX X 29).toL (s*5+1)==k&&nI (cX X 29).toL (s*5)==p)=true then 1 else 0:=by
   grind[rE,List.range_succ]
  grind[aoJ]
theorem anF(X:U):fV X 8 0=nu X 8:=by simp[fV]
theorem aiY(X:U)(k:Int)(p:Nat)(hp:p<2)(h:∀i,i<cy X->-1<=nI (cX X 29).toL (i*5+3)):(dg X).count (k,(p:Int))=sd X p k:=by
 simp_all[dg,sd,anF,aXG,aiZ]
theorem aqP(X:U):∀k,(nu X k).length=((List.range k).map fun z=>(bg X z).length).sum
 |0=>rfl
 |k+1=>by
  rw[LA,List.length_append,List.length_map,aqP X k,List.range_succ,List.map_append,List.sum_append];simp
theorem aVE(X:U):(dg X).length=Dd X:=by
 simp_all[dg,Dd,anF,aqP,kf]
def oP(X:U):List (Int×Int):=(List.range (aJ X)).map fun i=>(oI X i 0,oI X i 2)
theorem Sm(X:U):(oP X).map Prod.fst=nd X:=by simp_all[oP,nd]
theorem Sk{l:List (Int×Int)}(h:(l.map Prod.fst).Nodup):l.Nodup:=by
 rw[List.nodup_iff_pairwise_ne]at *
 rw[List.pairwise_map]at h
 exact h.imp fun hab e=>hab (by rw[e])
theorem CT{X:U}{k:Int}{n:Nat}(h:0<=cO X k n):(cO X k n).toNat<n/\oI X (cO X k n).toNat 0=k:=by
 grind[cO]
theorem Rt{X:U}{k:Int}{n i:Nat}(hi:i<n)(h:oI X i 0=k):0<=cO X k n:=by
 grind[cO]
theorem Rr{X:U}(h:(nd X).Nodup){i j:Nat}(hi:i<aJ X)(hj:j<aJ X)(e:oI X i 0=oI X j 0):i=j:=by
 grind[nd,List.pairwise_iff_getElem]
theorem ald{X:U}{k c:Int}{s:Nat}:(k,c)∈jv X s↔∃i,i<s/\nI (cX X 29).toL (i*5+3)<0/\nI (cX X 29).toL (i*5+1)=k/\nI (cX X 29).toL (i*5+2)=c:=by
 grind[jv,lf]
theorem anA{X:U}(hst:∀i,i<cy X->-1<=nI (cX X 29).toL (i*5+3)):du X=true↔uY X=true:=by
 rw[IE,<- aVE]
 unfold du;simp only[Bool.and_eq_true,r8,beq_iff_eq];constructor
 ·rintro⟨⟨hn,ho⟩,hl⟩
  rw[oE]at ho
  have hin:=Jx fun i hi=>(ho i hi).2.1
  have hs:=aoS (l1:=nd X) (l2:=(dg X).map Prod.fst) hin (by
   intro x hx
   obtain⟨i,hi,rfl⟩:=List.mem_map.1 hx
   exact List.mem_map_of_mem (f:=Prod.fst) (C9 (ho i (List.mem_range.1 hi)).2.2.1)) (by simp[nd,hl])
  refine⟨?_,?_,hl⟩
  ·rw[KA]
   intro i hi ht;have hc:(nI (cX X 29).toL (i*5+1),nI (cX X 29).toL (i*5+2))∈jv X (cy X):=ald.2 ⟨i,hi,ht,rfl,rfl⟩;have hid:nI (cX X 29).toL (i*5+1)∈(dg X).map Prod.fst:=by
    grind[dg,TB]
   obtain⟨q,hq,he⟩:=List.mem_map.1 (hs _ hid)
   have hq:=List.mem_range.1 hq;have h0:=Rt hq he;have h1:=CT h0
   refine⟨h0,?_⟩
   have hnc:((jv X (cy X)).map Prod.fst).Nodup:=by
    simp_all[TB,dg,List.map_append,List.nodup_append]
   exact((ho _ h1.1).2.2.2 _ (by grind[R0])).symm
  ·rw[Dp]
   intro i hi;have h:=ho i hi
   refine⟨h.1,h.2.1,?_⟩
   have hown:=(vp X i).1 h.1;have hm:=C9 h.2.2.1;have e:((oI X i 2).toNat:Int)=oI X i 2:=Int.toNat_of_nonneg (by omega)
   rw[<- aiY X _ _ (by omega) hst,e]
   have h1:0<(dg X).count (oI X i 0,oI X i 2):=List.count_pos_iff.2 hm;have h2:=List.nodup_iff_count.1 (Sk hn) (oI X i 0,oI X i 2);omega
 ·rintro⟨hs,ho,hl⟩
  rw[Dp]at ho
  rw[KA]at hs
  have hin:=Jx fun i hi=>(ho i hi).2.1
  have hmem:∀i,i<aJ X->(oI X i 0,oI X i 2)∈dg X:=by
   intro i hi;have h:=ho i hi;have hown:=(vp X i).1 h.1;have e:((oI X i 2).toNat:Int)=oI X i 2:=Int.toNat_of_nonneg (by omega);have h1:=h.2.2
   rw[<- aiY X _ _ (by omega) hst,e]at h1
   grind
  have hp:(oP X).Perm (dg X):=SP (oP X) (dg X) (Sk (by simp_all[Sm])) (by
   intro x hx
   obtain⟨i,hi,rfl⟩:=List.mem_map.1 hx
   simp_all) (by simp_all[oP])
  have hn:((dg X).map Prod.fst).Nodup:=by
   have:=(hp.map Prod.fst).nodup_iff.1 (by simp_all[Sm])
   omega
  refine⟨⟨hn,?_⟩,hl⟩
  rw[oE]
  intro i hi;have h:=ho i hi
  refine⟨h.1,h.2.1,R0 hn (hmem i hi),?_⟩
  intro c hc
  obtain⟨s,h1,h2,h3,h4⟩:=ald.1 (C9 hc)
  have:=hs s h1 h2
  rw[h3]at this
  have h5:=CT this.1;grind[Rr]
theorem UH{X:U}(h:du X=true)(k:Nat)(hk:k<8):(bg X k).Nodup:=by
 unfold du at h;simp only[Bool.and_eq_true,r8]at h
 obtain⟨r,hr⟩:=Kd X k (bg X k).length hk
 grind[fV]
theorem Ql{l:List Int}(h:l.Nodup)(a:Int):l.count a=1↔a∈l:=by
 grind
theorem aj5(X:U)(i:Nat):nI (cX X 31).toL i=(bn X).getD i 0:=II _ _
theorem ajI{X:U}(h:du X=true)(ha:eB X<=1):jT X=true↔uR X=true:=by
 have ho:=UH h (4*eB X+2) (by omega);have hq:=UH h (4*(1-eB X)+2) (by omega);have e1:iC X=bg X (4*eB X+2):=rfl;have e2:gA X=bg X (4*(1-eB X)+2):=rfl
 rw[<- e1]at ho
 rw[<- e2]at hq
 have hA:lA X (bn X).length=true↔uH X (bn X).length=true:=by
  rw[uG,ais,List.take_length]
  constructor
  ·simp_all[bn,List.getD_eq_getElem?_getD,List.getElem?_eq_getElem,List.getElem_mem,aj5,Ql]
  ·intro hc;have hc':∀a∈bn X,(bn X).count a=1/\(iC X).count a=1:=by
    intro a hm
    obtain⟨i,hi,rfl⟩:=List.getElem_of_mem hm
    simp_all[aj5,List.getD_eq_getElem?_getD,List.getElem?_eq_getElem]
   grind
 rw[CC,CD,hA]
 constructor
 ·rintro⟨h1,h2⟩
  refine⟨h1,?_⟩
  have hn:=((uG X _).1 (hA.2 h1)).1
  rw[List.take_length]at hn
  rw[B8]at h2
  rw[Ca]
  grind[Ql,HV,dM,List.pairwise_iff_getElem]
 ·rintro⟨h1,h2⟩
  refine⟨h1,?_⟩
  have hn:=((uG X _).1 (hA.2 h1)).1
  rw[List.take_length]at hn
  rw[Ca]at h2
  rw[B8]
  simp_all[Ql,dM,List.nodup_iff_pairwise_ne,List.pairwise_map,List.pairwise_iff_getElem,List.getElem_range,HV]
theorem aqv(X:U):vP X=qE X:=by
 rw[Bool.eq_iff_iff]
 unfold vP qE;simp only[Bool.and_eq_true];constructor
 ·rintro⟨⟨⟨⟨⟨hn,h0⟩,h1⟩,hi⟩,hp⟩,hf⟩
  have hst:∀i,i<cy X->-1<=nI (cX X 29).toL (i*5+3):=by
   simp_all[ye,C1,qn,iz]
  have ha:eB X<=1:=by
   simp_all[yE,iz,eB]
  simp_all[anA,ajI]
 ·rintro⟨⟨⟨⟨⟨hn,h0⟩,h1⟩,hi⟩,hp⟩,hf⟩
  have hst:∀i,i<cy X->-1<=nI (cX X 29).toL (i*5+3):=by
   simp_all[ye,C1,qn,iz]
  have ha:eB X<=1:=by
   simp_all[yE,iz,eB]
  simp_all[anA,ajI]
theorem aqa{F:Env}{X:E}:(E.B F (.fn 115 X)=true)↔(E.B F (.fn 130 X)=true):=by
 show(vP _=true)↔(qE _=true)
 rw[aqv]
end Go.SX

set_option linter.unusedVariables false
set_option linter.unusedSimpArgs false
namespace Go.SX
/-! ### what is paid from -/
section
variable {F:Env} {x y l A a b k u i j p q n m r o c d w v X T N L e t C:E}
theorem dX:(E.B F (.fn 145 (.pr X p))=true)=(0<=E.I F p/\E.I F p<=1/\E.B F (.fn 130 X)=true):=by
 show(jU _ _=true)=_
 unfold jU
 rw[Bool.and_eq_true,iz,and_assoc];rfl
theorem aV{a0 a1 a2 a3 a4:E}:(E.B F (.fn 146 (.pr a0 (.pr a1 (.pr a2 (.pr a3 a4)))))=true)=(0<=E.I F a0/\E.I F a0<=20/\0<=E.I F a1/\E.I F a1<=20/\0<=E.I F a2/\E.I F a2<=20/\0<=E.I F a3/\E.I F a3<=20/\0<=E.I F a4/\E.I F a4<=20):=by
 show(([0,1,2,3].all _&&dh 0 _ 20)=true)=_
 simp only[List.all_cons,List.all_nil,Bool.and_eq_true,iz,and_assoc,and_true];rfl
/-! triggers and effects -/
theorem Q5(l:List U)(n:Nat):xW l n=true↔∀i,i<n->(l.getD (i*2+1) (.int 0)).toL.length/5<=5:=by
 simp_all[xW]
theorem ak0(l:List U)(n:Nat):Jc l n=true↔∀i,i<n->xV (l.getD (i*14+11) (.int 0)).toL (l.getD (i*14+12) (.int 0)).toL=true:=by
 grind[Jc]
theorem Ux:(E.B F (.fn 155 (.pr C n))=true)=(Jc (E.L F C) (E.I F n).toNat=true):=rfl
theorem vT:(E.B F (.fn 156 (.pr e t))=true)=(E.I F (.fn 9 (.pr e (.int 5)))<=5/\E.I F (.fn 9 (.pr t (.int 2)))<=3/\E.B F (.fn 157 (.pr t (.fn 9 (.pr t (.int 2)))))=true):=by
 have h1:E.I F (.fn 9 (.pr e (.int 5)))=(E.L F e).length/5:=rfl;have h2:E.I F (.fn 9 (.pr t (.int 2)))=(E.L F t).length/2:=rfl;have h3:(E.B F (.fn 157 (.pr t (.fn 9 (.pr t (.int 2)))))=true)=(xW (E.L F t) ((E.L F t).length/2)=true):=rfl
 show(xV (E.L F e) (E.L F t)=true)=_
 grind[xV]
theorem DZ:(E.B F (.fn 157 (.pr t n))=true)=(xW (E.L F t) (E.I F n).toNat=true):=rfl
theorem ao5(h:E.B F (.fn 157 (.pr t n))=true)(h0:0<=E.I F i)(h1:E.I F i<E.I F n):E.I F (.fn 9 (.pr (.fn 1 (.pr t (.fn 6 (.pr (.fn 8 (.pr i (.int 2))) (.int 1))))) (.int 5)))<=5:=by
 rw[DZ,Q5]at h
 have e:=wu (F:=F) (T:=t) i 2 1 h0;have h2:E.I F (.fn 9 (.pr (.fn 1 _) (.int 5)))=(E.L F (.fn 1 (.pr t (.fn 6 (.pr (.fn 8 (.pr i (.int 2))) (.int 1)))))).length/5:=rfl;grind
theorem a5a(h:E.B F (.fn 157 (.pr t i))=true)(h0:0<=E.I F i)(hm:E.I F m=E.I F i+1)(hb:E.I F (.fn 9 (.pr (.fn 1 (.pr t (.fn 6 (.pr (.fn 8 (.pr i (.int 2))) (.int 1))))) (.int 5)))<=5):E.B F (.fn 157 (.pr t m))=true:=by
 have e:=wu (F:=F) (T:=t) i 2 1 h0;have h2:E.I F (.fn 9 (.pr (.fn 1 _) (.int 5)))=(E.L F (.fn 1 (.pr t (.fn 6 (.pr (.fn 8 (.pr i (.int 2))) (.int 1)))))).length/5:=rfl;grind[DZ,Q5]
theorem a47(h:E.B F (.fn 155 (.pr C i))=true)(e:E.I F n=E.I F i):E.B F (.fn 155 (.pr C n))=true:=by
 simp_all[Ux]
theorem aqH(h0:0<=E.I F i):(E.B F (.fn 156 (.pr (.fn 1 (.pr C (.fn 6 (.pr (.fn 8 (.pr i (.int 14))) (.int 11))))) (.fn 1 (.pr C (.fn 6 (.pr (.fn 8 (.pr i (.int 14))) (.int 12)))))))=true)=
  (xV ((E.L F C).getD ((E.I F i).toNat*14+11) (.int 0)).toL ((E.L F C).getD ((E.I F i).toNat*14+12) (.int 0)).toL=true):=by
 have e:=wu (F:=F) (T:=C) i 14 11 h0;have e2:=wu (F:=F) (T:=C) i 14 12 h0
 rw[<- e,<- e2];rfl
theorem a48(h:E.B F (.fn 155 (.pr C n))=true)(h0:0<=E.I F i)(h1:E.I F i<E.I F n):E.B F (.fn 156 (.pr (.fn 1 (.pr C (.fn 6 (.pr (.fn 8 (.pr i (.int 14))) (.int 11))))) (.fn 1 (.pr C (.fn 6 (.pr (.fn 8 (.pr i (.int 14))) (.int 12)))))))=true:=by
 grind[Ux,ak0,aqH]
theorem a49(h:E.B F (.fn 155 (.pr C i))=true)(h0:0<=E.I F i)(hm:E.I F m=E.I F i+1)(hb:E.B F (.fn 156 (.pr (.fn 1 (.pr C (.fn 6 (.pr (.fn 8 (.pr i (.int 14))) (.int 11))))) (.fn 1 (.pr C (.fn 6 (.pr (.fn 8 (.pr i (.int 14))) (.int 12)))))))=true):E.B F (.fn 155 (.pr C m))=true:=by
 grind[aqH,Ux,ak0]
end
end Go.SX

set_option linter.unusedVariables false
set_option linter.unusedSimpArgs false
namespace Go.SX
section
variable {F:Env} {x y l A a b k u i j p q n m r o c d w v X T N L e t C z:E}
theorem ao6(h:E.B F (.fn 157 (.pr t n))=true)(h0:0<=E.I F i)(hb:E.I F (.fn 9 (.pr v (.int 5)))<=5):E.B F (.fn 157 (.pr (.fn 2 (.pr t (.pr (.fn 6 (.pr (.fn 8 (.pr i (.int 2))) (.int 1))) v))) n))=true:=by
 have hv:E.I F (.fn 9 (.pr v (.int 5)))=(E.L F v).length/5:=rfl
 rw[DZ,Q5]at *
 have e:E.L F (.fn 2 (.pr t (.pr (.fn 6 (.pr (.fn 8 (.pr i (.int 2))) (.int 1))) v)))=(E.L F t).set _ (v.den F):=rfl;grind[E.L]
theorem ao4(h:E.B F (.fn 157 (.pr t i))=true)(e:E.I F n=E.I F i):E.B F (.fn 157 (.pr t n))=true:=by
 simp_all[DZ]
theorem a09(w:Int):E.I F (.fn 9 (.pr (.fn 30 a) (.int w)))=0:=by
 show(0/w.toNat:Int)=0
 simp
theorem a08:E.I F (.fn 9 (.pr (.fn 28 (.pr a l)) (.int 5)))=E.I F (.fn 9 (.pr l (.int 5))):=rfl
theorem El:E.I F (.fn 141 (.pr C c))=eU (E.L F C) (E.I F c) 1:=rfl
theorem zM:E.I F (.fn 142 (.pr C c))=eU (E.L F C) (E.I F c) 7:=rfl
theorem xI(h:E.I F c<0\/E.I F (.fn 9 (.pr C (.int 14)))<=E.I F c):E.I F (.fn 141 (.pr C c))=0/\E.I F (.fn 142 (.pr C c))=0:=by
 have hc:E.I F (.fn 9 (.pr C (.int 14)))=(E.L F C).length/14:=rfl;grind[El,zM,eU]
theorem xH(h0:0<=E.I F c)(h1:E.I F c<E.I F (.fn 9 (.pr C (.int 14)))):E.I F (.fn 141 (.pr C c))=E.I F (.fn 1 (.pr C (.fn 6 (.pr (.fn 8 (.pr c (.int 14))) (.int 1)))))/\E.I F (.fn 142 (.pr C c))=E.I F (.fn 1 (.pr C (.fn 6 (.pr (.fn 8 (.pr c (.int 14))) (.int 7))))):=by
 have e1:=nw (F:=F) (T:=C) c 14 1 h0;have e7:=nw (F:=F) (T:=C) c 14 7 h0;have k1:(Int.ofNat 1)=1:=rfl;have k7:(Int.ofNat 7)=7:=rfl;have k14:(Int.ofNat 14)=14:=rfl
 rw[k1,k14]at e1
 rw[k7,k14]at e7
 rw[El,zM,e1,e7]
 unfold eU
 rw[if_pos ⟨h0,h1⟩,if_pos ⟨h0,h1⟩];exact⟨rfl,rfl⟩
/-! small boards -/
theorem Lt:(E.B F (.fn 158 (.pr l n))=true)=(eO (E.L F l) (E.I F n).toNat=true):=rfl
theorem ao8(h:E.B F (.fn 158 (.pr l i))=true)(e:E.I F n=E.I F i):E.B F (.fn 158 (.pr l n))=true:=by
 simp_all[Lt]
theorem ao9(h:E.B F (.fn 158 (.pr l i))=true)(h0:0<=E.I F i)(hm:E.I F m=E.I F i+1)(hb:E.I F (.fn 9 (.pr (.fn 1 (.pr l (.fn 6 (.pr (.fn 8 (.pr i (.int 5))) (.int 4))))) (.int 2)))<=6):E.B F (.fn 158 (.pr l m))=true:=by
 have e:=wu (F:=F) (T:=l) i 5 4 h0;have h2:E.I F (.fn 9 (.pr (.fn 1 _) (.int 2)))=(E.L F (.fn 1 (.pr l (.fn 6 (.pr (.fn 8 (.pr i (.int 5))) (.int 4)))))).length/2:=rfl;grind[Lt,eO]
theorem iH:(E.B F (.fn 159 X)=true)=(E.I F (.fn 0 (.fn 1 (.pr X (.int 6))))<=40/\E.I F (.fn 0 (.fn 1 (.pr X (.int 7))))<=40/\E.I F (.fn 0 (.fn 1 (.pr X (.int 8))))<=40/\E.I F (.fn 0 (.fn 1 (.pr X (.int 9))))<=40/\
  E.I F (.fn 0 (.fn 1 (.pr X (.int 20))))<=40/\E.I F (.fn 0 (.fn 1 (.pr X (.int 21))))<=40/\E.I F (.fn 0 (.fn 1 (.pr X (.int 22))))<=40/\E.I F (.fn 0 (.fn 1 (.pr X (.int 23))))<=40):=by
 show((List.range 8).all (fun z=>decide ((bg _ z).length<=40))=true)=_
 rw[<- br,<- br,<- br,<- br,<- br,<- br,<- br,<- br]
 have er:List.range 8=[0,1,2,3,4,5,6,7]:=rfl;have z0:aq F (.fn 1 (.pr X (.int 6)))=bg (X.den F) 0:=rfl;have z1:aq F (.fn 1 (.pr X (.int 7)))=bg (X.den F) 1:=rfl;have z2:aq F (.fn 1 (.pr X (.int 8)))=bg (X.den F) 2:=rfl;have z3:aq F (.fn 1 (.pr X (.int 9)))=bg (X.den F) 3:=rfl;have y0:aq F (.fn 1 (.pr X (.int 20)))=bg (X.den F) 4:=rfl;have y1:aq F (.fn 1 (.pr X (.int 21)))=bg (X.den F) 5:=rfl;have y2:aq F (.fn 1 (.pr X (.int 22)))=bg (X.den F) 6:=rfl;have y3:aq F (.fn 1 (.pr X (.int 23)))=bg (X.den F) 7:=rfl
 rw[er,z0,z1,z2,z3,y0,y1,y2,y3]
 simp only[List.all_cons];grind
theorem dw:(E.B F (.fn 117 X)=true)=(E.B F (.fn 159 X)=true/\E.I F (.fn 9 (.pr (.fn 1 (.pr X (.int 29))) (.int 5)))<=20/\E.I F (.fn 9 (.pr (.fn 1 (.pr X (.int 30))) (.int 5)))<=20/\
  E.B F (.fn 158 (.pr (.fn 1 (.pr X (.int 29))) (.fn 9 (.pr (.fn 1 (.pr X (.int 29))) (.int 5)))))=true/\E.B F (.fn 158 (.pr (.fn 1 (.pr X (.int 30))) (.fn 9 (.pr (.fn 1 (.pr X (.int 30))) (.int 5)))))=true/\
  E.I F (.fn 9 (.pr (.fn 1 (.pr X (.int 0))) (.int 12)))<=30/\E.I F (.fn 0 (.fn 1 (.pr X (.int 31))))<=30/\E.I F (.fn 9 (.pr (.fn 1 (.pr X (.int 32))) (.int 2)))<=30):=by
 have a:(E.B F (.fn 159 X)=true)=((List.range 8).all (fun z=>decide ((bg _ z).length<=40))=true):=rfl;have b:(E.B F (.fn 158 (.pr (.fn 1 (.pr X (.int 29))) (.fn 9 (.pr (.fn 1 (.pr X (.int 29))) (.int 5)))))=true)=(eO (cX (X.den F) 29).toL (cy (X.den F))=true):=rfl;have c:(E.B F (.fn 158 (.pr (.fn 1 (.pr X (.int 30))) (.fn 9 (.pr (.fn 1 (.pr X (.int 30))) (.int 5)))))=true)=(eO (cX (X.den F) 30).toL ((cX (X.den F) 30).toL.length/5)=true):=rfl;have d:E.I F (.fn 9 (.pr (.fn 1 (.pr X (.int 29))) (.int 5)))=cy (X.den F):=rfl;have e:E.I F (.fn 9 (.pr (.fn 1 (.pr X (.int 30))) (.int 5)))=(cX (X.den F) 30).toL.length/5:=rfl;have f:E.I F (.fn 9 (.pr (.fn 1 (.pr X (.int 0))) (.int 12)))=aJ (X.den F):=rfl
 rw[a,b,c,d,e,f,<- xA,<- yx]
 show(k8 _=true)=_
 grind[k8]
end
end Go.SX

set_option linter.unusedVariables false
set_option linter.unusedSimpArgs false
namespace Go.SX
/-! ### the sources of a player: the program's -/
def nj(l:List U)(X:U)(p:Int)(i:Nat):Bool:=
 oI X i 2==p && !((cX X 0).toL.getD (i*12+9) (.bool false)).toB&&eU l (oI X i 1) 1==1&&decide (0<=eU l (oI X i 1) 7)&&decide (eU l (oI X i 1) 7<4)&&(bg X (4*p.toNat+2)).contains (oI X i 0)
theorem DM(l:List U)(X:U)(p:Int)(n:Nat):dE l X p (n+1)=dE l X p n++if nj l X p n then [oI X n 0,eU l (oI X n 1) 7] else []:=by
 unfold dE
 rw[List.range_succ,List.flatMap_append]
 simp only[List.flatMap_cons,List.flatMap_nil,List.append_nil];rfl
theorem a3Z(l:List U)(X:U)(p:Int):dE l X p 0=[]:=rfl
theorem aj7(l:List U)(n:Nat):(l.getD n (.bool false)).toB=(l.getD n (.int 0)).toB:=by
 rw[List.getD_eq_getElem?_getD,List.getD_eq_getElem?_getD]
 cases l[n]? <;> rfl
section
variable {F:Env} {x y l A a b k u i j p q n m r o c d w v X T N L e t C z:E}
theorem lK:aq F (.fn 3 (.pr x y))=aq F x++aq F y:=by
 show(E.L F x++E.L F y).map _=_
 rw[List.map_append];rfl
theorem CY:aq F (.fn 23 (.pr a l))=E.I F a::aq F l:=rfl
theorem u6:aq F (.fn 10 a)=[]:=rfl
theorem Lr:(E.B F (.fn 143 (.pr x (.pr C (.pr X (.pr p n)))))=true)=(aq F x=dE (E.L F C) (X.den F) (E.I F p) (E.I F n).toNat):=by
 show((bI _==dE _ _ _ _)=true)=_
 rw[beq_iff_eq];rfl
theorem ao3(h:E.B F (.fn 143 (.pr x (.pr C (.pr X (.pr p i)))))=true)(e:E.I F n=E.I F i):E.B F (.fn 143 (.pr x (.pr C (.pr X (.pr p n)))))=true:=by
 simp_all[Lr]
theorem jR(h:E.I F p=0):aq F (.fn 1 (.pr X (.int 8)))=bg (X.den F) (4*(E.I F p).toNat+2):=by rw[h];rfl
theorem jS(h:E.I F p=1):aq F (.fn 1 (.pr X (.int 22)))=bg (X.den F) (4*(E.I F p).toNat+2):=by rw[h];rfl
theorem dQ(h:E.B F (.fn 143 (.pr x (.pr C (.pr X (.pr p i)))))=true){id cd ow tp v:E}(e0:id=.fn 1 (.pr (.fn 1 (.pr X (.int 0))) (.fn 6 (.pr (.fn 8 (.pr i (.int 12))) (.int 0)))))
  (e1:cd=.fn 1 (.pr (.fn 1 (.pr X (.int 0))) (.fn 6 (.pr (.fn 8 (.pr i (.int 12))) (.int 1)))))(e2:ow=.fn 1 (.pr (.fn 1 (.pr X (.int 0))) (.fn 6 (.pr (.fn 8 (.pr i (.int 12))) (.int 2)))))
  (e9:tp=.fn 1 (.pr (.fn 1 (.pr X (.int 0))) (.fn 6 (.pr (.fn 8 (.pr i (.int 12))) (.int 9)))))(hL:aq F L=bg (X.den F) (4*(E.I F p).toNat+2))(h0:0<=E.I F i)(hn:E.I F n=E.I F i+1)(hv:E.I F v=E.I F (.fn 142 (.pr C cd))):
  (¬(E.I F ow=E.I F p/\¬E.B F tp=true/\E.I F (.fn 141 (.pr C cd))=1/\0<=E.I F v/\E.I F v<4/\E.B F (.fn 114 (.pr L id))=true)->E.B F (.fn 143 (.pr x (.pr C (.pr X (.pr p n)))))=true)/\
  ((E.I F ow=E.I F p/\¬E.B F tp=true/\E.I F (.fn 141 (.pr C cd))=1/\0<=E.I F v/\E.I F v<4/\E.B F (.fn 114 (.pr L id))=true)->
   E.B F (.fn 143 (.pr (.fn 3 (.pr x (.fn 23 (.pr id (.fn 23 (.pr v (.fn 10 (.int 0)))))))) (.pr C (.pr X (.pr p n)))))=true/\(aq F x=[]->E.B F (.fn 143 (.pr (.fn 23 (.pr id (.fn 23 (.pr v (.fn 10 (.int 0)))))) (.pr C (.pr X (.pr p n)))))=true)):=by
 have c0:=gz (X:=X) h0 0;have c1:=gz (X:=X) h0 1;have c2:=gz (X:=X) h0 2;have c9:E.B F (.fn 1 (.pr (.fn 1 (.pr X (.int 0))) (.fn 6 (.pr (.fn 8 (.pr i (.int 12))) (.int 9)))))=((cX (X.den F) 0).toL.getD ((E.I F i).toNat*12+9) (.bool false)).toB:=by
  rw[aj7]
  have e:(E.I F i*12+9).toNat=(E.I F i).toNat*12+9:=by omega
  show((cX (X.den F) 0).toL.getD (E.I F i*12+9).toNat _).toB=_
  rw[e]
 have en:(E.I F n).toNat=(E.I F i).toNat+1:=by omega
 have hc:nj (E.L F C) (X.den F) (E.I F p) (E.I F i).toNat=true↔(E.I F (.fn 1 (.pr (.fn 1 (.pr X (.int 0))) (.fn 6 (.pr (.fn 8 (.pr i (.int 12))) (.int 2)))))=E.I F p/\¬E.B F (.fn 1 (.pr (.fn 1 (.pr X (.int 0))) (.fn 6 (.pr (.fn 8 (.pr i (.int 12))) (.int 9)))))=true/\
   E.I F (.fn 141 (.pr C (.fn 1 (.pr (.fn 1 (.pr X (.int 0))) (.fn 6 (.pr (.fn 8 (.pr i (.int 12))) (.int 1)))))))=1/\0<=E.I F v/\E.I F v<4/\E.B F (.fn 114 (.pr L (.fn 1 (.pr (.fn 1 (.pr X (.int 0))) (.fn 6 (.pr (.fn 8 (.pr i (.int 12))) (.int 0)))))))=true):=by
  grind[zA,El,zM,nj]
 have hs:=DM (E.L F C) (X.den F) (E.I F p) (E.I F i).toNat;all_goals simp_all[Lr,lK,CY,u6,zM]
end
end Go.SX

set_option linter.unusedVariables false
set_option linter.unusedSimpArgs false
namespace Go.SX
theorem rH:∀l:List Int,(bw l).length=l.length/2
 |[]=>rfl
 |[_]=>by simp[bw]
 |a::b::l=>by
  show(bw l).length+1=_
  rw[rH l];grind
theorem Ip:∀(l:List Int)(i:Nat),i<l.length/2->(bw l).getD i 0=l.getD (i*2) 0
 |[],i,h=>by rfl
 |[_],i,h=>by simp at h
 |a::b::l,0,h=>rfl
 |a::b::l,i+1,h=>by
  have e:(i+1)*2=i*2+1+1:=by omega
  rw[e]
  exact Ip l i (by grind)
section
variable {F:Env} {x y l A a b k u i j p q n m r o c d w v X T N L e t C z s:E}
theorem Ls:(E.B F (.fn 144 (.pr x (.pr C (.pr X p))))=true)=(aq F x=bw (dE (E.L F C) (X.den F) (E.I F p) (aJ (X.den F)))):=by
 show((bI _==bw _)=true)=_
 rw[beq_iff_eq];rfl
/-! the reference's: what an object makes -/
theorem Em:E.I F (.fn 150 (.pr C (.pr X k)))=kQ (E.L F C) (X.den F) (E.I F k):=rfl
theorem zh{cd:E}(ec:cd=.fn 1 (.pr (.fn 1 (.pr X (.int 0))) (.fn 6 (.pr (.fn 8 (.pr v (.int 12))) (.int 1)))))(h0:0<=E.I F v)(hv:E.I F v=E.I F (.fn 120 (.pr X (.pr k (.fn 9 (.pr (.fn 1 (.pr X (.int 0))) (.int 12))))))):
  ((E.I F (.fn 141 (.pr C cd))=1/\0<=E.I F (.fn 142 (.pr C cd))/\E.I F (.fn 142 (.pr C cd))<4)->E.I F (.fn 150 (.pr C (.pr X k)))=E.I F (.fn 142 (.pr C cd)))/\
  (¬(E.I F (.fn 141 (.pr C cd))=1/\0<=E.I F (.fn 142 (.pr C cd))/\E.I F (.fn 142 (.pr C cd))<4)->E.I F (.fn 150 (.pr C (.pr X k)))=-1):=by
 have en:(E.I F (.fn 9 (.pr (.fn 1 (.pr X (.int 0))) (.int 12)))).toNat=aJ (X.den F):=rfl
 rw[qL,en]at hv
 have c1:=gz (X:=X) h0 1;grind[Em,El,zM,kQ]
end
end Go.SX

set_option linter.unusedVariables false
set_option linter.unusedSimpArgs false
namespace Go.SX
theorem amU:∀l:List Int,(eH l).length=l.length/2
 |[]=>rfl
 |[_]=>by simp[eH]
 |a::b::l=>by
  show(eH l).length+1=_
  rw[amU l];grind
theorem amS:∀(l r:List Int),l.length%2=0->eH (l++r)=eH l++eH r
 |[],r,_=>rfl
 |[_],r,h=>by simp at h
 |a::b::l,r,h=>by
  show b::eH (l++r)=b::(eH l++eH r)
  rw[amS l r (by grind)]
theorem Kw(l:List U)(X:U)(p:Int):∀n,(dE l X p n).length%2=0
 |0=>rfl
 |n+1=>by
  rw[DM,List.length_append]
  have:=Kw l X p n
  grind
section
variable {F:Env} {x y l A a b k u i j p q n m r o c d w v X T N L e t C z s m0 m1 m2 m3:E}
end
end Go.SX

set_option linter.unusedVariables false
set_option linter.unusedSimpArgs false
namespace Go.SX
/-! ### numbers in order -/
theorem Rx(x:Int):∀l,(qm x l).Perm (x::l)
 |[]=>.refl _
 |y::l=>by
  unfold qm;split
  ·rfl
  ·exact((Rx x l).cons y).trans (.swap x y l)
theorem DK:∀l,(dk l).Perm l
 |[]=>.refl _
 |x::l=>(Rx x _).trans ((DK l).cons x)
theorem akz(x:Int):∀l:List Int,l.Pairwise (·<=·)->(qm x l).Pairwise (·<=·)
 |[],_=>by simp[qm]
 |y::l,h=>by
  obtain⟨h1,h2⟩:=List.pairwise_cons.1 h
  unfold qm;split
  ·grind[List.pairwise_cons]
  ·refine List.pairwise_cons.2 ⟨fun a ha=>?_,akz x l h2⟩;rcases List.mem_cons.1 ((Rx x l).mem_iff.1 ha)with rfl|ha
   all_goals grind
theorem Kt:∀l:List Int,(dk l).Pairwise (·<=·)
 |[]=>.nil
 |x::l=>akz x _ (Kt l)
theorem a1w{a b:List Int}(ha:a.Pairwise (·<=·))(hb:b.Pairwise (·<=·))(h:a.Perm b):a=b:=
 List.Perm.eq_of_pairwise (le:=(·<=·)) (fun a b _ _ h1 h2=>Int.le_antisymm h1 h2) ha hb h
theorem aou{a l:List Int}(ha:a.Pairwise (·<=·))(h:a.Perm l):a=dk l:=a1w ha (Kt l) (h.trans (DK l).symm)
/-- a number is put where it belongs -/
theorem a1v{x l:List Int}{v:Int}{n:Nat}(h:x=dk l)(hn:n<=x.length)(hlo:∀a∈x.take n,a<v)(hhi:n=x.length\/v<=x.getD n 0):x.take n++(v ::x.drop n)=dk (l++[v]):=by
  have hs:x.Pairwise (· <= ·):=by simp_all[Kt]
  have hp:x.Perm l:=by simp_all[DK]
  refine aou ?_ ?_
  · have hs':=hs
    rw[<- List.take_append_drop n x,List.pairwise_append]at hs'
    obtain⟨h1,h2,h3⟩:=hs'
    have hd:∀a∈x.drop n,v<=a:=by
      intro a ha;rcases hhi with e|hv
      · simp_all
      · obtain⟨k,hk,rfl⟩:=List.mem_iff_getElem.1 ha
        rw[List.length_drop]at hk
        have hg:x.getD n 0=x[n]'(by omega):=by
          grind
        rcases Nat.eq_zero_or_pos k with rfl|hk0
        all_goals grind[List.pairwise_iff_getElem]
    rw[List.pairwise_append]
    refine⟨h1,List.pairwise_cons.2 ⟨hd,h2⟩,fun a ha b hb=>?_⟩
    rcases List.mem_cons.1 hb with rfl|hb
    · exact Int.le_of_lt (hlo a ha)
    · exact h3 a ha b hb
  grind[List.take_append_drop,List.perm_middle]
/-! ### the sources in order: both agree -/
theorem CH{X:U}{p:Int}(h:jU X p=true):du X=true/\0<=p/\p<=1:=by
 unfold jU at h
 rw[Bool.and_eq_true,iz,<- aqv]at h
 simp_all[vP]
theorem akm{X:U}(h:du X=true):∀i j,i<j->j<aJ X->oI X i 0<oI X j 0:=by
 have ho:=(oE X _).1 (DA h);exact aow (f:=fun i=>oI X i 0) fun i hi=>(ho i hi).2.1
theorem Rs{X:U}(h:du X=true):(nd X).Nodup:=by
 grind[oE,DA,Jx]
theorem aqR{X:U}(h:du X=true){z:Nat}(hz:z<8){k:Int}(hk:k∈bg X z):∃i,i<aJ X/\oI X i 0=k/\oI X i 2=((z/4:Nat):Int):=by
 have ho:=(oE X _).1 (DA h);have hin:=Rs h;have hl:(dg X).length=aJ X:=by
  simp_all[du]
 have hp:=SP (oP X) (dg X) (Sk (by simp_all[Sm])) (by
  intro x hx
  obtain⟨i,hi,rfl⟩:=List.mem_map.1 hx
  simp_all[C9]) (by simp_all[oP])
 have hm:(k,(z/4:Int))∈dg X:=by
  obtain⟨r,hr⟩:=Kd X z _ hz
  rw[hr]
  unfold fV
  rw[List.take_length]
  exact List.mem_append.2 (Or.inl (List.mem_append.2 (Or.inr (List.mem_map.2 ⟨k,hk,rfl⟩))))
 obtain⟨i,hi,e⟩:=List.mem_map.1 (hp.mem_iff.2 hm)
 grind
theorem IU{X:U}(h:du X=true){i:Nat}(hi:i<aJ X):cO X (oI X i 0) (aJ X)=i:=by
 have h0:=Rt (X:=X) hi rfl
 obtain⟨h1,h2⟩:=CT h0
 have:=Rr (Rs h) h1 hi h2
 omega
theorem R7(l:List U){X:U}(h:du X=true){i:Nat}(hi:i<aJ X):kQ l X (oI X i 0)=if eU l (oI X i 1) 1==1&&decide (0<=eU l (oI X i 1) 7)&&decide (eU l (oI X i 1) 7<4)then eU l (oI X i 1) 7 else -1:=by
 simp_all[kQ,IU]
theorem aju:∀(l r:List Int),l.length%2=0->bw (l++r)=bw l++bw r
 |[],r,_=>rfl
 |[_],r,h=>by simp at h
 |a::b::l,r,h=>by
  show a::bw (l++r)=a::(bw l++bw r)
  rw[aju l r (by grind)]
theorem xT(l:List U)(X:U)(p:Int):∀n,bw (dE l X p n)=((List.range n).filter (nj l X p)).map fun i=>oI X i 0
 |0=>rfl
 |n+1=>by
  rw[DM,aju _ _ (Kw l X p n),xT l X p n,List.range_succ,List.filter_append,List.map_append]
  by_cases h:nj l X p n=true
  ·rw[if_pos h,List.filter_cons_of_pos h];rfl
  ·rw[if_neg h,List.filter_cons_of_neg h];rfl
theorem amV(l:List U)(X:U)(p:Int):∀n,eH (dE l X p n)=((List.range n).filter (nj l X p)).map fun i=>eU l (oI X i 1) 7
 |0=>rfl
 |n+1=>by
  rw[DM,amS _ _ (Kw l X p n),amV l X p n,List.range_succ,List.filter_append,List.map_append]
  by_cases h:nj l X p n=true
  ·rw[if_pos h,List.filter_cons_of_pos h];rfl
  ·rw[if_neg h,List.filter_cons_of_neg h];rfl
theorem TA(l:List U)(X:U)(p:Int)(i:Nat):nj l X p i=true↔oI X i 2=p/\((cX X 0).toL.getD (i*12+9) (.bool false)).toB=false/\eU l (oI X i 1) 1=1/\0<=eU l (oI X i 1) 7/\eU l (oI X i 1) 7<4/\oI X i 0∈bg X (4*p.toNat+2):=by
 simp_all[nj,and_assoc]
theorem aoI(l:List U){X:U}{p:Int}(h:jU X p=true){n:Nat}(hn:(bg X (4*p.toNat+2)).length<=n):dk (qC l X p n)=bw (dE l X p (aJ X)):=by
 obtain⟨hp,p0,p1⟩:=CH h
 have hz:4*p.toNat+2<8:=by omega
 have hz4:(((4*p.toNat+2)/4:Nat):Int)=p:=by omega
 have hlt:=akm hp;have hpw:(bw (dE l X p (aJ X))).Pairwise (· < ·):=by
  grind[xT,List.Pairwise.imp_of_mem,List.pairwise_lt_range]
 symm;refine aou (hpw.imp fun {a b} h=>Int.le_of_lt h) ?_
 refine(List.perm_ext_iff_of_nodup (hpw.imp fun {a b} h=>by omega) ?_).2 fun k=>?_
 ·grind[qC,List.take_of_length_le,UH]
 ·rw[xT,List.mem_map]
  unfold qC
  rw[List.take_of_length_le hn,List.mem_filter]
  constructor
  ·rintro⟨i,hi,rfl⟩
   simp_all[List.mem_filter,List.mem_range,TA,R7,IU,Int.toNat_natCast]
  ·rintro⟨hk,hm⟩
   obtain⟨i,hi,rfl,ho⟩:=aqR hp hz hk
   rw[R7 l hp hi,IU hp hi,Int.toNat_natCast]at hm
   simp only[Bool.and_eq_true,decide_eq_true_eq,Bool.not_eq_true']at hm
   refine⟨i,List.mem_filter.2 ⟨List.mem_range.2 hi,?_⟩,rfl⟩
   grind[TA]
theorem ala(l:List U){X:U}{p:Int}(h:jU X p=true){i:Nat}(hi:i<(bw (dE l X p (aJ X))).length):
  kQ l X ((bw (dE l X p (aJ X))).getD i 0)=(eH (dE l X p (aJ X))).getD i 0/\0<=cO X ((bw (dE l X p (aJ X))).getD i 0) (aJ X):=by
 obtain⟨hp,p0,p1⟩:=CH h
 rw[xT]at *
 rw[amV]
 have hl:i<((List.range (aJ X)).filter (nj l X p)).length:=by simp_all
 rw[List.getD_eq_getElem?_getD,List.getD_eq_getElem?_getD,List.getElem?_map,List.getElem?_map,List.getElem?_eq_getElem hl]
 have hm:=List.getElem_mem hl;generalize ((List.range _).filter _)[i]=q at hm;simp_all[TA,R7,IU]
section
variable {F:Env} {x y l A a b k u i j p q n m r o c d w v X T N L e t C z s m0 m1 m2 m3:E}
theorem yB(F:Env)(a:E):0<=E.I F (.fn 9 a):=Int.natCast_nonneg _
/-! numbers in order -/
theorem zD:(E.B F (.fn 152 (.pr x (.pr l i)))=true)=(aq F x=dk ((aq F l).take (E.I F i).toNat)):=by
 show((bI _==dk _)=true)=_
 rw[beq_iff_eq];rfl
theorem Uy:(E.B F (.fn 160 (.pr x (.pr v i)))=true)=(∀a∈(aq F x).take (E.I F i).toNat,a<E.I F v):=by
 show(((bI _).take _).all _=true)=_
 simp only[List.all_eq_true,decide_eq_true_eq];rfl
theorem Uz:(E.B F (.fn 161 (.pr x (.pr y i)))=true)=((aq F x).take (E.I F i).toNat=(aq F y).take (E.I F i).toNat):=by
 show(((bI _).take _==(bI _).take _)=true)=_
 rw[beq_iff_eq];rfl
theorem a4Z(h:E.I F i<=0):E.B F (.fn 152 (.pr (.fn 10 a) (.pr l i)))=true:=by
 have e:(E.I F i).toNat=0:=by omega
 rw[zD,e];rfl
theorem a4X(h:E.B F (.fn 152 (.pr x (.pr l i)))=true)(e:E.I F n=E.I F i):E.B F (.fn 152 (.pr x (.pr l n)))=true:=by
 simp_all[zD]
theorem a5d(h:E.I F i<=0):E.B F (.fn 160 (.pr x (.pr v i)))=true:=by
 have e:(E.I F i).toNat=0:=by omega
 grind[Uy]
theorem a5c(h:E.B F (.fn 160 (.pr x (.pr v i)))=true)(h0:0<=E.I F i)(h1:E.I F i<E.I F (.fn 0 x))(hn:E.I F n=E.I F i+1)(hv:E.I F (.fn 1 (.pr x i))<E.I F v):E.B F (.fn 160 (.pr x (.pr v n)))=true:=by
 have en:(E.I F n).toNat=(E.I F i).toNat+1:=by omega
 grind[Uy,fh,np]
/-- the list that Sorted makes in a step -/
theorem KQ(h:E.B F (.fn 152 (.pr x (.pr l i)))=true)(h':E.B F (.fn 160 (.pr x (.pr v j)))=true)(ev:v= .fn 1 (.pr l i))(h0:0<=E.I F i)(h1:E.I F i<E.I F (.fn 0 l))(hn:E.I F n=E.I F i+1)
    (j0:0<=E.I F j)(j1:E.I F j<=E.I F (.fn 0 x))(hj:E.I F (.fn 0 x)<=E.I F j\/E.I F v<=E.I F (.fn 1 (.pr x j)))
    (hy:aq F y=(aq F x).take (E.I F j).toNat++(E.I F v ::(aq F x).drop (E.I F j).toNat)):E.B F (.fn 152 (.pr y (.pr l n)))=true:=by
  subst ev;have en:(E.I F n).toNat=(E.I F i).toNat+1:=by omega
  rw[zD]at h
  rw[Uy]at h'
  rw[<- br]at h1 j1 hj
  grind[fh,a1v,E.I,zD,np]
theorem CX:aq F (.fn 4 (.pr l (.pr a b)))=((aq F l).take (E.I F b).toNat).drop (E.I F a).toNat:=by
 show(((E.L F l).take _).drop _).map _=_
 rw[List.map_drop,List.map_take];rfl
theorem vb(h0:0<=E.I F a)(h1:E.I F a<=E.I F b)(h2:E.I F b<=E.I F (.fn 0 l)):E.I F (.fn 0 (.fn 4 (.pr l (.pr a b))))=E.I F b-E.I F a:=by
 rw[<- br]at *
 grind[CX]
theorem a4Y(ev:v=.fn 1 (.pr l i))(h0:E.I F i=0)(h1:0<E.I F (.fn 0 l))(hn:E.I F n=1):E.B F (.fn 152 (.pr (.fn 23 (.pr v (.fn 10 a))) (.pr l n)))=true:=by
 have e:=KQ (F:=F) (x:=.fn 10 (.int 0)) (j:=.int 0) (y:=.fn 23 (.pr v (.fn 10 a))) (n:=n) (a4Z (l:=l) (i:=i) (by omega)) (a5d (v:=v) (Int.le_refl _)) ev (by omega) (by omega) (by omega) (Int.le_refl _) (by rw[<- br,u6];simp_all) (Or.inl (by rw[<- br,u6];simp_all)) (by rfl);exact e
theorem KP(h:E.B F (.fn 152 (.pr x (.pr l i)))=true)(h':E.B F (.fn 160 (.pr x (.pr v j)))=true)(ev:v=.fn 1 (.pr l i))(h0:0<=E.I F i)(h1:E.I F i<E.I F (.fn 0 l))(hn:E.I F n=E.I F i+1)
  (j0:0<=E.I F j)(j1:E.I F j<=E.I F (.fn 0 x))(hj:E.I F (.fn 0 x)<=E.I F j\/E.I F v<=E.I F (.fn 1 (.pr x j)))(he:E.I F (.fn 0 x)<=E.I F e):
  (E.I F (.fn 0 x)<=E.I F j->E.B F (.fn 152 (.pr (.fn 3 (.pr (.fn 4 (.pr x (.pr (.int 0) j))) (.fn 23 (.pr v (.fn 10 (.int 0)))))) (.pr l n)))=true)/\
  (E.I F j=0->E.B F (.fn 152 (.pr (.fn 3 (.pr (.fn 23 (.pr v (.fn 10 (.int 0)))) (.fn 4 (.pr x (.pr j e))))) (.pr l n)))=true)/\
  E.B F (.fn 152 (.pr (.fn 3 (.pr (.fn 4 (.pr x (.pr (.int 0) j))) (.fn 3 (.pr (.fn 23 (.pr v (.fn 10 (.int 0)))) (.fn 4 (.pr x (.pr j e))))))) (.pr l n)))=true:=by
 have z0:(E.I F (.int 0)).toNat=0:=rfl;have hx:=br (F:=F) (l:=x);have hd:((aq F x).take (E.I F e).toNat)=aq F x:=List.take_of_length_le (by omega)
 refine⟨fun hf=>?_,fun hz=>?_,?_⟩
 ·refine KQ h h' ev h0 h1 hn j0 j1 hj ?_;grind[lK,CX,CY,u6]
 ·refine KQ h h' ev h0 h1 hn j0 j1 hj ?_;simp_all[lK,CX,CY,u6]
 ·refine KQ h h' ev h0 h1 hn j0 j1 hj ?_;simp_all[lK,CX,CY,u6]
/-! equal lists -/
theorem a5e(h:E.B F (.fn 161 (.pr x (.pr y i)))=true)(e:E.I F n=E.I F i):E.B F (.fn 161 (.pr x (.pr y n)))=true:=by
 simp_all[Uz]
theorem a5g(h:E.B F (.fn 161 (.pr x (.pr y i)))=true)(h0:0<=E.I F i)(h1:E.I F i<E.I F (.fn 0 x))(h2:E.I F (.fn 0 y)=E.I F (.fn 0 x))(hn:E.I F n=E.I F i+1)(hv:E.I F (.fn 1 (.pr x i))=E.I F (.fn 1 (.pr y i))):E.B F (.fn 161 (.pr x (.pr y n)))=true:=by
 have en:(E.I F n).toNat=(E.I F i).toNat+1:=by omega
 grind[br,Uz,fh,np]
theorem a5f(h0:0<=E.I F i)(h1:E.I F i<E.I F (.fn 0 x))(h2:E.I F (.fn 0 y)=E.I F (.fn 0 x))(hn:E.I F i<E.I F n)(hv:¬E.I F (.fn 1 (.pr x i))=E.I F (.fn 1 (.pr y i))):¬E.B F (.fn 161 (.pr x (.pr y n)))=true:=by
 rw[Uz]
 intro h;apply hv
 rw[fh,fh]
 have e:=congrArg (fun l=>l[(E.I F i).toNat]?) h;grind
/-! the reference's sources -/
theorem zC:(E.B F (.fn 151 (.pr x (.pr C (.pr X (.pr p n)))))=true)=(aq F x=qC (E.L F C) (X.den F) (E.I F p) (E.I F n).toNat):=by
 show((bI _==qC _ _ _ _)=true)=_
 rw[beq_iff_eq];rfl
theorem sJ:(E.B F (.fn 145 (.pr X p))=true)=(jU (X.den F) (E.I F p)=true):=rfl
theorem KN(hL:E.B F (.fn 109 (.pr L (.pr X (.pr p (.int 2)))))=true):aq F L=bg (X.den F) (4*(E.I F p).toNat+2):=by
 simp_all[zz,Nat.mul_comm]
theorem su(hL:E.B F (.fn 109 (.pr L (.pr X (.pr p (.int 2)))))=true)(hf:E.B F (.fn 145 (.pr X p))=true){k:E}(ek:k=.fn 1 (.pr L i))(h0:0<=E.I F i)(h1:E.I F i<E.I F (.fn 0 L)):
  0<=E.I F (.fn 120 (.pr X (.pr k (.fn 9 (.pr (.fn 1 (.pr X (.int 0))) (.int 12)))))):=by
 subst ek
 obtain⟨hp,p0,p1⟩:=CH (sJ▸hf)
 rw[<- br]at h1
 have hm:E.I F (.fn 1 (.pr L i))∈bg (X.den F) (4*(E.I F p).toNat+2):=by
  grind[KN,fh]
 obtain⟨q,hq,he,_⟩:=aqR hp (by omega) hm
 exact Rt hq he
theorem zi(h:E.B F (.fn 151 (.pr x (.pr C (.pr X (.pr p i)))))=true)(hL:E.B F (.fn 109 (.pr L (.pr X (.pr p (.int 2)))))=true){k v q tp:E}(ek:k= .fn 1 (.pr L i))(et:tp= .fn 1 (.pr (.fn 1 (.pr X (.int 0))) (.fn 6 (.pr (.fn 8 (.pr q (.int 12))) (.int 9)))))
    (h0:0<=E.I F i)(h1:E.I F i<E.I F (.fn 0 L))(hn:E.I F n=E.I F i+1)(hv:E.I F v=E.I F (.fn 150 (.pr C (.pr X k)))):
    (¬0<=E.I F v->E.B F (.fn 151 (.pr x (.pr C (.pr X (.pr p n)))))=true)/\(E.I F q=E.I F (.fn 120 (.pr X (.pr k (.fn 9 (.pr (.fn 1 (.pr X (.int 0))) (.int 12))))))->0<=E.I F q->
     (E.B F tp=true->E.B F (.fn 151 (.pr x (.pr C (.pr X (.pr p n)))))=true)/\
     (0<=E.I F v->¬E.B F tp=true->E.B F (.fn 151 (.pr (.fn 3 (.pr x (.fn 23 (.pr k (.fn 10 (.int 0)))))) (.pr C (.pr X (.pr p n)))))=true/\(aq F x= []->E.B F (.fn 151 (.pr (.fn 23 (.pr k (.fn 10 (.int 0)))) (.pr C (.pr X (.pr p n)))))=true))):=by
  subst ek;subst et;have en:(E.I F n).toNat=(E.I F i).toNat+1:=by omega
  rw[<- br]at h1
  have hz:=KN hL;have e9:(E.I F (.fn 9 (.pr (.fn 1 (.pr X (.int 0))) (.int 12)))).toNat=aJ (X.den F):=rfl;have hs:qC (E.L F C) (X.den F) (E.I F p) ((E.I F i).toNat+1)=qC (E.L F C) (X.den F) (E.I F p) (E.I F i).toNat ++
      if(decide (0<=kQ (E.L F C) (X.den F) (E.I F (.fn 1 (.pr L i)))) && !((cX (X.den F) 0).toL.getD ((cO (X.den F) (E.I F (.fn 1 (.pr L i))) (aJ (X.den F))).toNat*12+9) (.bool false)).toB)then [E.I F (.fn 1 (.pr L i))] else []:=by
    grind[qC,np,fh]
  rw[Em]at hv
  rw[qL,e9]
  rw[zC]at h
  rw[zC,zC,zC,en,hs,<- hv]
  refine⟨fun hneg=>?_,fun hq hq0=>?_⟩
  · grind
  · have c9:E.B F (.fn 1 (.pr (.fn 1 (.pr X (.int 0))) (.fn 6 (.pr (.fn 8 (.pr q (.int 12))) (.int 9)))))=((cX (X.den F) 0).toL.getD ((cO (X.den F) (E.I F (.fn 1 (.pr L i))) (aJ (X.den F))).toNat*12+9) (.bool false)).toB:=by
      rw[aj7,<- hq]
      have e:(E.I F q*12+9).toNat=(E.I F q).toNat*12+9:=by omega
      show((cX (X.den F) 0).toL.getD (E.I F q*12+9).toNat (.int 0)).toB=_
      rw[e]
    simp_all[if_neg,List.append_nil,if_pos,lK,CY,u6]
theorem a4W(h:E.B F (.fn 151 (.pr (.fn 10 a) (.pr C (.pr X (.pr p i)))))=true)(hL:E.B F (.fn 109 (.pr L (.pr X (.pr p (.int 2)))))=true)(hf:E.B F (.fn 145 (.pr X p))=true)(h1:E.I F (.fn 0 L)<=E.I F i):E.B F (.fn 144 (.pr (.fn 10 b) (.pr C (.pr X p))))=true:=by
 rw[zC]at h
 rw[<- br,KN hL]at h1
 rw[Ls,<- aoI _ (sJ▸hf) (n:=(E.I F i).toNat) (by omega),<- h];rfl
theorem a4V(h:E.B F (.fn 151 (.pr x (.pr C (.pr X (.pr p i)))))=true)(hL:E.B F (.fn 109 (.pr L (.pr X (.pr p (.int 2)))))=true)(hf:E.B F (.fn 145 (.pr X p))=true)
  (hy:E.B F (.fn 152 (.pr y (.pr x n)))=true)(h1:E.I F (.fn 0 L)<=E.I F i)(hx:E.I F (.fn 0 x)<=E.I F n):E.B F (.fn 144 (.pr y (.pr C (.pr X p))))=true:=by
 rw[zC]at h
 rw[zD]at hy
 rw[<- br]at hx
 rw[List.take_of_length_le (by omega)]at hy
 rw[<- br,KN hL]at h1
 grind[Ls,aoI,sJ]
theorem aoH(l:List U)(X:U)(p:Int):∀n,(dE l X p n).length<=2*n
 |0=>by simp[a3Z]
 |n+1=>by
  rw[DM,List.length_append]
  have:=aoH l X p n
  grind
/-! the law -/
end
end Go.SX

set_option linter.unusedVariables false
set_option linter.unusedSimpArgs false
namespace Go.SX
/-! ### values that are equal -/
mutual
theorem U.eq_rfl:∀u:U,U.eq u u=true
 |.int a=>by simp[U.eq]
 |.bool a=>by simp[U.eq]
 |.str a=>by simp[U.eq]
 |.lst l=>by exact U.eqs_rfl l
 |.bx _ _ _ l=>by exact U.eqs_rfl l
theorem U.eqs_rfl:∀l,U.eqs l l=true
 |[]=>rfl
 |x::xs=>by simp only[U.eqs,U.eq_rfl x,U.eqs_rfl xs,Bool.and_self]
end
theorem Cy{a b:U}(h:U.eq a b=true):a.toI=b.toI:=by cases a<;>cases b<;>simp_all[U.eq,U.toI]
theorem ajm{a b:U}(h:U.eq a b=true):a.toB=b.toB:=by cases a<;>cases b<;>simp_all[U.eq,U.toB]
theorem mT{a b:U}(h:U.eq a b=true):U.eqs a.toL b.toL=true:=by cases a<;>cases b<;>simp_all[U.eq,U.toL,U.eqs]
theorem lG:∀ {l m:List U},U.eqs l m=true->l.length=m.length
 |[],[],_=>rfl
 |x::xs,y::ys,h=>by
  simp only[U.eqs,Bool.and_eq_true]at h;simp[lG h.2]
theorem qe:∀ {l m:List U} (i:Nat),U.eqs l m=true->U.eq (l.getD i (.int 0)) (m.getD i (.int 0))=true
 |[],[],_,_=>by rfl
 |x::xs,y::ys,0,h=>by simp_all[U.eqs]
 |x::xs,y::ys,i+1,h=>by simp only[U.eqs,Bool.and_eq_true]at h;simpa using qe i h.2
theorem ajn:∀ {l m a b:List U},U.eqs l m=true->U.eqs a b=true->U.eqs (l++a) (m++b)=true
 |[],[],_,_,_,h=>h
 |x::xs,y::ys,_,_,h,h'=>by
  simp only[U.eqs,Bool.and_eq_true,List.cons_append]at h ⊢
  exact⟨h.1,ajn h.2 h'⟩
theorem aj6(l:List U){i n:Nat}(h:i<n):(l.take n).getD i (.int 0)=l.getD i (.int 0):=by grind
theorem a6c(l:List U)(n:Nat)(h:n<l.length):l.take (n+1)=l.take n++[l.getD n (.int 0)]:=by
 simp_all
theorem a6b(l:List U)(n:Nat)(h:n+5<=l.length):l.take (n+5)=l.take n++[l.getD n (.int 0),l.getD (n+1) (.int 0),l.getD (n+2) (.int 0),l.getD (n+3) (.int 0),l.getD (n+4) (.int 0)]:=by
 grind[a6c,List.append_assoc]
section
variable {F:Env} {x y l A a b k u i j p q n m r o c d w v X T N L e t C z s:E}
theorem aoZ(h:E.B F (.fn 12 (.pr a b))=true)(i:E):E.B F (.fn 12 (.pr (.fn 1 (.pr a i)) (.fn 1 (.pr b i))))=true:=qe _ (mT h)
theorem kg(h:E.B F (.fn 12 (.pr a b))=true)(i:E):E.I F (.fn 1 (.pr a i))=E.I F (.fn 1 (.pr b i)):=Cy (aoZ h i)
theorem TM(h:E.B F (.fn 12 (.pr a b))=true)(i:E):E.B F (.fn 1 (.pr a i))=E.B F (.fn 1 (.pr b i)):=ajm (aoZ h i)
theorem ao0(h:E.B F (.fn 12 (.pr a b))=true):E.I F (.fn 0 a)=E.I F (.fn 0 b):=by
 show((E.L F a).length:Int)=(E.L F b).length
 have e:(E.L F a).length=(E.L F b).length:=lG (mT (a:=a.den F) (b:=b.den F) h)
 rw[e]
theorem vL(h:E.B F (.fn 12 (.pr a b))=true)(w:E):E.I F (.fn 9 (.pr a w))=E.I F (.fn 9 (.pr b w)):=by
 show((E.L F a).length/(E.I F w).toNat:Nat)=(((E.L F b).length/(E.I F w).toNat:Nat):Int)
 have e:(E.L F a).length=(E.L F b).length:=lG (mT (a:=a.den F) (b:=b.den F) h)
 rw[e]
/-! whole cR of items -/
theorem qG:(E.B F (.fn 187 (.pr a b))=true)=(g9 (E.L F a) (E.L F b)=true):=rfl
theorem kZ(l m:List U):g9 l m=true↔l.length/5=m.length/5/\U.eqs (l.take (l.length/5*5)) (m.take (m.length/5*5))=true:=by
 simp_all[g9]
theorem apR(h:E.B F (.fn 187 (.pr a b))=true):E.I F (.fn 9 (.pr a (.int 5)))=E.I F (.fn 9 (.pr b (.int 5))):=by
 rw[qG,kZ]at h
 show(E.L F a).length/5=((E.L F b).length/5:Int)
 omega
theorem TX(h:E.B F (.fn 187 (.pr a b))=true)(h0:0<=E.I F i)(h1:E.I F i<E.I F (.fn 9 (.pr b (.int 5)))){j:Nat}(hj:j<5):E.B F (.fn 12 (.pr (bV a i 5 j) (bV b i 5 j)))=true:=by
 rw[qG,kZ]at h
 obtain⟨n,hn⟩:=Int.eq_ofNat_of_zero_le h0
 have e9:E.I F (.fn 9 (.pr b (.int 5)))=(E.L F b).length/5:=rfl;have ei:(E.I F i*5+j).toNat=n*5+j:=by omega
 have:=qe (n*5+j) h.2
 rw[aj6 _ (by omega),aj6 _ (by omega)]at this
 show U.eq ((E.L F a).getD (E.I F i*5+j).toNat _) ((E.L F b).getD (E.I F i*5+j).toNat _)=true;simp_all
theorem KT(h:E.B F (.fn 187 (.pr a b))=true)(h0:0<=E.I F i)(h1:E.I F i<E.I F (.fn 9 (.pr b (.int 5)))){j:Nat}(hj:j<5):E.I F (bV a i 5 j)=E.I F (bV b i 5 j):=Cy (TX h h0 h1 hj)
/-! as far as they are copied -/
theorem UB:(E.B F (.fn 181 (.pr a (.pr b n)))=true)=(U.eqs ((E.L F a).take (E.I F n).toNat) ((E.L F b).take (E.I F n).toNat)=true):=rfl
end
end Go.SX

set_option linter.unusedVariables false
set_option linter.unusedSimpArgs false
namespace Go.SX
/-! ### paying, step by step -/
theorem RJ{f:Pu->Option Pu}{s:Pu}:∀ {n m:Nat},n<=m->dN f n s=none->dN f m s=none
 |n,0,h,e=>by simp_all
 |n,m+1,h,e=>by
  by_cases h':n=m+1
  ·simp_all
  ·show(dN f m s).bind f=none
   rw[RJ (by omega) e];rfl
theorem yd{f:Pu->Option Pu}{s t:Pu}{n:Nat}(h:dN f n s=some t):dN f (n+1) s=f t:=by
 simp_all[dN]
/-- from the pool -/
theorem C0{k:Nat}:∀ {n:Nat} {s:Pu},k<s.1.length->(n:Int)<=s.1.getD k 0->dN (iD k) n s=some (s.1.set k (s.1.getD k 0-n),s.2)
  |0,s,hk,h=>by
    show some s=_;simp_all
  |n+1,s,hk,h=>by
    rw[yd (C0 (n:=n) hk (by omega))]
    unfold iD gd;grind[List.set_set]
theorem vM{k:Int}{s t:Pu}:hG k s=some t↔0<=bS k s.2.1 0/\t=jx (bS k s.2.1 0).toNat s:=by
 simp_all[hG,eq_comm]
theorem KZ{k:Int}{s:Pu}:hG k s=none↔bS k s.2.1 0<0:=by
 simp_all[hG]
theorem JS{k:Nat}{s:Pu}(h:s.1.getD k 0<=0):iD k s=hG k s:=by simp_all[iD,if_neg]
theorem k9{k:Nat}(h:k<4):gh k=iD k:=by simp_all[gh]
/-! the whole plan -/
theorem vF{c:List Int}{k:Nat}(hk:k<4)(s:Pu):bN c (k+1) 0 s=bN c k (c.getD k 0).toNat s:=by
 unfold bN
 rw[k9 hk]
 have e:∀x:Option Pu,x.bind (fun t=>some t)=x:=fun x=>by simp_all
 exact e _
theorem JT{c:List Int}{k n:Nat}{s t u:Pu}(h:bN c k 0 s=some t)(h':dN (gh k) n t=some u):bN c k n s=some u:=by
 have e:=by
  have e:∀x:Option Pu,x.bind (fun t=>some t)=x:=fun x=>by simp_all
  exact(e _).symm.trans h
 simp_all[bN]
theorem JU{c:List Int}{k n:Nat}{s t:Pu}(h:bN c k 0 s=some t)(h':dN (gh k) n t=none):bN c k n s=none:=by
 have e:=by
  have e:∀x:Option Pu,x.bind (fun t=>some t)=x:=fun x=>by simp_all
  exact(e _).symm.trans h
 simp_all[bN]
theorem jr{c:List Int}{k n:Nat}{s t:Pu}(h:bN c k n s=some t):bN c k (n+1) s=gh k t:=by
 unfold bN at *;cases e:gY c k s with
 |none=>simp_all
 |some u=>simp_all[yd]
theorem Dw{c:List Int}{k n m:Nat}{s:Pu}(hn:n<=m)(h:bN c k n s=none):bN c k m s=none:=by
 unfold bN at *;cases e:gY c k s with
 |none=>rfl
 |some u=>grind[RJ]
/-- what fails once fails for good -/
theorem Dv{c:List Int}{k n:Nat}{s:Pu}(hk:k<4)(hn:n<=(c.getD k 0).toNat)(h:bN c k n s=none)(m:Nat):bN c 4 m s=none:=by
  have h1:bN c (k+1) 0 s=none:=by grind[vF,Dw]
  have up:∀ {j:Nat},j<4->bN c j 0 s=none->bN c _ 0 s=none:=fun hj hj'=>by rw[vF hj];exact Dw (Nat.zero_le _) hj'
  have h4:bN c 4 0 s=none:=by
    grind
  exact Dw (Nat.zero_le _) h4
/-! what stays true: the sources that are left are some of those that there were -/
theorem aqd{i:Nat}{s:Pu}(h:2*i+2<=s.2.1.length):(jx i s).2.1.length+2=s.2.1.length/\(jx i s).2.2.length=s.2.2.length+1:=by
 grind[jx]
theorem IB{k:Int}:∀ {l:List Int} {i:Nat},0<=bS k l i->(i:Int)<=bS k l i/\2*(bS k l i).toNat+2<=l.length+2*i
 |[],i,h=>by simp[bS]at h
 |[_],i,h=>by simp[bS]at h
 |a::c::l,i,h=>by
  unfold bS at h ⊢;split
  ·grind
  ·rename_i hc
   rw[if_neg hc]at h
   have:=IB h
   grind
end Go.SX

set_option linter.unusedVariables false
set_option linter.unusedSimpArgs false
namespace Go.SX
/-! ### a purse in the facts' words -/
noncomputable def ch(F:Env)(p0 p1 p2 p3 R T:E):Pu:=([E.I F p0,E.I F p1,E.I F p2,E.I F p3],aq F R,aq F T)
theorem PU{G:Type}[BEq G][LawfulBEq G]{o:Option G}{t:G}:(o.any fun s=>s==t)=true↔o=some t:=by
 cases o with
 |none=>simp
 |some s=>simp
section
variable {F:Env} {p0 p1 p2 p3 q0 q1 q2 q3 R T R1 T1 R2 T2 k n m g i j a b c d x y l v id cE:E}
theorem iI:(E.B F (.fn 170 (.pr q0 (.pr q1 (.pr q2 (.pr q3 (.pr R1 (.pr T1 (.pr k (.pr n (.pr p0 (.pr p1 (.pr p2 (.pr p3 (.pr R (.pr T (.int 0))))))))))))))))=true)=(dN (gh (E.I F k).toNat) (E.I F n).toNat (ch F p0 p1 p2 p3 R T)=some (ch F q0 q1 q2 q3 R1 T1)):=by
 show(((dN (gh (E.I F k).toNat) (E.I F n).toNat (ch F p0 p1 p2 p3 R T)).any fun s=>s==(ch F q0 q1 q2 q3 R1 T1))=true)=_
 rw[PU]
theorem vU:(E.B F (.fn 171 (.pr k (.pr n (.pr p0 (.pr p1 (.pr p2 (.pr p3 (.pr R (.pr T (.int 0))))))))))=true)=(dN (gh (E.I F k).toNat) (E.I F n).toNat (ch F p0 p1 p2 p3 R T)=none):=by
 show((dN (gh (E.I F k).toNat) (E.I F n).toNat (ch F p0 p1 p2 p3 R T)).isNone=true)=_
 simp_all
theorem UA:(E.B F (.fn 174 (.pr R1 (.pr T1 (.pr k (.pr R (.pr T (.int 0)))))))=true)=(hG (E.I F k) ([],aq F R,aq F T)=some ([],aq F R1,aq F T1)):=by
 show(((hG (E.I F k) ([],aq F R,aq F T)).any fun s=>s==([],aq F R1,aq F T1))=true)=_
 rw[PU]
theorem vV:E.I F (.fn 175 (.pr k (.pr R n)))=bS (E.I F k) ((aq F R).take (2*(E.I F n).toNat)) 0:=rfl
theorem sL:(E.B F (.fn 185 (.pr p0 (.pr p1 (.pr p2 (.pr p3 (.pr k (.int 0)))))))=true)=(([E.I F p0,E.I F p1,E.I F p2,E.I F p3]:List Int).getD (E.I F k).toNat 0=0):=by
 show(([E.I F p0,E.I F p1,E.I F p2,E.I F p3].getD (E.I F k).toNat 0==0)=true)=_
 simp_all
theorem ak:(E.B F (.fn 188 (.pr p0 (.pr p1 (.pr p2 (.pr p3 (.int 0))))))=true)=(0<=E.I F p0/\E.I F p0<=99/\0<=E.I F p1/\E.I F p1<=99/\0<=E.I F p2/\E.I F p2<=99/\0<=E.I F p3/\E.I F p3<=99):=by
 show(([E.I F p0,E.I F p1,E.I F p2,E.I F p3].all fun x=>dh 0 x 99)=true)=_
 simp only[List.all_cons,List.all_nil,Bool.and_eq_true,iz,Bool.and_true,and_assoc]
theorem UC:(E.B F (.fn 186 (.pr x (.pr R i)))=true)=(aq F x=(aq F R).take (2*(E.I F i).toNat)++(aq F R).drop (2*(E.I F i).toNat+2)):=by
 show((bI _==(bI _).take _++(bI _).drop _)=true)=_
 rw[beq_iff_eq];rfl
/-- tapping does not look at the pool -/
theorem aqe{k:Int}{m r t r1 t1:List Int}(h:hG k ([],r,t)=some ([],r1,t1)):hG k (m,r,t)=some (m,r1,t1):=by
  simp_all[vM,jx]
/-- mana of a colour, from the pool -/
theorem apb{g1:E}(hk:E.I F k=0)(hq:E.I F g1=E.I F p0-E.I F g)(h0:0<=E.I F g)(h1:E.I F g<=E.I F p0):E.B F (.fn 170 (.pr g1 (.pr p1 (.pr p2 (.pr p3 (.pr R (.pr T (.pr k (.pr g (.pr p0 (.pr p1 (.pr p2 (.pr p3 (.pr R (.pr T (.int 0))))))))))))))))=true:=by
  have ek:(E.I F k).toNat=0:=by omega
  rw[iI,ek,k9 (by decide),C0 (by simp[ch]) (by grind[ch])]
  simp only[ch,List.getD_cons_zero,List.set_cons_zero,Option.some.injEq,Prod.mk.injEq,List.cons.injEq,and_true];omega
theorem apc{g1:E}(hk:E.I F k=1)(hq:E.I F g1=E.I F p1-E.I F g)(h0:0<=E.I F g)(h1:E.I F g<=E.I F p1):E.B F (.fn 170 (.pr p0 (.pr g1 (.pr p2 (.pr p3 (.pr R (.pr T (.pr k (.pr g (.pr p0 (.pr p1 (.pr p2 (.pr p3 (.pr R (.pr T (.int 0))))))))))))))))=true:=by
 have ek:(E.I F k).toNat=1:=by omega
 rw[iI,ek,k9 (by decide),C0 (by simp[ch]) (by grind[ch])]
 simp only[ch,List.getD_cons_zero,List.getD_cons_succ,List.set_cons_zero,List.set_cons_succ,Option.some.injEq,Prod.mk.injEq,List.cons.injEq,and_true,true_and];omega
theorem apd{g1:E}(hk:E.I F k=2)(hq:E.I F g1=E.I F p2-E.I F g)(h0:0<=E.I F g)(h1:E.I F g<=E.I F p2):E.B F (.fn 170 (.pr p0 (.pr p1 (.pr g1 (.pr p3 (.pr R (.pr T (.pr k (.pr g (.pr p0 (.pr p1 (.pr p2 (.pr p3 (.pr R (.pr T (.int 0))))))))))))))))=true:=by
 have ek:(E.I F k).toNat=2:=by omega
 rw[iI,ek,k9 (by decide),C0 (by simp[ch]) (by grind[ch])]
 simp only[ch,List.getD_cons_zero,List.getD_cons_succ,List.set_cons_zero,List.set_cons_succ,Option.some.injEq,Prod.mk.injEq,List.cons.injEq,and_true,true_and];omega
theorem ape{g1:E}(hk:E.I F k=3)(hq:E.I F g1=E.I F p3-E.I F g)(h0:0<=E.I F g)(h1:E.I F g<=E.I F p3):E.B F (.fn 170 (.pr p0 (.pr p1 (.pr p2 (.pr g1 (.pr R (.pr T (.pr k (.pr g (.pr p0 (.pr p1 (.pr p2 (.pr p3 (.pr R (.pr T (.int 0))))))))))))))))=true:=by
 have ek:(E.I F k).toNat=3:=by omega
 rw[iI,ek,k9 (by decide),C0 (by simp[ch]) (by grind[ch])]
 simp only[ch,List.getD_cons_zero,List.getD_cons_succ,List.set_cons_zero,List.set_cons_succ,Option.some.injEq,Prod.mk.injEq,List.cons.injEq,and_true,true_and];omega
theorem TP(h:E.B F (.fn 170 (.pr q0 (.pr q1 (.pr q2 (.pr q3 (.pr R1 (.pr T1 (.pr k (.pr g (.pr p0 (.pr p1 (.pr p2 (.pr p3 (.pr R (.pr T (.int 0))))))))))))))))=true)(h':E.B F (.fn 174 (.pr R2 (.pr T2 (.pr k (.pr R1 (.pr T1 (.int 0)))))))=true)(hp:E.B F (.fn 185 (.pr q0 (.pr q1 (.pr q2 (.pr q3 (.pr k (.int 0)))))))=true)(k0:0<=E.I F k)(k1:E.I F k<=3)(g0:0<=E.I F g)(hm:E.I F m=E.I F g+1):E.B F (.fn 170 (.pr q0 (.pr q1 (.pr q2 (.pr q3 (.pr R2 (.pr T2 (.pr k (.pr m (.pr p0 (.pr p1 (.pr p2 (.pr p3 (.pr R (.pr T (.int 0))))))))))))))))=true:=by
 rw[iI]at h ⊢
 rw[UA]at h'
 rw[sL]at hp
 have em:(E.I F m).toNat=(E.I F g).toNat+1:=by omega
 have e:=yd h
 rw[k9 (by omega)]at e
 rw[em,k9 (by omega),e,JS (by simp_all[ch])]
 have ek:(E.I F k).toNat=E.I F k:=by omega
 rw[ek]
 exact aqe h'
theorem TQ(h:E.B F (.fn 170 (.pr q0 (.pr q1 (.pr q2 (.pr q3 (.pr R1 (.pr T1 (.pr k (.pr g (.pr p0 (.pr p1 (.pr p2 (.pr p3 (.pr R (.pr T (.int 0))))))))))))))))=true)(h':E.I F (.fn 175 (.pr k (.pr R1 n)))=-1)(hl:E.I F (.fn 0 R1)=E.I F n*2)(hp:E.B F (.fn 185 (.pr q0 (.pr q1 (.pr q2 (.pr q3 (.pr k (.int 0)))))))=true)(k0:0<=E.I F k)(k1:E.I F k<=3)(g0:0<=E.I F g)(hm:E.I F g<E.I F m):E.B F (.fn 171 (.pr k (.pr m (.pr p0 (.pr p1 (.pr p2 (.pr p3 (.pr R (.pr T (.int 0))))))))))=true:=by
 rw[iI]at h
 rw[vU]
 rw[sL]at hp
 rw[vV]at h'
 have e:=yd h
 rw[k9 (by omega)]at e
 have ek:(E.I F k).toNat=E.I F k:=by omega
 refine RJ (n:=(E.I F g).toNat+1) (by omega) ?_
 rw[k9 (by omega),e,JS (by simp_all[ch]),KZ,ek]
 have et:(aq F R1).take (2*(E.I F n).toNat)=aq F R1:=List.take_of_length_le (by grind[br])
 rw[et]at h'
 show bS _ (aq F R1) 0<0;omega
theorem gG(h:E.B F (.fn 170 (.pr q0 (.pr q1 (.pr q2 (.pr q3 (.pr R1 (.pr T1 (.pr k (.pr g (.pr p0 (.pr p1 (.pr p2 (.pr p3 (.pr R (.pr T (.int 0))))))))))))))))=true)(hm:E.I F m=E.I F g):E.B F (.fn 170 (.pr q0 (.pr q1 (.pr q2 (.pr q3 (.pr R1 (.pr T1 (.pr k (.pr m (.pr p0 (.pr p1 (.pr p2 (.pr p3 (.pr R (.pr T (.int 0))))))))))))))))=true:=by simp_all[iI]
/-! one mana of any colour -/
def kH(m:List Int)(k i:Nat):Nat:=if m.getD i 0<m.getD k 0 then k else i
theorem B6(m:List Int):gq m=kH m 3 (kH m 2 (kH m 1 0)):=rfl
theorem P7{m:List Int}{k i:Nat}(h:m.getD i 0<m.getD k 0):kH m k i=k:=if_pos h
theorem P6{m:List Int}{k i:Nat}(h:m.getD k 0<=m.getD i 0):kH m k i=i:=if_neg (by omega)
theorem aiu{a b c d:Int}(h1:b<=a)(h2:c<=a)(h3:d<=a):gq [a,b,c,d]=0:=by
 simp_all[B6,P6]
theorem aiv{a b c d:Int}(h1:a<b)(h2:c<=b)(h3:d<=b):gq [a,b,c,d]=1:=by
 simp_all[B6,P7,P6]
theorem aW7(m:List Int):kH m 2 (kH m 1 0)=0\/kH m 2 (kH m 1 0)=1\/kH m 2 (kH m 1 0)=2:=by
 grind[kH]
theorem aiw{a b c d:Int}(h1:a<c)(h2:b<c)(h3:d<=c):gq [a,b,c,d]=2:=by
 grind[B6,P7,P6]
theorem aix{a b c d:Int}(h1:a<d)(h2:b<d)(h3:c<d):gq [a,b,c,d]=3:=by
 grind[B6,aW7,P7]
theorem aWs(a b c d:Int):([a,b,c,d]:List Int).getD (gq [a,b,c,d]) 0<=max (max a b) (max c d):=by
 have h:gq [a,b,c,d]=0\/gq [a,b,c,d]=1\/gq [a,b,c,d]=2\/gq [a,b,c,d]=3:=by
  grind[B6,kH]
 grind
theorem sb{s:Pu}{b:Nat}(h:gq s.1=b):fU s=if 0<s.1.getD b 0 then some (gd b s)else hG (-1) s:=by subst h;rfl
theorem a0D{g1:E}(hq:E.I F g1=E.I F p0-1)(h0:E.I F p1<=E.I F p0)(h1:E.I F p2<=E.I F p0)(h2:E.I F p3<=E.I F p0)(hp:0<E.I F p0):fU (ch F p0 p1 p2 p3 R T)=some (ch F g1 p1 p2 p3 R T):=by
 rw[sb (s:=(ch F p0 p1 p2 p3 R T)) (b:=0) (aiu h0 h1 h2),if_pos (show 0<(ch F p0 p1 p2 p3 R T).1.getD 0 0 from hp)]
 simp_all[gd,ch]
theorem a0E{g1:E}(hq:E.I F g1=E.I F p1-1)(h0:E.I F p0<E.I F p1)(h1:E.I F p2<=E.I F p1)(h2:E.I F p3<=E.I F p1)(hp:0<E.I F p1):fU (ch F p0 p1 p2 p3 R T)=some (ch F p0 g1 p2 p3 R T):=by
 rw[sb (s:=(ch F p0 p1 p2 p3 R T)) (b:=1) (aiv h0 h1 h2),if_pos (show 0<(ch F p0 p1 p2 p3 R T).1.getD 1 0 from hp)]
 simp_all[gd,ch]
theorem a0F{g1:E}(hq:E.I F g1=E.I F p2-1)(h0:E.I F p0<E.I F p2)(h1:E.I F p1<E.I F p2)(h2:E.I F p3<=E.I F p2)(hp:0<E.I F p2):fU (ch F p0 p1 p2 p3 R T)=some (ch F p0 p1 g1 p3 R T):=by
 rw[sb (s:=(ch F p0 p1 p2 p3 R T)) (b:=2) (aiw h0 h1 h2),if_pos (show 0<(ch F p0 p1 p2 p3 R T).1.getD 2 0 from hp)]
 simp_all[gd,ch]
theorem a0G{g1:E}(hq:E.I F g1=E.I F p3-1)(h0:E.I F p0<E.I F p3)(h1:E.I F p1<E.I F p3)(h2:E.I F p2<E.I F p3)(hp:0<E.I F p3):fU (ch F p0 p1 p2 p3 R T)=some (ch F p0 p1 p2 g1 R T):=by
 rw[sb (s:=(ch F p0 p1 p2 p3 R T)) (b:=3) (aix h0 h1 h2),if_pos (show 0<(ch F p0 p1 p2 p3 R T).1.getD 3 0 from hp)]
 simp_all[gd,ch]
theorem ang{s:Pu}(h:s.1.getD (gq s.1) 0<=0):fU s=hG (-1) s:=by simp_all[fU,if_neg]
theorem anh(h0:E.I F p0<=0)(h1:E.I F p1<=0)(h2:E.I F p2<=0)(h3:E.I F p3<=0):fU (ch F p0 p1 p2 p3 R T)=hG (-1) (ch F p0 p1 p2 p3 R T):=by
 have:=aWs (E.I F p0) (E.I F p1) (E.I F p2) (E.I F p3)
 refine ang ?_;show [E.I F p0,E.I F p1,E.I F p2,E.I F p3].getD (gq [E.I F p0,E.I F p1,E.I F p2,E.I F p3]) 0<=0;omega
theorem apf{g1:E}(hq:E.I F g1=E.I F p0-1)(h0:E.I F p1<=E.I F p0)(h1:E.I F p2<=E.I F p0)(h2:E.I F p3<=E.I F p0)(hp:0<E.I F p0):E.B F (.fn 170 (.pr g1 (.pr p1 (.pr p2 (.pr p3 (.pr R (.pr T (.pr (.int 4) (.pr (.int 1) (.pr p0 (.pr p1 (.pr p2 (.pr p3 (.pr R (.pr T (.int 0))))))))))))))))=true:=by
 rw[iI];exact a0D hq h0 h1 h2 hp
theorem apg{g1:E}(hq:E.I F g1=E.I F p1-1)(h0:E.I F p0<E.I F p1)(h1:E.I F p2<=E.I F p1)(h2:E.I F p3<=E.I F p1)(hp:0<E.I F p1):E.B F (.fn 170 (.pr p0 (.pr g1 (.pr p2 (.pr p3 (.pr R (.pr T (.pr (.int 4) (.pr (.int 1) (.pr p0 (.pr p1 (.pr p2 (.pr p3 (.pr R (.pr T (.int 0))))))))))))))))=true:=by
 rw[iI];exact a0E hq h0 h1 h2 hp
theorem KR{g1:E}(hq:E.I F g1=E.I F p2-1)(h0:E.I F p0<E.I F p2)(h1:E.I F p1<E.I F p2)(h2:E.I F p3<=E.I F p2)(hp:0<E.I F p2):E.B F (.fn 170 (.pr p0 (.pr p1 (.pr g1 (.pr p3 (.pr R (.pr T (.pr (.int 4) (.pr (.int 1) (.pr p0 (.pr p1 (.pr p2 (.pr p3 (.pr R (.pr T (.int 0))))))))))))))))=true:=by
 rw[iI];exact a0F hq h0 h1 h2 hp
theorem sv{g1:E}(hq:E.I F g1=E.I F p3-1)(h0:E.I F p0<E.I F p3)(h1:E.I F p1<E.I F p3)(h2:E.I F p2<E.I F p3)(hp:0<E.I F p3):E.B F (.fn 170 (.pr p0 (.pr p1 (.pr p2 (.pr g1 (.pr R (.pr T (.pr (.int 4) (.pr (.int 1) (.pr p0 (.pr p1 (.pr p2 (.pr p3 (.pr R (.pr T (.int 0))))))))))))))))=true:=by
 rw[iI];exact a0G hq h0 h1 h2 hp
theorem apa(h:E.B F (.fn 174 (.pr R1 (.pr T1 (.pr (.int (-1)) (.pr R (.pr T (.int 0)))))))=true)(h0:E.I F p0<=0)(h1:E.I F p1<=0)(h2:E.I F p2<=0)(h3:E.I F p3<=0):E.B F (.fn 170 (.pr p0 (.pr p1 (.pr p2 (.pr p3 (.pr R1 (.pr T1 (.pr (.int 4) (.pr (.int 1) (.pr p0 (.pr p1 (.pr p2 (.pr p3 (.pr R (.pr T (.int 0))))))))))))))))=true:=by
 rw[iI];rw[UA]at h
 show fU _=_
 rw[anh h0 h1 h2 h3]
 exact aqe h
theorem aph(h:E.I F (.fn 175 (.pr (.int (-1)) (.pr R n)))=-1)(hl:E.I F (.fn 0 R)=E.I F n*2)(h0:E.I F p0<=0)(h1:E.I F p1<=0)(h2:E.I F p2<=0)(h3:E.I F p3<=0):E.B F (.fn 171 (.pr (.int 4) (.pr (.int 1) (.pr p0 (.pr p1 (.pr p2 (.pr p3 (.pr R (.pr T (.int 0))))))))))=true:=by
 rw[vU]
 show fU _=_
 rw[anh h0 h1 h2 h3,KZ]
 rw[vV]at h
 rw[<- br]at hl
 have et:(aq F R).take (2*(E.I F n).toNat)=aq F R:=List.take_of_length_le (by omega);show bS _ (aq F R) 0<0;simp_all
end
end Go.SX

set_option linter.unusedVariables false
set_option linter.unusedSimpArgs false
namespace Go.SX
mutual
theorem U.eq_symm:∀a b:U,U.eq a b=true->U.eq b a=true
 |.int a,b,h=>by cases b<;>simp_all[U.eq]
 |.bool a,b,h=>by cases b<;>simp_all[U.eq]
 |.str a,b,h=>by cases b<;>simp_all[U.eq]
 |.lst l,b,h=>by
  cases b with
  |lst m=>simp only[U.eq]at h ⊢;exact U.eqs_symm l m h
  |bx _ _ _ m=>simp only[U.eq]at h ⊢;exact U.eqs_symm l m h
  |_=>simp[U.eq]at h
 |.bx _ _ _ l,b,h=>by
  cases b with
  |lst m=>simp only[U.eq]at h ⊢;exact U.eqs_symm l m h
  |bx _ _ _ m=>simp only[U.eq]at h ⊢;exact U.eqs_symm l m h
  |_=>simp[U.eq]at h
theorem U.eqs_symm:∀l m:List U,U.eqs l m=true->U.eqs m l=true
 |[],m,h=>by cases m<;>simp_all[U.eqs]
 |x::xs,m,h=>by
  cases m with
  |nil=>simp[U.eqs]at h
  |cons y ys=>
   simp only[U.eqs,Bool.and_eq_true]at h ⊢
   exact⟨U.eq_symm x y h.1,U.eqs_symm xs ys h.2⟩
end
/-! ### boards that are the same -/
theorem aqr:∀(l ks r:List U),U.typs l ks r=true->l.length<=r.length->∀i,i<l.length->U.typ (l.getD i (.int 0)) (r.getD i (.int 0))=true
 |[],_,_,_,_,i,h=>absurd h (Nat.not_lt_zero _)
 |x::xs,ks,[],_,hl,_,_=>by simp at hl
 |x::xs,ks,k::r,h,hl,i,hi=>by
  simp only[U.typs,Bool.and_eq_true]at h;cases i with
  |zero=>simpa using h.1
  |succ i=>simpa using aqr xs ks r h.2 (by simpa using hl) i (by simpa using hi)
theorem a6q{l ks:List U}(h:U.typs l ks []=true)(hl:l.length<=ks.length){i:Nat}(hi:i<l.length):U.typ (l.getD i (.int 0)) (ks.getD i (.int 0))=true:=by
 cases l with
 |nil=>simp at hi
 |cons x xs=>cases ks with
  |nil=>simp at hl
  |cons k r=>exact aqr (x::xs) (k::r) (k::r) (by simpa[U.typs]using h) hl i hi
theorem aqn{u:U}{ks:List U}(h:U.typ u (.lst ks)=true):∃a n c l,u=.bx a n c l:=by
 cases u with
 |bx a n c l=>exact⟨a,n,c,l,rfl⟩
 |_=>simp[U.typ]at h
section
variable {F:Env} {x y l A a b k u i j p q n m r o c d w v X Y T N L e t C z s:E}
theorem qH:(E.B F (.fn 189 (.pr Y X))=true)=(∀j,j<38->gD j (cX (Y.den F) j) (cX (X.den F) j)=true):=by
 show(((List.range 38).all fun j=>gD j (cX (Y.den F) j) (cX (X.den F) j))=true)=_
 simp only[List.all_eq_true,List.mem_range]
theorem y5{j:Nat}(h:([0,6,7,8,9,20,21,22,23,31,32].contains j)=true)(a b:U):gD j a b=U.eq a b:=by
 have h9:(j==29||j==30)=false:=by
  cases e:(j==29||j==30)with
  |false=>rfl
  |true=>
   simp only[Bool.or_eq_true,beq_iff_eq]at e;rcases e with rfl|rfl<;>simp at h
 unfold gD
 rw[h9,h];rfl
theorem a1d(j:Nat)(h:(j==29||j==30)=false)(a:U):gD j a a=true:=by
 unfold gD
 rw[h]
 simp only[Bool.false_eq_true,if_false];split
 ·exact U.eq_rfl _
 ·split<;>exact beq_self_eq_true _
theorem jw(h:E.B F (.fn 189 (.pr Y X))=true)(c:Nat)(hc:([0,6,7,8,9,20,21,22,23,31,32].contains c&&decide (c<38))=true):E.B F (.fn 12 (.pr (.fn 1 (.pr Y (.int (Int.ofNat c)))) (.fn 1 (.pr X (.int (Int.ofNat c))))))=true:=by
 rw[qH]at h
 rw[Bool.and_eq_true,decide_eq_true_eq]at hc
 have:=h c hc.2
 rw[y5 hc.1]at this
 exact this
theorem zk(h:E.B F (.fn 189 (.pr Y X))=true)(c:Nat)(hc:c∈[10,11,12,24,25,26]):E.B F (.fn 1 (.pr Y (.int (Int.ofNat c))))=E.B F (.fn 1 (.pr X (.int (Int.ofNat c)))):=by
 rw[qH]at h
 simp only[List.mem_cons,List.not_mem_nil,or_false]at hc;rcases hc with rfl|rfl|rfl|rfl|rfl|rfl
 all_goals first | exact eq_of_beq (h 10 (by decide)) | exact eq_of_beq (h 11 (by decide)) | exact eq_of_beq (h 12 (by decide)) | exact eq_of_beq (h 24 (by decide)) | exact eq_of_beq (h 25 (by decide)) | exact eq_of_beq (h 26 (by decide))
theorem gH(h:E.B F (.fn 189 (.pr Y X))=true)(c:Nat)(hc:c<38)(h1:(c==29||c==30)=false)(h2:[0,6,7,8,9,20,21,22,23,31,32].contains c=false)(h3:[10,11,12,24,25,26].contains c=false):E.I F (.fn 1 (.pr Y (.int (Int.ofNat c))))=E.I F (.fn 1 (.pr X (.int (Int.ofNat c)))):=by
 rw[qH]at h
 have:=h c hc
 unfold gD at this
 rw[h1,h2,h3]at this
 exact eq_of_beq this
theorem a5G(h:E.B F (.fn 189 (.pr Y X))=true):E.B F (.fn 187 (.pr (.fn 1 (.pr Y (.int 29))) (.fn 1 (.pr X (.int 29)))))=true:=by
 rw[qH]at h;exact h 29 (by decide)
theorem a5H(h:E.B F (.fn 189 (.pr Y X))=true):E.B F (.fn 187 (.pr (.fn 1 (.pr Y (.int 30))) (.fn 1 (.pr X (.int 30)))))=true:=by
 rw[qH]at h;exact h 30 (by decide)
/-- a row that is put together -/
def qd(F:Env)(X:U):List E->Nat->Prop
  |[],_=>True
  |c ::cs,j=>gD j (c.den F) (cX X j)=true/\qd F X cs (j+1)
theorem aiM{X:U}:∀(cs:List E)(j0 i:Nat),qd F X cs j0->i<cs.length->gD (j0+i) ((cs.getD i (.int 0)).den F) (cX X (j0+i))=true
 |[],_,i,_,h=>absurd h (Nat.not_lt_zero _)
 |c::cs,j0,0,h,_=>h.1
 |c::cs,j0,i+1,h,hi=>by
  have:=aiM cs (j0+1) i h.2 (by simpa using hi)
  rw[show j0+(i+1)=j0+1+i by omega]
  simpa using this
theorem lO:∀(cs:List E)(i:Nat),i<cs.length->cX ((dt cs).den F) i=(cs.getD i (.int 0)).den F
 |[],i,h=>absurd h (Nat.not_lt_zero _)
 |c::cs,0,_=>rfl
 |c::cs,i+1,h=>
  lO cs i (by simpa using h)
theorem a5I{cs:List E}(hl:cs.length=38)(h:qd F (X.den F) cs 0):E.B F (.fn 189 (.pr (dt cs) X))=true:=by
 rw[qH]
 intro j hj
 have:=aiM cs 0 j h (by omega)
 rw[Nat.zero_add]at this
 rw[lO cs j (by omega)]
 exact this
/-- a list of a board, in a slice -/
theorem aoe{u:U}(h:eN u=true)(a:Option Addr)(n c:Nat):U.eq (.bx a n c u.toL) u=true:=by
  cases u with
  |bx a' n' c' l=>simp only[U.eq,U.toL];exact U.eqs_rfl l
  |lst l=>simp only[U.eq,U.toL];exact U.eqs_rfl l
  |_=>simp[eN]at h
theorem qF:(E.B F (.fn 116 X)=true)=((X.den F).toL.length=38/\(∀j∈[0,6,7,8,9,20,21,22,23,29,30,31,32],eN (cX (X.den F) j)=true)/\gV (cX (X.den F) 29).toL=true/\gV (cX (X.den F) 30).toL=true):=by
 show(xD (X.den F)=true)=_
 unfold xD
 rw[Bool.and_eq_true,Bool.and_eq_true,Bool.and_eq_true,List.all_eq_true,beq_iff_eq,and_assoc]
theorem aXl(h:E.B F (.fn 116 X)=true){j:Nat}{ks:List U}(hj:j<38)(hk:qo.getD j (.int 0)=.lst ks)(a:Option Addr)(n c:Nat):U.eq (.bx a n c (cX (X.den F) j).toL) (cX (X.den F) j)=true:=by
 rw[qF]at h
 refine aoe (h.2.1 j ?_) a n c
 have:∀j,j<38->(match qo.getD j (.int 0)with | .lst _=>true | _=>false)=true->j∈[0,6,7,8,9,20,21,22,23,29,30,31,32]:=by decide
 exact this j hj (by rw[hk])
theorem oQ(h:E.B F (.fn 12 (.pr a b))=true):E.B F (.fn 12 (.pr b a))=true:=U.eq_symm _ _ h
/-! items that are copied -/
theorem akO(l:E):E.I F (.fn 0 l)=((E.L F l).length:Int):=rfl
theorem Kh(T i:E)(w j:Nat)(h:0<=E.I F i):(bV T i w j).den F=(E.L F T).getD ((E.I F i).toNat*w+j) (.int 0):=by
 obtain⟨n,hn⟩:=Int.eq_ofNat_of_zero_le h
 show(E.L F T).getD (E.I F i*(w:Int)+(j:Int)).toNat (.int 0)=_
 rw[hn]
 congr 1
theorem D6:(E.B F (.fn 190 a)=true)=(∀i,i<(E.L F a).length->i%5=4->eN ((E.L F a).getD i (.int 0))=true):=by
 show(gV (E.L F a)=true)=_
 unfold gV;simp only[List.all_eq_true,List.mem_range,Bool.or_eq_true,Bool.not_eq_true',beq_eq_false_iff_ne];exact propext ⟨fun h i hi h5=>(h i hi).resolve_left (fun h=>h h5),fun h i hi=>Classical.byCases (fun h5:i%5=4=>.inr (h i hi h5)) .inl⟩
theorem apW(h:E.B F (.fn 116 X)=true)(c:Nat)(hc:c=29\/c=30):E.B F (.fn 190 (.fn 1 (.pr X (.int (Int.ofNat c)))))=true:=by
 rw[qF]at h
 rcases hc with rfl|rfl
 ·exact h.2.2.1
 ·exact h.2.2.2
theorem aYh(hb:E.B F (.fn 190 b)=true)(h0:0<=E.I F i)(h3:E.I F i<E.I F (.fn 9 (.pr b (.int 5))))(a:Option Addr)(n c:Nat):U.eq (.bx a n c ((bV b i 5 4).den F).toL) ((bV b i 5 4).den F)=true:=by
 have e9:E.I F (.fn 9 (.pr b (.int 5)))=(((E.L F b).length/5:Nat):Int):=rfl
 rw[Kh _ _ _ _ h0]
 rw[D6]at hb
 exact aoe (hb _ (by omega) (by omega)) a n c
/-- one item more is copied -/
theorem apH{x:List U}{k:Nat}(h:U.eqs x ((E.L F b).take (5*k))=true)(hb:E.B F (.fn 190 b)=true)(h0:E.I F i=k)(h3:E.I F i<E.I F (.fn 9 (.pr b (.int 5))))(v q:E):
    U.eqs (x++[(bV b i 5 0).den F,(bV b i 5 1).den F,(bV b i 5 2).den F,(bV b i 5 3).den F,(E.fn 28 (.pr (.pr v q) (bV b i 5 4))).den F]) ((E.L F b).take (5*k+5))=true:=by
  have e9:E.I F (.fn 9 (.pr b (.int 5)))=(((E.L F b).length/5:Nat):Int):=rfl;have hn:0<=E.I F i:=by omega
  rw[a6b _ _ (by omega)]
  refine ajn h ?_;have g (j:Nat):(bV b i 5 j).den F=(E.L F b).getD (5*k+j) (.int 0):=by rw[Kh _ _ _ _ hn];congr 1;omega
  have g4:U.eq ((E.fn 28 (.pr (.pr v q) (bV b i 5 4))).den F) ((E.L F b).getD (5*k+4) (.int 0))=true:=by rw[<- g 4];exact aYh hb hn h3 _ _ _
  simp only[U.eqs,g 0,g 1,g 2,g 3,g4,Nat.add_zero,U.eq_rfl,Bool.and_self]
theorem a5u{n0:E}(h:E.B F (.fn 181 (.pr x (.pr b n0)))=true)(hb:E.B F (.fn 190 b)=true)(h0:0<=E.I F i)(h1:E.I F n0=E.I F i*5)(h2:E.I F (.fn 0 x)=E.I F i*5)(h3:E.I F i<E.I F (.fn 9 (.pr b (.int 5))))(h4:E.I F n=(E.I F i+1)*5)(v q:E):
  E.B F (.fn 181 (.pr (.fn 3 (.pr x (.fn 23 (.pr (bV b i 5 0) (.fn 23 (.pr (bV b i 5 1) (.fn 23 (.pr (bV b i 5 2) (.fn 23 (.pr (bV b i 5 3) (.fn 23 (.pr (.fn 28 (.pr (.pr v q) (bV b i 5 4))) (.fn 10 (.int 0)))))))))))))) (.pr b n)))=true:=by
 obtain⟨k,hk⟩:=Int.eq_ofNat_of_zero_le h0
 rw[akO]at h2
 rw[UB]at h ⊢
 have e1:(E.I F n0).toNat=5*k:=by omega
 have e2:(E.I F n).toNat=5*k+5:=by omega
 rw[e1,List.take_of_length_le (l:=E.L F x) (by omega)]at h
 rw[e2]
 have:=apH h hb hk h3 v q
 rw[List.take_of_length_le]
 ·exact this
 ·show(E.L F x++[_,_,_,_,_]).length<=_
  simp;omega
theorem a5t(hb:E.B F (.fn 190 b)=true)(h0:E.I F i=0)(h3:E.I F i<E.I F (.fn 9 (.pr b (.int 5))))(h4:E.I F n=(E.I F i+1)*5)(v q:E):
  E.B F (.fn 181 (.pr (.fn 23 (.pr (bV b i 5 0) (.fn 23 (.pr (bV b i 5 1) (.fn 23 (.pr (bV b i 5 2) (.fn 23 (.pr (bV b i 5 3) (.fn 23 (.pr (.fn 28 (.pr (.pr v q) (bV b i 5 4))) (.fn 10 (.int 0)))))))))))) (.pr b n)))=true:=by
 rw[UB]
 have e2:(E.I F n).toNat=5*0+5:=by omega
 rw[e2]
 have:=apH (x:=[]) (k:=0) (F:=F) (b:=b) (i:=i) rfl hb (by omega) h3 v q
 rw[List.take_of_length_le]
 ·exact this
 ·show([_,_,_,_,_]:List U).length<=_
  simp
theorem apQ{a0:E}(h:E.B F (.fn 181 (.pr x (.pr b n)))=true)(h1:E.I F n=E.I F (.fn 9 (.pr b (.int 5)))*5)(h2:E.I F (.fn 0 x)=E.I F n):E.B F (.fn 187 (.pr (.fn 28 (.pr a0 x)) b))=true:=by
 have e9:E.I F (.fn 9 (.pr b (.int 5)))=(((E.L F b).length/5:Nat):Int):=rfl
 rw[akO]at h2
 rw[UB]at h
 rw[qG,kZ]
 have el:E.L F (.fn 28 (.pr a0 x))=E.L F x:=rfl
 rw[el]
 refine⟨by omega,?_⟩
 rw[show(E.L F x).length/5*5=(E.I F n).toNat by omega,show(E.L F b).length/5*5=(E.I F n).toNat by omega]
 exact h
theorem a5F(h:E.L F a=[])(h0:E.I F (.fn 9 (.pr b (.int 5)))<=0):E.B F (.fn 187 (.pr a b))=true:=by
 have e9:E.I F (.fn 9 (.pr b (.int 5)))=(((E.L F b).length/5:Nat):Int):=rfl
 rw[qG,kZ,h]
 refine⟨by simp;omega,?_⟩
 rw[show(E.L F b).length/5*5=0 by omega]
 rfl
theorem TO(h:E.B F (.fn 158 (.pr l n))=true)(h0:0<=E.I F i)(h1:E.I F i<E.I F n):E.I F (.fn 9 (.pr (bV l i 5 4) (.int 2)))<=6:=by
 rw[Lt]at h
 unfold eO at h
 rw[aid]at h
 have:=h (E.I F i).toNat (by omega)
 rw[decide_eq_true_eq]at this
 have e:E.I F (.fn 9 (.pr (bV l i 5 4) (.int 2)))=(((bV l i 5 4).den F).toL.length/2:Nat):=rfl
 rw[e,Kh _ _ _ _ h0]
 omega
theorem eD(j:Nat)(hj:(j==29||j==30)=false){cs:List E}(h:qd F (X.den F) cs (j+1)):qd F (X.den F) (.fn 1 (.pr X (.int (Int.ofNat j)))::cs) j:=
 ⟨a1d j hj _,h⟩
theorem mP(ht:E.B F (.fn 116 X)=true)(j:Nat)(hj:(j==29||j==30)=false)(h38:j<38){ks:List U}(hk:qo.getD j (.int 0)=.lst ks){a0:E}{cs:List E}(h:qd F (X.den F) cs (j+1)):
  qd F (X.den F) (.fn 28 (.pr a0 (.fn 1 (.pr X (.int (Int.ofNat j)))))::cs) j:=by
 refine⟨?_,h⟩
 have:∀j,j<38->(j==29||j==30)=false->(match qo.getD j (.int 0)with | .lst _=>true | _=>false)=true->[0,6,7,8,9,20,21,22,23,31,32].contains j=true:=by decide
 rw[y5 (this j h38 hj (by rw[hk]))]
 exact aXl ht h38 hk _ _ _
theorem ai0(j:Nat)(hj:(j==29||j==30)=true){c0:E}(hc:E.B F (.fn 187 (.pr c0 (.fn 1 (.pr X (.int (Int.ofNat j))))))=true){cs:List E}(h:qd F (X.den F) cs (j+1)):qd F (X.den F) (c0::cs) j:=by
 refine⟨?_,h⟩
 unfold gD
 rw[hj]
 exact hc
end
end Go.SX

set_option linter.unusedVariables false
set_option linter.unusedSimpArgs false
namespace Go.SX
/-! ### the first source of a colour -/
theorem Rb{k:Int}:∀(l:List Int)(a c:Int)(i:Nat),l.length%2=0->bS k (l++[a,c]) i=if bS k l i<0 then(if ka k c then((i+l.length/2:Nat):Int)else -1)else bS k l i
 |[],a,c,i,h=>by
  rfl
 |[x],a,c,i,h=>by simp at h
 |x::y::l,a,c,i,h=>by
  have hl:l.length%2=0:=by grind
  show bS k (x::y::(l++[a,c])) i=_;have e:∀m,bS k (x::y::m) i=if ka k y then(i:Int)else bS k m _:=fun m=>rfl
  rw[e,e]
  by_cases hy:ka k y=true
  ·grind
  ·rw[if_neg hy,if_neg hy,Rb l a c _ hl]
   grind
theorem ajO{k:Int}:∀(l r:List Int)(i:Nat),0<=bS k l i->l.length%2=0->bS k (l++r) i=bS k l i
 |[],r,i,h,_=>by simp[bS]at h
 |[x],r,i,h,hl=>by simp at hl
 |x::y::l,r,i,h,hl=>by
  have e:∀m,bS k (x::y::m) i=if ka k y then(i:Int)else bS k m _:=fun m=>rfl
  show bS k (x::y::(l++r)) i=_
  rw[e]at h ⊢
  rw[e]
  by_cases hy:ka k y=true
  ·simp_all
  ·rw[if_neg hy]at h ⊢
   rw[if_neg hy]
   exact ajO l r _ h (by grind)
theorem ajP{k:Int}:∀(l:List Int)(i:Nat),-1<=bS k l i
 |[],i=>by simp[bS]
 |[x],i=>by simp[bS]
 |x::y::l,i=>by
  have e:bS k (x::y::l) i=if ka k y then(i:Int)else bS k l _:=rfl
  rw[e];split
  ·omega
  ·exact ajP l _
theorem aqc(l:List Int)(j:Nat)(h:2*j+2<=l.length):l.take (2*(j+1))=l.take (2*j)++[l.getD (2*j) 0,l.getD (2*j+1) 0]:=by
 grind[np]
section
variable {F:Env} {p0 p1 p2 p3 q0 q1 q2 q3 R T R1 T1 R2 T2 k n m g i j a b c d x y l v id:E}
theorem anZ(h:0<=E.I F i){w:Nat}:E.I F (.fn 1 (.pr R (.fn 6 (.pr (.fn 8 (.pr i (.int 2))) (.int (Int.ofNat w))))))=(aq F R).getD (2*(E.I F i).toNat+w) 0:=by
 rw[show(E.fn 1 (.pr R (.fn 6 (.pr (.fn 8 (.pr i (.int 2))) _))))=E.fn 1 (.pr R (.fn 6 (.pr (.fn 8 (.pr i (.int (Int.ofNat 2)))) _))) from rfl,nw i 2 w h]
 show((E.L F R).getD _ _).toI=_
 rw[II,Nat.mul_comm];rfl
theorem anY(h:0<=E.I F i):E.I F (.fn 1 (.pr R (.fn 6 (.pr (.fn 8 (.pr i (.int 2))) (.int 1)))))=(aq F R).getD (2*(E.I F i).toNat+1) 0:=anZ (w:=1) h
theorem a0Z(h:0<=E.I F i):E.I F (.fn 1 (.pr R (.fn 6 (.pr (.fn 8 (.pr i (.int 2))) (.int 0)))))=(aq F R).getD (2*(E.I F i).toNat) 0:=anZ (w:=0) h
theorem apn:-1<=E.I F (.fn 175 (.pr k (.pr R n))):=by simp_all[vV,ajP]
theorem a5h(h:E.I F (.fn 175 (.pr k (.pr R j)))=-1)(h0:0<=E.I F j)(h1:E.I F j<E.I F n)(hl:E.I F (.fn 0 R)=E.I F n*2)(hm:E.I F m=E.I F j+1)(k0:0<=E.I F k)
  (hc:¬E.I F (.fn 1 (.pr R (.fn 6 (.pr (.fn 8 (.pr j (.int 2))) (.int 1)))))=E.I F k):E.I F (.fn 175 (.pr k (.pr R m)))=-1:=by
 rw[anY h0]at hc
 rw[<- br]at hl
 rw[vV]at h ⊢
 rw[show(E.I F m).toNat=(E.I F j).toNat+1 by omega,aqc _ _ (by omega),Rb _ _ _ _ (by grind),if_pos (by omega),if_neg]
 simp_all[ka]
theorem apm(h:E.I F (.fn 175 (.pr k (.pr R j)))=-1)(h0:0<=E.I F j)(h1:E.I F j<E.I F n)(hl:E.I F (.fn 0 R)=E.I F n*2)
  (hc:E.I F k<0\/E.I F (.fn 1 (.pr R (.fn 6 (.pr (.fn 8 (.pr j (.int 2))) (.int 1)))))=E.I F k):E.I F (.fn 175 (.pr k (.pr R n)))=E.I F j:=by
 rw[anY h0]at hc
 rw[<- br]at hl
 rw[vV]at h ⊢
 have e1:bS (E.I F k) ((aq F R).take (2*((E.I F j).toNat+1))) 0=E.I F j:=by
  rw[aqc _ _ (by omega),Rb _ _ _ _ (by grind),if_pos (by omega),if_pos]
  ·grind
  simp_all[ka]
 have e2:(aq F R).take (2*(E.I F n).toNat)=(aq F R).take (2*((E.I F j).toNat+1))++((aq F R).take (2*(E.I F n).toNat)).drop (2*((E.I F j).toNat+1)):=by
  have:=List.take_append_drop (2*((E.I F j).toNat+1)) ((aq F R).take (2*(E.I F n).toNat))
  rw[List.take_take,Nat.min_eq_left (by omega)]at this
  simp_all
 grind[ajO]
theorem apl(h:E.I F (.fn 175 (.pr k (.pr R j)))=-1)(e:E.I F n=E.I F j):E.I F (.fn 175 (.pr k (.pr R n)))=-1:=by
 simp_all[vV]
/-! a source less -/
theorem RB:aq F (.fn 18 (.pr l n))=(aq F l).take (E.I F n).toNat:=by
 show((E.L F l).take _).map _=_
 rw[List.map_take];rfl
theorem a5E(h0:0<=E.I F i)(h1:E.I F a=E.I F i*2)(h2:E.I F b=E.I F i*2+2)(h3:E.I F c=E.I F (.fn 0 R)):E.B F (.fn 186 (.pr (.fn 3 (.pr (.fn 18 (.pr R a)) (.fn 4 (.pr R (.pr b c))))) (.pr R i)))=true:=by
 rw[<- br]at h3
 grind[UC,lK,RB,CX,List.take_of_length_le]
theorem a5D(h0:0<=E.I F i)(h1:E.I F a=E.I F i*2)(h2:E.I F b<=0)(h3:E.I F (.fn 0 R)<=E.I F i*2+2):E.B F (.fn 186 (.pr (.fn 3 (.pr (.fn 18 (.pr R a)) (.fn 18 (.pr R b)))) (.pr R i)))=true:=by
 grind[br,UC,lK,RB,List.drop_eq_nil_of_le]
theorem apM(hk:E.I F k=0)(h:E.I F q0=0):E.B F (.fn 185 (.pr q0 (.pr q1 (.pr q2 (.pr q3 (.pr k (.int 0)))))))=true:=by simp_all[sL]
theorem apN(hk:E.I F k=1)(h:E.I F q1=0):E.B F (.fn 185 (.pr q0 (.pr q1 (.pr q2 (.pr q3 (.pr k (.int 0)))))))=true:=by simp_all[sL]
theorem apO(hk:E.I F k=2)(h:E.I F q2=0):E.B F (.fn 185 (.pr q0 (.pr q1 (.pr q2 (.pr q3 (.pr k (.int 0)))))))=true:=by simp_all[sL]
theorem apP(hk:E.I F k=3)(h:E.I F q3=0):E.B F (.fn 185 (.pr q0 (.pr q1 (.pr q2 (.pr q3 (.pr k (.int 0)))))))=true:=by simp_all[sL]
theorem RT(h:0<=E.I F n)(h':E.I F n<=E.I F (.fn 0 l)):E.I F (.fn 0 (.fn 18 (.pr l n)))=E.I F n:=by
 rw[<- br]at h' ⊢
 grind[RB]
/-- tapped: what is left, and one id more -/
theorem apj(h:E.B F (.fn 186 (.pr R1 (.pr R i)))=true)(hi:E.I F i=E.I F (.fn 175 (.pr k (.pr R n))))(h0:0<=E.I F i)(hl:E.I F (.fn 0 R)=E.I F n*2)(hT:aq F T1=aq F T++[E.I F (.fn 1 (.pr R (.fn 6 (.pr (.fn 8 (.pr i (.int 2))) (.int 0)))))]):E.B F (.fn 174 (.pr R1 (.pr T1 (.pr k (.pr R (.pr T (.int 0)))))))=true:=by
  rw[a0Z h0]at hT
  rw[<- br]at hl
  rw[UC]at h
  rw[vV]at hi
  have et:(aq F R).take (2*(E.I F n).toNat)=aq F R:=List.take_of_length_le (by omega)
  rw[et]at hi
  rw[UA,vM]
  rw[<- hi]
  refine⟨h0, ?_⟩
  simp only[jx,Prod.mk.injEq,true_and]
  exact⟨h,hT⟩
theorem apk(h:E.B F (.fn 186 (.pr R1 (.pr R i)))=true)(hi:E.I F i=E.I F (.fn 175 (.pr k (.pr R n))))(h0:0<=E.I F i)(hl:E.I F (.fn 0 R)=E.I F n*2):
  E.B F (.fn 174 (.pr R1 (.pr (.fn 3 (.pr T (.fn 23 (.pr (.fn 1 (.pr R (.fn 6 (.pr (.fn 8 (.pr i (.int 2))) (.int 0))))) (.fn 10 (.int 0)))))) (.pr k (.pr R (.pr T (.int 0)))))))=true:=apj h hi h0 hl (by rw[lK];rfl)
theorem api(h:E.B F (.fn 186 (.pr R1 (.pr R i)))=true)(hi:E.I F i=E.I F (.fn 175 (.pr k (.pr R n))))(h0:0<=E.I F i)(hl:E.I F (.fn 0 R)=E.I F n*2):
  E.B F (.fn 174 (.pr R1 (.pr (.fn 23 (.pr (.fn 1 (.pr R (.fn 6 (.pr (.fn 8 (.pr i (.int 2))) (.int 0))))) (.fn 10 (.int 0)))) (.pr k (.pr R (.pr (.fn 10 (.int 0)) (.int 0)))))))=true:=apj h hi h0 hl rfl
end
end Go.SX

set_option linter.unusedVariables false
set_option linter.unusedSimpArgs false
namespace Go.SX
noncomputable def dD(F:Env)(c0 c1 c2 c3:E):List Int:=[E.I F c0,E.I F c1,E.I F c2,E.I F c3]
noncomputable def eK(F:Env)(C X p:E):Pu:=sf (E.L F C) (X.den F) (E.I F p)
section
variable {F:Env} {p0 p1 p2 p3 q0 q1 q2 q3 R T R1 T1 R2 T2 k n m g i j a b c d x y l v id c0 c1 c2 c3 C X p:E}
theorem kh:(E.B F (.fn 176 (.pr q0 (.pr q1 (.pr q2 (.pr q3 (.pr R1 (.pr T1 (.pr k (.pr n (.pr c0 (.pr c1 (.pr c2 (.pr c3 (.pr C (.pr X (.pr p (.int 0)))))))))))))))))=true)=(bN (dD F c0 c1 c2 c3) (E.I F k).toNat (E.I F n).toNat (eK F C X p)=some (ch F q0 q1 q2 q3 R1 T1)):=by
 show(((bN (dD F c0 c1 c2 c3) (E.I F k).toNat (E.I F n).toNat (eK F C X p)).any fun s=>s==(ch F q0 q1 q2 q3 R1 T1))=true)=_
 rw[PU]
theorem o8:(E.B F (.fn 177 (.pr k (.pr n (.pr c0 (.pr c1 (.pr c2 (.pr c3 (.pr C (.pr X (.pr p (.int 0)))))))))))=true)=(bN (dD F c0 c1 c2 c3) (E.I F k).toNat (E.I F n).toNat (eK F C X p)=none):=by
 show((bN (dD F c0 c1 c2 c3) (E.I F k).toNat (E.I F n).toNat (eK F C X p)).isNone=true)=_
 simp_all
theorem a5i(h:E.B F (.fn 143 (.pr R (.pr C (.pr X (.pr p (E.fn 9 (.pr (.fn 1 (.pr X (.int 0))) (.int 12))))))))=true)(hp:E.I F p=0):E.B F (.fn 176 (.pr (.fn 1 (.pr X (.int 2))) (.pr (.fn 1 (.pr X (.int 3))) (.pr (.fn 1 (.pr X (.int 4))) (.pr (.fn 1 (.pr X (.int 5))) (.pr R (.pr (.fn 10 (.int 0)) (.pr (.int 0) (.pr (.int 0) (.pr c0 (.pr c1 (.pr c2 (.pr c3 (.pr C (.pr X (.pr p (.int 0)))))))))))))))))=true:=by
 rw[Lr]at h
 have en:(E.I F (E.fn 9 (.pr (.fn 1 (.pr X (.int 0))) (.int 12)))).toNat=aJ (X.den F):=rfl
 rw[en]at h
 rw[kh]
 unfold eK sf
 rw[<- h,hp]
 rfl
theorem apT(h:E.B F (.fn 145 (.pr X p))=true):E.B F (.fn 188 (.pr (.fn 1 (.pr X (.int 2))) (.pr (.fn 1 (.pr X (.int 3))) (.pr (.fn 1 (.pr X (.int 4))) (.pr (.fn 1 (.pr X (.int 5))) (.int 0))))))=true:=by
 rw[sJ]at h
 unfold jU qE at h;simp only[Bool.and_eq_true]at h;have hs:=h.2.1.1.1.1.2;unfold sg at hs;simp only[Bool.and_eq_true,List.all_cons,List.all_nil,Bool.and_true,iz]at hs
 obtain⟨⟨⟨_,hs⟩,_⟩,_⟩:=hs
 rw[ak]
 obtain⟨a0,a1,a2,a3⟩:=hs
 exact⟨a0.1,a0.2,a1.1,a1.2,a2.1,a2.2,a3.1,a3.2⟩
theorem a5j(h:E.B F (.fn 143 (.pr R (.pr C (.pr X (.pr p (E.fn 9 (.pr (.fn 1 (.pr X (.int 0))) (.int 12))))))))=true)(hp:E.I F p=1):E.B F (.fn 176 (.pr (.fn 1 (.pr X (.int 16))) (.pr (.fn 1 (.pr X (.int 17))) (.pr (.fn 1 (.pr X (.int 18))) (.pr (.fn 1 (.pr X (.int 19))) (.pr R (.pr (.fn 10 (.int 0)) (.pr (.int 0) (.pr (.int 0) (.pr c0 (.pr c1 (.pr c2 (.pr c3 (.pr C (.pr X (.pr p (.int 0)))))))))))))))))=true:=by
 rw[Lr]at h
 have en:(E.I F (E.fn 9 (.pr (.fn 1 (.pr X (.int 0))) (.int 12)))).toNat=aJ (X.den F):=rfl
 rw[en]at h
 rw[kh]
 unfold eK sf
 rw[<- h,hp]
 rfl
theorem apU(h:E.B F (.fn 145 (.pr X p))=true):E.B F (.fn 188 (.pr (.fn 1 (.pr X (.int 16))) (.pr (.fn 1 (.pr X (.int 17))) (.pr (.fn 1 (.pr X (.int 18))) (.pr (.fn 1 (.pr X (.int 19))) (.int 0))))))=true:=by
 rw[sJ]at h
 unfold jU qE at h;simp only[Bool.and_eq_true]at h;have hs:=h.2.1.1.1.2;unfold sg at hs;simp only[Bool.and_eq_true,List.all_cons,List.all_nil,Bool.and_true,iz]at hs
 obtain⟨⟨⟨_,hs⟩,_⟩,_⟩:=hs
 rw[ak]
 obtain⟨a0,a1,a2,a3⟩:=hs
 exact⟨a0.1,a0.2,a1.1,a1.2,a2.1,a2.2,a3.1,a3.2⟩
theorem apo(h:E.B F (.fn 176 (.pr q0 (.pr q1 (.pr q2 (.pr q3 (.pr R1 (.pr T1 (.pr k (.pr n (.pr c0 (.pr c1 (.pr c2 (.pr c3 (.pr C (.pr X (.pr p (.int 0)))))))))))))))))=true)(e:E.I F m=E.I F k)(e2:E.I F j=E.I F n):E.B F (.fn 176 (.pr q0 (.pr q1 (.pr q2 (.pr q3 (.pr R1 (.pr T1 (.pr m (.pr j (.pr c0 (.pr c1 (.pr c2 (.pr c3 (.pr C (.pr X (.pr p (.int 0)))))))))))))))))=true:=by simp_all[kh]
theorem TS(h:E.B F (.fn 176 (.pr p0 (.pr p1 (.pr p2 (.pr p3 (.pr R (.pr T (.pr k (.pr (.int 0) (.pr c0 (.pr c1 (.pr c2 (.pr c3 (.pr C (.pr X (.pr p (.int 0)))))))))))))))))=true)(h2:E.B F (.fn 170 (.pr q0 (.pr q1 (.pr q2 (.pr q3 (.pr R1 (.pr T1 (.pr k (.pr c0 (.pr p0 (.pr p1 (.pr p2 (.pr p3 (.pr R (.pr T (.int 0))))))))))))))))=true)(hk:E.I F k=0)(hm:E.I F m=E.I F k+1):E.B F (.fn 176 (.pr q0 (.pr q1 (.pr q2 (.pr q3 (.pr R1 (.pr T1 (.pr m (.pr (.int 0) (.pr c0 (.pr c1 (.pr c2 (.pr c3 (.pr C (.pr X (.pr p (.int 0)))))))))))))))))=true:=by
 simp_all[kh,iI,vF,JT,dD]
theorem aps(h:E.B F (.fn 176 (.pr p0 (.pr p1 (.pr p2 (.pr p3 (.pr R (.pr T (.pr k (.pr (.int 0) (.pr c0 (.pr c1 (.pr c2 (.pr c3 (.pr C (.pr X (.pr p (.int 0)))))))))))))))))=true)(h2:E.B F (.fn 171 (.pr k (.pr c0 (.pr p0 (.pr p1 (.pr p2 (.pr p3 (.pr R (.pr T (.int 0))))))))))=true)(hk:E.I F k=0):E.B F (.fn 177 (.pr (.int 4) (.pr a (.pr c0 (.pr c1 (.pr c2 (.pr c3 (.pr C (.pr X (.pr p (.int 0)))))))))))=true:=by
 rw[kh]at h
 rw[o8]
 rw[vU]at h2
 rw[hk]at h h2
 exact Dv (c:=dD F c0 c1 c2 c3) (k:=0) (by decide) (Nat.le_refl _) (JU h h2) _
theorem TT(h:E.B F (.fn 176 (.pr p0 (.pr p1 (.pr p2 (.pr p3 (.pr R (.pr T (.pr k (.pr (.int 0) (.pr c0 (.pr c1 (.pr c2 (.pr c3 (.pr C (.pr X (.pr p (.int 0)))))))))))))))))=true)(h2:E.B F (.fn 170 (.pr q0 (.pr q1 (.pr q2 (.pr q3 (.pr R1 (.pr T1 (.pr k (.pr c1 (.pr p0 (.pr p1 (.pr p2 (.pr p3 (.pr R (.pr T (.int 0))))))))))))))))=true)(hk:E.I F k=1)(hm:E.I F m=E.I F k+1):E.B F (.fn 176 (.pr q0 (.pr q1 (.pr q2 (.pr q3 (.pr R1 (.pr T1 (.pr m (.pr (.int 0) (.pr c0 (.pr c1 (.pr c2 (.pr c3 (.pr C (.pr X (.pr p (.int 0)))))))))))))))))=true:=by
 simp_all[kh,iI,vF,JT,dD]
theorem apt(h:E.B F (.fn 176 (.pr p0 (.pr p1 (.pr p2 (.pr p3 (.pr R (.pr T (.pr k (.pr (.int 0) (.pr c0 (.pr c1 (.pr c2 (.pr c3 (.pr C (.pr X (.pr p (.int 0)))))))))))))))))=true)(h2:E.B F (.fn 171 (.pr k (.pr c1 (.pr p0 (.pr p1 (.pr p2 (.pr p3 (.pr R (.pr T (.int 0))))))))))=true)(hk:E.I F k=1):E.B F (.fn 177 (.pr (.int 4) (.pr a (.pr c0 (.pr c1 (.pr c2 (.pr c3 (.pr C (.pr X (.pr p (.int 0)))))))))))=true:=by
 rw[kh]at h
 rw[o8]
 rw[vU]at h2
 rw[hk]at h h2
 exact Dv (c:=dD F c0 c1 c2 c3) (k:=1) (by decide) (Nat.le_refl _) (JU h h2) _
theorem TU(h:E.B F (.fn 176 (.pr p0 (.pr p1 (.pr p2 (.pr p3 (.pr R (.pr T (.pr k (.pr (.int 0) (.pr c0 (.pr c1 (.pr c2 (.pr c3 (.pr C (.pr X (.pr p (.int 0)))))))))))))))))=true)(h2:E.B F (.fn 170 (.pr q0 (.pr q1 (.pr q2 (.pr q3 (.pr R1 (.pr T1 (.pr k (.pr c2 (.pr p0 (.pr p1 (.pr p2 (.pr p3 (.pr R (.pr T (.int 0))))))))))))))))=true)(hk:E.I F k=2)(hm:E.I F m=E.I F k+1):E.B F (.fn 176 (.pr q0 (.pr q1 (.pr q2 (.pr q3 (.pr R1 (.pr T1 (.pr m (.pr (.int 0) (.pr c0 (.pr c1 (.pr c2 (.pr c3 (.pr C (.pr X (.pr p (.int 0)))))))))))))))))=true:=by
 simp_all[kh,iI,vF,JT,dD]
theorem apu(h:E.B F (.fn 176 (.pr p0 (.pr p1 (.pr p2 (.pr p3 (.pr R (.pr T (.pr k (.pr (.int 0) (.pr c0 (.pr c1 (.pr c2 (.pr c3 (.pr C (.pr X (.pr p (.int 0)))))))))))))))))=true)(h2:E.B F (.fn 171 (.pr k (.pr c2 (.pr p0 (.pr p1 (.pr p2 (.pr p3 (.pr R (.pr T (.int 0))))))))))=true)(hk:E.I F k=2):E.B F (.fn 177 (.pr (.int 4) (.pr a (.pr c0 (.pr c1 (.pr c2 (.pr c3 (.pr C (.pr X (.pr p (.int 0)))))))))))=true:=by
 rw[kh]at h
 rw[o8]
 rw[vU]at h2
 rw[hk]at h h2
 exact Dv (c:=dD F c0 c1 c2 c3) (k:=2) (by decide) (Nat.le_refl _) (JU h h2) _
theorem TV(h:E.B F (.fn 176 (.pr p0 (.pr p1 (.pr p2 (.pr p3 (.pr R (.pr T (.pr k (.pr (.int 0) (.pr c0 (.pr c1 (.pr c2 (.pr c3 (.pr C (.pr X (.pr p (.int 0)))))))))))))))))=true)(h2:E.B F (.fn 170 (.pr q0 (.pr q1 (.pr q2 (.pr q3 (.pr R1 (.pr T1 (.pr k (.pr c3 (.pr p0 (.pr p1 (.pr p2 (.pr p3 (.pr R (.pr T (.int 0))))))))))))))))=true)(hk:E.I F k=3)(hm:E.I F m=E.I F k+1):E.B F (.fn 176 (.pr q0 (.pr q1 (.pr q2 (.pr q3 (.pr R1 (.pr T1 (.pr m (.pr (.int 0) (.pr c0 (.pr c1 (.pr c2 (.pr c3 (.pr C (.pr X (.pr p (.int 0)))))))))))))))))=true:=by
 simp_all[kh,iI,vF,JT,dD]
theorem apv(h:E.B F (.fn 176 (.pr p0 (.pr p1 (.pr p2 (.pr p3 (.pr R (.pr T (.pr k (.pr (.int 0) (.pr c0 (.pr c1 (.pr c2 (.pr c3 (.pr C (.pr X (.pr p (.int 0)))))))))))))))))=true)(h2:E.B F (.fn 171 (.pr k (.pr c3 (.pr p0 (.pr p1 (.pr p2 (.pr p3 (.pr R (.pr T (.int 0))))))))))=true)(hk:E.I F k=3):E.B F (.fn 177 (.pr (.int 4) (.pr a (.pr c0 (.pr c1 (.pr c2 (.pr c3 (.pr C (.pr X (.pr p (.int 0)))))))))))=true:=by
 rw[kh]at h
 rw[o8]
 rw[vU]at h2
 rw[hk]at h h2
 exact Dv (c:=dD F c0 c1 c2 c3) (k:=3) (by decide) (Nat.le_refl _) (JU h h2) _
theorem TR(h:E.B F (.fn 176 (.pr p0 (.pr p1 (.pr p2 (.pr p3 (.pr R (.pr T (.pr (.int 4) (.pr n (.pr c0 (.pr c1 (.pr c2 (.pr c3 (.pr C (.pr X (.pr p (.int 0)))))))))))))))))=true)(h2:E.B F (.fn 170 (.pr q0 (.pr q1 (.pr q2 (.pr q3 (.pr R1 (.pr T1 (.pr (.int 4) (.pr (.int 1) (.pr p0 (.pr p1 (.pr p2 (.pr p3 (.pr R (.pr T (.int 0))))))))))))))))=true)(h0:0<=E.I F n)(hm:E.I F m=E.I F n+1):E.B F (.fn 176 (.pr q0 (.pr q1 (.pr q2 (.pr q3 (.pr R1 (.pr T1 (.pr (.int 4) (.pr m (.pr c0 (.pr c1 (.pr c2 (.pr c3 (.pr C (.pr X (.pr p (.int 0)))))))))))))))))=true:=by
 rw[kh]at h ⊢
 rw[iI]at h2
 rw[show(E.I F m).toNat=(E.I F n).toNat+1 by omega]
 exact(jr h).trans h2
theorem apr(h:E.B F (.fn 176 (.pr p0 (.pr p1 (.pr p2 (.pr p3 (.pr R (.pr T (.pr (.int 4) (.pr n (.pr c0 (.pr c1 (.pr c2 (.pr c3 (.pr C (.pr X (.pr p (.int 0)))))))))))))))))=true)(h2:E.B F (.fn 171 (.pr (.int 4) (.pr (.int 1) (.pr p0 (.pr p1 (.pr p2 (.pr p3 (.pr R (.pr T (.int 0))))))))))=true)(h0:0<=E.I F n)(hm:E.I F n<E.I F a):E.B F (.fn 177 (.pr (.int 4) (.pr a (.pr c0 (.pr c1 (.pr c2 (.pr c3 (.pr C (.pr X (.pr p (.int 0)))))))))))=true:=by
 rw[kh]at h
 rw[o8]
 rw[vU]at h2
 exact Dw (n:=(E.I F n).toNat+1) (by omega) ((jr h).trans h2)
theorem Lu:(E.B F (.fn 183 (.pr q0 (.pr q1 (.pr q2 (.pr q3 (.pr T1 (.pr c0 (.pr c1 (.pr c2 (.pr c3 (.pr a (.pr C (.pr X (.pr p (.int 0)))))))))))))))=true)=((bN (dD F c0 c1 c2 c3) 4 (E.I F a).toNat (eK F C X p)).any (fun s=>s.1==dD F q0 q1 q2 q3&&dk s.2.2==aq F T1)=true):=rfl
theorem apJ(h:E.B F (.fn 176 (.pr q0 (.pr q1 (.pr q2 (.pr q3 (.pr R (.pr T (.pr (.int 4) (.pr n (.pr c0 (.pr c1 (.pr c2 (.pr c3 (.pr C (.pr X (.pr p (.int 0)))))))))))))))))=true)(e:E.I F n=E.I F a)(hT:aq F T1=dk (aq F T)):E.B F (.fn 183 (.pr q0 (.pr q1 (.pr q2 (.pr q3 (.pr T1 (.pr c0 (.pr c1 (.pr c2 (.pr c3 (.pr a (.pr C (.pr X (.pr p (.int 0)))))))))))))))=true:=by
 rw[kh]at h
 rw[Lu,<- e]
 simp_all[ch,dD]
theorem akB:aq F (.fn 40 T)=dk (aq F T):=by
 show((dk _).map _).map _=_
 rw[List.map_map]
 exact List.map_id _
theorem a5x(h:E.B F (.fn 176 (.pr q0 (.pr q1 (.pr q2 (.pr q3 (.pr R (.pr T (.pr (.int 4) (.pr n (.pr c0 (.pr c1 (.pr c2 (.pr c3 (.pr C (.pr X (.pr p (.int 0)))))))))))))))))=true)(e:E.I F n=E.I F a):E.B F (.fn 183 (.pr q0 (.pr q1 (.pr q2 (.pr q3 (.pr (.fn 40 T) (.pr c0 (.pr c1 (.pr c2 (.pr c3 (.pr a (.pr C (.pr X (.pr p (.int 0)))))))))))))))=true:=apJ h e akB
theorem a5y(h:E.B F (.fn 176 (.pr q0 (.pr q1 (.pr q2 (.pr q3 (.pr R (.pr (.fn 10 (.int 0)) (.pr (.int 4) (.pr n (.pr c0 (.pr c1 (.pr c2 (.pr c3 (.pr C (.pr X (.pr p (.int 0)))))))))))))))))=true)(e:E.I F n=E.I F a):E.B F (.fn 183 (.pr q0 (.pr q1 (.pr q2 (.pr q3 (.pr (.fn 10 (.int 0)) (.pr c0 (.pr c1 (.pr c2 (.pr c3 (.pr a (.pr C (.pr X (.pr p (.int 0)))))))))))))))=true:=apJ h e rfl
theorem aZc:E.I F (.fn 0 (.fn 40 T))=E.I F (.fn 0 T):=by
 rw[<- br,<- br,akB]
 rw[(DK _).length_eq]
end
end Go.SX

set_option linter.unusedVariables false
set_option linter.unusedSimpArgs false
namespace Go.SX
section
variable {F:Env} {p0 p1 p2 p3 q0 q1 q2 q3 R T R1 T1 R2 T2 k n m g i j a b c d x y l v id c0 c1 c2 c3 C X p L:E}
theorem sK:(E.B F (.fn 182 (.pr c0 (.pr c1 (.pr c2 (.pr c3 (.pr a (.pr C (.pr X (.pr p (.int 0))))))))))=true)=(E.B F (.fn 145 (.pr X p))=true/\E.B F (.fn 146 (.pr c0 (.pr c1 (.pr c2 (.pr c3 a)))))=true/\¬E.B F (.fn 177 (.pr (.int 4) (.pr a (.pr c0 (.pr c1 (.pr c2 (.pr c3 (.pr C (.pr X (.pr p (.int 0)))))))))))=true):=by
 rw[o8,sJ,aV]
 show((jU _ _&&Qk (dD F c0 c1 c2 c3) _&&(bN _ 4 _ _).isSome)=true)=_
 simp only[Bool.and_eq_true,Option.isSome_iff_ne_none,Qk,dD,List.all_cons,List.all_nil,Bool.and_true,iz,and_assoc];rfl
theorem D5:(E.B F (.fn 184 (.pr x (.pr l (.pr v n))))=true)=(aq F x=((aq F l).take (E.I F n).toNat).filter fun x=>!(x==E.I F v)):=by
 show((bI _==((bI _).take _).filter _)=true)=_
 rw[beq_iff_eq];rfl
theorem apK(h:E.B F (.fn 184 (.pr x (.pr l (.pr v n))))=true)(e:E.I F m=E.I F n):E.B F (.fn 184 (.pr x (.pr l (.pr v m))))=true:=by simp_all[D5]
theorem a5z(h:E.B F (.fn 184 (.pr x (.pr l (.pr v n))))=true)(e:E.I F m=E.I F n):E.B F (.fn 184 (.pr (.fn 28 (.pr a x)) (.pr l (.pr v m))))=true:=apK h e
theorem a5A(h:E.B F (.fn 184 (.pr (.fn 10 a) (.pr l (.pr v n))))=true)(e:E.I F m=E.I F n):E.B F (.fn 184 (.pr (.fn 30 b) (.pr l (.pr v m))))=true:=apK (x:=(.fn 30 b)) h e
theorem Ud(h0:0<=E.I F i)(h1:E.I F i<E.I F (.fn 0 l))(hm:E.I F m=E.I F i+1):(aq F l).take (E.I F m).toNat=(aq F l).take (E.I F i).toNat++[E.I F (.fn 1 (.pr l i))]:=by
 rw[<- br]at h1
 rw[show(E.I F m).toNat=(E.I F i).toNat+1 by omega,np _ _ (by omega),fh]
theorem apL(h:E.B F (.fn 184 (.pr x (.pr l (.pr v i))))=true)(h0:0<=E.I F i)(h1:E.I F i<E.I F (.fn 0 l))(hm:E.I F m=E.I F i+1)(hv:E.I F (.fn 1 (.pr l i))=E.I F v):E.B F (.fn 184 (.pr x (.pr l (.pr v m))))=true:=by
 grind[D5,Ud]
theorem a5B(h:E.B F (.fn 184 (.pr x (.pr l (.pr v i))))=true)(h0:0<=E.I F i)(h1:E.I F i<E.I F (.fn 0 l))(hm:E.I F m=E.I F i+1)(hv:¬E.I F (.fn 1 (.pr l i))=E.I F v):E.B F (.fn 184 (.pr (.fn 3 (.pr x (.fn 23 (.pr (.fn 1 (.pr l i)) (.fn 10 b))))) (.pr l (.pr v m))))=true:=by
 rw[D5]at *
 rw[Ud h0 h1 hm,List.filter_append,<- h,lK,List.filter_cons,if_pos (by simp[hv])];rfl
theorem a5C(h:E.B F (.fn 184 (.pr (.fn 10 a) (.pr l (.pr v i))))=true)(h0:0<=E.I F i)(h1:E.I F i<E.I F (.fn 0 l))(hm:E.I F m=E.I F i+1)(hv:¬E.I F (.fn 1 (.pr l i))=E.I F v):E.B F (.fn 184 (.pr (.fn 23 (.pr (.fn 1 (.pr l i)) (.fn 10 b))) (.pr l (.pr v m))))=true:=by
 rw[D5]at *
 rw[Ud h0 h1 hm,List.filter_append,<- h,List.filter_cons,if_pos (by simp[hv])];rfl
theorem a4U(h:E.B F (.fn 144 (.pr (.fn 10 a) (.pr C (.pr X p))))=true):E.B F (.fn 144 (.pr (.fn 30 b) (.pr C (.pr X p))))=true:=h
theorem a4T(h:E.B F (.fn 144 (.pr x (.pr C (.pr X p))))=true):E.B F (.fn 144 (.pr (.fn 28 (.pr a x)) (.pr C (.pr X p))))=true:=h
end
end Go.SX

set_option linter.unusedVariables false
set_option linter.unusedSimpArgs false
namespace Go.SX
/-! ### sources by their ids alone -/
theorem Cz:∀(l:List Int)(i:Nat),l.length%2=0->bw (l.take (2*i)++l.drop (2*i+2))=(bw l).take i++(bw l).drop (i+1)
 |[],i,_=>by simp[bw]
 |[_],i,h=>by simp at h
 |a::c::l,0,h=>by rfl
 |a::c::l,i+1,h=>by
  have:=Cz l i (by grind)
  grind[bw]
theorem amT:∀(l:List Int)(i:Nat),l.length%2=0->eH (l.take (2*i)++l.drop (2*i+2))=(eH l).take i++(eH l).drop (i+1)
 |[],i,_=>by simp[eH]
 |[_],i,h=>by simp at h
 |a::c::l,0,h=>by rfl
 |a::c::l,i+1,h=>by
  have:=amT l i (by grind)
  grind[eH]
theorem ajL:∀(l:List Int)(i:Nat),l.Nodup->i<l.length->l.filter (fun x=>!(x==l.getD i 0))=l.take i++l.drop (i+1)
 |[],i,_,h=>by simp at h
 |a::l,0,hn,_=>by
  show(a::l).filter _=l
  rw[List.filter_cons,if_neg (by simp),List.filter_eq_self]
  grind
 |a::l,i+1,hn,h=>by
  have h':i<l.length:=by simp_all
  obtain⟨ha,hn'⟩:=List.nodup_cons.1 hn
  show(a::l).filter (fun x=>!(x==l.getD i 0))=a::(l.take i++l.drop _)
  rw[List.filter_cons,if_pos,ajL l i hn' h']
  grind
/-- the first of a colour, by what the ids make -/
theorem ajN{mk:Int->Int}{k:Int}(hk:0<=k):∀(l:List Int)(i:Nat),l.length%2=0->eH l=(bw l).map mk->
    (bS k l i<0->(bw l).find? (fun a=>mk a==k)=none)/\(0<=bS k l i->(i:Int)<=bS k l i/\(bw l).find? (fun a=>mk a==k)=some (l.getD (2*(bS k l i-i).toNat) 0))
  |[],i,_,_=>by simp[bS,bw]
  |[_],i,h,_=>by simp at h
  |a ::c ::l,i,h,ho=>by
    have ho':=ho
    obtain⟨hc,ho'⟩:=List.cons.inj ho'
    have e:bS k (a ::c ::l) i=if ka k c then(i:Int)else bS k l _:=rfl
    have ee:bw (a ::c ::l)=a ::bw l:=rfl;have hok:ka k c=(mk a==k):=by grind[ka]
    rw[e,ee,List.find?_cons,<- hok]
    by_cases hy:ka k c=true
    · simp_all
    · have hy':ka k c=false:=by simp_all
      rw[if_neg hy,hy']
      obtain⟨h1,h2⟩:=ajN hk l _ (by grind) ho'
      refine⟨h1,fun h0=>?_⟩
      refine⟨by omega, ?_⟩
      have e2:2*(bS k l (i+1)-i).toNat=2*(bS k l (i+1)-(i+1)).toNat+1+1:=by omega
      simp_all
/-! what holds of a purse all along -/
def iU(mk:Int->Int)(Q:Int->Prop)(N:Nat)(s:Pu):Prop:=
 s.2.1.length%2=0/\eH s.2.1=(bw s.2.1).map mk/\(bw s.2.1).Nodup/\(∀a∈bw s.2.1,1<=a/\Q a)/\s.1.length=4/\s.2.1.length/2+s.2.2.length<=N
theorem a0e{mk:Int->Int}{Q:Int->Prop}{N:Nat}{s:Pu}(b:Nat)(h:iU mk Q N s):iU mk Q N (gd b s):=by
 obtain⟨h1,h2,h3,h4,h5,h6⟩:=h
 exact⟨h1,h2,h3,h4,by simp_all[gd],h6⟩
theorem a0h{mk:Int->Int}{Q:Int->Prop}{N:Nat}{s:Pu}(i:Nat)(hi:2*i+2<=s.2.1.length)(h:iU mk Q N s):iU mk Q N (jx i s):=by
 obtain⟨h1,h2,h3,h4,h5,h6⟩:=h
 have hl:=aqd hi;have ee:bw (jx i s).2.1=(bw _).take i++(bw _).drop _:=Cz _ _ h1;have sub:((bw s.2.1).take i++(bw s.2.1).drop (i+1)).Sublist (bw s.2.1):=by
  grind[List.take_append_drop]
 refine⟨by omega,?_,?_,?_,h5,by omega⟩
 ·show eH (s.2.1.take _++s.2.1.drop _)=_;simp_all[amT]
 all_goals grind
theorem a0i{mk:Int->Int}{Q:Int->Prop}{N:Nat}{k:Int}{s t:Pu}(h:iU mk Q N s)(e:hG k s=some t):iU mk Q N t:=by
 rw[vM]at e
 obtain⟨e0,rfl⟩:=e
 have:=IB e0
 simp_all[a0h]
theorem a0g{mk:Int->Int}{Q:Int->Prop}{N:Nat}{k:Nat}{s t:Pu}(h:iU mk Q N s)(e:gh k s=some t):iU mk Q N t:=by
 unfold gh at e;grind[iD,a0e,a0i,fU]
theorem Ss{mk:Int->Int}{Q:Int->Prop}{N k:Nat}:∀ {n:Nat} {s t:Pu},iU mk Q N s->dN (gh k) n s=some t->iU mk Q N t
 |0,s,t,h,e=>by cases e;exact h
 |n+1,s,t,h,e=>by
  cases e1:dN _ n s with
  |none=>rw[show dN _ _ s=(dN _ n s).bind _ from rfl,e1]at e;cases e
  |some u=>exact a0g (Ss h e1) ((yd e1).symm.trans e)
theorem amY{mk:Int->Int}{Q:Int->Prop}{N:Nat}{c:List Int}:∀ {k:Nat} {s t:Pu},k<=4->iU mk Q N s->gY c k s=some t->iU mk Q N t
 |0,s,t,_,h,e=>by cases e;exact h
 |k+1,s,t,hk,h,e=>by
  cases e1:gY c k s with
  |none=>rw[show gY c _ s=(gY c k s).bind _ from rfl,e1]at e;cases e
  |some u=>
   rw[show gY c _ s=(gY c k s).bind _ from rfl,e1]at e
   have e':dN (gh k) (c.getD k 0).toNat u=some t:=by rw[k9 (by omega)];exact e
   exact Ss (amY (by omega) h e1) e'
theorem a0f{mk:Int->Int}{Q:Int->Prop}{N:Nat}{c:List Int}{k n:Nat}{s t:Pu}(hk:k<=4)(h:iU mk Q N s)(e:bN c k n s=some t):iU mk Q N t:=by
 unfold bN at e;cases e1:gY c k s with
 |none=>simp_all
 |some u=>rw[e1]at e;exact Ss (amY hk h e1) e
/-- what is there at first -/
theorem amZ{l:List U}{X:U}{p:Int}(h:jU X p=true){N:Nat}(hN:aJ X<=N):iU (kQ l X) (fun a=>0<=cO X a (aJ X)) N (sf l X p):=by
  obtain⟨hp,p0,p1⟩:=CH h
  have hlt:=akm hp;have hpw:(bw (dE l X p (aJ X))).Pairwise (· < ·):=by
    grind[xT,List.Pairwise.imp_of_mem,List.pairwise_lt_range]
  have hll:(bw (dE l X p (aJ X))).length=(eH (dE l X p (aJ X))).length:=by rw[rH,amU]
  refine⟨Kw _ _ _ _, ?_,hpw.imp fun {a b} h=>by omega, ?_,rfl, ?_⟩
  · refine List.ext_getElem (by rw[List.length_map];exact hll.symm) fun i h1 h2=>?_
    rw[List.getElem_map]
    have hi:i<(bw (dE l X p (aJ X))).length:=by
      have:i<(eH (dE l X p (aJ X))).length:=h1
      omega
    have:=(ala l h hi).1
    rw[List.getD_eq_getElem?_getD,List.getElem?_eq_getElem hi,List.getD_eq_getElem?_getD,List.getElem?_eq_getElem (by omega)]at this
    exact this.symm
  · intro a ha
    obtain⟨i,hi,rfl⟩:=List.mem_iff_getElem.1 ha
    have hi':i<(bw (dE l X p (aJ X))).length:=hi;have hq:=(ala l h hi').2
    rw[List.getD_eq_getElem?_getD,List.getElem?_eq_getElem hi']at hq
    refine⟨?_,hq⟩
    have hm:(bw (dE l X p (aJ X)))[i]∈((List.range (aJ X)).filter (nj l X p)).map fun i=>oI X i 0:=by
      grind[xT,List.getElem_mem]
    obtain⟨q,hq,e⟩:=List.mem_map.1 hm
    have hq:=List.mem_range.1 (List.mem_filter.1 hq).1;have ho:=(oE X (aJ X)).1 (DA hp)
    have:=((vp X q).1 (ho q hq).1)
    show 1<=(bw (dE l X p (aJ X)))[i];omega
  · have:=aoH l X p (aJ X)
    show(dE l X p (aJ X)).length/2+0<=N
    omega
end Go.SX

set_option linter.unusedVariables false
set_option linter.unusedSimpArgs false
namespace Go.SX
theorem uF{G:Type}{o:Option G}{f:G->Bool}:o.any f=true↔∃s,o=some s/\f s=true:=by
 cases o with
 |none=>simp
 |some s=>simp
section
variable {F:Env} {p0 p1 p2 p3 q0 q1 q2 q3 R T R1 T1 R2 T2 k n m g i j a b c d x y l v id c0 c1 c2 c3 C X p L:E}
noncomputable def IT(F:Env)(p0 p1 p2 p3 x T:E)(s:Pu):Prop:=s.1=[E.I F p0,E.I F p1,E.I F p2,E.I F p3]/\bw s.2.1=aq F x/\s.2.2=aq F T
def okE(F:Env)(C X:E)(s:Pu):Prop:=iU (kQ (E.L F C) (X.den F)) (fun a=>0<=cO (X.den F) a (aJ (X.den F))) 30 s
theorem iJ:(E.B F (.fn 178 (.pr p0 (.pr p1 (.pr p2 (.pr p3 (.pr x (.pr T (.pr k (.pr n (.pr c0 (.pr c1 (.pr c2 (.pr c3 (.pr C (.pr X (.pr p (.int 0)))))))))))))))))=true)=(∃s,bN (dD F c0 c1 c2 c3) (E.I F k).toNat (E.I F n).toNat (eK F C X p)=some s/\IT F p0 p1 p2 p3 x T s):=by
 show(((bN (dD F c0 c1 c2 c3) (E.I F k).toNat (E.I F n).toNat (eK F C X p)).any fun s=>(s.1,bw _,s.2.2)==([E.I F p0,E.I F p1,E.I F p2,E.I F p3],aq F x,aq F T))=true)=_
 simp_all[uF,IT]
theorem sF(h:E.B F (.fn 178 (.pr p0 (.pr p1 (.pr p2 (.pr p3 (.pr x (.pr T (.pr k (.pr n (.pr c0 (.pr c1 (.pr c2 (.pr c3 (.pr C (.pr X (.pr p (.int 0)))))))))))))))))=true)(hf:E.B F (.fn 145 (.pr X p))=true)(hs:E.B F (.fn 117 X)=true)(hk:E.I F k<=4):∃s,bN (dD F c0 c1 c2 c3) (E.I F k).toNat (E.I F n).toNat (eK F C X p)=some s/\IT F p0 p1 p2 p3 x T s/\okE F C X s:=by
 rw[iJ]at h
 obtain⟨s,e,hi⟩:=h
 have hn:=(ap hs).2.2.1.2.2.1;have e9:E.I F (E.fn 9 (.pr (.fn 1 (.pr X (.int 0))) (.int 12)))=aJ (X.den F):=rfl
 exact⟨s,e,hi,a0f (by omega) (amZ (sJ▸hf) (by omega)) e⟩
theorem a5m(h:E.B F (.fn 144 (.pr x (.pr C (.pr X p))))=true)(hp:E.I F p=0):E.B F (.fn 178 (.pr (.fn 1 (.pr X (.int 2))) (.pr (.fn 1 (.pr X (.int 3))) (.pr (.fn 1 (.pr X (.int 4))) (.pr (.fn 1 (.pr X (.int 5))) (.pr x (.pr (.fn 10 (.int 0)) (.pr (.int 0) (.pr (.int 0) (.pr c0 (.pr c1 (.pr c2 (.pr c3 (.pr C (.pr X (.pr p (.int 0)))))))))))))))))=true:=by
 rw[Ls]at h
 rw[iJ]
 refine⟨eK F C X p,rfl,?_,?_,rfl⟩
 ·unfold eK sf;rw[hp];rfl
 ·exact h.symm
theorem a5n(h:E.B F (.fn 144 (.pr x (.pr C (.pr X p))))=true)(hp:E.I F p=1):E.B F (.fn 178 (.pr (.fn 1 (.pr X (.int 16))) (.pr (.fn 1 (.pr X (.int 17))) (.pr (.fn 1 (.pr X (.int 18))) (.pr (.fn 1 (.pr X (.int 19))) (.pr x (.pr (.fn 10 (.int 0)) (.pr (.int 0) (.pr (.int 0) (.pr c0 (.pr c1 (.pr c2 (.pr c3 (.pr C (.pr X (.pr p (.int 0)))))))))))))))))=true:=by
 rw[Ls]at h
 rw[iJ]
 refine⟨eK F C X p,rfl,?_,?_,rfl⟩
 ·unfold eK sf;rw[hp];rfl
 ·exact h.symm
theorem zj(h:E.B F (.fn 178 (.pr p0 (.pr p1 (.pr p2 (.pr p3 (.pr x (.pr T (.pr k (.pr n (.pr c0 (.pr c1 (.pr c2 (.pr c3 (.pr C (.pr X (.pr p (.int 0)))))))))))))))))=true)(e:E.I F m=E.I F k)(e2:E.I F j=E.I F n):E.B F (.fn 178 (.pr p0 (.pr p1 (.pr p2 (.pr p3 (.pr x (.pr T (.pr m (.pr j (.pr c0 (.pr c1 (.pr c2 (.pr c3 (.pr C (.pr X (.pr p (.int 0)))))))))))))))))=true:=by simp_all[iJ]
theorem aac(h0:0<=E.I F k):E.I F (.fn 1 (.pr (.fn 23 (.pr c0 (.fn 23 (.pr c1 (.fn 23 (.pr c2 (.fn 23 (.pr c3 (.fn 10 (.int 0)))))))))) k))=(dD F c0 c1 c2 c3).getD (E.I F k).toNat 0:=by rw[fh];rfl
theorem Cj(hk:E.I F k=0):E.I F (.fn 1 (.pr (.fn 23 (.pr c0 (.fn 23 (.pr c1 (.fn 23 (.pr c2 (.fn 23 (.pr c3 (.fn 10 (.int 0)))))))))) k))=E.I F c0:=by rw[fh,hk];rfl
theorem Ck(hk:E.I F k=1):E.I F (.fn 1 (.pr (.fn 23 (.pr c0 (.fn 23 (.pr c1 (.fn 23 (.pr c2 (.fn 23 (.pr c3 (.fn 10 (.int 0)))))))))) k))=E.I F c1:=by rw[fh,hk];rfl
theorem Cl(hk:E.I F k=2):E.I F (.fn 1 (.pr (.fn 23 (.pr c0 (.fn 23 (.pr c1 (.fn 23 (.pr c2 (.fn 23 (.pr c3 (.fn 10 (.int 0)))))))))) k))=E.I F c2:=by rw[fh,hk];rfl
theorem Cm(hk:E.I F k=3):E.I F (.fn 1 (.pr (.fn 23 (.pr c0 (.fn 23 (.pr c1 (.fn 23 (.pr c2 (.fn 23 (.pr c3 (.fn 10 (.int 0)))))))))) k))=E.I F c3:=by rw[fh,hk];rfl
theorem uN(h:E.B F (.fn 146 (.pr c0 (.pr c1 (.pr c2 (.pr c3 a)))))=true)(h0:0<=E.I F k)(h1:E.I F k<4):0<=E.I F (.fn 1 (.pr (.fn 23 (.pr c0 (.fn 23 (.pr c1 (.fn 23 (.pr c2 (.fn 23 (.pr c3 (.fn 10 (.int 0)))))))))) k))/\E.I F (.fn 1 (.pr (.fn 23 (.pr c0 (.fn 23 (.pr c1 (.fn 23 (.pr c2 (.fn 23 (.pr c3 (.fn 10 (.int 0)))))))))) k))<=20:=by
 grind[aV,Cj,Ck,Cl,Cm]
theorem sy(h:E.B F (.fn 178 (.pr p0 (.pr p1 (.pr p2 (.pr p3 (.pr x (.pr T (.pr k (.pr n (.pr c0 (.pr c1 (.pr c2 (.pr c3 (.pr C (.pr X (.pr p (.int 0)))))))))))))))))=true)(hc:E.I F n=E.I F (.fn 1 (.pr (.fn 23 (.pr c0 (.fn 23 (.pr c1 (.fn 23 (.pr c2 (.fn 23 (.pr c3 (.fn 10 (.int 0)))))))))) k)))(h0:0<=E.I F k)(h1:E.I F k<4)(hm:E.I F m=E.I F k+1)(hj:E.I F j=0):E.B F (.fn 178 (.pr p0 (.pr p1 (.pr p2 (.pr p3 (.pr x (.pr T (.pr m (.pr j (.pr c0 (.pr c1 (.pr c2 (.pr c3 (.pr C (.pr X (.pr p (.int 0)))))))))))))))))=true:=by
 rw[aac h0]at hc
 rw[iJ]at h ⊢
 rw[show(E.I F m).toNat=(E.I F k).toNat+1 by omega,hj]
 simp_all[vF]
theorem apz(h:E.B F (.fn 178 (.pr p0 (.pr p1 (.pr p2 (.pr p3 (.pr x (.pr T (.pr k (.pr n (.pr c0 (.pr c1 (.pr c2 (.pr c3 (.pr C (.pr X (.pr p (.int 0)))))))))))))))))=true)(hk:E.I F k=0)(h0:0<=E.I F n)(hm:E.I F m=E.I F n+1)(hp:0<E.I F p0)(hg:E.I F g=E.I F p0-1):E.B F (.fn 178 (.pr g (.pr p1 (.pr p2 (.pr p3 (.pr x (.pr T (.pr k (.pr m (.pr c0 (.pr c1 (.pr c2 (.pr c3 (.pr C (.pr X (.pr p (.int 0)))))))))))))))))=true:=by
 rw[iJ]at h ⊢
 obtain⟨s,e,hi,hx,hT⟩:=h
 rw[hk]at e ⊢
 refine⟨gd 0 s,?_,?_,hx,hT⟩
 ·rw[show(E.I F m).toNat=(E.I F n).toNat+1 by omega]
  refine(jr e).trans ?_
  show iD 0 s=_;simp_all[iD]
 ·show s.1.set 0 _=_;simp_all
theorem apx(h:E.B F (.fn 178 (.pr p0 (.pr p1 (.pr p2 (.pr p3 (.pr x (.pr T (.pr (.int 4) (.pr n (.pr c0 (.pr c1 (.pr c2 (.pr c3 (.pr C (.pr X (.pr p (.int 0)))))))))))))))))=true)(hn:0<=E.I F n)(hm:E.I F m=E.I F n+1)(hp:0<E.I F p0)(hg:E.I F g=E.I F p0-1)(h1:E.I F p1<=E.I F p0)(h2:E.I F p2<=E.I F p0)(h3:E.I F p3<=E.I F p0):E.B F (.fn 178 (.pr g (.pr p1 (.pr p2 (.pr p3 (.pr x (.pr T (.pr (.int 4) (.pr m (.pr c0 (.pr c1 (.pr c2 (.pr c3 (.pr C (.pr X (.pr p (.int 0)))))))))))))))))=true:=by
 rw[iJ]at h ⊢
 obtain⟨s,e,hi,hx,hT⟩:=h
 have hb:gq s.1=0:=by simp_all[aiu]
 refine⟨gd 0 s,?_,?_,hx,hT⟩
 ·rw[show(E.I F m).toNat=(E.I F n).toNat+1 by omega]
  refine(jr e).trans ?_
  show fU s=_;simp_all[sb]
 ·show s.1.set 0 _=_;simp_all
theorem apA(h:E.B F (.fn 178 (.pr p0 (.pr p1 (.pr p2 (.pr p3 (.pr x (.pr T (.pr k (.pr n (.pr c0 (.pr c1 (.pr c2 (.pr c3 (.pr C (.pr X (.pr p (.int 0)))))))))))))))))=true)(hk:E.I F k=1)(h0:0<=E.I F n)(hm:E.I F m=E.I F n+1)(hp:0<E.I F p1)(hg:E.I F g=E.I F p1-1):E.B F (.fn 178 (.pr p0 (.pr g (.pr p2 (.pr p3 (.pr x (.pr T (.pr k (.pr m (.pr c0 (.pr c1 (.pr c2 (.pr c3 (.pr C (.pr X (.pr p (.int 0)))))))))))))))))=true:=by
 rw[iJ]at h ⊢
 obtain⟨s,e,hi,hx,hT⟩:=h
 rw[hk]at e ⊢
 refine⟨gd 1 s,?_,?_,hx,hT⟩
 ·rw[show(E.I F m).toNat=(E.I F n).toNat+1 by omega]
  refine(jr e).trans ?_
  show iD 1 s=_;simp_all[iD]
 ·show s.1.set 1 _=_;simp_all
theorem apy(h:E.B F (.fn 178 (.pr p0 (.pr p1 (.pr p2 (.pr p3 (.pr x (.pr T (.pr (.int 4) (.pr n (.pr c0 (.pr c1 (.pr c2 (.pr c3 (.pr C (.pr X (.pr p (.int 0)))))))))))))))))=true)(hn:0<=E.I F n)(hm:E.I F m=E.I F n+1)(hp:0<E.I F p1)(hg:E.I F g=E.I F p1-1)(h0:E.I F p0<E.I F p1)(h2:E.I F p2<=E.I F p1)(h3:E.I F p3<=E.I F p1):E.B F (.fn 178 (.pr p0 (.pr g (.pr p2 (.pr p3 (.pr x (.pr T (.pr (.int 4) (.pr m (.pr c0 (.pr c1 (.pr c2 (.pr c3 (.pr C (.pr X (.pr p (.int 0)))))))))))))))))=true:=by
 rw[iJ]at h ⊢
 obtain⟨s,e,hi,hx,hT⟩:=h
 have hb:gq s.1=1:=by simp_all[aiv]
 refine⟨gd 1 s,?_,?_,hx,hT⟩
 ·rw[show(E.I F m).toNat=(E.I F n).toNat+1 by omega]
  refine(jr e).trans ?_
  show fU s=_;simp_all[sb]
 ·show s.1.set 1 _=_;simp_all
theorem apB(h:E.B F (.fn 178 (.pr p0 (.pr p1 (.pr p2 (.pr p3 (.pr x (.pr T (.pr k (.pr n (.pr c0 (.pr c1 (.pr c2 (.pr c3 (.pr C (.pr X (.pr p (.int 0)))))))))))))))))=true)(hk:E.I F k=2)(h0:0<=E.I F n)(hm:E.I F m=E.I F n+1)(hp:0<E.I F p2)(hg:E.I F g=E.I F p2-1):E.B F (.fn 178 (.pr p0 (.pr p1 (.pr g (.pr p3 (.pr x (.pr T (.pr k (.pr m (.pr c0 (.pr c1 (.pr c2 (.pr c3 (.pr C (.pr X (.pr p (.int 0)))))))))))))))))=true:=by
 rw[iJ]at h ⊢
 obtain⟨s,e,hi,hx,hT⟩:=h
 rw[hk]at e ⊢
 refine⟨gd 2 s,?_,?_,hx,hT⟩
 ·rw[show(E.I F m).toNat=(E.I F n).toNat+1 by omega]
  refine(jr e).trans ?_
  show iD 2 s=_;simp_all[iD]
 ·show s.1.set 2 _=_;simp_all
theorem KS(h:E.B F (.fn 178 (.pr p0 (.pr p1 (.pr p2 (.pr p3 (.pr x (.pr T (.pr (.int 4) (.pr n (.pr c0 (.pr c1 (.pr c2 (.pr c3 (.pr C (.pr X (.pr p (.int 0)))))))))))))))))=true)(hn:0<=E.I F n)(hm:E.I F m=E.I F n+1)(hp:0<E.I F p2)(hg:E.I F g=E.I F p2-1)(h0:E.I F p0<E.I F p2)(h1:E.I F p1<E.I F p2)(h3:E.I F p3<=E.I F p2):E.B F (.fn 178 (.pr p0 (.pr p1 (.pr g (.pr p3 (.pr x (.pr T (.pr (.int 4) (.pr m (.pr c0 (.pr c1 (.pr c2 (.pr c3 (.pr C (.pr X (.pr p (.int 0)))))))))))))))))=true:=by
 rw[iJ]at h ⊢
 obtain⟨s,e,hi,hx,hT⟩:=h
 have hb:gq s.1=2:=by simp_all[aiw]
 refine⟨gd 2 s,?_,?_,hx,hT⟩
 ·rw[show(E.I F m).toNat=(E.I F n).toNat+1 by omega]
  refine(jr e).trans ?_
  show fU s=_;simp_all[sb]
 ·show s.1.set 2 _=_;simp_all
theorem apC(h:E.B F (.fn 178 (.pr p0 (.pr p1 (.pr p2 (.pr p3 (.pr x (.pr T (.pr k (.pr n (.pr c0 (.pr c1 (.pr c2 (.pr c3 (.pr C (.pr X (.pr p (.int 0)))))))))))))))))=true)(hk:E.I F k=3)(h0:0<=E.I F n)(hm:E.I F m=E.I F n+1)(hp:0<E.I F p3)(hg:E.I F g=E.I F p3-1):E.B F (.fn 178 (.pr p0 (.pr p1 (.pr p2 (.pr g (.pr x (.pr T (.pr k (.pr m (.pr c0 (.pr c1 (.pr c2 (.pr c3 (.pr C (.pr X (.pr p (.int 0)))))))))))))))))=true:=by
 rw[iJ]at h ⊢
 obtain⟨s,e,hi,hx,hT⟩:=h
 rw[hk]at e ⊢
 refine⟨gd 3 s,?_,?_,hx,hT⟩
 ·rw[show(E.I F m).toNat=(E.I F n).toNat+1 by omega]
  refine(jr e).trans ?_
  show iD 3 s=_;simp_all[iD]
 ·show s.1.set 3 _=_;simp_all
theorem sx(h:E.B F (.fn 178 (.pr p0 (.pr p1 (.pr p2 (.pr p3 (.pr x (.pr T (.pr (.int 4) (.pr n (.pr c0 (.pr c1 (.pr c2 (.pr c3 (.pr C (.pr X (.pr p (.int 0)))))))))))))))))=true)(hn:0<=E.I F n)(hm:E.I F m=E.I F n+1)(hp:0<E.I F p3)(hg:E.I F g=E.I F p3-1)(h0:E.I F p0<E.I F p3)(h1:E.I F p1<E.I F p3)(h2:E.I F p2<E.I F p3):E.B F (.fn 178 (.pr p0 (.pr p1 (.pr p2 (.pr g (.pr x (.pr T (.pr (.int 4) (.pr m (.pr c0 (.pr c1 (.pr c2 (.pr c3 (.pr C (.pr X (.pr p (.int 0)))))))))))))))))=true:=by
 rw[iJ]at h ⊢
 obtain⟨s,e,hi,hx,hT⟩:=h
 have hb:gq s.1=3:=by simp_all[aix]
 refine⟨gd 3 s,?_,?_,hx,hT⟩
 ·rw[show(E.I F m).toNat=(E.I F n).toNat+1 by omega]
  refine(jr e).trans ?_
  show fU s=_;simp_all[sb]
 ·show s.1.set 3 _=_;simp_all
theorem SK{s:Pu}(hi:s.1=[E.I F p0,E.I F p1,E.I F p2,E.I F p3])(h0:E.I F p0<=0)(h1:E.I F p1<=0)(h2:E.I F p2<=0)(h3:E.I F p3<=0):fU s=hG (-1) s:=by
 grind[ang]
theorem RD:aq F (.fn 24 (.pr (.pr (.int 1) x) (.pr (.int 1) (.pr (.fn 0 x) d))))=(aq F x).drop 1:=by
 show(((E.L F x).take ((E.I F _).toNat*1)).drop _).map _=_
 have e:(E.I F (.fn 0 x)).toNat=(E.L F x).length:=rfl
 rw[e]
 simp only[Nat.mul_one,List.take_length,List.map_drop];rfl
theorem I8(h:0<E.I F (.fn 0 x)):E.I F (.fn 0 (.fn 24 (.pr (.pr (.int 1) x) (.pr (.int 1) (.pr (.fn 0 x) d)))))=E.I F (.fn 0 x)-1:=by
 rw[<- br]at h
 rw[<- br,<- br,RD,List.length_drop];omega
theorem ajv(l:List Int)(h:l.length%2=0):bw (l.drop 2)=(bw l).drop 1:=by
 have:=Cz l 0 h
 simp_all
theorem ajQ:∀ {l:List Int},2<=l.length->bS (-1) l 0=0
 |a::c::l,_=>rfl
 |[_],h=>by simp at h
 |[],h=>by simp at h
theorem a5l(h:E.B F (.fn 178 (.pr p0 (.pr p1 (.pr p2 (.pr p3 (.pr x (.pr T (.pr (.int 4) (.pr n (.pr c0 (.pr c1 (.pr c2 (.pr c3 (.pr C (.pr X (.pr p (.int 0)))))))))))))))))=true)(hf:E.B F (.fn 145 (.pr X p))=true)(hs:E.B F (.fn 117 X)=true)(hn:0<=E.I F n)(hm:E.I F m=E.I F n+1)(hx:0<E.I F (.fn 0 x))(h0:E.I F p0<=0)(h1:E.I F p1<=0)(h2:E.I F p2<=0)(h3:E.I F p3<=0):E.B F (.fn 178 (.pr p0 (.pr p1 (.pr p2 (.pr p3 (.pr (.fn 24 (.pr (.pr (.int 1) x) (.pr (.int 1) (.pr (.fn 0 x) d)))) (.pr (.fn 3 (.pr T (.fn 23 (.pr (.fn 1 (.pr x (.int 0))) (.fn 10 (.int 0)))))) (.pr (.int 4) (.pr m (.pr c0 (.pr c1 (.pr c2 (.pr c3 (.pr C (.pr X (.pr p (.int 0)))))))))))))))))=true:=by
 obtain⟨s,e,hi,hk⟩:=sF h hf hs (Int.le_refl _)
 obtain⟨hi,hxs,hT⟩:=hi
 rw[<- br,<- hxs,rH]at hx
 rw[iJ]
 refine⟨jx 0 s,?_,hi,?_,?_⟩
 ·rw[show(E.I F m).toNat=(E.I F n).toNat+1 by omega]
  refine(jr e).trans ?_
  show fU s=_;grind[SK,vM,ajQ]
 ·show bw (s.2.1.take 0++s.2.1.drop 2)=_
  rw[RD,<- hxs,List.take_zero,List.nil_append,ajv _ hk.1]
 ·show s.2.2++[s.2.1.getD 0 0]=_
  have:E.I F (.fn 1 (.pr x (.int 0)))=s.2.1.getD 0 0:=by
   refine(fh (l:=x) (i:=.int 0)).trans ?_
   show(aq F x).getD 0 0=_
   grind[Ip]
  rw[hT,<- this]
  rw[lK];rfl
theorem a5k(h:E.B F (.fn 178 (.pr p0 (.pr p1 (.pr p2 (.pr p3 (.pr x (.pr (.fn 10 (.int 0)) (.pr (.int 4) (.pr n (.pr c0 (.pr c1 (.pr c2 (.pr c3 (.pr C (.pr X (.pr p (.int 0)))))))))))))))))=true)(hf:E.B F (.fn 145 (.pr X p))=true)(hs:E.B F (.fn 117 X)=true)(hn:0<=E.I F n)(hm:E.I F m=E.I F n+1)(hx:0<E.I F (.fn 0 x))(h0:E.I F p0<=0)(h1:E.I F p1<=0)(h2:E.I F p2<=0)(h3:E.I F p3<=0):E.B F (.fn 178 (.pr p0 (.pr p1 (.pr p2 (.pr p3 (.pr (.fn 24 (.pr (.pr (.int 1) x) (.pr (.int 1) (.pr (.fn 0 x) d)))) (.pr (.fn 23 (.pr (.fn 1 (.pr x (.int 0))) (.fn 10 (.int 0)))) (.pr (.int 4) (.pr m (.pr c0 (.pr c1 (.pr c2 (.pr c3 (.pr C (.pr X (.pr p (.int 0)))))))))))))))))=true:=by
 obtain⟨s,e,hi,hk⟩:=sF h hf hs (Int.le_refl _)
 obtain⟨hi,hxs,hT⟩:=hi
 rw[<- br,<- hxs,rH]at hx
 rw[iJ]
 refine⟨jx 0 s,?_,hi,?_,?_⟩
 ·rw[show(E.I F m).toNat=(E.I F n).toNat+1 by omega]
  refine(jr e).trans ?_
  show fU s=_;grind[SK,vM,ajQ]
 ·show bw (s.2.1.take 0++s.2.1.drop 2)=_
  rw[RD,<- hxs,List.take_zero,List.nil_append,ajv _ hk.1]
 ·show s.2.2++[s.2.1.getD 0 0]=_
  have:E.I F (.fn 1 (.pr x (.int 0)))=s.2.1.getD 0 0:=by
   refine(fh (l:=x) (i:=.int 0)).trans ?_
   show(aq F x).getD 0 0=_
   grind[Ip]
  rw[hT,<- this]
  rfl
theorem apq(h:E.B F (.fn 178 (.pr p0 (.pr p1 (.pr p2 (.pr p3 (.pr x (.pr T (.pr (.int 4) (.pr n (.pr c0 (.pr c1 (.pr c2 (.pr c3 (.pr C (.pr X (.pr p (.int 0)))))))))))))))))=true)(hf:E.B F (.fn 145 (.pr X p))=true)(hs:E.B F (.fn 117 X)=true)(h0':0<=E.I F n)(hn:E.I F n<E.I F a)(hx:E.I F (.fn 0 x)=0)(h0:E.I F p0<=0)(h1:E.I F p1<=0)(h2:E.I F p2<=0)(h3:E.I F p3<=0):E.B F (.fn 177 (.pr (.int 4) (.pr a (.pr c0 (.pr c1 (.pr c2 (.pr c3 (.pr C (.pr X (.pr p (.int 0)))))))))))=true:=by
 obtain⟨s,e,hi,hk⟩:=sF h hf hs (Int.le_refl _)
 obtain⟨hi,hxs,hT⟩:=hi
 rw[<- br,<- hxs,rH]at hx
 have hk1:=hk.1;have hl:s.2.1=[]:=List.length_eq_zero_iff.1 (by omega)
 rw[o8]
 refine Dw (n:=(E.I F n).toNat+1) (by omega) ((jr e).trans ?_);show fU s=none
 rw[SK hi h0 h1 h2 h3,KZ,hl]
 decide
theorem vW:E.I F (.fn 179 (.pr x (.pr k (.pr C (.pr X (.int 0))))))=((aq F x).find? fun id=>kQ (E.L F C) (X.den F) id==E.I F k).getD 0:=rfl
theorem RC:aq F (.fn 19 (.pr x n))=(aq F x).drop (E.I F n).toNat:=by
 show((E.L F x).drop _).map _=_
 rw[List.map_drop];rfl
theorem a5q(h:E.I F (.fn 0 x)<=E.I F n):E.I F (.fn 179 (.pr (.fn 19 (.pr x n)) (.pr k (.pr C (.pr X (.int 0))))))=0:=by
 grind[br,vW,RC,List.drop_eq_nil_of_le]
theorem a5p(h:E.I F n<=0):E.I F (.fn 179 (.pr (.fn 19 (.pr x n)) (.pr k (.pr C (.pr X (.int 0))))))=E.I F (.fn 179 (.pr x (.pr k (.pr C (.pr X (.int 0)))))):=by
 rw[vW,vW,RC,show(E.I F n).toNat=0 by omega];rfl
theorem ai5(h0:0<=E.I F i)(h1:E.I F i<E.I F (.fn 0 x))(hn:E.I F n=E.I F i)(hm:E.I F m=E.I F i+1):aq F (.fn 19 (.pr x n))=E.I F (.fn 1 (.pr x i))::aq F (.fn 19 (.pr x m)):=by
 grind[br,RC,fh,List.drop_eq_getElem_cons]
theorem a5r(h0:0<=E.I F i)(h1:E.I F i<E.I F (.fn 0 x))(hn:E.I F n=E.I F i)(hv:E.I F (.fn 150 (.pr C (.pr X (.fn 1 (.pr x i)))))=E.I F k):E.I F (.fn 179 (.pr (.fn 19 (.pr x n)) (.pr k (.pr C (.pr X (.int 0))))))=E.I F (.fn 1 (.pr x i)):=by
 rw[Em]at hv
 rw[vW,ai5 (m:=.fn 6 (.pr i (.int 1))) h0 h1 hn rfl,List.find?_cons,hv]
 simp
theorem a5s(h0:0<=E.I F i)(h1:E.I F i<E.I F (.fn 0 x))(hn:E.I F n=E.I F i)(hm:E.I F m=E.I F i+1)(hv:¬E.I F (.fn 150 (.pr C (.pr X (.fn 1 (.pr x i)))))=E.I F k):E.I F (.fn 179 (.pr (.fn 19 (.pr x n)) (.pr k (.pr C (.pr X (.int 0))))))=E.I F (.fn 179 (.pr (.fn 19 (.pr x m)) (.pr k (.pr C (.pr X (.int 0)))))):=by
 rw[Em]at hv
 rw[vW,vW,ai5 h0 h1 hn hm,List.find?_cons,show(kQ _ _ _==E.I F k)=false from by simp_all]
theorem ajR{s:Pu}(hi:IT F p0 p1 p2 p3 x T s)(ho:okE F C X s)(hk:0<=E.I F k):
  (bS (E.I F k) s.2.1 0<0->E.I F (.fn 179 (.pr x (.pr k (.pr C (.pr X (.int 0))))))=0)/\(0<=bS (E.I F k) s.2.1 0->E.I F (.fn 179 (.pr x (.pr k (.pr C (.pr X (.int 0))))))=s.2.1.getD (2*(bS (E.I F k) s.2.1 0).toNat) 0/\1<=E.I F (.fn 179 (.pr x (.pr k (.pr C (.pr X (.int 0))))))):=by
 obtain⟨_,hx,_⟩:=hi
 obtain⟨o1,o2,o3,o4,_,_⟩:=ho
 grind[ajN,vW]
theorem apw(h:E.B F (.fn 178 (.pr p0 (.pr p1 (.pr p2 (.pr p3 (.pr x (.pr T (.pr k (.pr n (.pr c0 (.pr c1 (.pr c2 (.pr c3 (.pr C (.pr X (.pr p (.int 0)))))))))))))))))=true)(hf:E.B F (.fn 145 (.pr X p))=true)(hs:E.B F (.fn 117 X)=true)(hz:E.B F (.fn 185 (.pr p0 (.pr p1 (.pr p2 (.pr p3 (.pr k (.int 0)))))))=true)(hv:E.I F (.fn 179 (.pr x (.pr k (.pr C (.pr X (.int 0))))))=0)(hk:0<=E.I F k)(hk4:E.I F k<4)(hn:0<=E.I F n)(hc:E.I F n<E.I F (.fn 1 (.pr (.fn 23 (.pr c0 (.fn 23 (.pr c1 (.fn 23 (.pr c2 (.fn 23 (.pr c3 (.fn 10 (.int 0)))))))))) k))):E.B F (.fn 177 (.pr (.int 4) (.pr a (.pr c0 (.pr c1 (.pr c2 (.pr c3 (.pr C (.pr X (.pr p (.int 0)))))))))))=true:=by
 obtain⟨s,e,hi,ho⟩:=sF h hf hs (by omega)
 rw[sL]at hz
 rw[aac hk]at hc
 obtain⟨g1,g2⟩:=ajR (k:=k) hi ho hk
 rw[o8]
 refine Dv (k:=(E.I F k).toNat) (n:=(E.I F n).toNat+1) (by omega) (by omega) ((jr e).trans ?_) _
 rw[k9 (by omega),JS (by rw[hi.1];omega),KZ]
 grind
theorem apF(h:E.B F (.fn 178 (.pr p0 (.pr p1 (.pr p2 (.pr p3 (.pr x (.pr T (.pr k (.pr n (.pr c0 (.pr c1 (.pr c2 (.pr c3 (.pr C (.pr X (.pr p (.int 0)))))))))))))))))=true)(hf:E.B F (.fn 145 (.pr X p))=true)(hs:E.B F (.fn 117 X)=true)(hz:E.B F (.fn 185 (.pr p0 (.pr p1 (.pr p2 (.pr p3 (.pr k (.int 0)))))))=true)(hid:E.I F id=E.I F (.fn 179 (.pr x (.pr k (.pr C (.pr X (.int 0)))))))(h0:¬E.I F id=0)(hy:E.B F (.fn 184 (.pr y (.pr x (.pr id (.fn 0 x)))))=true)(hT:aq F T1=aq F T++[E.I F id])(hk:0<=E.I F k)(hk4:E.I F k<4)(hn:0<=E.I F n)(hm:E.I F m=E.I F n+1):E.B F (.fn 178 (.pr p0 (.pr p1 (.pr p2 (.pr p3 (.pr y (.pr T1 (.pr k (.pr m (.pr c0 (.pr c1 (.pr c2 (.pr c3 (.pr C (.pr X (.pr p (.int 0)))))))))))))))))=true:=by
 obtain⟨s,e,hi,ho⟩:=sF h hf hs (by omega)
 rw[sL]at hz
 obtain⟨g1,g2⟩:=ajR (k:=k) hi ho hk
 have hpos:0<=bS (E.I F k) s.2.1 0:=by
  omega
 obtain⟨g2,g3⟩:=g2 hpos
 have hl:=IB hpos;have hev:(bw s.2.1).getD (bS (E.I F k) s.2.1 0).toNat 0=E.I F id:=by
  grind[Ip]
 rw[iJ]
 refine⟨jx (bS (E.I F k) s.2.1 0).toNat s,?_,hi.1,?_,?_⟩
 ·rw[show(E.I F m).toNat=(E.I F n).toNat+1 by omega]
  refine(jr e).trans ?_
  rw[k9 (by omega),JS (by rw[hi.1];omega),vM]
  grind
 ·show bw (s.2.1.take _++s.2.1.drop _)=_;have e0:(E.I F (.fn 0 x)).toNat=(aq F x).length:=by grind[br]
  rw[D5,e0,List.take_length,<- hi.2.1]at hy
  rw[Cz _ _ ho.1,hy,<- hev,ajL _ _ ho.2.2.1 (by grind)]
 ·show s.2.2++[s.2.1.getD _ 0]=_
  rw[hT,hi.2.2,hid,g2]
theorem apG(h:E.B F (.fn 178 (.pr p0 (.pr p1 (.pr p2 (.pr p3 (.pr x (.pr T (.pr k (.pr n (.pr c0 (.pr c1 (.pr c2 (.pr c3 (.pr C (.pr X (.pr p (.int 0)))))))))))))))))=true)(hf:E.B F (.fn 145 (.pr X p))=true)(hs:E.B F (.fn 117 X)=true)(hz:E.B F (.fn 185 (.pr p0 (.pr p1 (.pr p2 (.pr p3 (.pr k (.int 0)))))))=true)(hid:E.I F id=E.I F (.fn 179 (.pr x (.pr k (.pr C (.pr X (.int 0)))))))(h0:¬E.I F id=0)(hy:E.B F (.fn 184 (.pr y (.pr x (.pr id (.fn 0 x)))))=true)(hk:0<=E.I F k)(hk4:E.I F k<4)(hn:0<=E.I F n)(hm:E.I F m=E.I F n+1):E.B F (.fn 178 (.pr p0 (.pr p1 (.pr p2 (.pr p3 (.pr y (.pr (.fn 3 (.pr T (.fn 23 (.pr id (.fn 10 (.int 0)))))) (.pr k (.pr m (.pr c0 (.pr c1 (.pr c2 (.pr c3 (.pr C (.pr X (.pr p (.int 0)))))))))))))))))=true:=apF h hf hs hz hid h0 hy (by rw[lK];rfl) hk hk4 hn hm
theorem a5o(h:E.B F (.fn 178 (.pr p0 (.pr p1 (.pr p2 (.pr p3 (.pr x (.pr (.fn 10 (.int 0)) (.pr k (.pr n (.pr c0 (.pr c1 (.pr c2 (.pr c3 (.pr C (.pr X (.pr p (.int 0)))))))))))))))))=true)(hf:E.B F (.fn 145 (.pr X p))=true)(hs:E.B F (.fn 117 X)=true)(hz:E.B F (.fn 185 (.pr p0 (.pr p1 (.pr p2 (.pr p3 (.pr k (.int 0)))))))=true)(hid:E.I F id=E.I F (.fn 179 (.pr x (.pr k (.pr C (.pr X (.int 0)))))))(h0:¬E.I F id=0)(hy:E.B F (.fn 184 (.pr y (.pr x (.pr id (.fn 0 x)))))=true)(hk:0<=E.I F k)(hk4:E.I F k<4)(hn:0<=E.I F n)(hm:E.I F m=E.I F n+1):E.B F (.fn 178 (.pr p0 (.pr p1 (.pr p2 (.pr p3 (.pr y (.pr (.fn 23 (.pr id (.fn 10 (.int 0)))) (.pr k (.pr m (.pr c0 (.pr c1 (.pr c2 (.pr c3 (.pr C (.pr X (.pr p (.int 0)))))))))))))))))=true:=apF h hf hs hz hid h0 hy rfl hk hk4 hn hm
theorem apD(h:E.B F (.fn 178 (.pr p0 (.pr p1 (.pr p2 (.pr p3 (.pr x (.pr T (.pr k (.pr n (.pr c0 (.pr c1 (.pr c2 (.pr c3 (.pr C (.pr X (.pr p (.int 0)))))))))))))))))=true)(hf:E.B F (.fn 145 (.pr X p))=true)(hs:E.B F (.fn 117 X)=true)(hz:E.B F (.fn 185 (.pr p0 (.pr p1 (.pr p2 (.pr p3 (.pr k (.int 0)))))))=true)(hid:E.I F id=E.I F (.fn 179 (.pr x (.pr k (.pr C (.pr X (.int 0)))))))(h0:¬E.I F id=0)(hy:E.B F (.fn 184 (.pr y (.pr x (.pr id (.fn 0 x)))))=true)(hk:0<=E.I F k)(hk4:E.I F k<4)(hn:0<=E.I F n):E.I F (.fn 0 y)+E.I F (.fn 0 T)+1<=30:=by
 have h':=apG (m:=.fn 6 (.pr n (.int 1))) h hf hs hz hid h0 hy hk hk4 hn rfl
 obtain⟨s,e,hi,ho⟩:=sF h' hf hs (by omega)
 obtain⟨_,_,_,_,_,ho⟩:=ho
 obtain⟨_,hx,hT⟩:=hi
 rw[hT,lK,List.length_append,<- rH,hx]at ho
 rw[<- br,<- br]
 have:(aq F (.fn 23 (.pr id (.fn 10 (.int 0))))).length=1:=rfl
 omega
theorem TW(h:E.B F (.fn 178 (.pr p0 (.pr p1 (.pr p2 (.pr p3 (.pr x (.pr T (.pr k (.pr n (.pr c0 (.pr c1 (.pr c2 (.pr c3 (.pr C (.pr X (.pr p (.int 0)))))))))))))))))=true)(hf:E.B F (.fn 145 (.pr X p))=true)(hs:E.B F (.fn 117 X)=true)(hk:E.I F k<=4):E.I F (.fn 0 x)+E.I F (.fn 0 T)<=30:=by
 obtain⟨s,e,hi,ho⟩:=sF h hf hs hk
 obtain⟨_,_,_,_,_,ho⟩:=ho
 obtain⟨_,hx,hT⟩:=hi
 grind[rH,br]
theorem apE(h:E.B F (.fn 178 (.pr p0 (.pr p1 (.pr p2 (.pr p3 (.pr x (.pr T (.pr k (.pr n (.pr c0 (.pr c1 (.pr c2 (.pr c3 (.pr C (.pr X (.pr p (.int 0)))))))))))))))))=true)(hf:E.B F (.fn 145 (.pr X p))=true)(hs:E.B F (.fn 117 X)=true)(hk:E.I F k<=4)(h0:0<=E.I F i)(h1:E.I F i<E.I F (.fn 0 x)):0<=E.I F (.fn 120 (.pr X (.pr (.fn 1 (.pr x i)) (E.fn 9 (.pr (.fn 1 (.pr X (.int 0))) (.int 12)))))):=by
 obtain⟨s,e,hi,ho⟩:=sF h hf hs hk
 obtain⟨_,_,_,ho,_,_⟩:=ho
 rw[<- br]at h1
 have hm:E.I F (.fn 1 (.pr x i))∈aq F x:=by
  simp_all[fh]
 rw[<- hi.2.1]at hm
 exact(ho _ hm).2
theorem apI(h:E.B F (.fn 178 (.pr p0 (.pr p1 (.pr p2 (.pr p3 (.pr x (.pr T (.pr (.int 4) (.pr n (.pr c0 (.pr c1 (.pr c2 (.pr c3 (.pr C (.pr X (.pr p (.int 0)))))))))))))))))=true)(e:E.I F n=E.I F a)(hT:aq F T1=dk (aq F T)):E.B F (.fn 183 (.pr p0 (.pr p1 (.pr p2 (.pr p3 (.pr T1 (.pr c0 (.pr c1 (.pr c2 (.pr c3 (.pr a (.pr C (.pr X (.pr p (.int 0)))))))))))))))=true:=by
 rw[iJ]at h
 obtain⟨s,e',hi,_,h3⟩:=h
 rw[Lu,<- e]
 simp_all[dD]
theorem a5v(h:E.B F (.fn 178 (.pr p0 (.pr p1 (.pr p2 (.pr p3 (.pr x (.pr (.fn 10 (.int 0)) (.pr (.int 4) (.pr n (.pr c0 (.pr c1 (.pr c2 (.pr c3 (.pr C (.pr X (.pr p (.int 0)))))))))))))))))=true)(e:E.I F n=E.I F a):E.B F (.fn 183 (.pr p0 (.pr p1 (.pr p2 (.pr p3 (.pr (.fn 10 (.int 0)) (.pr c0 (.pr c1 (.pr c2 (.pr c3 (.pr a (.pr C (.pr X (.pr p (.int 0)))))))))))))))=true:=apI h e rfl
theorem a5w(h:E.B F (.fn 178 (.pr p0 (.pr p1 (.pr p2 (.pr p3 (.pr x (.pr T (.pr (.int 4) (.pr n (.pr c0 (.pr c1 (.pr c2 (.pr c3 (.pr C (.pr X (.pr p (.int 0)))))))))))))))))=true)(e:E.I F n=E.I F a)(hy:E.B F (.fn 152 (.pr T1 (.pr T m)))=true)(hm:E.I F (.fn 0 T)<=E.I F m):E.B F (.fn 183 (.pr p0 (.pr p1 (.pr p2 (.pr p3 (.pr T1 (.pr c0 (.pr c1 (.pr c2 (.pr c3 (.pr a (.pr C (.pr X (.pr p (.int 0)))))))))))))))=true:=by
 grind[zD,br,List.take_of_length_le,apI]
end
end Go.SX

set_option linter.unusedVariables false
set_option linter.unusedSimpArgs false
namespace Go.SX
section
variable {F:Env} {p0 p1 p2 p3 q0 q1 q2 q3 R T k n a c0 c1 c2 c3 C X p:E}
theorem aZd:E.I F (.fn 0 (.fn 10 a))=0:=rfl
end
end Go.SX

set_option linter.unusedVariables false
set_option linter.unusedSimpArgs false
namespace Go.SX
/-! ### what can be paid -/
def aXu(k:Nat)(l:List Int):Int:=(((eH l).count (k:Int):Nat):Int)
def Rn(k:Nat)(s:Pu):Int:=s.1.getD k 0+aXu k s.2.1
def ah(s:Pu):Int:=s.1.getD 0 0+s.1.getD 1 0+s.1.getD 2 0+s.1.getD 3 0+((s.2.1.length/2:Nat):Int)
def wfP(s:Pu):Prop:=s.2.1.length%2=0/\s.1.length=4/\(∀c∈eH s.2.1,0<=c/\c<4)/\∀k,0<=s.1.getD k 0
/-- t comes of s by so many steps -/
def lessP(n:Int)(s t:Pu):Prop:=wfP t/\(∀j,Rn j t<=Rn j s)/\(∀j,t.1.getD j 0<=s.1.getD j 0)/\ah t=ah s-n/\t.2.2.length+t.2.1.length/2=s.2.2.length+s.2.1.length/2
theorem lessP.trans{a b:Int}{s t u:Pu}(h:lessP a s t)(h':lessP b t u):lessP (a+b) s u:=by
 obtain⟨_,h2,h3,h4,h5⟩:=h
 obtain⟨g1,g2,g3,g4,g5⟩:=h'
 exact⟨g1,fun j=>Int.le_trans (g2 j) (h2 j),fun j=>Int.le_trans (g3 j) (h3 j),by omega,by omega⟩
end Go.SX

set_option linter.unusedVariables false
set_option linter.unusedSimpArgs false
namespace Go.SX
/-! ### a board after it was paid tells the same -/
theorem PQ{n:Nat}{f g:Nat->Bool}(h:∀i,i<n->f i=g i):(List.range n).all f=(List.range n).all g:=by
 grind
theorem In{l m:List U}(h:U.eqs l m=true):l.map U.toI=m.map U.toI:=by
 refine List.ext_getElem (by simp[lG h]) fun i h1 h2=>?_
 have:=Cy (qe i h)
 grind
theorem ajo{l m:List U}(h:U.eqs l m=true)(i:Nat):nI l i=nI m i:=Cy (qe i h)
theorem sC(L:List Int)(n:Nat)(l:List U):(fg L n l).length=l.length:=by simp[fg]
theorem La(L:List Int)(n:Nat)(l:List U)(j:Nat)(d:U):(fg L n l).getD j d=if j<l.length then(if j%12==9&&decide (j/12<n)&&L.contains (l.getD (j/12*12) (.int 0)).toI then .bool true else l.getD j (.int 0))else d:=by
 by_cases h:j<l.length
 all_goals simp_all[fg,if_neg]
theorem Rk(l:List U){i:Nat}(h:l.length<=i)(d:U):l.getD i d=d:=by grind
section
variable {Y X:U} {p:Nat} {L m:List Int} (h:oH Y X p L m=true) (hY:Y.toL.length=38) (hX:X.toL.length=38)
include h hY hX
omit hY hX in
theorem SD:U.eqs (cX Y 0).toL (fg L (aJ X) (cX X 0).toL)=true:=by
 simp_all[oH]
omit hY hX in
theorem SF{j:Nat}(hj:j<38):(if j==0 then true else if j==29||j==30 then g9 (cX Y j).toL (cX X j).toL&&(eN (cX Y j)&&gV (cX Y j).toL)else if decide (2+14*p<=j)&&decide (j<6+14*p)then iX Y j==m.getD (j-(2+14*p)) 0 else U.eq (cX Y j) (cX X j))=true:=by
 simp_all[oH,oT,Bool.and_eq_true,List.all_eq_true,List.mem_range]
theorem Dt{j:Nat}(h0:j≠0)(h29:j≠29)(h30:j≠30)(hp:¬(2+14*p<=j/\j<6+14*p)):U.eq (cX Y j) (cX X j)=true:=by
 by_cases hj:j<38
 ·have:=SF h hj
  grind
 ·unfold cX
  rw[Rk _ (by omega),Rk _ (by omega)];rfl
omit hY hX in
theorem a0A{k:Nat}(hk:k<4)(hp:p<=1):iX Y (2+14*p+k)=m.getD k 0:=by
 have:=SF h (j:=2+14*p+k) (by omega)
 grind
omit hY hX in
theorem ana{j:Nat}(hj:j=29\/j=30):g9 (cX Y j).toL (cX X j).toL=true:=by
 have:=SF h (j:=j) (by omega)
 grind
theorem a0C(hp:p<=1)(k:Nat):bg Y k=bg X k:=In (mT (Dt h hY hX (j:=6+14*(k/4)+k%4) (by omega) (by omega) (by omega) (by omega)))
theorem a0v(hp:p<=1):bn Y=bn X:=In (mT (Dt h hY hX (j:=31) (by omega) (by omega) (by omega) (by omega)))
theorem a0x(hp:p<=1):fe Y=fe X:=by
 grind[fe,lG,mT,Dt]
omit hY hX in
theorem anb:aJ Y=aJ X:=by
 have:=lG (SD h)
 simp_all[sC,aJ]
omit hY hX in
theorem a0z(i:Nat){j:Nat}(hj:j<9):oI Y i j=oI X i j:=by
 have:=ajo (SD h) (i*12+j)
 have e:nI (fg L (aJ X) (cX X 0).toL) (i*12+j)=nI (cX X 0).toL (i*12+j):=by
  grind[nI,La]
 exact this.trans e
omit hY hX in
theorem SE{j:Nat}(hj:j=29\/j=30):(cX Y j).toL.length/5=(cX X j).toL.length/5/\∀i k,i<(cX X j).toL.length/5->k<5->U.eq ((cX Y j).toL.getD (i*5+k) (.int 0)) ((cX X j).toL.getD (i*5+k) (.int 0))=true:=by
 have:=ana h hj
 rw[kZ]at this
 refine⟨this.1,fun i k hi hk=>?_⟩
 have e:=qe (i*5+k) this.2;grind
omit hY hX in
theorem a0y:cy Y=cy X:=(SE h (.inl rfl)).1
omit hY hX in
theorem a0w(k:Int)(n:Nat):cO Y k n=cO X k n:=by
 unfold cO
 have:(fun i=>oI Y i 0==k)=fun i=>oI X i 0==k:=funext fun i=>by grind[a0z]
 rw[this]
theorem a0B(hp:p<=1)(hv:k8 X=true):k8 Y=true:=by
 have e:=funext (a0C h hY hX hp);have tg:∀j,j=29\/j=30->eO (cX Y j).toL _=eO (cX X j).toL ((cX X j).toL.length/5):=fun j hj=>PQ fun i hi=>by
  grind[lG,mT,SE]
 have t29:eO _ (cy X)=eO _ (cy X):=tg 29 (.inl rfl);unfold k8 at hv ⊢
 rw[e,a0y h,(SE h (.inr rfl)).1,anb h,a0v h hY hX hp,a0x h hY hX hp,t29,tg 30 (.inr rfl)]
 omega
end
end Go.SX

set_option linter.unusedVariables false
set_option linter.unusedSimpArgs false
namespace Go.SX
/-! ### a purse and what is left of it -/
theorem RE{Q:Pu->Prop}(hd:∀b s,Q s->Q (gd b s))(ht:∀i s,2*i+2<=s.2.1.length->Q s->Q (jx i s)){k:Nat}:∀ {n:Nat} {s t:Pu},Q s->dN (gh k) n s=some t->Q t
 |0,s,t,h,e=>by cases e;exact h
 |n+1,s,t,h,e=>by
  have tp:∀ {c:Int} {s t:Pu},Q s->hG c s=some t->Q t:=fun {c s t} h e=>by
   rw[vM]at e
   obtain⟨e0,rfl⟩:=e
   have:=IB e0
   simp_all
  have st:∀ {s t:Pu},Q s->gh k s=some t->Q t:=fun {s t} h e=>by
   unfold gh at e;grind[iD,fU]
  cases e1:dN _ n s with
  |none=>rw[show dN _ _ s=(dN _ n s).bind _ from rfl,e1]at e;cases e
  |some u=>exact st (RE hd ht h e1) ((yd e1).symm.trans e)
theorem aYL{Q:Pu->Prop}(hd:∀b s,Q s->Q (gd b s))(ht:∀i s,2*i+2<=s.2.1.length->Q s->Q (jx i s)){c:List Int}{n:Nat}{s t:Pu}(h:Q s)(e:bN c 4 n s=some t):Q t:=by
 have hK:∀ {k:Nat} {s t:Pu},k<=4->Q s->gY c k s=some t->Q t:=by
  intro k;induction k with
  |zero=>intro s t _ h e;cases e;exact h
  |succ k ih=>
   intro s t hk h e;cases e1:gY c k s with
   |none=>rw[show gY c _ s=(gY c k s).bind _ from rfl,e1]at e;cases e
   |some u=>
    rw[show gY c _ s=(gY c k s).bind _ from rfl,e1]at e
    have e':dN (gh k) (c.getD k 0).toNat u=some t:=by rw[k9 (by omega)];exact e
    exact RE hd ht (ih (by omega) h e1) e'
 unfold bN at e;cases e1:gY c 4 s with
 |none=>simp_all
 |some u=>rw[e1]at e;exact RE hd ht (hK (Nat.le_refl _) h e1) e
theorem ajw:∀(l:List Int)(i:Nat),2*i+2<=l.length->(bw l).getD i 0=l.getD (2*i) 0
 |[],i,h=>by rfl
 |[_],i,h=>by simp_all
 |a::b::l,0,_=>rfl
 |a::b::l,i+1,h=>by
  have:=ajw l i (by grind)
  grind[bw]
theorem a1u(x:Int)(l:List Int):(dk l).contains x=l.contains x:=by
 grind[DK]
theorem aov:∀ {l:List Int},l.Pairwise (·<=·)->sn l=true
 |[],_=>rfl
 |[_],_=>rfl
 |a::b::l,h=>by
  show(decide _&&sn _)=true
  rw[decide_eq_true ((List.pairwise_cons.1 h).1 b List.mem_cons_self),aov (List.pairwise_cons.1 h).2];rfl
theorem akM:∀ {l:List Int},sn l=true->l.Pairwise (·<=·)
 |[],_=>List.Pairwise.nil
 |[a],_=>List.pairwise_singleton _ _
 |a::b::l,h=>by
  have h':(decide _&&sn _)=true:=h
  rw[Bool.and_eq_true,decide_eq_true_eq]at h'
  have ih:=akM h'.2;all_goals grind[List.pairwise_cons]
end Go.SX

set_option linter.unusedVariables false
set_option linter.unusedSimpArgs false
namespace Go.SX
mutual
theorem U.eq_trans:∀a b c:U,U.eq a b=true->U.eq b c=true->U.eq a c=true
  |.int a,b,c,h,g=>by
    cases b with
    | int b => have e  := by simpa[U.eq]using h
               subst e;exact g
    |_=>simp[U.eq]at h
  |.bool a,b,c,h,g=>by
    cases b with
    | bool b => have e  := by simpa[U.eq]using h
                subst e;exact g
    |_=>simp[U.eq]at h
  |.str a,b,c,h,g=>by
    cases b with
    | str b=>cases c with
      |str c=>
        simp_all[U.eq]
      |_=>simp[U.eq]at g
    |_=>simp[U.eq]at h
  |.lst l,b,c,h,g=>by
    cases b<;>cases c<;>simp only[U.eq]at h g ⊢ <;> first | exact U.eqs_trans l _ _ h g | cases h | cases g
  |.bx _ _ _ l,b,c,h,g=>by
    cases b<;>cases c<;>simp only[U.eq]at h g ⊢ <;> first | exact U.eqs_trans l _ _ h g | cases h | cases g
theorem U.eqs_trans:∀a b c,U.eqs a b=true->U.eqs b c=true->U.eqs a c=true
 |[],b,c,h,g=>by grind[U.eqs]
 |x::xs,b,c,h,g=>by
  cases b with
  |nil=>simp[U.eqs]at h
  |cons y ys=>cases c with
   |nil=>simp[U.eqs]at g
   |cons z zs=>
    simp only[U.eqs,Bool.and_eq_true]at h g ⊢
    exact⟨U.eq_trans x y z h.1 g.1,U.eqs_trans xs ys zs h.2 g.2⟩
end
theorem Tp{u v:U}(h:U.eq u v=true):eN u=eN v:=by
 cases u<;>cases v<;>simp_all[U.eq,eN]
theorem Cx{u v:U}(h:U.eqs u.toL v.toL=true)(hu:eN u=true)(hv:eN v=true):U.eq u v=true:=by
 cases u<;>cases v<;>simp_all[U.eq,eN,U.toL]
theorem Io:∀ {l m:List U} (i:Nat) {v w:U},U.eqs l m=true->U.eq v w=true->U.eqs (l.set i v) (m.set i w)=true
 |[],[],i,_,_,_,_=>by rfl
 |[],_::_,_,_,_,h,_=>by simp[U.eqs]at h
 |_::_,[],_,_,_,h,_=>by simp[U.eqs]at h
 |x::l,y::m,0,v,w,h,g=>by
  simp_all[U.eqs]
 |x::l,y::m,i+1,v,w,h,g=>by
  simp only[U.eqs,Bool.and_eq_true,List.set_cons_succ]at h ⊢;exact⟨h.1,Io i h.2 g⟩
theorem a1h(l:List U){i:Nat}(h:i<l.length):l.set i (l.getD i (.int 0))=l:=by
 simp_all
theorem ajp:∀(n:Nat){l m:List U},U.eqs l m=true->U.eqs (l.take n) (m.take n)=true
 |0,l,m,_=>by rfl
 |n+1,[],[],_=>by rfl
 |n+1,[],_::_,h=>by simp[U.eqs]at h
 |n+1,_::_,[],h=>by simp[U.eqs]at h
 |n+1,x::l,y::m,h=>by
  simp only[U.eqs,Bool.and_eq_true,List.take_succ_cons]at h ⊢;exact⟨h.1,ajp n h.2⟩
section
variable {F:Env} {x y l A a b k u i j p q n m r o c d w v X Y T N L e t C z s:E}
/-! lists that are the same -/
theorem Lx:(E.B F (.fn 200 (.pr a b))=true)=(U.eqs (E.L F a) (E.L F b)=true):=rfl
theorem a6D:(E.B F (.fn 201 a)=true)=(eN (a.den F)=true):=rfl
theorem ap1:E.B F (.fn 200 (.pr a a))=true:=U.eqs_rfl _
theorem oR:E.B F (.fn 200 (.pr (.fn 28 (.pr z a)) a))=true:=U.eqs_rfl _
theorem aZ6(h:E.I F (.fn 0 b)=0):E.L F b=[]:=by
 have e:E.I F (.fn 0 b)=(E.L F b).length:=rfl;simp_all
theorem a5S(h:E.I F (.fn 0 b)=0):E.B F (.fn 200 (.pr (.fn 10 a) b))=true:=by rw[Lx,aZ6 h];rfl
theorem oS:E.B F (.fn 201 (.fn 28 a))=true:=rfl
theorem a5T(h:E.B F (.fn 200 (.pr a b))=true):E.B F (.fn 187 (.pr a b))=true:=by
 rw[Lx]at h
 rw[qG,kZ,lG h]
 exact⟨rfl,ajp _ h⟩
theorem a5U(h:E.B F (.fn 200 (.pr a b))=true)(g:E.B F (.fn 190 b)=true):E.B F (.fn 190 a)=true:=by
 grind[Lx,D6,Tp,qe,lG]
/-- a target's list in a copied item -/
theorem acX(h0:0<=E.I F i):E.L F (.fn 2 (.pr a (.pr (.fn 6 (.pr (.fn 8 (.pr i (.int 5))) (.int 4))) v)))=(E.L F a).set ((E.I F i).toNat*5+4) (v.den F):=by
  show(E.L F a).set (E.I F i*5+4).toNat (v.den F)=_
  grind
theorem apS(h:E.B F (.fn 187 (.pr a b))=true)(hs:E.B F (.fn 190 a)=true)(h0:0<=E.I F i)(h1:E.I F i<E.I F (.fn 9 (.pr b (.int 5))))(hv:E.B F (.fn 200 (.pr v (.fn 1 (.pr a (.fn 6 (.pr (.fn 8 (.pr i (.int 5))) (.int 4)))))))=true)(hsv:E.B F (.fn 201 v)=true):
  E.B F (.fn 187 (.pr (.fn 2 (.pr a (.pr (.fn 6 (.pr (.fn 8 (.pr i (.int 5))) (.int 4))) v))) b))=true/\E.B F (.fn 190 (.fn 2 (.pr a (.pr (.fn 6 (.pr (.fn 8 (.pr i (.int 5))) (.int 4))) v))))=true:=by
 have e9:E.I F (.fn 9 (.pr b (.int 5)))=(E.L F b).length/5:=rfl
 rw[qG,kZ]at h
 rw[D6]at hs
 rw[Lx]at hv
 rw[a6D]at hsv
 have hi:(E.I F i).toNat*5+4<(E.L F a).length:=by omega
 have hcell:E.L F (.fn 1 (.pr a (.fn 6 (.pr (.fn 8 (.pr i (.int 5))) (.int 4)))))=((E.L F a).getD ((E.I F i).toNat*5+4) (.int 0)).toL:=by
  show((E.L F a).getD (E.I F i*5+4).toNat _).toL=_
  grind
 rw[hcell]at hv
 have heq:=Cx hv hsv (hs _ hi (by omega));constructor
 ·rw[qG,kZ,acX h0,List.length_set]
  rw[List.take_set]
  have e2:((E.L F a).take ((E.L F a).length/5*5)).getD ((E.I F i).toNat*5+4) (.int 0)=(E.L F a).getD ((E.I F i).toNat*5+4) (.int 0):=by
   grind
  have g3:=Io ((E.I F i).toNat*5+4) (U.eqs_rfl ((E.L F a).take ((E.L F a).length/5*5))) heq;grind[a1h,U.eqs_trans]
 grind[D6,acX]
theorem a5b(h:E.B F (.fn 158 (.pr b n))=true)(g:E.B F (.fn 187 (.pr a b))=true)(h0:0<=E.I F i)(h1:E.I F i<E.I F (.fn 9 (.pr b (.int 5))))(hn:E.I F n=E.I F (.fn 9 (.pr b (.int 5)))):E.I F (.fn 9 (.pr (.fn 1 (.pr a (.fn 6 (.pr (.fn 8 (.pr i (.int 5))) (.int 4))))) (.int 2)))<=6:=by
 have e:=vL (TX g h0 h1 (j:=4) (by decide)) (.int 2);have e':E.I F (.fn 9 (.pr (.fn 1 _) _))=E.I F _:=e
 rw[Lt]at h
 unfold eO at h;have e3:E.I F (.fn 9 (.pr (bV b i 5 4) (.int 2)))=((bV b i 5 4).den F).toL.length/2:=rfl;grind[Kh]
/-! a search by halves -/
theorem Lv:(E.B F (.fn 193 a)=true)=(sn (aq F a)=true):=rfl
theorem Lw:(E.B F (.fn 194 (.pr a (.pr x (.pr i j))))=true)=((∀y∈(aq F a).take (E.I F i).toNat,y<E.I F x)/\∀y∈(aq F a).drop (E.I F j).toNat,E.I F x<=y):=by
 show((((aq F a).take (E.I F i).toNat).all (fun y=>decide (y<E.I F x))&&((aq F a).drop (E.I F j).toNat).all fun y=>decide (E.I F x<=y))=true)=_
 simp_all
theorem Ei(h0:0<=E.I F i):E.I F (.fn 1 (.pr a i))=(aq F a).getD (E.I F i).toNat 0:=by
 exact(II _ _).symm▸rfl
theorem a5O(h:E.I F (.fn 0 a)<=E.I F j)(hi:E.I F i=0):E.B F (.fn 194 (.pr a (.pr x (.pr i j))))=true:=by
 rw[Lw,hi]
 grind[br,List.drop_eq_nil_of_le]
theorem Tu{l:List Int}(h:sn l=true){i j:Nat}(hij:i<=j)(hj:j<l.length):l.getD i 0<=l.getD j 0:=by
 by_cases e:i=j
 ·simp_all
 ·have:=List.pairwise_iff_getElem.1 (akM h) i j (by omega) hj (by omega)
  grind
theorem aZH{l:List Int}{n:Nat}{y:Int}(h:y∈l.take n):∃i,i<n/\i<l.length/\l.getD i 0=y:=by
 obtain⟨i,hi,e⟩:=List.mem_iff_getElem.1 h
 rw[List.length_take]at hi
 refine⟨i,by omega,by omega,?_⟩
 grind
theorem aZG{l:List Int}{n:Nat}{y:Int}(h:y∈l.drop n):∃i,n<=i/\i<l.length/\l.getD i 0=y:=by
 obtain⟨i,hi,e⟩:=List.mem_iff_getElem.1 h
 rw[List.length_drop]at hi
 refine⟨n+i,by omega,by omega,?_⟩
 grind
/-- to the right, to the left -/
theorem a5N(hs:E.B F (.fn 193 a)=true)(h:E.B F (.fn 194 (.pr a (.pr x (.pr i j))))=true)(m0:0<=E.I F m)(ml:E.I F m<E.I F (.fn 0 a))(hv:E.I F (.fn 1 (.pr a m))<E.I F x)(hk:E.I F k=E.I F m+1):E.B F (.fn 194 (.pr a (.pr x (.pr k j))))=true:=by
  rw[Lw]at h ⊢
  rw[Lv]at hs
  have e:=br (F:=F) (l:=a)
  rw[Ei m0]at hv
  refine⟨fun y hy=>?_,h.2⟩
  obtain⟨q,h1,h2,rfl⟩:=aZH hy
  have:=Tu hs (i:=q) (j:=(E.I F m).toNat) (by omega) (by omega)
  omega
theorem a5M(hs:E.B F (.fn 193 a)=true)(h:E.B F (.fn 194 (.pr a (.pr x (.pr i j))))=true)(m0:0<=E.I F m)(ml:E.I F m<E.I F (.fn 0 a))(hv:¬E.I F (.fn 1 (.pr a m))<E.I F x):E.B F (.fn 194 (.pr a (.pr x (.pr i m))))=true:=by
 rw[Lw]at h ⊢
 rw[Lv]at hs
 rw[Ei m0]at hv
 refine⟨h.1,fun y hy=>?_⟩
 obtain⟨q,h1,h2,rfl⟩:=aZG hy
 have:=Tu hs (i:=(E.I F m).toNat) (j:=q) h1 h2
 omega
theorem DY:(E.B F (.fn 114 (.pr a x))=true)=((aq F a).contains (E.I F x)=true):=rfl
theorem a5P(h0:0<=E.I F i)(h1:E.I F i<E.I F (.fn 0 a))(hv:E.I F (.fn 1 (.pr a i))=E.I F x):E.B F (.fn 114 (.pr a x))=true:=by
 rw[DY,List.contains_eq_mem,decide_eq_true_eq,<- hv,Ei h0]
 simp_all[br]
theorem apZ(hs:E.B F (.fn 193 a)=true)(h:E.B F (.fn 194 (.pr a (.pr x (.pr i j))))=true)(h0:0<=E.I F i)(hij:E.I F j<=E.I F i)(hv:E.I F i<E.I F (.fn 0 a)->¬E.I F (.fn 1 (.pr a i))=E.I F x):¬E.B F (.fn 114 (.pr a x))=true:=by
 rw[Lw]at h
 rw[Lv]at hs
 rw[DY,List.contains_eq_mem,decide_eq_true_eq]
 have e:=br (F:=F) (l:=a);intro hm
 obtain⟨q,hq,e2⟩:=List.mem_iff_getElem.1 hm
 have e3:(aq F a).getD q 0=E.I F x:=by simp_all
 by_cases hc:q<(E.I F i).toNat
 ·have:=h.1 (E.I F x) (by
   rw[<- e2];exact List.mem_take_iff_getElem.2 ⟨q,by omega,rfl⟩)
  omega
 ·have hi:E.I F i<E.I F (.fn 0 a):=by omega
  have hne:=hv hi
  rw[Ei h0]at hne
  have h2:=h.2 ((aq F a).getD (E.I F i).toNat 0) (by
   refine List.mem_drop_iff_getElem.2 ⟨(E.I F i).toNat-(E.I F j).toNat,by omega,?_⟩;grind)
  have h3:=Tu hs (i:=(E.I F i).toNat) (j:=q) (by omega) hq;omega
end
end Go.SX

set_option linter.unusedVariables false
set_option linter.unusedSimpArgs false
namespace Go.SX
theorem a6f(L:List Int)(l:List U):fg L 0 l=l:=by
 refine List.ext_getElem (sC _ _ _) fun j h1 h2=>?_
 have:=La L 0 l j (.int 0)
 simp_all
theorem zr(L:List Int)(n:Nat)(l:List U){j:Nat}(h:j<l.length)(h':j<(fg L n l).length):(fg L n l)[j]=if j%12==9&&decide (j/12<n)&&L.contains (l.getD (j/12*12) (.int 0)).toI then .bool true else l.getD j (.int 0):=by
 have:=La L n l j (.int 0)
 simp_all
theorem aqf(L:List Int)(l:List U)(i:Nat):fg L (i+1) l=if L.contains (nI l (i*12))then(fg L i l).set (i*12+9) (.bool true)else fg L i l:=by
 have hd:∀j,j≠i*12+9->(j%12==9&&decide (j/12<i+1))=(j%12==9&&decide (j/12<i)):=fun j hj=>by
  grind
 have f1:(i*12+9)%12=9:=by omega
 have f2:(i*12+9)/12=i:=by omega
 have f3:(l.getD (i*12) (.int 0)).toI=nI l (i*12):=rfl;by_cases hc:L.contains (nI l (i*12))=true
 ·rw[if_pos hc]
  refine List.ext_getElem (by simp[sC]) fun j h1 h2=>?_
  have hl:j<l.length:=by simp_all[sC]
  rw[zr _ _ _ hl,List.getElem_set]
  by_cases hj:j=i*12+9
  ·simp_all
  ·rw[if_neg (c:=i*12+9=j) (fun e=>hj e.symm),hd j hj,zr _ _ _ hl]
 ·rw[if_neg hc]
  grind[List.ext_getElem,sC,zr]
theorem aqb{Y Z X:U}{p:Nat}{m:List Int}(h:oT Y X p m=true)(e:∀j,0<j->j<38->cX Z j=cX Y j):oT Z X p m=true:=by
 unfold oT at h ⊢
 rw[List.all_eq_true]at h ⊢
 grind[iX]
section
variable {F:Env} {x y l A a b k u i j p q n m r o c d w v X Y T N L e t C z s q0 q1 q2 q3 c0 c1 c2 c3:E}
theorem D7:(E.B F (.fn 191 (.pr x (.pr l (.pr L n))))=true)=(U.eqs (E.L F x) (fg (aq F L) (E.I F n).toNat (E.L F l))=true):=rfl
theorem apY(h:E.B F (.fn 200 (.pr x l))=true)(hn:E.I F n<=0):E.B F (.fn 191 (.pr x (.pr l (.pr L n))))=true:=by
 rw[D7,show(E.I F n).toNat=0 by omega,a6f];exact h
theorem aqg(h:E.B F (.fn 191 (.pr x (.pr l (.pr L i))))=true)(h0:0<=E.I F i):E.I F (.fn 1 (.pr x (.fn 6 (.pr (.fn 8 (.pr i (.int 12))) (.int 0)))))=nI (E.L F l) ((E.I F i).toNat*12):=by
 rw[D7]at h
 have e:=ajo h ((E.I F i).toNat*12);have e1:E.I F (.fn 1 (.pr x (.fn 6 (.pr (.fn 8 (.pr i (.int 12))) (.int 0)))))=nI (E.L F x) ((E.I F i).toNat*12):=by
  show((E.L F x).getD (E.I F i*12+0).toNat _).toI=_
  rw[show(E.I F i*12+0).toNat=(E.I F i).toNat*12 by omega];rfl
 grind[nI,La]
theorem apX(h:E.B F (.fn 191 (.pr x (.pr l (.pr L i))))=true)(h0:0<=E.I F i)(hm:E.I F m=E.I F i+1)(hn:¬E.B F (.fn 114 (.pr L (.fn 1 (.pr x (.fn 6 (.pr (.fn 8 (.pr i (.int 12))) (.int 0)))))))=true):E.B F (.fn 191 (.pr x (.pr l (.pr L m))))=true:=by
 have hid:=aqg h h0
 rw[DY,hid]at hn
 rw[D7]at h ⊢
 rw[show(E.I F m).toNat=(E.I F i).toNat+1 by omega,aqf,if_neg hn];exact h
theorem a5K(h:E.B F (.fn 191 (.pr x (.pr l (.pr (.fn 10 a) i))))=true)(h0:0<=E.I F i)(hm:E.I F m=E.I F i+1):E.B F (.fn 191 (.pr x (.pr l (.pr (.fn 10 a) m))))=true:=
 apX h h0 hm (by rw[DY];show ¬([].contains _=true);simp)
theorem a5L(h:E.B F (.fn 191 (.pr x (.pr l (.pr L i))))=true)(h0:0<=E.I F i)(hm:E.I F m=E.I F i+1)(hn:E.B F (.fn 114 (.pr L (.fn 1 (.pr x (.fn 6 (.pr (.fn 8 (.pr i (.int 12))) (.int 0)))))))=true):
  E.B F (.fn 191 (.pr (.fn 2 (.pr x (.pr (.fn 6 (.pr (.fn 8 (.pr i (.int 12))) (.int 9))) (.bool true)))) (.pr l (.pr L m))))=true:=by
 have hid:=aqg h h0
 rw[DY,hid]at hn
 rw[D7]at h ⊢
 have e:E.L F (.fn 2 (.pr x (.pr (.fn 6 (.pr (.fn 8 (.pr i (.int 12))) (.int 9))) (.bool true))))=(E.L F x).set ((E.I F i).toNat*12+9) (.bool true):=by
  show(E.L F x).set (E.I F i*12+9).toNat (.bool _)=_
  grind
 rw[e,show(E.I F m).toNat=(E.I F i).toNat+1 by omega,aqf,if_pos hn]
 exact Io _ h (U.eq_rfl _)
theorem D8:(E.B F (.fn 199 (.pr Y (.pr L (.pr c0 (.pr c1 (.pr c2 (.pr c3 (.pr a (.pr C (.pr X (.pr p (.int 0))))))))))))=true)=(∃s,bN (dD F c0 c1 c2 c3) 4 (E.I F a).toNat (eK F C X p)=some s/\dk s.2.2=aq F L/\oT (Y.den F) (X.den F) (E.I F p).toNat s.1=true):=by
 show((bN (dD F c0 c1 c2 c3) 4 (E.I F a).toNat (eK F C X p)).any (fun s=>dk _==aq F L&&oT (Y.den F) (X.den F) (E.I F p).toNat _)=true)=_
 simp only[uF,Bool.and_eq_true,beq_iff_eq]
theorem UD:(E.B F (.fn 198 (.pr Y (.pr c0 (.pr c1 (.pr c2 (.pr c3 (.pr a (.pr C (.pr X (.pr p (.int 0)))))))))))=true)=(∃s,bN (dD F c0 c1 c2 c3) 4 (E.I F a).toNat (eK F C X p)=some s/\oH (Y.den F) (X.den F) (E.I F p).toNat (dk s.2.2) s.1=true):=by
 show((bN (dD F c0 c1 c2 c3) 4 (E.I F a).toNat (eK F C X p)).any (fun s=>oH (Y.den F) (X.den F) (E.I F p).toNat _ _)=true)=_
 simp only[uF]
theorem aqI:(E.B F (.fn 196 (.pr Y X))=true)=(Kk (Y.den F) (X.den F)=true):=rfl
/-- a row of a board but for its first cell -/
noncomputable def fW(Y c:E):E:=dt (c ::(List.range 37).map fun j=> .fn 1 (.pr Y (.int (Int.ofNat (j+1)))))
theorem S9(j:Nat)(h0:0<j)(h:j<38):cX ((fW Y c).den F) j=cX (Y.den F) j:=by
 obtain⟨k,rfl⟩:∃k,j=k+1:=⟨j-1,by omega⟩
 have:cX ((fW Y c).den F) _=(((c::(List.range 37).map _).getD _ _).den F):=lO _ (k+1) (by simp_all)
 rw[this,List.getD_eq_getElem?_getD,List.getElem?_cons_succ,List.getElem?_map,List.getElem?_range (by omega)]
 rfl
theorem aoV(h:E.B F (.fn 199 (.pr Y (.pr L (.pr c0 (.pr c1 (.pr c2 (.pr c3 (.pr a (.pr C (.pr X (.pr p (.int 0))))))))))))=true)(hX:E.B F (.fn 116 X)=true)(hp:E.B F (.fn 145 (.pr X p))=true):E.B F (.fn 116 (fW Y (.fn 28 (.pr z x))))=true:=by
 rw[D8]at h
 obtain⟨s,e,eL,ht⟩:=h
 rw[dX]at hp
 rw[qF]at hX ⊢
 have hc:=fun j (h0:0<j) (h:j<38)=>S9 (F:=F) (Y:=Y) (c:=.fn 28 (.pr z x)) j h0 h
 unfold oT at ht
 rw[List.all_eq_true]at ht
 have hit:∀j,j=29\/j=30->eN (cX (Y.den F) j)=true/\gV (cX (Y.den F) j).toL=true:=fun j hj=>by
  grind
 refine⟨rfl,fun j hj=>?_,by simp_all,by simp_all⟩
 have hj':j=0\/(0<j/\j<38/\¬(2<=j/\j<6)/\¬(16<=j/\j<20)):=by
  simp only[List.mem_cons,List.not_mem_nil,or_false]at hj;omega
 rcases hj' with rfl|⟨h0,h1,h2,h3⟩
 ·rfl
 ·rw[hc j h0 h1]
  by_cases h29:j=29\/j=30
  ·grind
  ·have:=ht j (List.mem_range.2 h1)
   have hpp:(E.I F p).toNat=0\/(E.I F p).toNat=1:=by omega
   rw[if_neg (by grind),if_neg (by simp_all),if_neg (by grind)]at this
   grind[Tp]
end
end Go.SX

set_option linter.unusedVariables false
set_option linter.unusedSimpArgs false
namespace Go.SX
/-! what comes in has the shape -/
theorem aqo{u:U}{ks:List U}(h:U.typ u (.lst ks)=true):eN u=true:=by
 obtain⟨a,n,c,l,rfl⟩:=aqn h;rfl
theorem aqq{a b c d e:U}:∀(n:Nat)(l:List U),U.typs l [a,b,c,d,e] []=true->n*5+4<l.length->U.typ (l.getD (n*5+4) (.int 0)) e=true
 |0,l,h,hl=>by
  match l,hl with
  |x0::x1::x2::x3::x4::l',_=>simp_all[U.typs]
 |n+1,l,h,hl=>by
  match l,hl with
  |x0::x1::x2::x3::x4::l',hl=>
   have h':U.typs l' [a,b,c,d,e] []=true:=by simp_all[U.typs]
   have:=aqq n l' h' (by grind)
   rw[show(n+1)*5+4=(n*5+4)+5 by omega]
   exact this
theorem aYS{l:List U}(h:U.typs l I1 []=true):gV l=true:=by
 unfold gV
 rw[List.all_eq_true]
 intro i hi;have hi:=List.mem_range.1 hi;by_cases h5:i%5=4
 ·have e:i=i/5*5+4:=by omega
  have:=aqq (i/5) l h (by omega)
  rw[<- e]at this
  rw[aqo this,Bool.or_true]
 simp_all
theorem aWC{us:List U}(h:us.length=38)(t:U.typs us qo []=true):xD (.lst us)=true:=by
 have key:∀j,j<38->U.typ _ (qo.getD j _)=true:=fun j hj=>a6q t (by rw[h];decide) (by omega)
 have it:∀j,j<38->qo.getD j _=.lst I1->gV (us.getD j _).toL=true:=fun j hj hk=>by
  have:=key j hj
  rw[hk]at this
  obtain⟨a,n,c,l,e⟩:=aqn this
  rw[e]at this ⊢
  exact aYS (l:=l) (by simp_all[U.typ])
 have sh:∀j,j<38->(match qo.getD j (.int 0)with | .lst _=>true | _=>false)=true->eN (us.getD j (.int 0))=true:=fun j hj hk=>by
  grind[aqo]
 unfold xD
 rw[Bool.and_eq_true,Bool.and_eq_true,Bool.and_eq_true,List.all_eq_true,beq_iff_eq]
 refine⟨⟨h,fun j hj=>?_⟩,it 29 (by omega) rfl,it 30 (by omega) rfl⟩
 have hj':j<38:=by simp only[List.mem_cons,List.not_mem_nil,or_false]at hj;omega
 refine sh j hj' ?_;simp only[List.mem_cons,List.not_mem_nil,or_false]at hj;rcases hj with rfl|rfl|rfl|rfl|rfl|rfl|rfl|rfl|rfl|rfl|rfl|rfl|rfl<;>rfl
/-- cells of a board that are the same but for the objects -/
def mN(F:Env)(X:U):List E->Nat->Prop
  |[],_=>True
  |c ::cs,j=>(if j==0 then true else if j==29||j==30 then g9 (E.L F c) (cX X j).toL&&(eN (c.den F)&&gV (E.L F c))else U.eq (c.den F) (cX X j))=true/\mN F X cs (j+1)
theorem aiN{F:Env}{X:U}:∀(cs:List E)(j:Nat),mN F X cs j->∀i,i<cs.length->(if j+i==0 then true else if j+i==29||j+i==30 then g9 (E.L F (cs.getD i (.int 0))) (cX X (j+i)).toL&&(eN ((cs.getD i (.int 0)).den F)&&gV (E.L F (cs.getD i (.int 0))))else U.eq ((cs.getD i (.int 0)).den F) (cX X (j+i)))=true
 |[],_,_,i,hi=>by simp at hi
 |c::cs,j,h,0,_=>h.1
 |c::cs,j,h,i+1,hi=>by
  have:=aiN cs _ h.2 i (by simp_all)
  grind
section
variable {F:Env} {x y l A a b k u i j p q n m r o c d w v X Y T N L e t C z s q0 q1 q2 q3 c0 c1 c2 c3 m0 m1 m2 m3 d0 d1 d2 d3:E}
theorem a5R{cs:List E}(hl:cs.length=38)(h:mN F (X.den F) cs 0):E.B F (.fn 196 (.pr (dt cs) X))=true:=by
 rw[aqI]
 unfold Kk
 rw[List.all_eq_true]
 intro j hj;have hj:=List.mem_range.1 hj;have g:=aiN cs 0 h j (by omega)
 rw[Nat.zero_add]at g
 have e:cX _ j=(cs.getD j _).den F:=lO cs j (by omega)
 rw[e];exact g
theorem aXH{cs:List E}(h:mN F (X.den F) cs 1):mN F (X.den F) (c::cs) 0:=⟨rfl,h⟩
theorem eE(j:Nat)(h0:(j==0)=false)(hj:(j==29||j==30)=false){cs:List E}(h:mN F (X.den F) cs (j+1)):mN F (X.den F) (.fn 1 (.pr X (.int (Int.ofNat j)))::cs) j:=by
 refine⟨?_,h⟩
 rw[h0,hj];exact U.eq_rfl _
theorem ol(j:Nat)(h0:(j==0)=false)(hj:(j==29||j==30)=false)(hm:j∈[0,6,7,8,9,20,21,22,23,29,30,31,32])(ht:E.B F (.fn 116 X)=true)(h1:E.B F (.fn 200 (.pr c (.fn 1 (.pr X (.int (Int.ofNat j))))))=true)(h2:E.B F (.fn 201 c)=true)
  {cs:List E}(h:mN F (X.den F) cs (j+1)):mN F (X.den F) (c::cs) j:=by
 refine⟨?_,h⟩
 rw[h0,hj]
 rw[qF]at ht
 exact Cx h1 h2 (ht.2.1 j hm)
theorem ai1(j:Nat)(h0:(j==0)=false)(hj:(j==29||j==30)=true)(h1:E.B F (.fn 187 (.pr c (.fn 1 (.pr X (.int (Int.ofNat j))))))=true)(h2:E.B F (.fn 195 c)=true){cs:List E}(h:mN F (X.den F) cs (j+1)):mN F (X.den F) (c::cs) j:=by
 refine⟨?_,h⟩
 rw[h0,hj]
 show(g9 _ _&&(eN _&&gV _))=true
 rw[Bool.and_eq_true]
 exact⟨h1,h2⟩
/-- a board with a player's pool -/
noncomputable def yT(P:Nat)(Y m0 m1 m2 m3:E):E:=dt ((List.range 38).map fun j=>if j=2+14*P then m0 else if j=3+14*P then m1 else if j=4+14*P then m2 else if j=5+14*P then m3 else .fn 1 (.pr Y (.int (Int.ofNat j))))
theorem a0M(P j:Nat)(h:j<38):cX ((yT P Y m0 m1 m2 m3).den F) j=(if j=2+14*P then m0 else if j=3+14*P then m1 else if j=4+14*P then m2 else if j=5+14*P then m3 else E.fn 1 (.pr Y (.int (Int.ofNat j)))).den F:=by
 have:=lO (F:=F) ((List.range 38).map fun j=>if j=2+14*P then m0 else if j=3+14*P then m1 else if j=4+14*P then m2 else if j=5+14*P then m3 else E.fn 1 (.pr Y (.int (Int.ofNat j)))) j (by simp_all)
 refine Eq.trans this ?_;simp_all
theorem KU(P:Nat)(hP:P<=1)(h:E.B F (.fn 196 (.pr Y X))=true)(h2:E.B F (.fn 183 (.pr m0 (.pr m1 (.pr m2 (.pr m3 (.pr L (.pr c0 (.pr c1 (.pr c2 (.pr c3 (.pr a (.pr C (.pr X (.pr p (.int 0)))))))))))))))=true)(hp:E.I F p=P):
  E.B F (.fn 199 (.pr (yT P Y m0 m1 m2 m3) (.pr L (.pr c0 (.pr c1 (.pr c2 (.pr c3 (.pr a (.pr C (.pr X (.pr p (.int 0))))))))))))=true:=by
 rw[Lu,uF]at h2
 obtain⟨s,e,hs⟩:=h2
 rw[Bool.and_eq_true,beq_iff_eq,beq_iff_eq]at hs
 rw[D8]
 refine⟨s,e,hs.2,?_⟩
 rw[aqI]at h
 unfold Kk at h;unfold oT
 rw[List.all_eq_true]at h ⊢
 intro j hj;have g:=h j hj;have hj:=List.mem_range.1 hj;have ep:(E.I F p).toNat=P:=by omega
 rw[ep]
 unfold iX
 rw[a0M P j hj,hs.1]
 by_cases hb:2+14*P<=j/\j<6+14*P
 ·rw[if_neg (by grind),if_neg (by grind),if_pos (by simp_all)]
  have:j=2+14*P\/j=3+14*P\/j=4+14*P\/j=5+14*P:=by omega
  rcases this with rfl|rfl|rfl|rfl
  ·rw[if_pos rfl,show 2+14*P-(2+14*P)=0 by omega];exact beq_self_eq_true _
  ·rw[if_neg (by omega),if_pos rfl,show 3+14*P-(2+14*P)=1 by omega];exact beq_self_eq_true _
  ·rw[if_neg (by omega),if_neg (by omega),if_pos rfl,show 4+14*P-(2+14*P)=2 by omega];exact beq_self_eq_true _
  ·rw[if_neg (by omega),if_neg (by omega),if_neg (by omega),if_pos rfl,show 5+14*P-(2+14*P)=3 by omega];exact beq_self_eq_true _
 ·rw[if_neg (c:=j=2+14*P) (by omega),if_neg (c:=j=3+14*P) (by omega),if_neg (c:=j=4+14*P) (by omega),if_neg (c:=j=5+14*P) (by omega)]
  rw[if_neg (c:=(decide _&&decide _)=true) (by simp_all)]
  exact g
theorem a6C{x:Int}(h0:0<=x)(h1:x<=1000000):IntKind.i64.wrap x=x/\IntKind.u64.wrap x=x:=by
 constructor
 ·obtain⟨s,e,_,r⟩:=ae x
  omega
 ·simp only[IntKind.wrap,IntKind.bits,IntKind.signed,Bool.false_and,Bool.false_eq_true,if_false];omega
theorem lk(h0:0<=E.I F i)(h1:0<=E.I F j)(h2:E.I F i<=1000)(h3:E.I F j<=1000):E.I F (.wr .i64 (.ar .shr .u64 (.wr .u64 (.ar .add .i64 i j)) (.int 1)))=(E.I F i+E.I F j)/2:=by
 have e:E.I F (.wr _ (.ar .shr .u64 (.wr .u64 (.ar .add _ i j)) (.int 1)))=IntKind.i64.wrap ((IntKind.u64.wrap (IntKind.i64.wrap (E.I F i+E.I F j))).fdiv (2^(min (1:Int).toNat 64))):=rfl;grind[a6C]
theorem fX:E.I F (.fn 9 (.pr a (.int 1)))=E.I F (.fn 0 a):=by
 show(E.L F a).length/1=((E.L F a).length:Int)
 omega
/-! the law -/
noncomputable def hv(F:Env)(C X p:E)(k:Nat):Int:=Rn k (eK F C X p)
noncomputable def tt(F:Env)(C X p:E):Int:=ah (eK F C X p)
noncomputable def ns(F:Env)(C X p:E):Int:=(((eK F C X p).2.1.length/2:Nat):Int)
end
end Go.SX

set_option linter.unusedVariables false
set_option linter.unusedSectionVars false
namespace Go.SX
/-! ### targets stay Iu -/
section
variable {F:Env} {l i n v c x:E}
theorem am8(h:0<=E.I F i)(k:Nat):(E.I F (.fn 6 (.pr (.fn 8 (.pr i (.int 5))) (.int k)))).toNat=(E.I F i).toNat*5+k:=by
 show(E.I F i*5+k).toNat=_
 omega
theorem ajG(h0:0<=E.I F i)(h:E.B F (.fn 158 (.pr l n))=true):E.B F (.fn 158 (.pr (.fn 2 (.pr l (.pr (.fn 6 (.pr (.fn 8 (.pr i (.int 5))) (.int 2))) v))) n))=true:=by
 have h:eO (E.L F l) (E.I F n).toNat=true:=h;show eO ((E.L F l).set (E.I F (.fn 6 (.pr _ (.int (2:Nat))))).toNat _) (E.I F n).toNat=true
 rw[am8 h0]
 simp only[eO]at h ⊢;grind
def Ue(l i x:E):E:=.fn 2 (.pr l (.pr (.fn 6 (.pr (.fn 8 (.pr i (.int 5))) (.int 4))) (.fn 21 (.pr (.fn 1 (.pr l (.fn 6 (.pr (.fn 8 (.pr i (.int 5))) (.int 4))))) x))))
theorem aqh(h0:0<=E.I F i)(k:Nat):(((E.L F (Ue l i (.fn 2 (.pr (.fn 1 (.pr l (.fn 6 (.pr (.fn 8 (.pr i (.int 5))) (.int 4))))) x)))).getD k (.int 0)).toL.length=((E.L F l).getD k (.int 0)).toL.length):=by
 show((((E.L F l).set (E.I F _).toNat (U.bx _ _ _ ((((E.L F l).getD (E.I F _).toNat _).toL).set _ _))).getD k _).toL.length)=_
 grind[U.toL]
theorem ajH(h0:0<=E.I F i)(h:E.B F (.fn 158 (.pr l n))=true):E.B F (.fn 158 (.pr (Ue l i (.fn 2 (.pr (.fn 1 (.pr l (.fn 6 (.pr (.fn 8 (.pr i (.int 5))) (.int 4))))) x))) n))=true:=by
 have h:eO (E.L F l) (E.I F n).toNat=true:=h;show eO (E.L F _) (E.I F n).toNat=true;simp only[eO]at h ⊢;grind[aqh]
theorem xX(h0:0<=E.I F i):E.I F (.fn 9 (.pr (.fn 1 (.pr (Ue l i (.fn 2 (.pr (.fn 1 (.pr l (.fn 6 (.pr (.fn 8 (.pr i (.int 5))) (.int 4))))) x))) (.fn 6 (.pr (.fn 8 (.pr i (.int 5))) (.int 4))))) (.int 2)))=E.I F (.fn 9 (.pr (.fn 1 (.pr l (.fn 6 (.pr (.fn 8 (.pr i (.int 5))) (.int 4))))) (.int 2))):=by
 show(((E.L F _).getD _ _).toL.length/2)=(((E.L F l).getD _ _).toL.length/2:Int)
 rw[aqh h0];rfl
theorem Iv(h0:0<=E.I F i)(h1:E.I F i<E.I F n)(h:E.B F (.fn 158 (.pr l n))=true):E.I F (.fn 9 (.pr (.fn 1 (.pr l (.fn 6 (.pr (.fn 8 (.pr i (.int 5))) (.int 4))))) (.int 2)))<=6:=by
 have h:eO (E.L F l) (E.I F n).toNat=true:=h;simp only[eO]at h;have e:=am8 h0 4
 show(((E.L F l).getD (E.I F _).toNat _).toL.length/2:Int)<=6
 grind
end
end Go.SX

set_option linter.unusedVariables false
set_option linter.unusedSectionVars false
namespace Go.SX
/-! ### the paid board's numbers and objects (218, 219) -/
section
variable {F:Env} {x y l A a b k u i j p q n m r o c d w v X Y T N L e t C z c0 c1 c2 c3 m0 m1 m2 m3:E}
theorem Ly:(E.B F (.fn 218 (.pr Y (.pr L (.pr c0 (.pr c1 (.pr c2 (.pr c3 (.pr a (.pr C (.pr X (.pr p (.int 0))))))))))))=true)=(∃s,bN (dD F c0 c1 c2 c3) 4 (E.I F a).toNat (eK F C X p)=some s/\dk s.2.2=aq F L/\qD (Y.den F) (X.den F) (E.I F p).toNat s.1=true):=by
 show((bN (dD F c0 c1 c2 c3) 4 (E.I F a).toNat (eK F C X p)).any (fun s=>dk _==aq F L&&qD (Y.den F) (X.den F) (E.I F p).toNat _)=true)=_
 simp only[uF,Bool.and_eq_true,beq_iff_eq]
theorem aqJ:(E.B F (.fn 219 (.pr Y (.pr o (.pr c0 (.pr c1 (.pr c2 (.pr c3 (.pr a (.pr C (.pr X (.pr p (.int 0))))))))))))=true)=(∃s,bN (dD F c0 c1 c2 c3) 4 (E.I F a).toNat (eK F C X p)=some s/\U.eqs (E.L F o) (fg (dk s.2.2) (aJ (X.den F)) (cX (X.den F) 0).toL)=true/\qD (Y.den F) (X.den F) (E.I F p).toNat s.1=true):=by
 show((bN (dD F c0 c1 c2 c3) 4 (E.I F a).toNat (eK F C X p)).any (fun s=>U.eqs (E.L F o) (fg _ (aJ (X.den F)) (cX (X.den F) 0).toL)&&qD (Y.den F) (X.den F) (E.I F p).toNat _)=true)=_
 simp only[uF,Bool.and_eq_true]
theorem a5V(h:E.B F (.fn 218 (.pr Y (.pr L (.pr c0 (.pr c1 (.pr c2 (.pr c3 (.pr a (.pr C (.pr X (.pr p (.int 0))))))))))))=true):E.B F (.fn 193 L)=true:=by
 grind[Ly,Lv,aov,Kt]
theorem ap2(h:E.B F (.fn 218 (.pr Y (.pr L (.pr c0 (.pr c1 (.pr c2 (.pr c3 (.pr a (.pr C (.pr X (.pr p (.int 0))))))))))))=true)(h1:E.B F (.fn 145 (.pr X p))=true)(h2:E.B F (.fn 146 (.pr c0 (.pr c1 (.pr c2 (.pr c3 a)))))=true):
  E.B F (.fn 182 (.pr c0 (.pr c1 (.pr c2 (.pr c3 (.pr a (.pr C (.pr X (.pr p (.int 0))))))))))=true:=by
 rw[Ly]at h
 obtain⟨s,e,_⟩:=h
 simp_all[sK,o8]
theorem ap3(h:E.B F (.fn 218 (.pr Y (.pr L (.pr c0 (.pr c1 (.pr c2 (.pr c3 (.pr a (.pr C (.pr X (.pr p (.int 0))))))))))))=true)(hx:E.B F (.fn 191 (.pr x (.pr (.fn 1 (.pr X (.int 0))) (.pr L i))))=true)
  (hi:E.I F i=E.I F (.fn 9 (.pr (.fn 1 (.pr X (.int 0))) (.int 12)))):E.B F (.fn 219 (.pr Y (.pr x (.pr c0 (.pr c1 (.pr c2 (.pr c3 (.pr a (.pr C (.pr X (.pr p (.int 0))))))))))))=true:=by
 rw[Ly]at h
 obtain⟨s,e,eL,ht⟩:=h
 rw[aqJ]
 rw[D7]at hx
 have e9:E.I F (.fn 9 (.pr (.fn 1 (.pr X (.int 0))) (.int 12)))=aJ _:=rfl
 rw[hi,e9]at hx
 refine⟨s,e,?_,ht⟩
 rw[eL];exact hx
/-- a board's numbers with a player's pool -/
noncomputable def yD(P:Nat)(X m0 m1 m2 m3:E):E:=dt (gy.map fun j=>if j=2+14*P then m0 else if j=3+14*P then m1 else if j=4+14*P then m2 else if j=5+14*P then m3 else .fn 1 (.pr X (.int (Int.ofNat j))))
theorem aZ9(P k:Nat)(h:k<25):cX ((yD P X m0 m1 m2 m3).den F) k=(let j:=gy.getD k 0;if j=2+14*P then m0 else if j=3+14*P then m1 else if j=4+14*P then m2 else if j=5+14*P then m3 else E.fn 1 (.pr X (.int (Int.ofNat j)))).den F:=by
 have hl:gy.length=25:=rfl
 have:=lO (F:=F) (gy.map fun j=>if j=2+14*P then m0 else if j=3+14*P then m1 else if j=4+14*P then m2 else if j=5+14*P then m3 else E.fn 1 (.pr X (.int (Int.ofNat j)))) k (by simp_all)
 refine Eq.trans this ?_;simp_all
theorem KV(P:Nat)(hP:P<=1)(h2:E.B F (.fn 183 (.pr m0 (.pr m1 (.pr m2 (.pr m3 (.pr L (.pr c0 (.pr c1 (.pr c2 (.pr c3 (.pr a (.pr C (.pr X (.pr p (.int 0)))))))))))))))=true)(hp:E.I F p=P):
  E.B F (.fn 218 (.pr (yD P X m0 m1 m2 m3) (.pr L (.pr c0 (.pr c1 (.pr c2 (.pr c3 (.pr a (.pr C (.pr X (.pr p (.int 0))))))))))))=true:=by
 rw[Lu,uF]at h2
 obtain⟨s,e,hs⟩:=h2
 rw[Bool.and_eq_true,beq_iff_eq,beq_iff_eq]at hs
 rw[Ly]
 refine⟨s,e,hs.2,?_⟩
 unfold qD
 rw[List.all_eq_true]
 intro k hk;have hk:=List.mem_range.1 hk;have ep:(E.I F p).toNat=P:=by omega
 rw[ep]
 unfold iX
 rw[aZ9 P k hk,hs.1]
 generalize gy.getD k 0=j;by_cases hb:2+14*P<=j/\j<6+14*P
 ·rw[if_pos (by simp_all)]
  have:j=2+14*P\/j=3+14*P\/j=4+14*P\/j=5+14*P:=by omega
  rcases this with rfl|rfl|rfl|rfl
  ·simp only[Nat.sub_self];exact beq_self_eq_true _
  ·rw[if_neg (by omega),if_pos rfl,show 3+14*P-(2+14*P)=1 by omega];exact beq_self_eq_true _
  ·rw[if_neg (by omega),if_neg (by omega),if_pos rfl,show 4+14*P-(2+14*P)=2 by omega];exact beq_self_eq_true _
  ·rw[if_neg (by omega),if_neg (by omega),if_neg (by omega),if_pos rfl,show 5+14*P-(2+14*P)=3 by omega];exact beq_self_eq_true _
 ·rw[if_neg (c:=j=2+14*P) (by omega),if_neg (c:=j=3+14*P) (by omega),if_neg (c:=j=4+14*P) (by omega),if_neg (c:=j=5+14*P) (by omega)]
  rw[if_neg (c:=(decide _&&decide _)=true) (by simp_all)]
  exact U.eq_rfl _
end
end Go.SX

set_option linter.unusedVariables false
set_option linter.unusedSectionVars false
namespace Go.SX
/-! ### what is tapped are objects -/
def Sp(Q:Int->Prop)(s:Pu):Prop:=s.2.1.length%2=0/\(∀a∈bw s.2.1,Q a)/\∀a∈s.2.2,Q a
theorem a0c{Q:Int->Prop}{c:List Int}{n:Nat}{s t:Pu}(h:Sp Q s)(e:bN c 4 n s=some t):Sp Q t:=
 aYL (Q:=Sp Q) (fun b s h=>h) (fun i s hi h=>by
  obtain⟨h1,h2,h3⟩:=h
  have hl:=(aqd hi).1;have ee:bw (jx i s).2.1=(bw _).take i++(bw _).drop _:=Cz _ _ h1;have eg:=ajw _ _ hi
  refine⟨by omega,fun a ha=>?_,fun a ha=>?_⟩
  ·grind
  ·have ha:a∈s.2.2++[s.2.1.getD _ 0]:=ha;all_goals grind[rH]) h e
theorem a6g{l:List U}{X:U}{p:Int}{c:List Int}{n:Nat}{s:Pu}(h:jU X p=true)(e:bN c 4 n (sf l X p)=some s):∀a∈dk s.2.2,0<=cO X a (aJ X):=by
 have ok:=amZ (l:=l) h (Nat.le_refl _)
 have:=a0c (Q:=fun a=>0<=cO X a _) ⟨ok.1,fun a ha=>(ok.2.2.2.1 a ha).2,fun a ha=>by cases ha⟩ e
 intro a ha;refine this.2.2 a ?_;have hh:=a1u a s.2.2;simp_all
/-! ### objects are tapped one by one -/
theorem a6d(n:Nat)(l:List U):fg [] n l=l:=by
 grind[List.ext_getElem,sC,zr]
theorem a6e{X:U}(hp:du X=true)(K:List Int){a:Int}(h:0<=cO X a (aJ X)):fg (K++[a]) (aJ X) (cX X 0).toL=(fg K (aJ X) (cX X 0).toL).set ((cO X a (aJ X)).toNat*12+9) (.bool true):=by
 obtain⟨h1,h2⟩:=CT h
 generalize (cO X a _).toNat=j0 at h1 h2;refine List.ext_getElem (by simp[sC]) fun j g1 g2=>?_
 have hl:j<(cX X 0).toL.length:=by simp_all[sC]
 rw[zr _ _ _ hl,List.getElem_set]
 have ev:∀i,((cX X 0).toL.getD (i*12) _).toI=oI X i 0:=fun i=>rfl
 by_cases hj:j=j0*12+9
 ·grind
 ·rw[if_neg (c:=j0*12+9=j) (fun e=>hj e.symm),zr _ _ _ hl]
  have:(j%12==9&&decide (j/12<aJ X)&&(K++[a]).contains ((cX X 0).toL.getD (j/12*12) (.int 0)).toI)=(j%12==9&&decide (j/12<aJ X)&&K.contains ((cX X 0).toL.getD (j/12*12) (.int 0)).toI):=by
   rw[ev]
   by_cases hc:j%12=9/\j/12<aJ X
   ·have hne:oI X (j/12) 0≠a:=fun e=>hj (by have:=Rr (Rs hp) hc.2 h1 (by omega);omega)
    simp[hne]
   grind
  rw[this]
section
variable {F:Env} {x y l A a b k u i j p q n m r o c d w v X Y T N L e t C z J c0 c1 c2 c3 m0 m1 m2 m3:E}
theorem a5Q(h:E.B F (.fn 187 (.pr (.fn 28 (.pr z x)) b))=true)(g:E.B F (.fn 190 b)=true):E.B F (.fn 195 (.fn 28 (.pr z x)))=true:=by
 have h:g9 (E.L F x) (E.L F b)=true:=h;show E.B F (.fn 190 x)=true
 rw[D6]at g ⊢
 rw[kZ]at h
 intro i hi h5;have hq:=qe i h.2;grind[Tp]
theorem UE:(E.B F (.fn 220 (.pr x (.pr l (.pr L i))))=true)=(U.eqs (E.L F x) (fg ((aq F L).take (E.I F i).toNat) ((E.L F l).length/12) (E.L F l))=true):=rfl
theorem ap6(h:E.B F (.fn 200 (.pr x l))=true)(hn:E.I F i<=0):E.B F (.fn 220 (.pr x (.pr l (.pr L i))))=true:=by
 rw[UE,show(E.I F i).toNat=0 by omega,List.take_zero,a6d];exact h
theorem am9(h:E.B F (.fn 199 (.pr Y (.pr L (.pr c0 (.pr c1 (.pr c2 (.pr c3 (.pr a (.pr C (.pr X (.pr p (.int 0))))))))))))=true)(hx:E.B F (.fn 220 (.pr x (.pr (.fn 1 (.pr X (.int 0))) (.pr L i))))=true):
  ∃m,oH ((fW Y (.fn 28 (.pr z x))).den F) (X.den F) (E.I F p).toNat ((aq F L).take (E.I F i).toNat) m=true:=by
 rw[D8]at h
 obtain⟨s,e,eL,ht⟩:=h
 refine⟨s.1,?_⟩
 unfold oH
 rw[Bool.and_eq_true]
 exact⟨hx,aqb ht fun j h0 h1=>S9 j h0 h1⟩
theorem aoW(h:E.B F (.fn 199 (.pr Y (.pr L (.pr c0 (.pr c1 (.pr c2 (.pr c3 (.pr a (.pr C (.pr X (.pr p (.int 0))))))))))))=true)(hx:E.B F (.fn 220 (.pr x (.pr (.fn 1 (.pr X (.int 0))) (.pr L i))))=true)
  (hX:E.B F (.fn 116 X)=true)(hs:E.B F (.fn 117 X)=true)(hp:E.B F (.fn 145 (.pr X p))=true):E.B F (.fn 117 (fW Y (.fn 28 (.pr z x))))=true:=by
 obtain⟨m,hm⟩:=am9 (z:=z) h hx
 rw[dX]at hp
 rw[qF]at hX
 exact a0B hm rfl hX.1 (by omega) hs
theorem aoX(h:E.B F (.fn 199 (.pr Y (.pr L (.pr c0 (.pr c1 (.pr c2 (.pr c3 (.pr a (.pr C (.pr X (.pr p (.int 0))))))))))))=true)(hx:E.B F (.fn 220 (.pr x (.pr (.fn 1 (.pr X (.int 0))) (.pr L i))))=true):
  E.I F (.fn 120 (.pr (fW Y (.fn 28 (.pr z x))) (.pr k (.fn 9 (.pr (.fn 1 (.pr (fW Y (.fn 28 (.pr z x))) (.int 0))) (.int 12))))))=cO (X.den F) (E.I F k) (aJ (X.den F)):=by
 obtain⟨m,hm⟩:=am9 (z:=z) h hx
 have e:=anb hm;have e9:(E.I F (.fn 9 (.pr (.fn 1 (.pr (fW Y (.fn 28 _)) (.int 0))) (.int 12)))).toNat=aJ ((fW Y (.fn 28 (.pr z x))).den F):=rfl;grind[qL,a0w]
/-- the next one's index -/
theorem ap4(h:E.B F (.fn 199 (.pr Y (.pr L (.pr c0 (.pr c1 (.pr c2 (.pr c3 (.pr a (.pr C (.pr X (.pr p (.int 0))))))))))))=true)(hp:E.B F (.fn 145 (.pr X p))=true)(h0:0<=E.I F i)(h1:E.I F i<E.I F (.fn 0 L)):
    0<=cO (X.den F) (E.I F (.fn 1 (.pr L i))) (aJ (X.den F)):=by
  rw[D8]at h
  obtain⟨s,e,eL,ht⟩:=h
  refine a6g hp e _ ?_;simp_all[fh,br]
theorem ap5(h:E.B F (.fn 199 (.pr Y (.pr L (.pr c0 (.pr c1 (.pr c2 (.pr c3 (.pr a (.pr C (.pr X (.pr p (.int 0))))))))))))=true)(hx:E.B F (.fn 220 (.pr x (.pr (.fn 1 (.pr X (.int 0))) (.pr L i))))=true)(hp:E.B F (.fn 145 (.pr X p))=true)(h0:0<=E.I F i)(h1:E.I F i<E.I F (.fn 0 L))
  (hJ:E.I F J=E.I F (.fn 120 (.pr (fW Y (.fn 28 (.pr z x))) (.pr (.fn 1 (.pr L i)) (.fn 9 (.pr (.fn 1 (.pr (fW Y (.fn 28 (.pr z x))) (.int 0))) (.int 12))))))):
  0<=E.I F J/\E.I F J<E.I F (.fn 9 (.pr (.fn 1 (.pr X (.int 0))) (.int 12))):=by
 have:=ap4 h hp h0 h1
 rw[hJ,aoX h hx]
 refine⟨this,?_⟩
 have hs:=(CT this).1;show _<(aJ (X.den F):Int);omega
theorem a5W(h:E.B F (.fn 199 (.pr Y (.pr L (.pr c0 (.pr c1 (.pr c2 (.pr c3 (.pr a (.pr C (.pr X (.pr p (.int 0))))))))))))=true)(hx:E.B F (.fn 220 (.pr x (.pr (.fn 1 (.pr X (.int 0))) (.pr L i))))=true)(hp:E.B F (.fn 145 (.pr X p))=true)
  (hJ:E.I F J=E.I F (.fn 120 (.pr (fW Y (.fn 28 (.pr z x))) (.pr (.fn 1 (.pr L i)) (.fn 9 (.pr (.fn 1 (.pr (fW Y (.fn 28 (.pr z x))) (.int 0))) (.int 12)))))))
  (h0:0<=E.I F i)(h1:E.I F i<E.I F (.fn 0 L))(hm:E.I F m=E.I F i+1):
  E.B F (.fn 220 (.pr (.fn 2 (.pr x (.pr (.fn 6 (.pr (.fn 8 (.pr J (.int 12))) (.int 9))) (.bool true)))) (.pr (.fn 1 (.pr X (.int 0))) (.pr L m))))=true:=by
 have hi:=ap4 h hp h0 h1
 rw[aoX h hx]at hJ
 rw[sJ]at hp
 have hx':=hx
 rw[UE]at hx' ⊢
 have e:E.L F (.fn 2 (.pr x (.pr (.fn 6 (.pr (.fn 8 (.pr J (.int 12))) (.int 9))) (.bool true))))=(E.L F x).set ((cO (X.den F) (E.I F (.fn 1 (.pr L i))) (aJ (X.den F))).toNat*12+9) (.bool true):=by
  show(E.L F x).set (E.I F J*12+9).toNat (.bool _)=_
  grind
 rw[<- br]at h1
 have et:(aq F L).take (E.I F m).toNat=(aq F L).take (E.I F i).toNat++[E.I F (.fn 1 (.pr L i))]:=by
  rw[show(E.I F m).toNat=(E.I F i).toNat+1 by omega,List.take_add_one,fh,List.getD_eq_getElem?_getD,List.getElem?_eq_getElem (by omega)]
  rfl
 have:=a6e (CH hp).1 ((aq F L).take (E.I F i).toNat) hi
 have en:(E.L F (.fn 1 (.pr X (.int 0)))).length/12=aJ (X.den F):=rfl;have el:E.L F (.fn 1 (.pr X (.int 0)))=(cX (X.den F) 0).toL:=rfl;simp_all[Io,U.eq_rfl]
theorem ap0(h:E.B F (.fn 199 (.pr Y (.pr L (.pr c0 (.pr c1 (.pr c2 (.pr c3 (.pr a (.pr C (.pr X (.pr p (.int 0))))))))))))=true)(hx:E.B F (.fn 220 (.pr x (.pr (.fn 1 (.pr X (.int 0))) (.pr L i))))=true)
  (hi:E.I F (.fn 0 L)<=E.I F i):E.B F (.fn 198 (.pr (fW Y (.fn 28 (.pr z x))) (.pr c0 (.pr c1 (.pr c2 (.pr c3 (.pr a (.pr C (.pr X (.pr p (.int 0)))))))))))=true:=by
 rw[D8]at h
 obtain⟨s,e,eL,ht⟩:=h
 rw[UD]
 refine⟨s,e,?_⟩
 rw[UE]at hx
 rw[<- br]at hi
 rw[List.take_of_length_le (by omega),<- eL]at hx
 unfold oH
 rw[Bool.and_eq_true]
 exact⟨hx,aqb ht fun j h0 h1=>S9 j h0 h1⟩
end
end Go.SX

set_option linter.unusedVariables false
set_option linter.unusedSectionVars false
namespace Go.SX
/-! ### an owned paid board against the reference's -/
theorem QD{a b c:List U}(h:U.eqs a b=true)(g:U.eqs b c=true):U.eqs a c=true:=
 U.eq_trans (.lst a) (.lst b) (.lst c) h g
theorem QC{a b:List U}(h:U.eqs a b=true):U.eqs b a=true:=U.eq_symm (.lst a) (.lst b) h
section
variable {F:Env} {x y l A a b k u i j p q n m r o c d w v X Y W R T N L e t C z c0 c1 c2 c3:E}
/-- both boards of one payment: the reference's W, the numbers Y and the objects o -/
def Eb(F:Env)(W Y o X p:E):Prop:=∃L m,oH (W.den F) (X.den F) (E.I F p).toNat L m=true/\U.eqs (E.L F o) (fg L (aJ (X.den F)) (cX (X.den F) 0).toL)=true/\qD (Y.den F) (X.den F) (E.I F p).toNat m=true
theorem aW4(h:E.B F (.fn 198 (.pr W (.pr c0 (.pr c1 (.pr c2 (.pr c3 (.pr a (.pr C (.pr X (.pr p (.int 0)))))))))))=true)(g:E.B F (.fn 219 (.pr Y (.pr o (.pr c0 (.pr c1 (.pr c2 (.pr c3 (.pr a (.pr C (.pr X (.pr p (.int 0))))))))))))=true):Eb F W Y o X p:=by
 rw[UD]at h
 rw[aqJ]at g
 obtain⟨s,e,hs⟩:=h
 obtain⟨s',e',h1,h2⟩:=g
 have:s=s':=by simp_all
 subst this
 exact⟨_,_,hs,h1,h2⟩
def uK(F:Env)(W:U):List E->Nat->Prop
 |[],_=>True
 |c::cs,j=>gD j (cX W j) (c.den F)=true/\uK F W cs (j+1)
theorem aXy(j:Nat)(hb:Eb F W Y o X p)(hp:E.B F (.fn 145 (.pr X p))=true)(hW:E.B F (.fn 116 W)=true)(hX:E.B F (.fn 116 X)=true)(hj:[6,7,8,9,20,21,22,23,31,32].contains j=true)
  (h1:E.B F (.fn 200 (.pr l (.fn 1 (.pr X (.int (Int.ofNat j))))))=true){cs:List E}(h:uK F (W.den F) cs (j+1)):uK F (W.den F) (.fn 28 (.pr z l)::cs) j:=by
 refine⟨?_,h⟩
 obtain⟨L,m,g1,g2,g3⟩:=hb
 rw[dX]at hp
 rw[qF]at hW hX
 have hj':j∈[6,7,8,9,20,21,22,23,31,32]:=by simp_all
 have hc:[0,6,7,8,9,20,21,22,23,31,32].contains j=true:=by
  simp_all
 have hs:j∈[0,6,7,8,9,20,21,22,23,29,30,31,32]:=by
  simp only[List.mem_cons,List.not_mem_nil,or_false]at hj' ⊢;omega
 have hne:j≠0/\j≠29/\j≠30/\∀P,P<=1->¬(2+14*P<=j/\j<6+14*P):=by
  simp only[List.mem_cons,List.not_mem_nil,or_false]at hj'
  refine⟨by omega,by omega,by omega,fun P hP=>by omega⟩
 rw[y5 hc]
 have e:=Dt g1 hW.1 hX.1 hne.1 hne.2.1 hne.2.2.1 (hne.2.2.2 _ (by omega));exact Cx (QD (mT e) (QC h1)) (hW.2.1 j hs) rfl
theorem aXx(j:Nat)(hj:(j==29||j==30)=true)(hb:Eb F W Y o X p)(h1:E.B F (.fn 187 (.pr l (.fn 1 (.pr X (.int (Int.ofNat j))))))=true){cs:List E}(h:uK F (W.den F) cs (j+1)):uK F (W.den F) (.fn 28 (.pr z l)::cs) j:=by
 refine⟨?_,h⟩
 obtain⟨L,m,g1,g2,g3⟩:=hb
 unfold gD
 rw[hj]
 have hj':j=29\/j=30:=by simp_all
 have a:=ana g1 hj'
 rw[qG]at h1
 show g9 _ _=true
 rw[kZ]at *
 exact⟨a.1.trans h1.1.symm,QD a.2 (QC h1.2)⟩
theorem aXz(j k:Nat)(hk:(decide (k<25)&&(gy.getD k 0==j))=true)(hj:(decide (j<38) && !([0,6,7,8,9,20,21,22,23,29,30,31,32].contains j))=true)(hb:Eb F W Y o X p)(hp:E.B F (.fn 145 (.pr X p))=true)(hW:E.B F (.fn 116 W)=true)(hX:E.B F (.fn 116 X)=true)
  {cs:List E}(h:uK F (W.den F) cs (j+1)):uK F (W.den F) (.fn 1 (.pr Y (.int (Int.ofNat k)))::cs) j:=by
 refine⟨?_,h⟩
 obtain⟨L,m,g1,g2,g3⟩:=hb
 rw[dX]at hp
 rw[qF]at hW hX
 rw[Bool.and_eq_true,decide_eq_true_eq,beq_iff_eq]at hk
 simp only[Bool.and_eq_true,decide_eq_true_eq,Bool.not_eq_true',List.contains_eq_mem,decide_eq_false_iff_not,List.mem_cons,List.not_mem_nil,or_false]at hj;unfold qD at g3
 rw[List.all_eq_true]at g3
 have t:=g3 k (List.mem_range.2 hk.1);simp only[hk.2]at t;have e1:(E.fn 1 (.pr Y (.int (Int.ofNat k)))).den F=cX (Y.den F) k:=rfl;have hpp:(E.I F p).toNat<=1:=by omega
 rw[e1]
 unfold gD
 rw[if_neg (by simp_all),if_neg (by simp_all)]
 by_cases hc:2+14*(E.I F p).toNat<=j/\j<6+14*(E.I F p).toNat
 ·rw[if_pos (by simp_all)]at t
  have q:=a0A g1 (k:=j-(2+14*(E.I F p).toNat)) (by omega) hpp
  rw[show 2+14*(E.I F p).toNat+(j-(2+14*(E.I F p).toNat))=j by omega]at q
  rw[if_neg (by grind)]
  simp_all[iX,beq_self_eq_true]
 ·rw[if_neg (by simpa using hc)]at t
  have e:=Dt g1 hW.1 hX.1 (j:=j) (by omega) (by omega) (by omega) hc;have e2:=U.eq_trans _ _ _ e (U.eq_symm _ _ t);split
  ·rw[ajm e2];exact beq_self_eq_true _
  ·rw[Cy e2];exact beq_self_eq_true _
/-- a row whose slices are slices -/
def DG:E->Bool
  |.fn 28 _=>true
  |.fn 30 _=>true
  |_=>false
theorem aod{e:E}(h:DG e=true):eN (e.den F)=true:=by
 unfold DG at h;split at h
 ·rfl
 ·rfl
 ·cases h
theorem a4D{cs:List E}(hl:cs.length=38)(h:([0,6,7,8,9,20,21,22,23,29,30,31,32].all fun j=>DG (cs.getD j (.int 0)))=true)(h29:E.B F (.fn 190 (cs.getD 29 (.int 0)))=true)(h30:E.B F (.fn 190 (cs.getD 30 (.int 0)))=true):E.B F (.fn 116 (dt cs))=true:=by
 rw[qF]
 have lenm:∀cs,((dt cs).den F).toL.length=cs.length:=by
  intro cs;induction cs with
  |nil=>rfl
  |cons c cs ih=>show(((dt cs).den F).toL.length+1)=_;simp_all
 refine⟨by simp_all,fun j hj=>?_,?_,?_⟩
 ·have hj38:j<38:=by
   simp only[List.mem_cons,List.not_mem_nil,or_false]at hj;omega
  grind[lO,aod]
 ·rw[lO cs 29 (by omega)];exact h29
 ·rw[lO cs 30 (by omega)];exact h30
theorem Tj{a b:List U}(h:g9 a b=true)(n:Nat)(hn:n<=b.length/5):eO a n=eO b n:=by
 rw[kZ]at h
 refine PQ fun i hi=>?_
 have e:=qe (i*5+4) h.2;grind[lG,mT]
theorem a4F(h:E.B F (.fn 189 (.pr W R))=true)(hs:E.B F (.fn 117 W)=true):E.B F (.fn 117 R)=true:=by
 rw[qH]at h
 have hs:k8 _=true:=hs;show k8 _=true;have ls:∀j,[0,6,7,8,9,20,21,22,23,31,32].contains j=true->j<38->U.eqs (cX (W.den F) j).toL (cX (R.den F) j).toL=true:=fun j hj h38=>by
  grind[y5,mT]
 have it:∀j,(j==29||j==30)=true->j<38->g9 (cX (W.den F) j).toL (cX (R.den F) j).toL=true:=fun j hj h38=>by
  grind[gD]
 have hz:∀k,k<8->bg _ k=bg _ k:=fun k hk=>In (ls _ (by
  have:k=0\/k=1\/k=2\/k=3\/k=4\/k=5\/k=6\/k=7:=by omega
  rcases this with rfl|rfl|rfl|rfl|rfl|rfl|rfl|rfl<;>rfl) (by omega))
 have e29:=it 29 (by rfl) (by decide);have e30:=it 30 (by rfl) (by decide);have n29:=((kZ _ _).1 e29).1;have n30:=((kZ _ _).1 e30).1;have ea:bn _=bn _:=In (ls 31 (by rfl) (by decide));have eb:fe (W.den F)=fe (R.den F):=by
  have:=lG (ls 32 (by rfl) (by decide))
  simp_all[fe]
 have eo:aJ (W.den F)=aJ (R.den F):=by
  grind[lG,aJ]
 have es:cy _=cy _:=n29;have ezz:((List.range 8).all fun z=>decide ((bg (W.den F) z).length<=40))=(List.range 8).all fun z=>decide ((bg (R.den F) z).length<=40):=PQ fun k hk=>by simp_all
 unfold k8 at hs ⊢
 rw[<- ezz,<- ea,<- eb,<- eo,<- es,<- n30]
 rw[<- Tj e29 _ (by rw[es];exact Nat.le_refl _),<- Tj e30 _ (by omega)]
 omega
/-- items' targets are Iu in a copy -/
theorem ao7(h:E.B F (.fn 187 (.pr l b))=true)(g:E.B F (.fn 158 (.pr b (.fn 9 (.pr b (.int 5)))))=true)(e:E.I F n=E.I F (.fn 9 (.pr b (.int 5)))):E.B F (.fn 158 (.pr l n))=true:=by
  rw[qG]at h
  have en:(E.I F (.fn 9 (.pr b (.int 5)))).toNat=(E.L F b).length/5:=rfl;show eO (E.L F l) (E.I F n).toNat=true
  rw[e,en]at *
  rw[Tj h _ (Nat.le_refl _)]
  exact g
end
end Go.SX

set_option linter.unusedVariables false
set_option linter.unusedSectionVars false
namespace Go.SX
/-! ### gives: an owned board by its numbers and lists (221) -/
theorem IV{j i:Nat}(hj:j<38)(h:lV.idxOf? j=some i):(j,i)∈[(0,0),(6,1),(7,2),(8,3),(9,4),(20,5),(21,6),(22,7),(23,8),(29,9),(30,10),(31,11),(32,12)]:=by
 have:∀j,j<38->(match lV.idxOf? j with | some i=>[(0,0),(6,1),(7,2),(8,3),(9,4),(20,5),(21,6),(22,7),(23,8),(29,9),(30,10),(31,11),(32,12)].contains (j,i) | none=>true)=true:=by decide
 grind
theorem aYx{j:Nat}(hj:j<38)(h:lV.idxOf? j=none):(decide (gy.idxOf j<25)&&(gy.getD (gy.idxOf j) 0==j))=true/\(decide (j<38) && !([0,6,7,8,9,20,21,22,23,29,30,31,32].contains j))=true:=by
 have:∀j,j<38->(match lV.idxOf? j with | some i=>true | none=>(decide (gy.idxOf j<25)&&(gy.getD (gy.idxOf j) 0==j))&&(decide (j<38) && !([0,6,7,8,9,20,21,22,23,29,30,31,32].contains j)))=true:=by decide
 grind
section
variable {F:Env} {x y l A a b k u i j p q n m r o c d w v X Y W R T N L e t C z c0 c1 c2 c3 l0 l1 l2 l3 l4 l5 l6 l7 l8 l9 l10 l11 l12:E}
noncomputable def Ij(W Y l0 l1 l2 l3 l4 l5 l6 l7 l8 l9 l10 l11 l12:E):E:=.fn 221 (.pr W (.pr Y (.pr l0 (.pr l1 (.pr l2 (.pr l3 (.pr l4 (.pr l5 (.pr l6 (.pr l7 (.pr l8 (.pr l9 (.pr l10 (.pr l11 (.pr l12 (.int 0))))))))))))))))
theorem a6E(h:E.B F (Ij W Y l0 l1 l2 l3 l4 l5 l6 l7 l8 l9 l10 l11 l12)=true):qA (W.den F) (Y.den F) (fun i=>([l0,l1,l2,l3,l4,l5,l6,l7,l8,l9,l10,l11,l12].getD i (.int 0)).den F)=true:=by
 have h:qA (W.den F) (Y.den F) _=true:=h;unfold qA at h ⊢
 rw[List.all_eq_true]at h ⊢
 intro j hj;have hh:=h j hj;have hj:=List.mem_range.1 hj;cases e:lV.idxOf? j with
 |none=>simp_all
 |some i=>
  have:=IV hj e
  simp only[List.mem_cons,List.not_mem_nil,or_false]at this;rcases this with⟨rfl,rfl⟩|⟨rfl,rfl⟩|⟨rfl,rfl⟩|⟨rfl,rfl⟩|⟨rfl,rfl⟩|⟨rfl,rfl⟩|⟨rfl,rfl⟩|⟨rfl,rfl⟩|⟨rfl,rfl⟩|⟨rfl,rfl⟩|⟨rfl,rfl⟩|⟨rfl,rfl⟩|⟨rfl,rfl⟩<;>exact hh
theorem a6F(h:qA (W.den F) (Y.den F) (fun i=>([l0,l1,l2,l3,l4,l5,l6,l7,l8,l9,l10,l11,l12].getD i (.int 0)).den F)=true):E.B F (Ij W Y l0 l1 l2 l3 l4 l5 l6 l7 l8 l9 l10 l11 l12)=true:=by
 show qA (W.den F) (Y.den F) _=true;unfold qA at h ⊢
 rw[List.all_eq_true]at h ⊢
 intro j hj;have hh:=h j hj;have hj:=List.mem_range.1 hj;cases e:lV.idxOf? j with
 |none=>simp_all
 |some i=>
  have:=IV hj e
  simp only[List.mem_cons,List.not_mem_nil,or_false]at this;rcases this with⟨rfl,rfl⟩|⟨rfl,rfl⟩|⟨rfl,rfl⟩|⟨rfl,rfl⟩|⟨rfl,rfl⟩|⟨rfl,rfl⟩|⟨rfl,rfl⟩|⟨rfl,rfl⟩|⟨rfl,rfl⟩|⟨rfl,rfl⟩|⟨rfl,rfl⟩|⟨rfl,rfl⟩|⟨rfl,rfl⟩<;>exact hh
/-- what is lent of it, as a row -/
noncomputable def yX(zs ls:List E)(Y:E):E:=dt ((List.range 38).map fun j=>match lV.idxOf? j with
  |some i=> .fn 28 (.pr (zs.getD i (.int 0)) (ls.getD i (.int 0)))
  |none=> .fn 1 (.pr Y (.int (Int.ofNat (gy.idxOf j)))))
theorem a05(zs ls:List E)(j:Nat)(hj:j<38):cX ((yX zs ls Y).den F) j=(match lV.idxOf? j with
 |some i=>E.fn 28 (.pr (zs.getD i (.int 0)) (ls.getD i (.int 0)))
 |none=>E.fn 1 (.pr Y (.int (Int.ofNat (gy.idxOf j))))).den F:=by
 have:=lO (F:=F) ((List.range 38).map fun j=>match lV.idxOf? j with
  |some i=>E.fn 28 (.pr (zs.getD i (.int 0)) (ls.getD i (.int 0)))
  |none=>E.fn 1 (.pr Y (.int (Int.ofNat (gy.idxOf j))))) j (by simp_all)
 refine Eq.trans this ?_;simp_all
theorem apV(zs:List E)(h:E.B F (Ij W Y l0 l1 l2 l3 l4 l5 l6 l7 l8 l9 l10 l11 l12)=true)(hW:E.B F (.fn 116 W)=true):E.B F (.fn 189 (.pr W (yX zs [l0,l1,l2,l3,l4,l5,l6,l7,l8,l9,l10,l11,l12] Y)))=true:=by
 have h:=a6E h
 rw[qF]at hW
 rw[qH]
 intro j hj;unfold qA at h
 rw[List.all_eq_true]at h
 have hh:=h j (List.mem_range.2 hj)
 rw[a05 zs _ j hj]
 cases e:lV.idxOf? j with
 |none=>
  simp only[e]at hh ⊢;exact hh
 |some i=>
  simp only[e]at hh ⊢;have t:=IV hj e;by_cases h9:(j==29||j==30)=true
  ·rw[if_pos h9]at hh
   unfold gD
   rw[if_pos h9]
   exact hh
  ·rw[if_neg h9]at hh
   have hc:[0,6,7,8,9,20,21,22,23,31,32].contains j=true/\j∈[0,6,7,8,9,20,21,22,23,29,30,31,32]:=by
    simp only[List.mem_cons,List.not_mem_nil,or_false]at t;rcases t with⟨rfl,rfl⟩|⟨rfl,rfl⟩|⟨rfl,rfl⟩|⟨rfl,rfl⟩|⟨rfl,rfl⟩|⟨rfl,rfl⟩|⟨rfl,rfl⟩|⟨rfl,rfl⟩|⟨rfl,rfl⟩|⟨rfl,rfl⟩|⟨rfl,rfl⟩|⟨rfl,rfl⟩|⟨rfl,rfl⟩<;>simp at h9 ⊢
   rw[y5 hc.1]
   exact Cx hh (hW.2.1 j hc.2) rfl
theorem a4E(zs:List E)(h9:E.B F (.fn 190 l9)=true)(h10:E.B F (.fn 190 l10)=true):E.B F (.fn 116 (yX zs [l0,l1,l2,l3,l4,l5,l6,l7,l8,l9,l10,l11,l12] Y))=true:=
 a4D rfl rfl h9 h10
theorem a5X(h:E.B F (.fn 198 (.pr W (.pr c0 (.pr c1 (.pr c2 (.pr c3 (.pr a (.pr C (.pr X (.pr p (.int 0)))))))))))=true)(g:E.B F (.fn 219 (.pr Y (.pr l0 (.pr c0 (.pr c1 (.pr c2 (.pr c3 (.pr a (.pr C (.pr X (.pr p (.int 0))))))))))))=true)
  (hp:E.B F (.fn 145 (.pr X p))=true)(hW:E.B F (.fn 116 W)=true)(hX:E.B F (.fn 116 X)=true)
  (h1:E.B F (.fn 200 (.pr l1 (.fn 1 (.pr X (.int 6)))))=true)(h2:E.B F (.fn 200 (.pr l2 (.fn 1 (.pr X (.int 7)))))=true)(h3:E.B F (.fn 200 (.pr l3 (.fn 1 (.pr X (.int 8)))))=true)(h4:E.B F (.fn 200 (.pr l4 (.fn 1 (.pr X (.int 9)))))=true)
  (h5:E.B F (.fn 200 (.pr l5 (.fn 1 (.pr X (.int 20)))))=true)(h6:E.B F (.fn 200 (.pr l6 (.fn 1 (.pr X (.int 21)))))=true)(h7:E.B F (.fn 200 (.pr l7 (.fn 1 (.pr X (.int 22)))))=true)(h8:E.B F (.fn 200 (.pr l8 (.fn 1 (.pr X (.int 23)))))=true)
  (h9:E.B F (.fn 187 (.pr l9 (.fn 1 (.pr X (.int 29)))))=true)(h10:E.B F (.fn 187 (.pr l10 (.fn 1 (.pr X (.int 30)))))=true)(h11:E.B F (.fn 200 (.pr l11 (.fn 1 (.pr X (.int 31)))))=true)(h12:E.B F (.fn 200 (.pr l12 (.fn 1 (.pr X (.int 32)))))=true):
  E.B F (Ij W Y l0 l1 l2 l3 l4 l5 l6 l7 l8 l9 l10 l11 l12)=true:=by
 have hb:=aW4 h g;refine a6F ?_;unfold qA
 rw[List.all_eq_true]
 intro j hj;have hj:=List.mem_range.1 hj
 obtain⟨L,m,g1,g2,g3⟩:=id hb
 cases e:lV.idxOf? j with
 |none=>
  have t:=aYx hj e
  exact(aXz (cs:=[]) j (gy.idxOf j) t.1 t.2 hb hp hW hX trivial).1
 |some i=>
  have t:=IV hj e;have bx:∀ {q:E} (j:Nat),[6,7,8,9,20,21,22,23,31,32].contains j=true->[0,6,7,8,9,20,21,22,23,31,32].contains j=true->E.B F (.fn 200 (.pr q (.fn 1 (.pr X (.int (Int.ofNat j))))))=true->U.eqs (cX (W.den F) j).toL (q.den F).toL=true:=fun {q} j hj hj' hq=>by
   have:=(aXy (z:=.int 0) (cs:=[]) j hb hp hW hX hj hq trivial).1
   rw[y5 hj']at this
   have t2:=mT this;exact t2
  have it:∀ {q:E} (j:Nat),(j==29||j==30)=true->E.B F (.fn 187 (.pr q (.fn 1 (.pr X (.int (Int.ofNat j))))))=true->g9 (cX (W.den F) j).toL (q.den F).toL=true:=fun {q} j hj hq=>by
   have:=(aXx (z:=.int 0) (cs:=[]) j hj hb hq trivial).1
   unfold gD at this
   rw[if_pos hj]at this
   exact this
  simp only[List.mem_cons,Prod.mk.injEq,List.not_mem_nil,or_false]at t;rcases t with⟨rfl,rfl⟩|⟨rfl,rfl⟩|⟨rfl,rfl⟩|⟨rfl,rfl⟩|⟨rfl,rfl⟩|⟨rfl,rfl⟩|⟨rfl,rfl⟩|⟨rfl,rfl⟩|⟨rfl,rfl⟩|⟨rfl,rfl⟩|⟨rfl,rfl⟩|⟨rfl,rfl⟩|⟨rfl,rfl⟩
  ·exact QD (SD g1) (QC g2)
  all_goals simp_all
/-! zero boards -/
def zE:E->Bool
 |.fn 28 (.pr _ (.fn 10 _))=>true
 |.fn 30 (.int _)=>true
 |.int 0=>true
 |.bool false=>true
 |_=>false
theorem a6G{e:E}(h:zE e=true):(e.den F).toL=[]/\(e.den F).toI=0/\(e.den F).toB=false:=by
 unfold zE at h;split at h
 ·exact⟨rfl,rfl,rfl⟩
 ·exact⟨rfl,rfl,rfl⟩
 ·exact⟨rfl,rfl,rfl⟩
 ·exact⟨rfl,rfl,rfl⟩
 ·cases h
theorem UG{cs:List E}(h:cs.all zE=true)(j:Nat):(cX ((dt cs).den F) j).toL=[]/\(cX ((dt cs).den F) j).toI=0/\(cX ((dt cs).den F) j).toB=false:=by
 have lenm:∀cs,((dt cs).den F).toL.length=cs.length:=by
  intro cs;induction cs with
  |nil=>rfl
  |cons c cs ih=>show(((dt cs).den F).toL.length+1)=_;simp_all
 by_cases hj:j<cs.length
 ·simp_all[lO,a6G]
 ·unfold cX
  rw[Rk _ (by simp_all)]
  exact⟨rfl,rfl,rfl⟩
theorem a4G{cs:List E}(h:cs.all zE=true):E.B F (.fn 117 (dt cs))=true:=by
 show k8 _=true;have h0:=fun j=>(UG (F:=F) h j).1
 have hz:∀k,bg ((dt cs).den F) k=[]:=fun k=>by simp_all[bg,bI]
 simp_all[k8,cy,aJ,fe,bn,bI,eO]
theorem a5J{cs ds:List E}(h:cs.all zE=true)(h':ds.all zE=true)(hl:cs.length=38)(hl':ds.length=38)(hs:([0,6,7,8,9,20,21,22,23,31,32].all fun j=>DG (cs.getD j (.int 0)))=true)(hs':([0,6,7,8,9,20,21,22,23,31,32].all fun j=>DG (ds.getD j (.int 0)))=true):
  E.B F (.fn 189 (.pr (dt cs) (dt ds)))=true:=by
 rw[qH]
 intro j hj;have a:=UG (F:=F) h j;have b:=UG (F:=F) h' j;unfold gD;split
 ·rw[a.1,b.1];rfl
 ·split
  ·refine Cx (by rw[a.1,b.1];rfl) ?_ ?_;all_goals grind[lO,aod]
  simp_all
theorem aXc(h:E.B F (.fn 177 (.pr (.int 4) (.pr a (.pr c0 (.pr c1 (.pr c2 (.pr c3 (.pr C (.pr X (.pr p (.int 0)))))))))))=true):¬E.B F (.fn 198 (.pr W (.pr c0 (.pr c1 (.pr c2 (.pr c3 (.pr a (.pr C (.pr X (.pr p (.int 0)))))))))))=true:=by
 simp_all[o8,UD]
end
end Go.SX

