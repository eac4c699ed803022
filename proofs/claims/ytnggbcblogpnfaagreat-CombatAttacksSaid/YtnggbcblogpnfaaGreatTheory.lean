/-
  What the program's own functions say
-/
import Derived.Test.YtnggbcblogpnfaaGreatSXe
set_option linter.unusedSectionVars false
set_option linter.unusedVariables false
set_option linter.unusedSimpArgs false
namespace Go.SX
/-! ### Boards: what is valid -/
noncomputable def aH(F:Env)(e:E):List Int:=(E.L F e).map U.toI
theorem aa5(l:List U)(k:Nat):(l.getD k (.int 0)).toI=(l.map U.toI).getD k 0:=by
 simp only[List.getD_eq_getElem?_getD,List.getElem?_map];cases l[k]? <;> rfl
theorem Y8{p:Nat->Bool}(n:Nat):(List.range n).all p=true↔∀i,i<n->p i=true:=by grind
theorem JS(l:List U)(n:Nat):xh l n=true↔∀i,i<n->Cd (nI l (i*2)) (nI l (i*2+1))=true:=by
 simp_all[xh]
theorem yp(l:List U)(q:Bool)(n:Nat):tM l q n=true↔∀i,i<n->nl (nI l (i*5)) (nI l (i*5+1)) (nI l (i*5+2)) (nI l (i*5+3)) (l.getD (i*5+4) (.int 0)).toL q=true:=by
 simp_all[tM]
theorem jt(a x b:Int):da a x b=true↔a<=x/\x<=b:=by grind[da]
theorem Y5(a b:Int):Cd a b=true↔0<=a/\a<=500/\0<=b/\b<=1/\(a=0\/b=0):=by
 simp_all[Cd,jt,and_assoc]
/-- a row of a list whose cR have w cells -/
def bK(T:E)(i:E)(w j:Nat):E:= .fn 1 (.pr T (.fn 6 (.pr (.fn 8 (.pr i (.int (Int.ofNat w)))) (.int (Int.ofNat j)))))
section
variable {F:Env} {x y l A a b k u i j p q n m r o c d w v X T N L:E}
theorem b9:((aH F l).length:Int)=E.I F (.fn 0 l):=by
 show((E.L F l).map _).length=((E.L F l).length:Int)
 simp
theorem fX:E.I F (.fn 1 (.pr l i))=(aH F l).getD (E.I F i).toNat 0:=aa5 _ _
theorem lV(i:E)(w j:Nat)(h:0<=E.I F i):E.I F (.fn 1 (.pr T (.fn 6 (.pr (.fn 8 (.pr i (.int (Int.ofNat w)))) (.int (Int.ofNat j))))))=nI (E.L F T) ((E.I F i).toNat*w+j):=by
 show((E.L F T).getD (E.I F i*w+j).toNat _).toI=_
 have e:(E.I F i*w+j).toNat=(E.I F i).toNat*w+j:=by
  grind
 rw[e];rfl
theorem vX(i:E)(w j:Nat)(h:0<=E.I F i):E.L F (.fn 1 (.pr T (.fn 6 (.pr (.fn 8 (.pr i (.int (Int.ofNat w)))) (.int (Int.ofNat j))))))=((E.L F T).getD ((E.I F i).toNat*w+j) (.int 0)).toL:=by
 show((E.L F T).getD (E.I F i*w+j).toNat _).toL=_
 grind
/-! targets -/
theorem Gm:(E.B F (.fn 101 (.pr T n))=true)=(xh (E.L F T) (E.I F n).toNat=true):=rfl
theorem FL(h:E.B F (.fn 101 (.pr T i))=true)(h0:0<=E.I F i)(hm:E.I F m=E.I F i+1){a b:E}(ea:a=bK T i 2 0)(eb:b=bK T i 2 1)
  (ha:0<=E.I F a/\E.I F a<=500/\0<=E.I F b/\E.I F b<=1/\(E.I F a=0\/E.I F b=0)):E.B F (.fn 101 (.pr T m))=true:=by
 grind[Gm,JS,bK,lV,Y5]
theorem lM(h0:0<=E.I F i)(h1:E.I F i<E.I F N){a b:E}(ea:a=bK T i 2 0)(eb:b=bK T i 2 1)
  (ha:¬(0<=E.I F a/\E.I F a<=500/\0<=E.I F b/\E.I F b<=1/\(E.I F a=0\/E.I F b=0))):¬(E.B F (.fn 101 (.pr T N))=true):=by
 subst ea;subst eb;intro h
 rw[Gm,JS]at h
 apply ha;unfold bK
 rw[lV (T:=T) i 2 0 h0,lV (T:=T) i 2 1 h0]
 grind[Y5]
theorem afB(h:E.B F (.fn 101 (.pr T i))=true)(h1:E.I F N<=E.I F i):E.B F (.fn 101 (.pr T N))=true:=by
 grind[Gm,JS]
/-! items -/
theorem dk:(E.B F (.fn 102 (.pr p (.pr i (.pr c (.pr k (.pr T q))))))=true)=(0<=E.I F p/\E.I F p<=1/\1<=E.I F i/\E.I F i<=500/\0<=E.I F c/\E.I F c<=399/\-1<=E.I F k/\E.I F k<=1/\E.I F (.fn 9 (.pr T (.int 2)))<=4/\
  (E.I F k<0\/E.I F (.fn 9 (.pr T (.int 2)))=0)/\(E.B F q=true->0<=E.I F k)/\E.B F (.fn 101 (.pr T (.fn 9 (.pr T (.int 2)))))=true):=by
 show(nl (E.I F p) (E.I F i) (E.I F c) (E.I F k) (E.L F T) (E.B F q)=true)=_
 rw[Gm]
 have e9:E.I F (.fn 9 (.pr T (.int 2)))=(E.L F T).length/2:=rfl;unfold nl;simp only[Bool.and_eq_true,jt];grind
theorem rJ:(E.B F (.fn 103 (.pr L (.pr q n)))=true)=(tM (E.L F L) (E.B F q) (E.I F n).toNat=true):=rfl
theorem agv(i:E)(h0:0<=E.I F i):(E.B F (.fn 102 (.pr (bK L i 5 0) (.pr (bK L i 5 1) (.pr (bK L i 5 2) (.pr (bK L i 5 3) (.pr (bK L i 5 4) q))))))=true)=
  (nl (nI (E.L F L) ((E.I F i).toNat*5)) (nI (E.L F L) ((E.I F i).toNat*5+1)) (nI (E.L F L) ((E.I F i).toNat*5+2)) (nI (E.L F L) ((E.I F i).toNat*5+3)) ((E.L F L).getD ((E.I F i).toNat*5+4) (.int 0)).toL (E.B F q)=true):=by
 show(nl (E.I F _) (E.I F _) (E.I F _) (E.I F _) (E.L F _) (E.B F q)=true)=_
 grind[bK,lV,vX]
theorem FP(h:E.B F (.fn 103 (.pr L (.pr q i)))=true)(h0:0<=E.I F i)(hm:E.I F m=E.I F i+1){a:E}(ea:a=.fn 102 (.pr (bK L i 5 0) (.pr (bK L i 5 1) (.pr (bK L i 5 2) (.pr (bK L i 5 3) (.pr (bK L i 5 4) q))))))
  (ha:E.B F a=true):E.B F (.fn 103 (.pr L (.pr q m)))=true:=by
 grind[agv,rJ,yp]
theorem FO(h0:0<=E.I F i)(h1:E.I F i<E.I F N){a:E}(ea:a=.fn 102 (.pr (bK L i 5 0) (.pr (bK L i 5 1) (.pr (bK L i 5 2) (.pr (bK L i 5 3) (.pr (bK L i 5 4) q))))))
  (ha:¬(E.B F a=true)):¬(E.B F (.fn 103 (.pr L (.pr q N)))=true):=by
 grind[agv,rJ,yp]
theorem FN(h:E.B F (.fn 103 (.pr L (.pr q i)))=true)(h1:E.I F N<=E.I F i):E.B F (.fn 103 (.pr L (.pr q N)))=true:=by
 grind[rJ,yp]
/-! lists of numbers -/
theorem nX:(E.B F (.fn 114 (.pr l k))=true)=(E.I F k∈aH F l):=by
 show((bp _).contains _=true)=_
 rw[List.contains_iff_mem];rfl
theorem Ad:E.I F (.fn 131 (.pr l (.pr k n)))=(((aH F l).take (E.I F n).toNat).count (E.I F k):Nat):=rfl
theorem py(l:List Int)(n:Nat)(h:n<l.length):l.take (n+1)=l.take n++[l.getD n 0]:=by
 simp_all
theorem NB(h0:0<=E.I F i)(h1:E.I F i<E.I F (.fn 0 l))(hm:E.I F m=E.I F i+1):
  E.I F (.fn 131 (.pr l (.pr k m)))=E.I F (.fn 131 (.pr l (.pr k i)))+(if E.I F k=E.I F (.fn 1 (.pr l i))then 1 else 0):=by
 rw[Ad,Ad,fX]
 rw[<- b9]at h1
 have e:(E.I F m).toNat=(E.I F i).toNat+1:=by omega
 grind[py]
theorem aKu(h:E.I F (.fn 0 l)<=E.I F n):(E.B F (.fn 114 (.pr l k))=true)↔¬(E.I F (.fn 131 (.pr l (.pr k n)))=0):=by
 grind[nX,Ad,b9,List.take_of_length_le]
theorem aKh(h0:0<=E.I F i)(h1:E.I F i<E.I F (.fn 0 l))(he:E.I F k=E.I F (.fn 1 (.pr l i))):E.B F (.fn 114 (.pr l k))=true:=by
 simp_all[nX,fX,b9]
end
end Go.SX

set_option linter.unusedVariables false
set_option linter.unusedSimpArgs false
namespace Go.SX
/-! ### maps as lists of pairs -/
theorem t8(q:Int)(u:U)(m:List U):cG q (u::m)=if u.fst.toI=q then some u.snd else cG q m:=rfl
theorem acs(k:Int)(v u:U)(m:List U):cC k v (u::m)=if u.fst.toI=k then .lst [.int k,v]::m else u::cC k v m:=rfl
theorem aa2(k:Int)(v:U):(U.lst [.int k,v]).fst.toI=k:=rfl
theorem ae8(k:Int)(v:U):(U.lst [.int k,v]).snd=v:=rfl
theorem acm(k q:Int)(v:U):∀m:List U,cG q (cC k v m)=if q=k then some v else cG q m
 |[]=>by
  show cG q [U.lst _]=_;grind[t8,aa2,ae8]
 |u::l=>by
  rw[acs]
  by_cases h:u.fst.toI=k
  ·rw[if_pos h,t8,aa2,ae8,t8,h]
   grind
  ·rw[if_neg h,t8,acm k q v l,t8]
   grind
theorem ad0(k:Int)(v:U):∀m:List U,k∉(io m).map Prod.fst->io (cC k v m)=io m++[(k,v.toI)]
 |[],_=>rfl
 |u::l,h=>by
  have e:io (u::l)=(u.fst.toI,u.snd.toI)::io l:=rfl
  rw[e]at h ⊢
  simp only[List.map_cons,List.mem_cons,not_or]at h
  rw[acs,if_neg (fun e=>h.1 e.symm)]
  show(u.fst.toI,u.snd.toI)::io _=_
  rw[ad0 k v l h.2];rfl
theorem Ei(k:Int):∀m:List U,(cG k m).map U.toI=fg (io m) k
 |[]=>rfl
 |u::l=>by
  have e:io (u::l)=(u.fst.toI,u.snd.toI)::io l:=rfl
  rw[t8,e]
  unfold fg;by_cases h:u.fst.toI=k
  ·simp[h]
  ·have:=Ei k l
   grind[fg]
theorem L7(k:Int)(m:List U):(cG k m).isSome=true↔k∈(io m).map Prod.fst:=by
 grind[Ei,fg,Option.isSome_map]
theorem yD{l:List (Int×Int)}{k v:Int}(h:fg l k=some v):(k,v)∈l:=by
 unfold fg at h;cases hc:l.find? fun p=>p.1==k with
 |none=>simp_all
 |some p=>
  grind
theorem LU:∀ {l:List (Int×Int)} {k v:Int},(l.map Prod.fst).Nodup->(k,v)∈l->fg l k=some v
 |[],k,v,_,h=>by simp at h
 |p::l,k,v,hn,h=>by
  simp only[List.map_cons,List.nodup_cons]at hn;unfold fg;rcases List.mem_cons.1 h with e|e
  ·grind
  ·have:=LU hn.2 e
   grind[fg]
theorem pf:∀l:List Int,nC l=true↔l.Nodup
 |[]=>by simp[nC]
 |x::l=>by
  unfold nC
  rw[Bool.and_eq_true,pf l,List.nodup_cons]
  simp
theorem yI(m:List U)(l:List (Int×Int)):gM m l=true↔io m=l/\(l.map Prod.fst).Nodup:=by
 simp_all[gM,pf]
theorem L5{m:List U}{l:List (Int×Int)}{k:Int}{v:U}(h:gM m l=true)(hk:¬(cG k m).isSome=true):gM (cC k v m) (l++[(k,v.toI)])=true:=by
 grind[yI,L7,ad0]
/-! the places, one after the other -/
theorem Gx(X:U)(k:Nat):kD X (k+1)=kD X k++(aV X k).map fun i=>(i,((k/4:Nat):Int)):=by
 simp_all[kD,List.range_succ]
theorem aHc(X:U)(k:Nat):eF X k (aV X k).length=eF X (k+1) 0:=by
 simp_all[eF,Gx]
theorem aHd(X:U)(k i:Nat)(h:i<(aV X k).length):eF X k (i+1)=eF X k i++[((aV X k).getD i 0,((k/4:Nat):Int))]:=by
 grind[eF,py]
theorem agN(X:U)(k:Nat):∀d,∃r,kD X (k+d)=kD X k++r
 |0=>⟨[],by simp⟩
 |d+1=>by
  obtain⟨r,hr⟩:=agN X k d
  grind[Gx]
theorem E8(X:U)(k i:Nat)(h:k<8):∃r,cO X=eF X k i++r:=by
 obtain⟨r,hr⟩:=agN X _ _
 have e:k+1+(8-(k+1))=8:=by omega
 rw[e]at hr
 refine⟨((aV X k).drop i).map (fun x=>(x,(k/4:Int)))++(r++iq X (cv X)),?_⟩
 have h8:eF X 8 0=kD X 8:=by simp[eF]
 unfold cO
 rw[h8,hr,Gx]
 grind[eF,List.take_append_drop]
theorem FE(X:U)(s:Nat):i0 X (s+1)=i0 X s++if nI (cX X 29).toL (s*5+3)<0 then [s] else []:=by
 grind[i0,List.range_succ]
theorem afw(X:U)(s:Nat):∀d,∃r,i0 X (s+d)=i0 X s++r
 |0=>⟨[],by simp⟩
 |d+1=>by
  obtain⟨r,hr⟩:=afw X s d
  grind[FE]
theorem aJQ(X:U)(s:Nat)(h:s<=cv X):∃r,cO X=(eF X 8 0++iq X s)++r:=by
 obtain⟨r,hr⟩:=afw X s (cv X-s)
 simp_all[cO,iq]
theorem adH{X:U}{l:List (Int×Int)}{k v:Int}(h:∃r,cO X=(l++[(k,v)])++r)(hk:k∈l.map Prod.fst):¬cW X=true:=by
 intro hp;unfold cW at hp;simp only[Bool.and_eq_true,pf]at hp;grind
theorem jz(X:U)(n:Nat):uk X n=true↔∀i,i<n->(rg X i=true/\(i=0\/oI X (i-1) 0<oI X i 0)/\fg (cO X) (oI X i 0)=some (oI X i 2)/\(∀c,fg (gR X (cv X)) (oI X i 0)=some c->c=oI X i 1)):=by
 grind[uk]
theorem nD(X:U)(i:Nat):rg X i=true↔1<=oI X i 0/\oI X i 0<=500/\-1<=oI X i 1/\oI X i 1<=399/\0<=oI X i 2/\oI X i 2<=1/\(oI X i 1=-1\/(oI X i 3=0/\oI X i 4=0))/\
  0<=oI X i 3/\oI X i 3<=99/\0<=oI X i 4/\oI X i 4<=99/\0<=oI X i 5/\oI X i 5<=99/\0<=oI X i 6/\oI X i 6<=99/\0<=oI X i 7/\oI X i 7<=99/\0<=oI X i 8/\oI X i 8<=99:=by
 unfold rg;simp only[List.all_cons,List.all_nil,Bool.and_eq_true,Bool.or_eq_true,jt,beq_iff_eq,and_assoc,and_true]
/-! distinct ids: as many places as objects -/
theorem ab1:∀(l1 l2:List Int),l1.Nodup->(∀x∈l1,x∈l2)->l1.length<=l2.length
 |[],l2,_,_=>Nat.zero_le _
 |x::l1,l2,hn,hs=>by
  have h:=ab1 l1 (l2.erase x) (List.nodup_cons.1 hn).2 (by
   grind)
  grind
theorem afA{l1 l2:List Int}(hn:l1.Nodup)(hs:∀x∈l1,x∈l2)(hl:l2.length<=l1.length):∀x∈l2,x∈l1:=by
 intro x hx;by_cases h:x∈l1
 ·exact h
 ·have:=ab1 _ l2 (List.nodup_cons.2 ⟨h,hn⟩) (by
   simp_all)
  grind
def gj(X:U):List Int:=(List.range (aD X)).map fun i=>oI X i 0
theorem afg{f:Nat->Int}{n:Nat}(h:∀i,i<n->(i=0\/f (i-1)<f i)):∀i j,i<j->j<n->f i<f j:=by
 intro i j hij hj;induction j with
 |zero=>omega
 |succ j ih=>
  grind
theorem ED{X:U}(h:∀i,i<aD X->(i=0\/oI X (i-1) 0<oI X i 0)):(gj X).Nodup:=by
 unfold gj
 rw[List.nodup_iff_pairwise_ne,List.pairwise_map]
 refine List.Pairwise.imp_of_mem ?_ (List.pairwise_lt_range (n:=aD X));intro a b ha hb hab e
 have:=afg (f:=fun i=>oI X i 0) h a b hab (List.mem_range.1 hb)
 omega
theorem aeg{X:U}(h:cW X=true):∀k∈(cO X).map Prod.fst,1<=k/\k<=500:=by
 unfold cW at h;simp only[Bool.and_eq_true,beq_iff_eq]at h
 obtain⟨⟨hn,ho⟩,hl⟩:=h
 rw[jz]at ho
 have hs:=afA (l1:=gj X) (l2:=(cO X).map _) (ED fun i hi=>(ho i hi).2.1) (by
  intro x hx
  obtain⟨i,hi,rfl⟩:=List.mem_map.1 hx
  exact List.mem_map_of_mem (f:=Prod.fst) (yD (ho i (List.mem_range.1 hi)).2.2.1)) (by simp[gj,hl])
 intro k hk
 obtain⟨i,hi,rfl⟩:=List.mem_map.1 (hs k hk)
 simp_all[nD]
theorem agO(X:U)(k:Nat)(h:k<8):∀x∈aV X k,x∈(cO X).map Prod.fst:=by
 obtain⟨r,hr⟩:=E8 X k (aV X k).length h
 simp_all[eF]
end Go.SX

set_option linter.unusedVariables false
set_option linter.unusedSimpArgs false
namespace Go.SX
/-! ### attackers and blocks -/
theorem J3(X:U)(j c:Nat):du X (j+1) c=du X j c++[blk X j c]:=by
 simp_all[du,List.range_succ]
theorem aDS{X:U}{j n c:Nat}(h:j<=n){k:Int}(hk:k∈du X j c):k∈du X n c:=by
 grind[du]
theorem lJ(X:U)(n j:Nat)(k:Int)(h:0<k):pn X n j k=(((aW X).take n).contains k && !(du X j 1).contains k):=by
 simp_all[pn]
theorem pp(X:U)(n j:Nat)(k:Int)(h:¬0<k):pn X n j k=(du X j 0).contains (-k):=by
 grind[pn]
theorem M6(m:List U)(k q:Int)(b:Bool):gQ (cC k (.bool b) m) q=if q=k then b else gQ m q:=by
 unfold gQ;rw[acm];by_cases h:q=k<;>simp[h]
 rfl
theorem po{X:U}{m:List U}{n j:Nat}(h:ip X m n j=true)(hj:j<=dG X)(k:Int):gQ m k=pn X n j k:=by
 unfold ip at h
 rw[List.all_eq_true]at h
 by_cases hk:k∈(m.map fun u=>u.fst.toI)++aW X++(du X (dG X) 0).map fun k=>-k
 ·simp_all
 ·have h1:gQ m k=false:=by
   unfold gQ;cases hc:cG k m with
   |none=>rfl
   |some v=>
    grind[L7,io]
  by_cases hp:0<k
  ·grind[lJ]
  ·rw[pp _ _ _ _ hp]
   grind[aDS]
theorem M7{X:U}{m:List U}{n j:Nat}(h:∀k,gQ m k=pn X n j k):ip X m n j=true:=by
 simp_all[ip]
theorem oD(X:U)(n:Nat):ji X n=true↔((aW X).take n).Nodup/\∀a∈(aW X).take n,a∈fS X:=by
 simp_all[ji,pf]
theorem xk(X:U)(n:Nat):j9 X n=true↔(du X n 1).Nodup/\(du X n 0).Nodup/\∀i,i<n->(blk X i 1∈aW X/\blk X i 0∈fk X):=by
 simp_all[j9,pf,and_assoc]
theorem Mv{X:U}(h:cW X=true)(ha:cj X<=1){a:Int}(hm:a∈fS X):1<=a/\a<=500:=
 aeg h a (agO X _ (by omega) a hm)
theorem adU{X:U}(h:cW X=true){a:Int}(hm:a∈fk X):1<=a/\a<=500:=
 aeg h a (agO X _ (by omega) a hm)
theorem tq(X:U):gJ X=true↔ji X (aW X).length=true/\j9 X (dG X)=true:=by
 simp_all[gJ]
theorem aIG{X:U}{i:Nat}{a:Int}(h:pn X i 0 a=true):a∈(aW X).take i:=by
 by_cases hp:0<a
 all_goals simp_all[lJ,pp,du]
theorem aDE{X:U}{m:List U}{i:Nat}(h:ji X i=true)(hp:cW X=true)(ha:cj X<=1)(hs:ip X m i 0=true)(hi:i<(aW X).length)
  (hv:¬gQ m ((aW X).getD i 0)=true)(ho:(aW X).getD i 0∈fS X):ji X (i+1)=true:=by
 rw[oD]at *
 have hpos:=Mv hp ha ho
 rw[po hs (Nat.zero_le _),lJ _ _ _ _ (by omega)]at hv
 have hb:(du X 0 1).contains ((aW X).getD i 0)=false:=by rfl
 grind[py]
theorem aDD{X:U}{m:List U}{i:Nat}(hp:cW X=true)(ha:cj X<=1)(hs:ip X m i 0=true)(hi:i<(aW X).length)(ho:(aW X).getD i 0∈fS X):ip X (cC ((aW X).getD i 0) (.bool true) m) (i+1) 0=true:=by
 apply M7;intro k;have hpos:=Mv hp ha ho
 rw[M6,po hs (Nat.zero_le _)]
 by_cases hk:0<k
 ·rw[lJ _ _ _ _ hk,lJ _ _ _ _ hk,py _ _ hi]
  by_cases e:k=(aW X).getD i 0
  ·grind[du]
  grind
 ·rw[pp _ _ _ _ hk,pp _ _ _ _ hk,if_neg (by omega)]
theorem aDF{X:U}{m:List U}{i:Nat}(hs:ip X m i 0=true)(hi:i<(aW X).length)(hv:gQ m ((aW X).getD i 0)=true):¬gJ X=true:=by
 intro hf
 rw[tq,oD,List.take_length]at hf
 rw[po hs (Nat.zero_le _)]at hv
 have hm:=aIG hv;have ht:=py _ i hi;grind[List.take_sublist]
theorem aDC{X:U}{i:Nat}(hi:i<(aW X).length)(ho:¬(aW X).getD i 0∈fS X):¬gJ X=true:=by
 grind[tq,oD]
theorem Cu{X:U}{j:Nat}(hj:j<dG X)(h:j9 X (j+1)=true->False):¬gJ X=true:=by
 intro hf
 rw[tq,xk]at hf
 apply h
 rw[xk]
 have sub:∀c,(du X (j+1) c).Sublist (du X (dG X) c):=by
  grind[du]
 grind
/-- a block that is right, when the ones ahead of it are -/
theorem xl{X:U}{j:Nat}:j9 X (j+1)=true↔j9 X j=true/\blk X j 1∉du X j 1/\blk X j 0∉du X j 0/\blk X j 1∈aW X/\blk X j 0∈fk X:=by
  grind[xk,J3]
theorem Zj{X:U}(hp:cW X=true)(ha:cj X<=1)(h:ji X (aW X).length=true){a:Int}(hm:a∈aW X):1<=a/\a<=500:=by
 rw[oD,List.take_length]at h
 exact Mv hp ha (h.2 a hm)
section
variable {X:U} {m:List U} {j:Nat} {nk:Int}
theorem aDM(hp:cW X=true)(ha:cj X<=1)(h:ji X (aW X).length=true)(hs:ip X m (aW X).length j=true)(hj:j<dG X)(hv:¬gQ m (blk X j 1)=true):¬gJ X=true:=by
 apply Cu hj;intro hb
 rw[xl]at hb
 have hpos:=Zj hp ha h hb.2.2.2.1
 rw[po hs (by omega),lJ _ _ _ _ (by omega),List.take_length,Bool.and_eq_true,List.contains_iff_mem]at hv
 simp_all
theorem aDN(hp:cW X=true)(hs:ip X m (aW X).length j=true)(hj:j<dG X)(hk:1<=blk X j 0->blk X j 0<=500->nk=-(blk X j 0))(hv:gQ m nk=true):¬gJ X=true:=by
 apply Cu hj;intro hb
 rw[xl]at hb
 have hpos:=adU hp hb.2.2.2.2;have e:=hk hpos.1 hpos.2
 rw[po hs (by omega),pp _ _ _ _ (by omega),List.contains_iff_mem,e,Int.neg_neg]at hv
 simp_all
theorem aDO(hj:j<dG X)(hv:¬blk X j 1∈aW X):¬gJ X=true:=by
 grind[Cu,xl]
theorem aDP(hj:j<dG X)(hv:¬blk X j 0∈fk X):¬gJ X=true:=by
 grind[Cu,xl]
theorem aDQ(hp:cW X=true)(ha:cj X<=1)(h:ji X (aW X).length=true)(hb:j9 X j=true)(hs:ip X m (aW X).length j=true)(hj:j<dG X)(hv:gQ m (blk X j 1)=true)
  (hk:1<=blk X j 0->blk X j 0<=500->nk=-(blk X j 0))(hn:¬gQ m nk=true)(h1:blk X j 1∈aW X)(h2:blk X j 0∈fk X):j9 X (j+1)=true/\ip X (cC nk (.bool true) (cC (blk X j 1) (.bool false) m)) (aW X).length (j+1)=true:=by
 have hpos:=Zj hp ha h h1;have hpos2:=adU hp h2;have e:=hk hpos2.1 hpos2.2;have hv':=hv
 rw[po hs (by omega),lJ _ _ _ _ (by omega),Bool.and_eq_true]at hv'
 have hn':=hn
 rw[po hs (by omega),pp _ _ _ _ (by omega),e,Int.neg_neg,List.contains_iff_mem]at hn'
 have hv2:blk X j 1∉du X j 1:=by
  simp_all
 refine⟨xl.2 ⟨hb,hv2,hn',h1,h2⟩,?_⟩
 apply M7;intro k
 rw[M6,M6,po hs (by omega)]
 by_cases hk:0<k
 ·rw[lJ _ _ _ _ hk,lJ _ _ _ _ hk,if_neg (by omega),J3]
  grind
 grind[pp,J3]
end
end Go.SX

set_option linter.unusedVariables false
set_option linter.unusedSimpArgs false
namespace Go.SX
/-! ### what expressions say of a board -/
section
variable {F:Env} {x y l A a b k u i j p q n m r o c d w v X T N L L2 mc s:E}
theorem bH:-9223372036854775808<=E.I F a+E.I F b->E.I F a+E.I F b<9223372036854775808->E.I F (.ar .add .i64 a b)=E.I F a+E.I F b:=by
 have e:E.I F (.ar .add _ a b)=IntKind.i64.wrap (E.I F a+E.I F b):=rfl
 obtain⟨s,e2,q,r⟩:=ab (E.I F a+E.I F b)
 omega
theorem kz:-9223372036854775808<=E.I F a-E.I F b->E.I F a-E.I F b<9223372036854775808->E.I F (.ar .sub .i64 a b)=E.I F a-E.I F b:=by
 have e:E.I F (.ar .sub _ a b)=IntKind.i64.wrap (E.I F a-E.I F b):=rfl
 obtain⟨s,e2,q,r⟩:=ab (E.I F a-E.I F b)
 omega
theorem rK:(E.B F (.fn 108 X)=true)=(cW (X.den F)=true):=rfl
theorem vi:(E.B F (.fn 109 (.pr L (.pr X (.pr p q))))=true)=(aH F L=aV (X.den F) ((E.I F p).toNat*4+(E.I F q).toNat)):=by
 show((bp _==aV _ _)=true)=_
 rw[beq_iff_eq];rfl
theorem Gp:(E.B F (.fn 110 X)=true)=(gJ (X.den F)=true):=rfl
theorem Gq:(E.B F (.fn 111 (.pr X n))=true)=(ji (X.den F) (E.I F n).toNat=true):=rfl
theorem agw:(E.B F (.fn 112 (.pr X n))=true)=(j9 (X.den F) (E.I F n).toNat=true):=rfl
theorem zF:(E.B F (.fn 113 (.pr m (.pr X (.pr n j))))=true)=(ip (X.den F) (E.L F m) (E.I F n).toNat (E.I F j).toNat=true):=rfl
theorem Oi:E.B F (.fn 32 (.pr m (.pr k (.bool false))))=gQ (E.L F m) (E.I F k):=rfl
theorem sg:E.L F (.fn 34 (.pr m (.pr k v)))=cC (E.I F k) (v.den F) (E.L F m):=rfl
theorem Ol(P Q j:Nat)(hQ:Q<4)(hj:j=6+14*P+Q):aV (X.den F) (P*4+Q)=aH F (.fn 1 (.pr X (.int (Int.ofNat j)))):=by
 show bp _=bp (cX (X.den F) j);grind
theorem fV(P Q j:Nat)(hQ:Q<4)(hj:j=6+14*P+Q)(hp:E.I F p=(P:Int))(hq:E.I F q=(Q:Int)):E.B F (.fn 109 (.pr (.fn 1 (.pr X (.int (Int.ofNat j)))) (.pr X (.pr p q))))=true:=by
 simp_all[vi,Ol]
theorem aMa(Y:U)(z:Nat):(aV Y z).length=(cX Y (6+14*(z/4)+z%4)).toL.length:=by
 grind[aV,bp]
theorem ak(h:E.B F (.fn 117 X)=true):(E.I F (.fn 0 (.fn 1 (.pr X (.int 6))))<=40/\E.I F (.fn 0 (.fn 1 (.pr X (.int 7))))<=40/\E.I F (.fn 0 (.fn 1 (.pr X (.int 8))))<=40/\E.I F (.fn 0 (.fn 1 (.pr X (.int 9))))<=40)/\
  (E.I F (.fn 0 (.fn 1 (.pr X (.int 20))))<=40/\E.I F (.fn 0 (.fn 1 (.pr X (.int 21))))<=40/\E.I F (.fn 0 (.fn 1 (.pr X (.int 22))))<=40/\E.I F (.fn 0 (.fn 1 (.pr X (.int 23))))<=40)/\
  (E.I F (.fn 9 (.pr (.fn 1 (.pr X (.int 29))) (.int 5)))<=20/\E.I F (.fn 9 (.pr (.fn 1 (.pr X (.int 30))) (.int 5)))<=20/\E.I F (.fn 9 (.pr (.fn 1 (.pr X (.int 0))) (.int 12)))<=30/\E.I F (.fn 0 (.fn 1 (.pr X (.int 31))))<=30/\E.I F (.fn 9 (.pr (.fn 1 (.pr X (.int 32))) (.int 2)))<=30)/\
  (0<=E.I F (.fn 9 (.pr (.fn 1 (.pr X (.int 29))) (.int 5)))/\0<=E.I F (.fn 9 (.pr (.fn 1 (.pr X (.int 30))) (.int 5)))/\0<=E.I F (.fn 9 (.pr (.fn 1 (.pr X (.int 0))) (.int 12)))/\0<=E.I F (.fn 0 (.fn 1 (.pr X (.int 31))))/\0<=E.I F (.fn 9 (.pr (.fn 1 (.pr X (.int 32))) (.int 2)))):=by
 have h':iZ _=true:=h;unfold iZ at h';simp only[Bool.and_eq_true,Y8,decide_eq_true_eq]at h'
 obtain⟨⟨⟨⟨⟨⟨⟨h1,h2⟩,h3⟩,_⟩,_⟩,h4⟩,h5⟩,h6⟩:=h'
 have z (n:Nat) (hn:n<8):=h1 n hn;simp only[aMa]at z;have z0:=z 0 (by omega);have z1:=z 1 (by omega);have z2:=z 2 (by omega);have z3:=z 3 (by omega);have z4:=z 4 (by omega);have z5:=z 5 (by omega);have z6:=z 6 (by omega);have z7:=z 7 (by omega);have a31:(aW (X.den F)).length=(cX (X.den F) 31).toL.length:=by grind[aW,bp]
 rw[a31]at h5
 refine⟨⟨?_,?_,?_,?_⟩,⟨?_,?_,?_,?_⟩,⟨?_,?_,?_,?_,?_⟩,?_,?_,?_,?_,?_⟩
 ·exact Int.ofNat_le.2 z0
 ·exact Int.ofNat_le.2 z1
 ·exact Int.ofNat_le.2 z2
 ·exact Int.ofNat_le.2 z3
 ·exact Int.ofNat_le.2 z4
 ·exact Int.ofNat_le.2 z5
 ·exact Int.ofNat_le.2 z6
 ·exact Int.ofNat_le.2 z7
 ·exact Int.ofNat_le.2 h2
 ·exact Int.ofNat_le.2 h3
 ·exact Int.ofNat_le.2 h4
 ·exact Int.ofNat_le.2 h5
 ·exact Int.ofNat_le.2 h6
 ·exact Int.natCast_nonneg _
 ·exact Int.natCast_nonneg _
 ·exact Int.natCast_nonneg _
 ·exact Int.natCast_nonneg _
 ·exact Int.natCast_nonneg _
/-! fights -/
theorem aKg(h:E.I F n<=0)(h':E.I F j<=0):E.B F (.fn 113 (.pr (.fn 10 a) (.pr X (.pr n j))))=true:=by
 have e:(E.I F n).toNat=0:=by omega
 have e':(E.I F j).toNat=0:=by omega
 rw[zF,e,e']
 apply M7;intro k;show false=_;grind[lJ,pp,du]
theorem aKe(h:E.B F (.fn 111 (.pr X i))=true)(e:E.I F n=E.I F i):E.B F (.fn 111 (.pr X n))=true:=by
 simp_all[Gq]
theorem aKf(h:E.B F (.fn 113 (.pr m (.pr X (.pr i j))))=true)(e:E.I F n=E.I F i)(e':E.I F k=E.I F j):E.B F (.fn 113 (.pr m (.pr X (.pr n k))))=true:=by
 simp_all[zF]
theorem aDB(h0:0<=E.I F i):(aW (X.den F)).getD (E.I F i).toNat 0=E.I F (.fn 1 (.pr (.fn 1 (.pr X (.int 31))) i)):=by
 rw[fX];rfl
theorem sZ:((aW (X.den F)).length:Int)=E.I F (.fn 0 (.fn 1 (.pr X (.int 31)))):=by
 show(((cX _ 31).toL.map _).length:Int)=_
 rw[List.length_map];rfl
theorem ud:((dG (X.den F):Nat):Int)=E.I F (.fn 9 (.pr (.fn 1 (.pr X (.int 32))) (.int 2))):=rfl
theorem oF(h0:0<=E.I F i)(c:Nat):blk (X.den F) (E.I F i).toNat c=E.I F (.fn 1 (.pr (.fn 1 (.pr X (.int 32))) (.fn 6 (.pr (.fn 8 (.pr i (.int 2))) (.int (Int.ofNat c)))))):=by
 exact(lV (T:=.fn 1 (.pr X (.int 32))) i 2 c h0).symm
theorem aG4(h:E.B F (.fn 109 (.pr L (.pr X (.pr (.fn 1 (.pr X (.int 34))) (.int 2)))))=true):aH F L=fS (X.den F):=by
 rw[vi]at h
 rw[h];unfold fS cj
 have e:(E.I F (.fn 1 (.pr X (.int 34)))).toNat*4+(E.I F (.int 2)).toNat=4*(iX (X.den F) 34).toNat+2:=by
  have:E.I F (.fn 1 (.pr X (.int 34)))=iX (X.den F) 34:=rfl
  have:(E.I F (.int 2)).toNat=2:=rfl
  omega
 rw[e]
theorem aGY(h:E.B F (.fn 109 (.pr L (.pr X (.pr (.fn 7 (.pr (.int 1) (.fn 1 (.pr X (.int 34))))) (.int 2)))))=true)(h0:0<=E.I F (.fn 1 (.pr X (.int 34)))):aH F L=fk (X.den F):=by
 rw[vi]at h
 rw[h];unfold fk cj
 have e:(E.I F (.fn 7 (.pr (.int 1) (.fn 1 (.pr X (.int 34)))))).toNat*4+(E.I F (.int 2)).toNat=4*(1-(iX (X.den F) 34).toNat)+2:=by
  have e1:E.I F (.fn 7 (.pr (.int 1) (.fn 1 (.pr X (.int 34)))))=1-iX (X.den F) 34:=rfl;have e2:E.I F (.fn 1 (.pr X (.int 34)))=iX (X.den F) 34:=rfl
  have:(E.I F (.int 2)).toNat=2:=rfl
  omega
 rw[e]
/-- an attacker -/
theorem F7(hp:E.B F (.fn 108 X)=true)(ha:0<=E.I F (.fn 1 (.pr X (.int 34))))(ha':E.I F (.fn 1 (.pr X (.int 34)))<=1)(hs:E.B F (.fn 113 (.pr m (.pr X (.pr i (.int 0)))))=true)(h:E.B F (.fn 111 (.pr X i))=true)
    (h0:0<=E.I F i)(hi:E.I F i<E.I F (.fn 0 (.fn 1 (.pr X (.int 31)))))(hL:E.B F (.fn 109 (.pr L (.pr X (.pr (.fn 1 (.pr X (.int 34))) (.int 2)))))=true)(hm:E.I F n=E.I F i+1):
    (E.B F (.fn 32 (.pr m (.pr (.fn 1 (.pr (.fn 1 (.pr X (.int 31))) i)) (.bool false))))=true->¬E.B F (.fn 110 X)=true)/\
    (¬E.B F (.fn 114 (.pr L (.fn 1 (.pr (.fn 1 (.pr X (.int 31))) i))))=true->¬E.B F (.fn 110 X)=true)/\
    (¬E.B F (.fn 32 (.pr m (.pr (.fn 1 (.pr (.fn 1 (.pr X (.int 31))) i)) (.bool false))))=true->E.B F (.fn 114 (.pr L (.fn 1 (.pr (.fn 1 (.pr X (.int 31))) i))))=true->E.B F (.fn 111 (.pr X n))=true/\
      E.B F (.fn 113 (.pr (.fn 34 (.pr m (.pr (.fn 1 (.pr (.fn 1 (.pr X (.int 31))) i)) (.bool true)))) (.pr X (.pr n (.int 0)))))=true):=by
  have hl:=aG4 hL
  rw[rK]at hp
  rw[<- sZ]at hi
  have hi':(E.I F i).toNat<(aW (X.den F)).length:=by omega
  have e1:(E.I F n).toNat=(E.I F i).toNat+1:=by omega
  have ha2:cj (X.den F)<=1:=by
    have:E.I F (.fn 1 (.pr X (.int 34)))=iX (X.den F) 34:=rfl
    simp_all[cj]
  have z0:(E.I F (.int 0)).toNat=0:=rfl
  rw[Oi,nX,Gp,Gq,zF,sg,hl,e1,z0,<- aDB (X:=X) h0]
  exact⟨fun hv=>aDF hs hi' hv,fun ho=>aDC hi' ho,fun hv ho=>⟨aDE h hp ha2 hs hi' hv ho,aDD hp ha2 hs hi' ho⟩⟩
/-- a block -/
theorem u6{nk:E}(hp:E.B F (.fn 108 X)=true)(ha:0<=E.I F (.fn 1 (.pr X (.int 34))))(ha':E.I F (.fn 1 (.pr X (.int 34)))<=1)(hs:E.B F (.fn 113 (.pr m (.pr X (.pr (.fn 0 (.fn 1 (.pr X (.int 31)))) j))))=true)(h:E.B F (.fn 111 (.pr X (.fn 0 (.fn 1 (.pr X (.int 31))))))=true)
    (hb:E.B F (.fn 112 (.pr X j))=true)(h0:0<=E.I F j)(hj:E.I F j<E.I F (.fn 9 (.pr (.fn 1 (.pr X (.int 32))) (.int 2))))(hL:E.B F (.fn 109 (.pr L (.pr X (.pr (.fn 7 (.pr (.int 1) (.fn 1 (.pr X (.int 34))))) (.int 2)))))=true)(hm:E.I F n=E.I F j+1)
    {t b:E}(et:t= .fn 1 (.pr (.fn 1 (.pr X (.int 32))) (.fn 6 (.pr (.fn 8 (.pr j (.int 2))) (.int 1)))))(eb:b= .fn 1 (.pr (.fn 1 (.pr X (.int 32))) (.fn 6 (.pr (.fn 8 (.pr j (.int 2))) (.int 0)))))
    (hk:1<=E.I F b->E.I F b<=500->E.I F nk= -(E.I F b)):
    (¬E.B F (.fn 32 (.pr m (.pr t (.bool false))))=true->¬E.B F (.fn 110 X)=true)/\
    (E.B F (.fn 32 (.pr m (.pr nk (.bool false))))=true->¬E.B F (.fn 110 X)=true)/\
    (¬E.B F (.fn 114 (.pr (.fn 1 (.pr X (.int 31))) t))=true->¬E.B F (.fn 110 X)=true)/\
    (¬E.B F (.fn 114 (.pr L b))=true->¬E.B F (.fn 110 X)=true)/\
    (E.B F (.fn 32 (.pr m (.pr t (.bool false))))=true->¬E.B F (.fn 32 (.pr m (.pr nk (.bool false))))=true->E.B F (.fn 114 (.pr (.fn 1 (.pr X (.int 31))) t))=true->E.B F (.fn 114 (.pr L b))=true->
      E.B F (.fn 112 (.pr X n))=true/\E.B F (.fn 113 (.pr (.fn 34 (.pr (.fn 34 (.pr m (.pr t (.bool false)))) (.pr nk (.bool true)))) (.pr X (.pr (.fn 0 (.fn 1 (.pr X (.int 31)))) n))))=true):=by
  subst et;subst eb;have hl:=aGY hL ha
  rw[rK]at hp
  rw[zF]at hs
  rw[Gq]at h
  rw[<- ud]at hj
  have hj':(E.I F j).toNat<dG (X.den F):=by omega
  have e1:(E.I F n).toNat=(E.I F j).toNat+1:=by omega
  have ha2:cj (X.den F)<=1:=by
    have:E.I F (.fn 1 (.pr X (.int 34)))=iX (X.den F) 34:=rfl
    simp_all[cj]
  have el:(E.I F (.fn 0 (.fn 1 (.pr X (.int 31))))).toNat=(aW (X.den F)).length:=by grind[sZ]
  have ea:aH F (.fn 1 (.pr X (.int 31)))=aW _:=rfl
  rw[el]at hs h
  have b0:=oF (X:=X) h0 0;have b1:=oF (X:=X) h0 1;have c0:(Int.ofNat 0)=0:=rfl;have c1:(Int.ofNat 1)=1:=rfl
  rw[c0]at b0
  rw[c1]at b1
  rw[<- b0]at hk
  rw[Oi,Oi,nX,nX,Gp,agw,zF,sg,sg,hl,e1,el,ea,<- b0,<- b1]
  exact⟨fun hv=>aDM hp ha2 h hs hj' hv,fun hv=>aDN hp hs hj' hk hv,fun hv=>aDO hj' hv,fun hv=>aDP hj' hv,fun hv hn h1 h2=>aDQ hp ha2 h hb hs hj' hv hk hn h1 h2⟩
theorem ue{b:E}(h:1<=E.I F b)(h':E.I F b<=500):E.I F (.ar .sub .i64 (.int 0) b)=-(E.I F b):=by
 have e:E.I F (.ar .sub _ (.int 0) b)=IntKind.i64.wrap (0-E.I F b):=rfl
 obtain⟨s,e,q,r⟩:=ab (0-E.I F b)
 omega
theorem aLp(h:E.B F (.fn 111 (.pr X (.fn 0 (.fn 1 (.pr X (.int 31))))))=true)(hb:E.B F (.fn 112 (.pr X j))=true)(h1:E.I F (.fn 9 (.pr (.fn 1 (.pr X (.int 32))) (.int 2)))=E.I F j):E.B F (.fn 110 X)=true:=by
 have el:(E.I F (.fn 0 (.fn 1 (.pr X (.int 31))))).toNat=(aW (X.den F)).length:=by grind[sZ]
 grind[Gq,agw,ud,Gp,tq]
/-! valid boards -/
theorem bQ:(E.B F (.fn 115 X)=true)=(0<=E.I F (.fn 1 (.pr X (.int 34)))/\E.I F (.fn 1 (.pr X (.int 34)))<=1/\0<=E.I F (.fn 1 (.pr X (.int 33)))/\E.I F (.fn 1 (.pr X (.int 33)))<=1000/\0<=E.I F (.fn 1 (.pr X (.int 35)))/\E.I F (.fn 1 (.pr X (.int 35)))<=10/\-1<=E.I F (.fn 1 (.pr X (.int 36)))/\E.I F (.fn 1 (.pr X (.int 36)))<=1/\0<=E.I F (.fn 1 (.pr X (.int 37)))/\E.I F (.fn 1 (.pr X (.int 37)))<=2/\E.I F (.fn 9 (.pr (.fn 1 (.pr X (.int 0))) (.int 12)))<=500/\E.I F (.fn 9 (.pr (.fn 1 (.pr X (.int 29))) (.int 5)))<=200/\E.I F (.fn 9 (.pr (.fn 1 (.pr X (.int 30))) (.int 5)))<=200/\0<=E.I F (.fn 1 (.pr X (.int 1)))/\E.I F (.fn 1 (.pr X (.int 1)))<=9999/\0<=E.I F (.fn 1 (.pr X (.int 2)))/\E.I F (.fn 1 (.pr X (.int 2)))<=99/\0<=E.I F (.fn 1 (.pr X (.int 3)))/\E.I F (.fn 1 (.pr X (.int 3)))<=99/\0<=E.I F (.fn 1 (.pr X (.int 4)))/\E.I F (.fn 1 (.pr X (.int 4)))<=99/\0<=E.I F (.fn 1 (.pr X (.int 5)))/\E.I F (.fn 1 (.pr X (.int 5)))<=99/\0<=E.I F (.fn 1 (.pr X (.int 13)))/\E.I F (.fn 1 (.pr X (.int 13)))<=7/\0<=E.I F (.fn 1 (.pr X (.int 14)))/\E.I F (.fn 1 (.pr X (.int 14)))<=255/\0<=E.I F (.fn 1 (.pr X (.int 15)))/\E.I F (.fn 1 (.pr X (.int 15)))<=9999/\0<=E.I F (.fn 1 (.pr X (.int 16)))/\E.I F (.fn 1 (.pr X (.int 16)))<=99/\0<=E.I F (.fn 1 (.pr X (.int 17)))/\E.I F (.fn 1 (.pr X (.int 17)))<=99/\0<=E.I F (.fn 1 (.pr X (.int 18)))/\E.I F (.fn 1 (.pr X (.int 18)))<=99/\0<=E.I F (.fn 1 (.pr X (.int 19)))/\E.I F (.fn 1 (.pr X (.int 19)))<=99/\0<=E.I F (.fn 1 (.pr X (.int 27)))/\E.I F (.fn 1 (.pr X (.int 27)))<=7/\0<=E.I F (.fn 1 (.pr X (.int 28)))/\E.I F (.fn 1 (.pr X (.int 28)))<=255/\E.B F (.fn 103 (.pr (.fn 1 (.pr X (.int 29))) (.pr (.bool false) (.fn 9 (.pr (.fn 1 (.pr X (.int 29))) (.int 5))))))=true/\E.B F (.fn 103 (.pr (.fn 1 (.pr X (.int 30))) (.pr (.bool true) (.fn 9 (.pr (.fn 1 (.pr X (.int 30))) (.int 5))))))=true/\E.B F (.fn 108 X)=true/\E.B F (.fn 110 X)=true):=by
 show(rF _=true)=_
 have e34:E.I F (.fn 1 (.pr X (.int 34)))=iX (X.den F) 34:=rfl;have e33:E.I F (.fn 1 (.pr X (.int 33)))=iX (X.den F) 33:=rfl;have e35:E.I F (.fn 1 (.pr X (.int 35)))=iX (X.den F) 35:=rfl;have e36:E.I F (.fn 1 (.pr X (.int 36)))=iX (X.den F) 36:=rfl;have e37:E.I F (.fn 1 (.pr X (.int 37)))=iX (X.den F) 37:=rfl;have e1:E.I F (.fn 1 (.pr X (.int 1)))=iX (X.den F) 1:=rfl;have e2:E.I F (.fn 1 (.pr X (.int 2)))=iX (X.den F) 2:=rfl;have e3:E.I F (.fn 1 (.pr X (.int 3)))=iX (X.den F) 3:=rfl;have e4:E.I F (.fn 1 (.pr X (.int 4)))=iX (X.den F) 4:=rfl;have e5:E.I F (.fn 1 (.pr X (.int 5)))=iX (X.den F) 5:=rfl;have e13:E.I F (.fn 1 (.pr X (.int 13)))=iX (X.den F) 13:=rfl;have e14:E.I F (.fn 1 (.pr X (.int 14)))=iX (X.den F) 14:=rfl;have e15:E.I F (.fn 1 (.pr X (.int 15)))=iX (X.den F) 15:=rfl;have e16:E.I F (.fn 1 (.pr X (.int 16)))=iX (X.den F) 16:=rfl;have e17:E.I F (.fn 1 (.pr X (.int 17)))=iX (X.den F) 17:=rfl;have e18:E.I F (.fn 1 (.pr X (.int 18)))=iX (X.den F) 18:=rfl;have e19:E.I F (.fn 1 (.pr X (.int 19)))=iX (X.den F) 19:=rfl;have e27:E.I F (.fn 1 (.pr X (.int 27)))=iX (X.den F) 27:=rfl;have e28:E.I F (.fn 1 (.pr X (.int 28)))=iX (X.den F) 28:=rfl;have q0:E.I F (.fn 9 (.pr (.fn 1 (.pr X (.int 0))) (.int 12)))=aD (X.den F):=rfl;have q29:E.I F (.fn 9 (.pr (.fn 1 (.pr X (.int 29))) (.int 5)))=cv (X.den F):=rfl;have q30:E.I F (.fn 9 (.pr (.fn 1 (.pr X (.int 30))) (.int 5)))=((cX (X.den F) 30).toL.length/5:Nat):=rfl;have l29:E.L F (.fn 1 (.pr X (.int 29)))=(cX (X.den F) 29).toL:=rfl;have l30:E.L F (.fn 1 (.pr X (.int 30)))=(cX (X.den F) 30).toL:=rfl;have bt:E.B F (.bool _)=true:=rfl;have bf:E.B F (.bool _)=false:=rfl;have za:(E.B F (.fn 108 X)=true)=(cW _=true):=rfl;have zb:(E.B F (.fn 110 X)=true)=(gJ _=true):=rfl
 rw[za,zb,rJ,rJ,l29,l30,bt,bf,q29,q30,q0,e34,e33,e35,e36,e37,e1,e2,e3,e4,e5,e13,e14,e15,e16,e17,e18,e19,e27,e28,Int.toNat_natCast,Int.toNat_natCast]
 unfold rF ui rx tL;simp only[Bool.and_eq_true,jt,List.all_cons];grind
theorem ck:(E.B F (.fn 130 X)=true)=(0<=E.I F (.fn 1 (.pr X (.int 34)))/\E.I F (.fn 1 (.pr X (.int 34)))<=1/\0<=E.I F (.fn 1 (.pr X (.int 33)))/\E.I F (.fn 1 (.pr X (.int 33)))<=1000/\0<=E.I F (.fn 1 (.pr X (.int 35)))/\E.I F (.fn 1 (.pr X (.int 35)))<=10/\-1<=E.I F (.fn 1 (.pr X (.int 36)))/\E.I F (.fn 1 (.pr X (.int 36)))<=1/\0<=E.I F (.fn 1 (.pr X (.int 37)))/\E.I F (.fn 1 (.pr X (.int 37)))<=2/\E.I F (.fn 9 (.pr (.fn 1 (.pr X (.int 0))) (.int 12)))<=500/\E.I F (.fn 9 (.pr (.fn 1 (.pr X (.int 29))) (.int 5)))<=200/\E.I F (.fn 9 (.pr (.fn 1 (.pr X (.int 30))) (.int 5)))<=200/\0<=E.I F (.fn 1 (.pr X (.int 1)))/\E.I F (.fn 1 (.pr X (.int 1)))<=9999/\0<=E.I F (.fn 1 (.pr X (.int 2)))/\E.I F (.fn 1 (.pr X (.int 2)))<=99/\0<=E.I F (.fn 1 (.pr X (.int 3)))/\E.I F (.fn 1 (.pr X (.int 3)))<=99/\0<=E.I F (.fn 1 (.pr X (.int 4)))/\E.I F (.fn 1 (.pr X (.int 4)))<=99/\0<=E.I F (.fn 1 (.pr X (.int 5)))/\E.I F (.fn 1 (.pr X (.int 5)))<=99/\0<=E.I F (.fn 1 (.pr X (.int 13)))/\E.I F (.fn 1 (.pr X (.int 13)))<=7/\0<=E.I F (.fn 1 (.pr X (.int 14)))/\E.I F (.fn 1 (.pr X (.int 14)))<=255/\0<=E.I F (.fn 1 (.pr X (.int 15)))/\E.I F (.fn 1 (.pr X (.int 15)))<=9999/\0<=E.I F (.fn 1 (.pr X (.int 16)))/\E.I F (.fn 1 (.pr X (.int 16)))<=99/\0<=E.I F (.fn 1 (.pr X (.int 17)))/\E.I F (.fn 1 (.pr X (.int 17)))<=99/\0<=E.I F (.fn 1 (.pr X (.int 18)))/\E.I F (.fn 1 (.pr X (.int 18)))<=99/\0<=E.I F (.fn 1 (.pr X (.int 19)))/\E.I F (.fn 1 (.pr X (.int 19)))<=99/\0<=E.I F (.fn 1 (.pr X (.int 27)))/\E.I F (.fn 1 (.pr X (.int 27)))<=7/\0<=E.I F (.fn 1 (.pr X (.int 28)))/\E.I F (.fn 1 (.pr X (.int 28)))<=255/\E.B F (.fn 103 (.pr (.fn 1 (.pr X (.int 29))) (.pr (.bool false) (.fn 9 (.pr (.fn 1 (.pr X (.int 29))) (.int 5))))))=true/\E.B F (.fn 103 (.pr (.fn 1 (.pr X (.int 30))) (.pr (.bool true) (.fn 9 (.pr (.fn 1 (.pr X (.int 30))) (.int 5))))))=true/\E.B F (.fn 125 X)=true/\E.B F (.fn 129 X)=true):=by
 show(rG _=true)=_
 have e34:E.I F (.fn 1 (.pr X (.int 34)))=iX (X.den F) 34:=rfl;have e33:E.I F (.fn 1 (.pr X (.int 33)))=iX (X.den F) 33:=rfl;have e35:E.I F (.fn 1 (.pr X (.int 35)))=iX (X.den F) 35:=rfl;have e36:E.I F (.fn 1 (.pr X (.int 36)))=iX (X.den F) 36:=rfl;have e37:E.I F (.fn 1 (.pr X (.int 37)))=iX (X.den F) 37:=rfl;have e1:E.I F (.fn 1 (.pr X (.int 1)))=iX (X.den F) 1:=rfl;have e2:E.I F (.fn 1 (.pr X (.int 2)))=iX (X.den F) 2:=rfl;have e3:E.I F (.fn 1 (.pr X (.int 3)))=iX (X.den F) 3:=rfl;have e4:E.I F (.fn 1 (.pr X (.int 4)))=iX (X.den F) 4:=rfl;have e5:E.I F (.fn 1 (.pr X (.int 5)))=iX (X.den F) 5:=rfl;have e13:E.I F (.fn 1 (.pr X (.int 13)))=iX (X.den F) 13:=rfl;have e14:E.I F (.fn 1 (.pr X (.int 14)))=iX (X.den F) 14:=rfl;have e15:E.I F (.fn 1 (.pr X (.int 15)))=iX (X.den F) 15:=rfl;have e16:E.I F (.fn 1 (.pr X (.int 16)))=iX (X.den F) 16:=rfl;have e17:E.I F (.fn 1 (.pr X (.int 17)))=iX (X.den F) 17:=rfl;have e18:E.I F (.fn 1 (.pr X (.int 18)))=iX (X.den F) 18:=rfl;have e19:E.I F (.fn 1 (.pr X (.int 19)))=iX (X.den F) 19:=rfl;have e27:E.I F (.fn 1 (.pr X (.int 27)))=iX (X.den F) 27:=rfl;have e28:E.I F (.fn 1 (.pr X (.int 28)))=iX (X.den F) 28:=rfl;have q0:E.I F (.fn 9 (.pr (.fn 1 (.pr X (.int 0))) (.int 12)))=aD (X.den F):=rfl;have q29:E.I F (.fn 9 (.pr (.fn 1 (.pr X (.int 29))) (.int 5)))=cv (X.den F):=rfl;have q30:E.I F (.fn 9 (.pr (.fn 1 (.pr X (.int 30))) (.int 5)))=((cX (X.den F) 30).toL.length/5:Nat):=rfl;have l29:E.L F (.fn 1 (.pr X (.int 29)))=(cX (X.den F) 29).toL:=rfl;have l30:E.L F (.fn 1 (.pr X (.int 30)))=(cX (X.den F) 30).toL:=rfl;have bt:E.B F (.bool _)=true:=rfl;have bf:E.B F (.bool _)=false:=rfl;have za:(E.B F (.fn 125 X)=true)=(qP _=true):=rfl;have zb:(E.B F (.fn 129 X)=true)=(qK _=true):=rfl
 rw[za,zb,rJ,rJ,l29,l30,bt,bf,q29,q30,q0,e34,e33,e35,e36,e37,e1,e2,e3,e4,e5,e13,e14,e15,e16,e17,e18,e19,e27,e28,Int.toNat_natCast,Int.toNat_natCast]
 unfold rG ui rx tL;simp only[Bool.and_eq_true,jt,List.all_cons];grind
end
end Go.SX

set_option linter.unusedVariables false
set_option linter.unusedSimpArgs false
namespace Go.SX
/-! ### all objects in just one place: the program's way -/
theorem afs(X:U)(s:Nat):iq X (s+1)=iq X s++if nI (cX X 29).toL (s*5+3)<0 then [(nI (cX X 29).toL (s*5+1),nI (cX X 29).toL (s*5))] else []:=by
 grind[iq,FE]
theorem aJP(X:U)(s:Nat):gR X (s+1)=gR X s++if nI (cX X 29).toL (s*5+3)<0 then [(nI (cX X 29).toL (s*5+1),nI (cX X 29).toL (s*5+2))] else []:=by
 grind[gR,FE]
theorem Nk(X:U)(s:Nat):(gR X s).map Prod.fst=(iq X s).map Prod.fst:=by
 simp_all[gR,iq]
theorem aJR(X:U):iq X 0=[]:=by rfl
theorem Eg{m:List U}{l:List (Int×Int)}(h:gM m l=true)(k:Int):(cG k m).isSome=true↔k∈l.map Prod.fst:=by
 simp_all[yI,L7]
section
variable {F:Env} {x y l A a b k u i j p q n m r o c d w v X T N L L2 mc s p' q' i':E}
theorem zM:E.B F (.fn 33 (.pr m k))=(cG (E.I F k) (E.L F m)).isSome:=rfl
theorem Gn:(E.B F (.fn 104 (.pr m (.pr X (.pr p (.pr q i)))))=true)=(gM (E.L F m) (eF (X.den F) ((E.I F p).toNat*4+(E.I F q).toNat) (E.I F i).toNat)=true):=rfl
theorem vg:(E.B F (.fn 105 (.pr m (.pr X s)))=true)=(gM (E.L F m) (eF (X.den F) 8 0++iq (X.den F) (E.I F s).toNat)=true):=rfl
theorem zD:(E.B F (.fn 106 (.pr m (.pr X s)))=true)=(gM (E.L F m) (gR (X.den F) (E.I F s).toNat)=true):=rfl
theorem NX:(E.B F (.fn 107 (.pr X n))=true)=(uk (X.den F) (E.I F n).toNat=true):=rfl
theorem afC(h:E.B F (.fn 104 (.pr m (.pr X (.pr p (.pr q i)))))=true)(h1:0<=E.I F p)(h2:0<=E.I F q)(h3:0<=E.I F p')(h4:0<=E.I F q')(hk:E.I F p'*4+E.I F q'=E.I F p*4+E.I F q)(hi:E.I F i'=E.I F i):
  E.B F (.fn 104 (.pr m (.pr X (.pr p' (.pr q' i')))))=true:=by
 grind[Gn]
theorem aKa(h:E.B F (.fn 104 (.pr m (.pr X (.pr p (.pr q i)))))=true)(hL:E.B F (.fn 109 (.pr L (.pr X (.pr p q))))=true)(h2:0<=E.I F q)(hi:E.I F i=E.I F (.fn 0 L))(hq:E.I F q'=E.I F q+1)(hz:E.I F i'=0):
  E.B F (.fn 104 (.pr m (.pr X (.pr p (.pr q' i')))))=true:=by
 grind[Gn,vi,b9,aHc]
theorem FQ(h:E.B F (.fn 104 (.pr m (.pr X (.pr p (.pr q i)))))=true)(hL:E.B F (.fn 109 (.pr L (.pr X (.pr p q))))=true)(h0:0<=E.I F p)(h1:0<=E.I F q)(h2:E.I F q<4)(hi:0<=E.I F i)(hi':E.I F i<E.I F (.fn 0 L))(hn:E.I F n=E.I F i+1)(hp:E.I F p<=1):
  (¬E.B F (.fn 33 (.pr m (.fn 1 (.pr L i))))=true->E.B F (.fn 104 (.pr (.fn 34 (.pr m (.pr (.fn 1 (.pr L i)) p))) (.pr X (.pr p (.pr q n)))))=true)/\
  (E.B F (.fn 33 (.pr m (.fn 1 (.pr L i))))=true->¬E.B F (.fn 108 X)=true):=by
 rw[Gn]at *
 rw[vi]at hL
 have ei:(E.I F n).toNat=(E.I F i).toNat+1:=by omega
 have hlt:(E.I F i).toNat<(aV (X.den F) ((E.I F p).toNat*4+(E.I F q).toNat)).length:=by grind[b9]
 have ek:((E.I F p).toNat*4+(E.I F q).toNat)/4=(E.I F p).toNat:=by omega
 have hs:=aHd _ _ _ hlt
 rw[ek,<- hL,<- fX,Int.toNat_of_nonneg h0]at hs
 refine⟨fun hn'=>?_,fun ht=>?_⟩
 ·rw[ei,sg,hs]
  exact L5 h hn'
 ·rw[zM,Eg h]at ht
  rw[rK]
  refine adH (k:=E.I F _) (v:=E.I F p) ?_ ht
  have:=E8 (X.den F) ((E.I F p).toNat*4+(E.I F q).toNat) ((E.I F i).toNat+1) (by omega)
  simp_all
theorem aKc(h:E.B F (.fn 104 (.pr m (.pr X (.pr p (.pr q i)))))=true)(h1:E.I F p=2)(h2:E.I F q=0)(h3:E.I F i=0)(hs:E.I F s=0):E.B F (.fn 105 (.pr m (.pr X s)))=true:=by
 rw[Gn,h1,h2,h3]at h
 rw[vg,hs]
 have e:(0:Int).toNat=0:=rfl
 rw[e,aJR,List.append_nil];exact h
theorem aKb(h:E.B F (.fn 105 (.pr m (.pr X s)))=true)(e:E.I F n=E.I F s):E.B F (.fn 105 (.pr m (.pr X n)))=true:=by
 simp_all[vg]
theorem aKd(h:E.B F (.fn 106 (.pr m (.pr X s)))=true)(e:E.I F n=E.I F s):E.B F (.fn 106 (.pr m (.pr X n)))=true:=by
 simp_all[zD]
theorem ky(h0:0<=E.I F s)(c:Nat):nI (cX (X.den F) 29).toL ((E.I F s).toNat*5+c)=E.I F (.fn 1 (.pr (.fn 1 (.pr X (.int 29))) (.fn 6 (.pr (.fn 8 (.pr s (.int 5))) (.int (Int.ofNat c)))))):=
 (lV (T:=.fn 1 (.pr X (.int 29))) s 5 c h0).symm
theorem zw(h:E.B F (.fn 105 (.pr m (.pr X s)))=true)(h':E.B F (.fn 106 (.pr mc (.pr X s)))=true)(h0:0<=E.I F s)(h1:E.I F s<E.I F (.fn 9 (.pr (.fn 1 (.pr X (.int 29))) (.int 5))))(hn:E.I F n=E.I F s+1)
  {pl id cd tr:E}(e0:pl=.fn 1 (.pr (.fn 1 (.pr X (.int 29))) (.fn 6 (.pr (.fn 8 (.pr s (.int 5))) (.int 0)))))(e1:id=.fn 1 (.pr (.fn 1 (.pr X (.int 29))) (.fn 6 (.pr (.fn 8 (.pr s (.int 5))) (.int 1)))))
  (e2:cd=.fn 1 (.pr (.fn 1 (.pr X (.int 29))) (.fn 6 (.pr (.fn 8 (.pr s (.int 5))) (.int 2)))))(e3:tr=.fn 1 (.pr (.fn 1 (.pr X (.int 29))) (.fn 6 (.pr (.fn 8 (.pr s (.int 5))) (.int 3))))):
  (¬E.I F tr<0->E.B F (.fn 105 (.pr m (.pr X n)))=true/\E.B F (.fn 106 (.pr mc (.pr X n)))=true)/\
  (E.I F tr<0->E.B F (.fn 33 (.pr m id))=true->¬E.B F (.fn 108 X)=true)/\
  (E.I F tr<0->¬E.B F (.fn 33 (.pr m id))=true->E.B F (.fn 105 (.pr (.fn 34 (.pr m (.pr id pl))) (.pr X n)))=true/\E.B F (.fn 106 (.pr (.fn 34 (.pr mc (.pr id cd))) (.pr X n)))=true):=by
 subst e0;subst e1;subst e2;subst e3
 rw[vg]at h
 rw[zD]at h'
 have hs:(E.I F s).toNat<cv (X.den F):=by
  have:E.I F (.fn 9 (.pr (.fn 1 (.pr X (.int 29))) (.int 5)))=cv (X.den F):=rfl
  omega
 have en:(E.I F n).toNat=(E.I F s).toNat+1:=by omega
 have c0:=ky (X:=X) h0 0;have c1:=ky (X:=X) h0 1;have c2:=ky (X:=X) h0 2;have c3:=ky (X:=X) h0 3;simp only[Nat.add_zero]at c0;have k3:(Int.ofNat 3)=3:=rfl
 rw[k3]at c3
 have sp:=afs (X.den F) (E.I F s).toNat;have sc:=aJP (X.den F) (E.I F s).toNat
 rw[c0,c1,c3]at sp
 rw[c1,c2,c3]at sc
 refine⟨fun ht=>?_,fun ht hb=>?_,fun ht hb=>?_⟩
 ·simp_all[vg,zD]
 ·rw[zM,Eg h]at hb
  rw[rK]
  refine adH (k:=E.I F _) (v:=E.I F (.fn 1 (.pr (.fn 1 (.pr X (.int 29))) (.fn 6 (.pr (.fn 8 (.pr s (.int 5))) (.int 0)))))) ?_ hb;grind[aJQ]
 ·rw[if_pos ht]at sp sc
  rw[zM]at hb
  rw[vg,zD,en,sp,sc,sg,sg,<- List.append_assoc]
  refine⟨L5 h hb,L5 h' ?_⟩
  rw[Eg h,List.map_append,List.mem_append]at hb
  grind[Eg,Nk]
theorem dV(h0:0<=E.I F i)(c:Nat):oI (X.den F) (E.I F i).toNat c=E.I F (.fn 1 (.pr (.fn 1 (.pr X (.int 0))) (.fn 6 (.pr (.fn 8 (.pr i (.int 12))) (.int (Int.ofNat c)))))):=
 (lV (T:=.fn 1 (.pr X (.int 0))) i 12 c h0).symm
theorem ab5{l:List (Int×Int)}(h:gM (E.L F m) l=true)(hb:E.B F (.fn 33 (.pr m k))=true):fg l (E.I F k)=some (E.I F (.fn 32 (.pr m (.pr k (.int 0))))):=by
 rw[yI]at h
 rw[zM]at hb
 rw[<- h.1,<- Ei]
 have e:E.I F (.fn 32 (.pr m (.pr k (.int 0))))=((cG (E.I F k) (E.L F m)).getD _).toI:=rfl
 rw[e]
 cases hc:cG _ _ with
 |none=>simp_all
 |some v=>rfl
theorem ab6{l:List (Int×Int)}(h:gM (E.L F m) l=true)(hb:¬E.B F (.fn 33 (.pr m k))=true):fg l (E.I F k)=none:=by
 rw[yI]at h
 rw[zM]at hb
 rw[<- h.1,<- Ei]
 simp_all
theorem rr{Y:U}(h:cW Y=true):uk Y (aD Y)=true:=by
 simp_all[cW]
/-- an object -/
theorem aLt(hm:E.B F (.fn 105 (.pr m (.pr X (.fn 9 (.pr (.fn 1 (.pr X (.int 29))) (.int 5))))))=true)(hc:E.B F (.fn 106 (.pr mc (.pr X (.fn 9 (.pr (.fn 1 (.pr X (.int 29))) (.int 5))))))=true)(h:E.B F (.fn 107 (.pr X i))=true)
    (h0:0<=E.I F i)(hi:E.I F i<E.I F (.fn 9 (.pr (.fn 1 (.pr X (.int 0))) (.int 12))))(hn:E.I F n=E.I F i+1){t:E}(ht:0<E.I F i->E.I F t=E.I F i-1){C:Prop}{f:Nat->E}(hf:f=fun j=> .fn 1 (.pr (.fn 1 (.pr X (.int 0))) (.fn 6 (.pr (.fn 8 (.pr i (.int 12))) (.int (Int.ofNat j))))))
    (hC:C↔(1<=E.I F (f 0)/\E.I F (f 0)<=500/\ -1<=E.I F (f 1)/\E.I F (f 1)<=399/\0<=E.I F (f 2)/\E.I F (f 2)<=1/\(E.I F (f 1)= -1\/(E.I F (f 3)=0/\E.I F (f 4)=0))/\
      0<=E.I F (f 3)/\E.I F (f 3)<=99/\0<=E.I F (f 4)/\E.I F (f 4)<=99/\0<=E.I F (f 5)/\E.I F (f 5)<=99/\0<=E.I F (f 6)/\E.I F (f 6)<=99/\0<=E.I F (f 7)/\E.I F (f 7)<=99/\0<=E.I F (f 8)/\E.I F (f 8)<=99)/\
      (E.I F i=0\/E.I F (.fn 1 (.pr (.fn 1 (.pr X (.int 0))) (.fn 6 (.pr (.fn 8 (.pr t (.int 12))) (.int 0)))))<E.I F (f 0))/\
      (E.B F (.fn 33 (.pr m (f 0)))=true/\E.I F (.fn 32 (.pr m (.pr (f 0) (.int 0))))=E.I F (f 2))/\(E.B F (.fn 33 (.pr mc (f 0)))=true->E.I F (.fn 32 (.pr mc (.pr (f 0) (.int 0))))=E.I F (f 1))):
    (C->E.B F (.fn 107 (.pr X n))=true)/\(¬C->¬E.B F (.fn 108 X)=true):=by
  rw[vg]at hm
  rw[zD]at hc
  have es:(E.I F (.fn 9 (.pr (.fn 1 (.pr X (.int 29))) (.int 5)))).toNat=cv (X.den F):=rfl
  rw[es]at hm hc
  have hall:gM (E.L F m) (cO (X.den F))=true:=hm;have hi':(E.I F i).toNat<aD (X.den F):=by
    have:E.I F (.fn 9 (.pr (.fn 1 (.pr X (.int 0))) (.int 12)))=((aD (X.den F):Nat):Int):=rfl
    omega
  have fc:∀j,E.I F (f j)=oI (X.den F) (E.I F i).toNat j:=by
    simp_all[dV]
  have hprev:(E.I F i=0\/E.I F (.fn 1 (.pr (.fn 1 (.pr X (.int 0))) (.fn 6 (.pr (.fn 8 (.pr t (.int 12))) (.int 0)))))<E.I F (f 0))↔((E.I F i).toNat=0\/oI (X.den F) ((E.I F i).toNat-1) 0<oI (X.den F) (E.I F i).toNat 0):=by
    by_cases hz:E.I F i=0
    · omega
    · have ht':=ht (by omega);have e:=dV (X:=X) (i:=t) (F:=F) (by omega) 0;grind
  have hown:(E.B F (.fn 33 (.pr m (f 0)))=true/\E.I F (.fn 32 (.pr m (.pr (f 0) (.int 0))))=E.I F (f 2))↔fg (cO (X.den F)) (oI (X.den F) (E.I F i).toNat 0)=some (oI (X.den F) (E.I F i).toNat 2):=by
    grind[E.B,ab5,ab6]
  have hcard:(E.B F (.fn 33 (.pr mc (f 0)))=true->E.I F (.fn 32 (.pr mc (.pr (f 0) (.int 0))))=E.I F (f 1))↔(∀c,fg (gR (X.den F) (cv (X.den F))) (oI (X.den F) (E.I F i).toNat 0)=some c->c=oI (X.den F) (E.I F i).toNat 1):=by
    grind[E.B,ab5,ab6]
  have key:C↔(rg (X.den F) (E.I F i).toNat=true/\((E.I F i).toNat=0\/oI (X.den F) ((E.I F i).toNat-1) 0<oI (X.den F) (E.I F i).toNat 0)/\fg (cO (X.den F)) (oI (X.den F) (E.I F i).toNat 0)=some (oI (X.den F) (E.I F i).toNat 2)/\(∀c,fg (gR (X.den F) (cv (X.den F))) (oI (X.den F) (E.I F i).toNat 0)=some c->c=oI (X.den F) (E.I F i).toNat 1)):=by
    grind[nD]
  rw[NX,jz]at h
  refine⟨fun hc'=>?_,fun hc' hp=>?_⟩
  · rw[NX,jz]
    intro k hk;by_cases e:k=(E.I F i).toNat
    · grind
    · exact h k (by omega)
  grind[rK,jz,rr]
theorem aLu(hm:E.B F (.fn 105 (.pr m (.pr X (.fn 9 (.pr (.fn 1 (.pr X (.int 29))) (.int 5))))))=true)(hc:E.B F (.fn 106 (.pr mc (.pr X (.fn 9 (.pr (.fn 1 (.pr X (.int 29))) (.int 5))))))=true)(h:E.B F (.fn 107 (.pr X i))=true)
  {t a0 a1 a2 a3 a4 a5 a6 a7 a8:E}(e0:a0=.fn 1 (.pr (.fn 1 (.pr X (.int 0))) (.fn 6 (.pr (.fn 8 (.pr i (.int 12))) (.int 0)))))(e1:a1=.fn 1 (.pr (.fn 1 (.pr X (.int 0))) (.fn 6 (.pr (.fn 8 (.pr i (.int 12))) (.int 1)))))(e2:a2=.fn 1 (.pr (.fn 1 (.pr X (.int 0))) (.fn 6 (.pr (.fn 8 (.pr i (.int 12))) (.int 2)))))(e3:a3=.fn 1 (.pr (.fn 1 (.pr X (.int 0))) (.fn 6 (.pr (.fn 8 (.pr i (.int 12))) (.int 3)))))(e4:a4=.fn 1 (.pr (.fn 1 (.pr X (.int 0))) (.fn 6 (.pr (.fn 8 (.pr i (.int 12))) (.int 4)))))(e5:a5=.fn 1 (.pr (.fn 1 (.pr X (.int 0))) (.fn 6 (.pr (.fn 8 (.pr i (.int 12))) (.int 5)))))(e6:a6=.fn 1 (.pr (.fn 1 (.pr X (.int 0))) (.fn 6 (.pr (.fn 8 (.pr i (.int 12))) (.int 6)))))(e7:a7=.fn 1 (.pr (.fn 1 (.pr X (.int 0))) (.fn 6 (.pr (.fn 8 (.pr i (.int 12))) (.int 7)))))(e8:a8=.fn 1 (.pr (.fn 1 (.pr X (.int 0))) (.fn 6 (.pr (.fn 8 (.pr i (.int 12))) (.int 8)))))
  (h0:0<=E.I F i)(hi:E.I F i<E.I F (.fn 9 (.pr (.fn 1 (.pr X (.int 0))) (.int 12))))(hn:E.I F n=E.I F i+1)(ht:0<E.I F i->E.I F t=E.I F i-1):
  (((1<=E.I F a0/\E.I F a0<=500/\-1<=E.I F a1/\E.I F a1<=399/\0<=E.I F a2/\E.I F a2<=1/\(E.I F a1=-1\/(E.I F a3=0/\E.I F a4=0))/\0<=E.I F a3/\E.I F a3<=99/\0<=E.I F a4/\E.I F a4<=99/\0<=E.I F a5/\E.I F a5<=99/\0<=E.I F a6/\E.I F a6<=99/\0<=E.I F a7/\E.I F a7<=99/\0<=E.I F a8/\E.I F a8<=99)/\(E.I F i=0\/E.I F (.fn 1 (.pr (.fn 1 (.pr X (.int 0))) (.fn 6 (.pr (.fn 8 (.pr t (.int 12))) (.int 0)))))<E.I F a0)/\(E.B F (.fn 33 (.pr m a0))=true/\E.I F (.fn 32 (.pr m (.pr a0 (.int 0))))=E.I F a2)/\(E.B F (.fn 33 (.pr mc a0))=true->E.I F (.fn 32 (.pr mc (.pr a0 (.int 0))))=E.I F a1))->E.B F (.fn 107 (.pr X n))=true)/\(¬((1<=E.I F a0/\E.I F a0<=500/\-1<=E.I F a1/\E.I F a1<=399/\0<=E.I F a2/\E.I F a2<=1/\(E.I F a1=-1\/(E.I F a3=0/\E.I F a4=0))/\0<=E.I F a3/\E.I F a3<=99/\0<=E.I F a4/\E.I F a4<=99/\0<=E.I F a5/\E.I F a5<=99/\0<=E.I F a6/\E.I F a6<=99/\0<=E.I F a7/\E.I F a7<=99/\0<=E.I F a8/\E.I F a8<=99)/\(E.I F i=0\/E.I F (.fn 1 (.pr (.fn 1 (.pr X (.int 0))) (.fn 6 (.pr (.fn 8 (.pr t (.int 12))) (.int 0)))))<E.I F a0)/\(E.B F (.fn 33 (.pr m a0))=true/\E.I F (.fn 32 (.pr m (.pr a0 (.int 0))))=E.I F a2)/\(E.B F (.fn 33 (.pr mc a0))=true->E.I F (.fn 32 (.pr mc (.pr a0 (.int 0))))=E.I F a1))->¬E.B F (.fn 108 X)=true):=by
 subst e0;subst e1;subst e2;subst e3;subst e4;subst e5;subst e6;subst e7;subst e8;exact aLt hm hc h h0 hi hn ht (f:=fun j=>.fn 1 _) rfl Iff.rfl
theorem cg{a0 a1 a2 a3 a4 a5 a6 a7 a8:E}:(E.B F (.fn 137 (.pr a0 (.pr a1 (.pr a2 (.pr a3 (.pr a4 (.pr a5 (.pr a6 (.pr a7 a8)))))))))=true)=(1<=E.I F a0/\E.I F a0<=500/\-1<=E.I F a1/\E.I F a1<=399/\0<=E.I F a2/\E.I F a2<=1/\(E.I F a1=-1\/(E.I F a3=0/\E.I F a4=0))/\0<=E.I F a3/\E.I F a3<=99/\0<=E.I F a4/\E.I F a4<=99/\0<=E.I F a5/\E.I F a5<=99/\0<=E.I F a6/\E.I F a6<=99/\0<=E.I F a7/\E.I F a7<=99/\0<=E.I F a8/\E.I F a8<=99):=by
 show(Mn (E.I F a0) (E.I F a1) (E.I F a2) (E.I F a3) (E.I F a4) (E.I F a5) (E.I F a6) (E.I F a7) (E.I F a8)=true)=_
 unfold Mn;simp only[List.all_cons,List.all_nil,Bool.and_eq_true,Bool.or_eq_true,jt,beq_iff_eq,and_assoc,and_true]
theorem jE(hm:E.B F (.fn 105 (.pr m (.pr X (.fn 9 (.pr (.fn 1 (.pr X (.int 29))) (.int 5))))))=true)(hc:E.B F (.fn 106 (.pr mc (.pr X (.fn 9 (.pr (.fn 1 (.pr X (.int 29))) (.int 5))))))=true)(h:E.B F (.fn 107 (.pr X i))=true)
  {t a0 a1 a2 a3 a4 a5 a6 a7 a8:E}(e0:a0=.fn 1 (.pr (.fn 1 (.pr X (.int 0))) (.fn 6 (.pr (.fn 8 (.pr i (.int 12))) (.int 0)))))(e1:a1=.fn 1 (.pr (.fn 1 (.pr X (.int 0))) (.fn 6 (.pr (.fn 8 (.pr i (.int 12))) (.int 1)))))(e2:a2=.fn 1 (.pr (.fn 1 (.pr X (.int 0))) (.fn 6 (.pr (.fn 8 (.pr i (.int 12))) (.int 2)))))(e3:a3=.fn 1 (.pr (.fn 1 (.pr X (.int 0))) (.fn 6 (.pr (.fn 8 (.pr i (.int 12))) (.int 3)))))(e4:a4=.fn 1 (.pr (.fn 1 (.pr X (.int 0))) (.fn 6 (.pr (.fn 8 (.pr i (.int 12))) (.int 4)))))(e5:a5=.fn 1 (.pr (.fn 1 (.pr X (.int 0))) (.fn 6 (.pr (.fn 8 (.pr i (.int 12))) (.int 5)))))(e6:a6=.fn 1 (.pr (.fn 1 (.pr X (.int 0))) (.fn 6 (.pr (.fn 8 (.pr i (.int 12))) (.int 6)))))(e7:a7=.fn 1 (.pr (.fn 1 (.pr X (.int 0))) (.fn 6 (.pr (.fn 8 (.pr i (.int 12))) (.int 7)))))(e8:a8=.fn 1 (.pr (.fn 1 (.pr X (.int 0))) (.fn 6 (.pr (.fn 8 (.pr i (.int 12))) (.int 8)))))
  (h0:0<=E.I F i)(hi:E.I F i<E.I F (.fn 9 (.pr (.fn 1 (.pr X (.int 0))) (.int 12))))(hn:E.I F n=E.I F i+1)(ht:0<E.I F i->E.I F t=E.I F i-1):
  (((E.B F (.fn 137 (.pr a0 (.pr a1 (.pr a2 (.pr a3 (.pr a4 (.pr a5 (.pr a6 (.pr a7 a8)))))))))=true)/\(E.I F i=0\/E.I F (.fn 1 (.pr (.fn 1 (.pr X (.int 0))) (.fn 6 (.pr (.fn 8 (.pr t (.int 12))) (.int 0)))))<E.I F a0)/\(E.B F (.fn 33 (.pr m a0))=true/\E.I F (.fn 32 (.pr m (.pr a0 (.int 0))))=E.I F a2)/\(E.B F (.fn 33 (.pr mc a0))=true->E.I F (.fn 32 (.pr mc (.pr a0 (.int 0))))=E.I F a1))->E.B F (.fn 107 (.pr X n))=true)/\(¬((E.B F (.fn 137 (.pr a0 (.pr a1 (.pr a2 (.pr a3 (.pr a4 (.pr a5 (.pr a6 (.pr a7 a8)))))))))=true)/\(E.I F i=0\/E.I F (.fn 1 (.pr (.fn 1 (.pr X (.int 0))) (.fn 6 (.pr (.fn 8 (.pr t (.int 12))) (.int 0)))))<E.I F a0)/\(E.B F (.fn 33 (.pr m a0))=true/\E.I F (.fn 32 (.pr m (.pr a0 (.int 0))))=E.I F a2)/\(E.B F (.fn 33 (.pr mc a0))=true->E.I F (.fn 32 (.pr mc (.pr a0 (.int 0))))=E.I F a1))->¬E.B F (.fn 108 X)=true):=by
 rw[cg]
 exact aLu hm hc h e0 e1 e2 e3 e4 e5 e6 e7 e8 h0 hi hn ht
theorem aLv(hm:E.B F (.fn 105 (.pr m (.pr X (.fn 9 (.pr (.fn 1 (.pr X (.int 29))) (.int 5))))))=true)(h:E.B F (.fn 107 (.pr X i))=true)(hi:E.I F (.fn 9 (.pr (.fn 1 (.pr X (.int 0))) (.int 12)))=E.I F i):
  (E.I F (.fn 0 m)=E.I F (.fn 9 (.pr (.fn 1 (.pr X (.int 0))) (.int 12))))↔E.B F (.fn 108 X)=true:=by
 have hall:gM (E.L F m) (cO (X.den F))=true:=hm
 rw[yI]at hall
 have hl:(E.L F m).length=(cO (X.den F)).length:=by grind[io]
 have e9:E.I F (.fn 9 (.pr (.fn 1 (.pr X (.int 0))) (.int 12)))=aD (X.den F):=rfl;have e0:E.I F (.fn 0 m)=(E.L F m).length:=rfl
 rw[NX]at h
 rw[rK,e9,e0,hl]
 unfold cW
 rw[Bool.and_eq_true,Bool.and_eq_true,pf,beq_iff_eq]
 grind
end
end Go.SX

set_option linter.unusedVariables false
set_option linter.unusedSimpArgs false
namespace Go.SX
/-! ### valid boards: the reference's way -/
theorem Zk(X:U)(n:Nat):qu X n=true↔∀i,i<n->((aW X).count (nI (cX X 31).toL i)=1/\(fS X).count (nI (cX X 31).toL i)=1):=by
 simp_all[qu]
theorem Cr(X:U)(i k:Nat):s5 X i k=true↔∀q,q<k->(¬blk X q 1=blk X i 1/\¬blk X q 0=blk X i 0):=by
 simp_all[s5]
theorem xm(X:U)(n:Nat):s6 X n=true↔∀i,i<n->(((aW X).count (blk X i 1)=1/\(fk X).count (blk X i 0)=1)/\s5 X i i=true):=by
 simp_all[s6]
theorem xU(X:U):qK X=true↔qu X (aW X).length=true/\s6 X (dG X)=true:=by
 simp_all[qK]
theorem yV(X:U)(n:Nat):ul X n=true↔∀i,i<n->(rg X i=true/\(i=0\/oI X (i-1) 0<oI X i 0)/\pj X (oI X i 2).toNat (oI X i 0)=1):=by
 simp_all[ul,and_assoc]
def Nv(X:U)(i:Nat):Prop:=nI (cX X 29).toL (i*5+3)<0->(0<=bB X (nI (cX X 29).toL (i*5+1)) (aD X)/\oI X (bB X (nI (cX X 29).toL (i*5+1)) (aD X)).toNat 1=nI (cX X 29).toL (i*5+2))
theorem FD(X:U)(s:Nat):uR X s=true↔∀i,i<s->Nv X i:=by
 grind[uR,i0,Nv]
theorem Dq(X:U):qP X=true↔uR X (cv X)=true/\ul X (aD X)=true/\yH X=aD X:=by
 simp_all[qP,and_assoc]
theorem aFp(X:U)(k:Int)(n i:Nat)(hi:i<n)(h:bB X k i=-1)(he:oI X i 0=k):bB X k n=i:=by
 unfold bB at *;have e:List.range n=List.range i++(i::(List.range (n-i-1)).map (fun x=>i+1+x)):=by
  have h1:List.range n=List.range (i+(n-i)):=by grind
  rw[h1,List.range_add]
  congr 1;have h2:n-i=(n-i-1)+1:=by omega
  rw[h2,List.range_succ_eq_map,List.map_cons,List.map_map]
  congr 1;grind[List.map_congr_left]
 grind
theorem aFr(X:U)(k:Int)(i:Nat)(h:bB X k i=-1)(he:¬oI X i 0=k):bB X k (i+1)=-1:=by
 grind[bB]
section
variable {F:Env} {x y l A a b k u i j p q n m r o c d w v X T N L L2 mc s:E}
theorem gU:E.I F (.fn 121 (.pr l k))=(((aH F l).count (E.I F k):Nat):Int):=rfl
theorem aKp(h:E.I F (.fn 0 l)<=E.I F n):E.I F (.fn 121 (.pr l k))=E.I F (.fn 131 (.pr l (.pr k n))):=by
 grind[gU,Ad,b9,List.take_of_length_le]
theorem vE:E.I F (.fn 120 (.pr X (.pr k n)))=bB (X.den F) (E.I F k) (E.I F n).toNat:=rfl
theorem aKo(e:E.I F n=E.I F i):E.I F (.fn 120 (.pr X (.pr k n)))=E.I F (.fn 120 (.pr X (.pr k i))):=by
 simp_all[vE]
theorem afG(h:E.I F (.fn 120 (.pr X (.pr k i)))=-1){a:E}(ea:a=.fn 1 (.pr (.fn 1 (.pr X (.int 0))) (.fn 6 (.pr (.fn 8 (.pr i (.int 12))) (.int 0)))))(h0:0<=E.I F i)(hi:E.I F i<E.I F N)(hn:E.I F n=E.I F i+1):
  (¬E.I F a=E.I F k->E.I F (.fn 120 (.pr X (.pr k n)))=-1)/\(E.I F a=E.I F k->E.I F (.fn 120 (.pr X (.pr k N)))=E.I F i):=by
 subst ea;have e:=dV (X:=X) h0 0;have k0:(Int.ofNat 0)=0:=rfl
 rw[k0]at e
 rw[vE]at h
 have en:(E.I F n).toNat=(E.I F i).toNat+1:=by omega
 grind[vE,aFr,aFp]
/-! places -/
theorem Qw:E.I F (.fn 122 (.pr X (.pr p k)))=((pj (X.den F) (E.I F p).toNat (E.I F k):Nat):Int):=rfl
theorem Hk:E.I F (.fn 132 (.pr X (.pr p (.pr q k))))=((qA (X.den F) (E.I F p).toNat (E.I F q).toNat (E.I F k):Nat):Int):=rfl
theorem Hl:E.I F (.fn 133 (.pr X (.pr p (.pr k s))))=((oK (X.den F) (E.I F p) (E.I F k) (E.I F s).toNat:Nat):Int):=rfl
theorem aKq(h0:0<=E.I F p)(hs:E.I F s=E.I F (.fn 9 (.pr (.fn 1 (.pr X (.int 29))) (.int 5)))):E.I F (.fn 122 (.pr X (.pr p k)))=E.I F (.fn 132 (.pr X (.pr p (.pr (.int 4) k))))+E.I F (.fn 133 (.pr X (.pr p (.pr k s)))):=by
 rw[Qw,Hk,Hl,hs]
 have e:(E.I F (.fn 9 (.pr (.fn 1 (.pr X (.int 29))) (.int 5)))).toNat=cv (X.den F):=rfl;have e4:(E.I F (.int 4)).toNat=4:=rfl;grind[pj]
theorem afJ(h:E.I F s<=0):E.I F (.fn 133 (.pr X (.pr p (.pr k s))))=0:=by
 have e:(E.I F s).toNat=0:=by omega
 rw[Hl,e];rfl
theorem FT{pl id tr:E}(e0:pl=.fn 1 (.pr (.fn 1 (.pr X (.int 29))) (.fn 6 (.pr (.fn 8 (.pr s (.int 5))) (.int 0)))))(e1:id=.fn 1 (.pr (.fn 1 (.pr X (.int 29))) (.fn 6 (.pr (.fn 8 (.pr s (.int 5))) (.int 1)))))
  (e3:tr=.fn 1 (.pr (.fn 1 (.pr X (.int 29))) (.fn 6 (.pr (.fn 8 (.pr s (.int 5))) (.int 3)))))(h0:0<=E.I F s)(hn:E.I F n=E.I F s+1):
  ((E.I F tr=-1/\E.I F id=E.I F k/\E.I F pl=E.I F p)->E.I F (.fn 133 (.pr X (.pr p (.pr k n))))=E.I F (.fn 133 (.pr X (.pr p (.pr k s))))+1)/\
  (¬(E.I F tr=-1/\E.I F id=E.I F k/\E.I F pl=E.I F p)->E.I F (.fn 133 (.pr X (.pr p (.pr k n))))=E.I F (.fn 133 (.pr X (.pr p (.pr k s))))):=by
 have en:(E.I F n).toNat=(E.I F s).toNat+1:=by omega
 have c0:=ky (X:=X) h0 0;have c1:=ky (X:=X) h0 1;have c3:=ky (X:=X) h0 3;simp_all[Hl,oK,List.range_succ]
theorem aKv(h:E.I F p=0):E.I F (.fn 132 (.pr X (.pr p (.pr (.int 4) k))))=E.I F (.fn 121 (.pr (.fn 1 (.pr X (.int 6))) k))+E.I F (.fn 121 (.pr (.fn 1 (.pr X (.int 7))) k))+E.I F (.fn 121 (.pr (.fn 1 (.pr X (.int 8))) k))+E.I F (.fn 121 (.pr (.fn 1 (.pr X (.int 9))) k)):=by
 rw[Hk,h]
 have e4:(E.I F (.int 4)).toNat=4:=rfl;unfold qA;have er:List.range 4=[0,1,2,3]:=rfl
 rw[gU,gU,gU,gU]
 have z0:aH F (.fn 1 (.pr X (.int 6)))=aV (X.den F) (4*0+0):=rfl;have z1:aH F (.fn 1 (.pr X (.int 7)))=aV (X.den F) (4*0+1):=rfl;have z2:aH F (.fn 1 (.pr X (.int 8)))=aV (X.den F) (4*0+2):=rfl;have z3:aH F (.fn 1 (.pr X (.int 9)))=aV (X.den F) (4*0+3):=rfl;grind
theorem aKw(h:E.I F p=1):E.I F (.fn 132 (.pr X (.pr p (.pr (.int 4) k))))=E.I F (.fn 121 (.pr (.fn 1 (.pr X (.int 20))) k))+E.I F (.fn 121 (.pr (.fn 1 (.pr X (.int 21))) k))+E.I F (.fn 121 (.pr (.fn 1 (.pr X (.int 22))) k))+E.I F (.fn 121 (.pr (.fn 1 (.pr X (.int 23))) k)):=by
 rw[Hk,h]
 have e4:(E.I F (.int 4)).toNat=4:=rfl;unfold qA;have er:List.range 4=[0,1,2,3]:=rfl
 rw[gU,gU,gU,gU]
 have z0:aH F (.fn 1 (.pr X (.int 20)))=aV (X.den F) (4*1+0):=rfl;have z1:aH F (.fn 1 (.pr X (.int 21)))=aV (X.den F) (4*1+1):=rfl;have z2:aH F (.fn 1 (.pr X (.int 22)))=aV (X.den F) (4*1+2):=rfl;have z3:aH F (.fn 1 (.pr X (.int 23)))=aV (X.den F) (4*1+3):=rfl;grind
/-! found -/
theorem aKx:E.I F (.fn 134 (.pr X (.int 8)))=E.I F (.fn 0 (.fn 1 (.pr X (.int 6))))+E.I F (.fn 0 (.fn 1 (.pr X (.int 7))))+E.I F (.fn 0 (.fn 1 (.pr X (.int 8))))+E.I F (.fn 0 (.fn 1 (.pr X (.int 9)))) +
  E.I F (.fn 0 (.fn 1 (.pr X (.int 20))))+E.I F (.fn 0 (.fn 1 (.pr X (.int 21))))+E.I F (.fn 0 (.fn 1 (.pr X (.int 22))))+E.I F (.fn 0 (.fn 1 (.pr X (.int 23)))):=by
 have e:E.I F (.fn 134 (.pr X (.int 8)))=((List.range 8).map fun z=>(aV (X.den F) z).length).sum:=rfl;have er:List.range 8=[0,1,2,3,4,5,6,7]:=rfl
 rw[e,er]
 simp only[List.map_cons,List.map_nil]
 rw[<- b9,<- b9,<- b9,<- b9,<- b9,<- b9,<- b9,<- b9]
 have z0:aH F (.fn 1 (.pr X (.int 6)))=aV (X.den F) 0:=rfl;have z1:aH F (.fn 1 (.pr X (.int 7)))=aV (X.den F) 1:=rfl;have z2:aH F (.fn 1 (.pr X (.int 8)))=aV (X.den F) 2:=rfl;have z3:aH F (.fn 1 (.pr X (.int 9)))=aV (X.den F) 3:=rfl;have y0:aH F (.fn 1 (.pr X (.int 20)))=aV (X.den F) 4:=rfl;have y1:aH F (.fn 1 (.pr X (.int 21)))=aV (X.den F) 5:=rfl;have y2:aH F (.fn 1 (.pr X (.int 22)))=aV (X.den F) 6:=rfl;have y3:aH F (.fn 1 (.pr X (.int 23)))=aV (X.den F) 7:=rfl;grind
theorem Ae:E.I F (.fn 135 (.pr X s))=(((i0 (X.den F) (E.I F s).toNat).length:Nat):Int):=rfl
theorem aKz(h:E.I F s<=0):E.I F (.fn 135 (.pr X s))=0:=by
 have e:(E.I F s).toNat=0:=by omega
 rw[Ae,e];rfl
theorem aKy(e:E.I F n=E.I F s):E.I F (.fn 135 (.pr X n))=E.I F (.fn 135 (.pr X s)):=by simp_all[Ae]
theorem afK{tr:E}(e3:tr=.fn 1 (.pr (.fn 1 (.pr X (.int 29))) (.fn 6 (.pr (.fn 8 (.pr s (.int 5))) (.int 3)))))(h0:0<=E.I F s)(hn:E.I F n=E.I F s+1):
  (E.I F tr<0->E.I F (.fn 135 (.pr X n))=E.I F (.fn 135 (.pr X s))+1)/\(¬E.I F tr<0->E.I F (.fn 135 (.pr X n))=E.I F (.fn 135 (.pr X s))):=by
 have en:(E.I F n).toNat=(E.I F s).toNat+1:=by omega
 have c3:=ky (X:=X) h0 3;grind[Ae,FE]
theorem NY:(E.B F (.fn 123 (.pr X s))=true)=(uR (X.den F) (E.I F s).toNat=true):=rfl
theorem NZ:(E.B F (.fn 124 (.pr X n))=true)=(ul (X.den F) (E.I F n).toNat=true):=rfl
theorem Oa:(E.B F (.fn 125 X)=true)=(qP (X.den F)=true):=rfl
theorem aKr(h:E.B F (.fn 123 (.pr X s))=true)(e:E.I F n=E.I F s):E.B F (.fn 123 (.pr X n))=true:=by
 simp_all[NY]
theorem F8(h:E.B F (.fn 123 (.pr X s))=true){id cd tr v rw1:E}(e1:id=.fn 1 (.pr (.fn 1 (.pr X (.int 29))) (.fn 6 (.pr (.fn 8 (.pr s (.int 5))) (.int 1)))))
  (e2:cd=.fn 1 (.pr (.fn 1 (.pr X (.int 29))) (.fn 6 (.pr (.fn 8 (.pr s (.int 5))) (.int 2)))))(e3:tr=.fn 1 (.pr (.fn 1 (.pr X (.int 29))) (.fn 6 (.pr (.fn 8 (.pr s (.int 5))) (.int 3)))))
  (e4:rw1=.fn 1 (.pr (.fn 1 (.pr X (.int 0))) (.fn 6 (.pr (.fn 8 (.pr v (.int 12))) (.int 1)))))
  (h0:0<=E.I F s)(h1:E.I F s<E.I F (.fn 9 (.pr (.fn 1 (.pr X (.int 29))) (.int 5))))(hn:E.I F n=E.I F s+1):
  (¬E.I F tr<0->E.B F (.fn 123 (.pr X n))=true)/\
  (E.I F tr<0->E.I F v=E.I F (.fn 120 (.pr X (.pr id (.fn 9 (.pr (.fn 1 (.pr X (.int 0))) (.int 12))))))->((0<=E.I F v/\E.I F rw1=E.I F cd)->E.B F (.fn 123 (.pr X n))=true)/\(¬(0<=E.I F v/\E.I F rw1=E.I F cd)->¬E.B F (.fn 125 X)=true)):=by
 subst e3;have hs:(E.I F s).toNat<cv (X.den F):=by
  have:E.I F (.fn 9 (.pr (.fn 1 (.pr X (.int 29))) (.int 5)))=cv (X.den F):=rfl
  omega
 have c1:=ky (X:=X) h0 1;have c2:=ky (X:=X) h0 2;have c3:=ky (X:=X) h0 3;have k3:(Int.ofNat 3)=3:=rfl
 rw[k3]at c3
 have en9:(E.I F (.fn 9 (.pr (.fn 1 (.pr X (.int 0))) (.int 12)))).toNat=aD (X.den F):=rfl;have ext:Nv (X.den F) (E.I F s).toNat->E.B F (.fn 123 (.pr X n))=true:=by
  grind[NY,FD]
 refine⟨fun ht=>ext ?_,fun ht hv=>⟨fun hc=>ext ?_,fun hc hf=>hc ?_⟩⟩
 ·intro hh;omega
 ·intro _;grind[vE,dV]
 ·rw[Oa,Dq,FD]at hf
  have:=hf.1 _ hs (by omega)
  grind[vE,dV]
theorem aLs(h:E.B F (.fn 124 (.pr X i))=true){t a0 a1 a2 a3 a4 a5 a6 a7 a8:E}(e0:a0=.fn 1 (.pr (.fn 1 (.pr X (.int 0))) (.fn 6 (.pr (.fn 8 (.pr i (.int 12))) (.int 0)))))(e1:a1=.fn 1 (.pr (.fn 1 (.pr X (.int 0))) (.fn 6 (.pr (.fn 8 (.pr i (.int 12))) (.int 1)))))(e2:a2=.fn 1 (.pr (.fn 1 (.pr X (.int 0))) (.fn 6 (.pr (.fn 8 (.pr i (.int 12))) (.int 2)))))(e3:a3=.fn 1 (.pr (.fn 1 (.pr X (.int 0))) (.fn 6 (.pr (.fn 8 (.pr i (.int 12))) (.int 3)))))(e4:a4=.fn 1 (.pr (.fn 1 (.pr X (.int 0))) (.fn 6 (.pr (.fn 8 (.pr i (.int 12))) (.int 4)))))(e5:a5=.fn 1 (.pr (.fn 1 (.pr X (.int 0))) (.fn 6 (.pr (.fn 8 (.pr i (.int 12))) (.int 5)))))(e6:a6=.fn 1 (.pr (.fn 1 (.pr X (.int 0))) (.fn 6 (.pr (.fn 8 (.pr i (.int 12))) (.int 6)))))(e7:a7=.fn 1 (.pr (.fn 1 (.pr X (.int 0))) (.fn 6 (.pr (.fn 8 (.pr i (.int 12))) (.int 7)))))(e8:a8=.fn 1 (.pr (.fn 1 (.pr X (.int 0))) (.fn 6 (.pr (.fn 8 (.pr i (.int 12))) (.int 8)))))
  (h0:0<=E.I F i)(hi:E.I F i<E.I F (.fn 9 (.pr (.fn 1 (.pr X (.int 0))) (.int 12))))(hn:E.I F n=E.I F i+1)(ht:0<E.I F i->E.I F t=E.I F i-1):
  (((1<=E.I F a0/\E.I F a0<=500/\-1<=E.I F a1/\E.I F a1<=399/\0<=E.I F a2/\E.I F a2<=1/\(E.I F a1=-1\/(E.I F a3=0/\E.I F a4=0))/\0<=E.I F a3/\E.I F a3<=99/\0<=E.I F a4/\E.I F a4<=99/\0<=E.I F a5/\E.I F a5<=99/\0<=E.I F a6/\E.I F a6<=99/\0<=E.I F a7/\E.I F a7<=99/\0<=E.I F a8/\E.I F a8<=99)/\
   (E.I F i=0\/E.I F (.fn 1 (.pr (.fn 1 (.pr X (.int 0))) (.fn 6 (.pr (.fn 8 (.pr t (.int 12))) (.int 0)))))<E.I F a0)/\E.I F (.fn 122 (.pr X (.pr a2 a0)))=1)->E.B F (.fn 124 (.pr X n))=true)/\
  (¬((1<=E.I F a0/\E.I F a0<=500/\-1<=E.I F a1/\E.I F a1<=399/\0<=E.I F a2/\E.I F a2<=1/\(E.I F a1=-1\/(E.I F a3=0/\E.I F a4=0))/\0<=E.I F a3/\E.I F a3<=99/\0<=E.I F a4/\E.I F a4<=99/\0<=E.I F a5/\E.I F a5<=99/\0<=E.I F a6/\E.I F a6<=99/\0<=E.I F a7/\E.I F a7<=99/\0<=E.I F a8/\E.I F a8<=99)/\
   (E.I F i=0\/E.I F (.fn 1 (.pr (.fn 1 (.pr X (.int 0))) (.fn 6 (.pr (.fn 8 (.pr t (.int 12))) (.int 0)))))<E.I F a0)/\E.I F (.fn 122 (.pr X (.pr a2 a0)))=1)->¬E.B F (.fn 125 X)=true):=by
 subst e0;subst e1;subst e2;subst e3;subst e4;subst e5;subst e6;subst e7;subst e8;have hi':(E.I F i).toNat<aD (X.den F):=by
  have:E.I F (.fn 9 (.pr (.fn 1 (.pr X (.int 0))) (.int 12)))=((aD (X.den F):Nat):Int):=rfl
  omega
 have en:(E.I F n).toNat=(E.I F i).toNat+1:=by omega
 have c0:oI (X.den F) (E.I F i).toNat 0=_:=dV (X:=X) h0 0;have c1:oI (X.den F) (E.I F i).toNat 1=_:=dV (X:=X) h0 1;have c2:oI (X.den F) (E.I F i).toNat 2=_:=dV (X:=X) h0 2;have c3:oI (X.den F) (E.I F i).toNat 3=_:=dV (X:=X) h0 3;have c4:oI (X.den F) (E.I F i).toNat 4=_:=dV (X:=X) h0 4;have c5:oI (X.den F) (E.I F i).toNat 5=_:=dV (X:=X) h0 5;have c6:oI (X.den F) (E.I F i).toNat 6=_:=dV (X:=X) h0 6;have c7:oI (X.den F) (E.I F i).toNat 7=_:=dV (X:=X) h0 7;have c8:oI (X.den F) (E.I F i).toNat 8=_:=dV (X:=X) h0 8;have k (z:Nat) (w:Int) (e:Int.ofNat z=w):E.int (Int.ofNat z)=E.int w:=by rw[e]
 rw[k 0 0 rfl]at c0
 rw[k 1 1 rfl]at c1
 rw[k 2 2 rfl]at c2
 rw[k 3 3 rfl]at c3
 rw[k 4 4 rfl]at c4
 rw[k 5 5 rfl]at c5
 rw[k 6 6 rfl]at c6
 rw[k 7 7 rfl]at c7
 rw[k 8 8 rfl]at c8
 have hprev:(E.I F i=0\/E.I F (.fn 1 (.pr (.fn 1 (.pr X (.int 0))) (.fn 6 (.pr (.fn 8 (.pr t (.int 12))) (.int 0)))))<oI (X.den F) (E.I F i).toNat 0)↔((E.I F i).toNat=0\/oI (X.den F) ((E.I F i).toNat-1) 0<oI (X.den F) (E.I F i).toNat 0):=by
  by_cases hz:E.I F i=0
  ·omega
  ·have ht':=ht (by omega);have e:=dV (X:=X) (i:=t) (F:=F) (by omega) 0
   rw[k 0 0 rfl]at e
   have et:(E.I F t).toNat=(E.I F i).toNat-1:=by omega
   grind
 have h122:(E.I F (.fn 122 (.pr X (.pr (.fn 1 (.pr (.fn 1 (.pr X (.int 0))) (.fn 6 (.pr (.fn 8 (.pr i (.int 12))) (.int 2))))) (.fn 1 (.pr (.fn 1 (.pr X (.int 0))) (.fn 6 (.pr (.fn 8 (.pr i (.int 12))) (.int 0))))))))=1)↔pj (X.den F) (oI (X.den F) (E.I F i).toNat 2).toNat (oI (X.den F) (E.I F i).toNat 0)=1:=by
  grind[Qw]
 rw[h122,<- c0,<- c1,<- c2,<- c3,<- c4,<- c5,<- c6,<- c7,<- c8,hprev]
 rw[NZ,yV]at h
 refine⟨fun hc=>?_,fun hc hf=>hc ?_⟩
 ·rw[NZ,yV,en]
  intro q hq;rcases Nat.lt_or_eq_of_le (Nat.le_of_lt_succ hq)with h2|h2
  all_goals simp_all[nD]
 ·rw[Oa,Dq,yV]at hf
  have:=hf.2.1 _ hi'
  exact⟨(nD _ _).1 this.1,this.2.1,this.2.2⟩
theorem u7(h:E.B F (.fn 124 (.pr X i))=true){t a0 a1 a2 a3 a4 a5 a6 a7 a8:E}(e0:a0=.fn 1 (.pr (.fn 1 (.pr X (.int 0))) (.fn 6 (.pr (.fn 8 (.pr i (.int 12))) (.int 0)))))(e1:a1=.fn 1 (.pr (.fn 1 (.pr X (.int 0))) (.fn 6 (.pr (.fn 8 (.pr i (.int 12))) (.int 1)))))(e2:a2=.fn 1 (.pr (.fn 1 (.pr X (.int 0))) (.fn 6 (.pr (.fn 8 (.pr i (.int 12))) (.int 2)))))(e3:a3=.fn 1 (.pr (.fn 1 (.pr X (.int 0))) (.fn 6 (.pr (.fn 8 (.pr i (.int 12))) (.int 3)))))(e4:a4=.fn 1 (.pr (.fn 1 (.pr X (.int 0))) (.fn 6 (.pr (.fn 8 (.pr i (.int 12))) (.int 4)))))(e5:a5=.fn 1 (.pr (.fn 1 (.pr X (.int 0))) (.fn 6 (.pr (.fn 8 (.pr i (.int 12))) (.int 5)))))(e6:a6=.fn 1 (.pr (.fn 1 (.pr X (.int 0))) (.fn 6 (.pr (.fn 8 (.pr i (.int 12))) (.int 6)))))(e7:a7=.fn 1 (.pr (.fn 1 (.pr X (.int 0))) (.fn 6 (.pr (.fn 8 (.pr i (.int 12))) (.int 7)))))(e8:a8=.fn 1 (.pr (.fn 1 (.pr X (.int 0))) (.fn 6 (.pr (.fn 8 (.pr i (.int 12))) (.int 8)))))
  (h0:0<=E.I F i)(hi:E.I F i<E.I F (.fn 9 (.pr (.fn 1 (.pr X (.int 0))) (.int 12))))(hn:E.I F n=E.I F i+1)(ht:0<E.I F i->E.I F t=E.I F i-1):
  (((E.B F (.fn 137 (.pr a0 (.pr a1 (.pr a2 (.pr a3 (.pr a4 (.pr a5 (.pr a6 (.pr a7 a8)))))))))=true)/\
   (E.I F i=0\/E.I F (.fn 1 (.pr (.fn 1 (.pr X (.int 0))) (.fn 6 (.pr (.fn 8 (.pr t (.int 12))) (.int 0)))))<E.I F a0)/\E.I F (.fn 122 (.pr X (.pr a2 a0)))=1)->E.B F (.fn 124 (.pr X n))=true)/\
  (¬((E.B F (.fn 137 (.pr a0 (.pr a1 (.pr a2 (.pr a3 (.pr a4 (.pr a5 (.pr a6 (.pr a7 a8)))))))))=true)/\
   (E.I F i=0\/E.I F (.fn 1 (.pr (.fn 1 (.pr X (.int 0))) (.fn 6 (.pr (.fn 8 (.pr t (.int 12))) (.int 0)))))<E.I F a0)/\E.I F (.fn 122 (.pr X (.pr a2 a0)))=1)->¬E.B F (.fn 125 X)=true):=by
 rw[cg]
 exact aLs h e0 e1 e2 e3 e4 e5 e6 e7 e8 h0 hi hn ht
theorem aLr{v:E}(hs:E.B F (.fn 123 (.pr X (.fn 9 (.pr (.fn 1 (.pr X (.int 29))) (.int 5)))))=true)(h:E.B F (.fn 124 (.pr X i))=true)(hi:E.I F (.fn 9 (.pr (.fn 1 (.pr X (.int 0))) (.int 12)))=E.I F i)
  (hv:E.I F v=E.I F (.fn 134 (.pr X (.int 8)))+E.I F (.fn 135 (.pr X (.fn 9 (.pr (.fn 1 (.pr X (.int 29))) (.int 5)))))):E.I F v=E.I F (.fn 9 (.pr (.fn 1 (.pr X (.int 0))) (.int 12)))↔E.B F (.fn 125 X)=true:=by
 have e9:E.I F (.fn 9 (.pr (.fn 1 (.pr X (.int 0))) (.int 12)))=aD (X.den F):=rfl;have es:(E.I F (.fn 9 (.pr (.fn 1 (.pr X (.int 29))) (.int 5)))).toNat=cv (X.den F):=rfl;have e8:E.I F (.fn 134 (.pr X (.int 8)))=((List.range 8).map fun z=>(aV (X.den F) z).length).sum:=rfl
 rw[NY,es]at hs
 grind[NZ,Ae,Oa,Dq,yH]
/-! fights -/
theorem Ob:(E.B F (.fn 126 (.pr X n))=true)=(qu (X.den F) (E.I F n).toNat=true):=rfl
theorem agx:(E.B F (.fn 127 (.pr X n))=true)=(s6 (X.den F) (E.I F n).toNat=true):=rfl
theorem agy:(E.B F (.fn 128 (.pr X (.pr j n)))=true)=(s5 (X.den F) (E.I F j).toNat (E.I F n).toNat=true):=rfl
theorem Gr:(E.B F (.fn 129 X)=true)=(qK (X.den F)=true):=rfl
theorem agz:(E.B F (.fn 136 (.pr X j))=true)=((aW (X.den F)).count (blk (X.den F) (E.I F j).toNat 1)=1/\(fk (X.den F)).count (blk (X.den F) (E.I F j).toNat 0)=1):=by
 show(((aW (X.den F)).count (blk (X.den F) (E.I F j).toNat 1)==1&&(fk (X.den F)).count (blk (X.den F) (E.I F j).toNat 0)==1)=true)=_
 simp_all
theorem aKs(h:E.B F (.fn 126 (.pr X i))=true)(e:E.I F n=E.I F i):E.B F (.fn 126 (.pr X n))=true:=by
 simp_all[Ob]
theorem uo(h:E.I F (.fn 1 (.pr X (.int 34)))=0):fS (X.den F)=aH F (.fn 1 (.pr X (.int 8)))/\fk (X.den F)=aH F (.fn 1 (.pr X (.int 22))):=by
 have e:iX (X.den F) 34=0:=h;unfold fS fk cj
 rw[e];exact⟨rfl,rfl⟩
theorem uq(h:E.I F (.fn 1 (.pr X (.int 34)))=1):fS (X.den F)=aH F (.fn 1 (.pr X (.int 22)))/\fk (X.den F)=aH F (.fn 1 (.pr X (.int 8))):=by
 have e:iX (X.den F) 34=1:=h;unfold fS fk cj
 rw[e];exact⟨rfl,rfl⟩
theorem uZ(h:E.B F (.fn 126 (.pr X i))=true){a:E}(ea:a=.fn 1 (.pr (.fn 1 (.pr X (.int 31))) i))(hL:fS (X.den F)=aH F L)(h0:0<=E.I F i)(hi:E.I F i<E.I F (.fn 0 (.fn 1 (.pr X (.int 31)))))(hn:E.I F n=E.I F i+1):
  ((E.I F (.fn 121 (.pr (.fn 1 (.pr X (.int 31))) a))=1/\E.I F (.fn 121 (.pr L a))=1)->E.B F (.fn 126 (.pr X n))=true)/\
  (¬(E.I F (.fn 121 (.pr (.fn 1 (.pr X (.int 31))) a))=1/\E.I F (.fn 121 (.pr L a))=1)->¬E.B F (.fn 129 X)=true):=by
 subst ea
 rw[<- sZ]at hi
 have ea:aH F (.fn 1 (.pr X (.int 31)))=aW (X.den F):=rfl;have e1:E.I F (.fn 1 (.pr (.fn 1 (.pr X (.int 31))) i))=nI (cX (X.den F) 31).toL (E.I F i).toNat:=rfl
 rw[gU,gU,ea,<- hL,e1]
 grind[Ob,Zk,Gr,xU]
theorem u5{t b:E}(et:t=.fn 1 (.pr (.fn 1 (.pr X (.int 32))) (.fn 6 (.pr (.fn 8 (.pr j (.int 2))) (.int 1)))))(eb:b=.fn 1 (.pr (.fn 1 (.pr X (.int 32))) (.fn 6 (.pr (.fn 8 (.pr j (.int 2))) (.int 0)))))
  (hL:fk (X.den F)=aH F L)(h0:0<=E.I F j)(hi:E.I F j<E.I F (.fn 9 (.pr (.fn 1 (.pr X (.int 32))) (.int 2)))):
  ((E.I F (.fn 121 (.pr (.fn 1 (.pr X (.int 31))) t))=1/\E.I F (.fn 121 (.pr L b))=1)->E.B F (.fn 136 (.pr X j))=true)/\
  (¬(E.I F (.fn 121 (.pr (.fn 1 (.pr X (.int 31))) t))=1/\E.I F (.fn 121 (.pr L b))=1)->¬E.B F (.fn 129 X)=true):=by
 rw[<- ud]at hi
 have ea:aH F (.fn 1 (.pr X (.int 31)))=aW (X.den F):=rfl;have b0:=oF (X:=X) h0 0;have b1:=oF (X:=X) h0 1;grind[gU,agz,Gr,xU,xm]
theorem NL(h:E.B F (.fn 128 (.pr X (.pr j k)))=true){t b u w:E}(et:t=.fn 1 (.pr (.fn 1 (.pr X (.int 32))) (.fn 6 (.pr (.fn 8 (.pr j (.int 2))) (.int 1)))))(eb:b=.fn 1 (.pr (.fn 1 (.pr X (.int 32))) (.fn 6 (.pr (.fn 8 (.pr j (.int 2))) (.int 0)))))
  (eu:u=.fn 1 (.pr (.fn 1 (.pr X (.int 32))) (.fn 6 (.pr (.fn 8 (.pr k (.int 2))) (.int 1)))))(ew:w=.fn 1 (.pr (.fn 1 (.pr X (.int 32))) (.fn 6 (.pr (.fn 8 (.pr k (.int 2))) (.int 0)))))
  (h0:0<=E.I F j)(hi:E.I F j<E.I F (.fn 9 (.pr (.fn 1 (.pr X (.int 32))) (.int 2))))(hk:0<=E.I F k)(hkj:E.I F k<E.I F j)(hn:E.I F n=E.I F k+1):
  ((¬E.I F u=E.I F t/\¬E.I F w=E.I F b)->E.B F (.fn 128 (.pr X (.pr j n)))=true)/\(¬(¬E.I F u=E.I F t/\¬E.I F w=E.I F b)->¬E.B F (.fn 129 X)=true):=by
 rw[<- ud]at hi
 have b0:=oF (X:=X) h0 0;have b1:=oF (X:=X) h0 1;have d0:=oF (X:=X) hk 0;have d1:=oF (X:=X) hk 1
 refine⟨fun hc=>?_,fun hc hf=>hc ?_⟩
 ·grind[agy,Cr]
 grind[Gr,xU,xm,Cr]
theorem aKt(h:E.B F (.fn 127 (.pr X j))=true)(h1:E.B F (.fn 136 (.pr X j))=true)(h2:E.B F (.fn 128 (.pr X (.pr j k)))=true)(h0:0<=E.I F j)(hk:E.I F k=E.I F j)(hn:E.I F n=E.I F j+1):E.B F (.fn 127 (.pr X n))=true:=by
 grind[agx,xm,agz,agy]
theorem aLq(h:E.B F (.fn 126 (.pr X (.fn 0 (.fn 1 (.pr X (.int 31))))))=true)(hb:E.B F (.fn 127 (.pr X j))=true)(h1:E.I F (.fn 9 (.pr (.fn 1 (.pr X (.int 32))) (.int 2)))=E.I F j):E.B F (.fn 129 X)=true:=by
 have el:(E.I F (.fn 0 (.fn 1 (.pr X (.int 31))))).toNat=(aW (X.den F)).length:=by grind[sZ]
 grind[Ob,agx,ud,Gr,xU]
end
end Go.SX

set_option linter.unusedVariables false
set_option linter.unusedSimpArgs false
namespace Go.SX
/-! ### both ways say the same -/
theorem MI{G:Type}[DecidableEq G]:∀(l1 l2:List G),l1.Nodup->(∀x∈l1,x∈l2)->l2.length<=l1.length->l1.Perm l2
 |[],l2,_,_,h=>by
  simp_all
 |x::l1,l2,hn,hs,hl=>by
  have hx:=hs x (by simp);have hn':=List.nodup_cons.1 hn;have hp:=List.perm_cons_erase hx;refine List.Perm.trans ?_ hp.symm;refine List.Perm.cons x (MI l1 _ hn'.2 ?_ ?_);all_goals grind
theorem aEA(l:List Int)(c k p:Int):(l.map fun i=>(i,c)).count (k,p)=if c=p then l.count k else 0:=by
 induction l with
 |nil=>simp
 |cons x l ih=>
  grind
theorem aEC(X:U)(k:Int)(p:Nat)(hp:p<2):(kD X 8).count (k,(p:Int))=qA X p 4 k:=by
 unfold kD qA;have er:List.range 8=[0,1,2,3,4,5,6,7]:=rfl;have er4:List.range 4=[0,1,2,3]:=rfl
 rw[er,er4]
 simp only[List.flatMap_cons,List.flatMap_nil,List.count_append,aEA];grind
theorem ZW(X:U)(k p:Int):∀s,(∀i,i<s->-1<=nI (cX X 29).toL (i*5+3))->(iq X s).count (k,p)=oK X p k s
 |0,_=>by rfl
 |s+1,h=>by
  have ih:=ZW X k p s (fun i hi=>h i (by omega));have e:oK X p k (s+1)=oK X p k s+if(nI (cX X 29).toL (s*5+3) == -1&&nI (cX X 29).toL (s*5+1)==k&&nI (cX X 29).toL (s*5)==p)=true then 1 else 0:=by
   grind[oK,List.range_succ]
  grind[afs]
theorem aej(X:U):eF X 8 0=kD X 8:=by simp[eF]
theorem ZV(X:U)(k:Int)(p:Nat)(hp:p<2)(h:∀i,i<cv X->-1<=nI (cX X 29).toL (i*5+3)):(cO X).count (k,(p:Int))=pj X p k:=by
 simp_all[cO,pj,aej,aEC,ZW]
theorem agM(X:U):∀k,(kD X k).length=((List.range k).map fun z=>(aV X z).length).sum
 |0=>rfl
 |k+1=>by
  rw[Gx,List.length_append,List.length_map,agM X k,List.range_succ,List.map_append,List.sum_append];simp
theorem aCZ(X:U):(cO X).length=yH X:=by
 simp_all[cO,yH,aej,agM,iq]
def oP(X:U):List (Int×Int):=(List.range (aD X)).map fun i=>(oI X i 0,oI X i 2)
theorem Ml(X:U):(oP X).map Prod.fst=gj X:=by simp_all[oP,gj]
theorem Mj{l:List (Int×Int)}(h:(l.map Prod.fst).Nodup):l.Nodup:=by
 rw[List.nodup_iff_pairwise_ne]at *
 rw[List.pairwise_map]at h
 exact h.imp fun hab e=>hab (by rw[e])
theorem qS{X:U}{k:Int}{n:Nat}(h:0<=bB X k n):(bB X k n).toNat<n/\oI X (bB X k n).toNat 0=k:=by
 grind[bB]
theorem tA{X:U}{k:Int}{n i:Nat}(hi:i<n)(h:oI X i 0=k):0<=bB X k n:=by
 grind[bB]
theorem abp{X:U}(h:(gj X).Nodup){i j:Nat}(hi:i<aD X)(hj:j<aD X)(e:oI X i 0=oI X j 0):i=j:=by
 grind[gj,List.pairwise_iff_getElem]
theorem acj{X:U}{k c:Int}{s:Nat}:(k,c)∈gR X s↔∃i,i<s/\nI (cX X 29).toL (i*5+3)<0/\nI (cX X 29).toL (i*5+1)=k/\nI (cX X 29).toL (i*5+2)=c:=by
 grind[gR,i0]
theorem aef{X:U}(hst:∀i,i<cv X->-1<=nI (cX X 29).toL (i*5+3)):cW X=true↔qP X=true:=by
 rw[Dq,<- aCZ]
 unfold cW;simp only[Bool.and_eq_true,pf,beq_iff_eq];constructor
 ·rintro⟨⟨hn,ho⟩,hl⟩
  rw[jz]at ho
  have hin:=ED fun i hi=>(ho i hi).2.1
  have hs:=afA (l1:=gj X) (l2:=(cO X).map Prod.fst) hin (by
   intro x hx
   obtain⟨i,hi,rfl⟩:=List.mem_map.1 hx
   exact List.mem_map_of_mem (f:=Prod.fst) (yD (ho i (List.mem_range.1 hi)).2.2.1)) (by simp[gj,hl])
  refine⟨?_,?_,hl⟩
  ·rw[FD]
   intro i hi ht;have hc:(nI (cX X 29).toL (i*5+1),nI (cX X 29).toL (i*5+2))∈gR X (cv X):=acj.2 ⟨i,hi,ht,rfl,rfl⟩;have hid:nI (cX X 29).toL (i*5+1)∈(cO X).map Prod.fst:=by
    grind[cO,Nk]
   obtain⟨q,hq,he⟩:=List.mem_map.1 (hs _ hid)
   have hq:=List.mem_range.1 hq;have h0:=tA hq he;have h1:=qS h0
   refine⟨h0,?_⟩
   have hnc:((gR X (cv X)).map Prod.fst).Nodup:=by
    simp_all[Nk,cO,List.map_append,List.nodup_append]
   exact((ho _ h1.1).2.2.2 _ (by grind[LU])).symm
  ·rw[yV]
   intro i hi;have h:=ho i hi
   refine⟨h.1,h.2.1,?_⟩
   have hown:=(nD X i).1 h.1;have hm:=yD h.2.2.1;have e:((oI X i 2).toNat:Int)=oI X i 2:=Int.toNat_of_nonneg (by omega)
   rw[<- ZV X _ _ (by omega) hst,e]
   have h1:0<(cO X).count (oI X i 0,oI X i 2):=List.count_pos_iff.2 hm;have h2:=List.nodup_iff_count.1 (Mj hn) (oI X i 0,oI X i 2);omega
 ·rintro⟨hs,ho,hl⟩
  rw[yV]at ho
  rw[FD]at hs
  have hin:=ED fun i hi=>(ho i hi).2.1
  have hmem:∀i,i<aD X->(oI X i 0,oI X i 2)∈cO X:=by
   intro i hi;have h:=ho i hi;have hown:=(nD X i).1 h.1;have e:((oI X i 2).toNat:Int)=oI X i 2:=Int.toNat_of_nonneg (by omega);have h1:=h.2.2
   rw[<- ZV X _ _ (by omega) hst,e]at h1
   grind
  have hp:(oP X).Perm (cO X):=MI (oP X) (cO X) (Mj (by simp_all[Ml])) (by
   intro x hx
   obtain⟨i,hi,rfl⟩:=List.mem_map.1 hx
   simp_all) (by simp_all[oP])
  have hn:((cO X).map Prod.fst).Nodup:=by
   have:=(hp.map Prod.fst).nodup_iff.1 (by simp_all[Ml])
   omega
  refine⟨⟨hn,?_⟩,hl⟩
  rw[jz]
  intro i hi;have h:=ho i hi
  refine⟨h.1,h.2.1,LU hn (hmem i hi),?_⟩
  intro c hc
  obtain⟨s,h1,h2,h3,h4⟩:=acj.1 (yD hc)
  have:=hs s h1 h2
  rw[h3]at this
  have h5:=qS this.1;grind[abp]
theorem Om{X:U}(h:cW X=true)(k:Nat)(hk:k<8):(aV X k).Nodup:=by
 unfold cW at h;simp only[Bool.and_eq_true,pf]at h
 obtain⟨r,hr⟩:=E8 X k (aV X k).length hk
 grind[eF]
theorem Ks{l:List Int}(h:l.Nodup)(a:Int):l.count a=1↔a∈l:=by
 grind
theorem aa4(X:U)(i:Nat):nI (cX X 31).toL i=(aW X).getD i 0:=aa5 _ _
theorem aaK{X:U}(h:cW X=true)(ha:cj X<=1):gJ X=true↔qK X=true:=by
 have ho:=Om h (4*cj X+2) (by omega);have hq:=Om h (4*(1-cj X)+2) (by omega);have e1:fS X=aV X (4*cj X+2):=rfl;have e2:fk X=aV X (4*(1-cj X)+2):=rfl
 rw[<- e1]at ho
 rw[<- e2]at hq
 have hA:ji X (aW X).length=true↔qu X (aW X).length=true:=by
  rw[oD,Zk,List.take_length]
  constructor
  ·simp_all[aW,List.getD_eq_getElem?_getD,List.getElem?_eq_getElem,List.getElem_mem,aa4,Ks]
  ·intro hc;have hc':∀a∈aW X,(aW X).count a=1/\(fS X).count a=1:=by
    intro a hm
    obtain⟨i,hi,rfl⟩:=List.getElem_of_mem hm
    simp_all[aa4,List.getD_eq_getElem?_getD,List.getElem?_eq_getElem]
   grind
 rw[tq,xU,hA]
 constructor
 ·rintro⟨h1,h2⟩
  refine⟨h1,?_⟩
  have hn:=((oD X _).1 (hA.2 h1)).1
  rw[List.take_length]at hn
  rw[xk]at h2
  rw[xm]
  grind[Ks,Cr,du,List.pairwise_iff_getElem]
 ·rintro⟨h1,h2⟩
  refine⟨h1,?_⟩
  have hn:=((oD X _).1 (hA.2 h1)).1
  rw[List.take_length]at hn
  rw[xm]at h2
  rw[xk]
  simp_all[Ks,du,List.nodup_iff_pairwise_ne,List.pairwise_map,List.pairwise_iff_getElem,List.getElem_range,Cr]
theorem ago(X:U):rF X=rG X:=by
 rw[Bool.eq_iff_iff]
 unfold rF rG;simp only[Bool.and_eq_true];constructor
 ·rintro⟨⟨⟨⟨⟨hn,h0⟩,h1⟩,hi⟩,hp⟩,hf⟩
  have hst:∀i,i<cv X->-1<=nI (cX X 29).toL (i*5+3):=by
   simp_all[tL,yp,nl,jt]
  have ha:cj X<=1:=by
   simp_all[ui,jt,cj]
  simp_all[aef,aaK]
 ·rintro⟨⟨⟨⟨⟨hn,h0⟩,h1⟩,hi⟩,hp⟩,hf⟩
  have hst:∀i,i<cv X->-1<=nI (cX X 29).toL (i*5+3):=by
   simp_all[tL,yp,nl,jt]
  have ha:cj X<=1:=by
   simp_all[ui,jt,cj]
  simp_all[aef,aaK]
theorem gt{F:Env}{X:E}:(E.B F (.fn 115 X)=true)↔(E.B F (.fn 130 X)=true):=by
 show(rF _=true)↔(rG _=true)
 rw[ago]
end Go.SX

set_option linter.unusedVariables false
set_option linter.unusedSimpArgs false
namespace Go.SX
/-! ### what is paid from -/
section
variable {F:Env} {x y l A a b k u i j p q n m r o c d w v X T N L e t C:E}
theorem rM:(E.B F (.fn 145 (.pr X p))=true)=(0<=E.I F p/\E.I F p<=1/\E.B F (.fn 130 X)=true):=by
 show(oO _ _=true)=_
 unfold oO
 rw[Bool.and_eq_true,jt,and_assoc];rfl
/-! triggers and effects -/
theorem aE3(l:List U)(n:Nat):tn l n=true↔∀i,i<n->(l.getD (i*2+1) (.int 0)).toL.length/5<=5:=by
 simp_all[tn]
theorem aFZ(l:List U)(n:Nat):Ea l n=true↔∀i,i<n->tl (l.getD (i*14+11) (.int 0)).toL (l.getD (i*14+12) (.int 0)).toL=true:=by
 grind[Ea]
theorem agA:(E.B F (.fn 155 (.pr C n))=true)=(Ea (E.L F C) (E.I F n).toNat=true):=rfl
theorem aL0:(E.B F (.fn 156 (.pr e t))=true)=(E.I F (.fn 9 (.pr e (.int 5)))<=5/\E.I F (.fn 9 (.pr t (.int 2)))<=3/\E.B F (.fn 157 (.pr t (.fn 9 (.pr t (.int 2)))))=true):=by
 have h1:E.I F (.fn 9 (.pr e (.int 5)))=(E.L F e).length/5:=rfl;have h2:E.I F (.fn 9 (.pr t (.int 2)))=(E.L F t).length/2:=rfl;have h3:(E.B F (.fn 157 (.pr t (.fn 9 (.pr t (.int 2)))))=true)=(tn (E.L F t) ((E.L F t).length/2)=true):=rfl
 show(tl (E.L F e) (E.L F t)=true)=_
 grind[tl]
theorem agB:(E.B F (.fn 157 (.pr t n))=true)=(tn (E.L F t) (E.I F n).toNat=true):=rfl
theorem aKF(h:E.B F (.fn 157 (.pr t i))=true)(h0:0<=E.I F i)(hm:E.I F m=E.I F i+1)(hb:E.I F (.fn 9 (.pr (.fn 1 (.pr t (.fn 6 (.pr (.fn 8 (.pr i (.int 2))) (.int 1))))) (.int 5)))<=5):E.B F (.fn 157 (.pr t m))=true:=by
 have e:=vX (F:=F) (T:=t) i 2 1 h0;have h2:E.I F (.fn 9 (.pr (.fn 1 _) (.int 5)))=(E.L F (.fn 1 (.pr t (.fn 6 (.pr (.fn 8 (.pr i (.int 2))) (.int 1)))))).length/5:=rfl;grind[agB,aE3]
theorem aKD(h:E.B F (.fn 155 (.pr C i))=true)(e:E.I F n=E.I F i):E.B F (.fn 155 (.pr C n))=true:=by
 simp_all[agA]
theorem aL1(h0:0<=E.I F i):(E.B F (.fn 156 (.pr (.fn 1 (.pr C (.fn 6 (.pr (.fn 8 (.pr i (.int 14))) (.int 11))))) (.fn 1 (.pr C (.fn 6 (.pr (.fn 8 (.pr i (.int 14))) (.int 12)))))))=true)=
  (tl ((E.L F C).getD ((E.I F i).toNat*14+11) (.int 0)).toL ((E.L F C).getD ((E.I F i).toNat*14+12) (.int 0)).toL=true):=by
 have e:=vX (F:=F) (T:=C) i 14 11 h0;have e2:=vX (F:=F) (T:=C) i 14 12 h0
 rw[<- e,<- e2];rfl
theorem aKE(h:E.B F (.fn 155 (.pr C i))=true)(h0:0<=E.I F i)(hm:E.I F m=E.I F i+1)(hb:E.B F (.fn 156 (.pr (.fn 1 (.pr C (.fn 6 (.pr (.fn 8 (.pr i (.int 14))) (.int 11))))) (.fn 1 (.pr C (.fn 6 (.pr (.fn 8 (.pr i (.int 14))) (.int 12)))))))=true):E.B F (.fn 155 (.pr C m))=true:=by
 grind[aL1,agA,aFZ]
end
end Go.SX

set_option linter.unusedVariables false
set_option linter.unusedSimpArgs false
namespace Go.SX
section
variable {F:Env} {x y l A a b k u i j p q n m r o c d w v X T N L e t C z:E}
/-! small boards -/
theorem Gs:(E.B F (.fn 158 (.pr l n))=true)=(eG (E.L F l) (E.I F n).toNat=true):=rfl
theorem afM(h:E.B F (.fn 158 (.pr l i))=true)(e:E.I F n=E.I F i):E.B F (.fn 158 (.pr l n))=true:=by
 simp_all[Gs]
theorem afN(h:E.B F (.fn 158 (.pr l i))=true)(h0:0<=E.I F i)(hm:E.I F m=E.I F i+1)(hb:E.I F (.fn 9 (.pr (.fn 1 (.pr l (.fn 6 (.pr (.fn 8 (.pr i (.int 5))) (.int 4))))) (.int 2)))<=6):E.B F (.fn 158 (.pr l m))=true:=by
 have e:=vX (F:=F) (T:=l) i 5 4 h0;have h2:E.I F (.fn 9 (.pr (.fn 1 _) (.int 2)))=(E.L F (.fn 1 (.pr l (.fn 6 (.pr (.fn 8 (.pr i (.int 5))) (.int 4)))))).length/2:=rfl;grind[Gs,eG]
theorem kA:(E.B F (.fn 159 X)=true)=(E.I F (.fn 0 (.fn 1 (.pr X (.int 6))))<=40/\E.I F (.fn 0 (.fn 1 (.pr X (.int 7))))<=40/\E.I F (.fn 0 (.fn 1 (.pr X (.int 8))))<=40/\E.I F (.fn 0 (.fn 1 (.pr X (.int 9))))<=40/\
  E.I F (.fn 0 (.fn 1 (.pr X (.int 20))))<=40/\E.I F (.fn 0 (.fn 1 (.pr X (.int 21))))<=40/\E.I F (.fn 0 (.fn 1 (.pr X (.int 22))))<=40/\E.I F (.fn 0 (.fn 1 (.pr X (.int 23))))<=40):=by
 show((List.range 8).all (fun z=>decide ((aV _ z).length<=40))=true)=_
 rw[<- b9,<- b9,<- b9,<- b9,<- b9,<- b9,<- b9,<- b9]
 have er:List.range 8=[0,1,2,3,4,5,6,7]:=rfl;have z0:aH F (.fn 1 (.pr X (.int 6)))=aV (X.den F) 0:=rfl;have z1:aH F (.fn 1 (.pr X (.int 7)))=aV (X.den F) 1:=rfl;have z2:aH F (.fn 1 (.pr X (.int 8)))=aV (X.den F) 2:=rfl;have z3:aH F (.fn 1 (.pr X (.int 9)))=aV (X.den F) 3:=rfl;have y0:aH F (.fn 1 (.pr X (.int 20)))=aV (X.den F) 4:=rfl;have y1:aH F (.fn 1 (.pr X (.int 21)))=aV (X.den F) 5:=rfl;have y2:aH F (.fn 1 (.pr X (.int 22)))=aV (X.den F) 6:=rfl;have y3:aH F (.fn 1 (.pr X (.int 23)))=aV (X.den F) 7:=rfl
 rw[er,z0,z1,z2,z3,y0,y1,y2,y3]
 simp only[List.all_cons];grind
theorem gv:(E.B F (.fn 117 X)=true)=(E.B F (.fn 159 X)=true/\E.I F (.fn 9 (.pr (.fn 1 (.pr X (.int 29))) (.int 5)))<=20/\E.I F (.fn 9 (.pr (.fn 1 (.pr X (.int 30))) (.int 5)))<=20/\
  E.B F (.fn 158 (.pr (.fn 1 (.pr X (.int 29))) (.fn 9 (.pr (.fn 1 (.pr X (.int 29))) (.int 5)))))=true/\E.B F (.fn 158 (.pr (.fn 1 (.pr X (.int 30))) (.fn 9 (.pr (.fn 1 (.pr X (.int 30))) (.int 5)))))=true/\
  E.I F (.fn 9 (.pr (.fn 1 (.pr X (.int 0))) (.int 12)))<=30/\E.I F (.fn 0 (.fn 1 (.pr X (.int 31))))<=30/\E.I F (.fn 9 (.pr (.fn 1 (.pr X (.int 32))) (.int 2)))<=30):=by
 have a:(E.B F (.fn 159 X)=true)=((List.range 8).all (fun z=>decide ((aV _ z).length<=40))=true):=rfl;have b:(E.B F (.fn 158 (.pr (.fn 1 (.pr X (.int 29))) (.fn 9 (.pr (.fn 1 (.pr X (.int 29))) (.int 5)))))=true)=(eG (cX (X.den F) 29).toL (cv (X.den F))=true):=rfl;have c:(E.B F (.fn 158 (.pr (.fn 1 (.pr X (.int 30))) (.fn 9 (.pr (.fn 1 (.pr X (.int 30))) (.int 5)))))=true)=(eG (cX (X.den F) 30).toL ((cX (X.den F) 30).toL.length/5)=true):=rfl;have d:E.I F (.fn 9 (.pr (.fn 1 (.pr X (.int 29))) (.int 5)))=cv (X.den F):=rfl;have e:E.I F (.fn 9 (.pr (.fn 1 (.pr X (.int 30))) (.int 5)))=(cX (X.den F) 30).toL.length/5:=rfl;have f:E.I F (.fn 9 (.pr (.fn 1 (.pr X (.int 0))) (.int 12)))=aD (X.den F):=rfl
 rw[a,b,c,d,e,f,<- sZ,<- ud]
 show(iZ _=true)=_
 grind[iZ]
end
end Go.SX

set_option linter.unusedVariables false
set_option linter.unusedSimpArgs false
namespace Go.SX
/-! ### the sources of a player: the program's -/
theorem aa8(l:List U)(n:Nat):(l.getD n (.bool false)).toB=(l.getD n (.int 0)).toB:=by
 rw[List.getD_eq_getElem?_getD,List.getD_eq_getElem?_getD]
 cases l[n]? <;> rfl
section
variable {F:Env} {x y l A a b k u i j p q n m r o c d w v X T N L e t C z:E}
theorem tG:aH F (.fn 3 (.pr x y))=aH F x++aH F y:=by
 show(E.L F x++E.L F y).map _=_
 rw[List.map_append];rfl
theorem tH:aH F (.fn 23 (.pr a l))=E.I F a::aH F l:=rfl
theorem nj:aH F (.fn 10 a)=[]:=rfl
end
end Go.SX

set_option linter.unusedVariables false
set_option linter.unusedSimpArgs false
namespace Go.SX
section
variable {F:Env} {x y l A a b k u i j p q n m r o c d w v X T N L e t C z s:E}
/-! the reference's: what an object makes -/
end
end Go.SX

set_option linter.unusedVariables false
set_option linter.unusedSimpArgs false
namespace Go.SX
section
variable {F:Env} {x y l A a b k u i j p q n m r o c d w v X T N L e t C z s m0 m1 m2 m3:E}
end
end Go.SX

set_option linter.unusedVariables false
set_option linter.unusedSimpArgs false
namespace Go.SX
/-! ### numbers in order -/
theorem Lt(x:Int):∀l,(ni x l).Perm (x::l)
 |[]=>.refl _
 |y::l=>by
  unfold ni;split
  ·rfl
  ·exact((Lt x l).cons y).trans (.swap x y l)
theorem Nf:∀l,(ep l).Perm l
 |[]=>.refl _
 |x::l=>(Lt x _).trans ((Nf l).cons x)
theorem abI(x:Int):∀l:List Int,l.Pairwise (·<=·)->(ni x l).Pairwise (·<=·)
 |[],_=>by simp[ni]
 |y::l,h=>by
  obtain⟨h1,h2⟩:=List.pairwise_cons.1 h
  unfold ni;split
  ·grind[List.pairwise_cons]
  ·refine List.pairwise_cons.2 ⟨fun a ha=>?_,abI x l h2⟩;rcases List.mem_cons.1 ((Lt x l).mem_iff.1 ha)with rfl|ha
   all_goals grind
theorem Nd:∀l:List Int,(ep l).Pairwise (·<=·)
 |[]=>.nil
 |x::l=>abI x _ (Nd l)
theorem aHZ{a b:List Int}(ha:a.Pairwise (·<=·))(hb:b.Pairwise (·<=·))(h:a.Perm b):a=b:=
 List.Perm.eq_of_pairwise (le:=(·<=·)) (fun a b _ _ h1 h2=>Int.le_antisymm h1 h2) ha hb h
theorem afe{a l:List Int}(ha:a.Pairwise (·<=·))(h:a.Perm l):a=ep l:=aHZ ha (Nd l) (h.trans (Nf l).symm)
/-- a number is put where it belongs -/
theorem aHY{x l:List Int}{v:Int}{n:Nat}(h:x=ep l)(hn:n<=x.length)(hlo:∀a∈x.take n,a<v)(hhi:n=x.length\/v<=x.getD n 0):x.take n++(v ::x.drop n)=ep (l++[v]):=by
  have hs:x.Pairwise (· <= ·):=by simp_all[Nd]
  have hp:x.Perm l:=by simp_all[Nf]
  refine afe ?_ ?_
  · have hs':=hs
    rw[<- List.take_append_drop n x,List.pairwise_append]at hs'
    obtain⟨h1,h2,h3⟩:=hs'
    have hd:∀a∈x.drop n,v<=a:=by
      intro a ha;rcases hhi with e|hv
      · simp_all
      · obtain⟨k,hk,rfl⟩:=List.mem_iff_getElem.1 ha
        rw[List.length_drop]at hk
        have hg:x.getD n 0=x[n]'(by omega):=by
          grind
        rcases Nat.eq_zero_or_pos k with rfl|hk0
        all_goals grind[List.pairwise_iff_getElem]
    rw[List.pairwise_append]
    refine⟨h1,List.pairwise_cons.2 ⟨hd,h2⟩,fun a ha b hb=>?_⟩
    rcases List.mem_cons.1 hb with rfl|hb
    · exact Int.le_of_lt (hlo a ha)
    · exact h3 a ha b hb
  grind[List.take_append_drop,List.perm_middle]
/-! ### the sources in order: both agree -/
theorem aaQ{X:U}{p:Int}(h:oO X p=true):cW X=true/\0<=p/\p<=1:=by
 unfold oO at h
 rw[Bool.and_eq_true,jt,<- ago]at h
 simp_all[rF]
theorem abq{X:U}(h:cW X=true):∀i j,i<j->j<aD X->oI X i 0<oI X j 0:=by
 have ho:=(jz X _).1 (rr h);exact afg (f:=fun i=>oI X i 0) fun i hi=>(ho i hi).2.1
theorem abr{X:U}(h:cW X=true):(gj X).Nodup:=by
 grind[jz,rr,ED]
theorem On{X:U}(h:cW X=true){z:Nat}(hz:z<8){k:Int}(hk:k∈aV X z):∃i,i<aD X/\oI X i 0=k/\oI X i 2=((z/4:Nat):Int):=by
 have ho:=(jz X _).1 (rr h);have hin:=abr h;have hl:(cO X).length=aD X:=by
  simp_all[cW]
 have hp:=MI (oP X) (cO X) (Mj (by simp_all[Ml])) (by
  intro x hx
  obtain⟨i,hi,rfl⟩:=List.mem_map.1 hx
  simp_all[yD]) (by simp_all[oP])
 have hm:(k,(z/4:Int))∈cO X:=by
  obtain⟨r,hr⟩:=E8 X z _ hz
  rw[hr]
  unfold eF
  rw[List.take_length]
  exact List.mem_append.2 (Or.inl (List.mem_append.2 (Or.inr (List.mem_map.2 ⟨k,hk,rfl⟩))))
 obtain⟨i,hi,e⟩:=List.mem_map.1 (hp.mem_iff.2 hm)
 grind
theorem Lo{X:U}(h:cW X=true){i:Nat}(hi:i<aD X):bB X (oI X i 0) (aD X)=i:=by
 have h0:=tA (X:=X) hi rfl
 obtain⟨h1,h2⟩:=qS h0
 have:=abp (abr h) h1 hi h2
 omega
section
variable {F:Env} {x y l A a b k u i j p q n m r o c d w v X T N L e t C z s m0 m1 m2 m3:E}
theorem ug(F:Env)(a:E):0<=E.I F (.fn 9 a):=Int.natCast_nonneg _
/-! numbers in order -/
theorem zG:(E.B F (.fn 152 (.pr x (.pr l i)))=true)=(aH F x=ep ((aH F l).take (E.I F i).toNat)):=by
 show((bp _==ep _)=true)=_
 rw[beq_iff_eq];rfl
theorem Od:(E.B F (.fn 160 (.pr x (.pr v i)))=true)=(∀a∈(aH F x).take (E.I F i).toNat,a<E.I F v):=by
 show(((bp _).take _).all _=true)=_
 simp only[List.all_eq_true,decide_eq_true_eq];rfl
theorem aKC(h:E.I F i<=0):E.B F (.fn 152 (.pr (.fn 10 a) (.pr l i)))=true:=by
 have e:(E.I F i).toNat=0:=by omega
 rw[zG,e];rfl
theorem aKA(h:E.B F (.fn 152 (.pr x (.pr l i)))=true)(e:E.I F n=E.I F i):E.B F (.fn 152 (.pr x (.pr l n)))=true:=by
 simp_all[zG]
theorem aKI(h:E.I F i<=0):E.B F (.fn 160 (.pr x (.pr v i)))=true:=by
 have e:(E.I F i).toNat=0:=by omega
 grind[Od]
theorem aKH(h:E.B F (.fn 160 (.pr x (.pr v i)))=true)(h0:0<=E.I F i)(h1:E.I F i<E.I F (.fn 0 x))(hn:E.I F n=E.I F i+1)(hv:E.I F (.fn 1 (.pr x i))<E.I F v):E.B F (.fn 160 (.pr x (.pr v n)))=true:=by
 have en:(E.I F n).toNat=(E.I F i).toNat+1:=by omega
 grind[Od,fX,py]
/-- the list that Sorted makes in a step -/
theorem FV(h:E.B F (.fn 152 (.pr x (.pr l i)))=true)(h':E.B F (.fn 160 (.pr x (.pr v j)))=true)(ev:v= .fn 1 (.pr l i))(h0:0<=E.I F i)(h1:E.I F i<E.I F (.fn 0 l))(hn:E.I F n=E.I F i+1)
    (j0:0<=E.I F j)(j1:E.I F j<=E.I F (.fn 0 x))(hj:E.I F (.fn 0 x)<=E.I F j\/E.I F v<=E.I F (.fn 1 (.pr x j)))
    (hy:aH F y=(aH F x).take (E.I F j).toNat++(E.I F v ::(aH F x).drop (E.I F j).toNat)):E.B F (.fn 152 (.pr y (.pr l n)))=true:=by
  subst ev;have en:(E.I F n).toNat=(E.I F i).toNat+1:=by omega
  rw[zG]at h
  rw[Od]at h'
  rw[<- b9]at h1 j1 hj
  grind[fX,aHY,E.I,zG,py]
theorem DJ:aH F (.fn 4 (.pr l (.pr a b)))=((aH F l).take (E.I F b).toNat).drop (E.I F a).toNat:=by
 show(((E.L F l).take _).drop _).map _=_
 rw[List.map_drop,List.map_take];rfl
theorem tV(h0:0<=E.I F a)(h1:E.I F a<=E.I F b)(h2:E.I F b<=E.I F (.fn 0 l)):E.I F (.fn 0 (.fn 4 (.pr l (.pr a b))))=E.I F b-E.I F a:=by
 rw[<- b9]at *
 grind[DJ]
theorem aKB(ev:v=.fn 1 (.pr l i))(h0:E.I F i=0)(h1:0<E.I F (.fn 0 l))(hn:E.I F n=1):E.B F (.fn 152 (.pr (.fn 23 (.pr v (.fn 10 a))) (.pr l n)))=true:=by
 have e:=FV (F:=F) (x:=.fn 10 (.int 0)) (j:=.int 0) (y:=.fn 23 (.pr v (.fn 10 a))) (n:=n) (aKC (l:=l) (i:=i) (by omega)) (aKI (v:=v) (Int.le_refl _)) ev (by omega) (by omega) (by omega) (Int.le_refl _) (by rw[<- b9,nj];simp_all) (Or.inl (by rw[<- b9,nj];simp_all)) (by rfl);exact e
theorem FU(h:E.B F (.fn 152 (.pr x (.pr l i)))=true)(h':E.B F (.fn 160 (.pr x (.pr v j)))=true)(ev:v=.fn 1 (.pr l i))(h0:0<=E.I F i)(h1:E.I F i<E.I F (.fn 0 l))(hn:E.I F n=E.I F i+1)
  (j0:0<=E.I F j)(j1:E.I F j<=E.I F (.fn 0 x))(hj:E.I F (.fn 0 x)<=E.I F j\/E.I F v<=E.I F (.fn 1 (.pr x j)))(he:E.I F (.fn 0 x)<=E.I F e):
  (E.I F (.fn 0 x)<=E.I F j->E.B F (.fn 152 (.pr (.fn 3 (.pr (.fn 4 (.pr x (.pr (.int 0) j))) (.fn 23 (.pr v (.fn 10 (.int 0)))))) (.pr l n)))=true)/\
  (E.I F j=0->E.B F (.fn 152 (.pr (.fn 3 (.pr (.fn 23 (.pr v (.fn 10 (.int 0)))) (.fn 4 (.pr x (.pr j e))))) (.pr l n)))=true)/\
  E.B F (.fn 152 (.pr (.fn 3 (.pr (.fn 4 (.pr x (.pr (.int 0) j))) (.fn 3 (.pr (.fn 23 (.pr v (.fn 10 (.int 0)))) (.fn 4 (.pr x (.pr j e))))))) (.pr l n)))=true:=by
 have z0:(E.I F (.int 0)).toNat=0:=rfl;have hx:=b9 (F:=F) (l:=x);have hd:((aH F x).take (E.I F e).toNat)=aH F x:=List.take_of_length_le (by omega)
 refine⟨fun hf=>?_,fun hz=>?_,?_⟩
 ·refine FV h h' ev h0 h1 hn j0 j1 hj ?_;grind[tG,DJ,tH,nj]
 ·refine FV h h' ev h0 h1 hn j0 j1 hj ?_;simp_all[tG,DJ,tH,nj]
 ·refine FV h h' ev h0 h1 hn j0 j1 hj ?_;simp_all[tG,DJ,tH,nj]
/-! equal lists -/
/-! the reference's sources -/
theorem Oc:(E.B F (.fn 145 (.pr X p))=true)=(oO (X.den F) (E.I F p)=true):=rfl
theorem FS(hL:E.B F (.fn 109 (.pr L (.pr X (.pr p (.int 2)))))=true):aH F L=aV (X.den F) (4*(E.I F p).toNat+2):=by
 simp_all[vi,Nat.mul_comm]
theorem zv(hL:E.B F (.fn 109 (.pr L (.pr X (.pr p (.int 2)))))=true)(hf:E.B F (.fn 145 (.pr X p))=true){k:E}(ek:k=.fn 1 (.pr L i))(h0:0<=E.I F i)(h1:E.I F i<E.I F (.fn 0 L)):
  0<=E.I F (.fn 120 (.pr X (.pr k (.fn 9 (.pr (.fn 1 (.pr X (.int 0))) (.int 12)))))):=by
 subst ek
 obtain⟨hp,p0,p1⟩:=aaQ (Oc▸hf)
 rw[<- b9]at h1
 have hm:E.I F (.fn 1 (.pr L i))∈aV (X.den F) (4*(E.I F p).toNat+2):=by
  grind[FS,fX]
 obtain⟨q,hq,he,_⟩:=On hp (by omega) hm
 exact tA hq he
/-! the law -/
end
end Go.SX

set_option linter.unusedVariables false
set_option linter.unusedSimpArgs false
namespace Go.SX
/-! ### values that are equal -/
mutual
theorem U.eq_rfl:∀u:U,U.eq u u=true
 |.int a=>by simp[U.eq]
 |.bool a=>by simp[U.eq]
 |.str a=>by simp[U.eq]
 |.lst l=>by exact U.eqs_rfl l
 |.bx _ _ _ l=>by exact U.eqs_rfl l
theorem U.eqs_rfl:∀l,U.eqs l l=true
 |[]=>rfl
 |x::xs=>by simp only[U.eqs,U.eq_rfl x,U.eqs_rfl xs,Bool.and_self]
end
theorem qG{a b:U}(h:U.eq a b=true):a.toI=b.toI:=by cases a<;>cases b<;>simp_all[U.eq,U.toI]
theorem Kx{a b:U}(h:U.eq a b=true):a.toB=b.toB:=by cases a<;>cases b<;>simp_all[U.eq,U.toB]
theorem qH{a b:U}(h:U.eq a b=true):U.eqs a.toL b.toL=true:=by cases a<;>cases b<;>simp_all[U.eq,U.toL,U.eqs]
theorem iJ:∀ {l m:List U},U.eqs l m=true->l.length=m.length
 |[],[],_=>rfl
 |x::xs,y::ys,h=>by
  simp only[U.eqs,Bool.and_eq_true]at h;simp[iJ h.2]
theorem mT:∀ {l m:List U} (i:Nat),U.eqs l m=true->U.eq (l.getD i (.int 0)) (m.getD i (.int 0))=true
 |[],[],_,_=>by rfl
 |x::xs,y::ys,0,h=>by simp_all[U.eqs]
 |x::xs,y::ys,i+1,h=>by simp only[U.eqs,Bool.and_eq_true]at h;simpa using mT i h.2
theorem Ky:∀ {l m a b:List U},U.eqs l m=true->U.eqs a b=true->U.eqs (l++a) (m++b)=true
 |[],[],_,_,_,h=>h
 |x::xs,y::ys,_,_,h,h'=>by
  simp only[U.eqs,Bool.and_eq_true,List.cons_append]at h ⊢
  exact⟨h.1,Ky h.2 h'⟩
theorem aa7(l:List U){i n:Nat}(h:i<n):(l.take n).getD i (.int 0)=l.getD i (.int 0):=by grind
theorem aLA(l:List U)(n:Nat)(h:n<l.length):l.take (n+1)=l.take n++[l.getD n (.int 0)]:=by
 simp_all
theorem aLy(l:List U)(n:Nat)(h:n+5<=l.length):l.take (n+5)=l.take n++[l.getD n (.int 0),l.getD (n+1) (.int 0),l.getD (n+2) (.int 0),l.getD (n+3) (.int 0),l.getD (n+4) (.int 0)]:=by
 grind[aLA,List.append_assoc]
section
variable {F:Env} {x y l A a b k u i j p q n m r o c d w v X T N L e t C z s:E}
theorem afH(h:E.B F (.fn 12 (.pr a b))=true)(i:E):E.B F (.fn 12 (.pr (.fn 1 (.pr a i)) (.fn 1 (.pr b i))))=true:=mT _ (qH h)
theorem iu(h:E.B F (.fn 12 (.pr a b))=true)(i:E):E.I F (.fn 1 (.pr a i))=E.I F (.fn 1 (.pr b i)):=qG (afH h i)
theorem Nz(h:E.B F (.fn 12 (.pr a b))=true)(i:E):E.B F (.fn 1 (.pr a i))=E.B F (.fn 1 (.pr b i)):=Kx (afH h i)
theorem afI(h:E.B F (.fn 12 (.pr a b))=true):E.I F (.fn 0 a)=E.I F (.fn 0 b):=by
 show((E.L F a).length:Int)=(E.L F b).length
 have e:(E.L F a).length=(E.L F b).length:=iJ (qH (a:=a.den F) (b:=b.den F) h)
 rw[e]
theorem rA(h:E.B F (.fn 12 (.pr a b))=true)(w:E):E.I F (.fn 9 (.pr a w))=E.I F (.fn 9 (.pr b w)):=by
 show((E.L F a).length/(E.I F w).toNat:Nat)=(((E.L F b).length/(E.I F w).toNat:Nat):Int)
 have e:(E.L F a).length=(E.L F b).length:=iJ (qH (a:=a.den F) (b:=b.den F) h)
 rw[e]
/-! whole cR of items -/
theorem pC:(E.B F (.fn 187 (.pr a b))=true)=(fu (E.L F a) (E.L F b)=true):=rfl
theorem gn(l m:List U):fu l m=true↔l.length/5=m.length/5/\U.eqs (l.take (l.length/5*5)) (m.take (m.length/5*5))=true:=by
 simp_all[fu]
theorem afQ(h:E.B F (.fn 187 (.pr a b))=true):E.I F (.fn 9 (.pr a (.int 5)))=E.I F (.fn 9 (.pr b (.int 5))):=by
 rw[pC,gn]at h
 show(E.L F a).length/5=((E.L F b).length/5:Int)
 omega
theorem NE(h:E.B F (.fn 187 (.pr a b))=true)(h0:0<=E.I F i)(h1:E.I F i<E.I F (.fn 9 (.pr b (.int 5)))){j:Nat}(hj:j<5):E.B F (.fn 12 (.pr (bK a i 5 j) (bK b i 5 j)))=true:=by
 rw[pC,gn]at h
 obtain⟨n,hn⟩:=Int.eq_ofNat_of_zero_le h0
 have e9:E.I F (.fn 9 (.pr b (.int 5)))=(E.L F b).length/5:=rfl;have ei:(E.I F i*5+j).toNat=n*5+j:=by omega
 have:=mT (n*5+j) h.2
 rw[aa7 _ (by omega),aa7 _ (by omega)]at this
 show U.eq ((E.L F a).getD (E.I F i*5+j).toNat _) ((E.L F b).getD (E.I F i*5+j).toNat _)=true;simp_all
theorem FW(h:E.B F (.fn 187 (.pr a b))=true)(h0:0<=E.I F i)(h1:E.I F i<E.I F (.fn 9 (.pr b (.int 5)))){j:Nat}(hj:j<5):E.I F (bK a i 5 j)=E.I F (bK b i 5 j):=qG (NE h h0 h1 hj)
/-! as far as they are copied -/
theorem Oe:(E.B F (.fn 181 (.pr a (.pr b n)))=true)=(U.eqs ((E.L F a).take (E.I F n).toNat) ((E.L F b).take (E.I F n).toNat)=true):=rfl
end
end Go.SX

set_option linter.unusedVariables false
set_option linter.unusedSimpArgs false
namespace Go.SX
/-! ### paying, step by step -/
/-! the whole plan -/
/-! what stays true: the sources that are left are some of those that there were -/
end Go.SX

set_option linter.unusedVariables false
set_option linter.unusedSimpArgs false
namespace Go.SX
/-! ### a purse in the facts' words -/
section
variable {F:Env} {p0 p1 p2 p3 q0 q1 q2 q3 R T R1 T1 R2 T2 k n m g i j a b c d x y l v id cE:E}
/-! one mana of any colour -/
end
end Go.SX

set_option linter.unusedVariables false
set_option linter.unusedSimpArgs false
namespace Go.SX
mutual
theorem U.eq_symm:∀a b:U,U.eq a b=true->U.eq b a=true
 |.int a,b,h=>by cases b<;>simp_all[U.eq]
 |.bool a,b,h=>by cases b<;>simp_all[U.eq]
 |.str a,b,h=>by cases b<;>simp_all[U.eq]
 |.lst l,b,h=>by
  cases b with
  |lst m=>simp only[U.eq]at h ⊢;exact U.eqs_symm l m h
  |bx _ _ _ m=>simp only[U.eq]at h ⊢;exact U.eqs_symm l m h
  |_=>simp[U.eq]at h
 |.bx _ _ _ l,b,h=>by
  cases b with
  |lst m=>simp only[U.eq]at h ⊢;exact U.eqs_symm l m h
  |bx _ _ _ m=>simp only[U.eq]at h ⊢;exact U.eqs_symm l m h
  |_=>simp[U.eq]at h
theorem U.eqs_symm:∀l m:List U,U.eqs l m=true->U.eqs m l=true
 |[],m,h=>by cases m<;>simp_all[U.eqs]
 |x::xs,m,h=>by
  cases m with
  |nil=>simp[U.eqs]at h
  |cons y ys=>
   simp only[U.eqs,Bool.and_eq_true]at h ⊢
   exact⟨U.eq_symm x y h.1,U.eqs_symm xs ys h.2⟩
end
/-! ### boards that are the same -/
theorem agk:∀(l ks r:List U),U.typs l ks r=true->l.length<=r.length->∀i,i<l.length->U.typ (l.getD i (.int 0)) (r.getD i (.int 0))=true
 |[],_,_,_,_,i,h=>absurd h (Nat.not_lt_zero _)
 |x::xs,ks,[],_,hl,_,_=>by simp at hl
 |x::xs,ks,k::r,h,hl,i,hi=>by
  simp only[U.typs,Bool.and_eq_true]at h;cases i with
  |zero=>simpa using h.1
  |succ i=>simpa using agk xs ks r h.2 (by simpa using hl) i (by simpa using hi)
theorem aLM{l ks:List U}(h:U.typs l ks []=true)(hl:l.length<=ks.length){i:Nat}(hi:i<l.length):U.typ (l.getD i (.int 0)) (ks.getD i (.int 0))=true:=by
 cases l with
 |nil=>simp at hi
 |cons x xs=>cases ks with
  |nil=>simp at hl
  |cons k r=>exact agk (x::xs) (k::r) (k::r) (by simpa[U.typs]using h) hl i hi
theorem agh{u:U}{ks:List U}(h:U.typ u (.lst ks)=true):∃a n c l,u=.bx a n c l:=by
 cases u with
 |bx a n c l=>exact⟨a,n,c,l,rfl⟩
 |_=>simp[U.typ]at h
section
variable {F:Env} {x y l A a b k u i j p q n m r o c d w v X Y T N L e t C z s:E}
theorem nY:(E.B F (.fn 189 (.pr Y X))=true)=(∀j,j<38->fU j (cX (Y.den F) j) (cX (X.den F) j)=true):=by
 show(((List.range 38).all fun j=>fU j (cX (Y.den F) j) (cX (X.den F) j))=true)=_
 simp only[List.all_eq_true,List.mem_range]
theorem Fp{j:Nat}(h:([0,6,7,8,9,20,21,22,23,31,32].contains j)=true)(a b:U):fU j a b=U.eq a b:=by
 have h9:(j==29||j==30)=false:=by
  cases e:(j==29||j==30)with
  |false=>rfl
  |true=>
   simp only[Bool.or_eq_true,beq_iff_eq]at e;rcases e with rfl|rfl<;>simp at h
 unfold fU
 rw[h9,h];rfl
theorem aHI(j:Nat)(h:(j==29||j==30)=false)(a:U):fU j a a=true:=by
 unfold fU
 rw[h]
 simp only[Bool.false_eq_true,if_false];split
 ·exact U.eq_rfl _
 ·split<;>exact beq_self_eq_true _
theorem gS(h:E.B F (.fn 189 (.pr Y X))=true)(c:Nat)(hc:([0,6,7,8,9,20,21,22,23,31,32].contains c&&decide (c<38))=true):E.B F (.fn 12 (.pr (.fn 1 (.pr Y (.int (Int.ofNat c)))) (.fn 1 (.pr X (.int (Int.ofNat c))))))=true:=by
 rw[nY]at h
 rw[Bool.and_eq_true,decide_eq_true_eq]at hc
 have:=h c hc.2
 rw[Fp hc.1]at this
 exact this
theorem uU(h:E.B F (.fn 189 (.pr Y X))=true)(c:Nat)(hc:c∈[10,11,12,24,25,26]):E.B F (.fn 1 (.pr Y (.int (Int.ofNat c))))=E.B F (.fn 1 (.pr X (.int (Int.ofNat c)))):=by
 rw[nY]at h
 simp only[List.mem_cons,List.not_mem_nil,or_false]at hc;rcases hc with rfl|rfl|rfl|rfl|rfl|rfl
 all_goals first | exact eq_of_beq (h 10 (by decide)) | exact eq_of_beq (h 11 (by decide)) | exact eq_of_beq (h 12 (by decide)) | exact eq_of_beq (h 24 (by decide)) | exact eq_of_beq (h 25 (by decide)) | exact eq_of_beq (h 26 (by decide))
theorem fw(h:E.B F (.fn 189 (.pr Y X))=true)(c:Nat)(hc:c<38)(h1:(c==29||c==30)=false)(h2:[0,6,7,8,9,20,21,22,23,31,32].contains c=false)(h3:[10,11,12,24,25,26].contains c=false):E.I F (.fn 1 (.pr Y (.int (Int.ofNat c))))=E.I F (.fn 1 (.pr X (.int (Int.ofNat c)))):=by
 rw[nY]at h
 have:=h c hc
 unfold fU at this
 rw[h1,h2,h3]at this
 exact eq_of_beq this
theorem aKM(h:E.B F (.fn 189 (.pr Y X))=true):E.B F (.fn 187 (.pr (.fn 1 (.pr Y (.int 29))) (.fn 1 (.pr X (.int 29)))))=true:=by
 rw[nY]at h;exact h 29 (by decide)
theorem aKN(h:E.B F (.fn 189 (.pr Y X))=true):E.B F (.fn 187 (.pr (.fn 1 (.pr Y (.int 30))) (.fn 1 (.pr X (.int 30)))))=true:=by
 rw[nY]at h;exact h 30 (by decide)
/-- a row that is put together -/
def mP(F:Env)(X:U):List E->Nat->Prop
  |[],_=>True
  |c ::cs,j=>fU j (c.den F) (cX X j)=true/\mP F X cs (j+1)
theorem ZJ{X:U}:∀(cs:List E)(j0 i:Nat),mP F X cs j0->i<cs.length->fU (j0+i) ((cs.getD i (.int 0)).den F) (cX X (j0+i))=true
 |[],_,i,_,h=>absurd h (Nat.not_lt_zero _)
 |c::cs,j0,0,h,_=>h.1
 |c::cs,j0,i+1,h,hi=>by
  have:=ZJ cs (j0+1) i h.2 (by simpa using hi)
  rw[show j0+(i+1)=j0+1+i by omega]
  simpa using this
theorem ko:∀(cs:List E)(i:Nat),i<cs.length->cX ((cr cs).den F) i=(cs.getD i (.int 0)).den F
 |[],i,h=>absurd h (Nat.not_lt_zero _)
 |c::cs,0,_=>rfl
 |c::cs,i+1,h=>
  ko cs i (by simpa using h)
theorem aKO{cs:List E}(hl:cs.length=38)(h:mP F (X.den F) cs 0):E.B F (.fn 189 (.pr (cr cs) X))=true:=by
 rw[nY]
 intro j hj
 have:=ZJ cs 0 j h (by omega)
 rw[Nat.zero_add]at this
 rw[ko cs j (by omega)]
 exact this
/-- a list of a board, in a slice -/
theorem aeV{u:U}(h:dA u=true)(a:Option Addr)(n c:Nat):U.eq (.bx a n c u.toL) u=true:=by
  cases u with
  |bx a' n' c' l=>simp only[U.eq,U.toL];exact U.eqs_rfl l
  |lst l=>simp only[U.eq,U.toL];exact U.eqs_rfl l
  |_=>simp[dA]at h
theorem rL:(E.B F (.fn 116 X)=true)=((X.den F).toL.length=38/\(∀j∈[0,6,7,8,9,20,21,22,23,29,30,31,32],dA (cX (X.den F) j)=true)/\fF (cX (X.den F) 29).toL=true/\fF (cX (X.den F) 30).toL=true):=by
 show(s7 (X.den F)=true)=_
 unfold s7
 rw[Bool.and_eq_true,Bool.and_eq_true,Bool.and_eq_true,List.all_eq_true,beq_iff_eq,and_assoc]
theorem aEj(h:E.B F (.fn 116 X)=true){j:Nat}{ks:List U}(hj:j<38)(hk:np.getD j (.int 0)=.lst ks)(a:Option Addr)(n c:Nat):U.eq (.bx a n c (cX (X.den F) j).toL) (cX (X.den F) j)=true:=by
 rw[rL]at h
 refine aeV (h.2.1 j ?_) a n c
 have:∀j,j<38->(match np.getD j (.int 0)with | .lst _=>true | _=>false)=true->j∈[0,6,7,8,9,20,21,22,23,29,30,31,32]:=by decide
 exact this j hj (by rw[hk])
theorem lN(h:E.B F (.fn 12 (.pr a b))=true):E.B F (.fn 12 (.pr b a))=true:=U.eq_symm _ _ h
/-! items that are copied -/
theorem abT(l:E):E.I F (.fn 0 l)=((E.L F l).length:Int):=rfl
theorem Fm(T i:E)(w j:Nat)(h:0<=E.I F i):(bK T i w j).den F=(E.L F T).getD ((E.I F i).toNat*w+j) (.int 0):=by
 obtain⟨n,hn⟩:=Int.eq_ofNat_of_zero_le h
 show(E.L F T).getD (E.I F i*(w:Int)+(j:Int)).toNat (.int 0)=_
 rw[hn]
 congr 1
theorem zH:(E.B F (.fn 190 a)=true)=(∀i,i<(E.L F a).length->i%5=4->dA ((E.L F a).getD i (.int 0))=true):=by
 show(fF (E.L F a)=true)=_
 unfold fF;simp only[List.all_eq_true,List.mem_range,Bool.or_eq_true,Bool.not_eq_true',beq_eq_false_iff_ne];exact propext ⟨fun h i hi h5=>(h i hi).resolve_left (fun h=>h h5),fun h i hi=>Classical.byCases (fun h5:i%5=4=>.inr (h i hi h5)) .inl⟩
theorem afT(h:E.B F (.fn 116 X)=true)(c:Nat)(hc:c=29\/c=30):E.B F (.fn 190 (.fn 1 (.pr X (.int (Int.ofNat c)))))=true:=by
 rw[rL]at h
 rcases hc with rfl|rfl
 ·exact h.2.2.1
 ·exact h.2.2.2
theorem aE9(hb:E.B F (.fn 190 b)=true)(h0:0<=E.I F i)(h3:E.I F i<E.I F (.fn 9 (.pr b (.int 5))))(a:Option Addr)(n c:Nat):U.eq (.bx a n c ((bK b i 5 4).den F).toL) ((bK b i 5 4).den F)=true:=by
 have e9:E.I F (.fn 9 (.pr b (.int 5)))=(((E.L F b).length/5:Nat):Int):=rfl
 rw[Fm _ _ _ _ h0]
 rw[zH]at hb
 exact aeV (hb _ (by omega) (by omega)) a n c
/-- one item more is copied -/
theorem afO{x:List U}{k:Nat}(h:U.eqs x ((E.L F b).take (5*k))=true)(hb:E.B F (.fn 190 b)=true)(h0:E.I F i=k)(h3:E.I F i<E.I F (.fn 9 (.pr b (.int 5))))(v q:E):
    U.eqs (x++[(bK b i 5 0).den F,(bK b i 5 1).den F,(bK b i 5 2).den F,(bK b i 5 3).den F,(E.fn 28 (.pr (.pr v q) (bK b i 5 4))).den F]) ((E.L F b).take (5*k+5))=true:=by
  have e9:E.I F (.fn 9 (.pr b (.int 5)))=(((E.L F b).length/5:Nat):Int):=rfl;have hn:0<=E.I F i:=by omega
  rw[aLy _ _ (by omega)]
  refine Ky h ?_;have g (j:Nat):(bK b i 5 j).den F=(E.L F b).getD (5*k+j) (.int 0):=by rw[Fm _ _ _ _ hn];congr 1;omega
  have g4:U.eq ((E.fn 28 (.pr (.pr v q) (bK b i 5 4))).den F) ((E.L F b).getD (5*k+4) (.int 0))=true:=by rw[<- g 4];exact aE9 hb hn h3 _ _ _
  simp only[U.eqs,g 0,g 1,g 2,g 3,g4,Nat.add_zero,U.eq_rfl,Bool.and_self]
theorem aKK{n0:E}(h:E.B F (.fn 181 (.pr x (.pr b n0)))=true)(hb:E.B F (.fn 190 b)=true)(h0:0<=E.I F i)(h1:E.I F n0=E.I F i*5)(h2:E.I F (.fn 0 x)=E.I F i*5)(h3:E.I F i<E.I F (.fn 9 (.pr b (.int 5))))(h4:E.I F n=(E.I F i+1)*5)(v q:E):
  E.B F (.fn 181 (.pr (.fn 3 (.pr x (.fn 23 (.pr (bK b i 5 0) (.fn 23 (.pr (bK b i 5 1) (.fn 23 (.pr (bK b i 5 2) (.fn 23 (.pr (bK b i 5 3) (.fn 23 (.pr (.fn 28 (.pr (.pr v q) (bK b i 5 4))) (.fn 10 (.int 0)))))))))))))) (.pr b n)))=true:=by
 obtain⟨k,hk⟩:=Int.eq_ofNat_of_zero_le h0
 rw[abT]at h2
 rw[Oe]at h ⊢
 have e1:(E.I F n0).toNat=5*k:=by omega
 have e2:(E.I F n).toNat=5*k+5:=by omega
 rw[e1,List.take_of_length_le (l:=E.L F x) (by omega)]at h
 rw[e2]
 have:=afO h hb hk h3 v q
 rw[List.take_of_length_le]
 ·exact this
 ·show(E.L F x++[_,_,_,_,_]).length<=_
  simp;omega
theorem aKJ(hb:E.B F (.fn 190 b)=true)(h0:E.I F i=0)(h3:E.I F i<E.I F (.fn 9 (.pr b (.int 5))))(h4:E.I F n=(E.I F i+1)*5)(v q:E):
  E.B F (.fn 181 (.pr (.fn 23 (.pr (bK b i 5 0) (.fn 23 (.pr (bK b i 5 1) (.fn 23 (.pr (bK b i 5 2) (.fn 23 (.pr (bK b i 5 3) (.fn 23 (.pr (.fn 28 (.pr (.pr v q) (bK b i 5 4))) (.fn 10 (.int 0)))))))))))) (.pr b n)))=true:=by
 rw[Oe]
 have e2:(E.I F n).toNat=5*0+5:=by omega
 rw[e2]
 have:=afO (x:=[]) (k:=0) (F:=F) (b:=b) (i:=i) rfl hb (by omega) h3 v q
 rw[List.take_of_length_le]
 ·exact this
 ·show([_,_,_,_,_]:List U).length<=_
  simp
theorem afP{a0:E}(h:E.B F (.fn 181 (.pr x (.pr b n)))=true)(h1:E.I F n=E.I F (.fn 9 (.pr b (.int 5)))*5)(h2:E.I F (.fn 0 x)=E.I F n):E.B F (.fn 187 (.pr (.fn 28 (.pr a0 x)) b))=true:=by
 have e9:E.I F (.fn 9 (.pr b (.int 5)))=(((E.L F b).length/5:Nat):Int):=rfl
 rw[abT]at h2
 rw[Oe]at h
 rw[pC,gn]
 have el:E.L F (.fn 28 (.pr a0 x))=E.L F x:=rfl
 rw[el]
 refine⟨by omega,?_⟩
 rw[show(E.L F x).length/5*5=(E.I F n).toNat by omega,show(E.L F b).length/5*5=(E.I F n).toNat by omega]
 exact h
theorem aKL(h:E.L F a=[])(h0:E.I F (.fn 9 (.pr b (.int 5)))<=0):E.B F (.fn 187 (.pr a b))=true:=by
 have e9:E.I F (.fn 9 (.pr b (.int 5)))=(((E.L F b).length/5:Nat):Int):=rfl
 rw[pC,gn,h]
 refine⟨by simp;omega,?_⟩
 rw[show(E.L F b).length/5*5=0 by omega]
 rfl
theorem ND(h:E.B F (.fn 158 (.pr l n))=true)(h0:0<=E.I F i)(h1:E.I F i<E.I F n):E.I F (.fn 9 (.pr (bK l i 5 4) (.int 2)))<=6:=by
 rw[Gs]at h
 unfold eG at h
 rw[Y8]at h
 have:=h (E.I F i).toNat (by omega)
 rw[decide_eq_true_eq]at this
 have e:E.I F (.fn 9 (.pr (bK l i 5 4) (.int 2)))=(((bK l i 5 4).den F).toL.length/2:Nat):=rfl
 rw[e,Fm _ _ _ _ h0]
 omega
theorem dP(j:Nat)(hj:(j==29||j==30)=false){cs:List E}(h:mP F (X.den F) cs (j+1)):mP F (X.den F) (.fn 1 (.pr X (.int (Int.ofNat j)))::cs) j:=
 ⟨aHI j hj _,h⟩
theorem kc(ht:E.B F (.fn 116 X)=true)(j:Nat)(hj:(j==29||j==30)=false)(h38:j<38){ks:List U}(hk:np.getD j (.int 0)=.lst ks){a0:E}{cs:List E}(h:mP F (X.den F) cs (j+1)):
  mP F (X.den F) (.fn 28 (.pr a0 (.fn 1 (.pr X (.int (Int.ofNat j)))))::cs) j:=by
 refine⟨?_,h⟩
 have:∀j,j<38->(j==29||j==30)=false->(match np.getD j (.int 0)with | .lst _=>true | _=>false)=true->[0,6,7,8,9,20,21,22,23,31,32].contains j=true:=by decide
 rw[Fp (this j h38 hj (by rw[hk]))]
 exact aEj ht h38 hk _ _ _
theorem ZZ(j:Nat)(hj:(j==29||j==30)=true){c0:E}(hc:E.B F (.fn 187 (.pr c0 (.fn 1 (.pr X (.int (Int.ofNat j))))))=true){cs:List E}(h:mP F (X.den F) cs (j+1)):mP F (X.den F) (c0::cs) j:=by
 refine⟨?_,h⟩
 unfold fU
 rw[hj]
 exact hc
end
end Go.SX

set_option linter.unusedVariables false
set_option linter.unusedSimpArgs false
namespace Go.SX
/-! ### the first source of a colour -/
section
variable {F:Env} {p0 p1 p2 p3 q0 q1 q2 q3 R T R1 T1 R2 T2 k n m g i j a b c d x y l v id:E}
/-! a source less -/
end
end Go.SX

set_option linter.unusedVariables false
set_option linter.unusedSimpArgs false
namespace Go.SX
noncomputable def MN(F:Env)(C X p:E):Pu:=aen (E.L F C) (X.den F) (E.I F p)
section
variable {F:Env} {p0 p1 p2 p3 q0 q1 q2 q3 R T R1 T1 R2 T2 k n m g i j a b c d x y l v id c0 c1 c2 c3 C X p:E}
end
end Go.SX

set_option linter.unusedVariables false
set_option linter.unusedSimpArgs false
namespace Go.SX
section
variable {F:Env} {p0 p1 p2 p3 q0 q1 q2 q3 R T R1 T1 R2 T2 k n m g i j a b c d x y l v id c0 c1 c2 c3 C X p L:E}
end
end Go.SX

set_option linter.unusedVariables false
set_option linter.unusedSimpArgs false
namespace Go.SX
/-! ### sources by their ids alone -/
/-! what holds of a purse all along -/
end Go.SX

set_option linter.unusedVariables false
set_option linter.unusedSimpArgs false
namespace Go.SX
section
variable {F:Env} {p0 p1 p2 p3 q0 q1 q2 q3 R T R1 T1 R2 T2 k n m g i j a b c d x y l v id c0 c1 c2 c3 C X p L:E}
end
end Go.SX

set_option linter.unusedVariables false
set_option linter.unusedSimpArgs false
namespace Go.SX
section
variable {F:Env} {p0 p1 p2 p3 q0 q1 q2 q3 R T k n a c0 c1 c2 c3 C X p:E}
end
end Go.SX

set_option linter.unusedVariables false
set_option linter.unusedSimpArgs false
namespace Go.SX
/-! ### what can be paid -/
def aEs(k:Nat)(l:List Int):Int:=(((EE l).count (k:Int):Nat):Int)
def Li(k:Nat)(s:Pu):Int:=s.1.getD k 0+aEs k s.2.1
def ag(s:Pu):Int:=s.1.getD 0 0+s.1.getD 1 0+s.1.getD 2 0+s.1.getD 3 0+((s.2.1.length/2:Nat):Int)
def wfP(s:Pu):Prop:=s.2.1.length%2=0/\s.1.length=4/\(∀c∈EE s.2.1,0<=c/\c<4)/\∀k,0<=s.1.getD k 0
/-- t comes of s by so many steps -/
def lessP(n:Int)(s t:Pu):Prop:=wfP t/\(∀j,Li j t<=Li j s)/\(∀j,t.1.getD j 0<=s.1.getD j 0)/\ag t=ag s-n/\t.2.2.length+t.2.1.length/2=s.2.2.length+s.2.1.length/2
theorem lessP.trans{a b:Int}{s t u:Pu}(h:lessP a s t)(h':lessP b t u):lessP (a+b) s u:=by
 obtain⟨_,h2,h3,h4,h5⟩:=h
 obtain⟨g1,g2,g3,g4,g5⟩:=h'
 exact⟨g1,fun j=>Int.le_trans (g2 j) (h2 j),fun j=>Int.le_trans (g3 j) (h3 j),by omega,by omega⟩
end Go.SX

set_option linter.unusedVariables false
set_option linter.unusedSimpArgs false
namespace Go.SX
/-! ### a board after it was paid tells the same -/
theorem JT{n:Nat}{f g:Nat->Bool}(h:∀i,i<n->f i=g i):(List.range n).all f=(List.range n).all g:=by
 grind
theorem Kz{l m:List U}(h:U.eqs l m=true):l.map U.toI=m.map U.toI:=by
 refine List.ext_getElem (by simp[iJ h]) fun i h1 h2=>?_
 have:=qG (mT i h)
 grind
theorem aFg(l:List U){i:Nat}(h:l.length<=i)(d:U):l.getD i d=d:=by grind
section
variable {Y X:U} {p:Nat} {L m:List Int} (h:adY Y X p L m=true) (hY:Y.toL.length=38) (hX:X.toL.length=38)
include h hY hX
end
end Go.SX

set_option linter.unusedVariables false
set_option linter.unusedSimpArgs false
namespace Go.SX
/-! ### a purse and what is left of it -/
end Go.SX

set_option linter.unusedVariables false
set_option linter.unusedSimpArgs false
namespace Go.SX
mutual
theorem U.eq_trans:∀a b c:U,U.eq a b=true->U.eq b c=true->U.eq a c=true
  |.int a,b,c,h,g=>by
    cases b with
    | int b => have e  := by simpa[U.eq]using h
               subst e;exact g
    |_=>simp[U.eq]at h
  |.bool a,b,c,h,g=>by
    cases b with
    | bool b => have e  := by simpa[U.eq]using h
                subst e;exact g
    |_=>simp[U.eq]at h
  |.str a,b,c,h,g=>by
    cases b with
    | str b=>cases c with
      |str c=>
        simp_all[U.eq]
      |_=>simp[U.eq]at g
    |_=>simp[U.eq]at h
  |.lst l,b,c,h,g=>by
    cases b<;>cases c<;>simp only[U.eq]at h g ⊢ <;> first | exact U.eqs_trans l _ _ h g | cases h | cases g
  |.bx _ _ _ l,b,c,h,g=>by
    cases b<;>cases c<;>simp only[U.eq]at h g ⊢ <;> first | exact U.eqs_trans l _ _ h g | cases h | cases g
theorem U.eqs_trans:∀a b c,U.eqs a b=true->U.eqs b c=true->U.eqs a c=true
 |[],b,c,h,g=>by grind[U.eqs]
 |x::xs,b,c,h,g=>by
  cases b with
  |nil=>simp[U.eqs]at h
  |cons y ys=>cases c with
   |nil=>simp[U.eqs]at g
   |cons z zs=>
    simp only[U.eqs,Bool.and_eq_true]at h g ⊢
    exact⟨U.eq_trans x y z h.1 g.1,U.eqs_trans xs ys zs h.2 g.2⟩
end
theorem aeW{u v:U}(h:U.eq u v=true):dA u=dA v:=by
 cases u<;>cases v<;>simp_all[U.eq,dA]
theorem xS{u v:U}(h:U.eqs u.toL v.toL=true)(hu:dA u=true)(hv:dA v=true):U.eq u v=true:=by
 cases u<;>cases v<;>simp_all[U.eq,dA,U.toL]
theorem aaw:∀ {l m:List U} (i:Nat) {v w:U},U.eqs l m=true->U.eq v w=true->U.eqs (l.set i v) (m.set i w)=true
 |[],[],i,_,_,_,_=>by rfl
 |[],_::_,_,_,_,h,_=>by simp[U.eqs]at h
 |_::_,[],_,_,_,h,_=>by simp[U.eqs]at h
 |x::l,y::m,0,v,w,h,g=>by
  simp_all[U.eqs]
 |x::l,y::m,i+1,v,w,h,g=>by
  simp only[U.eqs,Bool.and_eq_true,List.set_cons_succ]at h ⊢;exact⟨h.1,aaw i h.2 g⟩
theorem aHN(l:List U){i:Nat}(h:i<l.length):l.set i (l.getD i (.int 0))=l:=by
 simp_all
theorem aax:∀(n:Nat){l m:List U},U.eqs l m=true->U.eqs (l.take n) (m.take n)=true
 |0,l,m,_=>by rfl
 |n+1,[],[],_=>by rfl
 |n+1,[],_::_,h=>by simp[U.eqs]at h
 |n+1,_::_,[],h=>by simp[U.eqs]at h
 |n+1,x::l,y::m,h=>by
  simp only[U.eqs,Bool.and_eq_true,List.take_succ_cons]at h ⊢;exact⟨h.1,aax n h.2⟩
section
variable {F:Env} {x y l A a b k u i j p q n m r o c d w v X Y T N L e t C z s:E}
/-! lists that are the same -/
theorem Gt:(E.B F (.fn 200 (.pr a b))=true)=(U.eqs (E.L F a) (E.L F b)=true):=rfl
theorem aL2:(E.B F (.fn 201 a)=true)=(dA (a.den F)=true):=rfl
theorem NF:E.B F (.fn 200 (.pr a a))=true:=U.eqs_rfl _
theorem nS:E.B F (.fn 200 (.pr (.fn 28 (.pr z a)) a))=true:=U.eqs_rfl _
theorem aGO(h:E.I F (.fn 0 b)=0):E.L F b=[]:=by
 have e:E.I F (.fn 0 b)=(E.L F b).length:=rfl;simp_all
theorem aKS(h:E.I F (.fn 0 b)=0):E.B F (.fn 200 (.pr (.fn 10 a) b))=true:=by rw[Gt,aGO h];rfl
theorem nT:E.B F (.fn 201 (.fn 28 a))=true:=rfl
theorem aKT(h:E.B F (.fn 200 (.pr a b))=true):E.B F (.fn 187 (.pr a b))=true:=by
 rw[Gt]at h
 rw[pC,gn,iJ h]
 exact⟨rfl,aax _ h⟩
theorem aKU(h:E.B F (.fn 200 (.pr a b))=true)(g:E.B F (.fn 190 b)=true):E.B F (.fn 190 a)=true:=by
 grind[Gt,zH,aeW,mT,iJ]
/-- a target's list in a copied item -/
theorem Sg(h0:0<=E.I F i):E.L F (.fn 2 (.pr a (.pr (.fn 6 (.pr (.fn 8 (.pr i (.int 5))) (.int 4))) v)))=(E.L F a).set ((E.I F i).toNat*5+4) (v.den F):=by
  show(E.L F a).set (E.I F i*5+4).toNat (v.den F)=_
  grind
theorem afR(h:E.B F (.fn 187 (.pr a b))=true)(hs:E.B F (.fn 190 a)=true)(h0:0<=E.I F i)(h1:E.I F i<E.I F (.fn 9 (.pr b (.int 5))))(hv:E.B F (.fn 200 (.pr v (.fn 1 (.pr a (.fn 6 (.pr (.fn 8 (.pr i (.int 5))) (.int 4)))))))=true)(hsv:E.B F (.fn 201 v)=true):
  E.B F (.fn 187 (.pr (.fn 2 (.pr a (.pr (.fn 6 (.pr (.fn 8 (.pr i (.int 5))) (.int 4))) v))) b))=true/\E.B F (.fn 190 (.fn 2 (.pr a (.pr (.fn 6 (.pr (.fn 8 (.pr i (.int 5))) (.int 4))) v))))=true:=by
 have e9:E.I F (.fn 9 (.pr b (.int 5)))=(E.L F b).length/5:=rfl
 rw[pC,gn]at h
 rw[zH]at hs
 rw[Gt]at hv
 rw[aL2]at hsv
 have hi:(E.I F i).toNat*5+4<(E.L F a).length:=by omega
 have hcell:E.L F (.fn 1 (.pr a (.fn 6 (.pr (.fn 8 (.pr i (.int 5))) (.int 4)))))=((E.L F a).getD ((E.I F i).toNat*5+4) (.int 0)).toL:=by
  show((E.L F a).getD (E.I F i*5+4).toNat _).toL=_
  grind
 rw[hcell]at hv
 have heq:=xS hv hsv (hs _ hi (by omega));constructor
 ·rw[pC,gn,Sg h0,List.length_set]
  rw[List.take_set]
  have e2:((E.L F a).take ((E.L F a).length/5*5)).getD ((E.I F i).toNat*5+4) (.int 0)=(E.L F a).getD ((E.I F i).toNat*5+4) (.int 0):=by
   grind
  have g3:=aaw ((E.I F i).toNat*5+4) (U.eqs_rfl ((E.L F a).take ((E.L F a).length/5*5))) heq;grind[aHN,U.eqs_trans]
 grind[zH,Sg]
theorem aKG(h:E.B F (.fn 158 (.pr b n))=true)(g:E.B F (.fn 187 (.pr a b))=true)(h0:0<=E.I F i)(h1:E.I F i<E.I F (.fn 9 (.pr b (.int 5))))(hn:E.I F n=E.I F (.fn 9 (.pr b (.int 5)))):E.I F (.fn 9 (.pr (.fn 1 (.pr a (.fn 6 (.pr (.fn 8 (.pr i (.int 5))) (.int 4))))) (.int 2)))<=6:=by
 have e:=rA (NE g h0 h1 (j:=4) (by decide)) (.int 2);have e':E.I F (.fn 9 (.pr (.fn 1 _) _))=E.I F _:=e
 rw[Gs]at h
 unfold eG at h;have e3:E.I F (.fn 9 (.pr (bK b i 5 4) (.int 2)))=((bK b i 5 4).den F).toL.length/2:=rfl;grind[Fm]
/-! a search by halves -/
end
end Go.SX

set_option linter.unusedVariables false
set_option linter.unusedSimpArgs false
namespace Go.SX
section
variable {F:Env} {x y l A a b k u i j p q n m r o c d w v X Y T N L e t C z s q0 q1 q2 q3 c0 c1 c2 c3:E}
end
end Go.SX

set_option linter.unusedVariables false
set_option linter.unusedSimpArgs false
namespace Go.SX
/-! what comes in has the shape -/
theorem agi{u:U}{ks:List U}(h:U.typ u (.lst ks)=true):dA u=true:=by
 obtain⟨a,n,c,l,rfl⟩:=agh h;rfl
theorem agj{a b c d e:U}:∀(n:Nat)(l:List U),U.typs l [a,b,c,d,e] []=true->n*5+4<l.length->U.typ (l.getD (n*5+4) (.int 0)) e=true
 |0,l,h,hl=>by
  match l,hl with
  |x0::x1::x2::x3::x4::l',_=>simp_all[U.typs]
 |n+1,l,h,hl=>by
  match l,hl with
  |x0::x1::x2::x3::x4::l',hl=>
   have h':U.typs l' [a,b,c,d,e] []=true:=by simp_all[U.typs]
   have:=agj n l' h' (by grind)
   rw[show(n+1)*5+4=(n*5+4)+5 by omega]
   exact this
theorem aFI{l:List U}(h:U.typs l DN []=true):fF l=true:=by
 unfold fF
 rw[List.all_eq_true]
 intro i hi;have hi:=List.mem_range.1 hi;by_cases h5:i%5=4
 ·have e:i=i/5*5+4:=by omega
  have:=agj (i/5) l h (by omega)
  rw[<- e]at this
  rw[agi this,Bool.or_true]
 simp_all
theorem aDT{us:List U}(h:us.length=38)(t:U.typs us np []=true):s7 (.lst us)=true:=by
 have key:∀j,j<38->U.typ _ (np.getD j _)=true:=fun j hj=>aLM t (by rw[h];decide) (by omega)
 have it:∀j,j<38->np.getD j _=.lst DN->fF (us.getD j _).toL=true:=fun j hj hk=>by
  have:=key j hj
  rw[hk]at this
  obtain⟨a,n,c,l,e⟩:=agh this
  rw[e]at this ⊢
  exact aFI (l:=l) (by simp_all[U.typ])
 have sh:∀j,j<38->(match np.getD j (.int 0)with | .lst _=>true | _=>false)=true->dA (us.getD j (.int 0))=true:=fun j hj hk=>by
  grind[agi]
 unfold s7
 rw[Bool.and_eq_true,Bool.and_eq_true,Bool.and_eq_true,List.all_eq_true,beq_iff_eq]
 refine⟨⟨h,fun j hj=>?_⟩,it 29 (by omega) rfl,it 30 (by omega) rfl⟩
 have hj':j<38:=by simp only[List.mem_cons,List.not_mem_nil,or_false]at hj;omega
 refine sh j hj' ?_;simp only[List.mem_cons,List.not_mem_nil,or_false]at hj;rcases hj with rfl|rfl|rfl|rfl|rfl|rfl|rfl|rfl|rfl|rfl|rfl|rfl|rfl<;>rfl
/-- cells of a board that are the same but for the objects -/
def ka(F:Env)(X:U):List E->Nat->Prop
  |[],_=>True
  |c ::cs,j=>(if j==0 then true else if j==29||j==30 then fu (E.L F c) (cX X j).toL&&(dA (c.den F)&&fF (E.L F c))else U.eq (c.den F) (cX X j))=true/\ka F X cs (j+1)
theorem ZK{F:Env}{X:U}:∀(cs:List E)(j:Nat),ka F X cs j->∀i,i<cs.length->(if j+i==0 then true else if j+i==29||j+i==30 then fu (E.L F (cs.getD i (.int 0))) (cX X (j+i)).toL&&(dA ((cs.getD i (.int 0)).den F)&&fF (E.L F (cs.getD i (.int 0))))else U.eq ((cs.getD i (.int 0)).den F) (cX X (j+i)))=true
 |[],_,_,i,hi=>by simp at hi
 |c::cs,j,h,0,_=>h.1
 |c::cs,j,h,i+1,hi=>by
  have:=ZK cs _ h.2 i (by simp_all)
  grind
section
variable {F:Env} {x y l A a b k u i j p q n m r o c d w v X Y T N L e t C z s q0 q1 q2 q3 c0 c1 c2 c3 m0 m1 m2 m3 d0 d1 d2 d3:E}
theorem aEF{cs:List E}(h:ka F (X.den F) cs 1):ka F (X.den F) (c::cs) 0:=⟨rfl,h⟩
theorem eP(j:Nat)(h0:(j==0)=false)(hj:(j==29||j==30)=false){cs:List E}(h:ka F (X.den F) cs (j+1)):ka F (X.den F) (.fn 1 (.pr X (.int (Int.ofNat j)))::cs) j:=by
 refine⟨?_,h⟩
 rw[h0,hj];exact U.eq_rfl _
theorem oL(j:Nat)(h0:(j==0)=false)(hj:(j==29||j==30)=false)(hm:j∈[0,6,7,8,9,20,21,22,23,29,30,31,32])(ht:E.B F (.fn 116 X)=true)(h1:E.B F (.fn 200 (.pr c (.fn 1 (.pr X (.int (Int.ofNat j))))))=true)(h2:E.B F (.fn 201 c)=true)
  {cs:List E}(h:ka F (X.den F) cs (j+1)):ka F (X.den F) (c::cs) j:=by
 refine⟨?_,h⟩
 rw[h0,hj]
 rw[rL]at ht
 exact xS h1 h2 (ht.2.1 j hm)
theorem aaa(j:Nat)(h0:(j==0)=false)(hj:(j==29||j==30)=true)(h1:E.B F (.fn 187 (.pr c (.fn 1 (.pr X (.int (Int.ofNat j))))))=true)(h2:E.B F (.fn 195 c)=true){cs:List E}(h:ka F (X.den F) cs (j+1)):ka F (X.den F) (c::cs) j:=by
 refine⟨?_,h⟩
 rw[h0,hj]
 show(fu _ _&&(dA _&&fF _))=true
 rw[Bool.and_eq_true]
 exact⟨h1,h2⟩
theorem aLZ{x:Int}(h0:0<=x)(h1:x<=1000000):IntKind.i64.wrap x=x/\IntKind.u64.wrap x=x:=by
 constructor
 ·obtain⟨s,e,_,r⟩:=ab x
  omega
 ·simp only[IntKind.wrap,IntKind.bits,IntKind.signed,Bool.false_and,Bool.false_eq_true,if_false];omega
theorem i9(h0:0<=E.I F i)(h1:0<=E.I F j)(h2:E.I F i<=1000)(h3:E.I F j<=1000):E.I F (.wr .i64 (.ar .shr .u64 (.wr .u64 (.ar .add .i64 i j)) (.int 1)))=(E.I F i+E.I F j)/2:=by
 have e:E.I F (.wr _ (.ar .shr .u64 (.wr .u64 (.ar .add _ i j)) (.int 1)))=IntKind.i64.wrap ((IntKind.u64.wrap (IntKind.i64.wrap (E.I F i+E.I F j))).fdiv (2^(min (1:Int).toNat 64))):=rfl;grind[aLZ]
theorem jB:E.I F (.fn 9 (.pr a (.int 1)))=E.I F (.fn 0 a):=by
 show(E.L F a).length/1=((E.L F a).length:Int)
 omega
/-! the law -/
noncomputable def hv(F:Env)(C X p:E)(k:Nat):Int:=Li k (MN F C X p)
noncomputable def tt(F:Env)(C X p:E):Int:=ag (MN F C X p)
noncomputable def ns(F:Env)(C X p:E):Int:=(((MN F C X p).2.1.length/2:Nat):Int)
end
end Go.SX

set_option linter.unusedVariables false
set_option linter.unusedSectionVars false
namespace Go.SX
/-! ### targets stay Dc -/
section
variable {F:Env} {l i n v c x:E}
theorem adX(h:0<=E.I F i)(k:Nat):(E.I F (.fn 6 (.pr (.fn 8 (.pr i (.int 5))) (.int k)))).toNat=(E.I F i).toNat*5+k:=by
 show(E.I F i*5+k).toNat=_
 omega
theorem aaI(h0:0<=E.I F i)(h:E.B F (.fn 158 (.pr l n))=true):E.B F (.fn 158 (.pr (.fn 2 (.pr l (.pr (.fn 6 (.pr (.fn 8 (.pr i (.int 5))) (.int 2))) v))) n))=true:=by
 have h:eG (E.L F l) (E.I F n).toNat=true:=h;show eG ((E.L F l).set (E.I F (.fn 6 (.pr _ (.int (2:Nat))))).toNat _) (E.I F n).toNat=true
 rw[adX h0]
 simp only[eG]at h ⊢;grind
def NN(l i x:E):E:=.fn 2 (.pr l (.pr (.fn 6 (.pr (.fn 8 (.pr i (.int 5))) (.int 4))) (.fn 21 (.pr (.fn 1 (.pr l (.fn 6 (.pr (.fn 8 (.pr i (.int 5))) (.int 4))))) x))))
theorem aga(h0:0<=E.I F i)(k:Nat):(((E.L F (NN l i (.fn 2 (.pr (.fn 1 (.pr l (.fn 6 (.pr (.fn 8 (.pr i (.int 5))) (.int 4))))) x)))).getD k (.int 0)).toL.length=((E.L F l).getD k (.int 0)).toL.length):=by
 show((((E.L F l).set (E.I F _).toNat (U.bx _ _ _ ((((E.L F l).getD (E.I F _).toNat _).toL).set _ _))).getD k _).toL.length)=_
 grind[U.toL]
theorem aaJ(h0:0<=E.I F i)(h:E.B F (.fn 158 (.pr l n))=true):E.B F (.fn 158 (.pr (NN l i (.fn 2 (.pr (.fn 1 (.pr l (.fn 6 (.pr (.fn 8 (.pr i (.int 5))) (.int 4))))) x))) n))=true:=by
 have h:eG (E.L F l) (E.I F n).toNat=true:=h;show eG (E.L F _) (E.I F n).toNat=true;simp only[eG]at h ⊢;grind[aga]
theorem tp(h0:0<=E.I F i):E.I F (.fn 9 (.pr (.fn 1 (.pr (NN l i (.fn 2 (.pr (.fn 1 (.pr l (.fn 6 (.pr (.fn 8 (.pr i (.int 5))) (.int 4))))) x))) (.fn 6 (.pr (.fn 8 (.pr i (.int 5))) (.int 4))))) (.int 2)))=E.I F (.fn 9 (.pr (.fn 1 (.pr l (.fn 6 (.pr (.fn 8 (.pr i (.int 5))) (.int 4))))) (.int 2))):=by
 show(((E.L F _).getD _ _).toL.length/2)=(((E.L F l).getD _ _).toL.length/2:Int)
 rw[aga h0];rfl
theorem Dd(h0:0<=E.I F i)(h1:E.I F i<E.I F n)(h:E.B F (.fn 158 (.pr l n))=true):E.I F (.fn 9 (.pr (.fn 1 (.pr l (.fn 6 (.pr (.fn 8 (.pr i (.int 5))) (.int 4))))) (.int 2)))<=6:=by
 have h:eG (E.L F l) (E.I F n).toNat=true:=h;simp only[eG]at h;have e:=adX h0 4
 show(((E.L F l).getD (E.I F _).toNat _).toL.length/2:Int)<=6
 grind
end
end Go.SX

set_option linter.unusedVariables false
set_option linter.unusedSectionVars false
namespace Go.SX
/-! ### the paid board's numbers and objects (218, 219) -/
section
variable {F:Env} {x y l A a b k u i j p q n m r o c d w v X Y T N L e t C z c0 c1 c2 c3 m0 m1 m2 m3:E}
/-- a board's numbers with a player's pool -/
noncomputable def aGQ(P:Nat)(X m0 m1 m2 m3:E):E:=cr (fj.map fun j=>if j=2+14*P then m0 else if j=3+14*P then m1 else if j=4+14*P then m2 else if j=5+14*P then m3 else .fn 1 (.pr X (.int (Int.ofNat j))))
end
end Go.SX

set_option linter.unusedVariables false
set_option linter.unusedSectionVars false
namespace Go.SX
/-! ### what is tapped are objects -/
/-! ### objects are tapped one by one -/
section
variable {F:Env} {x y l A a b k u i j p q n m r o c d w v X Y T N L e t C z J c0 c1 c2 c3 m0 m1 m2 m3:E}
theorem aKR(h:E.B F (.fn 187 (.pr (.fn 28 (.pr z x)) b))=true)(g:E.B F (.fn 190 b)=true):E.B F (.fn 195 (.fn 28 (.pr z x)))=true:=by
 have h:fu (E.L F x) (E.L F b)=true:=h;show E.B F (.fn 190 x)=true
 rw[zH]at g ⊢
 rw[gn]at h
 intro i hi h5;have hq:=mT i h.2;grind[aeW]
end
end Go.SX

set_option linter.unusedVariables false
set_option linter.unusedSectionVars false
namespace Go.SX
/-! ### an owned paid board against the reference's -/
theorem C7{a b c:List U}(h:U.eqs a b=true)(g:U.eqs b c=true):U.eqs a c=true:=
 U.eq_trans (.lst a) (.lst b) (.lst c) h g
theorem C6{a b:List U}(h:U.eqs a b=true):U.eqs b a=true:=U.eq_symm (.lst a) (.lst b) h
section
variable {F:Env} {x y l A a b k u i j p q n m r o c d w v X Y W R T N L e t C z c0 c1 c2 c3:E}
/-- a row whose slices are slices -/
def zk:E->Bool
  |.fn 28 _=>true
  |.fn 30 _=>true
  |_=>false
theorem aeU{e:E}(h:zk e=true):dA (e.den F)=true:=by
 unfold zk at h;split at h
 ·rfl
 ·rfl
 ·cases h
theorem aKj{cs:List E}(hl:cs.length=38)(h:([0,6,7,8,9,20,21,22,23,29,30,31,32].all fun j=>zk (cs.getD j (.int 0)))=true)(h29:E.B F (.fn 190 (cs.getD 29 (.int 0)))=true)(h30:E.B F (.fn 190 (cs.getD 30 (.int 0)))=true):E.B F (.fn 116 (cr cs))=true:=by
 rw[rL]
 have lenm:∀cs,((cr cs).den F).toL.length=cs.length:=by
  intro cs;induction cs with
  |nil=>rfl
  |cons c cs ih=>show(((cr cs).den F).toL.length+1)=_;simp_all
 refine⟨by simp_all,fun j hj=>?_,?_,?_⟩
 ·have hj38:j<38:=by
   simp only[List.mem_cons,List.not_mem_nil,or_false]at hj;omega
  grind[ko,aeU]
 ·rw[ko cs 29 (by omega)];exact h29
 ·rw[ko cs 30 (by omega)];exact h30
theorem zj{a b:List U}(h:fu a b=true)(n:Nat)(hn:n<=b.length/5):eG a n=eG b n:=by
 rw[gn]at h
 refine JT fun i hi=>?_
 have e:=mT (i*5+4) h.2;grind[iJ,qH]
theorem aKl(h:E.B F (.fn 189 (.pr W R))=true)(hs:E.B F (.fn 117 W)=true):E.B F (.fn 117 R)=true:=by
 rw[nY]at h
 have hs:iZ _=true:=hs;show iZ _=true;have ls:∀j,[0,6,7,8,9,20,21,22,23,31,32].contains j=true->j<38->U.eqs (cX (W.den F) j).toL (cX (R.den F) j).toL=true:=fun j hj h38=>by
  grind[Fp,qH]
 have it:∀j,(j==29||j==30)=true->j<38->fu (cX (W.den F) j).toL (cX (R.den F) j).toL=true:=fun j hj h38=>by
  grind[fU]
 have hz:∀k,k<8->aV _ k=aV _ k:=fun k hk=>Kz (ls _ (by
  have:k=0\/k=1\/k=2\/k=3\/k=4\/k=5\/k=6\/k=7:=by omega
  rcases this with rfl|rfl|rfl|rfl|rfl|rfl|rfl|rfl<;>rfl) (by omega))
 have e29:=it 29 (by rfl) (by decide);have e30:=it 30 (by rfl) (by decide);have n29:=((gn _ _).1 e29).1;have n30:=((gn _ _).1 e30).1;have ea:aW _=aW _:=Kz (ls 31 (by rfl) (by decide));have eb:dG (W.den F)=dG (R.den F):=by
  have:=iJ (ls 32 (by rfl) (by decide))
  simp_all[dG]
 have eo:aD (W.den F)=aD (R.den F):=by
  grind[iJ,aD]
 have es:cv _=cv _:=n29;have ezz:((List.range 8).all fun z=>decide ((aV (W.den F) z).length<=40))=(List.range 8).all fun z=>decide ((aV (R.den F) z).length<=40):=JT fun k hk=>by simp_all
 unfold iZ at hs ⊢
 rw[<- ezz,<- ea,<- eb,<- eo,<- es,<- n30]
 rw[<- zj e29 _ (by rw[es];exact Nat.le_refl _),<- zj e30 _ (by omega)]
 omega
/-- items' targets are Dc in a copy -/
theorem afL(h:E.B F (.fn 187 (.pr l b))=true)(g:E.B F (.fn 158 (.pr b (.fn 9 (.pr b (.int 5)))))=true)(e:E.I F n=E.I F (.fn 9 (.pr b (.int 5)))):E.B F (.fn 158 (.pr l n))=true:=by
  rw[pC]at h
  have en:(E.I F (.fn 9 (.pr b (.int 5)))).toNat=(E.L F b).length/5:=rfl;show eG (E.L F l) (E.I F n).toNat=true
  rw[e,en]at *
  rw[zj h _ (Nat.le_refl _)]
  exact g
end
end Go.SX

set_option linter.unusedVariables false
set_option linter.unusedSectionVars false
namespace Go.SX
/-! ### gives: an owned board by its numbers and lists (221) -/
theorem DC{j i:Nat}(hj:j<38)(h:jD.idxOf? j=some i):(j,i)∈[(0,0),(6,1),(7,2),(8,3),(9,4),(20,5),(21,6),(22,7),(23,8),(29,9),(30,10),(31,11),(32,12)]:=by
 have:∀j,j<38->(match jD.idxOf? j with | some i=>[(0,0),(6,1),(7,2),(8,3),(9,4),(20,5),(21,6),(22,7),(23,8),(29,9),(30,10),(31,11),(32,12)].contains (j,i) | none=>true)=true:=by decide
 grind
theorem aFq{j:Nat}(hj:j<38)(h:jD.idxOf? j=none):(decide (fj.idxOf j<25)&&(fj.getD (fj.idxOf j) 0==j))=true/\(decide (j<38) && !([0,6,7,8,9,20,21,22,23,29,30,31,32].contains j))=true:=by
 have:∀j,j<38->(match jD.idxOf? j with | some i=>true | none=>(decide (fj.idxOf j<25)&&(fj.getD (fj.idxOf j) 0==j))&&(decide (j<38) && !([0,6,7,8,9,20,21,22,23,29,30,31,32].contains j)))=true:=by decide
 grind
section
variable {F:Env} {x y l A a b k u i j p q n m r o c d w v X Y W R T N L e t C z c0 c1 c2 c3 l0 l1 l2 l3 l4 l5 l6 l7 l8 l9 l10 l11 l12:E}
noncomputable def CP(W Y l0 l1 l2 l3 l4 l5 l6 l7 l8 l9 l10 l11 l12:E):E:=.fn 221 (.pr W (.pr Y (.pr l0 (.pr l1 (.pr l2 (.pr l3 (.pr l4 (.pr l5 (.pr l6 (.pr l7 (.pr l8 (.pr l9 (.pr l10 (.pr l11 (.pr l12 (.int 0))))))))))))))))
theorem aL3(h:E.B F (CP W Y l0 l1 l2 l3 l4 l5 l6 l7 l8 l9 l10 l11 l12)=true):nP (W.den F) (Y.den F) (fun i=>([l0,l1,l2,l3,l4,l5,l6,l7,l8,l9,l10,l11,l12].getD i (.int 0)).den F)=true:=by
 have h:nP (W.den F) (Y.den F) _=true:=h;unfold nP at h ⊢
 rw[List.all_eq_true]at h ⊢
 intro j hj;have hh:=h j hj;have hj:=List.mem_range.1 hj;cases e:jD.idxOf? j with
 |none=>simp_all
 |some i=>
  have:=DC hj e
  simp only[List.mem_cons,List.not_mem_nil,or_false]at this;rcases this with⟨rfl,rfl⟩|⟨rfl,rfl⟩|⟨rfl,rfl⟩|⟨rfl,rfl⟩|⟨rfl,rfl⟩|⟨rfl,rfl⟩|⟨rfl,rfl⟩|⟨rfl,rfl⟩|⟨rfl,rfl⟩|⟨rfl,rfl⟩|⟨rfl,rfl⟩|⟨rfl,rfl⟩|⟨rfl,rfl⟩<;>exact hh
theorem aL4(h:nP (W.den F) (Y.den F) (fun i=>([l0,l1,l2,l3,l4,l5,l6,l7,l8,l9,l10,l11,l12].getD i (.int 0)).den F)=true):E.B F (CP W Y l0 l1 l2 l3 l4 l5 l6 l7 l8 l9 l10 l11 l12)=true:=by
 show nP (W.den F) (Y.den F) _=true;unfold nP at h ⊢
 rw[List.all_eq_true]at h ⊢
 intro j hj;have hh:=h j hj;have hj:=List.mem_range.1 hj;cases e:jD.idxOf? j with
 |none=>simp_all
 |some i=>
  have:=DC hj e
  simp only[List.mem_cons,List.not_mem_nil,or_false]at this;rcases this with⟨rfl,rfl⟩|⟨rfl,rfl⟩|⟨rfl,rfl⟩|⟨rfl,rfl⟩|⟨rfl,rfl⟩|⟨rfl,rfl⟩|⟨rfl,rfl⟩|⟨rfl,rfl⟩|⟨rfl,rfl⟩|⟨rfl,rfl⟩|⟨rfl,rfl⟩|⟨rfl,rfl⟩|⟨rfl,rfl⟩<;>exact hh
/-- what is lent of it, as a row -/
noncomputable def uI(zs ls:List E)(Y:E):E:=cr ((List.range 38).map fun j=>match jD.idxOf? j with
  |some i=> .fn 28 (.pr (zs.getD i (.int 0)) (ls.getD i (.int 0)))
  |none=> .fn 1 (.pr Y (.int (Int.ofNat (fj.idxOf j)))))
theorem aHy(zs ls:List E)(j:Nat)(hj:j<38):cX ((uI zs ls Y).den F) j=(match jD.idxOf? j with
 |some i=>E.fn 28 (.pr (zs.getD i (.int 0)) (ls.getD i (.int 0)))
 |none=>E.fn 1 (.pr Y (.int (Int.ofNat (fj.idxOf j))))).den F:=by
 have:=ko (F:=F) ((List.range 38).map fun j=>match jD.idxOf? j with
  |some i=>E.fn 28 (.pr (zs.getD i (.int 0)) (ls.getD i (.int 0)))
  |none=>E.fn 1 (.pr Y (.int (Int.ofNat (fj.idxOf j))))) j (by simp_all)
 refine Eq.trans this ?_;simp_all
theorem afS(zs:List E)(h:E.B F (CP W Y l0 l1 l2 l3 l4 l5 l6 l7 l8 l9 l10 l11 l12)=true)(hW:E.B F (.fn 116 W)=true):E.B F (.fn 189 (.pr W (uI zs [l0,l1,l2,l3,l4,l5,l6,l7,l8,l9,l10,l11,l12] Y)))=true:=by
 have h:=aL3 h
 rw[rL]at hW
 rw[nY]
 intro j hj;unfold nP at h
 rw[List.all_eq_true]at h
 have hh:=h j (List.mem_range.2 hj)
 rw[aHy zs _ j hj]
 cases e:jD.idxOf? j with
 |none=>
  simp only[e]at hh ⊢;exact hh
 |some i=>
  simp only[e]at hh ⊢;have t:=DC hj e;by_cases h9:(j==29||j==30)=true
  ·rw[if_pos h9]at hh
   unfold fU
   rw[if_pos h9]
   exact hh
  ·rw[if_neg h9]at hh
   have hc:[0,6,7,8,9,20,21,22,23,31,32].contains j=true/\j∈[0,6,7,8,9,20,21,22,23,29,30,31,32]:=by
    simp only[List.mem_cons,List.not_mem_nil,or_false]at t;rcases t with⟨rfl,rfl⟩|⟨rfl,rfl⟩|⟨rfl,rfl⟩|⟨rfl,rfl⟩|⟨rfl,rfl⟩|⟨rfl,rfl⟩|⟨rfl,rfl⟩|⟨rfl,rfl⟩|⟨rfl,rfl⟩|⟨rfl,rfl⟩|⟨rfl,rfl⟩|⟨rfl,rfl⟩|⟨rfl,rfl⟩<;>simp at h9 ⊢
   rw[Fp hc.1]
   exact xS hh (hW.2.1 j hc.2) rfl
theorem aKk(zs:List E)(h9:E.B F (.fn 190 l9)=true)(h10:E.B F (.fn 190 l10)=true):E.B F (.fn 116 (uI zs [l0,l1,l2,l3,l4,l5,l6,l7,l8,l9,l10,l11,l12] Y))=true:=
 aKj rfl rfl h9 h10
/-! zero boards -/
def zE:E->Bool
 |.fn 28 (.pr _ (.fn 10 _))=>true
 |.fn 30 (.int _)=>true
 |.int 0=>true
 |.bool false=>true
 |_=>false
theorem aL5{e:E}(h:zE e=true):(e.den F).toL=[]/\(e.den F).toI=0/\(e.den F).toB=false:=by
 unfold zE at h;split at h
 ·exact⟨rfl,rfl,rfl⟩
 ·exact⟨rfl,rfl,rfl⟩
 ·exact⟨rfl,rfl,rfl⟩
 ·exact⟨rfl,rfl,rfl⟩
 ·cases h
theorem Oj{cs:List E}(h:cs.all zE=true)(j:Nat):(cX ((cr cs).den F) j).toL=[]/\(cX ((cr cs).den F) j).toI=0/\(cX ((cr cs).den F) j).toB=false:=by
 have lenm:∀cs,((cr cs).den F).toL.length=cs.length:=by
  intro cs;induction cs with
  |nil=>rfl
  |cons c cs ih=>show(((cr cs).den F).toL.length+1)=_;simp_all
 by_cases hj:j<cs.length
 ·simp_all[ko,aL5]
 ·unfold cX
  rw[aFg _ (by simp_all)]
  exact⟨rfl,rfl,rfl⟩
theorem aKn{cs:List E}(h:cs.all zE=true):E.B F (.fn 117 (cr cs))=true:=by
 show iZ _=true;have h0:=fun j=>(Oj (F:=F) h j).1
 have hz:∀k,aV ((cr cs).den F) k=[]:=fun k=>by simp_all[aV,bp]
 simp_all[iZ,cv,aD,dG,aW,bp,eG]
theorem aKP{cs ds:List E}(h:cs.all zE=true)(h':ds.all zE=true)(hl:cs.length=38)(hl':ds.length=38)(hs:([0,6,7,8,9,20,21,22,23,31,32].all fun j=>zk (cs.getD j (.int 0)))=true)(hs':([0,6,7,8,9,20,21,22,23,31,32].all fun j=>zk (ds.getD j (.int 0)))=true):
  E.B F (.fn 189 (.pr (cr cs) (cr ds)))=true:=by
 rw[nY]
 intro j hj;have a:=Oj (F:=F) h j;have b:=Oj (F:=F) h' j;unfold fU;split
 ·rw[a.1,b.1];rfl
 ·split
  ·refine xS (by rw[a.1,b.1];rfl) ?_ ?_;all_goals grind[ko,aeU]
  simp_all
end
end Go.SX

set_option linter.unusedVariables false
set_option linter.unusedSectionVars false
namespace Go.SX
/-! ### combat: keywords and creatures -/
section
variable {F:Env} {x y l A a b k u i j p q n m r o c d w v X Y T N L e t C z:E}
theorem Qx:E.I F (.ar .and .i64 a b)=Cm (E.I F a) (E.I F b):=rfl
theorem agC:(E.B F (.fn 222 (.pr l (.pr c k)))=true)=(Cm (gc (E.L F l) (E.I F c) 10) (E.I F k)=E.I F k):=by
 show((Cm _ _==_)=true)=_
 rw[beq_iff_eq];rfl
theorem Of:(E.B F (.fn 223 (.pr l c))=true)=(E.I F c=-1\/gc (E.L F l) (E.I F c) 1=2):=by
 show((_==_||_==_)=true)=_
 rw[Bool.or_eq_true,beq_iff_eq,beq_iff_eq];rfl
theorem ZE(j:Nat)(h0:0<=E.I F c)(h1:E.I F c<E.I F (.fn 9 (.pr l (.int 14)))):gc (E.L F l) (E.I F c) j=E.I F (.fn 1 (.pr l (.fn 6 (.pr (.fn 8 (.pr c (.int (Int.ofNat 14)))) (.int (Int.ofNat j)))))):=by
 rw[lV c 14 j h0]
 have e:E.I F (.fn 9 (.pr l (.int 14)))=(((E.L F l).length/14:Nat):Int):=rfl;unfold gc
 rw[if_pos ⟨h0,by omega⟩]
theorem ZF(j:Nat)(h:E.I F c<0\/¬E.I F c<E.I F (.fn 9 (.pr l (.int 14)))):gc (E.L F l) (E.I F c) j=0:=by
 have e:E.I F (.fn 9 (.pr l (.int 14)))=(((E.L F l).length/14:Nat):Int):=rfl;unfold gc
 rw[if_neg (by omega)]
theorem yi{f g:E}(h:(E.B F f=true)=(E.B F g=true)):E.B F (.iff f g)=true:=by
 rw[bg];exact iff_of_eq h
theorem kg:(E.B F (.cmp .eql a b)=true)=(E.I F a=E.I F b):=by
 rw[ae5]
theorem aFm(h0:0<=E.I F c)(h1:E.I F c<E.I F (.fn 9 (.pr l (.int 14)))):E.B F (.iff (.cmp .eql (.ar .and .i64 (.fn 1 (.pr l (.fn 6 (.pr (.fn 8 (.pr c (.int 14))) (.int 10))))) k) k) (.fn 222 (.pr l (.pr c k))))=true:=by
 refine yi ?_
 rw[kg,agC,Qx,ZE 10 h0 h1]
 rfl
theorem abn(h:E.I F c<0\/¬E.I F c<E.I F (.fn 9 (.pr l (.int 14)))):E.B F (.iff (.cmp .eql (.ar .and .i64 (.int 0) k) k) (.fn 222 (.pr l (.pr c k))))=true:=by
 refine yi ?_
 rw[kg,agC,Qx,ZF 10 h]
 rfl
theorem aED(hn:¬E.I F c=-1)(h0:0<=E.I F c)(h1:E.I F c<E.I F (.fn 9 (.pr l (.int 14)))):E.B F (.iff (.cmp .eql (.fn 1 (.pr l (.fn 6 (.pr (.fn 8 (.pr c (.int 14))) (.int 1))))) (.int 2)) (.fn 223 (.pr l c)))=true:=by
 refine yi ?_;have e:=ZE 1 h0 h1
 rw[kg,Of,e]
 simp only[hn,false_or];rfl
theorem ZX(hn:¬E.I F c=-1)(h:E.I F c<0\/¬E.I F c<E.I F (.fn 9 (.pr l (.int 14)))):E.B F (.iff (.bool false) (.fn 223 (.pr l c)))=true:=by
 refine yi ?_;have e:=ZF 1 h
 rw[Of,e]
 simp[hn]
theorem aEE(hn:E.I F c=-1):E.B F (.iff (.bool true) (.fn 223 (.pr l c)))=true:=by
 refine yi ?_
 rw[Of]
 simp[hn]
/-! a search by halves among objects -/
theorem zI:(E.B F (.fn 226 (.pr l (.pr x (.pr i j))))=true)=(∀q,q<(E.L F l).length/12->((E.I F i).toNat<=q\/nI (E.L F l) (q*12)<E.I F x)/\(q<(E.I F j).toNat\/E.I F x<=nI (E.L F l) (q*12))):=by
 show(((List.range _).all fun q=>(decide ((E.I F i).toNat<=q)||decide (nI (E.L F l) (q*12)<E.I F x))&&(decide (q<(E.I F j).toNat)||decide (E.I F x<=nI (E.L F l) (q*12))))=true)=_
 simp only[List.all_eq_true,List.mem_range,Bool.and_eq_true,Bool.or_eq_true,decide_eq_true_eq];rfl
theorem Oh:(E.B F (.fn 228 l)=true)=(∀q,q<(E.L F l).length/12->(1<=nI (E.L F l) (q*12)/\nI (E.L F l) (q*12)<=500)/\((E.L F l).length/12<=q+1\/nI (E.L F l) (q*12)<nI (E.L F l) ((q+1)*12))):=by
 show(((List.range _).all fun q=>decide (1<=nI (E.L F l) (q*12))&&decide (nI (E.L F l) (q*12)<=500)&&(decide ((E.L F l).length/12<=q+1)||decide (nI (E.L F l) (q*12)<nI (E.L F l) ((q+1)*12))))=true)=_
 simp only[List.all_eq_true,List.mem_range,Bool.and_eq_true,Bool.or_eq_true,decide_eq_true_eq];rfl
theorem zi:E.I F (.fn 9 (.pr l (.int 12)))=(((E.L F l).length/12:Nat):Int):=rfl
theorem abt(h:E.B F (.fn 228 l)=true):∀d q,q+d<(E.L F l).length/12->nI (E.L F l) (q*12)+d<=nI (E.L F l) ((q+d)*12):=by
 rw[Oh]at h
 intro d;induction d with
 |zero=>intro q _;simp
 |succ d ih=>
  intro q hq;have a:=ih q (by omega);have b:=(h (q+d) (by omega)).2
  rw[show q+(d+1)=q+d+1 by omega]
  omega
theorem Ln(h:E.B F (.fn 228 l)=true){q r:Nat}(hq:q<=r)(hr:r<(E.L F l).length/12):nI (E.L F l) (q*12)<=nI (E.L F l) (r*12):=by
 have:=abt h (r-q) q (by omega)
 rw[show q+(r-q)=r by omega]at this
 omega
theorem tz(h0:0<=E.I F i):E.I F (.fn 1 (.pr l (.fn 6 (.pr (.fn 8 (.pr i (.int 12))) (.int 0)))))=nI (E.L F l) ((E.I F i).toNat*12):=by
 have:=lV (T:=l) i 12 0 h0
 exact this
theorem Lm(h:E.B F (.fn 228 l)=true)(h0:0<=E.I F i)(h1:E.I F i<E.I F (.fn 9 (.pr l (.int 12)))):1<=E.I F (.fn 1 (.pr l (.fn 6 (.pr (.fn 8 (.pr i (.int 12))) (.int 0)))))/\E.I F (.fn 1 (.pr l (.fn 6 (.pr (.fn 8 (.pr i (.int 12))) (.int 0)))))<=500:=by
 rw[tz h0]
 rw[Oh]at h
 rw[zi]at h1
 exact(h _ (by omega)).1
theorem aK4(hi:E.I F i<=0)(hj:E.I F (.fn 9 (.pr l (.int 12)))<=E.I F j):E.B F (.fn 226 (.pr l (.pr x (.pr i j))))=true:=by
 rw[zI]
 rw[zi]at hj
 intro q hq
 exact⟨.inl (by omega),.inl (by omega)⟩
theorem aK1(h:E.B F (.fn 226 (.pr l (.pr x (.pr i j))))=true)(e:E.I F n=E.I F j):E.B F (.fn 226 (.pr l (.pr x (.pr i n))))=true:=by
 rw[zI]at *;rw[e];exact h
theorem aK2(hs:E.B F (.fn 228 l)=true)(h:E.B F (.fn 226 (.pr l (.pr x (.pr i j))))=true)(h0:0<=E.I F m)(h1:E.I F m<E.I F (.fn 9 (.pr l (.int 12))))(hv:E.I F (.fn 1 (.pr l (.fn 6 (.pr (.fn 8 (.pr m (.int 12))) (.int 0)))))<E.I F x)(hk:E.I F k=E.I F m+1):
  E.B F (.fn 226 (.pr l (.pr x (.pr k j))))=true:=by
 rw[tz h0]at hv
 rw[zi]at h1
 rw[zI]at *
 intro q hq
 refine⟨?_,(h q hq).2⟩
 by_cases c:q<=(E.I F m).toNat
 ·have:=Ln hs c (by omega)
  right;omega
 ·left;omega
theorem aK3(hs:E.B F (.fn 228 l)=true)(h:E.B F (.fn 226 (.pr l (.pr x (.pr i j))))=true)(h0:0<=E.I F m)(h1:E.I F m<E.I F (.fn 9 (.pr l (.int 12))))(hv:¬E.I F (.fn 1 (.pr l (.fn 6 (.pr (.fn 8 (.pr m (.int 12))) (.int 0)))))<E.I F x):
  E.B F (.fn 226 (.pr l (.pr x (.pr i m))))=true:=by
 rw[tz h0]at hv
 rw[zi]at h1
 rw[zI]at *
 intro q hq
 refine⟨(h q hq).1,?_⟩
 by_cases c:(E.I F m).toNat<=q
 ·have:=Ln hs c hq
  right;omega
 ·left;omega
/-- what is there is found -/
theorem Zo(hs:E.B F (.fn 228 (.fn 1 (.pr X (.int 0))))=true)(h:E.B F (.fn 226 (.pr (.fn 1 (.pr X (.int 0))) (.pr x (.pr i i))))=true)(h0:0<=E.I F i)(hx:0<=bB (X.den F) (E.I F x) (aD (X.den F))):
    E.I F i=bB (X.den F) (E.I F x) (aD (X.den F))/\E.I F i<E.I F (.fn 9 (.pr (.fn 1 (.pr X (.int 0))) (.int 12)))/\E.I F (.fn 1 (.pr (.fn 1 (.pr X (.int 0))) (.fn 6 (.pr (.fn 8 (.pr i (.int 12))) (.int 0)))))=E.I F x:=by
  obtain⟨h1,h2⟩:=qS hx
  have en:(E.L F (.fn 1 (.pr X (.int 0)))).length/12=aD (X.den F):=rfl;have ei:∀q,nI (E.L F (.fn 1 (.pr X (.int 0)))) (q*12)=oI (X.den F) q 0:=fun q=>rfl
  rw[zI]at h
  rw[zi,en,tz h0,ei]
  have a:=h (bB (X.den F) (E.I F x) (aD (X.den F))).toNat (by rw[en];exact h1)
  rw[ei,h2]at a
  have b:(E.I F i).toNat<=(bB (X.den F) (E.I F x) (aD (X.den F))).toNat:=by omega
  have c:=h (E.I F i).toNat (by rw[en];omega)
  rw[ei]at c
  have d:=Ln hs b (by rw[en];exact h1)
  rw[ei,ei,h2]at d
  have e:oI (X.den F) (E.I F i).toNat 0=E.I F x:=by omega
  have f:=abt hs ((bB (X.den F) (E.I F x) (aD (X.den F))).toNat-(E.I F i).toNat) (E.I F i).toNat (by rw[en];omega)
  rw[show(E.I F i).toNat+((bB (X.den F) (E.I F x) (aD (X.den F))).toNat-(E.I F i).toNat)=(bB (X.den F) (E.I F x) (aD (X.den F))).toNat by omega,ei,ei,h2,e]at f
  refine⟨by omega,by omega,e⟩
end
end Go.SX

set_option linter.unusedVariables false
set_option linter.unusedSectionVars false
set_option linter.unusedSimpArgs false
namespace Go.SX
/-! ### combat: an object's place; blocks in a list -/
section
variable {F:Env} {x y l A a b k u i j p q n m r o c d w v X Y T N L e t C z:E}
theorem uT(h:E.B F (.fn 115 X)=true):cW (X.den F)=true:=by
 rw[bQ]at h
 exact(rK (X:=X)).mp h.2.2.2.2.2.2.2.2.2.2.2.2.2.2.2.2.2.2.2.2.2.2.2.2.2.2.2.2.2.2.2.2.2.2.2.2.2.2.2.2.2.2.2.1
theorem F5(h:E.B F (.fn 115 X)=true):E.B F (.fn 228 (.fn 1 (.pr X (.int 0))))=true:=by
 have ho:=(jz _ _).1 (rr (uT h))
 rw[Oh]
 intro q hq;have en:(E.L F (.fn 1 (.pr X (.int 0)))).length/12=aD (X.den F):=rfl;have ei:∀q,nI (E.L F (.fn 1 (.pr X (.int 0)))) (q*12)=oI (X.den F) q 0:=fun q=>rfl
 rw[en]at hq ⊢
 rw[ei,ei]
 have a:=(nD _ _).1 (ho q hq).1
 refine⟨⟨a.1,a.2.1⟩,?_⟩
 by_cases c:q+1<aD (X.den F)
 ·have b:=(ho (q+1) c).2.1;right;rcases b with b|b
  ·omega
  ·exact b
 ·left;omega
theorem afF(h:E.B F (.fn 115 X)=true)(hx:¬E.I F (.fn 120 (.pr X (.pr x (.fn 9 (.pr (.fn 1 (.pr X (.int 0))) (.int 12))))))<0):1<=E.I F x/\E.I F x<=500:=by
 have ho:=(jz _ _).1 (rr (uT h));have e:E.I F (.fn 120 (.pr X (.pr x (.fn 9 (.pr (.fn 1 (.pr X (.int 0))) (.int 12))))))=bB (X.den F) (E.I F x) (aD (X.den F)):=rfl
 rw[e]at hx
 obtain⟨h1,h2⟩:=qS (by omega:0<=bB (X.den F) (E.I F x) (aD (X.den F)))
 have a:=(nD _ _).1 (ho _ h1).1
 rw[h2]at a
 exact⟨a.1,a.2.1⟩
theorem NH(h:E.B F (.fn 115 X)=true)(hb:E.B F (.fn 226 (.pr (.fn 1 (.pr X (.int 0))) (.pr x (.pr i i))))=true)(h0:0<=E.I F i)(hx:¬E.I F (.fn 120 (.pr X (.pr x (.fn 9 (.pr (.fn 1 (.pr X (.int 0))) (.int 12))))))<0):
  E.I F i=E.I F (.fn 120 (.pr X (.pr x (.fn 9 (.pr (.fn 1 (.pr X (.int 0))) (.int 12))))))/\E.I F i<E.I F (.fn 9 (.pr (.fn 1 (.pr X (.int 0))) (.int 12)))/\E.I F (.fn 1 (.pr (.fn 1 (.pr X (.int 0))) (.fn 6 (.pr (.fn 8 (.pr i (.int 12))) (.int 0)))))=E.I F x:=
 Zo (F5 h) hb h0 (by
  have e:E.I F (.fn 120 (.pr X (.pr x (.fn 9 (.pr (.fn 1 (.pr X (.int 0))) (.int 12))))))=bB (X.den F) (E.I F x) (aD (X.den F)):=rfl;omega)
theorem aKi(h:E.B F (.fn 115 X)=true):gJ (X.den F)=true:=by
 rw[bQ]at h
 exact(Gp (X:=X)).mp h.2.2.2.2.2.2.2.2.2.2.2.2.2.2.2.2.2.2.2.2.2.2.2.2.2.2.2.2.2.2.2.2.2.2.2.2.2.2.2.2.2.2.2.2
/-! blocks -/
end
end Go.SX

set_option linter.unusedVariables false
set_option linter.unusedSectionVars false
set_option linter.unusedSimpArgs false
namespace Go.SX
/-! ### combat: a player's creatures -/
section
variable {F:Env} {x y l A a b k u i j p q n m r o c d w v X Y T N L e t C z:E}
theorem xH(l:List U)(X:U)(p:Int)(i:Nat):xG l X p i=true↔oI X i 2=p/\tJ l (oI X i 1)=true/\oI X i 0∈aV X (4*p.toNat+2):=by
 simp_all[xG,and_assoc]
theorem Kt(l:List U)(X:U)(p:Int)(n:Nat):d4 l X p (n+1)=d4 l X p n++if xG l X p n then [oI X n 0] else []:=by
 unfold d4
 rw[List.range_succ,List.filter_append,List.map_append]
 cases h:xG l X p n<;>simp[h]
theorem Og:(E.B F (.fn 223 (.pr C c))=true)=(tJ (E.L F C) (E.I F c)=true):=rfl
theorem i5:(E.B F (.fn 224 (.pr x (.pr C (.pr X (.pr p n)))))=true)=(aH F x=d4 (E.L F C) (X.den F) (E.I F p) (E.I F n).toNat):=by
 show((bp _==d4 _ _ _ _)=true)=_
 rw[beq_iff_eq];rfl
theorem rN:(E.B F (.fn 225 (.pr x (.pr C (.pr X (.pr p n)))))=true)=(aH F x=mR (E.L F C) (X.den F) (E.I F p) (E.I F n).toNat):=by
 show((bp _==mR _ _ _ _)=true)=_
 rw[beq_iff_eq];rfl
theorem aKX(h:E.I F n<=0):E.B F (.fn 224 (.pr (.fn 10 a) (.pr C (.pr X (.pr p n)))))=true:=by
 have e:(E.I F n).toNat=0:=by omega
 rw[i5,e];rfl
theorem FX(h:E.B F (.fn 224 (.pr x (.pr C (.pr X (.pr p i)))))=true)(e:E.I F n=E.I F i):E.B F (.fn 224 (.pr x (.pr C (.pr X (.pr p n)))))=true:=by
 simp_all[i5]
theorem aK0(h:E.I F n<=0):E.B F (.fn 225 (.pr (.fn 10 a) (.pr C (.pr X (.pr p n)))))=true:=by
 have e:(E.I F n).toNat=0:=by omega
 rw[rN,e];rfl
theorem FZ(h:E.B F (.fn 224 (.pr x (.pr C (.pr X (.pr p i)))))=true)(h0:0<=E.I F i)(hn:E.I F n=E.I F i+1)
  (hc:¬(E.I F (.fn 1 (.pr (.fn 1 (.pr X (.int 0))) (.fn 6 (.pr (.fn 8 (.pr i (.int 12))) (.int 2)))))=E.I F p/\E.B F (.fn 223 (.pr C (.fn 1 (.pr (.fn 1 (.pr X (.int 0))) (.fn 6 (.pr (.fn 8 (.pr i (.int 12))) (.int 1)))))))=true)):
  E.B F (.fn 224 (.pr x (.pr C (.pr X (.pr p n)))))=true:=by
 have c1:=dV (X:=X) h0 1;have c2:=dV (X:=X) h0 2;have en:(E.I F n).toNat=(E.I F i).toNat+1:=by omega
 rw[Og]at hc
 rw[i5]at *
 rw[en,Kt,h,if_neg,List.append_nil]
 rw[xH,c1,c2]
 intro hh;exact hc ⟨hh.1,hh.2.1⟩
theorem FY(h:E.B F (.fn 224 (.pr x (.pr C (.pr X (.pr p i)))))=true)(hL:aH F L=aV (X.den F) (4*(E.I F p).toNat+2))(h0:0<=E.I F i)(hn:E.I F n=E.I F i+1)
  (hc:¬E.B F (.fn 114 (.pr L (.fn 1 (.pr (.fn 1 (.pr X (.int 0))) (.fn 6 (.pr (.fn 8 (.pr i (.int 12))) (.int 0)))))))=true):
  E.B F (.fn 224 (.pr x (.pr C (.pr X (.pr p n)))))=true:=by
 have c0:=dV (X:=X) h0 0;have en:(E.I F n).toNat=(E.I F i).toNat+1:=by omega
 rw[nX,hL]at hc
 rw[i5]at *
 rw[en,Kt,h,if_neg,List.append_nil]
 rw[xH,c0]
 intro hh;exact hc hh.2.2
theorem NG(h:E.B F (.fn 224 (.pr x (.pr C (.pr X (.pr p i)))))=true)(hL:aH F L=aV (X.den F) (4*(E.I F p).toNat+2))(h0:0<=E.I F i)(hn:E.I F n=E.I F i+1)
  (h2:E.I F (.fn 1 (.pr (.fn 1 (.pr X (.int 0))) (.fn 6 (.pr (.fn 8 (.pr i (.int 12))) (.int 2)))))=E.I F p)(h1:E.B F (.fn 223 (.pr C (.fn 1 (.pr (.fn 1 (.pr X (.int 0))) (.fn 6 (.pr (.fn 8 (.pr i (.int 12))) (.int 1)))))))=true)
  (hc:E.B F (.fn 114 (.pr L (.fn 1 (.pr (.fn 1 (.pr X (.int 0))) (.fn 6 (.pr (.fn 8 (.pr i (.int 12))) (.int 0)))))))=true):
  E.B F (.fn 224 (.pr (.fn 3 (.pr x (.fn 23 (.pr (.fn 1 (.pr (.fn 1 (.pr X (.int 0))) (.fn 6 (.pr (.fn 8 (.pr i (.int 12))) (.int 0))))) (.fn 10 (.int 0)))))) (.pr C (.pr X (.pr p n)))))=true:=by
 have c0:=dV (X:=X) h0 0;have c1:=dV (X:=X) h0 1;have c2:=dV (X:=X) h0 2;have en:(E.I F n).toNat=(E.I F i).toNat+1:=by omega
 rw[nX,hL]at hc
 rw[Og]at h1
 rw[i5]at *
 rw[en,Kt,if_pos ((xH _ _ _ _).2 ⟨by rw[c2];exact h2,by rw[c1];exact h1,by rw[c0];exact hc⟩),tG,tH,nj,h,c0]
 rfl
theorem afV(h:E.B F (.fn 224 (.pr (.fn 10 a) (.pr C (.pr X (.pr p i)))))=true)(hL:aH F L=aV (X.den F) (4*(E.I F p).toNat+2))(h0:0<=E.I F i)(hn:E.I F n=E.I F i+1)
  (h2:E.I F (.fn 1 (.pr (.fn 1 (.pr X (.int 0))) (.fn 6 (.pr (.fn 8 (.pr i (.int 12))) (.int 2)))))=E.I F p)(h1:E.B F (.fn 223 (.pr C (.fn 1 (.pr (.fn 1 (.pr X (.int 0))) (.fn 6 (.pr (.fn 8 (.pr i (.int 12))) (.int 1)))))))=true)
  (hc:E.B F (.fn 114 (.pr L (.fn 1 (.pr (.fn 1 (.pr X (.int 0))) (.fn 6 (.pr (.fn 8 (.pr i (.int 12))) (.int 0)))))))=true):
  E.B F (.fn 224 (.pr (.fn 23 (.pr (.fn 1 (.pr (.fn 1 (.pr X (.int 0))) (.fn 6 (.pr (.fn 8 (.pr i (.int 12))) (.int 0))))) (.fn 10 (.int 0)))) (.pr C (.pr X (.pr p n)))))=true:=by
 have:=NG h hL h0 hn h2 h1 hc
 rw[i5,tG,nj,List.nil_append]at this
 rw[i5];exact this
theorem De(hp:E.I F p=0):aH F (.fn 1 (.pr X (.int 8)))=aV (X.den F) (4*(E.I F p).toNat+2):=by
 rw[hp];exact(Ol (X:=X) 0 2 8 (by omega) (by omega)).symm
theorem Df(hp:E.I F p=1):aH F (.fn 1 (.pr X (.int 22)))=aV (X.den F) (4*(E.I F p).toNat+2):=by
 rw[hp];exact(Ol (X:=X) 1 2 22 (by omega) (by omega)).symm
/-! the reference's -/
theorem F4(h:E.B F (.fn 225 (.pr x (.pr C (.pr X (.pr p i)))))=true)(hL:E.B F (.fn 109 (.pr L (.pr X (.pr p (.int 2)))))=true)
  (h0:0<=E.I F i)(h1:E.I F i<E.I F (.fn 0 L))(hn:E.I F n=E.I F i+1)(hq:E.I F q=E.I F (.fn 120 (.pr X (.pr (.fn 1 (.pr L i)) (.fn 9 (.pr (.fn 1 (.pr X (.int 0))) (.int 12)))))))(hq0:0<=E.I F q):
  (¬E.B F (.fn 223 (.pr C (.fn 1 (.pr (.fn 1 (.pr X (.int 0))) (.fn 6 (.pr (.fn 8 (.pr q (.int 12))) (.int 1)))))))=true->E.B F (.fn 225 (.pr x (.pr C (.pr X (.pr p n)))))=true)/\
  (E.B F (.fn 223 (.pr C (.fn 1 (.pr (.fn 1 (.pr X (.int 0))) (.fn 6 (.pr (.fn 8 (.pr q (.int 12))) (.int 1)))))))=true->E.B F (.fn 225 (.pr (.fn 3 (.pr x (.fn 23 (.pr (.fn 1 (.pr L i)) (.fn 10 (.int 0)))))) (.pr C (.pr X (.pr p n)))))=true/\
   (aH F x=[]->E.B F (.fn 225 (.pr (.fn 23 (.pr (.fn 1 (.pr L i)) (.fn 10 (.int 0)))) (.pr C (.pr X (.pr p n)))))=true)):=by
 have en:(E.I F n).toNat=(E.I F i).toNat+1:=by omega
 rw[<- b9]at h1
 have hz:=FS hL;have c1:=dV (X:=X) hq0 1;have eq:E.I F q=bB (X.den F) (E.I F (.fn 1 (.pr L i))) (aD (X.den F)):=hq;have hs:mR (E.L F C) (X.den F) (E.I F p) ((E.I F i).toNat+1)=mR (E.L F C) (X.den F) (E.I F p) (E.I F i).toNat ++
   if tJ (E.L F C) (oI (X.den F) (bB (X.den F) (E.I F (.fn 1 (.pr L i))) (aD (X.den F))).toNat 1)then [E.I F (.fn 1 (.pr L i))] else []:=by
  grind[mR,py,fX]
 rw[<- eq]at hs
 rw[rN]at h
 rw[rN,rN,rN,en,hs,Og]
 rw[show E.I F (.fn 1 (.pr (.fn 1 (.pr X (.int 0))) (.fn 6 (.pr (.fn 8 (.pr q (.int 12))) (.int 1)))))=_ from c1.symm]
 refine⟨fun hc=>?_,fun hc=>⟨?_,fun hx=>?_⟩⟩
 ·rw[if_neg hc,List.append_nil,h]
 ·rw[if_pos hc,tG,tH,nj,h]
 ·rw[if_pos hc,tH,nj,<- h,hx,List.nil_append]
theorem ZY(l:List U){X:U}{p:Int}(h:oO X p=true){n:Nat}(hn:(aV X (4*p.toNat+2)).length<=n):ep (mR l X p n)=d4 l X p (aD X):=by
 obtain⟨hp,p0,p1⟩:=aaQ h
 have hz:4*p.toNat+2<8:=by omega
 have hz4:(((4*p.toNat+2)/4:Nat):Int)=p:=by omega
 have hlt:=abq hp;have hpw:(d4 l X p (aD X)).Pairwise (· < ·):=by
  grind[d4,List.Pairwise.imp_of_mem,List.pairwise_lt_range]
 symm;refine afe (hpw.imp fun {a b} h=>Int.le_of_lt h) ?_
 refine(List.perm_ext_iff_of_nodup (hpw.imp fun {a b} h=>by omega) ?_).2 fun k=>?_
 ·grind[mR,List.take_of_length_le,Om]
 ·unfold d4
  rw[List.mem_map]
  unfold mR
  rw[List.take_of_length_le hn,List.mem_filter]
  constructor
  ·rintro⟨i,hi,rfl⟩
   simp_all[List.mem_filter,List.mem_range,xH,Lo,Int.toNat_natCast]
  ·rintro⟨hk,hm⟩
   obtain⟨i,hi,rfl,ho⟩:=On hp hz hk
   rw[Lo hp hi,Int.toNat_natCast]at hm
   refine⟨i,List.mem_filter.2 ⟨List.mem_range.2 hi,?_⟩,rfl⟩
   rw[xH]
   exact⟨by omega,hm,hk⟩
theorem aKY(h:E.B F (.fn 225 (.pr x (.pr C (.pr X (.pr p i)))))=true)(hL:E.B F (.fn 109 (.pr L (.pr X (.pr p (.int 2)))))=true)(hf:E.B F (.fn 145 (.pr X p))=true)
  (hy:E.B F (.fn 152 (.pr y (.pr x n)))=true)(h1:E.I F (.fn 0 L)<=E.I F i)(hx:E.I F (.fn 0 x)<=E.I F n):E.B F (.fn 224 (.pr (.fn 28 (.pr a y)) (.pr C (.pr X (.pr p (.fn 9 (.pr (.fn 1 (.pr X (.int 0))) (.int 12))))))))=true:=by
 rw[rN]at h
 rw[zG]at hy
 rw[<- b9]at hx
 rw[List.take_of_length_le (by omega)]at hy
 rw[<- b9,FS hL]at h1
 have e9:(E.I F (.fn 9 (.pr (.fn 1 (.pr X (.int 0))) (.int 12)))).toNat=aD (X.den F):=rfl
 rw[i5,e9,<- ZY _ (Oc▸hf) (n:=(E.I F i).toNat) (by omega),<- h]
 exact hy
theorem aKZ(h:E.B F (.fn 225 (.pr (.fn 10 b) (.pr C (.pr X (.pr p i)))))=true)(hL:E.B F (.fn 109 (.pr L (.pr X (.pr p (.int 2)))))=true)(hf:E.B F (.fn 145 (.pr X p))=true)
  (h1:E.I F (.fn 0 L)<=E.I F i):E.B F (.fn 224 (.pr (.fn 30 a) (.pr C (.pr X (.pr p (.fn 9 (.pr (.fn 1 (.pr X (.int 0))) (.int 12))))))))=true:=by
 rw[rN]at h
 rw[<- b9,FS hL]at h1
 have e9:(E.I F (.fn 9 (.pr (.fn 1 (.pr X (.int 0))) (.int 12)))).toNat=aD (X.den F):=rfl
 rw[i5,e9,<- ZY _ (Oc▸hf) (n:=(E.I F i).toNat) (by omega),<- h]
 rfl
end
end Go.SX

set_option linter.unusedVariables false
set_option linter.unusedSectionVars false
set_option linter.unusedSimpArgs false
namespace Go.SX
/-! ### combat: the blocks that may be made -/
section
variable {F:Env} {x y l A B a b k u i j p q n m r o c d w v X Y T N L e t C z:E}
theorem aLz(B:List Int)(n:Nat)(h:n<B.length):B.take (n+1)=B.take n++[B.getD n 0]:=by
 rw[List.take_add_one]
 simp[List.getD_eq_getElem?_getD,h]
theorem aDR(hq:E.I F q=E.I F (.fn 120 (.pr X (.pr x (.fn 9 (.pr (.fn 1 (.pr X (.int 0))) (.int 12)))))))(h0:0<=E.I F q):
  E.B F (.fn 1 (.pr (.fn 1 (.pr X (.int 0))) (.fn 6 (.pr (.fn 8 (.pr q (.int 12))) (.int 9)))))=((cX (X.den F) 0).toL.getD ((bB (X.den F) (E.I F x) (aD (X.den F))).toNat*12+9) (.bool false)).toB:=by
 have eq:E.I F q=bB (X.den F) (E.I F x) (aD (X.den F)):=hq
 rw[aa8,<- eq]
 have e:(E.I F q*12+9).toNat=(E.I F q).toNat*12+9:=by omega
 show((cX (X.den F) 0).toL.getD (E.I F q*12+9).toNat (.int 0)).toB=_
 rw[e]
end
end Go.SX

set_option linter.unusedVariables false
set_option linter.unusedSectionVars false
set_option linter.unusedSimpArgs false
namespace Go.SX
/-! ### combat: creatures and attackers are found; the final list -/
section
variable {F:Env} {x y l A B a b k u i j p q n m r o c d w v X Y T N L e t C z:E}
theorem aGj{l:List Int}{i:Nat}(h:i<l.length):l.getD i 0∈l:=by
 rw[List.getD_eq_getElem?_getD,List.getElem?_eq_getElem h]
 exact List.getElem_mem h
theorem jm(h4:E.B F (.fn 224 (.pr x (.pr C (.pr X (.pr p (.fn 9 (.pr (.fn 1 (.pr X (.int 0))) (.int 12))))))))=true)(h0:0<=E.I F i)(h1:E.I F i<E.I F (.fn 0 x)):
  0<=E.I F (.fn 120 (.pr X (.pr (.fn 1 (.pr x i)) (.fn 9 (.pr (.fn 1 (.pr X (.int 0))) (.int 12)))))):=by
 rw[<- b9]at h1
 rw[i5]at h4
 have hm:E.I F (.fn 1 (.pr x i))∈aH F x:=by
  rw[fX];exact aGj (by omega)
 rw[h4]at hm
 obtain⟨j,hj,e⟩:=List.mem_map.1 hm
 have hj:=List.mem_range.1 (List.mem_filter.1 hj).1;exact tA hj e
theorem sV(h:E.B F (.fn 115 X)=true):0<=E.I F (.fn 1 (.pr X (.int 34)))/\E.I F (.fn 1 (.pr X (.int 34)))<=1:=by
 rw[bQ]at h
 exact⟨h.1,h.2.1⟩
end
end Go.SX

set_option linter.unusedVariables false
set_option linter.unusedSectionVars false
set_option linter.unusedSimpArgs false
namespace Go.SX
/-! ### combat: a block is made -/
theorem aEU{a b:U}(h:U.eq a b=true)(g:dA b=true):dA a=true:=by
 cases a<;>cases b<;>simp_all[U.eq,dA]
theorem abU:∀ {l m:List Int},l.Nodup->(∀x∈l,x∈m)->l.length<=m.length
 |[],_,_,_=>Nat.zero_le _
 |a::l,m,h,s=>by
  have hn:=List.nodup_cons.1 h;have ha:=s a List.mem_cons_self
  have:=abU (m:=m.erase a) hn.2 (fun x hx=>(List.mem_erase_of_ne (fun e=>hn.1 (by rw[<- e];exact hx))).2 (s x (List.mem_cons_of_mem _ hx)))
  rw[List.length_erase_of_mem ha]at this
  have:=List.length_pos_of_mem ha
  rw[List.length_cons];omega
section
variable {F:Env} {x y l A B a b k u i j p q n m r o c d w v X Y W R T N L e t C z l0 l1 l2 l3 l4 l5 l6 l7 l8 l9 l10 l11 l12:E}
theorem agD:(E.B F (.fn 236 (.pr Y X))=true)=(EC (Y.den F) (X.den F)=true):=rfl
theorem agE:(E.B F (.fn 237 (.pr a b))=true)=(aH F a=aH F b):=by
 apply propext;exact beq_iff_eq
theorem ku:E.I F (.fn 9 (.pr l (.int 1)))=E.I F (.fn 0 l):=by
 show(((E.L F l).length/1:Nat):Int)=((E.L F l).length:Int)
 rw[Nat.div_one]
theorem aK6(h:E.B F (.fn 237 (.pr a b))=true):E.I F (.fn 1 (.pr a i))=E.I F (.fn 1 (.pr b i)):=by
 rw[agE]at h
 rw[fX,fX,h]
theorem nQ{l:List Nat}{Y X:U}(h:lI l Y X=true){j:Nat}(hj:j∈l):(if j==29||j==30 then fu (cX Y j).toL (cX X j).toL&&(dA (cX Y j)&&fF (cX Y j).toL)else U.eq (cX Y j) (cX X j))=true:=by
 unfold lI at h
 rw[List.all_eq_true]at h
 exact h j hj
noncomputable def adJ(X:E):E:=cr (fj.map fun j=>.fn 1 (.pr X (.int (Int.ofNat j))))
theorem aK5:E.B F (.fn 236 (.pr (adJ X) X))=true:=by
 rw[agD]
 unfold EC
 rw[List.all_eq_true]
 intro k hk;have hk:=List.mem_range.1 hk;have hl:fj.length=25:=rfl
 have:=ko (F:=F) (fj.map fun j=>E.fn 1 (.pr X (.int (Int.ofNat j)))) k (by simpa[hl]using hk)
 unfold adJ
 rw[this,List.getD_eq_getElem?_getD,List.getElem?_map,List.getElem?_eq_getElem (by omega),List.getD_eq_getElem?_getD,List.getElem?_eq_getElem (by omega)]
 exact U.eq_rfl _
/-! the reference's blocks -/
theorem yh(hq:E.I F q=E.I F (.fn 120 (.pr X (.pr x (.fn 9 (.pr (.fn 1 (.pr X (.int 0))) (.int 12)))))))(h0:0<=E.I F q):E.I F (.fn 1 (.pr (.fn 1 (.pr X (.int 0))) (.fn 6 (.pr (.fn 8 (.pr q (.int 12))) (.int 0)))))=E.I F x:=by
 rw[tz h0]
 have e:E.I F (.fn 120 (.pr X (.pr x (.fn 9 (.pr (.fn 1 (.pr X (.int 0))) (.int 12))))))=bB (X.den F) (E.I F x) (aD (X.den F)):=rfl;have hi:0<=bB (X.den F) (E.I F x) (aD (X.den F)):=by omega
 obtain⟨h1,h2⟩:=qS hi
 rw[hq,e]
 exact h2
end
end Go.SX

set_option linter.unusedVariables false
set_option linter.unusedSectionVars false
set_option linter.unusedSimpArgs false
namespace Go.SX
/-! ### combat: the creatures that may attack -/
theorem aaN{l:List Int}{P:Int->Bool}(h:l.all P=true):l.filter P=l:=by
 rw[List.filter_eq_self]
 rw[List.all_eq_true]at h
 exact h
theorem KY{P:Int->Bool}{a:Int}(h:P a=true):[a].filter P=[a]:=by simp[h]
theorem KX{P:Int->Bool}{a:Int}(h:¬P a=true):[a].filter P=[]:=by simp[h]
theorem u9{l:List Int}{i:Nat}(h:i<l.length):l.take (i+1)=l.take i++[l.getD i 0]:=aLz l i h
section
variable {F:Env} {x y l A B a b k u i j p q n m r o c d w v X Y W R T N L e t C z:E}
theorem agF:(E.B F (.fn 239 (.pr C (.pr X k)))=true)=(hE (E.L F C) (X.den F) (E.I F k)=true):=rfl
theorem pD:(E.B F (.fn 241 (.pr x (.pr C X)))=true)=(aH F x=hG (E.L F C) (X.den F)):=by
 apply propext;exact beq_iff_eq
theorem vj:(E.B F (.fn 242 (.pr x (.pr L (.pr C (.pr X i)))))=true)=(aH F x=((aH F L).take (E.I F i).toNat).filter (hE (E.L F C) (X.den F))):=by
 apply propext;exact beq_iff_eq
theorem zJ:(E.B F (.fn 243 (.pr x (.pr C (.pr X (.pr i j)))))=true)=((aH F x).take (E.I F i).toNat=((d4 (E.L F C) (X.den F) (cj (X.den F)) (aD (X.den F))).take (E.I F j).toNat).filter (hE (E.L F C) (X.den F))/\(aH F x).drop (E.I F j).toNat=(d4 (E.L F C) (X.den F) (cj (X.den F)) (aD (X.den F))).drop (E.I F j).toNat):=by
 show(((aH F x).take (E.I F i).toNat==_&&(aH F x).drop (E.I F j).toNat==_)=true)=_
 rw[Bool.and_eq_true,beq_iff_eq,beq_iff_eq];rfl
theorem zK:(E.B F (.fn 244 (.pr x (.pr C (.pr X i))))=true)=(((aH F x).take (E.I F i).toNat).all (hE (E.L F C) (X.den F))=true):=rfl
theorem zL:(E.B F (.fn 246 (.pr C (.pr X k)))=true)=(E.I F k∈hG (E.L F C) (X.den F)):=by
 show((hG _ _).contains _=true)=_
 rw[List.contains_iff_mem];rfl
theorem aHP(hq:E.I F q=E.I F (.fn 120 (.pr X (.pr x (.fn 9 (.pr (.fn 1 (.pr X (.int 0))) (.int 12)))))))(h0:0<=E.I F q):
  E.B F (.fn 1 (.pr (.fn 1 (.pr X (.int 0))) (.fn 6 (.pr (.fn 8 (.pr q (.int 12))) (.int 10)))))=((cX (X.den F) 0).toL.getD ((bB (X.den F) (E.I F x) (aD (X.den F))).toNat*12+10) (.bool false)).toB:=by
 have eq:E.I F q=bB (X.den F) (E.I F x) (aD (X.den F)):=hq
 rw[aa8,<- eq]
 have e:(E.I F q*12+10).toNat=(E.I F q).toNat*12+10:=by omega
 show((cX (X.den F) 0).toL.getD (E.I F q*12+10).toNat (.int 0)).toB=_
 rw[e]
theorem Lh(m:Int)(hq:E.I F q=E.I F (.fn 120 (.pr X (.pr x (.fn 9 (.pr (.fn 1 (.pr X (.int 0))) (.int 12)))))))(h0:0<=E.I F q):
  E.B F (.fn 222 (.pr C (.pr (.fn 1 (.pr (.fn 1 (.pr X (.int 0))) (.fn 6 (.pr (.fn 8 (.pr q (.int 12))) (.int 1))))) (.int m))))=iM (E.L F C) (oI (X.den F) (bB (X.den F) (E.I F x) (aD (X.den F))).toNat 1) m:=by
 have eq:E.I F q=bB (X.den F) (E.I F x) (aD (X.den F)):=hq;have c1:=dV (X:=X) h0 1
 rw[<- eq,c1];rfl
theorem uW(hq:E.I F q=E.I F (.fn 120 (.pr X (.pr x (.fn 9 (.pr (.fn 1 (.pr X (.int 0))) (.int 12)))))))(h0:0<=E.I F q):
  E.B F (.fn 239 (.pr C (.pr X x)))=(!E.B F (.fn 1 (.pr (.fn 1 (.pr X (.int 0))) (.fn 6 (.pr (.fn 8 (.pr q (.int 12))) (.int 9))))) && !E.B F (.fn 114 (.pr (.fn 1 (.pr X (.int 31))) x)) &&
   (!E.B F (.fn 1 (.pr (.fn 1 (.pr X (.int 0))) (.fn 6 (.pr (.fn 8 (.pr q (.int 12))) (.int 10)))))||E.B F (.fn 222 (.pr C (.pr (.fn 1 (.pr (.fn 1 (.pr X (.int 0))) (.fn 6 (.pr (.fn 8 (.pr q (.int 12))) (.int 1))))) (.int 1)))))):=by
 rw[aDR hq h0,aHP hq h0,Lh 1 hq h0];rfl
theorem JR(h:0<=E.I F (.fn 1 (.pr X (.int 34)))):E.I F (.fn 1 (.pr X (.int 34)))=((cj (X.den F):Nat):Int):=by
 have e:(cj (X.den F):Int)=((E.I F (.fn 1 (.pr X (.int 34)))).toNat:Int):=rfl;omega
theorem aLh(h:E.I F i<=0):E.B F (.fn 244 (.pr x (.pr C (.pr X i))))=true:=by
 rw[zK]
 have:(E.I F i).toNat=0:=by omega
 rw[this];rfl
theorem af1(h:E.B F (.fn 244 (.pr x (.pr C (.pr X i))))=true)(e:E.I F n=E.I F i):E.B F (.fn 244 (.pr x (.pr C (.pr X n))))=true:=by
 rw[zK]at *;rw[e];exact h
theorem rf:(E.B F (.fn 239 (.pr C (.pr X (.fn 1 (.pr x i)))))=true)=(hE (E.L F C) (X.den F) ((aH F x).getD (E.I F i).toNat 0)=true):=by
 rw[agF,fX]
theorem aLg(h:E.B F (.fn 244 (.pr x (.pr C (.pr X i))))=true)(h0:0<=E.I F i)(h1:E.I F i<E.I F (.fn 0 x))(hn:E.I F n=E.I F i+1)(ok:E.B F (.fn 239 (.pr C (.pr X (.fn 1 (.pr x i)))))=true):E.B F (.fn 244 (.pr x (.pr C (.pr X n))))=true:=by
 rw[zK]at *
 rw[rf]at ok
 rw[<- b9]at h1
 have e:(E.I F n).toNat=(E.I F i).toNat+1:=by omega
 rw[e,u9 (by omega),List.all_append,h,Bool.true_and]
 simp only[List.all_cons,List.all_nil,Bool.and_true];exact ok
theorem aK9(h4:E.B F (.fn 224 (.pr x (.pr C (.pr X (.pr (.fn 1 (.pr X (.int 34))) (.fn 9 (.pr (.fn 1 (.pr X (.int 0))) (.int 12))))))))=true)(ha:0<=E.I F (.fn 1 (.pr X (.int 34))))(h:E.B F (.fn 244 (.pr x (.pr C (.pr X n))))=true)(hn:E.I F (.fn 0 x)<=E.I F n):E.B F (.fn 241 (.pr x (.pr C X)))=true:=by
 rw[i5,JR ha]at h4
 rw[zK]at h
 rw[pD]
 rw[<- b9]at hn
 rw[List.take_of_length_le (by omega)]at h
 have:=aaN h
 unfold hG
 rw[h4]at this
 rw[h4]
 exact this.symm
theorem aLf(h4:E.B F (.fn 224 (.pr x (.pr C (.pr X (.pr (.fn 1 (.pr X (.int 34))) (.fn 9 (.pr (.fn 1 (.pr X (.int 0))) (.int 12))))))))=true)(ha:0<=E.I F (.fn 1 (.pr X (.int 34))))(h:E.B F (.fn 244 (.pr x (.pr C (.pr X i))))=true)(h0:0<=E.I F i)(h1:E.I F i<E.I F (.fn 0 x))(hn:E.I F n=E.I F i+1)
  (ok:¬E.B F (.fn 239 (.pr C (.pr X (.fn 1 (.pr x i)))))=true):E.B F (.fn 243 (.pr x (.pr C (.pr X (.pr i n)))))=true:=by
 rw[i5,JR ha]at h4
 rw[zK]at h
 rw[rf]at ok
 rw[zJ]
 rw[<- b9]at h1
 have e:(E.I F n).toNat=(E.I F i).toNat+1:=by omega
 have h4:aH F x=d4 (E.L F C) (X.den F) (cj (X.den F)) (aD (X.den F)):=h4
 rw[<- h4,e,u9 (by omega),List.filter_append,aaN h]
 refine⟨?_,rfl⟩
 rw[KX ok,List.append_nil]
theorem aLe(h:E.B F (.fn 243 (.pr x (.pr C (.pr X (.pr i j)))))=true)(h0:0<=E.I F j)(h1:E.I F j<E.I F (.fn 0 x))(hn:E.I F n=E.I F j+1)
  (ok:¬E.B F (.fn 239 (.pr C (.pr X (.fn 1 (.pr x j)))))=true):E.B F (.fn 243 (.pr x (.pr C (.pr X (.pr i n)))))=true:=by
 rw[zJ]at h ⊢
 rw[rf]at ok
 rw[<- b9]at h1
 have e:(E.I F n).toNat=(E.I F j).toNat+1:=by omega
 obtain⟨ha,hb⟩:=h
 generalize d4 (E.L F C) (X.den F) (cj (X.den F)) (aD (X.den F))=D at *;have hlt:(E.I F j).toNat<(aH F x).length:=by omega
 have hx:(aH F x).drop (E.I F j).toNat=(aH F x).getD (E.I F j).toNat 0::(aH F x).drop ((E.I F j).toNat+1):=by
  rw[List.drop_eq_getElem_cons hlt,List.getD_eq_getElem?_getD,List.getElem?_eq_getElem hlt];rfl
 have hd:(E.I F j).toNat<D.length:=by
  have:=congrArg List.length hb
  rw[List.length_drop,List.length_drop]at this;omega
 have hy:D.drop (E.I F j).toNat=D.getD (E.I F j).toNat 0::D.drop ((E.I F j).toNat+1):=by
  rw[List.drop_eq_getElem_cons hd,List.getD_eq_getElem?_getD,List.getElem?_eq_getElem hd];rfl
 rw[hx,hy]at hb
 obtain⟨b1,b2⟩:=List.cons.inj hb
 rw[e,u9 hd,List.filter_append,<- b1]
 refine⟨?_,b2⟩
 rw[ha,KX ok,List.append_nil]
theorem aLd(h:E.B F (.fn 243 (.pr x (.pr C (.pr X (.pr i j)))))=true)(hi:0<=E.I F i)(hij:E.I F i<E.I F j)(h1:E.I F j<E.I F (.fn 0 x))(hm:E.I F m=E.I F i+1)(hn:E.I F n=E.I F j+1)
  (ok:E.B F (.fn 239 (.pr C (.pr X (.fn 1 (.pr x j)))))=true):E.B F (.fn 243 (.pr (.fn 2 (.pr x (.pr i (.fn 1 (.pr x j))))) (.pr C (.pr X (.pr m n)))))=true:=by
 rw[zJ]at h ⊢
 rw[rf]at ok
 have es:aH F (.fn 2 (.pr x (.pr i (.fn 1 (.pr x j)))))=(aH F x).set (E.I F i).toNat ((aH F x).getD (E.I F j).toNat 0):=by
  rw[<- fX]
  show((E.L F x).set _ _).map _=_
  rw[List.map_set];rfl
 rw[es]
 rw[<- b9]at h1
 have e:(E.I F n).toNat=(E.I F j).toNat+1:=by omega
 have em:(E.I F m).toNat=(E.I F i).toNat+1:=by omega
 obtain⟨ha,hb⟩:=h
 generalize d4 (E.L F C) (X.den F) (cj (X.den F)) (aD (X.den F))=D at *;generalize aH F x=K at *;generalize E.I F i=I at *;generalize E.I F j=J at *;have hlt:J.toNat<K.length:=by omega
 have hx:K.drop J.toNat=K.getD J.toNat 0::K.drop (J.toNat+1):=by
  rw[List.drop_eq_getElem_cons hlt,List.getD_eq_getElem?_getD,List.getElem?_eq_getElem hlt];rfl
 have hd:J.toNat<D.length:=by
  have:=congrArg List.length hb
  rw[List.length_drop,List.length_drop]at this;omega
 have hy:D.drop J.toNat=D.getD J.toNat 0::D.drop (J.toNat+1):=by
  rw[List.drop_eq_getElem_cons hd,List.getD_eq_getElem?_getD,List.getElem?_eq_getElem hd];rfl
 rw[hx,hy]at hb
 obtain⟨b1,b2⟩:=List.cons.inj hb
 rw[e,em,u9 hd,List.filter_append,<- b1,<- ha]
 refine⟨?_,?_⟩
 ·have hI:I.toNat<K.length:=by omega
  rw[u9 (by rw[List.length_set];exact hI)]
  have e1:(K.set I.toNat (K.getD J.toNat 0)).take I.toNat=K.take I.toNat:=by
   rw[List.take_set_of_le (Nat.le_refl _)]
  have e2:(K.set I.toNat (K.getD J.toNat 0)).getD I.toNat 0=K.getD J.toNat 0:=by
   rw[List.getD_eq_getElem?_getD,List.getElem?_set_self hI];rfl
  rw[e1,e2,KY ok]
 ·rw[List.drop_set_of_lt (by omega)]
  exact b2
theorem aLc(h:E.B F (.fn 243 (.pr x (.pr C (.pr X (.pr i j)))))=true)(h0:0<=E.I F j)(h1:E.I F j<E.I F (.fn 0 x)):
  0<=E.I F (.fn 120 (.pr X (.pr (.fn 1 (.pr x j)) (.fn 9 (.pr (.fn 1 (.pr X (.int 0))) (.int 12)))))):=by
 rw[zJ]at h
 rw[<- b9]at h1
 have hlt:(E.I F j).toNat<(aH F x).length:=by omega
 have hm:E.I F (.fn 1 (.pr x j))∈d4 (E.L F C) (X.den F) (cj (X.den F)) (aD (X.den F)):=by
  have hx:(aH F x).drop (E.I F j).toNat=(aH F x).getD (E.I F j).toNat 0::(aH F x).drop ((E.I F j).toNat+1):=by
   rw[List.drop_eq_getElem_cons hlt,List.getD_eq_getElem?_getD,List.getElem?_eq_getElem hlt];rfl
  rw[fX]
  refine List.mem_of_mem_drop (i:=(E.I F j).toNat) ?_
  rw[<- h.2,hx]
  exact List.mem_cons_self
 obtain⟨q,hq,e⟩:=List.mem_map.1 hm
 exact tA (List.mem_range.1 (List.mem_filter.1 hq).1) e
theorem aLb(h:E.B F (.fn 243 (.pr x (.pr C (.pr X (.pr i j)))))=true)(hi:0<=E.I F i)(h1:E.I F (.fn 0 x)<=E.I F j):E.B F (.fn 241 (.pr (.fn 18 (.pr x (.fn 8 (.pr i (.int 1))))) (.pr C X)))=true:=by
 rw[zJ]at h
 rw[pD]
 rw[<- b9]at h1
 obtain⟨ha,hb⟩:=h
 have e:aH F (.fn 18 (.pr x (.fn 8 (.pr i (.int 1)))))=(aH F x).take (E.I F i).toNat:=by
  show((E.L F x).take (E.I F i*1).toNat).map _=_
  rw[List.map_take,Int.mul_one];rfl
 rw[e,ha]
 unfold hG;generalize d4 (E.L F C) (X.den F) (cj (X.den F)) (aD (X.den F))=D at *
 rw[List.drop_of_length_le (by omega)]at hb
 have hd:D.length<=(E.I F j).toNat:=by
  have:=congrArg List.length hb
  rw[List.length_drop]at this
  simp only[List.length_nil]at this;omega
 rw[List.take_of_length_le hd]
end
end Go.SX

set_option linter.unusedVariables false
set_option linter.unusedSectionVars false
set_option linter.unusedSimpArgs false
namespace Go.SX
/-! ### combat: an attack -/
theorem aci{X:U}{i:Nat}(hi:i<aD X):oI X i 0∈gj X:=by
 grind[gj]
theorem aFT(X:U):(gj X).length=aD X:=by
 grind[gj]
theorem JZ{l:List U}{X:U}{k:Int}(h:k∈hG l X):hE l X k=true/\∃i,i<aD X/\oI X i 0=k:=by
 unfold hG at h
 obtain⟨h1,h2⟩:=List.mem_filter.1 h
 obtain⟨i,hi,e⟩:=List.mem_map.1 h1
 exact⟨h2,i,List.mem_range.1 (List.mem_filter.1 hi).1,e⟩
theorem aDG{l:List U}{X:U}(hp:cW X=true):(hG l X).Nodup:=by
 have hlt:=abq hp;have hpw:(d4 l X (cj X) (aD X)).Pairwise (· < ·):=by
  grind[d4,List.Pairwise.imp_of_mem,List.pairwise_lt_range]
 unfold hG
 exact(hpw.imp fun {a b} h=>by omega).filter _
theorem aEB{l:List Int}(h:l.Nodup)(a:Int):l.count a=1↔a∈l:=by
 constructor
 ·intro e;exact List.count_pos_iff.1 (by omega)
 ·intro e
  have:=List.nodup_iff_count.1 h a
  have:=List.count_pos_iff.2 e
  omega
theorem aFo{X Y:U}(h:U.eqs (cX Y 0).toL (cX X 0).toL=true)(k:Int)(n:Nat):bB Y k n=bB X k n:=by
 have e:∀i,oI Y i 0=oI X i 0:=fun i=>qG (mT (i*12+0) h)
 unfold bB;simp only[e]
theorem C5:∀ {l m:List U} {a b:U} (k:Nat),U.eqs l m=true->U.eq a b=true->U.eqs (l.set k a) (m.set k b)=true
 |[],[],_,_,_,_,_=>rfl
 |[],_::_,_,_,_,h,_=>by simp[U.eqs]at h
 |_::_,[],_,_,_,h,_=>by simp[U.eqs]at h
 |x::xs,y::ys,a,b,0,h,g=>by
  simp only[U.eqs,Bool.and_eq_true,List.set_cons_zero]at h ⊢
  exact⟨g,h.2⟩
 |x::xs,y::ys,a,b,k+1,h,g=>by
  simp only[U.eqs,Bool.and_eq_true,List.set_cons_succ]at h ⊢
  exact⟨h.1,C5 k h.2 g⟩
theorem aHO{m:List U}{k:Nat}{v:U}(h:m.getD k (.int 0)=v):m.set k v=m:=by
 by_cases hk:k<m.length
 ·rw[List.getD_eq_getElem?_getD,List.getElem?_eq_getElem hk]at h
  rw[<- h];exact List.set_getElem_self hk
 ·rw[List.set_eq_of_length_le (by omega)]
section
variable {F:Env} {x y l A B a b k u i j p q n m r o c d w v X Y W R T N L e t C z l0 l1 l2 l3 l4 l5 l6 l7 l8 l9 l10 l11 l12:E}
theorem F6(h:E.B F (.fn 241 (.pr x (.pr C X)))=true):(E.B F (.fn 114 (.pr x k))=true)=(E.B F (.fn 246 (.pr C (.pr X k)))=true):=by
 rw[pD]at h
 rw[nX,zL,h]
theorem uY(h:E.B F (.fn 246 (.pr C (.pr X k)))=true):0<=E.I F (.fn 120 (.pr X (.pr k (.fn 9 (.pr (.fn 1 (.pr X (.int 0))) (.int 12)))))):=by
 rw[zL]at h
 obtain⟨_,i,hi,e⟩:=JZ h
 exact tA hi e
theorem aLi(h:E.B F (.fn 246 (.pr C (.pr X k)))=true):E.B F (.fn 239 (.pr C (.pr X k)))=true:=by
 rw[zL]at h
 rw[agF]
 exact(JZ h).1
theorem aLj(h:E.B F (.fn 246 (.pr C (.pr X k)))=true)(hq:E.I F q=E.I F (.fn 120 (.pr X (.pr k (.fn 9 (.pr (.fn 1 (.pr X (.int 0))) (.int 12))))))):
  ¬E.B F (.fn 1 (.pr (.fn 1 (.pr X (.int 0))) (.fn 6 (.pr (.fn 8 (.pr q (.int 12))) (.int 9)))))=true:=by
 have h0:=uY h;have hk:=aLi h
 rw[uW hq (by omega)]at hk
 intro e
 rw[e]at hk
 simp at hk
theorem rB(hv:E.B F (.fn 115 X)=true)(h:E.B F (.fn 241 (.pr x (.pr C X)))=true):(E.I F (.fn 121 (.pr x k))=1)=(E.B F (.fn 246 (.pr C (.pr X k)))=true):=by
 rw[pD]at h
 rw[zL,gU,h]
 have:=aEB (aDG (l:=E.L F C) (uT hv)) (E.I F k)
 apply propext
 rw[<- this]
 omega
theorem aDH(h:E.B F (.fn 115 X)=true)(hs:E.B F (.fn 117 X)=true)(hm:E.B F (.fn 246 (.pr C (.pr X k)))=true):(aW (X.den F)).length+1<=30:=by
 rw[zL]at hm
 obtain⟨ho,i,hi,e⟩:=JZ hm
 have hp:=uT h;have hf:=((tq _).1 (aKi h)).1
 rw[oD,List.take_length]at hf
 have ha:cj (X.den F)<=1:=by
  rw[bQ]at h
  have a:=h.1;have b:=h.2.1;have e:(cj (X.den F):Int)=((E.I F (.fn 1 (.pr X (.int 34)))).toNat:Int):=rfl;omega
 have hn:¬E.I F k∈aW (X.den F):=by
  unfold hE at ho;simp only[Bool.and_eq_true,Bool.not_eq_true',List.contains_eq_mem,decide_eq_false_iff_not]at ho;exact ho.1.2
 have hl:=abU (l:=E.I F k::aW (X.den F)) (m:=gj (X.den F)) (List.nodup_cons.2 ⟨hn,hf.1⟩) (fun a ha'=>?_)
 ·rw[aFT,List.length_cons]at hl
  have hb:=(ak hs).2.2.1.2.2.1;have e0:E.I F (.fn 9 (.pr (.fn 1 (.pr X (.int 0))) (.int 12)))=((aD (X.den F):Nat):Int):=rfl;omega
 ·rcases List.mem_cons.1 ha' with rfl|ha'
  ·rw[<- e];exact aci hi
  ·obtain⟨q,hq,he,_⟩:=On hp (z:=4*cj (X.den F)+2) (by omega) (hf.2 _ ha')
   rw[<- he];exact aci hq
/-- an object of a valid board is all right -/
theorem NC(h:E.B F (.fn 115 X)=true)(h0:0<=E.I F q)(h1:E.I F q<E.I F (.fn 9 (.pr (.fn 1 (.pr X (.int 0))) (.int 12)))):
    E.B F (.fn 137 (.pr (.fn 1 (.pr (.fn 1 (.pr X (.int 0))) (.fn 6 (.pr (.fn 8 (.pr q (.int 12))) (.int 0))))) (.pr (.fn 1 (.pr (.fn 1 (.pr X (.int 0))) (.fn 6 (.pr (.fn 8 (.pr q (.int 12))) (.int 1))))) (.pr (.fn 1 (.pr (.fn 1 (.pr X (.int 0))) (.fn 6 (.pr (.fn 8 (.pr q (.int 12))) (.int 2))))) (.pr (.fn 1 (.pr (.fn 1 (.pr X (.int 0))) (.fn 6 (.pr (.fn 8 (.pr q (.int 12))) (.int 3))))) (.pr (.fn 1 (.pr (.fn 1 (.pr X (.int 0))) (.fn 6 (.pr (.fn 8 (.pr q (.int 12))) (.int 4))))) (.pr (.fn 1 (.pr (.fn 1 (.pr X (.int 0))) (.fn 6 (.pr (.fn 8 (.pr q (.int 12))) (.int 5))))) (.pr (.fn 1 (.pr (.fn 1 (.pr X (.int 0))) (.fn 6 (.pr (.fn 8 (.pr q (.int 12))) (.int 6))))) (.pr (.fn 1 (.pr (.fn 1 (.pr X (.int 0))) (.fn 6 (.pr (.fn 8 (.pr q (.int 12))) (.int 7))))) (.fn 1 (.pr (.fn 1 (.pr X (.int 0))) (.fn 6 (.pr (.fn 8 (.pr q (.int 12))) (.int 8))))))))))))))=true:=by
  have ho:=(jz _ _).1 (rr (uT h));have en:E.I F (.fn 9 (.pr (.fn 1 (.pr X (.int 0))) (.int 12)))=((aD (X.den F):Nat):Int):=rfl;have a:=(nD _ _).1 (ho (E.I F q).toNat (by omega)).1
  rw[cg]
  have c:=fun j=>dV (X:=X) h0 j
  have c0:=c 0;have c1:=c 1;have c2:=c 2;have c3:=c 3;have c4:=c 4;have c5:=c 5;have c6:=c 6;have c7:=c 7;have c8:=c 8;grind
/-- the place that a search by halves comes to -/
theorem uV(h:E.B F (.fn 115 X)=true)(h0:0<=E.I F q)(h1:E.I F q<E.I F (.fn 9 (.pr (.fn 1 (.pr X (.int 0))) (.int 12))))(hr:0<=E.I F r)
    (hb:E.B F (.fn 226 (.pr (.fn 1 (.pr X (.int 0))) (.pr (.fn 1 (.pr (.fn 1 (.pr X (.int 0))) (.fn 6 (.pr (.fn 8 (.pr q (.int 12))) (.int 0))))) (.pr r r))))=true):E.I F r=E.I F q:=by
  have hp:=uT h;have en:E.I F (.fn 9 (.pr (.fn 1 (.pr X (.int 0))) (.int 12)))=((aD (X.den F):Nat):Int):=rfl;have hid:E.I F (.fn 1 (.pr (.fn 1 (.pr X (.int 0))) (.fn 6 (.pr (.fn 8 (.pr q (.int 12))) (.int 0)))))=oI (X.den F) (E.I F q).toNat 0:=by
    rw[tz h0];rfl
  have hx:bB (X.den F) (E.I F (.fn 1 (.pr (.fn 1 (.pr X (.int 0))) (.fn 6 (.pr (.fn 8 (.pr q (.int 12))) (.int 0)))))) (aD (X.den F))=E.I F q:=by
    rw[hid,Lo hp (by omega)];omega
  have:=(Zo (F5 h) hb hr (by omega)).1
  omega
theorem af3(hX:U.eqs (E.L F x) ((cX (X.den F) 0).toL.set ((bB (X.den F) (E.I F k) (aD (X.den F))).toNat*12+9) (.bool (!(iM (E.L F C) (oI (X.den F) (bB (X.den F) (E.I F k) (aD (X.den F))).toNat 1) 4))))=true):E.B F (.fn 247 (.pr x (.pr X (.pr C k))))=true:=hX
theorem aEV{M:List U}(h:U.eqs (E.L F l) M=true)(hv:U.eq (v.den F) (M.getD (E.I F i).toNat (.int 0))=true):U.eqs (E.L F (.fn 2 (.pr l (.pr i v)))) M=true:=by
 have:=C5 (E.I F i).toNat h hv
 rw[aHO rfl]at this
 exact this
theorem aa6{M:List U}{p q:Nat}{u:U}(h:p≠q):(M.set p u).getD q (.int 0)=M.getD q (.int 0):=by
 rw[List.getD_eq_getElem?_getD,List.getElem?_set_ne h,<- List.getD_eq_getElem?_getD]
end
end Go.SX

set_option linter.unusedVariables false
set_option linter.unusedSectionVars false
set_option linter.unusedSimpArgs false
namespace Go.SX
/-! ### combat: the board of an attack -/
section
variable {F:Env} {x y l A B a b k u i j p q n m r o c d w v X Y W R T N L e t C z z' z2 l0 l1 l2 l3 l4 l5 l6 l7 l8 l9 l10 l11 l12:E}
noncomputable def iI(X q:E)(j:Int):E:=.fn 1 (.pr (.fn 1 (.pr X (.int 0))) (.fn 6 (.pr (.fn 8 (.pr q (.int 12))) (.int j))))
noncomputable def jC(l r q X:E)(j:Int):E:=.fn 2 (.pr l (.pr (.fn 6 (.pr (.fn 8 (.pr r (.int 12))) (.int j))) (iI X q j)))
theorem DB(j:Nat)(h0:0<=E.I F q)(hr:E.I F r=E.I F q):(E.I F (.fn 6 (.pr (.fn 8 (.pr r (.int 12))) (.int (j:Int))))).toNat=(E.I F q).toNat*12+j:=by
 have:E.I F (.fn 6 (.pr (.fn 8 (.pr r (.int 12))) (.int (j:Int))))=E.I F r*12+j:=rfl
 rw[this,hr];omega
theorem kv{M:List U}(j:Nat)(h0:0<=E.I F q)(hr:E.I F r=E.I F q)(hM:M.getD ((E.I F q).toNat*12+j) (.int 0)=(cX (X.den F) 0).toL.getD ((E.I F q).toNat*12+j) (.int 0))(h:U.eqs (E.L F l) M=true):U.eqs (E.L F (jC l r q X (j:Int))) M=true:=by
 refine aEV h ?_
 rw[DB j h0 hr,hM]
 have e:(iI X q (j:Int)).den F=(cX (X.den F) 0).toL.getD ((E.I F q).toNat*12+j) (.int 0):=by
  rw[<- DB (r:=q) j h0 rfl];rfl
 rw[e];exact U.eq_rfl _
theorem aLl(hq:E.I F q=E.I F (.fn 120 (.pr X (.pr k (.fn 9 (.pr (.fn 1 (.pr X (.int 0))) (.int 12)))))))(h0:0<=E.I F q)(hr:E.I F r=E.I F q)(h:E.B F (.fn 200 (.pr l (.fn 1 (.pr X (.int 0)))))=true)
  (hv:E.B F (.iff v (.fn 222 (.pr C (.pr (iI X q 1) (.int 4)))))=true):
  E.B F (.fn 247 (.pr (jC (jC (.fn 2 (.pr (jC (jC (jC (jC (jC (jC (jC (jC (jC l r q X 0) r q X 1) r q X 2) r q X 3) r q X 4) r q X 5) r q X 6) r q X 7) r q X 8) (.pr (.fn 6 (.pr (.fn 8 (.pr r (.int 12))) (.int 9))) (.not v)))) r q X 10) r q X 11) (.pr X (.pr C k))))=true:=by
 have h:U.eqs (E.L F l) (cX (X.den F) 0).toL=true:=h;have eq:E.I F q=bB (X.den F) (E.I F k) (aD (X.den F)):=hq;refine af3 ?_
 rw[<- eq]
 have hb:(E.not v).den F=.bool (!(iM (E.L F C) (oI (X.den F) (E.I F q).toNat 1) 4)):=by
  have e:=Lh (C:=C) 4 hq h0
  rw[<- eq]at e
  rw[bg]at hv
  have e':E.B F (.fn 222 (.pr C (.pr (iI X q 1) (.int 4))))=iM (E.L F C) (oI (X.den F) (E.I F q).toNat 1) 4:=e
  rw[e']at hv
  have:(E.not v).den F=.bool (!(E.B F v)):=rfl
  rw[this]
  congr 2;exact Bool.eq_iff_iff.2 hv
 have s8:=kv 8 h0 hr rfl (kv 7 h0 hr rfl (kv 6 h0 hr rfl (kv 5 h0 hr rfl (kv 4 h0 hr rfl (kv 3 h0 hr rfl (kv 2 h0 hr rfl (kv 1 h0 hr rfl (kv 0 h0 hr rfl h))))))));have s9:=C5 (a:=(E.not v).den F) ((E.I F q).toNat*12+9) s8 (U.eq_rfl _)
 rw[hb]at s9
 refine kv 11 h0 hr (aa6 (by omega)) (kv 10 h0 hr (aa6 (by omega)) ?_);have e9:=DB (r:=r) 9 h0 hr
 rw[<- e9]at s9 ⊢
 rw[<- hb]at s9 ⊢
 exact s9
theorem aLk(hq:E.I F q=E.I F (.fn 120 (.pr X (.pr k (.fn 9 (.pr (.fn 1 (.pr X (.int 0))) (.int 12)))))))(h0:0<=E.I F q)(h:E.B F (.fn 200 (.pr l (.fn 1 (.pr X (.int 0)))))=true)(hv:(E.B F v=true)=(E.B F (.fn 222 (.pr C (.pr (iI X q 1) (.int 4))))=true)):
  E.B F (.fn 247 (.pr (.fn 28 (.pr z (.fn 2 (.pr l (.pr (.fn 6 (.pr (.fn 8 (.pr q (.int 12))) (.int 9))) (.not v)))))) (.pr X (.pr C k))))=true:=by
 have h:U.eqs (E.L F l) (cX (X.den F) 0).toL=true:=h;have eq:E.I F q=bB (X.den F) (E.I F k) (aD (X.den F)):=hq;refine af3 ?_
 rw[<- eq]
 have hb:(E.not v).den F=.bool (!(iM (E.L F C) (oI (X.den F) (E.I F q).toNat 1) 4)):=by
  have e:=Lh (C:=C) 4 hq h0
  rw[<- eq]at e
  have e':E.B F (.fn 222 (.pr C (.pr (iI X q 1) (.int 4))))=iM (E.L F C) (oI (X.den F) (E.I F q).toNat 1) 4:=e
  rw[e']at hv
  have:(E.not v).den F=.bool (!(E.B F v)):=rfl
  rw[this]
  congr 2;exact Bool.eq_iff_iff.2 (by rw[hv])
 have s9:=C5 (a:=(E.not v).den F) ((E.I F q).toNat*12+9) h (U.eq_rfl _)
 rw[hb]at s9
 have e9:=DB (r:=q) 9 h0 rfl
 rw[<- e9]at s9 ⊢
 rw[<- hb]at s9 ⊢
 exact s9
theorem af4(h:E.B F (.fn 200 (.pr z b))=true):E.B F (.fn 248 (.pr (.fn 3 (.pr z (.fn 23 (.pr x (.fn 10 (.int 0)))))) (.pr b x)))=true:=by
 show U.eqs _ (E.L F b++[x.den F])=true;exact Ky h (U.eqs_rfl [x.den F])
/-- objects, attackers and blocks, the other cells of a board -/
noncomputable def nN(Y X c c1 c2:E):E:=cr ((List.range 38).map fun j=>if j=0 then c else if j<31 then .fn 1 (.pr Y (.int (Int.ofNat j)))else if j=31 then c1 else if j=32 then c2 else .fn 1 (.pr X (.int (Int.ofNat j))))
theorem uH(j:Nat)(h:j<38):cX ((nN Y X c d w).den F) j=(if j=0 then c else if j<31 then E.fn 1 (.pr Y (.int (Int.ofNat j)))else if j=31 then d else if j=32 then w else E.fn 1 (.pr X (.int (Int.ofNat j)))).den F:=by
 have:=ko (F:=F) ((List.range 38).map fun j=>if j=0 then c else if j<31 then E.fn 1 (.pr Y (.int (Int.ofNat j)))else if j=31 then d else if j=32 then w else .fn 1 (.pr X (.int (Int.ofNat j)))) j (by simpa using h)
 refine Eq.trans this ?_;congr 1
 rw[List.getD_eq_getElem?_getD,List.getElem?_map,List.getElem?_range h];rfl
theorem aFU:((nN Y X c d w).den F).toL.length=38:=by
 have lenm:∀cs:List E,((cr cs).den F).toL.length=cs.length:=by
  intro cs;induction cs with
  |nil=>rfl
  |cons c cs ih=>show(((cr cs).den F).toL.length+1)=_;rw[ih];rfl
 exact lenm _
theorem agG:(E.B F (.fn 249 (.pr Y X))=true)=(lI ((List.range 30).map fun k=>k+1) (Y.den F) (X.den F)=true):=rfl
theorem Gu:(E.B F (.fn 250 (.pr Y X))=true)=(lI ((List.range 38).filter fun k=>!(k==0||k==31)) (Y.den F) (X.den F)=true):=rfl
theorem aGi{j:Nat}(h:j<31)(h0:¬j=0):j∈(List.range 30).map fun k=>k+1:=
 List.mem_map.2 ⟨j-1,List.mem_range.2 (by omega),by omega⟩
theorem pa{j:Nat}(h:j<38)(h0:¬j=0)(h1:¬j=31):j∈(List.range 38).filter fun k=>!(k==0||k==31):=
 List.mem_filter.2 ⟨List.mem_range.2 h,by simp[h0,h1]⟩
theorem aLm{cs:List E}(hl:cs.length=31)(h:ka F (X.den F) cs 0):E.B F (.fn 249 (.pr (cr cs) X))=true:=by
 rw[agG]
 unfold lI
 rw[List.all_eq_true]
 intro j hj
 obtain⟨i,hi,rfl⟩:=List.mem_map.1 hj
 have hi:=List.mem_range.1 hi;have g:=ZK cs 0 h (i+1) (by omega)
 rw[Nat.zero_add]at g
 have e:cX ((cr cs).den F) (i+1)=(cs.getD (i+1) (.int 0)).den F:=ko cs (i+1) (by omega)
 rw[e]
 rw[if_neg (by simp)]at g
 exact g
theorem NJ(h:E.B F (.fn 249 (.pr Y X))=true)(h2:E.B F (.fn 200 (.pr w (.fn 1 (.pr X (.int 32)))))=true)(hw:E.B F (.fn 201 w)=true)(hX:E.B F (.fn 116 X)=true):E.B F (.fn 250 (.pr (nN Y X c d w) X))=true:=by
 rw[agG]at h
 rw[rL]at hX
 rw[Gu]
 unfold lI
 rw[List.all_eq_true]
 intro j hj
 obtain⟨hj,hn⟩:=List.mem_filter.1 hj
 have hj:=List.mem_range.1 hj;have hn:¬j=0/\¬j=31:=by simpa using hn
 rw[uH j hj]
 by_cases hlt:j<31
 ·have:=nQ h (aGi hlt hn.1)
  rw[if_neg hn.1,if_pos hlt];exact this
 ·have h9:(j==29||j==30)=false:=by
   simp only[Bool.or_eq_false_iff,beq_eq_false_iff_ne];omega
  rw[if_neg hn.1,if_neg hlt,if_neg hn.2,h9]
  by_cases h32:j=32
  ·subst h32
   rw[if_pos rfl]
   exact xS h2 hw (hX.2.1 32 (by decide))
  ·rw[if_neg h32]
   exact U.eq_rfl _
theorem afD(h:E.B F (.fn 249 (.pr Y X))=true)(h2:E.B F (.fn 200 (.pr w (.fn 1 (.pr X (.int 32)))))=true)(hw:E.B F (.fn 201 w)=true)(hX:E.B F (.fn 116 X)=true):E.B F (.fn 116 (nN Y X (.fn 28 c) (.fn 28 d) w))=true:=by
 have h5:=NJ (c:=.fn 28 c) (d:=.fn 28 d) h h2 hw hX
 rw[Gu]at h5
 rw[rL]at hX ⊢
 refine⟨aFU,fun j hj=>?_,?_,?_⟩
 ·have hj38:j<38:=by simp only[List.mem_cons,List.not_mem_nil,or_false]at hj;omega
  by_cases h0:j=0
  ·subst h0;rw[uH 0 (by decide)];rfl
  ·by_cases h1:j=31
   ·subst h1;rw[uH 31 (by decide)];rfl
   ·have:=nQ h5 (pa hj38 h0 h1)
    split at this
    ·simp only[Bool.and_eq_true]at this;exact this.2.1
    ·exact aEU this (hX.2.1 j hj)
 ·have:=nQ h5 (pa (j:=29) (by decide) (by decide) (by decide))
  rw[if_pos (by decide)]at this
  simp only[Bool.and_eq_true]at this;exact this.2.2
 ·have:=nQ h5 (pa (j:=30) (by decide) (by decide) (by decide))
  rw[if_pos (by decide)]at this
  simp only[Bool.and_eq_true]at this;exact this.2.2
theorem aKm(h:E.B F (.fn 250 (.pr Y X))=true)(hs:E.B F (.fn 117 X)=true)(ho:aD (Y.den F)=aD (X.den F))(hb:(aW (Y.den F)).length<=30):E.B F (.fn 117 Y)=true:=by
 rw[Gu]at h
 have hs:iZ (X.den F)=true:=hs;show iZ (Y.den F)=true;have ls:∀j,(j==29||j==30)=false->j<38->¬j=0->¬j=31->U.eqs (cX (Y.den F) j).toL (cX (X.den F) j).toL=true:=fun j hj h38 h0 h1=>by
  have:=nQ h (pa h38 h0 h1)
  rw[hj]at this
  exact qH this
 have it:∀j,(j==29||j==30)=true->j<38->fu (cX (Y.den F) j).toL (cX (X.den F) j).toL=true:=fun j hj h38=>by
  have:=nQ h (pa h38 (by simp only[Bool.or_eq_true,beq_iff_eq]at hj;omega) (by simp only[Bool.or_eq_true,beq_iff_eq]at hj;omega))
  rw[hj]at this
  simp only[if_true,Bool.and_eq_true]at this;exact this.1
 have hz:∀k,k<8->aV (Y.den F) k=aV (X.den F) k:=fun k hk=>Kz (ls _ (by
  have:k=0\/k=1\/k=2\/k=3\/k=4\/k=5\/k=6\/k=7:=by omega
  rcases this with rfl|rfl|rfl|rfl|rfl|rfl|rfl|rfl<;>rfl) (by omega) (by omega) (by omega))
 have e29:=it 29 (by decide) (by decide);have e30:=it 30 (by decide) (by decide);have n29:=((gn _ _).1 e29).1;have n30:=((gn _ _).1 e30).1;have eb:dG (Y.den F)=dG (X.den F):=by
  have:=iJ (ls 32 (by decide) (by decide) (by decide) (by decide))
  unfold dG;rw[this]
 have es:cv (Y.den F)=cv (X.den F):=n29;have ezz:((List.range 8).all fun z=>decide ((aV (Y.den F) z).length<=40))=(List.range 8).all fun z=>decide ((aV (X.den F) z).length<=40):=JT fun k hk=>by rw[hz k hk]
 unfold iZ at hs ⊢
 rw[ezz,eb,ho,es,n30]
 rw[zj e29 (cv (X.den F)) (by exact Nat.le_refl _),zj e30 ((cX (X.den F) 30).toL.length/5) (Nat.le_refl _)]
 simp only[Bool.and_eq_true,decide_eq_true_eq]at hs ⊢
 refine⟨⟨⟨⟨⟨⟨⟨?_,?_⟩,?_⟩,?_⟩,?_⟩,?_⟩,?_⟩,?_⟩
 all_goals first | exact hb | grind
theorem afE(h:E.B F (.fn 249 (.pr Y X))=true)(h2:E.B F (.fn 200 (.pr w (.fn 1 (.pr X (.int 32)))))=true)(hw:E.B F (.fn 201 w)=true)(hX:E.B F (.fn 116 X)=true)(hs:E.B F (.fn 117 X)=true)(hv:E.B F (.fn 115 X)=true)
  (hm:E.B F (.fn 246 (.pr C (.pr X k)))=true)(ho:(E.L F o).length=(E.L F (.fn 1 (.pr X (.int 0)))).length)(ha:E.B F (.fn 200 (.pr l (.fn 1 (.pr X (.int 31)))))=true):
  E.B F (.fn 117 (nN Y X (.fn 28 (.pr z o)) (.fn 28 (.pr z' (.fn 3 (.pr l (.fn 23 (.pr k (.fn 10 (.int 0)))))))) w))=true:=by
 have hf:=aDH hv hs hm;refine aKm (NJ h h2 hw hX) hs ?_ ?_
 ·unfold aD
  rw[uH 0 (by decide)]
  exact congrArg (· / 12) ho
 ·have e:(aW ((nN Y X (.fn 28 (.pr z o)) (.fn 28 (.pr z' (.fn 3 (.pr l (.fn 23 (.pr k (.fn 10 (.int 0)))))))) w).den F)).length=(E.L F l++[k.den F]).length:=by
   unfold aW bp
   rw[uH 31 (by decide),List.length_map];rfl
  have ha:U.eqs (E.L F l) (cX (X.den F) 31).toL=true:=ha;have el:=iJ ha;have ea:(aW (X.den F)).length=(cX (X.den F) 31).toL.length:=by
   unfold aW bp
   rw[List.length_map]
  rw[e,List.length_append,el,List.length_singleton]
  omega
theorem Ny(ho:E.B F (.fn 200 (.pr o (.fn 1 (.pr X (.int 0)))))=true):
  E.I F (.fn 120 (.pr (nN Y X (.fn 28 (.pr z o)) d w) (.pr k (.fn 9 (.pr (.fn 28 (.pr z o)) (.int 12))))))=E.I F (.fn 120 (.pr X (.pr k (.fn 9 (.pr (.fn 1 (.pr X (.int 0))) (.int 12)))))):=by
 have ho:U.eqs (E.L F o) (cX (X.den F) 0).toL=true:=ho;have e1:E.I F (.fn 120 (.pr (nN Y X (.fn 28 (.pr z o)) d w) (.pr k (.fn 9 (.pr (.fn 28 (.pr z o)) (.int 12))))))=bB ((nN Y X (.fn 28 (.pr z o)) d w).den F) (E.I F k) ((E.L F o).length/12):=rfl;have e2:E.I F (.fn 120 (.pr X (.pr k (.fn 9 (.pr (.fn 1 (.pr X (.int 0))) (.int 12))))))=bB (X.den F) (E.I F k) ((cX (X.den F) 0).toL.length/12):=rfl
 rw[e1,e2,<- iJ ho]
 refine aFo ?_ _ _
 rw[uH 0 (by decide)]
 exact ho
theorem aKV(h:E.B F (.fn 250 (.pr W X))=true)(g0:E.B F (.fn 247 (.pr (.fn 1 (.pr W (.int 0))) (.pr X (.pr C k))))=true)(g:E.B F (.fn 248 (.pr (.fn 1 (.pr W (.int 31))) (.pr (.fn 1 (.pr X (.int 31))) k)))=true)(hn:E.B F (.fn 236 (.pr Y X))=true)
  (h0:E.B F (.fn 247 (.pr l0 (.pr X (.pr C k))))=true)(h1:E.B F (.fn 200 (.pr l1 (.fn 1 (.pr X (.int 6)))))=true)(h2:E.B F (.fn 200 (.pr l2 (.fn 1 (.pr X (.int 7)))))=true)(h3:E.B F (.fn 200 (.pr l3 (.fn 1 (.pr X (.int 8)))))=true)(h4:E.B F (.fn 200 (.pr l4 (.fn 1 (.pr X (.int 9)))))=true)
  (h5:E.B F (.fn 200 (.pr l5 (.fn 1 (.pr X (.int 20)))))=true)(h6:E.B F (.fn 200 (.pr l6 (.fn 1 (.pr X (.int 21)))))=true)(h7:E.B F (.fn 200 (.pr l7 (.fn 1 (.pr X (.int 22)))))=true)(h8:E.B F (.fn 200 (.pr l8 (.fn 1 (.pr X (.int 23)))))=true)
  (h9:E.B F (.fn 187 (.pr l9 (.fn 1 (.pr X (.int 29)))))=true)(h10:E.B F (.fn 187 (.pr l10 (.fn 1 (.pr X (.int 30)))))=true)(h11:E.B F (.fn 248 (.pr l11 (.pr (.fn 1 (.pr X (.int 31))) k)))=true)
  (h12:E.B F (.fn 200 (.pr l12 (.fn 1 (.pr X (.int 32)))))=true):
  E.B F (CP W Y l0 l1 l2 l3 l4 l5 l6 l7 l8 l9 l10 l11 l12)=true:=by
 rw[Gu]at h
 rw[agD]at hn
 unfold EC at hn
 rw[List.all_eq_true]at hn
 refine aL4 ?_;unfold nP
 rw[List.all_eq_true]
 intro j hj;have hj:=List.mem_range.1 hj;have bx:∀ {q:E} (j:Nat),(j==29||j==30)=false->j<38->¬j=0->¬j=31->E.B F (.fn 200 (.pr q (.fn 1 (.pr X (.int (Int.ofNat j))))))=true->U.eqs (cX (W.den F) j).toL (q.den F).toL=true:=fun {q} j h9 h38 n0 hn hq=>by
  have:=nQ h (pa h38 n0 hn)
  rw[h9]at this
  have hq:U.eqs (q.den F).toL (cX (X.den F) j).toL=true:=hq;exact C7 (qH this) (C6 hq)
 have it:∀ {q:E} (j:Nat),(j==29||j==30)=true->j<38->E.B F (.fn 187 (.pr q (.fn 1 (.pr X (.int (Int.ofNat j))))))=true->fu (cX (W.den F) j).toL (q.den F).toL=true:=fun {q} j h9 h38 hq=>by
  have:=nQ h (pa h38 (by simp only[Bool.or_eq_true,beq_iff_eq]at h9;omega) (by simp only[Bool.or_eq_true,beq_iff_eq]at h9;omega))
  rw[h9]at this
  simp only[if_true,Bool.and_eq_true]at this;have hq:fu (q.den F).toL (cX (X.den F) j).toL=true:=hq;have a:=(gn _ _).1 this.1;have b:=(gn _ _).1 hq
  rw[gn]
  exact⟨a.1.trans b.1.symm,C7 a.2 (C6 b.2)⟩
 cases e:jD.idxOf? j with
 |none=>
  obtain⟨t1,t2⟩:=aFq hj e
  simp only[Bool.and_eq_true,decide_eq_true_eq,beq_iff_eq,Bool.not_eq_true']at t1 t2;have a:=hn (fj.idxOf j) (List.mem_range.2 t1.1)
  rw[t1.2]at a
  have h9:(j==29||j==30)=false:=by
   cases hh:(j==29||j==30)with
   |false=>rfl
   |true=>
    simp only[Bool.or_eq_true,beq_iff_eq]at hh;rcases hh with rfl|rfl<;>exact absurd t2.2 (by decide)
  have b:=nQ h (pa hj (fun e0=>by subst e0;exact absurd t2.2 (by decide)) (fun e31=>by subst e31;exact absurd t2.2 (by decide)))
  rw[h9]at b
  have b:U.eq (cX (W.den F) j) (cX (X.den F) j)=true:=b;show fU j (cX (W.den F) j) (cX (Y.den F) (fj.idxOf j))=true;unfold fU
  rw[h9]
  have hc:[0,6,7,8,9,20,21,22,23,31,32].contains j=false:=by
   cases hh:[0,6,7,8,9,20,21,22,23,31,32].contains j with
   |false=>rfl
   |true=>
    simp only[List.contains_iff_mem,List.mem_cons,List.not_mem_nil,or_false]at hh;rcases hh with rfl|rfl|rfl|rfl|rfl|rfl|rfl|rfl|rfl|rfl|rfl<;>exact absurd t2.2 (by decide)
  rw[hc]
  simp only[Bool.false_eq_true,if_false];split
  ·rw[Kx b,Kx a];exact beq_self_eq_true _
  ·rw[qG b,qG a];exact beq_self_eq_true _
 |some i=>
  have t:=DC hj e;simp only[List.mem_cons,Prod.mk.injEq,List.not_mem_nil,or_false]at t;rcases t with⟨rfl,rfl⟩|⟨rfl,rfl⟩|⟨rfl,rfl⟩|⟨rfl,rfl⟩|⟨rfl,rfl⟩|⟨rfl,rfl⟩|⟨rfl,rfl⟩|⟨rfl,rfl⟩|⟨rfl,rfl⟩|⟨rfl,rfl⟩|⟨rfl,rfl⟩|⟨rfl,rfl⟩|⟨rfl,rfl⟩
  ·exact C7 g0 (C6 h0)
  ·exact bx 6 rfl (by decide) (by decide) (by decide) h1
  ·exact bx 7 rfl (by decide) (by decide) (by decide) h2
  ·exact bx 8 rfl (by decide) (by decide) (by decide) h3
  ·exact bx 9 rfl (by decide) (by decide) (by decide) h4
  ·exact bx 20 rfl (by decide) (by decide) (by decide) h5
  ·exact bx 21 rfl (by decide) (by decide) (by decide) h6
  ·exact bx 22 rfl (by decide) (by decide) (by decide) h7
  ·exact bx 23 rfl (by decide) (by decide) (by decide) h8
  ·exact it 29 rfl (by decide) h9
  ·exact it 30 rfl (by decide) h10
  ·exact C7 g (C6 h11)
  ·exact bx 32 rfl (by decide) (by decide) (by decide) h12
theorem aKQ(h0:0<=E.I F i)(h1:E.I F i<=E.I F (.fn 0 x)):E.I F (.fn 0 (.fn 18 (.pr x (.fn 8 (.pr i (.int 1))))))=E.I F i:=by
 have e:E.I F (.fn 0 (.fn 18 (.pr x (.fn 8 (.pr i (.int 1))))))=(((E.L F x).take (E.I F i*1).toNat).length:Nat):=rfl;have e2:E.I F (.fn 0 x)=((E.L F x).length:Nat):=rfl
 rw[e,List.length_take,Int.mul_one]
 omega
/-! the reference's attackers -/
theorem Kb(j:Int)(e:E.I F r=E.I F q):E.I F (iI X r j)=E.I F (iI X q j):=by
 show((E.L F (.fn 1 (.pr X (.int 0)))).getD (E.I F r*12+j).toNat (.int 0)).toI=_
 rw[e];rfl
theorem lO(hq:E.I F q=E.I F (.fn 120 (.pr X (.pr x (.fn 9 (.pr (.fn 1 (.pr X (.int 0))) (.int 12)))))))(h0:0<=E.I F q):
  (E.B F (.fn 239 (.pr C (.pr X x)))=true)=(¬E.B F (.fn 1 (.pr (.fn 1 (.pr X (.int 0))) (.fn 6 (.pr (.fn 8 (.pr q (.int 12))) (.int 9)))))=true/\E.I F (.fn 121 (.pr (.fn 1 (.pr X (.int 31))) (.fn 1 (.pr (.fn 1 (.pr X (.int 0))) (.fn 6 (.pr (.fn 8 (.pr q (.int 12))) (.int 0)))))))=0/\
   (¬E.B F (.fn 1 (.pr (.fn 1 (.pr X (.int 0))) (.fn 6 (.pr (.fn 8 (.pr q (.int 12))) (.int 10)))))=true\/E.B F (.fn 222 (.pr C (.pr (.fn 1 (.pr (.fn 1 (.pr X (.int 0))) (.fn 6 (.pr (.fn 8 (.pr q (.int 12))) (.int 1))))) (.int 1))))=true)):=by
 rw[uW hq h0]
 have e:(E.I F (.fn 121 (.pr (.fn 1 (.pr X (.int 31))) (.fn 1 (.pr (.fn 1 (.pr X (.int 0))) (.fn 6 (.pr (.fn 8 (.pr q (.int 12))) (.int 0)))))))=0)=¬(E.B F (.fn 114 (.pr (.fn 1 (.pr X (.int 31))) x))=true):=by
  rw[gU,yh hq h0,nX]
  apply propext
  rw[<- List.count_eq_zero]
  omega
 rw[e]
 simp only[Bool.and_eq_true,Bool.or_eq_true,Bool.not_eq_true',Bool.not_eq_true,and_assoc]
theorem aLa(h:E.I F i<=0):E.B F (.fn 242 (.pr (.fn 10 a) (.pr L (.pr C (.pr X i)))))=true:=by
 rw[vj]
 have:(E.I F i).toNat=0:=by omega
 rw[this];rfl
theorem NI(h:E.B F (.fn 242 (.pr x (.pr L (.pr C (.pr X i)))))=true)(h0:0<=E.I F i)(h1:E.I F i<E.I F (.fn 0 L))(hn:E.I F n=E.I F i+1):
  ((aH F L).take (E.I F n).toNat).filter (hE (E.L F C) (X.den F))=aH F x++[(aH F L).getD (E.I F i).toNat 0].filter (hE (E.L F C) (X.den F)):=by
 rw[vj]at h
 rw[<- b9]at h1
 have e:(E.I F n).toNat=(E.I F i).toNat+1:=by omega
 rw[e,u9 (by omega),List.filter_append,<- h]
theorem uX(h:E.B F (.fn 242 (.pr x (.pr L (.pr C (.pr X i)))))=true)(h0:0<=E.I F i)(h1:E.I F i<E.I F (.fn 0 L))(hn:E.I F n=E.I F i+1)(ok:¬E.B F (.fn 239 (.pr C (.pr X (.fn 1 (.pr L i)))))=true):E.B F (.fn 242 (.pr x (.pr L (.pr C (.pr X n)))))=true:=by
 have u:=NI h h0 h1 hn
 rw[rf]at ok
 rw[KX ok,List.append_nil]at u
 rw[vj];exact u.symm
theorem af0(h:E.B F (.fn 242 (.pr x (.pr L (.pr C (.pr X i)))))=true)(h0:0<=E.I F i)(h1:E.I F i<E.I F (.fn 0 L))(hn:E.I F n=E.I F i+1)(ea:E.I F a=E.I F (.fn 1 (.pr L i)))(ok:E.B F (.fn 239 (.pr C (.pr X (.fn 1 (.pr L i)))))=true):E.B F (.fn 242 (.pr (.fn 3 (.pr x (.fn 23 (.pr a (.fn 10 (.int 0)))))) (.pr L (.pr C (.pr X n)))))=true:=by
 have u:=NI h h0 h1 hn
 rw[rf]at ok
 rw[KY ok]at u
 rw[vj,u,<- fX,<- ea]
 show((E.L F x)++[a.den F]).map _=_
 rw[List.map_append];rfl
theorem afZ(h:E.B F (.fn 242 (.pr (.fn 10 (.int 0)) (.pr L (.pr C (.pr X i)))))=true)(h0:0<=E.I F i)(h1:E.I F i<E.I F (.fn 0 L))(hn:E.I F n=E.I F i+1)(ea:E.I F a=E.I F (.fn 1 (.pr L i)))(ok:E.B F (.fn 239 (.pr C (.pr X (.fn 1 (.pr L i)))))=true):E.B F (.fn 242 (.pr (.fn 23 (.pr a (.fn 10 (.int 0)))) (.pr L (.pr C (.pr X n)))))=true:=by
 have u:=NI h h0 h1 hn
 rw[rf]at ok
 rw[KY ok]at u
 rw[vj,u,<- fX,<- ea];rfl
theorem afY(h:E.B F (.fn 242 (.pr x (.pr L (.pr C (.pr X i)))))=true)(h4:E.B F (.fn 224 (.pr L (.pr C (.pr X (.pr (.fn 1 (.pr X (.int 34))) (.fn 9 (.pr (.fn 1 (.pr X (.int 0))) (.int 12))))))))=true)(ha:0<=E.I F (.fn 1 (.pr X (.int 34))))(h1:E.I F (.fn 0 L)<=E.I F i):aH F x=hG (E.L F C) (X.den F):=by
 rw[vj]at h
 rw[i5,JR ha]at h4
 rw[<- b9]at h1
 rw[List.take_of_length_le (by omega)]at h
 rw[h,h4];rfl
theorem aK7(h:aH F x=hG (E.L F C) (X.den F)):E.B F (.fn 241 (.pr (.fn 28 (.pr z x)) (.pr C X)))=true:=by
 rw[pD];exact h
theorem aK8(h:aH F (.fn 10 b)=hG (E.L F C) (X.den F)):E.B F (.fn 241 (.pr (.fn 30 a) (.pr C X)))=true:=by
 rw[pD];exact h
theorem afX(h:E.B F (.fn 241 (.pr x (.pr C X)))=true)(g:E.B F (.fn 241 (.pr y (.pr C X)))=true):E.I F (.fn 0 x)=E.I F (.fn 0 y):=by
 rw[pD]at h g
 rw[<- b9,<- b9,h,g]
theorem afW(h:E.B F (.fn 241 (.pr x (.pr C X)))=true)(g:E.B F (.fn 241 (.pr y (.pr C X)))=true):E.B F (.fn 237 (.pr x y))=true:=by
 rw[pD]at h g
 rw[agE,h,g]
theorem afU(h:E.B F (.fn 200 (.pr x y))=true):(E.L F x).length=(E.L F y).length:=iJ h
theorem aHM:(E.L F (.fn 2 (.pr x (.pr i v)))).length=(E.L F x).length:=by
 show((E.L F x).set _ _).length=_
 rw[List.length_set]
theorem af2(h:E.B F (.fn 246 (.pr C (.pr X k)))=true):E.I F (.fn 120 (.pr X (.pr k (.fn 9 (.pr (.fn 1 (.pr X (.int 0))) (.int 12))))))<E.I F (.fn 9 (.pr (.fn 1 (.pr X (.int 0))) (.int 12))):=by
 have h0:=uY h;have e:E.I F (.fn 120 (.pr X (.pr k (.fn 9 (.pr (.fn 1 (.pr X (.int 0))) (.int 12))))))=bB (X.den F) (E.I F k) (aD (X.den F)):=rfl;have e2:E.I F (.fn 9 (.pr (.fn 1 (.pr X (.int 0))) (.int 12)))=((aD (X.den F):Nat):Int):=rfl
 rw[e]at h0 ⊢
 have:=(qS h0).1
 omega
theorem aKW(h:E.B F (.fn 200 (.pr o (.fn 1 (.pr X (.int 0)))))=true):E.B F (.fn 222 (.pr C (.pr (iI X q 1) (.int 4))))=E.B F (.fn 222 (.pr C (.pr (.fn 1 (.pr o (.fn 6 (.pr (.fn 8 (.pr q (.int 12))) (.int 1))))) (.int 4)))):=by
 have h:U.eqs (E.L F o) (cX (X.den F) 0).toL=true:=h;have e:E.I F (iI X q 1)=E.I F (.fn 1 (.pr o (.fn 6 (.pr (.fn 8 (.pr q (.int 12))) (.int 1))))):=(qG (mT (E.I F q*12+1).toNat h)).symm;show iM _ (E.I F (iI X q 1)) _=iM _ (E.I F _) _
 rw[e];rfl
end
end Go.SX

