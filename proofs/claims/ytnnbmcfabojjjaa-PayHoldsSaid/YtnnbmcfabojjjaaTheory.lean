/-
  What the program's own functions say
-/
import Derived.Test.YtnnbmcfabojjjaaSXe
set_option linter.unusedVariables false
set_option linter.unusedSectionVars false
set_option linter.unusedSimpArgs false
namespace Go.SX
/-! ### Boards: what is valid -/
noncomputable def ay(F:Env)(e:E):List Int:=(E.L F e).map U.toI
theorem C3(l:List U)(k:Nat):(l.getD k (.int 0)).toI=(l.map U.toI).getD k 0:=by
 simp only[List.getD_eq_getElem?_getD,List.getElem?_map];cases l[k]? <;> rfl
theorem ad8{p:Nat->Bool}(n:Nat):(List.range n).all p=true↔∀i,i<n->p i=true:=by grind
theorem GL(l:List U)(n:Nat):uT l n=true↔∀i,i<n->EM (nI l (i*2)) (nI l (i*2+1))=true:=by
 simp_all[uT]
theorem xW(l:List U)(q:Bool)(n:Nat):pg l q n=true↔∀i,i<n->kU (nI l (i*5)) (nI l (i*5+1)) (nI l (i*5+2)) (nI l (i*5+3)) (l.getD (i*5+4) (.int 0)).toL q=true:=by
 simp_all[pg]
theorem hE(a x b:Int):dc a x b=true↔a<=x/\x<=b:=by grind[dc]
theorem Tw(a b:Int):EM a b=true↔0<=a/\a<=500/\0<=b/\b<=1/\(a=0\/b=0):=by
 simp_all[EM,hE,and_assoc]
/-- a row of a list whose dG have w cells -/
def bQ(T:E)(i:E)(w j:Nat):E:= .fn 1 (.pr T (.fn 6 (.pr (.fn 8 (.pr i (.int (Int.ofNat w)))) (.int (Int.ofNat j)))))
section
variable {F:Env} {x y l A a b k u i j p q n m r o c d w v X T N L:E}
theorem br:((ay F l).length:Int)=E.I F (.fn 0 l):=by
 show((E.L F l).map _).length=((E.L F l).length:Int)
 simp
theorem fE:E.I F (.fn 1 (.pr l i))=(ay F l).getD (E.I F i).toNat 0:=C3 _ _
theorem mh(i:E)(w j:Nat)(h:0<=E.I F i):E.I F (.fn 1 (.pr T (.fn 6 (.pr (.fn 8 (.pr i (.int (Int.ofNat w)))) (.int (Int.ofNat j))))))=nI (E.L F T) ((E.I F i).toNat*w+j):=by
 show((E.L F T).getD (E.I F i*w+j).toNat _).toI=_
 have e:(E.I F i*w+j).toNat=(E.I F i).toNat*w+j:=by
  grind
 rw[e];rfl
theorem vd(i:E)(w j:Nat)(h:0<=E.I F i):E.L F (.fn 1 (.pr T (.fn 6 (.pr (.fn 8 (.pr i (.int (Int.ofNat w)))) (.int (Int.ofNat j))))))=((E.L F T).getD ((E.I F i).toNat*w+j) (.int 0)).toL:=by
 show((E.L F T).getD (E.I F i*w+j).toNat _).toL=_
 grind
theorem aKJ(w:Nat):E.I F (.fn 9 (.pr x (.int (Int.ofNat w))))=(((E.L F x).length/w:Nat):Int):=rfl
/-! targets -/
theorem Dx:(E.B F (.fn 101 (.pr T n))=true)=(uT (E.L F T) (E.I F n).toNat=true):=rfl
theorem F8(h:E.B F (.fn 101 (.pr T i))=true)(h0:0<=E.I F i)(hm:E.I F m=E.I F i+1){a b:E}(ea:a=bQ T i 2 0)(eb:b=bQ T i 2 1)
  (ha:0<=E.I F a/\E.I F a<=500/\0<=E.I F b/\E.I F b<=1/\(E.I F a=0\/E.I F b=0)):E.B F (.fn 101 (.pr T m))=true:=by
 grind[Dx,GL,bQ,mh,Tw]
theorem mj(h0:0<=E.I F i)(h1:E.I F i<E.I F N){a b:E}(ea:a=bQ T i 2 0)(eb:b=bQ T i 2 1)
  (ha:¬(0<=E.I F a/\E.I F a<=500/\0<=E.I F b/\E.I F b<=1/\(E.I F a=0\/E.I F b=0))):¬(E.B F (.fn 101 (.pr T N))=true):=by
 subst ea;subst eb;intro h
 rw[Dx,GL]at h
 apply ha;unfold bQ
 rw[mh (T:=T) i 2 0 h0,mh (T:=T) i 2 1 h0]
 grind[Tw]
theorem agk(h:E.B F (.fn 101 (.pr T i))=true)(h1:E.I F N<=E.I F i):E.B F (.fn 101 (.pr T N))=true:=by
 grind[Dx,GL]
/-! items -/
theorem dL:(E.B F (.fn 102 (.pr p (.pr i (.pr c (.pr k (.pr T q))))))=true)=(0<=E.I F p/\E.I F p<=1/\1<=E.I F i/\E.I F i<=500/\0<=E.I F c/\E.I F c<=399/\-1<=E.I F k/\E.I F k<=1/\E.I F (.fn 9 (.pr T (.int 2)))<=4/\
  (E.I F k<0\/E.I F (.fn 9 (.pr T (.int 2)))=0)/\(E.B F q=true->0<=E.I F k)/\E.B F (.fn 101 (.pr T (.fn 9 (.pr T (.int 2)))))=true):=by
 show(kU (E.I F p) (E.I F i) (E.I F c) (E.I F k) (E.L F T) (E.B F q)=true)=_
 rw[Dx]
 have e9:E.I F (.fn 9 (.pr T (.int 2)))=(E.L F T).length/2:=rfl;unfold kU;simp only[Bool.and_eq_true,hE];grind
theorem qI:(E.B F (.fn 103 (.pr L (.pr q n)))=true)=(pg (E.L F L) (E.B F q) (E.I F n).toNat=true):=rfl
theorem aaV(i:E)(h0:0<=E.I F i):(E.B F (.fn 102 (.pr (bQ L i 5 0) (.pr (bQ L i 5 1) (.pr (bQ L i 5 2) (.pr (bQ L i 5 3) (.pr (bQ L i 5 4) q))))))=true)=
  (kU (nI (E.L F L) ((E.I F i).toNat*5)) (nI (E.L F L) ((E.I F i).toNat*5+1)) (nI (E.L F L) ((E.I F i).toNat*5+2)) (nI (E.L F L) ((E.I F i).toNat*5+3)) ((E.L F L).getD ((E.I F i).toNat*5+4) (.int 0)).toL (E.B F q)=true):=by
 show(kU (E.I F _) (E.I F _) (E.I F _) (E.I F _) (E.L F _) (E.B F q)=true)=_
 grind[bQ,mh,vd]
theorem CO(h:E.B F (.fn 103 (.pr L (.pr q i)))=true)(h0:0<=E.I F i)(hm:E.I F m=E.I F i+1){a:E}(ea:a=.fn 102 (.pr (bQ L i 5 0) (.pr (bQ L i 5 1) (.pr (bQ L i 5 2) (.pr (bQ L i 5 3) (.pr (bQ L i 5 4) q))))))
  (ha:E.B F a=true):E.B F (.fn 103 (.pr L (.pr q m)))=true:=by
 grind[aaV,qI,xW]
theorem Fj(h0:0<=E.I F i)(h1:E.I F i<E.I F N){a:E}(ea:a=.fn 102 (.pr (bQ L i 5 0) (.pr (bQ L i 5 1) (.pr (bQ L i 5 2) (.pr (bQ L i 5 3) (.pr (bQ L i 5 4) q))))))
  (ha:¬(E.B F a=true)):¬(E.B F (.fn 103 (.pr L (.pr q N)))=true):=by
 grind[aaV,qI,xW]
theorem Ga(h:E.B F (.fn 103 (.pr L (.pr q i)))=true)(h1:E.I F N<=E.I F i):E.B F (.fn 103 (.pr L (.pr q N)))=true:=by
 grind[qI,xW]
/-! lists of numbers -/
theorem sW:(E.B F (.fn 114 (.pr l k))=true)=(E.I F k∈ay F l):=by
 show((bJ _).contains _=true)=_
 rw[List.contains_iff_mem];rfl
theorem Gg:E.I F (.fn 131 (.pr l (.pr k n)))=(((ay F l).take (E.I F n).toNat).count (E.I F k):Nat):=rfl
theorem kD(l:List Int)(n:Nat)(h:n<l.length):l.take (n+1)=l.take n++[l.getD n 0]:=by
 simp_all
theorem HH(h0:0<=E.I F i)(h1:E.I F i<E.I F (.fn 0 l))(hm:E.I F m=E.I F i+1):
  E.I F (.fn 131 (.pr l (.pr k m)))=E.I F (.fn 131 (.pr l (.pr k i)))+(if E.I F k=E.I F (.fn 1 (.pr l i))then 1 else 0):=by
 rw[Gg,Gg,fE]
 rw[<- br]at h1
 have e:(E.I F m).toNat=(E.I F i).toNat+1:=by omega
 grind[kD]
theorem an5(h:E.I F (.fn 0 l)<=E.I F n):(E.B F (.fn 114 (.pr l k))=true)↔¬(E.I F (.fn 131 (.pr l (.pr k n)))=0):=by
 grind[sW,Gg,br,List.take_of_length_le]
theorem azX(h0:0<=E.I F i)(h1:E.I F i<E.I F (.fn 0 l))(he:E.I F k=E.I F (.fn 1 (.pr l i))):E.B F (.fn 114 (.pr l k))=true:=by
 simp_all[sW,fE,br]
end
end Go.SX

set_option linter.unusedVariables false
set_option linter.unusedSimpArgs false
namespace Go.SX
/-! ### maps as lists of pairs -/
theorem s9(q:Int)(u:U)(m:List U):dg q (u::m)=if u.fst.toI=q then some u.snd else dg q m:=rfl
theorem ac0(k:Int)(v u:U)(m:List U):dh k v (u::m)=if u.fst.toI=k then .lst [.int k,v]::m else u::dh k v m:=rfl
theorem XV(k:Int)(v:U):(U.lst [.int k,v]).fst.toI=k:=rfl
theorem aa7(k:Int)(v:U):(U.lst [.int k,v]).snd=v:=rfl
theorem aeP(k q:Int)(v:U):∀m:List U,dg q (dh k v m)=if q=k then some v else dg q m
 |[]=>by
  show dg q [U.lst _]=_;grind[s9,XV,aa7]
 |u::l=>by
  rw[ac0]
  by_cases h:u.fst.toI=k
  ·rw[if_pos h,s9,XV,aa7,s9,h]
   grind
  ·rw[if_neg h,s9,aeP k q v l,s9]
   grind
theorem OY(k:Int)(v:U):∀m:List U,k∉(jh m).map Prod.fst->jh (dh k v m)=jh m++[(k,v.toI)]
 |[],_=>rfl
 |u::l,h=>by
  have e:jh (u::l)=(u.fst.toI,u.snd.toI)::jh l:=rfl
  rw[e]at h ⊢
  simp only[List.map_cons,List.mem_cons,not_or]at h
  rw[ac0,if_neg (fun e=>h.1 e.symm)]
  show(u.fst.toI,u.snd.toI)::jh _=_
  rw[OY k v l h.2];rfl
theorem B4(k:Int):∀m:List U,(dg k m).map U.toI=gi (jh m) k
 |[]=>rfl
 |u::l=>by
  have e:jh (u::l)=(u.fst.toI,u.snd.toI)::jh l:=rfl
  rw[s9,e]
  unfold gi;by_cases h:u.fst.toI=k
  ·simp[h]
  ·have:=B4 k l
   grind[gi]
theorem I4(k:Int)(m:List U):(dg k m).isSome=true↔k∈(jh m).map Prod.fst:=by
 grind[B4,gi,Option.isSome_map]
theorem zw{l:List (Int×Int)}{k v:Int}(h:gi l k=some v):(k,v)∈l:=by
 unfold gi at h;cases hc:l.find? fun p=>p.1==k with
 |none=>simp_all
 |some p=>
  grind
theorem JK:∀ {l:List (Int×Int)} {k v:Int},(l.map Prod.fst).Nodup->(k,v)∈l->gi l k=some v
 |[],k,v,_,h=>by simp at h
 |p::l,k,v,hn,h=>by
  simp only[List.map_cons,List.nodup_cons]at hn;unfold gi;rcases List.mem_cons.1 h with e|e
  ·grind
  ·have:=JK hn.2 e
   grind[gi]
theorem pO:∀l:List Int,nJ l=true↔l.Nodup
 |[]=>by simp[nJ]
 |x::l=>by
  unfold nJ
  rw[Bool.and_eq_true,pO l,List.nodup_cons]
  simp
theorem zl(m:List U)(l:List (Int×Int)):io m l=true↔jh m=l/\(l.map Prod.fst).Nodup:=by
 simp_all[io,pO]
theorem Hu{m:List U}{l:List (Int×Int)}{k:Int}{v:U}(h:io m l=true)(hk:¬(dg k m).isSome=true):io (dh k v m) (l++[(k,v.toI)])=true:=by
 grind[zl,I4,OY]
/-! the places, one after the other -/
theorem Bj(X:U)(k:Nat):lD X (k+1)=lD X k++(bn X k).map fun i=>(i,((k/4:Nat):Int)):=by
 simp_all[lD,List.range_succ]
theorem aAj(X:U)(k:Nat):fQ X k (bn X k).length=fQ X (k+1) 0:=by
 simp_all[fQ,Bj]
theorem aym(X:U)(k i:Nat)(h:i<(bn X k).length):fQ X k (i+1)=fQ X k i++[((bn X k).getD i 0,((k/4:Nat):Int))]:=by
 grind[fQ,kD]
theorem agm(X:U)(k:Nat):∀d,∃r,lD X (k+d)=lD X k++r
 |0=>⟨[],by simp⟩
 |d+1=>by
  obtain⟨r,hr⟩:=agm X k d
  grind[Bj]
theorem Es(X:U)(k i:Nat)(h:k<8):∃r,dy X=fQ X k i++r:=by
 obtain⟨r,hr⟩:=agm X _ _
 have e:k+1+(8-(k+1))=8:=by omega
 rw[e]at hr
 refine⟨((bn X k).drop i).map (fun x=>(x,(k/4:Int)))++(r++jv X (cD X)),?_⟩
 have h8:fQ X 8 0=lD X 8:=by simp[fQ]
 unfold dy
 rw[h8,hr,Bj]
 grind[fQ,List.take_append_drop]
theorem CE(X:U)(s:Nat):iA X (s+1)=iA X s++if nI (cX X 29).toL (s*5+3)<0 then [s] else []:=by
 grind[iA,List.range_succ]
theorem WD(X:U)(s:Nat):∀d,∃r,iA X (s+d)=iA X s++r
 |0=>⟨[],by simp⟩
 |d+1=>by
  obtain⟨r,hr⟩:=WD X s d
  grind[CE]
theorem aww(X:U)(s:Nat)(h:s<=cD X):∃r,dy X=(fQ X 8 0++jv X s)++r:=by
 obtain⟨r,hr⟩:=WD X s (cD X-s)
 simp_all[dy,jv]
theorem adw{X:U}{l:List (Int×Int)}{k v:Int}(h:∃r,dy X=(l++[(k,v)])++r)(hk:k∈l.map Prod.fst):¬dJ X=true:=by
 intro hp;unfold dJ at hp;simp only[Bool.and_eq_true,pO]at hp;grind
theorem mm(X:U)(n:Nat):vI X n=true↔∀i,i<n->(mN X i=true/\(i=0\/oI X (i-1) 0<oI X i 0)/\gi (dy X) (oI X i 0)=some (oI X i 2)/\(∀c,gi (iW X (cD X)) (oI X i 0)=some c->c=oI X i 1)):=by
 grind[vI]
theorem rE(X:U)(i:Nat):mN X i=true↔1<=oI X i 0/\oI X i 0<=500/\-1<=oI X i 1/\oI X i 1<=399/\0<=oI X i 2/\oI X i 2<=1/\(oI X i 1=-1\/(oI X i 3=0/\oI X i 4=0))/\
  0<=oI X i 3/\oI X i 3<=99/\0<=oI X i 4/\oI X i 4<=99/\0<=oI X i 5/\oI X i 5<=99/\0<=oI X i 6/\oI X i 6<=99/\0<=oI X i 7/\oI X i 7<=99/\0<=oI X i 8/\oI X i 8<=99:=by
 unfold mN;simp only[List.all_cons,List.all_nil,Bool.and_eq_true,Bool.or_eq_true,hE,beq_iff_eq,and_assoc,and_true]
/-! distinct ids: as many places as objects -/
theorem UQ:∀(l1 l2:List Int),l1.Nodup->(∀x∈l1,x∈l2)->l1.length<=l2.length
 |[],l2,_,_=>Nat.zero_le _
 |x::l1,l2,hn,hs=>by
  have h:=UQ l1 (l2.erase x) (List.nodup_cons.1 hn).2 (by
   grind)
  grind
theorem adx{l1 l2:List Int}(hn:l1.Nodup)(hs:∀x∈l1,x∈l2)(hl:l2.length<=l1.length):∀x∈l2,x∈l1:=by
 intro x hx;by_cases h:x∈l1
 ·exact h
 ·have:=UQ _ l2 (List.nodup_cons.2 ⟨h,hn⟩) (by
   simp_all)
  grind
def lm(X:U):List Int:=(List.range (aN X)).map fun i=>oI X i 0
theorem abf{f:Nat->Int}{n:Nat}(h:∀i,i<n->(i=0\/f (i-1)<f i)):∀i j,i<j->j<n->f i<f j:=by
 intro i j hij hj;induction j with
 |zero=>omega
 |succ j ih=>
  grind
theorem CP{X:U}(h:∀i,i<aN X->(i=0\/oI X (i-1) 0<oI X i 0)):(lm X).Nodup:=by
 unfold lm
 rw[List.nodup_iff_pairwise_ne,List.pairwise_map]
 refine List.Pairwise.imp_of_mem ?_ (List.pairwise_lt_range (n:=aN X));intro a b ha hb hab e
 have:=abf (f:=fun i=>oI X i 0) h a b hab (List.mem_range.1 hb)
 omega
theorem PH{X:U}(h:dJ X=true):∀k∈(dy X).map Prod.fst,1<=k/\k<=500:=by
 unfold dJ at h;simp only[Bool.and_eq_true,beq_iff_eq]at h
 obtain⟨⟨hn,ho⟩,hl⟩:=h
 rw[mm]at ho
 have hs:=adx (l1:=lm X) (l2:=(dy X).map _) (CP fun i hi=>(ho i hi).2.1) (by
  intro x hx
  obtain⟨i,hi,rfl⟩:=List.mem_map.1 hx
  exact List.mem_map_of_mem (f:=Prod.fst) (zw (ho i (List.mem_range.1 hi)).2.2.1)) (by simp[lm,hl])
 intro k hk
 obtain⟨i,hi,rfl⟩:=List.mem_map.1 (hs k hk)
 simp_all[rE]
theorem ag5(X:U)(k:Nat)(h:k<8):∀x∈bn X k,x∈(dy X).map Prod.fst:=by
 obtain⟨r,hr⟩:=Es X k (bn X k).length h
 simp_all[fQ]
end Go.SX

set_option linter.unusedVariables false
set_option linter.unusedSimpArgs false
namespace Go.SX
/-! ### attackers and blocks -/
theorem IH(X:U)(j c:Nat):d9 X (j+1) c=d9 X j c++[blk X j c]:=by
 simp_all[d9,List.range_succ]
theorem akl{X:U}{j n c:Nat}(h:j<=n){k:Int}(hk:k∈d9 X j c):k∈d9 X n c:=by
 grind[d9]
theorem mW(X:U)(n j:Nat)(k:Int)(h:0<k):pk X n j k=(((bv X).take n).contains k && !(d9 X j 1).contains k):=by
 simp_all[pk]
theorem pP(X:U)(n j:Nat)(k:Int)(h:¬0<k):pk X n j k=(d9 X j 0).contains (-k):=by
 grind[pk]
theorem ID(m:List U)(k q:Int)(b:Bool):iT (dh k (.bool b) m) q=if q=k then b else iT m q:=by
 unfold iT;rw[aeP];by_cases h:q=k<;>simp[h]
 rfl
theorem pK{X:U}{m:List U}{n j:Nat}(h:jw X m n j=true)(hj:j<=fX X)(k:Int):iT m k=pk X n j k:=by
 unfold jw at h
 rw[List.all_eq_true]at h
 by_cases hk:k∈(m.map fun u=>u.fst.toI)++bv X++(d9 X (fX X) 0).map fun k=>-k
 ·simp_all
 ·have h1:iT m k=false:=by
   unfold iT;cases hc:dg k m with
   |none=>rfl
   |some v=>
    grind[I4,jh]
  by_cases hp:0<k
  ·grind[mW]
  ·rw[pP _ _ _ _ hp]
   grind[akl]
theorem KS{X:U}{m:List U}{n j:Nat}(h:∀k,iT m k=pk X n j k):jw X m n j=true:=by
 simp_all[jw]
theorem qY(X:U)(n:Nat):kA X n=true↔((bv X).take n).Nodup/\∀a∈(bv X).take n,a∈gd X:=by
 simp_all[kA,pO]
theorem xg(X:U)(n:Nat):lC X n=true↔(d9 X n 1).Nodup/\(d9 X n 0).Nodup/\∀i,i<n->(blk X i 1∈bv X/\blk X i 0∈fG X):=by
 simp_all[lC,pO,and_assoc]
theorem Iu{X:U}(h:dJ X=true)(ha:ed X<=1){a:Int}(hm:a∈gd X):1<=a/\a<=500:=
 PH h a (ag5 X _ (by omega) a hm)
theorem agu{X:U}(h:dJ X=true){a:Int}(hm:a∈fG X):1<=a/\a<=500:=
 PH h a (ag5 X _ (by omega) a hm)
theorem yu(X:U):jy X=true↔kA X (bv X).length=true/\lC X (fX X)=true:=by
 simp_all[jy]
theorem ahi{X:U}{i:Nat}{a:Int}(h:pk X i 0 a=true):a∈(bv X).take i:=by
 by_cases hp:0<a
 all_goals simp_all[mW,pP,d9]
theorem apZ{X:U}{m:List U}{i:Nat}(h:kA X i=true)(hp:dJ X=true)(ha:ed X<=1)(hs:jw X m i 0=true)(hi:i<(bv X).length)
  (hv:¬iT m ((bv X).getD i 0)=true)(ho:(bv X).getD i 0∈gd X):kA X (i+1)=true:=by
 rw[qY]at *
 have hpos:=Iu hp ha ho
 rw[pK hs (Nat.zero_le _),mW _ _ _ _ (by omega)]at hv
 have hb:(d9 X 0 1).contains ((bv X).getD i 0)=false:=by rfl
 grind[kD]
theorem asA{X:U}{m:List U}{i:Nat}(hp:dJ X=true)(ha:ed X<=1)(hs:jw X m i 0=true)(hi:i<(bv X).length)(ho:(bv X).getD i 0∈gd X):jw X (dh ((bv X).getD i 0) (.bool true) m) (i+1) 0=true:=by
 apply KS;intro k;have hpos:=Iu hp ha ho
 rw[ID,pK hs (Nat.zero_le _)]
 by_cases hk:0<k
 ·rw[mW _ _ _ _ hk,mW _ _ _ _ hk,kD _ _ hi]
  by_cases e:k=(bv X).getD i 0
  ·grind[d9]
  grind
 ·rw[pP _ _ _ _ hk,pP _ _ _ _ hk,if_neg (by omega)]
theorem aCT{X:U}{m:List U}{i:Nat}(hs:jw X m i 0=true)(hi:i<(bv X).length)(hv:iT m ((bv X).getD i 0)=true):¬jy X=true:=by
 intro hf
 rw[yu,qY,List.take_length]at hf
 rw[pK hs (Nat.zero_le _)]at hv
 have hm:=ahi hv;have ht:=kD _ i hi;grind[List.take_sublist]
theorem aqj{X:U}{i:Nat}(hi:i<(bv X).length)(ho:¬(bv X).getD i 0∈gd X):¬jy X=true:=by
 grind[yu,qY]
theorem CW{X:U}{j:Nat}(hj:j<fX X)(h:lC X (j+1)=true->False):¬jy X=true:=by
 intro hf
 rw[yu,xg]at hf
 apply h
 rw[xg]
 have sub:∀c,(d9 X (j+1) c).Sublist (d9 X (fX X) c):=by
  grind[d9]
 grind
/-- a block that is right, when the ones ahead of it are -/
theorem wl{X:U}{j:Nat}:lC X (j+1)=true↔lC X j=true/\blk X j 1∉d9 X j 1/\blk X j 0∉d9 X j 0/\blk X j 1∈bv X/\blk X j 0∈fG X:=by
  grind[xg,IH]
theorem afD{X:U}(hp:dJ X=true)(ha:ed X<=1)(h:kA X (bv X).length=true){a:Int}(hm:a∈bv X):1<=a/\a<=500:=by
 rw[qY,List.take_length]at h
 exact Iu hp ha (h.2 a hm)
section
variable {X:U} {m:List U} {j:Nat} {nk:Int}
theorem auN(hp:dJ X=true)(ha:ed X<=1)(h:kA X (bv X).length=true)(hs:jw X m (bv X).length j=true)(hj:j<fX X)(hv:¬iT m (blk X j 1)=true):¬jy X=true:=by
 apply CW hj;intro hb
 rw[wl]at hb
 have hpos:=afD hp ha h hb.2.2.2.1
 rw[pK hs (by omega),mW _ _ _ _ (by omega),List.take_length,Bool.and_eq_true,List.contains_iff_mem]at hv
 simp_all
theorem axk(hp:dJ X=true)(hs:jw X m (bv X).length j=true)(hj:j<fX X)(hk:1<=blk X j 0->blk X j 0<=500->nk=-(blk X j 0))(hv:iT m nk=true):¬jy X=true:=by
 apply CW hj;intro hb
 rw[wl]at hb
 have hpos:=agu hp hb.2.2.2.2;have e:=hk hpos.1 hpos.2
 rw[pK hs (by omega),pP _ _ _ _ (by omega),List.contains_iff_mem,e,Int.neg_neg]at hv
 simp_all
theorem aDd(hj:j<fX X)(hv:¬blk X j 1∈bv X):¬jy X=true:=by
 grind[CW,wl]
theorem azP(hj:j<fX X)(hv:¬blk X j 0∈fG X):¬jy X=true:=by
 grind[CW,wl]
theorem auq(hp:dJ X=true)(ha:ed X<=1)(h:kA X (bv X).length=true)(hb:lC X j=true)(hs:jw X m (bv X).length j=true)(hj:j<fX X)(hv:iT m (blk X j 1)=true)
  (hk:1<=blk X j 0->blk X j 0<=500->nk=-(blk X j 0))(hn:¬iT m nk=true)(h1:blk X j 1∈bv X)(h2:blk X j 0∈fG X):lC X (j+1)=true/\jw X (dh nk (.bool true) (dh (blk X j 1) (.bool false) m)) (bv X).length (j+1)=true:=by
 have hpos:=afD hp ha h h1;have hpos2:=agu hp h2;have e:=hk hpos2.1 hpos2.2;have hv':=hv
 rw[pK hs (by omega),mW _ _ _ _ (by omega),Bool.and_eq_true]at hv'
 have hn':=hn
 rw[pK hs (by omega),pP _ _ _ _ (by omega),e,Int.neg_neg,List.contains_iff_mem]at hn'
 have hv2:blk X j 1∉d9 X j 1:=by
  simp_all
 refine⟨wl.2 ⟨hb,hv2,hn',h1,h2⟩,?_⟩
 apply KS;intro k
 rw[ID,ID,pK hs (by omega)]
 by_cases hk:0<k
 ·rw[mW _ _ _ _ hk,mW _ _ _ _ hk,if_neg (by omega),IH]
  grind
 grind[pP,IH]
end
end Go.SX

set_option linter.unusedVariables false
set_option linter.unusedSimpArgs false
namespace Go.SX
/-! ### what expressions say of a board -/
section
variable {F:Env} {x y l A a b k u i j p q n m r o c d w v X T N L L2 mc s:E}
theorem aM:-9223372036854775808<=E.I F a+E.I F b->E.I F a+E.I F b<9223372036854775808->E.I F (.ar .add .i64 a b)=E.I F a+E.I F b:=by
 have e:E.I F (.ar .add _ a b)=IntKind.i64.wrap (E.I F a+E.I F b):=rfl
 obtain⟨s,e2,q,r⟩:=ab (E.I F a+E.I F b)
 omega
theorem bH:-9223372036854775808<=E.I F a-E.I F b->E.I F a-E.I F b<9223372036854775808->E.I F (.ar .sub .i64 a b)=E.I F a-E.I F b:=by
 have e:E.I F (.ar .sub _ a b)=IntKind.i64.wrap (E.I F a-E.I F b):=rfl
 obtain⟨s,e2,q,r⟩:=ab (E.I F a-E.I F b)
 omega
theorem I_c(j:Nat):E.I F (.fn 1 (.pr X (.int (Int.ofNat j))))=iX (X.den F) j:=rfl
theorem ux:(E.B F (.fn 108 X)=true)=(dJ (X.den F)=true):=rfl
theorem s8:(E.B F (.fn 109 (.pr L (.pr X (.pr p q))))=true)=(ay F L=bn (X.den F) ((E.I F p).toNat*4+(E.I F q).toNat)):=by
 show((bJ _==bn _ _)=true)=_
 rw[beq_iff_eq];rfl
theorem MA:(E.B F (.fn 110 X)=true)=(jy (X.den F)=true):=rfl
theorem Fs:(E.B F (.fn 111 (.pr X n))=true)=(kA (X.den F) (E.I F n).toNat=true):=rfl
theorem Qz:(E.B F (.fn 112 (.pr X n))=true)=(lC (X.den F) (E.I F n).toNat=true):=rfl
theorem y5:(E.B F (.fn 113 (.pr m (.pr X (.pr n j))))=true)=(jw (X.den F) (E.L F m) (E.I F n).toNat (E.I F j).toNat=true):=rfl
theorem Kk:E.B F (.fn 32 (.pr m (.pr k (.bool false))))=iT (E.L F m) (E.I F k):=rfl
theorem tP:E.L F (.fn 34 (.pr m (.pr k v)))=dh (E.I F k) (v.den F) (E.L F m):=rfl
theorem ax9(P Q j:Nat)(hQ:Q<4)(hj:j=6+14*P+Q):bn (X.den F) (P*4+Q)=ay F (.fn 1 (.pr X (.int (Int.ofNat j)))):=by
 show bJ _=bJ (cX (X.den F) j);grind
theorem iI(P Q j:Nat)(hQ:Q<4)(hj:j=6+14*P+Q)(hp:E.I F p=(P:Int))(hq:E.I F q=(Q:Int)):E.B F (.fn 109 (.pr (.fn 1 (.pr X (.int (Int.ofNat j)))) (.pr X (.pr p q))))=true:=by
 simp_all[s8,ax9]
theorem aJw(j:Nat):E.I F (.fn 0 (.fn 1 (.pr X (.int (Int.ofNat j)))))=((cX (X.den F) j).toL.length:Nat):=rfl
theorem aKX(j w:Nat):E.I F (.fn 9 (.pr (.fn 1 (.pr X (.int (Int.ofNat j)))) (.int (Int.ofNat w))))=((cX (X.den F) j).toL.length/w:Nat):=rfl
theorem apE(Y:U)(z:Nat):(bn Y z).length=(cX Y (6+14*(z/4)+z%4)).toL.length:=by
 grind[bn,bJ]
theorem aC(h:E.B F (.fn 117 X)=true):(E.I F (.fn 0 (.fn 1 (.pr X (.int 6))))<=40/\E.I F (.fn 0 (.fn 1 (.pr X (.int 7))))<=40/\E.I F (.fn 0 (.fn 1 (.pr X (.int 8))))<=40/\E.I F (.fn 0 (.fn 1 (.pr X (.int 9))))<=40)/\
  (E.I F (.fn 0 (.fn 1 (.pr X (.int 20))))<=40/\E.I F (.fn 0 (.fn 1 (.pr X (.int 21))))<=40/\E.I F (.fn 0 (.fn 1 (.pr X (.int 22))))<=40/\E.I F (.fn 0 (.fn 1 (.pr X (.int 23))))<=40)/\
  (E.I F (.fn 9 (.pr (.fn 1 (.pr X (.int 29))) (.int 5)))<=20/\E.I F (.fn 9 (.pr (.fn 1 (.pr X (.int 30))) (.int 5)))<=20/\E.I F (.fn 9 (.pr (.fn 1 (.pr X (.int 0))) (.int 12)))<=30/\E.I F (.fn 0 (.fn 1 (.pr X (.int 31))))<=30/\E.I F (.fn 9 (.pr (.fn 1 (.pr X (.int 32))) (.int 2)))<=30)/\
  (0<=E.I F (.fn 9 (.pr (.fn 1 (.pr X (.int 29))) (.int 5)))/\0<=E.I F (.fn 9 (.pr (.fn 1 (.pr X (.int 30))) (.int 5)))/\0<=E.I F (.fn 9 (.pr (.fn 1 (.pr X (.int 0))) (.int 12)))/\0<=E.I F (.fn 0 (.fn 1 (.pr X (.int 31))))/\0<=E.I F (.fn 9 (.pr (.fn 1 (.pr X (.int 32))) (.int 2)))):=by
 have h':pq _=true:=h;unfold pq at h';simp only[Bool.and_eq_true,ad8,decide_eq_true_eq]at h'
 obtain⟨⟨⟨⟨⟨⟨⟨h1,h2⟩,h3⟩,_⟩,_⟩,h4⟩,h5⟩,h6⟩:=h'
 have z (n:Nat) (hn:n<8):=h1 n hn;simp only[apE]at z;have z0:=z 0 (by omega);have z1:=z 1 (by omega);have z2:=z 2 (by omega);have z3:=z 3 (by omega);have z4:=z 4 (by omega);have z5:=z 5 (by omega);have z6:=z 6 (by omega);have z7:=z 7 (by omega);have a31:(bv (X.den F)).length=(cX (X.den F) 31).toL.length:=by grind[bv,bJ]
 rw[a31]at h5
 refine⟨⟨?_,?_,?_,?_⟩,⟨?_,?_,?_,?_⟩,⟨?_,?_,?_,?_,?_⟩,?_,?_,?_,?_,?_⟩
 ·exact Int.ofNat_le.2 z0
 ·exact Int.ofNat_le.2 z1
 ·exact Int.ofNat_le.2 z2
 ·exact Int.ofNat_le.2 z3
 ·exact Int.ofNat_le.2 z4
 ·exact Int.ofNat_le.2 z5
 ·exact Int.ofNat_le.2 z6
 ·exact Int.ofNat_le.2 z7
 ·exact Int.ofNat_le.2 h2
 ·exact Int.ofNat_le.2 h3
 ·exact Int.ofNat_le.2 h4
 ·exact Int.ofNat_le.2 h5
 ·exact Int.ofNat_le.2 h6
 ·exact Int.natCast_nonneg _
 ·exact Int.natCast_nonneg _
 ·exact Int.natCast_nonneg _
 ·exact Int.natCast_nonneg _
 ·exact Int.natCast_nonneg _
/-! fights -/
theorem asY(h:E.I F n<=0)(h':E.I F j<=0):E.B F (.fn 113 (.pr (.fn 10 a) (.pr X (.pr n j))))=true:=by
 have e:(E.I F n).toNat=0:=by omega
 have e':(E.I F j).toNat=0:=by omega
 rw[y5,e,e']
 apply KS;intro k;show false=_;grind[mW,pP,d9]
theorem ajU(h:E.B F (.fn 111 (.pr X i))=true)(e:E.I F n=E.I F i):E.B F (.fn 111 (.pr X n))=true:=by
 simp_all[Fs]
theorem aps(h:E.B F (.fn 113 (.pr m (.pr X (.pr i j))))=true)(e:E.I F n=E.I F i)(e':E.I F k=E.I F j):E.B F (.fn 113 (.pr m (.pr X (.pr n k))))=true:=by
 simp_all[y5]
theorem atZ(h0:0<=E.I F i):(bv (X.den F)).getD (E.I F i).toNat 0=E.I F (.fn 1 (.pr (.fn 1 (.pr X (.int 31))) i)):=by
 rw[fE];rfl
theorem v6:((bv (X.den F)).length:Int)=E.I F (.fn 0 (.fn 1 (.pr X (.int 31)))):=by
 show(((cX _ 31).toL.map _).length:Int)=_
 rw[List.length_map];rfl
theorem uf:((fX (X.den F):Nat):Int)=E.I F (.fn 9 (.pr (.fn 1 (.pr X (.int 32))) (.int 2))):=rfl
theorem pv(h0:0<=E.I F i)(c:Nat):blk (X.den F) (E.I F i).toNat c=E.I F (.fn 1 (.pr (.fn 1 (.pr X (.int 32))) (.fn 6 (.pr (.fn 8 (.pr i (.int 2))) (.int (Int.ofNat c)))))):=by
 exact(mh (T:=.fn 1 (.pr X (.int 32))) i 2 c h0).symm
theorem aEr(h:E.B F (.fn 109 (.pr L (.pr X (.pr (.fn 1 (.pr X (.int 34))) (.int 2)))))=true):ay F L=gd (X.den F):=by
 rw[s8]at h
 rw[h];unfold gd ed
 have e:(E.I F (.fn 1 (.pr X (.int 34)))).toNat*4+(E.I F (.int 2)).toNat=4*(iX (X.den F) 34).toNat+2:=by
  have:E.I F (.fn 1 (.pr X (.int 34)))=iX (X.den F) 34:=rfl
  have:(E.I F (.int 2)).toNat=2:=rfl
  omega
 rw[e]
theorem aGo(h:E.B F (.fn 109 (.pr L (.pr X (.pr (.fn 7 (.pr (.int 1) (.fn 1 (.pr X (.int 34))))) (.int 2)))))=true)(h0:0<=E.I F (.fn 1 (.pr X (.int 34)))):ay F L=fG (X.den F):=by
 rw[s8]at h
 rw[h];unfold fG ed
 have e:(E.I F (.fn 7 (.pr (.int 1) (.fn 1 (.pr X (.int 34)))))).toNat*4+(E.I F (.int 2)).toNat=4*(1-(iX (X.den F) 34).toNat)+2:=by
  have e1:E.I F (.fn 7 (.pr (.int 1) (.fn 1 (.pr X (.int 34)))))=1-iX (X.den F) 34:=rfl;have e2:E.I F (.fn 1 (.pr X (.int 34)))=iX (X.den F) 34:=rfl
  have:(E.I F (.int 2)).toNat=2:=rfl
  omega
 rw[e]
/-- an attacker -/
theorem Co(hp:E.B F (.fn 108 X)=true)(ha:0<=E.I F (.fn 1 (.pr X (.int 34))))(ha':E.I F (.fn 1 (.pr X (.int 34)))<=1)(hs:E.B F (.fn 113 (.pr m (.pr X (.pr i (.int 0)))))=true)(h:E.B F (.fn 111 (.pr X i))=true)
    (h0:0<=E.I F i)(hi:E.I F i<E.I F (.fn 0 (.fn 1 (.pr X (.int 31)))))(hL:E.B F (.fn 109 (.pr L (.pr X (.pr (.fn 1 (.pr X (.int 34))) (.int 2)))))=true)(hm:E.I F n=E.I F i+1):
    (E.B F (.fn 32 (.pr m (.pr (.fn 1 (.pr (.fn 1 (.pr X (.int 31))) i)) (.bool false))))=true->¬E.B F (.fn 110 X)=true)/\
    (¬E.B F (.fn 114 (.pr L (.fn 1 (.pr (.fn 1 (.pr X (.int 31))) i))))=true->¬E.B F (.fn 110 X)=true)/\
    (¬E.B F (.fn 32 (.pr m (.pr (.fn 1 (.pr (.fn 1 (.pr X (.int 31))) i)) (.bool false))))=true->E.B F (.fn 114 (.pr L (.fn 1 (.pr (.fn 1 (.pr X (.int 31))) i))))=true->E.B F (.fn 111 (.pr X n))=true/\
      E.B F (.fn 113 (.pr (.fn 34 (.pr m (.pr (.fn 1 (.pr (.fn 1 (.pr X (.int 31))) i)) (.bool true)))) (.pr X (.pr n (.int 0)))))=true):=by
  have hl:=aEr hL
  rw[ux]at hp
  rw[<- v6]at hi
  have hi':(E.I F i).toNat<(bv (X.den F)).length:=by omega
  have e1:(E.I F n).toNat=(E.I F i).toNat+1:=by omega
  have ha2:ed (X.den F)<=1:=by
    have:E.I F (.fn 1 (.pr X (.int 34)))=iX (X.den F) 34:=rfl
    simp_all[ed]
  have z0:(E.I F (.int 0)).toNat=0:=rfl
  rw[Kk,sW,MA,Fs,y5,tP,hl,e1,z0,<- atZ (X:=X) h0]
  exact⟨fun hv=>aCT hs hi' hv,fun ho=>aqj hi' ho,fun hv ho=>⟨apZ h hp ha2 hs hi' hv ho,asA hp ha2 hs hi' ho⟩⟩
/-- a block -/
theorem tD{nk:E}(hp:E.B F (.fn 108 X)=true)(ha:0<=E.I F (.fn 1 (.pr X (.int 34))))(ha':E.I F (.fn 1 (.pr X (.int 34)))<=1)(hs:E.B F (.fn 113 (.pr m (.pr X (.pr (.fn 0 (.fn 1 (.pr X (.int 31)))) j))))=true)(h:E.B F (.fn 111 (.pr X (.fn 0 (.fn 1 (.pr X (.int 31))))))=true)
    (hb:E.B F (.fn 112 (.pr X j))=true)(h0:0<=E.I F j)(hj:E.I F j<E.I F (.fn 9 (.pr (.fn 1 (.pr X (.int 32))) (.int 2))))(hL:E.B F (.fn 109 (.pr L (.pr X (.pr (.fn 7 (.pr (.int 1) (.fn 1 (.pr X (.int 34))))) (.int 2)))))=true)(hm:E.I F n=E.I F j+1)
    {t b:E}(et:t= .fn 1 (.pr (.fn 1 (.pr X (.int 32))) (.fn 6 (.pr (.fn 8 (.pr j (.int 2))) (.int 1)))))(eb:b= .fn 1 (.pr (.fn 1 (.pr X (.int 32))) (.fn 6 (.pr (.fn 8 (.pr j (.int 2))) (.int 0)))))
    (hk:1<=E.I F b->E.I F b<=500->E.I F nk= -(E.I F b)):
    (¬E.B F (.fn 32 (.pr m (.pr t (.bool false))))=true->¬E.B F (.fn 110 X)=true)/\
    (E.B F (.fn 32 (.pr m (.pr nk (.bool false))))=true->¬E.B F (.fn 110 X)=true)/\
    (¬E.B F (.fn 114 (.pr (.fn 1 (.pr X (.int 31))) t))=true->¬E.B F (.fn 110 X)=true)/\
    (¬E.B F (.fn 114 (.pr L b))=true->¬E.B F (.fn 110 X)=true)/\
    (E.B F (.fn 32 (.pr m (.pr t (.bool false))))=true->¬E.B F (.fn 32 (.pr m (.pr nk (.bool false))))=true->E.B F (.fn 114 (.pr (.fn 1 (.pr X (.int 31))) t))=true->E.B F (.fn 114 (.pr L b))=true->
      E.B F (.fn 112 (.pr X n))=true/\E.B F (.fn 113 (.pr (.fn 34 (.pr (.fn 34 (.pr m (.pr t (.bool false)))) (.pr nk (.bool true)))) (.pr X (.pr (.fn 0 (.fn 1 (.pr X (.int 31)))) n))))=true):=by
  subst et;subst eb;have hl:=aGo hL ha
  rw[ux]at hp
  rw[y5]at hs
  rw[Fs]at h
  rw[<- uf]at hj
  have hj':(E.I F j).toNat<fX (X.den F):=by omega
  have e1:(E.I F n).toNat=(E.I F j).toNat+1:=by omega
  have ha2:ed (X.den F)<=1:=by
    have:E.I F (.fn 1 (.pr X (.int 34)))=iX (X.den F) 34:=rfl
    simp_all[ed]
  have el:(E.I F (.fn 0 (.fn 1 (.pr X (.int 31))))).toNat=(bv (X.den F)).length:=by grind[v6]
  have ea:ay F (.fn 1 (.pr X (.int 31)))=bv _:=rfl
  rw[el]at hs h
  have b0:=pv (X:=X) h0 0;have b1:=pv (X:=X) h0 1;have c0:(Int.ofNat 0)=0:=rfl;have c1:(Int.ofNat 1)=1:=rfl
  rw[c0]at b0
  rw[c1]at b1
  rw[<- b0]at hk
  rw[Kk,Kk,sW,sW,MA,Qz,y5,tP,tP,hl,e1,el,ea,<- b0,<- b1]
  exact⟨fun hv=>auN hp ha2 h hs hj' hv,fun hv=>axk hp hs hj' hk hv,fun hv=>aDd hj' hv,fun hv=>azP hj' hv,fun hv hn h1 h2=>auq hp ha2 h hb hs hj' hv hk hn h1 h2⟩
theorem vD{b:E}(h:1<=E.I F b)(h':E.I F b<=500):E.I F (.ar .sub .i64 (.int 0) b)=-(E.I F b):=by
 have e:E.I F (.ar .sub _ (.int 0) b)=IntKind.i64.wrap (0-E.I F b):=rfl
 obtain⟨s,e,q,r⟩:=ab (0-E.I F b)
 omega
theorem azM(h:E.B F (.fn 111 (.pr X (.fn 0 (.fn 1 (.pr X (.int 31))))))=true)(hb:E.B F (.fn 112 (.pr X j))=true)(h1:E.I F (.fn 9 (.pr (.fn 1 (.pr X (.int 32))) (.int 2)))=E.I F j):E.B F (.fn 110 X)=true:=by
 have el:(E.I F (.fn 0 (.fn 1 (.pr X (.int 31))))).toNat=(bv (X.den F)).length:=by grind[v6]
 grind[Fs,Qz,uf,MA,yu]
/-! valid boards -/
theorem cx:(E.B F (.fn 115 X)=true)=(0<=E.I F (.fn 1 (.pr X (.int 34)))/\E.I F (.fn 1 (.pr X (.int 34)))<=1/\0<=E.I F (.fn 1 (.pr X (.int 33)))/\E.I F (.fn 1 (.pr X (.int 33)))<=1000/\0<=E.I F (.fn 1 (.pr X (.int 35)))/\E.I F (.fn 1 (.pr X (.int 35)))<=10/\-1<=E.I F (.fn 1 (.pr X (.int 36)))/\E.I F (.fn 1 (.pr X (.int 36)))<=1/\0<=E.I F (.fn 1 (.pr X (.int 37)))/\E.I F (.fn 1 (.pr X (.int 37)))<=2/\E.I F (.fn 9 (.pr (.fn 1 (.pr X (.int 0))) (.int 12)))<=500/\E.I F (.fn 9 (.pr (.fn 1 (.pr X (.int 29))) (.int 5)))<=200/\E.I F (.fn 9 (.pr (.fn 1 (.pr X (.int 30))) (.int 5)))<=200/\0<=E.I F (.fn 1 (.pr X (.int 1)))/\E.I F (.fn 1 (.pr X (.int 1)))<=9999/\0<=E.I F (.fn 1 (.pr X (.int 2)))/\E.I F (.fn 1 (.pr X (.int 2)))<=99/\0<=E.I F (.fn 1 (.pr X (.int 3)))/\E.I F (.fn 1 (.pr X (.int 3)))<=99/\0<=E.I F (.fn 1 (.pr X (.int 4)))/\E.I F (.fn 1 (.pr X (.int 4)))<=99/\0<=E.I F (.fn 1 (.pr X (.int 5)))/\E.I F (.fn 1 (.pr X (.int 5)))<=99/\0<=E.I F (.fn 1 (.pr X (.int 13)))/\E.I F (.fn 1 (.pr X (.int 13)))<=7/\0<=E.I F (.fn 1 (.pr X (.int 14)))/\E.I F (.fn 1 (.pr X (.int 14)))<=255/\0<=E.I F (.fn 1 (.pr X (.int 15)))/\E.I F (.fn 1 (.pr X (.int 15)))<=9999/\0<=E.I F (.fn 1 (.pr X (.int 16)))/\E.I F (.fn 1 (.pr X (.int 16)))<=99/\0<=E.I F (.fn 1 (.pr X (.int 17)))/\E.I F (.fn 1 (.pr X (.int 17)))<=99/\0<=E.I F (.fn 1 (.pr X (.int 18)))/\E.I F (.fn 1 (.pr X (.int 18)))<=99/\0<=E.I F (.fn 1 (.pr X (.int 19)))/\E.I F (.fn 1 (.pr X (.int 19)))<=99/\0<=E.I F (.fn 1 (.pr X (.int 27)))/\E.I F (.fn 1 (.pr X (.int 27)))<=7/\0<=E.I F (.fn 1 (.pr X (.int 28)))/\E.I F (.fn 1 (.pr X (.int 28)))<=255/\E.B F (.fn 103 (.pr (.fn 1 (.pr X (.int 29))) (.pr (.bool false) (.fn 9 (.pr (.fn 1 (.pr X (.int 29))) (.int 5))))))=true/\E.B F (.fn 103 (.pr (.fn 1 (.pr X (.int 30))) (.pr (.bool true) (.fn 9 (.pr (.fn 1 (.pr X (.int 30))) (.int 5))))))=true/\E.B F (.fn 108 X)=true/\E.B F (.fn 110 X)=true):=by
 show(rY _=true)=_
 have e34:E.I F (.fn 1 (.pr X (.int 34)))=iX (X.den F) 34:=rfl;have e33:E.I F (.fn 1 (.pr X (.int 33)))=iX (X.den F) 33:=rfl;have e35:E.I F (.fn 1 (.pr X (.int 35)))=iX (X.den F) 35:=rfl;have e36:E.I F (.fn 1 (.pr X (.int 36)))=iX (X.den F) 36:=rfl;have e37:E.I F (.fn 1 (.pr X (.int 37)))=iX (X.den F) 37:=rfl;have e1:E.I F (.fn 1 (.pr X (.int 1)))=iX (X.den F) 1:=rfl;have e2:E.I F (.fn 1 (.pr X (.int 2)))=iX (X.den F) 2:=rfl;have e3:E.I F (.fn 1 (.pr X (.int 3)))=iX (X.den F) 3:=rfl;have e4:E.I F (.fn 1 (.pr X (.int 4)))=iX (X.den F) 4:=rfl;have e5:E.I F (.fn 1 (.pr X (.int 5)))=iX (X.den F) 5:=rfl;have e13:E.I F (.fn 1 (.pr X (.int 13)))=iX (X.den F) 13:=rfl;have e14:E.I F (.fn 1 (.pr X (.int 14)))=iX (X.den F) 14:=rfl;have e15:E.I F (.fn 1 (.pr X (.int 15)))=iX (X.den F) 15:=rfl;have e16:E.I F (.fn 1 (.pr X (.int 16)))=iX (X.den F) 16:=rfl;have e17:E.I F (.fn 1 (.pr X (.int 17)))=iX (X.den F) 17:=rfl;have e18:E.I F (.fn 1 (.pr X (.int 18)))=iX (X.den F) 18:=rfl;have e19:E.I F (.fn 1 (.pr X (.int 19)))=iX (X.den F) 19:=rfl;have e27:E.I F (.fn 1 (.pr X (.int 27)))=iX (X.den F) 27:=rfl;have e28:E.I F (.fn 1 (.pr X (.int 28)))=iX (X.den F) 28:=rfl;have q0:E.I F (.fn 9 (.pr (.fn 1 (.pr X (.int 0))) (.int 12)))=aN (X.den F):=rfl;have q29:E.I F (.fn 9 (.pr (.fn 1 (.pr X (.int 29))) (.int 5)))=cD (X.den F):=rfl;have q30:E.I F (.fn 9 (.pr (.fn 1 (.pr X (.int 30))) (.int 5)))=((cX (X.den F) 30).toL.length/5:Nat):=rfl;have l29:E.L F (.fn 1 (.pr X (.int 29)))=(cX (X.den F) 29).toL:=rfl;have l30:E.L F (.fn 1 (.pr X (.int 30)))=(cX (X.den F) 30).toL:=rfl;have bt:E.B F (.bool _)=true:=rfl;have bf:E.B F (.bool _)=false:=rfl;have za:(E.B F (.fn 108 X)=true)=(dJ _=true):=rfl;have zb:(E.B F (.fn 110 X)=true)=(jy _=true):=rfl
 rw[za,zb,qI,qI,l29,l30,bt,bf,q29,q30,q0,e34,e33,e35,e36,e37,e1,e2,e3,e4,e5,e13,e14,e15,e16,e17,e18,e19,e27,e28,Int.toNat_natCast,Int.toNat_natCast]
 unfold rY sM ja rr;simp only[Bool.and_eq_true,hE,List.all_cons];grind
theorem cw:(E.B F (.fn 130 X)=true)=(0<=E.I F (.fn 1 (.pr X (.int 34)))/\E.I F (.fn 1 (.pr X (.int 34)))<=1/\0<=E.I F (.fn 1 (.pr X (.int 33)))/\E.I F (.fn 1 (.pr X (.int 33)))<=1000/\0<=E.I F (.fn 1 (.pr X (.int 35)))/\E.I F (.fn 1 (.pr X (.int 35)))<=10/\-1<=E.I F (.fn 1 (.pr X (.int 36)))/\E.I F (.fn 1 (.pr X (.int 36)))<=1/\0<=E.I F (.fn 1 (.pr X (.int 37)))/\E.I F (.fn 1 (.pr X (.int 37)))<=2/\E.I F (.fn 9 (.pr (.fn 1 (.pr X (.int 0))) (.int 12)))<=500/\E.I F (.fn 9 (.pr (.fn 1 (.pr X (.int 29))) (.int 5)))<=200/\E.I F (.fn 9 (.pr (.fn 1 (.pr X (.int 30))) (.int 5)))<=200/\0<=E.I F (.fn 1 (.pr X (.int 1)))/\E.I F (.fn 1 (.pr X (.int 1)))<=9999/\0<=E.I F (.fn 1 (.pr X (.int 2)))/\E.I F (.fn 1 (.pr X (.int 2)))<=99/\0<=E.I F (.fn 1 (.pr X (.int 3)))/\E.I F (.fn 1 (.pr X (.int 3)))<=99/\0<=E.I F (.fn 1 (.pr X (.int 4)))/\E.I F (.fn 1 (.pr X (.int 4)))<=99/\0<=E.I F (.fn 1 (.pr X (.int 5)))/\E.I F (.fn 1 (.pr X (.int 5)))<=99/\0<=E.I F (.fn 1 (.pr X (.int 13)))/\E.I F (.fn 1 (.pr X (.int 13)))<=7/\0<=E.I F (.fn 1 (.pr X (.int 14)))/\E.I F (.fn 1 (.pr X (.int 14)))<=255/\0<=E.I F (.fn 1 (.pr X (.int 15)))/\E.I F (.fn 1 (.pr X (.int 15)))<=9999/\0<=E.I F (.fn 1 (.pr X (.int 16)))/\E.I F (.fn 1 (.pr X (.int 16)))<=99/\0<=E.I F (.fn 1 (.pr X (.int 17)))/\E.I F (.fn 1 (.pr X (.int 17)))<=99/\0<=E.I F (.fn 1 (.pr X (.int 18)))/\E.I F (.fn 1 (.pr X (.int 18)))<=99/\0<=E.I F (.fn 1 (.pr X (.int 19)))/\E.I F (.fn 1 (.pr X (.int 19)))<=99/\0<=E.I F (.fn 1 (.pr X (.int 27)))/\E.I F (.fn 1 (.pr X (.int 27)))<=7/\0<=E.I F (.fn 1 (.pr X (.int 28)))/\E.I F (.fn 1 (.pr X (.int 28)))<=255/\E.B F (.fn 103 (.pr (.fn 1 (.pr X (.int 29))) (.pr (.bool false) (.fn 9 (.pr (.fn 1 (.pr X (.int 29))) (.int 5))))))=true/\E.B F (.fn 103 (.pr (.fn 1 (.pr X (.int 30))) (.pr (.bool true) (.fn 9 (.pr (.fn 1 (.pr X (.int 30))) (.int 5))))))=true/\E.B F (.fn 125 X)=true/\E.B F (.fn 129 X)=true):=by
 show(jf _=true)=_
 have e34:E.I F (.fn 1 (.pr X (.int 34)))=iX (X.den F) 34:=rfl;have e33:E.I F (.fn 1 (.pr X (.int 33)))=iX (X.den F) 33:=rfl;have e35:E.I F (.fn 1 (.pr X (.int 35)))=iX (X.den F) 35:=rfl;have e36:E.I F (.fn 1 (.pr X (.int 36)))=iX (X.den F) 36:=rfl;have e37:E.I F (.fn 1 (.pr X (.int 37)))=iX (X.den F) 37:=rfl;have e1:E.I F (.fn 1 (.pr X (.int 1)))=iX (X.den F) 1:=rfl;have e2:E.I F (.fn 1 (.pr X (.int 2)))=iX (X.den F) 2:=rfl;have e3:E.I F (.fn 1 (.pr X (.int 3)))=iX (X.den F) 3:=rfl;have e4:E.I F (.fn 1 (.pr X (.int 4)))=iX (X.den F) 4:=rfl;have e5:E.I F (.fn 1 (.pr X (.int 5)))=iX (X.den F) 5:=rfl;have e13:E.I F (.fn 1 (.pr X (.int 13)))=iX (X.den F) 13:=rfl;have e14:E.I F (.fn 1 (.pr X (.int 14)))=iX (X.den F) 14:=rfl;have e15:E.I F (.fn 1 (.pr X (.int 15)))=iX (X.den F) 15:=rfl;have e16:E.I F (.fn 1 (.pr X (.int 16)))=iX (X.den F) 16:=rfl;have e17:E.I F (.fn 1 (.pr X (.int 17)))=iX (X.den F) 17:=rfl;have e18:E.I F (.fn 1 (.pr X (.int 18)))=iX (X.den F) 18:=rfl;have e19:E.I F (.fn 1 (.pr X (.int 19)))=iX (X.den F) 19:=rfl;have e27:E.I F (.fn 1 (.pr X (.int 27)))=iX (X.den F) 27:=rfl;have e28:E.I F (.fn 1 (.pr X (.int 28)))=iX (X.den F) 28:=rfl;have q0:E.I F (.fn 9 (.pr (.fn 1 (.pr X (.int 0))) (.int 12)))=aN (X.den F):=rfl;have q29:E.I F (.fn 9 (.pr (.fn 1 (.pr X (.int 29))) (.int 5)))=cD (X.den F):=rfl;have q30:E.I F (.fn 9 (.pr (.fn 1 (.pr X (.int 30))) (.int 5)))=((cX (X.den F) 30).toL.length/5:Nat):=rfl;have l29:E.L F (.fn 1 (.pr X (.int 29)))=(cX (X.den F) 29).toL:=rfl;have l30:E.L F (.fn 1 (.pr X (.int 30)))=(cX (X.den F) 30).toL:=rfl;have bt:E.B F (.bool _)=true:=rfl;have bf:E.B F (.bool _)=false:=rfl;have za:(E.B F (.fn 125 X)=true)=(mV _=true):=rfl;have zb:(E.B F (.fn 129 X)=true)=(mz _=true):=rfl
 rw[za,zb,qI,qI,l29,l30,bt,bf,q29,q30,q0,e34,e33,e35,e36,e37,e1,e2,e3,e4,e5,e13,e14,e15,e16,e17,e18,e19,e27,e28,Int.toNat_natCast,Int.toNat_natCast]
 unfold jf sM ja rr;simp only[Bool.and_eq_true,hE,List.all_cons];grind
end
end Go.SX

set_option linter.unusedVariables false
set_option linter.unusedSimpArgs false
namespace Go.SX
/-! ### all objects in just one place: the program's way -/
theorem aKC:io [] []=true:=rfl
theorem Pn(X:U)(s:Nat):jv X (s+1)=jv X s++if nI (cX X 29).toL (s*5+3)<0 then [(nI (cX X 29).toL (s*5+1),nI (cX X 29).toL (s*5))] else []:=by
 grind[jv,CE]
theorem aGJ(X:U)(s:Nat):iW X (s+1)=iW X s++if nI (cX X 29).toL (s*5+3)<0 then [(nI (cX X 29).toL (s*5+1),nI (cX X 29).toL (s*5+2))] else []:=by
 grind[iW,CE]
theorem MY(X:U)(s:Nat):(iW X s).map Prod.fst=(jv X s).map Prod.fst:=by
 simp_all[iW,jv]
theorem anO(X:U):jv X 0=[]:=by rfl
theorem Eo{m:List U}{l:List (Int×Int)}(h:io m l=true)(k:Int):(dg k m).isSome=true↔k∈l.map Prod.fst:=by
 simp_all[zl,I4]
section
variable {F:Env} {x y l A a b k u i j p q n m r o c d w v X T N L L2 mc s p' q' i':E}
theorem wN:E.B F (.fn 33 (.pr m k))=(dg (E.I F k) (E.L F m)).isSome:=rfl
theorem Dj:(E.B F (.fn 104 (.pr m (.pr X (.pr p (.pr q i)))))=true)=(io (E.L F m) (fQ (X.den F) ((E.I F p).toNat*4+(E.I F q).toNat) (E.I F i).toNat)=true):=rfl
theorem vK:(E.B F (.fn 105 (.pr m (.pr X s)))=true)=(io (E.L F m) (fQ (X.den F) 8 0++jv (X.den F) (E.I F s).toNat)=true):=rfl
theorem xN:(E.B F (.fn 106 (.pr m (.pr X s)))=true)=(io (E.L F m) (iW (X.den F) (E.I F s).toNat)=true):=rfl
theorem Oc:(E.B F (.fn 107 (.pr X n))=true)=(vI (X.den F) (E.I F n).toNat=true):=rfl
theorem WG(h:E.B F (.fn 104 (.pr m (.pr X (.pr p (.pr q i)))))=true)(h1:0<=E.I F p)(h2:0<=E.I F q)(h3:0<=E.I F p')(h4:0<=E.I F q')(hk:E.I F p'*4+E.I F q'=E.I F p*4+E.I F q)(hi:E.I F i'=E.I F i):
  E.B F (.fn 104 (.pr m (.pr X (.pr p' (.pr q' i')))))=true:=by
 grind[Dj]
theorem akT(h:E.B F (.fn 104 (.pr m (.pr X (.pr p (.pr q i)))))=true)(hL:E.B F (.fn 109 (.pr L (.pr X (.pr p q))))=true)(h2:0<=E.I F q)(hi:E.I F i=E.I F (.fn 0 L))(hq:E.I F q'=E.I F q+1)(hz:E.I F i'=0):
  E.B F (.fn 104 (.pr m (.pr X (.pr p (.pr q' i')))))=true:=by
 grind[Dj,s8,br,aAj]
theorem Fk(h:E.B F (.fn 104 (.pr m (.pr X (.pr p (.pr q i)))))=true)(hL:E.B F (.fn 109 (.pr L (.pr X (.pr p q))))=true)(h0:0<=E.I F p)(h1:0<=E.I F q)(h2:E.I F q<4)(hi:0<=E.I F i)(hi':E.I F i<E.I F (.fn 0 L))(hn:E.I F n=E.I F i+1)(hp:E.I F p<=1):
  (¬E.B F (.fn 33 (.pr m (.fn 1 (.pr L i))))=true->E.B F (.fn 104 (.pr (.fn 34 (.pr m (.pr (.fn 1 (.pr L i)) p))) (.pr X (.pr p (.pr q n)))))=true)/\
  (E.B F (.fn 33 (.pr m (.fn 1 (.pr L i))))=true->¬E.B F (.fn 108 X)=true):=by
 rw[Dj]at *
 rw[s8]at hL
 have ei:(E.I F n).toNat=(E.I F i).toNat+1:=by omega
 have hlt:(E.I F i).toNat<(bn (X.den F) ((E.I F p).toNat*4+(E.I F q).toNat)).length:=by grind[br]
 have ek:((E.I F p).toNat*4+(E.I F q).toNat)/4=(E.I F p).toNat:=by omega
 have hs:=aym _ _ _ hlt
 rw[ek,<- hL,<- fE,Int.toNat_of_nonneg h0]at hs
 refine⟨fun hn'=>?_,fun ht=>?_⟩
 ·rw[ei,tP,hs]
  exact Hu h hn'
 ·rw[wN,Eo h]at ht
  rw[ux]
  refine adw (k:=E.I F _) (v:=E.I F p) ?_ ht
  have:=Es (X.den F) ((E.I F p).toNat*4+(E.I F q).toNat) ((E.I F i).toNat+1) (by omega)
  simp_all
theorem azA(h:E.B F (.fn 104 (.pr m (.pr X (.pr p (.pr q i)))))=true)(h1:E.I F p=2)(h2:E.I F q=0)(h3:E.I F i=0)(hs:E.I F s=0):E.B F (.fn 105 (.pr m (.pr X s)))=true:=by
 rw[Dj,h1,h2,h3]at h
 rw[vK,hs]
 have e:(0:Int).toNat=0:=rfl
 rw[e,anO,List.append_nil];exact h
theorem axK(h:E.B F (.fn 105 (.pr m (.pr X s)))=true)(e:E.I F n=E.I F s):E.B F (.fn 105 (.pr m (.pr X n)))=true:=by
 simp_all[vK]
theorem ayc(h:E.B F (.fn 106 (.pr m (.pr X s)))=true)(e:E.I F n=E.I F s):E.B F (.fn 106 (.pr m (.pr X n)))=true:=by
 simp_all[xN]
theorem lS(h0:0<=E.I F s)(c:Nat):nI (cX (X.den F) 29).toL ((E.I F s).toNat*5+c)=E.I F (.fn 1 (.pr (.fn 1 (.pr X (.int 29))) (.fn 6 (.pr (.fn 8 (.pr s (.int 5))) (.int (Int.ofNat c)))))):=
 (mh (T:=.fn 1 (.pr X (.int 29))) s 5 c h0).symm
theorem xj(h:E.B F (.fn 105 (.pr m (.pr X s)))=true)(h':E.B F (.fn 106 (.pr mc (.pr X s)))=true)(h0:0<=E.I F s)(h1:E.I F s<E.I F (.fn 9 (.pr (.fn 1 (.pr X (.int 29))) (.int 5))))(hn:E.I F n=E.I F s+1)
  {pl id cd tr:E}(e0:pl=.fn 1 (.pr (.fn 1 (.pr X (.int 29))) (.fn 6 (.pr (.fn 8 (.pr s (.int 5))) (.int 0)))))(e1:id=.fn 1 (.pr (.fn 1 (.pr X (.int 29))) (.fn 6 (.pr (.fn 8 (.pr s (.int 5))) (.int 1)))))
  (e2:cd=.fn 1 (.pr (.fn 1 (.pr X (.int 29))) (.fn 6 (.pr (.fn 8 (.pr s (.int 5))) (.int 2)))))(e3:tr=.fn 1 (.pr (.fn 1 (.pr X (.int 29))) (.fn 6 (.pr (.fn 8 (.pr s (.int 5))) (.int 3))))):
  (¬E.I F tr<0->E.B F (.fn 105 (.pr m (.pr X n)))=true/\E.B F (.fn 106 (.pr mc (.pr X n)))=true)/\
  (E.I F tr<0->E.B F (.fn 33 (.pr m id))=true->¬E.B F (.fn 108 X)=true)/\
  (E.I F tr<0->¬E.B F (.fn 33 (.pr m id))=true->E.B F (.fn 105 (.pr (.fn 34 (.pr m (.pr id pl))) (.pr X n)))=true/\E.B F (.fn 106 (.pr (.fn 34 (.pr mc (.pr id cd))) (.pr X n)))=true):=by
 subst e0;subst e1;subst e2;subst e3
 rw[vK]at h
 rw[xN]at h'
 have hs:(E.I F s).toNat<cD (X.den F):=by
  have:E.I F (.fn 9 (.pr (.fn 1 (.pr X (.int 29))) (.int 5)))=cD (X.den F):=rfl
  omega
 have en:(E.I F n).toNat=(E.I F s).toNat+1:=by omega
 have c0:=lS (X:=X) h0 0;have c1:=lS (X:=X) h0 1;have c2:=lS (X:=X) h0 2;have c3:=lS (X:=X) h0 3;simp only[Nat.add_zero]at c0;have k3:(Int.ofNat 3)=3:=rfl
 rw[k3]at c3
 have sp:=Pn (X.den F) (E.I F s).toNat;have sc:=aGJ (X.den F) (E.I F s).toNat
 rw[c0,c1,c3]at sp
 rw[c1,c2,c3]at sc
 refine⟨fun ht=>?_,fun ht hb=>?_,fun ht hb=>?_⟩
 ·simp_all[vK,xN]
 ·rw[wN,Eo h]at hb
  rw[ux]
  refine adw (k:=E.I F _) (v:=E.I F (.fn 1 (.pr (.fn 1 (.pr X (.int 29))) (.fn 6 (.pr (.fn 8 (.pr s (.int 5))) (.int 0)))))) ?_ hb;grind[aww]
 ·rw[if_pos ht]at sp sc
  rw[wN]at hb
  rw[vK,xN,en,sp,sc,tP,tP,<- List.append_assoc]
  refine⟨Hu h hb,Hu h' ?_⟩
  rw[Eo h,List.map_append,List.mem_append]at hb
  grind[Eo,MY]
theorem gv(h0:0<=E.I F i)(c:Nat):oI (X.den F) (E.I F i).toNat c=E.I F (.fn 1 (.pr (.fn 1 (.pr X (.int 0))) (.fn 6 (.pr (.fn 8 (.pr i (.int 12))) (.int (Int.ofNat c)))))):=
 (mh (T:=.fn 1 (.pr X (.int 0))) i 12 c h0).symm
theorem Yu{l:List (Int×Int)}(h:io (E.L F m) l=true)(hb:E.B F (.fn 33 (.pr m k))=true):gi l (E.I F k)=some (E.I F (.fn 32 (.pr m (.pr k (.int 0))))):=by
 rw[zl]at h
 rw[wN]at hb
 rw[<- h.1,<- B4]
 have e:E.I F (.fn 32 (.pr m (.pr k (.int 0))))=((dg (E.I F k) (E.L F m)).getD _).toI:=rfl
 rw[e]
 cases hc:dg _ _ with
 |none=>simp_all
 |some v=>rfl
theorem Uo{l:List (Int×Int)}(h:io (E.L F m) l=true)(hb:¬E.B F (.fn 33 (.pr m k))=true):gi l (E.I F k)=none:=by
 rw[zl]at h
 rw[wN]at hb
 rw[<- h.1,<- B4]
 simp_all
theorem wJ{Y:U}(h:dJ Y=true):vI Y (aN Y)=true:=by
 simp_all[dJ]
/-- an object -/
theorem aDa(hm:E.B F (.fn 105 (.pr m (.pr X (.fn 9 (.pr (.fn 1 (.pr X (.int 29))) (.int 5))))))=true)(hc:E.B F (.fn 106 (.pr mc (.pr X (.fn 9 (.pr (.fn 1 (.pr X (.int 29))) (.int 5))))))=true)(h:E.B F (.fn 107 (.pr X i))=true)
    (h0:0<=E.I F i)(hi:E.I F i<E.I F (.fn 9 (.pr (.fn 1 (.pr X (.int 0))) (.int 12))))(hn:E.I F n=E.I F i+1){t:E}(ht:0<E.I F i->E.I F t=E.I F i-1){C:Prop}{f:Nat->E}(hf:f=fun j=> .fn 1 (.pr (.fn 1 (.pr X (.int 0))) (.fn 6 (.pr (.fn 8 (.pr i (.int 12))) (.int (Int.ofNat j))))))
    (hC:C↔(1<=E.I F (f 0)/\E.I F (f 0)<=500/\ -1<=E.I F (f 1)/\E.I F (f 1)<=399/\0<=E.I F (f 2)/\E.I F (f 2)<=1/\(E.I F (f 1)= -1\/(E.I F (f 3)=0/\E.I F (f 4)=0))/\
      0<=E.I F (f 3)/\E.I F (f 3)<=99/\0<=E.I F (f 4)/\E.I F (f 4)<=99/\0<=E.I F (f 5)/\E.I F (f 5)<=99/\0<=E.I F (f 6)/\E.I F (f 6)<=99/\0<=E.I F (f 7)/\E.I F (f 7)<=99/\0<=E.I F (f 8)/\E.I F (f 8)<=99)/\
      (E.I F i=0\/E.I F (.fn 1 (.pr (.fn 1 (.pr X (.int 0))) (.fn 6 (.pr (.fn 8 (.pr t (.int 12))) (.int 0)))))<E.I F (f 0))/\
      (E.B F (.fn 33 (.pr m (f 0)))=true/\E.I F (.fn 32 (.pr m (.pr (f 0) (.int 0))))=E.I F (f 2))/\(E.B F (.fn 33 (.pr mc (f 0)))=true->E.I F (.fn 32 (.pr mc (.pr (f 0) (.int 0))))=E.I F (f 1))):
    (C->E.B F (.fn 107 (.pr X n))=true)/\(¬C->¬E.B F (.fn 108 X)=true):=by
  rw[vK]at hm
  rw[xN]at hc
  have es:(E.I F (.fn 9 (.pr (.fn 1 (.pr X (.int 29))) (.int 5)))).toNat=cD (X.den F):=rfl
  rw[es]at hm hc
  have hall:io (E.L F m) (dy (X.den F))=true:=hm;have hi':(E.I F i).toNat<aN (X.den F):=by
    have:E.I F (.fn 9 (.pr (.fn 1 (.pr X (.int 0))) (.int 12)))=((aN (X.den F):Nat):Int):=rfl
    omega
  have fc:∀j,E.I F (f j)=oI (X.den F) (E.I F i).toNat j:=by
    simp_all[gv]
  have hprev:(E.I F i=0\/E.I F (.fn 1 (.pr (.fn 1 (.pr X (.int 0))) (.fn 6 (.pr (.fn 8 (.pr t (.int 12))) (.int 0)))))<E.I F (f 0))↔((E.I F i).toNat=0\/oI (X.den F) ((E.I F i).toNat-1) 0<oI (X.den F) (E.I F i).toNat 0):=by
    by_cases hz:E.I F i=0
    · omega
    · have ht':=ht (by omega);have e:=gv (X:=X) (i:=t) (F:=F) (by omega) 0;grind
  have hown:(E.B F (.fn 33 (.pr m (f 0)))=true/\E.I F (.fn 32 (.pr m (.pr (f 0) (.int 0))))=E.I F (f 2))↔gi (dy (X.den F)) (oI (X.den F) (E.I F i).toNat 0)=some (oI (X.den F) (E.I F i).toNat 2):=by
    grind[E.B,Yu,Uo]
  have hcard:(E.B F (.fn 33 (.pr mc (f 0)))=true->E.I F (.fn 32 (.pr mc (.pr (f 0) (.int 0))))=E.I F (f 1))↔(∀c,gi (iW (X.den F) (cD (X.den F))) (oI (X.den F) (E.I F i).toNat 0)=some c->c=oI (X.den F) (E.I F i).toNat 1):=by
    grind[E.B,Yu,Uo]
  have key:C↔(mN (X.den F) (E.I F i).toNat=true/\((E.I F i).toNat=0\/oI (X.den F) ((E.I F i).toNat-1) 0<oI (X.den F) (E.I F i).toNat 0)/\gi (dy (X.den F)) (oI (X.den F) (E.I F i).toNat 0)=some (oI (X.den F) (E.I F i).toNat 2)/\(∀c,gi (iW (X.den F) (cD (X.den F))) (oI (X.den F) (E.I F i).toNat 0)=some c->c=oI (X.den F) (E.I F i).toNat 1)):=by
    grind[rE]
  rw[Oc,mm]at h
  refine⟨fun hc'=>?_,fun hc' hp=>?_⟩
  · rw[Oc,mm]
    intro k hk;by_cases e:k=(E.I F i).toNat
    · grind
    · exact h k (by omega)
  grind[ux,mm,wJ]
theorem aHq(hm:E.B F (.fn 105 (.pr m (.pr X (.fn 9 (.pr (.fn 1 (.pr X (.int 29))) (.int 5))))))=true)(hc:E.B F (.fn 106 (.pr mc (.pr X (.fn 9 (.pr (.fn 1 (.pr X (.int 29))) (.int 5))))))=true)(h:E.B F (.fn 107 (.pr X i))=true)
  {t a0 a1 a2 a3 a4 a5 a6 a7 a8:E}(e0:a0=.fn 1 (.pr (.fn 1 (.pr X (.int 0))) (.fn 6 (.pr (.fn 8 (.pr i (.int 12))) (.int 0)))))(e1:a1=.fn 1 (.pr (.fn 1 (.pr X (.int 0))) (.fn 6 (.pr (.fn 8 (.pr i (.int 12))) (.int 1)))))(e2:a2=.fn 1 (.pr (.fn 1 (.pr X (.int 0))) (.fn 6 (.pr (.fn 8 (.pr i (.int 12))) (.int 2)))))(e3:a3=.fn 1 (.pr (.fn 1 (.pr X (.int 0))) (.fn 6 (.pr (.fn 8 (.pr i (.int 12))) (.int 3)))))(e4:a4=.fn 1 (.pr (.fn 1 (.pr X (.int 0))) (.fn 6 (.pr (.fn 8 (.pr i (.int 12))) (.int 4)))))(e5:a5=.fn 1 (.pr (.fn 1 (.pr X (.int 0))) (.fn 6 (.pr (.fn 8 (.pr i (.int 12))) (.int 5)))))(e6:a6=.fn 1 (.pr (.fn 1 (.pr X (.int 0))) (.fn 6 (.pr (.fn 8 (.pr i (.int 12))) (.int 6)))))(e7:a7=.fn 1 (.pr (.fn 1 (.pr X (.int 0))) (.fn 6 (.pr (.fn 8 (.pr i (.int 12))) (.int 7)))))(e8:a8=.fn 1 (.pr (.fn 1 (.pr X (.int 0))) (.fn 6 (.pr (.fn 8 (.pr i (.int 12))) (.int 8)))))
  (h0:0<=E.I F i)(hi:E.I F i<E.I F (.fn 9 (.pr (.fn 1 (.pr X (.int 0))) (.int 12))))(hn:E.I F n=E.I F i+1)(ht:0<E.I F i->E.I F t=E.I F i-1):
  (((1<=E.I F a0/\E.I F a0<=500/\-1<=E.I F a1/\E.I F a1<=399/\0<=E.I F a2/\E.I F a2<=1/\(E.I F a1=-1\/(E.I F a3=0/\E.I F a4=0))/\0<=E.I F a3/\E.I F a3<=99/\0<=E.I F a4/\E.I F a4<=99/\0<=E.I F a5/\E.I F a5<=99/\0<=E.I F a6/\E.I F a6<=99/\0<=E.I F a7/\E.I F a7<=99/\0<=E.I F a8/\E.I F a8<=99)/\(E.I F i=0\/E.I F (.fn 1 (.pr (.fn 1 (.pr X (.int 0))) (.fn 6 (.pr (.fn 8 (.pr t (.int 12))) (.int 0)))))<E.I F a0)/\(E.B F (.fn 33 (.pr m a0))=true/\E.I F (.fn 32 (.pr m (.pr a0 (.int 0))))=E.I F a2)/\(E.B F (.fn 33 (.pr mc a0))=true->E.I F (.fn 32 (.pr mc (.pr a0 (.int 0))))=E.I F a1))->E.B F (.fn 107 (.pr X n))=true)/\(¬((1<=E.I F a0/\E.I F a0<=500/\-1<=E.I F a1/\E.I F a1<=399/\0<=E.I F a2/\E.I F a2<=1/\(E.I F a1=-1\/(E.I F a3=0/\E.I F a4=0))/\0<=E.I F a3/\E.I F a3<=99/\0<=E.I F a4/\E.I F a4<=99/\0<=E.I F a5/\E.I F a5<=99/\0<=E.I F a6/\E.I F a6<=99/\0<=E.I F a7/\E.I F a7<=99/\0<=E.I F a8/\E.I F a8<=99)/\(E.I F i=0\/E.I F (.fn 1 (.pr (.fn 1 (.pr X (.int 0))) (.fn 6 (.pr (.fn 8 (.pr t (.int 12))) (.int 0)))))<E.I F a0)/\(E.B F (.fn 33 (.pr m a0))=true/\E.I F (.fn 32 (.pr m (.pr a0 (.int 0))))=E.I F a2)/\(E.B F (.fn 33 (.pr mc a0))=true->E.I F (.fn 32 (.pr mc (.pr a0 (.int 0))))=E.I F a1))->¬E.B F (.fn 108 X)=true):=by
 subst e0;subst e1;subst e2;subst e3;subst e4;subst e5;subst e6;subst e7;subst e8;exact aDa hm hc h h0 hi hn ht (f:=fun j=>.fn 1 _) rfl Iff.rfl
theorem cI{a0 a1 a2 a3 a4 a5 a6 a7 a8:E}:(E.B F (.fn 137 (.pr a0 (.pr a1 (.pr a2 (.pr a3 (.pr a4 (.pr a5 (.pr a6 (.pr a7 a8)))))))))=true)=(1<=E.I F a0/\E.I F a0<=500/\-1<=E.I F a1/\E.I F a1<=399/\0<=E.I F a2/\E.I F a2<=1/\(E.I F a1=-1\/(E.I F a3=0/\E.I F a4=0))/\0<=E.I F a3/\E.I F a3<=99/\0<=E.I F a4/\E.I F a4<=99/\0<=E.I F a5/\E.I F a5<=99/\0<=E.I F a6/\E.I F a6<=99/\0<=E.I F a7/\E.I F a7<=99/\0<=E.I F a8/\E.I F a8<=99):=by
 show(LB (E.I F a0) (E.I F a1) (E.I F a2) (E.I F a3) (E.I F a4) (E.I F a5) (E.I F a6) (E.I F a7) (E.I F a8)=true)=_
 unfold LB;simp only[List.all_cons,List.all_nil,Bool.and_eq_true,Bool.or_eq_true,hE,beq_iff_eq,and_assoc,and_true]
theorem kW(hm:E.B F (.fn 105 (.pr m (.pr X (.fn 9 (.pr (.fn 1 (.pr X (.int 29))) (.int 5))))))=true)(hc:E.B F (.fn 106 (.pr mc (.pr X (.fn 9 (.pr (.fn 1 (.pr X (.int 29))) (.int 5))))))=true)(h:E.B F (.fn 107 (.pr X i))=true)
  {t a0 a1 a2 a3 a4 a5 a6 a7 a8:E}(e0:a0=.fn 1 (.pr (.fn 1 (.pr X (.int 0))) (.fn 6 (.pr (.fn 8 (.pr i (.int 12))) (.int 0)))))(e1:a1=.fn 1 (.pr (.fn 1 (.pr X (.int 0))) (.fn 6 (.pr (.fn 8 (.pr i (.int 12))) (.int 1)))))(e2:a2=.fn 1 (.pr (.fn 1 (.pr X (.int 0))) (.fn 6 (.pr (.fn 8 (.pr i (.int 12))) (.int 2)))))(e3:a3=.fn 1 (.pr (.fn 1 (.pr X (.int 0))) (.fn 6 (.pr (.fn 8 (.pr i (.int 12))) (.int 3)))))(e4:a4=.fn 1 (.pr (.fn 1 (.pr X (.int 0))) (.fn 6 (.pr (.fn 8 (.pr i (.int 12))) (.int 4)))))(e5:a5=.fn 1 (.pr (.fn 1 (.pr X (.int 0))) (.fn 6 (.pr (.fn 8 (.pr i (.int 12))) (.int 5)))))(e6:a6=.fn 1 (.pr (.fn 1 (.pr X (.int 0))) (.fn 6 (.pr (.fn 8 (.pr i (.int 12))) (.int 6)))))(e7:a7=.fn 1 (.pr (.fn 1 (.pr X (.int 0))) (.fn 6 (.pr (.fn 8 (.pr i (.int 12))) (.int 7)))))(e8:a8=.fn 1 (.pr (.fn 1 (.pr X (.int 0))) (.fn 6 (.pr (.fn 8 (.pr i (.int 12))) (.int 8)))))
  (h0:0<=E.I F i)(hi:E.I F i<E.I F (.fn 9 (.pr (.fn 1 (.pr X (.int 0))) (.int 12))))(hn:E.I F n=E.I F i+1)(ht:0<E.I F i->E.I F t=E.I F i-1):
  (((E.B F (.fn 137 (.pr a0 (.pr a1 (.pr a2 (.pr a3 (.pr a4 (.pr a5 (.pr a6 (.pr a7 a8)))))))))=true)/\(E.I F i=0\/E.I F (.fn 1 (.pr (.fn 1 (.pr X (.int 0))) (.fn 6 (.pr (.fn 8 (.pr t (.int 12))) (.int 0)))))<E.I F a0)/\(E.B F (.fn 33 (.pr m a0))=true/\E.I F (.fn 32 (.pr m (.pr a0 (.int 0))))=E.I F a2)/\(E.B F (.fn 33 (.pr mc a0))=true->E.I F (.fn 32 (.pr mc (.pr a0 (.int 0))))=E.I F a1))->E.B F (.fn 107 (.pr X n))=true)/\(¬((E.B F (.fn 137 (.pr a0 (.pr a1 (.pr a2 (.pr a3 (.pr a4 (.pr a5 (.pr a6 (.pr a7 a8)))))))))=true)/\(E.I F i=0\/E.I F (.fn 1 (.pr (.fn 1 (.pr X (.int 0))) (.fn 6 (.pr (.fn 8 (.pr t (.int 12))) (.int 0)))))<E.I F a0)/\(E.B F (.fn 33 (.pr m a0))=true/\E.I F (.fn 32 (.pr m (.pr a0 (.int 0))))=E.I F a2)/\(E.B F (.fn 33 (.pr mc a0))=true->E.I F (.fn 32 (.pr mc (.pr a0 (.int 0))))=E.I F a1))->¬E.B F (.fn 108 X)=true):=by
 rw[cI]
 exact aHq hm hc h e0 e1 e2 e3 e4 e5 e6 e7 e8 h0 hi hn ht
theorem ayy(hm:E.B F (.fn 105 (.pr m (.pr X (.fn 9 (.pr (.fn 1 (.pr X (.int 29))) (.int 5))))))=true)(h:E.B F (.fn 107 (.pr X i))=true)(hi:E.I F (.fn 9 (.pr (.fn 1 (.pr X (.int 0))) (.int 12)))=E.I F i):
  (E.I F (.fn 0 m)=E.I F (.fn 9 (.pr (.fn 1 (.pr X (.int 0))) (.int 12))))↔E.B F (.fn 108 X)=true:=by
 have hall:io (E.L F m) (dy (X.den F))=true:=hm
 rw[zl]at hall
 have hl:(E.L F m).length=(dy (X.den F)).length:=by grind[jh]
 have e9:E.I F (.fn 9 (.pr (.fn 1 (.pr X (.int 0))) (.int 12)))=aN (X.den F):=rfl;have e0:E.I F (.fn 0 m)=(E.L F m).length:=rfl
 rw[Oc]at h
 rw[ux,e9,e0,hl]
 unfold dJ
 rw[Bool.and_eq_true,Bool.and_eq_true,pO,beq_iff_eq]
 grind
end
end Go.SX

set_option linter.unusedVariables false
set_option linter.unusedSimpArgs false
namespace Go.SX
/-! ### valid boards: the reference's way -/
theorem Xj(X:U)(n:Nat):pU X n=true↔∀i,i<n->((bv X).count (nI (cX X 31).toL i)=1/\(gd X).count (nI (cX X 31).toL i)=1):=by
 simp_all[pU]
theorem Aw(X:U)(i k:Nat):rj X i k=true↔∀q,q<k->(¬blk X q 1=blk X i 1/\¬blk X q 0=blk X i 0):=by
 simp_all[rj]
theorem yH(X:U)(n:Nat):rP X n=true↔∀i,i<n->(((bv X).count (blk X i 1)=1/\(fG X).count (blk X i 0)=1)/\rj X i i=true):=by
 simp_all[rP]
theorem xA(X:U):mz X=true↔pU X (bv X).length=true/\rP X (fX X)=true:=by
 simp_all[mz]
theorem wR(X:U)(n:Nat):qM X n=true↔∀i,i<n->(mN X i=true/\(i=0\/oI X (i-1) 0<oI X i 0)/\lB X (oI X i 2).toNat (oI X i 0)=1):=by
 simp_all[qM,and_assoc]
def Is(X:U)(i:Nat):Prop:=nI (cX X 29).toL (i*5+3)<0->(0<=dv X (nI (cX X 29).toL (i*5+1)) (aN X)/\oI X (dv X (nI (cX X 29).toL (i*5+1)) (aN X)).toNat 1=nI (cX X 29).toL (i*5+2))
theorem E8(X:U)(s:Nat):sK X s=true↔∀i,i<s->Is X i:=by
 grind[sK,iA,Is]
theorem Cu(X:U):mV X=true↔sK X (cD X)=true/\qM X (aN X)=true/\uI X=aN X:=by
 simp_all[mV,and_assoc]
theorem aof(X:U)(k:Int)(n i:Nat)(hi:i<n)(h:dv X k i=-1)(he:oI X i 0=k):dv X k n=i:=by
 unfold dv at *;have e:List.range n=List.range i++(i::(List.range (n-i-1)).map (fun x=>i+1+x)):=by
  have h1:List.range n=List.range (i+(n-i)):=by grind
  rw[h1,List.range_add]
  congr 1;have h2:n-i=(n-i-1)+1:=by omega
  rw[h2,List.range_succ_eq_map,List.map_cons,List.map_map]
  congr 1;grind[List.map_congr_left]
 grind
theorem aw3(X:U)(k:Int)(i:Nat)(h:dv X k i=-1)(he:¬oI X i 0=k):dv X k (i+1)=-1:=by
 grind[dv]
section
variable {F:Env} {x y l A a b k u i j p q n m r o c d w v X T N L L2 mc s:E}
theorem ky:E.I F (.fn 121 (.pr l k))=(((ay F l).count (E.I F k):Nat):Int):=rfl
theorem awg(h:E.I F (.fn 0 l)<=E.I F n):E.I F (.fn 121 (.pr l k))=E.I F (.fn 131 (.pr l (.pr k n))):=by
 grind[ky,Gg,br,List.take_of_length_le]
theorem sO:E.I F (.fn 120 (.pr X (.pr k n)))=dv (X.den F) (E.I F k) (E.I F n).toNat:=rfl
theorem aip(e:E.I F n=E.I F i):E.I F (.fn 120 (.pr X (.pr k n)))=E.I F (.fn 120 (.pr X (.pr k i))):=by
 simp_all[sO]
theorem UD(h:E.I F (.fn 120 (.pr X (.pr k i)))=-1){a:E}(ea:a=.fn 1 (.pr (.fn 1 (.pr X (.int 0))) (.fn 6 (.pr (.fn 8 (.pr i (.int 12))) (.int 0)))))(h0:0<=E.I F i)(hi:E.I F i<E.I F N)(hn:E.I F n=E.I F i+1):
  (¬E.I F a=E.I F k->E.I F (.fn 120 (.pr X (.pr k n)))=-1)/\(E.I F a=E.I F k->E.I F (.fn 120 (.pr X (.pr k N)))=E.I F i):=by
 subst ea;have e:=gv (X:=X) h0 0;have k0:(Int.ofNat 0)=0:=rfl
 rw[k0]at e
 rw[sO]at h
 have en:(E.I F n).toNat=(E.I F i).toNat+1:=by omega
 grind[sO,aw3,aof]
/-! places -/
theorem XX:E.I F (.fn 122 (.pr X (.pr p k)))=((lB (X.den F) (E.I F p).toNat (E.I F k):Nat):Int):=rfl
theorem HM:E.I F (.fn 132 (.pr X (.pr p (.pr q k))))=((px (X.den F) (E.I F p).toNat (E.I F q).toNat (E.I F k):Nat):Int):=rfl
theorem MV:E.I F (.fn 133 (.pr X (.pr p (.pr k s))))=((n9 (X.den F) (E.I F p) (E.I F k) (E.I F s).toNat:Nat):Int):=rfl
theorem awB(h0:0<=E.I F p)(hs:E.I F s=E.I F (.fn 9 (.pr (.fn 1 (.pr X (.int 29))) (.int 5)))):E.I F (.fn 122 (.pr X (.pr p k)))=E.I F (.fn 132 (.pr X (.pr p (.pr (.int 4) k))))+E.I F (.fn 133 (.pr X (.pr p (.pr k s)))):=by
 rw[XX,HM,MV,hs]
 have e:(E.I F (.fn 9 (.pr (.fn 1 (.pr X (.int 29))) (.int 5)))).toNat=cD (X.den F):=rfl;have e4:(E.I F (.int 4)).toNat=4:=rfl;grind[lB]
theorem aa6(h:E.I F s<=0):E.I F (.fn 133 (.pr X (.pr p (.pr k s))))=0:=by
 have e:(E.I F s).toNat=0:=by omega
 rw[MV,e];rfl
theorem aKH:0<=E.I F (.fn 133 (.pr X (.pr p (.pr k s)))):=Int.natCast_nonneg _
theorem Bm{pl id tr:E}(e0:pl=.fn 1 (.pr (.fn 1 (.pr X (.int 29))) (.fn 6 (.pr (.fn 8 (.pr s (.int 5))) (.int 0)))))(e1:id=.fn 1 (.pr (.fn 1 (.pr X (.int 29))) (.fn 6 (.pr (.fn 8 (.pr s (.int 5))) (.int 1)))))
  (e3:tr=.fn 1 (.pr (.fn 1 (.pr X (.int 29))) (.fn 6 (.pr (.fn 8 (.pr s (.int 5))) (.int 3)))))(h0:0<=E.I F s)(hn:E.I F n=E.I F s+1):
  ((E.I F tr=-1/\E.I F id=E.I F k/\E.I F pl=E.I F p)->E.I F (.fn 133 (.pr X (.pr p (.pr k n))))=E.I F (.fn 133 (.pr X (.pr p (.pr k s))))+1)/\
  (¬(E.I F tr=-1/\E.I F id=E.I F k/\E.I F pl=E.I F p)->E.I F (.fn 133 (.pr X (.pr p (.pr k n))))=E.I F (.fn 133 (.pr X (.pr p (.pr k s))))):=by
 have en:(E.I F n).toNat=(E.I F s).toNat+1:=by omega
 have c0:=lS (X:=X) h0 0;have c1:=lS (X:=X) h0 1;have c3:=lS (X:=X) h0 3;simp_all[MV,n9,List.range_succ]
theorem ari(h:E.I F p=0):E.I F (.fn 132 (.pr X (.pr p (.pr (.int 4) k))))=E.I F (.fn 121 (.pr (.fn 1 (.pr X (.int 6))) k))+E.I F (.fn 121 (.pr (.fn 1 (.pr X (.int 7))) k))+E.I F (.fn 121 (.pr (.fn 1 (.pr X (.int 8))) k))+E.I F (.fn 121 (.pr (.fn 1 (.pr X (.int 9))) k)):=by
 rw[HM,h]
 have e4:(E.I F (.int 4)).toNat=4:=rfl;unfold px;have er:List.range 4=[0,1,2,3]:=rfl
 rw[ky,ky,ky,ky]
 have z0:ay F (.fn 1 (.pr X (.int 6)))=bn (X.den F) (4*0+0):=rfl;have z1:ay F (.fn 1 (.pr X (.int 7)))=bn (X.den F) (4*0+1):=rfl;have z2:ay F (.fn 1 (.pr X (.int 8)))=bn (X.den F) (4*0+2):=rfl;have z3:ay F (.fn 1 (.pr X (.int 9)))=bn (X.den F) (4*0+3):=rfl;grind
theorem amm(h:E.I F p=1):E.I F (.fn 132 (.pr X (.pr p (.pr (.int 4) k))))=E.I F (.fn 121 (.pr (.fn 1 (.pr X (.int 20))) k))+E.I F (.fn 121 (.pr (.fn 1 (.pr X (.int 21))) k))+E.I F (.fn 121 (.pr (.fn 1 (.pr X (.int 22))) k))+E.I F (.fn 121 (.pr (.fn 1 (.pr X (.int 23))) k)):=by
 rw[HM,h]
 have e4:(E.I F (.int 4)).toNat=4:=rfl;unfold px;have er:List.range 4=[0,1,2,3]:=rfl
 rw[ky,ky,ky,ky]
 have z0:ay F (.fn 1 (.pr X (.int 20)))=bn (X.den F) (4*1+0):=rfl;have z1:ay F (.fn 1 (.pr X (.int 21)))=bn (X.den F) (4*1+1):=rfl;have z2:ay F (.fn 1 (.pr X (.int 22)))=bn (X.den F) (4*1+2):=rfl;have z3:ay F (.fn 1 (.pr X (.int 23)))=bn (X.den F) (4*1+3):=rfl;grind
/-! found -/
theorem aqW:E.I F (.fn 134 (.pr X (.int 8)))=E.I F (.fn 0 (.fn 1 (.pr X (.int 6))))+E.I F (.fn 0 (.fn 1 (.pr X (.int 7))))+E.I F (.fn 0 (.fn 1 (.pr X (.int 8))))+E.I F (.fn 0 (.fn 1 (.pr X (.int 9)))) +
  E.I F (.fn 0 (.fn 1 (.pr X (.int 20))))+E.I F (.fn 0 (.fn 1 (.pr X (.int 21))))+E.I F (.fn 0 (.fn 1 (.pr X (.int 22))))+E.I F (.fn 0 (.fn 1 (.pr X (.int 23)))):=by
 have e:E.I F (.fn 134 (.pr X (.int 8)))=((List.range 8).map fun z=>(bn (X.den F) z).length).sum:=rfl;have er:List.range 8=[0,1,2,3,4,5,6,7]:=rfl
 rw[e,er]
 simp only[List.map_cons,List.map_nil]
 rw[<- br,<- br,<- br,<- br,<- br,<- br,<- br,<- br]
 have z0:ay F (.fn 1 (.pr X (.int 6)))=bn (X.den F) 0:=rfl;have z1:ay F (.fn 1 (.pr X (.int 7)))=bn (X.den F) 1:=rfl;have z2:ay F (.fn 1 (.pr X (.int 8)))=bn (X.den F) 2:=rfl;have z3:ay F (.fn 1 (.pr X (.int 9)))=bn (X.den F) 3:=rfl;have y0:ay F (.fn 1 (.pr X (.int 20)))=bn (X.den F) 4:=rfl;have y1:ay F (.fn 1 (.pr X (.int 21)))=bn (X.den F) 5:=rfl;have y2:ay F (.fn 1 (.pr X (.int 22)))=bn (X.den F) 6:=rfl;have y3:ay F (.fn 1 (.pr X (.int 23)))=bn (X.den F) 7:=rfl;grind
theorem EJ:E.I F (.fn 135 (.pr X s))=(((iA (X.den F) (E.I F s).toNat).length:Nat):Int):=rfl
theorem aJS:0<=E.I F (.fn 135 (.pr X s)):=Int.natCast_nonneg _
theorem aAi(h:E.I F s<=0):E.I F (.fn 135 (.pr X s))=0:=by
 have e:(E.I F s).toNat=0:=by omega
 rw[EJ,e];rfl
theorem aBW(e:E.I F n=E.I F s):E.I F (.fn 135 (.pr X n))=E.I F (.fn 135 (.pr X s)):=by simp_all[EJ]
theorem aau{tr:E}(e3:tr=.fn 1 (.pr (.fn 1 (.pr X (.int 29))) (.fn 6 (.pr (.fn 8 (.pr s (.int 5))) (.int 3)))))(h0:0<=E.I F s)(hn:E.I F n=E.I F s+1):
  (E.I F tr<0->E.I F (.fn 135 (.pr X n))=E.I F (.fn 135 (.pr X s))+1)/\(¬E.I F tr<0->E.I F (.fn 135 (.pr X n))=E.I F (.fn 135 (.pr X s))):=by
 have en:(E.I F n).toNat=(E.I F s).toNat+1:=by omega
 have c3:=lS (X:=X) h0 3;grind[EJ,CE]
theorem Ko:(E.B F (.fn 123 (.pr X s))=true)=(sK (X.den F) (E.I F s).toNat=true):=rfl
theorem Kw:(E.B F (.fn 124 (.pr X n))=true)=(qM (X.den F) (E.I F n).toNat=true):=rfl
theorem IN:(E.B F (.fn 125 X)=true)=(mV (X.den F)=true):=rfl
theorem anN(h:E.B F (.fn 123 (.pr X s))=true)(e:E.I F n=E.I F s):E.B F (.fn 123 (.pr X n))=true:=by
 simp_all[Ko]
theorem ES(h:E.B F (.fn 123 (.pr X s))=true){id cd tr v rw1:E}(e1:id=.fn 1 (.pr (.fn 1 (.pr X (.int 29))) (.fn 6 (.pr (.fn 8 (.pr s (.int 5))) (.int 1)))))
  (e2:cd=.fn 1 (.pr (.fn 1 (.pr X (.int 29))) (.fn 6 (.pr (.fn 8 (.pr s (.int 5))) (.int 2)))))(e3:tr=.fn 1 (.pr (.fn 1 (.pr X (.int 29))) (.fn 6 (.pr (.fn 8 (.pr s (.int 5))) (.int 3)))))
  (e4:rw1=.fn 1 (.pr (.fn 1 (.pr X (.int 0))) (.fn 6 (.pr (.fn 8 (.pr v (.int 12))) (.int 1)))))
  (h0:0<=E.I F s)(h1:E.I F s<E.I F (.fn 9 (.pr (.fn 1 (.pr X (.int 29))) (.int 5))))(hn:E.I F n=E.I F s+1):
  (¬E.I F tr<0->E.B F (.fn 123 (.pr X n))=true)/\
  (E.I F tr<0->E.I F v=E.I F (.fn 120 (.pr X (.pr id (.fn 9 (.pr (.fn 1 (.pr X (.int 0))) (.int 12))))))->((0<=E.I F v/\E.I F rw1=E.I F cd)->E.B F (.fn 123 (.pr X n))=true)/\(¬(0<=E.I F v/\E.I F rw1=E.I F cd)->¬E.B F (.fn 125 X)=true)):=by
 subst e3;have hs:(E.I F s).toNat<cD (X.den F):=by
  have:E.I F (.fn 9 (.pr (.fn 1 (.pr X (.int 29))) (.int 5)))=cD (X.den F):=rfl
  omega
 have c1:=lS (X:=X) h0 1;have c2:=lS (X:=X) h0 2;have c3:=lS (X:=X) h0 3;have k3:(Int.ofNat 3)=3:=rfl
 rw[k3]at c3
 have en9:(E.I F (.fn 9 (.pr (.fn 1 (.pr X (.int 0))) (.int 12)))).toNat=aN (X.den F):=rfl;have ext:Is (X.den F) (E.I F s).toNat->E.B F (.fn 123 (.pr X n))=true:=by
  grind[Ko,E8]
 refine⟨fun ht=>ext ?_,fun ht hv=>⟨fun hc=>ext ?_,fun hc hf=>hc ?_⟩⟩
 ·intro hh;omega
 ·intro _;grind[sO,gv]
 ·rw[IN,Cu,E8]at hf
  have:=hf.1 _ hs (by omega)
  grind[sO,gv]
theorem aBb(h:E.B F (.fn 124 (.pr X i))=true){t a0 a1 a2 a3 a4 a5 a6 a7 a8:E}(e0:a0=.fn 1 (.pr (.fn 1 (.pr X (.int 0))) (.fn 6 (.pr (.fn 8 (.pr i (.int 12))) (.int 0)))))(e1:a1=.fn 1 (.pr (.fn 1 (.pr X (.int 0))) (.fn 6 (.pr (.fn 8 (.pr i (.int 12))) (.int 1)))))(e2:a2=.fn 1 (.pr (.fn 1 (.pr X (.int 0))) (.fn 6 (.pr (.fn 8 (.pr i (.int 12))) (.int 2)))))(e3:a3=.fn 1 (.pr (.fn 1 (.pr X (.int 0))) (.fn 6 (.pr (.fn 8 (.pr i (.int 12))) (.int 3)))))(e4:a4=.fn 1 (.pr (.fn 1 (.pr X (.int 0))) (.fn 6 (.pr (.fn 8 (.pr i (.int 12))) (.int 4)))))(e5:a5=.fn 1 (.pr (.fn 1 (.pr X (.int 0))) (.fn 6 (.pr (.fn 8 (.pr i (.int 12))) (.int 5)))))(e6:a6=.fn 1 (.pr (.fn 1 (.pr X (.int 0))) (.fn 6 (.pr (.fn 8 (.pr i (.int 12))) (.int 6)))))(e7:a7=.fn 1 (.pr (.fn 1 (.pr X (.int 0))) (.fn 6 (.pr (.fn 8 (.pr i (.int 12))) (.int 7)))))(e8:a8=.fn 1 (.pr (.fn 1 (.pr X (.int 0))) (.fn 6 (.pr (.fn 8 (.pr i (.int 12))) (.int 8)))))
  (h0:0<=E.I F i)(hi:E.I F i<E.I F (.fn 9 (.pr (.fn 1 (.pr X (.int 0))) (.int 12))))(hn:E.I F n=E.I F i+1)(ht:0<E.I F i->E.I F t=E.I F i-1):
  (((1<=E.I F a0/\E.I F a0<=500/\-1<=E.I F a1/\E.I F a1<=399/\0<=E.I F a2/\E.I F a2<=1/\(E.I F a1=-1\/(E.I F a3=0/\E.I F a4=0))/\0<=E.I F a3/\E.I F a3<=99/\0<=E.I F a4/\E.I F a4<=99/\0<=E.I F a5/\E.I F a5<=99/\0<=E.I F a6/\E.I F a6<=99/\0<=E.I F a7/\E.I F a7<=99/\0<=E.I F a8/\E.I F a8<=99)/\
   (E.I F i=0\/E.I F (.fn 1 (.pr (.fn 1 (.pr X (.int 0))) (.fn 6 (.pr (.fn 8 (.pr t (.int 12))) (.int 0)))))<E.I F a0)/\E.I F (.fn 122 (.pr X (.pr a2 a0)))=1)->E.B F (.fn 124 (.pr X n))=true)/\
  (¬((1<=E.I F a0/\E.I F a0<=500/\-1<=E.I F a1/\E.I F a1<=399/\0<=E.I F a2/\E.I F a2<=1/\(E.I F a1=-1\/(E.I F a3=0/\E.I F a4=0))/\0<=E.I F a3/\E.I F a3<=99/\0<=E.I F a4/\E.I F a4<=99/\0<=E.I F a5/\E.I F a5<=99/\0<=E.I F a6/\E.I F a6<=99/\0<=E.I F a7/\E.I F a7<=99/\0<=E.I F a8/\E.I F a8<=99)/\
   (E.I F i=0\/E.I F (.fn 1 (.pr (.fn 1 (.pr X (.int 0))) (.fn 6 (.pr (.fn 8 (.pr t (.int 12))) (.int 0)))))<E.I F a0)/\E.I F (.fn 122 (.pr X (.pr a2 a0)))=1)->¬E.B F (.fn 125 X)=true):=by
 subst e0;subst e1;subst e2;subst e3;subst e4;subst e5;subst e6;subst e7;subst e8;have hi':(E.I F i).toNat<aN (X.den F):=by
  have:E.I F (.fn 9 (.pr (.fn 1 (.pr X (.int 0))) (.int 12)))=((aN (X.den F):Nat):Int):=rfl
  omega
 have en:(E.I F n).toNat=(E.I F i).toNat+1:=by omega
 have c0:oI (X.den F) (E.I F i).toNat 0=_:=gv (X:=X) h0 0;have c1:oI (X.den F) (E.I F i).toNat 1=_:=gv (X:=X) h0 1;have c2:oI (X.den F) (E.I F i).toNat 2=_:=gv (X:=X) h0 2;have c3:oI (X.den F) (E.I F i).toNat 3=_:=gv (X:=X) h0 3;have c4:oI (X.den F) (E.I F i).toNat 4=_:=gv (X:=X) h0 4;have c5:oI (X.den F) (E.I F i).toNat 5=_:=gv (X:=X) h0 5;have c6:oI (X.den F) (E.I F i).toNat 6=_:=gv (X:=X) h0 6;have c7:oI (X.den F) (E.I F i).toNat 7=_:=gv (X:=X) h0 7;have c8:oI (X.den F) (E.I F i).toNat 8=_:=gv (X:=X) h0 8;have k (z:Nat) (w:Int) (e:Int.ofNat z=w):E.int (Int.ofNat z)=E.int w:=by rw[e]
 rw[k 0 0 rfl]at c0
 rw[k 1 1 rfl]at c1
 rw[k 2 2 rfl]at c2
 rw[k 3 3 rfl]at c3
 rw[k 4 4 rfl]at c4
 rw[k 5 5 rfl]at c5
 rw[k 6 6 rfl]at c6
 rw[k 7 7 rfl]at c7
 rw[k 8 8 rfl]at c8
 have hprev:(E.I F i=0\/E.I F (.fn 1 (.pr (.fn 1 (.pr X (.int 0))) (.fn 6 (.pr (.fn 8 (.pr t (.int 12))) (.int 0)))))<oI (X.den F) (E.I F i).toNat 0)↔((E.I F i).toNat=0\/oI (X.den F) ((E.I F i).toNat-1) 0<oI (X.den F) (E.I F i).toNat 0):=by
  by_cases hz:E.I F i=0
  ·omega
  ·have ht':=ht (by omega);have e:=gv (X:=X) (i:=t) (F:=F) (by omega) 0
   rw[k 0 0 rfl]at e
   have et:(E.I F t).toNat=(E.I F i).toNat-1:=by omega
   grind
 have h122:(E.I F (.fn 122 (.pr X (.pr (.fn 1 (.pr (.fn 1 (.pr X (.int 0))) (.fn 6 (.pr (.fn 8 (.pr i (.int 12))) (.int 2))))) (.fn 1 (.pr (.fn 1 (.pr X (.int 0))) (.fn 6 (.pr (.fn 8 (.pr i (.int 12))) (.int 0))))))))=1)↔lB (X.den F) (oI (X.den F) (E.I F i).toNat 2).toNat (oI (X.den F) (E.I F i).toNat 0)=1:=by
  grind[XX]
 rw[h122,<- c0,<- c1,<- c2,<- c3,<- c4,<- c5,<- c6,<- c7,<- c8,hprev]
 rw[Kw,wR]at h
 refine⟨fun hc=>?_,fun hc hf=>hc ?_⟩
 ·rw[Kw,wR,en]
  intro q hq;rcases Nat.lt_or_eq_of_le (Nat.le_of_lt_succ hq)with h2|h2
  all_goals simp_all[rE]
 ·rw[IN,Cu,wR]at hf
  have:=hf.2.1 _ hi'
  exact⟨(rE _ _).1 this.1,this.2.1,this.2.2⟩
theorem uX(h:E.B F (.fn 124 (.pr X i))=true){t a0 a1 a2 a3 a4 a5 a6 a7 a8:E}(e0:a0=.fn 1 (.pr (.fn 1 (.pr X (.int 0))) (.fn 6 (.pr (.fn 8 (.pr i (.int 12))) (.int 0)))))(e1:a1=.fn 1 (.pr (.fn 1 (.pr X (.int 0))) (.fn 6 (.pr (.fn 8 (.pr i (.int 12))) (.int 1)))))(e2:a2=.fn 1 (.pr (.fn 1 (.pr X (.int 0))) (.fn 6 (.pr (.fn 8 (.pr i (.int 12))) (.int 2)))))(e3:a3=.fn 1 (.pr (.fn 1 (.pr X (.int 0))) (.fn 6 (.pr (.fn 8 (.pr i (.int 12))) (.int 3)))))(e4:a4=.fn 1 (.pr (.fn 1 (.pr X (.int 0))) (.fn 6 (.pr (.fn 8 (.pr i (.int 12))) (.int 4)))))(e5:a5=.fn 1 (.pr (.fn 1 (.pr X (.int 0))) (.fn 6 (.pr (.fn 8 (.pr i (.int 12))) (.int 5)))))(e6:a6=.fn 1 (.pr (.fn 1 (.pr X (.int 0))) (.fn 6 (.pr (.fn 8 (.pr i (.int 12))) (.int 6)))))(e7:a7=.fn 1 (.pr (.fn 1 (.pr X (.int 0))) (.fn 6 (.pr (.fn 8 (.pr i (.int 12))) (.int 7)))))(e8:a8=.fn 1 (.pr (.fn 1 (.pr X (.int 0))) (.fn 6 (.pr (.fn 8 (.pr i (.int 12))) (.int 8)))))
  (h0:0<=E.I F i)(hi:E.I F i<E.I F (.fn 9 (.pr (.fn 1 (.pr X (.int 0))) (.int 12))))(hn:E.I F n=E.I F i+1)(ht:0<E.I F i->E.I F t=E.I F i-1):
  (((E.B F (.fn 137 (.pr a0 (.pr a1 (.pr a2 (.pr a3 (.pr a4 (.pr a5 (.pr a6 (.pr a7 a8)))))))))=true)/\
   (E.I F i=0\/E.I F (.fn 1 (.pr (.fn 1 (.pr X (.int 0))) (.fn 6 (.pr (.fn 8 (.pr t (.int 12))) (.int 0)))))<E.I F a0)/\E.I F (.fn 122 (.pr X (.pr a2 a0)))=1)->E.B F (.fn 124 (.pr X n))=true)/\
  (¬((E.B F (.fn 137 (.pr a0 (.pr a1 (.pr a2 (.pr a3 (.pr a4 (.pr a5 (.pr a6 (.pr a7 a8)))))))))=true)/\
   (E.I F i=0\/E.I F (.fn 1 (.pr (.fn 1 (.pr X (.int 0))) (.fn 6 (.pr (.fn 8 (.pr t (.int 12))) (.int 0)))))<E.I F a0)/\E.I F (.fn 122 (.pr X (.pr a2 a0)))=1)->¬E.B F (.fn 125 X)=true):=by
 rw[cI]
 exact aBb h e0 e1 e2 e3 e4 e5 e6 e7 e8 h0 hi hn ht
theorem aBc{v:E}(hs:E.B F (.fn 123 (.pr X (.fn 9 (.pr (.fn 1 (.pr X (.int 29))) (.int 5)))))=true)(h:E.B F (.fn 124 (.pr X i))=true)(hi:E.I F (.fn 9 (.pr (.fn 1 (.pr X (.int 0))) (.int 12)))=E.I F i)
  (hv:E.I F v=E.I F (.fn 134 (.pr X (.int 8)))+E.I F (.fn 135 (.pr X (.fn 9 (.pr (.fn 1 (.pr X (.int 29))) (.int 5)))))):E.I F v=E.I F (.fn 9 (.pr (.fn 1 (.pr X (.int 0))) (.int 12)))↔E.B F (.fn 125 X)=true:=by
 have e9:E.I F (.fn 9 (.pr (.fn 1 (.pr X (.int 0))) (.int 12)))=aN (X.den F):=rfl;have es:(E.I F (.fn 9 (.pr (.fn 1 (.pr X (.int 29))) (.int 5)))).toNat=cD (X.den F):=rfl;have e8:E.I F (.fn 134 (.pr X (.int 8)))=((List.range 8).map fun z=>(bn (X.den F) z).length).sum:=rfl
 rw[Ko,es]at hs
 grind[Kw,EJ,IN,Cu,uI]
/-! fights -/
theorem IQ:(E.B F (.fn 126 (.pr X n))=true)=(pU (X.den F) (E.I F n).toNat=true):=rfl
theorem XG:(E.B F (.fn 127 (.pr X n))=true)=(rP (X.den F) (E.I F n).toNat=true):=rfl
theorem Xm:(E.B F (.fn 128 (.pr X (.pr j n)))=true)=(rj (X.den F) (E.I F j).toNat (E.I F n).toNat=true):=rfl
theorem Ao:(E.B F (.fn 129 X)=true)=(mz (X.den F)=true):=rfl
theorem ZV:(E.B F (.fn 136 (.pr X j))=true)=((bv (X.den F)).count (blk (X.den F) (E.I F j).toNat 1)=1/\(fG (X.den F)).count (blk (X.den F) (E.I F j).toNat 0)=1):=by
 show(((bv (X.den F)).count (blk (X.den F) (E.I F j).toNat 1)==1&&(fG (X.den F)).count (blk (X.den F) (E.I F j).toNat 0)==1)=true)=_
 simp_all
theorem aIS(h:E.B F (.fn 126 (.pr X i))=true)(e:E.I F n=E.I F i):E.B F (.fn 126 (.pr X n))=true:=by
 simp_all[IQ]
theorem uj(h:E.I F (.fn 1 (.pr X (.int 34)))=0):gd (X.den F)=ay F (.fn 1 (.pr X (.int 8)))/\fG (X.den F)=ay F (.fn 1 (.pr X (.int 22))):=by
 have e:iX (X.den F) 34=0:=h;unfold gd fG ed
 rw[e];exact⟨rfl,rfl⟩
theorem vX(h:E.I F (.fn 1 (.pr X (.int 34)))=1):gd (X.den F)=ay F (.fn 1 (.pr X (.int 22)))/\fG (X.den F)=ay F (.fn 1 (.pr X (.int 8))):=by
 have e:iX (X.den F) 34=1:=h;unfold gd fG ed
 rw[e];exact⟨rfl,rfl⟩
theorem uc(h:E.B F (.fn 126 (.pr X i))=true){a:E}(ea:a=.fn 1 (.pr (.fn 1 (.pr X (.int 31))) i))(hL:gd (X.den F)=ay F L)(h0:0<=E.I F i)(hi:E.I F i<E.I F (.fn 0 (.fn 1 (.pr X (.int 31)))))(hn:E.I F n=E.I F i+1):
  ((E.I F (.fn 121 (.pr (.fn 1 (.pr X (.int 31))) a))=1/\E.I F (.fn 121 (.pr L a))=1)->E.B F (.fn 126 (.pr X n))=true)/\
  (¬(E.I F (.fn 121 (.pr (.fn 1 (.pr X (.int 31))) a))=1/\E.I F (.fn 121 (.pr L a))=1)->¬E.B F (.fn 129 X)=true):=by
 subst ea
 rw[<- v6]at hi
 have ea:ay F (.fn 1 (.pr X (.int 31)))=bv (X.den F):=rfl;have e1:E.I F (.fn 1 (.pr (.fn 1 (.pr X (.int 31))) i))=nI (cX (X.den F) 31).toL (E.I F i).toNat:=rfl
 rw[ky,ky,ea,<- hL,e1]
 grind[IQ,Xj,Ao,xA]
theorem tj{t b:E}(et:t=.fn 1 (.pr (.fn 1 (.pr X (.int 32))) (.fn 6 (.pr (.fn 8 (.pr j (.int 2))) (.int 1)))))(eb:b=.fn 1 (.pr (.fn 1 (.pr X (.int 32))) (.fn 6 (.pr (.fn 8 (.pr j (.int 2))) (.int 0)))))
  (hL:fG (X.den F)=ay F L)(h0:0<=E.I F j)(hi:E.I F j<E.I F (.fn 9 (.pr (.fn 1 (.pr X (.int 32))) (.int 2)))):
  ((E.I F (.fn 121 (.pr (.fn 1 (.pr X (.int 31))) t))=1/\E.I F (.fn 121 (.pr L b))=1)->E.B F (.fn 136 (.pr X j))=true)/\
  (¬(E.I F (.fn 121 (.pr (.fn 1 (.pr X (.int 31))) t))=1/\E.I F (.fn 121 (.pr L b))=1)->¬E.B F (.fn 129 X)=true):=by
 rw[<- uf]at hi
 have ea:ay F (.fn 1 (.pr X (.int 31)))=bv (X.den F):=rfl;have b0:=pv (X:=X) h0 0;have b1:=pv (X:=X) h0 1;grind[ky,ZV,Ao,xA,yH]
theorem H8(h:E.B F (.fn 128 (.pr X (.pr j k)))=true){t b u w:E}(et:t=.fn 1 (.pr (.fn 1 (.pr X (.int 32))) (.fn 6 (.pr (.fn 8 (.pr j (.int 2))) (.int 1)))))(eb:b=.fn 1 (.pr (.fn 1 (.pr X (.int 32))) (.fn 6 (.pr (.fn 8 (.pr j (.int 2))) (.int 0)))))
  (eu:u=.fn 1 (.pr (.fn 1 (.pr X (.int 32))) (.fn 6 (.pr (.fn 8 (.pr k (.int 2))) (.int 1)))))(ew:w=.fn 1 (.pr (.fn 1 (.pr X (.int 32))) (.fn 6 (.pr (.fn 8 (.pr k (.int 2))) (.int 0)))))
  (h0:0<=E.I F j)(hi:E.I F j<E.I F (.fn 9 (.pr (.fn 1 (.pr X (.int 32))) (.int 2))))(hk:0<=E.I F k)(hkj:E.I F k<E.I F j)(hn:E.I F n=E.I F k+1):
  ((¬E.I F u=E.I F t/\¬E.I F w=E.I F b)->E.B F (.fn 128 (.pr X (.pr j n)))=true)/\(¬(¬E.I F u=E.I F t/\¬E.I F w=E.I F b)->¬E.B F (.fn 129 X)=true):=by
 rw[<- uf]at hi
 have b0:=pv (X:=X) h0 0;have b1:=pv (X:=X) h0 1;have d0:=pv (X:=X) hk 0;have d1:=pv (X:=X) hk 1
 refine⟨fun hc=>?_,fun hc hf=>hc ?_⟩
 ·grind[Xm,Aw]
 grind[Ao,xA,yH,Aw]
theorem auP(h:E.B F (.fn 127 (.pr X j))=true)(h1:E.B F (.fn 136 (.pr X j))=true)(h2:E.B F (.fn 128 (.pr X (.pr j k)))=true)(h0:0<=E.I F j)(hk:E.I F k=E.I F j)(hn:E.I F n=E.I F j+1):E.B F (.fn 127 (.pr X n))=true:=by
 grind[XG,yH,ZV,Xm]
theorem aHh(h:E.B F (.fn 126 (.pr X (.fn 0 (.fn 1 (.pr X (.int 31))))))=true)(hb:E.B F (.fn 127 (.pr X j))=true)(h1:E.I F (.fn 9 (.pr (.fn 1 (.pr X (.int 32))) (.int 2)))=E.I F j):E.B F (.fn 129 X)=true:=by
 have el:(E.I F (.fn 0 (.fn 1 (.pr X (.int 31))))).toNat=(bv (X.den F)).length:=by grind[v6]
 grind[IQ,XG,uf,Ao,xA]
end
end Go.SX

set_option linter.unusedVariables false
set_option linter.unusedSimpArgs false
namespace Go.SX
/-! ### both ways say the same -/
theorem ME{G:Type}[DecidableEq G]:∀(l1 l2:List G),l1.Nodup->(∀x∈l1,x∈l2)->l2.length<=l1.length->l1.Perm l2
 |[],l2,_,_,h=>by
  simp_all
 |x::l1,l2,hn,hs,hl=>by
  have hx:=hs x (by simp);have hn':=List.nodup_cons.1 hn;have hp:=List.perm_cons_erase hx;refine List.Perm.trans ?_ hp.symm;refine List.Perm.cons x (ME l1 _ hn'.2 ?_ ?_);all_goals grind
theorem arw(l:List Int)(c k p:Int):(l.map fun i=>(i,c)).count (k,p)=if c=p then l.count k else 0:=by
 induction l with
 |nil=>simp
 |cons x l ih=>
  grind
theorem aEO(X:U)(k:Int)(p:Nat)(hp:p<2):(lD X 8).count (k,(p:Int))=px X p 4 k:=by
 unfold lD px;have er:List.range 8=[0,1,2,3,4,5,6,7]:=rfl;have er4:List.range 4=[0,1,2,3]:=rfl
 rw[er,er4]
 simp only[List.flatMap_cons,List.flatMap_nil,List.count_append,arw];grind
theorem abk(X:U)(k p:Int):∀s,(∀i,i<s->-1<=nI (cX X 29).toL (i*5+3))->(jv X s).count (k,p)=n9 X p k s
 |0,_=>by rfl
 |s+1,h=>by
  have ih:=abk X k p s (fun i hi=>h i (by omega));have e:n9 X p k (s+1)=n9 X p k s+if(nI (cX X 29).toL (s*5+3) == -1&&nI (cX X 29).toL (s*5+1)==k&&nI (cX X 29).toL (s*5)==p)=true then 1 else 0:=by
   grind[n9,List.range_succ]
  grind[Pn]
theorem ZQ(X:U):fQ X 8 0=lD X 8:=by simp[fQ]
theorem af3(X:U)(k:Int)(p:Nat)(hp:p<2)(h:∀i,i<cD X->-1<=nI (cX X 29).toL (i*5+3)):(dy X).count (k,(p:Int))=lB X p k:=by
 simp_all[dy,lB,ZQ,aEO,abk]
theorem TV(X:U):∀k,(lD X k).length=((List.range k).map fun z=>(bn X z).length).sum
 |0=>rfl
 |k+1=>by
  rw[Bj,List.length_append,List.length_map,TV X k,List.range_succ,List.map_append,List.sum_append];simp
theorem axA(X:U):(dy X).length=uI X:=by
 simp_all[dy,uI,ZQ,TV,jv]
def oP(X:U):List (Int×Int):=(List.range (aN X)).map fun i=>(oI X i 0,oI X i 2)
theorem Oj(X:U):(oP X).map Prod.fst=lm X:=by simp_all[oP,lm]
theorem KK{l:List (Int×Int)}(h:(l.map Prod.fst).Nodup):l.Nodup:=by
 rw[List.nodup_iff_pairwise_ne]at *
 rw[List.pairwise_map]at h
 exact h.imp fun hab e=>hab (by rw[e])
theorem Jt{X:U}{k:Int}{n:Nat}(h:0<=dv X k n):(dv X k n).toNat<n/\oI X (dv X k n).toNat 0=k:=by
 grind[dv]
theorem Nx{X:U}{k:Int}{n i:Nat}(hi:i<n)(h:oI X i 0=k):0<=dv X k n:=by
 grind[dv]
theorem OL{X:U}(h:(lm X).Nodup){i j:Nat}(hi:i<aN X)(hj:j<aN X)(e:oI X i 0=oI X j 0):i=j:=by
 grind[lm,List.pairwise_iff_getElem]
theorem aax{X:U}{k c:Int}{s:Nat}:(k,c)∈iW X s↔∃i,i<s/\nI (cX X 29).toL (i*5+3)<0/\nI (cX X 29).toL (i*5+1)=k/\nI (cX X 29).toL (i*5+2)=c:=by
 grind[iW,iA]
theorem W1{X:U}(hst:∀i,i<cD X->-1<=nI (cX X 29).toL (i*5+3)):dJ X=true↔mV X=true:=by
 rw[Cu,<- axA]
 unfold dJ;simp only[Bool.and_eq_true,pO,beq_iff_eq];constructor
 ·rintro⟨⟨hn,ho⟩,hl⟩
  rw[mm]at ho
  have hin:=CP fun i hi=>(ho i hi).2.1
  have hs:=adx (l1:=lm X) (l2:=(dy X).map Prod.fst) hin (by
   intro x hx
   obtain⟨i,hi,rfl⟩:=List.mem_map.1 hx
   exact List.mem_map_of_mem (f:=Prod.fst) (zw (ho i (List.mem_range.1 hi)).2.2.1)) (by simp[lm,hl])
  refine⟨?_,?_,hl⟩
  ·rw[E8]
   intro i hi ht;have hc:(nI (cX X 29).toL (i*5+1),nI (cX X 29).toL (i*5+2))∈iW X (cD X):=aax.2 ⟨i,hi,ht,rfl,rfl⟩;have hid:nI (cX X 29).toL (i*5+1)∈(dy X).map Prod.fst:=by
    grind[dy,MY]
   obtain⟨q,hq,he⟩:=List.mem_map.1 (hs _ hid)
   have hq:=List.mem_range.1 hq;have h0:=Nx hq he;have h1:=Jt h0
   refine⟨h0,?_⟩
   have hnc:((iW X (cD X)).map Prod.fst).Nodup:=by
    simp_all[MY,dy,List.map_append,List.nodup_append]
   exact((ho _ h1.1).2.2.2 _ (by grind[JK])).symm
  ·rw[wR]
   intro i hi;have h:=ho i hi
   refine⟨h.1,h.2.1,?_⟩
   have hown:=(rE X i).1 h.1;have hm:=zw h.2.2.1;have e:((oI X i 2).toNat:Int)=oI X i 2:=Int.toNat_of_nonneg (by omega)
   rw[<- af3 X _ _ (by omega) hst,e]
   have h1:0<(dy X).count (oI X i 0,oI X i 2):=List.count_pos_iff.2 hm;have h2:=List.nodup_iff_count.1 (KK hn) (oI X i 0,oI X i 2);omega
 ·rintro⟨hs,ho,hl⟩
  rw[wR]at ho
  rw[E8]at hs
  have hin:=CP fun i hi=>(ho i hi).2.1
  have hmem:∀i,i<aN X->(oI X i 0,oI X i 2)∈dy X:=by
   intro i hi;have h:=ho i hi;have hown:=(rE X i).1 h.1;have e:((oI X i 2).toNat:Int)=oI X i 2:=Int.toNat_of_nonneg (by omega);have h1:=h.2.2
   rw[<- af3 X _ _ (by omega) hst,e]at h1
   grind
  have hp:(oP X).Perm (dy X):=ME (oP X) (dy X) (KK (by simp_all[Oj])) (by
   intro x hx
   obtain⟨i,hi,rfl⟩:=List.mem_map.1 hx
   simp_all) (by simp_all[oP])
  have hn:((dy X).map Prod.fst).Nodup:=by
   have:=(hp.map Prod.fst).nodup_iff.1 (by simp_all[Oj])
   omega
  refine⟨⟨hn,?_⟩,hl⟩
  rw[mm]
  intro i hi;have h:=ho i hi
  refine⟨h.1,h.2.1,JK hn (hmem i hi),?_⟩
  intro c hc
  obtain⟨s,h1,h2,h3,h4⟩:=aax.1 (zw hc)
  have:=hs s h1 h2
  rw[h3]at this
  have h5:=Jt this.1;grind[OL]
theorem Lk{X:U}(h:dJ X=true)(k:Nat)(hk:k<8):(bn X k).Nodup:=by
 unfold dJ at h;simp only[Bool.and_eq_true,pO]at h
 obtain⟨r,hr⟩:=Es X k (bn X k).length hk
 grind[fQ]
theorem NI{l:List Int}(h:l.Nodup)(a:Int):l.count a=1↔a∈l:=by
 grind
theorem ZM(X:U)(i:Nat):nI (cX X 31).toL i=(bv X).getD i 0:=C3 _ _
theorem RO{X:U}(h:dJ X=true)(ha:ed X<=1):jy X=true↔mz X=true:=by
 have ho:=Lk h (4*ed X+2) (by omega);have hq:=Lk h (4*(1-ed X)+2) (by omega);have e1:gd X=bn X (4*ed X+2):=rfl;have e2:fG X=bn X (4*(1-ed X)+2):=rfl
 rw[<- e1]at ho
 rw[<- e2]at hq
 have hA:kA X (bv X).length=true↔pU X (bv X).length=true:=by
  rw[qY,Xj,List.take_length]
  constructor
  ·simp_all[bv,List.getD_eq_getElem?_getD,List.getElem?_eq_getElem,List.getElem_mem,ZM,NI]
  ·intro hc;have hc':∀a∈bv X,(bv X).count a=1/\(gd X).count a=1:=by
    intro a hm
    obtain⟨i,hi,rfl⟩:=List.getElem_of_mem hm
    simp_all[ZM,List.getD_eq_getElem?_getD,List.getElem?_eq_getElem]
   grind
 rw[yu,xA,hA]
 constructor
 ·rintro⟨h1,h2⟩
  refine⟨h1,?_⟩
  have hn:=((qY X _).1 (hA.2 h1)).1
  rw[List.take_length]at hn
  rw[xg]at h2
  rw[yH]
  grind[NI,Aw,d9,List.pairwise_iff_getElem]
 ·rintro⟨h1,h2⟩
  refine⟨h1,?_⟩
  have hn:=((qY X _).1 (hA.2 h1)).1
  rw[List.take_length]at hn
  rw[yH]at h2
  rw[xg]
  simp_all[NI,d9,List.nodup_iff_pairwise_ne,List.pairwise_map,List.pairwise_iff_getElem,List.getElem_range,Aw]
theorem TC(X:U):rY X=jf X:=by
 rw[Bool.eq_iff_iff]
 unfold rY jf;simp only[Bool.and_eq_true];constructor
 ·rintro⟨⟨⟨⟨⟨hn,h0⟩,h1⟩,hi⟩,hp⟩,hf⟩
  have hst:∀i,i<cD X->-1<=nI (cX X 29).toL (i*5+3):=by
   simp_all[rr,xW,kU,hE]
  have ha:ed X<=1:=by
   simp_all[sM,hE,ed]
  simp_all[W1,RO]
 ·rintro⟨⟨⟨⟨⟨hn,h0⟩,h1⟩,hi⟩,hp⟩,hf⟩
  have hst:∀i,i<cD X->-1<=nI (cX X 29).toL (i*5+3):=by
   simp_all[rr,xW,kU,hE]
  have ha:ed X<=1:=by
   simp_all[sM,hE,ed]
  simp_all[W1,RO]
theorem YW{F:Env}{X:E}:(E.B F (.fn 115 X)=true)↔(E.B F (.fn 130 X)=true):=by
 show(rY _=true)↔(jf _=true)
 rw[TC]
end Go.SX

set_option linter.unusedVariables false
set_option linter.unusedSimpArgs false
namespace Go.SX
/-! ### what is paid from -/
section
variable {F:Env} {x y l A a b k u i j p q n m r o c d w v X T N L e t C:E}
theorem dN:(E.B F (.fn 145 (.pr X p))=true)=(0<=E.I F p/\E.I F p<=1/\E.B F (.fn 130 X)=true):=by
 show(ff _ _=true)=_
 unfold ff
 rw[Bool.and_eq_true,hE,and_assoc];rfl
theorem ch{a0 a1 a2 a3 a4:E}:(E.B F (.fn 146 (.pr a0 (.pr a1 (.pr a2 (.pr a3 a4)))))=true)=(0<=E.I F a0/\E.I F a0<=20/\0<=E.I F a1/\E.I F a1<=20/\0<=E.I F a2/\E.I F a2<=20/\0<=E.I F a3/\E.I F a3<=20/\0<=E.I F a4/\E.I F a4<=20):=by
 show(([0,1,2,3].all _&&dc 0 _ 20)=true)=_
 simp only[List.all_cons,List.all_nil,Bool.and_eq_true,hE,and_assoc,and_true];rfl
/-! triggers and effects -/
theorem LA(l:List U)(n:Nat):uP l n=true↔∀i,i<n->(l.getD (i*2+1) (.int 0)).toL.length/5<=5:=by
 simp_all[uP]
theorem ad5(l:List U)(n:Nat):C0 l n=true↔∀i,i<n->vL (l.getD (i*14+11) (.int 0)).toL (l.getD (i*14+12) (.int 0)).toL=true:=by
 grind[C0]
theorem GY:(E.B F (.fn 155 (.pr C n))=true)=(C0 (E.L F C) (E.I F n).toNat=true):=rfl
theorem rA:(E.B F (.fn 156 (.pr e t))=true)=(E.I F (.fn 9 (.pr e (.int 5)))<=5/\E.I F (.fn 9 (.pr t (.int 2)))<=3/\E.B F (.fn 157 (.pr t (.fn 9 (.pr t (.int 2)))))=true):=by
 have h1:E.I F (.fn 9 (.pr e (.int 5)))=(E.L F e).length/5:=rfl;have h2:E.I F (.fn 9 (.pr t (.int 2)))=(E.L F t).length/2:=rfl;have h3:(E.B F (.fn 157 (.pr t (.fn 9 (.pr t (.int 2)))))=true)=(uP (E.L F t) ((E.L F t).length/2)=true):=rfl
 show(vL (E.L F e) (E.L F t)=true)=_
 grind[vL]
theorem yv:(E.B F (.fn 157 (.pr t n))=true)=(uP (E.L F t) (E.I F n).toNat=true):=rfl
theorem Uz(h:E.B F (.fn 157 (.pr t n))=true)(h0:0<=E.I F i)(h1:E.I F i<E.I F n):E.I F (.fn 9 (.pr (.fn 1 (.pr t (.fn 6 (.pr (.fn 8 (.pr i (.int 2))) (.int 1))))) (.int 5)))<=5:=by
 rw[yv,LA]at h
 have e:=vd (F:=F) (T:=t) i 2 1 h0;have h2:E.I F (.fn 9 (.pr (.fn 1 _) (.int 5)))=(E.L F (.fn 1 (.pr t (.fn 6 (.pr (.fn 8 (.pr i (.int 2))) (.int 1)))))).length/5:=rfl;grind
theorem asv(h:E.B F (.fn 157 (.pr t i))=true)(h0:0<=E.I F i)(hm:E.I F m=E.I F i+1)(hb:E.I F (.fn 9 (.pr (.fn 1 (.pr t (.fn 6 (.pr (.fn 8 (.pr i (.int 2))) (.int 1))))) (.int 5)))<=5):E.B F (.fn 157 (.pr t m))=true:=by
 have e:=vd (F:=F) (T:=t) i 2 1 h0;have h2:E.I F (.fn 9 (.pr (.fn 1 _) (.int 5)))=(E.L F (.fn 1 (.pr t (.fn 6 (.pr (.fn 8 (.pr i (.int 2))) (.int 1)))))).length/5:=rfl;grind[yv,LA]
theorem aj9(h:E.B F (.fn 155 (.pr C i))=true)(e:E.I F n=E.I F i):E.B F (.fn 155 (.pr C n))=true:=by
 simp_all[GY]
theorem Sf(h0:0<=E.I F i):(E.B F (.fn 156 (.pr (.fn 1 (.pr C (.fn 6 (.pr (.fn 8 (.pr i (.int 14))) (.int 11))))) (.fn 1 (.pr C (.fn 6 (.pr (.fn 8 (.pr i (.int 14))) (.int 12)))))))=true)=
  (vL ((E.L F C).getD ((E.I F i).toNat*14+11) (.int 0)).toL ((E.L F C).getD ((E.I F i).toNat*14+12) (.int 0)).toL=true):=by
 have e:=vd (F:=F) (T:=C) i 14 11 h0;have e2:=vd (F:=F) (T:=C) i 14 12 h0
 rw[<- e,<- e2];rfl
theorem aHT(h:E.B F (.fn 155 (.pr C n))=true)(h0:0<=E.I F i)(h1:E.I F i<E.I F n):E.B F (.fn 156 (.pr (.fn 1 (.pr C (.fn 6 (.pr (.fn 8 (.pr i (.int 14))) (.int 11))))) (.fn 1 (.pr C (.fn 6 (.pr (.fn 8 (.pr i (.int 14))) (.int 12)))))))=true:=by
 grind[GY,ad5,Sf]
theorem aHC(h:E.B F (.fn 155 (.pr C i))=true)(h0:0<=E.I F i)(hm:E.I F m=E.I F i+1)(hb:E.B F (.fn 156 (.pr (.fn 1 (.pr C (.fn 6 (.pr (.fn 8 (.pr i (.int 14))) (.int 11))))) (.fn 1 (.pr C (.fn 6 (.pr (.fn 8 (.pr i (.int 14))) (.int 12)))))))=true):E.B F (.fn 155 (.pr C m))=true:=by
 grind[Sf,GY,ad5]
end
end Go.SX

set_option linter.unusedVariables false
set_option linter.unusedSimpArgs false
namespace Go.SX
section
variable {F:Env} {x y l A a b k u i j p q n m r o c d w v X T N L e t C z:E}
theorem TY(h:E.B F (.fn 157 (.pr t n))=true)(h0:0<=E.I F i)(hb:E.I F (.fn 9 (.pr v (.int 5)))<=5):E.B F (.fn 157 (.pr (.fn 2 (.pr t (.pr (.fn 6 (.pr (.fn 8 (.pr i (.int 2))) (.int 1))) v))) n))=true:=by
 have hv:E.I F (.fn 9 (.pr v (.int 5)))=(E.L F v).length/5:=rfl
 rw[yv,LA]at *
 have e:E.L F (.fn 2 (.pr t (.pr (.fn 6 (.pr (.fn 8 (.pr i (.int 2))) (.int 1))) v)))=(E.L F t).set _ (v.den F):=rfl;grind[E.L]
theorem ahg(h:E.B F (.fn 157 (.pr t i))=true)(e:E.I F n=E.I F i):E.B F (.fn 157 (.pr t n))=true:=by
 simp_all[yv]
theorem EB(w:Int):E.I F (.fn 9 (.pr (.fn 30 a) (.int w)))=0:=by
 show(0/w.toNat:Int)=0
 simp
theorem arp:E.I F (.fn 9 (.pr (.fn 28 (.pr a l)) (.int 5)))=E.I F (.fn 9 (.pr l (.int 5))):=rfl
theorem B7:E.I F (.fn 141 (.pr C c))=eZ (E.L F C) (E.I F c) 1:=rfl
theorem xD:E.I F (.fn 142 (.pr C c))=eZ (E.L F C) (E.I F c) 7:=rfl
theorem Gp(h:E.I F c<0\/E.I F (.fn 9 (.pr C (.int 14)))<=E.I F c):E.I F (.fn 141 (.pr C c))=0/\E.I F (.fn 142 (.pr C c))=0:=by
 have hc:E.I F (.fn 9 (.pr C (.int 14)))=(E.L F C).length/14:=rfl;grind[B7,xD,eZ]
theorem Vs(h0:0<=E.I F c)(h1:E.I F c<E.I F (.fn 9 (.pr C (.int 14)))):E.I F (.fn 141 (.pr C c))=E.I F (.fn 1 (.pr C (.fn 6 (.pr (.fn 8 (.pr c (.int 14))) (.int 1)))))/\E.I F (.fn 142 (.pr C c))=E.I F (.fn 1 (.pr C (.fn 6 (.pr (.fn 8 (.pr c (.int 14))) (.int 7))))):=by
 have e1:=mh (F:=F) (T:=C) c 14 1 h0;have e7:=mh (F:=F) (T:=C) c 14 7 h0;have k1:(Int.ofNat 1)=1:=rfl;have k7:(Int.ofNat 7)=7:=rfl;have k14:(Int.ofNat 14)=14:=rfl
 rw[k1,k14]at e1
 rw[k7,k14]at e7
 rw[B7,xD,e1,e7]
 unfold eZ
 rw[if_pos ⟨h0,h1⟩,if_pos ⟨h0,h1⟩];exact⟨rfl,rfl⟩
/-! small boards -/
theorem Ch:(E.B F (.fn 158 (.pr l n))=true)=(jF (E.L F l) (E.I F n).toNat=true):=rfl
theorem agR(h:E.B F (.fn 158 (.pr l i))=true)(e:E.I F n=E.I F i):E.B F (.fn 158 (.pr l n))=true:=by
 simp_all[Ch]
theorem Yp(h:E.B F (.fn 158 (.pr l i))=true)(h0:0<=E.I F i)(hm:E.I F m=E.I F i+1)(hb:E.I F (.fn 9 (.pr (.fn 1 (.pr l (.fn 6 (.pr (.fn 8 (.pr i (.int 5))) (.int 4))))) (.int 2)))<=6):E.B F (.fn 158 (.pr l m))=true:=by
 have e:=vd (F:=F) (T:=l) i 5 4 h0;have h2:E.I F (.fn 9 (.pr (.fn 1 _) (.int 2)))=(E.L F (.fn 1 (.pr l (.fn 6 (.pr (.fn 8 (.pr i (.int 5))) (.int 4)))))).length/2:=rfl;grind[Ch,jF]
theorem nA:(E.B F (.fn 159 X)=true)=(E.I F (.fn 0 (.fn 1 (.pr X (.int 6))))<=40/\E.I F (.fn 0 (.fn 1 (.pr X (.int 7))))<=40/\E.I F (.fn 0 (.fn 1 (.pr X (.int 8))))<=40/\E.I F (.fn 0 (.fn 1 (.pr X (.int 9))))<=40/\
  E.I F (.fn 0 (.fn 1 (.pr X (.int 20))))<=40/\E.I F (.fn 0 (.fn 1 (.pr X (.int 21))))<=40/\E.I F (.fn 0 (.fn 1 (.pr X (.int 22))))<=40/\E.I F (.fn 0 (.fn 1 (.pr X (.int 23))))<=40):=by
 show((List.range 8).all (fun z=>decide ((bn _ z).length<=40))=true)=_
 rw[<- br,<- br,<- br,<- br,<- br,<- br,<- br,<- br]
 have er:List.range 8=[0,1,2,3,4,5,6,7]:=rfl;have z0:ay F (.fn 1 (.pr X (.int 6)))=bn (X.den F) 0:=rfl;have z1:ay F (.fn 1 (.pr X (.int 7)))=bn (X.den F) 1:=rfl;have z2:ay F (.fn 1 (.pr X (.int 8)))=bn (X.den F) 2:=rfl;have z3:ay F (.fn 1 (.pr X (.int 9)))=bn (X.den F) 3:=rfl;have y0:ay F (.fn 1 (.pr X (.int 20)))=bn (X.den F) 4:=rfl;have y1:ay F (.fn 1 (.pr X (.int 21)))=bn (X.den F) 5:=rfl;have y2:ay F (.fn 1 (.pr X (.int 22)))=bn (X.den F) 6:=rfl;have y3:ay F (.fn 1 (.pr X (.int 23)))=bn (X.den F) 7:=rfl
 rw[er,z0,z1,z2,z3,y0,y1,y2,y3]
 simp only[List.all_cons];grind
theorem gz:(E.B F (.fn 117 X)=true)=(E.B F (.fn 159 X)=true/\E.I F (.fn 9 (.pr (.fn 1 (.pr X (.int 29))) (.int 5)))<=20/\E.I F (.fn 9 (.pr (.fn 1 (.pr X (.int 30))) (.int 5)))<=20/\
  E.B F (.fn 158 (.pr (.fn 1 (.pr X (.int 29))) (.fn 9 (.pr (.fn 1 (.pr X (.int 29))) (.int 5)))))=true/\E.B F (.fn 158 (.pr (.fn 1 (.pr X (.int 30))) (.fn 9 (.pr (.fn 1 (.pr X (.int 30))) (.int 5)))))=true/\
  E.I F (.fn 9 (.pr (.fn 1 (.pr X (.int 0))) (.int 12)))<=30/\E.I F (.fn 0 (.fn 1 (.pr X (.int 31))))<=30/\E.I F (.fn 9 (.pr (.fn 1 (.pr X (.int 32))) (.int 2)))<=30):=by
 have a:(E.B F (.fn 159 X)=true)=((List.range 8).all (fun z=>decide ((bn _ z).length<=40))=true):=rfl;have b:(E.B F (.fn 158 (.pr (.fn 1 (.pr X (.int 29))) (.fn 9 (.pr (.fn 1 (.pr X (.int 29))) (.int 5)))))=true)=(jF (cX (X.den F) 29).toL (cD (X.den F))=true):=rfl;have c:(E.B F (.fn 158 (.pr (.fn 1 (.pr X (.int 30))) (.fn 9 (.pr (.fn 1 (.pr X (.int 30))) (.int 5)))))=true)=(jF (cX (X.den F) 30).toL ((cX (X.den F) 30).toL.length/5)=true):=rfl;have d:E.I F (.fn 9 (.pr (.fn 1 (.pr X (.int 29))) (.int 5)))=cD (X.den F):=rfl;have e:E.I F (.fn 9 (.pr (.fn 1 (.pr X (.int 30))) (.int 5)))=(cX (X.den F) 30).toL.length/5:=rfl;have f:E.I F (.fn 9 (.pr (.fn 1 (.pr X (.int 0))) (.int 12)))=aN (X.den F):=rfl
 rw[a,b,c,d,e,f,<- v6,<- uf]
 show(pq _=true)=_
 grind[pq]
end
end Go.SX

set_option linter.unusedVariables false
set_option linter.unusedSimpArgs false
namespace Go.SX
/-! ### the sources of a player: the program's -/
def jO(l:List U)(X:U)(p:Int)(i:Nat):Bool:=
 oI X i 2==p && !((cX X 0).toL.getD (i*12+9) (.bool false)).toB&&eZ l (oI X i 1) 1==1&&decide (0<=eZ l (oI X i 1) 7)&&decide (eZ l (oI X i 1) 7<4)&&(bn X (4*p.toNat+2)).contains (oI X i 0)
theorem wa(l:List U)(X:U)(p:Int)(n:Nat):cF l X p (n+1)=cF l X p n++if jO l X p n then [oI X n 0,eZ l (oI X n 1) 7] else []:=by
 unfold cF
 rw[List.range_succ,List.flatMap_append]
 simp only[List.flatMap_cons,List.flatMap_nil,List.append_nil];rfl
theorem acI(l:List U)(X:U)(p:Int):cF l X p 0=[]:=rfl
theorem Ub(l:List U)(n:Nat):(l.getD n (.bool false)).toB=(l.getD n (.int 0)).toB:=by
 rw[List.getD_eq_getElem?_getD,List.getD_eq_getElem?_getD]
 cases l[n]? <;> rfl
section
variable {F:Env} {x y l A a b k u i j p q n m r o c d w v X T N L e t C z:E}
theorem jR:ay F (.fn 3 (.pr x y))=ay F x++ay F y:=by
 show(E.L F x++E.L F y).map _=_
 rw[List.map_append];rfl
theorem tc:ay F (.fn 23 (.pr a l))=E.I F a::ay F l:=rfl
theorem oH:ay F (.fn 10 a)=[]:=rfl
theorem rc:(E.B F (.fn 143 (.pr x (.pr C (.pr X (.pr p n)))))=true)=(ay F x=cF (E.L F C) (X.den F) (E.I F p) (E.I F n).toNat):=by
 show((bJ _==cF _ _ _ _)=true)=_
 rw[beq_iff_eq];rfl
theorem am9(h:E.I F n<=0):E.B F (.fn 143 (.pr (.fn 10 a) (.pr C (.pr X (.pr p n)))))=true:=by
 have e:(E.I F n).toNat=0:=by omega
 rw[rc,e,acI];rfl
theorem agE(h:E.B F (.fn 143 (.pr x (.pr C (.pr X (.pr p i)))))=true)(e:E.I F n=E.I F i):E.B F (.fn 143 (.pr x (.pr C (.pr X (.pr p n)))))=true:=by
 simp_all[rc]
theorem jb(h:E.I F p=0):ay F (.fn 1 (.pr X (.int 8)))=bn (X.den F) (4*(E.I F p).toNat+2):=by rw[h];rfl
theorem jj(h:E.I F p=1):ay F (.fn 1 (.pr X (.int 22)))=bn (X.den F) (4*(E.I F p).toNat+2):=by rw[h];rfl
theorem d6(h:E.B F (.fn 143 (.pr x (.pr C (.pr X (.pr p i)))))=true){id cd ow tp v:E}(e0:id=.fn 1 (.pr (.fn 1 (.pr X (.int 0))) (.fn 6 (.pr (.fn 8 (.pr i (.int 12))) (.int 0)))))
  (e1:cd=.fn 1 (.pr (.fn 1 (.pr X (.int 0))) (.fn 6 (.pr (.fn 8 (.pr i (.int 12))) (.int 1)))))(e2:ow=.fn 1 (.pr (.fn 1 (.pr X (.int 0))) (.fn 6 (.pr (.fn 8 (.pr i (.int 12))) (.int 2)))))
  (e9:tp=.fn 1 (.pr (.fn 1 (.pr X (.int 0))) (.fn 6 (.pr (.fn 8 (.pr i (.int 12))) (.int 9)))))(hL:ay F L=bn (X.den F) (4*(E.I F p).toNat+2))(h0:0<=E.I F i)(hn:E.I F n=E.I F i+1)(hv:E.I F v=E.I F (.fn 142 (.pr C cd))):
  (¬(E.I F ow=E.I F p/\¬E.B F tp=true/\E.I F (.fn 141 (.pr C cd))=1/\0<=E.I F v/\E.I F v<4/\E.B F (.fn 114 (.pr L id))=true)->E.B F (.fn 143 (.pr x (.pr C (.pr X (.pr p n)))))=true)/\
  ((E.I F ow=E.I F p/\¬E.B F tp=true/\E.I F (.fn 141 (.pr C cd))=1/\0<=E.I F v/\E.I F v<4/\E.B F (.fn 114 (.pr L id))=true)->
   E.B F (.fn 143 (.pr (.fn 3 (.pr x (.fn 23 (.pr id (.fn 23 (.pr v (.fn 10 (.int 0)))))))) (.pr C (.pr X (.pr p n)))))=true/\(ay F x=[]->E.B F (.fn 143 (.pr (.fn 23 (.pr id (.fn 23 (.pr v (.fn 10 (.int 0)))))) (.pr C (.pr X (.pr p n)))))=true)):=by
 have c0:=gv (X:=X) h0 0;have c1:=gv (X:=X) h0 1;have c2:=gv (X:=X) h0 2;have c9:E.B F (.fn 1 (.pr (.fn 1 (.pr X (.int 0))) (.fn 6 (.pr (.fn 8 (.pr i (.int 12))) (.int 9)))))=((cX (X.den F) 0).toL.getD ((E.I F i).toNat*12+9) (.bool false)).toB:=by
  rw[Ub]
  have e:(E.I F i*12+9).toNat=(E.I F i).toNat*12+9:=by omega
  show((cX (X.den F) 0).toL.getD (E.I F i*12+9).toNat _).toB=_
  rw[e]
 have en:(E.I F n).toNat=(E.I F i).toNat+1:=by omega
 have hc:jO (E.L F C) (X.den F) (E.I F p) (E.I F i).toNat=true↔(E.I F (.fn 1 (.pr (.fn 1 (.pr X (.int 0))) (.fn 6 (.pr (.fn 8 (.pr i (.int 12))) (.int 2)))))=E.I F p/\¬E.B F (.fn 1 (.pr (.fn 1 (.pr X (.int 0))) (.fn 6 (.pr (.fn 8 (.pr i (.int 12))) (.int 9)))))=true/\
   E.I F (.fn 141 (.pr C (.fn 1 (.pr (.fn 1 (.pr X (.int 0))) (.fn 6 (.pr (.fn 8 (.pr i (.int 12))) (.int 1)))))))=1/\0<=E.I F v/\E.I F v<4/\E.B F (.fn 114 (.pr L (.fn 1 (.pr (.fn 1 (.pr X (.int 0))) (.fn 6 (.pr (.fn 8 (.pr i (.int 12))) (.int 0)))))))=true):=by
  grind[sW,B7,xD,jO]
 have hs:=wa (E.L F C) (X.den F) (E.I F p) (E.I F i).toNat;all_goals simp_all[rc,jR,tc,oH,xD]
end
end Go.SX

set_option linter.unusedVariables false
set_option linter.unusedSimpArgs false
namespace Go.SX
theorem kF:∀l:List Int,(bi l).length=l.length/2
 |[]=>rfl
 |[_]=>by simp[bi]
 |a::b::l=>by
  show(bi l).length+1=_
  rw[kF l];grind
theorem xq:∀(l:List Int)(i:Nat),i<l.length/2->(bi l).getD i 0=l.getD (i*2) 0
 |[],i,h=>by rfl
 |[_],i,h=>by simp at h
 |a::b::l,0,h=>rfl
 |a::b::l,i+1,h=>by
  have e:(i+1)*2=i*2+1+1:=by omega
  rw[e]
  exact xq l i (by grind)
section
variable {F:Env} {x y l A a b k u i j p q n m r o c d w v X T N L e t C z s:E}
theorem qx:(E.B F (.fn 144 (.pr x (.pr C (.pr X p))))=true)=(ay F x=bi (cF (E.L F C) (X.den F) (E.I F p) (aN (X.den F)))):=by
 show((bJ _==bi _)=true)=_
 rw[beq_iff_eq];rfl
theorem Tg:(E.B F (.fn 148 (.pr x (.pr s i)))=true)=(ay F x=(bi (ay F s)).take (E.I F i).toNat):=by
 show((bJ _==(bi _).take _)=true)=_
 rw[beq_iff_eq];rfl
theorem AK:E.I F (.fn 9 (.pr l (.int 2)))=(((ay F l).length/2:Nat):Int):=by
 have:(ay F l).length=(E.L F l).length:=List.length_map _
 rw[this];rfl
theorem Xl:2*E.I F (.fn 9 (.pr l (.int 2)))<=E.I F (.fn 0 l)/\E.I F (.fn 0 l)<=2*E.I F (.fn 9 (.pr l (.int 2)))+1:=by
 grind[AK,br]
theorem Sb:E.I F (.fn 9 (.pr (.fn 28 (.pr a l)) (.int 2)))=E.I F (.fn 9 (.pr l (.int 2))):=rfl
theorem aq5(h:E.B F (.fn 143 (.pr x (.pr C (.pr X (.pr p n)))))=true):E.B F (.fn 143 (.pr (.fn 28 (.pr a x)) (.pr C (.pr X (.pr p n)))))=true:=h
theorem auU(h:E.B F (.fn 143 (.pr (.fn 10 b) (.pr C (.pr X (.pr p n)))))=true):E.B F (.fn 143 (.pr (.fn 30 a) (.pr C (.pr X (.pr p n)))))=true:=by
 exact h
theorem aJQ(h:E.B F (.fn 143 (.pr (.fn 10 b) (.pr C (.pr X (.pr p n)))))=true)(h0:0<=E.I F n):E.I F (.fn 9 (.pr (.fn 30 a) (.int 2)))=0:=EB 2
theorem aBj(h:E.B F (.fn 143 (.pr s (.pr C (.pr X (.pr p (.fn 9 (.pr (.fn 1 (.pr X (.int 0))) (.int 12))))))))=true)(hr:E.I F (.fn 9 (.pr s (.int 2)))<=0):E.B F (.fn 144 (.pr (.fn 10 b) (.pr C (.pr X p))))=true:=by
 have en:(E.I F (.fn 9 (.pr (.fn 1 (.pr X (.int 0))) (.int 12)))).toNat=aN (X.den F):=rfl;grind[rc,AK,qx,oH,kF,List.length_eq_zero_iff]
theorem awL(h:E.B F (.fn 143 (.pr s (.pr C (.pr X (.pr p (.fn 9 (.pr (.fn 1 (.pr X (.int 0))) (.int 12))))))))=true)(h':E.B F (.fn 148 (.pr x (.pr s i)))=true)(hr:E.I F (.fn 9 (.pr s (.int 2)))<=E.I F i):E.B F (.fn 144 (.pr x (.pr C (.pr X p))))=true:=by
 have en:(E.I F (.fn 9 (.pr (.fn 1 (.pr X (.int 0))) (.int 12)))).toNat=aN (X.den F):=rfl;grind[rc,AK,Tg,qx,List.take_of_length_le,kF]
theorem afu{v:E}(ev:v=.fn 1 (.pr s (.fn 6 (.pr (.fn 8 (.pr i (.int 2))) (.int 0)))))(h0:0<=E.I F i)(h1:E.I F i<E.I F (.fn 9 (.pr s (.int 2))))(hm:E.I F m=E.I F i+1):
  (E.B F (.fn 148 (.pr x (.pr s i)))=true->E.B F (.fn 148 (.pr (.fn 3 (.pr x (.fn 23 (.pr v (.fn 10 (.int 0)))))) (.pr s m)))=true)/\(E.I F i=0->E.B F (.fn 148 (.pr (.fn 23 (.pr v (.fn 10 (.int 0)))) (.pr s m)))=true):=by
 rw[AK]at h1
 have em:(E.I F m).toNat=(E.I F i).toNat+1:=by omega
 have hv:E.I F (.fn 1 (.pr s (.fn 6 (.pr (.fn 8 (.pr i (.int 2))) (.int 0)))))=(bi (ay F s)).getD (E.I F i).toNat 0:=by
  rw[xq _ _ (by omega),fE]
  have e:(E.I F (.fn 6 (.pr (.fn 8 (.pr i (.int 2))) (.int 0)))).toNat=(E.I F i).toNat*2:=by
   show(E.I F i*2+0).toNat=_
   omega
  rw[e]
 have ht:=kD (bi (ay F s)) (E.I F i).toNat (by grind[kF])
 refine⟨fun h=>?_,fun hz=>?_⟩
 all_goals simp_all[Tg,jR,tc,oH]
/-! the reference's: what an object makes -/
theorem Bi:E.I F (.fn 150 (.pr C (.pr X k)))=gY (E.L F C) (X.den F) (E.I F k):=rfl
theorem aJq{cd:E}(ec:cd=.fn 1 (.pr (.fn 1 (.pr X (.int 0))) (.fn 6 (.pr (.fn 8 (.pr v (.int 12))) (.int 1)))))(h0:0<=E.I F v)(hv:E.I F v=E.I F (.fn 120 (.pr X (.pr k (.fn 9 (.pr (.fn 1 (.pr X (.int 0))) (.int 12))))))):
  ((E.I F (.fn 141 (.pr C cd))=1/\0<=E.I F (.fn 142 (.pr C cd))/\E.I F (.fn 142 (.pr C cd))<4)->E.I F (.fn 150 (.pr C (.pr X k)))=E.I F (.fn 142 (.pr C cd)))/\
  (¬(E.I F (.fn 141 (.pr C cd))=1/\0<=E.I F (.fn 142 (.pr C cd))/\E.I F (.fn 142 (.pr C cd))<4)->E.I F (.fn 150 (.pr C (.pr X k)))=-1):=by
 have en:(E.I F (.fn 9 (.pr (.fn 1 (.pr X (.int 0))) (.int 12)))).toNat=aN (X.den F):=rfl
 rw[sO,en]at hv
 have c1:=gv (X:=X) h0 1;grind[Bi,B7,xD,gY]
end
end Go.SX

set_option linter.unusedVariables false
set_option linter.unusedSimpArgs false
namespace Go.SX
theorem P0:∀l:List Int,(bM l).length=l.length/2
 |[]=>rfl
 |[_]=>by simp[bM]
 |a::b::l=>by
  show(bM l).length+1=_
  rw[P0 l];grind
theorem Vy:∀(l r:List Int),l.length%2=0->bM (l++r)=bM l++bM r
 |[],r,_=>rfl
 |[_],r,h=>by simp at h
 |a::b::l,r,h=>by
  show b::bM (l++r)=b::(bM l++bM r)
  rw[Vy l r (by grind)]
theorem sB(l:List U)(X:U)(p:Int):∀n,(cF l X p n).length%2=0
 |0=>rfl
 |n+1=>by
  rw[wa,List.length_append]
  have:=sB l X p n
  grind
section
variable {F:Env} {x y l A a b k u i j p q n m r o c d w v X T N L e t C z s m0 m1 m2 m3:E}
end
end Go.SX

set_option linter.unusedVariables false
set_option linter.unusedSimpArgs false
namespace Go.SX
/-! ### numbers in order -/
theorem NZ(x:Int):∀l,(ov x l).Perm (x::l)
 |[]=>.refl _
 |y::l=>by
  unfold ov;split
  ·rfl
  ·exact((NZ x l).cons y).trans (.swap x y l)
theorem qa:∀l,(eh l).Perm l
 |[]=>.refl _
 |x::l=>(NZ x _).trans ((qa l).cons x)
theorem SC(x:Int):∀l:List Int,l.Pairwise (·<=·)->(ov x l).Pairwise (·<=·)
 |[],_=>by simp[ov]
 |y::l,h=>by
  obtain⟨h1,h2⟩:=List.pairwise_cons.1 h
  unfold ov;split
  ·grind[List.pairwise_cons]
  ·refine List.pairwise_cons.2 ⟨fun a ha=>?_,SC x l h2⟩;rcases List.mem_cons.1 ((NZ x l).mem_iff.1 ha)with rfl|ha
   all_goals grind
theorem BT:∀l:List Int,(eh l).Pairwise (·<=·)
 |[]=>.nil
 |x::l=>SC x _ (BT l)
theorem asF{a b:List Int}(ha:a.Pairwise (·<=·))(hb:b.Pairwise (·<=·))(h:a.Perm b):a=b:=
 List.Perm.eq_of_pairwise (le:=(·<=·)) (fun a b _ _ h1 h2=>Int.le_antisymm h1 h2) ha hb h
theorem aeh{a l:List Int}(ha:a.Pairwise (·<=·))(h:a.Perm l):a=eh l:=asF ha (BT l) (h.trans (qa l).symm)
/-- a number is put where it belongs -/
theorem avh{x l:List Int}{v:Int}{n:Nat}(h:x=eh l)(hn:n<=x.length)(hlo:∀a∈x.take n,a<v)(hhi:n=x.length\/v<=x.getD n 0):x.take n++(v ::x.drop n)=eh (l++[v]):=by
  have hs:x.Pairwise (· <= ·):=by simp_all[BT]
  have hp:x.Perm l:=by simp_all[qa]
  refine aeh ?_ ?_
  · have hs':=hs
    rw[<- List.take_append_drop n x,List.pairwise_append]at hs'
    obtain⟨h1,h2,h3⟩:=hs'
    have hd:∀a∈x.drop n,v<=a:=by
      intro a ha;rcases hhi with e|hv
      · simp_all
      · obtain⟨k,hk,rfl⟩:=List.mem_iff_getElem.1 ha
        rw[List.length_drop]at hk
        have hg:x.getD n 0=x[n]'(by omega):=by
          grind
        rcases Nat.eq_zero_or_pos k with rfl|hk0
        all_goals grind[List.pairwise_iff_getElem]
    rw[List.pairwise_append]
    refine⟨h1,List.pairwise_cons.2 ⟨hd,h2⟩,fun a ha b hb=>?_⟩
    rcases List.mem_cons.1 hb with rfl|hb
    · exact Int.le_of_lt (hlo a ha)
    · exact h3 a ha b hb
  grind[List.take_append_drop,List.perm_middle]
/-! ### the sources in order: both agree -/
theorem DA{X:U}{p:Int}(h:ff X p=true):dJ X=true/\0<=p/\p<=1:=by
 unfold ff at h
 rw[Bool.and_eq_true,hE,<- TC]at h
 simp_all[rY]
theorem abw{X:U}(h:dJ X=true):∀i j,i<j->j<aN X->oI X i 0<oI X j 0:=by
 have ho:=(mm X _).1 (wJ h);exact abf (f:=fun i=>oI X i 0) fun i hi=>(ho i hi).2.1
theorem ZP{X:U}(h:dJ X=true):(lm X).Nodup:=by
 grind[mm,wJ,CP]
theorem RI{X:U}(h:dJ X=true){z:Nat}(hz:z<8){k:Int}(hk:k∈bn X z):∃i,i<aN X/\oI X i 0=k/\oI X i 2=((z/4:Nat):Int):=by
 have ho:=(mm X _).1 (wJ h);have hin:=ZP h;have hl:(dy X).length=aN X:=by
  simp_all[dJ]
 have hp:=ME (oP X) (dy X) (KK (by simp_all[Oj])) (by
  intro x hx
  obtain⟨i,hi,rfl⟩:=List.mem_map.1 hx
  simp_all[zw]) (by simp_all[oP])
 have hm:(k,(z/4:Int))∈dy X:=by
  obtain⟨r,hr⟩:=Es X z _ hz
  rw[hr]
  unfold fQ
  rw[List.take_length]
  exact List.mem_append.2 (Or.inl (List.mem_append.2 (Or.inr (List.mem_map.2 ⟨k,hk,rfl⟩))))
 obtain⟨i,hi,e⟩:=List.mem_map.1 (hp.mem_iff.2 hm)
 grind
theorem FC{X:U}(h:dJ X=true){i:Nat}(hi:i<aN X):dv X (oI X i 0) (aN X)=i:=by
 have h0:=Nx (X:=X) hi rfl
 obtain⟨h1,h2⟩:=Jt h0
 have:=OL (ZP h) h1 hi h2
 omega
theorem Ht(l:List U){X:U}(h:dJ X=true){i:Nat}(hi:i<aN X):gY l X (oI X i 0)=if eZ l (oI X i 1) 1==1&&decide (0<=eZ l (oI X i 1) 7)&&decide (eZ l (oI X i 1) 7<4)then eZ l (oI X i 1) 7 else -1:=by
 simp_all[gY,FC]
theorem Qg:∀(l r:List Int),l.length%2=0->bi (l++r)=bi l++bi r
 |[],r,_=>rfl
 |[_],r,h=>by simp at h
 |a::b::l,r,h=>by
  show a::bi (l++r)=a::(bi l++bi r)
  rw[Qg l r (by grind)]
theorem qm(l:List U)(X:U)(p:Int):∀n,bi (cF l X p n)=((List.range n).filter (jO l X p)).map fun i=>oI X i 0
 |0=>rfl
 |n+1=>by
  rw[wa,Qg _ _ (sB l X p n),qm l X p n,List.range_succ,List.filter_append,List.map_append]
  by_cases h:jO l X p n=true
  ·rw[if_pos h,List.filter_cons_of_pos h];rfl
  ·rw[if_neg h,List.filter_cons_of_neg h];rfl
theorem aet(l:List U)(X:U)(p:Int):∀n,bM (cF l X p n)=((List.range n).filter (jO l X p)).map fun i=>eZ l (oI X i 1) 7
 |0=>rfl
 |n+1=>by
  rw[wa,Vy _ _ (sB l X p n),aet l X p n,List.range_succ,List.filter_append,List.map_append]
  by_cases h:jO l X p n=true
  ·rw[if_pos h,List.filter_cons_of_pos h];rfl
  ·rw[if_neg h,List.filter_cons_of_neg h];rfl
theorem M1(l:List U)(X:U)(p:Int)(i:Nat):jO l X p i=true↔oI X i 2=p/\((cX X 0).toL.getD (i*12+9) (.bool false)).toB=false/\eZ l (oI X i 1) 1=1/\0<=eZ l (oI X i 1) 7/\eZ l (oI X i 1) 7<4/\oI X i 0∈bn X (4*p.toNat+2):=by
 simp_all[jO,and_assoc]
theorem aes(l:List U){X:U}{p:Int}(h:ff X p=true){n:Nat}(hn:(bn X (4*p.toNat+2)).length<=n):eh (om l X p n)=bi (cF l X p (aN X)):=by
 obtain⟨hp,p0,p1⟩:=DA h
 have hz:4*p.toNat+2<8:=by omega
 have hz4:(((4*p.toNat+2)/4:Nat):Int)=p:=by omega
 have hlt:=abw hp;have hpw:(bi (cF l X p (aN X))).Pairwise (· < ·):=by
  grind[qm,List.Pairwise.imp_of_mem,List.pairwise_lt_range]
 symm;refine aeh (hpw.imp fun {a b} h=>Int.le_of_lt h) ?_
 refine(List.perm_ext_iff_of_nodup (hpw.imp fun {a b} h=>by omega) ?_).2 fun k=>?_
 ·grind[om,List.take_of_length_le,Lk]
 ·rw[qm,List.mem_map]
  unfold om
  rw[List.take_of_length_le hn,List.mem_filter]
  constructor
  ·rintro⟨i,hi,rfl⟩
   simp_all[List.mem_filter,List.mem_range,M1,Ht,FC,Int.toNat_natCast]
  ·rintro⟨hk,hm⟩
   obtain⟨i,hi,rfl,ho⟩:=RI hp hz hk
   rw[Ht l hp hi,FC hp hi,Int.toNat_natCast]at hm
   simp only[Bool.and_eq_true,decide_eq_true_eq,Bool.not_eq_true']at hm
   refine⟨i,List.mem_filter.2 ⟨List.mem_range.2 hi,?_⟩,rfl⟩
   grind[M1]
theorem aaM(l:List U){X:U}{p:Int}(h:ff X p=true){i:Nat}(hi:i<(bi (cF l X p (aN X))).length):
  gY l X ((bi (cF l X p (aN X))).getD i 0)=(bM (cF l X p (aN X))).getD i 0/\0<=dv X ((bi (cF l X p (aN X))).getD i 0) (aN X):=by
 obtain⟨hp,p0,p1⟩:=DA h
 rw[qm]at *
 rw[aet]
 have hl:i<((List.range (aN X)).filter (jO l X p)).length:=by simp_all
 rw[List.getD_eq_getElem?_getD,List.getD_eq_getElem?_getD,List.getElem?_map,List.getElem?_map,List.getElem?_eq_getElem hl]
 have hm:=List.getElem_mem hl;generalize ((List.range _).filter _)[i]=q at hm;simp_all[M1,Ht,FC]
section
variable {F:Env} {x y l A a b k u i j p q n m r o c d w v X T N L e t C z s m0 m1 m2 m3:E}
theorem oq(F:Env)(a:E):0<=E.I F (.fn 9 a):=Int.natCast_nonneg _
/-! numbers in order -/
theorem sD:(E.B F (.fn 152 (.pr x (.pr l i)))=true)=(ay F x=eh ((ay F l).take (E.I F i).toNat)):=by
 show((bJ _==eh _)=true)=_
 rw[beq_iff_eq];rfl
theorem IB:(E.B F (.fn 160 (.pr x (.pr v i)))=true)=(∀a∈(ay F x).take (E.I F i).toNat,a<E.I F v):=by
 show(((bJ _).take _).all _=true)=_
 simp only[List.all_eq_true,decide_eq_true_eq];rfl
theorem Jj:(E.B F (.fn 161 (.pr x (.pr y i)))=true)=((ay F x).take (E.I F i).toNat=(ay F y).take (E.I F i).toNat):=by
 show(((bJ _).take _==(bJ _).take _)=true)=_
 rw[beq_iff_eq];rfl
theorem aGc(h:E.I F i<=0):E.B F (.fn 152 (.pr (.fn 10 a) (.pr l i)))=true:=by
 have e:(E.I F i).toNat=0:=by omega
 rw[sD,e];rfl
theorem aKn(h:E.B F (.fn 152 (.pr x (.pr l i)))=true)(e:E.I F n=E.I F i):E.B F (.fn 152 (.pr x (.pr l n)))=true:=by
 simp_all[sD]
theorem aJs(h:E.B F (.fn 152 (.pr x (.pr l i)))=true)(h0:0<=E.I F i)(h1:E.I F i<=E.I F (.fn 0 l)):E.I F (.fn 0 x)=E.I F i:=by
 rw[sD]at h
 rw[<- br]at *
 rw[h,(qa _).length_eq,List.length_take];omega
theorem akP(h:E.I F i<=0):E.B F (.fn 160 (.pr x (.pr v i)))=true:=by
 have e:(E.I F i).toNat=0:=by omega
 grind[IB]
theorem aJD(h:E.B F (.fn 160 (.pr x (.pr v i)))=true)(h0:0<=E.I F i)(h1:E.I F i<E.I F (.fn 0 x))(hn:E.I F n=E.I F i+1)(hv:E.I F (.fn 1 (.pr x i))<E.I F v):E.B F (.fn 160 (.pr x (.pr v n)))=true:=by
 have en:(E.I F n).toNat=(E.I F i).toNat+1:=by omega
 grind[IB,fE,kD]
/-- the list that Sorted makes in a step -/
theorem BR(h:E.B F (.fn 152 (.pr x (.pr l i)))=true)(h':E.B F (.fn 160 (.pr x (.pr v j)))=true)(ev:v= .fn 1 (.pr l i))(h0:0<=E.I F i)(h1:E.I F i<E.I F (.fn 0 l))(hn:E.I F n=E.I F i+1)
    (j0:0<=E.I F j)(j1:E.I F j<=E.I F (.fn 0 x))(hj:E.I F (.fn 0 x)<=E.I F j\/E.I F v<=E.I F (.fn 1 (.pr x j)))
    (hy:ay F y=(ay F x).take (E.I F j).toNat++(E.I F v ::(ay F x).drop (E.I F j).toNat)):E.B F (.fn 152 (.pr y (.pr l n)))=true:=by
  subst ev;have en:(E.I F n).toNat=(E.I F i).toNat+1:=by omega
  rw[sD]at h
  rw[IB]at h'
  rw[<- br]at h1 j1 hj
  grind[fE,avh,E.I,sD,kD]
theorem yc:ay F (.fn 4 (.pr l (.pr a b)))=((ay F l).take (E.I F b).toNat).drop (E.I F a).toNat:=by
 show(((E.L F l).take _).drop _).map _=_
 rw[List.map_drop,List.map_take];rfl
theorem az8(h0:0<=E.I F a)(h1:E.I F a<=E.I F b)(h2:E.I F b<=E.I F (.fn 0 l)):E.I F (.fn 0 (.fn 4 (.pr l (.pr a b))))=E.I F b-E.I F a:=by
 rw[<- br]at *
 grind[yc]
theorem aK2(ev:v=.fn 1 (.pr l i))(h0:E.I F i=0)(h1:0<E.I F (.fn 0 l))(hn:E.I F n=1):E.B F (.fn 152 (.pr (.fn 23 (.pr v (.fn 10 a))) (.pr l n)))=true:=by
 have e:=BR (F:=F) (x:=.fn 10 (.int 0)) (j:=.int 0) (y:=.fn 23 (.pr v (.fn 10 a))) (n:=n) (aGc (l:=l) (i:=i) (by omega)) (akP (v:=v) (Int.le_refl _)) ev (by omega) (by omega) (by omega) (Int.le_refl _) (by rw[<- br,oH];simp_all) (Or.inl (by rw[<- br,oH];simp_all)) (by rfl);exact e
theorem aKs(h:E.B F (.fn 152 (.pr x (.pr l i)))=true)(h':E.B F (.fn 160 (.pr x (.pr v j)))=true)(ev:v=.fn 1 (.pr l i))(h0:0<=E.I F i)(h1:E.I F i<E.I F (.fn 0 l))(hn:E.I F n=E.I F i+1)
  (j0:0<=E.I F j)(j1:E.I F j<=E.I F (.fn 0 x))(hj:E.I F (.fn 0 x)<=E.I F j\/E.I F v<=E.I F (.fn 1 (.pr x j)))(he:E.I F (.fn 0 x)<=E.I F e):
  (E.I F (.fn 0 x)<=E.I F j->E.B F (.fn 152 (.pr (.fn 3 (.pr (.fn 4 (.pr x (.pr (.int 0) j))) (.fn 23 (.pr v (.fn 10 (.int 0)))))) (.pr l n)))=true)/\
  (E.I F j=0->E.B F (.fn 152 (.pr (.fn 3 (.pr (.fn 23 (.pr v (.fn 10 (.int 0)))) (.fn 4 (.pr x (.pr j e))))) (.pr l n)))=true)/\
  E.B F (.fn 152 (.pr (.fn 3 (.pr (.fn 4 (.pr x (.pr (.int 0) j))) (.fn 3 (.pr (.fn 23 (.pr v (.fn 10 (.int 0)))) (.fn 4 (.pr x (.pr j e))))))) (.pr l n)))=true:=by
 have z0:(E.I F (.int 0)).toNat=0:=rfl;have hx:=br (F:=F) (l:=x);have hd:((ay F x).take (E.I F e).toNat)=ay F x:=List.take_of_length_le (by omega)
 refine⟨fun hf=>?_,fun hz=>?_,?_⟩
 ·refine BR h h' ev h0 h1 hn j0 j1 hj ?_;grind[jR,yc,tc,oH]
 ·refine BR h h' ev h0 h1 hn j0 j1 hj ?_;simp_all[jR,yc,tc,oH]
 ·refine BR h h' ev h0 h1 hn j0 j1 hj ?_;simp_all[jR,yc,tc,oH]
/-! equal lists -/
theorem aLc(h:E.B F (.fn 161 (.pr x (.pr y i)))=true)(e:E.I F n=E.I F i):E.B F (.fn 161 (.pr x (.pr y n)))=true:=by
 simp_all[Jj]
theorem aKx(h:E.B F (.fn 161 (.pr x (.pr y i)))=true)(h0:0<=E.I F i)(h1:E.I F i<E.I F (.fn 0 x))(h2:E.I F (.fn 0 y)=E.I F (.fn 0 x))(hn:E.I F n=E.I F i+1)(hv:E.I F (.fn 1 (.pr x i))=E.I F (.fn 1 (.pr y i))):E.B F (.fn 161 (.pr x (.pr y n)))=true:=by
 have en:(E.I F n).toNat=(E.I F i).toNat+1:=by omega
 grind[br,Jj,fE,kD]
theorem aKd(h0:0<=E.I F i)(h1:E.I F i<E.I F (.fn 0 x))(h2:E.I F (.fn 0 y)=E.I F (.fn 0 x))(hn:E.I F i<E.I F n)(hv:¬E.I F (.fn 1 (.pr x i))=E.I F (.fn 1 (.pr y i))):¬E.B F (.fn 161 (.pr x (.pr y n)))=true:=by
 rw[Jj]
 intro h;apply hv
 rw[fE,fE]
 have e:=congrArg (fun l=>l[(E.I F i).toNat]?) h;grind
/-! the reference's sources -/
theorem qO:(E.B F (.fn 151 (.pr x (.pr C (.pr X (.pr p n)))))=true)=(ay F x=om (E.L F C) (X.den F) (E.I F p) (E.I F n).toNat):=by
 show((bJ _==om _ _ _ _)=true)=_
 rw[beq_iff_eq];rfl
theorem kj:(E.B F (.fn 145 (.pr X p))=true)=(ff (X.den F) (E.I F p)=true):=rfl
theorem aK0(h:E.B F (.fn 151 (.pr x (.pr C (.pr X (.pr p i)))))=true)(e:E.I F n=E.I F i):E.B F (.fn 151 (.pr x (.pr C (.pr X (.pr p n)))))=true:=by
 simp_all[qO]
theorem DV(hL:E.B F (.fn 109 (.pr L (.pr X (.pr p (.int 2)))))=true):ay F L=bn (X.den F) (4*(E.I F p).toNat+2):=by
 simp_all[s8,Nat.mul_comm]
theorem aJi(hL:E.B F (.fn 109 (.pr L (.pr X (.pr p (.int 2)))))=true)(hf:E.B F (.fn 145 (.pr X p))=true){k:E}(ek:k=.fn 1 (.pr L i))(h0:0<=E.I F i)(h1:E.I F i<E.I F (.fn 0 L)):
  0<=E.I F (.fn 120 (.pr X (.pr k (.fn 9 (.pr (.fn 1 (.pr X (.int 0))) (.int 12)))))):=by
 subst ek
 obtain⟨hp,p0,p1⟩:=DA (kj▸hf)
 rw[<- br]at h1
 have hm:E.I F (.fn 1 (.pr L i))∈bn (X.den F) (4*(E.I F p).toNat+2):=by
  grind[DV,fE]
 obtain⟨q,hq,he,_⟩:=RI hp (by omega) hm
 exact Nx hq he
theorem aJu(h:E.B F (.fn 151 (.pr x (.pr C (.pr X (.pr p i)))))=true)(hL:E.B F (.fn 109 (.pr L (.pr X (.pr p (.int 2)))))=true){k v q tp:E}(ek:k= .fn 1 (.pr L i))(et:tp= .fn 1 (.pr (.fn 1 (.pr X (.int 0))) (.fn 6 (.pr (.fn 8 (.pr q (.int 12))) (.int 9)))))
    (h0:0<=E.I F i)(h1:E.I F i<E.I F (.fn 0 L))(hn:E.I F n=E.I F i+1)(hv:E.I F v=E.I F (.fn 150 (.pr C (.pr X k)))):
    (¬0<=E.I F v->E.B F (.fn 151 (.pr x (.pr C (.pr X (.pr p n)))))=true)/\(E.I F q=E.I F (.fn 120 (.pr X (.pr k (.fn 9 (.pr (.fn 1 (.pr X (.int 0))) (.int 12))))))->0<=E.I F q->
     (E.B F tp=true->E.B F (.fn 151 (.pr x (.pr C (.pr X (.pr p n)))))=true)/\
     (0<=E.I F v->¬E.B F tp=true->E.B F (.fn 151 (.pr (.fn 3 (.pr x (.fn 23 (.pr k (.fn 10 (.int 0)))))) (.pr C (.pr X (.pr p n)))))=true/\(ay F x= []->E.B F (.fn 151 (.pr (.fn 23 (.pr k (.fn 10 (.int 0)))) (.pr C (.pr X (.pr p n)))))=true))):=by
  subst ek;subst et;have en:(E.I F n).toNat=(E.I F i).toNat+1:=by omega
  rw[<- br]at h1
  have hz:=DV hL;have e9:(E.I F (.fn 9 (.pr (.fn 1 (.pr X (.int 0))) (.int 12)))).toNat=aN (X.den F):=rfl;have hs:om (E.L F C) (X.den F) (E.I F p) ((E.I F i).toNat+1)=om (E.L F C) (X.den F) (E.I F p) (E.I F i).toNat ++
      if(decide (0<=gY (E.L F C) (X.den F) (E.I F (.fn 1 (.pr L i)))) && !((cX (X.den F) 0).toL.getD ((dv (X.den F) (E.I F (.fn 1 (.pr L i))) (aN (X.den F))).toNat*12+9) (.bool false)).toB)then [E.I F (.fn 1 (.pr L i))] else []:=by
    grind[om,kD,fE]
  rw[Bi]at hv
  rw[sO,e9]
  rw[qO]at h
  rw[qO,qO,qO,en,hs,<- hv]
  refine⟨fun hneg=>?_,fun hq hq0=>?_⟩
  · grind
  · have c9:E.B F (.fn 1 (.pr (.fn 1 (.pr X (.int 0))) (.fn 6 (.pr (.fn 8 (.pr q (.int 12))) (.int 9)))))=((cX (X.den F) 0).toL.getD ((dv (X.den F) (E.I F (.fn 1 (.pr L i))) (aN (X.den F))).toNat*12+9) (.bool false)).toB:=by
      rw[Ub,<- hq]
      have e:(E.I F q*12+9).toNat=(E.I F q).toNat*12+9:=by omega
      show((cX (X.den F) 0).toL.getD (E.I F q*12+9).toNat (.int 0)).toB=_
      rw[e]
    simp_all[if_neg,List.append_nil,if_pos,jR,tc,oH]
theorem aJM(h:E.B F (.fn 151 (.pr (.fn 10 a) (.pr C (.pr X (.pr p i)))))=true)(hL:E.B F (.fn 109 (.pr L (.pr X (.pr p (.int 2)))))=true)(hf:E.B F (.fn 145 (.pr X p))=true)(h1:E.I F (.fn 0 L)<=E.I F i):E.B F (.fn 144 (.pr (.fn 10 b) (.pr C (.pr X p))))=true:=by
 rw[qO]at h
 rw[<- br,DV hL]at h1
 rw[qx,<- aes _ (kj▸hf) (n:=(E.I F i).toNat) (by omega),<- h];rfl
theorem aJO(h:E.B F (.fn 151 (.pr x (.pr C (.pr X (.pr p i)))))=true)(hL:E.B F (.fn 109 (.pr L (.pr X (.pr p (.int 2)))))=true)(hf:E.B F (.fn 145 (.pr X p))=true)
  (hy:E.B F (.fn 152 (.pr y (.pr x n)))=true)(h1:E.I F (.fn 0 L)<=E.I F i)(hx:E.I F (.fn 0 x)<=E.I F n):E.B F (.fn 144 (.pr y (.pr C (.pr X p))))=true:=by
 rw[qO]at h
 rw[sD]at hy
 rw[<- br]at hx
 rw[List.take_of_length_le (by omega)]at hy
 rw[<- br,DV hL]at h1
 grind[qx,aes,kj]
theorem Tb(l:List U)(X:U)(p:Int):∀n,(cF l X p n).length<=2*n
 |0=>by simp[acI]
 |n+1=>by
  rw[wa,List.length_append]
  have:=Tb l X p n
  grind
/-! the law -/
end
end Go.SX

set_option linter.unusedVariables false
set_option linter.unusedSimpArgs false
namespace Go.SX
/-! ### values that are equal -/
mutual
theorem U.eq_rfl:∀u:U,U.eq u u=true
 |.int a=>by simp[U.eq]
 |.bool a=>by simp[U.eq]
 |.str a=>by simp[U.eq]
 |.lst l=>by exact U.eqs_rfl l
 |.bx _ _ _ l=>by exact U.eqs_rfl l
theorem U.eqs_rfl:∀l,U.eqs l l=true
 |[]=>rfl
 |x::xs=>by simp only[U.eqs,U.eq_rfl x,U.eqs_rfl xs,Bool.and_self]
end
theorem pH{a b:U}(h:U.eq a b=true):a.toI=b.toI:=by cases a<;>cases b<;>simp_all[U.eq,U.toI]
theorem Q1{a b:U}(h:U.eq a b=true):a.toB=b.toB:=by cases a<;>cases b<;>simp_all[U.eq,U.toB]
theorem l7{a b:U}(h:U.eq a b=true):U.eqs a.toL b.toL=true:=by cases a<;>cases b<;>simp_all[U.eq,U.toL,U.eqs]
theorem lq:∀ {l m:List U},U.eqs l m=true->l.length=m.length
 |[],[],_=>rfl
 |x::xs,y::ys,h=>by
  simp only[U.eqs,Bool.and_eq_true]at h;simp[lq h.2]
theorem qq:∀ {l m:List U} (i:Nat),U.eqs l m=true->U.eq (l.getD i (.int 0)) (m.getD i (.int 0))=true
 |[],[],_,_=>by rfl
 |x::xs,y::ys,0,h=>by simp_all[U.eqs]
 |x::xs,y::ys,i+1,h=>by simp only[U.eqs,Bool.and_eq_true]at h;simpa using qq i h.2
theorem YC:∀ {l m a b:List U},U.eqs l m=true->U.eqs a b=true->U.eqs (l++a) (m++b)=true
 |[],[],_,_,_,h=>h
 |x::xs,y::ys,_,_,h,h'=>by
  simp only[U.eqs,Bool.and_eq_true,List.cons_append]at h ⊢
  exact⟨h.1,YC h.2 h'⟩
theorem acA(l:List U){i n:Nat}(h:i<n):(l.take n).getD i (.int 0)=l.getD i (.int 0):=by grind
theorem aEA(l:List U)(n:Nat)(h:n<l.length):l.take (n+1)=l.take n++[l.getD n (.int 0)]:=by
 simp_all
theorem aG6(l:List U)(n:Nat)(h:n+5<=l.length):l.take (n+5)=l.take n++[l.getD n (.int 0),l.getD (n+1) (.int 0),l.getD (n+2) (.int 0),l.getD (n+3) (.int 0),l.getD (n+4) (.int 0)]:=by
 grind[aEA,List.append_assoc]
section
variable {F:Env} {x y l A a b k u i j p q n m r o c d w v X T N L e t C z s:E}
theorem adQ(h:E.B F (.fn 12 (.pr a b))=true)(i:E):E.B F (.fn 12 (.pr (.fn 1 (.pr a i)) (.fn 1 (.pr b i))))=true:=qq _ (l7 h)
theorem aJm(h:E.B F (.fn 12 (.pr a b))=true)(i:E):E.I F (.fn 1 (.pr a i))=E.I F (.fn 1 (.pr b i)):=pH (adQ h i)
theorem aJI(h:E.B F (.fn 12 (.pr a b))=true)(i:E):E.B F (.fn 1 (.pr a i))=E.B F (.fn 1 (.pr b i)):=Q1 (adQ h i)
theorem aKy(h:E.B F (.fn 12 (.pr a b))=true):E.I F (.fn 0 a)=E.I F (.fn 0 b):=by
 show((E.L F a).length:Int)=(E.L F b).length
 have e:(E.L F a).length=(E.L F b).length:=lq (l7 (a:=a.den F) (b:=b.den F) h)
 rw[e]
theorem apc(h:E.B F (.fn 12 (.pr a b))=true)(w:E):E.I F (.fn 9 (.pr a w))=E.I F (.fn 9 (.pr b w)):=by
 show((E.L F a).length/(E.I F w).toNat:Nat)=(((E.L F b).length/(E.I F w).toNat:Nat):Int)
 have e:(E.L F a).length=(E.L F b).length:=lq (l7 (a:=a.den F) (b:=b.den F) h)
 rw[e]
/-! whole dG of items -/
theorem sy:(E.B F (.fn 187 (.pr a b))=true)=(im (E.L F a) (E.L F b)=true):=rfl
theorem pA(l m:List U):im l m=true↔l.length/5=m.length/5/\U.eqs (l.take (l.length/5*5)) (m.take (m.length/5*5))=true:=by
 simp_all[im]
theorem aJE(h:E.B F (.fn 187 (.pr a b))=true):E.I F (.fn 9 (.pr a (.int 5)))=E.I F (.fn 9 (.pr b (.int 5))):=by
 rw[sy,pA]at h
 show(E.L F a).length/5=((E.L F b).length/5:Int)
 omega
theorem QM(h:E.B F (.fn 187 (.pr a b))=true)(h0:0<=E.I F i)(h1:E.I F i<E.I F (.fn 9 (.pr b (.int 5)))){j:Nat}(hj:j<5):E.B F (.fn 12 (.pr (bQ a i 5 j) (bQ b i 5 j)))=true:=by
 rw[sy,pA]at h
 obtain⟨n,hn⟩:=Int.eq_ofNat_of_zero_le h0
 have e9:E.I F (.fn 9 (.pr b (.int 5)))=(E.L F b).length/5:=rfl;have ei:(E.I F i*5+j).toNat=n*5+j:=by omega
 have:=qq (n*5+j) h.2
 rw[acA _ (by omega),acA _ (by omega)]at this
 show U.eq ((E.L F a).getD (E.I F i*5+j).toNat _) ((E.L F b).getD (E.I F i*5+j).toNat _)=true;simp_all
theorem aKo(h:E.B F (.fn 187 (.pr a b))=true)(h0:0<=E.I F i)(h1:E.I F i<E.I F (.fn 9 (.pr b (.int 5)))){j:Nat}(hj:j<5):E.I F (bQ a i 5 j)=E.I F (bQ b i 5 j):=pH (QM h h0 h1 hj)
/-! as far as they are copied -/
theorem Km:(E.B F (.fn 181 (.pr a (.pr b n)))=true)=(U.eqs ((E.L F a).take (E.I F n).toNat) ((E.L F b).take (E.I F n).toNat)=true):=rfl
end
end Go.SX

set_option linter.unusedVariables false
set_option linter.unusedSimpArgs false
namespace Go.SX
/-! ### paying, step by step -/
theorem Jv{f:Pu->Option Pu}{s:Pu}:∀ {n m:Nat},n<=m->cR f n s=none->cR f m s=none
 |n,0,h,e=>by simp_all
 |n,m+1,h,e=>by
  by_cases h':n=m+1
  ·simp_all
  ·show(cR f m s).bind f=none
   rw[Jv (by omega) e];rfl
theorem tl{f:Pu->Option Pu}{s t:Pu}{n:Nat}(h:cR f n s=some t):cR f (n+1) s=f t:=by
 simp_all[cR]
/-- from the pool -/
theorem ya{k:Nat}:∀ {n:Nat} {s:Pu},k<s.1.length->(n:Int)<=s.1.getD k 0->cR (fw k) n s=some (s.1.set k (s.1.getD k 0-n),s.2)
  |0,s,hk,h=>by
    show some s=_;simp_all
  |n+1,s,hk,h=>by
    rw[tl (ya (n:=n) hk (by omega))]
    unfold fw eH;grind[List.set_set]
theorem qv{k:Int}{s t:Pu}:ga k s=some t↔0<=bB k s.2.1 0/\t=fJ (bB k s.2.1 0).toNat s:=by
 simp_all[ga,eq_comm]
theorem EA{k:Int}{s:Pu}:ga k s=none↔bB k s.2.1 0<0:=by
 simp_all[ga]
theorem Db{k:Nat}{s:Pu}(h:s.1.getD k 0<=0):fw k s=ga k s:=by simp_all[fw,if_neg]
theorem kc{k:Nat}(h:k<4):fZ k=fw k:=by simp_all[fZ]
/-! the whole plan -/
theorem qL{c:List Int}{k:Nat}(hk:k<4)(s:Pu):bN c (k+1) 0 s=bN c k (c.getD k 0).toNat s:=by
 unfold bN
 rw[kc hk]
 have e:∀x:Option Pu,x.bind (fun t=>some t)=x:=fun x=>by simp_all
 exact e _
theorem Br{c:List Int}{k n:Nat}{s t u:Pu}(h:bN c k 0 s=some t)(h':cR (fZ k) n t=some u):bN c k n s=some u:=by
 have e:=by
  have e:∀x:Option Pu,x.bind (fun t=>some t)=x:=fun x=>by simp_all
  exact(e _).symm.trans h
 simp_all[bN]
theorem Bf{c:List Int}{k n:Nat}{s t:Pu}(h:bN c k 0 s=some t)(h':cR (fZ k) n t=none):bN c k n s=none:=by
 have e:=by
  have e:∀x:Option Pu,x.bind (fun t=>some t)=x:=fun x=>by simp_all
  exact(e _).symm.trans h
 simp_all[bN]
theorem iJ{c:List Int}{k n:Nat}{s t:Pu}(h:bN c k n s=some t):bN c k (n+1) s=fZ k t:=by
 unfold bN at *;cases e:fm c k s with
 |none=>simp_all
 |some u=>simp_all[tl]
theorem zd{c:List Int}{k n m:Nat}{s:Pu}(hn:n<=m)(h:bN c k n s=none):bN c k m s=none:=by
 unfold bN at *;cases e:fm c k s with
 |none=>rfl
 |some u=>grind[Jv]
/-- what fails once fails for good -/
theorem Aj{c:List Int}{k n:Nat}{s:Pu}(hk:k<4)(hn:n<=(c.getD k 0).toNat)(h:bN c k n s=none)(m:Nat):bN c 4 m s=none:=by
  have h1:bN c (k+1) 0 s=none:=by grind[qL,zd]
  have up:∀ {j:Nat},j<4->bN c j 0 s=none->bN c _ 0 s=none:=fun hj hj'=>by rw[qL hj];exact zd (Nat.zero_le _) hj'
  have h4:bN c 4 0 s=none:=by
    grind
  exact zd (Nat.zero_le _) h4
/-! what stays true: the sources that are left are some of those that there were -/
theorem JZ{i:Nat}{s:Pu}(h:2*i+2<=s.2.1.length):(fJ i s).2.1.length+2=s.2.1.length/\(fJ i s).2.2.length=s.2.2.length+1:=by
 grind[fJ]
theorem wE{k:Int}:∀ {l:List Int} {i:Nat},0<=bB k l i->(i:Int)<=bB k l i/\2*(bB k l i).toNat+2<=l.length+2*i
 |[],i,h=>by simp[bB]at h
 |[_],i,h=>by simp[bB]at h
 |a::c::l,i,h=>by
  unfold bB at h ⊢;split
  ·grind
  ·rename_i hc
   rw[if_neg hc]at h
   have:=wE h
   grind
end Go.SX

set_option linter.unusedVariables false
set_option linter.unusedSimpArgs false
namespace Go.SX
/-! ### a purse in the facts' words -/
noncomputable def cf(F:Env)(p0 p1 p2 p3 R T:E):Pu:=([E.I F p0,E.I F p1,E.I F p2,E.I F p3],ay F R,ay F T)
theorem Nz{G:Type}[BEq G][LawfulBEq G]{o:Option G}{t:G}:(o.any fun s=>s==t)=true↔o=some t:=by
 cases o with
 |none=>simp
 |some s=>simp
section
variable {F:Env} {p0 p1 p2 p3 q0 q1 q2 q3 R T R1 T1 R2 T2 k n m g i j a b c d x y l v id cE:E}
theorem gW:(E.B F (.fn 170 (.pr q0 (.pr q1 (.pr q2 (.pr q3 (.pr R1 (.pr T1 (.pr k (.pr n (.pr p0 (.pr p1 (.pr p2 (.pr p3 (.pr R (.pr T (.int 0))))))))))))))))=true)=(cR (fZ (E.I F k).toNat) (E.I F n).toNat (cf F p0 p1 p2 p3 R T)=some (cf F q0 q1 q2 q3 R1 T1)):=by
 show(((cR (fZ (E.I F k).toNat) (E.I F n).toNat (cf F p0 p1 p2 p3 R T)).any fun s=>s==(cf F q0 q1 q2 q3 R1 T1))=true)=_
 rw[Nz]
theorem rZ:(E.B F (.fn 171 (.pr k (.pr n (.pr p0 (.pr p1 (.pr p2 (.pr p3 (.pr R (.pr T (.int 0))))))))))=true)=(cR (fZ (E.I F k).toNat) (E.I F n).toNat (cf F p0 p1 p2 p3 R T)=none):=by
 show((cR (fZ (E.I F k).toNat) (E.I F n).toNat (cf F p0 p1 p2 p3 R T)).isNone=true)=_
 simp_all
theorem KN:(E.B F (.fn 174 (.pr R1 (.pr T1 (.pr k (.pr R (.pr T (.int 0)))))))=true)=(ga (E.I F k) ([],ay F R,ay F T)=some ([],ay F R1,ay F T1)):=by
 show(((ga (E.I F k) ([],ay F R,ay F T)).any fun s=>s==([],ay F R1,ay F T1))=true)=_
 rw[Nz]
theorem qD:E.I F (.fn 175 (.pr k (.pr R n)))=bB (E.I F k) ((ay F R).take (2*(E.I F n).toNat)) 0:=rfl
theorem oZ:(E.B F (.fn 185 (.pr p0 (.pr p1 (.pr p2 (.pr p3 (.pr k (.int 0)))))))=true)=(([E.I F p0,E.I F p1,E.I F p2,E.I F p3]:List Int).getD (E.I F k).toNat 0=0):=by
 show(([E.I F p0,E.I F p1,E.I F p2,E.I F p3].getD (E.I F k).toNat 0==0)=true)=_
 simp_all
theorem bh:(E.B F (.fn 188 (.pr p0 (.pr p1 (.pr p2 (.pr p3 (.int 0))))))=true)=(0<=E.I F p0/\E.I F p0<=99/\0<=E.I F p1/\E.I F p1<=99/\0<=E.I F p2/\E.I F p2<=99/\0<=E.I F p3/\E.I F p3<=99):=by
 show(([E.I F p0,E.I F p1,E.I F p2,E.I F p3].all fun x=>dc 0 x 99)=true)=_
 simp only[List.all_cons,List.all_nil,Bool.and_eq_true,hE,Bool.and_true,and_assoc]
theorem Nh:(E.B F (.fn 186 (.pr x (.pr R i)))=true)=(ay F x=(ay F R).take (2*(E.I F i).toNat)++(ay F R).drop (2*(E.I F i).toNat+2)):=by
 show((bJ _==(bJ _).take _++(bJ _).drop _)=true)=_
 rw[beq_iff_eq];rfl
/-- tapping does not look at the pool -/
theorem agS{k:Int}{m r t r1 t1:List Int}(h:ga k ([],r,t)=some ([],r1,t1)):ga k (m,r,t)=some (m,r1,t1):=by
  simp_all[qv,fJ]
/-- mana of a colour, from the pool -/
theorem SY{g1:E}(hk:E.I F k=0)(hq:E.I F g1=E.I F p0-E.I F g)(h0:0<=E.I F g)(h1:E.I F g<=E.I F p0):E.B F (.fn 170 (.pr g1 (.pr p1 (.pr p2 (.pr p3 (.pr R (.pr T (.pr k (.pr g (.pr p0 (.pr p1 (.pr p2 (.pr p3 (.pr R (.pr T (.int 0))))))))))))))))=true:=by
  have ek:(E.I F k).toNat=0:=by omega
  rw[gW,ek,kc (by decide),ya (by simp[cf]) (by grind[cf])]
  simp only[cf,List.getD_cons_zero,List.set_cons_zero,Option.some.injEq,Prod.mk.injEq,List.cons.injEq,and_true];omega
theorem agO{g1:E}(hk:E.I F k=1)(hq:E.I F g1=E.I F p1-E.I F g)(h0:0<=E.I F g)(h1:E.I F g<=E.I F p1):E.B F (.fn 170 (.pr p0 (.pr g1 (.pr p2 (.pr p3 (.pr R (.pr T (.pr k (.pr g (.pr p0 (.pr p1 (.pr p2 (.pr p3 (.pr R (.pr T (.int 0))))))))))))))))=true:=by
 have ek:(E.I F k).toNat=1:=by omega
 rw[gW,ek,kc (by decide),ya (by simp[cf]) (by grind[cf])]
 simp only[cf,List.getD_cons_zero,List.getD_cons_succ,List.set_cons_zero,List.set_cons_succ,Option.some.injEq,Prod.mk.injEq,List.cons.injEq,and_true,true_and];omega
theorem QK{g1:E}(hk:E.I F k=2)(hq:E.I F g1=E.I F p2-E.I F g)(h0:0<=E.I F g)(h1:E.I F g<=E.I F p2):E.B F (.fn 170 (.pr p0 (.pr p1 (.pr g1 (.pr p3 (.pr R (.pr T (.pr k (.pr g (.pr p0 (.pr p1 (.pr p2 (.pr p3 (.pr R (.pr T (.int 0))))))))))))))))=true:=by
 have ek:(E.I F k).toNat=2:=by omega
 rw[gW,ek,kc (by decide),ya (by simp[cf]) (by grind[cf])]
 simp only[cf,List.getD_cons_zero,List.getD_cons_succ,List.set_cons_zero,List.set_cons_succ,Option.some.injEq,Prod.mk.injEq,List.cons.injEq,and_true,true_and];omega
theorem abR{g1:E}(hk:E.I F k=3)(hq:E.I F g1=E.I F p3-E.I F g)(h0:0<=E.I F g)(h1:E.I F g<=E.I F p3):E.B F (.fn 170 (.pr p0 (.pr p1 (.pr p2 (.pr g1 (.pr R (.pr T (.pr k (.pr g (.pr p0 (.pr p1 (.pr p2 (.pr p3 (.pr R (.pr T (.int 0))))))))))))))))=true:=by
 have ek:(E.I F k).toNat=3:=by omega
 rw[gW,ek,kc (by decide),ya (by simp[cf]) (by grind[cf])]
 simp only[cf,List.getD_cons_zero,List.getD_cons_succ,List.set_cons_zero,List.set_cons_succ,Option.some.injEq,Prod.mk.injEq,List.cons.injEq,and_true,true_and];omega
theorem MB(h:E.B F (.fn 170 (.pr q0 (.pr q1 (.pr q2 (.pr q3 (.pr R1 (.pr T1 (.pr k (.pr g (.pr p0 (.pr p1 (.pr p2 (.pr p3 (.pr R (.pr T (.int 0))))))))))))))))=true)(h':E.B F (.fn 174 (.pr R2 (.pr T2 (.pr k (.pr R1 (.pr T1 (.int 0)))))))=true)(hp:E.B F (.fn 185 (.pr q0 (.pr q1 (.pr q2 (.pr q3 (.pr k (.int 0)))))))=true)(k0:0<=E.I F k)(k1:E.I F k<=3)(g0:0<=E.I F g)(hm:E.I F m=E.I F g+1):E.B F (.fn 170 (.pr q0 (.pr q1 (.pr q2 (.pr q3 (.pr R2 (.pr T2 (.pr k (.pr m (.pr p0 (.pr p1 (.pr p2 (.pr p3 (.pr R (.pr T (.int 0))))))))))))))))=true:=by
 rw[gW]at h ⊢
 rw[KN]at h'
 rw[oZ]at hp
 have em:(E.I F m).toNat=(E.I F g).toNat+1:=by omega
 have e:=tl h
 rw[kc (by omega)]at e
 rw[em,kc (by omega),e,Db (by simp_all[cf])]
 have ek:(E.I F k).toNat=E.I F k:=by omega
 rw[ek]
 exact agS h'
theorem Gx(h:E.B F (.fn 170 (.pr q0 (.pr q1 (.pr q2 (.pr q3 (.pr R1 (.pr T1 (.pr k (.pr g (.pr p0 (.pr p1 (.pr p2 (.pr p3 (.pr R (.pr T (.int 0))))))))))))))))=true)(h':E.I F (.fn 175 (.pr k (.pr R1 n)))=-1)(hl:E.I F (.fn 0 R1)=E.I F n*2)(hp:E.B F (.fn 185 (.pr q0 (.pr q1 (.pr q2 (.pr q3 (.pr k (.int 0)))))))=true)(k0:0<=E.I F k)(k1:E.I F k<=3)(g0:0<=E.I F g)(hm:E.I F g<E.I F m):E.B F (.fn 171 (.pr k (.pr m (.pr p0 (.pr p1 (.pr p2 (.pr p3 (.pr R (.pr T (.int 0))))))))))=true:=by
 rw[gW]at h
 rw[rZ]
 rw[oZ]at hp
 rw[qD]at h'
 have e:=tl h
 rw[kc (by omega)]at e
 have ek:(E.I F k).toNat=E.I F k:=by omega
 refine Jv (n:=(E.I F g).toNat+1) (by omega) ?_
 rw[kc (by omega),e,Db (by simp_all[cf]),EA,ek]
 have et:(ay F R1).take (2*(E.I F n).toNat)=ay F R1:=List.take_of_length_le (by grind[br])
 rw[et]at h'
 show bB _ (ay F R1) 0<0;omega
theorem gh(h:E.B F (.fn 170 (.pr q0 (.pr q1 (.pr q2 (.pr q3 (.pr R1 (.pr T1 (.pr k (.pr g (.pr p0 (.pr p1 (.pr p2 (.pr p3 (.pr R (.pr T (.int 0))))))))))))))))=true)(hm:E.I F m=E.I F g):E.B F (.fn 170 (.pr q0 (.pr q1 (.pr q2 (.pr q3 (.pr R1 (.pr T1 (.pr k (.pr m (.pr p0 (.pr p1 (.pr p2 (.pr p3 (.pr R (.pr T (.int 0))))))))))))))))=true:=by simp_all[gW]
/-! one mana of any colour -/
def j9(m:List Int)(k i:Nat):Nat:=if m.getD i 0<m.getD k 0 then k else i
theorem xu(m:List Int):fW m=j9 m 3 (j9 m 2 (j9 m 1 0)):=rfl
theorem Hw{m:List Int}{k i:Nat}(h:m.getD i 0<m.getD k 0):j9 m k i=k:=if_pos h
theorem Mb{m:List Int}{k i:Nat}(h:m.getD k 0<=m.getD i 0):j9 m k i=i:=if_neg (by omega)
theorem Hl{a b c d:Int}(h1:b<=a)(h2:c<=a)(h3:d<=a):fW [a,b,c,d]=0:=by
 simp_all[xu,Mb]
theorem GO{a b c d:Int}(h1:a<b)(h2:c<=b)(h3:d<=b):fW [a,b,c,d]=1:=by
 simp_all[xu,Hw,Mb]
theorem aw0(m:List Int):j9 m 2 (j9 m 1 0)=0\/j9 m 2 (j9 m 1 0)=1\/j9 m 2 (j9 m 1 0)=2:=by
 grind[j9]
theorem JO{a b c d:Int}(h1:a<c)(h2:b<c)(h3:d<=c):fW [a,b,c,d]=2:=by
 grind[xu,Hw,Mb]
theorem HP{a b c d:Int}(h1:a<d)(h2:b<d)(h3:c<d):fW [a,b,c,d]=3:=by
 grind[xu,aw0,Hw]
theorem aH1(a b c d:Int):([a,b,c,d]:List Int).getD (fW [a,b,c,d]) 0<=max (max a b) (max c d):=by
 have h:fW [a,b,c,d]=0\/fW [a,b,c,d]=1\/fW [a,b,c,d]=2\/fW [a,b,c,d]=3:=by
  grind[xu,j9]
 grind
theorem qg{s:Pu}{b:Nat}(h:fW s.1=b):ey s=if 0<s.1.getD b 0 then some (eH b s)else ga (-1) s:=by subst h;rfl
theorem azH{g1:E}(hq:E.I F g1=E.I F p0-1)(h0:E.I F p1<=E.I F p0)(h1:E.I F p2<=E.I F p0)(h2:E.I F p3<=E.I F p0)(hp:0<E.I F p0):ey (cf F p0 p1 p2 p3 R T)=some (cf F g1 p1 p2 p3 R T):=by
 rw[qg (s:=(cf F p0 p1 p2 p3 R T)) (b:=0) (Hl h0 h1 h2),if_pos (show 0<(cf F p0 p1 p2 p3 R T).1.getD 0 0 from hp)]
 simp_all[eH,cf]
theorem aqB{g1:E}(hq:E.I F g1=E.I F p1-1)(h0:E.I F p0<E.I F p1)(h1:E.I F p2<=E.I F p1)(h2:E.I F p3<=E.I F p1)(hp:0<E.I F p1):ey (cf F p0 p1 p2 p3 R T)=some (cf F p0 g1 p2 p3 R T):=by
 rw[qg (s:=(cf F p0 p1 p2 p3 R T)) (b:=1) (GO h0 h1 h2),if_pos (show 0<(cf F p0 p1 p2 p3 R T).1.getD 1 0 from hp)]
 simp_all[eH,cf]
theorem aIA{g1:E}(hq:E.I F g1=E.I F p2-1)(h0:E.I F p0<E.I F p2)(h1:E.I F p1<E.I F p2)(h2:E.I F p3<=E.I F p2)(hp:0<E.I F p2):ey (cf F p0 p1 p2 p3 R T)=some (cf F p0 p1 g1 p3 R T):=by
 rw[qg (s:=(cf F p0 p1 p2 p3 R T)) (b:=2) (JO h0 h1 h2),if_pos (show 0<(cf F p0 p1 p2 p3 R T).1.getD 2 0 from hp)]
 simp_all[eH,cf]
theorem aol{g1:E}(hq:E.I F g1=E.I F p3-1)(h0:E.I F p0<E.I F p3)(h1:E.I F p1<E.I F p3)(h2:E.I F p2<E.I F p3)(hp:0<E.I F p3):ey (cf F p0 p1 p2 p3 R T)=some (cf F p0 p1 p2 g1 R T):=by
 rw[qg (s:=(cf F p0 p1 p2 p3 R T)) (b:=3) (HP h0 h1 h2),if_pos (show 0<(cf F p0 p1 p2 p3 R T).1.getD 3 0 from hp)]
 simp_all[eH,cf]
theorem Yz{s:Pu}(h:s.1.getD (fW s.1) 0<=0):ey s=ga (-1) s:=by simp_all[ey,if_neg]
theorem Su(h0:E.I F p0<=0)(h1:E.I F p1<=0)(h2:E.I F p2<=0)(h3:E.I F p3<=0):ey (cf F p0 p1 p2 p3 R T)=ga (-1) (cf F p0 p1 p2 p3 R T):=by
 have:=aH1 (E.I F p0) (E.I F p1) (E.I F p2) (E.I F p3)
 refine Yz ?_;show [E.I F p0,E.I F p1,E.I F p2,E.I F p3].getD (fW [E.I F p0,E.I F p1,E.I F p2,E.I F p3]) 0<=0;omega
theorem QO{g1:E}(hq:E.I F g1=E.I F p0-1)(h0:E.I F p1<=E.I F p0)(h1:E.I F p2<=E.I F p0)(h2:E.I F p3<=E.I F p0)(hp:0<E.I F p0):E.B F (.fn 170 (.pr g1 (.pr p1 (.pr p2 (.pr p3 (.pr R (.pr T (.pr (.int 4) (.pr (.int 1) (.pr p0 (.pr p1 (.pr p2 (.pr p3 (.pr R (.pr T (.int 0))))))))))))))))=true:=by
 rw[gW];exact azH hq h0 h1 h2 hp
theorem aeQ{g1:E}(hq:E.I F g1=E.I F p1-1)(h0:E.I F p0<E.I F p1)(h1:E.I F p2<=E.I F p1)(h2:E.I F p3<=E.I F p1)(hp:0<E.I F p1):E.B F (.fn 170 (.pr p0 (.pr g1 (.pr p2 (.pr p3 (.pr R (.pr T (.pr (.int 4) (.pr (.int 1) (.pr p0 (.pr p1 (.pr p2 (.pr p3 (.pr R (.pr T (.int 0))))))))))))))))=true:=by
 rw[gW];exact aqB hq h0 h1 h2 hp
theorem Bh{g1:E}(hq:E.I F g1=E.I F p2-1)(h0:E.I F p0<E.I F p2)(h1:E.I F p1<E.I F p2)(h2:E.I F p3<=E.I F p2)(hp:0<E.I F p2):E.B F (.fn 170 (.pr p0 (.pr p1 (.pr g1 (.pr p3 (.pr R (.pr T (.pr (.int 4) (.pr (.int 1) (.pr p0 (.pr p1 (.pr p2 (.pr p3 (.pr R (.pr T (.int 0))))))))))))))))=true:=by
 rw[gW];exact aIA hq h0 h1 h2 hp
theorem pR{g1:E}(hq:E.I F g1=E.I F p3-1)(h0:E.I F p0<E.I F p3)(h1:E.I F p1<E.I F p3)(h2:E.I F p2<E.I F p3)(hp:0<E.I F p3):E.B F (.fn 170 (.pr p0 (.pr p1 (.pr p2 (.pr g1 (.pr R (.pr T (.pr (.int 4) (.pr (.int 1) (.pr p0 (.pr p1 (.pr p2 (.pr p3 (.pr R (.pr T (.int 0))))))))))))))))=true:=by
 rw[gW];exact aol hq h0 h1 h2 hp
theorem abv(h:E.B F (.fn 174 (.pr R1 (.pr T1 (.pr (.int (-1)) (.pr R (.pr T (.int 0)))))))=true)(h0:E.I F p0<=0)(h1:E.I F p1<=0)(h2:E.I F p2<=0)(h3:E.I F p3<=0):E.B F (.fn 170 (.pr p0 (.pr p1 (.pr p2 (.pr p3 (.pr R1 (.pr T1 (.pr (.int 4) (.pr (.int 1) (.pr p0 (.pr p1 (.pr p2 (.pr p3 (.pr R (.pr T (.int 0))))))))))))))))=true:=by
 rw[gW];rw[KN]at h
 show ey _=_
 rw[Su h0 h1 h2 h3]
 exact agS h
theorem aaR(h:E.I F (.fn 175 (.pr (.int (-1)) (.pr R n)))=-1)(hl:E.I F (.fn 0 R)=E.I F n*2)(h0:E.I F p0<=0)(h1:E.I F p1<=0)(h2:E.I F p2<=0)(h3:E.I F p3<=0):E.B F (.fn 171 (.pr (.int 4) (.pr (.int 1) (.pr p0 (.pr p1 (.pr p2 (.pr p3 (.pr R (.pr T (.int 0))))))))))=true:=by
 rw[rZ]
 show ey _=_
 rw[Su h0 h1 h2 h3,EA]
 rw[qD]at h
 rw[<- br]at hl
 have et:(ay F R).take (2*(E.I F n).toNat)=ay F R:=List.take_of_length_le (by omega);show bB _ (ay F R) 0<0;simp_all
end
end Go.SX

set_option linter.unusedVariables false
set_option linter.unusedSimpArgs false
namespace Go.SX
mutual
theorem U.eq_symm:∀a b:U,U.eq a b=true->U.eq b a=true
 |.int a,b,h=>by cases b<;>simp_all[U.eq]
 |.bool a,b,h=>by cases b<;>simp_all[U.eq]
 |.str a,b,h=>by cases b<;>simp_all[U.eq]
 |.lst l,b,h=>by
  cases b with
  |lst m=>simp only[U.eq]at h ⊢;exact U.eqs_symm l m h
  |bx _ _ _ m=>simp only[U.eq]at h ⊢;exact U.eqs_symm l m h
  |_=>simp[U.eq]at h
 |.bx _ _ _ l,b,h=>by
  cases b with
  |lst m=>simp only[U.eq]at h ⊢;exact U.eqs_symm l m h
  |bx _ _ _ m=>simp only[U.eq]at h ⊢;exact U.eqs_symm l m h
  |_=>simp[U.eq]at h
theorem U.eqs_symm:∀l m:List U,U.eqs l m=true->U.eqs m l=true
 |[],m,h=>by cases m<;>simp_all[U.eqs]
 |x::xs,m,h=>by
  cases m with
  |nil=>simp[U.eqs]at h
  |cons y ys=>
   simp only[U.eqs,Bool.and_eq_true]at h ⊢
   exact⟨U.eq_symm x y h.1,U.eqs_symm xs ys h.2⟩
end
/-! ### boards that are the same -/
theorem UM:∀(l ks r:List U),U.typs l ks r=true->l.length<=r.length->∀i,i<l.length->U.typ (l.getD i (.int 0)) (r.getD i (.int 0))=true
 |[],_,_,_,_,i,h=>absurd h (Nat.not_lt_zero _)
 |x::xs,ks,[],_,hl,_,_=>by simp at hl
 |x::xs,ks,k::r,h,hl,i,hi=>by
  simp only[U.typs,Bool.and_eq_true]at h;cases i with
  |zero=>simpa using h.1
  |succ i=>simpa using UM xs ks r h.2 (by simpa using hl) i (by simpa using hi)
theorem aib{l ks:List U}(h:U.typs l ks []=true)(hl:l.length<=ks.length){i:Nat}(hi:i<l.length):U.typ (l.getD i (.int 0)) (ks.getD i (.int 0))=true:=by
 cases l with
 |nil=>simp at hi
 |cons x xs=>cases ks with
  |nil=>simp at hl
  |cons k r=>exact UM (x::xs) (k::r) (k::r) (by simpa[U.typs]using h) hl i hi
theorem Oh{u:U}{ks:List U}(h:U.typ u (.lst ks)=true):∃a n c l,u=.bx a n c l:=by
 cases u with
 |bx a n c l=>exact⟨a,n,c,l,rfl⟩
 |_=>simp[U.typ]at h
theorem aK1{u:U}{ks:List U}(h:U.typ u (.lst ks)=true)(a:Option Addr)(n c:Nat):U.eq (.bx a n c u.toL) u=true:=by
 obtain⟨a',n',c',l,rfl⟩:=Oh h
 simp only[U.eq,U.toL];exact U.eqs_rfl l
section
variable {F:Env} {x y l A a b k u i j p q n m r o c d w v X Y T N L e t C z s:E}
theorem FK:(E.B F (.fn 189 (.pr Y X))=true)=(∀j,j<38->(if j==29||j==30 then im (cX (Y.den F) j).toL (cX (X.den F) j).toL else U.eq (cX (Y.den F) j) (cX (X.den F) j))=true):=by
 show(((List.range 38).all fun j=>if j==29||j==30 then im (cX (Y.den F) j).toL (cX (X.den F) j).toL else U.eq (cX (Y.den F) j) (cX (X.den F) j))=true)=_
 simp only[List.all_eq_true,List.mem_range]
theorem aKD(h:E.B F (.fn 189 (.pr Y X))=true)(c:Nat)(hc:c<38/\c≠29/\c≠30):E.B F (.fn 12 (.pr (.fn 1 (.pr Y (.int (Int.ofNat c)))) (.fn 1 (.pr X (.int (Int.ofNat c))))))=true:=by
 rw[FK]at h
 have:=h c hc.1
 rw[if_neg (by simp[hc.2.1,hc.2.2])]at this
 exact this
theorem aKm(h:E.B F (.fn 189 (.pr Y X))=true):E.B F (.fn 187 (.pr (.fn 1 (.pr Y (.int 29))) (.fn 1 (.pr X (.int 29)))))=true:=by
 rw[FK]at h;exact h 29 (by decide)
theorem aLa(h:E.B F (.fn 189 (.pr Y X))=true):E.B F (.fn 187 (.pr (.fn 1 (.pr Y (.int 30))) (.fn 1 (.pr X (.int 30)))))=true:=by
 rw[FK]at h;exact h 30 (by decide)
/-- a row that is put together -/
def nL(F:Env)(X:U):List E->Nat->Prop
  |[],_=>True
  | c :: cs, j => (match j == 29 || j == 30 with
      |true=>im (c.den F).toL (cX X j).toL=true
      |false=>U.eq (c.den F) (cX X j)=true)/\nL F X cs (j+1)
theorem acU{X:U}:∀(cs:List E)(j0 i:Nat),nL F X cs j0->i<cs.length->(match (j0+i)==29||(j0+i)==30 with
      |true=>im ((cs.getD i (.int 0)).den F).toL (cX X (j0+i)).toL=true
      |false=>U.eq ((cs.getD i (.int 0)).den F) (cX X (j0+i))=true)
  |[],_,i,_,h=>absurd h (Nat.not_lt_zero _)
  |c ::cs,j0,0,h,_=>h.1
  |c ::cs,j0,i+1,h,hi=>by
    have:=acU cs (j0+1) i h.2 (by simpa using hi)
    rw[show j0+(i+1)=j0+1+i by omega]
    simpa using this
theorem vV:∀(cs:List E)(i:Nat),i<cs.length->cX ((iB cs).den F) i=(cs.getD i (.int 0)).den F
 |[],i,h=>absurd h (Nat.not_lt_zero _)
 |c::cs,0,_=>rfl
 |c::cs,i+1,h=>
  vV cs i (by simpa using h)
theorem aKf{cs:List E}(hl:cs.length=38)(h:nL F (X.den F) cs 0):E.B F (.fn 189 (.pr (iB cs) X))=true:=by
 rw[FK]
 intro j hj
 have:=acU cs 0 j h (by omega)
 rw[Nat.zero_add]at this
 rw[vV cs j (by omega)]
 split
 ·rename_i hh;rw[hh]at this;exact this
 ·rename_i hh;have hf:(j==29||j==30)=false:=by simpa using hh
  rw[hf]at this;exact this
/-- a list of a board, in a slice -/
theorem aeE{u:U}(h:fj u=true)(a:Option Addr)(n c:Nat):U.eq (.bx a n c u.toL) u=true:=by
  cases u with
  |bx a' n' c' l=>simp only[U.eq,U.toL];exact U.eqs_rfl l
  |lst l=>simp only[U.eq,U.toL];exact U.eqs_rfl l
  |_=>simp[fj]at h
theorem uO:(E.B F (.fn 116 X)=true)=((X.den F).toL.length=38/\(∀j∈[0,6,7,8,9,20,21,22,23,29,30,31,32],fj (cX (X.den F) j)=true)/\gF (cX (X.den F) 29).toL=true/\gF (cX (X.den F) 30).toL=true):=by
 show(t8 (X.den F)=true)=_
 unfold t8
 rw[Bool.and_eq_true,Bool.and_eq_true,Bool.and_eq_true,List.all_eq_true,beq_iff_eq,and_assoc]
theorem ati(h:E.B F (.fn 116 X)=true){j:Nat}{ks:List U}(hj:j<38)(hk:qb.getD j (.int 0)=.lst ks)(a:Option Addr)(n c:Nat):U.eq (.bx a n c (cX (X.den F) j).toL) (cX (X.den F) j)=true:=by
 rw[uO]at h
 refine aeE (h.2.1 j ?_) a n c
 have:∀j,j<38->(match qb.getD j (.int 0)with | .lst _=>true | _=>false)=true->j∈[0,6,7,8,9,20,21,22,23,29,30,31,32]:=by decide
 exact this j hj (by rw[hk])
theorem aKA(h:E.B F (.fn 12 (.pr a b))=true):E.B F (.fn 12 (.pr b a))=true:=U.eq_symm _ _ h
/-! items that are copied -/
theorem afa(l:E):E.I F (.fn 0 l)=((E.L F l).length:Int):=rfl
theorem Do(T i:E)(w j:Nat)(h:0<=E.I F i):(bQ T i w j).den F=(E.L F T).getD ((E.I F i).toNat*w+j) (.int 0):=by
 obtain⟨n,hn⟩:=Int.eq_ofNat_of_zero_le h
 show(E.L F T).getD (E.I F i*(w:Int)+(j:Int)).toNat (.int 0)=_
 rw[hn]
 congr 1
theorem BN:(E.B F (.fn 190 a)=true)=(∀i,i<(E.L F a).length->i%5=4->fj ((E.L F a).getD i (.int 0))=true):=by
 show(gF (E.L F a)=true)=_
 unfold gF;simp only[List.all_eq_true,List.mem_range,Bool.or_eq_true,Bool.not_eq_true',beq_eq_false_iff_ne];exact propext ⟨fun h i hi h5=>(h i hi).resolve_left (fun h=>h h5),fun h i hi=>Classical.byCases (fun h5:i%5=4=>.inr (h i hi h5)) .inl⟩
theorem agN(h:E.B F (.fn 116 X)=true)(c:Nat)(hc:c=29\/c=30):E.B F (.fn 190 (.fn 1 (.pr X (.int (Int.ofNat c)))))=true:=by
 rw[uO]at h
 rcases hc with rfl|rfl
 ·exact h.2.2.1
 ·exact h.2.2.2
theorem arE(hb:E.B F (.fn 190 b)=true)(h0:0<=E.I F i)(h3:E.I F i<E.I F (.fn 9 (.pr b (.int 5))))(a:Option Addr)(n c:Nat):U.eq (.bx a n c ((bQ b i 5 4).den F).toL) ((bQ b i 5 4).den F)=true:=by
 have e9:E.I F (.fn 9 (.pr b (.int 5)))=(((E.L F b).length/5:Nat):Int):=rfl
 rw[Do _ _ _ _ h0]
 rw[BN]at hb
 exact aeE (hb _ (by omega) (by omega)) a n c
/-- one item more is copied -/
theorem UA{x:List U}{k:Nat}(h:U.eqs x ((E.L F b).take (5*k))=true)(hb:E.B F (.fn 190 b)=true)(h0:E.I F i=k)(h3:E.I F i<E.I F (.fn 9 (.pr b (.int 5))))(v q:E):
    U.eqs (x++[(bQ b i 5 0).den F,(bQ b i 5 1).den F,(bQ b i 5 2).den F,(bQ b i 5 3).den F,(E.fn 28 (.pr (.pr v q) (bQ b i 5 4))).den F]) ((E.L F b).take (5*k+5))=true:=by
  have e9:E.I F (.fn 9 (.pr b (.int 5)))=(((E.L F b).length/5:Nat):Int):=rfl;have hn:0<=E.I F i:=by omega
  rw[aG6 _ _ (by omega)]
  refine YC h ?_;have g (j:Nat):(bQ b i 5 j).den F=(E.L F b).getD (5*k+j) (.int 0):=by rw[Do _ _ _ _ hn];congr 1;omega
  have g4:U.eq ((E.fn 28 (.pr (.pr v q) (bQ b i 5 4))).den F) ((E.L F b).getD (5*k+4) (.int 0))=true:=by rw[<- g 4];exact arE hb hn h3 _ _ _
  simp only[U.eqs,g 0,g 1,g 2,g 3,g4,Nat.add_zero,U.eq_rfl,Bool.and_self]
theorem aKv{n0:E}(h:E.B F (.fn 181 (.pr x (.pr b n0)))=true)(hb:E.B F (.fn 190 b)=true)(h0:0<=E.I F i)(h1:E.I F n0=E.I F i*5)(h2:E.I F (.fn 0 x)=E.I F i*5)(h3:E.I F i<E.I F (.fn 9 (.pr b (.int 5))))(h4:E.I F n=(E.I F i+1)*5)(v q:E):
  E.B F (.fn 181 (.pr (.fn 3 (.pr x (.fn 23 (.pr (bQ b i 5 0) (.fn 23 (.pr (bQ b i 5 1) (.fn 23 (.pr (bQ b i 5 2) (.fn 23 (.pr (bQ b i 5 3) (.fn 23 (.pr (.fn 28 (.pr (.pr v q) (bQ b i 5 4))) (.fn 10 (.int 0)))))))))))))) (.pr b n)))=true:=by
 obtain⟨k,hk⟩:=Int.eq_ofNat_of_zero_le h0
 rw[afa]at h2
 rw[Km]at h ⊢
 have e1:(E.I F n0).toNat=5*k:=by omega
 have e2:(E.I F n).toNat=5*k+5:=by omega
 rw[e1,List.take_of_length_le (l:=E.L F x) (by omega)]at h
 rw[e2]
 have:=UA h hb hk h3 v q
 rw[List.take_of_length_le]
 ·exact this
 ·show(E.L F x++[_,_,_,_,_]).length<=_
  simp;omega
theorem aK6(hb:E.B F (.fn 190 b)=true)(h0:E.I F i=0)(h3:E.I F i<E.I F (.fn 9 (.pr b (.int 5))))(h4:E.I F n=(E.I F i+1)*5)(v q:E):
  E.B F (.fn 181 (.pr (.fn 23 (.pr (bQ b i 5 0) (.fn 23 (.pr (bQ b i 5 1) (.fn 23 (.pr (bQ b i 5 2) (.fn 23 (.pr (bQ b i 5 3) (.fn 23 (.pr (.fn 28 (.pr (.pr v q) (bQ b i 5 4))) (.fn 10 (.int 0)))))))))))) (.pr b n)))=true:=by
 rw[Km]
 have e2:(E.I F n).toNat=5*0+5:=by omega
 rw[e2]
 have:=UA (x:=[]) (k:=0) (F:=F) (b:=b) (i:=i) rfl hb (by omega) h3 v q
 rw[List.take_of_length_le]
 ·exact this
 ·show([_,_,_,_,_]:List U).length<=_
  simp
theorem aKU{a0:E}(h:E.B F (.fn 181 (.pr x (.pr b n)))=true)(h1:E.I F n=E.I F (.fn 9 (.pr b (.int 5)))*5)(h2:E.I F (.fn 0 x)=E.I F n):E.B F (.fn 187 (.pr (.fn 28 (.pr a0 x)) b))=true:=by
 have e9:E.I F (.fn 9 (.pr b (.int 5)))=(((E.L F b).length/5:Nat):Int):=rfl
 rw[afa]at h2
 rw[Km]at h
 rw[sy,pA]
 have el:E.L F (.fn 28 (.pr a0 x))=E.L F x:=rfl
 rw[el]
 refine⟨by omega,?_⟩
 rw[show(E.L F x).length/5*5=(E.I F n).toNat by omega,show(E.L F b).length/5*5=(E.I F n).toNat by omega]
 exact h
theorem aJy(h:E.L F a=[])(h0:E.I F (.fn 9 (.pr b (.int 5)))<=0):E.B F (.fn 187 (.pr a b))=true:=by
 have e9:E.I F (.fn 9 (.pr b (.int 5)))=(((E.L F b).length/5:Nat):Int):=rfl
 rw[sy,pA,h]
 refine⟨by simp;omega,?_⟩
 rw[show(E.L F b).length/5*5=0 by omega]
 rfl
theorem aJ1(h:E.B F (.fn 158 (.pr l n))=true)(h0:0<=E.I F i)(h1:E.I F i<E.I F n):E.I F (.fn 9 (.pr (bQ l i 5 4) (.int 2)))<=6:=by
 rw[Ch]at h
 unfold jF at h
 rw[ad8]at h
 have:=h (E.I F i).toNat (by omega)
 rw[decide_eq_true_eq]at this
 have e:E.I F (.fn 9 (.pr (bQ l i 5 4) (.int 2)))=(((bQ l i 5 4).den F).toL.length/2:Nat):=rfl
 rw[e,Do _ _ _ _ h0]
 omega
theorem aKk(j:Nat)(hj:(j==29||j==30)=false){cs:List E}(h:nL F (X.den F) cs (j+1)):nL F (X.den F) (.fn 1 (.pr X (.int (Int.ofNat j)))::cs) j:=by
 refine⟨?_,h⟩
 rw[hj]
 exact U.eq_rfl _
theorem aJA(ht:E.B F (.fn 116 X)=true)(j:Nat)(hj:(j==29||j==30)=false)(h38:j<38){ks:List U}(hk:qb.getD j (.int 0)=.lst ks){a0:E}{cs:List E}(h:nL F (X.den F) cs (j+1)):
  nL F (X.den F) (.fn 28 (.pr a0 (.fn 1 (.pr X (.int (Int.ofNat j)))))::cs) j:=by
 refine⟨?_,h⟩
 rw[hj]
 exact ati ht h38 hk _ _ _
theorem aKY(j:Nat)(hj:(j==29||j==30)=true){c0:E}(hc:E.B F (.fn 187 (.pr c0 (.fn 1 (.pr X (.int (Int.ofNat j))))))=true){cs:List E}(h:nL F (X.den F) cs (j+1)):nL F (X.den F) (c0::cs) j:=by
 refine⟨?_,h⟩
 rw[hj]
 exact hc
end
end Go.SX

set_option linter.unusedVariables false
set_option linter.unusedSimpArgs false
namespace Go.SX
/-! ### the first source of a colour -/
theorem Nv{k:Int}:∀(l:List Int)(a c:Int)(i:Nat),l.length%2=0->bB k (l++[a,c]) i=if bB k l i<0 then(if ip k c then((i+l.length/2:Nat):Int)else -1)else bB k l i
 |[],a,c,i,h=>by
  rfl
 |[x],a,c,i,h=>by simp at h
 |x::y::l,a,c,i,h=>by
  have hl:l.length%2=0:=by grind
  show bB k (x::y::(l++[a,c])) i=_;have e:∀m,bB k (x::y::m) i=if ip k y then(i:Int)else bB k m _:=fun m=>rfl
  rw[e,e]
  by_cases hy:ip k y=true
  ·grind
  ·rw[if_neg hy,if_neg hy,Nv l a c _ hl]
   grind
theorem aby{k:Int}:∀(l r:List Int)(i:Nat),0<=bB k l i->l.length%2=0->bB k (l++r) i=bB k l i
 |[],r,i,h,_=>by simp[bB]at h
 |[x],r,i,h,hl=>by simp at hl
 |x::y::l,r,i,h,hl=>by
  have e:∀m,bB k (x::y::m) i=if ip k y then(i:Int)else bB k m _:=fun m=>rfl
  show bB k (x::y::(l++r)) i=_
  rw[e]at h ⊢
  rw[e]
  by_cases hy:ip k y=true
  ·simp_all
  ·rw[if_neg hy]at h ⊢
   rw[if_neg hy]
   exact aby l r _ h (by grind)
theorem Pd{k:Int}:∀(l:List Int)(i:Nat),-1<=bB k l i
 |[],i=>by simp[bB]
 |[x],i=>by simp[bB]
 |x::y::l,i=>by
  have e:bB k (x::y::l) i=if ip k y then(i:Int)else bB k l _:=rfl
  rw[e];split
  ·omega
  ·exact Pd l _
theorem abZ(l:List Int)(j:Nat)(h:2*j+2<=l.length):l.take (2*(j+1))=l.take (2*j)++[l.getD (2*j) 0,l.getD (2*j+1) 0]:=by
 grind[kD]
section
variable {F:Env} {p0 p1 p2 p3 q0 q1 q2 q3 R T R1 T1 R2 T2 k n m g i j a b c d x y l v id:E}
theorem T7(h:0<=E.I F i){w:Nat}:E.I F (.fn 1 (.pr R (.fn 6 (.pr (.fn 8 (.pr i (.int 2))) (.int (Int.ofNat w))))))=(ay F R).getD (2*(E.I F i).toNat+w) 0:=by
 rw[show(E.fn 1 (.pr R (.fn 6 (.pr (.fn 8 (.pr i (.int 2))) _))))=E.fn 1 (.pr R (.fn 6 (.pr (.fn 8 (.pr i (.int (Int.ofNat 2)))) _))) from rfl,mh i 2 w h]
 show((E.L F R).getD _ _).toI=_
 rw[C3,Nat.mul_comm];rfl
theorem adR(h:0<=E.I F i):E.I F (.fn 1 (.pr R (.fn 6 (.pr (.fn 8 (.pr i (.int 2))) (.int 1)))))=(ay F R).getD (2*(E.I F i).toNat+1) 0:=T7 (w:=1) h
theorem ah0(h:0<=E.I F i):E.I F (.fn 1 (.pr R (.fn 6 (.pr (.fn 8 (.pr i (.int 2))) (.int 0)))))=(ay F R).getD (2*(E.I F i).toNat) 0:=T7 (w:=0) h
theorem adg:-1<=E.I F (.fn 175 (.pr k (.pr R n))):=by simp_all[qD,Pd]
theorem aqL(h:E.I F (.fn 175 (.pr k (.pr R j)))=-1)(h0:0<=E.I F j)(h1:E.I F j<E.I F n)(hl:E.I F (.fn 0 R)=E.I F n*2)(hm:E.I F m=E.I F j+1)(k0:0<=E.I F k)
  (hc:¬E.I F (.fn 1 (.pr R (.fn 6 (.pr (.fn 8 (.pr j (.int 2))) (.int 1)))))=E.I F k):E.I F (.fn 175 (.pr k (.pr R m)))=-1:=by
 rw[adR h0]at hc
 rw[<- br]at hl
 rw[qD]at h ⊢
 rw[show(E.I F m).toNat=(E.I F j).toNat+1 by omega,abZ _ _ (by omega),Nv _ _ _ _ (by grind),if_pos (by omega),if_neg]
 simp_all[ip]
theorem ade(h:E.I F (.fn 175 (.pr k (.pr R j)))=-1)(h0:0<=E.I F j)(h1:E.I F j<E.I F n)(hl:E.I F (.fn 0 R)=E.I F n*2)
  (hc:E.I F k<0\/E.I F (.fn 1 (.pr R (.fn 6 (.pr (.fn 8 (.pr j (.int 2))) (.int 1)))))=E.I F k):E.I F (.fn 175 (.pr k (.pr R n)))=E.I F j:=by
 rw[adR h0]at hc
 rw[<- br]at hl
 rw[qD]at h ⊢
 have e1:bB (E.I F k) ((ay F R).take (2*((E.I F j).toNat+1))) 0=E.I F j:=by
  rw[abZ _ _ (by omega),Nv _ _ _ _ (by grind),if_pos (by omega),if_pos]
  ·grind
  simp_all[ip]
 have e2:(ay F R).take (2*(E.I F n).toNat)=(ay F R).take (2*((E.I F j).toNat+1))++((ay F R).take (2*(E.I F n).toNat)).drop (2*((E.I F j).toNat+1)):=by
  have:=List.take_append_drop (2*((E.I F j).toNat+1)) ((ay F R).take (2*(E.I F n).toNat))
  rw[List.take_take,Nat.min_eq_left (by omega)]at this
  simp_all
 grind[aby]
theorem RR(h:E.I F (.fn 175 (.pr k (.pr R j)))=-1)(e:E.I F n=E.I F j):E.I F (.fn 175 (.pr k (.pr R n)))=-1:=by
 simp_all[qD]
/-! a source less -/
theorem JC:ay F (.fn 18 (.pr l n))=(ay F l).take (E.I F n).toNat:=by
 show((E.L F l).take _).map _=_
 rw[List.map_take];rfl
theorem aqG(h0:0<=E.I F i)(h1:E.I F a=E.I F i*2)(h2:E.I F b=E.I F i*2+2)(h3:E.I F c=E.I F (.fn 0 R)):E.B F (.fn 186 (.pr (.fn 3 (.pr (.fn 18 (.pr R a)) (.fn 4 (.pr R (.pr b c))))) (.pr R i)))=true:=by
 rw[<- br]at h3
 grind[Nh,jR,JC,yc,List.take_of_length_le]
theorem aEL(h0:0<=E.I F i)(h1:E.I F a=E.I F i*2)(h2:E.I F b<=0)(h3:E.I F (.fn 0 R)<=E.I F i*2+2):E.B F (.fn 186 (.pr (.fn 3 (.pr (.fn 18 (.pr R a)) (.fn 18 (.pr R b)))) (.pr R i)))=true:=by
 grind[br,Nh,jR,JC,List.drop_eq_nil_of_le]
theorem auM(hk:E.I F k=0)(h:E.I F q0=0):E.B F (.fn 185 (.pr q0 (.pr q1 (.pr q2 (.pr q3 (.pr k (.int 0)))))))=true:=by simp_all[oZ]
theorem aFd(hk:E.I F k=1)(h:E.I F q1=0):E.B F (.fn 185 (.pr q0 (.pr q1 (.pr q2 (.pr q3 (.pr k (.int 0)))))))=true:=by simp_all[oZ]
theorem akJ(hk:E.I F k=2)(h:E.I F q2=0):E.B F (.fn 185 (.pr q0 (.pr q1 (.pr q2 (.pr q3 (.pr k (.int 0)))))))=true:=by simp_all[oZ]
theorem aIX(hk:E.I F k=3)(h:E.I F q3=0):E.B F (.fn 185 (.pr q0 (.pr q1 (.pr q2 (.pr q3 (.pr k (.int 0)))))))=true:=by simp_all[oZ]
theorem Jx(h:0<=E.I F n)(h':E.I F n<=E.I F (.fn 0 l)):E.I F (.fn 0 (.fn 18 (.pr l n)))=E.I F n:=by
 rw[<- br]at h' ⊢
 grind[JC]
/-- tapped: what is left, and one id more -/
theorem afM(h:E.B F (.fn 186 (.pr R1 (.pr R i)))=true)(hi:E.I F i=E.I F (.fn 175 (.pr k (.pr R n))))(h0:0<=E.I F i)(hl:E.I F (.fn 0 R)=E.I F n*2)(hT:ay F T1=ay F T++[E.I F (.fn 1 (.pr R (.fn 6 (.pr (.fn 8 (.pr i (.int 2))) (.int 0)))))]):E.B F (.fn 174 (.pr R1 (.pr T1 (.pr k (.pr R (.pr T (.int 0)))))))=true:=by
  rw[ah0 h0]at hT
  rw[<- br]at hl
  rw[Nh]at h
  rw[qD]at hi
  have et:(ay F R).take (2*(E.I F n).toNat)=ay F R:=List.take_of_length_le (by omega)
  rw[et]at hi
  rw[KN,qv]
  rw[<- hi]
  refine⟨h0, ?_⟩
  simp only[fJ,Prod.mk.injEq,true_and]
  exact⟨h,hT⟩
theorem abJ(h:E.B F (.fn 186 (.pr R1 (.pr R i)))=true)(hi:E.I F i=E.I F (.fn 175 (.pr k (.pr R n))))(h0:0<=E.I F i)(hl:E.I F (.fn 0 R)=E.I F n*2):
  E.B F (.fn 174 (.pr R1 (.pr (.fn 3 (.pr T (.fn 23 (.pr (.fn 1 (.pr R (.fn 6 (.pr (.fn 8 (.pr i (.int 2))) (.int 0))))) (.fn 10 (.int 0)))))) (.pr k (.pr R (.pr T (.int 0)))))))=true:=afM h hi h0 hl (by rw[jR];rfl)
theorem Yh(h:E.B F (.fn 186 (.pr R1 (.pr R i)))=true)(hi:E.I F i=E.I F (.fn 175 (.pr k (.pr R n))))(h0:0<=E.I F i)(hl:E.I F (.fn 0 R)=E.I F n*2):
  E.B F (.fn 174 (.pr R1 (.pr (.fn 23 (.pr (.fn 1 (.pr R (.fn 6 (.pr (.fn 8 (.pr i (.int 2))) (.int 0))))) (.fn 10 (.int 0)))) (.pr k (.pr R (.pr (.fn 10 (.int 0)) (.int 0)))))))=true:=afM h hi h0 hl rfl
end
end Go.SX

set_option linter.unusedVariables false
set_option linter.unusedSimpArgs false
namespace Go.SX
noncomputable def dd(F:Env)(c0 c1 c2 c3:E):List Int:=[E.I F c0,E.I F c1,E.I F c2,E.I F c3]
noncomputable def bP(F:Env)(C X p:E):Pu:=gQ (E.L F C) (X.den F) (E.I F p)
section
variable {F:Env} {p0 p1 p2 p3 q0 q1 q2 q3 R T R1 T1 R2 T2 k n m g i j a b c d x y l v id c0 c1 c2 c3 C X p:E}
theorem jc:(E.B F (.fn 176 (.pr q0 (.pr q1 (.pr q2 (.pr q3 (.pr R1 (.pr T1 (.pr k (.pr n (.pr c0 (.pr c1 (.pr c2 (.pr c3 (.pr C (.pr X (.pr p (.int 0)))))))))))))))))=true)=(bN (dd F c0 c1 c2 c3) (E.I F k).toNat (E.I F n).toNat (bP F C X p)=some (cf F q0 q1 q2 q3 R1 T1)):=by
 show(((bN (dd F c0 c1 c2 c3) (E.I F k).toNat (E.I F n).toNat (bP F C X p)).any fun s=>s==(cf F q0 q1 q2 q3 R1 T1))=true)=_
 rw[Nz]
theorem lA:(E.B F (.fn 177 (.pr k (.pr n (.pr c0 (.pr c1 (.pr c2 (.pr c3 (.pr C (.pr X (.pr p (.int 0)))))))))))=true)=(bN (dd F c0 c1 c2 c3) (E.I F k).toNat (E.I F n).toNat (bP F C X p)=none):=by
 show((bN (dd F c0 c1 c2 c3) (E.I F k).toNat (E.I F n).toNat (bP F C X p)).isNone=true)=_
 simp_all
theorem arX(h:E.B F (.fn 143 (.pr R (.pr C (.pr X (.pr p (E.fn 9 (.pr (.fn 1 (.pr X (.int 0))) (.int 12))))))))=true)(hp:E.I F p=0):E.B F (.fn 176 (.pr (.fn 1 (.pr X (.int 2))) (.pr (.fn 1 (.pr X (.int 3))) (.pr (.fn 1 (.pr X (.int 4))) (.pr (.fn 1 (.pr X (.int 5))) (.pr R (.pr (.fn 10 (.int 0)) (.pr (.int 0) (.pr (.int 0) (.pr c0 (.pr c1 (.pr c2 (.pr c3 (.pr C (.pr X (.pr p (.int 0)))))))))))))))))=true:=by
 rw[rc]at h
 have en:(E.I F (E.fn 9 (.pr (.fn 1 (.pr X (.int 0))) (.int 12)))).toNat=aN (X.den F):=rfl
 rw[en]at h
 rw[jc]
 unfold bP gQ
 rw[<- h,hp]
 rfl
theorem ahX(h:E.B F (.fn 145 (.pr X p))=true):E.B F (.fn 188 (.pr (.fn 1 (.pr X (.int 2))) (.pr (.fn 1 (.pr X (.int 3))) (.pr (.fn 1 (.pr X (.int 4))) (.pr (.fn 1 (.pr X (.int 5))) (.int 0))))))=true:=by
 rw[kj]at h
 unfold ff jf at h;simp only[Bool.and_eq_true]at h;have hs:=h.2.1.1.1.1.2;unfold ja at hs;simp only[Bool.and_eq_true,List.all_cons,List.all_nil,Bool.and_true,hE]at hs
 obtain⟨⟨⟨_,hs⟩,_⟩,_⟩:=hs
 rw[bh]
 obtain⟨a0,a1,a2,a3⟩:=hs
 exact⟨a0.1,a0.2,a1.1,a1.2,a2.1,a2.2,a3.1,a3.2⟩
theorem aw4(h:E.B F (.fn 143 (.pr R (.pr C (.pr X (.pr p (E.fn 9 (.pr (.fn 1 (.pr X (.int 0))) (.int 12))))))))=true)(hp:E.I F p=1):E.B F (.fn 176 (.pr (.fn 1 (.pr X (.int 16))) (.pr (.fn 1 (.pr X (.int 17))) (.pr (.fn 1 (.pr X (.int 18))) (.pr (.fn 1 (.pr X (.int 19))) (.pr R (.pr (.fn 10 (.int 0)) (.pr (.int 0) (.pr (.int 0) (.pr c0 (.pr c1 (.pr c2 (.pr c3 (.pr C (.pr X (.pr p (.int 0)))))))))))))))))=true:=by
 rw[rc]at h
 have en:(E.I F (E.fn 9 (.pr (.fn 1 (.pr X (.int 0))) (.int 12)))).toNat=aN (X.den F):=rfl
 rw[en]at h
 rw[jc]
 unfold bP gQ
 rw[<- h,hp]
 rfl
theorem aFN(h:E.B F (.fn 145 (.pr X p))=true):E.B F (.fn 188 (.pr (.fn 1 (.pr X (.int 16))) (.pr (.fn 1 (.pr X (.int 17))) (.pr (.fn 1 (.pr X (.int 18))) (.pr (.fn 1 (.pr X (.int 19))) (.int 0))))))=true:=by
 rw[kj]at h
 unfold ff jf at h;simp only[Bool.and_eq_true]at h;have hs:=h.2.1.1.1.2;unfold ja at hs;simp only[Bool.and_eq_true,List.all_cons,List.all_nil,Bool.and_true,hE]at hs
 obtain⟨⟨⟨_,hs⟩,_⟩,_⟩:=hs
 rw[bh]
 obtain⟨a0,a1,a2,a3⟩:=hs
 exact⟨a0.1,a0.2,a1.1,a1.2,a2.1,a2.2,a3.1,a3.2⟩
theorem RZ(h:E.B F (.fn 176 (.pr q0 (.pr q1 (.pr q2 (.pr q3 (.pr R1 (.pr T1 (.pr k (.pr n (.pr c0 (.pr c1 (.pr c2 (.pr c3 (.pr C (.pr X (.pr p (.int 0)))))))))))))))))=true)(e:E.I F m=E.I F k)(e2:E.I F j=E.I F n):E.B F (.fn 176 (.pr q0 (.pr q1 (.pr q2 (.pr q3 (.pr R1 (.pr T1 (.pr m (.pr j (.pr c0 (.pr c1 (.pr c2 (.pr c3 (.pr C (.pr X (.pr p (.int 0)))))))))))))))))=true:=by simp_all[jc]
theorem No(h:E.B F (.fn 176 (.pr p0 (.pr p1 (.pr p2 (.pr p3 (.pr R (.pr T (.pr k (.pr (.int 0) (.pr c0 (.pr c1 (.pr c2 (.pr c3 (.pr C (.pr X (.pr p (.int 0)))))))))))))))))=true)(h2:E.B F (.fn 170 (.pr q0 (.pr q1 (.pr q2 (.pr q3 (.pr R1 (.pr T1 (.pr k (.pr c0 (.pr p0 (.pr p1 (.pr p2 (.pr p3 (.pr R (.pr T (.int 0))))))))))))))))=true)(hk:E.I F k=0)(hm:E.I F m=E.I F k+1):E.B F (.fn 176 (.pr q0 (.pr q1 (.pr q2 (.pr q3 (.pr R1 (.pr T1 (.pr m (.pr (.int 0) (.pr c0 (.pr c1 (.pr c2 (.pr c3 (.pr C (.pr X (.pr p (.int 0)))))))))))))))))=true:=by
 simp_all[jc,gW,qL,Br,dd]
theorem abQ(h:E.B F (.fn 176 (.pr p0 (.pr p1 (.pr p2 (.pr p3 (.pr R (.pr T (.pr k (.pr (.int 0) (.pr c0 (.pr c1 (.pr c2 (.pr c3 (.pr C (.pr X (.pr p (.int 0)))))))))))))))))=true)(h2:E.B F (.fn 171 (.pr k (.pr c0 (.pr p0 (.pr p1 (.pr p2 (.pr p3 (.pr R (.pr T (.int 0))))))))))=true)(hk:E.I F k=0):E.B F (.fn 177 (.pr (.int 4) (.pr a (.pr c0 (.pr c1 (.pr c2 (.pr c3 (.pr C (.pr X (.pr p (.int 0)))))))))))=true:=by
 rw[jc]at h
 rw[lA]
 rw[rZ]at h2
 rw[hk]at h h2
 exact Aj (c:=dd F c0 c1 c2 c3) (k:=0) (by decide) (Nat.le_refl _) (Bf h h2) _
theorem KV(h:E.B F (.fn 176 (.pr p0 (.pr p1 (.pr p2 (.pr p3 (.pr R (.pr T (.pr k (.pr (.int 0) (.pr c0 (.pr c1 (.pr c2 (.pr c3 (.pr C (.pr X (.pr p (.int 0)))))))))))))))))=true)(h2:E.B F (.fn 170 (.pr q0 (.pr q1 (.pr q2 (.pr q3 (.pr R1 (.pr T1 (.pr k (.pr c1 (.pr p0 (.pr p1 (.pr p2 (.pr p3 (.pr R (.pr T (.int 0))))))))))))))))=true)(hk:E.I F k=1)(hm:E.I F m=E.I F k+1):E.B F (.fn 176 (.pr q0 (.pr q1 (.pr q2 (.pr q3 (.pr R1 (.pr T1 (.pr m (.pr (.int 0) (.pr c0 (.pr c1 (.pr c2 (.pr c3 (.pr C (.pr X (.pr p (.int 0)))))))))))))))))=true:=by
 simp_all[jc,gW,qL,Br,dd]
theorem Uv(h:E.B F (.fn 176 (.pr p0 (.pr p1 (.pr p2 (.pr p3 (.pr R (.pr T (.pr k (.pr (.int 0) (.pr c0 (.pr c1 (.pr c2 (.pr c3 (.pr C (.pr X (.pr p (.int 0)))))))))))))))))=true)(h2:E.B F (.fn 171 (.pr k (.pr c1 (.pr p0 (.pr p1 (.pr p2 (.pr p3 (.pr R (.pr T (.int 0))))))))))=true)(hk:E.I F k=1):E.B F (.fn 177 (.pr (.int 4) (.pr a (.pr c0 (.pr c1 (.pr c2 (.pr c3 (.pr C (.pr X (.pr p (.int 0)))))))))))=true:=by
 rw[jc]at h
 rw[lA]
 rw[rZ]at h2
 rw[hk]at h h2
 exact Aj (c:=dd F c0 c1 c2 c3) (k:=1) (by decide) (Nat.le_refl _) (Bf h h2) _
theorem Oi(h:E.B F (.fn 176 (.pr p0 (.pr p1 (.pr p2 (.pr p3 (.pr R (.pr T (.pr k (.pr (.int 0) (.pr c0 (.pr c1 (.pr c2 (.pr c3 (.pr C (.pr X (.pr p (.int 0)))))))))))))))))=true)(h2:E.B F (.fn 170 (.pr q0 (.pr q1 (.pr q2 (.pr q3 (.pr R1 (.pr T1 (.pr k (.pr c2 (.pr p0 (.pr p1 (.pr p2 (.pr p3 (.pr R (.pr T (.int 0))))))))))))))))=true)(hk:E.I F k=2)(hm:E.I F m=E.I F k+1):E.B F (.fn 176 (.pr q0 (.pr q1 (.pr q2 (.pr q3 (.pr R1 (.pr T1 (.pr m (.pr (.int 0) (.pr c0 (.pr c1 (.pr c2 (.pr c3 (.pr C (.pr X (.pr p (.int 0)))))))))))))))))=true:=by
 simp_all[jc,gW,qL,Br,dd]
theorem PU(h:E.B F (.fn 176 (.pr p0 (.pr p1 (.pr p2 (.pr p3 (.pr R (.pr T (.pr k (.pr (.int 0) (.pr c0 (.pr c1 (.pr c2 (.pr c3 (.pr C (.pr X (.pr p (.int 0)))))))))))))))))=true)(h2:E.B F (.fn 171 (.pr k (.pr c2 (.pr p0 (.pr p1 (.pr p2 (.pr p3 (.pr R (.pr T (.int 0))))))))))=true)(hk:E.I F k=2):E.B F (.fn 177 (.pr (.int 4) (.pr a (.pr c0 (.pr c1 (.pr c2 (.pr c3 (.pr C (.pr X (.pr p (.int 0)))))))))))=true:=by
 rw[jc]at h
 rw[lA]
 rw[rZ]at h2
 rw[hk]at h h2
 exact Aj (c:=dd F c0 c1 c2 c3) (k:=2) (by decide) (Nat.le_refl _) (Bf h h2) _
theorem I7(h:E.B F (.fn 176 (.pr p0 (.pr p1 (.pr p2 (.pr p3 (.pr R (.pr T (.pr k (.pr (.int 0) (.pr c0 (.pr c1 (.pr c2 (.pr c3 (.pr C (.pr X (.pr p (.int 0)))))))))))))))))=true)(h2:E.B F (.fn 170 (.pr q0 (.pr q1 (.pr q2 (.pr q3 (.pr R1 (.pr T1 (.pr k (.pr c3 (.pr p0 (.pr p1 (.pr p2 (.pr p3 (.pr R (.pr T (.int 0))))))))))))))))=true)(hk:E.I F k=3)(hm:E.I F m=E.I F k+1):E.B F (.fn 176 (.pr q0 (.pr q1 (.pr q2 (.pr q3 (.pr R1 (.pr T1 (.pr m (.pr (.int 0) (.pr c0 (.pr c1 (.pr c2 (.pr c3 (.pr C (.pr X (.pr p (.int 0)))))))))))))))))=true:=by
 simp_all[jc,gW,qL,Br,dd]
theorem aeI(h:E.B F (.fn 176 (.pr p0 (.pr p1 (.pr p2 (.pr p3 (.pr R (.pr T (.pr k (.pr (.int 0) (.pr c0 (.pr c1 (.pr c2 (.pr c3 (.pr C (.pr X (.pr p (.int 0)))))))))))))))))=true)(h2:E.B F (.fn 171 (.pr k (.pr c3 (.pr p0 (.pr p1 (.pr p2 (.pr p3 (.pr R (.pr T (.int 0))))))))))=true)(hk:E.I F k=3):E.B F (.fn 177 (.pr (.int 4) (.pr a (.pr c0 (.pr c1 (.pr c2 (.pr c3 (.pr C (.pr X (.pr p (.int 0)))))))))))=true:=by
 rw[jc]at h
 rw[lA]
 rw[rZ]at h2
 rw[hk]at h h2
 exact Aj (c:=dd F c0 c1 c2 c3) (k:=3) (by decide) (Nat.le_refl _) (Bf h h2) _
theorem Ky(h:E.B F (.fn 176 (.pr p0 (.pr p1 (.pr p2 (.pr p3 (.pr R (.pr T (.pr (.int 4) (.pr n (.pr c0 (.pr c1 (.pr c2 (.pr c3 (.pr C (.pr X (.pr p (.int 0)))))))))))))))))=true)(h2:E.B F (.fn 170 (.pr q0 (.pr q1 (.pr q2 (.pr q3 (.pr R1 (.pr T1 (.pr (.int 4) (.pr (.int 1) (.pr p0 (.pr p1 (.pr p2 (.pr p3 (.pr R (.pr T (.int 0))))))))))))))))=true)(h0:0<=E.I F n)(hm:E.I F m=E.I F n+1):E.B F (.fn 176 (.pr q0 (.pr q1 (.pr q2 (.pr q3 (.pr R1 (.pr T1 (.pr (.int 4) (.pr m (.pr c0 (.pr c1 (.pr c2 (.pr c3 (.pr C (.pr X (.pr p (.int 0)))))))))))))))))=true:=by
 rw[jc]at h ⊢
 rw[gW]at h2
 rw[show(E.I F m).toNat=(E.I F n).toNat+1 by omega]
 exact(iJ h).trans h2
theorem YX(h:E.B F (.fn 176 (.pr p0 (.pr p1 (.pr p2 (.pr p3 (.pr R (.pr T (.pr (.int 4) (.pr n (.pr c0 (.pr c1 (.pr c2 (.pr c3 (.pr C (.pr X (.pr p (.int 0)))))))))))))))))=true)(h2:E.B F (.fn 171 (.pr (.int 4) (.pr (.int 1) (.pr p0 (.pr p1 (.pr p2 (.pr p3 (.pr R (.pr T (.int 0))))))))))=true)(h0:0<=E.I F n)(hm:E.I F n<E.I F a):E.B F (.fn 177 (.pr (.int 4) (.pr a (.pr c0 (.pr c1 (.pr c2 (.pr c3 (.pr C (.pr X (.pr p (.int 0)))))))))))=true:=by
 rw[jc]at h
 rw[lA]
 rw[rZ]at h2
 exact zd (n:=(E.I F n).toNat+1) (by omega) ((iJ h).trans h2)
theorem rR:(E.B F (.fn 183 (.pr q0 (.pr q1 (.pr q2 (.pr q3 (.pr T1 (.pr c0 (.pr c1 (.pr c2 (.pr c3 (.pr a (.pr C (.pr X (.pr p (.int 0)))))))))))))))=true)=((bN (dd F c0 c1 c2 c3) 4 (E.I F a).toNat (bP F C X p)).any (fun s=>s.1==dd F q0 q1 q2 q3&&eh s.2.2==ay F T1)=true):=rfl
theorem afy(h:E.B F (.fn 176 (.pr q0 (.pr q1 (.pr q2 (.pr q3 (.pr R (.pr T (.pr (.int 4) (.pr n (.pr c0 (.pr c1 (.pr c2 (.pr c3 (.pr C (.pr X (.pr p (.int 0)))))))))))))))))=true)(e:E.I F n=E.I F a)(hT:ay F T1=eh (ay F T)):E.B F (.fn 183 (.pr q0 (.pr q1 (.pr q2 (.pr q3 (.pr T1 (.pr c0 (.pr c1 (.pr c2 (.pr c3 (.pr a (.pr C (.pr X (.pr p (.int 0)))))))))))))))=true:=by
 rw[jc]at h
 rw[rR,<- e]
 simp_all[cf,dd]
theorem PO:ay F (.fn 40 T)=eh (ay F T):=by
 show((eh _).map _).map _=_
 rw[List.map_map]
 exact List.map_id _
theorem aHa(h:E.B F (.fn 176 (.pr q0 (.pr q1 (.pr q2 (.pr q3 (.pr R (.pr T (.pr (.int 4) (.pr n (.pr c0 (.pr c1 (.pr c2 (.pr c3 (.pr C (.pr X (.pr p (.int 0)))))))))))))))))=true)(e:E.I F n=E.I F a):E.B F (.fn 183 (.pr q0 (.pr q1 (.pr q2 (.pr q3 (.pr (.fn 40 T) (.pr c0 (.pr c1 (.pr c2 (.pr c3 (.pr a (.pr C (.pr X (.pr p (.int 0)))))))))))))))=true:=afy h e PO
theorem ao5(h:E.B F (.fn 176 (.pr q0 (.pr q1 (.pr q2 (.pr q3 (.pr R (.pr (.fn 10 (.int 0)) (.pr (.int 4) (.pr n (.pr c0 (.pr c1 (.pr c2 (.pr c3 (.pr C (.pr X (.pr p (.int 0)))))))))))))))))=true)(e:E.I F n=E.I F a):E.B F (.fn 183 (.pr q0 (.pr q1 (.pr q2 (.pr q3 (.pr (.fn 10 (.int 0)) (.pr c0 (.pr c1 (.pr c2 (.pr c3 (.pr a (.pr C (.pr X (.pr p (.int 0)))))))))))))))=true:=afy h e rfl
theorem axC:E.I F (.fn 0 (.fn 40 T))=E.I F (.fn 0 T):=by
 rw[<- br,<- br,PO]
 rw[(qa _).length_eq]
end
end Go.SX

set_option linter.unusedVariables false
set_option linter.unusedSimpArgs false
namespace Go.SX
section
variable {F:Env} {p0 p1 p2 p3 q0 q1 q2 q3 R T R1 T1 R2 T2 k n m g i j a b c d x y l v id c0 c1 c2 c3 C X p L:E}
theorem qh:(E.B F (.fn 182 (.pr c0 (.pr c1 (.pr c2 (.pr c3 (.pr a (.pr C (.pr X (.pr p (.int 0))))))))))=true)=(E.B F (.fn 145 (.pr X p))=true/\E.B F (.fn 146 (.pr c0 (.pr c1 (.pr c2 (.pr c3 a)))))=true/\¬E.B F (.fn 177 (.pr (.int 4) (.pr a (.pr c0 (.pr c1 (.pr c2 (.pr c3 (.pr C (.pr X (.pr p (.int 0)))))))))))=true):=by
 rw[lA,kj,ch]
 show((ff _ _&&HA (dd F c0 c1 c2 c3) _&&(bN _ 4 _ _).isSome)=true)=_
 simp only[Bool.and_eq_true,Option.isSome_iff_ne_none,HA,dd,List.all_cons,List.all_nil,Bool.and_true,hE,and_assoc];rfl
theorem LH(h:E.B F (.fn 183 (.pr q0 (.pr q1 (.pr q2 (.pr q3 (.pr T1 (.pr c0 (.pr c1 (.pr c2 (.pr c3 (.pr a (.pr C (.pr X (.pr p (.int 0)))))))))))))))=true):¬E.B F (.fn 177 (.pr (.int 4) (.pr a (.pr c0 (.pr c1 (.pr c2 (.pr c3 (.pr C (.pr X (.pr p (.int 0)))))))))))=true:=by
 rw[rR]at h
 rw[lA]
 intro h';simp_all
theorem yr:(E.B F (.fn 184 (.pr x (.pr l (.pr v n))))=true)=(ay F x=((ay F l).take (E.I F n).toNat).filter fun x=>!(x==E.I F v)):=by
 show((bJ _==((bJ _).take _).filter _)=true)=_
 rw[beq_iff_eq];rfl
theorem TX(h:E.B F (.fn 184 (.pr x (.pr l (.pr v n))))=true)(e:E.I F m=E.I F n):E.B F (.fn 184 (.pr x (.pr l (.pr v m))))=true:=by simp_all[yr]
theorem aJh(h:E.B F (.fn 184 (.pr x (.pr l (.pr v n))))=true)(e:E.I F m=E.I F n):E.B F (.fn 184 (.pr (.fn 28 (.pr a x)) (.pr l (.pr v m))))=true:=TX h e
theorem aJl(h:E.B F (.fn 184 (.pr (.fn 10 a) (.pr l (.pr v n))))=true)(e:E.I F m=E.I F n):E.B F (.fn 184 (.pr (.fn 30 b) (.pr l (.pr v m))))=true:=TX (x:=(.fn 30 b)) h e
theorem MZ(h0:0<=E.I F i)(h1:E.I F i<E.I F (.fn 0 l))(hm:E.I F m=E.I F i+1):(ay F l).take (E.I F m).toNat=(ay F l).take (E.I F i).toNat++[E.I F (.fn 1 (.pr l i))]:=by
 rw[<- br]at h1
 rw[show(E.I F m).toNat=(E.I F i).toNat+1 by omega,kD _ _ (by omega),fE]
theorem aJg(h:E.B F (.fn 184 (.pr x (.pr l (.pr v i))))=true)(h0:0<=E.I F i)(h1:E.I F i<E.I F (.fn 0 l))(hm:E.I F m=E.I F i+1)(hv:E.I F (.fn 1 (.pr l i))=E.I F v):E.B F (.fn 184 (.pr x (.pr l (.pr v m))))=true:=by
 grind[yr,MZ]
theorem aKV(h:E.B F (.fn 184 (.pr x (.pr l (.pr v i))))=true)(h0:0<=E.I F i)(h1:E.I F i<E.I F (.fn 0 l))(hm:E.I F m=E.I F i+1)(hv:¬E.I F (.fn 1 (.pr l i))=E.I F v):E.B F (.fn 184 (.pr (.fn 3 (.pr x (.fn 23 (.pr (.fn 1 (.pr l i)) (.fn 10 b))))) (.pr l (.pr v m))))=true:=by
 rw[yr]at *
 rw[MZ h0 h1 hm,List.filter_append,<- h,jR,List.filter_cons,if_pos (by simp[hv])];rfl
theorem aKz(h:E.B F (.fn 184 (.pr (.fn 10 a) (.pr l (.pr v i))))=true)(h0:0<=E.I F i)(h1:E.I F i<E.I F (.fn 0 l))(hm:E.I F m=E.I F i+1)(hv:¬E.I F (.fn 1 (.pr l i))=E.I F v):E.B F (.fn 184 (.pr (.fn 23 (.pr (.fn 1 (.pr l i)) (.fn 10 b))) (.pr l (.pr v m))))=true:=by
 rw[yr]at *
 rw[MZ h0 h1 hm,List.filter_append,<- h,List.filter_cons,if_pos (by simp[hv])];rfl
theorem aKW(h:E.B F (.fn 144 (.pr (.fn 10 a) (.pr C (.pr X p))))=true):E.B F (.fn 144 (.pr (.fn 30 b) (.pr C (.pr X p))))=true:=h
theorem aKp(h:E.B F (.fn 144 (.pr x (.pr C (.pr X p))))=true):E.B F (.fn 144 (.pr (.fn 28 (.pr a x)) (.pr C (.pr X p))))=true:=h
end
end Go.SX

set_option linter.unusedVariables false
set_option linter.unusedSimpArgs false
namespace Go.SX
/-! ### sources by their ids alone -/
theorem xb:∀(l:List Int)(i:Nat),l.length%2=0->bi (l.take (2*i)++l.drop (2*i+2))=(bi l).take i++(bi l).drop (i+1)
 |[],i,_=>by simp[bi]
 |[_],i,h=>by simp at h
 |a::c::l,0,h=>by rfl
 |a::c::l,i+1,h=>by
  have:=xb l i (by grind)
  grind[bi]
theorem CA:∀(l:List Int)(i:Nat),l.length%2=0->bM (l.take (2*i)++l.drop (2*i+2))=(bM l).take i++(bM l).drop (i+1)
 |[],i,_=>by simp[bM]
 |[_],i,h=>by simp at h
 |a::c::l,0,h=>by rfl
 |a::c::l,i+1,h=>by
  have:=CA l i (by grind)
  grind[bM]
theorem IV:∀(l:List Int)(i:Nat),l.Nodup->i<l.length->l.filter (fun x=>!(x==l.getD i 0))=l.take i++l.drop (i+1)
 |[],i,_,h=>by simp at h
 |a::l,0,hn,_=>by
  show(a::l).filter _=l
  rw[List.filter_cons,if_neg (by simp),List.filter_eq_self]
  grind
 |a::l,i+1,hn,h=>by
  have h':i<l.length:=by simp_all
  obtain⟨ha,hn'⟩:=List.nodup_cons.1 hn
  show(a::l).filter (fun x=>!(x==l.getD i 0))=a::(l.take i++l.drop _)
  rw[List.filter_cons,if_pos,IV l i hn' h']
  grind
/-- the first of a colour, by what the ids make -/
theorem af2{mk:Int->Int}{k:Int}(hk:0<=k):∀(l:List Int)(i:Nat),l.length%2=0->bM l=(bi l).map mk->
    (bB k l i<0->(bi l).find? (fun a=>mk a==k)=none)/\(0<=bB k l i->(i:Int)<=bB k l i/\(bi l).find? (fun a=>mk a==k)=some (l.getD (2*(bB k l i-i).toNat) 0))
  |[],i,_,_=>by simp[bB,bi]
  |[_],i,h,_=>by simp at h
  |a ::c ::l,i,h,ho=>by
    have ho':=ho
    obtain⟨hc,ho'⟩:=List.cons.inj ho'
    have e:bB k (a ::c ::l) i=if ip k c then(i:Int)else bB k l _:=rfl
    have ee:bi (a ::c ::l)=a ::bi l:=rfl;have hok:ip k c=(mk a==k):=by grind[ip]
    rw[e,ee,List.find?_cons,<- hok]
    by_cases hy:ip k c=true
    · simp_all
    · have hy':ip k c=false:=by simp_all
      rw[if_neg hy,hy']
      obtain⟨h1,h2⟩:=af2 hk l _ (by grind) ho'
      refine⟨h1,fun h0=>?_⟩
      refine⟨by omega, ?_⟩
      have e2:2*(bB k l (i+1)-i).toNat=2*(bB k l (i+1)-(i+1)).toNat+1+1:=by omega
      simp_all
/-! what holds of a purse all along -/
def iv(mk:Int->Int)(Q:Int->Prop)(N:Nat)(s:Pu):Prop:=
 s.2.1.length%2=0/\bM s.2.1=(bi s.2.1).map mk/\(bi s.2.1).Nodup/\(∀a∈bi s.2.1,1<=a/\Q a)/\s.1.length=4/\s.2.1.length/2+s.2.2.length<=N
theorem aHn{mk:Int->Int}{Q:Int->Prop}{N:Nat}{s:Pu}(b:Nat)(h:iv mk Q N s):iv mk Q N (eH b s):=by
 obtain⟨h1,h2,h3,h4,h5,h6⟩:=h
 exact⟨h1,h2,h3,h4,by simp_all[eH],h6⟩
theorem aCB{mk:Int->Int}{Q:Int->Prop}{N:Nat}{s:Pu}(i:Nat)(hi:2*i+2<=s.2.1.length)(h:iv mk Q N s):iv mk Q N (fJ i s):=by
 obtain⟨h1,h2,h3,h4,h5,h6⟩:=h
 have hl:=JZ hi;have ee:bi (fJ i s).2.1=(bi _).take i++(bi _).drop _:=xb _ _ h1;have sub:((bi s.2.1).take i++(bi s.2.1).drop (i+1)).Sublist (bi s.2.1):=by
  grind[List.take_append_drop]
 refine⟨by omega,?_,?_,?_,h5,by omega⟩
 ·show bM (s.2.1.take _++s.2.1.drop _)=_;simp_all[CA]
 all_goals grind
theorem aFb{mk:Int->Int}{Q:Int->Prop}{N:Nat}{k:Int}{s t:Pu}(h:iv mk Q N s)(e:ga k s=some t):iv mk Q N t:=by
 rw[qv]at e
 obtain⟨e0,rfl⟩:=e
 have:=wE e0
 simp_all[aCB]
theorem aqp{mk:Int->Int}{Q:Int->Prop}{N:Nat}{k:Nat}{s t:Pu}(h:iv mk Q N s)(e:fZ k s=some t):iv mk Q N t:=by
 unfold fZ at e;grind[fw,aHn,aFb,ey]
theorem JM{mk:Int->Int}{Q:Int->Prop}{N k:Nat}:∀ {n:Nat} {s t:Pu},iv mk Q N s->cR (fZ k) n s=some t->iv mk Q N t
 |0,s,t,h,e=>by cases e;exact h
 |n+1,s,t,h,e=>by
  cases e1:cR _ n s with
  |none=>rw[show cR _ _ s=(cR _ n s).bind _ from rfl,e1]at e;cases e
  |some u=>exact aqp (JM h e1) ((tl e1).symm.trans e)
theorem XB{mk:Int->Int}{Q:Int->Prop}{N:Nat}{c:List Int}:∀ {k:Nat} {s t:Pu},k<=4->iv mk Q N s->fm c k s=some t->iv mk Q N t
 |0,s,t,_,h,e=>by cases e;exact h
 |k+1,s,t,hk,h,e=>by
  cases e1:fm c k s with
  |none=>rw[show fm c _ s=(fm c k s).bind _ from rfl,e1]at e;cases e
  |some u=>
   rw[show fm c _ s=(fm c k s).bind _ from rfl,e1]at e
   have e':cR (fZ k) (c.getD k 0).toNat u=some t:=by rw[kc (by omega)];exact e
   exact JM (XB (by omega) h e1) e'
theorem ap7{mk:Int->Int}{Q:Int->Prop}{N:Nat}{c:List Int}{k n:Nat}{s t:Pu}(hk:k<=4)(h:iv mk Q N s)(e:bN c k n s=some t):iv mk Q N t:=by
 unfold bN at e;cases e1:fm c k s with
 |none=>simp_all
 |some u=>rw[e1]at e;exact JM (XB hk h e1) e
/-- what is there at first -/
theorem HV{l:List U}{X:U}{p:Int}(h:ff X p=true){N:Nat}(hN:aN X<=N):iv (gY l X) (fun a=>0<=dv X a (aN X)) N (gQ l X p):=by
  obtain⟨hp,p0,p1⟩:=DA h
  have hlt:=abw hp;have hpw:(bi (cF l X p (aN X))).Pairwise (· < ·):=by
    grind[qm,List.Pairwise.imp_of_mem,List.pairwise_lt_range]
  have hll:(bi (cF l X p (aN X))).length=(bM (cF l X p (aN X))).length:=by rw[kF,P0]
  refine⟨sB _ _ _ _, ?_,hpw.imp fun {a b} h=>by omega, ?_,rfl, ?_⟩
  · refine List.ext_getElem (by rw[List.length_map];exact hll.symm) fun i h1 h2=>?_
    rw[List.getElem_map]
    have hi:i<(bi (cF l X p (aN X))).length:=by
      have:i<(bM (cF l X p (aN X))).length:=h1
      omega
    have:=(aaM l h hi).1
    rw[List.getD_eq_getElem?_getD,List.getElem?_eq_getElem hi,List.getD_eq_getElem?_getD,List.getElem?_eq_getElem (by omega)]at this
    exact this.symm
  · intro a ha
    obtain⟨i,hi,rfl⟩:=List.mem_iff_getElem.1 ha
    have hi':i<(bi (cF l X p (aN X))).length:=hi;have hq:=(aaM l h hi').2
    rw[List.getD_eq_getElem?_getD,List.getElem?_eq_getElem hi']at hq
    refine⟨?_,hq⟩
    have hm:(bi (cF l X p (aN X)))[i]∈((List.range (aN X)).filter (jO l X p)).map fun i=>oI X i 0:=by
      grind[qm,List.getElem_mem]
    obtain⟨q,hq,e⟩:=List.mem_map.1 hm
    have hq:=List.mem_range.1 (List.mem_filter.1 hq).1;have ho:=(mm X (aN X)).1 (wJ hp)
    have:=((rE X q).1 (ho q hq).1)
    show 1<=(bi (cF l X p (aN X)))[i];omega
  · have:=Tb l X p (aN X)
    show(cF l X p (aN X)).length/2+0<=N
    omega
end Go.SX

set_option linter.unusedVariables false
set_option linter.unusedSimpArgs false
namespace Go.SX
theorem sG{G:Type}{o:Option G}{f:G->Bool}:o.any f=true↔∃s,o=some s/\f s=true:=by
 cases o with
 |none=>simp
 |some s=>simp
section
variable {F:Env} {p0 p1 p2 p3 q0 q1 q2 q3 R T R1 T1 R2 T2 k n m g i j a b c d x y l v id c0 c1 c2 c3 C X p L:E}
noncomputable def DP(F:Env)(p0 p1 p2 p3 x T:E)(s:Pu):Prop:=s.1=[E.I F p0,E.I F p1,E.I F p2,E.I F p3]/\bi s.2.1=ay F x/\s.2.2=ay F T
def Wh(F:Env)(C X:E)(s:Pu):Prop:=iv (gY (E.L F C) (X.den F)) (fun a=>0<=dv (X.den F) a (aN (X.den F))) 30 s
theorem gZ:(E.B F (.fn 178 (.pr p0 (.pr p1 (.pr p2 (.pr p3 (.pr x (.pr T (.pr k (.pr n (.pr c0 (.pr c1 (.pr c2 (.pr c3 (.pr C (.pr X (.pr p (.int 0)))))))))))))))))=true)=(∃s,bN (dd F c0 c1 c2 c3) (E.I F k).toNat (E.I F n).toNat (bP F C X p)=some s/\DP F p0 p1 p2 p3 x T s):=by
 show(((bN (dd F c0 c1 c2 c3) (E.I F k).toNat (E.I F n).toNat (bP F C X p)).any fun s=>(s.1,bi _,s.2.2)==([E.I F p0,E.I F p1,E.I F p2,E.I F p3],ay F x,ay F T))=true)=_
 simp_all[sG,DP]
theorem pa(h:E.B F (.fn 178 (.pr p0 (.pr p1 (.pr p2 (.pr p3 (.pr x (.pr T (.pr k (.pr n (.pr c0 (.pr c1 (.pr c2 (.pr c3 (.pr C (.pr X (.pr p (.int 0)))))))))))))))))=true)(hf:E.B F (.fn 145 (.pr X p))=true)(hs:E.B F (.fn 117 X)=true)(hk:E.I F k<=4):∃s,bN (dd F c0 c1 c2 c3) (E.I F k).toNat (E.I F n).toNat (bP F C X p)=some s/\DP F p0 p1 p2 p3 x T s/\Wh F C X s:=by
 rw[gZ]at h
 obtain⟨s,e,hi⟩:=h
 have hn:=(aC hs).2.2.1.2.2.1;have e9:E.I F (E.fn 9 (.pr (.fn 1 (.pr X (.int 0))) (.int 12)))=aN (X.den F):=rfl
 exact⟨s,e,hi,ap7 (by omega) (HV (kj▸hf) (by omega)) e⟩
theorem aKi(h:E.B F (.fn 144 (.pr x (.pr C (.pr X p))))=true)(hp:E.I F p=0):E.B F (.fn 178 (.pr (.fn 1 (.pr X (.int 2))) (.pr (.fn 1 (.pr X (.int 3))) (.pr (.fn 1 (.pr X (.int 4))) (.pr (.fn 1 (.pr X (.int 5))) (.pr x (.pr (.fn 10 (.int 0)) (.pr (.int 0) (.pr (.int 0) (.pr c0 (.pr c1 (.pr c2 (.pr c3 (.pr C (.pr X (.pr p (.int 0)))))))))))))))))=true:=by
 rw[qx]at h
 rw[gZ]
 refine⟨bP F C X p,rfl,?_,?_,rfl⟩
 ·unfold bP gQ;rw[hp];rfl
 ·exact h.symm
theorem aLb(h:E.B F (.fn 144 (.pr x (.pr C (.pr X p))))=true)(hp:E.I F p=1):E.B F (.fn 178 (.pr (.fn 1 (.pr X (.int 16))) (.pr (.fn 1 (.pr X (.int 17))) (.pr (.fn 1 (.pr X (.int 18))) (.pr (.fn 1 (.pr X (.int 19))) (.pr x (.pr (.fn 10 (.int 0)) (.pr (.int 0) (.pr (.int 0) (.pr c0 (.pr c1 (.pr c2 (.pr c3 (.pr C (.pr X (.pr p (.int 0)))))))))))))))))=true:=by
 rw[qx]at h
 rw[gZ]
 refine⟨bP F C X p,rfl,?_,?_,rfl⟩
 ·unfold bP gQ;rw[hp];rfl
 ·exact h.symm
theorem aJC(h:E.B F (.fn 178 (.pr p0 (.pr p1 (.pr p2 (.pr p3 (.pr x (.pr T (.pr k (.pr n (.pr c0 (.pr c1 (.pr c2 (.pr c3 (.pr C (.pr X (.pr p (.int 0)))))))))))))))))=true)(e:E.I F m=E.I F k)(e2:E.I F j=E.I F n):E.B F (.fn 178 (.pr p0 (.pr p1 (.pr p2 (.pr p3 (.pr x (.pr T (.pr m (.pr j (.pr c0 (.pr c1 (.pr c2 (.pr c3 (.pr C (.pr X (.pr p (.int 0)))))))))))))))))=true:=by simp_all[gZ]
theorem abT(h0:0<=E.I F k):E.I F (.fn 1 (.pr (.fn 23 (.pr c0 (.fn 23 (.pr c1 (.fn 23 (.pr c2 (.fn 23 (.pr c3 (.fn 10 (.int 0)))))))))) k))=(dd F c0 c1 c2 c3).getD (E.I F k).toNat 0:=by rw[fE];rfl
theorem aux(hk:E.I F k=0):E.I F (.fn 1 (.pr (.fn 23 (.pr c0 (.fn 23 (.pr c1 (.fn 23 (.pr c2 (.fn 23 (.pr c3 (.fn 10 (.int 0)))))))))) k))=E.I F c0:=by rw[fE,hk];rfl
theorem avS(hk:E.I F k=1):E.I F (.fn 1 (.pr (.fn 23 (.pr c0 (.fn 23 (.pr c1 (.fn 23 (.pr c2 (.fn 23 (.pr c3 (.fn 10 (.int 0)))))))))) k))=E.I F c1:=by rw[fE,hk];rfl
theorem aFM(hk:E.I F k=2):E.I F (.fn 1 (.pr (.fn 23 (.pr c0 (.fn 23 (.pr c1 (.fn 23 (.pr c2 (.fn 23 (.pr c3 (.fn 10 (.int 0)))))))))) k))=E.I F c2:=by rw[fE,hk];rfl
theorem apM(hk:E.I F k=3):E.I F (.fn 1 (.pr (.fn 23 (.pr c0 (.fn 23 (.pr c1 (.fn 23 (.pr c2 (.fn 23 (.pr c3 (.fn 10 (.int 0)))))))))) k))=E.I F c3:=by rw[fE,hk];rfl
theorem aJJ(h:E.B F (.fn 146 (.pr c0 (.pr c1 (.pr c2 (.pr c3 a)))))=true)(h0:0<=E.I F k)(h1:E.I F k<4):0<=E.I F (.fn 1 (.pr (.fn 23 (.pr c0 (.fn 23 (.pr c1 (.fn 23 (.pr c2 (.fn 23 (.pr c3 (.fn 10 (.int 0)))))))))) k))/\E.I F (.fn 1 (.pr (.fn 23 (.pr c0 (.fn 23 (.pr c1 (.fn 23 (.pr c2 (.fn 23 (.pr c3 (.fn 10 (.int 0)))))))))) k))<=20:=by
 grind[ch,aux,avS,aFM,apM]
theorem aJ3(h:E.B F (.fn 178 (.pr p0 (.pr p1 (.pr p2 (.pr p3 (.pr x (.pr T (.pr k (.pr n (.pr c0 (.pr c1 (.pr c2 (.pr c3 (.pr C (.pr X (.pr p (.int 0)))))))))))))))))=true)(hc:E.I F n=E.I F (.fn 1 (.pr (.fn 23 (.pr c0 (.fn 23 (.pr c1 (.fn 23 (.pr c2 (.fn 23 (.pr c3 (.fn 10 (.int 0)))))))))) k)))(h0:0<=E.I F k)(h1:E.I F k<4)(hm:E.I F m=E.I F k+1)(hj:E.I F j=0):E.B F (.fn 178 (.pr p0 (.pr p1 (.pr p2 (.pr p3 (.pr x (.pr T (.pr m (.pr j (.pr c0 (.pr c1 (.pr c2 (.pr c3 (.pr C (.pr X (.pr p (.int 0)))))))))))))))))=true:=by
 rw[abT h0]at hc
 rw[gZ]at h ⊢
 rw[show(E.I F m).toNat=(E.I F k).toNat+1 by omega,hj]
 simp_all[qL]
theorem aJR(h:E.B F (.fn 178 (.pr p0 (.pr p1 (.pr p2 (.pr p3 (.pr x (.pr T (.pr k (.pr n (.pr c0 (.pr c1 (.pr c2 (.pr c3 (.pr C (.pr X (.pr p (.int 0)))))))))))))))))=true)(hk:E.I F k=0)(h0:0<=E.I F n)(hm:E.I F m=E.I F n+1)(hp:0<E.I F p0)(hg:E.I F g=E.I F p0-1):E.B F (.fn 178 (.pr g (.pr p1 (.pr p2 (.pr p3 (.pr x (.pr T (.pr k (.pr m (.pr c0 (.pr c1 (.pr c2 (.pr c3 (.pr C (.pr X (.pr p (.int 0)))))))))))))))))=true:=by
 rw[gZ]at h ⊢
 obtain⟨s,e,hi,hx,hT⟩:=h
 rw[hk]at e ⊢
 refine⟨eH 0 s,?_,?_,hx,hT⟩
 ·rw[show(E.I F m).toNat=(E.I F n).toNat+1 by omega]
  refine(iJ e).trans ?_
  show fw 0 s=_;simp_all[fw]
 ·show s.1.set 0 _=_;simp_all
theorem aKO(h:E.B F (.fn 178 (.pr p0 (.pr p1 (.pr p2 (.pr p3 (.pr x (.pr T (.pr (.int 4) (.pr n (.pr c0 (.pr c1 (.pr c2 (.pr c3 (.pr C (.pr X (.pr p (.int 0)))))))))))))))))=true)(hn:0<=E.I F n)(hm:E.I F m=E.I F n+1)(hp:0<E.I F p0)(hg:E.I F g=E.I F p0-1)(h1:E.I F p1<=E.I F p0)(h2:E.I F p2<=E.I F p0)(h3:E.I F p3<=E.I F p0):E.B F (.fn 178 (.pr g (.pr p1 (.pr p2 (.pr p3 (.pr x (.pr T (.pr (.int 4) (.pr m (.pr c0 (.pr c1 (.pr c2 (.pr c3 (.pr C (.pr X (.pr p (.int 0)))))))))))))))))=true:=by
 rw[gZ]at h ⊢
 obtain⟨s,e,hi,hx,hT⟩:=h
 have hb:fW s.1=0:=by simp_all[Hl]
 refine⟨eH 0 s,?_,?_,hx,hT⟩
 ·rw[show(E.I F m).toNat=(E.I F n).toNat+1 by omega]
  refine(iJ e).trans ?_
  show ey s=_;simp_all[qg]
 ·show s.1.set 0 _=_;simp_all
theorem aJk(h:E.B F (.fn 178 (.pr p0 (.pr p1 (.pr p2 (.pr p3 (.pr x (.pr T (.pr k (.pr n (.pr c0 (.pr c1 (.pr c2 (.pr c3 (.pr C (.pr X (.pr p (.int 0)))))))))))))))))=true)(hk:E.I F k=1)(h0:0<=E.I F n)(hm:E.I F m=E.I F n+1)(hp:0<E.I F p1)(hg:E.I F g=E.I F p1-1):E.B F (.fn 178 (.pr p0 (.pr g (.pr p2 (.pr p3 (.pr x (.pr T (.pr k (.pr m (.pr c0 (.pr c1 (.pr c2 (.pr c3 (.pr C (.pr X (.pr p (.int 0)))))))))))))))))=true:=by
 rw[gZ]at h ⊢
 obtain⟨s,e,hi,hx,hT⟩:=h
 rw[hk]at e ⊢
 refine⟨eH 1 s,?_,?_,hx,hT⟩
 ·rw[show(E.I F m).toNat=(E.I F n).toNat+1 by omega]
  refine(iJ e).trans ?_
  show fw 1 s=_;simp_all[fw]
 ·show s.1.set 1 _=_;simp_all
theorem aKl(h:E.B F (.fn 178 (.pr p0 (.pr p1 (.pr p2 (.pr p3 (.pr x (.pr T (.pr (.int 4) (.pr n (.pr c0 (.pr c1 (.pr c2 (.pr c3 (.pr C (.pr X (.pr p (.int 0)))))))))))))))))=true)(hn:0<=E.I F n)(hm:E.I F m=E.I F n+1)(hp:0<E.I F p1)(hg:E.I F g=E.I F p1-1)(h0:E.I F p0<E.I F p1)(h2:E.I F p2<=E.I F p1)(h3:E.I F p3<=E.I F p1):E.B F (.fn 178 (.pr p0 (.pr g (.pr p2 (.pr p3 (.pr x (.pr T (.pr (.int 4) (.pr m (.pr c0 (.pr c1 (.pr c2 (.pr c3 (.pr C (.pr X (.pr p (.int 0)))))))))))))))))=true:=by
 rw[gZ]at h ⊢
 obtain⟨s,e,hi,hx,hT⟩:=h
 have hb:fW s.1=1:=by simp_all[GO]
 refine⟨eH 1 s,?_,?_,hx,hT⟩
 ·rw[show(E.I F m).toNat=(E.I F n).toNat+1 by omega]
  refine(iJ e).trans ?_
  show ey s=_;simp_all[qg]
 ·show s.1.set 1 _=_;simp_all
theorem aJP(h:E.B F (.fn 178 (.pr p0 (.pr p1 (.pr p2 (.pr p3 (.pr x (.pr T (.pr k (.pr n (.pr c0 (.pr c1 (.pr c2 (.pr c3 (.pr C (.pr X (.pr p (.int 0)))))))))))))))))=true)(hk:E.I F k=2)(h0:0<=E.I F n)(hm:E.I F m=E.I F n+1)(hp:0<E.I F p2)(hg:E.I F g=E.I F p2-1):E.B F (.fn 178 (.pr p0 (.pr p1 (.pr g (.pr p3 (.pr x (.pr T (.pr k (.pr m (.pr c0 (.pr c1 (.pr c2 (.pr c3 (.pr C (.pr X (.pr p (.int 0)))))))))))))))))=true:=by
 rw[gZ]at h ⊢
 obtain⟨s,e,hi,hx,hT⟩:=h
 rw[hk]at e ⊢
 refine⟨eH 2 s,?_,?_,hx,hT⟩
 ·rw[show(E.I F m).toNat=(E.I F n).toNat+1 by omega]
  refine(iJ e).trans ?_
  show fw 2 s=_;simp_all[fw]
 ·show s.1.set 2 _=_;simp_all
theorem aJ7(h:E.B F (.fn 178 (.pr p0 (.pr p1 (.pr p2 (.pr p3 (.pr x (.pr T (.pr (.int 4) (.pr n (.pr c0 (.pr c1 (.pr c2 (.pr c3 (.pr C (.pr X (.pr p (.int 0)))))))))))))))))=true)(hn:0<=E.I F n)(hm:E.I F m=E.I F n+1)(hp:0<E.I F p2)(hg:E.I F g=E.I F p2-1)(h0:E.I F p0<E.I F p2)(h1:E.I F p1<E.I F p2)(h3:E.I F p3<=E.I F p2):E.B F (.fn 178 (.pr p0 (.pr p1 (.pr g (.pr p3 (.pr x (.pr T (.pr (.int 4) (.pr m (.pr c0 (.pr c1 (.pr c2 (.pr c3 (.pr C (.pr X (.pr p (.int 0)))))))))))))))))=true:=by
 rw[gZ]at h ⊢
 obtain⟨s,e,hi,hx,hT⟩:=h
 have hb:fW s.1=2:=by simp_all[JO]
 refine⟨eH 2 s,?_,?_,hx,hT⟩
 ·rw[show(E.I F m).toNat=(E.I F n).toNat+1 by omega]
  refine(iJ e).trans ?_
  show ey s=_;simp_all[qg]
 ·show s.1.set 2 _=_;simp_all
theorem aKc(h:E.B F (.fn 178 (.pr p0 (.pr p1 (.pr p2 (.pr p3 (.pr x (.pr T (.pr k (.pr n (.pr c0 (.pr c1 (.pr c2 (.pr c3 (.pr C (.pr X (.pr p (.int 0)))))))))))))))))=true)(hk:E.I F k=3)(h0:0<=E.I F n)(hm:E.I F m=E.I F n+1)(hp:0<E.I F p3)(hg:E.I F g=E.I F p3-1):E.B F (.fn 178 (.pr p0 (.pr p1 (.pr p2 (.pr g (.pr x (.pr T (.pr k (.pr m (.pr c0 (.pr c1 (.pr c2 (.pr c3 (.pr C (.pr X (.pr p (.int 0)))))))))))))))))=true:=by
 rw[gZ]at h ⊢
 obtain⟨s,e,hi,hx,hT⟩:=h
 rw[hk]at e ⊢
 refine⟨eH 3 s,?_,?_,hx,hT⟩
 ·rw[show(E.I F m).toNat=(E.I F n).toNat+1 by omega]
  refine(iJ e).trans ?_
  show fw 3 s=_;simp_all[fw]
 ·show s.1.set 3 _=_;simp_all
theorem aKj(h:E.B F (.fn 178 (.pr p0 (.pr p1 (.pr p2 (.pr p3 (.pr x (.pr T (.pr (.int 4) (.pr n (.pr c0 (.pr c1 (.pr c2 (.pr c3 (.pr C (.pr X (.pr p (.int 0)))))))))))))))))=true)(hn:0<=E.I F n)(hm:E.I F m=E.I F n+1)(hp:0<E.I F p3)(hg:E.I F g=E.I F p3-1)(h0:E.I F p0<E.I F p3)(h1:E.I F p1<E.I F p3)(h2:E.I F p2<E.I F p3):E.B F (.fn 178 (.pr p0 (.pr p1 (.pr p2 (.pr g (.pr x (.pr T (.pr (.int 4) (.pr m (.pr c0 (.pr c1 (.pr c2 (.pr c3 (.pr C (.pr X (.pr p (.int 0)))))))))))))))))=true:=by
 rw[gZ]at h ⊢
 obtain⟨s,e,hi,hx,hT⟩:=h
 have hb:fW s.1=3:=by simp_all[HP]
 refine⟨eH 3 s,?_,?_,hx,hT⟩
 ·rw[show(E.I F m).toNat=(E.I F n).toNat+1 by omega]
  refine(iJ e).trans ?_
  show ey s=_;simp_all[qg]
 ·show s.1.set 3 _=_;simp_all
theorem NC{s:Pu}(hi:s.1=[E.I F p0,E.I F p1,E.I F p2,E.I F p3])(h0:E.I F p0<=0)(h1:E.I F p1<=0)(h2:E.I F p2<=0)(h3:E.I F p3<=0):ey s=ga (-1) s:=by
 grind[Yz]
theorem Ma:ay F (.fn 24 (.pr (.pr (.int 1) x) (.pr (.int 1) (.pr (.fn 0 x) d))))=(ay F x).drop 1:=by
 show(((E.L F x).take ((E.I F _).toNat*1)).drop _).map _=_
 have e:(E.I F (.fn 0 x)).toNat=(E.L F x).length:=rfl
 rw[e]
 simp only[Nat.mul_one,List.take_length,List.map_drop];rfl
theorem aKN(h:0<E.I F (.fn 0 x)):E.I F (.fn 0 (.fn 24 (.pr (.pr (.int 1) x) (.pr (.int 1) (.pr (.fn 0 x) d)))))=E.I F (.fn 0 x)-1:=by
 rw[<- br]at h
 rw[<- br,<- br,Ma,List.length_drop];omega
theorem XL(l:List Int)(h:l.length%2=0):bi (l.drop 2)=(bi l).drop 1:=by
 have:=xb l 0 h
 simp_all
theorem XR:∀ {l:List Int},2<=l.length->bB (-1) l 0=0
 |a::c::l,_=>rfl
 |[_],h=>by simp at h
 |[],h=>by simp at h
theorem aJn(h:E.B F (.fn 178 (.pr p0 (.pr p1 (.pr p2 (.pr p3 (.pr x (.pr T (.pr (.int 4) (.pr n (.pr c0 (.pr c1 (.pr c2 (.pr c3 (.pr C (.pr X (.pr p (.int 0)))))))))))))))))=true)(hf:E.B F (.fn 145 (.pr X p))=true)(hs:E.B F (.fn 117 X)=true)(hn:0<=E.I F n)(hm:E.I F m=E.I F n+1)(hx:0<E.I F (.fn 0 x))(h0:E.I F p0<=0)(h1:E.I F p1<=0)(h2:E.I F p2<=0)(h3:E.I F p3<=0):E.B F (.fn 178 (.pr p0 (.pr p1 (.pr p2 (.pr p3 (.pr (.fn 24 (.pr (.pr (.int 1) x) (.pr (.int 1) (.pr (.fn 0 x) d)))) (.pr (.fn 3 (.pr T (.fn 23 (.pr (.fn 1 (.pr x (.int 0))) (.fn 10 (.int 0)))))) (.pr (.int 4) (.pr m (.pr c0 (.pr c1 (.pr c2 (.pr c3 (.pr C (.pr X (.pr p (.int 0)))))))))))))))))=true:=by
 obtain⟨s,e,hi,hk⟩:=pa h hf hs (Int.le_refl _)
 obtain⟨hi,hxs,hT⟩:=hi
 rw[<- br,<- hxs,kF]at hx
 rw[gZ]
 refine⟨fJ 0 s,?_,hi,?_,?_⟩
 ·rw[show(E.I F m).toNat=(E.I F n).toNat+1 by omega]
  refine(iJ e).trans ?_
  show ey s=_;grind[NC,qv,XR]
 ·show bi (s.2.1.take 0++s.2.1.drop 2)=_
  rw[Ma,<- hxs,List.take_zero,List.nil_append,XL _ hk.1]
 ·show s.2.2++[s.2.1.getD 0 0]=_
  have:E.I F (.fn 1 (.pr x (.int 0)))=s.2.1.getD 0 0:=by
   refine(fE (l:=x) (i:=.int 0)).trans ?_
   show(ay F x).getD 0 0=_
   grind[xq]
  rw[hT,<- this]
  rw[jR];rfl
theorem aJ2(h:E.B F (.fn 178 (.pr p0 (.pr p1 (.pr p2 (.pr p3 (.pr x (.pr (.fn 10 (.int 0)) (.pr (.int 4) (.pr n (.pr c0 (.pr c1 (.pr c2 (.pr c3 (.pr C (.pr X (.pr p (.int 0)))))))))))))))))=true)(hf:E.B F (.fn 145 (.pr X p))=true)(hs:E.B F (.fn 117 X)=true)(hn:0<=E.I F n)(hm:E.I F m=E.I F n+1)(hx:0<E.I F (.fn 0 x))(h0:E.I F p0<=0)(h1:E.I F p1<=0)(h2:E.I F p2<=0)(h3:E.I F p3<=0):E.B F (.fn 178 (.pr p0 (.pr p1 (.pr p2 (.pr p3 (.pr (.fn 24 (.pr (.pr (.int 1) x) (.pr (.int 1) (.pr (.fn 0 x) d)))) (.pr (.fn 23 (.pr (.fn 1 (.pr x (.int 0))) (.fn 10 (.int 0)))) (.pr (.int 4) (.pr m (.pr c0 (.pr c1 (.pr c2 (.pr c3 (.pr C (.pr X (.pr p (.int 0)))))))))))))))))=true:=by
 obtain⟨s,e,hi,hk⟩:=pa h hf hs (Int.le_refl _)
 obtain⟨hi,hxs,hT⟩:=hi
 rw[<- br,<- hxs,kF]at hx
 rw[gZ]
 refine⟨fJ 0 s,?_,hi,?_,?_⟩
 ·rw[show(E.I F m).toNat=(E.I F n).toNat+1 by omega]
  refine(iJ e).trans ?_
  show ey s=_;grind[NC,qv,XR]
 ·show bi (s.2.1.take 0++s.2.1.drop 2)=_
  rw[Ma,<- hxs,List.take_zero,List.nil_append,XL _ hk.1]
 ·show s.2.2++[s.2.1.getD 0 0]=_
  have:E.I F (.fn 1 (.pr x (.int 0)))=s.2.1.getD 0 0:=by
   refine(fE (l:=x) (i:=.int 0)).trans ?_
   show(ay F x).getD 0 0=_
   grind[xq]
  rw[hT,<- this]
  rfl
theorem aJ9(h:E.B F (.fn 178 (.pr p0 (.pr p1 (.pr p2 (.pr p3 (.pr x (.pr T (.pr (.int 4) (.pr n (.pr c0 (.pr c1 (.pr c2 (.pr c3 (.pr C (.pr X (.pr p (.int 0)))))))))))))))))=true)(hf:E.B F (.fn 145 (.pr X p))=true)(hs:E.B F (.fn 117 X)=true)(h0':0<=E.I F n)(hn:E.I F n<E.I F a)(hx:E.I F (.fn 0 x)=0)(h0:E.I F p0<=0)(h1:E.I F p1<=0)(h2:E.I F p2<=0)(h3:E.I F p3<=0):E.B F (.fn 177 (.pr (.int 4) (.pr a (.pr c0 (.pr c1 (.pr c2 (.pr c3 (.pr C (.pr X (.pr p (.int 0)))))))))))=true:=by
 obtain⟨s,e,hi,hk⟩:=pa h hf hs (Int.le_refl _)
 obtain⟨hi,hxs,hT⟩:=hi
 rw[<- br,<- hxs,kF]at hx
 have hk1:=hk.1;have hl:s.2.1=[]:=List.length_eq_zero_iff.1 (by omega)
 rw[lA]
 refine zd (n:=(E.I F n).toNat+1) (by omega) ((iJ e).trans ?_);show ey s=none
 rw[NC hi h0 h1 h2 h3,EA,hl]
 decide
theorem rK:E.I F (.fn 179 (.pr x (.pr k (.pr C (.pr X (.int 0))))))=((ay F x).find? fun id=>gY (E.L F C) (X.den F) id==E.I F k).getD 0:=rfl
theorem Gw:ay F (.fn 19 (.pr x n))=(ay F x).drop (E.I F n).toNat:=by
 show((E.L F x).drop _).map _=_
 rw[List.map_drop];rfl
theorem aKI(h:E.I F (.fn 0 x)<=E.I F n):E.I F (.fn 179 (.pr (.fn 19 (.pr x n)) (.pr k (.pr C (.pr X (.int 0))))))=0:=by
 grind[br,rK,Gw,List.drop_eq_nil_of_le]
theorem aKR(h:E.I F n<=0):E.I F (.fn 179 (.pr (.fn 19 (.pr x n)) (.pr k (.pr C (.pr X (.int 0))))))=E.I F (.fn 179 (.pr x (.pr k (.pr C (.pr X (.int 0)))))):=by
 rw[rK,rK,Gw,show(E.I F n).toNat=0 by omega];rfl
theorem aee(h0:0<=E.I F i)(h1:E.I F i<E.I F (.fn 0 x))(hn:E.I F n=E.I F i)(hm:E.I F m=E.I F i+1):ay F (.fn 19 (.pr x n))=E.I F (.fn 1 (.pr x i))::ay F (.fn 19 (.pr x m)):=by
 grind[br,Gw,fE,List.drop_eq_getElem_cons]
theorem aJH(h0:0<=E.I F i)(h1:E.I F i<E.I F (.fn 0 x))(hn:E.I F n=E.I F i)(hv:E.I F (.fn 150 (.pr C (.pr X (.fn 1 (.pr x i)))))=E.I F k):E.I F (.fn 179 (.pr (.fn 19 (.pr x n)) (.pr k (.pr C (.pr X (.int 0))))))=E.I F (.fn 1 (.pr x i)):=by
 rw[Bi]at hv
 rw[rK,aee (m:=.fn 6 (.pr i (.int 1))) h0 h1 hn rfl,List.find?_cons,hv]
 simp
theorem aKr(h0:0<=E.I F i)(h1:E.I F i<E.I F (.fn 0 x))(hn:E.I F n=E.I F i)(hm:E.I F m=E.I F i+1)(hv:¬E.I F (.fn 150 (.pr C (.pr X (.fn 1 (.pr x i)))))=E.I F k):E.I F (.fn 179 (.pr (.fn 19 (.pr x n)) (.pr k (.pr C (.pr X (.int 0))))))=E.I F (.fn 179 (.pr (.fn 19 (.pr x m)) (.pr k (.pr C (.pr X (.int 0)))))):=by
 rw[Bi]at hv
 rw[rK,rK,aee h0 h1 hn hm,List.find?_cons,show(gY _ _ _==E.I F k)=false from by simp_all]
theorem XJ{s:Pu}(hi:DP F p0 p1 p2 p3 x T s)(ho:Wh F C X s)(hk:0<=E.I F k):
  (bB (E.I F k) s.2.1 0<0->E.I F (.fn 179 (.pr x (.pr k (.pr C (.pr X (.int 0))))))=0)/\(0<=bB (E.I F k) s.2.1 0->E.I F (.fn 179 (.pr x (.pr k (.pr C (.pr X (.int 0))))))=s.2.1.getD (2*(bB (E.I F k) s.2.1 0).toNat) 0/\1<=E.I F (.fn 179 (.pr x (.pr k (.pr C (.pr X (.int 0))))))):=by
 obtain⟨_,hx,_⟩:=hi
 obtain⟨o1,o2,o3,o4,_,_⟩:=ho
 grind[af2,rK]
theorem aJW(h:E.B F (.fn 178 (.pr p0 (.pr p1 (.pr p2 (.pr p3 (.pr x (.pr T (.pr k (.pr n (.pr c0 (.pr c1 (.pr c2 (.pr c3 (.pr C (.pr X (.pr p (.int 0)))))))))))))))))=true)(hf:E.B F (.fn 145 (.pr X p))=true)(hs:E.B F (.fn 117 X)=true)(hz:E.B F (.fn 185 (.pr p0 (.pr p1 (.pr p2 (.pr p3 (.pr k (.int 0)))))))=true)(hv:E.I F (.fn 179 (.pr x (.pr k (.pr C (.pr X (.int 0))))))=0)(hk:0<=E.I F k)(hk4:E.I F k<4)(hn:0<=E.I F n)(hc:E.I F n<E.I F (.fn 1 (.pr (.fn 23 (.pr c0 (.fn 23 (.pr c1 (.fn 23 (.pr c2 (.fn 23 (.pr c3 (.fn 10 (.int 0)))))))))) k))):E.B F (.fn 177 (.pr (.int 4) (.pr a (.pr c0 (.pr c1 (.pr c2 (.pr c3 (.pr C (.pr X (.pr p (.int 0)))))))))))=true:=by
 obtain⟨s,e,hi,ho⟩:=pa h hf hs (by omega)
 rw[oZ]at hz
 rw[abT hk]at hc
 obtain⟨g1,g2⟩:=XJ (k:=k) hi ho hk
 rw[lA]
 refine Aj (k:=(E.I F k).toNat) (n:=(E.I F n).toNat+1) (by omega) (by omega) ((iJ e).trans ?_) _
 rw[kc (by omega),Db (by rw[hi.1];omega),EA]
 grind
theorem aca(h:E.B F (.fn 178 (.pr p0 (.pr p1 (.pr p2 (.pr p3 (.pr x (.pr T (.pr k (.pr n (.pr c0 (.pr c1 (.pr c2 (.pr c3 (.pr C (.pr X (.pr p (.int 0)))))))))))))))))=true)(hf:E.B F (.fn 145 (.pr X p))=true)(hs:E.B F (.fn 117 X)=true)(hz:E.B F (.fn 185 (.pr p0 (.pr p1 (.pr p2 (.pr p3 (.pr k (.int 0)))))))=true)(hid:E.I F id=E.I F (.fn 179 (.pr x (.pr k (.pr C (.pr X (.int 0)))))))(h0:¬E.I F id=0)(hy:E.B F (.fn 184 (.pr y (.pr x (.pr id (.fn 0 x)))))=true)(hT:ay F T1=ay F T++[E.I F id])(hk:0<=E.I F k)(hk4:E.I F k<4)(hn:0<=E.I F n)(hm:E.I F m=E.I F n+1):E.B F (.fn 178 (.pr p0 (.pr p1 (.pr p2 (.pr p3 (.pr y (.pr T1 (.pr k (.pr m (.pr c0 (.pr c1 (.pr c2 (.pr c3 (.pr C (.pr X (.pr p (.int 0)))))))))))))))))=true:=by
 obtain⟨s,e,hi,ho⟩:=pa h hf hs (by omega)
 rw[oZ]at hz
 obtain⟨g1,g2⟩:=XJ (k:=k) hi ho hk
 have hpos:0<=bB (E.I F k) s.2.1 0:=by
  omega
 obtain⟨g2,g3⟩:=g2 hpos
 have hl:=wE hpos;have hev:(bi s.2.1).getD (bB (E.I F k) s.2.1 0).toNat 0=E.I F id:=by
  grind[xq]
 rw[gZ]
 refine⟨fJ (bB (E.I F k) s.2.1 0).toNat s,?_,hi.1,?_,?_⟩
 ·rw[show(E.I F m).toNat=(E.I F n).toNat+1 by omega]
  refine(iJ e).trans ?_
  rw[kc (by omega),Db (by rw[hi.1];omega),qv]
  grind
 ·show bi (s.2.1.take _++s.2.1.drop _)=_;have e0:(E.I F (.fn 0 x)).toNat=(ay F x).length:=by grind[br]
  rw[yr,e0,List.take_length,<- hi.2.1]at hy
  rw[xb _ _ ho.1,hy,<- hev,IV _ _ ho.2.2.1 (by grind)]
 ·show s.2.2++[s.2.1.getD _ 0]=_
  rw[hT,hi.2.2,hid,g2]
theorem aFf(h:E.B F (.fn 178 (.pr p0 (.pr p1 (.pr p2 (.pr p3 (.pr x (.pr T (.pr k (.pr n (.pr c0 (.pr c1 (.pr c2 (.pr c3 (.pr C (.pr X (.pr p (.int 0)))))))))))))))))=true)(hf:E.B F (.fn 145 (.pr X p))=true)(hs:E.B F (.fn 117 X)=true)(hz:E.B F (.fn 185 (.pr p0 (.pr p1 (.pr p2 (.pr p3 (.pr k (.int 0)))))))=true)(hid:E.I F id=E.I F (.fn 179 (.pr x (.pr k (.pr C (.pr X (.int 0)))))))(h0:¬E.I F id=0)(hy:E.B F (.fn 184 (.pr y (.pr x (.pr id (.fn 0 x)))))=true)(hk:0<=E.I F k)(hk4:E.I F k<4)(hn:0<=E.I F n)(hm:E.I F m=E.I F n+1):E.B F (.fn 178 (.pr p0 (.pr p1 (.pr p2 (.pr p3 (.pr y (.pr (.fn 3 (.pr T (.fn 23 (.pr id (.fn 10 (.int 0)))))) (.pr k (.pr m (.pr c0 (.pr c1 (.pr c2 (.pr c3 (.pr C (.pr X (.pr p (.int 0)))))))))))))))))=true:=aca h hf hs hz hid h0 hy (by rw[jR];rfl) hk hk4 hn hm
theorem aJB(h:E.B F (.fn 178 (.pr p0 (.pr p1 (.pr p2 (.pr p3 (.pr x (.pr (.fn 10 (.int 0)) (.pr k (.pr n (.pr c0 (.pr c1 (.pr c2 (.pr c3 (.pr C (.pr X (.pr p (.int 0)))))))))))))))))=true)(hf:E.B F (.fn 145 (.pr X p))=true)(hs:E.B F (.fn 117 X)=true)(hz:E.B F (.fn 185 (.pr p0 (.pr p1 (.pr p2 (.pr p3 (.pr k (.int 0)))))))=true)(hid:E.I F id=E.I F (.fn 179 (.pr x (.pr k (.pr C (.pr X (.int 0)))))))(h0:¬E.I F id=0)(hy:E.B F (.fn 184 (.pr y (.pr x (.pr id (.fn 0 x)))))=true)(hk:0<=E.I F k)(hk4:E.I F k<4)(hn:0<=E.I F n)(hm:E.I F m=E.I F n+1):E.B F (.fn 178 (.pr p0 (.pr p1 (.pr p2 (.pr p3 (.pr y (.pr (.fn 23 (.pr id (.fn 10 (.int 0)))) (.pr k (.pr m (.pr c0 (.pr c1 (.pr c2 (.pr c3 (.pr C (.pr X (.pr p (.int 0)))))))))))))))))=true:=aca h hf hs hz hid h0 hy rfl hk hk4 hn hm
theorem aKb(h:E.B F (.fn 178 (.pr p0 (.pr p1 (.pr p2 (.pr p3 (.pr x (.pr T (.pr k (.pr n (.pr c0 (.pr c1 (.pr c2 (.pr c3 (.pr C (.pr X (.pr p (.int 0)))))))))))))))))=true)(hf:E.B F (.fn 145 (.pr X p))=true)(hs:E.B F (.fn 117 X)=true)(hz:E.B F (.fn 185 (.pr p0 (.pr p1 (.pr p2 (.pr p3 (.pr k (.int 0)))))))=true)(hid:E.I F id=E.I F (.fn 179 (.pr x (.pr k (.pr C (.pr X (.int 0)))))))(h0:¬E.I F id=0)(hy:E.B F (.fn 184 (.pr y (.pr x (.pr id (.fn 0 x)))))=true)(hk:0<=E.I F k)(hk4:E.I F k<4)(hn:0<=E.I F n):E.I F (.fn 0 y)+E.I F (.fn 0 T)+1<=30:=by
 have h':=aFf (m:=.fn 6 (.pr n (.int 1))) h hf hs hz hid h0 hy hk hk4 hn rfl
 obtain⟨s,e,hi,ho⟩:=pa h' hf hs (by omega)
 obtain⟨_,_,_,_,_,ho⟩:=ho
 obtain⟨_,hx,hT⟩:=hi
 rw[hT,jR,List.length_append,<- kF,hx]at ho
 rw[<- br,<- br]
 have:(ay F (.fn 23 (.pr id (.fn 10 (.int 0))))).length=1:=rfl
 omega
theorem aKS(h:E.B F (.fn 178 (.pr p0 (.pr p1 (.pr p2 (.pr p3 (.pr x (.pr T (.pr k (.pr n (.pr c0 (.pr c1 (.pr c2 (.pr c3 (.pr C (.pr X (.pr p (.int 0)))))))))))))))))=true)(hf:E.B F (.fn 145 (.pr X p))=true)(hs:E.B F (.fn 117 X)=true)(hk:E.I F k<=4):E.I F (.fn 0 x)+E.I F (.fn 0 T)<=30:=by
 obtain⟨s,e,hi,ho⟩:=pa h hf hs hk
 obtain⟨_,_,_,_,_,ho⟩:=ho
 obtain⟨_,hx,hT⟩:=hi
 grind[kF,br]
theorem aJ0(h:E.B F (.fn 178 (.pr p0 (.pr p1 (.pr p2 (.pr p3 (.pr x (.pr T (.pr k (.pr n (.pr c0 (.pr c1 (.pr c2 (.pr c3 (.pr C (.pr X (.pr p (.int 0)))))))))))))))))=true)(hf:E.B F (.fn 145 (.pr X p))=true)(hs:E.B F (.fn 117 X)=true)(hk:E.I F k<=4)(h0:0<=E.I F i)(h1:E.I F i<E.I F (.fn 0 x)):0<=E.I F (.fn 120 (.pr X (.pr (.fn 1 (.pr x i)) (E.fn 9 (.pr (.fn 1 (.pr X (.int 0))) (.int 12)))))):=by
 obtain⟨s,e,hi,ho⟩:=pa h hf hs hk
 obtain⟨_,_,_,ho,_,_⟩:=ho
 rw[<- br]at h1
 have hm:E.I F (.fn 1 (.pr x i))∈ay F x:=by
  simp_all[fE]
 rw[<- hi.2.1]at hm
 exact(ho _ hm).2
theorem aaI(h:E.B F (.fn 178 (.pr p0 (.pr p1 (.pr p2 (.pr p3 (.pr x (.pr T (.pr (.int 4) (.pr n (.pr c0 (.pr c1 (.pr c2 (.pr c3 (.pr C (.pr X (.pr p (.int 0)))))))))))))))))=true)(e:E.I F n=E.I F a)(hT:ay F T1=eh (ay F T)):E.B F (.fn 183 (.pr p0 (.pr p1 (.pr p2 (.pr p3 (.pr T1 (.pr c0 (.pr c1 (.pr c2 (.pr c3 (.pr a (.pr C (.pr X (.pr p (.int 0)))))))))))))))=true:=by
 rw[gZ]at h
 obtain⟨s,e',hi,_,h3⟩:=h
 rw[rR,<- e]
 simp_all[dd]
theorem aJL(h:E.B F (.fn 178 (.pr p0 (.pr p1 (.pr p2 (.pr p3 (.pr x (.pr (.fn 10 (.int 0)) (.pr (.int 4) (.pr n (.pr c0 (.pr c1 (.pr c2 (.pr c3 (.pr C (.pr X (.pr p (.int 0)))))))))))))))))=true)(e:E.I F n=E.I F a):E.B F (.fn 183 (.pr p0 (.pr p1 (.pr p2 (.pr p3 (.pr (.fn 10 (.int 0)) (.pr c0 (.pr c1 (.pr c2 (.pr c3 (.pr a (.pr C (.pr X (.pr p (.int 0)))))))))))))))=true:=aaI h e rfl
theorem aJx(h:E.B F (.fn 178 (.pr p0 (.pr p1 (.pr p2 (.pr p3 (.pr x (.pr T (.pr (.int 4) (.pr n (.pr c0 (.pr c1 (.pr c2 (.pr c3 (.pr C (.pr X (.pr p (.int 0)))))))))))))))))=true)(e:E.I F n=E.I F a)(hy:E.B F (.fn 152 (.pr T1 (.pr T m)))=true)(hm:E.I F (.fn 0 T)<=E.I F m):E.B F (.fn 183 (.pr p0 (.pr p1 (.pr p2 (.pr p3 (.pr T1 (.pr c0 (.pr c1 (.pr c2 (.pr c3 (.pr a (.pr C (.pr X (.pr p (.int 0)))))))))))))))=true:=by
 grind[sD,br,List.take_of_length_le,aaI]
end
end Go.SX

set_option linter.unusedVariables false
set_option linter.unusedSimpArgs false
namespace Go.SX
section
variable {F:Env} {p0 p1 p2 p3 q0 q1 q2 q3 R T k n a c0 c1 c2 c3 C X p:E}
theorem aKG(h:E.B F (.fn 183 (.pr p0 (.pr p1 (.pr p2 (.pr p3 (.pr T (.pr c0 (.pr c1 (.pr c2 (.pr c3 (.pr a (.pr C (.pr X (.pr p (.int 0)))))))))))))))=true)(h2:E.B F (.fn 183 (.pr q0 (.pr q1 (.pr q2 (.pr q3 (.pr R (.pr c0 (.pr c1 (.pr c2 (.pr c3 (.pr a (.pr C (.pr X (.pr p (.int 0)))))))))))))))=true):E.I F p0=E.I F q0/\E.I F p1=E.I F q1/\E.I F p2=E.I F q2/\E.I F p3=E.I F q3/\E.I F (.fn 0 T)=E.I F (.fn 0 R)/\∀n,E.B F (.fn 161 (.pr T (.pr R n)))=true:=by
 rw[rR,sG]at h h2
 obtain⟨s,e,hs⟩:=h
 obtain⟨t,e',ht⟩:=h2
 obtain rfl:s=t:=Option.some.inj (e.symm.trans e');simp only[Bool.and_eq_true,beq_iff_eq]at hs ht;have hp:=hs.1.symm.trans ht.1;simp only[dd,List.cons.injEq,and_true]at hp
 refine⟨hp.1,hp.2.1,hp.2.2.1,hp.2.2.2,by grind[br],fun n=>?_⟩
 show((ay F T).take (E.I F n).toNat==(ay F R).take (E.I F n).toNat)=true
 simp_all
theorem dY:E.I F (.fn 0 (.fn 10 a))=0:=rfl
end
end Go.SX

set_option linter.unusedVariables false
set_option linter.unusedSimpArgs false
namespace Go.SX
/-! ### what can be paid -/
def yV(k:Nat)(l:List Int):Int:=(((bM l).count (k:Int):Nat):Int)
def cA(k:Nat)(s:Pu):Int:=s.1.getD k 0+yV k s.2.1
def af(s:Pu):Int:=s.1.getD 0 0+s.1.getD 1 0+s.1.getD 2 0+s.1.getD 3 0+((s.2.1.length/2:Nat):Int)
def kq(s:Pu):Prop:=s.2.1.length%2=0/\s.1.length=4/\(∀c∈bM s.2.1,0<=c/\c<4)/\∀k,0<=s.1.getD k 0
/-- t comes of s by so many steps -/
def lessP(n:Int)(s t:Pu):Prop:=kq t/\(∀j,cA j t<=cA j s)/\(∀j,t.1.getD j 0<=s.1.getD j 0)/\af t=af s-n/\t.2.2.length+t.2.1.length/2=s.2.2.length+s.2.1.length/2
theorem Ka(l:List Int)(i:Nat)(h:l.length<=i):l.getD i 0=0:=by grind
theorem aHE(l:List Int)(i j:Nat)(v:Int)(h:i<l.length):(l.set i v).getD j 0=if j=i then v else l.getD j 0:=by
 grind
theorem ZC{s:Pu}(h:kq s){b:Nat}(hb:0<s.1.getD b 0):lessP 1 s (eH b s)/\cA b (eH b s)=cA b s-1/\∀j,j≠b->cA j (eH b s)=cA j s:=by
 obtain⟨h1,h2,h3,h4⟩:=h
 have hb4:b<s.1.length:=by
  grind
 have g:=fun j=>aHE _ b j (s.1.getD b 0-1) hb4
 have e1:(eH b s).1=s.1.set b _:=rfl;have e2:(eH b s).2=s.2:=rfl;have hj:∀j,(eH b s).1.getD j 0=if j=b then s.1.getD b 0-1 else s.1.getD j 0:=fun j=>by simp_all
 refine⟨⟨⟨by simp_all,by simp_all,by simp_all,fun k=>by rw[hj];have:=h4 k;omega⟩,fun j=>?_,fun j=>by rw[hj];split<;>(grind)<;>omega,?_,by rfl⟩,?_,fun j hjb=>?_⟩
 ·unfold cA;rw[hj,e2];split<;>(grind)<;>omega
 ·unfold af;rw[hj,hj,hj,hj,e2]
  have:b=0\/b=1\/b=2\/b=3:=by omega
  rcases this with rfl|rfl|rfl|rfl<;>simp<;>omega
 ·unfold cA;grind
 simp_all[cA]
theorem ac2(c:Int):∀(l:List Int)(i:Nat),l.length%2=0->2*i+2<=l.length->((bM l).take i++(bM l).drop (i+1)).count c+(if l.getD (2*i+1) 0=c then 1 else 0)=(bM l).count c
 |[],i,_,h=>by simp at h
 |[_],i,h,_=>by simp at h
 |a::d::l,0,h,_=>by
  simp_all[bM,List.count_cons]
 |a::d::l,i+1,h,hl=>by
  have:=ac2 c l i (by grind) (by grind)
  grind[bM]
theorem TU{s:Pu}(h:kq s){i:Nat}(hi:2*i+2<=s.2.1.length):lessP 1 s (fJ i s)/\∀j:Nat,cA j (fJ i s)=cA j s-(if s.2.1.getD (2*i+1) 0=(j:Int)then 1 else 0):=by
 obtain⟨h1,h2,h3,h4⟩:=h
 obtain⟨l1,l2⟩:=JZ hi
 have eo:bM (fJ i s).2.1=(bM _).take i++(bM _).drop _:=CA _ _ h1;have e1:(fJ i s).1=s.1:=rfl;have hh:∀j,cA j (fJ i s)=cA j s-(if s.2.1.getD (2*i+1) 0=j then 1 else 0):=fun j=>by
  grind[ac2,cA,yV]
 refine⟨⟨⟨by omega,by simp_all,?_,by simp_all⟩,fun j=>by grind,fun j=>by simp_all,by grind[af],by omega⟩,hh⟩
 grind
theorem lessP.trans{a b:Int}{s t u:Pu}(h:lessP a s t)(h':lessP b t u):lessP (a+b) s u:=by
 obtain⟨_,h2,h3,h4,h5⟩:=h
 obtain⟨g1,g2,g3,g4,g5⟩:=h'
 exact⟨g1,fun j=>Int.le_trans (g2 j) (h2 j),fun j=>Int.le_trans (g3 j) (h3 j),by omega,by omega⟩
theorem aIy(k:Nat)(c:Int):ip (k:Int) c=(c==(k:Int)):=by
 rfl
theorem QH{k:Nat}:∀(l:List Int)(i:Nat),l.length%2=0->(bB k l i<0->(bM l).count (k:Int)=0)/\(0<=bB k l i->0<(bM l).count (k:Int)/\(i:Int)<=bB k l i/\l.getD (2*(bB k l i-i).toNat+1) 0=(k:Int))
 |[],i,_=>by simp[bB,bM]
 |[_],i,h=>by simp at h
 |a::c::l,i,h=>by
  have e:bB k (a::c::l) i=if ip k c then(i:Int)else bB k l _:=rfl
  have eo:bM (a::c::l)=c::bM l:=rfl;have hok:=aIy k c
  rw[e,eo,hok,List.count_cons]
  by_cases hc:c=k
  ·simp_all
  ·obtain⟨h1,h2⟩:=QH (k:=k) l (i+1) (by grind)
   rw[if_neg (by simp_all)]
   refine⟨fun h0=>by simp_all,fun h0=>?_⟩
   obtain⟨g1,g2,g3⟩:=h2 h0
   refine⟨by omega,by omega,?_⟩
   refine Eq.trans ?_ g3
   rw[show 2*(bB _ l _-i).toNat+1=(2*(bB k l (i+1)-(i+1)).toNat+1)+1+1 by omega]
   rfl
/-- one mana of a colour -/
theorem aFl{s:Pu}(h:kq s)(k:Nat):(cA k s<=0->fw k s=none)/\(0<cA k s->∃t,fw k s=some t/\lessP 1 s t/\cA k t=cA k s-1/\∀j,j≠k->cA j t=cA j s):=by
  have h4:=h.2.2.2 k;have hc0:0<=yV k s.2.1:=Int.natCast_nonneg _;unfold fw;split
  · have hh:cA k s=s.1.getD k 0+yV k _:=rfl;grind[ZC]
  · have hh:cA k s=s.1.getD k 0+(bM _).count _:=rfl
    obtain⟨g1,g2⟩:=QH (k:=k) _ 0 h.1
    unfold ga;split
    · rename_i hf
      obtain⟨b1,b2⟩:=wE hf
      grind[TU]
    simp_all
theorem RE{k:Nat}:∀(n:Nat){s:Pu},kq s->(cA k s<n->cR (fw k) n s=none)/\((n:Int)<=cA k s->∃t,cR (fw k) n s=some t/\lessP n s t/\cA k t=cA k s-n/\∀j,j≠k->cA j t=cA j s)
 |0,s,h=>by
  refine⟨fun h0=>?_,fun _=>⟨s,rfl,⟨h,fun _=>Int.le_refl _,fun _=>Int.le_refl _,by simp,rfl⟩,by simp,fun _ _=>rfl⟩⟩
  have h4:=h.2.2.2 k
  have:cA k s=s.1.getD k 0+(bM _).count _:=rfl
  omega
 |n+1,s,h=>by
  obtain⟨i1,i2⟩:=RE (k:=k) n h
  have e:cR _ (n+1) s=(cR _ n s).bind (fw k):=rfl
  rw[e]
  by_cases hn:n<=cA k s
  ·obtain⟨t,e1,h1,h2,h3⟩:=i2 hn
   obtain⟨p1,p2⟩:=aFl h1.1 k
   rw[e1]
   refine⟨fun h0=>p1 (by omega),fun h0=>?_⟩
   obtain⟨u,e2,g1,g2,g3⟩:=p2 (by omega)
   exact⟨u,e2,h1.trans g1,by omega,fun j hj=>by simp_all⟩
  grind
/-- any mana -/
theorem aCD{l:List Int}(h:l.length%2=0)(h0:0<l.length):bB (-1) l 0=0:=by
  match l,h0,h with
  |[_],_,h=>simp at h
  |a ::c ::l,_,_=>rfl
theorem auo{s:Pu}(h:kq s):0<=af s:=by
 have:=h.2.2.2 0;have:=h.2.2.2 1;have:=h.2.2.2 2;have:=h.2.2.2 3
 grind[af]
theorem atg{s:Pu}(h:kq s):(af s<=0->ey s=none)/\(0<af s->∃t,ey s=some t/\lessP 1 s t):=by
 have h0:=h.2.2.2 0;have h1:=h.2.2.2 1;have h2:=h.2.2.2 2;have h3:=h.2.2.2 3;have e:af s=s.1.getD 0 0+s.1.getD 1 0+s.1.getD 2 0+s.1.getD 3 0+s.2.1.length/2:=rfl;have hl:=h.1;unfold ey;split
 ·rename_i hp
  refine⟨fun ht=>?_,fun _=>⟨_,rfl,(ZC h hp).1⟩⟩
  have hb:fW s.1<4:=by
   apply Classical.byContradiction;intro hn
   rw[Ka _ _ (by rw[h.2.1];omega)]at hp;omega
  grind
 ·have hz:s.1.getD 0 0=0/\s.1.getD 1 0=0/\s.1.getD 2 0=0/\s.1.getD 3 0=0:=by
   obtain⟨a,b,c,d,e4⟩:∃a b c d,s.1=[a,b,c,d]:=by
    match s.1,h.2.1 with
    |[a,b,c,d],_=>simp_all
   grind[Hl,GO,JO,HP]
  unfold ga;by_cases hr:0<s.2.1.length
  ·rw[aCD hl hr]
   exact⟨fun ht=>by omega,fun _=>⟨_,rfl,(TU h (i:=0) (by omega)).1⟩⟩
  ·have:s.2.1=[]:=List.eq_nil_of_length_eq_zero (by omega)
   rw[this]
   refine⟨fun _=>rfl,fun ht=>by omega⟩
theorem itA:∀(n:Nat){s:Pu},kq s->(af s<n->cR ey n s=none)/\((n:Int)<=af s->∃t,cR ey n s=some t/\lessP n s t)
 |0,s,h=>by
  have:=auo h
  exact⟨fun h0=>by omega,fun _=>⟨s,rfl,h,fun _=>Int.le_refl _,fun _=>Int.le_refl _,by simp,rfl⟩⟩
 |n+1,s,h=>by
  obtain⟨i1,i2⟩:=itA n h
  have e:cR _ (n+1) s=(cR _ n s).bind ey:=rfl
  rw[e]
  by_cases hn:n<=af s
  ·obtain⟨t,e1,h1⟩:=i2 hn
   obtain⟨p1,p2⟩:=atg h1.1
   have:=h1.2.2.2.1
   rw[e1]
   refine⟨fun h0=>p1 (by omega),fun h0=>?_⟩
   obtain⟨u,e2,g1⟩:=p2 (by omega)
   exact⟨u,e2,h1.trans g1⟩
  grind
/-- the whole cost -/
theorem aec{c:List Int}(hc:∀k,0<=c.getD k 0):∀(k:Nat){s:Pu},kq s->((∃j,j<k/\cA j s<c.getD j 0)->fm c k s=none)/\
    ((∀j,j<k->c.getD j 0<=cA j s)->∃t,fm c k s=some t/\lessP (((List.range k).map fun j=>c.getD j 0).sum) s t/\∀j,k<=j->cA j t=cA j s)
  |0,s,h=>⟨fun⟨j,hj,_⟩=>by omega,fun _=>⟨s,rfl,⟨h,fun _=>Int.le_refl _,fun _=>Int.le_refl _,by simp,rfl⟩,fun _ _=>rfl⟩⟩
  |k+1,s,h=>by
    obtain⟨i1,i2⟩:=aec hc k h
    have e:fm c (k+1) s=(fm c k s).bind (cR _ (c.getD k 0).toNat):=rfl;have hck:=hc k
    rw[e]
    by_cases hn:∀j,j<k->c.getD j 0<=cA j s
    · obtain⟨t,e1,h1,h2⟩:=i2 hn
      obtain⟨p1,p2⟩:=RE (k:=k) _ h1.1
      rw[e1]
      have hk:=h2 k (Nat.le_refl _)
      refine⟨fun⟨j,hj,hj'⟩=>p1 ?_,fun h0=>?_⟩
      · grind
      · have:=h0 k (by omega)
        obtain⟨u,e2,g1,g2,g3⟩:=p2 (by omega)
        have:=h1.trans g1
        grind[List.range_succ]
    · have hn':∃j,j<k/\cA j s<c.getD j 0:=by
        simp_all
      grind
def pN(c:List Int):Int:=c.getD 0 0+c.getD 1 0+c.getD 2 0+c.getD 3 0
theorem aEq(c:List Int):((List.range 4).map fun j=>c.getD j 0).sum=pN c:=by
 show(c.getD 0 0+(c.getD 1 0+(c.getD 2 0+(c.getD 3 0+0))))=_
 grind[pN]
theorem uy{c:List Int}(hc:∀k,0<=c.getD k 0){n:Nat}{s:Pu}(h:kq s):
  ((bN c 4 n s).isSome=true↔(∀k,k<4->c.getD k 0<=cA k s)/\pN c+n<=af s)/\∀t,bN c 4 n s=some t->lessP (pN c+n) s t:=by
 obtain⟨i1,i2⟩:=aec hc 4 h
 have e:bN c 4 n s=(fm c 4 s).bind (cR ey n):=rfl
 rw[e]
 by_cases hn:∀j,j<4->c.getD j 0<=cA j s
 ·obtain⟨t,e1,h1,h2⟩:=i2 hn
  obtain⟨p1,p2⟩:=itA n h1.1
  have ht:=h1.2.2.2.1
  rw[aEq]at ht h1
  rw[e1]
  by_cases ha:n<=af t
  ·obtain⟨u,e2,g⟩:=p2 ha
   rw[show(some t).bind _=cR _ n t from rfl,e2]
   refine⟨⟨fun _=>⟨hn,by omega⟩,fun _=>rfl⟩,fun v hv=>?_⟩
   cases hv;exact h1.trans g
  grind
 ·have hn':∃j,j<4/\cA j s<c.getD j 0:=by
   simp_all
  grind
end Go.SX

set_option linter.unusedVariables false
set_option linter.unusedSimpArgs false
namespace Go.SX
/-! ### a board after it was paid tells the same -/
theorem ag8{n:Nat}{f g:Nat->Bool}(h:∀i,i<n->f i=g i):(List.range n).all f=(List.range n).all g:=by
 grind
theorem NX{n:Nat}{f g:Nat->Bool}(h:∀i,i<n->f i=g i):(List.range n).filter f=(List.range n).filter g:=
 List.filter_congr fun i hi=>h i (List.mem_range.1 hi)
theorem ZY{l m:List U}(h:U.eqs l m=true):l.map U.toI=m.map U.toI:=by
 refine List.ext_getElem (by simp[lq h]) fun i h1 h2=>?_
 have:=pH (qq i h)
 grind
theorem ww{l m:List U}(h:U.eqs l m=true)(i:Nat):nI l i=nI m i:=pH (qq i h)
theorem tf(L:List Int)(n:Nat)(l:List U):(iO L n l).length=l.length:=by simp[iO]
theorem y9(L:List Int)(n:Nat)(l:List U)(j:Nat)(d:U):(iO L n l).getD j d=if j<l.length then(if j%12==9&&decide (j/12<n)&&L.contains (l.getD (j/12*12) (.int 0)).toI then .bool true else l.getD j (.int 0))else d:=by
 by_cases h:j<l.length
 all_goals simp_all[iO,if_neg]
theorem ab5(l:List U){i:Nat}(h:i<l.length)(d e:U):l.getD i d=l.getD i e:=by grind
theorem Xu(l:List U){i:Nat}(h:l.length<=i)(d:U):l.getD i d=d:=by grind
theorem akQ{t u:List U}(h:U.eqs t u=true)(p i c k:Int)(q:Bool):kU p i c k t q=kU p i c k u q:=by
 grind[kU,uT,lq,ww]
section
variable {Y X:U} {p:Nat} {L m:List Int} (h:oQ Y X p L m=true) (hY:Y.toL.length=38) (hX:X.toL.length=38)
include h hY hX
omit hY hX in
theorem Dg:U.eqs (cX Y 0).toL (iO L (aN X) (cX X 0).toL)=true:=by
 simp_all[oQ]
omit hY hX in
theorem Hv{j:Nat}(hj:j<38):(if j==0 then true else if j==29||j==30 then im (cX Y j).toL (cX X j).toL&&(fj (cX Y j)&&gF (cX Y j).toL)else if decide (2+14*p<=j)&&decide (j<6+14*p)then iX Y j==m.getD (j-(2+14*p)) 0 else U.eq (cX Y j) (cX X j))=true:=by
 simp_all[oQ,mB,Bool.and_eq_true,List.all_eq_true,List.mem_range]
theorem tG{j:Nat}(h0:j≠0)(h29:j≠29)(h30:j≠30)(hp:¬(2+14*p<=j/\j<6+14*p)):U.eq (cX Y j) (cX X j)=true:=by
 by_cases hj:j<38
 ·have:=Hv h hj
  grind
 ·unfold cX
  rw[Xu _ (by omega),Xu _ (by omega)];rfl
omit hY hX in
theorem yZ{k:Nat}(hk:k<4)(hp:p<=1):iX Y (2+14*p+k)=m.getD k 0:=by
 have:=Hv h (j:=2+14*p+k) (by omega)
 grind
omit hY hX in
theorem amh{j:Nat}(hj:j=29\/j=30):im (cX Y j).toL (cX X j).toL=true:=by
 have:=Hv h (j:=j) (by omega)
 grind
theorem Lj{j:Nat}(h0:j≠0)(h29:j≠29)(h30:j≠30)(hp:¬(2+14*p<=j/\j<6+14*p)):iX Y j=iX X j:=pH (tG h hY hX h0 h29 h30 hp)
theorem wV(hp:p<=1)(k:Nat):bn Y k=bn X k:=ZY (l7 (tG h hY hX (j:=6+14*(k/4)+k%4) (by omega) (by omega) (by omega) (by omega)))
theorem agl(hp:p<=1):bv Y=bv X:=ZY (l7 (tG h hY hX (j:=31) (by omega) (by omega) (by omega) (by omega)))
theorem avM(hp:p<=1)(i j:Nat):blk Y i j=blk X i j:=ww (l7 (tG h hY hX (j:=32) (by omega) (by omega) (by omega) (by omega))) _
theorem SD(hp:p<=1):fX Y=fX X:=by
 grind[fX,lq,l7,tG]
omit hY hX in
theorem rM:aN Y=aN X:=by
 have:=lq (Dg h)
 simp_all[tf,aN]
omit hY hX in
theorem uN(i:Nat){j:Nat}(hj:j<9):oI Y i j=oI X i j:=by
 have:=ww (Dg h) (i*12+j)
 have e:nI (iO L (aN X) (cX X 0).toL) (i*12+j)=nI (cX X 0).toL (i*12+j):=by
  grind[nI,y9]
 exact this.trans e
omit hY hX in
theorem aJd{i:Nat}(hi:i<aN X):((cX Y 0).toL.getD (i*12+9) (.bool false)).toB=(((cX X 0).toL.getD (i*12+9) (.bool false)).toB||L.contains (oI X i 0)):=by
 have hl:i*12+9<(cX X 0).toL.length:=by grind[aN]
 have hl':i*12+9<(cX Y 0).toL.length:=by have:=lq (Dg h);simp_all[tf]
 have:=Q1 (qq (i*12+9) (Dg h))
 rw[ab5 _ hl' _ _,this,y9,if_pos hl,ab5 _ hl _ (.int 0)]
 have e3:((cX X 0).toL.getD _ _).toI=oI X i 0:=rfl;grind[U.toB]
omit hY hX in
theorem tO{j:Nat}(hj:j=29\/j=30):(cX Y j).toL.length/5=(cX X j).toL.length/5/\∀i k,i<(cX X j).toL.length/5->k<5->U.eq ((cX Y j).toL.getD (i*5+k) (.int 0)) ((cX X j).toL.getD (i*5+k) (.int 0))=true:=by
 have:=amh h hj
 rw[pA]at this
 refine⟨this.1,fun i k hi hk=>?_⟩
 have e:=qq (i*5+k) this.2;grind
omit hY hX in
theorem tw:cD Y=cD X:=(tO h (.inl rfl)).1
omit hY hX in
theorem CS{i k:Nat}(hi:i<cD X)(hk:k<5):nI (cX Y 29).toL (i*5+k)=nI (cX X 29).toL (i*5+k):=pH ((tO h (.inl rfl)).2 i k hi hk)
omit hY hX in
theorem adf{s:Nat}(hs:s<=cD X):iA Y s=iA X s:=NX fun i hi=>by grind[CS]
omit hY hX in
theorem afi{j:Nat}(hj:j=29\/j=30)(q:Bool):pg (cX Y j).toL q ((cX X j).toL.length/5)=pg (cX X j).toL q ((cX X j).toL.length/5):=by
 refine ag8 fun i hi=>?_
 have g:=(tO h hj).2 i;have g0:=pH (g 0 hi (by omega));grind[nI,pH,akQ,l7]
omit hY hX in
theorem TT(k:Int)(n:Nat):dv Y k n=dv X k n:=by
 unfold dv
 have:(fun i=>oI Y i 0==k)=fun i=>oI X i 0==k:=funext fun i=>by grind[uN]
 rw[this]
theorem aH5(hp:p<=1)(q:Nat)(k:Int):lB Y q k=lB X q k:=by
 unfold lB px n9;have e:(fun z=>bn Y _)=fun z=>bn X (4*q+z):=funext fun z=>wV h hY hX hp _
 rw[e,tw h]
 congr 2;refine NX fun i hi=>?_
 have a:=CS h hi (k:=0) (by omega);grind[CS]
omit hY hX in
theorem aoX(i:Nat):mN Y i=mN X i:=by
 grind[uN,mN]
theorem akY(hp:p<=1):mV Y=mV X:=by
 unfold mV;congr 1
 ·congr 1
  ·unfold sK
   rw[tw h,adf h (Nat.le_refl _),rM h]
   rw[Bool.eq_iff_iff,List.all_eq_true,List.all_eq_true]
   have:∀i,i∈iA X (cD X)->(decide (0<=dv Y (nI (cX Y 29).toL (i*5+1)) (aN X))&&oI Y (dv Y (nI (cX Y 29).toL (i*5+1)) (aN X)).toNat 1==nI (cX Y 29).toL (i*5+2))=(decide (0<=dv X (nI (cX X 29).toL (i*5+1)) (aN X))&&oI X (dv X (nI (cX X 29).toL (i*5+1)) (aN X)).toNat 1==nI (cX X 29).toL (i*5+2)):=fun i hi=>by
    have hi:=List.mem_range.1 (List.mem_filter.1 hi).1;grind[CS,TT,uN]
   simp_all
  grind[qM,rM,aoX,uN,aH5]
 ·rw[rM h]
  unfold uI;have e:=funext (wV h hY hX hp)
  rw[e,tw h,adf h (Nat.le_refl _)]
theorem aoz(hp:p<=1):mz Y=mz X:=by
 have e:=funext (wV h hY hX hp);have ea:ed Y=ed X:=by grind[ed,Lj]
 have eo:gd Y=gd X:=by simp_all[gd]
 have et:fG Y=fG X:=by simp_all[fG]
 have e31:=fun i=>ww (l7 (tG h hY hX (j:=31) (by omega) (by omega) (by omega) (by omega))) i
 have eb:=funext fun i=>funext fun j=>avM h hY hX hp i j
 unfold mz pU rP rj
 rw[agl h hY hX hp,SD h hY hX hp,eo,et,eb]
 simp_all
theorem PV(hp:p<=1)(q:Nat)(hm:∀k,k<4->0<=m.getD k 0/\m.getD k 0<=99)(hv:ja X q=true)(hq:q<=1):ja Y q=true:=by
 unfold ja at hv ⊢;simp only[List.all_cons]at hv ⊢;have g:=fun j h1 h2 h3 h4=>Lj h hY hX (j:=j) h1 h2 h3 h4
 rw[g _ (by omega) (by omega) (by omega) (by omega),g (13+14*q) (by omega) (by omega) (by omega) (by omega),g (14+14*q) (by omega) (by omega) (by omega) (by omega)]
 by_cases e:q=p
 ·subst e;have q2:=yZ h (k:=0) (by omega) hp;have q3:=yZ h (k:=1) (by omega) hp;have q4:=yZ h (k:=2) (by omega) hp;have q5:=yZ h (k:=3) (by omega) hp
  rw[show 2+14*q=2+14*q+0 from rfl,q2,show 3+14*q=2+14*q+1 by omega,q3,show 4+14*q=2+14*q+2 by omega,q4,show 5+14*q=2+14*q+3 by omega,q5]
  simp_all[dc]
 grind
/-- it is valid -/
theorem awe(hp:p<=1)(hm:∀k,k<4->0<=m.getD k 0/\m.getD k 0<=99)(hv:jf X=true):jf Y=true:=by
  unfold jf at hv ⊢;simp only[Bool.and_eq_true]at hv ⊢
  obtain⟨⟨⟨⟨⟨a,b⟩,c⟩,d⟩,e⟩,f⟩:=hv
  have e30:=(tO h (.inr rfl)).1
  refine⟨⟨⟨⟨⟨?_,PV h hY hX hp 0 hm b (by omega)⟩,PV h hY hX hp 1 hm c (by omega)⟩, ?_⟩,by grind[akY]⟩,by grind[aoz]⟩
  · grind[sM,rM,tw,Lj]
  · unfold rr at d ⊢
    rw[tw h,e30,afi h (.inr rfl),show cD X=(cX X 29).toL.length/5 from rfl,afi h (.inl rfl)]
    exact d
theorem aoH(hp:p<=1)(hv:pq X=true):pq Y=true:=by
 have e:=funext (wV h hY hX hp);have tg:∀j,j=29\/j=30->jF (cX Y j).toL _=jF (cX X j).toL ((cX X j).toL.length/5):=fun j hj=>ag8 fun i hi=>by
  grind[lq,l7,tO]
 have t29:jF _ (cD X)=jF _ (cD X):=tg 29 (.inl rfl);unfold pq at hv ⊢
 rw[e,tw h,(tO h (.inr rfl)).1,rM h,agl h hY hX hp,SD h hY hX hp,t29,tg 30 (.inr rfl)]
 omega
/-- its sources -/
theorem aoQ(l:List U)(hp:p<=1){q:Int}:∀n,n<=aN X->bi (cF l Y q n)=(bi (cF l X q n)).filter fun a=>!L.contains a:=by
  intro n hn
  rw[qm,qm,List.filter_map,List.filter_filter]
  grind[NX,wV,jO,aJd,uN]
theorem aIZ(l:List U)(k:Int):gY l Y k=gY l X k:=by
 grind[gY,rM,TT,uN]
end
end Go.SX

set_option linter.unusedVariables false
set_option linter.unusedSimpArgs false
namespace Go.SX
/-! ### a purse and what is left of it -/
theorem L6{Q:Pu->Prop}(hd:∀b s,Q s->Q (eH b s))(ht:∀i s,2*i+2<=s.2.1.length->Q s->Q (fJ i s)){k:Nat}:∀ {n:Nat} {s t:Pu},Q s->cR (fZ k) n s=some t->Q t
 |0,s,t,h,e=>by cases e;exact h
 |n+1,s,t,h,e=>by
  have tp:∀ {c:Int} {s t:Pu},Q s->ga c s=some t->Q t:=fun {c s t} h e=>by
   rw[qv]at e
   obtain⟨e0,rfl⟩:=e
   have:=wE e0
   simp_all
  have st:∀ {s t:Pu},Q s->fZ k s=some t->Q t:=fun {s t} h e=>by
   unfold fZ at e;grind[fw,ey]
  cases e1:cR _ n s with
  |none=>rw[show cR _ _ s=(cR _ n s).bind _ from rfl,e1]at e;cases e
  |some u=>exact st (L6 hd ht h e1) ((tl e1).symm.trans e)
theorem auB{Q:Pu->Prop}(hd:∀b s,Q s->Q (eH b s))(ht:∀i s,2*i+2<=s.2.1.length->Q s->Q (fJ i s)){c:List Int}{n:Nat}{s t:Pu}(h:Q s)(e:bN c 4 n s=some t):Q t:=by
 have hK:∀ {k:Nat} {s t:Pu},k<=4->Q s->fm c k s=some t->Q t:=by
  intro k;induction k with
  |zero=>intro s t _ h e;cases e;exact h
  |succ k ih=>
   intro s t hk h e;cases e1:fm c k s with
   |none=>rw[show fm c _ s=(fm c k s).bind _ from rfl,e1]at e;cases e
   |some u=>
    rw[show fm c _ s=(fm c k s).bind _ from rfl,e1]at e
    have e':cR (fZ k) (c.getD k 0).toNat u=some t:=by rw[kc (by omega)];exact e
    exact L6 hd ht (ih (by omega) h e1) e'
 unfold bN at e;cases e1:fm c 4 s with
 |none=>simp_all
 |some u=>rw[e1]at e;exact L6 hd ht (hK (Nat.le_refl _) h e1) e
theorem aeL:∀ {a b:List Int},a.length%2=0->b.length%2=0->bi a=bi b->bM a=bM b->a=b
 |[],[],_,_,_,_=>rfl
 |[_],_,h,_,_,_=>by simp at h
 |_,[_],_,h,_,_=>by simp at h
 |[],_::_::_,_,_,h,_=>by cases h
 |_::_::_,[],_,_,h,_=>by cases h
 |x::y::a,x'::y'::b,ha,hb,he,ho=>by
  have e1:=he;have e2:=ho
  obtain⟨h1,h2⟩:=List.cons.inj e1
  obtain⟨h3,h4⟩:=List.cons.inj e2
  rw[h1,h3,aeL (by grind) (by grind) h2 h4]
theorem OS:∀(l:List Int)(i:Nat),2*i+2<=l.length->(bi l).getD i 0=l.getD (2*i) 0
 |[],i,h=>by rfl
 |[_],i,h=>by simp_all
 |a::b::l,0,_=>rfl
 |a::b::l,i+1,h=>by
  have:=OS l i (by grind)
  grind[bi]
/-- what is left is what was there and was not tapped -/
def Hp(R:List Int)(mk:Int->Int)(s:Pu):Prop:=s.2.1.length%2=0/\bM s.2.1=(bi s.2.1).map mk/\(bi s.2.1).Nodup/\bi s.2.1=R.filter fun a=>!s.2.2.contains a
theorem arH{R:List Int}{mk:Int->Int}{c:List Int}{n:Nat}{s t:Pu}(h:Hp R mk s)(e:bN c 4 n s=some t):Hp R mk t:=by
 refine auB (fun b s h=>h) (fun i s hi h=>?_) h e
 obtain⟨h1,h2,h3,h4⟩:=h
 have hl:=JZ hi;have ee:bi (fJ i s).2.1=(bi _).take i++(bi _).drop _:=xb _ _ h1;have hi':i<(bi s.2.1).length:=by grind[kF]
 have hf:=IV _ i h3 hi'
 refine⟨by omega,?_,?_,?_⟩
 ·show bM (s.2.1.take _++s.2.1.drop _)=_;simp_all[CA]
 ·grind
 ·rw[ee,<- hf,h4,List.filter_filter]
  have e2:(fJ i s).2.2=s.2.2++[s.2.1.getD _ 0]:=rfl;grind[OS]
theorem aIe(x:Int)(l:List Int):(eh l).contains x=l.contains x:=by
 grind[qa]
theorem OA:∀ {l:List Int},l.Pairwise (·<=·)->pe l=true
 |[],_=>rfl
 |[_],_=>rfl
 |a::b::l,h=>by
  show(decide _&&pe _)=true
  rw[decide_eq_true ((List.pairwise_cons.1 h).1 b List.mem_cons_self),OA (List.pairwise_cons.1 h).2];rfl
theorem VQ:∀ {l:List Int},pe l=true->l.Pairwise (·<=·)
 |[],_=>List.Pairwise.nil
 |[a],_=>List.pairwise_singleton _ _
 |a::b::l,h=>by
  have h':(decide _&&pe _)=true:=h
  rw[Bool.and_eq_true,decide_eq_true_eq]at h'
  have ih:=VQ h'.2;all_goals grind[List.pairwise_cons]
theorem I5{X:U}{p:Int}(h:ff X p=true):∀k:Nat,k<4->0<=iX X (2+14*p.toNat+k)/\iX X (2+14*p.toNat+k)<=99:=by
 unfold ff at h
 rw[Bool.and_eq_true]at h
 obtain⟨hp,hv⟩:=h
 simp only[dc]at hp;unfold jf at hv;have hs:ja X p.toNat=true:=by
  grind
 unfold ja at hs;simp only[dc]at hs;grind
theorem adI(l:List U)(X:U)(p:Int):∀n,∀c∈bM (cF l X p n),0<=c/\c<4
 |0=>fun c hc=>by cases hc
 |n+1=>fun c hc=>by
  have app:∀(a b:List _),a.length%2=0->bM (a++b)=bM a++bM b:=by
   intro a;induction a using bM.induct with
   |case1 x y l ih=>grind[bM]
   |case2 a ha=>
    intro b h;match a,ha,h with
    |[],_,_=>rfl
    |[_],_,h=>simp at h
    |x::y::l,ha,_=>simp_all
  rw[wa,app _ _ (sB _ _ _ _)]at hc
  rcases List.mem_append.1 hc with hc|hc
  ·exact adI l X p n c hc
  ·split at hc
   ·rename_i hs;unfold jO at hs;simp only[Bool.and_eq_true,decide_eq_true_eq]at hs;simp_all[oI,bM]
   grind
theorem Ay(l:List U)(X:U)(p:Int)(k:Nat):(gQ l X p).1.getD k 0=if k<4 then iX X (2+14*p.toNat+k)else 0:=by
 by_cases hk:k<4
 ·have:k=0\/k=1\/k=2\/k=3:=by omega
  rcases this with rfl|rfl|rfl|rfl<;>rfl
 ·rw[if_neg hk];exact Ka _ _ (by show(List.map _ _).length<=k;simp_all)
theorem aaj{l:List U}{X:U}{p:Int}(h:ff X p=true):kq (gQ l X p):=
 ⟨sB _ _ _ _,rfl,adI _ _ _ _,fun k=>by
  rw[Ay];split
  all_goals simp_all[I5]⟩
theorem aqE{l:List U}{X:U}{p:Int}(h:ff X p=true):Hp (bi (cF l X p (aN X))) (gY l X) (gQ l X p):=by
 obtain⟨h1,h2,h3,_⟩:=HV (l:=l) h (Nat.le_refl _)
 refine⟨h1,h2,h3,?_⟩
 show _=List.filter (fun a=>![].contains a) _
 rw[List.filter_eq_self.2 (by simp)];rfl
/-- a board that was paid: its purse is what was left -/
theorem RY{l:List U}{Y X:U}{p:Int}{c:List Int}{n:Nat}{s:Pu}(hf:ff X p=true)(hc:∀k,0<=c.getD k 0)(e:bN c 4 n (gQ l X p)=some s)
    (h:oQ Y X p.toNat (eh s.2.2) s.1=true)(hY:Y.toL.length=38)(hX:X.toL.length=38):
    ff Y p=true/\(gQ l Y p).1=s.1/\cF l Y p (aN Y)=s.2.1:=by
  obtain⟨g1,g2,g3,g4,g5⟩:=(uy hc (aaj hf)).2 s e
  obtain⟨k1,k2,k3,k4⟩:=arH (aqE hf) e
  have hp:0<=p/\p<=1/\jf X=true:=by
    simp_all[ff,dc]
  have hm:∀k,k<4->0<=s.1.getD k 0/\s.1.getD k 0<=99:=fun k hk=>by
    have a:=g1.2.2.2 k;have b:=g3 k
    rw[Ay,if_pos hk]at b
    have:=(I5 hf k hk).2
    omega
  have hv:ff Y p=true:=by
    unfold ff;rw[Bool.and_eq_true]
    refine⟨by simp_all[dc],awe h hY hX (by omega) hm hp.2.2⟩
  refine⟨hv, ?_, ?_⟩
  · have h4:=g1.2.1;refine List.ext_getElem (by rw[h4];rfl) fun k h1 h2=>?_
    have hk:k<4:=by omega
    have a:=yZ h hk (by omega);have b:=Ay l Y p k;simp_all
  · have en:=rM h;have ev:bi (cF l Y p (aN Y))=bi s.2.1:=by
      rw[en,aoQ h hY hX l (by omega) _ (Nat.le_refl _),k4]
      grind[aIe]
    obtain⟨_,o2,_,_⟩:=HV (l:=l) hv (Nat.le_refl _)
    refine aeL (sB _ _ _ _) k1 ev ?_;have o2':bM (cF l Y p _)=(bi (cF l Y p _)).map _:=o2;grind[List.map_congr_left,aIZ]
end Go.SX

set_option linter.unusedVariables false
set_option linter.unusedSimpArgs false
namespace Go.SX
mutual
theorem U.eq_trans:∀a b c:U,U.eq a b=true->U.eq b c=true->U.eq a c=true
  |.int a,b,c,h,g=>by
    cases b with
    | int b => have e  := by simpa[U.eq]using h
               subst e;exact g
    |_=>simp[U.eq]at h
  |.bool a,b,c,h,g=>by
    cases b with
    | bool b => have e  := by simpa[U.eq]using h
                subst e;exact g
    |_=>simp[U.eq]at h
  |.str a,b,c,h,g=>by
    cases b with
    | str b=>cases c with
      |str c=>
        simp_all[U.eq]
      |_=>simp[U.eq]at g
    |_=>simp[U.eq]at h
  |.lst l,b,c,h,g=>by
    cases b<;>cases c<;>simp only[U.eq]at h g ⊢ <;> first | exact U.eqs_trans l _ _ h g | cases h | cases g
  |.bx _ _ _ l,b,c,h,g=>by
    cases b<;>cases c<;>simp only[U.eq]at h g ⊢ <;> first | exact U.eqs_trans l _ _ h g | cases h | cases g
theorem U.eqs_trans:∀a b c,U.eqs a b=true->U.eqs b c=true->U.eqs a c=true
 |[],b,c,h,g=>by grind[U.eqs]
 |x::xs,b,c,h,g=>by
  cases b with
  |nil=>simp[U.eqs]at h
  |cons y ys=>cases c with
   |nil=>simp[U.eqs]at g
   |cons z zs=>
    simp only[U.eqs,Bool.and_eq_true]at h g ⊢
    exact⟨U.eq_trans x y z h.1 g.1,U.eqs_trans xs ys zs h.2 g.2⟩
end
theorem WA{u v:U}(h:U.eq u v=true):fj u=fj v:=by
 cases u<;>cases v<;>simp_all[U.eq,fj]
theorem aej{u v:U}(h:U.eqs u.toL v.toL=true)(hu:fj u=true)(hv:fj v=true):U.eq u v=true:=by
 cases u<;>cases v<;>simp_all[U.eq,fj,U.toL]
theorem HY:∀ {l m:List U} (i:Nat) {v w:U},U.eqs l m=true->U.eq v w=true->U.eqs (l.set i v) (m.set i w)=true
 |[],[],i,_,_,_,_=>by rfl
 |[],_::_,_,_,_,h,_=>by simp[U.eqs]at h
 |_::_,[],_,_,_,h,_=>by simp[U.eqs]at h
 |x::l,y::m,0,v,w,h,g=>by
  simp_all[U.eqs]
 |x::l,y::m,i+1,v,w,h,g=>by
  simp only[U.eqs,Bool.and_eq_true,List.set_cons_succ]at h ⊢;exact⟨h.1,HY i h.2 g⟩
theorem aE3(l:List U){i:Nat}(h:i<l.length):l.set i (l.getD i (.int 0))=l:=by
 simp_all
theorem Ye:∀(n:Nat){l m:List U},U.eqs l m=true->U.eqs (l.take n) (m.take n)=true
 |0,l,m,_=>by rfl
 |n+1,[],[],_=>by rfl
 |n+1,[],_::_,h=>by simp[U.eqs]at h
 |n+1,_::_,[],h=>by simp[U.eqs]at h
 |n+1,x::l,y::m,h=>by
  simp only[U.eqs,Bool.and_eq_true,List.take_succ_cons]at h ⊢;exact⟨h.1,Ye n h.2⟩
section
variable {F:Env} {x y l A a b k u i j p q n m r o c d w v X Y T N L e t C z s:E}
/-! lists that are the same -/
theorem xy:(E.B F (.fn 200 (.pr a b))=true)=(U.eqs (E.L F a) (E.L F b)=true):=rfl
theorem ahp:(E.B F (.fn 201 a)=true)=(fj (a.den F)=true):=rfl
theorem ak2:E.B F (.fn 200 (.pr a a))=true:=U.eqs_rfl _
theorem ae3:E.B F (.fn 200 (.pr (.fn 28 (.pr z a)) a))=true:=U.eqs_rfl _
theorem afT(h:E.I F (.fn 0 b)=0):E.L F b=[]:=by
 have e:E.I F (.fn 0 b)=(E.L F b).length:=rfl;simp_all
theorem aki(h:E.I F (.fn 0 b)=0):E.B F (.fn 200 (.pr (.fn 10 a) b))=true:=by rw[xy,afT h];rfl
theorem aoF(h:E.I F (.fn 0 b)=0):E.B F (.fn 200 (.pr (.fn 30 a) b))=true:=by rw[xy,afT h];rfl
theorem aK8:E.B F (.fn 201 (.fn 28 a))=true:=rfl
theorem aJN:E.B F (.fn 201 (.fn 30 a))=true:=rfl
theorem aGV(h:E.B F (.fn 200 (.pr a b))=true):E.B F (.fn 187 (.pr a b))=true:=by
 rw[xy]at h
 rw[sy,pA,lq h]
 exact⟨rfl,Ye _ h⟩
theorem ahx(h:E.B F (.fn 200 (.pr a b))=true)(g:E.B F (.fn 190 b)=true):E.B F (.fn 190 a)=true:=by
 grind[xy,BN,WA,qq,lq]
theorem av7(h:E.B F (.fn 190 a)=true):E.B F (.fn 195 (.fn 28 (.pr z a)))=true:=by
 exact h
/-- a target's list in a copied item -/
theorem aci(h0:0<=E.I F i):E.L F (.fn 2 (.pr a (.pr (.fn 6 (.pr (.fn 8 (.pr i (.int 5))) (.int 4))) v)))=(E.L F a).set ((E.I F i).toNat*5+4) (v.den F):=by
  show(E.L F a).set (E.I F i*5+4).toNat (v.den F)=_
  grind
theorem adG(h:E.B F (.fn 187 (.pr a b))=true)(hs:E.B F (.fn 190 a)=true)(h0:0<=E.I F i)(h1:E.I F i<E.I F (.fn 9 (.pr b (.int 5))))(hv:E.B F (.fn 200 (.pr v (.fn 1 (.pr a (.fn 6 (.pr (.fn 8 (.pr i (.int 5))) (.int 4)))))))=true)(hsv:E.B F (.fn 201 v)=true):
  E.B F (.fn 187 (.pr (.fn 2 (.pr a (.pr (.fn 6 (.pr (.fn 8 (.pr i (.int 5))) (.int 4))) v))) b))=true/\E.B F (.fn 190 (.fn 2 (.pr a (.pr (.fn 6 (.pr (.fn 8 (.pr i (.int 5))) (.int 4))) v))))=true:=by
 have e9:E.I F (.fn 9 (.pr b (.int 5)))=(E.L F b).length/5:=rfl
 rw[sy,pA]at h
 rw[BN]at hs
 rw[xy]at hv
 rw[ahp]at hsv
 have hi:(E.I F i).toNat*5+4<(E.L F a).length:=by omega
 have hcell:E.L F (.fn 1 (.pr a (.fn 6 (.pr (.fn 8 (.pr i (.int 5))) (.int 4)))))=((E.L F a).getD ((E.I F i).toNat*5+4) (.int 0)).toL:=by
  show((E.L F a).getD (E.I F i*5+4).toNat _).toL=_
  grind
 rw[hcell]at hv
 have heq:=aej hv hsv (hs _ hi (by omega));constructor
 ·rw[sy,pA,aci h0,List.length_set]
  rw[List.take_set]
  have e2:((E.L F a).take ((E.L F a).length/5*5)).getD ((E.I F i).toNat*5+4) (.int 0)=(E.L F a).getD ((E.I F i).toNat*5+4) (.int 0):=by
   grind
  have g3:=HY ((E.I F i).toNat*5+4) (U.eqs_rfl ((E.L F a).take ((E.L F a).length/5*5))) heq;grind[aE3,U.eqs_trans]
 grind[BN,aci]
theorem apX(h:E.B F (.fn 158 (.pr b n))=true)(g:E.B F (.fn 187 (.pr a b))=true)(h0:0<=E.I F i)(h1:E.I F i<E.I F (.fn 9 (.pr b (.int 5))))(hn:E.I F n=E.I F (.fn 9 (.pr b (.int 5)))):E.I F (.fn 9 (.pr (.fn 1 (.pr a (.fn 6 (.pr (.fn 8 (.pr i (.int 5))) (.int 4))))) (.int 2)))<=6:=by
 have e:=apc (QM g h0 h1 (j:=4) (by decide)) (.int 2);have e':E.I F (.fn 9 (.pr (.fn 1 _) _))=E.I F _:=e
 rw[Ch]at h
 unfold jF at h;have e3:E.I F (.fn 9 (.pr (bQ b i 5 4) (.int 2)))=((bQ b i 5 4).den F).toL.length/2:=rfl;grind[Do]
/-! a search by halves -/
theorem Dz:(E.B F (.fn 193 a)=true)=(pe (ay F a)=true):=rfl
theorem Bt:(E.B F (.fn 194 (.pr a (.pr x (.pr i j))))=true)=((∀y∈(ay F a).take (E.I F i).toNat,y<E.I F x)/\∀y∈(ay F a).drop (E.I F j).toNat,E.I F x<=y):=by
 show((((ay F a).take (E.I F i).toNat).all (fun y=>decide (y<E.I F x))&&((ay F a).drop (E.I F j).toNat).all fun y=>decide (E.I F x<=y))=true)=_
 simp_all
theorem Au(h0:0<=E.I F i):E.I F (.fn 1 (.pr a i))=(ay F a).getD (E.I F i).toNat 0:=by
 exact(C3 _ _).symm▸rfl
theorem ajc(h:E.I F (.fn 0 a)<=E.I F j)(hi:E.I F i=0):E.B F (.fn 194 (.pr a (.pr x (.pr i j))))=true:=by
 rw[Bt,hi]
 grind[br,List.drop_eq_nil_of_le]
theorem aKE{l:List Int}{i:Nat}(h:i<l.length):l.getD i 0∈l:=by grind
theorem Mg{l:List Int}(h:pe l=true){i j:Nat}(hij:i<=j)(hj:j<l.length):l.getD i 0<=l.getD j 0:=by
 by_cases e:i=j
 ·simp_all
 ·have:=List.pairwise_iff_getElem.1 (VQ h) i j (by omega) hj (by omega)
  grind
theorem axl{l:List Int}{n:Nat}{y:Int}(h:y∈l.take n):∃i,i<n/\i<l.length/\l.getD i 0=y:=by
 obtain⟨i,hi,e⟩:=List.mem_iff_getElem.1 h
 rw[List.length_take]at hi
 refine⟨i,by omega,by omega,?_⟩
 grind
theorem an3{l:List Int}{n:Nat}{y:Int}(h:y∈l.drop n):∃i,n<=i/\i<l.length/\l.getD i 0=y:=by
 obtain⟨i,hi,e⟩:=List.mem_iff_getElem.1 h
 rw[List.length_drop]at hi
 refine⟨n+i,by omega,by omega,?_⟩
 grind
/-- to the right, to the left -/
theorem avB(hs:E.B F (.fn 193 a)=true)(h:E.B F (.fn 194 (.pr a (.pr x (.pr i j))))=true)(m0:0<=E.I F m)(ml:E.I F m<E.I F (.fn 0 a))(hv:E.I F (.fn 1 (.pr a m))<E.I F x)(hk:E.I F k=E.I F m+1):E.B F (.fn 194 (.pr a (.pr x (.pr k j))))=true:=by
  rw[Bt]at h ⊢
  rw[Dz]at hs
  have e:=br (F:=F) (l:=a)
  rw[Au m0]at hv
  refine⟨fun y hy=>?_,h.2⟩
  obtain⟨q,h1,h2,rfl⟩:=axl hy
  have:=Mg hs (i:=q) (j:=(E.I F m).toNat) (by omega) (by omega)
  omega
theorem ao8(hs:E.B F (.fn 193 a)=true)(h:E.B F (.fn 194 (.pr a (.pr x (.pr i j))))=true)(m0:0<=E.I F m)(ml:E.I F m<E.I F (.fn 0 a))(hv:¬E.I F (.fn 1 (.pr a m))<E.I F x):E.B F (.fn 194 (.pr a (.pr x (.pr i m))))=true:=by
 rw[Bt]at h ⊢
 rw[Dz]at hs
 rw[Au m0]at hv
 refine⟨h.1,fun y hy=>?_⟩
 obtain⟨q,h1,h2,rfl⟩:=an3 hy
 have:=Mg hs (i:=(E.I F m).toNat) (j:=q) h1 h2
 omega
theorem ye:(E.B F (.fn 114 (.pr a x))=true)=((ay F a).contains (E.I F x)=true):=rfl
theorem avT(h0:0<=E.I F i)(h1:E.I F i<E.I F (.fn 0 a))(hv:E.I F (.fn 1 (.pr a i))=E.I F x):E.B F (.fn 114 (.pr a x))=true:=by
 rw[ye,List.contains_eq_mem,decide_eq_true_eq,<- hv,Au h0]
 simp_all[br]
theorem W5(hs:E.B F (.fn 193 a)=true)(h:E.B F (.fn 194 (.pr a (.pr x (.pr i j))))=true)(h0:0<=E.I F i)(hij:E.I F j<=E.I F i)(hv:E.I F i<E.I F (.fn 0 a)->¬E.I F (.fn 1 (.pr a i))=E.I F x):¬E.B F (.fn 114 (.pr a x))=true:=by
 rw[Bt]at h
 rw[Dz]at hs
 rw[ye,List.contains_eq_mem,decide_eq_true_eq]
 have e:=br (F:=F) (l:=a);intro hm
 obtain⟨q,hq,e2⟩:=List.mem_iff_getElem.1 hm
 have e3:(ay F a).getD q 0=E.I F x:=by simp_all
 by_cases hc:q<(E.I F i).toNat
 ·have:=h.1 (E.I F x) (by
   rw[<- e2];exact List.mem_take_iff_getElem.2 ⟨q,by omega,rfl⟩)
  omega
 ·have hi:E.I F i<E.I F (.fn 0 a):=by omega
  have hne:=hv hi
  rw[Au h0]at hne
  have h2:=h.2 ((ay F a).getD (E.I F i).toNat 0) (by
   refine List.mem_drop_iff_getElem.2 ⟨(E.I F i).toNat-(E.I F j).toNat,by omega,?_⟩;grind)
  have h3:=Mg hs (i:=(E.I F i).toNat) (j:=q) (by omega) hq;omega
end
end Go.SX

set_option linter.unusedVariables false
set_option linter.unusedSimpArgs false
namespace Go.SX
theorem aAR(L:List Int)(l:List U):iO L 0 l=l:=by
 refine List.ext_getElem (tf _ _ _) fun j h1 h2=>?_
 have:=y9 L 0 l j (.int 0)
 simp_all
theorem Hs(L:List Int)(n:Nat)(l:List U){j:Nat}(h:j<l.length)(h':j<(iO L n l).length):(iO L n l)[j]=if j%12==9&&decide (j/12<n)&&L.contains (l.getD (j/12*12) (.int 0)).toI then .bool true else l.getD j (.int 0):=by
 have:=y9 L n l j (.int 0)
 simp_all
theorem Tv(L:List Int)(l:List U)(i:Nat):iO L (i+1) l=if L.contains (nI l (i*12))then(iO L i l).set (i*12+9) (.bool true)else iO L i l:=by
 have hd:∀j,j≠i*12+9->(j%12==9&&decide (j/12<i+1))=(j%12==9&&decide (j/12<i)):=fun j hj=>by
  grind
 have f1:(i*12+9)%12=9:=by omega
 have f2:(i*12+9)/12=i:=by omega
 have f3:(l.getD (i*12) (.int 0)).toI=nI l (i*12):=rfl;by_cases hc:L.contains (nI l (i*12))=true
 ·rw[if_pos hc]
  refine List.ext_getElem (by simp[tf]) fun j h1 h2=>?_
  have hl:j<l.length:=by simp_all[tf]
  rw[Hs _ _ _ hl,List.getElem_set]
  by_cases hj:j=i*12+9
  ·simp_all
  ·rw[if_neg (c:=i*12+9=j) (fun e=>hj e.symm),hd j hj,Hs _ _ _ hl]
 ·rw[if_neg hc]
  grind[List.ext_getElem,tf,Hs]
theorem aoc{Y Z X:U}{p:Nat}{m:List Int}(h:mB Y X p m=true)(e:∀j,0<j->j<38->cX Z j=cX Y j):mB Z X p m=true:=by
 unfold mB at h ⊢
 rw[List.all_eq_true]at h ⊢
 grind[iX]
section
variable {F:Env} {x y l A a b k u i j p q n m r o c d w v X Y T N L e t C z s q0 q1 q2 q3 c0 c1 c2 c3:E}
theorem vv:(E.B F (.fn 191 (.pr x (.pr l (.pr L n))))=true)=(U.eqs (E.L F x) (iO (ay F L) (E.I F n).toNat (E.L F l))=true):=rfl
theorem PF(h:E.B F (.fn 200 (.pr x l))=true)(hn:E.I F n<=0):E.B F (.fn 191 (.pr x (.pr l (.pr L n))))=true:=by
 rw[vv,show(E.I F n).toNat=0 by omega,aAR];exact h
theorem aJF(h:E.B F (.fn 191 (.pr x (.pr l (.pr L i))))=true)(e:E.I F n=E.I F i):E.B F (.fn 191 (.pr x (.pr l (.pr L n))))=true:=by simp_all[vv]
theorem acX(h:E.B F (.fn 191 (.pr x (.pr l (.pr L i))))=true)(h0:0<=E.I F i):E.I F (.fn 1 (.pr x (.fn 6 (.pr (.fn 8 (.pr i (.int 12))) (.int 0)))))=nI (E.L F l) ((E.I F i).toNat*12):=by
 rw[vv]at h
 have e:=ww h ((E.I F i).toNat*12);have e1:E.I F (.fn 1 (.pr x (.fn 6 (.pr (.fn 8 (.pr i (.int 12))) (.int 0)))))=nI (E.L F x) ((E.I F i).toNat*12):=by
  show((E.L F x).getD (E.I F i*12+0).toNat _).toI=_
  rw[show(E.I F i*12+0).toNat=(E.I F i).toNat*12 by omega];rfl
 grind[nI,y9]
theorem aeN(h:E.B F (.fn 191 (.pr x (.pr l (.pr L i))))=true)(h0:0<=E.I F i)(hm:E.I F m=E.I F i+1)(hn:¬E.B F (.fn 114 (.pr L (.fn 1 (.pr x (.fn 6 (.pr (.fn 8 (.pr i (.int 12))) (.int 0)))))))=true):E.B F (.fn 191 (.pr x (.pr l (.pr L m))))=true:=by
 have hid:=acX h h0
 rw[ye,hid]at hn
 rw[vv]at h ⊢
 rw[show(E.I F m).toNat=(E.I F i).toNat+1 by omega,Tv,if_neg hn];exact h
theorem aly(h:E.B F (.fn 191 (.pr x (.pr l (.pr (.fn 10 a) i))))=true)(h0:0<=E.I F i)(hm:E.I F m=E.I F i+1):E.B F (.fn 191 (.pr x (.pr l (.pr (.fn 10 a) m))))=true:=
 aeN h h0 hm (by rw[ye];show ¬([].contains _=true);simp)
theorem aGF(h:E.B F (.fn 191 (.pr x (.pr l (.pr L i))))=true)(h0:0<=E.I F i)(hm:E.I F m=E.I F i+1)(hn:E.B F (.fn 114 (.pr L (.fn 1 (.pr x (.fn 6 (.pr (.fn 8 (.pr i (.int 12))) (.int 0)))))))=true):
  E.B F (.fn 191 (.pr (.fn 2 (.pr x (.pr (.fn 6 (.pr (.fn 8 (.pr i (.int 12))) (.int 9))) (.bool true)))) (.pr l (.pr L m))))=true:=by
 have hid:=acX h h0
 rw[ye,hid]at hn
 rw[vv]at h ⊢
 have e:E.L F (.fn 2 (.pr x (.pr (.fn 6 (.pr (.fn 8 (.pr i (.int 12))) (.int 9))) (.bool true))))=(E.L F x).set ((E.I F i).toNat*12+9) (.bool true):=by
  show(E.L F x).set (E.I F i*12+9).toNat (.bool _)=_
  grind
 rw[e,show(E.I F m).toNat=(E.I F i).toNat+1 by omega,Tv,if_pos hn]
 exact HY _ h (U.eq_rfl _)
theorem De:(E.B F (.fn 199 (.pr Y (.pr L (.pr c0 (.pr c1 (.pr c2 (.pr c3 (.pr a (.pr C (.pr X (.pr p (.int 0))))))))))))=true)=(∃s,bN (dd F c0 c1 c2 c3) 4 (E.I F a).toNat (bP F C X p)=some s/\eh s.2.2=ay F L/\mB (Y.den F) (X.den F) (E.I F p).toNat s.1=true):=by
 show((bN (dd F c0 c1 c2 c3) 4 (E.I F a).toNat (bP F C X p)).any (fun s=>eh _==ay F L&&mB (Y.den F) (X.den F) (E.I F p).toNat _)=true)=_
 simp only[sG,Bool.and_eq_true,beq_iff_eq]
theorem Jy:(E.B F (.fn 198 (.pr Y (.pr c0 (.pr c1 (.pr c2 (.pr c3 (.pr a (.pr C (.pr X (.pr p (.int 0)))))))))))=true)=(∃s,bN (dd F c0 c1 c2 c3) 4 (E.I F a).toNat (bP F C X p)=some s/\oQ (Y.den F) (X.den F) (E.I F p).toNat (eh s.2.2) s.1=true):=by
 show((bN (dd F c0 c1 c2 c3) 4 (E.I F a).toNat (bP F C X p)).any (fun s=>oQ (Y.den F) (X.den F) (E.I F p).toNat _ _)=true)=_
 simp only[sG]
theorem aaH:(E.B F (.fn 196 (.pr Y X))=true)=(AS (Y.den F) (X.den F)=true):=rfl
theorem avX(h:E.B F (.fn 199 (.pr Y (.pr L (.pr c0 (.pr c1 (.pr c2 (.pr c3 (.pr a (.pr C (.pr X (.pr p (.int 0))))))))))))=true):E.B F (.fn 193 L)=true:=by
 grind[De,Dz,OA,BT]
/-- a row of a board but for its first cell -/
noncomputable def yM(Y c:E):E:=iB (c ::(List.range 37).map fun j=> .fn 1 (.pr Y (.int (Int.ofNat (j+1)))))
theorem Qt(j:Nat)(h0:0<j)(h:j<38):cX ((yM Y c).den F) j=cX (Y.den F) j:=by
 obtain⟨k,rfl⟩:∃k,j=k+1:=⟨j-1,by omega⟩
 have:cX ((yM Y c).den F) _=(((c::(List.range 37).map _).getD _ _).den F):=vV _ (k+1) (by simp_all)
 rw[this,List.getD_eq_getElem?_getD,List.getElem?_cons_succ,List.getElem?_map,List.getElem?_range (by omega)]
 rfl
theorem aJz:cX ((yM Y c).den F) 0=c.den F:=vV _ 0 (by simp)
theorem af9(h:E.B F (.fn 199 (.pr Y (.pr L (.pr c0 (.pr c1 (.pr c2 (.pr c3 (.pr a (.pr C (.pr X (.pr p (.int 0))))))))))))=true)(hx:E.B F (.fn 191 (.pr x (.pr (.fn 1 (.pr X (.int 0))) (.pr L i))))=true)
  (hi:E.I F i=E.I F (.fn 9 (.pr (.fn 1 (.pr X (.int 0))) (.int 12)))):E.B F (.fn 198 (.pr (yM Y (.fn 28 (.pr z x))) (.pr c0 (.pr c1 (.pr c2 (.pr c3 (.pr a (.pr C (.pr X (.pr p (.int 0)))))))))))=true:=by
 rw[De]at h
 obtain⟨s,e,eL,ht⟩:=h
 rw[Jy]
 refine⟨s,e,?_⟩
 rw[vv]at hx
 unfold oQ
 rw[Bool.and_eq_true,eL]
 have e9:E.I F (.fn 9 (.pr (.fn 1 (.pr X (.int 0))) (.int 12)))=aN _:=rfl
 rw[hi,e9]at hx
 refine⟨?_,aoc ht fun j h0 h1=>Qt j h0 h1⟩
 exact hx
theorem UG(h:E.B F (.fn 199 (.pr Y (.pr L (.pr c0 (.pr c1 (.pr c2 (.pr c3 (.pr a (.pr C (.pr X (.pr p (.int 0))))))))))))=true)(hX:E.B F (.fn 116 X)=true)(hp:E.B F (.fn 145 (.pr X p))=true):E.B F (.fn 116 (yM Y (.fn 28 (.pr z x))))=true:=by
 rw[De]at h
 obtain⟨s,e,eL,ht⟩:=h
 rw[dN]at hp
 rw[uO]at hX ⊢
 have hc:=fun j (h0:0<j) (h:j<38)=>Qt (F:=F) (Y:=Y) (c:=.fn 28 (.pr z x)) j h0 h
 unfold mB at ht
 rw[List.all_eq_true]at ht
 have hit:∀j,j=29\/j=30->fj (cX (Y.den F) j)=true/\gF (cX (Y.den F) j).toL=true:=fun j hj=>by
  grind
 refine⟨rfl,fun j hj=>?_,by simp_all,by simp_all⟩
 have hj':j=0\/(0<j/\j<38/\¬(2<=j/\j<6)/\¬(16<=j/\j<20)):=by
  simp only[List.mem_cons,List.not_mem_nil,or_false]at hj;omega
 rcases hj' with rfl|⟨h0,h1,h2,h3⟩
 ·rfl
 ·rw[hc j h0 h1]
  by_cases h29:j=29\/j=30
  ·grind
  ·have:=ht j (List.mem_range.2 h1)
   have hpp:(E.I F p).toNat=0\/(E.I F p).toNat=1:=by omega
   rw[if_neg (by grind),if_neg (by simp_all),if_neg (by grind)]at this
   grind[WA]
end
end Go.SX

set_option linter.unusedVariables false
set_option linter.unusedSimpArgs false
namespace Go.SX
/-! what comes in has the shape -/
theorem P5{u:U}{ks:List U}(h:U.typ u (.lst ks)=true):fj u=true:=by
 obtain⟨a,n,c,l,rfl⟩:=Oh h;rfl
theorem abd{a b c d e:U}:∀(n:Nat)(l:List U),U.typs l [a,b,c,d,e] []=true->n*5+4<l.length->U.typ (l.getD (n*5+4) (.int 0)) e=true
 |0,l,h,hl=>by
  match l,hl with
  |x0::x1::x2::x3::x4::l',_=>simp_all[U.typs]
 |n+1,l,h,hl=>by
  match l,hl with
  |x0::x1::x2::x3::x4::l',hl=>
   have h':U.typs l' [a,b,c,d,e] []=true:=by simp_all[U.typs]
   have:=abd n l' h' (by grind)
   rw[show(n+1)*5+4=(n*5+4)+5 by omega]
   exact this
theorem asS{l:List U}(h:U.typs l DI []=true):gF l=true:=by
 unfold gF
 rw[List.all_eq_true]
 intro i hi;have hi:=List.mem_range.1 hi;by_cases h5:i%5=4
 ·have e:i=i/5*5+4:=by omega
  have:=abd (i/5) l h (by omega)
  rw[<- e]at this
  rw[P5 this,Bool.or_true]
 simp_all
theorem aGW{us:List U}(h:us.length=38)(t:U.typs us qb []=true):t8 (.lst us)=true:=by
 have key:∀j,j<38->U.typ _ (qb.getD j _)=true:=fun j hj=>aib t (by rw[h];decide) (by omega)
 have it:∀j,j<38->qb.getD j _=.lst DI->gF (us.getD j _).toL=true:=fun j hj hk=>by
  have:=key j hj
  rw[hk]at this
  obtain⟨a,n,c,l,e⟩:=Oh this
  rw[e]at this ⊢
  exact asS (l:=l) (by simp_all[U.typ])
 have sh:∀j,j<38->(match qb.getD j (.int 0)with | .lst _=>true | _=>false)=true->fj (us.getD j (.int 0))=true:=fun j hj hk=>by
  grind[P5]
 unfold t8
 rw[Bool.and_eq_true,Bool.and_eq_true,Bool.and_eq_true,List.all_eq_true,beq_iff_eq]
 refine⟨⟨h,fun j hj=>?_⟩,it 29 (by omega) rfl,it 30 (by omega) rfl⟩
 have hj':j<38:=by simp only[List.mem_cons,List.not_mem_nil,or_false]at hj;omega
 refine sh j hj' ?_;simp only[List.mem_cons,List.not_mem_nil,or_false]at hj;rcases hj with rfl|rfl|rfl|rfl|rfl|rfl|rfl|rfl|rfl|rfl|rfl|rfl|rfl<;>rfl
/-- cells of a board that are the same but for the objects -/
def lr(F:Env)(X:U):List E->Nat->Prop
  |[],_=>True
  |c ::cs,j=>(if j==0 then true else if j==29||j==30 then im (E.L F c) (cX X j).toL&&(fj (c.den F)&&gF (E.L F c))else U.eq (c.den F) (cX X j))=true/\lr F X cs (j+1)
theorem TQ{F:Env}{X:U}:∀(cs:List E)(j:Nat),lr F X cs j->∀i,i<cs.length->(if j+i==0 then true else if j+i==29||j+i==30 then im (E.L F (cs.getD i (.int 0))) (cX X (j+i)).toL&&(fj ((cs.getD i (.int 0)).den F)&&gF (E.L F (cs.getD i (.int 0))))else U.eq ((cs.getD i (.int 0)).den F) (cX X (j+i)))=true
 |[],_,_,i,hi=>by simp at hi
 |c::cs,j,h,0,_=>h.1
 |c::cs,j,h,i+1,hi=>by
  have:=TQ cs _ h.2 i (by simp_all)
  grind
section
variable {F:Env} {x y l A a b k u i j p q n m r o c d w v X Y T N L e t C z s q0 q1 q2 q3 c0 c1 c2 c3 m0 m1 m2 m3 d0 d1 d2 d3:E}
theorem aka{cs:List E}(hl:cs.length=38)(h:lr F (X.den F) cs 0):E.B F (.fn 196 (.pr (iB cs) X))=true:=by
 rw[aaH]
 unfold AS
 rw[List.all_eq_true]
 intro j hj;have hj:=List.mem_range.1 hj;have g:=TQ cs 0 h j (by omega)
 rw[Nat.zero_add]at g
 have e:cX _ j=(cs.getD j _).den F:=vV cs j (by omega)
 rw[e];exact g
theorem ais{cs:List E}(h:lr F (X.den F) cs 1):lr F (X.den F) (c::cs) 0:=⟨rfl,h⟩
theorem eT(j:Nat)(h0:(j==0)=false)(hj:(j==29||j==30)=false){cs:List E}(h:lr F (X.den F) cs (j+1)):lr F (X.den F) (.fn 1 (.pr X (.int (Int.ofNat j)))::cs) j:=by
 refine⟨?_,h⟩
 rw[h0,hj];exact U.eq_rfl _
theorem l4(j:Nat)(h0:(j==0)=false)(hj:(j==29||j==30)=false)(hm:j∈[0,6,7,8,9,20,21,22,23,29,30,31,32])(ht:E.B F (.fn 116 X)=true)(h1:E.B F (.fn 200 (.pr c (.fn 1 (.pr X (.int (Int.ofNat j))))))=true)(h2:E.B F (.fn 201 c)=true)
  {cs:List E}(h:lr F (X.den F) cs (j+1)):lr F (X.den F) (c::cs) j:=by
 refine⟨?_,h⟩
 rw[h0,hj]
 rw[uO]at ht
 exact aej h1 h2 (ht.2.1 j hm)
theorem abl(j:Nat)(h0:(j==0)=false)(hj:(j==29||j==30)=true)(h1:E.B F (.fn 187 (.pr c (.fn 1 (.pr X (.int (Int.ofNat j))))))=true)(h2:E.B F (.fn 195 c)=true){cs:List E}(h:lr F (X.den F) cs (j+1)):lr F (X.den F) (c::cs) j:=by
 refine⟨?_,h⟩
 rw[h0,hj]
 show(im _ _&&(fj _&&gF _))=true
 rw[Bool.and_eq_true]
 exact⟨h1,h2⟩
/-- a board with a player's pool -/
noncomputable def afk(P:Nat)(Y m0 m1 m2 m3:E):E:=iB ((List.range 38).map fun j=>if j=2+14*P then m0 else if j=3+14*P then m1 else if j=4+14*P then m2 else if j=5+14*P then m3 else .fn 1 (.pr Y (.int (Int.ofNat j))))
theorem ah7(P j:Nat)(h:j<38):cX ((afk P Y m0 m1 m2 m3).den F) j=(if j=2+14*P then m0 else if j=3+14*P then m1 else if j=4+14*P then m2 else if j=5+14*P then m3 else E.fn 1 (.pr Y (.int (Int.ofNat j)))).den F:=by
 have:=vV (F:=F) ((List.range 38).map fun j=>if j=2+14*P then m0 else if j=3+14*P then m1 else if j=4+14*P then m2 else if j=5+14*P then m3 else E.fn 1 (.pr Y (.int (Int.ofNat j)))) j (by simp_all)
 refine Eq.trans this ?_;simp_all
theorem Dv(P:Nat)(hP:P<=1)(h:E.B F (.fn 196 (.pr Y X))=true)(h2:E.B F (.fn 183 (.pr m0 (.pr m1 (.pr m2 (.pr m3 (.pr L (.pr c0 (.pr c1 (.pr c2 (.pr c3 (.pr a (.pr C (.pr X (.pr p (.int 0)))))))))))))))=true)(hp:E.I F p=P):
  E.B F (.fn 199 (.pr (afk P Y m0 m1 m2 m3) (.pr L (.pr c0 (.pr c1 (.pr c2 (.pr c3 (.pr a (.pr C (.pr X (.pr p (.int 0))))))))))))=true:=by
 rw[rR,sG]at h2
 obtain⟨s,e,hs⟩:=h2
 rw[Bool.and_eq_true,beq_iff_eq,beq_iff_eq]at hs
 rw[De]
 refine⟨s,e,hs.2,?_⟩
 rw[aaH]at h
 unfold AS at h;unfold mB
 rw[List.all_eq_true]at h ⊢
 intro j hj;have g:=h j hj;have hj:=List.mem_range.1 hj;have ep:(E.I F p).toNat=P:=by omega
 rw[ep]
 unfold iX
 rw[ah7 P j hj,hs.1]
 by_cases hb:2+14*P<=j/\j<6+14*P
 ·rw[if_neg (by grind),if_neg (by grind),if_pos (by simp_all)]
  have:j=2+14*P\/j=3+14*P\/j=4+14*P\/j=5+14*P:=by omega
  rcases this with rfl|rfl|rfl|rfl
  ·rw[if_pos rfl,show 2+14*P-(2+14*P)=0 by omega];exact beq_self_eq_true _
  ·rw[if_neg (by omega),if_pos rfl,show 3+14*P-(2+14*P)=1 by omega];exact beq_self_eq_true _
  ·rw[if_neg (by omega),if_neg (by omega),if_pos rfl,show 4+14*P-(2+14*P)=2 by omega];exact beq_self_eq_true _
  ·rw[if_neg (by omega),if_neg (by omega),if_neg (by omega),if_pos rfl,show 5+14*P-(2+14*P)=3 by omega];exact beq_self_eq_true _
 ·rw[if_neg (c:=j=2+14*P) (by omega),if_neg (c:=j=3+14*P) (by omega),if_neg (c:=j=4+14*P) (by omega),if_neg (c:=j=5+14*P) (by omega)]
  rw[if_neg (c:=(decide _&&decide _)=true) (by simp_all)]
  exact g
theorem axy{x:Int}(h0:0<=x)(h1:x<=1000000):IntKind.i64.wrap x=x/\IntKind.u64.wrap x=x:=by
 constructor
 ·obtain⟨s,e,_,r⟩:=ab x
  omega
 ·simp only[IntKind.wrap,IntKind.bits,IntKind.signed,Bool.false_and,Bool.false_eq_true,if_false];omega
theorem kz(h0:0<=E.I F i)(h1:0<=E.I F j)(h2:E.I F i<=1000)(h3:E.I F j<=1000):E.I F (.wr .i64 (.ar .shr .u64 (.wr .u64 (.ar .add .i64 i j)) (.int 1)))=(E.I F i+E.I F j)/2:=by
 have e:E.I F (.wr _ (.ar .shr .u64 (.wr .u64 (.ar .add _ i j)) (.int 1)))=IntKind.i64.wrap ((IntKind.u64.wrap (IntKind.i64.wrap (E.I F i+E.I F j))).fdiv (2^(min (1:Int).toNat 64))):=rfl;grind[axy]
theorem aJj:E.I F (.mn a b)<=E.I F a/\E.I F (.mn a b)<=E.I F b/\(E.I F (.mn a b)=E.I F a\/E.I F (.mn a b)=E.I F b):=by
 grind[CF]
theorem Ba{q0 q1 q2 q3:E}(hx:0<=E.I F x/\E.I F x<=1000)(h0:0<=E.I F m0/\E.I F m0<=E.I F q0/\E.I F q0<=99)(h1:0<=E.I F m1/\E.I F m1<=E.I F q1/\E.I F q1<=99)(h2:0<=E.I F m2/\E.I F m2<=E.I F q2/\E.I F q2<=99)(h3:0<=E.I F m3/\E.I F m3<=E.I F q3/\E.I F q3<=99):
  E.I F (.ar .sub .i64 (.ar .add .i64 (.ar .sub .i64 (.ar .add .i64 (.ar .sub .i64 (.ar .add .i64 (.ar .sub .i64 (.ar .add .i64 x q0) m0) q1) m1) q2) m2) q3) m3)=E.I F x+(E.I F q0-E.I F m0)+(E.I F q1-E.I F m1)+(E.I F q2-E.I F m2)+(E.I F q3-E.I F m3):=by
 have w0:=aM (F:=F) (a:=x) (b:=q0) (by omega) (by omega);have w1:=bH (F:=F) (a:=(.ar .add .i64 x q0)) (b:=m0) (by omega) (by omega);have w2:=aM (F:=F) (a:=(.ar .sub .i64 (.ar .add .i64 x q0) m0)) (b:=q1) (by omega) (by omega);have w3:=bH (F:=F) (a:=(.ar .add .i64 (.ar .sub .i64 (.ar .add .i64 x q0) m0) q1)) (b:=m1) (by omega) (by omega);have w4:=aM (F:=F) (a:=(.ar .sub .i64 (.ar .add .i64 (.ar .sub .i64 (.ar .add .i64 x q0) m0) q1) m1)) (b:=q2) (by omega) (by omega);have w5:=bH (F:=F) (a:=(.ar .add .i64 (.ar .sub .i64 (.ar .add .i64 (.ar .sub .i64 (.ar .add .i64 x q0) m0) q1) m1) q2)) (b:=m2) (by omega) (by omega);have w6:=aM (F:=F) (a:=(.ar .sub .i64 (.ar .add .i64 (.ar .sub .i64 (.ar .add .i64 (.ar .sub .i64 (.ar .add .i64 x q0) m0) q1) m1) q2) m2)) (b:=q3) (by omega) (by omega);have w7:=bH (F:=F) (a:=(.ar .add .i64 (.ar .sub .i64 (.ar .add .i64 (.ar .sub .i64 (.ar .add .i64 (.ar .sub .i64 (.ar .add .i64 x q0) m0) q1) m1) q2) m2) q3)) (b:=m3) (by omega) (by omega);omega
theorem Ej(h:E.B F (.fn 146 (.pr c0 (.pr c1 (.pr c2 (.pr c3 a)))))=true):E.I F (.ar .add .i64 (.ar .add .i64 (.ar .add .i64 (.ar .add .i64 a c0) c1) c2) c3)=E.I F c0+E.I F c1+E.I F c2+E.I F c3+E.I F a:=by
 rw[ch]at h
 have w0:=aM (F:=F) (a:=a) (b:=c0) (by omega) (by omega);have w1:=aM (F:=F) (a:=(.ar .add .i64 a c0)) (b:=c1) (by omega) (by omega);have w2:=aM (F:=F) (a:=(.ar .add .i64 (.ar .add .i64 a c0) c1)) (b:=c2) (by omega) (by omega);have w3:=aM (F:=F) (a:=(.ar .add .i64 (.ar .add .i64 (.ar .add .i64 a c0) c1) c2)) (b:=c3) (by omega) (by omega);omega
theorem mM:E.I F (.fn 9 (.pr a (.int 1)))=E.I F (.fn 0 a):=by
 show(E.L F a).length/1=((E.L F a).length:Int)
 omega
/-! the law -/
noncomputable def hv(F:Env)(C X p:E)(k:Nat):Int:=cA k (bP F C X p)
noncomputable def tt(F:Env)(C X p:E):Int:=af (bP F C X p)
noncomputable def ns(F:Env)(C X p:E):Int:=(((bP F C X p).2.1.length/2:Nat):Int)
theorem po(h:E.B F (.fn 146 (.pr c0 (.pr c1 (.pr c2 (.pr c3 a)))))=true):∀k,0<=(dd F c0 c1 c2 c3).getD k 0:=by
 rw[ch]at h
 intro k
 have:k=0\/k=1\/k=2\/k=3\/4<=k:=by omega
 rcases this with rfl|rfl|rfl|rfl|hk
 ·exact h.1
 ·exact h.2.2.1
 ·exact h.2.2.2.2.1
 ·exact h.2.2.2.2.2.2.1
 ·rw[Ka _ _ (by show [_,_,_,_].length<=k;omega)];omega
theorem yj(h:E.B F (.fn 145 (.pr X p))=true):kq (bP F C X p):=aaj (by simp_all[kj])
theorem kp:(E.B F (.fn 182 (.pr c0 (.pr c1 (.pr c2 (.pr c3 (.pr a (.pr C (.pr X (.pr p (.int 0))))))))))=true)=(E.B F (.fn 145 (.pr X p))=true/\E.B F (.fn 146 (.pr c0 (.pr c1 (.pr c2 (.pr c3 a)))))=true/\
  E.I F c0<=hv F C X p 0/\E.I F c1<=hv F C X p 1/\E.I F c2<=hv F C X p 2/\E.I F c3<=hv F C X p 3/\E.I F c0+E.I F c1+E.I F c2+E.I F c3+E.I F a<=tt F C X p):=by
 rw[qh]
 refine propext ⟨fun⟨h1,h2,h3⟩=>⟨h1,h2,?_⟩,fun⟨h1,h2,h3⟩=>⟨h1,h2,?_⟩⟩
 ·rw[lA]at h3
  have h4:(bN (dd F c0 c1 c2 c3) 4 (E.I F a).toNat (bP F C X p)).isSome=true:=by
   cases e:bN _ 4 _ _ with
   |none=>simp_all
   |some s=>rfl
  obtain⟨g1,g2⟩:=((uy (po h2) (yj h1)).1).1 h4
  have e4:pN (dd F c0 c1 c2 c3)=E.I F c0+E.I F c1+E.I F c2+E.I F c3:=rfl
  refine⟨g1 0 (by omega),g1 1 (by omega),g1 2 (by omega),g1 3 (by omega),?_⟩
  grind[tt]
 ·have ha:0<=E.I F a:=by simp_all[ch]
  have e4:pN (dd F c0 c1 c2 c3)=E.I F c0+E.I F c1+E.I F c2+E.I F c3:=rfl
  obtain⟨a0,a1,a2,a3,a4⟩:=h3
  have h4:=((uy (n:=(E.I F a).toNat) (po h2) (yj (C:=C) h1)).1).2 ⟨fun k hk=>by
   have:k=0\/k=1\/k=2\/k=3:=by omega
   rcases this with rfl|rfl|rfl|rfl
   ·exact a0
   ·exact a1
   ·exact a2
   ·exact a3,by grind[tt]⟩
  rw[lA]
  intro e;simp_all
theorem atJ(h:E.B F (.fn 182 (.pr c0 (.pr c1 (.pr c2 (.pr c3 (.pr a (.pr C (.pr X (.pr p (.int 0))))))))))=true)(h2:E.B F (.fn 146 (.pr d0 (.pr d1 (.pr d2 (.pr d3 b)))))=true):E.B F (.fn 182 (.pr (.mn c0 d0) (.pr (.mn c1 d1) (.pr (.mn c2 d2) (.pr (.mn c3 d3) (.pr (.mn a b) (.pr C (.pr X (.pr p (.int 0))))))))))=true:=by
 rw[kp]at h ⊢
 rw[ch]at h h2 ⊢
 simp only[CF]
 obtain⟨h1,g⟩:=h
 refine⟨h1,?_⟩
 omega
theorem ayC(h:E.B F (.fn 182 (.pr d0 (.pr d1 (.pr d2 (.pr d3 (.pr b (.pr C (.pr X (.pr p (.int 0))))))))))=true)(h2:E.B F (.fn 146 (.pr c0 (.pr c1 (.pr c2 (.pr c3 a)))))=true):E.B F (.fn 182 (.pr (.mn c0 d0) (.pr (.mn c1 d1) (.pr (.mn c2 d2) (.pr (.mn c3 d3) (.pr (.mn a b) (.pr C (.pr X (.pr p (.int 0))))))))))=true:=by
 rw[kp]at h ⊢
 rw[ch]at h h2 ⊢
 simp only[CF]
 obtain⟨h1,g⟩:=h
 refine⟨h1,?_⟩
 omega
theorem dt(h:E.B F (.fn 183 (.pr m0 (.pr m1 (.pr m2 (.pr m3 (.pr L (.pr c0 (.pr c1 (.pr c2 (.pr c3 (.pr a (.pr C (.pr X (.pr p (.int 0)))))))))))))))=true)(h1:E.B F (.fn 145 (.pr X p))=true)(h2:E.B F (.fn 146 (.pr c0 (.pr c1 (.pr c2 (.pr c3 a)))))=true):
  E.B F (.fn 182 (.pr c0 (.pr c1 (.pr c2 (.pr c3 (.pr a (.pr C (.pr X (.pr p (.int 0))))))))))=true/\0<=E.I F m0/\0<=E.I F m1/\0<=E.I F m2/\0<=E.I F m3/\
  E.I F m0<=(bP F C X p).1.getD 0 0/\E.I F m1<=(bP F C X p).1.getD 1 0/\E.I F m2<=(bP F C X p).1.getD 2 0/\E.I F m3<=(bP F C X p).1.getD 3 0/\
  E.I F (.fn 0 L)+((bP F C X p).1.getD 0 0-E.I F m0)+((bP F C X p).1.getD 1 0-E.I F m1)+((bP F C X p).1.getD 2 0-E.I F m2)+((bP F C X p).1.getD 3 0-E.I F m3)=E.I F c0+E.I F c1+E.I F c2+E.I F c3+E.I F a/\E.I F (.fn 0 L)<=ns F C X p:=by
 have hn:=LH h
 rw[rR,sG]at h
 obtain⟨s,e,hs⟩:=h
 rw[Bool.and_eq_true,beq_iff_eq,beq_iff_eq]at hs
 obtain⟨g1,g2,g3,g4,g5⟩:=(uy (po h2) (yj h1)).2 s e
 have ha:0<=E.I F a:=by simp_all[ch]
 have e4:pN (dd F c0 c1 c2 c3)=E.I F c0+E.I F c1+E.I F c2+E.I F c3:=rfl;have em:∀k,s.1.getD k 0=(dd F m0 m1 m2 m3).getD k 0:=fun k=>by rw[hs.1]
 have e0:s.1.getD 0 0=E.I F m0:=em 0;have e1:s.1.getD 1 0=E.I F m1:=em 1;have e2:s.1.getD 2 0=E.I F m2:=em 2;have e3:s.1.getD 3 0=E.I F m3:=em 3;have eL:E.I F (.fn 0 L)=s.2.2.length:=by
  rw[<- br,<- hs.2,(qa _).length_eq]
 have e22:(bP F C X p).2.2=[]:=rfl;have t1:af s=s.1.getD 0 0+s.1.getD 1 0+s.1.getD 2 0+s.1.getD 3 0+s.2.1.length/2:=rfl;have t2:af _=(bP F C X p).1.getD 0 0+(bP F C X p).1.getD 1 0+(bP F C X p).1.getD 2 0+(bP F C X p).1.getD 3 0+(bP F C X p).2.1.length/2:=rfl;have n0:=g1.2.2.2 0;have n1:=g1.2.2.2 1;have n2:=g1.2.2.2 2;have n3:=g1.2.2.2 3;grind[ns,qh]
theorem mA(hp:E.I F p=0):(bP F C X p).1.getD 0 0=E.I F (.fn 1 (.pr X (.int 2)))/\(bP F C X p).1.getD 1 0=E.I F (.fn 1 (.pr X (.int 3)))/\(bP F C X p).1.getD 2 0=E.I F (.fn 1 (.pr X (.int 4)))/\(bP F C X p).1.getD 3 0=E.I F (.fn 1 (.pr X (.int 5))):=by
 unfold bP;rw[hp];exact⟨rfl,rfl,rfl,rfl⟩
theorem mO(hp:E.I F p=1):(bP F C X p).1.getD 0 0=E.I F (.fn 1 (.pr X (.int 16)))/\(bP F C X p).1.getD 1 0=E.I F (.fn 1 (.pr X (.int 17)))/\(bP F C X p).1.getD 2 0=E.I F (.fn 1 (.pr X (.int 18)))/\(bP F C X p).1.getD 3 0=E.I F (.fn 1 (.pr X (.int 19))):=by
 unfold bP;rw[hp];exact⟨rfl,rfl,rfl,rfl⟩
theorem ij(h:E.B F (.fn 145 (.pr X p))=true)(k:Nat)(hk:k<4):(bP F C X p).1.getD k 0<=99:=by
 have:=I5 (X:=X.den F) (p:=E.I F p) (by simp_all[kj]) k hk
 unfold bP;rw[Ay,if_pos hk];omega
theorem bg(h:E.B F (.fn 144 (.pr x (.pr C (.pr X p))))=true):E.I F (.fn 0 x)=ns F C X p:=by
 rw[qx]at h
 rw[<- br,h,kF];rfl
/-- after paying -/
theorem dZ(h:E.B F (.fn 198 (.pr Y (.pr c0 (.pr c1 (.pr c2 (.pr c3 (.pr a (.pr C (.pr X (.pr p (.int 0)))))))))))=true)(hY:E.B F (.fn 116 Y)=true)(hX:E.B F (.fn 116 X)=true)(h1:E.B F (.fn 145 (.pr X p))=true)(h2:E.B F (.fn 146 (.pr c0 (.pr c1 (.pr c2 (.pr c3 a)))))=true):
    E.B F (.fn 145 (.pr Y p))=true/\E.B F (.fn 130 Y)=true/\(E.B F (.fn 117 X)=true->E.B F (.fn 117 Y)=true)/\hv F C Y p 0<=hv F C X p 0/\hv F C Y p 1<=hv F C X p 1/\hv F C Y p 2<=hv F C X p 2/\hv F C Y p 3<=hv F C X p 3/\tt F C Y p<=tt F C X p:=by
  rw[Jy]at h
  obtain⟨s,e,hs⟩:=h
  rw[uO]at hY hX
  have hf:ff (X.den F) (E.I F p)=true:=by simp_all[kj]
  obtain⟨k1,k2,k3⟩:=RY hf (po h2) e hs hY.1 hX.1
  obtain⟨g1,g2,g3,g4,g5⟩:=(uy (po h2) (yj h1)).2 s e
  have hh:∀k,hv F C Y p k=cA k s:=fun k=>by
    show(gQ (E.L F C) (Y.den F) (E.I F p)).1.getD k 0+yV k (cF (E.L F C) (Y.den F) (E.I F p) (aN (Y.den F)))=_
    rw[k2,k3];rfl
  have ht:tt F C Y p=af s:=by
    show(gQ (E.L F C) (Y.den F) (E.I F p)).1.getD 0 0+(gQ (E.L F C) (Y.den F) (E.I F p)).1.getD 1 0+(gQ (E.L F C) (Y.den F) (E.I F p)).1.getD 2 0+(gQ (E.L F C) (Y.den F) (E.I F p)).1.getD 3 0+(((cF (E.L F C) (Y.den F) (E.I F p) (aN (Y.den F))).length/2:Nat):Int)=_
    rw[k2,k3];rfl
  have ha:0<=E.I F a:=by simp_all[ch]
  have hc:=po h2;have c0':=hc 0;have c1':=hc 1;have c2':=hc 2;have c3':=hc 3;have e4:pN (dd F c0 c1 c2 c3)=(dd F c0 c1 c2 c3).getD 0 0+(dd F c0 c1 c2 c3).getD 1 0+(dd F c0 c1 c2 c3).getD 2 0+(dd F c0 c1 c2 c3).getD 3 0:=rfl;have hp:(E.I F p).toNat<=1:=by simp_all[dN]
  refine⟨by simp_all[kj], ?_,fun h117=>aoH hs hY.1 hX.1 hp h117,by rw[hh];exact g2 0,by rw[hh];exact g2 1,by rw[hh];exact g2 2,by rw[hh];exact g2 3,by grind[tt]⟩
  have:E.B F (.fn 145 (.pr Y p))=true:=by simp_all[kj]
  simp_all[dN]
theorem cV(h:E.B F (.fn 198 (.pr Y (.pr c0 (.pr c1 (.pr c2 (.pr c3 (.pr a (.pr C (.pr X (.pr p (.int 0)))))))))))=true)(hY:E.B F (.fn 116 Y)=true)(hX:E.B F (.fn 116 X)=true)(h1:E.B F (.fn 145 (.pr X p))=true)(h2:E.B F (.fn 146 (.pr c0 (.pr c1 (.pr c2 (.pr c3 a)))))=true)
  (hL:E.B F (.fn 183 (.pr m0 (.pr m1 (.pr m2 (.pr m3 (.pr L (.pr c0 (.pr c1 (.pr c2 (.pr c3 (.pr a (.pr C (.pr X (.pr p (.int 0)))))))))))))))=true):ns F C Y p=ns F C X p-E.I F (.fn 0 L):=by
 rw[Jy]at h
 obtain⟨s,e,hs⟩:=h
 rw[uO]at hY hX
 have hf:ff (X.den F) (E.I F p)=true:=by simp_all[kj]
 obtain⟨k1,k2,k3⟩:=RY hf (po h2) e hs hY.1 hX.1
 obtain⟨g1,g2,g3,g4,g5⟩:=(uy (po h2) (yj h1)).2 s e
 rw[rR,sG]at hL
 obtain⟨s',e',hs'⟩:=hL
 obtain rfl:s=s':=Option.some.inj (e.symm.trans e')
 rw[Bool.and_eq_true,beq_iff_eq,beq_iff_eq]at hs'
 have eL:E.I F (.fn 0 L)=s.2.2.length:=by
  rw[<- br,<- hs'.2,(qa _).length_eq]
 have e22:(bP F C X p).2.2=[]:=rfl
 rw[e22]at g5
 simp only[List.length_nil]at g5;have en:ns F C Y p=(s.2.1.length/2:Nat):=by
  show(((cF _ _ _ _).length/2:Nat):Int)=_
  rw[k3]
 have en2:ns F C X p=(bP F C X p).2.1.length/2:=rfl;omega
end
end Go.SX

