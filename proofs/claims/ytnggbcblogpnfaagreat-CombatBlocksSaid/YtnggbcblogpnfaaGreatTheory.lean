/-
  What the program's own functions say
-/
import Derived.Test.YtnggbcblogpnfaaGreatSXe
set_option linter.unusedSectionVars false
set_option linter.unusedVariables false
set_option linter.unusedSimpArgs false
namespace Go.SX
/-! ### Boards: what is valid -/
noncomputable def aN(F:Env)(e:E):List Int:=(E.L F e).map U.toI
theorem Lw(l:List U)(k:Nat):(l.getD k (.int 0)).toI=(l.map U.toI).getD k 0:=by
 simp only[List.getD_eq_getElem?_getD,List.getElem?_map];cases l[k]? <;> rfl
theorem aap{p:Nat->Bool}(n:Nat):(List.range n).all p=true↔∀i,i<n->p i=true:=by grind
theorem Kg(l:List U)(n:Nat):xv l n=true↔∀i,i<n->Cw (nI l (i*2)) (nI l (i*2+1))=true:=by
 simp_all[xv]
theorem yx(l:List U)(q:Bool)(n:Nat):ud l q n=true↔∀i,i<n->nM (nI l (i*5)) (nI l (i*5+1)) (nI l (i*5+2)) (nI l (i*5+3)) (l.getD (i*5+4) (.int 0)).toL q=true:=by
 simp_all[ud]
theorem jG(a x b:Int):dq a x b=true↔a<=x/\x<=b:=by grind[dq]
theorem aan(a b:Int):Cw a b=true↔0<=a/\a<=500/\0<=b/\b<=1/\(a=0\/b=0):=by
 simp_all[Cw,jG,and_assoc]
/-- a row of a list whose cY have w cells -/
def bU(T:E)(i:E)(w j:Nat):E:= .fn 1 (.pr T (.fn 6 (.pr (.fn 8 (.pr i (.int (Int.ofNat w)))) (.int (Int.ofNat j)))))
section
variable {F:Env} {x y l A a b k u i j p q n m r o c d w v X T N L:E}
theorem b8:((aN F l).length:Int)=E.I F (.fn 0 l):=by
 show((E.L F l).map _).length=((E.L F l).length:Int)
 simp
theorem gL:E.I F (.fn 1 (.pr l i))=(aN F l).getD (E.I F i).toNat 0:=Lw _ _
theorem fJ(i:E)(w j:Nat)(h:0<=E.I F i):E.I F (.fn 1 (.pr T (.fn 6 (.pr (.fn 8 (.pr i (.int (Int.ofNat w)))) (.int (Int.ofNat j))))))=nI (E.L F T) ((E.I F i).toNat*w+j):=by
 show((E.L F T).getD (E.I F i*w+j).toNat _).toI=_
 have e:(E.I F i*w+j).toNat=(E.I F i).toNat*w+j:=by
  grind
 rw[e];rfl
theorem wK(i:E)(w j:Nat)(h:0<=E.I F i):E.L F (.fn 1 (.pr T (.fn 6 (.pr (.fn 8 (.pr i (.int (Int.ofNat w)))) (.int (Int.ofNat j))))))=((E.L F T).getD ((E.I F i).toNat*w+j) (.int 0)).toL:=by
 show((E.L F T).getD (E.I F i*w+j).toNat _).toL=_
 grind
/-! targets -/
theorem GP:(E.B F (.fn 101 (.pr T n))=true)=(xv (E.L F T) (E.I F n).toNat=true):=rfl
theorem Gg(h:E.B F (.fn 101 (.pr T i))=true)(h0:0<=E.I F i)(hm:E.I F m=E.I F i+1){a b:E}(ea:a=bU T i 2 0)(eb:b=bU T i 2 1)
  (ha:0<=E.I F a/\E.I F a<=500/\0<=E.I F b/\E.I F b<=1/\(E.I F a=0\/E.I F b=0)):E.B F (.fn 101 (.pr T m))=true:=by
 grind[GP,Kg,bU,fJ,aan]
theorem mh(h0:0<=E.I F i)(h1:E.I F i<E.I F N){a b:E}(ea:a=bU T i 2 0)(eb:b=bU T i 2 1)
  (ha:¬(0<=E.I F a/\E.I F a<=500/\0<=E.I F b/\E.I F b<=1/\(E.I F a=0\/E.I F b=0))):¬(E.B F (.fn 101 (.pr T N))=true):=by
 subst ea;subst eb;intro h
 rw[GP,Kg]at h
 apply ha;unfold bU
 rw[fJ (T:=T) i 2 0 h0,fJ (T:=T) i 2 1 h0]
 grind[aan]
theorem agL(h:E.B F (.fn 101 (.pr T i))=true)(h1:E.I F N<=E.I F i):E.B F (.fn 101 (.pr T N))=true:=by
 grind[GP,Kg]
/-! items -/
theorem dz:(E.B F (.fn 102 (.pr p (.pr i (.pr c (.pr k (.pr T q))))))=true)=(0<=E.I F p/\E.I F p<=1/\1<=E.I F i/\E.I F i<=500/\0<=E.I F c/\E.I F c<=399/\-1<=E.I F k/\E.I F k<=1/\E.I F (.fn 9 (.pr T (.int 2)))<=4/\
  (E.I F k<0\/E.I F (.fn 9 (.pr T (.int 2)))=0)/\(E.B F q=true->0<=E.I F k)/\E.B F (.fn 101 (.pr T (.fn 9 (.pr T (.int 2)))))=true):=by
 show(nM (E.I F p) (E.I F i) (E.I F c) (E.I F k) (E.L F T) (E.B F q)=true)=_
 rw[GP]
 have e9:E.I F (.fn 9 (.pr T (.int 2)))=(E.L F T).length/2:=rfl;unfold nM;simp only[Bool.and_eq_true,jG];grind
theorem sf:(E.B F (.fn 103 (.pr L (.pr q n)))=true)=(ud (E.L F L) (E.B F q) (E.I F n).toNat=true):=rfl
theorem ahT(i:E)(h0:0<=E.I F i):(E.B F (.fn 102 (.pr (bU L i 5 0) (.pr (bU L i 5 1) (.pr (bU L i 5 2) (.pr (bU L i 5 3) (.pr (bU L i 5 4) q))))))=true)=
  (nM (nI (E.L F L) ((E.I F i).toNat*5)) (nI (E.L F L) ((E.I F i).toNat*5+1)) (nI (E.L F L) ((E.I F i).toNat*5+2)) (nI (E.L F L) ((E.I F i).toNat*5+3)) ((E.L F L).getD ((E.I F i).toNat*5+4) (.int 0)).toL (E.B F q)=true):=by
 show(nM (E.I F _) (E.I F _) (E.I F _) (E.I F _) (E.L F _) (E.B F q)=true)=_
 grind[bU,fJ,wK]
theorem Gj(h:E.B F (.fn 103 (.pr L (.pr q i)))=true)(h0:0<=E.I F i)(hm:E.I F m=E.I F i+1){a:E}(ea:a=.fn 102 (.pr (bU L i 5 0) (.pr (bU L i 5 1) (.pr (bU L i 5 2) (.pr (bU L i 5 3) (.pr (bU L i 5 4) q))))))
  (ha:E.B F a=true):E.B F (.fn 103 (.pr L (.pr q m)))=true:=by
 grind[ahT,sf,yx]
theorem Gi(h0:0<=E.I F i)(h1:E.I F i<E.I F N){a:E}(ea:a=.fn 102 (.pr (bU L i 5 0) (.pr (bU L i 5 1) (.pr (bU L i 5 2) (.pr (bU L i 5 3) (.pr (bU L i 5 4) q))))))
  (ha:¬(E.B F a=true)):¬(E.B F (.fn 103 (.pr L (.pr q N)))=true):=by
 grind[ahT,sf,yx]
theorem Gh(h:E.B F (.fn 103 (.pr L (.pr q i)))=true)(h1:E.I F N<=E.I F i):E.B F (.fn 103 (.pr L (.pr q N)))=true:=by
 grind[sf,yx]
/-! lists of numbers -/
theorem si:(E.B F (.fn 114 (.pr l k))=true)=(E.I F k∈aN F l):=by
 show((br _).contains _=true)=_
 rw[List.contains_iff_mem];rfl
theorem Al:E.I F (.fn 131 (.pr l (.pr k n)))=(((aN F l).take (E.I F n).toNat).count (E.I F k):Nat):=rfl
theorem pP(l:List Int)(n:Nat)(h:n<l.length):l.take (n+1)=l.take n++[l.getD n 0]:=by
 simp_all
theorem NV(h0:0<=E.I F i)(h1:E.I F i<E.I F (.fn 0 l))(hm:E.I F m=E.I F i+1):
  E.I F (.fn 131 (.pr l (.pr k m)))=E.I F (.fn 131 (.pr l (.pr k i)))+(if E.I F k=E.I F (.fn 1 (.pr l i))then 1 else 0):=by
 rw[Al,Al,gL]
 rw[<- b8]at h1
 have e:(E.I F m).toNat=(E.I F i).toNat+1:=by omega
 grind[pP]
theorem aMu(h:E.I F (.fn 0 l)<=E.I F n):(E.B F (.fn 114 (.pr l k))=true)↔¬(E.I F (.fn 131 (.pr l (.pr k n)))=0):=by
 grind[si,Al,b8,List.take_of_length_le]
theorem aMg(h0:0<=E.I F i)(h1:E.I F i<E.I F (.fn 0 l))(he:E.I F k=E.I F (.fn 1 (.pr l i))):E.B F (.fn 114 (.pr l k))=true:=by
 simp_all[si,gL,b8]
end
end Go.SX

set_option linter.unusedVariables false
set_option linter.unusedSimpArgs false
namespace Go.SX
/-! ### maps as lists of pairs -/
theorem uv(q:Int)(u:U)(m:List U):db q (u::m)=if u.fst.toI=q then some u.snd else db q m:=rfl
theorem adu(k:Int)(v u:U)(m:List U):cM k v (u::m)=if u.fst.toI=k then .lst [.int k,v]::m else u::cM k v m:=rfl
theorem ab7(k:Int)(v:U):(U.lst [.int k,v]).fst.toI=k:=rfl
theorem agi(k:Int)(v:U):(U.lst [.int k,v]).snd=v:=rfl
theorem adn(k q:Int)(v:U):∀m:List U,db q (cM k v m)=if q=k then some v else db q m
 |[]=>by
  show db q [U.lst _]=_;grind[uv,ab7,agi]
 |u::l=>by
  rw[adu]
  by_cases h:u.fst.toI=k
  ·rw[if_pos h,uv,ab7,agi,uv,h]
   grind
  ·rw[if_neg h,uv,adn k q v l,uv]
   grind
theorem ae4(k:Int)(v:U):∀m:List U,k∉(iF m).map Prod.fst->iF (cM k v m)=iF m++[(k,v.toI)]
 |[],_=>rfl
 |u::l,h=>by
  have e:iF (u::l)=(u.fst.toI,u.snd.toI)::iF l:=rfl
  rw[e]at h ⊢
  simp only[List.map_cons,List.mem_cons,not_or]at h
  rw[adu,if_neg (fun e=>h.1 e.symm)]
  show(u.fst.toI,u.snd.toI)::iF _=_
  rw[ae4 k v l h.2];rfl
theorem EG(k:Int):∀m:List U,(db k m).map U.toI=fy (iF m) k
 |[]=>rfl
 |u::l=>by
  have e:iF (u::l)=(u.fst.toI,u.snd.toI)::iF l:=rfl
  rw[uv,e]
  unfold fy;by_cases h:u.fst.toI=k
  ·simp[h]
  ·have:=EG k l
   grind[fy]
theorem Mr(k:Int)(m:List U):(db k m).isSome=true↔k∈(iF m).map Prod.fst:=by
 grind[EG,fy,Option.isSome_map]
theorem yI{l:List (Int×Int)}{k v:Int}(h:fy l k=some v):(k,v)∈l:=by
 unfold fy at h;cases hc:l.find? fun p=>p.1==k with
 |none=>simp_all
 |some p=>
  grind
theorem Mg:∀ {l:List (Int×Int)} {k v:Int},(l.map Prod.fst).Nodup->(k,v)∈l->fy l k=some v
 |[],k,v,_,h=>by simp at h
 |p::l,k,v,hn,h=>by
  simp only[List.map_cons,List.nodup_cons]at hn;unfold fy;rcases List.mem_cons.1 h with e|e
  ·grind
  ·have:=Mg hn.2 e
   grind[fy]
theorem px:∀l:List Int,nW l=true↔l.Nodup
 |[]=>by simp[nW]
 |x::l=>by
  unfold nW
  rw[Bool.and_eq_true,px l,List.nodup_cons]
  simp
theorem yN(m:List U)(l:List (Int×Int)):g9 m l=true↔iF m=l/\(l.map Prod.fst).Nodup:=by
 simp_all[g9,px]
theorem Mp{m:List U}{l:List (Int×Int)}{k:Int}{v:U}(h:g9 m l=true)(hk:¬(db k m).isSome=true):g9 (cM k v m) (l++[(k,v.toI)])=true:=by
 grind[yN,Mr,ae4]
/-! the places, one after the other -/
theorem Hd(X:U)(k:Nat):kY X (k+1)=kY X k++(aY X k).map fun i=>(i,((k/4:Nat):Int)):=by
 simp_all[kY,List.range_succ]
theorem aI6(X:U)(k:Nat):eW X k (aY X k).length=eW X (k+1) 0:=by
 simp_all[eW,Hd]
theorem aI7(X:U)(k i:Nat)(h:i<(aY X k).length):eW X k (i+1)=eW X k i++[((aY X k).getD i 0,((k/4:Nat):Int))]:=by
 grind[eW,pP]
theorem aib(X:U)(k:Nat):∀d,∃r,kY X (k+d)=kY X k++r
 |0=>⟨[],by simp⟩
 |d+1=>by
  obtain⟨r,hr⟩:=aib X k d
  grind[Hd]
theorem FB(X:U)(k i:Nat)(h:k<8):∃r,c9 X=eW X k i++r:=by
 obtain⟨r,hr⟩:=aib X _ _
 have e:k+1+(8-(k+1))=8:=by omega
 rw[e]at hr
 refine⟨((aY X k).drop i).map (fun x=>(x,(k/4:Int)))++(r++iH X (cD X)),?_⟩
 have h8:eW X 8 0=kY X 8:=by simp[eW]
 unfold c9
 rw[h8,hr,Hd]
 grind[eW,List.take_append_drop]
theorem F9(X:U)(s:Nat):jf X (s+1)=jf X s++if nI (cX X 29).toL (s*5+3)<0 then [s] else []:=by
 grind[jf,List.range_succ]
theorem agG(X:U)(s:Nat):∀d,∃r,jf X (s+d)=jf X s++r
 |0=>⟨[],by simp⟩
 |d+1=>by
  obtain⟨r,hr⟩:=agG X s d
  grind[F9]
theorem aLP(X:U)(s:Nat)(h:s<=cD X):∃r,c9 X=(eW X 8 0++iH X s)++r:=by
 obtain⟨r,hr⟩:=agG X s (cD X-s)
 simp_all[c9,iH]
theorem aeL{X:U}{l:List (Int×Int)}{k v:Int}(h:∃r,c9 X=(l++[(k,v)])++r)(hk:k∈l.map Prod.fst):¬dr X=true:=by
 intro hp;unfold dr at hp;simp only[Bool.and_eq_true,px]at hp;grind
theorem kN(X:U)(n:Nat):uF X n=true↔∀i,i<n->(rJ X i=true/\(i=0\/oI X (i-1) 0<oI X i 0)/\fy (c9 X) (oI X i 0)=some (oI X i 2)/\(∀c,fy (ic X (cD X)) (oI X i 0)=some c->c=oI X i 1)):=by
 grind[uF]
theorem py(X:U)(i:Nat):rJ X i=true↔1<=oI X i 0/\oI X i 0<=500/\-1<=oI X i 1/\oI X i 1<=399/\0<=oI X i 2/\oI X i 2<=1/\(oI X i 1=-1\/(oI X i 3=0/\oI X i 4=0))/\
  0<=oI X i 3/\oI X i 3<=99/\0<=oI X i 4/\oI X i 4<=99/\0<=oI X i 5/\oI X i 5<=99/\0<=oI X i 6/\oI X i 6<=99/\0<=oI X i 7/\oI X i 7<=99/\0<=oI X i 8/\oI X i 8<=99:=by
 unfold rJ;simp only[List.all_cons,List.all_nil,Bool.and_eq_true,Bool.or_eq_true,jG,beq_iff_eq,and_assoc,and_true]
/-! distinct ids: as many places as objects -/
theorem ac2:∀(l1 l2:List Int),l1.Nodup->(∀x∈l1,x∈l2)->l1.length<=l2.length
 |[],l2,_,_=>Nat.zero_le _
 |x::l1,l2,hn,hs=>by
  have h:=ac2 l1 (l2.erase x) (List.nodup_cons.1 hn).2 (by
   grind)
  grind
theorem agK{l1 l2:List Int}(hn:l1.Nodup)(hs:∀x∈l1,x∈l2)(hl:l2.length<=l1.length):∀x∈l2,x∈l1:=by
 intro x hx;by_cases h:x∈l1
 ·exact h
 ·have:=ac2 _ l2 (List.nodup_cons.2 ⟨h,hn⟩) (by
   simp_all)
  grind
def kM(X:U):List Int:=(List.range (aT X)).map fun i=>oI X i 0
theorem agq{f:Nat->Int}{n:Nat}(h:∀i,i<n->(i=0\/f (i-1)<f i)):∀i j,i<j->j<n->f i<f j:=by
 intro i j hij hj;induction j with
 |zero=>omega
 |succ j ih=>
  grind
theorem E0{X:U}(h:∀i,i<aT X->(i=0\/oI X (i-1) 0<oI X i 0)):(kM X).Nodup:=by
 unfold kM
 rw[List.nodup_iff_pairwise_ne,List.pairwise_map]
 refine List.Pairwise.imp_of_mem ?_ (List.pairwise_lt_range (n:=aT X));intro a b ha hb hab e
 have:=agq (f:=fun i=>oI X i 0) h a b hab (List.mem_range.1 hb)
 omega
theorem afq{X:U}(h:dr X=true):∀k∈(c9 X).map Prod.fst,1<=k/\k<=500:=by
 unfold dr at h;simp only[Bool.and_eq_true,beq_iff_eq]at h
 obtain⟨⟨hn,ho⟩,hl⟩:=h
 rw[kN]at ho
 have hs:=agK (l1:=kM X) (l2:=(c9 X).map _) (E0 fun i hi=>(ho i hi).2.1) (by
  intro x hx
  obtain⟨i,hi,rfl⟩:=List.mem_map.1 hx
  exact List.mem_map_of_mem (f:=Prod.fst) (yI (ho i (List.mem_range.1 hi)).2.2.1)) (by simp[kM,hl])
 intro k hk
 obtain⟨i,hi,rfl⟩:=List.mem_map.1 (hs k hk)
 simp_all[py]
theorem aic(X:U)(k:Nat)(h:k<8):∀x∈aY X k,x∈(c9 X).map Prod.fst:=by
 obtain⟨r,hr⟩:=FB X k (aY X k).length h
 simp_all[eW]
end Go.SX

set_option linter.unusedVariables false
set_option linter.unusedSimpArgs false
namespace Go.SX
/-! ### attackers and blocks -/
theorem Kq(X:U)(j c:Nat):dp X (j+1) c=dp X j c++[blk X j c]:=by
 simp_all[dp,List.range_succ]
theorem aFU{X:U}{j n c:Nat}(h:j<=n){k:Int}(hk:k∈dp X j c):k∈dp X n c:=by
 grind[dp]
theorem me(X:U)(n j:Nat)(k:Int)(h:0<k):pF X n j k=(((aX X).take n).contains k && !(dp X j 1).contains k):=by
 simp_all[pF]
theorem pH(X:U)(n j:Nat)(k:Int)(h:¬0<k):pF X n j k=(dp X j 0).contains (-k):=by
 grind[pF]
theorem Nr(m:List U)(k q:Int)(b:Bool):hO (cM k (.bool b) m) q=if q=k then b else hO m q:=by
 unfold hO;rw[adn];by_cases h:q=k<;>simp[h]
 rfl
theorem pG{X:U}{m:List U}{n j:Nat}(h:iG X m n j=true)(hj:j<=cS X)(k:Int):hO m k=pF X n j k:=by
 unfold iG at h
 rw[List.all_eq_true]at h
 by_cases hk:k∈(m.map fun u=>u.fst.toI)++aX X++(dp X (cS X) 0).map fun k=>-k
 ·simp_all
 ·have h1:hO m k=false:=by
   unfold hO;cases hc:db k m with
   |none=>rfl
   |some v=>
    grind[Mr,iF]
  by_cases hp:0<k
  ·grind[me]
  ·rw[pH _ _ _ _ hp]
   grind[aFU]
theorem Ns{X:U}{m:List U}{n j:Nat}(h:∀k,hO m k=pF X n j k):iG X m n j=true:=by
 simp_all[iG]
theorem oV(X:U)(n:Nat):jw X n=true↔((aX X).take n).Nodup/\∀a∈(aX X).take n,a∈gf X:=by
 simp_all[jw,px]
theorem qX(X:U)(n:Nat):kq X n=true↔(dp X n 1).Nodup/\(dp X n 0).Nodup/\∀i,i<n->(blk X i 1∈aX X/\blk X i 0∈fC X):=by
 simp_all[kq,px,and_assoc]
theorem MP{X:U}(h:dr X=true)(ha:cy X<=1){a:Int}(hm:a∈gf X):1<=a/\a<=500:=
 afq h a (aic X _ (by omega) a hm)
theorem ML{X:U}(h:dr X=true){a:Int}(hm:a∈fC X):1<=a/\a<=500:=
 afq h a (aic X _ (by omega) a hm)
theorem o8(X:U):gW X=true↔jw X (aX X).length=true/\kq X (cS X)=true:=by
 simp_all[gW]
theorem aKC{X:U}{i:Nat}{a:Int}(h:pF X i 0 a=true):a∈(aX X).take i:=by
 by_cases hp:0<a
 all_goals simp_all[me,pH,dp]
theorem aFB{X:U}{m:List U}{i:Nat}(h:jw X i=true)(hp:dr X=true)(ha:cy X<=1)(hs:iG X m i 0=true)(hi:i<(aX X).length)
  (hv:¬hO m ((aX X).getD i 0)=true)(ho:(aX X).getD i 0∈gf X):jw X (i+1)=true:=by
 rw[oV]at *
 have hpos:=MP hp ha ho
 rw[pG hs (Nat.zero_le _),me _ _ _ _ (by omega)]at hv
 have hb:(dp X 0 1).contains ((aX X).getD i 0)=false:=by rfl
 grind[pP]
theorem aFA{X:U}{m:List U}{i:Nat}(hp:dr X=true)(ha:cy X<=1)(hs:iG X m i 0=true)(hi:i<(aX X).length)(ho:(aX X).getD i 0∈gf X):iG X (cM ((aX X).getD i 0) (.bool true) m) (i+1) 0=true:=by
 apply Ns;intro k;have hpos:=MP hp ha ho
 rw[Nr,pG hs (Nat.zero_le _)]
 by_cases hk:0<k
 ·rw[me _ _ _ _ hk,me _ _ _ _ hk,pP _ _ hi]
  by_cases e:k=(aX X).getD i 0
  ·grind[dp]
  grind
 ·rw[pH _ _ _ _ hk,pH _ _ _ _ hk,if_neg (by omega)]
theorem aFC{X:U}{m:List U}{i:Nat}(hs:iG X m i 0=true)(hi:i<(aX X).length)(hv:hO m ((aX X).getD i 0)=true):¬gW X=true:=by
 intro hf
 rw[o8,oV,List.take_length]at hf
 rw[pG hs (Nat.zero_le _)]at hv
 have hm:=aKC hv;have ht:=pP _ i hi;grind[List.take_sublist]
theorem aFz{X:U}{i:Nat}(hi:i<(aX X).length)(ho:¬(aX X).getD i 0∈gf X):¬gW X=true:=by
 grind[o8,oV]
theorem CN{X:U}{j:Nat}(hj:j<cS X)(h:kq X (j+1)=true->False):¬gW X=true:=by
 intro hf
 rw[o8,qX]at hf
 apply h
 rw[qX]
 have sub:∀c,(dp X (j+1) c).Sublist (dp X (cS X) c):=by
  grind[dp]
 grind
/-- a block that is right, when the ones ahead of it are -/
theorem xy{X:U}{j:Nat}:kq X (j+1)=true↔kq X j=true/\blk X j 1∉dp X j 1/\blk X j 0∉dp X j 0/\blk X j 1∈aX X/\blk X j 0∈fC X:=by
  grind[qX,Kq]
theorem aaz{X:U}(hp:dr X=true)(ha:cy X<=1)(h:jw X (aX X).length=true){a:Int}(hm:a∈aX X):1<=a/\a<=500:=by
 rw[oV,List.take_length]at h
 exact MP hp ha (h.2 a hm)
section
variable {X:U} {m:List U} {j:Nat} {nk:Int}
theorem aFO(hp:dr X=true)(ha:cy X<=1)(h:jw X (aX X).length=true)(hs:iG X m (aX X).length j=true)(hj:j<cS X)(hv:¬hO m (blk X j 1)=true):¬gW X=true:=by
 apply CN hj;intro hb
 rw[xy]at hb
 have hpos:=aaz hp ha h hb.2.2.2.1
 rw[pG hs (by omega),me _ _ _ _ (by omega),List.take_length,Bool.and_eq_true,List.contains_iff_mem]at hv
 simp_all
theorem aFP(hp:dr X=true)(hs:iG X m (aX X).length j=true)(hj:j<cS X)(hk:1<=blk X j 0->blk X j 0<=500->nk=-(blk X j 0))(hv:hO m nk=true):¬gW X=true:=by
 apply CN hj;intro hb
 rw[xy]at hb
 have hpos:=ML hp hb.2.2.2.2;have e:=hk hpos.1 hpos.2
 rw[pG hs (by omega),pH _ _ _ _ (by omega),List.contains_iff_mem,e,Int.neg_neg]at hv
 simp_all
theorem aFQ(hj:j<cS X)(hv:¬blk X j 1∈aX X):¬gW X=true:=by
 grind[CN,xy]
theorem aFR(hj:j<cS X)(hv:¬blk X j 0∈fC X):¬gW X=true:=by
 grind[CN,xy]
theorem aFT(hp:dr X=true)(ha:cy X<=1)(h:jw X (aX X).length=true)(hb:kq X j=true)(hs:iG X m (aX X).length j=true)(hj:j<cS X)(hv:hO m (blk X j 1)=true)
  (hk:1<=blk X j 0->blk X j 0<=500->nk=-(blk X j 0))(hn:¬hO m nk=true)(h1:blk X j 1∈aX X)(h2:blk X j 0∈fC X):kq X (j+1)=true/\iG X (cM nk (.bool true) (cM (blk X j 1) (.bool false) m)) (aX X).length (j+1)=true:=by
 have hpos:=aaz hp ha h h1;have hpos2:=ML hp h2;have e:=hk hpos2.1 hpos2.2;have hv':=hv
 rw[pG hs (by omega),me _ _ _ _ (by omega),Bool.and_eq_true]at hv'
 have hn':=hn
 rw[pG hs (by omega),pH _ _ _ _ (by omega),e,Int.neg_neg,List.contains_iff_mem]at hn'
 have hv2:blk X j 1∉dp X j 1:=by
  simp_all
 refine⟨xy.2 ⟨hb,hv2,hn',h1,h2⟩,?_⟩
 apply Ns;intro k
 rw[Nr,Nr,pG hs (by omega)]
 by_cases hk:0<k
 ·rw[me _ _ _ _ hk,me _ _ _ _ hk,if_neg (by omega),Kq]
  grind
 grind[pH,Kq]
end
end Go.SX

set_option linter.unusedVariables false
set_option linter.unusedSimpArgs false
namespace Go.SX
/-! ### what expressions say of a board -/
section
variable {F:Env} {x y l A a b k u i j p q n m r o c d w v X T N L L2 mc s:E}
theorem bJ:-9223372036854775808<=E.I F a+E.I F b->E.I F a+E.I F b<9223372036854775808->E.I F (.ar .add .i64 a b)=E.I F a+E.I F b:=by
 have e:E.I F (.ar .add _ a b)=IntKind.i64.wrap (E.I F a+E.I F b):=rfl
 obtain⟨s,e2,q,r⟩:=ab (E.I F a+E.I F b)
 omega
theorem kW:-9223372036854775808<=E.I F a-E.I F b->E.I F a-E.I F b<9223372036854775808->E.I F (.ar .sub .i64 a b)=E.I F a-E.I F b:=by
 have e:E.I F (.ar .sub _ a b)=IntKind.i64.wrap (E.I F a-E.I F b):=rfl
 obtain⟨s,e2,q,r⟩:=ab (E.I F a-E.I F b)
 omega
theorem sg:(E.B F (.fn 108 X)=true)=(dr (X.den F)=true):=rfl
theorem vD:(E.B F (.fn 109 (.pr L (.pr X (.pr p q))))=true)=(aN F L=aY (X.den F) ((E.I F p).toNat*4+(E.I F q).toNat)):=by
 show((br _==aY _ _)=true)=_
 rw[beq_iff_eq];rfl
theorem GR:(E.B F (.fn 110 X)=true)=(gW (X.den F)=true):=rfl
theorem GS:(E.B F (.fn 111 (.pr X n))=true)=(jw (X.den F) (E.I F n).toNat=true):=rfl
theorem ahU:(E.B F (.fn 112 (.pr X n))=true)=(kq (X.den F) (E.I F n).toNat=true):=rfl
theorem zN:(E.B F (.fn 113 (.pr m (.pr X (.pr n j))))=true)=(iG (X.den F) (E.L F m) (E.I F n).toNat (E.I F j).toNat=true):=rfl
theorem OJ:E.B F (.fn 32 (.pr m (.pr k (.bool false))))=hO (E.L F m) (E.I F k):=rfl
theorem sK:E.L F (.fn 34 (.pr m (.pr k v)))=cM (E.I F k) (v.den F) (E.L F m):=rfl
theorem OL(P Q j:Nat)(hQ:Q<4)(hj:j=6+14*P+Q):aY (X.den F) (P*4+Q)=aN F (.fn 1 (.pr X (.int (Int.ofNat j)))):=by
 show br _=br (cX (X.den F) j);grind
theorem gh(P Q j:Nat)(hQ:Q<4)(hj:j=6+14*P+Q)(hp:E.I F p=(P:Int))(hq:E.I F q=(Q:Int)):E.B F (.fn 109 (.pr (.fn 1 (.pr X (.int (Int.ofNat j)))) (.pr X (.pr p q))))=true:=by
 simp_all[vD,OL]
theorem aNS(Y:U)(z:Nat):(aY Y z).length=(cX Y (6+14*(z/4)+z%4)).toL.length:=by
 grind[aY,br]
theorem ai(h:E.B F (.fn 117 X)=true):(E.I F (.fn 0 (.fn 1 (.pr X (.int 6))))<=40/\E.I F (.fn 0 (.fn 1 (.pr X (.int 7))))<=40/\E.I F (.fn 0 (.fn 1 (.pr X (.int 8))))<=40/\E.I F (.fn 0 (.fn 1 (.pr X (.int 9))))<=40)/\
  (E.I F (.fn 0 (.fn 1 (.pr X (.int 20))))<=40/\E.I F (.fn 0 (.fn 1 (.pr X (.int 21))))<=40/\E.I F (.fn 0 (.fn 1 (.pr X (.int 22))))<=40/\E.I F (.fn 0 (.fn 1 (.pr X (.int 23))))<=40)/\
  (E.I F (.fn 9 (.pr (.fn 1 (.pr X (.int 29))) (.int 5)))<=20/\E.I F (.fn 9 (.pr (.fn 1 (.pr X (.int 30))) (.int 5)))<=20/\E.I F (.fn 9 (.pr (.fn 1 (.pr X (.int 0))) (.int 12)))<=30/\E.I F (.fn 0 (.fn 1 (.pr X (.int 31))))<=30/\E.I F (.fn 9 (.pr (.fn 1 (.pr X (.int 32))) (.int 2)))<=30)/\
  (0<=E.I F (.fn 9 (.pr (.fn 1 (.pr X (.int 29))) (.int 5)))/\0<=E.I F (.fn 9 (.pr (.fn 1 (.pr X (.int 30))) (.int 5)))/\0<=E.I F (.fn 9 (.pr (.fn 1 (.pr X (.int 0))) (.int 12)))/\0<=E.I F (.fn 0 (.fn 1 (.pr X (.int 31))))/\0<=E.I F (.fn 9 (.pr (.fn 1 (.pr X (.int 32))) (.int 2)))):=by
 have h':je _=true:=h;unfold je at h';simp only[Bool.and_eq_true,aap,decide_eq_true_eq]at h'
 obtain⟨⟨⟨⟨⟨⟨⟨h1,h2⟩,h3⟩,_⟩,_⟩,h4⟩,h5⟩,h6⟩:=h'
 have z (n:Nat) (hn:n<8):=h1 n hn;simp only[aNS]at z;have z0:=z 0 (by omega);have z1:=z 1 (by omega);have z2:=z 2 (by omega);have z3:=z 3 (by omega);have z4:=z 4 (by omega);have z5:=z 5 (by omega);have z6:=z 6 (by omega);have z7:=z 7 (by omega);have a31:(aX (X.den F)).length=(cX (X.den F) 31).toL.length:=by grind[aX,br]
 rw[a31]at h5
 refine⟨⟨?_,?_,?_,?_⟩,⟨?_,?_,?_,?_⟩,⟨?_,?_,?_,?_,?_⟩,?_,?_,?_,?_,?_⟩
 ·exact Int.ofNat_le.2 z0
 ·exact Int.ofNat_le.2 z1
 ·exact Int.ofNat_le.2 z2
 ·exact Int.ofNat_le.2 z3
 ·exact Int.ofNat_le.2 z4
 ·exact Int.ofNat_le.2 z5
 ·exact Int.ofNat_le.2 z6
 ·exact Int.ofNat_le.2 z7
 ·exact Int.ofNat_le.2 h2
 ·exact Int.ofNat_le.2 h3
 ·exact Int.ofNat_le.2 h4
 ·exact Int.ofNat_le.2 h5
 ·exact Int.ofNat_le.2 h6
 ·exact Int.natCast_nonneg _
 ·exact Int.natCast_nonneg _
 ·exact Int.natCast_nonneg _
 ·exact Int.natCast_nonneg _
 ·exact Int.natCast_nonneg _
/-! fights -/
theorem aMf(h:E.I F n<=0)(h':E.I F j<=0):E.B F (.fn 113 (.pr (.fn 10 a) (.pr X (.pr n j))))=true:=by
 have e:(E.I F n).toNat=0:=by omega
 have e':(E.I F j).toNat=0:=by omega
 rw[zN,e,e']
 apply Ns;intro k;show false=_;grind[me,pH,dp]
theorem aMd(h:E.B F (.fn 111 (.pr X i))=true)(e:E.I F n=E.I F i):E.B F (.fn 111 (.pr X n))=true:=by
 simp_all[GS]
theorem aMe(h:E.B F (.fn 113 (.pr m (.pr X (.pr i j))))=true)(e:E.I F n=E.I F i)(e':E.I F k=E.I F j):E.B F (.fn 113 (.pr m (.pr X (.pr n k))))=true:=by
 simp_all[zN]
theorem aFy(h0:0<=E.I F i):(aX (X.den F)).getD (E.I F i).toNat 0=E.I F (.fn 1 (.pr (.fn 1 (.pr X (.int 31))) i)):=by
 rw[gL];rfl
theorem tz:((aX (X.den F)).length:Int)=E.I F (.fn 0 (.fn 1 (.pr X (.int 31)))):=by
 show(((cX _ 31).toL.map _).length:Int)=_
 rw[List.length_map];rfl
theorem uz:((cS (X.den F):Nat):Int)=E.I F (.fn 9 (.pr (.fn 1 (.pr X (.int 32))) (.int 2))):=rfl
theorem oY(h0:0<=E.I F i)(c:Nat):blk (X.den F) (E.I F i).toNat c=E.I F (.fn 1 (.pr (.fn 1 (.pr X (.int 32))) (.fn 6 (.pr (.fn 8 (.pr i (.int 2))) (.int (Int.ofNat c)))))):=by
 exact(fJ (T:=.fn 1 (.pr X (.int 32))) i 2 c h0).symm
theorem aI0(h:E.B F (.fn 109 (.pr L (.pr X (.pr (.fn 1 (.pr X (.int 34))) (.int 2)))))=true):aN F L=gf (X.den F):=by
 rw[vD]at h
 rw[h];unfold gf cy
 have e:(E.I F (.fn 1 (.pr X (.int 34)))).toNat*4+(E.I F (.int 2)).toNat=4*(iX (X.den F) 34).toNat+2:=by
  have:E.I F (.fn 1 (.pr X (.int 34)))=iX (X.den F) 34:=rfl
  have:(E.I F (.int 2)).toNat=2:=rfl
  omega
 rw[e]
theorem aIU(h:E.B F (.fn 109 (.pr L (.pr X (.pr (.fn 7 (.pr (.int 1) (.fn 1 (.pr X (.int 34))))) (.int 2)))))=true)(h0:0<=E.I F (.fn 1 (.pr X (.int 34)))):aN F L=fC (X.den F):=by
 rw[vD]at h
 rw[h];unfold fC cy
 have e:(E.I F (.fn 7 (.pr (.int 1) (.fn 1 (.pr X (.int 34)))))).toNat*4+(E.I F (.int 2)).toNat=4*(1-(iX (X.den F) 34).toNat)+2:=by
  have e1:E.I F (.fn 7 (.pr (.int 1) (.fn 1 (.pr X (.int 34)))))=1-iX (X.den F) 34:=rfl;have e2:E.I F (.fn 1 (.pr X (.int 34)))=iX (X.den F) 34:=rfl
  have:(E.I F (.int 2)).toNat=2:=rfl
  omega
 rw[e]
/-- an attacker -/
theorem Gy(hp:E.B F (.fn 108 X)=true)(ha:0<=E.I F (.fn 1 (.pr X (.int 34))))(ha':E.I F (.fn 1 (.pr X (.int 34)))<=1)(hs:E.B F (.fn 113 (.pr m (.pr X (.pr i (.int 0)))))=true)(h:E.B F (.fn 111 (.pr X i))=true)
    (h0:0<=E.I F i)(hi:E.I F i<E.I F (.fn 0 (.fn 1 (.pr X (.int 31)))))(hL:E.B F (.fn 109 (.pr L (.pr X (.pr (.fn 1 (.pr X (.int 34))) (.int 2)))))=true)(hm:E.I F n=E.I F i+1):
    (E.B F (.fn 32 (.pr m (.pr (.fn 1 (.pr (.fn 1 (.pr X (.int 31))) i)) (.bool false))))=true->¬E.B F (.fn 110 X)=true)/\
    (¬E.B F (.fn 114 (.pr L (.fn 1 (.pr (.fn 1 (.pr X (.int 31))) i))))=true->¬E.B F (.fn 110 X)=true)/\
    (¬E.B F (.fn 32 (.pr m (.pr (.fn 1 (.pr (.fn 1 (.pr X (.int 31))) i)) (.bool false))))=true->E.B F (.fn 114 (.pr L (.fn 1 (.pr (.fn 1 (.pr X (.int 31))) i))))=true->E.B F (.fn 111 (.pr X n))=true/\
      E.B F (.fn 113 (.pr (.fn 34 (.pr m (.pr (.fn 1 (.pr (.fn 1 (.pr X (.int 31))) i)) (.bool true)))) (.pr X (.pr n (.int 0)))))=true):=by
  have hl:=aI0 hL
  rw[sg]at hp
  rw[<- tz]at hi
  have hi':(E.I F i).toNat<(aX (X.den F)).length:=by omega
  have e1:(E.I F n).toNat=(E.I F i).toNat+1:=by omega
  have ha2:cy (X.den F)<=1:=by
    have:E.I F (.fn 1 (.pr X (.int 34)))=iX (X.den F) 34:=rfl
    simp_all[cy]
  have z0:(E.I F (.int 0)).toNat=0:=rfl
  rw[OJ,si,GR,GS,zN,sK,hl,e1,z0,<- aFy (X:=X) h0]
  exact⟨fun hv=>aFC hs hi' hv,fun ho=>aFz hi' ho,fun hv ho=>⟨aFB h hp ha2 hs hi' hv ho,aFA hp ha2 hs hi' ho⟩⟩
/-- a block -/
theorem vr{nk:E}(hp:E.B F (.fn 108 X)=true)(ha:0<=E.I F (.fn 1 (.pr X (.int 34))))(ha':E.I F (.fn 1 (.pr X (.int 34)))<=1)(hs:E.B F (.fn 113 (.pr m (.pr X (.pr (.fn 0 (.fn 1 (.pr X (.int 31)))) j))))=true)(h:E.B F (.fn 111 (.pr X (.fn 0 (.fn 1 (.pr X (.int 31))))))=true)
    (hb:E.B F (.fn 112 (.pr X j))=true)(h0:0<=E.I F j)(hj:E.I F j<E.I F (.fn 9 (.pr (.fn 1 (.pr X (.int 32))) (.int 2))))(hL:E.B F (.fn 109 (.pr L (.pr X (.pr (.fn 7 (.pr (.int 1) (.fn 1 (.pr X (.int 34))))) (.int 2)))))=true)(hm:E.I F n=E.I F j+1)
    {t b:E}(et:t= .fn 1 (.pr (.fn 1 (.pr X (.int 32))) (.fn 6 (.pr (.fn 8 (.pr j (.int 2))) (.int 1)))))(eb:b= .fn 1 (.pr (.fn 1 (.pr X (.int 32))) (.fn 6 (.pr (.fn 8 (.pr j (.int 2))) (.int 0)))))
    (hk:1<=E.I F b->E.I F b<=500->E.I F nk= -(E.I F b)):
    (¬E.B F (.fn 32 (.pr m (.pr t (.bool false))))=true->¬E.B F (.fn 110 X)=true)/\
    (E.B F (.fn 32 (.pr m (.pr nk (.bool false))))=true->¬E.B F (.fn 110 X)=true)/\
    (¬E.B F (.fn 114 (.pr (.fn 1 (.pr X (.int 31))) t))=true->¬E.B F (.fn 110 X)=true)/\
    (¬E.B F (.fn 114 (.pr L b))=true->¬E.B F (.fn 110 X)=true)/\
    (E.B F (.fn 32 (.pr m (.pr t (.bool false))))=true->¬E.B F (.fn 32 (.pr m (.pr nk (.bool false))))=true->E.B F (.fn 114 (.pr (.fn 1 (.pr X (.int 31))) t))=true->E.B F (.fn 114 (.pr L b))=true->
      E.B F (.fn 112 (.pr X n))=true/\E.B F (.fn 113 (.pr (.fn 34 (.pr (.fn 34 (.pr m (.pr t (.bool false)))) (.pr nk (.bool true)))) (.pr X (.pr (.fn 0 (.fn 1 (.pr X (.int 31)))) n))))=true):=by
  subst et;subst eb;have hl:=aIU hL ha
  rw[sg]at hp
  rw[zN]at hs
  rw[GS]at h
  rw[<- uz]at hj
  have hj':(E.I F j).toNat<cS (X.den F):=by omega
  have e1:(E.I F n).toNat=(E.I F j).toNat+1:=by omega
  have ha2:cy (X.den F)<=1:=by
    have:E.I F (.fn 1 (.pr X (.int 34)))=iX (X.den F) 34:=rfl
    simp_all[cy]
  have el:(E.I F (.fn 0 (.fn 1 (.pr X (.int 31))))).toNat=(aX (X.den F)).length:=by grind[tz]
  have ea:aN F (.fn 1 (.pr X (.int 31)))=aX _:=rfl
  rw[el]at hs h
  have b0:=oY (X:=X) h0 0;have b1:=oY (X:=X) h0 1;have c0:(Int.ofNat 0)=0:=rfl;have c1:(Int.ofNat 1)=1:=rfl
  rw[c0]at b0
  rw[c1]at b1
  rw[<- b0]at hk
  rw[OJ,OJ,si,si,GR,ahU,zN,sK,sK,hl,e1,el,ea,<- b0,<- b1]
  exact⟨fun hv=>aFO hp ha2 h hs hj' hv,fun hv=>aFP hp hs hj' hk hv,fun hv=>aFQ hj' hv,fun hv=>aFR hj' hv,fun hv hn h1 h2=>aFT hp ha2 h hb hs hj' hv hk hn h1 h2⟩
theorem uA{b:E}(h:1<=E.I F b)(h':E.I F b<=500):E.I F (.ar .sub .i64 (.int 0) b)=-(E.I F b):=by
 have e:E.I F (.ar .sub _ (.int 0) b)=IntKind.i64.wrap (0-E.I F b):=rfl
 obtain⟨s,e,q,r⟩:=ab (0-E.I F b)
 omega
theorem aNa(h:E.B F (.fn 111 (.pr X (.fn 0 (.fn 1 (.pr X (.int 31))))))=true)(hb:E.B F (.fn 112 (.pr X j))=true)(h1:E.I F (.fn 9 (.pr (.fn 1 (.pr X (.int 32))) (.int 2)))=E.I F j):E.B F (.fn 110 X)=true:=by
 have el:(E.I F (.fn 0 (.fn 1 (.pr X (.int 31))))).toNat=(aX (X.den F)).length:=by grind[tz]
 grind[GS,ahU,uz,GR,o8]
/-! valid boards -/
theorem b9:(E.B F (.fn 115 X)=true)=(0<=E.I F (.fn 1 (.pr X (.int 34)))/\E.I F (.fn 1 (.pr X (.int 34)))<=1/\0<=E.I F (.fn 1 (.pr X (.int 33)))/\E.I F (.fn 1 (.pr X (.int 33)))<=1000/\0<=E.I F (.fn 1 (.pr X (.int 35)))/\E.I F (.fn 1 (.pr X (.int 35)))<=10/\-1<=E.I F (.fn 1 (.pr X (.int 36)))/\E.I F (.fn 1 (.pr X (.int 36)))<=1/\0<=E.I F (.fn 1 (.pr X (.int 37)))/\E.I F (.fn 1 (.pr X (.int 37)))<=2/\E.I F (.fn 9 (.pr (.fn 1 (.pr X (.int 0))) (.int 12)))<=500/\E.I F (.fn 9 (.pr (.fn 1 (.pr X (.int 29))) (.int 5)))<=200/\E.I F (.fn 9 (.pr (.fn 1 (.pr X (.int 30))) (.int 5)))<=200/\0<=E.I F (.fn 1 (.pr X (.int 1)))/\E.I F (.fn 1 (.pr X (.int 1)))<=9999/\0<=E.I F (.fn 1 (.pr X (.int 2)))/\E.I F (.fn 1 (.pr X (.int 2)))<=99/\0<=E.I F (.fn 1 (.pr X (.int 3)))/\E.I F (.fn 1 (.pr X (.int 3)))<=99/\0<=E.I F (.fn 1 (.pr X (.int 4)))/\E.I F (.fn 1 (.pr X (.int 4)))<=99/\0<=E.I F (.fn 1 (.pr X (.int 5)))/\E.I F (.fn 1 (.pr X (.int 5)))<=99/\0<=E.I F (.fn 1 (.pr X (.int 13)))/\E.I F (.fn 1 (.pr X (.int 13)))<=7/\0<=E.I F (.fn 1 (.pr X (.int 14)))/\E.I F (.fn 1 (.pr X (.int 14)))<=255/\0<=E.I F (.fn 1 (.pr X (.int 15)))/\E.I F (.fn 1 (.pr X (.int 15)))<=9999/\0<=E.I F (.fn 1 (.pr X (.int 16)))/\E.I F (.fn 1 (.pr X (.int 16)))<=99/\0<=E.I F (.fn 1 (.pr X (.int 17)))/\E.I F (.fn 1 (.pr X (.int 17)))<=99/\0<=E.I F (.fn 1 (.pr X (.int 18)))/\E.I F (.fn 1 (.pr X (.int 18)))<=99/\0<=E.I F (.fn 1 (.pr X (.int 19)))/\E.I F (.fn 1 (.pr X (.int 19)))<=99/\0<=E.I F (.fn 1 (.pr X (.int 27)))/\E.I F (.fn 1 (.pr X (.int 27)))<=7/\0<=E.I F (.fn 1 (.pr X (.int 28)))/\E.I F (.fn 1 (.pr X (.int 28)))<=255/\E.B F (.fn 103 (.pr (.fn 1 (.pr X (.int 29))) (.pr (.bool false) (.fn 9 (.pr (.fn 1 (.pr X (.int 29))) (.int 5))))))=true/\E.B F (.fn 103 (.pr (.fn 1 (.pr X (.int 30))) (.pr (.bool true) (.fn 9 (.pr (.fn 1 (.pr X (.int 30))) (.int 5))))))=true/\E.B F (.fn 108 X)=true/\E.B F (.fn 110 X)=true):=by
 show(sa _=true)=_
 have e34:E.I F (.fn 1 (.pr X (.int 34)))=iX (X.den F) 34:=rfl;have e33:E.I F (.fn 1 (.pr X (.int 33)))=iX (X.den F) 33:=rfl;have e35:E.I F (.fn 1 (.pr X (.int 35)))=iX (X.den F) 35:=rfl;have e36:E.I F (.fn 1 (.pr X (.int 36)))=iX (X.den F) 36:=rfl;have e37:E.I F (.fn 1 (.pr X (.int 37)))=iX (X.den F) 37:=rfl;have e1:E.I F (.fn 1 (.pr X (.int 1)))=iX (X.den F) 1:=rfl;have e2:E.I F (.fn 1 (.pr X (.int 2)))=iX (X.den F) 2:=rfl;have e3:E.I F (.fn 1 (.pr X (.int 3)))=iX (X.den F) 3:=rfl;have e4:E.I F (.fn 1 (.pr X (.int 4)))=iX (X.den F) 4:=rfl;have e5:E.I F (.fn 1 (.pr X (.int 5)))=iX (X.den F) 5:=rfl;have e13:E.I F (.fn 1 (.pr X (.int 13)))=iX (X.den F) 13:=rfl;have e14:E.I F (.fn 1 (.pr X (.int 14)))=iX (X.den F) 14:=rfl;have e15:E.I F (.fn 1 (.pr X (.int 15)))=iX (X.den F) 15:=rfl;have e16:E.I F (.fn 1 (.pr X (.int 16)))=iX (X.den F) 16:=rfl;have e17:E.I F (.fn 1 (.pr X (.int 17)))=iX (X.den F) 17:=rfl;have e18:E.I F (.fn 1 (.pr X (.int 18)))=iX (X.den F) 18:=rfl;have e19:E.I F (.fn 1 (.pr X (.int 19)))=iX (X.den F) 19:=rfl;have e27:E.I F (.fn 1 (.pr X (.int 27)))=iX (X.den F) 27:=rfl;have e28:E.I F (.fn 1 (.pr X (.int 28)))=iX (X.den F) 28:=rfl;have q0:E.I F (.fn 9 (.pr (.fn 1 (.pr X (.int 0))) (.int 12)))=aT (X.den F):=rfl;have q29:E.I F (.fn 9 (.pr (.fn 1 (.pr X (.int 29))) (.int 5)))=cD (X.den F):=rfl;have q30:E.I F (.fn 9 (.pr (.fn 1 (.pr X (.int 30))) (.int 5)))=((cX (X.den F) 30).toL.length/5:Nat):=rfl;have l29:E.L F (.fn 1 (.pr X (.int 29)))=(cX (X.den F) 29).toL:=rfl;have l30:E.L F (.fn 1 (.pr X (.int 30)))=(cX (X.den F) 30).toL:=rfl;have bt:E.B F (.bool _)=true:=rfl;have bf:E.B F (.bool _)=false:=rfl;have za:(E.B F (.fn 108 X)=true)=(dr _=true):=rfl;have zb:(E.B F (.fn 110 X)=true)=(gW _=true):=rfl
 rw[za,zb,sf,sf,l29,l30,bt,bf,q29,q30,q0,e34,e33,e35,e36,e37,e1,e2,e3,e4,e5,e13,e14,e15,e16,e17,e18,e19,e27,e28,Int.toNat_natCast,Int.toNat_natCast]
 unfold sa uD rX uc;simp only[Bool.and_eq_true,jG,List.all_cons];grind
theorem cq:(E.B F (.fn 130 X)=true)=(0<=E.I F (.fn 1 (.pr X (.int 34)))/\E.I F (.fn 1 (.pr X (.int 34)))<=1/\0<=E.I F (.fn 1 (.pr X (.int 33)))/\E.I F (.fn 1 (.pr X (.int 33)))<=1000/\0<=E.I F (.fn 1 (.pr X (.int 35)))/\E.I F (.fn 1 (.pr X (.int 35)))<=10/\-1<=E.I F (.fn 1 (.pr X (.int 36)))/\E.I F (.fn 1 (.pr X (.int 36)))<=1/\0<=E.I F (.fn 1 (.pr X (.int 37)))/\E.I F (.fn 1 (.pr X (.int 37)))<=2/\E.I F (.fn 9 (.pr (.fn 1 (.pr X (.int 0))) (.int 12)))<=500/\E.I F (.fn 9 (.pr (.fn 1 (.pr X (.int 29))) (.int 5)))<=200/\E.I F (.fn 9 (.pr (.fn 1 (.pr X (.int 30))) (.int 5)))<=200/\0<=E.I F (.fn 1 (.pr X (.int 1)))/\E.I F (.fn 1 (.pr X (.int 1)))<=9999/\0<=E.I F (.fn 1 (.pr X (.int 2)))/\E.I F (.fn 1 (.pr X (.int 2)))<=99/\0<=E.I F (.fn 1 (.pr X (.int 3)))/\E.I F (.fn 1 (.pr X (.int 3)))<=99/\0<=E.I F (.fn 1 (.pr X (.int 4)))/\E.I F (.fn 1 (.pr X (.int 4)))<=99/\0<=E.I F (.fn 1 (.pr X (.int 5)))/\E.I F (.fn 1 (.pr X (.int 5)))<=99/\0<=E.I F (.fn 1 (.pr X (.int 13)))/\E.I F (.fn 1 (.pr X (.int 13)))<=7/\0<=E.I F (.fn 1 (.pr X (.int 14)))/\E.I F (.fn 1 (.pr X (.int 14)))<=255/\0<=E.I F (.fn 1 (.pr X (.int 15)))/\E.I F (.fn 1 (.pr X (.int 15)))<=9999/\0<=E.I F (.fn 1 (.pr X (.int 16)))/\E.I F (.fn 1 (.pr X (.int 16)))<=99/\0<=E.I F (.fn 1 (.pr X (.int 17)))/\E.I F (.fn 1 (.pr X (.int 17)))<=99/\0<=E.I F (.fn 1 (.pr X (.int 18)))/\E.I F (.fn 1 (.pr X (.int 18)))<=99/\0<=E.I F (.fn 1 (.pr X (.int 19)))/\E.I F (.fn 1 (.pr X (.int 19)))<=99/\0<=E.I F (.fn 1 (.pr X (.int 27)))/\E.I F (.fn 1 (.pr X (.int 27)))<=7/\0<=E.I F (.fn 1 (.pr X (.int 28)))/\E.I F (.fn 1 (.pr X (.int 28)))<=255/\E.B F (.fn 103 (.pr (.fn 1 (.pr X (.int 29))) (.pr (.bool false) (.fn 9 (.pr (.fn 1 (.pr X (.int 29))) (.int 5))))))=true/\E.B F (.fn 103 (.pr (.fn 1 (.pr X (.int 30))) (.pr (.bool true) (.fn 9 (.pr (.fn 1 (.pr X (.int 30))) (.int 5))))))=true/\E.B F (.fn 125 X)=true/\E.B F (.fn 129 X)=true):=by
 show(sb _=true)=_
 have e34:E.I F (.fn 1 (.pr X (.int 34)))=iX (X.den F) 34:=rfl;have e33:E.I F (.fn 1 (.pr X (.int 33)))=iX (X.den F) 33:=rfl;have e35:E.I F (.fn 1 (.pr X (.int 35)))=iX (X.den F) 35:=rfl;have e36:E.I F (.fn 1 (.pr X (.int 36)))=iX (X.den F) 36:=rfl;have e37:E.I F (.fn 1 (.pr X (.int 37)))=iX (X.den F) 37:=rfl;have e1:E.I F (.fn 1 (.pr X (.int 1)))=iX (X.den F) 1:=rfl;have e2:E.I F (.fn 1 (.pr X (.int 2)))=iX (X.den F) 2:=rfl;have e3:E.I F (.fn 1 (.pr X (.int 3)))=iX (X.den F) 3:=rfl;have e4:E.I F (.fn 1 (.pr X (.int 4)))=iX (X.den F) 4:=rfl;have e5:E.I F (.fn 1 (.pr X (.int 5)))=iX (X.den F) 5:=rfl;have e13:E.I F (.fn 1 (.pr X (.int 13)))=iX (X.den F) 13:=rfl;have e14:E.I F (.fn 1 (.pr X (.int 14)))=iX (X.den F) 14:=rfl;have e15:E.I F (.fn 1 (.pr X (.int 15)))=iX (X.den F) 15:=rfl;have e16:E.I F (.fn 1 (.pr X (.int 16)))=iX (X.den F) 16:=rfl;have e17:E.I F (.fn 1 (.pr X (.int 17)))=iX (X.den F) 17:=rfl;have e18:E.I F (.fn 1 (.pr X (.int 18)))=iX (X.den F) 18:=rfl;have e19:E.I F (.fn 1 (.pr X (.int 19)))=iX (X.den F) 19:=rfl;have e27:E.I F (.fn 1 (.pr X (.int 27)))=iX (X.den F) 27:=rfl;have e28:E.I F (.fn 1 (.pr X (.int 28)))=iX (X.den F) 28:=rfl;have q0:E.I F (.fn 9 (.pr (.fn 1 (.pr X (.int 0))) (.int 12)))=aT (X.den F):=rfl;have q29:E.I F (.fn 9 (.pr (.fn 1 (.pr X (.int 29))) (.int 5)))=cD (X.den F):=rfl;have q30:E.I F (.fn 9 (.pr (.fn 1 (.pr X (.int 30))) (.int 5)))=((cX (X.den F) 30).toL.length/5:Nat):=rfl;have l29:E.L F (.fn 1 (.pr X (.int 29)))=(cX (X.den F) 29).toL:=rfl;have l30:E.L F (.fn 1 (.pr X (.int 30)))=(cX (X.den F) 30).toL:=rfl;have bt:E.B F (.bool _)=true:=rfl;have bf:E.B F (.bool _)=false:=rfl;have za:(E.B F (.fn 125 X)=true)=(rm _=true):=rfl;have zb:(E.B F (.fn 129 X)=true)=(ri _=true):=rfl
 rw[za,zb,sf,sf,l29,l30,bt,bf,q29,q30,q0,e34,e33,e35,e36,e37,e1,e2,e3,e4,e5,e13,e14,e15,e16,e17,e18,e19,e27,e28,Int.toNat_natCast,Int.toNat_natCast]
 unfold sb uD rX uc;simp only[Bool.and_eq_true,jG,List.all_cons];grind
end
end Go.SX

set_option linter.unusedVariables false
set_option linter.unusedSimpArgs false
namespace Go.SX
/-! ### all objects in just one place: the program's way -/
theorem agC(X:U)(s:Nat):iH X (s+1)=iH X s++if nI (cX X 29).toL (s*5+3)<0 then [(nI (cX X 29).toL (s*5+1),nI (cX X 29).toL (s*5))] else []:=by
 grind[iH,F9]
theorem aLO(X:U)(s:Nat):ic X (s+1)=ic X s++if nI (cX X 29).toL (s*5+3)<0 then [(nI (cX X 29).toL (s*5+1),nI (cX X 29).toL (s*5+2))] else []:=by
 grind[ic,F9]
theorem NF(X:U)(s:Nat):(ic X s).map Prod.fst=(iH X s).map Prod.fst:=by
 simp_all[ic,iH]
theorem aLQ(X:U):iH X 0=[]:=by rfl
theorem EE{m:List U}{l:List (Int×Int)}(h:g9 m l=true)(k:Int):(db k m).isSome=true↔k∈l.map Prod.fst:=by
 simp_all[yN,Mr]
section
variable {F:Env} {x y l A a b k u i j p q n m r o c d w v X T N L L2 mc s p' q' i':E}
theorem zQ:E.B F (.fn 33 (.pr m k))=(db (E.I F k) (E.L F m)).isSome:=rfl
theorem GQ:(E.B F (.fn 104 (.pr m (.pr X (.pr p (.pr q i)))))=true)=(g9 (E.L F m) (eW (X.den F) ((E.I F p).toNat*4+(E.I F q).toNat) (E.I F i).toNat)=true):=rfl
theorem vC:(E.B F (.fn 105 (.pr m (.pr X s)))=true)=(g9 (E.L F m) (eW (X.den F) 8 0++iH (X.den F) (E.I F s).toNat)=true):=rfl
theorem zM:(E.B F (.fn 106 (.pr m (.pr X s)))=true)=(g9 (E.L F m) (ic (X.den F) (E.I F s).toNat)=true):=rfl
theorem Ox:(E.B F (.fn 107 (.pr X n))=true)=(uF (X.den F) (E.I F n).toNat=true):=rfl
theorem agM(h:E.B F (.fn 104 (.pr m (.pr X (.pr p (.pr q i)))))=true)(h1:0<=E.I F p)(h2:0<=E.I F q)(h3:0<=E.I F p')(h4:0<=E.I F q')(hk:E.I F p'*4+E.I F q'=E.I F p*4+E.I F q)(hi:E.I F i'=E.I F i):
  E.B F (.fn 104 (.pr m (.pr X (.pr p' (.pr q' i')))))=true:=by
 grind[GQ]
theorem aL9(h:E.B F (.fn 104 (.pr m (.pr X (.pr p (.pr q i)))))=true)(hL:E.B F (.fn 109 (.pr L (.pr X (.pr p q))))=true)(h2:0<=E.I F q)(hi:E.I F i=E.I F (.fn 0 L))(hq:E.I F q'=E.I F q+1)(hz:E.I F i'=0):
  E.B F (.fn 104 (.pr m (.pr X (.pr p (.pr q' i')))))=true:=by
 grind[GQ,vD,b8,aI6]
theorem Gk(h:E.B F (.fn 104 (.pr m (.pr X (.pr p (.pr q i)))))=true)(hL:E.B F (.fn 109 (.pr L (.pr X (.pr p q))))=true)(h0:0<=E.I F p)(h1:0<=E.I F q)(h2:E.I F q<4)(hi:0<=E.I F i)(hi':E.I F i<E.I F (.fn 0 L))(hn:E.I F n=E.I F i+1)(hp:E.I F p<=1):
  (¬E.B F (.fn 33 (.pr m (.fn 1 (.pr L i))))=true->E.B F (.fn 104 (.pr (.fn 34 (.pr m (.pr (.fn 1 (.pr L i)) p))) (.pr X (.pr p (.pr q n)))))=true)/\
  (E.B F (.fn 33 (.pr m (.fn 1 (.pr L i))))=true->¬E.B F (.fn 108 X)=true):=by
 rw[GQ]at *
 rw[vD]at hL
 have ei:(E.I F n).toNat=(E.I F i).toNat+1:=by omega
 have hlt:(E.I F i).toNat<(aY (X.den F) ((E.I F p).toNat*4+(E.I F q).toNat)).length:=by grind[b8]
 have ek:((E.I F p).toNat*4+(E.I F q).toNat)/4=(E.I F p).toNat:=by omega
 have hs:=aI7 _ _ _ hlt
 rw[ek,<- hL,<- gL,Int.toNat_of_nonneg h0]at hs
 refine⟨fun hn'=>?_,fun ht=>?_⟩
 ·rw[ei,sK,hs]
  exact Mp h hn'
 ·rw[zQ,EE h]at ht
  rw[sg]
  refine aeL (k:=E.I F _) (v:=E.I F p) ?_ ht
  have:=FB (X.den F) ((E.I F p).toNat*4+(E.I F q).toNat) ((E.I F i).toNat+1) (by omega)
  simp_all
theorem aMb(h:E.B F (.fn 104 (.pr m (.pr X (.pr p (.pr q i)))))=true)(h1:E.I F p=2)(h2:E.I F q=0)(h3:E.I F i=0)(hs:E.I F s=0):E.B F (.fn 105 (.pr m (.pr X s)))=true:=by
 rw[GQ,h1,h2,h3]at h
 rw[vC,hs]
 have e:(0:Int).toNat=0:=rfl
 rw[e,aLQ,List.append_nil];exact h
theorem aMa(h:E.B F (.fn 105 (.pr m (.pr X s)))=true)(e:E.I F n=E.I F s):E.B F (.fn 105 (.pr m (.pr X n)))=true:=by
 simp_all[vC]
theorem aMc(h:E.B F (.fn 106 (.pr m (.pr X s)))=true)(e:E.I F n=E.I F s):E.B F (.fn 106 (.pr m (.pr X n)))=true:=by
 simp_all[zM]
theorem kV(h0:0<=E.I F s)(c:Nat):nI (cX (X.den F) 29).toL ((E.I F s).toNat*5+c)=E.I F (.fn 1 (.pr (.fn 1 (.pr X (.int 29))) (.fn 6 (.pr (.fn 8 (.pr s (.int 5))) (.int (Int.ofNat c)))))):=
 (fJ (T:=.fn 1 (.pr X (.int 29))) s 5 c h0).symm
theorem zF(h:E.B F (.fn 105 (.pr m (.pr X s)))=true)(h':E.B F (.fn 106 (.pr mc (.pr X s)))=true)(h0:0<=E.I F s)(h1:E.I F s<E.I F (.fn 9 (.pr (.fn 1 (.pr X (.int 29))) (.int 5))))(hn:E.I F n=E.I F s+1)
  {pl id cd tr:E}(e0:pl=.fn 1 (.pr (.fn 1 (.pr X (.int 29))) (.fn 6 (.pr (.fn 8 (.pr s (.int 5))) (.int 0)))))(e1:id=.fn 1 (.pr (.fn 1 (.pr X (.int 29))) (.fn 6 (.pr (.fn 8 (.pr s (.int 5))) (.int 1)))))
  (e2:cd=.fn 1 (.pr (.fn 1 (.pr X (.int 29))) (.fn 6 (.pr (.fn 8 (.pr s (.int 5))) (.int 2)))))(e3:tr=.fn 1 (.pr (.fn 1 (.pr X (.int 29))) (.fn 6 (.pr (.fn 8 (.pr s (.int 5))) (.int 3))))):
  (¬E.I F tr<0->E.B F (.fn 105 (.pr m (.pr X n)))=true/\E.B F (.fn 106 (.pr mc (.pr X n)))=true)/\
  (E.I F tr<0->E.B F (.fn 33 (.pr m id))=true->¬E.B F (.fn 108 X)=true)/\
  (E.I F tr<0->¬E.B F (.fn 33 (.pr m id))=true->E.B F (.fn 105 (.pr (.fn 34 (.pr m (.pr id pl))) (.pr X n)))=true/\E.B F (.fn 106 (.pr (.fn 34 (.pr mc (.pr id cd))) (.pr X n)))=true):=by
 subst e0;subst e1;subst e2;subst e3
 rw[vC]at h
 rw[zM]at h'
 have hs:(E.I F s).toNat<cD (X.den F):=by
  have:E.I F (.fn 9 (.pr (.fn 1 (.pr X (.int 29))) (.int 5)))=cD (X.den F):=rfl
  omega
 have en:(E.I F n).toNat=(E.I F s).toNat+1:=by omega
 have c0:=kV (X:=X) h0 0;have c1:=kV (X:=X) h0 1;have c2:=kV (X:=X) h0 2;have c3:=kV (X:=X) h0 3;simp only[Nat.add_zero]at c0;have k3:(Int.ofNat 3)=3:=rfl
 rw[k3]at c3
 have sp:=agC (X.den F) (E.I F s).toNat;have sc:=aLO (X.den F) (E.I F s).toNat
 rw[c0,c1,c3]at sp
 rw[c1,c2,c3]at sc
 refine⟨fun ht=>?_,fun ht hb=>?_,fun ht hb=>?_⟩
 ·simp_all[vC,zM]
 ·rw[zQ,EE h]at hb
  rw[sg]
  refine aeL (k:=E.I F _) (v:=E.I F (.fn 1 (.pr (.fn 1 (.pr X (.int 29))) (.fn 6 (.pr (.fn 8 (.pr s (.int 5))) (.int 0)))))) ?_ hb;grind[aLP]
 ·rw[if_pos ht]at sp sc
  rw[zQ]at hb
  rw[vC,zM,en,sp,sc,sK,sK,<- List.append_assoc]
  refine⟨Mp h hb,Mp h' ?_⟩
  rw[EE h,List.map_append,List.mem_append]at hb
  grind[EE,NF]
theorem ez(h0:0<=E.I F i)(c:Nat):oI (X.den F) (E.I F i).toNat c=E.I F (.fn 1 (.pr (.fn 1 (.pr X (.int 0))) (.fn 6 (.pr (.fn 8 (.pr i (.int 12))) (.int (Int.ofNat c)))))):=
 (fJ (T:=.fn 1 (.pr X (.int 0))) i 12 c h0).symm
theorem ac6{l:List (Int×Int)}(h:g9 (E.L F m) l=true)(hb:E.B F (.fn 33 (.pr m k))=true):fy l (E.I F k)=some (E.I F (.fn 32 (.pr m (.pr k (.int 0))))):=by
 rw[yN]at h
 rw[zQ]at hb
 rw[<- h.1,<- EG]
 have e:E.I F (.fn 32 (.pr m (.pr k (.int 0))))=((db (E.I F k) (E.L F m)).getD _).toI:=rfl
 rw[e]
 cases hc:db _ _ with
 |none=>simp_all
 |some v=>rfl
theorem ac7{l:List (Int×Int)}(h:g9 (E.L F m) l=true)(hb:¬E.B F (.fn 33 (.pr m k))=true):fy l (E.I F k)=none:=by
 rw[yN]at h
 rw[zQ]at hb
 rw[<- h.1,<- EG]
 simp_all
theorem uR{Y:U}(h:dr Y=true):uF Y (aT Y)=true:=by
 simp_all[dr]
/-- an object -/
theorem aNe(hm:E.B F (.fn 105 (.pr m (.pr X (.fn 9 (.pr (.fn 1 (.pr X (.int 29))) (.int 5))))))=true)(hc:E.B F (.fn 106 (.pr mc (.pr X (.fn 9 (.pr (.fn 1 (.pr X (.int 29))) (.int 5))))))=true)(h:E.B F (.fn 107 (.pr X i))=true)
    (h0:0<=E.I F i)(hi:E.I F i<E.I F (.fn 9 (.pr (.fn 1 (.pr X (.int 0))) (.int 12))))(hn:E.I F n=E.I F i+1){t:E}(ht:0<E.I F i->E.I F t=E.I F i-1){C:Prop}{f:Nat->E}(hf:f=fun j=> .fn 1 (.pr (.fn 1 (.pr X (.int 0))) (.fn 6 (.pr (.fn 8 (.pr i (.int 12))) (.int (Int.ofNat j))))))
    (hC:C↔(1<=E.I F (f 0)/\E.I F (f 0)<=500/\ -1<=E.I F (f 1)/\E.I F (f 1)<=399/\0<=E.I F (f 2)/\E.I F (f 2)<=1/\(E.I F (f 1)= -1\/(E.I F (f 3)=0/\E.I F (f 4)=0))/\
      0<=E.I F (f 3)/\E.I F (f 3)<=99/\0<=E.I F (f 4)/\E.I F (f 4)<=99/\0<=E.I F (f 5)/\E.I F (f 5)<=99/\0<=E.I F (f 6)/\E.I F (f 6)<=99/\0<=E.I F (f 7)/\E.I F (f 7)<=99/\0<=E.I F (f 8)/\E.I F (f 8)<=99)/\
      (E.I F i=0\/E.I F (.fn 1 (.pr (.fn 1 (.pr X (.int 0))) (.fn 6 (.pr (.fn 8 (.pr t (.int 12))) (.int 0)))))<E.I F (f 0))/\
      (E.B F (.fn 33 (.pr m (f 0)))=true/\E.I F (.fn 32 (.pr m (.pr (f 0) (.int 0))))=E.I F (f 2))/\(E.B F (.fn 33 (.pr mc (f 0)))=true->E.I F (.fn 32 (.pr mc (.pr (f 0) (.int 0))))=E.I F (f 1))):
    (C->E.B F (.fn 107 (.pr X n))=true)/\(¬C->¬E.B F (.fn 108 X)=true):=by
  rw[vC]at hm
  rw[zM]at hc
  have es:(E.I F (.fn 9 (.pr (.fn 1 (.pr X (.int 29))) (.int 5)))).toNat=cD (X.den F):=rfl
  rw[es]at hm hc
  have hall:g9 (E.L F m) (c9 (X.den F))=true:=hm;have hi':(E.I F i).toNat<aT (X.den F):=by
    have:E.I F (.fn 9 (.pr (.fn 1 (.pr X (.int 0))) (.int 12)))=((aT (X.den F):Nat):Int):=rfl
    omega
  have fc:∀j,E.I F (f j)=oI (X.den F) (E.I F i).toNat j:=by
    simp_all[ez]
  have hprev:(E.I F i=0\/E.I F (.fn 1 (.pr (.fn 1 (.pr X (.int 0))) (.fn 6 (.pr (.fn 8 (.pr t (.int 12))) (.int 0)))))<E.I F (f 0))↔((E.I F i).toNat=0\/oI (X.den F) ((E.I F i).toNat-1) 0<oI (X.den F) (E.I F i).toNat 0):=by
    by_cases hz:E.I F i=0
    · omega
    · have ht':=ht (by omega);have e:=ez (X:=X) (i:=t) (F:=F) (by omega) 0;grind
  have hown:(E.B F (.fn 33 (.pr m (f 0)))=true/\E.I F (.fn 32 (.pr m (.pr (f 0) (.int 0))))=E.I F (f 2))↔fy (c9 (X.den F)) (oI (X.den F) (E.I F i).toNat 0)=some (oI (X.den F) (E.I F i).toNat 2):=by
    grind[E.B,ac6,ac7]
  have hcard:(E.B F (.fn 33 (.pr mc (f 0)))=true->E.I F (.fn 32 (.pr mc (.pr (f 0) (.int 0))))=E.I F (f 1))↔(∀c,fy (ic (X.den F) (cD (X.den F))) (oI (X.den F) (E.I F i).toNat 0)=some c->c=oI (X.den F) (E.I F i).toNat 1):=by
    grind[E.B,ac6,ac7]
  have key:C↔(rJ (X.den F) (E.I F i).toNat=true/\((E.I F i).toNat=0\/oI (X.den F) ((E.I F i).toNat-1) 0<oI (X.den F) (E.I F i).toNat 0)/\fy (c9 (X.den F)) (oI (X.den F) (E.I F i).toNat 0)=some (oI (X.den F) (E.I F i).toNat 2)/\(∀c,fy (ic (X.den F) (cD (X.den F))) (oI (X.den F) (E.I F i).toNat 0)=some c->c=oI (X.den F) (E.I F i).toNat 1)):=by
    grind[py]
  rw[Ox,kN]at h
  refine⟨fun hc'=>?_,fun hc' hp=>?_⟩
  · rw[Ox,kN]
    intro k hk;by_cases e:k=(E.I F i).toNat
    · grind
    · exact h k (by omega)
  grind[sg,kN,uR]
theorem aNf(hm:E.B F (.fn 105 (.pr m (.pr X (.fn 9 (.pr (.fn 1 (.pr X (.int 29))) (.int 5))))))=true)(hc:E.B F (.fn 106 (.pr mc (.pr X (.fn 9 (.pr (.fn 1 (.pr X (.int 29))) (.int 5))))))=true)(h:E.B F (.fn 107 (.pr X i))=true)
  {t a0 a1 a2 a3 a4 a5 a6 a7 a8:E}(e0:a0=.fn 1 (.pr (.fn 1 (.pr X (.int 0))) (.fn 6 (.pr (.fn 8 (.pr i (.int 12))) (.int 0)))))(e1:a1=.fn 1 (.pr (.fn 1 (.pr X (.int 0))) (.fn 6 (.pr (.fn 8 (.pr i (.int 12))) (.int 1)))))(e2:a2=.fn 1 (.pr (.fn 1 (.pr X (.int 0))) (.fn 6 (.pr (.fn 8 (.pr i (.int 12))) (.int 2)))))(e3:a3=.fn 1 (.pr (.fn 1 (.pr X (.int 0))) (.fn 6 (.pr (.fn 8 (.pr i (.int 12))) (.int 3)))))(e4:a4=.fn 1 (.pr (.fn 1 (.pr X (.int 0))) (.fn 6 (.pr (.fn 8 (.pr i (.int 12))) (.int 4)))))(e5:a5=.fn 1 (.pr (.fn 1 (.pr X (.int 0))) (.fn 6 (.pr (.fn 8 (.pr i (.int 12))) (.int 5)))))(e6:a6=.fn 1 (.pr (.fn 1 (.pr X (.int 0))) (.fn 6 (.pr (.fn 8 (.pr i (.int 12))) (.int 6)))))(e7:a7=.fn 1 (.pr (.fn 1 (.pr X (.int 0))) (.fn 6 (.pr (.fn 8 (.pr i (.int 12))) (.int 7)))))(e8:a8=.fn 1 (.pr (.fn 1 (.pr X (.int 0))) (.fn 6 (.pr (.fn 8 (.pr i (.int 12))) (.int 8)))))
  (h0:0<=E.I F i)(hi:E.I F i<E.I F (.fn 9 (.pr (.fn 1 (.pr X (.int 0))) (.int 12))))(hn:E.I F n=E.I F i+1)(ht:0<E.I F i->E.I F t=E.I F i-1):
  (((1<=E.I F a0/\E.I F a0<=500/\-1<=E.I F a1/\E.I F a1<=399/\0<=E.I F a2/\E.I F a2<=1/\(E.I F a1=-1\/(E.I F a3=0/\E.I F a4=0))/\0<=E.I F a3/\E.I F a3<=99/\0<=E.I F a4/\E.I F a4<=99/\0<=E.I F a5/\E.I F a5<=99/\0<=E.I F a6/\E.I F a6<=99/\0<=E.I F a7/\E.I F a7<=99/\0<=E.I F a8/\E.I F a8<=99)/\(E.I F i=0\/E.I F (.fn 1 (.pr (.fn 1 (.pr X (.int 0))) (.fn 6 (.pr (.fn 8 (.pr t (.int 12))) (.int 0)))))<E.I F a0)/\(E.B F (.fn 33 (.pr m a0))=true/\E.I F (.fn 32 (.pr m (.pr a0 (.int 0))))=E.I F a2)/\(E.B F (.fn 33 (.pr mc a0))=true->E.I F (.fn 32 (.pr mc (.pr a0 (.int 0))))=E.I F a1))->E.B F (.fn 107 (.pr X n))=true)/\(¬((1<=E.I F a0/\E.I F a0<=500/\-1<=E.I F a1/\E.I F a1<=399/\0<=E.I F a2/\E.I F a2<=1/\(E.I F a1=-1\/(E.I F a3=0/\E.I F a4=0))/\0<=E.I F a3/\E.I F a3<=99/\0<=E.I F a4/\E.I F a4<=99/\0<=E.I F a5/\E.I F a5<=99/\0<=E.I F a6/\E.I F a6<=99/\0<=E.I F a7/\E.I F a7<=99/\0<=E.I F a8/\E.I F a8<=99)/\(E.I F i=0\/E.I F (.fn 1 (.pr (.fn 1 (.pr X (.int 0))) (.fn 6 (.pr (.fn 8 (.pr t (.int 12))) (.int 0)))))<E.I F a0)/\(E.B F (.fn 33 (.pr m a0))=true/\E.I F (.fn 32 (.pr m (.pr a0 (.int 0))))=E.I F a2)/\(E.B F (.fn 33 (.pr mc a0))=true->E.I F (.fn 32 (.pr mc (.pr a0 (.int 0))))=E.I F a1))->¬E.B F (.fn 108 X)=true):=by
 subst e0;subst e1;subst e2;subst e3;subst e4;subst e5;subst e6;subst e7;subst e8;exact aNe hm hc h h0 hi hn ht (f:=fun j=>.fn 1 _) rfl Iff.rfl
theorem cz{a0 a1 a2 a3 a4 a5 a6 a7 a8:E}:(E.B F (.fn 137 (.pr a0 (.pr a1 (.pr a2 (.pr a3 (.pr a4 (.pr a5 (.pr a6 (.pr a7 a8)))))))))=true)=(1<=E.I F a0/\E.I F a0<=500/\-1<=E.I F a1/\E.I F a1<=399/\0<=E.I F a2/\E.I F a2<=1/\(E.I F a1=-1\/(E.I F a3=0/\E.I F a4=0))/\0<=E.I F a3/\E.I F a3<=99/\0<=E.I F a4/\E.I F a4<=99/\0<=E.I F a5/\E.I F a5<=99/\0<=E.I F a6/\E.I F a6<=99/\0<=E.I F a7/\E.I F a7<=99/\0<=E.I F a8/\E.I F a8<=99):=by
 show(MG (E.I F a0) (E.I F a1) (E.I F a2) (E.I F a3) (E.I F a4) (E.I F a5) (E.I F a6) (E.I F a7) (E.I F a8)=true)=_
 unfold MG;simp only[List.all_cons,List.all_nil,Bool.and_eq_true,Bool.or_eq_true,jG,beq_iff_eq,and_assoc,and_true]
theorem jO(hm:E.B F (.fn 105 (.pr m (.pr X (.fn 9 (.pr (.fn 1 (.pr X (.int 29))) (.int 5))))))=true)(hc:E.B F (.fn 106 (.pr mc (.pr X (.fn 9 (.pr (.fn 1 (.pr X (.int 29))) (.int 5))))))=true)(h:E.B F (.fn 107 (.pr X i))=true)
  {t a0 a1 a2 a3 a4 a5 a6 a7 a8:E}(e0:a0=.fn 1 (.pr (.fn 1 (.pr X (.int 0))) (.fn 6 (.pr (.fn 8 (.pr i (.int 12))) (.int 0)))))(e1:a1=.fn 1 (.pr (.fn 1 (.pr X (.int 0))) (.fn 6 (.pr (.fn 8 (.pr i (.int 12))) (.int 1)))))(e2:a2=.fn 1 (.pr (.fn 1 (.pr X (.int 0))) (.fn 6 (.pr (.fn 8 (.pr i (.int 12))) (.int 2)))))(e3:a3=.fn 1 (.pr (.fn 1 (.pr X (.int 0))) (.fn 6 (.pr (.fn 8 (.pr i (.int 12))) (.int 3)))))(e4:a4=.fn 1 (.pr (.fn 1 (.pr X (.int 0))) (.fn 6 (.pr (.fn 8 (.pr i (.int 12))) (.int 4)))))(e5:a5=.fn 1 (.pr (.fn 1 (.pr X (.int 0))) (.fn 6 (.pr (.fn 8 (.pr i (.int 12))) (.int 5)))))(e6:a6=.fn 1 (.pr (.fn 1 (.pr X (.int 0))) (.fn 6 (.pr (.fn 8 (.pr i (.int 12))) (.int 6)))))(e7:a7=.fn 1 (.pr (.fn 1 (.pr X (.int 0))) (.fn 6 (.pr (.fn 8 (.pr i (.int 12))) (.int 7)))))(e8:a8=.fn 1 (.pr (.fn 1 (.pr X (.int 0))) (.fn 6 (.pr (.fn 8 (.pr i (.int 12))) (.int 8)))))
  (h0:0<=E.I F i)(hi:E.I F i<E.I F (.fn 9 (.pr (.fn 1 (.pr X (.int 0))) (.int 12))))(hn:E.I F n=E.I F i+1)(ht:0<E.I F i->E.I F t=E.I F i-1):
  (((E.B F (.fn 137 (.pr a0 (.pr a1 (.pr a2 (.pr a3 (.pr a4 (.pr a5 (.pr a6 (.pr a7 a8)))))))))=true)/\(E.I F i=0\/E.I F (.fn 1 (.pr (.fn 1 (.pr X (.int 0))) (.fn 6 (.pr (.fn 8 (.pr t (.int 12))) (.int 0)))))<E.I F a0)/\(E.B F (.fn 33 (.pr m a0))=true/\E.I F (.fn 32 (.pr m (.pr a0 (.int 0))))=E.I F a2)/\(E.B F (.fn 33 (.pr mc a0))=true->E.I F (.fn 32 (.pr mc (.pr a0 (.int 0))))=E.I F a1))->E.B F (.fn 107 (.pr X n))=true)/\(¬((E.B F (.fn 137 (.pr a0 (.pr a1 (.pr a2 (.pr a3 (.pr a4 (.pr a5 (.pr a6 (.pr a7 a8)))))))))=true)/\(E.I F i=0\/E.I F (.fn 1 (.pr (.fn 1 (.pr X (.int 0))) (.fn 6 (.pr (.fn 8 (.pr t (.int 12))) (.int 0)))))<E.I F a0)/\(E.B F (.fn 33 (.pr m a0))=true/\E.I F (.fn 32 (.pr m (.pr a0 (.int 0))))=E.I F a2)/\(E.B F (.fn 33 (.pr mc a0))=true->E.I F (.fn 32 (.pr mc (.pr a0 (.int 0))))=E.I F a1))->¬E.B F (.fn 108 X)=true):=by
 rw[cz]
 exact aNf hm hc h e0 e1 e2 e3 e4 e5 e6 e7 e8 h0 hi hn ht
theorem aNg(hm:E.B F (.fn 105 (.pr m (.pr X (.fn 9 (.pr (.fn 1 (.pr X (.int 29))) (.int 5))))))=true)(h:E.B F (.fn 107 (.pr X i))=true)(hi:E.I F (.fn 9 (.pr (.fn 1 (.pr X (.int 0))) (.int 12)))=E.I F i):
  (E.I F (.fn 0 m)=E.I F (.fn 9 (.pr (.fn 1 (.pr X (.int 0))) (.int 12))))↔E.B F (.fn 108 X)=true:=by
 have hall:g9 (E.L F m) (c9 (X.den F))=true:=hm
 rw[yN]at hall
 have hl:(E.L F m).length=(c9 (X.den F)).length:=by grind[iF]
 have e9:E.I F (.fn 9 (.pr (.fn 1 (.pr X (.int 0))) (.int 12)))=aT (X.den F):=rfl;have e0:E.I F (.fn 0 m)=(E.L F m).length:=rfl
 rw[Ox]at h
 rw[sg,e9,e0,hl]
 unfold dr
 rw[Bool.and_eq_true,Bool.and_eq_true,px,beq_iff_eq]
 grind
end
end Go.SX

set_option linter.unusedVariables false
set_option linter.unusedSimpArgs false
namespace Go.SX
/-! ### valid boards: the reference's way -/
theorem aaA(X:U)(n:Nat):qW X n=true↔∀i,i<n->((aX X).count (nI (cX X 31).toL i)=1/\(gf X).count (nI (cX X 31).toL i)=1):=by
 simp_all[qW]
theorem CJ(X:U)(i k:Nat):tA X i k=true↔∀q,q<k->(¬blk X q 1=blk X i 1/\¬blk X q 0=blk X i 0):=by
 simp_all[tA]
theorem xz(X:U)(n:Nat):tB X n=true↔∀i,i<n->(((aX X).count (blk X i 1)=1/\(fC X).count (blk X i 0)=1)/\tA X i i=true):=by
 simp_all[tB]
theorem x5(X:U):ri X=true↔qW X (aX X).length=true/\tB X (cS X)=true:=by
 simp_all[ri]
theorem y6(X:U)(n:Nat):uG X n=true↔∀i,i<n->(rJ X i=true/\(i=0\/oI X (i-1) 0<oI X i 0)/\pB X (oI X i 2).toNat (oI X i 0)=1):=by
 simp_all[uG,and_assoc]
def NP(X:U)(i:Nat):Prop:=nI (cX X 29).toL (i*5+3)<0->(0<=cm X (nI (cX X 29).toL (i*5+1)) (aT X)/\oI X (cm X (nI (cX X 29).toL (i*5+1)) (aT X)).toNat 1=nI (cX X 29).toL (i*5+2))
theorem F8(X:U)(s:Nat):vj X s=true↔∀i,i<s->NP X i:=by
 grind[vj,jf,NP]
theorem DN(X:U):rm X=true↔vj X (cD X)=true/\uG X (aT X)=true/\yM X=aT X:=by
 simp_all[rm,and_assoc]
theorem aHo(X:U)(k:Int)(n i:Nat)(hi:i<n)(h:cm X k i=-1)(he:oI X i 0=k):cm X k n=i:=by
 unfold cm at *;have e:List.range n=List.range i++(i::(List.range (n-i-1)).map (fun x=>i+1+x)):=by
  have h1:List.range n=List.range (i+(n-i)):=by grind
  rw[h1,List.range_add]
  congr 1;have h2:n-i=(n-i-1)+1:=by omega
  rw[h2,List.range_succ_eq_map,List.map_cons,List.map_map]
  congr 1;grind[List.map_congr_left]
 grind
theorem aHq(X:U)(k:Int)(i:Nat)(h:cm X k i=-1)(he:¬oI X i 0=k):cm X k (i+1)=-1:=by
 grind[cm]
section
variable {F:Env} {x y l A a b k u i j p q n m r o c d w v X T N L L2 mc s:E}
theorem jk:E.I F (.fn 121 (.pr l k))=(((aN F l).count (E.I F k):Nat):Int):=rfl
theorem aMp(h:E.I F (.fn 0 l)<=E.I F n):E.I F (.fn 121 (.pr l k))=E.I F (.fn 131 (.pr l (.pr k n))):=by
 grind[jk,Al,b8,List.take_of_length_le]
theorem vT:E.I F (.fn 120 (.pr X (.pr k n)))=cm (X.den F) (E.I F k) (E.I F n).toNat:=rfl
theorem aMo(e:E.I F n=E.I F i):E.I F (.fn 120 (.pr X (.pr k n)))=E.I F (.fn 120 (.pr X (.pr k i))):=by
 simp_all[vT]
theorem agO(h:E.I F (.fn 120 (.pr X (.pr k i)))=-1){a:E}(ea:a=.fn 1 (.pr (.fn 1 (.pr X (.int 0))) (.fn 6 (.pr (.fn 8 (.pr i (.int 12))) (.int 0)))))(h0:0<=E.I F i)(hi:E.I F i<E.I F N)(hn:E.I F n=E.I F i+1):
  (¬E.I F a=E.I F k->E.I F (.fn 120 (.pr X (.pr k n)))=-1)/\(E.I F a=E.I F k->E.I F (.fn 120 (.pr X (.pr k N)))=E.I F i):=by
 subst ea;have e:=ez (X:=X) h0 0;have k0:(Int.ofNat 0)=0:=rfl
 rw[k0]at e
 rw[vT]at h
 have en:(E.I F n).toNat=(E.I F i).toNat+1:=by omega
 grind[vT,aHq,aHo]
/-! places -/
theorem Rr:E.I F (.fn 122 (.pr X (.pr p k)))=((pB (X.den F) (E.I F p).toNat (E.I F k):Nat):Int):=rfl
theorem HK:E.I F (.fn 132 (.pr X (.pr p (.pr q k))))=((q9 (X.den F) (E.I F p).toNat (E.I F q).toNat (E.I F k):Nat):Int):=rfl
theorem HL:E.I F (.fn 133 (.pr X (.pr p (.pr k s))))=((o6 (X.den F) (E.I F p) (E.I F k) (E.I F s).toNat:Nat):Int):=rfl
theorem aMq(h0:0<=E.I F p)(hs:E.I F s=E.I F (.fn 9 (.pr (.fn 1 (.pr X (.int 29))) (.int 5)))):E.I F (.fn 122 (.pr X (.pr p k)))=E.I F (.fn 132 (.pr X (.pr p (.pr (.int 4) k))))+E.I F (.fn 133 (.pr X (.pr p (.pr k s)))):=by
 rw[Rr,HK,HL,hs]
 have e:(E.I F (.fn 9 (.pr (.fn 1 (.pr X (.int 29))) (.int 5)))).toNat=cD (X.den F):=rfl;have e4:(E.I F (.int 4)).toNat=4:=rfl;grind[pB]
theorem agR(h:E.I F s<=0):E.I F (.fn 133 (.pr X (.pr p (.pr k s))))=0:=by
 have e:(E.I F s).toNat=0:=by omega
 rw[HL,e];rfl
theorem Gn{pl id tr:E}(e0:pl=.fn 1 (.pr (.fn 1 (.pr X (.int 29))) (.fn 6 (.pr (.fn 8 (.pr s (.int 5))) (.int 0)))))(e1:id=.fn 1 (.pr (.fn 1 (.pr X (.int 29))) (.fn 6 (.pr (.fn 8 (.pr s (.int 5))) (.int 1)))))
  (e3:tr=.fn 1 (.pr (.fn 1 (.pr X (.int 29))) (.fn 6 (.pr (.fn 8 (.pr s (.int 5))) (.int 3)))))(h0:0<=E.I F s)(hn:E.I F n=E.I F s+1):
  ((E.I F tr=-1/\E.I F id=E.I F k/\E.I F pl=E.I F p)->E.I F (.fn 133 (.pr X (.pr p (.pr k n))))=E.I F (.fn 133 (.pr X (.pr p (.pr k s))))+1)/\
  (¬(E.I F tr=-1/\E.I F id=E.I F k/\E.I F pl=E.I F p)->E.I F (.fn 133 (.pr X (.pr p (.pr k n))))=E.I F (.fn 133 (.pr X (.pr p (.pr k s))))):=by
 have en:(E.I F n).toNat=(E.I F s).toNat+1:=by omega
 have c0:=kV (X:=X) h0 0;have c1:=kV (X:=X) h0 1;have c3:=kV (X:=X) h0 3;simp_all[HL,o6,List.range_succ]
theorem aMv(h:E.I F p=0):E.I F (.fn 132 (.pr X (.pr p (.pr (.int 4) k))))=E.I F (.fn 121 (.pr (.fn 1 (.pr X (.int 6))) k))+E.I F (.fn 121 (.pr (.fn 1 (.pr X (.int 7))) k))+E.I F (.fn 121 (.pr (.fn 1 (.pr X (.int 8))) k))+E.I F (.fn 121 (.pr (.fn 1 (.pr X (.int 9))) k)):=by
 rw[HK,h]
 have e4:(E.I F (.int 4)).toNat=4:=rfl;unfold q9;have er:List.range 4=[0,1,2,3]:=rfl
 rw[jk,jk,jk,jk]
 have z0:aN F (.fn 1 (.pr X (.int 6)))=aY (X.den F) (4*0+0):=rfl;have z1:aN F (.fn 1 (.pr X (.int 7)))=aY (X.den F) (4*0+1):=rfl;have z2:aN F (.fn 1 (.pr X (.int 8)))=aY (X.den F) (4*0+2):=rfl;have z3:aN F (.fn 1 (.pr X (.int 9)))=aY (X.den F) (4*0+3):=rfl;grind
theorem aMw(h:E.I F p=1):E.I F (.fn 132 (.pr X (.pr p (.pr (.int 4) k))))=E.I F (.fn 121 (.pr (.fn 1 (.pr X (.int 20))) k))+E.I F (.fn 121 (.pr (.fn 1 (.pr X (.int 21))) k))+E.I F (.fn 121 (.pr (.fn 1 (.pr X (.int 22))) k))+E.I F (.fn 121 (.pr (.fn 1 (.pr X (.int 23))) k)):=by
 rw[HK,h]
 have e4:(E.I F (.int 4)).toNat=4:=rfl;unfold q9;have er:List.range 4=[0,1,2,3]:=rfl
 rw[jk,jk,jk,jk]
 have z0:aN F (.fn 1 (.pr X (.int 20)))=aY (X.den F) (4*1+0):=rfl;have z1:aN F (.fn 1 (.pr X (.int 21)))=aY (X.den F) (4*1+1):=rfl;have z2:aN F (.fn 1 (.pr X (.int 22)))=aY (X.den F) (4*1+2):=rfl;have z3:aN F (.fn 1 (.pr X (.int 23)))=aY (X.den F) (4*1+3):=rfl;grind
/-! found -/
theorem aMx:E.I F (.fn 134 (.pr X (.int 8)))=E.I F (.fn 0 (.fn 1 (.pr X (.int 6))))+E.I F (.fn 0 (.fn 1 (.pr X (.int 7))))+E.I F (.fn 0 (.fn 1 (.pr X (.int 8))))+E.I F (.fn 0 (.fn 1 (.pr X (.int 9)))) +
  E.I F (.fn 0 (.fn 1 (.pr X (.int 20))))+E.I F (.fn 0 (.fn 1 (.pr X (.int 21))))+E.I F (.fn 0 (.fn 1 (.pr X (.int 22))))+E.I F (.fn 0 (.fn 1 (.pr X (.int 23)))):=by
 have e:E.I F (.fn 134 (.pr X (.int 8)))=((List.range 8).map fun z=>(aY (X.den F) z).length).sum:=rfl;have er:List.range 8=[0,1,2,3,4,5,6,7]:=rfl
 rw[e,er]
 simp only[List.map_cons,List.map_nil]
 rw[<- b8,<- b8,<- b8,<- b8,<- b8,<- b8,<- b8,<- b8]
 have z0:aN F (.fn 1 (.pr X (.int 6)))=aY (X.den F) 0:=rfl;have z1:aN F (.fn 1 (.pr X (.int 7)))=aY (X.den F) 1:=rfl;have z2:aN F (.fn 1 (.pr X (.int 8)))=aY (X.den F) 2:=rfl;have z3:aN F (.fn 1 (.pr X (.int 9)))=aY (X.den F) 3:=rfl;have y0:aN F (.fn 1 (.pr X (.int 20)))=aY (X.den F) 4:=rfl;have y1:aN F (.fn 1 (.pr X (.int 21)))=aY (X.den F) 5:=rfl;have y2:aN F (.fn 1 (.pr X (.int 22)))=aY (X.den F) 6:=rfl;have y3:aN F (.fn 1 (.pr X (.int 23)))=aY (X.den F) 7:=rfl;grind
theorem Am:E.I F (.fn 135 (.pr X s))=(((jf (X.den F) (E.I F s).toNat).length:Nat):Int):=rfl
theorem aMz(h:E.I F s<=0):E.I F (.fn 135 (.pr X s))=0:=by
 have e:(E.I F s).toNat=0:=by omega
 rw[Am,e];rfl
theorem aMy(e:E.I F n=E.I F s):E.I F (.fn 135 (.pr X n))=E.I F (.fn 135 (.pr X s)):=by simp_all[Am]
theorem agS{tr:E}(e3:tr=.fn 1 (.pr (.fn 1 (.pr X (.int 29))) (.fn 6 (.pr (.fn 8 (.pr s (.int 5))) (.int 3)))))(h0:0<=E.I F s)(hn:E.I F n=E.I F s+1):
  (E.I F tr<0->E.I F (.fn 135 (.pr X n))=E.I F (.fn 135 (.pr X s))+1)/\(¬E.I F tr<0->E.I F (.fn 135 (.pr X n))=E.I F (.fn 135 (.pr X s))):=by
 have en:(E.I F n).toNat=(E.I F s).toNat+1:=by omega
 have c3:=kV (X:=X) h0 3;grind[Am,F9]
theorem Oy:(E.B F (.fn 123 (.pr X s))=true)=(vj (X.den F) (E.I F s).toNat=true):=rfl
theorem Oz:(E.B F (.fn 124 (.pr X n))=true)=(uG (X.den F) (E.I F n).toNat=true):=rfl
theorem OA:(E.B F (.fn 125 X)=true)=(rm (X.den F)=true):=rfl
theorem aMr(h:E.B F (.fn 123 (.pr X s))=true)(e:E.I F n=E.I F s):E.B F (.fn 123 (.pr X n))=true:=by
 simp_all[Oy]
theorem Gz(h:E.B F (.fn 123 (.pr X s))=true){id cd tr v rw1:E}(e1:id=.fn 1 (.pr (.fn 1 (.pr X (.int 29))) (.fn 6 (.pr (.fn 8 (.pr s (.int 5))) (.int 1)))))
  (e2:cd=.fn 1 (.pr (.fn 1 (.pr X (.int 29))) (.fn 6 (.pr (.fn 8 (.pr s (.int 5))) (.int 2)))))(e3:tr=.fn 1 (.pr (.fn 1 (.pr X (.int 29))) (.fn 6 (.pr (.fn 8 (.pr s (.int 5))) (.int 3)))))
  (e4:rw1=.fn 1 (.pr (.fn 1 (.pr X (.int 0))) (.fn 6 (.pr (.fn 8 (.pr v (.int 12))) (.int 1)))))
  (h0:0<=E.I F s)(h1:E.I F s<E.I F (.fn 9 (.pr (.fn 1 (.pr X (.int 29))) (.int 5))))(hn:E.I F n=E.I F s+1):
  (¬E.I F tr<0->E.B F (.fn 123 (.pr X n))=true)/\
  (E.I F tr<0->E.I F v=E.I F (.fn 120 (.pr X (.pr id (.fn 9 (.pr (.fn 1 (.pr X (.int 0))) (.int 12))))))->((0<=E.I F v/\E.I F rw1=E.I F cd)->E.B F (.fn 123 (.pr X n))=true)/\(¬(0<=E.I F v/\E.I F rw1=E.I F cd)->¬E.B F (.fn 125 X)=true)):=by
 subst e3;have hs:(E.I F s).toNat<cD (X.den F):=by
  have:E.I F (.fn 9 (.pr (.fn 1 (.pr X (.int 29))) (.int 5)))=cD (X.den F):=rfl
  omega
 have c1:=kV (X:=X) h0 1;have c2:=kV (X:=X) h0 2;have c3:=kV (X:=X) h0 3;have k3:(Int.ofNat 3)=3:=rfl
 rw[k3]at c3
 have en9:(E.I F (.fn 9 (.pr (.fn 1 (.pr X (.int 0))) (.int 12)))).toNat=aT (X.den F):=rfl;have ext:NP (X.den F) (E.I F s).toNat->E.B F (.fn 123 (.pr X n))=true:=by
  grind[Oy,F8]
 refine⟨fun ht=>ext ?_,fun ht hv=>⟨fun hc=>ext ?_,fun hc hf=>hc ?_⟩⟩
 ·intro hh;omega
 ·intro _;grind[vT,ez]
 ·rw[OA,DN,F8]at hf
  have:=hf.1 _ hs (by omega)
  grind[vT,ez]
theorem aNd(h:E.B F (.fn 124 (.pr X i))=true){t a0 a1 a2 a3 a4 a5 a6 a7 a8:E}(e0:a0=.fn 1 (.pr (.fn 1 (.pr X (.int 0))) (.fn 6 (.pr (.fn 8 (.pr i (.int 12))) (.int 0)))))(e1:a1=.fn 1 (.pr (.fn 1 (.pr X (.int 0))) (.fn 6 (.pr (.fn 8 (.pr i (.int 12))) (.int 1)))))(e2:a2=.fn 1 (.pr (.fn 1 (.pr X (.int 0))) (.fn 6 (.pr (.fn 8 (.pr i (.int 12))) (.int 2)))))(e3:a3=.fn 1 (.pr (.fn 1 (.pr X (.int 0))) (.fn 6 (.pr (.fn 8 (.pr i (.int 12))) (.int 3)))))(e4:a4=.fn 1 (.pr (.fn 1 (.pr X (.int 0))) (.fn 6 (.pr (.fn 8 (.pr i (.int 12))) (.int 4)))))(e5:a5=.fn 1 (.pr (.fn 1 (.pr X (.int 0))) (.fn 6 (.pr (.fn 8 (.pr i (.int 12))) (.int 5)))))(e6:a6=.fn 1 (.pr (.fn 1 (.pr X (.int 0))) (.fn 6 (.pr (.fn 8 (.pr i (.int 12))) (.int 6)))))(e7:a7=.fn 1 (.pr (.fn 1 (.pr X (.int 0))) (.fn 6 (.pr (.fn 8 (.pr i (.int 12))) (.int 7)))))(e8:a8=.fn 1 (.pr (.fn 1 (.pr X (.int 0))) (.fn 6 (.pr (.fn 8 (.pr i (.int 12))) (.int 8)))))
  (h0:0<=E.I F i)(hi:E.I F i<E.I F (.fn 9 (.pr (.fn 1 (.pr X (.int 0))) (.int 12))))(hn:E.I F n=E.I F i+1)(ht:0<E.I F i->E.I F t=E.I F i-1):
  (((1<=E.I F a0/\E.I F a0<=500/\-1<=E.I F a1/\E.I F a1<=399/\0<=E.I F a2/\E.I F a2<=1/\(E.I F a1=-1\/(E.I F a3=0/\E.I F a4=0))/\0<=E.I F a3/\E.I F a3<=99/\0<=E.I F a4/\E.I F a4<=99/\0<=E.I F a5/\E.I F a5<=99/\0<=E.I F a6/\E.I F a6<=99/\0<=E.I F a7/\E.I F a7<=99/\0<=E.I F a8/\E.I F a8<=99)/\
   (E.I F i=0\/E.I F (.fn 1 (.pr (.fn 1 (.pr X (.int 0))) (.fn 6 (.pr (.fn 8 (.pr t (.int 12))) (.int 0)))))<E.I F a0)/\E.I F (.fn 122 (.pr X (.pr a2 a0)))=1)->E.B F (.fn 124 (.pr X n))=true)/\
  (¬((1<=E.I F a0/\E.I F a0<=500/\-1<=E.I F a1/\E.I F a1<=399/\0<=E.I F a2/\E.I F a2<=1/\(E.I F a1=-1\/(E.I F a3=0/\E.I F a4=0))/\0<=E.I F a3/\E.I F a3<=99/\0<=E.I F a4/\E.I F a4<=99/\0<=E.I F a5/\E.I F a5<=99/\0<=E.I F a6/\E.I F a6<=99/\0<=E.I F a7/\E.I F a7<=99/\0<=E.I F a8/\E.I F a8<=99)/\
   (E.I F i=0\/E.I F (.fn 1 (.pr (.fn 1 (.pr X (.int 0))) (.fn 6 (.pr (.fn 8 (.pr t (.int 12))) (.int 0)))))<E.I F a0)/\E.I F (.fn 122 (.pr X (.pr a2 a0)))=1)->¬E.B F (.fn 125 X)=true):=by
 subst e0;subst e1;subst e2;subst e3;subst e4;subst e5;subst e6;subst e7;subst e8;have hi':(E.I F i).toNat<aT (X.den F):=by
  have:E.I F (.fn 9 (.pr (.fn 1 (.pr X (.int 0))) (.int 12)))=((aT (X.den F):Nat):Int):=rfl
  omega
 have en:(E.I F n).toNat=(E.I F i).toNat+1:=by omega
 have c0:oI (X.den F) (E.I F i).toNat 0=_:=ez (X:=X) h0 0;have c1:oI (X.den F) (E.I F i).toNat 1=_:=ez (X:=X) h0 1;have c2:oI (X.den F) (E.I F i).toNat 2=_:=ez (X:=X) h0 2;have c3:oI (X.den F) (E.I F i).toNat 3=_:=ez (X:=X) h0 3;have c4:oI (X.den F) (E.I F i).toNat 4=_:=ez (X:=X) h0 4;have c5:oI (X.den F) (E.I F i).toNat 5=_:=ez (X:=X) h0 5;have c6:oI (X.den F) (E.I F i).toNat 6=_:=ez (X:=X) h0 6;have c7:oI (X.den F) (E.I F i).toNat 7=_:=ez (X:=X) h0 7;have c8:oI (X.den F) (E.I F i).toNat 8=_:=ez (X:=X) h0 8;have k (z:Nat) (w:Int) (e:Int.ofNat z=w):E.int (Int.ofNat z)=E.int w:=by rw[e]
 rw[k 0 0 rfl]at c0
 rw[k 1 1 rfl]at c1
 rw[k 2 2 rfl]at c2
 rw[k 3 3 rfl]at c3
 rw[k 4 4 rfl]at c4
 rw[k 5 5 rfl]at c5
 rw[k 6 6 rfl]at c6
 rw[k 7 7 rfl]at c7
 rw[k 8 8 rfl]at c8
 have hprev:(E.I F i=0\/E.I F (.fn 1 (.pr (.fn 1 (.pr X (.int 0))) (.fn 6 (.pr (.fn 8 (.pr t (.int 12))) (.int 0)))))<oI (X.den F) (E.I F i).toNat 0)↔((E.I F i).toNat=0\/oI (X.den F) ((E.I F i).toNat-1) 0<oI (X.den F) (E.I F i).toNat 0):=by
  by_cases hz:E.I F i=0
  ·omega
  ·have ht':=ht (by omega);have e:=ez (X:=X) (i:=t) (F:=F) (by omega) 0
   rw[k 0 0 rfl]at e
   have et:(E.I F t).toNat=(E.I F i).toNat-1:=by omega
   grind
 have h122:(E.I F (.fn 122 (.pr X (.pr (.fn 1 (.pr (.fn 1 (.pr X (.int 0))) (.fn 6 (.pr (.fn 8 (.pr i (.int 12))) (.int 2))))) (.fn 1 (.pr (.fn 1 (.pr X (.int 0))) (.fn 6 (.pr (.fn 8 (.pr i (.int 12))) (.int 0))))))))=1)↔pB (X.den F) (oI (X.den F) (E.I F i).toNat 2).toNat (oI (X.den F) (E.I F i).toNat 0)=1:=by
  grind[Rr]
 rw[h122,<- c0,<- c1,<- c2,<- c3,<- c4,<- c5,<- c6,<- c7,<- c8,hprev]
 rw[Oz,y6]at h
 refine⟨fun hc=>?_,fun hc hf=>hc ?_⟩
 ·rw[Oz,y6,en]
  intro q hq;rcases Nat.lt_or_eq_of_le (Nat.le_of_lt_succ hq)with h2|h2
  all_goals simp_all[py]
 ·rw[OA,DN,y6]at hf
  have:=hf.2.1 _ hi'
  exact⟨(py _ _).1 this.1,this.2.1,this.2.2⟩
theorem vu(h:E.B F (.fn 124 (.pr X i))=true){t a0 a1 a2 a3 a4 a5 a6 a7 a8:E}(e0:a0=.fn 1 (.pr (.fn 1 (.pr X (.int 0))) (.fn 6 (.pr (.fn 8 (.pr i (.int 12))) (.int 0)))))(e1:a1=.fn 1 (.pr (.fn 1 (.pr X (.int 0))) (.fn 6 (.pr (.fn 8 (.pr i (.int 12))) (.int 1)))))(e2:a2=.fn 1 (.pr (.fn 1 (.pr X (.int 0))) (.fn 6 (.pr (.fn 8 (.pr i (.int 12))) (.int 2)))))(e3:a3=.fn 1 (.pr (.fn 1 (.pr X (.int 0))) (.fn 6 (.pr (.fn 8 (.pr i (.int 12))) (.int 3)))))(e4:a4=.fn 1 (.pr (.fn 1 (.pr X (.int 0))) (.fn 6 (.pr (.fn 8 (.pr i (.int 12))) (.int 4)))))(e5:a5=.fn 1 (.pr (.fn 1 (.pr X (.int 0))) (.fn 6 (.pr (.fn 8 (.pr i (.int 12))) (.int 5)))))(e6:a6=.fn 1 (.pr (.fn 1 (.pr X (.int 0))) (.fn 6 (.pr (.fn 8 (.pr i (.int 12))) (.int 6)))))(e7:a7=.fn 1 (.pr (.fn 1 (.pr X (.int 0))) (.fn 6 (.pr (.fn 8 (.pr i (.int 12))) (.int 7)))))(e8:a8=.fn 1 (.pr (.fn 1 (.pr X (.int 0))) (.fn 6 (.pr (.fn 8 (.pr i (.int 12))) (.int 8)))))
  (h0:0<=E.I F i)(hi:E.I F i<E.I F (.fn 9 (.pr (.fn 1 (.pr X (.int 0))) (.int 12))))(hn:E.I F n=E.I F i+1)(ht:0<E.I F i->E.I F t=E.I F i-1):
  (((E.B F (.fn 137 (.pr a0 (.pr a1 (.pr a2 (.pr a3 (.pr a4 (.pr a5 (.pr a6 (.pr a7 a8)))))))))=true)/\
   (E.I F i=0\/E.I F (.fn 1 (.pr (.fn 1 (.pr X (.int 0))) (.fn 6 (.pr (.fn 8 (.pr t (.int 12))) (.int 0)))))<E.I F a0)/\E.I F (.fn 122 (.pr X (.pr a2 a0)))=1)->E.B F (.fn 124 (.pr X n))=true)/\
  (¬((E.B F (.fn 137 (.pr a0 (.pr a1 (.pr a2 (.pr a3 (.pr a4 (.pr a5 (.pr a6 (.pr a7 a8)))))))))=true)/\
   (E.I F i=0\/E.I F (.fn 1 (.pr (.fn 1 (.pr X (.int 0))) (.fn 6 (.pr (.fn 8 (.pr t (.int 12))) (.int 0)))))<E.I F a0)/\E.I F (.fn 122 (.pr X (.pr a2 a0)))=1)->¬E.B F (.fn 125 X)=true):=by
 rw[cz]
 exact aNd h e0 e1 e2 e3 e4 e5 e6 e7 e8 h0 hi hn ht
theorem aNc{v:E}(hs:E.B F (.fn 123 (.pr X (.fn 9 (.pr (.fn 1 (.pr X (.int 29))) (.int 5)))))=true)(h:E.B F (.fn 124 (.pr X i))=true)(hi:E.I F (.fn 9 (.pr (.fn 1 (.pr X (.int 0))) (.int 12)))=E.I F i)
  (hv:E.I F v=E.I F (.fn 134 (.pr X (.int 8)))+E.I F (.fn 135 (.pr X (.fn 9 (.pr (.fn 1 (.pr X (.int 29))) (.int 5)))))):E.I F v=E.I F (.fn 9 (.pr (.fn 1 (.pr X (.int 0))) (.int 12)))↔E.B F (.fn 125 X)=true:=by
 have e9:E.I F (.fn 9 (.pr (.fn 1 (.pr X (.int 0))) (.int 12)))=aT (X.den F):=rfl;have es:(E.I F (.fn 9 (.pr (.fn 1 (.pr X (.int 29))) (.int 5)))).toNat=cD (X.den F):=rfl;have e8:E.I F (.fn 134 (.pr X (.int 8)))=((List.range 8).map fun z=>(aY (X.den F) z).length).sum:=rfl
 rw[Oy,es]at hs
 grind[Oz,Am,OA,DN,yM]
/-! fights -/
theorem OB:(E.B F (.fn 126 (.pr X n))=true)=(qW (X.den F) (E.I F n).toNat=true):=rfl
theorem ahV:(E.B F (.fn 127 (.pr X n))=true)=(tB (X.den F) (E.I F n).toNat=true):=rfl
theorem ahW:(E.B F (.fn 128 (.pr X (.pr j n)))=true)=(tA (X.den F) (E.I F j).toNat (E.I F n).toNat=true):=rfl
theorem GU:(E.B F (.fn 129 X)=true)=(ri (X.den F)=true):=rfl
theorem ahX:(E.B F (.fn 136 (.pr X j))=true)=((aX (X.den F)).count (blk (X.den F) (E.I F j).toNat 1)=1/\(fC (X.den F)).count (blk (X.den F) (E.I F j).toNat 0)=1):=by
 show(((aX (X.den F)).count (blk (X.den F) (E.I F j).toNat 1)==1&&(fC (X.den F)).count (blk (X.den F) (E.I F j).toNat 0)==1)=true)=_
 simp_all
theorem aMs(h:E.B F (.fn 126 (.pr X i))=true)(e:E.I F n=E.I F i):E.B F (.fn 126 (.pr X n))=true:=by
 simp_all[OB]
theorem uJ(h:E.I F (.fn 1 (.pr X (.int 34)))=0):gf (X.den F)=aN F (.fn 1 (.pr X (.int 8)))/\fC (X.den F)=aN F (.fn 1 (.pr X (.int 22))):=by
 have e:iX (X.den F) 34=0:=h;unfold gf fC cy
 rw[e];exact⟨rfl,rfl⟩
theorem uK(h:E.I F (.fn 1 (.pr X (.int 34)))=1):gf (X.den F)=aN F (.fn 1 (.pr X (.int 22)))/\fC (X.den F)=aN F (.fn 1 (.pr X (.int 8))):=by
 have e:iX (X.den F) 34=1:=h;unfold gf fC cy
 rw[e];exact⟨rfl,rfl⟩
theorem vp(h:E.B F (.fn 126 (.pr X i))=true){a:E}(ea:a=.fn 1 (.pr (.fn 1 (.pr X (.int 31))) i))(hL:gf (X.den F)=aN F L)(h0:0<=E.I F i)(hi:E.I F i<E.I F (.fn 0 (.fn 1 (.pr X (.int 31)))))(hn:E.I F n=E.I F i+1):
  ((E.I F (.fn 121 (.pr (.fn 1 (.pr X (.int 31))) a))=1/\E.I F (.fn 121 (.pr L a))=1)->E.B F (.fn 126 (.pr X n))=true)/\
  (¬(E.I F (.fn 121 (.pr (.fn 1 (.pr X (.int 31))) a))=1/\E.I F (.fn 121 (.pr L a))=1)->¬E.B F (.fn 129 X)=true):=by
 subst ea
 rw[<- tz]at hi
 have ea:aN F (.fn 1 (.pr X (.int 31)))=aX (X.den F):=rfl;have e1:E.I F (.fn 1 (.pr (.fn 1 (.pr X (.int 31))) i))=nI (cX (X.den F) 31).toL (E.I F i).toNat:=rfl
 rw[jk,jk,ea,<- hL,e1]
 grind[OB,aaA,GU,x5]
theorem vq{t b:E}(et:t=.fn 1 (.pr (.fn 1 (.pr X (.int 32))) (.fn 6 (.pr (.fn 8 (.pr j (.int 2))) (.int 1)))))(eb:b=.fn 1 (.pr (.fn 1 (.pr X (.int 32))) (.fn 6 (.pr (.fn 8 (.pr j (.int 2))) (.int 0)))))
  (hL:fC (X.den F)=aN F L)(h0:0<=E.I F j)(hi:E.I F j<E.I F (.fn 9 (.pr (.fn 1 (.pr X (.int 32))) (.int 2)))):
  ((E.I F (.fn 121 (.pr (.fn 1 (.pr X (.int 31))) t))=1/\E.I F (.fn 121 (.pr L b))=1)->E.B F (.fn 136 (.pr X j))=true)/\
  (¬(E.I F (.fn 121 (.pr (.fn 1 (.pr X (.int 31))) t))=1/\E.I F (.fn 121 (.pr L b))=1)->¬E.B F (.fn 129 X)=true):=by
 rw[<- uz]at hi
 have ea:aN F (.fn 1 (.pr X (.int 31)))=aX (X.den F):=rfl;have b0:=oY (X:=X) h0 0;have b1:=oY (X:=X) h0 1;grind[jk,ahX,GU,x5,xz]
theorem Og(h:E.B F (.fn 128 (.pr X (.pr j k)))=true){t b u w:E}(et:t=.fn 1 (.pr (.fn 1 (.pr X (.int 32))) (.fn 6 (.pr (.fn 8 (.pr j (.int 2))) (.int 1)))))(eb:b=.fn 1 (.pr (.fn 1 (.pr X (.int 32))) (.fn 6 (.pr (.fn 8 (.pr j (.int 2))) (.int 0)))))
  (eu:u=.fn 1 (.pr (.fn 1 (.pr X (.int 32))) (.fn 6 (.pr (.fn 8 (.pr k (.int 2))) (.int 1)))))(ew:w=.fn 1 (.pr (.fn 1 (.pr X (.int 32))) (.fn 6 (.pr (.fn 8 (.pr k (.int 2))) (.int 0)))))
  (h0:0<=E.I F j)(hi:E.I F j<E.I F (.fn 9 (.pr (.fn 1 (.pr X (.int 32))) (.int 2))))(hk:0<=E.I F k)(hkj:E.I F k<E.I F j)(hn:E.I F n=E.I F k+1):
  ((¬E.I F u=E.I F t/\¬E.I F w=E.I F b)->E.B F (.fn 128 (.pr X (.pr j n)))=true)/\(¬(¬E.I F u=E.I F t/\¬E.I F w=E.I F b)->¬E.B F (.fn 129 X)=true):=by
 rw[<- uz]at hi
 have b0:=oY (X:=X) h0 0;have b1:=oY (X:=X) h0 1;have d0:=oY (X:=X) hk 0;have d1:=oY (X:=X) hk 1
 refine⟨fun hc=>?_,fun hc hf=>hc ?_⟩
 ·grind[ahW,CJ]
 grind[GU,x5,xz,CJ]
theorem aMt(h:E.B F (.fn 127 (.pr X j))=true)(h1:E.B F (.fn 136 (.pr X j))=true)(h2:E.B F (.fn 128 (.pr X (.pr j k)))=true)(h0:0<=E.I F j)(hk:E.I F k=E.I F j)(hn:E.I F n=E.I F j+1):E.B F (.fn 127 (.pr X n))=true:=by
 grind[ahV,xz,ahX,ahW]
theorem aNb(h:E.B F (.fn 126 (.pr X (.fn 0 (.fn 1 (.pr X (.int 31))))))=true)(hb:E.B F (.fn 127 (.pr X j))=true)(h1:E.I F (.fn 9 (.pr (.fn 1 (.pr X (.int 32))) (.int 2)))=E.I F j):E.B F (.fn 129 X)=true:=by
 have el:(E.I F (.fn 0 (.fn 1 (.pr X (.int 31))))).toNat=(aX (X.den F)).length:=by grind[tz]
 grind[OB,ahV,uz,GU,x5]
end
end Go.SX

set_option linter.unusedVariables false
set_option linter.unusedSimpArgs false
namespace Go.SX
/-! ### both ways say the same -/
theorem M0{G:Type}[DecidableEq G]:∀(l1 l2:List G),l1.Nodup->(∀x∈l1,x∈l2)->l2.length<=l1.length->l1.Perm l2
 |[],l2,_,_,h=>by
  simp_all
 |x::l1,l2,hn,hs,hl=>by
  have hx:=hs x (by simp);have hn':=List.nodup_cons.1 hn;have hp:=List.perm_cons_erase hx;refine List.Perm.trans ?_ hp.symm;refine List.Perm.cons x (M0 l1 _ hn'.2 ?_ ?_);all_goals grind
theorem aGC(l:List Int)(c k p:Int):(l.map fun i=>(i,c)).count (k,p)=if c=p then l.count k else 0:=by
 induction l with
 |nil=>simp
 |cons x l ih=>
  grind
theorem aGD(X:U)(k:Int)(p:Nat)(hp:p<2):(kY X 8).count (k,(p:Int))=q9 X p 4 k:=by
 unfold kY q9;have er:List.range 8=[0,1,2,3,4,5,6,7]:=rfl;have er4:List.range 4=[0,1,2,3]:=rfl
 rw[er,er4]
 simp only[List.flatMap_cons,List.flatMap_nil,List.count_append,aGC];grind
theorem abb(X:U)(k p:Int):∀s,(∀i,i<s->-1<=nI (cX X 29).toL (i*5+3))->(iH X s).count (k,p)=o6 X p k s
 |0,_=>by rfl
 |s+1,h=>by
  have ih:=abb X k p s (fun i hi=>h i (by omega));have e:o6 X p k (s+1)=o6 X p k s+if(nI (cX X 29).toL (s*5+3) == -1&&nI (cX X 29).toL (s*5+1)==k&&nI (cX X 29).toL (s*5)==p)=true then 1 else 0:=by
   grind[o6,List.range_succ]
  grind[agC]
theorem aft(X:U):eW X 8 0=kY X 8:=by simp[eW]
theorem aba(X:U)(k:Int)(p:Nat)(hp:p<2)(h:∀i,i<cD X->-1<=nI (cX X 29).toL (i*5+3)):(c9 X).count (k,(p:Int))=pB X p k:=by
 simp_all[c9,pB,aft,aGD,abb]
theorem aia(X:U):∀k,(kY X k).length=((List.range k).map fun z=>(aY X z).length).sum
 |0=>rfl
 |k+1=>by
  rw[Hd,List.length_append,List.length_map,aia X k,List.range_succ,List.map_append,List.sum_append];simp
theorem aEP(X:U):(c9 X).length=yM X:=by
 simp_all[c9,yM,aft,aia,iH]
def oP(X:U):List (Int×Int):=(List.range (aT X)).map fun i=>(oI X i 0,oI X i 2)
theorem ME(X:U):(oP X).map Prod.fst=kM X:=by simp_all[oP,kM]
theorem MC{l:List (Int×Int)}(h:(l.map Prod.fst).Nodup):l.Nodup:=by
 rw[List.nodup_iff_pairwise_ne]at *
 rw[List.pairwise_map]at h
 exact h.imp fun hab e=>hab (by rw[e])
theorem tV{X:U}{k:Int}{n:Nat}(h:0<=cm X k n):(cm X k n).toNat<n/\oI X (cm X k n).toNat 0=k:=by
 grind[cm]
theorem ym{X:U}{k:Int}{n i:Nat}(hi:i<n)(h:oI X i 0=k):0<=cm X k n:=by
 grind[cm]
theorem acr{X:U}(h:(kM X).Nodup){i j:Nat}(hi:i<aT X)(hj:j<aT X)(e:oI X i 0=oI X j 0):i=j:=by
 grind[kM,List.pairwise_iff_getElem]
theorem adk{X:U}{k c:Int}{s:Nat}:(k,c)∈ic X s↔∃i,i<s/\nI (cX X 29).toL (i*5+3)<0/\nI (cX X 29).toL (i*5+1)=k/\nI (cX X 29).toL (i*5+2)=c:=by
 grind[ic,jf]
theorem afp{X:U}(hst:∀i,i<cD X->-1<=nI (cX X 29).toL (i*5+3)):dr X=true↔rm X=true:=by
 rw[DN,<- aEP]
 unfold dr;simp only[Bool.and_eq_true,px,beq_iff_eq];constructor
 ·rintro⟨⟨hn,ho⟩,hl⟩
  rw[kN]at ho
  have hin:=E0 fun i hi=>(ho i hi).2.1
  have hs:=agK (l1:=kM X) (l2:=(c9 X).map Prod.fst) hin (by
   intro x hx
   obtain⟨i,hi,rfl⟩:=List.mem_map.1 hx
   exact List.mem_map_of_mem (f:=Prod.fst) (yI (ho i (List.mem_range.1 hi)).2.2.1)) (by simp[kM,hl])
  refine⟨?_,?_,hl⟩
  ·rw[F8]
   intro i hi ht;have hc:(nI (cX X 29).toL (i*5+1),nI (cX X 29).toL (i*5+2))∈ic X (cD X):=adk.2 ⟨i,hi,ht,rfl,rfl⟩;have hid:nI (cX X 29).toL (i*5+1)∈(c9 X).map Prod.fst:=by
    grind[c9,NF]
   obtain⟨q,hq,he⟩:=List.mem_map.1 (hs _ hid)
   have hq:=List.mem_range.1 hq;have h0:=ym hq he;have h1:=tV h0
   refine⟨h0,?_⟩
   have hnc:((ic X (cD X)).map Prod.fst).Nodup:=by
    simp_all[NF,c9,List.map_append,List.nodup_append]
   exact((ho _ h1.1).2.2.2 _ (by grind[Mg])).symm
  ·rw[y6]
   intro i hi;have h:=ho i hi
   refine⟨h.1,h.2.1,?_⟩
   have hown:=(py X i).1 h.1;have hm:=yI h.2.2.1;have e:((oI X i 2).toNat:Int)=oI X i 2:=Int.toNat_of_nonneg (by omega)
   rw[<- aba X _ _ (by omega) hst,e]
   have h1:0<(c9 X).count (oI X i 0,oI X i 2):=List.count_pos_iff.2 hm;have h2:=List.nodup_iff_count.1 (MC hn) (oI X i 0,oI X i 2);omega
 ·rintro⟨hs,ho,hl⟩
  rw[y6]at ho
  rw[F8]at hs
  have hin:=E0 fun i hi=>(ho i hi).2.1
  have hmem:∀i,i<aT X->(oI X i 0,oI X i 2)∈c9 X:=by
   intro i hi;have h:=ho i hi;have hown:=(py X i).1 h.1;have e:((oI X i 2).toNat:Int)=oI X i 2:=Int.toNat_of_nonneg (by omega);have h1:=h.2.2
   rw[<- aba X _ _ (by omega) hst,e]at h1
   grind
  have hp:(oP X).Perm (c9 X):=M0 (oP X) (c9 X) (MC (by simp_all[ME])) (by
   intro x hx
   obtain⟨i,hi,rfl⟩:=List.mem_map.1 hx
   simp_all) (by simp_all[oP])
  have hn:((c9 X).map Prod.fst).Nodup:=by
   have:=(hp.map Prod.fst).nodup_iff.1 (by simp_all[ME])
   omega
  refine⟨⟨hn,?_⟩,hl⟩
  rw[kN]
  intro i hi;have h:=ho i hi
  refine⟨h.1,h.2.1,Mg hn (hmem i hi),?_⟩
  intro c hc
  obtain⟨s,h1,h2,h3,h4⟩:=adk.1 (yI hc)
  have:=hs s h1 h2
  rw[h3]at this
  have h5:=tV this.1;grind[acr]
theorem OM{X:U}(h:dr X=true)(k:Nat)(hk:k<8):(aY X k).Nodup:=by
 unfold dr at h;simp only[Bool.and_eq_true,px]at h
 obtain⟨r,hr⟩:=FB X k (aY X k).length hk
 grind[eW]
theorem KK{l:List Int}(h:l.Nodup)(a:Int):l.count a=1↔a∈l:=by
 grind
theorem ab9(X:U)(i:Nat):nI (cX X 31).toL i=(aX X).getD i 0:=Lw _ _
theorem abQ{X:U}(h:dr X=true)(ha:cy X<=1):gW X=true↔ri X=true:=by
 have ho:=OM h (4*cy X+2) (by omega);have hq:=OM h (4*(1-cy X)+2) (by omega);have e1:gf X=aY X (4*cy X+2):=rfl;have e2:fC X=aY X (4*(1-cy X)+2):=rfl
 rw[<- e1]at ho
 rw[<- e2]at hq
 have hA:jw X (aX X).length=true↔qW X (aX X).length=true:=by
  rw[oV,aaA,List.take_length]
  constructor
  ·simp_all[aX,List.getD_eq_getElem?_getD,List.getElem?_eq_getElem,List.getElem_mem,ab9,KK]
  ·intro hc;have hc':∀a∈aX X,(aX X).count a=1/\(gf X).count a=1:=by
    intro a hm
    obtain⟨i,hi,rfl⟩:=List.getElem_of_mem hm
    simp_all[ab9,List.getD_eq_getElem?_getD,List.getElem?_eq_getElem]
   grind
 rw[o8,x5,hA]
 constructor
 ·rintro⟨h1,h2⟩
  refine⟨h1,?_⟩
  have hn:=((oV X _).1 (hA.2 h1)).1
  rw[List.take_length]at hn
  rw[qX]at h2
  rw[xz]
  grind[KK,CJ,dp,List.pairwise_iff_getElem]
 ·rintro⟨h1,h2⟩
  refine⟨h1,?_⟩
  have hn:=((oV X _).1 (hA.2 h1)).1
  rw[List.take_length]at hn
  rw[xz]at h2
  rw[qX]
  simp_all[KK,dp,List.nodup_iff_pairwise_ne,List.pairwise_map,List.pairwise_iff_getElem,List.getElem_range,CJ]
theorem ahL(X:U):sa X=sb X:=by
 rw[Bool.eq_iff_iff]
 unfold sa sb;simp only[Bool.and_eq_true];constructor
 ·rintro⟨⟨⟨⟨⟨hn,h0⟩,h1⟩,hi⟩,hp⟩,hf⟩
  have hst:∀i,i<cD X->-1<=nI (cX X 29).toL (i*5+3):=by
   simp_all[uc,yx,nM,jG]
  have ha:cy X<=1:=by
   simp_all[uD,jG,cy]
  simp_all[afp,abQ]
 ·rintro⟨⟨⟨⟨⟨hn,h0⟩,h1⟩,hi⟩,hp⟩,hf⟩
  have hst:∀i,i<cD X->-1<=nI (cX X 29).toL (i*5+3):=by
   simp_all[uc,yx,nM,jG]
  have ha:cy X<=1:=by
   simp_all[uD,jG,cy]
  simp_all[afp,abQ]
theorem dN{F:Env}{X:E}:(E.B F (.fn 115 X)=true)↔(E.B F (.fn 130 X)=true):=by
 show(sa _=true)↔(sb _=true)
 rw[ahL]
end Go.SX

set_option linter.unusedVariables false
set_option linter.unusedSimpArgs false
namespace Go.SX
/-! ### what is paid from -/
section
variable {F:Env} {x y l A a b k u i j p q n m r o c d w v X T N L e t C:E}
theorem sk:(E.B F (.fn 145 (.pr X p))=true)=(0<=E.I F p/\E.I F p<=1/\E.B F (.fn 130 X)=true):=by
 show(pa _ _=true)=_
 unfold pa
 rw[Bool.and_eq_true,jG,and_assoc];rfl
/-! triggers and effects -/
theorem aG2(l:List U)(n:Nat):tO l n=true↔∀i,i<n->(l.getD (i*2+1) (.int 0)).toL.length/5<=5:=by
 simp_all[tO]
theorem aH0(l:List U)(n:Nat):Ey l n=true↔∀i,i<n->tN (l.getD (i*14+11) (.int 0)).toL (l.getD (i*14+12) (.int 0)).toL=true:=by
 grind[Ey]
theorem ahY:(E.B F (.fn 155 (.pr C n))=true)=(Ey (E.L F C) (E.I F n).toNat=true):=rfl
theorem aNK:(E.B F (.fn 156 (.pr e t))=true)=(E.I F (.fn 9 (.pr e (.int 5)))<=5/\E.I F (.fn 9 (.pr t (.int 2)))<=3/\E.B F (.fn 157 (.pr t (.fn 9 (.pr t (.int 2)))))=true):=by
 have h1:E.I F (.fn 9 (.pr e (.int 5)))=(E.L F e).length/5:=rfl;have h2:E.I F (.fn 9 (.pr t (.int 2)))=(E.L F t).length/2:=rfl;have h3:(E.B F (.fn 157 (.pr t (.fn 9 (.pr t (.int 2)))))=true)=(tO (E.L F t) ((E.L F t).length/2)=true):=rfl
 show(tN (E.L F e) (E.L F t)=true)=_
 grind[tN]
theorem ahZ:(E.B F (.fn 157 (.pr t n))=true)=(tO (E.L F t) (E.I F n).toNat=true):=rfl
theorem aMH(h:E.B F (.fn 157 (.pr t i))=true)(h0:0<=E.I F i)(hm:E.I F m=E.I F i+1)(hb:E.I F (.fn 9 (.pr (.fn 1 (.pr t (.fn 6 (.pr (.fn 8 (.pr i (.int 2))) (.int 1))))) (.int 5)))<=5):E.B F (.fn 157 (.pr t m))=true:=by
 have e:=wK (F:=F) (T:=t) i 2 1 h0;have h2:E.I F (.fn 9 (.pr (.fn 1 _) (.int 5)))=(E.L F (.fn 1 (.pr t (.fn 6 (.pr (.fn 8 (.pr i (.int 2))) (.int 1)))))).length/5:=rfl;grind[ahZ,aG2]
theorem aMF(h:E.B F (.fn 155 (.pr C i))=true)(e:E.I F n=E.I F i):E.B F (.fn 155 (.pr C n))=true:=by
 simp_all[ahY]
theorem aNL(h0:0<=E.I F i):(E.B F (.fn 156 (.pr (.fn 1 (.pr C (.fn 6 (.pr (.fn 8 (.pr i (.int 14))) (.int 11))))) (.fn 1 (.pr C (.fn 6 (.pr (.fn 8 (.pr i (.int 14))) (.int 12)))))))=true)=
  (tN ((E.L F C).getD ((E.I F i).toNat*14+11) (.int 0)).toL ((E.L F C).getD ((E.I F i).toNat*14+12) (.int 0)).toL=true):=by
 have e:=wK (F:=F) (T:=C) i 14 11 h0;have e2:=wK (F:=F) (T:=C) i 14 12 h0
 rw[<- e,<- e2];rfl
theorem aMG(h:E.B F (.fn 155 (.pr C i))=true)(h0:0<=E.I F i)(hm:E.I F m=E.I F i+1)(hb:E.B F (.fn 156 (.pr (.fn 1 (.pr C (.fn 6 (.pr (.fn 8 (.pr i (.int 14))) (.int 11))))) (.fn 1 (.pr C (.fn 6 (.pr (.fn 8 (.pr i (.int 14))) (.int 12)))))))=true):E.B F (.fn 155 (.pr C m))=true:=by
 grind[aNL,ahY,aH0]
end
end Go.SX

set_option linter.unusedVariables false
set_option linter.unusedSimpArgs false
namespace Go.SX
section
variable {F:Env} {x y l A a b k u i j p q n m r o c d w v X T N L e t C z:E}
theorem aJz(w:Int):E.I F (.fn 9 (.pr (.fn 30 a) (.int w)))=0:=by
 show(0/w.toNat:Int)=0
 simp
/-! small boards -/
theorem GV:(E.B F (.fn 158 (.pr l n))=true)=(eX (E.L F l) (E.I F n).toNat=true):=rfl
theorem agV(h:E.B F (.fn 158 (.pr l i))=true)(e:E.I F n=E.I F i):E.B F (.fn 158 (.pr l n))=true:=by
 simp_all[GV]
theorem agW(h:E.B F (.fn 158 (.pr l i))=true)(h0:0<=E.I F i)(hm:E.I F m=E.I F i+1)(hb:E.I F (.fn 9 (.pr (.fn 1 (.pr l (.fn 6 (.pr (.fn 8 (.pr i (.int 5))) (.int 4))))) (.int 2)))<=6):E.B F (.fn 158 (.pr l m))=true:=by
 have e:=wK (F:=F) (T:=l) i 5 4 h0;have h2:E.I F (.fn 9 (.pr (.fn 1 _) (.int 2)))=(E.L F (.fn 1 (.pr l (.fn 6 (.pr (.fn 8 (.pr i (.int 5))) (.int 4)))))).length/2:=rfl;grind[GV,eX]
theorem kX:(E.B F (.fn 159 X)=true)=(E.I F (.fn 0 (.fn 1 (.pr X (.int 6))))<=40/\E.I F (.fn 0 (.fn 1 (.pr X (.int 7))))<=40/\E.I F (.fn 0 (.fn 1 (.pr X (.int 8))))<=40/\E.I F (.fn 0 (.fn 1 (.pr X (.int 9))))<=40/\
  E.I F (.fn 0 (.fn 1 (.pr X (.int 20))))<=40/\E.I F (.fn 0 (.fn 1 (.pr X (.int 21))))<=40/\E.I F (.fn 0 (.fn 1 (.pr X (.int 22))))<=40/\E.I F (.fn 0 (.fn 1 (.pr X (.int 23))))<=40):=by
 show((List.range 8).all (fun z=>decide ((aY _ z).length<=40))=true)=_
 rw[<- b8,<- b8,<- b8,<- b8,<- b8,<- b8,<- b8,<- b8]
 have er:List.range 8=[0,1,2,3,4,5,6,7]:=rfl;have z0:aN F (.fn 1 (.pr X (.int 6)))=aY (X.den F) 0:=rfl;have z1:aN F (.fn 1 (.pr X (.int 7)))=aY (X.den F) 1:=rfl;have z2:aN F (.fn 1 (.pr X (.int 8)))=aY (X.den F) 2:=rfl;have z3:aN F (.fn 1 (.pr X (.int 9)))=aY (X.den F) 3:=rfl;have y0:aN F (.fn 1 (.pr X (.int 20)))=aY (X.den F) 4:=rfl;have y1:aN F (.fn 1 (.pr X (.int 21)))=aY (X.den F) 5:=rfl;have y2:aN F (.fn 1 (.pr X (.int 22)))=aY (X.den F) 6:=rfl;have y3:aN F (.fn 1 (.pr X (.int 23)))=aY (X.den F) 7:=rfl
 rw[er,z0,z1,z2,z3,y0,y1,y2,y3]
 simp only[List.all_cons];grind
theorem gi:(E.B F (.fn 117 X)=true)=(E.B F (.fn 159 X)=true/\E.I F (.fn 9 (.pr (.fn 1 (.pr X (.int 29))) (.int 5)))<=20/\E.I F (.fn 9 (.pr (.fn 1 (.pr X (.int 30))) (.int 5)))<=20/\
  E.B F (.fn 158 (.pr (.fn 1 (.pr X (.int 29))) (.fn 9 (.pr (.fn 1 (.pr X (.int 29))) (.int 5)))))=true/\E.B F (.fn 158 (.pr (.fn 1 (.pr X (.int 30))) (.fn 9 (.pr (.fn 1 (.pr X (.int 30))) (.int 5)))))=true/\
  E.I F (.fn 9 (.pr (.fn 1 (.pr X (.int 0))) (.int 12)))<=30/\E.I F (.fn 0 (.fn 1 (.pr X (.int 31))))<=30/\E.I F (.fn 9 (.pr (.fn 1 (.pr X (.int 32))) (.int 2)))<=30):=by
 have a:(E.B F (.fn 159 X)=true)=((List.range 8).all (fun z=>decide ((aY _ z).length<=40))=true):=rfl;have b:(E.B F (.fn 158 (.pr (.fn 1 (.pr X (.int 29))) (.fn 9 (.pr (.fn 1 (.pr X (.int 29))) (.int 5)))))=true)=(eX (cX (X.den F) 29).toL (cD (X.den F))=true):=rfl;have c:(E.B F (.fn 158 (.pr (.fn 1 (.pr X (.int 30))) (.fn 9 (.pr (.fn 1 (.pr X (.int 30))) (.int 5)))))=true)=(eX (cX (X.den F) 30).toL ((cX (X.den F) 30).toL.length/5)=true):=rfl;have d:E.I F (.fn 9 (.pr (.fn 1 (.pr X (.int 29))) (.int 5)))=cD (X.den F):=rfl;have e:E.I F (.fn 9 (.pr (.fn 1 (.pr X (.int 30))) (.int 5)))=(cX (X.den F) 30).toL.length/5:=rfl;have f:E.I F (.fn 9 (.pr (.fn 1 (.pr X (.int 0))) (.int 12)))=aT (X.den F):=rfl
 rw[a,b,c,d,e,f,<- tz,<- uz]
 show(je _=true)=_
 grind[je]
end
end Go.SX

set_option linter.unusedVariables false
set_option linter.unusedSimpArgs false
namespace Go.SX
/-! ### the sources of a player: the program's -/
theorem aHf(l:List U)(n:Nat):(l.getD n (.bool false)).toB=(l.getD n (.int 0)).toB:=by
 rw[List.getD_eq_getElem?_getD,List.getD_eq_getElem?_getD]
 cases l[n]? <;> rfl
section
variable {F:Env} {x y l A a b k u i j p q n m r o c d w v X T N L e t C z:E}
theorem rr:aN F (.fn 3 (.pr x y))=aN F x++aN F y:=by
 show(E.L F x++E.L F y).map _=_
 rw[List.map_append];rfl
theorem lQ:aN F (.fn 23 (.pr a l))=E.I F a::aN F l:=rfl
theorem kF:aN F (.fn 10 a)=[]:=rfl
end
end Go.SX

set_option linter.unusedVariables false
set_option linter.unusedSimpArgs false
namespace Go.SX
section
variable {F:Env} {x y l A a b k u i j p q n m r o c d w v X T N L e t C z s:E}
theorem aJx:E.I F (.fn 9 (.pr l (.int 2)))=(((aN F l).length/2:Nat):Int):=by
 have:(aN F l).length=(E.L F l).length:=List.length_map _
 rw[this];rfl
/-! the reference's: what an object makes -/
end
end Go.SX

set_option linter.unusedVariables false
set_option linter.unusedSimpArgs false
namespace Go.SX
section
variable {F:Env} {x y l A a b k u i j p q n m r o c d w v X T N L e t C z s m0 m1 m2 m3:E}
end
end Go.SX

set_option linter.unusedVariables false
set_option linter.unusedSimpArgs false
namespace Go.SX
/-! ### numbers in order -/
theorem LM(x:Int):∀l,(nL x l).Perm (x::l)
 |[]=>.refl _
 |y::l=>by
  unfold nL;split
  ·rfl
  ·exact((LM x l).cons y).trans (.swap x y l)
theorem vf:∀l,(dy l).Perm l
 |[]=>.refl _
 |x::l=>(LM x _).trans ((vf l).cons x)
theorem acI(x:Int):∀l:List Int,l.Pairwise (·<=·)->(nL x l).Pairwise (·<=·)
 |[],_=>by simp[nL]
 |y::l,h=>by
  obtain⟨h1,h2⟩:=List.pairwise_cons.1 h
  unfold nL;split
  ·grind[List.pairwise_cons]
  ·refine List.pairwise_cons.2 ⟨fun a ha=>?_,acI x l h2⟩;rcases List.mem_cons.1 ((LM x l).mem_iff.1 ha)with rfl|ha
   all_goals grind
theorem Ny:∀l:List Int,(dy l).Pairwise (·<=·)
 |[]=>.nil
 |x::l=>acI x _ (Ny l)
theorem aJS{a b:List Int}(ha:a.Pairwise (·<=·))(hb:b.Pairwise (·<=·))(h:a.Perm b):a=b:=
 List.Perm.eq_of_pairwise (le:=(·<=·)) (fun a b _ _ h1 h2=>Int.le_antisymm h1 h2) ha hb h
theorem ago{a l:List Int}(ha:a.Pairwise (·<=·))(h:a.Perm l):a=dy l:=aJS ha (Ny l) (h.trans (vf l).symm)
/-- a number is put where it belongs -/
theorem aJR{x l:List Int}{v:Int}{n:Nat}(h:x=dy l)(hn:n<=x.length)(hlo:∀a∈x.take n,a<v)(hhi:n=x.length\/v<=x.getD n 0):x.take n++(v ::x.drop n)=dy (l++[v]):=by
  have hs:x.Pairwise (· <= ·):=by simp_all[Ny]
  have hp:x.Perm l:=by simp_all[vf]
  refine ago ?_ ?_
  · have hs':=hs
    rw[<- List.take_append_drop n x,List.pairwise_append]at hs'
    obtain⟨h1,h2,h3⟩:=hs'
    have hd:∀a∈x.drop n,v<=a:=by
      intro a ha;rcases hhi with e|hv
      · simp_all
      · obtain⟨k,hk,rfl⟩:=List.mem_iff_getElem.1 ha
        rw[List.length_drop]at hk
        have hg:x.getD n 0=x[n]'(by omega):=by
          grind
        rcases Nat.eq_zero_or_pos k with rfl|hk0
        all_goals grind[List.pairwise_iff_getElem]
    rw[List.pairwise_append]
    refine⟨h1,List.pairwise_cons.2 ⟨hd,h2⟩,fun a ha b hb=>?_⟩
    rcases List.mem_cons.1 hb with rfl|hb
    · exact Int.le_of_lt (hlo a ha)
    · exact h3 a ha b hb
  grind[List.take_append_drop,List.perm_middle]
/-! ### the sources in order: both agree -/
theorem abV{X:U}{p:Int}(h:pa X p=true):dr X=true/\0<=p/\p<=1:=by
 unfold pa at h
 rw[Bool.and_eq_true,jG,<- ahL]at h
 simp_all[sa]
theorem aHn{X:U}(h:dr X=true):∀i j,i<j->j<aT X->oI X i 0<oI X j 0:=by
 have ho:=(kN X _).1 (uR h);exact agq (f:=fun i=>oI X i 0) fun i hi=>(ho i hi).2.1
theorem acs{X:U}(h:dr X=true):(kM X).Nodup:=by
 grind[kN,uR,E0]
theorem ON{X:U}(h:dr X=true){z:Nat}(hz:z<8){k:Int}(hk:k∈aY X z):∃i,i<aT X/\oI X i 0=k/\oI X i 2=((z/4:Nat):Int):=by
 have ho:=(kN X _).1 (uR h);have hin:=acs h;have hl:(c9 X).length=aT X:=by
  simp_all[dr]
 have hp:=M0 (oP X) (c9 X) (MC (by simp_all[ME])) (by
  intro x hx
  obtain⟨i,hi,rfl⟩:=List.mem_map.1 hx
  simp_all[yI]) (by simp_all[oP])
 have hm:(k,(z/4:Int))∈c9 X:=by
  obtain⟨r,hr⟩:=FB X z _ hz
  rw[hr]
  unfold eW
  rw[List.take_length]
  exact List.mem_append.2 (Or.inl (List.mem_append.2 (Or.inr (List.mem_map.2 ⟨k,hk,rfl⟩))))
 obtain⟨i,hi,e⟩:=List.mem_map.1 (hp.mem_iff.2 hm)
 grind
theorem acz{X:U}(h:dr X=true){i:Nat}(hi:i<aT X):cm X (oI X i 0) (aT X)=i:=by
 have h0:=ym (X:=X) hi rfl
 obtain⟨h1,h2⟩:=tV h0
 have:=acr (acs h) h1 hi h2
 omega
section
variable {F:Env} {x y l A a b k u i j p q n m r o c d w v X T N L e t C z s m0 m1 m2 m3:E}
theorem pw(F:Env)(a:E):0<=E.I F (.fn 9 a):=Int.natCast_nonneg _
/-! numbers in order -/
theorem mt:(E.B F (.fn 152 (.pr x (.pr l i)))=true)=(aN F x=dy ((aN F l).take (E.I F i).toNat)):=by
 show((br _==dy _)=true)=_
 rw[beq_iff_eq];rfl
theorem OD:(E.B F (.fn 160 (.pr x (.pr v i)))=true)=(∀a∈(aN F x).take (E.I F i).toNat,a<E.I F v):=by
 show(((br _).take _).all _=true)=_
 simp only[List.all_eq_true,decide_eq_true_eq];rfl
theorem aME(h:E.I F i<=0):E.B F (.fn 152 (.pr (.fn 10 a) (.pr l i)))=true:=by
 have e:(E.I F i).toNat=0:=by omega
 rw[mt,e];rfl
theorem aMC(h:E.B F (.fn 152 (.pr x (.pr l i)))=true)(e:E.I F n=E.I F i):E.B F (.fn 152 (.pr x (.pr l n)))=true:=by
 simp_all[mt]
theorem aMJ(h:E.I F i<=0):E.B F (.fn 160 (.pr x (.pr v i)))=true:=by
 have e:(E.I F i).toNat=0:=by omega
 grind[OD]
theorem agX(h:E.B F (.fn 160 (.pr x (.pr v i)))=true)(h0:0<=E.I F i)(h1:E.I F i<E.I F (.fn 0 x))(hn:E.I F n=E.I F i+1)(hv:E.I F (.fn 1 (.pr x i))<E.I F v):E.B F (.fn 160 (.pr x (.pr v n)))=true:=by
 have en:(E.I F n).toNat=(E.I F i).toNat+1:=by omega
 grind[OD,gL,pP]
/-- the list that Sorted makes in a step -/
theorem Gp(h:E.B F (.fn 152 (.pr x (.pr l i)))=true)(h':E.B F (.fn 160 (.pr x (.pr v j)))=true)(ev:v= .fn 1 (.pr l i))(h0:0<=E.I F i)(h1:E.I F i<E.I F (.fn 0 l))(hn:E.I F n=E.I F i+1)
    (j0:0<=E.I F j)(j1:E.I F j<=E.I F (.fn 0 x))(hj:E.I F (.fn 0 x)<=E.I F j\/E.I F v<=E.I F (.fn 1 (.pr x j)))
    (hy:aN F y=(aN F x).take (E.I F j).toNat++(E.I F v ::(aN F x).drop (E.I F j).toNat)):E.B F (.fn 152 (.pr y (.pr l n)))=true:=by
  subst ev;have en:(E.I F n).toNat=(E.I F i).toNat+1:=by omega
  rw[mt]at h
  rw[OD]at h'
  rw[<- b8]at h1 j1 hj
  grind[gL,aJR,E.I,mt,pP]
theorem Ef:aN F (.fn 4 (.pr l (.pr a b)))=((aN F l).take (E.I F b).toNat).drop (E.I F a).toNat:=by
 show(((E.L F l).take _).drop _).map _=_
 rw[List.map_drop,List.map_take];rfl
theorem um(h0:0<=E.I F a)(h1:E.I F a<=E.I F b)(h2:E.I F b<=E.I F (.fn 0 l)):E.I F (.fn 0 (.fn 4 (.pr l (.pr a b))))=E.I F b-E.I F a:=by
 rw[<- b8]at *
 grind[Ef]
theorem agT(ev:v=.fn 1 (.pr l i))(h0:E.I F i=0)(h1:0<E.I F (.fn 0 l))(hn:E.I F n=1):E.B F (.fn 152 (.pr (.fn 23 (.pr v (.fn 10 a))) (.pr l n)))=true:=by
 have e:=Gp (F:=F) (x:=.fn 10 (.int 0)) (j:=.int 0) (y:=.fn 23 (.pr v (.fn 10 a))) (n:=n) (aME (l:=l) (i:=i) (by omega)) (aMJ (v:=v) (Int.le_refl _)) ev (by omega) (by omega) (by omega) (Int.le_refl _) (by rw[<- b8,kF];simp_all) (Or.inl (by rw[<- b8,kF];simp_all)) (by rfl);exact e
theorem pL(h:E.B F (.fn 152 (.pr x (.pr l i)))=true)(h':E.B F (.fn 160 (.pr x (.pr v j)))=true)(ev:v=.fn 1 (.pr l i))(h0:0<=E.I F i)(h1:E.I F i<E.I F (.fn 0 l))(hn:E.I F n=E.I F i+1)
  (j0:0<=E.I F j)(j1:E.I F j<=E.I F (.fn 0 x))(hj:E.I F (.fn 0 x)<=E.I F j\/E.I F v<=E.I F (.fn 1 (.pr x j)))(he:E.I F (.fn 0 x)<=E.I F e):
  (E.I F (.fn 0 x)<=E.I F j->E.B F (.fn 152 (.pr (.fn 3 (.pr (.fn 4 (.pr x (.pr (.int 0) j))) (.fn 23 (.pr v (.fn 10 (.int 0)))))) (.pr l n)))=true)/\
  (E.I F j=0->E.B F (.fn 152 (.pr (.fn 3 (.pr (.fn 23 (.pr v (.fn 10 (.int 0)))) (.fn 4 (.pr x (.pr j e))))) (.pr l n)))=true)/\
  E.B F (.fn 152 (.pr (.fn 3 (.pr (.fn 4 (.pr x (.pr (.int 0) j))) (.fn 3 (.pr (.fn 23 (.pr v (.fn 10 (.int 0)))) (.fn 4 (.pr x (.pr j e))))))) (.pr l n)))=true:=by
 have z0:(E.I F (.int 0)).toNat=0:=rfl;have hx:=b8 (F:=F) (l:=x);have hd:((aN F x).take (E.I F e).toNat)=aN F x:=List.take_of_length_le (by omega)
 refine⟨fun hf=>?_,fun hz=>?_,?_⟩
 ·refine Gp h h' ev h0 h1 hn j0 j1 hj ?_;grind[rr,Ef,lQ,kF]
 ·refine Gp h h' ev h0 h1 hn j0 j1 hj ?_;simp_all[rr,Ef,lQ,kF]
 ·refine Gp h h' ev h0 h1 hn j0 j1 hj ?_;simp_all[rr,Ef,lQ,kF]
/-! equal lists -/
/-! the reference's sources -/
theorem OC:(E.B F (.fn 145 (.pr X p))=true)=(pa (X.den F) (E.I F p)=true):=rfl
theorem Gl(hL:E.B F (.fn 109 (.pr L (.pr X (.pr p (.int 2)))))=true):aN F L=aY (X.den F) (4*(E.I F p).toNat+2):=by
 simp_all[vD,Nat.mul_comm]
theorem zC(hL:E.B F (.fn 109 (.pr L (.pr X (.pr p (.int 2)))))=true)(hf:E.B F (.fn 145 (.pr X p))=true){k:E}(ek:k=.fn 1 (.pr L i))(h0:0<=E.I F i)(h1:E.I F i<E.I F (.fn 0 L)):
  0<=E.I F (.fn 120 (.pr X (.pr k (.fn 9 (.pr (.fn 1 (.pr X (.int 0))) (.int 12)))))):=by
 subst ek
 obtain⟨hp,p0,p1⟩:=abV (OC▸hf)
 rw[<- b8]at h1
 have hm:E.I F (.fn 1 (.pr L i))∈aY (X.den F) (4*(E.I F p).toNat+2):=by
  grind[Gl,gL]
 obtain⟨q,hq,he,_⟩:=ON hp (by omega) hm
 exact ym hq he
/-! the law -/
end
end Go.SX

set_option linter.unusedVariables false
set_option linter.unusedSimpArgs false
namespace Go.SX
/-! ### values that are equal -/
mutual
theorem U.eq_rfl:∀u:U,U.eq u u=true
 |.int a=>by simp[U.eq]
 |.bool a=>by simp[U.eq]
 |.str a=>by simp[U.eq]
 |.lst l=>by exact U.eqs_rfl l
 |.bx _ _ _ l=>by exact U.eqs_rfl l
theorem U.eqs_rfl:∀l,U.eqs l l=true
 |[]=>rfl
 |x::xs=>by simp only[U.eqs,U.eq_rfl x,U.eqs_rfl xs,Bool.and_self]
end
theorem xY{a b:U}(h:U.eq a b=true):a.toI=b.toI:=by cases a<;>cases b<;>simp_all[U.eq,U.toI]
theorem KP{a b:U}(h:U.eq a b=true):a.toB=b.toB:=by cases a<;>cases b<;>simp_all[U.eq,U.toB]
theorem re{a b:U}(h:U.eq a b=true):U.eqs a.toL b.toL=true:=by cases a<;>cases b<;>simp_all[U.eq,U.toL,U.eqs]
theorem ky:∀ {l m:List U},U.eqs l m=true->l.length=m.length
 |[],[],_=>rfl
 |x::xs,y::ys,h=>by
  simp only[U.eqs,Bool.and_eq_true]at h;simp[ky h.2]
theorem rf:∀ {l m:List U} (i:Nat),U.eqs l m=true->U.eq (l.getD i (.int 0)) (m.getD i (.int 0))=true
 |[],[],_,_=>by rfl
 |x::xs,y::ys,0,h=>by simp_all[U.eqs]
 |x::xs,y::ys,i+1,h=>by simp only[U.eqs,Bool.and_eq_true]at h;simpa using rf i h.2
theorem KQ:∀ {l m a b:List U},U.eqs l m=true->U.eqs a b=true->U.eqs (l++a) (m++b)=true
 |[],[],_,_,_,h=>h
 |x::xs,y::ys,_,_,h,h'=>by
  simp only[U.eqs,Bool.and_eq_true,List.cons_append]at h ⊢
  exact⟨h.1,KQ h.2 h'⟩
theorem aca(l:List U){i n:Nat}(h:i<n):(l.take n).getD i (.int 0)=l.getD i (.int 0):=by grind
theorem aNk(l:List U)(n:Nat)(h:n<l.length):l.take (n+1)=l.take n++[l.getD n (.int 0)]:=by
 simp_all
theorem aNj(l:List U)(n:Nat)(h:n+5<=l.length):l.take (n+5)=l.take n++[l.getD n (.int 0),l.getD (n+1) (.int 0),l.getD (n+2) (.int 0),l.getD (n+3) (.int 0),l.getD (n+4) (.int 0)]:=by
 grind[aNk,List.append_assoc]
section
variable {F:Env} {x y l A a b k u i j p q n m r o c d w v X T N L e t C z s:E}
theorem agP(h:E.B F (.fn 12 (.pr a b))=true)(i:E):E.B F (.fn 12 (.pr (.fn 1 (.pr a i)) (.fn 1 (.pr b i))))=true:=rf _ (re h)
theorem iI(h:E.B F (.fn 12 (.pr a b))=true)(i:E):E.I F (.fn 1 (.pr a i))=E.I F (.fn 1 (.pr b i)):=xY (agP h i)
theorem NU(h:E.B F (.fn 12 (.pr a b))=true)(i:E):E.B F (.fn 1 (.pr a i))=E.B F (.fn 1 (.pr b i)):=KP (agP h i)
theorem agQ(h:E.B F (.fn 12 (.pr a b))=true):E.I F (.fn 0 a)=E.I F (.fn 0 b):=by
 show((E.L F a).length:Int)=(E.L F b).length
 have e:(E.L F a).length=(E.L F b).length:=ky (re (a:=a.den F) (b:=b.den F) h)
 rw[e]
theorem r6(h:E.B F (.fn 12 (.pr a b))=true)(w:E):E.I F (.fn 9 (.pr a w))=E.I F (.fn 9 (.pr b w)):=by
 show((E.L F a).length/(E.I F w).toNat:Nat)=(((E.L F b).length/(E.I F w).toNat:Nat):Int)
 have e:(E.L F a).length=(E.L F b).length:=ky (re (a:=a.den F) (b:=b.den F) h)
 rw[e]
/-! whole cY of items -/
theorem pT:(E.B F (.fn 187 (.pr a b))=true)=(fF (E.L F a) (E.L F b)=true):=rfl
theorem gI(l m:List U):fF l m=true↔l.length/5=m.length/5/\U.eqs (l.take (l.length/5*5)) (m.take (m.length/5*5))=true:=by
 simp_all[fF]
theorem ag0(h:E.B F (.fn 187 (.pr a b))=true):E.I F (.fn 9 (.pr a (.int 5)))=E.I F (.fn 9 (.pr b (.int 5))):=by
 rw[pT,gI]at h
 show(E.L F a).length/5=((E.L F b).length/5:Int)
 omega
theorem NX(h:E.B F (.fn 187 (.pr a b))=true)(h0:0<=E.I F i)(h1:E.I F i<E.I F (.fn 9 (.pr b (.int 5)))){j:Nat}(hj:j<5):E.B F (.fn 12 (.pr (bU a i 5 j) (bU b i 5 j)))=true:=by
 rw[pT,gI]at h
 obtain⟨n,hn⟩:=Int.eq_ofNat_of_zero_le h0
 have e9:E.I F (.fn 9 (.pr b (.int 5)))=(E.L F b).length/5:=rfl;have ei:(E.I F i*5+j).toNat=n*5+j:=by omega
 have:=rf (n*5+j) h.2
 rw[aca _ (by omega),aca _ (by omega)]at this
 show U.eq ((E.L F a).getD (E.I F i*5+j).toNat _) ((E.L F b).getD (E.I F i*5+j).toNat _)=true;simp_all
theorem Gq(h:E.B F (.fn 187 (.pr a b))=true)(h0:0<=E.I F i)(h1:E.I F i<E.I F (.fn 9 (.pr b (.int 5)))){j:Nat}(hj:j<5):E.I F (bU a i 5 j)=E.I F (bU b i 5 j):=xY (NX h h0 h1 hj)
/-! as far as they are copied -/
theorem OE:(E.B F (.fn 181 (.pr a (.pr b n)))=true)=(U.eqs ((E.L F a).take (E.I F n).toNat) ((E.L F b).take (E.I F n).toNat)=true):=rfl
end
end Go.SX

set_option linter.unusedVariables false
set_option linter.unusedSimpArgs false
namespace Go.SX
/-! ### paying, step by step -/
/-! the whole plan -/
/-! what stays true: the sources that are left are some of those that there were -/
end Go.SX

set_option linter.unusedVariables false
set_option linter.unusedSimpArgs false
namespace Go.SX
/-! ### a purse in the facts' words -/
section
variable {F:Env} {p0 p1 p2 p3 q0 q1 q2 q3 R T R1 T1 R2 T2 k n m g i j a b c d x y l v id cE:E}
/-! one mana of any colour -/
end
end Go.SX

set_option linter.unusedVariables false
set_option linter.unusedSimpArgs false
namespace Go.SX
mutual
theorem U.eq_symm:∀a b:U,U.eq a b=true->U.eq b a=true
 |.int a,b,h=>by cases b<;>simp_all[U.eq]
 |.bool a,b,h=>by cases b<;>simp_all[U.eq]
 |.str a,b,h=>by cases b<;>simp_all[U.eq]
 |.lst l,b,h=>by
  cases b with
  |lst m=>simp only[U.eq]at h ⊢;exact U.eqs_symm l m h
  |bx _ _ _ m=>simp only[U.eq]at h ⊢;exact U.eqs_symm l m h
  |_=>simp[U.eq]at h
 |.bx _ _ _ l,b,h=>by
  cases b with
  |lst m=>simp only[U.eq]at h ⊢;exact U.eqs_symm l m h
  |bx _ _ _ m=>simp only[U.eq]at h ⊢;exact U.eqs_symm l m h
  |_=>simp[U.eq]at h
theorem U.eqs_symm:∀l m:List U,U.eqs l m=true->U.eqs m l=true
 |[],m,h=>by cases m<;>simp_all[U.eqs]
 |x::xs,m,h=>by
  cases m with
  |nil=>simp[U.eqs]at h
  |cons y ys=>
   simp only[U.eqs,Bool.and_eq_true]at h ⊢
   exact⟨U.eq_symm x y h.1,U.eqs_symm xs ys h.2⟩
end
/-! ### boards that are the same -/
theorem ahH:∀(l ks r:List U),U.typs l ks r=true->l.length<=r.length->∀i,i<l.length->U.typ (l.getD i (.int 0)) (r.getD i (.int 0))=true
 |[],_,_,_,_,i,h=>absurd h (Nat.not_lt_zero _)
 |x::xs,ks,[],_,hl,_,_=>by simp at hl
 |x::xs,ks,k::r,h,hl,i,hi=>by
  simp only[U.typs,Bool.and_eq_true]at h;cases i with
  |zero=>simpa using h.1
  |succ i=>simpa using ahH xs ks r h.2 (by simpa using hl) i (by simpa using hi)
theorem aNw{l ks:List U}(h:U.typs l ks []=true)(hl:l.length<=ks.length){i:Nat}(hi:i<l.length):U.typ (l.getD i (.int 0)) (ks.getD i (.int 0))=true:=by
 cases l with
 |nil=>simp at hi
 |cons x xs=>cases ks with
  |nil=>simp at hl
  |cons k r=>exact ahH (x::xs) (k::r) (k::r) (by simpa[U.typs]using h) hl i hi
theorem ahE{u:U}{ks:List U}(h:U.typ u (.lst ks)=true):∃a n c l,u=.bx a n c l:=by
 cases u with
 |bx a n c l=>exact⟨a,n,c,l,rfl⟩
 |_=>simp[U.typ]at h
section
variable {F:Env} {x y l A a b k u i j p q n m r o c d w v X Y T N L e t C z s:E}
theorem oo:(E.B F (.fn 189 (.pr Y X))=true)=(∀j,j<38->gg j (cX (Y.den F) j) (cX (X.den F) j)=true):=by
 show(((List.range 38).all fun j=>gg j (cX (Y.den F) j) (cX (X.den F) j))=true)=_
 simp only[List.all_eq_true,List.mem_range]
theorem FP{j:Nat}(h:([0,6,7,8,9,20,21,22,23,31,32].contains j)=true)(a b:U):gg j a b=U.eq a b:=by
 have h9:(j==29||j==30)=false:=by
  cases e:(j==29||j==30)with
  |false=>rfl
  |true=>
   simp only[Bool.or_eq_true,beq_iff_eq]at e;rcases e with rfl|rfl<;>simp at h
 unfold gg
 rw[h9,h];rfl
theorem aJD(j:Nat)(h:(j==29||j==30)=false)(a:U):gg j a a=true:=by
 unfold gg
 rw[h]
 simp only[Bool.false_eq_true,if_false];split
 ·exact U.eq_rfl _
 ·split<;>exact beq_self_eq_true _
theorem ie(h:E.B F (.fn 189 (.pr Y X))=true)(c:Nat)(hc:([0,6,7,8,9,20,21,22,23,31,32].contains c&&decide (c<38))=true):E.B F (.fn 12 (.pr (.fn 1 (.pr Y (.int (Int.ofNat c)))) (.fn 1 (.pr X (.int (Int.ofNat c))))))=true:=by
 rw[oo]at h
 rw[Bool.and_eq_true,decide_eq_true_eq]at hc
 have:=h c hc.2
 rw[FP hc.1]at this
 exact this
theorem vn(h:E.B F (.fn 189 (.pr Y X))=true)(c:Nat)(hc:c∈[10,11,12,24,25,26]):E.B F (.fn 1 (.pr Y (.int (Int.ofNat c))))=E.B F (.fn 1 (.pr X (.int (Int.ofNat c)))):=by
 rw[oo]at h
 simp only[List.mem_cons,List.not_mem_nil,or_false]at hc;rcases hc with rfl|rfl|rfl|rfl|rfl|rfl
 all_goals first | exact eq_of_beq (h 10 (by decide)) | exact eq_of_beq (h 11 (by decide)) | exact eq_of_beq (h 12 (by decide)) | exact eq_of_beq (h 24 (by decide)) | exact eq_of_beq (h 25 (by decide)) | exact eq_of_beq (h 26 (by decide))
theorem fH(h:E.B F (.fn 189 (.pr Y X))=true)(c:Nat)(hc:c<38)(h1:(c==29||c==30)=false)(h2:[0,6,7,8,9,20,21,22,23,31,32].contains c=false)(h3:[10,11,12,24,25,26].contains c=false):E.I F (.fn 1 (.pr Y (.int (Int.ofNat c))))=E.I F (.fn 1 (.pr X (.int (Int.ofNat c)))):=by
 rw[oo]at h
 have:=h c hc
 unfold gg at this
 rw[h1,h2,h3]at this
 exact eq_of_beq this
theorem aMN(h:E.B F (.fn 189 (.pr Y X))=true):E.B F (.fn 187 (.pr (.fn 1 (.pr Y (.int 29))) (.fn 1 (.pr X (.int 29)))))=true:=by
 rw[oo]at h;exact h 29 (by decide)
theorem aMO(h:E.B F (.fn 189 (.pr Y X))=true):E.B F (.fn 187 (.pr (.fn 1 (.pr Y (.int 30))) (.fn 1 (.pr X (.int 30)))))=true:=by
 rw[oo]at h;exact h 30 (by decide)
/-- a row that is put together -/
def np(F:Env)(X:U):List E->Nat->Prop
  |[],_=>True
  |c ::cs,j=>gg j (c.den F) (cX X j)=true/\np F X cs (j+1)
theorem aaX{X:U}:∀(cs:List E)(j0 i:Nat),np F X cs j0->i<cs.length->gg (j0+i) ((cs.getD i (.int 0)).den F) (cX X (j0+i))=true
 |[],_,i,_,h=>absurd h (Nat.not_lt_zero _)
 |c::cs,j0,0,h,_=>h.1
 |c::cs,j0,i+1,h,hi=>by
  have:=aaX cs (j0+1) i h.2 (by simpa using hi)
  rw[show j0+(i+1)=j0+1+i by omega]
  simpa using this
theorem kL:∀(cs:List E)(i:Nat),i<cs.length->cX ((cL cs).den F) i=(cs.getD i (.int 0)).den F
 |[],i,h=>absurd h (Nat.not_lt_zero _)
 |c::cs,0,_=>rfl
 |c::cs,i+1,h=>
  kL cs i (by simpa using h)
theorem aMP{cs:List E}(hl:cs.length=38)(h:np F (X.den F) cs 0):E.B F (.fn 189 (.pr (cL cs) X))=true:=by
 rw[oo]
 intro j hj
 have:=aaX cs 0 j h (by omega)
 rw[Nat.zero_add]at this
 rw[kL cs j (by omega)]
 exact this
/-- a list of a board, in a slice -/
theorem af4{u:U}(h:dF u=true)(a:Option Addr)(n c:Nat):U.eq (.bx a n c u.toL) u=true:=by
  cases u with
  |bx a' n' c' l=>simp only[U.eq,U.toL];exact U.eqs_rfl l
  |lst l=>simp only[U.eq,U.toL];exact U.eqs_rfl l
  |_=>simp[dF]at h
theorem sj:(E.B F (.fn 116 X)=true)=((X.den F).toL.length=38/\(∀j∈[0,6,7,8,9,20,21,22,23,29,30,31,32],dF (cX (X.den F) j)=true)/\fT (cX (X.den F) 29).toL=true/\fT (cX (X.den F) 30).toL=true):=by
 show(tC (X.den F)=true)=_
 unfold tC
 rw[Bool.and_eq_true,Bool.and_eq_true,Bool.and_eq_true,List.all_eq_true,beq_iff_eq,and_assoc]
theorem aGl(h:E.B F (.fn 116 X)=true){j:Nat}{ks:List U}(hj:j<38)(hk:nN.getD j (.int 0)=.lst ks)(a:Option Addr)(n c:Nat):U.eq (.bx a n c (cX (X.den F) j).toL) (cX (X.den F) j)=true:=by
 rw[sj]at h
 refine af4 (h.2.1 j ?_) a n c
 have:∀j,j<38->(match nN.getD j (.int 0)with | .lst _=>true | _=>false)=true->j∈[0,6,7,8,9,20,21,22,23,29,30,31,32]:=by decide
 exact this j hj (by rw[hk])
theorem mj(h:E.B F (.fn 12 (.pr a b))=true):E.B F (.fn 12 (.pr b a))=true:=U.eq_symm _ _ h
/-! items that are copied -/
theorem acV(l:E):E.I F (.fn 0 l)=((E.L F l).length:Int):=rfl
theorem FN(T i:E)(w j:Nat)(h:0<=E.I F i):(bU T i w j).den F=(E.L F T).getD ((E.I F i).toNat*w+j) (.int 0):=by
 obtain⟨n,hn⟩:=Int.eq_ofNat_of_zero_le h
 show(E.L F T).getD (E.I F i*(w:Int)+(j:Int)).toNat (.int 0)=_
 rw[hn]
 congr 1
theorem zO:(E.B F (.fn 190 a)=true)=(∀i,i<(E.L F a).length->i%5=4->dF ((E.L F a).getD i (.int 0))=true):=by
 show(fT (E.L F a)=true)=_
 unfold fT;simp only[List.all_eq_true,List.mem_range,Bool.or_eq_true,Bool.not_eq_true',beq_eq_false_iff_ne];exact propext ⟨fun h i hi h5=>(h i hi).resolve_left (fun h=>h h5),fun h i hi=>Classical.byCases (fun h5:i%5=4=>.inr (h i hi h5)) .inl⟩
theorem ag3(h:E.B F (.fn 116 X)=true)(c:Nat)(hc:c=29\/c=30):E.B F (.fn 190 (.fn 1 (.pr X (.int (Int.ofNat c)))))=true:=by
 rw[sj]at h
 rcases hc with rfl|rfl
 ·exact h.2.2.1
 ·exact h.2.2.2
theorem aG7(hb:E.B F (.fn 190 b)=true)(h0:0<=E.I F i)(h3:E.I F i<E.I F (.fn 9 (.pr b (.int 5))))(a:Option Addr)(n c:Nat):U.eq (.bx a n c ((bU b i 5 4).den F).toL) ((bU b i 5 4).den F)=true:=by
 have e9:E.I F (.fn 9 (.pr b (.int 5)))=(((E.L F b).length/5:Nat):Int):=rfl
 rw[FN _ _ _ _ h0]
 rw[zO]at hb
 exact af4 (hb _ (by omega) (by omega)) a n c
/-- one item more is copied -/
theorem agY{x:List U}{k:Nat}(h:U.eqs x ((E.L F b).take (5*k))=true)(hb:E.B F (.fn 190 b)=true)(h0:E.I F i=k)(h3:E.I F i<E.I F (.fn 9 (.pr b (.int 5))))(v q:E):
    U.eqs (x++[(bU b i 5 0).den F,(bU b i 5 1).den F,(bU b i 5 2).den F,(bU b i 5 3).den F,(E.fn 28 (.pr (.pr v q) (bU b i 5 4))).den F]) ((E.L F b).take (5*k+5))=true:=by
  have e9:E.I F (.fn 9 (.pr b (.int 5)))=(((E.L F b).length/5:Nat):Int):=rfl;have hn:0<=E.I F i:=by omega
  rw[aNj _ _ (by omega)]
  refine KQ h ?_;have g (j:Nat):(bU b i 5 j).den F=(E.L F b).getD (5*k+j) (.int 0):=by rw[FN _ _ _ _ hn];congr 1;omega
  have g4:U.eq ((E.fn 28 (.pr (.pr v q) (bU b i 5 4))).den F) ((E.L F b).getD (5*k+4) (.int 0))=true:=by rw[<- g 4];exact aG7 hb hn h3 _ _ _
  simp only[U.eqs,g 0,g 1,g 2,g 3,g4,Nat.add_zero,U.eq_rfl,Bool.and_self]
theorem aML{n0:E}(h:E.B F (.fn 181 (.pr x (.pr b n0)))=true)(hb:E.B F (.fn 190 b)=true)(h0:0<=E.I F i)(h1:E.I F n0=E.I F i*5)(h2:E.I F (.fn 0 x)=E.I F i*5)(h3:E.I F i<E.I F (.fn 9 (.pr b (.int 5))))(h4:E.I F n=(E.I F i+1)*5)(v q:E):
  E.B F (.fn 181 (.pr (.fn 3 (.pr x (.fn 23 (.pr (bU b i 5 0) (.fn 23 (.pr (bU b i 5 1) (.fn 23 (.pr (bU b i 5 2) (.fn 23 (.pr (bU b i 5 3) (.fn 23 (.pr (.fn 28 (.pr (.pr v q) (bU b i 5 4))) (.fn 10 (.int 0)))))))))))))) (.pr b n)))=true:=by
 obtain⟨k,hk⟩:=Int.eq_ofNat_of_zero_le h0
 rw[acV]at h2
 rw[OE]at h ⊢
 have e1:(E.I F n0).toNat=5*k:=by omega
 have e2:(E.I F n).toNat=5*k+5:=by omega
 rw[e1,List.take_of_length_le (l:=E.L F x) (by omega)]at h
 rw[e2]
 have:=agY h hb hk h3 v q
 rw[List.take_of_length_le]
 ·exact this
 ·show(E.L F x++[_,_,_,_,_]).length<=_
  simp;omega
theorem aMK(hb:E.B F (.fn 190 b)=true)(h0:E.I F i=0)(h3:E.I F i<E.I F (.fn 9 (.pr b (.int 5))))(h4:E.I F n=(E.I F i+1)*5)(v q:E):
  E.B F (.fn 181 (.pr (.fn 23 (.pr (bU b i 5 0) (.fn 23 (.pr (bU b i 5 1) (.fn 23 (.pr (bU b i 5 2) (.fn 23 (.pr (bU b i 5 3) (.fn 23 (.pr (.fn 28 (.pr (.pr v q) (bU b i 5 4))) (.fn 10 (.int 0)))))))))))) (.pr b n)))=true:=by
 rw[OE]
 have e2:(E.I F n).toNat=5*0+5:=by omega
 rw[e2]
 have:=agY (x:=[]) (k:=0) (F:=F) (b:=b) (i:=i) rfl hb (by omega) h3 v q
 rw[List.take_of_length_le]
 ·exact this
 ·show([_,_,_,_,_]:List U).length<=_
  simp
theorem agZ{a0:E}(h:E.B F (.fn 181 (.pr x (.pr b n)))=true)(h1:E.I F n=E.I F (.fn 9 (.pr b (.int 5)))*5)(h2:E.I F (.fn 0 x)=E.I F n):E.B F (.fn 187 (.pr (.fn 28 (.pr a0 x)) b))=true:=by
 have e9:E.I F (.fn 9 (.pr b (.int 5)))=(((E.L F b).length/5:Nat):Int):=rfl
 rw[acV]at h2
 rw[OE]at h
 rw[pT,gI]
 have el:E.L F (.fn 28 (.pr a0 x))=E.L F x:=rfl
 rw[el]
 refine⟨by omega,?_⟩
 rw[show(E.L F x).length/5*5=(E.I F n).toNat by omega,show(E.L F b).length/5*5=(E.I F n).toNat by omega]
 exact h
theorem aMM(h:E.L F a=[])(h0:E.I F (.fn 9 (.pr b (.int 5)))<=0):E.B F (.fn 187 (.pr a b))=true:=by
 have e9:E.I F (.fn 9 (.pr b (.int 5)))=(((E.L F b).length/5:Nat):Int):=rfl
 rw[pT,gI,h]
 refine⟨by simp;omega,?_⟩
 rw[show(E.L F b).length/5*5=0 by omega]
 rfl
theorem NW(h:E.B F (.fn 158 (.pr l n))=true)(h0:0<=E.I F i)(h1:E.I F i<E.I F n):E.I F (.fn 9 (.pr (bU l i 5 4) (.int 2)))<=6:=by
 rw[GV]at h
 unfold eX at h
 rw[aap]at h
 have:=h (E.I F i).toNat (by omega)
 rw[decide_eq_true_eq]at this
 have e:E.I F (.fn 9 (.pr (bU l i 5 4) (.int 2)))=(((bU l i 5 4).den F).toL.length/2:Nat):=rfl
 rw[e,FN _ _ _ _ h0]
 omega
theorem dZ(j:Nat)(hj:(j==29||j==30)=false){cs:List E}(h:np F (X.den F) cs (j+1)):np F (X.den F) (.fn 1 (.pr X (.int (Int.ofNat j)))::cs) j:=
 ⟨aJD j hj _,h⟩
theorem ku(ht:E.B F (.fn 116 X)=true)(j:Nat)(hj:(j==29||j==30)=false)(h38:j<38){ks:List U}(hk:nN.getD j (.int 0)=.lst ks){a0:E}{cs:List E}(h:np F (X.den F) cs (j+1)):
  np F (X.den F) (.fn 28 (.pr a0 (.fn 1 (.pr X (.int (Int.ofNat j)))))::cs) j:=by
 refine⟨?_,h⟩
 have:∀j,j<38->(j==29||j==30)=false->(match nN.getD j (.int 0)with | .lst _=>true | _=>false)=true->[0,6,7,8,9,20,21,22,23,31,32].contains j=true:=by decide
 rw[FP (this j h38 hj (by rw[hk]))]
 exact aGl ht h38 hk _ _ _
theorem abf(j:Nat)(hj:(j==29||j==30)=true){c0:E}(hc:E.B F (.fn 187 (.pr c0 (.fn 1 (.pr X (.int (Int.ofNat j))))))=true){cs:List E}(h:np F (X.den F) cs (j+1)):np F (X.den F) (c0::cs) j:=by
 refine⟨?_,h⟩
 unfold gg
 rw[hj]
 exact hc
end
end Go.SX

set_option linter.unusedVariables false
set_option linter.unusedSimpArgs false
namespace Go.SX
/-! ### the first source of a colour -/
section
variable {F:Env} {p0 p1 p2 p3 q0 q1 q2 q3 R T R1 T1 R2 T2 k n m g i j a b c d x y l v id:E}
/-! a source less -/
end
end Go.SX

set_option linter.unusedVariables false
set_option linter.unusedSimpArgs false
namespace Go.SX
noncomputable def M5(F:Env)(C X p:E):Pu:=afx (E.L F C) (X.den F) (E.I F p)
section
variable {F:Env} {p0 p1 p2 p3 q0 q1 q2 q3 R T R1 T1 R2 T2 k n m g i j a b c d x y l v id c0 c1 c2 c3 C X p:E}
theorem acK:aN F (.fn 40 T)=dy (aN F T):=by
 show((dy _).map _).map _=_
 rw[List.map_map]
 exact List.map_id _
theorem aHT:E.I F (.fn 0 (.fn 40 T))=E.I F (.fn 0 T):=by
 rw[<- b8,<- b8,acK]
 rw[(vf _).length_eq]
end
end Go.SX

set_option linter.unusedVariables false
set_option linter.unusedSimpArgs false
namespace Go.SX
section
variable {F:Env} {p0 p1 p2 p3 q0 q1 q2 q3 R T R1 T1 R2 T2 k n m g i j a b c d x y l v id c0 c1 c2 c3 C X p L:E}
end
end Go.SX

set_option linter.unusedVariables false
set_option linter.unusedSimpArgs false
namespace Go.SX
/-! ### sources by their ids alone -/
/-! what holds of a purse all along -/
end Go.SX

set_option linter.unusedVariables false
set_option linter.unusedSimpArgs false
namespace Go.SX
section
variable {F:Env} {p0 p1 p2 p3 q0 q1 q2 q3 R T R1 T1 R2 T2 k n m g i j a b c d x y l v id c0 c1 c2 c3 C X p L:E}
end
end Go.SX

set_option linter.unusedVariables false
set_option linter.unusedSimpArgs false
namespace Go.SX
section
variable {F:Env} {p0 p1 p2 p3 q0 q1 q2 q3 R T k n a c0 c1 c2 c3 C X p:E}
end
end Go.SX

set_option linter.unusedVariables false
set_option linter.unusedSimpArgs false
namespace Go.SX
/-! ### what can be paid -/
def aGu(k:Nat)(l:List Int):Int:=(((E1 l).count (k:Int):Nat):Int)
def LA(k:Nat)(s:Pu):Int:=s.1.getD k 0+aGu k s.2.1
def ag(s:Pu):Int:=s.1.getD 0 0+s.1.getD 1 0+s.1.getD 2 0+s.1.getD 3 0+((s.2.1.length/2:Nat):Int)
def wfP(s:Pu):Prop:=s.2.1.length%2=0/\s.1.length=4/\(∀c∈E1 s.2.1,0<=c/\c<4)/\∀k,0<=s.1.getD k 0
/-- t comes of s by so many steps -/
def lessP(n:Int)(s t:Pu):Prop:=wfP t/\(∀j,LA j t<=LA j s)/\(∀j,t.1.getD j 0<=s.1.getD j 0)/\ag t=ag s-n/\t.2.2.length+t.2.1.length/2=s.2.2.length+s.2.1.length/2
theorem lessP.trans{a b:Int}{s t u:Pu}(h:lessP a s t)(h':lessP b t u):lessP (a+b) s u:=by
 obtain⟨_,h2,h3,h4,h5⟩:=h
 obtain⟨g1,g2,g3,g4,g5⟩:=h'
 exact⟨g1,fun j=>Int.le_trans (g2 j) (h2 j),fun j=>Int.le_trans (g3 j) (h3 j),by omega,by omega⟩
end Go.SX

set_option linter.unusedVariables false
set_option linter.unusedSimpArgs false
namespace Go.SX
/-! ### a board after it was paid tells the same -/
theorem Kh{n:Nat}{f g:Nat->Bool}(h:∀i,i<n->f i=g i):(List.range n).all f=(List.range n).all g:=by
 grind
theorem Dq{l m:List U}(h:U.eqs l m=true):l.map U.toI=m.map U.toI:=by
 refine List.ext_getElem (by simp[ky h]) fun i h1 h2=>?_
 have:=xY (rf i h)
 grind
theorem aHe(l:List U){i:Nat}(h:l.length<=i)(d:U):l.getD i d=d:=by grind
section
variable {Y X:U} {p:Nat} {L m:List Int} (h:ae2 Y X p L m=true) (hY:Y.toL.length=38) (hX:X.toL.length=38)
include h hY hX
end
end Go.SX

set_option linter.unusedVariables false
set_option linter.unusedSimpArgs false
namespace Go.SX
/-! ### a purse and what is left of it -/
end Go.SX

set_option linter.unusedVariables false
set_option linter.unusedSimpArgs false
namespace Go.SX
mutual
theorem U.eq_trans:∀a b c:U,U.eq a b=true->U.eq b c=true->U.eq a c=true
  |.int a,b,c,h,g=>by
    cases b with
    | int b => have e  := by simpa[U.eq]using h
               subst e;exact g
    |_=>simp[U.eq]at h
  |.bool a,b,c,h,g=>by
    cases b with
    | bool b => have e  := by simpa[U.eq]using h
                subst e;exact g
    |_=>simp[U.eq]at h
  |.str a,b,c,h,g=>by
    cases b with
    | str b=>cases c with
      |str c=>
        simp_all[U.eq]
      |_=>simp[U.eq]at g
    |_=>simp[U.eq]at h
  |.lst l,b,c,h,g=>by
    cases b<;>cases c<;>simp only[U.eq]at h g ⊢ <;> first | exact U.eqs_trans l _ _ h g | cases h | cases g
  |.bx _ _ _ l,b,c,h,g=>by
    cases b<;>cases c<;>simp only[U.eq]at h g ⊢ <;> first | exact U.eqs_trans l _ _ h g | cases h | cases g
theorem U.eqs_trans:∀a b c,U.eqs a b=true->U.eqs b c=true->U.eqs a c=true
 |[],b,c,h,g=>by grind[U.eqs]
 |x::xs,b,c,h,g=>by
  cases b with
  |nil=>simp[U.eqs]at h
  |cons y ys=>cases c with
   |nil=>simp[U.eqs]at g
   |cons z zs=>
    simp only[U.eqs,Bool.and_eq_true]at h g ⊢
    exact⟨U.eq_trans x y z h.1 g.1,U.eqs_trans xs ys zs h.2 g.2⟩
end
theorem af5{u v:U}(h:U.eq u v=true):dF u=dF v:=by
 cases u<;>cases v<;>simp_all[U.eq,dF]
theorem Do{u v:U}(h:U.eqs u.toL v.toL=true)(hu:dF u=true)(hv:dF v=true):U.eq u v=true:=by
 cases u<;>cases v<;>simp_all[U.eq,dF,U.toL]
theorem abD:∀ {l m:List U} (i:Nat) {v w:U},U.eqs l m=true->U.eq v w=true->U.eqs (l.set i v) (m.set i w)=true
 |[],[],i,_,_,_,_=>by rfl
 |[],_::_,_,_,_,h,_=>by simp[U.eqs]at h
 |_::_,[],_,_,_,h,_=>by simp[U.eqs]at h
 |x::l,y::m,0,v,w,h,g=>by
  simp_all[U.eqs]
 |x::l,y::m,i+1,v,w,h,g=>by
  simp only[U.eqs,Bool.and_eq_true,List.set_cons_succ]at h ⊢;exact⟨h.1,abD i h.2 g⟩
theorem aJH(l:List U){i:Nat}(h:i<l.length):l.set i (l.getD i (.int 0))=l:=by
 simp_all
theorem abE:∀(n:Nat){l m:List U},U.eqs l m=true->U.eqs (l.take n) (m.take n)=true
 |0,l,m,_=>by rfl
 |n+1,[],[],_=>by rfl
 |n+1,[],_::_,h=>by simp[U.eqs]at h
 |n+1,_::_,[],h=>by simp[U.eqs]at h
 |n+1,x::l,y::m,h=>by
  simp only[U.eqs,Bool.and_eq_true,List.take_succ_cons]at h ⊢;exact⟨h.1,abE n h.2⟩
section
variable {F:Env} {x y l A a b k u i j p q n m r o c d w v X Y T N L e t C z s:E}
/-! lists that are the same -/
theorem GW:(E.B F (.fn 200 (.pr a b))=true)=(U.eqs (E.L F a) (E.L F b)=true):=rfl
theorem aNM:(E.B F (.fn 201 a)=true)=(dF (a.den F)=true):=rfl
theorem ag4:E.B F (.fn 200 (.pr a a))=true:=U.eqs_rfl _
theorem ml:E.B F (.fn 200 (.pr (.fn 28 (.pr z a)) a))=true:=U.eqs_rfl _
theorem aIK(h:E.I F (.fn 0 b)=0):E.L F b=[]:=by
 have e:E.I F (.fn 0 b)=(E.L F b).length:=rfl;simp_all
theorem aMS(h:E.I F (.fn 0 b)=0):E.B F (.fn 200 (.pr (.fn 10 a) b))=true:=by rw[GW,aIK h];rfl
theorem mm:E.B F (.fn 201 (.fn 28 a))=true:=rfl
theorem aMT(h:E.B F (.fn 200 (.pr a b))=true):E.B F (.fn 187 (.pr a b))=true:=by
 rw[GW]at h
 rw[pT,gI,ky h]
 exact⟨rfl,abE _ h⟩
theorem aMU(h:E.B F (.fn 200 (.pr a b))=true)(g:E.B F (.fn 190 b)=true):E.B F (.fn 190 a)=true:=by
 grind[GW,zO,af5,rf,ky]
/-- a target's list in a copied item -/
theorem Ta(h0:0<=E.I F i):E.L F (.fn 2 (.pr a (.pr (.fn 6 (.pr (.fn 8 (.pr i (.int 5))) (.int 4))) v)))=(E.L F a).set ((E.I F i).toNat*5+4) (v.den F):=by
  show(E.L F a).set (E.I F i*5+4).toNat (v.den F)=_
  grind
theorem ag1(h:E.B F (.fn 187 (.pr a b))=true)(hs:E.B F (.fn 190 a)=true)(h0:0<=E.I F i)(h1:E.I F i<E.I F (.fn 9 (.pr b (.int 5))))(hv:E.B F (.fn 200 (.pr v (.fn 1 (.pr a (.fn 6 (.pr (.fn 8 (.pr i (.int 5))) (.int 4)))))))=true)(hsv:E.B F (.fn 201 v)=true):
  E.B F (.fn 187 (.pr (.fn 2 (.pr a (.pr (.fn 6 (.pr (.fn 8 (.pr i (.int 5))) (.int 4))) v))) b))=true/\E.B F (.fn 190 (.fn 2 (.pr a (.pr (.fn 6 (.pr (.fn 8 (.pr i (.int 5))) (.int 4))) v))))=true:=by
 have e9:E.I F (.fn 9 (.pr b (.int 5)))=(E.L F b).length/5:=rfl
 rw[pT,gI]at h
 rw[zO]at hs
 rw[GW]at hv
 rw[aNM]at hsv
 have hi:(E.I F i).toNat*5+4<(E.L F a).length:=by omega
 have hcell:E.L F (.fn 1 (.pr a (.fn 6 (.pr (.fn 8 (.pr i (.int 5))) (.int 4)))))=((E.L F a).getD ((E.I F i).toNat*5+4) (.int 0)).toL:=by
  show((E.L F a).getD (E.I F i*5+4).toNat _).toL=_
  grind
 rw[hcell]at hv
 have heq:=Do hv hsv (hs _ hi (by omega));constructor
 ·rw[pT,gI,Ta h0,List.length_set]
  rw[List.take_set]
  have e2:((E.L F a).take ((E.L F a).length/5*5)).getD ((E.I F i).toNat*5+4) (.int 0)=(E.L F a).getD ((E.I F i).toNat*5+4) (.int 0):=by
   grind
  have g3:=abD ((E.I F i).toNat*5+4) (U.eqs_rfl ((E.L F a).take ((E.L F a).length/5*5))) heq;grind[aJH,U.eqs_trans]
 grind[zO,Ta]
theorem aMI(h:E.B F (.fn 158 (.pr b n))=true)(g:E.B F (.fn 187 (.pr a b))=true)(h0:0<=E.I F i)(h1:E.I F i<E.I F (.fn 9 (.pr b (.int 5))))(hn:E.I F n=E.I F (.fn 9 (.pr b (.int 5)))):E.I F (.fn 9 (.pr (.fn 1 (.pr a (.fn 6 (.pr (.fn 8 (.pr i (.int 5))) (.int 4))))) (.int 2)))<=6:=by
 have e:=r6 (NX g h0 h1 (j:=4) (by decide)) (.int 2);have e':E.I F (.fn 9 (.pr (.fn 1 _) _))=E.I F _:=e
 rw[GV]at h
 unfold eX at h;have e3:E.I F (.fn 9 (.pr (bU b i 5 4) (.int 2)))=((bU b i 5 4).den F).toL.length/2:=rfl;grind[FN]
/-! a search by halves -/
end
end Go.SX

set_option linter.unusedVariables false
set_option linter.unusedSimpArgs false
namespace Go.SX
section
variable {F:Env} {x y l A a b k u i j p q n m r o c d w v X Y T N L e t C z s q0 q1 q2 q3 c0 c1 c2 c3:E}
end
end Go.SX

set_option linter.unusedVariables false
set_option linter.unusedSimpArgs false
namespace Go.SX
/-! what comes in has the shape -/
theorem ahF{u:U}{ks:List U}(h:U.typ u (.lst ks)=true):dF u=true:=by
 obtain⟨a,n,c,l,rfl⟩:=ahE h;rfl
theorem ahG{a b c d e:U}:∀(n:Nat)(l:List U),U.typs l [a,b,c,d,e] []=true->n*5+4<l.length->U.typ (l.getD (n*5+4) (.int 0)) e=true
 |0,l,h,hl=>by
  match l,hl with
  |x0::x1::x2::x3::x4::l',_=>simp_all[U.typs]
 |n+1,l,h,hl=>by
  match l,hl with
  |x0::x1::x2::x3::x4::l',hl=>
   have h':U.typs l' [a,b,c,d,e] []=true:=by simp_all[U.typs]
   have:=ahG n l' h' (by grind)
   rw[show(n+1)*5+4=(n*5+4)+5 by omega]
   exact this
theorem aHI{l:List U}(h:U.typs l Ej []=true):fT l=true:=by
 unfold fT
 rw[List.all_eq_true]
 intro i hi;have hi:=List.mem_range.1 hi;by_cases h5:i%5=4
 ·have e:i=i/5*5+4:=by omega
  have:=ahG (i/5) l h (by omega)
  rw[<- e]at this
  rw[ahF this,Bool.or_true]
 simp_all
theorem aFV{us:List U}(h:us.length=38)(t:U.typs us nN []=true):tC (.lst us)=true:=by
 have key:∀j,j<38->U.typ _ (nN.getD j _)=true:=fun j hj=>aNw t (by rw[h];decide) (by omega)
 have it:∀j,j<38->nN.getD j _=.lst Ej->fT (us.getD j _).toL=true:=fun j hj hk=>by
  have:=key j hj
  rw[hk]at this
  obtain⟨a,n,c,l,e⟩:=ahE this
  rw[e]at this ⊢
  exact aHI (l:=l) (by simp_all[U.typ])
 have sh:∀j,j<38->(match nN.getD j (.int 0)with | .lst _=>true | _=>false)=true->dF (us.getD j (.int 0))=true:=fun j hj hk=>by
  grind[ahF]
 unfold tC
 rw[Bool.and_eq_true,Bool.and_eq_true,Bool.and_eq_true,List.all_eq_true,beq_iff_eq]
 refine⟨⟨h,fun j hj=>?_⟩,it 29 (by omega) rfl,it 30 (by omega) rfl⟩
 have hj':j<38:=by simp only[List.mem_cons,List.not_mem_nil,or_false]at hj;omega
 refine sh j hj' ?_;simp only[List.mem_cons,List.not_mem_nil,or_false]at hj;rcases hj with rfl|rfl|rfl|rfl|rfl|rfl|rfl|rfl|rfl|rfl|rfl|rfl|rfl<;>rfl
section
variable {F:Env} {x y l A a b k u i j p q n m r o c d w v X Y T N L e t C z s q0 q1 q2 q3 c0 c1 c2 c3 m0 m1 m2 m3 d0 d1 d2 d3:E}
theorem aNJ{x:Int}(h0:0<=x)(h1:x<=1000000):IntKind.i64.wrap x=x/\IntKind.u64.wrap x=x:=by
 constructor
 ·obtain⟨s,e,_,r⟩:=ab x
  omega
 ·simp only[IntKind.wrap,IntKind.bits,IntKind.signed,Bool.false_and,Bool.false_eq_true,if_false];omega
theorem jl(h0:0<=E.I F i)(h1:0<=E.I F j)(h2:E.I F i<=1000)(h3:E.I F j<=1000):E.I F (.wr .i64 (.ar .shr .u64 (.wr .u64 (.ar .add .i64 i j)) (.int 1)))=(E.I F i+E.I F j)/2:=by
 have e:E.I F (.wr _ (.ar .shr .u64 (.wr .u64 (.ar .add _ i j)) (.int 1)))=IntKind.i64.wrap ((IntKind.u64.wrap (IntKind.i64.wrap (E.I F i+E.I F j))).fdiv (2^(min (1:Int).toNat 64))):=rfl;grind[aNJ]
theorem jM:E.I F (.fn 9 (.pr a (.int 1)))=E.I F (.fn 0 a):=by
 show(E.L F a).length/1=((E.L F a).length:Int)
 omega
/-! the law -/
noncomputable def hv(F:Env)(C X p:E)(k:Nat):Int:=LA k (M5 F C X p)
noncomputable def tt(F:Env)(C X p:E):Int:=ag (M5 F C X p)
noncomputable def ns(F:Env)(C X p:E):Int:=(((M5 F C X p).2.1.length/2:Nat):Int)
end
end Go.SX

set_option linter.unusedVariables false
set_option linter.unusedSectionVars false
namespace Go.SX
/-! ### targets stay Dv -/
section
variable {F:Env} {l i n v c x:E}
theorem ae1(h:0<=E.I F i)(k:Nat):(E.I F (.fn 6 (.pr (.fn 8 (.pr i (.int 5))) (.int k)))).toNat=(E.I F i).toNat*5+k:=by
 show(E.I F i*5+k).toNat=_
 omega
theorem abO(h0:0<=E.I F i)(h:E.B F (.fn 158 (.pr l n))=true):E.B F (.fn 158 (.pr (.fn 2 (.pr l (.pr (.fn 6 (.pr (.fn 8 (.pr i (.int 5))) (.int 2))) v))) n))=true:=by
 have h:eX (E.L F l) (E.I F n).toNat=true:=h;show eX ((E.L F l).set (E.I F (.fn 6 (.pr _ (.int (2:Nat))))).toNat _) (E.I F n).toNat=true
 rw[ae1 h0]
 simp only[eX]at h ⊢;grind
def Oj(l i x:E):E:=.fn 2 (.pr l (.pr (.fn 6 (.pr (.fn 8 (.pr i (.int 5))) (.int 4))) (.fn 21 (.pr (.fn 1 (.pr l (.fn 6 (.pr (.fn 8 (.pr i (.int 5))) (.int 4))))) x))))
theorem ahy(h0:0<=E.I F i)(k:Nat):(((E.L F (Oj l i (.fn 2 (.pr (.fn 1 (.pr l (.fn 6 (.pr (.fn 8 (.pr i (.int 5))) (.int 4))))) x)))).getD k (.int 0)).toL.length=((E.L F l).getD k (.int 0)).toL.length):=by
 show((((E.L F l).set (E.I F _).toNat (U.bx _ _ _ ((((E.L F l).getD (E.I F _).toNat _).toL).set _ _))).getD k _).toL.length)=_
 grind[U.toL]
theorem abP(h0:0<=E.I F i)(h:E.B F (.fn 158 (.pr l n))=true):E.B F (.fn 158 (.pr (Oj l i (.fn 2 (.pr (.fn 1 (.pr l (.fn 6 (.pr (.fn 8 (.pr i (.int 5))) (.int 4))))) x))) n))=true:=by
 have h:eX (E.L F l) (E.I F n).toNat=true:=h;show eX (E.L F _) (E.I F n).toNat=true;simp only[eX]at h ⊢;grind[ahy]
theorem tP(h0:0<=E.I F i):E.I F (.fn 9 (.pr (.fn 1 (.pr (Oj l i (.fn 2 (.pr (.fn 1 (.pr l (.fn 6 (.pr (.fn 8 (.pr i (.int 5))) (.int 4))))) x))) (.fn 6 (.pr (.fn 8 (.pr i (.int 5))) (.int 4))))) (.int 2)))=E.I F (.fn 9 (.pr (.fn 1 (.pr l (.fn 6 (.pr (.fn 8 (.pr i (.int 5))) (.int 4))))) (.int 2))):=by
 show(((E.L F _).getD _ _).toL.length/2)=(((E.L F l).getD _ _).toL.length/2:Int)
 rw[ahy h0];rfl
theorem Dw(h0:0<=E.I F i)(h1:E.I F i<E.I F n)(h:E.B F (.fn 158 (.pr l n))=true):E.I F (.fn 9 (.pr (.fn 1 (.pr l (.fn 6 (.pr (.fn 8 (.pr i (.int 5))) (.int 4))))) (.int 2)))<=6:=by
 have h:eX (E.L F l) (E.I F n).toNat=true:=h;simp only[eX]at h;have e:=ae1 h0 4
 show(((E.L F l).getD (E.I F _).toNat _).toL.length/2:Int)<=6
 grind
end
end Go.SX

set_option linter.unusedVariables false
set_option linter.unusedSectionVars false
namespace Go.SX
/-! ### the paid board's numbers and objects (218, 219) -/
section
variable {F:Env} {x y l A a b k u i j p q n m r o c d w v X Y T N L e t C z c0 c1 c2 c3 m0 m1 m2 m3:E}
/-- a board's numbers with a player's pool -/
noncomputable def aIM(P:Nat)(X m0 m1 m2 m3:E):E:=cL (fB.map fun j=>if j=2+14*P then m0 else if j=3+14*P then m1 else if j=4+14*P then m2 else if j=5+14*P then m3 else .fn 1 (.pr X (.int (Int.ofNat j))))
end
end Go.SX

set_option linter.unusedVariables false
set_option linter.unusedSectionVars false
namespace Go.SX
/-! ### what is tapped are objects -/
/-! ### objects are tapped one by one -/
section
variable {F:Env} {x y l A a b k u i j p q n m r o c d w v X Y T N L e t C z J c0 c1 c2 c3 m0 m1 m2 m3:E}
theorem aMR(h:E.B F (.fn 187 (.pr (.fn 28 (.pr z x)) b))=true)(g:E.B F (.fn 190 b)=true):E.B F (.fn 195 (.fn 28 (.pr z x)))=true:=by
 have h:fF (E.L F x) (E.L F b)=true:=h;show E.B F (.fn 190 x)=true
 rw[zO]at g ⊢
 rw[gI]at h
 intro i hi h5;have hq:=rf i h.2;grind[af5]
end
end Go.SX

set_option linter.unusedVariables false
set_option linter.unusedSectionVars false
namespace Go.SX
/-! ### an owned paid board against the reference's -/
theorem KS{a b c:List U}(h:U.eqs a b=true)(g:U.eqs b c=true):U.eqs a c=true:=
 U.eq_trans (.lst a) (.lst b) (.lst c) h g
theorem KR{a b:List U}(h:U.eqs a b=true):U.eqs b a=true:=U.eq_symm (.lst a) (.lst b) h
section
variable {F:Env} {x y l A a b k u i j p q n m r o c d w v X Y W R T N L e t C z c0 c1 c2 c3:E}
/-- a row whose slices are slices -/
def zt:E->Bool
  |.fn 28 _=>true
  |.fn 30 _=>true
  |_=>false
theorem af3{e:E}(h:zt e=true):dF (e.den F)=true:=by
 unfold zt at h;split at h
 ·rfl
 ·rfl
 ·cases h
theorem aMh{cs:List E}(hl:cs.length=38)(h:([0,6,7,8,9,20,21,22,23,29,30,31,32].all fun j=>zt (cs.getD j (.int 0)))=true)(h29:E.B F (.fn 190 (cs.getD 29 (.int 0)))=true)(h30:E.B F (.fn 190 (cs.getD 30 (.int 0)))=true):E.B F (.fn 116 (cL cs))=true:=by
 rw[sj]
 have lenm:∀cs,((cL cs).den F).toL.length=cs.length:=by
  intro cs;induction cs with
  |nil=>rfl
  |cons c cs ih=>show(((cL cs).den F).toL.length+1)=_;simp_all
 refine⟨by simp_all,fun j hj=>?_,?_,?_⟩
 ·have hj38:j<38:=by
   simp only[List.mem_cons,List.not_mem_nil,or_false]at hj;omega
  grind[kL,af3]
 ·rw[kL cs 29 (by omega)];exact h29
 ·rw[kL cs 30 (by omega)];exact h30
theorem zr{a b:List U}(h:fF a b=true)(n:Nat)(hn:n<=b.length/5):eX a n=eX b n:=by
 rw[gI]at h
 refine Kh fun i hi=>?_
 have e:=rf (i*5+4) h.2;grind[ky,re]
theorem aMk(h:E.B F (.fn 189 (.pr W R))=true)(hs:E.B F (.fn 117 W)=true):E.B F (.fn 117 R)=true:=by
 rw[oo]at h
 have hs:je _=true:=hs;show je _=true;have ls:∀j,[0,6,7,8,9,20,21,22,23,31,32].contains j=true->j<38->U.eqs (cX (W.den F) j).toL (cX (R.den F) j).toL=true:=fun j hj h38=>by
  grind[FP,re]
 have it:∀j,(j==29||j==30)=true->j<38->fF (cX (W.den F) j).toL (cX (R.den F) j).toL=true:=fun j hj h38=>by
  grind[gg]
 have hz:∀k,k<8->aY _ k=aY _ k:=fun k hk=>Dq (ls _ (by
  have:k=0\/k=1\/k=2\/k=3\/k=4\/k=5\/k=6\/k=7:=by omega
  rcases this with rfl|rfl|rfl|rfl|rfl|rfl|rfl|rfl<;>rfl) (by omega))
 have e29:=it 29 (by rfl) (by decide);have e30:=it 30 (by rfl) (by decide);have n29:=((gI _ _).1 e29).1;have n30:=((gI _ _).1 e30).1;have ea:aX _=aX _:=Dq (ls 31 (by rfl) (by decide));have eb:cS (W.den F)=cS (R.den F):=by
  have:=ky (ls 32 (by rfl) (by decide))
  simp_all[cS]
 have eo:aT (W.den F)=aT (R.den F):=by
  grind[ky,aT]
 have es:cD _=cD _:=n29;have ezz:((List.range 8).all fun z=>decide ((aY (W.den F) z).length<=40))=(List.range 8).all fun z=>decide ((aY (R.den F) z).length<=40):=Kh fun k hk=>by simp_all
 unfold je at hs ⊢
 rw[<- ezz,<- ea,<- eb,<- eo,<- es,<- n30]
 rw[<- zr e29 _ (by rw[es];exact Nat.le_refl _),<- zr e30 _ (by omega)]
 omega
/-- items' targets are Dv in a copy -/
theorem agU(h:E.B F (.fn 187 (.pr l b))=true)(g:E.B F (.fn 158 (.pr b (.fn 9 (.pr b (.int 5)))))=true)(e:E.I F n=E.I F (.fn 9 (.pr b (.int 5)))):E.B F (.fn 158 (.pr l n))=true:=by
  rw[pT]at h
  have en:(E.I F (.fn 9 (.pr b (.int 5)))).toNat=(E.L F b).length/5:=rfl;show eX (E.L F l) (E.I F n).toNat=true
  rw[e,en]at *
  rw[zr h _ (Nat.le_refl _)]
  exact g
end
end Go.SX

set_option linter.unusedVariables false
set_option linter.unusedSectionVars false
namespace Go.SX
/-! ### gives: an owned board by its numbers and lists (221) -/
theorem DZ{j i:Nat}(hj:j<38)(h:jN.idxOf? j=some i):(j,i)∈[(0,0),(6,1),(7,2),(8,3),(9,4),(20,5),(21,6),(22,7),(23,8),(29,9),(30,10),(31,11),(32,12)]:=by
 have:∀j,j<38->(match jN.idxOf? j with | some i=>[(0,0),(6,1),(7,2),(8,3),(9,4),(20,5),(21,6),(22,7),(23,8),(29,9),(30,10),(31,11),(32,12)].contains (j,i) | none=>true)=true:=by decide
 grind
theorem aHp{j:Nat}(hj:j<38)(h:jN.idxOf? j=none):(decide (fB.idxOf j<25)&&(fB.getD (fB.idxOf j) 0==j))=true/\(decide (j<38) && !([0,6,7,8,9,20,21,22,23,29,30,31,32].contains j))=true:=by
 have:∀j,j<38->(match jN.idxOf? j with | some i=>true | none=>(decide (fB.idxOf j<25)&&(fB.getD (fB.idxOf j) 0==j))&&(decide (j<38) && !([0,6,7,8,9,20,21,22,23,29,30,31,32].contains j)))=true:=by decide
 grind
section
variable {F:Env} {x y l A a b k u i j p q n m r o c d w v X Y W R T N L e t C z c0 c1 c2 c3 l0 l1 l2 l3 l4 l5 l6 l7 l8 l9 l10 l11 l12:E}
noncomputable def C7(W Y l0 l1 l2 l3 l4 l5 l6 l7 l8 l9 l10 l11 l12:E):E:=.fn 221 (.pr W (.pr Y (.pr l0 (.pr l1 (.pr l2 (.pr l3 (.pr l4 (.pr l5 (.pr l6 (.pr l7 (.pr l8 (.pr l9 (.pr l10 (.pr l11 (.pr l12 (.int 0))))))))))))))))
theorem aNN(h:E.B F (C7 W Y l0 l1 l2 l3 l4 l5 l6 l7 l8 l9 l10 l11 l12)=true):oe (W.den F) (Y.den F) (fun i=>([l0,l1,l2,l3,l4,l5,l6,l7,l8,l9,l10,l11,l12].getD i (.int 0)).den F)=true:=by
 have h:oe (W.den F) (Y.den F) _=true:=h;unfold oe at h ⊢
 rw[List.all_eq_true]at h ⊢
 intro j hj;have hh:=h j hj;have hj:=List.mem_range.1 hj;cases e:jN.idxOf? j with
 |none=>simp_all
 |some i=>
  have:=DZ hj e
  simp only[List.mem_cons,List.not_mem_nil,or_false]at this;rcases this with⟨rfl,rfl⟩|⟨rfl,rfl⟩|⟨rfl,rfl⟩|⟨rfl,rfl⟩|⟨rfl,rfl⟩|⟨rfl,rfl⟩|⟨rfl,rfl⟩|⟨rfl,rfl⟩|⟨rfl,rfl⟩|⟨rfl,rfl⟩|⟨rfl,rfl⟩|⟨rfl,rfl⟩|⟨rfl,rfl⟩<;>exact hh
theorem aNO(h:oe (W.den F) (Y.den F) (fun i=>([l0,l1,l2,l3,l4,l5,l6,l7,l8,l9,l10,l11,l12].getD i (.int 0)).den F)=true):E.B F (C7 W Y l0 l1 l2 l3 l4 l5 l6 l7 l8 l9 l10 l11 l12)=true:=by
 show oe (W.den F) (Y.den F) _=true;unfold oe at h ⊢
 rw[List.all_eq_true]at h ⊢
 intro j hj;have hh:=h j hj;have hj:=List.mem_range.1 hj;cases e:jN.idxOf? j with
 |none=>simp_all
 |some i=>
  have:=DZ hj e
  simp only[List.mem_cons,List.not_mem_nil,or_false]at this;rcases this with⟨rfl,rfl⟩|⟨rfl,rfl⟩|⟨rfl,rfl⟩|⟨rfl,rfl⟩|⟨rfl,rfl⟩|⟨rfl,rfl⟩|⟨rfl,rfl⟩|⟨rfl,rfl⟩|⟨rfl,rfl⟩|⟨rfl,rfl⟩|⟨rfl,rfl⟩|⟨rfl,rfl⟩|⟨rfl,rfl⟩<;>exact hh
/-- what is lent of it, as a row -/
noncomputable def u6(zs ls:List E)(Y:E):E:=cL ((List.range 38).map fun j=>match jN.idxOf? j with
  |some i=> .fn 28 (.pr (zs.getD i (.int 0)) (ls.getD i (.int 0)))
  |none=> .fn 1 (.pr Y (.int (Int.ofNat (fB.idxOf j)))))
theorem aJt(zs ls:List E)(j:Nat)(hj:j<38):cX ((u6 zs ls Y).den F) j=(match jN.idxOf? j with
 |some i=>E.fn 28 (.pr (zs.getD i (.int 0)) (ls.getD i (.int 0)))
 |none=>E.fn 1 (.pr Y (.int (Int.ofNat (fB.idxOf j))))).den F:=by
 have:=kL (F:=F) ((List.range 38).map fun j=>match jN.idxOf? j with
  |some i=>E.fn 28 (.pr (zs.getD i (.int 0)) (ls.getD i (.int 0)))
  |none=>E.fn 1 (.pr Y (.int (Int.ofNat (fB.idxOf j))))) j (by simp_all)
 refine Eq.trans this ?_;simp_all
theorem ag2(zs:List E)(h:E.B F (C7 W Y l0 l1 l2 l3 l4 l5 l6 l7 l8 l9 l10 l11 l12)=true)(hW:E.B F (.fn 116 W)=true):E.B F (.fn 189 (.pr W (u6 zs [l0,l1,l2,l3,l4,l5,l6,l7,l8,l9,l10,l11,l12] Y)))=true:=by
 have h:=aNN h
 rw[sj]at hW
 rw[oo]
 intro j hj;unfold oe at h
 rw[List.all_eq_true]at h
 have hh:=h j (List.mem_range.2 hj)
 rw[aJt zs _ j hj]
 cases e:jN.idxOf? j with
 |none=>
  simp only[e]at hh ⊢;exact hh
 |some i=>
  simp only[e]at hh ⊢;have t:=DZ hj e;by_cases h9:(j==29||j==30)=true
  ·rw[if_pos h9]at hh
   unfold gg
   rw[if_pos h9]
   exact hh
  ·rw[if_neg h9]at hh
   have hc:[0,6,7,8,9,20,21,22,23,31,32].contains j=true/\j∈[0,6,7,8,9,20,21,22,23,29,30,31,32]:=by
    simp only[List.mem_cons,List.not_mem_nil,or_false]at t;rcases t with⟨rfl,rfl⟩|⟨rfl,rfl⟩|⟨rfl,rfl⟩|⟨rfl,rfl⟩|⟨rfl,rfl⟩|⟨rfl,rfl⟩|⟨rfl,rfl⟩|⟨rfl,rfl⟩|⟨rfl,rfl⟩|⟨rfl,rfl⟩|⟨rfl,rfl⟩|⟨rfl,rfl⟩|⟨rfl,rfl⟩<;>simp at h9 ⊢
   rw[FP hc.1]
   exact Do hh (hW.2.1 j hc.2) rfl
theorem aMj(zs:List E)(h9:E.B F (.fn 190 l9)=true)(h10:E.B F (.fn 190 l10)=true):E.B F (.fn 116 (u6 zs [l0,l1,l2,l3,l4,l5,l6,l7,l8,l9,l10,l11,l12] Y))=true:=
 aMh rfl rfl h9 h10
/-! zero boards -/
def zE:E->Bool
 |.fn 28 (.pr _ (.fn 10 _))=>true
 |.fn 30 (.int _)=>true
 |.int 0=>true
 |.bool false=>true
 |_=>false
theorem aNP{e:E}(h:zE e=true):(e.den F).toL=[]/\(e.den F).toI=0/\(e.den F).toB=false:=by
 unfold zE at h;split at h
 ·exact⟨rfl,rfl,rfl⟩
 ·exact⟨rfl,rfl,rfl⟩
 ·exact⟨rfl,rfl,rfl⟩
 ·exact⟨rfl,rfl,rfl⟩
 ·cases h
theorem OK{cs:List E}(h:cs.all zE=true)(j:Nat):(cX ((cL cs).den F) j).toL=[]/\(cX ((cL cs).den F) j).toI=0/\(cX ((cL cs).den F) j).toB=false:=by
 have lenm:∀cs,((cL cs).den F).toL.length=cs.length:=by
  intro cs;induction cs with
  |nil=>rfl
  |cons c cs ih=>show(((cL cs).den F).toL.length+1)=_;simp_all
 by_cases hj:j<cs.length
 ·simp_all[kL,aNP]
 ·unfold cX
  rw[aHe _ (by simp_all)]
  exact⟨rfl,rfl,rfl⟩
theorem aMn{cs:List E}(h:cs.all zE=true):E.B F (.fn 117 (cL cs))=true:=by
 show je _=true;have h0:=fun j=>(OK (F:=F) h j).1
 have hz:∀k,aY ((cL cs).den F) k=[]:=fun k=>by simp_all[aY,br]
 simp_all[je,cD,aT,cS,aX,br,eX]
theorem aMQ{cs ds:List E}(h:cs.all zE=true)(h':ds.all zE=true)(hl:cs.length=38)(hl':ds.length=38)(hs:([0,6,7,8,9,20,21,22,23,31,32].all fun j=>zt (cs.getD j (.int 0)))=true)(hs':([0,6,7,8,9,20,21,22,23,31,32].all fun j=>zt (ds.getD j (.int 0)))=true):
  E.B F (.fn 189 (.pr (cL cs) (cL ds)))=true:=by
 rw[oo]
 intro j hj;have a:=OK (F:=F) h j;have b:=OK (F:=F) h' j;unfold gg;split
 ·rw[a.1,b.1];rfl
 ·split
  ·refine Do (by rw[a.1,b.1];rfl) ?_ ?_;all_goals grind[kL,af3]
  simp_all
end
end Go.SX

set_option linter.unusedVariables false
set_option linter.unusedSectionVars false
namespace Go.SX
/-! ### combat: keywords and creatures -/
section
variable {F:Env} {x y l A a b k u i j p q n m r o c d w v X Y T N L e t C z:E}
theorem Rs:E.I F (.ar .and .i64 a b)=CE (E.I F a) (E.I F b):=rfl
theorem ah0:(E.B F (.fn 222 (.pr l (.pr c k)))=true)=(CE (gu (E.L F l) (E.I F c) 10) (E.I F k)=E.I F k):=by
 show((CE _ _==_)=true)=_
 rw[beq_iff_eq];rfl
theorem OF:(E.B F (.fn 223 (.pr l c))=true)=(E.I F c=-1\/gu (E.L F l) (E.I F c) 1=2):=by
 show((_==_||_==_)=true)=_
 rw[Bool.or_eq_true,beq_iff_eq,beq_iff_eq];rfl
theorem aaS(j:Nat)(h0:0<=E.I F c)(h1:E.I F c<E.I F (.fn 9 (.pr l (.int 14)))):gu (E.L F l) (E.I F c) j=E.I F (.fn 1 (.pr l (.fn 6 (.pr (.fn 8 (.pr c (.int (Int.ofNat 14)))) (.int (Int.ofNat j)))))):=by
 rw[fJ c 14 j h0]
 have e:E.I F (.fn 9 (.pr l (.int 14)))=(((E.L F l).length/14:Nat):Int):=rfl;unfold gu
 rw[if_pos ⟨h0,by omega⟩]
theorem aaT(j:Nat)(h:E.I F c<0\/¬E.I F c<E.I F (.fn 9 (.pr l (.int 14)))):gu (E.L F l) (E.I F c) j=0:=by
 have e:E.I F (.fn 9 (.pr l (.int 14)))=(((E.L F l).length/14:Nat):Int):=rfl;unfold gu
 rw[if_neg (by omega)]
theorem yn{f g:E}(h:(E.B F f=true)=(E.B F g=true)):E.B F (.iff f g)=true:=by
 rw[bp];exact iff_of_eq h
theorem Dp:(E.B F (.cmp .eql a b)=true)=(E.I F a=E.I F b):=by
 rw[age]
theorem aHl(h0:0<=E.I F c)(h1:E.I F c<E.I F (.fn 9 (.pr l (.int 14)))):E.B F (.iff (.cmp .eql (.ar .and .i64 (.fn 1 (.pr l (.fn 6 (.pr (.fn 8 (.pr c (.int 14))) (.int 10))))) k) k) (.fn 222 (.pr l (.pr c k))))=true:=by
 refine yn ?_
 rw[Dp,ah0,Rs,aaS 10 h0 h1]
 rfl
theorem acp(h:E.I F c<0\/¬E.I F c<E.I F (.fn 9 (.pr l (.int 14)))):E.B F (.iff (.cmp .eql (.ar .and .i64 (.int 0) k) k) (.fn 222 (.pr l (.pr c k))))=true:=by
 refine yn ?_
 rw[Dp,ah0,Rs,aaT 10 h]
 rfl
theorem aGE(hn:¬E.I F c=-1)(h0:0<=E.I F c)(h1:E.I F c<E.I F (.fn 9 (.pr l (.int 14)))):E.B F (.iff (.cmp .eql (.fn 1 (.pr l (.fn 6 (.pr (.fn 8 (.pr c (.int 14))) (.int 1))))) (.int 2)) (.fn 223 (.pr l c)))=true:=by
 refine yn ?_;have e:=aaS 1 h0 h1
 rw[Dp,OF,e]
 simp only[hn,false_or];rfl
theorem abc(hn:¬E.I F c=-1)(h:E.I F c<0\/¬E.I F c<E.I F (.fn 9 (.pr l (.int 14)))):E.B F (.iff (.bool false) (.fn 223 (.pr l c)))=true:=by
 refine yn ?_;have e:=aaT 1 h
 rw[OF,e]
 simp[hn]
theorem aGF(hn:E.I F c=-1):E.B F (.iff (.bool true) (.fn 223 (.pr l c)))=true:=by
 refine yn ?_
 rw[OF]
 simp[hn]
/-! a search by halves among objects -/
theorem zP:(E.B F (.fn 226 (.pr l (.pr x (.pr i j))))=true)=(∀q,q<(E.L F l).length/12->((E.I F i).toNat<=q\/nI (E.L F l) (q*12)<E.I F x)/\(q<(E.I F j).toNat\/E.I F x<=nI (E.L F l) (q*12))):=by
 show(((List.range _).all fun q=>(decide ((E.I F i).toNat<=q)||decide (nI (E.L F l) (q*12)<E.I F x))&&(decide (q<(E.I F j).toNat)||decide (E.I F x<=nI (E.L F l) (q*12))))=true)=_
 simp only[List.all_eq_true,List.mem_range,Bool.and_eq_true,Bool.or_eq_true,decide_eq_true_eq];rfl
theorem OH:(E.B F (.fn 228 l)=true)=(∀q,q<(E.L F l).length/12->(1<=nI (E.L F l) (q*12)/\nI (E.L F l) (q*12)<=500)/\((E.L F l).length/12<=q+1\/nI (E.L F l) (q*12)<nI (E.L F l) ((q+1)*12))):=by
 show(((List.range _).all fun q=>decide (1<=nI (E.L F l) (q*12))&&decide (nI (E.L F l) (q*12)<=500)&&(decide ((E.L F l).length/12<=q+1)||decide (nI (E.L F l) (q*12)<nI (E.L F l) ((q+1)*12))))=true)=_
 simp only[List.all_eq_true,List.mem_range,Bool.and_eq_true,Bool.or_eq_true,decide_eq_true_eq];rfl
theorem zq:E.I F (.fn 9 (.pr l (.int 12)))=(((E.L F l).length/12:Nat):Int):=rfl
theorem acu(h:E.B F (.fn 228 l)=true):∀d q,q+d<(E.L F l).length/12->nI (E.L F l) (q*12)+d<=nI (E.L F l) ((q+d)*12):=by
 rw[OH]at h
 intro d;induction d with
 |zero=>intro q _;simp
 |succ d ih=>
  intro q hq;have a:=ih q (by omega);have b:=(h (q+d) (by omega)).2
  rw[show q+(d+1)=q+d+1 by omega]
  omega
theorem LH(h:E.B F (.fn 228 l)=true){q r:Nat}(hq:q<=r)(hr:r<(E.L F l).length/12):nI (E.L F l) (q*12)<=nI (E.L F l) (r*12):=by
 have:=acu h (r-q) q (by omega)
 rw[show q+(r-q)=r by omega]at this
 omega
theorem yj(h0:0<=E.I F i):E.I F (.fn 1 (.pr l (.fn 6 (.pr (.fn 8 (.pr i (.int 12))) (.int 0)))))=nI (E.L F l) ((E.I F i).toNat*12):=by
 have:=fJ (T:=l) i 12 0 h0
 exact this
theorem LG(h:E.B F (.fn 228 l)=true)(h0:0<=E.I F i)(h1:E.I F i<E.I F (.fn 9 (.pr l (.int 12)))):1<=E.I F (.fn 1 (.pr l (.fn 6 (.pr (.fn 8 (.pr i (.int 12))) (.int 0)))))/\E.I F (.fn 1 (.pr l (.fn 6 (.pr (.fn 8 (.pr i (.int 12))) (.int 0)))))<=500:=by
 rw[yj h0]
 rw[OH]at h
 rw[zq]at h1
 exact(h _ (by omega)).1
theorem aM3(hi:E.I F i<=0)(hj:E.I F (.fn 9 (.pr l (.int 12)))<=E.I F j):E.B F (.fn 226 (.pr l (.pr x (.pr i j))))=true:=by
 rw[zP]
 rw[zq]at hj
 intro q hq
 exact⟨.inl (by omega),.inl (by omega)⟩
theorem aM0(h:E.B F (.fn 226 (.pr l (.pr x (.pr i j))))=true)(e:E.I F n=E.I F j):E.B F (.fn 226 (.pr l (.pr x (.pr i n))))=true:=by
 rw[zP]at *;rw[e];exact h
theorem aM1(hs:E.B F (.fn 228 l)=true)(h:E.B F (.fn 226 (.pr l (.pr x (.pr i j))))=true)(h0:0<=E.I F m)(h1:E.I F m<E.I F (.fn 9 (.pr l (.int 12))))(hv:E.I F (.fn 1 (.pr l (.fn 6 (.pr (.fn 8 (.pr m (.int 12))) (.int 0)))))<E.I F x)(hk:E.I F k=E.I F m+1):
  E.B F (.fn 226 (.pr l (.pr x (.pr k j))))=true:=by
 rw[yj h0]at hv
 rw[zq]at h1
 rw[zP]at *
 intro q hq
 refine⟨?_,(h q hq).2⟩
 by_cases c:q<=(E.I F m).toNat
 ·have:=LH hs c (by omega)
  right;omega
 ·left;omega
theorem aM2(hs:E.B F (.fn 228 l)=true)(h:E.B F (.fn 226 (.pr l (.pr x (.pr i j))))=true)(h0:0<=E.I F m)(h1:E.I F m<E.I F (.fn 9 (.pr l (.int 12))))(hv:¬E.I F (.fn 1 (.pr l (.fn 6 (.pr (.fn 8 (.pr m (.int 12))) (.int 0)))))<E.I F x):
  E.B F (.fn 226 (.pr l (.pr x (.pr i m))))=true:=by
 rw[yj h0]at hv
 rw[zq]at h1
 rw[zP]at *
 intro q hq
 refine⟨(h q hq).1,?_⟩
 by_cases c:(E.I F m).toNat<=q
 ·have:=LH hs c hq
  right;omega
 ·left;omega
/-- what is there is found -/
theorem aFF(hs:E.B F (.fn 228 (.fn 1 (.pr X (.int 0))))=true)(h:E.B F (.fn 226 (.pr (.fn 1 (.pr X (.int 0))) (.pr x (.pr i i))))=true)(h0:0<=E.I F i)(hx:0<=cm (X.den F) (E.I F x) (aT (X.den F))):
    E.I F i=cm (X.den F) (E.I F x) (aT (X.den F))/\E.I F i<E.I F (.fn 9 (.pr (.fn 1 (.pr X (.int 0))) (.int 12)))/\E.I F (.fn 1 (.pr (.fn 1 (.pr X (.int 0))) (.fn 6 (.pr (.fn 8 (.pr i (.int 12))) (.int 0)))))=E.I F x:=by
  obtain⟨h1,h2⟩:=tV hx
  have en:(E.L F (.fn 1 (.pr X (.int 0)))).length/12=aT (X.den F):=rfl;have ei:∀q,nI (E.L F (.fn 1 (.pr X (.int 0)))) (q*12)=oI (X.den F) q 0:=fun q=>rfl
  rw[zP]at h
  rw[zq,en,yj h0,ei]
  have a:=h (cm (X.den F) (E.I F x) (aT (X.den F))).toNat (by rw[en];exact h1)
  rw[ei,h2]at a
  have b:(E.I F i).toNat<=(cm (X.den F) (E.I F x) (aT (X.den F))).toNat:=by omega
  have c:=h (E.I F i).toNat (by rw[en];omega)
  rw[ei]at c
  have d:=LH hs b (by rw[en];exact h1)
  rw[ei,ei,h2]at d
  have e:oI (X.den F) (E.I F i).toNat 0=E.I F x:=by omega
  have f:=acu hs ((cm (X.den F) (E.I F x) (aT (X.den F))).toNat-(E.I F i).toNat) (E.I F i).toNat (by rw[en];omega)
  rw[show(E.I F i).toNat+((cm (X.den F) (E.I F x) (aT (X.den F))).toNat-(E.I F i).toNat)=(cm (X.den F) (E.I F x) (aT (X.den F))).toNat by omega,ei,ei,h2,e]at f
  refine⟨by omega,by omega,e⟩
end
end Go.SX

set_option linter.unusedVariables false
set_option linter.unusedSectionVars false
set_option linter.unusedSimpArgs false
namespace Go.SX
/-! ### combat: an object's place; blocks in a list -/
section
variable {F:Env} {x y l A a b k u i j p q n m r o c d w v X Y T N L e t C z:E}
theorem Gm(h:E.B F (.fn 115 X)=true):dr (X.den F)=true:=by
 rw[b9]at h
 exact(sg (X:=X)).mp h.2.2.2.2.2.2.2.2.2.2.2.2.2.2.2.2.2.2.2.2.2.2.2.2.2.2.2.2.2.2.2.2.2.2.2.2.2.2.2.2.2.2.2.1
theorem aha(h:E.B F (.fn 115 X)=true):E.B F (.fn 228 (.fn 1 (.pr X (.int 0))))=true:=by
 have ho:=(kN _ _).1 (uR (Gm h))
 rw[OH]
 intro q hq;have en:(E.L F (.fn 1 (.pr X (.int 0)))).length/12=aT (X.den F):=rfl;have ei:∀q,nI (E.L F (.fn 1 (.pr X (.int 0)))) (q*12)=oI (X.den F) q 0:=fun q=>rfl
 rw[en]at hq ⊢
 rw[ei,ei]
 have a:=(py _ _).1 (ho q hq).1
 refine⟨⟨a.1,a.2.1⟩,?_⟩
 by_cases c:q+1<aT (X.den F)
 ·have b:=(ho (q+1) c).2.1;right;rcases b with b|b
  ·omega
  ·exact b
 ·left;omega
theorem agN(h:E.B F (.fn 115 X)=true)(hx:¬E.I F (.fn 120 (.pr X (.pr x (.fn 9 (.pr (.fn 1 (.pr X (.int 0))) (.int 12))))))<0):1<=E.I F x/\E.I F x<=500:=by
 have ho:=(kN _ _).1 (uR (Gm h));have e:E.I F (.fn 120 (.pr X (.pr x (.fn 9 (.pr (.fn 1 (.pr X (.int 0))) (.int 12))))))=cm (X.den F) (E.I F x) (aT (X.den F)):=rfl
 rw[e]at hx
 obtain⟨h1,h2⟩:=tV (by omega:0<=cm (X.den F) (E.I F x) (aT (X.den F)))
 have a:=(py _ _).1 (ho _ h1).1
 rw[h2]at a
 exact⟨a.1,a.2.1⟩
theorem NZ(h:E.B F (.fn 115 X)=true)(hb:E.B F (.fn 226 (.pr (.fn 1 (.pr X (.int 0))) (.pr x (.pr i i))))=true)(h0:0<=E.I F i)(hx:¬E.I F (.fn 120 (.pr X (.pr x (.fn 9 (.pr (.fn 1 (.pr X (.int 0))) (.int 12))))))<0):
  E.I F i=E.I F (.fn 120 (.pr X (.pr x (.fn 9 (.pr (.fn 1 (.pr X (.int 0))) (.int 12))))))/\E.I F i<E.I F (.fn 9 (.pr (.fn 1 (.pr X (.int 0))) (.int 12)))/\E.I F (.fn 1 (.pr (.fn 1 (.pr X (.int 0))) (.fn 6 (.pr (.fn 8 (.pr i (.int 12))) (.int 0)))))=E.I F x:=
 aFF (aha h) hb h0 (by
  have e:E.I F (.fn 120 (.pr X (.pr x (.fn 9 (.pr (.fn 1 (.pr X (.int 0))) (.int 12))))))=cm (X.den F) (E.I F x) (aT (X.den F)):=rfl;omega)
theorem NT(h:E.B F (.fn 115 X)=true):gW (X.den F)=true:=by
 rw[b9]at h
 exact(GR (X:=X)).mp h.2.2.2.2.2.2.2.2.2.2.2.2.2.2.2.2.2.2.2.2.2.2.2.2.2.2.2.2.2.2.2.2.2.2.2.2.2.2.2.2.2.2.2.2
theorem aFS(h:E.B F (.fn 115 X)=true)(h0:0<=E.I F i)(h1:E.I F i<E.I F (.fn 9 (.pr (.fn 1 (.pr X (.int 32))) (.int 2)))):1<=E.I F (.fn 1 (.pr (.fn 1 (.pr X (.int 32))) (.fn 6 (.pr (.fn 8 (.pr i (.int 2))) (.int 0))))):=by
 have e0:=fJ (T:=.fn 1 (.pr X (.int 32))) i 2 0 h0
 rw[show E.I F (.fn 1 (.pr (.fn 1 (.pr X (.int 32))) (.fn 6 (.pr (.fn 8 (.pr i (.int 2))) (.int 0)))))=_ from e0]
 have en:E.I F (.fn 9 (.pr (.fn 1 (.pr X (.int 32))) (.int 2)))=((cS (X.den F):Nat):Int):=rfl;have a:=((qX _ _).1 ((o8 _).1 (NT h)).2).2.2 (E.I F i).toNat (by omega)
 exact(ML (Gm h) a.2).1
/-! blocks -/
theorem Kj{P:Nat->Bool}{n:Nat}:(¬((List.range n).any P=true))=(∀q,q<n->¬P q=true):=by
 rw[List.any_eq_true]
 apply propext;constructor
 ·intro h q hq hp;exact h ⟨q,List.mem_range.2 hq,hp⟩
 ·rintro h ⟨q,hq,hp⟩
  exact h q (List.mem_range.1 hq) hp
theorem GX:(¬E.B F (.fn 229 (.pr l (.pr x (.pr y i))))=true)=(∀q,q<(E.I F i).toNat->¬(nI (E.L F l) (q*2)=E.I F x/\nI (E.L F l) (q*2+1)=E.I F y)):=by
 show(¬((List.range (E.I F i).toNat).any fun q=>nI (E.L F l) (q*2)==E.I F x&&nI (E.L F l) (q*2+1)==E.I F y)=true)=_
 rw[Kj]
 simp only[Bool.and_eq_true,beq_iff_eq]
theorem GY:(¬E.B F (.fn 230 (.pr l (.pr x i)))=true)=(∀q,q<(E.I F i).toNat->¬nI (E.L F l) (q*2+1)=E.I F x):=by
 show(¬((List.range (E.I F i).toNat).any fun q=>nI (E.L F l) (q*2+1)==E.I F x)=true)=_
 rw[Kj]
 simp only[beq_iff_eq]
theorem GZ:(¬E.B F (.fn 231 (.pr l (.pr x i)))=true)=(∀q,q<(E.I F i).toNat->¬nI (E.L F l) (q*2)=E.I F x):=by
 show(¬((List.range (E.I F i).toNat).any fun q=>nI (E.L F l) (q*2+0)==E.I F x)=true)=_
 rw[Kj]
 simp only[beq_iff_eq,Nat.add_zero]
theorem aM5(h:E.I F i<=0):¬E.B F (.fn 229 (.pr l (.pr x (.pr y i))))=true:=by
 rw[GX];intro q hq;omega
theorem ahg(h:E.I F i<=0):¬E.B F (.fn 230 (.pr l (.pr x i)))=true:=by
 rw[GY];intro q hq;omega
theorem ahj(h:E.I F i<=0):¬E.B F (.fn 231 (.pr l (.pr x i)))=true:=by
 rw[GZ];intro q hq;omega
theorem ahc(h:¬E.B F (.fn 229 (.pr l (.pr x (.pr y i))))=true)(h0:0<=E.I F i)(hn:E.I F n=E.I F i+1)(hc:¬(E.I F (.fn 1 (.pr l (.fn 6 (.pr (.fn 8 (.pr i (.int 2))) (.int 0)))))=E.I F x/\E.I F (.fn 1 (.pr l (.fn 6 (.pr (.fn 8 (.pr i (.int 2))) (.int 1)))))=E.I F y)):¬E.B F (.fn 229 (.pr l (.pr x (.pr y n))))=true:=by
 have e0:=fJ (T:=l) i 2 0 h0;have e1:=fJ (T:=l) i 2 1 h0
 rw[show E.I F (.fn 1 (.pr l (.fn 6 (.pr (.fn 8 (.pr i (.int 2))) (.int 0)))))=_ from e0,show E.I F (.fn 1 (.pr l (.fn 6 (.pr (.fn 8 (.pr i (.int 2))) (.int 1)))))=_ from e1]at hc
 rw[GX]at *
 intro q hq;by_cases c:q<(E.I F i).toNat
 ·exact h q c
 ·rw[show q=(E.I F i).toNat by omega];exact hc
theorem ahf(h:¬E.B F (.fn 230 (.pr l (.pr x i)))=true)(h0:0<=E.I F i)(hn:E.I F n=E.I F i+1)(hc:¬E.I F (.fn 1 (.pr l (.fn 6 (.pr (.fn 8 (.pr i (.int 2))) (.int 1)))))=E.I F x):¬E.B F (.fn 230 (.pr l (.pr x n)))=true:=by
 have e1:=fJ (T:=l) i 2 1 h0
 rw[show E.I F (.fn 1 (.pr l (.fn 6 (.pr (.fn 8 (.pr i (.int 2))) (.int 1)))))=_ from e1]at hc
 rw[GY]at *
 intro q hq;by_cases c:q<(E.I F i).toNat
 ·exact h q c
 ·rw[show q=(E.I F i).toNat by omega];exact hc
theorem ahi(h:¬E.B F (.fn 231 (.pr l (.pr x i)))=true)(h0:0<=E.I F i)(hn:E.I F n=E.I F i+1)(hc:¬E.I F (.fn 1 (.pr l (.fn 6 (.pr (.fn 8 (.pr i (.int 2))) (.int 0)))))=E.I F x):¬E.B F (.fn 231 (.pr l (.pr x n)))=true:=by
 have e0:=fJ (T:=l) i 2 0 h0
 rw[show E.I F (.fn 1 (.pr l (.fn 6 (.pr (.fn 8 (.pr i (.int 2))) (.int 0)))))=_ from e0]at hc
 rw[GZ]at *
 intro q hq;by_cases c:q<(E.I F i).toNat
 ·exact h q c
 ·rw[show q=(E.I F i).toNat by omega];exact hc
theorem aM4(h:¬E.B F (.fn 229 (.pr l (.pr x (.pr y i))))=true)(hn:E.I F n<=E.I F i):¬E.B F (.fn 229 (.pr l (.pr x (.pr y n))))=true:=by
 rw[GX]at *;intro q hq;exact h q (by omega)
theorem ahd(h:¬E.B F (.fn 230 (.pr l (.pr x i)))=true)(hn:E.I F n<=E.I F i):¬E.B F (.fn 230 (.pr l (.pr x n)))=true:=by
 rw[GY]at *;intro q hq;exact h q (by omega)
theorem ahh(h:¬E.B F (.fn 231 (.pr l (.pr x i)))=true)(hn:E.I F n<=E.I F i):¬E.B F (.fn 231 (.pr l (.pr x n)))=true:=by
 rw[GZ]at *;intro q hq;exact h q (by omega)
theorem ahb(h0:0<=E.I F i)(hn:E.I F i<E.I F n)(hc:E.I F (.fn 1 (.pr l (.fn 6 (.pr (.fn 8 (.pr i (.int 2))) (.int 0)))))=E.I F x/\E.I F (.fn 1 (.pr l (.fn 6 (.pr (.fn 8 (.pr i (.int 2))) (.int 1)))))=E.I F y):E.B F (.fn 229 (.pr l (.pr x (.pr y n))))=true:=by
 have e0:=fJ (T:=l) i 2 0 h0;have e1:=fJ (T:=l) i 2 1 h0
 rw[show E.I F (.fn 1 (.pr l (.fn 6 (.pr (.fn 8 (.pr i (.int 2))) (.int 0)))))=_ from e0,show E.I F (.fn 1 (.pr l (.fn 6 (.pr (.fn 8 (.pr i (.int 2))) (.int 1)))))=_ from e1]at hc
 apply Classical.byContradiction;intro h
 rw[GX]at h
 exact h _ (by omega) hc
theorem ahe(h0:0<=E.I F i)(hn:E.I F i<E.I F n)(hc:E.I F (.fn 1 (.pr l (.fn 6 (.pr (.fn 8 (.pr i (.int 2))) (.int 1)))))=E.I F x):E.B F (.fn 230 (.pr l (.pr x n)))=true:=by
 have e1:=fJ (T:=l) i 2 1 h0
 rw[show E.I F (.fn 1 (.pr l (.fn 6 (.pr (.fn 8 (.pr i (.int 2))) (.int 1)))))=_ from e1]at hc
 apply Classical.byContradiction;intro h
 rw[GY]at h
 exact h _ (by omega) hc
theorem Oa(h0:0<=E.I F i)(hn:E.I F i<E.I F n)(hc:E.I F (.fn 1 (.pr l (.fn 6 (.pr (.fn 8 (.pr i (.int 2))) (.int 0)))))=E.I F x):E.B F (.fn 231 (.pr l (.pr x n)))=true:=by
 have e0:=fJ (T:=l) i 2 0 h0
 rw[show E.I F (.fn 1 (.pr l (.fn 6 (.pr (.fn 8 (.pr i (.int 2))) (.int 0)))))=_ from e0]at hc
 apply Classical.byContradiction;intro h
 rw[GZ]at h
 exact h _ (by omega) hc
end
end Go.SX

set_option linter.unusedVariables false
set_option linter.unusedSectionVars false
set_option linter.unusedSimpArgs false
namespace Go.SX
/-! ### combat: a player's creatures -/
section
variable {F:Env} {x y l A a b k u i j p q n m r o c d w v X Y T N L e t C z:E}
theorem xO(l:List U)(X:U)(p:Int)(i:Nat):tK l X p i=true↔oI X i 2=p/\ua l (oI X i 1)=true/\oI X i 0∈aY X (4*p.toNat+2):=by
 simp_all[tK,and_assoc]
theorem KL(l:List U)(X:U)(p:Int)(n:Nat):gv l X p (n+1)=gv l X p n++if tK l X p n then [oI X n 0] else []:=by
 unfold gv
 rw[List.range_succ,List.filter_append,List.map_append]
 cases h:tK l X p n<;>simp[h]
theorem OG:(E.B F (.fn 223 (.pr C c))=true)=(ua (E.L F C) (E.I F c)=true):=rfl
theorem jQ:(E.B F (.fn 224 (.pr x (.pr C (.pr X (.pr p n)))))=true)=(aN F x=gv (E.L F C) (X.den F) (E.I F p) (E.I F n).toNat):=by
 show((br _==gv _ _ _ _)=true)=_
 rw[beq_iff_eq];rfl
theorem sm:(E.B F (.fn 225 (.pr x (.pr C (.pr X (.pr p n)))))=true)=(aN F x=nu (E.L F C) (X.den F) (E.I F p) (E.I F n).toNat):=by
 show((br _==nu _ _ _ _)=true)=_
 rw[beq_iff_eq];rfl
theorem aMW(h:E.I F n<=0):E.B F (.fn 224 (.pr (.fn 10 a) (.pr C (.pr X (.pr p n)))))=true:=by
 have e:(E.I F n).toNat=0:=by omega
 rw[jQ,e];rfl
theorem ag5(h:E.B F (.fn 224 (.pr x (.pr C (.pr X (.pr p i)))))=true)(e:E.I F n=E.I F i):E.B F (.fn 224 (.pr x (.pr C (.pr X (.pr p n)))))=true:=by
 simp_all[jQ]
theorem aMZ(h:E.I F n<=0):E.B F (.fn 225 (.pr (.fn 10 a) (.pr C (.pr X (.pr p n)))))=true:=by
 have e:(E.I F n).toNat=0:=by omega
 rw[sm,e];rfl
theorem Gs(h:E.B F (.fn 224 (.pr x (.pr C (.pr X (.pr p i)))))=true)(h0:0<=E.I F i)(hn:E.I F n=E.I F i+1)
  (hc:¬(E.I F (.fn 1 (.pr (.fn 1 (.pr X (.int 0))) (.fn 6 (.pr (.fn 8 (.pr i (.int 12))) (.int 2)))))=E.I F p/\E.B F (.fn 223 (.pr C (.fn 1 (.pr (.fn 1 (.pr X (.int 0))) (.fn 6 (.pr (.fn 8 (.pr i (.int 12))) (.int 1)))))))=true)):
  E.B F (.fn 224 (.pr x (.pr C (.pr X (.pr p n)))))=true:=by
 have c1:=ez (X:=X) h0 1;have c2:=ez (X:=X) h0 2;have en:(E.I F n).toNat=(E.I F i).toNat+1:=by omega
 rw[OG]at hc
 rw[jQ]at *
 rw[en,KL,h,if_neg,List.append_nil]
 rw[xO,c1,c2]
 intro hh;exact hc ⟨hh.1,hh.2.1⟩
theorem Gr(h:E.B F (.fn 224 (.pr x (.pr C (.pr X (.pr p i)))))=true)(hL:aN F L=aY (X.den F) (4*(E.I F p).toNat+2))(h0:0<=E.I F i)(hn:E.I F n=E.I F i+1)
  (hc:¬E.B F (.fn 114 (.pr L (.fn 1 (.pr (.fn 1 (.pr X (.int 0))) (.fn 6 (.pr (.fn 8 (.pr i (.int 12))) (.int 0)))))))=true):
  E.B F (.fn 224 (.pr x (.pr C (.pr X (.pr p n)))))=true:=by
 have c0:=ez (X:=X) h0 0;have en:(E.I F n).toNat=(E.I F i).toNat+1:=by omega
 rw[si,hL]at hc
 rw[jQ]at *
 rw[en,KL,h,if_neg,List.append_nil]
 rw[xO,c0]
 intro hh;exact hc hh.2.2
theorem NY(h:E.B F (.fn 224 (.pr x (.pr C (.pr X (.pr p i)))))=true)(hL:aN F L=aY (X.den F) (4*(E.I F p).toNat+2))(h0:0<=E.I F i)(hn:E.I F n=E.I F i+1)
  (h2:E.I F (.fn 1 (.pr (.fn 1 (.pr X (.int 0))) (.fn 6 (.pr (.fn 8 (.pr i (.int 12))) (.int 2)))))=E.I F p)(h1:E.B F (.fn 223 (.pr C (.fn 1 (.pr (.fn 1 (.pr X (.int 0))) (.fn 6 (.pr (.fn 8 (.pr i (.int 12))) (.int 1)))))))=true)
  (hc:E.B F (.fn 114 (.pr L (.fn 1 (.pr (.fn 1 (.pr X (.int 0))) (.fn 6 (.pr (.fn 8 (.pr i (.int 12))) (.int 0)))))))=true):
  E.B F (.fn 224 (.pr (.fn 3 (.pr x (.fn 23 (.pr (.fn 1 (.pr (.fn 1 (.pr X (.int 0))) (.fn 6 (.pr (.fn 8 (.pr i (.int 12))) (.int 0))))) (.fn 10 (.int 0)))))) (.pr C (.pr X (.pr p n)))))=true:=by
 have c0:=ez (X:=X) h0 0;have c1:=ez (X:=X) h0 1;have c2:=ez (X:=X) h0 2;have en:(E.I F n).toNat=(E.I F i).toNat+1:=by omega
 rw[si,hL]at hc
 rw[OG]at h1
 rw[jQ]at *
 rw[en,KL,if_pos ((xO _ _ _ _).2 ⟨by rw[c2];exact h2,by rw[c1];exact h1,by rw[c0];exact hc⟩),rr,lQ,kF,h,c0]
 rfl
theorem ag6(h:E.B F (.fn 224 (.pr (.fn 10 a) (.pr C (.pr X (.pr p i)))))=true)(hL:aN F L=aY (X.den F) (4*(E.I F p).toNat+2))(h0:0<=E.I F i)(hn:E.I F n=E.I F i+1)
  (h2:E.I F (.fn 1 (.pr (.fn 1 (.pr X (.int 0))) (.fn 6 (.pr (.fn 8 (.pr i (.int 12))) (.int 2)))))=E.I F p)(h1:E.B F (.fn 223 (.pr C (.fn 1 (.pr (.fn 1 (.pr X (.int 0))) (.fn 6 (.pr (.fn 8 (.pr i (.int 12))) (.int 1)))))))=true)
  (hc:E.B F (.fn 114 (.pr L (.fn 1 (.pr (.fn 1 (.pr X (.int 0))) (.fn 6 (.pr (.fn 8 (.pr i (.int 12))) (.int 0)))))))=true):
  E.B F (.fn 224 (.pr (.fn 23 (.pr (.fn 1 (.pr (.fn 1 (.pr X (.int 0))) (.fn 6 (.pr (.fn 8 (.pr i (.int 12))) (.int 0))))) (.fn 10 (.int 0)))) (.pr C (.pr X (.pr p n)))))=true:=by
 have:=NY h hL h0 hn h2 h1 hc
 rw[jQ,rr,kF,List.nil_append]at this
 rw[jQ];exact this
theorem Dx(hp:E.I F p=0):aN F (.fn 1 (.pr X (.int 8)))=aY (X.den F) (4*(E.I F p).toNat+2):=by
 rw[hp];exact(OL (X:=X) 0 2 8 (by omega) (by omega)).symm
theorem Dy(hp:E.I F p=1):aN F (.fn 1 (.pr X (.int 22)))=aY (X.den F) (4*(E.I F p).toNat+2):=by
 rw[hp];exact(OL (X:=X) 1 2 22 (by omega) (by omega)).symm
/-! the reference's -/
theorem Gt(h:E.B F (.fn 225 (.pr x (.pr C (.pr X (.pr p i)))))=true)(hL:E.B F (.fn 109 (.pr L (.pr X (.pr p (.int 2)))))=true)
  (h0:0<=E.I F i)(h1:E.I F i<E.I F (.fn 0 L))(hn:E.I F n=E.I F i+1)(hq:E.I F q=E.I F (.fn 120 (.pr X (.pr (.fn 1 (.pr L i)) (.fn 9 (.pr (.fn 1 (.pr X (.int 0))) (.int 12)))))))(hq0:0<=E.I F q):
  (¬E.B F (.fn 223 (.pr C (.fn 1 (.pr (.fn 1 (.pr X (.int 0))) (.fn 6 (.pr (.fn 8 (.pr q (.int 12))) (.int 1)))))))=true->E.B F (.fn 225 (.pr x (.pr C (.pr X (.pr p n)))))=true)/\
  (E.B F (.fn 223 (.pr C (.fn 1 (.pr (.fn 1 (.pr X (.int 0))) (.fn 6 (.pr (.fn 8 (.pr q (.int 12))) (.int 1)))))))=true->E.B F (.fn 225 (.pr (.fn 3 (.pr x (.fn 23 (.pr (.fn 1 (.pr L i)) (.fn 10 (.int 0)))))) (.pr C (.pr X (.pr p n)))))=true/\
   (aN F x=[]->E.B F (.fn 225 (.pr (.fn 23 (.pr (.fn 1 (.pr L i)) (.fn 10 (.int 0)))) (.pr C (.pr X (.pr p n)))))=true)):=by
 have en:(E.I F n).toNat=(E.I F i).toNat+1:=by omega
 rw[<- b8]at h1
 have hz:=Gl hL;have c1:=ez (X:=X) hq0 1;have eq:E.I F q=cm (X.den F) (E.I F (.fn 1 (.pr L i))) (aT (X.den F)):=hq;have hs:nu (E.L F C) (X.den F) (E.I F p) ((E.I F i).toNat+1)=nu (E.L F C) (X.den F) (E.I F p) (E.I F i).toNat ++
   if ua (E.L F C) (oI (X.den F) (cm (X.den F) (E.I F (.fn 1 (.pr L i))) (aT (X.den F))).toNat 1)then [E.I F (.fn 1 (.pr L i))] else []:=by
  grind[nu,pP,gL]
 rw[<- eq]at hs
 rw[sm]at h
 rw[sm,sm,sm,en,hs,OG]
 rw[show E.I F (.fn 1 (.pr (.fn 1 (.pr X (.int 0))) (.fn 6 (.pr (.fn 8 (.pr q (.int 12))) (.int 1)))))=_ from c1.symm]
 refine⟨fun hc=>?_,fun hc=>⟨?_,fun hx=>?_⟩⟩
 ·rw[if_neg hc,List.append_nil,h]
 ·rw[if_pos hc,rr,lQ,kF,h]
 ·rw[if_pos hc,lQ,kF,<- h,hx,List.nil_append]
theorem abd(l:List U){X:U}{p:Int}(h:pa X p=true){n:Nat}(hn:(aY X (4*p.toNat+2)).length<=n):dy (nu l X p n)=gv l X p (aT X):=by
 obtain⟨hp,p0,p1⟩:=abV h
 have hz:4*p.toNat+2<8:=by omega
 have hz4:(((4*p.toNat+2)/4:Nat):Int)=p:=by omega
 have hlt:=aHn hp;have hpw:(gv l X p (aT X)).Pairwise (· < ·):=by
  grind[gv,List.Pairwise.imp_of_mem,List.pairwise_lt_range]
 symm;refine ago (hpw.imp fun {a b} h=>Int.le_of_lt h) ?_
 refine(List.perm_ext_iff_of_nodup (hpw.imp fun {a b} h=>by omega) ?_).2 fun k=>?_
 ·grind[nu,List.take_of_length_le,OM]
 ·unfold gv
  rw[List.mem_map]
  unfold nu
  rw[List.take_of_length_le hn,List.mem_filter]
  constructor
  ·rintro⟨i,hi,rfl⟩
   simp_all[List.mem_filter,List.mem_range,xO,acz,Int.toNat_natCast]
  ·rintro⟨hk,hm⟩
   obtain⟨i,hi,rfl,ho⟩:=ON hp hz hk
   rw[acz hp hi,Int.toNat_natCast]at hm
   refine⟨i,List.mem_filter.2 ⟨List.mem_range.2 hi,?_⟩,rfl⟩
   rw[xO]
   exact⟨by omega,hm,hk⟩
theorem aMX(h:E.B F (.fn 225 (.pr x (.pr C (.pr X (.pr p i)))))=true)(hL:E.B F (.fn 109 (.pr L (.pr X (.pr p (.int 2)))))=true)(hf:E.B F (.fn 145 (.pr X p))=true)
  (hy:E.B F (.fn 152 (.pr y (.pr x n)))=true)(h1:E.I F (.fn 0 L)<=E.I F i)(hx:E.I F (.fn 0 x)<=E.I F n):E.B F (.fn 224 (.pr (.fn 28 (.pr a y)) (.pr C (.pr X (.pr p (.fn 9 (.pr (.fn 1 (.pr X (.int 0))) (.int 12))))))))=true:=by
 rw[sm]at h
 rw[mt]at hy
 rw[<- b8]at hx
 rw[List.take_of_length_le (by omega)]at hy
 rw[<- b8,Gl hL]at h1
 have e9:(E.I F (.fn 9 (.pr (.fn 1 (.pr X (.int 0))) (.int 12)))).toNat=aT (X.den F):=rfl
 rw[jQ,e9,<- abd _ (OC▸hf) (n:=(E.I F i).toNat) (by omega),<- h]
 exact hy
theorem aMY(h:E.B F (.fn 225 (.pr (.fn 10 b) (.pr C (.pr X (.pr p i)))))=true)(hL:E.B F (.fn 109 (.pr L (.pr X (.pr p (.int 2)))))=true)(hf:E.B F (.fn 145 (.pr X p))=true)
  (h1:E.I F (.fn 0 L)<=E.I F i):E.B F (.fn 224 (.pr (.fn 30 a) (.pr C (.pr X (.pr p (.fn 9 (.pr (.fn 1 (.pr X (.int 0))) (.int 12))))))))=true:=by
 rw[sm]at h
 rw[<- b8,Gl hL]at h1
 have e9:(E.I F (.fn 9 (.pr (.fn 1 (.pr X (.int 0))) (.int 12)))).toNat=aT (X.den F):=rfl
 rw[jQ,e9,<- abd _ (OC▸hf) (n:=(E.I F i).toNat) (by omega),<- h]
 rfl
end
end Go.SX

set_option linter.unusedVariables false
set_option linter.unusedSectionVars false
set_option linter.unusedSimpArgs false
namespace Go.SX
/-! ### combat: the blocks that may be made -/
section
variable {F:Env} {x y l A B a b k u i j p q n m r o c d w v X Y T N L e t C z:E}
theorem aFN(l:List U)(X:U)(B A:List Int):eS l X B A 0 0=[]:=by
 simp[eS]
theorem ahw(B:List Int)(n:Nat)(h:n<B.length):(B.drop n).take 1=[B.getD n 0]:=by
 rw[List.drop_eq_getElem_cons h,List.take_succ_cons,List.take_zero]
 simp[List.getD_eq_getElem?_getD,h]
theorem Oh(B:List Int)(n:Nat)(h:n<B.length):B.take (n+1)=B.take n++[B.getD n 0]:=by
 rw[List.take_add_one]
 simp[List.getD_eq_getElem?_getD,h]
theorem aFM(l:List U)(X:U)(B A:List Int)(n:Nat)(h:n<B.length):eS l X B A (n+1) 0=eS l X B A n A.length:=by
 unfold eS
 rw[ahw B n h,Oh B n h]
 simp
theorem aFK(l:List U)(X:U)(B A:List Int)(n:Nat)(h:n<B.length)(ho:∀y,fg l X (B.getD n 0) y=false):eS l X B A (n+1) 0=eS l X B A n 0:=by
 have e:∀l':List Int,(l'.flatMap fun _=>([]:List Int))=[]:=by
  intro l';induction l' with
  |nil=>rfl
  |cons a l' ih=>rw[List.flatMap_cons,ih];rfl
 have eA:(A.flatMap fun y=>if fg l X (B.getD n 0) y then [B.getD n 0,y] else [])=[]:=by
  simp only[ho,Bool.false_eq_true,if_false,e]
 unfold eS
 rw[Oh B n h,List.flatMap_append,List.flatMap_cons,List.flatMap_nil,eA]
 simp only[List.take_zero,List.flatMap_nil,e,List.append_nil]
theorem aFL(l:List U)(X:U)(B A:List Int)(n m:Nat)(h:n<B.length)(hm:m<A.length):
  eS l X B A n (m+1)=eS l X B A n m++if fg l X (B.getD n 0) (A.getD m 0)then [B.getD n 0,A.getD m 0] else []:=by
 unfold eS
 rw[ahw B n h,Oh A m hm]
 simp
theorem oq:(E.B F (.fn 227 (.pr L (.pr C (.pr X (.pr B (.pr A (.pr i m)))))))=true)=(aN F L=eS (E.L F C) (X.den F) (aN F B) (aN F A) (E.I F i).toNat (E.I F m).toNat):=by
 show((br _==eS _ _ _ _ _ _)=true)=_
 rw[beq_iff_eq];rfl
theorem ag9(hi:E.I F i<=0)(hm:E.I F m<=0):E.B F (.fn 227 (.pr (.fn 10 a) (.pr C (.pr X (.pr B (.pr A (.pr i m)))))))=true:=by
 have e1:(E.I F i).toNat=0:=by omega
 have e2:(E.I F m).toNat=0:=by omega
 rw[oq,e1,e2,aFN];rfl
theorem Gv(h:E.B F (.fn 227 (.pr L (.pr C (.pr X (.pr B (.pr A (.pr i m)))))))=true)(h0:0<=E.I F i)(h1:E.I F i<E.I F (.fn 0 B))(hm:E.I F m=E.I F (.fn 0 A))(hn:E.I F n=E.I F i+1)(hk:E.I F k=0):
  E.B F (.fn 227 (.pr L (.pr C (.pr X (.pr B (.pr A (.pr n k)))))))=true:=by
 rw[<- b8]at h1 hm
 have en:(E.I F n).toNat=(E.I F i).toNat+1:=by omega
 have ek:(E.I F k).toNat=0:=by omega
 have em:(E.I F m).toNat=(aN F A).length:=by omega
 rw[oq]at *
 rw[en,ek,aFM _ _ _ _ _ (by omega),h,em]
theorem Gw(h:E.B F (.fn 227 (.pr L (.pr C (.pr X (.pr B (.pr A (.pr i m)))))))=true)(h0:0<=E.I F i)(h1:E.I F i<E.I F (.fn 0 B))(hm:E.I F m=0)(hn:E.I F n=E.I F i+1)
  (ho:∀y,fg (E.L F C) (X.den F) (E.I F (.fn 1 (.pr B i))) y=false):E.B F (.fn 227 (.pr L (.pr C (.pr X (.pr B (.pr A (.pr n m)))))))=true:=by
 rw[<- b8]at h1
 have en:(E.I F n).toNat=(E.I F i).toNat+1:=by omega
 have em:(E.I F m).toNat=0:=by omega
 have eb:=gL (F:=F) (l:=B) (i:=i)
 rw[oq]at *
 rw[en,em,aFK _ _ _ _ _ (by omega),h,em]
 intro y
 rw[<- eb]
 exact ho y
theorem aaG(hq:E.I F q=E.I F (.fn 120 (.pr X (.pr x (.fn 9 (.pr (.fn 1 (.pr X (.int 0))) (.int 12)))))))(h0:0<=E.I F q):
  E.B F (.fn 1 (.pr (.fn 1 (.pr X (.int 0))) (.fn 6 (.pr (.fn 8 (.pr q (.int 12))) (.int 9)))))=((cX (X.den F) 0).toL.getD ((cm (X.den F) (E.I F x) (aT (X.den F))).toNat*12+9) (.bool false)).toB:=by
 have eq:E.I F q=cm (X.den F) (E.I F x) (aT (X.den F)):=hq
 rw[aHf,<- eq]
 have e:(E.I F q*12+9).toNat=(E.I F q).toNat*12+9:=by omega
 show((cX (X.den F) 0).toL.getD (E.I F q*12+9).toNat (.int 0)).toB=_
 rw[e]
theorem aaF(hq:E.I F q=E.I F (.fn 120 (.pr X (.pr x (.fn 9 (.pr (.fn 1 (.pr X (.int 0))) (.int 12)))))))(h0:0<=E.I F q):
  E.B F (.fn 222 (.pr C (.pr (.fn 1 (.pr (.fn 1 (.pr X (.int 0))) (.fn 6 (.pr (.fn 8 (.pr q (.int 12))) (.int 1))))) (.int 2))))=DU (E.L F C) (oI (X.den F) (cm (X.den F) (E.I F x) (aT (X.den F))).toNat 1) 2:=by
 have eq:E.I F q=cm (X.den F) (E.I F x) (aT (X.den F)):=hq;have c1:=ez (X:=X) h0 1
 rw[<- eq,c1];rfl
theorem kp(hq:E.I F q=E.I F (.fn 120 (.pr X (.pr x (.fn 9 (.pr (.fn 1 (.pr X (.int 0))) (.int 12)))))))(h0:0<=E.I F q)(hr:E.I F r=E.I F (.fn 120 (.pr X (.pr y (.fn 9 (.pr (.fn 1 (.pr X (.int 0))) (.int 12)))))))(h1:0<=E.I F r):
  fg (E.L F C) (X.den F) (E.I F x) (E.I F y)=(!E.B F (.fn 1 (.pr (.fn 1 (.pr X (.int 0))) (.fn 6 (.pr (.fn 8 (.pr q (.int 12))) (.int 9))))) && !E.B F (.fn 231 (.pr (.fn 1 (.pr X (.int 32))) (.pr x (.fn 9 (.pr (.fn 1 (.pr X (.int 32))) (.int 2)))))) &&
   !E.B F (.fn 230 (.pr (.fn 1 (.pr X (.int 32))) (.pr y (.fn 9 (.pr (.fn 1 (.pr X (.int 32))) (.int 2)))))) && !(E.B F (.fn 222 (.pr C (.pr (.fn 1 (.pr (.fn 1 (.pr X (.int 0))) (.fn 6 (.pr (.fn 8 (.pr r (.int 12))) (.int 1))))) (.int 2)))) && !E.B F (.fn 222 (.pr C (.pr (.fn 1 (.pr (.fn 1 (.pr X (.int 0))) (.fn 6 (.pr (.fn 8 (.pr q (.int 12))) (.int 1))))) (.int 2)))))):=by
 rw[aaG hq h0,aaF hq h0,aaF hr h1];rfl
theorem CO(hq:E.I F q=E.I F (.fn 120 (.pr X (.pr x (.fn 9 (.pr (.fn 1 (.pr X (.int 0))) (.int 12)))))))(h0:0<=E.I F q)
  (h:E.B F (.fn 1 (.pr (.fn 1 (.pr X (.int 0))) (.fn 6 (.pr (.fn 8 (.pr q (.int 12))) (.int 9)))))=true\/E.B F (.fn 231 (.pr (.fn 1 (.pr X (.int 32))) (.pr x (.fn 9 (.pr (.fn 1 (.pr X (.int 32))) (.int 2))))))=true)(y:Int):fg (E.L F C) (X.den F) (E.I F x) y=false:=by
 rcases h with h|h
 ·rw[aaG hq h0]at h
  simp only[fg,h,Bool.not_true,Bool.false_and]
 ·have e:jv (cX (X.den F) 32).toL 0 (E.I F x) (cS (X.den F))=true:=h;simp only[fg,e,Bool.not_true,Bool.and_false,Bool.false_and]
theorem eM(h:E.B F (.fn 227 (.pr L (.pr C (.pr X (.pr B (.pr A (.pr i m)))))))=true)(h0:0<=E.I F i)(h1:E.I F i<E.I F (.fn 0 B))(m0:0<=E.I F m)(m1:E.I F m<E.I F (.fn 0 A))(hn:E.I F n=E.I F m+1):
  (fg (E.L F C) (X.den F) (E.I F (.fn 1 (.pr B i))) (E.I F (.fn 1 (.pr A m)))=false->E.B F (.fn 227 (.pr L (.pr C (.pr X (.pr B (.pr A (.pr i n)))))))=true)/\
  (fg (E.L F C) (X.den F) (E.I F (.fn 1 (.pr B i))) (E.I F (.fn 1 (.pr A m)))=true->E.B F (.fn 227 (.pr (.fn 3 (.pr L (.fn 23 (.pr (.fn 1 (.pr B i)) (.fn 23 (.pr (.fn 1 (.pr A m)) (.fn 10 (.int 0)))))))) (.pr C (.pr X (.pr B (.pr A (.pr i n)))))))=true/\
   (aN F L=[]->E.B F (.fn 227 (.pr (.fn 23 (.pr (.fn 1 (.pr B i)) (.fn 23 (.pr (.fn 1 (.pr A m)) (.fn 10 (.int 0)))))) (.pr C (.pr X (.pr B (.pr A (.pr i n)))))))=true)):=by
 rw[<- b8]at h1 m1
 have en:(E.I F n).toNat=(E.I F m).toNat+1:=by omega
 have eb:=gL (F:=F) (l:=B) (i:=i);have ea:=gL (F:=F) (l:=A) (i:=m)
 rw[oq]at h
 rw[oq,oq,oq,en,aFL _ _ _ _ _ _ (by omega) (by omega),<- eb,<- ea,<- h]
 refine⟨fun hc=>?_,fun hc=>⟨?_,fun hx=>?_⟩⟩
 ·rw[hc];simp
 ·rw[if_pos hc,rr,lQ,lQ,kF]
 ·rw[if_pos hc,lQ,lQ,kF,hx,List.nil_append]
end
end Go.SX

set_option linter.unusedVariables false
set_option linter.unusedSectionVars false
set_option linter.unusedSimpArgs false
namespace Go.SX
/-! ### combat: creatures and attackers are found; the final list -/
section
variable {F:Env} {x y l A B a b k u i j p q n m r o c d w v X Y T N L e t C z:E}
theorem aMD:E.B F (.fn 152 (.pr (.fn 40 T) (.pr T (.fn 0 T))))=true:=by
 have h:=b8 (F:=F) (l:=T)
 rw[mt,acK,List.take_of_length_le (by omega)]
theorem adj{l:List Int}{i:Nat}(h:i<l.length):l.getD i 0∈l:=by
 rw[List.getD_eq_getElem?_getD,List.getElem?_eq_getElem h]
 exact List.getElem_mem h
theorem iv(h4:E.B F (.fn 224 (.pr x (.pr C (.pr X (.pr p (.fn 9 (.pr (.fn 1 (.pr X (.int 0))) (.int 12))))))))=true)(h0:0<=E.I F i)(h1:E.I F i<E.I F (.fn 0 x)):
  0<=E.I F (.fn 120 (.pr X (.pr (.fn 1 (.pr x i)) (.fn 9 (.pr (.fn 1 (.pr X (.int 0))) (.int 12)))))):=by
 rw[<- b8]at h1
 rw[jQ]at h4
 have hm:E.I F (.fn 1 (.pr x i))∈aN F x:=by
  rw[gL];exact adj (by omega)
 rw[h4]at hm
 obtain⟨j,hj,e⟩:=List.mem_map.1 hm
 have hj:=List.mem_range.1 (List.mem_filter.1 hj).1;exact ym hj e
theorem iu(h:E.B F (.fn 115 X)=true)(hy:E.B F (.fn 152 (.pr x (.pr (.fn 1 (.pr X (.int 31))) n)))=true)(h0:0<=E.I F i)(h1:E.I F i<E.I F (.fn 0 x)):
  0<=E.I F (.fn 120 (.pr X (.pr (.fn 1 (.pr x i)) (.fn 9 (.pr (.fn 1 (.pr X (.int 0))) (.int 12)))))):=by
 have hp:=Gm h;have ha:cy (X.den F)<=1:=by
  rw[b9]at h
  have a:=h.1;have b:=h.2.1;have e:(cy (X.den F):Int)=((E.I F (.fn 1 (.pr X (.int 34)))).toNat:Int):=rfl;omega
 rw[<- b8]at h1
 have hm:E.I F (.fn 1 (.pr x i))∈aN F x:=by
  rw[gL];exact adj (by omega)
 rw[mt]at hy
 rw[hy]at hm
 have hm:=List.mem_of_mem_take ((vf _).mem_iff.1 hm);have hm:E.I F (.fn 1 (.pr x i))∈aX (X.den F):=hm;have hf:=((o8 _).1 (NT h)).1
 rw[oV,List.take_length]at hf
 have ho:=hf.2 _ hm
 obtain⟨q,hq,he,_⟩:=ON hp (z:=4*cy (X.den F)+2) (by omega) ho
 exact ym hq he
theorem DM{G:Type}(f:G->List Int)(k:Nat):∀l:List G,(∀x,(f x).length<=k)->(l.flatMap f).length<=l.length*k
 |[],_=>by simp
 |a::l,h=>by
  have:=DM f k l h
  have:=h a
  rw[List.flatMap_cons,List.length_append,List.length_cons,Nat.add_mul,Nat.one_mul]
  omega
theorem aFJ(l:List U)(X:U)(B A:List Int)(n m:Nat):(eS l X B A n m).length<=B.length*(A.length*2)+A.length*2:=by
 unfold eS
 rw[List.length_append]
 have h1:∀(A:List Int)(x:Int),(A.flatMap fun y=>if fg l X x y then [x,y] else []).length<=A.length*2:=by
  intro A x;apply DM;intro y;split<;>simp
 have a:=DM (fun x=>A.flatMap fun y=>if fg l X x y then [x,y] else []) (A.length*2) (B.take n) (h1 A);have b:=DM (fun x=>(A.take m).flatMap fun y=>if fg l X x y then [x,y] else []) (A.length*2) ((B.drop n).take 1) (fun x=>Nat.le_trans (h1 _ x) (Nat.mul_le_mul_right _ (List.length_take_le' _ _)));have c:(B.take n).length*(A.length*2)<=B.length*(A.length*2):=Nat.mul_le_mul_right _ (List.length_take_le' _ _);have d:((B.drop n).take 1).length*(A.length*2)<=1*(A.length*2):=Nat.mul_le_mul_right _ (List.length_take_le _ _);omega
theorem Gu(h:E.B F (.fn 227 (.pr L (.pr C (.pr X (.pr B (.pr A (.pr i m)))))))=true)(hB:E.I F (.fn 0 B)<=30)(hA:E.I F (.fn 0 A)<=30):E.I F (.fn 0 L)<=1860:=by
 rw[<- b8]at *
 rw[oq]at h
 have:=aFJ (E.L F C) (X.den F) (aN F B) (aN F A) (E.I F i).toNat (E.I F m).toNat
 rw[<- h]at this
 have hb:(aN F B).length<=30:=by omega
 have ha:(aN F A).length*2<=60:=by omega
 have:=Nat.mul_le_mul hb ha
 omega
theorem iU(h:E.B F (.fn 115 X)=true):0<=E.I F (.fn 1 (.pr X (.int 34)))/\E.I F (.fn 1 (.pr X (.int 34)))<=1:=by
 rw[b9]at h
 exact⟨h.1,h.2.1⟩
theorem Ha:(E.B F (.fn 232 (.pr L (.pr C X)))=true)=(aN F L=eS (E.L F C) (X.den F) (gv (E.L F C) (X.den F) ((1-cy (X.den F):Nat):Int) (aT (X.den F))) (dy (aX (X.den F))) (gv (E.L F C) (X.den F) ((1-cy (X.den F):Nat):Int) (aT (X.den F))).length 0):=by
 show((br _==_)=true)=_
 rw[beq_iff_eq];rfl
theorem vo(h:E.B F (.fn 227 (.pr L (.pr C (.pr X (.pr B (.pr A (.pr i m)))))))=true)(h4:E.B F (.fn 224 (.pr B (.pr C (.pr X (.pr p (.fn 9 (.pr (.fn 1 (.pr X (.int 0))) (.int 12))))))))=true)
  (hA:E.B F (.fn 152 (.pr A (.pr (.fn 1 (.pr X (.int 31))) (.fn 0 (.fn 1 (.pr X (.int 31)))))))=true)(h115:E.B F (.fn 115 X)=true)(hp:E.I F p=1-E.I F (.fn 1 (.pr X (.int 34))))(hi:E.I F i=E.I F (.fn 0 B))(hm:E.I F m=0):
  E.B F (.fn 232 (.pr L (.pr C X)))=true:=by
 have ha:=iU h115;have ea:E.I F (.fn 1 (.pr X (.int 34)))=(cy (X.den F):Int):=by
  have e:(cy (X.den F):Int)=((E.I F (.fn 1 (.pr X (.int 34)))).toNat:Int):=rfl;omega
 have ep:E.I F p=((1-cy (X.den F):Nat):Int):=by omega
 have hl:=b8 (F:=F) (l:=.fn 1 (.pr X (.int 31)));have hb:=b8 (F:=F) (l:=B);have eA:aN F (.fn 1 (.pr X (.int 31)))=aX (X.den F):=rfl
 rw[mt,List.take_of_length_le (by omega),eA]at hA
 rw[jQ,ep]at h4
 have e9:(E.I F (.fn 9 (.pr (.fn 1 (.pr X (.int 0))) (.int 12)))).toNat=aT (X.den F):=rfl
 rw[e9]at h4
 have ei:(E.I F i).toNat=(aN F B).length:=by omega
 have em:(E.I F m).toNat=0:=by omega
 rw[oq,ei,em]at h
 rw[Ha,<- h4,<- hA]
 exact h
theorem Ob(h:E.B F (.fn 232 (.pr L (.pr C X)))=true):E.B F (.fn 232 (.pr (.fn 28 (.pr a L)) (.pr C X)))=true:=h
theorem Oc(h:E.B F (.fn 232 (.pr (.fn 10 b) (.pr C X)))=true):E.B F (.fn 232 (.pr (.fn 30 a) (.pr C X)))=true:=by
 rw[Ha]at *
 rw[<- h];rfl
end
end Go.SX

set_option linter.unusedVariables false
set_option linter.unusedSectionVars false
set_option linter.unusedSimpArgs false
namespace Go.SX
/-! ### combat: a block is made -/
/-- cells of a row that are a board's -/
def nq(F:Env)(X:U):List E->Nat->Prop
  |[],_=>True
  |c ::cs,j=>(if j==29||j==30 then fF (E.L F c) (cX X j).toL&&(dF (c.den F)&&fT (E.L F c))else U.eq (c.den F) (cX X j))=true/\nq F X cs (j+1)
theorem aaY{F:Env}{X:U}:∀(cs:List E)(j:Nat),nq F X cs j->∀i,i<cs.length->(if j+i==29||j+i==30 then fF (E.L F (cs.getD i (.int 0))) (cX X (j+i)).toL&&(dF ((cs.getD i (.int 0)).den F)&&fT (E.L F (cs.getD i (.int 0))))else U.eq ((cs.getD i (.int 0)).den F) (cX X (j+i)))=true
 |[],_,_,i,hi=>by simp at hi
 |c::cs,j,h,0,_=>h.1
 |c::cs,j,h,i+1,hi=>by
  have:=aaY cs (j+1) h.2 i (by simpa using hi)
  rw[show j+1+i=j+(i+1) by omega]at this
  exact this
theorem aGU{a b:U}(h:U.eq a b=true)(g:dF b=true):dF a=true:=by
 cases a<;>cases b<;>simp_all[U.eq,dF]
theorem acW:∀ {l m:List Int},l.Nodup->(∀x∈l,x∈m)->l.length<=m.length
 |[],_,_,_=>Nat.zero_le _
 |a::l,m,h,s=>by
  have hn:=List.nodup_cons.1 h;have ha:=s a List.mem_cons_self
  have:=acW (m:=m.erase a) hn.2 (fun x hx=>(List.mem_erase_of_ne (fun e=>hn.1 (by rw[<- e];exact hx))).2 (s x (List.mem_cons_of_mem _ hx)))
  rw[List.length_erase_of_mem ha]at this
  have:=List.length_pos_of_mem ha
  rw[List.length_cons];omega
section
variable {F:Env} {x y l A B a b k u i j p q n m r o c d w v X Y W R T N L e t C z l0 l1 l2 l3 l4 l5 l6 l7 l8 l9 l10 l11 l12:E}
theorem ah2:(E.B F (.fn 234 (.pr C (.pr X (.pr x y))))=true)=(yR (E.L F C) (X.den F) (E.I F x) (E.I F y)=true):=rfl
theorem vE:(E.B F (.fn 235 (.pr Y (.pr X (.int 32))))=true)=(pE ((List.range 38).filter fun k=>!(k==32)) (Y.den F) (X.den F)=true):=rfl
theorem ah4:(E.B F (.fn 238 (.pr Y X))=true)=(pE (List.range 32) (Y.den F) (X.den F)=true):=rfl
theorem ah3:(E.B F (.fn 236 (.pr Y X))=true)=(EZ (Y.den F) (X.den F)=true):=rfl
theorem ah1:(E.B F (.fn 233 (.pr z (.pr b (.pr x y))))=true)=(U.eqs (E.L F z) (E.L F b++[x.den F,y.den F])=true):=rfl
theorem OI:(E.B F (.fn 237 (.pr a b))=true)=(aN F a=aN F b):=by
 apply propext;exact beq_iff_eq
theorem Gx(h:E.B F (.fn 232 (.pr a (.pr C X)))=true)(g:E.B F (.fn 232 (.pr b (.pr C X)))=true):E.B F (.fn 237 (.pr a b))=true:=by
 rw[Ha]at h g
 rw[OI,h,g]
theorem od:E.I F (.fn 9 (.pr l (.int 1)))=E.I F (.fn 0 l):=by
 show(((E.L F l).length/1:Nat):Int)=((E.L F l).length:Int)
 rw[Nat.div_one]
theorem ahm(h:E.B F (.fn 237 (.pr a b))=true):E.I F (.fn 9 (.pr a (.int 2)))=E.I F (.fn 9 (.pr b (.int 2))):=by
 rw[OI]at h
 have:=congrArg List.length h
 have ha:=b8 (F:=F) (l:=a);have hb:=b8 (F:=F) (l:=b);have e:∀l:E,E.I F (.fn 9 (.pr l (.int 2)))=(((E.L F l).length/2:Nat):Int):=fun _=>rfl
 have e0:∀l:E,E.I F (.fn 0 l)=(((E.L F l).length:Nat):Int):=fun _=>rfl
 rw[e0]at ha hb
 rw[e,e]
 omega
theorem ahl(h:E.B F (.fn 237 (.pr a b))=true):E.I F (.fn 1 (.pr a i))=E.I F (.fn 1 (.pr b i)):=by
 rw[OI]at h
 rw[gL,gL,h]
theorem zD(hv:E.B F (.fn 115 X)=true)(h:E.B F (.fn 232 (.pr l (.pr C X)))=true):(E.B F (.fn 229 (.pr l (.pr x (.pr y (.fn 9 (.pr l (.int 2)))))))=true)↔(E.B F (.fn 234 (.pr C (.pr X (.pr x y))))=true):=by
 have ha:cy (X.den F)<=1:=by
  rw[b9]at hv
  have a:=hv.1;have b:=hv.2.1;have e:(cy (X.den F):Int)=((E.I F (.fn 1 (.pr X (.int 34)))).toNat:Int):=rfl;omega
 have ep:((1-cy (X.den F):Nat):Int)=1-(cy (X.den F):Int):=by omega
 rw[Ha,ep]at h
 rw[ah2]
 unfold yR;simp only[<- h];have hl:(aN F l).length=(E.L F l).length:=by
  have:=b8 (F:=F) (l:=l)
  have e0:E.I F (.fn 0 l)=(((E.L F l).length:Nat):Int):=rfl;omega
 show(Lz (E.L F l) (E.I F x) (E.I F y) ((((E.L F l).length/2:Nat):Int)).toNat=true)↔_
 rw[hl,Int.toNat_natCast]
 unfold Lz
 rw[List.any_eq_true,List.any_eq_true]
 have e:∀k,k<(E.L F l).length->(aN F l).getD k 0=nI (E.L F l) k:=fun k hk=>(Lw _ _).symm
 constructor
 ·rintro⟨q,hq,g⟩
  have hq':=List.mem_range.1 hq
  refine⟨q,hq,?_⟩
  rw[e _ (by omega),e _ (by omega)];exact g
 ·rintro⟨q,hq,g⟩
  have hq':=List.mem_range.1 hq
  refine⟨q,hq,?_⟩
  rw[e _ (by omega),e _ (by omega)]at g;exact g
/-- a block that may be made: its attacker attacks, and no block is of it -/
theorem aIh{l:List U}{X:U}{x y:Int}(h:yR l X x y=true):y∈aX X/\jv (cX X 32).toL 1 y (cS X)=false:=by
  unfold yR at h
  rw[List.any_eq_true]at h
  obtain⟨q,hq,g⟩:=h
  have hq:=List.mem_range.1 hq;generalize gv l X (1-cy X) (aT X)=B at hq g;simp only[Bool.and_eq_true,beq_iff_eq]at g;have hev:∀L:List (List Int),(∀z∈L,∃a b,z= [a,b]/\fg l X a b=true/\b∈dy (aX X))->∀q,2*q+1<L.flatten.length->∃a b,L.flatten.getD (q*2) 0=a/\L.flatten.getD (q*2+1) 0=b/\fg l X a b=true/\b∈dy (aX X):=by
    intro L;induction L with
    |nil=>intro _ q hq;simp at hq
    |cons z L ih=>
      intro hz q hq
      obtain⟨a,b,rfl,h1,h2⟩:=hz z List.mem_cons_self
      cases q with
      |zero=>exact⟨a,b,rfl,rfl,h1,h2⟩
      |succ q=>
        have:=ih (fun z hz'=>hz z (List.mem_cons_of_mem _ hz')) q (by simp only[List.flatten_cons,List.length_append,List.length_cons,List.length_nil]at hq;omega)
        rw[show(q+1)*2=q*2+1+1 by omega]
        simpa using this
  have hL:eS l X B (dy (aX X)) B.length 0=(B.flatMap fun x=>(dy (aX X)).flatMap fun y=>if fg l X x y then [[x,y]] else []).flatten:=by
    unfold eS
    rw[List.take_length,List.drop_length]
    simp only[List.take_nil,List.flatMap_nil,List.append_nil];clear hq g hev;induction B with
    |nil=>rfl
    |cons b B ih=>
      rw[List.flatMap_cons,List.flatMap_cons,List.flatten_append,ih]
      congr 1;generalize dy (aX X)=A;induction A with
      |nil=>rfl
      |cons a A iA=>
        rw[List.flatMap_cons,List.flatMap_cons,List.flatten_append,iA]
        congr 1;split<;>rfl
  have:=hev _ (fun z hz=>?_) q (by rw[<- hL];omega)
  · obtain⟨a,b,e1,e2,h1,h2⟩:=this
    rw[hL]at g
    rw[g.1]at e1;rw[g.2]at e2
    subst e1;subst e2
    refine⟨(vf _).mem_iff.1 h2, ?_⟩
    unfold fg at h1;simp only[Bool.and_eq_true,Bool.not_eq_true']at h1;exact h1.1.2
  · obtain⟨a,ha,hz⟩:=List.mem_flatMap.1 hz
    obtain⟨b,hb,hz⟩:=List.mem_flatMap.1 hz
    split at hz
    · rename_i hok
      rw[List.mem_singleton]at hz
      exact⟨a,b,hz,hok,hb⟩
    · cases hz
theorem aIi(h:E.B F (.fn 115 X)=true)(hs:E.B F (.fn 117 X)=true)(hm:E.B F (.fn 234 (.pr C (.pr X (.pr x y))))=true):cS (X.den F)+1<=30:=by
 rw[ah2]at hm
 obtain⟨h1,h2⟩:=aIh hm
 have hb:=(qX _ _).1 ((o8 _).1 (NT h)).2;have hf:∀q,q<cS (X.den F)->¬blk (X.den F) q 1=E.I F y:=by
  intro q hq e
  have:jv (cX (X.den F) 32).toL 1 (E.I F y) (cS (X.den F))=true:=by
   unfold jv
   rw[List.any_eq_true]
   exact⟨q,List.mem_range.2 hq,by rw[beq_iff_eq];exact e⟩
  rw[this]at h2;cases h2
 have hl:=acW (l:=E.I F y::dp (X.den F) (cS (X.den F)) 1) (m:=aX (X.den F)) (List.nodup_cons.2 ⟨fun hm=>?_,hb.1⟩) (fun a ha=>?_)
 ·have h31:=(ai hs).2.2.1.2.2.2.1;have e31:E.I F (.fn 0 (.fn 1 (.pr X (.int 31))))=(((aX (X.den F)).length:Nat):Int):=by simp[aX,br];rfl
  have:(dp (X.den F) (cS (X.den F)) 1).length=cS (X.den F):=by simp[dp]
  rw[List.length_cons,this]at hl
  omega
 ·obtain⟨q,hq,e⟩:=List.mem_map.1 hm
  exact hf q (List.mem_range.1 hq) e
 ·rcases List.mem_cons.1 ha with rfl|ha
  ·exact h1
  ·obtain⟨q,hq,e⟩:=List.mem_map.1 ha
   have:=(hb.2.2 q (List.mem_range.1 hq)).1
   rw[<- e]
   exact this
theorem ahk(h:E.B F (.fn 200 (.pr z b))=true):E.B F (.fn 233 (.pr (.fn 3 (.pr z (.fn 23 (.pr x (.fn 23 (.pr y (.fn 10 (.int 0)))))))) (.pr b (.pr x y))))=true:=by
 rw[ah1]
 exact KQ h (U.eqs_rfl [x.den F,y.den F])
/-- the first 32 cells of a board, a new list of blocks, the board's other cells -/
noncomputable def u5(Y X c:E):E:=cL ((List.range 38).map fun j=>if j<32 then .fn 1 (.pr Y (.int (Int.ofNat j)))else if j=32 then c else .fn 1 (.pr X (.int (Int.ofNat j))))
theorem Ng(j:Nat)(h:j<38):cX ((u5 Y X c).den F) j=(if j<32 then E.fn 1 (.pr Y (.int (Int.ofNat j)))else if j=32 then c else E.fn 1 (.pr X (.int (Int.ofNat j)))).den F:=by
 have:=kL (F:=F) ((List.range 38).map fun j=>if j<32 then E.fn 1 (.pr Y (.int (Int.ofNat j)))else if j=32 then c else .fn 1 (.pr X (.int (Int.ofNat j)))) j (by simpa using h)
 refine Eq.trans this ?_;congr 1
 rw[List.getD_eq_getElem?_getD,List.getElem?_map,List.getElem?_range h];rfl
theorem aM7{cs:List E}(hl:cs.length=32)(h:nq F (X.den F) cs 0):E.B F (.fn 238 (.pr (cL cs) X))=true:=by
 rw[ah4]
 unfold pE
 rw[List.all_eq_true]
 intro j hj;have hj:=List.mem_range.1 hj;have g:=aaY cs 0 h j (by omega)
 rw[Nat.zero_add]at g
 have e:cX ((cL cs).den F) j=(cs.getD j (.int 0)).den F:=kL cs j (by omega)
 rw[e];exact g
theorem fh(j:Nat)(hj:(j==29||j==30)=false){cs:List E}(h:nq F (X.den F) cs (j+1)):nq F (X.den F) (.fn 1 (.pr X (.int (Int.ofNat j)))::cs) j:=by
 refine⟨?_,h⟩
 rw[hj];exact U.eq_rfl _
theorem lE(j:Nat)(hj:(j==29||j==30)=false)(hm:j∈[0,6,7,8,9,20,21,22,23,29,30,31,32])(ht:E.B F (.fn 116 X)=true)(h1:E.B F (.fn 200 (.pr c (.fn 1 (.pr X (.int (Int.ofNat j))))))=true)(h2:E.B F (.fn 201 c)=true)
  {cs:List E}(h:nq F (X.den F) cs (j+1)):nq F (X.den F) (c::cs) j:=by
 refine⟨?_,h⟩
 rw[hj]
 rw[sj]at ht
 exact Do h1 h2 (ht.2.1 j hm)
theorem abg(j:Nat)(hj:(j==29||j==30)=true)(h1:E.B F (.fn 187 (.pr c (.fn 1 (.pr X (.int (Int.ofNat j))))))=true)(h2:E.B F (.fn 195 c)=true){cs:List E}(h:nq F (X.den F) cs (j+1)):nq F (X.den F) (c::cs) j:=by
 refine⟨?_,h⟩
 rw[hj]
 show(fF (E.L F c) (cX (X.den F) j).toL&&(dF (c.den F)&&fT (E.L F c)))=true
 rw[Bool.and_eq_true]
 exact⟨h1,h2⟩
theorem og{l:List Nat}{Y X:U}(h:pE l Y X=true){j:Nat}(hj:j∈l):(if j==29||j==30 then fF (cX Y j).toL (cX X j).toL&&(dF (cX Y j)&&fT (cX Y j).toL)else U.eq (cX Y j) (cX X j))=true:=by
 unfold pE at h
 rw[List.all_eq_true]at h
 exact h j hj
theorem Od(h:E.B F (.fn 238 (.pr Y X))=true):E.B F (.fn 235 (.pr (u5 Y X c) (.pr X (.int 32))))=true:=by
 rw[ah4]at h
 rw[vE]
 unfold pE
 rw[List.all_eq_true]
 intro j hj
 obtain⟨hj,h32⟩:=List.mem_filter.1 hj
 have hj:=List.mem_range.1 hj
 rw[Ng j hj]
 by_cases hlt:j<32
 ·have:=og h (List.mem_range.2 hlt)
  rw[if_pos hlt];exact this
 ·have hn:¬j=32:=by simpa using h32
  rw[if_neg hlt,if_neg hn]
  have h9:(j==29||j==30)=false:=by
   simp only[Bool.or_eq_false_iff,beq_eq_false_iff_ne];omega
  rw[h9]
  exact U.eq_rfl _
theorem pt{j:Nat}(h:j<38)(hn:¬j=32):j∈(List.range 38).filter fun k=>!(k==32):=
 List.mem_filter.2 ⟨List.mem_range.2 h,by simpa using hn⟩
theorem aJI(h:E.B F (.fn 235 (.pr Y (.pr X (.int 32))))=true)(hX:E.B F (.fn 116 X)=true){j:Nat}(hj:j∈[0,6,7,8,9,20,21,22,23,29,30,31,32])(hn:¬j=32):dF (cX (Y.den F) j)=true:=by
 rw[vE]at h
 rw[sj]at hX
 have hj38:j<38:=by simp only[List.mem_cons,List.not_mem_nil,or_false]at hj;omega
 have:=og h (pt hj38 hn)
 split at this
 ·simp only[Bool.and_eq_true]at this;exact this.2.1
 ·exact aGU this (hX.2.1 j hj)
theorem aHU:((u5 Y X c).den F).toL.length=38:=by
 have lenm:∀cs:List E,((cL cs).den F).toL.length=cs.length:=by
  intro cs;induction cs with
  |nil=>rfl
  |cons c cs ih=>show(((cL cs).den F).toL.length+1)=_;rw[ih];rfl
 exact lenm _
theorem aMi(h:E.B F (.fn 238 (.pr Y X))=true)(hX:E.B F (.fn 116 X)=true):E.B F (.fn 116 (u5 Y X (.fn 28 (.pr z l))))=true:=by
 have h5:=Od (c:=.fn 28 (.pr z l)) h
 rw[sj]
 refine⟨aHU,fun j hj=>?_,?_,?_⟩
 ·by_cases hn:j=32
  ·subst hn
   rw[Ng 32 (by decide)];rfl
  ·exact aJI h5 hX hj hn
 ·rw[vE]at h5
  have:=og h5 (pt (j:=29) (by decide) (by decide))
  simp only[beq_self_eq_true,Bool.true_or,if_true,Bool.and_eq_true]at this;exact this.2.2
 ·rw[vE]at h5
  have:=og h5 (pt (j:=30) (by decide) (by decide))
  rw[if_pos (by decide)]at this
  simp only[Bool.and_eq_true]at this;exact this.2.2
theorem aMl(h:E.B F (.fn 235 (.pr Y (.pr X (.int 32))))=true)(hs:E.B F (.fn 117 X)=true)(hb:cS (Y.den F)<=30):E.B F (.fn 117 Y)=true:=by
 rw[vE]at h
 have hs:je (X.den F)=true:=hs;show je (Y.den F)=true;have ls:∀j,(j==29||j==30)=false->j<38->¬j=32->U.eqs (cX (Y.den F) j).toL (cX (X.den F) j).toL=true:=fun j hj h38 hn=>by
  have:=og h (pt h38 hn)
  rw[hj]at this
  exact re this
 have it:∀j,(j==29||j==30)=true->j<38->fF (cX (Y.den F) j).toL (cX (X.den F) j).toL=true:=fun j hj h38=>by
  have:=og h (pt h38 (by simp only[Bool.or_eq_true,beq_iff_eq]at hj;omega))
  rw[hj]at this
  simp only[if_true,Bool.and_eq_true]at this;exact this.1
 have hz:∀k,k<8->aY (Y.den F) k=aY (X.den F) k:=fun k hk=>Dq (ls _ (by
  have:k=0\/k=1\/k=2\/k=3\/k=4\/k=5\/k=6\/k=7:=by omega
  rcases this with rfl|rfl|rfl|rfl|rfl|rfl|rfl|rfl<;>rfl) (by omega) (by omega))
 have e29:=it 29 (by decide) (by decide);have e30:=it 30 (by decide) (by decide);have n29:=((gI _ _).1 e29).1;have n30:=((gI _ _).1 e30).1;have ea:aX (Y.den F)=aX (X.den F):=Dq (ls 31 (by decide) (by decide) (by decide));have eo:aT (Y.den F)=aT (X.den F):=by
  have:=ky (ls 0 (by decide) (by decide) (by decide))
  unfold aT;rw[this]
 have es:cD (Y.den F)=cD (X.den F):=n29;have ezz:((List.range 8).all fun z=>decide ((aY (Y.den F) z).length<=40))=(List.range 8).all fun z=>decide ((aY (X.den F) z).length<=40):=Kh fun k hk=>by rw[hz k hk]
 unfold je at hs ⊢
 rw[ezz,ea,eo,es,n30]
 rw[zr e29 (cD (X.den F)) (by exact Nat.le_refl _),zr e30 ((cX (X.den F) 30).toL.length/5) (Nat.le_refl _)]
 simp only[Bool.and_eq_true,decide_eq_true_eq]at hs ⊢
 refine⟨⟨⟨⟨⟨⟨⟨?_,?_⟩,?_⟩,?_⟩,?_⟩,?_⟩,?_⟩,?_⟩
 all_goals first | exact hb | grind
theorem aMm(h:E.B F (.fn 238 (.pr Y X))=true)(hs:E.B F (.fn 117 X)=true)(h2:E.B F (.fn 200 (.pr l (.fn 1 (.pr X (.int 32)))))=true)(hv:E.B F (.fn 115 X)=true)(hm:E.B F (.fn 234 (.pr C (.pr X (.pr x y))))=true):
  E.B F (.fn 117 (u5 Y X (.fn 28 (.pr z (.fn 3 (.pr l (.fn 23 (.pr x (.fn 23 (.pr y (.fn 10 (.int 0))))))))))))=true:=by
 have hf:=aIi hv hs hm;refine aMl (Od h) hs ?_;have e:cS ((u5 Y X (.fn 28 (.pr z (.fn 3 (.pr l (.fn 23 (.pr x (.fn 23 (.pr y (.fn 10 (.int 0))))))))))).den F)=((E.L F l)++[x.den F,y.den F]).length/2:=by
  unfold cS
  rw[Ng 32 (by decide)];rfl
 have h2':U.eqs (E.L F l) (cX (X.den F) 32).toL=true:=h2;have el:=ky h2';have eb:cS (X.den F)=(cX (X.den F) 32).toL.length/2:=rfl
 rw[e,List.length_append,el]
 simp only[List.length_cons,List.length_nil];omega
noncomputable def aeN(X:E):E:=cL (fB.map fun j=>.fn 1 (.pr X (.int (Int.ofNat j))))
theorem aM6:E.B F (.fn 236 (.pr (aeN X) X))=true:=by
 rw[ah3]
 unfold EZ
 rw[List.all_eq_true]
 intro k hk;have hk:=List.mem_range.1 hk;have hl:fB.length=25:=rfl
 have:=kL (F:=F) (fB.map fun j=>E.fn 1 (.pr X (.int (Int.ofNat j)))) k (by simpa[hl]using hk)
 unfold aeN
 rw[this,List.getD_eq_getElem?_getD,List.getElem?_map,List.getElem?_eq_getElem (by omega),List.getD_eq_getElem?_getD,List.getElem?_eq_getElem (by omega)]
 exact U.eq_rfl _
theorem aMV(h:E.B F (.fn 235 (.pr W (.pr X (.int 32))))=true)(g:E.B F (.fn 233 (.pr (.fn 1 (.pr W (.int 32))) (.pr (.fn 1 (.pr X (.int 32))) (.pr x y))))=true)(hn:E.B F (.fn 236 (.pr Y X))=true)
  (h0:E.B F (.fn 200 (.pr l0 (.fn 1 (.pr X (.int 0)))))=true)(h1:E.B F (.fn 200 (.pr l1 (.fn 1 (.pr X (.int 6)))))=true)(h2:E.B F (.fn 200 (.pr l2 (.fn 1 (.pr X (.int 7)))))=true)(h3:E.B F (.fn 200 (.pr l3 (.fn 1 (.pr X (.int 8)))))=true)(h4:E.B F (.fn 200 (.pr l4 (.fn 1 (.pr X (.int 9)))))=true)
  (h5:E.B F (.fn 200 (.pr l5 (.fn 1 (.pr X (.int 20)))))=true)(h6:E.B F (.fn 200 (.pr l6 (.fn 1 (.pr X (.int 21)))))=true)(h7:E.B F (.fn 200 (.pr l7 (.fn 1 (.pr X (.int 22)))))=true)(h8:E.B F (.fn 200 (.pr l8 (.fn 1 (.pr X (.int 23)))))=true)
  (h9:E.B F (.fn 187 (.pr l9 (.fn 1 (.pr X (.int 29)))))=true)(h10:E.B F (.fn 187 (.pr l10 (.fn 1 (.pr X (.int 30)))))=true)(h11:E.B F (.fn 200 (.pr l11 (.fn 1 (.pr X (.int 31)))))=true)
  (h12:E.B F (.fn 233 (.pr l12 (.pr (.fn 1 (.pr X (.int 32))) (.pr x y))))=true):
  E.B F (C7 W Y l0 l1 l2 l3 l4 l5 l6 l7 l8 l9 l10 l11 l12)=true:=by
 rw[vE]at h
 rw[ah3]at hn
 unfold EZ at hn
 rw[List.all_eq_true]at hn
 refine aNO ?_;unfold oe
 rw[List.all_eq_true]
 intro j hj;have hj:=List.mem_range.1 hj;have bx:∀ {q:E} (j:Nat),(j==29||j==30)=false->j<38->¬j=32->E.B F (.fn 200 (.pr q (.fn 1 (.pr X (.int (Int.ofNat j))))))=true->U.eqs (cX (W.den F) j).toL (q.den F).toL=true:=fun {q} j h9 h38 hn hq=>by
  have:=og h (pt h38 hn)
  rw[h9]at this
  have hq:U.eqs (q.den F).toL (cX (X.den F) j).toL=true:=hq;exact KS (re this) (KR hq)
 have it:∀ {q:E} (j:Nat),(j==29||j==30)=true->j<38->E.B F (.fn 187 (.pr q (.fn 1 (.pr X (.int (Int.ofNat j))))))=true->fF (cX (W.den F) j).toL (q.den F).toL=true:=fun {q} j h9 h38 hq=>by
  have:=og h (pt h38 (by simp only[Bool.or_eq_true,beq_iff_eq]at h9;omega))
  rw[h9]at this
  simp only[if_true,Bool.and_eq_true]at this;have hq:fF (q.den F).toL (cX (X.den F) j).toL=true:=hq;have a:=(gI _ _).1 this.1;have b:=(gI _ _).1 hq
  rw[gI]
  exact⟨a.1.trans b.1.symm,KS a.2 (KR b.2)⟩
 cases e:jN.idxOf? j with
 |none=>
  obtain⟨t1,t2⟩:=aHp hj e
  simp only[Bool.and_eq_true,decide_eq_true_eq,beq_iff_eq,Bool.not_eq_true']at t1 t2;have a:=hn (fB.idxOf j) (List.mem_range.2 t1.1)
  rw[t1.2]at a
  have h9:(j==29||j==30)=false:=by
   cases hh:(j==29||j==30)with
   |false=>rfl
   |true=>
    simp only[Bool.or_eq_true,beq_iff_eq]at hh;rcases hh with rfl|rfl<;>exact absurd t2.2 (by decide)
  have b:=og h (pt hj (fun e32=>by subst e32;exact absurd t2.2 (by decide)))
  rw[h9]at b
  have b:U.eq (cX (W.den F) j) (cX (X.den F) j)=true:=b;show gg j (cX (W.den F) j) (cX (Y.den F) (fB.idxOf j))=true;unfold gg
  rw[h9]
  have hc:[0,6,7,8,9,20,21,22,23,31,32].contains j=false:=by
   cases hh:[0,6,7,8,9,20,21,22,23,31,32].contains j with
   |false=>rfl
   |true=>
    simp only[List.contains_iff_mem,List.mem_cons,List.not_mem_nil,or_false]at hh;rcases hh with rfl|rfl|rfl|rfl|rfl|rfl|rfl|rfl|rfl|rfl|rfl<;>exact absurd t2.2 (by decide)
  rw[hc]
  simp only[Bool.false_eq_true,if_false];split
  ·rw[KP b,KP a];exact beq_self_eq_true _
  ·rw[xY b,xY a];exact beq_self_eq_true _
 |some i=>
  have t:=DZ hj e;simp only[List.mem_cons,Prod.mk.injEq,List.not_mem_nil,or_false]at t;rcases t with⟨rfl,rfl⟩|⟨rfl,rfl⟩|⟨rfl,rfl⟩|⟨rfl,rfl⟩|⟨rfl,rfl⟩|⟨rfl,rfl⟩|⟨rfl,rfl⟩|⟨rfl,rfl⟩|⟨rfl,rfl⟩|⟨rfl,rfl⟩|⟨rfl,rfl⟩|⟨rfl,rfl⟩|⟨rfl,rfl⟩
  ·exact bx 0 rfl (by decide) (by decide) h0
  ·exact bx 6 rfl (by decide) (by decide) h1
  ·exact bx 7 rfl (by decide) (by decide) h2
  ·exact bx 8 rfl (by decide) (by decide) h3
  ·exact bx 9 rfl (by decide) (by decide) h4
  ·exact bx 20 rfl (by decide) (by decide) h5
  ·exact bx 21 rfl (by decide) (by decide) h6
  ·exact bx 22 rfl (by decide) (by decide) h7
  ·exact bx 23 rfl (by decide) (by decide) h8
  ·exact it 29 rfl (by decide) h9
  ·exact it 30 rfl (by decide) h10
  ·exact bx 31 rfl (by decide) (by decide) h11
  ·rw[ah1]at g h12
   have g:U.eqs (cX (W.den F) 32).toL _=true:=g;exact KS g (KR h12)
/-! the reference's blocks -/
theorem lO(hq:E.I F q=E.I F (.fn 120 (.pr X (.pr x (.fn 9 (.pr (.fn 1 (.pr X (.int 0))) (.int 12)))))))(h0:0<=E.I F q):E.I F (.fn 1 (.pr (.fn 1 (.pr X (.int 0))) (.fn 6 (.pr (.fn 8 (.pr q (.int 12))) (.int 0)))))=E.I F x:=by
 rw[yj h0]
 have e:E.I F (.fn 120 (.pr X (.pr x (.fn 9 (.pr (.fn 1 (.pr X (.int 0))) (.int 12))))))=cm (X.den F) (E.I F x) (aT (X.den F)):=rfl;have hi:0<=cm (X.den F) (E.I F x) (aT (X.den F)):=by omega
 obtain⟨h1,h2⟩:=tV hi
 rw[hq,e]
 exact h2
theorem jz(hq:E.I F q=E.I F (.fn 120 (.pr X (.pr x (.fn 9 (.pr (.fn 1 (.pr X (.int 0))) (.int 12)))))))(h0:0<=E.I F q)(hr:E.I F r=E.I F (.fn 120 (.pr X (.pr y (.fn 9 (.pr (.fn 1 (.pr X (.int 0))) (.int 12)))))))(h1:0<=E.I F r):
  fg (E.L F C) (X.den F) (E.I F x) (E.I F y)=(!E.B F (.fn 1 (.pr (.fn 1 (.pr X (.int 0))) (.fn 6 (.pr (.fn 8 (.pr q (.int 12))) (.int 9))))) && !E.B F (.fn 231 (.pr (.fn 1 (.pr X (.int 32))) (.pr (.fn 1 (.pr (.fn 1 (.pr X (.int 0))) (.fn 6 (.pr (.fn 8 (.pr q (.int 12))) (.int 0))))) (.fn 9 (.pr (.fn 1 (.pr X (.int 32))) (.int 2)))))) &&
   !E.B F (.fn 230 (.pr (.fn 1 (.pr X (.int 32))) (.pr (.fn 1 (.pr (.fn 1 (.pr X (.int 0))) (.fn 6 (.pr (.fn 8 (.pr r (.int 12))) (.int 0))))) (.fn 9 (.pr (.fn 1 (.pr X (.int 32))) (.int 2)))))) && !(E.B F (.fn 222 (.pr C (.pr (.fn 1 (.pr (.fn 1 (.pr X (.int 0))) (.fn 6 (.pr (.fn 8 (.pr r (.int 12))) (.int 1))))) (.int 2)))) && !E.B F (.fn 222 (.pr C (.pr (.fn 1 (.pr (.fn 1 (.pr X (.int 0))) (.fn 6 (.pr (.fn 8 (.pr q (.int 12))) (.int 1))))) (.int 2)))))):=by
 rw[kp hq h0 hr h1]
 have e0:∀a:E,E.I F a=E.I F x->E.B F (.fn 231 (.pr (.fn 1 (.pr X (.int 32))) (.pr a (.fn 9 (.pr (.fn 1 (.pr X (.int 32))) (.int 2))))))=E.B F (.fn 231 (.pr (.fn 1 (.pr X (.int 32))) (.pr x (.fn 9 (.pr (.fn 1 (.pr X (.int 32))) (.int 2)))))):=fun a h=>by
  show jv _ 0 (E.I F a) _=jv _ 0 (E.I F x) _
  rw[h];rfl
 have e1:∀a:E,E.I F a=E.I F y->E.B F (.fn 230 (.pr (.fn 1 (.pr X (.int 32))) (.pr a (.fn 9 (.pr (.fn 1 (.pr X (.int 32))) (.int 2))))))=E.B F (.fn 230 (.pr (.fn 1 (.pr X (.int 32))) (.pr y (.fn 9 (.pr (.fn 1 (.pr X (.int 32))) (.int 2)))))):=fun a h=>by
  show jv _ 1 (E.I F a) _=jv _ 1 (E.I F y) _
  rw[h];rfl
 rw[e0 _ (lO hq h0),e1 _ (lO hr h1)]
theorem ag8{a' b':E}(ea:E.I F a'=E.I F a)(eb:E.I F b'=E.I F b)(h:E.B F (.fn 227 (.pr (.fn 3 (.pr L (.fn 23 (.pr a (.fn 23 (.pr b (.fn 10 (.int 0)))))))) T))=true):E.B F (.fn 227 (.pr (.fn 3 (.pr L (.fn 23 (.pr a' (.fn 23 (.pr b' (.fn 10 (.int 0)))))))) T))=true:=by
 have e:∀a b:E,br ((E.fn 3 (.pr L (.fn 23 (.pr a (.fn 23 (.pr b (.fn 10 (.int 0)))))))).den F)=br (L.den F)++[E.I F a,E.I F b]:=fun a b=>by
  show((L.den F).toL++[a.den F,b.den F]).map U.toI=_
  rw[List.map_append];rfl
 have h:(br ((E.fn 3 (.pr L (.fn 23 (.pr a (.fn 23 (.pr b (.fn 10 (.int 0)))))))).den F)==_)=true:=h
 show(br ((E.fn 3 (.pr L (.fn 23 (.pr a' (.fn 23 (.pr b' (.fn 10 (.int 0)))))))).den F)==_)=true
 rw[e]at h ⊢
 rw[ea,eb];exact h
theorem ag7{a' b':E}(ea:E.I F a'=E.I F a)(eb:E.I F b'=E.I F b)(h:E.B F (.fn 227 (.pr (.fn 23 (.pr a (.fn 23 (.pr b (.fn 10 (.int 0)))))) T))=true):E.B F (.fn 227 (.pr (.fn 23 (.pr a' (.fn 23 (.pr b' (.fn 10 (.int 0)))))) T))=true:=by
 have e:∀a b:E,br ((E.fn 23 (.pr a (.fn 23 (.pr b (.fn 10 (.int 0)))))).den F)=[E.I F a,E.I F b]:=fun a b=>rfl
 have h:(br ((E.fn 23 (.pr a (.fn 23 (.pr b (.fn 10 (.int 0)))))).den F)==_)=true:=h
 show(br ((E.fn 23 (.pr a' (.fn 23 (.pr b' (.fn 10 (.int 0)))))).den F)==_)=true
 rw[e]at h ⊢
 rw[ea,eb];exact h
theorem abe(h4:E.B F (.fn 224 (.pr x (.pr C (.pr X (.pr p (.fn 9 (.pr (.fn 1 (.pr X (.int 0))) (.int 12))))))))=true)(hs:E.B F (.fn 117 X)=true):E.I F (.fn 0 x)<=30:=by
 rw[jQ]at h4
 have hb:=(ai hs).2.2.1.2.2.1
 rw[<- b8,h4]
 unfold gv
 rw[List.length_map]
 have:=List.length_filter_le (tK (E.L F C) (X.den F) (E.I F p)) (List.range (E.I F (.fn 9 (.pr (.fn 1 (.pr X (.int 0))) (.int 12)))).toNat)
 rw[List.length_range]at this
 omega
theorem aMB(h:E.B F (.fn 152 (.pr x (.pr l n)))=true)(e:E.I F n=E.I F m):E.B F (.fn 152 (.pr (.fn 28 (.pr z x)) (.pr l m)))=true:=by
 rw[mt]at h ⊢
 rw[<- e];exact h
theorem aMA(h:E.I F m<=0):E.B F (.fn 152 (.pr (.fn 30 a) (.pr l m)))=true:=by
 rw[mt]
 have:(E.I F m).toNat=0:=by omega
 rw[this];rfl
theorem aJy:E.I F (.fn 9 (.pr (.fn 30 a) (.int 2)))=0:=by
 rw[aJx,show aN F (.fn 30 a)=[] from rfl];rfl
end
end Go.SX

