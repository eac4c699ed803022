/-
  What the program's own functions say
-/
import Derived.Test.YtnnbmcfabojjjaaSXe
set_option linter.unusedSectionVars false
set_option linter.unusedVariables false
set_option linter.unusedSimpArgs false
namespace Go.SX
/-! ### Boards: what is valid -/
noncomputable def aG(F:Env)(e:E):List Int:=(E.L F e).map U.toI
theorem KO(l:List U)(k:Nat):(l.getD k (.int 0)).toI=(l.map U.toI).getD k 0:=by
 simp only[List.getD_eq_getElem?_getD,List.getElem?_map];cases l[k]? <;> rfl
theorem aaZ{p:Nat->Bool}(n:Nat):(List.range n).all p=true↔∀i,i<n->p i=true:=by grind
theorem IF(l:List U)(n:Nat):yx l n=true↔∀i,i<n->Dy (nI l (i*2)) (nI l (i*2+1))=true:=by
 simp_all[yx]
theorem xA(l:List U)(q:Bool)(n:Nat):tC l q n=true↔∀i,i<n->mg (nI l (i*5)) (nI l (i*5+1)) (nI l (i*5+2)) (nI l (i*5+3)) (l.getD (i*5+4) (.int 0)).toL q=true:=by
 simp_all[tC]
theorem gv(a x b:Int):cp a x b=true↔a<=x/\x<=b:=by grind[cp]
theorem VS(a b:Int):Dy a b=true↔0<=a/\a<=500/\0<=b/\b<=1/\(a=0\/b=0):=by
 simp_all[Dy,gv,and_assoc]
/-- a row of a list whose dP have w cells -/
def bS(T:E)(i:E)(w j:Nat):E:= .fn 1 (.pr T (.fn 6 (.pr (.fn 8 (.pr i (.int (Int.ofNat w)))) (.int (Int.ofNat j)))))
section
variable {F:Env} {x y l A a b k u i j p q n m r o c d w v X T N L:E}
theorem dO:((aG F l).length:Int)=E.I F (.fn 0 l):=by
 show((E.L F l).map _).length=((E.L F l).length:Int)
 simp
theorem yw:E.I F (.fn 1 (.pr l i))=(aG F l).getD (E.I F i).toNat 0:=KO _ _
theorem l5(i:E)(w j:Nat)(h:0<=E.I F i):E.I F (.fn 1 (.pr T (.fn 6 (.pr (.fn 8 (.pr i (.int (Int.ofNat w)))) (.int (Int.ofNat j))))))=nI (E.L F T) ((E.I F i).toNat*w+j):=by
 show((E.L F T).getD (E.I F i*w+j).toNat _).toI=_
 have e:(E.I F i*w+j).toNat=(E.I F i).toNat*w+j:=by
  grind
 rw[e];rfl
theorem AM(i:E)(w j:Nat)(h:0<=E.I F i):E.L F (.fn 1 (.pr T (.fn 6 (.pr (.fn 8 (.pr i (.int (Int.ofNat w)))) (.int (Int.ofNat j))))))=((E.L F T).getD ((E.I F i).toNat*w+j) (.int 0)).toL:=by
 show((E.L F T).getD (E.I F i*w+j).toNat _).toL=_
 grind
/-! targets -/
theorem Bj:(E.B F (.fn 101 (.pr T n))=true)=(yx (E.L F T) (E.I F n).toNat=true):=rfl
theorem EX(h:E.B F (.fn 101 (.pr T i))=true)(h0:0<=E.I F i)(hm:E.I F m=E.I F i+1){a b:E}(ea:a=bS T i 2 0)(eb:b=bS T i 2 1)
  (ha:0<=E.I F a/\E.I F a<=500/\0<=E.I F b/\E.I F b<=1/\(E.I F a=0\/E.I F b=0)):E.B F (.fn 101 (.pr T m))=true:=by
 grind[Bj,IF,bS,l5,VS]
theorem lT(h0:0<=E.I F i)(h1:E.I F i<E.I F N){a b:E}(ea:a=bS T i 2 0)(eb:b=bS T i 2 1)
  (ha:¬(0<=E.I F a/\E.I F a<=500/\0<=E.I F b/\E.I F b<=1/\(E.I F a=0\/E.I F b=0))):¬(E.B F (.fn 101 (.pr T N))=true):=by
 subst ea;subst eb;intro h
 rw[Bj,IF]at h
 apply ha;unfold bS
 rw[l5 (T:=T) i 2 0 h0,l5 (T:=T) i 2 1 h0]
 grind[VS]
theorem acx(h:E.B F (.fn 101 (.pr T i))=true)(h1:E.I F N<=E.I F i):E.B F (.fn 101 (.pr T N))=true:=by
 grind[Bj,IF]
/-! items -/
theorem dg:(E.B F (.fn 102 (.pr p (.pr i (.pr c (.pr k (.pr T q))))))=true)=(0<=E.I F p/\E.I F p<=1/\1<=E.I F i/\E.I F i<=500/\0<=E.I F c/\E.I F c<=399/\-1<=E.I F k/\E.I F k<=1/\E.I F (.fn 9 (.pr T (.int 2)))<=4/\
  (E.I F k<0\/E.I F (.fn 9 (.pr T (.int 2)))=0)/\(E.B F q=true->0<=E.I F k)/\E.B F (.fn 101 (.pr T (.fn 9 (.pr T (.int 2)))))=true):=by
 show(mg (E.I F p) (E.I F i) (E.I F c) (E.I F k) (E.L F T) (E.B F q)=true)=_
 rw[Bj]
 have e9:E.I F (.fn 9 (.pr T (.int 2)))=(E.L F T).length/2:=rfl;unfold mg;simp only[Bool.and_eq_true,gv];grind
theorem rD:(E.B F (.fn 103 (.pr L (.pr q n)))=true)=(tC (E.L F L) (E.B F q) (E.I F n).toNat=true):=rfl
theorem PP(i:E)(h0:0<=E.I F i):(E.B F (.fn 102 (.pr (bS L i 5 0) (.pr (bS L i 5 1) (.pr (bS L i 5 2) (.pr (bS L i 5 3) (.pr (bS L i 5 4) q))))))=true)=
  (mg (nI (E.L F L) ((E.I F i).toNat*5)) (nI (E.L F L) ((E.I F i).toNat*5+1)) (nI (E.L F L) ((E.I F i).toNat*5+2)) (nI (E.L F L) ((E.I F i).toNat*5+3)) ((E.L F L).getD ((E.I F i).toNat*5+4) (.int 0)).toL (E.B F q)=true):=by
 show(mg (E.I F _) (E.I F _) (E.I F _) (E.I F _) (E.L F _) (E.B F q)=true)=_
 grind[bS,l5,AM]
theorem CQ(h:E.B F (.fn 103 (.pr L (.pr q i)))=true)(h0:0<=E.I F i)(hm:E.I F m=E.I F i+1){a:E}(ea:a=.fn 102 (.pr (bS L i 5 0) (.pr (bS L i 5 1) (.pr (bS L i 5 2) (.pr (bS L i 5 3) (.pr (bS L i 5 4) q))))))
  (ha:E.B F a=true):E.B F (.fn 103 (.pr L (.pr q m)))=true:=by
 grind[PP,rD,xA]
theorem FI(h0:0<=E.I F i)(h1:E.I F i<E.I F N){a:E}(ea:a=.fn 102 (.pr (bS L i 5 0) (.pr (bS L i 5 1) (.pr (bS L i 5 2) (.pr (bS L i 5 3) (.pr (bS L i 5 4) q))))))
  (ha:¬(E.B F a=true)):¬(E.B F (.fn 103 (.pr L (.pr q N)))=true):=by
 grind[PP,rD,xA]
theorem EW(h:E.B F (.fn 103 (.pr L (.pr q i)))=true)(h1:E.I F N<=E.I F i):E.B F (.fn 103 (.pr L (.pr q N)))=true:=by
 grind[rD,xA]
/-! lists of numbers -/
theorem uc:(E.B F (.fn 114 (.pr l k))=true)=(E.I F k∈aG F l):=by
 show((bi _).contains _=true)=_
 rw[List.contains_iff_mem];rfl
theorem EV:E.I F (.fn 131 (.pr l (.pr k n)))=(((aG F l).take (E.I F n).toNat).count (E.I F k):Nat):=rfl
theorem rn(l:List Int)(n:Nat)(h:n<l.length):l.take (n+1)=l.take n++[l.getD n 0]:=by
 simp_all
theorem My(h0:0<=E.I F i)(h1:E.I F i<E.I F (.fn 0 l))(hm:E.I F m=E.I F i+1):
  E.I F (.fn 131 (.pr l (.pr k m)))=E.I F (.fn 131 (.pr l (.pr k i)))+(if E.I F k=E.I F (.fn 1 (.pr l i))then 1 else 0):=by
 rw[EV,EV,yw]
 rw[<- dO]at h1
 have e:(E.I F m).toNat=(E.I F i).toNat+1:=by omega
 grind[rn]
theorem aue(h:E.I F (.fn 0 l)<=E.I F n):(E.B F (.fn 114 (.pr l k))=true)↔¬(E.I F (.fn 131 (.pr l (.pr k n)))=0):=by
 grind[uc,EV,dO,List.take_of_length_le]
theorem ag2(h0:0<=E.I F i)(h1:E.I F i<E.I F (.fn 0 l))(he:E.I F k=E.I F (.fn 1 (.pr l i))):E.B F (.fn 114 (.pr l k))=true:=by
 simp_all[uc,yw,dO]
end
end Go.SX

set_option linter.unusedVariables false
set_option linter.unusedSimpArgs false
namespace Go.SX
/-! ### maps as lists of pairs -/
theorem vo(q:Int)(u:U)(m:List U):cz q (u::m)=if u.fst.toI=q then some u.snd else cz q m:=rfl
theorem PD(k:Int)(v u:U)(m:List U):cC k v (u::m)=if u.fst.toI=k then .lst [.int k,v]::m else u::cC k v m:=rfl
theorem acY(k:Int)(v:U):(U.lst [.int k,v]).fst.toI=k:=rfl
theorem Nw(k:Int)(v:U):(U.lst [.int k,v]).snd=v:=rfl
theorem Vb(k q:Int)(v:U):∀m:List U,cz q (cC k v m)=if q=k then some v else cz q m
 |[]=>by
  show cz q [U.lst _]=_;grind[vo,acY,Nw]
 |u::l=>by
  rw[PD]
  by_cases h:u.fst.toI=k
  ·rw[if_pos h,vo,acY,Nw,vo,h]
   grind
  ·rw[if_neg h,vo,Vb k q v l,vo]
   grind
theorem Ub(k:Int)(v:U):∀m:List U,k∉(iN m).map Prod.fst->iN (cC k v m)=iN m++[(k,v.toI)]
 |[],_=>rfl
 |u::l,h=>by
  have e:iN (u::l)=(u.fst.toI,u.snd.toI)::iN l:=rfl
  rw[e]at h ⊢
  simp only[List.map_cons,List.mem_cons,not_or]at h
  rw[PD,if_neg (fun e=>h.1 e.symm)]
  show(u.fst.toI,u.snd.toI)::iN _=_
  rw[Ub k v l h.2];rfl
theorem Fv(k:Int):∀m:List U,(cz k m).map U.toI=fw (iN m) k
 |[]=>rfl
 |u::l=>by
  have e:iN (u::l)=(u.fst.toI,u.snd.toI)::iN l:=rfl
  rw[vo,e]
  unfold fw;by_cases h:u.fst.toI=k
  ·simp[h]
  ·have:=Fv k l
   grind[fw]
theorem JO(k:Int)(m:List U):(cz k m).isSome=true↔k∈(iN m).map Prod.fst:=by
 grind[Fv,fw,Option.isSome_map]
theorem A3{l:List (Int×Int)}{k v:Int}(h:fw l k=some v):(k,v)∈l:=by
 unfold fw at h;cases hc:l.find? fun p=>p.1==k with
 |none=>simp_all
 |some p=>
  grind
theorem I1:∀ {l:List (Int×Int)} {k v:Int},(l.map Prod.fst).Nodup->(k,v)∈l->fw l k=some v
 |[],k,v,_,h=>by simp at h
 |p::l,k,v,hn,h=>by
  simp only[List.map_cons,List.nodup_cons]at hn;unfold fw;rcases List.mem_cons.1 h with e|e
  ·grind
  ·have:=I1 hn.2 e
   grind[fw]
theorem px:∀l:List Int,nu l=true↔l.Nodup
 |[]=>by simp[nu]
 |x::l=>by
  unfold nu
  rw[Bool.and_eq_true,px l,List.nodup_cons]
  simp
theorem wX(m:List U)(l:List (Int×Int)):gC m l=true↔iN m=l/\(l.map Prod.fst).Nodup:=by
 simp_all[gC,px]
theorem Jt{m:List U}{l:List (Int×Int)}{k:Int}{v:U}(h:gC m l=true)(hk:¬(cz k m).isSome=true):gC (cC k v m) (l++[(k,v.toI)])=true:=by
 grind[wX,JO,Ub]
/-! the places, one after the other -/
theorem Dl(X:U)(k:Nat):kx X (k+1)=kx X k++(ba X k).map fun i=>(i,((k/4:Nat):Int)):=by
 simp_all[kx,List.range_succ]
theorem aoC(X:U)(k:Nat):fh X k (ba X k).length=fh X (k+1) 0:=by
 simp_all[fh,Dl]
theorem ara(X:U)(k i:Nat)(h:i<(ba X k).length):fh X k (i+1)=fh X k i++[((ba X k).getD i 0,((k/4:Nat):Int))]:=by
 grind[fh,rn]
theorem abD(X:U)(k:Nat):∀d,∃r,kx X (k+d)=kx X k++r
 |0=>⟨[],by simp⟩
 |d+1=>by
  obtain⟨r,hr⟩:=abD X k d
  grind[Dl]
theorem Gs(X:U)(k i:Nat)(h:k<8):∃r,di X=fh X k i++r:=by
 obtain⟨r,hr⟩:=abD X _ _
 have e:k+1+(8-(k+1))=8:=by omega
 rw[e]at hr
 refine⟨((ba X k).drop i).map (fun x=>(x,(k/4:Int)))++(r++iu X (cN X)),?_⟩
 have h8:fh X 8 0=kx X 8:=by simp[fh]
 unfold di
 rw[h8,hr,Dl]
 grind[fh,List.take_append_drop]
theorem Ah(X:U)(s:Nat):gS X (s+1)=gS X s++if nI (cX X 29).toL (s*5+3)<0 then [s] else []:=by
 grind[gS,List.range_succ]
theorem UW(X:U)(s:Nat):∀d,∃r,gS X (s+d)=gS X s++r
 |0=>⟨[],by simp⟩
 |d+1=>by
  obtain⟨r,hr⟩:=UW X s d
  grind[Ah]
theorem aDl(X:U)(s:Nat)(h:s<=cN X):∃r,di X=(fh X 8 0++iu X s)++r:=by
 obtain⟨r,hr⟩:=UW X s (cN X-s)
 simp_all[di,iu]
theorem NK{X:U}{l:List (Int×Int)}{k v:Int}(h:∃r,di X=(l++[(k,v)])++r)(hk:k∈l.map Prod.fst):¬eh X=true:=by
 intro hp;unfold eh at hp;simp only[Bool.and_eq_true,px]at hp;grind
theorem uY(X:U)(n:Nat):uQ X n=true↔∀i,i<n->(mu X i=true/\(i=0\/oI X (i-1) 0<oI X i 0)/\fw (di X) (oI X i 0)=some (oI X i 2)/\(∀c,fw (gF X (cN X)) (oI X i 0)=some c->c=oI X i 1)):=by
 grind[uQ]
theorem sR(X:U)(i:Nat):mu X i=true↔1<=oI X i 0/\oI X i 0<=500/\-1<=oI X i 1/\oI X i 1<=399/\0<=oI X i 2/\oI X i 2<=1/\(oI X i 1=-1\/(oI X i 3=0/\oI X i 4=0))/\
  0<=oI X i 3/\oI X i 3<=99/\0<=oI X i 4/\oI X i 4<=99/\0<=oI X i 5/\oI X i 5<=99/\0<=oI X i 6/\oI X i 6<=99/\0<=oI X i 7/\oI X i 7<=99/\0<=oI X i 8/\oI X i 8<=99:=by
 unfold mu;simp only[List.all_cons,List.all_nil,Bool.and_eq_true,Bool.or_eq_true,gv,beq_iff_eq,and_assoc,and_true]
/-! distinct ids: as many places as objects -/
theorem adx:∀(l1 l2:List Int),l1.Nodup->(∀x∈l1,x∈l2)->l1.length<=l2.length
 |[],l2,_,_=>Nat.zero_le _
 |x::l1,l2,hn,hs=>by
  have h:=adx l1 (l2.erase x) (List.nodup_cons.1 hn).2 (by
   grind)
  grind
theorem Qf{l1 l2:List Int}(hn:l1.Nodup)(hs:∀x∈l1,x∈l2)(hl:l2.length<=l1.length):∀x∈l2,x∈l1:=by
 intro x hx;by_cases h:x∈l1
 ·exact h
 ·have:=adx _ l2 (List.nodup_cons.2 ⟨h,hn⟩) (by
   simp_all)
  grind
def lX(X:U):List Int:=(List.range (bQ X)).map fun i=>oI X i 0
theorem ajE{f:Nat->Int}{n:Nat}(h:∀i,i<n->(i=0\/f (i-1)<f i)):∀i j,i<j->j<n->f i<f j:=by
 intro i j hij hj;induction j with
 |zero=>omega
 |succ j ih=>
  grind
theorem I3{X:U}(h:∀i,i<bQ X->(i=0\/oI X (i-1) 0<oI X i 0)):(lX X).Nodup:=by
 unfold lX
 rw[List.nodup_iff_pairwise_ne,List.pairwise_map]
 refine List.Pairwise.imp_of_mem ?_ (List.pairwise_lt_range (n:=bQ X));intro a b ha hb hab e
 have:=ajE (f:=fun i=>oI X i 0) h a b hab (List.mem_range.1 hb)
 omega
theorem UL{X:U}(h:eh X=true):∀k∈(di X).map Prod.fst,1<=k/\k<=500:=by
 unfold eh at h;simp only[Bool.and_eq_true,beq_iff_eq]at h
 obtain⟨⟨hn,ho⟩,hl⟩:=h
 rw[uY]at ho
 have hs:=Qf (l1:=lX X) (l2:=(di X).map _) (I3 fun i hi=>(ho i hi).2.1) (by
  intro x hx
  obtain⟨i,hi,rfl⟩:=List.mem_map.1 hx
  exact List.mem_map_of_mem (f:=Prod.fst) (A3 (ho i (List.mem_range.1 hi)).2.2.1)) (by simp[lX,hl])
 intro k hk
 obtain⟨i,hi,rfl⟩:=List.mem_map.1 (hs k hk)
 simp_all[sR]
theorem Wa(X:U)(k:Nat)(h:k<8):∀x∈ba X k,x∈(di X).map Prod.fst:=by
 obtain⟨r,hr⟩:=Gs X k (ba X k).length h
 simp_all[fh]
end Go.SX

set_option linter.unusedVariables false
set_option linter.unusedSimpArgs false
namespace Go.SX
/-! ### attackers and blocks -/
theorem Lv(X:U)(j c:Nat):dv X (j+1) c=dv X j c++[blk X j c]:=by
 simp_all[dv,List.range_succ]
theorem ano{X:U}{j n c:Nat}(h:j<=n){k:Int}(hk:k∈dv X j c):k∈dv X n c:=by
 grind[dv]
theorem lk(X:U)(n j:Nat)(k:Int)(h:0<k):oo X n j k=(((bj X).take n).contains k && !(dv X j 1).contains k):=by
 simp_all[oo]
theorem o4(X:U)(n j:Nat)(k:Int)(h:¬0<k):oo X n j k=(dv X j 0).contains (-k):=by
 grind[oo]
theorem Is(m:List U)(k q:Int)(b:Bool):gM (cC k (.bool b) m) q=if q=k then b else gM m q:=by
 unfold gM;rw[Vb];by_cases h:q=k<;>simp[h]
 rfl
theorem pC{X:U}{m:List U}{n j:Nat}(h:iK X m n j=true)(hj:j<=fD X)(k:Int):gM m k=oo X n j k:=by
 unfold iK at h
 rw[List.all_eq_true]at h
 by_cases hk:k∈(m.map fun u=>u.fst.toI)++bj X++(dv X (fD X) 0).map fun k=>-k
 ·simp_all
 ·have h1:gM m k=false:=by
   unfold gM;cases hc:cz k m with
   |none=>rfl
   |some v=>
    grind[JO,iN]
  by_cases hp:0<k
  ·grind[lk]
  ·rw[o4 _ _ _ _ hp]
   grind[ano]
theorem II{X:U}{m:List U}{n j:Nat}(h:∀k,gM m k=oo X n j k):iK X m n j=true:=by
 simp_all[iK]
theorem qV(X:U)(n:Nat):jT X n=true↔((bj X).take n).Nodup/\∀a∈(bj X).take n,a∈fX X:=by
 simp_all[jT,px]
theorem vF(X:U)(n:Nat):ku X n=true↔(dv X n 1).Nodup/\(dv X n 0).Nodup/\∀i,i<n->(blk X i 1∈bj X/\blk X i 0∈fy X):=by
 simp_all[ku,px,and_assoc]
theorem IX{X:U}(h:eh X=true)(ha:d4 X<=1){a:Int}(hm:a∈fX X):1<=a/\a<=500:=
 UL h a (Wa X _ (by omega) a hm)
theorem ab5{X:U}(h:eh X=true){a:Int}(hm:a∈fy X):1<=a/\a<=500:=
 UL h a (Wa X _ (by omega) a hm)
theorem wJ(X:U):iq X=true↔jT X (bj X).length=true/\ku X (fD X)=true:=by
 simp_all[iq]
theorem awq{X:U}{i:Nat}{a:Int}(h:oo X i 0 a=true):a∈(bj X).take i:=by
 by_cases hp:0<a
 all_goals simp_all[lk,o4,dv]
theorem azK{X:U}{m:List U}{i:Nat}(h:jT X i=true)(hp:eh X=true)(ha:d4 X<=1)(hs:iK X m i 0=true)(hi:i<(bj X).length)
  (hv:¬gM m ((bj X).getD i 0)=true)(ho:(bj X).getD i 0∈fX X):jT X (i+1)=true:=by
 rw[qV]at *
 have hpos:=IX hp ha ho
 rw[pC hs (Nat.zero_le _),lk _ _ _ _ (by omega)]at hv
 have hb:(dv X 0 1).contains ((bj X).getD i 0)=false:=by rfl
 grind[rn]
theorem aiK{X:U}{m:List U}{i:Nat}(hp:eh X=true)(ha:d4 X<=1)(hs:iK X m i 0=true)(hi:i<(bj X).length)(ho:(bj X).getD i 0∈fX X):iK X (cC ((bj X).getD i 0) (.bool true) m) (i+1) 0=true:=by
 apply II;intro k;have hpos:=IX hp ha ho
 rw[Is,pC hs (Nat.zero_le _)]
 by_cases hk:0<k
 ·rw[lk _ _ _ _ hk,lk _ _ _ _ hk,rn _ _ hi]
  by_cases e:k=(bj X).getD i 0
  ·grind[dv]
  grind
 ·rw[o4 _ _ _ _ hk,o4 _ _ _ _ hk,if_neg (by omega)]
theorem aA9{X:U}{m:List U}{i:Nat}(hs:iK X m i 0=true)(hi:i<(bj X).length)(hv:gM m ((bj X).getD i 0)=true):¬iq X=true:=by
 intro hf
 rw[wJ,qV,List.take_length]at hf
 rw[pC hs (Nat.zero_le _)]at hv
 have hm:=awq hv;have ht:=rn _ i hi;grind[List.take_sublist]
theorem amd{X:U}{i:Nat}(hi:i<(bj X).length)(ho:¬(bj X).getD i 0∈fX X):¬iq X=true:=by
 grind[wJ,qV]
theorem zZ{X:U}{j:Nat}(hj:j<fD X)(h:ku X (j+1)=true->False):¬iq X=true:=by
 intro hf
 rw[wJ,vF]at hf
 apply h
 rw[vF]
 have sub:∀c,(dv X (j+1) c).Sublist (dv X (fD X) c):=by
  grind[dv]
 grind
/-- a block that is right, when the ones ahead of it are -/
theorem zh{X:U}{j:Nat}:ku X (j+1)=true↔ku X j=true/\blk X j 1∉dv X j 1/\blk X j 0∉dv X j 0/\blk X j 1∈bj X/\blk X j 0∈fy X:=by
  grind[vF,Lv]
theorem TU{X:U}(hp:eh X=true)(ha:d4 X<=1)(h:jT X (bj X).length=true){a:Int}(hm:a∈bj X):1<=a/\a<=500:=by
 rw[qV,List.take_length]at h
 exact IX hp ha (h.2 a hm)
section
variable {X:U} {m:List U} {j:Nat} {nk:Int}
theorem aD0(hp:eh X=true)(ha:d4 X<=1)(h:jT X (bj X).length=true)(hs:iK X m (bj X).length j=true)(hj:j<fD X)(hv:¬gM m (blk X j 1)=true):¬iq X=true:=by
 apply zZ hj;intro hb
 rw[zh]at hb
 have hpos:=TU hp ha h hb.2.2.2.1
 rw[pC hs (by omega),lk _ _ _ _ (by omega),List.take_length,Bool.and_eq_true,List.contains_iff_mem]at hv
 simp_all
theorem aEw(hp:eh X=true)(hs:iK X m (bj X).length j=true)(hj:j<fD X)(hk:1<=blk X j 0->blk X j 0<=500->nk=-(blk X j 0))(hv:gM m nk=true):¬iq X=true:=by
 apply zZ hj;intro hb
 rw[zh]at hb
 have hpos:=ab5 hp hb.2.2.2.2;have e:=hk hpos.1 hpos.2
 rw[pC hs (by omega),o4 _ _ _ _ (by omega),List.contains_iff_mem,e,Int.neg_neg]at hv
 simp_all
theorem az3(hj:j<fD X)(hv:¬blk X j 1∈bj X):¬iq X=true:=by
 grind[zZ,zh]
theorem amO(hj:j<fD X)(hv:¬blk X j 0∈fy X):¬iq X=true:=by
 grind[zZ,zh]
theorem aiX(hp:eh X=true)(ha:d4 X<=1)(h:jT X (bj X).length=true)(hb:ku X j=true)(hs:iK X m (bj X).length j=true)(hj:j<fD X)(hv:gM m (blk X j 1)=true)
  (hk:1<=blk X j 0->blk X j 0<=500->nk=-(blk X j 0))(hn:¬gM m nk=true)(h1:blk X j 1∈bj X)(h2:blk X j 0∈fy X):ku X (j+1)=true/\iK X (cC nk (.bool true) (cC (blk X j 1) (.bool false) m)) (bj X).length (j+1)=true:=by
 have hpos:=TU hp ha h h1;have hpos2:=ab5 hp h2;have e:=hk hpos2.1 hpos2.2;have hv':=hv
 rw[pC hs (by omega),lk _ _ _ _ (by omega),Bool.and_eq_true]at hv'
 have hn':=hn
 rw[pC hs (by omega),o4 _ _ _ _ (by omega),e,Int.neg_neg,List.contains_iff_mem]at hn'
 have hv2:blk X j 1∉dv X j 1:=by
  simp_all
 refine⟨zh.2 ⟨hb,hv2,hn',h1,h2⟩,?_⟩
 apply II;intro k
 rw[Is,Is,pC hs (by omega)]
 by_cases hk:0<k
 ·rw[lk _ _ _ _ hk,lk _ _ _ _ hk,if_neg (by omega),Lv]
  grind
 grind[o4,Lv]
end
end Go.SX

set_option linter.unusedVariables false
set_option linter.unusedSimpArgs false
namespace Go.SX
/-! ### what expressions say of a board -/
section
variable {F:Env} {x y l A a b k u i j p q n m r o c d w v X T N L L2 mc s:E}
theorem aA:-9223372036854775808<=E.I F a+E.I F b->E.I F a+E.I F b<9223372036854775808->E.I F (.ar .add .i64 a b)=E.I F a+E.I F b:=by
 have e:E.I F (.ar .add _ a b)=IntKind.i64.wrap (E.I F a+E.I F b):=rfl
 obtain⟨s,e2,q,r⟩:=ah (E.I F a+E.I F b)
 omega
theorem bz:-9223372036854775808<=E.I F a-E.I F b->E.I F a-E.I F b<9223372036854775808->E.I F (.ar .sub .i64 a b)=E.I F a-E.I F b:=by
 have e:E.I F (.ar .sub _ a b)=IntKind.i64.wrap (E.I F a-E.I F b):=rfl
 obtain⟨s,e2,q,r⟩:=ah (E.I F a-E.I F b)
 omega
theorem tJ:(E.B F (.fn 108 X)=true)=(eh (X.den F)=true):=rfl
theorem vM:(E.B F (.fn 109 (.pr L (.pr X (.pr p q))))=true)=(aG F L=ba (X.den F) ((E.I F p).toNat*4+(E.I F q).toNat)):=by
 show((bi _==ba _ _)=true)=_
 rw[beq_iff_eq];rfl
theorem Gb:(E.B F (.fn 110 X)=true)=(iq (X.den F)=true):=rfl
theorem Bi:(E.B F (.fn 111 (.pr X n))=true)=(jT (X.den F) (E.I F n).toNat=true):=rfl
theorem aej:(E.B F (.fn 112 (.pr X n))=true)=(ku (X.den F) (E.I F n).toNat=true):=rfl
theorem yM:(E.B F (.fn 113 (.pr m (.pr X (.pr n j))))=true)=(iK (X.den F) (E.L F m) (E.I F n).toNat (E.I F j).toNat=true):=rfl
theorem MX:E.B F (.fn 32 (.pr m (.pr k (.bool false))))=gM (E.L F m) (E.I F k):=rfl
theorem t8:E.L F (.fn 34 (.pr m (.pr k v)))=cC (E.I F k) (v.den F) (E.L F m):=rfl
theorem axe(P Q j:Nat)(hQ:Q<4)(hj:j=6+14*P+Q):ba (X.den F) (P*4+Q)=aG F (.fn 1 (.pr X (.int (Int.ofNat j)))):=by
 show bi _=bi (cX (X.den F) j);grind
theorem gG(P Q j:Nat)(hQ:Q<4)(hj:j=6+14*P+Q)(hp:E.I F p=(P:Int))(hq:E.I F q=(Q:Int)):E.B F (.fn 109 (.pr (.fn 1 (.pr X (.int (Int.ofNat j)))) (.pr X (.pr p q))))=true:=by
 simp_all[vM,axe]
theorem agU(Y:U)(z:Nat):(ba Y z).length=(cX Y (6+14*(z/4)+z%4)).toL.length:=by
 grind[ba,bi]
theorem aw(h:E.B F (.fn 117 X)=true):(E.I F (.fn 0 (.fn 1 (.pr X (.int 6))))<=40/\E.I F (.fn 0 (.fn 1 (.pr X (.int 7))))<=40/\E.I F (.fn 0 (.fn 1 (.pr X (.int 8))))<=40/\E.I F (.fn 0 (.fn 1 (.pr X (.int 9))))<=40)/\
  (E.I F (.fn 0 (.fn 1 (.pr X (.int 20))))<=40/\E.I F (.fn 0 (.fn 1 (.pr X (.int 21))))<=40/\E.I F (.fn 0 (.fn 1 (.pr X (.int 22))))<=40/\E.I F (.fn 0 (.fn 1 (.pr X (.int 23))))<=40)/\
  (E.I F (.fn 9 (.pr (.fn 1 (.pr X (.int 29))) (.int 5)))<=20/\E.I F (.fn 9 (.pr (.fn 1 (.pr X (.int 30))) (.int 5)))<=20/\E.I F (.fn 9 (.pr (.fn 1 (.pr X (.int 0))) (.int 12)))<=30/\E.I F (.fn 0 (.fn 1 (.pr X (.int 31))))<=30/\E.I F (.fn 9 (.pr (.fn 1 (.pr X (.int 32))) (.int 2)))<=30)/\
  (0<=E.I F (.fn 9 (.pr (.fn 1 (.pr X (.int 29))) (.int 5)))/\0<=E.I F (.fn 9 (.pr (.fn 1 (.pr X (.int 30))) (.int 5)))/\0<=E.I F (.fn 9 (.pr (.fn 1 (.pr X (.int 0))) (.int 12)))/\0<=E.I F (.fn 0 (.fn 1 (.pr X (.int 31))))/\0<=E.I F (.fn 9 (.pr (.fn 1 (.pr X (.int 32))) (.int 2)))):=by
 have h':nR _=true:=h;unfold nR at h';simp only[Bool.and_eq_true,aaZ,decide_eq_true_eq]at h'
 obtain⟨⟨⟨⟨⟨⟨⟨h1,h2⟩,h3⟩,_⟩,_⟩,h4⟩,h5⟩,h6⟩:=h'
 have z (n:Nat) (hn:n<8):=h1 n hn;simp only[agU]at z;have z0:=z 0 (by omega);have z1:=z 1 (by omega);have z2:=z 2 (by omega);have z3:=z 3 (by omega);have z4:=z 4 (by omega);have z5:=z 5 (by omega);have z6:=z 6 (by omega);have z7:=z 7 (by omega);have a31:(bj (X.den F)).length=(cX (X.den F) 31).toL.length:=by grind[bj,bi]
 rw[a31]at h5
 refine⟨⟨?_,?_,?_,?_⟩,⟨?_,?_,?_,?_⟩,⟨?_,?_,?_,?_,?_⟩,?_,?_,?_,?_,?_⟩
 ·exact Int.ofNat_le.2 z0
 ·exact Int.ofNat_le.2 z1
 ·exact Int.ofNat_le.2 z2
 ·exact Int.ofNat_le.2 z3
 ·exact Int.ofNat_le.2 z4
 ·exact Int.ofNat_le.2 z5
 ·exact Int.ofNat_le.2 z6
 ·exact Int.ofNat_le.2 z7
 ·exact Int.ofNat_le.2 h2
 ·exact Int.ofNat_le.2 h3
 ·exact Int.ofNat_le.2 h4
 ·exact Int.ofNat_le.2 h5
 ·exact Int.ofNat_le.2 h6
 ·exact Int.natCast_nonneg _
 ·exact Int.natCast_nonneg _
 ·exact Int.natCast_nonneg _
 ·exact Int.natCast_nonneg _
 ·exact Int.natCast_nonneg _
/-! fights -/
theorem ah7(h:E.I F n<=0)(h':E.I F j<=0):E.B F (.fn 113 (.pr (.fn 10 a) (.pr X (.pr n j))))=true:=by
 have e:(E.I F n).toNat=0:=by omega
 have e':(E.I F j).toNat=0:=by omega
 rw[yM,e,e']
 apply II;intro k;show false=_;grind[lk,o4,dv]
theorem anL(h:E.B F (.fn 111 (.pr X i))=true)(e:E.I F n=E.I F i):E.B F (.fn 111 (.pr X n))=true:=by
 simp_all[Bi]
theorem aC4(h:E.B F (.fn 113 (.pr m (.pr X (.pr i j))))=true)(e:E.I F n=E.I F i)(e':E.I F k=E.I F j):E.B F (.fn 113 (.pr m (.pr X (.pr n k))))=true:=by
 simp_all[yM]
theorem aor(h0:0<=E.I F i):(bj (X.den F)).getD (E.I F i).toNat 0=E.I F (.fn 1 (.pr (.fn 1 (.pr X (.int 31))) i)):=by
 rw[yw];rfl
theorem tc:((bj (X.den F)).length:Int)=E.I F (.fn 0 (.fn 1 (.pr X (.int 31)))):=by
 show(((cX _ 31).toL.map _).length:Int)=_
 rw[List.length_map];rfl
theorem sk:((fD (X.den F):Nat):Int)=E.I F (.fn 9 (.pr (.fn 1 (.pr X (.int 32))) (.int 2))):=rfl
theorem pE(h0:0<=E.I F i)(c:Nat):blk (X.den F) (E.I F i).toNat c=E.I F (.fn 1 (.pr (.fn 1 (.pr X (.int 32))) (.fn 6 (.pr (.fn 8 (.pr i (.int 2))) (.int (Int.ofNat c)))))):=by
 exact(l5 (T:=.fn 1 (.pr X (.int 32))) i 2 c h0).symm
theorem auA(h:E.B F (.fn 109 (.pr L (.pr X (.pr (.fn 1 (.pr X (.int 34))) (.int 2)))))=true):aG F L=fX (X.den F):=by
 rw[vM]at h
 rw[h];unfold fX d4
 have e:(E.I F (.fn 1 (.pr X (.int 34)))).toNat*4+(E.I F (.int 2)).toNat=4*(iX (X.den F) 34).toNat+2:=by
  have:E.I F (.fn 1 (.pr X (.int 34)))=iX (X.den F) 34:=rfl
  have:(E.I F (.int 2)).toNat=2:=rfl
  omega
 rw[e]
theorem af6(h:E.B F (.fn 109 (.pr L (.pr X (.pr (.fn 7 (.pr (.int 1) (.fn 1 (.pr X (.int 34))))) (.int 2)))))=true)(h0:0<=E.I F (.fn 1 (.pr X (.int 34)))):aG F L=fy (X.den F):=by
 rw[vM]at h
 rw[h];unfold fy d4
 have e:(E.I F (.fn 7 (.pr (.int 1) (.fn 1 (.pr X (.int 34)))))).toNat*4+(E.I F (.int 2)).toNat=4*(1-(iX (X.den F) 34).toNat)+2:=by
  have e1:E.I F (.fn 7 (.pr (.int 1) (.fn 1 (.pr X (.int 34)))))=1-iX (X.den F) 34:=rfl;have e2:E.I F (.fn 1 (.pr X (.int 34)))=iX (X.den F) 34:=rfl
  have:(E.I F (.int 2)).toNat=2:=rfl
  omega
 rw[e]
/-- an attacker -/
theorem BQ(hp:E.B F (.fn 108 X)=true)(ha:0<=E.I F (.fn 1 (.pr X (.int 34))))(ha':E.I F (.fn 1 (.pr X (.int 34)))<=1)(hs:E.B F (.fn 113 (.pr m (.pr X (.pr i (.int 0)))))=true)(h:E.B F (.fn 111 (.pr X i))=true)
    (h0:0<=E.I F i)(hi:E.I F i<E.I F (.fn 0 (.fn 1 (.pr X (.int 31)))))(hL:E.B F (.fn 109 (.pr L (.pr X (.pr (.fn 1 (.pr X (.int 34))) (.int 2)))))=true)(hm:E.I F n=E.I F i+1):
    (E.B F (.fn 32 (.pr m (.pr (.fn 1 (.pr (.fn 1 (.pr X (.int 31))) i)) (.bool false))))=true->¬E.B F (.fn 110 X)=true)/\
    (¬E.B F (.fn 114 (.pr L (.fn 1 (.pr (.fn 1 (.pr X (.int 31))) i))))=true->¬E.B F (.fn 110 X)=true)/\
    (¬E.B F (.fn 32 (.pr m (.pr (.fn 1 (.pr (.fn 1 (.pr X (.int 31))) i)) (.bool false))))=true->E.B F (.fn 114 (.pr L (.fn 1 (.pr (.fn 1 (.pr X (.int 31))) i))))=true->E.B F (.fn 111 (.pr X n))=true/\
      E.B F (.fn 113 (.pr (.fn 34 (.pr m (.pr (.fn 1 (.pr (.fn 1 (.pr X (.int 31))) i)) (.bool true)))) (.pr X (.pr n (.int 0)))))=true):=by
  have hl:=auA hL
  rw[tJ]at hp
  rw[<- tc]at hi
  have hi':(E.I F i).toNat<(bj (X.den F)).length:=by omega
  have e1:(E.I F n).toNat=(E.I F i).toNat+1:=by omega
  have ha2:d4 (X.den F)<=1:=by
    have:E.I F (.fn 1 (.pr X (.int 34)))=iX (X.den F) 34:=rfl
    simp_all[d4]
  have z0:(E.I F (.int 0)).toNat=0:=rfl
  rw[MX,uc,Gb,Bi,yM,t8,hl,e1,z0,<- aor (X:=X) h0]
  exact⟨fun hv=>aA9 hs hi' hv,fun ho=>amd hi' ho,fun hv ho=>⟨azK h hp ha2 hs hi' hv ho,aiK hp ha2 hs hi' ho⟩⟩
/-- a block -/
theorem uk{nk:E}(hp:E.B F (.fn 108 X)=true)(ha:0<=E.I F (.fn 1 (.pr X (.int 34))))(ha':E.I F (.fn 1 (.pr X (.int 34)))<=1)(hs:E.B F (.fn 113 (.pr m (.pr X (.pr (.fn 0 (.fn 1 (.pr X (.int 31)))) j))))=true)(h:E.B F (.fn 111 (.pr X (.fn 0 (.fn 1 (.pr X (.int 31))))))=true)
    (hb:E.B F (.fn 112 (.pr X j))=true)(h0:0<=E.I F j)(hj:E.I F j<E.I F (.fn 9 (.pr (.fn 1 (.pr X (.int 32))) (.int 2))))(hL:E.B F (.fn 109 (.pr L (.pr X (.pr (.fn 7 (.pr (.int 1) (.fn 1 (.pr X (.int 34))))) (.int 2)))))=true)(hm:E.I F n=E.I F j+1)
    {t b:E}(et:t= .fn 1 (.pr (.fn 1 (.pr X (.int 32))) (.fn 6 (.pr (.fn 8 (.pr j (.int 2))) (.int 1)))))(eb:b= .fn 1 (.pr (.fn 1 (.pr X (.int 32))) (.fn 6 (.pr (.fn 8 (.pr j (.int 2))) (.int 0)))))
    (hk:1<=E.I F b->E.I F b<=500->E.I F nk= -(E.I F b)):
    (¬E.B F (.fn 32 (.pr m (.pr t (.bool false))))=true->¬E.B F (.fn 110 X)=true)/\
    (E.B F (.fn 32 (.pr m (.pr nk (.bool false))))=true->¬E.B F (.fn 110 X)=true)/\
    (¬E.B F (.fn 114 (.pr (.fn 1 (.pr X (.int 31))) t))=true->¬E.B F (.fn 110 X)=true)/\
    (¬E.B F (.fn 114 (.pr L b))=true->¬E.B F (.fn 110 X)=true)/\
    (E.B F (.fn 32 (.pr m (.pr t (.bool false))))=true->¬E.B F (.fn 32 (.pr m (.pr nk (.bool false))))=true->E.B F (.fn 114 (.pr (.fn 1 (.pr X (.int 31))) t))=true->E.B F (.fn 114 (.pr L b))=true->
      E.B F (.fn 112 (.pr X n))=true/\E.B F (.fn 113 (.pr (.fn 34 (.pr (.fn 34 (.pr m (.pr t (.bool false)))) (.pr nk (.bool true)))) (.pr X (.pr (.fn 0 (.fn 1 (.pr X (.int 31)))) n))))=true):=by
  subst et;subst eb;have hl:=af6 hL ha
  rw[tJ]at hp
  rw[yM]at hs
  rw[Bi]at h
  rw[<- sk]at hj
  have hj':(E.I F j).toNat<fD (X.den F):=by omega
  have e1:(E.I F n).toNat=(E.I F j).toNat+1:=by omega
  have ha2:d4 (X.den F)<=1:=by
    have:E.I F (.fn 1 (.pr X (.int 34)))=iX (X.den F) 34:=rfl
    simp_all[d4]
  have el:(E.I F (.fn 0 (.fn 1 (.pr X (.int 31))))).toNat=(bj (X.den F)).length:=by grind[tc]
  have ea:aG F (.fn 1 (.pr X (.int 31)))=bj _:=rfl
  rw[el]at hs h
  have b0:=pE (X:=X) h0 0;have b1:=pE (X:=X) h0 1;have c0:(Int.ofNat 0)=0:=rfl;have c1:(Int.ofNat 1)=1:=rfl
  rw[c0]at b0
  rw[c1]at b1
  rw[<- b0]at hk
  rw[MX,MX,uc,uc,Gb,aej,yM,t8,t8,hl,e1,el,ea,<- b0,<- b1]
  exact⟨fun hv=>aD0 hp ha2 h hs hj' hv,fun hv=>aEw hp hs hj' hk hv,fun hv=>az3 hj' hv,fun hv=>amO hj' hv,fun hv hn h1 h2=>aiX hp ha2 h hb hs hj' hv hk hn h1 h2⟩
theorem tx{b:E}(h:1<=E.I F b)(h':E.I F b<=500):E.I F (.ar .sub .i64 (.int 0) b)=-(E.I F b):=by
 have e:E.I F (.ar .sub _ (.int 0) b)=IntKind.i64.wrap (0-E.I F b):=rfl
 obtain⟨s,e,q,r⟩:=ah (0-E.I F b)
 omega
theorem atO(h:E.B F (.fn 111 (.pr X (.fn 0 (.fn 1 (.pr X (.int 31))))))=true)(hb:E.B F (.fn 112 (.pr X j))=true)(h1:E.I F (.fn 9 (.pr (.fn 1 (.pr X (.int 32))) (.int 2)))=E.I F j):E.B F (.fn 110 X)=true:=by
 have el:(E.I F (.fn 0 (.fn 1 (.pr X (.int 31))))).toNat=(bj (X.den F)).length:=by grind[tc]
 grind[Bi,aej,sk,Gb,wJ]
/-! valid boards -/
theorem b8:(E.B F (.fn 115 X)=true)=(0<=E.I F (.fn 1 (.pr X (.int 34)))/\E.I F (.fn 1 (.pr X (.int 34)))<=1/\0<=E.I F (.fn 1 (.pr X (.int 33)))/\E.I F (.fn 1 (.pr X (.int 33)))<=1000/\0<=E.I F (.fn 1 (.pr X (.int 35)))/\E.I F (.fn 1 (.pr X (.int 35)))<=10/\-1<=E.I F (.fn 1 (.pr X (.int 36)))/\E.I F (.fn 1 (.pr X (.int 36)))<=1/\0<=E.I F (.fn 1 (.pr X (.int 37)))/\E.I F (.fn 1 (.pr X (.int 37)))<=2/\E.I F (.fn 9 (.pr (.fn 1 (.pr X (.int 0))) (.int 12)))<=500/\E.I F (.fn 9 (.pr (.fn 1 (.pr X (.int 29))) (.int 5)))<=200/\E.I F (.fn 9 (.pr (.fn 1 (.pr X (.int 30))) (.int 5)))<=200/\0<=E.I F (.fn 1 (.pr X (.int 1)))/\E.I F (.fn 1 (.pr X (.int 1)))<=9999/\0<=E.I F (.fn 1 (.pr X (.int 2)))/\E.I F (.fn 1 (.pr X (.int 2)))<=99/\0<=E.I F (.fn 1 (.pr X (.int 3)))/\E.I F (.fn 1 (.pr X (.int 3)))<=99/\0<=E.I F (.fn 1 (.pr X (.int 4)))/\E.I F (.fn 1 (.pr X (.int 4)))<=99/\0<=E.I F (.fn 1 (.pr X (.int 5)))/\E.I F (.fn 1 (.pr X (.int 5)))<=99/\0<=E.I F (.fn 1 (.pr X (.int 13)))/\E.I F (.fn 1 (.pr X (.int 13)))<=7/\0<=E.I F (.fn 1 (.pr X (.int 14)))/\E.I F (.fn 1 (.pr X (.int 14)))<=255/\0<=E.I F (.fn 1 (.pr X (.int 15)))/\E.I F (.fn 1 (.pr X (.int 15)))<=9999/\0<=E.I F (.fn 1 (.pr X (.int 16)))/\E.I F (.fn 1 (.pr X (.int 16)))<=99/\0<=E.I F (.fn 1 (.pr X (.int 17)))/\E.I F (.fn 1 (.pr X (.int 17)))<=99/\0<=E.I F (.fn 1 (.pr X (.int 18)))/\E.I F (.fn 1 (.pr X (.int 18)))<=99/\0<=E.I F (.fn 1 (.pr X (.int 19)))/\E.I F (.fn 1 (.pr X (.int 19)))<=99/\0<=E.I F (.fn 1 (.pr X (.int 27)))/\E.I F (.fn 1 (.pr X (.int 27)))<=7/\0<=E.I F (.fn 1 (.pr X (.int 28)))/\E.I F (.fn 1 (.pr X (.int 28)))<=255/\E.B F (.fn 103 (.pr (.fn 1 (.pr X (.int 29))) (.pr (.bool false) (.fn 9 (.pr (.fn 1 (.pr X (.int 29))) (.int 5))))))=true/\E.B F (.fn 103 (.pr (.fn 1 (.pr X (.int 30))) (.pr (.bool true) (.fn 9 (.pr (.fn 1 (.pr X (.int 30))) (.int 5))))))=true/\E.B F (.fn 108 X)=true/\E.B F (.fn 110 X)=true):=by
 show(sM _=true)=_
 have e34:E.I F (.fn 1 (.pr X (.int 34)))=iX (X.den F) 34:=rfl;have e33:E.I F (.fn 1 (.pr X (.int 33)))=iX (X.den F) 33:=rfl;have e35:E.I F (.fn 1 (.pr X (.int 35)))=iX (X.den F) 35:=rfl;have e36:E.I F (.fn 1 (.pr X (.int 36)))=iX (X.den F) 36:=rfl;have e37:E.I F (.fn 1 (.pr X (.int 37)))=iX (X.den F) 37:=rfl;have e1:E.I F (.fn 1 (.pr X (.int 1)))=iX (X.den F) 1:=rfl;have e2:E.I F (.fn 1 (.pr X (.int 2)))=iX (X.den F) 2:=rfl;have e3:E.I F (.fn 1 (.pr X (.int 3)))=iX (X.den F) 3:=rfl;have e4:E.I F (.fn 1 (.pr X (.int 4)))=iX (X.den F) 4:=rfl;have e5:E.I F (.fn 1 (.pr X (.int 5)))=iX (X.den F) 5:=rfl;have e13:E.I F (.fn 1 (.pr X (.int 13)))=iX (X.den F) 13:=rfl;have e14:E.I F (.fn 1 (.pr X (.int 14)))=iX (X.den F) 14:=rfl;have e15:E.I F (.fn 1 (.pr X (.int 15)))=iX (X.den F) 15:=rfl;have e16:E.I F (.fn 1 (.pr X (.int 16)))=iX (X.den F) 16:=rfl;have e17:E.I F (.fn 1 (.pr X (.int 17)))=iX (X.den F) 17:=rfl;have e18:E.I F (.fn 1 (.pr X (.int 18)))=iX (X.den F) 18:=rfl;have e19:E.I F (.fn 1 (.pr X (.int 19)))=iX (X.den F) 19:=rfl;have e27:E.I F (.fn 1 (.pr X (.int 27)))=iX (X.den F) 27:=rfl;have e28:E.I F (.fn 1 (.pr X (.int 28)))=iX (X.den F) 28:=rfl;have q0:E.I F (.fn 9 (.pr (.fn 1 (.pr X (.int 0))) (.int 12)))=bQ (X.den F):=rfl;have q29:E.I F (.fn 9 (.pr (.fn 1 (.pr X (.int 29))) (.int 5)))=cN (X.den F):=rfl;have q30:E.I F (.fn 9 (.pr (.fn 1 (.pr X (.int 30))) (.int 5)))=((cX (X.den F) 30).toL.length/5:Nat):=rfl;have l29:E.L F (.fn 1 (.pr X (.int 29)))=(cX (X.den F) 29).toL:=rfl;have l30:E.L F (.fn 1 (.pr X (.int 30)))=(cX (X.den F) 30).toL:=rfl;have bt:E.B F (.bool _)=true:=rfl;have bf:E.B F (.bool _)=false:=rfl;have za:(E.B F (.fn 108 X)=true)=(eh _=true):=rfl;have zb:(E.B F (.fn 110 X)=true)=(iq _=true):=rfl
 rw[za,zb,rD,rD,l29,l30,bt,bf,q29,q30,q0,e34,e33,e35,e36,e37,e1,e2,e3,e4,e5,e13,e14,e15,e16,e17,e18,e19,e27,e28,Int.toNat_natCast,Int.toNat_natCast]
 unfold sM oJ gL o8;simp only[Bool.and_eq_true,gv,List.all_cons];grind
theorem cg:(E.B F (.fn 130 X)=true)=(0<=E.I F (.fn 1 (.pr X (.int 34)))/\E.I F (.fn 1 (.pr X (.int 34)))<=1/\0<=E.I F (.fn 1 (.pr X (.int 33)))/\E.I F (.fn 1 (.pr X (.int 33)))<=1000/\0<=E.I F (.fn 1 (.pr X (.int 35)))/\E.I F (.fn 1 (.pr X (.int 35)))<=10/\-1<=E.I F (.fn 1 (.pr X (.int 36)))/\E.I F (.fn 1 (.pr X (.int 36)))<=1/\0<=E.I F (.fn 1 (.pr X (.int 37)))/\E.I F (.fn 1 (.pr X (.int 37)))<=2/\E.I F (.fn 9 (.pr (.fn 1 (.pr X (.int 0))) (.int 12)))<=500/\E.I F (.fn 9 (.pr (.fn 1 (.pr X (.int 29))) (.int 5)))<=200/\E.I F (.fn 9 (.pr (.fn 1 (.pr X (.int 30))) (.int 5)))<=200/\0<=E.I F (.fn 1 (.pr X (.int 1)))/\E.I F (.fn 1 (.pr X (.int 1)))<=9999/\0<=E.I F (.fn 1 (.pr X (.int 2)))/\E.I F (.fn 1 (.pr X (.int 2)))<=99/\0<=E.I F (.fn 1 (.pr X (.int 3)))/\E.I F (.fn 1 (.pr X (.int 3)))<=99/\0<=E.I F (.fn 1 (.pr X (.int 4)))/\E.I F (.fn 1 (.pr X (.int 4)))<=99/\0<=E.I F (.fn 1 (.pr X (.int 5)))/\E.I F (.fn 1 (.pr X (.int 5)))<=99/\0<=E.I F (.fn 1 (.pr X (.int 13)))/\E.I F (.fn 1 (.pr X (.int 13)))<=7/\0<=E.I F (.fn 1 (.pr X (.int 14)))/\E.I F (.fn 1 (.pr X (.int 14)))<=255/\0<=E.I F (.fn 1 (.pr X (.int 15)))/\E.I F (.fn 1 (.pr X (.int 15)))<=9999/\0<=E.I F (.fn 1 (.pr X (.int 16)))/\E.I F (.fn 1 (.pr X (.int 16)))<=99/\0<=E.I F (.fn 1 (.pr X (.int 17)))/\E.I F (.fn 1 (.pr X (.int 17)))<=99/\0<=E.I F (.fn 1 (.pr X (.int 18)))/\E.I F (.fn 1 (.pr X (.int 18)))<=99/\0<=E.I F (.fn 1 (.pr X (.int 19)))/\E.I F (.fn 1 (.pr X (.int 19)))<=99/\0<=E.I F (.fn 1 (.pr X (.int 27)))/\E.I F (.fn 1 (.pr X (.int 27)))<=7/\0<=E.I F (.fn 1 (.pr X (.int 28)))/\E.I F (.fn 1 (.pr X (.int 28)))<=255/\E.B F (.fn 103 (.pr (.fn 1 (.pr X (.int 29))) (.pr (.bool false) (.fn 9 (.pr (.fn 1 (.pr X (.int 29))) (.int 5))))))=true/\E.B F (.fn 103 (.pr (.fn 1 (.pr X (.int 30))) (.pr (.bool true) (.fn 9 (.pr (.fn 1 (.pr X (.int 30))) (.int 5))))))=true/\E.B F (.fn 125 X)=true/\E.B F (.fn 129 X)=true):=by
 show(kf _=true)=_
 have e34:E.I F (.fn 1 (.pr X (.int 34)))=iX (X.den F) 34:=rfl;have e33:E.I F (.fn 1 (.pr X (.int 33)))=iX (X.den F) 33:=rfl;have e35:E.I F (.fn 1 (.pr X (.int 35)))=iX (X.den F) 35:=rfl;have e36:E.I F (.fn 1 (.pr X (.int 36)))=iX (X.den F) 36:=rfl;have e37:E.I F (.fn 1 (.pr X (.int 37)))=iX (X.den F) 37:=rfl;have e1:E.I F (.fn 1 (.pr X (.int 1)))=iX (X.den F) 1:=rfl;have e2:E.I F (.fn 1 (.pr X (.int 2)))=iX (X.den F) 2:=rfl;have e3:E.I F (.fn 1 (.pr X (.int 3)))=iX (X.den F) 3:=rfl;have e4:E.I F (.fn 1 (.pr X (.int 4)))=iX (X.den F) 4:=rfl;have e5:E.I F (.fn 1 (.pr X (.int 5)))=iX (X.den F) 5:=rfl;have e13:E.I F (.fn 1 (.pr X (.int 13)))=iX (X.den F) 13:=rfl;have e14:E.I F (.fn 1 (.pr X (.int 14)))=iX (X.den F) 14:=rfl;have e15:E.I F (.fn 1 (.pr X (.int 15)))=iX (X.den F) 15:=rfl;have e16:E.I F (.fn 1 (.pr X (.int 16)))=iX (X.den F) 16:=rfl;have e17:E.I F (.fn 1 (.pr X (.int 17)))=iX (X.den F) 17:=rfl;have e18:E.I F (.fn 1 (.pr X (.int 18)))=iX (X.den F) 18:=rfl;have e19:E.I F (.fn 1 (.pr X (.int 19)))=iX (X.den F) 19:=rfl;have e27:E.I F (.fn 1 (.pr X (.int 27)))=iX (X.den F) 27:=rfl;have e28:E.I F (.fn 1 (.pr X (.int 28)))=iX (X.den F) 28:=rfl;have q0:E.I F (.fn 9 (.pr (.fn 1 (.pr X (.int 0))) (.int 12)))=bQ (X.den F):=rfl;have q29:E.I F (.fn 9 (.pr (.fn 1 (.pr X (.int 29))) (.int 5)))=cN (X.den F):=rfl;have q30:E.I F (.fn 9 (.pr (.fn 1 (.pr X (.int 30))) (.int 5)))=((cX (X.den F) 30).toL.length/5:Nat):=rfl;have l29:E.L F (.fn 1 (.pr X (.int 29)))=(cX (X.den F) 29).toL:=rfl;have l30:E.L F (.fn 1 (.pr X (.int 30)))=(cX (X.den F) 30).toL:=rfl;have bt:E.B F (.bool _)=true:=rfl;have bf:E.B F (.bool _)=false:=rfl;have za:(E.B F (.fn 125 X)=true)=(nW _=true):=rfl;have zb:(E.B F (.fn 129 X)=true)=(nj _=true):=rfl
 rw[za,zb,rD,rD,l29,l30,bt,bf,q29,q30,q0,e34,e33,e35,e36,e37,e1,e2,e3,e4,e5,e13,e14,e15,e16,e17,e18,e19,e27,e28,Int.toNat_natCast,Int.toNat_natCast]
 unfold kf oJ gL o8;simp only[Bool.and_eq_true,gv,List.all_cons];grind
end
end Go.SX

set_option linter.unusedVariables false
set_option linter.unusedSimpArgs false
namespace Go.SX
/-! ### all objects in just one place: the program's way -/
theorem QO(X:U)(s:Nat):iu X (s+1)=iu X s++if nI (cX X 29).toL (s*5+3)<0 then [(nI (cX X 29).toL (s*5+1),nI (cX X 29).toL (s*5))] else []:=by
 grind[iu,Ah]
theorem aAO(X:U)(s:Nat):gF X (s+1)=gF X s++if nI (cX X 29).toL (s*5+3)<0 then [(nI (cX X 29).toL (s*5+1),nI (cX X 29).toL (s*5+2))] else []:=by
 grind[gF,Ah]
theorem HA(X:U)(s:Nat):(gF X s).map Prod.fst=(iu X s).map Prod.fst:=by
 simp_all[gF,iu]
theorem ama(X:U):iu X 0=[]:=by rfl
theorem FG{m:List U}{l:List (Int×Int)}(h:gC m l=true)(k:Int):(cz k m).isSome=true↔k∈l.map Prod.fst:=by
 simp_all[wX,JO]
section
variable {F:Env} {x y l A a b k u i j p q n m r o c d w v X T N L L2 mc s p' q' i':E}
theorem xV:E.B F (.fn 33 (.pr m k))=(cz (E.I F k) (E.L F m)).isSome:=rfl
theorem B4:(E.B F (.fn 104 (.pr m (.pr X (.pr p (.pr q i)))))=true)=(gC (E.L F m) (fh (X.den F) ((E.I F p).toNat*4+(E.I F q).toNat) (E.I F i).toNat)=true):=rfl
theorem vi:(E.B F (.fn 105 (.pr m (.pr X s)))=true)=(gC (E.L F m) (fh (X.den F) 8 0++iu (X.den F) (E.I F s).toNat)=true):=rfl
theorem zu:(E.B F (.fn 106 (.pr m (.pr X s)))=true)=(gC (E.L F m) (gF (X.den F) (E.I F s).toNat)=true):=rfl
theorem H7:(E.B F (.fn 107 (.pr X n))=true)=(uQ (X.den F) (E.I F n).toNat=true):=rfl
theorem R0(h:E.B F (.fn 104 (.pr m (.pr X (.pr p (.pr q i)))))=true)(h1:0<=E.I F p)(h2:0<=E.I F q)(h3:0<=E.I F p')(h4:0<=E.I F q')(hk:E.I F p'*4+E.I F q'=E.I F p*4+E.I F q)(hi:E.I F i'=E.I F i):
  E.B F (.fn 104 (.pr m (.pr X (.pr p' (.pr q' i')))))=true:=by
 grind[B4]
theorem aE5(h:E.B F (.fn 104 (.pr m (.pr X (.pr p (.pr q i)))))=true)(hL:E.B F (.fn 109 (.pr L (.pr X (.pr p q))))=true)(h2:0<=E.I F q)(hi:E.I F i=E.I F (.fn 0 L))(hq:E.I F q'=E.I F q+1)(hz:E.I F i'=0):
  E.B F (.fn 104 (.pr m (.pr X (.pr p (.pr q' i')))))=true:=by
 grind[B4,vM,dO,aoC]
theorem De(h:E.B F (.fn 104 (.pr m (.pr X (.pr p (.pr q i)))))=true)(hL:E.B F (.fn 109 (.pr L (.pr X (.pr p q))))=true)(h0:0<=E.I F p)(h1:0<=E.I F q)(h2:E.I F q<4)(hi:0<=E.I F i)(hi':E.I F i<E.I F (.fn 0 L))(hn:E.I F n=E.I F i+1)(hp:E.I F p<=1):
  (¬E.B F (.fn 33 (.pr m (.fn 1 (.pr L i))))=true->E.B F (.fn 104 (.pr (.fn 34 (.pr m (.pr (.fn 1 (.pr L i)) p))) (.pr X (.pr p (.pr q n)))))=true)/\
  (E.B F (.fn 33 (.pr m (.fn 1 (.pr L i))))=true->¬E.B F (.fn 108 X)=true):=by
 rw[B4]at *
 rw[vM]at hL
 have ei:(E.I F n).toNat=(E.I F i).toNat+1:=by omega
 have hlt:(E.I F i).toNat<(ba (X.den F) ((E.I F p).toNat*4+(E.I F q).toNat)).length:=by grind[dO]
 have ek:((E.I F p).toNat*4+(E.I F q).toNat)/4=(E.I F p).toNat:=by omega
 have hs:=ara _ _ _ hlt
 rw[ek,<- hL,<- yw,Int.toNat_of_nonneg h0]at hs
 refine⟨fun hn'=>?_,fun ht=>?_⟩
 ·rw[ei,t8,hs]
  exact Jt h hn'
 ·rw[xV,FG h]at ht
  rw[tJ]
  refine NK (k:=E.I F _) (v:=E.I F p) ?_ ht
  have:=Gs (X.den F) ((E.I F p).toNat*4+(E.I F q).toNat) ((E.I F i).toNat+1) (by omega)
  simp_all
theorem aB7(h:E.B F (.fn 104 (.pr m (.pr X (.pr p (.pr q i)))))=true)(h1:E.I F p=2)(h2:E.I F q=0)(h3:E.I F i=0)(hs:E.I F s=0):E.B F (.fn 105 (.pr m (.pr X s)))=true:=by
 rw[B4,h1,h2,h3]at h
 rw[vi,hs]
 have e:(0:Int).toNat=0:=rfl
 rw[e,ama,List.append_nil];exact h
theorem al3(h:E.B F (.fn 105 (.pr m (.pr X s)))=true)(e:E.I F n=E.I F s):E.B F (.fn 105 (.pr m (.pr X n)))=true:=by
 simp_all[vi]
theorem ane(h:E.B F (.fn 106 (.pr m (.pr X s)))=true)(e:E.I F n=E.I F s):E.B F (.fn 106 (.pr m (.pr X n)))=true:=by
 simp_all[zu]
theorem kw(h0:0<=E.I F s)(c:Nat):nI (cX (X.den F) 29).toL ((E.I F s).toNat*5+c)=E.I F (.fn 1 (.pr (.fn 1 (.pr X (.int 29))) (.fn 6 (.pr (.fn 8 (.pr s (.int 5))) (.int (Int.ofNat c)))))):=
 (l5 (T:=.fn 1 (.pr X (.int 29))) s 5 c h0).symm
theorem wH(h:E.B F (.fn 105 (.pr m (.pr X s)))=true)(h':E.B F (.fn 106 (.pr mc (.pr X s)))=true)(h0:0<=E.I F s)(h1:E.I F s<E.I F (.fn 9 (.pr (.fn 1 (.pr X (.int 29))) (.int 5))))(hn:E.I F n=E.I F s+1)
  {pl id cd tr:E}(e0:pl=.fn 1 (.pr (.fn 1 (.pr X (.int 29))) (.fn 6 (.pr (.fn 8 (.pr s (.int 5))) (.int 0)))))(e1:id=.fn 1 (.pr (.fn 1 (.pr X (.int 29))) (.fn 6 (.pr (.fn 8 (.pr s (.int 5))) (.int 1)))))
  (e2:cd=.fn 1 (.pr (.fn 1 (.pr X (.int 29))) (.fn 6 (.pr (.fn 8 (.pr s (.int 5))) (.int 2)))))(e3:tr=.fn 1 (.pr (.fn 1 (.pr X (.int 29))) (.fn 6 (.pr (.fn 8 (.pr s (.int 5))) (.int 3))))):
  (¬E.I F tr<0->E.B F (.fn 105 (.pr m (.pr X n)))=true/\E.B F (.fn 106 (.pr mc (.pr X n)))=true)/\
  (E.I F tr<0->E.B F (.fn 33 (.pr m id))=true->¬E.B F (.fn 108 X)=true)/\
  (E.I F tr<0->¬E.B F (.fn 33 (.pr m id))=true->E.B F (.fn 105 (.pr (.fn 34 (.pr m (.pr id pl))) (.pr X n)))=true/\E.B F (.fn 106 (.pr (.fn 34 (.pr mc (.pr id cd))) (.pr X n)))=true):=by
 subst e0;subst e1;subst e2;subst e3
 rw[vi]at h
 rw[zu]at h'
 have hs:(E.I F s).toNat<cN (X.den F):=by
  have:E.I F (.fn 9 (.pr (.fn 1 (.pr X (.int 29))) (.int 5)))=cN (X.den F):=rfl
  omega
 have en:(E.I F n).toNat=(E.I F s).toNat+1:=by omega
 have c0:=kw (X:=X) h0 0;have c1:=kw (X:=X) h0 1;have c2:=kw (X:=X) h0 2;have c3:=kw (X:=X) h0 3;simp only[Nat.add_zero]at c0;have k3:(Int.ofNat 3)=3:=rfl
 rw[k3]at c3
 have sp:=QO (X.den F) (E.I F s).toNat;have sc:=aAO (X.den F) (E.I F s).toNat
 rw[c0,c1,c3]at sp
 rw[c1,c2,c3]at sc
 refine⟨fun ht=>?_,fun ht hb=>?_,fun ht hb=>?_⟩
 ·simp_all[vi,zu]
 ·rw[xV,FG h]at hb
  rw[tJ]
  refine NK (k:=E.I F _) (v:=E.I F (.fn 1 (.pr (.fn 1 (.pr X (.int 29))) (.fn 6 (.pr (.fn 8 (.pr s (.int 5))) (.int 0)))))) ?_ hb;grind[aDl]
 ·rw[if_pos ht]at sp sc
  rw[xV]at hb
  rw[vi,zu,en,sp,sc,t8,t8,<- List.append_assoc]
  refine⟨Jt h hb,Jt h' ?_⟩
  rw[FG h,List.map_append,List.mem_append]at hb
  grind[FG,HA]
theorem fO(h0:0<=E.I F i)(c:Nat):oI (X.den F) (E.I F i).toNat c=E.I F (.fn 1 (.pr (.fn 1 (.pr X (.int 0))) (.fn 6 (.pr (.fn 8 (.pr i (.int 12))) (.int (Int.ofNat c)))))):=
 (l5 (T:=.fn 1 (.pr X (.int 0))) i 12 c h0).symm
theorem Zl{l:List (Int×Int)}(h:gC (E.L F m) l=true)(hb:E.B F (.fn 33 (.pr m k))=true):fw l (E.I F k)=some (E.I F (.fn 32 (.pr m (.pr k (.int 0))))):=by
 rw[wX]at h
 rw[xV]at hb
 rw[<- h.1,<- Fv]
 have e:E.I F (.fn 32 (.pr m (.pr k (.int 0))))=((cz (E.I F k) (E.L F m)).getD _).toI:=rfl
 rw[e]
 cases hc:cz _ _ with
 |none=>simp_all
 |some v=>rfl
theorem Ra{l:List (Int×Int)}(h:gC (E.L F m) l=true)(hb:¬E.B F (.fn 33 (.pr m k))=true):fw l (E.I F k)=none:=by
 rw[wX]at h
 rw[xV]at hb
 rw[<- h.1,<- Fv]
 simp_all
theorem agJ{Y:U}(h:eh Y=true):uQ Y (bQ Y)=true:=by
 simp_all[eh]
/-- an object -/
theorem ayZ(hm:E.B F (.fn 105 (.pr m (.pr X (.fn 9 (.pr (.fn 1 (.pr X (.int 29))) (.int 5))))))=true)(hc:E.B F (.fn 106 (.pr mc (.pr X (.fn 9 (.pr (.fn 1 (.pr X (.int 29))) (.int 5))))))=true)(h:E.B F (.fn 107 (.pr X i))=true)
    (h0:0<=E.I F i)(hi:E.I F i<E.I F (.fn 9 (.pr (.fn 1 (.pr X (.int 0))) (.int 12))))(hn:E.I F n=E.I F i+1){t:E}(ht:0<E.I F i->E.I F t=E.I F i-1){C:Prop}{f:Nat->E}(hf:f=fun j=> .fn 1 (.pr (.fn 1 (.pr X (.int 0))) (.fn 6 (.pr (.fn 8 (.pr i (.int 12))) (.int (Int.ofNat j))))))
    (hC:C↔(1<=E.I F (f 0)/\E.I F (f 0)<=500/\ -1<=E.I F (f 1)/\E.I F (f 1)<=399/\0<=E.I F (f 2)/\E.I F (f 2)<=1/\(E.I F (f 1)= -1\/(E.I F (f 3)=0/\E.I F (f 4)=0))/\
      0<=E.I F (f 3)/\E.I F (f 3)<=99/\0<=E.I F (f 4)/\E.I F (f 4)<=99/\0<=E.I F (f 5)/\E.I F (f 5)<=99/\0<=E.I F (f 6)/\E.I F (f 6)<=99/\0<=E.I F (f 7)/\E.I F (f 7)<=99/\0<=E.I F (f 8)/\E.I F (f 8)<=99)/\
      (E.I F i=0\/E.I F (.fn 1 (.pr (.fn 1 (.pr X (.int 0))) (.fn 6 (.pr (.fn 8 (.pr t (.int 12))) (.int 0)))))<E.I F (f 0))/\
      (E.B F (.fn 33 (.pr m (f 0)))=true/\E.I F (.fn 32 (.pr m (.pr (f 0) (.int 0))))=E.I F (f 2))/\(E.B F (.fn 33 (.pr mc (f 0)))=true->E.I F (.fn 32 (.pr mc (.pr (f 0) (.int 0))))=E.I F (f 1))):
    (C->E.B F (.fn 107 (.pr X n))=true)/\(¬C->¬E.B F (.fn 108 X)=true):=by
  rw[vi]at hm
  rw[zu]at hc
  have es:(E.I F (.fn 9 (.pr (.fn 1 (.pr X (.int 29))) (.int 5)))).toNat=cN (X.den F):=rfl
  rw[es]at hm hc
  have hall:gC (E.L F m) (di (X.den F))=true:=hm;have hi':(E.I F i).toNat<bQ (X.den F):=by
    have:E.I F (.fn 9 (.pr (.fn 1 (.pr X (.int 0))) (.int 12)))=((bQ (X.den F):Nat):Int):=rfl
    omega
  have fc:∀j,E.I F (f j)=oI (X.den F) (E.I F i).toNat j:=by
    simp_all[fO]
  have hprev:(E.I F i=0\/E.I F (.fn 1 (.pr (.fn 1 (.pr X (.int 0))) (.fn 6 (.pr (.fn 8 (.pr t (.int 12))) (.int 0)))))<E.I F (f 0))↔((E.I F i).toNat=0\/oI (X.den F) ((E.I F i).toNat-1) 0<oI (X.den F) (E.I F i).toNat 0):=by
    by_cases hz:E.I F i=0
    · omega
    · have ht':=ht (by omega);have e:=fO (X:=X) (i:=t) (F:=F) (by omega) 0;grind
  have hown:(E.B F (.fn 33 (.pr m (f 0)))=true/\E.I F (.fn 32 (.pr m (.pr (f 0) (.int 0))))=E.I F (f 2))↔fw (di (X.den F)) (oI (X.den F) (E.I F i).toNat 0)=some (oI (X.den F) (E.I F i).toNat 2):=by
    grind[E.B,Zl,Ra]
  have hcard:(E.B F (.fn 33 (.pr mc (f 0)))=true->E.I F (.fn 32 (.pr mc (.pr (f 0) (.int 0))))=E.I F (f 1))↔(∀c,fw (gF (X.den F) (cN (X.den F))) (oI (X.den F) (E.I F i).toNat 0)=some c->c=oI (X.den F) (E.I F i).toNat 1):=by
    grind[E.B,Zl,Ra]
  have key:C↔(mu (X.den F) (E.I F i).toNat=true/\((E.I F i).toNat=0\/oI (X.den F) ((E.I F i).toNat-1) 0<oI (X.den F) (E.I F i).toNat 0)/\fw (di (X.den F)) (oI (X.den F) (E.I F i).toNat 0)=some (oI (X.den F) (E.I F i).toNat 2)/\(∀c,fw (gF (X.den F) (cN (X.den F))) (oI (X.den F) (E.I F i).toNat 0)=some c->c=oI (X.den F) (E.I F i).toNat 1)):=by
    grind[sR]
  rw[H7,uY]at h
  refine⟨fun hc'=>?_,fun hc' hp=>?_⟩
  · rw[H7,uY]
    intro k hk;by_cases e:k=(E.I F i).toNat
    · grind
    · exact h k (by omega)
  grind[tJ,uY,agJ]
theorem afx(hm:E.B F (.fn 105 (.pr m (.pr X (.fn 9 (.pr (.fn 1 (.pr X (.int 29))) (.int 5))))))=true)(hc:E.B F (.fn 106 (.pr mc (.pr X (.fn 9 (.pr (.fn 1 (.pr X (.int 29))) (.int 5))))))=true)(h:E.B F (.fn 107 (.pr X i))=true)
  {t a0 a1 a2 a3 a4 a5 a6 a7 a8:E}(e0:a0=.fn 1 (.pr (.fn 1 (.pr X (.int 0))) (.fn 6 (.pr (.fn 8 (.pr i (.int 12))) (.int 0)))))(e1:a1=.fn 1 (.pr (.fn 1 (.pr X (.int 0))) (.fn 6 (.pr (.fn 8 (.pr i (.int 12))) (.int 1)))))(e2:a2=.fn 1 (.pr (.fn 1 (.pr X (.int 0))) (.fn 6 (.pr (.fn 8 (.pr i (.int 12))) (.int 2)))))(e3:a3=.fn 1 (.pr (.fn 1 (.pr X (.int 0))) (.fn 6 (.pr (.fn 8 (.pr i (.int 12))) (.int 3)))))(e4:a4=.fn 1 (.pr (.fn 1 (.pr X (.int 0))) (.fn 6 (.pr (.fn 8 (.pr i (.int 12))) (.int 4)))))(e5:a5=.fn 1 (.pr (.fn 1 (.pr X (.int 0))) (.fn 6 (.pr (.fn 8 (.pr i (.int 12))) (.int 5)))))(e6:a6=.fn 1 (.pr (.fn 1 (.pr X (.int 0))) (.fn 6 (.pr (.fn 8 (.pr i (.int 12))) (.int 6)))))(e7:a7=.fn 1 (.pr (.fn 1 (.pr X (.int 0))) (.fn 6 (.pr (.fn 8 (.pr i (.int 12))) (.int 7)))))(e8:a8=.fn 1 (.pr (.fn 1 (.pr X (.int 0))) (.fn 6 (.pr (.fn 8 (.pr i (.int 12))) (.int 8)))))
  (h0:0<=E.I F i)(hi:E.I F i<E.I F (.fn 9 (.pr (.fn 1 (.pr X (.int 0))) (.int 12))))(hn:E.I F n=E.I F i+1)(ht:0<E.I F i->E.I F t=E.I F i-1):
  (((1<=E.I F a0/\E.I F a0<=500/\-1<=E.I F a1/\E.I F a1<=399/\0<=E.I F a2/\E.I F a2<=1/\(E.I F a1=-1\/(E.I F a3=0/\E.I F a4=0))/\0<=E.I F a3/\E.I F a3<=99/\0<=E.I F a4/\E.I F a4<=99/\0<=E.I F a5/\E.I F a5<=99/\0<=E.I F a6/\E.I F a6<=99/\0<=E.I F a7/\E.I F a7<=99/\0<=E.I F a8/\E.I F a8<=99)/\(E.I F i=0\/E.I F (.fn 1 (.pr (.fn 1 (.pr X (.int 0))) (.fn 6 (.pr (.fn 8 (.pr t (.int 12))) (.int 0)))))<E.I F a0)/\(E.B F (.fn 33 (.pr m a0))=true/\E.I F (.fn 32 (.pr m (.pr a0 (.int 0))))=E.I F a2)/\(E.B F (.fn 33 (.pr mc a0))=true->E.I F (.fn 32 (.pr mc (.pr a0 (.int 0))))=E.I F a1))->E.B F (.fn 107 (.pr X n))=true)/\(¬((1<=E.I F a0/\E.I F a0<=500/\-1<=E.I F a1/\E.I F a1<=399/\0<=E.I F a2/\E.I F a2<=1/\(E.I F a1=-1\/(E.I F a3=0/\E.I F a4=0))/\0<=E.I F a3/\E.I F a3<=99/\0<=E.I F a4/\E.I F a4<=99/\0<=E.I F a5/\E.I F a5<=99/\0<=E.I F a6/\E.I F a6<=99/\0<=E.I F a7/\E.I F a7<=99/\0<=E.I F a8/\E.I F a8<=99)/\(E.I F i=0\/E.I F (.fn 1 (.pr (.fn 1 (.pr X (.int 0))) (.fn 6 (.pr (.fn 8 (.pr t (.int 12))) (.int 0)))))<E.I F a0)/\(E.B F (.fn 33 (.pr m a0))=true/\E.I F (.fn 32 (.pr m (.pr a0 (.int 0))))=E.I F a2)/\(E.B F (.fn 33 (.pr mc a0))=true->E.I F (.fn 32 (.pr mc (.pr a0 (.int 0))))=E.I F a1))->¬E.B F (.fn 108 X)=true):=by
 subst e0;subst e1;subst e2;subst e3;subst e4;subst e5;subst e6;subst e7;subst e8;exact ayZ hm hc h h0 hi hn ht (f:=fun j=>.fn 1 _) rfl Iff.rfl
theorem cm{a0 a1 a2 a3 a4 a5 a6 a7 a8:E}:(E.B F (.fn 137 (.pr a0 (.pr a1 (.pr a2 (.pr a3 (.pr a4 (.pr a5 (.pr a6 (.pr a7 a8)))))))))=true)=(1<=E.I F a0/\E.I F a0<=500/\-1<=E.I F a1/\E.I F a1<=399/\0<=E.I F a2/\E.I F a2<=1/\(E.I F a1=-1\/(E.I F a3=0/\E.I F a4=0))/\0<=E.I F a3/\E.I F a3<=99/\0<=E.I F a4/\E.I F a4<=99/\0<=E.I F a5/\E.I F a5<=99/\0<=E.I F a6/\E.I F a6<=99/\0<=E.I F a7/\E.I F a7<=99/\0<=E.I F a8/\E.I F a8<=99):=by
 show(HE (E.I F a0) (E.I F a1) (E.I F a2) (E.I F a3) (E.I F a4) (E.I F a5) (E.I F a6) (E.I F a7) (E.I F a8)=true)=_
 unfold HE;simp only[List.all_cons,List.all_nil,Bool.and_eq_true,Bool.or_eq_true,gv,beq_iff_eq,and_assoc,and_true]
theorem jH(hm:E.B F (.fn 105 (.pr m (.pr X (.fn 9 (.pr (.fn 1 (.pr X (.int 29))) (.int 5))))))=true)(hc:E.B F (.fn 106 (.pr mc (.pr X (.fn 9 (.pr (.fn 1 (.pr X (.int 29))) (.int 5))))))=true)(h:E.B F (.fn 107 (.pr X i))=true)
  {t a0 a1 a2 a3 a4 a5 a6 a7 a8:E}(e0:a0=.fn 1 (.pr (.fn 1 (.pr X (.int 0))) (.fn 6 (.pr (.fn 8 (.pr i (.int 12))) (.int 0)))))(e1:a1=.fn 1 (.pr (.fn 1 (.pr X (.int 0))) (.fn 6 (.pr (.fn 8 (.pr i (.int 12))) (.int 1)))))(e2:a2=.fn 1 (.pr (.fn 1 (.pr X (.int 0))) (.fn 6 (.pr (.fn 8 (.pr i (.int 12))) (.int 2)))))(e3:a3=.fn 1 (.pr (.fn 1 (.pr X (.int 0))) (.fn 6 (.pr (.fn 8 (.pr i (.int 12))) (.int 3)))))(e4:a4=.fn 1 (.pr (.fn 1 (.pr X (.int 0))) (.fn 6 (.pr (.fn 8 (.pr i (.int 12))) (.int 4)))))(e5:a5=.fn 1 (.pr (.fn 1 (.pr X (.int 0))) (.fn 6 (.pr (.fn 8 (.pr i (.int 12))) (.int 5)))))(e6:a6=.fn 1 (.pr (.fn 1 (.pr X (.int 0))) (.fn 6 (.pr (.fn 8 (.pr i (.int 12))) (.int 6)))))(e7:a7=.fn 1 (.pr (.fn 1 (.pr X (.int 0))) (.fn 6 (.pr (.fn 8 (.pr i (.int 12))) (.int 7)))))(e8:a8=.fn 1 (.pr (.fn 1 (.pr X (.int 0))) (.fn 6 (.pr (.fn 8 (.pr i (.int 12))) (.int 8)))))
  (h0:0<=E.I F i)(hi:E.I F i<E.I F (.fn 9 (.pr (.fn 1 (.pr X (.int 0))) (.int 12))))(hn:E.I F n=E.I F i+1)(ht:0<E.I F i->E.I F t=E.I F i-1):
  (((E.B F (.fn 137 (.pr a0 (.pr a1 (.pr a2 (.pr a3 (.pr a4 (.pr a5 (.pr a6 (.pr a7 a8)))))))))=true)/\(E.I F i=0\/E.I F (.fn 1 (.pr (.fn 1 (.pr X (.int 0))) (.fn 6 (.pr (.fn 8 (.pr t (.int 12))) (.int 0)))))<E.I F a0)/\(E.B F (.fn 33 (.pr m a0))=true/\E.I F (.fn 32 (.pr m (.pr a0 (.int 0))))=E.I F a2)/\(E.B F (.fn 33 (.pr mc a0))=true->E.I F (.fn 32 (.pr mc (.pr a0 (.int 0))))=E.I F a1))->E.B F (.fn 107 (.pr X n))=true)/\(¬((E.B F (.fn 137 (.pr a0 (.pr a1 (.pr a2 (.pr a3 (.pr a4 (.pr a5 (.pr a6 (.pr a7 a8)))))))))=true)/\(E.I F i=0\/E.I F (.fn 1 (.pr (.fn 1 (.pr X (.int 0))) (.fn 6 (.pr (.fn 8 (.pr t (.int 12))) (.int 0)))))<E.I F a0)/\(E.B F (.fn 33 (.pr m a0))=true/\E.I F (.fn 32 (.pr m (.pr a0 (.int 0))))=E.I F a2)/\(E.B F (.fn 33 (.pr mc a0))=true->E.I F (.fn 32 (.pr mc (.pr a0 (.int 0))))=E.I F a1))->¬E.B F (.fn 108 X)=true):=by
 rw[cm]
 exact afx hm hc h e0 e1 e2 e3 e4 e5 e6 e7 e8 h0 hi hn ht
theorem ayc(hm:E.B F (.fn 105 (.pr m (.pr X (.fn 9 (.pr (.fn 1 (.pr X (.int 29))) (.int 5))))))=true)(h:E.B F (.fn 107 (.pr X i))=true)(hi:E.I F (.fn 9 (.pr (.fn 1 (.pr X (.int 0))) (.int 12)))=E.I F i):
  (E.I F (.fn 0 m)=E.I F (.fn 9 (.pr (.fn 1 (.pr X (.int 0))) (.int 12))))↔E.B F (.fn 108 X)=true:=by
 have hall:gC (E.L F m) (di (X.den F))=true:=hm
 rw[wX]at hall
 have hl:(E.L F m).length=(di (X.den F)).length:=by grind[iN]
 have e9:E.I F (.fn 9 (.pr (.fn 1 (.pr X (.int 0))) (.int 12)))=bQ (X.den F):=rfl;have e0:E.I F (.fn 0 m)=(E.L F m).length:=rfl
 rw[H7]at h
 rw[tJ,e9,e0,hl]
 unfold eh
 rw[Bool.and_eq_true,Bool.and_eq_true,px,beq_iff_eq]
 grind
end
end Go.SX

set_option linter.unusedVariables false
set_option linter.unusedSimpArgs false
namespace Go.SX
/-! ### valid boards: the reference's way -/
theorem ZR(X:U)(n:Nat):pR X n=true↔∀i,i<n->((bj X).count (nI (cX X 31).toL i)=1/\(fX X).count (nI (cX X 31).toL i)=1):=by
 simp_all[pR]
theorem DR(X:U)(i k:Nat):ue X i k=true↔∀q,q<k->(¬blk X q 1=blk X i 1/\¬blk X q 0=blk X i 0):=by
 simp_all[ue]
theorem xl(X:U)(n:Nat):tU X n=true↔∀i,i<n->(((bj X).count (blk X i 1)=1/\(fy X).count (blk X i 0)=1)/\ue X i i=true):=by
 simp_all[tU]
theorem wO(X:U):nj X=true↔pR X (bj X).length=true/\tU X (fD X)=true:=by
 simp_all[nj]
theorem xL(X:U)(n:Nat):ry X n=true↔∀i,i<n->(mu X i=true/\(i=0\/oI X (i-1) 0<oI X i 0)/\mj X (oI X i 2).toNat (oI X i 0)=1):=by
 simp_all[ry,and_assoc]
def Jn(X:U)(i:Nat):Prop:=nI (cX X 29).toL (i*5+3)<0->(0<=ep X (nI (cX X 29).toL (i*5+1)) (bQ X)/\oI X (ep X (nI (cX X 29).toL (i*5+1)) (bQ X)).toNat 1=nI (cX X 29).toL (i*5+2))
theorem Az(X:U)(s:Nat):tW X s=true↔∀i,i<s->Jn X i:=by
 grind[tW,gS,Jn]
theorem Ej(X:U):nW X=true↔tW X (cN X)=true/\ry X (bQ X)=true/\sd X=bQ X:=by
 simp_all[nW,and_assoc]
theorem Ig(X:U)(k:Int)(n i:Nat)(hi:i<n)(h:ep X k i=-1)(he:oI X i 0=k):ep X k n=i:=by
 unfold ep at *;have e:List.range n=List.range i++(i::(List.range (n-i-1)).map (fun x=>i+1+x)):=by
  have h1:List.range n=List.range (i+(n-i)):=by grind
  rw[h1,List.range_add]
  congr 1;have h2:n-i=(n-i-1)+1:=by omega
  rw[h2,List.range_succ_eq_map,List.map_cons,List.map_map]
  congr 1;grind[List.map_congr_left]
 grind
theorem Mk(X:U)(k:Int)(i:Nat)(h:ep X k i=-1)(he:¬oI X i 0=k):ep X k (i+1)=-1:=by
 grind[ep]
section
variable {F:Env} {x y l A a b k u i j p q n m r o c d w v X T N L L2 mc s:E}
theorem jt:E.I F (.fn 121 (.pr l k))=(((aG F l).count (E.I F k):Nat):Int):=rfl
theorem aGx(h:E.I F (.fn 0 l)<=E.I F n):E.I F (.fn 121 (.pr l k))=E.I F (.fn 131 (.pr l (.pr k n))):=by
 grind[jt,EV,dO,List.take_of_length_le]
theorem n8:E.I F (.fn 120 (.pr X (.pr k n)))=ep (X.den F) (E.I F k) (E.I F n).toNat:=rfl
theorem aly(e:E.I F n=E.I F i):E.I F (.fn 120 (.pr X (.pr k n)))=E.I F (.fn 120 (.pr X (.pr k i))):=by
 simp_all[n8]
theorem Vv(h:E.I F (.fn 120 (.pr X (.pr k i)))=-1){a:E}(ea:a=.fn 1 (.pr (.fn 1 (.pr X (.int 0))) (.fn 6 (.pr (.fn 8 (.pr i (.int 12))) (.int 0)))))(h0:0<=E.I F i)(hi:E.I F i<E.I F N)(hn:E.I F n=E.I F i+1):
  (¬E.I F a=E.I F k->E.I F (.fn 120 (.pr X (.pr k n)))=-1)/\(E.I F a=E.I F k->E.I F (.fn 120 (.pr X (.pr k N)))=E.I F i):=by
 subst ea;have e:=fO (X:=X) h0 0;have k0:(Int.ofNat 0)=0:=rfl
 rw[k0]at e
 rw[n8]at h
 have en:(E.I F n).toNat=(E.I F i).toNat+1:=by omega
 grind[n8,Mk,Ig]
/-! places -/
theorem ac8:E.I F (.fn 122 (.pr X (.pr p k)))=((mj (X.den F) (E.I F p).toNat (E.I F k):Nat):Int):=rfl
theorem JW:E.I F (.fn 132 (.pr X (.pr p (.pr q k))))=((mY (X.den F) (E.I F p).toNat (E.I F q).toNat (E.I F k):Nat):Int):=rfl
theorem MF:E.I F (.fn 133 (.pr X (.pr p (.pr k s))))=((nz (X.den F) (E.I F p) (E.I F k) (E.I F s).toNat:Nat):Int):=rfl
theorem aE7(h0:0<=E.I F p)(hs:E.I F s=E.I F (.fn 9 (.pr (.fn 1 (.pr X (.int 29))) (.int 5)))):E.I F (.fn 122 (.pr X (.pr p k)))=E.I F (.fn 132 (.pr X (.pr p (.pr (.int 4) k))))+E.I F (.fn 133 (.pr X (.pr p (.pr k s)))):=by
 rw[ac8,JW,MF,hs]
 have e:(E.I F (.fn 9 (.pr (.fn 1 (.pr X (.int 29))) (.int 5)))).toNat=cN (X.den F):=rfl;have e4:(E.I F (.int 4)).toNat=4:=rfl;grind[mj]
theorem Wq(h:E.I F s<=0):E.I F (.fn 133 (.pr X (.pr p (.pr k s))))=0:=by
 have e:(E.I F s).toNat=0:=by omega
 rw[MF,e];rfl
theorem EM{pl id tr:E}(e0:pl=.fn 1 (.pr (.fn 1 (.pr X (.int 29))) (.fn 6 (.pr (.fn 8 (.pr s (.int 5))) (.int 0)))))(e1:id=.fn 1 (.pr (.fn 1 (.pr X (.int 29))) (.fn 6 (.pr (.fn 8 (.pr s (.int 5))) (.int 1)))))
  (e3:tr=.fn 1 (.pr (.fn 1 (.pr X (.int 29))) (.fn 6 (.pr (.fn 8 (.pr s (.int 5))) (.int 3)))))(h0:0<=E.I F s)(hn:E.I F n=E.I F s+1):
  ((E.I F tr=-1/\E.I F id=E.I F k/\E.I F pl=E.I F p)->E.I F (.fn 133 (.pr X (.pr p (.pr k n))))=E.I F (.fn 133 (.pr X (.pr p (.pr k s))))+1)/\
  (¬(E.I F tr=-1/\E.I F id=E.I F k/\E.I F pl=E.I F p)->E.I F (.fn 133 (.pr X (.pr p (.pr k n))))=E.I F (.fn 133 (.pr X (.pr p (.pr k s))))):=by
 have en:(E.I F n).toNat=(E.I F s).toNat+1:=by omega
 have c0:=kw (X:=X) h0 0;have c1:=kw (X:=X) h0 1;have c3:=kw (X:=X) h0 3;simp_all[MF,nz,List.range_succ]
theorem azY(h:E.I F p=0):E.I F (.fn 132 (.pr X (.pr p (.pr (.int 4) k))))=E.I F (.fn 121 (.pr (.fn 1 (.pr X (.int 6))) k))+E.I F (.fn 121 (.pr (.fn 1 (.pr X (.int 7))) k))+E.I F (.fn 121 (.pr (.fn 1 (.pr X (.int 8))) k))+E.I F (.fn 121 (.pr (.fn 1 (.pr X (.int 9))) k)):=by
 rw[JW,h]
 have e4:(E.I F (.int 4)).toNat=4:=rfl;unfold mY;have er:List.range 4=[0,1,2,3]:=rfl
 rw[jt,jt,jt,jt]
 have z0:aG F (.fn 1 (.pr X (.int 6)))=ba (X.den F) (4*0+0):=rfl;have z1:aG F (.fn 1 (.pr X (.int 7)))=ba (X.den F) (4*0+1):=rfl;have z2:aG F (.fn 1 (.pr X (.int 8)))=ba (X.den F) (4*0+2):=rfl;have z3:aG F (.fn 1 (.pr X (.int 9)))=ba (X.den F) (4*0+3):=rfl;grind
theorem aut(h:E.I F p=1):E.I F (.fn 132 (.pr X (.pr p (.pr (.int 4) k))))=E.I F (.fn 121 (.pr (.fn 1 (.pr X (.int 20))) k))+E.I F (.fn 121 (.pr (.fn 1 (.pr X (.int 21))) k))+E.I F (.fn 121 (.pr (.fn 1 (.pr X (.int 22))) k))+E.I F (.fn 121 (.pr (.fn 1 (.pr X (.int 23))) k)):=by
 rw[JW,h]
 have e4:(E.I F (.int 4)).toNat=4:=rfl;unfold mY;have er:List.range 4=[0,1,2,3]:=rfl
 rw[jt,jt,jt,jt]
 have z0:aG F (.fn 1 (.pr X (.int 20)))=ba (X.den F) (4*1+0):=rfl;have z1:aG F (.fn 1 (.pr X (.int 21)))=ba (X.den F) (4*1+1):=rfl;have z2:aG F (.fn 1 (.pr X (.int 22)))=ba (X.den F) (4*1+2):=rfl;have z3:aG F (.fn 1 (.pr X (.int 23)))=ba (X.den F) (4*1+3):=rfl;grind
/-! found -/
theorem aDf:E.I F (.fn 134 (.pr X (.int 8)))=E.I F (.fn 0 (.fn 1 (.pr X (.int 6))))+E.I F (.fn 0 (.fn 1 (.pr X (.int 7))))+E.I F (.fn 0 (.fn 1 (.pr X (.int 8))))+E.I F (.fn 0 (.fn 1 (.pr X (.int 9)))) +
  E.I F (.fn 0 (.fn 1 (.pr X (.int 20))))+E.I F (.fn 0 (.fn 1 (.pr X (.int 21))))+E.I F (.fn 0 (.fn 1 (.pr X (.int 22))))+E.I F (.fn 0 (.fn 1 (.pr X (.int 23)))):=by
 have e:E.I F (.fn 134 (.pr X (.int 8)))=((List.range 8).map fun z=>(ba (X.den F) z).length).sum:=rfl;have er:List.range 8=[0,1,2,3,4,5,6,7]:=rfl
 rw[e,er]
 simp only[List.map_cons,List.map_nil]
 rw[<- dO,<- dO,<- dO,<- dO,<- dO,<- dO,<- dO,<- dO]
 have z0:aG F (.fn 1 (.pr X (.int 6)))=ba (X.den F) 0:=rfl;have z1:aG F (.fn 1 (.pr X (.int 7)))=ba (X.den F) 1:=rfl;have z2:aG F (.fn 1 (.pr X (.int 8)))=ba (X.den F) 2:=rfl;have z3:aG F (.fn 1 (.pr X (.int 9)))=ba (X.den F) 3:=rfl;have y0:aG F (.fn 1 (.pr X (.int 20)))=ba (X.den F) 4:=rfl;have y1:aG F (.fn 1 (.pr X (.int 21)))=ba (X.den F) 5:=rfl;have y2:aG F (.fn 1 (.pr X (.int 22)))=ba (X.den F) 6:=rfl;have y3:aG F (.fn 1 (.pr X (.int 23)))=ba (X.den F) 7:=rfl;grind
theorem BH:E.I F (.fn 135 (.pr X s))=(((gS (X.den F) (E.I F s).toNat).length:Nat):Int):=rfl
theorem aid(h:E.I F s<=0):E.I F (.fn 135 (.pr X s))=0:=by
 have e:(E.I F s).toNat=0:=by omega
 rw[BH,e];rfl
theorem apI(e:E.I F n=E.I F s):E.I F (.fn 135 (.pr X n))=E.I F (.fn 135 (.pr X s)):=by simp_all[BH]
theorem adc{tr:E}(e3:tr=.fn 1 (.pr (.fn 1 (.pr X (.int 29))) (.fn 6 (.pr (.fn 8 (.pr s (.int 5))) (.int 3)))))(h0:0<=E.I F s)(hn:E.I F n=E.I F s+1):
  (E.I F tr<0->E.I F (.fn 135 (.pr X n))=E.I F (.fn 135 (.pr X s))+1)/\(¬E.I F tr<0->E.I F (.fn 135 (.pr X n))=E.I F (.fn 135 (.pr X s))):=by
 have en:(E.I F n).toNat=(E.I F s).toNat+1:=by omega
 have c3:=kw (X:=X) h0 3;grind[BH,Ah]
theorem GU:(E.B F (.fn 123 (.pr X s))=true)=(tW (X.den F) (E.I F s).toNat=true):=rfl
theorem JG:(E.B F (.fn 124 (.pr X n))=true)=(ry (X.den F) (E.I F n).toNat=true):=rfl
theorem F8:(E.B F (.fn 125 X)=true)=(nW (X.den F)=true):=rfl
theorem aoZ(h:E.B F (.fn 123 (.pr X s))=true)(e:E.I F n=E.I F s):E.B F (.fn 123 (.pr X n))=true:=by
 simp_all[GU]
theorem E1(h:E.B F (.fn 123 (.pr X s))=true){id cd tr v rw1:E}(e1:id=.fn 1 (.pr (.fn 1 (.pr X (.int 29))) (.fn 6 (.pr (.fn 8 (.pr s (.int 5))) (.int 1)))))
  (e2:cd=.fn 1 (.pr (.fn 1 (.pr X (.int 29))) (.fn 6 (.pr (.fn 8 (.pr s (.int 5))) (.int 2)))))(e3:tr=.fn 1 (.pr (.fn 1 (.pr X (.int 29))) (.fn 6 (.pr (.fn 8 (.pr s (.int 5))) (.int 3)))))
  (e4:rw1=.fn 1 (.pr (.fn 1 (.pr X (.int 0))) (.fn 6 (.pr (.fn 8 (.pr v (.int 12))) (.int 1)))))
  (h0:0<=E.I F s)(h1:E.I F s<E.I F (.fn 9 (.pr (.fn 1 (.pr X (.int 29))) (.int 5))))(hn:E.I F n=E.I F s+1):
  (¬E.I F tr<0->E.B F (.fn 123 (.pr X n))=true)/\
  (E.I F tr<0->E.I F v=E.I F (.fn 120 (.pr X (.pr id (.fn 9 (.pr (.fn 1 (.pr X (.int 0))) (.int 12))))))->((0<=E.I F v/\E.I F rw1=E.I F cd)->E.B F (.fn 123 (.pr X n))=true)/\(¬(0<=E.I F v/\E.I F rw1=E.I F cd)->¬E.B F (.fn 125 X)=true)):=by
 subst e3;have hs:(E.I F s).toNat<cN (X.den F):=by
  have:E.I F (.fn 9 (.pr (.fn 1 (.pr X (.int 29))) (.int 5)))=cN (X.den F):=rfl
  omega
 have c1:=kw (X:=X) h0 1;have c2:=kw (X:=X) h0 2;have c3:=kw (X:=X) h0 3;have k3:(Int.ofNat 3)=3:=rfl
 rw[k3]at c3
 have en9:(E.I F (.fn 9 (.pr (.fn 1 (.pr X (.int 0))) (.int 12)))).toNat=bQ (X.den F):=rfl;have ext:Jn (X.den F) (E.I F s).toNat->E.B F (.fn 123 (.pr X n))=true:=by
  grind[GU,Az]
 refine⟨fun ht=>ext ?_,fun ht hv=>⟨fun hc=>ext ?_,fun hc hf=>hc ?_⟩⟩
 ·intro hh;omega
 ·intro _;grind[n8,fO]
 ·rw[F8,Ej,Az]at hf
  have:=hf.1 _ hs (by omega)
  grind[n8,fO]
theorem ayu(h:E.B F (.fn 124 (.pr X i))=true){t a0 a1 a2 a3 a4 a5 a6 a7 a8:E}(e0:a0=.fn 1 (.pr (.fn 1 (.pr X (.int 0))) (.fn 6 (.pr (.fn 8 (.pr i (.int 12))) (.int 0)))))(e1:a1=.fn 1 (.pr (.fn 1 (.pr X (.int 0))) (.fn 6 (.pr (.fn 8 (.pr i (.int 12))) (.int 1)))))(e2:a2=.fn 1 (.pr (.fn 1 (.pr X (.int 0))) (.fn 6 (.pr (.fn 8 (.pr i (.int 12))) (.int 2)))))(e3:a3=.fn 1 (.pr (.fn 1 (.pr X (.int 0))) (.fn 6 (.pr (.fn 8 (.pr i (.int 12))) (.int 3)))))(e4:a4=.fn 1 (.pr (.fn 1 (.pr X (.int 0))) (.fn 6 (.pr (.fn 8 (.pr i (.int 12))) (.int 4)))))(e5:a5=.fn 1 (.pr (.fn 1 (.pr X (.int 0))) (.fn 6 (.pr (.fn 8 (.pr i (.int 12))) (.int 5)))))(e6:a6=.fn 1 (.pr (.fn 1 (.pr X (.int 0))) (.fn 6 (.pr (.fn 8 (.pr i (.int 12))) (.int 6)))))(e7:a7=.fn 1 (.pr (.fn 1 (.pr X (.int 0))) (.fn 6 (.pr (.fn 8 (.pr i (.int 12))) (.int 7)))))(e8:a8=.fn 1 (.pr (.fn 1 (.pr X (.int 0))) (.fn 6 (.pr (.fn 8 (.pr i (.int 12))) (.int 8)))))
  (h0:0<=E.I F i)(hi:E.I F i<E.I F (.fn 9 (.pr (.fn 1 (.pr X (.int 0))) (.int 12))))(hn:E.I F n=E.I F i+1)(ht:0<E.I F i->E.I F t=E.I F i-1):
  (((1<=E.I F a0/\E.I F a0<=500/\-1<=E.I F a1/\E.I F a1<=399/\0<=E.I F a2/\E.I F a2<=1/\(E.I F a1=-1\/(E.I F a3=0/\E.I F a4=0))/\0<=E.I F a3/\E.I F a3<=99/\0<=E.I F a4/\E.I F a4<=99/\0<=E.I F a5/\E.I F a5<=99/\0<=E.I F a6/\E.I F a6<=99/\0<=E.I F a7/\E.I F a7<=99/\0<=E.I F a8/\E.I F a8<=99)/\
   (E.I F i=0\/E.I F (.fn 1 (.pr (.fn 1 (.pr X (.int 0))) (.fn 6 (.pr (.fn 8 (.pr t (.int 12))) (.int 0)))))<E.I F a0)/\E.I F (.fn 122 (.pr X (.pr a2 a0)))=1)->E.B F (.fn 124 (.pr X n))=true)/\
  (¬((1<=E.I F a0/\E.I F a0<=500/\-1<=E.I F a1/\E.I F a1<=399/\0<=E.I F a2/\E.I F a2<=1/\(E.I F a1=-1\/(E.I F a3=0/\E.I F a4=0))/\0<=E.I F a3/\E.I F a3<=99/\0<=E.I F a4/\E.I F a4<=99/\0<=E.I F a5/\E.I F a5<=99/\0<=E.I F a6/\E.I F a6<=99/\0<=E.I F a7/\E.I F a7<=99/\0<=E.I F a8/\E.I F a8<=99)/\
   (E.I F i=0\/E.I F (.fn 1 (.pr (.fn 1 (.pr X (.int 0))) (.fn 6 (.pr (.fn 8 (.pr t (.int 12))) (.int 0)))))<E.I F a0)/\E.I F (.fn 122 (.pr X (.pr a2 a0)))=1)->¬E.B F (.fn 125 X)=true):=by
 subst e0;subst e1;subst e2;subst e3;subst e4;subst e5;subst e6;subst e7;subst e8;have hi':(E.I F i).toNat<bQ (X.den F):=by
  have:E.I F (.fn 9 (.pr (.fn 1 (.pr X (.int 0))) (.int 12)))=((bQ (X.den F):Nat):Int):=rfl
  omega
 have en:(E.I F n).toNat=(E.I F i).toNat+1:=by omega
 have c0:oI (X.den F) (E.I F i).toNat 0=_:=fO (X:=X) h0 0;have c1:oI (X.den F) (E.I F i).toNat 1=_:=fO (X:=X) h0 1;have c2:oI (X.den F) (E.I F i).toNat 2=_:=fO (X:=X) h0 2;have c3:oI (X.den F) (E.I F i).toNat 3=_:=fO (X:=X) h0 3;have c4:oI (X.den F) (E.I F i).toNat 4=_:=fO (X:=X) h0 4;have c5:oI (X.den F) (E.I F i).toNat 5=_:=fO (X:=X) h0 5;have c6:oI (X.den F) (E.I F i).toNat 6=_:=fO (X:=X) h0 6;have c7:oI (X.den F) (E.I F i).toNat 7=_:=fO (X:=X) h0 7;have c8:oI (X.den F) (E.I F i).toNat 8=_:=fO (X:=X) h0 8;have k (z:Nat) (w:Int) (e:Int.ofNat z=w):E.int (Int.ofNat z)=E.int w:=by rw[e]
 rw[k 0 0 rfl]at c0
 rw[k 1 1 rfl]at c1
 rw[k 2 2 rfl]at c2
 rw[k 3 3 rfl]at c3
 rw[k 4 4 rfl]at c4
 rw[k 5 5 rfl]at c5
 rw[k 6 6 rfl]at c6
 rw[k 7 7 rfl]at c7
 rw[k 8 8 rfl]at c8
 have hprev:(E.I F i=0\/E.I F (.fn 1 (.pr (.fn 1 (.pr X (.int 0))) (.fn 6 (.pr (.fn 8 (.pr t (.int 12))) (.int 0)))))<oI (X.den F) (E.I F i).toNat 0)↔((E.I F i).toNat=0\/oI (X.den F) ((E.I F i).toNat-1) 0<oI (X.den F) (E.I F i).toNat 0):=by
  by_cases hz:E.I F i=0
  ·omega
  ·have ht':=ht (by omega);have e:=fO (X:=X) (i:=t) (F:=F) (by omega) 0
   rw[k 0 0 rfl]at e
   have et:(E.I F t).toNat=(E.I F i).toNat-1:=by omega
   grind
 have h122:(E.I F (.fn 122 (.pr X (.pr (.fn 1 (.pr (.fn 1 (.pr X (.int 0))) (.fn 6 (.pr (.fn 8 (.pr i (.int 12))) (.int 2))))) (.fn 1 (.pr (.fn 1 (.pr X (.int 0))) (.fn 6 (.pr (.fn 8 (.pr i (.int 12))) (.int 0))))))))=1)↔mj (X.den F) (oI (X.den F) (E.I F i).toNat 2).toNat (oI (X.den F) (E.I F i).toNat 0)=1:=by
  grind[ac8]
 rw[h122,<- c0,<- c1,<- c2,<- c3,<- c4,<- c5,<- c6,<- c7,<- c8,hprev]
 rw[JG,xL]at h
 refine⟨fun hc=>?_,fun hc hf=>hc ?_⟩
 ·rw[JG,xL,en]
  intro q hq;rcases Nat.lt_or_eq_of_le (Nat.le_of_lt_succ hq)with h2|h2
  all_goals simp_all[sR]
 ·rw[F8,Ej,xL]at hf
  have:=hf.2.1 _ hi'
  exact⟨(sR _ _).1 this.1,this.2.1,this.2.2⟩
theorem sK(h:E.B F (.fn 124 (.pr X i))=true){t a0 a1 a2 a3 a4 a5 a6 a7 a8:E}(e0:a0=.fn 1 (.pr (.fn 1 (.pr X (.int 0))) (.fn 6 (.pr (.fn 8 (.pr i (.int 12))) (.int 0)))))(e1:a1=.fn 1 (.pr (.fn 1 (.pr X (.int 0))) (.fn 6 (.pr (.fn 8 (.pr i (.int 12))) (.int 1)))))(e2:a2=.fn 1 (.pr (.fn 1 (.pr X (.int 0))) (.fn 6 (.pr (.fn 8 (.pr i (.int 12))) (.int 2)))))(e3:a3=.fn 1 (.pr (.fn 1 (.pr X (.int 0))) (.fn 6 (.pr (.fn 8 (.pr i (.int 12))) (.int 3)))))(e4:a4=.fn 1 (.pr (.fn 1 (.pr X (.int 0))) (.fn 6 (.pr (.fn 8 (.pr i (.int 12))) (.int 4)))))(e5:a5=.fn 1 (.pr (.fn 1 (.pr X (.int 0))) (.fn 6 (.pr (.fn 8 (.pr i (.int 12))) (.int 5)))))(e6:a6=.fn 1 (.pr (.fn 1 (.pr X (.int 0))) (.fn 6 (.pr (.fn 8 (.pr i (.int 12))) (.int 6)))))(e7:a7=.fn 1 (.pr (.fn 1 (.pr X (.int 0))) (.fn 6 (.pr (.fn 8 (.pr i (.int 12))) (.int 7)))))(e8:a8=.fn 1 (.pr (.fn 1 (.pr X (.int 0))) (.fn 6 (.pr (.fn 8 (.pr i (.int 12))) (.int 8)))))
  (h0:0<=E.I F i)(hi:E.I F i<E.I F (.fn 9 (.pr (.fn 1 (.pr X (.int 0))) (.int 12))))(hn:E.I F n=E.I F i+1)(ht:0<E.I F i->E.I F t=E.I F i-1):
  (((E.B F (.fn 137 (.pr a0 (.pr a1 (.pr a2 (.pr a3 (.pr a4 (.pr a5 (.pr a6 (.pr a7 a8)))))))))=true)/\
   (E.I F i=0\/E.I F (.fn 1 (.pr (.fn 1 (.pr X (.int 0))) (.fn 6 (.pr (.fn 8 (.pr t (.int 12))) (.int 0)))))<E.I F a0)/\E.I F (.fn 122 (.pr X (.pr a2 a0)))=1)->E.B F (.fn 124 (.pr X n))=true)/\
  (¬((E.B F (.fn 137 (.pr a0 (.pr a1 (.pr a2 (.pr a3 (.pr a4 (.pr a5 (.pr a6 (.pr a7 a8)))))))))=true)/\
   (E.I F i=0\/E.I F (.fn 1 (.pr (.fn 1 (.pr X (.int 0))) (.fn 6 (.pr (.fn 8 (.pr t (.int 12))) (.int 0)))))<E.I F a0)/\E.I F (.fn 122 (.pr X (.pr a2 a0)))=1)->¬E.B F (.fn 125 X)=true):=by
 rw[cm]
 exact ayu h e0 e1 e2 e3 e4 e5 e6 e7 e8 h0 hi hn ht
theorem ak8{v:E}(hs:E.B F (.fn 123 (.pr X (.fn 9 (.pr (.fn 1 (.pr X (.int 29))) (.int 5)))))=true)(h:E.B F (.fn 124 (.pr X i))=true)(hi:E.I F (.fn 9 (.pr (.fn 1 (.pr X (.int 0))) (.int 12)))=E.I F i)
  (hv:E.I F v=E.I F (.fn 134 (.pr X (.int 8)))+E.I F (.fn 135 (.pr X (.fn 9 (.pr (.fn 1 (.pr X (.int 29))) (.int 5)))))):E.I F v=E.I F (.fn 9 (.pr (.fn 1 (.pr X (.int 0))) (.int 12)))↔E.B F (.fn 125 X)=true:=by
 have e9:E.I F (.fn 9 (.pr (.fn 1 (.pr X (.int 0))) (.int 12)))=bQ (X.den F):=rfl;have es:(E.I F (.fn 9 (.pr (.fn 1 (.pr X (.int 29))) (.int 5)))).toNat=cN (X.den F):=rfl;have e8:E.I F (.fn 134 (.pr X (.int 8)))=((List.range 8).map fun z=>(ba (X.den F) z).length).sum:=rfl
 rw[GU,es]at hs
 grind[JG,BH,F8,Ej,sd]
/-! fights -/
theorem FQ:(E.B F (.fn 126 (.pr X n))=true)=(pR (X.den F) (E.I F n).toNat=true):=rfl
theorem R3:(E.B F (.fn 127 (.pr X n))=true)=(tU (X.den F) (E.I F n).toNat=true):=rfl
theorem aaE:(E.B F (.fn 128 (.pr X (.pr j n)))=true)=(ue (X.den F) (E.I F j).toNat (E.I F n).toNat=true):=rfl
theorem CS:(E.B F (.fn 129 X)=true)=(nj (X.den F)=true):=rfl
theorem Vk:(E.B F (.fn 136 (.pr X j))=true)=((bj (X.den F)).count (blk (X.den F) (E.I F j).toNat 1)=1/\(fy (X.den F)).count (blk (X.den F) (E.I F j).toNat 0)=1):=by
 show(((bj (X.den F)).count (blk (X.den F) (E.I F j).toNat 1)==1&&(fy (X.den F)).count (blk (X.den F) (E.I F j).toNat 0)==1)=true)=_
 simp_all
theorem aBe(h:E.B F (.fn 126 (.pr X i))=true)(e:E.I F n=E.I F i):E.B F (.fn 126 (.pr X n))=true:=by
 simp_all[FQ]
theorem tq(h:E.I F (.fn 1 (.pr X (.int 34)))=0):fX (X.den F)=aG F (.fn 1 (.pr X (.int 8)))/\fy (X.den F)=aG F (.fn 1 (.pr X (.int 22))):=by
 have e:iX (X.den F) 34=0:=h;unfold fX fy d4
 rw[e];exact⟨rfl,rfl⟩
theorem uA(h:E.I F (.fn 1 (.pr X (.int 34)))=1):fX (X.den F)=aG F (.fn 1 (.pr X (.int 22)))/\fy (X.den F)=aG F (.fn 1 (.pr X (.int 8))):=by
 have e:iX (X.den F) 34=1:=h;unfold fX fy d4
 rw[e];exact⟨rfl,rfl⟩
theorem th(h:E.B F (.fn 126 (.pr X i))=true){a:E}(ea:a=.fn 1 (.pr (.fn 1 (.pr X (.int 31))) i))(hL:fX (X.den F)=aG F L)(h0:0<=E.I F i)(hi:E.I F i<E.I F (.fn 0 (.fn 1 (.pr X (.int 31)))))(hn:E.I F n=E.I F i+1):
  ((E.I F (.fn 121 (.pr (.fn 1 (.pr X (.int 31))) a))=1/\E.I F (.fn 121 (.pr L a))=1)->E.B F (.fn 126 (.pr X n))=true)/\
  (¬(E.I F (.fn 121 (.pr (.fn 1 (.pr X (.int 31))) a))=1/\E.I F (.fn 121 (.pr L a))=1)->¬E.B F (.fn 129 X)=true):=by
 subst ea
 rw[<- tc]at hi
 have ea:aG F (.fn 1 (.pr X (.int 31)))=bj (X.den F):=rfl;have e1:E.I F (.fn 1 (.pr (.fn 1 (.pr X (.int 31))) i))=nI (cX (X.den F) 31).toL (E.I F i).toNat:=rfl
 rw[jt,jt,ea,<- hL,e1]
 grind[FQ,ZR,CS,wO]
theorem uM{t b:E}(et:t=.fn 1 (.pr (.fn 1 (.pr X (.int 32))) (.fn 6 (.pr (.fn 8 (.pr j (.int 2))) (.int 1)))))(eb:b=.fn 1 (.pr (.fn 1 (.pr X (.int 32))) (.fn 6 (.pr (.fn 8 (.pr j (.int 2))) (.int 0)))))
  (hL:fy (X.den F)=aG F L)(h0:0<=E.I F j)(hi:E.I F j<E.I F (.fn 9 (.pr (.fn 1 (.pr X (.int 32))) (.int 2)))):
  ((E.I F (.fn 121 (.pr (.fn 1 (.pr X (.int 31))) t))=1/\E.I F (.fn 121 (.pr L b))=1)->E.B F (.fn 136 (.pr X j))=true)/\
  (¬(E.I F (.fn 121 (.pr (.fn 1 (.pr X (.int 31))) t))=1/\E.I F (.fn 121 (.pr L b))=1)->¬E.B F (.fn 129 X)=true):=by
 rw[<- sk]at hi
 have ea:aG F (.fn 1 (.pr X (.int 31)))=bj (X.den F):=rfl;have b0:=pE (X:=X) h0 0;have b1:=pE (X:=X) h0 1;grind[jt,Vk,CS,wO,xl]
theorem HF(h:E.B F (.fn 128 (.pr X (.pr j k)))=true){t b u w:E}(et:t=.fn 1 (.pr (.fn 1 (.pr X (.int 32))) (.fn 6 (.pr (.fn 8 (.pr j (.int 2))) (.int 1)))))(eb:b=.fn 1 (.pr (.fn 1 (.pr X (.int 32))) (.fn 6 (.pr (.fn 8 (.pr j (.int 2))) (.int 0)))))
  (eu:u=.fn 1 (.pr (.fn 1 (.pr X (.int 32))) (.fn 6 (.pr (.fn 8 (.pr k (.int 2))) (.int 1)))))(ew:w=.fn 1 (.pr (.fn 1 (.pr X (.int 32))) (.fn 6 (.pr (.fn 8 (.pr k (.int 2))) (.int 0)))))
  (h0:0<=E.I F j)(hi:E.I F j<E.I F (.fn 9 (.pr (.fn 1 (.pr X (.int 32))) (.int 2))))(hk:0<=E.I F k)(hkj:E.I F k<E.I F j)(hn:E.I F n=E.I F k+1):
  ((¬E.I F u=E.I F t/\¬E.I F w=E.I F b)->E.B F (.fn 128 (.pr X (.pr j n)))=true)/\(¬(¬E.I F u=E.I F t/\¬E.I F w=E.I F b)->¬E.B F (.fn 129 X)=true):=by
 rw[<- sk]at hi
 have b0:=pE (X:=X) h0 0;have b1:=pE (X:=X) h0 1;have d0:=pE (X:=X) hk 0;have d1:=pE (X:=X) hk 1
 refine⟨fun hc=>?_,fun hc hf=>hc ?_⟩
 ·grind[aaE,DR]
 grind[CS,wO,xl,DR]
theorem aF7(h:E.B F (.fn 127 (.pr X j))=true)(h1:E.B F (.fn 136 (.pr X j))=true)(h2:E.B F (.fn 128 (.pr X (.pr j k)))=true)(h0:0<=E.I F j)(hk:E.I F k=E.I F j)(hn:E.I F n=E.I F j+1):E.B F (.fn 127 (.pr X n))=true:=by
 grind[R3,xl,Vk,aaE]
theorem ahI(h:E.B F (.fn 126 (.pr X (.fn 0 (.fn 1 (.pr X (.int 31))))))=true)(hb:E.B F (.fn 127 (.pr X j))=true)(h1:E.I F (.fn 9 (.pr (.fn 1 (.pr X (.int 32))) (.int 2)))=E.I F j):E.B F (.fn 129 X)=true:=by
 have el:(E.I F (.fn 0 (.fn 1 (.pr X (.int 31))))).toNat=(bj (X.den F)).length:=by grind[tc]
 grind[FQ,R3,sk,CS,wO]
end
end Go.SX

set_option linter.unusedVariables false
set_option linter.unusedSimpArgs false
namespace Go.SX
/-! ### both ways say the same -/
theorem Vj{G:Type}[DecidableEq G]:∀(l1 l2:List G),l1.Nodup->(∀x∈l1,x∈l2)->l2.length<=l1.length->l1.Perm l2
 |[],l2,_,_,h=>by
  simp_all
 |x::l1,l2,hn,hs,hl=>by
  have hx:=hs x (by simp);have hn':=List.nodup_cons.1 hn;have hp:=List.perm_cons_erase hx;refine List.Perm.trans ?_ hp.symm;refine List.Perm.cons x (Vj l1 _ hn'.2 ?_ ?_);all_goals grind
theorem aoO(l:List Int)(c k p:Int):(l.map fun i=>(i,c)).count (k,p)=if c=p then l.count k else 0:=by
 induction l with
 |nil=>simp
 |cons x l ih=>
  grind
theorem an3(X:U)(k:Int)(p:Nat)(hp:p<2):(kx X 8).count (k,(p:Int))=mY X p 4 k:=by
 unfold kx mY;have er:List.range 8=[0,1,2,3,4,5,6,7]:=rfl;have er4:List.range 4=[0,1,2,3]:=rfl
 rw[er,er4]
 simp only[List.flatMap_cons,List.flatMap_nil,List.count_append,aoO];grind
theorem XZ(X:U)(k p:Int):∀s,(∀i,i<s->-1<=nI (cX X 29).toL (i*5+3))->(iu X s).count (k,p)=nz X p k s
 |0,_=>by rfl
 |s+1,h=>by
  have ih:=XZ X k p s (fun i hi=>h i (by omega));have e:nz X p k (s+1)=nz X p k s+if(nI (cX X 29).toL (s*5+3) == -1&&nI (cX X 29).toL (s*5+1)==k&&nI (cX X 29).toL (s*5)==p)=true then 1 else 0:=by
   grind[nz,List.range_succ]
  grind[QO]
theorem YL(X:U):fh X 8 0=kx X 8:=by simp[fh]
theorem SE(X:U)(k:Int)(p:Nat)(hp:p<2)(h:∀i,i<cN X->-1<=nI (cX X 29).toL (i*5+3)):(di X).count (k,(p:Int))=mj X p k:=by
 simp_all[di,mj,YL,an3,XZ]
theorem adz(X:U):∀k,(kx X k).length=((List.range k).map fun z=>(ba X z).length).sum
 |0=>rfl
 |k+1=>by
  rw[Dl,List.length_append,List.length_map,adz X k,List.range_succ,List.map_append,List.sum_append];simp
theorem apj(X:U):(di X).length=sd X:=by
 simp_all[di,sd,YL,adz,iu]
def oP(X:U):List (Int×Int):=(List.range (bQ X)).map fun i=>(oI X i 0,oI X i 2)
theorem Zm(X:U):(oP X).map Prod.fst=lX X:=by simp_all[oP,lX]
theorem aar{l:List (Int×Int)}(h:(l.map Prod.fst).Nodup):l.Nodup:=by
 rw[List.nodup_iff_pairwise_ne]at *
 rw[List.pairwise_map]at h
 exact h.imp fun hab e=>hab (by rw[e])
theorem ab7{X:U}{k:Int}{n:Nat}(h:0<=ep X k n):(ep X k n).toNat<n/\oI X (ep X k n).toNat 0=k:=by
 grind[ep]
theorem apq{X:U}{k:Int}{n i:Nat}(hi:i<n)(h:oI X i 0=k):0<=ep X k n:=by
 grind[ep]
theorem aqz{X:U}(h:(lX X).Nodup){i j:Nat}(hi:i<bQ X)(hj:j<bQ X)(e:oI X i 0=oI X j 0):i=j:=by
 grind[lX,List.pairwise_iff_getElem]
theorem T6{X:U}{k c:Int}{s:Nat}:(k,c)∈gF X s↔∃i,i<s/\nI (cX X 29).toL (i*5+3)<0/\nI (cX X 29).toL (i*5+1)=k/\nI (cX X 29).toL (i*5+2)=c:=by
 grind[gF,gS]
theorem Wc{X:U}(hst:∀i,i<cN X->-1<=nI (cX X 29).toL (i*5+3)):eh X=true↔nW X=true:=by
 rw[Ej,<- apj]
 unfold eh;simp only[Bool.and_eq_true,px,beq_iff_eq];constructor
 ·rintro⟨⟨hn,ho⟩,hl⟩
  rw[uY]at ho
  have hin:=I3 fun i hi=>(ho i hi).2.1
  have hs:=Qf (l1:=lX X) (l2:=(di X).map Prod.fst) hin (by
   intro x hx
   obtain⟨i,hi,rfl⟩:=List.mem_map.1 hx
   exact List.mem_map_of_mem (f:=Prod.fst) (A3 (ho i (List.mem_range.1 hi)).2.2.1)) (by simp[lX,hl])
  refine⟨?_,?_,hl⟩
  ·rw[Az]
   intro i hi ht;have hc:(nI (cX X 29).toL (i*5+1),nI (cX X 29).toL (i*5+2))∈gF X (cN X):=T6.2 ⟨i,hi,ht,rfl,rfl⟩;have hid:nI (cX X 29).toL (i*5+1)∈(di X).map Prod.fst:=by
    grind[di,HA]
   obtain⟨q,hq,he⟩:=List.mem_map.1 (hs _ hid)
   have hq:=List.mem_range.1 hq;have h0:=apq hq he;have h1:=ab7 h0
   refine⟨h0,?_⟩
   have hnc:((gF X (cN X)).map Prod.fst).Nodup:=by
    simp_all[HA,di,List.map_append,List.nodup_append]
   exact((ho _ h1.1).2.2.2 _ (by grind[I1])).symm
  ·rw[xL]
   intro i hi;have h:=ho i hi
   refine⟨h.1,h.2.1,?_⟩
   have hown:=(sR X i).1 h.1;have hm:=A3 h.2.2.1;have e:((oI X i 2).toNat:Int)=oI X i 2:=Int.toNat_of_nonneg (by omega)
   rw[<- SE X _ _ (by omega) hst,e]
   have h1:0<(di X).count (oI X i 0,oI X i 2):=List.count_pos_iff.2 hm;have h2:=List.nodup_iff_count.1 (aar hn) (oI X i 0,oI X i 2);omega
 ·rintro⟨hs,ho,hl⟩
  rw[xL]at ho
  rw[Az]at hs
  have hin:=I3 fun i hi=>(ho i hi).2.1
  have hmem:∀i,i<bQ X->(oI X i 0,oI X i 2)∈di X:=by
   intro i hi;have h:=ho i hi;have hown:=(sR X i).1 h.1;have e:((oI X i 2).toNat:Int)=oI X i 2:=Int.toNat_of_nonneg (by omega);have h1:=h.2.2
   rw[<- SE X _ _ (by omega) hst,e]at h1
   grind
  have hp:(oP X).Perm (di X):=Vj (oP X) (di X) (aar (by simp_all[Zm])) (by
   intro x hx
   obtain⟨i,hi,rfl⟩:=List.mem_map.1 hx
   simp_all) (by simp_all[oP])
  have hn:((di X).map Prod.fst).Nodup:=by
   have:=(hp.map Prod.fst).nodup_iff.1 (by simp_all[Zm])
   omega
  refine⟨⟨hn,?_⟩,hl⟩
  rw[uY]
  intro i hi;have h:=ho i hi
  refine⟨h.1,h.2.1,I1 hn (hmem i hi),?_⟩
  intro c hc
  obtain⟨s,h1,h2,h3,h4⟩:=T6.1 (A3 hc)
  have:=hs s h1 h2
  rw[h3]at this
  have h5:=ab7 this.1;grind[aqz]
theorem XY{X:U}(h:eh X=true)(k:Nat)(hk:k<8):(ba X k).Nodup:=by
 unfold eh at h;simp only[Bool.and_eq_true,px]at h
 obtain⟨r,hr⟩:=Gs X k (ba X k).length hk
 grind[fh]
theorem CP{l:List Int}(h:l.Nodup)(a:Int):l.count a=1↔a∈l:=by
 grind
theorem acp(X:U)(i:Nat):nI (cX X 31).toL i=(bj X).getD i 0:=KO _ _
theorem NF{X:U}(h:eh X=true)(ha:d4 X<=1):iq X=true↔nj X=true:=by
 have ho:=XY h (4*d4 X+2) (by omega);have hq:=XY h (4*(1-d4 X)+2) (by omega);have e1:fX X=ba X (4*d4 X+2):=rfl;have e2:fy X=ba X (4*(1-d4 X)+2):=rfl
 rw[<- e1]at ho
 rw[<- e2]at hq
 have hA:jT X (bj X).length=true↔pR X (bj X).length=true:=by
  rw[qV,ZR,List.take_length]
  constructor
  ·simp_all[bj,List.getD_eq_getElem?_getD,List.getElem?_eq_getElem,List.getElem_mem,acp,CP]
  ·intro hc;have hc':∀a∈bj X,(bj X).count a=1/\(fX X).count a=1:=by
    intro a hm
    obtain⟨i,hi,rfl⟩:=List.getElem_of_mem hm
    simp_all[acp,List.getD_eq_getElem?_getD,List.getElem?_eq_getElem]
   grind
 rw[wJ,wO,hA]
 constructor
 ·rintro⟨h1,h2⟩
  refine⟨h1,?_⟩
  have hn:=((qV X _).1 (hA.2 h1)).1
  rw[List.take_length]at hn
  rw[vF]at h2
  rw[xl]
  grind[CP,DR,dv,List.pairwise_iff_getElem]
 ·rintro⟨h1,h2⟩
  refine⟨h1,?_⟩
  have hn:=((qV X _).1 (hA.2 h1)).1
  rw[List.take_length]at hn
  rw[xl]at h2
  rw[vF]
  simp_all[CP,dv,List.nodup_iff_pairwise_ne,List.pairwise_map,List.pairwise_iff_getElem,List.getElem_range,DR]
theorem azL(X:U):sM X=kf X:=by
 rw[Bool.eq_iff_iff]
 unfold sM kf;simp only[Bool.and_eq_true];constructor
 ·rintro⟨⟨⟨⟨⟨hn,h0⟩,h1⟩,hi⟩,hp⟩,hf⟩
  have hst:∀i,i<cN X->-1<=nI (cX X 29).toL (i*5+3):=by
   simp_all[o8,xA,mg,gv]
  have ha:d4 X<=1:=by
   simp_all[oJ,gv,d4]
  simp_all[Wc,NF]
 ·rintro⟨⟨⟨⟨⟨hn,h0⟩,h1⟩,hi⟩,hp⟩,hf⟩
  have hst:∀i,i<cN X->-1<=nI (cX X 29).toL (i*5+3):=by
   simp_all[o8,xA,mg,gv]
  have ha:d4 X<=1:=by
   simp_all[oJ,gv,d4]
  simp_all[Wc,NF]
theorem ZC{F:Env}{X:E}:(E.B F (.fn 115 X)=true)↔(E.B F (.fn 130 X)=true):=by
 show(sM _=true)↔(kf _=true)
 rw[azL]
end Go.SX

set_option linter.unusedVariables false
set_option linter.unusedSimpArgs false
namespace Go.SX
/-! ### what is paid from -/
section
variable {F:Env} {x y l A a b k u i j p q n m r o c d w v X T N L e t C:E}
theorem ky:(E.B F (.fn 145 (.pr X p))=true)=(0<=E.I F p/\E.I F p<=1/\E.B F (.fn 130 X)=true):=by
 show(jE _ _=true)=_
 unfold jE
 rw[Bool.and_eq_true,gv,and_assoc];rfl
theorem bP{a0 a1 a2 a3 a4:E}:(E.B F (.fn 146 (.pr a0 (.pr a1 (.pr a2 (.pr a3 a4)))))=true)=(0<=E.I F a0/\E.I F a0<=20/\0<=E.I F a1/\E.I F a1<=20/\0<=E.I F a2/\E.I F a2<=20/\0<=E.I F a3/\E.I F a3<=20/\0<=E.I F a4/\E.I F a4<=20):=by
 show(([0,1,2,3].all _&&cp 0 _ 20)=true)=_
 simp only[List.all_cons,List.all_nil,Bool.and_eq_true,gv,and_assoc,and_true];rfl
/-! triggers and effects -/
theorem Xm(l:List U)(n:Nat):tE l n=true↔∀i,i<n->(l.getD (i*2+1) (.int 0)).toL.length/5<=5:=by
 simp_all[tE]
theorem anV(l:List U)(n:Nat):zz l n=true↔∀i,i<n->uO (l.getD (i*14+11) (.int 0)).toL (l.getD (i*14+12) (.int 0)).toL=true:=by
 grind[zz]
theorem asF:(E.B F (.fn 155 (.pr C n))=true)=(zz (E.L F C) (E.I F n).toNat=true):=rfl
theorem sU:(E.B F (.fn 156 (.pr e t))=true)=(E.I F (.fn 9 (.pr e (.int 5)))<=5/\E.I F (.fn 9 (.pr t (.int 2)))<=3/\E.B F (.fn 157 (.pr t (.fn 9 (.pr t (.int 2)))))=true):=by
 have h1:E.I F (.fn 9 (.pr e (.int 5)))=(E.L F e).length/5:=rfl;have h2:E.I F (.fn 9 (.pr t (.int 2)))=(E.L F t).length/2:=rfl;have h3:(E.B F (.fn 157 (.pr t (.fn 9 (.pr t (.int 2)))))=true)=(tE (E.L F t) ((E.L F t).length/2)=true):=rfl
 show(uO (E.L F e) (E.L F t)=true)=_
 grind[uO]
theorem Ge:(E.B F (.fn 157 (.pr t n))=true)=(tE (E.L F t) (E.I F n).toNat=true):=rfl
theorem acw(h:E.B F (.fn 157 (.pr t n))=true)(h0:0<=E.I F i)(h1:E.I F i<E.I F n):E.I F (.fn 9 (.pr (.fn 1 (.pr t (.fn 6 (.pr (.fn 8 (.pr i (.int 2))) (.int 1))))) (.int 5)))<=5:=by
 rw[Ge,Xm]at h
 have e:=AM (F:=F) (T:=t) i 2 1 h0;have h2:E.I F (.fn 9 (.pr (.fn 1 _) (.int 5)))=(E.L F (.fn 1 (.pr t (.fn 6 (.pr (.fn 8 (.pr i (.int 2))) (.int 1)))))).length/5:=rfl;grind
theorem azz(h0:0<=E.I F i):(E.B F (.fn 156 (.pr (.fn 1 (.pr C (.fn 6 (.pr (.fn 8 (.pr i (.int 14))) (.int 11))))) (.fn 1 (.pr C (.fn 6 (.pr (.fn 8 (.pr i (.int 14))) (.int 12)))))))=true)=
  (uO ((E.L F C).getD ((E.I F i).toNat*14+11) (.int 0)).toL ((E.L F C).getD ((E.I F i).toNat*14+12) (.int 0)).toL=true):=by
 have e:=AM (F:=F) (T:=C) i 14 11 h0;have e2:=AM (F:=F) (T:=C) i 14 12 h0
 rw[<- e,<- e2];rfl
theorem aoz(h:E.B F (.fn 155 (.pr C n))=true)(h0:0<=E.I F i)(h1:E.I F i<E.I F n):E.B F (.fn 156 (.pr (.fn 1 (.pr C (.fn 6 (.pr (.fn 8 (.pr i (.int 14))) (.int 11))))) (.fn 1 (.pr C (.fn 6 (.pr (.fn 8 (.pr i (.int 14))) (.int 12)))))))=true:=by
 grind[asF,anV,azz]
end
end Go.SX

set_option linter.unusedVariables false
set_option linter.unusedSimpArgs false
namespace Go.SX
section
variable {F:Env} {x y l A a b k u i j p q n m r o c d w v X T N L e t C z:E}
theorem Vr(h:E.B F (.fn 157 (.pr t n))=true)(h0:0<=E.I F i)(hb:E.I F (.fn 9 (.pr v (.int 5)))<=5):E.B F (.fn 157 (.pr (.fn 2 (.pr t (.pr (.fn 6 (.pr (.fn 8 (.pr i (.int 2))) (.int 1))) v))) n))=true:=by
 have hv:E.I F (.fn 9 (.pr v (.int 5)))=(E.L F v).length/5:=rfl
 rw[Ge,Xm]at *
 have e:E.L F (.fn 2 (.pr t (.pr (.fn 6 (.pr (.fn 8 (.pr i (.int 2))) (.int 1))) v)))=(E.L F t).set _ (v.den F):=rfl;grind[E.L]
theorem OR(h:E.B F (.fn 157 (.pr t i))=true)(e:E.I F n=E.I F i):E.B F (.fn 157 (.pr t n))=true:=by
 simp_all[Ge]
theorem avG(w:Int):E.I F (.fn 9 (.pr (.fn 30 a) (.int w)))=0:=by
 show(0/w.toNat:Int)=0
 simp
theorem apU:E.I F (.fn 9 (.pr (.fn 28 (.pr a l)) (.int 5)))=E.I F (.fn 9 (.pr l (.int 5))):=rfl
theorem FV:E.I F (.fn 141 (.pr C c))=dz (E.L F C) (E.I F c) 1:=rfl
theorem Fz:E.I F (.fn 142 (.pr C c))=dz (E.L F C) (E.I F c) 7:=rfl
theorem E0(h:E.I F c<0\/E.I F (.fn 9 (.pr C (.int 14)))<=E.I F c):E.I F (.fn 141 (.pr C c))=0/\E.I F (.fn 142 (.pr C c))=0:=by
 have hc:E.I F (.fn 9 (.pr C (.int 14)))=(E.L F C).length/14:=rfl;grind[FV,Fz,dz]
theorem acl(h0:0<=E.I F c)(h1:E.I F c<E.I F (.fn 9 (.pr C (.int 14)))):E.I F (.fn 141 (.pr C c))=E.I F (.fn 1 (.pr C (.fn 6 (.pr (.fn 8 (.pr c (.int 14))) (.int 1)))))/\E.I F (.fn 142 (.pr C c))=E.I F (.fn 1 (.pr C (.fn 6 (.pr (.fn 8 (.pr c (.int 14))) (.int 7))))):=by
 have e1:=l5 (F:=F) (T:=C) c 14 1 h0;have e7:=l5 (F:=F) (T:=C) c 14 7 h0;have k1:(Int.ofNat 1)=1:=rfl;have k7:(Int.ofNat 7)=7:=rfl;have k14:(Int.ofNat 14)=14:=rfl
 rw[k1,k14]at e1
 rw[k7,k14]at e7
 rw[FV,Fz,e1,e7]
 unfold dz
 rw[if_pos ⟨h0,h1⟩,if_pos ⟨h0,h1⟩];exact⟨rfl,rfl⟩
/-! small boards -/
theorem anP:(E.B F (.fn 158 (.pr l n))=true)=(ov (E.L F l) (E.I F n).toNat=true):=rfl
theorem E4:(E.B F (.fn 117 X)=true)=(E.B F (.fn 159 X)=true/\E.I F (.fn 9 (.pr (.fn 1 (.pr X (.int 29))) (.int 5)))<=20/\E.I F (.fn 9 (.pr (.fn 1 (.pr X (.int 30))) (.int 5)))<=20/\
  E.B F (.fn 158 (.pr (.fn 1 (.pr X (.int 29))) (.fn 9 (.pr (.fn 1 (.pr X (.int 29))) (.int 5)))))=true/\E.B F (.fn 158 (.pr (.fn 1 (.pr X (.int 30))) (.fn 9 (.pr (.fn 1 (.pr X (.int 30))) (.int 5)))))=true/\
  E.I F (.fn 9 (.pr (.fn 1 (.pr X (.int 0))) (.int 12)))<=30/\E.I F (.fn 0 (.fn 1 (.pr X (.int 31))))<=30/\E.I F (.fn 9 (.pr (.fn 1 (.pr X (.int 32))) (.int 2)))<=30):=by
 have a:(E.B F (.fn 159 X)=true)=((List.range 8).all (fun z=>decide ((ba _ z).length<=40))=true):=rfl;have b:(E.B F (.fn 158 (.pr (.fn 1 (.pr X (.int 29))) (.fn 9 (.pr (.fn 1 (.pr X (.int 29))) (.int 5)))))=true)=(ov (cX (X.den F) 29).toL (cN (X.den F))=true):=rfl;have c:(E.B F (.fn 158 (.pr (.fn 1 (.pr X (.int 30))) (.fn 9 (.pr (.fn 1 (.pr X (.int 30))) (.int 5)))))=true)=(ov (cX (X.den F) 30).toL ((cX (X.den F) 30).toL.length/5)=true):=rfl;have d:E.I F (.fn 9 (.pr (.fn 1 (.pr X (.int 29))) (.int 5)))=cN (X.den F):=rfl;have e:E.I F (.fn 9 (.pr (.fn 1 (.pr X (.int 30))) (.int 5)))=(cX (X.den F) 30).toL.length/5:=rfl;have f:E.I F (.fn 9 (.pr (.fn 1 (.pr X (.int 0))) (.int 12)))=bQ (X.den F):=rfl
 rw[a,b,c,d,e,f,<- tc,<- sk]
 show(nR _=true)=_
 grind[nR]
end
end Go.SX

set_option linter.unusedVariables false
set_option linter.unusedSimpArgs false
namespace Go.SX
/-! ### the sources of a player: the program's -/
def Bs(l:List U)(X:U)(p:Int)(i:Nat):Bool:=
 oI X i 2==p && !((cX X 0).toL.getD (i*12+9) (.bool false)).toB&&dz l (oI X i 1) 1==1&&decide (0<=dz l (oI X i 1) 7)&&decide (dz l (oI X i 1) 7<4)&&(ba X (4*p.toNat+2)).contains (oI X i 0)
theorem Na(l:List U)(X:U)(p:Int)(n:Nat):iM l X p (n+1)=iM l X p n++if Bs l X p n then [oI X n 0,dz l (oI X n 1) 7] else []:=by
 unfold iM
 rw[List.range_succ,List.flatMap_append]
 simp only[List.flatMap_cons,List.flatMap_nil,List.append_nil];rfl
theorem as5(l:List U)(n:Nat):(l.getD n (.bool false)).toB=(l.getD n (.int 0)).toB:=by
 rw[List.getD_eq_getElem?_getD,List.getD_eq_getElem?_getD]
 cases l[n]? <;> rfl
section
variable {F:Env} {x y l A a b k u i j p q n m r o c d w v X T N L e t C z:E}
theorem vN:aG F (.fn 3 (.pr x y))=aG F x++aG F y:=by
 show(E.L F x++E.L F y).map _=_
 rw[List.map_append];rfl
theorem aqr:aG F (.fn 23 (.pr a l))=E.I F a::aG F l:=rfl
theorem auj:aG F (.fn 10 a)=[]:=rfl
theorem Fo:(E.B F (.fn 143 (.pr x (.pr C (.pr X (.pr p n)))))=true)=(aG F x=iM (E.L F C) (X.den F) (E.I F p) (E.I F n).toNat):=by
 show((bi _==iM _ _ _ _)=true)=_
 rw[beq_iff_eq];rfl
theorem Xn(h:E.B F (.fn 143 (.pr x (.pr C (.pr X (.pr p i)))))=true)(e:E.I F n=E.I F i):E.B F (.fn 143 (.pr x (.pr C (.pr X (.pr p n)))))=true:=by
 simp_all[Fo]
theorem iw(h:E.I F p=0):aG F (.fn 1 (.pr X (.int 8)))=ba (X.den F) (4*(E.I F p).toNat+2):=by rw[h];rfl
theorem h9(h:E.I F p=1):aG F (.fn 1 (.pr X (.int 22)))=ba (X.den F) (4*(E.I F p).toNat+2):=by rw[h];rfl
theorem dF(h:E.B F (.fn 143 (.pr x (.pr C (.pr X (.pr p i)))))=true){id cd ow tp v:E}(e0:id=.fn 1 (.pr (.fn 1 (.pr X (.int 0))) (.fn 6 (.pr (.fn 8 (.pr i (.int 12))) (.int 0)))))
  (e1:cd=.fn 1 (.pr (.fn 1 (.pr X (.int 0))) (.fn 6 (.pr (.fn 8 (.pr i (.int 12))) (.int 1)))))(e2:ow=.fn 1 (.pr (.fn 1 (.pr X (.int 0))) (.fn 6 (.pr (.fn 8 (.pr i (.int 12))) (.int 2)))))
  (e9:tp=.fn 1 (.pr (.fn 1 (.pr X (.int 0))) (.fn 6 (.pr (.fn 8 (.pr i (.int 12))) (.int 9)))))(hL:aG F L=ba (X.den F) (4*(E.I F p).toNat+2))(h0:0<=E.I F i)(hn:E.I F n=E.I F i+1)(hv:E.I F v=E.I F (.fn 142 (.pr C cd))):
  (¬(E.I F ow=E.I F p/\¬E.B F tp=true/\E.I F (.fn 141 (.pr C cd))=1/\0<=E.I F v/\E.I F v<4/\E.B F (.fn 114 (.pr L id))=true)->E.B F (.fn 143 (.pr x (.pr C (.pr X (.pr p n)))))=true)/\
  ((E.I F ow=E.I F p/\¬E.B F tp=true/\E.I F (.fn 141 (.pr C cd))=1/\0<=E.I F v/\E.I F v<4/\E.B F (.fn 114 (.pr L id))=true)->
   E.B F (.fn 143 (.pr (.fn 3 (.pr x (.fn 23 (.pr id (.fn 23 (.pr v (.fn 10 (.int 0)))))))) (.pr C (.pr X (.pr p n)))))=true/\(aG F x=[]->E.B F (.fn 143 (.pr (.fn 23 (.pr id (.fn 23 (.pr v (.fn 10 (.int 0)))))) (.pr C (.pr X (.pr p n)))))=true)):=by
 have c0:=fO (X:=X) h0 0;have c1:=fO (X:=X) h0 1;have c2:=fO (X:=X) h0 2;have c9:E.B F (.fn 1 (.pr (.fn 1 (.pr X (.int 0))) (.fn 6 (.pr (.fn 8 (.pr i (.int 12))) (.int 9)))))=((cX (X.den F) 0).toL.getD ((E.I F i).toNat*12+9) (.bool false)).toB:=by
  rw[as5]
  have e:(E.I F i*12+9).toNat=(E.I F i).toNat*12+9:=by omega
  show((cX (X.den F) 0).toL.getD (E.I F i*12+9).toNat _).toB=_
  rw[e]
 have en:(E.I F n).toNat=(E.I F i).toNat+1:=by omega
 have hc:Bs (E.L F C) (X.den F) (E.I F p) (E.I F i).toNat=true↔(E.I F (.fn 1 (.pr (.fn 1 (.pr X (.int 0))) (.fn 6 (.pr (.fn 8 (.pr i (.int 12))) (.int 2)))))=E.I F p/\¬E.B F (.fn 1 (.pr (.fn 1 (.pr X (.int 0))) (.fn 6 (.pr (.fn 8 (.pr i (.int 12))) (.int 9)))))=true/\
   E.I F (.fn 141 (.pr C (.fn 1 (.pr (.fn 1 (.pr X (.int 0))) (.fn 6 (.pr (.fn 8 (.pr i (.int 12))) (.int 1)))))))=1/\0<=E.I F v/\E.I F v<4/\E.B F (.fn 114 (.pr L (.fn 1 (.pr (.fn 1 (.pr X (.int 0))) (.fn 6 (.pr (.fn 8 (.pr i (.int 12))) (.int 0)))))))=true):=by
  grind[uc,FV,Fz,Bs]
 have hs:=Na (E.L F C) (X.den F) (E.I F p) (E.I F i).toNat;all_goals simp_all[Fo,vN,aqr,auj,Fz]
end
end Go.SX

set_option linter.unusedVariables false
set_option linter.unusedSimpArgs false
namespace Go.SX
section
variable {F:Env} {x y l A a b k u i j p q n m r o c d w v X T N L e t C z s:E}
/-! the reference's: what an object makes -/
end
end Go.SX

set_option linter.unusedVariables false
set_option linter.unusedSimpArgs false
namespace Go.SX
theorem ab0:∀(l r:List Int),l.length%2=0->cn (l++r)=cn l++cn r
 |[],r,_=>rfl
 |[_],r,h=>by simp at h
 |a::b::l,r,h=>by
  show b::cn (l++r)=b::(cn l++cn r)
  rw[ab0 l r (by grind)]
theorem Hn(l:List U)(X:U)(p:Int):∀n,(iM l X p n).length%2=0
 |0=>rfl
 |n+1=>by
  rw[Na,List.length_append]
  have:=Hn l X p n
  grind
section
variable {F:Env} {x y l A a b k u i j p q n m r o c d w v X T N L e t C z s m0 m1 m2 m3:E}
end
end Go.SX

set_option linter.unusedVariables false
set_option linter.unusedSimpArgs false
namespace Go.SX
/-! ### numbers in order -/
theorem VP(x:Int):∀l,(sH x l).Perm (x::l)
 |[]=>.refl _
 |y::l=>by
  unfold sH;split
  ·rfl
  ·exact((VP x l).cons y).trans (.swap x y l)
theorem acI:∀l,(gJ l).Perm l
 |[]=>.refl _
 |x::l=>(VP x _).trans ((acI l).cons x)
/-! ### the sources in order: both agree -/
section
variable {F:Env} {x y l A a b k u i j p q n m r o c d w v X T N L e t C z s m0 m1 m2 m3:E}
theorem wn(F:Env)(a:E):0<=E.I F (.fn 9 a):=Int.natCast_nonneg _
/-! numbers in order -/
theorem ZO:aG F (.fn 4 (.pr l (.pr a b)))=((aG F l).take (E.I F b).toNat).drop (E.I F a).toNat:=by
 show(((E.L F l).take _).drop _).map _=_
 rw[List.map_drop,List.map_take];rfl
theorem akv(h0:0<=E.I F a)(h1:E.I F a<=E.I F b)(h2:E.I F b<=E.I F (.fn 0 l)):E.I F (.fn 0 (.fn 4 (.pr l (.pr a b))))=E.I F b-E.I F a:=by
 rw[<- dO]at *
 grind[ZO]
/-! equal lists -/
/-! the reference's sources -/
theorem xg:(E.B F (.fn 145 (.pr X p))=true)=(jE (X.den F) (E.I F p)=true):=rfl
/-! the law -/
end
end Go.SX

set_option linter.unusedVariables false
set_option linter.unusedSimpArgs false
namespace Go.SX
/-! ### values that are equal -/
mutual
theorem U.eq_rfl:∀u:U,U.eq u u=true
 |.int a=>by simp[U.eq]
 |.bool a=>by simp[U.eq]
 |.str a=>by simp[U.eq]
 |.lst l=>by exact U.eqs_rfl l
 |.bx _ _ _ l=>by exact U.eqs_rfl l
theorem U.eqs_rfl:∀l,U.eqs l l=true
 |[]=>rfl
 |x::xs=>by simp only[U.eqs,U.eq_rfl x,U.eqs_rfl xs,Bool.and_self]
end
theorem L4{a b:U}(h:U.eq a b=true):a.toI=b.toI:=by cases a<;>cases b<;>simp_all[U.eq,U.toI]
theorem QI{a b:U}(h:U.eq a b=true):a.toB=b.toB:=by cases a<;>cases b<;>simp_all[U.eq,U.toB]
theorem U5{a b:U}(h:U.eq a b=true):U.eqs a.toL b.toL=true:=by cases a<;>cases b<;>simp_all[U.eq,U.toL,U.eqs]
theorem lJ:∀ {l m:List U},U.eqs l m=true->l.length=m.length
 |[],[],_=>rfl
 |x::xs,y::ys,h=>by
  simp only[U.eqs,Bool.and_eq_true]at h;simp[lJ h.2]
theorem ww:∀ {l m:List U} (i:Nat),U.eqs l m=true->U.eq (l.getD i (.int 0)) (m.getD i (.int 0))=true
 |[],[],_,_=>by rfl
 |x::xs,y::ys,0,h=>by simp_all[U.eqs]
 |x::xs,y::ys,i+1,h=>by simp only[U.eqs,Bool.and_eq_true]at h;simpa using ww i h.2
theorem vC:∀ {l m a b:List U},U.eqs l m=true->U.eqs a b=true->U.eqs (l++a) (m++b)=true
 |[],[],_,_,_,h=>h
 |x::xs,y::ys,_,_,h,h'=>by
  simp only[U.eqs,Bool.and_eq_true,List.cons_append]at h ⊢
  exact⟨h.1,vC h.2 h'⟩
theorem ayT(l:List U)(n:Nat)(h:n<l.length):l.take (n+1)=l.take n++[l.getD n (.int 0)]:=by
 simp_all
theorem ao6(l:List U)(n:Nat)(h:n+5<=l.length):l.take (n+5)=l.take n++[l.getD n (.int 0),l.getD (n+1) (.int 0),l.getD (n+2) (.int 0),l.getD (n+3) (.int 0),l.getD (n+4) (.int 0)]:=by
 grind[ayT,List.append_assoc]
section
variable {F:Env} {x y l A a b k u i j p q n m r o c d w v X T N L e t C z s:E}
/-! whole dP of items -/
theorem MZ:(E.B F (.fn 187 (.pr a b))=true)=(oD (E.L F a) (E.L F b)=true):=rfl
theorem YK(l m:List U):oD l m=true↔l.length/5=m.length/5/\U.eqs (l.take (l.length/5*5)) (m.take (m.length/5*5))=true:=by
 simp_all[oD]
/-! as far as they are copied -/
theorem Gq:(E.B F (.fn 181 (.pr a (.pr b n)))=true)=(U.eqs ((E.L F a).take (E.I F n).toNat) ((E.L F b).take (E.I F n).toNat)=true):=rfl
end
end Go.SX

set_option linter.unusedVariables false
set_option linter.unusedSimpArgs false
namespace Go.SX
/-! ### paying, step by step -/
theorem Gv{f:Pu->Option Pu}{s:Pu}:∀ {n m:Nat},n<=m->dr f n s=none->dr f m s=none
 |n,0,h,e=>by simp_all
 |n,m+1,h,e=>by
  by_cases h':n=m+1
  ·simp_all
  ·show(dr f m s).bind f=none
   rw[Gv (by omega) e];rfl
theorem CW{f:Pu->Option Pu}{s t:Pu}{n:Nat}(h:dr f n s=some t):dr f (n+1) s=f t:=by
 simp_all[dr]
/-- from the pool -/
theorem xh{k:Nat}:∀ {n:Nat} {s:Pu},k<s.1.length->(n:Int)<=s.1.getD k 0->dr (jb k) n s=some (s.1.set k (s.1.getD k 0-n),s.2)
  |0,s,hk,h=>by
    show some s=_;simp_all
  |n+1,s,hk,h=>by
    rw[CW (xh (n:=n) hk (by omega))]
    unfold jb iP;grind[List.set_set]
theorem ab6{k:Int}{s t:Pu}:fY k s=some t↔0<=bV k s.2.1 0/\t=j9 (bV k s.2.1 0).toNat s:=by
 simp_all[fY,eq_comm]
theorem Rq{k:Int}{s:Pu}:fY k s=none↔bV k s.2.1 0<0:=by
 simp_all[fY]
theorem ada{k:Nat}{s:Pu}(h:s.1.getD k 0<=0):jb k s=fY k s:=by simp_all[jb,if_neg]
theorem mz{k:Nat}(h:k<4):ju k=jb k:=by simp_all[ju]
/-! the whole plan -/
theorem vv{c:List Int}{k:Nat}(hk:k<4)(s:Pu):co c (k+1) 0 s=co c k (c.getD k 0).toNat s:=by
 unfold co
 rw[mz hk]
 have e:∀x:Option Pu,x.bind (fun t=>some t)=x:=fun x=>by simp_all
 exact e _
theorem AC{c:List Int}{k n:Nat}{s t u:Pu}(h:co c k 0 s=some t)(h':dr (ju k) n t=some u):co c k n s=some u:=by
 have e:=by
  have e:∀x:Option Pu,x.bind (fun t=>some t)=x:=fun x=>by simp_all
  exact(e _).symm.trans h
 simp_all[co]
theorem El{c:List Int}{k n:Nat}{s t:Pu}(h:co c k 0 s=some t)(h':dr (ju k) n t=none):co c k n s=none:=by
 have e:=by
  have e:∀x:Option Pu,x.bind (fun t=>some t)=x:=fun x=>by simp_all
  exact(e _).symm.trans h
 simp_all[co]
theorem adY{c:List Int}{k n:Nat}{s t:Pu}(h:co c k n s=some t):co c k (n+1) s=ju k t:=by
 unfold co at *;cases e:mt c k s with
 |none=>simp_all
 |some u=>simp_all[CW]
theorem CF{c:List Int}{k n m:Nat}{s:Pu}(hn:n<=m)(h:co c k n s=none):co c k m s=none:=by
 unfold co at *;cases e:mt c k s with
 |none=>rfl
 |some u=>grind[Gv]
/-- what fails once fails for good -/
theorem EK{c:List Int}{k n:Nat}{s:Pu}(hk:k<4)(hn:n<=(c.getD k 0).toNat)(h:co c k n s=none)(m:Nat):co c 4 m s=none:=by
  have h1:co c (k+1) 0 s=none:=by grind[vv,CF]
  have up:∀ {j:Nat},j<4->co c j 0 s=none->co c _ 0 s=none:=fun hj hj'=>by rw[vv hj];exact CF (Nat.zero_le _) hj'
  have h4:co c 4 0 s=none:=by
    grind
  exact CF (Nat.zero_le _) h4
/-! what stays true: the sources that are left are some of those that there were -/
theorem aoy{i:Nat}{s:Pu}(h:2*i+2<=s.2.1.length):(j9 i s).2.1.length+2=s.2.1.length/\(j9 i s).2.2.length=s.2.2.length+1:=by
 grind[j9]
theorem Xr{k:Int}:∀ {l:List Int} {i:Nat},0<=bV k l i->(i:Int)<=bV k l i/\2*(bV k l i).toNat+2<=l.length+2*i
 |[],i,h=>by simp[bV]at h
 |[_],i,h=>by simp[bV]at h
 |a::c::l,i,h=>by
  unfold bV at h ⊢;split
  ·grind
  ·rename_i hc
   rw[if_neg hc]at h
   have:=Xr h
   grind
end Go.SX

set_option linter.unusedVariables false
set_option linter.unusedSimpArgs false
namespace Go.SX
/-! ### a purse in the facts' words -/
noncomputable def bN(F:Env)(p0 p1 p2 p3 R T:E):Pu:=([E.I F p0,E.I F p1,E.I F p2,E.I F p3],aG F R,aG F T)
theorem HT{G:Type}[BEq G][LawfulBEq G]{o:Option G}{t:G}:(o.any fun s=>s==t)=true↔o=some t:=by
 cases o with
 |none=>simp
 |some s=>simp
section
variable {F:Env} {p0 p1 p2 p3 q0 q1 q2 q3 R T R1 T1 R2 T2 k n m g i j a b c d x y l v id cE:E}
theorem fZ:(E.B F (.fn 170 (.pr q0 (.pr q1 (.pr q2 (.pr q3 (.pr R1 (.pr T1 (.pr k (.pr n (.pr p0 (.pr p1 (.pr p2 (.pr p3 (.pr R (.pr T (.int 0))))))))))))))))=true)=(dr (ju (E.I F k).toNat) (E.I F n).toNat (bN F p0 p1 p2 p3 R T)=some (bN F q0 q1 q2 q3 R1 T1)):=by
 show(((dr (ju (E.I F k).toNat) (E.I F n).toNat (bN F p0 p1 p2 p3 R T)).any fun s=>s==(bN F q0 q1 q2 q3 R1 T1))=true)=_
 rw[HT]
theorem rm:(E.B F (.fn 171 (.pr k (.pr n (.pr p0 (.pr p1 (.pr p2 (.pr p3 (.pr R (.pr T (.int 0))))))))))=true)=(dr (ju (E.I F k).toNat) (E.I F n).toNat (bN F p0 p1 p2 p3 R T)=none):=by
 show((dr (ju (E.I F k).toNat) (E.I F n).toNat (bN F p0 p1 p2 p3 R T)).isNone=true)=_
 simp_all
theorem Gw:(E.B F (.fn 174 (.pr R1 (.pr T1 (.pr k (.pr R (.pr T (.int 0)))))))=true)=(fY (E.I F k) ([],aG F R,aG F T)=some ([],aG F R1,aG F T1)):=by
 show(((fY (E.I F k) ([],aG F R,aG F T)).any fun s=>s==([],aG F R1,aG F T1))=true)=_
 rw[HT]
theorem pO:E.I F (.fn 175 (.pr k (.pr R n)))=bV (E.I F k) ((aG F R).take (2*(E.I F n).toNat)) 0:=rfl
theorem ug:(E.B F (.fn 185 (.pr p0 (.pr p1 (.pr p2 (.pr p3 (.pr k (.int 0)))))))=true)=(([E.I F p0,E.I F p1,E.I F p2,E.I F p3]:List Int).getD (E.I F k).toNat 0=0):=by
 show(([E.I F p0,E.I F p1,E.I F p2,E.I F p3].getD (E.I F k).toNat 0==0)=true)=_
 simp_all
theorem aW:(E.B F (.fn 188 (.pr p0 (.pr p1 (.pr p2 (.pr p3 (.int 0))))))=true)=(0<=E.I F p0/\E.I F p0<=99/\0<=E.I F p1/\E.I F p1<=99/\0<=E.I F p2/\E.I F p2<=99/\0<=E.I F p3/\E.I F p3<=99):=by
 show(([E.I F p0,E.I F p1,E.I F p2,E.I F p3].all fun x=>cp 0 x 99)=true)=_
 simp only[List.all_cons,List.all_nil,Bool.and_eq_true,gv,Bool.and_true,and_assoc]
theorem Nh:(E.B F (.fn 186 (.pr x (.pr R i)))=true)=(aG F x=(aG F R).take (2*(E.I F i).toNat)++(aG F R).drop (2*(E.I F i).toNat+2)):=by
 show((bi _==(bi _).take _++(bi _).drop _)=true)=_
 rw[beq_iff_eq];rfl
/-- tapping does not look at the pool -/
theorem Rd{k:Int}{m r t r1 t1:List Int}(h:fY k ([],r,t)=some ([],r1,t1)):fY k (m,r,t)=some (m,r1,t1):=by
  simp_all[ab6,j9]
/-- mana of a colour, from the pool -/
theorem adH{g1:E}(hk:E.I F k=0)(hq:E.I F g1=E.I F p0-E.I F g)(h0:0<=E.I F g)(h1:E.I F g<=E.I F p0):E.B F (.fn 170 (.pr g1 (.pr p1 (.pr p2 (.pr p3 (.pr R (.pr T (.pr k (.pr g (.pr p0 (.pr p1 (.pr p2 (.pr p3 (.pr R (.pr T (.int 0))))))))))))))))=true:=by
  have ek:(E.I F k).toNat=0:=by omega
  rw[fZ,ek,mz (by decide),xh (by simp[bN]) (by grind[bN])]
  simp only[bN,List.getD_cons_zero,List.set_cons_zero,Option.some.injEq,Prod.mk.injEq,List.cons.injEq,and_true];omega
theorem adM{g1:E}(hk:E.I F k=1)(hq:E.I F g1=E.I F p1-E.I F g)(h0:0<=E.I F g)(h1:E.I F g<=E.I F p1):E.B F (.fn 170 (.pr p0 (.pr g1 (.pr p2 (.pr p3 (.pr R (.pr T (.pr k (.pr g (.pr p0 (.pr p1 (.pr p2 (.pr p3 (.pr R (.pr T (.int 0))))))))))))))))=true:=by
 have ek:(E.I F k).toNat=1:=by omega
 rw[fZ,ek,mz (by decide),xh (by simp[bN]) (by grind[bN])]
 simp only[bN,List.getD_cons_zero,List.getD_cons_succ,List.set_cons_zero,List.set_cons_succ,Option.some.injEq,Prod.mk.injEq,List.cons.injEq,and_true,true_and];omega
theorem acR{g1:E}(hk:E.I F k=2)(hq:E.I F g1=E.I F p2-E.I F g)(h0:0<=E.I F g)(h1:E.I F g<=E.I F p2):E.B F (.fn 170 (.pr p0 (.pr p1 (.pr g1 (.pr p3 (.pr R (.pr T (.pr k (.pr g (.pr p0 (.pr p1 (.pr p2 (.pr p3 (.pr R (.pr T (.int 0))))))))))))))))=true:=by
 have ek:(E.I F k).toNat=2:=by omega
 rw[fZ,ek,mz (by decide),xh (by simp[bN]) (by grind[bN])]
 simp only[bN,List.getD_cons_zero,List.getD_cons_succ,List.set_cons_zero,List.set_cons_succ,Option.some.injEq,Prod.mk.injEq,List.cons.injEq,and_true,true_and];omega
theorem Ux{g1:E}(hk:E.I F k=3)(hq:E.I F g1=E.I F p3-E.I F g)(h0:0<=E.I F g)(h1:E.I F g<=E.I F p3):E.B F (.fn 170 (.pr p0 (.pr p1 (.pr p2 (.pr g1 (.pr R (.pr T (.pr k (.pr g (.pr p0 (.pr p1 (.pr p2 (.pr p3 (.pr R (.pr T (.int 0))))))))))))))))=true:=by
 have ek:(E.I F k).toNat=3:=by omega
 rw[fZ,ek,mz (by decide),xh (by simp[bN]) (by grind[bN])]
 simp only[bN,List.getD_cons_zero,List.getD_cons_succ,List.set_cons_zero,List.set_cons_succ,Option.some.injEq,Prod.mk.injEq,List.cons.injEq,and_true,true_and];omega
theorem LH(h:E.B F (.fn 170 (.pr q0 (.pr q1 (.pr q2 (.pr q3 (.pr R1 (.pr T1 (.pr k (.pr g (.pr p0 (.pr p1 (.pr p2 (.pr p3 (.pr R (.pr T (.int 0))))))))))))))))=true)(h':E.B F (.fn 174 (.pr R2 (.pr T2 (.pr k (.pr R1 (.pr T1 (.int 0)))))))=true)(hp:E.B F (.fn 185 (.pr q0 (.pr q1 (.pr q2 (.pr q3 (.pr k (.int 0)))))))=true)(k0:0<=E.I F k)(k1:E.I F k<=3)(g0:0<=E.I F g)(hm:E.I F m=E.I F g+1):E.B F (.fn 170 (.pr q0 (.pr q1 (.pr q2 (.pr q3 (.pr R2 (.pr T2 (.pr k (.pr m (.pr p0 (.pr p1 (.pr p2 (.pr p3 (.pr R (.pr T (.int 0))))))))))))))))=true:=by
 rw[fZ]at h ⊢
 rw[Gw]at h'
 rw[ug]at hp
 have em:(E.I F m).toNat=(E.I F g).toNat+1:=by omega
 have e:=CW h
 rw[mz (by omega)]at e
 rw[em,mz (by omega),e,ada (by simp_all[bN])]
 have ek:(E.I F k).toNat=E.I F k:=by omega
 rw[ek]
 exact Rd h'
theorem JX(h:E.B F (.fn 170 (.pr q0 (.pr q1 (.pr q2 (.pr q3 (.pr R1 (.pr T1 (.pr k (.pr g (.pr p0 (.pr p1 (.pr p2 (.pr p3 (.pr R (.pr T (.int 0))))))))))))))))=true)(h':E.I F (.fn 175 (.pr k (.pr R1 n)))=-1)(hl:E.I F (.fn 0 R1)=E.I F n*2)(hp:E.B F (.fn 185 (.pr q0 (.pr q1 (.pr q2 (.pr q3 (.pr k (.int 0)))))))=true)(k0:0<=E.I F k)(k1:E.I F k<=3)(g0:0<=E.I F g)(hm:E.I F g<E.I F m):E.B F (.fn 171 (.pr k (.pr m (.pr p0 (.pr p1 (.pr p2 (.pr p3 (.pr R (.pr T (.int 0))))))))))=true:=by
 rw[fZ]at h
 rw[rm]
 rw[ug]at hp
 rw[pO]at h'
 have e:=CW h
 rw[mz (by omega)]at e
 have ek:(E.I F k).toNat=E.I F k:=by omega
 refine Gv (n:=(E.I F g).toNat+1) (by omega) ?_
 rw[mz (by omega),e,ada (by simp_all[bN]),Rq,ek]
 have et:(aG F R1).take (2*(E.I F n).toNat)=aG F R1:=List.take_of_length_le (by grind[dO])
 rw[et]at h'
 show bV _ (aG F R1) 0<0;omega
theorem fA(h:E.B F (.fn 170 (.pr q0 (.pr q1 (.pr q2 (.pr q3 (.pr R1 (.pr T1 (.pr k (.pr g (.pr p0 (.pr p1 (.pr p2 (.pr p3 (.pr R (.pr T (.int 0))))))))))))))))=true)(hm:E.I F m=E.I F g):E.B F (.fn 170 (.pr q0 (.pr q1 (.pr q2 (.pr q3 (.pr R1 (.pr T1 (.pr k (.pr m (.pr p0 (.pr p1 (.pr p2 (.pr p3 (.pr R (.pr T (.int 0))))))))))))))))=true:=by simp_all[fZ]
/-! one mana of any colour -/
def iW(m:List Int)(k i:Nat):Nat:=if m.getD i 0<m.getD k 0 then k else i
theorem yK(m:List Int):gt m=iW m 3 (iW m 2 (iW m 1 0)):=rfl
theorem HI{m:List Int}{k i:Nat}(h:m.getD i 0<m.getD k 0):iW m k i=k:=if_pos h
theorem Ki{m:List Int}{k i:Nat}(h:m.getD k 0<=m.getD i 0):iW m k i=i:=if_neg (by omega)
theorem Xa{a b c d:Int}(h1:b<=a)(h2:c<=a)(h3:d<=a):gt [a,b,c,d]=0:=by
 simp_all[yK,Ki]
theorem Zr{a b c d:Int}(h1:a<b)(h2:c<=b)(h3:d<=b):gt [a,b,c,d]=1:=by
 simp_all[yK,HI,Ki]
theorem akT(m:List Int):iW m 2 (iW m 1 0)=0\/iW m 2 (iW m 1 0)=1\/iW m 2 (iW m 1 0)=2:=by
 grind[iW]
theorem P5{a b c d:Int}(h1:a<c)(h2:b<c)(h3:d<=c):gt [a,b,c,d]=2:=by
 grind[yK,HI,Ki]
theorem R7{a b c d:Int}(h1:a<d)(h2:b<d)(h3:c<d):gt [a,b,c,d]=3:=by
 grind[yK,akT,HI]
theorem axU(a b c d:Int):([a,b,c,d]:List Int).getD (gt [a,b,c,d]) 0<=max (max a b) (max c d):=by
 have h:gt [a,b,c,d]=0\/gt [a,b,c,d]=1\/gt [a,b,c,d]=2\/gt [a,b,c,d]=3:=by
  grind[yK,iW]
 grind
theorem ES{s:Pu}{b:Nat}(h:gt s.1=b):fP s=if 0<s.1.getD b 0 then some (iP b s)else fY (-1) s:=by subst h;rfl
theorem aDb{g1:E}(hq:E.I F g1=E.I F p0-1)(h0:E.I F p1<=E.I F p0)(h1:E.I F p2<=E.I F p0)(h2:E.I F p3<=E.I F p0)(hp:0<E.I F p0):fP (bN F p0 p1 p2 p3 R T)=some (bN F g1 p1 p2 p3 R T):=by
 rw[ES (s:=(bN F p0 p1 p2 p3 R T)) (b:=0) (Xa h0 h1 h2),if_pos (show 0<(bN F p0 p1 p2 p3 R T).1.getD 0 0 from hp)]
 simp_all[iP,bN]
theorem ahp{g1:E}(hq:E.I F g1=E.I F p1-1)(h0:E.I F p0<E.I F p1)(h1:E.I F p2<=E.I F p1)(h2:E.I F p3<=E.I F p1)(hp:0<E.I F p1):fP (bN F p0 p1 p2 p3 R T)=some (bN F p0 g1 p2 p3 R T):=by
 rw[ES (s:=(bN F p0 p1 p2 p3 R T)) (b:=1) (Zr h0 h1 h2),if_pos (show 0<(bN F p0 p1 p2 p3 R T).1.getD 1 0 from hp)]
 simp_all[iP,bN]
theorem aDM{g1:E}(hq:E.I F g1=E.I F p2-1)(h0:E.I F p0<E.I F p2)(h1:E.I F p1<E.I F p2)(h2:E.I F p3<=E.I F p2)(hp:0<E.I F p2):fP (bN F p0 p1 p2 p3 R T)=some (bN F p0 p1 g1 p3 R T):=by
 rw[ES (s:=(bN F p0 p1 p2 p3 R T)) (b:=2) (P5 h0 h1 h2),if_pos (show 0<(bN F p0 p1 p2 p3 R T).1.getD 2 0 from hp)]
 simp_all[iP,bN]
theorem aBD{g1:E}(hq:E.I F g1=E.I F p3-1)(h0:E.I F p0<E.I F p3)(h1:E.I F p1<E.I F p3)(h2:E.I F p2<E.I F p3)(hp:0<E.I F p3):fP (bN F p0 p1 p2 p3 R T)=some (bN F p0 p1 p2 g1 R T):=by
 rw[ES (s:=(bN F p0 p1 p2 p3 R T)) (b:=3) (R7 h0 h1 h2),if_pos (show 0<(bN F p0 p1 p2 p3 R T).1.getD 3 0 from hp)]
 simp_all[iP,bN]
theorem avR{s:Pu}(h:s.1.getD (gt s.1) 0<=0):fP s=fY (-1) s:=by simp_all[fP,if_neg]
theorem ael(h0:E.I F p0<=0)(h1:E.I F p1<=0)(h2:E.I F p2<=0)(h3:E.I F p3<=0):fP (bN F p0 p1 p2 p3 R T)=fY (-1) (bN F p0 p1 p2 p3 R T):=by
 have:=axU (E.I F p0) (E.I F p1) (E.I F p2) (E.I F p3)
 refine avR ?_;show [E.I F p0,E.I F p1,E.I F p2,E.I F p3].getD (gt [E.I F p0,E.I F p1,E.I F p2,E.I F p3]) 0<=0;omega
theorem Q4{g1:E}(hq:E.I F g1=E.I F p0-1)(h0:E.I F p1<=E.I F p0)(h1:E.I F p2<=E.I F p0)(h2:E.I F p3<=E.I F p0)(hp:0<E.I F p0):E.B F (.fn 170 (.pr g1 (.pr p1 (.pr p2 (.pr p3 (.pr R (.pr T (.pr (.int 4) (.pr (.int 1) (.pr p0 (.pr p1 (.pr p2 (.pr p3 (.pr R (.pr T (.int 0))))))))))))))))=true:=by
 rw[fZ];exact aDb hq h0 h1 h2 hp
theorem acg{g1:E}(hq:E.I F g1=E.I F p1-1)(h0:E.I F p0<E.I F p1)(h1:E.I F p2<=E.I F p1)(h2:E.I F p3<=E.I F p1)(hp:0<E.I F p1):E.B F (.fn 170 (.pr p0 (.pr g1 (.pr p2 (.pr p3 (.pr R (.pr T (.pr (.int 4) (.pr (.int 1) (.pr p0 (.pr p1 (.pr p2 (.pr p3 (.pr R (.pr T (.int 0))))))))))))))))=true:=by
 rw[fZ];exact ahp hq h0 h1 h2 hp
theorem E6{g1:E}(hq:E.I F g1=E.I F p2-1)(h0:E.I F p0<E.I F p2)(h1:E.I F p1<E.I F p2)(h2:E.I F p3<=E.I F p2)(hp:0<E.I F p2):E.B F (.fn 170 (.pr p0 (.pr p1 (.pr g1 (.pr p3 (.pr R (.pr T (.pr (.int 4) (.pr (.int 1) (.pr p0 (.pr p1 (.pr p2 (.pr p3 (.pr R (.pr T (.int 0))))))))))))))))=true:=by
 rw[fZ];exact aDM hq h0 h1 h2 hp
theorem pG{g1:E}(hq:E.I F g1=E.I F p3-1)(h0:E.I F p0<E.I F p3)(h1:E.I F p1<E.I F p3)(h2:E.I F p2<E.I F p3)(hp:0<E.I F p3):E.B F (.fn 170 (.pr p0 (.pr p1 (.pr p2 (.pr g1 (.pr R (.pr T (.pr (.int 4) (.pr (.int 1) (.pr p0 (.pr p1 (.pr p2 (.pr p3 (.pr R (.pr T (.int 0))))))))))))))))=true:=by
 rw[fZ];exact aBD hq h0 h1 h2 hp
theorem Nv(h:E.B F (.fn 174 (.pr R1 (.pr T1 (.pr (.int (-1)) (.pr R (.pr T (.int 0)))))))=true)(h0:E.I F p0<=0)(h1:E.I F p1<=0)(h2:E.I F p2<=0)(h3:E.I F p3<=0):E.B F (.fn 170 (.pr p0 (.pr p1 (.pr p2 (.pr p3 (.pr R1 (.pr T1 (.pr (.int 4) (.pr (.int 1) (.pr p0 (.pr p1 (.pr p2 (.pr p3 (.pr R (.pr T (.int 0))))))))))))))))=true:=by
 rw[fZ];rw[Gw]at h
 show fP _=_
 rw[ael h0 h1 h2 h3]
 exact Rd h
theorem T4(h:E.I F (.fn 175 (.pr (.int (-1)) (.pr R n)))=-1)(hl:E.I F (.fn 0 R)=E.I F n*2)(h0:E.I F p0<=0)(h1:E.I F p1<=0)(h2:E.I F p2<=0)(h3:E.I F p3<=0):E.B F (.fn 171 (.pr (.int 4) (.pr (.int 1) (.pr p0 (.pr p1 (.pr p2 (.pr p3 (.pr R (.pr T (.int 0))))))))))=true:=by
 rw[rm]
 show fP _=_
 rw[ael h0 h1 h2 h3,Rq]
 rw[pO]at h
 rw[<- dO]at hl
 have et:(aG F R).take (2*(E.I F n).toNat)=aG F R:=List.take_of_length_le (by omega);show bV _ (aG F R) 0<0;simp_all
end
end Go.SX

set_option linter.unusedVariables false
set_option linter.unusedSimpArgs false
namespace Go.SX
mutual
theorem U.eq_symm:∀a b:U,U.eq a b=true->U.eq b a=true
 |.int a,b,h=>by cases b<;>simp_all[U.eq]
 |.bool a,b,h=>by cases b<;>simp_all[U.eq]
 |.str a,b,h=>by cases b<;>simp_all[U.eq]
 |.lst l,b,h=>by
  cases b with
  |lst m=>simp only[U.eq]at h ⊢;exact U.eqs_symm l m h
  |bx _ _ _ m=>simp only[U.eq]at h ⊢;exact U.eqs_symm l m h
  |_=>simp[U.eq]at h
 |.bx _ _ _ l,b,h=>by
  cases b with
  |lst m=>simp only[U.eq]at h ⊢;exact U.eqs_symm l m h
  |bx _ _ _ m=>simp only[U.eq]at h ⊢;exact U.eqs_symm l m h
  |_=>simp[U.eq]at h
theorem U.eqs_symm:∀l m:List U,U.eqs l m=true->U.eqs m l=true
 |[],m,h=>by cases m<;>simp_all[U.eqs]
 |x::xs,m,h=>by
  cases m with
  |nil=>simp[U.eqs]at h
  |cons y ys=>
   simp only[U.eqs,Bool.and_eq_true]at h ⊢
   exact⟨U.eq_symm x y h.1,U.eqs_symm xs ys h.2⟩
end
/-! ### boards that are the same -/
section
variable {F:Env} {x y l A a b k u i j p q n m r o c d w v X Y T N L e t C z s:E}
theorem Ax:∀(cs:List E)(i:Nat),i<cs.length->cX ((eT cs).den F) i=(cs.getD i (.int 0)).den F
 |[],i,h=>absurd h (Nat.not_lt_zero _)
 |c::cs,0,_=>rfl
 |c::cs,i+1,h=>
  Ax cs i (by simpa using h)
/-- a list of a board, in a slice -/
theorem awN{u:U}(h:cM u=true)(a:Option Addr)(n c:Nat):U.eq (.bx a n c u.toL) u=true:=by
  cases u with
  |bx a' n' c' l=>simp only[U.eq,U.toL];exact U.eqs_rfl l
  |lst l=>simp only[U.eq,U.toL];exact U.eqs_rfl l
  |_=>simp[cM]at h
theorem LK:(E.B F (.fn 116 X)=true)=((X.den F).toL.length=38/\(∀j∈[0,6,7,8,9,20,21,22,23,29,30,31,32],cM (cX (X.den F) j)=true)/\jL (cX (X.den F) 29).toL=true/\jL (cX (X.den F) 30).toL=true):=by
 show(M5 (X.den F)=true)=_
 unfold M5
 rw[Bool.and_eq_true,Bool.and_eq_true,Bool.and_eq_true,List.all_eq_true,beq_iff_eq,and_assoc]
/-! items that are copied -/
theorem Uj(l:E):E.I F (.fn 0 l)=((E.L F l).length:Int):=rfl
theorem KR(T i:E)(w j:Nat)(h:0<=E.I F i):(bS T i w j).den F=(E.L F T).getD ((E.I F i).toNat*w+j) (.int 0):=by
 obtain⟨n,hn⟩:=Int.eq_ofNat_of_zero_le h
 show(E.L F T).getD (E.I F i*(w:Int)+(j:Int)).toNat (.int 0)=_
 rw[hn]
 congr 1
theorem aqp:(E.B F (.fn 190 a)=true)=(∀i,i<(E.L F a).length->i%5=4->cM ((E.L F a).getD i (.int 0))=true):=by
 show(jL (E.L F a)=true)=_
 unfold jL;simp only[List.all_eq_true,List.mem_range,Bool.or_eq_true,Bool.not_eq_true',beq_eq_false_iff_ne];exact propext ⟨fun h i hi h5=>(h i hi).resolve_left (fun h=>h h5),fun h i hi=>Classical.byCases (fun h5:i%5=4=>.inr (h i hi h5)) .inl⟩
theorem adO(h:E.B F (.fn 116 X)=true)(c:Nat)(hc:c=29\/c=30):E.B F (.fn 190 (.fn 1 (.pr X (.int (Int.ofNat c)))))=true:=by
 rw[LK]at h
 rcases hc with rfl|rfl
 ·exact h.2.2.1
 ·exact h.2.2.2
theorem aG7(hb:E.B F (.fn 190 b)=true)(h0:0<=E.I F i)(h3:E.I F i<E.I F (.fn 9 (.pr b (.int 5))))(a:Option Addr)(n c:Nat):U.eq (.bx a n c ((bS b i 5 4).den F).toL) ((bS b i 5 4).den F)=true:=by
 have e9:E.I F (.fn 9 (.pr b (.int 5)))=(((E.L F b).length/5:Nat):Int):=rfl
 rw[KR _ _ _ _ h0]
 rw[aqp]at hb
 exact awN (hb _ (by omega) (by omega)) a n c
/-- one item more is copied -/
theorem T5{x:List U}{k:Nat}(h:U.eqs x ((E.L F b).take (5*k))=true)(hb:E.B F (.fn 190 b)=true)(h0:E.I F i=k)(h3:E.I F i<E.I F (.fn 9 (.pr b (.int 5))))(v q:E):
    U.eqs (x++[(bS b i 5 0).den F,(bS b i 5 1).den F,(bS b i 5 2).den F,(bS b i 5 3).den F,(E.fn 28 (.pr (.pr v q) (bS b i 5 4))).den F]) ((E.L F b).take (5*k+5))=true:=by
  have e9:E.I F (.fn 9 (.pr b (.int 5)))=(((E.L F b).length/5:Nat):Int):=rfl;have hn:0<=E.I F i:=by omega
  rw[ao6 _ _ (by omega)]
  refine vC h ?_;have g (j:Nat):(bS b i 5 j).den F=(E.L F b).getD (5*k+j) (.int 0):=by rw[KR _ _ _ _ hn];congr 1;omega
  have g4:U.eq ((E.fn 28 (.pr (.pr v q) (bS b i 5 4))).den F) ((E.L F b).getD (5*k+4) (.int 0))=true:=by rw[<- g 4];exact aG7 hb hn h3 _ _ _
  simp only[U.eqs,g 0,g 1,g 2,g 3,g4,Nat.add_zero,U.eq_rfl,Bool.and_self]
theorem aGp{n0:E}(h:E.B F (.fn 181 (.pr x (.pr b n0)))=true)(hb:E.B F (.fn 190 b)=true)(h0:0<=E.I F i)(h1:E.I F n0=E.I F i*5)(h2:E.I F (.fn 0 x)=E.I F i*5)(h3:E.I F i<E.I F (.fn 9 (.pr b (.int 5))))(h4:E.I F n=(E.I F i+1)*5)(v q:E):
  E.B F (.fn 181 (.pr (.fn 3 (.pr x (.fn 23 (.pr (bS b i 5 0) (.fn 23 (.pr (bS b i 5 1) (.fn 23 (.pr (bS b i 5 2) (.fn 23 (.pr (bS b i 5 3) (.fn 23 (.pr (.fn 28 (.pr (.pr v q) (bS b i 5 4))) (.fn 10 (.int 0)))))))))))))) (.pr b n)))=true:=by
 obtain⟨k,hk⟩:=Int.eq_ofNat_of_zero_le h0
 rw[Uj]at h2
 rw[Gq]at h ⊢
 have e1:(E.I F n0).toNat=5*k:=by omega
 have e2:(E.I F n).toNat=5*k+5:=by omega
 rw[e1,List.take_of_length_le (l:=E.L F x) (by omega)]at h
 rw[e2]
 have:=T5 h hb hk h3 v q
 rw[List.take_of_length_le]
 ·exact this
 ·show(E.L F x++[_,_,_,_,_]).length<=_
  simp;omega
theorem auI(hb:E.B F (.fn 190 b)=true)(h0:E.I F i=0)(h3:E.I F i<E.I F (.fn 9 (.pr b (.int 5))))(h4:E.I F n=(E.I F i+1)*5)(v q:E):
  E.B F (.fn 181 (.pr (.fn 23 (.pr (bS b i 5 0) (.fn 23 (.pr (bS b i 5 1) (.fn 23 (.pr (bS b i 5 2) (.fn 23 (.pr (bS b i 5 3) (.fn 23 (.pr (.fn 28 (.pr (.pr v q) (bS b i 5 4))) (.fn 10 (.int 0)))))))))))) (.pr b n)))=true:=by
 rw[Gq]
 have e2:(E.I F n).toNat=5*0+5:=by omega
 rw[e2]
 have:=T5 (x:=[]) (k:=0) (F:=F) (b:=b) (i:=i) rfl hb (by omega) h3 v q
 rw[List.take_of_length_le]
 ·exact this
 ·show([_,_,_,_,_]:List U).length<=_
  simp
theorem avV{a0:E}(h:E.B F (.fn 181 (.pr x (.pr b n)))=true)(h1:E.I F n=E.I F (.fn 9 (.pr b (.int 5)))*5)(h2:E.I F (.fn 0 x)=E.I F n):E.B F (.fn 187 (.pr (.fn 28 (.pr a0 x)) b))=true:=by
 have e9:E.I F (.fn 9 (.pr b (.int 5)))=(((E.L F b).length/5:Nat):Int):=rfl
 rw[Uj]at h2
 rw[Gq]at h
 rw[MZ,YK]
 have el:E.L F (.fn 28 (.pr a0 x))=E.L F x:=rfl
 rw[el]
 refine⟨by omega,?_⟩
 rw[show(E.L F x).length/5*5=(E.I F n).toNat by omega,show(E.L F b).length/5*5=(E.I F n).toNat by omega]
 exact h
theorem afJ(h:E.L F a=[])(h0:E.I F (.fn 9 (.pr b (.int 5)))<=0):E.B F (.fn 187 (.pr a b))=true:=by
 have e9:E.I F (.fn 9 (.pr b (.int 5)))=(((E.L F b).length/5:Nat):Int):=rfl
 rw[MZ,YK,h]
 refine⟨by simp;omega,?_⟩
 rw[show(E.L F b).length/5*5=0 by omega]
 rfl
theorem ahA(h:E.B F (.fn 158 (.pr l n))=true)(h0:0<=E.I F i)(h1:E.I F i<E.I F n):E.I F (.fn 9 (.pr (bS l i 5 4) (.int 2)))<=6:=by
 rw[anP]at h
 unfold ov at h
 rw[aaZ]at h
 have:=h (E.I F i).toNat (by omega)
 rw[decide_eq_true_eq]at this
 have e:E.I F (.fn 9 (.pr (bS l i 5 4) (.int 2)))=(((bS l i 5 4).den F).toL.length/2:Nat):=rfl
 rw[e,KR _ _ _ _ h0]
 omega
end
end Go.SX

set_option linter.unusedVariables false
set_option linter.unusedSimpArgs false
namespace Go.SX
/-! ### the first source of a colour -/
theorem Lg{k:Int}:∀(l:List Int)(a c:Int)(i:Nat),l.length%2=0->bV k (l++[a,c]) i=if bV k l i<0 then(if kA k c then((i+l.length/2:Nat):Int)else -1)else bV k l i
 |[],a,c,i,h=>by
  rfl
 |[x],a,c,i,h=>by simp at h
 |x::y::l,a,c,i,h=>by
  have hl:l.length%2=0:=by grind
  show bV k (x::y::(l++[a,c])) i=_;have e:∀m,bV k (x::y::m) i=if kA k y then(i:Int)else bV k m _:=fun m=>rfl
  rw[e,e]
  by_cases hy:kA k y=true
  ·grind
  ·rw[if_neg hy,if_neg hy,Lg l a c _ hl]
   grind
theorem Tq{k:Int}:∀(l r:List Int)(i:Nat),0<=bV k l i->l.length%2=0->bV k (l++r) i=bV k l i
 |[],r,i,h,_=>by simp[bV]at h
 |[x],r,i,h,hl=>by simp at hl
 |x::y::l,r,i,h,hl=>by
  have e:∀m,bV k (x::y::m) i=if kA k y then(i:Int)else bV k m _:=fun m=>rfl
  show bV k (x::y::(l++r)) i=_
  rw[e]at h ⊢
  rw[e]
  by_cases hy:kA k y=true
  ·simp_all
  ·rw[if_neg hy]at h ⊢
   rw[if_neg hy]
   exact Tq l r _ h (by grind)
theorem XC{k:Int}:∀(l:List Int)(i:Nat),-1<=bV k l i
 |[],i=>by simp[bV]
 |[x],i=>by simp[bV]
 |x::y::l,i=>by
  have e:bV k (x::y::l) i=if kA k y then(i:Int)else bV k l _:=rfl
  rw[e];split
  ·omega
  ·exact XC l _
theorem Wf(l:List Int)(j:Nat)(h:2*j+2<=l.length):l.take (2*(j+1))=l.take (2*j)++[l.getD (2*j) 0,l.getD (2*j+1) 0]:=by
 grind[rn]
section
variable {F:Env} {p0 p1 p2 p3 q0 q1 q2 q3 R T R1 T1 R2 T2 k n m g i j a b c d x y l v id:E}
theorem Rg(h:0<=E.I F i){w:Nat}:E.I F (.fn 1 (.pr R (.fn 6 (.pr (.fn 8 (.pr i (.int 2))) (.int (Int.ofNat w))))))=(aG F R).getD (2*(E.I F i).toNat+w) 0:=by
 rw[show(E.fn 1 (.pr R (.fn 6 (.pr (.fn 8 (.pr i (.int 2))) _))))=E.fn 1 (.pr R (.fn 6 (.pr (.fn 8 (.pr i (.int (Int.ofNat 2)))) _))) from rfl,l5 i 2 w h]
 show((E.L F R).getD _ _).toI=_
 rw[KO,Nat.mul_comm];rfl
theorem Ys(h:0<=E.I F i):E.I F (.fn 1 (.pr R (.fn 6 (.pr (.fn 8 (.pr i (.int 2))) (.int 1)))))=(aG F R).getD (2*(E.I F i).toNat+1) 0:=Rg (w:=1) h
theorem awv(h:0<=E.I F i):E.I F (.fn 1 (.pr R (.fn 6 (.pr (.fn 8 (.pr i (.int 2))) (.int 0)))))=(aG F R).getD (2*(E.I F i).toNat) 0:=Rg (w:=0) h
theorem XW:-1<=E.I F (.fn 175 (.pr k (.pr R n))):=by simp_all[pO,XC]
theorem at8(h:E.I F (.fn 175 (.pr k (.pr R j)))=-1)(h0:0<=E.I F j)(h1:E.I F j<E.I F n)(hl:E.I F (.fn 0 R)=E.I F n*2)(hm:E.I F m=E.I F j+1)(k0:0<=E.I F k)
  (hc:¬E.I F (.fn 1 (.pr R (.fn 6 (.pr (.fn 8 (.pr j (.int 2))) (.int 1)))))=E.I F k):E.I F (.fn 175 (.pr k (.pr R m)))=-1:=by
 rw[Ys h0]at hc
 rw[<- dO]at hl
 rw[pO]at h ⊢
 rw[show(E.I F m).toNat=(E.I F j).toNat+1 by omega,Wf _ _ (by omega),Lg _ _ _ _ (by grind),if_pos (by omega),if_neg]
 simp_all[kA]
theorem Xk(h:E.I F (.fn 175 (.pr k (.pr R j)))=-1)(h0:0<=E.I F j)(h1:E.I F j<E.I F n)(hl:E.I F (.fn 0 R)=E.I F n*2)
  (hc:E.I F k<0\/E.I F (.fn 1 (.pr R (.fn 6 (.pr (.fn 8 (.pr j (.int 2))) (.int 1)))))=E.I F k):E.I F (.fn 175 (.pr k (.pr R n)))=E.I F j:=by
 rw[Ys h0]at hc
 rw[<- dO]at hl
 rw[pO]at h ⊢
 have e1:bV (E.I F k) ((aG F R).take (2*((E.I F j).toNat+1))) 0=E.I F j:=by
  rw[Wf _ _ (by omega),Lg _ _ _ _ (by grind),if_pos (by omega),if_pos]
  ·grind
  simp_all[kA]
 have e2:(aG F R).take (2*(E.I F n).toNat)=(aG F R).take (2*((E.I F j).toNat+1))++((aG F R).take (2*(E.I F n).toNat)).drop (2*((E.I F j).toNat+1)):=by
  have:=List.take_append_drop (2*((E.I F j).toNat+1)) ((aG F R).take (2*(E.I F n).toNat))
  rw[List.take_take,Nat.min_eq_left (by omega)]at this
  simp_all
 grind[Tq]
theorem S3(h:E.I F (.fn 175 (.pr k (.pr R j)))=-1)(e:E.I F n=E.I F j):E.I F (.fn 175 (.pr k (.pr R n)))=-1:=by
 simp_all[pO]
/-! a source less -/
theorem IV:aG F (.fn 18 (.pr l n))=(aG F l).take (E.I F n).toNat:=by
 show((E.L F l).take _).map _=_
 rw[List.map_take];rfl
theorem anR(h0:0<=E.I F i)(h1:E.I F a=E.I F i*2)(h2:E.I F b=E.I F i*2+2)(h3:E.I F c=E.I F (.fn 0 R)):E.B F (.fn 186 (.pr (.fn 3 (.pr (.fn 18 (.pr R a)) (.fn 4 (.pr R (.pr b c))))) (.pr R i)))=true:=by
 rw[<- dO]at h3
 grind[Nh,vN,IV,ZO,List.take_of_length_le]
theorem agk(h0:0<=E.I F i)(h1:E.I F a=E.I F i*2)(h2:E.I F b<=0)(h3:E.I F (.fn 0 R)<=E.I F i*2+2):E.B F (.fn 186 (.pr (.fn 3 (.pr (.fn 18 (.pr R a)) (.fn 18 (.pr R b)))) (.pr R i)))=true:=by
 grind[dO,Nh,vN,IV,List.drop_eq_nil_of_le]
theorem at6(hk:E.I F k=0)(h:E.I F q0=0):E.B F (.fn 185 (.pr q0 (.pr q1 (.pr q2 (.pr q3 (.pr k (.int 0)))))))=true:=by simp_all[ug]
theorem aqB(hk:E.I F k=1)(h:E.I F q1=0):E.B F (.fn 185 (.pr q0 (.pr q1 (.pr q2 (.pr q3 (.pr k (.int 0)))))))=true:=by simp_all[ug]
theorem aeU(hk:E.I F k=2)(h:E.I F q2=0):E.B F (.fn 185 (.pr q0 (.pr q1 (.pr q2 (.pr q3 (.pr k (.int 0)))))))=true:=by simp_all[ug]
theorem amg(hk:E.I F k=3)(h:E.I F q3=0):E.B F (.fn 185 (.pr q0 (.pr q1 (.pr q2 (.pr q3 (.pr k (.int 0)))))))=true:=by simp_all[ug]
theorem Hg(h:0<=E.I F n)(h':E.I F n<=E.I F (.fn 0 l)):E.I F (.fn 0 (.fn 18 (.pr l n)))=E.I F n:=by
 rw[<- dO]at h' ⊢
 grind[IV]
/-- tapped: what is left, and one id more -/
theorem Th(h:E.B F (.fn 186 (.pr R1 (.pr R i)))=true)(hi:E.I F i=E.I F (.fn 175 (.pr k (.pr R n))))(h0:0<=E.I F i)(hl:E.I F (.fn 0 R)=E.I F n*2)(hT:aG F T1=aG F T++[E.I F (.fn 1 (.pr R (.fn 6 (.pr (.fn 8 (.pr i (.int 2))) (.int 0)))))]):E.B F (.fn 174 (.pr R1 (.pr T1 (.pr k (.pr R (.pr T (.int 0)))))))=true:=by
  rw[awv h0]at hT
  rw[<- dO]at hl
  rw[Nh]at h
  rw[pO]at hi
  have et:(aG F R).take (2*(E.I F n).toNat)=aG F R:=List.take_of_length_le (by omega)
  rw[et]at hi
  rw[Gw,ab6]
  rw[<- hi]
  refine⟨h0, ?_⟩
  simp only[j9,Prod.mk.injEq,true_and]
  exact⟨h,hT⟩
theorem UR(h:E.B F (.fn 186 (.pr R1 (.pr R i)))=true)(hi:E.I F i=E.I F (.fn 175 (.pr k (.pr R n))))(h0:0<=E.I F i)(hl:E.I F (.fn 0 R)=E.I F n*2):
  E.B F (.fn 174 (.pr R1 (.pr (.fn 3 (.pr T (.fn 23 (.pr (.fn 1 (.pr R (.fn 6 (.pr (.fn 8 (.pr i (.int 2))) (.int 0))))) (.fn 10 (.int 0)))))) (.pr k (.pr R (.pr T (.int 0)))))))=true:=Th h hi h0 hl (by rw[vN];rfl)
theorem Uw(h:E.B F (.fn 186 (.pr R1 (.pr R i)))=true)(hi:E.I F i=E.I F (.fn 175 (.pr k (.pr R n))))(h0:0<=E.I F i)(hl:E.I F (.fn 0 R)=E.I F n*2):
  E.B F (.fn 174 (.pr R1 (.pr (.fn 23 (.pr (.fn 1 (.pr R (.fn 6 (.pr (.fn 8 (.pr i (.int 2))) (.int 0))))) (.fn 10 (.int 0)))) (.pr k (.pr R (.pr (.fn 10 (.int 0)) (.int 0)))))))=true:=Th h hi h0 hl rfl
end
end Go.SX

set_option linter.unusedVariables false
set_option linter.unusedSimpArgs false
namespace Go.SX
noncomputable def eU(F:Env)(c0 c1 c2 c3:E):List Int:=[E.I F c0,E.I F c1,E.I F c2,E.I F c3]
noncomputable def d8(F:Env)(C X p:E):Pu:=tV (E.L F C) (X.den F) (E.I F p)
section
variable {F:Env} {p0 p1 p2 p3 q0 q1 q2 q3 R T R1 T1 R2 T2 k n m g i j a b c d x y l v id c0 c1 c2 c3 C X p:E}
theorem ic:(E.B F (.fn 176 (.pr q0 (.pr q1 (.pr q2 (.pr q3 (.pr R1 (.pr T1 (.pr k (.pr n (.pr c0 (.pr c1 (.pr c2 (.pr c3 (.pr C (.pr X (.pr p (.int 0)))))))))))))))))=true)=(co (eU F c0 c1 c2 c3) (E.I F k).toNat (E.I F n).toNat (d8 F C X p)=some (bN F q0 q1 q2 q3 R1 T1)):=by
 show(((co (eU F c0 c1 c2 c3) (E.I F k).toNat (E.I F n).toNat (d8 F C X p)).any fun s=>s==(bN F q0 q1 q2 q3 R1 T1))=true)=_
 rw[HT]
theorem oe:(E.B F (.fn 177 (.pr k (.pr n (.pr c0 (.pr c1 (.pr c2 (.pr c3 (.pr C (.pr X (.pr p (.int 0)))))))))))=true)=(co (eU F c0 c1 c2 c3) (E.I F k).toNat (E.I F n).toNat (d8 F C X p)=none):=by
 show((co (eU F c0 c1 c2 c3) (E.I F k).toNat (E.I F n).toNat (d8 F C X p)).isNone=true)=_
 simp_all
theorem aEo(h:E.B F (.fn 143 (.pr R (.pr C (.pr X (.pr p (E.fn 9 (.pr (.fn 1 (.pr X (.int 0))) (.int 12))))))))=true)(hp:E.I F p=0):E.B F (.fn 176 (.pr (.fn 1 (.pr X (.int 2))) (.pr (.fn 1 (.pr X (.int 3))) (.pr (.fn 1 (.pr X (.int 4))) (.pr (.fn 1 (.pr X (.int 5))) (.pr R (.pr (.fn 10 (.int 0)) (.pr (.int 0) (.pr (.int 0) (.pr c0 (.pr c1 (.pr c2 (.pr c3 (.pr C (.pr X (.pr p (.int 0)))))))))))))))))=true:=by
 rw[Fo]at h
 have en:(E.I F (E.fn 9 (.pr (.fn 1 (.pr X (.int 0))) (.int 12)))).toNat=bQ (X.den F):=rfl
 rw[en]at h
 rw[ic]
 unfold d8 tV
 rw[<- h,hp]
 rfl
theorem ajc(h:E.B F (.fn 145 (.pr X p))=true):E.B F (.fn 188 (.pr (.fn 1 (.pr X (.int 2))) (.pr (.fn 1 (.pr X (.int 3))) (.pr (.fn 1 (.pr X (.int 4))) (.pr (.fn 1 (.pr X (.int 5))) (.int 0))))))=true:=by
 rw[xg]at h
 unfold jE kf at h;simp only[Bool.and_eq_true]at h;have hs:=h.2.1.1.1.1.2;unfold gL at hs;simp only[Bool.and_eq_true,List.all_cons,List.all_nil,Bool.and_true,gv]at hs
 obtain⟨⟨⟨_,hs⟩,_⟩,_⟩:=hs
 rw[aW]
 obtain⟨a0,a1,a2,a3⟩:=hs
 exact⟨a0.1,a0.2,a1.1,a1.2,a2.1,a2.2,a3.1,a3.2⟩
theorem aAA(h:E.B F (.fn 143 (.pr R (.pr C (.pr X (.pr p (E.fn 9 (.pr (.fn 1 (.pr X (.int 0))) (.int 12))))))))=true)(hp:E.I F p=1):E.B F (.fn 176 (.pr (.fn 1 (.pr X (.int 16))) (.pr (.fn 1 (.pr X (.int 17))) (.pr (.fn 1 (.pr X (.int 18))) (.pr (.fn 1 (.pr X (.int 19))) (.pr R (.pr (.fn 10 (.int 0)) (.pr (.int 0) (.pr (.int 0) (.pr c0 (.pr c1 (.pr c2 (.pr c3 (.pr C (.pr X (.pr p (.int 0)))))))))))))))))=true:=by
 rw[Fo]at h
 have en:(E.I F (E.fn 9 (.pr (.fn 1 (.pr X (.int 0))) (.int 12)))).toNat=bQ (X.den F):=rfl
 rw[en]at h
 rw[ic]
 unfold d8 tV
 rw[<- h,hp]
 rfl
theorem asq(h:E.B F (.fn 145 (.pr X p))=true):E.B F (.fn 188 (.pr (.fn 1 (.pr X (.int 16))) (.pr (.fn 1 (.pr X (.int 17))) (.pr (.fn 1 (.pr X (.int 18))) (.pr (.fn 1 (.pr X (.int 19))) (.int 0))))))=true:=by
 rw[xg]at h
 unfold jE kf at h;simp only[Bool.and_eq_true]at h;have hs:=h.2.1.1.1.2;unfold gL at hs;simp only[Bool.and_eq_true,List.all_cons,List.all_nil,Bool.and_true,gv]at hs
 obtain⟨⟨⟨_,hs⟩,_⟩,_⟩:=hs
 rw[aW]
 obtain⟨a0,a1,a2,a3⟩:=hs
 exact⟨a0.1,a0.2,a1.1,a1.2,a2.1,a2.2,a3.1,a3.2⟩
theorem acB(h:E.B F (.fn 176 (.pr q0 (.pr q1 (.pr q2 (.pr q3 (.pr R1 (.pr T1 (.pr k (.pr n (.pr c0 (.pr c1 (.pr c2 (.pr c3 (.pr C (.pr X (.pr p (.int 0)))))))))))))))))=true)(e:E.I F m=E.I F k)(e2:E.I F j=E.I F n):E.B F (.fn 176 (.pr q0 (.pr q1 (.pr q2 (.pr q3 (.pr R1 (.pr T1 (.pr m (.pr j (.pr c0 (.pr c1 (.pr c2 (.pr c3 (.pr C (.pr X (.pr p (.int 0)))))))))))))))))=true:=by simp_all[ic]
theorem Gn(h:E.B F (.fn 176 (.pr p0 (.pr p1 (.pr p2 (.pr p3 (.pr R (.pr T (.pr k (.pr (.int 0) (.pr c0 (.pr c1 (.pr c2 (.pr c3 (.pr C (.pr X (.pr p (.int 0)))))))))))))))))=true)(h2:E.B F (.fn 170 (.pr q0 (.pr q1 (.pr q2 (.pr q3 (.pr R1 (.pr T1 (.pr k (.pr c0 (.pr p0 (.pr p1 (.pr p2 (.pr p3 (.pr R (.pr T (.int 0))))))))))))))))=true)(hk:E.I F k=0)(hm:E.I F m=E.I F k+1):E.B F (.fn 176 (.pr q0 (.pr q1 (.pr q2 (.pr q3 (.pr R1 (.pr T1 (.pr m (.pr (.int 0) (.pr c0 (.pr c1 (.pr c2 (.pr c3 (.pr C (.pr X (.pr p (.int 0)))))))))))))))))=true:=by
 simp_all[ic,fZ,vv,AC,eU]
theorem ado(h:E.B F (.fn 176 (.pr p0 (.pr p1 (.pr p2 (.pr p3 (.pr R (.pr T (.pr k (.pr (.int 0) (.pr c0 (.pr c1 (.pr c2 (.pr c3 (.pr C (.pr X (.pr p (.int 0)))))))))))))))))=true)(h2:E.B F (.fn 171 (.pr k (.pr c0 (.pr p0 (.pr p1 (.pr p2 (.pr p3 (.pr R (.pr T (.int 0))))))))))=true)(hk:E.I F k=0):E.B F (.fn 177 (.pr (.int 4) (.pr a (.pr c0 (.pr c1 (.pr c2 (.pr c3 (.pr C (.pr X (.pr p (.int 0)))))))))))=true:=by
 rw[ic]at h
 rw[oe]
 rw[rm]at h2
 rw[hk]at h h2
 exact EK (c:=eU F c0 c1 c2 c3) (k:=0) (by decide) (Nat.le_refl _) (El h h2) _
theorem JM(h:E.B F (.fn 176 (.pr p0 (.pr p1 (.pr p2 (.pr p3 (.pr R (.pr T (.pr k (.pr (.int 0) (.pr c0 (.pr c1 (.pr c2 (.pr c3 (.pr C (.pr X (.pr p (.int 0)))))))))))))))))=true)(h2:E.B F (.fn 170 (.pr q0 (.pr q1 (.pr q2 (.pr q3 (.pr R1 (.pr T1 (.pr k (.pr c1 (.pr p0 (.pr p1 (.pr p2 (.pr p3 (.pr R (.pr T (.int 0))))))))))))))))=true)(hk:E.I F k=1)(hm:E.I F m=E.I F k+1):E.B F (.fn 176 (.pr q0 (.pr q1 (.pr q2 (.pr q3 (.pr R1 (.pr T1 (.pr m (.pr (.int 0) (.pr c0 (.pr c1 (.pr c2 (.pr c3 (.pr C (.pr X (.pr p (.int 0)))))))))))))))))=true:=by
 simp_all[ic,fZ,vv,AC,eU]
theorem NX(h:E.B F (.fn 176 (.pr p0 (.pr p1 (.pr p2 (.pr p3 (.pr R (.pr T (.pr k (.pr (.int 0) (.pr c0 (.pr c1 (.pr c2 (.pr c3 (.pr C (.pr X (.pr p (.int 0)))))))))))))))))=true)(h2:E.B F (.fn 171 (.pr k (.pr c1 (.pr p0 (.pr p1 (.pr p2 (.pr p3 (.pr R (.pr T (.int 0))))))))))=true)(hk:E.I F k=1):E.B F (.fn 177 (.pr (.int 4) (.pr a (.pr c0 (.pr c1 (.pr c2 (.pr c3 (.pr C (.pr X (.pr p (.int 0)))))))))))=true:=by
 rw[ic]at h
 rw[oe]
 rw[rm]at h2
 rw[hk]at h h2
 exact EK (c:=eU F c0 c1 c2 c3) (k:=1) (by decide) (Nat.le_refl _) (El h h2) _
theorem JI(h:E.B F (.fn 176 (.pr p0 (.pr p1 (.pr p2 (.pr p3 (.pr R (.pr T (.pr k (.pr (.int 0) (.pr c0 (.pr c1 (.pr c2 (.pr c3 (.pr C (.pr X (.pr p (.int 0)))))))))))))))))=true)(h2:E.B F (.fn 170 (.pr q0 (.pr q1 (.pr q2 (.pr q3 (.pr R1 (.pr T1 (.pr k (.pr c2 (.pr p0 (.pr p1 (.pr p2 (.pr p3 (.pr R (.pr T (.int 0))))))))))))))))=true)(hk:E.I F k=2)(hm:E.I F m=E.I F k+1):E.B F (.fn 176 (.pr q0 (.pr q1 (.pr q2 (.pr q3 (.pr R1 (.pr T1 (.pr m (.pr (.int 0) (.pr c0 (.pr c1 (.pr c2 (.pr c3 (.pr C (.pr X (.pr p (.int 0)))))))))))))))))=true:=by
 simp_all[ic,fZ,vv,AC,eU]
theorem aaN(h:E.B F (.fn 176 (.pr p0 (.pr p1 (.pr p2 (.pr p3 (.pr R (.pr T (.pr k (.pr (.int 0) (.pr c0 (.pr c1 (.pr c2 (.pr c3 (.pr C (.pr X (.pr p (.int 0)))))))))))))))))=true)(h2:E.B F (.fn 171 (.pr k (.pr c2 (.pr p0 (.pr p1 (.pr p2 (.pr p3 (.pr R (.pr T (.int 0))))))))))=true)(hk:E.I F k=2):E.B F (.fn 177 (.pr (.int 4) (.pr a (.pr c0 (.pr c1 (.pr c2 (.pr c3 (.pr C (.pr X (.pr p (.int 0)))))))))))=true:=by
 rw[ic]at h
 rw[oe]
 rw[rm]at h2
 rw[hk]at h h2
 exact EK (c:=eU F c0 c1 c2 c3) (k:=2) (by decide) (Nat.le_refl _) (El h h2) _
theorem Jp(h:E.B F (.fn 176 (.pr p0 (.pr p1 (.pr p2 (.pr p3 (.pr R (.pr T (.pr k (.pr (.int 0) (.pr c0 (.pr c1 (.pr c2 (.pr c3 (.pr C (.pr X (.pr p (.int 0)))))))))))))))))=true)(h2:E.B F (.fn 170 (.pr q0 (.pr q1 (.pr q2 (.pr q3 (.pr R1 (.pr T1 (.pr k (.pr c3 (.pr p0 (.pr p1 (.pr p2 (.pr p3 (.pr R (.pr T (.int 0))))))))))))))))=true)(hk:E.I F k=3)(hm:E.I F m=E.I F k+1):E.B F (.fn 176 (.pr q0 (.pr q1 (.pr q2 (.pr q3 (.pr R1 (.pr T1 (.pr m (.pr (.int 0) (.pr c0 (.pr c1 (.pr c2 (.pr c3 (.pr C (.pr X (.pr p (.int 0)))))))))))))))))=true:=by
 simp_all[ic,fZ,vv,AC,eU]
theorem Td(h:E.B F (.fn 176 (.pr p0 (.pr p1 (.pr p2 (.pr p3 (.pr R (.pr T (.pr k (.pr (.int 0) (.pr c0 (.pr c1 (.pr c2 (.pr c3 (.pr C (.pr X (.pr p (.int 0)))))))))))))))))=true)(h2:E.B F (.fn 171 (.pr k (.pr c3 (.pr p0 (.pr p1 (.pr p2 (.pr p3 (.pr R (.pr T (.int 0))))))))))=true)(hk:E.I F k=3):E.B F (.fn 177 (.pr (.int 4) (.pr a (.pr c0 (.pr c1 (.pr c2 (.pr c3 (.pr C (.pr X (.pr p (.int 0)))))))))))=true:=by
 rw[ic]at h
 rw[oe]
 rw[rm]at h2
 rw[hk]at h h2
 exact EK (c:=eU F c0 c1 c2 c3) (k:=3) (by decide) (Nat.le_refl _) (El h h2) _
theorem M3(h:E.B F (.fn 176 (.pr p0 (.pr p1 (.pr p2 (.pr p3 (.pr R (.pr T (.pr (.int 4) (.pr n (.pr c0 (.pr c1 (.pr c2 (.pr c3 (.pr C (.pr X (.pr p (.int 0)))))))))))))))))=true)(h2:E.B F (.fn 170 (.pr q0 (.pr q1 (.pr q2 (.pr q3 (.pr R1 (.pr T1 (.pr (.int 4) (.pr (.int 1) (.pr p0 (.pr p1 (.pr p2 (.pr p3 (.pr R (.pr T (.int 0))))))))))))))))=true)(h0:0<=E.I F n)(hm:E.I F m=E.I F n+1):E.B F (.fn 176 (.pr q0 (.pr q1 (.pr q2 (.pr q3 (.pr R1 (.pr T1 (.pr (.int 4) (.pr m (.pr c0 (.pr c1 (.pr c2 (.pr c3 (.pr C (.pr X (.pr p (.int 0)))))))))))))))))=true:=by
 rw[ic]at h ⊢
 rw[fZ]at h2
 rw[show(E.I F m).toNat=(E.I F n).toNat+1 by omega]
 exact(adY h).trans h2
theorem ad9(h:E.B F (.fn 176 (.pr p0 (.pr p1 (.pr p2 (.pr p3 (.pr R (.pr T (.pr (.int 4) (.pr n (.pr c0 (.pr c1 (.pr c2 (.pr c3 (.pr C (.pr X (.pr p (.int 0)))))))))))))))))=true)(h2:E.B F (.fn 171 (.pr (.int 4) (.pr (.int 1) (.pr p0 (.pr p1 (.pr p2 (.pr p3 (.pr R (.pr T (.int 0))))))))))=true)(h0:0<=E.I F n)(hm:E.I F n<E.I F a):E.B F (.fn 177 (.pr (.int 4) (.pr a (.pr c0 (.pr c1 (.pr c2 (.pr c3 (.pr C (.pr X (.pr p (.int 0)))))))))))=true:=by
 rw[ic]at h
 rw[oe]
 rw[rm]at h2
 exact CF (n:=(E.I F n).toNat+1) (by omega) ((adY h).trans h2)
theorem QH:(E.B F (.fn 183 (.pr q0 (.pr q1 (.pr q2 (.pr q3 (.pr T1 (.pr c0 (.pr c1 (.pr c2 (.pr c3 (.pr a (.pr C (.pr X (.pr p (.int 0)))))))))))))))=true)=((co (eU F c0 c1 c2 c3) 4 (E.I F a).toNat (d8 F C X p)).any (fun s=>s.1==eU F q0 q1 q2 q3&&gJ s.2.2==aG F T1)=true):=rfl
theorem Xo(h:E.B F (.fn 176 (.pr q0 (.pr q1 (.pr q2 (.pr q3 (.pr R (.pr T (.pr (.int 4) (.pr n (.pr c0 (.pr c1 (.pr c2 (.pr c3 (.pr C (.pr X (.pr p (.int 0)))))))))))))))))=true)(e:E.I F n=E.I F a)(hT:aG F T1=gJ (aG F T)):E.B F (.fn 183 (.pr q0 (.pr q1 (.pr q2 (.pr q3 (.pr T1 (.pr c0 (.pr c1 (.pr c2 (.pr c3 (.pr a (.pr C (.pr X (.pr p (.int 0)))))))))))))))=true:=by
 rw[ic]at h
 rw[QH,<- e]
 simp_all[bN,eU]
theorem Qv:aG F (.fn 40 T)=gJ (aG F T):=by
 show((gJ _).map _).map _=_
 rw[List.map_map]
 exact List.map_id _
theorem av5(h:E.B F (.fn 176 (.pr q0 (.pr q1 (.pr q2 (.pr q3 (.pr R (.pr T (.pr (.int 4) (.pr n (.pr c0 (.pr c1 (.pr c2 (.pr c3 (.pr C (.pr X (.pr p (.int 0)))))))))))))))))=true)(e:E.I F n=E.I F a):E.B F (.fn 183 (.pr q0 (.pr q1 (.pr q2 (.pr q3 (.pr (.fn 40 T) (.pr c0 (.pr c1 (.pr c2 (.pr c3 (.pr a (.pr C (.pr X (.pr p (.int 0)))))))))))))))=true:=Xo h e Qv
theorem akS(h:E.B F (.fn 176 (.pr q0 (.pr q1 (.pr q2 (.pr q3 (.pr R (.pr (.fn 10 (.int 0)) (.pr (.int 4) (.pr n (.pr c0 (.pr c1 (.pr c2 (.pr c3 (.pr C (.pr X (.pr p (.int 0)))))))))))))))))=true)(e:E.I F n=E.I F a):E.B F (.fn 183 (.pr q0 (.pr q1 (.pr q2 (.pr q3 (.pr (.fn 10 (.int 0)) (.pr c0 (.pr c1 (.pr c2 (.pr c3 (.pr a (.pr C (.pr X (.pr p (.int 0)))))))))))))))=true:=Xo h e rfl
theorem ahb:E.I F (.fn 0 (.fn 40 T))=E.I F (.fn 0 T):=by
 rw[<- dO,<- dO,Qv]
 rw[(acI _).length_eq]
end
end Go.SX

set_option linter.unusedVariables false
set_option linter.unusedSimpArgs false
namespace Go.SX
section
variable {F:Env} {p0 p1 p2 p3 q0 q1 q2 q3 R T R1 T1 R2 T2 k n m g i j a b c d x y l v id c0 c1 c2 c3 C X p L:E}
theorem wZ:(E.B F (.fn 182 (.pr c0 (.pr c1 (.pr c2 (.pr c3 (.pr a (.pr C (.pr X (.pr p (.int 0))))))))))=true)=(E.B F (.fn 145 (.pr X p))=true/\E.B F (.fn 146 (.pr c0 (.pr c1 (.pr c2 (.pr c3 a)))))=true/\¬E.B F (.fn 177 (.pr (.int 4) (.pr a (.pr c0 (.pr c1 (.pr c2 (.pr c3 (.pr C (.pr X (.pr p (.int 0)))))))))))=true):=by
 rw[oe,xg,bP]
 show((jE _ _&&KK (eU F c0 c1 c2 c3) _&&(co _ 4 _ _).isSome)=true)=_
 simp only[Bool.and_eq_true,Option.isSome_iff_ne_none,KK,eU,List.all_cons,List.all_nil,Bool.and_true,gv,and_assoc];rfl
theorem TW(h:E.B F (.fn 183 (.pr q0 (.pr q1 (.pr q2 (.pr q3 (.pr T1 (.pr c0 (.pr c1 (.pr c2 (.pr c3 (.pr a (.pr C (.pr X (.pr p (.int 0)))))))))))))))=true):¬E.B F (.fn 177 (.pr (.int 4) (.pr a (.pr c0 (.pr c1 (.pr c2 (.pr c3 (.pr C (.pr X (.pr p (.int 0)))))))))))=true:=by
 rw[QH]at h
 rw[oe]
 intro h';simp_all
theorem zj:(E.B F (.fn 184 (.pr x (.pr l (.pr v n))))=true)=(aG F x=((aG F l).take (E.I F n).toNat).filter fun x=>!(x==E.I F v)):=by
 show((bi _==((bi _).take _).filter _)=true)=_
 rw[beq_iff_eq];rfl
theorem UA(h:E.B F (.fn 184 (.pr x (.pr l (.pr v n))))=true)(e:E.I F m=E.I F n):E.B F (.fn 184 (.pr x (.pr l (.pr v m))))=true:=by simp_all[zj]
theorem amo(h:E.B F (.fn 184 (.pr x (.pr l (.pr v n))))=true)(e:E.I F m=E.I F n):E.B F (.fn 184 (.pr (.fn 28 (.pr a x)) (.pr l (.pr v m))))=true:=UA h e
theorem anh(h:E.B F (.fn 184 (.pr (.fn 10 a) (.pr l (.pr v n))))=true)(e:E.I F m=E.I F n):E.B F (.fn 184 (.pr (.fn 30 b) (.pr l (.pr v m))))=true:=UA (x:=(.fn 30 b)) h e
theorem Hj(h0:0<=E.I F i)(h1:E.I F i<E.I F (.fn 0 l))(hm:E.I F m=E.I F i+1):(aG F l).take (E.I F m).toNat=(aG F l).take (E.I F i).toNat++[E.I F (.fn 1 (.pr l i))]:=by
 rw[<- dO]at h1
 rw[show(E.I F m).toNat=(E.I F i).toNat+1 by omega,rn _ _ (by omega),yw]
theorem Q2(h:E.B F (.fn 184 (.pr x (.pr l (.pr v i))))=true)(h0:0<=E.I F i)(h1:E.I F i<E.I F (.fn 0 l))(hm:E.I F m=E.I F i+1)(hv:E.I F (.fn 1 (.pr l i))=E.I F v):E.B F (.fn 184 (.pr x (.pr l (.pr v m))))=true:=by
 grind[zj,Hj]
theorem aix(h:E.B F (.fn 184 (.pr x (.pr l (.pr v i))))=true)(h0:0<=E.I F i)(h1:E.I F i<E.I F (.fn 0 l))(hm:E.I F m=E.I F i+1)(hv:¬E.I F (.fn 1 (.pr l i))=E.I F v):E.B F (.fn 184 (.pr (.fn 3 (.pr x (.fn 23 (.pr (.fn 1 (.pr l i)) (.fn 10 b))))) (.pr l (.pr v m))))=true:=by
 rw[zj]at *
 rw[Hj h0 h1 hm,List.filter_append,<- h,vN,List.filter_cons,if_pos (by simp[hv])];rfl
theorem apu(h:E.B F (.fn 184 (.pr (.fn 10 a) (.pr l (.pr v i))))=true)(h0:0<=E.I F i)(h1:E.I F i<E.I F (.fn 0 l))(hm:E.I F m=E.I F i+1)(hv:¬E.I F (.fn 1 (.pr l i))=E.I F v):E.B F (.fn 184 (.pr (.fn 23 (.pr (.fn 1 (.pr l i)) (.fn 10 b))) (.pr l (.pr v m))))=true:=by
 rw[zj]at *
 rw[Hj h0 h1 hm,List.filter_append,<- h,List.filter_cons,if_pos (by simp[hv])];rfl
end
end Go.SX

set_option linter.unusedVariables false
set_option linter.unusedSimpArgs false
namespace Go.SX
/-! ### sources by their ids alone -/
theorem Vw:∀(l:List Int)(i:Nat),l.length%2=0->cn (l.take (2*i)++l.drop (2*i+2))=(cn l).take i++(cn l).drop (i+1)
 |[],i,_=>by simp[cn]
 |[_],i,h=>by simp at h
 |a::c::l,0,h=>by rfl
 |a::c::l,i+1,h=>by
  have:=Vw l i (by grind)
  grind[cn]
/-! what holds of a purse all along -/
end Go.SX

set_option linter.unusedVariables false
set_option linter.unusedSimpArgs false
namespace Go.SX
section
variable {F:Env} {p0 p1 p2 p3 q0 q1 q2 q3 R T R1 T1 R2 T2 k n m g i j a b c d x y l v id c0 c1 c2 c3 C X p L:E}
end
end Go.SX

set_option linter.unusedVariables false
set_option linter.unusedSimpArgs false
namespace Go.SX
section
variable {F:Env} {p0 p1 p2 p3 q0 q1 q2 q3 R T k n a c0 c1 c2 c3 C X p:E}
end
end Go.SX

set_option linter.unusedVariables false
set_option linter.unusedSimpArgs false
namespace Go.SX
/-! ### what can be paid -/
def vj(k:Nat)(l:List Int):Int:=(((cn l).count (k:Int):Nat):Int)
def bW(k:Nat)(s:Pu):Int:=s.1.getD k 0+vj k s.2.1
def af(s:Pu):Int:=s.1.getD 0 0+s.1.getD 1 0+s.1.getD 2 0+s.1.getD 3 0+((s.2.1.length/2:Nat):Int)
def jS(s:Pu):Prop:=s.2.1.length%2=0/\s.1.length=4/\(∀c∈cn s.2.1,0<=c/\c<4)/\∀k,0<=s.1.getD k 0
/-- t comes of s by so many steps -/
def lessP(n:Int)(s t:Pu):Prop:=jS t/\(∀j,bW j t<=bW j s)/\(∀j,t.1.getD j 0<=s.1.getD j 0)/\af t=af s-n/\t.2.2.length+t.2.1.length/2=s.2.2.length+s.2.1.length/2
theorem Gi(l:List Int)(i:Nat)(h:l.length<=i):l.getD i 0=0:=by grind
theorem amI(l:List Int)(i j:Nat)(v:Int)(h:i<l.length):(l.set i v).getD j 0=if j=i then v else l.getD j 0:=by
 grind
theorem W9{s:Pu}(h:jS s){b:Nat}(hb:0<s.1.getD b 0):lessP 1 s (iP b s)/\bW b (iP b s)=bW b s-1/\∀j,j≠b->bW j (iP b s)=bW j s:=by
 obtain⟨h1,h2,h3,h4⟩:=h
 have hb4:b<s.1.length:=by
  grind
 have g:=fun j=>amI _ b j (s.1.getD b 0-1) hb4
 have e1:(iP b s).1=s.1.set b _:=rfl;have e2:(iP b s).2=s.2:=rfl;have hj:∀j,(iP b s).1.getD j 0=if j=b then s.1.getD b 0-1 else s.1.getD j 0:=fun j=>by simp_all
 refine⟨⟨⟨by simp_all,by simp_all,by simp_all,fun k=>by rw[hj];have:=h4 k;omega⟩,fun j=>?_,fun j=>by rw[hj];split<;>(grind)<;>omega,?_,by rfl⟩,?_,fun j hjb=>?_⟩
 ·unfold bW;rw[hj,e2];split<;>(grind)<;>omega
 ·unfold af;rw[hj,hj,hj,hj,e2]
  have:b=0\/b=1\/b=2\/b=3:=by omega
  rcases this with rfl|rfl|rfl|rfl<;>simp<;>omega
 ·unfold bW;grind
 simp_all[bW]
theorem ad5(c:Int):∀(l:List Int)(i:Nat),l.length%2=0->2*i+2<=l.length->((cn l).take i++(cn l).drop (i+1)).count c+(if l.getD (2*i+1) 0=c then 1 else 0)=(cn l).count c
 |[],i,_,h=>by simp at h
 |[_],i,h,_=>by simp at h
 |a::d::l,0,h,_=>by
  simp_all[cn,List.count_cons]
 |a::d::l,i+1,h,hl=>by
  have:=ad5 c l i (by grind) (by grind)
  grind[cn]
theorem Vc{s:Pu}(h:jS s){i:Nat}(hi:2*i+2<=s.2.1.length):lessP 1 s (j9 i s)/\∀j:Nat,bW j (j9 i s)=bW j s-(if s.2.1.getD (2*i+1) 0=(j:Int)then 1 else 0):=by
 obtain⟨h1,h2,h3,h4⟩:=h
 obtain⟨l1,l2⟩:=aoy hi
 have eo:cn (j9 i s).2.1=(cn _).take i++(cn _).drop _:=Vw _ _ h1;have e1:(j9 i s).1=s.1:=rfl;have hh:∀j,bW j (j9 i s)=bW j s-(if s.2.1.getD (2*i+1) 0=j then 1 else 0):=fun j=>by
  grind[ad5,bW,vj]
 refine⟨⟨⟨by omega,by simp_all,?_,by simp_all⟩,fun j=>by grind,fun j=>by simp_all,by grind[af],by omega⟩,hh⟩
 grind
theorem lessP.trans{a b:Int}{s t u:Pu}(h:lessP a s t)(h':lessP b t u):lessP (a+b) s u:=by
 obtain⟨_,h2,h3,h4,h5⟩:=h
 obtain⟨g1,g2,g3,g4,g5⟩:=h'
 exact⟨g1,fun j=>Int.le_trans (g2 j) (h2 j),fun j=>Int.le_trans (g3 j) (h3 j),by omega,by omega⟩
theorem at9(k:Nat)(c:Int):kA (k:Int) c=(c==(k:Int)):=by
 rfl
theorem aed{k:Nat}:∀(l:List Int)(i:Nat),l.length%2=0->(bV k l i<0->(cn l).count (k:Int)=0)/\(0<=bV k l i->0<(cn l).count (k:Int)/\(i:Int)<=bV k l i/\l.getD (2*(bV k l i-i).toNat+1) 0=(k:Int))
 |[],i,_=>by simp[bV,cn]
 |[_],i,h=>by simp at h
 |a::c::l,i,h=>by
  have e:bV k (a::c::l) i=if kA k c then(i:Int)else bV k l _:=rfl
  have eo:cn (a::c::l)=c::cn l:=rfl;have hok:=at9 k c
  rw[e,eo,hok,List.count_cons]
  by_cases hc:c=k
  ·simp_all
  ·obtain⟨h1,h2⟩:=aed (k:=k) l (i+1) (by grind)
   rw[if_neg (by simp_all)]
   refine⟨fun h0=>by simp_all,fun h0=>?_⟩
   obtain⟨g1,g2,g3⟩:=h2 h0
   refine⟨by omega,by omega,?_⟩
   refine Eq.trans ?_ g3
   rw[show 2*(bV _ l _-i).toNat+1=(2*(bV k l (i+1)-(i+1)).toNat+1)+1+1 by omega]
   rfl
/-- one mana of a colour -/
theorem aqX{s:Pu}(h:jS s)(k:Nat):(bW k s<=0->jb k s=none)/\(0<bW k s->∃t,jb k s=some t/\lessP 1 s t/\bW k t=bW k s-1/\∀j,j≠k->bW j t=bW j s):=by
  have h4:=h.2.2.2 k;have hc0:0<=vj k s.2.1:=Int.natCast_nonneg _;unfold jb;split
  · have hh:bW k s=s.1.getD k 0+vj k _:=rfl;grind[W9]
  · have hh:bW k s=s.1.getD k 0+(cn _).count _:=rfl
    obtain⟨g1,g2⟩:=aed (k:=k) _ 0 h.1
    unfold fY;split
    · rename_i hf
      obtain⟨b1,b2⟩:=Xr hf
      grind[Vc]
    simp_all
theorem it1{k:Nat}:∀(n:Nat){s:Pu},jS s->(bW k s<n->dr (jb k) n s=none)/\((n:Int)<=bW k s->∃t,dr (jb k) n s=some t/\lessP n s t/\bW k t=bW k s-n/\∀j,j≠k->bW j t=bW j s)
 |0,s,h=>by
  refine⟨fun h0=>?_,fun _=>⟨s,rfl,⟨h,fun _=>Int.le_refl _,fun _=>Int.le_refl _,by simp,rfl⟩,by simp,fun _ _=>rfl⟩⟩
  have h4:=h.2.2.2 k
  have:bW k s=s.1.getD k 0+(cn _).count _:=rfl
  omega
 |n+1,s,h=>by
  obtain⟨i1,i2⟩:=it1 (k:=k) n h
  have e:dr _ (n+1) s=(dr _ n s).bind (jb k):=rfl
  rw[e]
  by_cases hn:n<=bW k s
  ·obtain⟨t,e1,h1,h2,h3⟩:=i2 hn
   obtain⟨p1,p2⟩:=aqX h1.1 k
   rw[e1]
   refine⟨fun h0=>p1 (by omega),fun h0=>?_⟩
   obtain⟨u,e2,g1,g2,g3⟩:=p2 (by omega)
   exact⟨u,e2,h1.trans g1,by omega,fun j hj=>by simp_all⟩
  grind
/-- any mana -/
theorem atb{l:List Int}(h:l.length%2=0)(h0:0<l.length):bV (-1) l 0=0:=by
  match l,h0,h with
  |[_],_,h=>simp at h
  |a ::c ::l,_,_=>rfl
theorem aGI{s:Pu}(h:jS s):0<=af s:=by
 have:=h.2.2.2 0;have:=h.2.2.2 1;have:=h.2.2.2 2;have:=h.2.2.2 3
 grind[af]
theorem aFR{s:Pu}(h:jS s):(af s<=0->fP s=none)/\(0<af s->∃t,fP s=some t/\lessP 1 s t):=by
 have h0:=h.2.2.2 0;have h1:=h.2.2.2 1;have h2:=h.2.2.2 2;have h3:=h.2.2.2 3;have e:af s=s.1.getD 0 0+s.1.getD 1 0+s.1.getD 2 0+s.1.getD 3 0+s.2.1.length/2:=rfl;have hl:=h.1;unfold fP;split
 ·rename_i hp
  refine⟨fun ht=>?_,fun _=>⟨_,rfl,(W9 h hp).1⟩⟩
  have hb:gt s.1<4:=by
   apply Classical.byContradiction;intro hn
   rw[Gi _ _ (by rw[h.2.1];omega)]at hp;omega
  grind
 ·have hz:s.1.getD 0 0=0/\s.1.getD 1 0=0/\s.1.getD 2 0=0/\s.1.getD 3 0=0:=by
   obtain⟨a,b,c,d,e4⟩:∃a b c d,s.1=[a,b,c,d]:=by
    match s.1,h.2.1 with
    |[a,b,c,d],_=>simp_all
   grind[Xa,Zr,P5,R7]
  unfold fY;by_cases hr:0<s.2.1.length
  ·rw[atb hl hr]
   exact⟨fun ht=>by omega,fun _=>⟨_,rfl,(Vc h (i:=0) (by omega)).1⟩⟩
  ·have:s.2.1=[]:=List.eq_nil_of_length_eq_zero (by omega)
   rw[this]
   refine⟨fun _=>rfl,fun ht=>by omega⟩
theorem itA:∀(n:Nat){s:Pu},jS s->(af s<n->dr fP n s=none)/\((n:Int)<=af s->∃t,dr fP n s=some t/\lessP n s t)
 |0,s,h=>by
  have:=aGI h
  exact⟨fun h0=>by omega,fun _=>⟨s,rfl,h,fun _=>Int.le_refl _,fun _=>Int.le_refl _,by simp,rfl⟩⟩
 |n+1,s,h=>by
  obtain⟨i1,i2⟩:=itA n h
  have e:dr _ (n+1) s=(dr _ n s).bind fP:=rfl
  rw[e]
  by_cases hn:n<=af s
  ·obtain⟨t,e1,h1⟩:=i2 hn
   obtain⟨p1,p2⟩:=aFR h1.1
   have:=h1.2.2.2.1
   rw[e1]
   refine⟨fun h0=>p1 (by omega),fun h0=>?_⟩
   obtain⟨u,e2,g1⟩:=p2 (by omega)
   exact⟨u,e2,h1.trans g1⟩
  grind
/-- the whole cost -/
theorem TI{c:List Int}(hc:∀k,0<=c.getD k 0):∀(k:Nat){s:Pu},jS s->((∃j,j<k/\bW j s<c.getD j 0)->mt c k s=none)/\
    ((∀j,j<k->c.getD j 0<=bW j s)->∃t,mt c k s=some t/\lessP (((List.range k).map fun j=>c.getD j 0).sum) s t/\∀j,k<=j->bW j t=bW j s)
  |0,s,h=>⟨fun⟨j,hj,_⟩=>by omega,fun _=>⟨s,rfl,⟨h,fun _=>Int.le_refl _,fun _=>Int.le_refl _,by simp,rfl⟩,fun _ _=>rfl⟩⟩
  |k+1,s,h=>by
    obtain⟨i1,i2⟩:=TI hc k h
    have e:mt c (k+1) s=(mt c k s).bind (dr _ (c.getD k 0).toNat):=rfl;have hck:=hc k
    rw[e]
    by_cases hn:∀j,j<k->c.getD j 0<=bW j s
    · obtain⟨t,e1,h1,h2⟩:=i2 hn
      obtain⟨p1,p2⟩:=it1 (k:=k) _ h1.1
      rw[e1]
      have hk:=h2 k (Nat.le_refl _)
      refine⟨fun⟨j,hj,hj'⟩=>p1 ?_,fun h0=>?_⟩
      · grind
      · have:=h0 k (by omega)
        obtain⟨u,e2,g1,g2,g3⟩:=p2 (by omega)
        have:=h1.trans g1
        grind[List.range_succ]
    · have hn':∃j,j<k/\bW j s<c.getD j 0:=by
        simp_all
      grind
def tZ(c:List Int):Int:=c.getD 0 0+c.getD 1 0+c.getD 2 0+c.getD 3 0
theorem ag3(c:List Int):((List.range 4).map fun j=>c.getD j 0).sum=tZ c:=by
 show(c.getD 0 0+(c.getD 1 0+(c.getD 2 0+(c.getD 3 0+0))))=_
 grind[tZ]
theorem aaU{c:List Int}(hc:∀k,0<=c.getD k 0){n:Nat}{s:Pu}(h:jS s):
  ((co c 4 n s).isSome=true↔(∀k,k<4->c.getD k 0<=bW k s)/\tZ c+n<=af s)/\∀t,co c 4 n s=some t->lessP (tZ c+n) s t:=by
 obtain⟨i1,i2⟩:=TI hc 4 h
 have e:co c 4 n s=(mt c 4 s).bind (dr fP n):=rfl
 rw[e]
 by_cases hn:∀j,j<4->c.getD j 0<=bW j s
 ·obtain⟨t,e1,h1,h2⟩:=i2 hn
  obtain⟨p1,p2⟩:=itA n h1.1
  have ht:=h1.2.2.2.1
  rw[ag3]at ht h1
  rw[e1]
  by_cases ha:n<=af t
  ·obtain⟨u,e2,g⟩:=p2 ha
   rw[show(some t).bind _=dr _ n t from rfl,e2]
   refine⟨⟨fun _=>⟨hn,by omega⟩,fun _=>rfl⟩,fun v hv=>?_⟩
   cases hv;exact h1.trans g
  grind
 ·have hn':∃j,j<4/\bW j s<c.getD j 0:=by
   simp_all
  grind
end Go.SX

set_option linter.unusedVariables false
set_option linter.unusedSimpArgs false
namespace Go.SX
/-! ### a board after it was paid tells the same -/
theorem aAi{l m:List U}(h:U.eqs l m=true):l.map U.toI=m.map U.toI:=by
 refine List.ext_getElem (by simp[lJ h]) fun i h1 h2=>?_
 have:=L4 (ww i h)
 grind
theorem Ba{l m:List U}(h:U.eqs l m=true)(i:Nat):nI l i=nI m i:=L4 (ww i h)
theorem aEf(l:List U){i:Nat}(h:i<l.length)(d e:U):l.getD i d=l.getD i e:=by grind
section
variable {Y X:U} {p:Nat} {L m:List Int} (h:adt Y X p L m=true) (hY:Y.toL.length=38) (hX:X.toL.length=38)
include h hY hX
end
end Go.SX

set_option linter.unusedVariables false
set_option linter.unusedSimpArgs false
namespace Go.SX
/-! ### a purse and what is left of it -/
theorem arj{X:U}{p:Int}(h:jE X p=true):∀k:Nat,k<4->0<=iX X (2+14*p.toNat+k)/\iX X (2+14*p.toNat+k)<=99:=by
 unfold jE at h
 rw[Bool.and_eq_true]at h
 obtain⟨hp,hv⟩:=h
 simp only[cp]at hp;unfold kf at hv;have hs:gL X p.toNat=true:=by
  grind
 unfold gL at hs;simp only[cp]at hs;grind
theorem YI(l:List U)(X:U)(p:Int):∀n,∀c∈cn (iM l X p n),0<=c/\c<4
 |0=>fun c hc=>by cases hc
 |n+1=>fun c hc=>by
  have app:∀(a b:List _),a.length%2=0->cn (a++b)=cn a++cn b:=by
   intro a;induction a using cn.induct with
   |case1 x y l ih=>grind[cn]
   |case2 a ha=>
    intro b h;match a,ha,h with
    |[],_,_=>rfl
    |[_],_,h=>simp at h
    |x::y::l,ha,_=>simp_all
  rw[Na,app _ _ (Hn _ _ _ _)]at hc
  rcases List.mem_append.1 hc with hc|hc
  ·exact YI l X p n c hc
  ·split at hc
   ·rename_i hs;unfold Bs at hs;simp only[Bool.and_eq_true,decide_eq_true_eq]at hs;simp_all[oI,cn]
   grind
theorem ai4(l:List U)(X:U)(p:Int)(k:Nat):(tV l X p).1.getD k 0=if k<4 then iX X (2+14*p.toNat+k)else 0:=by
 by_cases hk:k<4
 ·have:k=0\/k=1\/k=2\/k=3:=by omega
  rcases this with rfl|rfl|rfl|rfl<;>rfl
 ·rw[if_neg hk];exact Gi _ _ (by show(List.map _ _).length<=k;simp_all)
theorem aqQ{l:List U}{X:U}{p:Int}(h:jE X p=true):jS (tV l X p):=
 ⟨Hn _ _ _ _,rfl,YI _ _ _ _,fun k=>by
  rw[ai4];split
  all_goals simp_all[arj]⟩
end Go.SX

set_option linter.unusedVariables false
set_option linter.unusedSimpArgs false
namespace Go.SX
mutual
theorem U.eq_trans:∀a b c:U,U.eq a b=true->U.eq b c=true->U.eq a c=true
  |.int a,b,c,h,g=>by
    cases b with
    | int b => have e  := by simpa[U.eq]using h
               subst e;exact g
    |_=>simp[U.eq]at h
  |.bool a,b,c,h,g=>by
    cases b with
    | bool b => have e  := by simpa[U.eq]using h
                subst e;exact g
    |_=>simp[U.eq]at h
  |.str a,b,c,h,g=>by
    cases b with
    | str b=>cases c with
      |str c=>
        simp_all[U.eq]
      |_=>simp[U.eq]at g
    |_=>simp[U.eq]at h
  |.lst l,b,c,h,g=>by
    cases b<;>cases c<;>simp only[U.eq]at h g ⊢ <;> first | exact U.eqs_trans l _ _ h g | cases h | cases g
  |.bx _ _ _ l,b,c,h,g=>by
    cases b<;>cases c<;>simp only[U.eq]at h g ⊢ <;> first | exact U.eqs_trans l _ _ h g | cases h | cases g
theorem U.eqs_trans:∀a b c,U.eqs a b=true->U.eqs b c=true->U.eqs a c=true
 |[],b,c,h,g=>by grind[U.eqs]
 |x::xs,b,c,h,g=>by
  cases b with
  |nil=>simp[U.eqs]at h
  |cons y ys=>cases c with
   |nil=>simp[U.eqs]at g
   |cons z zs=>
    simp only[U.eqs,Bool.and_eq_true]at h g ⊢
    exact⟨U.eq_trans x y z h.1 g.1,U.eqs_trans xs ys zs h.2 g.2⟩
end
theorem aql{u v:U}(h:U.eq u v=true):cM u=cM v:=by
 cases u<;>cases v<;>simp_all[U.eq,cM]
theorem alG{u v:U}(h:U.eqs u.toL v.toL=true)(hu:cM u=true)(hv:cM v=true):U.eq u v=true:=by
 cases u<;>cases v<;>simp_all[U.eq,cM,U.toL]
theorem H4:∀ {l m:List U} (i:Nat) {v w:U},U.eqs l m=true->U.eq v w=true->U.eqs (l.set i v) (m.set i w)=true
 |[],[],i,_,_,_,_=>by rfl
 |[],_::_,_,_,_,h,_=>by simp[U.eqs]at h
 |_::_,[],_,_,_,h,_=>by simp[U.eqs]at h
 |x::l,y::m,0,v,w,h,g=>by
  simp_all[U.eqs]
 |x::l,y::m,i+1,v,w,h,g=>by
  simp only[U.eqs,Bool.and_eq_true,List.set_cons_succ]at h ⊢;exact⟨h.1,H4 i h.2 g⟩
theorem adG:∀(n:Nat){l m:List U},U.eqs l m=true->U.eqs (l.take n) (m.take n)=true
 |0,l,m,_=>by rfl
 |n+1,[],[],_=>by rfl
 |n+1,[],_::_,h=>by simp[U.eqs]at h
 |n+1,_::_,[],h=>by simp[U.eqs]at h
 |n+1,x::l,y::m,h=>by
  simp only[U.eqs,Bool.and_eq_true,List.take_succ_cons]at h ⊢;exact⟨h.1,adG n h.2⟩
section
variable {F:Env} {x y l A a b k u i j p q n m r o c d w v X Y T N L e t C z s:E}
/-! lists that are the same -/
theorem aoG:E.B F (.fn 200 (.pr a a))=true:=U.eqs_rfl _
theorem nA:E.B F (.fn 200 (.pr (.fn 28 (.pr z a)) a))=true:=U.eqs_rfl _
theorem n9:E.B F (.fn 201 (.fn 28 a))=true:=rfl
theorem qY:E.B F (.fn 201 (.fn 30 a))=true:=rfl
/-! a search by halves -/
end
end Go.SX

set_option linter.unusedVariables false
set_option linter.unusedSimpArgs false
namespace Go.SX
section
variable {F:Env} {x y l A a b k u i j p q n m r o c d w v X Y T N L e t C z s q0 q1 q2 q3 c0 c1 c2 c3:E}
/-- a row of a board but for its first cell -/
noncomputable def dB(Y c:E):E:=eT (c ::(List.range 37).map fun j=> .fn 1 (.pr Y (.int (Int.ofNat (j+1)))))
theorem amJ(j:Nat)(h0:0<j)(h:j<38):cX ((dB Y c).den F) j=cX (Y.den F) j:=by
 obtain⟨k,rfl⟩:∃k,j=k+1:=⟨j-1,by omega⟩
 have:cX ((dB Y c).den F) _=(((c::(List.range 37).map _).getD _ _).den F):=Ax _ (k+1) (by simp_all)
 rw[this,List.getD_eq_getElem?_getD,List.getElem?_cons_succ,List.getElem?_map,List.getElem?_range (by omega)]
 rfl
end
end Go.SX

set_option linter.unusedVariables false
set_option linter.unusedSimpArgs false
namespace Go.SX
/-! what comes in has the shape -/
section
variable {F:Env} {x y l A a b k u i j p q n m r o c d w v X Y T N L e t C z s q0 q1 q2 q3 c0 c1 c2 c3 m0 m1 m2 m3 d0 d1 d2 d3:E}
/-- a board with a player's pool -/
noncomputable def TF(P:Nat)(Y m0 m1 m2 m3:E):E:=eT ((List.range 38).map fun j=>if j=2+14*P then m0 else if j=3+14*P then m1 else if j=4+14*P then m2 else if j=5+14*P then m3 else .fn 1 (.pr Y (.int (Int.ofNat j))))
theorem aBW(P j:Nat)(h:j<38):cX ((TF P Y m0 m1 m2 m3).den F) j=(if j=2+14*P then m0 else if j=3+14*P then m1 else if j=4+14*P then m2 else if j=5+14*P then m3 else E.fn 1 (.pr Y (.int (Int.ofNat j)))).den F:=by
 have:=Ax (F:=F) ((List.range 38).map fun j=>if j=2+14*P then m0 else if j=3+14*P then m1 else if j=4+14*P then m2 else if j=5+14*P then m3 else E.fn 1 (.pr Y (.int (Int.ofNat j)))) j (by simp_all)
 refine Eq.trans this ?_;simp_all
theorem ahd{x:Int}(h0:0<=x)(h1:x<=1000000):IntKind.i64.wrap x=x/\IntKind.u64.wrap x=x:=by
 constructor
 ·obtain⟨s,e,_,r⟩:=ah x
  omega
 ·simp only[IntKind.wrap,IntKind.bits,IntKind.signed,Bool.false_and,Bool.false_eq_true,if_false];omega
/-! the law -/
noncomputable def hv(F:Env)(C X p:E)(k:Nat):Int:=bW k (d8 F C X p)
noncomputable def tt(F:Env)(C X p:E):Int:=af (d8 F C X p)
noncomputable def ns(F:Env)(C X p:E):Int:=(((d8 F C X p).2.1.length/2:Nat):Int)
theorem ad4(h:E.B F (.fn 146 (.pr c0 (.pr c1 (.pr c2 (.pr c3 a)))))=true):∀k,0<=(eU F c0 c1 c2 c3).getD k 0:=by
 rw[bP]at h
 intro k
 have:k=0\/k=1\/k=2\/k=3\/4<=k:=by omega
 rcases this with rfl|rfl|rfl|rfl|hk
 ·exact h.1
 ·exact h.2.2.1
 ·exact h.2.2.2.2.1
 ·exact h.2.2.2.2.2.2.1
 ·rw[Gi _ _ (by show [_,_,_,_].length<=k;omega)];omega
theorem SD(h:E.B F (.fn 145 (.pr X p))=true):jS (d8 F C X p):=aqQ (by simp_all[xg])
theorem aaW:(E.B F (.fn 182 (.pr c0 (.pr c1 (.pr c2 (.pr c3 (.pr a (.pr C (.pr X (.pr p (.int 0))))))))))=true)=(E.B F (.fn 145 (.pr X p))=true/\E.B F (.fn 146 (.pr c0 (.pr c1 (.pr c2 (.pr c3 a)))))=true/\
  E.I F c0<=hv F C X p 0/\E.I F c1<=hv F C X p 1/\E.I F c2<=hv F C X p 2/\E.I F c3<=hv F C X p 3/\E.I F c0+E.I F c1+E.I F c2+E.I F c3+E.I F a<=tt F C X p):=by
 rw[wZ]
 refine propext ⟨fun⟨h1,h2,h3⟩=>⟨h1,h2,?_⟩,fun⟨h1,h2,h3⟩=>⟨h1,h2,?_⟩⟩
 ·rw[oe]at h3
  have h4:(co (eU F c0 c1 c2 c3) 4 (E.I F a).toNat (d8 F C X p)).isSome=true:=by
   cases e:co _ 4 _ _ with
   |none=>simp_all
   |some s=>rfl
  obtain⟨g1,g2⟩:=((aaU (ad4 h2) (SD h1)).1).1 h4
  have e4:tZ (eU F c0 c1 c2 c3)=E.I F c0+E.I F c1+E.I F c2+E.I F c3:=rfl
  refine⟨g1 0 (by omega),g1 1 (by omega),g1 2 (by omega),g1 3 (by omega),?_⟩
  grind[tt]
 ·have ha:0<=E.I F a:=by simp_all[bP]
  have e4:tZ (eU F c0 c1 c2 c3)=E.I F c0+E.I F c1+E.I F c2+E.I F c3:=rfl
  obtain⟨a0,a1,a2,a3,a4⟩:=h3
  have h4:=((aaU (n:=(E.I F a).toNat) (ad4 h2) (SD (C:=C) h1)).1).2 ⟨fun k hk=>by
   have:k=0\/k=1\/k=2\/k=3:=by omega
   rcases this with rfl|rfl|rfl|rfl
   ·exact a0
   ·exact a1
   ·exact a2
   ·exact a3,by grind[tt]⟩
  rw[oe]
  intro e;simp_all
theorem aGD(hp:E.I F p=1):(d8 F C X p).1.getD 0 0=E.I F (.fn 1 (.pr X (.int 16)))/\(d8 F C X p).1.getD 1 0=E.I F (.fn 1 (.pr X (.int 17)))/\(d8 F C X p).1.getD 2 0=E.I F (.fn 1 (.pr X (.int 18)))/\(d8 F C X p).1.getD 3 0=E.I F (.fn 1 (.pr X (.int 19))):=by
 unfold d8;rw[hp];exact⟨rfl,rfl,rfl,rfl⟩
end
end Go.SX

set_option linter.unusedVariables false
set_option linter.unusedSimpArgs false
namespace Go.SX
/-! ### dP of a board, cell by cell -/
def jZ(X:U)(j:Nat)(u:U):Bool:=if j==0 then true else if dI j then u.toL.length/(if j=32 then 2 else 5)==(cX X j).toL.length/(if j=32 then 2 else 5)&&cM u else U.eq u (cX X j)
def eS(X:U)(id b:Int)(j:Nat)(u:U):Bool:=if j==0 then true else if dJ j then bi u==km (bi (cX X j)) id j b&&cM u else if dI j then u.toL.length/(if j=32 then 2 else 5)==0&&cM u else U.eq u (cX X j)
def dN(n i:Nat)(m:List Int)(j:Nat)(u:U):Bool:=if j==0 then true else if dJ j then bi u==lY n i j&&cM u else if dI j then u.toL.length/(if j=32 then 2 else 5)==0&&cM u else if rB j then !u.toB else u.toI==tY m j
theorem Mw{f:Nat->Bool}:((List.range 38).all f=true)=(∀j,j<38->f j=true):=by simp
theorem aDG(Y X:U):(adv Y X=true)=(∀j,j<38->jZ X j (cX Y j)=true):=Mw
theorem arG(Y X:U)(id b:Int):(Tp Y X id b=true)=(∀j,j<38->eS X id b j (cX Y j)=true):=Mw
theorem awL(X:U)(n i:Nat)(m:List Int):(W7 X n i m=true)=(∀j,j<38->dN n i m j (cX X j)=true):=Mw
theorem Iv{u v:U}(h:U.eq u v=true):bi u=bi v:=aAi (U5 h)
theorem aAh(a b:List U):(a++b).map U.toI=a.map U.toI++b.map U.toI:=by simp_all
section
variable {F:Env} {X Y Z a b c d k n m x z v o i t l L id:E}
def sn(F:Env)(Q:Nat->U->Bool):List E->Nat->Prop
 |[],_=>True
 |c::cs,j=>Q j (c.den F)=true/\sn F Q cs (j+1)
theorem ac9{Q:Nat->U->Bool}:∀(cs:List E)(j:Nat),sn F Q cs j->∀i,i<cs.length->Q (j+i) ((cs.getD i (.int 0)).den F)=true
 |c::cs,j,h,0,_=>h.1
 |c::cs,j,h,i+1,hi=>by
  have:=ac9 cs _ h.2 i (by simp_all)
  grind
theorem F4{Q:Nat->U->Bool}{cs:List E}(hl:cs.length=38)(h:sn F Q cs 0):∀j,j<38->Q j (cX ((eT cs).den F) j)=true:=fun j hj=>by
 grind[Ax,ac9]
theorem I8:(E.B F (.fn 211 (.pr Y X))=true)=(∀j,j<38->jZ (X.den F) j (cX (Y.den F) j)=true):=aDG _ _
theorem adP:(E.B F (.fn 209 (.pr Y (.pr X (.pr id b))))=true)=(∀j,j<38->eS (X.den F) (E.I F id) (E.I F b) j (cX (Y.den F) j)=true):=arG _ _ _ _
theorem xm{m0 m1 m2 m3:E}:(E.B F (.fn 203 (.pr X (.pr n (.pr i (.pr m0 (.pr m1 (.pr m2 (.pr m3 (.int 0)))))))))=true)=(∀j,j<38->dN (E.I F n).toNat (E.I F i).toNat [E.I F m0,E.I F m1,E.I F m2,E.I F m3] j (cX (X.den F) j)=true):=awL _ _ _ _
theorem amW{cs:List E}(hl:cs.length=38)(h:sn F (jZ (X.den F)) cs 0):E.B F (.fn 211 (.pr (eT cs) X))=true:=by simp_all[I8,F4]
theorem Ce{cs:List E}(hl:cs.length=38)(h:sn F (eS (X.den F) (E.I F id) (E.I F b)) cs 0):E.B F (.fn 209 (.pr (eT cs) (.pr X (.pr id b))))=true:=by simp_all[adP,F4]
theorem aEG{m0 m1 m2 m3:E}{cs:List E}(hl:cs.length=38)(h:sn F (dN (E.I F n).toNat (E.I F i).toNat [E.I F m0,E.I F m1,E.I F m2,E.I F m3]) cs 0):
  E.B F (.fn 203 (.pr (eT cs) (.pr n (.pr i (.pr m0 (.pr m1 (.pr m2 (.pr m3 (.int 0)))))))))=true:=by simp_all[xm,F4]
/-! cells of a copy -/
theorem sq0{u:U}:jZ (X.den F) 0 u=true:=rfl
theorem Ko(j:Nat):(E.fn 1 (.pr X (.int (Int.ofNat j)))).den F=cX (X.den F) j:=rfl
theorem dZ(j:Nat)(h:dI j=false):jZ (X.den F) j ((E.fn 1 (.pr X (.int (Int.ofNat j)))).den F)=true:=by
 unfold jZ;rw[h];split
 ·rfl
 ·exact U.eq_rfl _
theorem nM(j:Nat)(hm:j∈[0,6,7,8,9,20,21,22,23,29,30,31,32])(ht:E.B F (.fn 116 X)=true)(h:dI j=false)(h1:E.B F (.fn 200 (.pr c (.fn 1 (.pr X (.int (Int.ofNat j))))))=true)(h2:E.B F (.fn 201 c)=true):jZ (X.den F) j (c.den F)=true:=by
 unfold jZ;rw[h];split
 ·rfl
 ·rw[LK]at ht
  exact alG h1 h2 (ht.2.1 j hm)
theorem Jw(j:Nat)(h:dI j=true)(h2:E.B F (.fn 201 c)=true)(h1:E.I F (.fn 9 (.pr c (.int (if j=32 then 2 else 5))))=E.I F (.fn 9 (.pr (.fn 1 (.pr X (.int (Int.ofNat j)))) (.int (if j=32 then 2 else 5))))):jZ (X.den F) j (c.den F)=true:=by
 unfold jZ;rw[h];split
 ·rfl
 ·rw[if_pos rfl,Bool.and_eq_true]
  refine⟨?_,h2⟩
  rw[beq_iff_eq]
  by_cases h32:j=32
  ·subst h32;have e:(c.den F).toL.length/2=((cX (X.den F) 32).toL.length/2:Int):=h1;grind
  ·rw[if_neg h32]at h1 ⊢
   have e:(c.den F).toL.length/5=((cX (X.den F) j).toL.length/5:Int):=h1;omega
/-! cells of a board without an object -/
theorem tM(h:E.B F (.fn 211 (.pr Y X))=true)(j:Nat)(hj:j<38)(h0:(j==0)=false)(hr:dI j=false):U.eq (cX (Y.den F) j) (cX (X.den F) j)=true:=by
 rw[I8]at h
 have:=h j hj
 simp_all[jZ]
theorem yU(h:E.B F (.fn 211 (.pr Y X))=true)(j:Nat)(hj:j<38)(h0:(j==0)=false)(hr:dI j=true):(cX (Y.den F) j).toL.length/(if j=32 then 2 else 5)=(cX (X.den F) j).toL.length/(if j=32 then 2 else 5)/\cM (cX (Y.den F) j)=true:=by
 rw[I8]at h
 have:=h j hj
 unfold jZ at this
 rw[h0,if_neg (by decide),hr,if_pos rfl,Bool.and_eq_true,beq_iff_eq]at this
 exact this
theorem HN{u:U}:eS (X.den F) (E.I F id) (E.I F b) 0 u=true:=rfl
theorem aX(j:Nat)(hj:j<38)(h0:(j==0)=false)(hl:dJ j=false)(hr:dI j=false)(h:E.B F (.fn 211 (.pr Y X))=true):eS (X.den F) (E.I F id) (E.I F b) j ((E.fn 1 (.pr Y (.int (Int.ofNat j)))).den F)=true:=by
 unfold eS
 rw[h0,if_neg (by decide),hl,if_neg (by decide),hr,if_neg (by decide)]
 exact tM h j hj h0 hr
theorem dM(j:Nat)(hj:j<38)(h0:(j==0)=false)(hl:dJ j=true)(hr:dI j=false)(h:E.B F (.fn 211 (.pr Y X))=true)
  (h1:E.B F (.fn 184 (.pr c (.pr (.fn 1 (.pr Y (.int (Int.ofNat j)))) (.pr id (.fn 0 (.fn 1 (.pr Y (.int (Int.ofNat j)))))))))=true)(h2:E.B F (.fn 201 c)=true):eS (X.den F) (E.I F id) (E.I F (.int 0)) j (c.den F)=true:=by
 unfold eS
 rw[h0,if_neg (by decide),hl,if_pos rfl,Bool.and_eq_true,beq_iff_eq]
 refine⟨?_,h2⟩
 rw[zj]at h1
 have e:bi _=aG F c:=rfl;have e2:aG F (.fn 1 (.pr Y (.int (Int.ofNat j))))=bi _:=Iv (tM h j hj h0 hr);have e3:(E.I F (.fn 0 (.fn 1 (.pr Y (.int (Int.ofNat j)))))).toNat=(aG F (.fn 1 (.pr Y (.int (Int.ofNat j))))).length:=by
  show(Int.toNat (E.L F _).length)=((E.L F _).map _).length
  simp_all
 simp_all[km]
theorem u9(j:Nat)(h0:(j==0)=false)(hl:dJ j=false)(hr:dI j=true)(h2:E.B F (.fn 201 c)=true)(h1:E.I F (.fn 9 (.pr c (.int (if j=32 then 2 else 5))))=0):eS (X.den F) (E.I F id) (E.I F b) j (c.den F)=true:=by
 unfold eS
 rw[h0,if_neg (by decide),hl,if_neg (by decide),hr,if_pos rfl,Bool.and_eq_true,beq_iff_eq]
 refine⟨?_,h2⟩
 by_cases h32:j=32
 ·subst h32;have e:((c.den F).toL.length/2:Int)=0:=h1;grind
 ·rw[if_neg h32]at h1 ⊢
  have e:((c.den F).toL.length/5:Int)=0:=h1;omega
theorem JV(j:Nat)(hj:j<38)(h0:(j==0)=false)(hl:dJ j=false)(hr:dI j=true)(h:E.B F (.fn 211 (.pr Y X))=true)(h1:E.I F (.fn 9 (.pr (.fn 1 (.pr X (.int (Int.ofNat j)))) (.int (if j=32 then 2 else 5))))=0):eS (X.den F) (E.I F id) (E.I F b) j ((E.fn 1 (.pr Y (.int (Int.ofNat j)))).den F)=true:=by
 obtain⟨e,hs⟩:=yU h j hj h0 hr
 unfold eS
 rw[h0,if_neg (by decide),hl,if_neg (by decide),hr,if_pos rfl,Bool.and_eq_true,beq_iff_eq]
 refine⟨?_,hs⟩
 rw[Ko,e]
 by_cases h32:j=32
 ·subst h32;have e:((cX (X.den F) 32).toL.length/2:Int)=0:=h1;grind
 ·rw[if_neg h32]at h1 ⊢
  have e:((cX (X.den F) j).toL.length/5:Int)=0:=h1;omega
/-! a board that was copied after an object was taken out, and put at the end of the field -/
theorem pk(h:E.B F (.fn 209 (.pr Y (.pr X (.pr id b))))=true)(j:Nat)(hj:j<38):eS (X.den F) (E.I F id) (E.I F b) j (cX (Y.den F) j)=true:=by
 simp_all[adP]
theorem agD{L:List Int}{k b:Int}{j:Nat}(h:¬j=22):km L k j b=km L k j 0:=by
 simp_all[km]
theorem cF(j:Nat)(hj:j<38)(h22:¬j=22)(h:E.B F (.fn 211 (.pr Z Y))=true)(g:E.B F (.fn 209 (.pr Y (.pr X (.pr id (.int 0)))))=true):eS (X.den F) (E.I F id) (E.I F b) j ((E.fn 1 (.pr Z (.int (Int.ofNat j)))).den F)=true:=by
 have g:=pk g j hj
 rw[Ko]
 unfold eS at g ⊢;cases h0:(j==0)with
 |true=>rfl
 |false=>
  rw[h0,if_neg (by decide)]at g
  rw[if_neg (by decide)]
  cases hl:dJ j with
  |true=>
   have hr:dI j=false:=by
    grind[dI,dJ]
   have e:=tM h j hj h0 hr
   rw[hl,if_pos rfl,Bool.and_eq_true,beq_iff_eq]at g
   rw[if_pos rfl,Bool.and_eq_true,beq_iff_eq,Iv e,aql e,agD h22]
   exact g
  |false=>
   rw[hl,if_neg (by decide)]at g
   cases hr:dI j with
   |true=>
    grind[yU]
   |false=>
    rw[hr,if_neg (by decide)]at g
    exact U.eq_trans _ _ _ (tM h j hj h0 hr) g
theorem aBr(h:E.B F (.fn 211 (.pr Z Y))=true)(g:E.B F (.fn 209 (.pr Y (.pr X (.pr id (.int 0)))))=true)(hv:E.I F v=E.I F id):
  eS (X.den F) (E.I F id) (E.I F (.int 1)) 22 ((E.fn 28 (.pr z (.fn 3 (.pr (.fn 1 (.pr Z (.int (Int.ofNat 22)))) (.fn 23 (.pr v (.fn 10 a))))))).den F)=true:=by
 have g:=pk g 22 (by decide);have e:=tM h 22 (by decide) rfl rfl;unfold eS at g ⊢
 rw[if_neg (by decide),if_pos (by rfl),Bool.and_eq_true,beq_iff_eq]at g ⊢
 refine⟨?_,rfl⟩
 have e1:bi ((E.fn 28 (.pr z (.fn 3 (.pr (.fn 1 (.pr Z (.int (Int.ofNat 22)))) (.fn 23 (.pr v (.fn 10 a))))))).den F)=bi (cX (Z.den F) 22)++[E.I F v]:=by
  show((cX _ 22).toL++[v.den F]).map _=_
  rw[aAh];rfl
 rw[e1,Iv e,g.1,hv]
 simp_all[km]
end
end Go.SX

set_option linter.unusedVariables false
set_option linter.unusedSimpArgs false
namespace Go.SX
/-! ### objects in a list: where one is, a row that is put in -/
theorem as3(O:List U)(k:Int)(n:Nat):s8 O k n=ep (.lst [.lst O]) k n:=rfl
theorem aaX{O P:List U}(h:U.eqs O P=true)(k:Int)(n:Nat):s8 O k n=s8 P k n:=by
 grind[s8,Ba]
def tN:List U->Nat->List U->List U
 |O,_,[]=>O
 |O,a,c::cs=>tN (O.set a c) (a+1) cs
theorem Zz:∀(cs:List U)(O:List U)(a:Nat),a+cs.length<=O.length->tN O a cs=O.take a++cs++O.drop (a+cs.length)
 |[],O,a,h=>by simp[tN]
 |c::cs,O,a,h=>by
  simp only[List.length_cons]at h;unfold tN
  rw[Zz cs _ _ (by grind)]
  have e:O.set a c=O.take a++c::O.drop (a+1):=by rw[List.set_eq_take_append_cons_drop,if_pos (by omega)]
  have e1:(O.set a c).take (a+1)=O.take a++[c]:=by
   grind
  have e2:(O.set a c).drop (a+1+cs.length)=O.drop (a+(cs.length+1)):=by
   grind[List.drop_set_of_lt]
  simp_all
theorem PN:∀(cs:List U){l m:List U}(a:Nat),U.eqs l m=true->U.eqs (tN l a cs) (tN m a cs)=true
 |[],l,m,a,h=>h
 |c::cs,l,m,a,h=>PN cs _ (H4 a h (U.eq_rfl c))
theorem VX:∀(n:Nat){l m:List U},U.eqs l m=true->U.eqs (l.drop n) (m.drop n)=true
 |0,l,m,h=>h
 |n+1,[],[],h=>h
 |n+1,[],_::_,h=>by simp[U.eqs]at h
 |n+1,_::_,[],h=>by simp[U.eqs]at h
 |n+1,x::xs,y::ys,h=>by
  simp only[U.eqs,Bool.and_eq_true]at h;exact VX n h.2
theorem aaw{l m:List U}(h:U.eqs l m=true)(i:Nat){c d:List U}(g:U.eqs c d=true):U.eqs (setRow l i c) (setRow m i d)=true:=
 vC (vC (adG _ h) g) (VX _ h)
theorem Mq:∀ {l m:List U},l.length=m.length->(∀i,i<l.length->U.eq (l.getD i (.int 0)) (m.getD i (.int 0))=true)->U.eqs l m=true
 |[],[],_,_=>rfl
 |x::xs,y::ys,h,g=>by
  simp only[U.eqs,Bool.and_eq_true]
  exact⟨g 0 (by simp),Mq (by simp_all) fun i hi=>g (i+1) (by simp_all)⟩
section
variable {F:Env} {X Y Z a b c d k n m x z v o i t l L id:E}
theorem xi:E.I F (.fn 208 (.pr o (.pr k n)))=s8 (E.L F o) (E.I F k) (E.I F n).toNat:=rfl
theorem RN:E.I F (.fn 1 (.pr o (.fn 6 (.pr (.fn 8 (.pr i (.int 12))) c))))=nI (E.L F o) (E.I F i*12+E.I F c).toNat:=rfl
theorem BE(j:Nat)(h0:0<=E.I F i):E.I F (.fn 1 (.pr o (.fn 6 (.pr (.fn 8 (.pr i (.int 12))) (.int (Int.ofNat j))))))=nI (E.L F o) ((E.I F i).toNat*12+j):=by
 rw[RN]
 show nI _ (E.I F i*12+j).toNat=_;grind
theorem fW(h:E.I F i=E.I F k):E.I F (.fn 1 (.pr o (.fn 6 (.pr (.fn 8 (.pr i (.int 12))) c))))=E.I F (.fn 1 (.pr o (.fn 6 (.pr (.fn 8 (.pr k (.int 12))) c)))):=by
 simp_all[RN]
theorem xZ(h:E.I F n<=0):E.I F (.fn 208 (.pr o (.pr k n)))=-1:=by
 rw[xi,show(E.I F n).toNat=0 by omega];rfl
theorem zP(h:E.I F (.fn 208 (.pr o (.pr k i)))=-1)(h0:0<=E.I F i)(hn:¬E.I F (.fn 1 (.pr o (.fn 6 (.pr (.fn 8 (.pr i (.int 12))) (.int 0)))))=E.I F k)(hm:E.I F m=E.I F i+1):E.I F (.fn 208 (.pr o (.pr k m)))=-1:=by
 rw[xi]at h ⊢
 rw[hm,show(E.I F i+1).toNat=(E.I F i).toNat+1 by omega]
 have e:=BE (F:=F) (o:=o) (i:=i) 0 h0;exact Mk (.lst [.lst _]) _ _ h (fun g=>hn (e.trans g))
theorem xw(h:E.I F (.fn 208 (.pr o (.pr k i)))=-1)(h0:0<=E.I F i)(h1:E.I F i<E.I F n)(hn:E.I F (.fn 1 (.pr o (.fn 6 (.pr (.fn 8 (.pr i (.int 12))) (.int 0)))))=E.I F k):E.I F (.fn 208 (.pr o (.pr k n)))=E.I F i:=by
 rw[xi]at h ⊢
 have e:=BE (F:=F) (o:=o) (i:=i) 0 h0
 have:=Ig (.lst [.lst (E.L F o)]) _ (E.I F n).toNat _ (by omega) h (e.symm.trans hn)
 grind[as3]
theorem uf(h:E.I F (.fn 208 (.pr o (.pr k i)))=-1)(hn:E.I F n=E.I F i):E.I F (.fn 208 (.pr o (.pr k n)))=-1:=by
 simp_all[xi]
theorem ac7(h:E.B F (.fn 200 (.pr o (.fn 1 (.pr X (.int 0)))))=true)(hk:E.I F k=E.I F id)(hn:E.I F n=E.I F m):E.I F (.fn 208 (.pr o (.pr k n)))=E.I F (.fn 120 (.pr X (.pr id m))):=by
 rw[xi,n8,hk,hn]
 exact aaX h _ _
theorem Zv(h:E.B F (.fn 200 (.pr (.fn 1 (.pr Y (.int 0))) (.fn 1 (.pr X (.int 0)))))=true)(hk:E.I F k=E.I F id)(hn:E.I F n=E.I F m):E.I F (.fn 120 (.pr Y (.pr k n)))=E.I F (.fn 120 (.pr X (.pr id m))):=by
 rw[n8,n8,hk,hn]
 exact aaX h _ _
theorem uW(h:E.B F (.fn 200 (.pr a b))=true):E.I F (.fn 9 (.pr a c))=E.I F (.fn 9 (.pr b c))/\E.I F (.fn 0 a)=E.I F (.fn 0 b):=by
 have:=lJ h
 constructor
 ·show(E.L F a).length/(E.I F c).toNat=(E.L F b).length/((E.I F c).toNat:Int)
  have e:(E.L F a).length=(E.L F b).length:=this
  rw[e]
 ·show(E.L F a).length=((E.L F b).length:Int)
  have e:(E.L F a).length=(E.L F b).length:=this
  rw[e]
theorem aAN(h:E.B F (.fn 200 (.pr a b))=true):E.B F (.fn 200 (.pr (.fn 28 (.pr z a)) b))=true:=h
/-! a row that is stored -/
variable {v0 v1 v2 v3 v4 v5 v6 v7 v8 v9 v10 v11:E}
theorem WK:(E.B F (.fn 217 (.pr o (.pr l (.pr i (.pr v0 (.pr v1 (.pr v2 (.pr v3 (.pr v4 (.pr v5 (.pr v6 (.pr v7 (.pr v8 (.pr v9 (.pr v10 (.pr v11 (.int 0)))))))))))))))))=true)=
  (U.eqs (E.L F o) (setRow (E.L F l) (E.I F i).toNat [v0.den F,v1.den F,v2.den F,v3.den F,v4.den F,v5.den F,v6.den F,v7.den F,v8.den F,v9.den F,v10.den F,v11.den F])=true):=rfl
theorem aho(h:E.B F (.fn 200 (.pr x l))=true)(h0:0<=E.I F k)(h1:E.I F k<E.I F n)(hn:E.I F (.fn 9 (.pr x (.int 12)))=E.I F n)(hk:E.I F k=E.I F i):
  E.B F (.fn 217 (.pr (.fn 2 (.pr (.fn 2 (.pr (.fn 2 (.pr (.fn 2 (.pr (.fn 2 (.pr (.fn 2 (.pr (.fn 2 (.pr (.fn 2 (.pr (.fn 2 (.pr (.fn 2 (.pr (.fn 2 (.pr (.fn 2 (.pr x
   (.pr (.fn 6 (.pr (.fn 8 (.pr k (.int 12))) (.int 0))) v0))) (.pr (.fn 6 (.pr (.fn 8 (.pr k (.int 12))) (.int 1))) v1))) (.pr (.fn 6 (.pr (.fn 8 (.pr k (.int 12))) (.int 2))) v2))) (.pr (.fn 6 (.pr (.fn 8 (.pr k (.int 12))) (.int 3))) v3)))
   (.pr (.fn 6 (.pr (.fn 8 (.pr k (.int 12))) (.int 4))) v4))) (.pr (.fn 6 (.pr (.fn 8 (.pr k (.int 12))) (.int 5))) v5))) (.pr (.fn 6 (.pr (.fn 8 (.pr k (.int 12))) (.int 6))) v6))) (.pr (.fn 6 (.pr (.fn 8 (.pr k (.int 12))) (.int 7))) v7)))
   (.pr (.fn 6 (.pr (.fn 8 (.pr k (.int 12))) (.int 8))) v8))) (.pr (.fn 6 (.pr (.fn 8 (.pr k (.int 12))) (.int 9))) v9))) (.pr (.fn 6 (.pr (.fn 8 (.pr k (.int 12))) (.int 10))) v10))) (.pr (.fn 6 (.pr (.fn 8 (.pr k (.int 12))) (.int 11))) v11)))
   (.pr l (.pr i (.pr v0 (.pr v1 (.pr v2 (.pr v3 (.pr v4 (.pr v5 (.pr v6 (.pr v7 (.pr v8 (.pr v9 (.pr v10 (.pr v11 (.int 0)))))))))))))))))=true:=by
 rw[WK,<- hk]
 obtain⟨q,hq⟩:∃q:Nat,E.I F k=q:=⟨(E.I F k).toNat,by omega⟩
 have e1:(E.L F x).length/12=E.I F n:=hn;have e2:(E.L F x).length=(E.L F l).length:=lJ h;have g:=PN [v0.den F,v1.den F,v2.den F,v3.den F,v4.den F,v5.den F,v6.den F,v7.den F,v8.den F,v9.den F,v10.den F,v11.den F] (q*12) (show U.eqs _ (E.L F l)=true from h)
 rw[Zz _ (E.L F l) _ (by show q*12+12<=_;omega)]at g
 rw[hq,show(q:Int).toNat=q by omega]
 have ix:∀j:Nat,(E.I F k*12+j).toNat=q*12+j:=fun j=>by omega
 show U.eqs ((((((((((((((E.L F x).set (E.I F k*12+(0:Nat)).toNat _).set (E.I F k*12+(1:Nat)).toNat _).set (E.I F k*12+(2:Nat)).toNat _).set (E.I F k*12+(3:Nat)).toNat (v3.den F)).set (E.I F k*12+(4:Nat)).toNat (v4.den F)).set
  (E.I F k*12+(5:Nat)).toNat (v5.den F)).set (E.I F k*12+(6:Nat)).toNat (v6.den F)).set (E.I F k*12+(7:Nat)).toNat (v7.den F)).set (E.I F k*12+(8:Nat)).toNat (v8.den F)).set (E.I F k*12+(9:Nat)).toNat (v9.den F)).set (E.I F k*12+(10:Nat)).toNat (v10.den F)).set (E.I F k*12+(11:Nat)).toNat (v11.den F))) _=true
 simp only[ix];exact g
theorem Px:(E.B F (.fn 206 (.pr o (.pr l i)))=true)=(U.eqs (E.L F o) (DF (E.L F l) (E.I F i).toNat)=true):=rfl
theorem abq(h:E.B F (.fn 217 (.pr o (.pr (.fn 1 (.pr Y (.int 0))) (.pr i (.pr v0 (.pr (.fn 1 (.pr l (.fn 6 (.pr (.fn 8 (.pr k (.int 12))) (.int 1))))) (.pr (.fn 1 (.pr l (.fn 6 (.pr (.fn 8 (.pr k (.int 12))) (.int 2))))) (.pr (.fn 1 (.pr l (.fn 6 (.pr (.fn 8 (.pr k (.int 12))) (.int 3))))) (.pr (.fn 1 (.pr l (.fn 6 (.pr (.fn 8 (.pr k (.int 12))) (.int 4))))) (.pr (.int 0) (.pr (.int 0) (.pr (.int 0) (.pr (.int 0) (.pr (.bool false) (.pr (.bool true) (.pr (.bool false) (.int 0)))))))))))))))))=true)
  (hv:v0=.fn 1 (.pr l (.fn 6 (.pr (.fn 8 (.pr k (.int 12))) (.int 0)))))(g:E.B F (.fn 200 (.pr (.fn 1 (.pr Y (.int 0))) l))=true)(h0:0<=E.I F k)(hk:E.I F i=E.I F k)(hm:E.I F k=E.I F m):E.B F (.fn 206 (.pr o (.pr l m)))=true:=by
 subst hv
 rw[WK]at h
 rw[Px,<- hm]
 rw[hk]at h
 refine U.eqs_trans _ _ _ h ?_;have ix:∀j:Nat,(E.I F k*12+j).toNat=(E.I F k).toNat*12+j:=fun j=>by omega
 have cd:∀j,(E.fn 1 (.pr l (.fn 6 (.pr (.fn 8 (.pr k (.int 12))) (.int (Int.ofNat j)))))).den F=(E.L F l).getD _ _:=fun j=>by
  show(E.L F l).getD (E.I F k*12+j).toNat _=_
  rw[ix]
 refine aaw g _ ?_;have e:[(E.fn 1 (.pr l (.fn 6 (.pr (.fn 8 (.pr k (.int 12))) (.int (Int.ofNat 0)))))).den F,(E.fn 1 (.pr l (.fn 6 (.pr (.fn 8 (.pr k (.int 12))) (.int (Int.ofNat 1)))))).den F,(E.fn 1 (.pr l (.fn 6 (.pr (.fn 8 (.pr k (.int 12))) (.int (Int.ofNat 2)))))).den F,(E.fn 1 (.pr l (.fn 6 (.pr (.fn 8 (.pr k (.int 12))) (.int (Int.ofNat 3)))))).den F,(E.fn 1 (.pr l (.fn 6 (.pr (.fn 8 (.pr k (.int 12))) (.int (Int.ofNat 4)))))).den F,.int 0,.int 0,.int 0,.int 0,.bool false,.bool true,.bool false]
   =(List.range 5).map (fun j=>(E.L F l).getD ((E.I F k).toNat*12+j) (.int 0))++[.int 0,.int 0,.int 0,.int 0,.bool false,.bool true,.bool false]:=by
  simp only[cd];rfl
 exact(congrArg (fun q=>U.eqs q _) e).trans (U.eqs_rfl _)
/-! lengths of lists -/
theorem kv(h:E.B F (.fn 211 (.pr Y X))=true)(j:Nat)(hj:j<38)(h0:(j==0)=false)(hr:dI j=false):E.I F (.fn 0 (.fn 1 (.pr Y (.int (Int.ofNat j)))))=E.I F (.fn 0 (.fn 1 (.pr X (.int (Int.ofNat j))))):=by
 have:=lJ (U5 (tM h j hj h0 hr))
 show(cX (Y.den F) j).toL.length=((cX (X.den F) j).toL.length:Int)
 omega
theorem ao3(h:E.B F (.fn 211 (.pr Y X))=true):E.I F (.fn 9 (.pr (.fn 1 (.pr Y (.int 29))) (.int 5)))=E.I F (.fn 9 (.pr (.fn 1 (.pr X (.int 29))) (.int 5)))/\E.I F (.fn 9 (.pr (.fn 1 (.pr Y (.int 30))) (.int 5)))=E.I F (.fn 9 (.pr (.fn 1 (.pr X (.int 30))) (.int 5)))/\E.I F (.fn 9 (.pr (.fn 1 (.pr Y (.int 32))) (.int 2)))=E.I F (.fn 9 (.pr (.fn 1 (.pr X (.int 32))) (.int 2))):=by
 have a:=(yU h 29 (by decide) rfl rfl).1;have b:=(yU h 30 (by decide) rfl rfl).1;have c:=(yU h 32 (by decide) rfl rfl).1
 rw[if_neg (by decide)]at a b
 rw[if_pos rfl]at c
 refine⟨?_,?_,?_⟩
 ·show(cX (Y.den F) 29).toL.length/5=((cX (X.den F) 29).toL.length/5:Int);omega
 ·show(cX (Y.den F) 30).toL.length/5=((cX (X.den F) 30).toL.length/5:Int);omega
 ·show(cX (Y.den F) 32).toL.length/2=((cX (X.den F) 32).toL.length/2:Int);omega
theorem sa(h:E.B F (.fn 209 (.pr Y (.pr X (.pr id b))))=true):E.I F (.fn 9 (.pr (.fn 1 (.pr Y (.int 29))) (.int 5)))=0/\E.I F (.fn 9 (.pr (.fn 1 (.pr Y (.int 30))) (.int 5)))=0/\E.I F (.fn 9 (.pr (.fn 1 (.pr Y (.int 32))) (.int 2)))=0:=by
 have a:=pk h 29 (by decide);have b:=pk h 30 (by decide);have c:=pk h 32 (by decide);unfold eS at a b c
 rw[if_neg (by decide),if_neg (by decide),if_pos (by rfl),if_neg (by decide),Bool.and_eq_true,beq_iff_eq]at a b
 rw[if_neg (by decide),if_neg (by decide),if_pos (by rfl),if_pos (by rfl),Bool.and_eq_true,beq_iff_eq]at c
 refine⟨?_,?_,?_⟩
 ·show((cX (Y.den F) 29).toL.length/5:Int)=0;omega
 ·show((cX (Y.den F) 30).toL.length/5:Int)=0;omega
 ·show((cX (Y.den F) 32).toL.length/2:Int)=0;omega
theorem uT(u:U):(bi u).length=u.toL.length:=List.length_map ..
theorem awj(L:List Int)(k:Int)(j:Nat):(km L k j 0).length<=L.length:=by
 simp_all[km,List.length_filter_le]
theorem aGQ(h:E.B F (.fn 209 (.pr Y (.pr X (.pr id (.int 0)))))=true)(j:Nat)(hj:j<38)(hl:dJ j=true):E.I F (.fn 0 (.fn 1 (.pr Y (.int (Int.ofNat j)))))<=E.I F (.fn 0 (.fn 1 (.pr X (.int (Int.ofNat j))))):=by
 have a:=pk h j hj;have h0:(j==0)=false:=by
  cases h0:(j==0)with
  |false=>rfl
  |true=>rw[beq_iff_eq]at h0;subst h0;cases hl
 unfold eS at a
 rw[h0,if_neg (by decide),hl,if_pos rfl,Bool.and_eq_true,beq_iff_eq]at a
 have e:=congrArg List.length a.1
 rw[uT]at e
 have g:=awj (bi (cX (X.den F) j)) (E.I F id) j
 rw[uT]at g
 show(cX (Y.den F) j).toL.length<=((cX (X.den F) j).toL.length:Int)
 simp_all
/-! the shape and the size of a board that was made so -/
theorem Xi{l:List U}(h:l.length/5=0):jL l=true:=by
 grind[jL]
theorem WW(l:List U):ov l 0=true:=rfl
theorem XV(hl:(Y.den F).toL.length=38)(h0:cM (cX (Y.den F) 0)=true)(h:∀j,j<38->dJ j=true\/dI j=true->cM (cX (Y.den F) j)=true)(h29:(cX (Y.den F) 29).toL.length/5=0)(h30:(cX (Y.den F) 30).toL.length/5=0):E.B F (.fn 116 Y)=true:=by
 rw[LK]
 refine⟨hl,fun j hj=>?_,Xi h29,Xi h30⟩
 simp only[List.mem_cons,List.not_mem_nil,or_false]at hj;rcases hj with rfl|rfl|rfl|rfl|rfl|rfl|rfl|rfl|rfl|rfl|rfl|rfl|rfl
 ·omega
 all_goals exact h _ (by decide) (by first | exact .inl rfl | exact .inr rfl)
theorem aeK(hz:∀j,dJ j=true->(cX (Y.den F) j).toL.length<=30\/(j≠31/\(cX (Y.den F) j).toL.length<=40))(hn:bQ (Y.den F)<=30)(h29:(cX (Y.den F) 29).toL.length/5=0)(h30:(cX (Y.den F) 30).toL.length/5=0)(h32:(cX (Y.den F) 32).toL.length/2=0):E.B F (.fn 117 Y)=true:=by
 show nR _=true;unfold nR;have e:cN _=0:=h29;have e2:fD _=0:=h32
 rw[e,e2,h30]
 simp only[Bool.and_eq_true,decide_eq_true_eq,List.all_eq_true,List.mem_range]
 refine⟨⟨⟨⟨⟨⟨⟨fun z hz'=>?_,by omega⟩,by omega⟩,WW _⟩,WW _⟩,hn⟩,?_⟩,by omega⟩
 ·have e3:(ba _ z).length=(cX (Y.den F) _).toL.length:=uT _;have hl:dJ (6+14*(z/4)+z%4)=true:=by
   have:z=0\/z=1\/z=2\/z=3\/z=4\/z=5\/z=6\/z=7:=by omega
   rcases this with rfl|rfl|rfl|rfl|rfl|rfl|rfl|rfl<;>rfl
  grind
 ·have e3:(bj _).length=(cX (Y.den F) 31).toL.length:=uT _
  have:=hz 31 rfl
  omega
theorem ajs(hl:(Y.den F).toL.length=38)(h0:cM (cX (Y.den F) 0)=true)(h:E.B F (.fn 209 (.pr Y (.pr X (.pr id b))))=true):E.B F (.fn 116 Y)=true:=by
 have hr:=sa h;refine XV hl h0 (fun j hj hc=>?_) ?_ ?_
 ·have g:=pk h j hj;grind[eS]
 ·have:((cX (Y.den F) 29).toL.length/5:Int)=0:=hr.1
  omega
 ·have:((cX (Y.den F) 30).toL.length/5:Int)=0:=hr.2.1
  omega
theorem aq5(h:E.B F (.fn 209 (.pr Y (.pr X (.pr id (.int 0)))))=true)(h0:E.B F (.fn 200 (.pr (.fn 1 (.pr Y (.int 0))) (.fn 1 (.pr X (.int 0)))))=true)(hX:E.B F (.fn 117 X)=true):E.B F (.fn 117 Y)=true:=by
 have hr:=sa h;have hx:nR _=true:=hX;unfold nR at hx;simp only[Bool.and_eq_true,decide_eq_true_eq,List.all_eq_true,List.mem_range]at hx;refine aeK (fun j hj=>?_) ?_ ?_ ?_ ?_
 ·have hj38:j<38/\(j=31\/∃z,z<8/\j=6+14*(z/4)+z%4):=by
   unfold dJ at hj;simp only[List.contains_iff_mem,List.mem_cons,List.not_mem_nil,or_false]at hj;rcases hj with rfl|rfl|rfl|rfl|rfl|rfl|rfl|rfl|rfl
   ·exact⟨by decide,.inr ⟨0,by decide,rfl⟩⟩
   ·exact⟨by decide,.inr ⟨1,by decide,rfl⟩⟩
   ·exact⟨by decide,.inr ⟨2,by decide,rfl⟩⟩
   ·exact⟨by decide,.inr ⟨3,by decide,rfl⟩⟩
   ·exact⟨by decide,.inr ⟨4,by decide,rfl⟩⟩
   ·exact⟨by decide,.inr ⟨5,by decide,rfl⟩⟩
   ·exact⟨by decide,.inr ⟨6,by decide,rfl⟩⟩
   ·exact⟨by decide,.inr ⟨7,by decide,rfl⟩⟩
   omega
  have hlen:(cX (Y.den F) j).toL.length<=((cX (X.den F) j).toL.length:Int):=aGQ h j hj38.1 hj;all_goals grind[bj,uT,ba]
 ·have e:=lJ (show U.eqs (cX (Y.den F) 0).toL (cX (X.den F) 0).toL=true from h0);simp_all[bQ]
 ·have:((cX (Y.den F) 29).toL.length/5:Int)=0:=hr.1
  omega
 ·have:((cX (Y.den F) 30).toL.length/5:Int)=0:=hr.2.1
  omega
 ·have:((cX (Y.den F) 32).toL.length/2:Int)=0:=hr.2.2
  omega
end
end Go.SX

set_option linter.unusedVariables false
set_option linter.unusedSimpArgs false
namespace Go.SX
/-! ### the board of some sources: its objects -/
theorem KT{f:Nat->List U}{w:Nat}(hf:∀j,(f j).length=w):∀n,((List.range n).flatMap f).length=n*w
 |0=>by simp
 |n+1=>by
  rw[List.range_succ,List.flatMap_append,List.length_append,KT hf n]
  grind
theorem Vt{f:Nat->List U}{w:Nat}(hf:∀j,(f j).length=w)(d:U):∀n j k,j<n->k<w->((List.range n).flatMap f).getD (j*w+k) d=(f j).getD k d
 |0,j,k,h,_=>by omega
 |n+1,j,k,h,hk=>by
  rw[List.range_succ,List.flatMap_append,List.getD_eq_getElem?_getD,List.getElem?_append,KT hf n]
  by_cases hj:j<n
  ·have:j*w+k<n*w:=by
    have:=Nat.mul_le_mul_right w hj
    grind
   rw[if_pos this,<- List.getD_eq_getElem?_getD]
   exact Vt hf d n j k hj hk
  grind
theorem mR(d l:List U)(n i t:Nat):(du d l n i t).length=n*12:=KT (f:=gZ d l i t) (w:=12) (fun j=>rfl) n
theorem nX(d l:List U){n i t j k:Nat}(hj:j<n)(hk:k<12):(du d l n i t).getD (j*12+k) (.int 0)=(gZ d l i t j).getD k (.int 0):=Vt (f:=gZ d l i t) (w:=12) (fun j=>rfl) _ n j k hj hk
theorem aqm(d l:List U)(n i t:Nat):du d l (n+1) i t=du d l n i t++gZ d l i t n:=by
 simp_all[du,List.range_succ]
theorem R6{a b:List U}{n:Nat}(ha:a.length=n*12)(hb:b.length=n*12)(h:∀j k,j<n->k<12->U.eq (a.getD (j*12+k) (.int 0)) (b.getD (j*12+k) (.int 0))=true):U.eqs a b=true:=by
 refine Mq (by omega) fun i hi=>?_
 have:=h (i/12) (i%12) (by omega) (by omega)
 grind
theorem ap3{O:List U}{i:Nat}{cs:List U}(hc:cs.length=12)(hi:i*12+12<=O.length):(setRow O i cs).length=O.length:=by
 grind[setRow]
theorem asP{O:List U}{i:Nat}{cs:List U}(hc:cs.length=12)(hi:i*12+12<=O.length)(j k:Nat)(hk:k<12):(setRow O i cs).getD (j*12+k) (.int 0)=if j=i then cs.getD k (.int 0)else O.getD (j*12+k) (.int 0):=by
 grind[setRow]
/-- the object i has yL -/
theorem amF(d l:List U){n i:Nat}(hi:i<n):U.eqs (DF (du d l n i i) i) (du d l n (i+1) i)=true:=by
  have hL:=mR d l n i i;unfold DF;have hc:((List.range 5).map (fun j=>(du d l n i i).getD (i*12+j) (.int 0))++[U.int 0,.int 0,.int 0,.int 0,.bool false,.bool true,.bool false]).length=12:=rfl;have hb:i*12+12<=(du d l n i i).length:=by
    omega
  refine R6 (n:=n) (by simp_all[ap3]) (mR ..) fun j k hj hk=>?_
  rw[asP hc hb j k hk,nX d l (i:=i+1) (t:=i) hj hk]
  by_cases e:j=i
  · subst e
    rw[if_pos rfl]
    have g:∀q,q<12->(du d l n j j).getD _ _=(gZ d l j j j).getD q _:=fun q hq=>nX d l hj hq
    have hk':k=0\/k=1\/k=2\/k=3\/k=4\/k=5\/k=6\/k=7\/k=8\/k=9\/k=10\/k=11:=by omega
    have g0:=g 0 (by decide);have g1:=g 1 (by decide);have g2:=g 2 (by decide);have g3:=g 3 (by decide);have g4:=g 4 (by decide);rcases hk' with rfl|rfl|rfl|rfl|rfl|rfl|rfl|rfl|rfl|rfl|rfl|rfl
    · show U.eq ((du d l n j j).getD _ _) _=true
      rw[g0];exact U.eq_rfl _
    · show U.eq ((du d l n j j).getD _ _) _=true
      rw[g1];exact U.eq_rfl _
    · show U.eq ((du d l n j j).getD _ _) _=true
      rw[g2];rfl
    · show U.eq ((du d l n j j).getD _ _) _=true
      rw[g3];rfl
    · show U.eq ((du d l n j j).getD _ _) _=true
      rw[g4];rfl
    · rfl
    · rfl
    · rfl
    · rfl
    · show U.eq _ (.bool _)=true;simp[U.eq]
    · show U.eq _ (.bool _)=true;simp[U.eq]
    rfl
  · rw[if_neg e,nX d l hj hk]
    have e1:decide (j<i+1)=decide (j<i):=by rw[decide_eq_decide];omega
    simp_all[gZ,U.eq_rfl]
/-- one more has been looked at: it is tapped or not -/
theorem aF8(d l:List U){n i:Nat}(h:dV l i=false):du d l n (i+1) (i+1)=du d l n (i+1) i:=by
  unfold du;congr 1;funext j;unfold gZ;by_cases e:j=i
  · simp_all
  · have e1:decide (j<i+1)=decide (j<i):=by grind
    rw[e1]
theorem alV(d l:List U){n i:Nat}(hi:i<n)(h:dV l i=true):U.eqs ((du d l n (i+1) i).set (i*12+9) (.bool true)) (du d l n (i+1) (i+1))=true:=by
 refine R6 (n:=n) (by simp_all[mR]) (mR ..) fun j k hj hk=>?_
 rw[nX d l hj hk,List.getD_eq_getElem?_getD,List.getElem?_set,mR]
 by_cases e:i*12+9=j*12+k
 ·have e1:j=i:=by omega
  have e2:k=9:=by omega
  subst e1;subst e2
  rw[if_pos rfl,if_pos (by omega)]
  show U.eq _ (.bool _)=true;simp[U.eq,h]
 ·rw[if_neg e,<- List.getD_eq_getElem?_getD,nX d l hj hk]
  by_cases e1:j=i
  ·have hk':k=0\/k=1\/k=2\/k=3\/k=4\/k=5\/k=6\/k=7\/k=8\/k=10\/k=11:=by omega
   rcases hk' with rfl|rfl|rfl|rfl|rfl|rfl|rfl|rfl|rfl|rfl|rfl<;>exact U.eq_rfl _
  ·have e3:decide (j<i+1)=decide (j<i):=by grind
   simp_all[gZ,U.eq_rfl]
theorem Iq(a k:Nat):(eg a k).length=k:=by simp[eg]
theorem TZ(a k:Nat):eg a (k+1)=eg a k++[((a+k:Nat):Int)]:=by
 simp_all[eg,List.range_succ]
theorem ahW(a k:Nat):eg a (k+1)=((a:Nat):Int)::eg (a+1) k:=by
 unfold eg
 rw[List.range_succ_eq_map,List.map_cons,List.map_map]
 congr 1;grind[List.map_congr_left]
theorem Hl{a k:Nat}{x:Int}:x∈eg a k↔(a:Int)<=x/\x<((a+k:Nat):Int):=by
 unfold eg
 rw[List.mem_map]
 constructor
 ·grind
 ·rintro⟨h1,h2⟩;exact⟨(x-a).toNat,List.mem_range.2 (by omega),by omega⟩
theorem TH{a k:Nat}{x:Int}(h:x<a\/((a+k:Nat):Int)<=x):(eg a k).filter (fun y=>!(y==x))=eg a k:=by
 grind[List.filter_eq_self,Hl]
theorem aEv{n i:Nat}(hi:i<n)(j:Nat):km (lY n i j) ((i:Int)+1) j 1=lY n (i+1) j:=by
 unfold km lY;by_cases h20:j=20
 ·rw[if_pos h20,if_pos h20,if_neg (by omega),List.append_nil,show n-i=(n-(i+1))+1 by omega,ahW,List.filter_cons,if_neg (by simp),TH (.inl (by omega))]
 ·rw[if_neg h20,if_neg h20]
  by_cases h22:j=22
  ·rw[if_pos h22,if_pos h22,if_pos ⟨h22,rfl⟩,TH (.inr (by omega)),TZ];grind
  simp_all
theorem wE(l:List U)(k:Nat)(m:Int)(i:Nat):gO l k m (i+1)=bp l k (gO l k m i) i:=by
 simp_all[gO,List.range_succ]
/-- how many untapped ones of a colour -/
def iA(l:List U)(k i:Nat):Nat:=((List.range i).filter fun j=>!(dV l j)&&nI l j%4==(k:Int)).length
theorem Iw(l:List U)(k i:Nat):iA l k (i+1)=iA l k i+if(!(dV l i)&&nI l i%4==(k:Int))=true then 1 else 0:=by
 grind[iA,List.range_succ]
theorem te(l:List U)(k:Nat)(m:Int)(h0:0<=m)(h1:m<=99):∀i,gO l k m i=min 100 (m+iA l k i)
 |0=>by show m=min _ (m+0);omega
 |i+1=>by
  rw[wE,te l k m h0 h1 i,Iw]
  grind[bp]
theorem Nt(l:List U):∀n,iA l 0 n+iA l 1 n+iA l 2 n+iA l 3 n=((List.range n).filter fun j=>!(dV l j)).length
 |0=>rfl
 |n+1=>by
  have:=Nt l n
  grind[Iw,List.range_succ]
end Go.SX

set_option linter.unusedVariables false
set_option linter.unusedSimpArgs false
namespace Go.SX
/-! ### the board of some sources: what the runs ask -/
section
variable {F:Env} {X Y Z O P a b c d k n m x z v o i t l L id n' i' t' v0 v1 v2 m0 m1 m2 m3 h0 h1 h2 h3 g0 g1 g2 g3 l0 l1:E}
theorem mW:(E.B F (.fn 202 (.pr O (.pr d (.pr l (.pr n (.pr i t))))))=true)=(U.eqs (E.L F O) (du (E.L F d) (E.L F l) (E.I F n).toNat (E.I F i).toNat (E.I F t).toNat)=true):=rfl
theorem abw(h:E.B F (.fn 202 (.pr O (.pr d (.pr l (.pr n (.pr i t))))))=true)(e1:E.I F n=E.I F n')(e2:E.I F i=E.I F i')(e3:E.I F t=E.I F t'):E.B F (.fn 202 (.pr O (.pr d (.pr l (.pr n' (.pr i' t'))))))=true:=by
 simp_all[mW]
theorem arN(h:E.I F n<=0):E.B F (.fn 202 (.pr (.fn 10 a) (.pr d (.pr l (.pr n (.pr i t))))))=true:=by
 rw[mW,show(E.I F n).toNat=0 by omega];rfl
theorem OL(h:E.I F v≠0):v.den F=.int (E.I F v):=by
 have e:E.I F v=(v.den F).toI:=rfl
 rw[e]at h ⊢
 cases hu:v.den F with
 |int x=>rfl
 |_=>rw[hu]at h;exact absurd rfl h
def yj(v0 v1 v2:E):E:=eT [v0,v1,v2,.int 0,.int 0,.int 0,.int 0,.int 0,.int 0,.bool false,.bool false,.bool false]
theorem Sl(h0:0<=E.I F i)(e0:E.I F v0=E.I F i+1)(e2:E.I F v2=1):E.L F (yj v0 (.fn 1 (.pr d i)) v2)=gZ (E.L F d) (E.L F l) 0 0 (E.I F i).toNat:=by
 have a0:=OL (F:=F) (v:=v0) (by omega);have a2:=OL (F:=F) (v:=v2) (by omega);show [v0.den F,(E.L F d).getD (E.I F i).toNat _,v2.den F,.int 0,.int 0,.int 0,.int 0,.int 0,.int 0,.bool _,.bool _,.bool _]=_;grind[gZ]
theorem anX(hv:E.I F v2=1):E.B F (.fn 202 (.pr (yj (.int 1) (.fn 1 (.pr d (.int 0))) v2) (.pr d (.pr l (.pr (.int 1) (.pr (.int 0) (.int 0)))))))=true:=by
 rw[mW,Sl (l:=l) (i:=.int 0) (Int.le_refl _) rfl hv]
 simp_all[du,U.eqs_rfl]
theorem asg(h:E.B F (.fn 202 (.pr O (.pr d (.pr l (.pr i (.pr (.int 0) (.int 0)))))))=true)(h0:0<=E.I F i)(hm:E.I F m=E.I F i+1)(e0:E.I F v0=E.I F i+1)(e2:E.I F v2=1):
  E.B F (.fn 202 (.pr (.fn 3 (.pr O (yj v0 (.fn 1 (.pr d i)) v2))) (.pr d (.pr l (.pr m (.pr (.int 0) (.int 0)))))))=true:=by
 rw[mW]at h ⊢
 rw[hm,show(E.I F i+1).toNat=(E.I F i).toNat+1 by omega]
 have e:E.L F (.fn 3 (.pr O (yj v0 _ v2)))=E.L F O++E.L F (yj v0 (.fn 1 (.pr d i)) v2):=rfl;have e3:du _ _ _ (E.I F (.int 0)).toNat (E.I F (.int 0)).toNat=du _ _ _ 0 0++gZ (E.L F d) (E.L F l) 0 0 (E.I F i).toNat:=aqm _ _ _ 0 0
 rw[e,e3,Sl (l:=l) h0 e0 e2]
 exact vC h (U.eqs_rfl _)
theorem KL:(E.B F (.fn 215 (.pr L n))=true)=(aG F L=eg 1 (E.I F n).toNat):=by
 exact propext (beq_iff_eq (a:=aG F L) (b:=eg 1 _))
theorem azP(h:E.B F (.fn 215 (.pr L n))=true)(e:E.I F n=E.I F m):E.B F (.fn 215 (.pr L m))=true:=by simp_all[KL]
theorem aEM(h:E.B F (.fn 215 (.pr L i))=true)(h0:0<=E.I F i)(hm:E.I F m=E.I F i+1)(e0:E.I F v0=E.I F i+1):E.B F (.fn 215 (.pr (.fn 3 (.pr L (.fn 23 (.pr v0 (.fn 10 a))))) m))=true:=by
 rw[KL]at *
 rw[hm,show(E.I F i+1).toNat=(E.I F i).toNat+1 by omega,TZ,<- h]
 show((E.L F L)++[v0.den F]).map _=_
 rw[List.map_append]
 have:(v0.den F).toI=1+(E.I F i).toNat:=by
  have:E.I F v0=(v0.den F).toI:=rfl
  omega
 rw[List.map_cons,this];rfl
/-! the other cells of a new board -/
def ahD(c l0 l1 s:E):E:=eT [c,l0,.int 0,.int 0,.int 0,.int 0,.fn 30 (.int 0),.fn 30 (.int 0),.fn 30 (.int 0),.fn 30 (.int 0),.bool false,.bool false,.bool false,.int 0,.int 0,l1,.int 0,.int 0,.int 0,.int 0,s,.fn 30 (.int 0),.fn 30 (.int 0),.fn 30 (.int 0),.bool false,.bool false,.bool false,.int 0,.int 0,.fn 30 (.int 0),.fn 30 (.int 0),.fn 30 (.int 0),.fn 30 (.int 0),.int 0,.int 0,.int 0,.int (-1),.int 0]
theorem py{n:Nat}{m:List Int}(j:Nat)(h0:(j==0)=false)(h20:(j==20)=false)(hl:dJ j=true):dN n (E.I F (.int 0)).toNat m j ((E.fn 30 (.int 0)).den F)=true:=by
 unfold dN
 rw[h0,if_neg (by decide),hl,if_pos rfl,Bool.and_eq_true,beq_iff_eq]
 refine⟨?_,rfl⟩
 unfold lY
 rw[if_neg (by simp_all)]
 split<;>rfl
theorem Mt{n i:Nat}{m:List Int}(j:Nat)(h0:(j==0)=false)(hl:dJ j=false)(hr:dI j=true):dN n i m j ((E.fn 30 (.int 0)).den F)=true:=by
 unfold dN
 rw[h0,if_neg (by decide),hl,if_neg (by decide),hr,if_pos rfl,Bool.and_eq_true,beq_iff_eq]
 exact⟨Nat.zero_div _,rfl⟩
theorem uJ{n i:Nat}{m:List Int}(j:Nat)(h0:(j==0)=false)(hl:dJ j=false)(hr:dI j=false)(hf:rB j=true):dN n i m j ((E.bool false).den F)=true:=by
 unfold dN
 rw[h0,if_neg (by decide),hl,if_neg (by decide),hr,if_neg (by decide),hf,if_pos rfl];rfl
theorem fx{n i:Nat}(j:Nat)(h0:(j==0)=false)(hl:dJ j=false)(hr:dI j=false)(hf:rB j=false)(h:E.I F v=tY [0,0,0,0] j):dN n i [E.I F (.int 0),E.I F (.int 0),E.I F (.int 0),E.I F (.int 0)] j (v.den F)=true:=by
 unfold dN
 rw[h0,if_neg (by decide),hl,if_neg (by decide),hr,if_neg (by decide),hf,if_neg (by decide),beq_iff_eq]
 exact h
theorem OY(e0:E.I F l0=20)(e1:E.I F l1=20)(hs:bi (v.den F)=eg 1 (E.I F n).toNat/\cM (v.den F)=true):
  E.B F (.fn 203 (.pr (ahD c l0 l1 v) (.pr n (.pr (.int 0) (.pr (.int 0) (.pr (.int 0) (.pr (.int 0) (.pr (.int 0) (.int 0)))))))))=true:=by
 have q20:dN (E.I F n).toNat (E.I F (.int 0)).toNat [E.I F (.int 0),E.I F (.int 0),E.I F (.int 0),E.I F (.int 0)] 20 (v.den F)=true:=by
  unfold dN
  rw[if_neg (by decide),if_pos (by rfl),Bool.and_eq_true,beq_iff_eq]
  refine⟨?_,hs.2⟩
  rw[hs.1]
  rfl
 refine aEG rfl ?_
 exact⟨rfl,fx 1 rfl rfl rfl rfl e0,fx 2 rfl rfl rfl rfl rfl,fx 3 rfl rfl rfl rfl rfl,fx 4 rfl rfl rfl rfl rfl,fx 5 rfl rfl rfl rfl rfl,py 6 rfl rfl rfl,py 7 rfl rfl rfl,py 8 rfl rfl rfl,py 9 rfl rfl rfl,uJ 10 rfl rfl rfl rfl,uJ 11 rfl rfl rfl rfl,uJ 12 rfl rfl rfl rfl,fx 13 rfl rfl rfl rfl rfl,fx 14 rfl rfl rfl rfl rfl,fx 15 rfl rfl rfl rfl e1,fx 16 rfl rfl rfl rfl rfl,fx 17 rfl rfl rfl rfl rfl,fx 18 rfl rfl rfl rfl rfl,fx 19 rfl rfl rfl rfl rfl,q20,py 21 rfl rfl rfl,py 22 rfl rfl rfl,py 23 rfl rfl rfl,uJ 24 rfl rfl rfl rfl,uJ 25 rfl rfl rfl rfl,uJ 26 rfl rfl rfl rfl,fx 27 rfl rfl rfl rfl rfl,fx 28 rfl rfl rfl rfl rfl,Mt 29 rfl rfl rfl,Mt 30 rfl rfl rfl,py 31 rfl rfl rfl,Mt 32 rfl rfl rfl,fx 33 rfl rfl rfl rfl rfl,fx 34 rfl rfl rfl rfl rfl,fx 35 rfl rfl rfl rfl rfl,fx 36 rfl rfl rfl rfl rfl,fx 37 rfl rfl rfl rfl rfl,trivial⟩
theorem apN(h:E.I F n<=0):bi ((E.fn 30 a).den F)=eg 1 (E.I F n).toNat/\cM ((E.fn 30 a).den F)=true:=by
 rw[show(E.I F n).toNat=0 by omega];exact⟨rfl,rfl⟩
theorem arL(h:E.B F (.fn 215 (.pr L n))=true):bi ((E.fn 28 (.pr z L)).den F)=eg 1 (E.I F n).toNat/\cM ((E.fn 28 (.pr z L)).den F)=true:=by
 rw[KL]at h;exact⟨h,rfl⟩
theorem xx(h:E.B F (.fn 203 (.pr X (.pr n (.pr i (.pr m0 (.pr m1 (.pr m2 (.pr m3 (.int 0)))))))))=true)(j:Nat)(hj:j<38):dN (E.I F n).toNat (E.I F i).toNat [E.I F m0,E.I F m1,E.I F m2,E.I F m3] j (cX (X.den F) j)=true:=by
 simp_all[xm]
theorem aDQ(h:E.B F (.fn 203 (.pr Y (.pr n (.pr i (.pr (.int 0) (.pr (.int 0) (.pr (.int 0) (.pr (.int 0) (.int 0)))))))))=true):E.B F (.fn 203 (.pr (TF 1 Y m0 m1 m2 m3) (.pr n (.pr i (.pr m0 (.pr m1 (.pr m2 (.pr m3 (.int 0)))))))))=true:=by
 rw[xm]
 intro j hj
 rw[aBW 1 j hj]
 have hc:=xx h j hj;by_cases h16:j=16
 ·subst h16;exact beq_iff_eq.2 rfl
 by_cases h17:j=17
 ·subst h17;exact beq_iff_eq.2 rfl
 by_cases h18:j=18
 ·subst h18;exact beq_iff_eq.2 rfl
 by_cases h19:j=19
 ·subst h19;exact beq_iff_eq.2 rfl
 rw[if_neg (by omega),if_neg (by omega),if_neg (by omega),if_neg (by omega),Ko]
 grind[dN,tY]
/-! dP whose objects are in a slice of their own -/
theorem CJ(h:E.B F (.fn 203 (.pr Y (.pr n (.pr i (.pr m0 (.pr m1 (.pr m2 (.pr m3 (.int 0)))))))))=true)(c:E):∀j,0<j->j<38->dN (E.I F n).toNat (E.I F i).toNat [E.I F m0,E.I F m1,E.I F m2,E.I F m3] j (cX ((dB Y c).den F) j)=true:=fun j h0 hj=>by
 simp_all[amJ,xx]
theorem zr{n i:Nat}{m:List Int}{j:Nat}{u:U}(h:dN n i m j u=true)(hl:dJ j=true):bi u=lY n i j/\cM u=true:=by
 have h0:(j==0)=false:=by
  cases h0:(j==0)with
  |false=>rfl
  |true=>rw[beq_iff_eq]at h0;subst h0;cases hl
 unfold dN at h
 rw[h0,if_neg (by decide),hl,if_pos rfl,Bool.and_eq_true,beq_iff_eq]at h
 exact h
theorem jG{n i:Nat}{m:List Int}{j:Nat}{u:U}(h:dN n i m j u=true)(hl:dJ j=false)(hr:dI j=true):u.toL.length/(if j=32 then 2 else 5)=0/\cM u=true:=by
 have h0:(j==0)=false:=by
  cases h0:(j==0)with
  |false=>rfl
  |true=>rw[beq_iff_eq]at h0;subst h0;cases hr
 unfold dN at h
 rw[h0,if_neg (by decide),hl,if_neg (by decide),hr,if_pos rfl,Bool.and_eq_true,beq_iff_eq]at h
 exact h
theorem ar9(h:E.B F (.fn 203 (.pr Y (.pr n (.pr i (.pr m0 (.pr m1 (.pr m2 (.pr m3 (.int 0)))))))))=true):E.B F (.fn 116 (dB Y (.fn 28 (.pr z O))))=true:=by
 have g:=CJ h (.fn 28 (.pr z O));refine XV rfl (by rfl) (fun j hj hc=>?_) ?_ ?_
 ·have h0:0<j:=by
   rcases Nat.eq_zero_or_pos j with e|e
   ·subst e;rcases hc with hc|hc<;>cases hc
   omega
  cases hl:dJ j with
  |true=>exact(zr (g j h0 hj) hl).2
  |false=>
   rcases hc with hc|hc
   ·simp_all
   ·exact(jG (g j h0 hj) hl hc).2
 ·exact(jG (g 29 (by decide) (by decide)) rfl rfl).1
 ·exact(jG (g 30 (by decide) (by decide)) rfl rfl).1
theorem aCY(n i j:Nat)(hi:i<=n):(lY n i j).length<=n:=by
 unfold lY;by_cases h20:j=20
 ·simp_all[Iq]
 ·by_cases h22:j=22
  all_goals simp_all[Iq]
theorem aob(h:E.B F (.fn 202 (.pr O (.pr d (.pr l (.pr n (.pr i t))))))=true):bQ ((dB Y (.fn 28 (.pr z O))).den F)=(E.I F n).toNat:=by
 rw[mW]at h
 have e:=lJ h
 rw[mR]at e
 show(E.L F O).length/12=_
 omega
theorem YP(h:E.B F (.fn 203 (.pr Y (.pr n (.pr i (.pr m0 (.pr m1 (.pr m2 (.pr m3 (.int 0)))))))))=true)(g:E.B F (.fn 202 (.pr O (.pr d (.pr l (.pr n (.pr i t))))))=true)(hn:E.I F n<=20)(hi:E.I F i<=E.I F n)(h0:0<=E.I F i):E.B F (.fn 117 (dB Y (.fn 28 (.pr z O))))=true:=by
 have q:=CJ h (.fn 28 (.pr z O));refine aeK (fun j hj=>?_) (by grind[aob]) ?_ ?_ ?_
 ·have hj38:0<j/\j<38:=by
   unfold dJ at hj;simp only[List.contains_iff_mem,List.mem_cons,List.not_mem_nil,or_false]at hj;omega
  have e:=congrArg List.length (zr (q j hj38.1 hj38.2) hj).1;grind[uT,aCY]
 ·exact(jG (q 29 (by decide) (by decide)) rfl rfl).1
 ·exact(jG (q 30 (by decide) (by decide)) rfl rfl).1
 ·exact(jG (q 32 (by decide) (by decide)) rfl rfl).1
theorem BS(h:E.B F (.fn 203 (.pr Y (.pr n (.pr i (.pr m0 (.pr m1 (.pr m2 (.pr m3 (.int 0)))))))))=true):E.I F (.fn 9 (.pr (.fn 1 (.pr Y (.int 29))) (.int 5)))=0/\E.I F (.fn 9 (.pr (.fn 1 (.pr Y (.int 30))) (.int 5)))=0/\E.I F (.fn 9 (.pr (.fn 1 (.pr Y (.int 32))) (.int 2)))=0:=by
 have a:=(jG (xx h 29 (by decide)) rfl rfl).1;have b:=(jG (xx h 30 (by decide)) rfl rfl).1;have c:=(jG (xx h 32 (by decide)) rfl rfl).1
 rw[if_neg (by decide)]at a b
 rw[if_pos rfl]at c
 refine⟨?_,?_,?_⟩
 ·show((cX (Y.den F) 29).toL.length/5:Int)=0;omega
 ·show((cX (Y.den F) 30).toL.length/5:Int)=0;omega
 ·show((cX (Y.den F) 32).toL.length/2:Int)=0;omega
theorem qz(h:E.B F (.fn 202 (.pr O (.pr d (.pr l (.pr n (.pr i t))))))=true)(h0:0<=E.I F n):E.I F (.fn 9 (.pr (.fn 28 (.pr z O)) (.int 12)))=E.I F n/\E.I F (.fn 0 O)=E.I F n*12:=by
 rw[mW]at h
 have e:=lJ h
 rw[mR]at e
 constructor
 ·show((E.L F O).length/12:Int)=_
  omega
 ·show((E.L F O).length:Int)=_
  omega
theorem IZ(h:E.B F (.fn 202 (.pr O (.pr d (.pr l (.pr n (.pr i t))))))=true){j q:Nat}(hj:j<(E.I F n).toNat)(hq:q<12):nI (E.L F O) (j*12+q)=((gZ (E.L F d) (E.L F l) (E.I F i).toNat (E.I F t).toNat j).getD q (.int 0)).toI:=by
 rw[mW]at h
 rw[Ba h]
 grind[nI,nX]
theorem wY(h:E.B F (.fn 202 (.pr O (.pr d (.pr l (.pr n (.pr i t))))))=true)(h0:0<=E.I F x)(h1:E.I F x<E.I F n)(hk:E.I F k=E.I F x+1)(hm:E.I F m=E.I F n):E.I F (.fn 120 (.pr (dB Y (.fn 28 (.pr z O))) (.pr k m)))=E.I F x:=by
 rw[n8,hk,hm]
 have e:∀j,j<(E.I F n).toNat->oI ((dB Y (.fn 28 (.pr z O))).den F) j 0=j+1:=fun j hj=>by
  exact IZ h hj (by decide)
 have no:∀q,q<=(E.I F x).toNat->ep ((dB Y (.fn 28 (.pr z O))).den F) (E.I F x+1) q=-1:=by
  intro q;induction q with
  |zero=>intro _;rfl
  |succ q ih=>
   grind[Mk]
 rw[Ig _ _ _ _ (by omega) (no _ (Nat.le_refl _)) (by grind)]
 omega
theorem zt(h:E.B F (.fn 202 (.pr O (.pr d (.pr l (.pr n (.pr i t))))))=true)(h0:0<=E.I F x)(h1:E.I F x<E.I F n):E.I F (.fn 1 (.pr (.fn 28 (.pr z O)) (.fn 6 (.pr (.fn 8 (.pr x (.int 12))) (.int 0)))))=E.I F x+1/\E.I F (.fn 1 (.pr (.fn 28 (.pr z O)) (.fn 6 (.pr (.fn 8 (.pr x (.int 12))) (.int 2)))))=1:=by
 constructor
 ·have e:=BE (F:=F) (o:=.fn 28 (.pr z O)) (i:=x) 0 h0;refine e.trans ?_
  refine(IZ h (j:=(E.I F x).toNat) (q:=0) (by omega) (by decide)).trans ?_
  show((E.I F x).toNat:Int)+1=_
  omega
 ·have e:=BE (F:=F) (o:=.fn 28 (.pr z O)) (i:=x) 2 h0;refine e.trans ?_;exact IZ h (j:=(E.I F x).toNat) (q:=2) (by omega) (by decide)
/-! one more moves -/
theorem ahU(h:E.B F (.fn 209 (.pr P (.pr (dB Y c) (.pr k (.int 1)))))=true)(g:E.B F (.fn 203 (.pr Y (.pr n (.pr i (.pr m0 (.pr m1 (.pr m2 (.pr m3 (.int 0)))))))))=true)(h0:0<=E.I F i)(h1:E.I F i<E.I F n)(hk:E.I F k=E.I F i+1)(hm:E.I F m=E.I F i+1):
  E.B F (.fn 203 (.pr P (.pr n (.pr m (.pr m0 (.pr m1 (.pr m2 (.pr m3 (.int 0)))))))))=true:=by
 rw[xm]
 intro j hj;have a:=pk h j hj;cases h00:(j==0)with
 |true=>rw[beq_iff_eq]at h00;subst h00;rfl
 |false=>
  have hp:0<j:=by grind
  have q:=CJ g c j hp hj
  rw[hm,show(E.I F i+1).toNat=(E.I F i).toNat+1 by omega]
  unfold eS at a
  rw[h00,if_neg (by decide)]at a
  cases hl:dJ j with
  |true=>
   rw[hl,if_pos rfl,Bool.and_eq_true,beq_iff_eq]at a
   have e:=(zr q hl).1;unfold dN
   rw[h00,if_neg (by decide),hl,if_pos rfl,Bool.and_eq_true,beq_iff_eq]
   refine⟨?_,a.2⟩
   rw[a.1,e,hk,show E.I F i+1=(E.I F i).toNat+1 by omega]
   exact aEv (by omega) j
  |false=>
   rw[hl,if_neg (by decide)]at a
   unfold dN
   rw[h00,if_neg (by decide),hl,if_neg (by decide)]
   cases hr:dI j with
   |true=>simp_all
   |false=>
    rw[hr,if_neg (by decide)]at a
    unfold dN at q
    rw[h00,if_neg (by decide),hl,if_neg (by decide),hr,if_neg (by decide)]at q
    cases hf:rB j with
    |true=>rw[hf,if_pos rfl]at q;rw[if_pos rfl,QI a];exact q
    |false=>rw[hf,if_neg (by decide)]at q;rw[if_neg (by decide),L4 a];exact q
theorem aaP(h:E.B F (.fn 206 (.pr x (.pr (.fn 28 (.pr z O)) k)))=true)(g:E.B F (.fn 202 (.pr O (.pr d (.pr l (.pr n (.pr i i))))))=true)(h0:0<=E.I F i)(h1:E.I F i<E.I F n)(hk:E.I F k=E.I F i):U.eqs (E.L F x) (du (E.L F d) (E.L F l) (E.I F n).toNat ((E.I F i).toNat+1) (E.I F i).toNat)=true:=by
 rw[Px,hk]at h
 refine U.eqs_trans _ _ _ h (U.eqs_trans _ _ _ ?_ (amF _ _ (by omega)));refine aaw g _ ?_;refine vC ?_ (U.eqs_rfl _);refine Mq (by simp) fun q hq=>?_
 have hq5:q<5:=by simp_all
 rw[List.getD_eq_getElem?_getD,List.getElem?_map,List.getElem?_range hq5,List.getD_eq_getElem?_getD,List.getElem?_map,List.getElem?_range hq5]
 exact ww _ g
theorem azH(h:E.B F (.fn 206 (.pr x (.pr (.fn 28 (.pr z O)) k)))=true)(g:E.B F (.fn 202 (.pr O (.pr d (.pr l (.pr n (.pr i i))))))=true)(h0:0<=E.I F i)(h1:E.I F i<E.I F n)(hk:E.I F k=E.I F i)(hm:E.I F m=E.I F i+1)(ht:dV (E.L F l) (E.I F i).toNat=false):
  E.B F (.fn 202 (.pr x (.pr d (.pr l (.pr n (.pr m m))))))=true:=by
 have a:=aaP h g h0 h1 hk;grind[mW,aF8]
theorem atf(h:E.B F (.fn 206 (.pr x (.pr (.fn 28 (.pr z O)) k)))=true)(g:E.B F (.fn 202 (.pr O (.pr d (.pr l (.pr n (.pr i i))))))=true)(h0:0<=E.I F i)(h1:E.I F i<E.I F n)(hk:E.I F k=E.I F i)(hm:E.I F m=E.I F i+1)(ht:dV (E.L F l) (E.I F i).toNat=true):
  E.B F (.fn 202 (.pr (.fn 2 (.pr x (.pr (.fn 6 (.pr (.fn 8 (.pr i (.int 12))) (.int 9))) (.bool true)))) (.pr d (.pr l (.pr n (.pr m m))))))=true:=by
 have a:=aaP h g h0 h1 hk
 rw[mW,hm,show(E.I F i+1).toNat=(E.I F i).toNat+1 by omega]
 have e:E.L F (.fn 2 (.pr x (.pr (.fn 6 (.pr (.fn 8 (.pr i (.int 12))) (.int 9))) (.bool true))))=(E.L F x).set ((E.I F i).toNat*12+9) (.bool true):=by
  show(E.L F x).set (E.I F i*12+9).toNat (.bool _)=_
  grind
 rw[e]
 exact U.eqs_trans _ _ _ (H4 _ a (U.eq_rfl _)) (alV _ _ (by omega) ht)
/-! the numbers -/
theorem Yl(h:E.B F (.fn 27 (.pr (.fn 23 (.pr (.int 4) (.fn 10 (.int 0)))) l))=true)(j:Nat):0<=nI (E.L F l) j/\nI (E.L F l) j<=255:=by
 have a:=ajM (i:=.int (Int.ofNat j)) (w:=1) (j:=0) (k:=4) h rfl rfl (by decide) (Int.natCast_nonneg j);have e:E.I F (.fn 1 (.pr l (.fn 6 (.pr (.fn 8 (.pr (.int (Int.ofNat j)) (.int (1:Nat)))) (.int (0:Nat))))))=nI (E.L F l) j:=by
  show nI (E.L F l) ((j:Int)*1+0).toNat=_;simp_all
 rw[e]at a
 exact a
theorem Ta{q:Int}(h:0<=E.I F v):E.I F (.ar .rem .u8 v (.int q))=E.I F v%q:=by
 show(E.I F v).tmod q=_
 grind
theorem vw:E.I F (.fn 1 (.pr l i))=nI (E.L F l) (E.I F i).toNat:=rfl
theorem qB:(E.B F (.fn 204 (.pr d (.pr l i)))=true)=((E.L F d).length=(E.L F l).length/\∀j,j<(E.I F i).toNat->nI (E.L F d) j=nI (E.L F l) j%4):=by
 have e:E.B F (.fn 204 (.pr d (.pr l i)))=GM (E.L F d) (E.L F l) (E.I F i).toNat:=rfl;simp_all[GM]
theorem aDJ(h:E.I F n=E.I F (.fn 0 l)):E.B F (.fn 204 (.pr (.fn 5 (.pr n (.int 0))) (.pr l (.int 0))))=true:=by
 rw[qB]
 refine⟨?_,fun j hj=>absurd hj (Nat.not_lt_zero j)⟩
 show(List.replicate (E.I F n).toNat _).length=_
 rw[List.length_replicate,h]
 rfl
theorem asD(h:E.B F (.fn 204 (.pr d (.pr l i)))=true)(e:E.I F i=E.I F n):E.B F (.fn 204 (.pr d (.pr l n)))=true:=by simp_all[qB]
theorem aDK(h:E.B F (.fn 204 (.pr d (.pr l i)))=true)(ht:E.B F (.fn 27 (.pr (.fn 23 (.pr (.int 4) (.fn 10 (.int 0)))) l))=true)(h0:0<=E.I F i)(h1:E.I F i<E.I F (.fn 0 l))(hm:E.I F m=E.I F i+1):
  E.B F (.fn 204 (.pr (.fn 2 (.pr d (.pr i (.wr .i64 (.ar .rem .u8 (.fn 1 (.pr l i)) (.int 4)))))) (.pr l m)))=true:=by
 rw[qB]at *
 obtain⟨e1,e2⟩:=h
 have g:=Yl ht (E.I F i).toNat;have er:E.I F (.wr .i64 (.ar .rem .u8 (.fn 1 (.pr l i)) (.int 4)))=nI (E.L F l) (E.I F i).toNat%4:=by
  have a:=Ta (F:=F) (v:=.fn 1 (.pr l i)) (q:=4) (by simp_all[vw]);have b:E.I F (.wr _ _)=IntKind.i64.wrap (E.I F (.ar .rem .u8 (.fn 1 (.pr l i)) (.int 4))):=rfl;grind[vw,ahd]
 have hl:(E.L F l).length=E.I F (.fn 0 l):=rfl;have eL:E.L F (.fn 2 (.pr d (.pr i (.wr _ _))))=(E.L F d).set (E.I F i).toNat ((E.wr .i64 (.ar .rem .u8 (.fn 1 (.pr l i)) (.int 4))).den F):=rfl
 rw[eL,List.length_set]
 refine⟨e1,fun j hj=>?_⟩
 unfold nI
 rw[List.getD_eq_getElem?_getD,List.getElem?_set]
 by_cases hji:(E.I F i).toNat=j
 ·rw[if_pos hji,if_pos (by omega),<- hji]
  exact er
 ·rw[if_neg hji,<- List.getD_eq_getElem?_getD]
  exact e2 j (by omega)
theorem VT:(E.B F (.fn 214 d)=true)=(∀x∈aG F d,0<=x/\x<4):=by
 have e:E.B F (.fn 214 d)=(aG F d).all _:=rfl;simp_all
theorem aAm(h:E.B F (.fn 204 (.pr d (.pr l n)))=true){j:Nat}(hj:j<(E.I F n).toNat):0<=nI (E.L F d) j/\nI (E.L F d) j<4:=by
 grind[qB]
theorem au5(h:E.B F (.fn 204 (.pr d (.pr l n)))=true)(hn:E.I F n=E.I F (.fn 0 l)):E.B F (.fn 214 d)=true:=by
 rw[VT]
 intro x hx
 obtain⟨u,hu,rfl⟩:=List.mem_map.1 hx
 obtain⟨j,hj⟩:=List.getElem?_of_mem hu
 have e:nI (E.L F d) j=u.toI:=by simp_all[nI]
 have h2:=h
 rw[qB]at h2
 have hl2:(E.L F l).length=E.I F (.fn 0 l):=rfl;grind
theorem ji(h:E.B F (.fn 204 (.pr d (.pr l n)))=true)(h0:0<=E.I F i)(h1:E.I F i<E.I F n):E.I F (.fn 1 (.pr d i))=nI (E.L F l) (E.I F i).toNat%4:=by
 grind[qB,vw]
theorem DX(h:E.B F (.fn 214 d)=true):0<=E.I F (.fn 1 (.pr d i))/\E.I F (.fn 1 (.pr d i))<4:=by
 rw[VT]at h
 rw[vw]
 unfold nI
 rw[List.getD_eq_getElem?_getD]
 cases e:(E.L F d)[(E.I F i).toNat]? with
 |none=>exact⟨by decide,by decide⟩
 |some u=>exact h _ (List.mem_map_of_mem (List.mem_of_getElem? e))
theorem gT(ht:E.B F (.fn 27 (.pr (.fn 23 (.pr (.int 4) (.fn 10 (.int 0)))) l))=true):dV (E.L F l) (E.I F i).toNat=decide (3<E.I F (.ar .rem .u8 (.fn 1 (.pr l i)) (.int 8))):=by
 rw[Ta (by simp_all[vw,Yl]),vw];rfl
/-! what there is to have -/
theorem bC(l:List U)(k:Nat)(h:Int)(j:Nat):bp l k h j=if dV l j=false/\nI l j%4=(k:Int)/\0<=h/\h<100 then h+1 else h:=by
 grind[bp]
theorem yh:(E.B F (.fn 205 (.pr h0 (.pr h1 (.pr h2 (.pr h3 (.pr m0 (.pr m1 (.pr m2 (.pr m3 (.pr l (.pr i (.int 0))))))))))))=true)=
  (E.I F h0=gO (E.L F l) 0 (E.I F m0) (E.I F i).toNat/\E.I F h1=gO (E.L F l) 1 (E.I F m1) (E.I F i).toNat/\E.I F h2=gO (E.L F l) 2 (E.I F m2) (E.I F i).toNat/\E.I F h3=gO (E.L F l) 3 (E.I F m3) (E.I F i).toNat):=by
 have e:E.B F (.fn 205 (.pr h0 (.pr h1 (.pr h2 (.pr h3 (.pr m0 (.pr m1 (.pr m2 (.pr m3 (.pr l (.pr i (.int 0))))))))))))=((E.I F h0==gO (E.L F l) 0 (E.I F m0) (E.I F i).toNat)&&((E.I F h1==gO (E.L F l) 1 (E.I F m1) (E.I F i).toNat)&&((E.I F h2==gO (E.L F l) 2 (E.I F m2) (E.I F i).toNat)&&((E.I F h3==gO (E.L F l) 3 (E.I F m3) (E.I F i).toNat)&&true)))):=rfl;simp_all
theorem auW:E.B F (.fn 205 (.pr m0 (.pr m1 (.pr m2 (.pr m3 (.pr m0 (.pr m1 (.pr m2 (.pr m3 (.pr l (.pr (.int 0) (.int 0))))))))))))=true:=by
 rw[yh];exact⟨rfl,rfl,rfl,rfl⟩
theorem iY(h:E.B F (.fn 205 (.pr h0 (.pr h1 (.pr h2 (.pr h3 (.pr m0 (.pr m1 (.pr m2 (.pr m3 (.pr l (.pr i (.int 0))))))))))))=true)(p0:0<=E.I F i)(hm:E.I F m=E.I F i+1)
  (e0:E.I F g0=bp (E.L F l) 0 (E.I F h0) (E.I F i).toNat)(e1:E.I F g1=bp (E.L F l) 1 (E.I F h1) (E.I F i).toNat)(e2:E.I F g2=bp (E.L F l) 2 (E.I F h2) (E.I F i).toNat)(e3:E.I F g3=bp (E.L F l) 3 (E.I F h3) (E.I F i).toNat):
  E.B F (.fn 205 (.pr g0 (.pr g1 (.pr g2 (.pr g3 (.pr m0 (.pr m1 (.pr m2 (.pr m3 (.pr l (.pr m (.int 0))))))))))))=true:=by
 rw[yh]at *
 rw[hm,show(E.I F i+1).toNat=(E.I F i).toNat+1 by omega,wE,wE,wE,wE,<- h.1,<- h.2.1,<- h.2.2.1,<- h.2.2.2]
 omega
end
end Go.SX

set_option linter.unusedVariables false
set_option linter.unusedSimpArgs false
set_option linter.unusedSectionVars false
namespace Go.SX
/-! ### the board of some sources is valid, and what can be paid -/
theorem xY{X:U}{n i:Nat}{m:List Int}{j:Nat}(h:dN n i m j (cX X j)=true)(h0:(j==0)=false)(hl:dJ j=false)(hr:dI j=false)(hf:rB j=false):iX X j=tY m j:=by
 unfold dN at h
 rw[h0,if_neg (by decide),hl,if_neg (by decide),hr,if_neg (by decide),hf,if_neg (by decide),beq_iff_eq]at h
 exact h
theorem agm{d l:List U}{n i j:Nat}(hj:j<n)(hn:n<=20)(hd:0<=nI d j/\nI d j<4){X:U}(hO:U.eqs (cX X 0).toL (du d l n i i)=true):mu X j=true:=by
 have g:∀q,q<12->oI X j q=((gZ d l i i j).getD q (.int 0)).toI:=fun q hq=>by
  unfold oI
  rw[Ba hO];grind[nI,nX]
 have g0:=g 0 (by decide);have g1:=g 1 (by decide);have g2:=g 2 (by decide);have g3:=g 3 (by decide);have g4:=g 4 (by decide);have g5:=g 5 (by decide);have g6:=g 6 (by decide);have g7:=g 7 (by decide);have g8:=g 8 (by decide);have e0:oI X j 0=j+1:=g0;have e1:oI X j 1=nI d j:=g1;have e2:oI X j 2=1:=g2;have e3:oI X j 3=0:=g3;have e4:oI X j 4=0:=g4;have e5:oI X j 5=0:=g5;have e6:oI X j 6=0:=g6;have e7:oI X j 7=0:=g7;have e8:oI X j 8=0:=g8;grind[mu,cp]
section
variable {X:U} {d l:List U} {n:Nat} {m:List Int}
variable (hc:∀j,0<j->j<38->dN n n m j (cX X j)=true) (hO:U.eqs (cX X 0).toL (du d l n n n)=true) (hd:∀j,j<n->0<=nI d j/\nI d j<4) (hn:n<=20)
include hc hO hd hn
theorem acU(z:Nat)(hz:z<8):ba X z=if z=6 then eg 1 n else []:=by
 have hl:dJ (6+14*(z/4)+z%4)=true:=by
  have:z=0\/z=1\/z=2\/z=3\/z=4\/z=5\/z=6\/z=7:=by omega
  rcases this with rfl|rfl|rfl|rfl|rfl|rfl|rfl|rfl<;>rfl
 have e:=(zr (hc _ (by omega) (by omega)) hl).1;unfold ba
 rw[e]
 unfold lY
 have:z=0\/z=1\/z=2\/z=3\/z=4\/z=5\/z=6\/z=7:=by omega
 rcases this with rfl|rfl|rfl|rfl|rfl|rfl|rfl|rfl
 ·rfl
 ·rfl
 ·rfl
 ·rfl
 ·rw[if_pos (by rfl),if_neg (by decide),show n-n=0 by omega];rfl
 all_goals rfl
theorem M6:bQ X=n:=by
 grind[lJ,mR,bQ]
theorem xB{j q:Nat}(hj:j<n)(hq:q<12):oI X j q=((gZ d l n n j).getD q (.int 0)).toI:=by
 unfold oI
 rw[Ba hO];grind[nI,nX]
theorem Ui:cN X=0/\(cX X 30).toL.length/5=0/\fD X=0/\bj X=[]:=by
 have a:=(jG (hc 29 (by decide) (by decide)) rfl rfl).1;have b:=(jG (hc 30 (by decide) (by decide)) rfl rfl).1;have c:=(jG (hc 32 (by decide) (by decide)) rfl rfl).1;have e:=(zr (hc 31 (by decide) (by decide)) rfl).1
 exact⟨a,b,c,e⟩
theorem alN:nW X=true:=by
 obtain⟨e1,e2,e3,e4⟩:=Ui hc hO hd hn
 have hz:=acU hc hO hd hn;unfold nW
 rw[e1,M6 hc hO hd hn]
 rw[Bool.and_eq_true,Bool.and_eq_true]
 refine⟨⟨rfl,?_⟩,?_⟩
 ·unfold ry
  rw[List.all_eq_true]
  intro i hi
  rw[List.mem_range]at hi
  have k0:∀j,j<n->oI X j 0=(j:Int)+1:=fun j hj=>xB hc hO hd hn hj (q:=0) (by decide)
  have k2:oI X i 2=1:=xB hc hO hd hn hi (q:=2) (by decide)
  rw[Bool.and_eq_true,Bool.and_eq_true]
  refine⟨⟨agm hi hn (hd i hi) hO,?_⟩,?_⟩
  ·grind
  ·rw[k2,k0 i hi,beq_iff_eq]
   unfold mj nz
   rw[e1]
   have:mY X (1:Int).toNat 4 ((i:Int)+1)=1:=by
    unfold mY;have h4:=hz 4 (by decide);have h5:=hz 5 (by decide);have h6:=hz 6 (by decide);have h7:=hz 7 (by decide);have er:((List.range 4).flatMap fun z=>ba X (4*(1:Int).toNat+z))=ba X 4++(ba X 5++(ba X 6++(ba X 7++[]))):=rfl
    rw[er,h4,h5,h6,h7,if_neg (by decide),if_neg (by decide),if_pos rfl,if_neg (by decide)]
    simp only[List.nil_append,List.append_nil];grind [CP, Hl, eg, List.Nodup, List.pairwise_lt_range]
   simp_all
 ·unfold sd
  rw[e1,beq_iff_eq]
  have er:((List.range 8).map fun z=>(ba X z).length).sum=(ba X 0).length+((ba X 1).length+((ba X 2).length+((ba X 3).length+((ba X 4).length+((ba X 5).length+((ba X 6).length+((ba X 7).length+0))))))):=rfl
  rw[er,hz 0 (by decide),hz 1 (by decide),hz 2 (by decide),hz 3 (by decide),hz 4 (by decide),hz 5 (by decide),hz 6 (by decide),hz 7 (by decide),if_pos rfl,if_neg (by decide),if_neg (by decide),if_neg (by decide),if_neg (by decide),if_neg (by decide),if_neg (by decide),if_neg (by decide),Iq]
  show 0+(0+(0+(0+(0+(0+(n+(0+0)))))))+(gS X 0).length=n
  have:(gS X 0).length=0:=rfl
  omega
theorem afL:(kf X=true)=(∀k,k<4->0<=m.getD k 0/\m.getD k 0<=99):=by
 obtain⟨e1,e2,e3,e4⟩:=Ui hc hO hd hn
 have num:∀j,0<j->j<38->(j==0)=false->dJ j=false->dI j=false->rB j=false->iX X j=tY m j:=fun j a b c d e f=>xY (hc j a b) c d e f
 have n1:iX X 1=20:=num 1 (by decide) (by decide) rfl rfl rfl rfl;have n2:iX X 2=0:=num 2 (by decide) (by decide) rfl rfl rfl rfl;have n3:iX X 3=0:=num 3 (by decide) (by decide) rfl rfl rfl rfl;have n4:iX X 4=0:=num 4 (by decide) (by decide) rfl rfl rfl rfl;have n5:iX X 5=0:=num 5 (by decide) (by decide) rfl rfl rfl rfl;have n13:iX X 13=0:=num 13 (by decide) (by decide) rfl rfl rfl rfl;have n14:iX X 14=0:=num 14 (by decide) (by decide) rfl rfl rfl rfl;have n15:iX X 15=20:=num 15 (by decide) (by decide) rfl rfl rfl rfl;have n16:iX X 16=m.getD 0 0:=num 16 (by decide) (by decide) rfl rfl rfl rfl;have n17:iX X 17=m.getD 1 0:=num 17 (by decide) (by decide) rfl rfl rfl rfl;have n18:iX X 18=m.getD 2 0:=num 18 (by decide) (by decide) rfl rfl rfl rfl;have n19:iX X 19=m.getD 3 0:=num 19 (by decide) (by decide) rfl rfl rfl rfl;have n27:iX X 27=0:=num 27 (by decide) (by decide) rfl rfl rfl rfl;have n28:iX X 28=0:=num 28 (by decide) (by decide) rfl rfl rfl rfl;have n33:iX X 33=0:=num 33 (by decide) (by decide) rfl rfl rfl rfl;have n34:iX X 34=0:=num 34 (by decide) (by decide) rfl rfl rfl rfl;have n35:iX X 35=0:=num 35 (by decide) (by decide) rfl rfl rfl rfl;have n36:iX X 36=-1:=num 36 (by decide) (by decide) rfl rfl rfl rfl;have n37:iX X 37=0:=num 37 (by decide) (by decide) rfl rfl rfl rfl;have hnum:oJ X=true:=by
  unfold oJ
  rw[n33,n34,n35,n36,n37,e1,e2,M6 hc hO hd hn]
  simp only[cp,Bool.and_eq_true,decide_eq_true_eq];omega
 have hs0:gL X 0=true:=by
  unfold gL;simp only[List.all_cons,List.all_nil,Nat.mul_zero,Nat.add_zero,n1,n2,n3,n4,n5,n13,n14];rfl
 have hs1:(gL X 1=true)=(∀k,k<4->0<=m.getD k 0/\m.getD k 0<=99):=by
  unfold gL;simp only[List.all_cons,List.all_nil,Nat.mul_one,n15,n16,n17,n18,n19,n27,n28,cp,Bool.and_eq_true,decide_eq_true_eq,Bool.and_true];grind
 have hit:o8 X=true:=by
  unfold o8
  rw[e1,e2];rfl
 have hfi:nj X=true:=by
  unfold nj
  rw[e3,e4];rfl
 unfold kf
 rw[hnum,hs0,hit,alN hc hO hd hn,hfi,<- hs1]
 simp
/-- what the sources are -/
theorem ax5(C:List U)(hC:∀c:Int,0<=c->c<4->dz C c 1=1/\dz C c 7=c):iM C X 1 n=(List.range n).flatMap fun i=>if dV l i then [] else [((i:Nat):Int)+1,nI d i]:=by
  unfold iM;have key:∀i∈List.range n,(fun i=>if oI X i 2==1 && !((cX X 0).toL.getD (i*12+9) (.bool false)).toB&&dz C (oI X i 1) 1==1&&decide (0<=dz C (oI X i 1) 7)&&decide (dz C (oI X i 1) 7<4)&&(ba X (4*(1:Int).toNat+2)).contains (oI X i 0)then [oI X i 0,dz C (oI X i 1) 7] else []) i=(fun i=>if dV l i then [] else [((i:Nat):Int)+1,nI d i]) i:=by
    intro i hi
    rw[List.mem_range]at hi
    have k0:oI X i 0=(i:Int)+1:=xB hc hO hd hn hi (q:=0) (by decide);have k1:oI X i 1=nI d i:=xB hc hO hd hn hi (q:=1) (by decide);have k2:oI X i 2=1:=xB hc hO hd hn hi (q:=2) (by decide);have kt:((cX X 0).toL.getD (i*12+9) (.bool false)).toB=dV l i:=by
      have hlen:=lJ hO
      rw[mR]at hlen
      have g:=ww (i*12+9) hO
      rw[nX _ _ hi (by decide)]at g
      have g2:=QI g
      rw[aEf _ (by omega) (.bool false) (.int 0),g2]
      show(decide (i<n)&&dV l i)=dV l i
      simp_all
    have hz:ba X (4*(1:Int).toNat+2)=eg 1 n:=by
      have:=acU hc hO hd hn 6 (by decide)
      simp_all
    grind[nI,eg,Int,List.contains_iff_mem,Hl,decide_eq_true,dV]
  simp_all[List.flatMap_def,List.map_congr_left]
end
/-- counted, and how many -/
theorem KV(d l:List U)(k:Nat):∀n,(∀j,j<n->nI d j=nI l j%4)->(cn ((List.range n).flatMap fun i=>if dV l i then [] else [((i:Nat):Int)+1,nI d i])).count (k:Int)=iA l k n/\((List.range n).flatMap fun i=>if dV l i then [] else [((i:Nat):Int)+1,nI d i]).length=2*((List.range n).filter fun j=>!(dV l j)).length
  |0,_=>⟨rfl,rfl⟩
  |n+1,h=>by
    obtain⟨a,b⟩:=KV d l k n fun j hj=>h j (by omega)
    rw[List.range_succ,List.flatMap_append,ab0 _ _ (by omega),List.count_append,List.length_append,List.filter_append,List.length_append,Iw,a,b]
    cases ht:dV l n with
    |true=>simp[ht,cn]
    |false=>
      by_cases e:nI l n%4=k
      all_goals grind[cn]
end Go.SX

set_option linter.unusedVariables false
set_option linter.unusedSimpArgs false
namespace Go.SX
section
variable {F:Env} {X Y Z O P C a b c d k n m x z v o i t l L id p c0 c1 c2 c3 m0 m1 m2 m3 h0 h1 h2 h3:E}
theorem ahk(h:E.B F (.fn 203 (.pr Y (.pr n (.pr i (.pr m0 (.pr m1 (.pr m2 (.pr m3 (.int 0)))))))))=true)(e:E.I F i=E.I F k):E.B F (.fn 203 (.pr Y (.pr n (.pr k (.pr m0 (.pr m1 (.pr m2 (.pr m3 (.int 0)))))))))=true:=by
 simp_all[xm]
theorem yq(h:E.B F (.fn 205 (.pr h0 (.pr h1 (.pr h2 (.pr h3 (.pr m0 (.pr m1 (.pr m2 (.pr m3 (.pr l (.pr i (.int 0))))))))))))=true)(e:E.I F i=E.I F k):E.B F (.fn 205 (.pr h0 (.pr h1 (.pr h2 (.pr h3 (.pr m0 (.pr m1 (.pr m2 (.pr m3 (.pr l (.pr k (.int 0))))))))))))=true:=by
 simp_all[yh]
/-- what is known at the end of the loop -/
def k9(F:Env)(Y O d l n m0 m1 m2 m3:E):Prop:=E.B F (.fn 203 (.pr Y (.pr n (.pr n (.pr m0 (.pr m1 (.pr m2 (.pr m3 (.int 0)))))))))=true/\E.B F (.fn 202 (.pr O (.pr d (.pr l (.pr n (.pr n n))))))=true/\E.B F (.fn 204 (.pr d (.pr l n)))=true/\0<=E.I F n/\E.I F n<=20
theorem xd(h:E.B F (.fn 203 (.pr Y (.pr n (.pr i (.pr m0 (.pr m1 (.pr m2 (.pr m3 (.int 0)))))))))=true)(g:E.B F (.fn 202 (.pr O (.pr d (.pr l (.pr n (.pr i i))))))=true)(q:E.B F (.fn 204 (.pr d (.pr l n)))=true)(e1:E.I F i<=E.I F n)(e2:E.I F n<=E.I F i)(e0:0<=E.I F n)(e3:E.I F n<=20):k9 F Y O d l n m0 m1 m2 m3:=by
 have e:E.I F i=E.I F n:=by omega
 exact⟨ahk h e,abw g rfl e e,q,e0,e3⟩
theorem Kv(h:k9 F Y O d l n m0 m1 m2 m3):(∀j,0<j->j<38->dN (E.I F n).toNat (E.I F n).toNat [E.I F m0,E.I F m1,E.I F m2,E.I F m3] j (cX ((dB Y (.fn 28 (.pr z O))).den F) j)=true)/\
  U.eqs (cX ((dB Y (.fn 28 (.pr z O))).den F) 0).toL (du (E.L F d) (E.L F l) (E.I F n).toNat (E.I F n).toNat (E.I F n).toNat)=true/\(∀j,j<(E.I F n).toNat->0<=nI (E.L F d) j/\nI (E.L F d) j<4)/\(E.I F n).toNat<=20:=by
 obtain⟨h1,h2,h3,h4,h5⟩:=h
 refine⟨CJ h1 _,?_,fun j hj=>aAm h3 hj,by omega⟩
 exact h2
theorem vf(h:k9 F Y O d l n m0 m1 m2 m3)(hp:E.I F p=1):(E.B F (.fn 145 (.pr (dB Y (.fn 28 (.pr z O))) p))=true)=((0<=E.I F m0/\E.I F m0<=99)/\(0<=E.I F m1/\E.I F m1<=99)/\(0<=E.I F m2/\E.I F m2<=99)/\(0<=E.I F m3/\E.I F m3<=99)):=by
 obtain⟨a1,a2,a3,a4⟩:=Kv (z:=z) h
 rw[xg]
 unfold jE
 rw[hp]
 have e:cp 0 1 1=true:=rfl
 rw[e,Bool.true_and,afL a1 a2 a3 a4]
 refine propext ⟨fun g=>⟨g 0 (by decide),g 1 (by decide),g 2 (by decide),g 3 (by decide)⟩,fun g k hk=>?_⟩;grind
theorem ahZ(h:k9 F Y O d l n m0 m1 m2 m3)(hp:E.I F p=1):(d8 F C (dB Y (.fn 28 (.pr z O))) p).1.getD 0 0=E.I F m0/\(d8 F C (dB Y (.fn 28 (.pr z O))) p).1.getD 1 0=E.I F m1/\(d8 F C (dB Y (.fn 28 (.pr z O))) p).1.getD 2 0=E.I F m2/\(d8 F C (dB Y (.fn 28 (.pr z O))) p).1.getD 3 0=E.I F m3:=by
 obtain⟨a1,_⟩:=Kv (z:=z) h
 obtain⟨p0,p1,p2,p3⟩:=aGD (C:=C) (X:=dB Y _) hp
 have n16:=xY (a1 16 (by decide) (by decide)) rfl rfl rfl rfl;have n17:=xY (a1 17 (by decide) (by decide)) rfl rfl rfl rfl;have n18:=xY (a1 18 (by decide) (by decide)) rfl rfl rfl rfl;have n19:=xY (a1 19 (by decide) (by decide)) rfl rfl rfl rfl
 exact⟨p0.trans n16,p1.trans n17,p2.trans n18,p3.trans n19⟩
theorem anS(h:k9 F Y O d l n m0 m1 m2 m3)(hp:E.I F p=1)(hC:∀c:Int,0<=c->c<4->dz (E.L F C) c 1=1/\dz (E.L F C) c 7=c):
  (∀k:Nat,vj k (d8 F C (dB Y (.fn 28 (.pr z O))) p).2.1=iA (E.L F l) k (E.I F n).toNat)/\(d8 F C (dB Y (.fn 28 (.pr z O))) p).2.1.length=2*((List.range (E.I F n).toNat).filter fun j=>!(dV (E.L F l) j)).length:=by
 obtain⟨a1,a2,a3,a4⟩:=Kv (z:=z) h
 have e:(d8 F C _ p).2.1=iM _ _ _ (bQ ((dB Y (.fn 28 (.pr z O))).den F)):=rfl;have hd:=h.2.2.1
 rw[qB]at hd
 rw[e,hp,M6 a1 a2 a3 a4,ax5 a1 a2 a3 a4 _ hC]
 constructor
 ·intro k;unfold vj
  rw[(KV _ _ k _ hd.2).1]
 ·exact(KV _ _ 0 _ hd.2).2
theorem wu(h:k9 F Y O d l n m0 m1 m2 m3)(hp:E.I F p=1)(hC:∀c:Int,0<=c->c<4->dz (E.L F C) c 1=1/\dz (E.L F C) c 7=c)
  (hh:E.B F (.fn 205 (.pr h0 (.pr h1 (.pr h2 (.pr h3 (.pr m0 (.pr m1 (.pr m2 (.pr m3 (.pr l (.pr n (.int 0))))))))))))=true)(hf:E.B F (.fn 145 (.pr (dB Y (.fn 28 (.pr z O))) p))=true)(hc:E.B F (.fn 146 (.pr c0 (.pr c1 (.pr c2 (.pr c3 a)))))=true):
  (E.B F (.fn 182 (.pr c0 (.pr c1 (.pr c2 (.pr c3 (.pr a (.pr C (.pr (dB Y (.fn 28 (.pr z O))) (.pr p (.int 0))))))))))=true)=(E.I F c0<=E.I F h0/\E.I F c1<=E.I F h1/\E.I F c2<=E.I F h2/\E.I F c3<=E.I F h3/\E.I F c0+E.I F c1+E.I F c2+E.I F c3+E.I F a<=E.I F h0+E.I F h1+E.I F h2+E.I F h3):=by
 obtain⟨p0,p1,p2,p3⟩:=ahZ (C:=C) (z:=z) h hp
 obtain⟨s1,s2⟩:=anS (z:=z) h hp hC
 have hf2:=hf
 rw[vf h hp]at hf2
 rw[yh]at hh
 obtain⟨b0,b1,b2,b3⟩:=hh
 obtain⟨f0,f1,f2,f3⟩:=hf2
 have k0:=te (E.L F l) 0 _ f0.1 f0.2 (E.I F n).toNat;have k1:=te (E.L F l) 1 _ f1.1 f1.2 (E.I F n).toNat;have k2:=te (E.L F l) 2 _ f2.1 f2.2 (E.I F n).toNat;have k3:=te (E.L F l) 3 _ f3.1 f3.2 (E.I F n).toNat;have sc:=Nt (E.L F l) (E.I F n).toNat
 rw[aaW]
 have q0:hv F C (dB Y (.fn 28 (.pr z O))) p 0=E.I F m0+iA (E.L F l) 0 (E.I F n).toNat:=by simp_all[hv,bW]
 have q1:hv F C (dB Y (.fn 28 (.pr z O))) p 1=E.I F m1+iA (E.L F l) 1 (E.I F n).toNat:=by simp_all[hv,bW]
 have q2:hv F C (dB Y (.fn 28 (.pr z O))) p 2=E.I F m2+iA (E.L F l) 2 (E.I F n).toNat:=by simp_all[hv,bW]
 have q3:hv F C (dB Y (.fn 28 (.pr z O))) p 3=E.I F m3+iA (E.L F l) 3 (E.I F n).toNat:=by simp_all[hv,bW]
 have q4:tt F C (dB Y (.fn 28 (.pr z O))) p=E.I F m0+E.I F m1+E.I F m2+E.I F m3+((List.range (E.I F n).toNat).filter fun j=>!(dV (E.L F l) j)).length:=by
  simp_all[tt,af]
 have hc2:=hc
 rw[bP]at hc2
 refine propext ⟨fun⟨_,_,w⟩=>by omega,fun w=>⟨hf,hc,by omega⟩⟩
theorem Em(h:E.B F (.fn 187 (.pr a b))=true):E.I F (.fn 9 (.pr a (.int 5)))=E.I F (.fn 9 (.pr b (.int 5))):=by
 rw[MZ]at h
 unfold oD at h
 rw[Bool.and_eq_true,beq_iff_eq]at h
 show(E.L F a).length/5=((E.L F b).length/5:Int)
 omega
theorem oU:E.I F (.fn 9 (.pr (.fn 30 a) k))=0:=by
 show(0:Int)/_=0
 simp
theorem auZ(l:List U)(k:Nat)(m:Int)(h:0<=m/\m<=99)(i:Nat):0<=gO l k m i/\gO l k m i<=100:=by
 grind[te]
theorem wQ(h:E.B F (.fn 205 (.pr h0 (.pr h1 (.pr h2 (.pr h3 (.pr m0 (.pr m1 (.pr m2 (.pr m3 (.pr l (.pr i (.int 0))))))))))))=true)(g:(0<=E.I F m0/\E.I F m0<=99)/\(0<=E.I F m1/\E.I F m1<=99)/\(0<=E.I F m2/\E.I F m2<=99)/\(0<=E.I F m3/\E.I F m3<=99)):
  (0<=E.I F h0/\E.I F h0<=100)/\(0<=E.I F h1/\E.I F h1<=100)/\(0<=E.I F h2/\E.I F h2<=100)/\(0<=E.I F h3/\E.I F h3<=100):=by
 simp_all[yh,auZ]
theorem kg(h:E.B F (.iff a b)=true):(E.B F a=true)=(E.B F b=true):=by
 simp_all
theorem EQ(h:E.B F (.cmp .eql a b)=true):E.I F a=E.I F b:=by simpa only[ab]using h
/-- the four cards -/
def gu(c:Int):List U:=[.str ⟨#[]⟩,.int 1,.int 0,.int 0,.int 0,.int 0,.int 0,.int c,.int 0,.int 0,.int 0,.bx none 0 0 [],.bx none 0 0 [],.int 0]
theorem abr(h:E.L F l=gu 0++(gu 1++(gu 2++gu 3))):E.I F (.fn 9 (.pr l (.int 14)))=4:=by
 show((E.L F l).length:Int)/14=4
 rw[h];rfl
theorem ayy(h:E.L F l=gu 0++(gu 1++(gu 2++gu 3))):E.B F (.not (.cmp .lss (.int 12) (.fn 9 (.pr l (.int 14)))))=true:=by
 simp only[ab];simp_all[abr]
theorem alc(h:E.L F l=gu 0++(gu 1++(gu 2++gu 3))):E.B F (.fn 155 (.pr l (.fn 9 (.pr l (.int 14)))))=true:=by
 show zz (E.L F l) (E.I F _).toNat=true
 rw[abr h,h];rfl
theorem yY{l:List U}(h:l=gu 0++(gu 1++(gu 2++gu 3))):∀c:Int,0<=c->c<4->dz l c 1=1/\dz l c 7=c:=by
 intro c h0 h1;subst h
 have:c=0\/c=1\/c=2\/c=3:=by omega
 rcases this with rfl|rfl|rfl|rfl<;>exact⟨rfl,rfl⟩
end
end Go.SX

