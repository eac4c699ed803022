/-
  What the program's own functions say
-/
import Derived.Test.YtnggbcblogpnfaaGreatSXe
set_option linter.unusedSectionVars false
set_option linter.unusedVariables false
set_option linter.unusedSimpArgs false
namespace Go.SX
/-! ### Boards: what is valid -/
noncomputable def bK(ρ:Env)(e:E):List Int:=(E.L ρ e).map U.toI
theorem Lg(l:List U)(k:Nat):(l.getD k (.int 0)).toI=(l.map U.toI).getD k 0:=by
 simp only[List.getD_eq_getElem?_getD,List.getElem?_map];cases l[k]? <;> rfl
theorem Yq{p:Nat->Bool}(n:Nat):(List.range n).all p=true↔∀i,i<n->p i=true:=by grind
theorem JS(l:List U)(n:Nat):ue l n=true↔∀i,i<n->Cq (nI l (i*2)) (nI l (i*2+1))=true:=by
 simp_all[ue]
theorem y6(l:List U)(q:Bool)(n:Nat):pU l q n=true↔∀i,i<n->kK (nI l (i*5)) (nI l (i*5+1)) (nI l (i*5+2)) (nI l (i*5+3)) (l.getD (i*5+4) (.int 0)).toL q=true:=by
 simp_all[pU]
theorem iu(a x b:Int):dG a x b=true↔a<=x/\x<=b:=by grind[dG]
theorem Yo(a b:Int):Cq a b=true↔0<=a/\a<=500/\0<=b/\b<=1/\(a=0\/b=0):=by
 simp_all[Cq,iu,and_assoc]
/-- a row of a list whose dJ have w cells -/
def b9(T:E)(i:E)(w j:Nat):E:= .fn 1 (.pr T (.fn 6 (.pr (.fn 8 (.pr i (.int (Int.ofNat w)))) (.int (Int.ofNat j)))))
section
variable {ρ:Env} {x y l A a b k u i j p q n m r o c d w v X T N L:E}
theorem eJ:((bK ρ l).length:Int)=E.I ρ (.fn 0 l):=by
 show((E.L ρ l).map _).length=((E.L ρ l).length:Int)
 simp
theorem tC:E.I ρ (.fn 1 (.pr l i))=(bK ρ l).getD (E.I ρ i).toNat 0:=Lg _ _
theorem me(i:E)(w j:Nat)(h:0<=E.I ρ i):E.I ρ (.fn 1 (.pr T (.fn 6 (.pr (.fn 8 (.pr i (.int (Int.ofNat w)))) (.int (Int.ofNat j))))))=nI (E.L ρ T) ((E.I ρ i).toNat*w+j):=by
 show((E.L ρ T).getD (E.I ρ i*w+j).toNat _).toI=_
 have e:(E.I ρ i*w+j).toNat=(E.I ρ i).toNat*w+j:=by
  grind
 rw[e];rfl
theorem wW(i:E)(w j:Nat)(h:0<=E.I ρ i):E.L ρ (.fn 1 (.pr T (.fn 6 (.pr (.fn 8 (.pr i (.int (Int.ofNat w)))) (.int (Int.ofNat j))))))=((E.L ρ T).getD ((E.I ρ i).toNat*w+j) (.int 0)).toL:=by
 show((E.L ρ T).getD (E.I ρ i*w+j).toNat _).toL=_
 grind
/-! targets -/
theorem GJ:(E.B ρ (.fn 101 (.pr T n))=true)=(ue (E.L ρ T) (E.I ρ n).toNat=true):=rfl
theorem Gc(h:E.B ρ (.fn 101 (.pr T i))=true)(h0:0<=E.I ρ i)(hm:E.I ρ m=E.I ρ i+1){a b:E}(ea:a=b9 T i 2 0)(eb:b=b9 T i 2 1)
  (ha:0<=E.I ρ a/\E.I ρ a<=500/\0<=E.I ρ b/\E.I ρ b<=1/\(E.I ρ a=0\/E.I ρ b=0)):E.B ρ (.fn 101 (.pr T m))=true:=by
 grind[GJ,JS,b9,me,Yo]
theorem nh(h0:0<=E.I ρ i)(h1:E.I ρ i<E.I ρ N){a b:E}(ea:a=b9 T i 2 0)(eb:b=b9 T i 2 1)
  (ha:¬(0<=E.I ρ a/\E.I ρ a<=500/\0<=E.I ρ b/\E.I ρ b<=1/\(E.I ρ a=0\/E.I ρ b=0))):¬(E.B ρ (.fn 101 (.pr T N))=true):=by
 subst ea;subst eb;intro h
 rw[GJ,JS]at h
 apply ha;unfold b9
 rw[me (T:=T) i 2 0 h0,me (T:=T) i 2 1 h0]
 grind[Yo]
theorem afc(h:E.B ρ (.fn 101 (.pr T i))=true)(h1:E.I ρ N<=E.I ρ i):E.B ρ (.fn 101 (.pr T N))=true:=by
 grind[GJ,JS]
/-! items -/
theorem dW:(E.B ρ (.fn 102 (.pr p (.pr i (.pr c (.pr k (.pr T q))))))=true)=(0<=E.I ρ p/\E.I ρ p<=1/\1<=E.I ρ i/\E.I ρ i<=500/\0<=E.I ρ c/\E.I ρ c<=399/\-1<=E.I ρ k/\E.I ρ k<=1/\E.I ρ (.fn 9 (.pr T (.int 2)))<=4/\
  (E.I ρ k<0\/E.I ρ (.fn 9 (.pr T (.int 2)))=0)/\(E.B ρ q=true->0<=E.I ρ k)/\E.B ρ (.fn 101 (.pr T (.fn 9 (.pr T (.int 2)))))=true):=by
 show(kK (E.I ρ p) (E.I ρ i) (E.I ρ c) (E.I ρ k) (E.L ρ T) (E.B ρ q)=true)=_
 rw[GJ]
 have e9:E.I ρ (.fn 9 (.pr T (.int 2)))=(E.L ρ T).length/2:=rfl;unfold kK;simp only[Bool.and_eq_true,iu];grind
theorem tl:(E.B ρ (.fn 103 (.pr L (.pr q n)))=true)=(pU (E.L ρ L) (E.B ρ q) (E.I ρ n).toNat=true):=rfl
theorem af6(i:E)(h0:0<=E.I ρ i):(E.B ρ (.fn 102 (.pr (b9 L i 5 0) (.pr (b9 L i 5 1) (.pr (b9 L i 5 2) (.pr (b9 L i 5 3) (.pr (b9 L i 5 4) q))))))=true)=
  (kK (nI (E.L ρ L) ((E.I ρ i).toNat*5)) (nI (E.L ρ L) ((E.I ρ i).toNat*5+1)) (nI (E.L ρ L) ((E.I ρ i).toNat*5+2)) (nI (E.L ρ L) ((E.I ρ i).toNat*5+3)) ((E.L ρ L).getD ((E.I ρ i).toNat*5+4) (.int 0)).toL (E.B ρ q)=true):=by
 show(kK (E.I ρ _) (E.I ρ _) (E.I ρ _) (E.I ρ _) (E.L ρ _) (E.B ρ q)=true)=_
 grind[b9,me,wW]
theorem Gf(h:E.B ρ (.fn 103 (.pr L (.pr q i)))=true)(h0:0<=E.I ρ i)(hm:E.I ρ m=E.I ρ i+1){a:E}(ea:a=.fn 102 (.pr (b9 L i 5 0) (.pr (b9 L i 5 1) (.pr (b9 L i 5 2) (.pr (b9 L i 5 3) (.pr (b9 L i 5 4) q))))))
  (ha:E.B ρ a=true):E.B ρ (.fn 103 (.pr L (.pr q m)))=true:=by
 grind[af6,tl,y6]
theorem Ge(h0:0<=E.I ρ i)(h1:E.I ρ i<E.I ρ N){a:E}(ea:a=.fn 102 (.pr (b9 L i 5 0) (.pr (b9 L i 5 1) (.pr (b9 L i 5 2) (.pr (b9 L i 5 3) (.pr (b9 L i 5 4) q))))))
  (ha:¬(E.B ρ a=true)):¬(E.B ρ (.fn 103 (.pr L (.pr q N)))=true):=by
 grind[af6,tl,y6]
theorem Gd(h:E.B ρ (.fn 103 (.pr L (.pr q i)))=true)(h1:E.I ρ N<=E.I ρ i):E.B ρ (.fn 103 (.pr L (.pr q N)))=true:=by
 grind[tl,y6]
/-! lists of numbers -/
theorem Ao:(E.B ρ (.fn 114 (.pr l k))=true)=(E.I ρ k∈bK ρ l):=by
 show((bA _).contains _=true)=_
 rw[List.contains_iff_mem];rfl
theorem AM:E.I ρ (.fn 131 (.pr l (.pr k n)))=(((bK ρ l).take (E.I ρ n).toNat).count (E.I ρ k):Nat):=rfl
theorem te(l:List Int)(n:Nat)(h:n<l.length):l.take (n+1)=l.take n++[l.getD n 0]:=by
 simp_all
theorem NI(h0:0<=E.I ρ i)(h1:E.I ρ i<E.I ρ (.fn 0 l))(hm:E.I ρ m=E.I ρ i+1):
  E.I ρ (.fn 131 (.pr l (.pr k m)))=E.I ρ (.fn 131 (.pr l (.pr k i)))+(if E.I ρ k=E.I ρ (.fn 1 (.pr l i))then 1 else 0):=by
 rw[AM,AM,tC]
 rw[<- eJ]at h1
 have e:(E.I ρ m).toNat=(E.I ρ i).toNat+1:=by omega
 grind[te]
theorem aIB(h:E.I ρ (.fn 0 l)<=E.I ρ n):(E.B ρ (.fn 114 (.pr l k))=true)↔¬(E.I ρ (.fn 131 (.pr l (.pr k n)))=0):=by
 grind[Ao,AM,eJ,List.take_of_length_le]
theorem aIr(h0:0<=E.I ρ i)(h1:E.I ρ i<E.I ρ (.fn 0 l))(he:E.I ρ k=E.I ρ (.fn 1 (.pr l i))):E.B ρ (.fn 114 (.pr l k))=true:=by
 simp_all[Ao,tC,eJ]
end
end Go.SX

set_option linter.unusedVariables false
set_option linter.unusedSimpArgs false
namespace Go.SX
/-! ### maps as lists of pairs -/
theorem vg(q:Int)(u:U)(m:List U):cF q (u::m)=if u.fst.toI=q then some u.snd else cF q m:=rfl
theorem abY(k:Int)(v u:U)(m:List U):cO k v (u::m)=if u.fst.toI=k then .lst [.int k,v]::m else u::cO k v m:=rfl
theorem aau(k:Int)(v:U):(U.lst [.int k,v]).fst.toI=k:=rfl
theorem aeL(k:Int)(v:U):(U.lst [.int k,v]).snd=v:=rfl
theorem abS(k q:Int)(v:U):∀m:List U,cF q (cO k v m)=if q=k then some v else cF q m
 |[]=>by
  show cF q [U.lst _]=_;grind[vg,aau,aeL]
 |u::l=>by
  rw[abY]
  by_cases h:u.fst.toI=k
  ·rw[if_pos h,vg,aau,aeL,vg,h]
   grind
  ·rw[if_neg h,vg,abS k q v l,vg]
   grind
theorem adx(k:Int)(v:U):∀m:List U,k∉(jo m).map Prod.fst->jo (cO k v m)=jo m++[(k,v.toI)]
 |[],_=>rfl
 |u::l,h=>by
  have e:jo (u::l)=(u.fst.toI,u.snd.toI)::jo l:=rfl
  rw[e]at h ⊢
  simp only[List.map_cons,List.mem_cons,not_or]at h
  rw[abY,if_neg (fun e=>h.1 e.symm)]
  show(u.fst.toI,u.snd.toI)::jo _=_
  rw[adx k v l h.2];rfl
theorem Ez(k:Int):∀m:List U,(cF k m).map U.toI=gp (jo m) k
 |[]=>rfl
 |u::l=>by
  have e:jo (u::l)=(u.fst.toI,u.snd.toI)::jo l:=rfl
  rw[vg,e]
  unfold gp;by_cases h:u.fst.toI=k
  ·simp[h]
  ·have:=Ez k l
   grind[gp]
theorem Md(k:Int)(m:List U):(cF k m).isSome=true↔k∈(jo m).map Prod.fst:=by
 grind[Ez,gp,Option.isSome_map]
theorem zl{l:List (Int×Int)}{k v:Int}(h:gp l k=some v):(k,v)∈l:=by
 unfold gp at h;cases hc:l.find? fun p=>p.1==k with
 |none=>simp_all
 |some p=>
  grind
theorem L0:∀ {l:List (Int×Int)} {k v:Int},(l.map Prod.fst).Nodup->(k,v)∈l->gp l k=some v
 |[],k,v,_,h=>by simp at h
 |p::l,k,v,hn,h=>by
  simp only[List.map_cons,List.nodup_cons]at hn;unfold gp;rcases List.mem_cons.1 h with e|e
  ·grind
  ·have:=L0 hn.2 e
   grind[gp]
theorem qe:∀l:List Int,oM l=true↔l.Nodup
 |[]=>by simp[oM]
 |x::l=>by
  unfold oM
  rw[Bool.and_eq_true,qe l,List.nodup_cons]
  simp
theorem zr(m:List U)(l:List (Int×Int)):iV m l=true↔jo m=l/\(l.map Prod.fst).Nodup:=by
 simp_all[iV,qe]
theorem Mb{m:List U}{l:List (Int×Int)}{k:Int}{v:U}(h:iV m l=true)(hk:¬(cF k m).isSome=true):iV (cO k v m) (l++[(k,v.toI)])=true:=by
 grind[zr,Md,adx]
/-! the places, one after the other -/
theorem GR(X:U)(k:Nat):k7 X (k+1)=k7 X k++(bh X k).map fun i=>(i,((k/4:Nat):Int)):=by
 simp_all[k7,List.range_succ]
theorem aFu(X:U)(k:Nat):fP X k (bh X k).length=fP X (k+1) 0:=by
 simp_all[fP,GR]
theorem aFv(X:U)(k i:Nat)(h:i<(bh X k).length):fP X k (i+1)=fP X k i++[((bh X k).getD i 0,((k/4:Nat):Int))]:=by
 grind[fP,te]
theorem agn(X:U)(k:Nat):∀d,∃r,k7 X (k+d)=k7 X k++r
 |0=>⟨[],by simp⟩
 |d+1=>by
  obtain⟨r,hr⟩:=agn X k d
  grind[GR]
theorem Fx(X:U)(k i:Nat)(h:k<8):∃r,dx X=fP X k i++r:=by
 obtain⟨r,hr⟩:=agn X _ _
 have e:k+1+(8-(k+1))=8:=by omega
 rw[e]at hr
 refine⟨((bh X k).drop i).map (fun x=>(x,(k/4:Int)))++(r++i4 X (b8 X)),?_⟩
 have h8:fP X 8 0=k7 X 8:=by simp[fP]
 unfold dx
 rw[h8,hr,GR]
 grind[fP,List.take_append_drop]
theorem F3(X:U)(s:Nat):hF X (s+1)=hF X s++if nI (cX X 29).toL (s*5+3)<0 then [s] else []:=by
 grind[hF,List.range_succ]
theorem ae7(X:U)(s:Nat):∀d,∃r,hF X (s+d)=hF X s++r
 |0=>⟨[],by simp⟩
 |d+1=>by
  obtain⟨r,hr⟩:=ae7 X s d
  grind[F3]
theorem aH0(X:U)(s:Nat)(h:s<=b8 X):∃r,dx X=(fP X 8 0++i4 X s)++r:=by
 obtain⟨r,hr⟩:=ae7 X s (b8 X-s)
 simp_all[dx,i4]
theorem adc{X:U}{l:List (Int×Int)}{k v:Int}(h:∃r,dx X=(l++[(k,v)])++r)(hk:k∈l.map Prod.fst):¬dI X=true:=by
 intro hp;unfold dI at hp;simp only[Bool.and_eq_true,qe]at hp;grind
theorem mT(X:U)(n:Nat):qi X n=true↔∀i,i<n->(oO X i=true/\(i=0\/oI X (i-1) 0<oI X i 0)/\gp (dx X) (oI X i 0)=some (oI X i 2)/\(∀c,gp (hE X (b8 X)) (oI X i 0)=some c->c=oI X i 1)):=by
 grind[qi]
theorem qh(X:U)(i:Nat):oO X i=true↔1<=oI X i 0/\oI X i 0<=500/\-1<=oI X i 1/\oI X i 1<=399/\0<=oI X i 2/\oI X i 2<=1/\(oI X i 1=-1\/(oI X i 3=0/\oI X i 4=0))/\
  0<=oI X i 3/\oI X i 3<=99/\0<=oI X i 4/\oI X i 4<=99/\0<=oI X i 5/\oI X i 5<=99/\0<=oI X i 6/\oI X i 6<=99/\0<=oI X i 7/\oI X i 7<=99/\0<=oI X i 8/\oI X i 8<=99:=by
 unfold oO;simp only[List.all_cons,List.all_nil,Bool.and_eq_true,Bool.or_eq_true,iu,beq_iff_eq,and_assoc,and_true]
/-! distinct ids: as many places as objects -/
theorem abw:∀(l1 l2:List Int),l1.Nodup->(∀x∈l1,x∈l2)->l1.length<=l2.length
 |[],l2,_,_=>Nat.zero_le _
 |x::l1,l2,hn,hs=>by
  have h:=abw l1 (l2.erase x) (List.nodup_cons.1 hn).2 (by
   grind)
  grind
theorem afb{l1 l2:List Int}(hn:l1.Nodup)(hs:∀x∈l1,x∈l2)(hl:l2.length<=l1.length):∀x∈l2,x∈l1:=by
 intro x hx;by_cases h:x∈l1
 ·exact h
 ·have:=abw _ l2 (List.nodup_cons.2 ⟨h,hn⟩) (by
   simp_all)
  grind
def lT(X:U):List Int:=(List.range (aK X)).map fun i=>oI X i 0
theorem aGf{f:Nat->Int}{n:Nat}(h:∀i,i<n->(i=0\/f (i-1)<f i)):∀i j,i<j->j<n->f i<f j:=by
 intro i j hij hj;induction j with
 |zero=>omega
 |succ j ih=>
  grind
theorem ES{X:U}(h:∀i,i<aK X->(i=0\/oI X (i-1) 0<oI X i 0)):(lT X).Nodup:=by
 unfold lT
 rw[List.nodup_iff_pairwise_ne,List.pairwise_map]
 refine List.Pairwise.imp_of_mem ?_ (List.pairwise_lt_range (n:=aK X));intro a b ha hb hab e
 have:=aGf (f:=fun i=>oI X i 0) h a b hab (List.mem_range.1 hb)
 omega
theorem adN{X:U}(h:dI X=true):∀k∈(dx X).map Prod.fst,1<=k/\k<=500:=by
 unfold dI at h;simp only[Bool.and_eq_true,beq_iff_eq]at h
 obtain⟨⟨hn,ho⟩,hl⟩:=h
 rw[mT]at ho
 have hs:=afb (l1:=lT X) (l2:=(dx X).map _) (ES fun i hi=>(ho i hi).2.1) (by
  intro x hx
  obtain⟨i,hi,rfl⟩:=List.mem_map.1 hx
  exact List.mem_map_of_mem (f:=Prod.fst) (zl (ho i (List.mem_range.1 hi)).2.2.1)) (by simp[lT,hl])
 intro k hk
 obtain⟨i,hi,rfl⟩:=List.mem_map.1 (hs k hk)
 simp_all[qh]
theorem agq(X:U)(k:Nat)(h:k<8):∀x∈bh X k,x∈(dx X).map Prod.fst:=by
 obtain⟨r,hr⟩:=Fx X k (bh X k).length h
 simp_all[fP]
end Go.SX

set_option linter.unusedVariables false
set_option linter.unusedSimpArgs false
namespace Go.SX
/-! ### attackers and blocks -/
theorem J4(X:U)(j c:Nat):cT X (j+1) c=cT X j c++[blk X j c]:=by
 simp_all[cT,List.range_succ]
theorem aBV{X:U}{j n c:Nat}(h:j<=n){k:Int}(hk:k∈cT X j c):k∈cT X n c:=by
 grind[cT]
theorem nd(X:U)(n j:Nat)(k:Int)(h:0<k):qq X n j k=(((aC X).take n).contains k && !(cT X j 1).contains k):=by
 simp_all[qq]
theorem qt(X:U)(n j:Nat)(k:Int)(h:¬0<k):qq X n j k=(cT X j 0).contains (-k):=by
 grind[qq]
theorem Nf(m:List U)(k q:Int)(b:Bool):i3 (cO k (.bool b) m) q=if q=k then b else i3 m q:=by
 unfold i3;rw[abS];by_cases h:q=k<;>simp[h]
 rfl
theorem qr{X:U}{m:List U}{n j:Nat}(h:jq X m n j=true)(hj:j<=bc X)(k:Int):i3 m k=qq X n j k:=by
 unfold jq at h
 rw[List.all_eq_true]at h
 by_cases hk:k∈(m.map fun u=>u.fst.toI)++aC X++(cT X (bc X) 0).map fun k=>-k
 ·simp_all
 ·have h1:i3 m k=false:=by
   unfold i3;cases hc:cF k m with
   |none=>rfl
   |some v=>
    grind[Md,jo]
  by_cases hp:0<k
  ·grind[nd]
  ·rw[qt _ _ _ _ hp]
   grind[aBV]
theorem Ng{X:U}{m:List U}{n j:Nat}(h:∀k,i3 m k=qq X n j k):jq X m n j=true:=by
 simp_all[jq]
theorem pw(X:U)(n:Nat):jE X n=true↔((aC X).take n).Nodup/\∀a∈(aC X).take n,a∈fZ X:=by
 simp_all[jE,qe]
theorem un(X:U)(n:Nat):kw X n=true↔(cT X n 1).Nodup/\(cT X n 0).Nodup/\∀i,i<n->(blk X i 1∈aC X/\blk X i 0∈fD X):=by
 simp_all[kw,qe,and_assoc]
theorem E5{X:U}(h:dI X=true)(ha:bI X<=1){a:Int}(hm:a∈fZ X):1<=a/\a<=500:=
 adN h a (agq X _ (by omega) a hm)
theorem MA{X:U}(h:dI X=true){a:Int}(hm:a∈fD X):1<=a/\a<=500:=
 adN h a (agq X _ (by omega) a hm)
theorem uH(X:U):gW X=true↔jE X (aC X).length=true/\kw X (bc X)=true:=by
 simp_all[gW]
theorem aGT{X:U}{i:Nat}{a:Int}(h:qq X i 0 a=true):a∈(aC X).take i:=by
 by_cases hp:0<a
 all_goals simp_all[nd,qt,cT]
theorem aBG{X:U}{m:List U}{i:Nat}(h:jE X i=true)(hp:dI X=true)(ha:bI X<=1)(hs:jq X m i 0=true)(hi:i<(aC X).length)
  (hv:¬i3 m ((aC X).getD i 0)=true)(ho:(aC X).getD i 0∈fZ X):jE X (i+1)=true:=by
 rw[pw]at *
 have hpos:=E5 hp ha ho
 rw[qr hs (Nat.zero_le _),nd _ _ _ _ (by omega)]at hv
 have hb:(cT X 0 1).contains ((aC X).getD i 0)=false:=by rfl
 grind[te]
theorem aBF{X:U}{m:List U}{i:Nat}(hp:dI X=true)(ha:bI X<=1)(hs:jq X m i 0=true)(hi:i<(aC X).length)(ho:(aC X).getD i 0∈fZ X):jq X (cO ((aC X).getD i 0) (.bool true) m) (i+1) 0=true:=by
 apply Ng;intro k;have hpos:=E5 hp ha ho
 rw[Nf,qr hs (Nat.zero_le _)]
 by_cases hk:0<k
 ·rw[nd _ _ _ _ hk,nd _ _ _ _ hk,te _ _ hi]
  by_cases e:k=(aC X).getD i 0
  ·grind[cT]
  grind
 ·rw[qt _ _ _ _ hk,qt _ _ _ _ hk,if_neg (by omega)]
theorem aBH{X:U}{m:List U}{i:Nat}(hs:jq X m i 0=true)(hi:i<(aC X).length)(hv:i3 m ((aC X).getD i 0)=true):¬gW X=true:=by
 intro hf
 rw[uH,pw,List.take_length]at hf
 rw[qr hs (Nat.zero_le _)]at hv
 have hm:=aGT hv;have ht:=te _ i hi;grind[List.take_sublist]
theorem aBE{X:U}{i:Nat}(hi:i<(aC X).length)(ho:¬(aC X).getD i 0∈fZ X):¬gW X=true:=by
 grind[uH,pw]
theorem CG{X:U}{j:Nat}(hj:j<bc X)(h:kw X (j+1)=true->False):¬gW X=true:=by
 intro hf
 rw[uH,un]at hf
 apply h
 rw[un]
 have sub:∀c,(cT X (j+1) c).Sublist (cT X (bc X) c):=by
  grind[cT]
 grind
/-- a block that is right, when the ones ahead of it are -/
theorem xZ{X:U}{j:Nat}:kw X (j+1)=true↔kw X j=true/\blk X j 1∉cT X j 1/\blk X j 0∉cT X j 0/\blk X j 1∈aC X/\blk X j 0∈fD X:=by
  grind[un,J4]
theorem YC{X:U}(hp:dI X=true)(ha:bI X<=1)(h:jE X (aC X).length=true){a:Int}(hm:a∈aC X):1<=a/\a<=500:=by
 rw[pw,List.take_length]at h
 exact E5 hp ha (h.2 a hm)
section
variable {X:U} {m:List U} {j:Nat} {nk:Int}
theorem aBQ(hp:dI X=true)(ha:bI X<=1)(h:jE X (aC X).length=true)(hs:jq X m (aC X).length j=true)(hj:j<bc X)(hv:¬i3 m (blk X j 1)=true):¬gW X=true:=by
 apply CG hj;intro hb
 rw[xZ]at hb
 have hpos:=YC hp ha h hb.2.2.2.1
 rw[qr hs (by omega),nd _ _ _ _ (by omega),List.take_length,Bool.and_eq_true,List.contains_iff_mem]at hv
 simp_all
theorem aBR(hp:dI X=true)(hs:jq X m (aC X).length j=true)(hj:j<bc X)(hk:1<=blk X j 0->blk X j 0<=500->nk=-(blk X j 0))(hv:i3 m nk=true):¬gW X=true:=by
 apply CG hj;intro hb
 rw[xZ]at hb
 have hpos:=MA hp hb.2.2.2.2;have e:=hk hpos.1 hpos.2
 rw[qr hs (by omega),qt _ _ _ _ (by omega),List.contains_iff_mem,e,Int.neg_neg]at hv
 simp_all
theorem aBS(hj:j<bc X)(hv:¬blk X j 1∈aC X):¬gW X=true:=by
 grind[CG,xZ]
theorem aBT(hj:j<bc X)(hv:¬blk X j 0∈fD X):¬gW X=true:=by
 grind[CG,xZ]
theorem aBU(hp:dI X=true)(ha:bI X<=1)(h:jE X (aC X).length=true)(hb:kw X j=true)(hs:jq X m (aC X).length j=true)(hj:j<bc X)(hv:i3 m (blk X j 1)=true)
  (hk:1<=blk X j 0->blk X j 0<=500->nk=-(blk X j 0))(hn:¬i3 m nk=true)(h1:blk X j 1∈aC X)(h2:blk X j 0∈fD X):kw X (j+1)=true/\jq X (cO nk (.bool true) (cO (blk X j 1) (.bool false) m)) (aC X).length (j+1)=true:=by
 have hpos:=YC hp ha h h1;have hpos2:=MA hp h2;have e:=hk hpos2.1 hpos2.2;have hv':=hv
 rw[qr hs (by omega),nd _ _ _ _ (by omega),Bool.and_eq_true]at hv'
 have hn':=hn
 rw[qr hs (by omega),qt _ _ _ _ (by omega),e,Int.neg_neg,List.contains_iff_mem]at hn'
 have hv2:blk X j 1∉cT X j 1:=by
  simp_all
 refine⟨xZ.2 ⟨hb,hv2,hn',h1,h2⟩,?_⟩
 apply Ng;intro k
 rw[Nf,Nf,qr hs (by omega)]
 by_cases hk:0<k
 ·rw[nd _ _ _ _ hk,nd _ _ _ _ hk,if_neg (by omega),J4]
  grind
 grind[qt,J4]
end
end Go.SX

set_option linter.unusedVariables false
set_option linter.unusedSimpArgs false
namespace Go.SX
/-! ### what expressions say of a board -/
section
variable {ρ:Env} {x y l A a b k u i j p q n m r o c d w v X T N L L2 mc s:E}
theorem bY:-9223372036854775808<=E.I ρ a+E.I ρ b->E.I ρ a+E.I ρ b<9223372036854775808->E.I ρ (.ar .add .i64 a b)=E.I ρ a+E.I ρ b:=by
 have e:E.I ρ (.ar .add _ a b)=IntKind.i64.wrap (E.I ρ a+E.I ρ b):=rfl
 obtain⟨s,e2,q,r⟩:=ab (E.I ρ a+E.I ρ b)
 omega
theorem ma:-9223372036854775808<=E.I ρ a-E.I ρ b->E.I ρ a-E.I ρ b<9223372036854775808->E.I ρ (.ar .sub .i64 a b)=E.I ρ a-E.I ρ b:=by
 have e:E.I ρ (.ar .sub _ a b)=IntKind.i64.wrap (E.I ρ a-E.I ρ b):=rfl
 obtain⟨s,e2,q,r⟩:=ab (E.I ρ a-E.I ρ b)
 omega
theorem tn:(E.B ρ (.fn 108 X)=true)=(dI (X.den ρ)=true):=rfl
theorem Am:(E.B ρ (.fn 109 (.pr L (.pr X (.pr p q))))=true)=(bK ρ L=bh (X.den ρ) ((E.I ρ p).toNat*4+(E.I ρ q).toNat)):=by
 show((bA _==bh _ _)=true)=_
 rw[beq_iff_eq];rfl
theorem Od:(E.B ρ (.fn 110 X)=true)=(gW (X.den ρ)=true):=rfl
theorem GL:(E.B ρ (.fn 111 (.pr X n))=true)=(jE (X.den ρ) (E.I ρ n).toNat=true):=rfl
theorem af7:(E.B ρ (.fn 112 (.pr X n))=true)=(kw (X.den ρ) (E.I ρ n).toNat=true):=rfl
theorem An:(E.B ρ (.fn 113 (.pr m (.pr X (.pr n j))))=true)=(jq (X.den ρ) (E.L ρ m) (E.I ρ n).toNat (E.I ρ j).toNat=true):=rfl
theorem Om:E.B ρ (.fn 32 (.pr m (.pr k (.bool false))))=i3 (E.L ρ m) (E.I ρ k):=rfl
theorem tH:E.L ρ (.fn 34 (.pr m (.pr k v)))=cO (E.I ρ k) (v.den ρ) (E.L ρ m):=rfl
theorem aKh(P Q j:Nat)(hQ:Q<4)(hj:j=6+14*P+Q):bh (X.den ρ) (P*4+Q)=bK ρ (.fn 1 (.pr X (.int (Int.ofNat j)))):=by
 show bA _=bA (cX (X.den ρ) j);grind
theorem i5(P Q j:Nat)(hQ:Q<4)(hj:j=6+14*P+Q)(hp:E.I ρ p=(P:Int))(hq:E.I ρ q=(Q:Int)):E.B ρ (.fn 109 (.pr (.fn 1 (.pr X (.int (Int.ofNat j)))) (.pr X (.pr p q))))=true:=by
 simp_all[Am,aKh]
theorem aKi(Y:U)(z:Nat):(bh Y z).length=(cX Y (6+14*(z/4)+z%4)).toL.length:=by
 grind[bh,bA]
theorem ao(h:E.B ρ (.fn 117 X)=true):(E.I ρ (.fn 0 (.fn 1 (.pr X (.int 6))))<=40/\E.I ρ (.fn 0 (.fn 1 (.pr X (.int 7))))<=40/\E.I ρ (.fn 0 (.fn 1 (.pr X (.int 8))))<=40/\E.I ρ (.fn 0 (.fn 1 (.pr X (.int 9))))<=40)/\
  (E.I ρ (.fn 0 (.fn 1 (.pr X (.int 20))))<=40/\E.I ρ (.fn 0 (.fn 1 (.pr X (.int 21))))<=40/\E.I ρ (.fn 0 (.fn 1 (.pr X (.int 22))))<=40/\E.I ρ (.fn 0 (.fn 1 (.pr X (.int 23))))<=40)/\
  (E.I ρ (.fn 9 (.pr (.fn 1 (.pr X (.int 29))) (.int 5)))<=20/\E.I ρ (.fn 9 (.pr (.fn 1 (.pr X (.int 30))) (.int 5)))<=20/\E.I ρ (.fn 9 (.pr (.fn 1 (.pr X (.int 0))) (.int 12)))<=30/\E.I ρ (.fn 0 (.fn 1 (.pr X (.int 31))))<=30/\E.I ρ (.fn 9 (.pr (.fn 1 (.pr X (.int 32))) (.int 2)))<=30)/\
  (0<=E.I ρ (.fn 9 (.pr (.fn 1 (.pr X (.int 29))) (.int 5)))/\0<=E.I ρ (.fn 9 (.pr (.fn 1 (.pr X (.int 30))) (.int 5)))/\0<=E.I ρ (.fn 9 (.pr (.fn 1 (.pr X (.int 0))) (.int 12)))/\0<=E.I ρ (.fn 0 (.fn 1 (.pr X (.int 31))))/\0<=E.I ρ (.fn 9 (.pr (.fn 1 (.pr X (.int 32))) (.int 2)))):=by
 have h':iE _=true:=h;unfold iE at h';simp only[Bool.and_eq_true,Yq,decide_eq_true_eq]at h'
 obtain⟨⟨⟨⟨⟨⟨⟨h1,h2⟩,h3⟩,_⟩,_⟩,h4⟩,h5⟩,h6⟩:=h'
 have z (n:Nat) (hn:n<8):=h1 n hn;simp only[aKi]at z;have z0:=z 0 (by omega);have z1:=z 1 (by omega);have z2:=z 2 (by omega);have z3:=z 3 (by omega);have z4:=z 4 (by omega);have z5:=z 5 (by omega);have z6:=z 6 (by omega);have z7:=z 7 (by omega);have a31:(aC (X.den ρ)).length=(cX (X.den ρ) 31).toL.length:=by grind[aC,bA]
 rw[a31]at h5
 refine⟨⟨?_,?_,?_,?_⟩,⟨?_,?_,?_,?_⟩,⟨?_,?_,?_,?_,?_⟩,?_,?_,?_,?_,?_⟩
 ·exact Int.ofNat_le.2 z0
 ·exact Int.ofNat_le.2 z1
 ·exact Int.ofNat_le.2 z2
 ·exact Int.ofNat_le.2 z3
 ·exact Int.ofNat_le.2 z4
 ·exact Int.ofNat_le.2 z5
 ·exact Int.ofNat_le.2 z6
 ·exact Int.ofNat_le.2 z7
 ·exact Int.ofNat_le.2 h2
 ·exact Int.ofNat_le.2 h3
 ·exact Int.ofNat_le.2 h4
 ·exact Int.ofNat_le.2 h5
 ·exact Int.ofNat_le.2 h6
 ·exact Int.natCast_nonneg _
 ·exact Int.natCast_nonneg _
 ·exact Int.natCast_nonneg _
 ·exact Int.natCast_nonneg _
 ·exact Int.natCast_nonneg _
/-! fights -/
theorem aIq(h:E.I ρ n<=0)(h':E.I ρ j<=0):E.B ρ (.fn 113 (.pr (.fn 10 a) (.pr X (.pr n j))))=true:=by
 have e:(E.I ρ n).toNat=0:=by omega
 have e':(E.I ρ j).toNat=0:=by omega
 rw[An,e,e']
 apply Ng;intro k;show false=_;grind[nd,qt,cT]
theorem aIo(h:E.B ρ (.fn 111 (.pr X i))=true)(e:E.I ρ n=E.I ρ i):E.B ρ (.fn 111 (.pr X n))=true:=by
 simp_all[GL]
theorem aIp(h:E.B ρ (.fn 113 (.pr m (.pr X (.pr i j))))=true)(e:E.I ρ n=E.I ρ i)(e':E.I ρ k=E.I ρ j):E.B ρ (.fn 113 (.pr m (.pr X (.pr n k))))=true:=by
 simp_all[An]
theorem aBC(h0:0<=E.I ρ i):(aC (X.den ρ)).getD (E.I ρ i).toNat 0=E.I ρ (.fn 1 (.pr (.fn 1 (.pr X (.int 31))) i)):=by
 rw[tC];rfl
theorem uk:((aC (X.den ρ)).length:Int)=E.I ρ (.fn 0 (.fn 1 (.pr X (.int 31)))):=by
 show(((cX _ 31).toL.map _).length:Int)=_
 rw[List.length_map];rfl
theorem vn:((bc (X.den ρ):Nat):Int)=E.I ρ (.fn 9 (.pr (.fn 1 (.pr X (.int 32))) (.int 2))):=rfl
theorem py(h0:0<=E.I ρ i)(c:Nat):blk (X.den ρ) (E.I ρ i).toNat c=E.I ρ (.fn 1 (.pr (.fn 1 (.pr X (.int 32))) (.fn 6 (.pr (.fn 8 (.pr i (.int 2))) (.int (Int.ofNat c)))))):=by
 exact(me (T:=.fn 1 (.pr X (.int 32))) i 2 c h0).symm
theorem aFj(h:E.B ρ (.fn 109 (.pr L (.pr X (.pr (.fn 1 (.pr X (.int 34))) (.int 2)))))=true):bK ρ L=fZ (X.den ρ):=by
 rw[Am]at h
 rw[h];unfold fZ bI
 have e:(E.I ρ (.fn 1 (.pr X (.int 34)))).toNat*4+(E.I ρ (.int 2)).toNat=4*(iX (X.den ρ) 34).toNat+2:=by
  have:E.I ρ (.fn 1 (.pr X (.int 34)))=iX (X.den ρ) 34:=rfl
  have:(E.I ρ (.int 2)).toNat=2:=rfl
  omega
 rw[e]
theorem aFe(h:E.B ρ (.fn 109 (.pr L (.pr X (.pr (.fn 7 (.pr (.int 1) (.fn 1 (.pr X (.int 34))))) (.int 2)))))=true)(h0:0<=E.I ρ (.fn 1 (.pr X (.int 34)))):bK ρ L=fD (X.den ρ):=by
 rw[Am]at h
 rw[h];unfold fD bI
 have e:(E.I ρ (.fn 7 (.pr (.int 1) (.fn 1 (.pr X (.int 34)))))).toNat*4+(E.I ρ (.int 2)).toNat=4*(1-(iX (X.den ρ) 34).toNat)+2:=by
  have e1:E.I ρ (.fn 7 (.pr (.int 1) (.fn 1 (.pr X (.int 34)))))=1-iX (X.den ρ) 34:=rfl;have e2:E.I ρ (.fn 1 (.pr X (.int 34)))=iX (X.den ρ) 34:=rfl
  have:(E.I ρ (.int 2)).toNat=2:=rfl
  omega
 rw[e]
/-- an attacker -/
theorem Gr(hp:E.B ρ (.fn 108 X)=true)(ha:0<=E.I ρ (.fn 1 (.pr X (.int 34))))(ha':E.I ρ (.fn 1 (.pr X (.int 34)))<=1)(hs:E.B ρ (.fn 113 (.pr m (.pr X (.pr i (.int 0)))))=true)(h:E.B ρ (.fn 111 (.pr X i))=true)
    (h0:0<=E.I ρ i)(hi:E.I ρ i<E.I ρ (.fn 0 (.fn 1 (.pr X (.int 31)))))(hL:E.B ρ (.fn 109 (.pr L (.pr X (.pr (.fn 1 (.pr X (.int 34))) (.int 2)))))=true)(hm:E.I ρ n=E.I ρ i+1):
    (E.B ρ (.fn 32 (.pr m (.pr (.fn 1 (.pr (.fn 1 (.pr X (.int 31))) i)) (.bool false))))=true->¬E.B ρ (.fn 110 X)=true)/\
    (¬E.B ρ (.fn 114 (.pr L (.fn 1 (.pr (.fn 1 (.pr X (.int 31))) i))))=true->¬E.B ρ (.fn 110 X)=true)/\
    (¬E.B ρ (.fn 32 (.pr m (.pr (.fn 1 (.pr (.fn 1 (.pr X (.int 31))) i)) (.bool false))))=true->E.B ρ (.fn 114 (.pr L (.fn 1 (.pr (.fn 1 (.pr X (.int 31))) i))))=true->E.B ρ (.fn 111 (.pr X n))=true/\
      E.B ρ (.fn 113 (.pr (.fn 34 (.pr m (.pr (.fn 1 (.pr (.fn 1 (.pr X (.int 31))) i)) (.bool true)))) (.pr X (.pr n (.int 0)))))=true):=by
  have hl:=aFj hL
  rw[tn]at hp
  rw[<- uk]at hi
  have hi':(E.I ρ i).toNat<(aC (X.den ρ)).length:=by omega
  have e1:(E.I ρ n).toNat=(E.I ρ i).toNat+1:=by omega
  have ha2:bI (X.den ρ)<=1:=by
    have:E.I ρ (.fn 1 (.pr X (.int 34)))=iX (X.den ρ) 34:=rfl
    simp_all[bI]
  have z0:(E.I ρ (.int 0)).toNat=0:=rfl
  rw[Om,Ao,Od,GL,An,tH,hl,e1,z0,<- aBC (X:=X) h0]
  exact⟨fun hv=>aBH hs hi' hv,fun ho=>aBE hi' ho,fun hv ho=>⟨aBG h hp ha2 hs hi' hv ho,aBF hp ha2 hs hi' ho⟩⟩
/-- a block -/
theorem wk{nk:E}(hp:E.B ρ (.fn 108 X)=true)(ha:0<=E.I ρ (.fn 1 (.pr X (.int 34))))(ha':E.I ρ (.fn 1 (.pr X (.int 34)))<=1)(hs:E.B ρ (.fn 113 (.pr m (.pr X (.pr (.fn 0 (.fn 1 (.pr X (.int 31)))) j))))=true)(h:E.B ρ (.fn 111 (.pr X (.fn 0 (.fn 1 (.pr X (.int 31))))))=true)
    (hb:E.B ρ (.fn 112 (.pr X j))=true)(h0:0<=E.I ρ j)(hj:E.I ρ j<E.I ρ (.fn 9 (.pr (.fn 1 (.pr X (.int 32))) (.int 2))))(hL:E.B ρ (.fn 109 (.pr L (.pr X (.pr (.fn 7 (.pr (.int 1) (.fn 1 (.pr X (.int 34))))) (.int 2)))))=true)(hm:E.I ρ n=E.I ρ j+1)
    {t b:E}(et:t= .fn 1 (.pr (.fn 1 (.pr X (.int 32))) (.fn 6 (.pr (.fn 8 (.pr j (.int 2))) (.int 1)))))(eb:b= .fn 1 (.pr (.fn 1 (.pr X (.int 32))) (.fn 6 (.pr (.fn 8 (.pr j (.int 2))) (.int 0)))))
    (hk:1<=E.I ρ b->E.I ρ b<=500->E.I ρ nk= -(E.I ρ b)):
    (¬E.B ρ (.fn 32 (.pr m (.pr t (.bool false))))=true->¬E.B ρ (.fn 110 X)=true)/\
    (E.B ρ (.fn 32 (.pr m (.pr nk (.bool false))))=true->¬E.B ρ (.fn 110 X)=true)/\
    (¬E.B ρ (.fn 114 (.pr (.fn 1 (.pr X (.int 31))) t))=true->¬E.B ρ (.fn 110 X)=true)/\
    (¬E.B ρ (.fn 114 (.pr L b))=true->¬E.B ρ (.fn 110 X)=true)/\
    (E.B ρ (.fn 32 (.pr m (.pr t (.bool false))))=true->¬E.B ρ (.fn 32 (.pr m (.pr nk (.bool false))))=true->E.B ρ (.fn 114 (.pr (.fn 1 (.pr X (.int 31))) t))=true->E.B ρ (.fn 114 (.pr L b))=true->
      E.B ρ (.fn 112 (.pr X n))=true/\E.B ρ (.fn 113 (.pr (.fn 34 (.pr (.fn 34 (.pr m (.pr t (.bool false)))) (.pr nk (.bool true)))) (.pr X (.pr (.fn 0 (.fn 1 (.pr X (.int 31)))) n))))=true):=by
  subst et;subst eb;have hl:=aFe hL ha
  rw[tn]at hp
  rw[An]at hs
  rw[GL]at h
  rw[<- vn]at hj
  have hj':(E.I ρ j).toNat<bc (X.den ρ):=by omega
  have e1:(E.I ρ n).toNat=(E.I ρ j).toNat+1:=by omega
  have ha2:bI (X.den ρ)<=1:=by
    have:E.I ρ (.fn 1 (.pr X (.int 34)))=iX (X.den ρ) 34:=rfl
    simp_all[bI]
  have el:(E.I ρ (.fn 0 (.fn 1 (.pr X (.int 31))))).toNat=(aC (X.den ρ)).length:=by grind[uk]
  have ea:bK ρ (.fn 1 (.pr X (.int 31)))=aC _:=rfl
  rw[el]at hs h
  have b0:=py (X:=X) h0 0;have b1:=py (X:=X) h0 1;have c0:(Int.ofNat 0)=0:=rfl;have c1:(Int.ofNat 1)=1:=rfl
  rw[c0]at b0
  rw[c1]at b1
  rw[<- b0]at hk
  rw[Om,Om,Ao,Ao,Od,af7,An,tH,tH,hl,e1,el,ea,<- b0,<- b1]
  exact⟨fun hv=>aBQ hp ha2 h hs hj' hv,fun hv=>aBR hp hs hj' hk hv,fun hv=>aBS hj' hv,fun hv=>aBT hj' hv,fun hv hn h1 h2=>aBU hp ha2 h hb hs hj' hv hk hn h1 h2⟩
theorem vp{b:E}(h:1<=E.I ρ b)(h':E.I ρ b<=500):E.I ρ (.ar .sub .i64 (.int 0) b)=-(E.I ρ b):=by
 have e:E.I ρ (.ar .sub _ (.int 0) b)=IntKind.i64.wrap (0-E.I ρ b):=rfl
 obtain⟨s,e,q,r⟩:=ab (0-E.I ρ b)
 omega
theorem aJs(h:E.B ρ (.fn 111 (.pr X (.fn 0 (.fn 1 (.pr X (.int 31))))))=true)(hb:E.B ρ (.fn 112 (.pr X j))=true)(h1:E.I ρ (.fn 9 (.pr (.fn 1 (.pr X (.int 32))) (.int 2)))=E.I ρ j):E.B ρ (.fn 110 X)=true:=by
 have el:(E.I ρ (.fn 0 (.fn 1 (.pr X (.int 31))))).toNat=(aC (X.den ρ)).length:=by grind[uk]
 grind[GL,af7,vn,Od,uH]
/-! valid boards -/
theorem cH:(E.B ρ (.fn 115 X)=true)=(0<=E.I ρ (.fn 1 (.pr X (.int 34)))/\E.I ρ (.fn 1 (.pr X (.int 34)))<=1/\0<=E.I ρ (.fn 1 (.pr X (.int 33)))/\E.I ρ (.fn 1 (.pr X (.int 33)))<=1000/\0<=E.I ρ (.fn 1 (.pr X (.int 35)))/\E.I ρ (.fn 1 (.pr X (.int 35)))<=10/\-1<=E.I ρ (.fn 1 (.pr X (.int 36)))/\E.I ρ (.fn 1 (.pr X (.int 36)))<=1/\0<=E.I ρ (.fn 1 (.pr X (.int 37)))/\E.I ρ (.fn 1 (.pr X (.int 37)))<=2/\E.I ρ (.fn 9 (.pr (.fn 1 (.pr X (.int 0))) (.int 12)))<=500/\E.I ρ (.fn 9 (.pr (.fn 1 (.pr X (.int 29))) (.int 5)))<=200/\E.I ρ (.fn 9 (.pr (.fn 1 (.pr X (.int 30))) (.int 5)))<=200/\0<=E.I ρ (.fn 1 (.pr X (.int 1)))/\E.I ρ (.fn 1 (.pr X (.int 1)))<=9999/\0<=E.I ρ (.fn 1 (.pr X (.int 2)))/\E.I ρ (.fn 1 (.pr X (.int 2)))<=99/\0<=E.I ρ (.fn 1 (.pr X (.int 3)))/\E.I ρ (.fn 1 (.pr X (.int 3)))<=99/\0<=E.I ρ (.fn 1 (.pr X (.int 4)))/\E.I ρ (.fn 1 (.pr X (.int 4)))<=99/\0<=E.I ρ (.fn 1 (.pr X (.int 5)))/\E.I ρ (.fn 1 (.pr X (.int 5)))<=99/\0<=E.I ρ (.fn 1 (.pr X (.int 13)))/\E.I ρ (.fn 1 (.pr X (.int 13)))<=7/\0<=E.I ρ (.fn 1 (.pr X (.int 14)))/\E.I ρ (.fn 1 (.pr X (.int 14)))<=255/\0<=E.I ρ (.fn 1 (.pr X (.int 15)))/\E.I ρ (.fn 1 (.pr X (.int 15)))<=9999/\0<=E.I ρ (.fn 1 (.pr X (.int 16)))/\E.I ρ (.fn 1 (.pr X (.int 16)))<=99/\0<=E.I ρ (.fn 1 (.pr X (.int 17)))/\E.I ρ (.fn 1 (.pr X (.int 17)))<=99/\0<=E.I ρ (.fn 1 (.pr X (.int 18)))/\E.I ρ (.fn 1 (.pr X (.int 18)))<=99/\0<=E.I ρ (.fn 1 (.pr X (.int 19)))/\E.I ρ (.fn 1 (.pr X (.int 19)))<=99/\0<=E.I ρ (.fn 1 (.pr X (.int 27)))/\E.I ρ (.fn 1 (.pr X (.int 27)))<=7/\0<=E.I ρ (.fn 1 (.pr X (.int 28)))/\E.I ρ (.fn 1 (.pr X (.int 28)))<=255/\E.B ρ (.fn 103 (.pr (.fn 1 (.pr X (.int 29))) (.pr (.bool false) (.fn 9 (.pr (.fn 1 (.pr X (.int 29))) (.int 5))))))=true/\E.B ρ (.fn 103 (.pr (.fn 1 (.pr X (.int 30))) (.pr (.bool true) (.fn 9 (.pr (.fn 1 (.pr X (.int 30))) (.int 5))))))=true/\E.B ρ (.fn 108 X)=true/\E.B ρ (.fn 110 X)=true):=by
 show(iI _=true)=_
 have e34:E.I ρ (.fn 1 (.pr X (.int 34)))=iX (X.den ρ) 34:=rfl;have e33:E.I ρ (.fn 1 (.pr X (.int 33)))=iX (X.den ρ) 33:=rfl;have e35:E.I ρ (.fn 1 (.pr X (.int 35)))=iX (X.den ρ) 35:=rfl;have e36:E.I ρ (.fn 1 (.pr X (.int 36)))=iX (X.den ρ) 36:=rfl;have e37:E.I ρ (.fn 1 (.pr X (.int 37)))=iX (X.den ρ) 37:=rfl;have e1:E.I ρ (.fn 1 (.pr X (.int 1)))=iX (X.den ρ) 1:=rfl;have e2:E.I ρ (.fn 1 (.pr X (.int 2)))=iX (X.den ρ) 2:=rfl;have e3:E.I ρ (.fn 1 (.pr X (.int 3)))=iX (X.den ρ) 3:=rfl;have e4:E.I ρ (.fn 1 (.pr X (.int 4)))=iX (X.den ρ) 4:=rfl;have e5:E.I ρ (.fn 1 (.pr X (.int 5)))=iX (X.den ρ) 5:=rfl;have e13:E.I ρ (.fn 1 (.pr X (.int 13)))=iX (X.den ρ) 13:=rfl;have e14:E.I ρ (.fn 1 (.pr X (.int 14)))=iX (X.den ρ) 14:=rfl;have e15:E.I ρ (.fn 1 (.pr X (.int 15)))=iX (X.den ρ) 15:=rfl;have e16:E.I ρ (.fn 1 (.pr X (.int 16)))=iX (X.den ρ) 16:=rfl;have e17:E.I ρ (.fn 1 (.pr X (.int 17)))=iX (X.den ρ) 17:=rfl;have e18:E.I ρ (.fn 1 (.pr X (.int 18)))=iX (X.den ρ) 18:=rfl;have e19:E.I ρ (.fn 1 (.pr X (.int 19)))=iX (X.den ρ) 19:=rfl;have e27:E.I ρ (.fn 1 (.pr X (.int 27)))=iX (X.den ρ) 27:=rfl;have e28:E.I ρ (.fn 1 (.pr X (.int 28)))=iX (X.den ρ) 28:=rfl;have q0:E.I ρ (.fn 9 (.pr (.fn 1 (.pr X (.int 0))) (.int 12)))=aK (X.den ρ):=rfl;have q29:E.I ρ (.fn 9 (.pr (.fn 1 (.pr X (.int 29))) (.int 5)))=b8 (X.den ρ):=rfl;have q30:E.I ρ (.fn 9 (.pr (.fn 1 (.pr X (.int 30))) (.int 5)))=((cX (X.den ρ) 30).toL.length/5:Nat):=rfl;have l29:E.L ρ (.fn 1 (.pr X (.int 29)))=(cX (X.den ρ) 29).toL:=rfl;have l30:E.L ρ (.fn 1 (.pr X (.int 30)))=(cX (X.den ρ) 30).toL:=rfl;have bt:E.B ρ (.bool _)=true:=rfl;have bf:E.B ρ (.bool _)=false:=rfl;have za:(E.B ρ (.fn 108 X)=true)=(dI _=true):=rfl;have zb:(E.B ρ (.fn 110 X)=true)=(gW _=true):=rfl
 rw[za,zb,tl,tl,l29,l30,bt,bf,q29,q30,q0,e34,e33,e35,e36,e37,e1,e2,e3,e4,e5,e13,e14,e15,e16,e17,e18,e19,e27,e28,Int.toNat_natCast,Int.toNat_natCast]
 unfold iI oN na sC;simp only[Bool.and_eq_true,iu,List.all_cons];grind
theorem cP:(E.B ρ (.fn 130 X)=true)=(0<=E.I ρ (.fn 1 (.pr X (.int 34)))/\E.I ρ (.fn 1 (.pr X (.int 34)))<=1/\0<=E.I ρ (.fn 1 (.pr X (.int 33)))/\E.I ρ (.fn 1 (.pr X (.int 33)))<=1000/\0<=E.I ρ (.fn 1 (.pr X (.int 35)))/\E.I ρ (.fn 1 (.pr X (.int 35)))<=10/\-1<=E.I ρ (.fn 1 (.pr X (.int 36)))/\E.I ρ (.fn 1 (.pr X (.int 36)))<=1/\0<=E.I ρ (.fn 1 (.pr X (.int 37)))/\E.I ρ (.fn 1 (.pr X (.int 37)))<=2/\E.I ρ (.fn 9 (.pr (.fn 1 (.pr X (.int 0))) (.int 12)))<=500/\E.I ρ (.fn 9 (.pr (.fn 1 (.pr X (.int 29))) (.int 5)))<=200/\E.I ρ (.fn 9 (.pr (.fn 1 (.pr X (.int 30))) (.int 5)))<=200/\0<=E.I ρ (.fn 1 (.pr X (.int 1)))/\E.I ρ (.fn 1 (.pr X (.int 1)))<=9999/\0<=E.I ρ (.fn 1 (.pr X (.int 2)))/\E.I ρ (.fn 1 (.pr X (.int 2)))<=99/\0<=E.I ρ (.fn 1 (.pr X (.int 3)))/\E.I ρ (.fn 1 (.pr X (.int 3)))<=99/\0<=E.I ρ (.fn 1 (.pr X (.int 4)))/\E.I ρ (.fn 1 (.pr X (.int 4)))<=99/\0<=E.I ρ (.fn 1 (.pr X (.int 5)))/\E.I ρ (.fn 1 (.pr X (.int 5)))<=99/\0<=E.I ρ (.fn 1 (.pr X (.int 13)))/\E.I ρ (.fn 1 (.pr X (.int 13)))<=7/\0<=E.I ρ (.fn 1 (.pr X (.int 14)))/\E.I ρ (.fn 1 (.pr X (.int 14)))<=255/\0<=E.I ρ (.fn 1 (.pr X (.int 15)))/\E.I ρ (.fn 1 (.pr X (.int 15)))<=9999/\0<=E.I ρ (.fn 1 (.pr X (.int 16)))/\E.I ρ (.fn 1 (.pr X (.int 16)))<=99/\0<=E.I ρ (.fn 1 (.pr X (.int 17)))/\E.I ρ (.fn 1 (.pr X (.int 17)))<=99/\0<=E.I ρ (.fn 1 (.pr X (.int 18)))/\E.I ρ (.fn 1 (.pr X (.int 18)))<=99/\0<=E.I ρ (.fn 1 (.pr X (.int 19)))/\E.I ρ (.fn 1 (.pr X (.int 19)))<=99/\0<=E.I ρ (.fn 1 (.pr X (.int 27)))/\E.I ρ (.fn 1 (.pr X (.int 27)))<=7/\0<=E.I ρ (.fn 1 (.pr X (.int 28)))/\E.I ρ (.fn 1 (.pr X (.int 28)))<=255/\E.B ρ (.fn 103 (.pr (.fn 1 (.pr X (.int 29))) (.pr (.bool false) (.fn 9 (.pr (.fn 1 (.pr X (.int 29))) (.int 5))))))=true/\E.B ρ (.fn 103 (.pr (.fn 1 (.pr X (.int 30))) (.pr (.bool true) (.fn 9 (.pr (.fn 1 (.pr X (.int 30))) (.int 5))))))=true/\E.B ρ (.fn 125 X)=true/\E.B ρ (.fn 129 X)=true):=by
 show(ti _=true)=_
 have e34:E.I ρ (.fn 1 (.pr X (.int 34)))=iX (X.den ρ) 34:=rfl;have e33:E.I ρ (.fn 1 (.pr X (.int 33)))=iX (X.den ρ) 33:=rfl;have e35:E.I ρ (.fn 1 (.pr X (.int 35)))=iX (X.den ρ) 35:=rfl;have e36:E.I ρ (.fn 1 (.pr X (.int 36)))=iX (X.den ρ) 36:=rfl;have e37:E.I ρ (.fn 1 (.pr X (.int 37)))=iX (X.den ρ) 37:=rfl;have e1:E.I ρ (.fn 1 (.pr X (.int 1)))=iX (X.den ρ) 1:=rfl;have e2:E.I ρ (.fn 1 (.pr X (.int 2)))=iX (X.den ρ) 2:=rfl;have e3:E.I ρ (.fn 1 (.pr X (.int 3)))=iX (X.den ρ) 3:=rfl;have e4:E.I ρ (.fn 1 (.pr X (.int 4)))=iX (X.den ρ) 4:=rfl;have e5:E.I ρ (.fn 1 (.pr X (.int 5)))=iX (X.den ρ) 5:=rfl;have e13:E.I ρ (.fn 1 (.pr X (.int 13)))=iX (X.den ρ) 13:=rfl;have e14:E.I ρ (.fn 1 (.pr X (.int 14)))=iX (X.den ρ) 14:=rfl;have e15:E.I ρ (.fn 1 (.pr X (.int 15)))=iX (X.den ρ) 15:=rfl;have e16:E.I ρ (.fn 1 (.pr X (.int 16)))=iX (X.den ρ) 16:=rfl;have e17:E.I ρ (.fn 1 (.pr X (.int 17)))=iX (X.den ρ) 17:=rfl;have e18:E.I ρ (.fn 1 (.pr X (.int 18)))=iX (X.den ρ) 18:=rfl;have e19:E.I ρ (.fn 1 (.pr X (.int 19)))=iX (X.den ρ) 19:=rfl;have e27:E.I ρ (.fn 1 (.pr X (.int 27)))=iX (X.den ρ) 27:=rfl;have e28:E.I ρ (.fn 1 (.pr X (.int 28)))=iX (X.den ρ) 28:=rfl;have q0:E.I ρ (.fn 9 (.pr (.fn 1 (.pr X (.int 0))) (.int 12)))=aK (X.den ρ):=rfl;have q29:E.I ρ (.fn 9 (.pr (.fn 1 (.pr X (.int 29))) (.int 5)))=b8 (X.den ρ):=rfl;have q30:E.I ρ (.fn 9 (.pr (.fn 1 (.pr X (.int 30))) (.int 5)))=((cX (X.den ρ) 30).toL.length/5:Nat):=rfl;have l29:E.L ρ (.fn 1 (.pr X (.int 29)))=(cX (X.den ρ) 29).toL:=rfl;have l30:E.L ρ (.fn 1 (.pr X (.int 30)))=(cX (X.den ρ) 30).toL:=rfl;have bt:E.B ρ (.bool _)=true:=rfl;have bf:E.B ρ (.bool _)=false:=rfl;have za:(E.B ρ (.fn 125 X)=true)=(sq _=true):=rfl;have zb:(E.B ρ (.fn 129 X)=true)=(sg _=true):=rfl
 rw[za,zb,tl,tl,l29,l30,bt,bf,q29,q30,q0,e34,e33,e35,e36,e37,e1,e2,e3,e4,e5,e13,e14,e15,e16,e17,e18,e19,e27,e28,Int.toNat_natCast,Int.toNat_natCast]
 unfold ti oN na sC;simp only[Bool.and_eq_true,iu,List.all_cons];grind
end
end Go.SX

set_option linter.unusedVariables false
set_option linter.unusedSimpArgs false
namespace Go.SX
/-! ### all objects in just one place: the program's way -/
theorem ae3(X:U)(s:Nat):i4 X (s+1)=i4 X s++if nI (cX X 29).toL (s*5+3)<0 then [(nI (cX X 29).toL (s*5+1),nI (cX X 29).toL (s*5))] else []:=by
 grind[i4,F3]
theorem aHZ(X:U)(s:Nat):hE X (s+1)=hE X s++if nI (cX X 29).toL (s*5+3)<0 then [(nI (cX X 29).toL (s*5+1),nI (cX X 29).toL (s*5+2))] else []:=by
 grind[hE,F3]
theorem Nt(X:U)(s:Nat):(hE X s).map Prod.fst=(i4 X s).map Prod.fst:=by
 simp_all[hE,i4]
theorem aH1(X:U):i4 X 0=[]:=by rfl
theorem Ew{m:List U}{l:List (Int×Int)}(h:iV m l=true)(k:Int):(cF k m).isSome=true↔k∈l.map Prod.fst:=by
 simp_all[zr,Md]
section
variable {ρ:Env} {x y l A a b k u i j p q n m r o c d w v X T N L L2 mc s p' q' i':E}
theorem Au:E.B ρ (.fn 33 (.pr m k))=(cF (E.I ρ k) (E.L ρ m)).isSome:=rfl
theorem GK:(E.B ρ (.fn 104 (.pr m (.pr X (.pr p (.pr q i)))))=true)=(iV (E.L ρ m) (fP (X.den ρ) ((E.I ρ p).toNat*4+(E.I ρ q).toNat) (E.I ρ i).toNat)=true):=rfl
theorem wu:(E.B ρ (.fn 105 (.pr m (.pr X s)))=true)=(iV (E.L ρ m) (fP (X.den ρ) 8 0++i4 (X.den ρ) (E.I ρ s).toNat)=true):=rfl
theorem Al:(E.B ρ (.fn 106 (.pr m (.pr X s)))=true)=(iV (E.L ρ m) (hE (X.den ρ) (E.I ρ s).toNat)=true):=rfl
theorem Oc:(E.B ρ (.fn 107 (.pr X n))=true)=(qi (X.den ρ) (E.I ρ n).toNat=true):=rfl
theorem afd(h:E.B ρ (.fn 104 (.pr m (.pr X (.pr p (.pr q i)))))=true)(h1:0<=E.I ρ p)(h2:0<=E.I ρ q)(h3:0<=E.I ρ p')(h4:0<=E.I ρ q')(hk:E.I ρ p'*4+E.I ρ q'=E.I ρ p*4+E.I ρ q)(hi:E.I ρ i'=E.I ρ i):
  E.B ρ (.fn 104 (.pr m (.pr X (.pr p' (.pr q' i')))))=true:=by
 grind[GK]
theorem aIk(h:E.B ρ (.fn 104 (.pr m (.pr X (.pr p (.pr q i)))))=true)(hL:E.B ρ (.fn 109 (.pr L (.pr X (.pr p q))))=true)(h2:0<=E.I ρ q)(hi:E.I ρ i=E.I ρ (.fn 0 L))(hq:E.I ρ q'=E.I ρ q+1)(hz:E.I ρ i'=0):
  E.B ρ (.fn 104 (.pr m (.pr X (.pr p (.pr q' i')))))=true:=by
 grind[GK,Am,eJ,aFu]
theorem Gg(h:E.B ρ (.fn 104 (.pr m (.pr X (.pr p (.pr q i)))))=true)(hL:E.B ρ (.fn 109 (.pr L (.pr X (.pr p q))))=true)(h0:0<=E.I ρ p)(h1:0<=E.I ρ q)(h2:E.I ρ q<4)(hi:0<=E.I ρ i)(hi':E.I ρ i<E.I ρ (.fn 0 L))(hn:E.I ρ n=E.I ρ i+1)(hp:E.I ρ p<=1):
  (¬E.B ρ (.fn 33 (.pr m (.fn 1 (.pr L i))))=true->E.B ρ (.fn 104 (.pr (.fn 34 (.pr m (.pr (.fn 1 (.pr L i)) p))) (.pr X (.pr p (.pr q n)))))=true)/\
  (E.B ρ (.fn 33 (.pr m (.fn 1 (.pr L i))))=true->¬E.B ρ (.fn 108 X)=true):=by
 rw[GK]at *
 rw[Am]at hL
 have ei:(E.I ρ n).toNat=(E.I ρ i).toNat+1:=by omega
 have hlt:(E.I ρ i).toNat<(bh (X.den ρ) ((E.I ρ p).toNat*4+(E.I ρ q).toNat)).length:=by grind[eJ]
 have ek:((E.I ρ p).toNat*4+(E.I ρ q).toNat)/4=(E.I ρ p).toNat:=by omega
 have hs:=aFv _ _ _ hlt
 rw[ek,<- hL,<- tC,Int.toNat_of_nonneg h0]at hs
 refine⟨fun hn'=>?_,fun ht=>?_⟩
 ·rw[ei,tH,hs]
  exact Mb h hn'
 ·rw[Au,Ew h]at ht
  rw[tn]
  refine adc (k:=E.I ρ _) (v:=E.I ρ p) ?_ ht
  have:=Fx (X.den ρ) ((E.I ρ p).toNat*4+(E.I ρ q).toNat) ((E.I ρ i).toNat+1) (by omega)
  simp_all
theorem aIm(h:E.B ρ (.fn 104 (.pr m (.pr X (.pr p (.pr q i)))))=true)(h1:E.I ρ p=2)(h2:E.I ρ q=0)(h3:E.I ρ i=0)(hs:E.I ρ s=0):E.B ρ (.fn 105 (.pr m (.pr X s)))=true:=by
 rw[GK,h1,h2,h3]at h
 rw[wu,hs]
 have e:(0:Int).toNat=0:=rfl
 rw[e,aH1,List.append_nil];exact h
theorem aIl(h:E.B ρ (.fn 105 (.pr m (.pr X s)))=true)(e:E.I ρ n=E.I ρ s):E.B ρ (.fn 105 (.pr m (.pr X n)))=true:=by
 simp_all[wu]
theorem aIn(h:E.B ρ (.fn 106 (.pr m (.pr X s)))=true)(e:E.I ρ n=E.I ρ s):E.B ρ (.fn 106 (.pr m (.pr X n)))=true:=by
 simp_all[Al]
theorem lZ(h0:0<=E.I ρ s)(c:Nat):nI (cX (X.den ρ) 29).toL ((E.I ρ s).toNat*5+c)=E.I ρ (.fn 1 (.pr (.fn 1 (.pr X (.int 29))) (.fn 6 (.pr (.fn 8 (.pr s (.int 5))) (.int (Int.ofNat c)))))):=
 (me (T:=.fn 1 (.pr X (.int 29))) s 5 c h0).symm
theorem Af(h:E.B ρ (.fn 105 (.pr m (.pr X s)))=true)(h':E.B ρ (.fn 106 (.pr mc (.pr X s)))=true)(h0:0<=E.I ρ s)(h1:E.I ρ s<E.I ρ (.fn 9 (.pr (.fn 1 (.pr X (.int 29))) (.int 5))))(hn:E.I ρ n=E.I ρ s+1)
  {pl id cd tr:E}(e0:pl=.fn 1 (.pr (.fn 1 (.pr X (.int 29))) (.fn 6 (.pr (.fn 8 (.pr s (.int 5))) (.int 0)))))(e1:id=.fn 1 (.pr (.fn 1 (.pr X (.int 29))) (.fn 6 (.pr (.fn 8 (.pr s (.int 5))) (.int 1)))))
  (e2:cd=.fn 1 (.pr (.fn 1 (.pr X (.int 29))) (.fn 6 (.pr (.fn 8 (.pr s (.int 5))) (.int 2)))))(e3:tr=.fn 1 (.pr (.fn 1 (.pr X (.int 29))) (.fn 6 (.pr (.fn 8 (.pr s (.int 5))) (.int 3))))):
  (¬E.I ρ tr<0->E.B ρ (.fn 105 (.pr m (.pr X n)))=true/\E.B ρ (.fn 106 (.pr mc (.pr X n)))=true)/\
  (E.I ρ tr<0->E.B ρ (.fn 33 (.pr m id))=true->¬E.B ρ (.fn 108 X)=true)/\
  (E.I ρ tr<0->¬E.B ρ (.fn 33 (.pr m id))=true->E.B ρ (.fn 105 (.pr (.fn 34 (.pr m (.pr id pl))) (.pr X n)))=true/\E.B ρ (.fn 106 (.pr (.fn 34 (.pr mc (.pr id cd))) (.pr X n)))=true):=by
 subst e0;subst e1;subst e2;subst e3
 rw[wu]at h
 rw[Al]at h'
 have hs:(E.I ρ s).toNat<b8 (X.den ρ):=by
  have:E.I ρ (.fn 9 (.pr (.fn 1 (.pr X (.int 29))) (.int 5)))=b8 (X.den ρ):=rfl
  omega
 have en:(E.I ρ n).toNat=(E.I ρ s).toNat+1:=by omega
 have c0:=lZ (X:=X) h0 0;have c1:=lZ (X:=X) h0 1;have c2:=lZ (X:=X) h0 2;have c3:=lZ (X:=X) h0 3;simp only[Nat.add_zero]at c0;have k3:(Int.ofNat 3)=3:=rfl
 rw[k3]at c3
 have sp:=ae3 (X.den ρ) (E.I ρ s).toNat;have sc:=aHZ (X.den ρ) (E.I ρ s).toNat
 rw[c0,c1,c3]at sp
 rw[c1,c2,c3]at sc
 refine⟨fun ht=>?_,fun ht hb=>?_,fun ht hb=>?_⟩
 ·simp_all[wu,Al]
 ·rw[Au,Ew h]at hb
  rw[tn]
  refine adc (k:=E.I ρ _) (v:=E.I ρ (.fn 1 (.pr (.fn 1 (.pr X (.int 29))) (.fn 6 (.pr (.fn 8 (.pr s (.int 5))) (.int 0)))))) ?_ hb;grind[aH0]
 ·rw[if_pos ht]at sp sc
  rw[Au]at hb
  rw[wu,Al,en,sp,sc,tH,tH,<- List.append_assoc]
  refine⟨Mb h hb,Mb h' ?_⟩
  rw[Ew h,List.map_append,List.mem_append]at hb
  grind[Ew,Nt]
theorem i0(h0:0<=E.I ρ i)(c:Nat):oI (X.den ρ) (E.I ρ i).toNat c=E.I ρ (.fn 1 (.pr (.fn 1 (.pr X (.int 0))) (.fn 6 (.pr (.fn 8 (.pr i (.int 12))) (.int (Int.ofNat c)))))):=
 (me (T:=.fn 1 (.pr X (.int 0))) i 12 c h0).symm
theorem abD{l:List (Int×Int)}(h:iV (E.L ρ m) l=true)(hb:E.B ρ (.fn 33 (.pr m k))=true):gp l (E.I ρ k)=some (E.I ρ (.fn 32 (.pr m (.pr k (.int 0))))):=by
 rw[zr]at h
 rw[Au]at hb
 rw[<- h.1,<- Ez]
 have e:E.I ρ (.fn 32 (.pr m (.pr k (.int 0))))=((cF (E.I ρ k) (E.L ρ m)).getD _).toI:=rfl
 rw[e]
 cases hc:cF _ _ with
 |none=>simp_all
 |some v=>rfl
theorem abE{l:List (Int×Int)}(h:iV (E.L ρ m) l=true)(hb:¬E.B ρ (.fn 33 (.pr m k))=true):gp l (E.I ρ k)=none:=by
 rw[zr]at h
 rw[Au]at hb
 rw[<- h.1,<- Ez]
 simp_all
theorem vI{Y:U}(h:dI Y=true):qi Y (aK Y)=true:=by
 simp_all[dI]
/-- an object -/
theorem aJw(hm:E.B ρ (.fn 105 (.pr m (.pr X (.fn 9 (.pr (.fn 1 (.pr X (.int 29))) (.int 5))))))=true)(hc:E.B ρ (.fn 106 (.pr mc (.pr X (.fn 9 (.pr (.fn 1 (.pr X (.int 29))) (.int 5))))))=true)(h:E.B ρ (.fn 107 (.pr X i))=true)
    (h0:0<=E.I ρ i)(hi:E.I ρ i<E.I ρ (.fn 9 (.pr (.fn 1 (.pr X (.int 0))) (.int 12))))(hn:E.I ρ n=E.I ρ i+1){t:E}(ht:0<E.I ρ i->E.I ρ t=E.I ρ i-1){C:Prop}{f:Nat->E}(hf:f=fun j=> .fn 1 (.pr (.fn 1 (.pr X (.int 0))) (.fn 6 (.pr (.fn 8 (.pr i (.int 12))) (.int (Int.ofNat j))))))
    (hC:C↔(1<=E.I ρ (f 0)/\E.I ρ (f 0)<=500/\ -1<=E.I ρ (f 1)/\E.I ρ (f 1)<=399/\0<=E.I ρ (f 2)/\E.I ρ (f 2)<=1/\(E.I ρ (f 1)= -1\/(E.I ρ (f 3)=0/\E.I ρ (f 4)=0))/\
      0<=E.I ρ (f 3)/\E.I ρ (f 3)<=99/\0<=E.I ρ (f 4)/\E.I ρ (f 4)<=99/\0<=E.I ρ (f 5)/\E.I ρ (f 5)<=99/\0<=E.I ρ (f 6)/\E.I ρ (f 6)<=99/\0<=E.I ρ (f 7)/\E.I ρ (f 7)<=99/\0<=E.I ρ (f 8)/\E.I ρ (f 8)<=99)/\
      (E.I ρ i=0\/E.I ρ (.fn 1 (.pr (.fn 1 (.pr X (.int 0))) (.fn 6 (.pr (.fn 8 (.pr t (.int 12))) (.int 0)))))<E.I ρ (f 0))/\
      (E.B ρ (.fn 33 (.pr m (f 0)))=true/\E.I ρ (.fn 32 (.pr m (.pr (f 0) (.int 0))))=E.I ρ (f 2))/\(E.B ρ (.fn 33 (.pr mc (f 0)))=true->E.I ρ (.fn 32 (.pr mc (.pr (f 0) (.int 0))))=E.I ρ (f 1))):
    (C->E.B ρ (.fn 107 (.pr X n))=true)/\(¬C->¬E.B ρ (.fn 108 X)=true):=by
  rw[wu]at hm
  rw[Al]at hc
  have es:(E.I ρ (.fn 9 (.pr (.fn 1 (.pr X (.int 29))) (.int 5)))).toNat=b8 (X.den ρ):=rfl
  rw[es]at hm hc
  have hall:iV (E.L ρ m) (dx (X.den ρ))=true:=hm;have hi':(E.I ρ i).toNat<aK (X.den ρ):=by
    have:E.I ρ (.fn 9 (.pr (.fn 1 (.pr X (.int 0))) (.int 12)))=((aK (X.den ρ):Nat):Int):=rfl
    omega
  have fc:∀j,E.I ρ (f j)=oI (X.den ρ) (E.I ρ i).toNat j:=by
    simp_all[i0]
  have hprev:(E.I ρ i=0\/E.I ρ (.fn 1 (.pr (.fn 1 (.pr X (.int 0))) (.fn 6 (.pr (.fn 8 (.pr t (.int 12))) (.int 0)))))<E.I ρ (f 0))↔((E.I ρ i).toNat=0\/oI (X.den ρ) ((E.I ρ i).toNat-1) 0<oI (X.den ρ) (E.I ρ i).toNat 0):=by
    by_cases hz:E.I ρ i=0
    · omega
    · have ht':=ht (by omega);have e:=i0 (X:=X) (i:=t) (ρ:=ρ) (by omega) 0;grind
  have hown:(E.B ρ (.fn 33 (.pr m (f 0)))=true/\E.I ρ (.fn 32 (.pr m (.pr (f 0) (.int 0))))=E.I ρ (f 2))↔gp (dx (X.den ρ)) (oI (X.den ρ) (E.I ρ i).toNat 0)=some (oI (X.den ρ) (E.I ρ i).toNat 2):=by
    grind[E.B,abD,abE]
  have hcard:(E.B ρ (.fn 33 (.pr mc (f 0)))=true->E.I ρ (.fn 32 (.pr mc (.pr (f 0) (.int 0))))=E.I ρ (f 1))↔(∀c,gp (hE (X.den ρ) (b8 (X.den ρ))) (oI (X.den ρ) (E.I ρ i).toNat 0)=some c->c=oI (X.den ρ) (E.I ρ i).toNat 1):=by
    grind[E.B,abD,abE]
  have key:C↔(oO (X.den ρ) (E.I ρ i).toNat=true/\((E.I ρ i).toNat=0\/oI (X.den ρ) ((E.I ρ i).toNat-1) 0<oI (X.den ρ) (E.I ρ i).toNat 0)/\gp (dx (X.den ρ)) (oI (X.den ρ) (E.I ρ i).toNat 0)=some (oI (X.den ρ) (E.I ρ i).toNat 2)/\(∀c,gp (hE (X.den ρ) (b8 (X.den ρ))) (oI (X.den ρ) (E.I ρ i).toNat 0)=some c->c=oI (X.den ρ) (E.I ρ i).toNat 1)):=by
    grind[qh]
  rw[Oc,mT]at h
  refine⟨fun hc'=>?_,fun hc' hp=>?_⟩
  · rw[Oc,mT]
    intro k hk;by_cases e:k=(E.I ρ i).toNat
    · grind
    · exact h k (by omega)
  grind[tn,mT,vI]
theorem aJx(hm:E.B ρ (.fn 105 (.pr m (.pr X (.fn 9 (.pr (.fn 1 (.pr X (.int 29))) (.int 5))))))=true)(hc:E.B ρ (.fn 106 (.pr mc (.pr X (.fn 9 (.pr (.fn 1 (.pr X (.int 29))) (.int 5))))))=true)(h:E.B ρ (.fn 107 (.pr X i))=true)
  {t a0 a1 a2 a3 a4 a5 a6 a7 a8:E}(e0:a0=.fn 1 (.pr (.fn 1 (.pr X (.int 0))) (.fn 6 (.pr (.fn 8 (.pr i (.int 12))) (.int 0)))))(e1:a1=.fn 1 (.pr (.fn 1 (.pr X (.int 0))) (.fn 6 (.pr (.fn 8 (.pr i (.int 12))) (.int 1)))))(e2:a2=.fn 1 (.pr (.fn 1 (.pr X (.int 0))) (.fn 6 (.pr (.fn 8 (.pr i (.int 12))) (.int 2)))))(e3:a3=.fn 1 (.pr (.fn 1 (.pr X (.int 0))) (.fn 6 (.pr (.fn 8 (.pr i (.int 12))) (.int 3)))))(e4:a4=.fn 1 (.pr (.fn 1 (.pr X (.int 0))) (.fn 6 (.pr (.fn 8 (.pr i (.int 12))) (.int 4)))))(e5:a5=.fn 1 (.pr (.fn 1 (.pr X (.int 0))) (.fn 6 (.pr (.fn 8 (.pr i (.int 12))) (.int 5)))))(e6:a6=.fn 1 (.pr (.fn 1 (.pr X (.int 0))) (.fn 6 (.pr (.fn 8 (.pr i (.int 12))) (.int 6)))))(e7:a7=.fn 1 (.pr (.fn 1 (.pr X (.int 0))) (.fn 6 (.pr (.fn 8 (.pr i (.int 12))) (.int 7)))))(e8:a8=.fn 1 (.pr (.fn 1 (.pr X (.int 0))) (.fn 6 (.pr (.fn 8 (.pr i (.int 12))) (.int 8)))))
  (h0:0<=E.I ρ i)(hi:E.I ρ i<E.I ρ (.fn 9 (.pr (.fn 1 (.pr X (.int 0))) (.int 12))))(hn:E.I ρ n=E.I ρ i+1)(ht:0<E.I ρ i->E.I ρ t=E.I ρ i-1):
  (((1<=E.I ρ a0/\E.I ρ a0<=500/\-1<=E.I ρ a1/\E.I ρ a1<=399/\0<=E.I ρ a2/\E.I ρ a2<=1/\(E.I ρ a1=-1\/(E.I ρ a3=0/\E.I ρ a4=0))/\0<=E.I ρ a3/\E.I ρ a3<=99/\0<=E.I ρ a4/\E.I ρ a4<=99/\0<=E.I ρ a5/\E.I ρ a5<=99/\0<=E.I ρ a6/\E.I ρ a6<=99/\0<=E.I ρ a7/\E.I ρ a7<=99/\0<=E.I ρ a8/\E.I ρ a8<=99)/\(E.I ρ i=0\/E.I ρ (.fn 1 (.pr (.fn 1 (.pr X (.int 0))) (.fn 6 (.pr (.fn 8 (.pr t (.int 12))) (.int 0)))))<E.I ρ a0)/\(E.B ρ (.fn 33 (.pr m a0))=true/\E.I ρ (.fn 32 (.pr m (.pr a0 (.int 0))))=E.I ρ a2)/\(E.B ρ (.fn 33 (.pr mc a0))=true->E.I ρ (.fn 32 (.pr mc (.pr a0 (.int 0))))=E.I ρ a1))->E.B ρ (.fn 107 (.pr X n))=true)/\(¬((1<=E.I ρ a0/\E.I ρ a0<=500/\-1<=E.I ρ a1/\E.I ρ a1<=399/\0<=E.I ρ a2/\E.I ρ a2<=1/\(E.I ρ a1=-1\/(E.I ρ a3=0/\E.I ρ a4=0))/\0<=E.I ρ a3/\E.I ρ a3<=99/\0<=E.I ρ a4/\E.I ρ a4<=99/\0<=E.I ρ a5/\E.I ρ a5<=99/\0<=E.I ρ a6/\E.I ρ a6<=99/\0<=E.I ρ a7/\E.I ρ a7<=99/\0<=E.I ρ a8/\E.I ρ a8<=99)/\(E.I ρ i=0\/E.I ρ (.fn 1 (.pr (.fn 1 (.pr X (.int 0))) (.fn 6 (.pr (.fn 8 (.pr t (.int 12))) (.int 0)))))<E.I ρ a0)/\(E.B ρ (.fn 33 (.pr m a0))=true/\E.I ρ (.fn 32 (.pr m (.pr a0 (.int 0))))=E.I ρ a2)/\(E.B ρ (.fn 33 (.pr mc a0))=true->E.I ρ (.fn 32 (.pr mc (.pr a0 (.int 0))))=E.I ρ a1))->¬E.B ρ (.fn 108 X)=true):=by
 subst e0;subst e1;subst e2;subst e3;subst e4;subst e5;subst e6;subst e7;subst e8;exact aJw hm hc h h0 hi hn ht (f:=fun j=>.fn 1 _) rfl Iff.rfl
theorem cW{a0 a1 a2 a3 a4 a5 a6 a7 a8:E}:(E.B ρ (.fn 137 (.pr a0 (.pr a1 (.pr a2 (.pr a3 (.pr a4 (.pr a5 (.pr a6 (.pr a7 a8)))))))))=true)=(1<=E.I ρ a0/\E.I ρ a0<=500/\-1<=E.I ρ a1/\E.I ρ a1<=399/\0<=E.I ρ a2/\E.I ρ a2<=1/\(E.I ρ a1=-1\/(E.I ρ a3=0/\E.I ρ a4=0))/\0<=E.I ρ a3/\E.I ρ a3<=99/\0<=E.I ρ a4/\E.I ρ a4<=99/\0<=E.I ρ a5/\E.I ρ a5<=99/\0<=E.I ρ a6/\E.I ρ a6<=99/\0<=E.I ρ a7/\E.I ρ a7<=99/\0<=E.I ρ a8/\E.I ρ a8<=99):=by
 show(Mv (E.I ρ a0) (E.I ρ a1) (E.I ρ a2) (E.I ρ a3) (E.I ρ a4) (E.I ρ a5) (E.I ρ a6) (E.I ρ a7) (E.I ρ a8)=true)=_
 unfold Mv;simp only[List.all_cons,List.all_nil,Bool.and_eq_true,Bool.or_eq_true,iu,beq_iff_eq,and_assoc,and_true]
theorem kY(hm:E.B ρ (.fn 105 (.pr m (.pr X (.fn 9 (.pr (.fn 1 (.pr X (.int 29))) (.int 5))))))=true)(hc:E.B ρ (.fn 106 (.pr mc (.pr X (.fn 9 (.pr (.fn 1 (.pr X (.int 29))) (.int 5))))))=true)(h:E.B ρ (.fn 107 (.pr X i))=true)
  {t a0 a1 a2 a3 a4 a5 a6 a7 a8:E}(e0:a0=.fn 1 (.pr (.fn 1 (.pr X (.int 0))) (.fn 6 (.pr (.fn 8 (.pr i (.int 12))) (.int 0)))))(e1:a1=.fn 1 (.pr (.fn 1 (.pr X (.int 0))) (.fn 6 (.pr (.fn 8 (.pr i (.int 12))) (.int 1)))))(e2:a2=.fn 1 (.pr (.fn 1 (.pr X (.int 0))) (.fn 6 (.pr (.fn 8 (.pr i (.int 12))) (.int 2)))))(e3:a3=.fn 1 (.pr (.fn 1 (.pr X (.int 0))) (.fn 6 (.pr (.fn 8 (.pr i (.int 12))) (.int 3)))))(e4:a4=.fn 1 (.pr (.fn 1 (.pr X (.int 0))) (.fn 6 (.pr (.fn 8 (.pr i (.int 12))) (.int 4)))))(e5:a5=.fn 1 (.pr (.fn 1 (.pr X (.int 0))) (.fn 6 (.pr (.fn 8 (.pr i (.int 12))) (.int 5)))))(e6:a6=.fn 1 (.pr (.fn 1 (.pr X (.int 0))) (.fn 6 (.pr (.fn 8 (.pr i (.int 12))) (.int 6)))))(e7:a7=.fn 1 (.pr (.fn 1 (.pr X (.int 0))) (.fn 6 (.pr (.fn 8 (.pr i (.int 12))) (.int 7)))))(e8:a8=.fn 1 (.pr (.fn 1 (.pr X (.int 0))) (.fn 6 (.pr (.fn 8 (.pr i (.int 12))) (.int 8)))))
  (h0:0<=E.I ρ i)(hi:E.I ρ i<E.I ρ (.fn 9 (.pr (.fn 1 (.pr X (.int 0))) (.int 12))))(hn:E.I ρ n=E.I ρ i+1)(ht:0<E.I ρ i->E.I ρ t=E.I ρ i-1):
  (((E.B ρ (.fn 137 (.pr a0 (.pr a1 (.pr a2 (.pr a3 (.pr a4 (.pr a5 (.pr a6 (.pr a7 a8)))))))))=true)/\(E.I ρ i=0\/E.I ρ (.fn 1 (.pr (.fn 1 (.pr X (.int 0))) (.fn 6 (.pr (.fn 8 (.pr t (.int 12))) (.int 0)))))<E.I ρ a0)/\(E.B ρ (.fn 33 (.pr m a0))=true/\E.I ρ (.fn 32 (.pr m (.pr a0 (.int 0))))=E.I ρ a2)/\(E.B ρ (.fn 33 (.pr mc a0))=true->E.I ρ (.fn 32 (.pr mc (.pr a0 (.int 0))))=E.I ρ a1))->E.B ρ (.fn 107 (.pr X n))=true)/\(¬((E.B ρ (.fn 137 (.pr a0 (.pr a1 (.pr a2 (.pr a3 (.pr a4 (.pr a5 (.pr a6 (.pr a7 a8)))))))))=true)/\(E.I ρ i=0\/E.I ρ (.fn 1 (.pr (.fn 1 (.pr X (.int 0))) (.fn 6 (.pr (.fn 8 (.pr t (.int 12))) (.int 0)))))<E.I ρ a0)/\(E.B ρ (.fn 33 (.pr m a0))=true/\E.I ρ (.fn 32 (.pr m (.pr a0 (.int 0))))=E.I ρ a2)/\(E.B ρ (.fn 33 (.pr mc a0))=true->E.I ρ (.fn 32 (.pr mc (.pr a0 (.int 0))))=E.I ρ a1))->¬E.B ρ (.fn 108 X)=true):=by
 rw[cW]
 exact aJx hm hc h e0 e1 e2 e3 e4 e5 e6 e7 e8 h0 hi hn ht
theorem aJy(hm:E.B ρ (.fn 105 (.pr m (.pr X (.fn 9 (.pr (.fn 1 (.pr X (.int 29))) (.int 5))))))=true)(h:E.B ρ (.fn 107 (.pr X i))=true)(hi:E.I ρ (.fn 9 (.pr (.fn 1 (.pr X (.int 0))) (.int 12)))=E.I ρ i):
  (E.I ρ (.fn 0 m)=E.I ρ (.fn 9 (.pr (.fn 1 (.pr X (.int 0))) (.int 12))))↔E.B ρ (.fn 108 X)=true:=by
 have hall:iV (E.L ρ m) (dx (X.den ρ))=true:=hm
 rw[zr]at hall
 have hl:(E.L ρ m).length=(dx (X.den ρ)).length:=by grind[jo]
 have e9:E.I ρ (.fn 9 (.pr (.fn 1 (.pr X (.int 0))) (.int 12)))=aK (X.den ρ):=rfl;have e0:E.I ρ (.fn 0 m)=(E.L ρ m).length:=rfl
 rw[Oc]at h
 rw[tn,e9,e0,hl]
 unfold dI
 rw[Bool.and_eq_true,Bool.and_eq_true,qe,beq_iff_eq]
 grind
end
end Go.SX

set_option linter.unusedVariables false
set_option linter.unusedSimpArgs false
namespace Go.SX
/-! ### valid boards: the reference's way -/
theorem YD(X:U)(n:Nat):rR X n=true↔∀i,i<n->((aC X).count (nI (cX X 31).toL i)=1/\(fZ X).count (nI (cX X 31).toL i)=1):=by
 simp_all[rR]
theorem CE(X:U)(i k:Nat):ul X i k=true↔∀q,q<k->(¬blk X q 1=blk X i 1/\¬blk X q 0=blk X i 0):=by
 simp_all[ul]
theorem x5(X:U)(n:Nat):uo X n=true↔∀i,i<n->(((aC X).count (blk X i 1)=1/\(fD X).count (blk X i 0)=1)/\ul X i i=true):=by
 simp_all[uo]
theorem yE(X:U):sg X=true↔rR X (aC X).length=true/\uo X (bc X)=true:=by
 simp_all[sg]
theorem zG(X:U)(n:Nat):vv X n=true↔∀i,i<n->(oO X i=true/\(i=0\/oI X (i-1) 0<oI X i 0)/\qm X (oI X i 2).toNat (oI X i 0)=1):=by
 simp_all[vv,and_assoc]
def NE(X:U)(i:Nat):Prop:=nI (cX X 29).toL (i*5+3)<0->(0<=bC X (nI (cX X 29).toL (i*5+1)) (aK X)/\oI X (bC X (nI (cX X 29).toL (i*5+1)) (aK X)).toNat 1=nI (cX X 29).toL (i*5+2))
theorem F2(X:U)(s:Nat):wb X s=true↔∀i,i<s->NE X i:=by
 grind[wb,hF,NE]
theorem DA(X:U):sq X=true↔wb X (b8 X)=true/\vv X (aK X)=true/\zq X=aK X:=by
 simp_all[sq,and_assoc]
theorem aDN(X:U)(k:Int)(n i:Nat)(hi:i<n)(h:bC X k i=-1)(he:oI X i 0=k):bC X k n=i:=by
 unfold bC at *;have e:List.range n=List.range i++(i::(List.range (n-i-1)).map (fun x=>i+1+x)):=by
  have h1:List.range n=List.range (i+(n-i)):=by grind
  rw[h1,List.range_add]
  congr 1;have h2:n-i=(n-i-1)+1:=by omega
  rw[h2,List.range_succ_eq_map,List.map_cons,List.map_map]
  congr 1;grind[List.map_congr_left]
 grind
theorem aDO(X:U)(k:Int)(i:Nat)(h:bC X k i=-1)(he:¬oI X i 0=k):bC X k (i+1)=-1:=by
 grind[bC]
section
variable {ρ:Env} {x y l A a b k u i j p q n m r o c d w v X T N L L2 mc s:E}
theorem jY:E.I ρ (.fn 121 (.pr l k))=(((bK ρ l).count (E.I ρ k):Nat):Int):=rfl
theorem aIw(h:E.I ρ (.fn 0 l)<=E.I ρ n):E.I ρ (.fn 121 (.pr l k))=E.I ρ (.fn 131 (.pr l (.pr k n))):=by
 grind[jY,AM,eJ,List.take_of_length_le]
theorem wM:E.I ρ (.fn 120 (.pr X (.pr k n)))=bC (X.den ρ) (E.I ρ k) (E.I ρ n).toNat:=rfl
theorem aIv(e:E.I ρ n=E.I ρ i):E.I ρ (.fn 120 (.pr X (.pr k n)))=E.I ρ (.fn 120 (.pr X (.pr k i))):=by
 simp_all[wM]
theorem afj(h:E.I ρ (.fn 120 (.pr X (.pr k i)))=-1){a:E}(ea:a=.fn 1 (.pr (.fn 1 (.pr X (.int 0))) (.fn 6 (.pr (.fn 8 (.pr i (.int 12))) (.int 0)))))(h0:0<=E.I ρ i)(hi:E.I ρ i<E.I ρ N)(hn:E.I ρ n=E.I ρ i+1):
  (¬E.I ρ a=E.I ρ k->E.I ρ (.fn 120 (.pr X (.pr k n)))=-1)/\(E.I ρ a=E.I ρ k->E.I ρ (.fn 120 (.pr X (.pr k N)))=E.I ρ i):=by
 subst ea;have e:=i0 (X:=X) h0 0;have k0:(Int.ofNat 0)=0:=rfl
 rw[k0]at e
 rw[wM]at h
 have en:(E.I ρ n).toNat=(E.I ρ i).toNat+1:=by omega
 grind[wM,aDO,aDN]
/-! places -/
theorem Qn:E.I ρ (.fn 122 (.pr X (.pr p k)))=((qm (X.den ρ) (E.I ρ p).toNat (E.I ρ k):Nat):Int):=rfl
theorem Hy:E.I ρ (.fn 132 (.pr X (.pr p (.pr q k))))=((rY (X.den ρ) (E.I ρ p).toNat (E.I ρ q).toNat (E.I ρ k):Nat):Int):=rfl
theorem Hz:E.I ρ (.fn 133 (.pr X (.pr p (.pr k s))))=((pE (X.den ρ) (E.I ρ p) (E.I ρ k) (E.I ρ s).toNat:Nat):Int):=rfl
theorem aIx(h0:0<=E.I ρ p)(hs:E.I ρ s=E.I ρ (.fn 9 (.pr (.fn 1 (.pr X (.int 29))) (.int 5)))):E.I ρ (.fn 122 (.pr X (.pr p k)))=E.I ρ (.fn 132 (.pr X (.pr p (.pr (.int 4) k))))+E.I ρ (.fn 133 (.pr X (.pr p (.pr k s)))):=by
 rw[Qn,Hy,Hz,hs]
 have e:(E.I ρ (.fn 9 (.pr (.fn 1 (.pr X (.int 29))) (.int 5)))).toNat=b8 (X.den ρ):=rfl;have e4:(E.I ρ (.int 4)).toNat=4:=rfl;grind[qm]
theorem afm(h:E.I ρ s<=0):E.I ρ (.fn 133 (.pr X (.pr p (.pr k s))))=0:=by
 have e:(E.I ρ s).toNat=0:=by omega
 rw[Hz,e];rfl
theorem Gk{pl id tr:E}(e0:pl=.fn 1 (.pr (.fn 1 (.pr X (.int 29))) (.fn 6 (.pr (.fn 8 (.pr s (.int 5))) (.int 0)))))(e1:id=.fn 1 (.pr (.fn 1 (.pr X (.int 29))) (.fn 6 (.pr (.fn 8 (.pr s (.int 5))) (.int 1)))))
  (e3:tr=.fn 1 (.pr (.fn 1 (.pr X (.int 29))) (.fn 6 (.pr (.fn 8 (.pr s (.int 5))) (.int 3)))))(h0:0<=E.I ρ s)(hn:E.I ρ n=E.I ρ s+1):
  ((E.I ρ tr=-1/\E.I ρ id=E.I ρ k/\E.I ρ pl=E.I ρ p)->E.I ρ (.fn 133 (.pr X (.pr p (.pr k n))))=E.I ρ (.fn 133 (.pr X (.pr p (.pr k s))))+1)/\
  (¬(E.I ρ tr=-1/\E.I ρ id=E.I ρ k/\E.I ρ pl=E.I ρ p)->E.I ρ (.fn 133 (.pr X (.pr p (.pr k n))))=E.I ρ (.fn 133 (.pr X (.pr p (.pr k s))))):=by
 have en:(E.I ρ n).toNat=(E.I ρ s).toNat+1:=by omega
 have c0:=lZ (X:=X) h0 0;have c1:=lZ (X:=X) h0 1;have c3:=lZ (X:=X) h0 3;simp_all[Hz,pE,List.range_succ]
theorem aIC(h:E.I ρ p=0):E.I ρ (.fn 132 (.pr X (.pr p (.pr (.int 4) k))))=E.I ρ (.fn 121 (.pr (.fn 1 (.pr X (.int 6))) k))+E.I ρ (.fn 121 (.pr (.fn 1 (.pr X (.int 7))) k))+E.I ρ (.fn 121 (.pr (.fn 1 (.pr X (.int 8))) k))+E.I ρ (.fn 121 (.pr (.fn 1 (.pr X (.int 9))) k)):=by
 rw[Hy,h]
 have e4:(E.I ρ (.int 4)).toNat=4:=rfl;unfold rY;have er:List.range 4=[0,1,2,3]:=rfl
 rw[jY,jY,jY,jY]
 have z0:bK ρ (.fn 1 (.pr X (.int 6)))=bh (X.den ρ) (4*0+0):=rfl;have z1:bK ρ (.fn 1 (.pr X (.int 7)))=bh (X.den ρ) (4*0+1):=rfl;have z2:bK ρ (.fn 1 (.pr X (.int 8)))=bh (X.den ρ) (4*0+2):=rfl;have z3:bK ρ (.fn 1 (.pr X (.int 9)))=bh (X.den ρ) (4*0+3):=rfl;grind
theorem aID(h:E.I ρ p=1):E.I ρ (.fn 132 (.pr X (.pr p (.pr (.int 4) k))))=E.I ρ (.fn 121 (.pr (.fn 1 (.pr X (.int 20))) k))+E.I ρ (.fn 121 (.pr (.fn 1 (.pr X (.int 21))) k))+E.I ρ (.fn 121 (.pr (.fn 1 (.pr X (.int 22))) k))+E.I ρ (.fn 121 (.pr (.fn 1 (.pr X (.int 23))) k)):=by
 rw[Hy,h]
 have e4:(E.I ρ (.int 4)).toNat=4:=rfl;unfold rY;have er:List.range 4=[0,1,2,3]:=rfl
 rw[jY,jY,jY,jY]
 have z0:bK ρ (.fn 1 (.pr X (.int 20)))=bh (X.den ρ) (4*1+0):=rfl;have z1:bK ρ (.fn 1 (.pr X (.int 21)))=bh (X.den ρ) (4*1+1):=rfl;have z2:bK ρ (.fn 1 (.pr X (.int 22)))=bh (X.den ρ) (4*1+2):=rfl;have z3:bK ρ (.fn 1 (.pr X (.int 23)))=bh (X.den ρ) (4*1+3):=rfl;grind
/-! found -/
theorem aIE:E.I ρ (.fn 134 (.pr X (.int 8)))=E.I ρ (.fn 0 (.fn 1 (.pr X (.int 6))))+E.I ρ (.fn 0 (.fn 1 (.pr X (.int 7))))+E.I ρ (.fn 0 (.fn 1 (.pr X (.int 8))))+E.I ρ (.fn 0 (.fn 1 (.pr X (.int 9)))) +
  E.I ρ (.fn 0 (.fn 1 (.pr X (.int 20))))+E.I ρ (.fn 0 (.fn 1 (.pr X (.int 21))))+E.I ρ (.fn 0 (.fn 1 (.pr X (.int 22))))+E.I ρ (.fn 0 (.fn 1 (.pr X (.int 23)))):=by
 have e:E.I ρ (.fn 134 (.pr X (.int 8)))=((List.range 8).map fun z=>(bh (X.den ρ) z).length).sum:=rfl;have er:List.range 8=[0,1,2,3,4,5,6,7]:=rfl
 rw[e,er]
 simp only[List.map_cons,List.map_nil]
 rw[<- eJ,<- eJ,<- eJ,<- eJ,<- eJ,<- eJ,<- eJ,<- eJ]
 have z0:bK ρ (.fn 1 (.pr X (.int 6)))=bh (X.den ρ) 0:=rfl;have z1:bK ρ (.fn 1 (.pr X (.int 7)))=bh (X.den ρ) 1:=rfl;have z2:bK ρ (.fn 1 (.pr X (.int 8)))=bh (X.den ρ) 2:=rfl;have z3:bK ρ (.fn 1 (.pr X (.int 9)))=bh (X.den ρ) 3:=rfl;have y0:bK ρ (.fn 1 (.pr X (.int 20)))=bh (X.den ρ) 4:=rfl;have y1:bK ρ (.fn 1 (.pr X (.int 21)))=bh (X.den ρ) 5:=rfl;have y2:bK ρ (.fn 1 (.pr X (.int 22)))=bh (X.den ρ) 6:=rfl;have y3:bK ρ (.fn 1 (.pr X (.int 23)))=bh (X.den ρ) 7:=rfl;grind
theorem AN:E.I ρ (.fn 135 (.pr X s))=(((hF (X.den ρ) (E.I ρ s).toNat).length:Nat):Int):=rfl
theorem aIG(h:E.I ρ s<=0):E.I ρ (.fn 135 (.pr X s))=0:=by
 have e:(E.I ρ s).toNat=0:=by omega
 rw[AN,e];rfl
theorem aIF(e:E.I ρ n=E.I ρ s):E.I ρ (.fn 135 (.pr X n))=E.I ρ (.fn 135 (.pr X s)):=by simp_all[AN]
theorem afn{tr:E}(e3:tr=.fn 1 (.pr (.fn 1 (.pr X (.int 29))) (.fn 6 (.pr (.fn 8 (.pr s (.int 5))) (.int 3)))))(h0:0<=E.I ρ s)(hn:E.I ρ n=E.I ρ s+1):
  (E.I ρ tr<0->E.I ρ (.fn 135 (.pr X n))=E.I ρ (.fn 135 (.pr X s))+1)/\(¬E.I ρ tr<0->E.I ρ (.fn 135 (.pr X n))=E.I ρ (.fn 135 (.pr X s))):=by
 have en:(E.I ρ n).toNat=(E.I ρ s).toNat+1:=by omega
 have c3:=lZ (X:=X) h0 3;grind[AN,F3]
theorem Oe:(E.B ρ (.fn 123 (.pr X s))=true)=(wb (X.den ρ) (E.I ρ s).toNat=true):=rfl
theorem Of:(E.B ρ (.fn 124 (.pr X n))=true)=(vv (X.den ρ) (E.I ρ n).toNat=true):=rfl
theorem Og:(E.B ρ (.fn 125 X)=true)=(sq (X.den ρ)=true):=rfl
theorem aIy(h:E.B ρ (.fn 123 (.pr X s))=true)(e:E.I ρ n=E.I ρ s):E.B ρ (.fn 123 (.pr X n))=true:=by
 simp_all[Oe]
theorem Gs(h:E.B ρ (.fn 123 (.pr X s))=true){id cd tr v rw1:E}(e1:id=.fn 1 (.pr (.fn 1 (.pr X (.int 29))) (.fn 6 (.pr (.fn 8 (.pr s (.int 5))) (.int 1)))))
  (e2:cd=.fn 1 (.pr (.fn 1 (.pr X (.int 29))) (.fn 6 (.pr (.fn 8 (.pr s (.int 5))) (.int 2)))))(e3:tr=.fn 1 (.pr (.fn 1 (.pr X (.int 29))) (.fn 6 (.pr (.fn 8 (.pr s (.int 5))) (.int 3)))))
  (e4:rw1=.fn 1 (.pr (.fn 1 (.pr X (.int 0))) (.fn 6 (.pr (.fn 8 (.pr v (.int 12))) (.int 1)))))
  (h0:0<=E.I ρ s)(h1:E.I ρ s<E.I ρ (.fn 9 (.pr (.fn 1 (.pr X (.int 29))) (.int 5))))(hn:E.I ρ n=E.I ρ s+1):
  (¬E.I ρ tr<0->E.B ρ (.fn 123 (.pr X n))=true)/\
  (E.I ρ tr<0->E.I ρ v=E.I ρ (.fn 120 (.pr X (.pr id (.fn 9 (.pr (.fn 1 (.pr X (.int 0))) (.int 12))))))->((0<=E.I ρ v/\E.I ρ rw1=E.I ρ cd)->E.B ρ (.fn 123 (.pr X n))=true)/\(¬(0<=E.I ρ v/\E.I ρ rw1=E.I ρ cd)->¬E.B ρ (.fn 125 X)=true)):=by
 subst e3;have hs:(E.I ρ s).toNat<b8 (X.den ρ):=by
  have:E.I ρ (.fn 9 (.pr (.fn 1 (.pr X (.int 29))) (.int 5)))=b8 (X.den ρ):=rfl
  omega
 have c1:=lZ (X:=X) h0 1;have c2:=lZ (X:=X) h0 2;have c3:=lZ (X:=X) h0 3;have k3:(Int.ofNat 3)=3:=rfl
 rw[k3]at c3
 have en9:(E.I ρ (.fn 9 (.pr (.fn 1 (.pr X (.int 0))) (.int 12)))).toNat=aK (X.den ρ):=rfl;have ext:NE (X.den ρ) (E.I ρ s).toNat->E.B ρ (.fn 123 (.pr X n))=true:=by
  grind[Oe,F2]
 refine⟨fun ht=>ext ?_,fun ht hv=>⟨fun hc=>ext ?_,fun hc hf=>hc ?_⟩⟩
 ·intro hh;omega
 ·intro _;grind[wM,i0]
 ·rw[Og,DA,F2]at hf
  have:=hf.1 _ hs (by omega)
  grind[wM,i0]
theorem aJv(h:E.B ρ (.fn 124 (.pr X i))=true){t a0 a1 a2 a3 a4 a5 a6 a7 a8:E}(e0:a0=.fn 1 (.pr (.fn 1 (.pr X (.int 0))) (.fn 6 (.pr (.fn 8 (.pr i (.int 12))) (.int 0)))))(e1:a1=.fn 1 (.pr (.fn 1 (.pr X (.int 0))) (.fn 6 (.pr (.fn 8 (.pr i (.int 12))) (.int 1)))))(e2:a2=.fn 1 (.pr (.fn 1 (.pr X (.int 0))) (.fn 6 (.pr (.fn 8 (.pr i (.int 12))) (.int 2)))))(e3:a3=.fn 1 (.pr (.fn 1 (.pr X (.int 0))) (.fn 6 (.pr (.fn 8 (.pr i (.int 12))) (.int 3)))))(e4:a4=.fn 1 (.pr (.fn 1 (.pr X (.int 0))) (.fn 6 (.pr (.fn 8 (.pr i (.int 12))) (.int 4)))))(e5:a5=.fn 1 (.pr (.fn 1 (.pr X (.int 0))) (.fn 6 (.pr (.fn 8 (.pr i (.int 12))) (.int 5)))))(e6:a6=.fn 1 (.pr (.fn 1 (.pr X (.int 0))) (.fn 6 (.pr (.fn 8 (.pr i (.int 12))) (.int 6)))))(e7:a7=.fn 1 (.pr (.fn 1 (.pr X (.int 0))) (.fn 6 (.pr (.fn 8 (.pr i (.int 12))) (.int 7)))))(e8:a8=.fn 1 (.pr (.fn 1 (.pr X (.int 0))) (.fn 6 (.pr (.fn 8 (.pr i (.int 12))) (.int 8)))))
  (h0:0<=E.I ρ i)(hi:E.I ρ i<E.I ρ (.fn 9 (.pr (.fn 1 (.pr X (.int 0))) (.int 12))))(hn:E.I ρ n=E.I ρ i+1)(ht:0<E.I ρ i->E.I ρ t=E.I ρ i-1):
  (((1<=E.I ρ a0/\E.I ρ a0<=500/\-1<=E.I ρ a1/\E.I ρ a1<=399/\0<=E.I ρ a2/\E.I ρ a2<=1/\(E.I ρ a1=-1\/(E.I ρ a3=0/\E.I ρ a4=0))/\0<=E.I ρ a3/\E.I ρ a3<=99/\0<=E.I ρ a4/\E.I ρ a4<=99/\0<=E.I ρ a5/\E.I ρ a5<=99/\0<=E.I ρ a6/\E.I ρ a6<=99/\0<=E.I ρ a7/\E.I ρ a7<=99/\0<=E.I ρ a8/\E.I ρ a8<=99)/\
   (E.I ρ i=0\/E.I ρ (.fn 1 (.pr (.fn 1 (.pr X (.int 0))) (.fn 6 (.pr (.fn 8 (.pr t (.int 12))) (.int 0)))))<E.I ρ a0)/\E.I ρ (.fn 122 (.pr X (.pr a2 a0)))=1)->E.B ρ (.fn 124 (.pr X n))=true)/\
  (¬((1<=E.I ρ a0/\E.I ρ a0<=500/\-1<=E.I ρ a1/\E.I ρ a1<=399/\0<=E.I ρ a2/\E.I ρ a2<=1/\(E.I ρ a1=-1\/(E.I ρ a3=0/\E.I ρ a4=0))/\0<=E.I ρ a3/\E.I ρ a3<=99/\0<=E.I ρ a4/\E.I ρ a4<=99/\0<=E.I ρ a5/\E.I ρ a5<=99/\0<=E.I ρ a6/\E.I ρ a6<=99/\0<=E.I ρ a7/\E.I ρ a7<=99/\0<=E.I ρ a8/\E.I ρ a8<=99)/\
   (E.I ρ i=0\/E.I ρ (.fn 1 (.pr (.fn 1 (.pr X (.int 0))) (.fn 6 (.pr (.fn 8 (.pr t (.int 12))) (.int 0)))))<E.I ρ a0)/\E.I ρ (.fn 122 (.pr X (.pr a2 a0)))=1)->¬E.B ρ (.fn 125 X)=true):=by
 subst e0;subst e1;subst e2;subst e3;subst e4;subst e5;subst e6;subst e7;subst e8;have hi':(E.I ρ i).toNat<aK (X.den ρ):=by
  have:E.I ρ (.fn 9 (.pr (.fn 1 (.pr X (.int 0))) (.int 12)))=((aK (X.den ρ):Nat):Int):=rfl
  omega
 have en:(E.I ρ n).toNat=(E.I ρ i).toNat+1:=by omega
 have c0:oI (X.den ρ) (E.I ρ i).toNat 0=_:=i0 (X:=X) h0 0;have c1:oI (X.den ρ) (E.I ρ i).toNat 1=_:=i0 (X:=X) h0 1;have c2:oI (X.den ρ) (E.I ρ i).toNat 2=_:=i0 (X:=X) h0 2;have c3:oI (X.den ρ) (E.I ρ i).toNat 3=_:=i0 (X:=X) h0 3;have c4:oI (X.den ρ) (E.I ρ i).toNat 4=_:=i0 (X:=X) h0 4;have c5:oI (X.den ρ) (E.I ρ i).toNat 5=_:=i0 (X:=X) h0 5;have c6:oI (X.den ρ) (E.I ρ i).toNat 6=_:=i0 (X:=X) h0 6;have c7:oI (X.den ρ) (E.I ρ i).toNat 7=_:=i0 (X:=X) h0 7;have c8:oI (X.den ρ) (E.I ρ i).toNat 8=_:=i0 (X:=X) h0 8;have k (z:Nat) (w:Int) (e:Int.ofNat z=w):E.int (Int.ofNat z)=E.int w:=by rw[e]
 rw[k 0 0 rfl]at c0
 rw[k 1 1 rfl]at c1
 rw[k 2 2 rfl]at c2
 rw[k 3 3 rfl]at c3
 rw[k 4 4 rfl]at c4
 rw[k 5 5 rfl]at c5
 rw[k 6 6 rfl]at c6
 rw[k 7 7 rfl]at c7
 rw[k 8 8 rfl]at c8
 have hprev:(E.I ρ i=0\/E.I ρ (.fn 1 (.pr (.fn 1 (.pr X (.int 0))) (.fn 6 (.pr (.fn 8 (.pr t (.int 12))) (.int 0)))))<oI (X.den ρ) (E.I ρ i).toNat 0)↔((E.I ρ i).toNat=0\/oI (X.den ρ) ((E.I ρ i).toNat-1) 0<oI (X.den ρ) (E.I ρ i).toNat 0):=by
  by_cases hz:E.I ρ i=0
  ·omega
  ·have ht':=ht (by omega);have e:=i0 (X:=X) (i:=t) (ρ:=ρ) (by omega) 0
   rw[k 0 0 rfl]at e
   have et:(E.I ρ t).toNat=(E.I ρ i).toNat-1:=by omega
   grind
 have h122:(E.I ρ (.fn 122 (.pr X (.pr (.fn 1 (.pr (.fn 1 (.pr X (.int 0))) (.fn 6 (.pr (.fn 8 (.pr i (.int 12))) (.int 2))))) (.fn 1 (.pr (.fn 1 (.pr X (.int 0))) (.fn 6 (.pr (.fn 8 (.pr i (.int 12))) (.int 0))))))))=1)↔qm (X.den ρ) (oI (X.den ρ) (E.I ρ i).toNat 2).toNat (oI (X.den ρ) (E.I ρ i).toNat 0)=1:=by
  grind[Qn]
 rw[h122,<- c0,<- c1,<- c2,<- c3,<- c4,<- c5,<- c6,<- c7,<- c8,hprev]
 rw[Of,zG]at h
 refine⟨fun hc=>?_,fun hc hf=>hc ?_⟩
 ·rw[Of,zG,en]
  intro q hq;rcases Nat.lt_or_eq_of_le (Nat.le_of_lt_succ hq)with h2|h2
  all_goals simp_all[qh]
 ·rw[Og,DA,zG]at hf
  have:=hf.2.1 _ hi'
  exact⟨(qh _ _).1 this.1,this.2.1,this.2.2⟩
theorem wl(h:E.B ρ (.fn 124 (.pr X i))=true){t a0 a1 a2 a3 a4 a5 a6 a7 a8:E}(e0:a0=.fn 1 (.pr (.fn 1 (.pr X (.int 0))) (.fn 6 (.pr (.fn 8 (.pr i (.int 12))) (.int 0)))))(e1:a1=.fn 1 (.pr (.fn 1 (.pr X (.int 0))) (.fn 6 (.pr (.fn 8 (.pr i (.int 12))) (.int 1)))))(e2:a2=.fn 1 (.pr (.fn 1 (.pr X (.int 0))) (.fn 6 (.pr (.fn 8 (.pr i (.int 12))) (.int 2)))))(e3:a3=.fn 1 (.pr (.fn 1 (.pr X (.int 0))) (.fn 6 (.pr (.fn 8 (.pr i (.int 12))) (.int 3)))))(e4:a4=.fn 1 (.pr (.fn 1 (.pr X (.int 0))) (.fn 6 (.pr (.fn 8 (.pr i (.int 12))) (.int 4)))))(e5:a5=.fn 1 (.pr (.fn 1 (.pr X (.int 0))) (.fn 6 (.pr (.fn 8 (.pr i (.int 12))) (.int 5)))))(e6:a6=.fn 1 (.pr (.fn 1 (.pr X (.int 0))) (.fn 6 (.pr (.fn 8 (.pr i (.int 12))) (.int 6)))))(e7:a7=.fn 1 (.pr (.fn 1 (.pr X (.int 0))) (.fn 6 (.pr (.fn 8 (.pr i (.int 12))) (.int 7)))))(e8:a8=.fn 1 (.pr (.fn 1 (.pr X (.int 0))) (.fn 6 (.pr (.fn 8 (.pr i (.int 12))) (.int 8)))))
  (h0:0<=E.I ρ i)(hi:E.I ρ i<E.I ρ (.fn 9 (.pr (.fn 1 (.pr X (.int 0))) (.int 12))))(hn:E.I ρ n=E.I ρ i+1)(ht:0<E.I ρ i->E.I ρ t=E.I ρ i-1):
  (((E.B ρ (.fn 137 (.pr a0 (.pr a1 (.pr a2 (.pr a3 (.pr a4 (.pr a5 (.pr a6 (.pr a7 a8)))))))))=true)/\
   (E.I ρ i=0\/E.I ρ (.fn 1 (.pr (.fn 1 (.pr X (.int 0))) (.fn 6 (.pr (.fn 8 (.pr t (.int 12))) (.int 0)))))<E.I ρ a0)/\E.I ρ (.fn 122 (.pr X (.pr a2 a0)))=1)->E.B ρ (.fn 124 (.pr X n))=true)/\
  (¬((E.B ρ (.fn 137 (.pr a0 (.pr a1 (.pr a2 (.pr a3 (.pr a4 (.pr a5 (.pr a6 (.pr a7 a8)))))))))=true)/\
   (E.I ρ i=0\/E.I ρ (.fn 1 (.pr (.fn 1 (.pr X (.int 0))) (.fn 6 (.pr (.fn 8 (.pr t (.int 12))) (.int 0)))))<E.I ρ a0)/\E.I ρ (.fn 122 (.pr X (.pr a2 a0)))=1)->¬E.B ρ (.fn 125 X)=true):=by
 rw[cW]
 exact aJv h e0 e1 e2 e3 e4 e5 e6 e7 e8 h0 hi hn ht
theorem aJu{v:E}(hs:E.B ρ (.fn 123 (.pr X (.fn 9 (.pr (.fn 1 (.pr X (.int 29))) (.int 5)))))=true)(h:E.B ρ (.fn 124 (.pr X i))=true)(hi:E.I ρ (.fn 9 (.pr (.fn 1 (.pr X (.int 0))) (.int 12)))=E.I ρ i)
  (hv:E.I ρ v=E.I ρ (.fn 134 (.pr X (.int 8)))+E.I ρ (.fn 135 (.pr X (.fn 9 (.pr (.fn 1 (.pr X (.int 29))) (.int 5)))))):E.I ρ v=E.I ρ (.fn 9 (.pr (.fn 1 (.pr X (.int 0))) (.int 12)))↔E.B ρ (.fn 125 X)=true:=by
 have e9:E.I ρ (.fn 9 (.pr (.fn 1 (.pr X (.int 0))) (.int 12)))=aK (X.den ρ):=rfl;have es:(E.I ρ (.fn 9 (.pr (.fn 1 (.pr X (.int 29))) (.int 5)))).toNat=b8 (X.den ρ):=rfl;have e8:E.I ρ (.fn 134 (.pr X (.int 8)))=((List.range 8).map fun z=>(bh (X.den ρ) z).length).sum:=rfl
 rw[Oe,es]at hs
 grind[Of,AN,Og,DA,zq]
/-! fights -/
theorem Oh:(E.B ρ (.fn 126 (.pr X n))=true)=(rR (X.den ρ) (E.I ρ n).toNat=true):=rfl
theorem af8:(E.B ρ (.fn 127 (.pr X n))=true)=(uo (X.den ρ) (E.I ρ n).toNat=true):=rfl
theorem af9:(E.B ρ (.fn 128 (.pr X (.pr j n)))=true)=(ul (X.den ρ) (E.I ρ j).toNat (E.I ρ n).toNat=true):=rfl
theorem GM:(E.B ρ (.fn 129 X)=true)=(sg (X.den ρ)=true):=rfl
theorem aga:(E.B ρ (.fn 136 (.pr X j))=true)=((aC (X.den ρ)).count (blk (X.den ρ) (E.I ρ j).toNat 1)=1/\(fD (X.den ρ)).count (blk (X.den ρ) (E.I ρ j).toNat 0)=1):=by
 show(((aC (X.den ρ)).count (blk (X.den ρ) (E.I ρ j).toNat 1)==1&&(fD (X.den ρ)).count (blk (X.den ρ) (E.I ρ j).toNat 0)==1)=true)=_
 simp_all
theorem aIz(h:E.B ρ (.fn 126 (.pr X i))=true)(e:E.I ρ n=E.I ρ i):E.B ρ (.fn 126 (.pr X n))=true:=by
 simp_all[Oh]
theorem vB(h:E.I ρ (.fn 1 (.pr X (.int 34)))=0):fZ (X.den ρ)=bK ρ (.fn 1 (.pr X (.int 8)))/\fD (X.den ρ)=bK ρ (.fn 1 (.pr X (.int 22))):=by
 have e:iX (X.den ρ) 34=0:=h;unfold fZ fD bI
 rw[e];exact⟨rfl,rfl⟩
theorem vC(h:E.I ρ (.fn 1 (.pr X (.int 34)))=1):fZ (X.den ρ)=bK ρ (.fn 1 (.pr X (.int 22)))/\fD (X.den ρ)=bK ρ (.fn 1 (.pr X (.int 8))):=by
 have e:iX (X.den ρ) 34=1:=h;unfold fZ fD bI
 rw[e];exact⟨rfl,rfl⟩
theorem wi(h:E.B ρ (.fn 126 (.pr X i))=true){a:E}(ea:a=.fn 1 (.pr (.fn 1 (.pr X (.int 31))) i))(hL:fZ (X.den ρ)=bK ρ L)(h0:0<=E.I ρ i)(hi:E.I ρ i<E.I ρ (.fn 0 (.fn 1 (.pr X (.int 31)))))(hn:E.I ρ n=E.I ρ i+1):
  ((E.I ρ (.fn 121 (.pr (.fn 1 (.pr X (.int 31))) a))=1/\E.I ρ (.fn 121 (.pr L a))=1)->E.B ρ (.fn 126 (.pr X n))=true)/\
  (¬(E.I ρ (.fn 121 (.pr (.fn 1 (.pr X (.int 31))) a))=1/\E.I ρ (.fn 121 (.pr L a))=1)->¬E.B ρ (.fn 129 X)=true):=by
 subst ea
 rw[<- uk]at hi
 have ea:bK ρ (.fn 1 (.pr X (.int 31)))=aC (X.den ρ):=rfl;have e1:E.I ρ (.fn 1 (.pr (.fn 1 (.pr X (.int 31))) i))=nI (cX (X.den ρ) 31).toL (E.I ρ i).toNat:=rfl
 rw[jY,jY,ea,<- hL,e1]
 grind[Oh,YD,GM,yE]
theorem wj{t b:E}(et:t=.fn 1 (.pr (.fn 1 (.pr X (.int 32))) (.fn 6 (.pr (.fn 8 (.pr j (.int 2))) (.int 1)))))(eb:b=.fn 1 (.pr (.fn 1 (.pr X (.int 32))) (.fn 6 (.pr (.fn 8 (.pr j (.int 2))) (.int 0)))))
  (hL:fD (X.den ρ)=bK ρ L)(h0:0<=E.I ρ j)(hi:E.I ρ j<E.I ρ (.fn 9 (.pr (.fn 1 (.pr X (.int 32))) (.int 2)))):
  ((E.I ρ (.fn 121 (.pr (.fn 1 (.pr X (.int 31))) t))=1/\E.I ρ (.fn 121 (.pr L b))=1)->E.B ρ (.fn 136 (.pr X j))=true)/\
  (¬(E.I ρ (.fn 121 (.pr (.fn 1 (.pr X (.int 31))) t))=1/\E.I ρ (.fn 121 (.pr L b))=1)->¬E.B ρ (.fn 129 X)=true):=by
 rw[<- vn]at hi
 have ea:bK ρ (.fn 1 (.pr X (.int 31)))=aC (X.den ρ):=rfl;have b0:=py (X:=X) h0 0;have b1:=py (X:=X) h0 1;grind[jY,aga,GM,yE,x5]
theorem NQ(h:E.B ρ (.fn 128 (.pr X (.pr j k)))=true){t b u w:E}(et:t=.fn 1 (.pr (.fn 1 (.pr X (.int 32))) (.fn 6 (.pr (.fn 8 (.pr j (.int 2))) (.int 1)))))(eb:b=.fn 1 (.pr (.fn 1 (.pr X (.int 32))) (.fn 6 (.pr (.fn 8 (.pr j (.int 2))) (.int 0)))))
  (eu:u=.fn 1 (.pr (.fn 1 (.pr X (.int 32))) (.fn 6 (.pr (.fn 8 (.pr k (.int 2))) (.int 1)))))(ew:w=.fn 1 (.pr (.fn 1 (.pr X (.int 32))) (.fn 6 (.pr (.fn 8 (.pr k (.int 2))) (.int 0)))))
  (h0:0<=E.I ρ j)(hi:E.I ρ j<E.I ρ (.fn 9 (.pr (.fn 1 (.pr X (.int 32))) (.int 2))))(hk:0<=E.I ρ k)(hkj:E.I ρ k<E.I ρ j)(hn:E.I ρ n=E.I ρ k+1):
  ((¬E.I ρ u=E.I ρ t/\¬E.I ρ w=E.I ρ b)->E.B ρ (.fn 128 (.pr X (.pr j n)))=true)/\(¬(¬E.I ρ u=E.I ρ t/\¬E.I ρ w=E.I ρ b)->¬E.B ρ (.fn 129 X)=true):=by
 rw[<- vn]at hi
 have b0:=py (X:=X) h0 0;have b1:=py (X:=X) h0 1;have d0:=py (X:=X) hk 0;have d1:=py (X:=X) hk 1
 refine⟨fun hc=>?_,fun hc hf=>hc ?_⟩
 ·grind[af9,CE]
 grind[GM,yE,x5,CE]
theorem aIA(h:E.B ρ (.fn 127 (.pr X j))=true)(h1:E.B ρ (.fn 136 (.pr X j))=true)(h2:E.B ρ (.fn 128 (.pr X (.pr j k)))=true)(h0:0<=E.I ρ j)(hk:E.I ρ k=E.I ρ j)(hn:E.I ρ n=E.I ρ j+1):E.B ρ (.fn 127 (.pr X n))=true:=by
 grind[af8,x5,aga,af9]
theorem aJt(h:E.B ρ (.fn 126 (.pr X (.fn 0 (.fn 1 (.pr X (.int 31))))))=true)(hb:E.B ρ (.fn 127 (.pr X j))=true)(h1:E.I ρ (.fn 9 (.pr (.fn 1 (.pr X (.int 32))) (.int 2)))=E.I ρ j):E.B ρ (.fn 129 X)=true:=by
 have el:(E.I ρ (.fn 0 (.fn 1 (.pr X (.int 31))))).toNat=(aC (X.den ρ)).length:=by grind[uk]
 grind[Oh,af8,vn,GM,yE]
end
end Go.SX

set_option linter.unusedVariables false
set_option linter.unusedSimpArgs false
namespace Go.SX
/-! ### both ways say the same -/
theorem MP{G:Type}[DecidableEq G]:∀(l1 l2:List G),l1.Nodup->(∀x∈l1,x∈l2)->l2.length<=l1.length->l1.Perm l2
 |[],l2,_,_,h=>by
  simp_all
 |x::l1,l2,hn,hs,hl=>by
  have hx:=hs x (by simp);have hn':=List.nodup_cons.1 hn;have hp:=List.perm_cons_erase hx;refine List.Perm.trans ?_ hp.symm;refine List.Perm.cons x (MP l1 _ hn'.2 ?_ ?_);all_goals grind
theorem aCH(l:List Int)(c k p:Int):(l.map fun i=>(i,c)).count (k,p)=if c=p then l.count k else 0:=by
 induction l with
 |nil=>simp
 |cons x l ih=>
  grind
theorem aCI(X:U)(k:Int)(p:Nat)(hp:p<2):(k7 X 8).count (k,(p:Int))=rY X p 4 k:=by
 unfold k7 rY;have er:List.range 8=[0,1,2,3,4,5,6,7]:=rfl;have er4:List.range 4=[0,1,2,3]:=rfl
 rw[er,er4]
 simp only[List.flatMap_cons,List.flatMap_nil,List.count_append,aCH];grind
theorem Zj(X:U)(k p:Int):∀s,(∀i,i<s->-1<=nI (cX X 29).toL (i*5+3))->(i4 X s).count (k,p)=pE X p k s
 |0,_=>by rfl
 |s+1,h=>by
  have ih:=Zj X k p s (fun i hi=>h i (by omega));have e:pE X p k (s+1)=pE X p k s+if(nI (cX X 29).toL (s*5+3) == -1&&nI (cX X 29).toL (s*5+1)==k&&nI (cX X 29).toL (s*5)==p)=true then 1 else 0:=by
   grind[pE,List.range_succ]
  grind[ae3]
theorem adU(X:U):fP X 8 0=k7 X 8:=by simp[fP]
theorem Zi(X:U)(k:Int)(p:Nat)(hp:p<2)(h:∀i,i<b8 X->-1<=nI (cX X 29).toL (i*5+3)):(dx X).count (k,(p:Int))=qm X p k:=by
 simp_all[dx,qm,adU,aCI,Zj]
theorem agm(X:U):∀k,(k7 X k).length=((List.range k).map fun z=>(bh X z).length).sum
 |0=>rfl
 |k+1=>by
  rw[GR,List.length_append,List.length_map,agm X k,List.range_succ,List.map_append,List.sum_append];simp
theorem aA0(X:U):(dx X).length=zq X:=by
 simp_all[dx,zq,adU,agm,i4]
def oP(X:U):List (Int×Int):=(List.range (aK X)).map fun i=>(oI X i 0,oI X i 2)
theorem Mt(X:U):(oP X).map Prod.fst=lT X:=by simp_all[oP,lT]
theorem Mq{l:List (Int×Int)}(h:(l.map Prod.fst).Nodup):l.Nodup:=by
 rw[List.nodup_iff_pairwise_ne]at *
 rw[List.pairwise_map]at h
 exact h.imp fun hab e=>hab (by rw[e])
theorem sy{X:U}{k:Int}{n:Nat}(h:0<=bC X k n):(bC X k n).toNat<n/\oI X (bC X k n).toNat 0=k:=by
 grind[bC]
theorem DP{X:U}{k:Int}{n i:Nat}(hi:i<n)(h:oI X i 0=k):0<=bC X k n:=by
 grind[bC]
theorem aaT{X:U}(h:(lT X).Nodup){i j:Nat}(hi:i<aK X)(hj:j<aK X)(e:oI X i 0=oI X j 0):i=j:=by
 grind[lT,List.pairwise_iff_getElem]
theorem abP{X:U}{k c:Int}{s:Nat}:(k,c)∈hE X s↔∃i,i<s/\nI (cX X 29).toL (i*5+3)<0/\nI (cX X 29).toL (i*5+1)=k/\nI (cX X 29).toL (i*5+2)=c:=by
 grind[hE,hF]
theorem adM{X:U}(hst:∀i,i<b8 X->-1<=nI (cX X 29).toL (i*5+3)):dI X=true↔sq X=true:=by
 rw[DA,<- aA0]
 unfold dI;simp only[Bool.and_eq_true,qe,beq_iff_eq];constructor
 ·rintro⟨⟨hn,ho⟩,hl⟩
  rw[mT]at ho
  have hin:=ES fun i hi=>(ho i hi).2.1
  have hs:=afb (l1:=lT X) (l2:=(dx X).map Prod.fst) hin (by
   intro x hx
   obtain⟨i,hi,rfl⟩:=List.mem_map.1 hx
   exact List.mem_map_of_mem (f:=Prod.fst) (zl (ho i (List.mem_range.1 hi)).2.2.1)) (by simp[lT,hl])
  refine⟨?_,?_,hl⟩
  ·rw[F2]
   intro i hi ht;have hc:(nI (cX X 29).toL (i*5+1),nI (cX X 29).toL (i*5+2))∈hE X (b8 X):=abP.2 ⟨i,hi,ht,rfl,rfl⟩;have hid:nI (cX X 29).toL (i*5+1)∈(dx X).map Prod.fst:=by
    grind[dx,Nt]
   obtain⟨q,hq,he⟩:=List.mem_map.1 (hs _ hid)
   have hq:=List.mem_range.1 hq;have h0:=DP hq he;have h1:=sy h0
   refine⟨h0,?_⟩
   have hnc:((hE X (b8 X)).map Prod.fst).Nodup:=by
    simp_all[Nt,dx,List.map_append,List.nodup_append]
   exact((ho _ h1.1).2.2.2 _ (by grind[L0])).symm
  ·rw[zG]
   intro i hi;have h:=ho i hi
   refine⟨h.1,h.2.1,?_⟩
   have hown:=(qh X i).1 h.1;have hm:=zl h.2.2.1;have e:((oI X i 2).toNat:Int)=oI X i 2:=Int.toNat_of_nonneg (by omega)
   rw[<- Zi X _ _ (by omega) hst,e]
   have h1:0<(dx X).count (oI X i 0,oI X i 2):=List.count_pos_iff.2 hm;have h2:=List.nodup_iff_count.1 (Mq hn) (oI X i 0,oI X i 2);omega
 ·rintro⟨hs,ho,hl⟩
  rw[zG]at ho
  rw[F2]at hs
  have hin:=ES fun i hi=>(ho i hi).2.1
  have hmem:∀i,i<aK X->(oI X i 0,oI X i 2)∈dx X:=by
   intro i hi;have h:=ho i hi;have hown:=(qh X i).1 h.1;have e:((oI X i 2).toNat:Int)=oI X i 2:=Int.toNat_of_nonneg (by omega);have h1:=h.2.2
   rw[<- Zi X _ _ (by omega) hst,e]at h1
   grind
  have hp:(oP X).Perm (dx X):=MP (oP X) (dx X) (Mq (by simp_all[Mt])) (by
   intro x hx
   obtain⟨i,hi,rfl⟩:=List.mem_map.1 hx
   simp_all) (by simp_all[oP])
  have hn:((dx X).map Prod.fst).Nodup:=by
   have:=(hp.map Prod.fst).nodup_iff.1 (by simp_all[Mt])
   omega
  refine⟨⟨hn,?_⟩,hl⟩
  rw[mT]
  intro i hi;have h:=ho i hi
  refine⟨h.1,h.2.1,L0 hn (hmem i hi),?_⟩
  intro c hc
  obtain⟨s,h1,h2,h3,h4⟩:=abP.1 (zl hc)
  have:=hs s h1 h2
  rw[h3]at this
  have h5:=sy this.1;grind[aaT]
theorem ago{X:U}(h:dI X=true)(k:Nat)(hk:k<8):(bh X k).Nodup:=by
 unfold dI at h;simp only[Bool.and_eq_true,qe]at h
 obtain⟨r,hr⟩:=Fx X k (bh X k).length hk
 grind[fP]
theorem Kq{l:List Int}(h:l.Nodup)(a:Int):l.count a=1↔a∈l:=by
 grind
theorem aaw(X:U)(i:Nat):nI (cX X 31).toL i=(aC X).getD i 0:=Lg _ _
theorem aad{X:U}(h:dI X=true)(ha:bI X<=1):gW X=true↔sg X=true:=by
 have ho:=ago h (4*bI X+2) (by omega);have hq:=ago h (4*(1-bI X)+2) (by omega);have e1:fZ X=bh X (4*bI X+2):=rfl;have e2:fD X=bh X (4*(1-bI X)+2):=rfl
 rw[<- e1]at ho
 rw[<- e2]at hq
 have hA:jE X (aC X).length=true↔rR X (aC X).length=true:=by
  rw[pw,YD,List.take_length]
  constructor
  ·simp_all[aC,List.getD_eq_getElem?_getD,List.getElem?_eq_getElem,List.getElem_mem,aaw,Kq]
  ·intro hc;have hc':∀a∈aC X,(aC X).count a=1/\(fZ X).count a=1:=by
    intro a hm
    obtain⟨i,hi,rfl⟩:=List.getElem_of_mem hm
    simp_all[aaw,List.getD_eq_getElem?_getD,List.getElem?_eq_getElem]
   grind
 rw[uH,yE,hA]
 constructor
 ·rintro⟨h1,h2⟩
  refine⟨h1,?_⟩
  have hn:=((pw X _).1 (hA.2 h1)).1
  rw[List.take_length]at hn
  rw[un]at h2
  rw[x5]
  grind[Kq,CE,cT,List.pairwise_iff_getElem]
 ·rintro⟨h1,h2⟩
  refine⟨h1,?_⟩
  have hn:=((pw X _).1 (hA.2 h1)).1
  rw[List.take_length]at hn
  rw[x5]at h2
  rw[un]
  simp_all[Kq,cT,List.nodup_iff_pairwise_ne,List.pairwise_map,List.pairwise_iff_getElem,List.getElem_range,CE]
theorem aJY(X:U):iI X=ti X:=by
 rw[Bool.eq_iff_iff]
 unfold iI ti;simp only[Bool.and_eq_true];constructor
 ·rintro⟨⟨⟨⟨⟨hn,h0⟩,h1⟩,hi⟩,hp⟩,hf⟩
  have hst:∀i,i<b8 X->-1<=nI (cX X 29).toL (i*5+3):=by
   simp_all[sC,y6,kK,iu]
  have ha:bI X<=1:=by
   simp_all[oN,iu,bI]
  simp_all[adM,aad]
 ·rintro⟨⟨⟨⟨⟨hn,h0⟩,h1⟩,hi⟩,hp⟩,hf⟩
  have hst:∀i,i<b8 X->-1<=nI (cX X 29).toL (i*5+3):=by
   simp_all[sC,y6,kK,iu]
  have ha:bI X<=1:=by
   simp_all[oN,iu,bI]
  simp_all[adM,aad]
theorem fE{ρ:Env}{X:E}:(E.B ρ (.fn 115 X)=true)↔(E.B ρ (.fn 130 X)=true):=by
 show(iI _=true)↔(ti _=true)
 rw[aJY]
end Go.SX

set_option linter.unusedVariables false
set_option linter.unusedSimpArgs false
namespace Go.SX
/-! ### what is paid from -/
section
variable {ρ:Env} {x y l A a b k u i j p q n m r o c d w v X T N L e t C:E}
/-! triggers and effects -/
theorem aDf(l:List U)(n:Nat):uF l n=true↔∀i,i<n->(l.getD (i*2+1) (.int 0)).toL.length/5<=5:=by
 simp_all[uF]
theorem aEm(l:List U)(n:Nat):Ep l n=true↔∀i,i<n->uE (l.getD (i*14+11) (.int 0)).toL (l.getD (i*14+12) (.int 0)).toL=true:=by
 grind[Ep]
theorem agb:(E.B ρ (.fn 155 (.pr C n))=true)=(Ep (E.L ρ C) (E.I ρ n).toNat=true):=rfl
theorem aJ6:(E.B ρ (.fn 156 (.pr e t))=true)=(E.I ρ (.fn 9 (.pr e (.int 5)))<=5/\E.I ρ (.fn 9 (.pr t (.int 2)))<=3/\E.B ρ (.fn 157 (.pr t (.fn 9 (.pr t (.int 2)))))=true):=by
 have h1:E.I ρ (.fn 9 (.pr e (.int 5)))=(E.L ρ e).length/5:=rfl;have h2:E.I ρ (.fn 9 (.pr t (.int 2)))=(E.L ρ t).length/2:=rfl;have h3:(E.B ρ (.fn 157 (.pr t (.fn 9 (.pr t (.int 2)))))=true)=(uF (E.L ρ t) ((E.L ρ t).length/2)=true):=rfl
 show(uE (E.L ρ e) (E.L ρ t)=true)=_
 grind[uE]
theorem agc:(E.B ρ (.fn 157 (.pr t n))=true)=(uF (E.L ρ t) (E.I ρ n).toNat=true):=rfl
theorem aIM(h:E.B ρ (.fn 157 (.pr t i))=true)(h0:0<=E.I ρ i)(hm:E.I ρ m=E.I ρ i+1)(hb:E.I ρ (.fn 9 (.pr (.fn 1 (.pr t (.fn 6 (.pr (.fn 8 (.pr i (.int 2))) (.int 1))))) (.int 5)))<=5):E.B ρ (.fn 157 (.pr t m))=true:=by
 have e:=wW (ρ:=ρ) (T:=t) i 2 1 h0;have h2:E.I ρ (.fn 9 (.pr (.fn 1 _) (.int 5)))=(E.L ρ (.fn 1 (.pr t (.fn 6 (.pr (.fn 8 (.pr i (.int 2))) (.int 1)))))).length/5:=rfl;grind[agc,aDf]
theorem aIK(h:E.B ρ (.fn 155 (.pr C i))=true)(e:E.I ρ n=E.I ρ i):E.B ρ (.fn 155 (.pr C n))=true:=by
 simp_all[agb]
theorem aJ7(h0:0<=E.I ρ i):(E.B ρ (.fn 156 (.pr (.fn 1 (.pr C (.fn 6 (.pr (.fn 8 (.pr i (.int 14))) (.int 11))))) (.fn 1 (.pr C (.fn 6 (.pr (.fn 8 (.pr i (.int 14))) (.int 12)))))))=true)=
  (uE ((E.L ρ C).getD ((E.I ρ i).toNat*14+11) (.int 0)).toL ((E.L ρ C).getD ((E.I ρ i).toNat*14+12) (.int 0)).toL=true):=by
 have e:=wW (ρ:=ρ) (T:=C) i 14 11 h0;have e2:=wW (ρ:=ρ) (T:=C) i 14 12 h0
 rw[<- e,<- e2];rfl
theorem aIL(h:E.B ρ (.fn 155 (.pr C i))=true)(h0:0<=E.I ρ i)(hm:E.I ρ m=E.I ρ i+1)(hb:E.B ρ (.fn 156 (.pr (.fn 1 (.pr C (.fn 6 (.pr (.fn 8 (.pr i (.int 14))) (.int 11))))) (.fn 1 (.pr C (.fn 6 (.pr (.fn 8 (.pr i (.int 14))) (.int 12)))))))=true):E.B ρ (.fn 155 (.pr C m))=true:=by
 grind[aJ7,agb,aEm]
end
end Go.SX

set_option linter.unusedVariables false
set_option linter.unusedSimpArgs false
namespace Go.SX
section
variable {ρ:Env} {x y l A a b k u i j p q n m r o c d w v X T N L e t C z:E}
/-! small boards -/
theorem GO:(E.B ρ (.fn 158 (.pr l n))=true)=(ga (E.L ρ l) (E.I ρ n).toNat=true):=rfl
theorem afp(h:E.B ρ (.fn 158 (.pr l i))=true)(e:E.I ρ n=E.I ρ i):E.B ρ (.fn 158 (.pr l n))=true:=by
 simp_all[GO]
theorem afq(h:E.B ρ (.fn 158 (.pr l i))=true)(h0:0<=E.I ρ i)(hm:E.I ρ m=E.I ρ i+1)(hb:E.I ρ (.fn 9 (.pr (.fn 1 (.pr l (.fn 6 (.pr (.fn 8 (.pr i (.int 5))) (.int 4))))) (.int 2)))<=6):E.B ρ (.fn 158 (.pr l m))=true:=by
 have e:=wW (ρ:=ρ) (T:=l) i 5 4 h0;have h2:E.I ρ (.fn 9 (.pr (.fn 1 _) (.int 2)))=(E.L ρ (.fn 1 (.pr l (.fn 6 (.pr (.fn 8 (.pr i (.int 5))) (.int 4)))))).length/2:=rfl;grind[GO,ga]
theorem o7:(E.B ρ (.fn 159 X)=true)=(E.I ρ (.fn 0 (.fn 1 (.pr X (.int 6))))<=40/\E.I ρ (.fn 0 (.fn 1 (.pr X (.int 7))))<=40/\E.I ρ (.fn 0 (.fn 1 (.pr X (.int 8))))<=40/\E.I ρ (.fn 0 (.fn 1 (.pr X (.int 9))))<=40/\
  E.I ρ (.fn 0 (.fn 1 (.pr X (.int 20))))<=40/\E.I ρ (.fn 0 (.fn 1 (.pr X (.int 21))))<=40/\E.I ρ (.fn 0 (.fn 1 (.pr X (.int 22))))<=40/\E.I ρ (.fn 0 (.fn 1 (.pr X (.int 23))))<=40):=by
 show((List.range 8).all (fun z=>decide ((bh _ z).length<=40))=true)=_
 rw[<- eJ,<- eJ,<- eJ,<- eJ,<- eJ,<- eJ,<- eJ,<- eJ]
 have er:List.range 8=[0,1,2,3,4,5,6,7]:=rfl;have z0:bK ρ (.fn 1 (.pr X (.int 6)))=bh (X.den ρ) 0:=rfl;have z1:bK ρ (.fn 1 (.pr X (.int 7)))=bh (X.den ρ) 1:=rfl;have z2:bK ρ (.fn 1 (.pr X (.int 8)))=bh (X.den ρ) 2:=rfl;have z3:bK ρ (.fn 1 (.pr X (.int 9)))=bh (X.den ρ) 3:=rfl;have y0:bK ρ (.fn 1 (.pr X (.int 20)))=bh (X.den ρ) 4:=rfl;have y1:bK ρ (.fn 1 (.pr X (.int 21)))=bh (X.den ρ) 5:=rfl;have y2:bK ρ (.fn 1 (.pr X (.int 22)))=bh (X.den ρ) 6:=rfl;have y3:bK ρ (.fn 1 (.pr X (.int 23)))=bh (X.den ρ) 7:=rfl
 rw[er,z0,z1,z2,z3,y0,y1,y2,y3]
 simp only[List.all_cons];grind
theorem jt:(E.B ρ (.fn 117 X)=true)=(E.B ρ (.fn 159 X)=true/\E.I ρ (.fn 9 (.pr (.fn 1 (.pr X (.int 29))) (.int 5)))<=20/\E.I ρ (.fn 9 (.pr (.fn 1 (.pr X (.int 30))) (.int 5)))<=20/\
  E.B ρ (.fn 158 (.pr (.fn 1 (.pr X (.int 29))) (.fn 9 (.pr (.fn 1 (.pr X (.int 29))) (.int 5)))))=true/\E.B ρ (.fn 158 (.pr (.fn 1 (.pr X (.int 30))) (.fn 9 (.pr (.fn 1 (.pr X (.int 30))) (.int 5)))))=true/\
  E.I ρ (.fn 9 (.pr (.fn 1 (.pr X (.int 0))) (.int 12)))<=30/\E.I ρ (.fn 0 (.fn 1 (.pr X (.int 31))))<=30/\E.I ρ (.fn 9 (.pr (.fn 1 (.pr X (.int 32))) (.int 2)))<=30):=by
 have a:(E.B ρ (.fn 159 X)=true)=((List.range 8).all (fun z=>decide ((bh _ z).length<=40))=true):=rfl;have b:(E.B ρ (.fn 158 (.pr (.fn 1 (.pr X (.int 29))) (.fn 9 (.pr (.fn 1 (.pr X (.int 29))) (.int 5)))))=true)=(ga (cX (X.den ρ) 29).toL (b8 (X.den ρ))=true):=rfl;have c:(E.B ρ (.fn 158 (.pr (.fn 1 (.pr X (.int 30))) (.fn 9 (.pr (.fn 1 (.pr X (.int 30))) (.int 5)))))=true)=(ga (cX (X.den ρ) 30).toL ((cX (X.den ρ) 30).toL.length/5)=true):=rfl;have d:E.I ρ (.fn 9 (.pr (.fn 1 (.pr X (.int 29))) (.int 5)))=b8 (X.den ρ):=rfl;have e:E.I ρ (.fn 9 (.pr (.fn 1 (.pr X (.int 30))) (.int 5)))=(cX (X.den ρ) 30).toL.length/5:=rfl;have f:E.I ρ (.fn 9 (.pr (.fn 1 (.pr X (.int 0))) (.int 12)))=aK (X.den ρ):=rfl
 rw[a,b,c,d,e,f,<- uk,<- vn]
 show(iE _=true)=_
 grind[iE]
end
end Go.SX

set_option linter.unusedVariables false
set_option linter.unusedSimpArgs false
namespace Go.SX
/-! ### the sources of a player: the program's -/
section
variable {ρ:Env} {x y l A a b k u i j p q n m r o c d w v X T N L e t C z:E}
theorem Lw:bK ρ (.fn 3 (.pr x y))=bK ρ x++bK ρ y:=by
 show(E.L ρ x++E.L ρ y).map _=_
 rw[List.map_append];rfl
theorem Lx:bK ρ (.fn 23 (.pr a l))=E.I ρ a::bK ρ l:=rfl
theorem yY:bK ρ (.fn 10 a)=[]:=rfl
end
end Go.SX

set_option linter.unusedVariables false
set_option linter.unusedSimpArgs false
namespace Go.SX
section
variable {ρ:Env} {x y l A a b k u i j p q n m r o c d w v X T N L e t C z s:E}
/-! the reference's: what an object makes -/
end
end Go.SX

set_option linter.unusedVariables false
set_option linter.unusedSimpArgs false
namespace Go.SX
section
variable {ρ:Env} {x y l A a b k u i j p q n m r o c d w v X T N L e t C z s m0 m1 m2 m3:E}
end
end Go.SX

set_option linter.unusedVariables false
set_option linter.unusedSimpArgs false
namespace Go.SX
/-! ### numbers in order -/
theorem Lt(x:Int):∀l,(oC x l).Perm (x::l)
 |[]=>.refl _
 |y::l=>by
  unfold oC;split
  ·rfl
  ·exact((Lt x l).cons y).trans (.swap x y l)
theorem No:∀l,(f9 l).Perm l
 |[]=>.refl _
 |x::l=>(Lt x _).trans ((No l).cons x)
theorem abd(x:Int):∀l:List Int,l.Pairwise (·<=·)->(oC x l).Pairwise (·<=·)
 |[],_=>by simp[oC]
 |y::l,h=>by
  obtain⟨h1,h2⟩:=List.pairwise_cons.1 h
  unfold oC;split
  ·grind[List.pairwise_cons]
  ·refine List.pairwise_cons.2 ⟨fun a ha=>?_,abd x l h2⟩;rcases List.mem_cons.1 ((Lt x l).mem_iff.1 ha)with rfl|ha
   all_goals grind
theorem Nn:∀l:List Int,(f9 l).Pairwise (·<=·)
 |[]=>.nil
 |x::l=>abd x _ (Nn l)
theorem aGe{a b:List Int}(ha:a.Pairwise (·<=·))(hb:b.Pairwise (·<=·))(h:a.Perm b):a=b:=
 List.Perm.eq_of_pairwise (le:=(·<=·)) (fun a b _ _ h1 h2=>Int.le_antisymm h1 h2) ha hb h
theorem aGc{a l:List Int}(ha:a.Pairwise (·<=·))(h:a.Perm l):a=f9 l:=aGe ha (Nn l) (h.trans (No l).symm)
/-- a number is put where it belongs -/
theorem aGd{x l:List Int}{v:Int}{n:Nat}(h:x=f9 l)(hn:n<=x.length)(hlo:∀a∈x.take n,a<v)(hhi:n=x.length\/v<=x.getD n 0):x.take n++(v ::x.drop n)=f9 (l++[v]):=by
  have hs:x.Pairwise (· <= ·):=by simp_all[Nn]
  have hp:x.Perm l:=by simp_all[No]
  refine aGc ?_ ?_
  · have hs':=hs
    rw[<- List.take_append_drop n x,List.pairwise_append]at hs'
    obtain⟨h1,h2,h3⟩:=hs'
    have hd:∀a∈x.drop n,v<=a:=by
      intro a ha;rcases hhi with e|hv
      · simp_all
      · obtain⟨k,hk,rfl⟩:=List.mem_iff_getElem.1 ha
        rw[List.length_drop]at hk
        have hg:x.getD n 0=x[n]'(by omega):=by
          grind
        rcases Nat.eq_zero_or_pos k with rfl|hk0
        all_goals grind[List.pairwise_iff_getElem]
    rw[List.pairwise_append]
    refine⟨h1,List.pairwise_cons.2 ⟨hd,h2⟩,fun a ha b hb=>?_⟩
    rcases List.mem_cons.1 hb with rfl|hb
    · exact Int.le_of_lt (hlo a ha)
    · exact h3 a ha b hb
  grind[List.take_append_drop,List.perm_middle]
/-! ### the sources in order: both agree -/
theorem aaU{X:U}(h:dI X=true):(lT X).Nodup:=by
 grind[mT,vI,ES]
theorem agp{X:U}(h:dI X=true){z:Nat}(hz:z<8){k:Int}(hk:k∈bh X z):∃i,i<aK X/\oI X i 0=k/\oI X i 2=((z/4:Nat):Int):=by
 have ho:=(mT X _).1 (vI h);have hin:=aaU h;have hl:(dx X).length=aK X:=by
  simp_all[dI]
 have hp:=MP (oP X) (dx X) (Mq (by simp_all[Mt])) (by
  intro x hx
  obtain⟨i,hi,rfl⟩:=List.mem_map.1 hx
  simp_all[zl]) (by simp_all[oP])
 have hm:(k,(z/4:Int))∈dx X:=by
  obtain⟨r,hr⟩:=Fx X z _ hz
  rw[hr]
  unfold fP
  rw[List.take_length]
  exact List.mem_append.2 (Or.inl (List.mem_append.2 (Or.inr (List.mem_map.2 ⟨k,hk,rfl⟩))))
 obtain⟨i,hi,e⟩:=List.mem_map.1 (hp.mem_iff.2 hm)
 grind
theorem DQ{X:U}(h:dI X=true){i:Nat}(hi:i<aK X):bC X (oI X i 0) (aK X)=i:=by
 have h0:=DP (X:=X) hi rfl
 obtain⟨h1,h2⟩:=sy h0
 have:=aaT (aaU h) h1 hi h2
 omega
section
variable {ρ:Env} {x y l A a b k u i j p q n m r o c d w v X T N L e t C z s m0 m1 m2 m3:E}
theorem EO(ρ:Env)(a:E):0<=E.I ρ (.fn 9 a):=Int.natCast_nonneg _
/-! numbers in order -/
theorem GN:(E.B ρ (.fn 152 (.pr x (.pr l i)))=true)=(bK ρ x=f9 ((bK ρ l).take (E.I ρ i).toNat)):=by
 show((bA _==f9 _)=true)=_
 rw[beq_iff_eq];rfl
theorem Oi:(E.B ρ (.fn 160 (.pr x (.pr v i)))=true)=(∀a∈(bK ρ x).take (E.I ρ i).toNat,a<E.I ρ v):=by
 show(((bA _).take _).all _=true)=_
 simp only[List.all_eq_true,decide_eq_true_eq];rfl
theorem aIJ(h:E.I ρ i<=0):E.B ρ (.fn 152 (.pr (.fn 10 a) (.pr l i)))=true:=by
 have e:(E.I ρ i).toNat=0:=by omega
 rw[GN,e];rfl
theorem aIH(h:E.B ρ (.fn 152 (.pr x (.pr l i)))=true)(e:E.I ρ n=E.I ρ i):E.B ρ (.fn 152 (.pr x (.pr l n)))=true:=by
 simp_all[GN]
theorem aIP(h:E.I ρ i<=0):E.B ρ (.fn 160 (.pr x (.pr v i)))=true:=by
 have e:(E.I ρ i).toNat=0:=by omega
 grind[Oi]
theorem aIO(h:E.B ρ (.fn 160 (.pr x (.pr v i)))=true)(h0:0<=E.I ρ i)(h1:E.I ρ i<E.I ρ (.fn 0 x))(hn:E.I ρ n=E.I ρ i+1)(hv:E.I ρ (.fn 1 (.pr x i))<E.I ρ v):E.B ρ (.fn 160 (.pr x (.pr v n)))=true:=by
 have en:(E.I ρ n).toNat=(E.I ρ i).toNat+1:=by omega
 grind[Oi,tC,te]
/-- the list that Sorted makes in a step -/
theorem Gm(h:E.B ρ (.fn 152 (.pr x (.pr l i)))=true)(h':E.B ρ (.fn 160 (.pr x (.pr v j)))=true)(ev:v= .fn 1 (.pr l i))(h0:0<=E.I ρ i)(h1:E.I ρ i<E.I ρ (.fn 0 l))(hn:E.I ρ n=E.I ρ i+1)
    (j0:0<=E.I ρ j)(j1:E.I ρ j<=E.I ρ (.fn 0 x))(hj:E.I ρ (.fn 0 x)<=E.I ρ j\/E.I ρ v<=E.I ρ (.fn 1 (.pr x j)))
    (hy:bK ρ y=(bK ρ x).take (E.I ρ j).toNat++(E.I ρ v ::(bK ρ x).drop (E.I ρ j).toNat)):E.B ρ (.fn 152 (.pr y (.pr l n)))=true:=by
  subst ev;have en:(E.I ρ n).toNat=(E.I ρ i).toNat+1:=by omega
  rw[GN]at h
  rw[Oi]at h'
  rw[<- eJ]at h1 j1 hj
  grind[tC,aGd,E.I,GN,te]
theorem DW:bK ρ (.fn 4 (.pr l (.pr a b)))=((bK ρ l).take (E.I ρ b).toNat).drop (E.I ρ a).toNat:=by
 show(((E.L ρ l).take _).drop _).map _=_
 rw[List.map_drop,List.map_take];rfl
theorem u7(h0:0<=E.I ρ a)(h1:E.I ρ a<=E.I ρ b)(h2:E.I ρ b<=E.I ρ (.fn 0 l)):E.I ρ (.fn 0 (.fn 4 (.pr l (.pr a b))))=E.I ρ b-E.I ρ a:=by
 rw[<- eJ]at *
 grind[DW]
theorem aII(ev:v=.fn 1 (.pr l i))(h0:E.I ρ i=0)(h1:0<E.I ρ (.fn 0 l))(hn:E.I ρ n=1):E.B ρ (.fn 152 (.pr (.fn 23 (.pr v (.fn 10 a))) (.pr l n)))=true:=by
 have e:=Gm (ρ:=ρ) (x:=.fn 10 (.int 0)) (j:=.int 0) (y:=.fn 23 (.pr v (.fn 10 a))) (n:=n) (aIJ (l:=l) (i:=i) (by omega)) (aIP (v:=v) (Int.le_refl _)) ev (by omega) (by omega) (by omega) (Int.le_refl _) (by rw[<- eJ,yY];simp_all) (Or.inl (by rw[<- eJ,yY];simp_all)) (by rfl);exact e
theorem Gl(h:E.B ρ (.fn 152 (.pr x (.pr l i)))=true)(h':E.B ρ (.fn 160 (.pr x (.pr v j)))=true)(ev:v=.fn 1 (.pr l i))(h0:0<=E.I ρ i)(h1:E.I ρ i<E.I ρ (.fn 0 l))(hn:E.I ρ n=E.I ρ i+1)
  (j0:0<=E.I ρ j)(j1:E.I ρ j<=E.I ρ (.fn 0 x))(hj:E.I ρ (.fn 0 x)<=E.I ρ j\/E.I ρ v<=E.I ρ (.fn 1 (.pr x j)))(he:E.I ρ (.fn 0 x)<=E.I ρ e):
  (E.I ρ (.fn 0 x)<=E.I ρ j->E.B ρ (.fn 152 (.pr (.fn 3 (.pr (.fn 4 (.pr x (.pr (.int 0) j))) (.fn 23 (.pr v (.fn 10 (.int 0)))))) (.pr l n)))=true)/\
  (E.I ρ j=0->E.B ρ (.fn 152 (.pr (.fn 3 (.pr (.fn 23 (.pr v (.fn 10 (.int 0)))) (.fn 4 (.pr x (.pr j e))))) (.pr l n)))=true)/\
  E.B ρ (.fn 152 (.pr (.fn 3 (.pr (.fn 4 (.pr x (.pr (.int 0) j))) (.fn 3 (.pr (.fn 23 (.pr v (.fn 10 (.int 0)))) (.fn 4 (.pr x (.pr j e))))))) (.pr l n)))=true:=by
 have z0:(E.I ρ (.int 0)).toNat=0:=rfl;have hx:=eJ (ρ:=ρ) (l:=x);have hd:((bK ρ x).take (E.I ρ e).toNat)=bK ρ x:=List.take_of_length_le (by omega)
 refine⟨fun hf=>?_,fun hz=>?_,?_⟩
 ·refine Gm h h' ev h0 h1 hn j0 j1 hj ?_;grind[Lw,DW,Lx,yY]
 ·refine Gm h h' ev h0 h1 hn j0 j1 hj ?_;simp_all[Lw,DW,Lx,yY]
 ·refine Gm h h' ev h0 h1 hn j0 j1 hj ?_;simp_all[Lw,DW,Lx,yY]
/-! equal lists -/
/-! the reference's sources -/
/-! the law -/
end
end Go.SX

set_option linter.unusedVariables false
set_option linter.unusedSimpArgs false
namespace Go.SX
/-! ### values that are equal -/
mutual
theorem U.eq_rfl:∀u:U,U.eq u u=true
 |.int a=>by simp[U.eq]
 |.bool a=>by simp[U.eq]
 |.str a=>by simp[U.eq]
 |.lst l=>by exact U.eqs_rfl l
 |.bx _ _ _ l=>by exact U.eqs_rfl l
theorem U.eqs_rfl:∀l,U.eqs l l=true
 |[]=>rfl
 |x::xs=>by simp only[U.eqs,U.eq_rfl x,U.eqs_rfl xs,Bool.and_self]
end
theorem jF{a b:U}(h:U.eq a b=true):a.toI=b.toI:=by cases a<;>cases b<;>simp_all[U.eq,U.toI]
theorem yA{a b:U}(h:U.eq a b=true):a.toB=b.toB:=by cases a<;>cases b<;>simp_all[U.eq,U.toB]
theorem pF{a b:U}(h:U.eq a b=true):U.eqs a.toL b.toL=true:=by cases a<;>cases b<;>simp_all[U.eq,U.toL,U.eqs]
theorem gI:∀ {l m:List U},U.eqs l m=true->l.length=m.length
 |[],[],_=>rfl
 |x::xs,y::ys,h=>by
  simp only[U.eqs,Bool.and_eq_true]at h;simp[gI h.2]
theorem je:∀ {l m:List U} (i:Nat),U.eqs l m=true->U.eq (l.getD i (.int 0)) (m.getD i (.int 0))=true
 |[],[],_,_=>by rfl
 |x::xs,y::ys,0,h=>by simp_all[U.eqs]
 |x::xs,y::ys,i+1,h=>by simp only[U.eqs,Bool.and_eq_true]at h;simpa using je i h.2
theorem ZP:∀ {l m a b:List U},U.eqs l m=true->U.eqs a b=true->U.eqs (l++a) (m++b)=true
 |[],[],_,_,_,h=>h
 |x::xs,y::ys,_,_,h,h'=>by
  simp only[U.eqs,Bool.and_eq_true,List.cons_append]at h ⊢
  exact⟨h.1,ZP h.2 h'⟩
theorem aay(l:List U){i n:Nat}(h:i<n):(l.take n).getD i (.int 0)=l.getD i (.int 0):=by grind
theorem aJE(l:List U)(n:Nat)(h:n<l.length):l.take (n+1)=l.take n++[l.getD n (.int 0)]:=by
 simp_all
theorem aJB(l:List U)(n:Nat)(h:n+5<=l.length):l.take (n+5)=l.take n++[l.getD n (.int 0),l.getD (n+1) (.int 0),l.getD (n+2) (.int 0),l.getD (n+3) (.int 0),l.getD (n+4) (.int 0)]:=by
 grind[aJE,List.append_assoc]
section
variable {ρ:Env} {x y l A a b k u i j p q n m r o c d w v X T N L e t C z s:E}
theorem afk(h:E.B ρ (.fn 12 (.pr a b))=true)(i:E):E.B ρ (.fn 12 (.pr (.fn 1 (.pr a i)) (.fn 1 (.pr b i))))=true:=je _ (pF h)
theorem jr(h:E.B ρ (.fn 12 (.pr a b))=true)(i:E):E.I ρ (.fn 1 (.pr a i))=E.I ρ (.fn 1 (.pr b i)):=jF (afk h i)
theorem NH(h:E.B ρ (.fn 12 (.pr a b))=true)(i:E):E.B ρ (.fn 1 (.pr a i))=E.B ρ (.fn 1 (.pr b i)):=yA (afk h i)
theorem afl(h:E.B ρ (.fn 12 (.pr a b))=true):E.I ρ (.fn 0 a)=E.I ρ (.fn 0 b):=by
 show((E.L ρ a).length:Int)=(E.L ρ b).length
 have e:(E.L ρ a).length=(E.L ρ b).length:=gI (pF (a:=a.den ρ) (b:=b.den ρ) h)
 rw[e]
theorem td(h:E.B ρ (.fn 12 (.pr a b))=true)(w:E):E.I ρ (.fn 9 (.pr a w))=E.I ρ (.fn 9 (.pr b w)):=by
 show((E.L ρ a).length/(E.I ρ w).toNat:Nat)=(((E.L ρ b).length/(E.I ρ w).toNat:Nat):Int)
 have e:(E.L ρ a).length=(E.L ρ b).length:=gI (pF (a:=a.den ρ) (b:=b.den ρ) h)
 rw[e]
/-! whole dJ of items -/
theorem qI:(E.B ρ (.fn 187 (.pr a b))=true)=(fw (E.L ρ a) (E.L ρ b)=true):=rfl
theorem gO(l m:List U):fw l m=true↔l.length/5=m.length/5/\U.eqs (l.take (l.length/5*5)) (m.take (m.length/5*5))=true:=by
 simp_all[fw]
theorem aft(h:E.B ρ (.fn 187 (.pr a b))=true):E.I ρ (.fn 9 (.pr a (.int 5)))=E.I ρ (.fn 9 (.pr b (.int 5))):=by
 rw[qI,gO]at h
 show(E.L ρ a).length/5=((E.L ρ b).length/5:Int)
 omega
theorem NK(h:E.B ρ (.fn 187 (.pr a b))=true)(h0:0<=E.I ρ i)(h1:E.I ρ i<E.I ρ (.fn 9 (.pr b (.int 5)))){j:Nat}(hj:j<5):E.B ρ (.fn 12 (.pr (b9 a i 5 j) (b9 b i 5 j)))=true:=by
 rw[qI,gO]at h
 obtain⟨n,hn⟩:=Int.eq_ofNat_of_zero_le h0
 have e9:E.I ρ (.fn 9 (.pr b (.int 5)))=(E.L ρ b).length/5:=rfl;have ei:(E.I ρ i*5+j).toNat=n*5+j:=by omega
 have:=je (n*5+j) h.2
 rw[aay _ (by omega),aay _ (by omega)]at this
 show U.eq ((E.L ρ a).getD (E.I ρ i*5+j).toNat _) ((E.L ρ b).getD (E.I ρ i*5+j).toNat _)=true;simp_all
theorem Gn(h:E.B ρ (.fn 187 (.pr a b))=true)(h0:0<=E.I ρ i)(h1:E.I ρ i<E.I ρ (.fn 9 (.pr b (.int 5)))){j:Nat}(hj:j<5):E.I ρ (b9 a i 5 j)=E.I ρ (b9 b i 5 j):=jF (NK h h0 h1 hj)
/-! as far as they are copied -/
theorem Oj:(E.B ρ (.fn 181 (.pr a (.pr b n)))=true)=(U.eqs ((E.L ρ a).take (E.I ρ n).toNat) ((E.L ρ b).take (E.I ρ n).toNat)=true):=rfl
end
end Go.SX

set_option linter.unusedVariables false
set_option linter.unusedSimpArgs false
namespace Go.SX
/-! ### paying, step by step -/
/-! the whole plan -/
/-! what stays true: the sources that are left are some of those that there were -/
end Go.SX

set_option linter.unusedVariables false
set_option linter.unusedSimpArgs false
namespace Go.SX
/-! ### a purse in the facts' words -/
section
variable {ρ:Env} {p0 p1 p2 p3 q0 q1 q2 q3 R T R1 T1 R2 T2 k n m g i j a b c d x y l v id cE:E}
/-! one mana of any colour -/
end
end Go.SX

set_option linter.unusedVariables false
set_option linter.unusedSimpArgs false
namespace Go.SX
mutual
theorem U.eq_symm:∀a b:U,U.eq a b=true->U.eq b a=true
 |.int a,b,h=>by cases b<;>simp_all[U.eq]
 |.bool a,b,h=>by cases b<;>simp_all[U.eq]
 |.str a,b,h=>by cases b<;>simp_all[U.eq]
 |.lst l,b,h=>by
  cases b with
  |lst m=>simp only[U.eq]at h ⊢;exact U.eqs_symm l m h
  |bx _ _ _ m=>simp only[U.eq]at h ⊢;exact U.eqs_symm l m h
  |_=>simp[U.eq]at h
 |.bx _ _ _ l,b,h=>by
  cases b with
  |lst m=>simp only[U.eq]at h ⊢;exact U.eqs_symm l m h
  |bx _ _ _ m=>simp only[U.eq]at h ⊢;exact U.eqs_symm l m h
  |_=>simp[U.eq]at h
theorem U.eqs_symm:∀l m:List U,U.eqs l m=true->U.eqs m l=true
 |[],m,h=>by cases m<;>simp_all[U.eqs]
 |x::xs,m,h=>by
  cases m with
  |nil=>simp[U.eqs]at h
  |cons y ys=>
   simp only[U.eqs,Bool.and_eq_true]at h ⊢
   exact⟨U.eq_symm x y h.1,U.eqs_symm xs ys h.2⟩
end
/-! ### boards that are the same -/
theorem afU:∀(l ks r:List U),U.typs l ks r=true->l.length<=r.length->∀i,i<l.length->U.typ (l.getD i (.int 0)) (r.getD i (.int 0))=true
 |[],_,_,_,_,i,h=>absurd h (Nat.not_lt_zero _)
 |x::xs,ks,[],_,hl,_,_=>by simp at hl
 |x::xs,ks,k::r,h,hl,i,hi=>by
  simp only[U.typs,Bool.and_eq_true]at h;cases i with
  |zero=>simpa using h.1
  |succ i=>simpa using afU xs ks r h.2 (by simpa using hl) i (by simpa using hi)
theorem aJR{l ks:List U}(h:U.typs l ks []=true)(hl:l.length<=ks.length){i:Nat}(hi:i<l.length):U.typ (l.getD i (.int 0)) (ks.getD i (.int 0))=true:=by
 cases l with
 |nil=>simp at hi
 |cons x xs=>cases ks with
  |nil=>simp at hl
  |cons k r=>exact afU (x::xs) (k::r) (k::r) (by simpa[U.typs]using h) hl i hi
theorem afR{u:U}{ks:List U}(h:U.typ u (.lst ks)=true):∃a n c l,u=.bx a n c l:=by
 cases u with
 |bx a n c l=>exact⟨a,n,c,l,rfl⟩
 |_=>simp[U.typ]at h
section
variable {ρ:Env} {x y l A a b k u i j p q n m r o c d w v X Y T N L e t C z s:E}
theorem o8:(E.B ρ (.fn 189 (.pr Y X))=true)=(∀j,j<38->gZ j (cX (Y.den ρ) j) (cX (X.den ρ) j)=true):=by
 show(((List.range 38).all fun j=>gZ j (cX (Y.den ρ) j) (cX (X.den ρ) j))=true)=_
 simp only[List.all_eq_true,List.mem_range]
theorem FN{j:Nat}(h:([0,6,7,8,9,20,21,22,23,31,32].contains j)=true)(a b:U):gZ j a b=U.eq a b:=by
 have h9:(j==29||j==30)=false:=by
  cases e:(j==29||j==30)with
  |false=>rfl
  |true=>
   simp only[Bool.or_eq_true,beq_iff_eq]at e;rcases e with rfl|rfl<;>simp at h
 unfold gZ
 rw[h9,h];rfl
theorem aFZ(j:Nat)(h:(j==29||j==30)=false)(a:U):gZ j a a=true:=by
 unfold gZ
 rw[h]
 simp only[Bool.false_eq_true,if_false];split
 ·exact U.eq_rfl _
 ·split<;>exact beq_self_eq_true _
theorem i6(h:E.B ρ (.fn 189 (.pr Y X))=true)(c:Nat)(hc:([0,6,7,8,9,20,21,22,23,31,32].contains c&&decide (c<38))=true):E.B ρ (.fn 12 (.pr (.fn 1 (.pr Y (.int (Int.ofNat c)))) (.fn 1 (.pr X (.int (Int.ofNat c))))))=true:=by
 rw[o8]at h
 rw[Bool.and_eq_true,decide_eq_true_eq]at hc
 have:=h c hc.2
 rw[FN hc.1]at this
 exact this
theorem wg(h:E.B ρ (.fn 189 (.pr Y X))=true)(c:Nat)(hc:c∈[10,11,12,24,25,26]):E.B ρ (.fn 1 (.pr Y (.int (Int.ofNat c))))=E.B ρ (.fn 1 (.pr X (.int (Int.ofNat c)))):=by
 rw[o8]at h
 simp only[List.mem_cons,List.not_mem_nil,or_false]at hc;rcases hc with rfl|rfl|rfl|rfl|rfl|rfl
 all_goals first | exact eq_of_beq (h 10 (by decide)) | exact eq_of_beq (h 11 (by decide)) | exact eq_of_beq (h 12 (by decide)) | exact eq_of_beq (h 24 (by decide)) | exact eq_of_beq (h 25 (by decide)) | exact eq_of_beq (h 26 (by decide))
theorem gx(h:E.B ρ (.fn 189 (.pr Y X))=true)(c:Nat)(hc:c<38)(h1:(c==29||c==30)=false)(h2:[0,6,7,8,9,20,21,22,23,31,32].contains c=false)(h3:[10,11,12,24,25,26].contains c=false):E.I ρ (.fn 1 (.pr Y (.int (Int.ofNat c))))=E.I ρ (.fn 1 (.pr X (.int (Int.ofNat c)))):=by
 rw[o8]at h
 have:=h c hc
 unfold gZ at this
 rw[h1,h2,h3]at this
 exact eq_of_beq this
theorem aIT(h:E.B ρ (.fn 189 (.pr Y X))=true):E.B ρ (.fn 187 (.pr (.fn 1 (.pr Y (.int 29))) (.fn 1 (.pr X (.int 29)))))=true:=by
 rw[o8]at h;exact h 29 (by decide)
theorem aIU(h:E.B ρ (.fn 189 (.pr Y X))=true):E.B ρ (.fn 187 (.pr (.fn 1 (.pr Y (.int 30))) (.fn 1 (.pr X (.int 30)))))=true:=by
 rw[o8]at h;exact h 30 (by decide)
/-- a row that is put together -/
def n7(ρ:Env)(X:U):List E->Nat->Prop
  |[],_=>True
  |c ::cs,j=>gZ j (c.den ρ) (cX X j)=true/\n7 ρ X cs (j+1)
theorem Y2{X:U}:∀(cs:List E)(j0 i:Nat),n7 ρ X cs j0->i<cs.length->gZ (j0+i) ((cs.getD i (.int 0)).den ρ) (cX X (j0+i))=true
 |[],_,i,_,h=>absurd h (Nat.not_lt_zero _)
 |c::cs,j0,0,h,_=>h.1
 |c::cs,j0,i+1,h,hi=>by
  have:=Y2 cs (j0+1) i h.2 (by simpa using hi)
  rw[show j0+(i+1)=j0+1+i by omega]
  simpa using this
theorem kU:∀(cs:List E)(i:Nat),i<cs.length->cX ((cU cs).den ρ) i=(cs.getD i (.int 0)).den ρ
 |[],i,h=>absurd h (Nat.not_lt_zero _)
 |c::cs,0,_=>rfl
 |c::cs,i+1,h=>
  kU cs i (by simpa using h)
theorem aIV{cs:List E}(hl:cs.length=38)(h:n7 ρ (X.den ρ) cs 0):E.B ρ (.fn 189 (.pr (cU cs) X))=true:=by
 rw[o8]
 intro j hj
 have:=Y2 cs 0 j h (by omega)
 rw[Nat.zero_add]at this
 rw[kU cs j (by omega)]
 exact this
/-- a list of a board, in a slice -/
theorem aey{u:U}(h:ep u=true)(a:Option Addr)(n c:Nat):U.eq (.bx a n c u.toL) u=true:=by
  cases u with
  |bx a' n' c' l=>simp only[U.eq,U.toL];exact U.eqs_rfl l
  |lst l=>simp only[U.eq,U.toL];exact U.eqs_rfl l
  |_=>simp[ep]at h
theorem wv:(E.B ρ (.fn 116 X)=true)=((X.den ρ).toL.length=38/\(∀j∈[0,6,7,8,9,20,21,22,23,29,30,31,32],ep (cX (X.den ρ) j)=true)/\gn (cX (X.den ρ) 29).toL=true/\gn (cX (X.den ρ) 30).toL=true):=by
 show(uq (X.den ρ)=true)=_
 unfold uq
 rw[Bool.and_eq_true,Bool.and_eq_true,Bool.and_eq_true,List.all_eq_true,beq_iff_eq,and_assoc]
theorem aCq(h:E.B ρ (.fn 116 X)=true){j:Nat}{ks:List U}(hj:j<38)(hk:oD.getD j (.int 0)=.lst ks)(a:Option Addr)(n c:Nat):U.eq (.bx a n c (cX (X.den ρ) j).toL) (cX (X.den ρ) j)=true:=by
 rw[wv]at h
 refine aey (h.2.1 j ?_) a n c
 have:∀j,j<38->(match oD.getD j (.int 0)with | .lst _=>true | _=>false)=true->j∈[0,6,7,8,9,20,21,22,23,29,30,31,32]:=by decide
 exact this j hj (by rw[hk])
theorem nj(h:E.B ρ (.fn 12 (.pr a b))=true):E.B ρ (.fn 12 (.pr b a))=true:=U.eq_symm _ _ h
/-! items that are copied -/
theorem abo(l:E):E.I ρ (.fn 0 l)=((E.L ρ l).length:Int):=rfl
theorem FK(T i:E)(w j:Nat)(h:0<=E.I ρ i):(b9 T i w j).den ρ=(E.L ρ T).getD ((E.I ρ i).toNat*w+j) (.int 0):=by
 obtain⟨n,hn⟩:=Int.eq_ofNat_of_zero_le h
 show(E.L ρ T).getD (E.I ρ i*(w:Int)+(j:Int)).toNat (.int 0)=_
 rw[hn]
 congr 1
theorem Ap:(E.B ρ (.fn 190 a)=true)=(∀i,i<(E.L ρ a).length->i%5=4->ep ((E.L ρ a).getD i (.int 0))=true):=by
 show(gn (E.L ρ a)=true)=_
 unfold gn;simp only[List.all_eq_true,List.mem_range,Bool.or_eq_true,Bool.not_eq_true',beq_eq_false_iff_ne];exact propext ⟨fun h i hi h5=>(h i hi).resolve_left (fun h=>h h5),fun h i hi=>Classical.byCases (fun h5:i%5=4=>.inr (h i hi h5)) .inl⟩
theorem afw(h:E.B ρ (.fn 116 X)=true)(c:Nat)(hc:c=29\/c=30):E.B ρ (.fn 190 (.fn 1 (.pr X (.int (Int.ofNat c)))))=true:=by
 rw[wv]at h
 rcases hc with rfl|rfl
 ·exact h.2.2.1
 ·exact h.2.2.2
theorem aDl(hb:E.B ρ (.fn 190 b)=true)(h0:0<=E.I ρ i)(h3:E.I ρ i<E.I ρ (.fn 9 (.pr b (.int 5))))(a:Option Addr)(n c:Nat):U.eq (.bx a n c ((b9 b i 5 4).den ρ).toL) ((b9 b i 5 4).den ρ)=true:=by
 have e9:E.I ρ (.fn 9 (.pr b (.int 5)))=(((E.L ρ b).length/5:Nat):Int):=rfl
 rw[FK _ _ _ _ h0]
 rw[Ap]at hb
 exact aey (hb _ (by omega) (by omega)) a n c
/-- one item more is copied -/
theorem afr{x:List U}{k:Nat}(h:U.eqs x ((E.L ρ b).take (5*k))=true)(hb:E.B ρ (.fn 190 b)=true)(h0:E.I ρ i=k)(h3:E.I ρ i<E.I ρ (.fn 9 (.pr b (.int 5))))(v q:E):
    U.eqs (x++[(b9 b i 5 0).den ρ,(b9 b i 5 1).den ρ,(b9 b i 5 2).den ρ,(b9 b i 5 3).den ρ,(E.fn 28 (.pr (.pr v q) (b9 b i 5 4))).den ρ]) ((E.L ρ b).take (5*k+5))=true:=by
  have e9:E.I ρ (.fn 9 (.pr b (.int 5)))=(((E.L ρ b).length/5:Nat):Int):=rfl;have hn:0<=E.I ρ i:=by omega
  rw[aJB _ _ (by omega)]
  refine ZP h ?_;have g (j:Nat):(b9 b i 5 j).den ρ=(E.L ρ b).getD (5*k+j) (.int 0):=by rw[FK _ _ _ _ hn];congr 1;omega
  have g4:U.eq ((E.fn 28 (.pr (.pr v q) (b9 b i 5 4))).den ρ) ((E.L ρ b).getD (5*k+4) (.int 0))=true:=by rw[<- g 4];exact aDl hb hn h3 _ _ _
  simp only[U.eqs,g 0,g 1,g 2,g 3,g4,Nat.add_zero,U.eq_rfl,Bool.and_self]
theorem aIR{n0:E}(h:E.B ρ (.fn 181 (.pr x (.pr b n0)))=true)(hb:E.B ρ (.fn 190 b)=true)(h0:0<=E.I ρ i)(h1:E.I ρ n0=E.I ρ i*5)(h2:E.I ρ (.fn 0 x)=E.I ρ i*5)(h3:E.I ρ i<E.I ρ (.fn 9 (.pr b (.int 5))))(h4:E.I ρ n=(E.I ρ i+1)*5)(v q:E):
  E.B ρ (.fn 181 (.pr (.fn 3 (.pr x (.fn 23 (.pr (b9 b i 5 0) (.fn 23 (.pr (b9 b i 5 1) (.fn 23 (.pr (b9 b i 5 2) (.fn 23 (.pr (b9 b i 5 3) (.fn 23 (.pr (.fn 28 (.pr (.pr v q) (b9 b i 5 4))) (.fn 10 (.int 0)))))))))))))) (.pr b n)))=true:=by
 obtain⟨k,hk⟩:=Int.eq_ofNat_of_zero_le h0
 rw[abo]at h2
 rw[Oj]at h ⊢
 have e1:(E.I ρ n0).toNat=5*k:=by omega
 have e2:(E.I ρ n).toNat=5*k+5:=by omega
 rw[e1,List.take_of_length_le (l:=E.L ρ x) (by omega)]at h
 rw[e2]
 have:=afr h hb hk h3 v q
 rw[List.take_of_length_le]
 ·exact this
 ·show(E.L ρ x++[_,_,_,_,_]).length<=_
  simp;omega
theorem aIQ(hb:E.B ρ (.fn 190 b)=true)(h0:E.I ρ i=0)(h3:E.I ρ i<E.I ρ (.fn 9 (.pr b (.int 5))))(h4:E.I ρ n=(E.I ρ i+1)*5)(v q:E):
  E.B ρ (.fn 181 (.pr (.fn 23 (.pr (b9 b i 5 0) (.fn 23 (.pr (b9 b i 5 1) (.fn 23 (.pr (b9 b i 5 2) (.fn 23 (.pr (b9 b i 5 3) (.fn 23 (.pr (.fn 28 (.pr (.pr v q) (b9 b i 5 4))) (.fn 10 (.int 0)))))))))))) (.pr b n)))=true:=by
 rw[Oj]
 have e2:(E.I ρ n).toNat=5*0+5:=by omega
 rw[e2]
 have:=afr (x:=[]) (k:=0) (ρ:=ρ) (b:=b) (i:=i) rfl hb (by omega) h3 v q
 rw[List.take_of_length_le]
 ·exact this
 ·show([_,_,_,_,_]:List U).length<=_
  simp
theorem afs{a0:E}(h:E.B ρ (.fn 181 (.pr x (.pr b n)))=true)(h1:E.I ρ n=E.I ρ (.fn 9 (.pr b (.int 5)))*5)(h2:E.I ρ (.fn 0 x)=E.I ρ n):E.B ρ (.fn 187 (.pr (.fn 28 (.pr a0 x)) b))=true:=by
 have e9:E.I ρ (.fn 9 (.pr b (.int 5)))=(((E.L ρ b).length/5:Nat):Int):=rfl
 rw[abo]at h2
 rw[Oj]at h
 rw[qI,gO]
 have el:E.L ρ (.fn 28 (.pr a0 x))=E.L ρ x:=rfl
 rw[el]
 refine⟨by omega,?_⟩
 rw[show(E.L ρ x).length/5*5=(E.I ρ n).toNat by omega,show(E.L ρ b).length/5*5=(E.I ρ n).toNat by omega]
 exact h
theorem aIS(h:E.L ρ a=[])(h0:E.I ρ (.fn 9 (.pr b (.int 5)))<=0):E.B ρ (.fn 187 (.pr a b))=true:=by
 have e9:E.I ρ (.fn 9 (.pr b (.int 5)))=(((E.L ρ b).length/5:Nat):Int):=rfl
 rw[qI,gO,h]
 refine⟨by simp;omega,?_⟩
 rw[show(E.L ρ b).length/5*5=0 by omega]
 rfl
theorem NJ(h:E.B ρ (.fn 158 (.pr l n))=true)(h0:0<=E.I ρ i)(h1:E.I ρ i<E.I ρ n):E.I ρ (.fn 9 (.pr (b9 l i 5 4) (.int 2)))<=6:=by
 rw[GO]at h
 unfold ga at h
 rw[Yq]at h
 have:=h (E.I ρ i).toNat (by omega)
 rw[decide_eq_true_eq]at this
 have e:E.I ρ (.fn 9 (.pr (b9 l i 5 4) (.int 2)))=(((b9 l i 5 4).den ρ).toL.length/2:Nat):=rfl
 rw[e,FK _ _ _ _ h0]
 omega
theorem eX(j:Nat)(hj:(j==29||j==30)=false){cs:List E}(h:n7 ρ (X.den ρ) cs (j+1)):n7 ρ (X.den ρ) (.fn 1 (.pr X (.int (Int.ofNat j)))::cs) j:=
 ⟨aFZ j hj _,h⟩
theorem lK(ht:E.B ρ (.fn 116 X)=true)(j:Nat)(hj:(j==29||j==30)=false)(h38:j<38){ks:List U}(hk:oD.getD j (.int 0)=.lst ks){a0:E}{cs:List E}(h:n7 ρ (X.den ρ) cs (j+1)):
  n7 ρ (X.den ρ) (.fn 28 (.pr a0 (.fn 1 (.pr X (.int (Int.ofNat j)))))::cs) j:=by
 refine⟨?_,h⟩
 have:∀j,j<38->(j==29||j==30)=false->(match oD.getD j (.int 0)with | .lst _=>true | _=>false)=true->[0,6,7,8,9,20,21,22,23,31,32].contains j=true:=by decide
 rw[FN (this j h38 hj (by rw[hk]))]
 exact aCq ht h38 hk _ _ _
theorem Zl(j:Nat)(hj:(j==29||j==30)=true){c0:E}(hc:E.B ρ (.fn 187 (.pr c0 (.fn 1 (.pr X (.int (Int.ofNat j))))))=true){cs:List E}(h:n7 ρ (X.den ρ) cs (j+1)):n7 ρ (X.den ρ) (c0::cs) j:=by
 refine⟨?_,h⟩
 unfold gZ
 rw[hj]
 exact hc
end
end Go.SX

set_option linter.unusedVariables false
set_option linter.unusedSimpArgs false
namespace Go.SX
/-! ### the first source of a colour -/
section
variable {ρ:Env} {p0 p1 p2 p3 q0 q1 q2 q3 R T R1 T1 R2 T2 k n m g i j a b c d x y l v id:E}
/-! a source less -/
end
end Go.SX

set_option linter.unusedVariables false
set_option linter.unusedSimpArgs false
namespace Go.SX
noncomputable def MV(ρ:Env)(C X p:E):Pu:=adY (E.L ρ C) (X.den ρ) (E.I ρ p)
section
variable {ρ:Env} {p0 p1 p2 p3 q0 q1 q2 q3 R T R1 T1 R2 T2 k n m g i j a b c d x y l v id c0 c1 c2 c3 C X p:E}
end
end Go.SX

set_option linter.unusedVariables false
set_option linter.unusedSimpArgs false
namespace Go.SX
section
variable {ρ:Env} {p0 p1 p2 p3 q0 q1 q2 q3 R T R1 T1 R2 T2 k n m g i j a b c d x y l v id c0 c1 c2 c3 C X p L:E}
end
end Go.SX

set_option linter.unusedVariables false
set_option linter.unusedSimpArgs false
namespace Go.SX
/-! ### sources by their ids alone -/
/-! what holds of a purse all along -/
end Go.SX

set_option linter.unusedVariables false
set_option linter.unusedSimpArgs false
namespace Go.SX
section
variable {ρ:Env} {p0 p1 p2 p3 q0 q1 q2 q3 R T R1 T1 R2 T2 k n m g i j a b c d x y l v id c0 c1 c2 c3 C X p L:E}
end
end Go.SX

set_option linter.unusedVariables false
set_option linter.unusedSimpArgs false
namespace Go.SX
section
variable {ρ:Env} {p0 p1 p2 p3 q0 q1 q2 q3 R T k n a c0 c1 c2 c3 C X p:E}
end
end Go.SX

set_option linter.unusedVariables false
set_option linter.unusedSimpArgs false
namespace Go.SX
/-! ### what can be paid -/
def aCz(k:Nat)(l:List Int):Int:=(((EW l).count (k:Int):Nat):Int)
def Lj(k:Nat)(s:Pu):Int:=s.1.getD k 0+aCz k s.2.1
def af(s:Pu):Int:=s.1.getD 0 0+s.1.getD 1 0+s.1.getD 2 0+s.1.getD 3 0+((s.2.1.length/2:Nat):Int)
def wfP(s:Pu):Prop:=s.2.1.length%2=0/\s.1.length=4/\(∀c∈EW s.2.1,0<=c/\c<4)/\∀k,0<=s.1.getD k 0
/-- t comes of s by so many steps -/
def lessP(n:Int)(s t:Pu):Prop:=wfP t/\(∀j,Lj j t<=Lj j s)/\(∀j,t.1.getD j 0<=s.1.getD j 0)/\af t=af s-n/\t.2.2.length+t.2.1.length/2=s.2.2.length+s.2.1.length/2
theorem lessP.trans{a b:Int}{s t u:Pu}(h:lessP a s t)(h':lessP b t u):lessP (a+b) s u:=by
 obtain⟨_,h2,h3,h4,h5⟩:=h
 obtain⟨g1,g2,g3,g4,g5⟩:=h'
 exact⟨g1,fun j=>Int.le_trans (g2 j) (h2 j),fun j=>Int.le_trans (g3 j) (h3 j),by omega,by omega⟩
end Go.SX

set_option linter.unusedVariables false
set_option linter.unusedSimpArgs false
namespace Go.SX
/-! ### a board after it was paid tells the same -/
theorem xU{n:Nat}{f g:Nat->Bool}(h:∀i,i<n->f i=g i):(List.range n).all f=(List.range n).all g:=by
 grind
theorem aDi{n:Nat}{f g:Nat->Bool}(h:∀i,i<n->f i=g i):(List.range n).filter f=(List.range n).filter g:=
 List.filter_congr fun i hi=>h i (List.mem_range.1 hi)
theorem yB{l m:List U}(h:U.eqs l m=true):l.map U.toI=m.map U.toI:=by
 refine List.ext_getElem (by simp[gI h]) fun i h1 h2=>?_
 have:=jF (je i h)
 grind
theorem pG{l m:List U}(h:U.eqs l m=true)(i:Nat):nI l i=nI m i:=jF (je i h)
theorem aDs(l:List U){i:Nat}(h:l.length<=i)(d:U):l.getD i d=d:=by grind
theorem aD6{t u:List U}(h:U.eqs t u=true)(p i c k:Int)(q:Bool):kK p i c k t q=kK p i c k u q:=by
 grind[kK,ue,gI,pG]
section
variable {Y X:U} {p:Nat} {L m:List Int} (h:adv Y X p L m=true) (hY:Y.toL.length=38) (hX:X.toL.length=38)
include h hY hX
end
end Go.SX

set_option linter.unusedVariables false
set_option linter.unusedSimpArgs false
namespace Go.SX
/-! ### a purse and what is left of it -/
end Go.SX

set_option linter.unusedVariables false
set_option linter.unusedSimpArgs false
namespace Go.SX
mutual
theorem U.eq_trans:∀a b c:U,U.eq a b=true->U.eq b c=true->U.eq a c=true
  |.int a,b,c,h,g=>by
    cases b with
    | int b => have e  := by simpa[U.eq]using h
               subst e;exact g
    |_=>simp[U.eq]at h
  |.bool a,b,c,h,g=>by
    cases b with
    | bool b => have e  := by simpa[U.eq]using h
                subst e;exact g
    |_=>simp[U.eq]at h
  |.str a,b,c,h,g=>by
    cases b with
    | str b=>cases c with
      |str c=>
        simp_all[U.eq]
      |_=>simp[U.eq]at g
    |_=>simp[U.eq]at h
  |.lst l,b,c,h,g=>by
    cases b<;>cases c<;>simp only[U.eq]at h g ⊢ <;> first | exact U.eqs_trans l _ _ h g | cases h | cases g
  |.bx _ _ _ l,b,c,h,g=>by
    cases b<;>cases c<;>simp only[U.eq]at h g ⊢ <;> first | exact U.eqs_trans l _ _ h g | cases h | cases g
theorem U.eqs_trans:∀a b c,U.eqs a b=true->U.eqs b c=true->U.eqs a c=true
 |[],b,c,h,g=>by grind[U.eqs]
 |x::xs,b,c,h,g=>by
  cases b with
  |nil=>simp[U.eqs]at h
  |cons y ys=>cases c with
   |nil=>simp[U.eqs]at g
   |cons z zs=>
    simp only[U.eqs,Bool.and_eq_true]at h g ⊢
    exact⟨U.eq_trans x y z h.1 g.1,U.eqs_trans xs ys zs h.2 g.2⟩
end
theorem aez{u v:U}(h:U.eq u v=true):ep u=ep v:=by
 cases u<;>cases v<;>simp_all[U.eq,ep]
theorem Dj{u v:U}(h:U.eqs u.toL v.toL=true)(hu:ep u=true)(hv:ep v=true):U.eq u v=true:=by
 cases u<;>cases v<;>simp_all[U.eq,ep,U.toL]
theorem ZQ:∀ {l m:List U} (i:Nat) {v w:U},U.eqs l m=true->U.eq v w=true->U.eqs (l.set i v) (m.set i w)=true
 |[],[],i,_,_,_,_=>by rfl
 |[],_::_,_,_,_,h,_=>by simp[U.eqs]at h
 |_::_,[],_,_,_,h,_=>by simp[U.eqs]at h
 |x::l,y::m,0,v,w,h,g=>by
  simp_all[U.eqs]
 |x::l,y::m,i+1,v,w,h,g=>by
  simp only[U.eqs,Bool.and_eq_true,List.set_cons_succ]at h ⊢;exact⟨h.1,ZQ i h.2 g⟩
theorem aF2(l:List U){i:Nat}(h:i<l.length):l.set i (l.getD i (.int 0))=l:=by
 simp_all
theorem ZR:∀(n:Nat){l m:List U},U.eqs l m=true->U.eqs (l.take n) (m.take n)=true
 |0,l,m,_=>by rfl
 |n+1,[],[],_=>by rfl
 |n+1,[],_::_,h=>by simp[U.eqs]at h
 |n+1,_::_,[],h=>by simp[U.eqs]at h
 |n+1,x::l,y::m,h=>by
  simp only[U.eqs,Bool.and_eq_true,List.take_succ_cons]at h ⊢;exact⟨h.1,ZR n h.2⟩
section
variable {ρ:Env} {x y l A a b k u i j p q n m r o c d w v X Y T N L e t C z s:E}
/-! lists that are the same -/
theorem GP:(E.B ρ (.fn 200 (.pr a b))=true)=(U.eqs (E.L ρ a) (E.L ρ b)=true):=rfl
theorem aJ8:(E.B ρ (.fn 201 a)=true)=(ep (a.den ρ)=true):=rfl
theorem afx:E.B ρ (.fn 200 (.pr a a))=true:=U.eqs_rfl _
theorem nl:E.B ρ (.fn 200 (.pr (.fn 28 (.pr z a)) a))=true:=U.eqs_rfl _
theorem aE2(h:E.I ρ (.fn 0 b)=0):E.L ρ b=[]:=by
 have e:E.I ρ (.fn 0 b)=(E.L ρ b).length:=rfl;simp_all
theorem aIZ(h:E.I ρ (.fn 0 b)=0):E.B ρ (.fn 200 (.pr (.fn 10 a) b))=true:=by rw[GP,aE2 h];rfl
theorem np:E.B ρ (.fn 201 (.fn 28 a))=true:=rfl
theorem aI0(h:E.B ρ (.fn 200 (.pr a b))=true):E.B ρ (.fn 187 (.pr a b))=true:=by
 rw[GP]at h
 rw[qI,gO,gI h]
 exact⟨rfl,ZR _ h⟩
theorem aI1(h:E.B ρ (.fn 200 (.pr a b))=true)(g:E.B ρ (.fn 190 b)=true):E.B ρ (.fn 190 a)=true:=by
 grind[GP,Ap,aez,je,gI]
/-- a target's list in a copied item -/
theorem RH(h0:0<=E.I ρ i):E.L ρ (.fn 2 (.pr a (.pr (.fn 6 (.pr (.fn 8 (.pr i (.int 5))) (.int 4))) v)))=(E.L ρ a).set ((E.I ρ i).toNat*5+4) (v.den ρ):=by
  show(E.L ρ a).set (E.I ρ i*5+4).toNat (v.den ρ)=_
  grind
theorem afu(h:E.B ρ (.fn 187 (.pr a b))=true)(hs:E.B ρ (.fn 190 a)=true)(h0:0<=E.I ρ i)(h1:E.I ρ i<E.I ρ (.fn 9 (.pr b (.int 5))))(hv:E.B ρ (.fn 200 (.pr v (.fn 1 (.pr a (.fn 6 (.pr (.fn 8 (.pr i (.int 5))) (.int 4)))))))=true)(hsv:E.B ρ (.fn 201 v)=true):
  E.B ρ (.fn 187 (.pr (.fn 2 (.pr a (.pr (.fn 6 (.pr (.fn 8 (.pr i (.int 5))) (.int 4))) v))) b))=true/\E.B ρ (.fn 190 (.fn 2 (.pr a (.pr (.fn 6 (.pr (.fn 8 (.pr i (.int 5))) (.int 4))) v))))=true:=by
 have e9:E.I ρ (.fn 9 (.pr b (.int 5)))=(E.L ρ b).length/5:=rfl
 rw[qI,gO]at h
 rw[Ap]at hs
 rw[GP]at hv
 rw[aJ8]at hsv
 have hi:(E.I ρ i).toNat*5+4<(E.L ρ a).length:=by omega
 have hcell:E.L ρ (.fn 1 (.pr a (.fn 6 (.pr (.fn 8 (.pr i (.int 5))) (.int 4)))))=((E.L ρ a).getD ((E.I ρ i).toNat*5+4) (.int 0)).toL:=by
  show((E.L ρ a).getD (E.I ρ i*5+4).toNat _).toL=_
  grind
 rw[hcell]at hv
 have heq:=Dj hv hsv (hs _ hi (by omega));constructor
 ·rw[qI,gO,RH h0,List.length_set]
  rw[List.take_set]
  have e2:((E.L ρ a).take ((E.L ρ a).length/5*5)).getD ((E.I ρ i).toNat*5+4) (.int 0)=(E.L ρ a).getD ((E.I ρ i).toNat*5+4) (.int 0):=by
   grind
  have g3:=ZQ ((E.I ρ i).toNat*5+4) (U.eqs_rfl ((E.L ρ a).take ((E.L ρ a).length/5*5))) heq;grind[aF2,U.eqs_trans]
 grind[Ap,RH]
theorem aIN(h:E.B ρ (.fn 158 (.pr b n))=true)(g:E.B ρ (.fn 187 (.pr a b))=true)(h0:0<=E.I ρ i)(h1:E.I ρ i<E.I ρ (.fn 9 (.pr b (.int 5))))(hn:E.I ρ n=E.I ρ (.fn 9 (.pr b (.int 5)))):E.I ρ (.fn 9 (.pr (.fn 1 (.pr a (.fn 6 (.pr (.fn 8 (.pr i (.int 5))) (.int 4))))) (.int 2)))<=6:=by
 have e:=td (NK g h0 h1 (j:=4) (by decide)) (.int 2);have e':E.I ρ (.fn 9 (.pr (.fn 1 _) _))=E.I ρ _:=e
 rw[GO]at h
 unfold ga at h;have e3:E.I ρ (.fn 9 (.pr (b9 b i 5 4) (.int 2)))=((b9 b i 5 4).den ρ).toL.length/2:=rfl;grind[FK]
/-! a search by halves -/
end
end Go.SX

set_option linter.unusedVariables false
set_option linter.unusedSimpArgs false
namespace Go.SX
section
variable {ρ:Env} {x y l A a b k u i j p q n m r o c d w v X Y T N L e t C z s q0 q1 q2 q3 c0 c1 c2 c3:E}
theorem Aq:(E.B ρ (.fn 196 (.pr Y X))=true)=(zV (Y.den ρ) (X.den ρ)=true):=rfl
end
end Go.SX

set_option linter.unusedVariables false
set_option linter.unusedSimpArgs false
namespace Go.SX
/-! what comes in has the shape -/
theorem afS{u:U}{ks:List U}(h:U.typ u (.lst ks)=true):ep u=true:=by
 obtain⟨a,n,c,l,rfl⟩:=afR h;rfl
theorem afT{a b c d e:U}:∀(n:Nat)(l:List U),U.typs l [a,b,c,d,e] []=true->n*5+4<l.length->U.typ (l.getD (n*5+4) (.int 0)) e=true
 |0,l,h,hl=>by
  match l,hl with
  |x0::x1::x2::x3::x4::l',_=>simp_all[U.typs]
 |n+1,l,h,hl=>by
  match l,hl with
  |x0::x1::x2::x3::x4::l',hl=>
   have h':U.typs l' [a,b,c,d,e] []=true:=by simp_all[U.typs]
   have:=afT n l' h' (by grind)
   rw[show(n+1)*5+4=(n*5+4)+5 by omega]
   exact this
theorem aD5{l:List U}(h:U.typs l Ea []=true):gn l=true:=by
 unfold gn
 rw[List.all_eq_true]
 intro i hi;have hi:=List.mem_range.1 hi;by_cases h5:i%5=4
 ·have e:i=i/5*5+4:=by omega
  have:=afT (i/5) l h (by omega)
  rw[<- e]at this
  rw[afS this,Bool.or_true]
 simp_all
theorem aBW{us:List U}(h:us.length=38)(t:U.typs us oD []=true):uq (.lst us)=true:=by
 have key:∀j,j<38->U.typ _ (oD.getD j _)=true:=fun j hj=>aJR t (by rw[h];decide) (by omega)
 have it:∀j,j<38->oD.getD j _=.lst Ea->gn (us.getD j _).toL=true:=fun j hj hk=>by
  have:=key j hj
  rw[hk]at this
  obtain⟨a,n,c,l,e⟩:=afR this
  rw[e]at this ⊢
  exact aD5 (l:=l) (by simp_all[U.typ])
 have sh:∀j,j<38->(match oD.getD j (.int 0)with | .lst _=>true | _=>false)=true->ep (us.getD j (.int 0))=true:=fun j hj hk=>by
  grind[afS]
 unfold uq
 rw[Bool.and_eq_true,Bool.and_eq_true,Bool.and_eq_true,List.all_eq_true,beq_iff_eq]
 refine⟨⟨h,fun j hj=>?_⟩,it 29 (by omega) rfl,it 30 (by omega) rfl⟩
 have hj':j<38:=by simp only[List.mem_cons,List.not_mem_nil,or_false]at hj;omega
 refine sh j hj' ?_;simp only[List.mem_cons,List.not_mem_nil,or_false]at hj;rcases hj with rfl|rfl|rfl|rfl|rfl|rfl|rfl|rfl|rfl|rfl|rfl|rfl|rfl<;>rfl
/-- cells of a board that are the same but for the objects -/
def lI(ρ:Env)(X:U):List E->Nat->Prop
  |[],_=>True
  |c ::cs,j=>(if j==0 then true else if j==29||j==30 then fw (E.L ρ c) (cX X j).toL&&(ep (c.den ρ)&&gn (E.L ρ c))else U.eq (c.den ρ) (cX X j))=true/\lI ρ X cs (j+1)
theorem Y3{ρ:Env}{X:U}:∀(cs:List E)(j:Nat),lI ρ X cs j->∀i,i<cs.length->(if j+i==0 then true else if j+i==29||j+i==30 then fw (E.L ρ (cs.getD i (.int 0))) (cX X (j+i)).toL&&(ep ((cs.getD i (.int 0)).den ρ)&&gn (E.L ρ (cs.getD i (.int 0))))else U.eq ((cs.getD i (.int 0)).den ρ) (cX X (j+i)))=true
 |[],_,_,i,hi=>by simp at hi
 |c::cs,j,h,0,_=>h.1
 |c::cs,j,h,i+1,hi=>by
  have:=Y3 cs _ h.2 i (by simp_all)
  grind
section
variable {ρ:Env} {x y l A a b k u i j p q n m r o c d w v X Y T N L e t C z s q0 q1 q2 q3 c0 c1 c2 c3 m0 m1 m2 m3 d0 d1 d2 d3:E}
theorem aIY{cs:List E}(hl:cs.length=38)(h:lI ρ (X.den ρ) cs 0):E.B ρ (.fn 196 (.pr (cU cs) X))=true:=by
 rw[Aq]
 unfold zV
 rw[List.all_eq_true]
 intro j hj;have hj:=List.mem_range.1 hj;have g:=Y3 cs 0 h j (by omega)
 rw[Nat.zero_add]at g
 have e:cX _ j=(cs.getD j _).den ρ:=kU cs j (by omega)
 rw[e];exact g
theorem aCL{cs:List E}(h:lI ρ (X.den ρ) cs 1):lI ρ (X.den ρ) (c::cs) 0:=⟨rfl,h⟩
theorem eY(j:Nat)(h0:(j==0)=false)(hj:(j==29||j==30)=false){cs:List E}(h:lI ρ (X.den ρ) cs (j+1)):lI ρ (X.den ρ) (.fn 1 (.pr X (.int (Int.ofNat j)))::cs) j:=by
 refine⟨?_,h⟩
 rw[h0,hj];exact U.eq_rfl _
theorem mE(j:Nat)(h0:(j==0)=false)(hj:(j==29||j==30)=false)(hm:j∈[0,6,7,8,9,20,21,22,23,29,30,31,32])(ht:E.B ρ (.fn 116 X)=true)(h1:E.B ρ (.fn 200 (.pr c (.fn 1 (.pr X (.int (Int.ofNat j))))))=true)(h2:E.B ρ (.fn 201 c)=true)
  {cs:List E}(h:lI ρ (X.den ρ) cs (j+1)):lI ρ (X.den ρ) (c::cs) j:=by
 refine⟨?_,h⟩
 rw[h0,hj]
 rw[wv]at ht
 exact Dj h1 h2 (ht.2.1 j hm)
theorem Zm(j:Nat)(h0:(j==0)=false)(hj:(j==29||j==30)=true)(h1:E.B ρ (.fn 187 (.pr c (.fn 1 (.pr X (.int (Int.ofNat j))))))=true)(h2:E.B ρ (.fn 195 c)=true){cs:List E}(h:lI ρ (X.den ρ) cs (j+1)):lI ρ (X.den ρ) (c::cs) j:=by
 refine⟨?_,h⟩
 rw[h0,hj]
 show(fw _ _&&(ep _&&gn _))=true
 rw[Bool.and_eq_true]
 exact⟨h1,h2⟩
theorem aJ5{x:Int}(h0:0<=x)(h1:x<=1000000):IntKind.i64.wrap x=x/\IntKind.u64.wrap x=x:=by
 constructor
 ·obtain⟨s,e,_,r⟩:=ab x
  omega
 ·simp only[IntKind.wrap,IntKind.bits,IntKind.signed,Bool.false_and,Bool.false_eq_true,if_false];omega
theorem jZ(h0:0<=E.I ρ i)(h1:0<=E.I ρ j)(h2:E.I ρ i<=1000)(h3:E.I ρ j<=1000):E.I ρ (.wr .i64 (.ar .shr .u64 (.wr .u64 (.ar .add .i64 i j)) (.int 1)))=(E.I ρ i+E.I ρ j)/2:=by
 have e:E.I ρ (.wr _ (.ar .shr .u64 (.wr .u64 (.ar .add _ i j)) (.int 1)))=IntKind.i64.wrap ((IntKind.u64.wrap (IntKind.i64.wrap (E.I ρ i+E.I ρ j))).fdiv (2^(min (1:Int).toNat 64))):=rfl;grind[aJ5]
theorem kX:E.I ρ (.fn 9 (.pr a (.int 1)))=E.I ρ (.fn 0 a):=by
 show(E.L ρ a).length/1=((E.L ρ a).length:Int)
 omega
/-! the law -/
noncomputable def hv(ρ:Env)(C X p:E)(k:Nat):Int:=Lj k (MV ρ C X p)
noncomputable def tt(ρ:Env)(C X p:E):Int:=af (MV ρ C X p)
noncomputable def ns(ρ:Env)(C X p:E):Int:=(((MV ρ C X p).2.1.length/2:Nat):Int)
end
end Go.SX

set_option linter.unusedVariables false
set_option linter.unusedSectionVars false
namespace Go.SX
/-! ### targets stay Dn -/
section
variable {ρ:Env} {l i n v c x:E}
theorem adu(h:0<=E.I ρ i)(k:Nat):(E.I ρ (.fn 6 (.pr (.fn 8 (.pr i (.int 5))) (.int k)))).toNat=(E.I ρ i).toNat*5+k:=by
 show(E.I ρ i*5+k).toNat=_
 omega
theorem aab(h0:0<=E.I ρ i)(h:E.B ρ (.fn 158 (.pr l n))=true):E.B ρ (.fn 158 (.pr (.fn 2 (.pr l (.pr (.fn 6 (.pr (.fn 8 (.pr i (.int 5))) (.int 2))) v))) n))=true:=by
 have h:ga (E.L ρ l) (E.I ρ n).toNat=true:=h;show ga ((E.L ρ l).set (E.I ρ (.fn 6 (.pr _ (.int (2:Nat))))).toNat _) (E.I ρ n).toNat=true
 rw[adu h0]
 simp only[ga]at h ⊢;grind
def NT(l i x:E):E:=.fn 2 (.pr l (.pr (.fn 6 (.pr (.fn 8 (.pr i (.int 5))) (.int 4))) (.fn 21 (.pr (.fn 1 (.pr l (.fn 6 (.pr (.fn 8 (.pr i (.int 5))) (.int 4))))) x))))
theorem afL(h0:0<=E.I ρ i)(k:Nat):(((E.L ρ (NT l i (.fn 2 (.pr (.fn 1 (.pr l (.fn 6 (.pr (.fn 8 (.pr i (.int 5))) (.int 4))))) x)))).getD k (.int 0)).toL.length=((E.L ρ l).getD k (.int 0)).toL.length):=by
 show((((E.L ρ l).set (E.I ρ _).toNat (U.bx _ _ _ ((((E.L ρ l).getD (E.I ρ _).toNat _).toL).set _ _))).getD k _).toL.length)=_
 grind[U.toL]
theorem aac(h0:0<=E.I ρ i)(h:E.B ρ (.fn 158 (.pr l n))=true):E.B ρ (.fn 158 (.pr (NT l i (.fn 2 (.pr (.fn 1 (.pr l (.fn 6 (.pr (.fn 8 (.pr i (.int 5))) (.int 4))))) x))) n))=true:=by
 have h:ga (E.L ρ l) (E.I ρ n).toNat=true:=h;show ga (E.L ρ _) (E.I ρ n).toNat=true;simp only[ga]at h ⊢;grind[afL]
theorem uG(h0:0<=E.I ρ i):E.I ρ (.fn 9 (.pr (.fn 1 (.pr (NT l i (.fn 2 (.pr (.fn 1 (.pr l (.fn 6 (.pr (.fn 8 (.pr i (.int 5))) (.int 4))))) x))) (.fn 6 (.pr (.fn 8 (.pr i (.int 5))) (.int 4))))) (.int 2)))=E.I ρ (.fn 9 (.pr (.fn 1 (.pr l (.fn 6 (.pr (.fn 8 (.pr i (.int 5))) (.int 4))))) (.int 2))):=by
 show(((E.L ρ _).getD _ _).toL.length/2)=(((E.L ρ l).getD _ _).toL.length/2:Int)
 rw[afL h0];rfl
theorem Do(h0:0<=E.I ρ i)(h1:E.I ρ i<E.I ρ n)(h:E.B ρ (.fn 158 (.pr l n))=true):E.I ρ (.fn 9 (.pr (.fn 1 (.pr l (.fn 6 (.pr (.fn 8 (.pr i (.int 5))) (.int 4))))) (.int 2)))<=6:=by
 have h:ga (E.L ρ l) (E.I ρ n).toNat=true:=h;simp only[ga]at h;have e:=adu h0 4
 show(((E.L ρ l).getD (E.I ρ _).toNat _).toL.length/2:Int)<=6
 grind
end
end Go.SX

set_option linter.unusedVariables false
set_option linter.unusedSectionVars false
namespace Go.SX
/-! ### the paid board's numbers and objects (218, 219) -/
section
variable {ρ:Env} {x y l A a b k u i j p q n m r o c d w v X Y T N L e t C z c0 c1 c2 c3 m0 m1 m2 m3:E}
end
end Go.SX

set_option linter.unusedVariables false
set_option linter.unusedSectionVars false
namespace Go.SX
/-! ### what is tapped are objects -/
/-! ### objects are tapped one by one -/
section
variable {ρ:Env} {x y l A a b k u i j p q n m r o c d w v X Y T N L e t C z J c0 c1 c2 c3 m0 m1 m2 m3:E}
theorem aIX(h:E.B ρ (.fn 187 (.pr (.fn 28 (.pr z x)) b))=true)(g:E.B ρ (.fn 190 b)=true):E.B ρ (.fn 195 (.fn 28 (.pr z x)))=true:=by
 have h:fw (E.L ρ x) (E.L ρ b)=true:=h;show E.B ρ (.fn 190 x)=true
 rw[Ap]at g ⊢
 rw[gO]at h
 intro i hi h5;have hq:=je i h.2;grind[aez]
end
end Go.SX

set_option linter.unusedVariables false
set_option linter.unusedSectionVars false
namespace Go.SX
/-! ### an owned paid board against the reference's -/
theorem yC{a b c:List U}(h:U.eqs a b=true)(g:U.eqs b c=true):U.eqs a c=true:=
 U.eq_trans (.lst a) (.lst b) (.lst c) h g
theorem KB{a b:List U}(h:U.eqs a b=true):U.eqs b a=true:=U.eq_symm (.lst a) (.lst b) h
section
variable {ρ:Env} {x y l A a b k u i j p q n m r o c d w v X Y W R T N L e t C z c0 c1 c2 c3:E}
/-- a row whose slices are slices -/
def zW:E->Bool
  |.fn 28 _=>true
  |.fn 30 _=>true
  |_=>false
theorem aex{e:E}(h:zW e=true):ep (e.den ρ)=true:=by
 unfold zW at h;split at h
 ·rfl
 ·rfl
 ·cases h
theorem aff{cs:List E}(hl:cs.length=38)(h:([0,6,7,8,9,20,21,22,23,29,30,31,32].all fun j=>zW (cs.getD j (.int 0)))=true)(h29:E.B ρ (.fn 190 (cs.getD 29 (.int 0)))=true)(h30:E.B ρ (.fn 190 (cs.getD 30 (.int 0)))=true):E.B ρ (.fn 116 (cU cs))=true:=by
 rw[wv]
 have lenm:∀cs,((cU cs).den ρ).toL.length=cs.length:=by
  intro cs;induction cs with
  |nil=>rfl
  |cons c cs ih=>show(((cU cs).den ρ).toL.length+1)=_;simp_all
 refine⟨by simp_all,fun j hj=>?_,?_,?_⟩
 ·have hj38:j<38:=by
   simp only[List.mem_cons,List.not_mem_nil,or_false]at hj;omega
  grind[kU,aex]
 ·rw[kU cs 29 (by omega)];exact h29
 ·rw[kU cs 30 (by omega)];exact h30
theorem s9{a b:List U}(h:fw a b=true)(n:Nat)(hn:n<=b.length/5):ga a n=ga b n:=by
 rw[gO]at h
 refine xU fun i hi=>?_
 have e:=je (i*5+4) h.2;grind[gI,pF]
theorem aIt(h:E.B ρ (.fn 189 (.pr W R))=true)(hs:E.B ρ (.fn 117 W)=true):E.B ρ (.fn 117 R)=true:=by
 rw[o8]at h
 have hs:iE _=true:=hs;show iE _=true;have ls:∀j,[0,6,7,8,9,20,21,22,23,31,32].contains j=true->j<38->U.eqs (cX (W.den ρ) j).toL (cX (R.den ρ) j).toL=true:=fun j hj h38=>by
  grind[FN,pF]
 have it:∀j,(j==29||j==30)=true->j<38->fw (cX (W.den ρ) j).toL (cX (R.den ρ) j).toL=true:=fun j hj h38=>by
  grind[gZ]
 have hz:∀k,k<8->bh _ k=bh _ k:=fun k hk=>yB (ls _ (by
  have:k=0\/k=1\/k=2\/k=3\/k=4\/k=5\/k=6\/k=7:=by omega
  rcases this with rfl|rfl|rfl|rfl|rfl|rfl|rfl|rfl<;>rfl) (by omega))
 have e29:=it 29 (by rfl) (by decide);have e30:=it 30 (by rfl) (by decide);have n29:=((gO _ _).1 e29).1;have n30:=((gO _ _).1 e30).1;have ea:aC _=aC _:=yB (ls 31 (by rfl) (by decide));have eb:bc (W.den ρ)=bc (R.den ρ):=by
  have:=gI (ls 32 (by rfl) (by decide))
  simp_all[bc]
 have eo:aK (W.den ρ)=aK (R.den ρ):=by
  grind[gI,aK]
 have es:b8 _=b8 _:=n29;have ezz:((List.range 8).all fun z=>decide ((bh (W.den ρ) z).length<=40))=(List.range 8).all fun z=>decide ((bh (R.den ρ) z).length<=40):=xU fun k hk=>by simp_all
 unfold iE at hs ⊢
 rw[<- ezz,<- ea,<- eb,<- eo,<- es,<- n30]
 rw[<- s9 e29 _ (by rw[es];exact Nat.le_refl _),<- s9 e30 _ (by omega)]
 omega
/-- items' targets are Dn in a copy -/
theorem afo(h:E.B ρ (.fn 187 (.pr l b))=true)(g:E.B ρ (.fn 158 (.pr b (.fn 9 (.pr b (.int 5)))))=true)(e:E.I ρ n=E.I ρ (.fn 9 (.pr b (.int 5)))):E.B ρ (.fn 158 (.pr l n))=true:=by
  rw[qI]at h
  have en:(E.I ρ (.fn 9 (.pr b (.int 5)))).toNat=(E.L ρ b).length/5:=rfl;show ga (E.L ρ l) (E.I ρ n).toNat=true
  rw[e,en]at *
  rw[s9 h _ (Nat.le_refl _)]
  exact g
end
end Go.SX

set_option linter.unusedVariables false
set_option linter.unusedSectionVars false
namespace Go.SX
/-! ### gives: an owned board by its numbers and lists (221) -/
theorem yU{j i:Nat}(hj:j<38)(h:g9.idxOf? j=some i):(j,i)∈[(0,0),(6,1),(7,2),(8,3),(9,4),(20,5),(21,6),(22,7),(23,8),(29,9),(30,10),(31,11),(32,12)]:=by
 have:∀j,j<38->(match g9.idxOf? j with | some i=>[(0,0),(6,1),(7,2),(8,3),(9,4),(20,5),(21,6),(22,7),(23,8),(29,9),(30,10),(31,11),(32,12)].contains (j,i) | none=>true)=true:=by decide
 grind
theorem aa1{j:Nat}(hj:j<38)(h:g9.idxOf? j=none):(decide (fL.idxOf j<25)&&(fL.getD (fL.idxOf j) 0==j))=true/\(decide (j<38) && !([0,6,7,8,9,20,21,22,23,29,30,31,32].contains j))=true:=by
 have:∀j,j<38->(match g9.idxOf? j with | some i=>true | none=>(decide (fL.idxOf j<25)&&(fL.getD (fL.idxOf j) 0==j))&&(decide (j<38) && !([0,6,7,8,9,20,21,22,23,29,30,31,32].contains j)))=true:=by decide
 grind
section
variable {ρ:Env} {x y l A a b k u i j p q n m r o c d w v X Y W R T N L e t C z c0 c1 c2 c3 l0 l1 l2 l3 l4 l5 l6 l7 l8 l9 l10 l11 l12:E}
noncomputable def C1(W Y l0 l1 l2 l3 l4 l5 l6 l7 l8 l9 l10 l11 l12:E):E:=.fn 221 (.pr W (.pr Y (.pr l0 (.pr l1 (.pr l2 (.pr l3 (.pr l4 (.pr l5 (.pr l6 (.pr l7 (.pr l8 (.pr l9 (.pr l10 (.pr l11 (.pr l12 (.int 0))))))))))))))))
theorem aJ9(h:E.B ρ (C1 W Y l0 l1 l2 l3 l4 l5 l6 l7 l8 l9 l10 l11 l12)=true):oZ (W.den ρ) (Y.den ρ) (fun i=>([l0,l1,l2,l3,l4,l5,l6,l7,l8,l9,l10,l11,l12].getD i (.int 0)).den ρ)=true:=by
 have h:oZ (W.den ρ) (Y.den ρ) _=true:=h;unfold oZ at h ⊢
 rw[List.all_eq_true]at h ⊢
 intro j hj;have hh:=h j hj;have hj:=List.mem_range.1 hj;cases e:g9.idxOf? j with
 |none=>simp_all
 |some i=>
  have:=yU hj e
  simp only[List.mem_cons,List.not_mem_nil,or_false]at this;rcases this with⟨rfl,rfl⟩|⟨rfl,rfl⟩|⟨rfl,rfl⟩|⟨rfl,rfl⟩|⟨rfl,rfl⟩|⟨rfl,rfl⟩|⟨rfl,rfl⟩|⟨rfl,rfl⟩|⟨rfl,rfl⟩|⟨rfl,rfl⟩|⟨rfl,rfl⟩|⟨rfl,rfl⟩|⟨rfl,rfl⟩<;>exact hh
theorem aKa(h:oZ (W.den ρ) (Y.den ρ) (fun i=>([l0,l1,l2,l3,l4,l5,l6,l7,l8,l9,l10,l11,l12].getD i (.int 0)).den ρ)=true):E.B ρ (C1 W Y l0 l1 l2 l3 l4 l5 l6 l7 l8 l9 l10 l11 l12)=true:=by
 show oZ (W.den ρ) (Y.den ρ) _=true;unfold oZ at h ⊢
 rw[List.all_eq_true]at h ⊢
 intro j hj;have hh:=h j hj;have hj:=List.mem_range.1 hj;cases e:g9.idxOf? j with
 |none=>simp_all
 |some i=>
  have:=yU hj e
  simp only[List.mem_cons,List.not_mem_nil,or_false]at this;rcases this with⟨rfl,rfl⟩|⟨rfl,rfl⟩|⟨rfl,rfl⟩|⟨rfl,rfl⟩|⟨rfl,rfl⟩|⟨rfl,rfl⟩|⟨rfl,rfl⟩|⟨rfl,rfl⟩|⟨rfl,rfl⟩|⟨rfl,rfl⟩|⟨rfl,rfl⟩|⟨rfl,rfl⟩|⟨rfl,rfl⟩<;>exact hh
/-- what is lent of it, as a row -/
noncomputable def vU(zs ls:List E)(Y:E):E:=cU ((List.range 38).map fun j=>match g9.idxOf? j with
  |some i=> .fn 28 (.pr (zs.getD i (.int 0)) (ls.getD i (.int 0)))
  |none=> .fn 1 (.pr Y (.int (Int.ofNat (fL.idxOf j)))))
theorem aFR(zs ls:List E)(j:Nat)(hj:j<38):cX ((vU zs ls Y).den ρ) j=(match g9.idxOf? j with
 |some i=>E.fn 28 (.pr (zs.getD i (.int 0)) (ls.getD i (.int 0)))
 |none=>E.fn 1 (.pr Y (.int (Int.ofNat (fL.idxOf j))))).den ρ:=by
 have:=kU (ρ:=ρ) ((List.range 38).map fun j=>match g9.idxOf? j with
  |some i=>E.fn 28 (.pr (zs.getD i (.int 0)) (ls.getD i (.int 0)))
  |none=>E.fn 1 (.pr Y (.int (Int.ofNat (fL.idxOf j))))) j (by simp_all)
 refine Eq.trans this ?_;simp_all
theorem afv(zs:List E)(h:E.B ρ (C1 W Y l0 l1 l2 l3 l4 l5 l6 l7 l8 l9 l10 l11 l12)=true)(hW:E.B ρ (.fn 116 W)=true):E.B ρ (.fn 189 (.pr W (vU zs [l0,l1,l2,l3,l4,l5,l6,l7,l8,l9,l10,l11,l12] Y)))=true:=by
 have h:=aJ9 h
 rw[wv]at hW
 rw[o8]
 intro j hj;unfold oZ at h
 rw[List.all_eq_true]at h
 have hh:=h j (List.mem_range.2 hj)
 rw[aFR zs _ j hj]
 cases e:g9.idxOf? j with
 |none=>
  simp only[e]at hh ⊢;exact hh
 |some i=>
  simp only[e]at hh ⊢;have t:=yU hj e;by_cases h9:(j==29||j==30)=true
  ·rw[if_pos h9]at hh
   unfold gZ
   rw[if_pos h9]
   exact hh
  ·rw[if_neg h9]at hh
   have hc:[0,6,7,8,9,20,21,22,23,31,32].contains j=true/\j∈[0,6,7,8,9,20,21,22,23,29,30,31,32]:=by
    simp only[List.mem_cons,List.not_mem_nil,or_false]at t;rcases t with⟨rfl,rfl⟩|⟨rfl,rfl⟩|⟨rfl,rfl⟩|⟨rfl,rfl⟩|⟨rfl,rfl⟩|⟨rfl,rfl⟩|⟨rfl,rfl⟩|⟨rfl,rfl⟩|⟨rfl,rfl⟩|⟨rfl,rfl⟩|⟨rfl,rfl⟩|⟨rfl,rfl⟩|⟨rfl,rfl⟩<;>simp at h9 ⊢
   rw[FN hc.1]
   exact Dj hh (hW.2.1 j hc.2) rfl
theorem aIs(zs:List E)(h9:E.B ρ (.fn 190 l9)=true)(h10:E.B ρ (.fn 190 l10)=true):E.B ρ (.fn 116 (vU zs [l0,l1,l2,l3,l4,l5,l6,l7,l8,l9,l10,l11,l12] Y))=true:=
 aff rfl rfl h9 h10
/-! zero boards -/
def zE:E->Bool
 |.fn 28 (.pr _ (.fn 10 _))=>true
 |.fn 30 (.int _)=>true
 |.int 0=>true
 |.bool false=>true
 |_=>false
theorem aKc{e:E}(h:zE e=true):(e.den ρ).toL=[]/\(e.den ρ).toI=0/\(e.den ρ).toB=false:=by
 unfold zE at h;split at h
 ·exact⟨rfl,rfl,rfl⟩
 ·exact⟨rfl,rfl,rfl⟩
 ·exact⟨rfl,rfl,rfl⟩
 ·exact⟨rfl,rfl,rfl⟩
 ·cases h
theorem On{cs:List E}(h:cs.all zE=true)(j:Nat):(cX ((cU cs).den ρ) j).toL=[]/\(cX ((cU cs).den ρ) j).toI=0/\(cX ((cU cs).den ρ) j).toB=false:=by
 have lenm:∀cs,((cU cs).den ρ).toL.length=cs.length:=by
  intro cs;induction cs with
  |nil=>rfl
  |cons c cs ih=>show(((cU cs).den ρ).toL.length+1)=_;simp_all
 by_cases hj:j<cs.length
 ·simp_all[kU,aKc]
 ·unfold cX
  rw[aDs _ (by simp_all)]
  exact⟨rfl,rfl,rfl⟩
theorem aIu{cs:List E}(h:cs.all zE=true):E.B ρ (.fn 117 (cU cs))=true:=by
 show iE _=true;have h0:=fun j=>(On (ρ:=ρ) h j).1
 have hz:∀k,bh ((cU cs).den ρ) k=[]:=fun k=>by simp_all[bh,bA]
 simp_all[iE,b8,aK,bc,aC,bA,ga]
theorem aIW{cs ds:List E}(h:cs.all zE=true)(h':ds.all zE=true)(hl:cs.length=38)(hl':ds.length=38)(hs:([0,6,7,8,9,20,21,22,23,31,32].all fun j=>zW (cs.getD j (.int 0)))=true)(hs':([0,6,7,8,9,20,21,22,23,31,32].all fun j=>zW (ds.getD j (.int 0)))=true):
  E.B ρ (.fn 189 (.pr (cU cs) (cU ds)))=true:=by
 rw[o8]
 intro j hj;have a:=On (ρ:=ρ) h j;have b:=On (ρ:=ρ) h' j;unfold gZ;split
 ·rw[a.1,b.1];rfl
 ·split
  ·refine Dj (by rw[a.1,b.1];rfl) ?_ ?_;all_goals grind[kU,aex]
  simp_all
end
end Go.SX

set_option linter.unusedVariables false
set_option linter.unusedSectionVars false
namespace Go.SX
/-! ### combat: keywords and creatures -/
section
variable {ρ:Env} {x y l A a b k u i j p q n m r o c d w v X Y T N L e t C z:E}
theorem Qo:E.I ρ (.ar .and .i64 a b)=Cy (E.I ρ a) (E.I ρ b):=rfl
theorem agd:(E.B ρ (.fn 222 (.pr l (.pr c k)))=true)=(Cy (eO (E.L ρ l) (E.I ρ c) 10) (E.I ρ k)=E.I ρ k):=by
 show((Cy _ _==_)=true)=_
 rw[beq_iff_eq];rfl
theorem aCk(j:Nat)(h0:0<=E.I ρ c)(h1:E.I ρ c<E.I ρ (.fn 9 (.pr l (.int 14)))):eO (E.L ρ l) (E.I ρ c) j=E.I ρ (.fn 1 (.pr l (.fn 6 (.pr (.fn 8 (.pr c (.int (Int.ofNat 14)))) (.int (Int.ofNat j)))))):=by
 rw[me c 14 j h0]
 have e:E.I ρ (.fn 9 (.pr l (.int 14)))=(((E.L ρ l).length/14:Nat):Int):=rfl;unfold eO
 rw[if_pos ⟨h0,by omega⟩]
theorem aCl(j:Nat)(h:E.I ρ c<0\/¬E.I ρ c<E.I ρ (.fn 9 (.pr l (.int 14)))):eO (E.L ρ l) (E.I ρ c) j=0:=by
 have e:E.I ρ (.fn 9 (.pr l (.int 14)))=(((E.L ρ l).length/14:Nat):Int):=rfl;unfold eO
 rw[if_neg (by omega)]
theorem aa2{f g:E}(h:(E.B ρ f=true)=(E.B ρ g=true)):E.B ρ (.iff f g)=true:=by
 rw[lY];exact iff_of_eq h
theorem cV:(E.B ρ (.cmp .eql a b)=true)=(E.I ρ a=E.I ρ b):=by
 rw[aeI]
theorem aDJ(h0:0<=E.I ρ c)(h1:E.I ρ c<E.I ρ (.fn 9 (.pr l (.int 14)))):E.B ρ (.iff (.cmp .eql (.ar .and .i64 (.fn 1 (.pr l (.fn 6 (.pr (.fn 8 (.pr c (.int 14))) (.int 10))))) k) k) (.fn 222 (.pr l (.pr c k))))=true:=by
 refine aa2 ?_
 rw[cV,agd,Qo,aCk 10 h0 h1]
 rfl
theorem aaR(h:E.I ρ c<0\/¬E.I ρ c<E.I ρ (.fn 9 (.pr l (.int 14)))):E.B ρ (.iff (.cmp .eql (.ar .and .i64 (.int 0) k) k) (.fn 222 (.pr l (.pr c k))))=true:=by
 refine aa2 ?_
 rw[cV,agd,Qo,aCl 10 h]
 rfl
/-! a search by halves among objects -/
theorem Ar:(E.B ρ (.fn 226 (.pr l (.pr x (.pr i j))))=true)=(∀q,q<(E.L ρ l).length/12->((E.I ρ i).toNat<=q\/nI (E.L ρ l) (q*12)<E.I ρ x)/\(q<(E.I ρ j).toNat\/E.I ρ x<=nI (E.L ρ l) (q*12))):=by
 show(((List.range _).all fun q=>(decide ((E.I ρ i).toNat<=q)||decide (nI (E.L ρ l) (q*12)<E.I ρ x))&&(decide (q<(E.I ρ j).toNat)||decide (E.I ρ x<=nI (E.L ρ l) (q*12))))=true)=_
 simp only[List.all_eq_true,List.mem_range,Bool.and_eq_true,Bool.or_eq_true,decide_eq_true_eq];rfl
theorem Ol:(E.B ρ (.fn 228 l)=true)=(∀q,q<(E.L ρ l).length/12->(1<=nI (E.L ρ l) (q*12)/\nI (E.L ρ l) (q*12)<=500)/\((E.L ρ l).length/12<=q+1\/nI (E.L ρ l) (q*12)<nI (E.L ρ l) ((q+1)*12))):=by
 show(((List.range _).all fun q=>decide (1<=nI (E.L ρ l) (q*12))&&decide (nI (E.L ρ l) (q*12)<=500)&&(decide ((E.L ρ l).length/12<=q+1)||decide (nI (E.L ρ l) (q*12)<nI (E.L ρ l) ((q+1)*12))))=true)=_
 simp only[List.all_eq_true,List.mem_range,Bool.and_eq_true,Bool.or_eq_true,decide_eq_true_eq];rfl
theorem zU:E.I ρ (.fn 9 (.pr l (.int 12)))=(((E.L ρ l).length/12:Nat):Int):=rfl
theorem aaV(h:E.B ρ (.fn 228 l)=true):∀d q,q+d<(E.L ρ l).length/12->nI (E.L ρ l) (q*12)+d<=nI (E.L ρ l) ((q+d)*12):=by
 rw[Ol]at h
 intro d;induction d with
 |zero=>intro q _;simp
 |succ d ih=>
  intro q hq;have a:=ih q (by omega);have b:=(h (q+d) (by omega)).2
  rw[show q+(d+1)=q+d+1 by omega]
  omega
theorem Lp(h:E.B ρ (.fn 228 l)=true){q r:Nat}(hq:q<=r)(hr:r<(E.L ρ l).length/12):nI (E.L ρ l) (q*12)<=nI (E.L ρ l) (r*12):=by
 have:=aaV h (r-q) q (by omega)
 rw[show q+(r-q)=r by omega]at this
 omega
theorem DN(h0:0<=E.I ρ i):E.I ρ (.fn 1 (.pr l (.fn 6 (.pr (.fn 8 (.pr i (.int 12))) (.int 0)))))=nI (E.L ρ l) ((E.I ρ i).toNat*12):=by
 have:=me (T:=l) i 12 0 h0
 exact this
theorem Lo(h:E.B ρ (.fn 228 l)=true)(h0:0<=E.I ρ i)(h1:E.I ρ i<E.I ρ (.fn 9 (.pr l (.int 12)))):1<=E.I ρ (.fn 1 (.pr l (.fn 6 (.pr (.fn 8 (.pr i (.int 12))) (.int 0)))))/\E.I ρ (.fn 1 (.pr l (.fn 6 (.pr (.fn 8 (.pr i (.int 12))) (.int 0)))))<=500:=by
 rw[DN h0]
 rw[Ol]at h
 rw[zU]at h1
 exact(h _ (by omega)).1
theorem aI6(hi:E.I ρ i<=0)(hj:E.I ρ (.fn 9 (.pr l (.int 12)))<=E.I ρ j):E.B ρ (.fn 226 (.pr l (.pr x (.pr i j))))=true:=by
 rw[Ar]
 rw[zU]at hj
 intro q hq
 exact⟨.inl (by omega),.inl (by omega)⟩
theorem aI3(h:E.B ρ (.fn 226 (.pr l (.pr x (.pr i j))))=true)(e:E.I ρ n=E.I ρ j):E.B ρ (.fn 226 (.pr l (.pr x (.pr i n))))=true:=by
 rw[Ar]at *;rw[e];exact h
theorem aI4(hs:E.B ρ (.fn 228 l)=true)(h:E.B ρ (.fn 226 (.pr l (.pr x (.pr i j))))=true)(h0:0<=E.I ρ m)(h1:E.I ρ m<E.I ρ (.fn 9 (.pr l (.int 12))))(hv:E.I ρ (.fn 1 (.pr l (.fn 6 (.pr (.fn 8 (.pr m (.int 12))) (.int 0)))))<E.I ρ x)(hk:E.I ρ k=E.I ρ m+1):
  E.B ρ (.fn 226 (.pr l (.pr x (.pr k j))))=true:=by
 rw[DN h0]at hv
 rw[zU]at h1
 rw[Ar]at *
 intro q hq
 refine⟨?_,(h q hq).2⟩
 by_cases c:q<=(E.I ρ m).toNat
 ·have:=Lp hs c (by omega)
  right;omega
 ·left;omega
theorem aI5(hs:E.B ρ (.fn 228 l)=true)(h:E.B ρ (.fn 226 (.pr l (.pr x (.pr i j))))=true)(h0:0<=E.I ρ m)(h1:E.I ρ m<E.I ρ (.fn 9 (.pr l (.int 12))))(hv:¬E.I ρ (.fn 1 (.pr l (.fn 6 (.pr (.fn 8 (.pr m (.int 12))) (.int 0)))))<E.I ρ x):
  E.B ρ (.fn 226 (.pr l (.pr x (.pr i m))))=true:=by
 rw[DN h0]at hv
 rw[zU]at h1
 rw[Ar]at *
 intro q hq
 refine⟨(h q hq).1,?_⟩
 by_cases c:(E.I ρ m).toNat<=q
 ·have:=Lp hs c hq
  right;omega
 ·left;omega
/-- what is there is found -/
theorem aBK(hs:E.B ρ (.fn 228 (.fn 1 (.pr X (.int 0))))=true)(h:E.B ρ (.fn 226 (.pr (.fn 1 (.pr X (.int 0))) (.pr x (.pr i i))))=true)(h0:0<=E.I ρ i)(hx:0<=bC (X.den ρ) (E.I ρ x) (aK (X.den ρ))):
    E.I ρ i=bC (X.den ρ) (E.I ρ x) (aK (X.den ρ))/\E.I ρ i<E.I ρ (.fn 9 (.pr (.fn 1 (.pr X (.int 0))) (.int 12)))/\E.I ρ (.fn 1 (.pr (.fn 1 (.pr X (.int 0))) (.fn 6 (.pr (.fn 8 (.pr i (.int 12))) (.int 0)))))=E.I ρ x:=by
  obtain⟨h1,h2⟩:=sy hx
  have en:(E.L ρ (.fn 1 (.pr X (.int 0)))).length/12=aK (X.den ρ):=rfl;have ei:∀q,nI (E.L ρ (.fn 1 (.pr X (.int 0)))) (q*12)=oI (X.den ρ) q 0:=fun q=>rfl
  rw[Ar]at h
  rw[zU,en,DN h0,ei]
  have a:=h (bC (X.den ρ) (E.I ρ x) (aK (X.den ρ))).toNat (by rw[en];exact h1)
  rw[ei,h2]at a
  have b:(E.I ρ i).toNat<=(bC (X.den ρ) (E.I ρ x) (aK (X.den ρ))).toNat:=by omega
  have c:=h (E.I ρ i).toNat (by rw[en];omega)
  rw[ei]at c
  have d:=Lp hs b (by rw[en];exact h1)
  rw[ei,ei,h2]at d
  have e:oI (X.den ρ) (E.I ρ i).toNat 0=E.I ρ x:=by omega
  have f:=aaV hs ((bC (X.den ρ) (E.I ρ x) (aK (X.den ρ))).toNat-(E.I ρ i).toNat) (E.I ρ i).toNat (by rw[en];omega)
  rw[show(E.I ρ i).toNat+((bC (X.den ρ) (E.I ρ x) (aK (X.den ρ))).toNat-(E.I ρ i).toNat)=(bC (X.den ρ) (E.I ρ x) (aK (X.den ρ))).toNat by omega,ei,ei,h2,e]at f
  refine⟨by omega,by omega,e⟩
end
end Go.SX

set_option linter.unusedVariables false
set_option linter.unusedSectionVars false
set_option linter.unusedSimpArgs false
namespace Go.SX
/-! ### combat: an object's place; blocks in a list -/
section
variable {ρ:Env} {x y l A a b k u i j p q n m r o c d w v X Y T N L e t C z:E}
theorem afe(h:E.B ρ (.fn 115 X)=true):dI (X.den ρ)=true:=by
 rw[cH]at h
 exact(tn (X:=X)).mp h.2.2.2.2.2.2.2.2.2.2.2.2.2.2.2.2.2.2.2.2.2.2.2.2.2.2.2.2.2.2.2.2.2.2.2.2.2.2.2.2.2.2.2.1
theorem afy(h:E.B ρ (.fn 115 X)=true):E.B ρ (.fn 228 (.fn 1 (.pr X (.int 0))))=true:=by
 have ho:=(mT _ _).1 (vI (afe h))
 rw[Ol]
 intro q hq;have en:(E.L ρ (.fn 1 (.pr X (.int 0)))).length/12=aK (X.den ρ):=rfl;have ei:∀q,nI (E.L ρ (.fn 1 (.pr X (.int 0)))) (q*12)=oI (X.den ρ) q 0:=fun q=>rfl
 rw[en]at hq ⊢
 rw[ei,ei]
 have a:=(qh _ _).1 (ho q hq).1
 refine⟨⟨a.1,a.2.1⟩,?_⟩
 by_cases c:q+1<aK (X.den ρ)
 ·have b:=(ho (q+1) c).2.1;right;rcases b with b|b
  ·omega
  ·exact b
 ·left;omega
theorem afi(h:E.B ρ (.fn 115 X)=true)(hx:¬E.I ρ (.fn 120 (.pr X (.pr x (.fn 9 (.pr (.fn 1 (.pr X (.int 0))) (.int 12))))))<0):1<=E.I ρ x/\E.I ρ x<=500:=by
 have ho:=(mT _ _).1 (vI (afe h));have e:E.I ρ (.fn 120 (.pr X (.pr x (.fn 9 (.pr (.fn 1 (.pr X (.int 0))) (.int 12))))))=bC (X.den ρ) (E.I ρ x) (aK (X.den ρ)):=rfl
 rw[e]at hx
 obtain⟨h1,h2⟩:=sy (by omega:0<=bC (X.den ρ) (E.I ρ x) (aK (X.den ρ)))
 have a:=(qh _ _).1 (ho _ h1).1
 rw[h2]at a
 exact⟨a.1,a.2.1⟩
theorem NL(h:E.B ρ (.fn 115 X)=true)(hb:E.B ρ (.fn 226 (.pr (.fn 1 (.pr X (.int 0))) (.pr x (.pr i i))))=true)(h0:0<=E.I ρ i)(hx:¬E.I ρ (.fn 120 (.pr X (.pr x (.fn 9 (.pr (.fn 1 (.pr X (.int 0))) (.int 12))))))<0):
  E.I ρ i=E.I ρ (.fn 120 (.pr X (.pr x (.fn 9 (.pr (.fn 1 (.pr X (.int 0))) (.int 12))))))/\E.I ρ i<E.I ρ (.fn 9 (.pr (.fn 1 (.pr X (.int 0))) (.int 12)))/\E.I ρ (.fn 1 (.pr (.fn 1 (.pr X (.int 0))) (.fn 6 (.pr (.fn 8 (.pr i (.int 12))) (.int 0)))))=E.I ρ x:=
 aBK (afy h) hb h0 (by
  have e:E.I ρ (.fn 120 (.pr X (.pr x (.fn 9 (.pr (.fn 1 (.pr X (.int 0))) (.int 12))))))=bC (X.den ρ) (E.I ρ x) (aK (X.den ρ)):=rfl;omega)
/-! blocks -/
theorem aBw{P:Nat->Bool}{n:Nat}:(¬((List.range n).any P=true))=(∀q,q<n->¬P q=true):=by
 rw[List.any_eq_true]
 apply propext;constructor
 ·intro h q hq hp;exact h ⟨q,List.mem_range.2 hq,hp⟩
 ·rintro h ⟨q,hq,hp⟩
  exact h q (List.mem_range.1 hq) hp
theorem age:(¬E.B ρ (.fn 230 (.pr l (.pr x i)))=true)=(∀q,q<(E.I ρ i).toNat->¬nI (E.L ρ l) (q*2+1)=E.I ρ x):=by
 show(¬((List.range (E.I ρ i).toNat).any fun q=>nI (E.L ρ l) (q*2+1)==E.I ρ x)=true)=_
 rw[aBw]
 simp only[beq_iff_eq]
theorem aI8(h:E.I ρ i<=0):¬E.B ρ (.fn 230 (.pr l (.pr x i)))=true:=by
 rw[age];intro q hq;omega
theorem aI7(h:¬E.B ρ (.fn 230 (.pr l (.pr x i)))=true)(h0:0<=E.I ρ i)(hn:E.I ρ n=E.I ρ i+1)(hc:¬E.I ρ (.fn 1 (.pr l (.fn 6 (.pr (.fn 8 (.pr i (.int 2))) (.int 1)))))=E.I ρ x):¬E.B ρ (.fn 230 (.pr l (.pr x n)))=true:=by
 have e1:=me (T:=l) i 2 1 h0
 rw[show E.I ρ (.fn 1 (.pr l (.fn 6 (.pr (.fn 8 (.pr i (.int 2))) (.int 1)))))=_ from e1]at hc
 rw[age]at *
 intro q hq;by_cases c:q<(E.I ρ i).toNat
 ·exact h q c
 ·rw[show q=(E.I ρ i).toNat by omega];exact hc
end
end Go.SX

set_option linter.unusedVariables false
set_option linter.unusedSectionVars false
set_option linter.unusedSimpArgs false
namespace Go.SX
/-! ### combat: a player's creatures -/
section
variable {ρ:Env} {x y l A a b k u i j p q n m r o c d w v X Y T N L e t C z:E}
/-! the reference's -/
end
end Go.SX

set_option linter.unusedVariables false
set_option linter.unusedSectionVars false
set_option linter.unusedSimpArgs false
namespace Go.SX
/-! ### combat: the blocks that may be made -/
section
variable {ρ:Env} {x y l A B a b k u i j p q n m r o c d w v X Y T N L e t C z:E}
theorem aJD(B:List Int)(n:Nat)(h:n<B.length):B.take (n+1)=B.take n++[B.getD n 0]:=by
 rw[List.take_add_one]
 simp[List.getD_eq_getElem?_getD,h]
end
end Go.SX

set_option linter.unusedVariables false
set_option linter.unusedSectionVars false
set_option linter.unusedSimpArgs false
namespace Go.SX
/-! ### combat: creatures and attackers are found; the final list -/
section
variable {ρ:Env} {x y l A B a b k u i j p q n m r o c d w v X Y T N L e t C z:E}
theorem jC(h:E.B ρ (.fn 115 X)=true):0<=E.I ρ (.fn 1 (.pr X (.int 34)))/\E.I ρ (.fn 1 (.pr X (.int 34)))<=1:=by
 rw[cH]at h
 exact⟨h.1,h.2.1⟩
end
end Go.SX

set_option linter.unusedVariables false
set_option linter.unusedSectionVars false
set_option linter.unusedSimpArgs false
namespace Go.SX
/-! ### combat: a block is made -/
theorem aC7{a b:U}(h:U.eq a b=true)(g:ep b=true):ep a=true:=by
 cases a<;>cases b<;>simp_all[U.eq,ep]
section
variable {ρ:Env} {x y l A B a b k u i j p q n m r o c d w v X Y W R T N L e t C z l0 l1 l2 l3 l4 l5 l6 l7 l8 l9 l10 l11 l12:E}
theorem dV:E.I ρ (.fn 9 (.pr l (.int 1)))=E.I ρ (.fn 0 l):=by
 show(((E.L ρ l).length/1:Nat):Int)=((E.L ρ l).length:Int)
 rw[Nat.div_one]
/-! the reference's blocks -/
end
end Go.SX

set_option linter.unusedVariables false
set_option linter.unusedSectionVars false
set_option linter.unusedSimpArgs false
namespace Go.SX
/-! ### combat: the creatures that may attack -/
theorem aJC{l:List Int}{i:Nat}(h:i<l.length):l.take (i+1)=l.take i++[l.getD i 0]:=aJD l i h
section
variable {ρ:Env} {x y l A B a b k u i j p q n m r o c d w v X Y W R T N L e t C z:E}
end
end Go.SX

set_option linter.unusedVariables false
set_option linter.unusedSectionVars false
set_option linter.unusedSimpArgs false
namespace Go.SX
/-! ### combat: an attack -/
theorem aDM{X Y:U}(h:U.eqs (cX Y 0).toL (cX X 0).toL=true)(k:Int)(n:Nat):bC Y k n=bC X k n:=by
 have e:∀i,oI Y i 0=oI X i 0:=fun i=>jF (je (i*12+0) h)
 unfold bC;simp only[e]
theorem KA:∀ {l m:List U} {a b:U} (k:Nat),U.eqs l m=true->U.eq a b=true->U.eqs (l.set k a) (m.set k b)=true
 |[],[],_,_,_,_,_=>rfl
 |[],_::_,_,_,_,h,_=>by simp[U.eqs]at h
 |_::_,[],_,_,_,h,_=>by simp[U.eqs]at h
 |x::xs,y::ys,a,b,0,h,g=>by
  simp only[U.eqs,Bool.and_eq_true,List.set_cons_zero]at h ⊢
  exact⟨g,h.2⟩
 |x::xs,y::ys,a,b,k+1,h,g=>by
  simp only[U.eqs,Bool.and_eq_true,List.set_cons_succ]at h ⊢
  exact⟨h.1,KA k h.2 g⟩
theorem aew{m:List U}{k:Nat}{v:U}(h:m.getD k (.int 0)=v):m.set k v=m:=by
 by_cases hk:k<m.length
 ·rw[List.getD_eq_getElem?_getD,List.getElem?_eq_getElem hk]at h
  rw[<- h];exact List.set_getElem_self hk
 ·rw[List.set_eq_of_length_le (by omega)]
section
variable {ρ:Env} {x y l A B a b k u i j p q n m r o c d w v X Y W R T N L e t C z l0 l1 l2 l3 l4 l5 l6 l7 l8 l9 l10 l11 l12:E}
theorem aax{M:List U}{p q:Nat}{u:U}(h:p≠q):(M.set p u).getD q (.int 0)=M.getD q (.int 0):=by
 rw[List.getD_eq_getElem?_getD,List.getElem?_set_ne h,<- List.getD_eq_getElem?_getD]
end
end Go.SX

set_option linter.unusedVariables false
set_option linter.unusedSectionVars false
set_option linter.unusedSimpArgs false
namespace Go.SX
/-! ### combat: the board of an attack -/
section
variable {ρ:Env} {x y l A B a b k u i j p q n m r o c d w v X Y W R T N L e t C z z' z2 l0 l1 l2 l3 l4 l5 l6 l7 l8 l9 l10 l11 l12:E}
/-! the reference's attackers -/
end
end Go.SX

set_option linter.unusedVariables false
set_option linter.unusedSectionVars false
set_option linter.unusedSimpArgs false
namespace Go.SX
/-! ### damage: a board that is lent has the same lists, and the same numbers but for a life -/
def JO(j:Nat)(a b:U):Prop:=if j=1\/j=15 then True else if(j==29||j==30)=true then fw a.toL b.toL=true else if [0,6,7,8,9,20,21,22,23,31,32].contains j=true then U.eqs a.toL b.toL=true else a.toI=b.toI
def Yi(Y X:U):Prop:=∀j,j<38->JO j (cX Y j) (cX X j)
section
variable {X Y:U} (h:Yi Y X)
include h
theorem rO{j:Nat}(hj:j∈[0,6,7,8,9,20,21,22,23,31,32]):U.eqs (cX Y j).toL (cX X j).toL=true:=by
 simp only[List.mem_cons,List.not_mem_nil,or_false]at hj;have g:=h j (by omega);rcases hj with rfl|rfl|rfl|rfl|rfl|rfl|rfl|rfl|rfl|rfl|rfl<;>exact g
theorem gH{j:Nat}(hj:j∈[2,3,4,5,13,14,16,17,18,19,27,28,33,34,35,36,37]):iX Y j=iX X j:=by
 simp only[List.mem_cons,List.not_mem_nil,or_false]at hj;have g:=h j (by omega);rcases hj with rfl|rfl|rfl|rfl|rfl|rfl|rfl|rfl|rfl|rfl|rfl|rfl|rfl|rfl|rfl|rfl|rfl<;>exact g
theorem JQ{j:Nat}(hj:j=29\/j=30):fw (cX Y j).toL (cX X j).toL=true:=by
 have g:=h j (by omega);rcases hj with rfl|rfl<;>exact g
theorem Cp{k:Nat}(hk:k<8):bh Y k=bh X k:=by
 have:k=0\/k=1\/k=2\/k=3\/k=4\/k=5\/k=6\/k=7:=by omega
 rcases this with rfl|rfl|rfl|rfl|rfl|rfl|rfl|rfl<;>exact yB (rO h (by decide))
theorem aAT(i j:Nat):oI Y i j=oI X i j:=pG (rO h (by decide)) _
theorem JR:aK Y=aK X:=by grind[aK,gI,rO]
theorem xS{j:Nat}(hj:j=29\/j=30):(cX Y j).toL.length/5=(cX X j).toL.length/5/\∀i k,i<(cX X j).toL.length/5->k<5->U.eq ((cX Y j).toL.getD (i*5+k) (.int 0)) ((cX X j).toL.getD (i*5+k) (.int 0))=true:=by
 have:=JQ h hj
 rw[gO]at this
 refine⟨this.1,fun i k hi hk=>?_⟩
 have e:=je (i*5+k) this.2;grind
theorem xR:b8 Y=b8 X:=(xS h (.inl rfl)).1
theorem xT{i k:Nat}(hi:i<b8 X)(hk:k<5):nI (cX Y 29).toL (i*5+k)=nI (cX X 29).toL (i*5+k):=jF ((xS h (.inl rfl)).2 i k hi hk)
theorem aAX:hF Y (b8 X)=hF X (b8 X):=aDi fun i hi=>by grind[xT]
theorem Yl{j:Nat}(hj:j=29\/j=30)(q:Bool):pU (cX Y j).toL q ((cX X j).toL.length/5)=pU (cX X j).toL q ((cX X j).toL.length/5):=by
 refine xU fun i hi=>?_
 have g:=(xS h hj).2 i;have g0:=jF (g 0 hi (by omega));grind[nI,jF,aD6,pF]
theorem Yn{f g:Nat->Int×Int}(e:∀i,i<b8 X->f i=g i):(hF Y (b8 X)).map f=(hF X (b8 X)).map g:=by
 rw[aAX h]
 refine List.map_congr_left fun i hi=>e i ?_
 exact List.mem_range.1 (List.mem_filter.1 hi).1
theorem aAQ:dx Y=dx X:=by
 unfold dx fP k7 i4
 rw[xR h]
 congr 1
 ·grind[List.map_congr_left,Cp]
 ·exact Yn h fun i hi=>by
   have a:=xT h hi (k:=0) (by omega);grind[xT]
theorem aAW:hE Y (b8 X)=hE X (b8 X):=Yn h fun i hi=>by
 grind[xT]
theorem aAU:dI Y=dI X:=by
 unfold dI qi oO;simp only[aAQ h,JR h,xR h,aAW h,aAT h]
theorem Yj:bI Y=bI X:=by unfold bI;rw[gH h (by decide)]
theorem Yk:aC Y=aC X:=yB (rO h (by decide))
theorem aAR(i j:Nat):blk Y i j=blk X i j:=pG (rO h (by decide)) _
theorem Ym:bc Y=bc X:=by unfold bc;rw[gI (rO h (j:=32) (by decide))]
theorem aAS(ha:bI X<=1):gW Y=gW X:=by
 have eo:fZ Y=fZ X:=by grind[fZ,Yj,Cp]
 have et:fD Y=fD X:=by grind[fD,Yj,Cp]
 have eb:=funext fun i=>funext fun j=>aAR h i j
 unfold gW jE kw cT
 rw[Yk h,Ym h,eo,et,eb]
theorem aAY(hv:iI X=true)(h1:0<=iX Y 1/\iX Y 1<=9999)(h2:0<=iX Y 15/\iX Y 15<=9999):iI Y=true:=by
 unfold iI at hv ⊢;simp only[Bool.and_eq_true]at hv ⊢
 obtain⟨⟨⟨⟨⟨a,b⟩,c⟩,d⟩,e⟩,f⟩:=hv
 have e30:=(xS h (.inr rfl)).1
 refine⟨⟨⟨⟨⟨?_,?_⟩,?_⟩,?_⟩,by grind[aAU]⟩,?_⟩
 ·unfold oN at a ⊢
  rw[JR h,xR h,e30,gH h (j:=34) (by decide),gH h (j:=33) (by decide),gH h (j:=35) (by decide),gH h (j:=36) (by decide),gH h (j:=37) (by decide)]
  exact a
 ·unfold na at b ⊢;simp only[List.all_cons]at b ⊢
  rw[gH h (j:=2) (by decide),gH h (j:=3) (by decide),gH h (j:=4) (by decide),gH h (j:=5) (by decide),gH h (j:=13) (by decide),gH h (j:=14) (by decide)]
  simp_all[dG]
 ·unfold na at c ⊢;simp only[List.all_cons]at c ⊢
  rw[gH h (j:=2+14*1) (by decide),gH h (j:=3+14*1) (by decide),gH h (j:=4+14*1) (by decide),gH h (j:=5+14*1) (by decide),gH h (j:=13+14*1) (by decide),gH h (j:=14+14*1) (by decide)]
  simp_all[dG]
 ·unfold sC at d ⊢
  rw[xR h,e30,Yl h (.inr rfl),show b8 X=(cX X 29).toL.length/5 from rfl,Yl h (.inl rfl)]
  exact d
 ·rw[aAS h ?_];all_goals simp_all[oN,iu,bI]
theorem aAV(hv:iE X=true):iE Y=true:=by
 unfold iE at hv ⊢;have ezz:((List.range 8).all fun z=>decide ((bh Y z).length<=40))=(List.range 8).all _:=xU fun k hk=>by rw[Cp h hk]
 rw[ezz,xR h,JR h,Yk h,Ym h,(xS h (.inr rfl)).1,s9 (JQ h (.inl rfl)) _ (by exact Nat.le_refl _),s9 (JQ h (.inr rfl)) _ (Nat.le_refl _)]
 omega
end
section
variable {ρ:Env} {x y l A B a b k u i j p q n m r o c d w v X Y W R T N L e t C z z' z2 l0 l1 l2 l3 l4 l5 l6 l7 l8 l9 l10 l11 l12:E}
/-- an own board with the numbers of another one, but for a life -/
noncomputable def dc(zs ls:List E)(X:E)(P:Nat)(v:E):E:=cU ((List.range 38).map fun j=>match g9.idxOf? j with
  |some i=> .fn 28 (.pr (zs.getD i (.int 0)) (ls.getD i (.int 0)))
  |none=>if j=1+14*P then v else .fn 1 (.pr X (.int (Int.ofNat j))))
theorem aeg(zs ls:List E)(P j:Nat)(hj:j<38):cX ((dc zs ls X P v).den ρ) j=(match g9.idxOf? j with
 |some i=>E.fn 28 (.pr (zs.getD i (.int 0)) (ls.getD i (.int 0)))
 |none=>if j=1+14*P then v else E.fn 1 (.pr X (.int (Int.ofNat j)))).den ρ:=by
 have:=kU (ρ:=ρ) ((List.range 38).map fun j=>match g9.idxOf? j with
  |some i=>E.fn 28 (.pr (zs.getD i (.int 0)) (ls.getD i (.int 0)))
  |none=>if j=1+14*P then v else E.fn 1 (.pr X (.int (Int.ofNat j)))) j (by simp_all)
 refine Eq.trans this ?_;simp_all
/-- the lists of a board are those of another one -/
def vf(ρ:Env)(X l0 l1 l2 l3 l4 l5 l6 l7 l8 l9 l10 l11 l12:E):Prop:=
  E.B ρ (.fn 200 (.pr l0 (.fn 1 (.pr X (.int 0)))))=true/\E.B ρ (.fn 200 (.pr l1 (.fn 1 (.pr X (.int 6)))))=true/\E.B ρ (.fn 200 (.pr l2 (.fn 1 (.pr X (.int 7)))))=true/\E.B ρ (.fn 200 (.pr l3 (.fn 1 (.pr X (.int 8)))))=true/\E.B ρ (.fn 200 (.pr l4 (.fn 1 (.pr X (.int 9)))))=true/\
  E.B ρ (.fn 200 (.pr l5 (.fn 1 (.pr X (.int 20)))))=true/\E.B ρ (.fn 200 (.pr l6 (.fn 1 (.pr X (.int 21)))))=true/\E.B ρ (.fn 200 (.pr l7 (.fn 1 (.pr X (.int 22)))))=true/\E.B ρ (.fn 200 (.pr l8 (.fn 1 (.pr X (.int 23)))))=true/\
  E.B ρ (.fn 187 (.pr l9 (.fn 1 (.pr X (.int 29)))))=true/\E.B ρ (.fn 187 (.pr l10 (.fn 1 (.pr X (.int 30)))))=true/\E.B ρ (.fn 200 (.pr l11 (.fn 1 (.pr X (.int 31)))))=true/\E.B ρ (.fn 200 (.pr l12 (.fn 1 (.pr X (.int 32)))))=true
theorem JP{zs:List E}{P:Nat}(hP:P<=1)(h:vf ρ X l0 l1 l2 l3 l4 l5 l6 l7 l8 l9 l10 l11 l12):Yi ((dc zs [l0,l1,l2,l3,l4,l5,l6,l7,l8,l9,l10,l11,l12] X P v).den ρ) (X.den ρ):=by
 intro j hj
 rw[aeg zs _ P j hj]
 cases e:g9.idxOf? j with
 |none=>
  have t:=(aa1 hj e).2;simp only[Bool.and_eq_true,decide_eq_true_eq]at t;by_cases hj1:j=1+14*P
  ·grind[JO]
  ·unfold JO;have e:(E.fn 1 (.pr X (.int (Int.ofNat j)))).den ρ=cX (X.den ρ) j:=rfl;simp_all
 |some i=>
  have t:=yU hj e
  obtain⟨h0,h1,h2,h3,h4,h5,h6,h7,h8,h9,h10,h11,h12⟩:=h
  simp only[List.mem_cons,List.not_mem_nil,or_false]at t;rcases t with⟨rfl,rfl⟩|⟨rfl,rfl⟩|⟨rfl,rfl⟩|⟨rfl,rfl⟩|⟨rfl,rfl⟩|⟨rfl,rfl⟩|⟨rfl,rfl⟩|⟨rfl,rfl⟩|⟨rfl,rfl⟩|⟨rfl,rfl⟩|⟨rfl,rfl⟩|⟨rfl,rfl⟩|⟨rfl,rfl⟩
  ·exact h0
  ·exact h1
  ·exact h2
  ·exact h3
  ·exact h4
  ·exact h5
  ·exact h6
  ·exact h7
  ·exact h8
  ·exact h9
  ·exact h10
  ·exact h11
  ·exact h12
theorem Gi(zs:List E)(P:Nat)(h9:E.B ρ (.fn 190 l9)=true)(h10:E.B ρ (.fn 190 l10)=true):E.B ρ (.fn 116 (dc zs [l0,l1,l2,l3,l4,l5,l6,l7,l8,l9,l10,l11,l12] X P v))=true:=
 aff rfl rfl h9 h10
theorem Gj{zs:List E}{P:Nat}(hP:P<=1)(h:vf ρ X l0 l1 l2 l3 l4 l5 l6 l7 l8 l9 l10 l11 l12)(hs:E.B ρ (.fn 117 X)=true):E.B ρ (.fn 117 (dc zs [l0,l1,l2,l3,l4,l5,l6,l7,l8,l9,l10,l11,l12] X P v))=true:=
 aAV (JP hP h) hs
theorem kM(h:E.B ρ (.fn 115 X)=true):(0<=E.I ρ (.fn 1 (.pr X (.int 1)))/\E.I ρ (.fn 1 (.pr X (.int 1)))<=9999)/\(0<=E.I ρ (.fn 1 (.pr X (.int 15)))/\E.I ρ (.fn 1 (.pr X (.int 15)))<=9999):=by
 have h:iI _=true:=h;unfold iI at h;simp only[Bool.and_eq_true]at h
 obtain⟨⟨⟨⟨⟨_,b⟩,c⟩,_⟩,_⟩,_⟩:=h
 unfold na at b c;simp only[Bool.and_eq_true,iu]at b c
 exact⟨b.1.1.1,c.1.1.1⟩
theorem Gh{zs:List E}{P:Nat}(hP:P<=1)(h:vf ρ X l0 l1 l2 l3 l4 l5 l6 l7 l8 l9 l10 l11 l12)(hv:E.B ρ (.fn 115 X)=true)(h0:0<=E.I ρ v)(h1:E.I ρ v<=9999):E.B ρ (.fn 115 (dc zs [l0,l1,l2,l3,l4,l5,l6,l7,l8,l9,l10,l11,l12] X P v))=true:=by
 have lf:=kM hv;have c:∀j,j=1\/j=15->0<=iX ((dc zs [l0,l1,l2,l3,l4,l5,l6,l7,l8,l9,l10,l11,l12] X P v).den ρ) j/\iX ((dc zs [l0,l1,l2,l3,l4,l5,l6,l7,l8,l9,l10,l11,l12] X P v).den ρ) j<=9999:=by
  intro j hj;unfold iX
  rw[aeg zs _ P j (by omega)]
  have e:g9.idxOf? j=none:=by rcases hj with rfl|rfl<;>rfl
  simp only[e];split
  ·exact⟨h0,h1⟩
  ·rcases hj with rfl|rfl
   ·exact lf.1
   ·exact lf.2
 exact aAY (JP hP h) hv (c 1 (.inl rfl)) (c 15 (.inr rfl))
theorem qy{zs:List E}{P:Nat}(hP:P<=1)(h:vf ρ X l0 l1 l2 l3 l4 l5 l6 l7 l8 l9 l10 l11 l12):
  E.I ρ (.fn 120 (.pr (dc zs [l0,l1,l2,l3,l4,l5,l6,l7,l8,l9,l10,l11,l12] X P v) (.pr k (.fn 9 (.pr (.fn 28 (.pr z l0)) (.int 12))))))=E.I ρ (.fn 120 (.pr X (.pr k (.fn 9 (.pr (.fn 1 (.pr X (.int 0))) (.int 12)))))):=by
 have g:=rO (JP (zs:=zs) (v:=v) hP h) (j:=0) (by decide);have e1:E.I ρ (.fn 120 (.pr (dc zs _ X P v) (.pr k (.fn 9 (.pr (.fn 28 (.pr z l0)) (.int 12))))))=bC ((dc zs [l0,l1,l2,l3,l4,l5,l6,l7,l8,l9,l10,l11,l12] X P v).den ρ) (E.I ρ k) ((E.L ρ l0).length/12):=rfl;have e2:E.I ρ (.fn 120 (.pr X (.pr k (.fn 9 (.pr (.fn 1 (.pr X (.int 0))) (.int 12))))))=bC (X.den ρ) (E.I ρ k) ((cX (X.den ρ) 0).toL.length/12):=rfl;have h0:U.eqs (E.L ρ l0) (cX (X.den ρ) 0).toL=true:=h.1;grind[gI,aDM]
end
end Go.SX

set_option linter.unusedVariables false
set_option linter.unusedSectionVars false
set_option linter.unusedSimpArgs false
namespace Go.SX
/-! ### damage: the program's blows and the reference's are the same -/
theorem vJ(k k':Int)(v:Int×Bool):∀l,f6 k (s5 k' v l)=if k'=k then some v else f6 k l
 |[]=>by rfl
 |p::l=>by
  have:=vJ k k' v l
  grind[s5,f6]
/-- creatures that fight are of different ids -/
structure Fg (X:U):Prop where
  a:(aC X).Nodup
  b1:(cT X (bc X) 1).Nodup
  b0:(cT X (bc X) 0).Nodup
  ba:∀i,i<bc X->blk X i 1∈aC X
  ne:∀k,k∈aC X->∀j,j<bc X->k≠blk X j 0
  ai:∀k,k∈aC X->0<=bC X k (aK X)
  bi:∀i,i<bc X->0<=bC X (blk X i 0) (aK X)
  ap:∀k,k∈aC X->1<=k
  bp:∀i,i<bc X->1<=blk X i 0
  pl:dI X=true
theorem Dp{X:U}(hv:iI X=true):Fg X:=by
 have h0:=hv;unfold iI at h0;simp only[Bool.and_eq_true]at h0
 obtain⟨⟨⟨⟨⟨n,_⟩,_⟩,_⟩,hp⟩,hf⟩:=h0
 have ha:bI X<=1:=by
  simp_all[oN,iu,bI]
 obtain⟨f1,f2⟩:=(uH X).1 hf
 have g1:=(pw _ _).1 f1
 rw[List.take_length]at g1
 have g2:=(un _ _).1 f2;have own:∀k,k∈fZ X->∃i,i<aK X/\oI X i 0=k/\oI X i 2=bI X:=fun k hk=>by
  obtain⟨i,hi,e,e2⟩:=agp hp (z:=4*bI X+2) (by omega) hk
  grind
 have oth:∀k,k∈fD X->∃i,i<aK X/\oI X i 0=k/\oI X i 2=1-bI X:=fun k hk=>by
  obtain⟨i,hi,e,e2⟩:=agp hp (z:=4*(1-bI X)+2) (by omega) hk
  grind
 refine⟨g1.1,g2.1,g2.2.1,fun i hi=>(g2.2.2 i hi).1,fun k hk j hj e=>?_,fun k hk=>?_,fun i hi=>?_,fun k hk=>(E5 hp ha (g1.2 k hk)).1,fun i hi=>(MA hp (g2.2.2 i hi).2).1,hp⟩
 all_goals grind[DQ]
theorem rU{X:U}{n j:Nat}(h:(cT X n j).Nodup){a b:Nat}(ha:a<n)(hb:b<n)(e:blk X a j=blk X b j):a=b:=by
 grind[cT,List.pairwise_iff_getElem]
section
variable {X:U} (l:List U) (F:Fg X)
include F
theorem adR{n:Nat}{k:Int}(h:∀i,i<n->blk X i 1≠k/\blk X i 0≠k):f6 k (fX l X n)=none:=by
 induction n with
 |zero=>rfl
 |succ n ih=>
  have:=ih fun i hi=>h i (by omega)
  simp_all[fX,vJ]
theorem adQ{n i:Nat}(hn:n<=bc X)(hi:i<n):f6 (blk X i 1) (fX l X n)=some (lH l X (blk X i 0)):=by
 induction n with
 |zero=>omega
 |succ n ih=>
  simp only[fX,vJ];by_cases e:i=n
  ·simp_all
  ·have h1:=fun g=>e (rU F.b1 (by omega) (by omega) g).symm
   have h2:¬blk X n 0=blk X i 1:=fun g=>F.ne _ (F.ba i (by omega)) n (by omega) g.symm
   grind
theorem aFr{n i:Nat}(hn:n<=bc X)(hi:i<n):f6 (blk X i 0) (fX l X n)=some (lH l X (blk X i 1)):=by
 induction n with
 |zero=>omega
 |succ n ih=>
  simp only[fX,vJ];have h2:=fun g=>F.ne _ (F.ba n (by omega)) i (by omega) g
  by_cases e:i=n
  ·simp_all
  ·have h1:=fun g=>e (rU F.b0 (by omega) (by omega) g).symm
   grind
theorem CH{i:Nat}(hi:i<bc X):pz X (blk X i 1)=blk X i 0:=by
 unfold pz;cases e:(List.range _).find? _ with
 |none=>
  have:=List.find?_eq_none.1 e i (List.mem_range.2 hi)
  simp_all
 |some j=>
  have h2:=List.mem_range.1 (List.mem_of_find?_eq_some e)
  have:=rU F.b1 h2 hi (by simp_all)
  simp_all
theorem xY{k:Int}:pz X k=0↔∀i,i<bc X->blk X i 1≠k:=by
 constructor
 ·intro h i hi e
  have:=CH F hi
  rw[e,h]at this
  have:=F.bp i hi
  omega
 grind[pz]
theorem YM{k:Int}:pz X k=0↔¬(cT X (bc X) 1).contains k=true:=by
 simp_all[xY,cT]
/-- the blow that the reference deals to an object by its first n attackers -/
noncomputable def hR(l:List U)(X:U)(n:Nat)(k:Int):Option (Int×Bool):=by
  classical
  exact if h:∃i,i<bc X/\blk X i 1∈(aC X).take n/\(blk X i 1=k\/blk X i 0=k)then some (lH l X (if blk X h.choose 1=k then blk X h.choose 0 else blk X h.choose 1))else none
omit F in
theorem pN{n:Nat}{k:Int}(h:¬∃i,i<bc X/\blk X i 1∈(aC X).take n/\(blk X i 1=k\/blk X i 0=k)):hR l X n k=none:=by
 simp_all[hR]
theorem uM{n i:Nat}(hi:i<bc X)(hm:blk X i 1∈(aC X).take n):hR l X n (blk X i 1)=some (lH l X (blk X i 0)):=by
 have h:∃j,j<bc X/\blk X j 1∈(aC X).take n/\(blk X j 1=blk X i 1\/blk X j 0=blk X i 1):=⟨i,hi,hm,.inl rfl⟩;unfold hR;obtain⟨g1,g2,g3⟩:=h.choose_spec
 have:h.choose=i:=by
  rcases g3 with g|g
  ·exact rU F.b1 g1 hi g
  ·exact absurd g.symm (F.ne _ (F.ba i hi) _ g1)
 simp_all
theorem uN{n i:Nat}(hi:i<bc X)(hm:blk X i 1∈(aC X).take n):hR l X n (blk X i 0)=some (lH l X (blk X i 1)):=by
 have h:∃j,j<bc X/\blk X j 1∈(aC X).take n/\(blk X j 1=blk X i 0\/blk X j 0=blk X i 0):=⟨i,hi,hm,.inr rfl⟩;unfold hR;rw[dif_pos h]
 obtain⟨g1,g2,g3⟩:=h.choose_spec
 have:h.choose=i:=by
  rcases g3 with g|g
  ·exact absurd g (F.ne _ (F.ba _ g1) _ hi)
  ·exact rU F.b0 g1 hi g
 grind
theorem aDx(k:Int):hR l X (aC X).length k=f6 k (fX l X (bc X)):=by
 by_cases h:∃i,i<bc X/\(blk X i 1=k\/blk X i 0=k)
 ·obtain⟨i,hi,e|e⟩:=h
  ·rw[<- e,adQ l F (Nat.le_refl _) hi,uM l F hi (by rw[List.take_length];exact F.ba i hi)]
  ·rw[<- e,aFr l F (Nat.le_refl _) hi,uN l F hi (by rw[List.take_length];exact F.ba i hi)]
 simp_all[adR,pN]
end
/-! lists of objects that are hit -/
theorem DL(f:Nat->Option (Int×Bool))(L:List U):(jg f L).length=L.length:=by simp[jg]
theorem uP(f:Nat->Option (Int×Bool))(L:List U)(j:Nat)(hj:j<L.length):(jg f L).getD j (.int 0)=pO j (L.getD j (.int 0)) (f (j/12)):=by
 simp[jg,hj]
theorem DM(j:Nat)(v:U):pO j v none=v:=rfl
theorem sx{f g:Nat->Option (Int×Bool)}{L:List U}(h:∀j,j<L.length->f (j/12)=g (j/12)):jg f L=jg g L:=by
 simp_all[jg]
theorem aaO(L:List U):jg (fun _=>none) L=L:=by
 apply List.ext_getElem (by simp[jg]);simp_all[jg,DM]
theorem aaP{j:Nat}(v:U) (o) (h:j%12≠5) (h':j%12≠11):pO j v o=v:=by
 unfold pO;grind
theorem Ku{f:Nat->Option (Int×Bool)}{L:List U}{q:Nat}{b:Int×Bool}(hq:q<L.length/12)(hf:f q=none):kz q b (jg f L)=jg (fun x=>if x=q then some b else f x) L:=by
 have e5:=uP f L (q*12+5) (by omega);have e11:=uP f L (q*12+11) (by omega)
 rw[show(q*12+5)/12=q by omega,hf,DM]at e5
 rw[show(q*12+11)/12=q by omega,hf,DM]at e11
 unfold kz nI
 rw[e5,e11]
 apply List.ext_getElem (by simp[DL]);intro i h1 h2;have hi:i<L.length:=by simp_all[DL]
 have g1:=uP f L i hi;have g2:=uP (fun x=>if x=q then some b else f x) L i hi
 rw[List.getD_eq_getElem?_getD,List.getElem?_eq_getElem (by simp_all),Option.getD_some]at g1
 rw[List.getD_eq_getElem?_getD,List.getElem?_eq_getElem h2,Option.getD_some]at g2
 rw[List.getElem_set,List.getElem_set,g1,g2]
 by_cases c11:q*12+11=i
 ·subst c11
  rw[if_pos rfl,if_pos (by omega)]
  simp_all[pO]
 ·rw[if_neg c11]
  by_cases c5:q*12+5=i
  ·subst c5
   rw[if_pos rfl,if_pos (by omega)]
   simp_all[pO]
  ·rw[if_neg c5]
   by_cases c:i/12=q
   ·rw[if_pos c,c,hf,DM,aaP _ _ (by omega) (by omega)]
   simp_all
theorem Ln(l:List U){X:U}(F:Fg X):∀n,n<=(aC X).length->kF l X n=jg (fun q=>if q<aK X then hR l X n (oI X q 0)else none) (cX X 0).toL
 |0,_=>by
  rw[sx (g:=fun _=>none),aaO];rfl
  simp_all[pN]
 |n+1,hn=>by
  have ih:=Ln l F n (by omega);have hk:(aC X).getD n 0∈aC X:=by
   grind
  have ht:∀a,a∈(aC X).take (n+1)↔a∈(aC X).take n\/a=(aC X).getD n 0:=fun a=>by
   grind[aJC]
  have hnt:(aC X).getD n 0∉(aC X).take n:=by
   intro hm;have hs:=F.a;have hd:aC X=(aC X).take n++(aC X).drop n:=(List.take_append_drop n _).symm;grind
  unfold kF;simp only;split
  ·rename_i hc
   rw[ih]
   have hb:=(xY F).1 hc;refine sx fun j _=>?_
   grind[bc,blk,aC,oI,uM,uN,pN]
  ·rename_i hc
   have:∃i,i<bc X/\blk X i 1=(aC X).getD n 0:=by
    refine Classical.byContradiction fun h=>hc ((xY F).2 fun i hi e=>h ⟨i,hi,e⟩)
   obtain⟨i,hi,e1⟩:=this
   have ec:=CH F hi
   rw[e1]at ec
   rw[ec]
   obtain⟨b1,b2⟩:=sy (F.bi i hi)
   obtain⟨a1,a2⟩:=sy (F.ai _ hk)
   have hno:hR l X n (blk X i 0)=none:=pN l (by
    rintro⟨j,hj,hm,g|g⟩
    ·exact F.ne _ (F.ba j hj) i hi g
    ·have:=rU F.b0 hj hi g
     simp_all)
   have hna:hR l X n ((aC X).getD n 0)=none:=pN l (by
    rintro⟨j,hj,hm,g|g⟩
    ·simp_all
    ·exact F.ne _ hk j hj g.symm)
   have hab:¬(bC X ((aC X).getD n 0) (aK X)).toNat=(bC X (blk X i 0) (aK X)).toNat:=by
    intro e
    rw[e,b2]at a2
    exact F.ne _ hk i hi a2.symm
   rw[ih,Ku b1 (by simp_all),Ku a1 (by simp_all)]
   refine sx fun j _=>?_
   by_cases cA:j/12=(bC X ((aC X).getD n 0) (aK X)).toNat
   ·rw[if_pos cA,cA,if_pos a1,a2,<- e1,uM l F hi ((ht _).2 (.inr e1))]
   ·rw[if_neg cA]
    by_cases cB:j/12=(bC X (blk X i 0) (aK X)).toNat
    ·simp_all[if_pos,uN]
    ·rw[if_neg cB]
     split
     ·rename_i hj;have nA:oI X (j/12) 0≠(aC X).getD n 0:=fun e=>cA (by rw[<- e,DQ F.pl hj];rfl)
      have nB:oI X (j/12) 0≠blk X i 0:=fun e=>cB (by rw[<- e,DQ F.pl hj];rfl)
      by_cases h:∃i,i<bc X/\blk X i 1∈(aC X).take n/\(blk X i 1=oI X (j/12) 0\/blk X i 0=oI X (j/12) 0)
      ·grind[uM,uN]
      ·rw[pN l h,pN l]
       rintro⟨i',hi',hm,e⟩
       rcases (ht _).1 hm with g|g
       ·simp_all
       ·have:=rU F.b1 hi' hi (g.trans e1.symm)
        grind
     rfl
/-- all objects are hit alike -/
theorem aDG(l:List U){X:U}(hv:iI X=true):iq l X (aK X)=kF l X (aC X).length:=by
  simp_all[Dp,Ln,iq,aDx]
theorem JN(a b:Int):0<=fI a b/\fI a b<=99:=by grind[fI]
theorem Fw(l:List U)(c p k q:Int):0<=oS l c p k q/\oS l c p k q<=99:=JN _ _
theorem aFs(l:List U)(X:U)(k:Int):0<=sZ l X k/\sZ l X k<=99:=Fw _ _ _ _ _
theorem abz(l:List U){X:U}(hv:0<=iX X (1+14*(1-bI X))/\iX X (1+14*(1-bI X))<=9999):∀n,0<=iT l X n/\iT l X n<=iX X (1+14*(1-bI X))
 |0=>⟨hv.1,Int.le_refl _⟩
 |n+1=>by
  have ih:=abz l hv n;have g:=aFs l X ((aC X).getD n 0);grind[iT]
end Go.SX

set_option linter.unusedVariables false
set_option linter.unusedSectionVars false
set_option linter.unusedSimpArgs false
namespace Go.SX
/-! ### damage: what the walk asks -/
theorem aaA{u:U}(h:ou u=true):∃a n b,u=.lst [.int a,.lst [.int n,.bool b]]:=by
 unfold ou at h;grind
theorem Me(k:Int):∀ {m:List U},m.all ou=true->cF k m=(f6 k (m.map qC)).map fun v=>U.lst [.int v.1,.bool v.2]
 |[],_=>rfl
 |u::m,h=>by
  rw[List.all_cons,Bool.and_eq_true]at h
  have ih:=Me k h.2
  obtain⟨a,n,b,rfl⟩:=aaA h.1
  show(if a=k then some (U.lst _)else cF k m)=Option.map _ (if a=k then some (n,b)else f6 k _)
  grind
theorem Mi(k n:Int)(b:Bool):∀ {m:List U},m.all ou=true->(cO k (.lst [.int n,.bool b]) m).all ou=true/\(cO k (.lst [.int n,.bool b]) m).map qC=s5 k (n,b) (m.map qC)
 |[],_=>⟨rfl,rfl⟩
 |u::m,h=>by
  rw[List.all_cons,Bool.and_eq_true]at h
  have ih:=Mi k n b h.2
  obtain⟨a,n',b',rfl⟩:=aaA h.1
  show((if a=k then _ else _:List U).all _=true)/\((if a=k then _ else _:List U).map _)=(if a=k then _ else _)
  split
  ·exact⟨by simp only[List.all_cons,h.2];rfl,rfl⟩
  simp_all
theorem aDD{l:List U}{X:U}{n:Nat}{b:Int×Bool}(hn:n<aK X)(h:f6 (oI X n 0) (fX l X (bc X))=some b):iq l X (n+1)=kz n b (iq l X n):=by
 unfold iq
 rw[Ku hn (by simp)]
 grind
theorem aDC{l:List U}{X:U}{n:Nat}(h:f6 (oI X n 0) (fX l X (bc X))=none):iq l X (n+1)=iq l X n:=by
 grind[iq]
theorem aDE(l:List U)(X:U):iq l X 0=(cX X 0).toL:=by
 simp_all[iq,aaO]
theorem aDB{l:List U}{X:U}{n:Nat}{q:Nat}(h:q<aK X):nI (iq l X n) (q*12)=oI X q 0:=by
 unfold iq nI;have hq:q*12<(cX X 0).toL.length:=by grind[aK]
 rw[uP _ _ _ hq,aaP _ _ (by omega) (by omega)]
 rfl
theorem Kt{L L':List U}{q:Nat}{b:Int×Bool}{v5 v11:U}(h:U.eqs L L'=true)(h5:U.eq v5 (.int (fI (nI L' (q*12+5)) b.1))=true)(h11:U.eq v11 (.bool ((L'.getD (q*12+11) (.int 0)).toB||b.2))=true):
  U.eqs ((L.set (q*12+5) v5).set (q*12+11) v11) (kz q b L')=true:=KA _ (KA _ h h5) h11
theorem Zn{L L':List U}{q:Nat}{b:Int×Bool}(h:U.eqs L L'=true):U.eqs (kz q b L) (kz q b L')=true:=by
 refine Kt h ?_ ?_;all_goals grind[pG,U.eq_rfl,yA,je]
theorem aFV(M:List U)(n:Nat)(a b:U):((((((((((((M.set (n*12+0) (M.getD (n*12+0) (.int 0))).set (n*12+1) (M.getD (n*12+1) (.int 0))).set (n*12+2) (M.getD (n*12+2) (.int 0))).set (n*12+3) (M.getD (n*12+3) (.int 0))).set (n*12+4) (M.getD (n*12+4) (.int 0))).set (n*12+5) a).set (n*12+6) (M.getD (n*12+6) (.int 0))).set (n*12+7) (M.getD (n*12+7) (.int 0))).set (n*12+8) (M.getD (n*12+8) (.int 0))).set (n*12+9) (M.getD (n*12+9) (.int 0))).set (n*12+10) (M.getD (n*12+10) (.int 0))).set (n*12+11) b)=(M.set (n*12+5) a).set (n*12+11) b:=by
 have g:∀j,j≠5->(M.set _ a).set _ (M.getD (n*12+j) _)=M.set (n*12+5) a:=fun j hj=>aew (aax (by omega))
 simp only[aew (m:=M) _]
 rw[g 6 (by decide),g 7 (by decide),g 8 (by decide),g 9 (by decide),g 10 (by decide)]
section
variable {ρ:Env} {x y l A B a b k u i j p q n m r o c d w v X Y W R T N L e t C z O c1 c3 c6 c7:E}
theorem Ae:0<=E.I ρ (.fn 251 a)/\E.I ρ (.fn 251 a)<=99:=Fw _ _ _ _ _
theorem NM:0<=E.I ρ (.fn 252 a)/\E.I ρ (.fn 252 a)<=99:=JN _ _
theorem gi:E.I ρ (.fn 252 (.pr a b))=fI (E.I ρ a) (E.I ρ b):=rfl
theorem ww:E.I ρ (.fn 251 (.pr C (.pr c (.pr p (.pr k q)))))=fI (fI (if E.I ρ c=-1 then E.I ρ p else eO (E.L ρ C) (E.I ρ c) 8) (E.I ρ k)) (E.I ρ q):=rfl
theorem aCm(h:E.I ρ c<0):eO (E.L ρ C) (E.I ρ c) 8=0:=by
 grind[eO]
theorem YY(h:¬E.I ρ c<E.I ρ (.fn 9 (.pr C (.int 14)))):eO (E.L ρ C) (E.I ρ c) 8=0:=by
 have e:E.I ρ (.fn 9 (.pr C (.int 14)))=(E.L ρ C).length/14:=rfl;simp_all[eO,if_neg]
theorem YX(h0:¬E.I ρ c<0)(h:E.I ρ c<E.I ρ (.fn 9 (.pr C (.int 14)))):eO (E.L ρ C) (E.I ρ c) 8=E.I ρ (.fn 1 (.pr C (.fn 6 (.pr (.fn 8 (.pr c (.int 14))) (.int 8))))):=by
 have e:E.I ρ (.fn 9 (.pr C (.int 14)))=(E.L ρ C).length/14:=rfl;unfold eO;rw[if_pos (by omega)];show nI _ _=nI (E.L ρ C) (E.I ρ c*14+8).toNat;grind
theorem As:(E.B ρ (.fn 253 (.pr m (.pr C (.pr X i))))=true)=((E.L ρ m).all ou=true/\(E.L ρ m).map qC=fX (E.L ρ C) (X.den ρ) (E.I ρ i).toNat):=by
 show(((E.L ρ m).all _&&((E.L ρ m).map _==fX (E.L ρ C) (X.den ρ) (E.I ρ i).toNat))=true)=_
 simp_all
theorem jV:E.I ρ (.fn 254 (.pr C (.pr X i)))=iT (E.L ρ C) (X.den ρ) (E.I ρ i).toNat:=rfl
theorem tp:(E.B ρ (.fn 255 (.pr l (.pr C (.pr X i))))=true)=(U.eqs (E.L ρ l) (iq (E.L ρ C) (X.den ρ) (E.I ρ i).toNat)=true):=rfl
theorem At:(E.B ρ (.fn 257 (.pr l (.pr C (.pr X i))))=true)=(U.eqs (E.L ρ l) (kF (E.L ρ C) (X.den ρ) (E.I ρ i).toNat)=true):=rfl
theorem tq:E.I ρ (.fn 258 (.pr X k))=pz (X.den ρ) (E.I ρ k):=rfl
theorem aKb:(E.B ρ (.fn 260 (.pr x (.pr l (.pr q (.pr C (.pr c1 (.pr c3 (.pr c6 c7))))))))=true)=(U.eqs (E.L ρ x) (kz (E.I ρ q).toNat (oS (E.L ρ C) (E.I ρ c1) (E.I ρ c3) (E.I ρ c6) (E.I ρ c7),decide (0<oS (E.L ρ C) (E.I ρ c1) (E.I ρ c3) (E.I ρ c6) (E.I ρ c7))&&ov (E.L ρ C) (E.I ρ c1) 8) (E.L ρ l))=true):=rfl
theorem aDL(j:Nat)(h0:0<=E.I ρ i):(E.I ρ (.fn 6 (.pr (.fn 8 (.pr i (.int 2))) (.int (j:Int))))).toNat=(E.I ρ i).toNat*2+j:=by
 show(E.I ρ i*2+j).toNat=_
 omega
theorem DO(j:Nat)(h0:0<=E.I ρ i):(E.I ρ (.fn 6 (.pr (.fn 8 (.pr i (.int 12))) (.int (j:Int))))).toNat=(E.I ρ i).toNat*12+j:=by
 show(E.I ρ i*12+j).toNat=_
 omega
theorem um(hT:E.B ρ (.fn 200 (.pr T (.fn 1 (.pr X (.int 32)))))=true)(h0:0<=E.I ρ i)(j:Nat):E.I ρ (.fn 1 (.pr T (.fn 6 (.pr (.fn 8 (.pr i (.int 2))) (.int (j:Int))))))=blk (X.den ρ) (E.I ρ i).toNat j:=by
 show nI _ (E.I ρ _).toNat=nI _ _
 rw[aDL j h0]
 exact pG hT _
theorem aBD(X:U)(k:Nat):(aC X).getD k 0=nI (cX X 31).toL k:=(Lg _ _).symm
theorem CB(hA:E.B ρ (.fn 200 (.pr A (.fn 1 (.pr X (.int 31)))))=true):E.I ρ (.fn 1 (.pr A i))=(aC (X.den ρ)).getD (E.I ρ i).toNat 0:=by
 rw[aBD]
 exact pG hA _
theorem uj:E.I ρ (.fn 1 (.pr (.fn 1 (.pr X (.int 31))) i))=(aC (X.den ρ)).getD (E.I ρ i).toNat 0:=CB (U.eqs_rfl _)
theorem El:E.I ρ (.fn 0 (.fn 1 (.pr X (.int 31))))=(((aC (X.den ρ)).length:Nat):Int):=by simp[aC,bA];rfl
theorem vW:E.I ρ (.fn 9 (.pr (.fn 1 (.pr X (.int 31))) (.int 1)))=(((aC (X.den ρ)).length:Nat):Int):=by rw[dV,El]
theorem YB{i:Nat}{X:U}(h:i<(aC X).length):(aC X).getD i 0∈aC X:=by grind
theorem ni(hv:E.B ρ (.fn 115 X)=true):Fg (X.den ρ):=Dp hv
/-- creatures that fight are there -/
theorem aBN(hv:E.B ρ (.fn 115 X)=true)(hT:E.B ρ (.fn 200 (.pr T (.fn 1 (.pr X (.int 32)))))=true)(h0:0<=E.I ρ i)(h1:E.I ρ i<E.I ρ (.fn 9 (.pr (.fn 1 (.pr X (.int 32))) (.int 2)))):
    0<=E.I ρ (.fn 120 (.pr X (.pr (.fn 1 (.pr T (.fn 6 (.pr (.fn 8 (.pr i (.int 2))) (.int 0))))) (.fn 9 (.pr (.fn 1 (.pr X (.int 0))) (.int 12)))))):=by
  show 0<=bC _ (E.I ρ (.fn 1 (.pr T (.fn 6 (.pr _ (.int (0:Nat))))))) _
  rw[um hT h0]
  have e:E.I ρ (.fn 9 (.pr (.fn 1 (.pr X (.int 32))) (.int 2)))=bc (X.den ρ):=rfl
  exact(ni hv).bi _ (by omega)
theorem aBO(hv:E.B ρ (.fn 115 X)=true)(hT:E.B ρ (.fn 200 (.pr T (.fn 1 (.pr X (.int 32)))))=true)(h0:0<=E.I ρ i)(h1:E.I ρ i<E.I ρ (.fn 9 (.pr (.fn 1 (.pr X (.int 32))) (.int 2)))):
  0<=E.I ρ (.fn 120 (.pr X (.pr (.fn 1 (.pr T (.fn 6 (.pr (.fn 8 (.pr i (.int 2))) (.int 1))))) (.fn 9 (.pr (.fn 1 (.pr X (.int 0))) (.int 12)))))):=by
 show 0<=bC _ (E.I ρ (.fn 1 (.pr T (.fn 6 (.pr _ (.int (1:Nat))))))) _
 rw[um hT h0]
 have e:E.I ρ (.fn 9 (.pr (.fn 1 (.pr X (.int 32))) (.int 2)))=bc (X.den ρ):=rfl
 exact(ni hv).ai _ ((ni hv).ba _ (by omega))
theorem JY(hv:E.B ρ (.fn 115 X)=true)(hA:E.B ρ (.fn 200 (.pr A (.fn 1 (.pr X (.int 31)))))=true)(h0:0<=E.I ρ i)(h1:E.I ρ i<(((aC (X.den ρ)).length:Nat):Int)):
  0<=E.I ρ (.fn 120 (.pr X (.pr (.fn 1 (.pr A i)) (.fn 9 (.pr (.fn 1 (.pr X (.int 0))) (.int 12)))))):=by
 show 0<=bC _ (E.I ρ _) _
 rw[CB hA]
 exact(ni hv).ai _ (YB (by omega))
theorem JZ(hv:E.B ρ (.fn 115 X)=true)(h0:0<=E.I ρ i)(h1:E.I ρ i<E.I ρ (.fn 0 (.fn 1 (.pr X (.int 31))))):
  0<=E.I ρ (.fn 120 (.pr X (.pr (.fn 1 (.pr (.fn 1 (.pr X (.int 31))) i)) (.fn 9 (.pr (.fn 1 (.pr X (.int 0))) (.int 12)))))):=
 JY hv (U.eqs_rfl _) h0 (by simp_all[El])
/-- what a creature deals -/
noncomputable def aP(O q:E)(j:Int):E:= .fn 1 (.pr O (.fn 6 (.pr (.fn 8 (.pr q (.int 12))) (.int j))))
noncomputable def jp(C O q:E):E:=.fn 251 (.pr C (.pr (aP O q 1) (.pr (aP O q 3) (.pr (aP O q 6) (aP O q 7)))))
noncomputable def mG(C O q:E):E:=.and (.cmp .lss (.int 0) (jp C O q)) (.fn 222 (.pr C (.pr (aP O q 1) (.int 8))))
noncomputable def qE(C O q:E):E:=.fn 23 (.pr (jp C O q) (.fn 23 (.pr (mG C O q) (.fn 10 (.int 0)))))
theorem qf(j:Nat)(hO:U.eqs (E.L ρ O) (cX (X.den ρ) 0).toL=true)(h0:0<=E.I ρ q):E.I ρ (aP O q j)=oI (X.den ρ) (E.I ρ q).toNat j:=by
 show nI (E.L ρ O) (E.I ρ _).toNat=nI _ _;grind[DO,pG]
theorem MT{kk:Int}(hO:U.eqs (E.L ρ O) (cX (X.den ρ) 0).toL=true)(hq:E.I ρ q=bC (X.den ρ) kk (aK (X.den ρ)))(h0:0<=E.I ρ q):E.I ρ (jp C O q)=sZ (E.L ρ C) (X.den ρ) kk:=by
 show oS (E.L ρ C) (E.I ρ _) (E.I ρ _) (E.I ρ _) (E.I ρ _)=_;grind[qf,sZ]
theorem CI{kk:Int}(hO:U.eqs (E.L ρ O) (cX (X.den ρ) 0).toL=true)(hq:E.I ρ q=bC (X.den ρ) kk (aK (X.den ρ)))(h0:0<=E.I ρ q):(E.I ρ (jp C O q),E.B ρ (mG C O q))=lH (E.L ρ C) (X.den ρ) kk:=by
 have e1:=MT (C:=C) hO hq h0;have e2:E.B ρ (mG C O q)=(decide (0<E.I ρ _)&&ov (E.L ρ C) (E.I ρ _) 8):=rfl;grind[qf,lH,sZ]
theorem afZ:(qE C O q).den ρ=.lst [.int (E.I ρ (jp C O q)),.bool (E.B ρ (mG C O q))]:=by
 rfl
theorem aJb:E.B ρ (.fn 253 (.pr (.fn 10 a) (.pr C (.pr X (.int 0)))))=true:=by rfl
theorem aI9(h:E.B ρ (.fn 253 (.pr m (.pr C (.pr X i))))=true)(e:E.I ρ n=E.I ρ i):E.B ρ (.fn 253 (.pr m (.pr C (.pr X n))))=true:=by
 simp_all[As]
/-- one block more: P and Q are where the attacker and the blocker are found -/
theorem aJa{O' P Q:E}(h:E.B ρ (.fn 253 (.pr m (.pr C (.pr X i))))=true)(hT:E.B ρ (.fn 200 (.pr T (.fn 1 (.pr X (.int 32)))))=true)(h0:0<=E.I ρ i)(hn:E.I ρ n=E.I ρ i+1)
    (hO:U.eqs (E.L ρ O) (cX (X.den ρ) 0).toL=true)(hO':U.eqs (E.L ρ O') (cX (X.den ρ) 0).toL=true)
    (hP:E.I ρ P=E.I ρ (.fn 120 (.pr X (.pr (.fn 1 (.pr T (.fn 6 (.pr (.fn 8 (.pr i (.int 2))) (.int 1))))) (.fn 9 (.pr (.fn 1 (.pr X (.int 0))) (.int 12)))))))(hP0:0<=E.I ρ P)
    (hQ:E.I ρ Q=E.I ρ (.fn 120 (.pr X (.pr (.fn 1 (.pr T (.fn 6 (.pr (.fn 8 (.pr i (.int 2))) (.int 0))))) (.fn 9 (.pr (.fn 1 (.pr X (.int 0))) (.int 12)))))))(hQ0:0<=E.I ρ Q):
    E.B ρ (.fn 253 (.pr (.fn 34 (.pr (.fn 34 (.pr m (.pr (.fn 1 (.pr T (.fn 6 (.pr (.fn 8 (.pr i (.int 2))) (.int 0))))) (qE C O P)))) (.pr (.fn 1 (.pr T (.fn 6 (.pr (.fn 8 (.pr i (.int 2))) (.int 1))))) (qE C O' Q)))) (.pr C (.pr X n))))=true:=by
  rw[As]at h ⊢
  have e0:=um hT h0 0;have e1:=um hT h0 1;have hP:E.I ρ P=bC _ (E.I ρ (.fn 1 (.pr T (.fn 6 (.pr _ (.int (1:Nat))))))) _:=hP;have hQ:E.I ρ Q=bC _ (E.I ρ (.fn 1 (.pr T (.fn 6 (.pr _ (.int (0:Nat))))))) _:=hQ
  rw[e1]at hP
  rw[e0]at hQ
  have b0:=CI (C:=C) hO hP hP0;have b1:=CI (C:=C) hO' hQ hQ0;have m0:=Mi (blk (X.den ρ) (E.I ρ i).toNat 0) (E.I ρ (jp C O P)) (E.B ρ (mG C O P)) h.1;have m1:=Mi (blk (X.den ρ) (E.I ρ i).toNat 1) (E.I ρ (jp C O' Q)) (E.B ρ (mG C O' Q)) m0.1;have el:E.L ρ (.fn 34 (.pr (.fn 34 (.pr m (.pr (.fn 1 (.pr T (.fn 6 (.pr _ (.int 0))))) (qE C O P)))) (.pr (.fn 1 (.pr T (.fn 6 (.pr _ (.int 1))))) (qE C O' Q))))=
      cO (E.I ρ (.fn 1 (.pr T (.fn 6 (.pr (.fn 8 (.pr i (.int 2))) (.int (1:Nat))))))) ((qE C O' Q).den ρ) (cO (E.I ρ (.fn 1 (.pr T (.fn 6 (.pr (.fn 8 (.pr i (.int 2))) (.int (0:Nat))))))) ((qE C O P).den ρ) (E.L ρ m)):=rfl
  rw[el,e0,e1,afZ,afZ]
  refine⟨m1.1, ?_⟩
  rw[m1.2,m0.2,h.2,hn,show(E.I ρ i+1).toNat=(E.I ρ i).toNat+1 by omega,b0,b1]
  rfl
/-- is an attacker blocked -/
theorem aaH(hv:E.B ρ (.fn 115 X)=true)(h:E.B ρ (.fn 253 (.pr m (.pr C (.pr X (.fn 9 (.pr (.fn 1 (.pr X (.int 32))) (.int 2)))))))=true)(hA:E.B ρ (.fn 200 (.pr A (.fn 1 (.pr X (.int 31)))))=true)
    (h0:0<=E.I ρ i)(h1:E.I ρ i<(((aC (X.den ρ)).length:Nat):Int)):E.B ρ (.fn 33 (.pr m (.fn 1 (.pr A i))))=(cT (X.den ρ) (bc (X.den ρ)) 1).contains ((aC (X.den ρ)).getD (E.I ρ i).toNat 0):=by
  have F:=ni hv
  rw[As]at h
  have hk:=YB (X:=X.den ρ) (i:=(E.I ρ i).toNat) (by omega);have e:E.B ρ (.fn 33 (.pr m (.fn 1 _)))=(cF (E.I ρ (.fn 1 (.pr A i))) (E.L ρ m)).isSome:=rfl;have en:(E.I ρ (.fn 9 (.pr (.fn 1 (.pr X (.int 32))) (.int 2)))).toNat=bc (X.den ρ):=rfl
  rw[en]at h
  rw[e,Me _ h.1,h.2,CB hA,Option.isSome_map]
  generalize (aC _).getD _ 0=kk at *;by_cases g:∃b,b<bc (X.den ρ)/\blk (X.den ρ) b 1=kk
  · obtain⟨b,hb,rfl⟩:=g
    rw[adQ _ F (Nat.le_refl _) hb]
    have:blk _ b 1∈cT (X.den ρ) _ 1:=List.mem_map.2 ⟨b,List.mem_range.2 hb,rfl⟩
    simp_all
  · rw[adR _ F fun b hb=>⟨fun e=>g ⟨b,hb,e⟩,fun e=>F.ne _ hk b hb e.symm⟩]
    simp_all[cT]
theorem JL(h:E.I ρ (.fn 1 (.pr X (.int 34)))=1):bI (X.den ρ)=1:=by
 show(E.I ρ (.fn 1 (.pr X (.int 34)))).toNat=1
 omega
theorem JM(h:E.I ρ (.fn 1 (.pr X (.int 34)))=0):bI (X.den ρ)=0:=by
 show(E.I ρ (.fn 1 (.pr X (.int 34)))).toNat=0
 omega
theorem afA(h:E.I ρ (.fn 1 (.pr X (.int 34)))=1):E.I ρ (.fn 254 (.pr C (.pr X (.int 0))))=E.I ρ (.fn 1 (.pr X (.int 1))):=by
 show iX (X.den ρ) (1+14*(1-bI (X.den ρ)))=iX (X.den ρ) 1
 rw[JL h]
theorem afz(h:E.I ρ (.fn 1 (.pr X (.int 34)))=0):E.I ρ (.fn 254 (.pr C (.pr X (.int 0))))=E.I ρ (.fn 1 (.pr X (.int 15))):=by
 show iX (X.den ρ) (1+14*(1-bI (X.den ρ)))=iX (X.den ρ) 15
 rw[JM h]
theorem aJf(hv:E.B ρ (.fn 115 X)=true):0<=E.I ρ (.fn 254 (.pr C (.pr X i)))/\E.I ρ (.fn 254 (.pr C (.pr X i)))<=9999:=by
 have lf:=kM hv;have ha:bI (X.den ρ)<=1:=by
  have:=jC hv
  show(E.I ρ (.fn 1 (.pr X (.int 34)))).toNat<=1
  omega
 have hl:0<=iX (X.den ρ) (1+14*(1-bI (X.den ρ)))/\iX (X.den ρ) (1+14*(1-bI (X.den ρ)))<=9999:=by
  rcases (show bI (X.den ρ)=0\/bI (X.den ρ)=1 by omega)with e|e
  ·rw[e];exact lf.2
  ·rw[e];exact lf.1
 have:=abz (E.L ρ C) hl (E.I ρ i).toNat
 grind[jV]
theorem NN(e:E.I ρ n=E.I ρ i):E.I ρ (.fn 254 (.pr C (.pr X n)))=E.I ρ (.fn 254 (.pr C (.pr X i))):=by simp_all[jV]
theorem abB{l:List U}{X:U}{n:Nat}(h:(cT X (bc X) 1).contains ((aC X).getD n 0)=true):iT l X (n+1)=iT l X n:=by
 simp_all[iT]
theorem abA{l:List U}{X:U}{n:Nat}(h:¬(cT X (bc X) 1).contains ((aC X).getD n 0)=true):iT l X (n+1)=max 0 (iT l X n-sZ l X ((aC X).getD n 0)):=by
 simp_all[iT]
theorem aJc(hv:E.B ρ (.fn 115 X)=true)(h:E.B ρ (.fn 253 (.pr m (.pr C (.pr X (.fn 9 (.pr (.fn 1 (.pr X (.int 32))) (.int 2)))))))=true)(hA:E.B ρ (.fn 200 (.pr A (.fn 1 (.pr X (.int 31)))))=true)
  (h0:0<=E.I ρ i)(h1:E.I ρ i<(((aC (X.den ρ)).length:Nat):Int))(g:E.B ρ (.fn 33 (.pr m (.fn 1 (.pr A i))))=true)(hn:E.I ρ n=E.I ρ i+1):E.I ρ (.fn 254 (.pr C (.pr X n)))=E.I ρ (.fn 254 (.pr C (.pr X i))):=by
 rw[aaH hv h hA h0 h1]at g
 rw[jV,jV,hn,show(E.I ρ i+1).toNat=(E.I ρ i).toNat+1 by omega,abB g]
theorem afB(hv:E.B ρ (.fn 115 X)=true)(h:E.B ρ (.fn 253 (.pr m (.pr C (.pr X (.fn 9 (.pr (.fn 1 (.pr X (.int 32))) (.int 2)))))))=true)(hA:E.B ρ (.fn 200 (.pr A (.fn 1 (.pr X (.int 31)))))=true)
  (h0:0<=E.I ρ i)(h1:E.I ρ i<(((aC (X.den ρ)).length:Nat):Int))(g:¬E.B ρ (.fn 33 (.pr m (.fn 1 (.pr A i))))=true)(hn:E.I ρ n=E.I ρ i+1)
  (hO:U.eqs (E.L ρ O) (cX (X.den ρ) 0).toL=true)(hq:E.I ρ q=E.I ρ (.fn 120 (.pr X (.pr (.fn 1 (.pr A i)) (.fn 9 (.pr (.fn 1 (.pr X (.int 0))) (.int 12)))))))(hq0:0<=E.I ρ q):
  E.I ρ (.fn 254 (.pr C (.pr X n)))=max 0 (E.I ρ (.fn 254 (.pr C (.pr X i)))-E.I ρ (jp C O q)):=by
 rw[aaH hv h hA h0 h1]at g
 have hq:E.I ρ q=bC _ (E.I ρ _) _:=hq
 rw[CB hA]at hq
 rw[jV,jV,hn,show(E.I ρ i+1).toNat=(E.I ρ i).toNat+1 by omega,abA g,MT (C:=C) hO hq hq0]
/-- the reference's -/
theorem aJd(hv:E.B ρ (.fn 115 X)=true)(h0:0<=E.I ρ i)(g:¬E.I ρ (.fn 258 (.pr X (.fn 1 (.pr (.fn 1 (.pr X (.int 31))) i))))=0)(hn:E.I ρ n=E.I ρ i+1):E.I ρ (.fn 254 (.pr C (.pr X n)))=E.I ρ (.fn 254 (.pr C (.pr X i))):=by
  rw[tq,uj,YM (ni hv)]at g
  rw[jV,jV,hn,show(E.I ρ i+1).toNat=(E.I ρ i).toNat+1 by omega,abB (by simp_all)]
theorem aJe(hv:E.B ρ (.fn 115 X)=true)(h0:0<=E.I ρ i)(g:E.I ρ (.fn 258 (.pr X (.fn 1 (.pr (.fn 1 (.pr X (.int 31))) i))))=0)(hn:E.I ρ n=E.I ρ i+1)
  (hq:E.I ρ q=E.I ρ (.fn 120 (.pr X (.pr (.fn 1 (.pr (.fn 1 (.pr X (.int 31))) i)) (.fn 9 (.pr (.fn 1 (.pr X (.int 0))) (.int 12)))))))(hq0:0<=E.I ρ q):
  E.I ρ (.fn 254 (.pr C (.pr X n)))=max 0 (E.I ρ (.fn 254 (.pr C (.pr X i)))-E.I ρ (jp C (.fn 1 (.pr X (.int 0))) q)):=by
 rw[tq,uj,YM (ni hv)]at g
 have hq:E.I ρ q=bC _ (E.I ρ _) _:=hq
 rw[uj]at hq
 rw[jV,jV,hn,show(E.I ρ i+1).toNat=(E.I ρ i).toNat+1 by omega,abA g,MT (C:=C) (O:=.fn 1 (.pr X (.int 0))) (U.eqs_rfl _) hq hq0]
theorem afE(hv:E.B ρ (.fn 115 X)=true)(g:¬E.I ρ (.fn 258 (.pr X k))=0):0<=bC (X.den ρ) (E.I ρ (.fn 258 (.pr X k))) (aK (X.den ρ)):=by
 have F:=ni hv
 rw[tq]at g ⊢
 have:∃i,i<bc _/\blk _ i 1=E.I ρ k:=Classical.byContradiction fun h=>g ((xY F).2 fun i hi e=>h ⟨i,hi,e⟩)
 obtain⟨i,hi,e⟩:=this
 rw[<- e,CH F hi]
 exact F.bi i hi
/-- objects -/
theorem aJi(h:E.B ρ (.fn 200 (.pr l (.fn 1 (.pr X (.int 0)))))=true):E.B ρ (.fn 255 (.pr l (.pr C (.pr X (.int 0)))))=true:=by
  show U.eqs _ (iq _ _ 0)=true
  rw[aDE];exact h
theorem aJg(h:E.B ρ (.fn 255 (.pr l (.pr C (.pr X i))))=true)(e:E.I ρ n=E.I ρ i):E.B ρ (.fn 255 (.pr l (.pr C (.pr X n))))=true:=by
 simp_all[tp]
theorem aE7(h:E.B ρ (.fn 255 (.pr l (.pr C (.pr X i))))=true)(h0:0<=E.I ρ i)(h1:E.I ρ i<E.I ρ (.fn 9 (.pr (.fn 1 (.pr X (.int 0))) (.int 12)))):E.I ρ (aP l i 0)=oI (X.den ρ) (E.I ρ i).toNat 0:=by
 have e:E.I ρ (.fn 9 (.pr (.fn 1 (.pr X (.int 0))) (.int 12)))=aK (X.den ρ):=rfl
 rw[tp]at h
 show nI (E.L ρ l) (E.I ρ (.fn 6 (.pr _ (.int (0:Nat))))).toNat=_
 rw[DO 0 h0,pG h,Nat.add_zero,aDB (by omega)]
theorem EU(hm:E.B ρ (.fn 253 (.pr m (.pr C (.pr X (.fn 9 (.pr (.fn 1 (.pr X (.int 32))) (.int 2)))))))=true)(h:E.B ρ (.fn 255 (.pr l (.pr C (.pr X i))))=true)(h0:0<=E.I ρ i)(h1:E.I ρ i<E.I ρ (.fn 9 (.pr (.fn 1 (.pr X (.int 0))) (.int 12)))):
  cF (E.I ρ (aP l i 0)) (E.L ρ m)=(f6 (oI (X.den ρ) (E.I ρ i).toNat 0) (fX (E.L ρ C) (X.den ρ) (bc (X.den ρ)))).map fun v=>U.lst [.int v.1,.bool v.2]:=by
 rw[As]at hm
 have en:(E.I ρ (.fn 9 (.pr (.fn 1 (.pr X (.int 32))) (.int 2)))).toNat=bc (X.den ρ):=rfl;grind[aE7,Me]
theorem aJh(hm:E.B ρ (.fn 253 (.pr m (.pr C (.pr X (.fn 9 (.pr (.fn 1 (.pr X (.int 32))) (.int 2)))))))=true)(h:E.B ρ (.fn 255 (.pr l (.pr C (.pr X i))))=true)(h0:0<=E.I ρ i)(h1:E.I ρ i<E.I ρ (.fn 9 (.pr (.fn 1 (.pr X (.int 0))) (.int 12))))(hn:E.I ρ n=E.I ρ i+1)
  (g:¬E.B ρ (.fn 33 (.pr m (aP l i 0)))=true):E.B ρ (.fn 255 (.pr l (.pr C (.pr X n))))=true:=by
 have f:=EU hm h h0 h1;have e:E.B ρ (.fn 33 (.pr m (aP l i 0)))=(cF (E.I ρ _) (E.L ρ m)).isSome:=rfl
 rw[tp]at h ⊢
 rw[hn,show(E.I ρ i+1).toNat=(E.I ρ i).toNat+1 by omega,aDC]
 all_goals simp_all
noncomputable def fQ(l i:E)(j:Int)(L v:E):E:=.fn 2 (.pr L (.pr (.fn 6 (.pr (.fn 8 (.pr i (.int 12))) (.int j))) v))
/-- an object with its damage and its doom changed -/
noncomputable def aaN(l i a b:E):E:=
  fQ l i 11 (fQ l i 10 (fQ l i 9 (fQ l i 8 (fQ l i 7 (fQ l i 6 (fQ l i 5 (fQ l i 4 (fQ l i 3 (fQ l i 2 (fQ l i 1 (fQ l i 0 l (aP l i 0)) (aP l i 1)) (aP l i 2)) (aP l i 3)) (aP l i 4)) a) (aP l i 6)) (aP l i 7)) (aP l i 8)) (aP l i 9)) (aP l i 10)) b
theorem FC(j:Nat)(h0:0<=E.I ρ i):E.L ρ (fQ l i j L v)=(E.L ρ L).set ((E.I ρ i).toNat*12+j) (v.den ρ):=by
 show(E.L ρ L).set (E.I ρ _).toNat _=_
 rw[DO j h0];rfl
theorem qg(j:Nat)(h0:0<=E.I ρ i):(aP l i j).den ρ=(E.L ρ l).getD ((E.I ρ i).toNat*12+j) (.int 0):=by
 show(E.L ρ l).getD (E.I ρ _).toNat _=_
 rw[DO j h0]
theorem aDA(h0:0<=E.I ρ i):E.L ρ (aaN l i a b)=((E.L ρ l).set ((E.I ρ i).toNat*12+5) (a.den ρ)).set ((E.I ρ i).toNat*12+11) (b.den ρ):=by
 have e:=fun j=>@qg ρ l i j h0
 have g:=fun j L v=>@FC ρ l i L v j h0
 rw[<- aFV _ _ _ _]
 rw[<- e 0,<- e 1,<- e 2,<- e 3,<- e 4,<- e 6,<- e 7,<- e 8,<- e 9,<- e 10,<- g 0,<- g 1,<- g 2,<- g 3,<- g 4,<- g 5,<- g 6,<- g 7,<- g 8,<- g 9,<- g 10,<- g 11]
 rfl
theorem afC(hm:E.B ρ (.fn 253 (.pr m (.pr C (.pr X (.fn 9 (.pr (.fn 1 (.pr X (.int 32))) (.int 2)))))))=true)(h:E.B ρ (.fn 255 (.pr l (.pr C (.pr X i))))=true)(h0:0<=E.I ρ i)(h1:E.I ρ i<E.I ρ (.fn 9 (.pr (.fn 1 (.pr X (.int 0))) (.int 12))))(hn:E.I ρ n=E.I ρ i+1)
  (g:E.B ρ (.fn 33 (.pr m (aP l i 0)))=true)(hb:b.den ρ=.bool (E.B ρ (aP l i 11)||E.B ρ (.fn 1 (.pr (.fn 32 (.pr m (.pr (aP l i 0) d))) (.int 1))))):
  E.B ρ (.fn 255 (.pr (aaN l i (.fn 252 (.pr (aP l i 5) (.fn 1 (.pr (.fn 32 (.pr m (.pr (aP l i 0) d))) (.int 0))))) b) (.pr C (.pr X n))))=true:=by
 have f:=EU hm h h0 h1;have e:E.B ρ (.fn 33 (.pr m (aP l i 0)))=(cF (E.I ρ _) (E.L ρ m)).isSome:=rfl;have er:(E.fn 32 (.pr m (.pr (aP l i 0) d))).den ρ=(cF (E.I ρ _) (E.L ρ m)).getD _:=rfl;have en:E.I ρ (.fn 9 (.pr (.fn 1 (.pr X (.int 0))) (.int 12)))=aK (X.den ρ):=rfl
 rw[f]at er
 cases hp:f6 (oI (X.den ρ) (E.I ρ i).toNat 0) (fX (E.L ρ C) (X.den ρ) (bc (X.den ρ)))with
 |none=>simp_all
 |some v=>
  rw[hp]at er
  have e0:E.I ρ (.fn 1 (.pr (.fn 32 (.pr m (.pr (aP l i 0) d))) (.int 0)))=v.1:=by
   show(((E.fn 32 _).den ρ).toL.getD 0 _).toI=_
   rw[er];rfl
  have e1:E.B ρ (.fn 1 (.pr (.fn 32 (.pr m (.pr (aP l i 0) d))) (.int 1)))=v.2:=by
   show(((E.fn 32 _).den ρ).toL.getD 1 _).toB=_
   rw[er];rfl
  rw[tp]at h ⊢
  rw[hn,show(E.I ρ i+1).toNat=(E.I ρ i).toNat+1 by omega,aDD (by omega) hp,aDA h0]
  refine Kt h ?_ ?_
  ·show U.eq (.int (fI (E.I ρ (aP l i (5:Nat))) (E.I ρ _))) _=true
   rw[e0]
   have:E.I ρ _=((aP l i (5:Nat)).den ρ).toI:=rfl
   rw[this,qg 5 h0,jF (je _ h)]
   exact U.eq_rfl _
  ·rw[hb,e1]
   have:E.B ρ (aP l i 11)=((aP l i (11:Nat)).den ρ).toB:=rfl
   rw[this,qg 11 h0,yA (je _ h)]
   exact U.eq_rfl _
/-! the reference's objects -/
theorem aJl(h:E.B ρ (.fn 200 (.pr l (.fn 1 (.pr X (.int 0)))))=true):E.B ρ (.fn 257 (.pr l (.pr C (.pr X (.int 0)))))=true:=h
theorem Gp(h:E.B ρ (.fn 257 (.pr l (.pr C (.pr X i))))=true)(e:E.I ρ n=E.I ρ i):E.B ρ (.fn 257 (.pr l (.pr C (.pr X n))))=true:=by
 simp_all[At]
theorem aJk(h:E.B ρ (.fn 257 (.pr l (.pr C (.pr X i))))=true)(h0:0<=E.I ρ i)(hn:E.I ρ n=E.I ρ i+1)(g:E.I ρ (.fn 258 (.pr X (.fn 1 (.pr (.fn 1 (.pr X (.int 31))) i))))=0):E.B ρ (.fn 257 (.pr l (.pr C (.pr X n))))=true:=by
 rw[tq,uj]at g
 rw[At]at h ⊢
 rw[hn,show(E.I ρ i+1).toNat=(E.I ρ i).toNat+1 by omega]
 simp_all[kF]
theorem aJj{P Q x13 x12:E}(h:E.B ρ (.fn 257 (.pr l (.pr C (.pr X i))))=true)(h0:0<=E.I ρ i)(hn:E.I ρ n=E.I ρ i+1)(g:¬E.I ρ (.fn 258 (.pr X (.fn 1 (.pr (.fn 1 (.pr X (.int 31))) i))))=0)
  (hP:E.I ρ P=E.I ρ (.fn 120 (.pr X (.pr (.fn 1 (.pr (.fn 1 (.pr X (.int 31))) i)) (.fn 9 (.pr (.fn 1 (.pr X (.int 0))) (.int 12)))))))(hP0:0<=E.I ρ P)
  (hk:E.I ρ k=E.I ρ (.fn 258 (.pr X (.fn 1 (.pr (.fn 1 (.pr X (.int 31))) i)))))(hQ:E.I ρ Q=E.I ρ (.fn 120 (.pr X (.pr k (.fn 9 (.pr (.fn 1 (.pr X (.int 0))) (.int 12)))))))(hQ0:0<=E.I ρ Q)
  (a1:E.B ρ (.fn 260 (.pr x12 (.pr l (.pr Q (.pr C (.pr (aP (.fn 1 (.pr X (.int 0))) P 1) (.pr (aP (.fn 1 (.pr X (.int 0))) P 3) (.pr (aP (.fn 1 (.pr X (.int 0))) P 6) (aP (.fn 1 (.pr X (.int 0))) P 7)))))))))=true)
  (a2:E.B ρ (.fn 260 (.pr x13 (.pr x12 (.pr P (.pr C (.pr (aP (.fn 1 (.pr X (.int 0))) Q 1) (.pr (aP (.fn 1 (.pr X (.int 0))) Q 3) (.pr (aP (.fn 1 (.pr X (.int 0))) Q 6) (aP (.fn 1 (.pr X (.int 0))) Q 7)))))))))=true):
  E.B ρ (.fn 257 (.pr x13 (.pr C (.pr X n))))=true:=by
 have hP:E.I ρ P=bC (X.den ρ) (E.I ρ _) (aK (X.den ρ)):=hP;have hQ:E.I ρ Q=bC (X.den ρ) (E.I ρ k) (aK (X.den ρ)):=hQ
 rw[tq,uj]at g hk
 rw[uj]at hP
 have bP:=CI (C:=C) (O:=.fn 1 (.pr X (.int 0))) (U.eqs_rfl _) hP hP0;have bQ:=CI (C:=C) (O:=.fn 1 (.pr X (.int 0))) (U.eqs_rfl _) hQ hQ0;have a1:U.eqs (E.L ρ _) (kz (E.I ρ Q).toNat (E.I ρ (jp C _ P),E.B ρ (mG C _ P)) (E.L ρ l))=true:=a1;have a2:U.eqs (E.L ρ _) (kz (E.I ρ P).toNat (E.I ρ (jp C _ Q),E.B ρ (mG C _ Q)) (E.L ρ _))=true:=a2
 rw[At]at h ⊢
 rw[hn,show(E.I ρ i+1).toNat=(E.I ρ i).toNat+1 by omega]
 unfold kF;grind[yC,Zn]
theorem NO(h0:0<=E.I ρ q)(hb:b.den ρ=.bool (E.B ρ (aP l q 11)||(decide (0<E.I ρ (.fn 251 (.pr C (.pr c1 (.pr c3 (.pr c6 c7))))))&&E.B ρ (.fn 222 (.pr C (.pr c1 (.int 8))))))):
  E.B ρ (.fn 260 (.pr (fQ l q 11 (fQ l q 5 l (.fn 252 (.pr (aP l q 5) (.fn 251 (.pr C (.pr c1 (.pr c3 (.pr c6 c7)))))))) b) (.pr l (.pr q (.pr C (.pr c1 (.pr c3 (.pr c6 c7))))))))=true:=by
 rw[aKb]
 have g5:=FC (ρ:=ρ) (l:=l) (i:=q) (L:=l) (v:=.fn 252 (.pr (aP l q 5) (.fn 251 (.pr C (.pr c1 (.pr c3 (.pr c6 c7))))))) 5 h0;have g11:=FC (ρ:=ρ) (l:=l) (i:=q) (L:=fQ l q 5 l (.fn 252 (.pr (aP l q 5) (.fn 251 (.pr C (.pr c1 (.pr c3 (.pr c6 c7)))))))) (v:=b) 11 h0;have e5:=@qg ρ l q 5 h0;have e11:=@qg ρ l q 11 h0;have s:E.L ρ (fQ l q 11 _ b)=_:=g11.trans (congrArg (fun M=>M.set ((E.I ρ q).toNat*12+11) (b.den ρ)) g5)
 rw[s]
 refine Kt (U.eqs_rfl _) ?_ ?_
 ·show U.eq (.int (fI ((aP l q (5:Nat)).den ρ).toI _)) _=true
  rw[e5];exact U.eq_rfl _
 ·rw[hb]
  have:E.B ρ (aP l q 11)=((aP l q (11:Nat)).den ρ).toB:=rfl
  rw[this,e11];exact U.eq_rfl _
end
end Go.SX

set_option linter.unusedVariables false
set_option linter.unusedSectionVars false
set_option linter.unusedSimpArgs false
namespace Go.SX
/-- what comes in as cards: their powers are numbers of 64 bits -/
theorem aJP{u:U}{ks:List U}(hl:ks.length=14)(h8:ks[8]? =some (.int 3))(q:U.typs u.toL ks []=true):((List.range (u.toL.length/14)).all fun i=>kJ (nI u.toL (i*14+8)))=true:=by
  rw[List.all_eq_true]
  intro i hi;have hi:=List.mem_range.1 hi;have hlt:i*14+8<u.toL.length:=by omega
  obtain⟨k,k1,k2⟩:=afV _ ks.length (Nat.le_refl _) (by grind) _ _ (List.getElem?_eq_getElem hlt)
  rw[hl,show(14+(i*14+8))%14=8 by omega,h8]at k1
  have:=Option.some.inj k1
  subst this;unfold nI kJ
  rw[List.getD_eq_getElem?_getD,List.getElem?_eq_getElem hlt,Option.getD_some]
  generalize u.toL[i*14+8]=v at k2;cases v with
  |int x=>
    have:=(of_decide_eq_true k2).2
    exact decide_eq_true this
  |bool b=>rfl
  |str s=>rfl
  |lst l=>rfl
  |bx a n c l=>rfl
section
variable {O:E} {ρ:Env} {x y l A B a b k u i j p q n m r o c d w v X Y W R T N L e t C z l0 l1 l2 l3 l4 l5 l6 l7 l8 l9 l10 l11 l12:E}
theorem agf:(E.B ρ (.fn 256 (.pr Y (.pr C X)))=true)=(ER (Y.den ρ) (E.L ρ C) (X.den ρ)=true):=rfl
theorem agh:(E.B ρ (.fn 259 (.pr W (.pr C X)))=true)=(GH (W.den ρ) (E.L ρ C) (X.den ρ)=true):=rfl
theorem Ef:(E.I ρ (.fn 0 (.fn 1 (.pr X (.int 31))))).toNat=(aC (X.den ρ)).length:=by rw[El];rfl
/-- a board's numbers but for a life -/
noncomputable def Ms(X v:E)(P:Nat):E:=cU (fL.map fun j=>if j=1+14*P then v else .fn 1 (.pr X (.int (Int.ofNat j))))
theorem afD(P:Nat)(hP:P=1-bI (X.den ρ))(e:E.I ρ v=E.I ρ (.fn 254 (.pr C (.pr X (.fn 0 (.fn 1 (.pr X (.int 31)))))))):E.B ρ (.fn 256 (.pr (Ms X v P) (.pr C X)))=true:=by
 rw[jV,Ef]at e
 rw[agf]
 unfold ER
 rw[List.all_eq_true]
 intro k hk;have hl:fL.length=25:=rfl
 have:=kU (ρ:=ρ) (fL.map fun j=>if j=1+14*P then v else E.fn 1 (.pr X (.int (Int.ofNat j)))) k (by simp_all)
 have g:cX ((Ms X v P).den ρ) k=(if fL.getD k 0=1+14*P then v else E.fn 1 (.pr X (.int (Int.ofNat (fL.getD k 0))))).den ρ:=by
  simp_all[Ms]
 unfold iX
 rw[g]
 by_cases c:fL.getD k 0=1+14*P
 ·rw[if_pos c,if_pos (by simp_all),<- e]
  exact beq_self_eq_true _
 ·rw[if_neg c,if_neg (by simp_all)]
  exact U.eq_rfl _
/-- the reference's board -/
noncomputable def s7(Y c v:E)(P:Nat):E:=cU ((List.range 38).map fun j=>if j=0 then c else if j=31\/j=32 then .fn 30 (.int 0)else if j=1+14*P then v else .fn 1 (.pr Y (.int (Int.ofNat j))))
theorem qo(P j:Nat)(h:j<38):cX ((s7 Y c v P).den ρ) j=(if j=0 then c else if j=31\/j=32 then E.fn 30 (.int 0)else if j=1+14*P then v else E.fn 1 (.pr Y (.int (Int.ofNat j)))).den ρ:=by
 have:=kU (ρ:=ρ) ((List.range 38).map fun j=>if j=0 then c else if j=31\/j=32 then E.fn 30 (.int 0)else if j=1+14*P then v else .fn 1 (.pr Y (.int (Int.ofNat j)))) j (by simp_all)
 refine Eq.trans this ?_;simp_all
theorem aEh(P:Nat):((s7 Y c v P).den ρ).toL.length=38:=by
 rfl
theorem s8{Y X:U}(h:zV Y X=true){j:Nat}(hj:j<38)(h0:¬j=0):(if j==29||j==30 then fw (cX Y j).toL (cX X j).toL&&(ep (cX Y j)&&gn (cX Y j).toL)else U.eq (cX Y j) (cX X j))=true:=by
 grind[zV]
theorem afF(P:Nat)(hP:P=1-bI (X.den ρ))(h:E.B ρ (.fn 196 (.pr Y X))=true)(e:E.I ρ v=E.I ρ (.fn 254 (.pr C (.pr X (.fn 0 (.fn 1 (.pr X (.int 31))))))))(g:E.B ρ (.fn 257 (.pr l (.pr C (.pr X (.fn 0 (.fn 1 (.pr X (.int 31))))))))=true):
  E.B ρ (.fn 259 (.pr (s7 Y (.fn 28 (.pr z l)) v P) (.pr C X)))=true:=by
 rw[jV,Ef]at e
 rw[At,Ef]at g
 rw[agh]
 unfold GH
 rw[List.all_eq_true]
 intro j hj;have hj:=List.mem_range.1 hj;unfold iX
 rw[qo P j hj]
 by_cases h0:j=0
 ·subst h0;exact g
 ·have hb0:¬((j==0)=true):=by simp_all
  rw[if_neg h0,if_neg hb0]
  by_cases h1:j=31\/j=32
  ·rw[if_pos h1,if_pos (by simp_all)];rfl
  ·rw[if_neg h1,if_neg (by simp_all)]
   have s:=s8 h hj h0;by_cases h9:(j==29||j==30)=true
   ·have:¬j=1+14*P:=by
     grind
    rw[if_pos h9,if_neg this]
    rw[if_pos h9]at s
    exact s
   ·rw[if_neg h9]
    rw[if_neg h9]at s
    by_cases hl:j=1+14*P
    ·rw[if_pos hl,if_pos (by simp_all)]
     exact beq_iff_eq.2 e
    ·rw[if_neg hl,if_neg (by simp_all)]
     exact s
theorem aDF(l:List U){X:U}(hv:iI X=true)(n:Nat)(hn:n<=(aC X).length):(kF l X n).length=(cX X 0).toL.length:=by
 rw[Ln l (Dp hv) n hn,DL]
theorem afg(P:Nat)(hP:P<=1)(h:E.B ρ (.fn 196 (.pr Y X))=true)(hX:E.B ρ (.fn 116 X)=true):E.B ρ (.fn 116 (s7 Y (.fn 28 c) v P))=true:=by
 rw[wv]at hX ⊢
 refine⟨aEh P,fun j hj=>?_,?_,?_⟩
 ·have hj38:j<38/\¬j=1+14*P:=by simp only[List.mem_cons,List.not_mem_nil,or_false]at hj;omega
  rw[qo P j hj38.1]
  by_cases h0:j=0
  ·rw[if_pos h0];rfl
  ·rw[if_neg h0]
   by_cases h1:j=31\/j=32
   ·rw[if_pos h1];rfl
   ·rw[if_neg h1,if_neg hj38.2]
    have s:=s8 h hj38.1 h0;split at s
    ·simp only[Bool.and_eq_true]at s;exact s.2.1
    ·exact aC7 s (hX.2.1 j hj)
 ·rw[qo P 29 (by decide)]
  have s:=s8 h (j:=29) (by decide) (by decide)
  rw[if_pos (by rfl)]at s
  simp only[Bool.and_eq_true]at s
  rw[if_neg (by decide),if_neg (by decide),if_neg (by omega)]
  exact s.2.2
 ·rw[qo P 30 (by decide)]
  have s:=s8 h (j:=30) (by decide) (by decide)
  rw[if_pos (by rfl)]at s
  simp only[Bool.and_eq_true]at s
  rw[if_neg (by decide),if_neg (by decide),if_neg (by omega)]
  exact s.2.2
theorem aF9{Y X:U}(hs:iE X=true)(hz:∀k,k<8->bh Y k=bh X k)(e29:fw (cX Y 29).toL (cX X 29).toL=true)(e30:fw (cX Y 30).toL (cX X 30).toL=true)(ho:aK Y=aK X)(ha:(aC Y).length<=30)(hb:bc Y<=30):iE Y=true:=by
 have n29:=((gO _ _).1 e29).1;have n30:=((gO _ _).1 e30).1;have es:b8 Y=b8 X:=n29;have ezz:((List.range 8).all fun z=>decide ((bh Y z).length<=40))=(List.range 8).all fun z=>decide ((bh X z).length<=40):=xU fun k hk=>by simp_all
 unfold iE at hs ⊢
 rw[ezz,ho,es,n30]
 rw[s9 e29 _ (by exact Nat.le_refl _),s9 e30 _ (Nat.le_refl _)]
 simp_all
theorem afh(P:Nat)(hP:P<=1)(h:E.B ρ (.fn 196 (.pr Y X))=true)(hv:E.B ρ (.fn 115 X)=true)(hs:E.B ρ (.fn 117 X)=true)(g:E.B ρ (.fn 257 (.pr l (.pr C (.pr X (.fn 0 (.fn 1 (.pr X (.int 31))))))))=true):
  E.B ρ (.fn 117 (s7 Y (.fn 28 (.pr z l)) v P))=true:=by
 rw[Aq]at h
 rw[At,Ef]at g
 have gl:=gI g
 rw[aDF _ hv _ (Nat.le_refl _)]at gl
 have cell:∀j,j<38->¬j=0->¬(j=31\/j=32)->¬j=1+14*P->cX ((s7 Y (.fn 28 (.pr z l)) v P).den ρ) j=cX (Y.den ρ) j:=fun j hj h0 h1 h2=>by
  rw[qo P j hj,if_neg h0,if_neg h1,if_neg h2];rfl
 have it:∀j,(j==29||j==30)=true->j<38->fw (cX (Y.den ρ) j).toL (cX (X.den ρ) j).toL=true:=fun j hj h38=>by
  grind[s8]
 refine aF9 hs (fun k hk=>?_) ?_ ?_ ?_ ?_ ?_
 ·have hk:k=0\/k=1\/k=2\/k=3\/k=4\/k=5\/k=6\/k=7:=by omega
  have z:∀j,j<38->(j==29||j==30)=false->¬j=0->¬(j=31\/j=32)->¬j=1+14*P->bA (cX _ j)=bA (cX (X.den ρ) j):=fun j hj h9 h0 h1 h2=>by
   rw[cell j hj h0 h1 h2]
   have:=s8 h hj h0
   rw[h9]at this
   exact yB (pF this)
  rcases hk with rfl|rfl|rfl|rfl|rfl|rfl|rfl|rfl<;>exact z _ (by decide) (by rfl) (by decide) (by decide) (by omega)
 ·grind
 ·grind
 ·unfold aK
  rw[qo P 0 (by decide)]
  exact congrArg (· / 12) gl
 ·exact Nat.zero_le _
 ·exact(by decide:0/2<=30)
theorem wh{j:Nat}(h:E.B ρ (.fn 196 (.pr Y X))=true)(h1:0<j/\j<38)(h2:(j==29||j==30)=false):E.I ρ (.fn 1 (.pr Y (.int (j:Int))))=E.I ρ (.fn 1 (.pr X (.int (j:Int)))):=by
 have s:=s8 h h1.2 (by omega)
 rw[h2]at s
 exact jF s
theorem aE6(hm:E.B ρ (.fn 253 (.pr m (.pr C (.pr X (.fn 9 (.pr (.fn 1 (.pr X (.int 32))) (.int 2)))))))=true)(h:E.B ρ (.fn 255 (.pr l (.pr C (.pr X i))))=true)(h0:0<=E.I ρ i)(h1:E.I ρ i<E.I ρ (.fn 9 (.pr (.fn 1 (.pr X (.int 0))) (.int 12))))
  (g:E.B ρ (.fn 33 (.pr m (aP l i 0)))=true):(E.fn 1 (.pr (.fn 32 (.pr m (.pr (aP l i 0) d))) (.int 1))).den ρ=.bool (false||E.B ρ (.fn 1 (.pr (.fn 32 (.pr m (.pr (aP l i 0) d))) (.int 1)))):=by
 have f:=EU hm h h0 h1;have e:E.B ρ (.fn 33 (.pr m (aP l i 0)))=(cF (E.I ρ _) (E.L ρ m)).isSome:=rfl;have er:(E.fn 32 (.pr m (.pr (aP l i 0) d))).den ρ=(cF (E.I ρ _) (E.L ρ m)).getD _:=rfl
 rw[f]at er
 cases hp:f6 (oI (X.den ρ) (E.I ρ i).toNat 0) (fX (E.L ρ C) (X.den ρ) (bc (X.den ρ)))with
 |none=>simp_all
 |some v=>
  rw[hp]at er
  have e1:(E.fn 1 (.pr (.fn 32 (.pr m (.pr (aP l i 0) d))) (.int 1))).den ρ=.bool v.2:=by
   show(((E.fn 32 _).den ρ).toL.getD 1 _)=_
   rw[er];rfl
  have e2:E.B ρ (.fn 1 (.pr (.fn 32 (.pr m (.pr (aP l i 0) d))) (.int 1)))=v.2:=by
   show((E.fn 1 _).den ρ).toB=_
   rw[e1];rfl
  simp_all
theorem aCR:(E.fn 222 a).den ρ=.bool (false||(true&&E.B ρ (.fn 222 a))):=rfl
theorem Kx(h0:0<=E.I ρ q):E.B ρ (aP (fQ l q 5 l v) q 11)=E.B ρ (aP l q 11):=by
 have e:=@qg ρ (fQ l q 5 l v) q 11 h0;have e2:=@qg ρ l q 11 h0;have g:=FC (ρ:=ρ) (l:=l) (i:=q) (L:=l) (v:=v) 5 h0;have g:E.L ρ (fQ l q 5 l v)=_:=g
 rw[g,aax (by omega)]at e
 show((aP _ q (11:Nat)).den ρ).toB=((aP l q (11:Nat)).den ρ).toB
 rw[e,e2]
theorem aBv(h:¬E.B ρ (.fn 230 (.pr (.fn 1 (.pr X (.int 32))) (.pr k i)))=true){q:Nat}(hq:(q:Int)<E.I ρ i):blk (X.den ρ) q 1≠E.I ρ k:=fun e=>h (by
 show ug _ 1 _ (E.I ρ i).toNat=true;unfold ug
 rw[List.any_eq_true]
 exact⟨q,List.mem_range.2 (by omega),by rw[beq_iff_eq];exact e⟩)
theorem aJm(hv:E.B ρ (.fn 115 X)=true)(h:¬E.B ρ (.fn 230 (.pr (.fn 1 (.pr X (.int 32))) (.pr k i)))=true)(hi:E.I ρ i=E.I ρ (.fn 9 (.pr (.fn 1 (.pr X (.int 32))) (.int 2)))):E.I ρ (.fn 258 (.pr X k))=0:=by
 rw[tq,xY (ni hv)]
 have e:E.I ρ (.fn 9 (.pr (.fn 1 (.pr X (.int 32))) (.int 2)))=bc (X.den ρ):=rfl;grind[aBv]
theorem aJn(hv:E.B ρ (.fn 115 X)=true)(h0:0<=E.I ρ i)(h1:E.I ρ i<E.I ρ (.fn 9 (.pr (.fn 1 (.pr X (.int 32))) (.int 2))))
  (g:E.I ρ (.fn 1 (.pr (.fn 1 (.pr X (.int 32))) (.fn 6 (.pr (.fn 8 (.pr i (.int 2))) (.int 1)))))=E.I ρ k):E.I ρ (.fn 258 (.pr X k))=E.I ρ (.fn 1 (.pr (.fn 1 (.pr X (.int 32))) (.fn 6 (.pr (.fn 8 (.pr i (.int 2))) (.int 0))))):=by
 have e0:=um (X:=X) (T:=.fn 1 _) (U.eqs_rfl _) h0 0;have e1:=um (X:=X) (T:=.fn 1 _) (U.eqs_rfl _) h0 1;have e:E.I ρ (.fn 9 (.pr (.fn 1 (.pr X (.int 32))) (.int 2)))=bc (X.den ρ):=rfl
 rw[tq,<- g]
 simp_all[CH,ni]
theorem tk{x:Int}(h0:0<=x)(h1:x<18446744073709551616):IntKind.i64.wrap x=x\/(9223372036854775808<=x/\IntKind.i64.wrap x=x-18446744073709551616):=by
 simp only[IntKind.wrap,IntKind.bits];grind
theorem fF:(E.B ρ (.fn 262 (.pr a (.pr b c)))=true)=((-9223372036854775808<=E.I ρ a/\E.I ρ a<=9223372036854775807)/\(-9223372036854775808<=E.I ρ b/\E.I ρ b<=9223372036854775807)/\(-9223372036854775808<=E.I ρ c/\E.I ρ c<=9223372036854775807)):=by
 show((kJ (E.I ρ a)&&kJ (E.I ρ b)&&kJ (E.I ρ c))=true)=_
 simp_all[kJ,and_assoc]
theorem aJo(h:E.B ρ (.fn 261 C)=true)(h0:¬E.I ρ c<0)(h1:E.I ρ c<E.I ρ (.fn 9 (.pr C (.int 14)))):
  -9223372036854775808<=E.I ρ (.fn 1 (.pr C (.fn 6 (.pr (.fn 8 (.pr c (.int 14))) (.int 8)))))/\E.I ρ (.fn 1 (.pr C (.fn 6 (.pr (.fn 8 (.pr c (.int 14))) (.int 8)))))<=9223372036854775807:=by
 have h:((List.range ((E.L ρ C).length/14)).all fun i=>kJ (nI (E.L ρ C) _))=true:=h
 rw[List.all_eq_true]at h
 have e:E.I ρ (.fn 9 (.pr C (.int 14)))=(E.L ρ C).length/14:=rfl;have g:=h (E.I ρ c).toNat (List.mem_range.2 (by omega));have g:=of_decide_eq_true g;have e2:E.I ρ (.fn 1 (.pr C (.fn 6 (.pr (.fn 8 (.pr c (.int 14))) (.int 8)))))=nI (E.L ρ C) ((E.I ρ c).toNat*14+8):=by
  show nI (E.L ρ C) (E.I ρ c*14+8).toNat=_;grind
 omega
theorem EV{X:U}(hv:iI X=true){i:Nat}(hi:i<aK X)(j:Nat)(hj:j∈[3,4,5,6,7,8]):0<=oI X i j/\oI X i j<=99:=by
 have h:=vI (Dp hv).pl;unfold qi at h
 rw[List.all_eq_true]at h
 have g:=h i (List.mem_range.2 hi);unfold oO at g;grind[iu]
theorem Gq(hv:E.B ρ (.fn 115 X)=true)(hO:U.eqs (E.L ρ O) (cX (X.den ρ) 0).toL=true)(h0:0<=E.I ρ q)(h1:E.I ρ q<E.I ρ (.fn 9 (.pr (.fn 1 (.pr X (.int 0))) (.int 12)))):
  E.B ρ (.fn 262 (.pr (aP O q 3) (.pr (aP O q 6) (aP O q 7))))=true:=by
 have e:E.I ρ (.fn 9 (.pr (.fn 1 (.pr X (.int 0))) (.int 12)))=aK (X.den ρ):=rfl;have hi:(E.I ρ q).toNat<aK (X.den ρ):=by omega
 rw[fF]
 have e3:=qf (ρ:=ρ) (X:=X) 3 hO h0;have e6:=qf (ρ:=ρ) (X:=X) 6 hO h0;have e7:=qf (ρ:=ρ) (X:=X) 7 hO h0;have r3:=EV hv hi 3 (by decide);have r6:=EV hv hi 6 (by decide);have r7:=EV hv hi 7 (by decide);grind
theorem adS{l:List U}{X:U}{k:Int}{v:Int×Bool}:∀ {n:Nat},f6 k (fX l X n)=some v->0<=v.1/\v.1<=99
 |0,h=>by cases h
 |n+1,h=>by
  unfold fX at h
  rw[vJ,vJ]at h
  split at h
  ·rw[<- Option.some.inj h];exact Fw _ _ _ _ _
  ·split at h
   ·rw[<- Option.some.inj h];exact Fw _ _ _ _ _
   ·exact adS h
theorem aJp(hv:E.B ρ (.fn 115 X)=true)(hm:E.B ρ (.fn 253 (.pr m (.pr C (.pr X (.fn 9 (.pr (.fn 1 (.pr X (.int 32))) (.int 2)))))))=true)(h:E.B ρ (.fn 255 (.pr l (.pr C (.pr X i))))=true)(h0:0<=E.I ρ i)(h1:E.I ρ i<E.I ρ (.fn 9 (.pr (.fn 1 (.pr X (.int 0))) (.int 12))))
  (g:E.B ρ (.fn 33 (.pr m (aP l i 0)))=true):E.B ρ (.fn 262 (.pr (aP l i 5) (.pr (.fn 1 (.pr (.fn 32 (.pr m (.pr (aP l i 0) d))) (.int 0))) (.int 0))))=true:=by
 have f:=EU hm h h0 h1;have e:E.B ρ (.fn 33 (.pr m (aP l i 0)))=(cF (E.I ρ _) (E.L ρ m)).isSome:=rfl;have er:(E.fn 32 (.pr m (.pr (aP l i 0) d))).den ρ=(cF (E.I ρ _) (E.L ρ m)).getD _:=rfl;have en:E.I ρ (.fn 9 (.pr (.fn 1 (.pr X (.int 0))) (.int 12)))=aK (X.den ρ):=rfl
 rw[f]at er
 have hi:(E.I ρ i).toNat<aK (X.den ρ):=by omega
 have e5:0<=E.I ρ (aP l i 5)/\E.I ρ (aP l i 5)<=99:=by
  have:=qg (l:=l) 5 h0
  show 0<=((aP l i (5:Nat)).den ρ).toI/\((aP l i (5:Nat)).den ρ).toI<=99
  rw[tp]at h
  rw[this,jF (je _ h)]
  unfold iq;have hlt:(E.I ρ i).toNat*12+5<(cX (X.den ρ) 0).toL.length:=by grind[aK]
  rw[uP _ _ _ hlt]
  split
  ·grind
  ·exact EV hv hi 5 (by decide)
 cases hp:f6 (oI (X.den ρ) (E.I ρ i).toNat 0) (fX (E.L ρ C) (X.den ρ) (bc (X.den ρ)))with
 |none=>simp_all
 |some v=>
  rw[hp]at er
  have e0:E.I ρ (.fn 1 (.pr (.fn 32 (.pr m (.pr (aP l i 0) d))) (.int 0)))=v.1:=by
   show(((E.fn 32 _).den ρ).toL.getD 0 _).toI=_
   rw[er];rfl
  have r:=adS hp;have z:E.I ρ (.int 0)=0:=rfl;grind[fF]
theorem aKk{zs:List E}{P:Nat}(hP:P<=1)(h:vf ρ X l0 l1 l2 l3 l4 l5 l6 l7 l8 l9 l10 l11 l12)
  (hq:E.B ρ (.cmp .eql q (.fn 120 (.pr (dc zs [l0,l1,l2,l3,l4,l5,l6,l7,l8,l9,l10,l11,l12] X P v) (.pr k (.fn 9 (.pr (.fn 28 (.pr z l0)) (.int 12)))))))=true):
  E.I ρ q=E.I ρ (.fn 120 (.pr X (.pr k (.fn 9 (.pr (.fn 1 (.pr X (.int 0))) (.int 12)))))):=by
 grind[cV,qy]
theorem aKl{zs:List E}{P:Nat}(hP:P<=1)(h:vf ρ X l0 l1 l2 l3 l4 l5 l6 l7 l8 l9 l10 l11 l12)
  (g:0<=E.I ρ (.fn 120 (.pr X (.pr k (.fn 9 (.pr (.fn 1 (.pr X (.int 0))) (.int 12))))))):
  E.B ρ (.not (.cmp .lss (.fn 120 (.pr (dc zs [l0,l1,l2,l3,l4,l5,l6,l7,l8,l9,l10,l11,l12] X P v) (.pr k (.fn 9 (.pr (.fn 28 (.pr z l0)) (.int 12)))))) (.int 0)))=true:=by
 have e:=qy (zs:=zs) (v:=v) (k:=k) (z:=z) hP h;simp only[aa];omega
/-- the program's board and the reference's -/
theorem aI2(hv:E.B ρ (.fn 115 X)=true)(h:E.B ρ (.fn 259 (.pr W (.pr C X)))=true)(hn:E.B ρ (.fn 256 (.pr Y (.pr C X)))=true)
    (h0:E.B ρ (.fn 255 (.pr l0 (.pr C (.pr X (.fn 9 (.pr (.fn 1 (.pr X (.int 0))) (.int 12)))))))=true)(h1:E.B ρ (.fn 200 (.pr l1 (.fn 1 (.pr X (.int 6)))))=true)(h2:E.B ρ (.fn 200 (.pr l2 (.fn 1 (.pr X (.int 7)))))=true)(h3:E.B ρ (.fn 200 (.pr l3 (.fn 1 (.pr X (.int 8)))))=true)(h4:E.B ρ (.fn 200 (.pr l4 (.fn 1 (.pr X (.int 9)))))=true)
    (h5:E.B ρ (.fn 200 (.pr l5 (.fn 1 (.pr X (.int 20)))))=true)(h6:E.B ρ (.fn 200 (.pr l6 (.fn 1 (.pr X (.int 21)))))=true)(h7:E.B ρ (.fn 200 (.pr l7 (.fn 1 (.pr X (.int 22)))))=true)(h8:E.B ρ (.fn 200 (.pr l8 (.fn 1 (.pr X (.int 23)))))=true)
    (h9:E.B ρ (.fn 187 (.pr l9 (.fn 1 (.pr X (.int 29)))))=true)(h10:E.B ρ (.fn 187 (.pr l10 (.fn 1 (.pr X (.int 30)))))=true)(h11:E.I ρ (.fn 0 l11)=0)(h12:E.I ρ (.fn 0 l12)=0):
    E.B ρ (C1 W Y l0 l1 l2 l3 l4 l5 l6 l7 l8 l9 l10 l11 l12)=true:=by
  rw[agh]at h
  rw[agf]at hn
  unfold GH at h;unfold ER at hn
  rw[List.all_eq_true]at hn h
  have ha:bI (X.den ρ)<=1:=by
    have:=jC hv
    show(E.I ρ (.fn 1 (.pr X (.int 34)))).toNat<=1
    omega
  have nil:∀ {q:E},E.I ρ (.fn 0 q)=0->(q.den ρ).toL= []:=fun {q} hq=>by
    have:E.I ρ (.fn 0 q)=(((q.den ρ).toL.length:Nat):Int):=rfl
    simp_all
  refine aKa ?_;unfold oZ
  rw[List.all_eq_true]
  intro j hj;have hj:=List.mem_range.1 hj;have W0:=fun(j:Nat) (hj:j<38)=>h j (List.mem_range.2 hj)
  have bx:∀ {q:E} (j:Nat),(j==29||j==30)=false->j<38->¬j=0->¬(j=31\/j=32)->¬j=1/\¬j=15->E.B ρ (.fn 200 (.pr q (.fn 1 (.pr X (.int (Int.ofNat j))))))=true->U.eqs (cX (W.den ρ) j).toL (q.den ρ).toL=true:=fun {q} j h9 h38 n0 hn n1 hq=>by
    have:=W0 j h38
    rw[if_neg (by simp_all),if_neg (by simp_all),h9,if_neg (by decide),if_neg (by grind)]at this
    have hq:U.eqs (q.den ρ).toL (cX (X.den ρ) j).toL=true:=hq;grind[yC,pF,KB]
  have it:∀ {q:E} (j:Nat),(j==29||j==30)=true->j<38->E.B ρ (.fn 187 (.pr q (.fn 1 (.pr X (.int (Int.ofNat j))))))=true->fw (cX (W.den ρ) j).toL (q.den ρ).toL=true:=fun {q} j h9 h38 hq=>by
    have:=W0 j h38
    have h9':=h9;simp only[Bool.or_eq_true,beq_iff_eq]at h9'
    rw[if_neg (by grind),if_neg (by grind),if_pos h9]at this
    simp only[Bool.and_eq_true]at this;have hq:fw (q.den ρ).toL (cX (X.den ρ) j).toL=true:=hq;grind[gO,yC,KB]
  cases e:g9.idxOf? j with
  |none=>
    obtain⟨t1,t2⟩:=aa1 hj e
    simp only[Bool.and_eq_true,decide_eq_true_eq,beq_iff_eq,Bool.not_eq_true']at t1 t2;have a:=hn (fL.idxOf j) (List.mem_range.2 t1.1);simp only[t1.2]at a;have ns:¬j∈ [0,6,7,8,9,20,21,22,23,29,30,31,32]:=fun hm=>by
      have:=List.contains_iff_mem.2 hm
      rw[t2.2]at this;cases this
    simp only[List.mem_cons,List.not_mem_nil,or_false,not_or]at ns;have b:=W0 j hj
    rw[if_neg (by simp only[beq_iff_eq];omega),if_neg (by simp only[Bool.or_eq_true,beq_iff_eq];omega),if_neg (by simp only[Bool.or_eq_true,beq_iff_eq];omega)]at b
    show gZ j (cX (W.den ρ) j) (cX (Y.den ρ) (fL.idxOf j))=true;unfold gZ
    rw[if_neg (by simp only[Bool.or_eq_true,beq_iff_eq];omega),if_neg (by simp only[List.contains_iff_mem,List.mem_cons,List.not_mem_nil,or_false];omega)]
    by_cases hl:j=1+14*(1-bI (X.den ρ))
    · rw[if_pos (by simpa using hl)]at b a
      have hb:¬j∈ [10,11,12,24,25,26]:=by
        simp only[List.mem_cons,List.not_mem_nil,or_false];omega
      rw[if_neg (by simpa[List.contains_iff_mem]using hb)]
      exact beq_iff_eq.2 ((beq_iff_eq.1 b).trans (beq_iff_eq.1 a).symm)
    · rw[if_neg (by simpa using hl)]at b a
      split
      · rw[yA b,yA a];exact beq_self_eq_true _
      · rw[jF b,jF a];exact beq_self_eq_true _
  |some i=>
    have t:=yU hj e;simp only[List.mem_cons,Prod.mk.injEq,List.not_mem_nil,or_false]at t;rcases t with⟨rfl,rfl⟩|⟨rfl,rfl⟩|⟨rfl,rfl⟩|⟨rfl,rfl⟩|⟨rfl,rfl⟩|⟨rfl,rfl⟩|⟨rfl,rfl⟩|⟨rfl,rfl⟩|⟨rfl,rfl⟩|⟨rfl,rfl⟩|⟨rfl,rfl⟩|⟨rfl,rfl⟩|⟨rfl,rfl⟩
    · have g:U.eqs (cX (W.den ρ) 0).toL (kF (E.L ρ C) (X.den ρ) (aC (X.den ρ)).length)=true:=W0 0 (by decide)
      rw[tp]at h0
      have en:(E.I ρ (.fn 9 (.pr (.fn 1 (.pr X (.int 0))) (.int 12)))).toNat=aK (X.den ρ):=rfl
      rw[en,aDG _ hv]at h0
      exact yC g (KB h0)
    · exact bx 6 rfl (by decide) (by decide) (by decide) (by decide) h1
    · exact bx 7 rfl (by decide) (by decide) (by decide) (by decide) h2
    · exact bx 8 rfl (by decide) (by decide) (by decide) (by decide) h3
    · exact bx 9 rfl (by decide) (by decide) (by decide) (by decide) h4
    · exact bx 20 rfl (by decide) (by decide) (by decide) (by decide) h5
    · exact bx 21 rfl (by decide) (by decide) (by decide) (by decide) h6
    · exact bx 22 rfl (by decide) (by decide) (by decide) (by decide) h7
    · exact bx 23 rfl (by decide) (by decide) (by decide) (by decide) h8
    · exact it 29 rfl (by decide) h9
    · exact it 30 rfl (by decide) h10
    · have g:=W0 31 (by decide);have g:(cX (W.den ρ) 31).toL.isEmpty=true:=g;show U.eqs (cX (W.den ρ) 31).toL (l11.den ρ).toL=true
      rw[nil h11,List.isEmpty_iff.1 g];rfl
    · have g:=W0 32 (by decide);have g:(cX (W.den ρ) 32).toL.isEmpty=true:=g;show U.eqs (cX (W.den ρ) 32).toL (l12.den ρ).toL=true
      rw[nil h12,List.isEmpty_iff.1 g];rfl
end
end Go.SX

