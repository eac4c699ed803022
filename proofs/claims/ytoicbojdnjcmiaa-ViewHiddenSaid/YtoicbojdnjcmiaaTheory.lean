/-
  What the program's own functions say
-/
import Derived.Test.YtoicbojdnjcmiaaSXe
set_option linter.unusedVariables false
set_option linter.unusedSimpArgs false
namespace Go.SX
/-! ### Boards: what is valid -/
noncomputable def ints (ρ:Env) (e:E):List Int:=(E.L ρ e).map U.toI
theorem getD_map (l:List U) (k:Nat):(l.getD k (.int 0)).toI=(l.map U.toI).getD k 0:=by
 simp only [List.getD_eq_getElem?_getD,List.getElem?_map]
 cases l[k]? <;> rfl
theorem all_range {p:Nat→Bool} (n:Nat):(List.range n).all p=true↔∀ i,i < n→p i=true:=by
 simp [List.all_eq_true,List.mem_range]
theorem aimsOk_iff (l:List U) (n:Nat):aimsOk l n=true↔∀ i,i < n→aimOk (nI l (i * 2)) (nI l (i * 2 + 1))=true:=by
 unfold aimsOk; exact all_range n
theorem itemsOk_iff (l:List U) (q:Bool) (n:Nat):itemsOk l q n=true↔∀ i,i < n→itemOk (nI l (i * 5)) (nI l (i * 5 + 1)) (nI l (i * 5 + 2)) (nI l (i * 5 + 3)) (l.getD (i * 5 + 4) (.int 0)).toL q=true:=by
 unfold itemsOk; exact all_range n
theorem inR_iff (a x b:Int):inR a x b=true↔a≤x∧x≤b:=by unfold inR; simp
theorem aimOk_iff (a b:Int):aimOk a b=true↔0≤a∧a≤500∧0≤b∧b≤1∧(a=0∨b=0):=by
 unfold aimOk; simp only [Bool.and_eq_true,Bool.or_eq_true,inR_iff,beq_iff_eq,and_assoc]
/-- a row of a list whose rows have w cells -/
def rowE (T : E) (i : E) (w j : Nat) : E := .fn 1 (.pr T (.fn 6 (.pr (.fn 8 (.pr i (.int (Int.ofNat w)))) (.int (Int.ofNat j)))))
section
variable {ρ : Env} {x y l A a b k u i j p q n m r o c d w v X T N L : E}
theorem ints_len:((ints ρ l).length:Int)=E.I ρ (.fn 0 l):=by
 show (((E.L ρ l).map U.toI).length:Int)=((E.L ρ l).length:Int)
 simp
theorem I_nth:E.I ρ (.fn 1 (.pr l i))=(ints ρ l).getD (E.I ρ i).toNat 0:=getD_map _ _
theorem I_row (i:E) (w j:Nat) (h:0≤E.I ρ i):E.I ρ (.fn 1 (.pr T (.fn 6 (.pr (.fn 8 (.pr i (.int (Int.ofNat w)))) (.int (Int.ofNat j))))))=nI (E.L ρ T) ((E.I ρ i).toNat * w + j):=by
 show ((E.L ρ T).getD (E.I ρ i * (w:Int) + (j:Int)).toNat (.int 0)).toI=_
 have e:(E.I ρ i * (w:Int) + (j:Int)).toNat=(E.I ρ i).toNat * w + j:=by
  obtain ⟨n,hn⟩:=Int.eq_ofNat_of_zero_le h
  rw [hn]
  simp only [Int.toNat_natCast]
  omega
 rw [e]; rfl
theorem L_row (i:E) (w j:Nat) (h:0≤E.I ρ i):E.L ρ (.fn 1 (.pr T (.fn 6 (.pr (.fn 8 (.pr i (.int (Int.ofNat w)))) (.int (Int.ofNat j))))))=((E.L ρ T).getD ((E.I ρ i).toNat * w + j) (.int 0)).toL:=by
 show ((E.L ρ T).getD (E.I ρ i * (w:Int) + (j:Int)).toNat (.int 0)).toL=_
 have e:(E.I ρ i * (w:Int) + (j:Int)).toNat=(E.I ρ i).toNat * w + j:=by
  obtain ⟨n,hn⟩:=Int.eq_ofNat_of_zero_le h
  rw [hn]
  simp only [Int.toNat_natCast]
  omega
 rw [e]
/-! targets -/
theorem z101:(E.B ρ (.fn 101 (.pr T n))=true)=(aimsOk (E.L ρ T) (E.I ρ n).toNat=true):=rfl
theorem t101_zero (h:E.I ρ n≤0):E.B ρ (.fn 101 (.pr T n))=true:=by
 rw [z101,aimsOk_iff]; intro i hi; omega
theorem t101_step (h:E.B ρ (.fn 101 (.pr T i))=true) (h0:0≤E.I ρ i) (hm:E.I ρ m=E.I ρ i + 1) {a b:E} (ea:a=rowE T i 2 0) (eb:b=rowE T i 2 1)
  (ha:0≤E.I ρ a∧E.I ρ a≤500∧0≤E.I ρ b∧E.I ρ b≤1∧(E.I ρ a=0∨E.I ρ b=0)):E.B ρ (.fn 101 (.pr T m))=true:=by
 subst ea; subst eb
 rw [z101,aimsOk_iff] at *
 intro k hk
 by_cases e:k=(E.I ρ i).toNat
 ·subst e
  unfold rowE at ha
  rw [I_row (T:=T) i 2 0 h0,I_row (T:=T) i 2 1 h0] at ha
  exact (aimOk_iff _ _).2 ha
 ·exact h k (by omega)
theorem t101_fail (h0:0≤E.I ρ i) (h1:E.I ρ i < E.I ρ N) {a b:E} (ea:a=rowE T i 2 0) (eb:b=rowE T i 2 1)
  (ha:¬ (0≤E.I ρ a∧E.I ρ a≤500∧0≤E.I ρ b∧E.I ρ b≤1∧(E.I ρ a=0∨E.I ρ b=0))):¬ (E.B ρ (.fn 101 (.pr T N))=true):=by
 subst ea; subst eb
 intro h
 rw [z101,aimsOk_iff] at h
 apply ha
 unfold rowE
 rw [I_row (T:=T) i 2 0 h0,I_row (T:=T) i 2 1 h0]
 exact (aimOk_iff _ _).1 (h (E.I ρ i).toNat (by omega))
theorem t101_end (h:E.B ρ (.fn 101 (.pr T i))=true) (h1:E.I ρ N≤E.I ρ i):E.B ρ (.fn 101 (.pr T N))=true:=by
 rw [z101,aimsOk_iff] at *
 intro k hk; exact h k (by omega)
/-! items -/
theorem z102:(E.B ρ (.fn 102 (.pr p (.pr i (.pr c (.pr k (.pr T q))))))=true)=(0≤E.I ρ p∧E.I ρ p≤1∧1≤E.I ρ i∧E.I ρ i≤500∧0≤E.I ρ c∧E.I ρ c≤399∧-1≤E.I ρ k∧E.I ρ k≤1∧E.I ρ (.fn 9 (.pr T (.int 2)))≤4 ∧
  (E.I ρ k < 0∨E.I ρ (.fn 9 (.pr T (.int 2)))=0)∧(E.B ρ q=true→0≤E.I ρ k)∧E.B ρ (.fn 101 (.pr T (.fn 9 (.pr T (.int 2)))))=true):=by
 show (itemOk (E.I ρ p) (E.I ρ i) (E.I ρ c) (E.I ρ k) (E.L ρ T) (E.B ρ q)=true)=_
 rw [z101]
 have e9:E.I ρ (.fn 9 (.pr T (.int 2)))=(((E.L ρ T).length / 2:Nat):Int):=rfl
 rw [e9]
 unfold itemOk
 simp only [Int.toNat_natCast]
 generalize (E.L ρ T).length / 2=z
 generalize aimsOk (E.L ρ T) z=al
 simp only [Bool.and_eq_true,inR_iff,Bool.or_eq_true,decide_eq_true_eq,beq_iff_eq,Bool.not_eq_true',and_assoc]
 apply propext
 cases E.B ρ q <;> grind
theorem z103:(E.B ρ (.fn 103 (.pr L (.pr q n)))=true)=(itemsOk (E.L ρ L) (E.B ρ q) (E.I ρ n).toNat=true):=rfl
theorem t103_zero (h:E.I ρ n≤0):E.B ρ (.fn 103 (.pr L (.pr q n)))=true:=by
 rw [z103,itemsOk_iff]; intro i hi; omega
theorem z102r (i:E) (h0:0≤E.I ρ i):(E.B ρ (.fn 102 (.pr (rowE L i 5 0) (.pr (rowE L i 5 1) (.pr (rowE L i 5 2) (.pr (rowE L i 5 3) (.pr (rowE L i 5 4) q))))))=true) =
  (itemOk (nI (E.L ρ L) ((E.I ρ i).toNat * 5)) (nI (E.L ρ L) ((E.I ρ i).toNat * 5 + 1)) (nI (E.L ρ L) ((E.I ρ i).toNat * 5 + 2)) (nI (E.L ρ L) ((E.I ρ i).toNat * 5 + 3)) ((E.L ρ L).getD ((E.I ρ i).toNat * 5 + 4) (.int 0)).toL (E.B ρ q)=true):=by
 show (itemOk (E.I ρ (rowE L i 5 0)) (E.I ρ (rowE L i 5 1)) (E.I ρ (rowE L i 5 2)) (E.I ρ (rowE L i 5 3)) (E.L ρ (rowE L i 5 4)) (E.B ρ q)=true)=_
 unfold rowE
 rw [I_row i 5 0 h0,I_row i 5 1 h0,I_row i 5 2 h0,I_row i 5 3 h0,L_row i 5 4 h0]
 rfl
theorem t103_step (h:E.B ρ (.fn 103 (.pr L (.pr q i)))=true) (h0:0≤E.I ρ i) (hm:E.I ρ m=E.I ρ i + 1) {a:E} (ea:a=.fn 102 (.pr (rowE L i 5 0) (.pr (rowE L i 5 1) (.pr (rowE L i 5 2) (.pr (rowE L i 5 3) (.pr (rowE L i 5 4) q))))))
  (ha:E.B ρ a=true):E.B ρ (.fn 103 (.pr L (.pr q m)))=true:=by
 subst ea
 rw [z102r i h0] at ha
 rw [z103,itemsOk_iff] at *
 intro k hk
 by_cases e:k=(E.I ρ i).toNat
 ·subst e; exact ha
 ·exact h k (by omega)
theorem t103_fail (h0:0≤E.I ρ i) (h1:E.I ρ i < E.I ρ N) {a:E} (ea:a=.fn 102 (.pr (rowE L i 5 0) (.pr (rowE L i 5 1) (.pr (rowE L i 5 2) (.pr (rowE L i 5 3) (.pr (rowE L i 5 4) q))))))
  (ha:¬ (E.B ρ a=true)):¬ (E.B ρ (.fn 103 (.pr L (.pr q N)))=true):=by
 subst ea
 intro h
 apply ha
 rw [z102r i h0]
 rw [z103,itemsOk_iff] at h
 exact h _ (by omega)
theorem t103_end (h:E.B ρ (.fn 103 (.pr L (.pr q i)))=true) (h1:E.I ρ N≤E.I ρ i):E.B ρ (.fn 103 (.pr L (.pr q N)))=true:=by
 rw [z103,itemsOk_iff] at *
 intro k hk; exact h k (by omega)
/-! lists of numbers -/
theorem z114:(E.B ρ (.fn 114 (.pr l k))=true)=(E.I ρ k∈ints ρ l):=by
 show ((toIs (E.den ρ l)).contains (E.I ρ k)=true)=_
 rw [List.contains_iff_mem]; rfl
theorem I_131:E.I ρ (.fn 131 (.pr l (.pr k n)))=(((ints ρ l).take (E.I ρ n).toNat).count (E.I ρ k):Nat):=rfl
theorem take_succ_getD (l:List Int) (n:Nat) (h:n < l.length):l.take (n + 1)=l.take n++[l.getD n 0]:=by
 rw [List.take_add_one,List.getD_eq_getElem?_getD,List.getElem?_eq_getElem h]; rfl
theorem t131_zero (h:E.I ρ n≤0):E.I ρ (.fn 131 (.pr l (.pr k n)))=0:=by
 rw [I_131]
 have e:(E.I ρ n).toNat=0:=by omega
 rw [e]; rfl
theorem t131_step (h0:0≤E.I ρ i) (h1:E.I ρ i < E.I ρ (.fn 0 l)) (hm:E.I ρ m=E.I ρ i + 1) :
  E.I ρ (.fn 131 (.pr l (.pr k m)))=E.I ρ (.fn 131 (.pr l (.pr k i))) + (if E.I ρ k=E.I ρ (.fn 1 (.pr l i)) then 1 else 0):=by
 rw [I_131,I_131,I_nth]
 rw [← ints_len] at h1
 have e:(E.I ρ m).toNat=(E.I ρ i).toNat + 1:=by omega
 rw [e,take_succ_getD _ _ (by omega),List.count_append]
 by_cases e:E.I ρ k=(ints ρ l).getD (E.I ρ i).toNat 0
 ·rw [if_pos e,e]; simp
 ·rw [if_neg e]
  have:List.count (E.I ρ k) [(ints ρ l).getD (E.I ρ i).toNat 0]=0:=by
   rw [List.count_eq_zero]; simpa using e
  rw [this]; rfl
theorem t131_end (h:E.I ρ (.fn 0 l)≤E.I ρ n):(E.B ρ (.fn 114 (.pr l k))=true)↔¬ (E.I ρ (.fn 131 (.pr l (.pr k n)))=0):=by
 rw [z114,I_131]
 rw [← ints_len] at h
 rw [List.take_of_length_le (by omega)]
 rw [← List.count_pos_iff]
 omega
theorem t114_nth (h0:0≤E.I ρ i) (h1:E.I ρ i < E.I ρ (.fn 0 l)) (he:E.I ρ k=E.I ρ (.fn 1 (.pr l i))):E.B ρ (.fn 114 (.pr l k))=true:=by
 rw [z114,he,I_nth]
 rw [← ints_len] at h1
 rw [List.getD_eq_getElem?_getD,List.getElem?_eq_getElem (by omega)]
 exact List.getElem_mem _
end
end Go.SX

set_option linter.unusedVariables false
set_option linter.unusedSimpArgs false
namespace Go.SX
/-! ### maps as lists of pairs -/
theorem mfind_cons (q:Int) (u:U) (m:List U):mfind q (u::m)=if u.fst.toI=q then some u.snd else mfind q m:=rfl
theorem mput_cons (k:Int) (v u:U) (m:List U):mput k v (u::m)=if u.fst.toI=k then .lst [.int k,v]::m else u::mput k v m:=rfl
theorem fst_pair (k:Int) (v:U):(U.lst [.int k,v]).fst.toI=k:=rfl
theorem snd_pair (k:Int) (v:U):(U.lst [.int k,v]).snd=v:=rfl
theorem mfind_mput (k q:Int) (v:U):∀ m:List U,mfind q (mput k v m)=if q=k then some v else mfind q m
 | []=>by
  show mfind q [U.lst [.int k,v]]=_
  rw [mfind_cons,fst_pair,snd_pair]
  by_cases h:q=k
  ·rw [if_pos h,if_pos h.symm]
  ·rw [if_neg h,if_neg (fun e=>h e.symm)]
 | u::l=>by
  rw [mput_cons]
  by_cases h:u.fst.toI=k
  ·rw [if_pos h,mfind_cons,fst_pair,snd_pair,mfind_cons,h]
   by_cases h2:q=k
   ·rw [if_pos h2,if_pos h2.symm]
   ·rw [if_neg h2,if_neg (fun e=>h2 e.symm),if_neg (fun e=>h2 e.symm)]
  ·rw [if_neg h,mfind_cons,mfind_mput k q v l,mfind_cons]
   by_cases h2:q=k
   ·rw [if_pos h2,if_neg (h2 ▸ h),if_pos h2]
   ·rw [if_neg h2,if_neg h2]
theorem pairs_mput (k:Int) (v:U):∀ m:List U,k ∉ (pairsU m).map Prod.fst→pairsU (mput k v m)=pairsU m++[(k,v.toI)]
 | [],_=>rfl
 | u::l,h=>by
  have e:pairsU (u::l)=(u.fst.toI,u.snd.toI)::pairsU l:=rfl
  rw [e] at h ⊢
  simp only [List.map_cons,List.mem_cons,not_or] at h
  rw [mput_cons,if_neg (fun e=>h.1 e.symm)]
  show (u.fst.toI,u.snd.toI)::pairsU (mput k v l)=_
  rw [pairs_mput k v l h.2]; rfl
theorem mfind_lkp (k:Int):∀ m:List U,(mfind k m).map U.toI=lkp (pairsU m) k
 | []=>rfl
 | u::l=>by
  have e:pairsU (u::l)=(u.fst.toI,u.snd.toI)::pairsU l:=rfl
  rw [mfind_cons,e]
  unfold lkp
  rw [List.find?_cons]
  by_cases h:u.fst.toI=k
  ·simp [h]
  ·have:=mfind_lkp k l
   unfold lkp at this
   have hb:(u.fst.toI == k)=false:=by simpa using h
   rw [if_neg h]
   simp only [hb]
   exact this
theorem mfind_some (k:Int) (m:List U):(mfind k m).isSome=true↔k∈(pairsU m).map Prod.fst:=by
 have h:=mfind_lkp k m
 have e:(mfind k m).isSome=(lkp (pairsU m) k).isSome:=by rw [← h]; cases mfind k m <;> rfl
 rw [e]; unfold lkp
 rw [Option.isSome_map,List.find?_isSome]
 simp
theorem lkp_mem {l:List (Int × Int)} {k v:Int} (h:lkp l k=some v):(k,v)∈l:=by
 unfold lkp at h
 cases hc:l.find? fun p=>p.1 == k with
 | none=>rw [hc] at h; simp at h
 | some p =>
  rw [hc] at h
  have h1:=List.find?_some hc
  have h2:=List.mem_of_find?_eq_some hc
  simp only [Option.map_some,Option.some.injEq] at h
  simp only [beq_iff_eq] at h1
  rw [← h,← h1]; exact h2
theorem lkp_of_mem:∀ {l:List (Int × Int)} {k v:Int},(l.map Prod.fst).Nodup→(k,v)∈l→lkp l k=some v
 | [],k,v,_,h=>by simp at h
 | p::l,k,v,hn,h=>by
  simp only [List.map_cons,List.nodup_cons] at hn
  unfold lkp
  rw [List.find?_cons]
  rcases List.mem_cons.1 h with e | e
  ·subst e; simp
  ·have hne:¬ p.1=k:=fun e2=>hn.1 (by rw [e2]; exact List.mem_map_of_mem (f:=Prod.fst) e)
   have:=lkp_of_mem hn.2 e
   unfold lkp at this
   have hb:(p.1 == k)=false:=by simpa using hne
   simp only [hb]
   exact this
theorem nodupB_iff:∀ l:List Int,nodupB l=true↔l.Nodup
 | []=>by simp [nodupB]
 | x::l=>by
  unfold nodupB
  rw [Bool.and_eq_true,nodupB_iff l,List.nodup_cons]
  simp
theorem mapIs_iff (m:List U) (l:List (Int × Int)):mapIs m l=true↔pairsU m=l∧(l.map Prod.fst).Nodup:=by
 unfold mapIs; rw [Bool.and_eq_true,nodupB_iff]; simp
theorem mapIs_put {m:List U} {l:List (Int × Int)} {k:Int} {v:U} (h:mapIs m l=true) (hk:¬ (mfind k m).isSome=true):mapIs (mput k v m) (l++[(k,v.toI)])=true:=by
 rw [mapIs_iff] at *
 rw [mfind_some,h.1] at hk
 rw [pairs_mput k v m (by rw [h.1]; exact hk),h.1]
 refine ⟨rfl,?_⟩
 rw [List.map_append,List.nodup_append]
 refine ⟨h.2,by simp,?_⟩
 intro a ha b hb e
 simp only [List.map_cons,List.map_nil,List.mem_singleton] at hb
 subst hb; subst e; exact hk ha
/-! the places, one after the other -/
theorem zonePre_succ (X:U) (k:Nat):zonePre X (k + 1)=zonePre X k++(zoneL X k).map fun i=>(i,((k / 4:Nat):Int)):=by
 unfold zonePre; rw [List.range_succ,List.flatMap_append]; simp
theorem preZ_zero (X:U):preZ X 0 0=[]:=by simp [preZ,zonePre]
theorem preZ_end (X:U) (k:Nat):preZ X k (zoneL X k).length=preZ X (k + 1) 0:=by
 unfold preZ; rw [List.take_length,zonePre_succ]; simp
theorem preZ_succ (X:U) (k i:Nat) (h:i < (zoneL X k).length):preZ X k (i + 1)=preZ X k i++[((zoneL X k).getD i 0,((k / 4:Nat):Int))]:=by
 unfold preZ; rw [take_succ_getD _ _ h,List.map_append,List.append_assoc]; rfl
theorem zonePre_prefix (X:U) (k:Nat):∀ d,∃ r,zonePre X (k + d)=zonePre X k++r
 | 0=>⟨[],by simp⟩
 | d + 1=>by
  obtain ⟨r,hr⟩:=zonePre_prefix X k d
  exact ⟨_,by rw [← Nat.add_assoc,zonePre_succ,hr,List.append_assoc]⟩
theorem preZ_prefix (X:U) (k i:Nat) (h:k < 8):∃ r,allP X=preZ X k i++r:=by
 obtain ⟨r,hr⟩:=zonePre_prefix X (k + 1) (8 - (k + 1))
 have e:k + 1 + (8 - (k + 1))=8:=by omega
 rw [e] at hr
 refine ⟨((zoneL X k).drop i).map (fun x=>(x,((k / 4:Nat):Int)))++(r++stP X (nStk X)),?_⟩
 have h8:preZ X 8 0=zonePre X 8:=by simp [preZ]
 unfold allP
 rw [h8,hr,zonePre_succ]
 unfold preZ
 have ht:(zoneL X k).map (fun x=>(x,((k / 4:Nat):Int)))=((zoneL X k).take i).map (fun x=>(x,((k / 4:Nat):Int)))++((zoneL X k).drop i).map (fun x=>(x,((k / 4:Nat):Int))):=by
  rw [← List.map_append,List.take_append_drop]
 rw [ht]; simp only [List.append_assoc]
theorem stk_succ (X:U) (s:Nat):stk X (s + 1)=stk X s++if nI (cX X 29).toL (s * 5 + 3) < 0 then [s] else []:=by
 unfold stk; rw [List.range_succ,List.filter_append]
 congr 1
 by_cases h:nI (cX X 29).toL (s * 5 + 3) < 0 <;> simp [h]
theorem stk_prefix (X:U) (s:Nat):∀ d,∃ r,stk X (s + d)=stk X s++r
 | 0=>⟨[],by simp⟩
 | d + 1=>by
  obtain ⟨r,hr⟩:=stk_prefix X s d
  exact ⟨_,by rw [← Nat.add_assoc,stk_succ,hr,List.append_assoc]⟩
theorem stP_prefix (X:U) (s:Nat) (h:s≤nStk X):∃ r,allP X=(preZ X 8 0++stP X s)++r:=by
 obtain ⟨r,hr⟩:=stk_prefix X s (nStk X - s)
 have e:s + (nStk X - s)=nStk X:=by omega
 rw [e] at hr
 exact ⟨r.map fun i=>(nI (cX X 29).toL (i * 5 + 1),nI (cX X 29).toL (i * 5)),by unfold allP stP; rw [hr,List.map_append]; simp only [List.append_assoc]⟩
theorem not_placed {X:U} {l:List (Int × Int)} {k v:Int} (h:∃ r,allP X=(l++[(k,v)])++r) (hk:k∈l.map Prod.fst):¬ placedP X=true:=by
 obtain ⟨r,hr⟩:=h
 intro hp
 unfold placedP at hp
 simp only [Bool.and_eq_true,nodupB_iff] at hp
 have hn:=hp.1.1
 rw [hr] at hn
 simp only [List.map_append,List.map_cons,List.map_nil,List.append_assoc,List.nodup_append] at hn
 exact hn.2.2 k hk k (by simp) rfl
theorem objsP_iff (X:U) (n:Nat):objsP X n=true↔∀ i,i < n→(objOk X i=true∧(i=0∨oI X (i - 1) 0 < oI X i 0)∧lkp (allP X) (oI X i 0)=some (oI X i 2)∧(∀ c,lkp (stC X (nStk X)) (oI X i 0)=some c→c=oI X i 1)):=by
 unfold objsP
 rw [all_range]
 constructor <;> intro h i hi <;> have:=h i hi
 ·simp only [Bool.and_eq_true,Bool.or_eq_true,beq_iff_eq,decide_eq_true_eq] at this
  refine ⟨this.1.1.1,this.1.1.2,this.1.2,?_⟩
  intro c hc
  have h2:=this.2
  rw [hc] at h2
  simpa using h2
 ·simp only [Bool.and_eq_true,Bool.or_eq_true,beq_iff_eq,decide_eq_true_eq]
  refine ⟨⟨⟨this.1,this.2.1⟩,this.2.2.1⟩,?_⟩
  cases hc:lkp (stC X (nStk X)) (oI X i 0) with
  | none=>rfl
  | some c=>simpa using this.2.2.2 c hc
theorem objOk_iff (X:U) (i:Nat):objOk X i=true↔1≤oI X i 0∧oI X i 0≤500∧-1≤oI X i 1∧oI X i 1≤399∧0≤oI X i 2∧oI X i 2≤1∧(oI X i 1=-1∨(oI X i 3=0∧oI X i 4=0)) ∧
  0≤oI X i 3∧oI X i 3≤99∧0≤oI X i 4∧oI X i 4≤99∧0≤oI X i 5∧oI X i 5≤99∧0≤oI X i 6∧oI X i 6≤99∧0≤oI X i 7∧oI X i 7≤99∧0≤oI X i 8∧oI X i 8≤99:=by
 unfold objOk
 simp only [List.all_cons,List.all_nil,Bool.and_eq_true,Bool.or_eq_true,inR_iff,beq_iff_eq,and_assoc,and_true]
/-! distinct ids: as many places as objects -/
theorem length_le_of_nodup_subset:∀ (l1 l2:List Int),l1.Nodup→(∀ x∈l1,x∈l2)→l1.length≤l2.length
 | [],l2,_,_=>Nat.zero_le _
 | x::l1,l2,hn,hs=>by
  have hx:=hs x (by simp)
  have h:=length_le_of_nodup_subset l1 (l2.erase x) (List.nodup_cons.1 hn).2 (by
   intro y hy
   have hne:y≠x:=fun e=>(List.nodup_cons.1 hn).1 (e ▸ hy)
   exact (List.mem_erase_of_ne hne).2 (hs y (by simp [hy])))
  rw [List.length_erase_of_mem hx] at h
  have:0 < l2.length:=List.length_pos_of_mem hx
  simp only [List.length_cons]; omega
theorem subset_of_nodup {l1 l2:List Int} (hn:l1.Nodup) (hs:∀ x∈l1,x∈l2) (hl:l2.length≤l1.length):∀ x∈l2,x∈l1:=by
 intro x hx
 by_cases h:x∈l1
 ·exact h
 ·have:=length_le_of_nodup_subset (x::l1) l2 (List.nodup_cons.2 ⟨h,hn⟩) (by
   intro y hy
   rcases List.mem_cons.1 hy with e | e
   ·exact e ▸ hx
   ·exact hs y e)
  simp only [List.length_cons] at this; omega
def oIds (X:U):List Int:=(List.range (nObj X)).map fun i=>oI X i 0
theorem sorted_of_step {f:Nat→Int} {n:Nat} (h:∀ i,i < n→(i=0∨f (i - 1) < f i)):∀ i j,i < j→j < n→f i < f j:=by
 intro i j hij hj
 induction j with
 | zero=>omega
 | succ j ih =>
  have h1:=h (j + 1) hj
  simp only [Nat.add_sub_cancel] at h1
  rcases Nat.lt_or_eq_of_le (Nat.le_of_lt_succ hij) with h2 | h2
  ·have:=ih h2 (by omega); omega
  ·subst h2; omega
theorem oIds_nodup {X:U} (h:∀ i,i < nObj X→(i=0∨oI X (i - 1) 0 < oI X i 0)):(oIds X).Nodup:=by
 unfold oIds
 rw [List.nodup_iff_pairwise_ne,List.pairwise_map]
 refine List.Pairwise.imp_of_mem ?_ (List.pairwise_lt_range (n:=nObj X))
 intro a b ha hb hab e
 have:=sorted_of_step (f:=fun i=>oI X i 0) h a b hab (List.mem_range.1 hb)
 omega
theorem placed_ids {X:U} (h:placedP X=true):∀ k∈(allP X).map Prod.fst,1≤k∧k≤500:=by
 unfold placedP at h
 simp only [Bool.and_eq_true,nodupB_iff,beq_iff_eq] at h
 obtain ⟨⟨hn,ho⟩,hl⟩:=h
 rw [objsP_iff] at ho
 have hs:=subset_of_nodup (l1:=oIds X) (l2:=(allP X).map Prod.fst) (oIds_nodup fun i hi=>(ho i hi).2.1) (by
  intro x hx
  obtain ⟨i,hi,rfl⟩:=List.mem_map.1 hx
  exact List.mem_map_of_mem (f:=Prod.fst) (lkp_mem (ho i (List.mem_range.1 hi)).2.2.1)) (by simp [oIds,hl])
 intro k hk
 obtain ⟨i,hi,rfl⟩:=List.mem_map.1 (hs k hk)
 have:=(objOk_iff X i).1 (ho i (List.mem_range.1 hi)).1
 omega
theorem zone_sub (X:U) (k:Nat) (h:k < 8):∀ x∈zoneL X k,x∈(allP X).map Prod.fst:=by
 intro x hx
 obtain ⟨r,hr⟩:=preZ_prefix X k (zoneL X k).length h
 rw [hr]
 unfold preZ
 rw [List.take_length]
 simp only [List.map_append,List.map_map,List.mem_append]
 exact Or.inl (Or.inr (List.mem_map.2 ⟨x,hx,rfl⟩))
end Go.SX

set_option linter.unusedVariables false
set_option linter.unusedSimpArgs false
namespace Go.SX
/-! ### attackers and blocks -/
theorem blkd_succ (X:U) (j c:Nat):blkd X (j + 1) c=blkd X j c++[blk X j c]:=by
 unfold blkd; rw [List.range_succ,List.map_append]; rfl
theorem blkd_mem {X:U} {j n c:Nat} (h:j≤n) {k:Int} (hk:k∈blkd X j c):k∈blkd X n c:=by
 unfold blkd at *
 obtain ⟨i,hi,rfl⟩:=List.mem_map.1 hk
 exact List.mem_map.2 ⟨i,List.mem_range.2 (by have:=List.mem_range.1 hi; omega),rfl⟩
theorem seen_spec_pos (X:U) (n j:Nat) (k:Int) (h:0 < k):seenSpec X n j k=(((atk X).take n).contains k && !(blkd X j 1).contains k):=by
 unfold seenSpec; simp [h]
theorem seen_spec_neg (X:U) (n j:Nat) (k:Int) (h:¬ 0 < k):seenSpec X n j k=(blkd X j 0).contains (-k):=by
 unfold seenSpec; simp [h]
theorem seenV_mput (m:List U) (k q:Int) (b:Bool):seenV (mput k (.bool b) m) q=if q=k then b else seenV m q:=by
 unfold seenV; rw [mfind_mput]
 by_cases h:q=k <;> simp [h]
 rfl
theorem seen_all {X:U} {m:List U} {n j:Nat} (h:seenIs X m n j=true) (hj:j≤nBlk X) (k:Int):seenV m k=seenSpec X n j k:=by
 unfold seenIs at h
 rw [List.all_eq_true] at h
 by_cases hk:k∈(m.map fun u=>u.fst.toI)++atk X++(blkd X (nBlk X) 0).map fun k=>-k
 ·simpa using h k hk
 ·simp only [List.mem_append,not_or] at hk
  have h1:seenV m k=false:=by
   unfold seenV
   cases hc:mfind k m with
   | none=>rfl
   | some v =>
    have:=(mfind_some k m).1 (by rw [hc]; rfl)
    refine absurd ?_ hk.1.1
    unfold pairsU at this
    rw [List.map_map] at this
    exact this
  rw [h1]
  by_cases hp:0 < k
  ·rw [seen_spec_pos _ _ _ _ hp]
   have:((atk X).take n).contains k=false:=by
    rw [← Bool.not_eq_true,List.contains_iff_mem]
    exact fun h=>hk.1.2 (List.mem_of_mem_take h)
   rw [this]; rfl
  ·rw [seen_spec_neg _ _ _ _ hp]
   symm
   rw [← Bool.not_eq_true,List.contains_iff_mem]
   intro h
   exact hk.2 (List.mem_map.2 ⟨-k,blkd_mem hj h,by omega⟩)
theorem seen_of_all {X:U} {m:List U} {n j:Nat} (h:∀ k,seenV m k=seenSpec X n j k):seenIs X m n j=true:=by
 unfold seenIs
 rw [List.all_eq_true]
 intro k _; simpa using h k
theorem atksP_iff (X:U) (n:Nat):atksP X n=true↔((atk X).take n).Nodup∧∀ a∈(atk X).take n,a∈ownF X:=by
 unfold atksP
 rw [Bool.and_eq_true,nodupB_iff,List.all_eq_true]
 simp only [List.contains_iff_mem]
theorem blksP_iff (X:U) (n:Nat):blksP X n=true↔(blkd X n 1).Nodup∧(blkd X n 0).Nodup∧∀ i,i < n→(blk X i 1∈atk X∧blk X i 0∈othF X):=by
 unfold blksP
 rw [Bool.and_eq_true,Bool.and_eq_true,nodupB_iff,nodupB_iff,all_range]
 simp only [Bool.and_eq_true,List.contains_iff_mem,and_assoc]
theorem own_pos {X:U} (h:placedP X=true) (ha:act X≤1) {a:Int} (hm:a∈ownF X):1≤a∧a≤500 :=
 placed_ids h a (zone_sub X _ (by omega) a hm)
theorem oth_pos {X:U} (h:placedP X=true) {a:Int} (hm:a∈othF X):1≤a∧a≤500 :=
 placed_ids h a (zone_sub X _ (by omega) a hm)
theorem fightsP_iff (X:U):fightsP X=true↔atksP X (atk X).length=true∧blksP X (nBlk X)=true:=by
 unfold fightsP; rw [Bool.and_eq_true]
theorem spec0 {X:U} {i:Nat} {a:Int} (h:seenSpec X i 0 a=true):a∈(atk X).take i:=by
 by_cases hp:0 < a
 ·rw [seen_spec_pos _ _ _ _ hp,Bool.and_eq_true,List.contains_iff_mem] at h; exact h.1
 ·rw [seen_spec_neg _ _ _ _ hp] at h; simp [blkd] at h
theorem atk_step {X:U} {m:List U} {i:Nat} (h:atksP X i=true) (hp:placedP X=true) (ha:act X≤1) (hs:seenIs X m i 0=true) (hi:i < (atk X).length)
  (hv:¬ seenV m ((atk X).getD i 0)=true) (ho:(atk X).getD i 0∈ownF X):atksP X (i + 1)=true:=by
 rw [atksP_iff] at *
 have hpos:=own_pos hp ha ho
 rw [seen_all hs (Nat.zero_le _),seen_spec_pos _ _ _ _ (by omega)] at hv
 have hb:(blkd X 0 1).contains ((atk X).getD i 0)=false:=by simp [blkd]
 rw [hb] at hv
 simp only [Bool.not_false,Bool.and_true,List.contains_iff_mem] at hv
 rw [take_succ_getD _ _ hi]
 refine ⟨?_,?_⟩
 ·rw [List.nodup_append]
  refine ⟨h.1,by simp,?_⟩
  intro x hx y hy e
  simp only [List.mem_singleton] at hy
  subst hy; subst e; exact hv hx
 ·intro a hm
  rcases List.mem_append.1 hm with hm | hm
  ·exact h.2 a hm
  ·simp only [List.mem_singleton] at hm; subst hm; exact ho
theorem atk_seen {X:U} {m:List U} {i:Nat} (hp:placedP X=true) (ha:act X≤1) (hs:seenIs X m i 0=true) (hi:i < (atk X).length) (ho:(atk X).getD i 0∈ownF X):seenIs X (mput ((atk X).getD i 0) (.bool true) m) (i + 1) 0=true:=by
 apply seen_of_all
 intro k
 have hpos:=own_pos hp ha ho
 rw [seenV_mput,seen_all hs (Nat.zero_le _)]
 by_cases hk:0 < k
 ·rw [seen_spec_pos _ _ _ _ hk,seen_spec_pos _ _ _ _ hk,take_succ_getD _ _ hi]
  by_cases e:k=(atk X).getD i 0
  ·rw [if_pos e]
   have hb:(blkd X 0 1).contains k=false:=by simp [blkd]
   rw [hb]
   have:((atk X).take i++[(atk X).getD i 0]).contains k=true:=by
    rw [List.contains_iff_mem,List.mem_append]; exact Or.inr (by simp [e])
   rw [this]; rfl
  ·rw [if_neg e]
   have:((atk X).take i++[(atk X).getD i 0]).contains k=((atk X).take i).contains k:=by
    rw [Bool.eq_iff_iff,List.contains_iff_mem,List.contains_iff_mem,List.mem_append]
    simp only [List.mem_singleton,e,or_false]
   rw [this]
 ·rw [seen_spec_neg _ _ _ _ hk,seen_spec_neg _ _ _ _ hk,if_neg (by omega)]
theorem atk_twice {X:U} {m:List U} {i:Nat} (hs:seenIs X m i 0=true) (hi:i < (atk X).length) (hv:seenV m ((atk X).getD i 0)=true):¬ fightsP X=true:=by
 intro hf
 rw [fightsP_iff,atksP_iff,List.take_length] at hf
 rw [seen_all hs (Nat.zero_le _)] at hv
 have hm:=spec0 hv
 have ht:=take_succ_getD (atk X) i hi
 have hn:((atk X).take (i + 1)).Nodup:=hf.1.1.sublist (List.take_sublist _ _)
 rw [ht,List.nodup_append] at hn
 exact hn.2.2 _ hm _ (by simp) rfl
theorem atk_other {X:U} {i:Nat} (hi:i < (atk X).length) (ho:¬ (atk X).getD i 0∈ownF X):¬ fightsP X=true:=by
 intro hf
 rw [fightsP_iff,atksP_iff,List.take_length] at hf
 refine ho (hf.1.2 _ ?_)
 rw [List.getD_eq_getElem?_getD,List.getElem?_eq_getElem hi]; exact List.getElem_mem _
theorem blk_fail {X:U} {j:Nat} (hj:j < nBlk X) (h:blksP X (j + 1)=true→False):¬ fightsP X=true:=by
 intro hf
 rw [fightsP_iff,blksP_iff] at hf
 apply h
 rw [blksP_iff]
 have sub:∀ c,(blkd X (j + 1) c).Sublist (blkd X (nBlk X) c):=by
  intro c; unfold blkd
  exact (List.range_sublist.2 (by omega)).map _
 exact ⟨hf.2.1.sublist (sub 1),hf.2.2.1.sublist (sub 0),fun i hi=>hf.2.2.2 i (by omega)⟩
theorem nodup_snoc {l:List Int} {a:Int}:(l++[a]).Nodup↔l.Nodup∧a ∉ l:=by
 rw [List.nodup_append]
 constructor
 ·intro h; exact ⟨h.1,fun hm=>h.2.2 a hm a (by simp) rfl⟩
 ·intro h; refine ⟨h.1,by simp,?_⟩
  intro x hx y hy e
  simp only [List.mem_singleton] at hy
  subst hy; subst e; exact h.2 hx
/-- a block that is right, when the ones ahead of it are -/
theorem blksP_succ {X : U} {j : Nat} : blksP X (j + 1) = true ↔ blksP X j = true ∧ blk X j 1 ∉ blkd X j 1 ∧ blk X j 0 ∉ blkd X j 0 ∧ blk X j 1 ∈ atk X ∧ blk X j 0 ∈ othF X := by
  rw [blksP_iff, blksP_iff, blkd_succ, blkd_succ, nodup_snoc, nodup_snoc]
  constructor
  · rintro ⟨⟨a, b⟩, ⟨c, d⟩, e⟩
    exact ⟨⟨a, c, fun i hi => e i (by omega)⟩, b, d, (e j (by omega)).1, (e j (by omega)).2⟩
  · rintro ⟨⟨a, c, e⟩, b, d, f, g⟩
    refine ⟨⟨a, b⟩, ⟨c, d⟩, fun i hi => ?_⟩
    rcases Nat.lt_or_eq_of_le (Nat.le_of_lt_succ hi) with h | h
    · exact e i h
    · subst h; exact ⟨f, g⟩
theorem atk_pos {X:U} (hp:placedP X=true) (ha:act X≤1) (h:atksP X (atk X).length=true) {a:Int} (hm:a∈atk X):1≤a∧a≤500:=by
 rw [atksP_iff,List.take_length] at h
 exact own_pos hp ha (h.2 a hm)
section
variable {X : U} {m : List U} {j : Nat} {nk : Int}
theorem blk_1 (hp:placedP X=true) (ha:act X≤1) (h:atksP X (atk X).length=true) (hs:seenIs X m (atk X).length j=true) (hj:j < nBlk X) (hv:¬ seenV m (blk X j 1)=true):¬ fightsP X=true:=by
 apply blk_fail hj
 intro hb
 rw [blksP_succ] at hb
 have hpos:=atk_pos hp ha h hb.2.2.2.1
 rw [seen_all hs (by omega),seen_spec_pos _ _ _ _ (by omega),List.take_length,Bool.and_eq_true,List.contains_iff_mem] at hv
 apply hv
 refine ⟨hb.2.2.2.1,?_⟩
 have:(blkd X j 1).contains (blk X j 1)=false:=by
  rw [← Bool.not_eq_true,List.contains_iff_mem]; exact hb.2.1
 rw [this]; rfl
theorem blk_2 (hp:placedP X=true) (hs:seenIs X m (atk X).length j=true) (hj:j < nBlk X) (hk:1≤blk X j 0→blk X j 0≤500→nk=-(blk X j 0)) (hv:seenV m nk=true):¬ fightsP X=true:=by
 apply blk_fail hj
 intro hb
 rw [blksP_succ] at hb
 have hpos:=oth_pos hp hb.2.2.2.2
 have e:=hk hpos.1 hpos.2
 rw [seen_all hs (by omega),seen_spec_neg _ _ _ _ (by omega),List.contains_iff_mem,e,Int.neg_neg] at hv
 exact hb.2.2.1 hv
theorem blk_3 (hj:j < nBlk X) (hv:¬ blk X j 1∈atk X):¬ fightsP X=true:=by
 apply blk_fail hj
 intro hb
 rw [blksP_succ] at hb
 exact hv hb.2.2.2.1
theorem blk_4 (hj:j < nBlk X) (hv:¬ blk X j 0∈othF X):¬ fightsP X=true:=by
 apply blk_fail hj
 intro hb
 rw [blksP_succ] at hb
 exact hv hb.2.2.2.2
theorem blk_step (hp:placedP X=true) (ha:act X≤1) (h:atksP X (atk X).length=true) (hb:blksP X j=true) (hs:seenIs X m (atk X).length j=true) (hj:j < nBlk X) (hv:seenV m (blk X j 1)=true)
  (hk:1≤blk X j 0→blk X j 0≤500→nk=-(blk X j 0)) (hn:¬ seenV m nk=true) (h1:blk X j 1∈atk X) (h2:blk X j 0∈othF X):blksP X (j + 1)=true∧seenIs X (mput nk (.bool true) (mput (blk X j 1) (.bool false) m)) (atk X).length (j + 1)=true:=by
 have hpos:=atk_pos hp ha h h1
 have hpos2:=oth_pos hp h2
 have e:=hk hpos2.1 hpos2.2
 have hv':=hv
 rw [seen_all hs (by omega),seen_spec_pos _ _ _ _ (by omega),Bool.and_eq_true] at hv'
 have hn':=hn
 rw [seen_all hs (by omega),seen_spec_neg _ _ _ _ (by omega),e,Int.neg_neg,List.contains_iff_mem] at hn'
 have hv2:blk X j 1 ∉ blkd X j 1:=by
  intro hm
  have:(blkd X j 1).contains (blk X j 1)=true:=List.contains_iff_mem.2 hm
  rw [this] at hv'; simp at hv'
 refine ⟨blksP_succ.2 ⟨hb,hv2,hn',h1,h2⟩,?_⟩
 apply seen_of_all
 intro k
 rw [seenV_mput,seenV_mput,seen_all hs (by omega)]
 by_cases hk:0 < k
 ·rw [seen_spec_pos _ _ _ _ hk,seen_spec_pos _ _ _ _ hk,if_neg (by omega),blkd_succ]
  by_cases e2:k=blk X j 1
  ·rw [if_pos e2]
   have:(blkd X j 1++[blk X j 1]).contains k=true:=by rw [List.contains_iff_mem,e2]; simp
   rw [this]; simp
  ·rw [if_neg e2]
   have:(blkd X j 1++[blk X j 1]).contains k=(blkd X j 1).contains k:=by
    rw [Bool.eq_iff_iff,List.contains_iff_mem,List.contains_iff_mem,List.mem_append]; simp [e2]
   rw [this]
 ·rw [seen_spec_neg _ _ _ _ hk,seen_spec_neg _ _ _ _ hk,blkd_succ]
  by_cases e2:k=nk
  ·rw [if_pos e2]
   symm
   rw [List.contains_iff_mem,e2,e,Int.neg_neg]; simp
  ·rw [if_neg e2,if_neg (by omega)]
   rw [Bool.eq_iff_iff,List.contains_iff_mem,List.contains_iff_mem,List.mem_append]
   have:¬ -k=blk X j 0:=by omega
   simp [this]
end
end Go.SX

set_option linter.unusedVariables false
set_option linter.unusedSimpArgs false
namespace Go.SX
/-! ### what expressions say of a board -/
section
variable {ρ : Env} {x y l A a b k u i j p q n m r o c d w v X T N L L2 mc s : E}
theorem wrap_add:-9223372036854775808≤E.I ρ a + E.I ρ b→E.I ρ a + E.I ρ b < 9223372036854775808→E.I ρ (.ar .add .i64 a b)=E.I ρ a + E.I ρ b:=by
 intro h h'
 have e:E.I ρ (.ar .add .i64 a b)=IntKind.i64.wrap (E.I ρ a + E.I ρ b):=rfl
 obtain ⟨s,e2,q,r⟩:=cs_i64 (E.I ρ a + E.I ρ b)
 rw [e,e2]; omega
theorem wrap_sub:-9223372036854775808≤E.I ρ a - E.I ρ b→E.I ρ a - E.I ρ b < 9223372036854775808→E.I ρ (.ar .sub .i64 a b)=E.I ρ a - E.I ρ b:=by
 intro h h'
 have e:E.I ρ (.ar .sub .i64 a b)=IntKind.i64.wrap (E.I ρ a - E.I ρ b):=rfl
 obtain ⟨s,e2,q,r⟩:=cs_i64 (E.I ρ a - E.I ρ b)
 rw [e,e2]; omega
theorem z108:(E.B ρ (.fn 108 X)=true)=(placedP (X.den ρ)=true):=rfl
theorem z109:(E.B ρ (.fn 109 (.pr L (.pr X (.pr p q))))=true)=(ints ρ L=zoneL (X.den ρ) ((E.I ρ p).toNat * 4 + (E.I ρ q).toNat)):=by
 show ((toIs (L.den ρ) == zoneL (X.den ρ) ((E.I ρ p).toNat * 4 + (E.I ρ q).toNat))=true)=_
 rw [beq_iff_eq]; rfl
theorem z110:(E.B ρ (.fn 110 X)=true)=(fightsP (X.den ρ)=true):=rfl
theorem z111:(E.B ρ (.fn 111 (.pr X n))=true)=(atksP (X.den ρ) (E.I ρ n).toNat=true):=rfl
theorem z112:(E.B ρ (.fn 112 (.pr X n))=true)=(blksP (X.den ρ) (E.I ρ n).toNat=true):=rfl
theorem z113:(E.B ρ (.fn 113 (.pr m (.pr X (.pr n j))))=true)=(seenIs (X.den ρ) (E.L ρ m) (E.I ρ n).toNat (E.I ρ j).toNat=true):=rfl
theorem z32b:E.B ρ (.fn 32 (.pr m (.pr k (.bool false))))=seenV (E.L ρ m) (E.I ρ k):=rfl
theorem L_put:E.L ρ (.fn 34 (.pr m (.pr k v)))=mput (E.I ρ k) (v.den ρ) (E.L ρ m):=rfl
theorem zone_cell (P Q j:Nat) (hQ:Q < 4) (hj:j=6 + 14 * P + Q):zoneL (X.den ρ) (P * 4 + Q)=ints ρ (.fn 1 (.pr X (.int (Int.ofNat j)))):=by
 show toIs (cX (X.den ρ) (6 + 14 * ((P * 4 + Q) / 4) + (P * 4 + Q) % 4))=toIs (cX (X.den ρ) j)
 have e:6 + 14 * ((P * 4 + Q) / 4) + (P * 4 + Q) % 4=j:=by omega
 rw [e]
theorem t109 (P Q j:Nat) (hQ:Q < 4) (hj:j=6 + 14 * P + Q) (hp:E.I ρ p=(P:Int)) (hq:E.I ρ q=(Q:Int)):E.B ρ (.fn 109 (.pr (.fn 1 (.pr X (.int (Int.ofNat j)))) (.pr X (.pr p q))))=true:=by
 rw [z109,hp,hq,Int.toNat_natCast,Int.toNat_natCast,zone_cell P Q j hQ hj]
theorem zone_len (Y:U) (z:Nat):(zoneL Y z).length=(cX Y (6 + 14 * (z / 4) + z % 4)).toL.length:=by
 unfold zoneL toIs; rw [List.length_map]
theorem t117 (h:E.B ρ (.fn 117 X)=true):(E.I ρ (.fn 0 (.fn 1 (.pr X (.int 6))))≤200∧E.I ρ (.fn 0 (.fn 1 (.pr X (.int 7))))≤200∧E.I ρ (.fn 0 (.fn 1 (.pr X (.int 8))))≤200∧E.I ρ (.fn 0 (.fn 1 (.pr X (.int 9))))≤200) ∧
  (E.I ρ (.fn 0 (.fn 1 (.pr X (.int 20))))≤200∧E.I ρ (.fn 0 (.fn 1 (.pr X (.int 21))))≤200∧E.I ρ (.fn 0 (.fn 1 (.pr X (.int 22))))≤200∧E.I ρ (.fn 0 (.fn 1 (.pr X (.int 23))))≤200) ∧
  (E.I ρ (.fn 9 (.pr (.fn 1 (.pr X (.int 29))) (.int 5)))≤200∧E.I ρ (.fn 9 (.pr (.fn 1 (.pr X (.int 30))) (.int 5)))≤200∧E.I ρ (.fn 9 (.pr (.fn 1 (.pr X (.int 0))) (.int 12)))≤120∧E.I ρ (.fn 0 (.fn 1 (.pr X (.int 31))))≤200∧E.I ρ (.fn 9 (.pr (.fn 1 (.pr X (.int 32))) (.int 2)))≤200) ∧
  (0≤E.I ρ (.fn 9 (.pr (.fn 1 (.pr X (.int 29))) (.int 5)))∧0≤E.I ρ (.fn 9 (.pr (.fn 1 (.pr X (.int 30))) (.int 5)))∧0≤E.I ρ (.fn 9 (.pr (.fn 1 (.pr X (.int 0))) (.int 12)))∧0≤E.I ρ (.fn 0 (.fn 1 (.pr X (.int 31))))∧0≤E.I ρ (.fn 9 (.pr (.fn 1 (.pr X (.int 32))) (.int 2)))):=by
 have h':smallB (X.den ρ)=true:=h
 unfold smallB at h'
 simp only [Bool.and_eq_true,all_range,decide_eq_true_eq] at h'
 obtain ⟨⟨⟨⟨⟨h1,h2⟩,h3⟩,h4⟩,h5⟩,h6⟩:=h'
 have z (n:Nat) (hn:n < 8):=h1 n hn
 simp only [zone_len] at z
 have z0:=z 0 (by omega); have z1:=z 1 (by omega); have z2:=z 2 (by omega); have z3:=z 3 (by omega)
 have z4:=z 4 (by omega); have z5:=z 5 (by omega); have z6:=z 6 (by omega); have z7:=z 7 (by omega)
 have a31:(atk (X.den ρ)).length=(cX (X.den ρ) 31).toL.length:=by unfold atk toIs; rw [List.length_map]
 rw [a31] at h5
 refine ⟨⟨?_,?_,?_,?_⟩,⟨?_,?_,?_,?_⟩,⟨?_,?_,?_,?_,?_⟩,?_,?_,?_,?_,?_⟩
 ·exact Int.ofNat_le.2 z0
 ·exact Int.ofNat_le.2 z1
 ·exact Int.ofNat_le.2 z2
 ·exact Int.ofNat_le.2 z3
 ·exact Int.ofNat_le.2 z4
 ·exact Int.ofNat_le.2 z5
 ·exact Int.ofNat_le.2 z6
 ·exact Int.ofNat_le.2 z7
 ·exact Int.ofNat_le.2 h2
 ·exact Int.ofNat_le.2 h3
 ·exact Int.ofNat_le.2 h4
 ·exact Int.ofNat_le.2 h5
 ·exact Int.ofNat_le.2 h6
 ·exact Int.natCast_nonneg _
 ·exact Int.natCast_nonneg _
 ·exact Int.natCast_nonneg _
 ·exact Int.natCast_nonneg _
 ·exact Int.natCast_nonneg _
/-! fights -/
theorem t111_zero (h:E.I ρ n≤0):E.B ρ (.fn 111 (.pr X n))=true:=by
 have e:(E.I ρ n).toNat=0:=by omega
 rw [z111,e,atksP_iff]; simp
theorem t112_zero (h:E.I ρ n≤0):E.B ρ (.fn 112 (.pr X n))=true:=by
 have e:(E.I ρ n).toNat=0:=by omega
 rw [z112,e,blksP_iff]; simp [blkd]
theorem t113_start (h:E.I ρ n≤0) (h':E.I ρ j≤0):E.B ρ (.fn 113 (.pr (.fn 10 a) (.pr X (.pr n j))))=true:=by
 have e:(E.I ρ n).toNat=0:=by omega
 have e':(E.I ρ j).toNat=0:=by omega
 rw [z113,e,e']
 apply seen_of_all
 intro k
 show false=_
 by_cases hk:0 < k
 ·rw [seen_spec_pos _ _ _ _ hk]; simp
 ·rw [seen_spec_neg _ _ _ _ hk]; simp [blkd]
theorem t111_eq (h:E.B ρ (.fn 111 (.pr X i))=true) (e:E.I ρ n=E.I ρ i):E.B ρ (.fn 111 (.pr X n))=true:=by
 rw [z111] at *; rw [e]; exact h
theorem t113_eq (h:E.B ρ (.fn 113 (.pr m (.pr X (.pr i j))))=true) (e:E.I ρ n=E.I ρ i) (e':E.I ρ k=E.I ρ j):E.B ρ (.fn 113 (.pr m (.pr X (.pr n k))))=true:=by
 rw [z113] at *; rw [e,e']; exact h
theorem atk_getD (h0:0≤E.I ρ i):(atk (X.den ρ)).getD (E.I ρ i).toNat 0=E.I ρ (.fn 1 (.pr (.fn 1 (.pr X (.int 31))) i)):=by
 rw [I_nth]; rfl
theorem atk_len:((atk (X.den ρ)).length:Int)=E.I ρ (.fn 0 (.fn 1 (.pr X (.int 31)))):=by
 show (((cX (X.den ρ) 31).toL.map U.toI).length:Int)=_
 rw [List.length_map]; rfl
theorem nBlk_c:((nBlk (X.den ρ):Nat):Int)=E.I ρ (.fn 9 (.pr (.fn 1 (.pr X (.int 32))) (.int 2))):=rfl
theorem blk_c (h0:0≤E.I ρ i) (c:Nat):blk (X.den ρ) (E.I ρ i).toNat c=E.I ρ (.fn 1 (.pr (.fn 1 (.pr X (.int 32))) (.fn 6 (.pr (.fn 8 (.pr i (.int 2))) (.int (Int.ofNat c)))))):=by
 exact (I_row (T:=.fn 1 (.pr X (.int 32))) i 2 c h0).symm
theorem own_L (h:E.B ρ (.fn 109 (.pr L (.pr X (.pr (.fn 1 (.pr X (.int 34))) (.int 2)))))=true):ints ρ L=ownF (X.den ρ):=by
 rw [z109] at h
 rw [h]; unfold ownF act
 have e:(E.I ρ (.fn 1 (.pr X (.int 34)))).toNat * 4 + (E.I ρ (.int 2)).toNat=4 * (iX (X.den ρ) 34).toNat + 2:=by
  have:E.I ρ (.fn 1 (.pr X (.int 34)))=iX (X.den ρ) 34:=rfl
  rw [this]
  have:(E.I ρ (.int 2)).toNat=2:=rfl
  rw [this]; omega
 rw [e]
theorem oth_L (h:E.B ρ (.fn 109 (.pr L (.pr X (.pr (.fn 7 (.pr (.int 1) (.fn 1 (.pr X (.int 34))))) (.int 2)))))=true) (h0:0≤E.I ρ (.fn 1 (.pr X (.int 34)))):ints ρ L=othF (X.den ρ):=by
 rw [z109] at h
 rw [h]; unfold othF act
 have e:(E.I ρ (.fn 7 (.pr (.int 1) (.fn 1 (.pr X (.int 34)))))).toNat * 4 + (E.I ρ (.int 2)).toNat=4 * (1 - (iX (X.den ρ) 34).toNat) + 2:=by
  have e1:E.I ρ (.fn 7 (.pr (.int 1) (.fn 1 (.pr X (.int 34)))))=1 - iX (X.den ρ) 34:=rfl
  have e2:E.I ρ (.fn 1 (.pr X (.int 34)))=iX (X.den ρ) 34:=rfl
  rw [e2] at h0
  rw [e1]
  have:(E.I ρ (.int 2)).toNat=2:=rfl
  rw [this]; omega
 rw [e]
/-- an attacker -/
theorem t_atk (hp : E.B ρ (.fn 108 X) = true) (ha : 0 ≤ E.I ρ (.fn 1 (.pr X (.int 34)))) (ha' : E.I ρ (.fn 1 (.pr X (.int 34))) ≤ 1) (hs : E.B ρ (.fn 113 (.pr m (.pr X (.pr i (.int 0))))) = true) (h : E.B ρ (.fn 111 (.pr X i)) = true)
    (h0 : 0 ≤ E.I ρ i) (hi : E.I ρ i < E.I ρ (.fn 0 (.fn 1 (.pr X (.int 31))))) (hL : E.B ρ (.fn 109 (.pr L (.pr X (.pr (.fn 1 (.pr X (.int 34))) (.int 2))))) = true) (hm : E.I ρ n = E.I ρ i + 1) :
    (E.B ρ (.fn 32 (.pr m (.pr (.fn 1 (.pr (.fn 1 (.pr X (.int 31))) i)) (.bool false)))) = true → ¬ E.B ρ (.fn 110 X) = true) ∧
    (¬ E.B ρ (.fn 114 (.pr L (.fn 1 (.pr (.fn 1 (.pr X (.int 31))) i)))) = true → ¬ E.B ρ (.fn 110 X) = true) ∧
    (¬ E.B ρ (.fn 32 (.pr m (.pr (.fn 1 (.pr (.fn 1 (.pr X (.int 31))) i)) (.bool false)))) = true → E.B ρ (.fn 114 (.pr L (.fn 1 (.pr (.fn 1 (.pr X (.int 31))) i)))) = true → E.B ρ (.fn 111 (.pr X n)) = true ∧
      E.B ρ (.fn 113 (.pr (.fn 34 (.pr m (.pr (.fn 1 (.pr (.fn 1 (.pr X (.int 31))) i)) (.bool true)))) (.pr X (.pr n (.int 0))))) = true) := by
  have hl := own_L hL
  rw [z108] at hp
  rw [z113] at hs
  rw [z111] at h
  rw [← atk_len] at hi
  have hi' : (E.I ρ i).toNat < (atk (X.den ρ)).length := by omega
  have e1 : (E.I ρ n).toNat = (E.I ρ i).toNat + 1 := by omega
  have ha2 : act (X.den ρ) ≤ 1 := by
    have : E.I ρ (.fn 1 (.pr X (.int 34))) = iX (X.den ρ) 34 := rfl
    unfold act; omega
  have z0 : (E.I ρ (.int 0)).toNat = 0 := rfl
  rw [z0] at hs
  rw [z32b, z114, z110, z111, z113, L_put, hl, e1, z0, ← atk_getD (X := X) h0]
  exact ⟨fun hv => atk_twice hs hi' hv, fun ho => atk_other hi' ho, fun hv ho => ⟨atk_step h hp ha2 hs hi' hv ho, atk_seen hp ha2 hs hi' ho⟩⟩
/-- a block -/
theorem t_blk {nk : E} (hp : E.B ρ (.fn 108 X) = true) (ha : 0 ≤ E.I ρ (.fn 1 (.pr X (.int 34)))) (ha' : E.I ρ (.fn 1 (.pr X (.int 34))) ≤ 1) (hs : E.B ρ (.fn 113 (.pr m (.pr X (.pr (.fn 0 (.fn 1 (.pr X (.int 31)))) j)))) = true) (h : E.B ρ (.fn 111 (.pr X (.fn 0 (.fn 1 (.pr X (.int 31)))))) = true)
    (hb : E.B ρ (.fn 112 (.pr X j)) = true) (h0 : 0 ≤ E.I ρ j) (hj : E.I ρ j < E.I ρ (.fn 9 (.pr (.fn 1 (.pr X (.int 32))) (.int 2)))) (hL : E.B ρ (.fn 109 (.pr L (.pr X (.pr (.fn 7 (.pr (.int 1) (.fn 1 (.pr X (.int 34))))) (.int 2))))) = true) (hm : E.I ρ n = E.I ρ j + 1)
    {t b : E} (et : t = .fn 1 (.pr (.fn 1 (.pr X (.int 32))) (.fn 6 (.pr (.fn 8 (.pr j (.int 2))) (.int 1))))) (eb : b = .fn 1 (.pr (.fn 1 (.pr X (.int 32))) (.fn 6 (.pr (.fn 8 (.pr j (.int 2))) (.int 0)))))
    (hk : 1 ≤ E.I ρ b → E.I ρ b ≤ 500 → E.I ρ nk = -(E.I ρ b)) :
    (¬ E.B ρ (.fn 32 (.pr m (.pr t (.bool false)))) = true → ¬ E.B ρ (.fn 110 X) = true) ∧
    (E.B ρ (.fn 32 (.pr m (.pr nk (.bool false)))) = true → ¬ E.B ρ (.fn 110 X) = true) ∧
    (¬ E.B ρ (.fn 114 (.pr (.fn 1 (.pr X (.int 31))) t)) = true → ¬ E.B ρ (.fn 110 X) = true) ∧
    (¬ E.B ρ (.fn 114 (.pr L b)) = true → ¬ E.B ρ (.fn 110 X) = true) ∧
    (E.B ρ (.fn 32 (.pr m (.pr t (.bool false)))) = true → ¬ E.B ρ (.fn 32 (.pr m (.pr nk (.bool false)))) = true → E.B ρ (.fn 114 (.pr (.fn 1 (.pr X (.int 31))) t)) = true → E.B ρ (.fn 114 (.pr L b)) = true →
      E.B ρ (.fn 112 (.pr X n)) = true ∧ E.B ρ (.fn 113 (.pr (.fn 34 (.pr (.fn 34 (.pr m (.pr t (.bool false)))) (.pr nk (.bool true)))) (.pr X (.pr (.fn 0 (.fn 1 (.pr X (.int 31)))) n)))) = true) := by
  subst et; subst eb
  have hl := oth_L hL ha
  rw [z108] at hp
  rw [z113] at hs
  rw [z111] at h
  rw [z112] at hb
  rw [← nBlk_c] at hj
  have hj' : (E.I ρ j).toNat < nBlk (X.den ρ) := by omega
  have e1 : (E.I ρ n).toNat = (E.I ρ j).toNat + 1 := by omega
  have ha2 : act (X.den ρ) ≤ 1 := by
    have : E.I ρ (.fn 1 (.pr X (.int 34))) = iX (X.den ρ) 34 := rfl
    unfold act; omega
  have el : (E.I ρ (.fn 0 (.fn 1 (.pr X (.int 31))))).toNat = (atk (X.den ρ)).length := by rw [← atk_len]; omega
  have ea : ints ρ (.fn 1 (.pr X (.int 31))) = atk (X.den ρ) := rfl
  rw [el] at hs h
  have b0 := blk_c (X := X) h0 0
  have b1 := blk_c (X := X) h0 1
  have c0 : (Int.ofNat 0) = 0 := rfl
  have c1 : (Int.ofNat 1) = 1 := rfl
  rw [c0] at b0
  rw [c1] at b1
  rw [← b0] at hk
  rw [z32b, z32b, z114, z114, z110, z112, z113, L_put, L_put, hl, e1, el, ea, ← b0, ← b1]
  exact ⟨fun hv => blk_1 hp ha2 h hs hj' hv, fun hv => blk_2 hp hs hj' hk hv, fun hv => blk_3 hj' hv, fun hv => blk_4 hj' hv, fun hv hn h1 h2 => blk_step hp ha2 h hb hs hj' hv hk hn h1 h2⟩
theorem neg_small {b:E} (h:1≤E.I ρ b) (h':E.I ρ b≤500):E.I ρ (.ar .sub .i64 (.int 0) b)=-(E.I ρ b):=by
 have e:E.I ρ (.ar .sub .i64 (.int 0) b)=IntKind.i64.wrap (0 - E.I ρ b):=rfl
 rw [e]
 obtain ⟨s,e,q,r⟩:=cs_i64 (0 - E.I ρ b)
 rw [e]; omega
theorem t_fights (h:E.B ρ (.fn 111 (.pr X (.fn 0 (.fn 1 (.pr X (.int 31))))))=true) (hb:E.B ρ (.fn 112 (.pr X j))=true) (h1:E.I ρ (.fn 9 (.pr (.fn 1 (.pr X (.int 32))) (.int 2)))=E.I ρ j):E.B ρ (.fn 110 X)=true:=by
 have el:(E.I ρ (.fn 0 (.fn 1 (.pr X (.int 31))))).toNat=(atk (X.den ρ)).length:=by rw [← atk_len]; omega
 rw [z111,el] at h
 rw [z112] at hb
 rw [← nBlk_c] at h1
 have e:(E.I ρ j).toNat=nBlk (X.den ρ):=by omega
 rw [e] at hb
 rw [z110,fightsP_iff]; exact ⟨h,hb⟩
/-! valid boards -/
theorem z115:(E.B ρ (.fn 115 X)=true)=(0≤E.I ρ (.fn 1 (.pr X (.int 34)))∧E.I ρ (.fn 1 (.pr X (.int 34)))≤1∧0≤E.I ρ (.fn 1 (.pr X (.int 33)))∧E.I ρ (.fn 1 (.pr X (.int 33)))≤1000∧0≤E.I ρ (.fn 1 (.pr X (.int 35)))∧E.I ρ (.fn 1 (.pr X (.int 35)))≤10∧-1≤E.I ρ (.fn 1 (.pr X (.int 36)))∧E.I ρ (.fn 1 (.pr X (.int 36)))≤1∧0≤E.I ρ (.fn 1 (.pr X (.int 37)))∧E.I ρ (.fn 1 (.pr X (.int 37)))≤2∧E.I ρ (.fn 9 (.pr (.fn 1 (.pr X (.int 0))) (.int 12)))≤500∧E.I ρ (.fn 9 (.pr (.fn 1 (.pr X (.int 29))) (.int 5)))≤200∧E.I ρ (.fn 9 (.pr (.fn 1 (.pr X (.int 30))) (.int 5)))≤200∧0≤E.I ρ (.fn 1 (.pr X (.int 1)))∧E.I ρ (.fn 1 (.pr X (.int 1)))≤9999∧0≤E.I ρ (.fn 1 (.pr X (.int 2)))∧E.I ρ (.fn 1 (.pr X (.int 2)))≤99∧0≤E.I ρ (.fn 1 (.pr X (.int 3)))∧E.I ρ (.fn 1 (.pr X (.int 3)))≤99∧0≤E.I ρ (.fn 1 (.pr X (.int 4)))∧E.I ρ (.fn 1 (.pr X (.int 4)))≤99∧0≤E.I ρ (.fn 1 (.pr X (.int 5)))∧E.I ρ (.fn 1 (.pr X (.int 5)))≤99∧0≤E.I ρ (.fn 1 (.pr X (.int 13)))∧E.I ρ (.fn 1 (.pr X (.int 13)))≤7∧0≤E.I ρ (.fn 1 (.pr X (.int 14)))∧E.I ρ (.fn 1 (.pr X (.int 14)))≤255∧0≤E.I ρ (.fn 1 (.pr X (.int 15)))∧E.I ρ (.fn 1 (.pr X (.int 15)))≤9999∧0≤E.I ρ (.fn 1 (.pr X (.int 16)))∧E.I ρ (.fn 1 (.pr X (.int 16)))≤99∧0≤E.I ρ (.fn 1 (.pr X (.int 17)))∧E.I ρ (.fn 1 (.pr X (.int 17)))≤99∧0≤E.I ρ (.fn 1 (.pr X (.int 18)))∧E.I ρ (.fn 1 (.pr X (.int 18)))≤99∧0≤E.I ρ (.fn 1 (.pr X (.int 19)))∧E.I ρ (.fn 1 (.pr X (.int 19)))≤99∧0≤E.I ρ (.fn 1 (.pr X (.int 27)))∧E.I ρ (.fn 1 (.pr X (.int 27)))≤7∧0≤E.I ρ (.fn 1 (.pr X (.int 28)))∧E.I ρ (.fn 1 (.pr X (.int 28)))≤255∧E.B ρ (.fn 103 (.pr (.fn 1 (.pr X (.int 29))) (.pr (.bool false) (.fn 9 (.pr (.fn 1 (.pr X (.int 29))) (.int 5))))))=true∧E.B ρ (.fn 103 (.pr (.fn 1 (.pr X (.int 30))) (.pr (.bool true) (.fn 9 (.pr (.fn 1 (.pr X (.int 30))) (.int 5))))))=true∧E.B ρ (.fn 108 X)=true∧E.B ρ (.fn 110 X)=true):=by
 show (validP (X.den ρ)=true)=_
 have e34:E.I ρ (.fn 1 (.pr X (.int 34)))=iX (X.den ρ) 34:=rfl
 have e33:E.I ρ (.fn 1 (.pr X (.int 33)))=iX (X.den ρ) 33:=rfl
 have e35:E.I ρ (.fn 1 (.pr X (.int 35)))=iX (X.den ρ) 35:=rfl
 have e36:E.I ρ (.fn 1 (.pr X (.int 36)))=iX (X.den ρ) 36:=rfl
 have e37:E.I ρ (.fn 1 (.pr X (.int 37)))=iX (X.den ρ) 37:=rfl
 have e1:E.I ρ (.fn 1 (.pr X (.int 1)))=iX (X.den ρ) 1:=rfl
 have e2:E.I ρ (.fn 1 (.pr X (.int 2)))=iX (X.den ρ) 2:=rfl
 have e3:E.I ρ (.fn 1 (.pr X (.int 3)))=iX (X.den ρ) 3:=rfl
 have e4:E.I ρ (.fn 1 (.pr X (.int 4)))=iX (X.den ρ) 4:=rfl
 have e5:E.I ρ (.fn 1 (.pr X (.int 5)))=iX (X.den ρ) 5:=rfl
 have e13:E.I ρ (.fn 1 (.pr X (.int 13)))=iX (X.den ρ) 13:=rfl
 have e14:E.I ρ (.fn 1 (.pr X (.int 14)))=iX (X.den ρ) 14:=rfl
 have e15:E.I ρ (.fn 1 (.pr X (.int 15)))=iX (X.den ρ) 15:=rfl
 have e16:E.I ρ (.fn 1 (.pr X (.int 16)))=iX (X.den ρ) 16:=rfl
 have e17:E.I ρ (.fn 1 (.pr X (.int 17)))=iX (X.den ρ) 17:=rfl
 have e18:E.I ρ (.fn 1 (.pr X (.int 18)))=iX (X.den ρ) 18:=rfl
 have e19:E.I ρ (.fn 1 (.pr X (.int 19)))=iX (X.den ρ) 19:=rfl
 have e27:E.I ρ (.fn 1 (.pr X (.int 27)))=iX (X.den ρ) 27:=rfl
 have e28:E.I ρ (.fn 1 (.pr X (.int 28)))=iX (X.den ρ) 28:=rfl
 have q0:E.I ρ (.fn 9 (.pr (.fn 1 (.pr X (.int 0))) (.int 12)))=((nObj (X.den ρ):Nat):Int):=rfl
 have q29:E.I ρ (.fn 9 (.pr (.fn 1 (.pr X (.int 29))) (.int 5)))=((nStk (X.den ρ):Nat):Int):=rfl
 have q30:E.I ρ (.fn 9 (.pr (.fn 1 (.pr X (.int 30))) (.int 5)))=(((cX (X.den ρ) 30).toL.length / 5:Nat):Int):=rfl
 have l29:E.L ρ (.fn 1 (.pr X (.int 29)))=(cX (X.den ρ) 29).toL:=rfl
 have l30:E.L ρ (.fn 1 (.pr X (.int 30)))=(cX (X.den ρ) 30).toL:=rfl
 have bt:E.B ρ (.bool true)=true:=rfl
 have bf:E.B ρ (.bool false)=false:=rfl
 have za:(E.B ρ (.fn 108 X)=true)=(placedP (X.den ρ)=true):=rfl
 have zb:(E.B ρ (.fn 110 X)=true)=(fightsP (X.den ρ)=true):=rfl
 rw [za,zb,z103,z103,l29,l30,bt,bf,q29,q30,q0,e34,e33,e35,e36,e37,e1,e2,e3,e4,e5,e13,e14,e15,e16,e17,e18,e19,e27,e28,Int.toNat_natCast,Int.toNat_natCast]
 unfold validP numsOk seatOk itemsB
 generalize (cX (X.den ρ) 30).toL.length / 5=z30
 generalize nStk (X.den ρ)=z29
 generalize nObj (X.den ρ)=z0
 apply propext
 simp only [Bool.and_eq_true,inR_iff,List.all_cons,List.all_nil,decide_eq_true_eq,and_true,Nat.mul_zero,Nat.mul_one,Nat.add_zero,Nat.reduceAdd,Nat.reduceMul,and_assoc]
 constructor <;> intro h <;> simp only [h,true_and,and_true] <;> grind
theorem z130:(E.B ρ (.fn 130 X)=true)=(0≤E.I ρ (.fn 1 (.pr X (.int 34)))∧E.I ρ (.fn 1 (.pr X (.int 34)))≤1∧0≤E.I ρ (.fn 1 (.pr X (.int 33)))∧E.I ρ (.fn 1 (.pr X (.int 33)))≤1000∧0≤E.I ρ (.fn 1 (.pr X (.int 35)))∧E.I ρ (.fn 1 (.pr X (.int 35)))≤10∧-1≤E.I ρ (.fn 1 (.pr X (.int 36)))∧E.I ρ (.fn 1 (.pr X (.int 36)))≤1∧0≤E.I ρ (.fn 1 (.pr X (.int 37)))∧E.I ρ (.fn 1 (.pr X (.int 37)))≤2∧E.I ρ (.fn 9 (.pr (.fn 1 (.pr X (.int 0))) (.int 12)))≤500∧E.I ρ (.fn 9 (.pr (.fn 1 (.pr X (.int 29))) (.int 5)))≤200∧E.I ρ (.fn 9 (.pr (.fn 1 (.pr X (.int 30))) (.int 5)))≤200∧0≤E.I ρ (.fn 1 (.pr X (.int 1)))∧E.I ρ (.fn 1 (.pr X (.int 1)))≤9999∧0≤E.I ρ (.fn 1 (.pr X (.int 2)))∧E.I ρ (.fn 1 (.pr X (.int 2)))≤99∧0≤E.I ρ (.fn 1 (.pr X (.int 3)))∧E.I ρ (.fn 1 (.pr X (.int 3)))≤99∧0≤E.I ρ (.fn 1 (.pr X (.int 4)))∧E.I ρ (.fn 1 (.pr X (.int 4)))≤99∧0≤E.I ρ (.fn 1 (.pr X (.int 5)))∧E.I ρ (.fn 1 (.pr X (.int 5)))≤99∧0≤E.I ρ (.fn 1 (.pr X (.int 13)))∧E.I ρ (.fn 1 (.pr X (.int 13)))≤7∧0≤E.I ρ (.fn 1 (.pr X (.int 14)))∧E.I ρ (.fn 1 (.pr X (.int 14)))≤255∧0≤E.I ρ (.fn 1 (.pr X (.int 15)))∧E.I ρ (.fn 1 (.pr X (.int 15)))≤9999∧0≤E.I ρ (.fn 1 (.pr X (.int 16)))∧E.I ρ (.fn 1 (.pr X (.int 16)))≤99∧0≤E.I ρ (.fn 1 (.pr X (.int 17)))∧E.I ρ (.fn 1 (.pr X (.int 17)))≤99∧0≤E.I ρ (.fn 1 (.pr X (.int 18)))∧E.I ρ (.fn 1 (.pr X (.int 18)))≤99∧0≤E.I ρ (.fn 1 (.pr X (.int 19)))∧E.I ρ (.fn 1 (.pr X (.int 19)))≤99∧0≤E.I ρ (.fn 1 (.pr X (.int 27)))∧E.I ρ (.fn 1 (.pr X (.int 27)))≤7∧0≤E.I ρ (.fn 1 (.pr X (.int 28)))∧E.I ρ (.fn 1 (.pr X (.int 28)))≤255∧E.B ρ (.fn 103 (.pr (.fn 1 (.pr X (.int 29))) (.pr (.bool false) (.fn 9 (.pr (.fn 1 (.pr X (.int 29))) (.int 5))))))=true∧E.B ρ (.fn 103 (.pr (.fn 1 (.pr X (.int 30))) (.pr (.bool true) (.fn 9 (.pr (.fn 1 (.pr X (.int 30))) (.int 5))))))=true∧E.B ρ (.fn 125 X)=true∧E.B ρ (.fn 129 X)=true):=by
 show (validR (X.den ρ)=true)=_
 have e34:E.I ρ (.fn 1 (.pr X (.int 34)))=iX (X.den ρ) 34:=rfl
 have e33:E.I ρ (.fn 1 (.pr X (.int 33)))=iX (X.den ρ) 33:=rfl
 have e35:E.I ρ (.fn 1 (.pr X (.int 35)))=iX (X.den ρ) 35:=rfl
 have e36:E.I ρ (.fn 1 (.pr X (.int 36)))=iX (X.den ρ) 36:=rfl
 have e37:E.I ρ (.fn 1 (.pr X (.int 37)))=iX (X.den ρ) 37:=rfl
 have e1:E.I ρ (.fn 1 (.pr X (.int 1)))=iX (X.den ρ) 1:=rfl
 have e2:E.I ρ (.fn 1 (.pr X (.int 2)))=iX (X.den ρ) 2:=rfl
 have e3:E.I ρ (.fn 1 (.pr X (.int 3)))=iX (X.den ρ) 3:=rfl
 have e4:E.I ρ (.fn 1 (.pr X (.int 4)))=iX (X.den ρ) 4:=rfl
 have e5:E.I ρ (.fn 1 (.pr X (.int 5)))=iX (X.den ρ) 5:=rfl
 have e13:E.I ρ (.fn 1 (.pr X (.int 13)))=iX (X.den ρ) 13:=rfl
 have e14:E.I ρ (.fn 1 (.pr X (.int 14)))=iX (X.den ρ) 14:=rfl
 have e15:E.I ρ (.fn 1 (.pr X (.int 15)))=iX (X.den ρ) 15:=rfl
 have e16:E.I ρ (.fn 1 (.pr X (.int 16)))=iX (X.den ρ) 16:=rfl
 have e17:E.I ρ (.fn 1 (.pr X (.int 17)))=iX (X.den ρ) 17:=rfl
 have e18:E.I ρ (.fn 1 (.pr X (.int 18)))=iX (X.den ρ) 18:=rfl
 have e19:E.I ρ (.fn 1 (.pr X (.int 19)))=iX (X.den ρ) 19:=rfl
 have e27:E.I ρ (.fn 1 (.pr X (.int 27)))=iX (X.den ρ) 27:=rfl
 have e28:E.I ρ (.fn 1 (.pr X (.int 28)))=iX (X.den ρ) 28:=rfl
 have q0:E.I ρ (.fn 9 (.pr (.fn 1 (.pr X (.int 0))) (.int 12)))=((nObj (X.den ρ):Nat):Int):=rfl
 have q29:E.I ρ (.fn 9 (.pr (.fn 1 (.pr X (.int 29))) (.int 5)))=((nStk (X.den ρ):Nat):Int):=rfl
 have q30:E.I ρ (.fn 9 (.pr (.fn 1 (.pr X (.int 30))) (.int 5)))=(((cX (X.den ρ) 30).toL.length / 5:Nat):Int):=rfl
 have l29:E.L ρ (.fn 1 (.pr X (.int 29)))=(cX (X.den ρ) 29).toL:=rfl
 have l30:E.L ρ (.fn 1 (.pr X (.int 30)))=(cX (X.den ρ) 30).toL:=rfl
 have bt:E.B ρ (.bool true)=true:=rfl
 have bf:E.B ρ (.bool false)=false:=rfl
 have za:(E.B ρ (.fn 125 X)=true)=(foundR (X.den ρ)=true):=rfl
 have zb:(E.B ρ (.fn 129 X)=true)=(fightsR (X.den ρ)=true):=rfl
 rw [za,zb,z103,z103,l29,l30,bt,bf,q29,q30,q0,e34,e33,e35,e36,e37,e1,e2,e3,e4,e5,e13,e14,e15,e16,e17,e18,e19,e27,e28,Int.toNat_natCast,Int.toNat_natCast]
 unfold validR numsOk seatOk itemsB
 generalize (cX (X.den ρ) 30).toL.length / 5=z30
 generalize nStk (X.den ρ)=z29
 generalize nObj (X.den ρ)=z0
 apply propext
 simp only [Bool.and_eq_true,inR_iff,List.all_cons,List.all_nil,decide_eq_true_eq,and_true,Nat.mul_zero,Nat.mul_one,Nat.add_zero,Nat.reduceAdd,Nat.reduceMul,and_assoc]
 constructor <;> intro h <;> simp only [h,true_and,and_true] <;> grind
end
end Go.SX

set_option linter.unusedVariables false
set_option linter.unusedSimpArgs false
namespace Go.SX
/-! ### all objects in just one place: the program's way -/
theorem stP_succ (X:U) (s:Nat):stP X (s + 1)=stP X s++if nI (cX X 29).toL (s * 5 + 3) < 0 then [(nI (cX X 29).toL (s * 5 + 1),nI (cX X 29).toL (s * 5))] else []:=by
 unfold stP; rw [stk_succ,List.map_append]
 by_cases h:nI (cX X 29).toL (s * 5 + 3) < 0 <;> simp [h]
theorem stC_succ (X:U) (s:Nat):stC X (s + 1)=stC X s++if nI (cX X 29).toL (s * 5 + 3) < 0 then [(nI (cX X 29).toL (s * 5 + 1),nI (cX X 29).toL (s * 5 + 2))] else []:=by
 unfold stC; rw [stk_succ,List.map_append]
 by_cases h:nI (cX X 29).toL (s * 5 + 3) < 0 <;> simp [h]
theorem stC_fst (X:U) (s:Nat):(stC X s).map Prod.fst=(stP X s).map Prod.fst:=by
 unfold stC stP; rw [List.map_map,List.map_map]; rfl
theorem stP_zero (X:U):stP X 0=[]:=by simp [stP,stk]
theorem stC_zero (X:U):stC X 0=[]:=by simp [stC,stk]
theorem mapIs_isSome {m:List U} {l:List (Int × Int)} (h:mapIs m l=true) (k:Int):(mfind k m).isSome=true↔k∈l.map Prod.fst:=by
 rw [mapIs_iff] at h; rw [mfind_some,h.1]
section
variable {ρ : Env} {x y l A a b k u i j p q n m r o c d w v X T N L L2 mc s p' q' i' : E}
theorem z33:E.B ρ (.fn 33 (.pr m k))=(mfind (E.I ρ k) (E.L ρ m)).isSome:=rfl
theorem z104:(E.B ρ (.fn 104 (.pr m (.pr X (.pr p (.pr q i)))))=true)=(mapIs (E.L ρ m) (preZ (X.den ρ) ((E.I ρ p).toNat * 4 + (E.I ρ q).toNat) (E.I ρ i).toNat)=true):=rfl
theorem z105:(E.B ρ (.fn 105 (.pr m (.pr X s)))=true)=(mapIs (E.L ρ m) (preZ (X.den ρ) 8 0++stP (X.den ρ) (E.I ρ s).toNat)=true):=rfl
theorem z106:(E.B ρ (.fn 106 (.pr m (.pr X s)))=true)=(mapIs (E.L ρ m) (stC (X.den ρ) (E.I ρ s).toNat)=true):=rfl
theorem z107:(E.B ρ (.fn 107 (.pr X n))=true)=(objsP (X.den ρ) (E.I ρ n).toNat=true):=rfl
theorem t104_start (hp:E.I ρ p≤0) (hq:E.I ρ q≤0) (hi:E.I ρ i≤0):E.B ρ (.fn 104 (.pr (.fn 10 a) (.pr X (.pr p (.pr q i)))))=true:=by
 have e1:(E.I ρ p).toNat=0:=by omega
 have e2:(E.I ρ q).toNat=0:=by omega
 have e3:(E.I ρ i).toNat=0:=by omega
 rw [z104,e1,e2,e3,preZ_zero]; rfl
theorem t104_eq (h:E.B ρ (.fn 104 (.pr m (.pr X (.pr p (.pr q i)))))=true) (h1:0≤E.I ρ p) (h2:0≤E.I ρ q) (h3:0≤E.I ρ p') (h4:0≤E.I ρ q') (hk:E.I ρ p' * 4 + E.I ρ q'=E.I ρ p * 4 + E.I ρ q) (hi:E.I ρ i'=E.I ρ i) :
  E.B ρ (.fn 104 (.pr m (.pr X (.pr p' (.pr q' i')))))=true:=by
 rw [z104] at *
 have e:(E.I ρ p').toNat * 4 + (E.I ρ q').toNat=(E.I ρ p).toNat * 4 + (E.I ρ q).toNat:=by omega
 rw [e,hi]; exact h
theorem t104_next (h:E.B ρ (.fn 104 (.pr m (.pr X (.pr p (.pr q i)))))=true) (hL:E.B ρ (.fn 109 (.pr L (.pr X (.pr p q))))=true) (h2:0≤E.I ρ q) (hi:E.I ρ i=E.I ρ (.fn 0 L)) (hq:E.I ρ q'=E.I ρ q + 1) (hz:E.I ρ i'=0) :
  E.B ρ (.fn 104 (.pr m (.pr X (.pr p (.pr q' i')))))=true:=by
 rw [z104] at *
 rw [z109] at hL
 have e:(E.I ρ p).toNat * 4 + (E.I ρ q').toNat=(E.I ρ p).toNat * 4 + (E.I ρ q).toNat + 1:=by omega
 have e1:(E.I ρ i).toNat=(zoneL (X.den ρ) ((E.I ρ p).toNat * 4 + (E.I ρ q).toNat)).length:=by rw [← hL,hi,← ints_len]; omega
 rw [e1,preZ_end] at h
 rw [e,hz]; exact h
theorem t104_put (h:E.B ρ (.fn 104 (.pr m (.pr X (.pr p (.pr q i)))))=true) (hL:E.B ρ (.fn 109 (.pr L (.pr X (.pr p q))))=true) (h0:0≤E.I ρ p) (h1:0≤E.I ρ q) (h2:E.I ρ q < 4) (hi:0≤E.I ρ i) (hi':E.I ρ i < E.I ρ (.fn 0 L)) (hn:E.I ρ n=E.I ρ i + 1) (hp:E.I ρ p≤1) :
  (¬ E.B ρ (.fn 33 (.pr m (.fn 1 (.pr L i))))=true→E.B ρ (.fn 104 (.pr (.fn 34 (.pr m (.pr (.fn 1 (.pr L i)) p))) (.pr X (.pr p (.pr q n)))))=true) ∧
  (E.B ρ (.fn 33 (.pr m (.fn 1 (.pr L i))))=true→¬ E.B ρ (.fn 108 X)=true):=by
 rw [z104] at *
 rw [z109] at hL
 have ei:(E.I ρ n).toNat=(E.I ρ i).toNat + 1:=by omega
 have hlt:(E.I ρ i).toNat < (zoneL (X.den ρ) ((E.I ρ p).toNat * 4 + (E.I ρ q).toNat)).length:=by rw [← hL]; rw [← ints_len] at hi'; omega
 have ek:(((E.I ρ p).toNat * 4 + (E.I ρ q).toNat) / 4:Nat)=(E.I ρ p).toNat:=by omega
 have hs:=preZ_succ (X.den ρ) _ _ hlt
 rw [ek,← hL,← I_nth,Int.toNat_of_nonneg h0] at hs
 refine ⟨fun hn'=>?_,fun ht=>?_⟩
 ·rw [z33] at hn'
  rw [ei,L_put,hs]
  exact mapIs_put h hn'
 ·rw [z33,mapIs_isSome h] at ht
  rw [z108]
  refine not_placed (k:=E.I ρ (.fn 1 (.pr L i))) (v:=E.I ρ p) ?_ ht
  have:=preZ_prefix (X.den ρ) ((E.I ρ p).toNat * 4 + (E.I ρ q).toNat) ((E.I ρ i).toNat + 1) (by omega)
  rw [hs] at this
  exact this
theorem t105_start (h:E.B ρ (.fn 104 (.pr m (.pr X (.pr p (.pr q i)))))=true) (h1:E.I ρ p=2) (h2:E.I ρ q=0) (h3:E.I ρ i=0) (hs:E.I ρ s=0):E.B ρ (.fn 105 (.pr m (.pr X s)))=true:=by
 rw [z104,h1,h2,h3] at h
 rw [z105,hs]
 have e:(0:Int).toNat=0:=rfl
 rw [e,stP_zero,List.append_nil]; exact h
theorem t106_start (hs:E.I ρ s=0):E.B ρ (.fn 106 (.pr (.fn 10 a) (.pr X s)))=true:=by
 rw [z106,hs]
 have e:(0:Int).toNat=0:=rfl
 rw [e,stC_zero]; rfl
theorem t105_eq (h:E.B ρ (.fn 105 (.pr m (.pr X s)))=true) (e:E.I ρ n=E.I ρ s):E.B ρ (.fn 105 (.pr m (.pr X n)))=true:=by
 rw [z105] at *; rw [e]; exact h
theorem t106_eq (h:E.B ρ (.fn 106 (.pr m (.pr X s)))=true) (e:E.I ρ n=E.I ρ s):E.B ρ (.fn 106 (.pr m (.pr X n)))=true:=by
 rw [z106] at *; rw [e]; exact h
theorem stk_cell (h0:0≤E.I ρ s) (c:Nat):nI (cX (X.den ρ) 29).toL ((E.I ρ s).toNat * 5 + c)=E.I ρ (.fn 1 (.pr (.fn 1 (.pr X (.int 29))) (.fn 6 (.pr (.fn 8 (.pr s (.int 5))) (.int (Int.ofNat c)))))) :=
 (I_row (T:=.fn 1 (.pr X (.int 29))) s 5 c h0).symm
theorem t_stk (h:E.B ρ (.fn 105 (.pr m (.pr X s)))=true) (h':E.B ρ (.fn 106 (.pr mc (.pr X s)))=true) (h0:0≤E.I ρ s) (h1:E.I ρ s < E.I ρ (.fn 9 (.pr (.fn 1 (.pr X (.int 29))) (.int 5)))) (hn:E.I ρ n=E.I ρ s + 1)
  {pl id cd tr:E} (e0:pl=.fn 1 (.pr (.fn 1 (.pr X (.int 29))) (.fn 6 (.pr (.fn 8 (.pr s (.int 5))) (.int 0))))) (e1:id=.fn 1 (.pr (.fn 1 (.pr X (.int 29))) (.fn 6 (.pr (.fn 8 (.pr s (.int 5))) (.int 1)))))
  (e2:cd=.fn 1 (.pr (.fn 1 (.pr X (.int 29))) (.fn 6 (.pr (.fn 8 (.pr s (.int 5))) (.int 2))))) (e3:tr=.fn 1 (.pr (.fn 1 (.pr X (.int 29))) (.fn 6 (.pr (.fn 8 (.pr s (.int 5))) (.int 3))))) :
  (¬ E.I ρ tr < 0→E.B ρ (.fn 105 (.pr m (.pr X n)))=true∧E.B ρ (.fn 106 (.pr mc (.pr X n)))=true) ∧
  (E.I ρ tr < 0→E.B ρ (.fn 33 (.pr m id))=true→¬ E.B ρ (.fn 108 X)=true) ∧
  (E.I ρ tr < 0→¬ E.B ρ (.fn 33 (.pr m id))=true→E.B ρ (.fn 105 (.pr (.fn 34 (.pr m (.pr id pl))) (.pr X n)))=true∧E.B ρ (.fn 106 (.pr (.fn 34 (.pr mc (.pr id cd))) (.pr X n)))=true):=by
 subst e0; subst e1; subst e2; subst e3
 rw [z105] at h
 rw [z106] at h'
 have hs:(E.I ρ s).toNat < nStk (X.den ρ):=by
  have:E.I ρ (.fn 9 (.pr (.fn 1 (.pr X (.int 29))) (.int 5)))=((nStk (X.den ρ):Nat):Int):=rfl
  omega
 have en:(E.I ρ n).toNat=(E.I ρ s).toNat + 1:=by omega
 have c0:=stk_cell (X:=X) h0 0
 have c1:=stk_cell (X:=X) h0 1
 have c2:=stk_cell (X:=X) h0 2
 have c3:=stk_cell (X:=X) h0 3
 simp only [Nat.add_zero] at c0
 have k0:(Int.ofNat 0)=0:=rfl
 have k1:(Int.ofNat 1)=1:=rfl
 have k2:(Int.ofNat 2)=2:=rfl
 have k3:(Int.ofNat 3)=3:=rfl
 rw [k0] at c0
 rw [k1] at c1
 rw [k2] at c2
 rw [k3] at c3
 have sp:=stP_succ (X.den ρ) (E.I ρ s).toNat
 have sc:=stC_succ (X.den ρ) (E.I ρ s).toNat
 rw [c0,c1,c3] at sp
 rw [c1,c2,c3] at sc
 refine ⟨fun ht=>?_,fun ht hb=>?_,fun ht hb=>?_⟩
 ·rw [if_neg ht,List.append_nil] at sp sc
  rw [z105,z106,en,sp,sc]; exact ⟨h,h'⟩
 ·rw [if_pos ht] at sp
  rw [z33,mapIs_isSome h] at hb
  rw [z108]
  refine not_placed (k:=E.I ρ (.fn 1 (.pr (.fn 1 (.pr X (.int 29))) (.fn 6 (.pr (.fn 8 (.pr s (.int 5))) (.int 1)))))) (v:=E.I ρ (.fn 1 (.pr (.fn 1 (.pr X (.int 29))) (.fn 6 (.pr (.fn 8 (.pr s (.int 5))) (.int 0)))))) ?_ hb
  have:=stP_prefix (X.den ρ) ((E.I ρ s).toNat + 1) hs
  rw [sp,← List.append_assoc] at this
  exact this
 ·rw [if_pos ht] at sp sc
  rw [z33] at hb
  rw [z105,z106,en,sp,sc,L_put,L_put,← List.append_assoc]
  refine ⟨mapIs_put h hb,mapIs_put h' ?_⟩
  rw [mapIs_isSome h,List.map_append,List.mem_append] at hb
  rw [mapIs_isSome h',stC_fst]
  exact fun hm=>hb (Or.inr hm)
theorem t107_zero (h:E.I ρ n≤0):E.B ρ (.fn 107 (.pr X n))=true:=by
 have e:(E.I ρ n).toNat=0:=by omega
 rw [z107,e]; rfl
theorem obj_cell (h0:0≤E.I ρ i) (c:Nat):oI (X.den ρ) (E.I ρ i).toNat c=E.I ρ (.fn 1 (.pr (.fn 1 (.pr X (.int 0))) (.fn 6 (.pr (.fn 8 (.pr i (.int 12))) (.int (Int.ofNat c)))))) :=
 (I_row (T:=.fn 1 (.pr X (.int 0))) i 12 c h0).symm
theorem lkp_32 {l:List (Int × Int)} (h:mapIs (E.L ρ m) l=true) (hb:E.B ρ (.fn 33 (.pr m k))=true):lkp l (E.I ρ k)=some (E.I ρ (.fn 32 (.pr m (.pr k (.int 0))))):=by
 rw [mapIs_iff] at h
 rw [z33] at hb
 rw [← h.1,← mfind_lkp]
 have e:E.I ρ (.fn 32 (.pr m (.pr k (.int 0))))=((mfind (E.I ρ k) (E.L ρ m)).getD (U.int 0)).toI:=rfl
 rw [e]
 cases hc:mfind (E.I ρ k) (E.L ρ m) with
 | none=>rw [hc] at hb; simp at hb
 | some v=>rfl
theorem lkp_none {l:List (Int × Int)} (h:mapIs (E.L ρ m) l=true) (hb:¬ E.B ρ (.fn 33 (.pr m k))=true):lkp l (E.I ρ k)=none:=by
 rw [mapIs_iff] at h
 rw [z33] at hb
 rw [← h.1,← mfind_lkp]
 cases hc:mfind (E.I ρ k) (E.L ρ m) with
 | none=>rfl
 | some v=>rw [hc] at hb; simp at hb
theorem placedP_objs {Y:U} (h:placedP Y=true):objsP Y (nObj Y)=true:=by
 unfold placedP at h; simp only [Bool.and_eq_true] at h; exact h.1.2
/-- an object -/
theorem t_obj (hm : E.B ρ (.fn 105 (.pr m (.pr X (.fn 9 (.pr (.fn 1 (.pr X (.int 29))) (.int 5)))))) = true) (hc : E.B ρ (.fn 106 (.pr mc (.pr X (.fn 9 (.pr (.fn 1 (.pr X (.int 29))) (.int 5)))))) = true) (h : E.B ρ (.fn 107 (.pr X i)) = true)
    (h0 : 0 ≤ E.I ρ i) (hi : E.I ρ i < E.I ρ (.fn 9 (.pr (.fn 1 (.pr X (.int 0))) (.int 12)))) (hn : E.I ρ n = E.I ρ i + 1) {t : E} (ht : 0 < E.I ρ i → E.I ρ t = E.I ρ i - 1) {C : Prop} {f : Nat → E} (hf : f = fun j => .fn 1 (.pr (.fn 1 (.pr X (.int 0))) (.fn 6 (.pr (.fn 8 (.pr i (.int 12))) (.int (Int.ofNat j))))))
    (hC : C ↔ (1 ≤ E.I ρ (f 0) ∧ E.I ρ (f 0) ≤ 500 ∧ -1 ≤ E.I ρ (f 1) ∧ E.I ρ (f 1) ≤ 399 ∧ 0 ≤ E.I ρ (f 2) ∧ E.I ρ (f 2) ≤ 1 ∧ (E.I ρ (f 1) = -1 ∨ (E.I ρ (f 3) = 0 ∧ E.I ρ (f 4) = 0)) ∧
      0 ≤ E.I ρ (f 3) ∧ E.I ρ (f 3) ≤ 99 ∧ 0 ≤ E.I ρ (f 4) ∧ E.I ρ (f 4) ≤ 99 ∧ 0 ≤ E.I ρ (f 5) ∧ E.I ρ (f 5) ≤ 99 ∧ 0 ≤ E.I ρ (f 6) ∧ E.I ρ (f 6) ≤ 99 ∧ 0 ≤ E.I ρ (f 7) ∧ E.I ρ (f 7) ≤ 99 ∧ 0 ≤ E.I ρ (f 8) ∧ E.I ρ (f 8) ≤ 99) ∧
      (E.I ρ i = 0 ∨ E.I ρ (.fn 1 (.pr (.fn 1 (.pr X (.int 0))) (.fn 6 (.pr (.fn 8 (.pr t (.int 12))) (.int 0))))) < E.I ρ (f 0)) ∧
      (E.B ρ (.fn 33 (.pr m (f 0))) = true ∧ E.I ρ (.fn 32 (.pr m (.pr (f 0) (.int 0)))) = E.I ρ (f 2)) ∧ (E.B ρ (.fn 33 (.pr mc (f 0))) = true → E.I ρ (.fn 32 (.pr mc (.pr (f 0) (.int 0)))) = E.I ρ (f 1))) :
    (C → E.B ρ (.fn 107 (.pr X n)) = true) ∧ (¬ C → ¬ E.B ρ (.fn 108 X) = true) := by
  rw [z105] at hm
  rw [z106] at hc
  have es : (E.I ρ (.fn 9 (.pr (.fn 1 (.pr X (.int 29))) (.int 5)))).toNat = nStk (X.den ρ) := rfl
  rw [es] at hm hc
  have hall : mapIs (E.L ρ m) (allP (X.den ρ)) = true := hm
  have hi' : (E.I ρ i).toNat < nObj (X.den ρ) := by
    have : E.I ρ (.fn 9 (.pr (.fn 1 (.pr X (.int 0))) (.int 12))) = ((nObj (X.den ρ) : Nat) : Int) := rfl
    omega
  have fc : ∀ j, E.I ρ (f j) = oI (X.den ρ) (E.I ρ i).toNat j := by
    intro j; rw [obj_cell h0 j, hf]
  have hprev : (E.I ρ i = 0 ∨ E.I ρ (.fn 1 (.pr (.fn 1 (.pr X (.int 0))) (.fn 6 (.pr (.fn 8 (.pr t (.int 12))) (.int 0))))) < E.I ρ (f 0)) ↔ ((E.I ρ i).toNat = 0 ∨ oI (X.den ρ) ((E.I ρ i).toNat - 1) 0 < oI (X.den ρ) (E.I ρ i).toNat 0) := by
    by_cases hz : E.I ρ i = 0
    · simp [hz]
    · have ht' := ht (by omega)
      have e := obj_cell (X := X) (i := t) (ρ := ρ) (by omega) 0
      have k0 : (Int.ofNat 0) = 0 := rfl
      rw [k0] at e
      have et : (E.I ρ t).toNat = (E.I ρ i).toNat - 1 := by omega
      rw [et] at e
      rw [← e, fc 0]
      have : ¬ (E.I ρ i).toNat = 0 := by omega
      simp [hz, this]
  have hown : (E.B ρ (.fn 33 (.pr m (f 0))) = true ∧ E.I ρ (.fn 32 (.pr m (.pr (f 0) (.int 0)))) = E.I ρ (f 2)) ↔ lkp (allP (X.den ρ)) (oI (X.den ρ) (E.I ρ i).toNat 0) = some (oI (X.den ρ) (E.I ρ i).toNat 2) := by
    rw [← fc 0, ← fc 2]
    by_cases hb : E.B ρ (.fn 33 (.pr m (f 0))) = true
    · rw [lkp_32 hall hb]; simp [hb]
    · rw [lkp_none hall hb]; simp [hb]
  have hcard : (E.B ρ (.fn 33 (.pr mc (f 0))) = true → E.I ρ (.fn 32 (.pr mc (.pr (f 0) (.int 0)))) = E.I ρ (f 1)) ↔ (∀ c, lkp (stC (X.den ρ) (nStk (X.den ρ))) (oI (X.den ρ) (E.I ρ i).toNat 0) = some c → c = oI (X.den ρ) (E.I ρ i).toNat 1) := by
    rw [← fc 0, ← fc 1]
    by_cases hb : E.B ρ (.fn 33 (.pr mc (f 0))) = true
    · rw [lkp_32 hc hb]; simp [hb]
    · rw [lkp_none hc hb]; simp [hb]
  have key : C ↔ (objOk (X.den ρ) (E.I ρ i).toNat = true ∧ ((E.I ρ i).toNat = 0 ∨ oI (X.den ρ) ((E.I ρ i).toNat - 1) 0 < oI (X.den ρ) (E.I ρ i).toNat 0) ∧ lkp (allP (X.den ρ)) (oI (X.den ρ) (E.I ρ i).toNat 0) = some (oI (X.den ρ) (E.I ρ i).toNat 2) ∧ (∀ c, lkp (stC (X.den ρ) (nStk (X.den ρ))) (oI (X.den ρ) (E.I ρ i).toNat 0) = some c → c = oI (X.den ρ) (E.I ρ i).toNat 1)) := by
    rw [hC, hprev, hown, hcard, objOk_iff]
    simp only [fc]
  rw [z107, objsP_iff] at h
  refine ⟨fun hc' => ?_, fun hc' hp => ?_⟩
  · rw [z107, objsP_iff]
    intro k hk
    by_cases e : k = (E.I ρ i).toNat
    · subst e; exact key.1 hc'
    · exact h k (by omega)
  · rw [z108] at hp
    exact hc' (key.2 ((objsP_iff _ _).1 (placedP_objs hp) _ hi'))
theorem t_obj9 (hm:E.B ρ (.fn 105 (.pr m (.pr X (.fn 9 (.pr (.fn 1 (.pr X (.int 29))) (.int 5))))))=true) (hc:E.B ρ (.fn 106 (.pr mc (.pr X (.fn 9 (.pr (.fn 1 (.pr X (.int 29))) (.int 5))))))=true) (h:E.B ρ (.fn 107 (.pr X i))=true)
  {t a0 a1 a2 a3 a4 a5 a6 a7 a8:E} (e0:a0=.fn 1 (.pr (.fn 1 (.pr X (.int 0))) (.fn 6 (.pr (.fn 8 (.pr i (.int 12))) (.int 0))))) (e1:a1=.fn 1 (.pr (.fn 1 (.pr X (.int 0))) (.fn 6 (.pr (.fn 8 (.pr i (.int 12))) (.int 1))))) (e2:a2=.fn 1 (.pr (.fn 1 (.pr X (.int 0))) (.fn 6 (.pr (.fn 8 (.pr i (.int 12))) (.int 2))))) (e3:a3=.fn 1 (.pr (.fn 1 (.pr X (.int 0))) (.fn 6 (.pr (.fn 8 (.pr i (.int 12))) (.int 3))))) (e4:a4=.fn 1 (.pr (.fn 1 (.pr X (.int 0))) (.fn 6 (.pr (.fn 8 (.pr i (.int 12))) (.int 4))))) (e5:a5=.fn 1 (.pr (.fn 1 (.pr X (.int 0))) (.fn 6 (.pr (.fn 8 (.pr i (.int 12))) (.int 5))))) (e6:a6=.fn 1 (.pr (.fn 1 (.pr X (.int 0))) (.fn 6 (.pr (.fn 8 (.pr i (.int 12))) (.int 6))))) (e7:a7=.fn 1 (.pr (.fn 1 (.pr X (.int 0))) (.fn 6 (.pr (.fn 8 (.pr i (.int 12))) (.int 7))))) (e8:a8=.fn 1 (.pr (.fn 1 (.pr X (.int 0))) (.fn 6 (.pr (.fn 8 (.pr i (.int 12))) (.int 8)))))
  (h0:0≤E.I ρ i) (hi:E.I ρ i < E.I ρ (.fn 9 (.pr (.fn 1 (.pr X (.int 0))) (.int 12)))) (hn:E.I ρ n=E.I ρ i + 1) (ht:0 < E.I ρ i→E.I ρ t=E.I ρ i - 1) :
  (((1≤E.I ρ a0∧E.I ρ a0≤500∧-1≤E.I ρ a1∧E.I ρ a1≤399∧0≤E.I ρ a2∧E.I ρ a2≤1∧(E.I ρ a1=-1∨(E.I ρ a3=0∧E.I ρ a4=0))∧0≤E.I ρ a3∧E.I ρ a3≤99∧0≤E.I ρ a4∧E.I ρ a4≤99∧0≤E.I ρ a5∧E.I ρ a5≤99∧0≤E.I ρ a6∧E.I ρ a6≤99∧0≤E.I ρ a7∧E.I ρ a7≤99∧0≤E.I ρ a8∧E.I ρ a8≤99)∧(E.I ρ i=0∨E.I ρ (.fn 1 (.pr (.fn 1 (.pr X (.int 0))) (.fn 6 (.pr (.fn 8 (.pr t (.int 12))) (.int 0))))) < E.I ρ a0)∧(E.B ρ (.fn 33 (.pr m a0))=true∧E.I ρ (.fn 32 (.pr m (.pr a0 (.int 0))))=E.I ρ a2)∧(E.B ρ (.fn 33 (.pr mc a0))=true→E.I ρ (.fn 32 (.pr mc (.pr a0 (.int 0))))=E.I ρ a1))→E.B ρ (.fn 107 (.pr X n))=true)∧(¬ ((1≤E.I ρ a0∧E.I ρ a0≤500∧-1≤E.I ρ a1∧E.I ρ a1≤399∧0≤E.I ρ a2∧E.I ρ a2≤1∧(E.I ρ a1=-1∨(E.I ρ a3=0∧E.I ρ a4=0))∧0≤E.I ρ a3∧E.I ρ a3≤99∧0≤E.I ρ a4∧E.I ρ a4≤99∧0≤E.I ρ a5∧E.I ρ a5≤99∧0≤E.I ρ a6∧E.I ρ a6≤99∧0≤E.I ρ a7∧E.I ρ a7≤99∧0≤E.I ρ a8∧E.I ρ a8≤99)∧(E.I ρ i=0∨E.I ρ (.fn 1 (.pr (.fn 1 (.pr X (.int 0))) (.fn 6 (.pr (.fn 8 (.pr t (.int 12))) (.int 0))))) < E.I ρ a0)∧(E.B ρ (.fn 33 (.pr m a0))=true∧E.I ρ (.fn 32 (.pr m (.pr a0 (.int 0))))=E.I ρ a2)∧(E.B ρ (.fn 33 (.pr mc a0))=true→E.I ρ (.fn 32 (.pr mc (.pr a0 (.int 0))))=E.I ρ a1))→¬ E.B ρ (.fn 108 X)=true):=by
 subst e0; subst e1; subst e2; subst e3; subst e4; subst e5; subst e6; subst e7; subst e8
 exact t_obj hm hc h h0 hi hn ht (f:=fun j=>.fn 1 (.pr (.fn 1 (.pr X (.int 0))) (.fn 6 (.pr (.fn 8 (.pr i (.int 12))) (.int (Int.ofNat j)))))) rfl Iff.rfl
theorem z137 {a0 a1 a2 a3 a4 a5 a6 a7 a8:E}:(E.B ρ (.fn 137 (.pr a0 (.pr a1 (.pr a2 (.pr a3 (.pr a4 (.pr a5 (.pr a6 (.pr a7 a8)))))))))=true)=(1≤E.I ρ a0∧E.I ρ a0≤500∧-1≤E.I ρ a1∧E.I ρ a1≤399∧0≤E.I ρ a2∧E.I ρ a2≤1∧(E.I ρ a1=-1∨(E.I ρ a3=0∧E.I ρ a4=0))∧0≤E.I ρ a3∧E.I ρ a3≤99∧0≤E.I ρ a4∧E.I ρ a4≤99∧0≤E.I ρ a5∧E.I ρ a5≤99∧0≤E.I ρ a6∧E.I ρ a6≤99∧0≤E.I ρ a7∧E.I ρ a7≤99∧0≤E.I ρ a8∧E.I ρ a8≤99):=by
 show (objN (E.I ρ a0) (E.I ρ a1) (E.I ρ a2) (E.I ρ a3) (E.I ρ a4) (E.I ρ a5) (E.I ρ a6) (E.I ρ a7) (E.I ρ a8)=true)=_
 unfold objN
 simp only [List.all_cons,List.all_nil,Bool.and_eq_true,Bool.or_eq_true,inR_iff,beq_iff_eq,and_assoc,and_true]
theorem t_obj10 (hm:E.B ρ (.fn 105 (.pr m (.pr X (.fn 9 (.pr (.fn 1 (.pr X (.int 29))) (.int 5))))))=true) (hc:E.B ρ (.fn 106 (.pr mc (.pr X (.fn 9 (.pr (.fn 1 (.pr X (.int 29))) (.int 5))))))=true) (h:E.B ρ (.fn 107 (.pr X i))=true)
  {t a0 a1 a2 a3 a4 a5 a6 a7 a8:E} (e0:a0=.fn 1 (.pr (.fn 1 (.pr X (.int 0))) (.fn 6 (.pr (.fn 8 (.pr i (.int 12))) (.int 0))))) (e1:a1=.fn 1 (.pr (.fn 1 (.pr X (.int 0))) (.fn 6 (.pr (.fn 8 (.pr i (.int 12))) (.int 1))))) (e2:a2=.fn 1 (.pr (.fn 1 (.pr X (.int 0))) (.fn 6 (.pr (.fn 8 (.pr i (.int 12))) (.int 2))))) (e3:a3=.fn 1 (.pr (.fn 1 (.pr X (.int 0))) (.fn 6 (.pr (.fn 8 (.pr i (.int 12))) (.int 3))))) (e4:a4=.fn 1 (.pr (.fn 1 (.pr X (.int 0))) (.fn 6 (.pr (.fn 8 (.pr i (.int 12))) (.int 4))))) (e5:a5=.fn 1 (.pr (.fn 1 (.pr X (.int 0))) (.fn 6 (.pr (.fn 8 (.pr i (.int 12))) (.int 5))))) (e6:a6=.fn 1 (.pr (.fn 1 (.pr X (.int 0))) (.fn 6 (.pr (.fn 8 (.pr i (.int 12))) (.int 6))))) (e7:a7=.fn 1 (.pr (.fn 1 (.pr X (.int 0))) (.fn 6 (.pr (.fn 8 (.pr i (.int 12))) (.int 7))))) (e8:a8=.fn 1 (.pr (.fn 1 (.pr X (.int 0))) (.fn 6 (.pr (.fn 8 (.pr i (.int 12))) (.int 8)))))
  (h0:0≤E.I ρ i) (hi:E.I ρ i < E.I ρ (.fn 9 (.pr (.fn 1 (.pr X (.int 0))) (.int 12)))) (hn:E.I ρ n=E.I ρ i + 1) (ht:0 < E.I ρ i→E.I ρ t=E.I ρ i - 1) :
  (((E.B ρ (.fn 137 (.pr a0 (.pr a1 (.pr a2 (.pr a3 (.pr a4 (.pr a5 (.pr a6 (.pr a7 a8)))))))))=true)∧(E.I ρ i=0∨E.I ρ (.fn 1 (.pr (.fn 1 (.pr X (.int 0))) (.fn 6 (.pr (.fn 8 (.pr t (.int 12))) (.int 0))))) < E.I ρ a0)∧(E.B ρ (.fn 33 (.pr m a0))=true∧E.I ρ (.fn 32 (.pr m (.pr a0 (.int 0))))=E.I ρ a2)∧(E.B ρ (.fn 33 (.pr mc a0))=true→E.I ρ (.fn 32 (.pr mc (.pr a0 (.int 0))))=E.I ρ a1))→E.B ρ (.fn 107 (.pr X n))=true)∧(¬ ((E.B ρ (.fn 137 (.pr a0 (.pr a1 (.pr a2 (.pr a3 (.pr a4 (.pr a5 (.pr a6 (.pr a7 a8)))))))))=true)∧(E.I ρ i=0∨E.I ρ (.fn 1 (.pr (.fn 1 (.pr X (.int 0))) (.fn 6 (.pr (.fn 8 (.pr t (.int 12))) (.int 0))))) < E.I ρ a0)∧(E.B ρ (.fn 33 (.pr m a0))=true∧E.I ρ (.fn 32 (.pr m (.pr a0 (.int 0))))=E.I ρ a2)∧(E.B ρ (.fn 33 (.pr mc a0))=true→E.I ρ (.fn 32 (.pr mc (.pr a0 (.int 0))))=E.I ρ a1))→¬ E.B ρ (.fn 108 X)=true):=by
 rw [z137]
 exact t_obj9 hm hc h e0 e1 e2 e3 e4 e5 e6 e7 e8 h0 hi hn ht
theorem t_placed (hm:E.B ρ (.fn 105 (.pr m (.pr X (.fn 9 (.pr (.fn 1 (.pr X (.int 29))) (.int 5))))))=true) (h:E.B ρ (.fn 107 (.pr X i))=true) (hi:E.I ρ (.fn 9 (.pr (.fn 1 (.pr X (.int 0))) (.int 12)))=E.I ρ i) :
  (E.I ρ (.fn 0 m)=E.I ρ (.fn 9 (.pr (.fn 1 (.pr X (.int 0))) (.int 12))))↔E.B ρ (.fn 108 X)=true:=by
 rw [z105] at hm
 have es:(E.I ρ (.fn 9 (.pr (.fn 1 (.pr X (.int 29))) (.int 5)))).toNat=nStk (X.den ρ):=rfl
 rw [es] at hm
 have hall:mapIs (E.L ρ m) (allP (X.den ρ))=true:=hm
 rw [mapIs_iff] at hall
 have hl:(E.L ρ m).length=(allP (X.den ρ)).length:=by rw [← hall.1]; unfold pairsU; rw [List.length_map]
 have e9:E.I ρ (.fn 9 (.pr (.fn 1 (.pr X (.int 0))) (.int 12)))=((nObj (X.den ρ):Nat):Int):=rfl
 have e0:E.I ρ (.fn 0 m)=((E.L ρ m).length:Int):=rfl
 rw [z107] at h
 rw [e9] at hi
 have en:(E.I ρ i).toNat=nObj (X.den ρ):=by omega
 rw [en] at h
 rw [z108,e9,e0,hl]
 unfold placedP
 rw [Bool.and_eq_true,Bool.and_eq_true,nodupB_iff,beq_iff_eq]
 constructor
 ·intro e; exact ⟨⟨hall.2,h⟩,by omega⟩
 ·intro e; have:=e.2; omega
end
end Go.SX

set_option linter.unusedVariables false
set_option linter.unusedSimpArgs false
namespace Go.SX
/-! ### valid boards: the reference's way -/
theorem atksR_iff (X:U) (n:Nat):atksR X n=true↔∀ i,i < n→((atk X).count (nI (cX X 31).toL i)=1∧(ownF X).count (nI (cX X 31).toL i)=1):=by
 unfold atksR; rw [all_range]; simp only [Bool.and_eq_true,beq_iff_eq]
theorem blkR1_iff (X:U) (i k:Nat):blkR1 X i k=true↔∀ q,q < k→(¬ blk X q 1=blk X i 1∧¬ blk X q 0=blk X i 0):=by
 unfold blkR1; rw [all_range]; simp
theorem blksR_iff (X:U) (n:Nat):blksR X n=true↔∀ i,i < n→(((atk X).count (blk X i 1)=1∧(othF X).count (blk X i 0)=1)∧blkR1 X i i=true):=by
 unfold blksR; rw [all_range]; simp only [Bool.and_eq_true,beq_iff_eq]
theorem fightsR_iff (X:U):fightsR X=true↔atksR X (atk X).length=true∧blksR X (nBlk X)=true:=by
 unfold fightsR; rw [Bool.and_eq_true]
theorem objsR_iff (X:U) (n:Nat):objsR X n=true↔∀ i,i < n→(objOk X i=true∧(i=0∨oI X (i - 1) 0 < oI X i 0)∧placesR X (oI X i 2).toNat (oI X i 0)=1):=by
 unfold objsR; rw [all_range]; simp only [Bool.and_eq_true,Bool.or_eq_true,beq_iff_eq,decide_eq_true_eq,and_assoc]
def stk1 (X:U) (i:Nat):Prop:=nI (cX X 29).toL (i * 5 + 3) < 0→(0≤idxO X (nI (cX X 29).toL (i * 5 + 1)) (nObj X)∧oI X (idxO X (nI (cX X 29).toL (i * 5 + 1)) (nObj X)).toNat 1=nI (cX X 29).toL (i * 5 + 2))
theorem stkR_iff (X:U) (s:Nat):stkR X s=true↔∀ i,i < s→stk1 X i:=by
 unfold stkR stk stk1
 rw [List.all_eq_true]
 constructor
 ·intro h i hi ht
  have:=h i (List.mem_filter.2 ⟨List.mem_range.2 hi,by simpa using ht⟩)
  simpa using this
 ·intro h i hi
  have:=List.mem_filter.1 hi
  have:=h i (List.mem_range.1 this.1) (by simpa using this.2)
  simpa using this
theorem foundR_iff (X:U):foundR X=true↔stkR X (nStk X)=true∧objsR X (nObj X)=true∧manyR X=nObj X:=by
 unfold foundR; rw [Bool.and_eq_true,Bool.and_eq_true,beq_iff_eq,and_assoc]
theorem idx_found (X:U) (k:Int) (n i:Nat) (hi:i < n) (h:idxO X k i=-1) (he:oI X i 0=k):idxO X k n=i:=by
 unfold idxO at *
 have hnone:(List.range i).find? (fun i=>oI X i 0 == k)=none:=by
  cases hc:(List.range i).find? (fun i=>oI X i 0 == k) with
  | none=>rfl
  | some v=>rw [hc] at h; simp only at h; omega
 have e:List.range n=List.range i++(i::(List.range (n - i - 1)).map (fun x=>i + 1 + x)):=by
  have h1:List.range n=List.range (i + (n - i)):=by congr 1; omega
  rw [h1,List.range_add]
  congr 1
  have h2:n - i=(n - i - 1) + 1:=by omega
  rw [h2,List.range_succ_eq_map,List.map_cons,List.map_map]
  simp only [Nat.add_zero,Nat.add_sub_cancel]
  congr 1
  apply List.map_congr_left
  intro a _
  simp only [Function.comp]; omega
 rw [e,List.find?_append,hnone,List.find?_cons]
 have hb:(oI X i 0 == k)=true:=by simpa using he
 simp only [hb,Option.none_or]
theorem idx_step (X:U) (k:Int) (i:Nat) (h:idxO X k i=-1) (he:¬ oI X i 0=k):idxO X k (i + 1)=-1:=by
 unfold idxO at *
 have hnone:(List.range i).find? (fun i=>oI X i 0 == k)=none:=by
  cases hc:(List.range i).find? (fun i=>oI X i 0 == k) with
  | none=>rfl
  | some v=>rw [hc] at h; simp only at h; omega
 rw [List.range_succ,List.find?_append,hnone]
 have hb:(oI X i 0 == k)=false:=by simpa using he
 simp [hb]
section
variable {ρ : Env} {x y l A a b k u i j p q n m r o c d w v X T N L L2 mc s : E}
theorem I_121:E.I ρ (.fn 121 (.pr l k))=(((ints ρ l).count (E.I ρ k):Nat):Int):=rfl
theorem t121_end (h:E.I ρ (.fn 0 l)≤E.I ρ n):E.I ρ (.fn 121 (.pr l k))=E.I ρ (.fn 131 (.pr l (.pr k n))):=by
 rw [I_121,I_131]
 rw [← ints_len] at h
 rw [List.take_of_length_le (by omega)]
theorem I_120:E.I ρ (.fn 120 (.pr X (.pr k n)))=idxO (X.den ρ) (E.I ρ k) (E.I ρ n).toNat:=rfl
theorem t120_zero (h:E.I ρ n≤0):E.I ρ (.fn 120 (.pr X (.pr k n)))=-1:=by
 have e:(E.I ρ n).toNat=0:=by omega
 rw [I_120,e]; rfl
theorem t120_eq (e:E.I ρ n=E.I ρ i):E.I ρ (.fn 120 (.pr X (.pr k n)))=E.I ρ (.fn 120 (.pr X (.pr k i))):=by
 rw [I_120,I_120,e]
theorem t120_step (h:E.I ρ (.fn 120 (.pr X (.pr k i)))=-1) {a:E} (ea:a=.fn 1 (.pr (.fn 1 (.pr X (.int 0))) (.fn 6 (.pr (.fn 8 (.pr i (.int 12))) (.int 0))))) (h0:0≤E.I ρ i) (hi:E.I ρ i < E.I ρ N) (hn:E.I ρ n=E.I ρ i + 1) :
  (¬ E.I ρ a=E.I ρ k→E.I ρ (.fn 120 (.pr X (.pr k n)))=-1)∧(E.I ρ a=E.I ρ k→E.I ρ (.fn 120 (.pr X (.pr k N)))=E.I ρ i):=by
 subst ea
 have e:=obj_cell (X:=X) h0 0
 have k0:(Int.ofNat 0)=0:=rfl
 rw [k0] at e
 rw [I_120] at h
 have en:(E.I ρ n).toNat=(E.I ρ i).toNat + 1:=by omega
 rw [← e,I_120,I_120,en]
 refine ⟨fun h1=>idx_step _ _ _ h h1,fun h1=>?_⟩
 rw [idx_found _ _ _ _ (by omega) h h1]; omega
/-! places -/
theorem I_122:E.I ρ (.fn 122 (.pr X (.pr p k)))=((placesR (X.den ρ) (E.I ρ p).toNat (E.I ρ k):Nat):Int):=rfl
theorem I_132:E.I ρ (.fn 132 (.pr X (.pr p (.pr q k))))=((cntZ (X.den ρ) (E.I ρ p).toNat (E.I ρ q).toNat (E.I ρ k):Nat):Int):=rfl
theorem I_133:E.I ρ (.fn 133 (.pr X (.pr p (.pr k s))))=((cntS (X.den ρ) (E.I ρ p) (E.I ρ k) (E.I ρ s).toNat:Nat):Int):=rfl
theorem t122 (h0:0≤E.I ρ p) (hs:E.I ρ s=E.I ρ (.fn 9 (.pr (.fn 1 (.pr X (.int 29))) (.int 5)))):E.I ρ (.fn 122 (.pr X (.pr p k)))=E.I ρ (.fn 132 (.pr X (.pr p (.pr (.int 4) k)))) + E.I ρ (.fn 133 (.pr X (.pr p (.pr k s)))):=by
 rw [I_122,I_132,I_133,hs]
 have e:(E.I ρ (.fn 9 (.pr (.fn 1 (.pr X (.int 29))) (.int 5)))).toNat=nStk (X.den ρ):=rfl
 have e4:(E.I ρ (.int 4)).toNat=4:=rfl
 rw [e,e4]
 unfold placesR
 rw [Int.toNat_of_nonneg h0]; omega
theorem t133_zero (h:E.I ρ s≤0):E.I ρ (.fn 133 (.pr X (.pr p (.pr k s))))=0:=by
 have e:(E.I ρ s).toNat=0:=by omega
 rw [I_133,e]; rfl
theorem t133_step {pl id tr:E} (e0:pl=.fn 1 (.pr (.fn 1 (.pr X (.int 29))) (.fn 6 (.pr (.fn 8 (.pr s (.int 5))) (.int 0))))) (e1:id=.fn 1 (.pr (.fn 1 (.pr X (.int 29))) (.fn 6 (.pr (.fn 8 (.pr s (.int 5))) (.int 1)))))
  (e3:tr=.fn 1 (.pr (.fn 1 (.pr X (.int 29))) (.fn 6 (.pr (.fn 8 (.pr s (.int 5))) (.int 3))))) (h0:0≤E.I ρ s) (hn:E.I ρ n=E.I ρ s + 1) :
  ((E.I ρ tr=-1∧E.I ρ id=E.I ρ k∧E.I ρ pl=E.I ρ p)→E.I ρ (.fn 133 (.pr X (.pr p (.pr k n))))=E.I ρ (.fn 133 (.pr X (.pr p (.pr k s)))) + 1) ∧
  (¬ (E.I ρ tr=-1∧E.I ρ id=E.I ρ k∧E.I ρ pl=E.I ρ p)→E.I ρ (.fn 133 (.pr X (.pr p (.pr k n))))=E.I ρ (.fn 133 (.pr X (.pr p (.pr k s))))):=by
 subst e0; subst e1; subst e3
 have en:(E.I ρ n).toNat=(E.I ρ s).toNat + 1:=by omega
 have c0:=stk_cell (X:=X) h0 0
 have c1:=stk_cell (X:=X) h0 1
 have c3:=stk_cell (X:=X) h0 3
 have k0:(Int.ofNat 0)=0:=rfl
 have k1:(Int.ofNat 1)=1:=rfl
 have k3:(Int.ofNat 3)=3:=rfl
 simp only [Nat.add_zero] at c0
 rw [k0] at c0
 rw [k1] at c1
 rw [k3] at c3
 rw [I_133,I_133,en,← c0,← c1,← c3]
 unfold cntS
 rw [List.range_succ,List.filter_append,List.length_append]
 constructor
 ·rintro ⟨a,b,c⟩; simp [a,b,c]
 ·intro h
  have:(nI (cX (X.den ρ) 29).toL ((E.I ρ s).toNat * 5 + 3) == -1 && nI (cX (X.den ρ) 29).toL ((E.I ρ s).toNat * 5 + 1) == E.I ρ k && nI (cX (X.den ρ) 29).toL ((E.I ρ s).toNat * 5) == E.I ρ p)=false:=by
   rw [← Bool.not_eq_true]
   simp only [Bool.and_eq_true,beq_iff_eq]
   exact fun hh=>h ⟨hh.1.1,hh.1.2,hh.2⟩
  simp [this]
theorem t132_0 (h:E.I ρ p=0):E.I ρ (.fn 132 (.pr X (.pr p (.pr (.int 4) k))))=E.I ρ (.fn 121 (.pr (.fn 1 (.pr X (.int 6))) k)) + E.I ρ (.fn 121 (.pr (.fn 1 (.pr X (.int 7))) k)) + E.I ρ (.fn 121 (.pr (.fn 1 (.pr X (.int 8))) k)) + E.I ρ (.fn 121 (.pr (.fn 1 (.pr X (.int 9))) k)):=by
 rw [I_132,h]
 have e4:(E.I ρ (.int 4)).toNat=4:=rfl
 have e0:(0:Int).toNat=0:=rfl
 rw [e4,e0]
 unfold cntZ
 have er:List.range 4=[0,1,2,3]:=rfl
 rw [er]
 simp only [List.flatMap_cons,List.flatMap_nil,List.append_nil,List.count_append]
 rw [I_121,I_121,I_121,I_121]
 have z0:ints ρ (.fn 1 (.pr X (.int 6)))=zoneL (X.den ρ) (4 * 0 + 0):=rfl
 have z1:ints ρ (.fn 1 (.pr X (.int 7)))=zoneL (X.den ρ) (4 * 0 + 1):=rfl
 have z2:ints ρ (.fn 1 (.pr X (.int 8)))=zoneL (X.den ρ) (4 * 0 + 2):=rfl
 have z3:ints ρ (.fn 1 (.pr X (.int 9)))=zoneL (X.den ρ) (4 * 0 + 3):=rfl
 rw [z0,z1,z2,z3]; omega
theorem t132_1 (h:E.I ρ p=1):E.I ρ (.fn 132 (.pr X (.pr p (.pr (.int 4) k))))=E.I ρ (.fn 121 (.pr (.fn 1 (.pr X (.int 20))) k)) + E.I ρ (.fn 121 (.pr (.fn 1 (.pr X (.int 21))) k)) + E.I ρ (.fn 121 (.pr (.fn 1 (.pr X (.int 22))) k)) + E.I ρ (.fn 121 (.pr (.fn 1 (.pr X (.int 23))) k)):=by
 rw [I_132,h]
 have e4:(E.I ρ (.int 4)).toNat=4:=rfl
 have e0:(1:Int).toNat=1:=rfl
 rw [e4,e0]
 unfold cntZ
 have er:List.range 4=[0,1,2,3]:=rfl
 rw [er]
 simp only [List.flatMap_cons,List.flatMap_nil,List.append_nil,List.count_append]
 rw [I_121,I_121,I_121,I_121]
 have z0:ints ρ (.fn 1 (.pr X (.int 20)))=zoneL (X.den ρ) (4 * 1 + 0):=rfl
 have z1:ints ρ (.fn 1 (.pr X (.int 21)))=zoneL (X.den ρ) (4 * 1 + 1):=rfl
 have z2:ints ρ (.fn 1 (.pr X (.int 22)))=zoneL (X.den ρ) (4 * 1 + 2):=rfl
 have z3:ints ρ (.fn 1 (.pr X (.int 23)))=zoneL (X.den ρ) (4 * 1 + 3):=rfl
 rw [z0,z1,z2,z3]; omega
/-! found -/
theorem t134:E.I ρ (.fn 134 (.pr X (.int 8)))=E.I ρ (.fn 0 (.fn 1 (.pr X (.int 6)))) + E.I ρ (.fn 0 (.fn 1 (.pr X (.int 7)))) + E.I ρ (.fn 0 (.fn 1 (.pr X (.int 8)))) + E.I ρ (.fn 0 (.fn 1 (.pr X (.int 9)))) +
  E.I ρ (.fn 0 (.fn 1 (.pr X (.int 20)))) + E.I ρ (.fn 0 (.fn 1 (.pr X (.int 21)))) + E.I ρ (.fn 0 (.fn 1 (.pr X (.int 22)))) + E.I ρ (.fn 0 (.fn 1 (.pr X (.int 23)))):=by
 have e:E.I ρ (.fn 134 (.pr X (.int 8)))=((((List.range 8).map fun z=>(zoneL (X.den ρ) z).length).sum:Nat):Int):=rfl
 have er:List.range 8=[0,1,2,3,4,5,6,7]:=rfl
 rw [e,er]
 simp only [List.map_cons,List.map_nil,List.sum_cons,List.sum_nil]
 rw [← ints_len,← ints_len,← ints_len,← ints_len,← ints_len,← ints_len,← ints_len,← ints_len]
 have z0:ints ρ (.fn 1 (.pr X (.int 6)))=zoneL (X.den ρ) 0:=rfl
 have z1:ints ρ (.fn 1 (.pr X (.int 7)))=zoneL (X.den ρ) 1:=rfl
 have z2:ints ρ (.fn 1 (.pr X (.int 8)))=zoneL (X.den ρ) 2:=rfl
 have z3:ints ρ (.fn 1 (.pr X (.int 9)))=zoneL (X.den ρ) 3:=rfl
 have y0:ints ρ (.fn 1 (.pr X (.int 20)))=zoneL (X.den ρ) 4:=rfl
 have y1:ints ρ (.fn 1 (.pr X (.int 21)))=zoneL (X.den ρ) 5:=rfl
 have y2:ints ρ (.fn 1 (.pr X (.int 22)))=zoneL (X.den ρ) 6:=rfl
 have y3:ints ρ (.fn 1 (.pr X (.int 23)))=zoneL (X.den ρ) 7:=rfl
 rw [z0,z1,z2,z3,y0,y1,y2,y3]; omega
theorem I_135:E.I ρ (.fn 135 (.pr X s))=(((stk (X.den ρ) (E.I ρ s).toNat).length:Nat):Int):=rfl
theorem t135_zero (h:E.I ρ s≤0):E.I ρ (.fn 135 (.pr X s))=0:=by
 have e:(E.I ρ s).toNat=0:=by omega
 rw [I_135,e]; rfl
theorem t135_eq (e:E.I ρ n=E.I ρ s):E.I ρ (.fn 135 (.pr X n))=E.I ρ (.fn 135 (.pr X s)):=by rw [I_135,I_135,e]
theorem t135_step {tr:E} (e3:tr=.fn 1 (.pr (.fn 1 (.pr X (.int 29))) (.fn 6 (.pr (.fn 8 (.pr s (.int 5))) (.int 3))))) (h0:0≤E.I ρ s) (hn:E.I ρ n=E.I ρ s + 1) :
  (E.I ρ tr < 0→E.I ρ (.fn 135 (.pr X n))=E.I ρ (.fn 135 (.pr X s)) + 1)∧(¬ E.I ρ tr < 0→E.I ρ (.fn 135 (.pr X n))=E.I ρ (.fn 135 (.pr X s))):=by
 subst e3
 have en:(E.I ρ n).toNat=(E.I ρ s).toNat + 1:=by omega
 have c3:=stk_cell (X:=X) h0 3
 have k3:(Int.ofNat 3)=3:=rfl
 rw [k3] at c3
 rw [I_135,I_135,en,← c3,stk_succ,List.length_append]
 constructor <;> intro h <;> simp [h]
theorem z123:(E.B ρ (.fn 123 (.pr X s))=true)=(stkR (X.den ρ) (E.I ρ s).toNat=true):=rfl
theorem z124:(E.B ρ (.fn 124 (.pr X n))=true)=(objsR (X.den ρ) (E.I ρ n).toNat=true):=rfl
theorem z125:(E.B ρ (.fn 125 X)=true)=(foundR (X.den ρ)=true):=rfl
theorem t123_zero (h:E.I ρ s≤0):E.B ρ (.fn 123 (.pr X s))=true:=by
 have e:(E.I ρ s).toNat=0:=by omega
 rw [z123,e]; rfl
theorem t123_eq (h:E.B ρ (.fn 123 (.pr X s))=true) (e:E.I ρ n=E.I ρ s):E.B ρ (.fn 123 (.pr X n))=true:=by
 rw [z123] at *; rw [e]; exact h
theorem t124_zero (h:E.I ρ s≤0):E.B ρ (.fn 124 (.pr X s))=true:=by
 have e:(E.I ρ s).toNat=0:=by omega
 rw [z124,e]; rfl
theorem t_stR (h:E.B ρ (.fn 123 (.pr X s))=true) {id cd tr v rw1:E} (e1:id=.fn 1 (.pr (.fn 1 (.pr X (.int 29))) (.fn 6 (.pr (.fn 8 (.pr s (.int 5))) (.int 1)))))
  (e2:cd=.fn 1 (.pr (.fn 1 (.pr X (.int 29))) (.fn 6 (.pr (.fn 8 (.pr s (.int 5))) (.int 2))))) (e3:tr=.fn 1 (.pr (.fn 1 (.pr X (.int 29))) (.fn 6 (.pr (.fn 8 (.pr s (.int 5))) (.int 3)))))
  (e4:rw1=.fn 1 (.pr (.fn 1 (.pr X (.int 0))) (.fn 6 (.pr (.fn 8 (.pr v (.int 12))) (.int 1)))))
  (h0:0≤E.I ρ s) (h1:E.I ρ s < E.I ρ (.fn 9 (.pr (.fn 1 (.pr X (.int 29))) (.int 5)))) (hn:E.I ρ n=E.I ρ s + 1) :
  (¬ E.I ρ tr < 0→E.B ρ (.fn 123 (.pr X n))=true) ∧
  (E.I ρ tr < 0→E.I ρ v=E.I ρ (.fn 120 (.pr X (.pr id (.fn 9 (.pr (.fn 1 (.pr X (.int 0))) (.int 12))))))→((0≤E.I ρ v∧E.I ρ rw1=E.I ρ cd)→E.B ρ (.fn 123 (.pr X n))=true)∧(¬ (0≤E.I ρ v∧E.I ρ rw1=E.I ρ cd)→¬ E.B ρ (.fn 125 X)=true)):=by
 subst e1; subst e2; subst e3; subst e4
 have hs:(E.I ρ s).toNat < nStk (X.den ρ):=by
  have:E.I ρ (.fn 9 (.pr (.fn 1 (.pr X (.int 29))) (.int 5)))=((nStk (X.den ρ):Nat):Int):=rfl
  omega
 have en:(E.I ρ n).toNat=(E.I ρ s).toNat + 1:=by omega
 have c1:=stk_cell (X:=X) h0 1
 have c2:=stk_cell (X:=X) h0 2
 have c3:=stk_cell (X:=X) h0 3
 have k1:(Int.ofNat 1)=1:=rfl
 have k2:(Int.ofNat 2)=2:=rfl
 have k3:(Int.ofNat 3)=3:=rfl
 rw [k1] at c1
 rw [k2] at c2
 rw [k3] at c3
 have en9:(E.I ρ (.fn 9 (.pr (.fn 1 (.pr X (.int 0))) (.int 12)))).toNat=nObj (X.den ρ):=rfl
 rw [z123,stkR_iff] at h
 have ext:stk1 (X.den ρ) (E.I ρ s).toNat→E.B ρ (.fn 123 (.pr X n))=true:=by
  intro h1
  rw [z123,stkR_iff,en]
  intro k hk
  rcases Nat.lt_or_eq_of_le (Nat.le_of_lt_succ hk) with h2 | h2
  ·exact h k h2
  ·subst h2; exact h1
 refine ⟨fun ht=>ext ?_,fun ht hv=>⟨fun hc=>ext ?_,fun hc hf=>hc ?_⟩⟩
 ·intro hh; rw [c3] at hh; exact absurd hh ht
 ·intro _
  rw [I_120,en9,← c1] at hv
  rw [← hv,c2]
  refine ⟨hc.1,?_⟩
  have:=obj_cell (X:=X) hc.1 1
  rw [k1] at this
  rw [this]; exact hc.2
 ·rw [z125,foundR_iff,stkR_iff] at hf
  have:=hf.1 _ hs (by rw [c3]; exact ht)
  rw [I_120,en9,← c1] at hv
  rw [← hv,c2] at this
  refine ⟨this.1,?_⟩
  have h2:=obj_cell (X:=X) this.1 1
  rw [k1] at h2
  rw [← h2]; exact this.2
theorem t_obR (h:E.B ρ (.fn 124 (.pr X i))=true) {t a0 a1 a2 a3 a4 a5 a6 a7 a8:E} (e0:a0=.fn 1 (.pr (.fn 1 (.pr X (.int 0))) (.fn 6 (.pr (.fn 8 (.pr i (.int 12))) (.int 0))))) (e1:a1=.fn 1 (.pr (.fn 1 (.pr X (.int 0))) (.fn 6 (.pr (.fn 8 (.pr i (.int 12))) (.int 1))))) (e2:a2=.fn 1 (.pr (.fn 1 (.pr X (.int 0))) (.fn 6 (.pr (.fn 8 (.pr i (.int 12))) (.int 2))))) (e3:a3=.fn 1 (.pr (.fn 1 (.pr X (.int 0))) (.fn 6 (.pr (.fn 8 (.pr i (.int 12))) (.int 3))))) (e4:a4=.fn 1 (.pr (.fn 1 (.pr X (.int 0))) (.fn 6 (.pr (.fn 8 (.pr i (.int 12))) (.int 4))))) (e5:a5=.fn 1 (.pr (.fn 1 (.pr X (.int 0))) (.fn 6 (.pr (.fn 8 (.pr i (.int 12))) (.int 5))))) (e6:a6=.fn 1 (.pr (.fn 1 (.pr X (.int 0))) (.fn 6 (.pr (.fn 8 (.pr i (.int 12))) (.int 6))))) (e7:a7=.fn 1 (.pr (.fn 1 (.pr X (.int 0))) (.fn 6 (.pr (.fn 8 (.pr i (.int 12))) (.int 7))))) (e8:a8=.fn 1 (.pr (.fn 1 (.pr X (.int 0))) (.fn 6 (.pr (.fn 8 (.pr i (.int 12))) (.int 8)))))
  (h0:0≤E.I ρ i) (hi:E.I ρ i < E.I ρ (.fn 9 (.pr (.fn 1 (.pr X (.int 0))) (.int 12)))) (hn:E.I ρ n=E.I ρ i + 1) (ht:0 < E.I ρ i→E.I ρ t=E.I ρ i - 1) :
  (((1≤E.I ρ a0∧E.I ρ a0≤500∧-1≤E.I ρ a1∧E.I ρ a1≤399∧0≤E.I ρ a2∧E.I ρ a2≤1∧(E.I ρ a1=-1∨(E.I ρ a3=0∧E.I ρ a4=0))∧0≤E.I ρ a3∧E.I ρ a3≤99∧0≤E.I ρ a4∧E.I ρ a4≤99∧0≤E.I ρ a5∧E.I ρ a5≤99∧0≤E.I ρ a6∧E.I ρ a6≤99∧0≤E.I ρ a7∧E.I ρ a7≤99∧0≤E.I ρ a8∧E.I ρ a8≤99) ∧
   (E.I ρ i=0∨E.I ρ (.fn 1 (.pr (.fn 1 (.pr X (.int 0))) (.fn 6 (.pr (.fn 8 (.pr t (.int 12))) (.int 0))))) < E.I ρ a0)∧E.I ρ (.fn 122 (.pr X (.pr a2 a0)))=1)→E.B ρ (.fn 124 (.pr X n))=true) ∧
  (¬ ((1≤E.I ρ a0∧E.I ρ a0≤500∧-1≤E.I ρ a1∧E.I ρ a1≤399∧0≤E.I ρ a2∧E.I ρ a2≤1∧(E.I ρ a1=-1∨(E.I ρ a3=0∧E.I ρ a4=0))∧0≤E.I ρ a3∧E.I ρ a3≤99∧0≤E.I ρ a4∧E.I ρ a4≤99∧0≤E.I ρ a5∧E.I ρ a5≤99∧0≤E.I ρ a6∧E.I ρ a6≤99∧0≤E.I ρ a7∧E.I ρ a7≤99∧0≤E.I ρ a8∧E.I ρ a8≤99) ∧
   (E.I ρ i=0∨E.I ρ (.fn 1 (.pr (.fn 1 (.pr X (.int 0))) (.fn 6 (.pr (.fn 8 (.pr t (.int 12))) (.int 0))))) < E.I ρ a0)∧E.I ρ (.fn 122 (.pr X (.pr a2 a0)))=1)→¬ E.B ρ (.fn 125 X)=true):=by
 subst e0; subst e1; subst e2; subst e3; subst e4; subst e5; subst e6; subst e7; subst e8
 have hi':(E.I ρ i).toNat < nObj (X.den ρ):=by
  have:E.I ρ (.fn 9 (.pr (.fn 1 (.pr X (.int 0))) (.int 12)))=((nObj (X.den ρ):Nat):Int):=rfl
  omega
 have en:(E.I ρ n).toNat=(E.I ρ i).toNat + 1:=by omega
 have c0:oI (X.den ρ) (E.I ρ i).toNat 0=_:=obj_cell (X:=X) h0 0
 have c1:oI (X.den ρ) (E.I ρ i).toNat 1=_:=obj_cell (X:=X) h0 1
 have c2:oI (X.den ρ) (E.I ρ i).toNat 2=_:=obj_cell (X:=X) h0 2
 have c3:oI (X.den ρ) (E.I ρ i).toNat 3=_:=obj_cell (X:=X) h0 3
 have c4:oI (X.den ρ) (E.I ρ i).toNat 4=_:=obj_cell (X:=X) h0 4
 have c5:oI (X.den ρ) (E.I ρ i).toNat 5=_:=obj_cell (X:=X) h0 5
 have c6:oI (X.den ρ) (E.I ρ i).toNat 6=_:=obj_cell (X:=X) h0 6
 have c7:oI (X.den ρ) (E.I ρ i).toNat 7=_:=obj_cell (X:=X) h0 7
 have c8:oI (X.den ρ) (E.I ρ i).toNat 8=_:=obj_cell (X:=X) h0 8
 have k (z:Nat) (w:Int) (e:Int.ofNat z=w):E.int (Int.ofNat z)=E.int w:=by rw [e]
 rw [k 0 0 rfl] at c0
 rw [k 1 1 rfl] at c1
 rw [k 2 2 rfl] at c2
 rw [k 3 3 rfl] at c3
 rw [k 4 4 rfl] at c4
 rw [k 5 5 rfl] at c5
 rw [k 6 6 rfl] at c6
 rw [k 7 7 rfl] at c7
 rw [k 8 8 rfl] at c8
 have hprev:(E.I ρ i=0∨E.I ρ (.fn 1 (.pr (.fn 1 (.pr X (.int 0))) (.fn 6 (.pr (.fn 8 (.pr t (.int 12))) (.int 0))))) < oI (X.den ρ) (E.I ρ i).toNat 0)↔((E.I ρ i).toNat=0∨oI (X.den ρ) ((E.I ρ i).toNat - 1) 0 < oI (X.den ρ) (E.I ρ i).toNat 0):=by
  by_cases hz:E.I ρ i=0
  ·simp [hz]
  ·have ht':=ht (by omega)
   have e:=obj_cell (X:=X) (i:=t) (ρ:=ρ) (by omega) 0
   rw [k 0 0 rfl] at e
   have et:(E.I ρ t).toNat=(E.I ρ i).toNat - 1:=by omega
   rw [et] at e
   rw [← e]
   have:¬ (E.I ρ i).toNat=0:=by omega
   simp [hz,this]
 have h122:(E.I ρ (.fn 122 (.pr X (.pr (.fn 1 (.pr (.fn 1 (.pr X (.int 0))) (.fn 6 (.pr (.fn 8 (.pr i (.int 12))) (.int 2))))) (.fn 1 (.pr (.fn 1 (.pr X (.int 0))) (.fn 6 (.pr (.fn 8 (.pr i (.int 12))) (.int 0))))))))=1)↔placesR (X.den ρ) (oI (X.den ρ) (E.I ρ i).toNat 2).toNat (oI (X.den ρ) (E.I ρ i).toNat 0)=1:=by
  rw [I_122,← c0,← c2]; omega
 rw [h122,← c0,← c1,← c2,← c3,← c4,← c5,← c6,← c7,← c8,hprev]
 rw [z124,objsR_iff] at h
 refine ⟨fun hc=>?_,fun hc hf=>hc ?_⟩
 ·rw [z124,objsR_iff,en]
  intro q hq
  rcases Nat.lt_or_eq_of_le (Nat.le_of_lt_succ hq) with h2 | h2
  ·exact h q h2
  ·subst h2; exact ⟨(objOk_iff _ _).2 hc.1,hc.2.1,hc.2.2⟩
 ·rw [z125,foundR_iff,objsR_iff] at hf
  have:=hf.2.1 _ hi'
  exact ⟨(objOk_iff _ _).1 this.1,this.2.1,this.2.2⟩
theorem t_obR10 (h:E.B ρ (.fn 124 (.pr X i))=true) {t a0 a1 a2 a3 a4 a5 a6 a7 a8:E} (e0:a0=.fn 1 (.pr (.fn 1 (.pr X (.int 0))) (.fn 6 (.pr (.fn 8 (.pr i (.int 12))) (.int 0))))) (e1:a1=.fn 1 (.pr (.fn 1 (.pr X (.int 0))) (.fn 6 (.pr (.fn 8 (.pr i (.int 12))) (.int 1))))) (e2:a2=.fn 1 (.pr (.fn 1 (.pr X (.int 0))) (.fn 6 (.pr (.fn 8 (.pr i (.int 12))) (.int 2))))) (e3:a3=.fn 1 (.pr (.fn 1 (.pr X (.int 0))) (.fn 6 (.pr (.fn 8 (.pr i (.int 12))) (.int 3))))) (e4:a4=.fn 1 (.pr (.fn 1 (.pr X (.int 0))) (.fn 6 (.pr (.fn 8 (.pr i (.int 12))) (.int 4))))) (e5:a5=.fn 1 (.pr (.fn 1 (.pr X (.int 0))) (.fn 6 (.pr (.fn 8 (.pr i (.int 12))) (.int 5))))) (e6:a6=.fn 1 (.pr (.fn 1 (.pr X (.int 0))) (.fn 6 (.pr (.fn 8 (.pr i (.int 12))) (.int 6))))) (e7:a7=.fn 1 (.pr (.fn 1 (.pr X (.int 0))) (.fn 6 (.pr (.fn 8 (.pr i (.int 12))) (.int 7))))) (e8:a8=.fn 1 (.pr (.fn 1 (.pr X (.int 0))) (.fn 6 (.pr (.fn 8 (.pr i (.int 12))) (.int 8)))))
  (h0:0≤E.I ρ i) (hi:E.I ρ i < E.I ρ (.fn 9 (.pr (.fn 1 (.pr X (.int 0))) (.int 12)))) (hn:E.I ρ n=E.I ρ i + 1) (ht:0 < E.I ρ i→E.I ρ t=E.I ρ i - 1) :
  (((E.B ρ (.fn 137 (.pr a0 (.pr a1 (.pr a2 (.pr a3 (.pr a4 (.pr a5 (.pr a6 (.pr a7 a8)))))))))=true) ∧
   (E.I ρ i=0∨E.I ρ (.fn 1 (.pr (.fn 1 (.pr X (.int 0))) (.fn 6 (.pr (.fn 8 (.pr t (.int 12))) (.int 0))))) < E.I ρ a0)∧E.I ρ (.fn 122 (.pr X (.pr a2 a0)))=1)→E.B ρ (.fn 124 (.pr X n))=true) ∧
  (¬ ((E.B ρ (.fn 137 (.pr a0 (.pr a1 (.pr a2 (.pr a3 (.pr a4 (.pr a5 (.pr a6 (.pr a7 a8)))))))))=true) ∧
   (E.I ρ i=0∨E.I ρ (.fn 1 (.pr (.fn 1 (.pr X (.int 0))) (.fn 6 (.pr (.fn 8 (.pr t (.int 12))) (.int 0))))) < E.I ρ a0)∧E.I ρ (.fn 122 (.pr X (.pr a2 a0)))=1)→¬ E.B ρ (.fn 125 X)=true):=by
 rw [z137]
 exact t_obR h e0 e1 e2 e3 e4 e5 e6 e7 e8 h0 hi hn ht
theorem t_found {v:E} (hs:E.B ρ (.fn 123 (.pr X (.fn 9 (.pr (.fn 1 (.pr X (.int 29))) (.int 5)))))=true) (h:E.B ρ (.fn 124 (.pr X i))=true) (hi:E.I ρ (.fn 9 (.pr (.fn 1 (.pr X (.int 0))) (.int 12)))=E.I ρ i)
  (hv:E.I ρ v=E.I ρ (.fn 134 (.pr X (.int 8))) + E.I ρ (.fn 135 (.pr X (.fn 9 (.pr (.fn 1 (.pr X (.int 29))) (.int 5)))))):E.I ρ v=E.I ρ (.fn 9 (.pr (.fn 1 (.pr X (.int 0))) (.int 12)))↔E.B ρ (.fn 125 X)=true:=by
 have e9:E.I ρ (.fn 9 (.pr (.fn 1 (.pr X (.int 0))) (.int 12)))=((nObj (X.den ρ):Nat):Int):=rfl
 have es:(E.I ρ (.fn 9 (.pr (.fn 1 (.pr X (.int 29))) (.int 5)))).toNat=nStk (X.den ρ):=rfl
 have e8:E.I ρ (.fn 134 (.pr X (.int 8)))=((((List.range 8).map fun z=>(zoneL (X.den ρ) z).length).sum:Nat):Int):=rfl
 rw [z123,es] at hs
 rw [z124] at h
 rw [e9] at hi
 have en:(E.I ρ i).toNat=nObj (X.den ρ):=by omega
 rw [en] at h
 rw [I_135,es,e8] at hv
 rw [z125,foundR_iff,e9,hv]
 unfold manyR
 constructor
 ·intro e; exact ⟨hs,h,by omega⟩
 ·intro e; have:=e.2.2; omega
/-! fights -/
theorem z126:(E.B ρ (.fn 126 (.pr X n))=true)=(atksR (X.den ρ) (E.I ρ n).toNat=true):=rfl
theorem z127:(E.B ρ (.fn 127 (.pr X n))=true)=(blksR (X.den ρ) (E.I ρ n).toNat=true):=rfl
theorem z128:(E.B ρ (.fn 128 (.pr X (.pr j n)))=true)=(blkR1 (X.den ρ) (E.I ρ j).toNat (E.I ρ n).toNat=true):=rfl
theorem z129:(E.B ρ (.fn 129 X)=true)=(fightsR (X.den ρ)=true):=rfl
theorem z136:(E.B ρ (.fn 136 (.pr X j))=true)=((atk (X.den ρ)).count (blk (X.den ρ) (E.I ρ j).toNat 1)=1∧(othF (X.den ρ)).count (blk (X.den ρ) (E.I ρ j).toNat 0)=1):=by
 show (((atk (X.den ρ)).count (blk (X.den ρ) (E.I ρ j).toNat 1) == 1 && (othF (X.den ρ)).count (blk (X.den ρ) (E.I ρ j).toNat 0) == 1)=true)=_
 rw [Bool.and_eq_true,beq_iff_eq,beq_iff_eq]
theorem t126_zero (h:E.I ρ n≤0):E.B ρ (.fn 126 (.pr X n))=true:=by
 have e:(E.I ρ n).toNat=0:=by omega
 rw [z126,e]; rfl
theorem t127_zero (h:E.I ρ n≤0):E.B ρ (.fn 127 (.pr X n))=true:=by
 have e:(E.I ρ n).toNat=0:=by omega
 rw [z127,e]; rfl
theorem t128_zero (h:E.I ρ n≤0):E.B ρ (.fn 128 (.pr X (.pr j n)))=true:=by
 have e:(E.I ρ n).toNat=0:=by omega
 rw [z128,e]; rfl
theorem t126_eq (h:E.B ρ (.fn 126 (.pr X i))=true) (e:E.I ρ n=E.I ρ i):E.B ρ (.fn 126 (.pr X n))=true:=by
 rw [z126] at *; rw [e]; exact h
theorem ownF_0 (h:E.I ρ (.fn 1 (.pr X (.int 34)))=0):ownF (X.den ρ)=ints ρ (.fn 1 (.pr X (.int 8)))∧othF (X.den ρ)=ints ρ (.fn 1 (.pr X (.int 22))):=by
 have e:iX (X.den ρ) 34=0:=h
 unfold ownF othF act
 rw [e]; exact ⟨rfl,rfl⟩
theorem ownF_1 (h:E.I ρ (.fn 1 (.pr X (.int 34)))=1):ownF (X.den ρ)=ints ρ (.fn 1 (.pr X (.int 22)))∧othF (X.den ρ)=ints ρ (.fn 1 (.pr X (.int 8))):=by
 have e:iX (X.den ρ) 34=1:=h
 unfold ownF othF act
 rw [e]; exact ⟨rfl,rfl⟩
theorem t_atR (h:E.B ρ (.fn 126 (.pr X i))=true) {a:E} (ea:a=.fn 1 (.pr (.fn 1 (.pr X (.int 31))) i)) (hL:ownF (X.den ρ)=ints ρ L) (h0:0≤E.I ρ i) (hi:E.I ρ i < E.I ρ (.fn 0 (.fn 1 (.pr X (.int 31))))) (hn:E.I ρ n=E.I ρ i + 1) :
  ((E.I ρ (.fn 121 (.pr (.fn 1 (.pr X (.int 31))) a))=1∧E.I ρ (.fn 121 (.pr L a))=1)→E.B ρ (.fn 126 (.pr X n))=true) ∧
  (¬ (E.I ρ (.fn 121 (.pr (.fn 1 (.pr X (.int 31))) a))=1∧E.I ρ (.fn 121 (.pr L a))=1)→¬ E.B ρ (.fn 129 X)=true):=by
 subst ea
 rw [← atk_len] at hi
 have en:(E.I ρ n).toNat=(E.I ρ i).toNat + 1:=by omega
 have ea:ints ρ (.fn 1 (.pr X (.int 31)))=atk (X.den ρ):=rfl
 have e1:E.I ρ (.fn 1 (.pr (.fn 1 (.pr X (.int 31))) i))=nI (cX (X.den ρ) 31).toL (E.I ρ i).toNat:=rfl
 rw [I_121,I_121,ea,← hL,e1]
 rw [z126,atksR_iff] at h
 refine ⟨fun hc=>?_,fun hc hf=>hc ?_⟩
 ·rw [z126,atksR_iff,en]
  intro q hq
  rcases Nat.lt_or_eq_of_le (Nat.le_of_lt_succ hq) with h2 | h2
  ·exact h q h2
  ·subst h2; omega
 ·rw [z129,fightsR_iff,atksR_iff] at hf
  have:=hf.1 (E.I ρ i).toNat (by omega)
  omega
theorem t_blR {t b:E} (et:t=.fn 1 (.pr (.fn 1 (.pr X (.int 32))) (.fn 6 (.pr (.fn 8 (.pr j (.int 2))) (.int 1))))) (eb:b=.fn 1 (.pr (.fn 1 (.pr X (.int 32))) (.fn 6 (.pr (.fn 8 (.pr j (.int 2))) (.int 0)))))
  (hL:othF (X.den ρ)=ints ρ L) (h0:0≤E.I ρ j) (hi:E.I ρ j < E.I ρ (.fn 9 (.pr (.fn 1 (.pr X (.int 32))) (.int 2)))) :
  ((E.I ρ (.fn 121 (.pr (.fn 1 (.pr X (.int 31))) t))=1∧E.I ρ (.fn 121 (.pr L b))=1)→E.B ρ (.fn 136 (.pr X j))=true) ∧
  (¬ (E.I ρ (.fn 121 (.pr (.fn 1 (.pr X (.int 31))) t))=1∧E.I ρ (.fn 121 (.pr L b))=1)→¬ E.B ρ (.fn 129 X)=true):=by
 subst et; subst eb
 rw [← nBlk_c] at hi
 have ea:ints ρ (.fn 1 (.pr X (.int 31)))=atk (X.den ρ):=rfl
 have b0:=blk_c (X:=X) h0 0
 have b1:=blk_c (X:=X) h0 1
 have c0:(Int.ofNat 0)=0:=rfl
 have c1:(Int.ofNat 1)=1:=rfl
 rw [c0] at b0
 rw [c1] at b1
 rw [I_121,I_121,ea,← hL,← b0,← b1,z136]
 refine ⟨fun hc=>by omega,fun hc hf=>hc ?_⟩
 rw [z129,fightsR_iff,blksR_iff] at hf
 have:=(hf.2 (E.I ρ j).toNat (by omega)).1
 omega
theorem t_128 (h:E.B ρ (.fn 128 (.pr X (.pr j k)))=true) {t b u w:E} (et:t=.fn 1 (.pr (.fn 1 (.pr X (.int 32))) (.fn 6 (.pr (.fn 8 (.pr j (.int 2))) (.int 1))))) (eb:b=.fn 1 (.pr (.fn 1 (.pr X (.int 32))) (.fn 6 (.pr (.fn 8 (.pr j (.int 2))) (.int 0)))))
  (eu:u=.fn 1 (.pr (.fn 1 (.pr X (.int 32))) (.fn 6 (.pr (.fn 8 (.pr k (.int 2))) (.int 1))))) (ew:w=.fn 1 (.pr (.fn 1 (.pr X (.int 32))) (.fn 6 (.pr (.fn 8 (.pr k (.int 2))) (.int 0)))))
  (h0:0≤E.I ρ j) (hi:E.I ρ j < E.I ρ (.fn 9 (.pr (.fn 1 (.pr X (.int 32))) (.int 2)))) (hk:0≤E.I ρ k) (hkj:E.I ρ k < E.I ρ j) (hn:E.I ρ n=E.I ρ k + 1) :
  ((¬ E.I ρ u=E.I ρ t∧¬ E.I ρ w=E.I ρ b)→E.B ρ (.fn 128 (.pr X (.pr j n)))=true)∧(¬ (¬ E.I ρ u=E.I ρ t∧¬ E.I ρ w=E.I ρ b)→¬ E.B ρ (.fn 129 X)=true):=by
 subst et; subst eb; subst eu; subst ew
 rw [← nBlk_c] at hi
 have en:(E.I ρ n).toNat=(E.I ρ k).toNat + 1:=by omega
 have b0:=blk_c (X:=X) h0 0
 have b1:=blk_c (X:=X) h0 1
 have d0:=blk_c (X:=X) hk 0
 have d1:=blk_c (X:=X) hk 1
 have c0:(Int.ofNat 0)=0:=rfl
 have c1:(Int.ofNat 1)=1:=rfl
 rw [c0] at b0 d0
 rw [c1] at b1 d1
 rw [← b0,← b1,← d0,← d1]
 rw [z128,blkR1_iff] at h
 refine ⟨fun hc=>?_,fun hc hf=>hc ?_⟩
 ·rw [z128,blkR1_iff,en]
  intro q hq
  rcases Nat.lt_or_eq_of_le (Nat.le_of_lt_succ hq) with h2 | h2
  ·exact h q h2
  ·subst h2; exact hc
 ·rw [z129,fightsR_iff,blksR_iff] at hf
  have:=(hf.2 (E.I ρ j).toNat (by omega)).2
  rw [blkR1_iff] at this
  exact this (E.I ρ k).toNat (by omega)
theorem t127_step (h:E.B ρ (.fn 127 (.pr X j))=true) (h1:E.B ρ (.fn 136 (.pr X j))=true) (h2:E.B ρ (.fn 128 (.pr X (.pr j k)))=true) (h0:0≤E.I ρ j) (hk:E.I ρ k=E.I ρ j) (hn:E.I ρ n=E.I ρ j + 1):E.B ρ (.fn 127 (.pr X n))=true:=by
 have en:(E.I ρ n).toNat=(E.I ρ j).toNat + 1:=by omega
 rw [z127,blksR_iff] at *
 rw [z136] at h1
 rw [z128,hk] at h2
 rw [en]
 intro q hq
 rcases Nat.lt_or_eq_of_le (Nat.le_of_lt_succ hq) with h3 | h3
 ·exact h q h3
 ·subst h3; exact ⟨h1,h2⟩
theorem t_fightsR (h:E.B ρ (.fn 126 (.pr X (.fn 0 (.fn 1 (.pr X (.int 31))))))=true) (hb:E.B ρ (.fn 127 (.pr X j))=true) (h1:E.I ρ (.fn 9 (.pr (.fn 1 (.pr X (.int 32))) (.int 2)))=E.I ρ j):E.B ρ (.fn 129 X)=true:=by
 have el:(E.I ρ (.fn 0 (.fn 1 (.pr X (.int 31))))).toNat=(atk (X.den ρ)).length:=by rw [← atk_len]; omega
 rw [z126,el] at h
 rw [z127] at hb
 rw [← nBlk_c] at h1
 have e:(E.I ρ j).toNat=nBlk (X.den ρ):=by omega
 rw [e] at hb
 rw [z129,fightsR_iff]; exact ⟨h,hb⟩
end
end Go.SX

set_option linter.unusedVariables false
set_option linter.unusedSimpArgs false
namespace Go.SX
/-! ### both ways say the same -/
theorem perm_of_subset {α:Type} [DecidableEq α]:∀ (l1 l2:List α),l1.Nodup→(∀ x∈l1,x∈l2)→l2.length≤l1.length→l1.Perm l2
 | [],l2,_,_,h=>by
  have:l2=[]:=List.length_eq_zero_iff.1 (by simpa using h)
  subst this; exact List.Perm.refl _
 | x::l1,l2,hn,hs,hl=>by
  have hx:=hs x (by simp)
  have hn':=List.nodup_cons.1 hn
  have hp:=List.perm_cons_erase hx
  refine List.Perm.trans ?_ hp.symm
  refine List.Perm.cons x (perm_of_subset l1 (l2.erase x) hn'.2 ?_ ?_)
  ·intro y hy
   have hne:y≠x:=fun e=>hn'.1 (e ▸ hy)
   exact (List.mem_erase_of_ne hne).2 (hs y (by simp [hy]))
  ·rw [List.length_erase_of_mem hx]
   simp only [List.length_cons] at hl; omega
theorem count_map_pair (l:List Int) (c k p:Int):(l.map fun i=>(i,c)).count (k,p)=if c=p then l.count k else 0:=by
 induction l with
 | nil=>simp
 | cons x l ih =>
  rw [List.map_cons,List.count_cons,ih,List.count_cons]
  by_cases hc:c=p
  ·subst hc
   by_cases hx:x=k <;> simp [hx]
  ·have:((x,c) == (k,p))=false:=by
    rw [← Bool.not_eq_true,beq_iff_eq]; intro e; exact hc (Prod.mk.inj e).2
   simp [hc,this]
theorem count_zonePre8 (X:U) (k:Int) (p:Nat) (hp:p < 2):(zonePre X 8).count (k,(p:Int))=cntZ X p 4 k:=by
 unfold zonePre cntZ
 have er:List.range 8=[0,1,2,3,4,5,6,7]:=rfl
 have er4:List.range 4=[0,1,2,3]:=rfl
 rw [er,er4]
 simp only [List.flatMap_cons,List.flatMap_nil,List.append_nil,List.count_append,count_map_pair]
 have h2:p=0∨p=1:=by omega
 rcases h2 with h2 | h2 <;> subst h2 <;> simp
theorem count_stP (X:U) (k p:Int):∀ s,(∀ i,i < s→-1≤nI (cX X 29).toL (i * 5 + 3))→(stP X s).count (k,p)=cntS X p k s
 | 0,_=>by rw [stP_zero]; rfl
 | s + 1,h=>by
  have ih:=count_stP X k p s (fun i hi=>h i (by omega))
  have hs:=h s (by omega)
  have e:cntS X p k (s + 1)=cntS X p k s + if (nI (cX X 29).toL (s * 5 + 3) == -1 && nI (cX X 29).toL (s * 5 + 1) == k && nI (cX X 29).toL (s * 5) == p)=true then 1 else 0:=by
   unfold cntS
   rw [List.range_succ,List.filter_append,List.length_append]
   congr 1
   cases hc:(nI (cX X 29).toL (s * 5 + 3) == -1 && nI (cX X 29).toL (s * 5 + 1) == k && nI (cX X 29).toL (s * 5) == p) <;> simp [hc]
  rw [stP_succ,List.count_append,ih,e]
  congr 1
  by_cases ht:nI (cX X 29).toL (s * 5 + 3) < 0
  ·have:nI (cX X 29).toL (s * 5 + 3)=-1:=by omega
   rw [if_pos ht,this]
   by_cases h1:nI (cX X 29).toL (s * 5 + 1)=k <;> by_cases h2:nI (cX X 29).toL (s * 5)=p <;> simp [h1,h2,List.count_cons]
  ·have:¬ nI (cX X 29).toL (s * 5 + 3)=-1:=by omega
   rw [if_neg ht]; simp [this]
theorem preZ8 (X:U):preZ X 8 0=zonePre X 8:=by simp [preZ]
theorem count_allP (X:U) (k:Int) (p:Nat) (hp:p < 2) (h:∀ i,i < nStk X→-1≤nI (cX X 29).toL (i * 5 + 3)):(allP X).count (k,(p:Int))=placesR X p k:=by
 unfold allP placesR
 rw [List.count_append,preZ8,count_zonePre8 X k p hp,count_stP X k p _ h]
theorem zonePre_len (X:U):∀ k,(zonePre X k).length=((List.range k).map fun z=>(zoneL X z).length).sum
 | 0=>rfl
 | k + 1=>by
  rw [zonePre_succ,List.length_append,List.length_map,zonePre_len X k,List.range_succ,List.map_append,List.sum_append]; simp
theorem allP_len (X:U):(allP X).length=manyR X:=by
 unfold allP manyR
 rw [List.length_append,preZ8,zonePre_len]
 unfold stP; rw [List.length_map]
def oP (X:U):List (Int × Int):=(List.range (nObj X)).map fun i=>(oI X i 0,oI X i 2)
theorem oP_fst (X:U):(oP X).map Prod.fst=oIds X:=by unfold oP oIds; rw [List.map_map]; rfl
theorem nodup_of_fst {l:List (Int × Int)} (h:(l.map Prod.fst).Nodup):l.Nodup:=by
 rw [List.nodup_iff_pairwise_ne] at *
 rw [List.pairwise_map] at h
 exact h.imp fun hab e=>hab (by rw [e])
theorem idxO_spec {X:U} {k:Int} {n:Nat} (h:0≤idxO X k n):(idxO X k n).toNat < n∧oI X (idxO X k n).toNat 0=k:=by
 unfold idxO at *
 cases hc:(List.range n).find? (fun i=>oI X i 0 == k) with
 | none=>rw [hc] at h; simp at h
 | some i =>
  have h1:=List.find?_some hc
  have h2:=List.mem_of_find?_eq_some hc
  simp only [beq_iff_eq] at h1
  simp only [Int.toNat_natCast]
  exact ⟨List.mem_range.1 h2,h1⟩
theorem idxO_nn {X:U} {k:Int} {n i:Nat} (hi:i < n) (h:oI X i 0=k):0≤idxO X k n:=by
 unfold idxO
 cases hc:(List.range n).find? (fun i=>oI X i 0 == k) with
 | none =>
  rw [List.find?_eq_none] at hc
  have:=hc i (List.mem_range.2 hi)
  simp [h] at this
 | some i=>exact Int.natCast_nonneg _
theorem ids_inj {X:U} (h:(oIds X).Nodup) {i j:Nat} (hi:i < nObj X) (hj:j < nObj X) (e:oI X i 0=oI X j 0):i=j:=by
 unfold oIds at h
 rw [List.nodup_iff_pairwise_ne,List.pairwise_map,List.pairwise_iff_getElem] at h
 have hl:(List.range (nObj X)).length=nObj X:=List.length_range
 rcases Nat.lt_trichotomy i j with h1 | h1 | h1
 ·have h2:=h i j (by rw [hl]; exact hi) (by rw [hl]; exact hj) h1
  simp only [List.getElem_range] at h2
  exact absurd e h2
 ·exact h1
 ·have h2:=h j i (by rw [hl]; exact hj) (by rw [hl]; exact hi) h1
  simp only [List.getElem_range] at h2
  exact absurd e.symm h2
theorem mem_stC {X:U} {k c:Int} {s:Nat}:(k,c)∈stC X s↔∃ i,i < s∧nI (cX X 29).toL (i * 5 + 3) < 0∧nI (cX X 29).toL (i * 5 + 1)=k∧nI (cX X 29).toL (i * 5 + 2)=c:=by
 unfold stC stk
 rw [List.mem_map]
 constructor
 ·rintro ⟨i,hi,e⟩
  have:=List.mem_filter.1 hi
  exact ⟨i,List.mem_range.1 this.1,by simpa using this.2,(Prod.mk.inj e).1,(Prod.mk.inj e).2⟩
 ·rintro ⟨i,hi,ht,h1,h2⟩
  exact ⟨i,List.mem_filter.2 ⟨List.mem_range.2 hi,by simpa using ht⟩,by rw [h1,h2]⟩
theorem placed_found {X:U} (hst:∀ i,i < nStk X→-1≤nI (cX X 29).toL (i * 5 + 3)):placedP X=true↔foundR X=true:=by
 rw [foundR_iff,← allP_len]
 unfold placedP
 simp only [Bool.and_eq_true,nodupB_iff,beq_iff_eq]
 constructor
 ·rintro ⟨⟨hn,ho⟩,hl⟩
  rw [objsP_iff] at ho
  have hin:=oIds_nodup fun i hi=>(ho i hi).2.1
  have hs:=subset_of_nodup (l1:=oIds X) (l2:=(allP X).map Prod.fst) hin (by
   intro x hx
   obtain ⟨i,hi,rfl⟩:=List.mem_map.1 hx
   exact List.mem_map_of_mem (f:=Prod.fst) (lkp_mem (ho i (List.mem_range.1 hi)).2.2.1)) (by simp [oIds,hl])
  refine ⟨?_,?_,hl⟩
  ·rw [stkR_iff]
   intro i hi ht
   have hc:(nI (cX X 29).toL (i * 5 + 1),nI (cX X 29).toL (i * 5 + 2))∈stC X (nStk X):=mem_stC.2 ⟨i,hi,ht,rfl,rfl⟩
   have hid:nI (cX X 29).toL (i * 5 + 1)∈(allP X).map Prod.fst:=by
    unfold allP
    rw [List.map_append,List.mem_append,← stC_fst]
    exact Or.inr (List.mem_map_of_mem (f:=Prod.fst) hc)
   obtain ⟨q,hq,he⟩:=List.mem_map.1 (hs _ hid)
   have hq:=List.mem_range.1 hq
   have h0:=idxO_nn hq he
   have h1:=idxO_spec h0
   refine ⟨h0,?_⟩
   have hnc:((stC X (nStk X)).map Prod.fst).Nodup:=by
    rw [stC_fst]
    unfold allP at hn
    rw [List.map_append,List.nodup_append] at hn
    exact hn.2.1
   exact ((ho _ h1.1).2.2.2 _ (by rw [h1.2]; exact lkp_of_mem hnc hc)).symm
  ·rw [objsR_iff]
   intro i hi
   have h:=ho i hi
   refine ⟨h.1,h.2.1,?_⟩
   have hown:=(objOk_iff X i).1 h.1
   have hm:=lkp_mem h.2.2.1
   have e:((oI X i 2).toNat:Int)=oI X i 2:=Int.toNat_of_nonneg (by omega)
   rw [← count_allP X _ _ (by omega) hst,e]
   have h1:0 < (allP X).count (oI X i 0,oI X i 2):=List.count_pos_iff.2 hm
   have h2:=List.nodup_iff_count.1 (nodup_of_fst hn) (oI X i 0,oI X i 2)
   omega
 ·rintro ⟨hs,ho,hl⟩
  rw [objsR_iff] at ho
  rw [stkR_iff] at hs
  have hin:=oIds_nodup fun i hi=>(ho i hi).2.1
  have hmem:∀ i,i < nObj X→(oI X i 0,oI X i 2)∈allP X:=by
   intro i hi
   have h:=ho i hi
   have hown:=(objOk_iff X i).1 h.1
   have e:((oI X i 2).toNat:Int)=oI X i 2:=Int.toNat_of_nonneg (by omega)
   have h1:=h.2.2
   rw [← count_allP X _ _ (by omega) hst,e] at h1
   exact List.count_pos_iff.1 (by omega)
  have hp:(oP X).Perm (allP X):=perm_of_subset (oP X) (allP X) (nodup_of_fst (by rw [oP_fst]; exact hin)) (by
   intro x hx
   obtain ⟨i,hi,rfl⟩:=List.mem_map.1 hx
   exact hmem i (List.mem_range.1 hi)) (by rw [hl]; simp [oP])
  have hn:((allP X).map Prod.fst).Nodup:=by
   have:=(hp.map Prod.fst).nodup_iff.1 (by rw [oP_fst]; exact hin)
   exact this
  refine ⟨⟨hn,?_⟩,hl⟩
  rw [objsP_iff]
  intro i hi
  have h:=ho i hi
  refine ⟨h.1,h.2.1,lkp_of_mem hn (hmem i hi),?_⟩
  intro c hc
  obtain ⟨s,h1,h2,h3,h4⟩:=mem_stC.1 (lkp_mem hc)
  have:=hs s h1 h2
  rw [h3] at this
  have h5:=idxO_spec this.1
  have h6:=ids_inj hin h5.1 hi h5.2
  rw [h6,h4] at this
  exact this.2.symm
theorem zone_nodup {X:U} (h:placedP X=true) (k:Nat) (hk:k < 8):(zoneL X k).Nodup:=by
 unfold placedP at h
 simp only [Bool.and_eq_true,nodupB_iff] at h
 obtain ⟨r,hr⟩:=preZ_prefix X k (zoneL X k).length hk
 have hn:=h.1.1
 rw [hr] at hn
 unfold preZ at hn
 rw [List.take_length,List.map_append,List.map_append,List.nodup_append,List.nodup_append] at hn
 have:=hn.1.2.1
 rw [List.map_map] at this
 have e:(Prod.fst ∘ fun x:Int=>(x,((k / 4:Nat):Int)))=id:=rfl
 rw [e,List.map_id] at this
 exact this
theorem count_one {l:List Int} (h:l.Nodup) (a:Int):l.count a=1↔a∈l:=by
 have:=List.nodup_iff_count.1 h a
 rw [← List.count_pos_iff]; omega
theorem nodup_of_counts {l:List Int} (h:∀ a∈l,l.count a=1):l.Nodup:=by
 rw [List.nodup_iff_count]
 intro a
 by_cases ha:a∈l
 ·have:=h a ha; omega
 ·rw [List.count_eq_zero.2 ha]; omega
theorem getD_atk (X:U) (i:Nat):nI (cX X 31).toL i=(atk X).getD i 0:=getD_map _ _
theorem fights_eq {X:U} (h:placedP X=true) (ha:act X≤1):fightsP X=true↔fightsR X=true:=by
 have ho:=zone_nodup h (4 * act X + 2) (by omega)
 have hq:=zone_nodup h (4 * (1 - act X) + 2) (by omega)
 have e1:ownF X=zoneL X (4 * act X + 2):=rfl
 have e2:othF X=zoneL X (4 * (1 - act X) + 2):=rfl
 rw [← e1] at ho
 rw [← e2] at hq
 have hA:atksP X (atk X).length=true↔atksR X (atk X).length=true:=by
  rw [atksP_iff,atksR_iff,List.take_length]
  constructor
  ·rintro ⟨hn,hm⟩ i hi
   have hmem:(atk X).getD i 0∈atk X:=by
    rw [List.getD_eq_getElem?_getD,List.getElem?_eq_getElem hi]; exact List.getElem_mem _
   rw [getD_atk]
   exact ⟨(count_one hn _).2 hmem,(count_one ho _).2 (hm _ hmem)⟩
  ·intro hc
   have hc':∀ a∈atk X,(atk X).count a=1∧(ownF X).count a=1:=by
    intro a hm
    obtain ⟨i,hi,rfl⟩:=List.getElem_of_mem hm
    have:=hc i hi
    rw [getD_atk,List.getD_eq_getElem?_getD,List.getElem?_eq_getElem hi] at this
    exact this
   exact ⟨nodup_of_counts fun a hm=>(hc' a hm).1,fun a hm=>(count_one ho a).1 (hc' a hm).2⟩
 rw [fightsP_iff,fightsR_iff,hA]
 constructor
 ·rintro ⟨h1,h2⟩
  refine ⟨h1,?_⟩
  have hn:=((atksP_iff X _).1 (hA.2 h1)).1
  rw [List.take_length] at hn
  rw [blksP_iff] at h2
  rw [blksR_iff]
  intro i hi
  have hm:=h2.2.2 i hi
  refine ⟨⟨(count_one hn _).2 hm.1,(count_one hq _).2 hm.2⟩,?_⟩
  rw [blkR1_iff]
  intro q hqi
  have n1:=h2.1
  have n0:=h2.2.1
  unfold blkd at n1 n0
  rw [List.nodup_iff_pairwise_ne,List.pairwise_map,List.pairwise_iff_getElem] at n1 n0
  have a:=n1 q i (by simp; omega) (by simpa using hi) hqi
  have b:=n0 q i (by simp; omega) (by simpa using hi) hqi
  simp only [List.getElem_range] at a b
  exact ⟨a,b⟩
 ·rintro ⟨h1,h2⟩
  refine ⟨h1,?_⟩
  have hn:=((atksP_iff X _).1 (hA.2 h1)).1
  rw [List.take_length] at hn
  rw [blksR_iff] at h2
  rw [blksP_iff]
  refine ⟨?_,?_,fun i hi=>⟨(count_one hn _).1 (h2 i hi).1.1,(count_one hq _).1 (h2 i hi).1.2⟩⟩
  ·unfold blkd
   rw [List.nodup_iff_pairwise_ne,List.pairwise_map,List.pairwise_iff_getElem]
   intro i j hi hj hij
   simp only [List.getElem_range]
   exact ((blkR1_iff X j j).1 (h2 j (by simpa using hj)).2 i hij).1
  ·unfold blkd
   rw [List.nodup_iff_pairwise_ne,List.pairwise_map,List.pairwise_iff_getElem]
   intro i j hi hj hij
   simp only [List.getElem_range]
   exact ((blkR1_iff X j j).1 (h2 j (by simpa using hj)).2 i hij).2
theorem valid_eq (X:U):validP X=validR X:=by
 rw [Bool.eq_iff_iff]
 unfold validP validR
 simp only [Bool.and_eq_true]
 constructor
 ·rintro ⟨⟨⟨⟨⟨hn,h0⟩,h1⟩,hi⟩,hp⟩,hf⟩
  have hst:∀ i,i < nStk X→-1≤nI (cX X 29).toL (i * 5 + 3):=by
   intro i hh
   have:=hi
   unfold itemsB at this
   rw [Bool.and_eq_true,itemsOk_iff] at this
   have:=this.1 i hh
   unfold itemOk at this
   simp only [Bool.and_eq_true,inR_iff] at this
   omega
  have ha:act X≤1:=by
   unfold numsOk at hn
   simp only [Bool.and_eq_true,inR_iff] at hn
   unfold act; omega
  exact ⟨⟨⟨⟨⟨hn,h0⟩,h1⟩,hi⟩,(placed_found hst).1 hp⟩,(fights_eq hp ha).1 hf⟩
 ·rintro ⟨⟨⟨⟨⟨hn,h0⟩,h1⟩,hi⟩,hp⟩,hf⟩
  have hst:∀ i,i < nStk X→-1≤nI (cX X 29).toL (i * 5 + 3):=by
   intro i hh
   have:=hi
   unfold itemsB at this
   rw [Bool.and_eq_true,itemsOk_iff] at this
   have:=this.1 i hh
   unfold itemOk at this
   simp only [Bool.and_eq_true,inR_iff] at this
   omega
  have ha:act X≤1:=by
   unfold numsOk at hn
   simp only [Bool.and_eq_true,inR_iff] at hn
   unfold act; omega
  have hp':=(placed_found hst).2 hp
  exact ⟨⟨⟨⟨⟨hn,h0⟩,h1⟩,hi⟩,hp'⟩,(fights_eq hp' ha).2 hf⟩
theorem t_valid {ρ:Env} {X:E}:(E.B ρ (.fn 115 X)=true)↔(E.B ρ (.fn 130 X)=true):=by
 show (validP (X.den ρ)=true)↔(validR (X.den ρ)=true)
 rw [valid_eq]
end Go.SX

set_option linter.unusedVariables false
set_option linter.unusedSimpArgs false
namespace Go.SX
/-! ### numbers in order -/
theorem insU_permB (x:Int):∀ l,(insU x l).Perm (x::l)
 | []=>.refl _
 | y::l=>by
  unfold insU; split
  ·exact .refl _
  ·exact ((insU_permB x l).cons y).trans (.swap x y l)
theorem sortU_permB:∀ l,(sortU l).Perm l
 | []=>.refl _
 | x::l=>(insU_permB x _).trans ((sortU_permB l).cons x)
theorem insU_le (x:Int):∀ l:List Int,l.Pairwise (·≤·)→(insU x l).Pairwise (·≤·)
 | [],_=>by simp [insU]
 | y::l,h=>by
  obtain ⟨h1,h2⟩:=List.pairwise_cons.1 h
  unfold insU; split
  ·rename_i hx
   refine List.pairwise_cons.2 ⟨fun a ha=>?_,h⟩
   rcases List.mem_cons.1 ha with rfl | ha
   ·exact hx
   ·exact Int.le_trans hx (h1 a ha)
  ·rename_i hx
   refine List.pairwise_cons.2 ⟨fun a ha=>?_,insU_le x l h2⟩
   rcases List.mem_cons.1 ((insU_permB x l).mem_iff.1 ha) with rfl | ha
   ·omega
   ·exact h1 a ha
theorem sortU_le:∀ l:List Int,(sortU l).Pairwise (·≤·)
 | []=>.nil
 | x::l=>insU_le x _ (sortU_le l)
theorem sort_unique {a b:List Int} (ha:a.Pairwise (·≤·)) (hb:b.Pairwise (·≤·)) (h:a.Perm b):a=b :=
 List.Perm.eq_of_pairwise (le:=(·≤·)) (fun a b _ _ h1 h2=>Int.le_antisymm h1 h2) ha hb h
theorem sort_of_perm {a l:List Int} (ha:a.Pairwise (·≤·)) (h:a.Perm l):a=sortU l:=sort_unique ha (sortU_le l) (h.trans (sortU_permB l).symm)
/-- a number is put where it belongs -/
theorem sort_put {x l : List Int} {v : Int} {n : Nat} (h : x = sortU l) (hn : n ≤ x.length) (hlo : ∀ a ∈ x.take n, a < v) (hhi : n = x.length ∨ v ≤ x.getD n 0) : x.take n ++ (v :: x.drop n) = sortU (l ++ [v]) := by
  have hs : x.Pairwise (· ≤ ·) := by rw [h]; exact sortU_le l
  have hp : x.Perm l := by rw [h]; exact sortU_permB l
  refine sort_of_perm ?_ ?_
  · have hs' := hs
    rw [← List.take_append_drop n x, List.pairwise_append] at hs'
    obtain ⟨h1, h2, h3⟩ := hs'
    have hd : ∀ a ∈ x.drop n, v ≤ a := by
      intro a ha
      rcases hhi with e | hv
      · rw [e, List.drop_length] at ha; cases ha
      · obtain ⟨k, hk, rfl⟩ := List.mem_iff_getElem.1 ha
        rw [List.length_drop] at hk
        rw [List.getElem_drop]
        have hg : x.getD n 0 = x[n]'(by omega) := by
          rw [List.getD_eq_getElem?_getD, List.getElem?_eq_getElem (by omega)]; rfl
        rw [hg] at hv
        rcases Nat.eq_zero_or_pos k with rfl | hk0
        · exact hv
        · exact Int.le_trans hv ((List.pairwise_iff_getElem.1 hs) n (n + k) (by omega) (by omega) (by omega))
    rw [List.pairwise_append]
    refine ⟨h1, List.pairwise_cons.2 ⟨hd, h2⟩, fun a ha b hb => ?_⟩
    rcases List.mem_cons.1 hb with rfl | hb
    · exact Int.le_of_lt (hlo a ha)
    · exact h3 a ha b hb
  · have e : x.Perm (x.take n ++ x.drop n) := by rw [List.take_append_drop]
    exact (List.perm_middle).trans (((e.symm.trans hp).cons v).trans (List.perm_append_singleton v l).symm)
section
variable {ρ : Env} {x y l A a b k u i j p q n m r o c d w v X T N L e t C z s m0 m1 m2 m3 : E}
theorem nn9 (ρ:Env) (a:E):0≤E.I ρ (.fn 9 a):=Int.natCast_nonneg _
theorem ints_app:ints ρ (.fn 3 (.pr x y))=ints ρ x++ints ρ y:=by
 show (E.L ρ x++E.L ρ y).map U.toI=_
 rw [List.map_append]; rfl
theorem ints_cons:ints ρ (.fn 23 (.pr a l))=E.I ρ a::ints ρ l:=rfl
theorem ints_nil:ints ρ (.fn 10 a)=[]:=rfl
theorem z145:(E.B ρ (.fn 145 (.pr X p))=true)=(0≤E.I ρ p∧E.I ρ p≤1∧E.B ρ (.fn 130 X)=true):=by
 show (fineB (X.den ρ) (E.I ρ p)=true)=_
 unfold fineB
 rw [Bool.and_eq_true,inR_iff,and_assoc]; rfl
/-! numbers in order -/
theorem z152:(E.B ρ (.fn 152 (.pr x (.pr l i)))=true)=(ints ρ x=sortU ((ints ρ l).take (E.I ρ i).toNat)):=by
 show ((toIs (x.den ρ) == sortU ((toIs (l.den ρ)).take (E.I ρ i).toNat))=true)=_
 rw [beq_iff_eq]; rfl
theorem z160:(E.B ρ (.fn 160 (.pr x (.pr v i)))=true)=(∀ a∈(ints ρ x).take (E.I ρ i).toNat,a < E.I ρ v):=by
 show (((toIs (x.den ρ)).take (E.I ρ i).toNat).all (fun a=>decide (a < E.I ρ v))=true)=_
 simp only [List.all_eq_true,decide_eq_true_eq]; rfl
theorem z161:(E.B ρ (.fn 161 (.pr x (.pr y i)))=true)=((ints ρ x).take (E.I ρ i).toNat=(ints ρ y).take (E.I ρ i).toNat):=by
 show (((toIs (x.den ρ)).take (E.I ρ i).toNat == (toIs (y.den ρ)).take (E.I ρ i).toNat)=true)=_
 rw [beq_iff_eq]; rfl
theorem t152_zero (h:E.I ρ i≤0):E.B ρ (.fn 152 (.pr (.fn 10 a) (.pr l i)))=true:=by
 have e:(E.I ρ i).toNat=0:=by omega
 rw [z152,e]; rfl
theorem t152_eq (h:E.B ρ (.fn 152 (.pr x (.pr l i)))=true) (e:E.I ρ n=E.I ρ i):E.B ρ (.fn 152 (.pr x (.pr l n)))=true:=by
 rw [z152] at *; rw [e]; exact h
theorem t160_zero (h:E.I ρ i≤0):E.B ρ (.fn 160 (.pr x (.pr v i)))=true:=by
 have e:(E.I ρ i).toNat=0:=by omega
 rw [z160,e]; intro a ha; simp at ha
theorem t160_step (h:E.B ρ (.fn 160 (.pr x (.pr v i)))=true) (h0:0≤E.I ρ i) (h1:E.I ρ i < E.I ρ (.fn 0 x)) (hn:E.I ρ n=E.I ρ i + 1) (hv:E.I ρ (.fn 1 (.pr x i)) < E.I ρ v):E.B ρ (.fn 160 (.pr x (.pr v n)))=true:=by
 have en:(E.I ρ n).toNat=(E.I ρ i).toNat + 1:=by omega
 rw [← ints_len] at h1
 rw [z160] at *
 rw [I_nth] at hv
 rw [en,take_succ_getD _ _ (by omega)]
 intro a ha
 rcases List.mem_append.1 ha with ha | ha
 ·exact h a ha
 ·rw [List.mem_singleton.1 ha]; exact hv
/-- the list that Sorted makes in a step -/
theorem t152_put (h : E.B ρ (.fn 152 (.pr x (.pr l i))) = true) (h' : E.B ρ (.fn 160 (.pr x (.pr v j))) = true) (ev : v = .fn 1 (.pr l i)) (h0 : 0 ≤ E.I ρ i) (h1 : E.I ρ i < E.I ρ (.fn 0 l)) (hn : E.I ρ n = E.I ρ i + 1)
    (j0 : 0 ≤ E.I ρ j) (j1 : E.I ρ j ≤ E.I ρ (.fn 0 x)) (hj : E.I ρ (.fn 0 x) ≤ E.I ρ j ∨ E.I ρ v ≤ E.I ρ (.fn 1 (.pr x j)))
    (hy : ints ρ y = (ints ρ x).take (E.I ρ j).toNat ++ (E.I ρ v :: (ints ρ x).drop (E.I ρ j).toNat)) : E.B ρ (.fn 152 (.pr y (.pr l n))) = true := by
  subst ev
  have en : (E.I ρ n).toNat = (E.I ρ i).toNat + 1 := by omega
  rw [z152] at h
  rw [z160] at h'
  rw [← ints_len] at h1 j1 hj
  rw [I_nth (l := x)] at hj
  have hs := sort_put h (v := E.I ρ (.fn 1 (.pr l i))) (n := (E.I ρ j).toNat) (by omega) h' (by
    rcases hj with hj | hj
    · exact Or.inl (by omega)
    · exact Or.inr hj)
  rw [z152, hy, hs, en, take_succ_getD _ _ (by omega), I_nth]
theorem ints_4:ints ρ (.fn 4 (.pr l (.pr a b)))=((ints ρ l).take (E.I ρ b).toNat).drop (E.I ρ a).toNat:=by
 show (((E.L ρ l).take (E.I ρ b).toNat).drop (E.I ρ a).toNat).map U.toI=_
 rw [List.map_drop,List.map_take]; rfl
theorem len_4 (h0:0≤E.I ρ a) (h1:E.I ρ a≤E.I ρ b) (h2:E.I ρ b≤E.I ρ (.fn 0 l)):E.I ρ (.fn 0 (.fn 4 (.pr l (.pr a b))))=E.I ρ b - E.I ρ a:=by
 rw [← ints_len] at *
 rw [ints_4,List.length_drop,List.length_take]; omega
theorem t152_p1 (ev:v=.fn 1 (.pr l i)) (h0:E.I ρ i=0) (h1:0 < E.I ρ (.fn 0 l)) (hn:E.I ρ n=1):E.B ρ (.fn 152 (.pr (.fn 23 (.pr v (.fn 10 a))) (.pr l n)))=true:=by
 have e:=t152_put (ρ:=ρ) (x:=.fn 10 (.int 0)) (j:=.int 0) (y:=.fn 23 (.pr v (.fn 10 a))) (n:=n) (t152_zero (l:=l) (i:=i) (by omega)) (t160_zero (v:=v) (Int.le_refl _)) ev (by omega) (by omega) (by omega) (Int.le_refl _) (by rw [← ints_len,ints_nil]; exact Int.le_refl _) (Or.inl (by rw [← ints_len,ints_nil]; exact Int.le_refl _)) (by rw [ints_cons,ints_nil,ints_nil]; rfl)
 exact e
theorem t152_p (h:E.B ρ (.fn 152 (.pr x (.pr l i)))=true) (h':E.B ρ (.fn 160 (.pr x (.pr v j)))=true) (ev:v=.fn 1 (.pr l i)) (h0:0≤E.I ρ i) (h1:E.I ρ i < E.I ρ (.fn 0 l)) (hn:E.I ρ n=E.I ρ i + 1)
  (j0:0≤E.I ρ j) (j1:E.I ρ j≤E.I ρ (.fn 0 x)) (hj:E.I ρ (.fn 0 x)≤E.I ρ j∨E.I ρ v≤E.I ρ (.fn 1 (.pr x j))) (he:E.I ρ (.fn 0 x)≤E.I ρ e) :
  (E.I ρ (.fn 0 x)≤E.I ρ j→E.B ρ (.fn 152 (.pr (.fn 3 (.pr (.fn 4 (.pr x (.pr (.int 0) j))) (.fn 23 (.pr v (.fn 10 (.int 0)))))) (.pr l n)))=true) ∧
  (E.I ρ j=0→E.B ρ (.fn 152 (.pr (.fn 3 (.pr (.fn 23 (.pr v (.fn 10 (.int 0)))) (.fn 4 (.pr x (.pr j e))))) (.pr l n)))=true) ∧
  E.B ρ (.fn 152 (.pr (.fn 3 (.pr (.fn 4 (.pr x (.pr (.int 0) j))) (.fn 3 (.pr (.fn 23 (.pr v (.fn 10 (.int 0)))) (.fn 4 (.pr x (.pr j e))))))) (.pr l n)))=true:=by
 have z0:(E.I ρ (.int 0)).toNat=0:=rfl
 have hx:=ints_len (ρ:=ρ) (l:=x)
 have hd:((ints ρ x).take (E.I ρ e).toNat)=ints ρ x:=List.take_of_length_le (by omega)
 refine ⟨fun hf=>?_,fun hz=>?_,?_⟩
 ·refine t152_put h h' ev h0 h1 hn j0 j1 hj ?_
  rw [ints_app,ints_4,ints_cons,ints_nil,z0,List.drop_zero,List.drop_of_length_le (l:=ints ρ x) (by omega)]
 ·refine t152_put h h' ev h0 h1 hn j0 j1 hj ?_
  rw [ints_app,ints_4,ints_cons,ints_nil,hd,hz]; rfl
 ·refine t152_put h h' ev h0 h1 hn j0 j1 hj ?_
  rw [ints_app,ints_app,ints_4,ints_4,ints_cons,ints_nil,hd,z0,List.drop_zero]; rfl
/-! equal lists -/
theorem t161_zero (h:E.I ρ i≤0):E.B ρ (.fn 161 (.pr x (.pr y i)))=true:=by
 have e:(E.I ρ i).toNat=0:=by omega
 rw [z161,e]; simp
theorem t161_eq (h:E.B ρ (.fn 161 (.pr x (.pr y i)))=true) (e:E.I ρ n=E.I ρ i):E.B ρ (.fn 161 (.pr x (.pr y n)))=true:=by
 rw [z161] at *; rw [e]; exact h
theorem t161_step (h:E.B ρ (.fn 161 (.pr x (.pr y i)))=true) (h0:0≤E.I ρ i) (h1:E.I ρ i < E.I ρ (.fn 0 x)) (h2:E.I ρ (.fn 0 y)=E.I ρ (.fn 0 x)) (hn:E.I ρ n=E.I ρ i + 1) (hv:E.I ρ (.fn 1 (.pr x i))=E.I ρ (.fn 1 (.pr y i))):E.B ρ (.fn 161 (.pr x (.pr y n)))=true:=by
 have en:(E.I ρ n).toNat=(E.I ρ i).toNat + 1:=by omega
 rw [← ints_len] at h1
 rw [← ints_len,← ints_len] at h2
 rw [z161] at *
 rw [I_nth,I_nth] at hv
 rw [en,take_succ_getD _ _ (by omega),take_succ_getD _ _ (by omega),h,hv]
theorem t161_fail (h0:0≤E.I ρ i) (h1:E.I ρ i < E.I ρ (.fn 0 x)) (h2:E.I ρ (.fn 0 y)=E.I ρ (.fn 0 x)) (hn:E.I ρ i < E.I ρ n) (hv:¬ E.I ρ (.fn 1 (.pr x i))=E.I ρ (.fn 1 (.pr y i))):¬ E.B ρ (.fn 161 (.pr x (.pr y n)))=true:=by
 rw [← ints_len] at h1
 rw [← ints_len,← ints_len] at h2
 rw [z161]
 intro h
 apply hv
 rw [I_nth,I_nth]
 have e:=congrArg (fun l=>l[(E.I ρ i).toNat]?) h
 simp only [List.getElem?_take] at e
 rw [if_pos (by omega),if_pos (by omega)] at e
 rw [List.getD_eq_getElem?_getD,List.getD_eq_getElem?_getD,e]
/-! what is hidden -/
theorem ints_nil_of (h:E.I ρ (.fn 0 l)=0):ints ρ l=[]:=by
 rw [← ints_len] at h
 exact List.length_eq_zero_iff.1 (by omega)
theorem ints_40:ints ρ (.fn 40 o)=sortU (ints ρ o):=by
 show ((sortU ((E.L ρ o).map U.toI)).map U.int).map U.toI=_
 rw [List.map_map]
 exact List.map_id' _
theorem len_40:E.I ρ (.fn 0 (.fn 40 o))=E.I ρ (.fn 0 o):=by
 rw [← ints_len,← ints_len,ints_40,(sortU_permB _).length_eq]
theorem len_3:E.I ρ (.fn 0 (.fn 3 (.pr x y)))=E.I ρ (.fn 0 x) + E.I ρ (.fn 0 y):=by
 rw [← ints_len,← ints_len,← ints_len,ints_app,List.length_append]; simp
theorem ints_40z:ints ρ (.fn 4 (.pr l (.pr a (.int 0))))=[]:=by
 rw [ints_4]
 have e:(E.I ρ (.int 0)).toNat=0:=rfl
 rw [e,List.take_zero,List.drop_nil]
theorem len_40z:E.I ρ (.fn 0 (.fn 4 (.pr l (.pr a (.int 0)))))=0:=by rw [← ints_len,ints_40z]; rfl
theorem z162:(E.B ρ (.fn 162 (.pr x (.pr X p)))=true)=(ints ρ x=hidL (X.den ρ) (E.I ρ p)):=by
 show ((toIs (x.den ρ) == hidL (X.den ρ) (E.I ρ p))=true)=_
 rw [beq_iff_eq]; rfl
theorem z163:(E.B ρ (.fn 163 (.pr x (.pr X p)))=true)=(ints ρ x=sortU (hidL (X.den ρ) (E.I ρ p))):=by
 show ((toIs (x.den ρ) == sortU (hidL (X.den ρ) (E.I ρ p)))=true)=_
 rw [beq_iff_eq]; rfl
theorem hid_0 (hp:E.I ρ p=0):hidL (X.den ρ) (E.I ρ p)=ints ρ (.fn 1 (.pr X (.int 6)))++(ints ρ (.fn 1 (.pr X (.int 20)))++ints ρ (.fn 1 (.pr X (.int 21)))):=by rw [hp]; rfl
theorem hid_1 (hp:E.I ρ p=1):hidL (X.den ρ) (E.I ρ p)=ints ρ (.fn 1 (.pr X (.int 6)))++(ints ρ (.fn 1 (.pr X (.int 20)))++ints ρ (.fn 1 (.pr X (.int 7)))):=by rw [hp]; rfl
theorem t163_0 (hp:E.I ρ p=0) (hy:ints ρ y=ints ρ (.fn 1 (.pr X (.int 6)))++(ints ρ (.fn 1 (.pr X (.int 20)))++ints ρ (.fn 1 (.pr X (.int 21))))):E.B ρ (.fn 163 (.pr (.fn 40 y) (.pr X p)))=true:=by
 rw [z163,ints_40,hid_0 hp,hy]
theorem t163_1 (hp:E.I ρ p=1) (hy:ints ρ y=ints ρ (.fn 1 (.pr X (.int 6)))++(ints ρ (.fn 1 (.pr X (.int 20)))++ints ρ (.fn 1 (.pr X (.int 7))))):E.B ρ (.fn 163 (.pr (.fn 40 y) (.pr X p)))=true:=by
 rw [z163,ints_40,hid_1 hp,hy]
theorem t163_n0 (hp:E.I ρ p=0) (hy:([]:List Int)=ints ρ (.fn 1 (.pr X (.int 6)))++(ints ρ (.fn 1 (.pr X (.int 20)))++ints ρ (.fn 1 (.pr X (.int 21))))):E.B ρ (.fn 163 (.pr (.fn 10 a) (.pr X p)))=true:=by
 rw [z163,hid_0 hp,← hy]; rfl
theorem t163_n1 (hp:E.I ρ p=1) (hy:([]:List Int)=ints ρ (.fn 1 (.pr X (.int 6)))++(ints ρ (.fn 1 (.pr X (.int 20)))++ints ρ (.fn 1 (.pr X (.int 7))))):E.B ρ (.fn 163 (.pr (.fn 10 a) (.pr X p)))=true:=by
 rw [z163,hid_1 hp,← hy]; rfl
theorem t162_0 (hp:E.I ρ p=0) (hy:ints ρ y=ints ρ (.fn 1 (.pr X (.int 6)))++(ints ρ (.fn 1 (.pr X (.int 20)))++ints ρ (.fn 1 (.pr X (.int 21))))):E.B ρ (.fn 162 (.pr y (.pr X p)))=true:=by
 rw [z162,hid_0 hp,hy]
theorem t162_1 (hp:E.I ρ p=1) (hy:ints ρ y=ints ρ (.fn 1 (.pr X (.int 6)))++(ints ρ (.fn 1 (.pr X (.int 20)))++ints ρ (.fn 1 (.pr X (.int 7))))):E.B ρ (.fn 162 (.pr y (.pr X p)))=true:=by
 rw [z162,hid_1 hp,hy]
theorem t163_of (h:E.B ρ (.fn 162 (.pr x (.pr X p)))=true) (h':E.B ρ (.fn 152 (.pr y (.pr x i)))=true) (hi:E.I ρ (.fn 0 x)≤E.I ρ i):E.B ρ (.fn 163 (.pr y (.pr X p)))=true:=by
 rw [z162] at h
 rw [z152] at h'
 rw [← ints_len] at hi
 rw [z163,h',List.take_of_length_le (by omega),h]
theorem t163_same (h:E.B ρ (.fn 163 (.pr x (.pr X p)))=true) (h':E.B ρ (.fn 163 (.pr y (.pr X p)))=true):E.I ρ (.fn 0 x)=E.I ρ (.fn 0 y)∧E.B ρ (.fn 161 (.pr x (.pr y n)))=true:=by
 rw [z163] at *
 rw [← ints_len,← ints_len,z161,h,h']
 exact ⟨rfl,rfl⟩
/-! the reference puts a number where it belongs: another order of appends -/
theorem t152_q (h:E.B ρ (.fn 152 (.pr x (.pr l i)))=true) (h':E.B ρ (.fn 160 (.pr x (.pr v j)))=true) (ev:v=.fn 1 (.pr l i)) (h0:0≤E.I ρ i) (h1:E.I ρ i < E.I ρ (.fn 0 l)) (hn:E.I ρ n=E.I ρ i + 1)
  (j0:0≤E.I ρ j) (j1:E.I ρ j≤E.I ρ (.fn 0 x)) (hj:E.I ρ (.fn 0 x)≤E.I ρ j∨E.I ρ v≤E.I ρ (.fn 1 (.pr x j))) (he:E.I ρ (.fn 0 x)≤E.I ρ e) :
  (E.I ρ (.fn 0 x)≤E.I ρ j→E.B ρ (.fn 152 (.pr (.fn 3 (.pr (.fn 4 (.pr x (.pr (.int 0) j))) (.fn 23 (.pr v (.fn 10 (.int 0)))))) (.pr l n)))=true) ∧
  (E.I ρ j=0→E.B ρ (.fn 152 (.pr (.fn 3 (.pr (.fn 23 (.pr v (.fn 10 (.int 0)))) (.fn 4 (.pr x (.pr j e))))) (.pr l n)))=true) ∧
  E.B ρ (.fn 152 (.pr (.fn 3 (.pr (.fn 3 (.pr (.fn 4 (.pr x (.pr (.int 0) j))) (.fn 23 (.pr v (.fn 10 (.int 0)))))) (.fn 4 (.pr x (.pr j e))))) (.pr l n)))=true:=by
 obtain ⟨a1,a2,a3⟩:=t152_p (ρ:=ρ) (n:=n) (e:=e) h h' ev h0 h1 hn j0 j1 hj he
 refine ⟨a1,a2,?_⟩
 rw [z152] at *
 rw [← a3,ints_app,ints_app,ints_app,ints_app,List.append_assoc]
/-! targets -/
theorem I_164:E.I ρ (.fn 164 (.pr l n))=tgsSum (E.L ρ l) (E.I ρ n).toNat:=rfl
theorem t164_nn:0≤E.I ρ (.fn 164 (.pr l n)):=Int.natCast_nonneg _
theorem t164_zero (h:E.I ρ n≤0):E.I ρ (.fn 164 (.pr l n))=0:=by
 have e:(E.I ρ n).toNat=0:=by omega
 rw [I_164,e]; rfl
theorem t164_step (h0:0≤E.I ρ i) (hn:E.I ρ n=E.I ρ i + 1):E.I ρ (.fn 164 (.pr l n))=E.I ρ (.fn 164 (.pr l i)) + E.I ρ (.fn 9 (.pr (.fn 1 (.pr l (.fn 6 (.pr (.fn 8 (.pr i (.int 5))) (.int 4))))) (.int 2))):=by
 have e:=L_row (ρ:=ρ) (T:=l) i 5 4 h0
 have k1:(Int.ofNat 4)=4:=rfl
 have k2:(Int.ofNat 5)=5:=rfl
 rw [k1,k2] at e
 have h2:E.I ρ (.fn 9 (.pr (.fn 1 (.pr l (.fn 6 (.pr (.fn 8 (.pr i (.int 5))) (.int 4))))) (.int 2)))=(((E.L ρ (.fn 1 (.pr l (.fn 6 (.pr (.fn 8 (.pr i (.int 5))) (.int 4)))))).length / 2:Nat):Int):=rfl
 have en:(E.I ρ n).toNat=(E.I ρ i).toNat + 1:=by omega
 rw [h2,e,I_164,I_164,en]
 unfold tgsSum
 rw [List.range_succ,List.map_append,List.sum_append]
 simp
/-! small boards -/
theorem z117h:(E.B ρ (.fn 117 X)=true)=(E.I ρ (.fn 0 (.fn 1 (.pr X (.int 6))))≤200∧E.I ρ (.fn 0 (.fn 1 (.pr X (.int 7))))≤200∧E.I ρ (.fn 0 (.fn 1 (.pr X (.int 8))))≤200∧E.I ρ (.fn 0 (.fn 1 (.pr X (.int 9))))≤200 ∧
  E.I ρ (.fn 0 (.fn 1 (.pr X (.int 20))))≤200∧E.I ρ (.fn 0 (.fn 1 (.pr X (.int 21))))≤200∧E.I ρ (.fn 0 (.fn 1 (.pr X (.int 22))))≤200∧E.I ρ (.fn 0 (.fn 1 (.pr X (.int 23))))≤200 ∧
  E.I ρ (.fn 9 (.pr (.fn 1 (.pr X (.int 29))) (.int 5)))≤200∧E.I ρ (.fn 9 (.pr (.fn 1 (.pr X (.int 30))) (.int 5)))≤200 ∧
  E.I ρ (.fn 9 (.pr (.fn 1 (.pr X (.int 0))) (.int 12)))≤120∧E.I ρ (.fn 0 (.fn 1 (.pr X (.int 31))))≤200∧E.I ρ (.fn 9 (.pr (.fn 1 (.pr X (.int 32))) (.int 2)))≤200):=by
 have d:E.I ρ (.fn 9 (.pr (.fn 1 (.pr X (.int 29))) (.int 5)))=((nStk (X.den ρ):Nat):Int):=rfl
 have e:E.I ρ (.fn 9 (.pr (.fn 1 (.pr X (.int 30))) (.int 5)))=(((cX (X.den ρ) 30).toL.length / 5:Nat):Int):=rfl
 have f:E.I ρ (.fn 9 (.pr (.fn 1 (.pr X (.int 0))) (.int 12)))=((nObj (X.den ρ):Nat):Int):=rfl
 rw [d,e,f,← atk_len,← nBlk_c]
 show (smallB (X.den ρ)=true)=_
 unfold smallB
 rw [← ints_len,← ints_len,← ints_len,← ints_len,← ints_len,← ints_len,← ints_len,← ints_len]
 have er:List.range 8=[0,1,2,3,4,5,6,7]:=rfl
 have z0:ints ρ (.fn 1 (.pr X (.int 6)))=zoneL (X.den ρ) 0:=rfl
 have z1:ints ρ (.fn 1 (.pr X (.int 7)))=zoneL (X.den ρ) 1:=rfl
 have z2:ints ρ (.fn 1 (.pr X (.int 8)))=zoneL (X.den ρ) 2:=rfl
 have z3:ints ρ (.fn 1 (.pr X (.int 9)))=zoneL (X.den ρ) 3:=rfl
 have y0:ints ρ (.fn 1 (.pr X (.int 20)))=zoneL (X.den ρ) 4:=rfl
 have y1:ints ρ (.fn 1 (.pr X (.int 21)))=zoneL (X.den ρ) 5:=rfl
 have y2:ints ρ (.fn 1 (.pr X (.int 22)))=zoneL (X.den ρ) 6:=rfl
 have y3:ints ρ (.fn 1 (.pr X (.int 23)))=zoneL (X.den ρ) 7:=rfl
 rw [er,z0,z1,z2,z3,y0,y1,y2,y3]
 generalize (cX (X.den ρ) 30).toL.length / 5=z30
 simp only [List.all_cons,List.all_nil,Bool.and_eq_true,decide_eq_true_eq,and_true]
 apply propext; omega
theorem mx_le {k:Int} (h:E.I ρ (.mx a b)≤k):E.I ρ a≤k∧E.I ρ b≤k:=by
 have e:E.I ρ (.mx a b)=max (E.I ρ a) (E.I ρ b):=sm_I_mx ρ a b
 rw [e] at h
 exact ⟨Int.le_trans (Int.le_max_left _ _) h,Int.le_trans (Int.le_max_right _ _) h⟩
theorem le_of_B (h:E.B ρ (.not (.cmp .lss a b))=true):E.I ρ b≤E.I ρ a:=by
 simp only [smA,smW] at h
 omega
end
end Go.SX

