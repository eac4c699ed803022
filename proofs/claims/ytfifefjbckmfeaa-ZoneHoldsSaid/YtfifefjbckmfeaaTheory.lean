/-
  What the program's own functions say
-/
import Derived.Test.YtfifefjbckmfeaaSXe
set_option linter.unusedVariables false
set_option linter.unusedSimpArgs false
namespace Go.SX
/-! ### Zones: plain laws -/
theorem nodupB_iff:∀ l:List Int,nodupB l=true↔l.Nodup
 | []=>by simp [nodupB]
 | x::l=>by
  have e:nodupB (x::l)=(!l.contains x && nodupB l):=rfl
  rw [e,Bool.and_eq_true,nodupB_iff l,List.nodup_cons]
  simp
theorem okC_iff (C:List (List Int)) (m:List U):okC C m=true↔C.flatten.Nodup∧(pairsU m).Perm (prsC C)∧∀ i∈C.flatten,1≤i∧i≤4096:=by
 unfold okC
 simp only [Bool.and_eq_true,nodupB_iff,List.isPerm_iff,List.all_eq_true,decide_eq_true_eq,and_assoc]
theorem prsF_fst:∀ (C:List (List Int)) (z:Nat),(prsF z C).map Prod.fst=C.flatten
 | [],z=>rfl
 | l::C,z=>by
  simp only [prsF,List.map_append,List.map_map,List.flatten_cons,prsF_fst C (z + 1)]
  congr 1
  exact List.map_id' _
theorem prsF_mem:∀ (C:List (List Int)) (z:Nat) (i v:Int),(i,v)∈prsF z C↔∃ k,k < C.length∧v=((z + k:Nat):Int)∧i∈C.getD k []
 | [],z,i,v=>by simp [prsF]
 | l::C,z,i,v=>by
  simp only [prsF,List.mem_append,List.mem_map,prsF_mem C (z + 1) i v]
  constructor
  ·rintro (⟨a,ha,e⟩ | ⟨k,hk,e,hi⟩)
   ·obtain ⟨rfl,rfl⟩:=Prod.mk.inj e
    exact ⟨0,by simp,by simp,by simpa using ha⟩
   ·exact ⟨k + 1,by simpa using hk,by rw [e]; congr 1; omega,by simpa using hi⟩
  ·rintro ⟨k,hk,e,hi⟩
   cases k with
   | zero=>exact .inl ⟨i,by simpa using hi,by rw [e]; simp⟩
   | succ k=>exact .inr ⟨k,by simpa using hk,by rw [e]; congr 1; omega,by simpa using hi⟩
theorem prsF_take (id:Int):∀ (C:List (List Int)) (z:Nat),prsF z (takeC C id)=(prsF z C).filter fun p=>p.1 != id
 | [],z=>rfl
 | l::C,z=>by
  have e:takeC (l::C) id=(l.filter fun x=>x != id)::takeC C id:=rfl
  rw [e]
  simp only [prsF,List.filter_append,prsF_take id C (z + 1),List.filter_map]
  rfl
theorem prsF_set (id:Int):∀ (C:List (List Int)) (z k:Nat) (a b:List Int),k < C.length→C.getD k []=a++b→(prsF z (C.set k (a++id::b))).Perm ((id,((z + k:Nat):Int))::prsF z C)
 | [],z,k,a,b,h,_=>by simp at h
 | l::C,z,0,a,b,h,e=>by
  have e:l=a++b:=by simpa using e
  subst e
  simp only [List.set_cons_zero,prsF,List.map_append,List.map_cons,List.append_assoc,List.cons_append,Nat.add_zero]
  exact List.perm_middle
 | l::C,z,k + 1,a,b,h,e=>by
  have ih:=prsF_set id C (z + 1) k a b (by simpa using h) (by simpa using e)
  have e2:z + (k + 1)=z + 1 + k:=by omega
  simp only [List.set_cons_succ,prsF,e2]
  exact (List.Perm.append_left _ ih).trans List.perm_middle
theorem takeC_flatten (C:List (List Int)) (id:Int):(takeC C id).flatten=C.flatten.filter fun x=>x != id:=by
 induction C with
 | nil=>rfl
 | cons l C ih =>
  have e:takeC (l::C) id=(l.filter fun x=>x != id)::takeC C id:=rfl
  rw [e,List.flatten_cons,ih,List.flatten_cons,List.filter_append]
theorem set_flatten (id:Int) (C:List (List Int)) (k:Nat) (a b:List Int) (h:k < C.length) (e:C.getD k []=a++b):(C.set k (a++id::b)).flatten.Perm (id::C.flatten):=by
 have:=(prsF_set id C 0 k a b h e).map Prod.fst
 rwa [prsF_fst,List.map_cons,prsF_fst] at this
theorem zAt_nat (C:List (List Int)) {z:Int} (h:0≤z):zAt C z=C.getD z.toNat []:=by unfold zAt; rw [if_pos h]
/-! maps -/
theorem mput_cons (k:Int) (v u:U) (m:List U):mput k v (u::m)=if u.fst.toI=k then .lst [.int k,v]::m else u::mput k v m:=rfl
theorem pairs_mput (k:Int) (v:U):∀ m:List U,k ∉ (pairsU m).map Prod.fst→pairsU (mput k v m)=pairsU m++[(k,v.toI)]
 | [],_=>rfl
 | u::m,h=>by
  simp only [pairsU,List.map_cons,List.mem_cons,not_or] at h
  rw [mput_cons,if_neg (fun e=>h.1 e.symm)]
  show (u.fst.toI,u.snd.toI)::pairsU (mput k v m)=_
  rw [pairs_mput k v m h.2]; rfl
theorem mdel_cons (k:Int) (u:U) (m:List U):mdel k (u::m)=if u.fst.toI=k then m else u::mdel k m:=rfl
theorem pairs_mdel (k:Int):∀ m:List U,((pairsU m).map Prod.fst).Nodup→pairsU (mdel k m)=(pairsU m).filter fun p=>p.1 != k
 | [],_=>rfl
 | u::m,h=>by
  have h':u.fst.toI ∉ (pairsU m).map Prod.fst∧((pairsU m).map Prod.fst).Nodup:=by simpa [pairsU] using h
  have e:pairsU (u::m)=(u.fst.toI,u.snd.toI)::pairsU m:=rfl
  rw [mdel_cons,e]
  by_cases hk:u.fst.toI=k
  ·rw [if_pos hk,List.filter_cons_of_neg (by simp [hk])]
   symm
   rw [List.filter_eq_self]
   intro p hp
   have:p.1≠k:=fun e=>h'.1 (by rw [hk,← e]; exact List.mem_map_of_mem hp)
   simpa using this
  ·rw [if_neg hk,List.filter_cons_of_pos (by simpa using hk)]
   show (u.fst.toI,u.snd.toI)::pairsU (mdel k m)=_
   rw [pairs_mdel k m h'.2]
theorem mfind_cons (q:Int) (u:U) (m:List U):mfind q (u::m)=if u.fst.toI=q then some u.snd else mfind q m:=rfl
theorem mfind_some (k:Int):∀ m:List U,(mfind k m).isSome=true↔k∈(pairsU m).map Prod.fst
 | []=>by simp [mfind,pairsU]
 | u::m=>by
  rw [mfind_cons]
  have e:(pairsU (u::m)).map Prod.fst=u.fst.toI::(pairsU m).map Prod.fst:=rfl
  rw [e,List.mem_cons]
  by_cases h:u.fst.toI=k
  ·rw [if_pos h]; simp [h]
  ·rw [if_neg h,mfind_some k m]
   exact ⟨.inr,fun h'=>h'.resolve_left fun e=>h e.symm⟩
theorem mfind_mem (k:Int):∀ (m:List U) (v:U),mfind k m=some v→(k,v.toI)∈pairsU m
 | [],v,h=>by simp [mfind] at h
 | u::m,v,h=>by
  rw [mfind_cons] at h
  split at h
  ·rename_i e
   simp only [Option.some.injEq] at h; subst h
   rw [← e]; exact List.mem_cons_self
  ·exact List.mem_cons_of_mem _ (mfind_mem k m v h)
/-! what is kept -/
theorem ok_keys {C:List (List Int)} {m:List U} (h:okC C m=true) (k:Int):(mfind k m).isSome=true↔k∈C.flatten:=by
 obtain ⟨h1,h2,h3⟩:=(okC_iff C m).1 h
 rw [mfind_some,(h2.map Prod.fst).mem_iff,prsC,prsF_fst]
theorem ok_nodup {C:List (List Int)} {m:List U} (h:okC C m=true):((pairsU m).map Prod.fst).Nodup:=by
 obtain ⟨h1,h2,h3⟩:=(okC_iff C m).1 h
 rw [(h2.map Prod.fst).nodup_iff,prsC,prsF_fst]; exact h1
theorem ok_ins {C:List (List Int)} {m:List U} {z id:Int} {i:Nat} {v:U} (hv:v.toI=z) (h:okC C m=true) (hid:¬ (mfind id m).isSome=true) (h1:1≤id) (h2:id≤4096) (z0:0≤z) (z1:z < C.length) (hi:i≤(zAt C z).length) :
  okC (insC C z id i) (mput id v m)=true:=by
 have hk:=fun hm=>hid ((ok_keys h id).2 hm)
 obtain ⟨g1,g2,g3⟩:=(okC_iff C m).1 h
 have hz:z.toNat < C.length:=by omega
 have he:C.getD z.toNat []=(zAt C z).take i++(zAt C z).drop i:=by rw [List.take_append_drop,zAt_nat C z0]
 have hf:=set_flatten id C z.toNat _ _ hz he
 rw [okC_iff]
 unfold insC
 refine ⟨?_,?_,?_⟩
 ·rw [hf.nodup_iff,List.nodup_cons]; exact ⟨hk,g1⟩
 ·rw [pairs_mput id v m (fun hm=>hid ((mfind_some id m).2 hm))]
  have hp:=prsF_set id C 0 z.toNat _ _ hz he
  have ez:(((0 + z.toNat:Nat)):Int)=z:=by omega
  rw [ez] at hp
  rw [hv]
  exact ((g2.append_right _).trans (List.perm_append_singleton _ _)).trans hp.symm
 ·intro x hx
  rcases List.mem_cons.1 (hf.mem_iff.1 hx) with rfl | hx
  ·exact ⟨h1,h2⟩
  ·exact g3 x hx
theorem ok_take {C:List (List Int)} {m:List U} {id:Int} (h:okC C m=true):okC (takeC C id) (mdel id m)=true:=by
 obtain ⟨g1,g2,g3⟩:=(okC_iff C m).1 h
 rw [okC_iff,takeC_flatten]
 refine ⟨g1.filter _,?_,fun x hx=>g3 x (List.mem_filter.1 hx).1⟩
 rw [pairs_mdel id m (ok_nodup h),prsC,prsF_take]
 exact g2.filter _
theorem zoneF_mem (id:Int):∀ (C:List (List Int)) (z:Nat),C.flatten.Nodup→∀ k,k < C.length→id∈C.getD k []→zoneF z id C=((z + k:Nat):Int)
 | [],z,_,k,h,_=>by simp at h
 | l::C,z,hn,k,h,hi=>by
  rw [List.flatten_cons,List.nodup_append] at hn
  unfold zoneF
  cases k with
  | zero =>
   have hi:id∈l:=by simpa using hi
   rw [if_pos (List.contains_iff_mem.2 hi)]; rfl
  | succ k =>
   have hi:id∈C.getD k []:=by simpa using hi
   have hk:k < C.length:=by simpa using h
   have hm:id∈C.flatten:=by
    refine List.mem_flatten.2 ⟨C.getD k [],?_,hi⟩
    rw [List.getD_eq_getElem?_getD,List.getElem?_eq_getElem hk]; exact List.getElem_mem hk
   rw [if_neg (fun hc=>hn.2.2 id (List.contains_iff_mem.1 hc) id hm rfl),zoneF_mem id C (z + 1) hn.2.1 k hk hi]
   congr 1; omega
theorem zoneF_none (id:Int):∀ (C:List (List Int)) (z:Nat),id ∉ C.flatten→zoneF z id C=-1
 | [],z,_=>rfl
 | l::C,z,h=>by
  rw [List.flatten_cons,List.mem_append,not_or] at h
  unfold zoneF
  rw [if_neg (fun hc=>h.1 (List.contains_iff_mem.1 hc)),zoneF_none id C (z + 1) h.2]
/-- what the map says of an id -/
theorem ok_find {C : List (List Int)} {m : List U} (h : okC C m = true) {id : Int} {v : U} (hv : mfind id m = some v) : zoneOf C id = v.toI ∧ 0 ≤ v.toI ∧ v.toI < C.length ∧ id ∈ zAt C v.toI := by
  obtain ⟨g1, g2, g3⟩ := (okC_iff C m).1 h
  obtain ⟨k, hk, e, hi⟩ := (prsF_mem C 0 id v.toI).1 (g2.mem_iff.1 (mfind_mem id m v hv))
  have hz := zoneF_mem id C 0 g1 k hk hi
  rw [Nat.zero_add] at e hz
  refine ⟨by rw [e]; exact hz, by omega, by omega, ?_⟩
  rw [zAt_nat C (by omega), e, Int.toNat_natCast]; exact hi
theorem ok_none {C:List (List Int)} {m:List U} (h:okC C m=true) {id:Int} (hv:¬ (mfind id m).isSome=true):zoneOf C id=-1:=zoneF_none id C 0 (fun hm=>hv ((ok_keys h id).2 hm))
end Go.SX

set_option linter.unusedVariables false
set_option linter.unusedSimpArgs false
namespace Go.SX
/-! ### Zones: what the walk asks -/
noncomputable def ints (ρ:Env) (e:E):List Int:=(E.L ρ e).map U.toI
theorem getD_map (l:List U) (k:Nat):(l.getD k (.int 0)).toI=(l.map U.toI).getD k 0:=by
 simp only [List.getD_eq_getElem?_getD,List.getElem?_map]
 cases l[k]? <;> rfl
theorem con_getD (L:List U) (k:Nat):(con L).getD k []=toIs (L.getD k (.int 0)):=by
 unfold con
 simp only [List.getD_eq_getElem?_getD,List.getElem?_map]
 cases L[k]? <;> rfl
theorem idxOf_some {l:List Int} {id:Int} (h:id∈l):∃ k:Nat,idxOf l id=(k:Int)∧k < l.length∧l.getD k 0=id∧l.findIdx? (fun x=>x == id)=some k:=by
 unfold idxOf
 cases e:l.findIdx? fun x=>x == id with
 | none =>
  rw [List.findIdx?_eq_none_iff] at e
  exact absurd (e id h) (by simp)
 | some k =>
  obtain ⟨h1,h2,_⟩:=List.findIdx?_eq_some_iff_getElem.1 e
  refine ⟨k,rfl,h1,?_,rfl⟩
  rw [List.getD_eq_getElem?_getD,List.getElem?_eq_getElem h1]
  simpa using h2
theorem idxOf_none {l:List Int} {id:Int} (h:id ∉ l):idxOf l id=-1:=by
 unfold idxOf
 have e:l.findIdx? (fun x=>x == id)=none:=by
  rw [List.findIdx?_eq_none_iff]
  intro x hx
  have:x≠id:=fun e=>h (e ▸ hx)
  simpa using this
 rw [e]
theorem idxOf_cons (x:Int) (l:List Int) (id:Int):idxOf (x::l) id=if x=id then 0 else if idxOf l id=-1 then -1 else idxOf l id + 1:=by
 by_cases h:x=id
 ·subst h
  rw [if_pos rfl]; unfold idxOf; simp [List.findIdx?_cons]
 ·rw [if_neg h]
  by_cases hm:id∈l
  ·obtain ⟨k,e1,_,_,e4⟩:=idxOf_some hm
   rw [e1,if_neg (by omega)]
   unfold idxOf
   rw [List.findIdx?_cons,e4]
   simp [h]
  ·rw [idxOf_none hm,if_pos rfl]
   exact idxOf_none (by simp; exact ⟨fun e=>h e.symm,hm⟩)
/-- a list of different numbers without one of them -/
theorem split_filter : ∀ {l : List Int} {id : Int}, l.Nodup → id ∈ l → l.take (idxOf l id).toNat ++ l.drop ((idxOf l id).toNat + 1) = l.filter fun x => x != id
  | [], id, _, h => by cases h
  | x :: l, id, hn, h => by
    obtain ⟨h1, h2⟩ := List.nodup_cons.1 hn
    rw [idxOf_cons]
    by_cases e : x = id
    · subst e
      rw [if_pos rfl, List.filter_cons_of_neg (by simp)]
      simp only [Int.toNat_zero, List.take_zero, List.nil_append, Nat.zero_add, List.drop_succ_cons, List.drop_zero]
      symm
      rw [List.filter_eq_self]
      intro y hy
      have : y ≠ x := fun e => h1 (e ▸ hy)
      simpa using this
    · have hm : id ∈ l := by
        rcases List.mem_cons.1 h with h | h
        · exact absurd h.symm e
        · exact h
      obtain ⟨k, e1, _, _, _⟩ := idxOf_some hm
      have ih := split_filter h2 hm
      rw [if_neg e, List.filter_cons_of_pos (by simpa using e), ← ih, e1, if_neg (by omega)]
      have e2 : ((k : Int) + 1).toNat = k + 1 := by omega
      rw [e2, Int.toNat_natCast]; rfl
theorem filter_len:∀ {l:List Int} {id:Int},l.Nodup→id∈l→(l.filter fun x=>x != id).length + 1=l.length
 | l,id,hn,h=>by
  rw [← split_filter hn h]
  obtain ⟨k,e1,e2,_,_⟩:=idxOf_some h
  rw [e1,Int.toNat_natCast,List.length_append,List.length_take,List.length_drop]; omega
theorem nodup_part:∀ {C:List (List Int)} {l:List Int},C.flatten.Nodup→l∈C→l.Nodup
 | a::C,l,hn,h=>by
  rw [List.flatten_cons,List.nodup_append] at hn
  rcases List.mem_cons.1 h with rfl | h
  ·exact hn.1
  ·exact nodup_part hn.2.1 h
theorem takeC_set (id:Int):∀ (C:List (List Int)) (k:Nat),C.flatten.Nodup→k < C.length→id∈C.getD k []→takeC C id=C.set k ((C.getD k []).filter fun x=>x != id)
 | [],k,_,h,_=>by simp at h
 | l::C,k,hn,h,hi=>by
  rw [List.flatten_cons,List.nodup_append] at hn
  have e:takeC (l::C) id=(l.filter fun x=>x != id)::takeC C id:=rfl
  have self:∀ D:List (List Int),id ∉ D.flatten→takeC D id=D:=by
   intro D hD
   unfold takeC
   rw [List.map_congr_left (g:=fun x=>x),List.map_id']
   intro a ha
   rw [List.filter_eq_self]
   intro y hy
   have:y≠id:=fun e=>hD (List.mem_flatten.2 ⟨a,ha,e ▸ hy⟩)
   simpa using this
  cases k with
  | zero =>
   have hi:id∈l:=by simpa using hi
   rw [e,self C (fun hc=>hn.2.2 id hi id hc rfl)]; rfl
  | succ k =>
   have hi:id∈C.getD k []:=by simpa using hi
   have hk:k < C.length:=by simpa using h
   have hm:id∈C.flatten:=by
    refine List.mem_flatten.2 ⟨C.getD k [],?_,hi⟩
    rw [List.getD_eq_getElem?_getD,List.getElem?_eq_getElem hk]; exact List.getElem_mem hk
   have hl:(l.filter fun x=>x != id)=l:=by
    rw [List.filter_eq_self]
    intro y hy
    have:y≠id:=fun e=>hn.2.2 y hy id hm e
    simpa using this
   rw [e,takeC_set id C k hn.2.1 hk hi,hl]; rfl
section
variable {ρ : Env} {x y l A a b k u i j p q n m r o c d w v z id hi lo e : E}
theorem wrap_add:-9223372036854775808≤E.I ρ a + E.I ρ b→E.I ρ a + E.I ρ b < 9223372036854775808→E.I ρ (.ar .add .i64 a b)=E.I ρ a + E.I ρ b:=by
 intro h h'
 have e:E.I ρ (.ar .add .i64 a b)=IntKind.i64.wrap (E.I ρ a + E.I ρ b):=rfl
 obtain ⟨s,e2,q,r⟩:=cs_i64 (E.I ρ a + E.I ρ b)
 rw [e,e2]; omega
theorem wrap_sub:-9223372036854775808≤E.I ρ a - E.I ρ b→E.I ρ a - E.I ρ b < 9223372036854775808→E.I ρ (.ar .sub .i64 a b)=E.I ρ a - E.I ρ b:=by
 intro h h'
 have e:E.I ρ (.ar .sub .i64 a b)=IntKind.i64.wrap (E.I ρ a - E.I ρ b):=rfl
 obtain ⟨s,e2,q,r⟩:=cs_i64 (E.I ρ a - E.I ρ b)
 rw [e,e2]; omega
theorem ints_len:((ints ρ l).length:Int)=E.I ρ (.fn 0 l):=by
 show (((E.L ρ l).map U.toI).length:Int)=((E.L ρ l).length:Int)
 simp
theorem I_nth:E.I ρ (.fn 1 (.pr l i))=(ints ρ l).getD (E.I ρ i).toNat 0:=getD_map _ _
theorem ints_app:ints ρ (.fn 3 (.pr x y))=ints ρ x++ints ρ y:=by
 show (E.L ρ x++E.L ρ y).map U.toI=_
 rw [List.map_append]; rfl
theorem ints_cons:ints ρ (.fn 23 (.pr a l))=E.I ρ a::ints ρ l:=rfl
theorem ints_nil:ints ρ (.fn 10 a)=[]:=rfl
theorem ints_28:ints ρ (.fn 28 (.pr a x))=ints ρ x:=rfl
theorem ints_24:ints ρ (.fn 24 (.pr (.pr (.int 1) x) (.pr lo (.pr hi m))))=((ints ρ x).take (E.I ρ hi).toNat).drop (E.I ρ lo).toNat:=by
 show (((E.L ρ x).take ((E.I ρ hi).toNat * 1)).drop ((E.I ρ lo).toNat * 1)).map U.toI=_
 rw [Nat.mul_one,Nat.mul_one,List.map_drop,List.map_take]; rfl
theorem I_29 (h0:0≤E.I ρ b) (h1:E.I ρ b≤E.I ρ a):E.I ρ (.fn 29 (.pr a b))=E.I ρ a - E.I ρ b:=by
 show (((E.I ρ a).toNat - (E.I ρ b).toNat:Nat):Int)=_
 omega
/-! contents -/
theorem con_len:((con (E.L ρ l)).length:Int)=E.I ρ (.fn 0 l):=by
 show (((E.L ρ l).map toIs).length:Int)=((E.L ρ l).length:Int)
 simp
theorem zAt_con (h:0≤E.I ρ z):zAt (con (E.L ρ l)) (E.I ρ z)=ints ρ (.fn 1 (.pr l z)):=by
 rw [zAt_nat _ h,con_getD]; rfl
theorem con_set:con (E.L ρ (.fn 2 (.pr l (.pr z v))))=(con (E.L ρ l)).set (E.I ρ z).toNat (ints ρ v):=by
 show con ((E.L ρ l).set (E.I ρ z).toNat (v.den ρ))=_
 unfold con
 rw [List.map_set]; rfl
theorem I_109:E.I ρ (.fn 109 l)=(((con (E.L ρ l)).flatten.length:Nat):Int):=rfl
theorem t109_nn:0≤E.I ρ (.fn 109 l):=Int.natCast_nonneg _
theorem zlen_le (h0:0≤E.I ρ z) (h1:E.I ρ z < E.I ρ (.fn 0 l)):E.I ρ (.fn 0 (.fn 1 (.pr l z)))≤E.I ρ (.fn 109 l):=by
 rw [← con_len] at h1
 rw [← ints_len,← zAt_con h0,I_109,zAt_nat _ h0]
 have hk:(E.I ρ z).toNat < (con (E.L ρ l)).length:=by omega
 have:∀ (C:List (List Int)) (k:Nat),k < C.length→(C.getD k []).length≤C.flatten.length:=by
  intro C
  induction C with
  | nil=>intro k h; simp at h
  | cons a C ih =>
   intro k h
   rw [List.flatten_cons,List.length_append]
   cases k with
   | zero=>simp
   | succ k=>have:=ih k (by simpa using h); simp only [List.getD_cons_succ]; omega
 exact_mod_cast this _ _ hk
theorem z106:(E.B ρ (.fn 106 (.pr l m))=true)=(okC (con (E.L ρ l)) (E.L ρ m)=true):=rfl
theorem z33:(E.B ρ (.fn 33 (.pr m id))=true)=((mfind (E.I ρ id) (E.L ρ m)).isSome=true):=rfl
theorem z118:(E.B ρ (.fn 118 (.pr x (.pr l (.pr z (.pr id i)))))=true)=(con (E.L ρ x)=insC (con (E.L ρ l)) (E.I ρ z) (E.I ρ id) (E.I ρ i).toNat):=by
 show ((con (E.L ρ x) == insC (con (E.L ρ l)) (E.I ρ z) (E.I ρ id) (E.I ρ i).toNat)=true)=_
 rw [beq_iff_eq]
theorem z102:(E.B ρ (.fn 102 (.pr x (.pr l (.pr z id))))=true)=(con (E.L ρ x)=putC (con (E.L ρ l)) (E.I ρ z) (E.I ρ id)):=by
 show ((con (E.L ρ x) == putC (con (E.L ρ l)) (E.I ρ z) (E.I ρ id))=true)=_
 rw [beq_iff_eq]
theorem z103:(E.B ρ (.fn 103 (.pr x (.pr l (.pr z id))))=true)=(con (E.L ρ x)=underC (con (E.L ρ l)) (E.I ρ z) (E.I ρ id)):=by
 show ((con (E.L ρ x) == underC (con (E.L ρ l)) (E.I ρ z) (E.I ρ id))=true)=_
 rw [beq_iff_eq]
theorem z104:(E.B ρ (.fn 104 (.pr x (.pr l id)))=true)=(con (E.L ρ x)=takeC (con (E.L ρ l)) (E.I ρ id)):=by
 show ((con (E.L ρ x) == takeC (con (E.L ρ l)) (E.I ρ id))=true)=_
 rw [beq_iff_eq]
theorem z105:(E.B ρ (.fn 105 (.pr x (.pr l (.pr z id))))=true)=(con (E.L ρ x)=putC (takeC (con (E.L ρ l)) (E.I ρ id)) (E.I ρ z) (E.I ρ id)):=by
 show ((con (E.L ρ x) == putC (takeC (con (E.L ρ l)) (E.I ρ id)) (E.I ρ z) (E.I ρ id))=true)=_
 rw [beq_iff_eq]
theorem z115:(E.B ρ (.fn 115 (.pr x (.pr l z)))=true)=(ints ρ x=zAt (con (E.L ρ l)) (E.I ρ z)):=by
 show ((toIs (x.den ρ) == zAt (con (E.L ρ l)) (E.I ρ z))=true)=_
 rw [beq_iff_eq]; rfl
theorem I_116:E.I ρ (.fn 116 (.pr x id))=idxOf (ints ρ x) (E.I ρ id):=rfl
theorem I_117:E.I ρ (.fn 117 (.pr x (.pr id n)))=idxOf ((ints ρ x).take (E.I ρ n).toNat) (E.I ρ id):=rfl
theorem I_107:E.I ρ (.fn 107 (.pr l id))=zoneOf (con (E.L ρ l)) (E.I ρ id):=rfl
theorem I_108 (h:0≤E.I ρ z):E.I ρ (.fn 108 (.pr l (.pr z id)))=E.I ρ (.fn 116 (.pr (.fn 1 (.pr l z)) id)):=by
 rw [I_116,← zAt_con h]; rfl
theorem I_108_congr {z':E} (h:E.I ρ z=E.I ρ z'):E.I ρ (.fn 108 (.pr l (.pr z id)))=E.I ρ (.fn 108 (.pr l (.pr z' id))):=by
 show idxOf (zAt (con (E.L ρ l)) (E.I ρ z)) (E.I ρ id)=idxOf (zAt (con (E.L ρ l)) (E.I ρ z')) (E.I ρ id)
 rw [h]
/-! an id is put somewhere -/
theorem t_ins (h:E.B ρ (.fn 106 (.pr l m))=true) (hid:¬ E.B ρ (.fn 33 (.pr m id))=true) (h1:1≤E.I ρ id) (h2:E.I ρ id≤4096) (z0:0≤E.I ρ z) (z1:E.I ρ z < E.I ρ (.fn 0 l)) (i0:0≤E.I ρ i) (i1:E.I ρ i≤E.I ρ (.fn 0 (.fn 1 (.pr l z)))) {v:E}
  (ev:v=.fn 28 (.pr y (.fn 3 (.pr (.fn 3 (.pr (.fn 24 (.pr (.pr (.int 1) (.fn 1 (.pr l z))) (.pr (.int 0) (.pr i i)))) (.fn 23 (.pr id (.fn 10 (.int 0)))))) (.fn 24 (.pr (.pr (.int 1) (.fn 1 (.pr l z))) (.pr i (.pr (.fn 0 (.fn 1 (.pr l z))) (.fn 22 (.fn 1 (.pr l z)))))))))) ) :
  E.B ρ (.fn 118 (.pr (.fn 2 (.pr l (.pr z v))) (.pr l (.pr z (.pr id i)))))=true∧E.B ρ (.fn 106 (.pr (.fn 2 (.pr l (.pr z v))) (.fn 34 (.pr m (.pr id z)))))=true∧E.I ρ (.fn 109 (.fn 2 (.pr l (.pr z v))))=E.I ρ (.fn 109 l) + 1:=by
 subst ev
 rw [← con_len] at z1
 rw [← ints_len] at i1
 have hx:ints ρ (.fn 28 (.pr y (.fn 3 (.pr (.fn 3 (.pr (.fn 24 (.pr (.pr (.int 1) (.fn 1 (.pr l z))) (.pr (.int 0) (.pr i i)))) (.fn 23 (.pr id (.fn 10 (.int 0)))))) (.fn 24 (.pr (.pr (.int 1) (.fn 1 (.pr l z))) (.pr i (.pr (.fn 0 (.fn 1 (.pr l z))) (.fn 22 (.fn 1 (.pr l z))))))))))) =
   (ints ρ (.fn 1 (.pr l z))).take (E.I ρ i).toNat++E.I ρ id::(ints ρ (.fn 1 (.pr l z))).drop (E.I ρ i).toNat:=by
  have e0:(E.I ρ (.int 0)).toNat=0:=rfl
  have hl:(E.I ρ (.fn 0 (.fn 1 (.pr l z)))).toNat=(ints ρ (.fn 1 (.pr l z))).length:=by rw [← ints_len]; omega
  rw [ints_28,ints_app,ints_app,ints_24,ints_24,ints_cons,ints_nil,e0,List.drop_zero,hl,List.take_length,List.append_assoc]; rfl
 have hc:con (E.L ρ (.fn 2 (.pr l (.pr z (.fn 28 (.pr y (.fn 3 (.pr (.fn 3 (.pr (.fn 24 (.pr (.pr (.int 1) (.fn 1 (.pr l z))) (.pr (.int 0) (.pr i i)))) (.fn 23 (.pr id (.fn 10 (.int 0)))))) (.fn 24 (.pr (.pr (.int 1) (.fn 1 (.pr l z))) (.pr i (.pr (.fn 0 (.fn 1 (.pr l z))) (.fn 22 (.fn 1 (.pr l z)))))))))))))))=insC (con (E.L ρ l)) (E.I ρ z) (E.I ρ id) (E.I ρ i).toNat:=by
  rw [con_set,hx,← zAt_con z0]; rfl
 have hi:(E.I ρ i).toNat≤(zAt (con (E.L ρ l)) (E.I ρ z)).length:=by rw [zAt_con z0]; omega
 refine ⟨by rw [z118,hc],?_,?_⟩
 ·rw [z106,hc]
  exact ok_ins (v:=z.den ρ) rfl (show okC (con (E.L ρ l)) (E.L ρ m)=true from h) hid h1 h2 z0 z1 hi
 ·rw [I_109,hc,I_109]
  have hz:(E.I ρ z).toNat < (con (E.L ρ l)).length:=by omega
  have he:(con (E.L ρ l)).getD (E.I ρ z).toNat []=(zAt (con (E.L ρ l)) (E.I ρ z)).take (E.I ρ i).toNat++(zAt (con (E.L ρ l)) (E.I ρ z)).drop (E.I ρ i).toNat:=by rw [List.take_append_drop,zAt_nat _ z0]
  have:=(set_flatten (E.I ρ id) _ _ _ _ hz he).length_eq
  unfold insC
  rw [this]; simp
/-! an id is found, and taken out -/
theorem t_find (h:E.B ρ (.fn 106 (.pr l m))=true) (hf:E.B ρ (.fn 33 (.pr m id))=true):0≤E.I ρ (.fn 32 (.pr m (.pr id (.int 0))))∧E.I ρ (.fn 32 (.pr m (.pr id (.int 0)))) < E.I ρ (.fn 0 l)∧E.I ρ (.fn 32 (.pr m (.pr id (.int 0))))=E.I ρ (.fn 107 (.pr l id)) ∧
  0≤E.I ρ (.fn 116 (.pr (.fn 1 (.pr l (.fn 32 (.pr m (.pr id (.int 0)))))) id))∧E.I ρ id∈ints ρ (.fn 1 (.pr l (.fn 32 (.pr m (.pr id (.int 0)))))):=by
 rw [z33] at hf
 obtain ⟨v,hv⟩:=Option.isSome_iff_exists.1 hf
 obtain ⟨h1,h2,h3,h4⟩:=ok_find (show okC (con (E.L ρ l)) (E.L ρ m)=true from h) hv
 have e:E.I ρ (.fn 32 (.pr m (.pr id (.int 0))))=v.toI:=by
  show ((mfind (E.I ρ id) (E.L ρ m)).getD _).toI=_
  rw [hv]; rfl
 have hm:E.I ρ id∈ints ρ (.fn 1 (.pr l (.fn 32 (.pr m (.pr id (.int 0)))))):=by
  rw [← zAt_con (by rw [e]; exact h2),e]; exact h4
 obtain ⟨k,g1,_⟩:=idxOf_some hm
 refine ⟨by rw [e]; exact h2,by rw [e,← con_len]; exact h3,by rw [e,I_107,h1],by rw [I_116,g1]; exact Int.natCast_nonneg _,hm⟩
theorem t_none (h:E.B ρ (.fn 106 (.pr l m))=true) (hf:¬ E.B ρ (.fn 33 (.pr m id))=true):E.I ρ (.fn 107 (.pr l id))=-1:=ok_none h hf
theorem t_range (h:E.B ρ (.fn 106 (.pr l m))=true) (hr:E.I ρ id < 1∨4096 < E.I ρ id):E.I ρ (.fn 107 (.pr l id))=-1:=by
 obtain ⟨g1,g2,g3⟩:=(okC_iff _ _).1 (show okC (con (E.L ρ l)) (E.L ρ m)=true from h)
 exact zoneF_none (E.I ρ id) _ 0 fun hm=>by have:=g3 _ hm; omega
theorem zlist_nodup (h:E.B ρ (.fn 106 (.pr l m))=true) (z0:0≤E.I ρ z) (z1:E.I ρ z < E.I ρ (.fn 0 l)):(ints ρ (.fn 1 (.pr l z))).Nodup:=by
 obtain ⟨g1,g2,g3⟩:=(okC_iff _ _).1 (show okC (con (E.L ρ l)) (E.L ρ m)=true from h)
 rw [← con_len] at z1
 rw [← zAt_con z0,zAt_nat _ z0]
 have hk:(E.I ρ z).toNat < (con (E.L ρ l)).length:=by omega
 rw [List.getD_eq_getElem?_getD,List.getElem?_eq_getElem hk]
 exact nodup_part g1 (List.getElem_mem hk)
theorem t_take {v k:E} (h:E.B ρ (.fn 106 (.pr l m))=true) (hf:E.B ρ (.fn 33 (.pr m id))=true) (ez:z=.fn 32 (.pr m (.pr id (.int 0)))) (hv:ints ρ v=(ints ρ (.fn 1 (.pr l z))).take (E.I ρ (.fn 116 (.pr (.fn 1 (.pr l z)) id))).toNat++(ints ρ (.fn 1 (.pr l z))).drop ((E.I ρ (.fn 116 (.pr (.fn 1 (.pr l z)) id))).toNat + 1)) :
  E.B ρ (.fn 104 (.pr (.fn 2 (.pr l (.pr z v))) (.pr l id)))=true∧E.B ρ (.fn 106 (.pr (.fn 2 (.pr l (.pr z v))) (.fn 35 (.pr m id))))=true∧E.I ρ (.fn 109 (.fn 2 (.pr l (.pr z v))))=E.I ρ (.fn 109 l) - 1∧¬ E.B ρ (.fn 33 (.pr (.fn 35 (.pr m id)) id))=true:=by
 obtain ⟨f1,f2,f3,f4,f5⟩:=t_find h hf
 subst ez
 obtain ⟨g1,g2,g3⟩:=(okC_iff _ _).1 (show okC (con (E.L ρ l)) (E.L ρ m)=true from h)
 have hn:=zlist_nodup h f1 f2
 have f2':=f2
 rw [← con_len] at f2'
 have hk:(E.I ρ (.fn 32 (.pr m (.pr id (.int 0))))).toNat < (con (E.L ρ l)).length:=by omega
 have hg:(con (E.L ρ l)).getD (E.I ρ (.fn 32 (.pr m (.pr id (.int 0))))).toNat []=ints ρ (.fn 1 (.pr l (.fn 32 (.pr m (.pr id (.int 0)))))):=by rw [← zAt_con f1,zAt_nat _ f1]
 rw [I_116,split_filter hn f5] at hv
 have hc:con (E.L ρ (.fn 2 (.pr l (.pr (.fn 32 (.pr m (.pr id (.int 0)))) v))))=takeC (con (E.L ρ l)) (E.I ρ id):=by
  rw [con_set,hv,takeC_set (E.I ρ id) _ _ g1 hk (by rw [hg]; exact f5),hg]
 have hm:E.I ρ id∈(con (E.L ρ l)).flatten:=by
  rw [List.getD_eq_getElem?_getD,List.getElem?_eq_getElem hk] at hg
  exact List.mem_flatten.2 ⟨_,List.getElem_mem hk,by
   have:(con (E.L ρ l))[(E.I ρ (.fn 32 (.pr m (.pr id (.int 0))))).toNat]=ints ρ (.fn 1 (.pr l (.fn 32 (.pr m (.pr id (.int 0)))))):=hg
   rw [this]; exact f5⟩
 have hok:=ok_take (id:=E.I ρ id) (show okC (con (E.L ρ l)) (E.L ρ m)=true from h)
 refine ⟨by rw [z104,hc],by rw [z106,hc]; exact hok,?_,?_⟩
 ·rw [I_109,hc,I_109,takeC_flatten]
  have:=filter_len g1 hm
  omega
 ·rw [z33]
  intro hs
  have:=(ok_keys hok (E.I ρ id)).1 hs
  rw [takeC_flatten] at this
  simpa using (List.mem_filter.1 this).2
theorem ints_cut2 (h0:0≤E.I ρ k) (hj:E.I ρ j=E.I ρ k + 1):ints ρ (.fn 28 (.pr y (.fn 3 (.pr (.fn 24 (.pr (.pr (.int 1) x) (.pr (.int 0) (.pr k k)))) (.fn 24 (.pr (.pr (.int 1) x) (.pr j (.pr (.fn 0 x) (.fn 22 x)))))))))=(ints ρ x).take (E.I ρ k).toNat++(ints ρ x).drop ((E.I ρ k).toNat + 1):=by
 have e0:(E.I ρ (.int 0)).toNat=0:=rfl
 have hl:(E.I ρ (.fn 0 x)).toNat=(ints ρ x).length:=by rw [← ints_len]; omega
 have ej:(E.I ρ j).toNat=(E.I ρ k).toNat + 1:=by omega
 rw [ints_28,ints_app,ints_24,ints_24,e0,List.drop_zero,hl,List.take_length,ej]
theorem ints_cut1 (h0:0≤E.I ρ k) (hk:E.I ρ (.fn 0 x)≤E.I ρ k + 1):ints ρ (.fn 24 (.pr (.pr (.int 1) x) (.pr (.int 0) (.pr k k))))=(ints ρ x).take (E.I ρ k).toNat++(ints ρ x).drop ((E.I ρ k).toNat + 1):=by
 have e0:(E.I ρ (.int 0)).toNat=0:=rfl
 rw [← ints_len] at hk
 rw [ints_24,e0,List.drop_zero,List.drop_of_length_le (i:=(E.I ρ k).toNat + 1) (by omega),List.append_nil]
/-! the calls -/
theorem t102_of (h:E.B ρ (.fn 118 (.pr x (.pr l (.pr z (.pr id (.fn 0 (.fn 1 (.pr l z))))))))=true) (z0:0≤E.I ρ z):E.B ρ (.fn 102 (.pr x (.pr l (.pr z id))))=true:=by
 rw [z118] at h
 rw [z102,h]
 unfold insC putC
 have hl:(E.I ρ (.fn 0 (.fn 1 (.pr l z)))).toNat=(zAt (con (E.L ρ l)) (E.I ρ z)).length:=by rw [← ints_len,zAt_con z0]; omega
 rw [hl,List.take_length,List.drop_length]
theorem t103_of (h:E.B ρ (.fn 118 (.pr x (.pr l (.pr z (.pr id (.int 0))))))=true):E.B ρ (.fn 103 (.pr x (.pr l (.pr z id))))=true:=by
 rw [z118] at h
 rw [z103,h]; rfl
theorem t105_of (h:E.B ρ (.fn 104 (.pr x (.pr l id)))=true) (h':E.B ρ (.fn 118 (.pr y (.pr x (.pr z (.pr id (.fn 0 (.fn 1 (.pr x z))))))))=true) (z0:0≤E.I ρ z):E.B ρ (.fn 105 (.pr y (.pr l (.pr z id))))=true:=by
 have h2:=t102_of h' z0
 rw [z104] at h
 rw [z102,h] at h2
 rw [z105,h2]
theorem t115_self (h:0≤E.I ρ z):E.B ρ (.fn 115 (.pr (.fn 1 (.pr l z)) (.pr l z)))=true:=by rw [z115,zAt_con h]
theorem t115_nil (h:0≤E.I ρ z) (hl:E.I ρ (.fn 0 (.fn 1 (.pr l z)))=0):E.B ρ (.fn 115 (.pr (.fn 10 a) (.pr l z)))=true:=by
 rw [← ints_len] at hl
 rw [z115,zAt_con h,ints_nil]
 exact (List.length_eq_zero_iff.1 (by omega)).symm
theorem t115_len (h:E.B ρ (.fn 115 (.pr x (.pr l z)))=true) (h0:0≤E.I ρ z):E.I ρ (.fn 0 x)=E.I ρ (.fn 0 (.fn 1 (.pr l z)))∧E.I ρ (.fn 1 (.pr x i))=E.I ρ (.fn 1 (.pr (.fn 1 (.pr l z)) i)):=by
 rw [z115,zAt_con h0] at h
 rw [← ints_len,← ints_len,I_nth,I_nth,h]; exact ⟨rfl,rfl⟩
theorem nth_congr (h:E.I ρ i=E.I ρ j):E.I ρ (.fn 1 (.pr l i))=E.I ρ (.fn 1 (.pr l j)):=by rw [I_nth,I_nth,h]
/-! where a number is in a list -/
theorem t117_zero (h:E.I ρ n≤0):E.I ρ (.fn 117 (.pr x (.pr id n)))=-1:=by
 have e:(E.I ρ n).toNat=0:=by omega
 rw [I_117,e,List.take_zero]; rfl
theorem t117_end (h:E.I ρ (.fn 117 (.pr x (.pr id n)))=-1) (hn:E.I ρ (.fn 0 x)≤E.I ρ n):E.I ρ (.fn 116 (.pr x id))=-1:=by
 rw [← ints_len] at hn
 rw [I_117,List.take_of_length_le (by omega)] at h
 rw [I_116,h]
theorem idxOf_app:∀ (l:List Int) (v:Int) (r:List Int) (id:Int),idxOf l id=-1→idxOf (l++v::r) id=if v=id then (l.length:Int) else if idxOf r id=-1 then -1 else idxOf r id + l.length + 1
 | [],v,r,id,_=>by
  rw [List.nil_append,idxOf_cons]; split
  ·rfl
  ·split <;> simp
 | x::l,v,r,id,h=>by
  rw [idxOf_cons] at h
  by_cases e:x=id
  ·rw [if_pos e] at h; omega
  ·rw [if_neg e] at h
   have hl:idxOf l id=-1:=by
    by_cases h2:idxOf l id=-1
    ·exact h2
    ·rw [if_neg h2] at h
     by_cases hm:id∈l
     ·obtain ⟨k,e1,_⟩:=idxOf_some hm; omega
     ·exact idxOf_none hm
   rw [List.cons_append,idxOf_cons,if_neg e,idxOf_app l v r id hl]
   have hr:idxOf r id=-1∨0≤idxOf r id:=by
    by_cases hm:id∈r
    ·obtain ⟨k,e1,_⟩:=idxOf_some hm; omega
    ·exact .inl (idxOf_none hm)
   simp only [List.length_cons]
   split
   ·rw [if_neg (by omega)]; omega
   ·split
    ·rw [if_pos rfl]
    ·rw [if_neg (by omega)]; omega
theorem t117_step (h:E.I ρ (.fn 117 (.pr x (.pr id i)))=-1) (h0:0≤E.I ρ i) (h1:E.I ρ i < E.I ρ (.fn 0 x)) (hn:E.I ρ n=E.I ρ i + 1) :
  (E.I ρ (.fn 1 (.pr x i))=E.I ρ id→E.I ρ (.fn 116 (.pr x id))=E.I ρ i)∧(¬ E.I ρ (.fn 1 (.pr x i))=E.I ρ id→E.I ρ (.fn 117 (.pr x (.pr id n)))=-1):=by
 rw [← ints_len] at h1
 have hk:(E.I ρ i).toNat < (ints ρ x).length:=by omega
 have hg:(ints ρ x).getD (E.I ρ i).toNat 0=(ints ρ x)[(E.I ρ i).toNat]:=by rw [List.getD_eq_getElem?_getD,List.getElem?_eq_getElem hk]; rfl
 have hlt:((ints ρ x).take (E.I ρ i).toNat).length=(E.I ρ i).toNat:=by rw [List.length_take]; omega
 rw [I_117] at h
 rw [I_nth,hg]
 refine ⟨fun e=>?_,fun e=>?_⟩
 ·have hs:ints ρ x=(ints ρ x).take (E.I ρ i).toNat++(ints ρ x)[(E.I ρ i).toNat]::(ints ρ x).drop ((E.I ρ i).toNat + 1):=by
   rw [← List.drop_eq_getElem_cons hk,List.take_append_drop]
  rw [I_116,hs,idxOf_app _ _ _ _ h,if_pos e,hlt]; omega
 ·have en:(E.I ρ n).toNat=(E.I ρ i).toNat + 1:=by omega
  have ht:(ints ρ x).take ((E.I ρ i).toNat + 1)=(ints ρ x).take (E.I ρ i).toNat++[(ints ρ x)[(E.I ρ i).toNat]]:=by
   rw [List.take_add_one,List.getElem?_eq_getElem hk]; rfl
  rw [I_117,en,ht,idxOf_app _ _ _ _ h,if_neg e]; rfl
theorem nnI (ρ:Env) (a:E):0≤E.I ρ (.fn 9 a):=Int.natCast_nonneg _
theorem take_succ_getD (l:List Int) (n:Nat) (h:n < l.length):l.take (n + 1)=l.take n++[l.getD n 0]:=by
 rw [List.take_add_one,List.getD_eq_getElem?_getD,List.getElem?_eq_getElem h]; rfl
theorem z114:(E.B ρ (.fn 114 (.pr x (.pr y i)))=true)=((ints ρ x).take (E.I ρ i).toNat=(ints ρ y).take (E.I ρ i).toNat):=by
 show (((toIs (x.den ρ)).take (E.I ρ i).toNat == (toIs (y.den ρ)).take (E.I ρ i).toNat)=true)=_
 rw [beq_iff_eq]; rfl
/-! equal lists -/
theorem t114_zero (h:E.I ρ i≤0):E.B ρ (.fn 114 (.pr x (.pr y i)))=true:=by
 have e:(E.I ρ i).toNat=0:=by omega
 rw [z114,e]; simp
theorem t114_eq (h:E.B ρ (.fn 114 (.pr x (.pr y i)))=true) (e:E.I ρ n=E.I ρ i):E.B ρ (.fn 114 (.pr x (.pr y n)))=true:=by
 rw [z114] at *; rw [e]; exact h
theorem t114_step (h:E.B ρ (.fn 114 (.pr x (.pr y i)))=true) (h0:0≤E.I ρ i) (h1:E.I ρ i < E.I ρ (.fn 0 x)) (h2:E.I ρ (.fn 0 y)=E.I ρ (.fn 0 x)) (hn:E.I ρ n=E.I ρ i + 1) (hv:E.I ρ (.fn 1 (.pr x i))=E.I ρ (.fn 1 (.pr y i))):E.B ρ (.fn 114 (.pr x (.pr y n)))=true:=by
 have en:(E.I ρ n).toNat=(E.I ρ i).toNat + 1:=by omega
 rw [← ints_len] at h1
 rw [← ints_len,← ints_len] at h2
 rw [z114] at *
 rw [I_nth,I_nth] at hv
 rw [en,take_succ_getD _ _ (by omega),take_succ_getD _ _ (by omega),h,hv]
theorem t114_fail (h0:0≤E.I ρ i) (h1:E.I ρ i < E.I ρ (.fn 0 x)) (h2:E.I ρ (.fn 0 y)=E.I ρ (.fn 0 x)) (hn:E.I ρ i < E.I ρ n) (hv:¬ E.I ρ (.fn 1 (.pr x i))=E.I ρ (.fn 1 (.pr y i))):¬ E.B ρ (.fn 114 (.pr x (.pr y n)))=true:=by
 rw [← ints_len] at h1
 rw [← ints_len,← ints_len] at h2
 rw [z114]
 intro h
 apply hv
 rw [I_nth,I_nth]
 have e:=congrArg (fun l=>l[(E.I ρ i).toNat]?) h
 simp only [List.getElem?_take] at e
 rw [if_pos (by omega),if_pos (by omega)] at e
 rw [List.getD_eq_getElem?_getD,List.getD_eq_getElem?_getD,e]
end
end Go.SX

set_option linter.unusedVariables false
set_option linter.unusedSimpArgs false
namespace Go.SX
/-! ### Zones: what the theorem's loops ask -/
theorem getD_lt {α:Type} (l:List α) (d:α) {k:Nat} (h:k < l.length):l.getD k d=l[k]:=by rw [List.getD_eq_getElem?_getD,List.getElem?_eq_getElem h]; rfl
theorem idsC_step (C:List (List Int)) (j k:Nat) (h:k < (C.getD j []).length):idsC C j (k + 1)=idsC C j k++[(C.getD j []).getD k 0]:=by
 unfold idsC
 rw [take_succ_getD _ _ h,List.append_assoc]
theorem idsC_next (C:List (List Int)) (j:Nat) (h:j < C.length):idsC C j (C.getD j []).length=idsC C (j + 1) 0:=by
 unfold idsC
 rw [List.take_length,List.take_zero,List.append_nil,List.take_add_one,List.getElem?_eq_getElem h,getD_lt _ _ h,List.flatten_append]
 simp
theorem idsC_pre (C:List (List Int)) (j k:Nat) (h:j < C.length):∃ r,C.flatten=idsC C j k++r:=by
 refine ⟨(C.getD j []).drop k++(C.drop (j + 1)).flatten,?_⟩
 unfold idsC
 rw [List.append_assoc,← List.append_assoc (List.take k _),List.take_append_drop,getD_lt _ _ h]
 have:C.flatten=(C.take j).flatten++(C.drop j).flatten:=by rw [← List.flatten_append,List.take_append_drop]
 rw [this,List.drop_eq_getElem_cons h,List.flatten_cons]
theorem idxOf_getD {l:List Int} (hn:l.Nodup) {k:Nat} (h:k < l.length):idxOf l (l.getD k 0)=(k:Int):=by
 rw [getD_lt _ _ h]
 obtain ⟨q,e1,e2,e3,_⟩:=idxOf_some (List.getElem_mem h)
 rw [getD_lt _ _ e2] at e3
 have e:q=k:=by
  have hp:=List.pairwise_iff_getElem.1 hn
  rcases Nat.lt_trichotomy q k with h' | h' | h'
  ·exact absurd e3 (hp q k e2 h h')
  ·exact h'
  ·exact absurd e3.symm (hp k q h e2 h')
 rw [e1,e]
theorem chgC_iff (C D:List (List Int)) (id a b e:Int):chgC C D id a b e=true↔∀ i,i < D.length→(C.getD i []).filter (fun x=>x != id)=(D.getD i []).filter (fun x=>x != id)∧((e=0∧((i:Int)=a∨(i:Int)=b))∨C.getD i []=D.getD i []):=by
 unfold chgC
 simp only [List.all_eq_true,List.mem_range,Bool.and_eq_true,Bool.or_eq_true,beq_iff_eq]
theorem chg_same (C:List (List Int)) (id a b e:Int):chgC C C id a b e=true:=by
 rw [chgC_iff]; exact fun i _=>⟨rfl,.inr rfl⟩
theorem getD_set {C:List (List Int)} {k i:Nat} {v:List Int} (h:k < C.length):(C.set k v).getD i []=if i=k then v else C.getD i []:=by
 simp only [List.getD_eq_getElem?_getD,List.getElem?_set]
 by_cases e:k=i
 ·subst e; simp [h]
 ·rw [if_neg e,if_neg (fun h=>e h.symm)]
theorem chg_ins {C:List (List Int)} {id a z:Int} {p q:List Int} (z0:0≤z) (z1:z < C.length) (h:C.getD z.toNat []=p++q):chgC (C.set z.toNat (p++id::q)) C id a z 0=true:=by
 rw [chgC_iff]
 intro i hi
 have hz:z.toNat < C.length:=by omega
 rw [getD_set hz]
 by_cases e:i=z.toNat
 ·subst e
  rw [if_pos rfl]
  refine ⟨?_,.inl ⟨rfl,.inr (by omega)⟩⟩
  rw [h]; simp
 ·rw [if_neg e]; exact ⟨rfl,.inr rfl⟩
theorem takeC_getD (C:List (List Int)) (id:Int) (i:Nat):(takeC C id).getD i []=(C.getD i []).filter fun x=>x != id:=by
 unfold takeC
 simp only [List.getD_eq_getElem?_getD,List.getElem?_map]
 cases C[i]? <;> rfl
theorem not_mem_other {C:List (List Int)} (hn:C.flatten.Nodup) {id:Int} {i:Nat} (hi:i < C.length) (h:¬ (i:Int)=zoneOf C id):id ∉ C.getD i []:=by
 intro hm
 have:=zoneF_mem id C 0 hn i hi hm
 rw [Nat.zero_add] at this
 exact h this.symm
theorem filter_id {l:List Int} {id:Int} (h:id ∉ l):(l.filter fun x=>x != id)=l:=by
 rw [List.filter_eq_self]
 intro y hy
 have:y≠id:=fun e=>h (e ▸ hy)
 simpa using this
theorem chg_take {C:List (List Int)} (hn:C.flatten.Nodup) (id b:Int):chgC (takeC C id) C id (zoneOf C id) b 0=true:=by
 rw [chgC_iff]
 intro i hi
 rw [takeC_getD]
 refine ⟨by simp [List.filter_filter],?_⟩
 by_cases e:(i:Int)=zoneOf C id
 ·exact .inl ⟨rfl,.inl e⟩
 ·exact .inr (filter_id (not_mem_other hn hi e))
theorem takeC_len (C:List (List Int)) (id:Int):(takeC C id).length=C.length:=by unfold takeC; rw [List.length_map]
theorem chg_move {C:List (List Int)} (hn:C.flatten.Nodup) {id z:Int} (z0:0≤z) (z1:z < C.length):chgC (putC (takeC C id) z id) C id (zoneOf C id) z 0=true:=by
 rw [chgC_iff]
 intro i hi
 have hz:z.toNat < (takeC C id).length:=by rw [takeC_len]; omega
 unfold putC
 rw [getD_set hz]
 by_cases e:i=z.toNat
 ·subst e
  rw [if_pos rfl,zAt_nat _ z0,takeC_getD]
  refine ⟨by simp [List.filter_append,List.filter_filter],.inl ⟨rfl,.inr (by omega)⟩⟩
 ·rw [if_neg e,takeC_getD]
  refine ⟨by simp [List.filter_filter],?_⟩
  by_cases e:(i:Int)=zoneOf C id
  ·exact .inl ⟨rfl,.inl e⟩
  ·exact .inr (filter_id (not_mem_other hn hi e))
/-- the id on the top of a zone is moved to it -/
theorem move_top {C : List (List Int)} (hn : C.flatten.Nodup) {id : Int} {j : Nat} (hj : j < C.length) {r : List Int} (h : C.getD j [] = r ++ [id]) : putC (takeC C id) j id = C := by
  have hm : id ∈ C.getD j [] := by rw [h]; simp
  have hl : (C.getD j []).Nodup := by rw [getD_lt _ _ hj]; exact nodup_part hn (List.getElem_mem hj)
  have hr : id ∉ r := by
    rw [h, List.nodup_append] at hl
    exact fun hr => hl.2.2 id hr id (by simp) rfl
  have e : takeC C id = C.set j r := by
    rw [takeC_set id C j hn hj hm, h, List.filter_append, filter_id hr]
    simp
  unfold putC
  have e2 : zAt (takeC C id) (j : Int) = r := by
    rw [zAt_nat _ (by omega), e, Int.toNat_natCast, getD_set hj, if_pos rfl]
  rw [e2, e, Int.toNat_natCast, List.set_set, ← h, getD_lt _ _ hj, List.set_getElem_self]
section
variable {ρ : Env} {x y l A a b k u i j p q n m r o c d w v z id s e lo hi : E}
theorem z110:(E.B ρ (.fn 110 (.pr x (.pr l n)))=true)=((con (E.L ρ x)).take (E.I ρ n).toNat=(con (E.L ρ l)).take (E.I ρ n).toNat):=by
 show (((con (E.L ρ x)).take (E.I ρ n).toNat == (con (E.L ρ l)).take (E.I ρ n).toNat)=true)=_
 rw [beq_iff_eq]
theorem z111:(E.B ρ (.fn 111 (.pr x (.pr y (.pr id (.pr a (.pr b e))))))=true)=(chgC (con (E.L ρ x)) (con (E.L ρ y)) (E.I ρ id) (E.I ρ a) (E.I ρ b) (E.I ρ e)=true):=rfl
theorem z112:(E.B ρ (.fn 112 (.pr s (.pr l (.pr j k))))=true)=(((pairsU (E.L ρ s)).map Prod.fst).Nodup∧(pairsU (E.L ρ s)).map Prod.fst=idsC (con (E.L ρ l)) (E.I ρ j).toNat (E.I ρ k).toNat):=by
 show ((nodupB ((pairsU (E.L ρ s)).map Prod.fst) && (pairsU (E.L ρ s)).map Prod.fst == idsC (con (E.L ρ l)) (E.I ρ j).toNat (E.I ρ k).toNat)=true)=_
 rw [Bool.and_eq_true,nodupB_iff,beq_iff_eq]
theorem z113:(E.B ρ (.fn 113 (.pr x (.pr l (.pr id n))))=true)=(ints ρ x=((ints ρ l).take (E.I ρ n).toNat).filter fun v=>v != E.I ρ id):=by
 show ((toIs (x.den ρ) == ((toIs (l.den ρ)).take (E.I ρ n).toNat).filter fun v=>v != E.I ρ id)=true)=_
 rw [beq_iff_eq]; rfl
/-! lists before a call -/
theorem t110_zero (h:E.I ρ n≤0):E.B ρ (.fn 110 (.pr x (.pr l n)))=true:=by
 have e:(E.I ρ n).toNat=0:=by omega
 rw [z110,e]; simp
theorem t110_eq (h:E.B ρ (.fn 110 (.pr x (.pr l i)))=true) (e:E.I ρ n=E.I ρ i):E.B ρ (.fn 110 (.pr x (.pr l n)))=true:=by
 rw [z110] at *; rw [e]; exact h
theorem take_set_succ {α:Type} (C D:List α) (k:Nat) (v:α) (h:C.take k=D.take k) (hC:k < C.length) (hD:k < D.length) (hv:v=D[k]):(C.set k v).take (k + 1)=D.take (k + 1):=by
 have hC':k < (C.set k v).length:=by rw [List.length_set]; exact hC
 rw [List.take_add_one,List.take_add_one,List.take_set_of_le (Nat.le_refl k),h,List.getElem?_eq_getElem hC',List.getElem?_eq_getElem hD,List.getElem_set_self,hv]
theorem t110_step (h:E.B ρ (.fn 110 (.pr x (.pr l i)))=true) (h0:0≤E.I ρ i) (hx:E.I ρ i < E.I ρ (.fn 0 x)) (hl:E.I ρ i < E.I ρ (.fn 0 l)) (hn:E.I ρ n=E.I ρ i + 1) (hv:ints ρ v=zAt (con (E.L ρ l)) (E.I ρ i)):E.B ρ (.fn 110 (.pr (.fn 2 (.pr x (.pr i v))) (.pr l n)))=true:=by
 have en:(E.I ρ n).toNat=(E.I ρ i).toNat + 1:=by omega
 rw [← con_len] at hx hl
 rw [z110] at *
 rw [con_set,en]
 exact take_set_succ _ _ _ _ h (by omega) (by omega) (by rw [hv,zAt_nat _ h0,getD_lt _ _ (by omega)])
theorem t110_stepV (h:E.B ρ (.fn 110 (.pr x (.pr l i)))=true) (hy:E.B ρ (.fn 115 (.pr y (.pr l i)))=true) (h0:0≤E.I ρ i) (hx:E.I ρ i < E.I ρ (.fn 0 x)) (hl:E.I ρ i < E.I ρ (.fn 0 l)) (hn:E.I ρ n=E.I ρ i + 1):E.B ρ (.fn 110 (.pr (.fn 2 (.pr x (.pr i y))) (.pr l n)))=true:=by
 rw [z115] at hy
 exact t110_step h h0 hx hl hn hy
theorem t110_step28 (h:E.B ρ (.fn 110 (.pr x (.pr l i)))=true) (hy:E.B ρ (.fn 115 (.pr y (.pr l i)))=true) (h0:0≤E.I ρ i) (hx:E.I ρ i < E.I ρ (.fn 0 x)) (hl:E.I ρ i < E.I ρ (.fn 0 l)) (hn:E.I ρ n=E.I ρ i + 1):E.B ρ (.fn 110 (.pr (.fn 2 (.pr x (.pr i (.fn 28 (.pr a y))))) (.pr l n)))=true:=by
 rw [z115] at hy
 exact t110_step h h0 hx hl hn (by rw [ints_28]; exact hy)
theorem t110_stepN (h:E.B ρ (.fn 110 (.pr x (.pr l i)))=true) (hy:E.B ρ (.fn 115 (.pr (.fn 10 b) (.pr l i)))=true) (h0:0≤E.I ρ i) (hx:E.I ρ i < E.I ρ (.fn 0 x)) (hl:E.I ρ i < E.I ρ (.fn 0 l)) (hn:E.I ρ n=E.I ρ i + 1):E.B ρ (.fn 110 (.pr (.fn 2 (.pr x (.pr i (.fn 30 a)))) (.pr l n)))=true:=by
 rw [z115] at hy
 exact t110_step h h0 hx hl hn (by rw [← hy]; rfl)
theorem t110_con (h:E.B ρ (.fn 110 (.pr x (.pr l n)))=true) (hx:E.I ρ (.fn 0 x)=E.I ρ n) (hl:E.I ρ (.fn 0 l)=E.I ρ n):con (E.L ρ x)=con (E.L ρ l):=by
 rw [← con_len] at hx hl
 rw [z110,List.take_of_length_le (by omega),List.take_of_length_le (by omega)] at h
 exact h
theorem t109_con (h:con (E.L ρ x)=con (E.L ρ l)):E.I ρ (.fn 109 x)=E.I ρ (.fn 109 l):=by rw [I_109,I_109,h]
/-! what has changed -/
theorem ok106 (h:E.B ρ (.fn 106 (.pr l m))=true):(con (E.L ρ l)).flatten.Nodup:=((okC_iff _ _).1 (show okC (con (E.L ρ l)) (E.L ρ m)=true from h)).1
theorem t111_same (h:con (E.L ρ y)=con (E.L ρ x)):E.B ρ (.fn 111 (.pr x (.pr y (.pr id (.pr a (.pr b e))))))=true:=by
 rw [z111,h]; exact chg_same _ _ _ _ _
theorem t111_102 (hc:con (E.L ρ y)=con (E.L ρ l)) (h:E.B ρ (.fn 102 (.pr x (.pr l (.pr z id))))=true) (z0:0≤E.I ρ z) (z1:E.I ρ z < E.I ρ (.fn 0 l)) (he:E.I ρ e=0):E.B ρ (.fn 111 (.pr x (.pr y (.pr id (.pr a (.pr z e))))))=true:=by
 rw [← con_len] at z1
 rw [z102] at h
 rw [z111,hc,h,he]
 exact chg_ins (q:=[]) z0 z1 (by rw [List.append_nil,zAt_nat _ z0])
theorem t111_103 (hc:con (E.L ρ y)=con (E.L ρ l)) (h:E.B ρ (.fn 103 (.pr x (.pr l (.pr z id))))=true) (z0:0≤E.I ρ z) (z1:E.I ρ z < E.I ρ (.fn 0 l)) (he:E.I ρ e=0):E.B ρ (.fn 111 (.pr x (.pr y (.pr id (.pr a (.pr z e))))))=true:=by
 rw [← con_len] at z1
 rw [z103] at h
 rw [z111,hc,h,he]
 exact chg_ins (p:=[]) z0 z1 (by rw [List.nil_append,zAt_nat _ z0])
theorem t111_105 (hc:con (E.L ρ y)=con (E.L ρ l)) (ho:E.B ρ (.fn 106 (.pr l m))=true) (h:E.B ρ (.fn 105 (.pr x (.pr l (.pr z id))))=true) (z0:0≤E.I ρ z) (z1:E.I ρ z < E.I ρ (.fn 0 l)) (he:E.I ρ e=0) (ha:E.I ρ a=E.I ρ (.fn 107 (.pr l id))):E.B ρ (.fn 111 (.pr x (.pr y (.pr id (.pr a (.pr z e))))))=true:=by
 rw [← con_len] at z1
 rw [z105] at h
 rw [z111,hc,h,he,ha,I_107]
 exact chg_move (ok106 ho) z0 z1
theorem t111_104 (hc:con (E.L ρ y)=con (E.L ρ l)) (ho:E.B ρ (.fn 106 (.pr l m))=true) (h:E.B ρ (.fn 104 (.pr x (.pr l id)))=true) (he:E.I ρ e=0) (ha:E.I ρ a=E.I ρ (.fn 107 (.pr l id))):E.B ρ (.fn 111 (.pr x (.pr y (.pr id (.pr a (.pr b e))))))=true:=by
 rw [z104] at h
 rw [z111,hc,h,he,ha,I_107]
 exact chg_take (ok106 ho) _ _
theorem t111_con (h:E.B ρ (.fn 111 (.pr l (.pr y (.pr id (.pr a (.pr b e))))))=true) (hc:con (E.L ρ x)=con (E.L ρ l)):E.B ρ (.fn 111 (.pr x (.pr y (.pr id (.pr a (.pr b e))))))=true:=by
 rw [z111] at *; rw [hc]; exact h
/-! what was seen -/
theorem t112_zero (hj:E.I ρ j≤0) (hk:E.I ρ k≤0):E.B ρ (.fn 112 (.pr (.fn 10 a) (.pr l (.pr j k))))=true:=by
 have e1:(E.I ρ j).toNat=0:=by omega
 have e2:(E.I ρ k).toNat=0:=by omega
 rw [z112,e1,e2]; exact ⟨List.nodup_nil,rfl⟩
theorem t112_eq (h:E.B ρ (.fn 112 (.pr s (.pr l (.pr j i))))=true) (e:E.I ρ n=E.I ρ i):E.B ρ (.fn 112 (.pr s (.pr l (.pr j n))))=true:=by
 rw [z112] at *; rw [e]; exact h
theorem t112_con (h:E.B ρ (.fn 112 (.pr s (.pr l (.pr j i))))=true) (hc:con (E.L ρ x)=con (E.L ρ l)):E.B ρ (.fn 112 (.pr s (.pr x (.pr j i))))=true:=by
 rw [z112] at *; rw [hc]; exact h
theorem t115_getD (h:E.B ρ (.fn 115 (.pr x (.pr l j)))=true) (j0:0≤E.I ρ j):ints ρ x=(con (E.L ρ l)).getD (E.I ρ j).toNat []:=by
 rw [z115,zAt_nat _ j0] at h; exact h
theorem t112_next (h:E.B ρ (.fn 112 (.pr s (.pr l (.pr j i))))=true) (hx:E.B ρ (.fn 115 (.pr x (.pr l j)))=true) (j0:0≤E.I ρ j) (j1:E.I ρ j < E.I ρ (.fn 0 l)) (hi:E.I ρ i=E.I ρ (.fn 0 x)) (hn:E.I ρ n=E.I ρ j + 1) (hk:E.I ρ k=0):E.B ρ (.fn 112 (.pr s (.pr l (.pr n k))))=true:=by
 have hx:=t115_getD hx j0
 rw [← con_len] at j1
 rw [← ints_len,hx] at hi
 have e1:(E.I ρ i).toNat=((con (E.L ρ l)).getD (E.I ρ j).toNat []).length:=by omega
 have e2:(E.I ρ n).toNat=(E.I ρ j).toNat + 1:=by omega
 have e3:(E.I ρ k).toNat=0:=by omega
 rw [z112,e1,idsC_next _ _ (by omega)] at h
 rw [z112,e2,e3]; exact h
/-- the id at a place was not seen ahead of it -/
theorem t112_new (ho : E.B ρ (.fn 106 (.pr l m)) = true) (h : E.B ρ (.fn 112 (.pr s (.pr l (.pr j i)))) = true) (hx : E.B ρ (.fn 115 (.pr x (.pr l j))) = true) (j0 : 0 ≤ E.I ρ j) (j1 : E.I ρ j < E.I ρ (.fn 0 l)) (i0 : 0 ≤ E.I ρ i) (i1 : E.I ρ i < E.I ρ (.fn 0 x)) :
    E.I ρ (.fn 1 (.pr x i)) ∉ (pairsU (E.L ρ s)).map Prod.fst := by
  have hx' := t115_getD hx j0
  rw [← con_len] at j1
  rw [← ints_len, hx'] at i1
  rw [z112] at h
  have hp := (idsC_step (con (E.L ρ l)) (E.I ρ j).toNat (E.I ρ i).toNat (by omega))
  obtain ⟨r, hr⟩ := idsC_pre (con (E.L ρ l)) (E.I ρ j).toNat ((E.I ρ i).toNat + 1) (by omega)
  have hn := ok106 ho
  rw [hr, hp, List.nodup_append, List.nodup_append] at hn
  rw [h.2, I_nth, hx']
  exact fun hm => hn.1.2.2 _ hm _ (by simp) rfl
theorem t112_step (ho:E.B ρ (.fn 106 (.pr l m))=true) (h:E.B ρ (.fn 112 (.pr s (.pr l (.pr j i))))=true) (hx:E.B ρ (.fn 115 (.pr x (.pr l j)))=true) (j0:0≤E.I ρ j) (j1:E.I ρ j < E.I ρ (.fn 0 l)) (i0:0≤E.I ρ i) (i1:E.I ρ i < E.I ρ (.fn 0 x)) (hn:E.I ρ n=E.I ρ i + 1) :
  E.B ρ (.fn 112 (.pr (.fn 34 (.pr s (.pr (.fn 1 (.pr x i)) v))) (.pr l (.pr j n))))=true:=by
 have hnew:=t112_new ho h hx j0 j1 i0 i1
 have hx':=t115_getD hx j0
 rw [← ints_len,hx'] at i1
 have en:(E.I ρ n).toNat=(E.I ρ i).toNat + 1:=by omega
 have ek:(pairsU (E.L ρ (.fn 34 (.pr s (.pr (.fn 1 (.pr x i)) v))))).map Prod.fst=(pairsU (E.L ρ s)).map Prod.fst++[E.I ρ (.fn 1 (.pr x i))]:=by
  show (pairsU (mput (E.I ρ (.fn 1 (.pr x i))) (v.den ρ) (E.L ρ s))).map Prod.fst=_
  rw [pairs_mput _ _ _ hnew]; simp
 rw [z112] at h
 rw [z112,ek,en,idsC_step _ _ _ (by omega),h.2]
 refine ⟨?_,by rw [I_nth,hx']⟩
 rw [← h.2,List.nodup_append]
 refine ⟨h.1,by simp,?_⟩
 intro a ha b hb
 rw [List.mem_singleton] at hb
 subst hb
 exact fun e=>hnew (e ▸ ha)
theorem t112_unseen (ho:E.B ρ (.fn 106 (.pr l m))=true) (h:E.B ρ (.fn 112 (.pr s (.pr l (.pr j i))))=true) (hx:E.B ρ (.fn 115 (.pr x (.pr l j)))=true) (j0:0≤E.I ρ j) (j1:E.I ρ j < E.I ρ (.fn 0 l)) (i0:0≤E.I ρ i) (i1:E.I ρ i < E.I ρ (.fn 0 x)) :
  ¬ E.B ρ (.fn 32 (.pr s (.pr (.fn 1 (.pr x i)) (.bool false))))=true:=by
 have hnew:=t112_new ho h hx j0 j1 i0 i1
 have hs:mfind (E.I ρ (.fn 1 (.pr x i))) (E.L ρ s)=none:=by
  cases hq:mfind (E.I ρ (.fn 1 (.pr x i))) (E.L ρ s) with
  | none=>rfl
  | some v=>exact absurd ((mfind_some _ _).1 (by rw [hq]; rfl)) hnew
 show ¬ (((mfind (E.I ρ (.fn 1 (.pr x i))) (E.L ρ s)).getD (.bool false)).toB=true)
 rw [hs]; simp [U.toB]
theorem t_at (ho:E.B ρ (.fn 106 (.pr l m))=true) (hx:E.B ρ (.fn 115 (.pr x (.pr l j)))=true) (j0:0≤E.I ρ j) (j1:E.I ρ j < E.I ρ (.fn 0 l)) (i0:0≤E.I ρ i) (i1:E.I ρ i < E.I ρ (.fn 0 x)) :
  E.I ρ (.fn 107 (.pr l (.fn 1 (.pr x i))))=E.I ρ j∧E.I ρ (.fn 108 (.pr l (.pr (.fn 107 (.pr l (.fn 1 (.pr x i)))) (.fn 1 (.pr x i)))))=E.I ρ i:=by
 have hx':=t115_getD hx j0
 rw [← con_len] at j1
 rw [← ints_len,hx'] at i1
 have hm:E.I ρ (.fn 1 (.pr x i))∈(con (E.L ρ l)).getD (E.I ρ j).toNat []:=by
  rw [I_nth,hx',getD_lt ((con (E.L ρ l)).getD (E.I ρ j).toNat []) 0 (by omega)]; exact List.getElem_mem _
 have hz:=zoneF_mem (E.I ρ (.fn 1 (.pr x i))) (con (E.L ρ l)) 0 (ok106 ho) (E.I ρ j).toNat (by omega) hm
 have e1:E.I ρ (.fn 107 (.pr l (.fn 1 (.pr x i))))=E.I ρ j:=by
  rw [I_107]; unfold zoneOf; rw [hz]; omega
 refine ⟨e1,?_⟩
 show idxOf (zAt (con (E.L ρ l)) (E.I ρ (.fn 107 (.pr l (.fn 1 (.pr x i)))))) (E.I ρ (.fn 1 (.pr x i)))=_
 have hn:((con (E.L ρ l)).getD (E.I ρ j).toNat []).Nodup:=by rw [getD_lt _ _ (by omega)]; exact nodup_part (ok106 ho) (List.getElem_mem _)
 rw [e1,zAt_nat _ j0,I_nth,hx',idxOf_getD hn (by omega)]; omega
/-! lists without an id -/
theorem t113_zero (h:E.I ρ n≤0):E.B ρ (.fn 113 (.pr (.fn 10 a) (.pr l (.pr id n))))=true:=by
 have e:(E.I ρ n).toNat=0:=by omega
 rw [z113,e]; rfl
theorem t113_eq (h:E.B ρ (.fn 113 (.pr x (.pr l (.pr id i))))=true) (e:E.I ρ n=E.I ρ i):E.B ρ (.fn 113 (.pr x (.pr l (.pr id n))))=true:=by
 rw [z113] at *; rw [e]; exact h
theorem t113_skip (h:E.B ρ (.fn 113 (.pr x (.pr l (.pr id i))))=true) (h0:0≤E.I ρ i) (h1:E.I ρ i < E.I ρ (.fn 0 l)) (hn:E.I ρ n=E.I ρ i + 1) (hv:E.I ρ (.fn 1 (.pr l i))=E.I ρ id):E.B ρ (.fn 113 (.pr x (.pr l (.pr id n))))=true:=by
 have en:(E.I ρ n).toNat=(E.I ρ i).toNat + 1:=by omega
 rw [← ints_len] at h1
 rw [I_nth] at hv
 rw [z113] at *
 rw [en,take_succ_getD _ _ (by omega),List.filter_append,← h,hv]
 simp
theorem t113_more (h:E.B ρ (.fn 113 (.pr x (.pr l (.pr id i))))=true) (h0:0≤E.I ρ i) (h1:E.I ρ i < E.I ρ (.fn 0 l)) (hn:E.I ρ n=E.I ρ i + 1) (hv:¬ E.I ρ (.fn 1 (.pr l i))=E.I ρ id):E.B ρ (.fn 113 (.pr (.fn 3 (.pr x (.fn 23 (.pr (.fn 1 (.pr l i)) (.fn 10 a))))) (.pr l (.pr id n))))=true:=by
 have en:(E.I ρ n).toNat=(E.I ρ i).toNat + 1:=by omega
 rw [← ints_len] at h1
 rw [z113] at *
 rw [en,take_succ_getD _ _ (by omega),List.filter_append,← h,ints_app,ints_cons,ints_nil,I_nth]
 rw [I_nth] at hv
 congr 1
 rw [List.filter_cons_of_pos (by simpa using hv)]; rfl
theorem t113_one (h:E.B ρ (.fn 113 (.pr (.fn 10 b) (.pr l (.pr id i))))=true) (h0:0≤E.I ρ i) (h1:E.I ρ i < E.I ρ (.fn 0 l)) (hn:E.I ρ n=E.I ρ i + 1) (hv:¬ E.I ρ (.fn 1 (.pr l i))=E.I ρ id):E.B ρ (.fn 113 (.pr (.fn 23 (.pr (.fn 1 (.pr l i)) (.fn 10 a))) (.pr l (.pr id n))))=true:=by
 have:=t113_more (a:=a) h h0 h1 hn hv
 rw [z113] at *
 rw [← this]; rfl
/-- equal lists -/
theorem t_ints_len (h : ints ρ x = ints ρ y) : E.I ρ (.fn 0 x) = E.I ρ (.fn 0 y) ∧ E.B ρ (.fn 114 (.pr x (.pr y n))) = true := by
  refine ⟨by rw [← ints_len, ← ints_len, h], by rw [z114, h]⟩
theorem t_xy (h:E.B ρ (.fn 111 (.pr l (.pr k (.pr id (.pr a (.pr b e))))))=true) (hw:E.B ρ (.fn 115 (.pr w (.pr l j)))=true) (j0:0≤E.I ρ j) (j1:E.I ρ j < E.I ρ (.fn 0 k)) (hx:E.B ρ (.fn 113 (.pr x (.pr (.fn 1 (.pr k j)) (.pr id n))))=true) (hn:E.I ρ n=E.I ρ (.fn 0 (.fn 1 (.pr k j)))) (hy:E.B ρ (.fn 113 (.pr y (.pr w (.pr id i))))=true) (hi:E.I ρ i=E.I ρ (.fn 0 w)):ints ρ x=ints ρ y:=by
 have hw':=t115_getD hw j0
 rw [← con_len] at j1
 rw [← ints_len] at hn hi
 rw [z111,chgC_iff] at h
 obtain ⟨h1,_⟩:=h (E.I ρ j).toNat (by omega)
 rw [z113,List.take_of_length_le (by omega)] at hx hy
 rw [hx,hy,hw',h1,con_getD]; rfl
theorem t_now (h:E.B ρ (.fn 111 (.pr l (.pr k (.pr id (.pr a (.pr b e))))))=true) (hw:E.B ρ (.fn 115 (.pr w (.pr l j)))=true) (j0:0≤E.I ρ j) (j1:E.I ρ j < E.I ρ (.fn 0 k)) (hd:¬ E.I ρ e=0∨(¬ E.I ρ j=E.I ρ a∧¬ E.I ρ j=E.I ρ b)):ints ρ w=ints ρ (.fn 1 (.pr k j)):=by
 have hw':=t115_getD hw j0
 rw [← con_len] at j1
 rw [z111,chgC_iff] at h
 obtain ⟨_,h2⟩:=h (E.I ρ j).toNat (by omega)
 have ej:(((E.I ρ j).toNat:Nat):Int)=E.I ρ j:=by omega
 rw [ej] at h2
 have h3:(con (E.L ρ l)).getD (E.I ρ j).toNat []=(con (E.L ρ k)).getD (E.I ρ j).toNat []:=by
  rcases h2 with ⟨g1,g2⟩ | g
  ·rcases hd with hd | ⟨d1,d2⟩
   ·exact absurd g1 hd
   ·rcases g2 with g2 | g2
    ·exact absurd g2 d1
    ·exact absurd g2 d2
  ·exact g
 rw [hw',h3,con_getD]; rfl
/-- the id on the top was moved to its zone -/
theorem t_top (ho : E.B ρ (.fn 106 (.pr l m)) = true) (h : E.B ρ (.fn 105 (.pr x (.pr l (.pr j id)))) = true) (j0 : 0 ≤ E.I ρ j) (j1 : E.I ρ j < E.I ρ (.fn 0 l)) (hl : 1 ≤ E.I ρ (.fn 0 (.fn 1 (.pr l j)))) (hn : E.I ρ n = E.I ρ (.fn 0 (.fn 1 (.pr l j))) - 1) (hid : E.I ρ id = E.I ρ (.fn 1 (.pr (.fn 1 (.pr l j)) n))) : con (E.L ρ x) = con (E.L ρ l) := by
  rw [← con_len] at j1
  rw [← ints_len, ← zAt_con j0, zAt_nat _ j0] at hl hn
  rw [I_nth, ← zAt_con j0, zAt_nat _ j0] at hid
  have ej : (((E.I ρ j).toNat : Nat) : Int) = E.I ρ j := by omega
  rw [z105, ← ej] at h
  rw [h]
  refine move_top (ok106 ho) (by omega) (r := ((con (E.L ρ l)).getD (E.I ρ j).toNat []).take (E.I ρ n).toNat) ?_
  rw [hid, ← take_succ_getD _ _ (by omega), List.take_of_length_le (by omega)]
theorem t115_con (h:E.B ρ (.fn 115 (.pr x (.pr y j)))=true) (hw:E.B ρ (.fn 115 (.pr w (.pr l j)))=true) (hc:con (E.L ρ y)=con (E.L ρ l)):ints ρ x=ints ρ w:=by
 rw [z115] at *; rw [h,hw,hc]
theorem t_at2 (ho:E.B ρ (.fn 106 (.pr l m))=true) (j0:0≤E.I ρ j) (j1:E.I ρ j < E.I ρ (.fn 0 l)) (i0:0≤E.I ρ i) (i1:E.I ρ i < E.I ρ (.fn 0 (.fn 1 (.pr l j)))) (hid:E.I ρ id=E.I ρ (.fn 1 (.pr (.fn 1 (.pr l j)) i))) :
  E.I ρ (.fn 107 (.pr l id))=E.I ρ j:=by
 have h:=(t_at ho (t115_self j0) j0 j1 i0 i1).1
 rw [← h]
 show zoneOf (con (E.L ρ l)) (E.I ρ id)=zoneOf (con (E.L ρ l)) (E.I ρ (.fn 1 (.pr (.fn 1 (.pr l j)) i)))
 rw [hid]
theorem t115_30 (h:E.B ρ (.fn 115 (.pr (.fn 10 b) (.pr l z)))=true):E.B ρ (.fn 115 (.pr (.fn 30 a) (.pr l z)))=true:=by
 rw [z115] at *; rw [← h]; rfl
theorem t115_28 (h:E.B ρ (.fn 115 (.pr x (.pr l z)))=true):E.B ρ (.fn 115 (.pr (.fn 28 (.pr a x)) (.pr l z)))=true:=by
 rw [z115] at *; rw [← h]; rfl
/-- no ids at all -/
theorem con_new : con (E.L ρ (.fn 5 (.pr n (.fn 30 a)))) = List.replicate (E.I ρ n).toNat [] := by
  show (List.replicate (E.I ρ n).toNat _).map toIs = _
  rw [List.map_replicate]; rfl
theorem prsF_new:∀ (n z:Nat),prsF z (List.replicate n [])=[]
 | 0,z=>rfl
 | n + 1,z=>by rw [List.replicate_succ]; exact prsF_new n (z + 1)
theorem t106_new:E.B ρ (.fn 106 (.pr (.fn 5 (.pr n (.fn 30 a))) (.fn 10 b)))=true∧E.I ρ (.fn 109 (.fn 5 (.pr n (.fn 30 a))))=0:=by
 have e:(List.replicate (E.I ρ n).toNat ([]:List Int)).flatten=[]:=by simp
 refine ⟨?_,by rw [I_109,con_new,e]; rfl⟩
 rw [z106,con_new,okC_iff,e]
 refine ⟨List.nodup_nil,?_,by simp⟩
 unfold prsC
 rw [prsF_new]
 exact List.Perm.refl _
end
end Go.SX

