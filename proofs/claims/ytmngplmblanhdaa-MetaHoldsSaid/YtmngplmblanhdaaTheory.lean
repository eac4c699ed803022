/-
  What the program's own functions say
-/
import Derived.Test.YtmngplmblanhdaaSXe
set_option linter.unusedVariables false
set_option linter.unusedSimpArgs false
namespace Go.SX
/-! ### Fields of decks: plain laws -/
noncomputable def ints (ρ:Env) (e:E):List Int:=(E.L ρ e).map U.toI
noncomputable def matE (ρ:Env) (e:E):List (List Int):=mat (e.den ρ)
theorem getD_map (l:List U) (k:Nat):(l.getD k (.int 0)).toI=(l.map U.toI).getD k 0:=by
 simp only [List.getD_eq_getElem?_getD,List.getElem?_map]
 cases l[k]? <;> rfl
theorem mat_getD (L:List U) (k:Nat):(L.map toIs).getD k []=toIs (L.getD k (.int 0)):=by
 simp only [List.getD_eq_getElem?_getD,List.getElem?_map]
 cases L[k]? <;> rfl
theorem getD_lt {α:Type} (l:List α) (d:α) {k:Nat} (h:k < l.length):l.getD k d=l[k]:=by rw [List.getD_eq_getElem?_getD,List.getElem?_eq_getElem h]; rfl
def get2 (M:List (List Int)) (i j:Nat):Int:=(M.getD i []).getD j 0
theorem mAt_eq (M:List (List Int)) (a b:Int):mAt M a b=get2 M a.toNat b.toNat:=rfl
theorem mAt_nat (M:List (List Int)) (i j:Nat):mAt M (i:Int) (j:Int)=get2 M i j:=by rw [mAt_eq]; simp
theorem isMat_iff (M:List (List Int)) (n:Nat):isMat M n=true↔M.length=n∧∀ i,i < n→(M.getD i []).length=n:=by
 unfold isMat
 rw [Bool.and_eq_true,beq_iff_eq,List.all_eq_true]
 constructor
 ·rintro ⟨h1,h2⟩
  refine ⟨h1,fun i hi=>?_⟩
  rw [getD_lt _ _ (by omega)]
  simpa using h2 _ (List.getElem_mem (by omega))
 ·rintro ⟨h1,h2⟩
  refine ⟨h1,fun r hr=>?_⟩
  obtain ⟨i,hi,rfl⟩:=List.mem_iff_getElem.1 hr
  have:=h2 i (by omega)
  rw [getD_lt _ _ hi] at this
  simpa using this
theorem addM_iff (M' M:List (List Int)) (gs:List (Int × Int × Int)) (n:Nat):addM M' M gs n=true↔isMat M' n=true∧isMat M n=true∧∀ i,i < n→∀ j,j < n→get2 M' i j=get2 M i j + scoreG gs (i:Int) (j:Int):=by
 unfold addM
 simp only [Bool.and_eq_true,List.all_eq_true,List.mem_range,beq_iff_eq,and_assoc,mAt_nat]
/-! games -/
theorem g3_len (l:List Int):(g3 l).length=l.length / 3:=by
 fun_induction g3 l with
 | case1 a b o l ih=>simp only [List.length_cons,ih]; omega
 | case2 l h =>
  match l,h with
  | [],_=>rfl
  | [_],_=>simp
  | [_,_],_=>simp
  | a::b::o::l,h=>exact absurd rfl (h a b o l)
theorem g3_get (l:List Int):∀ i,i < l.length / 3→(g3 l)[i]?=some (l.getD (3 * i) 0,l.getD (3 * i + 1) 0,l.getD (3 * i + 2) 0):=by
 fun_induction g3 l with
 | case1 a b o l ih =>
  intro i hi
  cases i with
  | zero=>simp
  | succ i =>
   simp only [List.length_cons] at hi
   have:=ih i (by omega)
   rw [List.getElem?_cons_succ,this]
   have e1:3 * (i + 1)=3 * i + 1 + 1 + 1:=by omega
   have e2:3 * (i + 1) + 1=3 * i + 1 + 1 + 1 + 1:=by omega
   have e3:3 * (i + 1) + 2=3 * i + 2 + 1 + 1 + 1:=by omega
   rw [e3,e2,e1]
   simp only [List.getD_cons_succ]
 | case2 l h =>
  intro i hi
  match l,h,hi with
  | [],_,hi=>simp at hi
  | [_],_,hi=>simp at hi
  | [_,_],_,hi=>simp at hi
  | a::b::o::l,h,_=>exact absurd rfl (h a b o l)
theorem sumL_app (l m:List Int):sumL (l++m)=sumL l + sumL m:=by
 induction l with
 | nil=>simp [sumL]
 | cons x l ih=>simp only [List.cons_append,sumL,ih]; omega
theorem scoreG_app (gs:List (Int × Int × Int)) (g:Int × Int × Int) (a b:Int):scoreG (gs++[g]) a b=scoreG gs a b + sc1 a b g:=by
 unfold scoreG
 rw [List.map_append,sumL_app]
 simp [sumL]
theorem sc1_nn (a b:Int) (g:Int × Int × Int):0≤sc1 a b g∧sc1 a b g≤2:=by
 unfold sc1
 split
 ·omega
 ·split <;> omega
theorem scoreG_nn (gs:List (Int × Int × Int)) (a b:Int):0≤scoreG gs a b∧scoreG gs a b≤2 * gs.length:=by
 unfold scoreG
 induction gs with
 | nil=>simp [sumL]
 | cons g gs ih =>
  have:=sc1_nn a b g
  simp only [List.map_cons,sumL,List.length_cons]
  omega
theorem sc1_even (a b:Int) (h:a≠b) (g:Int × Int × Int):(sc1 a b g + sc1 b a g) % 2=0:=by
 unfold sc1
 obtain ⟨p,q,o⟩:=g
 simp only [Bool.or_eq_true,Bool.and_eq_true,beq_iff_eq]
 repeat' split
 all_goals omega
theorem scoreG_even (gs:List (Int × Int × Int)) (a b:Int) (h:a≠b):(scoreG gs a b + scoreG gs b a) % 2=0:=by
 unfold scoreG
 induction gs with
 | nil=>rfl
 | cons g gs ih =>
  have:=sc1_even a b h g
  simp only [List.map_cons,sumL]
  omega
/-! the best deck -/
theorem bestUp_mem (f:Nat→Int) (hf:∀ i,0≤f i):∀ k,0 < k→∃ d:Nat,bestUp f k=((d:Int),f d)∧d < k∧(∀ i,i < k→f i≤f d)∧∀ i,i < d→f i < f d
 | 0,h=>by omega
 | k + 1,_=>by
  unfold bestUp
  by_cases hk:k=0
  ·subst hk
   rw [if_pos (by show (-1:Int) < f 0; have:=hf 0; omega)]
   refine ⟨0,rfl,by omega,fun i hi=>?_,fun i hi=>by omega⟩
   have:i=0:=by omega
   rw [this]; omega
  ·obtain ⟨d,h1,h2,h3,h4⟩:=bestUp_mem f hf k (by omega)
   rw [h1]
   by_cases hc:f d < f k
   ·rw [if_pos hc]
    refine ⟨k,rfl,by omega,fun i hi=>?_,fun i hi=>?_⟩
    ·rcases Nat.lt_or_ge i k with h | h
     ·have:=h3 i h; omega
     ·have:i=k:=by omega
      rw [this]; omega
    ·have:=h3 i hi; omega
   ·rw [if_neg hc]
    refine ⟨d,rfl,by omega,fun i hi=>?_,h4⟩
    rcases Nat.lt_or_ge i k with h | h
    ·exact h3 i h
    ·have:i=k:=by omega
     rw [this]; omega
theorem bestDn_mem (f:Nat→Int) (hf:∀ i,0≤f i) (n:Nat):∀ j,0 < j→j≤n→∃ d:Nat,bestDn f n j=((d:Int),f d)∧n - j≤d∧d < n∧(∀ i,n - j≤i→i < n→f i≤f d)∧∀ i,n - j≤i→i < d→f i < f d
 | 0,h,_=>by omega
 | j + 1,_,hj=>by
  unfold bestDn
  by_cases h0:j=0
  ·subst h0
   rw [if_pos (by show (0:Int)≤f (n - 1 - 0); exact hf _)]
   refine ⟨n - 1 - 0,rfl,by omega,by omega,fun i h1 h2=>?_,fun i h1 h2=>by omega⟩
   have:i=n - 1 - 0:=by omega
   rw [this]; omega
  ·obtain ⟨d,h1,h2,h3,h4,h5⟩:=bestDn_mem f hf n j (by omega) (by omega)
   rw [h1]
   by_cases hc:f d≤f (n - 1 - j)
   ·rw [if_pos hc]
    refine ⟨n - 1 - j,rfl,by omega,by omega,fun i g1 g2=>?_,fun i g1 g2=>by omega⟩
    rcases Nat.lt_or_ge i (n - j) with h | h
    ·have:i=n - 1 - j:=by omega
     rw [this]; omega
    ·have:=h4 i h g2; omega
   ·rw [if_neg hc]
    refine ⟨d,rfl,by omega,h3,fun i g1 g2=>?_,fun i g1 g2=>?_⟩
    ·rcases Nat.lt_or_ge i (n - j) with h | h
     ·have:i=n - 1 - j:=by omega
      rw [this]; omega
     ·exact h4 i h g2
    ·rcases Nat.lt_or_ge i (n - j) with h | h
     ·have:i=n - 1 - j:=by omega
      rw [this]; omega
     ·exact h5 i h g2
theorem best_eq (f g:Nat→Int) (n:Nat) (hn:0 < n) (hf:∀ i,0≤f i) (hg:∀ i,0≤g i) (h:∀ i,i < n→f i=g i):bestUp f n=bestDn g n n:=by
 obtain ⟨d,h1,h2,h3,h4⟩:=bestUp_mem f hf n hn
 obtain ⟨e,g1,g2,g3,g4,g5⟩:=bestDn_mem g hg n n hn (Nat.le_refl _)
 have hde:d=e:=by
  rcases Nat.lt_trichotomy d e with hlt | heq | hlt
  ·have a1:=g5 d (by omega) hlt
   have a2:=h3 e g3
   rw [h d h2,h e g3] at a2; omega
  ·exact heq
  ·have a1:=h4 e hlt
   have a2:=g4 d (by omega) h2
   rw [h d h2,h e g3] at a1; omega
 subst hde
 rw [h1,g1,h d h2]
theorem rateI_nn (a b x y:Int) (hx:0≤x) (hy:0≤y):0≤rateI a b x y∧rateI a b x y≤1000:=by
 unfold rateI
 split
 ·omega
 ·rename_i h
  simp only [Bool.or_eq_true,beq_iff_eq,not_or] at h
  have hp:0 < x + y:=by omega
  rw [Int.tdiv_eq_ediv_of_nonneg (by omega)]
  refine ⟨Int.ediv_nonneg (by omega) (by omega),?_⟩
  have:1000 * x / (x + y) < 1001:=by
   refine Int.ediv_lt_of_lt_mul hp ?_
   omega
  omega
theorem sumF_nn (f:Nat→Int) (h:∀ i,0≤f i):∀ k,0≤sumF f k
 | 0=>by simp [sumF]
 | k + 1=>by have:=sumF_nn f h k; have:=h k; simp only [sumF]; omega
theorem sumF_congr (f g:Nat→Int):∀ k,(∀ i,i < k→f i=g i)→sumF f k=sumF g k
 | 0,_=>rfl
 | k + 1,h=>by simp only [sumF]; rw [sumF_congr f g k (fun i hi=>h i (by omega)),h k (by omega)]
section
variable {ρ : Env} {x l L A w a b d i n v h k g o j z e c m : E}
theorem wrap_add:-9223372036854775808≤E.I ρ a + E.I ρ b→E.I ρ a + E.I ρ b < 9223372036854775808→E.I ρ (.ar .add .i64 a b)=E.I ρ a + E.I ρ b:=by
 intro h h'
 have e:E.I ρ (.ar .add .i64 a b)=IntKind.i64.wrap (E.I ρ a + E.I ρ b):=rfl
 obtain ⟨s,e2,q,r⟩:=cs_i64 (E.I ρ a + E.I ρ b)
 rw [e,e2]; omega
theorem wrap_sub:-9223372036854775808≤E.I ρ a - E.I ρ b→E.I ρ a - E.I ρ b < 9223372036854775808→E.I ρ (.ar .sub .i64 a b)=E.I ρ a - E.I ρ b:=by
 intro h h'
 have e:E.I ρ (.ar .sub .i64 a b)=IntKind.i64.wrap (E.I ρ a - E.I ρ b):=rfl
 obtain ⟨s,e2,q,r⟩:=cs_i64 (E.I ρ a - E.I ρ b)
 rw [e,e2]; omega
theorem wrap_mul:-9223372036854775808≤E.I ρ a * E.I ρ b→E.I ρ a * E.I ρ b < 9223372036854775808→E.I ρ (.ar .mul .i64 a b)=E.I ρ a * E.I ρ b:=by
 intro h h'
 have e:E.I ρ (.ar .mul .i64 a b)=IntKind.i64.wrap (E.I ρ a * E.I ρ b):=rfl
 obtain ⟨s,e2,q,r⟩:=cs_i64 (E.I ρ a * E.I ρ b)
 rw [e,e2]; omega
theorem wrap_quo:-9223372036854775808≤(E.I ρ a).tdiv (E.I ρ b)→(E.I ρ a).tdiv (E.I ρ b) < 9223372036854775808→E.I ρ (.ar .quo .i64 a b)=(E.I ρ a).tdiv (E.I ρ b):=by
 intro h h'
 have e:E.I ρ (.ar .quo .i64 a b)=IntKind.i64.wrap ((E.I ρ a).tdiv (E.I ρ b)):=rfl
 obtain ⟨s,e2,q,r⟩:=cs_i64 ((E.I ρ a).tdiv (E.I ρ b))
 rw [e,e2]; omega
theorem ints_len:((ints ρ l).length:Int)=E.I ρ (.fn 0 l):=by
 show (((E.L ρ l).map U.toI).length:Int)=((E.L ρ l).length:Int)
 simp
theorem I_nth:E.I ρ (.fn 1 (.pr l i))=(ints ρ l).getD (E.I ρ i).toNat 0:=getD_map _ _
theorem I_mx:E.I ρ (.mx a b)=max (E.I ρ a) (E.I ρ b):=by
 show maxI _ _=_
 unfold maxI
 split <;> (simp only [E.I] at *; omega)
/-! matrices -/
theorem matE_len:((matE ρ l).length:Int)=E.I ρ (.fn 0 l):=by
 show (((E.L ρ l).map toIs).length:Int)=((E.L ρ l).length:Int)
 simp
theorem matE_row:(matE ρ l).getD (E.I ρ a).toNat []=ints ρ (.fn 1 (.pr l a)):=by
 show ((E.L ρ l).map toIs).getD (E.I ρ a).toNat []=_
 rw [mat_getD]; rfl
theorem I_nn:E.I ρ (.fn 1 (.pr (.fn 1 (.pr l a)) b))=get2 (matE ρ l) (E.I ρ a).toNat (E.I ρ b).toNat:=by
 rw [I_nth,← matE_row]; rfl
theorem z101:(E.B ρ (.fn 101 (.pr l n))=true)=(isMat (matE ρ l) (E.I ρ n).toNat=true):=rfl
theorem z103:(E.B ρ (.fn 103 (.pr L (.pr l (.pr x (.pr k n)))))=true)=(addM (matE ρ L) (matE ρ l) (games (x.den ρ) (E.I ρ k)) (E.I ρ n).toNat=true):=rfl
theorem z117:(E.B ρ (.fn 117 (.pr l g))=true)=(((matE ρ l).all fun r=>r.all fun x=>decide (0≤x∧x≤2 * E.I ρ g))=true):=rfl
theorem z116:(E.B ρ (.fn 116 (.pr l n))=true)=(matE ρ l=List.replicate (E.I ρ n).toNat (List.replicate (E.I ρ n).toNat 0)):=by
 show ((matE ρ l == List.replicate (E.I ρ n).toNat (List.replicate (E.I ρ n).toNat 0))=true)=_
 rw [beq_iff_eq]
theorem z115:(E.B ρ (.fn 115 (.pr l (.pr i n)))=true)=((matE ρ l).length=(E.I ρ n).toNat∧(matE ρ l).take (E.I ρ i).toNat=List.replicate (E.I ρ i).toNat (List.replicate (E.I ρ n).toNat 0)):=by
 show (((matE ρ l).length == (E.I ρ n).toNat && (matE ρ l).take (E.I ρ i).toNat == List.replicate (E.I ρ i).toNat (List.replicate (E.I ρ n).toNat 0))=true)=_
 rw [Bool.and_eq_true,beq_iff_eq,beq_iff_eq]
theorem z118:(E.B ρ (.fn 118 (.pr l (.pr x n)))=true)=(addM (matE ρ l) (List.replicate (E.I ρ n).toNat (List.replicate (E.I ρ n).toNat 0)) (g3 (ints ρ x)) (E.I ρ n).toNat=true):=rfl
theorem t115_zero (hi:E.I ρ i≤0) (h0:0≤E.I ρ n):E.B ρ (.fn 115 (.pr (.fn 5 (.pr n (.fn 30 a))) (.pr i n)))=true:=by
 have e:(E.I ρ i).toNat=0:=by omega
 have hm:matE ρ (.fn 5 (.pr n (.fn 30 a)))=List.replicate (E.I ρ n).toNat []:=by
  show (List.replicate (E.I ρ n).toNat _).map toIs=_
  rw [List.map_replicate]; rfl
 rw [z115,hm,e]; simp
theorem take_set_succ {α:Type} (C D:List α) (k:Nat) (v:α) (h:C.take k=D.take k) (hC:k < C.length) (hD:k < D.length) (hv:v=D[k]):(C.set k v).take (k + 1)=D.take (k + 1):=by
 have hC':k < (C.set k v).length:=by rw [List.length_set]; exact hC
 rw [List.take_add_one,List.take_add_one,List.take_set_of_le (Nat.le_refl k),h,List.getElem?_eq_getElem hC',List.getElem?_eq_getElem hD,List.getElem_set_self,hv]
theorem t115_step (h:E.B ρ (.fn 115 (.pr l (.pr i n)))=true) (h0:0≤E.I ρ i) (h1:E.I ρ i < E.I ρ n) (hk:E.I ρ k=E.I ρ i + 1) (hz:E.I ρ z=0):E.B ρ (.fn 115 (.pr (.fn 2 (.pr l (.pr i (.fn 28 (.pr a (.fn 5 (.pr n z))))))) (.pr k n)))=true:=by
 have ek:(E.I ρ k).toNat=(E.I ρ i).toNat + 1:=by omega
 have hm:matE ρ (.fn 2 (.pr l (.pr i (.fn 28 (.pr a (.fn 5 (.pr n z)))))))=(matE ρ l).set (E.I ρ i).toNat (List.replicate (E.I ρ n).toNat 0):=by
  show ((E.L ρ l).set (E.I ρ i).toNat _).map toIs=_
  rw [List.map_set]
  congr 1
  show (List.replicate (E.I ρ n).toNat (z.den ρ)).map U.toI=_
  rw [List.map_replicate]
  congr 1
 rw [z115] at *
 rw [hm,ek,List.length_set]
 refine ⟨h.1,?_⟩
 have hD:(E.I ρ i).toNat < (List.replicate ((E.I ρ i).toNat + 1) (List.replicate (E.I ρ n).toNat (0:Int))).length:=by simp
 have:=take_set_succ (matE ρ l) (List.replicate ((E.I ρ i).toNat + 1) (List.replicate (E.I ρ n).toNat 0)) (E.I ρ i).toNat (List.replicate (E.I ρ n).toNat 0) (by rw [h.2,List.take_replicate]; congr 1; omega) (by omega) hD (by simp)
 rw [this,List.take_replicate]
 congr 1; omega
theorem t116_of (h:E.B ρ (.fn 115 (.pr l (.pr i n)))=true) (hi:E.I ρ i=E.I ρ n):E.B ρ (.fn 116 (.pr l n))=true:=by
 rw [z115,hi] at h
 rw [z116]
 rw [List.take_of_length_le (by omega)] at h
 exact h.2
theorem zeros_get (n i j:Nat) (hi:i < n) (hj:j < n):get2 (List.replicate n (List.replicate n (0:Int))) i j=0:=by
 have e1:(List.replicate n (List.replicate n (0:Int))).getD i []=List.replicate n 0:=by
  rw [getD_lt (List.replicate n (List.replicate n (0:Int))) [] (by simpa using hi),List.getElem_replicate]
 unfold get2
 rw [e1,getD_lt (List.replicate n (0:Int)) 0 (by simpa using hj),List.getElem_replicate]
theorem zeros_mat (n:Nat):isMat (List.replicate n (List.replicate n (0:Int))) n=true:=by
 rw [isMat_iff]
 refine ⟨by simp,fun i hi=>?_⟩
 rw [getD_lt _ _ (by simpa using hi),List.getElem_replicate]; simp
theorem t101_of (h:E.B ρ (.fn 116 (.pr l n))=true):E.B ρ (.fn 101 (.pr l n))=true:=by
 rw [z116] at h
 rw [z101,h]; exact zeros_mat _
theorem t117_of (h:E.B ρ (.fn 116 (.pr l n))=true) (hg:0≤E.I ρ g):E.B ρ (.fn 117 (.pr l g))=true:=by
 rw [z116] at h
 rw [z117,h,List.all_eq_true]
 intro r hr
 have:=List.eq_of_mem_replicate hr
 subst this
 rw [List.all_eq_true]
 intro x hx
 have:=List.eq_of_mem_replicate hx
 subst this
 simp; omega
theorem t101_row (h:E.B ρ (.fn 101 (.pr l n))=true) (h0:0≤E.I ρ a) (h1:E.I ρ a < E.I ρ n):E.I ρ (.fn 0 (.fn 1 (.pr l a)))=E.I ρ n:=by
 rw [z101,isMat_iff] at h
 rw [← ints_len,← matE_row,h.2 _ (by omega)]; omega
theorem all_get2 {M:List (List Int)} {n:Nat} (hm:isMat M n=true) (p:Int→Bool):(M.all fun r=>r.all p)=true↔∀ i,i < n→∀ j,j < n→p (get2 M i j)=true:=by
 rw [isMat_iff] at hm
 rw [List.all_eq_true]
 constructor
 ·intro h i hi j hj
  have hr:=hm.2 i hi
  have hlt:i < M.length:=by omega
  have e:M.getD i []=M[i]:=getD_lt M [] hlt
  unfold get2
  rw [e] at hr ⊢
  have:=h _ (List.getElem_mem hlt)
  rw [List.all_eq_true] at this
  rw [getD_lt M[i] 0 (by omega)]
  exact this _ (List.getElem_mem (by omega))
 ·intro h r hr
  obtain ⟨i,hi,rfl⟩:=List.mem_iff_getElem.1 hr
  rw [List.all_eq_true]
  intro x hx
  obtain ⟨j,hj,rfl⟩:=List.mem_iff_getElem.1 hx
  have hl:=hm.2 i (by omega)
  have e:M.getD i []=M[i]:=getD_lt M [] hi
  rw [e] at hl
  have:=h i (by omega) j (by omega)
  unfold get2 at this
  rw [e,getD_lt M[i] 0 hj] at this
  exact this
theorem t117_at (h:E.B ρ (.fn 117 (.pr l g))=true) (hm:E.B ρ (.fn 101 (.pr l n))=true) (a0:0≤E.I ρ a) (a1:E.I ρ a < E.I ρ n) (b0:0≤E.I ρ b) (b1:E.I ρ b < E.I ρ n):0≤E.I ρ (.fn 1 (.pr (.fn 1 (.pr l a)) b))∧E.I ρ (.fn 1 (.pr (.fn 1 (.pr l a)) b))≤2 * E.I ρ g:=by
 rw [z101] at hm
 rw [z117,all_get2 hm] at h
 rw [I_nn]
 simpa using h (E.I ρ a).toNat (by omega) (E.I ρ b).toNat (by omega)
/-- a matrix with another number at a place -/
theorem matE_set : matE ρ (.fn 2 (.pr l (.pr a (.fn 21 (.pr h (.fn 2 (.pr (.fn 1 (.pr l a)) (.pr b v)))))))) = (matE ρ l).set (E.I ρ a).toNat (((matE ρ l).getD (E.I ρ a).toNat []).set (E.I ρ b).toNat (E.I ρ v)) := by
  rw [matE_row]
  show ((E.L ρ l).set (E.I ρ a).toNat _).map toIs = _
  rw [List.map_set]
  congr 1
  show ((E.L ρ (.fn 1 (.pr l a))).set (E.I ρ b).toNat (v.den ρ)).map U.toI = _
  rw [List.map_set]; rfl
theorem set_mat {M:List (List Int)} {n i j:Nat} {v:Int} (h:isMat M n=true) (hi:i < n):isMat (M.set i ((M.getD i []).set j v)) n=true:=by
 rw [isMat_iff] at *
 refine ⟨by rw [List.length_set]; exact h.1,fun k hk=>?_⟩
 have hl:k < (M.set i ((M.getD i []).set j v)).length:=by rw [List.length_set]; omega
 rw [getD_lt _ _ hl]
 by_cases e:i=k
 ·subst e
  rw [List.getElem_set_self,List.length_set]; exact h.2 i hi
 ·rw [List.getElem_set_ne e]
  have:=h.2 k hk
  rw [getD_lt M [] (by omega)] at this; exact this
theorem set_get {M:List (List Int)} {n i j:Nat} {v:Int} (h:isMat M n=true) (hi:i < n) (hj:j < n) (p q:Nat):get2 (M.set i ((M.getD i []).set j v)) p q=if p=i∧q=j then v else get2 M p q:=by
 rw [isMat_iff] at h
 have hr:=h.2 i hi
 unfold get2
 by_cases e:p=i
 ·subst e
  have hl:p < (M.set p ((M.getD p []).set j v)).length:=by rw [List.length_set]; omega
  have e1:(M.set p ((M.getD p []).set j v)).getD p []=(M.getD p []).set j v:=by rw [getD_lt _ _ hl,List.getElem_set_self]
  rw [e1]
  by_cases e2:q=j
  ·subst e2
   rw [if_pos ⟨rfl,rfl⟩,getD_lt _ _ (by rw [List.length_set]; omega),List.getElem_set_self]
  ·rw [if_neg (fun h=>e2 h.2)]
   simp only [List.getD_eq_getElem?_getD,List.getElem?_set_ne (Ne.symm e2)]
 ·rw [if_neg (fun h=>e h.1)]
  simp only [List.getD_eq_getElem?_getD,List.getElem?_set_ne (Ne.symm e)]
theorem t101_set (hm:E.B ρ (.fn 101 (.pr l n))=true) (a0:0≤E.I ρ a) (a1:E.I ρ a < E.I ρ n):E.B ρ (.fn 101 (.pr (.fn 2 (.pr l (.pr a (.fn 21 (.pr h (.fn 2 (.pr (.fn 1 (.pr l a)) (.pr b v)))))))) n))=true:=by
 rw [z101] at *
 rw [matE_set]; exact set_mat hm (by omega)
theorem t117_set (hb:E.B ρ (.fn 117 (.pr l g))=true) (hm:E.B ρ (.fn 101 (.pr l n))=true) (a0:0≤E.I ρ a) (a1:E.I ρ a < E.I ρ n) (b0:0≤E.I ρ b) (b1:E.I ρ b < E.I ρ n) (v0:0≤E.I ρ v) (v1:E.I ρ v≤2 * E.I ρ k) (hk:E.I ρ g≤E.I ρ k):E.B ρ (.fn 117 (.pr (.fn 2 (.pr l (.pr a (.fn 21 (.pr h (.fn 2 (.pr (.fn 1 (.pr l a)) (.pr b v)))))))) k))=true:=by
 rw [z101] at hm
 rw [z117,all_get2 hm] at hb
 rw [z117,matE_set,all_get2 (set_mat hm (by omega))]
 intro p hp q hq
 rw [set_get hm (by omega) (by omega)]
 split
 ·simp; omega
 ·have:=hb p hp q hq
  simp at this ⊢; omega
theorem I_set (hm:E.B ρ (.fn 101 (.pr l n))=true) (a0:0≤E.I ρ a) (a1:E.I ρ a < E.I ρ n) (b0:0≤E.I ρ b) (b1:E.I ρ b < E.I ρ n) (c0:0≤E.I ρ c) (m0:0≤E.I ρ m):E.I ρ (.fn 1 (.pr (.fn 1 (.pr (.fn 2 (.pr l (.pr a (.fn 21 (.pr h (.fn 2 (.pr (.fn 1 (.pr l a)) (.pr b v)))))))) c)) m))=if E.I ρ c=E.I ρ a∧E.I ρ m=E.I ρ b then E.I ρ v else E.I ρ (.fn 1 (.pr (.fn 1 (.pr l c)) m)):=by
 rw [z101] at hm
 rw [I_nn,matE_set,set_get hm (by omega) (by omega),I_nn]
 by_cases e:E.I ρ c=E.I ρ a∧E.I ρ m=E.I ρ b
 ·rw [if_pos e,if_pos (by omega)]
 ·rw [if_neg e,if_neg (by omega)]
/-! games -/
noncomputable def gsE (ρ:Env) (x k:E):List (Int × Int × Int):=games (x.den ρ) (E.I ρ k)
theorem gsE_def:gsE ρ x k=(g3 (ints ρ x)).take (E.I ρ k).toNat:=rfl
theorem rw3_I:E.I ρ (.fn 9 (.pr x (.int 3)))=(((g3 (ints ρ x)).length:Nat):Int):=by
 rw [g3_len]
 show ((((E.L ρ x).length:Int) / ((3:Int).toNat:Int)):Int)=_
 have:(ints ρ x).length=(E.L ρ x).length:=by unfold ints; simp
 have e3:((3:Int).toNat:Int)=3:=rfl
 rw [this,e3]; omega
theorem gsE_step (h0:0≤E.I ρ i) (h1:E.I ρ i < E.I ρ (.fn 9 (.pr x (.int 3)))) (hn:E.I ρ n=E.I ρ i + 1):gsE ρ x n=gsE ρ x i++[(E.I ρ (.fn 1 (.pr x (.fn 6 (.pr (.fn 8 (.pr i (.int 3))) (.int 0))))),E.I ρ (.fn 1 (.pr x (.fn 6 (.pr (.fn 8 (.pr i (.int 3))) (.int 1))))),E.I ρ (.fn 1 (.pr x (.fn 6 (.pr (.fn 8 (.pr i (.int 3))) (.int 2))))))]:=by
 rw [rw3_I] at h1
 have hk:(E.I ρ i).toNat < (g3 (ints ρ x)).length:=by omega
 have en:(E.I ρ n).toNat=(E.I ρ i).toNat + 1:=by omega
 rw [gsE_def,gsE_def,en,List.take_add_one,g3_get _ _ (by rw [← g3_len]; exact hk)]
 have key:∀ c:Nat,(E.I ρ (.fn 6 (.pr (.fn 8 (.pr i (.int 3))) (.int (c:Int))))).toNat=3 * (E.I ρ i).toNat + c:=by
  intro c
  show (E.I ρ i * 3 + (c:Int)).toNat=_
  omega
 rw [I_nth,I_nth,I_nth]
 rw [show (E.int 0)=.int ((0:Nat):Int) from rfl,show (E.int 1)=.int ((1:Nat):Int) from rfl,show (E.int 2)=.int ((2:Nat):Int) from rfl,key 0,key 1,key 2]
 rfl
theorem gsE_zero (h:E.I ρ k≤0):gsE ρ x k=[]:=by
 have e:(E.I ρ k).toNat=0:=by omega
 rw [gsE_def,e]; rfl
theorem I_102:E.I ρ (.fn 102 (.pr x (.pr k (.pr a b))))=scoreG (gsE ρ x k) (E.I ρ a) (E.I ρ b):=rfl
theorem t102_zero (h:E.I ρ k≤0):E.I ρ (.fn 102 (.pr x (.pr k (.pr a b))))=0:=by rw [I_102,gsE_zero h]; rfl
theorem t102_congr (h:E.I ρ k=E.I ρ i):E.I ρ (.fn 102 (.pr x (.pr k (.pr a b))))=E.I ρ (.fn 102 (.pr x (.pr i (.pr a b)))):=by
 rw [I_102,I_102,gsE_def,gsE_def,h]
theorem t102_step (h0 : 0 ≤ E.I ρ i) (h1 : E.I ρ i < E.I ρ (.fn 9 (.pr x (.int 3)))) (hn : E.I ρ n = E.I ρ i + 1) : E.I ρ (.fn 102 (.pr x (.pr n (.pr a b)))) = E.I ρ (.fn 102 (.pr x (.pr i (.pr a b)))) +
    (if (E.I ρ (.fn 1 (.pr x (.fn 6 (.pr (.fn 8 (.pr i (.int 3))) (.int 0))))) = E.I ρ a ∧ E.I ρ (.fn 1 (.pr x (.fn 6 (.pr (.fn 8 (.pr i (.int 3))) (.int 1))))) = E.I ρ b ∧ E.I ρ (.fn 1 (.pr x (.fn 6 (.pr (.fn 8 (.pr i (.int 3))) (.int 2))))) = 1) ∨ (E.I ρ (.fn 1 (.pr x (.fn 6 (.pr (.fn 8 (.pr i (.int 3))) (.int 0))))) = E.I ρ b ∧ E.I ρ (.fn 1 (.pr x (.fn 6 (.pr (.fn 8 (.pr i (.int 3))) (.int 1))))) = E.I ρ a ∧ E.I ρ (.fn 1 (.pr x (.fn 6 (.pr (.fn 8 (.pr i (.int 3))) (.int 2))))) = 2) then 2
     else if E.I ρ (.fn 1 (.pr x (.fn 6 (.pr (.fn 8 (.pr i (.int 3))) (.int 2))))) = 3 ∧ ((E.I ρ (.fn 1 (.pr x (.fn 6 (.pr (.fn 8 (.pr i (.int 3))) (.int 0))))) = E.I ρ a ∧ E.I ρ (.fn 1 (.pr x (.fn 6 (.pr (.fn 8 (.pr i (.int 3))) (.int 1))))) = E.I ρ b) ∨ (E.I ρ (.fn 1 (.pr x (.fn 6 (.pr (.fn 8 (.pr i (.int 3))) (.int 0))))) = E.I ρ b ∧ E.I ρ (.fn 1 (.pr x (.fn 6 (.pr (.fn 8 (.pr i (.int 3))) (.int 1))))) = E.I ρ a)) then 1 else 0) := by
  rw [I_102, I_102, gsE_step h0 h1 hn, scoreG_app]
  unfold sc1
  simp only [Bool.or_eq_true, Bool.and_eq_true, beq_iff_eq, and_assoc]
theorem t102_nn:0≤E.I ρ (.fn 102 (.pr x (.pr k (.pr a b)))):=by rw [I_102]; exact (scoreG_nn _ _ _).1
theorem t102_even (h:¬ E.I ρ a=E.I ρ b):(E.I ρ (.fn 102 (.pr x (.pr k (.pr a b)))) + E.I ρ (.fn 102 (.pr x (.pr k (.pr b a))))) % 2=0:=by rw [I_102,I_102]; exact scoreG_even _ _ _ h
theorem I_104:E.I ρ (.fn 104 (.pr x (.pr k d)))=if (gsE ρ x k).any (badG (E.I ρ d))=true then 2 else 0:=rfl
theorem t104_vals:E.I ρ (.fn 104 (.pr x (.pr k d)))=0∨E.I ρ (.fn 104 (.pr x (.pr k d)))=2:=by
 rw [I_104]; split
 ·exact .inr rfl
 ·exact .inl rfl
theorem t104_zero (h:E.I ρ k≤0):E.I ρ (.fn 104 (.pr x (.pr k d)))=0:=by rw [I_104,gsE_zero h]; rfl
theorem t104_congr (h:E.I ρ k=E.I ρ i):E.I ρ (.fn 104 (.pr x (.pr k d)))=E.I ρ (.fn 104 (.pr x (.pr i d))):=by
 rw [I_104,I_104,gsE_def,gsE_def,h]
theorem t104_step (h0:0≤E.I ρ i) (h1:E.I ρ i < E.I ρ (.fn 9 (.pr x (.int 3)))) (hn:E.I ρ n=E.I ρ i + 1):E.I ρ (.fn 104 (.pr x (.pr n d)))=0↔(E.I ρ (.fn 104 (.pr x (.pr i d)))=0∧0≤E.I ρ (.fn 1 (.pr x (.fn 6 (.pr (.fn 8 (.pr i (.int 3))) (.int 0)))))∧E.I ρ (.fn 1 (.pr x (.fn 6 (.pr (.fn 8 (.pr i (.int 3))) (.int 0))))) < E.I ρ d ∧
  0≤E.I ρ (.fn 1 (.pr x (.fn 6 (.pr (.fn 8 (.pr i (.int 3))) (.int 1)))))∧E.I ρ (.fn 1 (.pr x (.fn 6 (.pr (.fn 8 (.pr i (.int 3))) (.int 1))))) < E.I ρ d∧¬ E.I ρ (.fn 1 (.pr x (.fn 6 (.pr (.fn 8 (.pr i (.int 3))) (.int 0)))))=E.I ρ (.fn 1 (.pr x (.fn 6 (.pr (.fn 8 (.pr i (.int 3))) (.int 1))))) ∧
  1≤E.I ρ (.fn 1 (.pr x (.fn 6 (.pr (.fn 8 (.pr i (.int 3))) (.int 2)))))∧E.I ρ (.fn 1 (.pr x (.fn 6 (.pr (.fn 8 (.pr i (.int 3))) (.int 2)))))≤3):=by
 rw [I_104,I_104,gsE_step h0 h1 hn,List.any_append]
 simp only [List.any_cons,List.any_nil,Bool.or_false,badG]
 cases (gsE ρ x i).any (badG (E.I ρ d))
 ·simp only [Bool.false_or,Bool.or_eq_true,decide_eq_true_eq,beq_iff_eq]
  split
  ·constructor
   ·intro h; omega
   ·rintro ⟨_,h⟩; omega
  ·simp; omega
 ·simp
theorem t104_mono (h:E.I ρ (.fn 104 (.pr x (.pr n d)))=0) (hk:E.I ρ k≤E.I ρ n):E.I ρ (.fn 104 (.pr x (.pr k d)))=0:=by
 rw [I_104] at *
 have h':¬ (gsE ρ x n).any (badG (E.I ρ d))=true:=by intro h2; rw [if_pos h2] at h; omega
 rw [if_neg]
 intro h2
 apply h'
 rw [List.any_eq_true] at *
 obtain ⟨y,hy,hb⟩:=h2
 refine ⟨y,?_,hb⟩
 rw [gsE_def] at *
 have:(g3 (ints ρ x)).take (E.I ρ k).toNat=((g3 (ints ρ x)).take (E.I ρ n).toNat).take (E.I ρ k).toNat:=by rw [List.take_take]; congr 1; omega
 rw [this] at hy
 exact List.mem_of_mem_take hy
/-- valid games at a place -/
theorem t104_at (h : E.I ρ (.fn 104 (.pr x (.pr (.fn 9 (.pr x (.int 3))) d))) = 0) (h0 : 0 ≤ E.I ρ i) (h1 : E.I ρ i < E.I ρ (.fn 9 (.pr x (.int 3)))) : 0 ≤ E.I ρ (.fn 1 (.pr x (.fn 6 (.pr (.fn 8 (.pr i (.int 3))) (.int 0))))) ∧ E.I ρ (.fn 1 (.pr x (.fn 6 (.pr (.fn 8 (.pr i (.int 3))) (.int 0))))) < E.I ρ d ∧
    0 ≤ E.I ρ (.fn 1 (.pr x (.fn 6 (.pr (.fn 8 (.pr i (.int 3))) (.int 1))))) ∧ E.I ρ (.fn 1 (.pr x (.fn 6 (.pr (.fn 8 (.pr i (.int 3))) (.int 1))))) < E.I ρ d ∧ ¬ E.I ρ (.fn 1 (.pr x (.fn 6 (.pr (.fn 8 (.pr i (.int 3))) (.int 0))))) = E.I ρ (.fn 1 (.pr x (.fn 6 (.pr (.fn 8 (.pr i (.int 3))) (.int 1))))) ∧
    1 ≤ E.I ρ (.fn 1 (.pr x (.fn 6 (.pr (.fn 8 (.pr i (.int 3))) (.int 2))))) ∧ E.I ρ (.fn 1 (.pr x (.fn 6 (.pr (.fn 8 (.pr i (.int 3))) (.int 2))))) ≤ 3 := by
  have h2 : E.I ρ (.fn 104 (.pr x (.pr (.fn 6 (.pr i (.int 1))) d))) = 0 := t104_mono h (show E.I ρ i + 1 ≤ _ by omega)
  exact ((t104_step (n := .fn 6 (.pr i (.int 1))) h0 h1 rfl).1 h2).2
/-! a matrix and scores -/
theorem t103_zero (hm:E.B ρ (.fn 101 (.pr l n))=true) (hk:E.I ρ k≤0):E.B ρ (.fn 103 (.pr l (.pr l (.pr x (.pr k n)))))=true:=by
 rw [z101] at hm
 rw [z103,addM_iff]
 refine ⟨hm,hm,fun i hi j hj=>?_⟩
 have:games (x.den ρ) (E.I ρ k)=[]:=gsE_zero (x:=x) hk
 rw [this]; simp [scoreG,sumL]
theorem t103_congr (h:E.B ρ (.fn 103 (.pr L (.pr l (.pr x (.pr i n)))))=true) (hk:E.I ρ k=E.I ρ i):E.B ρ (.fn 103 (.pr L (.pr l (.pr x (.pr k n)))))=true:=by
 rw [z103] at *; rw [hk]; exact h
theorem t103_step (h:E.B ρ (.fn 103 (.pr L (.pr l (.pr x (.pr i n)))))=true) (hA:E.B ρ (.fn 101 (.pr A n))=true) (h0:0≤E.I ρ i) (h1:E.I ρ i < E.I ρ (.fn 9 (.pr x (.int 3)))) (hk:E.I ρ k=E.I ρ i + 1)
  (hv:∀ p q:Nat,p < (E.I ρ n).toNat→q < (E.I ρ n).toNat→get2 (matE ρ A) p q=get2 (matE ρ L) p q + sc1 (p:Int) (q:Int) (E.I ρ (.fn 1 (.pr x (.fn 6 (.pr (.fn 8 (.pr i (.int 3))) (.int 0))))),E.I ρ (.fn 1 (.pr x (.fn 6 (.pr (.fn 8 (.pr i (.int 3))) (.int 1))))),E.I ρ (.fn 1 (.pr x (.fn 6 (.pr (.fn 8 (.pr i (.int 3))) (.int 2))))))) :
  E.B ρ (.fn 103 (.pr A (.pr l (.pr x (.pr k n)))))=true:=by
 rw [z103,addM_iff] at *
 refine ⟨hA,h.2.1,fun p hp q hq=>?_⟩
 have hs:games (x.den ρ) (E.I ρ k)=games (x.den ρ) (E.I ρ i)++[_]:=gsE_step h0 h1 hk
 rw [hs,scoreG_app,hv p q hp hq,h.2.2 p hp q hq]; omega
end
end Go.SX

set_option linter.unusedVariables false
set_option linter.unusedSimpArgs false
namespace Go.SX
theorem sumF_nnk (f:Nat→Int):∀ k,(∀ i,i < k→0≤f i)→0≤sumF f k
 | 0,_=>by simp [sumF]
 | k + 1,h=>by have:=sumF_nnk f k (fun i hi=>h i (by omega)); have:=h k (by omega); simp only [sumF]; omega
theorem prod_le {p q:Int} (p0:0≤p) (p1:p≤1000) (q0:0≤q) (q1:q≤1000):0≤p * q∧p * q≤1000000:=by
 refine ⟨Int.mul_nonneg p0 q0,?_⟩
 have:=Int.mul_le_mul p1 q1 q0 (by omega:(0:Int)≤1000)
 omega
theorem tdiv_half (X Y:Int) (hx:0≤X) (hy:0≤Y) (hp:0 < X + Y) (he:(X + Y) % 2=0):(500 * X).tdiv ((X + Y).tdiv 2)=(1000 * X).tdiv (X + Y):=by
 obtain ⟨m,hm⟩:∃ m,X + Y=2 * m:=⟨(X + Y) / 2,by omega⟩
 have hm0:0 < m:=by omega
 have e2:(X + Y).tdiv 2=m:=by rw [Int.tdiv_eq_ediv_of_nonneg (by omega)]; omega
 rw [e2,hm,Int.tdiv_eq_ediv_of_nonneg (by omega),Int.tdiv_eq_ediv_of_nonneg (by omega)]
 have:1000 * X=2 * (500 * X):=by omega
 rw [this,Int.mul_ediv_mul_of_pos _ _ (by omega:(0:Int) < 2)]
section
variable {ρ : Env} {x l L A w a b d i n v h k g o j z e c m u : E}
/-! games that are added -/
theorem t103_one (h3:E.B ρ (.fn 103 (.pr L (.pr l (.pr x (.pr i n)))))=true) (hm:E.B ρ (.fn 101 (.pr L n))=true) (h0:0≤E.I ρ i) (h1:E.I ρ i < E.I ρ (.fn 9 (.pr x (.int 3)))) (hk:E.I ρ k=E.I ρ i + 1)
  (a0:0≤E.I ρ a) (a1:E.I ρ a < E.I ρ n) (b0:0≤E.I ρ b) (b1:E.I ρ b < E.I ρ n) (hv:E.I ρ v=E.I ρ (.fn 1 (.pr (.fn 1 (.pr L a)) b)) + 2) (hab:¬ E.I ρ a=E.I ρ b)
  (ho:(E.I ρ (.fn 1 (.pr x (.fn 6 (.pr (.fn 8 (.pr i (.int 3))) (.int 2)))))=1∧E.I ρ a=E.I ρ (.fn 1 (.pr x (.fn 6 (.pr (.fn 8 (.pr i (.int 3))) (.int 0)))))∧E.I ρ b=E.I ρ (.fn 1 (.pr x (.fn 6 (.pr (.fn 8 (.pr i (.int 3))) (.int 1)))))) ∨
   (E.I ρ (.fn 1 (.pr x (.fn 6 (.pr (.fn 8 (.pr i (.int 3))) (.int 2)))))=2∧E.I ρ a=E.I ρ (.fn 1 (.pr x (.fn 6 (.pr (.fn 8 (.pr i (.int 3))) (.int 1)))))∧E.I ρ b=E.I ρ (.fn 1 (.pr x (.fn 6 (.pr (.fn 8 (.pr i (.int 3))) (.int 0))))))) :
  E.B ρ (.fn 103 (.pr (.fn 2 (.pr L (.pr a (.fn 21 (.pr h (.fn 2 (.pr (.fn 1 (.pr L a)) (.pr b v)))))))) (.pr l (.pr x (.pr k n)))))=true:=by
 refine t103_step h3 (t101_set hm a0 a1) h0 h1 hk fun p q hp hq=>?_
 rw [z101] at hm
 rw [I_nn] at hv
 rw [matE_set,set_get hm (by omega) (by omega)]
 unfold sc1
 simp only [Bool.or_eq_true,Bool.and_eq_true,beq_iff_eq]
 by_cases e:p=(E.I ρ a).toNat∧q=(E.I ρ b).toNat
 ·rw [if_pos e,hv,← e.1,← e.2,if_pos (by omega)]
 ·rw [if_neg e,if_neg (by omega),if_neg (by omega)]; omega
theorem t103_two (h3:E.B ρ (.fn 103 (.pr L (.pr l (.pr x (.pr i n)))))=true) (hm:E.B ρ (.fn 101 (.pr L n))=true) (h0:0≤E.I ρ i) (h1:E.I ρ i < E.I ρ (.fn 9 (.pr x (.int 3)))) (hk:E.I ρ k=E.I ρ i + 1)
  (a0:0≤E.I ρ a) (a1:E.I ρ a < E.I ρ n) (b0:0≤E.I ρ b) (b1:E.I ρ b < E.I ρ n) (hv:E.I ρ v=E.I ρ (.fn 1 (.pr (.fn 1 (.pr L a)) b)) + 1) (hab:¬ E.I ρ a=E.I ρ b) (hA:A=.fn 2 (.pr L (.pr a (.fn 21 (.pr h (.fn 2 (.pr (.fn 1 (.pr L a)) (.pr b v))))))))
  (hu:E.I ρ u=E.I ρ (.fn 1 (.pr (.fn 1 (.pr A b)) a)) + 1)
  (ho:E.I ρ (.fn 1 (.pr x (.fn 6 (.pr (.fn 8 (.pr i (.int 3))) (.int 2)))))=3) (ea:E.I ρ a=E.I ρ (.fn 1 (.pr x (.fn 6 (.pr (.fn 8 (.pr i (.int 3))) (.int 0)))))) (eb:E.I ρ b=E.I ρ (.fn 1 (.pr x (.fn 6 (.pr (.fn 8 (.pr i (.int 3))) (.int 1)))))) :
  E.B ρ (.fn 103 (.pr (.fn 2 (.pr A (.pr b (.fn 21 (.pr g (.fn 2 (.pr (.fn 1 (.pr A b)) (.pr a u)))))))) (.pr l (.pr x (.pr k n)))))=true:=by
 have hmA:E.B ρ (.fn 101 (.pr A n))=true:=by rw [hA]; exact t101_set hm a0 a1
 refine t103_step h3 (t101_set hmA b0 b1) h0 h1 hk fun p q hp hq=>?_
 rw [z101] at hm hmA
 rw [I_nn] at hv hu
 have hgA:∀ p q,get2 (matE ρ A) p q=if p=(E.I ρ a).toNat∧q=(E.I ρ b).toNat then E.I ρ v else get2 (matE ρ L) p q:=by
  intro p q; rw [hA,matE_set,set_get hm (by omega) (by omega)]
 rw [hgA,if_neg (by omega)] at hu
 rw [matE_set,set_get hmA (by omega) (by omega),hgA]
 unfold sc1
 simp only [Bool.or_eq_true,Bool.and_eq_true,beq_iff_eq]
 rw [if_neg (by omega:¬ (((E.I ρ (.fn 1 (.pr x (.fn 6 (.pr (.fn 8 (.pr i (.int 3))) (.int 0)))))=(p:Int)∧E.I ρ (.fn 1 (.pr x (.fn 6 (.pr (.fn 8 (.pr i (.int 3))) (.int 1)))))=(q:Int))∧E.I ρ (.fn 1 (.pr x (.fn 6 (.pr (.fn 8 (.pr i (.int 3))) (.int 2)))))=1)∨((E.I ρ (.fn 1 (.pr x (.fn 6 (.pr (.fn 8 (.pr i (.int 3))) (.int 0)))))=(q:Int)∧E.I ρ (.fn 1 (.pr x (.fn 6 (.pr (.fn 8 (.pr i (.int 3))) (.int 1)))))=(p:Int))∧E.I ρ (.fn 1 (.pr x (.fn 6 (.pr (.fn 8 (.pr i (.int 3))) (.int 2)))))=2)))]
 by_cases e:p=(E.I ρ b).toNat∧q=(E.I ρ a).toNat
 ·rw [if_pos e,hu,← e.1,← e.2,if_pos (by omega)]
 ·rw [if_neg e]
  by_cases e2:p=(E.I ρ a).toNat∧q=(E.I ρ b).toNat
  ·rw [if_pos e2,hv,← e2.1,← e2.2,if_pos (by omega)]
  ·rw [if_neg e2,if_neg (by omega)]; omega
/-! rates -/
theorem I_105:E.I ρ (.fn 105 (.pr l (.pr a b)))=rateI (E.I ρ a) (E.I ρ b) (E.I ρ (.fn 1 (.pr (.fn 1 (.pr l a)) b))) (E.I ρ (.fn 1 (.pr (.fn 1 (.pr l b)) a))):=by
 rw [I_nn,I_nn]; rfl
theorem t102_all:E.I ρ (.fn 102 (.pr x (.pr (.fn 9 (.pr x (.int 3))) (.pr a b))))=scoreG (g3 (ints ρ x)) (E.I ρ a) (E.I ρ b):=by
 rw [I_102,gsE_def,rw3_I,Int.toNat_natCast,List.take_length]
theorem I_106:E.I ρ (.fn 106 (.pr x (.pr a b)))=rateI (E.I ρ a) (E.I ρ b) (E.I ρ (.fn 102 (.pr x (.pr (.fn 9 (.pr x (.int 3))) (.pr a b))))) (E.I ρ (.fn 102 (.pr x (.pr (.fn 9 (.pr x (.int 3))) (.pr b a))))):=by
 rw [t102_all,t102_all]; rfl
theorem rateI_500 {a b X Y:Int} (h:a=b∨X + Y=0):rateI a b X Y=500:=by
 unfold rateI
 rw [if_pos]
 simpa using h
theorem rateI_div {a b X Y:Int} (h:¬ a=b) (h2:¬ X + Y=0):rateI a b X Y=(1000 * X).tdiv (X + Y):=by
 unfold rateI
 rw [if_neg]
 simp [h,h2]
theorem t105_500 (h:E.I ρ a=E.I ρ b∨E.I ρ (.fn 1 (.pr (.fn 1 (.pr l a)) b)) + E.I ρ (.fn 1 (.pr (.fn 1 (.pr l b)) a))=0):E.I ρ (.fn 105 (.pr l (.pr a b)))=500:=by rw [I_105]; exact rateI_500 h
theorem t_quo (x0:0≤E.I ρ x) (x1:E.I ρ x≤100000) (y0:0≤E.I ρ l) (y1:E.I ρ l≤100000) (hp:¬ E.I ρ x + E.I ρ l=0):E.I ρ (.ar .quo .i64 (.ar .mul .i64 (.int 1000) x) (.ar .add .i64 x l))=(1000 * E.I ρ x).tdiv (E.I ρ x + E.I ρ l) ∧
  0≤(1000 * E.I ρ x).tdiv (E.I ρ x + E.I ρ l)∧(1000 * E.I ρ x).tdiv (E.I ρ x + E.I ρ l)≤1000:=by
 have e1:E.I ρ (.ar .mul .i64 (.int 1000) x)=1000 * E.I ρ x:=wrap_mul (a:=.int 1000) (show _≤1000 * E.I ρ x by omega) (show 1000 * E.I ρ x < _ by omega)
 have e2:E.I ρ (.ar .add .i64 x l)=E.I ρ x + E.I ρ l:=wrap_add (by omega) (by omega)
 have hr:=rateI_nn 0 1 (E.I ρ x) (E.I ρ l) x0 y0
 rw [rateI_div (by omega) hp] at hr
 refine ⟨?_,hr⟩
 rw [wrap_quo (by rw [e1,e2]; omega) (by rw [e1,e2]; omega),e1,e2]
theorem t105_quo (hab:¬ E.I ρ a=E.I ρ b) (x0:0≤E.I ρ (.fn 1 (.pr (.fn 1 (.pr l a)) b))) (x1:E.I ρ (.fn 1 (.pr (.fn 1 (.pr l a)) b))≤100000) (y0:0≤E.I ρ (.fn 1 (.pr (.fn 1 (.pr l b)) a))) (y1:E.I ρ (.fn 1 (.pr (.fn 1 (.pr l b)) a))≤100000) (hp:¬ E.I ρ (.fn 1 (.pr (.fn 1 (.pr l a)) b)) + E.I ρ (.fn 1 (.pr (.fn 1 (.pr l b)) a))=0) :
  E.I ρ (.ar .quo .i64 (.ar .mul .i64 (.int 1000) (.fn 1 (.pr (.fn 1 (.pr l a)) b))) (.ar .add .i64 (.fn 1 (.pr (.fn 1 (.pr l a)) b)) (.fn 1 (.pr (.fn 1 (.pr l b)) a))))=E.I ρ (.fn 105 (.pr l (.pr a b)))∧0≤E.I ρ (.fn 105 (.pr l (.pr a b)))∧E.I ρ (.fn 105 (.pr l (.pr a b)))≤1000:=by
 rw [I_105,rateI_div hab hp]
 exact t_quo x0 x1 y0 y1 hp
theorem t106_500 (h:E.I ρ a=E.I ρ b∨E.I ρ (.fn 102 (.pr x (.pr (.fn 9 (.pr x (.int 3))) (.pr a b)))) + E.I ρ (.fn 102 (.pr x (.pr (.fn 9 (.pr x (.int 3))) (.pr b a))))=0):E.I ρ (.fn 106 (.pr x (.pr a b)))=500:=by rw [I_106]; exact rateI_500 h
theorem t106_nil:E.I ρ (.fn 106 (.pr (.fn 10 z) (.pr a b)))=500:=t106_500 (.inr (by rw [t102_all,t102_all]; rfl))
theorem t106_quo (hab:¬ E.I ρ a=E.I ρ b) (hx:E.I ρ u=E.I ρ (.fn 102 (.pr x (.pr (.fn 9 (.pr x (.int 3))) (.pr a b))))) (hy:E.I ρ v=E.I ρ (.fn 102 (.pr x (.pr (.fn 9 (.pr x (.int 3))) (.pr b a))))) (x0:0≤E.I ρ u) (x1:E.I ρ u≤100000) (y0:0≤E.I ρ v) (y1:E.I ρ v≤100000) (hp:¬ E.I ρ (.ar .add .i64 u v)=0) :
  ¬ E.I ρ (.ar .quo .i64 (.ar .add .i64 u v) (.int 2))=0∧E.I ρ (.ar .quo .i64 (.ar .mul .i64 (.int 500) u) (.ar .quo .i64 (.ar .add .i64 u v) (.int 2)))=E.I ρ (.fn 106 (.pr x (.pr a b)))∧0≤E.I ρ (.fn 106 (.pr x (.pr a b)))∧E.I ρ (.fn 106 (.pr x (.pr a b)))≤1000:=by
 have e2:E.I ρ (.ar .add .i64 u v)=E.I ρ u + E.I ρ v:=wrap_add (by omega) (by omega)
 rw [e2] at hp
 have hev:=t102_even (ρ:=ρ) (x:=x) (k:=.fn 9 (.pr x (.int 3))) hab
 rw [← hx,← hy] at hev
 have e1:E.I ρ (.ar .mul .i64 (.int 500) u)=500 * E.I ρ u:=wrap_mul (a:=.int 500) (show _≤500 * E.I ρ u by omega) (show 500 * E.I ρ u < _ by omega)
 have e3:E.I ρ (.ar .quo .i64 (.ar .add .i64 u v) (.int 2))=(E.I ρ u + E.I ρ v).tdiv 2:=by
  have hd:(E.I ρ u + E.I ρ v).tdiv 2=(E.I ρ u + E.I ρ v) / 2:=Int.tdiv_eq_ediv_of_nonneg (by omega)
  have:=wrap_quo (ρ:=ρ) (a:=.ar .add .i64 u v) (b:=.int 2) (by rw [e2]; show _≤(E.I ρ u + E.I ρ v).tdiv 2; omega) (by rw [e2]; show (E.I ρ u + E.I ρ v).tdiv 2 < _; omega)
  rw [this,e2]; rfl
 have hh:=tdiv_half (E.I ρ u) (E.I ρ v) x0 y0 (by omega) hev
 have hr:=rateI_nn (E.I ρ a) (E.I ρ b) (E.I ρ u) (E.I ρ v) x0 y0
 have hr':=hr
 rw [rateI_div hab hp] at hr'
 have hd:(E.I ρ u + E.I ρ v).tdiv 2=(E.I ρ u + E.I ρ v) / 2:=Int.tdiv_eq_ediv_of_nonneg (by omega)
 refine ⟨by rw [e3,hd]; omega,?_,?_⟩
 ·rw [wrap_quo (by rw [e1,e3,hh]; omega) (by rw [e1,e3,hh]; omega),e1,e3,hh,I_106,← hx,← hy,rateI_div hab hp]
 ·rw [I_106,← hx,← hy]; exact hr
/-! weights -/
theorem z114:(E.B ρ (.fn 114 (.pr w k))=true)=(okW (ints ρ w) (E.I ρ k).toNat=true):=rfl
theorem okW_iff (w:List Int) (k:Nat):okW w k=true↔∀ i,i < k→i < w.length→0≤w.getD i 0∧w.getD i 0≤1000:=by
 unfold okW
 rw [List.all_eq_true]
 constructor
 ·intro h i hi hl
  have:=h w[i] (List.mem_iff_getElem.2 ⟨i,by rw [List.length_take]; omega,by simp⟩)
  rw [getD_lt w 0 hl]; simpa using this
 ·intro h y hy
  obtain ⟨i,hi,rfl⟩:=List.mem_iff_getElem.1 hy
  rw [List.length_take] at hi
  have:=h i (by omega) (by omega)
  rw [getD_lt w 0 (by omega)] at this
  simpa using this
theorem t114_zero (h:E.I ρ k≤0):E.B ρ (.fn 114 (.pr w k))=true:=by
 rw [z114,okW_iff]; intro i hi; omega
theorem t114_congr (h:E.I ρ k=E.I ρ i):E.B ρ (.fn 114 (.pr w k))=E.B ρ (.fn 114 (.pr w i)):=by
 show okW (ints ρ w) (E.I ρ k).toNat=okW (ints ρ w) (E.I ρ i).toNat
 rw [h]
theorem t114_step (h0:0≤E.I ρ i) (h1:E.I ρ i < E.I ρ (.fn 0 w)) (hn:E.I ρ n=E.I ρ i + 1):E.B ρ (.fn 114 (.pr w n))=true↔(E.B ρ (.fn 114 (.pr w i))=true∧0≤E.I ρ (.fn 1 (.pr w i))∧E.I ρ (.fn 1 (.pr w i))≤1000):=by
 rw [← ints_len] at h1
 have en:(E.I ρ n).toNat=(E.I ρ i).toNat + 1:=by omega
 rw [z114,z114,okW_iff,okW_iff,I_nth,en]
 constructor
 ·intro h
  exact ⟨fun q hq hl=>h q (by omega) hl,h (E.I ρ i).toNat (by omega) (by omega)⟩
 ·rintro ⟨h,h2⟩ q hq hl
  rcases Nat.lt_or_ge q (E.I ρ i).toNat with hh | hh
  ·exact h q hh hl
  ·have:q=(E.I ρ i).toNat:=by omega
   rw [this]; exact h2
theorem t114_at (h:E.B ρ (.fn 114 (.pr w k))=true) (h0:0≤E.I ρ i) (h1:E.I ρ i < E.I ρ (.fn 0 w)) (hk:E.I ρ i < E.I ρ k):0≤E.I ρ (.fn 1 (.pr w i))∧E.I ρ (.fn 1 (.pr w i))≤1000:=by
 rw [← ints_len] at h1
 rw [z114,okW_iff] at h
 rw [I_nth]; exact h _ (by omega) (by omega)
theorem t114_less (h:E.B ρ (.fn 114 (.pr w k))=true) (hk:E.I ρ i≤E.I ρ k):E.B ρ (.fn 114 (.pr w i))=true:=by
 rw [z114,okW_iff] at *
 exact fun q hq hl=>h q (by omega) hl
/-! values -/
theorem I_107:E.I ρ (.fn 107 (.pr l (.pr w (.pr a k))))=valM (matE ρ l) (ints ρ w) (E.I ρ a) (E.I ρ k).toNat:=rfl
theorem I_108:E.I ρ (.fn 108 (.pr x (.pr w (.pr a k))))=valG (g3 (ints ρ x)) (ints ρ w) (E.I ρ a) (E.I ρ k).toNat:=rfl
theorem t107_zero (h:E.I ρ k≤0):E.I ρ (.fn 107 (.pr l (.pr w (.pr a k))))=0:=by
 have e:(E.I ρ k).toNat=0:=by omega
 rw [I_107,e]; rfl
theorem t108_zero (h:E.I ρ k≤0):E.I ρ (.fn 108 (.pr x (.pr w (.pr a k))))=0:=by
 have e:(E.I ρ k).toNat=0:=by omega
 rw [I_108,e]; rfl
theorem t107_congr (h:E.I ρ k=E.I ρ i):E.I ρ (.fn 107 (.pr l (.pr w (.pr a k))))=E.I ρ (.fn 107 (.pr l (.pr w (.pr a i)))):=by rw [I_107,I_107,h]
theorem t108_congr (h:E.I ρ k=E.I ρ i):E.I ρ (.fn 108 (.pr x (.pr w (.pr a k))))=E.I ρ (.fn 108 (.pr x (.pr w (.pr a i)))):=by rw [I_108,I_108,h]
theorem t107_step (h0:0≤E.I ρ i) (hn:E.I ρ n=E.I ρ i + 1):E.I ρ (.fn 107 (.pr l (.pr w (.pr a n))))=E.I ρ (.fn 107 (.pr l (.pr w (.pr a i)))) + E.I ρ (.fn 1 (.pr w i)) * E.I ρ (.fn 105 (.pr l (.pr a i))):=by
 have en:(E.I ρ n).toNat=(E.I ρ i).toNat + 1:=by omega
 have ei:(((E.I ρ i).toNat:Nat):Int)=E.I ρ i:=by omega
 rw [I_107,I_107,en,I_nth]
 show sumF _ _ + (ints ρ w).getD (E.I ρ i).toNat 0 * rateM (matE ρ l) (E.I ρ a) (((E.I ρ i).toNat:Nat):Int)=_
 rw [ei]; rfl
theorem t108_step (h0:0≤E.I ρ i) (hn:E.I ρ n=E.I ρ i + 1):E.I ρ (.fn 108 (.pr x (.pr w (.pr a n))))=E.I ρ (.fn 108 (.pr x (.pr w (.pr a i)))) + E.I ρ (.fn 1 (.pr w i)) * E.I ρ (.fn 106 (.pr x (.pr a i))):=by
 have en:(E.I ρ n).toNat=(E.I ρ i).toNat + 1:=by omega
 have ei:(((E.I ρ i).toNat:Nat):Int)=E.I ρ i:=by omega
 rw [I_108,I_108,en,I_nth]
 show sumF _ _ + (ints ρ w).getD (E.I ρ i).toNat 0 * rateG (g3 (ints ρ x)) (E.I ρ a) (((E.I ρ i).toNat:Nat):Int)=_
 rw [ei]; rfl
/-! the best one -/
noncomputable def up (ρ:Env) (l w d:E) (k:Nat):Int × Int:=bestUp (fun i=>valM (matE ρ l) (ints ρ w) (i:Int) (E.I ρ d).toNat) k
noncomputable def dn (ρ:Env) (x w d:E) (j:Nat):Int × Int:=bestDn (fun i=>valG (g3 (ints ρ x)) (ints ρ w) (i:Int) (E.I ρ d).toNat) (E.I ρ d).toNat j
theorem I_110:E.I ρ (.fn 110 (.pr l (.pr w (.pr d k))))=(up ρ l w d (E.I ρ k).toNat).1:=rfl
theorem I_111:E.I ρ (.fn 111 (.pr l (.pr w (.pr d k))))=(up ρ l w d (E.I ρ k).toNat).2:=rfl
theorem I_112:E.I ρ (.fn 112 (.pr x (.pr w (.pr d j))))=(dn ρ x w d (E.I ρ j).toNat).1:=rfl
theorem I_113:E.I ρ (.fn 113 (.pr x (.pr w (.pr d j))))=(dn ρ x w d (E.I ρ j).toNat).2:=rfl
theorem t110_zero (h:E.I ρ k≤0):E.I ρ (.fn 110 (.pr l (.pr w (.pr d k))))=0∧E.I ρ (.fn 111 (.pr l (.pr w (.pr d k))))=-1:=by
 have e:(E.I ρ k).toNat=0:=by omega
 rw [I_110,I_111,e]; exact ⟨rfl,rfl⟩
theorem t110_congr (h:E.I ρ k=E.I ρ i):E.I ρ (.fn 110 (.pr l (.pr w (.pr d k))))=E.I ρ (.fn 110 (.pr l (.pr w (.pr d i))))∧E.I ρ (.fn 111 (.pr l (.pr w (.pr d k))))=E.I ρ (.fn 111 (.pr l (.pr w (.pr d i)))):=by
 rw [I_110,I_111,I_110,I_111,h]; exact ⟨rfl,rfl⟩
theorem t110_step (h0:0≤E.I ρ i) (hn:E.I ρ n=E.I ρ i + 1):(E.I ρ (.fn 111 (.pr l (.pr w (.pr d i)))) < E.I ρ (.fn 107 (.pr l (.pr w (.pr i d))))→E.I ρ (.fn 110 (.pr l (.pr w (.pr d n))))=E.I ρ i∧E.I ρ (.fn 111 (.pr l (.pr w (.pr d n))))=E.I ρ (.fn 107 (.pr l (.pr w (.pr i d))))) ∧
  (¬ E.I ρ (.fn 111 (.pr l (.pr w (.pr d i)))) < E.I ρ (.fn 107 (.pr l (.pr w (.pr i d))))→E.I ρ (.fn 110 (.pr l (.pr w (.pr d n))))=E.I ρ (.fn 110 (.pr l (.pr w (.pr d i))))∧E.I ρ (.fn 111 (.pr l (.pr w (.pr d n))))=E.I ρ (.fn 111 (.pr l (.pr w (.pr d i))))):=by
 have en:(E.I ρ n).toNat=(E.I ρ i).toNat + 1:=by omega
 have ei:(((E.I ρ i).toNat:Nat):Int)=E.I ρ i:=by omega
 have es:up ρ l w d ((E.I ρ i).toNat + 1)=if (up ρ l w d (E.I ρ i).toNat).2 < valM (matE ρ l) (ints ρ w) (((E.I ρ i).toNat:Nat):Int) (E.I ρ d).toNat then ((((E.I ρ i).toNat:Nat):Int),valM (matE ρ l) (ints ρ w) (((E.I ρ i).toNat:Nat):Int) (E.I ρ d).toNat) else up ρ l w d (E.I ρ i).toNat:=rfl
 rw [ei] at es
 rw [I_110,I_111,I_110,I_111,I_107,en,es]
 constructor
 ·intro h; rw [if_pos h]; exact ⟨rfl,rfl⟩
 ·intro h; rw [if_neg h]; exact ⟨rfl,rfl⟩
theorem t112_zero (h:E.I ρ j≤0):E.I ρ (.fn 112 (.pr x (.pr w (.pr d j))))=0∧E.I ρ (.fn 113 (.pr x (.pr w (.pr d j))))=0:=by
 have e:(E.I ρ j).toNat=0:=by omega
 rw [I_112,I_113,e]; exact ⟨rfl,rfl⟩
theorem t112_congr (h:E.I ρ j=E.I ρ i):E.I ρ (.fn 112 (.pr x (.pr w (.pr d j))))=E.I ρ (.fn 112 (.pr x (.pr w (.pr d i))))∧E.I ρ (.fn 113 (.pr x (.pr w (.pr d j))))=E.I ρ (.fn 113 (.pr x (.pr w (.pr d i)))):=by
 rw [I_112,I_113,I_112,I_113,h]; exact ⟨rfl,rfl⟩
theorem t112_step (h0:0≤E.I ρ j) (h1:E.I ρ j < E.I ρ d) (hn:E.I ρ n=E.I ρ j + 1) (ha:E.I ρ a=E.I ρ d - 1 - E.I ρ j):(E.I ρ (.fn 113 (.pr x (.pr w (.pr d j))))≤E.I ρ (.fn 108 (.pr x (.pr w (.pr a d))))→E.I ρ (.fn 112 (.pr x (.pr w (.pr d n))))=E.I ρ a∧E.I ρ (.fn 113 (.pr x (.pr w (.pr d n))))=E.I ρ (.fn 108 (.pr x (.pr w (.pr a d))))) ∧
  (¬ E.I ρ (.fn 113 (.pr x (.pr w (.pr d j))))≤E.I ρ (.fn 108 (.pr x (.pr w (.pr a d))))→E.I ρ (.fn 112 (.pr x (.pr w (.pr d n))))=E.I ρ (.fn 112 (.pr x (.pr w (.pr d j))))∧E.I ρ (.fn 113 (.pr x (.pr w (.pr d n))))=E.I ρ (.fn 113 (.pr x (.pr w (.pr d j))))):=by
 have en:(E.I ρ n).toNat=(E.I ρ j).toNat + 1:=by omega
 have ea:((((E.I ρ d).toNat - 1 - (E.I ρ j).toNat:Nat)):Int)=E.I ρ a:=by omega
 have es:dn ρ x w d ((E.I ρ j).toNat + 1)=if (dn ρ x w d (E.I ρ j).toNat).2≤valG (g3 (ints ρ x)) (ints ρ w) ((((E.I ρ d).toNat - 1 - (E.I ρ j).toNat:Nat)):Int) (E.I ρ d).toNat then (((((E.I ρ d).toNat - 1 - (E.I ρ j).toNat:Nat)):Int),valG (g3 (ints ρ x)) (ints ρ w) ((((E.I ρ d).toNat - 1 - (E.I ρ j).toNat:Nat)):Int) (E.I ρ d).toNat) else dn ρ x w d (E.I ρ j).toNat:=rfl
 rw [ea] at es
 rw [I_112,I_113,I_112,I_113,I_108,en,es]
 constructor
 ·intro h; rw [if_pos h]; exact ⟨rfl,rfl⟩
 ·intro h; rw [if_neg h]; exact ⟨rfl,rfl⟩
/-! scores of games -/
theorem t118_nil (h:E.B ρ (.fn 116 (.pr l n))=true):E.B ρ (.fn 118 (.pr l (.pr (.fn 10 z) n)))=true:=by
 rw [z116] at h
 rw [z118,h,addM_iff]
 exact ⟨zeros_mat _,zeros_mat _,fun i hi j hj=>by
  have:scoreG (g3 (ints ρ (.fn 10 z))) (i:Int) (j:Int)=0:=rfl
  rw [this]; omega⟩
theorem t118_of (h:E.B ρ (.fn 103 (.pr L (.pr l (.pr x (.pr (.fn 9 (.pr x (.int 3))) n)))))=true) (hz:E.B ρ (.fn 116 (.pr l n))=true):E.B ρ (.fn 118 (.pr L (.pr x n)))=true:=by
 rw [z116] at hz
 rw [z103,hz] at h
 rw [z118]
 have:games (x.den ρ) (E.I ρ (.fn 9 (.pr x (.int 3))))=g3 (ints ρ x):=by
  show (g3 (ints ρ x)).take (E.I ρ (.fn 9 (.pr x (.int 3)))).toNat=_
  rw [rw3_I,Int.toNat_natCast,List.take_length]
 rw [this] at h; exact h
theorem get2_out {M:List (List Int)} {n:Nat} (h:isMat M n=true) (i j:Nat) (ho:n≤i∨n≤j):get2 M i j=0:=by
 rw [isMat_iff] at h
 unfold get2
 by_cases hi:i < n
 ·have:=h.2 i hi
  rw [List.getD_eq_getElem?_getD (l:=M.getD i []),List.getElem?_eq_none (by omega)]; rfl
 ·have e:M.getD i []=[]:=by rw [List.getD_eq_getElem?_getD,List.getElem?_eq_none (by omega)]; rfl
  rw [e]; rfl
theorem addM_get {M:List (List Int)} {gs:List (Int × Int × Int)} {n:Nat} (h:addM M (List.replicate n (List.replicate n 0)) gs n=true) (i j:Nat):0≤get2 M i j∧(i < n→j < n→get2 M i j=scoreG gs (i:Int) (j:Int)):=by
 rw [addM_iff] at h
 by_cases hij:i < n∧j < n
 ·have:=h.2.2 i hij.1 j hij.2
  rw [zeros_get n i j hij.1 hij.2] at this
  have h2:=(scoreG_nn gs (i:Int) (j:Int)).1
  exact ⟨by omega,fun _ _=>by omega⟩
 ·rw [get2_out h.1 i j (by omega)]
  exact ⟨by omega,fun h1 h2=>absurd ⟨h1,h2⟩ hij⟩
theorem t_best (h:E.B ρ (.fn 118 (.pr L (.pr x d)))=true) (hd:1≤E.I ρ d) (hl:E.I ρ (.fn 0 w)=E.I ρ d) (hw:E.B ρ (.fn 114 (.pr w (.fn 0 w)))=true) (hj:E.I ρ j=E.I ρ d) :
  E.I ρ (.fn 110 (.pr L (.pr w (.pr d d))))=E.I ρ (.fn 112 (.pr x (.pr w (.pr d j))))∧E.I ρ (.fn 111 (.pr L (.pr w (.pr d d))))=E.I ρ (.fn 113 (.pr x (.pr w (.pr d j)))):=by
 rw [z118] at h
 rw [z114,okW_iff,hl] at hw
 rw [← ints_len] at hl
 have hw':∀ b,b < (E.I ρ d).toNat→0≤(ints ρ w).getD b 0:=fun b hb=>(hw b hb (by omega)).1
 have hM:∀ (i b:Nat),0≤rateM (matE ρ L) (i:Int) (b:Int):=by
  intro i b
  unfold rateM
  rw [mAt_nat,mAt_nat]
  exact (rateI_nn _ _ _ _ (addM_get h i b).1 (addM_get h b i).1).1
 have hG:∀ (i b:Nat),0≤rateG (g3 (ints ρ x)) (i:Int) (b:Int):=by
  intro i b
  unfold rateG
  exact (rateI_nn _ _ _ _ (scoreG_nn _ _ _).1 (scoreG_nn _ _ _).1).1
 have key:=best_eq (fun i=>valM (matE ρ L) (ints ρ w) (i:Int) (E.I ρ d).toNat) (fun i=>valG (g3 (ints ρ x)) (ints ρ w) (i:Int) (E.I ρ d).toNat) (E.I ρ d).toNat (by omega)
  (fun i=>sumF_nnk _ _ fun b hb=>Int.mul_nonneg (hw' b hb) (hM i b)) (fun i=>sumF_nnk _ _ fun b hb=>Int.mul_nonneg (hw' b hb) (hG i b)) (fun i hi=>sumF_congr _ _ _ fun b hb=>by
   have e1:=(addM_get h i b).2 hi hb
   have e2:=(addM_get h b i).2 hb hi
   have:rateM (matE ρ L) (i:Int) (b:Int)=rateG (g3 (ints ρ x)) (i:Int) (b:Int):=by
    unfold rateM rateG
    rw [mAt_nat,mAt_nat,e1,e2]
   rw [this])
 have k2:up ρ L w d (E.I ρ d).toNat=dn ρ x w d (E.I ρ d).toNat:=key
 rw [I_110,I_111,I_112,I_113,hj,k2]; exact ⟨rfl,rfl⟩
theorem t117_congr (h:E.B ρ (.fn 117 (.pr l g))=true) (hk:E.I ρ k=E.I ρ g):E.B ρ (.fn 117 (.pr l k))=true:=by
 rw [z117] at *; rw [hk]; exact h
theorem rw3_nn:0≤E.I ρ (.fn 9 a):=Int.natCast_nonneg _
end
end Go.SX

set_option linter.unusedVariables false
set_option linter.unusedSimpArgs false
namespace Go.SX
theorem mem_bools:∀ (n:Nat) (l:List Bool),l.length=n→l∈bools n
 | 0,l,h=>by simp [bools,List.length_eq_zero_iff.1 h]
 | n + 1,[],h=>by simp at h
 | n + 1,b::l,h=>by
  simp only [bools,List.mem_flatMap]
  refine ⟨l,mem_bools n l (by simpa using h),?_⟩
  cases b <;> simp
/-- a set, by what lies in it -/
def Dom (M : List (List Int)) (n : Nat) (p : Nat → Bool) : Prop := ∀ y, y < n → p y = true → ∀ x, x < n → beatsM M y x = true ∨ p x = true
theorem getD_map_range (n:Nat) (p:Nat→Bool) {x:Nat} (h:x < n):((List.range n).map p).getD x false=p x:=by
 rw [List.getD_eq_getElem?_getD,List.getElem?_map,List.getElem?_range h]; rfl
theorem closedS_iff (M:List (List Int)) (n:Nat) (S:List Bool):closedS M n S=true↔Dom M n (fun x=>S.getD x false):=by
 unfold closedS Dom
 simp only [List.all_eq_true,List.mem_range,Bool.or_eq_true,Bool.not_eq_true']
 constructor
 ·intro h y hy hp x hx
  rcases h y hy with h | h
  ·rw [hp] at h; cases h
  ·exact h x hx
 ·intro h y hy
  cases hp:S.getD y false with
  | false=>exact Or.inl rfl
  | true=>exact Or.inr fun x hx=>h y hy hp x hx
theorem Dom_congr {M:List (List Int)} {n:Nat} {p q:Nat→Bool} (h:∀ x,x < n→p x=q x) (hd:Dom M n p):Dom M n q:=by
 intro y hy hq x hx
 rcases hd y hy (by rw [h y hy]; exact hq) x hx with h1 | h1
 ·exact Or.inl h1
 ·exact Or.inr (by rw [← h x hx]; exact h1)
theorem inClo_iff (M:List (List Int)) (n a x:Nat) (ha:a < n) (hx:x < n):inClo M n a x=true↔∀ p:Nat→Bool,Dom M n p→p a=true→p x=true:=by
 unfold inClo
 simp only [List.all_eq_true,Bool.or_eq_true,Bool.not_eq_true',Bool.and_eq_false_iff]
 constructor
 ·intro h p hp hpa
  rcases h ((List.range n).map p) (mem_bools n _ (by simp)) with (h1 | h1) | h1
  ·have:closedS M n ((List.range n).map p)=true:=(closedS_iff M n _).2 (Dom_congr (fun x hx=>(getD_map_range n p hx).symm) hp)
   rw [this] at h1; cases h1
  ·rw [getD_map_range n p ha,hpa] at h1; cases h1
  ·rw [getD_map_range n p hx] at h1; exact h1
 ·intro h S hS
  cases h1:closedS M n S with
  | false=>exact Or.inl (Or.inl rfl)
  | true=>cases h2:S.getD a false with
   | false=>exact Or.inl (Or.inr rfl)
   | true=>exact Or.inr (h _ ((closedS_iff M n S).1 h1) h2)
theorem inClo_self (M:List (List Int)) (n a:Nat) (ha:a < n):inClo M n a a=true:=(inClo_iff M n a a ha ha).2 fun p _ h=>h
/-- what lies in all of them dominates too -/
theorem clo_dom (M : List (List Int)) (n a : Nat) (ha : a < n) : Dom M n (inClo M n a) := by
  intro y hy hp x hx
  cases hb : beatsM M y x with
  | true => exact Or.inl rfl
  | false =>
    refine Or.inr ((inClo_iff M n a x ha hx).2 fun q hq hqa => ?_)
    rcases hq y hy ((inClo_iff M n a y ha hy).1 hp q hq hqa) x hx with h | h
    · rw [hb] at h; cases h
    · exact h
theorem mem_clo (M:List (List Int)) (n a:Nat) (z:Int):z∈cloF M n a↔∃ x:Nat,x < n∧inClo M n a x=true∧z=x:=by
 unfold cloF
 simp only [List.mem_map,List.mem_filter,List.mem_range]
 constructor
 ·rintro ⟨x,⟨h1,h2⟩,rfl⟩; exact ⟨x,h1,h2,rfl⟩
 ·rintro ⟨x,h1,h2,rfl⟩; exact ⟨x,⟨h1,h2⟩,rfl⟩
theorem clo_sorted (M:List (List Int)) (n a:Nat):(cloF M n a).Pairwise (· < ·):=by
 unfold cloF
 refine List.Pairwise.map _ (fun x y h=>?_) (List.Pairwise.filter _ List.pairwise_lt_range)
 exact Int.ofNat_lt.2 h
theorem clo_len (M:List (List Int)) (n a:Nat) (ha:a < n):1≤(cloF M n a).length∧(cloF M n a).length≤n:=by
 constructor
 ·exact List.length_pos_of_mem ((mem_clo M n a a).2 ⟨a,ha,inClo_self M n a ha,rfl⟩)
 ·unfold cloF
  rw [List.length_map]
  exact Nat.le_trans (List.length_filter_le _ _) (by simp)
theorem inR_of_clo {M:List (List Int)} {n a:Nat} {z:Int} (h:z∈cloF M n a):0≤z∧z < n:=by
 obtain ⟨x,h1,_,rfl⟩:=(mem_clo M n a z).1 h
 omega
/-- the top is one of them, and none is shorter -/
theorem topK_mem (M : List (List Int)) (n : Nat) (hn : 0 < n) : ∀ k, k ≤ n → ∃ a, a < n ∧ topK M n k = cloF M n a
  | 0, _ => ⟨0, hn, rfl⟩
  | k + 1, h => by
    simp only [topK]
    split
    · exact ⟨k, by omega, rfl⟩
    · exact topK_mem M n hn k (by omega)
theorem topK_le (M:List (List Int)) (n:Nat):∀ k b,b < k→(topK M n k).length≤(cloF M n b).length
 | 0,b,h=>by omega
 | k + 1,b,h=>by
  simp only [topK]
  by_cases hb:b=k
  ·subst hb; split <;> omega
  ·have:=topK_le M n k b (by omega)
   split <;> omega
theorem topK_len (M:List (List Int)) (n k:Nat) (hn:0 < n) (hk:k≤n):1≤(topK M n k).length∧(topK M n k).length≤n:=by
 obtain ⟨a,h1,h2⟩:=topK_mem M n hn k hk
 rw [h2]; exact clo_len M n a h1
theorem beats_asymm {M:List (List Int)} {a b:Nat} (h:beatsM M a b=true):beatsM M b a=false:=by
 unfold beatsM at *
 simp only [decide_eq_true_eq,decide_eq_false_iff_not] at *
 omega
/-- one that beats all others is alone -/
theorem clo_single {M : List (List Int)} {n a : Nat} (ha : a < n) (h : ∀ b, b < n → b = a ∨ beatsM M a b = true) : cloF M n a = [(a : Int)] := by
  have hd : Dom M n (fun x => x == a) := by
    intro y hy hp x hx
    simp only [beq_iff_eq] at hp ⊢
    subst hp
    rcases h x hx with h | h
    · exact Or.inr h
    · exact Or.inl h
  have hm : ∀ x, x < n → (inClo M n a x = true ↔ x = a) := by
    intro x hx
    constructor
    · intro h1
      have := (inClo_iff M n a x ha hx).1 h1 _ hd (by simp)
      simpa using this
    · rintro rfl; exact inClo_self M n _ ha
  have h1 : ∀ z ∈ cloF M n a, z = (a : Int) := by
    intro z hz
    obtain ⟨x, hx, hc, rfl⟩ := (mem_clo M n a z).1 hz
    rw [(hm x hx).1 hc]
  have h2 := (clo_len M n a ha).1
  have h3 := clo_sorted M n a
  match hL : cloF M n a, h1, h2, h3 with
  | [], _, h2, _ => simp at h2
  | [z], h1, _, _ => rw [h1 z (by simp)]
  | y :: z :: l, h1, _, h3 =>
    have e1 := h1 y (by simp)
    have e2 := h1 z (by simp)
    have := (List.pairwise_cons.1 h3).1 z (by simp)
    omega
theorem top_single {M:List (List Int)} {n a:Nat} (ha:a < n) (h:∀ b,b < n→b=a∨beatsM M a b=true):topK M n n=[(a:Int)]:=by
 obtain ⟨c,hc,e⟩:=topK_mem M n (by omega) n (Nat.le_refl n)
 have hl:=topK_le M n n a ha
 rw [clo_single ha h] at hl
 rw [e] at hl ⊢
 by_cases hca:c=a
 ·subst hca; exact clo_single ha h
 ·exfalso
  have hin:inClo M n c a=true:=by
   refine (inClo_iff M n c a hc ha).2 fun p hp hpc=>?_
   rcases hp c hc hpc a ha with h1 | h1
   ·rcases h c hc with h2 | h2
    ·exact absurd h2 hca
    ·rw [beats_asymm h2] at h1; cases h1
   ·exact h1
  have m1:(c:Int)∈cloF M n c:=(mem_clo M n c c).2 ⟨c,hc,inClo_self M n c hc,rfl⟩
  have m2:(a:Int)∈cloF M n c:=(mem_clo M n c a).2 ⟨a,ha,hin,rfl⟩
  match hL:cloF M n c,m1,m2,hl with
  | [],m1,_,_=>simp at m1
  | [z],m1,m2,_ =>
   simp only [List.mem_singleton] at m1 m2
   omega
  | _::_::_,_,_,hl=>simp at hl
/-- one of a top of more than one does not beat all others -/
theorem top_beaten {M : List (List Int)} {n : Nat} {z : Int} (hz : z ∈ topK M n n) (hl : 1 < (topK M n n).length) (hn : 0 < n) : ∃ b, b < n ∧ b ≠ z.toNat ∧ beatsM M z.toNat b = false := by
  obtain ⟨c, hc, e⟩ := topK_mem M n hn n (Nat.le_refl n)
  rw [e] at hz
  obtain ⟨x, hx, _, rfl⟩ := (mem_clo M n c z).1 hz
  apply Classical.byContradiction
  intro hno
  have : topK M n n = [(x : Int)] := top_single hx fun b hb => by
    by_cases hbx : b = x
    · exact Or.inl hbx
    · cases hbe : beatsM M x b with
      | true => exact Or.inr rfl
      | false => exact absurd ⟨b, hb, by simpa using hbx, by simpa using hbe⟩ hno
  rw [this] at hl
  simp at hl
theorem floor_le {M:List (List Int)} (a:Nat):∀ k b,b < k→b≠a→floorK M a k≤rateM M a b
 | 0,b,h,_=>by omega
 | k + 1,b,h,hb=>by
  simp only [floorK]
  by_cases e:b=k
  ·subst e
   rw [if_neg hb]; omega
  ·have:=floor_le (M:=M) a k b (by omega) hb
   split <;> omega
/-- a tournament without cycles has one that beats all others -/
theorem tour_max {M : List (List Int)} : ∀ l : List Nat, l ≠ [] → (∀ x ∈ l, ∀ y ∈ l, ∀ z ∈ l, ¬ (beatsM M x y = true ∧ beatsM M y z = true ∧ beatsM M z x = true)) → (∀ x ∈ l, ∀ y ∈ l, x = y ∨ beatsM M x y = true ∨ beatsM M y x = true) → ∃ m ∈ l, ∀ x ∈ l, x = m ∨ beatsM M m x = true
  | [], h, _, _ => absurd rfl h
  | [a], _, _, _ => ⟨a, by simp, fun x hx => Or.inl (by simpa using hx)⟩
  | a :: b :: l, _, hno, ht => by
    obtain ⟨m, hm, hb⟩ := tour_max (b :: l) (by simp) (fun x hx y hy z hz => hno x (List.mem_cons_of_mem _ hx) y (List.mem_cons_of_mem _ hy) z (List.mem_cons_of_mem _ hz)) fun x hx y hy => ht x (List.mem_cons_of_mem _ hx) y (List.mem_cons_of_mem _ hy)
    rcases ht m (List.mem_cons_of_mem _ hm) a (by simp) with h | h | h
    · refine ⟨m, List.mem_cons_of_mem _ hm, fun x hx => ?_⟩
      rcases List.mem_cons.1 hx with rfl | hx
      · exact Or.inl h.symm
      · exact hb x hx
    · refine ⟨m, List.mem_cons_of_mem _ hm, fun x hx => ?_⟩
      rcases List.mem_cons.1 hx with rfl | hx
      · exact Or.inr h
      · exact hb x hx
    · refine ⟨a, by simp, fun x hx => ?_⟩
      rcases List.mem_cons.1 hx with rfl | hx
      · exact Or.inl rfl
      · rcases hb x hx with rfl | h1
        · exact Or.inr h
        · rcases ht a (by simp) x (List.mem_cons_of_mem _ hx) with h2 | h2 | h2
          · exact Or.inl h2.symm
          · exact Or.inr h2
          · exact absurd ⟨h, h1, h2⟩ (hno a (by simp) m (List.mem_cons_of_mem _ hm) x (List.mem_cons_of_mem _ hx))
/-- no cycle at all, from none that begins with its least -/
theorem no_cycle {M : List (List Int)} {n : Nat} (h : noA M n n = true) (x y z : Nat) (hx : x < n) (hy : y < n) (hz : z < n) : ¬ (beatsM M x y = true ∧ beatsM M y z = true ∧ beatsM M z x = true) := by
  have key : ∀ a b c, a < n → b < n → c < n → a < b → a < c → ¬ (beatsM M a b = true ∧ beatsM M b c = true ∧ beatsM M c a = true) := by
    intro a b c ha hb hc hab hac ⟨h1, h2, h3⟩
    unfold noA noB noC at h
    simp only [List.all_eq_true, List.mem_range, Bool.or_eq_true, Bool.not_eq_true', decide_eq_false_iff_not, Bool.and_eq_false_iff] at h
    rcases h a ha b hb with h | h
    · exact h hab
    · rcases h c hc with ((h | h) | h) | h
      · exact h hac
      · rw [h1] at h; cases h
      · rw [h2] at h; cases h
      · rw [h3] at h; cases h
  rintro ⟨h1, h2, h3⟩
  have ne : ∀ a b, beatsM M a b = true → a ≠ b := by
    rintro a b hb rfl
    unfold beatsM at hb; simp at hb
  have n1 := ne x y h1
  have n2 := ne y z h2
  have n3 := ne z x h3
  rcases Nat.lt_or_ge x y with a1 | a1
  · rcases Nat.lt_or_ge x z with a2 | a2
    · exact key x y z hx hy hz a1 a2 ⟨h1, h2, h3⟩
    · exact key z x y hz hx hy (by omega) (by omega) ⟨h3, h1, h2⟩
  · rcases Nat.lt_or_ge y z with a2 | a2
    · exact key y z x hy hz hx a2 (by omega) ⟨h2, h3, h1⟩
    · exact key z x y hz hx hy (by omega) (by omega) ⟨h3, h1, h2⟩
/-- THE LAW: any two of the top beat each other, and there is no cycle: then the top has at most one -/
theorem top_cycle {M : List (List Int)} {n : Nat} (hn : 0 < n) (hno : noA M n n = true) (ht : ∀ x ∈ topK M n n, ∀ y ∈ topK M n n, x = y ∨ beatsM M x.toNat y.toNat = true ∨ beatsM M y.toNat x.toNat = true) : (topK M n n).length ≤ 1 := by
  obtain ⟨c, hc, e⟩ := topK_mem M n hn n (Nat.le_refl n)
  have hl : ∀ x, x ∈ (List.range n).filter (inClo M n c) ↔ x < n ∧ inClo M n c x = true := by
    intro x; simp [List.mem_filter]
  have hmem : ∀ x, x ∈ (List.range n).filter (inClo M n c) → (x : Int) ∈ topK M n n := by
    intro x hx; rw [e]; exact (mem_clo M n c x).2 ⟨x, ((hl x).1 hx).1, ((hl x).1 hx).2, rfl⟩
  have hne : (List.range n).filter (inClo M n c) ≠ [] := List.ne_nil_of_mem ((hl c).2 ⟨hc, inClo_self M n c hc⟩)
  obtain ⟨m, hm, hb⟩ := tour_max (M := M) _ hne (fun x hx y hy z hz => no_cycle hno x y z ((hl x).1 hx).1 ((hl y).1 hy).1 ((hl z).1 hz).1) fun x hx y hy => by
    have := ht x (hmem x hx) y (hmem y hy)
    simp only [Int.toNat_natCast] at this
    rcases this with h | h
    · exact Or.inl (Int.ofNat.inj h)
    · exact Or.inr h
  obtain ⟨hmn, hmc⟩ := (hl m).1 hm
  have hall : ∀ b, b < n → b = m ∨ beatsM M m b = true := by
    intro b hbn
    rcases clo_dom M n c hc m hmn hmc b hbn with h | h
    · exact Or.inr h
    · exact hb b ((hl b).2 ⟨hbn, h⟩)
  rw [top_single hmn hall]; simp
end Go.SX

set_option linter.unusedVariables false
set_option linter.unusedSimpArgs false
namespace Go.SX
theorem noC_iff (M:List (List Int)) (a b k:Nat):noC M a b k=true↔∀ c,c < k→a < c→¬ (beatsM M a b=true∧beatsM M b c=true∧beatsM M c a=true):=by
 unfold noC
 simp only [List.all_eq_true,List.mem_range,Bool.not_eq_true',Bool.and_eq_false_iff,decide_eq_false_iff_not]
 constructor
 ·intro h c hc hac ⟨h1,h2,h3⟩
  rcases h c hc with ((h | h) | h) | h
  ·exact h hac
  ·rw [h1] at h; cases h
  ·rw [h2] at h; cases h
  ·rw [h3] at h; cases h
 ·intro h c hc
  by_cases hac:a < c
  ·have:=h c hc hac
   cases h1:beatsM M a b with
   | false=>simp
   | true=>cases h2:beatsM M b c with
    | false=>simp
    | true=>cases h3:beatsM M c a with
     | false=>simp
     | true=>exact absurd ⟨h1,h2,h3⟩ this
  ·simp [hac]
theorem noB_iff (M:List (List Int)) (n a k:Nat):noB M n a k=true↔∀ b,b < k→a < b→noC M a b n=true:=by
 unfold noB
 simp only [List.all_eq_true,List.mem_range,Bool.or_eq_true,Bool.not_eq_true',decide_eq_false_iff_not]
 constructor
 ·intro h b hb hab
  rcases h b hb with h | h
  ·exact absurd hab h
  ·exact h
 ·intro h b hb
  by_cases hab:a < b
  ·exact Or.inr (h b hb hab)
  ·exact Or.inl hab
theorem noA_iff (M:List (List Int)) (n k:Nat):noA M n k=true↔∀ a,a < k→noB M n a n=true:=by
 unfold noA
 simp only [List.all_eq_true,List.mem_range]
/-! those that grow -/
structure Grow (M:List (List Int)) (n a:Nat) (o:List Int) (i x:Nat):Prop where
 ha:a < n
 am:(a:Int)∈o
 nd:o.Nodup
 cl:∀ y∈o,y∈cloF M n a
 ol:∀ y∈o.take i,∀ z,z < n→(z:Int)∈o∨beatsM M y.toNat z=true
 nw:∀ z,z < x→(z:Int)∈o∨beatsM M (o.getD i 0).toNat z=true
theorem grow_iff (M:List (List Int)) (n a:Nat) (o:List Int) (i x:Nat):grownR M n a o i x=true↔Grow M n a o i x:=by
 unfold grownR
 simp only [Bool.and_eq_true,decide_eq_true_eq,List.contains_iff_mem,List.all_eq_true,List.mem_range,Bool.or_eq_true]
 constructor
 ·rintro ⟨⟨⟨⟨⟨h1,h2⟩,h3⟩,h4⟩,h5⟩,h6⟩; exact ⟨h1,h2,h3,h4,h5,h6⟩
 ·rintro ⟨h1,h2,h3,h4,h5,h6⟩; exact ⟨⟨⟨⟨⟨h1,h2⟩,h3⟩,h4⟩,h5⟩,h6⟩
theorem Grow.init (M:List (List Int)) {n a:Nat} (ha:a < n):Grow M n a [(a:Int)] 0 0 :=
 ⟨ha,by simp,by simp,fun y hy=>by rw [List.mem_singleton] at hy; subst hy; exact (mem_clo M n a _).2 ⟨a,ha,inClo_self M n a ha,rfl⟩,fun y hy=>by simp at hy,fun z hz=>by omega⟩
theorem Grow.keep {M:List (List Int)} {n a i x:Nat} {o:List Int} (h:Grow M n a o i x) (hx:(x:Int)∈o∨beatsM M (o.getD i 0).toNat x=true):Grow M n a o i (x + 1) :=
 ⟨h.ha,h.am,h.nd,h.cl,h.ol,fun z hz=>by
  by_cases e:z=x
  ·subst e; exact hx
  ·exact h.nw z (by omega)⟩
theorem Grow.elem {M:List (List Int)} {n a i x:Nat} {o:List Int} (h:Grow M n a o i x) (j:Nat) (hj:j < o.length):0≤o.getD j 0∧o.getD j 0 < n:=by
 rw [getD_lt _ _ hj]; exact inR_of_clo (h.cl _ (List.getElem_mem hj))
theorem Grow.add {M:List (List Int)} {n a i x:Nat} {o:List Int} (h:Grow M n a o i x) (hi:i < o.length) (hx:x < n) (hn:(x:Int) ∉ o) (hb:beatsM M (o.getD i 0).toNat x=false):Grow M n a (o++[(x:Int)]) i (x + 1):=by
 have hg:(o++[(x:Int)]).getD i 0=o.getD i 0:=by
  rw [getD_lt _ _ hi,getD_lt _ _ (by simp; omega),List.getElem_append_left hi]
 refine ⟨h.ha,List.mem_append_left _ h.am,?_,?_,?_,?_⟩
 ·rw [List.nodup_append]
  refine ⟨h.nd,by simp,fun y hy z hz=>?_⟩
  rw [List.mem_singleton] at hz
  subst hz
  rintro rfl; exact hn hy
 ·intro y hy
  rcases List.mem_append.1 hy with hy | hy
  ·exact h.cl y hy
  ·rw [List.mem_singleton] at hy
   subst hy
   have hm:=h.cl _ (List.getElem_mem hi)
   rw [← getD_lt o 0 hi] at hm
   obtain ⟨y,hy,hc,e⟩:=(mem_clo M n a _).1 hm
   rw [e,Int.toNat_natCast] at hb
   rcases clo_dom M n a h.ha y hy hc x hx with h1 | h1
   ·rw [hb] at h1; cases h1
   ·exact (mem_clo M n a _).2 ⟨x,hx,h1,rfl⟩
 ·intro y hy z hz
  rw [List.take_append_of_le_length (by omega)] at hy
  rcases h.ol y hy z hz with h1 | h1
  ·exact Or.inl (List.mem_append_left _ h1)
  ·exact Or.inr h1
 ·intro z hz
  rw [hg]
  by_cases e:z=x
  ·subst e; exact Or.inl (by simp)
  ·rcases h.nw z (by omega) with h1 | h1
   ·exact Or.inl (List.mem_append_left _ h1)
   ·exact Or.inr h1
theorem Grow.next {M:List (List Int)} {n a i x:Nat} {o:List Int} (h:Grow M n a o i x) (hi:i < o.length) (hx:n≤x):Grow M n a o (i + 1) 0:=by
 refine ⟨h.ha,h.am,h.nd,h.cl,fun y hy z hz=>?_,fun z hz=>by omega⟩
 rw [List.take_add_one,List.mem_append] at hy
 rcases hy with hy | hy
 ·exact h.ol y hy z hz
 ·rw [List.getElem?_eq_getElem hi,Option.toList_some,List.mem_singleton] at hy
  have:=h.nw z (by omega)
  rw [getD_lt _ _ hi,← hy] at this
  exact this
theorem insU_mem (x y:Int):∀ l,y∈insU x l↔y=x∨y∈l
 | []=>by simp [insU]
 | z::l=>by
  simp only [insU]
  split
  ·simp
  ·simp only [List.mem_cons,insU_mem x y l]; constructor
   ·rintro (h | h | h)
    ·exact Or.inr (Or.inl h)
    ·exact Or.inl h
    ·exact Or.inr (Or.inr h)
   ·rintro (h | h | h)
    ·exact Or.inr (Or.inl h)
    ·exact Or.inl h
    ·exact Or.inr (Or.inr h)
theorem sortU_mem (y:Int):∀ l,y∈sortU l↔y∈l
 | []=>by simp [sortU]
 | x::l=>by simp only [sortU,insU_mem,sortU_mem y l,List.mem_cons]
theorem insU_lt (x:Int):∀ l:List Int,x ∉ l→l.Pairwise (· < ·)→(insU x l).Pairwise (· < ·)
 | [],_,_=>by simp [insU]
 | z::l,hx,h=>by
  obtain ⟨h1,h2⟩:=List.pairwise_cons.1 h
  simp only [List.mem_cons,not_or] at hx
  simp only [insU]
  split
  ·refine List.pairwise_cons.2 ⟨fun w hw=>?_,h⟩
   rcases List.mem_cons.1 hw with rfl | hw
   ·omega
   ·have:=h1 w hw; omega
  ·refine List.pairwise_cons.2 ⟨fun w hw=>?_,insU_lt x l hx.2 h2⟩
   rcases (insU_mem x w l).1 hw with rfl | hw
   ·omega
   ·exact h1 w hw
theorem sortU_lt:∀ l:List Int,l.Nodup→(sortU l).Pairwise (· < ·)
 | [],_=>by simp [sortU]
 | x::l,h=>by
  obtain ⟨h1,h2⟩:=List.nodup_cons.1 h
  simp only [sortU]
  exact insU_lt x _ (fun hx=>h1 ((sortU_mem x l).1 hx)) (sortU_lt l h2)
theorem sorted_eq:∀ l m:List Int,l.Pairwise (· < ·)→m.Pairwise (· < ·)→(∀ y,y∈l↔y∈m)→l=m
 | [],[],_,_,_=>rfl
 | [],y::m,_,_,h=>by have:=(h y).2 (by simp); simp at this
 | x::l,[],_,_,h=>by have:=(h x).1 (by simp); simp at this
 | x::l,y::m,hl,hm,h=>by
  obtain ⟨a1,a2⟩:=List.pairwise_cons.1 hl
  obtain ⟨b1,b2⟩:=List.pairwise_cons.1 hm
  have e:x=y:=by
   have h1:=(h x).1 (by simp)
   have h2:=(h y).2 (by simp)
   rcases List.mem_cons.1 h1 with h1 | h1
   ·exact h1
   ·rcases List.mem_cons.1 h2 with h2 | h2
    ·exact h2.symm
    ·have:=a1 y h2; have:=b1 x h1; omega
  subst e
  congr 1
  refine sorted_eq l m a2 b2 fun z=>?_
  constructor
  ·intro hz
   rcases List.mem_cons.1 ((h z).1 (List.mem_cons_of_mem _ hz)) with e | e
   ·have:=a1 z hz; omega
   ·exact e
  ·intro hz
   rcases List.mem_cons.1 ((h z).2 (List.mem_cons_of_mem _ hz)) with e | e
   ·have:=b1 z hz; omega
   ·exact e
theorem insU_ln (x:Int):∀ l,(insU x l).length=l.length + 1
 | []=>rfl
 | z::l=>by
  simp only [insU]
  split
  ·simp
  ·simp only [List.length_cons,insU_ln x l]
theorem sortU_ln:∀ l:List Int,(sortU l).length=l.length
 | []=>rfl
 | x::l=>by simp only [sortU,insU_ln,sortU_ln l,List.length_cons]
theorem nodup_len (n:Nat) (o:List Int) (hnd:o.Nodup) (hr:∀ y∈o,0≤y∧y < (n:Int)):o.length≤n:=by
 have e:sortU o=((List.range n).filter fun (k:Nat)=>o.contains (Int.ofNat k)).map Int.ofNat:=by
  refine sorted_eq _ _ (sortU_lt o hnd) (List.Pairwise.map _ (fun x y h=>Int.ofNat_lt.2 h) (List.Pairwise.filter _ List.pairwise_lt_range)) fun y=>?_
  rw [sortU_mem]
  simp only [List.mem_map,List.mem_filter,List.mem_range,List.contains_iff_mem]
  constructor
  ·intro hy
   have:=hr y hy
   exact ⟨y.toNat,⟨by omega,by rw [show Int.ofNat y.toNat=y from Int.toNat_of_nonneg this.1]; exact hy⟩,Int.toNat_of_nonneg this.1⟩
  ·rintro ⟨k,⟨_,hk⟩,rfl⟩; exact hk
 rw [← sortU_ln,e,List.length_map]
 exact Nat.le_trans (List.length_filter_le _ _) (Nat.le_of_eq List.length_range)
theorem Grow.len {M:List (List Int)} {n a i x:Nat} {o:List Int} (h:Grow M n a o i x):o.length≤n:=nodup_len n o h.nd fun y hy=>inR_of_clo (h.cl y hy)
theorem Grow.done {M:List (List Int)} {n a i x:Nat} {o:List Int} (h:Grow M n a o i x) (hi:o.length≤i):sortU o=cloF M n a:=by
 refine sorted_eq _ _ (sortU_lt o h.nd) (clo_sorted M n a) fun y=>?_
 rw [sortU_mem]
 refine ⟨h.cl y,fun hy=>?_⟩
 obtain ⟨z,hz,hc,rfl⟩:=(mem_clo M n a y).1 hy
 have hd:Dom M n (fun w=>o.contains (w:Int)):=by
  intro w hw hp v hv
  simp only [List.contains_iff_mem] at hp ⊢
  rcases h.ol (w:Int) (by rw [List.take_of_length_le hi]; exact hp) v hv with h1 | h1
  ·exact Or.inr h1
  ·rw [Int.toNat_natCast] at h1; exact Or.inl h1
 have:=(inClo_iff M n a z h.ha hz).1 hc _ hd (by simp only [List.contains_iff_mem]; exact h.am)
 simpa only [List.contains_iff_mem] using this
end Go.SX

set_option linter.unusedVariables false
set_option linter.unusedSimpArgs false
namespace Go.SX
section
variable {ρ : Env} {x l L A w a b d i n v h k g o j z e c m u y r q : E}
theorem z119:(E.B ρ (.fn 119 (.pr l (.pr a b)))=true)=(beatsM (matE ρ l) (E.I ρ a).toNat (E.I ρ b).toNat=true):=rfl
theorem t119:(E.B ρ (.fn 119 (.pr l (.pr a b)))=true)↔E.I ρ (.fn 1 (.pr (.fn 1 (.pr l b)) a)) < E.I ρ (.fn 1 (.pr (.fn 1 (.pr l a)) b)):=by
 rw [z119,I_nn,I_nn]
 unfold beatsM
 rw [mAt_nat,mAt_nat,decide_eq_true_eq]
/-! floors -/
theorem I_122:E.I ρ (.fn 122 (.pr l (.pr a k)))=floorK (matE ρ l) (E.I ρ a).toNat (E.I ρ k).toNat:=rfl
theorem I_105':E.I ρ (.fn 105 (.pr l (.pr a b)))=rateM (matE ρ l) (E.I ρ a) (E.I ρ b):=rfl
theorem t122_zero (h:E.I ρ k≤0):E.I ρ (.fn 122 (.pr l (.pr a k)))=1000:=by
 rw [I_122,Int.toNat_of_nonpos h]; rfl
theorem t122_congr (h:E.I ρ k=E.I ρ i):E.I ρ (.fn 122 (.pr l (.pr a k)))=E.I ρ (.fn 122 (.pr l (.pr a i))):=by
 rw [I_122,I_122,h]
theorem t122_step (h0:0≤E.I ρ i) (ha:0≤E.I ρ a) (hk:E.I ρ k=E.I ρ i + 1):E.I ρ (.fn 122 (.pr l (.pr a k)))=if E.I ρ i=E.I ρ a then E.I ρ (.fn 122 (.pr l (.pr a i))) else min (E.I ρ (.fn 122 (.pr l (.pr a i)))) (E.I ρ (.fn 105 (.pr l (.pr a i)))):=by
 rw [I_122,I_122,I_105',hk,show (E.I ρ i + 1).toNat=(E.I ρ i).toNat + 1 by omega]
 simp only [floorK]
 rw [Int.toNat_of_nonneg h0,Int.toNat_of_nonneg ha]
 by_cases e:E.I ρ i=E.I ρ a
 ·rw [if_pos e,if_pos (by rw [e])]
 ·rw [if_neg e,if_neg (by omega)]
theorem I_mn:E.I ρ (.mn a b)=min (E.I ρ a) (E.I ρ b):=by
 show minI _ _=_
 unfold minI
 split <;> (simp only [E.I] at *; omega)
/-! cycles -/
theorem z125:(E.B ρ (.fn 125 (.pr l (.pr a (.pr b k))))=true)=(noC (matE ρ l) (E.I ρ a).toNat (E.I ρ b).toNat (E.I ρ k).toNat=true):=rfl
theorem z124:(E.B ρ (.fn 124 (.pr l (.pr n (.pr a k))))=true)=(noB (matE ρ l) (E.I ρ n).toNat (E.I ρ a).toNat (E.I ρ k).toNat=true):=rfl
theorem z123:(E.B ρ (.fn 123 (.pr l (.pr n k)))=true)=(noA (matE ρ l) (E.I ρ n).toNat (E.I ρ k).toNat=true):=rfl
theorem t125_init (h0:0≤E.I ρ a) (h:E.I ρ k≤E.I ρ a + 1):E.B ρ (.fn 125 (.pr l (.pr a (.pr b k))))=true:=by
 rw [z125,noC_iff]; intro c h1 h2; omega
theorem t125_step (h:E.B ρ (.fn 125 (.pr l (.pr a (.pr b i))))=true) (h0:0≤E.I ρ i) (hk:E.I ρ k=E.I ρ i + 1)
  (hc:¬ (E.B ρ (.fn 119 (.pr l (.pr a b)))=true∧E.B ρ (.fn 119 (.pr l (.pr b i)))=true∧E.B ρ (.fn 119 (.pr l (.pr i a)))=true)):E.B ρ (.fn 125 (.pr l (.pr a (.pr b k))))=true:=by
 rw [z125,noC_iff] at *
 rw [z119,z119,z119] at hc
 intro c h1 h2
 by_cases e:c=(E.I ρ i).toNat
 ·subst e; exact hc
 ·exact h c (by omega) h2
theorem t124_init (h0:0≤E.I ρ a) (h:E.I ρ k≤E.I ρ a + 1):E.B ρ (.fn 124 (.pr l (.pr n (.pr a k))))=true:=by
 rw [z124,noB_iff]; intro c h1 h2; omega
theorem t124_step (h:E.B ρ (.fn 124 (.pr l (.pr n (.pr a i))))=true) (hc:E.B ρ (.fn 125 (.pr l (.pr a (.pr i q))))=true) (hq:E.I ρ q=E.I ρ n) (h0:0≤E.I ρ i) (hk:E.I ρ k=E.I ρ i + 1):E.B ρ (.fn 124 (.pr l (.pr n (.pr a k))))=true:=by
 rw [z124,noB_iff] at *
 rw [z125,hq] at hc
 intro c h1 h2
 by_cases e:c=(E.I ρ i).toNat
 ·subst e; exact hc
 ·exact h c (by omega) h2
theorem t123_zero (h:E.I ρ k≤0):E.B ρ (.fn 123 (.pr l (.pr n k)))=true:=by
 rw [z123,noA_iff]; intro c h1; omega
theorem t123_step (h:E.B ρ (.fn 123 (.pr l (.pr n i)))=true) (hc:E.B ρ (.fn 124 (.pr l (.pr n (.pr i q))))=true) (hq:E.I ρ q=E.I ρ n) (h0:0≤E.I ρ i) (hk:E.I ρ k=E.I ρ i + 1):E.B ρ (.fn 123 (.pr l (.pr n k)))=true:=by
 rw [z123,noA_iff] at *
 rw [z124,hq] at hc
 intro c h1
 by_cases e:c=(E.I ρ i).toNat
 ·subst e; exact hc
 ·exact h c (by omega)
theorem t123_congr (h:E.B ρ (.fn 123 (.pr l (.pr n i)))=true) (hk:E.I ρ k=E.I ρ i):E.B ρ (.fn 123 (.pr l (.pr n k)))=true:=by
 rw [z123] at *; rw [hk]; exact h
/-- a cycle that is found -/
theorem t123_not (ha0 : 0 ≤ E.I ρ a) (ha : E.I ρ a < E.I ρ n) (hb0 : 0 ≤ E.I ρ b) (hb : E.I ρ b < E.I ρ n) (hc0 : 0 ≤ E.I ρ c) (hc : E.I ρ c < E.I ρ n) (hab : E.I ρ a < E.I ρ b) (hac : E.I ρ a < E.I ρ c)
    (h1 : E.B ρ (.fn 119 (.pr l (.pr a b))) = true) (h2 : E.B ρ (.fn 119 (.pr l (.pr b c))) = true) (h3 : E.B ρ (.fn 119 (.pr l (.pr c a))) = true) : ¬ E.B ρ (.fn 123 (.pr l (.pr n n))) = true := by
  rw [z119] at h1 h2 h3
  rw [z123, noA_iff]
  intro h
  exact (noC_iff _ _ _ _).1 ((noB_iff _ _ _ _).1 (h (E.I ρ a).toNat (by omega)) (E.I ρ b).toNat (by omega) (by omega)) (E.I ρ c).toNat (by omega) (by omega) ⟨h1, h2, h3⟩
/-! lists -/
theorem z132:(E.B ρ (.fn 132 (.pr x v))=true)↔E.I ρ v∈ints ρ x:=by
 show ((ints ρ x).contains (E.I ρ v)=true)↔_
 rw [List.contains_iff_mem]
theorem z133:(E.B ρ (.fn 133 (.pr x (.pr i v)))=true)↔E.I ρ v∈(ints ρ x).take (E.I ρ i).toNat:=by
 show (((ints ρ x).take (E.I ρ i).toNat).contains (E.I ρ v)=true)↔_
 rw [List.contains_iff_mem]
theorem t133_zero (h:E.I ρ i≤0):¬ E.B ρ (.fn 133 (.pr x (.pr i v)))=true:=by
 rw [z133,Int.toNat_of_nonpos h]; simp
theorem t133_step (h:¬ E.B ρ (.fn 133 (.pr x (.pr i v)))=true) (h0:0≤E.I ρ i) (h1:E.I ρ i < E.I ρ (.fn 0 x)) (hk:E.I ρ k=E.I ρ i + 1) (hv:E.I ρ v≠E.I ρ (.fn 1 (.pr x i))):¬ E.B ρ (.fn 133 (.pr x (.pr k v)))=true:=by
 rw [z133] at *
 rw [← ints_len] at h1
 rw [hk,show (E.I ρ i + 1).toNat=(E.I ρ i).toNat + 1 by omega,List.take_add_one,List.mem_append,List.getElem?_eq_getElem (by omega)]
 rw [I_nth,getD_lt _ _ (by omega)] at hv
 simp only [Option.toList_some,List.mem_singleton,not_or]
 exact ⟨h,hv⟩
theorem t132_end (h:¬ E.B ρ (.fn 133 (.pr x (.pr i v)))=true) (h1:E.I ρ (.fn 0 x)≤E.I ρ i):¬ E.B ρ (.fn 132 (.pr x v))=true:=by
 rw [← ints_len] at h1
 rw [z133,List.take_of_length_le (by omega)] at h
 rw [z132]; exact h
theorem t132_at (h0:0≤E.I ρ i) (h1:E.I ρ i < E.I ρ (.fn 0 x)) (hv:E.I ρ v=E.I ρ (.fn 1 (.pr x i))):E.B ρ (.fn 132 (.pr x v))=true:=by
 rw [← ints_len] at h1
 rw [z132,hv,I_nth,getD_lt _ _ (by omega)]; exact List.getElem_mem _
theorem z131:(E.B ρ (.fn 131 (.pr x (.pr y i)))=true)↔(ints ρ x).take (E.I ρ i).toNat=(ints ρ y).take (E.I ρ i).toNat:=by
 show ((ints ρ x).take (E.I ρ i).toNat == (ints ρ y).take (E.I ρ i).toNat)=true↔_
 rw [beq_iff_eq]
theorem z134:(E.B ρ (.fn 134 (.pr x y))=true)↔ints ρ x=ints ρ y:=by
 show (ints ρ x == ints ρ y)=true↔_
 rw [beq_iff_eq]
theorem t131_zero (h:E.I ρ i≤0):E.B ρ (.fn 131 (.pr x (.pr y i)))=true:=by
 rw [z131,Int.toNat_of_nonpos h]; rfl
theorem t131_step (h:E.B ρ (.fn 131 (.pr x (.pr y i)))=true) (h0:0≤E.I ρ i) (h1:E.I ρ i < E.I ρ (.fn 0 x)) (h2:E.I ρ i < E.I ρ (.fn 0 y)) (hk:E.I ρ k=E.I ρ i + 1) (hv:E.I ρ (.fn 1 (.pr x i))=E.I ρ (.fn 1 (.pr y i))):E.B ρ (.fn 131 (.pr x (.pr y k)))=true:=by
 rw [z131] at *
 rw [← ints_len] at h1 h2
 rw [I_nth,I_nth,getD_lt _ _ (by omega),getD_lt _ _ (by omega)] at hv
 rw [hk,show (E.I ρ i + 1).toNat=(E.I ρ i).toNat + 1 by omega,List.take_add_one,List.take_add_one,List.getElem?_eq_getElem (by omega),List.getElem?_eq_getElem (by omega),h,hv]
theorem t134_end (h:E.B ρ (.fn 131 (.pr x (.pr y i)))=true) (h1:E.I ρ (.fn 0 x)≤E.I ρ i) (h2:E.I ρ (.fn 0 y)≤E.I ρ i):E.B ρ (.fn 134 (.pr x y))=true:=by
 rw [← ints_len] at h1 h2
 rw [z131,List.take_of_length_le (by omega),List.take_of_length_le (by omega)] at h
 rw [z134]; exact h
theorem t134_len (h:E.B ρ (.fn 134 (.pr x y))=true):E.I ρ (.fn 0 x)=E.I ρ (.fn 0 y):=by
 rw [← ints_len,← ints_len,z134.1 h]
theorem t134_at (h:E.B ρ (.fn 134 (.pr x y))=true) (i:E):E.I ρ (.fn 1 (.pr x i))=E.I ρ (.fn 1 (.pr y i)):=by
 rw [I_nth,I_nth,z134.1 h]
/-! those that grow -/
theorem z126:(E.B ρ (.fn 126 (.pr l (.pr n (.pr a (.pr o (.pr i x))))))=true)↔Grow (matE ρ l) (E.I ρ n).toNat (E.I ρ a).toNat (ints ρ o) (E.I ρ i).toNat (E.I ρ x).toNat:=grow_iff _ _ _ _ _ _
theorem ints_one:ints ρ (.fn 23 (.pr a (.fn 10 z)))=[E.I ρ a]:=rfl
theorem ints_app1:ints ρ (.fn 3 (.pr o (.fn 23 (.pr a (.fn 10 z)))))=ints ρ o++[E.I ρ a]:=by
 show (E.L ρ o++[a.den ρ]).map U.toI=(E.L ρ o).map U.toI++[E.I ρ a]
 rw [List.map_append]; rfl
theorem t126_init (h0:0≤E.I ρ a) (h1:E.I ρ a < E.I ρ n) (hi:E.I ρ i≤0) (hx:E.I ρ x≤0):E.B ρ (.fn 126 (.pr l (.pr n (.pr a (.pr (.fn 23 (.pr a (.fn 10 z))) (.pr i x))))))=true:=by
 rw [z126,ints_one,Int.toNat_of_nonpos hi,Int.toNat_of_nonpos hx]
 have:=Grow.init (matE ρ l) (n:=(E.I ρ n).toNat) (a:=(E.I ρ a).toNat) (by omega)
 rw [Int.toNat_of_nonneg h0] at this; exact this
theorem t126_keep (h:E.B ρ (.fn 126 (.pr l (.pr n (.pr a (.pr o (.pr i x))))))=true) (h0:0≤E.I ρ x) (hk:E.I ρ k=E.I ρ x + 1) (hx:E.B ρ (.fn 132 (.pr o x))=true∨E.B ρ (.fn 119 (.pr l (.pr (.fn 1 (.pr o i)) x)))=true):E.B ρ (.fn 126 (.pr l (.pr n (.pr a (.pr o (.pr i k))))))=true:=by
 rw [z126] at *
 rw [hk,show (E.I ρ x + 1).toNat=(E.I ρ x).toNat + 1 by omega]
 refine h.keep ?_
 rcases hx with hx | hx
 ·exact Or.inl (by rw [Int.toNat_of_nonneg h0]; exact z132.1 hx)
 ·rw [z119,I_nth] at hx; exact Or.inr hx
theorem t126_elem (h:E.B ρ (.fn 126 (.pr l (.pr n (.pr a (.pr o (.pr i x))))))=true) (j:E) (h0:0≤E.I ρ j) (h1:E.I ρ j < E.I ρ (.fn 0 o)):0≤E.I ρ (.fn 1 (.pr o j))∧E.I ρ (.fn 1 (.pr o j)) < E.I ρ n:=by
 rw [← ints_len] at h1
 rw [z126] at h
 have:=h.elem (E.I ρ j).toNat (by omega)
 have:=h.ha
 rw [I_nth]; omega
theorem t126_add (h:E.B ρ (.fn 126 (.pr l (.pr n (.pr a (.pr o (.pr i x))))))=true) (hi0:0≤E.I ρ i) (hi:E.I ρ i < E.I ρ (.fn 0 o)) (h0:0≤E.I ρ x) (h1:E.I ρ x < E.I ρ n) (hk:E.I ρ k=E.I ρ x + 1) (hx:¬ E.B ρ (.fn 132 (.pr o x))=true) (hb:¬ E.B ρ (.fn 119 (.pr l (.pr (.fn 1 (.pr o i)) x)))=true):E.B ρ (.fn 126 (.pr l (.pr n (.pr a (.pr (.fn 3 (.pr o (.fn 23 (.pr x (.fn 10 z))))) (.pr i k))))))=true:=by
 rw [z126] at *
 rw [z132] at hx
 rw [z119,I_nth] at hb
 rw [← ints_len] at hi
 rw [hk,show (E.I ρ x + 1).toNat=(E.I ρ x).toNat + 1 by omega,ints_app1]
 have:=h.add (by omega) (by omega) (by rw [Int.toNat_of_nonneg h0]; exact hx) (by simpa using hb)
 rw [Int.toNat_of_nonneg h0] at this; exact this
theorem t126_next (h:E.B ρ (.fn 126 (.pr l (.pr n (.pr a (.pr o (.pr i x))))))=true) (hi0:0≤E.I ρ i) (hi:E.I ρ i < E.I ρ (.fn 0 o)) (hx:E.I ρ n≤E.I ρ x) (hk:E.I ρ k=E.I ρ i + 1) (hz:E.I ρ z≤0):E.B ρ (.fn 126 (.pr l (.pr n (.pr a (.pr o (.pr k z))))))=true:=by
 rw [z126] at *
 rw [← ints_len] at hi
 rw [hk,show (E.I ρ i + 1).toNat=(E.I ρ i).toNat + 1 by omega,Int.toNat_of_nonpos hz]
 exact h.next (by omega) (by omega)
theorem t126_len (h:E.B ρ (.fn 126 (.pr l (.pr n (.pr a (.pr o (.pr i x))))))=true) (h0:0≤E.I ρ n):E.I ρ (.fn 0 o)≤E.I ρ n:=by
 rw [z126] at h
 have:=h.len
 rw [← ints_len]; omega
theorem z120:(E.B ρ (.fn 120 (.pr x (.pr l (.pr n a))))=true)↔ints ρ x=cloF (matE ρ l) (E.I ρ n).toNat (E.I ρ a).toNat:=by
 show (ints ρ x == cloF (matE ρ l) (E.I ρ n).toNat (E.I ρ a).toNat)=true↔_
 rw [beq_iff_eq]
theorem ints_sort:ints ρ (.fn 40 o)=sortU (ints ρ o):=by
 show ((sortU ((E.L ρ o).map U.toI)).map U.int).map U.toI=_
 rw [List.map_map]
 have:U.toI ∘ U.int=id:=rfl
 rw [this,List.map_id]; rfl
theorem t120_of (h:E.B ρ (.fn 126 (.pr l (.pr n (.pr a (.pr o (.pr i x))))))=true) (hi:E.I ρ (.fn 0 o)≤E.I ρ i):E.B ρ (.fn 120 (.pr (.fn 40 o) (.pr l (.pr n a))))=true:=by
 rw [z126] at h
 rw [← ints_len] at hi
 rw [z120,ints_sort]; exact h.done (by omega)
theorem len_sort:E.I ρ (.fn 0 (.fn 40 o))=E.I ρ (.fn 0 o):=by rw [← ints_len,← ints_len,ints_sort,sortU_ln]
theorem len_app1:E.I ρ (.fn 0 (.fn 3 (.pr o (.fn 23 (.pr a (.fn 10 z))))))=E.I ρ (.fn 0 o) + 1:=by rw [← ints_len,← ints_len,ints_app1]; simp
/-! tops -/
theorem z121:(E.B ρ (.fn 121 (.pr x (.pr l (.pr n k))))=true)↔ints ρ x=topK (matE ρ l) (E.I ρ n).toNat (E.I ρ k).toNat:=by
 show (ints ρ x == topK (matE ρ l) (E.I ρ n).toNat (E.I ρ k).toNat)=true↔_
 rw [beq_iff_eq]
theorem t121_zero (h:E.B ρ (.fn 120 (.pr x (.pr l (.pr n z))))=true) (hz:E.I ρ z≤0) (hk:E.I ρ k≤0):E.B ρ (.fn 121 (.pr x (.pr l (.pr n k))))=true:=by
 rw [z120,Int.toNat_of_nonpos hz] at h
 rw [z121,Int.toNat_of_nonpos hk]; exact h
theorem t121_new (h:E.B ρ (.fn 121 (.pr x (.pr l (.pr n i))))=true) (h2:E.B ρ (.fn 120 (.pr y (.pr l (.pr n q))))=true) (hq:E.I ρ q=E.I ρ i) (h0:0≤E.I ρ i) (hl:E.I ρ (.fn 0 y) < E.I ρ (.fn 0 x)) (hk:E.I ρ k=E.I ρ i + 1):E.B ρ (.fn 121 (.pr y (.pr l (.pr n k))))=true:=by
 rw [← ints_len,← ints_len] at hl
 rw [z120,hq] at h2
 rw [z121] at *
 rw [h2,h] at hl
 rw [h2,hk,show (E.I ρ i + 1).toNat=(E.I ρ i).toNat + 1 by omega]
 simp only [topK]
 rw [if_pos (by omega)]
theorem t121_old (h:E.B ρ (.fn 121 (.pr x (.pr l (.pr n i))))=true) (h2:E.B ρ (.fn 120 (.pr y (.pr l (.pr n q))))=true) (hq:E.I ρ q=E.I ρ i) (h0:0≤E.I ρ i) (hl:¬ E.I ρ (.fn 0 y) < E.I ρ (.fn 0 x)) (hk:E.I ρ k=E.I ρ i + 1):E.B ρ (.fn 121 (.pr x (.pr l (.pr n k))))=true:=by
 rw [← ints_len,← ints_len] at hl
 rw [z120,hq] at h2
 rw [z121] at *
 rw [h2,h] at hl
 rw [hk,show (E.I ρ i + 1).toNat=(E.I ρ i).toNat + 1 by omega]
 simp only [topK]
 rw [if_neg (by omega)]; exact h
theorem t121_congr (h:E.B ρ (.fn 121 (.pr x (.pr l (.pr n i))))=true) (hk:E.I ρ k=E.I ρ i):E.B ρ (.fn 121 (.pr x (.pr l (.pr n k))))=true:=by
 rw [z121] at *; rw [hk]; exact h
theorem t120_len (h:E.B ρ (.fn 120 (.pr x (.pr l (.pr n a))))=true) (h0:0≤E.I ρ a) (h1:E.I ρ a < E.I ρ n):1≤E.I ρ (.fn 0 x)∧E.I ρ (.fn 0 x)≤E.I ρ n:=by
 rw [z120] at h
 have:=clo_len (matE ρ l) (E.I ρ n).toNat (E.I ρ a).toNat (by omega)
 rw [← ints_len,h]; omega
theorem t121_len (h:E.B ρ (.fn 121 (.pr x (.pr l (.pr n k))))=true) (h0:1≤E.I ρ n) (h1:E.I ρ k≤E.I ρ n):1≤E.I ρ (.fn 0 x)∧E.I ρ (.fn 0 x)≤E.I ρ n:=by
 rw [z121] at h
 have:=topK_len (matE ρ l) (E.I ρ n).toNat (E.I ρ k).toNat (by omega) (by omega)
 rw [← ints_len,h]; omega
theorem t121_elem (h:E.B ρ (.fn 121 (.pr x (.pr l (.pr n k))))=true) (h0:1≤E.I ρ n) (hk:E.I ρ k≤E.I ρ n) (j:E) (j0:0≤E.I ρ j) (j1:E.I ρ j < E.I ρ (.fn 0 x)):0≤E.I ρ (.fn 1 (.pr x j))∧E.I ρ (.fn 1 (.pr x j)) < E.I ρ n:=by
 rw [← ints_len] at j1
 rw [z121] at h
 obtain ⟨a,ha,e⟩:=topK_mem (matE ρ l) (E.I ρ n).toNat (by omega) (E.I ρ k).toNat (by omega)
 have:=inR_of_clo (M:=matE ρ l) (n:=(E.I ρ n).toNat) (a:=a) (z:=(ints ρ x).getD (E.I ρ j).toNat 0) (by rw [← e,← h,getD_lt _ _ (by omega)]; exact List.getElem_mem _)
 rw [I_nth]; omega
/-! the law -/
theorem rate_sum (a b X Y:Int) (hx:0≤X) (hy:0≤Y):rateI a b X Y + rateI b a Y X=1000∨rateI a b X Y + rateI b a Y X=999:=by
 unfold rateI
 simp only [Bool.or_eq_true,beq_iff_eq]
 by_cases e:a=b∨X + Y=0
 ·rw [if_pos e,if_pos (by omega)]; omega
 ·rw [if_neg e,if_neg (by omega),Int.tdiv_eq_ediv_of_nonneg (by omega),Int.tdiv_eq_ediv_of_nonneg (by omega),Int.add_comm Y X]
  have hp:0 < X + Y:=by omega
  have d1:=Int.mul_ediv_add_emod (1000 * X) (X + Y)
  have d2:=Int.mul_ediv_add_emod (1000 * Y) (X + Y)
  have m1:=Int.emod_nonneg (1000 * X) (by omega:X + Y≠0)
  have m2:=Int.emod_lt_of_pos (1000 * X) hp
  have m3:=Int.emod_nonneg (1000 * Y) (by omega:X + Y≠0)
  have m4:=Int.emod_lt_of_pos (1000 * Y) hp
  generalize 1000 * X / (X + Y)=p at *
  generalize 1000 * Y / (X + Y)=q at *
  have hs:(X + Y) * (1000 - (p + q))=1000 * X % (X + Y) + 1000 * Y % (X + Y):=by
   rw [Int.mul_sub,Int.mul_add]; omega
  have lo:0≤1000 - (p + q):=by
   apply Classical.byContradiction; intro hn
   have:(X + Y) * (1000 - (p + q))≤(X + Y) * (-1):=Int.mul_le_mul_of_nonneg_left (by omega) (by omega)
   omega
  have hi:1000 - (p + q)≤1:=by
   apply Classical.byContradiction; intro hn
   have:(X + Y) * 2≤(X + Y) * (1000 - (p + q)):=Int.mul_le_mul_of_nonneg_left (by omega) (by omega)
   omega
  omega
theorem t105_sum (h:E.B ρ (.fn 117 (.pr l g))=true) (hm:E.B ρ (.fn 101 (.pr l n))=true) (a0:0≤E.I ρ a) (a1:E.I ρ a < E.I ρ n) (b0:0≤E.I ρ b) (b1:E.I ρ b < E.I ρ n):E.I ρ (.fn 105 (.pr l (.pr a b))) + E.I ρ (.fn 105 (.pr l (.pr b a)))=1000∨E.I ρ (.fn 105 (.pr l (.pr a b))) + E.I ρ (.fn 105 (.pr l (.pr b a)))=999:=by
 rw [I_105,I_105]
 exact rate_sum _ _ _ _ (t117_at h hm a0 a1 b0 b1).1 (t117_at h hm b0 b1 a0 a1).1
theorem mat_ext (M N:List (List Int)) (n:Nat) (h1:isMat M n=true) (h2:isMat N n=true) (h:∀ i,i < n→∀ j,j < n→get2 M i j=get2 N i j):M=N:=by
 rw [isMat_iff] at h1 h2
 refine List.ext_getElem (by omega) fun i hi hi'=>?_
 have r1:=h1.2 i (by omega)
 have r2:=h2.2 i (by omega)
 rw [getD_lt _ _ hi] at r1
 rw [getD_lt _ _ hi'] at r2
 refine List.ext_getElem (by omega) fun j hj hj'=>?_
 have:=h i (by omega) j (by omega)
 unfold get2 at this
 rw [getD_lt _ _ hi,getD_lt _ _ hi',getD_lt _ _ hj,getD_lt _ _ hj'] at this
 exact this
theorem t118_eq (h:E.B ρ (.fn 118 (.pr l (.pr x n)))=true) (h2:E.B ρ (.fn 118 (.pr L (.pr x n)))=true):matE ρ l=matE ρ L:=by
 rw [z118,addM_iff] at *
 exact mat_ext _ _ _ h.1 h2.1 fun i hi j hj=>by rw [h.2.2 i hi j hj,h2.2.2 i hi j hj]
theorem t118_top (h:E.B ρ (.fn 118 (.pr l (.pr w d)))=true) (h2:E.B ρ (.fn 118 (.pr L (.pr w d)))=true) (h3:E.B ρ (.fn 121 (.pr x (.pr l (.pr n k))))=true) (h4:E.B ρ (.fn 121 (.pr y (.pr L (.pr n k))))=true):E.B ρ (.fn 134 (.pr x y))=true:=by
 rw [z121] at h3 h4
 rw [z134,h3,h4,t118_eq h h2]
theorem t118_rate (h:E.B ρ (.fn 118 (.pr l (.pr w d)))=true) (h2:E.B ρ (.fn 118 (.pr L (.pr w d)))=true):E.I ρ (.fn 105 (.pr l (.pr a b)))=E.I ρ (.fn 105 (.pr L (.pr a b))):=by
 rw [I_105',I_105',t118_eq h h2]
theorem z127:(E.B ρ (.fn 127 (.pr l (.pr a k)))=true)↔∀ b,b < (E.I ρ k).toNat→b=(E.I ρ a).toNat∨beatsM (matE ρ l) (E.I ρ a).toNat b=true:=by
 show (allB (matE ρ l) (E.I ρ a).toNat (E.I ρ k).toNat=true)↔_
 unfold allB
 simp only [List.all_eq_true,List.mem_range,Bool.or_eq_true,beq_iff_eq]
theorem t127_zero (h:E.I ρ k≤0):E.B ρ (.fn 127 (.pr l (.pr a k)))=true:=by
 rw [z127]; intro b hb; omega
theorem t127_step (h0:0≤E.I ρ i) (ha:0≤E.I ρ a) (hk:E.I ρ k=E.I ρ i + 1):E.B ρ (.fn 127 (.pr l (.pr a k)))=true↔(E.B ρ (.fn 127 (.pr l (.pr a i)))=true∧(E.I ρ a=E.I ρ i∨E.B ρ (.fn 119 (.pr l (.pr a i)))=true)):=by
 rw [z127,z127,z119]
 constructor
 ·intro h
  refine ⟨fun b hb=>h b (by omega),?_⟩
  rcases h (E.I ρ i).toNat (by omega) with e | e
  ·exact Or.inl (by omega)
  ·exact Or.inr e
 ·rintro ⟨h1,h2⟩ b hb
  by_cases e:b=(E.I ρ i).toNat
  ·subst e
   rcases h2 with h2 | h2
   ·exact Or.inl (by omega)
   ·exact Or.inr h2
  ·exact h1 b (by omega)
theorem t127_top (h:E.B ρ (.fn 127 (.pr l (.pr a k)))=true) (hk:E.I ρ k=E.I ρ n) (h0:0≤E.I ρ a) (h1:E.I ρ a < E.I ρ n) (ht:E.B ρ (.fn 121 (.pr x (.pr l (.pr n n))))=true):E.B ρ (.fn 134 (.pr x (.fn 23 (.pr a (.fn 10 z)))))=true:=by
 rw [z127,hk] at h
 rw [z121,top_single (by omega) h] at ht
 rw [z134,ht,ints_one,Int.toNat_of_nonneg h0]
theorem t122_top (ht:E.B ρ (.fn 121 (.pr x (.pr l (.pr n n))))=true) (h:E.B ρ (.fn 117 (.pr l g))=true) (hm:E.B ρ (.fn 101 (.pr l n))=true) (h1:1 < E.I ρ (.fn 0 x)) (hn:1≤E.I ρ n) (i0:0≤E.I ρ i) (i1:E.I ρ i < E.I ρ (.fn 0 x)):E.I ρ (.fn 122 (.pr l (.pr (.fn 1 (.pr x i)) n)))≤500:=by
 have hr:=t121_elem ht hn (by omega) i i0 i1
 rw [← ints_len] at h1 i1
 rw [z121] at ht
 have hz:(ints ρ x).getD (E.I ρ i).toNat 0∈topK (matE ρ l) (E.I ρ n).toNat (E.I ρ n).toNat:=by
  rw [← ht,getD_lt _ _ (by omega)]; exact List.getElem_mem _
 rw [← I_nth] at hz
 obtain ⟨b,hb,hne,hbt⟩:=top_beaten hz (by rw [← ht]; omega) (by omega)
 rw [I_122]
 refine Int.le_trans (floor_le _ _ b hb hne) ?_
 unfold rateM
 rw [Int.toNat_of_nonneg hr.1]
 unfold beatsM at hbt
 rw [decide_eq_false_iff_not,Int.toNat_of_nonneg hr.1] at hbt
 have p1:=t117_at (a:=.fn 1 (.pr x i)) (b:=.int b) h hm hr.1 hr.2 (by show (0:Int)≤b; omega) (by show (b:Int) < _; omega)
 have p2:=t117_at (b:=.fn 1 (.pr x i)) (a:=.int b) h hm (by show (0:Int)≤b; omega) (by show (b:Int) < _; omega) hr.1 hr.2
 rw [I_nn] at p1 p2
 rw [mAt_eq,mAt_eq] at hbt
 rw [mAt_eq,mAt_eq]
 have e1:(E.I ρ (.int (b:Int))).toNat=(b:Int).toNat:=rfl
 rw [e1] at p1 p2
 generalize get2 (matE ρ l) (E.I ρ (.fn 1 (.pr x i))).toNat (b:Int).toNat=X at *
 generalize get2 (matE ρ l) (b:Int).toNat (E.I ρ (.fn 1 (.pr x i))).toNat=Y at *
 unfold rateI
 split
 ·omega
 ·rename_i hc
  simp only [Bool.or_eq_true,beq_iff_eq,not_or] at hc
  rw [Int.tdiv_eq_ediv_of_nonneg (by omega)]
  have:1000 * X / (X + Y) < 501:=Int.ediv_lt_of_lt_mul (by omega) (by omega)
  omega
theorem z128:(E.B ρ (.fn 128 (.pr l (.pr x (.pr i k))))=true)↔∀ y∈(ints ρ x).take (E.I ρ k).toNat,beatsM (matE ρ l) (E.I ρ (.fn 1 (.pr x i))).toNat y.toNat=true∨beatsM (matE ρ l) y.toNat (E.I ρ (.fn 1 (.pr x i))).toNat=true:=by
 show (tourC (matE ρ l) (ints ρ x) (E.I ρ i).toNat (E.I ρ k).toNat=true)↔_
 unfold tourC
 rw [I_nth]
 simp only [List.all_eq_true,Bool.or_eq_true]
theorem t128_zero (h:E.I ρ k≤0):E.B ρ (.fn 128 (.pr l (.pr x (.pr i k))))=true:=by
 rw [z128,Int.toNat_of_nonpos h]; intro y hy; simp at hy
theorem t128_step (h0:0≤E.I ρ j) (h1:E.I ρ j < E.I ρ (.fn 0 x)) (hk:E.I ρ k=E.I ρ j + 1):E.B ρ (.fn 128 (.pr l (.pr x (.pr i k))))=true↔(E.B ρ (.fn 128 (.pr l (.pr x (.pr i j))))=true∧(E.B ρ (.fn 119 (.pr l (.pr (.fn 1 (.pr x i)) (.fn 1 (.pr x j)))))=true∨E.B ρ (.fn 119 (.pr l (.pr (.fn 1 (.pr x j)) (.fn 1 (.pr x i)))))=true)):=by
 rw [← ints_len] at h1
 rw [z128,z128,z119,z119,hk,show (E.I ρ j + 1).toNat=(E.I ρ j).toNat + 1 by omega,List.take_add_one,List.getElem?_eq_getElem (by omega)]
 have e:E.I ρ (.fn 1 (.pr x j))=(ints ρ x)[(E.I ρ j).toNat]'(by omega):=by rw [I_nth,getD_lt]
 rw [e]
 simp only [Option.toList_some,List.mem_append,List.mem_singleton]
 constructor
 ·intro h; exact ⟨fun y hy=>h y (Or.inl hy),h _ (Or.inr rfl)⟩
 ·rintro ⟨h1,h2⟩ y (hy | rfl)
  ·exact h1 y hy
  ·exact h2
theorem z129:(E.B ρ (.fn 129 (.pr l (.pr x k)))=true)↔∀ j,j < (E.I ρ k).toNat→tourC (matE ρ l) (ints ρ x) j j=true:=by
 show (tourR (matE ρ l) (ints ρ x) (E.I ρ k).toNat=true)↔_
 unfold tourR
 simp only [List.all_eq_true,List.mem_range]
theorem t129_zero (h:E.I ρ k≤0):E.B ρ (.fn 129 (.pr l (.pr x k)))=true:=by
 rw [z129]; intro j hj; omega
theorem t129_congr (hk:E.I ρ k=E.I ρ i):E.B ρ (.fn 129 (.pr l (.pr x k)))=true↔E.B ρ (.fn 129 (.pr l (.pr x i)))=true:=by
 rw [z129,z129,hk]
theorem t129_step (h0:0≤E.I ρ i) (hq:E.I ρ q=E.I ρ i) (hk:E.I ρ k=E.I ρ i + 1):E.B ρ (.fn 129 (.pr l (.pr x k)))=true↔(E.B ρ (.fn 129 (.pr l (.pr x i)))=true∧E.B ρ (.fn 128 (.pr l (.pr x (.pr i q))))=true):=by
 have e:(E.B ρ (.fn 128 (.pr l (.pr x (.pr i q))))=true)=(tourC (matE ρ l) (ints ρ x) (E.I ρ i).toNat (E.I ρ q).toNat=true):=rfl
 rw [z129,z129,e,hq]
 constructor
 ·intro h; exact ⟨fun j hj=>h j (by omega),h _ (by omega)⟩
 ·rintro ⟨h1,h2⟩ j hj
  by_cases e:j=(E.I ρ i).toNat
  ·subst e; exact h2
  ·exact h1 j (by omega)
theorem t_cycle (ht:E.B ρ (.fn 121 (.pr x (.pr l (.pr n n))))=true) (hn:1≤E.I ρ n) (hq:E.B ρ (.fn 129 (.pr l (.pr x q)))=true) (hl:E.I ρ (.fn 0 x)≤E.I ρ q) (hc:E.B ρ (.fn 123 (.pr l (.pr n n)))=true):E.I ρ (.fn 0 x)≤1:=by
 rw [← ints_len] at *
 rw [z121] at ht
 rw [z129] at hq
 rw [z123] at hc
 have:=top_cycle (M:=matE ρ l) (n:=(E.I ρ n).toNat) (by omega) hc (by
  rw [← ht]
  have key:∀ i j,i < (ints ρ x).length→j < i→beatsM (matE ρ l) ((ints ρ x).getD i 0).toNat ((ints ρ x).getD j 0).toNat=true∨beatsM (matE ρ l) ((ints ρ x).getD j 0).toNat ((ints ρ x).getD i 0).toNat=true:=by
   intro i j hi hj
   have h1:=hq i (by omega)
   unfold tourC at h1
   simp only [List.all_eq_true,Bool.or_eq_true] at h1
   refine h1 _ ?_
   rw [getD_lt _ _ (by omega)]
   have:(ints ρ x)[j]'(by omega)=((ints ρ x).take i)[j]'(by rw [List.length_take]; omega):=by simp
   rw [this]; exact List.getElem_mem _
  intro a ha b hb
  obtain ⟨i,hi,rfl⟩:=List.mem_iff_getElem.1 ha
  obtain ⟨j,hj,rfl⟩:=List.mem_iff_getElem.1 hb
  rcases Nat.lt_trichotomy i j with e | e | e
  ·have:=key j i hj e
   rw [getD_lt _ _ hi,getD_lt _ _ hj] at this
   rcases this with h | h
   ·exact Or.inr (Or.inr h)
   ·exact Or.inr (Or.inl h)
  ·subst e; exact Or.inl rfl
  ·have:=key i j hi e
   rw [getD_lt _ _ hi,getD_lt _ _ hj] at this
   exact Or.inr this)
 rw [← ht] at this
 omega
/-! games, one after the other, from the last one -/
theorem z130:(E.B ρ (.fn 130 (.pr l (.pr x (.pr n i))))=true)=(addM (matE ρ l) (List.replicate (E.I ρ n).toNat (List.replicate (E.I ρ n).toNat 0)) ((g3 (ints ρ x)).drop (E.I ρ i).toNat) (E.I ρ n).toNat=true):=rfl
theorem t130_zero (h:E.B ρ (.fn 116 (.pr l n))=true) (hm:E.B ρ (.fn 101 (.pr l n))=true) (hi:E.I ρ (.fn 9 (.pr x (.int 3)))≤E.I ρ i):E.B ρ (.fn 130 (.pr l (.pr x (.pr n i))))=true:=by
 rw [z116] at h
 rw [z101] at hm
 rw [rw3_I] at hi
 rw [z130,List.drop_of_length_le (by omega),← h,addM_iff]
 refine ⟨hm,hm,fun p hp q hq=>?_⟩
 show _=_ + (0:Int); omega
theorem t118_end (h:E.B ρ (.fn 130 (.pr l (.pr x (.pr n i))))=true) (hi:E.I ρ i≤0):E.B ρ (.fn 118 (.pr l (.pr x n)))=true:=by
 rw [z130,Int.toNat_of_nonpos hi] at h
 rw [z118]; exact h
theorem cut_ints (h0:0≤E.I ρ i) (hh:E.I ρ h=E.I ρ i + 1) (h1:E.I ρ i < E.I ρ (.fn 9 (.pr x (.int 3)))):∃ g,g3 (ints ρ (.fn 24 (.pr (.pr (.int 3) x) (.pr i (.pr h m)))))=[g]∧(g3 (ints ρ x))[(E.I ρ i).toNat]?=some g:=by
 have e:ints ρ (.fn 24 (.pr (.pr (.int 3) x) (.pr i (.pr h m))))=((ints ρ x).take ((E.I ρ h).toNat * 3)).drop ((E.I ρ i).toNat * 3):=by
  show (((E.L ρ x).take ((E.I ρ h).toNat * 3)).drop ((E.I ρ i).toNat * 3)).map U.toI=_
  rw [List.map_drop,List.map_take]; rfl
 rw [rw3_I,g3_len] at h1
 have hl:(ints ρ (.fn 24 (.pr (.pr (.int 3) x) (.pr i (.pr h m))))).length=3:=by
  rw [e,List.length_drop,List.length_take]; omega
 have hg:=g3_get (ints ρ x) (E.I ρ i).toNat (by omega)
 have hg2:=g3_get (ints ρ (.fn 24 (.pr (.pr (.int 3) x) (.pr i (.pr h m))))) 0 (by omega)
 have hgl:=g3_len (ints ρ (.fn 24 (.pr (.pr (.int 3) x) (.pr i (.pr h m)))))
 have hd:∀ t,t < 3→(ints ρ (.fn 24 (.pr (.pr (.int 3) x) (.pr i (.pr h m))))).getD t 0=(ints ρ x).getD (3 * (E.I ρ i).toNat + t) 0:=by
  intro t ht
  rw [e,List.getD_eq_getElem?_getD,List.getD_eq_getElem?_getD,List.getElem?_drop,List.getElem?_take_of_lt (by omega)]
  congr 2; omega
 have d0:=hd 0 (by omega)
 have d1:=hd 1 (by omega)
 have d2:=hd 2 (by omega)
 refine ⟨_,?_,hg⟩
 match hL:g3 (ints ρ (.fn 24 (.pr (.pr (.int 3) x) (.pr i (.pr h m))))),hg2,hgl with
 | [],_,hgl=>rw [hl] at hgl; simp at hgl
 | _::_::_,_,hgl=>rw [hl] at hgl; simp at hgl
 | [g],hg2,_ =>
  simp only [List.getElem?_cons_zero,Option.some.injEq] at hg2
  rw [hg2]
  simp only [Nat.mul_zero,Nat.zero_add] at *
  rw [d0,d1,d2]; rfl
theorem cut_rw (h0:0≤E.I ρ i) (hh:E.I ρ h=E.I ρ i + 1) (h1:E.I ρ i < E.I ρ (.fn 9 (.pr x (.int 3)))):E.I ρ (.fn 9 (.pr (.fn 24 (.pr (.pr (.int 3) x) (.pr i (.pr h m)))) (.int 3)))=1:=by
 obtain ⟨g,h2,_⟩:=cut_ints (m:=m) h0 hh h1
 rw [rw3_I,h2]; rfl
theorem t130_step (h0:0≤E.I ρ i) (hh:E.I ρ h=E.I ρ i + 1) (h1:E.I ρ i < E.I ρ (.fn 9 (.pr x (.int 3)))) (hL:E.B ρ (.fn 130 (.pr l (.pr x (.pr n k))))=true) (hk:E.I ρ k=E.I ρ i + 1) (ha:E.B ρ (.fn 103 (.pr L (.pr l (.pr (.fn 24 (.pr (.pr (.int 3) x) (.pr i (.pr h m)))) (.pr q n)))))=true) (hq:E.I ρ q=1) (hj:E.I ρ j=E.I ρ i):E.B ρ (.fn 130 (.pr L (.pr x (.pr n j))))=true:=by
 obtain ⟨g,h2,h3⟩:=cut_ints (m:=m) h0 hh h1
 rw [z103,addM_iff] at ha
 rw [z130,addM_iff] at *
 have eg:games ((E.fn 24 (.pr (.pr (.int 3) x) (.pr i (.pr h m)))).den ρ) (E.I ρ q)=[g]:=by
  show (g3 (ints ρ (.fn 24 (.pr (.pr (.int 3) x) (.pr i (.pr h m)))))).take (E.I ρ q).toNat=_
  rw [h2,hq]; rfl
 have ed:(g3 (ints ρ x)).drop (E.I ρ j).toNat=g::(g3 (ints ρ x)).drop (E.I ρ k).toNat:=by
  obtain ⟨hlt,he⟩:=List.getElem?_eq_some_iff.1 h3
  rw [hj,List.drop_eq_getElem_cons hlt,he,hk,show (E.I ρ i + 1).toNat=(E.I ρ i).toNat + 1 by omega]
 refine ⟨ha.1,hL.2.1,fun p hp r hr=>?_⟩
 rw [ha.2.2 p hp r hr,hL.2.2 p hp r hr,eg,ed]
 show _ + scoreG _ _ _ + scoreG [g] _ _=_ + scoreG (g::_) _ _
 unfold scoreG
 simp only [List.map_cons,List.map_nil,sumL]
 omega
theorem t104_cut (h0:0≤E.I ρ i) (hh:E.I ρ h=E.I ρ i + 1) (h1:E.I ρ i < E.I ρ (.fn 9 (.pr x (.int 3)))) (hb:E.I ρ (.fn 104 (.pr x (.pr (.fn 9 (.pr x (.int 3))) d)))=0):E.I ρ (.fn 104 (.pr (.fn 24 (.pr (.pr (.int 3) x) (.pr i (.pr h m)))) (.pr q d)))=0:=by
 obtain ⟨g,h2,h3⟩:=cut_ints (m:=m) h0 hh h1
 rw [I_104] at *
 have hb':(gsE ρ x (.fn 9 (.pr x (.int 3)))).any (badG (E.I ρ d))≠true:=by
  intro hx; rw [if_pos hx] at hb; omega
 rw [if_neg]
 intro hx
 apply hb'
 rw [List.any_eq_true] at hx ⊢
 obtain ⟨g',hg,hbad⟩:=hx
 refine ⟨g',?_,hbad⟩
 rw [gsE_def,h2] at hg
 have:g'=g:=by simpa using List.mem_of_mem_take hg
 subst this
 rw [gsE_def,rw3_I,Int.toNat_natCast,List.take_length]
 exact List.mem_of_getElem? h3
end
end Go.SX

