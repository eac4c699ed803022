/-
  What the program's own functions say
-/
import Derived.Test.YtmngplmblanhdaaSXd
set_option linter.unusedVariables false
set_option linter.unusedSimpArgs false
namespace Go.SX
/-! ### Fields of decks: plain laws -/
noncomputable def ints (ρ:Env) (e:E):List Int:=(E.L ρ e).map U.toI
noncomputable def matE (ρ:Env) (e:E):List (List Int):=mat (e.den ρ)
theorem getD_map (l:List U) (k:Nat):(l.getD k (.int 0)).toI=(l.map U.toI).getD k 0:=by
 simp only [List.getD_eq_getElem?_getD,List.getElem?_map]
 cases l[k]? <;> rfl
theorem mat_getD (L:List U) (k:Nat):(L.map toIs).getD k []=toIs (L.getD k (.int 0)):=by
 simp only [List.getD_eq_getElem?_getD,List.getElem?_map]
 cases L[k]? <;> rfl
theorem getD_lt {α:Type} (l:List α) (d:α) {k:Nat} (h:k < l.length):l.getD k d=l[k]:=by rw [List.getD_eq_getElem?_getD,List.getElem?_eq_getElem h]; rfl
def get2 (M:List (List Int)) (i j:Nat):Int:=(M.getD i []).getD j 0
theorem mAt_eq (M:List (List Int)) (a b:Int):mAt M a b=get2 M a.toNat b.toNat:=rfl
theorem mAt_nat (M:List (List Int)) (i j:Nat):mAt M (i:Int) (j:Int)=get2 M i j:=by rw [mAt_eq]; simp
theorem isMat_iff (M:List (List Int)) (n:Nat):isMat M n=true↔M.length=n∧∀ i,i < n→(M.getD i []).length=n:=by
 unfold isMat
 rw [Bool.and_eq_true,beq_iff_eq,List.all_eq_true]
 constructor
 ·rintro ⟨h1,h2⟩
  refine ⟨h1,fun i hi=>?_⟩
  rw [getD_lt _ _ (by omega)]
  simpa using h2 _ (List.getElem_mem (by omega))
 ·rintro ⟨h1,h2⟩
  refine ⟨h1,fun r hr=>?_⟩
  obtain ⟨i,hi,rfl⟩:=List.mem_iff_getElem.1 hr
  have:=h2 i (by omega)
  rw [getD_lt _ _ hi] at this
  simpa using this
theorem addM_iff (M' M:List (List Int)) (gs:List (Int × Int × Int)) (n:Nat):addM M' M gs n=true↔isMat M' n=true∧isMat M n=true∧∀ i,i < n→∀ j,j < n→get2 M' i j=get2 M i j + scoreG gs (i:Int) (j:Int):=by
 unfold addM
 simp only [Bool.and_eq_true,List.all_eq_true,List.mem_range,beq_iff_eq,and_assoc,mAt_nat]
/-! games -/
theorem g3_len (l:List Int):(g3 l).length=l.length / 3:=by
 fun_induction g3 l with
 | case1 a b o l ih=>simp only [List.length_cons,ih]; omega
 | case2 l h =>
  match l,h with
  | [],_=>rfl
  | [_],_=>simp
  | [_,_],_=>simp
  | a::b::o::l,h=>exact absurd rfl (h a b o l)
theorem g3_get (l:List Int):∀ i,i < l.length / 3→(g3 l)[i]?=some (l.getD (3 * i) 0,l.getD (3 * i + 1) 0,l.getD (3 * i + 2) 0):=by
 fun_induction g3 l with
 | case1 a b o l ih =>
  intro i hi
  cases i with
  | zero=>simp
  | succ i =>
   simp only [List.length_cons] at hi
   have:=ih i (by omega)
   rw [List.getElem?_cons_succ,this]
   have e1:3 * (i + 1)=3 * i + 1 + 1 + 1:=by omega
   have e2:3 * (i + 1) + 1=3 * i + 1 + 1 + 1 + 1:=by omega
   have e3:3 * (i + 1) + 2=3 * i + 2 + 1 + 1 + 1:=by omega
   rw [e3,e2,e1]
   simp only [List.getD_cons_succ]
 | case2 l h =>
  intro i hi
  match l,h,hi with
  | [],_,hi=>simp at hi
  | [_],_,hi=>simp at hi
  | [_,_],_,hi=>simp at hi
  | a::b::o::l,h,_=>exact absurd rfl (h a b o l)
theorem sumL_app (l m:List Int):sumL (l++m)=sumL l + sumL m:=by
 induction l with
 | nil=>simp [sumL]
 | cons x l ih=>simp only [List.cons_append,sumL,ih]; omega
theorem scoreG_app (gs:List (Int × Int × Int)) (g:Int × Int × Int) (a b:Int):scoreG (gs++[g]) a b=scoreG gs a b + sc1 a b g:=by
 unfold scoreG
 rw [List.map_append,sumL_app]
 simp [sumL]
theorem sc1_nn (a b:Int) (g:Int × Int × Int):0≤sc1 a b g∧sc1 a b g≤2:=by
 unfold sc1
 split
 ·omega
 ·split <;> omega
theorem scoreG_nn (gs:List (Int × Int × Int)) (a b:Int):0≤scoreG gs a b∧scoreG gs a b≤2 * gs.length:=by
 unfold scoreG
 induction gs with
 | nil=>simp [sumL]
 | cons g gs ih =>
  have:=sc1_nn a b g
  simp only [List.map_cons,sumL,List.length_cons]
  omega
theorem sc1_even (a b:Int) (h:a≠b) (g:Int × Int × Int):(sc1 a b g + sc1 b a g) % 2=0:=by
 unfold sc1
 obtain ⟨p,q,o⟩:=g
 simp only [Bool.or_eq_true,Bool.and_eq_true,beq_iff_eq]
 repeat' split
 all_goals omega
theorem scoreG_even (gs:List (Int × Int × Int)) (a b:Int) (h:a≠b):(scoreG gs a b + scoreG gs b a) % 2=0:=by
 unfold scoreG
 induction gs with
 | nil=>rfl
 | cons g gs ih =>
  have:=sc1_even a b h g
  simp only [List.map_cons,sumL]
  omega
/-! the best deck -/
theorem bestUp_mem (f:Nat→Int) (hf:∀ i,0≤f i):∀ k,0 < k→∃ d:Nat,bestUp f k=((d:Int),f d)∧d < k∧(∀ i,i < k→f i≤f d)∧∀ i,i < d→f i < f d
 | 0,h=>by omega
 | k + 1,_=>by
  unfold bestUp
  by_cases hk:k=0
  ·subst hk
   rw [if_pos (by show (-1:Int) < f 0; have:=hf 0; omega)]
   refine ⟨0,rfl,by omega,fun i hi=>?_,fun i hi=>by omega⟩
   have:i=0:=by omega
   rw [this]; omega
  ·obtain ⟨d,h1,h2,h3,h4⟩:=bestUp_mem f hf k (by omega)
   rw [h1]
   by_cases hc:f d < f k
   ·rw [if_pos hc]
    refine ⟨k,rfl,by omega,fun i hi=>?_,fun i hi=>?_⟩
    ·rcases Nat.lt_or_ge i k with h | h
     ·have:=h3 i h; omega
     ·have:i=k:=by omega
      rw [this]; omega
    ·have:=h3 i hi; omega
   ·rw [if_neg hc]
    refine ⟨d,rfl,by omega,fun i hi=>?_,h4⟩
    rcases Nat.lt_or_ge i k with h | h
    ·exact h3 i h
    ·have:i=k:=by omega
     rw [this]; omega
theorem bestDn_mem (f:Nat→Int) (hf:∀ i,0≤f i) (n:Nat):∀ j,0 < j→j≤n→∃ d:Nat,bestDn f n j=((d:Int),f d)∧n - j≤d∧d < n∧(∀ i,n - j≤i→i < n→f i≤f d)∧∀ i,n - j≤i→i < d→f i < f d
 | 0,h,_=>by omega
 | j + 1,_,hj=>by
  unfold bestDn
  by_cases h0:j=0
  ·subst h0
   rw [if_pos (by show (0:Int)≤f (n - 1 - 0); exact hf _)]
   refine ⟨n - 1 - 0,rfl,by omega,by omega,fun i h1 h2=>?_,fun i h1 h2=>by omega⟩
   have:i=n - 1 - 0:=by omega
   rw [this]; omega
  ·obtain ⟨d,h1,h2,h3,h4,h5⟩:=bestDn_mem f hf n j (by omega) (by omega)
   rw [h1]
   by_cases hc:f d≤f (n - 1 - j)
   ·rw [if_pos hc]
    refine ⟨n - 1 - j,rfl,by omega,by omega,fun i g1 g2=>?_,fun i g1 g2=>by omega⟩
    rcases Nat.lt_or_ge i (n - j) with h | h
    ·have:i=n - 1 - j:=by omega
     rw [this]; omega
    ·have:=h4 i h g2; omega
   ·rw [if_neg hc]
    refine ⟨d,rfl,by omega,h3,fun i g1 g2=>?_,fun i g1 g2=>?_⟩
    ·rcases Nat.lt_or_ge i (n - j) with h | h
     ·have:i=n - 1 - j:=by omega
      rw [this]; omega
     ·exact h4 i h g2
    ·rcases Nat.lt_or_ge i (n - j) with h | h
     ·have:i=n - 1 - j:=by omega
      rw [this]; omega
     ·exact h5 i h g2
theorem best_eq (f g:Nat→Int) (n:Nat) (hn:0 < n) (hf:∀ i,0≤f i) (hg:∀ i,0≤g i) (h:∀ i,i < n→f i=g i):bestUp f n=bestDn g n n:=by
 obtain ⟨d,h1,h2,h3,h4⟩:=bestUp_mem f hf n hn
 obtain ⟨e,g1,g2,g3,g4,g5⟩:=bestDn_mem g hg n n hn (Nat.le_refl _)
 have hde:d=e:=by
  rcases Nat.lt_trichotomy d e with hlt | heq | hlt
  ·have a1:=g5 d (by omega) hlt
   have a2:=h3 e g3
   rw [h d h2,h e g3] at a2; omega
  ·exact heq
  ·have a1:=h4 e hlt
   have a2:=g4 d (by omega) h2
   rw [h d h2,h e g3] at a1; omega
 subst hde
 rw [h1,g1,h d h2]
theorem rateI_nn (a b x y:Int) (hx:0≤x) (hy:0≤y):0≤rateI a b x y∧rateI a b x y≤1000:=by
 unfold rateI
 split
 ·omega
 ·rename_i h
  simp only [Bool.or_eq_true,beq_iff_eq,not_or] at h
  have hp:0 < x + y:=by omega
  rw [Int.tdiv_eq_ediv_of_nonneg (by omega)]
  refine ⟨Int.ediv_nonneg (by omega) (by omega),?_⟩
  have:1000 * x / (x + y) < 1001:=by
   refine Int.ediv_lt_of_lt_mul hp ?_
   omega
  omega
theorem sumF_nn (f:Nat→Int) (h:∀ i,0≤f i):∀ k,0≤sumF f k
 | 0=>by simp [sumF]
 | k + 1=>by have:=sumF_nn f h k; have:=h k; simp only [sumF]; omega
theorem sumF_congr (f g:Nat→Int):∀ k,(∀ i,i < k→f i=g i)→sumF f k=sumF g k
 | 0,_=>rfl
 | k + 1,h=>by simp only [sumF]; rw [sumF_congr f g k (fun i hi=>h i (by omega)),h k (by omega)]
section
variable {ρ : Env} {x l L A w a b d i n v h k g o j z e c m : E}
theorem wrap_add:-9223372036854775808≤E.I ρ a + E.I ρ b→E.I ρ a + E.I ρ b < 9223372036854775808→E.I ρ (.ar .add .i64 a b)=E.I ρ a + E.I ρ b:=by
 intro h h'
 have e:E.I ρ (.ar .add .i64 a b)=IntKind.i64.wrap (E.I ρ a + E.I ρ b):=rfl
 obtain ⟨s,e2,q,r⟩:=cs_i64 (E.I ρ a + E.I ρ b)
 rw [e,e2]; omega
theorem wrap_sub:-9223372036854775808≤E.I ρ a - E.I ρ b→E.I ρ a - E.I ρ b < 9223372036854775808→E.I ρ (.ar .sub .i64 a b)=E.I ρ a - E.I ρ b:=by
 intro h h'
 have e:E.I ρ (.ar .sub .i64 a b)=IntKind.i64.wrap (E.I ρ a - E.I ρ b):=rfl
 obtain ⟨s,e2,q,r⟩:=cs_i64 (E.I ρ a - E.I ρ b)
 rw [e,e2]; omega
theorem wrap_mul:-9223372036854775808≤E.I ρ a * E.I ρ b→E.I ρ a * E.I ρ b < 9223372036854775808→E.I ρ (.ar .mul .i64 a b)=E.I ρ a * E.I ρ b:=by
 intro h h'
 have e:E.I ρ (.ar .mul .i64 a b)=IntKind.i64.wrap (E.I ρ a * E.I ρ b):=rfl
 obtain ⟨s,e2,q,r⟩:=cs_i64 (E.I ρ a * E.I ρ b)
 rw [e,e2]; omega
theorem wrap_quo:-9223372036854775808≤(E.I ρ a).tdiv (E.I ρ b)→(E.I ρ a).tdiv (E.I ρ b) < 9223372036854775808→E.I ρ (.ar .quo .i64 a b)=(E.I ρ a).tdiv (E.I ρ b):=by
 intro h h'
 have e:E.I ρ (.ar .quo .i64 a b)=IntKind.i64.wrap ((E.I ρ a).tdiv (E.I ρ b)):=rfl
 obtain ⟨s,e2,q,r⟩:=cs_i64 ((E.I ρ a).tdiv (E.I ρ b))
 rw [e,e2]; omega
theorem ints_len:((ints ρ l).length:Int)=E.I ρ (.fn 0 l):=by
 show (((E.L ρ l).map U.toI).length:Int)=((E.L ρ l).length:Int)
 simp
theorem I_nth:E.I ρ (.fn 1 (.pr l i))=(ints ρ l).getD (E.I ρ i).toNat 0:=getD_map _ _
theorem I_mx:E.I ρ (.mx a b)=max (E.I ρ a) (E.I ρ b):=by
 show maxI _ _=_
 unfold maxI
 split <;> (simp only [E.I] at *; omega)
/-! matrices -/
theorem matE_len:((matE ρ l).length:Int)=E.I ρ (.fn 0 l):=by
 show (((E.L ρ l).map toIs).length:Int)=((E.L ρ l).length:Int)
 simp
theorem matE_row:(matE ρ l).getD (E.I ρ a).toNat []=ints ρ (.fn 1 (.pr l a)):=by
 show ((E.L ρ l).map toIs).getD (E.I ρ a).toNat []=_
 rw [mat_getD]; rfl
theorem I_nn:E.I ρ (.fn 1 (.pr (.fn 1 (.pr l a)) b))=get2 (matE ρ l) (E.I ρ a).toNat (E.I ρ b).toNat:=by
 rw [I_nth,← matE_row]; rfl
theorem z101:(E.B ρ (.fn 101 (.pr l n))=true)=(isMat (matE ρ l) (E.I ρ n).toNat=true):=rfl
theorem z103:(E.B ρ (.fn 103 (.pr L (.pr l (.pr x (.pr k n)))))=true)=(addM (matE ρ L) (matE ρ l) (games (x.den ρ) (E.I ρ k)) (E.I ρ n).toNat=true):=rfl
theorem z117:(E.B ρ (.fn 117 (.pr l g))=true)=(((matE ρ l).all fun r=>r.all fun x=>decide (0≤x∧x≤2 * E.I ρ g))=true):=rfl
theorem z116:(E.B ρ (.fn 116 (.pr l n))=true)=(matE ρ l=List.replicate (E.I ρ n).toNat (List.replicate (E.I ρ n).toNat 0)):=by
 show ((matE ρ l == List.replicate (E.I ρ n).toNat (List.replicate (E.I ρ n).toNat 0))=true)=_
 rw [beq_iff_eq]
theorem z115:(E.B ρ (.fn 115 (.pr l (.pr i n)))=true)=((matE ρ l).length=(E.I ρ n).toNat∧(matE ρ l).take (E.I ρ i).toNat=List.replicate (E.I ρ i).toNat (List.replicate (E.I ρ n).toNat 0)):=by
 show (((matE ρ l).length == (E.I ρ n).toNat && (matE ρ l).take (E.I ρ i).toNat == List.replicate (E.I ρ i).toNat (List.replicate (E.I ρ n).toNat 0))=true)=_
 rw [Bool.and_eq_true,beq_iff_eq,beq_iff_eq]
theorem z118:(E.B ρ (.fn 118 (.pr l (.pr x n)))=true)=(addM (matE ρ l) (List.replicate (E.I ρ n).toNat (List.replicate (E.I ρ n).toNat 0)) (g3 (ints ρ x)) (E.I ρ n).toNat=true):=rfl
theorem t115_zero (hi:E.I ρ i≤0) (h0:0≤E.I ρ n):E.B ρ (.fn 115 (.pr (.fn 5 (.pr n (.fn 30 a))) (.pr i n)))=true:=by
 have e:(E.I ρ i).toNat=0:=by omega
 have hm:matE ρ (.fn 5 (.pr n (.fn 30 a)))=List.replicate (E.I ρ n).toNat []:=by
  show (List.replicate (E.I ρ n).toNat _).map toIs=_
  rw [List.map_replicate]; rfl
 rw [z115,hm,e]; simp
theorem take_set_succ {α:Type} (C D:List α) (k:Nat) (v:α) (h:C.take k=D.take k) (hC:k < C.length) (hD:k < D.length) (hv:v=D[k]):(C.set k v).take (k + 1)=D.take (k + 1):=by
 have hC':k < (C.set k v).length:=by rw [List.length_set]; exact hC
 rw [List.take_add_one,List.take_add_one,List.take_set_of_le (Nat.le_refl k),h,List.getElem?_eq_getElem hC',List.getElem?_eq_getElem hD,List.getElem_set_self,hv]
theorem t115_step (h:E.B ρ (.fn 115 (.pr l (.pr i n)))=true) (h0:0≤E.I ρ i) (h1:E.I ρ i < E.I ρ n) (hk:E.I ρ k=E.I ρ i + 1) (hz:E.I ρ z=0):E.B ρ (.fn 115 (.pr (.fn 2 (.pr l (.pr i (.fn 28 (.pr a (.fn 5 (.pr n z))))))) (.pr k n)))=true:=by
 have ek:(E.I ρ k).toNat=(E.I ρ i).toNat + 1:=by omega
 have hm:matE ρ (.fn 2 (.pr l (.pr i (.fn 28 (.pr a (.fn 5 (.pr n z)))))))=(matE ρ l).set (E.I ρ i).toNat (List.replicate (E.I ρ n).toNat 0):=by
  show ((E.L ρ l).set (E.I ρ i).toNat _).map toIs=_
  rw [List.map_set]
  congr 1
  show (List.replicate (E.I ρ n).toNat (z.den ρ)).map U.toI=_
  rw [List.map_replicate]
  congr 1
 rw [z115] at *
 rw [hm,ek,List.length_set]
 refine ⟨h.1,?_⟩
 have hD:(E.I ρ i).toNat < (List.replicate ((E.I ρ i).toNat + 1) (List.replicate (E.I ρ n).toNat (0:Int))).length:=by simp
 have:=take_set_succ (matE ρ l) (List.replicate ((E.I ρ i).toNat + 1) (List.replicate (E.I ρ n).toNat 0)) (E.I ρ i).toNat (List.replicate (E.I ρ n).toNat 0) (by rw [h.2,List.take_replicate]; congr 1; omega) (by omega) hD (by simp)
 rw [this,List.take_replicate]
 congr 1; omega
theorem t116_of (h:E.B ρ (.fn 115 (.pr l (.pr i n)))=true) (hi:E.I ρ i=E.I ρ n):E.B ρ (.fn 116 (.pr l n))=true:=by
 rw [z115,hi] at h
 rw [z116]
 rw [List.take_of_length_le (by omega)] at h
 exact h.2
theorem zeros_get (n i j:Nat) (hi:i < n) (hj:j < n):get2 (List.replicate n (List.replicate n (0:Int))) i j=0:=by
 have e1:(List.replicate n (List.replicate n (0:Int))).getD i []=List.replicate n 0:=by
  rw [getD_lt (List.replicate n (List.replicate n (0:Int))) [] (by simpa using hi),List.getElem_replicate]
 unfold get2
 rw [e1,getD_lt (List.replicate n (0:Int)) 0 (by simpa using hj),List.getElem_replicate]
theorem zeros_mat (n:Nat):isMat (List.replicate n (List.replicate n (0:Int))) n=true:=by
 rw [isMat_iff]
 refine ⟨by simp,fun i hi=>?_⟩
 rw [getD_lt _ _ (by simpa using hi),List.getElem_replicate]; simp
theorem t101_of (h:E.B ρ (.fn 116 (.pr l n))=true):E.B ρ (.fn 101 (.pr l n))=true:=by
 rw [z116] at h
 rw [z101,h]; exact zeros_mat _
theorem t117_of (h:E.B ρ (.fn 116 (.pr l n))=true) (hg:0≤E.I ρ g):E.B ρ (.fn 117 (.pr l g))=true:=by
 rw [z116] at h
 rw [z117,h,List.all_eq_true]
 intro r hr
 have:=List.eq_of_mem_replicate hr
 subst this
 rw [List.all_eq_true]
 intro x hx
 have:=List.eq_of_mem_replicate hx
 subst this
 simp; omega
theorem t101_row (h:E.B ρ (.fn 101 (.pr l n))=true) (h0:0≤E.I ρ a) (h1:E.I ρ a < E.I ρ n):E.I ρ (.fn 0 (.fn 1 (.pr l a)))=E.I ρ n:=by
 rw [z101,isMat_iff] at h
 rw [← ints_len,← matE_row,h.2 _ (by omega)]; omega
theorem all_get2 {M:List (List Int)} {n:Nat} (hm:isMat M n=true) (p:Int→Bool):(M.all fun r=>r.all p)=true↔∀ i,i < n→∀ j,j < n→p (get2 M i j)=true:=by
 rw [isMat_iff] at hm
 rw [List.all_eq_true]
 constructor
 ·intro h i hi j hj
  have hr:=hm.2 i hi
  have hlt:i < M.length:=by omega
  have e:M.getD i []=M[i]:=getD_lt M [] hlt
  unfold get2
  rw [e] at hr ⊢
  have:=h _ (List.getElem_mem hlt)
  rw [List.all_eq_true] at this
  rw [getD_lt M[i] 0 (by omega)]
  exact this _ (List.getElem_mem (by omega))
 ·intro h r hr
  obtain ⟨i,hi,rfl⟩:=List.mem_iff_getElem.1 hr
  rw [List.all_eq_true]
  intro x hx
  obtain ⟨j,hj,rfl⟩:=List.mem_iff_getElem.1 hx
  have hl:=hm.2 i (by omega)
  have e:M.getD i []=M[i]:=getD_lt M [] hi
  rw [e] at hl
  have:=h i (by omega) j (by omega)
  unfold get2 at this
  rw [e,getD_lt M[i] 0 hj] at this
  exact this
theorem t117_at (h:E.B ρ (.fn 117 (.pr l g))=true) (hm:E.B ρ (.fn 101 (.pr l n))=true) (a0:0≤E.I ρ a) (a1:E.I ρ a < E.I ρ n) (b0:0≤E.I ρ b) (b1:E.I ρ b < E.I ρ n):0≤E.I ρ (.fn 1 (.pr (.fn 1 (.pr l a)) b))∧E.I ρ (.fn 1 (.pr (.fn 1 (.pr l a)) b))≤2 * E.I ρ g:=by
 rw [z101] at hm
 rw [z117,all_get2 hm] at h
 rw [I_nn]
 simpa using h (E.I ρ a).toNat (by omega) (E.I ρ b).toNat (by omega)
/-- a matrix with another number at a place -/
theorem matE_set : matE ρ (.fn 2 (.pr l (.pr a (.fn 21 (.pr h (.fn 2 (.pr (.fn 1 (.pr l a)) (.pr b v)))))))) = (matE ρ l).set (E.I ρ a).toNat (((matE ρ l).getD (E.I ρ a).toNat []).set (E.I ρ b).toNat (E.I ρ v)) := by
  rw [matE_row]
  show ((E.L ρ l).set (E.I ρ a).toNat _).map toIs = _
  rw [List.map_set]
  congr 1
  show ((E.L ρ (.fn 1 (.pr l a))).set (E.I ρ b).toNat (v.den ρ)).map U.toI = _
  rw [List.map_set]; rfl
theorem set_mat {M:List (List Int)} {n i j:Nat} {v:Int} (h:isMat M n=true) (hi:i < n):isMat (M.set i ((M.getD i []).set j v)) n=true:=by
 rw [isMat_iff] at *
 refine ⟨by rw [List.length_set]; exact h.1,fun k hk=>?_⟩
 have hl:k < (M.set i ((M.getD i []).set j v)).length:=by rw [List.length_set]; omega
 rw [getD_lt _ _ hl]
 by_cases e:i=k
 ·subst e
  rw [List.getElem_set_self,List.length_set]; exact h.2 i hi
 ·rw [List.getElem_set_ne e]
  have:=h.2 k hk
  rw [getD_lt M [] (by omega)] at this; exact this
theorem set_get {M:List (List Int)} {n i j:Nat} {v:Int} (h:isMat M n=true) (hi:i < n) (hj:j < n) (p q:Nat):get2 (M.set i ((M.getD i []).set j v)) p q=if p=i∧q=j then v else get2 M p q:=by
 rw [isMat_iff] at h
 have hr:=h.2 i hi
 unfold get2
 by_cases e:p=i
 ·subst e
  have hl:p < (M.set p ((M.getD p []).set j v)).length:=by rw [List.length_set]; omega
  have e1:(M.set p ((M.getD p []).set j v)).getD p []=(M.getD p []).set j v:=by rw [getD_lt _ _ hl,List.getElem_set_self]
  rw [e1]
  by_cases e2:q=j
  ·subst e2
   rw [if_pos ⟨rfl,rfl⟩,getD_lt _ _ (by rw [List.length_set]; omega),List.getElem_set_self]
  ·rw [if_neg (fun h=>e2 h.2)]
   simp only [List.getD_eq_getElem?_getD,List.getElem?_set_ne (Ne.symm e2)]
 ·rw [if_neg (fun h=>e h.1)]
  simp only [List.getD_eq_getElem?_getD,List.getElem?_set_ne (Ne.symm e)]
theorem t101_set (hm:E.B ρ (.fn 101 (.pr l n))=true) (a0:0≤E.I ρ a) (a1:E.I ρ a < E.I ρ n):E.B ρ (.fn 101 (.pr (.fn 2 (.pr l (.pr a (.fn 21 (.pr h (.fn 2 (.pr (.fn 1 (.pr l a)) (.pr b v)))))))) n))=true:=by
 rw [z101] at *
 rw [matE_set]; exact set_mat hm (by omega)
theorem t117_set (hb:E.B ρ (.fn 117 (.pr l g))=true) (hm:E.B ρ (.fn 101 (.pr l n))=true) (a0:0≤E.I ρ a) (a1:E.I ρ a < E.I ρ n) (b0:0≤E.I ρ b) (b1:E.I ρ b < E.I ρ n) (v0:0≤E.I ρ v) (v1:E.I ρ v≤2 * E.I ρ k) (hk:E.I ρ g≤E.I ρ k):E.B ρ (.fn 117 (.pr (.fn 2 (.pr l (.pr a (.fn 21 (.pr h (.fn 2 (.pr (.fn 1 (.pr l a)) (.pr b v)))))))) k))=true:=by
 rw [z101] at hm
 rw [z117,all_get2 hm] at hb
 rw [z117,matE_set,all_get2 (set_mat hm (by omega))]
 intro p hp q hq
 rw [set_get hm (by omega) (by omega)]
 split
 ·simp; omega
 ·have:=hb p hp q hq
  simp at this ⊢; omega
theorem I_set (hm:E.B ρ (.fn 101 (.pr l n))=true) (a0:0≤E.I ρ a) (a1:E.I ρ a < E.I ρ n) (b0:0≤E.I ρ b) (b1:E.I ρ b < E.I ρ n) (c0:0≤E.I ρ c) (m0:0≤E.I ρ m):E.I ρ (.fn 1 (.pr (.fn 1 (.pr (.fn 2 (.pr l (.pr a (.fn 21 (.pr h (.fn 2 (.pr (.fn 1 (.pr l a)) (.pr b v)))))))) c)) m))=if E.I ρ c=E.I ρ a∧E.I ρ m=E.I ρ b then E.I ρ v else E.I ρ (.fn 1 (.pr (.fn 1 (.pr l c)) m)):=by
 rw [z101] at hm
 rw [I_nn,matE_set,set_get hm (by omega) (by omega),I_nn]
 by_cases e:E.I ρ c=E.I ρ a∧E.I ρ m=E.I ρ b
 ·rw [if_pos e,if_pos (by omega)]
 ·rw [if_neg e,if_neg (by omega)]
/-! games -/
noncomputable def gsE (ρ:Env) (x k:E):List (Int × Int × Int):=games (x.den ρ) (E.I ρ k)
theorem gsE_def:gsE ρ x k=(g3 (ints ρ x)).take (E.I ρ k).toNat:=rfl
theorem rw3_I:E.I ρ (.fn 9 (.pr x (.int 3)))=(((g3 (ints ρ x)).length:Nat):Int):=by
 rw [g3_len]
 show ((((E.L ρ x).length:Int) / ((3:Int).toNat:Int)):Int)=_
 have:(ints ρ x).length=(E.L ρ x).length:=by unfold ints; simp
 have e3:((3:Int).toNat:Int)=3:=rfl
 rw [this,e3]; omega
theorem gsE_step (h0:0≤E.I ρ i) (h1:E.I ρ i < E.I ρ (.fn 9 (.pr x (.int 3)))) (hn:E.I ρ n=E.I ρ i + 1):gsE ρ x n=gsE ρ x i++[(E.I ρ (.fn 1 (.pr x (.fn 6 (.pr (.fn 8 (.pr i (.int 3))) (.int 0))))),E.I ρ (.fn 1 (.pr x (.fn 6 (.pr (.fn 8 (.pr i (.int 3))) (.int 1))))),E.I ρ (.fn 1 (.pr x (.fn 6 (.pr (.fn 8 (.pr i (.int 3))) (.int 2))))))]:=by
 rw [rw3_I] at h1
 have hk:(E.I ρ i).toNat < (g3 (ints ρ x)).length:=by omega
 have en:(E.I ρ n).toNat=(E.I ρ i).toNat + 1:=by omega
 rw [gsE_def,gsE_def,en,List.take_add_one,g3_get _ _ (by rw [← g3_len]; exact hk)]
 have key:∀ c:Nat,(E.I ρ (.fn 6 (.pr (.fn 8 (.pr i (.int 3))) (.int (c:Int))))).toNat=3 * (E.I ρ i).toNat + c:=by
  intro c
  show (E.I ρ i * 3 + (c:Int)).toNat=_
  omega
 rw [I_nth,I_nth,I_nth]
 rw [show (E.int 0)=.int ((0:Nat):Int) from rfl,show (E.int 1)=.int ((1:Nat):Int) from rfl,show (E.int 2)=.int ((2:Nat):Int) from rfl,key 0,key 1,key 2]
 rfl
theorem gsE_zero (h:E.I ρ k≤0):gsE ρ x k=[]:=by
 have e:(E.I ρ k).toNat=0:=by omega
 rw [gsE_def,e]; rfl
theorem I_102:E.I ρ (.fn 102 (.pr x (.pr k (.pr a b))))=scoreG (gsE ρ x k) (E.I ρ a) (E.I ρ b):=rfl
theorem t102_zero (h:E.I ρ k≤0):E.I ρ (.fn 102 (.pr x (.pr k (.pr a b))))=0:=by rw [I_102,gsE_zero h]; rfl
theorem t102_congr (h:E.I ρ k=E.I ρ i):E.I ρ (.fn 102 (.pr x (.pr k (.pr a b))))=E.I ρ (.fn 102 (.pr x (.pr i (.pr a b)))):=by
 rw [I_102,I_102,gsE_def,gsE_def,h]
theorem t102_step (h0 : 0 ≤ E.I ρ i) (h1 : E.I ρ i < E.I ρ (.fn 9 (.pr x (.int 3)))) (hn : E.I ρ n = E.I ρ i + 1) : E.I ρ (.fn 102 (.pr x (.pr n (.pr a b)))) = E.I ρ (.fn 102 (.pr x (.pr i (.pr a b)))) +
    (if (E.I ρ (.fn 1 (.pr x (.fn 6 (.pr (.fn 8 (.pr i (.int 3))) (.int 0))))) = E.I ρ a ∧ E.I ρ (.fn 1 (.pr x (.fn 6 (.pr (.fn 8 (.pr i (.int 3))) (.int 1))))) = E.I ρ b ∧ E.I ρ (.fn 1 (.pr x (.fn 6 (.pr (.fn 8 (.pr i (.int 3))) (.int 2))))) = 1) ∨ (E.I ρ (.fn 1 (.pr x (.fn 6 (.pr (.fn 8 (.pr i (.int 3))) (.int 0))))) = E.I ρ b ∧ E.I ρ (.fn 1 (.pr x (.fn 6 (.pr (.fn 8 (.pr i (.int 3))) (.int 1))))) = E.I ρ a ∧ E.I ρ (.fn 1 (.pr x (.fn 6 (.pr (.fn 8 (.pr i (.int 3))) (.int 2))))) = 2) then 2
     else if E.I ρ (.fn 1 (.pr x (.fn 6 (.pr (.fn 8 (.pr i (.int 3))) (.int 2))))) = 3 ∧ ((E.I ρ (.fn 1 (.pr x (.fn 6 (.pr (.fn 8 (.pr i (.int 3))) (.int 0))))) = E.I ρ a ∧ E.I ρ (.fn 1 (.pr x (.fn 6 (.pr (.fn 8 (.pr i (.int 3))) (.int 1))))) = E.I ρ b) ∨ (E.I ρ (.fn 1 (.pr x (.fn 6 (.pr (.fn 8 (.pr i (.int 3))) (.int 0))))) = E.I ρ b ∧ E.I ρ (.fn 1 (.pr x (.fn 6 (.pr (.fn 8 (.pr i (.int 3))) (.int 1))))) = E.I ρ a)) then 1 else 0) := by
  rw [I_102, I_102, gsE_step h0 h1 hn, scoreG_app]
  unfold sc1
  simp only [Bool.or_eq_true, Bool.and_eq_true, beq_iff_eq, and_assoc]
theorem t102_nn:0≤E.I ρ (.fn 102 (.pr x (.pr k (.pr a b)))):=by rw [I_102]; exact (scoreG_nn _ _ _).1
theorem t102_even (h:¬ E.I ρ a=E.I ρ b):(E.I ρ (.fn 102 (.pr x (.pr k (.pr a b)))) + E.I ρ (.fn 102 (.pr x (.pr k (.pr b a))))) % 2=0:=by rw [I_102,I_102]; exact scoreG_even _ _ _ h
theorem I_104:E.I ρ (.fn 104 (.pr x (.pr k d)))=if (gsE ρ x k).any (badG (E.I ρ d))=true then 2 else 0:=rfl
theorem t104_vals:E.I ρ (.fn 104 (.pr x (.pr k d)))=0∨E.I ρ (.fn 104 (.pr x (.pr k d)))=2:=by
 rw [I_104]; split
 ·exact .inr rfl
 ·exact .inl rfl
theorem t104_zero (h:E.I ρ k≤0):E.I ρ (.fn 104 (.pr x (.pr k d)))=0:=by rw [I_104,gsE_zero h]; rfl
theorem t104_congr (h:E.I ρ k=E.I ρ i):E.I ρ (.fn 104 (.pr x (.pr k d)))=E.I ρ (.fn 104 (.pr x (.pr i d))):=by
 rw [I_104,I_104,gsE_def,gsE_def,h]
theorem t104_step (h0:0≤E.I ρ i) (h1:E.I ρ i < E.I ρ (.fn 9 (.pr x (.int 3)))) (hn:E.I ρ n=E.I ρ i + 1):E.I ρ (.fn 104 (.pr x (.pr n d)))=0↔(E.I ρ (.fn 104 (.pr x (.pr i d)))=0∧0≤E.I ρ (.fn 1 (.pr x (.fn 6 (.pr (.fn 8 (.pr i (.int 3))) (.int 0)))))∧E.I ρ (.fn 1 (.pr x (.fn 6 (.pr (.fn 8 (.pr i (.int 3))) (.int 0))))) < E.I ρ d ∧
  0≤E.I ρ (.fn 1 (.pr x (.fn 6 (.pr (.fn 8 (.pr i (.int 3))) (.int 1)))))∧E.I ρ (.fn 1 (.pr x (.fn 6 (.pr (.fn 8 (.pr i (.int 3))) (.int 1))))) < E.I ρ d∧¬ E.I ρ (.fn 1 (.pr x (.fn 6 (.pr (.fn 8 (.pr i (.int 3))) (.int 0)))))=E.I ρ (.fn 1 (.pr x (.fn 6 (.pr (.fn 8 (.pr i (.int 3))) (.int 1))))) ∧
  1≤E.I ρ (.fn 1 (.pr x (.fn 6 (.pr (.fn 8 (.pr i (.int 3))) (.int 2)))))∧E.I ρ (.fn 1 (.pr x (.fn 6 (.pr (.fn 8 (.pr i (.int 3))) (.int 2)))))≤3):=by
 rw [I_104,I_104,gsE_step h0 h1 hn,List.any_append]
 simp only [List.any_cons,List.any_nil,Bool.or_false,badG]
 cases (gsE ρ x i).any (badG (E.I ρ d))
 ·simp only [Bool.false_or,Bool.or_eq_true,decide_eq_true_eq,beq_iff_eq]
  split
  ·constructor
   ·intro h; omega
   ·rintro ⟨_,h⟩; omega
  ·simp; omega
 ·simp
theorem t104_mono (h:E.I ρ (.fn 104 (.pr x (.pr n d)))=0) (hk:E.I ρ k≤E.I ρ n):E.I ρ (.fn 104 (.pr x (.pr k d)))=0:=by
 rw [I_104] at *
 have h':¬ (gsE ρ x n).any (badG (E.I ρ d))=true:=by intro h2; rw [if_pos h2] at h; omega
 rw [if_neg]
 intro h2
 apply h'
 rw [List.any_eq_true] at *
 obtain ⟨y,hy,hb⟩:=h2
 refine ⟨y,?_,hb⟩
 rw [gsE_def] at *
 have:(g3 (ints ρ x)).take (E.I ρ k).toNat=((g3 (ints ρ x)).take (E.I ρ n).toNat).take (E.I ρ k).toNat:=by rw [List.take_take]; congr 1; omega
 rw [this] at hy
 exact List.mem_of_mem_take hy
/-- valid games at a place -/
theorem t104_at (h : E.I ρ (.fn 104 (.pr x (.pr (.fn 9 (.pr x (.int 3))) d))) = 0) (h0 : 0 ≤ E.I ρ i) (h1 : E.I ρ i < E.I ρ (.fn 9 (.pr x (.int 3)))) : 0 ≤ E.I ρ (.fn 1 (.pr x (.fn 6 (.pr (.fn 8 (.pr i (.int 3))) (.int 0))))) ∧ E.I ρ (.fn 1 (.pr x (.fn 6 (.pr (.fn 8 (.pr i (.int 3))) (.int 0))))) < E.I ρ d ∧
    0 ≤ E.I ρ (.fn 1 (.pr x (.fn 6 (.pr (.fn 8 (.pr i (.int 3))) (.int 1))))) ∧ E.I ρ (.fn 1 (.pr x (.fn 6 (.pr (.fn 8 (.pr i (.int 3))) (.int 1))))) < E.I ρ d ∧ ¬ E.I ρ (.fn 1 (.pr x (.fn 6 (.pr (.fn 8 (.pr i (.int 3))) (.int 0))))) = E.I ρ (.fn 1 (.pr x (.fn 6 (.pr (.fn 8 (.pr i (.int 3))) (.int 1))))) ∧
    1 ≤ E.I ρ (.fn 1 (.pr x (.fn 6 (.pr (.fn 8 (.pr i (.int 3))) (.int 2))))) ∧ E.I ρ (.fn 1 (.pr x (.fn 6 (.pr (.fn 8 (.pr i (.int 3))) (.int 2))))) ≤ 3 := by
  have h2 : E.I ρ (.fn 104 (.pr x (.pr (.fn 6 (.pr i (.int 1))) d))) = 0 := t104_mono h (show E.I ρ i + 1 ≤ _ by omega)
  exact ((t104_step (n := .fn 6 (.pr i (.int 1))) h0 h1 rfl).1 h2).2
/-! a matrix and scores -/
theorem t103_zero (hm:E.B ρ (.fn 101 (.pr l n))=true) (hk:E.I ρ k≤0):E.B ρ (.fn 103 (.pr l (.pr l (.pr x (.pr k n)))))=true:=by
 rw [z101] at hm
 rw [z103,addM_iff]
 refine ⟨hm,hm,fun i hi j hj=>?_⟩
 have:games (x.den ρ) (E.I ρ k)=[]:=gsE_zero (x:=x) hk
 rw [this]; simp [scoreG,sumL]
theorem t103_congr (h:E.B ρ (.fn 103 (.pr L (.pr l (.pr x (.pr i n)))))=true) (hk:E.I ρ k=E.I ρ i):E.B ρ (.fn 103 (.pr L (.pr l (.pr x (.pr k n)))))=true:=by
 rw [z103] at *; rw [hk]; exact h
theorem t103_step (h:E.B ρ (.fn 103 (.pr L (.pr l (.pr x (.pr i n)))))=true) (hA:E.B ρ (.fn 101 (.pr A n))=true) (h0:0≤E.I ρ i) (h1:E.I ρ i < E.I ρ (.fn 9 (.pr x (.int 3)))) (hk:E.I ρ k=E.I ρ i + 1)
  (hv:∀ p q:Nat,p < (E.I ρ n).toNat→q < (E.I ρ n).toNat→get2 (matE ρ A) p q=get2 (matE ρ L) p q + sc1 (p:Int) (q:Int) (E.I ρ (.fn 1 (.pr x (.fn 6 (.pr (.fn 8 (.pr i (.int 3))) (.int 0))))),E.I ρ (.fn 1 (.pr x (.fn 6 (.pr (.fn 8 (.pr i (.int 3))) (.int 1))))),E.I ρ (.fn 1 (.pr x (.fn 6 (.pr (.fn 8 (.pr i (.int 3))) (.int 2))))))) :
  E.B ρ (.fn 103 (.pr A (.pr l (.pr x (.pr k n)))))=true:=by
 rw [z103,addM_iff] at *
 refine ⟨hA,h.2.1,fun p hp q hq=>?_⟩
 have hs:games (x.den ρ) (E.I ρ k)=games (x.den ρ) (E.I ρ i)++[_]:=gsE_step h0 h1 hk
 rw [hs,scoreG_app,hv p q hp hq,h.2.2 p hp q hq]; omega
end
end Go.SX

set_option linter.unusedVariables false
set_option linter.unusedSimpArgs false
namespace Go.SX
theorem sumF_nnk (f:Nat→Int):∀ k,(∀ i,i < k→0≤f i)→0≤sumF f k
 | 0,_=>by simp [sumF]
 | k + 1,h=>by have:=sumF_nnk f k (fun i hi=>h i (by omega)); have:=h k (by omega); simp only [sumF]; omega
theorem prod_le {p q:Int} (p0:0≤p) (p1:p≤1000) (q0:0≤q) (q1:q≤1000):0≤p * q∧p * q≤1000000:=by
 refine ⟨Int.mul_nonneg p0 q0,?_⟩
 have:=Int.mul_le_mul p1 q1 q0 (by omega:(0:Int)≤1000)
 omega
theorem tdiv_half (X Y:Int) (hx:0≤X) (hy:0≤Y) (hp:0 < X + Y) (he:(X + Y) % 2=0):(500 * X).tdiv ((X + Y).tdiv 2)=(1000 * X).tdiv (X + Y):=by
 obtain ⟨m,hm⟩:∃ m,X + Y=2 * m:=⟨(X + Y) / 2,by omega⟩
 have hm0:0 < m:=by omega
 have e2:(X + Y).tdiv 2=m:=by rw [Int.tdiv_eq_ediv_of_nonneg (by omega)]; omega
 rw [e2,hm,Int.tdiv_eq_ediv_of_nonneg (by omega),Int.tdiv_eq_ediv_of_nonneg (by omega)]
 have:1000 * X=2 * (500 * X):=by omega
 rw [this,Int.mul_ediv_mul_of_pos _ _ (by omega:(0:Int) < 2)]
section
variable {ρ : Env} {x l L A w a b d i n v h k g o j z e c m u : E}
/-! games that are added -/
theorem t103_one (h3:E.B ρ (.fn 103 (.pr L (.pr l (.pr x (.pr i n)))))=true) (hm:E.B ρ (.fn 101 (.pr L n))=true) (h0:0≤E.I ρ i) (h1:E.I ρ i < E.I ρ (.fn 9 (.pr x (.int 3)))) (hk:E.I ρ k=E.I ρ i + 1)
  (a0:0≤E.I ρ a) (a1:E.I ρ a < E.I ρ n) (b0:0≤E.I ρ b) (b1:E.I ρ b < E.I ρ n) (hv:E.I ρ v=E.I ρ (.fn 1 (.pr (.fn 1 (.pr L a)) b)) + 2) (hab:¬ E.I ρ a=E.I ρ b)
  (ho:(E.I ρ (.fn 1 (.pr x (.fn 6 (.pr (.fn 8 (.pr i (.int 3))) (.int 2)))))=1∧E.I ρ a=E.I ρ (.fn 1 (.pr x (.fn 6 (.pr (.fn 8 (.pr i (.int 3))) (.int 0)))))∧E.I ρ b=E.I ρ (.fn 1 (.pr x (.fn 6 (.pr (.fn 8 (.pr i (.int 3))) (.int 1)))))) ∨
   (E.I ρ (.fn 1 (.pr x (.fn 6 (.pr (.fn 8 (.pr i (.int 3))) (.int 2)))))=2∧E.I ρ a=E.I ρ (.fn 1 (.pr x (.fn 6 (.pr (.fn 8 (.pr i (.int 3))) (.int 1)))))∧E.I ρ b=E.I ρ (.fn 1 (.pr x (.fn 6 (.pr (.fn 8 (.pr i (.int 3))) (.int 0))))))) :
  E.B ρ (.fn 103 (.pr (.fn 2 (.pr L (.pr a (.fn 21 (.pr h (.fn 2 (.pr (.fn 1 (.pr L a)) (.pr b v)))))))) (.pr l (.pr x (.pr k n)))))=true:=by
 refine t103_step h3 (t101_set hm a0 a1) h0 h1 hk fun p q hp hq=>?_
 rw [z101] at hm
 rw [I_nn] at hv
 rw [matE_set,set_get hm (by omega) (by omega)]
 unfold sc1
 simp only [Bool.or_eq_true,Bool.and_eq_true,beq_iff_eq]
 by_cases e:p=(E.I ρ a).toNat∧q=(E.I ρ b).toNat
 ·rw [if_pos e,hv,← e.1,← e.2,if_pos (by omega)]
 ·rw [if_neg e,if_neg (by omega),if_neg (by omega)]; omega
theorem t103_two (h3:E.B ρ (.fn 103 (.pr L (.pr l (.pr x (.pr i n)))))=true) (hm:E.B ρ (.fn 101 (.pr L n))=true) (h0:0≤E.I ρ i) (h1:E.I ρ i < E.I ρ (.fn 9 (.pr x (.int 3)))) (hk:E.I ρ k=E.I ρ i + 1)
  (a0:0≤E.I ρ a) (a1:E.I ρ a < E.I ρ n) (b0:0≤E.I ρ b) (b1:E.I ρ b < E.I ρ n) (hv:E.I ρ v=E.I ρ (.fn 1 (.pr (.fn 1 (.pr L a)) b)) + 1) (hab:¬ E.I ρ a=E.I ρ b) (hA:A=.fn 2 (.pr L (.pr a (.fn 21 (.pr h (.fn 2 (.pr (.fn 1 (.pr L a)) (.pr b v))))))))
  (hu:E.I ρ u=E.I ρ (.fn 1 (.pr (.fn 1 (.pr A b)) a)) + 1)
  (ho:E.I ρ (.fn 1 (.pr x (.fn 6 (.pr (.fn 8 (.pr i (.int 3))) (.int 2)))))=3) (ea:E.I ρ a=E.I ρ (.fn 1 (.pr x (.fn 6 (.pr (.fn 8 (.pr i (.int 3))) (.int 0)))))) (eb:E.I ρ b=E.I ρ (.fn 1 (.pr x (.fn 6 (.pr (.fn 8 (.pr i (.int 3))) (.int 1)))))) :
  E.B ρ (.fn 103 (.pr (.fn 2 (.pr A (.pr b (.fn 21 (.pr g (.fn 2 (.pr (.fn 1 (.pr A b)) (.pr a u)))))))) (.pr l (.pr x (.pr k n)))))=true:=by
 have hmA:E.B ρ (.fn 101 (.pr A n))=true:=by rw [hA]; exact t101_set hm a0 a1
 refine t103_step h3 (t101_set hmA b0 b1) h0 h1 hk fun p q hp hq=>?_
 rw [z101] at hm hmA
 rw [I_nn] at hv hu
 have hgA:∀ p q,get2 (matE ρ A) p q=if p=(E.I ρ a).toNat∧q=(E.I ρ b).toNat then E.I ρ v else get2 (matE ρ L) p q:=by
  intro p q; rw [hA,matE_set,set_get hm (by omega) (by omega)]
 rw [hgA,if_neg (by omega)] at hu
 rw [matE_set,set_get hmA (by omega) (by omega),hgA]
 unfold sc1
 simp only [Bool.or_eq_true,Bool.and_eq_true,beq_iff_eq]
 rw [if_neg (by omega:¬ (((E.I ρ (.fn 1 (.pr x (.fn 6 (.pr (.fn 8 (.pr i (.int 3))) (.int 0)))))=(p:Int)∧E.I ρ (.fn 1 (.pr x (.fn 6 (.pr (.fn 8 (.pr i (.int 3))) (.int 1)))))=(q:Int))∧E.I ρ (.fn 1 (.pr x (.fn 6 (.pr (.fn 8 (.pr i (.int 3))) (.int 2)))))=1)∨((E.I ρ (.fn 1 (.pr x (.fn 6 (.pr (.fn 8 (.pr i (.int 3))) (.int 0)))))=(q:Int)∧E.I ρ (.fn 1 (.pr x (.fn 6 (.pr (.fn 8 (.pr i (.int 3))) (.int 1)))))=(p:Int))∧E.I ρ (.fn 1 (.pr x (.fn 6 (.pr (.fn 8 (.pr i (.int 3))) (.int 2)))))=2)))]
 by_cases e:p=(E.I ρ b).toNat∧q=(E.I ρ a).toNat
 ·rw [if_pos e,hu,← e.1,← e.2,if_pos (by omega)]
 ·rw [if_neg e]
  by_cases e2:p=(E.I ρ a).toNat∧q=(E.I ρ b).toNat
  ·rw [if_pos e2,hv,← e2.1,← e2.2,if_pos (by omega)]
  ·rw [if_neg e2,if_neg (by omega)]; omega
/-! rates -/
theorem I_105:E.I ρ (.fn 105 (.pr l (.pr a b)))=rateI (E.I ρ a) (E.I ρ b) (E.I ρ (.fn 1 (.pr (.fn 1 (.pr l a)) b))) (E.I ρ (.fn 1 (.pr (.fn 1 (.pr l b)) a))):=by
 rw [I_nn,I_nn]; rfl
theorem t102_all:E.I ρ (.fn 102 (.pr x (.pr (.fn 9 (.pr x (.int 3))) (.pr a b))))=scoreG (g3 (ints ρ x)) (E.I ρ a) (E.I ρ b):=by
 rw [I_102,gsE_def,rw3_I,Int.toNat_natCast,List.take_length]
theorem I_106:E.I ρ (.fn 106 (.pr x (.pr a b)))=rateI (E.I ρ a) (E.I ρ b) (E.I ρ (.fn 102 (.pr x (.pr (.fn 9 (.pr x (.int 3))) (.pr a b))))) (E.I ρ (.fn 102 (.pr x (.pr (.fn 9 (.pr x (.int 3))) (.pr b a))))):=by
 rw [t102_all,t102_all]; rfl
theorem rateI_500 {a b X Y:Int} (h:a=b∨X + Y=0):rateI a b X Y=500:=by
 unfold rateI
 rw [if_pos]
 simpa using h
theorem rateI_div {a b X Y:Int} (h:¬ a=b) (h2:¬ X + Y=0):rateI a b X Y=(1000 * X).tdiv (X + Y):=by
 unfold rateI
 rw [if_neg]
 simp [h,h2]
theorem t105_500 (h:E.I ρ a=E.I ρ b∨E.I ρ (.fn 1 (.pr (.fn 1 (.pr l a)) b)) + E.I ρ (.fn 1 (.pr (.fn 1 (.pr l b)) a))=0):E.I ρ (.fn 105 (.pr l (.pr a b)))=500:=by rw [I_105]; exact rateI_500 h
theorem t_quo (x0:0≤E.I ρ x) (x1:E.I ρ x≤100000) (y0:0≤E.I ρ l) (y1:E.I ρ l≤100000) (hp:¬ E.I ρ x + E.I ρ l=0):E.I ρ (.ar .quo .i64 (.ar .mul .i64 (.int 1000) x) (.ar .add .i64 x l))=(1000 * E.I ρ x).tdiv (E.I ρ x + E.I ρ l) ∧
  0≤(1000 * E.I ρ x).tdiv (E.I ρ x + E.I ρ l)∧(1000 * E.I ρ x).tdiv (E.I ρ x + E.I ρ l)≤1000:=by
 have e1:E.I ρ (.ar .mul .i64 (.int 1000) x)=1000 * E.I ρ x:=wrap_mul (a:=.int 1000) (show _≤1000 * E.I ρ x by omega) (show 1000 * E.I ρ x < _ by omega)
 have e2:E.I ρ (.ar .add .i64 x l)=E.I ρ x + E.I ρ l:=wrap_add (by omega) (by omega)
 have hr:=rateI_nn 0 1 (E.I ρ x) (E.I ρ l) x0 y0
 rw [rateI_div (by omega) hp] at hr
 refine ⟨?_,hr⟩
 rw [wrap_quo (by rw [e1,e2]; omega) (by rw [e1,e2]; omega),e1,e2]
theorem t105_quo (hab:¬ E.I ρ a=E.I ρ b) (x0:0≤E.I ρ (.fn 1 (.pr (.fn 1 (.pr l a)) b))) (x1:E.I ρ (.fn 1 (.pr (.fn 1 (.pr l a)) b))≤100000) (y0:0≤E.I ρ (.fn 1 (.pr (.fn 1 (.pr l b)) a))) (y1:E.I ρ (.fn 1 (.pr (.fn 1 (.pr l b)) a))≤100000) (hp:¬ E.I ρ (.fn 1 (.pr (.fn 1 (.pr l a)) b)) + E.I ρ (.fn 1 (.pr (.fn 1 (.pr l b)) a))=0) :
  E.I ρ (.ar .quo .i64 (.ar .mul .i64 (.int 1000) (.fn 1 (.pr (.fn 1 (.pr l a)) b))) (.ar .add .i64 (.fn 1 (.pr (.fn 1 (.pr l a)) b)) (.fn 1 (.pr (.fn 1 (.pr l b)) a))))=E.I ρ (.fn 105 (.pr l (.pr a b)))∧0≤E.I ρ (.fn 105 (.pr l (.pr a b)))∧E.I ρ (.fn 105 (.pr l (.pr a b)))≤1000:=by
 rw [I_105,rateI_div hab hp]
 exact t_quo x0 x1 y0 y1 hp
theorem t106_500 (h:E.I ρ a=E.I ρ b∨E.I ρ (.fn 102 (.pr x (.pr (.fn 9 (.pr x (.int 3))) (.pr a b)))) + E.I ρ (.fn 102 (.pr x (.pr (.fn 9 (.pr x (.int 3))) (.pr b a))))=0):E.I ρ (.fn 106 (.pr x (.pr a b)))=500:=by rw [I_106]; exact rateI_500 h
theorem t106_nil:E.I ρ (.fn 106 (.pr (.fn 10 z) (.pr a b)))=500:=t106_500 (.inr (by rw [t102_all,t102_all]; rfl))
theorem t106_quo (hab:¬ E.I ρ a=E.I ρ b) (hx:E.I ρ u=E.I ρ (.fn 102 (.pr x (.pr (.fn 9 (.pr x (.int 3))) (.pr a b))))) (hy:E.I ρ v=E.I ρ (.fn 102 (.pr x (.pr (.fn 9 (.pr x (.int 3))) (.pr b a))))) (x0:0≤E.I ρ u) (x1:E.I ρ u≤100000) (y0:0≤E.I ρ v) (y1:E.I ρ v≤100000) (hp:¬ E.I ρ (.ar .add .i64 u v)=0) :
  ¬ E.I ρ (.ar .quo .i64 (.ar .add .i64 u v) (.int 2))=0∧E.I ρ (.ar .quo .i64 (.ar .mul .i64 (.int 500) u) (.ar .quo .i64 (.ar .add .i64 u v) (.int 2)))=E.I ρ (.fn 106 (.pr x (.pr a b)))∧0≤E.I ρ (.fn 106 (.pr x (.pr a b)))∧E.I ρ (.fn 106 (.pr x (.pr a b)))≤1000:=by
 have e2:E.I ρ (.ar .add .i64 u v)=E.I ρ u + E.I ρ v:=wrap_add (by omega) (by omega)
 rw [e2] at hp
 have hev:=t102_even (ρ:=ρ) (x:=x) (k:=.fn 9 (.pr x (.int 3))) hab
 rw [← hx,← hy] at hev
 have e1:E.I ρ (.ar .mul .i64 (.int 500) u)=500 * E.I ρ u:=wrap_mul (a:=.int 500) (show _≤500 * E.I ρ u by omega) (show 500 * E.I ρ u < _ by omega)
 have e3:E.I ρ (.ar .quo .i64 (.ar .add .i64 u v) (.int 2))=(E.I ρ u + E.I ρ v).tdiv 2:=by
  have hd:(E.I ρ u + E.I ρ v).tdiv 2=(E.I ρ u + E.I ρ v) / 2:=Int.tdiv_eq_ediv_of_nonneg (by omega)
  have:=wrap_quo (ρ:=ρ) (a:=.ar .add .i64 u v) (b:=.int 2) (by rw [e2]; show _≤(E.I ρ u + E.I ρ v).tdiv 2; omega) (by rw [e2]; show (E.I ρ u + E.I ρ v).tdiv 2 < _; omega)
  rw [this,e2]; rfl
 have hh:=tdiv_half (E.I ρ u) (E.I ρ v) x0 y0 (by omega) hev
 have hr:=rateI_nn (E.I ρ a) (E.I ρ b) (E.I ρ u) (E.I ρ v) x0 y0
 have hr':=hr
 rw [rateI_div hab hp] at hr'
 have hd:(E.I ρ u + E.I ρ v).tdiv 2=(E.I ρ u + E.I ρ v) / 2:=Int.tdiv_eq_ediv_of_nonneg (by omega)
 refine ⟨by rw [e3,hd]; omega,?_,?_⟩
 ·rw [wrap_quo (by rw [e1,e3,hh]; omega) (by rw [e1,e3,hh]; omega),e1,e3,hh,I_106,← hx,← hy,rateI_div hab hp]
 ·rw [I_106,← hx,← hy]; exact hr
/-! weights -/
theorem z114:(E.B ρ (.fn 114 (.pr w k))=true)=(okW (ints ρ w) (E.I ρ k).toNat=true):=rfl
theorem okW_iff (w:List Int) (k:Nat):okW w k=true↔∀ i,i < k→i < w.length→0≤w.getD i 0∧w.getD i 0≤1000:=by
 unfold okW
 rw [List.all_eq_true]
 constructor
 ·intro h i hi hl
  have:=h w[i] (List.mem_iff_getElem.2 ⟨i,by rw [List.length_take]; omega,by simp⟩)
  rw [getD_lt w 0 hl]; simpa using this
 ·intro h y hy
  obtain ⟨i,hi,rfl⟩:=List.mem_iff_getElem.1 hy
  rw [List.length_take] at hi
  have:=h i (by omega) (by omega)
  rw [getD_lt w 0 (by omega)] at this
  simpa using this
theorem t114_zero (h:E.I ρ k≤0):E.B ρ (.fn 114 (.pr w k))=true:=by
 rw [z114,okW_iff]; intro i hi; omega
theorem t114_congr (h:E.I ρ k=E.I ρ i):E.B ρ (.fn 114 (.pr w k))=E.B ρ (.fn 114 (.pr w i)):=by
 show okW (ints ρ w) (E.I ρ k).toNat=okW (ints ρ w) (E.I ρ i).toNat
 rw [h]
theorem t114_step (h0:0≤E.I ρ i) (h1:E.I ρ i < E.I ρ (.fn 0 w)) (hn:E.I ρ n=E.I ρ i + 1):E.B ρ (.fn 114 (.pr w n))=true↔(E.B ρ (.fn 114 (.pr w i))=true∧0≤E.I ρ (.fn 1 (.pr w i))∧E.I ρ (.fn 1 (.pr w i))≤1000):=by
 rw [← ints_len] at h1
 have en:(E.I ρ n).toNat=(E.I ρ i).toNat + 1:=by omega
 rw [z114,z114,okW_iff,okW_iff,I_nth,en]
 constructor
 ·intro h
  exact ⟨fun q hq hl=>h q (by omega) hl,h (E.I ρ i).toNat (by omega) (by omega)⟩
 ·rintro ⟨h,h2⟩ q hq hl
  rcases Nat.lt_or_ge q (E.I ρ i).toNat with hh | hh
  ·exact h q hh hl
  ·have:q=(E.I ρ i).toNat:=by omega
   rw [this]; exact h2
theorem t114_at (h:E.B ρ (.fn 114 (.pr w k))=true) (h0:0≤E.I ρ i) (h1:E.I ρ i < E.I ρ (.fn 0 w)) (hk:E.I ρ i < E.I ρ k):0≤E.I ρ (.fn 1 (.pr w i))∧E.I ρ (.fn 1 (.pr w i))≤1000:=by
 rw [← ints_len] at h1
 rw [z114,okW_iff] at h
 rw [I_nth]; exact h _ (by omega) (by omega)
theorem t114_less (h:E.B ρ (.fn 114 (.pr w k))=true) (hk:E.I ρ i≤E.I ρ k):E.B ρ (.fn 114 (.pr w i))=true:=by
 rw [z114,okW_iff] at *
 exact fun q hq hl=>h q (by omega) hl
/-! values -/
theorem I_107:E.I ρ (.fn 107 (.pr l (.pr w (.pr a k))))=valM (matE ρ l) (ints ρ w) (E.I ρ a) (E.I ρ k).toNat:=rfl
theorem I_108:E.I ρ (.fn 108 (.pr x (.pr w (.pr a k))))=valG (g3 (ints ρ x)) (ints ρ w) (E.I ρ a) (E.I ρ k).toNat:=rfl
theorem t107_zero (h:E.I ρ k≤0):E.I ρ (.fn 107 (.pr l (.pr w (.pr a k))))=0:=by
 have e:(E.I ρ k).toNat=0:=by omega
 rw [I_107,e]; rfl
theorem t108_zero (h:E.I ρ k≤0):E.I ρ (.fn 108 (.pr x (.pr w (.pr a k))))=0:=by
 have e:(E.I ρ k).toNat=0:=by omega
 rw [I_108,e]; rfl
theorem t107_congr (h:E.I ρ k=E.I ρ i):E.I ρ (.fn 107 (.pr l (.pr w (.pr a k))))=E.I ρ (.fn 107 (.pr l (.pr w (.pr a i)))):=by rw [I_107,I_107,h]
theorem t108_congr (h:E.I ρ k=E.I ρ i):E.I ρ (.fn 108 (.pr x (.pr w (.pr a k))))=E.I ρ (.fn 108 (.pr x (.pr w (.pr a i)))):=by rw [I_108,I_108,h]
theorem t107_step (h0:0≤E.I ρ i) (hn:E.I ρ n=E.I ρ i + 1):E.I ρ (.fn 107 (.pr l (.pr w (.pr a n))))=E.I ρ (.fn 107 (.pr l (.pr w (.pr a i)))) + E.I ρ (.fn 1 (.pr w i)) * E.I ρ (.fn 105 (.pr l (.pr a i))):=by
 have en:(E.I ρ n).toNat=(E.I ρ i).toNat + 1:=by omega
 have ei:(((E.I ρ i).toNat:Nat):Int)=E.I ρ i:=by omega
 rw [I_107,I_107,en,I_nth]
 show sumF _ _ + (ints ρ w).getD (E.I ρ i).toNat 0 * rateM (matE ρ l) (E.I ρ a) (((E.I ρ i).toNat:Nat):Int)=_
 rw [ei]; rfl
theorem t108_step (h0:0≤E.I ρ i) (hn:E.I ρ n=E.I ρ i + 1):E.I ρ (.fn 108 (.pr x (.pr w (.pr a n))))=E.I ρ (.fn 108 (.pr x (.pr w (.pr a i)))) + E.I ρ (.fn 1 (.pr w i)) * E.I ρ (.fn 106 (.pr x (.pr a i))):=by
 have en:(E.I ρ n).toNat=(E.I ρ i).toNat + 1:=by omega
 have ei:(((E.I ρ i).toNat:Nat):Int)=E.I ρ i:=by omega
 rw [I_108,I_108,en,I_nth]
 show sumF _ _ + (ints ρ w).getD (E.I ρ i).toNat 0 * rateG (g3 (ints ρ x)) (E.I ρ a) (((E.I ρ i).toNat:Nat):Int)=_
 rw [ei]; rfl
/-! the best one -/
noncomputable def up (ρ:Env) (l w d:E) (k:Nat):Int × Int:=bestUp (fun i=>valM (matE ρ l) (ints ρ w) (i:Int) (E.I ρ d).toNat) k
noncomputable def dn (ρ:Env) (x w d:E) (j:Nat):Int × Int:=bestDn (fun i=>valG (g3 (ints ρ x)) (ints ρ w) (i:Int) (E.I ρ d).toNat) (E.I ρ d).toNat j
theorem I_110:E.I ρ (.fn 110 (.pr l (.pr w (.pr d k))))=(up ρ l w d (E.I ρ k).toNat).1:=rfl
theorem I_111:E.I ρ (.fn 111 (.pr l (.pr w (.pr d k))))=(up ρ l w d (E.I ρ k).toNat).2:=rfl
theorem I_112:E.I ρ (.fn 112 (.pr x (.pr w (.pr d j))))=(dn ρ x w d (E.I ρ j).toNat).1:=rfl
theorem I_113:E.I ρ (.fn 113 (.pr x (.pr w (.pr d j))))=(dn ρ x w d (E.I ρ j).toNat).2:=rfl
theorem t110_zero (h:E.I ρ k≤0):E.I ρ (.fn 110 (.pr l (.pr w (.pr d k))))=0∧E.I ρ (.fn 111 (.pr l (.pr w (.pr d k))))=-1:=by
 have e:(E.I ρ k).toNat=0:=by omega
 rw [I_110,I_111,e]; exact ⟨rfl,rfl⟩
theorem t110_congr (h:E.I ρ k=E.I ρ i):E.I ρ (.fn 110 (.pr l (.pr w (.pr d k))))=E.I ρ (.fn 110 (.pr l (.pr w (.pr d i))))∧E.I ρ (.fn 111 (.pr l (.pr w (.pr d k))))=E.I ρ (.fn 111 (.pr l (.pr w (.pr d i)))):=by
 rw [I_110,I_111,I_110,I_111,h]; exact ⟨rfl,rfl⟩
theorem t110_step (h0:0≤E.I ρ i) (hn:E.I ρ n=E.I ρ i + 1):(E.I ρ (.fn 111 (.pr l (.pr w (.pr d i)))) < E.I ρ (.fn 107 (.pr l (.pr w (.pr i d))))→E.I ρ (.fn 110 (.pr l (.pr w (.pr d n))))=E.I ρ i∧E.I ρ (.fn 111 (.pr l (.pr w (.pr d n))))=E.I ρ (.fn 107 (.pr l (.pr w (.pr i d))))) ∧
  (¬ E.I ρ (.fn 111 (.pr l (.pr w (.pr d i)))) < E.I ρ (.fn 107 (.pr l (.pr w (.pr i d))))→E.I ρ (.fn 110 (.pr l (.pr w (.pr d n))))=E.I ρ (.fn 110 (.pr l (.pr w (.pr d i))))∧E.I ρ (.fn 111 (.pr l (.pr w (.pr d n))))=E.I ρ (.fn 111 (.pr l (.pr w (.pr d i))))):=by
 have en:(E.I ρ n).toNat=(E.I ρ i).toNat + 1:=by omega
 have ei:(((E.I ρ i).toNat:Nat):Int)=E.I ρ i:=by omega
 have es:up ρ l w d ((E.I ρ i).toNat + 1)=if (up ρ l w d (E.I ρ i).toNat).2 < valM (matE ρ l) (ints ρ w) (((E.I ρ i).toNat:Nat):Int) (E.I ρ d).toNat then ((((E.I ρ i).toNat:Nat):Int),valM (matE ρ l) (ints ρ w) (((E.I ρ i).toNat:Nat):Int) (E.I ρ d).toNat) else up ρ l w d (E.I ρ i).toNat:=rfl
 rw [ei] at es
 rw [I_110,I_111,I_110,I_111,I_107,en,es]
 constructor
 ·intro h; rw [if_pos h]; exact ⟨rfl,rfl⟩
 ·intro h; rw [if_neg h]; exact ⟨rfl,rfl⟩
theorem t112_zero (h:E.I ρ j≤0):E.I ρ (.fn 112 (.pr x (.pr w (.pr d j))))=0∧E.I ρ (.fn 113 (.pr x (.pr w (.pr d j))))=0:=by
 have e:(E.I ρ j).toNat=0:=by omega
 rw [I_112,I_113,e]; exact ⟨rfl,rfl⟩
theorem t112_congr (h:E.I ρ j=E.I ρ i):E.I ρ (.fn 112 (.pr x (.pr w (.pr d j))))=E.I ρ (.fn 112 (.pr x (.pr w (.pr d i))))∧E.I ρ (.fn 113 (.pr x (.pr w (.pr d j))))=E.I ρ (.fn 113 (.pr x (.pr w (.pr d i)))):=by
 rw [I_112,I_113,I_112,I_113,h]; exact ⟨rfl,rfl⟩
theorem t112_step (h0:0≤E.I ρ j) (h1:E.I ρ j < E.I ρ d) (hn:E.I ρ n=E.I ρ j + 1) (ha:E.I ρ a=E.I ρ d - 1 - E.I ρ j):(E.I ρ (.fn 113 (.pr x (.pr w (.pr d j))))≤E.I ρ (.fn 108 (.pr x (.pr w (.pr a d))))→E.I ρ (.fn 112 (.pr x (.pr w (.pr d n))))=E.I ρ a∧E.I ρ (.fn 113 (.pr x (.pr w (.pr d n))))=E.I ρ (.fn 108 (.pr x (.pr w (.pr a d))))) ∧
  (¬ E.I ρ (.fn 113 (.pr x (.pr w (.pr d j))))≤E.I ρ (.fn 108 (.pr x (.pr w (.pr a d))))→E.I ρ (.fn 112 (.pr x (.pr w (.pr d n))))=E.I ρ (.fn 112 (.pr x (.pr w (.pr d j))))∧E.I ρ (.fn 113 (.pr x (.pr w (.pr d n))))=E.I ρ (.fn 113 (.pr x (.pr w (.pr d j))))):=by
 have en:(E.I ρ n).toNat=(E.I ρ j).toNat + 1:=by omega
 have ea:((((E.I ρ d).toNat - 1 - (E.I ρ j).toNat:Nat)):Int)=E.I ρ a:=by omega
 have es:dn ρ x w d ((E.I ρ j).toNat + 1)=if (dn ρ x w d (E.I ρ j).toNat).2≤valG (g3 (ints ρ x)) (ints ρ w) ((((E.I ρ d).toNat - 1 - (E.I ρ j).toNat:Nat)):Int) (E.I ρ d).toNat then (((((E.I ρ d).toNat - 1 - (E.I ρ j).toNat:Nat)):Int),valG (g3 (ints ρ x)) (ints ρ w) ((((E.I ρ d).toNat - 1 - (E.I ρ j).toNat:Nat)):Int) (E.I ρ d).toNat) else dn ρ x w d (E.I ρ j).toNat:=rfl
 rw [ea] at es
 rw [I_112,I_113,I_112,I_113,I_108,en,es]
 constructor
 ·intro h; rw [if_pos h]; exact ⟨rfl,rfl⟩
 ·intro h; rw [if_neg h]; exact ⟨rfl,rfl⟩
/-! scores of games -/
theorem t118_nil (h:E.B ρ (.fn 116 (.pr l n))=true):E.B ρ (.fn 118 (.pr l (.pr (.fn 10 z) n)))=true:=by
 rw [z116] at h
 rw [z118,h,addM_iff]
 exact ⟨zeros_mat _,zeros_mat _,fun i hi j hj=>by
  have:scoreG (g3 (ints ρ (.fn 10 z))) (i:Int) (j:Int)=0:=rfl
  rw [this]; omega⟩
theorem t118_of (h:E.B ρ (.fn 103 (.pr L (.pr l (.pr x (.pr (.fn 9 (.pr x (.int 3))) n)))))=true) (hz:E.B ρ (.fn 116 (.pr l n))=true):E.B ρ (.fn 118 (.pr L (.pr x n)))=true:=by
 rw [z116] at hz
 rw [z103,hz] at h
 rw [z118]
 have:games (x.den ρ) (E.I ρ (.fn 9 (.pr x (.int 3))))=g3 (ints ρ x):=by
  show (g3 (ints ρ x)).take (E.I ρ (.fn 9 (.pr x (.int 3)))).toNat=_
  rw [rw3_I,Int.toNat_natCast,List.take_length]
 rw [this] at h; exact h
theorem get2_out {M:List (List Int)} {n:Nat} (h:isMat M n=true) (i j:Nat) (ho:n≤i∨n≤j):get2 M i j=0:=by
 rw [isMat_iff] at h
 unfold get2
 by_cases hi:i < n
 ·have:=h.2 i hi
  rw [List.getD_eq_getElem?_getD (l:=M.getD i []),List.getElem?_eq_none (by omega)]; rfl
 ·have e:M.getD i []=[]:=by rw [List.getD_eq_getElem?_getD,List.getElem?_eq_none (by omega)]; rfl
  rw [e]; rfl
theorem addM_get {M:List (List Int)} {gs:List (Int × Int × Int)} {n:Nat} (h:addM M (List.replicate n (List.replicate n 0)) gs n=true) (i j:Nat):0≤get2 M i j∧(i < n→j < n→get2 M i j=scoreG gs (i:Int) (j:Int)):=by
 rw [addM_iff] at h
 by_cases hij:i < n∧j < n
 ·have:=h.2.2 i hij.1 j hij.2
  rw [zeros_get n i j hij.1 hij.2] at this
  have h2:=(scoreG_nn gs (i:Int) (j:Int)).1
  exact ⟨by omega,fun _ _=>by omega⟩
 ·rw [get2_out h.1 i j (by omega)]
  exact ⟨by omega,fun h1 h2=>absurd ⟨h1,h2⟩ hij⟩
theorem t_best (h:E.B ρ (.fn 118 (.pr L (.pr x d)))=true) (hd:1≤E.I ρ d) (hl:E.I ρ (.fn 0 w)=E.I ρ d) (hw:E.B ρ (.fn 114 (.pr w (.fn 0 w)))=true) (hj:E.I ρ j=E.I ρ d) :
  E.I ρ (.fn 110 (.pr L (.pr w (.pr d d))))=E.I ρ (.fn 112 (.pr x (.pr w (.pr d j))))∧E.I ρ (.fn 111 (.pr L (.pr w (.pr d d))))=E.I ρ (.fn 113 (.pr x (.pr w (.pr d j)))):=by
 rw [z118] at h
 rw [z114,okW_iff,hl] at hw
 rw [← ints_len] at hl
 have hw':∀ b,b < (E.I ρ d).toNat→0≤(ints ρ w).getD b 0:=fun b hb=>(hw b hb (by omega)).1
 have hM:∀ (i b:Nat),0≤rateM (matE ρ L) (i:Int) (b:Int):=by
  intro i b
  unfold rateM
  rw [mAt_nat,mAt_nat]
  exact (rateI_nn _ _ _ _ (addM_get h i b).1 (addM_get h b i).1).1
 have hG:∀ (i b:Nat),0≤rateG (g3 (ints ρ x)) (i:Int) (b:Int):=by
  intro i b
  unfold rateG
  exact (rateI_nn _ _ _ _ (scoreG_nn _ _ _).1 (scoreG_nn _ _ _).1).1
 have key:=best_eq (fun i=>valM (matE ρ L) (ints ρ w) (i:Int) (E.I ρ d).toNat) (fun i=>valG (g3 (ints ρ x)) (ints ρ w) (i:Int) (E.I ρ d).toNat) (E.I ρ d).toNat (by omega)
  (fun i=>sumF_nnk _ _ fun b hb=>Int.mul_nonneg (hw' b hb) (hM i b)) (fun i=>sumF_nnk _ _ fun b hb=>Int.mul_nonneg (hw' b hb) (hG i b)) (fun i hi=>sumF_congr _ _ _ fun b hb=>by
   have e1:=(addM_get h i b).2 hi hb
   have e2:=(addM_get h b i).2 hb hi
   have:rateM (matE ρ L) (i:Int) (b:Int)=rateG (g3 (ints ρ x)) (i:Int) (b:Int):=by
    unfold rateM rateG
    rw [mAt_nat,mAt_nat,e1,e2]
   rw [this])
 have k2:up ρ L w d (E.I ρ d).toNat=dn ρ x w d (E.I ρ d).toNat:=key
 rw [I_110,I_111,I_112,I_113,hj,k2]; exact ⟨rfl,rfl⟩
theorem t117_congr (h:E.B ρ (.fn 117 (.pr l g))=true) (hk:E.I ρ k=E.I ρ g):E.B ρ (.fn 117 (.pr l k))=true:=by
 rw [z117] at *; rw [hk]; exact h
theorem rw3_nn:0≤E.I ρ (.fn 9 a):=Int.natCast_nonneg _
end
end Go.SX

