/-
  The symbolic executor is right (first part).
-/
import Derived.Test.YtnggbcblogpnfaaGreatSXa
import Derived.WalkKit
import Derived.Deep.Quiet
set_option linter.unusedVariables false
set_option linter.unusedSimpArgs false
set_option linter.unusedSectionVars false

namespace Go.SX
noncomputable section
theorem mB{a b:Nat}(h:a=b):Nat.beq a b=true:=by simp_all
section
variable {G Z:Type}
theorem T.get_nil(n:Nat):(T.nil:T G).get n=none:=rfl
theorem T.get_zero(v:G)(l r:T G):(T.node v l r).get 0=some v:=rfl
theorem T.get_succ(v:G)(l r:T G)(n:Nat):(T.node v l r).get (n+1)=if n%2=0 then l.get (n/2)else r.get (n/2):=by
 show Bool.rec (motive:=fun _=>Option G) _ _ _=_;by_cases h:n%2=0
 ·have:Nat.beq (Nat.mod n 2) 0=true:=mB h
  rw[this,if_pos h];rfl
 ·have:Nat.beq (Nat.mod n 2) 0=false:=by
   cases hb:Nat.beq _ 0 with
   |false=>rfl
   |true=>exact absurd (Nat.eq_of_beq_eq_true hb) h
  rw[this,if_neg h];rfl
theorem T.set_nil(n:Nat)(x:G):(T.nil:T G).set n x=T.nil:=rfl
theorem T.set_zero(v:G)(l r:T G)(x:G):(T.node v l r).set 0 x=T.node x l r:=rfl
theorem T.set_succ(v:G)(l r:T G)(n:Nat)(x:G):(T.node v l r).set (n+1) x=if n%2=0 then T.node v (l.set (n/2) x) r else T.node v l (r.set (n/2) x):=by
 show Bool.rec (motive:=fun _=>T G) _ _ _=_;by_cases h:n%2=0
 ·have:Nat.beq (Nat.mod n 2) 0=true:=mB h
  rw[this,if_pos h];rfl
 ·have:Nat.beq (Nat.mod n 2) 0=false:=by
   cases hb:Nat.beq _ 0 with
   |false=>rfl
   |true=>exact absurd (Nat.eq_of_beq_eq_true hb) h
  rw[this,if_neg h];rfl
theorem T.ins_nil_zero(x:G):(T.nil:T G).ins 0 x=T.node x T.nil T.nil:=rfl
theorem T.ins_nil_succ(n:Nat)(x:G):(T.nil:T G).ins (n+1) x=T.nil:=rfl
theorem T.ins_zero(v:G)(l r:T G)(x:G):(T.node v l r).ins 0 x=T.node x l r:=rfl
theorem T.ins_succ(v:G)(l r:T G)(n:Nat)(x:G):(T.node v l r).ins (n+1) x=if n%2=0 then T.node v (l.ins (n/2) x) r else T.node v l (r.ins (n/2) x):=by
 show Bool.rec (motive:=fun _=>T G) _ _ _=_;by_cases h:n%2=0
 ·have:Nat.beq (Nat.mod n 2) 0=true:=mB h
  rw[this,if_pos h];rfl
 ·have:Nat.beq (Nat.mod n 2) 0=false:=by
   cases hb:Nat.beq _ 0 with
   |false=>rfl
   |true=>exact absurd (Nat.eq_of_beq_eq_true hb) h
  rw[this,if_neg h];rfl
theorem T.setK_eq(t:T G):∀(n:Nat)(x:G)(k:T G->Z),T.setK t n x k=k (t.set n x):=by
 induction t with
 |nil=>intros;rfl
 |node v l r il ir=>
  intro n x k;cases n with
  |zero=>rfl
  |succ n=>
   rw[T.set_succ]
   show Bool.rec (motive:=fun _=>Z) _ _ _=_;by_cases h:n%2=0
   ·have:Nat.beq (Nat.mod n 2) 0=true:=mB h
    rw[this,if_pos h];exact il _ _ _
   ·have:Nat.beq (Nat.mod n 2) 0=false:=by
     cases hb:Nat.beq _ 0 with
     |false=>rfl
     |true=>exact absurd (Nat.eq_of_beq_eq_true hb) h
    rw[this,if_neg h];exact ir _ _ _
theorem T.insK_eq(t:T G):∀(n:Nat)(x:G)(k:T G->Z),T.insK t n x k=k (t.ins n x):=by
 induction t with
 |nil=>intro n;cases n<;>intros<;>rfl
 |node v l r il ir=>
  intro n x k;cases n with
  |zero=>rfl
  |succ n=>
   rw[T.ins_succ]
   show Bool.rec (motive:=fun _=>Z) _ _ _=_;by_cases h:n%2=0
   ·have:Nat.beq (Nat.mod n 2) 0=true:=mB h
    rw[this,if_pos h];exact il _ _ _
   ·have:Nat.beq (Nat.mod n 2) 0=false:=by
     cases hb:Nat.beq _ 0 with
     |false=>rfl
     |true=>exact absurd (Nat.eq_of_beq_eq_true hb) h
    rw[this,if_neg h];exact ir _ _ _
theorem T.get_set(t:T G):∀(d:Nat)(x:G)(i:Nat),(t.set d x).get i=if i=d then(t.get d).map (fun _=>x)else t.get i:=by
 induction t with
 |nil=>simp_all[T.set_nil,T.get_nil]
 |node v l r il ir=>
  intro d x i;cases d with
  |zero=>cases i with
   |zero=>rfl
   |succ i=>rfl
  |succ d=>
   rw[T.set_succ]
   cases i with
   |zero=>grind[T.get_zero]
   |succ i=>
    by_cases h:d%2=0
    ·rw[if_pos h,T.get_succ,il]
     by_cases hi:i%2=0
     ·rw[if_pos hi,T.get_succ,if_pos h,T.get_succ,if_pos hi]
      grind
     ·have:¬i+1=d+1:=by omega
      simp_all[T.get_succ]
    ·rw[if_neg h,T.get_succ,ir]
     by_cases hi:i%2=0
     ·have:¬i+1=d+1:=by omega
      simp_all[T.get_succ]
     ·rw[if_neg hi,T.get_succ,if_neg h,T.get_succ,if_neg hi]
      grind
theorem T.get_ins_ne(t:T G):∀(d:Nat)(x:G)(i:Nat),i≠d->(t.ins d x).get i=t.get i:=by
 induction t with
 |nil=>
  intro d x i h;cases d with
  |zero=>
   rw[T.ins_nil_zero]
   cases i with
   |zero=>omega
   |succ i=>grind[T.get_succ,T.get_nil]
  |succ d=>rfl
 |node v l r il ir=>
  intro d x i h;cases d with
  |zero=>cases i with
   |zero=>omega
   |succ i=>rfl
  |succ d=>
   rw[T.ins_succ]
   cases i with
   |zero=>grind[T.get_zero]
   |succ i=>
    by_cases hd:d%2=0
    ·rw[if_pos hd,T.get_succ,T.get_succ]
     grind
    ·rw[if_neg hd,T.get_succ,T.get_succ]
     grind
theorem T.get_ins_self(t:T G):∀(d:Nat)(x:G)(y:G),(t.ins d x).get d=some y->y=x:=by
 induction t with
 |nil=>
  intro d x y h;cases d with
  |zero=>simp_all[T.ins_nil_zero,T.get_zero]
  |succ d=>simp_all[T.ins_nil_succ,T.get_nil]
 |node v l r il ir=>
  intro d x y h;cases d with
  |zero=>grind[T.ins_zero,T.get_zero]
  |succ d=>
   rw[T.ins_succ]at h
   by_cases hd:d%2=0
   ·rw[if_pos hd,T.get_succ,if_pos hd]at h;grind
   ·rw[if_neg hd,T.get_succ,if_neg hd]at h;grind
theorem T.all_node(p:G->Bool)(v:G)(l r:T G):T.all p (T.node v l r)=(p v&&(l.all p&&r.all p)):=by
 show Bool.rec (motive:=fun _=>Bool) _ (Bool.rec (motive:=fun _=>Bool) _ _ (T.all p l)) _=_;cases p v<;>cases T.all p l<;>rfl
theorem T.all_get{p:G->Bool}(t:T G)(h:T.all p t=true):∀(i:Nat)(v:G),t.get i=some v->p v=true:=by
 induction t with
 |nil=>intro i v hv;cases hv
 |node v l r il ir=>
  rw[T.all_node]at h
  simp only[Bool.and_eq_true]at h;intro i x hx;cases i with
  |zero=>simp_all[T.get_zero]
  |succ i=>
   grind[T.get_succ]
theorem T.fill_zero(v:G)(d:Nat):T.fill v d 0=T.nil:=by cases d<;>rfl
theorem T.fill_succ(v:G)(d m:Nat):T.fill v (d+1) (m+1)=T.node v (T.fill v d ((m+1)/2)) (T.fill v d (m/2)):=rfl
theorem T.get_fill(v:G):∀(d n i:Nat),n<2^d->(T.fill v d n).get i=if i<n then some v else none:=by
 intro d;induction d with
 |zero=>simp_all[T.fill_zero,T.get_nil]
 |succ d ih=>
  intro n i h;cases n with
  |zero=>rfl
  |succ m=>
   rw[T.fill_succ]
   cases i with
   |zero=>rfl
   |succ i=>
    grind[T.get_succ]
def T.puts(t:T G):Nat->List G->T G
 |_,[]=>t
 |n,x::xs=>T.puts (t.set n x) (n+1) xs
theorem T.putsK_eq(l:List G):∀(n:Nat)(t:T G)(k:T G->Z),T.putsK l n t k=k (t.puts n l):=by
 induction l with
 |nil=>intros;rfl
 |cons x xs ih=>
  intro n t k;show T.setK t n x (fun t'=>T.putsK xs _ t' k)=_
  rw[T.setK_eq,ih];rfl
def T.adds(t:T G):Nat->List G->T G
 |_,[]=>t
 |n,x::xs=>T.adds (t.ins n x) (n+1) xs
theorem T.addsK_eq(l:List G):∀(n:Nat)(t:T G)(k:T G->Z),T.addsK l n t k=k (t.adds n l):=by
 induction l with
 |nil=>intros;rfl
 |cons x xs ih=>
  intro n t k;show T.insK t n x (fun t'=>T.addsK xs _ t' k)=_
  rw[T.insK_eq,ih];rfl
theorem T.get_puts(l:List G):∀(n:Nat)(t:T G)(i:Nat),
  (t.puts n l).get i=if n<=i/\i<n+l.length then(t.get i).bind (fun _=>l[i-n]?)else t.get i:=by
 induction l with
 |nil=>intro n t i;rw[if_neg (by simp)];rfl
 |cons x xs ih=>
  intro n t i
  show(T.puts _ _ xs).get i=_
  rw[ih,T.get_set]
  by_cases h1:i=n
  ·subst h1
   rw[if_neg (by omega),if_pos rfl,if_pos (by simp)]
   cases t.get i<;>simp
  grind
theorem T.get_adds(l:List G):∀(n:Nat)(t:T G)(i:Nat)(x:G),(t.adds n l).get i=some x->(n<=i/\l[i-n]? =some x)\/(t.get i=some x/\i<n)\/(t.get i=some x/\n+l.length<=i):=by
  induction l with
  | nil => intro n t i x h
           by_cases hi:i<n
           · exact .inr (.inl ⟨h,hi⟩)
           · exact .inr (.inr ⟨h,by simp_all⟩)
  |cons y ys ih=>
    intro n t i x h;have h':=h;rcases ih _ _ _ _ h' with⟨h1,h2⟩|⟨h1,h2⟩|⟨h1,h2⟩
    · left
      refine⟨by omega, ?_⟩
      have e:i-n=(i-(n+1))+1:=by omega
      simp_all
    · by_cases e:i=n
      · subst e
        have:=T.get_ins_self _ _ _ _ h1
        subst this;left;exact⟨Nat.le_refl _,by simp⟩
      · rw[T.get_ins_ne _ _ _ _ e]at h1
        right;left;exact⟨h1,by omega⟩
    · rw[T.get_ins_ne _ _ _ _ (by omega)]at h1
      right;right;exact⟨h1,by simp;omega⟩
end
section
variable {G:Type}
theorem ee(l:List G):∀n,d9 l n=l[n]?:=by
 induction l with
 |nil=>intro n;rfl
 |cons x xs ih=>intro n;cases n with
  |zero=>rfl
  |succ n=>exact ih n
theorem qB(l:List G):∀n r,kZ l n=some r->r=l.take n/\n<=l.length:=by
 induction l with
 |nil=>intro n r h;cases n with
  |zero=>cases h;simp
  |succ n=>cases h
 |cons x xs ih=>intro n r h;cases n with
  |zero=>cases h;simp
  |succ n=>
   have h':Option.rec (motive:=fun _=>Option _) _ _ (kZ xs n)=some r:=h;cases ht:kZ xs n with
   |none=>simp_all
   |some l=>
    rw[ht]at h'
    grind
theorem sb(l:List G):∀n,sa l n=l.drop n:=by
 induction l with
 |nil=>intro n;cases n<;>rfl
 |cons x xs ih=>intro n;cases n with
  |zero=>rfl
  |succ n=>exact ih n
theorem ads(cs:List G):∀vs r,sP cs vs=some r->r=vs++cs.drop vs.length/\vs.length<=cs.length:=by
 induction cs with
 |nil=>intro vs r h;cases vs with
  |nil=>cases h;simp
  |cons v vs=>cases h
 |cons c cs ih=>intro vs r h;cases vs with
  |nil=>cases h;simp
  |cons v vs=>
   have h':Option.rec (motive:=fun _=>Option _) _ _ (sP cs vs)=some r:=h;cases ht:sP cs vs with
   |none=>simp_all
   |some l=>
    rw[ht]at h'
    grind
theorem zH(cs:List G):∀n vs r,oQ cs n vs=some r->r=cs.take n++vs++cs.drop (n+vs.length)/\n+vs.length<=cs.length:=by
 induction cs with
 |nil=>intro n vs r h;cases n with
  |zero=>
   have h':sP [] vs=some r:=h;grind[ads]
  |succ n=>cases h
 |cons c cs ih=>intro n vs r h;cases n with
  |zero=>
   have h':sP (c::cs) vs=some r:=h;grind[ads]
  |succ n=>
   have h':Option.rec (motive:=fun _=>Option _) _ _ (oQ cs n vs)=some r:=h;cases ht:oQ cs n vs with
   |none=>simp_all
   |some l=>
    rw[ht]at h'
    grind
end
theorem gJ{j k:IntKind}(h:fY j k=true):j=k:=by cases j<;>cases k<;>first | rfl | cases h
theorem adn{a b:BinOp}(h:My a b=true):a=b:=by cases a<;>cases b<;>first | rfl | cases h
theorem uS{a b:Int}(h:ji a b=true):a=b:=by
 cases a<;>cases b<;>simp[ji]at h<;>simp[h]
theorem pA{a b:Bool}(h:mC a b=true):a=b:=by cases a<;>cases b<;>first | rfl | cases h
theorem CL{a b:Bool}(h:mC a b=false):a≠b:=by cases a<;>cases b<;>simp[mC]at h<;>simp
theorem lG{a b:Bool}:dU a b=true↔a=true/\b=true:=by cases a<;>cases b<;>simp[dU]
theorem E.beq_eq{a:E}:∀ {b:E},a.beq b=true->a=b:=by
 induction a with
 |int n=>
  intro b h;cases b<;>try exact absurd (show false=true from h) Bool.false_ne_true
  rename_i n2
  rw[uS h]
 |bool n=>
  intro b h;cases b<;>try exact absurd (show false=true from h) Bool.false_ne_true
  rename_i n2
  rw[pA h]
 |str s=>
  intro b h;cases b<;>try exact absurd (show false=true from h) Bool.false_ne_true
  rename_i s';have hb:∀(l m:List _),n4 l m=true->l=m:=by
   intro l;induction l with
   |nil=>grind[n4]
   |cons x xs ih=>
    intro m hm;cases m with
    |nil=>simp[n4]at hm
    |cons y ys=>
     grind[n4,Nat.eq_of_beq_eq_true,UInt8.toNat_inj]
  have:=hb _ _ h
  cases s;simp_all
 |var i=>
  intro b h;cases b<;>try exact absurd (show false=true from h) Bool.false_ne_true
  rename_i n2;replace h:Nat.beq i n2=true:=h;simp_all
 |ar o k x y ix iy=>
  intro b h;cases b<;>try exact absurd (show false=true from h) Bool.false_ne_true
  rename_i o2 k2 x2 y2;replace h:dU _ (dU _ (dU (x.beq x2) (y.beq y2)))=true:=h;grind[lG,adn,gJ]
 |cmp o x y ix iy=>
  intro b h;cases b<;>try exact absurd (show false=true from h) Bool.false_ne_true
  rename_i o2 x2 y2;replace h:dU _ (dU (x.beq x2) (y.beq y2))=true:=h;grind[lG,adn]
 |mn x y ix iy=>
  intro b h;cases b<;>try exact absurd (show false=true from h) Bool.false_ne_true
  rename_i x2 y2;replace h:dU (x.beq x2) (y.beq y2)=true:=h;grind[lG]
 |mx x y ix iy=>
  intro b h;cases b<;>try exact absurd (show false=true from h) Bool.false_ne_true
  rename_i x2 y2;replace h:dU (x.beq x2) (y.beq y2)=true:=h;grind[lG]
 |wr k x ix=>
  intro b h;cases b<;>try exact absurd (show false=true from h) Bool.false_ne_true
  rename_i k2 x2;replace h:dU _ (x.beq x2)=true:=h;grind[lG,gJ]
 |not x ix=>
  intro b h;cases b<;>try exact absurd (show false=true from h) Bool.false_ne_true
  rename_i x2;replace h:x.beq x2=true:=h;grind
 |and x y ix iy=>
  intro b h;cases b<;>try exact absurd (show false=true from h) Bool.false_ne_true
  rename_i x2 y2;replace h:dU (x.beq x2) (y.beq y2)=true:=h;grind[lG]
 |seq x y ix iy=>
  intro b h;cases b<;>try exact absurd (show false=true from h) Bool.false_ne_true
  rename_i x2 y2;replace h:dU (x.beq x2) (y.beq y2)=true:=h;grind[lG]
 |iff x y ix iy=>
  intro b h;cases b<;>try exact absurd (show false=true from h) Bool.false_ne_true
  rename_i x2 y2;replace h:dU (x.beq x2) (y.beq y2)=true:=h;grind[lG]
 |imp x y ix iy=>
  intro b h;cases b<;>try exact absurd (show false=true from h) Bool.false_ne_true
  rename_i x2 y2;replace h:dU (x.beq x2) (y.beq y2)=true:=h;grind[lG]
 |fn f x ix=>
  intro b h;cases b<;>try exact absurd (show false=true from h) Bool.false_ne_true
  rename_i f2 x2;replace h:dU _ (x.beq x2)=true:=h;grind[lG,Nat.eq_of_beq_eq_true]
 |pr x y ix iy=>
  intro b h;cases b<;>try exact absurd (show false=true from h) Bool.false_ne_true
  rename_i x2 y2;replace h:dU (x.beq x2) (y.beq y2)=true:=h;grind[lG]
theorem jf{Z:Type}(n:Nat)(k:Nat->Z):gf n k=k n:=by
 cases n<;>rfl
mutual
theorem CK.beq_eq:∀(x y:CK),x.beq y=true->x=y
 |.int k,y,h=>by cases y<;>simp[CK.beq]at h;rw[gJ h]
 |.bool,y,h=>by grind[CK.beq]
 |.str,y,h=>by grind[CK.beq]
 |.slc ks,y,h=>by
  cases y<;>simp[CK.beq]at h
  rw[kL ks _ h]
theorem kL:∀(a b:List CK),gK a b=true->a=b
 |[],b,h=>by grind[gK]
 |x::xs,b,h=>by
  cases b with
  |nil=>simp[gK]at h
  |cons y ys=>
   simp[gK]at h
   rw[CK.beq_eq x y h.1,kL xs ys h.2]
end
section
variable (ρ:Env)
@[simp] theorem E.I_int(n:Int):(E.int n).I ρ=n:=rfl
@[simp] theorem E.B_bool(b:Bool):(E.bool b).B ρ=b:=rfl
@[simp] theorem E.S_str(s:ByteArray):(E.str s).S ρ=s:=rfl
@[simp] theorem E.I_ar(o:BinOp)(k:IntKind)(a b:E):(E.ar o k a b).I ρ=mz o k (a.I ρ) (b.I ρ):=rfl
@[simp] theorem E.B_cmp(o:BinOp)(a b:E):(E.cmp o a b).B ρ=cK o (a.I ρ) (b.I ρ):=rfl
@[simp] theorem E.I_mn(a b:E):(E.mn a b).I ρ=oG (a.I ρ) (b.I ρ):=rfl
@[simp] theorem E.I_mx(a b:E):(E.mx a b).I ρ=lS (a.I ρ) (b.I ρ):=rfl
@[simp] theorem E.I_wr(k:IntKind)(a:E):(E.wr k a).I ρ=k.wrap (a.I ρ):=rfl
@[simp] theorem E.B_not(a:E):(E.not a).B ρ=!a.B ρ:=rfl
@[simp] theorem E.B_and(a b:E):(E.and a b).B ρ=(a.B ρ&&b.B ρ):=rfl
@[simp] theorem E.B_seq(a b:E):(E.seq a b).B ρ=kA (a.S ρ) (b.S ρ):=rfl
@[simp] theorem E.B_iff(a b:E):(E.iff a b).B ρ=(a.B ρ==b.B ρ):=rfl
@[simp] theorem E.B_imp(a b:E):(E.imp a b).B ρ=(!a.B ρ||b.B ρ):=rfl
theorem RI(l i v:E):(E.fn 2 (.pr l (.pr i v))).L ρ=(l.L ρ).set (i.I ρ).toNat (v.den ρ):=rfl
theorem RG(x r:E):(E.fn 23 (.pr x r)).L ρ=x.den ρ::r.L ρ:=rfl
theorem aF1(v:E)(l:E)(n:Nat):∀(r:E),FQ v l n=some r->r.L ρ=(l.L ρ).set n (v.den ρ):=by
 fun_induction FQ v l n with
 |case1 x r=>intro r' h;simp only[Option.some.injEq]at h;subst h;rfl
 |case2 x r n r1 h1 ih=>simp_all[RG]
 |case3 x r n h1 ih=>simp_all
 |case4=>simp_all
theorem aJX(i:Nat)(v:E)(l:E):(GB i v l).L ρ=(l.L ρ).set i (v.den ρ):=by
 have hI:∀k,((E.int (.ofNat k)).I ρ).toNat=k:=fun k=>rfl
 fun_induction GB i v l with
 |case1 l j u h=>
  simp_all[RI]
 |case2 l j u h h2 ih=>
  grind[Nat.blt,Nat.ble_eq,RI,List.set_comm]
 |case3 l j u h h2=>rfl
 |case4 l h=>rfl
theorem E.L_upd(l i v:E):(jN l i v).L ρ=(l.L ρ).set (i.I ρ).toNat (v.den ρ):=by
 unfold jN;split
 ·rename_i n;split
  ·rename_i r hr
   rw[aF1 ρ v l n r hr];rfl
  ·rw[aJX];rfl
 rfl
theorem aBx(b a:E):∀(r:E),Cx b a=some r->r.L ρ=a.L ρ++b.L ρ:=by
 fun_induction Cx b a with
 |case1 x r r1 h1 ih=>simp_all[RG]
 |case2 x r h1 ih=>simp_all
 |case3=>intro r' h;simp only[Option.some.injEq]at h;subst h;rfl
 |case4=>simp_all
theorem kR(a b:E):(dA a b).I ρ=a.I ρ+b.I ρ:=by
 unfold dA;repeat' split
 all_goals try (rename_i h;have:=uS h)
 all_goals try simp only[E.I_int]
 all_goals try (try rfl)
 all_goals (simp only[E.I,E.den,sn,wa,U.fst,U.snd,U.toI,Nat.blt,Nat.ble]at *;omega)
theorem abX(a b:E):(jM a b).I ρ=a.I ρ-b.I ρ:=by
 unfold jM;repeat' split
 all_goals try (rename_i h;first | (have:=uS h) | (have:=E.beq_eq h;subst this))
 all_goals (simp only[E.I,E.den,sn,wa,U.fst,U.snd,U.toI,Nat.blt]at *;try omega)
theorem abW{a b:E}{x y:Int}(ha:a.den ρ=.int x)(hb:b.den ρ=.int y):(dA a b).den ρ=.int (x+y):=by
 have h:=kR ρ a b;have hs:∃z,(dA a b).den ρ=.int z:=by
  unfold dA;repeat' split
  all_goals first | exact⟨_,rfl⟩ | simp_all | simp_all
 grind[E.I,U.toI]
theorem ED(l:E):(iW l).den ρ=.int (l.L ρ).length:=by
 fun_induction iW l with
 |case1 l' b ih=>
  rw[ih]
  show _=U.int ((l'.den ρ).toL.set _ _).length;simp[E.L]
 |case2 a b ia ib=>
  rw[abW ρ ia ib]
  show _=U.int ((a.den ρ).toL++(b.den ρ).toL).length;simp[E.L]
 |case3 n x=>
  show(oH n _).den ρ=U.int (List.replicate _ _).length
  have hm:∀z,lS z 0=z.toNat:=fun z=>by grind[lS]
  rw[List.length_replicate,<- hm]
  cases n<;>rfl
 |case6 r c ih=>rw[ih];rfl
 |case7 x r ih=>
  rw[abW ρ (x:=1) rfl ih]
  show _=U.int ((x.den ρ)::(r.den ρ).toL).length;simp[E.L,Int.add_comm]
 |case8 r c ih=>rw[ih];rfl
 |_=>rfl
theorem ku(e:E):e.I ρ=(dM e).I ρ+fM e:=by
 unfold dM fM;split
 ·rfl
 ·simp
theorem aCy(o:BinOp)(c x y:Int):cK o (c+x) (c+y)=cK o x y:=by cases o<;>simp[cK]<;>(grind)
theorem vj(o:BinOp)(k:IntKind)(a b:E):(jl o k a b).I ρ=mz o k (a.I ρ) (b.I ρ):=by
 unfold jl;split<;>simp
theorem eM(o:BinOp)(a b:E):(aN o a b).B ρ=cK o (a.I ρ) (b.I ρ):=by
 unfold aN;split
 ·simp
 ·split
  ·rename_i h
   rw[E.B_bool,ku ρ a,ku ρ b,E.beq_eq h,aCy]
  ·cases o;case eql=>simp only;split<;>simp[cK]<;>(grind)
   case neq=>simp only;split<;>(rw[Bool.eq_iff_iff];simp[cK])<;>omega
   all_goals simp[cK]<;>(grind)
theorem aEH(a b:E):(sJ a b).I ρ=oG (a.I ρ) (b.I ρ):=by
 unfold sJ;split<;>simp
theorem aEJ(a b:E):(oH a b).I ρ=lS (a.I ρ) (b.I ρ):=by
 unfold oH;split<;>simp
theorem aEN(k:IntKind)(a:E):(sK k a).I ρ=k.wrap (a.I ρ):=by
 unfold sK;split<;>simp
theorem iA(a:E):(bm a).B ρ=!a.B ρ:=by
 unfold bm;split<;>simp
theorem EA(a b:E):(zz a b).B ρ=(a.B ρ&&b.B ρ):=by
 unfold zz;split
 ·split<;>simp
 all_goals rfl
theorem EE(a b:E):(mS a b).B ρ=kA (a.S ρ) (b.S ρ):=by
 unfold mS;split<;>simp
theorem Mg{a b e:E}(h:EC a b=some e):e.B ρ=(a.B ρ==b.B ρ):=by
 unfold EC at h;split at h<;>simp only[Option.some.injEq]at h<;>subst h<;>simp[iA]
end
section
variable (ρ:Env)
theorem SV.dens_eq(l:List SV):SV.dens ρ l=l.map (SV.den ρ):=by
 induction l with
 |nil=>rfl
 |cons v vs ih=>simp[SV.dens,ih]
theorem SV.cells_den(v:SV):(v.den ρ).cells.toList=v.cells.map (SV.den ρ):=by
 cases v;case bsl ks e=>show(e.den ρ).raw.cells.toList=_;unfold U.raw;grind[Value.cells,SV.cells,SV.den,U.raw]
 case nsl b ks e i c=>show(e.den ρ).raw.cells.toList=_;unfold U.raw;grind[Value.cells,SV.cells,SV.den,U.raw]
 all_goals simp[SV.den,Value.cells,SV.cells,SV.dens_eq,Go.undef]
theorem SV.cells_size(v:SV):(v.den ρ).cells.size=v.cells.length:=by
 grind[Array.length_toList,SV.cells_den]
theorem SV.undef_den:SV.undef.den ρ=Go.undef:=by rfl
mutual
theorem EZ:∀(v:Value)(s:SV),ofVal v=some s->s.den ρ=v
 |.bool b,s,h=>by simp[ofVal]at h;subst h;rfl
 |.int k n,s,h=>by simp[ofVal]at h;subst h;rfl
 |.string b,s,h=>by simp[ofVal]at h;subst h;rfl
 |.pointer none,s,h=>by grind[ofVal,SV.den]
 |.pointer (some _),s,h=>by simp[ofVal]at h
 |.slice none n c,s,h=>by simp[ofVal]at h;grind[SV.den]
 |.slice (some _) _ _,s,h=>by simp[ofVal]at h
 |.map none,s,h=>by grind[ofVal,SV.den]
 |.map (some _),s,h=>by simp[ofVal]at h
 |.nilFunc,s,h=>by grind[ofVal,SV.den]
 |.nilIface,s,h=>by grind[ofVal,SV.den]
 |.agg ⟨cs⟩,s,h=>by
  simp only[ofVal]at h;split at h
  ·rename_i l hl;simp only[Option.some.injEq]at h;subst h;simp[SV.den,adk cs l hl]
  ·cases h
 |.float _ _,s,h=>by simp[ofVal]at h
 |.complex _ _ _,s,h=>by simp[ofVal]at h
 |.chan _,s,h=>by simp[ofVal]at h
 |.func _ _ _,s,h=>by simp[ofVal]at h
 |.iface _ _,s,h=>by simp[ofVal]at h
 |.tuple _,s,h=>by simp[ofVal]at h
theorem adk:∀(vs:List _)(l:List SV),qj vs=some l->SV.dens ρ l=vs
 |[],l,h=>by simp[qj]at h;subst h;rfl
 |v::vs,l,h=>by
  simp only[qj]at h;split at h
  ·rename_i x xs hx hxs;simp only[Option.some.injEq]at h;subst h;simp[SV.dens,EZ v x hx,adk vs xs hxs]
  ·cases h
end
end
end
end Go.SX

namespace Go.SX
theorem CQ:∀(a b:List UInt8),n4 a b=(a==b)
 |[],[]=>rfl
 |[],_::_=>rfl
 |_::_,[]=>rfl
 |x::xs,y::ys=>by
  by_cases e:x=y
  ·subst e;simp[n4,CQ xs ys]
  grind[UInt8.toNat_inj,Nat.eq_of_beq_eq_true,n4]
theorem aC6(a b:ByteArray):kA a b=(a.toList==b.toList):=by
 simp_all[kA,CQ,ByteArray.toList_eq]
theorem ZL(a b:ByteArray):kA a b=(a==b):=by
 rw[kA,CQ]
 rcases a with⟨⟨a⟩⟩;rcases b with⟨⟨b⟩⟩
 have h:((ByteArray.mk _==ByteArray.mk _)=((⟨a⟩:Array _)==⟨b⟩)):=rfl;simp_all
structure TabOk (P:Program) (tb:Tab):Prop where
 ty:∀t i,tb.ty.get t=some i->P.types[t]?=some i
 fn:∀f fn,tb.fn.get f=some fn->P.funcs[f]?=some fn
 facts:∀e∈tb.facts,∀ρ,e.B ρ=true
section
variable {P:Program} {tb:Tab} (ht:TabOk P tb)
include ht
theorem TabOk.info{t:TypeId}{i:TypeInfo}(h:tb.ty.get t=some i):P.info? t=some i:=by
 have h1:=ht.ty t i h;have h2:t<P.types.size:=by
  grind
 simp_all[Tables.info?]
theorem TabOk.und{t:TypeId}{d:TypeDesc}(h:tb.und t=some d):P.underlying t=some d:=by
 unfold Tab.und at h;unfold Program.underlying;cases hi:tb.ty.get t with
 |none=>simp_all
 |some i=>
  simp only[hi]at h
  rw[ht.info hi]
  cases i with
  |mk desc str size bytes hp al fa zero cmp ms=>
   cases desc<;>simp only[Option.some.injEq]at h ⊢ <;> try exact h
   rename_i nm u;cases hj:tb.ty.get u with
   |none=>simp_all
   |some j=>simp only[hj]at h;rw[ht.info hj];simp[h]
theorem TabOk.run_und{t:TypeId}{d:TypeDesc}(h:tb.und t=some d)(w:World):(underlying t).run P w=.ok d w:=run_underlying (ht.und h) w
theorem TabOk.run_info{t:TypeId}{i:TypeInfo}(h:tb.ty.get t=some i)(w:World):(typeInfo t).run P w=.ok i w:=by
 simp[typeInfo,ht.info h]
theorem TabOk.run_size{t:TypeId}{n:Nat}(h:dd tb t=some n)(w:World):(sizeOf t).run P w=.ok n w:=by
 unfold dd at h;cases hi:tb.ty.get t with
 |none=>simp_all
 |some i=>simp only[hi,Option.some.injEq]at h;simp[Go.sizeOf,ht.run_info hi,h]
theorem TabOk.run_agg{t:TypeId}{b:Bool}(h:jI tb t=some b)(w:World):(isAgg t).run P w=.ok b w:=by
 unfold jI at h;cases hi:tb.und t with
 |none=>simp_all
 |some d=>
  simp only[hi]at h;simp only[isAgg,Sem.run_bind,ht.run_und hi];cases d<;>simp at h<;>subst h<;>simp
theorem TabOk.run_zero{t:TypeId}{v:SV}(h:i7 tb t=some v)(ρ:Env)(w:World):(zeroValue t).run P w=.ok (v.den ρ) w:=by
 unfold i7 at h;cases hi:tb.ty.get t with
 |none=>simp_all
 |some i=>
  simp only[hi]at h;cases hz:i.zero with
  |none=>simp_all
  |some z=>
   simp only[hz]at h;simp[zeroValue,ht.run_info hi,hz,EZ ρ _ _ h]
theorem vF{t:TypeId}{cs:List SV}{off:Nat}{v:SV}(h:mW tb t cs off=some v)(ρ:Env)(w:World):
  (part t (SV.dens ρ cs).toArray off).run P w=.ok (v.den ρ) w:=by
 unfold mW at h;cases ha:jI tb t with
 |none=>simp_all
 |some b=>
  simp only[ha]at h;simp only[part,Sem.run_bind,ht.run_agg ha,Result.andThen_ok];cases b with
  |true=>
   cases hs:dd tb t with
   |none=>simp_all
   |some n=>
    simp only[hs]at h;cases hl:kZ (sa cs off) n with
    |none=>simp_all
    |some l=>
     simp only[hl,Option.some.injEq]at h;subst h
     obtain⟨h1,h2⟩:=qB _ _ _ hl
     rw[sb]at h1
     simp only[if_true,Sem.run_bind,ht.run_size hs];simp_all[SV.den,SV.dens_eq]
  |false=>
   simp_all[ee,SV.dens_eq]
theorem ZJ{f:TypeId->SV->SV->Option E}{d:Nat}{ρ:Env}{w:World}(hf:∀t x y e,f t x y=some e->(Op.equalIn d t (x.den ρ) (y.den ρ)).run P w=.ok (e.B ρ) w)
  {xs ys:List SV}:∀(fs:List Field)(e:E),yz f tb xs ys fs=some e->
  (forIn fs ((none,()):Option Bool×Unit) (fun fd (_:Option Bool×Unit)=>do
   if fd.name≠ "_" then
    let x <- part fd.type (SV.dens ρ xs).toArray fd.offset
    let y <- part fd.type (SV.dens ρ ys).toArray fd.offset
    let b <- Op.equalIn d fd.type x y
    if(!b)=true then pure (ForInStep.done (some false,()))else pure (ForInStep.yield (none,()))
   else pure (ForInStep.yield (none,()))):Sem (Option Bool×Unit)).run P w=.ok (if e.B ρ then none else some false,()) w
 |[],e,h=>by simp[yz]at h;subst h;simp
 |fd::fs,e,h=>by
  simp only[yz]at h;split at h
  ·cases h
  ·split at h
   ·rename_i x y hx hy;split at h
    ·rename_i a b ha hb;simp only[Option.some.injEq]at h;subst h;have ih:=ZJ hf fs b hb;have hn':fd.name≠ "_" :=by simp_all
     have h1:=vF ht hx ρ w;have h2:=vF ht hy ρ w;have h3:=hf _ _ _ _ ha
     rw[List.forIn_cons,Sem.run_bind,if_pos hn',Sem.run_bind,h1,Result.andThen_ok,Sem.run_bind,h2,Result.andThen_ok,Sem.run_bind,h3,Result.andThen_ok,EA]
     cases hab:a.B ρ with
     |false=>simp
     |true=>
      simp_all
    ·cases h
   ·cases h
theorem ZE{f:SV->SV->Option E}{d:Nat}{ρ:Env}{w:World}{elem n:Nat}(hf:∀x y e,f x y=some e->(Op.equalIn d elem (x.den ρ) (y.den ρ)).run P w=.ok (e.B ρ) w)
  {xs ys:List SV}:∀(k i:Nat)(e:E),yx f tb elem n xs ys k i=some e->
  (forIn (List.range' i k) ((none,()):Option Bool×Unit) (fun j (_:Option Bool×Unit)=>do
    let x <- part elem (SV.dens ρ xs).toArray (j*n)
    let y <- part elem (SV.dens ρ ys).toArray (j*n)
    let b <- Op.equalIn d elem x y
    if(!b)=true then pure (ForInStep.done (some false,()))else pure (ForInStep.yield (none,()))):Sem (Option Bool×Unit)).run P w=.ok (if e.B ρ then none else some false,()) w
 |0,i,e,h=>by simp[yx]at h;subst h;simp
 |k+1,i,e,h=>by
  simp only[yx]at h;split at h
  ·rename_i x y hx hy;split at h
   ·rename_i a b ha hb;simp only[Option.some.injEq]at h;subst h;have ih:=ZE hf k _ b hb;have h1:(part _ _ (i*n)).run P w=.ok _ w:=vF ht hx ρ w;have h2:(part _ _ (i*n)).run P w=.ok _ w:=vF ht hy ρ w;have h3:=hf _ _ _ ha
    rw[List.range'_succ,List.forIn_cons,Sem.run_bind,Sem.run_bind,h1,Result.andThen_ok,Sem.run_bind,h2,Result.andThen_ok,Sem.run_bind,h3,Result.andThen_ok,EA]
    cases hab:a.B ρ with
    |false=>simp
    |true=>
     simp_all
   ·cases h
  ·cases h
theorem ZK(ρ:Env)(w:World):∀(d:Nat)(t:TypeId)(x y:SV)(e:E),iR P tb d t x y=some e->
    ∀D,d<=D->(Op.equalIn D t (x.den ρ) (y.den ρ)).run P w= .ok (e.B ρ) w
  |0,_,_,_,_,h,_,_=>by simp[iR]at h
  |d+1,t,x,y,e,h,D,hD=>by
    obtain⟨D,rfl⟩:∃D',D=D'+1:=⟨D-1,by omega⟩
    have hd:d<=D:=by omega
    have ih:=fun t x y e h=>ZK ρ w d t x y e h D hd
    simp only[iR]at h;split at h;all_goals first | (cases h;done) | skip
    all_goals (rename_i hu)
    · -- bool
      have hr:=ht.run_und hu w;simp only[Op.equalIn,Sem.run_bind,hr,Result.andThen_ok,SV.den,Mg ρ h,Sem.run_pure]
    · have hr:=ht.run_und hu w;split at h
      · rename_i hk
        have:=gJ hk
        subst this;simp only[Option.some.injEq]at h;subst h;simp only[Op.equalIn,Sem.run_bind,hr,Result.andThen_ok,SV.den,if_true,Sem.run_pure,eM,cK]
      · cases h
    · have hr:=ht.run_und hu w;simp only[Option.some.injEq]at h;subst h;simp only[Op.equalIn,Sem.run_bind,hr,Result.andThen_ok,SV.den,Sem.run_pure,EE,ZL]
    all_goals first
      | (have hr:=ht.run_und hu w
         simp only[Option.some.injEq]at h;subst h;simp[Op.equalIn,Sem.run_bind,hr,Result.andThen_ok,SV.den];done)
      |skip
    · have hr:=ht.run_und hu w;split at h
      · cases h
      · rename_i hst;have hst':P.stoodInHeld t=false:=by simpa using hst
        simp only[Op.equalIn,Sem.run_bind,hr,Result.andThen_ok,SV.den];have hp:=ZJ (ρ:=ρ) (w:=w) ht (fun t x y e h=>ih t x y e h) _ _ h
        rw[run_program,Result.andThen_ok,if_neg (by simp[hst']),Sem.run_bind,<- Array.forIn_toList,hp,Result.andThen_ok]
        cases e.B ρ<;>simp
    · have hr:=ht.run_und hu w;split at h
      · rename_i n hn;have hsz:=ht.run_size hn w;have hp:=ZE (ρ:=ρ) (w:=w) ht (fun x y e h=>ih _ x y e h) _ _ _ h;simp only[Op.equalIn,Sem.run_bind,hr,Result.andThen_ok,SV.den,hsz]
        rw[Std.Legacy.Range.forIn_eq_forIn_range']
        simp only[Std.Legacy.Range.size,Nat.sub_zero,Nat.add_sub_cancel,Nat.div_one,hp,Result.andThen_ok];cases e.B ρ<;>simp
      · cases h
end
end Go.SX

namespace Go.SX
section
variable {P:Program} {tb:Tab} (ht:TabOk P tb)
theorem aC4(op:BinOp)(t:TypeId)(x y:Operand)(k k':IntKind)(a b:Int)(w:World):(eqGuard op t x y (.int k a) (.int k' b)).run P w=.ok () w:=by
 simp_all[eqGuard]
theorem aDZ{op:BinOp}{t:TypeId}{k k':IntKind}{a b:E}{v:SV}(h:kv P tb op t (.int k a) (.int k' b)=some v)(ρ:Env)(w:World):
  (binOp op t (.int k (a.I ρ)) (.int k' (b.I ρ))).run P w=.ok (v.den ρ) w:=by
 cases op;case shl | shr=>
  simp only[kv]at h;split at h
  ·rename_i n;simp only[Option.some.injEq]at h;subst h;have h0:¬((n:Int)<0):=by omega
   simp[binOp,Op.shift,SV.den,vj,mz,h0]
  ·cases h
 case add | sub | mul=>
  simp only[kv]at h;split at h
  ·rename_i hk;have:=gJ hk;subst this;simp only[Option.some.injEq]at h;subst h;simp[binOp,Op.intArith,SV.den,vj,mz]
  ·cases h
 case and | or | xor | andNot=>
  simp only[kv]at h;split at h
  ·rename_i hk;have:=gJ hk;subst this;simp only[Option.some.injEq]at h;subst h;simp[binOp,Op.intBits,SV.den,vj,mz]
  ·cases h
 case quo | rem=>
  simp only[kv]at h;split at h
  ·rename_i hk;simp only[Bool.and_eq_true]at hk
   have:=gJ hk.1;subst this
   simp only[Option.some.injEq]at h;subst h;have hb:b.I ρ≠0:=by
    have h2:=hk.2;unfold ac9 at h2;split at h2
    ·intro e;simp_all[ji]
    simp_all
   simp[binOp,Op.intDiv,SV.den,vj,mz,hb]
  ·cases h
 all_goals
  simp only[kv]at h;split at h
  ·rename_i hk;have:=gJ hk;subst this;simp only[Option.some.injEq]at h;subst h;simp[binOp,Op.intCmp,SV.den,eM,cK]
  ·cases h
include ht
theorem ZN{t:TypeId}{x y:SV}{e:E}(h:lM P tb t x y=some e)(ρ:Env)(w:World):(Op.equal t (x.den ρ) (y.den ρ)).run P w=.ok (e.B ρ) w:=by
 have h':iR P tb 40 t x y=some e:=by
  grind[lM]
 exact ZK ht ρ w 40 t x y e h' _ (by decide)
omit ht in
theorem aC5{t:TypeId}{d:Nat}{x y:SV}{e:E}(h:iR P tb d t x y=some e)(ρ:Env):x.den ρ≠.nilIface:=by
 cases d with
 |zero=>simp[iR]at h
 |succ d=>
  simp only[iR]at h;grind[SV.den]
omit ht in
theorem Dh(op:BinOp)(t:TypeId)(vx vy:Value)(hx:vx≠ .nilIface)(ha:∀cs,vx= .agg cs->P.eqGuardType P.depth t=false)(X Y:Operand)(w:World):
    (eqGuard op t X Y vx vy).run P w= .ok () w:=by
  cases vx<;>first
    |exact absurd rfl hx
    | (have h1:=ha _ rfl
       cases vy<;>cases op<;>simp[eqGuard,h1])
    |(cases vy<;>cases op<;>simp[eqGuard])
omit ht in
theorem ZF{op:BinOp}{t:TypeId}{x y:SV}{e:E}(h:lM P tb t x y=some e)(X Y:Operand)(ρ:Env)(w:World):
  (eqGuard op t X Y (x.den ρ) (y.den ρ)).run P w=.ok () w:=by
 refine Dh op t _ _ ?_ ?_ X Y w
 ·grind[lM,aC5]
 ·intro cs hA;unfold lM at h;have hagg:abf x=true:=by
   cases x;case bsl ks e=>exact absurd hA (by simp only[SV.den];unfold U.raw;grind)
   case nsl b ks e i c=>exact absurd hA (by simp only[SV.den];unfold U.raw;grind)
   all_goals (simp[SV.den,Go.undef]at hA<;>rfl)
  simp_all
omit ht in
theorem YI{t:TypeId}{d:Nat}{x y:SV}{e:E}(h:iR P tb d t x y=some e)(h1:¬∃k a k' b,x=.int k a/\y=.int k' b)(h2:¬∃a b,x=.str a/\y=.str b)(ρ:Env):
  binOp .eql t (x.den ρ) (y.den ρ)=(do pure (.bool (<- Op.equal t (x.den ρ) (y.den ρ))):Sem Value)/\
  binOp .neq t (x.den ρ) (y.den ρ)=(do pure (.bool (!(<- Op.equal t (x.den ρ) (y.den ρ)))):Sem Value):=by
 cases d with
 |zero=>simp[iR]at h
 |succ d=>
  simp only[iR]at h;split at h<;>first
   |(cases h;done)
   |exact absurd ⟨_,_,_,_,rfl,rfl⟩ h1
   |exact absurd ⟨_,_,rfl,rfl⟩ h2
   |(exact⟨rfl,rfl⟩)
theorem aBL{op:BinOp}{t:TypeId}{x y v:SV}(h:kv P tb op t x y=some v)(X Y:Operand)(ρ:Env)(w:World):
  (do eqGuard op t X Y (x.den ρ) (y.den ρ);binOp op t (x.den ρ) (y.den ρ):Sem Value).run P w=.ok (v.den ρ) w:=by
 by_cases h1:∃k a k' b,x=.int k a/\y=.int k' b
 ·grind[Sem.run_bind,SV.den,aC4,Result.andThen_ok,aDZ]
 by_cases h2:∃a b,x=.str a/\y=.str b
 ·obtain⟨a,b,rfl,rfl⟩:=h2
  cases op<;>simp only[kv,reduceCtorEq,Option.some.injEq]at h<;>subst h <;>
   simp[SV.den,EE,iA,aC6]<;>rfl
 have hb:(op=.eql/\∃e,lM P tb t x y=some e/\v=.bool e)\/(op=.neq/\∃e,lM P tb t x y=some e/\v=.bool (bm e)):=by
  unfold kv at h;grind
 have hd:∀e,lM P tb t x y=some e->iR P tb 40 t x y=some e:=by
  grind[lM]
 rcases hb with⟨rfl,e,he,rfl⟩|⟨rfl,e,he,rfl⟩
 ·rw[Sem.run_bind,ZF he X Y ρ w,Result.andThen_ok,(YI (hd e he) h1 h2 ρ).1,Sem.run_bind,ZN ht he ρ w,Result.andThen_ok]
  rfl
 ·rw[Sem.run_bind,ZF he X Y ρ w,Result.andThen_ok,(YI (hd e he) h1 h2 ρ).2,Sem.run_bind,ZN ht he ρ w,Result.andThen_ok]
  simp[SV.den,iA]
end
end Go.SX

namespace Go.SX
section
variable {P:Program} {tb:Tab} (ht:TabOk P tb)
theorem aJS{op:UnOp}{x v:SV}(h:GA op x=some v)(ρ:Env)(w:World):(Op.unary op (x.den ρ)).run P w=.ok (v.den ρ) w:=by
 unfold GA at h;split at h
 ·simp only[Option.some.injEq]at h;subst h;simp[Op.unary,SV.den,Op.intArith,vj,mz]
 ·simp only[Option.some.injEq]at h;subst h;rename_i k a;have hb:(if k.signed=true then -1 else k.max)=(match k.signed with | true=>-1 | false=>k.max):=by grind
  simp only[Op.unary,SV.den,vj,hb];rfl
 ·simp only[Option.some.injEq]at h;subst h;simp[Op.unary,SV.den,iA]
 ·cases h
include ht
theorem aCD{s d:TypeId}{x v:SV}(h:CZ tb s d x=some v)(ρ:Env)(w:World):(convert s d (x.den ρ)).run P w=.ok (v.den ρ) w:=by
 unfold CZ at h;split at h
 ·rename_i h1 h2;simp only[Option.some.injEq]at h;subst h;simp only[convert,Sem.run_bind,ht.run_und h1,ht.run_und h2,SV.den];simp[Conv.intToInt,aEN]
 ·rename_i h1 h2;simp only[Option.some.injEq]at h;subst h;simp only[convert,Sem.run_bind,ht.run_und h1,ht.run_und h2,SV.den];simp
 ·cases h
omit ht in
theorem F6{t:TypeId}{fs:List Field}(h:F5 tb t=some fs):∃a:Array Field,fs=a.toList/\tb.und t=some (.struct a):=by
 grind[F5]
omit ht in
theorem xP(o:Off)(n:Nat)(ρ:Env):(rN o n).den ρ=o.den ρ+n:=by
 grind[rN,Off.den]
omit ht in
theorem gG(b o n:Nat):(⟨b,o,none⟩:Addr).add n=⟨b,o+n,none⟩:=by
 simp_all[Addr.add]
omit ht in
theorem CN{ρ:Env}{ks:List CK}{e i:E}{j:Nat}(h:(SV.bptr ks e i j).ok ρ):∃(r off len cap:Nat) (l:List U) (arr:Array Value) (elem:TypeId) (fr:Nat×Nat),
  e.den ρ=.bx (some ⟨r,off,none⟩) len cap l/\l.length=len*ks.length/\len<=cap/\ρ.fz r=some (.cells arr elem fr)/\
  (∀(i:Nat)(u:U),l[i]?=some u->∃c,ks[i%ks.length]?=some c/\arr[off+i]?=some (c.val u))/\
  (∀(i:Nat)(u:U)(ks':List CK),l[i]?=some u->ks[i%ks.length]?=some (.slc ks')->SlOk ρ.fz ks' u)/\
  0<=i.I ρ/\((i.I ρ).toNat+1)*ks.length<=l.length/\0<ks.length:=by
 obtain⟨h1,h2,h3,h4⟩:SlOk ρ.fz ks (e.den ρ)/\0<=i.I ρ/\((i.I ρ).toNat+1)*ks.length<=(e.L ρ).length/\0<ks.length:=h
 have hL:e.L ρ=(e.den ρ).toL:=rfl
 rw[hL]at h3
 have hpos:ks.length<=((i.I ρ).toNat+1)*ks.length:=Nat.le_mul_of_pos_left _ (Nat.succ_pos _);generalize hd:e.den ρ=u at h1 h3;cases h1 with
 |nil=>simp_all[U.toL]
 |empty=>simp_all[U.toL]
 |mk a b c d f=>
  rename_i r off len cap l arr elem fr;have hne:l≠[]:=by
   rintro rfl
   grind[U.toL]
  exact⟨_,_,_,_,_,_,_,_,rfl,a,b,c hne,d,f,h2,h3,h4⟩
omit ht in
theorem x8{ρ:Env}{ks:List CK}{e i:E}{j:Nat}{r off len cap:Nat}{l:List U}(h:e.den ρ=.bx (some ⟨r,off,none⟩) len cap l):
  (SV.bptr ks e i j).den ρ=.pointer (some ⟨r,off+((i.I ρ).toNat*ks.length+j),none⟩):=by
 simp_all[SV.den,CU,U.adr]
omit ht in
theorem vr{ρ:Env}{b:Nat}{ks:List CK}{e i:E}{c:Nat}{x:E}{j:Nat}{r len cap:Nat}{l:List U}(h:e.den ρ=.bx (some ⟨r,0,none⟩) len cap l):
  (SV.nptr b ks e i c x j).den ρ=.pointer (some ⟨r,(x.I ρ).toNat*ks.length+j,none⟩):=by
 simp_all[SV.den,CU,U.adr]
theorem aDg{s:TypeId}{x v:SV}{f:Nat}(h:Dq tb s x f=some v)(ρ:Env)(hok:x.ok ρ)(w:World):(Instr.fieldAt s (x.den ρ) f).run P w=.ok (v.den ρ) w:=by
 unfold Dq at h;split at h
 ·rename_i fs b o hf
  obtain⟨a,rfl,ha⟩:=F6 hf
  split at h
  ·rename_i fd hfd
   rw[ee]at hfd
   split at h
   ·rename_i n hn;split at h
    ·cases h
    ·rename_i hz;simp only[Option.some.injEq]at h;subst h;have hn0:=fun e=>hz (mB e)
     have hfd':a[f]?=some fd:=by simp_all
     simp only[Instr.fieldAt,Sem.run_bind,ht.run_und ha,Result.andThen_ok,hfd',SV.den,Instr.sureAddr,Sem.run_pure,fieldPlace,ht.run_size hn,if_neg hn0,gG,xP,Nat.add_assoc]
   ·cases h
  ·cases h
 ·rename_i fs ks e i j hf
  obtain⟨a,rfl,ha⟩:=F6 hf
  split at h
  ·rename_i fd hfd
   rw[ee]at hfd
   split at h
   ·rename_i n hn;split at h
    ·cases h
    ·rename_i hz;simp only[Option.some.injEq]at h;subst h;have hn0:=fun e=>hz (mB e)
     have hfd':a[f]?=some fd:=by simp_all
     obtain⟨r,off,len,cap,l,arr,elem,fr,he,_⟩:=CN hok
     rw[x8 he,x8 he]
     simp only[Instr.fieldAt,Sem.run_bind,ht.run_und ha,Result.andThen_ok,hfd',Instr.sureAddr,Sem.run_pure,fieldPlace,ht.run_size hn,if_neg hn0,gG,Nat.add_eq,Nat.add_assoc]
   ·cases h
  ·cases h
 ·rename_i fs b ks e i c x j hf
  obtain⟨a,rfl,ha⟩:=F6 hf
  split at h
  ·rename_i fd hfd
   rw[ee]at hfd
   split at h
   ·rename_i n hn;split at h
    ·cases h
    ·rename_i hz;simp only[Option.some.injEq]at h;subst h;have hn0:=fun e=>hz (mB e)
     have hfd':a[f]?=some fd:=by simp_all
     obtain⟨_,_,r,len,cap,l,he,_⟩:=hok
     rw[vr he,vr he]
     simp only[Instr.fieldAt,Sem.run_bind,ht.run_und ha,Result.andThen_ok,hfd',Instr.sureAddr,Sem.run_pure,fieldPlace,ht.run_size hn,if_neg hn0,gG,Nat.add_eq,Nat.add_assoc]
   ·cases h
  ·cases h
 ·cases h
theorem aDh{s:TypeId}{x v:SV}{f:Nat}(h:Dr tb s x f=some v)(ρ:Env)(w:World):(Instr.field s (x.den ρ) f).run P w=.ok (v.den ρ) w:=by
 unfold Dr at h;split at h
 ·rename_i fs cs hf
  obtain⟨a,rfl,ha⟩:=F6 hf
  split at h
  ·rename_i fd hfd
   rw[ee]at hfd
   simp only[Instr.field,Sem.run_bind,ht.run_und ha,Result.andThen_ok,SV.den,asAgg,Sem.run_pure];grind[vF]
  ·cases h
 ·cases h
omit ht in
theorem eA{a b:Nat}:Nat.blt a b=true↔a<b:=by
 simp_all
theorem Lq{t:TypeId}{x i v:SV}(h:pR tb t x i=some v)(ρ:Env)(w:World):(Instr.indexAt t (x.den ρ) (i.den ρ)).run P w=.ok (v.den ρ) w:=by
 unfold pR at h;split at h
 ·rename_i k n;split at h
  ·rename_i len elem b o hu;split at h
   ·split at h
    ·rename_i sz hsz;simp only[Option.some.injEq]at h;subst h;simp only[Instr.indexAt,Sem.run_bind,ht.run_und hu,Result.andThen_ok,SV.den,asIntOf,Sem.run_pure,Instr.sureAddr,E.I_int];have hc:0<=Int.ofNat n/\Int.ofNat n<len:=by
      simp_all
     split<;>(simp only[Sem.run_bind,ht.run_size hsz];simp[gG,xP])
    ·cases h
   ·cases h
  ·rename_i elem b o l c hu;split at h
   ·split at h
    ·rename_i sz hsz;simp only[Option.some.injEq]at h;subst h;simp only[Instr.indexAt,Sem.run_bind,ht.run_und hu,Result.andThen_ok,SV.den,asIntOf,Sem.run_pure,E.I_int];have hl:(Int.ofNat l).toNat=l:=rfl;have hc:0<=Int.ofNat n/\Int.ofNat n<l:=by
      simp_all
     rw[hl]
     split<;>(simp only[Sem.run_bind,ht.run_size hsz];simp[gG,xP])
    ·cases h
   ·cases h
  ·cases h
 ·cases h
theorem aa9{t:TypeId}{x i v:SV}(h:uR tb t x i=some v)(ρ:Env)(w:World):(Instr.index t (x.den ρ) (i.den ρ)).run P w=.ok (v.den ρ) w:=by
 unfold uR at h;split at h
 ·rename_i k n;split at h
  ·rename_i len elem cs hu;split at h
   ·split at h
    ·rename_i sz hsz;have hc:0<=Int.ofNat n/\Int.ofNat n<len:=by
      simp_all
     simp only[Instr.index,Sem.run_bind,ht.run_und hu,Result.andThen_ok,SV.den,asIntOf,Sem.run_pure,E.I_int,ht.run_size hsz,if_pos hc];grind[vF]
    ·cases h
   ·cases h
  ·rename_i s hu;split at h
   ·rename_i b hb;simp only[Option.some.injEq]at h;subst h;have hc:0<=Int.ofNat n:=by simp
    have hb':s[(Int.ofNat n).toNat]?=some b:=hb;simp only[Instr.index,Sem.run_bind,ht.run_und hu,Result.andThen_ok,SV.den,asIntOf,Sem.run_pure,E.I_int,E.S_str,if_pos hc,hb']
   ·cases h
  ·cases h
 ·cases h
omit ht in
theorem aDc{x v:SV}{i:Nat}(h:Dm x i=some v)(ρ:Env)(w:World):(Instr.extract (x.den ρ) i).run P w=.ok (v.den ρ) w:=by
 unfold Dm at h;split at h;all_goals simp_all[ee,Instr.extract,SV.den,SV.dens_eq]
omit ht in
theorem aet:∀(vs:List Value)(cs:Array Value)(off k:Nat),off+k+vs.length<=cs.size->
  ((vs.zipIdx k).foldl (fun(cs:Array Value) (x:Value×Nat)=>cs.setIfInBounds (off+x.2) x.1) cs).toList=cs.toList.take (off+k)++vs++cs.toList.drop (off+k+vs.length)
 |[],cs,off,k,h=>by simp
 |v::vs,cs,off,k,h=>by
  simp only[List.zipIdx_cons,List.foldl_cons,List.length_cons]at h ⊢
  rw[aet vs _ off (k+1) (by grind)]
  have hk:off+k<cs.size:=by omega
  simp only[Array.toList_setIfInBounds];have e1:off+(k+1)=off+k+1:=by omega
  rw[e1]
  apply List.ext_getElem?;intro j;have hlen:cs.toList.length=cs.size:=by simp
  rcases Nat.lt_trichotomy j (off+k)with hj|hj|hj
  ·grind[List.getElem?_append_left,List.getElem?_take_of_lt,List.getElem?_set_ne]
  ·subst hj
   rw[List.getElem?_append_left (by grind),List.getElem?_append_left (by grind),List.getElem?_append_left (by grind),List.getElem?_append_right (by grind)]
   rw[List.getElem?_take_of_lt (by omega)]
   grind
  ·by_cases hj2:j<off+k+1+vs.length
   ·rw[List.getElem?_append_left (by grind),List.getElem?_append_right (by grind),List.getElem?_append_left (by grind),List.getElem?_append_right (by grind)]
    grind
   ·rw[List.getElem?_append_right (by simp;omega),List.getElem?_append_right (by simp;omega)]
    simp only[List.length_append,List.length_take,List.length_set,hlen,List.length_cons,List.getElem?_drop];grind
omit ht in
theorem Ds(ρ:Env)(place:Nat->Option (Nat×Nat)):∀(parts:List (Nat×SV))(cells r:List SV),mI place cells parts=some r->
  Instr.fill place (SV.dens ρ cells).toArray (parts.map fun x=>(x.1,x.2.den ρ))=some (SV.dens ρ r).toArray
 |[],cells,r,h=>by simp_all[mI,Instr.fill]
 |(i,v)::bU,cells,r,h=>by
  simp only[mI]at h;split at h
  ·cases h
  ·rename_i off size hp;split at h
   ·split at h
    ·rename_i cs hcs
     obtain⟨h1,h2⟩:=zH _ _ _ _ hcs
     simp only[List.map_cons,Instr.fill,hp];have hsz:(v.den ρ).cells.size=size:=by simp_all[SV.cells_size]
     have hle:¬(off+(v.den ρ).cells.size>(SV.dens ρ cells).toArray.size):=by
      simp_all[SV.dens_eq]
     have hcond:(decide ((v.den ρ).cells.size≠size)||decide (off+(v.den ρ).cells.size>(SV.dens ρ cells).toArray.size))=false:=by
      simp_all
     simp only[hcond];have hfold:(v.den ρ).cells.zipIdx.foldl (fun cs x=>cs.setIfInBounds (off+x.2) x.1) (SV.dens ρ cells).toArray=(SV.dens ρ cs).toArray:=by
      apply Array.ext'
      rw[<- Array.foldl_toList,Array.toList_zipIdx,aet _ _ _ _ (by simp_all),SV.cells_den,h1]
      simp[SV.dens_eq]
     have hfold':=hfold
     rw[hfold']
     exact Ds ρ _ _ cs r h
    ·cases h
   ·cases h
theorem adO(w:World):∀(fs:List Field)(ps:List (Nat×Nat)),zN tb fs=some ps->
  ((fs.mapM fun f=>do pure (f.offset,<- sizeOf f.type):Sem (List (Nat×Nat)))).run P w=.ok ps w
 |[],ps,h=>by simp_all[zN]
 |f::fs,ps,h=>by
  simp only[zN]at h;split at h
  ·rename_i n l hn hl;have ih:=adO w fs l hl;have h1:=ht.run_size hn w;simp_all
  ·cases h
theorem aCc{t:TypeId}{parts:List (Nat×SV)}{v:SV}(h:x9 tb t parts=some v)(ρ:Env)(w:World):
  (Instr.build t (parts.map fun x=>(x.1,x.2.den ρ)).toArray).run P w=.ok (v.den ρ) w:=by
 unfold x9 at h;split at h
 ·rename_i z hz;have hz1:=ht.run_zero hz ρ w;have hzc:(z.den ρ).cells=(SV.dens ρ z.cells).toArray:=by
   grind[SV.cells_den,SV.dens_eq]
  split at h
  ·rename_i fs hu;split at h
   ·rename_i ps hps;split at h
    ·rename_i cs hcs;simp only[Option.some.injEq]at h;subst h;have hp:=adO ht w _ _ hps;have hf:=Ds ρ _ _ _ _ hcs;have hpa:((fs.mapM fun f=>do pure (f.offset,<- sizeOf f.type):Sem _)).run P w=.ok ps.toArray w:=by
      simp_all[Array.mapM_eq_mapM_toList]
     have hg:(fun i=>ps.toArray[i]?)=d9 ps:=by grind[ee]
     simp only[Instr.build,Sem.run_bind,ht.run_und hu];simp_all[SV.den]
    ·cases h
   ·cases h
  ·rename_i n elem hu;split at h
   ·rename_i sz hsz;split at h
    ·rename_i cs hcs;simp only[Option.some.injEq]at h;subst h;have hf:=Ds ρ _ _ _ _ hcs;simp only[Instr.build,Sem.run_bind,ht.run_und hu,Result.andThen_ok,ht.run_size hsz];simp_all[SV.den]
    ·cases h
   ·cases h
  ·cases h
 ·cases h
omit ht in
theorem iz{e:E}{n:Nat}(h:fK e=some n):e=.int (.ofNat n):=by
 unfold fK at h;split at h;all_goals simp_all
theorem aEf{t:TypeId}{x v:SV}(h:Ej tb t x=some v)(ty:TypeId)(ρ:Env)(w:World)(bU:List TypeId)(rv:List Value):
  (Builtin.len_ (t::bU).toArray ty (x.den ρ::rv).toArray).run P w=.ok (v.den ρ) w:=by
 unfold Ej at h;split at h
 ·rename_i s hu;simp only[Option.some.injEq]at h;subst h;simp[Builtin.len_,ht.run_und hu,SV.den,goInt]
 ·rename_i n _ hu;simp only[Option.some.injEq]at h;subst h;simp only[Builtin.len_,List.getElem?_toArray,List.getElem?_cons_zero,Sem.run_bind,ht.run_und hu,Result.andThen_ok];rfl
 ·rename_i _ hu;simp only[Option.some.injEq]at h;subst h;simp[Builtin.len_,ht.run_und hu,SV.den,goInt]
 ·rename_i _ b o l c hu;split at h
  ·rename_i n hn;simp only[Option.some.injEq]at h;subst h
   rw[iz hn]
   simp[Builtin.len_,ht.run_und hu,SV.den,goInt]
  ·cases h
 ·rename_i _ _ hu;simp only[Option.some.injEq]at h;subst h;simp[Builtin.len_,ht.run_und hu,SV.den,goInt]
 ·cases h
theorem aCj{t:TypeId}{x v:SV}(h:CT tb t x=some v)(ty:TypeId)(ρ:Env)(w:World)(bU:List TypeId)(rv:List Value):
  (Builtin.cap_ (t::bU).toArray ty (x.den ρ::rv).toArray).run P w=.ok (v.den ρ) w:=by
 unfold CT at h;split at h
 ·rename_i n _ hu;simp only[Option.some.injEq]at h;subst h;simp only[Builtin.cap_,List.getElem?_toArray,List.getElem?_cons_zero,Sem.run_bind,ht.run_und hu];rfl
 ·rename_i _ hu;simp only[Option.some.injEq]at h;subst h;simp[Builtin.cap_,ht.run_und hu,SV.den,goInt]
 ·rename_i _ b o l c hu;split at h
  ·rename_i n hn;simp only[Option.some.injEq]at h;subst h
   rw[iz hn]
   simp[Builtin.cap_,ht.run_und hu,SV.den,goInt]
  ·cases h
 ·cases h
omit ht in
theorem abT{mx:Bool}{k:IntKind}(ρ:Env)(w:World):∀(vs:List SV)(a:E)(v:SV),qc mx k vs a=some v->
  ((if mx then(SV.dens ρ vs).foldlM Builtin.max2 (.int k (a.I ρ))else(SV.dens ρ vs).foldlM Builtin.min2 (.int k (a.I ρ))):Sem Value).run P w=.ok (v.den ρ) w
 |[],a,v,h=>by
  simp only[qc,Option.some.injEq]at h;subst h;simp_all[SV.dens,SV.den]
 |x::vs,a,v,h=>by
  unfold qc at h;split at h
  ·split at h
   ·have ih:=abT ρ w vs _ v h;cases mx
    ·simp only[aEH]at ih ⊢;exact ih
    ·simp only[aEJ]at ih ⊢;exact ih
   ·cases h
  ·cases h
omit ht in
theorem abV{mx:Bool}{vs:List SV}{v:SV}(h:vi mx vs=some v)(a:Array TypeId)(ty:TypeId)(ρ:Env)(w:World):
  ((if mx then Builtin.max_ a ty (SV.dens ρ vs).toArray else Builtin.min_ a ty (SV.dens ρ vs).toArray):Sem Value).run P w=.ok (v.den ρ) w:=by
 unfold vi at h;grind[abT,Builtin.min_,Builtin.max_,SV.dens,SV.den]
def fJ(ρ:Env):Option SV->Option Value
 |none=>none
 |some v=>some (v.den ρ)
omit ht in
theorem pB{x:Option SV}{d y n:Nat}(h:ur x d y=some n)(ρ:Env)(w:World)(code:BoundsCode):
  (x=none/\n=d)\/(∃v,x=some v/\n<=y/\(Instr.sliceBound (v.den ρ) y code).run P w=.ok n w):=by
 unfold ur at h;split at h
 ·simp_all
 ·rename_i k m;split at h
  ·rename_i hle;simp only[Option.some.injEq]at h;subst h
   rw[Nat.ble_eq]at hle
   refine .inr ⟨_,rfl,hle,?_⟩;have hc:0<=Int.ofNat m/\Int.ofNat m<=y:=by simp_all
   simp only[Instr.sliceBound,SV.den,Sem.run_bind,asIntOf,Sem.run_pure,Result.andThen_ok,E.I_int,if_pos hc];rfl
  ·cases h
 ·cases h
omit ht in
theorem J6{len cap:Nat}{lo hi mx:Option SV}{l h m:Nat}(hb:x7 len cap lo hi mx=some (l,h,m))(isSlice:Bool)(ρ:Env)(w:World):
  (Instr.sliceBounds isSlice len cap (fJ ρ lo) (fJ ρ hi) (fJ ρ mx)).run P w=.ok (l,h,m) w/\h<=m/\m<=cap/\(lo=none->l=0)/\(∀v,lo=some v->l<=h):=by
 unfold x7 at hb;split at hb
 ·cases hb
 ·split at hb
  ·rename_i m' hm;split at hb
   ·rename_i h' hh;split at hb
    ·rename_i l' hl;split at hb
     ·rename_i hle
      obtain⟨rfl,rfl,rfl⟩:=hb
      rw[Nat.ble_eq]at hle
      refine⟨?_,hle,?_,?_,?_⟩
      ·unfold Instr.sliceBounds;rcases pB (P:=P) hm ρ w (if isSlice then .slice3Acap else .slice3Alen)with⟨rfl,rfl⟩|⟨vm,rfl,_,hm2⟩
       ·rcases pB (P:=P) hh ρ w (if isSlice then .sliceAcap else .sliceAlen)with⟨rfl,rfl⟩|⟨vh,rfl,_,hh2⟩
        ·rcases pB (P:=P) hl ρ w .sliceB with⟨rfl,rfl⟩|⟨vl,rfl,_,hl2⟩
         all_goals simp_all[fJ]
        ·rcases pB (P:=P) hl ρ w .sliceB with⟨rfl,rfl⟩|⟨vl,rfl,_,hl2⟩
         all_goals simp_all[fJ]
       ·rcases pB (P:=P) hh ρ w .slice3B with⟨rfl,rfl⟩|⟨vh,rfl,_,hh2⟩
        ·simp_all
        ·rcases pB (P:=P) hl ρ w .slice3C with⟨rfl,rfl⟩|⟨vl,rfl,_,hl2⟩
         all_goals simp_all[fJ]
      ·rcases pB (P:=P) hm ρ w .sliceB with⟨_,h0⟩|⟨_,_,h1,_⟩
       all_goals omega
      ·rintro rfl
       simp_all[ur]
      ·rcases pB (P:=P) hl ρ w .sliceB with⟨h0,_⟩|⟨vl,h0,h1,_⟩
       all_goals omega
     simp_all
    simp_all
   simp_all
  simp_all
omit ht in
theorem aeF(o:Off)(m l sz:Nat)(ρ:Env)(b z:Nat):
  (⟨b,z+(Fq o m l sz).den ρ,none⟩:Addr)=if m=l then⟨b,z+o.den ρ,none⟩ else(⟨b,z+o.den ρ,none⟩:Addr).add (l*sz):=by
 unfold Fq;by_cases h:m=l
 ·simp_all
 ·have:Nat.beq m l=false:=by
   grind[Nat.eq_of_beq_eq_true]
  simp_all[gG,xP,Nat.add_assoc]
theorem aF3{t:TypeId}{x v:SV}{lo hi mx:Option SV}(h:FU tb t x lo hi mx=some v)(ρ:Env)(w:World):
  (Instr.sliceAt t (x.den ρ) (fJ ρ lo) (fJ ρ hi) (fJ ρ mx)).run P w=.ok (v.den ρ) w:=by
 unfold FU at h;split at h
 ·rename_i elem b o len cap hu;split at h
  ·rename_i l hh m sz hb hsz;simp only[Option.some.injEq]at h;subst h;have hb':=(J6 (P:=P) hb true ρ w).1;simp only[Instr.sliceAt,Instr.slice,Sem.run_bind,ht.run_und hu,Result.andThen_ok,SV.den,E.I_int];have e1:(Int.ofNat _).toNat=len:=rfl;have e2:(Int.ofNat _).toNat=cap:=rfl
   rw[e1,e2]
   simp only[hb',Result.andThen_ok,ht.run_size hsz,Sem.run_pure,aeF];grind
  ·cases h
 ·rename_i elem hu;split at h
  ·rename_i q sz hb hsz
   obtain⟨l,hh,m⟩:=q
   simp only[Option.some.injEq]at h;subst h
   obtain⟨hb1,hb2,hb3,hb4,hb5⟩:=(J6 (P:=P) hb true ρ w)
   have hm0:m=0:=by omega
   have hh0:hh=0:=by omega
   have hl0:l=0:=by
    cases lo with
    |none=>simp_all
    |some v=>simp_all
   subst hm0 hh0 hl0;simp only[Instr.sliceAt,Instr.slice,Sem.run_bind,ht.run_und hu,Result.andThen_ok,SV.den,hb1];simp only[ht.run_size hsz,Result.andThen_ok,Sem.run_pure,if_true]
  ·cases h
 ·rename_i n elem b o hu;split at h
  ·rename_i l hh m sz hb hsz;simp only[Option.some.injEq]at h;subst h;have hb':=(J6 (P:=P) hb false ρ w).1;simp only[Instr.sliceAt,Sem.run_bind,ht.run_und hu,Result.andThen_ok,SV.den,Instr.sureAddr,Sem.run_pure,hb',ht.run_size hsz,aeF];rfl
  ·cases h
 ·cases h
end
end Go.SX

namespace Go.SX
section
variable {P:Program} {tb:Tab} (ht:TabOk P tb)
def Hk(ρ:Env)(ev:Operand->Option SV)(f:Operand->Value):Prop:=∀x v,ev x=some v->f x=v.den ρ
def wF(ρ:Env)(ev:Operand->Option SV):Prop:=∀x v,ev x=some v->v.ok ρ
section
variable {ρ:Env} {ev:Operand->Option SV} {f:Operand->Value} (hev:Hk ρ ev f)
include hev
theorem od:∀(xs:List Operand)(vs:List SV),jG ev xs=some vs->xs.map f=SV.dens ρ vs
 |[],vs,h=>by simp[jG]at h;subst h;rfl
 |x::xs,vs,h=>by
  simp only[jG]at h;split at h
  ·rename_i v l hv hl;simp only[Option.some.injEq]at h;subst h;simp[SV.dens,hev _ _ hv,od xs l hl]
  ·cases h
theorem KD:∀(xs:List (Nat×Operand))(vs:List (Nat×SV)),og ev xs=some vs->xs.map (fun x=>(x.1,f x.2))=vs.map fun x=>(x.1,x.2.den ρ)
 |[],vs,h=>by simp_all[og]
 |(i,x)::xs,vs,h=>by
  simp only[og]at h;split at h
  ·rename_i v l hv hl;simp only[Option.some.injEq]at h;subst h;simp[hev _ _ hv,KD xs l hl]
  ·cases h
theorem oe{x:Option Operand}{v:Option SV}(h:pH ev x=some v):x.map f=fJ ρ v:=by
 unfold pH at h;split at h
 ·simp only[Option.some.injEq]at h;subst h;rfl
 ·split at h
  ·rename_i y w hw;simp only[Option.some.injEq]at h;subst h;simp[fJ,hev _ _ hw]
  ·cases h
end
theorem eE{s:Sem Value}{v:Value}{w w':World}(h:s.run P w=.ok v w'):(do pure (Next.value (<- s)):Sem Next).run P w=.ok (.value v) w':=by
 simp_all
include ht
theorem Fy{ρ:Env}{ev:Operand->Option SV}{f:Operand->Value}(hev:Hk ρ ev f)(hwf:wF ρ ev){o:Oper}{v:SV}(h:s6 P tb ev o.op=some v)(w:World):
  (execOp f o).run P w=.ok (.value (v.den ρ)) w:=by
 rw[adW]at h;unfold Fk Fj E7 Fm Fb Fe Fd Fh Ff Fc E8 Fi Fl E9 at h
 split at h;all_goals (rename_i ho)
 ·simp only[execOp,ho,Sem.run_pure,hev _ _ h]
 ·simp only[execOp,ho,Sem.run_pure,hev _ _ h]
 ·-- pick
  split at h
  ·rename_i hc;simp[execOp,ho,hev _ _ hc,SV.den,asBool,hev _ _ h]
  ·rename_i hc;simp[execOp,ho,hev _ _ hc,SV.den,asBool,hev _ _ h]
  ·cases h
 ·-- nilCheck
  split at h
  ·rename_i b off hx;simp only[Option.some.injEq]at h;subst h;simp[execOp,ho,hev _ _ hx,SV.den]
  ·rename_i ks e i j hx;simp only[Option.some.injEq]at h;subst h
   obtain⟨r,off,len,cap,l,arr,elem,fr,he,_⟩:=CN (hwf _ _ hx)
   simp only[execOp,ho,hev _ _ hx,x8 he,Sem.run_pure]
  ·rename_i b ks e i c x j hx;simp only[Option.some.injEq]at h;subst h
   obtain⟨_,_,r,len,cap,l,he,_⟩:=hwf _ _ hx
   simp only[execOp,ho,hev _ _ hx,vr he,Sem.run_pure]
  ·cases h
 ·-- binOp
  split at h
  ·rename_i vx vy hx hy;simp only[execOp,ho,hev _ _ hx,hev _ _ hy];grind[eE,aBL]
  ·cases h
 ·split at h
  ·rename_i vx hx;simp only[execOp,ho,hev _ _ hx];simp_all[eE,aJS]
  ·cases h
 ·split at h
  ·rename_i vx hx;simp only[execOp,ho,hev _ _ hx];grind[eE,aCD]
  ·cases h
 ·split at h
  ·rename_i vx hx;simp only[execOp,ho,hev _ _ hx];exact eE (aDg ht h ρ (hwf _ _ hx) w)
  ·cases h
 ·split at h
  ·rename_i vx hx;simp only[execOp,ho,hev _ _ hx];grind[eE,aDh]
  ·cases h
 ·split at h
  ·rename_i vx vy hx hy;simp only[execOp,ho,hev _ _ hx,hev _ _ hy];grind[eE,Lq]
  ·cases h
 ·split at h
  ·rename_i vx vy hx hy;simp only[execOp,ho,hev _ _ hx,hev _ _ hy];grind[eE,aa9]
  ·cases h
 ·split at h
  ·rename_i vx hx;simp only[execOp,ho,hev _ _ hx];simp_all[eE,aDc]
  ·cases h
 ·-- build
  rename_i t parts;split at h
  ·rename_i ps hps;have hp:=KD hev _ _ hps;simp only[execOp,ho];have e:(parts.map fun x=>(x.1,f x.2))=(ps.map fun x=>(x.1,x.2.den ρ)).toArray:=by
    grind
   grind[eE,aCc]
  ·cases h
 ·-- makeFunc
  rename_i fn fi ca;split at h
  ·rename_i a b ha hb;simp only[Option.some.injEq]at h;subst h;have h1:=od hev _ _ ha;have h2:=od hev _ _ hb;simp only[execOp,ho];have e1:fi.map f=(SV.dens ρ a).toArray:=by grind
   have e2:ca.map f=(SV.dens ρ b).toArray:=by grind
   simp_all[eE,Instr.makeFunc,SV.den]
  ·cases h
 ·-- slice
  split at h
  ·rename_i v1 v2 v3 v4 h1 h2 h3 h4;simp only[execOp,ho,hev _ _ h1,oe hev h2,oe hev h3,oe hev h4];grind[eE,aF3]
  ·cases h
 ·-- call
  rename_i c;split at h
  ·rename_i b hb;split at h
   ·rename_i vs hvs;have h1:=od hev _ _ hvs;have e1:c.args.map f=(SV.dens ρ vs).toArray:=by grind
    have hx:∀(s:Sem Next),builtin b c.argTypes o.type (c.args.map fun | .const _=>true | _=>false) (c.args.map f)=s->s.run P w=.ok (.value (v.den ρ)) w->
      (execOp f o).run P w=.ok (.value (v.den ρ)) w:=by
     grind[execOp,resolve,Sem.run_bind,Sem.run_pure,Result.andThen_ok,invoke]
    split at h
    ·-- len
     split at h
     ·rename_i t x ht' hx'
      rw[ee]at ht' hx'
      refine hx _ rfl (eE ?_)
      rw[e1]
      cases ha:c.argTypes with
      |mk l=>
       rw[ha]at ht'
       cases l with
       |nil=>simp_all
       |cons t' l=>
        simp at ht';subst ht';cases vs with
        |nil=>simp_all
        |cons x' vs=>simp at hx';subst hx';exact aEf ht h _ ρ w _ _
     ·cases h
    ·split at h
     ·rename_i t x ht' hx'
      rw[ee]at ht' hx'
      refine hx _ rfl (eE ?_)
      rw[e1]
      cases ha:c.argTypes with
      |mk l=>
       rw[ha]at ht'
       cases l with
       |nil=>simp_all
       |cons t' l=>
        simp at ht';subst ht';cases vs with
        |nil=>simp_all
        |cons x' vs=>simp at hx';subst hx';exact aCj ht h _ ρ w _ _
     ·cases h
    ·refine hx _ rfl (eE ?_)
     rw[e1]
     exact abV (mx:=false) h c.argTypes o.type ρ w
    ·refine hx _ rfl (eE ?_)
     rw[e1]
     exact abV (mx:=true) h c.argTypes o.type ρ w
    ·cases h
   ·cases h
  ·cases h
 ·cases h
omit ht in
theorem SV.oks_iff{ρ:Env}:∀(l:List SV),SV.oks ρ l↔∀v∈l,v.ok ρ
 |[]=>by simp[SV.oks]
 |v::vs=>by simp[SV.oks,SV.oks_iff vs]
omit ht in
theorem SV.cells_ok{ρ:Env}{v:SV}(h:v.ok ρ):SV.oks ρ v.cells:=by
 cases v;all_goals grind[SV.cells,SV.oks,SV.ok]
omit ht in
mutual
theorem Mw(ρ:Env):∀(v:Value)(s:SV),ofVal v=some s->s.ok ρ
 |.bool b,s,h=>by grind[ofVal,SV.ok]
 |.int k n,s,h=>by grind[ofVal,SV.ok]
 |.string b,s,h=>by grind[ofVal,SV.ok]
 |.pointer none,s,h=>by grind[ofVal,SV.ok]
 |.pointer (some _),s,h=>by simp[ofVal]at h
 |.slice none n c,s,h=>by grind[ofVal,SV.ok]
 |.slice (some _) _ _,s,h=>by simp[ofVal]at h
 |.map none,s,h=>by grind[ofVal,SV.ok]
 |.map (some _),s,h=>by simp[ofVal]at h
 |.nilFunc,s,h=>by grind[ofVal,SV.ok]
 |.nilIface,s,h=>by grind[ofVal,SV.ok]
 |.agg ⟨cs⟩,s,h=>by
  simp only[ofVal]at h;split at h
  ·rename_i l hl;simp only[Option.some.injEq]at h;subst h;exact adl ρ cs l hl
  ·cases h
 |.float _ _,s,h=>by simp[ofVal]at h
 |.complex _ _ _,s,h=>by simp[ofVal]at h
 |.chan _,s,h=>by simp[ofVal]at h
 |.func _ _ _,s,h=>by simp[ofVal]at h
 |.iface _ _,s,h=>by simp[ofVal]at h
 |.tuple _,s,h=>by simp[ofVal]at h
theorem adl(ρ:Env):∀(vs:List _)(l:List SV),qj vs=some l->SV.oks ρ l
 |[],l,h=>by simp_all[qj,SV.oks]
 |v::vs,l,h=>by
  simp only[qj]at h;split at h
  ·rename_i x xs hx hxs;simp only[Option.some.injEq]at h;subst h
   exact⟨Mw ρ v x hx,adl ρ vs xs hxs⟩
  ·cases h
end
omit ht in
theorem jW{t:TypeId}{v:SV}(h:i7 tb t=some v)(ρ:Env):v.ok ρ:=by
 grind[i7,Mw]
omit ht in
theorem MI{ρ:Env}{t:TypeId}{cs:List SV}{n:Nat}{v:SV}(hc:SV.oks ρ cs)(h:mW tb t cs n=some v):v.ok ρ:=by
 rw[SV.oks_iff]at hc
 unfold mW at h;split at h
 ·split at h
  ·split at h
   ·rename_i l hl;simp only[Option.some.injEq]at h;subst h
    obtain⟨h1,_⟩:=qB _ _ _ hl
    rw[sb]at h1
    show SV.oks ρ l;grind[SV.oks_iff]
   ·cases h
  ·cases h
 all_goals grind[ee]
omit ht in
theorem sd{ρ:Env}{ev:Operand->Option SV}(hev:wF ρ ev):∀(xs:List Operand)(vs:List SV),jG ev xs=some vs->SV.oks ρ vs
 |[],vs,h=>by simp_all[jG,SV.oks]
 |x::xs,vs,h=>by
  simp only[jG]at h;split at h
  ·rename_i v l hv hl;simp only[Option.some.injEq]at h;subst h
   exact⟨hev _ _ hv,sd hev xs l hl⟩
  ·cases h
omit ht in
theorem KE{ρ:Env}{ev:Operand->Option SV}(hev:wF ρ ev):∀(xs:List (Nat×Operand))(vs:List (Nat×SV)),og ev xs=some vs->∀x∈vs,x.2.ok ρ
 |[],vs,h=>by simp_all[og]
 |(i,x)::xs,vs,h=>by
  simp only[og]at h;split at h
  ·rename_i v l hv hl;simp only[Option.some.injEq]at h;subst h;intro y hy;cases hy with
   |head=>exact hev _ _ hv
   |tail _ hm=>exact KE hev xs l hl y hm
  ·cases h
omit ht in
theorem E4{ρ:Env}{cs vs r:List SV}{n:Nat}(h1:SV.oks ρ cs)(h2:SV.oks ρ vs)(h:oQ cs n vs=some r):SV.oks ρ r:=by
 rw[SV.oks_iff]at *
 obtain⟨rfl,_⟩:=zH _ _ _ _ h
 grind
omit ht in
theorem KY{ρ:Env}{place:Nat->Option (Nat×Nat)}:∀(parts:List (Nat×SV))(cells r:List SV),mI place cells parts=some r->SV.oks ρ cells->(∀x∈parts,x.2.ok ρ)->SV.oks ρ r
 |[],cells,r,h,hc,_=>by simp_all[mI]
 |(i,v)::bU,cells,r,h,hc,hp=>by
  simp only[mI]at h;split at h
  ·cases h
  ·split at h
   ·split at h
    ·rename_i cs hcs;exact KY _ _ _ h (E4 hc (SV.cells_ok (hp (i,v) (by simp))) hcs) (fun x hx=>hp x (by simp[hx]))
    ·cases h
   ·cases h
omit ht in
theorem aCd{ρ:Env}{t:TypeId}{parts:List (Nat×SV)}{v:SV}(h:x9 tb t parts=some v)(hp:∀x∈parts,x.2.ok ρ):v.ok ρ:=by
 unfold x9 at h;split at h
 ·rename_i z hz;have hz':=SV.cells_ok (jW hz ρ);repeat' split at h
  all_goals first | (cases h;done) | skip
  all_goals (rename_i cs hcs;simp only[Option.some.injEq]at h;subst h;exact KY _ _ _ hcs hz' hp)
 ·cases h
omit ht in
theorem aBM{op:BinOp}{t:TypeId}{x y v:SV}(h:kv P tb op t x y=some v)(ρ:Env):v.ok ρ:=by
 unfold kv at h;repeat' split at h
 all_goals grind[SV.ok]
omit ht in
theorem abU{mx:Bool}{k:IntKind}{ρ:Env}:∀(vs:List SV)(a:E)(v:SV),qc mx k vs a=some v->v.ok ρ
 |[],a,v,h=>by grind[qc,SV.ok]
 |x::vs,a,v,h=>by
  unfold qc at h;split at h
  ·split at h
   ·exact abU vs _ v h
   ·cases h
  ·cases h
omit ht in
theorem aEE{mx:Bool}{vs:List SV}{v:SV}{ρ:Env}(h:vi mx vs=some v):v.ok ρ:=by
 unfold vi at h;grind[abU]
omit ht in
theorem Fz{ρ:Env}{ev:Operand->Option SV}(hwf:wF ρ ev){o:Op}{v:SV}(h:s6 P tb ev o=some v):v.ok ρ:=by
 rw[adW]at h;unfold Fk Fj E7 Fm Fb Fe Fd Fh Ff Fc E8 Fi Fl E9 at h
 split at h
 ·exact hwf _ _ h
 ·exact hwf _ _ h
 ·split at h
  ·exact hwf _ _ h
  ·exact hwf _ _ h
  ·cases h
 ·split at h
  ·grind[Option.some.injEq,SV.ok,SV.oks]
  ·rename_i hx;simp only[Option.some.injEq]at h;subst h;exact hwf _ _ hx
  ·rename_i hx;simp only[Option.some.injEq]at h;subst h;exact hwf _ _ hx
  ·cases h
 ·grind[aBM]
 ·split at h
  ·unfold GA at h;grind[Option.some.injEq,SV.ok]
  ·cases h
 ·split at h
  ·unfold CZ at h;grind[Option.some.injEq,SV.ok]
  ·cases h
 ·split at h
  ·rename_i x hx;have hx':=hwf _ _ hx;unfold Dq at h;grind[Option.some.injEq,SV.ok]
  ·cases h
 ·split at h
  ·rename_i x hx;have hx':=hwf _ _ hx;unfold Dr at h;repeat' split at h
   all_goals first | (cases h;done) | exact MI hx' h
  ·cases h
 ·split at h
  ·unfold pR at h;repeat' split at h
   all_goals grind[Option.some.injEq,SV.ok]
  ·cases h
 ·split at h
  ·rename_i x y hx hy;have hx':=hwf _ _ hx;unfold uR at h;repeat' split at h
   all_goals grind[MI,Option.some.injEq,SV.ok]
  ·cases h
 ·split at h
  ·rename_i x hx;have hx':=hwf _ _ hx;unfold Dm at h;split at h
   ·rw[ee]at h
    exact(SV.oks_iff _).1 hx' v (List.mem_of_getElem? h)
   ·cases h
  ·cases h
 ·split at h
  ·rename_i ps hps;exact aCd h (KE hwf _ _ hps)
  ·cases h
 ·split at h
  ·rename_i a b ha hb;simp only[Option.some.injEq]at h;subst h
   exact⟨sd hwf _ _ ha,sd hwf _ _ hb⟩
  ·cases h
 ·split at h
  ·unfold FU at h;repeat' split at h
   all_goals grind[Option.some.injEq,SV.ok]
  ·cases h
 ·repeat' split at h
  all_goals first | (cases h;done) | skip
  ·unfold Ej at h;grind[Option.some.injEq,SV.ok]
  ·unfold CT at h;grind[Option.some.injEq,SV.ok]
  all_goals grind[aEE]
 ·cases h
end
end Go.SX

namespace Go.SX
structure Env.Ext (ρ ρ':Env):Prop where
 vs:∃l,ρ'.vs=ρ.vs++l
 bs:∃l,ρ'.bs=ρ.bs++l
 fz:∀r o,ρ.fz r=some o->ρ'.fz r=some o
theorem Env.Ext.refl(ρ:Env):ρ.Ext ρ:=⟨⟨[],by simp⟩,⟨[],by simp⟩,fun _ _ h=>h⟩
theorem Env.Ext.trans{a b c:Env}(h:a.Ext b)(k:b.Ext c):a.Ext c:=by
 obtain⟨⟨l,hl⟩,⟨m,hm⟩,hz⟩:=h
 obtain⟨⟨l',hl'⟩,⟨m',hm'⟩,hz'⟩:=k
 exact⟨⟨l++l',by grind⟩,⟨m++m',by grind⟩,fun r o h=>hz' r o (hz r o h)⟩
theorem Env.Ext.blk{ρ ρ':Env}(h:ρ.Ext ρ'){b:Nat}(hb:b<ρ.bs.length):ρ'.blk b=ρ.blk b:=by
 obtain⟨l,hl⟩:=h.bs
 grind[Env.blk]
theorem Env.Ext.off{ρ ρ':Env}(h:ρ.Ext ρ'){b:Nat}(hb:b<ρ.bs.length):ρ'.off b=ρ.off b:=by
 obtain⟨l,hl⟩:=h.bs
 grind[Env.off]
theorem Env.Ext.nil{ρ ρ':Env}(h:ρ.Ext ρ'){b:Nat}(hb:b<ρ.bs.length):ρ'.nil b=ρ.nil b:=by
 obtain⟨l,hl⟩:=h.bs
 grind[Env.nil]
theorem Env.Ext.base{ρ ρ':Env}(h:ρ.Ext ρ'){b:Nat}(hb:b<ρ.bs.length):ρ'.base b=ρ.base b:=by
 obtain⟨l,hl⟩:=h.bs
 grind[Env.base]
theorem fj{ρ:Env}{b:Nat}(h:ρ.nil b=false):ρ.base b=some ⟨ρ.blk b,ρ.off b,none⟩:=by
 grind[Env.base,Bk.base,Env.nil,Bk.nil,Env.blk,Env.off]
theorem cS{a b:Bool}:(Bool.rec false b a:Bool)=(a&&b):=by cases a<;>rfl
theorem E.scoped_den{ρ ρ':Env}(h:ρ.Ext ρ'):∀(e:E),e.scp ρ.vs.length=true->e.den ρ'=e.den ρ:=by
 intro e;induction e with
 |int n=>intro _;rfl
 |bool b=>intro _;rfl
 |str s=>intro _;rfl
 |var i=>
  intro hs;have hs':Nat.blt i _=true:=hs
  rw[eA]at hs'
  obtain⟨l,hl⟩:=h.vs
  grind[E.den]
 |ar o k a b ia ib=>
  intro hs;have hs':Bool.rec _ (b.scp _) (a.scp _)=true:=hs;simp_all[cS,E.den]
 |cmp o a b ia ib=>
  intro hs;have hs':Bool.rec _ (b.scp _) (a.scp _)=true:=hs;simp_all[cS,E.den]
 |mn a b ia ib=>
  intro hs;have hs':Bool.rec _ (b.scp _) (a.scp _)=true:=hs;simp_all[cS,E.den]
 |mx a b ia ib=>
  intro hs;have hs':Bool.rec _ (b.scp _) (a.scp _)=true:=hs;simp_all[cS,E.den]
 |wr k a ia=>intro hs;have hs':a.scp _=true:=hs;grind[E.den]
 |not a ia=>intro hs;have hs':a.scp _=true:=hs;grind[E.den]
 |and a b ia ib=>
  intro hs;have hs':Bool.rec _ (b.scp _) (a.scp _)=true:=hs;simp_all[cS,E.den]
 |seq a b ia ib=>
  intro hs;have hs':Bool.rec _ (b.scp _) (a.scp _)=true:=hs;simp_all[cS,E.den]
 |imp a b ia ib=>
  intro hs;have hs':Bool.rec _ (b.scp _) (a.scp _)=true:=hs;simp_all[cS,E.den]
 |iff a b ia ib=>
  intro hs;have hs':Bool.rec _ (b.scp _) (a.scp _)=true:=hs;simp_all[cS,E.den]
 |fn f a ia=>intro hs;have hs':a.scp _=true:=hs;grind[E.den]
 |pr a b ia ib=>
  intro hs;have hs':Bool.rec _ (b.scp _) (a.scp _)=true:=hs;simp_all[cS,E.den]
section
variable {ρ ρ':Env} (h:ρ.Ext ρ')
include h
theorem E.scoped_I{e:E}(hs:e.scp ρ.vs.length=true):e.I ρ'=e.I ρ:=by grind[E.I,E.scoped_den]
theorem E.scoped_B{e:E}(hs:e.scp ρ.vs.length=true):e.B ρ'=e.B ρ:=by grind[E.B,E.scoped_den]
theorem E.scoped_L{e:E}(hs:e.scp ρ.vs.length=true):e.L ρ'=e.L ρ:=by grind[E.L,E.scoped_den]
theorem E.scoped_S{e:E}(hs:e.scp ρ.vs.length=true):e.S ρ'=e.S ρ:=by grind[E.S,E.scoped_den]
omit h in
theorem SV.scopeds_cons(nv nb:Nat)(v:SV)(l:List SV):SV.scps nv nb (v::l)=(v.scp nv nb&&SV.scps nv nb l):=by
 simp_all[SV.scps,cS]
omit h in
theorem SV.scoped_list(nv nb:Nat)(l:List SV):
  (SV.rec_1 (motive_1:=fun _=>Bool) (motive_2:=fun _=>Bool)
  (fun _ e=>e.scp nv) (fun e=>e.scp nv) (fun e=>e.scp nv) true (fun b o=>Bool.rec false (o.idx.scp nv) (Nat.blt b nb))
  true (fun b o l c=>Bool.rec false (Bool.rec false (Bool.rec false (c.scp nv) (l.scp nv)) (o.idx.scp nv)) (Nat.blt b nb))
  (fun b l c=>Bool.rec false (Bool.rec false (c.scp nv) (l.scp nv)) (Nat.blt b nb))
  (fun _ e=>e.scp nv) (fun _ e i _=>Bool.rec false (i.scp nv) (e.scp nv))
  true (fun b=>Nat.blt b nb) true true (fun _ _ _ a b=>Bool.rec false b a) (fun _ a=>a) (fun _ a=>a) true
  (fun b _ e i _=>Bool.rec false (Bool.rec false (i.scp nv) (e.scp nv)) (Nat.blt b nb)) (fun b _ e i _ x _=>Bool.rec false (Bool.rec false (Bool.rec false (x.scp nv) (i.scp nv)) (e.scp nv)) (Nat.blt b nb))
  true (fun _ _ a b=>Bool.rec false b a) l:Bool)=SV.scps nv nb l:=by
 induction l with
 |nil=>rfl
 |cons v l ih=>
  rw[SV.scopeds_cons,<- ih,<- cS]
  rfl
omit h in
theorem SV.scoped_agg(nv nb:Nat)(l:List SV):(SV.agg l).scp nv nb=SV.scps nv nb l:=SV.scoped_list nv nb l
omit h in
theorem SV.scoped_tup(nv nb:Nat)(l:List SV):(SV.tup l).scp nv nb=SV.scps nv nb l:=SV.scoped_list nv nb l
omit h in
theorem SV.scoped_func(nv nb:Nat)(fn:Fn)(a b:List SV):(SV.func fn a b).scp nv nb=(SV.scps nv nb a&&SV.scps nv nb b):=by
 rw[<- cS,<- SV.scoped_list,<- SV.scoped_list]
 rfl
theorem Off.scoped_den{o:Off}(hs:o.idx.scp ρ.vs.length=true):o.den ρ'=o.den ρ:=by
 grind[Off.den,E.scoped_I]
mutual
theorem SV.scoped_den:∀(v:SV),v.scp ρ.vs.length ρ.bs.length=true->v.den ρ'=v.den ρ
 |.int k e,hs=>by have hs':e.scp _=true:=hs;grind[SV.den,E.scoped_I]
 |.bool e,hs=>by have hs':e.scp _=true:=hs;grind[SV.den,E.scoped_B]
 |.str e,hs=>by have hs':e.scp _=true:=hs;grind[SV.den,E.scoped_S]
 |.nilp,_=>rfl
 |.nils,_=>rfl
 |.nilm,_=>rfl
 |.nili,_=>rfl
 |.nilf,_=>rfl
 |.junk,_=>rfl
 |.ptr b o,hs=>by
  have hs':Bool.rec _ _ _=true:=hs
  rw[cS,Bool.and_eq_true,eA]at hs'
  simp[SV.den,h.blk hs'.1,h.off hs'.1,Off.scoped_den h hs'.2]
 |.slice b o l c,hs=>by
  have hs':Bool.rec _ _ _=true:=hs
  rw[cS,cS,cS,Bool.and_eq_true,Bool.and_eq_true,Bool.and_eq_true,eA]at hs'
  simp[SV.den,h.blk hs'.1,h.off hs'.1,Off.scoped_den h hs'.2.1,E.scoped_I h hs'.2.2.1,E.scoped_I h hs'.2.2.2]
 |.nslice b l c,hs=>by
  have hs':Bool.rec _ _ _=true:=hs
  rw[cS,cS,Bool.and_eq_true,Bool.and_eq_true,eA]at hs'
  simp[SV.den,h.base hs'.1,E.scoped_I h hs'.2.1,E.scoped_I h hs'.2.2]
 |.bsl ks e,hs=>by
  have hs':e.scp _=true:=hs;grind[SV.den,E.scoped_den]
 |.bptr ks e i j,hs=>by
  have hs':Bool.rec _ _ _=true:=hs
  rw[cS,Bool.and_eq_true]at hs'
  grind[SV.den,E.scoped_den,E.scoped_I]
 |.nsl b ks e i c,hs=>by
  have hs':Bool.rec _ _ _=true:=hs
  rw[cS,cS,Bool.and_eq_true,Bool.and_eq_true]at hs'
  grind[SV.den,E.scoped_den]
 |.nptr b ks e i c x j,hs=>by
  have hs':Bool.rec _ _ _=true:=hs
  rw[cS,cS,cS,Bool.and_eq_true,Bool.and_eq_true,Bool.and_eq_true]at hs'
  grind[SV.den,E.scoped_den,E.scoped_I]
 |.map b,hs=>by
  have hs':Nat.blt b _=true:=hs
  rw[eA]at hs'
  simp[SV.den,h.blk hs']
 |.func fn a b,hs=>by
  rw[SV.scoped_func,Bool.and_eq_true]at hs
  simp[SV.den,SV.scopeds_den a hs.1,SV.scopeds_den b hs.2]
 |.agg cs,hs=>by
  rw[SV.scoped_agg]at hs
  simp[SV.den,SV.scopeds_den cs hs]
 |.tup cs,hs=>by
  rw[SV.scoped_tup]at hs
  simp[SV.den,SV.scopeds_den cs hs]
theorem SV.scopeds_den:∀(l:List SV),SV.scps ρ.vs.length ρ.bs.length l=true->SV.dens ρ' l=SV.dens ρ l
 |[],_=>rfl
 |v::l,hs=>by
  rw[SV.scopeds_cons,Bool.and_eq_true]at hs
  simp[SV.dens,SV.scoped_den v hs.1,SV.scopeds_den l hs.2]
end
end
theorem SlOk.mono{fz fz':Nat->Option Obj}(hz:∀r o,fz r=some o->fz' r=some o){ks:List CK}{u:U}(h:SlOk fz ks u):SlOk fz' ks u:=by
 induction h with
 |nil=>exact .nil
 |empty a=>exact .empty a
 |mk hl hc h1 h2 _ ih=>exact .mk hl hc (fun hne=>hz _ _ (h1 hne)) h2 ih
theorem CK.ok_mono{fz fz':Nat->Option Obj}(hz:∀r o,fz r=some o->fz' r=some o){c:CK}{u:U}(h:c.ok fz u):c.ok fz' u:=by
 cases c with
 |slc ks=>exact SlOk.mono hz h
 |_=>trivial
mutual
theorem SV.ok_ext{ρ ρ':Env}(h:ρ.Ext ρ'):∀(v:SV),v.scp ρ.vs.length ρ.bs.length=true->v.ok ρ->v.ok ρ'
 |.int _ _,_,_=>by simp[SV.ok]
 |.bool _,_,_=>by simp[SV.ok]
 |.str _,_,_=>by simp[SV.ok]
 |.nilp,_,_=>by simp[SV.ok]
 |.nils,_,_=>by simp[SV.ok]
 |.nilm,_,_=>by simp[SV.ok]
 |.nili,_,_=>by simp[SV.ok]
 |.nilf,_,_=>by simp[SV.ok]
 |.junk,_,_=>by simp[SV.ok]
 |.ptr _ _,_,_=>by simp[SV.ok]
 |.slice _ _ _ _,_,_=>by simp[SV.ok]
 |.nslice _ _ _,_,_=>by simp[SV.ok]
 |.map _,_,_=>by simp[SV.ok]
 |.bsl ks e,hs,hk=>by
  have hs':=hs;simp only[SV.ok]at hk ⊢
  rw[E.scoped_den h e hs']
  exact hk.mono h.fz
 |.bptr ks e i j,hs,hk=>by
  have hs':Bool.rec _ _ _=true:=hs
  rw[cS,Bool.and_eq_true]at hs'
  simp only[SV.ok]at hk ⊢
  rw[E.scoped_den h e hs'.1,E.scoped_I h hs'.2,E.scoped_L h hs'.1]
  exact⟨hk.1.mono h.fz,hk.2⟩
 |.nsl _ _ _ _ _,_,_=>by simp[SV.ok]
 |.nptr b ks e i c x j,hs,hk=>by
  have hs':Bool.rec _ _ _=true:=hs
  rw[cS,cS,cS,Bool.and_eq_true,Bool.and_eq_true,Bool.and_eq_true]at hs'
  grind[SV.ok,E.scoped_den,E.scoped_I]
 |.func fn a b,hs,hk=>by
  rw[SV.scoped_func,Bool.and_eq_true]at hs
  exact⟨SV.oks_ext h a hs.1 hk.1,SV.oks_ext h b hs.2 hk.2⟩
 |.agg cs,hs,hk=>by
  rw[SV.scoped_agg]at hs
  exact SV.oks_ext h cs hs hk
 |.tup cs,hs,hk=>by
  rw[SV.scoped_tup]at hs
  exact SV.oks_ext h cs hs hk
theorem SV.oks_ext{ρ ρ':Env}(h:ρ.Ext ρ'):∀(l:List SV),SV.scps ρ.vs.length ρ.bs.length l=true->SV.oks ρ l->SV.oks ρ' l
 |[],_,_=>trivial
 |v::l,hs,hk=>by
  rw[SV.scopeds_cons,Bool.and_eq_true]at hs
  exact⟨SV.ok_ext h v hs.1 hk.1,SV.oks_ext h l hs.2 hk.2⟩
end
structure Base where
 w0:World
 fr:Nat->Option Obj:=fun _=>none
def hG(B:Base)(ρ:Env)(r:Nat):Prop:=ρ.fz r=none/\B.fr r=none
def flatRep(fz:Nat->Option Obj)(ks:List CK)(L:List U)(arr:Array Value):Prop:=
 ∀(i:Nat)(u:U),L[i]?=some u->∃c,ks[i%ks.length]?=some c/\arr[i]?=some (c.val u)/\c.ok fz u
def entRep(ρ:Env)(entries:Array MapEntry)(es:List Ent):Prop:=
 entries.size=es.length/\∀(i:Nat)(e:MapEntry)(x:Ent),entries[i]?=some e->es[i]?=some x->e.key=x.k.den ρ/\e.val=x.v.den ρ/\(e.born:Int)=x.born.I ρ/\x.k.ok ρ/\x.v.ok ρ
theorem adm{fz fz':Nat->Option Obj}(hz:∀r o,fz r=some o->fz' r=some o){us:List U}:∀(cs:List CK)(i:Nat),vw fz us i cs->vw fz' us i cs
 |[],_,_=>trivial
 |_::cs,i,h=>⟨CK.ok_mono hz h.1,adm hz cs (i+1) h.2⟩
theorem VK.ok_mono{fz fz':Nat->Option Obj}(hz:∀r o,fz r=some o->fz' r=some o){c:VK}{u:U}(h:c.ok fz u):c.ok fz' u:=by
 cases c with
 |one c=>exact CK.ok_mono hz h
 |row ks=>exact adm hz ks 0 h
def entU(fz:Nat->Option Obj)(k:IntKind)(c:VK)(entries:Array MapEntry)(L:List U):Prop:=
 entries.size=L.length/\∀(i:Nat)(e:MapEntry)(u:U),entries[i]?=some e->L[i]?=some u->e.key=.int k u.fst.toI/\e.val=c.val u.snd/\c.ok fz u.snd
def bornOk(entries:Array MapEntry)(clock:Nat):Prop:=
 (∀(i:Nat)(e:MapEntry),entries[i]?=some e->e.born<clock)/\(∀(i j:Nat)(a b:MapEntry),entries[i]?=some a->entries[j]?=some b->a.born=b.born->i=j)
def aJV(entries:Array MapEntry)(seen:Array Nat):Array MapEntry:=entries.filter fun e=>!seen.contains e.born
def iterRep(fz:Nat->Option Obj)(w:World)(r:Nat)(k:IntKind)(c:VK)(L:List U)(left:Int):Prop:=
 ∃(mb:Nat) (entries:Array MapEntry) (clock:Nat) (seen:Array Nat),w.heap[r]?=some (.mapIter (some mb) clock seen clock)/\fz mb=some (.map entries clock)/\
  entU fz k c entries L/\bornOk entries clock/\(L.map fun u=>u.fst.toI).Nodup/\((aJV entries seen).size:Int)=left
def iterCur(fz:Nat->Option Obj)(w:World)(r:Nat)(k:IntKind)(c:VK)(L:List U)(x:Int):Prop:=
 ∃(mb:Nat) (entries:Array MapEntry) (clock:Nat) (seen:Array Nat) (i:Nat) (en:MapEntry) (v:U),w.heap[r]?=some (.mapIter (some mb) clock (seen.push en.born) clock)/\fz mb=some (.map entries clock)/\
  bornOk entries clock/\entries[i]?=some en/\cF x L=some v/\en.key=.int k x/\en.val=c.val v/\c.ok fz v
theorem entU.mono{fz fz':Nat->Option Obj}(hz:∀r o,fz r=some o->fz' r=some o){k:IntKind}{c:VK}{en:Array MapEntry}{L:List U}(h:entU fz k c en L):entU fz' k c en L:=
 ⟨h.1,fun i e u he hu=>by
  obtain⟨a1,a2,a3⟩:=h.2 i e u he hu
  exact⟨a1,a2,VK.ok_mono hz a3⟩⟩
theorem iterRep.mono{fz fz':Nat->Option Obj}(hz:∀r o,fz r=some o->fz' r=some o){w:World}{r:Nat}{k:IntKind}{c:VK}{L:List U}{n:Int}(h:iterRep fz w r k c L n):iterRep fz' w r k c L n:=by
 obtain⟨mb,en,cl,se,h1,h2,h3,h4⟩:=h
 exact⟨mb,en,cl,se,h1,hz _ _ h2,h3.mono hz,h4⟩
theorem iterCur.mono{fz fz':Nat->Option Obj}(hz:∀r o,fz r=some o->fz' r=some o){w:World}{r:Nat}{k:IntKind}{c:VK}{L:List U}{n:Int}(h:iterCur fz w r k c L n):iterCur fz' w r k c L n:=by
 obtain⟨mb,en,cl,se,i,e,v,h1,h2,h3,h4,h5,h6,h7,h8⟩:=h
 exact⟨mb,en,cl,se,i,e,v,h1,hz _ _ h2,h3,h4,h5,h6,h7,VK.ok_mono hz h8⟩
theorem iterRep.world{fz:Nat->Option Obj}{w w':World}{r:Nat}{k:IntKind}{c:VK}{L:List U}{n:Int}(h:iterRep fz w r k c L n)(hw:w'.heap[r]?=w.heap[r]?):iterRep fz w' r k c L n:=by
 obtain⟨mb,en,cl,se,h1,h2⟩:=h
 exact⟨mb,en,cl,se,by grind,h2⟩
theorem iterCur.world{fz:Nat->Option Obj}{w w':World}{r:Nat}{k:IntKind}{c:VK}{L:List U}{n:Int}(h:iterCur fz w r k c L n)(hw:w'.heap[r]?=w.heap[r]?):iterCur fz w' r k c L n:=by
 obtain⟨mb,en,cl,se,i,e,v,h1,h2⟩:=h
 exact⟨mb,en,cl,se,i,e,v,by grind,h2⟩
def gN:U->Option Nat
 |.bx (some a) _ (_+1) _=>some a.block
 |_=>none
def rowN(fz:Nat->Option Obj)(w:World)(ks:List CK):U->Prop
 |.bx none n c l=>n=0/\c=0/\l=[]
 |.bx (some _) n 0 l=>n=0/\l=[]
 |.bx (some a) n (c+1) l=>a=⟨a.block,0,none⟩/\l.length=n*ks.length/\n<=c+1/\∃(arr:Array Value) (el:TypeId),w.heap[a.block]?=some (.cells arr el (0,0))/\arr.size=(c+1)*ks.length/\flatRep fz ks l arr
 |_=>False
def YZ(fz:Nat->Option Obj)(w:World)(own:Prop):CK->U->Prop
 |.slc ks,u=>(own->rowN fz w ks u)/\(¬own->(CK.slc ks).ok fz u)
 |_,_=>True
def nestRep(fz:Nat->Option Obj)(w:World)(ks:List CK)(o:Int)(L:List U)(arr:Array Value):Prop:=
 ∀(i:Nat)(u:U),L[i]?=some u->∃c,ks[i%ks.length]?=some c/\arr[i]?=some (c.val u)/\YZ fz w ((i:Int)<o) c u
def gv(ks:List CK)(o:Int)(L:List U)(i r:Nat):Prop:=∃(u:U) (ks':List CK),L[i]?=some u/\ks[i%ks.length]?=some (.slc ks')/\gN u=some r/\(i:Int)<o
def SObj.inner(ρ:Env):SObj->Nat->Prop
 |.nest ks l _ _ _ own,r=>∃i,gv ks (own.I ρ*ks.length) (l.L ρ) i r
 |_,_=>False
def blkRep(ρ:Env)(w:World)(r off:Nat)(nil:Bool):SObj->Prop
 |.gone=>True
 |.cells cs af elem=>nil=false/\off=0/\SV.oks ρ cs/\∃arr:Array Value,w.heap[r]?=some (.cells arr elem (0,0))/\arr.size=(af.I ρ).toNat/\∀(j:Nat)(v:SV),cs[j]?=some v->arr[j]?=some (v.den ρ)
 | .flat ks l n af elem=>0<ks.length/\((l.L ρ).length:Int)=n.I ρ*ks.length/\n.I ρ<=af.I ρ/\0<=n.I ρ/\
   (0<af.I ρ->nil=false/\off=0/\∃arr:Array Value,w.heap[r]?=some (.cells arr elem (0,0))/\flatRep ρ.fz ks (l.L ρ) arr/\(arr.size:Int)=af.I ρ*ks.length)
 | .map es clk=>∃(entries:Array MapEntry) (clock:Nat),w.heap[r]?=some (.map entries clock)/\(clock:Int)=clk.I ρ/\entRep ρ entries es/\
   (∀(i:Nat)(e:MapEntry),entries[i]?=some e->e.born<clock)/\(∀(i j:Nat)(a b:MapEntry),entries[i]?=some a->entries[j]?=some b->a.born=b.born->i=j)
 |.mapl k c e=>∃(entries:Array MapEntry) (clock:Nat),w.heap[r]?=some (.map entries clock)/\entU ρ.fz k c entries (e.L ρ)/\bornOk entries clock
 | .maplp k c e ke s=>∃(entries:Array MapEntry) (clock:Nat),w.heap[r]?=some (.map entries clock)/\entU ρ.fz k c entries (e.L ρ)/\bornOk entries clock/\
   ∃(j:Nat) (en:MapEntry),entries[j]?=some en/\en.key=.int k (ke.I ρ)/\(en.born:Int)=s.I ρ/\∀v,cO (ke.I ρ) v (e.L ρ)=(e.L ρ).set j (.lst [.int (ke.I ρ),v])
 |.iter k c e n u=>off=0/\iterRep ρ.fz w r k c (e.L ρ) (n.I ρ)/\∀x,u=some x->iterCur ρ.fz w r k c (e.L ρ) (x.I ρ)
 | .nest ks l n af elem own=>0<ks.length/\((l.L ρ).length:Int)=n.I ρ*ks.length/\n.I ρ<=af.I ρ/\0<=n.I ρ/\(∀i j x,gv ks (own.I ρ*ks.length) (l.L ρ) i x->gv ks (own.I ρ*ks.length) (l.L ρ) j x->i=j)/\
   (0<af.I ρ->nil=false/\off=0/\∃arr:Array Value,w.heap[r]?=some (.cells arr elem (0,0))/\nestRep ρ.fz w ks (own.I ρ*ks.length) (l.L ρ) arr/\(arr.size:Int)=af.I ρ*ks.length)
def SObj.real(ρ:Env):SObj->Prop
 |.gone=>False
 |.flat _ _ _ af _=>0<af.I ρ
 |.nest _ _ _ af _ _=>0<af.I ρ
 |_=>True
def Inn(B:Base)(ρ:Env)(h:T Blk):Prop:=
 ∀(i:Nat)(b:Blk),h.get i=some b->∀r,b.obj.inner ρ r->hG B ρ r/\∀(j:Nat)(b':Blk),h.get j=some b'->(b'.obj.real ρ->ρ.blk j≠r)/\(j≠i->¬b'.obj.inner ρ r)
def jX(ρ:Env)(h:T Blk)(r:Nat):Prop:=∃(j:Nat) (b:Blk),h.get j=some b/\b.obj.inner ρ r
theorem Inn.next{B:Base}{ρ ρ':Env}{h h':T Blk}(hi:Inn B ρ h)
  (hold:∀(i:Nat)(b:Blk),h'.get i=some b->(∃b0:Blk,h.get i=some b0/\(b.obj.real ρ'->b0.obj.real ρ)/\ρ'.blk i=ρ.blk i/\∀r,b.obj.inner ρ' r->b0.obj.inner ρ r)\/((∀r,¬b.obj.inner ρ' r)/\(b.obj.real ρ'->∀r,jX ρ h r->ρ'.blk i≠r)))
  (hf:∀r,jX ρ h r->hG B ρ r->hG B ρ' r):Inn B ρ' h':=by
 intro i b hb r hr;rcases hold i b hb with⟨b0,k1,k2,k3,k4⟩|⟨k1,_⟩
 ·obtain⟨f1,f2⟩:=hi i b0 k1 r (k4 r hr)
  grind[jX]
 grind
structure RepW (B:Base) (ρ:Env) (st:St) (w:World):Prop where
 nv:ρ.vs.length=st.nv
 nb:ρ.bs.length=st.nb
 pc:∀e∈st.pc,e.B ρ=true
 blk:∀i b,st.heap.get i=some b->i<st.nb/\blkRep ρ w (ρ.blk i) (ρ.off i) (ρ.nil i) b.obj/\(b.obj.real ρ->(b.own=true↔hG B ρ (ρ.blk i)))
 inj:∀i j a b,st.heap.get i=some a->st.heap.get j=some b->a.obj.real ρ->b.obj.real ρ->a.own=true->b.own=true->i≠j->ρ.blk i≠ρ.blk j
 inn:Inn B ρ st.heap
 fz:∀r o,ρ.fz r=some o->w.heap[r]?=some o
 fr:∀r o,B.fr r=some o->w.heap[r]?=some o
 dj:∀r o,B.fr r=some o->ρ.fz r=none
 os:w.os=B.w0.os
 tape:w.tape=B.w0.tape
 output:w.output=B.w0.output
theorem RepW.free_ge{B:Base}{ρ:Env}{st:St}{w:World}(h:RepW B ρ st w){r:Nat}(hr:w.heap.size<=r):hG B ρ r:=by
 constructor
 ·cases hq:ρ.fz r with
  |none=>rfl
  |some o=>have:=(Array.getElem?_eq_some_iff.1 (h.fz r o hq)).1;omega
 ·cases hq:B.fr r with
  |none=>rfl
  |some o=>have:=(Array.getElem?_eq_some_iff.1 (h.fr r o hq)).1;omega
theorem RepW.apart{B:Base}{ρ:Env}{st:St}{w:World}(h:RepW B ρ st w){i j:Nat}{a b:Blk}(ha:st.heap.get i=some a)(hb:st.heap.get j=some b)(la:a.obj.real ρ)(lb:b.obj.real ρ)
  (ho:a.own=true\/b.own=true)(hij:i≠j):ρ.blk i≠ρ.blk j:=by
 have h1:=(h.blk i a ha).2.2 la;have h2:=(h.blk j b hb).2.2 lb;cases oa:a.own with
 |true=>
  cases ob:b.own with
  |true=>exact h.inj i j a b ha hb la lb oa ob hij
  |false=>
   grind
 |false=>
  grind
def TmRep(ρ:Env)(t:Tm)(a:Act):Prop:=a.defers=[]/\(∀i,t.get i=none->a.tmps[i]?=none)/\∀i v,t.get i=some v->∃x,a.tmps[i]?=some x/\(v=.junk\/(x=v.den ρ/\v.ok ρ))
theorem TmRep.at{ρ:Env}{t:Tm}{a:Act}(h:TmRep ρ t a){i:Nat}{v:SV}(hv:t.get i=some v)(hj:v≠.junk):a.tmps[i]?=some (v.den ρ):=by
 obtain⟨x,h1,h2⟩:=h.2.2 i v hv
 grind
theorem TmRep.ok{ρ:Env}{t:Tm}{a:Act}(h:TmRep ρ t a){i:Nat}{v:SV}(hv:t.get i=some v):v.ok ρ:=by
 obtain⟨x,h1,h2⟩:=h.2.2 i v hv
 grind[SV.ok]
theorem iH(ρ:Env):SV.undef.ok ρ:=by simp[SV.undef,SV.ok,SV.oks]
theorem TmRep.eval{ρ:Env}{t:Tm}{a:Act}(h:TmRep ρ t a):Hk ρ (bJ t) a.eval:=by
 intro x v hx;cases x with
 |tmp i=>
  simp only[ZV]at hx;simp only[Act.eval];split at hx
  ·rename_i y hy;split at hx
   ·grind
   ·rename_i hj;simp only[Option.some.injEq]at hx;subst hx;simp[h.at hy hj]
  ·rename_i hy;simp only[Option.some.injEq]at hx;subst hx;simp[h.2.1 i hy,SV.undef_den]
 |const c=>exact(EZ ρ _ _ hx).symm
 |global g=>grind[ZU]
 |func f=>
  grind[ZT,Act.eval,SV.den,SV.dens]
theorem TmRep.wf{ρ:Env}{t:Tm}{a:Act}(h:TmRep ρ t a):wF ρ (bJ t):=by
 intro x v hx;cases x with
 |tmp i=>
  simp only[ZV]at hx;split at hx
  ·rename_i y hy;split at hx
   ·grind
   ·simp only[Option.some.injEq]at hx;subst hx;exact h.ok hy
  grind[iH]
 |const c=>exact Mw ρ _ _ hx
 |global g=>grind[ZU]
 |func f=>
  grind[ZT,SV.ok,SV.oks]
theorem TmRep.put{ρ:Env}{t:Tm}{a:Act}(h:TmRep ρ t a)(d:Option Tmp)(v:SV)(hv:v.ok ρ):
  TmRep ρ (match d with | none=>t | some d=>t.set d v) (a.put d (v.den ρ)):=by
 cases d with
 |none=>exact h
 |some d=>
  refine⟨h.1,fun i hi=>?_,fun i x hx=>?_⟩
  ·simp only[T.get_set]at hi;simp only[Act.put];have hn:t.get i=none:=by
    by_cases e:i=d
    all_goals simp_all
   have h1:=h.2.1 i hn;grind
  ·simp only[T.get_set]at hx;simp only[Act.put,Array.getElem?_setIfInBounds];by_cases e:i=d
   ·cases ht:t.get i with
    |none=>grind
    |some y=>
     obtain⟨z,h1,_⟩:=h.2.2 i y ht
     grind
   ·rw[if_neg e]at hx
    rw[if_neg (fun e'=>e e'.symm)]
    exact h.2.2 i x hx
theorem jR{Z:Type}(t:Tm)(d:Option Tmp)(v:SV)(k:Tm->Z):fv t d v k=k (match d with | none=>t | some d=>t.set d v):=by
 cases d with
 |none=>rfl
 |some d=>exact T.setK_eq _ _ _ _
theorem TmRep.ext{ρ ρ':Env}{t:Tm}{a:Act}(h:TmRep ρ t a)(he:ρ.Ext ρ')(hs:jT ρ.vs.length ρ.bs.length t=true):TmRep ρ' t a:=by
 refine⟨h.1,h.2.1,fun i v hv=>?_⟩
 obtain⟨x,h1,h2⟩:=h.2.2 i v hv
 have hsv:=T.all_get t hs i v hv;grind[SV.scoped_den,SV.ok_ext]
theorem Ey{nv:Nat}:∀(l:List E),Fp nv l=true->∀e∈l,e.scp nv=true
 |[],_,e,he=>by grind
 |x::l,h,e,he=>by
  simp only[Fp,Bool.and_eq_true]at h;cases he with
  |head=>grind
  |tail _ hm=>exact Ey l h.2 e hm
theorem zx{nv nb:Nat}:∀(l:List SV),SV.scps nv nb l=true->∀v∈l,v.scp nv nb=true
 |[],_,e,he=>by grind
 |x::l,h,e,he=>by
  rw[SV.scopeds_cons,Bool.and_eq_true]at h
  cases he with
  |head=>grind
  |tail _ hm=>exact zx l h.2 e hm
theorem zw{nv nb:Nat}:∀(l:List Ent),zK nv nb l=true->∀x∈l,x.k.scp nv nb=true/\x.v.scp nv nb=true/\x.born.scp nv=true
 |[],_,e,he=>by grind
 |x::l,h,e,he=>by
  simp only[zK,Bool.and_eq_true]at h;cases he with
  |head=>grind
  |tail _ hm=>exact zw l h.2.2.2 e hm
theorem entRep.ext{ρ ρ':Env}{entries:Array MapEntry}{es:List Ent}(h:entRep ρ entries es)(he:ρ.Ext ρ')(hs:zK ρ.vs.length ρ.bs.length es=true):entRep ρ' entries es:=by
 refine⟨h.1,fun i e x h1 h2=>?_⟩
 obtain⟨k1,k2,k3,k4,k5⟩:=h.2 i e x h1 h2
 grind[zw,SV.scoped_den,E.scoped_I,SV.ok_ext]
theorem flatRep.mono{fz fz':Nat->Option Obj}(hz:∀r o,fz r=some o->fz' r=some o){ks:List CK}{L:List U}{arr:Array Value}(h:flatRep fz ks L arr):flatRep fz' ks L arr:=
 fun i u hu=>by
  obtain⟨c,h1,h2,h3⟩:=h i u hu
  grind[CK.ok_mono]
theorem rowN.mono{fz fz':Nat->Option Obj}(hz:∀r o,fz r=some o->fz' r=some o){w:World}{ks:List CK}:∀ {u:U},rowN fz w ks u->rowN fz' w ks u
 |.bx none _ _ _,h=>h
 |.bx (some _) _ 0 _,h=>h
 |.bx (some _) _ (_+1) _,h=>by
  obtain⟨h1,h2,h3,arr,el,h4,h5,h6⟩:=h
  exact⟨h1,h2,h3,arr,el,h4,h5,h6.mono hz⟩
 |.int _,h=>h.elim
 |.bool _,h=>h.elim
 |.str _,h=>h.elim
 |.lst _,h=>h.elim
theorem rowN.world{fz:Nat->Option Obj}{w w':World}{ks:List CK}:∀ {u:U},rowN fz w ks u->(∀r,gN u=some r->w'.heap[r]?=w.heap[r]?)->rowN fz w' ks u
 |.bx none _ _ _,h,_=>h
 |.bx (some _) _ 0 _,h,_=>h
 |.bx (some a) _ (_+1) _,h,hw=>by
  obtain⟨h1,h2,h3,arr,el,h4,h5,h6⟩:=h
  exact⟨h1,h2,h3,arr,el,by rw[hw _ rfl];omega,h5,h6⟩
 |.int _,h,_=>h.elim
 |.bool _,h,_=>h.elim
 |.str _,h,_=>h.elim
 |.lst _,h,_=>h.elim
theorem rowN.lt{fz:Nat->Option Obj}{w:World}{ks:List CK}:∀ {u:U},rowN fz w ks u->∀ {r:Nat},gN u=some r->r<w.heap.size
 |.bx (some a) _ (_+1) _,h,r,hr=>by
  obtain⟨h1,h2,h3,arr,el,h4,h5,h6⟩:=h
  grind[gN]
 |.bx none _ _ _,h,_,hr=>by grind[gN]
 |.bx _ _ 0 _,h,_,hr=>by simp[gN]at hr
 |.int _,h,_,_=>h.elim
 |.bool _,h,_,_=>h.elim
 |.str _,h,_,_=>h.elim
 |.lst _,h,_,_=>h.elim
theorem nestRep.mono{fz fz':Nat->Option Obj}(hz:∀r o,fz r=some o->fz' r=some o){w:World}{ks:List CK}{o:Int}{L:List U}{arr:Array Value}(h:nestRep fz w ks o L arr):nestRep fz' w ks o L arr:=
 fun i u hu=>by
  obtain⟨c,h1,h2,h3⟩:=h i u hu
  refine⟨c,h1,h2,?_⟩
  cases c with
  |slc ks'=>exact⟨fun ho=>rowN.mono hz (h3.1 ho),fun ho=>CK.ok_mono hz (h3.2 ho)⟩
  |_=>trivial
theorem nestRep.world{fz:Nat->Option Obj}{w w':World}{ks:List CK}{o:Int}{L:List U}{arr:Array Value}(h:nestRep fz w ks o L arr)(hw:∀i r,gv ks o L i r->w'.heap[r]?=w.heap[r]?):nestRep fz w' ks o L arr:=
 fun i u hu=>by
  obtain⟨c,h1,h2,h3⟩:=h i u hu
  refine⟨c,h1,h2,?_⟩
  cases c with
  |slc ks'=>exact⟨fun ho=>rowN.world (h3.1 ho) fun r hr=>hw i r ⟨u,ks',hu,h1,hr,ho⟩,h3.2⟩
  |_=>trivial
theorem blkRep.ext{ρ ρ':Env}{w:World}{r off:Nat}{nil:Bool}{o:SObj}(h:blkRep ρ w r off nil o)(he:ρ.Ext ρ')(hs:o.scp ρ.vs.length ρ.bs.length=true):blkRep ρ' w r off nil o:=by
 cases o with
 |gone=>trivial
 |cells cs af elem=>
  simp only[SObj.scp,Bool.and_eq_true]at hs
  obtain⟨hn,h0,hk,arr,h1,h2,h3⟩:=h
  refine⟨hn,h0,SV.oks_ext he cs hs.2 hk,arr,h1,by grind[E.scoped_I],fun j v hv=>?_⟩
  grind[SV.scoped_den,zx]
 |flat ks l n af elem=>
  simp only[SObj.scp,Bool.and_eq_true]at hs
  obtain⟨h1,h2,h3,h4,h5⟩:=h
  simp only[blkRep]
  rw[E.scoped_L he hs.1,E.scoped_I he hs.2.1,E.scoped_I he hs.2.2]
  refine⟨h1,h2,h3,h4,fun h6=>?_⟩
  obtain⟨k1,k2,arr,k3,k4,k5⟩:=h5 h6
  exact⟨k1,k2,arr,k3,k4.mono he.fz,k5⟩
 |map es clk=>
  simp only[SObj.scp,Bool.and_eq_true]at hs
  obtain⟨entries,clock,h1,h2,h3,h4⟩:=h
  exact⟨entries,clock,h1,by grind[E.scoped_I],h3.ext he hs.1,h4⟩
 |mapl k c e=>
  obtain⟨entries,clock,h1,h2,h3⟩:=h
  refine⟨entries,clock,h1,?_,h3⟩
  rw[E.scoped_L he hs]
  exact⟨h2.1,fun i e u he' hu=>by
   obtain⟨a1,a2,a3⟩:=h2.2 i e u he' hu
   exact⟨a1,a2,VK.ok_mono he.fz a3⟩⟩
 |maplp k c e ke s=>
  simp only[SObj.scp,Bool.and_eq_true]at hs
  obtain⟨entries,clock,h1,h2,h3,j,en,h4,h5,h6,h7⟩:=h
  refine⟨entries,clock,h1,?_,h3,j,en,h4,by grind[E.scoped_I],by grind[E.scoped_I],by grind[E.scoped_I,E.scoped_L]⟩
  rw[E.scoped_L he hs.1]
  exact⟨h2.1,fun i e u he' hu=>by
   obtain⟨a1,a2,a3⟩:=h2.2 i e u he' hu
   exact⟨a1,a2,VK.ok_mono he.fz a3⟩⟩
 |iter k c e n u=>
  simp only[SObj.scp,Bool.and_eq_true]at hs
  obtain⟨h0,h1,h2⟩:=h
  refine⟨h0,by rw[E.scoped_L he hs.1,E.scoped_I he hs.2.1];exact h1.mono he.fz,fun x hx=>?_⟩
  subst hx
  rw[E.scoped_L he hs.1,E.scoped_I he hs.2.2]
  exact(h2 x rfl).mono he.fz
 |nest ks l n af elem own=>
  simp only[SObj.scp,Bool.and_eq_true]at hs
  obtain⟨h1,h2,h3,h4,h7,h5⟩:=h
  simp only[blkRep]
  rw[E.scoped_L he hs.1,E.scoped_I he hs.2.1,E.scoped_I he hs.2.2.1,E.scoped_I he hs.2.2.2]
  refine⟨h1,h2,h3,h4,h7,fun h6=>?_⟩
  obtain⟨k1,k2,arr,k3,k4,k5⟩:=h5 h6
  exact⟨k1,k2,arr,k3,k4.mono he.fz,k5⟩
theorem SObj.inner_ext{ρ ρ':Env}(he:ρ.Ext ρ'){o:SObj}(hs:o.scp ρ.vs.length ρ.bs.length=true){r:Nat}:o.inner ρ' r↔o.inner ρ r:=by
 cases o with
 |nest ks l n af elem own=>
  simp only[SObj.scp,Bool.and_eq_true]at hs
  show(∃i,gv ks (own.I ρ'*ks.length) _ i r)↔(∃i,gv ks (own.I ρ*ks.length) _ i r)
  rw[E.scoped_L he hs.1,E.scoped_I he hs.2.2.2]
 |_=>rfl
theorem SObj.real_ext{ρ ρ':Env}(he:ρ.Ext ρ'){o:SObj}(hs:o.scp ρ.vs.length ρ.bs.length=true):o.real ρ'↔o.real ρ:=by
 cases o with
 |flat ks l n af elem=>
  simp only[SObj.scp]at hs;show 0<af.I _↔0<af.I ρ;grind[E.scoped_I]
 |nest ks l n af elem own=>
  simp only[SObj.scp]at hs;show 0<af.I _↔0<af.I ρ;grind[E.scoped_I]
 |_=>rfl
theorem blkRep.world{ρ:Env}{w w':World}{r off:Nat}{nil:Bool}{o:SObj}(h:blkRep ρ w r off nil o)(hw:o.real ρ->w'.heap[r]?=w.heap[r]?)(hi:∀x,o.inner ρ x->w'.heap[x]?=w.heap[x]?):blkRep ρ w' r off nil o:=by
 cases o with
 |gone=>trivial
 |cells cs af elem=>
  obtain⟨hn,h0,hk,arr,h1,h2⟩:=h
  exact⟨hn,h0,hk,arr,by rw[hw trivial];omega,h2⟩
 |flat ks l n af elem=>
  obtain⟨h1,h2,h3,h4,h5⟩:=h
  refine⟨h1,h2,h3,h4,fun h6=>?_⟩
  obtain⟨k1,k2,arr,k3,k4⟩:=h5 h6
  exact⟨k1,k2,arr,by rw[hw h6];omega,k4⟩
 |map es clk=>
  obtain⟨entries,clock,h1,h2⟩:=h
  exact⟨entries,clock,by rw[hw trivial];omega,h2⟩
 |mapl k c e=>
  obtain⟨entries,clock,h1,h2⟩:=h
  exact⟨entries,clock,by rw[hw trivial];omega,h2⟩
 |maplp k c e ke s=>
  obtain⟨entries,clock,h1,h2⟩:=h
  exact⟨entries,clock,by rw[hw trivial];omega,h2⟩
 |iter k c e n u=>exact⟨h.1,h.2.1.world (hw trivial),fun x hx=>(h.2.2 x hx).world (hw trivial)⟩
 |nest ks l n af elem own=>
  obtain⟨h1,h2,h3,h4,h7,h5⟩:=h
  refine⟨h1,h2,h3,h4,h7,fun h6=>?_⟩
  obtain⟨k1,k2,arr,k3,k4,k5⟩:=h5 h6
  exact⟨k1,k2,arr,by rw[hw h6];omega,k4.world fun i x hx=>hi x ⟨i,hx⟩,k5⟩
theorem blkRep.inner_lt{ρ:Env}{w:World}{r off:Nat}{nil:Bool}{o:SObj}(h:blkRep ρ w r off nil o){x:Nat}(hx:o.inner ρ x):x<w.heap.size:=by
 cases o with
 |nest ks l n af elem own=>
  obtain⟨h1,h2,h3,h4,h7,h5⟩:=h
  obtain⟨i,u,ks',g1,g2,g3,g4⟩:=hx
  have hn:0<n.I ρ:=by
   grind
  obtain⟨k1,k2,arr,k3,k4,k5⟩:=h5 (by omega)
  obtain⟨c,e1,e2,e3⟩:=k4 i u g1
  rw[g2]at e1
  simp only[Option.some.injEq]at e1;subst e1;exact rowN.lt (e3.1 g4) g3
 |_=>exact hx.elim
theorem blkRep.lt{ρ:Env}{w:World}{r off:Nat}{nil:Bool}{o:SObj}(h:blkRep ρ w r off nil o)(hl:o.real ρ):r<w.heap.size:=by
 cases o with
 |gone=>cases hl
 |cells cs af elem=>obtain⟨_,_,_,arr,h1,_⟩:=h;grind
 |flat ks l n af elem=>obtain⟨_,_,_,_,h5⟩:=h;obtain⟨_,_,arr,k3,_⟩:=h5 hl;grind
 |map es clk=>obtain⟨entries,clock,h1,_⟩:=h;grind
 |mapl k c e=>obtain⟨entries,clock,h1,_⟩:=h;grind
 |maplp k c e ke s=>obtain⟨entries,clock,h1,_⟩:=h;grind
 |iter k c e n u=>obtain⟨_,⟨mb,en,cl,se,h1,_⟩,_⟩:=h;grind
 |nest ks l n af elem=>obtain⟨_,_,_,_,_,h5⟩:=h;obtain⟨_,_,arr,k3,_⟩:=h5 hl;grind
theorem RepW.held_lt{B:Base}{ρ:Env}{st:St}{w:World}(h:RepW B ρ st w){r:Nat}(hr:jX ρ st.heap r):r<w.heap.size:=by
 obtain⟨j,b,hb,hx⟩:=hr
 exact blkRep.inner_lt (h.blk j b hb).2.1 hx
def Env.more(ρ:Env)(us:List U):Env:=⟨ρ.vs++us,ρ.bs,ρ.fz⟩
theorem Env.more_ext(ρ:Env)(us:List U):ρ.Ext (ρ.more us):=⟨⟨us,rfl⟩,⟨[],by simp[Env.more]⟩,fun _ _ h=>h⟩
theorem RepW.ext_pc{B:Base}{ρ ρ':Env}{st:St}{w:World}(h:RepW B ρ st w)(hs:st.scp=true)(he:ρ.Ext ρ'):∀e∈st.pc,e.B ρ'=true:=by
 simp only[St.scp,Bool.and_eq_true]at hs;intro e hm
 have:=Ey _ hs.1 e hm
 rw[<- h.nv]at this
 rw[E.scoped_B he this];exact h.pc e hm
theorem RepW.blk_scp{B:Base}{ρ:Env}{st:St}{w:World}(h:RepW B ρ st w)(hs:st.scp=true){i:Nat}{b:Blk}(hb:st.heap.get i=some b):b.obj.scp ρ.vs.length ρ.bs.length=true:=by
 simp only[St.scp,Bool.and_eq_true]at hs;have hsc:=T.all_get _ hs.2 i b hb
 rw[h.nv,h.nb];exact hsc
theorem RepW.more{B:Base}{ρ:Env}{st:St}{w:World}(h:RepW B ρ st w)(hs:st.scp=true)(us:List U)(pc:List E)(hpc:∀e∈pc,e.B (ρ.more us)=true):
  RepW B (ρ.more us) {st with nv:=st.nv+us.length,pc:=pc++st.pc} w:=by
 have he:=ρ.more_ext us
 refine⟨by simp[Env.more,h.nv],h.nb,?_,?_,?_,h.inn.next (fun i b hb=>.inl ⟨b,hb,(SObj.real_ext he (h.blk_scp hs hb)).1,rfl,fun r=>(SObj.inner_ext he (h.blk_scp hs hb)).1⟩) (fun _ _ hf=>hf),h.fz,h.fr,h.dj,h.os,h.tape,h.output⟩
 ·intro e hm;rcases List.mem_append.1 hm with hm|hm
  ·grind
  ·exact h.ext_pc hs he e hm
 ·intro i b hb
  obtain⟨h1,h2,h3⟩:=h.blk i b hb
  have hsc:=h.blk_scp hs hb
  exact⟨h1,h2.ext he hsc,fun hl=>h3 ((SObj.real_ext he hsc).1 hl)⟩
 ·intro i j a b ha hb la lb oa ob hij;exact h.inj i j a b ha hb ((SObj.real_ext he (h.blk_scp hs ha)).1 la) ((SObj.real_ext he (h.blk_scp hs hb)).1 lb) oa ob hij
def Env.push(ρ:Env)(k:Bk):Env:=⟨ρ.vs,ρ.bs++[k],ρ.fz⟩
theorem Env.push_ext(ρ:Env)(k:Bk):ρ.Ext (ρ.push k):=⟨⟨[],by simp[Env.push]⟩,⟨[k],rfl⟩,fun _ _ h=>h⟩
theorem Env.push_blk{ρ:Env}{k:Bk}{n:Nat}(h:ρ.bs.length=n):(ρ.push k).blk n=k.blk/\(ρ.push k).off n=k.off/\(ρ.push k).nil n=k.nil:=by
 grind[Env.push,Env.blk,Env.off,Env.nil]
theorem RepW.alloc{B:Base}{ρ:Env}{st:St}{w:World}(h:RepW B ρ st w)(hs:st.scp=true){obj:SObj}{o:Obj}
  (hrep:∀w':World,w'.heap=w.heap.push o->blkRep (ρ.push ⟨w.heap.size,0,none⟩) w' w.heap.size 0 false obj)
  (hin:∀r,¬obj.inner (ρ.push ⟨w.heap.size,0,none⟩) r:=by intro r h;exact h):
  RepW B (ρ.push ⟨w.heap.size,0,none⟩) {st with nb:=st.nb+1,heap:=st.heap.ins st.nb ⟨true,obj⟩} {w with heap:=w.heap.push o}:=by
 have hext:=ρ.push_ext ⟨w.heap.size,0,none⟩
 obtain⟨hnew,hnewo,hnewn⟩:=Env.push_blk (k:=⟨w.heap.size,0,none⟩) h.nb
 have hlive:=fun i b hb hl=>(h.blk i b hb).2.1.lt hl
 have hfz:=fun r o ho=>(Array.getElem?_eq_some_iff.1 (h.fz r o ho)).1
 have hheld:∀r,jX ρ _ r->r<w.heap.size:=fun r ⟨j,b,hb,hx⟩=>(h.blk j b hb).2.1.inner_lt hx
 have hinn:Inn B (ρ.push ⟨w.heap.size,0,none⟩) (st.heap.ins st.nb ⟨true,obj⟩):=by
  refine h.inn.next (fun i b hb=>?_) (fun _ _ hf=>hf);by_cases hi:i=st.nb
  ·grind[T.get_ins_self]
  ·rw[T.get_ins_ne _ _ _ _ hi]at hb
   have hlt:i<ρ.bs.length:=by rw[h.nb];exact(h.blk i b hb).1
   exact .inl ⟨b,hb,(SObj.real_ext hext (h.blk_scp hs hb)).1,hext.blk hlt,fun r=>(SObj.inner_ext hext (h.blk_scp hs hb)).1⟩
 refine⟨h.nv,by simp[Env.push,h.nb],h.ext_pc hs hext,?_,?_,hinn,?_,?_,h.dj,h.os,h.tape,h.output⟩
 ·intro i b hb;by_cases hi:i=st.nb
  ·subst hi
   have:=T.get_ins_self _ _ _ _ hb
   subst this
   refine⟨Nat.lt_succ_self _,?_,fun _=>⟨fun _=>?_,fun _=>rfl⟩⟩
   ·rw[hnew,hnewo,hnewn];exact hrep _ rfl
   ·rw[hnew]
    exact h.free_ge (Nat.le_refl _)
  ·rw[T.get_ins_ne _ _ _ _ hi]at hb
   obtain⟨h1,h2,h3⟩:=h.blk i b hb
   have hlt:i<ρ.bs.length:=by rw[h.nb];omega
   have hsc:=h.blk_scp hs hb
   refine⟨Nat.lt_succ_of_lt h1,?_,fun ho=>by rw[hext.blk hlt];exact h3 ((SObj.real_ext hext hsc).1 ho)⟩
   rw[hext.blk hlt,hext.off hlt,hext.nil hlt]
   refine(h2.ext hext hsc).world (fun hl=>?_) (fun x hx=>?_)
   ·grind[SObj.real_ext]
   ·have:=hheld x ⟨i,b,hb,(SObj.inner_ext hext hsc).1 hx⟩
    grind
 ·intro i j a b ha hb la lb oa ob hij;by_cases hi:i=st.nb
  ·subst hi;have hj:j≠st.nb:=fun e=>hij e.symm
   rw[T.get_ins_ne _ _ _ _ hj]at hb
   have h1:=hlive j b hb ((SObj.real_ext hext (h.blk_scp hs hb)).1 lb);have hlt:j<ρ.bs.length:=by rw[h.nb];exact(h.blk j b hb).1
   rw[hnew,hext.blk hlt];grind
  ·rw[T.get_ins_ne _ _ _ _ hi]at ha
   have hlti:i<ρ.bs.length:=by rw[h.nb];exact(h.blk i a ha).1
   have la':=(SObj.real_ext hext (h.blk_scp hs ha)).1 la;by_cases hj:j=st.nb
   ·subst hj
    rw[hnew,hext.blk hlti];grind
   ·rw[T.get_ins_ne _ _ _ _ hj]at hb
    have hltj:j<ρ.bs.length:=by rw[h.nb];exact(h.blk j b hb).1
    rw[hext.blk hlti,hext.blk hltj]
    exact h.inj i j a b ha hb la' ((SObj.real_ext hext (h.blk_scp hs hb)).1 lb) oa ob hij
 ·intro r o' ho;have h1:=hfz r o' ho
  rw[Array.getElem?_push,if_neg (by omega)]
  exact h.fz r o' ho
 ·intro r o' ho;have h1:=(Array.getElem?_eq_some_iff.1 (h.fr r o' ho)).1
  rw[Array.getElem?_push,if_neg (by omega)]
  exact h.fr r o' ho
end Go.SX

namespace Go.SX
section
variable {P:Program} {tb:Tab} (ht:TabOk P tb)
theorem jL{o:Off}{n:Nat}(h:gL o=some n)(ρ:Env):o.den ρ=n:=by
 grind[gL,Off.den]
theorem n6{w:World}{b j:Nat}{arr:Array Value}{t:TypeId}{fr:Nat×Nat}(h:w.heap[b]?=some (.cells arr t fr)):w.cell? ⟨b,j,none⟩=arr[j]?:=by
 simp[World.cell?,h]
include ht
theorem L5{B:Base}{ρ:Env}{st:St}{w:World}(hr:RepW B ρ st w){t:TypeId}{x v:SV}(h:vd tb st t x=some v):
  ∃a,x.den ρ=.pointer (some a)/\(loadVar t a).run P w=.ok (v.den ρ) w:=by
 unfold vd at h;split at h
 ·rename_i b o;split at h
  ·rename_i own cs af elem hb;split at h
   ·rename_i n hn;have ho:=jL hn ρ
    obtain⟨_,⟨_,h0,_,arr,h1,h2,h3⟩,_⟩:=hr.blk _ _ hb
    refine⟨⟨ρ.blk b,n,none⟩,by rw[SV.den,ho,h0,Nat.zero_add],?_⟩
    split at h
    ·rename_i hagg;split at h
     ·rename_i sz hsz;split at h
      ·rename_i l hl;simp only[Option.some.injEq]at h;subst h
       obtain⟨hl1,hl2⟩:=qB _ _ _ hl
       rw[sb]at hl1 hl2
       have hld:=
        run_loadCells_list (P:=P) w ⟨ρ.blk b,n,none⟩ (SV.dens ρ l) (fun j v hv=>by
         grind[gG,n6,SV.dens_eq])
       have hdl:(SV.dens ρ l).length=sz:=by simp_all[SV.dens_eq]
       rw[hdl]at hld
       simp only[loadVar,Sem.run_bind,ht.run_agg hagg,Result.andThen_ok,if_true,ht.run_size hsz,hld,Sem.run_pure,SV.den]
      ·cases h
     ·cases h
    ·rename_i hagg
     rw[ee]at h
     simp only[loadVar,Sem.run_bind,ht.run_agg hagg,Result.andThen_ok,Bool.false_eq_true,if_false,run_load,n6 h1,h3 _ _ h]
    ·cases h
   ·cases h
  ·cases h
 ·cases h
omit ht in
theorem rQ:∀(l:List SV),nY l=true->∀v∈l,v.one=true
 |[],_,v,hv=>by cases hv
 |x::l,h,v,hv=>by
  simp only[nY,Bool.and_eq_true]at h;cases hv with
  |head=>exact h.1
  |tail _ hm=>exact rQ l h.2 v hm
omit ht in
theorem qk{v:SV}(h:v.one=true)(ρ:Env):(v.den ρ).oneCell'=true:=by
 cases v<;>simp[SV.one]at h;case bsl ks e=>simp only[SV.den];unfold U.raw;grind[Value.oneCell']
 case nsl b ks e i c=>simp only[SV.den];unfold U.raw;grind[Value.oneCell']
 all_goals rfl
omit ht in
theorem RepW.putObj{B:Base}{ρ:Env}{st:St}{w w':World}(hr:RepW B ρ st w){b:Nat}{obj obj':SObj}(hb:st.heap.get b=some ⟨true,obj⟩)(hl:obj.real ρ)
  (hheap:∀r,r≠ρ.blk b->w'.heap[r]?=w.heap[r]?)(ho:w'.os=w.os)(ht:w'.tape=w.tape)(hu:w'.output=w.output)
  (hc:blkRep ρ w' (ρ.blk b) (ρ.off b) (ρ.nil b) obj')(hin:∀r,obj'.inner ρ r->obj.inner ρ r:=by intro r h;exact False.elim h):
  RepW B ρ {st with heap:=st.heap.set b ⟨true,obj'⟩} w':=by
 have hnk:=((hr.blk _ _ hb).2.2 hl).1 rfl;have hinn:Inn B ρ (st.heap.set b ⟨true,obj'⟩):=by
  refine hr.inn.next (fun i x hx=>?_) (fun _ _ hf=>hf);grind[T.get_set]
 refine⟨hr.nv,hr.nb,hr.pc,?_,?_,hinn,?_,?_,hr.dj,by rw[ho,hr.os],by rw[ht,hr.tape],by rw[hu,hr.output]⟩
 ·intro i x hx
  rw[T.get_set]at hx
  by_cases hi:i=b
  ·subst hi
   rw[if_pos rfl,hb]at hx
   simp only[Option.map_some,Option.some.injEq]at hx;subst hx
   exact⟨(hr.blk _ _ hb).1,hc,fun _=>⟨fun _=>hnk,fun _=>rfl⟩⟩
  ·rw[if_neg hi]at hx
   obtain⟨k1,k2,k3⟩:=hr.blk _ _ hx
   exact⟨k1,k2.world (fun hlx=>hheap _ (hr.apart hx hb hlx hl (.inr rfl) hi)) (fun r hr'=>hheap _ fun e=>((hr.inn i x hx r hr').2 b _ hb).1 hl e.symm),k3⟩
 ·intro i j x y hx hy lx ly ox oy hij
  rw[T.get_set]at hx hy
  have hx':∃x',st.heap.get i=some x'/\x'.obj.real ρ/\x'.own=true:=by
   grind
  have hy':∃y',st.heap.get j=some y'/\y'.obj.real ρ/\y'.own=true:=by
   grind
  obtain⟨x',hx1,hx2,hx3⟩:=hx'
  obtain⟨y',hy1,hy2,hy3⟩:=hy'
  exact hr.inj i j x' y' hx1 hy1 hx2 hy2 hx3 hy3 hij
 ·intro r o hk
  rw[hheap r (fun e=>by rw[e,hnk.1]at hk;cases hk)]
  exact hr.fz r o hk
 ·intro r o hk
  rw[hheap r (fun e=>by rw[e,hnk.2]at hk;cases hk)]
  exact hr.fr r o hk
omit ht in
theorem RepW.put{B:Base}{ρ:Env}{st:St}{w:World}(hr:RepW B ρ st w){b:Nat}{obj obj':SObj}(hb:st.heap.get b=some ⟨true,obj⟩)(hl:obj.real ρ)
  {arr arr':Array Value}{elem:TypeId}(h1:w.heap[ρ.blk b]?=some (.cells arr elem (0,0)))
  (hc:∀w':World,w'.heap[ρ.blk b]?=some (.cells arr' elem (0,0))->blkRep ρ w' (ρ.blk b) (ρ.off b) (ρ.nil b) obj')(hin:∀r,obj'.inner ρ r->obj.inner ρ r:=by intro r h;exact False.elim h):
  RepW B ρ {st with heap:=st.heap.set b ⟨true,obj'⟩} (w.setRow (ρ.blk b) arr'):=by
 have hheap:∀r,(w.setRow (ρ.blk b) arr').heap[r]?=if r=ρ.blk b then some (.cells arr' elem (0,0))else w.heap[r]?:=by
  grind[World.setRow]
 exact hr.putObj hb hl (fun r hr=>by simp_all) rfl rfl rfl (hc _ (by simp_all)) hin
omit ht in
theorem RepW.row{B:Base}{ρ:Env}{st:St}{w:World}(hr:RepW B ρ st w){b:Nat}{cs cs':List SV}{af:E}{elem:TypeId}(hb:st.heap.get b=some ⟨true,.cells cs af elem⟩)
  {arr arr':Array Value}(h1:w.heap[ρ.blk b]?=some (.cells arr elem (0,0)))(hsz:arr'.size=arr.size)(hk:SV.oks ρ cs')
  (hc:∀(j:Nat)(v:SV),cs'[j]?=some v->arr'[j]?=some (v.den ρ))(hsize:arr.size=(af.I ρ).toNat):
  RepW B ρ {st with heap:=st.heap.set b ⟨true,.cells cs' af elem⟩} (w.setRow (ρ.blk b) arr'):=
 hr.put hb trivial h1 fun w' hw'=>⟨(hr.blk _ _ hb).2.1.1,(hr.blk _ _ hb).2.1.2.1,hk,arr',hw',by rw[hsz,hsize],hc⟩
theorem ae8{B:Base}{ρ:Env}{st st':St}{w:World}(hr:RepW B ρ st w){t:TypeId}{x v:SV}(hv:v.ok ρ)(h:F4 tb st t x v=some st'):
  ∃a w',x.den ρ=.pointer (some a)/\(storeVar t a (v.den ρ)).run P w=.ok () w'/\RepW B ρ st' w':=by
 unfold F4 at h;split at h
 ·rename_i b o;split at h
  ·rename_i cs af elem hb;split at h
   ·rename_i n hn;have ho:=jL hn ρ
    obtain⟨_,⟨_,h0,hk,arr,h1,h2,h3⟩,_⟩:=hr.blk _ _ hb
    split at h
    ·rename_i sz hsz;split at h
     ·rename_i hc;simp only[Bool.and_eq_true]at hc;have hlen:v.cells.length=sz:=Nat.eq_of_beq_eq_true hc.1;split at h
      ·rename_i cs' hcs
       obtain⟨k1,k2⟩:=zH _ _ _ _ hcs
       rw[T.setK_eq]at h
       simp only[Option.some.injEq]at h;subst h;have hcl:(v.den ρ).cells.toList.length=v.cells.length:=by rw[SV.cells_den];simp
       have hca:cs.length<=arr.size:=by
        rcases Nat.lt_or_ge 0 cs.length with hpos|hpos
        ·have hlast:=h3 (cs.length-1) (cs[cs.length-1]'(by omega)) (by simp);have hlt:cs.length-1<arr.size:=(Array.getElem?_eq_some_iff.1 hlast).1;omega
        ·omega
       have hle:n+0+(v.den ρ).cells.toList.length<=arr.size:=by rw[hcl];omega
       have hst:=run_storeCells_at (P:=P) (ρ.blk b) n elem (v.den ρ).cells.toList 0 arr w h1 hle (by
        intro y hy
        rw[SV.cells_den]at hy
        obtain⟨s,hs,rfl⟩:=List.mem_map.1 hy
        exact qk (rQ _ hc.2 s hs) ρ)
       refine⟨⟨ρ.blk b,n,none⟩,_,by rw[SV.den,ho,h0,Nat.zero_add],?_,RepW.row hr hb h1 (arr':=(arr.toList.take (n+0)++(v.den ρ).cells.toList++arr.toList.drop (n+0+(v.den ρ).cells.toList.length)).toArray) ?_ (E4 hk (SV.cells_ok hv) hcs) ?_ h2⟩
       ·have hs1:(v.den ρ).cells.size=sz:=by rw[SV.cells_size];exact hlen
        simp only[storeVar,Sem.run_bind,ht.run_size hsz,Result.andThen_ok,hs1,ne_eq,not_true_eq_false,if_false,hst]
       ·simp only[List.size_toArray,List.length_append,List.length_take,List.length_drop,Array.length_toList]at hle ⊢;omega
       ·intro j y hj
        rw[k1]at hj
        simp only[List.getElem?_toArray]
        rw[hcl,Nat.add_zero,SV.cells_den]
        have hle':n+v.cells.length<=arr.size:=by rw[hcl]at hle;omega
        by_cases h4:j<n
        ·rw[List.getElem?_append_left (by simp;omega),List.getElem?_append_left (by simp;omega),List.getElem?_take_of_lt h4]at hj
         rw[List.getElem?_append_left (by simp;omega),List.getElem?_append_left (by simp;omega),List.getElem?_take_of_lt h4]
         simpa using h3 _ _ hj
        ·by_cases h5:j<n+v.cells.length
         ·rw[List.getElem?_append_left (by simp;omega),List.getElem?_append_right (by simp;omega)]at hj
          rw[List.getElem?_append_left (by simp;omega),List.getElem?_append_right (by simp;omega)]
          simp only[List.length_take,Array.length_toList]at hj ⊢;have e1:min n cs.length=n:=by omega
          have e2:min n arr.size=n:=by omega
          rw[e1]at hj;rw[e2]
          simp[hj]
         ·rw[List.getElem?_append_right (by simp;omega)]at hj
          rw[List.getElem?_append_right (by simp;omega)]
          simp only[List.length_append,List.length_take,Array.length_toList,List.getElem?_drop,List.length_map]at hj ⊢;have e1:min n cs.length=n:=by omega
          have e2:min n arr.size=n:=by omega
          rw[e1]at hj;rw[e2]
          have e3:n+v.cells.length+(j-(n+v.cells.length))=j:=by omega
          rw[e3]at hj ⊢
          simpa using h3 _ _ hj
      ·cases h
     ·cases h
    ·cases h
   ·cases h
  ·cases h
 ·cases h
omit ht in
theorem Mn{B:Base}{ρ:Env}{st st':St}{w:World}(hr:RepW B ρ st w){t:Tm}{a:Act}(hT:TmRep ρ t a){elem:TypeId}{cs:List SV}(hk:SV.oks ρ cs){v:SV}(h:sO t st elem cs=some (v,st')):
  v=.ptr st.nb ⟨0,0,.int 0⟩/\∃ρ' w',ρ.Ext ρ'/\RepW B ρ' st' w'/\TmRep ρ' t a/\ρ'.off st.nb=0/\ρ'.nil st.nb=false/\(newRow elem (SV.dens ρ cs).toArray).run P w=.ok ⟨ρ'.blk st.nb,0,none⟩ w':=by
 unfold sO at h;split at h
 ·rename_i hc;simp only[Bool.and_eq_true]at hc
  rw[T.insK_eq]at h
  obtain⟨rfl,rfl⟩:=h
  obtain⟨e1,e2,e3⟩:=Env.push_blk (ρ:=ρ) (k:=⟨w.heap.size,0,none⟩) hr.nb
  have hext:=ρ.push_ext ⟨w.heap.size,0,none⟩;have hs:=hc.2
  rw[<- hr.nv,<- hr.nb]at hs
  refine⟨rfl,ρ.push _,{w with heap:=w.heap.push (.cells (SV.dens ρ cs).toArray elem)},hext,?_,?_,e2,e3,?_⟩
  ·refine hr.alloc hc.1.1 (fun w' hw'=>?_)
   refine⟨rfl,rfl,SV.oks_ext hext cs hs hk,(SV.dens ρ cs).toArray,by simp_all,?_,?_⟩
   ·grind[E.I_int,SV.dens_eq]
   ·intro j y hj
    rw[SV.scoped_den hext y (zx _ hs y (List.mem_of_getElem? hj))]
    simp[SV.dens_eq,hj]
  ·refine hT.ext hext ?_
   rw[hr.nv,hr.nb];simp_all
  simp_all[newRow]
 ·cases h
omit ht in
theorem qp{s:Sem Unit}{w w':World}(h:s.run P w=.ok () w'):(do s;pure Next.skip:Sem Next).run P w=.ok .skip w':=by
 simp_all
omit ht in
theorem NV(v:SV)(ρ:Env):(v.den ρ).cells=(SV.dens ρ v.cells).toArray:=by
 grind[SV.cells_den,SV.dens_eq]
omit ht in
theorem aFI(z:List SV)(ρ:Env):∀(n:Nat),((Array.range (n*z.length)).map (fun i=>(SV.dens ρ z).toArray[i%(SV.dens ρ z).toArray.size]!)).toList=SV.dens ρ (mY z n):=by
 intro n;induction n with
 |zero=>simp[mY,SV.dens]
 |succ n ih=>
  simp only[mY,SV.dens_eq,List.map_append]at ih ⊢;simp only[Array.toList_map,Array.toList_range]at ih ⊢;have e:(n+1)*z.length=z.length+n*z.length:=by grind
  rw[e,List.range_add,List.map_append]
  congr 1
  ·apply List.ext_getElem?;grind[Nat.mod_eq_of_lt]
  simp_all[List.map_congr_left]
end
end Go.SX

namespace Go.SX
theorem aaf(n:Nat):∀(l:List E),∀x∈Du n l,x∈l
 |[],x,h=>h
 |y::l,x,h=>by
  have h':x∈(Bool.rec (Du n l) (y::Du n l) (Nat.beq (NU y) n):List E):=h;have ih:=aaf n l x;cases hb:Nat.beq (NU y) n with
  |false=>simp_all
  |true=>
   rw[hb]at h'
   grind
theorem aae(n:Nat):∀(l:List E),∀x∈Dt n l,x∈l
 |[],x,h=>h
 |y::l,x,h=>by
  have h':x∈(Bool.rec (Dt n l) (y::Dt n l) (Nat.beq (lJ y) n):List E):=h;have ih:=aae n l x;cases hb:Nat.beq (lJ y) n with
  |false=>simp_all
  |true=>
   rw[hb]at h'
   grind
theorem KZ(n:Nat):∀(l:List E),∀x∈yF n l,x∈l
 |[],x,h=>h
 |y::l,x,h=>by
  have h':x∈(Bool.rec (yF n l) (y::yF n l) (Nat.beq (bT y) n):List E):=h;have ih:=KZ n l x;cases hb:Nat.beq (bT y) n with
  |false=>simp_all
  |true=>
   rw[hb]at h'
   grind
theorem abg{ρ:Env}:∀(pc:List E)(e:E),(∀x∈pc,x.B ρ=true)->y4 e pc=true->e.B ρ=true
 |[],e,_,h=>by grind[y4]
 |x::xs,e,hp,h=>by
  simp only[y4]at h;split at h
  ·grind[E.beq_eq]
  ·exact abg xs e (fun y hy=>hp y (by grind)) h
theorem abh{ρ:Env}(pc:List E)(e:E)(hp:∀x∈pc,x.B ρ=true)(h:pS e pc=true):e.B ρ=true:=by
 grind[pS,jf,abg,aae]
theorem aAZ{ρ:Env}{pc:List E}(hp:∀x∈pc,x.B ρ=true)(e:E):rP pc e=true->e.B ρ=true:=by
 induction e with
 |and a b ia ib=>
  intro h;simp only[rP]at h;split at h
  ·have hq:a.B ρ=true:=by
    grind[Yr,abh]
   simp_all
  ·split at h;all_goals simp_all
 |_=>grind[abh,rP]
theorem aaD{ρ:Env}{pc:List E}(hp:∀x∈pc,x.B ρ=true)(e:E):∀(l:List E),(∀x∈l,x.B ρ=true)->su pc e l=true->e.B ρ=true
 |[],_,h=>by grind[su]
 |x::xs,hl,h=>by
  have hx:=hl x (by simp);have ih:=aaD hp e xs (fun y hy=>hl y (by grind));unfold su at h;grind[aAZ,E.B_imp,E.beq_eq]
theorem DG{ρ:Env}{pc:List E}(hp:∀x∈pc,x.B ρ=true)(e:E)(l:List E)(hl:∀x∈l,x.B ρ=true)(h:uO pc e l=true):e.B ρ=true:=by
 grind[uO,jf,aaD,aaf]
theorem abL{a b:Int}:(cK .lss a b=true)↔a<b:=by simp[cK]
theorem oF{a b:Int}:(cK .lss a b=false)↔b<=a:=by
 grind[cK]
theorem mH{a b:Int}:(cK .eql a b=true)↔a=b:=by simp[cK]
theorem uC{a b:Int}:(cK .eql a b=false)↔a≠b:=by simp[cK]
theorem Mc{a:Option Int}{b c:Int}(ha:∀x,a=some x->x<=c)(hb:b<=c):∀x,zv a b=some x->x<=c:=by
 intro x hx;unfold zv at hx;split at hx
 ·rename_i y;simp only[Option.some.injEq]at hx;grind[lS]
 grind
theorem Mf{a:Option Int}{b c:Int}(ha:∀x,a=some x->c<=x)(hb:c<=b):∀x,zy a b=some x->c<=x:=by
 intro x hx;unfold zy at hx;split at hx
 ·rename_i y;simp only[Option.some.injEq]at hx;grind[oG]
 grind
theorem abF{ρ:Env}{c:E}:∀(pc:List E)(r:Option Int),(∀x∈pc,x.B ρ=true)->(∀x,r=some x->x<=c.I ρ)->∀x,mR c pc r=some x->x<=c.I ρ
 |[],r,_,hr,x,h=>hr x h
 |e::es,r,hp,hr,x,h=>by
  have he:=hp e (by simp);have ih:=fun r'=>abF (c:=c) es r' (fun y hy=>hp y (by grind))
  unfold mR at h;split at h
  ·rename_i a k;split at h
   ·rename_i hb;refine ih _ (Mc hr ?_) x h;have h1:=ku ρ a
    rw[E.beq_eq hb]at h1
    grind[E.B_not,E.B_cmp,E.I_int,oF]
   grind
  ·rename_i k a;split at h
   ·rename_i hb;refine ih _ (Mc hr ?_) x h;have h1:=ku ρ a
    rw[E.beq_eq hb]at h1
    grind[E.B_cmp,E.I_int,oF]
   grind
  ·rename_i a k;split at h
   ·rename_i hb;refine ih _ (Mc hr ?_) x h;have h1:=ku ρ a
    rw[E.beq_eq hb]at h1
    grind[E.B_cmp,E.I_int,mH]
   grind
  grind
theorem aaM{ρ:Env}{c:E}:∀(pc:List E)(r:Option Int),(∀x∈pc,x.B ρ=true)->(∀x,r=some x->c.I ρ<=x)->∀x,mM c pc r=some x->c.I ρ<=x
 |[],r,_,hr,x,h=>hr x h
 |e::es,r,hp,hr,x,h=>by
  have he:=hp e (by simp);have ih:=fun r'=>aaM (c:=c) es r' (fun y hy=>hp y (by grind))
  unfold mM at h;split at h
  ·rename_i k a;split at h
   ·rename_i hb;refine ih _ (Mf hr ?_) x h;have h1:=ku ρ a
    rw[E.beq_eq hb]at h1
    grind[E.B_not,E.B_cmp,E.I_int,oF]
   grind
  ·rename_i a k;split at h
   ·rename_i hb;refine ih _ (Mf hr ?_) x h;have h1:=ku ρ a
    rw[E.beq_eq hb]at h1
    grind[E.B_cmp,E.I_int,oF]
   grind
  ·rename_i a k;split at h
   ·rename_i hb;refine ih _ (Mf hr ?_) x h;have h1:=ku ρ a
    rw[E.beq_eq hb]at h1
    grind[E.B_cmp,E.I_int,mH]
   grind
  grind
theorem Mk{ρ:Env}{e:E}(h:zC e=true):0<=e.I ρ:=by
 unfold zC at h;split at h
 ·rename_i f a;split at h
  ·exact Int.natCast_nonneg _
  ·exact Int.ediv_nonneg (Int.natCast_nonneg _) (Int.natCast_nonneg _)
  ·exact Int.natCast_nonneg _
  ·exact Int.natCast_nonneg _
  ·exact Int.natCast_nonneg _
  ·exact Int.natCast_nonneg _
  grind
 grind
theorem Mm{ρ:Env}{c:E}{k:Int}:∀(pc:List E),(∀x∈pc,x.B ρ=true)->sM c k pc=true->c.I ρ≠k
 |[],_,h=>by grind[sM]
 |e::es,hp,h=>by
  have ih:=Mm (c:=c) (k:=k) es (fun y hy=>hp y (by grind));unfold sM at h;split at h
  ·split at h
   ·rename_i hb
    rw[Bool.and_eq_true]at hb
    have h1:=E.beq_eq hb.1;have h2:=uS hb.2;grind[List.mem_cons_self,E.B_not,E.B_cmp,E.I_int,uC,ku]
   grind
  grind
theorem YT{ρ:Env}{pc:List E}{c:E}(hp:∀x∈pc,x.B ρ=true):∀(n:Nat)(k:Int),k<=c.I ρ->CP pc c n k<=c.I ρ
 |0,k,h=>h
 |n+1,k,h=>by
  unfold CP;split
  ·rename_i hn
   have:=Mm pc hp hn
   exact YT hp n _ (by omega)
  omega
theorem YS{ρ:Env}{pc:List E}{c:E}(hp:∀x∈pc,x.B ρ=true):∀(n:Nat)(k:Int),c.I ρ<=k->c.I ρ<=CO pc c n k
 |0,k,h=>h
 |n+1,k,h=>by
  unfold CO;split
  ·rename_i hn
   have:=Mm pc hp hn
   exact YS hp n _ (by omega)
  omega
theorem aEp{ρ:Env}{pc:List E}{c:E}(hp:∀x∈pc,x.B ρ=true){x:Int}(h:L3 c pc=some x):x<=c.I ρ:=by
 unfold L3 at h;split at h
 ·rename_i k hk;simp only[Option.some.injEq]at h;subst h;refine YT hp 4 k (abF pc _ hp ?_ k hk);intro y hy;split at hy
  ·rename_i hn;simp only[Option.some.injEq]at hy;subst hy;exact Mk hn
  grind
 grind
theorem aDz{ρ:Env}{pc:List E}{c:E}(hp:∀x∈pc,x.B ρ=true){x:Int}(h:Ll c pc=some x):c.I ρ<=x:=by
 unfold Ll at h;split at h
 ·rename_i k hk;simp only[Option.some.injEq]at h;subst h;exact YS hp 4 k (aaM pc _ hp (fun _ h=>by cases h) k hk)
 grind
theorem L4{ρ:Env}{pc:List E}{c:E}(hp:∀x∈pc,x.B ρ=true){x:Int}(h:sH pc c=some x):x<=c.I ρ:=by
 unfold sH at h
 rw[jf]at h
 exact aEp (fun y hy=>hp y (KZ _ _ y hy)) h
theorem Lm{ρ:Env}{pc:List E}{c:E}(hp:∀x∈pc,x.B ρ=true){x:Int}(h:mN pc c=some x):c.I ρ<=x:=by
 unfold mN at h
 rw[jf]at h
 exact aDz (fun y hy=>hp y (KZ _ _ y hy)) h
theorem LR{a b:Int}:leI a b=true↔a<=b:=by simp[leI,cK]
theorem L8{a b:Int}:qb a b=true↔a<b:=by simp[qb,cK]
theorem YQ{ρ:Env}{pc:List E}(hp:∀x∈pc,x.B ρ=true){e:E}{b:Bool}(h:CM pc e=some b):e.B ρ=b:=by
 unfold CM at h;split at h
 ·rename_i a k;have h1:=ku ρ a;have lo:=fun {x}=>L4 (c:=dM a) hp (x:=x)
  have hi:=fun {x}=>Lm (c:=dM a) hp (x:=x)
  repeat' split at h
  all_goals first | (cases h;done) | skip
  all_goals try simp only[LR,L8]at *
  all_goals grind[E.B_cmp,E.I_int,oF,uC]
 ·rename_i k a _;have h1:=ku ρ a;have lo:=fun {x}=>L4 (c:=dM a) hp (x:=x)
  have hi:=fun {x}=>Lm (c:=dM a) hp (x:=x)
  repeat' split at h
  all_goals first | (cases h;done) | skip
  all_goals try simp only[LR,L8]at *
  all_goals grind[E.B_cmp,E.I_int,oF,mH,uC]
  all_goals grind
 ·rename_i a k;have h1:=ku ρ a;have lo:=fun {x}=>L4 (c:=dM a) hp (x:=x)
  have hi:=fun {x}=>Lm (c:=dM a) hp (x:=x)
  repeat' split at h
  all_goals first | (cases h;done) | skip
  all_goals (simp only[Option.some.injEq]at h;subst h)
  all_goals try simp only[LR,L8]at *
  all_goals simp only[E.B_cmp,E.I_int,abL,oF,mH,uC]
  all_goals first
   |(have:=lo ‹sH pc (dM a)=some _›;omega)
   |(have:=hi ‹mN pc (dM a)=some _›;omega)
   |(have:=lo ‹sH pc (dM a)=some _›;have:=hi ‹mN pc (dM a)=some _›;have hbb:=‹(ji _ _&&ji _ _)=true›;rw[Bool.and_eq_true]at hbb;have:=uS hbb.1;have:=uS hbb.2;omega)
 grind
theorem eK{ρ:Env}{fs pc:List E}{e:E}{b:Bool}(hf:∀x∈fs,∀ρ,x.B ρ=true)(hp:∀x∈pc,x.B ρ=true)(h:fe fs pc e=some b):e.B ρ=b:=by
 have hf':∀x∈fs,x.B ρ=true:=fun x hx=>hf x hx ρ
 rw[aD8]at h;unfold LO at h
 split at h
 ·simp_all
 ·split at h
  ·grind[DG]
  ·split at h
   ·rename_i h1;simp only[Option.some.injEq]at h;have:=DG hp _ _ hp h1;grind[iA]
   ·split at h
    ·grind[DG]
    ·split at h
     ·rename_i h1;simp only[Option.some.injEq]at h;have:=DG hp _ _ hf' h1;simp_all[iA]
     ·split at h
      ·unfold adb at h;grind[E.B_not,YQ]
      grind[YQ]
theorem RepW.assume{B:Base}{ρ:Env}{st:St}{w:World}(h:RepW B ρ st w){e:E}(he:e.B ρ=true):RepW B ρ {st with pc:=e::st.pc} w:=
 ⟨h.nv,h.nb,fun x hx=>by
  cases hx with
  |head=>omega
  |tail _ hm=>exact h.pc x hm,h.blk,h.inj,h.inn,h.fz,h.fr,h.dj,h.os,h.tape,h.output⟩
section
variable {ρ:Env} {fs pc:List E} (hf:∀x∈fs,∀ρ,x.B ρ=true) (hp:∀x∈pc,x.B ρ=true)
include hf hp
theorem kP{a b:E}(h:iU fs pc a b=true):a.I ρ<b.I ρ:=by
 unfold iU at h;split at h
 ·rename_i hk
  have:=eK hf hp hk
  grind[eM,cK]
 grind
theorem pL{a b:E}(h:lN fs pc a b=true):b.I ρ<=a.I ρ:=by
 unfold lN at h;split at h
 ·rename_i hk
  have:=eK hf hp hk
  grind[eM,cK]
 grind
theorem iY{e:E}(h:fg fs pc e=true):0<=e.I ρ:=by
 unfold fg at h;split at h
 ·simp_all[Mk]
 ·have:=pL hf hp h;simp_all
theorem af4{i:E}:∀(n j m:Nat),Ak fs pc i n j=.lit m->i.I ρ=m/\j<=m/\m<j+n
 |0,j,m,h=>by grind[Ak]
 |n+1,j,m,h=>by
  simp only[Ak]at h;split at h
  ·rename_i hk;simp only[Rz.lit.injEq]at h;have:=eK hf hp hk;simp_all[eM,cK]
  ·obtain⟨h1,h2,h3⟩:=af4 n _ _ h
   omega
  grind
omit hf hp in
theorem b7{G:Type}:∀(l:List G),aR l=l.length
 |[]=>rfl
 |x::xs=>by simp[aR,b7 xs]
omit hf hp in
theorem aEL(w:Nat)(idx:E)(j:Nat)(hw:w=1->j=0)(ρ:Env):(eD w idx j).I ρ=idx.I ρ*w+j:=by
 unfold eD;split
 ·omega
 ·split;all_goals rfl
omit hf hp in
theorem M5{w:Nat}{e:E}{ks:List CK}(hlen:(e.den ρ).toL.length=(e.den ρ).rlen*ks.length)(hw:w=ks.length)(hw0:0<w):((iD w e).I ρ).toNat=(e.den ρ).rlen/\(e.L ρ).length=(e.den ρ).rlen*ks.length:=by
 refine⟨?_,hlen⟩
 unfold iD;split
 ·split;all_goals rfl
 ·rfl
 ·rfl
 ·split
  ·have:ks.length=1:=hw.symm
   unfold E.I
   rw[ED]
   simp only[U.toI,Int.toNat_natCast,E.L,hlen,this,Nat.mul_one]
  ·have:((((e.den ρ).toL.length:Int)/((w:Int).toNat:Int)):Int)=(((e.den ρ).toL.length/w:Nat):Int):=by simp
   show(U.int (((e.den ρ).toL.length:Int)/((U.int (Int.ofNat w)).toI.toNat:Int))).toI.toNat=_
   simp only[U.toI]
   rw[show(Int.ofNat w)=(w:Int) from rfl,this,Int.toNat_natCast,hlen,hw]
   exact Nat.mul_div_cancel _ (by omega)
omit hf hp in
theorem vX{w:Nat}{e:E}{ks:List CK}(h:SlOk ρ.fz ks (e.den ρ))(hw:w=ks.length)(hw0:0<w):((iD w e).I ρ).toNat=(e.den ρ).rlen/\(e.L ρ).length=(e.den ρ).rlen*ks.length:=by
 refine M5 ?_ hw hw0;generalize e.den ρ=u at h;cases h with
 |nil=>simp[U.toL,U.rlen]
 |empty=>simp[U.toL,U.rlen]
 |mk a _ _ _ _=>exact a
theorem aak{n idx idx':E}{j j':Nat}(h:Dz fs pc n idx j=.at idx' j'):idx'=idx/\j'=j/\idx.I ρ<n.I ρ:=by
 unfold Dz at h;split at h
 ·rename_i hl;simp only[FA.at.injEq]at h
  exact⟨h.1.symm,h.2.symm,kP hf hp hl⟩
 grind
theorem pK{w:Nat}{n idx:E}{o:Off}{j:Nat}(h:oq fs pc w n o=.at idx j):
  0<w/\j<w/\0<=idx.I ρ/\o.den ρ=(idx.I ρ).toNat*w+j/\idx.I ρ<n.I ρ:=by
 unfold oq at h;split at h
 ·cases h
 ·rename_i hw;have hw0:0<w:=Nat.pos_of_ne_zero hw;have hmod:o.base%w<w:=Nat.mod_lt _ hw0;have hdm:o.base=o.base/w*w+o.base%w:=by grind[Nat.div_add_mod]
  split at h
  ·rename_i hs
   obtain⟨rfl,rfl,h3⟩:=aak hf hp h
   refine⟨hw0,hmod,Int.natCast_nonneg _,?_,h3⟩
   simp only[Off.den,hs,Nat.zero_mul];exact hdm
  ·split at h
   ·rename_i hb;have hsw:o.scale=w:=Nat.eq_of_beq_eq_true hb;split at h
    ·rename_i hn;have hn':=iY hf hp hn
     obtain⟨rfl,rfl,h3⟩:=aak hf hp h
     have e1:(dA o.idx (.int (.ofNat (Nat.div o.base w)))).I ρ=o.idx.I ρ+((o.base/w:Nat):Int):=by rw[kR];rfl
     rw[e1]at h3 ⊢
     have hden:o.den ρ=o.base+w*(o.idx.I ρ).toNat:=by rw[Off.den,hsw]
     generalize hq:o.base/w=q at *;generalize (o.idx.I ρ)=z at *;have e2:(z+(q:Int)).toNat=z.toNat+q:=by omega
     have hmod':Nat.mod o.base w=o.base%w:=rfl;grind
    grind
   grind
theorem Mr(l i:E):0<=i.I ρ->(i.I ρ).toNat<(l.L ρ).length->(iZ fs pc l i).den ρ=(l.L ρ).getD (i.I ρ).toNat (.int 0):=by
 fun_induction iZ fs pc l i with
 |case1 l' j v i h=>
  have he:=E.beq_eq h;have hl:(E.fn 2 (.pr l' (.pr i v))).L ρ=(l'.L ρ).set (i.I ρ).toNat (v.den ρ):=rfl;simp_all
 |case2 l' v m n h ih=>
  have hne:m≠n:=by
   rintro rfl
   replace h:Nat.beq m m=false:=h;simp_all
  have hl:(E.fn 2 (.pr l' (.pr (.int (.ofNat n)) v))).L ρ=(l'.L ρ).set n (v.den ρ):=rfl;simp_all[List.length_set,List.getD,List.getElem?_set,Ne.symm]
 |case3 l' j v i hb hk hg=>
  intro h0 hlt;simp only[hk,hg];have h1:=eK hf hp hk
  rw[eM,mH]at h1
  have hl:(E.fn 2 (.pr l' (.pr j v))).L ρ=(l'.L ρ).set (j.I ρ).toNat (v.den ρ):=rfl;simp_all
 |case4 l' j v i hb hk hg=>intro _ _;simp only[hk,hg];rfl
 |case5 l' j v i hb hk hg _ ih=>
  intro h0 hlt;simp only[hk,hg];have h1:=eK hf hp hk
  rw[eM,uC]at h1
  have h2:=pL hf hp hg
  rw[E.I_int]at h2
  have hl:(E.fn 2 (.pr l' (.pr j v))).L ρ=(l'.L ρ).set (j.I ρ).toNat (v.den ρ):=rfl;grind
 |case6 l' j v i hb hk hg=>intro _ _;simp only[hk,hg];rfl
 |case7 l' j v i hb hk=>intro _ _;simp only[hk];rfl
 |case8 a b i hl ih=>
  intro h0 hlt;have h1:=kP hf hp hl;unfold E.I at h1
  rw[ED]at h1
  have h2:(i.I ρ).toNat<(a.L ρ).length:=by
   have:i.I ρ<((a.L ρ).length:Int):=h1
   omega
  rw[ih h0 h2]
  show _=((a.L ρ)++(b.L ρ)).getD _ _;grind
 |case9 a b i hl hg ih=>
  intro h0 hlt;have h1:=pL hf hp hg;have h3:(iW a).I ρ=((a.L ρ).length:Int):=by unfold E.I;rw[ED];rfl
  rw[h3]at h1
  have h4:(jM i (iW a)).I ρ=i.I ρ-((a.L ρ).length:Int):=by rw[abX,h3]
  have hL:(E.fn 3 (.pr a b)).L ρ=(a.L ρ)++(b.L ρ):=rfl;grind
 |case12 x r n ih=>
  intro h0 hlt;have hL:(E.fn 23 (.pr x r)).L ρ=x.den ρ::r.L ρ:=rfl;simp_all
 |case14 n x i=>
  intro h0 hlt;have hL:(E.fn 5 (.pr n x)).L ρ=List.replicate (n.I ρ).toNat (x.den ρ):=rfl;simp_all
 |case15 x i=>
  intro h0 hlt;have hL:(E.fn 11 x).L ρ=[x.den ρ]:=rfl;simp_all
 |case16 r c i ih=>intro h0 hlt;exact ih h0 hlt
 |case17 r c i ih=>intro h0 hlt;exact ih h0 hlt
 |case18 e l m i hg ih=>
  intro h0 hlt;have h2:=pL hf hp hg
  rw[E.I_int]at h2
  have hL:(E.fn 24 (.pr (.pr (.int (.ofNat 1)) e) (.pr l m))).L ρ=((e.L ρ).take ((m.den ρ).fst.toI.toNat*1)).drop ((l.I ρ).toNat*1):=rfl
  rw[hL]at hlt ⊢
  simp only[Nat.mul_one]at hlt ⊢
  rw[List.length_drop,List.length_take]at hlt
  have h3:((dA l i).I ρ).toNat=(l.I ρ).toNat+(i.I ρ).toNat:=by rw[kR];omega
  rw[ih (by rw[kR];omega) (by rw[h3];omega),h3]
  simp only[List.getD,List.getElem?_drop]
  rw[List.getElem?_take_of_lt (by omega)]
 |_=>intro _ _;rfl
end
theorem Ka(c:CK)(e:E)(ρ:Env):(pD c e).den ρ=c.val (e.den ρ):=by
 cases c<;>simp[pD,SV.den,CK.val,E.I,E.B,E.S]
theorem Kb(c:CK)(e:E)(ρ:Env)(h:c.ok ρ.fz (e.den ρ)):(pD c e).ok ρ:=by
 cases c;case slc ks=>exact h
 all_goals simp[pD,SV.ok]
theorem ade(e:E)(i:Nat)(ρ:Env):(E.fn 1 (.pr e (.int (.ofNat i)))).den ρ=(e.den ρ).toL.getD i (.int 0):=rfl
theorem Y4(e:E)(ρ:Env):∀(cs:List CK)(i:Nat),SV.dens ρ (uy e i cs)=qG (e.den ρ).toL i cs
 |[],_=>rfl
 |c::cs,i=>by
  have ih:=Y4 e ρ cs (i+1);show SV.dens ρ (pD c _::uy e (i+1) cs)=c.val _::qG _ (i+1) cs;simp only[SV.dens,Ka,ih]
  rw[ade]
theorem Y5(e:E)(ρ:Env):∀(cs:List CK)(i:Nat),vw ρ.fz (e.den ρ).toL i cs->SV.oks ρ (uy e i cs)
 |[],_,_=>trivial
 |c::cs,i,h=>⟨Kb c _ ρ (by rw[ade];exact h.1),Y5 e ρ cs (i+1) h.2⟩
theorem Ga(c:VK)(e:E)(ρ:Env):(wd c e).den ρ=c.val (e.den ρ):=by
 cases c with
 |one c=>exact Ka c e ρ
 |row ks=>
  show Value.agg (SV.dens ρ (uy e 0 ks)).toArray=Value.agg (qG (e.den ρ).toL 0 ks).toArray
  rw[Y4]
theorem Gb(c:VK)(e:E)(ρ:Env)(h:c.ok ρ.fz (e.den ρ)):(wd c e).ok ρ:=by
 cases c with
 |one c=>exact Kb c e ρ h
 |row ks=>exact Y5 e ρ ks 0 h
theorem aCn(b:Nat)(c:CK)(e idx:E)(j:Nat)(ρ:Env):(yd b c e idx j).den ρ=c.val (e.den ρ):=by
 cases c<;>simp[yd,SV.den,CK.val,E.I,E.B,E.S]
theorem aCo(b:Nat)(c:CK)(e idx:E)(j:Nat)(ρ:Env):(yd b c e idx j).ok ρ:=by
 cases c<;>simp[yd,SV.ok]
theorem vK{w:Nat}{idx:E}{j:Nat}{ρ:Env}(hi:0<=idx.I ρ)(hw:w=1->j=0):0<=(eD w idx j).I ρ/\((eD w idx j).I ρ).toNat=(idx.I ρ).toNat*w+j:=by
 grind[aEL,Int.natCast_nonneg]
section
variable {ρ:Env} {fs pc:List E} (hf:∀x∈fs,∀ρ,x.B ρ=true) (hp:∀x∈pc,x.B ρ=true)
include hf hp
theorem Kd{ks:List CK}{l idx:E}(hi:0<=idx.I ρ)(hlt:((idx.I ρ).toNat+1)*ks.length<=(l.L ρ).length){arr:Array Value}{off:Nat}
  (h:∀(i:Nat)(u:U),(idx.I ρ).toNat*ks.length<=i->(l.L ρ)[i]?=some u->∃c,ks[i%ks.length]?=some c/\arr[off+i]?=some (c.val u)/\c.ok ρ.fz u):
  ∀(n j:Nat)(vs:List SV),uw fs pc ks (aR ks) l idx n j=some vs->vs.length=n/\SV.oks ρ vs/\∀(i:Nat)(v:SV),vs[i]?=some v->arr[off+((idx.I ρ).toNat*ks.length+j)+i]?=some (v.den ρ)
 |0,j,vs,hv=>by grind[uw,SV.oks]
 |n+1,j,vs,hv=>by
  simp only[uw]at hv;split at hv
  ·rename_i c hc;split at hv
   ·rename_i ws hws;simp only[Option.some.injEq]at hv;subst hv
    obtain⟨h1,hk,h2⟩:=Kd hi hlt h n _ _ hws
    rw[ee]at hc
    obtain⟨hpos0,hposN0⟩:=vK (w:=aR ks) (idx:=idx) (j:=j) (ρ:=ρ) hi (fun e=>by grind[b7])
    have hposN:((eD (aR ks) idx j).I ρ).toNat=(idx.I ρ).toNat*ks.length+j:=by grind[b7]
    have hin:(idx.I ρ).toNat*ks.length+j<(l.L ρ).length:=by
     grind
    have hden:=Mr hf hp l (eD (aR ks) idx j) hpos0 (by omega)
    obtain⟨c',g1,g2,g3⟩:=h ((idx.I ρ).toNat*ks.length+j) (l.L ρ)[(idx.I ρ).toNat*ks.length+j] (by omega) (by grind)
    have hm:((idx.I ρ).toNat*ks.length+j)%ks.length=j:=by grind[Nat.add_mul_mod_self_right,Nat.mod_eq_of_lt]
    rw[hm,hc]at g1
    simp only[Option.some.injEq]at g1;have hget:(l.L ρ).getD ((idx.I ρ).toNat*ks.length+j) (.int 0)=(l.L ρ)[(idx.I ρ).toNat*ks.length+j]:=by grind
    refine⟨by grind,⟨Kb c _ ρ (by grind),hk⟩,fun i v hi'=>?_⟩
    cases i with
    |zero=>
     simp only[List.getElem?_cons_zero,Option.some.injEq]at hi';subst hi';simp_all[Ka,Nat.add_zero]
    |succ i=>
     grind
   grind
  grind
theorem Ke{b:Nat}{ks:List CK}{l idx:E}(hi:0<=idx.I ρ)(hlt:((idx.I ρ).toNat+1)*ks.length<=(l.L ρ).length){arr:Array Value}{off:Nat}
  (h:∀(i:Nat)(u:U),(l.L ρ)[i]?=some u->∃c,ks[i%ks.length]?=some c/\arr[off+i]?=some (c.val u)):
  ∀(n j:Nat)(vs:List SV),ux fs pc b ks (aR ks) l idx n j=some vs->vs.length=n/\SV.oks ρ vs/\∀(i:Nat)(v:SV),vs[i]?=some v->arr[off+((idx.I ρ).toNat*ks.length+j)+i]?=some (v.den ρ)
 |0,j,vs,hv=>by grind[ux,SV.oks]
 |n+1,j,vs,hv=>by
  simp only[ux]at hv;split at hv
  ·rename_i c hc;split at hv
   ·rename_i ws hws;simp only[Option.some.injEq]at hv;subst hv
    obtain⟨h1,hk,h2⟩:=Ke hi hlt h n _ _ hws
    rw[ee]at hc
    obtain⟨hpos0,hposN0⟩:=vK (w:=aR ks) (idx:=idx) (j:=j) (ρ:=ρ) hi (fun e=>by grind[b7])
    have hposN:((eD (aR ks) idx j).I ρ).toNat=(idx.I ρ).toNat*ks.length+j:=by grind[b7]
    have hin:(idx.I ρ).toNat*ks.length+j<(l.L ρ).length:=by
     grind
    have hden:=Mr hf hp l (eD (aR ks) idx j) hpos0 (by omega)
    obtain⟨c',g1,g2⟩:=h ((idx.I ρ).toNat*ks.length+j) (l.L ρ)[(idx.I ρ).toNat*ks.length+j] (by grind)
    have hm:((idx.I ρ).toNat*ks.length+j)%ks.length=j:=by grind[Nat.add_mul_mod_self_right,Nat.mod_eq_of_lt]
    rw[hm,hc]at g1
    simp only[Option.some.injEq]at g1;have hget:(l.L ρ).getD ((idx.I ρ).toNat*ks.length+j) (.int 0)=(l.L ρ)[(idx.I ρ).toNat*ks.length+j]:=by grind
    refine⟨by grind,⟨aCo _ _ _ _ _ ρ,hk⟩,fun i v hi'=>?_⟩
    cases i with
    |zero=>
     simp only[List.getElem?_cons_zero,Option.some.injEq]at hi';subst hi';simp_all[aCn,Nat.add_zero]
    |succ i=>
     grind
   grind
  grind
end
section
variable {P:Program} {tb:Tab} (ht:TabOk P tb)
include ht
theorem Et{ρ:Env}{st st':St}{w:World}(hp:∀x∈st.pc,x.B ρ=true){t:TypeId}{ks:List CK}{l idx:E}{j:Nat}{v:SV}(h:qa tb st t ks l idx j=.val v st')
  (hi:0<=idx.I ρ)(hlt:((idx.I ρ).toNat+1)*ks.length<=(l.L ρ).length){r off:Nat}{arr:Array Value}{elem:TypeId}{fr:Nat×Nat}(hw:w.heap[r]?=some (.cells arr elem fr))
  (hc:∀(i:Nat)(u:U),(idx.I ρ).toNat*ks.length<=i->(l.L ρ)[i]?=some u->∃c,ks[i%ks.length]?=some c/\arr[off+i]?=some (c.val u)/\c.ok ρ.fz u):
  st'=st/\v.ok ρ/\(loadVar t ⟨r,off+((idx.I ρ).toNat*ks.length+j),none⟩).run P w=.ok (v.den ρ) w:=by
 unfold qa at h;split at h
 ·rename_i hagg;split at h
  ·rename_i sz hsz;split at h
   ·rename_i vs hvs
    obtain⟨rfl,rfl⟩:=h
    obtain⟨hl1,hk,hl2⟩:=Kd ht.facts hp hi hlt hc _ _ _ hvs
    refine⟨rfl,hk,?_⟩
    have hld:=run_loadCells_list (P:=P) w ⟨r,off+((idx.I ρ).toNat*ks.length+j),none⟩ (SV.dens ρ vs) (fun i v hv=>by
      grind[gG,n6,SV.dens_eq,Option.some.injEq])
    have hdl:(SV.dens ρ vs).length=sz:=by grind[SV.dens_eq]
    rw[hdl]at hld
    simp only[loadVar,Sem.run_bind,ht.run_agg hagg,Result.andThen_ok,if_true,ht.run_size hsz,hld,Sem.run_pure,SV.den]
   grind
  grind
 ·rename_i hagg;split at h
  ·rename_i vs hvs;split at h
   ·rename_i u;simp only[EffR.val.injEq]at h
    obtain⟨rfl,rfl⟩:=h
    obtain⟨hl1,hk,hl2⟩:=Kd ht.facts hp hi hlt hc _ _ _ hvs
    refine⟨rfl,hk.1,?_⟩
    have:=hl2 0 _ rfl
    simp only[loadVar,Sem.run_bind,ht.run_agg hagg,Result.andThen_ok,Bool.false_eq_true,if_false,run_load,n6 hw];grind
   grind
  grind
 grind
theorem aEr{ρ:Env}{st st':St}{w:World}(hp:∀x∈st.pc,x.B ρ=true){t:TypeId}{b:Nat}{ks:List CK}{l idx:E}{j:Nat}{v:SV}(h:zm tb st t b ks l idx j=.val v st')
  (hi:0<=idx.I ρ)(hlt:((idx.I ρ).toNat+1)*ks.length<=(l.L ρ).length){r off:Nat}{arr:Array Value}{elem:TypeId}{fr:Nat×Nat}(hw:w.heap[r]?=some (.cells arr elem fr))
  (hc:∀(i:Nat)(u:U),(l.L ρ)[i]?=some u->∃c,ks[i%ks.length]?=some c/\arr[off+i]?=some (c.val u)):
  st'=st/\v.ok ρ/\(loadVar t ⟨r,off+((idx.I ρ).toNat*ks.length+j),none⟩).run P w=.ok (v.den ρ) w:=by
 unfold zm at h;split at h
 ·rename_i hagg;split at h
  ·rename_i sz hsz;split at h
   ·rename_i vs hvs
    obtain⟨rfl,rfl⟩:=h
    obtain⟨hl1,hk,hl2⟩:=Ke ht.facts hp hi hlt hc _ _ _ hvs
    refine⟨rfl,hk,?_⟩
    have hld:=run_loadCells_list (P:=P) w ⟨r,off+((idx.I ρ).toNat*ks.length+j),none⟩ (SV.dens ρ vs) (fun i v hv=>by
      grind[gG,n6,SV.dens_eq,Option.some.injEq])
    have hdl:(SV.dens ρ vs).length=sz:=by grind[SV.dens_eq]
    rw[hdl]at hld
    simp only[loadVar,Sem.run_bind,ht.run_agg hagg,Result.andThen_ok,if_true,ht.run_size hsz,hld,Sem.run_pure,SV.den]
   grind
  grind
 ·rename_i hagg;split at h
  ·rename_i vs hvs;split at h
   ·rename_i u;simp only[EffR.val.injEq]at h
    obtain⟨rfl,rfl⟩:=h
    obtain⟨hl1,hk,hl2⟩:=Ke ht.facts hp hi hlt hc _ _ _ hvs
    refine⟨rfl,hk.1,?_⟩
    have:=hl2 0 _ rfl
    simp only[loadVar,Sem.run_bind,ht.run_agg hagg,Result.andThen_ok,Bool.false_eq_true,if_false,run_load,n6 hw];simp_all
   grind
  grind
 grind
theorem Ld{B:Base}{ρ:Env}{st:St}{w:World}(hr:RepW B ρ st w){b:Nat}{own:Bool}{ks:List CK}{l n af:E}{elem:TypeId}(hb:st.heap.get b=some ⟨own,.flat ks l n af elem⟩)
  {z:Int}(h0:0<=z)(hz:z<n.I ρ):∃arr,w.heap[ρ.blk b]?=some (.cells arr elem (0,0))/\ρ.nil b=false/\ρ.off b=0/\flatRep ρ.fz ks (l.L ρ) arr/\(arr.size:Int)=af.I ρ*ks.length/\
   (z.toNat+1)*ks.length<=(l.L ρ).length/\(l.L ρ).length<=arr.size/\0<ks.length/\((l.L ρ).length:Int)=n.I ρ*ks.length/\0<af.I ρ:=by
 obtain⟨_,⟨h1,h2,h3,h4,h5⟩,_⟩:=hr.blk _ _ hb
 have htot:0<af.I ρ:=by omega
 obtain⟨k1,k2,arr,k3,k4,k5⟩:=h5 htot
 refine⟨arr,k3,k1,k2,k4,k5,?_,?_,h1,h2,htot⟩
 ·have:((z.toNat+1:Nat):Int)*(ks.length:Int)<=n.I ρ*(ks.length:Int):=Int.mul_le_mul_of_nonneg_right (by omega) (by omega)
  omega
 ·have:n.I ρ*(ks.length:Int)<=af.I ρ*(ks.length:Int):=Int.mul_le_mul_of_nonneg_right h3 (by omega)
  omega
theorem zD{B:Base}{ρ:Env}{st:St}{w:World}(hr:RepW B ρ st w){b:Nat}{own:Bool}{ks:List CK}{l n af ow:E}{elem:TypeId}(hb:st.heap.get b=some ⟨own,.nest ks l n af elem ow⟩)
  {z:Int}(h0:0<=z)(hz:z<n.I ρ):∃arr,w.heap[ρ.blk b]?=some (.cells arr elem (0,0))/\ρ.nil b=false/\ρ.off b=0/\nestRep ρ.fz w ks (ow.I ρ*ks.length) (l.L ρ) arr/\(arr.size:Int)=af.I ρ*ks.length/\
   (z.toNat+1)*ks.length<=(l.L ρ).length/\(l.L ρ).length<=arr.size/\0<ks.length/\((l.L ρ).length:Int)=n.I ρ*ks.length/\0<af.I ρ:=by
 obtain⟨_,⟨h1,h2,h3,h4,_,h5⟩,_⟩:=hr.blk _ _ hb
 have htot:0<af.I ρ:=by omega
 obtain⟨k1,k2,arr,k3,k4,k5⟩:=h5 htot
 refine⟨arr,k3,k1,k2,k4,k5,?_,?_,h1,h2,htot⟩
 ·have:((z.toNat+1:Nat):Int)*(ks.length:Int)<=n.I ρ*(ks.length:Int):=Int.mul_le_mul_of_nonneg_right (by omega) (by omega)
  omega
 ·have:n.I ρ*(ks.length:Int)<=af.I ρ*(ks.length:Int):=Int.mul_le_mul_of_nonneg_right h3 (by omega)
  omega
omit ht in
theorem DI(ρ:Env):∀e:E,((lO e).den ρ).raw=(e.den ρ).raw:=by
 intro e;fun_induction lO e with
 |case1 x r ih=>
  rw[ih]
  show(x.den ρ).raw=.slice (x.den ρ).adr (x.den ρ).rlen (x.den ρ).rcap
  cases x.den ρ<;>rfl
 |case2 e _=>rfl
theorem EK{B:Base}{ρ:Env}{st:St}{w:World}(hr:RepW B ρ st w){b:Nat}{ks:List CK}{e idx:E}{c:Nat}{cur p:E}(h:sN tb.facts st.pc st.heap b ks e idx c=.at cur p):
  ∃(ks0:List CK) (l n af ow:E) (elem:TypeId) (k:Nat),st.heap.get b=some ⟨true,.nest ks0 l n af elem ow⟩/\(k:Int)<ow.I ρ*ks0.length/\0<=p.I ρ/\(p.I ρ).toNat=k/\(l.L ρ)[k]?=some (cur.den ρ)/\ks0[k%ks0.length]?=some (.slc ks)/\rowN ρ.fz w ks (cur.den ρ)/\(cur.den ρ).raw=(e.den ρ).raw:=by
 unfold sN at h;split at h
 ·rename_i ks0 l n af elem ow hb;split at h
  ·rename_i ks' hk
   rw[ee]at hk
   split at h
   ·rename_i hks;have hks':=kL _ _ hks;subst hks';split at h
    ·rename_i hnn;split at h
     ·rename_i hlt;have h0:=iY ht.facts hr.pc hnn;have h1:=kP ht.facts hr.pc hlt;split at h
      rotate_left
      ·cases h
      rename_i hlo;have h2:=kP ht.facts hr.pc hlo;unfold ac0 at h;split at h
      ·rename_i hbe
       obtain⟨rfl,rfl⟩:=h
       obtain⟨arr,m1,m2,m3,m4,m5,m6,m7,m8,m9,m10⟩:=zD ht hr hb h0 h1
       have hj:c<ks0.length:=(List.getElem?_eq_some_iff.1 hk).1
       obtain⟨hpos0,hposN0⟩:=vK (w:=aR ks0) (idx:=idx) (j:=c) (ρ:=ρ) h0 (fun e=>by rw[b7]at e;omega)
       have hposN:((eD (aR ks0) idx c).I ρ).toNat=(idx.I ρ).toNat*ks0.length+c:=by rw[hposN0,b7]
       have hin:(idx.I ρ).toNat*ks0.length+c<(l.L ρ).length:=by
        rw[Nat.add_mul]at m6;omega
       have hden:=Mr ht.facts hr.pc l (eD (aR ks0) idx c) hpos0 (by rw[hposN];exact hin)
       rw[hposN]at hden
       have hget:(l.L ρ).getD ((idx.I ρ).toNat*ks0.length+c) (.int 0)=(l.L ρ)[(idx.I ρ).toNat*ks0.length+c]:=by simp[List.getD,hin]
       have hu:(l.L ρ)[(idx.I ρ).toNat*ks0.length+c]?=some ((iZ tb.facts st.pc l (eD (aR ks0) idx c)).den ρ):=by
        rw[hden,hget];simp[hin]
       obtain⟨c',g1,g2,g3⟩:=m4 _ _ hu
       have hm:((idx.I ρ).toNat*ks0.length+c)%ks0.length=c:=by rw[Nat.add_comm,Nat.add_mul_mod_self_right];exact Nat.mod_eq_of_lt hj
       rw[hm,hk]at g1
       simp only[Option.some.injEq]at g1;subst g1;have how:(((idx.I ρ).toNat*ks0.length+c:Nat):Int)<ow.I ρ*ks0.length:=by
        have:((((idx.I ρ).toNat+1:Nat):Int))*(ks0.length:Int)<=ow.I ρ*(ks0.length:Int):=Int.mul_le_mul_of_nonneg_right (by omega) (by omega)
        rw[<- Int.natCast_mul,Nat.add_mul]at this
        omega
       refine⟨ks0,l,n,af,ow,elem,_,hb,how,hpos0,hposN,hu,by rw[hm];exact hk,g3.1 how,?_⟩
       rw[<- DI ρ (iZ _ _ _ _),E.beq_eq hbe,DI]
      ·cases h
     grind
    grind
   grind
  grind
 grind
omit ht in
theorem aek{fz:Nat->Option Obj}{w:World}{ks:List CK}{u:U}(h:rowN fz w ks u){e:U}{r len cap:Nat}{l':List U}(he:e=.bx (some ⟨r,0,none⟩) len cap l')(hraw:u.raw=e.raw)(hl:0<len):
  ∃(l:List U) (arr:Array Value) (el:TypeId),u=.bx (some ⟨r,0,none⟩) len cap l/\l.length=len*ks.length/\0<cap/\w.heap[r]?=some (.cells arr el (0,0))/\arr.size=cap*ks.length/\flatRep fz ks l arr:=by
 subst he;cases u with
 |bx a n c l=>
  simp only[U.raw,Value.slice.injEq]at hraw
  obtain⟨rfl,rfl,rfl⟩:=hraw
  cases c with
  |zero=>grind[rowN]
  |succ c=>
   obtain⟨h1,h2,h3,arr,el,h4,h5,h6⟩:=h
   grind
 |_=>grind[rowN]
theorem abG{B:Base}{ρ:Env}{st st':St}{w:World}(hr:RepW B ρ st w){t:TypeId}{x v:SV}(hx:x.ok ρ)(h:zo tb st t x=.val v st'):
  st'=st/\v.ok ρ/\∃a,x.den ρ=.pointer (some a)/\(loadVar t a).run P w=.ok (v.den ρ) w:=by
 unfold zo at h;split at h
 ·split at h
  ·rename_i own ks l n af elem hb;split at h
   ·rename_i idx j hat
    obtain⟨k1,k2,k3,k4,k5⟩:=pK ht.facts hr.pc hat
    rw[b7]at k1 k2 k4
    obtain⟨arr,m1,m2,m3,m4,m5,m6,m7,_⟩:=Ld ht hr hb k3 k5
    obtain⟨e1,e2,e3⟩:=Et ht hr.pc h k3 m6 (off:=0) m1 (fun i u _ hu=>by rw[Nat.zero_add];exact m4 i u hu)
    simp_all[SV.den]
   all_goals simp_all
  ·rename_i own ks l n af elem ow hb;split at h
   ·rename_i idx j hat
    obtain⟨k1,k2,k3,k4,k5⟩:=pK ht.facts hr.pc hat
    rw[b7]at k1 k2 k4
    obtain⟨arr,m1,m2,m3,m4,m5,m6,m7,_⟩:=zD ht hr hb k3 k5
    split at h
    ·obtain⟨e1,e2,e3⟩:=aEr ht hr.pc h k3 m6 (off:=0) m1 (fun i u hu=>by rw[Nat.zero_add];obtain⟨c,g1,g2,_⟩:=m4 i u hu;simp_all)
     simp_all[SV.den]
    ·split at h
     ·rename_i hge;have h2:=pL ht.facts hr.pc hge
      obtain⟨e1,e2,e3⟩:=Et ht hr.pc h k3 m6 (off:=0) m1 (fun i u hi hu=>by
       rw[Nat.zero_add]
       obtain⟨c,g1,g2,g3⟩:=m4 i u hu
       refine⟨c,g1,g2,?_⟩
       cases c with
       |slc ks'=>
        refine g3.2 fun hlt=>?_
        have:ow.I ρ*(ks.length:Int)<=(((idx.I ρ).toNat:Nat):Int)*(ks.length:Int):=Int.mul_le_mul_of_nonneg_right (by omega) (by omega)
        rw[<- Int.natCast_mul]at this
        omega
       |_=>trivial)
      simp_all[SV.den]
     ·cases h
   all_goals simp_all
  grind
 ·rename_i ks e idx j
  obtain⟨r,off,len,cap,l,arr,elem,fr,he,_,_,hz,hv,hs,hi,hlt,hk⟩:=CN hx
  have hL:e.L ρ=l:=by unfold E.L;rw[he];rfl
  obtain⟨e1,e2,e3⟩:=Et ht hr.pc h hi (by simp_all) (hr.fz _ _ hz) (off:=off) (fun i u _ hu=>by
   rw[hL]at hu
   obtain⟨c,g1,g2⟩:=hv i u hu
   refine⟨c,g1,g2,?_⟩
   cases c with
   |slc ks'=>exact hs i u ks' hu g1
   |_=>trivial)
  grind[x8]
 ·rename_i b ks e idx c x j;split at h
  ·rename_i cur p hat
   obtain⟨h0,hk0,r,len,cap,le,he,hlt⟩:=hx
   obtain⟨ks0,l0,n0,tot0,ow0,elem0,k,hb,_,_,_,hu,_,hrow,hraw⟩:=EK ht hr hat
   obtain⟨l,arr,el,hcur,hll,hc,hw,hsz,hfl⟩:=aek hrow he hraw (by omega)
   have hL:cur.L ρ=l:=by unfold E.L;rw[hcur];rfl
   obtain⟨e1,e2,e3⟩:=Et ht hr.pc h h0 (by rw[hL,hll];exact Nat.mul_le_mul_right _ hlt) hw (off:=0) (fun i u _ hu=>by
    rw[hL]at hu;rw[Nat.zero_add];exact hfl i u hu)
   refine⟨e1,e2,_,vr he,?_⟩
   rw[Nat.zero_add]at e3;exact e3
  ·cases h
  ·cases h
 grind
theorem L6{B:Base}{ρ:Env}{st:St}{w:World}(hr:RepW B ρ st w){t:TypeId}{x v:SV}(h:vd tb st t x=some v):v.ok ρ:=by
 unfold vd at h;split at h
 ·split at h
  ·rename_i own cs af elem hb
   obtain⟨_,⟨_,_,hk,_⟩,_⟩:=hr.blk _ _ hb
   rw[SV.oks_iff]at hk
   split at h
   ·split at h
    ·split at h
     ·split at h
      ·rename_i l hl;simp only[Option.some.injEq]at h;subst h
       obtain⟨h1,_⟩:=qB _ _ _ hl
       rw[sb]at h1
       show SV.oks ρ l;grind[SV.oks_iff,List.mem_of_mem_take]
      grind
     grind
    all_goals grind[ee]
   grind
  grind
 grind
end
end Go.SX

namespace Go.SX
section
variable {P:Program} {tb:Tab} (ht:TabOk P tb)
include ht
theorem CA{st st':St}{e:E}{n:Nat}{f:Nat->Option SV}{v:SV}{ρ:Env}(hp:∀x∈st.pc,x.B ρ=true)(h:pv tb st e n f=.val v st'):st'=st/\∃j:Nat,e.I ρ=j/\f j=some v:=by
 unfold pv at h;split at h
 ·rename_i j hj
  obtain⟨h1,_,_⟩:=af4 ht.facts hp _ _ _ hj
  cases hf:f j with
  |none=>rw[hf]at h;cases h
  |some u=>
   grind[EffR.ofVal]
 all_goals grind
omit ht in
theorem LY{k:IntKind}{e:E}{ρ:Env}{j:Nat}(h:e.I ρ=j):(SV.int k e).den ρ=(lit k j).den ρ:=by
 simp[lit,SV.den,h]
omit ht in
theorem Yf{fs pc:List E}{ρ:Env}(hf:∀x∈fs,∀ρ,x.B ρ=true)(hp:∀x∈pc,x.B ρ=true){o o':Off}{sz:Nat}{i:E}(hi:0<=i.I ρ)(h:Co fs pc o sz i=some o'):
  o'.den ρ=o.den ρ+(i.I ρ).toNat*sz:=by
 unfold Co at h;split at h
 ·grind[Off.den]
 ·split at h
  ·rename_i hb;have hs:=Nat.eq_of_beq_eq_true hb;split at h
   ·rename_i hn;have hn':=iY hf hp hn;simp only[Option.some.injEq]at h;subst h;simp only[Off.den,kR]
    have:(o.idx.I ρ+i.I ρ).toNat=(o.idx.I ρ).toNat+(i.I ρ).toNat:=by omega
    grind
   grind
  grind
omit ht in
theorem DT{st st':St}{e l:E}{k:EffR}{v:SV}{ρ:Env}(hf:∀x∈tb.facts,∀ρ,x.B ρ=true)(hp:∀x∈st.pc,x.B ρ=true)(h:pQ tb st e l k=.val v st'):0<=e.I ρ/\e.I ρ<l.I ρ/\k=.val v st':=by
 unfold pQ at h;split at h
 ·rename_i hn;split at h
  ·rename_i hl
   exact⟨iY hf hp hn,kP hf hp hl,h⟩
  grind
 grind
theorem vZ{t elem:TypeId}{sz:Nat}(hu:tb.und t=some (.slice elem))(hsz:dd tb elem=some sz){r o len cap:Nat}{k:IntKind}{e:Int}(h0:0<=e)(h1:e<(len:Int))(w:World):
  (Instr.indexAt t (.slice (some ⟨r,o,none⟩) len cap) (.int k e)).run P w=.ok (.pointer (some ⟨r,o+e.toNat*sz,none⟩)) w:=by
 have hc:0<=e/\e<len:=⟨h0,h1⟩;simp only[Instr.indexAt,Sem.run_bind,ht.run_und hu,Result.andThen_ok,asIntOf,Sem.run_pure];split<;>(simp only[Sem.run_bind,ht.run_size hsz];simp[gG])
omit ht in
theorem aej{fz:Nat->Option Obj}{w:World}{ks:List CK}:∀ {u:U},rowN fz w ks u->u.toL.length=u.rlen*ks.length
 |.bx none _ _ _,h=>by obtain⟨rfl,rfl,rfl⟩:=h;simp[U.toL,U.rlen]
 |.bx (some _) _ 0 _,h=>by obtain⟨rfl,rfl⟩:=h;simp[U.toL,U.rlen]
 |.bx (some _) _ (_+1) _,h=>h.2.1
 |.int _,h=>h.elim
 |.bool _,h=>h.elim
 |.str _,h=>h.elim
 |.lst _,h=>h.elim
omit ht in
theorem ad6{u:U}{a:Addr}{n c:Nat}(h:u.raw=.slice (some a) n c):∃l,u=.bx (some a) n c l:=by
 cases u with
 |bx a' n' c' l=>
  obtain⟨rfl,rfl,rfl⟩:=h
  simp_all
 |_=>grind[U.raw]
omit ht in
theorem aFP{fz:Nat->Option Obj}{w:World}{ks:List CK}{u y:U}(h:rowN fz w ks u)(hraw:u.raw=y.raw){k:Nat}(hk:k<u.rlen):∃(r len cap:Nat) (l:List U),y=.bx (some ⟨r,0,none⟩) len cap l/\u.rlen=len:=by
 cases u with
 |bx a n c l=>
  cases a with
  |none=>obtain⟨rfl,_⟩:=h;grind[U.rlen]
  |some a=>
   cases c with
   |zero=>obtain⟨rfl,_⟩:=h;grind[U.rlen]
   |succ c=>
    obtain⟨h1,_⟩:=h
    rw[h1]at hraw
    obtain⟨l',hl'⟩:=ad6 hraw.symm
    exact⟨_,_,_,l',hl',rfl⟩
 |_=>grind[rowN]
theorem aaW{B:Base}{st st':St}{t:TypeId}{x i v:SV}{ρ:Env}{w:World}(hr:RepW B ρ st w)(hx:x.ok ρ)(h:yS tb st t x i=.val v st'):
  st'=st/\v.ok ρ/\(Instr.indexAt t (x.den ρ) (i.den ρ)).run P w=.ok (v.den ρ) w:=by
 have hp:=hr.pc;unfold yS at h;split at h
 ·rename_i k e;split at h
  ·split at h
   ·obtain⟨rfl,j,h1,h2⟩:=CA ht hp h
    refine⟨rfl,?_,by grind[LY,Lq]⟩
    unfold pR at h2;repeat' split at h2
    all_goals grind[Option.some.injEq,SV.ok]
   grind
  ·rename_i elem hu;split at h
   ·rename_i sz hsz;split at h
    ·rename_i b o l c;split at h
     ·rename_i n hn
      obtain⟨h0,h1,h2⟩:=DT ht.facts hp h
      split at h2
      ·rename_i o' ho;simp only[EffR.val.injEq]at h2
       obtain⟨rfl,rfl⟩:=h2
       refine⟨rfl,by simp[SV.ok],?_⟩
       have hden:=Yf ht.facts hp h0 ho;simp only[SV.den]
       rw[vZ ht hu hsz h0 (by omega),hden,Nat.add_assoc]
      simp_all
     ·split at h
      ·obtain⟨rfl,j,h1,h2⟩:=CA ht hp h
       refine⟨rfl,?_,by grind[LY,Lq]⟩
       unfold pR at h2;repeat' split at h2
       all_goals grind[SV.ok]
      grind
    ·rename_i b l c;split at h
     ·rename_i n hn
      obtain⟨h0,h1,h2⟩:=DT ht.facts hp h
      split at h2
      ·rename_i hl
       obtain⟨rfl,rfl⟩:=h2
       refine⟨rfl,by simp[SV.ok],?_⟩
       have hl':=kP ht.facts hp hl;unfold Eb at hn;split at hn
       ·grind[Ld,fj,SV.den,vZ,Off.den,Nat.mul_comm]
       all_goals grind[zD,fj,SV.den,vZ,Off.den,Nat.mul_comm]
      simp_all
     ·rename_i hn;split at h
      ·rename_i n hl;have hl':=iz hl
       obtain⟨rfl,j,h1,h2⟩:=CA ht hp h
       split at h2
       ·simp only[Option.some.injEq]at h2;subst h2
        refine⟨rfl,by simp[SV.ok],?_⟩
        unfold Eb at hn;split at hn
        ·grind
        ·grind
        ·rename_i own cs af el hb
         obtain⟨_,⟨k1,k2,_⟩,_⟩:=hr.blk _ _ hb
         have hbase:ρ.base b=some ⟨ρ.blk b,0,none⟩:=by grind[fj]
         simp only[SV.den]
         rw[hbase,h1,vZ ht hu hsz (Int.natCast_nonneg _) (by simp_all),k2]
         rfl
        simp_all
       simp_all
      grind
     grind
    ·rename_i ks y;split at h
     ·rename_i hk;simp only[Bool.and_eq_true]at hk;have hks:ks.length=sz:=by simp_all[b7]
      have hsz0:=eA.1 hk.2
      obtain⟨h0,h1,h2⟩:=DT ht.facts hp h
      obtain⟨rfl,rfl⟩:=h2
      have hx':=hx
      obtain⟨q1,q2⟩:=vX hx' hks.symm hsz0
      have hlt:(e.I ρ).toNat<(y.den ρ).rlen:=by omega
      have hle:((e.I ρ).toNat+1)*ks.length<=(y.L ρ).length:=by
       rw[q2];exact Nat.mul_le_mul_right _ hlt
      have hok:(SV.bptr ks y e 0).ok ρ:=by simp_all[SV.ok]
      refine⟨rfl,hok,?_⟩
      obtain⟨r,off,len,cap,l,arr,elm,fr,he,_⟩:=CN hok
      rw[x8 he]
      simp only[SV.den]
      rw[he]
      have hrl:(y.den ρ).rlen=len:=by rw[he];rfl
      rw[show(U.bx _ _ _ l).raw=.slice _ _ _ from rfl,vZ ht hu hsz h0 (by omega),hks,Nat.add_zero]
     grind
    ·rename_i b ks y idx c;split at h
     ·rename_i hk;simp only[Bool.and_eq_true]at hk;have hks:ks.length=sz:=by simp_all[b7]
      have hsz0:=eA.1 hk.2;split at h
      ·rename_i cur p hat
       obtain⟨h0,h1,h2⟩:=DT ht.facts hp h
       obtain⟨rfl,rfl⟩:=h2
       obtain⟨_,_,_,_,_,_,_,_,_,_,_,_,_,hrow,hraw⟩:=EK ht hr hat
       obtain⟨q1,q2⟩:=M5 (aej hrow) hks.symm hsz0
       have hlt:(e.I ρ).toNat<(cur.den ρ).rlen:=by omega
       obtain⟨r,len,cap,l,hy,hl⟩:=aFP hrow hraw hlt
       refine⟨rfl,⟨h0,by omega,r,len,cap,l,hy,by omega⟩,?_⟩
       rw[vr hy]
       simp only[SV.den]
       rw[hy]
       rw[show(U.bx _ _ _ l).raw=.slice _ _ _ from rfl,vZ ht hu hsz h0 (by omega),hks,Nat.add_zero,Nat.zero_add]
      all_goals simp_all
     grind
    grind
   grind
  grind
 grind
theorem aaY{st st':St}{t:TypeId}{x i v:SV}{ρ:Env}(hp:∀y∈st.pc,y.B ρ=true)(hx:x.ok ρ)(h:yT tb st t x i=.val v st')(w:World):
  st'=st/\v.ok ρ/\(Instr.index t (x.den ρ) (i.den ρ)).run P w=.ok (v.den ρ) w:=by
 unfold yT at h;split at h
 ·split at h
  ·obtain⟨rfl,j,h1,h2⟩:=CA ht hp h
   refine⟨rfl,?_,by grind[LY,aa9]⟩
   unfold uR at h2;repeat' split at h2
   all_goals grind[MI,SV.ok]
  grind
 grind
omit ht in
theorem yc{e:E}{ρ:Env}:((pC e).I ρ).toNat=(e.den ρ).rcap:=by
 unfold pC;split
 ·split;all_goals rfl
 all_goals rfl
omit ht in
theorem Ek{st st':St}{e:E}{v:SV}{ρ:Env}(hf:∀x∈tb.facts,∀ρ,x.B ρ=true)(hp:∀x∈st.pc,x.B ρ=true)(h:pX tb st e=.val v st'):st'=st/\v=.int .i64 e/\0<=e.I ρ:=by
 unfold pX at h;split at h
 ·rename_i hn;simp only[EffR.val.injEq]at h
  exact⟨h.2.symm,h.1.symm,iY hf hp hn⟩
 grind
omit ht in
theorem zR{fz:Nat->Option Obj}{ks:List CK}{u:U}(h:SlOk fz ks u):u.raw=.slice u.adr u.rlen u.rcap:=by
 cases h<;>rfl
def pW(c:Bool)(ts:Array TypeId)(ty:TypeId)(vs:Array Value):Sem Value:=
 match c with
 |true=>Builtin.cap_ ts ty vs
 |false=>Builtin.len_ ts ty vs
theorem FL{t elem:TypeId}(hu:tb.und t=some (.slice elem))(c:Bool)(ty:TypeId)(bU:List TypeId)(rv:List Value)(a:Option Addr)(n m:Nat){e:E}{ρ:Env}(h0:0<=e.I ρ)(he:(e.I ρ).toNat=cond c m n)(w:World):
  (pW c (t::bU).toArray ty (.slice a n m::rv).toArray).run P w=.ok ((SV.int .i64 e).den ρ) w:=by
 cases c with
 |true=>
  simp only[cond]at he;simp[pW,Builtin.cap_,ht.run_und hu,SV.den,goInt];omega
 |false=>
  simp only[cond]at he;simp[pW,Builtin.len_,ht.run_und hu,SV.den,goInt];omega
omit ht in
theorem aFQ{fz:Nat->Option Obj}{w:World}{ks:List CK}{u:U}(h:rowN fz w ks u):u.raw=.slice u.adr u.rlen u.rcap:=by
 cases u with
 |bx a n c l=>rfl
 |_=>rfl
omit ht in
theorem aFF{u v:U}(h:u.raw=v.raw):u.rcap=v.rcap:=by
 have key:∀x:U,x.raw=.slice x.adr x.rlen x.rcap:=by intro x;cases x<;>rfl
 grind
theorem Eg{B:Base}{st st':St}{c:Bool}{t:TypeId}{x v:SV}{ρ:Env}{w:World}(hr:RepW B ρ st w)(hx:x.ok ρ)(h:u6 tb st c t x=.val v st')(ty:TypeId)(bU:List TypeId)(rv:List Value):
  st'=st/\v.ok ρ/\(pW c (t::bU).toArray ty (x.den ρ::rv).toArray).run P w=.ok (v.den ρ) w:=by
 have hp:=hr.pc;unfold u6 at h;split at h
 ·rename_i elem hu;split at h
  ·obtain⟨rfl,rfl,h0⟩:=Ek ht.facts hp h
   refine⟨rfl,by simp[SV.ok],?_⟩
   exact FL ht hu c ty _ rv _ _ _ h0 (by grind) w
  ·obtain⟨rfl,rfl,h0⟩:=Ek ht.facts hp h
   refine⟨rfl,by simp[SV.ok],?_⟩
   exact FL ht hu c ty _ rv _ _ _ h0 (by grind) w
  ·rename_i ks e;split at h
   ·cases h
   ·have hx':SlOk _ ks _:=hx
    obtain⟨q1,_⟩:=vX (w:=aR ks) hx' (b7 ks) (by grind[b7])
    obtain⟨rfl,rfl,h0⟩:=Ek ht.facts hp h
    refine⟨rfl,by simp[SV.ok],?_⟩
    have hd:(SV.bsl ks e).den ρ=.slice (e.den ρ).adr (e.den ρ).rlen (e.den ρ).rcap:=by grind[SV.den,zR]
    grind[FL,yc]
  ·rename_i b ks e idx j;split at h
   ·cases h
   ·split at h
    ·rename_i cur p hat
     obtain⟨_,_,_,_,_,_,_,_,_,_,_,_,_,hrow,hraw⟩:=EK ht hr hat
     obtain⟨q1,_⟩:=M5 (w:=aR ks) (aej hrow) (b7 ks) (by grind[b7])
     obtain⟨rfl,rfl,h0⟩:=Ek ht.facts hp h
     refine⟨rfl,by simp[SV.ok],?_⟩
     have hd:(SV.nsl b ks e idx j).den ρ=.slice (cur.den ρ).adr (cur.den ρ).rlen (cur.den ρ).rcap:=by
      grind[SV.den,aFQ]
     grind[FL,yc,aFF,DI]
    all_goals grind
  grind
 ·rename_i hu;split at h
  ·cases h
  ·split at h
   ·obtain⟨rfl,rfl⟩:=h
    refine⟨rfl,by simp[SV.ok],?_⟩
    simp[pW,Builtin.len_,ht.run_und hu];rfl
   grind
 ·rename_i a b hu;split at h
  ·cases h
  ·split at h
   ·rename_i m;split at h
    ·rename_i own es clk hb
     obtain⟨rfl,rfl⟩:=h
     refine⟨rfl,by simp[SV.ok],?_⟩
     obtain⟨_,⟨entries,clock,h1,_,h2,_⟩,_⟩:=hr.blk _ _ hb
     have hg:(getObj (ρ.blk m)).run P w=.ok (.map entries clock) w:=by grind[getObj,Sem.run]
     simp[pW,Builtin.len_,ht.run_und hu,SV.den,goInt,hg,h2.1,b7]
    ·rename_i own k c e hb
     obtain⟨rfl,rfl⟩:=h
     refine⟨rfl,by simp[SV.ok],?_⟩
     obtain⟨_,⟨entries,clock,h1,h2,_⟩,_⟩:=hr.blk _ _ hb
     have hg:(getObj (ρ.blk m)).run P w=.ok (.map entries clock) w:=by grind[getObj,Sem.run]
     have he:(E.fn 0 e).I ρ=(e.L ρ).length:=rfl;simp[pW,Builtin.len_,ht.run_und hu,SV.den,goInt,hg,h2.1,he]
    grind
   grind
 grind
omit ht in
theorem uJ{c:CK}{v:SV}{e:E}(h:om c v=some e){ρ:Env}(hv:v.ok ρ):v.den ρ=c.val (e.den ρ)/\v.one=true/\c.ok ρ.fz (e.den ρ):=by
 unfold om at h;split at h
 ·split at h
  ·rename_i hk
   have:=gJ hk;subst this
   simp only[Option.some.injEq]at h;subst h
   exact⟨rfl,rfl,trivial⟩
  grind
 ·simp only[Option.some.injEq]at h;subst h
  exact⟨rfl,rfl,trivial⟩
 ·simp only[Option.some.injEq]at h;subst h
  exact⟨rfl,rfl,trivial⟩
 ·split at h
  ·rename_i hk
   have:=kL _ _ hk;subst this
   simp only[Option.some.injEq]at h;subst h
   exact⟨rfl,rfl,hv⟩
  grind
 ·simp only[Option.some.injEq]at h;subst h
  exact⟨rfl,rfl,SlOk.nil⟩
 grind
omit ht in
theorem aeh{ρ:Env}:∀(cs:List CK)(vs:List SV)(e:E)(pre:List U),vT cs vs=some e->SV.oks ρ vs->SV.dens ρ vs=qG (pre++e.L ρ) pre.length cs/\vw ρ.fz (pre++e.L ρ) pre.length cs
 |[],[],_,_,_,_=>⟨rfl,trivial⟩
 |[],_::_,_,_,h,_=>by simp[vT]at h
 |_::_,[],_,_,h,_=>by simp[vT]at h
 |c::cs,v::vs,e,pre,h,hv=>by
  simp only[vT]at h;split at h
  ·rename_i e0 r h0 hr;simp only[Option.some.injEq]at h;subst h
   obtain⟨a1,_,a3⟩:=uJ h0 hv.1
   obtain⟨b1,b2⟩:=aeh cs vs r (pre++[e0.den ρ]) hr hv.2
   have eL:(E.fn 23 (.pr e0 r)).L ρ=e0.den ρ::r.L ρ:=rfl;have eg:(pre++(e0.den ρ::r.L ρ)).getD pre.length (.int 0)=e0.den ρ:=by simp
   have ea:pre++[e0.den ρ]++r.L ρ=pre++(e0.den ρ::r.L ρ):=by simp
   rw[ea,List.length_append,List.length_singleton]at b1 b2
   rw[eL]
   refine⟨?_,?_,b2⟩
   ·show v.den ρ::SV.dens ρ vs=c.val _::qG _ (pre.length+1) cs
    rw[eg,a1,b1]
   ·rw[eg];exact a3
  ·cases h
omit ht in
theorem yK{c:VK}{v:SV}{e:E}(h:sk c v=some e){ρ:Env}(hv:v.ok ρ):v.den ρ=c.val (e.den ρ)/\True/\c.ok ρ.fz (e.den ρ):=by
 unfold sk at h;cases c with
 |one c=>
  obtain⟨a,_,b⟩:=uJ h hv
  exact⟨a,trivial,b⟩
 |row ks=>
  simp only at h;split at h
  ·rename_i vs
   obtain⟨a,b⟩:=aeh ks vs e [] h hv
   refine⟨?_,trivial,b⟩
   show Value.agg (SV.dens ρ vs).toArray=Value.agg (qG (e.den ρ).toL 0 ks).toArray
   rw[a];rfl
  ·cases h
omit ht in
theorem MW{ρ:Env}{ks:List CK}{idx:E}(hi:0<=idx.I ρ):∀(vs:List SV)(j:Nat)(l l':E),putCells ks (aR ks) idx vs j l=some l'->SV.oks ρ vs->
  ((idx.I ρ).toNat+1)*ks.length<=(l.L ρ).length->∀ {arr:Array Value},(l.L ρ).length<=arr.size->flatRep ρ.fz ks (l.L ρ) arr->
  (l'.L ρ).length=(l.L ρ).length/\(∀v∈vs,v.one=true)/\j+vs.length<=max j ks.length/\
  flatRep ρ.fz ks (l'.L ρ) (arr.toList.take ((idx.I ρ).toNat*ks.length+j)++SV.dens ρ vs++arr.toList.drop ((idx.I ρ).toNat*ks.length+j+vs.length)).toArray
 |[],j,l,l',h,_,hlt,arr,_,hr=>by
  simp only[putCells,Option.some.injEq]at h;subst h
  refine⟨rfl,by simp,by grind,?_⟩
  simp_all[SV.dens]
 |v::vs,j,l,l',h,hok,hlt,arr,hsz,hr=>by
  simp only[putCells]at h;split at h
  ·rename_i c hc
   rw[ee]at hc
   have hj:=(List.getElem?_eq_some_iff.1 hc).1;split at h
   ·rename_i e he
    obtain⟨f1,f2,f3⟩:=uJ he hok.1
    obtain⟨_,hposN0⟩:=vK (w:=aR ks) (idx:=idx) (j:=j) (ρ:=ρ) hi (fun e=>by simp_all[b7])
    have hposN:((eD (aR ks) idx j).I ρ).toNat=(idx.I ρ).toNat*ks.length+j:=by rw[hposN0,b7]
    generalize hp:(idx.I ρ).toNat*ks.length=p at *;have hL:(jN l (eD (aR ks) idx j) e).L ρ=(l.L ρ).set (p+j) (e.den ρ):=by rw[E.L_upd,hposN]
    have hr':flatRep ρ.fz ks ((jN l (eD (aR ks) idx j) e).L ρ) (arr.setIfInBounds (p+j) (v.den ρ)):=by
     intro i u hu
     rw[hL]at hu
     by_cases hij:i=p+j
     ·grind[Nat.add_mul_mod_self_right,Nat.mod_eq_of_lt]
     ·rw[List.getElem?_set_ne (Ne.symm hij)]at hu
      obtain⟨c',g1,g2,g3⟩:=hr i u hu
      grind
    have hlen':((jN l (eD (aR ks) idx j) e).L ρ).length=(l.L ρ).length:=by simp_all
    obtain⟨k1,k2,k3,k4⟩:=MW hi vs _ _ _ h hok.2 (by omega) (by simp_all) hr'
    refine⟨by omega,?_,by grind,?_⟩
    ·simp_all
    ·have e1:(arr.setIfInBounds (p+j) (v.den ρ)).toList.take (p+(j+1))=arr.toList.take (p+j)++[v.den ρ]:=by
      have hlt2:p+j<arr.toList.length:=by grind
      rw[Array.toList_setIfInBounds,<- Nat.add_assoc,List.take_add_one,List.take_set_of_le (Nat.le_refl _),List.getElem?_set_self hlt2]
      rfl
     have e2:(arr.setIfInBounds (p+j) (v.den ρ)).toList.drop (p+(j+1)+vs.length)=arr.toList.drop (p+j+(vs.length+1)):=by
      grind[List.drop_set_of_lt]
     simp_all[SV.dens]
   grind
  grind
omit ht in
theorem aCC(e:E)(ρ:Env):(uB e).L ρ=e.L ρ:=by
 unfold uB;split<;>rfl
omit ht in
theorem aFq{c:CK}{v:SV}{e:E}(h:om c v=some e)(hp:MQ c v=true){fz:Nat->Option Obj}{w:World}{ρ:Env}(hok:c.ok fz (e.den ρ)):(∀own:Prop,YZ fz w own c (e.den ρ))/\∀ks r,c=.slc ks->gN (e.den ρ)≠some r:=by
 unfold om at h;split at h
 ·refine⟨fun _=>trivial,fun ks r hc=>by grind⟩
 ·refine⟨fun _=>trivial,fun ks r hc=>by grind⟩
 ·refine⟨fun _=>trivial,fun ks r hc=>by grind⟩
 ·grind[MQ]
 ·simp only[Option.some.injEq]at h;subst h
  exact⟨fun _=>⟨fun _=>⟨rfl,rfl,rfl⟩,fun _=>hok⟩,fun ks r _ hr=>by simp[E.den,sn,wa,gN,Nat.blt]at hr⟩
 grind
omit ht in
theorem adZ{ρ:Env}{w:World}{ks:List CK}{idx:E}(hi:0<=idx.I ρ):∀(vs:List SV)(j:Nat)(l l':E),putCells ks (aR ks) idx vs j l=some l'->Ft ks j vs=true->SV.oks ρ vs->
  ((idx.I ρ).toNat+1)*ks.length<=(l.L ρ).length->∀ {arr:Array Value} {o:Int},(l.L ρ).length<=arr.size->nestRep ρ.fz w ks o (l.L ρ) arr->
  (l'.L ρ).length=(l.L ρ).length/\(∀v∈vs,v.one=true)/\j+vs.length<=max j ks.length/\
  nestRep ρ.fz w ks o (l'.L ρ) (arr.toList.take ((idx.I ρ).toNat*ks.length+j)++SV.dens ρ vs++arr.toList.drop ((idx.I ρ).toNat*ks.length+j+vs.length)).toArray/\
  ∀i r,gv ks o (l'.L ρ) i r->gv ks o (l.L ρ) i r
 |[],j,l,l',h,_,_,hlt,arr,o,_,hr=>by
  simp only[putCells,Option.some.injEq]at h;subst h
  refine⟨rfl,by simp,by grind,?_,fun _ _ h=>h⟩
  simp_all[SV.dens]
 |v::vs,j,l,l',h,hpl,hok,hlt,arr,o,hsz,hr=>by
  simp only[putCells]at h;simp only[Ft]at hpl;split at h
  ·rename_i c hc
   rw[hc]at hpl
   simp only[Bool.and_eq_true]at hpl
   rw[ee]at hc
   have hj:=(List.getElem?_eq_some_iff.1 hc).1;split at h
   ·rename_i e he
    obtain⟨f1,f2,f0⟩:=uJ he hok.1
    obtain⟨f3,f4⟩:=aFq he hpl.1 (fz:=ρ.fz) (w:=w) (ρ:=ρ) f0
    obtain⟨_,hposN0⟩:=vK (w:=aR ks) (idx:=idx) (j:=j) (ρ:=ρ) hi (fun e=>by simp_all[b7])
    have hposN:((eD (aR ks) idx j).I ρ).toNat=(idx.I ρ).toNat*ks.length+j:=by rw[hposN0,b7]
    generalize hp:(idx.I ρ).toNat*ks.length=p at *;have hin:p+j<(l.L ρ).length:=by grind
    have hL:(jN l (eD (aR ks) idx j) e).L ρ=(l.L ρ).set (p+j) (e.den ρ):=by rw[E.L_upd,hposN]
    have hm:(p+j)%ks.length=j:=by grind[Nat.add_mul_mod_self_right,Nat.mod_eq_of_lt]
    have hr':nestRep ρ.fz w ks o ((jN l (eD (aR ks) idx j) e).L ρ) (arr.setIfInBounds (p+j) (v.den ρ)):=by
     intro i u hu
     rw[hL]at hu
     by_cases hij:i=p+j
     ·grind
     ·rw[List.getElem?_set_ne (Ne.symm hij)]at hu
      obtain⟨c',g1,g2,g3⟩:=hr i u hu
      grind
    have hs':∀i r,gv ks o ((jN l (eD (aR ks) idx j) e).L ρ) i r->gv ks o (l.L ρ) i r:=by
     rintro i r ⟨u,ks',hu,hk,ho,hlo⟩
     rw[hL]at hu
     by_cases hij:i=p+j
     ·simp_all
     ·rw[List.getElem?_set_ne (Ne.symm hij)]at hu
      exact⟨u,ks',hu,hk,ho,hlo⟩
    have hlen':((jN l (eD (aR ks) idx j) e).L ρ).length=(l.L ρ).length:=by simp_all
    obtain⟨k1,k2,k3,k4,k5⟩:=adZ hi vs _ _ _ h hpl.2 hok.2 (by omega) (by simp_all) hr'
    refine⟨by omega,?_,by grind,?_,fun i r h=>hs' i r (k5 i r h)⟩
    ·simp_all
    ·have e1:(arr.setIfInBounds (p+j) (v.den ρ)).toList.take (p+(j+1))=arr.toList.take (p+j)++[v.den ρ]:=by
      have hlt2:p+j<arr.toList.length:=by grind
      rw[Array.toList_setIfInBounds,<- Nat.add_assoc,List.take_add_one,List.take_set_of_le (Nat.le_refl _),List.getElem?_set_self hlt2]
      rfl
     have e2:(arr.setIfInBounds (p+j) (v.den ρ)).toList.drop (p+(j+1)+vs.length)=arr.toList.drop (p+j+(vs.length+1)):=by
      grind[List.drop_set_of_lt]
     simp_all[SV.dens]
   ·cases h
  grind
omit ht in
theorem v6{w:World}{r:Nat}{arr arr':Array Value}{el:TypeId}(h1:w.heap[r]?=some (.cells arr el (0,0)))(x:Nat):(w.setRow r arr').heap[x]?=if x=r then some (.cells arr' el (0,0))else w.heap[x]?:=by
 grind[World.setRow]
omit ht in
theorem RepW.putInner{B:Base}{ρ:Env}{st:St}{w:World}(hr:RepW B ρ st w){b:Nat}{ks:List CK}{l l' n af ow:E}{elem:TypeId}(hb:st.heap.get b=some ⟨true,.nest ks l n af elem ow⟩)
  {k r:Nat}{u u':U}{ks':List CK}(hu:(l.L ρ)[k]?=some u)(hk:ks[k%ks.length]?=some (.slc ks'))(hko:(k:Int)<ow.I ρ*ks.length)(ho:gN u=some r)(ho':gN u'=some r)(hraw:u'.raw=u.raw)(hl':l'.L ρ=(l.L ρ).set k u')
  {arr arr':Array Value}{el:TypeId}(h1:w.heap[r]?=some (.cells arr el (0,0)))(hrow:rowN ρ.fz (w.setRow r arr') ks' u'):
  RepW B ρ {st with heap:=st.heap.set b ⟨true,.nest ks l' n af elem ow⟩} (w.setRow r arr'):=by
 have hin:(SObj.nest ks l n af elem ow).inner ρ r:=⟨k,u,ks',hu,hk,ho,hko⟩
 obtain⟨hfree,hoth⟩:=hr.inn b _ hb r hin
 have hkl:=(List.getElem?_eq_some_iff.1 hu).1;have hget:=fun x=>v6 (arr':=arr') h1 x
 have hne:∀x,x≠r->(w.setRow r arr').heap[x]?=w.heap[x]?:=fun x hx=>by simp_all
 have hslc:∀i x,gv ks (ow.I ρ*ks.length) (l'.L ρ) i x->gv ks (ow.I ρ*ks.length) (l.L ρ) i x:=by
  rintro i x ⟨v,ks2,hv,hk2,hx,hlo⟩
  rw[hl']at hv
  by_cases hik:i=k
  ·subst hik
   exact⟨u,ks2,hu,hk2,by simp_all,hlo⟩
  ·rw[List.getElem?_set_ne (Ne.symm hik)]at hv
   exact⟨v,ks2,hv,hk2,hx,hlo⟩
 refine⟨hr.nv,hr.nb,hr.pc,?_,?_,?_,?_,?_,hr.dj,hr.os,hr.tape,hr.output⟩
 ·intro i x hx
  rw[T.get_set]at hx
  by_cases hi:i=b
  ·subst hi
   rw[if_pos rfl,hb]at hx
   simp only[Option.map_some,Option.some.injEq]at hx;subst hx
   obtain⟨g1,⟨g2,g3,g4,g5,g6,g7⟩,g8⟩:=hr.blk _ _ hb
   refine⟨g1,⟨g2,by simp_all,g4,g5,fun i j x h1 h2=>g6 i j x (hslc _ _ h1) (hslc _ _ h2),fun htot=>?_⟩,g8⟩
   obtain⟨m1,m2,arr0,m3,m4,m5⟩:=g7 htot
   refine⟨m1,m2,arr0,by rw[hne _ ((hoth i _ hb).1 htot)];omega,?_,m5⟩
   intro q v hv
   rw[hl']at hv
   by_cases hqk:q=k
   ·subst hqk
    rw[List.getElem?_set_self hkl]at hv
    simp only[Option.some.injEq]at hv;subst hv
    obtain⟨c,e1,e2,_⟩:=m4 q u hu
    rw[hk]at e1
    simp only[Option.some.injEq]at e1;subst e1
    refine⟨_,hk,?_,fun _=>hrow,fun hn=>absurd hko hn⟩
    show arr0[q]?=some u'.raw
    rw[hraw];exact e2
   ·rw[List.getElem?_set_ne (Ne.symm hqk)]at hv
    obtain⟨c,e1,e2,e3⟩:=m4 q v hv
    refine⟨c,e1,e2,?_⟩
    cases c with
    |slc ks2=>exact⟨fun hlo=>rowN.world (e3.1 hlo) fun x hx=>hne x fun e=>hqk (g6 q k r ⟨v,ks2,hv,e1,by simp_all,hlo⟩ ⟨u,ks',hu,hk,ho,hko⟩),e3.2⟩
    |_=>trivial
  ·rw[if_neg hi]at hx
   obtain⟨k1,k2,k3⟩:=hr.blk _ _ hx
   exact⟨k1,k2.world (fun hlx=>hne _ ((hoth i x hx).1 hlx)) (fun y hy=>hne y fun e=>(hoth i x hx).2 hi (e▸hy)),k3⟩
 ·intro i j x y hx hy lx ly ox oy hij
  rw[T.get_set]at hx hy
  have conv:∀(i:Nat)(x:Blk),(if i=b then Option.map (fun _=>⟨true,.nest ks l' n af elem ow⟩) (st.heap.get b)else st.heap.get i)=some x->x.obj.real ρ->x.own=true->∃x',st.heap.get i=some x'/\x'.obj.real ρ/\x'.own=true:=by
   intro i x hx lx ox;by_cases hi:i=b
   ·subst hi
    rw[if_pos rfl,hb]at hx
    simp only[Option.map_some,Option.some.injEq]at hx;subst hx
    exact⟨_,hb,lx,rfl⟩
   simp_all
  obtain⟨x',hx1,hx2,hx3⟩:=conv i x hx lx ox
  obtain⟨y',hy1,hy2,hy3⟩:=conv j y hy ly oy
  exact hr.inj i j x' y' hx1 hy1 hx2 hy2 hx3 hy3 hij
 ·refine hr.inn.next (fun i x hx=>?_) (fun _ _ hf=>hf)
  rw[T.get_set]at hx
  by_cases hi:i=b
  ·subst hi
   rw[if_pos rfl,hb]at hx
   simp only[Option.map_some,Option.some.injEq]at hx;subst hx;exact .inl ⟨_,hb,id,rfl,fun x ⟨i,h⟩=>⟨i,hslc i x h⟩⟩
  simp_all
 ·intro x o hx
  rw[hne x (fun e=>by rw[e,hfree.1]at hx;cases hx)]
  exact hr.fz x o hx
 ·intro x o hx
  rw[hne x (fun e=>by rw[e,hfree.2]at hx;cases hx)]
  exact hr.fr x o hx
theorem aIc{B:Base}{ρ:Env}{st st':St}{w:World}(hr:RepW B ρ st w){t:TypeId}{b:Nat}{ks:List CK}{e idx:E}{c:Nat}{x:E}{j:Nat}{v:SV}{cur p:E}(hx:(SV.nptr b ks e idx c x j).ok ρ)(hv:v.ok ρ)
  (hat:sN tb.facts st.pc st.heap b ks e idx c=.at cur p)(h:Ad tb st t b ks x j v cur p=.skip st'):
  ∃a w',(SV.nptr b ks e idx c x j).den ρ=.pointer (some a)/\(storeVar t a (v.den ρ)).run P w=.ok () w'/\RepW B ρ st' w':=by
 obtain⟨h0,hk0,r,len,cap,le,he,hlt⟩:=hx
 obtain⟨ks0,l0,n0,tot0,ow0,elem0,k,hb,hko,hp0,hpk,hu,hks,hrow,hraw⟩:=EK ht hr hat
 obtain⟨l,arr,el,hcur,hll,hc,hw,hsz,hfl⟩:=aek hrow he hraw (by omega)
 have hL:cur.L ρ=l:=by unfold E.L;rw[hcur];rfl
 unfold Ad at h;split at h
 ·rename_i sz hsz1;split at h
  ·have hjk:j<=ks.length:=by simp_all[b7]
   split at h
   ·rename_i c' hc';have hLc:(uB cur).L ρ=l:=by rw[aCC,hL]
    have hm6:((x.I ρ).toNat+1)*ks.length<=((uB cur).L ρ).length:=by rw[hLc,hll];exact Nat.mul_le_mul_right _ hlt
    have hm7:((uB cur).L ρ).length<=arr.size:=by
     rw[hLc,hll,hsz]
     refine Nat.mul_le_mul_right _ ?_;have hrow':=hrow
     rw[hcur]at hrow'
     obtain⟨m,rfl⟩:∃m,cap=m+1:=⟨cap-1,by omega⟩
     exact hrow'.2.2.1
    obtain⟨p1,p2,p3,p4⟩:=MW h0 _ _ _ _ hc' (SV.cells_ok hv) hm6 hm7 (by simp_all)
    have hcl:(v.den ρ).cells.toList.length=v.cells.length:=by grind[SV.cells_den]
    have hle:(x.I ρ).toNat*ks.length+j+0+(v.den ρ).cells.toList.length<=arr.size:=by
     grind
    have hst:=run_storeCells_at (P:=P) r _ el _ 0 _ w hw hle (by
     intro y hy
     rw[SV.cells_den]at hy
     obtain⟨s,hs,rfl⟩:=List.mem_map.1 hy
     exact qk (p2 s hs) ρ)
    unfold Ni ac1 at h
    rw[hb]at h
    dsimp only at h
    rw[T.setK_eq]at h
    simp only[EffR.skip.injEq]at h;subst h;have hu':(E.fn 21 (.pr (lO cur) c')).den ρ=.bx (some ⟨r,0,none⟩) len cap (c'.L ρ):=by
     have hh:=DI ρ cur
     rw[hcur]at hh
     obtain⟨l2,hl2⟩:=ad6 hh
     show U.bx ((lO _).den ρ).adr ((lO _).den ρ).rlen ((lO _).den ρ).rcap _=_
     rw[hl2];rfl
    have hoc:gN (cur.den ρ)=some r:=by rw[hcur];obtain⟨m,rfl⟩:∃m,cap=m+1:=⟨cap-1,by omega⟩;rfl
    refine⟨⟨r,(x.I ρ).toNat*ks.length+j,none⟩,_,vr he,?_,RepW.putInner hr hb (k:=k) (r:=r) (u:=cur.den ρ) (u':=(E.fn 21 _).den ρ) hu hks hko hoc (by rw[hu'];obtain⟨m,rfl⟩:∃m,cap=m+1:=⟨cap-1,by omega⟩;rfl) (by rw[hu',hcur];rfl) (by rw[E.L_upd,hpk]) hw
     (arr':=(arr.toList.take ((x.I ρ).toNat*ks.length+j+0)++(v.den ρ).cells.toList++arr.toList.drop ((x.I ρ).toNat*ks.length+j+0+(v.den ρ).cells.toList.length)).toArray) ?_⟩
    ·have hs1:(v.den ρ).cells.size=sz:=by simp_all
     simp only[storeVar,Sem.run_bind,ht.run_size hsz1,Result.andThen_ok,hs1,ne_eq,not_true_eq_false,if_false,hst]
    ·rw[hu']
     obtain⟨m,rfl⟩:∃m,cap=m+1:=⟨cap-1,by omega⟩
     have hrow':=hrow
     rw[hcur]at hrow'
     refine⟨rfl,by simp_all,hrow'.2.2.1,_,el,by rw[v6 hw,if_pos rfl],?_,?_⟩
     ·grind
     simp_all[SV.cells_den,SV.dens_eq]
   grind
  grind
 grind
theorem NF{B:Base}{ρ:Env}{st st':St}{w:World}(hr:RepW B ρ st w){t:TypeId}{x v:SV}(hx:x.ok ρ)(hv:v.ok ρ)(h:tc tb st t x v=.skip st'):
  ∃a w',x.den ρ=.pointer (some a)/\(storeVar t a (v.den ρ)).run P w=.ok () w'/\RepW B ρ st' w':=by
 unfold tc at h;split at h
 ·grind[aIc]
 ·rename_i b o;split at h
  ·rename_i ks l n af elem hb;split at h
   ·rename_i idx j hat
    obtain⟨k1,k2,k3,k4,k5⟩:=pK ht.facts hr.pc hat
    rw[b7]at k1 k2 k4
    obtain⟨arr,h1,m2,m3,m4,m5,m6,m7,m8,m9,m10⟩:=Ld ht hr hb k3 k5
    have hb0:=(hr.blk _ _ hb).2.1;split at h
    ·rename_i sz hsz;split at h
     ·rename_i hc;have hlen:=Nat.eq_of_beq_eq_true hc;split at h
      ·rename_i l' hl'
       rw[T.setK_eq]at h
       simp only[EffR.skip.injEq]at h;subst h
       obtain⟨p1,p2,p3,p4⟩:=MW k3 _ _ _ _ hl' (SV.cells_ok hv) m6 m7 m4
       have hcl:(v.den ρ).cells.toList.length=v.cells.length:=by grind[SV.cells_den]
       have hle:(idx.I ρ).toNat*ks.length+j+0+(v.den ρ).cells.toList.length<=arr.size:=by
        grind
       have hst:=run_storeCells_at (P:=P) _ _ _ _ 0 _ w h1 hle (by
        intro y hy
        rw[SV.cells_den]at hy
        obtain⟨s,hs,rfl⟩:=List.mem_map.1 hy
        exact qk (p2 s hs) ρ)
       refine⟨⟨ρ.blk b,(idx.I ρ).toNat*ks.length+j,none⟩,_,by rw[SV.den,k4,m3,Nat.zero_add],?_,RepW.put hr hb m10 h1 (arr':=(arr.toList.take ((idx.I ρ).toNat*ks.length+j+0)++(v.den ρ).cells.toList++arr.toList.drop ((idx.I ρ).toNat*ks.length+j+0+(v.den ρ).cells.toList.length)).toArray) ?_⟩
       ·have hs1:(v.den ρ).cells.size=sz:=by simp_all
        simp only[storeVar,Sem.run_bind,ht.run_size hsz,Result.andThen_ok,hs1,ne_eq,not_true_eq_false,if_false,hst]
       ·intro w' hw'
        obtain⟨g1,g2,g3,g4,_⟩:=hb0
        refine⟨g1,by omega,g3,g4,fun _=>⟨m2,m3,_,hw',?_,?_⟩⟩
        ·simp_all[SV.cells_den,SV.dens_eq]
        ·simp only[List.size_toArray,List.length_append,List.length_take,List.length_drop,Array.length_toList]at hle ⊢;omega
      grind
     grind
    grind
   all_goals simp_all
  ·rename_i ks l n af elem ow hb;split at h
   ·rename_i idx j hat
    obtain⟨k1,k2,k3,k4,k5⟩:=pK ht.facts hr.pc hat
    rw[b7]at k1 k2 k4
    obtain⟨arr,h1,m2,m3,m4,m5,m6,m7,m8,m9,m10⟩:=zD ht hr hb k3 k5
    have hb0:=(hr.blk _ _ hb).2.1;split at h
    ·rename_i sz hsz;split at h
     ·rename_i hc
      rw[Bool.and_eq_true]at hc
      split at h
      ·rename_i l' hl'
       rw[T.setK_eq]at h
       simp only[EffR.skip.injEq]at h;subst h;have hown:∀i r,gv ks (ow.I ρ*ks.length) (l.L ρ) i r->r≠ρ.blk b:=fun i r hs e=>((hr.inn b _ hb r ⟨i,hs⟩).2 b _ hb).1 m10 e.symm
       obtain⟨p1,p2,p3,p4,p5⟩:=adZ k3 _ _ _ _ hl' hc.2 (SV.cells_ok hv) m6 m7 m4
       have hcl:(v.den ρ).cells.toList.length=v.cells.length:=by grind[SV.cells_den]
       have hle:(idx.I ρ).toNat*ks.length+j+0+(v.den ρ).cells.toList.length<=arr.size:=by
        grind
       have hst:=run_storeCells_at (P:=P) _ _ _ _ 0 _ w h1 hle (by
        intro y hy
        rw[SV.cells_den]at hy
        obtain⟨s,hs,rfl⟩:=List.mem_map.1 hy
        simp_all[qk])
       refine⟨⟨ρ.blk b,(idx.I ρ).toNat*ks.length+j,none⟩,_,by rw[SV.den,k4,m3,Nat.zero_add],?_,RepW.putObj hr hb m10 (w':=w.setRow _ (arr.toList.take ((idx.I ρ).toNat*ks.length+j+0)++(v.den ρ).cells.toList++arr.toList.drop ((idx.I ρ).toNat*ks.length+j+0+(v.den ρ).cells.toList.length)).toArray) (fun r hr=>by rw[v6 h1,if_neg hr]) rfl rfl rfl ?_ (fun r ⟨i,hs⟩=>⟨i,p5 i r hs⟩)⟩
       ·have hs1:(v.den ρ).cells.size=sz:=by simp_all
        simp only[storeVar,Sem.run_bind,ht.run_size hsz,Result.andThen_ok,hs1,ne_eq,not_true_eq_false,if_false,hst]
       ·obtain⟨g1,g2,g3,g4,g5,_⟩:=hb0
        refine⟨g1,by omega,g3,g4,fun i j x a b=>g5 i j x (p5 i x a) (p5 j x b),fun _=>⟨m2,m3,_,by rw[v6 h1,if_pos rfl],?_,?_⟩⟩
        ·rw[hcl,Nat.add_zero,SV.cells_den,<- SV.dens_eq]
         exact p4.world fun i r hs=>by rw[v6 h1,if_neg (hown i r (p5 i r hs))]
        ·simp only[List.size_toArray,List.length_append,List.length_take,List.length_drop,Array.length_toList]at hle ⊢;omega
      ·cases h
     ·cases h
    ·cases h
   all_goals simp_all
  grind
 grind
omit ht in
theorem jk{fs pc:List E}{ρ:Env}(hf:∀x∈fs,∀ρ,x.B ρ=true)(hp:∀x∈pc,x.B ρ=true){a b:E}(h:dD fs pc a b=true):a.I ρ<=b.I ρ:=pL hf hp h
omit ht in
theorem aB8{fs pc:List E}{ρ:Env}(hf:∀x∈fs,∀ρ,x.B ρ=true)(hp:∀x∈pc,x.B ρ=true){c lo hi mx:E}{hlo hhi hmx:Bool}(h:J5 fs pc c lo hi mx hlo hhi hmx=none):
  (hlo=true->0<=lo.I ρ)/\(hhi=true->0<=hi.I ρ)/\(hmx=true->0<=mx.I ρ/\mx.I ρ<=c.I ρ)/\(hhi=true->hi.I ρ<=mx.I ρ)/\(hlo=true->lo.I ρ<=hi.I ρ):=by
 unfold J5 at h;repeat' split at h
 all_goals first | (cases h) | skip
 rename_i h1 _ h2 _ h3 _ h4 _ h5 _ h6;have nn:=fun {e:E}=>iY (e:=e) hf hp
 have le:=fun {a b:E}=>jk (a:=a) (b:=b) hf hp
 simp_all
omit ht in
theorem aCM{fs pc:List E}{ρ:Env}(hf:∀x∈fs,∀ρ,x.B ρ=true)(hp:∀x∈pc,x.B ρ=true){len cap lo hi mx:E}{hlo hhi hmx:Bool}(h:Ks fs pc len cap lo hi mx hlo hhi hmx=none):
  (hlo=true->0<=lo.I ρ)/\(hhi=true->0<=hi.I ρ)/\(hmx=true->0<=mx.I ρ/\(mx.I ρ<=cap.I ρ\/mx.I ρ<=len.I ρ))/\(hhi=true->hi.I ρ<=len.I ρ)/\(hmx=true->hi.I ρ<=mx.I ρ)/\(hlo=true->lo.I ρ<=hi.I ρ):=by
 unfold Ks at h;repeat' split at h
 all_goals first | (cases h) | skip
 have nn:=fun {e:E}=>iY (e:=e) hf hp
 have le:=fun {a b:E}=>jk (a:=a) (b:=b) hf hp
 grind
omit ht in
theorem M7{x:SV}{e:E}{d:E}(hx:fN d (some x)=some e){ρ:Env}{y:Nat}(h0:0<=e.I ρ)(hy:e.I ρ<=(y:Int))(code:BoundsCode)(w:World):(Instr.sliceBound (x.den ρ) y code).run P w=.ok (e.I ρ).toNat w:=by
 cases x<;>simp[fN]at hx;simp_all[Instr.sliceBound,SV.den,asIntOf]
omit ht in
theorem aen(isSlice:Bool){lo hi mx:Option SV}{l c lo' hi' mx':E}(e1:fN (.int 0) lo=some lo')(e2:fN l hi=some hi')(e3:fN c mx=some mx')(hmh:(iv mx && !(iv hi))=false){ρ:Env}
  {len cap:Nat}(hl:(l.I ρ).toNat=len)(hc:(c.I ρ).toNat=cap)
  (b1:iv lo=true->0<=lo'.I ρ)(b2:iv hi=true->0<=hi'.I ρ)(b3:iv mx=true->0<=mx'.I ρ/\(mx'.I ρ).toNat<=cap)(b4:iv hi=true->(hi'.I ρ).toNat<=(mx'.I ρ).toNat)(b5:iv lo=true->(lo'.I ρ).toNat<=(hi'.I ρ).toNat)(w:World):
  (Instr.sliceBounds isSlice len cap (fJ ρ lo) (fJ ρ hi) (fJ ρ mx)).run P w=.ok ((lo'.I ρ).toNat,(hi'.I ρ).toNat,(mx'.I ρ).toNat) w:=by
 have hm:∀x,mx=some x->∀code,(Instr.sliceBound (x.den ρ) cap code).run P w=.ok (mx'.I ρ).toNat w:=by
  rintro x rfl code
  obtain⟨q1,q2⟩:=b3 rfl
  grind[M7]
 have hh:∀x,hi=some x->∀code,(Instr.sliceBound (x.den ρ) (mx'.I ρ).toNat code).run P w=.ok (hi'.I ρ).toNat w:=by
  rintro x rfl code
  have q1:=b2 rfl;have q2:=b4 rfl;grind[M7]
 have hl':∀x,lo=some x->∀code,(Instr.sliceBound (x.den ρ) (hi'.I ρ).toNat code).run P w=.ok (lo'.I ρ).toNat w:=by
  rintro x rfl code
  have q1:=b1 rfl;have q2:=b5 rfl;grind[M7]
 subst hl;subst hc;cases mx with
 |none=>
  simp only[fN,Option.some.injEq]at e3;subst e3;cases hi with
  |none=>
   simp only[fN,Option.some.injEq]at e2;subst e2;cases lo with
   |none=>simp only[fN,Option.some.injEq]at e1;subst e1;rfl
   |some x=>simp[Instr.sliceBounds,fJ,hl' x _]
  |some y=>
   cases lo with
   |none=>simp only[fN,Option.some.injEq]at e1;subst e1;simp[Instr.sliceBounds,fJ,hh y _]
   |some x=>simp[Instr.sliceBounds,fJ,hh y _,hl' x _]
 |some z=>
  cases hi with
  |none=>grind[iv]
  |some y=>
   cases lo with
   |none=>simp only[fN,Option.some.injEq]at e1;subst e1;simp[Instr.sliceBounds,fJ,hm z _,hh y _]
   |some x=>simp[Instr.sliceBounds,fJ,hm z _,hh y _,hl' x _]
theorem aeo{t elem:TypeId}{sz:Nat}(hu:tb.und t=some (.slice elem))(hsz:dd tb elem=some sz){a:Option Addr}{len cap l h m:Nat}{lo hi mx:Option Value}{w:World}(hb:(Instr.sliceBounds true len cap lo hi mx).run P w=.ok (l,h,m) w):
  (Instr.sliceAt t (.slice a len cap) lo hi mx).run P w=.ok (.slice (if m=l then a else a.map (·.add (l*sz))) (h-l) (m-l)) w:=by
 simp only[Instr.sliceAt,Sem.run_bind,ht.run_und hu,Result.andThen_ok,Instr.slice,hb,ht.run_size hsz,Sem.run_pure]
omit ht in
theorem SlOk.cut{fz:Nat->Option Obj}{ks:List CK}{u:U}(hk:SlOk fz ks u){w l h m:Nat}(hw:w=ks.length)(hw0:0<w)(h1:l<=h)(h2:h<=u.rlen)(h3:h<=m)(h4:m<=u.rcap):SlOk fz ks (U.cut w u l h m):=by
 subst hw;cases hk with
 |nil=>
  simp only[U.rcap]at h2 h4;have e1:h=0:=by omega
  have e2:m=0:=by omega
  subst e1;subst e2;simp[U.cut,U.adr];exact .nil
 |empty a=>
  simp only[U.rcap]at h2 h4;have e1:h=0:=by omega
  have e2:m=0:=by omega
  have e3:l=0:=by omega
  subst e1;subst e2;subst e3;simp[U.cut];exact .empty a
 |mk hl hc hz hv hs=>
  rename_i r off len cap L arr elem fr;simp only[U.rlen]at h2 h4;have hL:(U.bx (some ⟨r,off,none⟩) len cap L).toL=L:=rfl;have hlen:((L.take (h*ks.length)).drop (l*ks.length)).length=(h-l)*ks.length:=by
   simp_all[Nat.sub_mul]
  have hget:∀i u,((L.take (h*ks.length)).drop (l*ks.length))[i]?=some u->L[l*ks.length+i]?=some u/\m≠l:=by
   grind
  unfold U.cut;have hadr:(if m=l then(U.bx (some ⟨r,off,none⟩) len cap L).adr else(U.bx (some ⟨r,off,none⟩) len cap L).adr.map (·.add (l*ks.length)))=some ⟨r,if m=l then off else off+l*ks.length,none⟩:=by
   grind[U.adr,gG]
  rw[hadr]
  refine .mk hlen (by omega) (fun hne=>hz ?_) ?_ ?_ (arr:=arr) (elem:=elem) (fr:=fr)
  ·grind
  ·intro i u hu
   obtain⟨q1,q2⟩:=hget i u hu
   obtain⟨c,g1,g2⟩:=hv _ _ q1
   simp_all[Nat.add_assoc]
  grind[Nat.mul_comm,Nat.mul_add_mod]
end
end Go.SX

namespace Go.SX
section
variable {P:Program} {tb:Tab} (ht:TabOk P tb)
include ht
omit ht in
theorem qd{a b:E}{ρ:Env}(h0:0<=b.I ρ)(h:b.I ρ<=a.I ρ):((jM a b).I ρ).toNat=(a.I ρ).toNat-(b.I ρ).toNat:=by
 rw[abX];omega
omit ht in
theorem Av{e:E}(h:tv e=true):e=.int 0:=by
 unfold tv at h;split at h;all_goals simp_all
omit ht in
theorem EG{fs pc:List E}{ρ:Env}(hf:∀x∈fs,∀ρ,x.B ρ=true)(hp:∀x∈pc,x.B ρ=true){lo hi mx:E}{b:Bool}(h:EF fs pc lo hi mx=some b):
  (b=true->lo.I ρ<mx.I ρ\/mx.I ρ≠lo.I ρ)/\(b=false->mx.I ρ=lo.I ρ):=by
 unfold EF at h;split at h
 ·rename_i hc;simp only[Bool.and_eq_true]at hc;simp only[Option.some.injEq]at h;have h1:=kP hf hp hc.1;have h2:=jk hf hp hc.2;grind
 ·split at h
  ·rename_i hk;simp only[Option.some.injEq]at h;have:=eK hf hp hk;simp_all[eM,mH]
  ·rename_i hk;simp only[Option.some.injEq]at h;have:=eK hf hp hk;simp_all[eM,uC]
  ·cases h
omit ht in
theorem Yg(n:Nat)(a:Option Addr):a.map (·.add (0*n))=a:=by
 simp_all[Addr.add]
theorem aCN{B:Base}{st st':St}{sz:Nat}{x v:SV}{lo hi mx l c:E}{ρ:Env}{w:World}(hr:RepW B ρ st w)(hlc:LS x=some (l,c))(h:yj tb st sz x lo hi mx=.val v st')
  (hlo:0<=lo.I ρ)(hc:mx.I ρ=c.I ρ\/(0<=mx.I ρ/\mx.I ρ<=c.I ρ)):
  st'=st/\v.ok ρ/\∃a,x.den ρ=.slice a (l.I ρ).toNat (c.I ρ).toNat/\v.den ρ=.slice (if(mx.I ρ).toNat=(lo.I ρ).toNat then a else a.map (·.add ((lo.I ρ).toNat*sz))) ((hi.I ρ).toNat-(lo.I ρ).toNat) ((mx.I ρ).toNat-(lo.I ρ).toNat):=by
 have hp:=hr.pc;have le:=fun {a b:E}=>jk (a:=a) (b:=b) ht.facts hp
 unfold yj at h;split at h
 ·rename_i b l0 c0
  obtain⟨rfl,rfl⟩:=hlc
  split at h
  ·rename_i hz
   have:=Av hz;subst this
   obtain⟨rfl,rfl⟩:=h
   refine⟨rfl,by simp[SV.ok],ρ.base b,by rfl,?_⟩
   simp only[SV.den,E.I_int,Int.toNat_zero]
   rw[Yg];simp
  ·split at h
   ·rename_i hm;have hm':=(EG ht.facts hp hm).2 rfl;split at h
    ·rename_i hcc;simp only[Bool.and_eq_true]at hcc;have h1:=le hcc.1;have h2:=le hcc.2;simp only[EffR.val.injEq]at h
     obtain⟨rfl,rfl⟩:=h
     refine⟨rfl,by simp[SV.ok],ρ.base b,by rfl,?_⟩
     grind[SV.den,E.I_int,Int.toNat_zero]
    ·cases h
   ·rename_i hm;have hm':=(EG ht.facts hp hm).1 rfl;split at h
    ·rename_i own ks l' n af elem hb;split at h
     ·rename_i hcc;simp only[Bool.and_eq_true]at hcc
      obtain⟨c1,c2,c3,c4,c5⟩:=hcc
      have c1':=le c1;have h2:=le c2;have h4:=le c4;have h5:=le c5;simp only[EffR.val.injEq]at h
      obtain⟨rfl,rfl⟩:=h
      have hlt:lo.I ρ<mx.I ρ:=by omega
      obtain⟨_,⟨g1,g2,g3,g4,g5⟩,_⟩:=hr.blk _ _ hb
      obtain⟨k1,k2,_⟩:=g5 (by omega)
      refine⟨rfl,by simp[SV.ok],ρ.base b,by rfl,?_⟩
      have hbase:ρ.base b=some ⟨ρ.blk b,0,none⟩:=by rw[fj k1,k2]
      simp only[SV.den,qd hlo h4,qd hlo (Int.le_of_lt hlt)]
      rw[if_neg (by omega),hbase,k2]
      simp[Off.den,gG,Nat.mul_comm]
     ·cases h
    ·rename_i own cs af elem hb;split at h
     ·rename_i n hn
      have:=iz hn;subst this
      split at h
      ·rename_i hcc;simp only[Bool.and_eq_true]at hcc;have h4:=le hcc.1;have h5:=le hcc.2;simp only[EffR.val.injEq]at h
       obtain⟨rfl,rfl⟩:=h
       have hlt:(E.int (Int.ofNat n)).I ρ<mx.I ρ:=by omega
       obtain⟨_,⟨k1,k2,_⟩,_⟩:=hr.blk _ _ hb
       refine⟨rfl,by simp[SV.ok],ρ.base b,by rfl,?_⟩
       have hbase:ρ.base b=some ⟨ρ.blk b,0,none⟩:=by rw[fj k1,k2]
       simp only[SV.den,qd hlo h4,qd hlo (Int.le_of_lt hlt)]
       rw[if_neg (by omega),hbase,k2]
       simp[Off.den,gG]
      ·cases h
     ·cases h
    ·cases h
   ·cases h
 ·rename_i b o l0 c0;simp only[LS,Option.some.injEq,Prod.mk.injEq]at hlc
  obtain⟨rfl,rfl⟩:=hlc
  split at h
  ·rename_i hz
   have:=Av hz;subst this
   simp only[EffR.val.injEq]at h
   obtain⟨rfl,rfl⟩:=h
   refine⟨rfl,by simp[SV.ok],some _,by rfl,?_⟩
   simp only[SV.den,E.I_int,Int.toNat_zero,Nat.sub_zero]
   rw[Yg];simp
  ·split at h
   ·rename_i hm;have hm':=(EG ht.facts hp hm).2 rfl;split at h
    ·rename_i hcc;simp only[Bool.and_eq_true]at hcc;have h1:=le hcc.1;have h2:=le hcc.2;simp only[EffR.val.injEq]at h
     obtain⟨rfl,rfl⟩:=h
     refine⟨rfl,by simp[SV.ok],some ⟨ρ.blk b,ρ.off b+o.den ρ,none⟩,by rfl,?_⟩
     simp only[SV.den,E.I_int,Int.toNat_zero];grind
    ·cases h
   ·rename_i hm;have hm':=(EG ht.facts hp hm).1 rfl;split at h
    ·rename_i hcc;simp only[Bool.and_eq_true]at hcc;have h4:=le hcc.2.1;have h5:=le hcc.2.2;have hlt:lo.I ρ<mx.I ρ:=by omega
     split at h
     ·rename_i n hn
      have:=iz hn;subst this
      simp only[EffR.val.injEq]at h
      obtain⟨rfl,rfl⟩:=h
      refine⟨rfl,by simp[SV.ok],some ⟨ρ.blk b,ρ.off b+o.den ρ,none⟩,by rfl,?_⟩
      simp only[SV.den,qd hlo h4,qd hlo (Int.le_of_lt hlt)]
      rw[if_neg (by omega)]
      simp[xP,gG,Nat.add_assoc]
     ·split at h
      ·rename_i o' ho;simp only[EffR.val.injEq]at h
       obtain⟨rfl,rfl⟩:=h
       refine⟨rfl,by simp[SV.ok],some ⟨ρ.blk b,ρ.off b+o.den ρ,none⟩,by rfl,?_⟩
       simp only[SV.den,qd hlo h4,qd hlo (Int.le_of_lt hlt)]
       rw[if_neg (by omega),Yf ht.facts hp hlo ho]
       simp[gG,Nat.add_assoc]
      ·cases h
    ·cases h
   ·cases h
 ·cases h
theorem aeD{B:Base}{st st':St}{t:TypeId}{x v:SV}{lo hi mx:Option SV}{ρ:Env}{w:World}(hr:RepW B ρ st w)(hx:x.ok ρ)(h:zY tb st t x lo hi mx=.val v st'):
  st'=st/\v.ok ρ/\(Instr.sliceAt t (x.den ρ) (fJ ρ lo) (fJ ρ hi) (fJ ρ mx)).run P w=.ok (v.den ρ) w:=by
 have hp:=hr.pc;unfold zY at h;split at h
 ·rename_i elem hu;split at h
  ·rename_i sz hsz;split at h
   ·cases h
   ·rename_i hmh;split at h
    ·rename_i ks e;split at h
     ·rename_i hk;simp only[Bool.and_eq_true]at hk;have hks:ks.length=sz:=by simp_all[b7]
      have hsz0:=eA.1 hk.2;split at h
      ·rename_i lo' hi' mx' e1 e2 e3;split at h
       ·cases h
       ·rename_i hcut
        obtain⟨rfl,rfl⟩:=h
        have hx':SlOk _ ks _:=hx
        obtain⟨q1,q2⟩:=vX hx' hks.symm hsz0
        have q3:=yc (e:=e) (ρ:=ρ)
        obtain⟨b1,b2,b3,b4,b5,b6⟩:=aCM ht.facts hp hcut
        have hlc:(e.den ρ).rlen<=(e.den ρ).rcap:=by
         generalize e.den ρ=u at hx';cases hx' with
         |nil=>simp[U.rlen,U.rcap]
         |empty=>simp[U.rlen,U.rcap]
         |mk _ hc _ _ _=>exact hc
        have hhl:(hi'.I ρ).toNat<=(e.den ρ).rlen:=by
         cases hi with
         |none=>grind[fN,Option.some.injEq]
         |some y=>have:=b4 rfl;omega
        have hmc:(mx'.I ρ).toNat<=(e.den ρ).rcap:=by
         cases mx with
         |none=>grind[fN,Option.some.injEq]
         |some y=>have:=(b3 rfl).2;omega
        have hhm:(hi'.I ρ).toNat<=(mx'.I ρ).toNat:=by
         cases mx with
         |none=>grind[fN,Option.some.injEq]
         |some y=>have:=b5 rfl;omega
        have hlh:(lo'.I ρ).toNat<=(hi'.I ρ).toNat:=by
         cases lo with
         |none=>simp only[fN,Option.some.injEq]at e1;subst e1;simp
         |some y=>have:=b6 rfl;omega
        have hcutE:(E.fn 24 (.pr (.pr (.int (.ofNat sz)) e) (.pr _ (.pr _ _)))).den ρ=U.cut sz (e.den ρ) (lo'.I ρ).toNat (hi'.I ρ).toNat (mx'.I ρ).toNat:=rfl;have hok:=hx'.cut hks.symm hsz0 hlh hhl hhm hmc
        refine⟨rfl,?_,?_⟩
        ·simp_all[SV.ok]
        ·have hd:(SV.bsl ks e).den ρ=.slice (e.den ρ).adr (e.den ρ).rlen (e.den ρ).rcap:=by grind[SV.den,zR]
         rw[hd,aeo ht hu hsz (aen _ e1 e2 e3 (by omega) q1 q3 b1 b2 (fun e=>⟨(b3 e).1,hmc⟩) (fun _=>hhm) (fun _=>hlh) w)]
         rfl
      ·cases h
     ·cases h
    ·split at h
     ·rename_i l c hlc;split at h
      ·rename_i lo' hi' mx' e1 e2 e3;split at h
       ·cases h
       ·rename_i hb
        obtain⟨b1,b2,b3,b4,b5⟩:=aB8 ht.facts hp hb
        have hlo:0<=lo'.I ρ:=by
         cases lo with
         |none=>simp only[fN,Option.some.injEq]at e1;subst e1;simp
         |some y=>exact b1 rfl
        have hc:mx'.I ρ=c.I ρ\/(0<=mx'.I ρ/\mx'.I ρ<=c.I ρ):=by
         cases mx with
         |none=>simp only[fN,Option.some.injEq]at e3;subst e3;exact .inl rfl
         |some y=>exact .inr (b3 rfl)
        obtain⟨rfl,hok,a,hd,hv⟩:=aCN ht hr hlc h hlo hc
        refine⟨rfl,hok,?_⟩
        rw[hd,hv]
        exact aeo ht hu hsz (aen true e1 e2 e3 (by simpa using hmh) rfl rfl b1 b2 (fun e=>⟨(b3 e).1,by have:=(b3 e).2;omega⟩) (fun e=>by have:=b4 e;omega) (fun e=>by have:=b5 e;omega) w)
      ·cases h
     ·cases h
  ·cases h
 ·cases h
omit ht in
theorem ZM{a b:ByteArray}:kA a b=true↔a=b:=by
 unfold kA
 rw[CQ]
 constructor
 ·intro h;cases a;simp_all
 simp_all
omit ht in
theorem Kf{t:TypeId}{d:TypeDesc}(h:P.underlying t=some d)(hd:d=.bool\/(∃k,d=.int k)\/d=.string)(v:Value)(em:Bool)(w:World):(Instr.checkKey em 10000 t v).run P w=.ok () w:=by
 have h1:=run_underlying h w;have key:∀n,(Instr.checkKey em (n+1) t v).run P w=.ok () w:=by
  intro n;unfold Instr.checkKey
  rw[Sem.run_bind,h1,Result.andThen_ok]
  rcases hd with rfl|⟨k,rfl⟩|rfl<;>rfl
 simp_all
omit ht in
def wt:TypeDesc->Prop
 |.array _ _=>True
 |_=>False
omit ht in
theorem ZG{ρ:Env}:∀(xs ys:List SV)(n:Nat)(e:E),gV xs ys n=some e->xs.length=n/\ys.length=n/\
  (∀(i:Nat)(x y:SV),xs[i]?=some x->ys[i]?=some y->∃k a b,x=.int k a/\y=.int k b)/\(e.B ρ=true->SV.dens ρ xs=SV.dens ρ ys/\∀m,((SV.dens ρ ys).zip (SV.dens ρ xs)).all (fun p=>Instr.sameBits m p.1 p.2)=true)
 |[],[],0,e,h=>by
  simp only[gV,Option.some.injEq]at h;exact⟨rfl,rfl,fun i x y hx=>by simp at hx,fun _=>⟨rfl,fun m=>by simp[SV.dens]⟩⟩
 |x::xs,y::ys,n+1,e,h=>by
  simp only[gV]at h;split at h
  ·split at h
   ·rename_i e' hk he
    have:=gJ hk;simp only[Option.some.injEq]at h;subst h
    obtain⟨h1,h2,h3,h4⟩:=ZG (ρ:=ρ) xs ys n e' he
    refine⟨by simp[h1],by simp[h2],fun i x y hx hy=>?_,fun hb=>?_⟩
    ·grind
    ·rw[EA,Bool.and_eq_true,eM,mH]at hb
     simp_all[SV.dens,SV.den,Instr.sameBits]
   ·cases h
  ·cases h
 |[],[],n+1,e,h=>by simp[gV]at h
 |[],_::_,_,e,h=>by simp[gV]at h
 |_::_,[],_,e,h=>by simp[gV]at h
 |x::xs,y::ys,0,e,h=>by simp[gV]at h
omit ht in
theorem MJ{P:Program}{tb:Tab}(ht:TabOk P tb){elem:TypeId}{vs:List Value}{i:Nat}{v:Value}{w:World}(ha:jI tb elem=some false)(hv:vs[i]?=some v):(part elem vs.toArray i).run P w=.ok v w:=by
 simp only[part,Sem.run_bind,ht.run_agg ha];simp[hv]
omit ht in
theorem ZH{P:Program}{tb:Tab}(ht:TabOk P tb){elem:TypeId}{kk:IntKind}(hu:tb.und elem=some (.int kk))(ha:jI tb elem=some false){ρ:Env}{w:World}{D:Nat}{xs ys:List SV}:
  ∀(xs' ys':List SV)(n i:Nat)(e:E),gV xs' ys' n=some e->xs.drop i=xs'->ys.drop i=ys'->
  (forIn (List.range' i n) ((none,()):Option Bool×Unit) (fun j (_:Option Bool×Unit)=>do
    let x <- part elem (SV.dens ρ xs).toArray (j*1)
    let y <- part elem (SV.dens ρ ys).toArray (j*1)
    let b <- Op.equalIn (D+1) elem x y
    if(!b)=true then pure (ForInStep.done (some false,()))else pure (ForInStep.yield (none,()))):Sem (Option Bool×Unit)).run P w=.ok (if e.B ρ then none else some false,()) w
 |[],[],0,i,e,h,_,_=>by simp only[gV,Option.some.injEq]at h;subst h;simp
 |x::xs',y::ys',n+1,i,e,h,hx,hy=>by
  simp only[gV]at h;split at h
  ·rename_i k a k' b;split at h
   ·rename_i e' hk he
    have:=gJ hk;simp only[Option.some.injEq]at h;subst h
    have ih:=ZH ht hu ha (ρ:=ρ) (w:=w) (D:=D) (xs:=xs) (ys:=ys) _ _ n (i+1) e' he (by rw[<- List.drop_drop,hx];rfl) (by rw[<- List.drop_drop,hy];rfl);have g1:xs[i]?=some (.int k a):=by have:=congrArg (·[0]?) hx;grind
    have g2:ys[i]?=some (.int k b):=by have:=congrArg (·[0]?) hy;grind
    have h1:(part elem (SV.dens ρ xs).toArray (i*1)).run P w=.ok (.int k (a.I ρ)) w:=by
     grind[MJ,SV.dens_eq,SV.den]
    have h2:(part elem (SV.dens ρ ys).toArray (i*1)).run P w=.ok (.int k (b.I ρ)) w:=by
     grind[MJ,SV.dens_eq,SV.den]
    have h3:(Op.equalIn (D+1) elem (.int k (a.I ρ)) (.int k (b.I ρ))).run P w=.ok ((aN .eql a b).B ρ) w:=by
     have hr:=ht.run_und hu w;simp only[Op.equalIn,Sem.run_bind,hr,Result.andThen_ok,if_true,Sem.run_pure,eM,cK]
    rw[List.range'_succ,List.forIn_cons,Sem.run_bind,Sem.run_bind,h1,Result.andThen_ok,Sem.run_bind,h2,Result.andThen_ok,Sem.run_bind,h3,Result.andThen_ok,EA]
    cases hab:(aN _ a b).B ρ with
    |false=>simp
    |true=>
     simp_all
   ·cases h
  ·cases h
 |[],[],n+1,i,e,h,_,_=>by simp[gV]at h
 |[],_::_,_,i,e,h,_,_=>by simp[gV]at h
 |_::_,[],_,i,e,h,_,_=>by simp[gV]at h
 |x::xs,y::ys,0,i,e,h,_,_=>by simp[gV]at h
omit ht in
theorem aC3{P:Program}{tb:Tab}(ht:TabOk P tb){t elem:TypeId}{len:Nat}{kk:IntKind}(hu:tb.und t=some (.array len elem))(hue:tb.und elem=some (.int kk))(hs:dd tb elem=some 1)(ha:jI tb elem=some false)
  {xs ys:List SV}{e:E}(h:gV xs ys len=some e)(ρ:Env)(w:World):(Op.equal t ((SV.agg xs).den ρ) ((SV.agg ys).den ρ)).run P w=.ok (e.B ρ) w:=by
 have hr:=ht.run_und hu w;have hsz:=ht.run_size hs w;have key:∀D,(Op.equalIn (D+1+1) t ((SV.agg xs).den ρ) ((SV.agg ys).den ρ)).run P w=.ok (e.B ρ) w:=by
  intro D;have hp:=ZH ht hue ha (ρ:=ρ) (w:=w) (D:=D) (xs:=xs) (ys:=ys) xs ys _ 0 e h rfl rfl
  rw[Op.equalIn]
  simp only[Sem.run_bind,hr,Result.andThen_ok,SV.den,hsz]
  rw[Std.Legacy.Range.forIn_eq_forIn_range']
  simp only[Std.Legacy.Range.size,Nat.sub_zero,Nat.add_sub_cancel,Nat.div_one,hp];cases e.B ρ<;>simp
 exact key _
omit ht in
theorem Y7{P:Program}{tb:Tab}(ht:TabOk P tb){elem:TypeId}{kk:IntKind}(hu:tb.und elem=some (.int kk))(hs:dd tb elem=some 1)(ha:jI tb elem=some false){em:Bool}{w:World}{D:Nat}{vs:List Value}:
  ∀(n i:Nat),i+n=vs.length->(forIn (List.range' i n) PUnit.unit (fun j (_:PUnit)=>do
    let sz <- sizeOf elem
    let x <- part elem vs.toArray (j*sz)
    Instr.checkKey em (D+1) elem x
    pure (ForInStep.yield PUnit.unit)):Sem PUnit).run P w=.ok PUnit.unit w
 |0,i,_=>by simp
 |n+1,i,hn=>by
  have h1:(part elem vs.toArray (i*1)).run P w=.ok vs[i] w:=by grind[MJ]
  have h2:(Instr.checkKey em (D+1) elem vs[i]).run P w=.ok () w:=by
   unfold Instr.checkKey
   rw[Sem.run_bind,ht.run_und hu w,Result.andThen_ok]
   rfl
  rw[List.range'_succ,List.forIn_cons,Sem.run_bind,Sem.run_bind,ht.run_size hs w,Result.andThen_ok,Sem.run_bind,h1,Result.andThen_ok,Sem.run_bind,h2,Result.andThen_ok,Sem.run_pure,Result.andThen_ok]
  exact Y7 ht hu hs ha n _ (by omega)
omit ht in
theorem aCt{P:Program}{tb:Tab}(ht:TabOk P tb){t elem:TypeId}{len:Nat}{kk:IntKind}(hu:tb.und t=some (.array len elem))(hue:tb.und elem=some (.int kk))(hs:dd tb elem=some 1)(ha:jI tb elem=some false)
  {vs:List Value}(hl:vs.length=len)(em:Bool)(w:World):(Instr.checkKey em 10000 t (.agg vs.toArray)).run P w=.ok () w:=by
 have key:∀D,(Instr.checkKey em (D+1+1) t (.agg vs.toArray)).run P w=.ok () w:=by
  intro D
  rw[Instr.checkKey]
  rw[Sem.run_bind,ht.run_und hu w,Result.andThen_ok]
  simp only
  rw[Std.Legacy.Range.forIn_eq_forIn_range']
  simp only[Std.Legacy.Range.size,Nat.sub_zero,Nat.add_sub_cancel,Nat.div_one]
  rw[Sem.run_bind,Y7 ht hue hs ha (vs:=vs) _ 0 (by omega)]
  rfl
 simp_all
omit ht in
theorem ZI{t:TypeId}{x y:SV}{e:E}(h:yy tb t x y=some e)(ρ:Env):∃d,tb.und t=some d/\(Instr.sameNow d (x.den ρ) (y.den ρ)=some (e.B ρ)\/(wt d/\∀w,TabOk P tb->(Op.equal t (x.den ρ) (y.den ρ)).run P w=.ok (e.B ρ) w))/\(∀w (empty:Bool),TabOk P tb->(Instr.checkKey empty 10000 t (x.den ρ)).run P w=.ok () w)/\
  (e.B ρ=true->x.den ρ=y.den ρ/\Instr.sameBits 10000 (y.den ρ) (x.den ρ)=true):=by
 have eqs:=ZL;unfold yy at h;split at h
 ·rename_i len elem hu;split at h
  ·rename_i kk hue;split at h
   ·rename_i hs ha;split at h
    ·rename_i xs ys
     obtain⟨h1,h2,h3,h4⟩:=ZG (ρ:=ρ) xs ys _ e h
     refine⟨_,hu,.inr ⟨trivial,fun w ht=>aC3 ht hu hue hs ha h ρ w⟩,fun w em ht=>?_,fun he=>?_⟩
     ·grind[SV.den,aCt,SV.dens_eq]
     simp_all[SV.den,Instr.sameBits,Bool.true_and]
    ·cases h
   ·cases h
  ·cases h
 ·rename_i hu;split at h
  ·refine⟨_,hu,?_,?_,?_⟩
   ·grind[Instr.sameNow,SV.den,Mg]
   ·intro w em ht;exact Kf (ht.und hu) (by simp) _ em w
   grind[Mg,SV.den,Instr.sameBits]
  ·cases h
 ·rename_i k0 hu;split at h
  ·split at h
   ·rename_i hk
    have:=gJ hk;simp only[Option.some.injEq]at h;subst h
    refine⟨_,hu,?_,?_,?_⟩
    ·simp_all[Instr.sameNow,SV.den,eM,cK]
    ·intro w em ht;exact Kf (ht.und hu) (by simp) _ em w
    simp_all[eM,mH,SV.den,Instr.sameBits]
   ·cases h
  ·cases h
 ·rename_i hu;split at h
  ·rename_i a b;simp only[Option.some.injEq]at h;subst h
   refine⟨_,hu,?_,?_,?_⟩
   ·simp_all[Instr.sameNow,SV.den,EE]
   ·intro w em ht;exact Kf (ht.und hu) (by simp) _ em w
   ·intro he
    rw[EE]at he
    have:=ZM.1 he
    refine⟨by simp[SV.den,this],?_⟩
    simp only[SV.den,this,Instr.sameBits]
    rw[<- eqs];exact ZM.2 rfl
  ·cases h
 ·cases h
omit ht in
def EntL(ρ:Env)(el:List MapEntry)(es:List Ent):Prop:=
 el.length=es.length/\∀(i:Nat)(e:MapEntry)(x:Ent),el[i]?=some e->es[i]?=some x->e.key=x.k.den ρ/\e.val=x.v.den ρ/\(e.born:Int)=x.born.I ρ/\x.k.ok ρ/\x.v.ok ρ
omit ht in
theorem yv{ρ:Env}{entries:Array MapEntry}{es:List Ent}:entRep ρ entries es↔EntL ρ entries.toList es:=by
 grind[entRep,EntL]
omit ht in
theorem EntL.tail{ρ:Env}{e:MapEntry}{x:Ent}{el:List MapEntry}{es:List Ent}(h:EntL ρ (e::el) (x::es)):EntL ρ el es:=
 ⟨by have:=h.1;simp_all,fun i a b ha hb=>h.2 (i+1) a b (by simp_all) (by simp_all)⟩
omit ht in
def Finds(P:Program)(kt:TypeId)(d:TypeDesc)(k:Value)(el:List MapEntry)(i:Nat)(r:Option (Nat×Value)):Prop:=
 Instr.findNow d k el i=some r\/(wt d/\∀w,(Instr.findAsking kt k el i).run P w=.ok r w)
omit ht in
theorem aah{P:Program}{kt:TypeId}{d:TypeDesc}(hd:wt d){k:Value}{el:List MapEntry}{i:Nat}{r:Option (Nat×Value)}(h:Instr.findNow d k el i=some r)(w:World):(Instr.findAsking kt k el i).run P w=.ok r w:=by
 cases el with
 |nil=>
  simp_all[Instr.findNow,Instr.findAsking]
 |cons e el=>
  cases d<;>simp[wt]at hd;simp[Instr.findNow,Instr.sameNow]at h
omit ht in
theorem Finds.asking{P:Program}{kt:TypeId}{d:TypeDesc}(hd:wt d){k:Value}{el:List MapEntry}{i:Nat}{r:Option (Nat×Value)}(h:Finds P kt d k el i r)(w:World):(Instr.findAsking kt k el i).run P w=.ok r w:=by
 rcases h with h|h
 all_goals grind[aah]
omit ht in
theorem Finds.now{P:Program}{kt:TypeId}{d:TypeDesc}{a b:Value}{c:Bool}(hs:Instr.sameNow d a b=some c){k:Value}{el:List MapEntry}{i:Nat}{r:Option (Nat×Value)}(h:Finds P kt d k el i r):Instr.findNow d k el i=some r:=by
 rcases h with h|h
 ·exact h
 ·cases d<;>simp[wt]at h;simp[Instr.sameNow]at hs
omit ht in
def Hl(P:Program)(kt:TypeId)(ρ:Env)(d:TypeDesc)(k:SV)(el:List MapEntry)(es:List Ent)(i:Nat):FR->Prop
 |.at j v b=>∃m e x,j=i+m/\el[m]?=some e/\es[m]?=some x/\x.v=v/\x.born=b/\Finds P kt d (k.den ρ) el i (some (j,e.val))/\k.den ρ=e.key/\Instr.sameBits 10000 e.key (k.den ρ)=true
 |.no=>Finds P kt d (k.den ρ) el i none
 |_=>True
theorem Dv{ρ:Env}{pc:List E}(hp:∀x∈pc,x.B ρ=true){kt:TypeId}{k:SV}{d:TypeDesc}(hd:tb.und kt=some d):∀(es:List Ent)(el:List MapEntry)(i:Nat),EntL ρ el es->
  Hl P kt ρ d k el es i (pI tb pc kt k es i)
 |[],el,i,he=>by
  have:el=[]:=by have:=he.1;simp_all
  simp_all[pI,Hl,Finds,Instr.findNow]
 |x::es,[],i,he=>by have:=he.1;simp_all
 |x::es,e::el,i,he=>by
  obtain⟨k1,k2,k3,k4,k5⟩:=he.2 0 e x rfl rfl
  have ih:=Dv hp (k:=k) hd es el (i+1) he.tail;simp only[pI];split
  ·rename_i q hq
   obtain⟨d',hd',hs,_,hb⟩:=ZI (P:=P) hq ρ
   rw[hd]at hd'
   simp only[Option.some.injEq]at hd';subst hd'
   rw[<- k1]at hs hb
   split
   ·rename_i hk;have hk':=eK ht.facts hp hk
    obtain⟨h1,h2⟩:=hb hk'
    refine⟨0,e,x,rfl,rfl,rfl,rfl,rfl,?_,h1,h2⟩
    rcases hs with hs|⟨hw,hs⟩
    ·left;simp_all[Instr.findNow]
    ·right;simp_all[Instr.findAsking,Sem.run_pure]
   ·rename_i hk;have hk':=eK ht.facts hp hk;have hstep:∀r,Finds P kt d (k.den ρ) el (i+1) r->Finds P kt d (k.den ρ) (e::el) i r:=by
     intro r hr;rcases hs with hs|⟨hw,hs⟩
     ·left
      have:=hr.now hs
      simp_all[Instr.findNow]
     ·right
      refine⟨hw,fun w=>?_⟩
      have:=hr.asking hw w
      simp_all[Instr.findAsking,if_false]
    revert ih
    cases pI tb pc kt k es _ with
    |«at» j v b=>
     rintro⟨m,e',x',g1,g2,g3,g4,g5,g6,g7,g8⟩
     exact⟨m+1,e',x',by omega,by simp_all,by simp_all,g4,g5,hstep _ g6,g7,g8⟩
    |no=>simp_all[Hl]
    |ask e=>intro _;trivial
    |bad=>intro _;trivial
   ·trivial
  ·trivial
omit ht in
theorem jS{kt:TypeId}{d:TypeDesc}(h:P.underlying kt=some d){k:Value}{el:List MapEntry}{r:Option (Nat×Value)}(hr:Finds P kt d k el 0 r)(w:World):(Instr.findKey kt k el).run P w=.ok r w:=by
 have h1:=run_underlying h w;unfold Instr.findKey
 rw[Sem.run_bind,h1,Result.andThen_ok]
 rcases hr with hr|⟨hw,hr⟩
 ·simp_all
 ·cases hn:Instr.findNow d k el 0 with
  |none=>exact hr w
  |some r'=>
   have:=aah (P:=P) (kt:=kt) hw hn w
   simp_all
theorem LN{kt:TypeId}{k:SV}(h:sE tb kt k=true)(ρ:Env):∃d,tb.und kt=some d/\∀w (em:Bool),(Instr.checkKey em 10000 kt (k.den ρ)).run P w=.ok () w:=by
 unfold sE at h;split at h
 ·rename_i e he
  obtain⟨d,hd,_,hc,_⟩:=ZI (P:=P) he ρ
  simp_all
 ·cases h
omit ht in
theorem Dw{k q:IntKind}{c:VK}{fz:Nat->Option Obj}(x:Int):∀(L:List U)(el:List MapEntry)(i:Nat),el.length=L.length->
  (∀(j:Nat)(e:MapEntry)(u:U),el[j]?=some e->L[j]?=some u->e.key=.int k u.fst.toI/\e.val=c.val u.snd/\c.ok fz u.snd)->
  (cF x L=none/\Instr.findNow (.int q) (.int k x) el i=some none/\(∀v,cO x v L=L++[.lst [.int x,v]])/\sI x L=L)\/
  (∃j e u,el[j]?=some e/\L[j]?=some u/\u.fst.toI=x/\cF x L=some u.snd/\Instr.findNow (.int q) (.int k x) el i=some (some (i+j,e.val))/\
   (∀v,cO x v L=L.set j (.lst [.int x,v]))/\sI x L=L.eraseIdx j)
 |[],[],i,_,_=>.inl ⟨rfl,rfl,fun _=>rfl,rfl⟩
 |u::L,[],i,h,_=>by simp at h
 |[],e::el,i,h,_=>by simp at h
 |u::L,e::el,i,hl,h=>by
  obtain⟨k1,k2,k3⟩:=h 0 e u rfl rfl
  by_cases hx:u.fst.toI=x
  ·right
   refine⟨0,e,u,rfl,rfl,hx,by simp[cF,hx],?_,fun v=>by simp[cO,hx],by simp[sI,hx]⟩
   simp_all[Instr.findNow,Instr.sameNow]
  ·have hx':¬x=u.fst.toI:=fun e=>hx e.symm
   rcases Dw (q:=q) x L el (i+1) (by simp_all) (fun j e' u' he hu=>h (j+1) e' u' (by simp_all) (by simp_all))with⟨h1,h2,h3,h4⟩ | ⟨j,e',u',h1,h2,h3,h4,h5,h6,h7⟩
   ·left
    refine⟨by simp_all[cF],?_,fun v=>by simp_all[cO],by simp_all[sI]⟩
    have hb:(x==u.fst.toI)=false:=by simp_all
    simp only[Instr.findNow,k1,Instr.sameNow,if_true,hb,h2]
   ·right
    refine⟨j+1,e',u',by simp_all,by simp_all,h3,by simp_all[cF],?_,fun v=>by simp_all[cO],by simp_all[sI]⟩
    simp only[Instr.findNow,Instr.sameNow];grind
omit ht in
theorem LM{kt:TypeId}{k:IntKind}{ke:E}(h:sE tb kt (.int k ke)=true):∃q,tb.und kt=some (.int q):=by
 grind[sE,yy]
omit ht in
theorem Zd(ok:Bool)(v:SV)(b:E)(ρ:Env):(ky ok v b).den ρ=(if ok then .tuple #[v.den ρ,.bool (b.B ρ)] else v.den ρ):=by
 grind[ky,SV.den,SV.dens]
omit ht in
theorem Ze{ok:Bool}{v:SV}{b:E}{ρ:Env}(hv:v.ok ρ):(ky ok v b).ok ρ:=by
 cases ok<;>simp[ky,SV.ok,SV.oks,hv]
omit ht in
theorem Kl(ok:Bool)(v:SV)(b:Bool)(ρ:Env):(ky ok v (.bool b)).den ρ=(if ok then .tuple #[v.den ρ,.bool b] else v.den ρ):=by
 cases ok<;>simp[ky,SV.den,SV.dens]
omit ht in
theorem Km{ok:Bool}{v:SV}{b:Bool}{ρ:Env}(hv:v.ok ρ):(ky ok v (.bool b)).ok ρ:=by
 cases ok<;>simp[ky,SV.ok,SV.oks,hv]
theorem abI{B:Base}{st st':St}{t:TypeId}{x k v:SV}{ok:Bool}{ρ:Env}{w:World}(hr:RepW B ρ st w)(h:zp tb st t x k ok=.val v st'):
  st'=st/\v.ok ρ/\(Instr.lookup t (x.den ρ) (k.den ρ) ok).run P w=.ok (v.den ρ) w:=by
 have hp:=hr.pc;unfold zp at h;split at h
 ·rename_i kt vt hu;split at h
  ·rename_i z hz hkf
   obtain⟨d,hd,hck⟩:=LN ht hkf ρ
   have hz':=ht.run_zero hz ρ w;split at h
   ·obtain⟨rfl,rfl⟩:=h
    refine⟨rfl,Km (jW hz ρ),?_⟩
    simp only[Instr.lookup,Sem.run_bind,ht.run_und hu,Result.andThen_ok,SV.den,Sem.run_pure,hck,jS (ht.und hd) (r:=none) (el:=[]) (.inl rfl),hz',Kl]
   ·rename_i b;split at h
    ·rename_i own es clk hb
     obtain⟨_,⟨entries,clock,h1,h2,h3,_⟩,_⟩:=hr.blk _ _ hb
     have hg:(getObj (ρ.blk b)).run P w=.ok (.map entries clock) w:=by simp[getObj,Sem.run,h1]
     have hf:=Dv ht hp hd (k:=k) es _ 0 (yv.1 h3);split at h
     ·rename_i j v' s hfs
      rw[hfs]at hf
      obtain⟨m,e,y,g1,g2,g3,g4,g5,g6,g7,g8⟩:=hf
      obtain⟨rfl,rfl⟩:=h
      obtain⟨_,q2,_,_,q5⟩:=(yv.1 h3).2 m e y g2 g3
      rw[g4]at q2 q5
      refine⟨rfl,Km q5,?_⟩
      simp only[Instr.lookup,Sem.run_bind,ht.run_und hu,Result.andThen_ok,SV.den,Sem.run_pure,hg,hck,jS (ht.und hd) g6,Kl,q2]
     ·rename_i hfs
      rw[hfs]at hf
      obtain⟨rfl,rfl⟩:=h
      refine⟨rfl,Km (jW hz ρ),?_⟩
      simp only[Instr.lookup,Sem.run_bind,ht.run_und hu,Result.andThen_ok,SV.den,Sem.run_pure,hg,hck,jS (ht.und hd) hf,hz',Kl]
     all_goals simp_all
    ·rename_i own k0 c e hb
     obtain⟨_,⟨entries,clock,h1,h2,_⟩,_⟩:=hr.blk _ _ hb
     have hg:(getObj (ρ.blk b)).run P w=.ok (.map entries clock) w:=by simp[getObj,Sem.run,h1]
     split at h
     ·rename_i k1 ke ze hfz
      obtain⟨q,hq⟩:=LM hkf
      rw[hq]at hd
      simp only[Option.some.injEq]at hd;subst hd
      obtain⟨z1,_,z3⟩:=yK hfz (jW hz ρ)
      split at h
      ·rename_i hk;have hk':=gJ hk;subst hk';have hck0:∀w em,(Instr.checkKey em _ kt (.int k1 _)).run P w=.ok () w:=hck;simp only[EffR.val.injEq]at h
       obtain⟨rfl,rfl⟩:=h
       have e1:(E.fn 32 (.pr e (.pr ke ze))).den ρ=(cF (ke.I ρ) (e.L ρ)).getD (ze.den ρ):=rfl;have e2:(E.fn 33 (.pr e ke)).B ρ=(cF (ke.I ρ) (e.L ρ)).isSome:=rfl;rcases Dw (q:=q) (ke.I ρ) _ entries.toList 0 (by simpa using h2.1) (fun j e' u he hu=>h2.2 j e' u (by simp_all) hu)with⟨g1,g2,g3,g4⟩ | ⟨j,en,u,g1,g2,g3,g4,g5,g6,g7⟩
       ·refine⟨rfl,Ze (Gb _ _ _ (by simp_all)),?_⟩
        simp only[Instr.lookup,Sem.run_bind,ht.run_und hu,Result.andThen_ok,SV.den,Sem.run_pure,hg,hck0,jS (ht.und hq) (.inl g2),hz',Zd,e2,g1,Ga,e1,Option.getD_none,z1,Option.isSome_none]
       ·obtain⟨k1,k2,k3⟩:=h2.2 j en u (by simp_all) g2
        refine⟨rfl,Ze (Gb _ _ _ (by simp_all)),?_⟩
        simp only[Instr.lookup,Sem.run_bind,ht.run_und hu,Result.andThen_ok,SV.den,Sem.run_pure,hg,hck0,jS (ht.und hq) (.inl g5),Zd,e2,g4,Ga,e1,Option.getD_some,k2,Option.isSome_some]
      ·cases h
     ·cases h
    ·cases h
   ·cases h
  ·cases h
 ·cases h
end
end Go.SX

namespace Go.SX
theorem aEY(a b:Nat):Nat.beq a b=(a==b):=by
 grind[mB,Nat.eq_of_beq_eq_true]
section
variable {P:Program} {tb:Tab} (ht:TabOk P tb)
include ht
omit ht in
theorem aeq{B:Base}{ρ:Env}{st:St}{w:World}(hr:RepW B ρ st w){i j m n:Nat}{oi oj:Off}{o1 o2:Bool}{c1 c2:SV}{cs1 cs2:List SV}{t1 t2:E}{e1 e2:TypeId}
  (hi:st.heap.get i=some ⟨o1,.cells (c1::cs1) t1 e1⟩)(hj:st.heap.get j=some ⟨o2,.cells (c2::cs2) t2 e2⟩)(hm:gL oi=some m)(hn:gL oj=some n)(hown:(o1||o2)=true):
  (sameAddr ⟨ρ.blk i,ρ.off i+oi.den ρ,none⟩ ⟨ρ.blk j,ρ.off j+oj.den ρ,none⟩).run P w=.ok (Nat.beq i j&&Nat.beq m n) w:=by
 obtain⟨_,⟨_,z1,_,a1,h1,_,_⟩,_⟩:=hr.blk _ _ hi
 obtain⟨_,⟨_,z2,_,a2,h2,_,_⟩,_⟩:=hr.blk _ _ hj
 rw[jL hm,jL hn,z1,z2,Nat.zero_add,Nat.zero_add]
 have hbeq:=aEY;by_cases hij:i=j
 ·subst hij;simp only[sameAddr,beq_self_eq_true,if_true,Sem.run_pure,hbeq,Bool.true_and];congr 1;grind
 ·have hne:=hr.apart hi hj trivial trivial (by simpa using hown) hij;have hb:=by simpa using hne
  have hf:∀(b o:Nat)(arr:Array _)(e:TypeId),w.heap[b]?=some (.cells arr e (0,0))->w.frozen? ⟨b,o,none⟩=false:=by
   intro b o arr e h;simp[World.frozen?,h]
  have hs1:w.shape? (ρ.blk i)=some (e1,a1.size):=by simp[World.shape?,h1]
  have hs2:w.shape? (ρ.blk j)=some (e2,a2.size):=by simp[World.shape?,h2]
  have hij':=by simpa using hij
  simp[sameAddr,hb,hbeq,hij',run_frozen,hf _ _ _ _ h1,hf _ _ _ _ h2,noView,viewAt,hs1,hs2,mayBeOne,stringish]
omit ht in
theorem YA(tb:Tab)(st:St)(e:E)(n:Nat)(f:Nat->Option SV)(st':St):pv tb st e n f≠.skip st':=by
 unfold pv;split
 ·rename_i j _;cases f j<;>simp[EffR.ofVal]
 ·simp
 ·simp
omit ht in
theorem aEq(tb:Tab)(st:St)(t:TypeId)(ks:List CK)(l i:E)(j:Nat)(st':St):qa tb st t ks l i j≠.skip st':=by
 grind[qa]
omit ht in
theorem aEs(tb:Tab)(st:St)(t:TypeId)(b:Nat)(ks:List CK)(l i:E)(j:Nat)(st':St):zm tb st t b ks l i j≠.skip st':=by
 grind[zm]
omit ht in
theorem aId(tb:Tab)(st:St)(t:TypeId)(b:Nat)(ks:List CK)(x:E)(j:Nat)(v:SV)(cur p:E)(q:SV×St):Ad tb st t b ks x j v cur p≠.val q.1 q.2:=by
 unfold Ad Ni;grind[T.setK_eq]
omit ht in
theorem abH(tb:Tab)(st:St)(t:TypeId)(x:SV)(st':St):zo tb st t x≠.skip st':=by
 unfold zo;repeat' split
 all_goals simp_all[aEq,aEs]
omit ht in
theorem aIb(tb:Tab)(st:St)(t:TypeId)(x v:SV)(p:SV×St):tc tb st t x v≠.val p.1 p.2:=by
 unfold tc;repeat' split
 all_goals simp_all[aId,T.setK_eq]
omit ht in
theorem aDY(tb:Tab)(st:St)(e l:E)(k:EffR)(st':St)(hk:k≠.skip st'):pQ tb st e l k≠.skip st':=by
 grind[pQ]
omit ht in
theorem aaX(tb:Tab)(st:St)(t:TypeId)(x i:SV)(st':St):yS tb st t x i≠.skip st':=by
 unfold yS;repeat' split
 all_goals simp_all[YA,aDY]
omit ht in
theorem aaZ(tb:Tab)(st:St)(t:TypeId)(x i:SV)(st':St):yT tb st t x i≠.skip st':=by
 unfold yT;grind[YA]
omit ht in
theorem aEg(tb:Tab)(st:St)(e:E)(st':St):pX tb st e≠.skip st':=by
 grind[pX]
omit ht in
theorem Eh(tb:Tab)(st:St)(c:Bool)(t:TypeId)(x:SV)(st':St):u6 tb st c t x≠.skip st':=by
 unfold u6;grind[aEg]
omit ht in
theorem aCO(tb:Tab)(st:St)(sz:Nat)(x:SV)(lo hi mx:E)(st':St):yj tb st sz x lo hi mx≠.skip st':=by
 unfold yj;repeat' split
 all_goals simp
omit ht in
theorem aeE(tb:Tab)(st:St)(t:TypeId)(x:SV)(lo hi mx:Option SV)(st':St):zY tb st t x lo hi mx≠.skip st':=by
 unfold zY;repeat' split
 all_goals simp_all[aCO]
omit ht in
theorem abJ(tb:Tab)(st:St)(t:TypeId)(x k:SV)(ok:Bool)(st':St):zp tb st t x k ok≠.skip st':=by
 unfold zp;repeat' split
 all_goals simp
omit ht in
theorem aef{ρ:Env}{z:List SV}(h:SV.oks ρ z):∀n,SV.oks ρ (mY z n)
 |0=>trivial
 |n+1=>by
  have ih:=aef h n;grind[SV.oks_iff,mY]
def ags(P:Program)(B:Base)(ρ:Env)(t:Tm)(a:Act)(w:World)(o:Oper):EffR->Prop
 |.val v st'=>∃ρ' w',ρ.Ext ρ'/\RepW B ρ' st' w'/\TmRep ρ' t a/\v.ok ρ'/\(execOp a.eval o).run P w=.ok (.value (v.den ρ')) w'
 |.skip st'=>∃ρ' w',ρ.Ext ρ'/\RepW B ρ' st' w'/\TmRep ρ' t a/\(execOp a.eval o).run P w=.ok .skip w'
 |.ask _=>True
 |.lack _=>True
 |.bad=>True
omit ht in
theorem Ei{c:Bool}{b:Builtin}(hb:b=(if c then .cap else .len))(ts:Array TypeId)(ty:TypeId)(cs:Array Bool)(vs:Array Value){v:Value}{w:World}(h:(pW c ts ty vs).run P w=.ok v w):(builtin b ts ty cs vs).run P w=.ok (.value v) w:=by
 subst hb;cases c with
 |true=>exact eE h
 |false=>exact eE h
theorem Zv{ρ:Env}{st:St}{w:World}(hpc:∀e∈st.pc,e.B ρ=true){op:BinOp}{k k':IntKind}{x y:E}{ty:TypeId}{X Y:Operand}{v:SV}{st':St}
  (h:r9 tb st op k x k' y=.val v st'):
  st'=st/\v.ok ρ/\(do eqGuard op ty X Y (SV.den ρ (.int k x)) (SV.den ρ (.int k' y));binOp op ty (SV.den ρ (.int k x)) (SV.den ρ (.int k' y)):Sem Value).run P w=.ok (v.den ρ) w:=by unfold r9 at h;cases h
omit ht in
theorem aFC{st st':St}{op:BinOp}{k k':IntKind}{x y:E}:ad4 tb st op k x k' y≠.skip st':=by
 intro h;unfold ad4 at h;grind
omit ht in
theorem Zw{st st':St}{op:BinOp}{k k':IntKind}{x y:E}:r9 tb st op k x k' y≠.skip st':=by
 cases op;all_goals grind[r9,aFC,shF]
theorem aCZ{B:Base}{ρ:Env}{st:St}{w:World}{t:Tm}{a:Act}(hr:RepW B ρ st w)(hT:TmRep ρ t a)(o:Oper):
  ags P B ρ t a w o (n9 tb t st o.op):=by
 have hev:=hT.eval;have hwf:=hT.wf;generalize hR:n9 tb t st _=R
 rw[Zz]at hR;unfold C9 Dd C8 C7 C6 Dc Da C4 C2 C5 C3 Db at hR
 split at hR;all_goals (rename_i ho)
 ·-- load
  split at hR
  ·rename_i x hx;split at hR
   ·rename_i v hl;subst hR
    obtain⟨ad,h1,h2⟩:=L5 ht hr hl
    refine⟨ρ,w,Env.Ext.refl ρ,hr,hT,L6 ht hr hl,?_⟩
    simp only[execOp,ho,hev _ _ hx];simp_all[Instr.loadAt,Instr.sureAddr,Result.andThen_ok]
   ·cases R with
    |val v st'=>
     obtain⟨rfl,hv,ad,h1,h2⟩:=abG ht hr (hwf _ _ hx) hR
     refine⟨ρ,w,Env.Ext.refl ρ,hr,hT,hv,?_⟩
     simp only[execOp,ho,hev _ _ hx];simp_all[Instr.loadAt,Instr.sureAddr,Result.andThen_ok]
    |skip st'=>simp_all[abH]
    |_=>trivial
  ·subst hR;trivial
 ·-- store
  split at hR
  ·rename_i x y hx hy;split at hR
   ·rename_i st' hs;subst hR
    obtain⟨ad,w',h1,h2,h3⟩:=ae8 ht hr (hwf _ _ hy) hs
    refine⟨ρ,w',Env.Ext.refl ρ,h3,hT,?_⟩
    simp only[execOp,ho,hev _ _ hx,hev _ _ hy,h1];simp_all[qp,Instr.storeAt,Instr.sureAddr,Sem.run_bind,Sem.run_pure,Result.andThen_ok]
   ·cases R with
    |skip st'=>
     obtain⟨ad,w',h1,h2,h3⟩:=NF ht hr (hwf _ _ hx) (hwf _ _ hy) hR
     refine⟨ρ,w',Env.Ext.refl ρ,h3,hT,?_⟩
     simp only[execOp,ho,hev _ _ hx,hev _ _ hy,h1];simp_all[qp,Instr.storeAt,Instr.sureAddr,Sem.run_bind,Sem.run_pure,Result.andThen_ok]
    |val v st'=>exact absurd hR (aIb _ _ _ _ _ (_,_))
    |_=>trivial
  ·subst hR;trivial
 ·-- indexAddr
  split at hR
  ·rename_i x y hx hy;cases R with
   |val v st'=>
    obtain⟨rfl,hv,h2⟩:=aaW ht hr (hwf _ _ hx) hR
    refine⟨ρ,w,Env.Ext.refl ρ,hr,hT,hv,?_⟩
    simp only[execOp,ho,hev _ _ hx,hev _ _ hy];simp_all
   |skip st'=>simp_all[absurd,aaX]
   |_=>trivial
  ·subst hR;trivial
 ·-- index
  split at hR
  ·rename_i x y hx hy;cases R with
   |val v st'=>
    obtain⟨rfl,hv,h2⟩:=aaY ht hr.pc (hwf _ _ hx) hR w
    refine⟨ρ,w,Env.Ext.refl ρ,hr,hT,hv,?_⟩
    simp only[execOp,ho,hev _ _ hx,hev _ _ hy];simp_all
   |skip st'=>simp_all[absurd,aaZ]
   |_=>trivial
  ·subst hR;trivial
 ·-- len,cap
  rename_i c;split at hR
  ·rename_i b hb;split at hR
   ·rename_i ty vs hty hvs;split at hR
    ·rename_i x hx
     rw[ee]at hty hx
     have h1:=od hev _ _ hvs;have e1:c.args.map a.eval=(SV.dens ρ vs).toArray:=by grind
     have hxok:=(SV.oks_iff _).1 (sd hwf _ _ hvs) x (List.mem_of_getElem? hx);have hx':∀(v:SV)(s:Sem _),builtin b c.argTypes o.type (c.args.map fun | .const _=>true | _=>false) (c.args.map a.eval)=s->s.run P w=.ok (.value (v.den ρ)) w->
       (execOp a.eval o).run P w=.ok (.value (v.den ρ)) w:=by
      grind[execOp,resolve,Sem.run_bind,Sem.run_pure,Result.andThen_ok,invoke]
     obtain⟨bU,hrest⟩:∃bU,c.argTypes=(ty::bU).toArray:=by
      cases ha:c.argTypes with
      |mk l=>rw[ha]at hty;cases l with
       |nil=>simp_all
       |cons t' l=>simp_all
     obtain⟨rv,hrv⟩:∃rv,SV.dens ρ vs=x.den ρ::rv:=by
      cases vs with
      |nil=>simp at hx
      |cons x' vs=>simp at hx;subst hx;exact⟨_,rfl⟩
     split at hR
     ·cases R with
      |val v st'=>
       obtain⟨rfl,hv,h2⟩:=Eg ht hr hxok hR _ _ rv
       refine⟨ρ,w,Env.Ext.refl ρ,hr,hT,hv,?_⟩
       refine hx' v _ rfl ?_
       rw[e1,hrv,hrest]
       exact Ei rfl _ _ _ _ h2
      |skip st'=>simp_all[absurd,Eh]
      |_=>trivial
     ·cases R with
      |val v st'=>
       obtain⟨rfl,hv,h2⟩:=Eg ht hr hxok hR _ _ rv
       refine⟨ρ,w,Env.Ext.refl ρ,hr,hT,hv,?_⟩
       refine hx' v _ rfl ?_
       rw[e1,hrv,hrest]
       exact Ei rfl _ _ _ _ h2
      |skip st'=>simp_all[absurd,Eh]
      |_=>trivial
     ·subst hR;trivial
    ·subst hR;trivial
   ·subst hR;trivial
  ·subst hR;trivial
 ·-- slice
  split at hR
  ·rename_i v1 v2 v3 v4 h1 h2 h3 h4;cases R with
   |val v st'=>
    obtain⟨rfl,hv,h5⟩:=aeD ht hr (hwf _ _ h1) hR
    refine⟨ρ,w,Env.Ext.refl ρ,hr,hT,hv,?_⟩
    simp only[execOp,ho,hev _ _ h1,oe hev h2,oe hev h3,oe hev h4];simp_all
   |skip st'=>simp_all[absurd,aeE]
   |_=>trivial
  ·subst hR;trivial
 ·-- lookup
  split at hR
  ·rename_i x y hx hy;cases R with
   |val v st'=>
    obtain⟨rfl,hv,h5⟩:=abI ht hr hR
    refine⟨ρ,w,Env.Ext.refl ρ,hr,hT,hv,?_⟩
    simp only[execOp,ho,hev _ _ hx,hev _ _ hy];simp_all
   |skip st'=>simp_all[absurd,abJ]
   |_=>trivial
  ·subst hR;trivial
 ·-- box
  split at hR
  ·rename_i x hx;cases hn:sO t st _ _ with
   |none=>rw[hn]at hR;subst hR;trivial
   |some q=>
    obtain⟨v,st'⟩:=q
    rw[hn]at hR;subst hR
    obtain⟨rfl,ρ',w',h1,h2,h3,h0,_,h4⟩:=Mn (P:=P) hr hT (SV.cells_ok (hwf _ _ hx)) hn
    refine⟨ρ',w',h1,h2,h3,by simp[SV.ok],?_⟩
    simp only[execOp,ho,hev _ _ hx];refine eE ?_;simp only[Instr.box,newVar,Sem.run_bind,NV,h4,Result.andThen_ok,Sem.run_pure,SV.den,h0,Nat.zero_add];rfl
  ·subst hR;trivial
 ·-- alloc
  split at hR
  ·rename_i x hx;cases hn:sO t st _ _ with
   |none=>rw[hn]at hR;subst hR;trivial
   |some q=>
    obtain⟨v,st'⟩:=q
    rw[hn]at hR;subst hR
    obtain⟨rfl,ρ',w',h1,h2,h3,h0,_,h4⟩:=Mn (P:=P) hr hT (SV.cells_ok (jW hx ρ)) hn
    refine⟨ρ',w',h1,h2,h3,by simp[SV.ok],?_⟩
    simp only[execOp,ho];refine eE ?_;simp only[Instr.alloc,newVar,Sem.run_bind,ht.run_zero hx ρ w,NV,h4,Result.andThen_ok,Sem.run_pure,SV.den,h0,Nat.zero_add];rfl
  ·subst hR;trivial
 ·-- buildSlice
  rename_i ty len parts;split at hR
  ·rename_i elem ps hu hps;split at hR
   ·rename_i sz z hsz hz;split at hR
    ·rename_i hle;simp only[Bool.and_eq_true]at hle
     obtain⟨hle,hzs0⟩:=hle
     rw[Nat.ble_eq]at hle
     split at hR
     ·rename_i cs hcs;split at hR
      ·rename_i b off st' hn;subst hR;have hok:=KY _ _ _ hcs (aef (SV.cells_ok (jW hz ρ)) _) (KE hwf _ _ hps)
       obtain⟨hv,ρ',w',h1,h2,h3,h0,_,h4⟩:=Mn (P:=P) hr hT hok hn
       simp only[SV.ptr.injEq]at hv
       obtain⟨rfl,rfl⟩:=hv
       refine⟨ρ',w',h1,h2,h3,by simp[SV.ok],?_⟩
       have hp:=KD hev _ _ hps;simp only[execOp,ho];have e':(parts.map fun(i,x)=>(i,a.eval x))=(ps.map fun x=>(x.1,x.2.den ρ)).toArray:=by
        grind
       rw[e']
       refine eE ?_;have hf:=Ds ρ _ _ _ _ hcs;have hzs:z.cells.length=sz:=Nat.eq_of_beq_eq_true hzs0;have hrep:=aFI z.cells ρ len
       rw[hzs]at hrep
       have hrep':((Array.range (len*sz)).map fun i=>(z.den ρ).cells[i%(z.den ρ).cells.size]!)=(SV.dens ρ (mY z.cells len)).toArray:=by
        grind[NV,Array.ext']
       have hgt:¬(len*sz>2^24):=by simp_all
       simp only[Instr.buildSlice,Sem.run_bind,ht.run_und hu,ht.run_size hsz,Result.andThen_ok,if_neg hgt,Sem.run_pure];have hfin:∀(zero:Array Value),((Array.range (len*sz)).map fun i=>zero[i%zero.size]!)=(SV.dens ρ (mY z.cells len)).toArray->
         Sem.run P (match Instr.fill (fun i=>some (i*sz,sz)) ((Array.range (len*sz)).map fun i=>zero[i%zero.size]!) (ps.map fun x=>(x.1,x.2.den ρ)).toArray.toList with
          |some cells=>(do pure (Value.slice (some (<- newRow elem cells)) len len):Sem Value)
          |_=>stuck "buildSlice: a part of the wrong size") w=.ok (SV.den ρ' (.slice st.nb ⟨0,0,.int 0⟩ (.int (.ofNat len)) (.int (.ofNat len)))) w':=by
        intro zero hz0;have hf':Instr.fill (fun i=>some (i*sz,sz)) (SV.dens ρ (mY z.cells len)).toArray (ps.map fun x=>(x.1,x.2.den ρ)).toArray.toList=some (SV.dens ρ cs).toArray:=hf
        rw[hz0,hf']
        simp only[Sem.run_bind,h4,Result.andThen_ok,Sem.run_pure,SV.den,h0,Nat.zero_add];rfl
       by_cases h0:len*sz=0
       ·simp only[if_pos h0,Sem.run_pure,Result.andThen_ok];refine hfin _ ?_;simp_all
       ·simp only[if_neg h0,Sem.run_bind,ht.run_zero hz ρ w,Result.andThen_ok,Sem.run_pure];exact hfin _ hrep'
      ·subst hR;trivial
     ·subst hR;trivial
    ·subst hR;trivial
   ·subst hR;trivial
  ·subst hR;trivial
 ·-- pointers
  rename_i op ty X Y yt;split at hR
  ·rename_i k1 x1 k2 y1 hx hy;generalize hd:r9 tb st op k1 x1 k2 y1=D at hR;cases D with
   |val v st'=>
    subst hR
    obtain⟨rfl,h1,h2⟩:=Zv (P:=P) (w:=w) (ty:=ty) (X:=X) (Y:=Y) ht hr.pc hd
    refine⟨ρ,w,Env.Ext.refl ρ,hr,hT,h1,?_⟩
    simp only[execOp,ho,hev _ _ hx,hev _ _ hy];exact eE h2
   |skip st'=>exact absurd hd Zw
   |_=>subst hR;trivial
  ·rename_i i oi j oj hx hy;split at hR
   ·rename_i elem hu;split at hR
    ·rename_i n hsz;split at hR
     ·rename_i own1 c1 cs1 tot1 el1 own2 c2 cs2 tot2 el2 m k hi hj hm hk;cases hown:(own1||own2)with
      |false=>rw[hown]at hR;subst hR;trivial
      |true=>
       rw[hown]at hR
       simp only at hR;have hs:=aeq (P:=P) hr hi hj hm hk hown;have he:(Op.equal ty (SV.den ρ (.ptr i oi)) (SV.den ρ (.ptr j oj))).run P w=.ok (Nat.beq i j&&Nat.beq m k) w:=by
        have hD:∀D,(Op.equalIn (D+1) ty (SV.den ρ (.ptr i oi)) (SV.den ρ (.ptr j oj))).run P w=.ok (Nat.beq i j&&Nat.beq m k) w:=by
         intro D;simp only[Op.equalIn,Sem.run_bind,ht.run_und hu,Result.andThen_ok,SV.den,ht.run_size hsz,ne_eq,not_false_eq_true,if_true,Nat.succ_eq_add_one,Nat.add_one_ne_zero];omega
        exact hD 9999
       have hg:∀op,(eqGuard op ty X Y (SV.den ρ (.ptr i oi)) (SV.den ρ (.ptr j oj))).run P w=.ok () w:=
        fun op=>Dh op ty _ _ (by simp[SV.den]) (fun cs h=>by simp[SV.den]at h) X Y w
       split at hR
       ·subst hR
        refine⟨ρ,w,Env.Ext.refl ρ,hr,hT,by simp[SV.ok],?_⟩
        simp only[execOp,ho,hev _ _ hx,hev _ _ hy];refine eE ?_
        rw[Sem.run_bind,hg,Result.andThen_ok]
        simp_all[binOp,SV.den,bool,Op.equal,Sem,Value,Sem.run_bind]
       ·subst hR
        refine⟨ρ,w,Env.Ext.refl ρ,hr,hT,by simp[SV.ok],?_⟩
        simp only[execOp,ho,hev _ _ hx,hev _ _ hy];refine eE ?_
        rw[Sem.run_bind,hg,Result.andThen_ok]
        simp_all[binOp,SV.den,bool,Op.equal,Sem,Value,Sem.run_bind]
       ·subst hR;trivial
     ·subst hR;trivial
    ·subst hR;trivial
   ·subst hR;trivial
  ·subst hR;trivial
 ·-- pick
  rename_i c x y;split at hR
  ·rename_i e hc;split at hR
   ·rename_i hk;have hk':=eK ht.facts hr.pc hk;generalize hv:bJ t x=u at hR;cases u with
    |none=>subst hR;trivial
    |some v=>
     simp only[EffR.ofVal]at hR;subst hR
     exact⟨ρ,w,Env.Ext.refl ρ,hr,hT,hwf _ _ hv,by simp only[execOp,ho,hev _ _ hc,hev _ _ hv,SV.den,hk',asBool,Sem.run_bind,Sem.run_pure,Result.andThen_ok];rfl⟩
   ·rename_i hk;have hk':=eK ht.facts hr.pc hk;generalize hv:bJ t y=u at hR;cases u with
    |none=>subst hR;trivial
    |some v=>
     simp only[EffR.ofVal]at hR;subst hR
     exact⟨ρ,w,Env.Ext.refl ρ,hr,hT,hwf _ _ hv,by simp only[execOp,ho,hev _ _ hc,hev _ _ hv,SV.den,hk',asBool,Sem.run_bind,Sem.run_pure,Result.andThen_ok];rfl⟩
   ·subst hR;trivial
  ·subst hR;trivial
 ·subst hR;trivial
def axl(P:Program)(ρ:Env)(st:St)(a:Act)(w:World)(o:Oper):EffR->Prop
 |.val v st'=>st'=st/\v.ok ρ/\(execOp a.eval o).run P w=.ok (.value (v.den ρ)) w
 |_=>True
theorem ad8{B:Base}{ρ:Env}{st:St}{w:World}{t:Tm}{a:Act}(hr:RepW B ρ st w)(hT:TmRep ρ t a)(o:Oper)(hro:M0 o.op=true):
  axl P ρ st a w o (n9 tb t st o.op):=by
 have hev:=hT.eval;have hwf:=hT.wf;generalize hR:n9 tb t st _=R
 rw[Zz]at hR;unfold C9 Dd C8 C7 C6 Dc Da C4 C2 C5 C3 Db at hR
 split at hR;all_goals (rename_i ho)
 ·-- load
  split at hR
  ·rename_i x hx;split at hR
   ·rename_i v hl;subst hR
    obtain⟨ad,h1,h2⟩:=L5 ht hr hl
    refine⟨rfl,L6 ht hr hl,?_⟩
    simp only[execOp,ho,hev _ _ hx];simp_all[Instr.loadAt,Instr.sureAddr,Result.andThen_ok]
   ·cases R with
    |val v st'=>
     obtain⟨rfl,hv,ad,h1,h2⟩:=abG ht hr (hwf _ _ hx) hR
     refine⟨rfl,hv,?_⟩
     simp only[execOp,ho,hev _ _ hx];simp_all[Instr.loadAt,Instr.sureAddr,Result.andThen_ok]
    |skip st'=>simp_all[abH]
    |_=>trivial
  ·subst hR;trivial
 ·rw[ho]at hro;cases hro
 ·-- indexAddr
  split at hR
  ·rename_i x y hx hy;cases R with
   |val v st'=>
    obtain⟨rfl,hv,h2⟩:=aaW ht hr (hwf _ _ hx) hR
    refine⟨rfl,hv,?_⟩
    simp only[execOp,ho,hev _ _ hx,hev _ _ hy];simp_all
   |skip st'=>simp_all[absurd,aaX]
   |_=>trivial
  ·subst hR;trivial
 ·-- index
  split at hR
  ·rename_i x y hx hy;cases R with
   |val v st'=>
    obtain⟨rfl,hv,h2⟩:=aaY ht hr.pc (hwf _ _ hx) hR w
    refine⟨rfl,hv,?_⟩
    simp only[execOp,ho,hev _ _ hx,hev _ _ hy];simp_all
   |skip st'=>simp_all[absurd,aaZ]
   |_=>trivial
  ·subst hR;trivial
 ·-- len,cap
  rename_i c;split at hR
  ·rename_i b hb;split at hR
   ·rename_i ty vs hty hvs;split at hR
    ·rename_i x hx
     rw[ee]at hty hx
     have h1:=od hev _ _ hvs;have e1:c.args.map a.eval=(SV.dens ρ vs).toArray:=by grind
     have hxok:=(SV.oks_iff _).1 (sd hwf _ _ hvs) x (List.mem_of_getElem? hx);have hx':∀(v:SV)(s:Sem _),builtin b c.argTypes o.type (c.args.map fun | .const _=>true | _=>false) (c.args.map a.eval)=s->s.run P w=.ok (.value (v.den ρ)) w->
       (execOp a.eval o).run P w=.ok (.value (v.den ρ)) w:=by
      grind[execOp,resolve,Sem.run_bind,Sem.run_pure,Result.andThen_ok,invoke]
     obtain⟨bU,hrest⟩:∃bU,c.argTypes=(ty::bU).toArray:=by
      cases ha:c.argTypes with
      |mk l=>rw[ha]at hty;cases l with
       |nil=>simp_all
       |cons t' l=>simp_all
     obtain⟨rv,hrv⟩:∃rv,SV.dens ρ vs=x.den ρ::rv:=by
      cases vs with
      |nil=>simp at hx
      |cons x' vs=>simp at hx;subst hx;exact⟨_,rfl⟩
     split at hR
     ·cases R with
      |val v st'=>
       obtain⟨rfl,hv,h2⟩:=Eg ht hr hxok hR _ _ rv
       refine⟨rfl,hv,?_⟩
       refine hx' v _ rfl ?_
       rw[e1,hrv,hrest]
       exact Ei rfl _ _ _ _ h2
      |skip st'=>simp_all[absurd,Eh]
      |_=>trivial
     ·cases R with
      |val v st'=>
       obtain⟨rfl,hv,h2⟩:=Eg ht hr hxok hR _ _ rv
       refine⟨rfl,hv,?_⟩
       refine hx' v _ rfl ?_
       rw[e1,hrv,hrest]
       exact Ei rfl _ _ _ _ h2
      |skip st'=>simp_all[absurd,Eh]
      |_=>trivial
     ·subst hR;trivial
    ·subst hR;trivial
   ·subst hR;trivial
  ·subst hR;trivial
 ·-- slice
  split at hR
  ·rename_i v1 v2 v3 v4 h1 h2 h3 h4;cases R with
   |val v st'=>
    obtain⟨rfl,hv,h5⟩:=aeD ht hr (hwf _ _ h1) hR
    refine⟨rfl,hv,?_⟩
    simp only[execOp,ho,hev _ _ h1,oe hev h2,oe hev h3,oe hev h4];simp_all
   |skip st'=>simp_all[absurd,aeE]
   |_=>trivial
  ·subst hR;trivial
 ·-- lookup
  split at hR
  ·rename_i x y hx hy;cases R with
   |val v st'=>
    obtain⟨rfl,hv,h5⟩:=abI ht hr hR
    refine⟨rfl,hv,?_⟩
    simp only[execOp,ho,hev _ _ hx,hev _ _ hy];simp_all
   |skip st'=>simp_all[absurd,abJ]
   |_=>trivial
  ·subst hR;trivial
 ·rw[ho]at hro;cases hro
 ·rw[ho]at hro;cases hro
 ·rw[ho]at hro;cases hro
 ·-- pointers
  rename_i op ty X Y yt;split at hR
  ·rename_i k1 x1 k2 y1 hx hy;generalize hd:r9 tb st op k1 x1 k2 y1=D at hR;cases D with
   |val v st'=>
    subst hR
    obtain⟨rfl,h1,h2⟩:=Zv (P:=P) (w:=w) (ty:=ty) (X:=X) (Y:=Y) ht hr.pc hd
    refine⟨rfl,h1,?_⟩
    simp only[execOp,ho,hev _ _ hx,hev _ _ hy];exact eE h2
   |skip st'=>exact absurd hd Zw
   |_=>subst hR;trivial
  ·rename_i i oi j oj hx hy;split at hR
   ·rename_i elem hu;split at hR
    ·rename_i n hsz;split at hR
     ·rename_i own1 c1 cs1 tot1 el1 own2 c2 cs2 tot2 el2 m k hi hj hm hk;cases hown:(own1||own2)with
      |false=>rw[hown]at hR;subst hR;trivial
      |true=>
       rw[hown]at hR
       simp only at hR;have hs:=aeq (P:=P) hr hi hj hm hk hown;have he:(Op.equal ty (SV.den ρ (.ptr i oi)) (SV.den ρ (.ptr j oj))).run P w=.ok (Nat.beq i j&&Nat.beq m k) w:=by
        have hD:∀D,(Op.equalIn (D+1) ty (SV.den ρ (.ptr i oi)) (SV.den ρ (.ptr j oj))).run P w=.ok (Nat.beq i j&&Nat.beq m k) w:=by
         intro D;simp only[Op.equalIn,Sem.run_bind,ht.run_und hu,Result.andThen_ok,SV.den,ht.run_size hsz,ne_eq,not_false_eq_true,if_true,Nat.succ_eq_add_one,Nat.add_one_ne_zero];omega
        exact hD 9999
       have hg:∀op,(eqGuard op ty X Y (SV.den ρ (.ptr i oi)) (SV.den ρ (.ptr j oj))).run P w=.ok () w:=
        fun op=>Dh op ty _ _ (by simp[SV.den]) (fun cs h=>by simp[SV.den]at h) X Y w
       split at hR
       ·subst hR
        refine⟨rfl,by simp[SV.ok],?_⟩
        simp only[execOp,ho,hev _ _ hx,hev _ _ hy];refine eE ?_
        rw[Sem.run_bind,hg,Result.andThen_ok]
        simp_all[binOp,SV.den,bool,Op.equal,Sem,Value,Sem.run_bind]
       ·subst hR
        refine⟨rfl,by simp[SV.ok],?_⟩
        simp only[execOp,ho,hev _ _ hx,hev _ _ hy];refine eE ?_
        rw[Sem.run_bind,hg,Result.andThen_ok]
        simp_all[binOp,SV.den,bool,Op.equal,Sem,Value,Sem.run_bind]
       ·subst hR;trivial
     ·subst hR;trivial
    ·subst hR;trivial
   ·subst hR;trivial
  ·subst hR;trivial
 ·-- pick
  rename_i c x y;split at hR
  ·rename_i e hc;split at hR
   ·rename_i hk;have hk':=eK ht.facts hr.pc hk;generalize hv:bJ t x=u at hR;cases u with
    |none=>subst hR;trivial
    |some v=>
     simp only[EffR.ofVal]at hR;subst hR
     exact⟨rfl,hwf _ _ hv,by simp only[execOp,ho,hev _ _ hc,hev _ _ hv,SV.den,hk',asBool,Sem.run_bind,Sem.run_pure,Result.andThen_ok];rfl⟩
   ·rename_i hk;have hk':=eK ht.facts hr.pc hk;generalize hv:bJ t y=u at hR;cases u with
    |none=>subst hR;trivial
    |some v=>
     simp only[EffR.ofVal]at hR;subst hR
     exact⟨rfl,hwf _ _ hv,by simp only[execOp,ho,hev _ _ hc,hev _ _ hv,SV.den,hk',asBool,Sem.run_bind,Sem.run_pure,Result.andThen_ok];rfl⟩
   ·subst hR;trivial
  ·subst hR;trivial
 ·subst hR;trivial
end
end Go.SX
