/-
  The symbolic executor is right (first part).
-/
import Derived.Test.YtnggbcblogpnfaaGreatSXa
import Derived.WalkKit
import Derived.Deep.Quiet
set_option linter.unusedVariables false
set_option linter.unusedSimpArgs false
set_option linter.unusedSectionVars false

namespace Go.SX
noncomputable section
theorem lj{a b:Nat}(h:a=b):Nat.beq a b=true:=by simp_all
section
variable {G O:Type}
theorem T.get_nil(n:Nat):(T.nil:T G).get n=none:=rfl
theorem T.get_zero(v:G)(l r:T G):(T.node v l r).get 0=some v:=rfl
theorem T.get_succ(v:G)(l r:T G)(n:Nat):(T.node v l r).get (n+1)=if n%2=0 then l.get (n/2)else r.get (n/2):=by
 show Bool.rec (motive:=fun _=>Option G) _ _ _=_;by_cases h:n%2=0
 ·have:Nat.beq (Nat.mod n 2) 0=true:=lj h
  rw[this,if_pos h];rfl
 ·have:Nat.beq (Nat.mod n 2) 0=false:=by
   cases hb:Nat.beq _ 0 with
   |false=>rfl
   |true=>exact absurd (Nat.eq_of_beq_eq_true hb) h
  rw[this,if_neg h];rfl
theorem T.set_nil(n:Nat)(x:G):(T.nil:T G).set n x=T.nil:=rfl
theorem T.set_zero(v:G)(l r:T G)(x:G):(T.node v l r).set 0 x=T.node x l r:=rfl
theorem T.set_succ(v:G)(l r:T G)(n:Nat)(x:G):(T.node v l r).set (n+1) x=if n%2=0 then T.node v (l.set (n/2) x) r else T.node v l (r.set (n/2) x):=by
 show Bool.rec (motive:=fun _=>T G) _ _ _=_;by_cases h:n%2=0
 ·have:Nat.beq (Nat.mod n 2) 0=true:=lj h
  rw[this,if_pos h];rfl
 ·have:Nat.beq (Nat.mod n 2) 0=false:=by
   cases hb:Nat.beq _ 0 with
   |false=>rfl
   |true=>exact absurd (Nat.eq_of_beq_eq_true hb) h
  rw[this,if_neg h];rfl
theorem T.ins_nil_zero(x:G):(T.nil:T G).ins 0 x=T.node x T.nil T.nil:=rfl
theorem T.ins_nil_succ(n:Nat)(x:G):(T.nil:T G).ins (n+1) x=T.nil:=rfl
theorem T.ins_zero(v:G)(l r:T G)(x:G):(T.node v l r).ins 0 x=T.node x l r:=rfl
theorem T.ins_succ(v:G)(l r:T G)(n:Nat)(x:G):(T.node v l r).ins (n+1) x=if n%2=0 then T.node v (l.ins (n/2) x) r else T.node v l (r.ins (n/2) x):=by
 show Bool.rec (motive:=fun _=>T G) _ _ _=_;by_cases h:n%2=0
 ·have:Nat.beq (Nat.mod n 2) 0=true:=lj h
  rw[this,if_pos h];rfl
 ·have:Nat.beq (Nat.mod n 2) 0=false:=by
   cases hb:Nat.beq _ 0 with
   |false=>rfl
   |true=>exact absurd (Nat.eq_of_beq_eq_true hb) h
  rw[this,if_neg h];rfl
theorem T.setK_eq(t:T G):∀(n:Nat)(x:G)(k:T G->O),T.setK t n x k=k (t.set n x):=by
 induction t with
 |nil=>intros;rfl
 |node v l r il ir=>
  intro n x k;cases n with
  |zero=>rfl
  |succ n=>
   rw[T.set_succ]
   show Bool.rec (motive:=fun _=>O) _ _ _=_;by_cases h:n%2=0
   ·have:Nat.beq (Nat.mod n 2) 0=true:=lj h
    rw[this,if_pos h];exact il _ _ _
   ·have:Nat.beq (Nat.mod n 2) 0=false:=by
     cases hb:Nat.beq _ 0 with
     |false=>rfl
     |true=>exact absurd (Nat.eq_of_beq_eq_true hb) h
    rw[this,if_neg h];exact ir _ _ _
theorem T.insK_eq(t:T G):∀(n:Nat)(x:G)(k:T G->O),T.insK t n x k=k (t.ins n x):=by
 induction t with
 |nil=>intro n;cases n<;>intros<;>rfl
 |node v l r il ir=>
  intro n x k;cases n with
  |zero=>rfl
  |succ n=>
   rw[T.ins_succ]
   show Bool.rec (motive:=fun _=>O) _ _ _=_;by_cases h:n%2=0
   ·have:Nat.beq (Nat.mod n 2) 0=true:=lj h
    rw[this,if_pos h];exact il _ _ _
   ·have:Nat.beq (Nat.mod n 2) 0=false:=by
     cases hb:Nat.beq _ 0 with
     |false=>rfl
     |true=>exact absurd (Nat.eq_of_beq_eq_true hb) h
    rw[this,if_neg h];exact ir _ _ _
theorem T.get_set(t:T G):∀(d:Nat)(x:G)(i:Nat),(t.set d x).get i=if i=d then(t.get d).map (fun _=>x)else t.get i:=by
 induction t with
 |nil=>simp_all[T.set_nil,T.get_nil]
 |node v l r il ir=>
  intro d x i;cases d with
  |zero=>cases i with
   |zero=>rfl
   |succ i=>rfl
  |succ d=>
   rw[T.set_succ]
   cases i with
   |zero=>grind[T.get_zero]
   |succ i=>
    by_cases h:d%2=0
    ·rw[if_pos h,T.get_succ,il]
     by_cases hi:i%2=0
     ·rw[if_pos hi,T.get_succ,if_pos h,T.get_succ,if_pos hi]
      grind
     ·have:¬i+1=d+1:=by omega
      simp_all[T.get_succ]
    ·rw[if_neg h,T.get_succ,ir]
     by_cases hi:i%2=0
     ·have:¬i+1=d+1:=by omega
      simp_all[T.get_succ]
     ·rw[if_neg hi,T.get_succ,if_neg h,T.get_succ,if_neg hi]
      grind
theorem T.get_ins_ne(t:T G):∀(d:Nat)(x:G)(i:Nat),i≠d->(t.ins d x).get i=t.get i:=by
 induction t with
 |nil=>
  intro d x i h;cases d with
  |zero=>
   rw[T.ins_nil_zero]
   cases i with
   |zero=>omega
   |succ i=>grind[T.get_succ,T.get_nil]
  |succ d=>rfl
 |node v l r il ir=>
  intro d x i h;cases d with
  |zero=>cases i with
   |zero=>omega
   |succ i=>rfl
  |succ d=>
   rw[T.ins_succ]
   cases i with
   |zero=>grind[T.get_zero]
   |succ i=>
    by_cases hd:d%2=0
    ·rw[if_pos hd,T.get_succ,T.get_succ]
     grind
    ·rw[if_neg hd,T.get_succ,T.get_succ]
     grind
theorem T.get_ins_self(t:T G):∀(d:Nat)(x:G)(y:G),(t.ins d x).get d=some y->y=x:=by
 induction t with
 |nil=>
  intro d x y h;cases d with
  |zero=>simp_all[T.ins_nil_zero,T.get_zero]
  |succ d=>simp_all[T.ins_nil_succ,T.get_nil]
 |node v l r il ir=>
  intro d x y h;cases d with
  |zero=>grind[T.ins_zero,T.get_zero]
  |succ d=>
   rw[T.ins_succ]at h
   by_cases hd:d%2=0
   ·rw[if_pos hd,T.get_succ,if_pos hd]at h;grind
   ·rw[if_neg hd,T.get_succ,if_neg hd]at h;grind
theorem T.all_node(p:G->Bool)(v:G)(l r:T G):T.all p (T.node v l r)=(p v&&(l.all p&&r.all p)):=by
 show Bool.rec (motive:=fun _=>Bool) _ (Bool.rec (motive:=fun _=>Bool) _ _ (T.all p l)) _=_;cases p v<;>cases T.all p l<;>rfl
theorem T.all_get{p:G->Bool}(t:T G)(h:T.all p t=true):∀(i:Nat)(v:G),t.get i=some v->p v=true:=by
 induction t with
 |nil=>intro i v hv;cases hv
 |node v l r il ir=>
  rw[T.all_node]at h
  simp only[Bool.and_eq_true]at h;intro i x hx;cases i with
  |zero=>simp_all[T.get_zero]
  |succ i=>
   grind[T.get_succ]
theorem T.fill_zero(v:G)(d:Nat):T.fill v d 0=T.nil:=by cases d<;>rfl
theorem T.fill_succ(v:G)(d m:Nat):T.fill v (d+1) (m+1)=T.node v (T.fill v d ((m+1)/2)) (T.fill v d (m/2)):=rfl
theorem T.get_fill(v:G):∀(d n i:Nat),n<2^d->(T.fill v d n).get i=if i<n then some v else none:=by
 intro d;induction d with
 |zero=>simp_all[T.fill_zero,T.get_nil]
 |succ d ih=>
  intro n i h;cases n with
  |zero=>rfl
  |succ m=>
   rw[T.fill_succ]
   cases i with
   |zero=>rfl
   |succ i=>
    grind[T.get_succ]
def T.puts(t:T G):Nat->List G->T G
 |_,[]=>t
 |n,x::xs=>T.puts (t.set n x) (n+1) xs
theorem T.putsK_eq(l:List G):∀(n:Nat)(t:T G)(k:T G->O),T.putsK l n t k=k (t.puts n l):=by
 induction l with
 |nil=>intros;rfl
 |cons x xs ih=>
  intro n t k;show T.setK t n x (fun t'=>T.putsK xs _ t' k)=_
  rw[T.setK_eq,ih];rfl
def T.adds(t:T G):Nat->List G->T G
 |_,[]=>t
 |n,x::xs=>T.adds (t.ins n x) (n+1) xs
theorem T.addsK_eq(l:List G):∀(n:Nat)(t:T G)(k:T G->O),T.addsK l n t k=k (t.adds n l):=by
 induction l with
 |nil=>intros;rfl
 |cons x xs ih=>
  intro n t k;show T.insK t n x (fun t'=>T.addsK xs _ t' k)=_
  rw[T.insK_eq,ih];rfl
theorem T.get_puts(l:List G):∀(n:Nat)(t:T G)(i:Nat),
  (t.puts n l).get i=if n<=i/\i<n+l.length then(t.get i).bind (fun _=>l[i-n]?)else t.get i:=by
 induction l with
 |nil=>intro n t i;rw[if_neg (by simp)];rfl
 |cons x xs ih=>
  intro n t i
  show(T.puts _ _ xs).get i=_
  rw[ih,T.get_set]
  by_cases h1:i=n
  ·subst h1
   rw[if_neg (by omega),if_pos rfl,if_pos (by simp)]
   cases t.get i<;>simp
  grind
theorem T.get_adds(l:List G):∀(n:Nat)(t:T G)(i:Nat)(x:G),(t.adds n l).get i=some x->(n<=i/\l[i-n]? =some x)\/(t.get i=some x/\i<n)\/(t.get i=some x/\n+l.length<=i):=by
  induction l with
  | nil => intro n t i x h
           by_cases hi:i<n
           · exact .inr (.inl ⟨h,hi⟩)
           · exact .inr (.inr ⟨h,by simp_all⟩)
  |cons y ys ih=>
    intro n t i x h;have h':=h;rcases ih _ _ _ _ h' with⟨h1,h2⟩|⟨h1,h2⟩|⟨h1,h2⟩
    · left
      refine⟨by omega, ?_⟩
      have e:i-n=(i-(n+1))+1:=by omega
      simp_all
    · by_cases e:i=n
      · subst e
        have:=T.get_ins_self _ _ _ _ h1
        subst this;left;exact⟨Nat.le_refl _,by simp⟩
      · rw[T.get_ins_ne _ _ _ _ e]at h1
        right;left;exact⟨h1,by omega⟩
    · rw[T.get_ins_ne _ _ _ _ (by omega)]at h1
      right;right;exact⟨h1,by simp;omega⟩
end
section
variable {G:Type}
theorem dr(l:List G):∀n,dq l n=l[n]?:=by
 induction l with
 |nil=>intro n;rfl
 |cons x xs ih=>intro n;cases n with
  |zero=>rfl
  |succ n=>exact ih n
theorem px(l:List G):∀n r,jF l n=some r->r=l.take n/\n<=l.length:=by
 induction l with
 |nil=>intro n r h;cases n with
  |zero=>cases h;simp
  |succ n=>cases h
 |cons x xs ih=>intro n r h;cases n with
  |zero=>cases h;simp
  |succ n=>
   have h':Option.rec (motive:=fun _=>Option _) _ _ (jF xs n)=some r:=h;cases ht:jF xs n with
   |none=>simp_all
   |some l=>
    rw[ht]at h'
    grind
theorem qE(l:List G):∀n,qD l n=l.drop n:=by
 induction l with
 |nil=>intro n;cases n<;>rfl
 |cons x xs ih=>intro n;cases n with
  |zero=>rfl
  |succ n=>exact ih n
theorem adW(cs:List G):∀vs r,rh cs vs=some r->r=vs++cs.drop vs.length/\vs.length<=cs.length:=by
 induction cs with
 |nil=>intro vs r h;cases vs with
  |nil=>cases h;simp
  |cons v vs=>cases h
 |cons c cs ih=>intro vs r h;cases vs with
  |nil=>cases h;simp
  |cons v vs=>
   have h':Option.rec (motive:=fun _=>Option _) _ _ (rh cs vs)=some r:=h;cases ht:rh cs vs with
   |none=>simp_all
   |some l=>
    rw[ht]at h'
    grind
theorem yX(cs:List G):∀n vs r,nF cs n vs=some r->r=cs.take n++vs++cs.drop (n+vs.length)/\n+vs.length<=cs.length:=by
 induction cs with
 |nil=>intro n vs r h;cases n with
  |zero=>
   have h':rh [] vs=some r:=h;grind[adW]
  |succ n=>cases h
 |cons c cs ih=>intro n vs r h;cases n with
  |zero=>
   have h':rh (c::cs) vs=some r:=h;grind[adW]
  |succ n=>
   have h':Option.rec (motive:=fun _=>Option _) _ _ (nF cs n vs)=some r:=h;cases ht:nF cs n vs with
   |none=>simp_all
   |some l=>
    rw[ht]at h'
    grind
end
theorem fe{j k:IntKind}(h:eE j k=true):j=k:=by cases j<;>cases k<;>first | rfl | cases h
theorem adR{a b:BinOp}(h:Mq a b=true):a=b:=by cases a<;>cases b<;>first | rfl | cases h
theorem tF{a b:Int}(h:hO a b=true):a=b:=by
 cases a<;>cases b<;>simp[hO]at h<;>simp[h]
theorem oG{a b:Bool}(h:lk a b=true):a=b:=by cases a<;>cases b<;>first | rfl | cases h
theorem Cw{a b:Bool}(h:lk a b=false):a≠b:=by cases a<;>cases b<;>simp[lk]at h<;>simp
theorem jZ{a b:Bool}:dg a b=true↔a=true/\b=true:=by cases a<;>cases b<;>simp[dg]
theorem E.beq_eq{a:E}:∀ {b:E},a.beq b=true->a=b:=by
 induction a with
 |int n=>
  intro b h;cases b<;>try exact absurd (show false=true from h) Bool.false_ne_true
  rename_i n2
  rw[tF h]
 |bool n=>
  intro b h;cases b<;>try exact absurd (show false=true from h) Bool.false_ne_true
  rename_i n2
  rw[oG h]
 |str s=>
  intro b h;cases b<;>try exact absurd (show false=true from h) Bool.false_ne_true
  rename_i s';have hb:∀(l m:List _),mM l m=true->l=m:=by
   intro l;induction l with
   |nil=>grind[mM]
   |cons x xs ih=>
    intro m hm;cases m with
    |nil=>simp[mM]at hm
    |cons y ys=>
     grind[mM,Nat.eq_of_beq_eq_true,UInt8.toNat_inj]
  have:=hb _ _ h
  cases s;simp_all
 |var i=>
  intro b h;cases b<;>try exact absurd (show false=true from h) Bool.false_ne_true
  rename_i n2;replace h:Nat.beq i n2=true:=h;simp_all
 |ar o k x y ix iy=>
  intro b h;cases b<;>try exact absurd (show false=true from h) Bool.false_ne_true
  rename_i o2 k2 x2 y2;replace h:dg _ (dg _ (dg (x.beq x2) (y.beq y2)))=true:=h;grind[jZ,adR,fe]
 |cmp o x y ix iy=>
  intro b h;cases b<;>try exact absurd (show false=true from h) Bool.false_ne_true
  rename_i o2 x2 y2;replace h:dg _ (dg (x.beq x2) (y.beq y2))=true:=h;grind[jZ,adR]
 |mn x y ix iy=>
  intro b h;cases b<;>try exact absurd (show false=true from h) Bool.false_ne_true
  rename_i x2 y2;replace h:dg (x.beq x2) (y.beq y2)=true:=h;grind[jZ]
 |mx x y ix iy=>
  intro b h;cases b<;>try exact absurd (show false=true from h) Bool.false_ne_true
  rename_i x2 y2;replace h:dg (x.beq x2) (y.beq y2)=true:=h;grind[jZ]
 |wr k x ix=>
  intro b h;cases b<;>try exact absurd (show false=true from h) Bool.false_ne_true
  rename_i k2 x2;replace h:dg _ (x.beq x2)=true:=h;grind[jZ,fe]
 |not x ix=>
  intro b h;cases b<;>try exact absurd (show false=true from h) Bool.false_ne_true
  rename_i x2;replace h:x.beq x2=true:=h;grind
 |and x y ix iy=>
  intro b h;cases b<;>try exact absurd (show false=true from h) Bool.false_ne_true
  rename_i x2 y2;replace h:dg (x.beq x2) (y.beq y2)=true:=h;grind[jZ]
 |seq x y ix iy=>
  intro b h;cases b<;>try exact absurd (show false=true from h) Bool.false_ne_true
  rename_i x2 y2;replace h:dg (x.beq x2) (y.beq y2)=true:=h;grind[jZ]
 |iff x y ix iy=>
  intro b h;cases b<;>try exact absurd (show false=true from h) Bool.false_ne_true
  rename_i x2 y2;replace h:dg (x.beq x2) (y.beq y2)=true:=h;grind[jZ]
 |imp x y ix iy=>
  intro b h;cases b<;>try exact absurd (show false=true from h) Bool.false_ne_true
  rename_i x2 y2;replace h:dg (x.beq x2) (y.beq y2)=true:=h;grind[jZ]
 |fn f x ix=>
  intro b h;cases b<;>try exact absurd (show false=true from h) Bool.false_ne_true
  rename_i f2 x2;replace h:dg _ (x.beq x2)=true:=h;grind[jZ,Nat.eq_of_beq_eq_true]
 |pr x y ix iy=>
  intro b h;cases b<;>try exact absurd (show false=true from h) Bool.false_ne_true
  rename_i x2 y2;replace h:dg (x.beq x2) (y.beq y2)=true:=h;grind[jZ]
theorem hJ{O:Type}(n:Nat)(k:Nat->O):eQ n k=k n:=by
 cases n<;>rfl
mutual
theorem CK.beq_eq:∀(x y:CK),x.beq y=true->x=y
 |.int k,y,h=>by cases y<;>simp[CK.beq]at h;rw[fe h]
 |.bool,y,h=>by grind[CK.beq]
 |.str,y,h=>by grind[CK.beq]
 |.slc ks,y,h=>by
  cases y<;>simp[CK.beq]at h
  rw[kl ks _ h]
theorem kl:∀(a b:List CK),fR a b=true->a=b
 |[],b,h=>by grind[fR]
 |x::xs,b,h=>by
  cases b with
  |nil=>simp[fR]at h
  |cons y ys=>
   simp[fR]at h
   rw[CK.beq_eq x y h.1,kl xs ys h.2]
end
section
variable (F:Env)
@[simp] theorem E.I_int(n:Int):(E.int n).I F=n:=rfl
@[simp] theorem E.B_bool(b:Bool):(E.bool b).B F=b:=rfl
@[simp] theorem E.S_str(s:ByteArray):(E.str s).S F=s:=rfl
@[simp] theorem E.I_ar(o:BinOp)(k:IntKind)(a b:E):(E.ar o k a b).I F=jh o k (a.I F) (b.I F):=rfl
@[simp] theorem E.B_cmp(o:BinOp)(a b:E):(E.cmp o a b).B F=cf o (a.I F) (b.I F):=rfl
@[simp] theorem E.I_mn(a b:E):(E.mn a b).I F=nu (a.I F) (b.I F):=rfl
@[simp] theorem E.I_mx(a b:E):(E.mx a b).I F=kn (a.I F) (b.I F):=rfl
@[simp] theorem E.I_wr(k:IntKind)(a:E):(E.wr k a).I F=k.wrap (a.I F):=rfl
@[simp] theorem E.B_not(a:E):(E.not a).B F=!a.B F:=rfl
@[simp] theorem E.B_and(a b:E):(E.and a b).B F=(a.B F&&b.B F):=rfl
@[simp] theorem E.B_seq(a b:E):(E.seq a b).B F=jn (a.S F) (b.S F):=rfl
@[simp] theorem E.B_iff(a b:E):(E.iff a b).B F=(a.B F==b.B F):=rfl
@[simp] theorem E.B_imp(a b:E):(E.imp a b).B F=(!a.B F||b.B F):=rfl
theorem Sh(l i v:E):(E.fn 2 (.pr l (.pr i v))).L F=(l.L F).set (i.I F).toNat (v.den F):=rfl
theorem Sf(x r:E):(E.fn 23 (.pr x r)).L F=x.den F::r.L F:=rfl
theorem aHL(v:E)(l:E)(n:Nat):∀(r:E),Fr v l n=some r->r.L F=(l.L F).set n (v.den F):=by
 fun_induction Fr v l n with
 |case1 x r=>intro r' h;simp only[Option.some.injEq]at h;subst h;rfl
 |case2 x r n r1 h1 ih=>simp_all[Sf]
 |case3 x r n h1 ih=>simp_all
 |case4=>simp_all
theorem aLR(i:Nat)(v:E)(l:E):(Gg i v l).L F=(l.L F).set i (v.den F):=by
 have hI:∀k,((E.int (.ofNat k)).I F).toNat=k:=fun k=>rfl
 fun_induction Gg i v l with
 |case1 l j u h=>
  simp_all[Sh]
 |case2 l j u h h2 ih=>
  grind[Nat.blt,Nat.ble_eq,Sh,List.set_comm]
 |case3 l j u h h2=>rfl
 |case4 l h=>rfl
theorem E.L_upd(l i v:E):(iS l i v).L F=(l.L F).set (i.I F).toNat (v.den F):=by
 unfold iS;split
 ·rename_i n;split
  ·rename_i r hr
   rw[aHL F v l n r hr];rfl
  ·rw[aLR];rfl
 rfl
theorem aDw(b a:E):∀(r:E),Cl b a=some r->r.L F=a.L F++b.L F:=by
 fun_induction Cl b a with
 |case1 x r r1 h1 ih=>simp_all[Sf]
 |case2 x r h1 ih=>simp_all
 |case3=>intro r' h;simp only[Option.some.injEq]at h;subst h;rfl
 |case4=>simp_all
theorem jx(a b:E):(cI a b).I F=a.I F+b.I F:=by
 unfold cI;repeat' split
 all_goals try (rename_i h;have:=tF h)
 all_goals try simp only[E.I_int]
 all_goals try (try rfl)
 all_goals (simp only[E.I,E.den,qO,uQ,U.fst,U.snd,U.toI,Nat.blt,Nat.ble]at *;omega)
theorem acr(a b:E):(iR a b).I F=a.I F-b.I F:=by
 unfold iR;repeat' split
 all_goals try (rename_i h;first | (have:=tF h) | (have:=E.beq_eq h;subst this))
 all_goals (simp only[E.I,E.den,qO,uQ,U.fst,U.snd,U.toI,Nat.blt]at *;try omega)
theorem acq{a b:E}{x y:Int}(ha:a.den F=.int x)(hb:b.den F=.int y):(cI a b).den F=.int (x+y):=by
 have h:=jx F a b;have hs:∃z,(cI a b).den F=.int z:=by
  unfold cI;repeat' split
  all_goals first | exact⟨_,rfl⟩ | simp_all | simp_all
 grind[E.I,U.toI]
theorem Em(l:E):(gN l).den F=.int (l.L F).length:=by
 fun_induction gN l with
 |case1 l' b ih=>
  rw[ih]
  show _=U.int ((l'.den F).toL.set _ _).length;simp[E.L]
 |case2 a b ia ib=>
  rw[acq F ia ib]
  show _=U.int ((a.den F).toL++(b.den F).toL).length;simp[E.L]
 |case3 n x=>
  show(nw n _).den F=U.int (List.replicate _ _).length
  have hm:∀z,kn z 0=z.toNat:=fun z=>by grind[kn]
  rw[List.length_replicate,<- hm]
  cases n<;>rfl
 |case6 r c ih=>rw[ih];rfl
 |case7 x r ih=>
  rw[acq F (x:=1) rfl ih]
  show _=U.int ((x.den F)::(r.den F).toL).length;simp[E.L,Int.add_comm]
 |case8 r c ih=>rw[ih];rfl
 |_=>rfl
theorem jj(e:E):e.I F=(cU e).I F+eg e:=by
 unfold cU eg;split
 ·rfl
 ·simp
theorem aEr(o:BinOp)(c x y:Int):cf o (c+x) (c+y)=cf o x y:=by cases o<;>simp[cf]<;>(grind)
theorem pd(o:BinOp)(k:IntKind)(a b:E):(ig o k a b).I F=jh o k (a.I F) (b.I F):=by
 unfold ig;split<;>simp
theorem dx(o:BinOp)(a b:E):(aF o a b).B F=cf o (a.I F) (b.I F):=by
 unfold aF;split
 ·simp
 ·split
  ·rename_i h
   rw[E.B_bool,jj F a,jj F b,E.beq_eq h,aEr]
  ·cases o;case eql=>simp only;split<;>simp[cf]<;>(grind)
   case neq=>simp only;split<;>(rw[Bool.eq_iff_iff];simp[cf])<;>omega
   all_goals simp[cf]<;>(grind)
theorem aGo(a b:E):(ra a b).I F=nu (a.I F) (b.I F):=by
 unfold ra;split<;>simp
theorem aGq(a b:E):(nw a b).I F=kn (a.I F) (b.I F):=by
 unfold nw;split<;>simp
theorem aGu(k:IntKind)(a:E):(rb k a).I F=k.wrap (a.I F):=by
 unfold rb;split<;>simp
theorem gh(a:E):(bc a).B F=!a.B F:=by
 unfold bc;split<;>simp
theorem Ej(a b:E):(yP a b).B F=(a.B F&&b.B F):=by
 unfold yP;split
 ·split<;>simp
 all_goals rfl
theorem En(a b:E):(lB a b).B F=jn (a.S F) (b.S F):=by
 unfold lB;split<;>simp
theorem L9{a b e:E}(h:El a b=some e):e.B F=(a.B F==b.B F):=by
 unfold El at h;split at h<;>simp only[Option.some.injEq]at h<;>subst h<;>simp[gh]
end
section
variable (F:Env)
theorem SV.dens_eq(l:List SV):SV.dens F l=l.map (SV.den F):=by
 induction l with
 |nil=>rfl
 |cons v vs ih=>simp[SV.dens,ih]
theorem SV.cells_den(v:SV):(v.den F).cells.toList=v.cells.map (SV.den F):=by
 cases v;case bsl ks e=>show(e.den F).raw.cells.toList=_;unfold U.raw;grind[Value.cells,SV.cells,SV.den,U.raw]
 case nsl b ks e i c=>show(e.den F).raw.cells.toList=_;unfold U.raw;grind[Value.cells,SV.cells,SV.den,U.raw]
 all_goals simp[SV.den,Value.cells,SV.cells,SV.dens_eq,Go.undef]
theorem SV.cells_size(v:SV):(v.den F).cells.size=v.cells.length:=by
 grind[Array.length_toList,SV.cells_den]
theorem SV.undef_den:SV.undef.den F=Go.undef:=by rfl
mutual
theorem EG:∀(v:Value)(s:SV),ofVal v=some s->s.den F=v
 |.bool b,s,h=>by simp[ofVal]at h;subst h;rfl
 |.int k n,s,h=>by simp[ofVal]at h;subst h;rfl
 |.string b,s,h=>by simp[ofVal]at h;subst h;rfl
 |.pointer none,s,h=>by grind[ofVal,SV.den]
 |.pointer (some _),s,h=>by simp[ofVal]at h
 |.slice none n c,s,h=>by simp[ofVal]at h;grind[SV.den]
 |.slice (some _) _ _,s,h=>by simp[ofVal]at h
 |.map none,s,h=>by grind[ofVal,SV.den]
 |.map (some _),s,h=>by simp[ofVal]at h
 |.nilFunc,s,h=>by grind[ofVal,SV.den]
 |.nilIface,s,h=>by grind[ofVal,SV.den]
 |.agg ⟨cs⟩,s,h=>by
  simp only[ofVal]at h;split at h
  ·rename_i l hl;simp only[Option.some.injEq]at h;subst h;simp[SV.den,adP cs l hl]
  ·cases h
 |.float _ _,s,h=>by simp[ofVal]at h
 |.complex _ _ _,s,h=>by simp[ofVal]at h
 |.chan _,s,h=>by simp[ofVal]at h
 |.func _ _ _,s,h=>by simp[ofVal]at h
 |.iface _ _,s,h=>by simp[ofVal]at h
 |.tuple _,s,h=>by simp[ofVal]at h
theorem adP:∀(vs:List _)(l:List SV),pg vs=some l->SV.dens F l=vs
 |[],l,h=>by simp[pg]at h;subst h;rfl
 |v::vs,l,h=>by
  simp only[pg]at h;split at h
  ·rename_i x xs hx hxs;simp only[Option.some.injEq]at h;subst h;simp[SV.dens,EG v x hx,adP vs xs hxs]
  ·cases h
end
end
end
end Go.SX

namespace Go.SX
theorem CC:∀(a b:List UInt8),mM a b=(a==b)
 |[],[]=>rfl
 |[],_::_=>rfl
 |_::_,[]=>rfl
 |x::xs,y::ys=>by
  by_cases e:x=y
  ·subst e;simp[mM,CC xs ys]
  grind[UInt8.toNat_inj,Nat.eq_of_beq_eq_true,mM]
theorem aET(a b:ByteArray):jn a b=(a.toList==b.toList):=by
 simp_all[jn,CC,ByteArray.toList_eq]
theorem aat(a b:ByteArray):jn a b=(a==b):=by
 rw[jn,CC]
 rcases a with⟨⟨a⟩⟩;rcases b with⟨⟨b⟩⟩
 have h:((ByteArray.mk _==ByteArray.mk _)=((⟨a⟩:Array _)==⟨b⟩)):=rfl;simp_all
structure TabOk (P:Program) (tb:Tab):Prop where
 ty:∀t i,tb.ty.get t=some i->P.types[t]?=some i
 fn:∀f fn,tb.fn.get f=some fn->P.funcs[f]?=some fn
 facts:∀e∈tb.facts,∀F,e.B F=true
section
variable {P:Program} {tb:Tab} (ht:TabOk P tb)
include ht
theorem TabOk.info{t:TypeId}{i:TypeInfo}(h:tb.ty.get t=some i):P.info? t=some i:=by
 have h1:=ht.ty t i h;have h2:t<P.types.size:=by
  grind
 simp_all[Tables.info?]
theorem TabOk.und{t:TypeId}{d:TypeDesc}(h:tb.und t=some d):P.underlying t=some d:=by
 unfold Tab.und at h;unfold Program.underlying;cases hi:tb.ty.get t with
 |none=>simp_all
 |some i=>
  simp only[hi]at h
  rw[ht.info hi]
  cases i with
  |mk desc str size bytes hp al fa zero cmp ms=>
   cases desc<;>simp only[Option.some.injEq]at h ⊢ <;> try exact h
   rename_i nm u;cases hj:tb.ty.get u with
   |none=>simp_all
   |some j=>simp only[hj]at h;rw[ht.info hj];simp[h]
theorem TabOk.run_und{t:TypeId}{d:TypeDesc}(h:tb.und t=some d)(w:World):(underlying t).run P w=.ok d w:=run_underlying (ht.und h) w
theorem TabOk.run_info{t:TypeId}{i:TypeInfo}(h:tb.ty.get t=some i)(w:World):(typeInfo t).run P w=.ok i w:=by
 simp[typeInfo,ht.info h]
theorem TabOk.run_size{t:TypeId}{n:Nat}(h:cy tb t=some n)(w:World):(sizeOf t).run P w=.ok n w:=by
 unfold cy at h;cases hi:tb.ty.get t with
 |none=>simp_all
 |some i=>simp only[hi,Option.some.injEq]at h;simp[Go.sizeOf,ht.run_info hi,h]
theorem TabOk.run_agg{t:TypeId}{b:Bool}(h:iN tb t=some b)(w:World):(isAgg t).run P w=.ok b w:=by
 unfold iN at h;cases hi:tb.und t with
 |none=>simp_all
 |some d=>
  simp only[hi]at h;simp only[isAgg,Sem.run_bind,ht.run_und hi];cases d<;>simp at h<;>subst h<;>simp
theorem TabOk.run_zero{t:TypeId}{v:SV}(h:gT tb t=some v)(F:Env)(w:World):(zeroValue t).run P w=.ok (v.den F) w:=by
 unfold gT at h;cases hi:tb.ty.get t with
 |none=>simp_all
 |some i=>
  simp only[hi]at h;cases hz:i.zero with
  |none=>simp_all
  |some z=>
   simp only[hz]at h;simp[zeroValue,ht.run_info hi,hz,EG F _ _ h]
theorem uv{t:TypeId}{cs:List SV}{off:Nat}{v:SV}(h:lE tb t cs off=some v)(F:Env)(w:World):
  (part t (SV.dens F cs).toArray off).run P w=.ok (v.den F) w:=by
 unfold lE at h;cases ha:iN tb t with
 |none=>simp_all
 |some b=>
  simp only[ha]at h;simp only[part,Sem.run_bind,ht.run_agg ha,Result.andThen_ok];cases b with
  |true=>
   cases hs:cy tb t with
   |none=>simp_all
   |some n=>
    simp only[hs]at h;cases hl:jF (qD cs off) n with
    |none=>simp_all
    |some l=>
     simp only[hl,Option.some.injEq]at h;subst h
     obtain⟨h1,h2⟩:=px _ _ _ hl
     rw[qE]at h1
     simp only[if_true,Sem.run_bind,ht.run_size hs];simp_all[SV.den,SV.dens_eq]
  |false=>
   simp_all[dr,SV.dens_eq]
theorem aar{f:TypeId->SV->SV->Option E}{d:Nat}{F:Env}{w:World}(hf:∀t x y e,f t x y=some e->(Op.equalIn d t (x.den F) (y.den F)).run P w=.ok (e.B F) w)
  {xs ys:List SV}:∀(fs:List Field)(e:E),xR f tb xs ys fs=some e->
  (forIn fs ((none,()):Option Bool×Unit) (fun fd (_:Option Bool×Unit)=>do
   if fd.name≠ "_" then
    let x <- part fd.type (SV.dens F xs).toArray fd.offset
    let y <- part fd.type (SV.dens F ys).toArray fd.offset
    let b <- Op.equalIn d fd.type x y
    if(!b)=true then pure (ForInStep.done (some false,()))else pure (ForInStep.yield (none,()))
   else pure (ForInStep.yield (none,()))):Sem (Option Bool×Unit)).run P w=.ok (if e.B F then none else some false,()) w
 |[],e,h=>by simp[xR]at h;subst h;simp
 |fd::fs,e,h=>by
  simp only[xR]at h;split at h
  ·cases h
  ·split at h
   ·rename_i x y hx hy;split at h
    ·rename_i a b ha hb;simp only[Option.some.injEq]at h;subst h;have ih:=aar hf fs b hb;have hn':fd.name≠ "_" :=by simp_all
     have h1:=uv ht hx F w;have h2:=uv ht hy F w;have h3:=hf _ _ _ _ ha
     rw[List.forIn_cons,Sem.run_bind,if_pos hn',Sem.run_bind,h1,Result.andThen_ok,Sem.run_bind,h2,Result.andThen_ok,Sem.run_bind,h3,Result.andThen_ok,Ej]
     cases hab:a.B F with
     |false=>simp
     |true=>
      simp_all
    ·cases h
   ·cases h
theorem aam{f:SV->SV->Option E}{d:Nat}{F:Env}{w:World}{elem n:Nat}(hf:∀x y e,f x y=some e->(Op.equalIn d elem (x.den F) (y.den F)).run P w=.ok (e.B F) w)
  {xs ys:List SV}:∀(k i:Nat)(e:E),xO f tb elem n xs ys k i=some e->
  (forIn (List.range' i k) ((none,()):Option Bool×Unit) (fun j (_:Option Bool×Unit)=>do
    let x <- part elem (SV.dens F xs).toArray (j*n)
    let y <- part elem (SV.dens F ys).toArray (j*n)
    let b <- Op.equalIn d elem x y
    if(!b)=true then pure (ForInStep.done (some false,()))else pure (ForInStep.yield (none,()))):Sem (Option Bool×Unit)).run P w=.ok (if e.B F then none else some false,()) w
 |0,i,e,h=>by simp[xO]at h;subst h;simp
 |k+1,i,e,h=>by
  simp only[xO]at h;split at h
  ·rename_i x y hx hy;split at h
   ·rename_i a b ha hb;simp only[Option.some.injEq]at h;subst h;have ih:=aam hf k _ b hb;have h1:(part _ _ (i*n)).run P w=.ok _ w:=uv ht hx F w;have h2:(part _ _ (i*n)).run P w=.ok _ w:=uv ht hy F w;have h3:=hf _ _ _ ha
    rw[List.range'_succ,List.forIn_cons,Sem.run_bind,Sem.run_bind,h1,Result.andThen_ok,Sem.run_bind,h2,Result.andThen_ok,Sem.run_bind,h3,Result.andThen_ok,Ej]
    cases hab:a.B F with
    |false=>simp
    |true=>
     simp_all
   ·cases h
  ·cases h
theorem aas(F:Env)(w:World):∀(d:Nat)(t:TypeId)(x y:SV)(e:E),gI P tb d t x y=some e->
    ∀D,d<=D->(Op.equalIn D t (x.den F) (y.den F)).run P w= .ok (e.B F) w
  |0,_,_,_,_,h,_,_=>by simp[gI]at h
  |d+1,t,x,y,e,h,D,hD=>by
    obtain⟨D,rfl⟩:∃D',D=D'+1:=⟨D-1,by omega⟩
    have hd:d<=D:=by omega
    have ih:=fun t x y e h=>aas F w d t x y e h D hd
    simp only[gI]at h;split at h;all_goals first | (cases h;done) | skip
    all_goals (rename_i hu)
    · -- bool
      have hr:=ht.run_und hu w;simp only[Op.equalIn,Sem.run_bind,hr,Result.andThen_ok,SV.den,L9 F h,Sem.run_pure]
    · have hr:=ht.run_und hu w;split at h
      · rename_i hk
        have:=fe hk
        subst this;simp only[Option.some.injEq]at h;subst h;simp only[Op.equalIn,Sem.run_bind,hr,Result.andThen_ok,SV.den,if_true,Sem.run_pure,dx,cf]
      · cases h
    · have hr:=ht.run_und hu w;simp only[Option.some.injEq]at h;subst h;simp only[Op.equalIn,Sem.run_bind,hr,Result.andThen_ok,SV.den,Sem.run_pure,En,aat]
    all_goals first
      | (have hr:=ht.run_und hu w
         simp only[Option.some.injEq]at h;subst h;simp[Op.equalIn,Sem.run_bind,hr,Result.andThen_ok,SV.den];done)
      |skip
    · have hr:=ht.run_und hu w;split at h
      · cases h
      · rename_i hst;have hst':P.stoodInHeld t=false:=by simpa using hst
        simp only[Op.equalIn,Sem.run_bind,hr,Result.andThen_ok,SV.den];have hp:=aar (F:=F) (w:=w) ht (fun t x y e h=>ih t x y e h) _ _ h
        rw[run_program,Result.andThen_ok,if_neg (by simp[hst']),Sem.run_bind,<- Array.forIn_toList,hp,Result.andThen_ok]
        cases e.B F<;>simp
    · have hr:=ht.run_und hu w;split at h
      · rename_i n hn;have hsz:=ht.run_size hn w;have hp:=aam (F:=F) (w:=w) ht (fun x y e h=>ih _ x y e h) _ _ _ h;simp only[Op.equalIn,Sem.run_bind,hr,Result.andThen_ok,SV.den,hsz]
        rw[Std.Legacy.Range.forIn_eq_forIn_range']
        simp only[Std.Legacy.Range.size,Nat.sub_zero,Nat.add_sub_cancel,Nat.div_one,hp,Result.andThen_ok];cases e.B F<;>simp
      · cases h
end
end Go.SX

namespace Go.SX
section
variable {P:Program} {tb:Tab} (ht:TabOk P tb)
theorem aER(op:BinOp)(t:TypeId)(x y:Operand)(k k':IntKind)(a b:Int)(w:World):(eqGuard op t x y (.int k a) (.int k' b)).run P w=.ok () w:=by
 simp_all[eqGuard]
theorem aFC{op:BinOp}{t:TypeId}{k k':IntKind}{a b:E}{v:SV}(h:jk P tb op t (.int k a) (.int k' b)=some v)(F:Env)(w:World):
  (binOp op t (.int k (a.I F)) (.int k' (b.I F))).run P w=.ok (v.den F) w:=by
 cases op;case shl | shr=>
  simp only[jk]at h;split at h
  ·rename_i n;simp only[Option.some.injEq]at h;subst h;have h0:¬((n:Int)<0):=by omega
   simp[binOp,Op.shift,SV.den,pd,jh,h0]
  ·cases h
 case add | sub | mul=>
  simp only[jk]at h;split at h
  ·rename_i hk;have:=fe hk;subst this;simp only[Option.some.injEq]at h;subst h;simp[binOp,Op.intArith,SV.den,pd,jh]
  ·cases h
 case and | or | xor | andNot=>
  simp only[jk]at h;split at h
  ·rename_i hk;have:=fe hk;subst this;simp only[Option.some.injEq]at h;subst h;simp[binOp,Op.intBits,SV.den,pd,jh]
  ·cases h
 case quo | rem=>
  simp only[jk]at h;split at h
  ·rename_i hk;simp only[Bool.and_eq_true]at hk
   have:=fe hk.1;subst this
   simp only[Option.some.injEq]at h;subst h;have hb:b.I F≠0:=by
    have h2:=hk.2;unfold adE at h2;split at h2
    ·intro e;simp_all[hO]
    simp_all
   simp[binOp,Op.intDiv,SV.den,pd,jh,hb]
  ·cases h
 all_goals
  simp only[jk]at h;split at h
  ·rename_i hk;have:=fe hk;subst this;simp only[Option.some.injEq]at h;subst h;simp[binOp,Op.intCmp,SV.den,dx,cf]
  ·cases h
include ht
theorem aav{t:TypeId}{x y:SV}{e:E}(h:kf P tb t x y=some e)(F:Env)(w:World):(Op.equal t (x.den F) (y.den F)).run P w=.ok (e.B F) w:=by
 have h':gI P tb 40 t x y=some e:=by
  grind[kf]
 exact aas ht F w 40 t x y e h' _ (by decide)
omit ht in
theorem aES{t:TypeId}{d:Nat}{x y:SV}{e:E}(h:gI P tb d t x y=some e)(F:Env):x.den F≠.nilIface:=by
 cases d with
 |zero=>simp[gI]at h
 |succ d=>
  simp only[gI]at h;grind[SV.den]
omit ht in
theorem xP(op:BinOp)(t:TypeId)(vx vy:Value)(hx:vx≠ .nilIface)(ha:∀cs,vx= .agg cs->P.eqGuardType P.depth t=false)(X Y:Operand)(w:World):
    (eqGuard op t X Y vx vy).run P w= .ok () w:=by
  cases vx<;>first
    |exact absurd rfl hx
    | (have h1:=ha _ rfl
       cases vy<;>cases op<;>simp[eqGuard,h1])
    |(cases vy<;>cases op<;>simp[eqGuard])
omit ht in
theorem aan{op:BinOp}{t:TypeId}{x y:SV}{e:E}(h:kf P tb t x y=some e)(X Y:Operand)(F:Env)(w:World):
  (eqGuard op t X Y (x.den F) (y.den F)).run P w=.ok () w:=by
 refine xP op t _ _ ?_ ?_ X Y w
 ·grind[kf,aES]
 ·intro cs hA;unfold kf at h;have hagg:abK x=true:=by
   cases x;case bsl ks e=>exact absurd hA (by simp only[SV.den];unfold U.raw;grind)
   case nsl b ks e i c=>exact absurd hA (by simp only[SV.den];unfold U.raw;grind)
   all_goals (simp[SV.den,Go.undef]at hA<;>rfl)
  simp_all
omit ht in
theorem Zp{t:TypeId}{d:Nat}{x y:SV}{e:E}(h:gI P tb d t x y=some e)(h1:¬∃k a k' b,x=.int k a/\y=.int k' b)(h2:¬∃a b,x=.str a/\y=.str b)(F:Env):
  binOp .eql t (x.den F) (y.den F)=(do pure (.bool (<- Op.equal t (x.den F) (y.den F))):Sem Value)/\
  binOp .neq t (x.den F) (y.den F)=(do pure (.bool (!(<- Op.equal t (x.den F) (y.den F)))):Sem Value):=by
 cases d with
 |zero=>simp[gI]at h
 |succ d=>
  simp only[gI]at h;split at h<;>first
   |(cases h;done)
   |exact absurd ⟨_,_,_,_,rfl,rfl⟩ h1
   |exact absurd ⟨_,_,rfl,rfl⟩ h2
   |(exact⟨rfl,rfl⟩)
theorem aDK{op:BinOp}{t:TypeId}{x y v:SV}(h:jk P tb op t x y=some v)(X Y:Operand)(F:Env)(w:World):
  (do eqGuard op t X Y (x.den F) (y.den F);binOp op t (x.den F) (y.den F):Sem Value).run P w=.ok (v.den F) w:=by
 by_cases h1:∃k a k' b,x=.int k a/\y=.int k' b
 ·grind[Sem.run_bind,SV.den,aER,Result.andThen_ok,aFC]
 by_cases h2:∃a b,x=.str a/\y=.str b
 ·obtain⟨a,b,rfl,rfl⟩:=h2
  cases op<;>simp only[jk,reduceCtorEq,Option.some.injEq]at h<;>subst h <;>
   simp[SV.den,En,gh,aET]<;>rfl
 have hb:(op=.eql/\∃e,kf P tb t x y=some e/\v=.bool e)\/(op=.neq/\∃e,kf P tb t x y=some e/\v=.bool (bc e)):=by
  unfold jk at h;grind
 have hd:∀e,kf P tb t x y=some e->gI P tb 40 t x y=some e:=by
  grind[kf]
 rcases hb with⟨rfl,e,he,rfl⟩|⟨rfl,e,he,rfl⟩
 ·rw[Sem.run_bind,aan he X Y F w,Result.andThen_ok,(Zp (hd e he) h1 h2 F).1,Sem.run_bind,aav ht he F w,Result.andThen_ok]
  rfl
 ·rw[Sem.run_bind,aan he X Y F w,Result.andThen_ok,(Zp (hd e he) h1 h2 F).2,Sem.run_bind,aav ht he F w,Result.andThen_ok]
  simp[SV.den,gh]
end
end Go.SX

namespace Go.SX
section
variable {P:Program} {tb:Tab} (ht:TabOk P tb)
theorem aLN{op:UnOp}{x v:SV}(h:Gf op x=some v)(F:Env)(w:World):(Op.unary op (x.den F)).run P w=.ok (v.den F) w:=by
 unfold Gf at h;split at h
 ·simp only[Option.some.injEq]at h;subst h;simp[Op.unary,SV.den,Op.intArith,pd,jh]
 ·simp only[Option.some.injEq]at h;subst h;rename_i k a;have hb:(if k.signed=true then -1 else k.max)=(match k.signed with | true=>-1 | false=>k.max):=by grind
  simp only[Op.unary,SV.den,pd,hb];rfl
 ·simp only[Option.some.injEq]at h;subst h;simp[Op.unary,SV.den,gh]
 ·cases h
include ht
theorem aEw{s d:TypeId}{x v:SV}(h:CN tb s d x=some v)(F:Env)(w:World):(convert s d (x.den F)).run P w=.ok (v.den F) w:=by
 unfold CN at h;split at h
 ·rename_i h1 h2;simp only[Option.some.injEq]at h;subst h;simp only[convert,Sem.run_bind,ht.run_und h1,ht.run_und h2,SV.den];simp[Conv.intToInt,aGu]
 ·rename_i h1 h2;simp only[Option.some.injEq]at h;subst h;simp only[convert,Sem.run_bind,ht.run_und h1,ht.run_und h2,SV.den];simp
 ·cases h
omit ht in
theorem FH{t:TypeId}{fs:List Field}(h:FG tb t=some fs):∃a:Array Field,fs=a.toList/\tb.und t=some (.struct a):=by
 grind[FG]
omit ht in
theorem xf(o:Off)(n:Nat)(F:Env):(qq o n).den F=o.den F+n:=by
 grind[qq,Off.den]
omit ht in
theorem eO(b o n:Nat):(⟨b,o,none⟩:Addr).add n=⟨b,o+n,none⟩:=by
 simp_all[Addr.add]
omit ht in
theorem Cz{F:Env}{ks:List CK}{e i:E}{j:Nat}(h:(SV.bptr ks e i j).ok F):∃(r off len cap:Nat) (l:List U) (arr:Array Value) (elem:TypeId) (fr:Nat×Nat),
  e.den F=.bx (some ⟨r,off,none⟩) len cap l/\l.length=len*ks.length/\len<=cap/\F.fz r=some (.cells arr elem fr)/\
  (∀(i:Nat)(u:U),l[i]?=some u->∃c,ks[i%ks.length]?=some c/\arr[off+i]?=some (c.val u))/\
  (∀(i:Nat)(u:U)(ks':List CK),l[i]?=some u->ks[i%ks.length]?=some (.slc ks')->SlOk F.fz ks' u)/\
  0<=i.I F/\((i.I F).toNat+1)*ks.length<=l.length/\0<ks.length:=by
 obtain⟨h1,h2,h3,h4⟩:SlOk F.fz ks (e.den F)/\0<=i.I F/\((i.I F).toNat+1)*ks.length<=(e.L F).length/\0<ks.length:=h
 have hL:e.L F=(e.den F).toL:=rfl
 rw[hL]at h3
 have hpos:ks.length<=((i.I F).toNat+1)*ks.length:=Nat.le_mul_of_pos_left _ (Nat.succ_pos _);generalize hd:e.den F=u at h1 h3;cases h1 with
 |nil=>simp_all[U.toL]
 |empty=>simp_all[U.toL]
 |mk a b c d f=>
  rename_i r off len cap l arr elem fr;have hne:l≠[]:=by
   rintro rfl
   grind[U.toL]
  exact⟨_,_,_,_,_,_,_,_,rfl,a,b,c hne,d,f,h2,h3,h4⟩
omit ht in
theorem xq{F:Env}{ks:List CK}{e i:E}{j:Nat}{r off len cap:Nat}{l:List U}(h:e.den F=.bx (some ⟨r,off,none⟩) len cap l):
  (SV.bptr ks e i j).den F=.pointer (some ⟨r,off+((i.I F).toNat*ks.length+j),none⟩):=by
 simp_all[SV.den,CG,U.adr]
omit ht in
theorem uh{F:Env}{b:Nat}{ks:List CK}{e i:E}{c:Nat}{x:E}{j:Nat}{r len cap:Nat}{l:List U}(h:e.den F=.bx (some ⟨r,0,none⟩) len cap l):
  (SV.nptr b ks e i c x j).den F=.pointer (some ⟨r,(x.I F).toNat*ks.length+j,none⟩):=by
 simp_all[SV.den,CG,U.adr]
theorem aE4{s:TypeId}{x v:SV}{f:Nat}(h:Dg tb s x f=some v)(F:Env)(hok:x.ok F)(w:World):(Instr.fieldAt s (x.den F) f).run P w=.ok (v.den F) w:=by
 unfold Dg at h;split at h
 ·rename_i fs b o hf
  obtain⟨a,rfl,ha⟩:=FH hf
  split at h
  ·rename_i fd hfd
   rw[dr]at hfd
   split at h
   ·rename_i n hn;split at h
    ·cases h
    ·rename_i hz;simp only[Option.some.injEq]at h;subst h;have hn0:=fun e=>hz (lj e)
     have hfd':a[f]?=some fd:=by simp_all
     simp only[Instr.fieldAt,Sem.run_bind,ht.run_und ha,Result.andThen_ok,hfd',SV.den,Instr.sureAddr,Sem.run_pure,fieldPlace,ht.run_size hn,if_neg hn0,eO,xf,Nat.add_assoc]
   ·cases h
  ·cases h
 ·rename_i fs ks e i j hf
  obtain⟨a,rfl,ha⟩:=FH hf
  split at h
  ·rename_i fd hfd
   rw[dr]at hfd
   split at h
   ·rename_i n hn;split at h
    ·cases h
    ·rename_i hz;simp only[Option.some.injEq]at h;subst h;have hn0:=fun e=>hz (lj e)
     have hfd':a[f]?=some fd:=by simp_all
     obtain⟨r,off,len,cap,l,arr,elem,fr,he,_⟩:=Cz hok
     rw[xq he,xq he]
     simp only[Instr.fieldAt,Sem.run_bind,ht.run_und ha,Result.andThen_ok,hfd',Instr.sureAddr,Sem.run_pure,fieldPlace,ht.run_size hn,if_neg hn0,eO,Nat.add_eq,Nat.add_assoc]
   ·cases h
  ·cases h
 ·rename_i fs b ks e i c x j hf
  obtain⟨a,rfl,ha⟩:=FH hf
  split at h
  ·rename_i fd hfd
   rw[dr]at hfd
   split at h
   ·rename_i n hn;split at h
    ·cases h
    ·rename_i hz;simp only[Option.some.injEq]at h;subst h;have hn0:=fun e=>hz (lj e)
     have hfd':a[f]?=some fd:=by simp_all
     obtain⟨_,_,r,len,cap,l,he,_⟩:=hok
     rw[uh he,uh he]
     simp only[Instr.fieldAt,Sem.run_bind,ht.run_und ha,Result.andThen_ok,hfd',Instr.sureAddr,Sem.run_pure,fieldPlace,ht.run_size hn,if_neg hn0,eO,Nat.add_eq,Nat.add_assoc]
   ·cases h
  ·cases h
 ·cases h
theorem aE5{s:TypeId}{x v:SV}{f:Nat}(h:Dh tb s x f=some v)(F:Env)(w:World):(Instr.field s (x.den F) f).run P w=.ok (v.den F) w:=by
 unfold Dh at h;split at h
 ·rename_i fs cs hf
  obtain⟨a,rfl,ha⟩:=FH hf
  split at h
  ·rename_i fd hfd
   rw[dr]at hfd
   simp only[Instr.field,Sem.run_bind,ht.run_und ha,Result.andThen_ok,SV.den,asAgg,Sem.run_pure];grind[uv]
  ·cases h
 ·cases h
omit ht in
theorem dp{a b:Nat}:Nat.blt a b=true↔a<b:=by
 simp_all
theorem Lq{t:TypeId}{x i v:SV}(h:oV tb t x i=some v)(F:Env)(w:World):(Instr.indexAt t (x.den F) (i.den F)).run P w=.ok (v.den F) w:=by
 unfold oV at h;split at h
 ·rename_i k n;split at h
  ·rename_i len elem b o hu;split at h
   ·split at h
    ·rename_i sz hsz;simp only[Option.some.injEq]at h;subst h;simp only[Instr.indexAt,Sem.run_bind,ht.run_und hu,Result.andThen_ok,SV.den,asIntOf,Sem.run_pure,Instr.sureAddr,E.I_int];have hc:0<=Int.ofNat n/\Int.ofNat n<len:=by
      simp_all
     split<;>(simp only[Sem.run_bind,ht.run_size hsz];simp[eO,xf])
    ·cases h
   ·cases h
  ·rename_i elem b o l c hu;split at h
   ·split at h
    ·rename_i sz hsz;simp only[Option.some.injEq]at h;subst h;simp only[Instr.indexAt,Sem.run_bind,ht.run_und hu,Result.andThen_ok,SV.den,asIntOf,Sem.run_pure,E.I_int];have hl:(Int.ofNat l).toNat=l:=rfl;have hc:0<=Int.ofNat n/\Int.ofNat n<l:=by
      simp_all
     rw[hl]
     split<;>(simp only[Sem.run_bind,ht.run_size hsz];simp[eO,xf])
    ·cases h
   ·cases h
  ·cases h
 ·cases h
theorem abE{t:TypeId}{x i v:SV}(h:tE tb t x i=some v)(F:Env)(w:World):(Instr.index t (x.den F) (i.den F)).run P w=.ok (v.den F) w:=by
 unfold tE at h;split at h
 ·rename_i k n;split at h
  ·rename_i len elem cs hu;split at h
   ·split at h
    ·rename_i sz hsz;have hc:0<=Int.ofNat n/\Int.ofNat n<len:=by
      simp_all
     simp only[Instr.index,Sem.run_bind,ht.run_und hu,Result.andThen_ok,SV.den,asIntOf,Sem.run_pure,E.I_int,ht.run_size hsz,if_pos hc];grind[uv]
    ·cases h
   ·cases h
  ·rename_i s hu;split at h
   ·rename_i b hb;simp only[Option.some.injEq]at h;subst h;have hc:0<=Int.ofNat n:=by simp
    have hb':s[(Int.ofNat n).toNat]?=some b:=hb;simp only[Instr.index,Sem.run_bind,ht.run_und hu,Result.andThen_ok,SV.den,asIntOf,Sem.run_pure,E.I_int,E.S_str,if_pos hc,hb']
   ·cases h
  ·cases h
 ·cases h
omit ht in
theorem aE0{x v:SV}{i:Nat}(h:Da x i=some v)(F:Env)(w:World):(Instr.extract (x.den F) i).run P w=.ok (v.den F) w:=by
 unfold Da at h;split at h;all_goals simp_all[dr,Instr.extract,SV.den,SV.dens_eq]
omit ht in
theorem aeR:∀(vs:List Value)(cs:Array Value)(off k:Nat),off+k+vs.length<=cs.size->
  ((vs.zipIdx k).foldl (fun(cs:Array Value) (x:Value×Nat)=>cs.setIfInBounds (off+x.2) x.1) cs).toList=cs.toList.take (off+k)++vs++cs.toList.drop (off+k+vs.length)
 |[],cs,off,k,h=>by simp
 |v::vs,cs,off,k,h=>by
  simp only[List.zipIdx_cons,List.foldl_cons,List.length_cons]at h ⊢
  rw[aeR vs _ off (k+1) (by grind)]
  have hk:off+k<cs.size:=by omega
  simp only[Array.toList_setIfInBounds];have e1:off+(k+1)=off+k+1:=by omega
  rw[e1]
  apply List.ext_getElem?;intro j;have hlen:cs.toList.length=cs.size:=by simp
  rcases Nat.lt_trichotomy j (off+k)with hj|hj|hj
  ·grind[List.getElem?_append_left,List.getElem?_take_of_lt,List.getElem?_set_ne]
  ·subst hj
   rw[List.getElem?_append_left (by grind),List.getElem?_append_left (by grind),List.getElem?_append_left (by grind),List.getElem?_append_right (by grind)]
   rw[List.getElem?_take_of_lt (by omega)]
   grind
  ·by_cases hj2:j<off+k+1+vs.length
   ·rw[List.getElem?_append_left (by grind),List.getElem?_append_right (by grind),List.getElem?_append_left (by grind),List.getElem?_append_right (by grind)]
    grind
   ·rw[List.getElem?_append_right (by simp;omega),List.getElem?_append_right (by simp;omega)]
    simp only[List.length_append,List.length_take,List.length_set,hlen,List.length_cons,List.getElem?_drop];grind
omit ht in
theorem Di(F:Env)(place:Nat->Option (Nat×Nat)):∀(parts:List (Nat×SV))(cells r:List SV),lp place cells parts=some r->
  Instr.fill place (SV.dens F cells).toArray (parts.map fun x=>(x.1,x.2.den F))=some (SV.dens F r).toArray
 |[],cells,r,h=>by simp_all[lp,Instr.fill]
 |(i,v)::bE,cells,r,h=>by
  simp only[lp]at h;split at h
  ·cases h
  ·rename_i off size hp;split at h
   ·split at h
    ·rename_i cs hcs
     obtain⟨h1,h2⟩:=yX _ _ _ _ hcs
     simp only[List.map_cons,Instr.fill,hp];have hsz:(v.den F).cells.size=size:=by simp_all[SV.cells_size]
     have hle:¬(off+(v.den F).cells.size>(SV.dens F cells).toArray.size):=by
      simp_all[SV.dens_eq]
     have hcond:(decide ((v.den F).cells.size≠size)||decide (off+(v.den F).cells.size>(SV.dens F cells).toArray.size))=false:=by
      simp_all
     simp only[hcond];have hfold:(v.den F).cells.zipIdx.foldl (fun cs x=>cs.setIfInBounds (off+x.2) x.1) (SV.dens F cells).toArray=(SV.dens F cs).toArray:=by
      apply Array.ext'
      rw[<- Array.foldl_toList,Array.toList_zipIdx,aeR _ _ _ _ (by simp_all),SV.cells_den,h1]
      simp[SV.dens_eq]
     have hfold':=hfold
     rw[hfold']
     exact Di F _ _ cs r h
    ·cases h
   ·cases h
theorem aeh(w:World):∀(fs:List Field)(ps:List (Nat×Nat)),y7 tb fs=some ps->
  ((fs.mapM fun f=>do pure (f.offset,<- sizeOf f.type):Sem (List (Nat×Nat)))).run P w=.ok ps w
 |[],ps,h=>by simp_all[y7]
 |f::fs,ps,h=>by
  simp only[y7]at h;split at h
  ·rename_i n l hn hl;have ih:=aeh w fs l hl;have h1:=ht.run_size hn w;simp_all
  ·cases h
theorem aD7{t:TypeId}{parts:List (Nat×SV)}{v:SV}(h:xr tb t parts=some v)(F:Env)(w:World):
  (Instr.build t (parts.map fun x=>(x.1,x.2.den F)).toArray).run P w=.ok (v.den F) w:=by
 unfold xr at h;split at h
 ·rename_i z hz;have hz1:=ht.run_zero hz F w;have hzc:(z.den F).cells=(SV.dens F z.cells).toArray:=by
   grind[SV.cells_den,SV.dens_eq]
  split at h
  ·rename_i fs hu;split at h
   ·rename_i ps hps;split at h
    ·rename_i cs hcs;simp only[Option.some.injEq]at h;subst h;have hp:=aeh ht w _ _ hps;have hf:=Di F _ _ _ _ hcs;have hpa:((fs.mapM fun f=>do pure (f.offset,<- sizeOf f.type):Sem _)).run P w=.ok ps.toArray w:=by
      simp_all[Array.mapM_eq_mapM_toList]
     have hg:(fun i=>ps.toArray[i]?)=dq ps:=by grind[dr]
     simp only[Instr.build,Sem.run_bind,ht.run_und hu];simp_all[SV.den]
    ·cases h
   ·cases h
  ·rename_i n elem hu;split at h
   ·rename_i sz hsz;split at h
    ·rename_i cs hcs;simp only[Option.some.injEq]at h;subst h;have hf:=Di F _ _ _ _ hcs;simp only[Instr.build,Sem.run_bind,ht.run_und hu,Result.andThen_ok,ht.run_size hsz];simp_all[SV.den]
    ·cases h
   ·cases h
  ·cases h
 ·cases h
omit ht in
theorem gg{e:E}{n:Nat}(h:ef e=some n):e=.int (.ofNat n):=by
 unfold ef at h;split at h;all_goals simp_all
theorem aFR{t:TypeId}{x v:SV}(h:DV tb t x=some v)(ty:TypeId)(F:Env)(w:World)(bE:List TypeId)(rv:List Value):
  (Builtin.len_ (t::bE).toArray ty (x.den F::rv).toArray).run P w=.ok (v.den F) w:=by
 unfold DV at h;split at h
 ·rename_i s hu;simp only[Option.some.injEq]at h;subst h;simp[Builtin.len_,ht.run_und hu,SV.den,goInt]
 ·rename_i n _ hu;simp only[Option.some.injEq]at h;subst h;simp only[Builtin.len_,List.getElem?_toArray,List.getElem?_cons_zero,Sem.run_bind,ht.run_und hu,Result.andThen_ok];rfl
 ·rename_i _ hu;simp only[Option.some.injEq]at h;subst h;simp[Builtin.len_,ht.run_und hu,SV.den,goInt]
 ·rename_i _ b o l c hu;split at h
  ·rename_i n hn;simp only[Option.some.injEq]at h;subst h
   rw[gg hn]
   simp[Builtin.len_,ht.run_und hu,SV.den,goInt]
  ·cases h
 ·rename_i _ _ hu;simp only[Option.some.injEq]at h;subst h;simp[Builtin.len_,ht.run_und hu,SV.den,goInt]
 ·cases h
theorem aEf{t:TypeId}{x v:SV}(h:CF tb t x=some v)(ty:TypeId)(F:Env)(w:World)(bE:List TypeId)(rv:List Value):
  (Builtin.cap_ (t::bE).toArray ty (x.den F::rv).toArray).run P w=.ok (v.den F) w:=by
 unfold CF at h;split at h
 ·rename_i n _ hu;simp only[Option.some.injEq]at h;subst h;simp only[Builtin.cap_,List.getElem?_toArray,List.getElem?_cons_zero,Sem.run_bind,ht.run_und hu];rfl
 ·rename_i _ hu;simp only[Option.some.injEq]at h;subst h;simp[Builtin.cap_,ht.run_und hu,SV.den,goInt]
 ·rename_i _ b o l c hu;split at h
  ·rename_i n hn;simp only[Option.some.injEq]at h;subst h
   rw[gg hn]
   simp[Builtin.cap_,ht.run_und hu,SV.den,goInt]
  ·cases h
 ·cases h
omit ht in
theorem acn{mx:Bool}{k:IntKind}(F:Env)(w:World):∀(vs:List SV)(a:E)(v:SV),pb mx k vs a=some v->
  ((if mx then(SV.dens F vs).foldlM Builtin.max2 (.int k (a.I F))else(SV.dens F vs).foldlM Builtin.min2 (.int k (a.I F))):Sem Value).run P w=.ok (v.den F) w
 |[],a,v,h=>by
  simp only[pb,Option.some.injEq]at h;subst h;simp_all[SV.dens,SV.den]
 |x::vs,a,v,h=>by
  unfold pb at h;split at h
  ·split at h
   ·have ih:=acn F w vs _ v h;cases mx
    ·simp only[aGo]at ih ⊢;exact ih
    ·simp only[aGq]at ih ⊢;exact ih
   ·cases h
  ·cases h
omit ht in
theorem acp{mx:Bool}{vs:List SV}{v:SV}(h:ua mx vs=some v)(a:Array TypeId)(ty:TypeId)(F:Env)(w:World):
  ((if mx then Builtin.max_ a ty (SV.dens F vs).toArray else Builtin.min_ a ty (SV.dens F vs).toArray):Sem Value).run P w=.ok (v.den F) w:=by
 unfold ua at h;grind[acn,Builtin.min_,Builtin.max_,SV.dens,SV.den]
def ee(F:Env):Option SV->Option Value
 |none=>none
 |some v=>some (v.den F)
omit ht in
theorem oH{x:Option SV}{d y n:Nat}(h:ta x d y=some n)(F:Env)(w:World)(code:BoundsCode):
  (x=none/\n=d)\/(∃v,x=some v/\n<=y/\(Instr.sliceBound (v.den F) y code).run P w=.ok n w):=by
 unfold ta at h;split at h
 ·simp_all
 ·rename_i k m;split at h
  ·rename_i hle;simp only[Option.some.injEq]at h;subst h
   rw[Nat.ble_eq]at hle
   refine .inr ⟨_,rfl,hle,?_⟩;have hc:0<=Int.ofNat m/\Int.ofNat m<=y:=by simp_all
   simp only[Instr.sliceBound,SV.den,Sem.run_bind,asIntOf,Sem.run_pure,Result.andThen_ok,E.I_int,if_pos hc];rfl
  ·cases h
 ·cases h
omit ht in
theorem J5{len cap:Nat}{lo hi mx:Option SV}{l h m:Nat}(hb:xp len cap lo hi mx=some (l,h,m))(isSlice:Bool)(F:Env)(w:World):
  (Instr.sliceBounds isSlice len cap (ee F lo) (ee F hi) (ee F mx)).run P w=.ok (l,h,m) w/\h<=m/\m<=cap/\(lo=none->l=0)/\(∀v,lo=some v->l<=h):=by
 unfold xp at hb;split at hb
 ·cases hb
 ·split at hb
  ·rename_i m' hm;split at hb
   ·rename_i h' hh;split at hb
    ·rename_i l' hl;split at hb
     ·rename_i hle
      obtain⟨rfl,rfl,rfl⟩:=hb
      rw[Nat.ble_eq]at hle
      refine⟨?_,hle,?_,?_,?_⟩
      ·unfold Instr.sliceBounds;rcases oH (P:=P) hm F w (if isSlice then .slice3Acap else .slice3Alen)with⟨rfl,rfl⟩|⟨vm,rfl,_,hm2⟩
       ·rcases oH (P:=P) hh F w (if isSlice then .sliceAcap else .sliceAlen)with⟨rfl,rfl⟩|⟨vh,rfl,_,hh2⟩
        ·rcases oH (P:=P) hl F w .sliceB with⟨rfl,rfl⟩|⟨vl,rfl,_,hl2⟩
         all_goals simp_all[ee]
        ·rcases oH (P:=P) hl F w .sliceB with⟨rfl,rfl⟩|⟨vl,rfl,_,hl2⟩
         all_goals simp_all[ee]
       ·rcases oH (P:=P) hh F w .slice3B with⟨rfl,rfl⟩|⟨vh,rfl,_,hh2⟩
        ·simp_all
        ·rcases oH (P:=P) hl F w .slice3C with⟨rfl,rfl⟩|⟨vl,rfl,_,hl2⟩
         all_goals simp_all[ee]
      ·rcases oH (P:=P) hm F w .sliceB with⟨_,h0⟩|⟨_,_,h1,_⟩
       all_goals omega
      ·rintro rfl
       simp_all[ta]
      ·rcases oH (P:=P) hl F w .sliceB with⟨h0,_⟩|⟨vl,h0,h1,_⟩
       all_goals omega
     simp_all
    simp_all
   simp_all
  simp_all
omit ht in
theorem ae2(o:Off)(m l sz:Nat)(F:Env)(b z:Nat):
  (⟨b,z+(E3 o m l sz).den F,none⟩:Addr)=if m=l then⟨b,z+o.den F,none⟩ else(⟨b,z+o.den F,none⟩:Addr).add (l*sz):=by
 unfold E3;by_cases h:m=l
 ·simp_all
 ·have:Nat.beq m l=false:=by
   grind[Nat.eq_of_beq_eq_true]
  simp_all[eO,xf,Nat.add_assoc]
theorem aHQ{t:TypeId}{x v:SV}{lo hi mx:Option SV}(h:Fu tb t x lo hi mx=some v)(F:Env)(w:World):
  (Instr.sliceAt t (x.den F) (ee F lo) (ee F hi) (ee F mx)).run P w=.ok (v.den F) w:=by
 unfold Fu at h;split at h
 ·rename_i elem b o len cap hu;split at h
  ·rename_i l hh m sz hb hsz;simp only[Option.some.injEq]at h;subst h;have hb':=(J5 (P:=P) hb true F w).1;simp only[Instr.sliceAt,Instr.slice,Sem.run_bind,ht.run_und hu,Result.andThen_ok,SV.den,E.I_int];have e1:(Int.ofNat _).toNat=len:=rfl;have e2:(Int.ofNat _).toNat=cap:=rfl
   rw[e1,e2]
   simp only[hb',Result.andThen_ok,ht.run_size hsz,Sem.run_pure,ae2];grind
  ·cases h
 ·rename_i elem hu;split at h
  ·rename_i q sz hb hsz
   obtain⟨l,hh,m⟩:=q
   simp only[Option.some.injEq]at h;subst h
   obtain⟨hb1,hb2,hb3,hb4,hb5⟩:=(J5 (P:=P) hb true F w)
   have hm0:m=0:=by omega
   have hh0:hh=0:=by omega
   have hl0:l=0:=by
    cases lo with
    |none=>simp_all
    |some v=>simp_all
   subst hm0 hh0 hl0;simp only[Instr.sliceAt,Instr.slice,Sem.run_bind,ht.run_und hu,Result.andThen_ok,SV.den,hb1];simp only[ht.run_size hsz,Result.andThen_ok,Sem.run_pure,if_true]
  ·cases h
 ·rename_i n elem b o hu;split at h
  ·rename_i l hh m sz hb hsz;simp only[Option.some.injEq]at h;subst h;have hb':=(J5 (P:=P) hb false F w).1;simp only[Instr.sliceAt,Sem.run_bind,ht.run_und hu,Result.andThen_ok,SV.den,Instr.sureAddr,Sem.run_pure,hb',ht.run_size hsz,ae2];rfl
  ·cases h
 ·cases h
end
end Go.SX

namespace Go.SX
section
variable {P:Program} {tb:Tab} (ht:TabOk P tb)
def GQ(F:Env)(ev:Operand->Option SV)(f:Operand->Value):Prop:=∀x v,ev x=some v->f x=v.den F
def vw(F:Env)(ev:Operand->Option SV):Prop:=∀x v,ev x=some v->v.ok F
section
variable {F:Env} {ev:Operand->Option SV} {f:Operand->Value} (hev:GQ F ev f)
include hev
theorem mU:∀(xs:List Operand)(vs:List SV),iK ev xs=some vs->xs.map f=SV.dens F vs
 |[],vs,h=>by simp[iK]at h;subst h;rfl
 |x::xs,vs,h=>by
  simp only[iK]at h;split at h
  ·rename_i v l hv hl;simp only[Option.some.injEq]at h;subst h;simp[SV.dens,hev _ _ hv,mU xs l hl]
  ·cases h
theorem KB:∀(xs:List (Nat×Operand))(vs:List (Nat×SV)),mW ev xs=some vs->xs.map (fun x=>(x.1,f x.2))=vs.map fun x=>(x.1,x.2.den F)
 |[],vs,h=>by simp_all[mW]
 |(i,x)::xs,vs,h=>by
  simp only[mW]at h;split at h
  ·rename_i v l hv hl;simp only[Option.some.injEq]at h;subst h;simp[hev _ _ hv,KB xs l hl]
  ·cases h
theorem mV{x:Option Operand}{v:Option SV}(h:oM ev x=some v):x.map f=ee F v:=by
 unfold oM at h;split at h
 ·simp only[Option.some.injEq]at h;subst h;rfl
 ·split at h
  ·rename_i y w hw;simp only[Option.some.injEq]at h;subst h;simp[ee,hev _ _ hw]
  ·cases h
end
theorem dz{s:Sem Value}{v:Value}{w w':World}(h:s.run P w=.ok v w'):(do pure (Next.value (<- s)):Sem Next).run P w=.ok (.value v) w':=by
 simp_all
include ht
theorem E9{F:Env}{ev:Operand->Option SV}{f:Operand->Value}(hev:GQ F ev f)(hwf:vw F ev){o:Oper}{v:SV}(h:ru P tb ev o.op=some v)(w:World):
  (execOp f o).run P w=.ok (.value (v.den F)) w:=by
 rw[ael]at h;unfold EY EX EN E0 EQ ET ES EV EU ER EO EW EZ EP at h
 split at h;all_goals (rename_i ho)
 ·simp only[execOp,ho,Sem.run_pure,hev _ _ h]
 ·simp only[execOp,ho,Sem.run_pure,hev _ _ h]
 ·-- pick
  split at h
  ·rename_i hc;simp[execOp,ho,hev _ _ hc,SV.den,asBool,hev _ _ h]
  ·rename_i hc;simp[execOp,ho,hev _ _ hc,SV.den,asBool,hev _ _ h]
  ·cases h
 ·-- nilCheck
  split at h
  ·rename_i b off hx;simp only[Option.some.injEq]at h;subst h;simp[execOp,ho,hev _ _ hx,SV.den]
  ·rename_i ks e i j hx;simp only[Option.some.injEq]at h;subst h
   obtain⟨r,off,len,cap,l,arr,elem,fr,he,_⟩:=Cz (hwf _ _ hx)
   simp only[execOp,ho,hev _ _ hx,xq he,Sem.run_pure]
  ·rename_i b ks e i c x j hx;simp only[Option.some.injEq]at h;subst h
   obtain⟨_,_,r,len,cap,l,he,_⟩:=hwf _ _ hx
   simp only[execOp,ho,hev _ _ hx,uh he,Sem.run_pure]
  ·cases h
 ·-- binOp
  split at h
  ·rename_i vx vy hx hy;simp only[execOp,ho,hev _ _ hx,hev _ _ hy];grind[dz,aDK]
  ·cases h
 ·split at h
  ·rename_i vx hx;simp only[execOp,ho,hev _ _ hx];simp_all[dz,aLN]
  ·cases h
 ·split at h
  ·rename_i vx hx;simp only[execOp,ho,hev _ _ hx];grind[dz,aEw]
  ·cases h
 ·split at h
  ·rename_i vx hx;simp only[execOp,ho,hev _ _ hx];exact dz (aE4 ht h F (hwf _ _ hx) w)
  ·cases h
 ·split at h
  ·rename_i vx hx;simp only[execOp,ho,hev _ _ hx];grind[dz,aE5]
  ·cases h
 ·split at h
  ·rename_i vx vy hx hy;simp only[execOp,ho,hev _ _ hx,hev _ _ hy];grind[dz,Lq]
  ·cases h
 ·split at h
  ·rename_i vx vy hx hy;simp only[execOp,ho,hev _ _ hx,hev _ _ hy];grind[dz,abE]
  ·cases h
 ·split at h
  ·rename_i vx hx;simp only[execOp,ho,hev _ _ hx];simp_all[dz,aE0]
  ·cases h
 ·-- build
  rename_i t parts;split at h
  ·rename_i ps hps;have hp:=KB hev _ _ hps;simp only[execOp,ho];have e:(parts.map fun x=>(x.1,f x.2))=(ps.map fun x=>(x.1,x.2.den F)).toArray:=by
    grind
   grind[dz,aD7]
  ·cases h
 ·-- makeFunc
  rename_i fn fi ca;split at h
  ·rename_i a b ha hb;simp only[Option.some.injEq]at h;subst h;have h1:=mU hev _ _ ha;have h2:=mU hev _ _ hb;simp only[execOp,ho];have e1:fi.map f=(SV.dens F a).toArray:=by grind
   have e2:ca.map f=(SV.dens F b).toArray:=by grind
   simp_all[dz,Instr.makeFunc,SV.den]
  ·cases h
 ·-- slice
  split at h
  ·rename_i v1 v2 v3 v4 h1 h2 h3 h4;simp only[execOp,ho,hev _ _ h1,mV hev h2,mV hev h3,mV hev h4];grind[dz,aHQ]
  ·cases h
 ·-- call
  rename_i c;split at h
  ·rename_i b hb;split at h
   ·rename_i vs hvs;have h1:=mU hev _ _ hvs;have e1:c.args.map f=(SV.dens F vs).toArray:=by grind
    have hx:∀(s:Sem Next),builtin b c.argTypes o.type (c.args.map fun | .const _=>true | _=>false) (c.args.map f)=s->s.run P w=.ok (.value (v.den F)) w->
      (execOp f o).run P w=.ok (.value (v.den F)) w:=by
     grind[execOp,resolve,Sem.run_bind,Sem.run_pure,Result.andThen_ok,invoke]
    split at h
    ·-- len
     split at h
     ·rename_i t x ht' hx'
      rw[dr]at ht' hx'
      refine hx _ rfl (dz ?_)
      rw[e1]
      cases ha:c.argTypes with
      |mk l=>
       rw[ha]at ht'
       cases l with
       |nil=>simp_all
       |cons t' l=>
        simp at ht';subst ht';cases vs with
        |nil=>simp_all
        |cons x' vs=>simp at hx';subst hx';exact aFR ht h _ F w _ _
     ·cases h
    ·split at h
     ·rename_i t x ht' hx'
      rw[dr]at ht' hx'
      refine hx _ rfl (dz ?_)
      rw[e1]
      cases ha:c.argTypes with
      |mk l=>
       rw[ha]at ht'
       cases l with
       |nil=>simp_all
       |cons t' l=>
        simp at ht';subst ht';cases vs with
        |nil=>simp_all
        |cons x' vs=>simp at hx';subst hx';exact aEf ht h _ F w _ _
     ·cases h
    ·refine hx _ rfl (dz ?_)
     rw[e1]
     exact acp (mx:=false) h c.argTypes o.type F w
    ·refine hx _ rfl (dz ?_)
     rw[e1]
     exact acp (mx:=true) h c.argTypes o.type F w
    ·cases h
   ·cases h
  ·cases h
 ·cases h
omit ht in
theorem SV.oks_iff{F:Env}:∀(l:List SV),SV.oks F l↔∀v∈l,v.ok F
 |[]=>by simp[SV.oks]
 |v::vs=>by simp[SV.oks,SV.oks_iff vs]
omit ht in
theorem SV.cells_ok{F:Env}{v:SV}(h:v.ok F):SV.oks F v.cells:=by
 cases v;all_goals grind[SV.cells,SV.oks,SV.ok]
omit ht in
mutual
theorem Mo(F:Env):∀(v:Value)(s:SV),ofVal v=some s->s.ok F
 |.bool b,s,h=>by grind[ofVal,SV.ok]
 |.int k n,s,h=>by grind[ofVal,SV.ok]
 |.string b,s,h=>by grind[ofVal,SV.ok]
 |.pointer none,s,h=>by grind[ofVal,SV.ok]
 |.pointer (some _),s,h=>by simp[ofVal]at h
 |.slice none n c,s,h=>by grind[ofVal,SV.ok]
 |.slice (some _) _ _,s,h=>by simp[ofVal]at h
 |.map none,s,h=>by grind[ofVal,SV.ok]
 |.map (some _),s,h=>by simp[ofVal]at h
 |.nilFunc,s,h=>by grind[ofVal,SV.ok]
 |.nilIface,s,h=>by grind[ofVal,SV.ok]
 |.agg ⟨cs⟩,s,h=>by
  simp only[ofVal]at h;split at h
  ·rename_i l hl;simp only[Option.some.injEq]at h;subst h;exact adQ F cs l hl
  ·cases h
 |.float _ _,s,h=>by simp[ofVal]at h
 |.complex _ _ _,s,h=>by simp[ofVal]at h
 |.chan _,s,h=>by simp[ofVal]at h
 |.func _ _ _,s,h=>by simp[ofVal]at h
 |.iface _ _,s,h=>by simp[ofVal]at h
 |.tuple _,s,h=>by simp[ofVal]at h
theorem adQ(F:Env):∀(vs:List _)(l:List SV),pg vs=some l->SV.oks F l
 |[],l,h=>by simp_all[pg,SV.oks]
 |v::vs,l,h=>by
  simp only[pg]at h;split at h
  ·rename_i x xs hx hxs;simp only[Option.some.injEq]at h;subst h
   exact⟨Mo F v x hx,adQ F vs xs hxs⟩
  ·cases h
end
omit ht in
theorem i6{t:TypeId}{v:SV}(h:gT tb t=some v)(F:Env):v.ok F:=by
 grind[gT,Mo]
omit ht in
theorem Mz{F:Env}{t:TypeId}{cs:List SV}{n:Nat}{v:SV}(hc:SV.oks F cs)(h:lE tb t cs n=some v):v.ok F:=by
 rw[SV.oks_iff]at hc
 unfold lE at h;split at h
 ·split at h
  ·split at h
   ·rename_i l hl;simp only[Option.some.injEq]at h;subst h
    obtain⟨h1,_⟩:=px _ _ _ hl
    rw[qE]at h1
    show SV.oks F l;grind[SV.oks_iff]
   ·cases h
  ·cases h
 all_goals grind[dr]
omit ht in
theorem qI{F:Env}{ev:Operand->Option SV}(hev:vw F ev):∀(xs:List Operand)(vs:List SV),iK ev xs=some vs->SV.oks F vs
 |[],vs,h=>by simp_all[iK,SV.oks]
 |x::xs,vs,h=>by
  simp only[iK]at h;split at h
  ·rename_i v l hv hl;simp only[Option.some.injEq]at h;subst h
   exact⟨hev _ _ hv,qI hev xs l hl⟩
  ·cases h
omit ht in
theorem KC{F:Env}{ev:Operand->Option SV}(hev:vw F ev):∀(xs:List (Nat×Operand))(vs:List (Nat×SV)),mW ev xs=some vs->∀x∈vs,x.2.ok F
 |[],vs,h=>by simp_all[mW]
 |(i,x)::xs,vs,h=>by
  simp only[mW]at h;split at h
  ·rename_i v l hv hl;simp only[Option.some.injEq]at h;subst h;intro y hy;cases hy with
   |head=>exact hev _ _ hv
   |tail _ hm=>exact KC hev xs l hl y hm
  ·cases h
omit ht in
theorem EL{F:Env}{cs vs r:List SV}{n:Nat}(h1:SV.oks F cs)(h2:SV.oks F vs)(h:nF cs n vs=some r):SV.oks F r:=by
 rw[SV.oks_iff]at *
 obtain⟨rfl,_⟩:=yX _ _ _ _ h
 grind
omit ht in
theorem KV{F:Env}{place:Nat->Option (Nat×Nat)}:∀(parts:List (Nat×SV))(cells r:List SV),lp place cells parts=some r->SV.oks F cells->(∀x∈parts,x.2.ok F)->SV.oks F r
 |[],cells,r,h,hc,_=>by simp_all[lp]
 |(i,v)::bE,cells,r,h,hc,hp=>by
  simp only[lp]at h;split at h
  ·cases h
  ·split at h
   ·split at h
    ·rename_i cs hcs;exact KV _ _ _ h (EL hc (SV.cells_ok (hp (i,v) (by simp))) hcs) (fun x hx=>hp x (by simp[hx]))
    ·cases h
   ·cases h
omit ht in
theorem aD8{F:Env}{t:TypeId}{parts:List (Nat×SV)}{v:SV}(h:xr tb t parts=some v)(hp:∀x∈parts,x.2.ok F):v.ok F:=by
 unfold xr at h;split at h
 ·rename_i z hz;have hz':=SV.cells_ok (i6 hz F);repeat' split at h
  all_goals first | (cases h;done) | skip
  all_goals (rename_i cs hcs;simp only[Option.some.injEq]at h;subst h;exact KV _ _ _ hcs hz' hp)
 ·cases h
omit ht in
theorem aDL{op:BinOp}{t:TypeId}{x y v:SV}(h:jk P tb op t x y=some v)(F:Env):v.ok F:=by
 unfold jk at h;repeat' split at h
 all_goals grind[SV.ok]
omit ht in
theorem aco{mx:Bool}{k:IntKind}{F:Env}:∀(vs:List SV)(a:E)(v:SV),pb mx k vs a=some v->v.ok F
 |[],a,v,h=>by grind[pb,SV.ok]
 |x::vs,a,v,h=>by
  unfold pb at h;split at h
  ·split at h
   ·exact aco vs _ v h
   ·cases h
  ·cases h
omit ht in
theorem aGl{mx:Bool}{vs:List SV}{v:SV}{F:Env}(h:ua mx vs=some v):v.ok F:=by
 unfold ua at h;grind[aco]
omit ht in
theorem Fb{F:Env}{ev:Operand->Option SV}(hwf:vw F ev){o:Op}{v:SV}(h:ru P tb ev o=some v):v.ok F:=by
 rw[ael]at h;unfold EY EX EN E0 EQ ET ES EV EU ER EO EW EZ EP at h
 split at h
 ·exact hwf _ _ h
 ·exact hwf _ _ h
 ·split at h
  ·exact hwf _ _ h
  ·exact hwf _ _ h
  ·cases h
 ·split at h
  ·grind[Option.some.injEq,SV.ok,SV.oks]
  ·rename_i hx;simp only[Option.some.injEq]at h;subst h;exact hwf _ _ hx
  ·rename_i hx;simp only[Option.some.injEq]at h;subst h;exact hwf _ _ hx
  ·cases h
 ·grind[aDL]
 ·split at h
  ·unfold Gf at h;grind[Option.some.injEq,SV.ok]
  ·cases h
 ·split at h
  ·unfold CN at h;grind[Option.some.injEq,SV.ok]
  ·cases h
 ·split at h
  ·rename_i x hx;have hx':=hwf _ _ hx;unfold Dg at h;grind[Option.some.injEq,SV.ok]
  ·cases h
 ·split at h
  ·rename_i x hx;have hx':=hwf _ _ hx;unfold Dh at h;repeat' split at h
   all_goals first | (cases h;done) | exact Mz hx' h
  ·cases h
 ·split at h
  ·unfold oV at h;repeat' split at h
   all_goals grind[Option.some.injEq,SV.ok]
  ·cases h
 ·split at h
  ·rename_i x y hx hy;have hx':=hwf _ _ hx;unfold tE at h;repeat' split at h
   all_goals grind[Mz,Option.some.injEq,SV.ok]
  ·cases h
 ·split at h
  ·rename_i x hx;have hx':=hwf _ _ hx;unfold Da at h;split at h
   ·rw[dr]at h
    exact(SV.oks_iff _).1 hx' v (List.mem_of_getElem? h)
   ·cases h
  ·cases h
 ·split at h
  ·rename_i ps hps;exact aD8 h (KC hwf _ _ hps)
  ·cases h
 ·split at h
  ·rename_i a b ha hb;simp only[Option.some.injEq]at h;subst h
   exact⟨qI hwf _ _ ha,qI hwf _ _ hb⟩
  ·cases h
 ·split at h
  ·unfold Fu at h;repeat' split at h
   all_goals grind[Option.some.injEq,SV.ok]
  ·cases h
 ·repeat' split at h
  all_goals first | (cases h;done) | skip
  ·unfold DV at h;grind[Option.some.injEq,SV.ok]
  ·unfold CF at h;grind[Option.some.injEq,SV.ok]
  all_goals grind[aGl]
 ·cases h
end
end Go.SX

namespace Go.SX
structure Env.Ext (F F':Env):Prop where
 vs:∃l,F'.vs=F.vs++l
 bs:∃l,F'.bs=F.bs++l
 fz:∀r o,F.fz r=some o->F'.fz r=some o
theorem Env.Ext.refl(F:Env):F.Ext F:=⟨⟨[],by simp⟩,⟨[],by simp⟩,fun _ _ h=>h⟩
theorem Env.Ext.trans{a b c:Env}(h:a.Ext b)(k:b.Ext c):a.Ext c:=by
 obtain⟨⟨l,hl⟩,⟨m,hm⟩,hz⟩:=h
 obtain⟨⟨l',hl'⟩,⟨m',hm'⟩,hz'⟩:=k
 exact⟨⟨l++l',by grind⟩,⟨m++m',by grind⟩,fun r o h=>hz' r o (hz r o h)⟩
theorem Env.Ext.blk{F F':Env}(h:F.Ext F'){b:Nat}(hb:b<F.bs.length):F'.blk b=F.blk b:=by
 obtain⟨l,hl⟩:=h.bs
 grind[Env.blk]
theorem Env.Ext.off{F F':Env}(h:F.Ext F'){b:Nat}(hb:b<F.bs.length):F'.off b=F.off b:=by
 obtain⟨l,hl⟩:=h.bs
 grind[Env.off]
theorem Env.Ext.nil{F F':Env}(h:F.Ext F'){b:Nat}(hb:b<F.bs.length):F'.nil b=F.nil b:=by
 obtain⟨l,hl⟩:=h.bs
 grind[Env.nil]
theorem Env.Ext.base{F F':Env}(h:F.Ext F'){b:Nat}(hb:b<F.bs.length):F'.base b=F.base b:=by
 obtain⟨l,hl⟩:=h.bs
 grind[Env.base]
theorem dS{F:Env}{b:Nat}(h:F.nil b=false):F.base b=some ⟨F.blk b,F.off b,none⟩:=by
 grind[Env.base,Bk.base,Env.nil,Bk.nil,Env.blk,Env.off]
theorem cm{a b:Bool}:(Bool.rec false b a:Bool)=(a&&b):=by cases a<;>rfl
theorem E.scoped_den{F F':Env}(h:F.Ext F'):∀(e:E),e.scp F.vs.length=true->e.den F'=e.den F:=by
 intro e;induction e with
 |int n=>intro _;rfl
 |bool b=>intro _;rfl
 |str s=>intro _;rfl
 |var i=>
  intro hs;have hs':Nat.blt i _=true:=hs
  rw[dp]at hs'
  obtain⟨l,hl⟩:=h.vs
  grind[E.den]
 |ar o k a b ia ib=>
  intro hs;have hs':Bool.rec _ (b.scp _) (a.scp _)=true:=hs;simp_all[cm,E.den]
 |cmp o a b ia ib=>
  intro hs;have hs':Bool.rec _ (b.scp _) (a.scp _)=true:=hs;simp_all[cm,E.den]
 |mn a b ia ib=>
  intro hs;have hs':Bool.rec _ (b.scp _) (a.scp _)=true:=hs;simp_all[cm,E.den]
 |mx a b ia ib=>
  intro hs;have hs':Bool.rec _ (b.scp _) (a.scp _)=true:=hs;simp_all[cm,E.den]
 |wr k a ia=>intro hs;have hs':a.scp _=true:=hs;grind[E.den]
 |not a ia=>intro hs;have hs':a.scp _=true:=hs;grind[E.den]
 |and a b ia ib=>
  intro hs;have hs':Bool.rec _ (b.scp _) (a.scp _)=true:=hs;simp_all[cm,E.den]
 |seq a b ia ib=>
  intro hs;have hs':Bool.rec _ (b.scp _) (a.scp _)=true:=hs;simp_all[cm,E.den]
 |imp a b ia ib=>
  intro hs;have hs':Bool.rec _ (b.scp _) (a.scp _)=true:=hs;simp_all[cm,E.den]
 |iff a b ia ib=>
  intro hs;have hs':Bool.rec _ (b.scp _) (a.scp _)=true:=hs;simp_all[cm,E.den]
 |fn f a ia=>intro hs;have hs':a.scp _=true:=hs;grind[E.den]
 |pr a b ia ib=>
  intro hs;have hs':Bool.rec _ (b.scp _) (a.scp _)=true:=hs;simp_all[cm,E.den]
section
variable {F F':Env} (h:F.Ext F')
include h
theorem E.scoped_I{e:E}(hs:e.scp F.vs.length=true):e.I F'=e.I F:=by grind[E.I,E.scoped_den]
theorem E.scoped_B{e:E}(hs:e.scp F.vs.length=true):e.B F'=e.B F:=by grind[E.B,E.scoped_den]
theorem E.scoped_L{e:E}(hs:e.scp F.vs.length=true):e.L F'=e.L F:=by grind[E.L,E.scoped_den]
theorem E.scoped_S{e:E}(hs:e.scp F.vs.length=true):e.S F'=e.S F:=by grind[E.S,E.scoped_den]
omit h in
theorem SV.scopeds_cons(nv nb:Nat)(v:SV)(l:List SV):SV.scps nv nb (v::l)=(v.scp nv nb&&SV.scps nv nb l):=by
 simp_all[SV.scps,cm]
omit h in
theorem SV.scoped_list(nv nb:Nat)(l:List SV):
  (SV.rec_1 (motive_1:=fun _=>Bool) (motive_2:=fun _=>Bool)
  (fun _ e=>e.scp nv) (fun e=>e.scp nv) (fun e=>e.scp nv) true (fun b o=>Bool.rec false (o.idx.scp nv) (Nat.blt b nb))
  true (fun b o l c=>Bool.rec false (Bool.rec false (Bool.rec false (c.scp nv) (l.scp nv)) (o.idx.scp nv)) (Nat.blt b nb))
  (fun b l c=>Bool.rec false (Bool.rec false (c.scp nv) (l.scp nv)) (Nat.blt b nb))
  (fun _ e=>e.scp nv) (fun _ e i _=>Bool.rec false (i.scp nv) (e.scp nv))
  true (fun b=>Nat.blt b nb) true true (fun _ _ _ a b=>Bool.rec false b a) (fun _ a=>a) (fun _ a=>a) true
  (fun b _ e i _=>Bool.rec false (Bool.rec false (i.scp nv) (e.scp nv)) (Nat.blt b nb)) (fun b _ e i _ x _=>Bool.rec false (Bool.rec false (Bool.rec false (x.scp nv) (i.scp nv)) (e.scp nv)) (Nat.blt b nb))
  true (fun _ _ a b=>Bool.rec false b a) l:Bool)=SV.scps nv nb l:=by
 induction l with
 |nil=>rfl
 |cons v l ih=>
  rw[SV.scopeds_cons,<- ih,<- cm]
  rfl
omit h in
theorem SV.scoped_agg(nv nb:Nat)(l:List SV):(SV.agg l).scp nv nb=SV.scps nv nb l:=SV.scoped_list nv nb l
omit h in
theorem SV.scoped_tup(nv nb:Nat)(l:List SV):(SV.tup l).scp nv nb=SV.scps nv nb l:=SV.scoped_list nv nb l
omit h in
theorem SV.scoped_func(nv nb:Nat)(fn:Fn)(a b:List SV):(SV.func fn a b).scp nv nb=(SV.scps nv nb a&&SV.scps nv nb b):=by
 rw[<- cm,<- SV.scoped_list,<- SV.scoped_list]
 rfl
theorem Off.scoped_den{o:Off}(hs:o.idx.scp F.vs.length=true):o.den F'=o.den F:=by
 grind[Off.den,E.scoped_I]
mutual
theorem SV.scoped_den:∀(v:SV),v.scp F.vs.length F.bs.length=true->v.den F'=v.den F
 |.int k e,hs=>by have hs':e.scp _=true:=hs;grind[SV.den,E.scoped_I]
 |.bool e,hs=>by have hs':e.scp _=true:=hs;grind[SV.den,E.scoped_B]
 |.str e,hs=>by have hs':e.scp _=true:=hs;grind[SV.den,E.scoped_S]
 |.nilp,_=>rfl
 |.nils,_=>rfl
 |.nilm,_=>rfl
 |.nili,_=>rfl
 |.nilf,_=>rfl
 |.junk,_=>rfl
 |.ptr b o,hs=>by
  have hs':Bool.rec _ _ _=true:=hs
  rw[cm,Bool.and_eq_true,dp]at hs'
  simp[SV.den,h.blk hs'.1,h.off hs'.1,Off.scoped_den h hs'.2]
 |.slice b o l c,hs=>by
  have hs':Bool.rec _ _ _=true:=hs
  rw[cm,cm,cm,Bool.and_eq_true,Bool.and_eq_true,Bool.and_eq_true,dp]at hs'
  simp[SV.den,h.blk hs'.1,h.off hs'.1,Off.scoped_den h hs'.2.1,E.scoped_I h hs'.2.2.1,E.scoped_I h hs'.2.2.2]
 |.nslice b l c,hs=>by
  have hs':Bool.rec _ _ _=true:=hs
  rw[cm,cm,Bool.and_eq_true,Bool.and_eq_true,dp]at hs'
  simp[SV.den,h.base hs'.1,E.scoped_I h hs'.2.1,E.scoped_I h hs'.2.2]
 |.bsl ks e,hs=>by
  have hs':e.scp _=true:=hs;grind[SV.den,E.scoped_den]
 |.bptr ks e i j,hs=>by
  have hs':Bool.rec _ _ _=true:=hs
  rw[cm,Bool.and_eq_true]at hs'
  grind[SV.den,E.scoped_den,E.scoped_I]
 |.nsl b ks e i c,hs=>by
  have hs':Bool.rec _ _ _=true:=hs
  rw[cm,cm,Bool.and_eq_true,Bool.and_eq_true]at hs'
  grind[SV.den,E.scoped_den]
 |.nptr b ks e i c x j,hs=>by
  have hs':Bool.rec _ _ _=true:=hs
  rw[cm,cm,cm,Bool.and_eq_true,Bool.and_eq_true,Bool.and_eq_true]at hs'
  grind[SV.den,E.scoped_den,E.scoped_I]
 |.map b,hs=>by
  have hs':Nat.blt b _=true:=hs
  rw[dp]at hs'
  simp[SV.den,h.blk hs']
 |.func fn a b,hs=>by
  rw[SV.scoped_func,Bool.and_eq_true]at hs
  simp[SV.den,SV.scopeds_den a hs.1,SV.scopeds_den b hs.2]
 |.agg cs,hs=>by
  rw[SV.scoped_agg]at hs
  simp[SV.den,SV.scopeds_den cs hs]
 |.tup cs,hs=>by
  rw[SV.scoped_tup]at hs
  simp[SV.den,SV.scopeds_den cs hs]
theorem SV.scopeds_den:∀(l:List SV),SV.scps F.vs.length F.bs.length l=true->SV.dens F' l=SV.dens F l
 |[],_=>rfl
 |v::l,hs=>by
  rw[SV.scopeds_cons,Bool.and_eq_true]at hs
  simp[SV.dens,SV.scoped_den v hs.1,SV.scopeds_den l hs.2]
end
end
theorem SlOk.mono{fz fz':Nat->Option Obj}(hz:∀r o,fz r=some o->fz' r=some o){ks:List CK}{u:U}(h:SlOk fz ks u):SlOk fz' ks u:=by
 induction h with
 |nil=>exact .nil
 |empty a=>exact .empty a
 |mk hl hc h1 h2 _ ih=>exact .mk hl hc (fun hne=>hz _ _ (h1 hne)) h2 ih
theorem CK.ok_mono{fz fz':Nat->Option Obj}(hz:∀r o,fz r=some o->fz' r=some o){c:CK}{u:U}(h:c.ok fz u):c.ok fz' u:=by
 cases c with
 |slc ks=>exact SlOk.mono hz h
 |_=>trivial
mutual
theorem SV.ok_ext{F F':Env}(h:F.Ext F'):∀(v:SV),v.scp F.vs.length F.bs.length=true->v.ok F->v.ok F'
 |.int _ _,_,_=>by simp[SV.ok]
 |.bool _,_,_=>by simp[SV.ok]
 |.str _,_,_=>by simp[SV.ok]
 |.nilp,_,_=>by simp[SV.ok]
 |.nils,_,_=>by simp[SV.ok]
 |.nilm,_,_=>by simp[SV.ok]
 |.nili,_,_=>by simp[SV.ok]
 |.nilf,_,_=>by simp[SV.ok]
 |.junk,_,_=>by simp[SV.ok]
 |.ptr _ _,_,_=>by simp[SV.ok]
 |.slice _ _ _ _,_,_=>by simp[SV.ok]
 |.nslice _ _ _,_,_=>by simp[SV.ok]
 |.map _,_,_=>by simp[SV.ok]
 |.bsl ks e,hs,hk=>by
  have hs':=hs;simp only[SV.ok]at hk ⊢
  rw[E.scoped_den h e hs']
  exact hk.mono h.fz
 |.bptr ks e i j,hs,hk=>by
  have hs':Bool.rec _ _ _=true:=hs
  rw[cm,Bool.and_eq_true]at hs'
  simp only[SV.ok]at hk ⊢
  rw[E.scoped_den h e hs'.1,E.scoped_I h hs'.2,E.scoped_L h hs'.1]
  exact⟨hk.1.mono h.fz,hk.2⟩
 |.nsl _ _ _ _ _,_,_=>by simp[SV.ok]
 |.nptr b ks e i c x j,hs,hk=>by
  have hs':Bool.rec _ _ _=true:=hs
  rw[cm,cm,cm,Bool.and_eq_true,Bool.and_eq_true,Bool.and_eq_true]at hs'
  grind[SV.ok,E.scoped_den,E.scoped_I]
 |.func fn a b,hs,hk=>by
  rw[SV.scoped_func,Bool.and_eq_true]at hs
  exact⟨SV.oks_ext h a hs.1 hk.1,SV.oks_ext h b hs.2 hk.2⟩
 |.agg cs,hs,hk=>by
  rw[SV.scoped_agg]at hs
  exact SV.oks_ext h cs hs hk
 |.tup cs,hs,hk=>by
  rw[SV.scoped_tup]at hs
  exact SV.oks_ext h cs hs hk
theorem SV.oks_ext{F F':Env}(h:F.Ext F'):∀(l:List SV),SV.scps F.vs.length F.bs.length l=true->SV.oks F l->SV.oks F' l
 |[],_,_=>trivial
 |v::l,hs,hk=>by
  rw[SV.scopeds_cons,Bool.and_eq_true]at hs
  exact⟨SV.ok_ext h v hs.1 hk.1,SV.oks_ext h l hs.2 hk.2⟩
end
structure Base where
 w0:World
 fr:Nat->Option Obj:=fun _=>none
def fW(B:Base)(F:Env)(r:Nat):Prop:=F.fz r=none/\B.fr r=none
def flatRep(fz:Nat->Option Obj)(ks:List CK)(L:List U)(arr:Array Value):Prop:=
 ∀(i:Nat)(u:U),L[i]?=some u->∃c,ks[i%ks.length]?=some c/\arr[i]?=some (c.val u)/\c.ok fz u
def entRep(F:Env)(entries:Array MapEntry)(es:List Ent):Prop:=
 entries.size=es.length/\∀(i:Nat)(e:MapEntry)(x:Ent),entries[i]?=some e->es[i]?=some x->e.key=x.k.den F/\e.val=x.v.den F/\(e.born:Int)=x.born.I F/\x.k.ok F/\x.v.ok F
def entU(fz:Nat->Option Obj)(k:IntKind)(c:CK)(entries:Array MapEntry)(L:List U):Prop:=
 entries.size=L.length/\∀(i:Nat)(e:MapEntry)(u:U),entries[i]?=some e->L[i]?=some u->e.key=.int k u.fst.toI/\e.val=c.val u.snd/\c.ok fz u.snd
def bornOk(entries:Array MapEntry)(clock:Nat):Prop:=
 (∀(i:Nat)(e:MapEntry),entries[i]?=some e->e.born<clock)/\(∀(i j:Nat)(a b:MapEntry),entries[i]?=some a->entries[j]?=some b->a.born=b.born->i=j)
def nV(entries:Array MapEntry)(seen:Array Nat):Array MapEntry:=entries.filter fun e=>!seen.contains e.born
def iterRep(fz:Nat->Option Obj)(w:World)(r:Nat)(k:IntKind)(c:CK)(L:List U)(left:Int):Prop:=
 ∃(mb:Nat) (entries:Array MapEntry) (clock:Nat) (seen:Array Nat),w.heap[r]?=some (.mapIter (some mb) clock seen clock)/\fz mb=some (.map entries clock)/\
  entU fz k c entries L/\bornOk entries clock/\(L.map fun u=>u.fst.toI).Nodup/\((nV entries seen).size:Int)=left
def iterCur(fz:Nat->Option Obj)(w:World)(r:Nat)(k:IntKind)(c:CK)(L:List U)(x:Int):Prop:=
 ∃(mb:Nat) (entries:Array MapEntry) (clock:Nat) (seen:Array Nat) (i:Nat) (en:MapEntry) (v:U),w.heap[r]?=some (.mapIter (some mb) clock (seen.push en.born) clock)/\fz mb=some (.map entries clock)/\
  bornOk entries clock/\entries[i]?=some en/\cG x L=some v/\en.key=.int k x/\en.val=c.val v/\c.ok fz v
theorem entU.mono{fz fz':Nat->Option Obj}(hz:∀r o,fz r=some o->fz' r=some o){k:IntKind}{c:CK}{en:Array MapEntry}{L:List U}(h:entU fz k c en L):entU fz' k c en L:=
 ⟨h.1,fun i e u he hu=>by
  obtain⟨a1,a2,a3⟩:=h.2 i e u he hu
  grind[CK.ok_mono]⟩
theorem iterRep.mono{fz fz':Nat->Option Obj}(hz:∀r o,fz r=some o->fz' r=some o){w:World}{r:Nat}{k:IntKind}{c:CK}{L:List U}{n:Int}(h:iterRep fz w r k c L n):iterRep fz' w r k c L n:=by
 obtain⟨mb,en,cl,se,h1,h2,h3,h4⟩:=h
 exact⟨mb,en,cl,se,h1,hz _ _ h2,h3.mono hz,h4⟩
theorem iterCur.mono{fz fz':Nat->Option Obj}(hz:∀r o,fz r=some o->fz' r=some o){w:World}{r:Nat}{k:IntKind}{c:CK}{L:List U}{n:Int}(h:iterCur fz w r k c L n):iterCur fz' w r k c L n:=by
 obtain⟨mb,en,cl,se,i,e,v,h1,h2,h3,h4,h5,h6,h7,h8⟩:=h
 exact⟨mb,en,cl,se,i,e,v,h1,hz _ _ h2,h3,h4,h5,h6,h7,CK.ok_mono hz h8⟩
theorem iterRep.world{fz:Nat->Option Obj}{w w':World}{r:Nat}{k:IntKind}{c:CK}{L:List U}{n:Int}(h:iterRep fz w r k c L n)(hw:w'.heap[r]?=w.heap[r]?):iterRep fz w' r k c L n:=by
 obtain⟨mb,en,cl,se,h1,h2⟩:=h
 exact⟨mb,en,cl,se,by grind,h2⟩
theorem iterCur.world{fz:Nat->Option Obj}{w w':World}{r:Nat}{k:IntKind}{c:CK}{L:List U}{n:Int}(h:iterCur fz w r k c L n)(hw:w'.heap[r]?=w.heap[r]?):iterCur fz w' r k c L n:=by
 obtain⟨mb,en,cl,se,i,e,v,h1,h2⟩:=h
 exact⟨mb,en,cl,se,i,e,v,by grind,h2⟩
def gk:U->Option Nat
 |.bx (some a) _ (_+1) _=>some a.block
 |_=>none
def rowN(fz:Nat->Option Obj)(w:World)(ks:List CK):U->Prop
 |.bx none n c l=>n=0/\c=0/\l=[]
 |.bx (some _) n 0 l=>n=0/\l=[]
 |.bx (some a) n (c+1) l=>a=⟨a.block,0,none⟩/\l.length=n*ks.length/\n<=c+1/\∃(arr:Array Value) (el:TypeId),w.heap[a.block]?=some (.cells arr el (0,0))/\arr.size=(c+1)*ks.length/\flatRep fz ks l arr
 |_=>False
def ZG(fz:Nat->Option Obj)(w:World)(own:Prop):CK->U->Prop
 |.slc ks,u=>(own->rowN fz w ks u)/\(¬own->(CK.slc ks).ok fz u)
 |_,_=>True
def nestRep(fz:Nat->Option Obj)(w:World)(ks:List CK)(o:Int)(L:List U)(arr:Array Value):Prop:=
 ∀(i:Nat)(u:U),L[i]?=some u->∃c,ks[i%ks.length]?=some c/\arr[i]?=some (c.val u)/\ZG fz w ((i:Int)<o) c u
def fv(ks:List CK)(o:Int)(L:List U)(i r:Nat):Prop:=∃(u:U) (ks':List CK),L[i]?=some u/\ks[i%ks.length]?=some (.slc ks')/\gk u=some r/\(i:Int)<o
def SObj.inner(F:Env):SObj->Nat->Prop
 |.nest ks l _ _ _ own,r=>∃i,fv ks (own.I F*ks.length) (l.L F) i r
 |_,_=>False
def blkRep(F:Env)(w:World)(r off:Nat)(nil:Bool):SObj->Prop
 |.gone=>True
 |.cells cs ag elem=>nil=false/\off=0/\SV.oks F cs/\∃arr:Array Value,w.heap[r]?=some (.cells arr elem (0,0))/\arr.size=(ag.I F).toNat/\∀(j:Nat)(v:SV),cs[j]?=some v->arr[j]?=some (v.den F)
 | .flat ks l n ag elem=>0<ks.length/\((l.L F).length:Int)=n.I F*ks.length/\n.I F<=ag.I F/\0<=n.I F/\
   (0<ag.I F->nil=false/\off=0/\∃arr:Array Value,w.heap[r]?=some (.cells arr elem (0,0))/\flatRep F.fz ks (l.L F) arr/\(arr.size:Int)=ag.I F*ks.length)
 | .map es clk=>∃(entries:Array MapEntry) (clock:Nat),w.heap[r]?=some (.map entries clock)/\(clock:Int)=clk.I F/\entRep F entries es/\
   (∀(i:Nat)(e:MapEntry),entries[i]?=some e->e.born<clock)/\(∀(i j:Nat)(a b:MapEntry),entries[i]?=some a->entries[j]?=some b->a.born=b.born->i=j)
 |.mapl k c e=>∃(entries:Array MapEntry) (clock:Nat),w.heap[r]?=some (.map entries clock)/\entU F.fz k c entries (e.L F)/\bornOk entries clock
 | .maplp k c e ke s=>∃(entries:Array MapEntry) (clock:Nat),w.heap[r]?=some (.map entries clock)/\entU F.fz k c entries (e.L F)/\bornOk entries clock/\
   ∃(j:Nat) (en:MapEntry),entries[j]?=some en/\en.key=.int k (ke.I F)/\(en.born:Int)=s.I F/\∀v,cC (ke.I F) v (e.L F)=(e.L F).set j (.lst [.int (ke.I F),v])
 |.iter k c e n u=>off=0/\iterRep F.fz w r k c (e.L F) (n.I F)/\∀x,u=some x->iterCur F.fz w r k c (e.L F) (x.I F)
 | .nest ks l n ag elem own=>0<ks.length/\((l.L F).length:Int)=n.I F*ks.length/\n.I F<=ag.I F/\0<=n.I F/\(∀i j x,fv ks (own.I F*ks.length) (l.L F) i x->fv ks (own.I F*ks.length) (l.L F) j x->i=j)/\
   (0<ag.I F->nil=false/\off=0/\∃arr:Array Value,w.heap[r]?=some (.cells arr elem (0,0))/\nestRep F.fz w ks (own.I F*ks.length) (l.L F) arr/\(arr.size:Int)=ag.I F*ks.length)
def SObj.real(F:Env):SObj->Prop
 |.gone=>False
 |.flat _ _ _ ag _=>0<ag.I F
 |.nest _ _ _ ag _ _=>0<ag.I F
 |_=>True
def Inn(B:Base)(F:Env)(h:T Blk):Prop:=
 ∀(i:Nat)(b:Blk),h.get i=some b->∀r,b.obj.inner F r->fW B F r/\∀(j:Nat)(b':Blk),h.get j=some b'->(b'.obj.real F->F.blk j≠r)/\(j≠i->¬b'.obj.inner F r)
def i7(F:Env)(h:T Blk)(r:Nat):Prop:=∃(j:Nat) (b:Blk),h.get j=some b/\b.obj.inner F r
theorem Inn.next{B:Base}{F F':Env}{h h':T Blk}(hi:Inn B F h)
  (hold:∀(i:Nat)(b:Blk),h'.get i=some b->(∃b0:Blk,h.get i=some b0/\(b.obj.real F'->b0.obj.real F)/\F'.blk i=F.blk i/\∀r,b.obj.inner F' r->b0.obj.inner F r)\/((∀r,¬b.obj.inner F' r)/\(b.obj.real F'->∀r,i7 F h r->F'.blk i≠r)))
  (hf:∀r,i7 F h r->fW B F r->fW B F' r):Inn B F' h':=by
 intro i b hb r hr;rcases hold i b hb with⟨b0,k1,k2,k3,k4⟩|⟨k1,_⟩
 ·obtain⟨f1,f2⟩:=hi i b0 k1 r (k4 r hr)
  grind[i7]
 grind
structure RepW (B:Base) (F:Env) (st:St) (w:World):Prop where
 nv:F.vs.length=st.nv
 nb:F.bs.length=st.nb
 pc:∀e∈st.pc,e.B F=true
 blk:∀i b,st.heap.get i=some b->i<st.nb/\blkRep F w (F.blk i) (F.off i) (F.nil i) b.obj/\(b.obj.real F->(b.own=true↔fW B F (F.blk i)))
 inj:∀i j a b,st.heap.get i=some a->st.heap.get j=some b->a.obj.real F->b.obj.real F->a.own=true->b.own=true->i≠j->F.blk i≠F.blk j
 inn:Inn B F st.heap
 fz:∀r o,F.fz r=some o->w.heap[r]?=some o
 fr:∀r o,B.fr r=some o->w.heap[r]?=some o
 dj:∀r o,B.fr r=some o->F.fz r=none
 os:w.os=B.w0.os
 tape:w.tape=B.w0.tape
 output:w.output=B.w0.output
theorem RepW.free_ge{B:Base}{F:Env}{st:St}{w:World}(h:RepW B F st w){r:Nat}(hr:w.heap.size<=r):fW B F r:=by
 constructor
 ·cases hq:F.fz r with
  |none=>rfl
  |some o=>have:=(Array.getElem?_eq_some_iff.1 (h.fz r o hq)).1;omega
 ·cases hq:B.fr r with
  |none=>rfl
  |some o=>have:=(Array.getElem?_eq_some_iff.1 (h.fr r o hq)).1;omega
theorem RepW.apart{B:Base}{F:Env}{st:St}{w:World}(h:RepW B F st w){i j:Nat}{a b:Blk}(ha:st.heap.get i=some a)(hb:st.heap.get j=some b)(la:a.obj.real F)(lb:b.obj.real F)
  (ho:a.own=true\/b.own=true)(hij:i≠j):F.blk i≠F.blk j:=by
 have h1:=(h.blk i a ha).2.2 la;have h2:=(h.blk j b hb).2.2 lb;cases oa:a.own with
 |true=>
  cases ob:b.own with
  |true=>exact h.inj i j a b ha hb la lb oa ob hij
  |false=>
   grind
 |false=>
  grind
def TmRep(F:Env)(t:Tm)(a:Act):Prop:=a.defers=[]/\(∀i,t.get i=none->a.tmps[i]?=none)/\∀i v,t.get i=some v->∃x,a.tmps[i]?=some x/\(v=.junk\/(x=v.den F/\v.ok F))
theorem TmRep.at{F:Env}{t:Tm}{a:Act}(h:TmRep F t a){i:Nat}{v:SV}(hv:t.get i=some v)(hj:v≠.junk):a.tmps[i]?=some (v.den F):=by
 obtain⟨x,h1,h2⟩:=h.2.2 i v hv
 grind
theorem TmRep.ok{F:Env}{t:Tm}{a:Act}(h:TmRep F t a){i:Nat}{v:SV}(hv:t.get i=some v):v.ok F:=by
 obtain⟨x,h1,h2⟩:=h.2.2 i v hv
 grind[SV.ok]
theorem gu(F:Env):SV.undef.ok F:=by simp[SV.undef,SV.ok,SV.oks]
theorem TmRep.eval{F:Env}{t:Tm}{a:Act}(h:TmRep F t a):GQ F (bz t) a.eval:=by
 intro x v hx;cases x with
 |tmp i=>
  simp only[aaB]at hx;simp only[Act.eval];split at hx
  ·rename_i y hy;split at hx
   ·grind
   ·rename_i hj;simp only[Option.some.injEq]at hx;subst hx;simp[h.at hy hj]
  ·rename_i hy;simp only[Option.some.injEq]at hx;subst hx;simp[h.2.1 i hy,SV.undef_den]
 |const c=>exact(EG F _ _ hx).symm
 |global g=>grind[aaA]
 |func f=>
  grind[aaz,Act.eval,SV.den,SV.dens]
theorem TmRep.wf{F:Env}{t:Tm}{a:Act}(h:TmRep F t a):vw F (bz t):=by
 intro x v hx;cases x with
 |tmp i=>
  simp only[aaB]at hx;split at hx
  ·rename_i y hy;split at hx
   ·grind
   ·simp only[Option.some.injEq]at hx;subst hx;exact h.ok hy
  grind[gu]
 |const c=>exact Mo F _ _ hx
 |global g=>grind[aaA]
 |func f=>
  grind[aaz,SV.ok,SV.oks]
theorem TmRep.put{F:Env}{t:Tm}{a:Act}(h:TmRep F t a)(d:Option Tmp)(v:SV)(hv:v.ok F):
  TmRep F (match d with | none=>t | some d=>t.set d v) (a.put d (v.den F)):=by
 cases d with
 |none=>exact h
 |some d=>
  refine⟨h.1,fun i hi=>?_,fun i x hx=>?_⟩
  ·simp only[T.get_set]at hi;simp only[Act.put];have hn:t.get i=none:=by
    by_cases e:i=d
    all_goals simp_all
   have h1:=h.2.1 i hn;grind
  ·simp only[T.get_set]at hx;simp only[Act.put,Array.getElem?_setIfInBounds];by_cases e:i=d
   ·cases ht:t.get i with
    |none=>grind
    |some y=>
     obtain⟨z,h1,_⟩:=h.2.2 i y ht
     grind
   ·rw[if_neg e]at hx
    rw[if_neg (fun e'=>e e'.symm)]
    exact h.2.2 i x hx
theorem iW{O:Type}(t:Tm)(d:Option Tmp)(v:SV)(k:Tm->O):dW t d v k=k (match d with | none=>t | some d=>t.set d v):=by
 cases d with
 |none=>rfl
 |some d=>exact T.setK_eq _ _ _ _
theorem TmRep.ext{F F':Env}{t:Tm}{a:Act}(h:TmRep F t a)(he:F.Ext F')(hs:i3 F.vs.length F.bs.length t=true):TmRep F' t a:=by
 refine⟨h.1,h.2.1,fun i v hv=>?_⟩
 obtain⟨x,h1,h2⟩:=h.2.2 i v hv
 have hsv:=T.all_get t hs i v hv;grind[SV.scoped_den,SV.ok_ext]
theorem Eh{nv:Nat}:∀(l:List E),E2 nv l=true->∀e∈l,e.scp nv=true
 |[],_,e,he=>by grind
 |x::l,h,e,he=>by
  simp only[E2,Bool.and_eq_true]at h;cases he with
  |head=>grind
  |tail _ hm=>exact Eh l h.2 e hm
theorem yN{nv nb:Nat}:∀(l:List SV),SV.scps nv nb l=true->∀v∈l,v.scp nv nb=true
 |[],_,e,he=>by grind
 |x::l,h,e,he=>by
  rw[SV.scopeds_cons,Bool.and_eq_true]at h
  cases he with
  |head=>grind
  |tail _ hm=>exact yN l h.2 e hm
theorem yM{nv nb:Nat}:∀(l:List Ent),y4 nv nb l=true->∀x∈l,x.k.scp nv nb=true/\x.v.scp nv nb=true/\x.born.scp nv=true
 |[],_,e,he=>by grind
 |x::l,h,e,he=>by
  simp only[y4,Bool.and_eq_true]at h;cases he with
  |head=>grind
  |tail _ hm=>exact yM l h.2.2.2 e hm
theorem entRep.ext{F F':Env}{entries:Array MapEntry}{es:List Ent}(h:entRep F entries es)(he:F.Ext F')(hs:y4 F.vs.length F.bs.length es=true):entRep F' entries es:=by
 refine⟨h.1,fun i e x h1 h2=>?_⟩
 obtain⟨k1,k2,k3,k4,k5⟩:=h.2 i e x h1 h2
 grind[yM,SV.scoped_den,E.scoped_I,SV.ok_ext]
theorem flatRep.mono{fz fz':Nat->Option Obj}(hz:∀r o,fz r=some o->fz' r=some o){ks:List CK}{L:List U}{arr:Array Value}(h:flatRep fz ks L arr):flatRep fz' ks L arr:=
 fun i u hu=>by
  obtain⟨c,h1,h2,h3⟩:=h i u hu
  grind[CK.ok_mono]
theorem rowN.mono{fz fz':Nat->Option Obj}(hz:∀r o,fz r=some o->fz' r=some o){w:World}{ks:List CK}:∀ {u:U},rowN fz w ks u->rowN fz' w ks u
 |.bx none _ _ _,h=>h
 |.bx (some _) _ 0 _,h=>h
 |.bx (some _) _ (_+1) _,h=>by
  obtain⟨h1,h2,h3,arr,el,h4,h5,h6⟩:=h
  exact⟨h1,h2,h3,arr,el,h4,h5,h6.mono hz⟩
 |.int _,h=>h.elim
 |.bool _,h=>h.elim
 |.str _,h=>h.elim
 |.lst _,h=>h.elim
theorem rowN.world{fz:Nat->Option Obj}{w w':World}{ks:List CK}:∀ {u:U},rowN fz w ks u->(∀r,gk u=some r->w'.heap[r]?=w.heap[r]?)->rowN fz w' ks u
 |.bx none _ _ _,h,_=>h
 |.bx (some _) _ 0 _,h,_=>h
 |.bx (some a) _ (_+1) _,h,hw=>by
  obtain⟨h1,h2,h3,arr,el,h4,h5,h6⟩:=h
  exact⟨h1,h2,h3,arr,el,by rw[hw _ rfl];omega,h5,h6⟩
 |.int _,h,_=>h.elim
 |.bool _,h,_=>h.elim
 |.str _,h,_=>h.elim
 |.lst _,h,_=>h.elim
theorem rowN.lt{fz:Nat->Option Obj}{w:World}{ks:List CK}:∀ {u:U},rowN fz w ks u->∀ {r:Nat},gk u=some r->r<w.heap.size
 |.bx (some a) _ (_+1) _,h,r,hr=>by
  obtain⟨h1,h2,h3,arr,el,h4,h5,h6⟩:=h
  grind[gk]
 |.bx none _ _ _,h,_,hr=>by grind[gk]
 |.bx _ _ 0 _,h,_,hr=>by simp[gk]at hr
 |.int _,h,_,_=>h.elim
 |.bool _,h,_,_=>h.elim
 |.str _,h,_,_=>h.elim
 |.lst _,h,_,_=>h.elim
theorem nestRep.mono{fz fz':Nat->Option Obj}(hz:∀r o,fz r=some o->fz' r=some o){w:World}{ks:List CK}{o:Int}{L:List U}{arr:Array Value}(h:nestRep fz w ks o L arr):nestRep fz' w ks o L arr:=
 fun i u hu=>by
  obtain⟨c,h1,h2,h3⟩:=h i u hu
  refine⟨c,h1,h2,?_⟩
  cases c with
  |slc ks'=>exact⟨fun ho=>rowN.mono hz (h3.1 ho),fun ho=>CK.ok_mono hz (h3.2 ho)⟩
  |_=>trivial
theorem nestRep.world{fz:Nat->Option Obj}{w w':World}{ks:List CK}{o:Int}{L:List U}{arr:Array Value}(h:nestRep fz w ks o L arr)(hw:∀i r,fv ks o L i r->w'.heap[r]?=w.heap[r]?):nestRep fz w' ks o L arr:=
 fun i u hu=>by
  obtain⟨c,h1,h2,h3⟩:=h i u hu
  refine⟨c,h1,h2,?_⟩
  cases c with
  |slc ks'=>exact⟨fun ho=>rowN.world (h3.1 ho) fun r hr=>hw i r ⟨u,ks',hu,h1,hr,ho⟩,h3.2⟩
  |_=>trivial
theorem blkRep.ext{F F':Env}{w:World}{r off:Nat}{nil:Bool}{o:SObj}(h:blkRep F w r off nil o)(he:F.Ext F')(hs:o.scp F.vs.length F.bs.length=true):blkRep F' w r off nil o:=by
 cases o with
 |gone=>trivial
 |cells cs ag elem=>
  simp only[SObj.scp,Bool.and_eq_true]at hs
  obtain⟨hn,h0,hk,arr,h1,h2,h3⟩:=h
  refine⟨hn,h0,SV.oks_ext he cs hs.2 hk,arr,h1,by grind[E.scoped_I],fun j v hv=>?_⟩
  grind[SV.scoped_den,yN]
 |flat ks l n ag elem=>
  simp only[SObj.scp,Bool.and_eq_true]at hs
  obtain⟨h1,h2,h3,h4,h5⟩:=h
  simp only[blkRep]
  rw[E.scoped_L he hs.1,E.scoped_I he hs.2.1,E.scoped_I he hs.2.2]
  refine⟨h1,h2,h3,h4,fun h6=>?_⟩
  obtain⟨k1,k2,arr,k3,k4,k5⟩:=h5 h6
  exact⟨k1,k2,arr,k3,k4.mono he.fz,k5⟩
 |map es clk=>
  simp only[SObj.scp,Bool.and_eq_true]at hs
  obtain⟨entries,clock,h1,h2,h3,h4⟩:=h
  exact⟨entries,clock,h1,by grind[E.scoped_I],h3.ext he hs.1,h4⟩
 |mapl k c e=>
  obtain⟨entries,clock,h1,h2,h3⟩:=h
  refine⟨entries,clock,h1,?_,h3⟩
  rw[E.scoped_L he hs]
  exact⟨h2.1,fun i e u he' hu=>by
   obtain⟨a1,a2,a3⟩:=h2.2 i e u he' hu
   exact⟨a1,a2,CK.ok_mono he.fz a3⟩⟩
 |maplp k c e ke s=>
  simp only[SObj.scp,Bool.and_eq_true]at hs
  obtain⟨entries,clock,h1,h2,h3,j,en,h4,h5,h6,h7⟩:=h
  refine⟨entries,clock,h1,?_,h3,j,en,h4,by grind[E.scoped_I],by grind[E.scoped_I],by grind[E.scoped_I,E.scoped_L]⟩
  rw[E.scoped_L he hs.1]
  exact⟨h2.1,fun i e u he' hu=>by
   obtain⟨a1,a2,a3⟩:=h2.2 i e u he' hu
   exact⟨a1,a2,CK.ok_mono he.fz a3⟩⟩
 |iter k c e n u=>
  simp only[SObj.scp,Bool.and_eq_true]at hs
  obtain⟨h0,h1,h2⟩:=h
  refine⟨h0,by rw[E.scoped_L he hs.1,E.scoped_I he hs.2.1];exact h1.mono he.fz,fun x hx=>?_⟩
  subst hx
  rw[E.scoped_L he hs.1,E.scoped_I he hs.2.2]
  exact(h2 x rfl).mono he.fz
 |nest ks l n ag elem own=>
  simp only[SObj.scp,Bool.and_eq_true]at hs
  obtain⟨h1,h2,h3,h4,h7,h5⟩:=h
  simp only[blkRep]
  rw[E.scoped_L he hs.1,E.scoped_I he hs.2.1,E.scoped_I he hs.2.2.1,E.scoped_I he hs.2.2.2]
  refine⟨h1,h2,h3,h4,h7,fun h6=>?_⟩
  obtain⟨k1,k2,arr,k3,k4,k5⟩:=h5 h6
  exact⟨k1,k2,arr,k3,k4.mono he.fz,k5⟩
theorem SObj.inner_ext{F F':Env}(he:F.Ext F'){o:SObj}(hs:o.scp F.vs.length F.bs.length=true){r:Nat}:o.inner F' r↔o.inner F r:=by
 cases o with
 |nest ks l n ag elem own=>
  simp only[SObj.scp,Bool.and_eq_true]at hs
  show(∃i,fv ks (own.I F'*ks.length) _ i r)↔(∃i,fv ks (own.I F*ks.length) _ i r)
  rw[E.scoped_L he hs.1,E.scoped_I he hs.2.2.2]
 |_=>rfl
theorem SObj.real_ext{F F':Env}(he:F.Ext F'){o:SObj}(hs:o.scp F.vs.length F.bs.length=true):o.real F'↔o.real F:=by
 cases o with
 |flat ks l n ag elem=>
  simp only[SObj.scp]at hs;show 0<ag.I _↔0<ag.I F;grind[E.scoped_I]
 |nest ks l n ag elem own=>
  simp only[SObj.scp]at hs;show 0<ag.I _↔0<ag.I F;grind[E.scoped_I]
 |_=>rfl
theorem blkRep.world{F:Env}{w w':World}{r off:Nat}{nil:Bool}{o:SObj}(h:blkRep F w r off nil o)(hw:o.real F->w'.heap[r]?=w.heap[r]?)(hi:∀x,o.inner F x->w'.heap[x]?=w.heap[x]?):blkRep F w' r off nil o:=by
 cases o with
 |gone=>trivial
 |cells cs ag elem=>
  obtain⟨hn,h0,hk,arr,h1,h2⟩:=h
  exact⟨hn,h0,hk,arr,by rw[hw trivial];omega,h2⟩
 |flat ks l n ag elem=>
  obtain⟨h1,h2,h3,h4,h5⟩:=h
  refine⟨h1,h2,h3,h4,fun h6=>?_⟩
  obtain⟨k1,k2,arr,k3,k4⟩:=h5 h6
  exact⟨k1,k2,arr,by rw[hw h6];omega,k4⟩
 |map es clk=>
  obtain⟨entries,clock,h1,h2⟩:=h
  exact⟨entries,clock,by rw[hw trivial];omega,h2⟩
 |mapl k c e=>
  obtain⟨entries,clock,h1,h2⟩:=h
  exact⟨entries,clock,by rw[hw trivial];omega,h2⟩
 |maplp k c e ke s=>
  obtain⟨entries,clock,h1,h2⟩:=h
  exact⟨entries,clock,by rw[hw trivial];omega,h2⟩
 |iter k c e n u=>exact⟨h.1,h.2.1.world (hw trivial),fun x hx=>(h.2.2 x hx).world (hw trivial)⟩
 |nest ks l n ag elem own=>
  obtain⟨h1,h2,h3,h4,h7,h5⟩:=h
  refine⟨h1,h2,h3,h4,h7,fun h6=>?_⟩
  obtain⟨k1,k2,arr,k3,k4,k5⟩:=h5 h6
  exact⟨k1,k2,arr,by rw[hw h6];omega,k4.world fun i x hx=>hi x ⟨i,hx⟩,k5⟩
theorem blkRep.inner_lt{F:Env}{w:World}{r off:Nat}{nil:Bool}{o:SObj}(h:blkRep F w r off nil o){x:Nat}(hx:o.inner F x):x<w.heap.size:=by
 cases o with
 |nest ks l n ag elem own=>
  obtain⟨h1,h2,h3,h4,h7,h5⟩:=h
  obtain⟨i,u,ks',g1,g2,g3,g4⟩:=hx
  have hn:0<n.I F:=by
   grind
  obtain⟨k1,k2,arr,k3,k4,k5⟩:=h5 (by omega)
  obtain⟨c,e1,e2,e3⟩:=k4 i u g1
  rw[g2]at e1
  simp only[Option.some.injEq]at e1;subst e1;exact rowN.lt (e3.1 g4) g3
 |_=>exact hx.elim
theorem blkRep.lt{F:Env}{w:World}{r off:Nat}{nil:Bool}{o:SObj}(h:blkRep F w r off nil o)(hl:o.real F):r<w.heap.size:=by
 cases o with
 |gone=>cases hl
 |cells cs ag elem=>obtain⟨_,_,_,arr,h1,_⟩:=h;grind
 |flat ks l n ag elem=>obtain⟨_,_,_,_,h5⟩:=h;obtain⟨_,_,arr,k3,_⟩:=h5 hl;grind
 |map es clk=>obtain⟨entries,clock,h1,_⟩:=h;grind
 |mapl k c e=>obtain⟨entries,clock,h1,_⟩:=h;grind
 |maplp k c e ke s=>obtain⟨entries,clock,h1,_⟩:=h;grind
 |iter k c e n u=>obtain⟨_,⟨mb,en,cl,se,h1,_⟩,_⟩:=h;grind
 |nest ks l n ag elem=>obtain⟨_,_,_,_,_,h5⟩:=h;obtain⟨_,_,arr,k3,_⟩:=h5 hl;grind
theorem RepW.held_lt{B:Base}{F:Env}{st:St}{w:World}(h:RepW B F st w){r:Nat}(hr:i7 F st.heap r):r<w.heap.size:=by
 obtain⟨j,b,hb,hx⟩:=hr
 exact blkRep.inner_lt (h.blk j b hb).2.1 hx
def Env.more(F:Env)(us:List U):Env:=⟨F.vs++us,F.bs,F.fz⟩
theorem Env.more_ext(F:Env)(us:List U):F.Ext (F.more us):=⟨⟨us,rfl⟩,⟨[],by simp[Env.more]⟩,fun _ _ h=>h⟩
theorem RepW.ext_pc{B:Base}{F F':Env}{st:St}{w:World}(h:RepW B F st w)(hs:st.scp=true)(he:F.Ext F'):∀e∈st.pc,e.B F'=true:=by
 simp only[St.scp,Bool.and_eq_true]at hs;intro e hm
 have:=Eh _ hs.1 e hm
 rw[<- h.nv]at this
 rw[E.scoped_B he this];exact h.pc e hm
theorem RepW.blk_scp{B:Base}{F:Env}{st:St}{w:World}(h:RepW B F st w)(hs:st.scp=true){i:Nat}{b:Blk}(hb:st.heap.get i=some b):b.obj.scp F.vs.length F.bs.length=true:=by
 simp only[St.scp,Bool.and_eq_true]at hs;have hsc:=T.all_get _ hs.2 i b hb
 rw[h.nv,h.nb];exact hsc
theorem RepW.more{B:Base}{F:Env}{st:St}{w:World}(h:RepW B F st w)(hs:st.scp=true)(us:List U)(pc:List E)(hpc:∀e∈pc,e.B (F.more us)=true):
  RepW B (F.more us) {st with nv:=st.nv+us.length,pc:=pc++st.pc} w:=by
 have he:=F.more_ext us
 refine⟨by simp[Env.more,h.nv],h.nb,?_,?_,?_,h.inn.next (fun i b hb=>.inl ⟨b,hb,(SObj.real_ext he (h.blk_scp hs hb)).1,rfl,fun r=>(SObj.inner_ext he (h.blk_scp hs hb)).1⟩) (fun _ _ hf=>hf),h.fz,h.fr,h.dj,h.os,h.tape,h.output⟩
 ·intro e hm;rcases List.mem_append.1 hm with hm|hm
  ·grind
  ·exact h.ext_pc hs he e hm
 ·intro i b hb
  obtain⟨h1,h2,h3⟩:=h.blk i b hb
  have hsc:=h.blk_scp hs hb
  exact⟨h1,h2.ext he hsc,fun hl=>h3 ((SObj.real_ext he hsc).1 hl)⟩
 ·intro i j a b ha hb la lb oa ob hij;exact h.inj i j a b ha hb ((SObj.real_ext he (h.blk_scp hs ha)).1 la) ((SObj.real_ext he (h.blk_scp hs hb)).1 lb) oa ob hij
def Env.push(F:Env)(k:Bk):Env:=⟨F.vs,F.bs++[k],F.fz⟩
theorem Env.push_ext(F:Env)(k:Bk):F.Ext (F.push k):=⟨⟨[],by simp[Env.push]⟩,⟨[k],rfl⟩,fun _ _ h=>h⟩
theorem Env.push_blk{F:Env}{k:Bk}{n:Nat}(h:F.bs.length=n):(F.push k).blk n=k.blk/\(F.push k).off n=k.off/\(F.push k).nil n=k.nil:=by
 grind[Env.push,Env.blk,Env.off,Env.nil]
theorem RepW.alloc{B:Base}{F:Env}{st:St}{w:World}(h:RepW B F st w)(hs:st.scp=true){obj:SObj}{o:Obj}
  (hrep:∀w':World,w'.heap=w.heap.push o->blkRep (F.push ⟨w.heap.size,0,none⟩) w' w.heap.size 0 false obj)
  (hin:∀r,¬obj.inner (F.push ⟨w.heap.size,0,none⟩) r:=by intro r h;exact h):
  RepW B (F.push ⟨w.heap.size,0,none⟩) {st with nb:=st.nb+1,heap:=st.heap.ins st.nb ⟨true,obj⟩} {w with heap:=w.heap.push o}:=by
 have hext:=F.push_ext ⟨w.heap.size,0,none⟩
 obtain⟨hnew,hnewo,hnewn⟩:=Env.push_blk (k:=⟨w.heap.size,0,none⟩) h.nb
 have hlive:=fun i b hb hl=>(h.blk i b hb).2.1.lt hl
 have hfz:=fun r o ho=>(Array.getElem?_eq_some_iff.1 (h.fz r o ho)).1
 have hheld:∀r,i7 F _ r->r<w.heap.size:=fun r ⟨j,b,hb,hx⟩=>(h.blk j b hb).2.1.inner_lt hx
 have hinn:Inn B (F.push ⟨w.heap.size,0,none⟩) (st.heap.ins st.nb ⟨true,obj⟩):=by
  refine h.inn.next (fun i b hb=>?_) (fun _ _ hf=>hf);by_cases hi:i=st.nb
  ·grind[T.get_ins_self]
  ·rw[T.get_ins_ne _ _ _ _ hi]at hb
   have hlt:i<F.bs.length:=by rw[h.nb];exact(h.blk i b hb).1
   exact .inl ⟨b,hb,(SObj.real_ext hext (h.blk_scp hs hb)).1,hext.blk hlt,fun r=>(SObj.inner_ext hext (h.blk_scp hs hb)).1⟩
 refine⟨h.nv,by simp[Env.push,h.nb],h.ext_pc hs hext,?_,?_,hinn,?_,?_,h.dj,h.os,h.tape,h.output⟩
 ·intro i b hb;by_cases hi:i=st.nb
  ·subst hi
   have:=T.get_ins_self _ _ _ _ hb
   subst this
   refine⟨Nat.lt_succ_self _,?_,fun _=>⟨fun _=>?_,fun _=>rfl⟩⟩
   ·rw[hnew,hnewo,hnewn];exact hrep _ rfl
   ·rw[hnew]
    exact h.free_ge (Nat.le_refl _)
  ·rw[T.get_ins_ne _ _ _ _ hi]at hb
   obtain⟨h1,h2,h3⟩:=h.blk i b hb
   have hlt:i<F.bs.length:=by rw[h.nb];omega
   have hsc:=h.blk_scp hs hb
   refine⟨Nat.lt_succ_of_lt h1,?_,fun ho=>by rw[hext.blk hlt];exact h3 ((SObj.real_ext hext hsc).1 ho)⟩
   rw[hext.blk hlt,hext.off hlt,hext.nil hlt]
   refine(h2.ext hext hsc).world (fun hl=>?_) (fun x hx=>?_)
   ·grind[SObj.real_ext]
   ·have:=hheld x ⟨i,b,hb,(SObj.inner_ext hext hsc).1 hx⟩
    grind
 ·intro i j a b ha hb la lb oa ob hij;by_cases hi:i=st.nb
  ·subst hi;have hj:j≠st.nb:=fun e=>hij e.symm
   rw[T.get_ins_ne _ _ _ _ hj]at hb
   have h1:=hlive j b hb ((SObj.real_ext hext (h.blk_scp hs hb)).1 lb);have hlt:j<F.bs.length:=by rw[h.nb];exact(h.blk j b hb).1
   rw[hnew,hext.blk hlt];grind
  ·rw[T.get_ins_ne _ _ _ _ hi]at ha
   have hlti:i<F.bs.length:=by rw[h.nb];exact(h.blk i a ha).1
   have la':=(SObj.real_ext hext (h.blk_scp hs ha)).1 la;by_cases hj:j=st.nb
   ·subst hj
    rw[hnew,hext.blk hlti];grind
   ·rw[T.get_ins_ne _ _ _ _ hj]at hb
    have hltj:j<F.bs.length:=by rw[h.nb];exact(h.blk j b hb).1
    rw[hext.blk hlti,hext.blk hltj]
    exact h.inj i j a b ha hb la' ((SObj.real_ext hext (h.blk_scp hs hb)).1 lb) oa ob hij
 ·intro r o' ho;have h1:=hfz r o' ho
  rw[Array.getElem?_push,if_neg (by omega)]
  exact h.fz r o' ho
 ·intro r o' ho;have h1:=(Array.getElem?_eq_some_iff.1 (h.fr r o' ho)).1
  rw[Array.getElem?_push,if_neg (by omega)]
  exact h.fr r o' ho
end Go.SX

namespace Go.SX
section
variable {P:Program} {tb:Tab} (ht:TabOk P tb)
theorem iQ{o:Off}{n:Nat}(h:fG o=some n)(F:Env):o.den F=n:=by
 grind[fG,Off.den]
theorem mO{w:World}{b j:Nat}{arr:Array Value}{t:TypeId}{fr:Nat×Nat}(h:w.heap[b]?=some (.cells arr t fr)):w.cell? ⟨b,j,none⟩=arr[j]?:=by
 simp[World.cell?,h]
include ht
theorem LX{B:Base}{F:Env}{st:St}{w:World}(hr:RepW B F st w){t:TypeId}{x v:SV}(h:t7 tb st t x=some v):
  ∃a,x.den F=.pointer (some a)/\(loadVar t a).run P w=.ok (v.den F) w:=by
 unfold t7 at h;split at h
 ·rename_i b o;split at h
  ·rename_i own cs ag elem hb;split at h
   ·rename_i n hn;have ho:=iQ hn F
    obtain⟨_,⟨_,h0,_,arr,h1,h2,h3⟩,_⟩:=hr.blk _ _ hb
    refine⟨⟨F.blk b,n,none⟩,by rw[SV.den,ho,h0,Nat.zero_add],?_⟩
    split at h
    ·rename_i hagg;split at h
     ·rename_i sz hsz;split at h
      ·rename_i l hl;simp only[Option.some.injEq]at h;subst h
       obtain⟨hl1,hl2⟩:=px _ _ _ hl
       rw[qE]at hl1 hl2
       have hld:=
        run_loadCells_list (P:=P) w ⟨F.blk b,n,none⟩ (SV.dens F l) (fun j v hv=>by
         grind[eO,mO,SV.dens_eq])
       have hdl:(SV.dens F l).length=sz:=by simp_all[SV.dens_eq]
       rw[hdl]at hld
       simp only[loadVar,Sem.run_bind,ht.run_agg hagg,Result.andThen_ok,if_true,ht.run_size hsz,hld,Sem.run_pure,SV.den]
      ·cases h
     ·cases h
    ·rename_i hagg
     rw[dr]at h
     simp only[loadVar,Sem.run_bind,ht.run_agg hagg,Result.andThen_ok,Bool.false_eq_true,if_false,run_load,mO h1,h3 _ _ h]
    ·cases h
   ·cases h
  ·cases h
 ·cases h
omit ht in
theorem qt:∀(l:List SV),mK l=true->∀v∈l,v.one=true
 |[],_,v,hv=>by cases hv
 |x::l,h,v,hv=>by
  simp only[mK,Bool.and_eq_true]at h;cases hv with
  |head=>exact h.1
  |tail _ hm=>exact qt l h.2 v hm
omit ht in
theorem ph{v:SV}(h:v.one=true)(F:Env):(v.den F).oneCell'=true:=by
 cases v<;>simp[SV.one]at h;case bsl ks e=>simp only[SV.den];unfold U.raw;grind[Value.oneCell']
 case nsl b ks e i c=>simp only[SV.den];unfold U.raw;grind[Value.oneCell']
 all_goals rfl
omit ht in
theorem RepW.putObj{B:Base}{F:Env}{st:St}{w w':World}(hr:RepW B F st w){b:Nat}{obj obj':SObj}(hb:st.heap.get b=some ⟨true,obj⟩)(hl:obj.real F)
  (hheap:∀r,r≠F.blk b->w'.heap[r]?=w.heap[r]?)(ho:w'.os=w.os)(ht:w'.tape=w.tape)(hu:w'.output=w.output)
  (hc:blkRep F w' (F.blk b) (F.off b) (F.nil b) obj')(hin:∀r,obj'.inner F r->obj.inner F r:=by intro r h;exact False.elim h):
  RepW B F {st with heap:=st.heap.set b ⟨true,obj'⟩} w':=by
 have hnk:=((hr.blk _ _ hb).2.2 hl).1 rfl;have hinn:Inn B F (st.heap.set b ⟨true,obj'⟩):=by
  refine hr.inn.next (fun i x hx=>?_) (fun _ _ hf=>hf);grind[T.get_set]
 refine⟨hr.nv,hr.nb,hr.pc,?_,?_,hinn,?_,?_,hr.dj,by rw[ho,hr.os],by rw[ht,hr.tape],by rw[hu,hr.output]⟩
 ·intro i x hx
  rw[T.get_set]at hx
  by_cases hi:i=b
  ·subst hi
   rw[if_pos rfl,hb]at hx
   simp only[Option.map_some,Option.some.injEq]at hx;subst hx
   exact⟨(hr.blk _ _ hb).1,hc,fun _=>⟨fun _=>hnk,fun _=>rfl⟩⟩
  ·rw[if_neg hi]at hx
   obtain⟨k1,k2,k3⟩:=hr.blk _ _ hx
   exact⟨k1,k2.world (fun hlx=>hheap _ (hr.apart hx hb hlx hl (.inr rfl) hi)) (fun r hr'=>hheap _ fun e=>((hr.inn i x hx r hr').2 b _ hb).1 hl e.symm),k3⟩
 ·intro i j x y hx hy lx ly ox oy hij
  rw[T.get_set]at hx hy
  have hx':∃x',st.heap.get i=some x'/\x'.obj.real F/\x'.own=true:=by
   grind
  have hy':∃y',st.heap.get j=some y'/\y'.obj.real F/\y'.own=true:=by
   grind
  obtain⟨x',hx1,hx2,hx3⟩:=hx'
  obtain⟨y',hy1,hy2,hy3⟩:=hy'
  exact hr.inj i j x' y' hx1 hy1 hx2 hy2 hx3 hy3 hij
 ·intro r o hk
  rw[hheap r (fun e=>by rw[e,hnk.1]at hk;cases hk)]
  exact hr.fz r o hk
 ·intro r o hk
  rw[hheap r (fun e=>by rw[e,hnk.2]at hk;cases hk)]
  exact hr.fr r o hk
omit ht in
theorem RepW.put{B:Base}{F:Env}{st:St}{w:World}(hr:RepW B F st w){b:Nat}{obj obj':SObj}(hb:st.heap.get b=some ⟨true,obj⟩)(hl:obj.real F)
  {arr arr':Array Value}{elem:TypeId}(h1:w.heap[F.blk b]?=some (.cells arr elem (0,0)))
  (hc:∀w':World,w'.heap[F.blk b]?=some (.cells arr' elem (0,0))->blkRep F w' (F.blk b) (F.off b) (F.nil b) obj')(hin:∀r,obj'.inner F r->obj.inner F r:=by intro r h;exact False.elim h):
  RepW B F {st with heap:=st.heap.set b ⟨true,obj'⟩} (w.setRow (F.blk b) arr'):=by
 have hheap:∀r,(w.setRow (F.blk b) arr').heap[r]?=if r=F.blk b then some (.cells arr' elem (0,0))else w.heap[r]?:=by
  grind[World.setRow]
 exact hr.putObj hb hl (fun r hr=>by simp_all) rfl rfl rfl (hc _ (by simp_all)) hin
omit ht in
theorem RepW.row{B:Base}{F:Env}{st:St}{w:World}(hr:RepW B F st w){b:Nat}{cs cs':List SV}{ag:E}{elem:TypeId}(hb:st.heap.get b=some ⟨true,.cells cs ag elem⟩)
  {arr arr':Array Value}(h1:w.heap[F.blk b]?=some (.cells arr elem (0,0)))(hsz:arr'.size=arr.size)(hk:SV.oks F cs')
  (hc:∀(j:Nat)(v:SV),cs'[j]?=some v->arr'[j]?=some (v.den F))(hsize:arr.size=(ag.I F).toNat):
  RepW B F {st with heap:=st.heap.set b ⟨true,.cells cs' ag elem⟩} (w.setRow (F.blk b) arr'):=
 hr.put hb trivial h1 fun w' hw'=>⟨(hr.blk _ _ hb).2.1.1,(hr.blk _ _ hb).2.1.2.1,hk,arr',hw',by rw[hsz,hsize],hc⟩
theorem afx{B:Base}{F:Env}{st st':St}{w:World}(hr:RepW B F st w){t:TypeId}{x v:SV}(hv:v.ok F)(h:FF tb st t x v=some st'):
  ∃a w',x.den F=.pointer (some a)/\(storeVar t a (v.den F)).run P w=.ok () w'/\RepW B F st' w':=by
 unfold FF at h;split at h
 ·rename_i b o;split at h
  ·rename_i cs ag elem hb;split at h
   ·rename_i n hn;have ho:=iQ hn F
    obtain⟨_,⟨_,h0,hk,arr,h1,h2,h3⟩,_⟩:=hr.blk _ _ hb
    split at h
    ·rename_i sz hsz;split at h
     ·rename_i hc;simp only[Bool.and_eq_true]at hc;have hlen:v.cells.length=sz:=Nat.eq_of_beq_eq_true hc.1;split at h
      ·rename_i cs' hcs
       obtain⟨k1,k2⟩:=yX _ _ _ _ hcs
       rw[T.setK_eq]at h
       simp only[Option.some.injEq]at h;subst h;have hcl:(v.den F).cells.toList.length=v.cells.length:=by rw[SV.cells_den];simp
       have hca:cs.length<=arr.size:=by
        rcases Nat.lt_or_ge 0 cs.length with hpos|hpos
        ·have hlast:=h3 (cs.length-1) (cs[cs.length-1]'(by omega)) (by simp);have hlt:cs.length-1<arr.size:=(Array.getElem?_eq_some_iff.1 hlast).1;omega
        ·omega
       have hle:n+0+(v.den F).cells.toList.length<=arr.size:=by rw[hcl];omega
       have hst:=run_storeCells_at (P:=P) (F.blk b) n elem (v.den F).cells.toList 0 arr w h1 hle (by
        intro y hy
        rw[SV.cells_den]at hy
        obtain⟨s,hs,rfl⟩:=List.mem_map.1 hy
        exact ph (qt _ hc.2 s hs) F)
       refine⟨⟨F.blk b,n,none⟩,_,by rw[SV.den,ho,h0,Nat.zero_add],?_,RepW.row hr hb h1 (arr':=(arr.toList.take (n+0)++(v.den F).cells.toList++arr.toList.drop (n+0+(v.den F).cells.toList.length)).toArray) ?_ (EL hk (SV.cells_ok hv) hcs) ?_ h2⟩
       ·have hs1:(v.den F).cells.size=sz:=by rw[SV.cells_size];exact hlen
        simp only[storeVar,Sem.run_bind,ht.run_size hsz,Result.andThen_ok,hs1,ne_eq,not_true_eq_false,if_false,hst]
       ·simp only[List.size_toArray,List.length_append,List.length_take,List.length_drop,Array.length_toList]at hle ⊢;omega
       ·intro j y hj
        rw[k1]at hj
        simp only[List.getElem?_toArray]
        rw[hcl,Nat.add_zero,SV.cells_den]
        have hle':n+v.cells.length<=arr.size:=by rw[hcl]at hle;omega
        by_cases h4:j<n
        ·rw[List.getElem?_append_left (by simp;omega),List.getElem?_append_left (by simp;omega),List.getElem?_take_of_lt h4]at hj
         rw[List.getElem?_append_left (by simp;omega),List.getElem?_append_left (by simp;omega),List.getElem?_take_of_lt h4]
         simpa using h3 _ _ hj
        ·by_cases h5:j<n+v.cells.length
         ·rw[List.getElem?_append_left (by simp;omega),List.getElem?_append_right (by simp;omega)]at hj
          rw[List.getElem?_append_left (by simp;omega),List.getElem?_append_right (by simp;omega)]
          simp only[List.length_take,Array.length_toList]at hj ⊢;have e1:min n cs.length=n:=by omega
          have e2:min n arr.size=n:=by omega
          rw[e1]at hj;rw[e2]
          simp[hj]
         ·rw[List.getElem?_append_right (by simp;omega)]at hj
          rw[List.getElem?_append_right (by simp;omega)]
          simp only[List.length_append,List.length_take,Array.length_toList,List.getElem?_drop,List.length_map]at hj ⊢;have e1:min n cs.length=n:=by omega
          have e2:min n arr.size=n:=by omega
          rw[e1]at hj;rw[e2]
          have e3:n+v.cells.length+(j-(n+v.cells.length))=j:=by omega
          rw[e3]at hj ⊢
          simpa using h3 _ _ hj
      ·cases h
     ·cases h
    ·cases h
   ·cases h
  ·cases h
 ·cases h
omit ht in
theorem Mg{B:Base}{F:Env}{st st':St}{w:World}(hr:RepW B F st w){t:Tm}{a:Act}(hT:TmRep F t a){elem:TypeId}{cs:List SV}(hk:SV.oks F cs){v:SV}(h:re t st elem cs=some (v,st')):
  v=.ptr st.nb ⟨0,0,.int 0⟩/\∃F' w',F.Ext F'/\RepW B F' st' w'/\TmRep F' t a/\F'.off st.nb=0/\F'.nil st.nb=false/\(newRow elem (SV.dens F cs).toArray).run P w=.ok ⟨F'.blk st.nb,0,none⟩ w':=by
 unfold re at h;split at h
 ·rename_i hc;simp only[Bool.and_eq_true]at hc
  rw[T.insK_eq]at h
  obtain⟨rfl,rfl⟩:=h
  obtain⟨e1,e2,e3⟩:=Env.push_blk (F:=F) (k:=⟨w.heap.size,0,none⟩) hr.nb
  have hext:=F.push_ext ⟨w.heap.size,0,none⟩;have hs:=hc.2
  rw[<- hr.nv,<- hr.nb]at hs
  refine⟨rfl,F.push _,{w with heap:=w.heap.push (.cells (SV.dens F cs).toArray elem)},hext,?_,?_,e2,e3,?_⟩
  ·refine hr.alloc hc.1.1 (fun w' hw'=>?_)
   refine⟨rfl,rfl,SV.oks_ext hext cs hs hk,(SV.dens F cs).toArray,by simp_all,?_,?_⟩
   ·grind[E.I_int,SV.dens_eq]
   ·intro j y hj
    rw[SV.scoped_den hext y (yN _ hs y (List.mem_of_getElem? hj))]
    simp[SV.dens_eq,hj]
  ·refine hT.ext hext ?_
   rw[hr.nv,hr.nb];simp_all
  simp_all[newRow]
 ·cases h
omit ht in
theorem pm{s:Sem Unit}{w w':World}(h:s.run P w=.ok () w'):(do s;pure Next.skip:Sem Next).run P w=.ok .skip w':=by
 simp_all
omit ht in
theorem NP(v:SV)(F:Env):(v.den F).cells=(SV.dens F v.cells).toArray:=by
 grind[SV.cells_den,SV.dens_eq]
omit ht in
theorem aHq(z:List SV)(F:Env):∀(n:Nat),((Array.range (n*z.length)).map (fun i=>(SV.dens F z).toArray[i%(SV.dens F z).toArray.size]!)).toList=SV.dens F (lG z n):=by
 intro n;induction n with
 |zero=>simp[lG,SV.dens]
 |succ n ih=>
  simp only[lG,SV.dens_eq,List.map_append]at ih ⊢;simp only[Array.toList_map,Array.toList_range]at ih ⊢;have e:(n+1)*z.length=z.length+n*z.length:=by grind
  rw[e,List.range_add,List.map_append]
  congr 1
  ·apply List.ext_getElem?;grind[Nat.mod_eq_of_lt]
  simp_all[List.map_congr_left]
end
end Go.SX

namespace Go.SX
theorem aaM(n:Nat):∀(l:List E),∀x∈Dk n l,x∈l
 |[],x,h=>h
 |y::l,x,h=>by
  have h':x∈(Bool.rec (Dk n l) (y::Dk n l) (Nat.beq (NO y) n):List E):=h;have ih:=aaM n l x;cases hb:Nat.beq (NO y) n with
  |false=>simp_all
  |true=>
   rw[hb]at h'
   grind
theorem aaL(n:Nat):∀(l:List E),∀x∈Dj n l,x∈l
 |[],x,h=>h
 |y::l,x,h=>by
  have h':x∈(Bool.rec (Dj n l) (y::Dj n l) (Nat.beq (kb y) n):List E):=h;have ih:=aaL n l x;cases hb:Nat.beq (kb y) n with
  |false=>simp_all
  |true=>
   rw[hb]at h'
   grind
theorem KW(n:Nat):∀(l:List E),∀x∈xV n l,x∈l
 |[],x,h=>h
 |y::l,x,h=>by
  have h':x∈(Bool.rec (xV n l) (y::xV n l) (Nat.beq (bT y) n):List E):=h;have ih:=KW n l x;cases hb:Nat.beq (bT y) n with
  |false=>simp_all
  |true=>
   rw[hb]at h'
   grind
theorem abL{F:Env}:∀(pc:List E)(e:E),(∀x∈pc,x.B F=true)->ym e pc=true->e.B F=true
 |[],e,_,h=>by grind[ym]
 |x::xs,e,hp,h=>by
  simp only[ym]at h;split at h
  ·grind[E.beq_eq]
  ·exact abL xs e (fun y hy=>hp y (by grind)) h
theorem abM{F:Env}(pc:List E)(e:E)(hp:∀x∈pc,x.B F=true)(h:oW e pc=true):e.B F=true:=by
 grind[oW,hJ,abL,aaL]
theorem aCY{F:Env}{pc:List E}(hp:∀x∈pc,x.B F=true)(e:E):qr pc e=true->e.B F=true:=by
 induction e with
 |and a b ia ib=>
  intro h;simp only[qr]at h;split at h
  ·have hq:a.B F=true:=by
    grind[Y9,abM]
   simp_all
  ·split at h;all_goals simp_all
 |_=>grind[abM,qr]
theorem abd{F:Env}{pc:List E}(hp:∀x∈pc,x.B F=true)(e:E):∀(l:List E),(∀x∈l,x.B F=true)->qR pc e l=true->e.B F=true
 |[],_,h=>by grind[qR]
 |x::xs,hl,h=>by
  have hx:=hl x (by simp);have ih:=abd hp e xs (fun y hy=>hl y (by grind));unfold qR at h;grind[aCY,E.B_imp,E.beq_eq]
theorem Dw{F:Env}{pc:List E}(hp:∀x∈pc,x.B F=true)(e:E)(l:List E)(hl:∀x∈l,x.B F=true)(h:tx pc e l=true):e.B F=true:=by
 grind[tx,hJ,abd,aaM]
theorem ace{a b:Int}:(cf .lss a b=true)↔a<b:=by simp[cf]
theorem nr{a b:Int}:(cf .lss a b=false)↔b<=a:=by
 grind[cf]
theorem lm{a b:Int}:(cf .eql a b=true)↔a=b:=by simp[cf]
theorem tj{a b:Int}:(cf .eql a b=false)↔a≠b:=by simp[cf]
theorem L6{a:Option Int}{b c:Int}(ha:∀x,a=some x->x<=c)(hb:b<=c):∀x,yL a b=some x->x<=c:=by
 intro x hx;unfold yL at hx;split at hx
 ·rename_i y;simp only[Option.some.injEq]at hx;grind[kn]
 grind
theorem L8{a:Option Int}{b c:Int}(ha:∀x,a=some x->c<=x)(hb:c<=b):∀x,yO a b=some x->c<=x:=by
 intro x hx;unfold yO at hx;split at hx
 ·rename_i y;simp only[Option.some.injEq]at hx;grind[nu]
 grind
theorem ab7{F:Env}{c:E}:∀(pc:List E)(r:Option Int),(∀x∈pc,x.B F=true)->(∀x,r=some x->x<=c.I F)->∀x,lA c pc r=some x->x<=c.I F
 |[],r,_,hr,x,h=>hr x h
 |e::es,r,hp,hr,x,h=>by
  have he:=hp e (by simp);have ih:=fun r'=>ab7 (c:=c) es r' (fun y hy=>hp y (by grind))
  unfold lA at h;split at h
  ·rename_i a k;split at h
   ·rename_i hb;refine ih _ (L6 hr ?_) x h;have h1:=jj F a
    rw[E.beq_eq hb]at h1
    grind[E.B_not,E.B_cmp,E.I_int,nr]
   grind
  ·rename_i k a;split at h
   ·rename_i hb;refine ih _ (L6 hr ?_) x h;have h1:=jj F a
    rw[E.beq_eq hb]at h1
    grind[E.B_cmp,E.I_int,nr]
   grind
  ·rename_i a k;split at h
   ·rename_i hb;refine ih _ (L6 hr ?_) x h;have h1:=jj F a
    rw[E.beq_eq hb]at h1
    grind[E.B_cmp,E.I_int,lm]
   grind
  grind
theorem abl{F:Env}{c:E}:∀(pc:List E)(r:Option Int),(∀x∈pc,x.B F=true)->(∀x,r=some x->c.I F<=x)->∀x,lv c pc r=some x->c.I F<=x
 |[],r,_,hr,x,h=>hr x h
 |e::es,r,hp,hr,x,h=>by
  have he:=hp e (by simp);have ih:=fun r'=>abl (c:=c) es r' (fun y hy=>hp y (by grind))
  unfold lv at h;split at h
  ·rename_i k a;split at h
   ·rename_i hb;refine ih _ (L8 hr ?_) x h;have h1:=jj F a
    rw[E.beq_eq hb]at h1
    grind[E.B_not,E.B_cmp,E.I_int,nr]
   grind
  ·rename_i a k;split at h
   ·rename_i hb;refine ih _ (L8 hr ?_) x h;have h1:=jj F a
    rw[E.beq_eq hb]at h1
    grind[E.B_cmp,E.I_int,nr]
   grind
  ·rename_i a k;split at h
   ·rename_i hb;refine ih _ (L8 hr ?_) x h;have h1:=jj F a
    rw[E.beq_eq hb]at h1
    grind[E.B_cmp,E.I_int,lm]
   grind
  grind
theorem Md{F:Env}{e:E}(h:yS e=true):0<=e.I F:=by
 unfold yS at h;split at h
 ·rename_i f a;split at h
  ·exact Int.natCast_nonneg _
  ·exact Int.ediv_nonneg (Int.natCast_nonneg _) (Int.natCast_nonneg _)
  ·exact Int.natCast_nonneg _
  ·exact Int.natCast_nonneg _
  ·exact Int.natCast_nonneg _
  ·exact Int.natCast_nonneg _
  grind
 grind
theorem Mf{F:Env}{c:E}{k:Int}:∀(pc:List E),(∀x∈pc,x.B F=true)->rc c k pc=true->c.I F≠k
 |[],_,h=>by grind[rc]
 |e::es,hp,h=>by
  have ih:=Mf (c:=c) (k:=k) es (fun y hy=>hp y (by grind));unfold rc at h;split at h
  ·split at h
   ·rename_i hb
    rw[Bool.and_eq_true]at hb
    have h1:=E.beq_eq hb.1;have h2:=tF hb.2;grind[List.mem_cons_self,E.B_not,E.B_cmp,E.I_int,tj,jj]
   grind
  grind
theorem Zz{F:Env}{pc:List E}{c:E}(hp:∀x∈pc,x.B F=true):∀(n:Nat)(k:Int),k<=c.I F->CB pc c n k<=c.I F
 |0,k,h=>h
 |n+1,k,h=>by
  unfold CB;split
  ·rename_i hn
   have:=Mf pc hp hn
   exact Zz hp n _ (by omega)
  omega
theorem Zy{F:Env}{pc:List E}{c:E}(hp:∀x∈pc,x.B F=true):∀(n:Nat)(k:Int),c.I F<=k->c.I F<=CA pc c n k
 |0,k,h=>h
 |n+1,k,h=>by
  unfold CA;split
  ·rename_i hn
   have:=Mf pc hp hn
   exact Zy hp n _ (by omega)
  omega
theorem aF2{F:Env}{pc:List E}{c:E}(hp:∀x∈pc,x.B F=true){x:Int}(h:LV c pc=some x):x<=c.I F:=by
 unfold LV at h;split at h
 ·rename_i k hk;simp only[Option.some.injEq]at h;subst h;refine Zz hp 4 k (ab7 pc _ hp ?_ k hk);intro y hy;split at hy
  ·rename_i hn;simp only[Option.some.injEq]at hy;subst hy;exact Md hn
  grind
 grind
theorem aFl{F:Env}{pc:List E}{c:E}(hp:∀x∈pc,x.B F=true){x:Int}(h:Lk c pc=some x):c.I F<=x:=by
 unfold Lk at h;split at h
 ·rename_i k hk;simp only[Option.some.injEq]at h;subst h;exact Zy hp 4 k (abl pc _ hp (fun _ h=>by cases h) k hk)
 grind
theorem LW{F:Env}{pc:List E}{c:E}(hp:∀x∈pc,x.B F=true){x:Int}(h:q8 pc c=some x):x<=c.I F:=by
 unfold q8 at h
 rw[hJ]at h
 exact aF2 (fun y hy=>hp y (KW _ _ y hy)) h
theorem Ll{F:Env}{pc:List E}{c:E}(hp:∀x∈pc,x.B F=true){x:Int}(h:lw pc c=some x):c.I F<=x:=by
 unfold lw at h
 rw[hJ]at h
 exact aFl (fun y hy=>hp y (KW _ _ y hy)) h
theorem LL{a b:Int}:leI a b=true↔a<=b:=by simp[leI,cf]
theorem L0{a b:Int}:o9 a b=true↔a<b:=by simp[o9,cf]
theorem Zw{F:Env}{pc:List E}(hp:∀x∈pc,x.B F=true){e:E}{b:Bool}(h:Cx pc e=some b):e.B F=b:=by
 unfold Cx at h;split at h
 ·rename_i a k;have h1:=jj F a;have lo:=fun {x}=>LW (c:=cU a) hp (x:=x)
  have hi:=fun {x}=>Ll (c:=cU a) hp (x:=x)
  repeat' split at h
  all_goals first | (cases h;done) | skip
  all_goals try simp only[LL,L0]at *
  all_goals grind[E.B_cmp,E.I_int,nr,tj]
 ·rename_i k a _;have h1:=jj F a;have lo:=fun {x}=>LW (c:=cU a) hp (x:=x)
  have hi:=fun {x}=>Ll (c:=cU a) hp (x:=x)
  repeat' split at h
  all_goals first | (cases h;done) | skip
  all_goals try simp only[LL,L0]at *
  all_goals grind[E.B_cmp,E.I_int,nr,lm,tj]
  all_goals grind
 ·rename_i a k;have h1:=jj F a;have lo:=fun {x}=>LW (c:=cU a) hp (x:=x)
  have hi:=fun {x}=>Ll (c:=cU a) hp (x:=x)
  repeat' split at h
  all_goals first | (cases h;done) | skip
  all_goals (simp only[Option.some.injEq]at h;subst h)
  all_goals try simp only[LL,L0]at *
  all_goals simp only[E.B_cmp,E.I_int,ace,nr,lm,tj]
  all_goals first
   |(have:=lo ‹q8 pc (cU a)=some _›;omega)
   |(have:=hi ‹lw pc (cU a)=some _›;omega)
   |(have:=lo ‹q8 pc (cU a)=some _›;have:=hi ‹lw pc (cU a)=some _›;have hbb:=‹(hO _ _&&hO _ _)=true›;rw[Bool.and_eq_true]at hbb;have:=tF hbb.1;have:=tF hbb.2;omega)
 grind
theorem dv{F:Env}{fs pc:List E}{e:E}{b:Bool}(hf:∀x∈fs,∀F,x.B F=true)(hp:∀x∈pc,x.B F=true)(h:dQ fs pc e=some b):e.B F=b:=by
 have hf':∀x∈fs,x.B F=true:=fun x hx=>hf x hx F
 rw[aFK]at h;unfold LJ at h
 split at h
 ·simp_all
 ·split at h
  ·grind[Dw]
  ·split at h
   ·rename_i h1;simp only[Option.some.injEq]at h;have:=Dw hp _ _ hp h1;grind[gh]
   ·split at h
    ·grind[Dw]
    ·split at h
     ·rename_i h1;simp only[Option.some.injEq]at h;have:=Dw hp _ _ hf' h1;simp_all[gh]
     ·split at h
      ·unfold adG at h;grind[E.B_not,Zw]
      grind[Zw]
theorem RepW.assume{B:Base}{F:Env}{st:St}{w:World}(h:RepW B F st w){e:E}(he:e.B F=true):RepW B F {st with pc:=e::st.pc} w:=
 ⟨h.nv,h.nb,fun x hx=>by
  cases hx with
  |head=>omega
  |tail _ hm=>exact h.pc x hm,h.blk,h.inj,h.inn,h.fz,h.fr,h.dj,h.os,h.tape,h.output⟩
section
variable {F:Env} {fs pc:List E} (hf:∀x∈fs,∀F,x.B F=true) (hp:∀x∈pc,x.B F=true)
include hf hp
theorem jv{a b:E}(h:gL fs pc a b=true):a.I F<b.I F:=by
 unfold gL at h;split at h
 ·rename_i hk
  have:=dv hf hp hk
  grind[dx,cf]
 grind
theorem oR{a b:E}(h:kh fs pc a b=true):b.I F<=a.I F:=by
 unfold kh at h;split at h
 ·rename_i hk
  have:=dv hf hp hk
  grind[dx,cf]
 grind
theorem gO{e:E}(h:dR fs pc e=true):0<=e.I F:=by
 unfold dR at h;split at h
 ·simp_all[Md]
 ·have:=oR hf hp h;simp_all
theorem agt{i:E}:∀(n j m:Nat),zC fs pc i n j=.lit m->i.I F=m/\j<=m/\m<j+n
 |0,j,m,h=>by grind[zC]
 |n+1,j,m,h=>by
  simp only[zC]at h;split at h
  ·rename_i hk;simp only[Rz.lit.injEq]at h;have:=dv hf hp hk;simp_all[dx,cf]
  ·obtain⟨h1,h2,h3⟩:=agt n _ _ h
   omega
  grind
omit hf hp in
theorem bJ{G:Type}:∀(l:List G),aM l=l.length
 |[]=>rfl
 |x::xs=>by simp[aM,bJ xs]
omit hf hp in
theorem aGs(w:Nat)(idx:E)(j:Nat)(hw:w=1->j=0)(F:Env):(dy w idx j).I F=idx.I F*w+j:=by
 unfold dy;split
 ·omega
 ·split;all_goals rfl
omit hf hp in
theorem MX{w:Nat}{e:E}{ks:List CK}(hlen:(e.den F).toL.length=(e.den F).rlen*ks.length)(hw:w=ks.length)(hw0:0<w):((gm w e).I F).toNat=(e.den F).rlen/\(e.L F).length=(e.den F).rlen*ks.length:=by
 refine⟨?_,hlen⟩
 unfold gm;split
 ·split;all_goals rfl
 ·rfl
 ·rfl
 ·split
  ·have:ks.length=1:=hw.symm
   unfold E.I
   rw[Em]
   simp only[U.toI,Int.toNat_natCast,E.L,hlen,this,Nat.mul_one]
  ·have:((((e.den F).toL.length:Int)/((w:Int).toNat:Int)):Int)=(((e.den F).toL.length/w:Nat):Int):=by simp
   show(U.int (((e.den F).toL.length:Int)/((U.int (Int.ofNat w)).toI.toNat:Int))).toI.toNat=_
   simp only[U.toI]
   rw[show(Int.ofNat w)=(w:Int) from rfl,this,Int.toNat_natCast,hlen,hw]
   exact Nat.mul_div_cancel _ (by omega)
omit hf hp in
theorem uK{w:Nat}{e:E}{ks:List CK}(h:SlOk F.fz ks (e.den F))(hw:w=ks.length)(hw0:0<w):((gm w e).I F).toNat=(e.den F).rlen/\(e.L F).length=(e.den F).rlen*ks.length:=by
 refine MX ?_ hw hw0;generalize e.den F=u at h;cases h with
 |nil=>simp[U.toL,U.rlen]
 |empty=>simp[U.toL,U.rlen]
 |mk a _ _ _ _=>exact a
theorem aaS{n idx idx':E}{j j':Nat}(h:Dp fs pc n idx j=.at idx' j'):idx'=idx/\j'=j/\idx.I F<n.I F:=by
 unfold Dp at h;split at h
 ·rename_i hl;simp only[FA.at.injEq]at h
  exact⟨h.1.symm,h.2.symm,jv hf hp hl⟩
 grind
theorem oQ{w:Nat}{n idx:E}{o:Off}{j:Nat}(h:nd fs pc w n o=.at idx j):
  0<w/\j<w/\0<=idx.I F/\o.den F=(idx.I F).toNat*w+j/\idx.I F<n.I F:=by
 unfold nd at h;split at h
 ·cases h
 ·rename_i hw;have hw0:0<w:=Nat.pos_of_ne_zero hw;have hmod:o.base%w<w:=Nat.mod_lt _ hw0;have hdm:o.base=o.base/w*w+o.base%w:=by grind[Nat.div_add_mod]
  split at h
  ·rename_i hs
   obtain⟨rfl,rfl,h3⟩:=aaS hf hp h
   refine⟨hw0,hmod,Int.natCast_nonneg _,?_,h3⟩
   simp only[Off.den,hs,Nat.zero_mul];exact hdm
  ·split at h
   ·rename_i hb;have hsw:o.scale=w:=Nat.eq_of_beq_eq_true hb;split at h
    ·rename_i hn;have hn':=gO hf hp hn
     obtain⟨rfl,rfl,h3⟩:=aaS hf hp h
     have e1:(cI o.idx (.int (.ofNat (Nat.div o.base w)))).I F=o.idx.I F+((o.base/w:Nat):Int):=by rw[jx];rfl
     rw[e1]at h3 ⊢
     have hden:o.den F=o.base+w*(o.idx.I F).toNat:=by rw[Off.den,hsw]
     generalize hq:o.base/w=q at *;generalize (o.idx.I F)=z at *;have e2:(z+(q:Int)).toNat=z.toNat+q:=by omega
     have hmod':Nat.mod o.base w=o.base%w:=rfl;grind
    grind
   grind
theorem Mk(l i:E):0<=i.I F->(i.I F).toNat<(l.L F).length->(gP fs pc l i).den F=(l.L F).getD (i.I F).toNat (.int 0):=by
 fun_induction gP fs pc l i with
 |case1 l' j v i h=>
  have he:=E.beq_eq h;have hl:(E.fn 2 (.pr l' (.pr i v))).L F=(l'.L F).set (i.I F).toNat (v.den F):=rfl;simp_all
 |case2 l' v m n h ih=>
  have hne:m≠n:=by
   rintro rfl
   replace h:Nat.beq m m=false:=h;simp_all
  have hl:(E.fn 2 (.pr l' (.pr (.int (.ofNat n)) v))).L F=(l'.L F).set n (v.den F):=rfl;simp_all[List.length_set,List.getD,List.getElem?_set,Ne.symm]
 |case3 l' j v i hb hk hg=>
  intro h0 hlt;simp only[hk,hg];have h1:=dv hf hp hk
  rw[dx,lm]at h1
  have hl:(E.fn 2 (.pr l' (.pr j v))).L F=(l'.L F).set (j.I F).toNat (v.den F):=rfl;simp_all
 |case4 l' j v i hb hk hg=>intro _ _;simp only[hk,hg];rfl
 |case5 l' j v i hb hk hg _ ih=>
  intro h0 hlt;simp only[hk,hg];have h1:=dv hf hp hk
  rw[dx,tj]at h1
  have h2:=oR hf hp hg
  rw[E.I_int]at h2
  have hl:(E.fn 2 (.pr l' (.pr j v))).L F=(l'.L F).set (j.I F).toNat (v.den F):=rfl;grind
 |case6 l' j v i hb hk hg=>intro _ _;simp only[hk,hg];rfl
 |case7 l' j v i hb hk=>intro _ _;simp only[hk];rfl
 |case8 a b i hl ih=>
  intro h0 hlt;have h1:=jv hf hp hl;unfold E.I at h1
  rw[Em]at h1
  have h2:(i.I F).toNat<(a.L F).length:=by
   have:i.I F<((a.L F).length:Int):=h1
   omega
  rw[ih h0 h2]
  show _=((a.L F)++(b.L F)).getD _ _;grind
 |case9 a b i hl hg ih=>
  intro h0 hlt;have h1:=oR hf hp hg;have h3:(gN a).I F=((a.L F).length:Int):=by unfold E.I;rw[Em];rfl
  rw[h3]at h1
  have h4:(iR i (gN a)).I F=i.I F-((a.L F).length:Int):=by rw[acr,h3]
  have hL:(E.fn 3 (.pr a b)).L F=(a.L F)++(b.L F):=rfl;grind
 |case12 x r n ih=>
  intro h0 hlt;have hL:(E.fn 23 (.pr x r)).L F=x.den F::r.L F:=rfl;simp_all
 |case14 n x i=>
  intro h0 hlt;have hL:(E.fn 5 (.pr n x)).L F=List.replicate (n.I F).toNat (x.den F):=rfl;simp_all
 |case15 x i=>
  intro h0 hlt;have hL:(E.fn 11 x).L F=[x.den F]:=rfl;simp_all
 |case16 r c i ih=>intro h0 hlt;exact ih h0 hlt
 |case17 r c i ih=>intro h0 hlt;exact ih h0 hlt
 |case18 e l m i hg ih=>
  intro h0 hlt;have h2:=oR hf hp hg
  rw[E.I_int]at h2
  have hL:(E.fn 24 (.pr (.pr (.int (.ofNat 1)) e) (.pr l m))).L F=((e.L F).take ((m.den F).fst.toI.toNat*1)).drop ((l.I F).toNat*1):=rfl
  rw[hL]at hlt ⊢
  simp only[Nat.mul_one]at hlt ⊢
  rw[List.length_drop,List.length_take]at hlt
  have h3:((cI l i).I F).toNat=(l.I F).toNat+(i.I F).toNat:=by rw[jx];omega
  rw[ih (by rw[jx];omega) (by rw[h3];omega),h3]
  simp only[List.getD,List.getElem?_drop]
  rw[List.getElem?_take_of_lt (by omega)]
 |_=>intro _ _;rfl
end
theorem xz(c:CK)(e:E)(F:Env):(mN c e).den F=c.val (e.den F):=by
 cases c<;>simp[mN,SV.den,CK.val,E.I,E.B,E.S]
theorem xA(c:CK)(e:E)(F:Env)(h:c.ok F.fz (e.den F)):(mN c e).ok F:=by
 cases c;case slc ks=>exact h
 all_goals simp[mN,SV.ok]
theorem aEg(b:Nat)(c:CK)(e idx:E)(j:Nat)(F:Env):(xy b c e idx j).den F=c.val (e.den F):=by
 cases c<;>simp[xy,SV.den,CK.val,E.I,E.B,E.S]
theorem aEh(b:Nat)(c:CK)(e idx:E)(j:Nat)(F:Env):(xy b c e idx j).ok F:=by
 cases c<;>simp[xy,SV.ok]
theorem uy{w:Nat}{idx:E}{j:Nat}{F:Env}(hi:0<=idx.I F)(hw:w=1->j=0):0<=(dy w idx j).I F/\((dy w idx j).I F).toNat=(idx.I F).toNat*w+j:=by
 grind[aGs,Int.natCast_nonneg]
section
variable {F:Env} {fs pc:List E} (hf:∀x∈fs,∀F,x.B F=true) (hp:∀x∈pc,x.B F=true)
include hf hp
theorem Kd{ks:List CK}{l idx:E}(hi:0<=idx.I F)(hlt:((idx.I F).toNat+1)*ks.length<=(l.L F).length){arr:Array Value}{off:Nat}
  (h:∀(i:Nat)(u:U),(idx.I F).toNat*ks.length<=i->(l.L F)[i]?=some u->∃c,ks[i%ks.length]?=some c/\arr[off+i]?=some (c.val u)/\c.ok F.fz u):
  ∀(n j:Nat)(vs:List SV),te fs pc ks (aM ks) l idx n j=some vs->vs.length=n/\SV.oks F vs/\∀(i:Nat)(v:SV),vs[i]?=some v->arr[off+((idx.I F).toNat*ks.length+j)+i]?=some (v.den F)
 |0,j,vs,hv=>by grind[te,SV.oks]
 |n+1,j,vs,hv=>by
  simp only[te]at hv;split at hv
  ·rename_i c hc;split at hv
   ·rename_i ws hws;simp only[Option.some.injEq]at hv;subst hv
    obtain⟨h1,hk,h2⟩:=Kd hi hlt h n _ _ hws
    rw[dr]at hc
    obtain⟨hpos0,hposN0⟩:=uy (w:=aM ks) (idx:=idx) (j:=j) (F:=F) hi (fun e=>by grind[bJ])
    have hposN:((dy (aM ks) idx j).I F).toNat=(idx.I F).toNat*ks.length+j:=by grind[bJ]
    have hin:(idx.I F).toNat*ks.length+j<(l.L F).length:=by
     grind
    have hden:=Mk hf hp l (dy (aM ks) idx j) hpos0 (by omega)
    obtain⟨c',g1,g2,g3⟩:=h ((idx.I F).toNat*ks.length+j) (l.L F)[(idx.I F).toNat*ks.length+j] (by omega) (by grind)
    have hm:((idx.I F).toNat*ks.length+j)%ks.length=j:=by grind[Nat.add_mul_mod_self_right,Nat.mod_eq_of_lt]
    rw[hm,hc]at g1
    simp only[Option.some.injEq]at g1;have hget:(l.L F).getD ((idx.I F).toNat*ks.length+j) (.int 0)=(l.L F)[(idx.I F).toNat*ks.length+j]:=by grind
    refine⟨by grind,⟨xA c _ F (by grind),hk⟩,fun i v hi'=>?_⟩
    cases i with
    |zero=>
     simp only[List.getElem?_cons_zero,Option.some.injEq]at hi';subst hi';simp_all[xz,Nat.add_zero]
    |succ i=>
     grind
   grind
  grind
theorem Ke{b:Nat}{ks:List CK}{l idx:E}(hi:0<=idx.I F)(hlt:((idx.I F).toNat+1)*ks.length<=(l.L F).length){arr:Array Value}{off:Nat}
  (h:∀(i:Nat)(u:U),(l.L F)[i]?=some u->∃c,ks[i%ks.length]?=some c/\arr[off+i]?=some (c.val u)):
  ∀(n j:Nat)(vs:List SV),tf fs pc b ks (aM ks) l idx n j=some vs->vs.length=n/\SV.oks F vs/\∀(i:Nat)(v:SV),vs[i]?=some v->arr[off+((idx.I F).toNat*ks.length+j)+i]?=some (v.den F)
 |0,j,vs,hv=>by grind[tf,SV.oks]
 |n+1,j,vs,hv=>by
  simp only[tf]at hv;split at hv
  ·rename_i c hc;split at hv
   ·rename_i ws hws;simp only[Option.some.injEq]at hv;subst hv
    obtain⟨h1,hk,h2⟩:=Ke hi hlt h n _ _ hws
    rw[dr]at hc
    obtain⟨hpos0,hposN0⟩:=uy (w:=aM ks) (idx:=idx) (j:=j) (F:=F) hi (fun e=>by grind[bJ])
    have hposN:((dy (aM ks) idx j).I F).toNat=(idx.I F).toNat*ks.length+j:=by grind[bJ]
    have hin:(idx.I F).toNat*ks.length+j<(l.L F).length:=by
     grind
    have hden:=Mk hf hp l (dy (aM ks) idx j) hpos0 (by omega)
    obtain⟨c',g1,g2⟩:=h ((idx.I F).toNat*ks.length+j) (l.L F)[(idx.I F).toNat*ks.length+j] (by grind)
    have hm:((idx.I F).toNat*ks.length+j)%ks.length=j:=by grind[Nat.add_mul_mod_self_right,Nat.mod_eq_of_lt]
    rw[hm,hc]at g1
    simp only[Option.some.injEq]at g1;have hget:(l.L F).getD ((idx.I F).toNat*ks.length+j) (.int 0)=(l.L F)[(idx.I F).toNat*ks.length+j]:=by grind
    refine⟨by grind,⟨aEh _ _ _ _ _ F,hk⟩,fun i v hi'=>?_⟩
    cases i with
    |zero=>
     simp only[List.getElem?_cons_zero,Option.some.injEq]at hi';subst hi';simp_all[aEg,Nat.add_zero]
    |succ i=>
     grind
   grind
  grind
end
section
variable {P:Program} {tb:Tab} (ht:TabOk P tb)
include ht
theorem Ed{F:Env}{st st':St}{w:World}(hp:∀x∈st.pc,x.B F=true){t:TypeId}{ks:List CK}{l idx:E}{j:Nat}{v:SV}(h:o8 tb st t ks l idx j=.val v st')
  (hi:0<=idx.I F)(hlt:((idx.I F).toNat+1)*ks.length<=(l.L F).length){r off:Nat}{arr:Array Value}{elem:TypeId}{fr:Nat×Nat}(hw:w.heap[r]?=some (.cells arr elem fr))
  (hc:∀(i:Nat)(u:U),(idx.I F).toNat*ks.length<=i->(l.L F)[i]?=some u->∃c,ks[i%ks.length]?=some c/\arr[off+i]?=some (c.val u)/\c.ok F.fz u):
  st'=st/\v.ok F/\(loadVar t ⟨r,off+((idx.I F).toNat*ks.length+j),none⟩).run P w=.ok (v.den F) w:=by
 unfold o8 at h;split at h
 ·rename_i hagg;split at h
  ·rename_i sz hsz;split at h
   ·rename_i vs hvs
    obtain⟨rfl,rfl⟩:=h
    obtain⟨hl1,hk,hl2⟩:=Kd ht.facts hp hi hlt hc _ _ _ hvs
    refine⟨rfl,hk,?_⟩
    have hld:=run_loadCells_list (P:=P) w ⟨r,off+((idx.I F).toNat*ks.length+j),none⟩ (SV.dens F vs) (fun i v hv=>by
      grind[eO,mO,SV.dens_eq,Option.some.injEq])
    have hdl:(SV.dens F vs).length=sz:=by grind[SV.dens_eq]
    rw[hdl]at hld
    simp only[loadVar,Sem.run_bind,ht.run_agg hagg,Result.andThen_ok,if_true,ht.run_size hsz,hld,Sem.run_pure,SV.den]
   grind
  grind
 ·rename_i hagg;split at h
  ·rename_i vs hvs;split at h
   ·rename_i u;simp only[EffR.val.injEq]at h
    obtain⟨rfl,rfl⟩:=h
    obtain⟨hl1,hk,hl2⟩:=Kd ht.facts hp hi hlt hc _ _ _ hvs
    refine⟨rfl,hk.1,?_⟩
    have:=hl2 0 _ rfl
    simp only[loadVar,Sem.run_bind,ht.run_agg hagg,Result.andThen_ok,Bool.false_eq_true,if_false,run_load,mO hw];grind
   grind
  grind
 grind
theorem aF4{F:Env}{st st':St}{w:World}(hp:∀x∈st.pc,x.B F=true){t:TypeId}{b:Nat}{ks:List CK}{l idx:E}{j:Nat}{v:SV}(h:yE tb st t b ks l idx j=.val v st')
  (hi:0<=idx.I F)(hlt:((idx.I F).toNat+1)*ks.length<=(l.L F).length){r off:Nat}{arr:Array Value}{elem:TypeId}{fr:Nat×Nat}(hw:w.heap[r]?=some (.cells arr elem fr))
  (hc:∀(i:Nat)(u:U),(l.L F)[i]?=some u->∃c,ks[i%ks.length]?=some c/\arr[off+i]?=some (c.val u)):
  st'=st/\v.ok F/\(loadVar t ⟨r,off+((idx.I F).toNat*ks.length+j),none⟩).run P w=.ok (v.den F) w:=by
 unfold yE at h;split at h
 ·rename_i hagg;split at h
  ·rename_i sz hsz;split at h
   ·rename_i vs hvs
    obtain⟨rfl,rfl⟩:=h
    obtain⟨hl1,hk,hl2⟩:=Ke ht.facts hp hi hlt hc _ _ _ hvs
    refine⟨rfl,hk,?_⟩
    have hld:=run_loadCells_list (P:=P) w ⟨r,off+((idx.I F).toNat*ks.length+j),none⟩ (SV.dens F vs) (fun i v hv=>by
      grind[eO,mO,SV.dens_eq,Option.some.injEq])
    have hdl:(SV.dens F vs).length=sz:=by grind[SV.dens_eq]
    rw[hdl]at hld
    simp only[loadVar,Sem.run_bind,ht.run_agg hagg,Result.andThen_ok,if_true,ht.run_size hsz,hld,Sem.run_pure,SV.den]
   grind
  grind
 ·rename_i hagg;split at h
  ·rename_i vs hvs;split at h
   ·rename_i u;simp only[EffR.val.injEq]at h
    obtain⟨rfl,rfl⟩:=h
    obtain⟨hl1,hk,hl2⟩:=Ke ht.facts hp hi hlt hc _ _ _ hvs
    refine⟨rfl,hk.1,?_⟩
    have:=hl2 0 _ rfl
    simp only[loadVar,Sem.run_bind,ht.run_agg hagg,Result.andThen_ok,Bool.false_eq_true,if_false,run_load,mO hw];simp_all
   grind
  grind
 grind
theorem Lc{B:Base}{F:Env}{st:St}{w:World}(hr:RepW B F st w){b:Nat}{own:Bool}{ks:List CK}{l n ag:E}{elem:TypeId}(hb:st.heap.get b=some ⟨own,.flat ks l n ag elem⟩)
  {z:Int}(h0:0<=z)(hz:z<n.I F):∃arr,w.heap[F.blk b]?=some (.cells arr elem (0,0))/\F.nil b=false/\F.off b=0/\flatRep F.fz ks (l.L F) arr/\(arr.size:Int)=ag.I F*ks.length/\
   (z.toNat+1)*ks.length<=(l.L F).length/\(l.L F).length<=arr.size/\0<ks.length/\((l.L F).length:Int)=n.I F*ks.length/\0<ag.I F:=by
 obtain⟨_,⟨h1,h2,h3,h4,h5⟩,_⟩:=hr.blk _ _ hb
 have htot:0<ag.I F:=by omega
 obtain⟨k1,k2,arr,k3,k4,k5⟩:=h5 htot
 refine⟨arr,k3,k1,k2,k4,k5,?_,?_,h1,h2,htot⟩
 ·have:((z.toNat+1:Nat):Int)*(ks.length:Int)<=n.I F*(ks.length:Int):=Int.mul_le_mul_of_nonneg_right (by omega) (by omega)
  omega
 ·have:n.I F*(ks.length:Int)<=ag.I F*(ks.length:Int):=Int.mul_le_mul_of_nonneg_right h3 (by omega)
  omega
theorem yT{B:Base}{F:Env}{st:St}{w:World}(hr:RepW B F st w){b:Nat}{own:Bool}{ks:List CK}{l n ag ow:E}{elem:TypeId}(hb:st.heap.get b=some ⟨own,.nest ks l n ag elem ow⟩)
  {z:Int}(h0:0<=z)(hz:z<n.I F):∃arr,w.heap[F.blk b]?=some (.cells arr elem (0,0))/\F.nil b=false/\F.off b=0/\nestRep F.fz w ks (ow.I F*ks.length) (l.L F) arr/\(arr.size:Int)=ag.I F*ks.length/\
   (z.toNat+1)*ks.length<=(l.L F).length/\(l.L F).length<=arr.size/\0<ks.length/\((l.L F).length:Int)=n.I F*ks.length/\0<ag.I F:=by
 obtain⟨_,⟨h1,h2,h3,h4,_,h5⟩,_⟩:=hr.blk _ _ hb
 have htot:0<ag.I F:=by omega
 obtain⟨k1,k2,arr,k3,k4,k5⟩:=h5 htot
 refine⟨arr,k3,k1,k2,k4,k5,?_,?_,h1,h2,htot⟩
 ·have:((z.toNat+1:Nat):Int)*(ks.length:Int)<=n.I F*(ks.length:Int):=Int.mul_le_mul_of_nonneg_right (by omega) (by omega)
  omega
 ·have:n.I F*(ks.length:Int)<=ag.I F*(ks.length:Int):=Int.mul_le_mul_of_nonneg_right h3 (by omega)
  omega
omit ht in
theorem Dy(F:Env):∀e:E,((ki e).den F).raw=(e.den F).raw:=by
 intro e;fun_induction ki e with
 |case1 x r ih=>
  rw[ih]
  show(x.den F).raw=.slice (x.den F).adr (x.den F).rlen (x.den F).rcap
  cases x.den F<;>rfl
 |case2 e _=>rfl
theorem Ev{B:Base}{F:Env}{st:St}{w:World}(hr:RepW B F st w){b:Nat}{ks:List CK}{e idx:E}{c:Nat}{cur p:E}(h:rd tb.facts st.pc st.heap b ks e idx c=.at cur p):
  ∃(ks0:List CK) (l n ag ow:E) (elem:TypeId) (k:Nat),st.heap.get b=some ⟨true,.nest ks0 l n ag elem ow⟩/\(k:Int)<ow.I F*ks0.length/\0<=p.I F/\(p.I F).toNat=k/\(l.L F)[k]?=some (cur.den F)/\ks0[k%ks0.length]?=some (.slc ks)/\rowN F.fz w ks (cur.den F)/\(cur.den F).raw=(e.den F).raw:=by
 unfold rd at h;split at h
 ·rename_i ks0 l n ag elem ow hb;split at h
  ·rename_i ks' hk
   rw[dr]at hk
   split at h
   ·rename_i hks;have hks':=kl _ _ hks;subst hks';split at h
    ·rename_i hnn;split at h
     ·rename_i hlt;have h0:=gO ht.facts hr.pc hnn;have h1:=jv ht.facts hr.pc hlt;split at h
      rotate_left
      ·cases h
      rename_i hlo;have h2:=jv ht.facts hr.pc hlo;unfold adv at h;split at h
      ·rename_i hbe
       obtain⟨rfl,rfl⟩:=h
       obtain⟨arr,m1,m2,m3,m4,m5,m6,m7,m8,m9,m10⟩:=yT ht hr hb h0 h1
       have hj:c<ks0.length:=(List.getElem?_eq_some_iff.1 hk).1
       obtain⟨hpos0,hposN0⟩:=uy (w:=aM ks0) (idx:=idx) (j:=c) (F:=F) h0 (fun e=>by rw[bJ]at e;omega)
       have hposN:((dy (aM ks0) idx c).I F).toNat=(idx.I F).toNat*ks0.length+c:=by rw[hposN0,bJ]
       have hin:(idx.I F).toNat*ks0.length+c<(l.L F).length:=by
        rw[Nat.add_mul]at m6;omega
       have hden:=Mk ht.facts hr.pc l (dy (aM ks0) idx c) hpos0 (by rw[hposN];exact hin)
       rw[hposN]at hden
       have hget:(l.L F).getD ((idx.I F).toNat*ks0.length+c) (.int 0)=(l.L F)[(idx.I F).toNat*ks0.length+c]:=by simp[List.getD,hin]
       have hu:(l.L F)[(idx.I F).toNat*ks0.length+c]?=some ((gP tb.facts st.pc l (dy (aM ks0) idx c)).den F):=by
        rw[hden,hget];simp[hin]
       obtain⟨c',g1,g2,g3⟩:=m4 _ _ hu
       have hm:((idx.I F).toNat*ks0.length+c)%ks0.length=c:=by rw[Nat.add_comm,Nat.add_mul_mod_self_right];exact Nat.mod_eq_of_lt hj
       rw[hm,hk]at g1
       simp only[Option.some.injEq]at g1;subst g1;have how:(((idx.I F).toNat*ks0.length+c:Nat):Int)<ow.I F*ks0.length:=by
        have:((((idx.I F).toNat+1:Nat):Int))*(ks0.length:Int)<=ow.I F*(ks0.length:Int):=Int.mul_le_mul_of_nonneg_right (by omega) (by omega)
        rw[<- Int.natCast_mul,Nat.add_mul]at this
        omega
       refine⟨ks0,l,n,ag,ow,elem,_,hb,how,hpos0,hposN,hu,by rw[hm];exact hk,g3.1 how,?_⟩
       rw[<- Dy F (gP _ _ _ _),E.beq_eq hbe,Dy]
      ·cases h
     grind
    grind
   grind
  grind
 grind
omit ht in
theorem aeI{fz:Nat->Option Obj}{w:World}{ks:List CK}{u:U}(h:rowN fz w ks u){e:U}{r len cap:Nat}{l':List U}(he:e=.bx (some ⟨r,0,none⟩) len cap l')(hraw:u.raw=e.raw)(hl:0<len):
  ∃(l:List U) (arr:Array Value) (el:TypeId),u=.bx (some ⟨r,0,none⟩) len cap l/\l.length=len*ks.length/\0<cap/\w.heap[r]?=some (.cells arr el (0,0))/\arr.size=cap*ks.length/\flatRep fz ks l arr:=by
 subst he;cases u with
 |bx a n c l=>
  simp only[U.raw,Value.slice.injEq]at hraw
  obtain⟨rfl,rfl,rfl⟩:=hraw
  cases c with
  |zero=>grind[rowN]
  |succ c=>
   obtain⟨h1,h2,h3,arr,el,h4,h5,h6⟩:=h
   grind
 |_=>grind[rowN]
theorem ab8{B:Base}{F:Env}{st st':St}{w:World}(hr:RepW B F st w){t:TypeId}{x v:SV}(hx:x.ok F)(h:yF tb st t x=.val v st'):
  st'=st/\v.ok F/\∃a,x.den F=.pointer (some a)/\(loadVar t a).run P w=.ok (v.den F) w:=by
 unfold yF at h;split at h
 ·split at h
  ·rename_i own ks l n ag elem hb;split at h
   ·rename_i idx j hat
    obtain⟨k1,k2,k3,k4,k5⟩:=oQ ht.facts hr.pc hat
    rw[bJ]at k1 k2 k4
    obtain⟨arr,m1,m2,m3,m4,m5,m6,m7,_⟩:=Lc ht hr hb k3 k5
    obtain⟨e1,e2,e3⟩:=Ed ht hr.pc h k3 m6 (off:=0) m1 (fun i u _ hu=>by rw[Nat.zero_add];exact m4 i u hu)
    simp_all[SV.den]
   all_goals simp_all
  ·rename_i own ks l n ag elem ow hb;split at h
   ·rename_i idx j hat
    obtain⟨k1,k2,k3,k4,k5⟩:=oQ ht.facts hr.pc hat
    rw[bJ]at k1 k2 k4
    obtain⟨arr,m1,m2,m3,m4,m5,m6,m7,_⟩:=yT ht hr hb k3 k5
    split at h
    ·obtain⟨e1,e2,e3⟩:=aF4 ht hr.pc h k3 m6 (off:=0) m1 (fun i u hu=>by rw[Nat.zero_add];obtain⟨c,g1,g2,_⟩:=m4 i u hu;simp_all)
     simp_all[SV.den]
    ·split at h
     ·rename_i hge;have h2:=oR ht.facts hr.pc hge
      obtain⟨e1,e2,e3⟩:=Ed ht hr.pc h k3 m6 (off:=0) m1 (fun i u hi hu=>by
       rw[Nat.zero_add]
       obtain⟨c,g1,g2,g3⟩:=m4 i u hu
       refine⟨c,g1,g2,?_⟩
       cases c with
       |slc ks'=>
        refine g3.2 fun hlt=>?_
        have:ow.I F*(ks.length:Int)<=(((idx.I F).toNat:Nat):Int)*(ks.length:Int):=Int.mul_le_mul_of_nonneg_right (by omega) (by omega)
        rw[<- Int.natCast_mul]at this
        omega
       |_=>trivial)
      simp_all[SV.den]
     ·cases h
   all_goals simp_all
  grind
 ·rename_i ks e idx j
  obtain⟨r,off,len,cap,l,arr,elem,fr,he,_,_,hz,hv,hs,hi,hlt,hk⟩:=Cz hx
  have hL:e.L F=l:=by unfold E.L;rw[he];rfl
  obtain⟨e1,e2,e3⟩:=Ed ht hr.pc h hi (by simp_all) (hr.fz _ _ hz) (off:=off) (fun i u _ hu=>by
   rw[hL]at hu
   obtain⟨c,g1,g2⟩:=hv i u hu
   refine⟨c,g1,g2,?_⟩
   cases c with
   |slc ks'=>exact hs i u ks' hu g1
   |_=>trivial)
  grind[xq]
 ·rename_i b ks e idx c x j;split at h
  ·rename_i cur p hat
   obtain⟨h0,hk0,r,len,cap,le,he,hlt⟩:=hx
   obtain⟨ks0,l0,n0,tot0,ow0,elem0,k,hb,_,_,_,hu,_,hrow,hraw⟩:=Ev ht hr hat
   obtain⟨l,arr,el,hcur,hll,hc,hw,hsz,hfl⟩:=aeI hrow he hraw (by omega)
   have hL:cur.L F=l:=by unfold E.L;rw[hcur];rfl
   obtain⟨e1,e2,e3⟩:=Ed ht hr.pc h h0 (by rw[hL,hll];exact Nat.mul_le_mul_right _ hlt) hw (off:=0) (fun i u _ hu=>by
    rw[hL]at hu;rw[Nat.zero_add];exact hfl i u hu)
   refine⟨e1,e2,_,uh he,?_⟩
   rw[Nat.zero_add]at e3;exact e3
  ·cases h
  ·cases h
 grind
theorem LY{B:Base}{F:Env}{st:St}{w:World}(hr:RepW B F st w){t:TypeId}{x v:SV}(h:t7 tb st t x=some v):v.ok F:=by
 unfold t7 at h;split at h
 ·split at h
  ·rename_i own cs ag elem hb
   obtain⟨_,⟨_,_,hk,_⟩,_⟩:=hr.blk _ _ hb
   rw[SV.oks_iff]at hk
   split at h
   ·split at h
    ·split at h
     ·split at h
      ·rename_i l hl;simp only[Option.some.injEq]at h;subst h
       obtain⟨h1,_⟩:=px _ _ _ hl
       rw[qE]at h1
       show SV.oks F l;grind[SV.oks_iff,List.mem_of_mem_take]
      grind
     grind
    all_goals grind[dr]
   grind
  grind
 grind
end
end Go.SX

namespace Go.SX
section
variable {P:Program} {tb:Tab} (ht:TabOk P tb)
include ht
theorem Co{st st':St}{e:E}{n:Nat}{f:Nat->Option SV}{v:SV}{F:Env}(hp:∀x∈st.pc,x.B F=true)(h:oC tb st e n f=.val v st'):st'=st/\∃j:Nat,e.I F=j/\f j=some v:=by
 unfold oC at h;split at h
 ·rename_i j hj
  obtain⟨h1,_,_⟩:=agt ht.facts hp _ _ _ hj
  cases hf:f j with
  |none=>rw[hf]at h;cases h
  |some u=>
   grind[EffR.ofVal]
 all_goals grind
omit ht in
theorem LR{k:IntKind}{e:E}{F:Env}{j:Nat}(h:e.I F=j):(SV.int k e).den F=(lit k j).den F:=by
 simp[lit,SV.den,h]
omit ht in
theorem Y2{fs pc:List E}{F:Env}(hf:∀x∈fs,∀F,x.B F=true)(hp:∀x∈pc,x.B F=true){o o':Off}{sz:Nat}{i:E}(hi:0<=i.I F)(h:Cc fs pc o sz i=some o'):
  o'.den F=o.den F+(i.I F).toNat*sz:=by
 unfold Cc at h;split at h
 ·grind[Off.den]
 ·split at h
  ·rename_i hb;have hs:=Nat.eq_of_beq_eq_true hb;split at h
   ·rename_i hn;have hn':=gO hf hp hn;simp only[Option.some.injEq]at h;subst h;simp only[Off.den,jx]
    have:(o.idx.I F+i.I F).toNat=(o.idx.I F).toNat+(i.I F).toNat:=by omega
    grind
   grind
  grind
omit ht in
theorem DF{st st':St}{e l:E}{k:EffR}{v:SV}{F:Env}(hf:∀x∈tb.facts,∀F,x.B F=true)(hp:∀x∈st.pc,x.B F=true)(h:oU tb st e l k=.val v st'):0<=e.I F/\e.I F<l.I F/\k=.val v st':=by
 unfold oU at h;split at h
 ·rename_i hn;split at h
  ·rename_i hl
   exact⟨gO hf hp hn,jv hf hp hl,h⟩
  grind
 grind
theorem uM{t elem:TypeId}{sz:Nat}(hu:tb.und t=some (.slice elem))(hsz:cy tb elem=some sz){r o len cap:Nat}{k:IntKind}{e:Int}(h0:0<=e)(h1:e<(len:Int))(w:World):
  (Instr.indexAt t (.slice (some ⟨r,o,none⟩) len cap) (.int k e)).run P w=.ok (.pointer (some ⟨r,o+e.toNat*sz,none⟩)) w:=by
 have hc:0<=e/\e<len:=⟨h0,h1⟩;simp only[Instr.indexAt,Sem.run_bind,ht.run_und hu,Result.andThen_ok,asIntOf,Sem.run_pure];split<;>(simp only[Sem.run_bind,ht.run_size hsz];simp[eO])
omit ht in
theorem aeH{fz:Nat->Option Obj}{w:World}{ks:List CK}:∀ {u:U},rowN fz w ks u->u.toL.length=u.rlen*ks.length
 |.bx none _ _ _,h=>by obtain⟨rfl,rfl,rfl⟩:=h;simp[U.toL,U.rlen]
 |.bx (some _) _ 0 _,h=>by obtain⟨rfl,rfl⟩:=h;simp[U.toL,U.rlen]
 |.bx (some _) _ (_+1) _,h=>h.2.1
 |.int _,h=>h.elim
 |.bool _,h=>h.elim
 |.str _,h=>h.elim
 |.lst _,h=>h.elim
omit ht in
theorem aeu{u:U}{a:Addr}{n c:Nat}(h:u.raw=.slice (some a) n c):∃l,u=.bx (some a) n c l:=by
 cases u with
 |bx a' n' c' l=>
  obtain⟨rfl,rfl,rfl⟩:=h
  simp_all
 |_=>grind[U.raw]
omit ht in
theorem aHw{fz:Nat->Option Obj}{w:World}{ks:List CK}{u y:U}(h:rowN fz w ks u)(hraw:u.raw=y.raw){k:Nat}(hk:k<u.rlen):∃(r len cap:Nat) (l:List U),y=.bx (some ⟨r,0,none⟩) len cap l/\u.rlen=len:=by
 cases u with
 |bx a n c l=>
  cases a with
  |none=>obtain⟨rfl,_⟩:=h;grind[U.rlen]
  |some a=>
   cases c with
   |zero=>obtain⟨rfl,_⟩:=h;grind[U.rlen]
   |succ c=>
    obtain⟨h1,_⟩:=h
    rw[h1]at hraw
    obtain⟨l',hl'⟩:=aeu hraw.symm
    exact⟨_,_,_,l',hl',rfl⟩
 |_=>grind[rowN]
theorem abu{B:Base}{st st':St}{t:TypeId}{x i v:SV}{F:Env}{w:World}(hr:RepW B F st w)(hx:x.ok F)(h:yf tb st t x i=.val v st'):
  st'=st/\v.ok F/\(Instr.indexAt t (x.den F) (i.den F)).run P w=.ok (v.den F) w:=by
 have hp:=hr.pc;unfold yf at h;split at h
 ·rename_i k e;split at h
  ·split at h
   ·obtain⟨rfl,j,h1,h2⟩:=Co ht hp h
    refine⟨rfl,?_,by grind[LR,Lq]⟩
    unfold oV at h2;repeat' split at h2
    all_goals grind[Option.some.injEq,SV.ok]
   grind
  ·rename_i elem hu;split at h
   ·rename_i sz hsz;split at h
    ·rename_i b o l c;split at h
     ·rename_i n hn
      obtain⟨h0,h1,h2⟩:=DF ht.facts hp h
      split at h2
      ·rename_i o' ho;simp only[EffR.val.injEq]at h2
       obtain⟨rfl,rfl⟩:=h2
       refine⟨rfl,by simp[SV.ok],?_⟩
       have hden:=Y2 ht.facts hp h0 ho;simp only[SV.den]
       rw[uM ht hu hsz h0 (by omega),hden,Nat.add_assoc]
      simp_all
     ·split at h
      ·obtain⟨rfl,j,h1,h2⟩:=Co ht hp h
       refine⟨rfl,?_,by grind[LR,Lq]⟩
       unfold oV at h2;repeat' split at h2
       all_goals grind[SV.ok]
      grind
    ·rename_i b l c;split at h
     ·rename_i n hn
      obtain⟨h0,h1,h2⟩:=DF ht.facts hp h
      split at h2
      ·rename_i hl
       obtain⟨rfl,rfl⟩:=h2
       refine⟨rfl,by simp[SV.ok],?_⟩
       have hl':=jv ht.facts hp hl;unfold DO at hn;split at hn
       ·grind[Lc,dS,SV.den,uM,Off.den,Nat.mul_comm]
       all_goals grind[yT,dS,SV.den,uM,Off.den,Nat.mul_comm]
      simp_all
     ·rename_i hn;split at h
      ·rename_i n hl;have hl':=gg hl
       obtain⟨rfl,j,h1,h2⟩:=Co ht hp h
       split at h2
       ·simp only[Option.some.injEq]at h2;subst h2
        refine⟨rfl,by simp[SV.ok],?_⟩
        unfold DO at hn;split at hn
        ·grind
        ·grind
        ·rename_i own cs ag el hb
         obtain⟨_,⟨k1,k2,_⟩,_⟩:=hr.blk _ _ hb
         have hbase:F.base b=some ⟨F.blk b,0,none⟩:=by grind[dS]
         simp only[SV.den]
         rw[hbase,h1,uM ht hu hsz (Int.natCast_nonneg _) (by simp_all),k2]
         rfl
        simp_all
       simp_all
      grind
     grind
    ·rename_i ks y;split at h
     ·rename_i hk;simp only[Bool.and_eq_true]at hk;have hks:ks.length=sz:=by simp_all[bJ]
      have hsz0:=dp.1 hk.2
      obtain⟨h0,h1,h2⟩:=DF ht.facts hp h
      obtain⟨rfl,rfl⟩:=h2
      have hx':=hx
      obtain⟨q1,q2⟩:=uK hx' hks.symm hsz0
      have hlt:(e.I F).toNat<(y.den F).rlen:=by omega
      have hle:((e.I F).toNat+1)*ks.length<=(y.L F).length:=by
       rw[q2];exact Nat.mul_le_mul_right _ hlt
      have hok:(SV.bptr ks y e 0).ok F:=by simp_all[SV.ok]
      refine⟨rfl,hok,?_⟩
      obtain⟨r,off,len,cap,l,arr,elm,fr,he,_⟩:=Cz hok
      rw[xq he]
      simp only[SV.den]
      rw[he]
      have hrl:(y.den F).rlen=len:=by rw[he];rfl
      rw[show(U.bx _ _ _ l).raw=.slice _ _ _ from rfl,uM ht hu hsz h0 (by omega),hks,Nat.add_zero]
     grind
    ·rename_i b ks y idx c;split at h
     ·rename_i hk;simp only[Bool.and_eq_true]at hk;have hks:ks.length=sz:=by simp_all[bJ]
      have hsz0:=dp.1 hk.2;split at h
      ·rename_i cur p hat
       obtain⟨h0,h1,h2⟩:=DF ht.facts hp h
       obtain⟨rfl,rfl⟩:=h2
       obtain⟨_,_,_,_,_,_,_,_,_,_,_,_,_,hrow,hraw⟩:=Ev ht hr hat
       obtain⟨q1,q2⟩:=MX (aeH hrow) hks.symm hsz0
       have hlt:(e.I F).toNat<(cur.den F).rlen:=by omega
       obtain⟨r,len,cap,l,hy,hl⟩:=aHw hrow hraw hlt
       refine⟨rfl,⟨h0,by omega,r,len,cap,l,hy,by omega⟩,?_⟩
       rw[uh hy]
       simp only[SV.den]
       rw[hy]
       rw[show(U.bx _ _ _ l).raw=.slice _ _ _ from rfl,uM ht hu hsz h0 (by omega),hks,Nat.add_zero,Nat.zero_add]
      all_goals simp_all
     grind
    grind
   grind
  grind
 grind
theorem abw{st st':St}{t:TypeId}{x i v:SV}{F:Env}(hp:∀y∈st.pc,y.B F=true)(hx:x.ok F)(h:yg tb st t x i=.val v st')(w:World):
  st'=st/\v.ok F/\(Instr.index t (x.den F) (i.den F)).run P w=.ok (v.den F) w:=by
 unfold yg at h;split at h
 ·split at h
  ·obtain⟨rfl,j,h1,h2⟩:=Co ht hp h
   refine⟨rfl,?_,by grind[LR,abE]⟩
   unfold tE at h2;repeat' split at h2
   all_goals grind[Mz,SV.ok]
  grind
 grind
omit ht in
theorem xx{e:E}{F:Env}:((oJ e).I F).toNat=(e.den F).rcap:=by
 unfold oJ;split
 ·split;all_goals rfl
 all_goals rfl
omit ht in
theorem DW{st st':St}{e:E}{v:SV}{F:Env}(hf:∀x∈tb.facts,∀F,x.B F=true)(hp:∀x∈st.pc,x.B F=true)(h:o4 tb st e=.val v st'):st'=st/\v=.int .i64 e/\0<=e.I F:=by
 unfold o4 at h;split at h
 ·rename_i hn;simp only[EffR.val.injEq]at h
  exact⟨h.2.symm,h.1.symm,gO hf hp hn⟩
 grind
omit ht in
theorem zf{fz:Nat->Option Obj}{ks:List CK}{u:U}(h:SlOk fz ks u):u.raw=.slice u.adr u.rlen u.rcap:=by
 cases h<;>rfl
def oZ(c:Bool)(ts:Array TypeId)(ty:TypeId)(vs:Array Value):Sem Value:=
 match c with
 |true=>Builtin.cap_ ts ty vs
 |false=>Builtin.len_ ts ty vs
theorem Fo{t elem:TypeId}(hu:tb.und t=some (.slice elem))(c:Bool)(ty:TypeId)(bE:List TypeId)(rv:List Value)(a:Option Addr)(n m:Nat){e:E}{F:Env}(h0:0<=e.I F)(he:(e.I F).toNat=cond c m n)(w:World):
  (oZ c (t::bE).toArray ty (.slice a n m::rv).toArray).run P w=.ok ((SV.int .i64 e).den F) w:=by
 cases c with
 |true=>
  simp only[cond]at he;simp[oZ,Builtin.cap_,ht.run_und hu,SV.den,goInt];omega
 |false=>
  simp only[cond]at he;simp[oZ,Builtin.len_,ht.run_und hu,SV.den,goInt];omega
omit ht in
theorem aHx{fz:Nat->Option Obj}{w:World}{ks:List CK}{u:U}(h:rowN fz w ks u):u.raw=.slice u.adr u.rlen u.rcap:=by
 cases u with
 |bx a n c l=>rfl
 |_=>rfl
omit ht in
theorem aHn{u v:U}(h:u.raw=v.raw):u.rcap=v.rcap:=by
 have key:∀x:U,x.raw=.slice x.adr x.rlen x.rcap:=by intro x;cases x<;>rfl
 grind
theorem DS{B:Base}{st st':St}{c:Bool}{t:TypeId}{x v:SV}{F:Env}{w:World}(hr:RepW B F st w)(hx:x.ok F)(h:tU tb st c t x=.val v st')(ty:TypeId)(bE:List TypeId)(rv:List Value):
  st'=st/\v.ok F/\(oZ c (t::bE).toArray ty (x.den F::rv).toArray).run P w=.ok (v.den F) w:=by
 have hp:=hr.pc;unfold tU at h;split at h
 ·rename_i elem hu;split at h
  ·obtain⟨rfl,rfl,h0⟩:=DW ht.facts hp h
   refine⟨rfl,by simp[SV.ok],?_⟩
   exact Fo ht hu c ty _ rv _ _ _ h0 (by grind) w
  ·obtain⟨rfl,rfl,h0⟩:=DW ht.facts hp h
   refine⟨rfl,by simp[SV.ok],?_⟩
   exact Fo ht hu c ty _ rv _ _ _ h0 (by grind) w
  ·rename_i ks e;split at h
   ·cases h
   ·have hx':SlOk _ ks _:=hx
    obtain⟨q1,_⟩:=uK (w:=aM ks) hx' (bJ ks) (by grind[bJ])
    obtain⟨rfl,rfl,h0⟩:=DW ht.facts hp h
    refine⟨rfl,by simp[SV.ok],?_⟩
    have hd:(SV.bsl ks e).den F=.slice (e.den F).adr (e.den F).rlen (e.den F).rcap:=by grind[SV.den,zf]
    grind[Fo,xx]
  ·rename_i b ks e idx j;split at h
   ·cases h
   ·split at h
    ·rename_i cur p hat
     obtain⟨_,_,_,_,_,_,_,_,_,_,_,_,_,hrow,hraw⟩:=Ev ht hr hat
     obtain⟨q1,_⟩:=MX (w:=aM ks) (aeH hrow) (bJ ks) (by grind[bJ])
     obtain⟨rfl,rfl,h0⟩:=DW ht.facts hp h
     refine⟨rfl,by simp[SV.ok],?_⟩
     have hd:(SV.nsl b ks e idx j).den F=.slice (cur.den F).adr (cur.den F).rlen (cur.den F).rcap:=by
      grind[SV.den,aHx]
     grind[Fo,xx,aHn,Dy]
    all_goals grind
  grind
 ·rename_i hu;split at h
  ·cases h
  ·split at h
   ·obtain⟨rfl,rfl⟩:=h
    refine⟨rfl,by simp[SV.ok],?_⟩
    simp[oZ,Builtin.len_,ht.run_und hu];rfl
   grind
 ·rename_i a b hu;split at h
  ·cases h
  ·split at h
   ·rename_i m;split at h
    ·rename_i own es clk hb
     obtain⟨rfl,rfl⟩:=h
     refine⟨rfl,by simp[SV.ok],?_⟩
     obtain⟨_,⟨entries,clock,h1,_,h2,_⟩,_⟩:=hr.blk _ _ hb
     have hg:(getObj (F.blk m)).run P w=.ok (.map entries clock) w:=by grind[getObj,Sem.run]
     simp[oZ,Builtin.len_,ht.run_und hu,SV.den,goInt,hg,h2.1,bJ]
    ·rename_i own k c e hb
     obtain⟨rfl,rfl⟩:=h
     refine⟨rfl,by simp[SV.ok],?_⟩
     obtain⟨_,⟨entries,clock,h1,h2,_⟩,_⟩:=hr.blk _ _ hb
     have hg:(getObj (F.blk m)).run P w=.ok (.map entries clock) w:=by grind[getObj,Sem.run]
     have he:(E.fn 0 e).I F=(e.L F).length:=rfl;simp[oZ,Builtin.len_,ht.run_und hu,SV.den,goInt,hg,h2.1,he]
    grind
   grind
 grind
omit ht in
theorem mZ{c:CK}{v:SV}{e:E}(h:jo c v=some e){F:Env}(hv:v.ok F):v.den F=c.val (e.den F)/\v.one=true/\c.ok F.fz (e.den F):=by
 unfold jo at h;split at h
 ·split at h
  ·rename_i hk
   have:=fe hk;subst this
   simp only[Option.some.injEq]at h;subst h
   exact⟨rfl,rfl,trivial⟩
  grind
 ·simp only[Option.some.injEq]at h;subst h
  exact⟨rfl,rfl,trivial⟩
 ·simp only[Option.some.injEq]at h;subst h
  exact⟨rfl,rfl,trivial⟩
 ·split at h
  ·rename_i hk
   have:=kl _ _ hk;subst this
   simp only[Option.some.injEq]at h;subst h
   exact⟨rfl,rfl,hv⟩
  grind
 ·simp only[Option.some.injEq]at h;subst h
  exact⟨rfl,rfl,SlOk.nil⟩
 grind
omit ht in
theorem MO{F:Env}{ks:List CK}{idx:E}(hi:0<=idx.I F):∀(vs:List SV)(j:Nat)(l l':E),putCells ks (aM ks) idx vs j l=some l'->SV.oks F vs->
  ((idx.I F).toNat+1)*ks.length<=(l.L F).length->∀ {arr:Array Value},(l.L F).length<=arr.size->flatRep F.fz ks (l.L F) arr->
  (l'.L F).length=(l.L F).length/\(∀v∈vs,v.one=true)/\j+vs.length<=max j ks.length/\
  flatRep F.fz ks (l'.L F) (arr.toList.take ((idx.I F).toNat*ks.length+j)++SV.dens F vs++arr.toList.drop ((idx.I F).toNat*ks.length+j+vs.length)).toArray
 |[],j,l,l',h,_,hlt,arr,_,hr=>by
  simp only[putCells,Option.some.injEq]at h;subst h
  refine⟨rfl,by simp,by grind,?_⟩
  simp_all[SV.dens]
 |v::vs,j,l,l',h,hok,hlt,arr,hsz,hr=>by
  simp only[putCells]at h;split at h
  ·rename_i c hc
   rw[dr]at hc
   have hj:=(List.getElem?_eq_some_iff.1 hc).1;split at h
   ·rename_i e he
    obtain⟨f1,f2,f3⟩:=mZ he hok.1
    obtain⟨_,hposN0⟩:=uy (w:=aM ks) (idx:=idx) (j:=j) (F:=F) hi (fun e=>by simp_all[bJ])
    have hposN:((dy (aM ks) idx j).I F).toNat=(idx.I F).toNat*ks.length+j:=by rw[hposN0,bJ]
    generalize hp:(idx.I F).toNat*ks.length=p at *;have hL:(iS l (dy (aM ks) idx j) e).L F=(l.L F).set (p+j) (e.den F):=by rw[E.L_upd,hposN]
    have hr':flatRep F.fz ks ((iS l (dy (aM ks) idx j) e).L F) (arr.setIfInBounds (p+j) (v.den F)):=by
     intro i u hu
     rw[hL]at hu
     by_cases hij:i=p+j
     ·grind[Nat.add_mul_mod_self_right,Nat.mod_eq_of_lt]
     ·rw[List.getElem?_set_ne (Ne.symm hij)]at hu
      obtain⟨c',g1,g2,g3⟩:=hr i u hu
      grind
    have hlen':((iS l (dy (aM ks) idx j) e).L F).length=(l.L F).length:=by simp_all
    obtain⟨k1,k2,k3,k4⟩:=MO hi vs _ _ _ h hok.2 (by omega) (by simp_all) hr'
    refine⟨by omega,?_,by grind,?_⟩
    ·simp_all
    ·have e1:(arr.setIfInBounds (p+j) (v.den F)).toList.take (p+(j+1))=arr.toList.take (p+j)++[v.den F]:=by
      have hlt2:p+j<arr.toList.length:=by grind
      rw[Array.toList_setIfInBounds,<- Nat.add_assoc,List.take_add_one,List.take_set_of_le (Nat.le_refl _),List.getElem?_set_self hlt2]
      rfl
     have e2:(arr.setIfInBounds (p+j) (v.den F)).toList.drop (p+(j+1)+vs.length)=arr.toList.drop (p+j+(vs.length+1)):=by
      grind[List.drop_set_of_lt]
     simp_all[SV.dens]
   grind
  grind
omit ht in
theorem aEv(e:E)(F:Env):(ti e).L F=e.L F:=by
 unfold ti;split<;>rfl
omit ht in
theorem aHb{c:CK}{v:SV}{e:E}(h:jo c v=some e)(hp:MJ c v=true){fz:Nat->Option Obj}{w:World}{F:Env}(hok:c.ok fz (e.den F)):(∀own:Prop,ZG fz w own c (e.den F))/\∀ks r,c=.slc ks->gk (e.den F)≠some r:=by
 unfold jo at h;split at h
 ·refine⟨fun _=>trivial,fun ks r hc=>by grind⟩
 ·refine⟨fun _=>trivial,fun ks r hc=>by grind⟩
 ·refine⟨fun _=>trivial,fun ks r hc=>by grind⟩
 ·grind[MJ]
 ·simp only[Option.some.injEq]at h;subst h
  exact⟨fun _=>⟨fun _=>⟨rfl,rfl,rfl⟩,fun _=>hok⟩,fun ks r _ hr=>by simp[E.den,qO,uQ,gk,Nat.blt]at hr⟩
 grind
omit ht in
theorem aeo{F:Env}{w:World}{ks:List CK}{idx:E}(hi:0<=idx.I F):∀(vs:List SV)(j:Nat)(l l':E),putCells ks (aM ks) idx vs j l=some l'->E5 ks j vs=true->SV.oks F vs->
  ((idx.I F).toNat+1)*ks.length<=(l.L F).length->∀ {arr:Array Value} {o:Int},(l.L F).length<=arr.size->nestRep F.fz w ks o (l.L F) arr->
  (l'.L F).length=(l.L F).length/\(∀v∈vs,v.one=true)/\j+vs.length<=max j ks.length/\
  nestRep F.fz w ks o (l'.L F) (arr.toList.take ((idx.I F).toNat*ks.length+j)++SV.dens F vs++arr.toList.drop ((idx.I F).toNat*ks.length+j+vs.length)).toArray/\
  ∀i r,fv ks o (l'.L F) i r->fv ks o (l.L F) i r
 |[],j,l,l',h,_,_,hlt,arr,o,_,hr=>by
  simp only[putCells,Option.some.injEq]at h;subst h
  refine⟨rfl,by simp,by grind,?_,fun _ _ h=>h⟩
  simp_all[SV.dens]
 |v::vs,j,l,l',h,hpl,hok,hlt,arr,o,hsz,hr=>by
  simp only[putCells]at h;simp only[E5]at hpl;split at h
  ·rename_i c hc
   rw[hc]at hpl
   simp only[Bool.and_eq_true]at hpl
   rw[dr]at hc
   have hj:=(List.getElem?_eq_some_iff.1 hc).1;split at h
   ·rename_i e he
    obtain⟨f1,f2,f0⟩:=mZ he hok.1
    obtain⟨f3,f4⟩:=aHb he hpl.1 (fz:=F.fz) (w:=w) (F:=F) f0
    obtain⟨_,hposN0⟩:=uy (w:=aM ks) (idx:=idx) (j:=j) (F:=F) hi (fun e=>by simp_all[bJ])
    have hposN:((dy (aM ks) idx j).I F).toNat=(idx.I F).toNat*ks.length+j:=by rw[hposN0,bJ]
    generalize hp:(idx.I F).toNat*ks.length=p at *;have hin:p+j<(l.L F).length:=by grind
    have hL:(iS l (dy (aM ks) idx j) e).L F=(l.L F).set (p+j) (e.den F):=by rw[E.L_upd,hposN]
    have hm:(p+j)%ks.length=j:=by grind[Nat.add_mul_mod_self_right,Nat.mod_eq_of_lt]
    have hr':nestRep F.fz w ks o ((iS l (dy (aM ks) idx j) e).L F) (arr.setIfInBounds (p+j) (v.den F)):=by
     intro i u hu
     rw[hL]at hu
     by_cases hij:i=p+j
     ·grind
     ·rw[List.getElem?_set_ne (Ne.symm hij)]at hu
      obtain⟨c',g1,g2,g3⟩:=hr i u hu
      grind
    have hs':∀i r,fv ks o ((iS l (dy (aM ks) idx j) e).L F) i r->fv ks o (l.L F) i r:=by
     rintro i r ⟨u,ks',hu,hk,ho,hlo⟩
     rw[hL]at hu
     by_cases hij:i=p+j
     ·simp_all
     ·rw[List.getElem?_set_ne (Ne.symm hij)]at hu
      exact⟨u,ks',hu,hk,ho,hlo⟩
    have hlen':((iS l (dy (aM ks) idx j) e).L F).length=(l.L F).length:=by simp_all
    obtain⟨k1,k2,k3,k4,k5⟩:=aeo hi vs _ _ _ h hpl.2 hok.2 (by omega) (by simp_all) hr'
    refine⟨by omega,?_,by grind,?_,fun i r h=>hs' i r (k5 i r h)⟩
    ·simp_all
    ·have e1:(arr.setIfInBounds (p+j) (v.den F)).toList.take (p+(j+1))=arr.toList.take (p+j)++[v.den F]:=by
      have hlt2:p+j<arr.toList.length:=by grind
      rw[Array.toList_setIfInBounds,<- Nat.add_assoc,List.take_add_one,List.take_set_of_le (Nat.le_refl _),List.getElem?_set_self hlt2]
      rfl
     have e2:(arr.setIfInBounds (p+j) (v.den F)).toList.drop (p+(j+1)+vs.length)=arr.toList.drop (p+j+(vs.length+1)):=by
      grind[List.drop_set_of_lt]
     simp_all[SV.dens]
   ·cases h
  grind
omit ht in
theorem uN{w:World}{r:Nat}{arr arr':Array Value}{el:TypeId}(h1:w.heap[r]?=some (.cells arr el (0,0)))(x:Nat):(w.setRow r arr').heap[x]?=if x=r then some (.cells arr' el (0,0))else w.heap[x]?:=by
 grind[World.setRow]
omit ht in
theorem RepW.putInner{B:Base}{F:Env}{st:St}{w:World}(hr:RepW B F st w){b:Nat}{ks:List CK}{l l' n ag ow:E}{elem:TypeId}(hb:st.heap.get b=some ⟨true,.nest ks l n ag elem ow⟩)
  {k r:Nat}{u u':U}{ks':List CK}(hu:(l.L F)[k]?=some u)(hk:ks[k%ks.length]?=some (.slc ks'))(hko:(k:Int)<ow.I F*ks.length)(ho:gk u=some r)(ho':gk u'=some r)(hraw:u'.raw=u.raw)(hl':l'.L F=(l.L F).set k u')
  {arr arr':Array Value}{el:TypeId}(h1:w.heap[r]?=some (.cells arr el (0,0)))(hrow:rowN F.fz (w.setRow r arr') ks' u'):
  RepW B F {st with heap:=st.heap.set b ⟨true,.nest ks l' n ag elem ow⟩} (w.setRow r arr'):=by
 have hin:(SObj.nest ks l n ag elem ow).inner F r:=⟨k,u,ks',hu,hk,ho,hko⟩
 obtain⟨hfree,hoth⟩:=hr.inn b _ hb r hin
 have hkl:=(List.getElem?_eq_some_iff.1 hu).1;have hget:=fun x=>uN (arr':=arr') h1 x
 have hne:∀x,x≠r->(w.setRow r arr').heap[x]?=w.heap[x]?:=fun x hx=>by simp_all
 have hslc:∀i x,fv ks (ow.I F*ks.length) (l'.L F) i x->fv ks (ow.I F*ks.length) (l.L F) i x:=by
  rintro i x ⟨v,ks2,hv,hk2,hx,hlo⟩
  rw[hl']at hv
  by_cases hik:i=k
  ·subst hik
   exact⟨u,ks2,hu,hk2,by simp_all,hlo⟩
  ·rw[List.getElem?_set_ne (Ne.symm hik)]at hv
   exact⟨v,ks2,hv,hk2,hx,hlo⟩
 refine⟨hr.nv,hr.nb,hr.pc,?_,?_,?_,?_,?_,hr.dj,hr.os,hr.tape,hr.output⟩
 ·intro i x hx
  rw[T.get_set]at hx
  by_cases hi:i=b
  ·subst hi
   rw[if_pos rfl,hb]at hx
   simp only[Option.map_some,Option.some.injEq]at hx;subst hx
   obtain⟨g1,⟨g2,g3,g4,g5,g6,g7⟩,g8⟩:=hr.blk _ _ hb
   refine⟨g1,⟨g2,by simp_all,g4,g5,fun i j x h1 h2=>g6 i j x (hslc _ _ h1) (hslc _ _ h2),fun htot=>?_⟩,g8⟩
   obtain⟨m1,m2,arr0,m3,m4,m5⟩:=g7 htot
   refine⟨m1,m2,arr0,by rw[hne _ ((hoth i _ hb).1 htot)];omega,?_,m5⟩
   intro q v hv
   rw[hl']at hv
   by_cases hqk:q=k
   ·subst hqk
    rw[List.getElem?_set_self hkl]at hv
    simp only[Option.some.injEq]at hv;subst hv
    obtain⟨c,e1,e2,_⟩:=m4 q u hu
    rw[hk]at e1
    simp only[Option.some.injEq]at e1;subst e1
    refine⟨_,hk,?_,fun _=>hrow,fun hn=>absurd hko hn⟩
    show arr0[q]?=some u'.raw
    rw[hraw];exact e2
   ·rw[List.getElem?_set_ne (Ne.symm hqk)]at hv
    obtain⟨c,e1,e2,e3⟩:=m4 q v hv
    refine⟨c,e1,e2,?_⟩
    cases c with
    |slc ks2=>exact⟨fun hlo=>rowN.world (e3.1 hlo) fun x hx=>hne x fun e=>hqk (g6 q k r ⟨v,ks2,hv,e1,by simp_all,hlo⟩ ⟨u,ks',hu,hk,ho,hko⟩),e3.2⟩
    |_=>trivial
  ·rw[if_neg hi]at hx
   obtain⟨k1,k2,k3⟩:=hr.blk _ _ hx
   exact⟨k1,k2.world (fun hlx=>hne _ ((hoth i x hx).1 hlx)) (fun y hy=>hne y fun e=>(hoth i x hx).2 hi (e▸hy)),k3⟩
 ·intro i j x y hx hy lx ly ox oy hij
  rw[T.get_set]at hx hy
  have conv:∀(i:Nat)(x:Blk),(if i=b then Option.map (fun _=>⟨true,.nest ks l' n ag elem ow⟩) (st.heap.get b)else st.heap.get i)=some x->x.obj.real F->x.own=true->∃x',st.heap.get i=some x'/\x'.obj.real F/\x'.own=true:=by
   intro i x hx lx ox;by_cases hi:i=b
   ·subst hi
    rw[if_pos rfl,hb]at hx
    simp only[Option.map_some,Option.some.injEq]at hx;subst hx
    exact⟨_,hb,lx,rfl⟩
   simp_all
  obtain⟨x',hx1,hx2,hx3⟩:=conv i x hx lx ox
  obtain⟨y',hy1,hy2,hy3⟩:=conv j y hy ly oy
  exact hr.inj i j x' y' hx1 hy1 hx2 hy2 hx3 hy3 hij
 ·refine hr.inn.next (fun i x hx=>?_) (fun _ _ hf=>hf)
  rw[T.get_set]at hx
  by_cases hi:i=b
  ·subst hi
   rw[if_pos rfl,hb]at hx
   simp only[Option.map_some,Option.some.injEq]at hx;subst hx;exact .inl ⟨_,hb,id,rfl,fun x ⟨i,h⟩=>⟨i,hslc i x h⟩⟩
  simp_all
 ·intro x o hx
  rw[hne x (fun e=>by rw[e,hfree.1]at hx;cases hx)]
  exact hr.fz x o hx
 ·intro x o hx
  rw[hne x (fun e=>by rw[e,hfree.2]at hx;cases hx)]
  exact hr.fr x o hx
theorem aJ2{B:Base}{F:Env}{st st':St}{w:World}(hr:RepW B F st w){t:TypeId}{b:Nat}{ks:List CK}{e idx:E}{c:Nat}{x:E}{j:Nat}{v:SV}{cur p:E}(hx:(SV.nptr b ks e idx c x j).ok F)(hv:v.ok F)
  (hat:rd tb.facts st.pc st.heap b ks e idx c=.at cur p)(h:zu tb st t b ks x j v cur p=.skip st'):
  ∃a w',(SV.nptr b ks e idx c x j).den F=.pointer (some a)/\(storeVar t a (v.den F)).run P w=.ok () w'/\RepW B F st' w':=by
 obtain⟨h0,hk0,r,len,cap,le,he,hlt⟩:=hx
 obtain⟨ks0,l0,n0,tot0,ow0,elem0,k,hb,hko,hp0,hpk,hu,hks,hrow,hraw⟩:=Ev ht hr hat
 obtain⟨l,arr,el,hcur,hll,hc,hw,hsz,hfl⟩:=aeI hrow he hraw (by omega)
 have hL:cur.L F=l:=by unfold E.L;rw[hcur];rfl
 unfold zu at h;split at h
 ·rename_i sz hsz1;split at h
  ·have hjk:j<=ks.length:=by simp_all[bJ]
   split at h
   ·rename_i c' hc';have hLc:(ti cur).L F=l:=by rw[aEv,hL]
    have hm6:((x.I F).toNat+1)*ks.length<=((ti cur).L F).length:=by rw[hLc,hll];exact Nat.mul_le_mul_right _ hlt
    have hm7:((ti cur).L F).length<=arr.size:=by
     rw[hLc,hll,hsz]
     refine Nat.mul_le_mul_right _ ?_;have hrow':=hrow
     rw[hcur]at hrow'
     obtain⟨m,rfl⟩:∃m,cap=m+1:=⟨cap-1,by omega⟩
     exact hrow'.2.2.1
    obtain⟨p1,p2,p3,p4⟩:=MO h0 _ _ _ _ hc' (SV.cells_ok hv) hm6 hm7 (by simp_all)
    have hcl:(v.den F).cells.toList.length=v.cells.length:=by grind[SV.cells_den]
    have hle:(x.I F).toNat*ks.length+j+0+(v.den F).cells.toList.length<=arr.size:=by
     grind
    have hst:=run_storeCells_at (P:=P) r _ el _ 0 _ w hw hle (by
     intro y hy
     rw[SV.cells_den]at hy
     obtain⟨s,hs,rfl⟩:=List.mem_map.1 hy
     exact ph (p2 s hs) F)
    unfold M9 adw at h
    rw[hb]at h
    dsimp only at h
    rw[T.setK_eq]at h
    simp only[EffR.skip.injEq]at h;subst h;have hu':(E.fn 21 (.pr (ki cur) c')).den F=.bx (some ⟨r,0,none⟩) len cap (c'.L F):=by
     have hh:=Dy F cur
     rw[hcur]at hh
     obtain⟨l2,hl2⟩:=aeu hh
     show U.bx ((ki _).den F).adr ((ki _).den F).rlen ((ki _).den F).rcap _=_
     rw[hl2];rfl
    have hoc:gk (cur.den F)=some r:=by rw[hcur];obtain⟨m,rfl⟩:∃m,cap=m+1:=⟨cap-1,by omega⟩;rfl
    refine⟨⟨r,(x.I F).toNat*ks.length+j,none⟩,_,uh he,?_,RepW.putInner hr hb (k:=k) (r:=r) (u:=cur.den F) (u':=(E.fn 21 _).den F) hu hks hko hoc (by rw[hu'];obtain⟨m,rfl⟩:∃m,cap=m+1:=⟨cap-1,by omega⟩;rfl) (by rw[hu',hcur];rfl) (by rw[E.L_upd,hpk]) hw
     (arr':=(arr.toList.take ((x.I F).toNat*ks.length+j+0)++(v.den F).cells.toList++arr.toList.drop ((x.I F).toNat*ks.length+j+0+(v.den F).cells.toList.length)).toArray) ?_⟩
    ·have hs1:(v.den F).cells.size=sz:=by simp_all
     simp only[storeVar,Sem.run_bind,ht.run_size hsz1,Result.andThen_ok,hs1,ne_eq,not_true_eq_false,if_false,hst]
    ·rw[hu']
     obtain⟨m,rfl⟩:∃m,cap=m+1:=⟨cap-1,by omega⟩
     have hrow':=hrow
     rw[hcur]at hrow'
     refine⟨rfl,by simp_all,hrow'.2.2.1,_,el,by rw[uN hw,if_pos rfl],?_,?_⟩
     ·grind
     simp_all[SV.cells_den,SV.dens_eq]
   grind
  grind
 grind
theorem Nw{B:Base}{F:Env}{st st':St}{w:World}(hr:RepW B F st w){t:TypeId}{x v:SV}(hx:x.ok F)(hv:v.ok F)(h:rz tb st t x v=.skip st'):
  ∃a w',x.den F=.pointer (some a)/\(storeVar t a (v.den F)).run P w=.ok () w'/\RepW B F st' w':=by
 unfold rz at h;split at h
 ·grind[aJ2]
 ·rename_i b o;split at h
  ·rename_i ks l n ag elem hb;split at h
   ·rename_i idx j hat
    obtain⟨k1,k2,k3,k4,k5⟩:=oQ ht.facts hr.pc hat
    rw[bJ]at k1 k2 k4
    obtain⟨arr,h1,m2,m3,m4,m5,m6,m7,m8,m9,m10⟩:=Lc ht hr hb k3 k5
    have hb0:=(hr.blk _ _ hb).2.1;split at h
    ·rename_i sz hsz;split at h
     ·rename_i hc;have hlen:=Nat.eq_of_beq_eq_true hc;split at h
      ·rename_i l' hl'
       rw[T.setK_eq]at h
       simp only[EffR.skip.injEq]at h;subst h
       obtain⟨p1,p2,p3,p4⟩:=MO k3 _ _ _ _ hl' (SV.cells_ok hv) m6 m7 m4
       have hcl:(v.den F).cells.toList.length=v.cells.length:=by grind[SV.cells_den]
       have hle:(idx.I F).toNat*ks.length+j+0+(v.den F).cells.toList.length<=arr.size:=by
        grind
       have hst:=run_storeCells_at (P:=P) _ _ _ _ 0 _ w h1 hle (by
        intro y hy
        rw[SV.cells_den]at hy
        obtain⟨s,hs,rfl⟩:=List.mem_map.1 hy
        exact ph (p2 s hs) F)
       refine⟨⟨F.blk b,(idx.I F).toNat*ks.length+j,none⟩,_,by rw[SV.den,k4,m3,Nat.zero_add],?_,RepW.put hr hb m10 h1 (arr':=(arr.toList.take ((idx.I F).toNat*ks.length+j+0)++(v.den F).cells.toList++arr.toList.drop ((idx.I F).toNat*ks.length+j+0+(v.den F).cells.toList.length)).toArray) ?_⟩
       ·have hs1:(v.den F).cells.size=sz:=by simp_all
        simp only[storeVar,Sem.run_bind,ht.run_size hsz,Result.andThen_ok,hs1,ne_eq,not_true_eq_false,if_false,hst]
       ·intro w' hw'
        obtain⟨g1,g2,g3,g4,_⟩:=hb0
        refine⟨g1,by omega,g3,g4,fun _=>⟨m2,m3,_,hw',?_,?_⟩⟩
        ·simp_all[SV.cells_den,SV.dens_eq]
        ·simp only[List.size_toArray,List.length_append,List.length_take,List.length_drop,Array.length_toList]at hle ⊢;omega
      grind
     grind
    grind
   all_goals simp_all
  ·rename_i ks l n ag elem ow hb;split at h
   ·rename_i idx j hat
    obtain⟨k1,k2,k3,k4,k5⟩:=oQ ht.facts hr.pc hat
    rw[bJ]at k1 k2 k4
    obtain⟨arr,h1,m2,m3,m4,m5,m6,m7,m8,m9,m10⟩:=yT ht hr hb k3 k5
    have hb0:=(hr.blk _ _ hb).2.1;split at h
    ·rename_i sz hsz;split at h
     ·rename_i hc
      rw[Bool.and_eq_true]at hc
      split at h
      ·rename_i l' hl'
       rw[T.setK_eq]at h
       simp only[EffR.skip.injEq]at h;subst h;have hown:∀i r,fv ks (ow.I F*ks.length) (l.L F) i r->r≠F.blk b:=fun i r hs e=>((hr.inn b _ hb r ⟨i,hs⟩).2 b _ hb).1 m10 e.symm
       obtain⟨p1,p2,p3,p4,p5⟩:=aeo k3 _ _ _ _ hl' hc.2 (SV.cells_ok hv) m6 m7 m4
       have hcl:(v.den F).cells.toList.length=v.cells.length:=by grind[SV.cells_den]
       have hle:(idx.I F).toNat*ks.length+j+0+(v.den F).cells.toList.length<=arr.size:=by
        grind
       have hst:=run_storeCells_at (P:=P) _ _ _ _ 0 _ w h1 hle (by
        intro y hy
        rw[SV.cells_den]at hy
        obtain⟨s,hs,rfl⟩:=List.mem_map.1 hy
        simp_all[ph])
       refine⟨⟨F.blk b,(idx.I F).toNat*ks.length+j,none⟩,_,by rw[SV.den,k4,m3,Nat.zero_add],?_,RepW.putObj hr hb m10 (w':=w.setRow _ (arr.toList.take ((idx.I F).toNat*ks.length+j+0)++(v.den F).cells.toList++arr.toList.drop ((idx.I F).toNat*ks.length+j+0+(v.den F).cells.toList.length)).toArray) (fun r hr=>by rw[uN h1,if_neg hr]) rfl rfl rfl ?_ (fun r ⟨i,hs⟩=>⟨i,p5 i r hs⟩)⟩
       ·have hs1:(v.den F).cells.size=sz:=by simp_all
        simp only[storeVar,Sem.run_bind,ht.run_size hsz,Result.andThen_ok,hs1,ne_eq,not_true_eq_false,if_false,hst]
       ·obtain⟨g1,g2,g3,g4,g5,_⟩:=hb0
        refine⟨g1,by omega,g3,g4,fun i j x a b=>g5 i j x (p5 i x a) (p5 j x b),fun _=>⟨m2,m3,_,by rw[uN h1,if_pos rfl],?_,?_⟩⟩
        ·rw[hcl,Nat.add_zero,SV.cells_den,<- SV.dens_eq]
         exact p4.world fun i r hs=>by rw[uN h1,if_neg (hown i r (p5 i r hs))]
        ·simp only[List.size_toArray,List.length_append,List.length_take,List.length_drop,Array.length_toList]at hle ⊢;omega
      ·cases h
     ·cases h
    ·cases h
   all_goals simp_all
  grind
 grind
omit ht in
theorem ie{fs pc:List E}{F:Env}(hf:∀x∈fs,∀F,x.B F=true)(hp:∀x∈pc,x.B F=true){a b:E}(h:cM fs pc a b=true):a.I F<=b.I F:=oR hf hp h
omit ht in
theorem aD4{fs pc:List E}{F:Env}(hf:∀x∈fs,∀F,x.B F=true)(hp:∀x∈pc,x.B F=true){c lo hi mx:E}{hlo hhi hmx:Bool}(h:J4 fs pc c lo hi mx hlo hhi hmx=none):
  (hlo=true->0<=lo.I F)/\(hhi=true->0<=hi.I F)/\(hmx=true->0<=mx.I F/\mx.I F<=c.I F)/\(hhi=true->hi.I F<=mx.I F)/\(hlo=true->lo.I F<=hi.I F):=by
 unfold J4 at h;repeat' split at h
 all_goals first | (cases h) | skip
 rename_i h1 _ h2 _ h3 _ h4 _ h5 _ h6;have nn:=fun {e:E}=>gO (e:=e) hf hp
 have le:=fun {a b:E}=>ie (a:=a) (b:=b) hf hp
 simp_all
omit ht in
theorem aEG{fs pc:List E}{F:Env}(hf:∀x∈fs,∀F,x.B F=true)(hp:∀x∈pc,x.B F=true){len cap lo hi mx:E}{hlo hhi hmx:Bool}(h:Ku fs pc len cap lo hi mx hlo hhi hmx=none):
  (hlo=true->0<=lo.I F)/\(hhi=true->0<=hi.I F)/\(hmx=true->0<=mx.I F/\(mx.I F<=cap.I F\/mx.I F<=len.I F))/\(hhi=true->hi.I F<=len.I F)/\(hmx=true->hi.I F<=mx.I F)/\(hlo=true->lo.I F<=hi.I F):=by
 unfold Ku at h;repeat' split at h
 all_goals first | (cases h) | skip
 have nn:=fun {e:E}=>gO (e:=e) hf hp
 have le:=fun {a b:E}=>ie (a:=a) (b:=b) hf hp
 grind
omit ht in
theorem MZ{x:SV}{e:E}{d:E}(hx:eh d (some x)=some e){F:Env}{y:Nat}(h0:0<=e.I F)(hy:e.I F<=(y:Int))(code:BoundsCode)(w:World):(Instr.sliceBound (x.den F) y code).run P w=.ok (e.I F).toNat w:=by
 cases x<;>simp[eh]at hx;simp_all[Instr.sliceBound,SV.den,asIntOf]
omit ht in
theorem aeL(isSlice:Bool){lo hi mx:Option SV}{l c lo' hi' mx':E}(e1:eh (.int 0) lo=some lo')(e2:eh l hi=some hi')(e3:eh c mx=some mx')(hmh:(gd mx && !(gd hi))=false){F:Env}
  {len cap:Nat}(hl:(l.I F).toNat=len)(hc:(c.I F).toNat=cap)
  (b1:gd lo=true->0<=lo'.I F)(b2:gd hi=true->0<=hi'.I F)(b3:gd mx=true->0<=mx'.I F/\(mx'.I F).toNat<=cap)(b4:gd hi=true->(hi'.I F).toNat<=(mx'.I F).toNat)(b5:gd lo=true->(lo'.I F).toNat<=(hi'.I F).toNat)(w:World):
  (Instr.sliceBounds isSlice len cap (ee F lo) (ee F hi) (ee F mx)).run P w=.ok ((lo'.I F).toNat,(hi'.I F).toNat,(mx'.I F).toNat) w:=by
 have hm:∀x,mx=some x->∀code,(Instr.sliceBound (x.den F) cap code).run P w=.ok (mx'.I F).toNat w:=by
  rintro x rfl code
  obtain⟨q1,q2⟩:=b3 rfl
  grind[MZ]
 have hh:∀x,hi=some x->∀code,(Instr.sliceBound (x.den F) (mx'.I F).toNat code).run P w=.ok (hi'.I F).toNat w:=by
  rintro x rfl code
  have q1:=b2 rfl;have q2:=b4 rfl;grind[MZ]
 have hl':∀x,lo=some x->∀code,(Instr.sliceBound (x.den F) (hi'.I F).toNat code).run P w=.ok (lo'.I F).toNat w:=by
  rintro x rfl code
  have q1:=b1 rfl;have q2:=b5 rfl;grind[MZ]
 subst hl;subst hc;cases mx with
 |none=>
  simp only[eh,Option.some.injEq]at e3;subst e3;cases hi with
  |none=>
   simp only[eh,Option.some.injEq]at e2;subst e2;cases lo with
   |none=>simp only[eh,Option.some.injEq]at e1;subst e1;rfl
   |some x=>simp[Instr.sliceBounds,ee,hl' x _]
  |some y=>
   cases lo with
   |none=>simp only[eh,Option.some.injEq]at e1;subst e1;simp[Instr.sliceBounds,ee,hh y _]
   |some x=>simp[Instr.sliceBounds,ee,hh y _,hl' x _]
 |some z=>
  cases hi with
  |none=>grind[gd]
  |some y=>
   cases lo with
   |none=>simp only[eh,Option.some.injEq]at e1;subst e1;simp[Instr.sliceBounds,ee,hm z _,hh y _]
   |some x=>simp[Instr.sliceBounds,ee,hm z _,hh y _,hl' x _]
theorem aeM{t elem:TypeId}{sz:Nat}(hu:tb.und t=some (.slice elem))(hsz:cy tb elem=some sz){a:Option Addr}{len cap l h m:Nat}{lo hi mx:Option Value}{w:World}(hb:(Instr.sliceBounds true len cap lo hi mx).run P w=.ok (l,h,m) w):
  (Instr.sliceAt t (.slice a len cap) lo hi mx).run P w=.ok (.slice (if m=l then a else a.map (·.add (l*sz))) (h-l) (m-l)) w:=by
 simp only[Instr.sliceAt,Sem.run_bind,ht.run_und hu,Result.andThen_ok,Instr.slice,hb,ht.run_size hsz,Sem.run_pure]
omit ht in
theorem SlOk.cut{fz:Nat->Option Obj}{ks:List CK}{u:U}(hk:SlOk fz ks u){w l h m:Nat}(hw:w=ks.length)(hw0:0<w)(h1:l<=h)(h2:h<=u.rlen)(h3:h<=m)(h4:m<=u.rcap):SlOk fz ks (U.cut w u l h m):=by
 subst hw;cases hk with
 |nil=>
  simp only[U.rcap]at h2 h4;have e1:h=0:=by omega
  have e2:m=0:=by omega
  subst e1;subst e2;simp[U.cut,U.adr];exact .nil
 |empty a=>
  simp only[U.rcap]at h2 h4;have e1:h=0:=by omega
  have e2:m=0:=by omega
  have e3:l=0:=by omega
  subst e1;subst e2;subst e3;simp[U.cut];exact .empty a
 |mk hl hc hz hv hs=>
  rename_i r off len cap L arr elem fr;simp only[U.rlen]at h2 h4;have hL:(U.bx (some ⟨r,off,none⟩) len cap L).toL=L:=rfl;have hlen:((L.take (h*ks.length)).drop (l*ks.length)).length=(h-l)*ks.length:=by
   simp_all[Nat.sub_mul]
  have hget:∀i u,((L.take (h*ks.length)).drop (l*ks.length))[i]?=some u->L[l*ks.length+i]?=some u/\m≠l:=by
   grind
  unfold U.cut;have hadr:(if m=l then(U.bx (some ⟨r,off,none⟩) len cap L).adr else(U.bx (some ⟨r,off,none⟩) len cap L).adr.map (·.add (l*ks.length)))=some ⟨r,if m=l then off else off+l*ks.length,none⟩:=by
   grind[U.adr,eO]
  rw[hadr]
  refine .mk hlen (by omega) (fun hne=>hz ?_) ?_ ?_ (arr:=arr) (elem:=elem) (fr:=fr)
  ·grind
  ·intro i u hu
   obtain⟨q1,q2⟩:=hget i u hu
   obtain⟨c,g1,g2⟩:=hv _ _ q1
   simp_all[Nat.add_assoc]
  grind[Nat.mul_comm,Nat.mul_add_mod]
end
end Go.SX

namespace Go.SX
section
variable {P:Program} {tb:Tab} (ht:TabOk P tb)
include ht
omit ht in
theorem pe{a b:E}{F:Env}(h0:0<=b.I F)(h:b.I F<=a.I F):((iR a b).I F).toNat=(a.I F).toNat-(b.I F).toNat:=by
 rw[acr];omega
omit ht in
theorem zN{e:E}(h:rO e=true):e=.int 0:=by
 unfold rO at h;split at h;all_goals simp_all
omit ht in
theorem Ep{fs pc:List E}{F:Env}(hf:∀x∈fs,∀F,x.B F=true)(hp:∀x∈pc,x.B F=true){lo hi mx:E}{b:Bool}(h:Eo fs pc lo hi mx=some b):
  (b=true->lo.I F<mx.I F\/mx.I F≠lo.I F)/\(b=false->mx.I F=lo.I F):=by
 unfold Eo at h;split at h
 ·rename_i hc;simp only[Bool.and_eq_true]at hc;simp only[Option.some.injEq]at h;have h1:=jv hf hp hc.1;have h2:=ie hf hp hc.2;grind
 ·split at h
  ·rename_i hk;simp only[Option.some.injEq]at h;have:=dv hf hp hk;simp_all[dx,lm]
  ·rename_i hk;simp only[Option.some.injEq]at h;have:=dv hf hp hk;simp_all[dx,tj]
  ·cases h
omit ht in
theorem Y3(n:Nat)(a:Option Addr):a.map (·.add (0*n))=a:=by
 simp_all[Addr.add]
theorem aEH{B:Base}{st st':St}{sz:Nat}{x v:SV}{lo hi mx l c:E}{F:Env}{w:World}(hr:RepW B F st w)(hlc:LM x=some (l,c))(h:xI tb st sz x lo hi mx=.val v st')
  (hlo:0<=lo.I F)(hc:mx.I F=c.I F\/(0<=mx.I F/\mx.I F<=c.I F)):
  st'=st/\v.ok F/\∃a,x.den F=.slice a (l.I F).toNat (c.I F).toNat/\v.den F=.slice (if(mx.I F).toNat=(lo.I F).toNat then a else a.map (·.add ((lo.I F).toNat*sz))) ((hi.I F).toNat-(lo.I F).toNat) ((mx.I F).toNat-(lo.I F).toNat):=by
 have hp:=hr.pc;have le:=fun {a b:E}=>ie (a:=a) (b:=b) ht.facts hp
 unfold xI at h;split at h
 ·rename_i b l0 c0
  obtain⟨rfl,rfl⟩:=hlc
  split at h
  ·rename_i hz
   have:=zN hz;subst this
   obtain⟨rfl,rfl⟩:=h
   refine⟨rfl,by simp[SV.ok],F.base b,by rfl,?_⟩
   simp only[SV.den,E.I_int,Int.toNat_zero]
   rw[Y3];simp
  ·split at h
   ·rename_i hm;have hm':=(Ep ht.facts hp hm).2 rfl;split at h
    ·rename_i hcc;simp only[Bool.and_eq_true]at hcc;have h1:=le hcc.1;have h2:=le hcc.2;simp only[EffR.val.injEq]at h
     obtain⟨rfl,rfl⟩:=h
     refine⟨rfl,by simp[SV.ok],F.base b,by rfl,?_⟩
     grind[SV.den,E.I_int,Int.toNat_zero]
    ·cases h
   ·rename_i hm;have hm':=(Ep ht.facts hp hm).1 rfl;split at h
    ·rename_i own ks l' n ag elem hb;split at h
     ·rename_i hcc;simp only[Bool.and_eq_true]at hcc
      obtain⟨c1,c2,c3,c4,c5⟩:=hcc
      have c1':=le c1;have h2:=le c2;have h4:=le c4;have h5:=le c5;simp only[EffR.val.injEq]at h
      obtain⟨rfl,rfl⟩:=h
      have hlt:lo.I F<mx.I F:=by omega
      obtain⟨_,⟨g1,g2,g3,g4,g5⟩,_⟩:=hr.blk _ _ hb
      obtain⟨k1,k2,_⟩:=g5 (by omega)
      refine⟨rfl,by simp[SV.ok],F.base b,by rfl,?_⟩
      have hbase:F.base b=some ⟨F.blk b,0,none⟩:=by rw[dS k1,k2]
      simp only[SV.den,pe hlo h4,pe hlo (Int.le_of_lt hlt)]
      rw[if_neg (by omega),hbase,k2]
      simp[Off.den,eO,Nat.mul_comm]
     ·cases h
    ·rename_i own cs ag elem hb;split at h
     ·rename_i n hn
      have:=gg hn;subst this
      split at h
      ·rename_i hcc;simp only[Bool.and_eq_true]at hcc;have h4:=le hcc.1;have h5:=le hcc.2;simp only[EffR.val.injEq]at h
       obtain⟨rfl,rfl⟩:=h
       have hlt:(E.int (Int.ofNat n)).I F<mx.I F:=by omega
       obtain⟨_,⟨k1,k2,_⟩,_⟩:=hr.blk _ _ hb
       refine⟨rfl,by simp[SV.ok],F.base b,by rfl,?_⟩
       have hbase:F.base b=some ⟨F.blk b,0,none⟩:=by rw[dS k1,k2]
       simp only[SV.den,pe hlo h4,pe hlo (Int.le_of_lt hlt)]
       rw[if_neg (by omega),hbase,k2]
       simp[Off.den,eO]
      ·cases h
     ·cases h
    ·cases h
   ·cases h
 ·rename_i b o l0 c0;simp only[LM,Option.some.injEq,Prod.mk.injEq]at hlc
  obtain⟨rfl,rfl⟩:=hlc
  split at h
  ·rename_i hz
   have:=zN hz;subst this
   simp only[EffR.val.injEq]at h
   obtain⟨rfl,rfl⟩:=h
   refine⟨rfl,by simp[SV.ok],some _,by rfl,?_⟩
   simp only[SV.den,E.I_int,Int.toNat_zero,Nat.sub_zero]
   rw[Y3];simp
  ·split at h
   ·rename_i hm;have hm':=(Ep ht.facts hp hm).2 rfl;split at h
    ·rename_i hcc;simp only[Bool.and_eq_true]at hcc;have h1:=le hcc.1;have h2:=le hcc.2;simp only[EffR.val.injEq]at h
     obtain⟨rfl,rfl⟩:=h
     refine⟨rfl,by simp[SV.ok],some ⟨F.blk b,F.off b+o.den F,none⟩,by rfl,?_⟩
     simp only[SV.den,E.I_int,Int.toNat_zero];grind
    ·cases h
   ·rename_i hm;have hm':=(Ep ht.facts hp hm).1 rfl;split at h
    ·rename_i hcc;simp only[Bool.and_eq_true]at hcc;have h4:=le hcc.2.1;have h5:=le hcc.2.2;have hlt:lo.I F<mx.I F:=by omega
     split at h
     ·rename_i n hn
      have:=gg hn;subst this
      simp only[EffR.val.injEq]at h
      obtain⟨rfl,rfl⟩:=h
      refine⟨rfl,by simp[SV.ok],some ⟨F.blk b,F.off b+o.den F,none⟩,by rfl,?_⟩
      simp only[SV.den,pe hlo h4,pe hlo (Int.le_of_lt hlt)]
      rw[if_neg (by omega)]
      simp[xf,eO,Nat.add_assoc]
     ·split at h
      ·rename_i o' ho;simp only[EffR.val.injEq]at h
       obtain⟨rfl,rfl⟩:=h
       refine⟨rfl,by simp[SV.ok],some ⟨F.blk b,F.off b+o.den F,none⟩,by rfl,?_⟩
       simp only[SV.den,pe hlo h4,pe hlo (Int.le_of_lt hlt)]
       rw[if_neg (by omega),Y2 ht.facts hp hlo ho]
       simp[eO,Nat.add_assoc]
      ·cases h
    ·cases h
   ·cases h
 ·cases h
theorem ae0{B:Base}{st st':St}{t:TypeId}{x v:SV}{lo hi mx:Option SV}{F:Env}{w:World}(hr:RepW B F st w)(hx:x.ok F)(h:zm tb st t x lo hi mx=.val v st'):
  st'=st/\v.ok F/\(Instr.sliceAt t (x.den F) (ee F lo) (ee F hi) (ee F mx)).run P w=.ok (v.den F) w:=by
 have hp:=hr.pc;unfold zm at h;split at h
 ·rename_i elem hu;split at h
  ·rename_i sz hsz;split at h
   ·cases h
   ·rename_i hmh;split at h
    ·rename_i ks e;split at h
     ·rename_i hk;simp only[Bool.and_eq_true]at hk;have hks:ks.length=sz:=by simp_all[bJ]
      have hsz0:=dp.1 hk.2;split at h
      ·rename_i lo' hi' mx' e1 e2 e3;split at h
       ·cases h
       ·rename_i hcut
        obtain⟨rfl,rfl⟩:=h
        have hx':SlOk _ ks _:=hx
        obtain⟨q1,q2⟩:=uK hx' hks.symm hsz0
        have q3:=xx (e:=e) (F:=F)
        obtain⟨b1,b2,b3,b4,b5,b6⟩:=aEG ht.facts hp hcut
        have hlc:(e.den F).rlen<=(e.den F).rcap:=by
         generalize e.den F=u at hx';cases hx' with
         |nil=>simp[U.rlen,U.rcap]
         |empty=>simp[U.rlen,U.rcap]
         |mk _ hc _ _ _=>exact hc
        have hhl:(hi'.I F).toNat<=(e.den F).rlen:=by
         cases hi with
         |none=>grind[eh,Option.some.injEq]
         |some y=>have:=b4 rfl;omega
        have hmc:(mx'.I F).toNat<=(e.den F).rcap:=by
         cases mx with
         |none=>grind[eh,Option.some.injEq]
         |some y=>have:=(b3 rfl).2;omega
        have hhm:(hi'.I F).toNat<=(mx'.I F).toNat:=by
         cases mx with
         |none=>grind[eh,Option.some.injEq]
         |some y=>have:=b5 rfl;omega
        have hlh:(lo'.I F).toNat<=(hi'.I F).toNat:=by
         cases lo with
         |none=>simp only[eh,Option.some.injEq]at e1;subst e1;simp
         |some y=>have:=b6 rfl;omega
        have hcutE:(E.fn 24 (.pr (.pr (.int (.ofNat sz)) e) (.pr _ (.pr _ _)))).den F=U.cut sz (e.den F) (lo'.I F).toNat (hi'.I F).toNat (mx'.I F).toNat:=rfl;have hok:=hx'.cut hks.symm hsz0 hlh hhl hhm hmc
        refine⟨rfl,?_,?_⟩
        ·simp_all[SV.ok]
        ·have hd:(SV.bsl ks e).den F=.slice (e.den F).adr (e.den F).rlen (e.den F).rcap:=by grind[SV.den,zf]
         rw[hd,aeM ht hu hsz (aeL _ e1 e2 e3 (by omega) q1 q3 b1 b2 (fun e=>⟨(b3 e).1,hmc⟩) (fun _=>hhm) (fun _=>hlh) w)]
         rfl
      ·cases h
     ·cases h
    ·split at h
     ·rename_i l c hlc;split at h
      ·rename_i lo' hi' mx' e1 e2 e3;split at h
       ·cases h
       ·rename_i hb
        obtain⟨b1,b2,b3,b4,b5⟩:=aD4 ht.facts hp hb
        have hlo:0<=lo'.I F:=by
         cases lo with
         |none=>simp only[eh,Option.some.injEq]at e1;subst e1;simp
         |some y=>exact b1 rfl
        have hc:mx'.I F=c.I F\/(0<=mx'.I F/\mx'.I F<=c.I F):=by
         cases mx with
         |none=>simp only[eh,Option.some.injEq]at e3;subst e3;exact .inl rfl
         |some y=>exact .inr (b3 rfl)
        obtain⟨rfl,hok,a,hd,hv⟩:=aEH ht hr hlc h hlo hc
        refine⟨rfl,hok,?_⟩
        rw[hd,hv]
        exact aeM ht hu hsz (aeL true e1 e2 e3 (by simpa using hmh) rfl rfl b1 b2 (fun e=>⟨(b3 e).1,by have:=(b3 e).2;omega⟩) (fun e=>by have:=b4 e;omega) (fun e=>by have:=b5 e;omega) w)
      ·cases h
     ·cases h
  ·cases h
 ·cases h
omit ht in
theorem aau{a b:ByteArray}:jn a b=true↔a=b:=by
 unfold jn
 rw[CC]
 constructor
 ·intro h;cases a;simp_all
 simp_all
omit ht in
theorem Kf{t:TypeId}{d:TypeDesc}(h:P.underlying t=some d)(hd:d=.bool\/(∃k,d=.int k)\/d=.string)(v:Value)(em:Bool)(w:World):(Instr.checkKey em 10000 t v).run P w=.ok () w:=by
 have h1:=run_underlying h w;have key:∀n,(Instr.checkKey em (n+1) t v).run P w=.ok () w:=by
  intro n;unfold Instr.checkKey
  rw[Sem.run_bind,h1,Result.andThen_ok]
  rcases hd with rfl|⟨k,rfl⟩|rfl<;>rfl
 simp_all
omit ht in
def vf:TypeDesc->Prop
 |.array _ _=>True
 |_=>False
omit ht in
theorem aao{F:Env}:∀(xs ys:List SV)(n:Nat)(e:E),fO xs ys n=some e->xs.length=n/\ys.length=n/\
  (∀(i:Nat)(x y:SV),xs[i]?=some x->ys[i]?=some y->∃k a b,x=.int k a/\y=.int k b)/\(e.B F=true->SV.dens F xs=SV.dens F ys/\∀m,((SV.dens F ys).zip (SV.dens F xs)).all (fun p=>Instr.sameBits m p.1 p.2)=true)
 |[],[],0,e,h=>by
  simp only[fO,Option.some.injEq]at h;exact⟨rfl,rfl,fun i x y hx=>by simp at hx,fun _=>⟨rfl,fun m=>by simp[SV.dens]⟩⟩
 |x::xs,y::ys,n+1,e,h=>by
  simp only[fO]at h;split at h
  ·split at h
   ·rename_i e' hk he
    have:=fe hk;simp only[Option.some.injEq]at h;subst h
    obtain⟨h1,h2,h3,h4⟩:=aao (F:=F) xs ys n e' he
    refine⟨by simp[h1],by simp[h2],fun i x y hx hy=>?_,fun hb=>?_⟩
    ·grind
    ·rw[Ej,Bool.and_eq_true,dx,lm]at hb
     simp_all[SV.dens,SV.den,Instr.sameBits]
   ·cases h
  ·cases h
 |[],[],n+1,e,h=>by simp[fO]at h
 |[],_::_,_,e,h=>by simp[fO]at h
 |_::_,[],_,e,h=>by simp[fO]at h
 |x::xs,y::ys,0,e,h=>by simp[fO]at h
omit ht in
theorem MA{P:Program}{tb:Tab}(ht:TabOk P tb){elem:TypeId}{vs:List Value}{i:Nat}{v:Value}{w:World}(ha:iN tb elem=some false)(hv:vs[i]?=some v):(part elem vs.toArray i).run P w=.ok v w:=by
 simp only[part,Sem.run_bind,ht.run_agg ha];simp[hv]
omit ht in
theorem aap{P:Program}{tb:Tab}(ht:TabOk P tb){elem:TypeId}{kk:IntKind}(hu:tb.und elem=some (.int kk))(ha:iN tb elem=some false){F:Env}{w:World}{D:Nat}{xs ys:List SV}:
  ∀(xs' ys':List SV)(n i:Nat)(e:E),fO xs' ys' n=some e->xs.drop i=xs'->ys.drop i=ys'->
  (forIn (List.range' i n) ((none,()):Option Bool×Unit) (fun j (_:Option Bool×Unit)=>do
    let x <- part elem (SV.dens F xs).toArray (j*1)
    let y <- part elem (SV.dens F ys).toArray (j*1)
    let b <- Op.equalIn (D+1) elem x y
    if(!b)=true then pure (ForInStep.done (some false,()))else pure (ForInStep.yield (none,()))):Sem (Option Bool×Unit)).run P w=.ok (if e.B F then none else some false,()) w
 |[],[],0,i,e,h,_,_=>by simp only[fO,Option.some.injEq]at h;subst h;simp
 |x::xs',y::ys',n+1,i,e,h,hx,hy=>by
  simp only[fO]at h;split at h
  ·rename_i k a k' b;split at h
   ·rename_i e' hk he
    have:=fe hk;simp only[Option.some.injEq]at h;subst h
    have ih:=aap ht hu ha (F:=F) (w:=w) (D:=D) (xs:=xs) (ys:=ys) _ _ n (i+1) e' he (by rw[<- List.drop_drop,hx];rfl) (by rw[<- List.drop_drop,hy];rfl);have g1:xs[i]?=some (.int k a):=by have:=congrArg (·[0]?) hx;grind
    have g2:ys[i]?=some (.int k b):=by have:=congrArg (·[0]?) hy;grind
    have h1:(part elem (SV.dens F xs).toArray (i*1)).run P w=.ok (.int k (a.I F)) w:=by
     grind[MA,SV.dens_eq,SV.den]
    have h2:(part elem (SV.dens F ys).toArray (i*1)).run P w=.ok (.int k (b.I F)) w:=by
     grind[MA,SV.dens_eq,SV.den]
    have h3:(Op.equalIn (D+1) elem (.int k (a.I F)) (.int k (b.I F))).run P w=.ok ((aF .eql a b).B F) w:=by
     have hr:=ht.run_und hu w;simp only[Op.equalIn,Sem.run_bind,hr,Result.andThen_ok,if_true,Sem.run_pure,dx,cf]
    rw[List.range'_succ,List.forIn_cons,Sem.run_bind,Sem.run_bind,h1,Result.andThen_ok,Sem.run_bind,h2,Result.andThen_ok,Sem.run_bind,h3,Result.andThen_ok,Ej]
    cases hab:(aF _ a b).B F with
    |false=>simp
    |true=>
     simp_all
   ·cases h
  ·cases h
 |[],[],n+1,i,e,h,_,_=>by simp[fO]at h
 |[],_::_,_,i,e,h,_,_=>by simp[fO]at h
 |_::_,[],_,i,e,h,_,_=>by simp[fO]at h
 |x::xs,y::ys,0,i,e,h,_,_=>by simp[fO]at h
omit ht in
theorem aEQ{P:Program}{tb:Tab}(ht:TabOk P tb){t elem:TypeId}{len:Nat}{kk:IntKind}(hu:tb.und t=some (.array len elem))(hue:tb.und elem=some (.int kk))(hs:cy tb elem=some 1)(ha:iN tb elem=some false)
  {xs ys:List SV}{e:E}(h:fO xs ys len=some e)(F:Env)(w:World):(Op.equal t ((SV.agg xs).den F) ((SV.agg ys).den F)).run P w=.ok (e.B F) w:=by
 have hr:=ht.run_und hu w;have hsz:=ht.run_size hs w;have key:∀D,(Op.equalIn (D+1+1) t ((SV.agg xs).den F) ((SV.agg ys).den F)).run P w=.ok (e.B F) w:=by
  intro D;have hp:=aap ht hue ha (F:=F) (w:=w) (D:=D) (xs:=xs) (ys:=ys) xs ys _ 0 e h rfl rfl
  rw[Op.equalIn]
  simp only[Sem.run_bind,hr,Result.andThen_ok,SV.den,hsz]
  rw[Std.Legacy.Range.forIn_eq_forIn_range']
  simp only[Std.Legacy.Range.size,Nat.sub_zero,Nat.add_sub_cancel,Nat.div_one,hp];cases e.B F<;>simp
 exact key _
omit ht in
theorem ZM{P:Program}{tb:Tab}(ht:TabOk P tb){elem:TypeId}{kk:IntKind}(hu:tb.und elem=some (.int kk))(hs:cy tb elem=some 1)(ha:iN tb elem=some false){em:Bool}{w:World}{D:Nat}{vs:List Value}:
  ∀(n i:Nat),i+n=vs.length->(forIn (List.range' i n) PUnit.unit (fun j (_:PUnit)=>do
    let sz <- sizeOf elem
    let x <- part elem vs.toArray (j*sz)
    Instr.checkKey em (D+1) elem x
    pure (ForInStep.yield PUnit.unit)):Sem PUnit).run P w=.ok PUnit.unit w
 |0,i,_=>by simp
 |n+1,i,hn=>by
  have h1:(part elem vs.toArray (i*1)).run P w=.ok vs[i] w:=by grind[MA]
  have h2:(Instr.checkKey em (D+1) elem vs[i]).run P w=.ok () w:=by
   unfold Instr.checkKey
   rw[Sem.run_bind,ht.run_und hu w,Result.andThen_ok]
   rfl
  rw[List.range'_succ,List.forIn_cons,Sem.run_bind,Sem.run_bind,ht.run_size hs w,Result.andThen_ok,Sem.run_bind,h1,Result.andThen_ok,Sem.run_bind,h2,Result.andThen_ok,Sem.run_pure,Result.andThen_ok]
  exact ZM ht hu hs ha n _ (by omega)
omit ht in
theorem aEm{P:Program}{tb:Tab}(ht:TabOk P tb){t elem:TypeId}{len:Nat}{kk:IntKind}(hu:tb.und t=some (.array len elem))(hue:tb.und elem=some (.int kk))(hs:cy tb elem=some 1)(ha:iN tb elem=some false)
  {vs:List Value}(hl:vs.length=len)(em:Bool)(w:World):(Instr.checkKey em 10000 t (.agg vs.toArray)).run P w=.ok () w:=by
 have key:∀D,(Instr.checkKey em (D+1+1) t (.agg vs.toArray)).run P w=.ok () w:=by
  intro D
  rw[Instr.checkKey]
  rw[Sem.run_bind,ht.run_und hu w,Result.andThen_ok]
  simp only
  rw[Std.Legacy.Range.forIn_eq_forIn_range']
  simp only[Std.Legacy.Range.size,Nat.sub_zero,Nat.add_sub_cancel,Nat.div_one]
  rw[Sem.run_bind,ZM ht hue hs ha (vs:=vs) _ 0 (by omega)]
  rfl
 simp_all
omit ht in
theorem aaq{t:TypeId}{x y:SV}{e:E}(h:xQ tb t x y=some e)(F:Env):∃d,tb.und t=some d/\(Instr.sameNow d (x.den F) (y.den F)=some (e.B F)\/(vf d/\∀w,TabOk P tb->(Op.equal t (x.den F) (y.den F)).run P w=.ok (e.B F) w))/\(∀w (empty:Bool),TabOk P tb->(Instr.checkKey empty 10000 t (x.den F)).run P w=.ok () w)/\
  (e.B F=true->x.den F=y.den F/\Instr.sameBits 10000 (y.den F) (x.den F)=true):=by
 have eqs:=aat;unfold xQ at h;split at h
 ·rename_i len elem hu;split at h
  ·rename_i kk hue;split at h
   ·rename_i hs ha;split at h
    ·rename_i xs ys
     obtain⟨h1,h2,h3,h4⟩:=aao (F:=F) xs ys _ e h
     refine⟨_,hu,.inr ⟨trivial,fun w ht=>aEQ ht hu hue hs ha h F w⟩,fun w em ht=>?_,fun he=>?_⟩
     ·grind[SV.den,aEm,SV.dens_eq]
     simp_all[SV.den,Instr.sameBits,Bool.true_and]
    ·cases h
   ·cases h
  ·cases h
 ·rename_i hu;split at h
  ·refine⟨_,hu,?_,?_,?_⟩
   ·grind[Instr.sameNow,SV.den,L9]
   ·intro w em ht;exact Kf (ht.und hu) (by simp) _ em w
   grind[L9,SV.den,Instr.sameBits]
  ·cases h
 ·rename_i k0 hu;split at h
  ·split at h
   ·rename_i hk
    have:=fe hk;simp only[Option.some.injEq]at h;subst h
    refine⟨_,hu,?_,?_,?_⟩
    ·simp_all[Instr.sameNow,SV.den,dx,cf]
    ·intro w em ht;exact Kf (ht.und hu) (by simp) _ em w
    simp_all[dx,lm,SV.den,Instr.sameBits]
   ·cases h
  ·cases h
 ·rename_i hu;split at h
  ·rename_i a b;simp only[Option.some.injEq]at h;subst h
   refine⟨_,hu,?_,?_,?_⟩
   ·simp_all[Instr.sameNow,SV.den,En]
   ·intro w em ht;exact Kf (ht.und hu) (by simp) _ em w
   ·intro he
    rw[En]at he
    have:=aau.1 he
    refine⟨by simp[SV.den,this],?_⟩
    simp only[SV.den,this,Instr.sameBits]
    rw[<- eqs];exact aau.2 rfl
  ·cases h
 ·cases h
omit ht in
def EntL(F:Env)(el:List MapEntry)(es:List Ent):Prop:=
 el.length=es.length/\∀(i:Nat)(e:MapEntry)(x:Ent),el[i]?=some e->es[i]?=some x->e.key=x.k.den F/\e.val=x.v.den F/\(e.born:Int)=x.born.I F/\x.k.ok F/\x.v.ok F
omit ht in
theorem xM{F:Env}{entries:Array MapEntry}{es:List Ent}:entRep F entries es↔EntL F entries.toList es:=by
 grind[entRep,EntL]
omit ht in
theorem EntL.tail{F:Env}{e:MapEntry}{x:Ent}{el:List MapEntry}{es:List Ent}(h:EntL F (e::el) (x::es)):EntL F el es:=
 ⟨by have:=h.1;simp_all,fun i a b ha hb=>h.2 (i+1) a b (by simp_all) (by simp_all)⟩
omit ht in
def Finds(P:Program)(kt:TypeId)(d:TypeDesc)(k:Value)(el:List MapEntry)(i:Nat)(r:Option (Nat×Value)):Prop:=
 Instr.findNow d k el i=some r\/(vf d/\∀w,(Instr.findAsking kt k el i).run P w=.ok r w)
omit ht in
theorem aaP{P:Program}{kt:TypeId}{d:TypeDesc}(hd:vf d){k:Value}{el:List MapEntry}{i:Nat}{r:Option (Nat×Value)}(h:Instr.findNow d k el i=some r)(w:World):(Instr.findAsking kt k el i).run P w=.ok r w:=by
 cases el with
 |nil=>
  simp_all[Instr.findNow,Instr.findAsking]
 |cons e el=>
  cases d<;>simp[vf]at hd;simp[Instr.findNow,Instr.sameNow]at h
omit ht in
theorem Finds.asking{P:Program}{kt:TypeId}{d:TypeDesc}(hd:vf d){k:Value}{el:List MapEntry}{i:Nat}{r:Option (Nat×Value)}(h:Finds P kt d k el i r)(w:World):(Instr.findAsking kt k el i).run P w=.ok r w:=by
 rcases h with h|h
 all_goals grind[aaP]
omit ht in
theorem Finds.now{P:Program}{kt:TypeId}{d:TypeDesc}{a b:Value}{c:Bool}(hs:Instr.sameNow d a b=some c){k:Value}{el:List MapEntry}{i:Nat}{r:Option (Nat×Value)}(h:Finds P kt d k el i r):Instr.findNow d k el i=some r:=by
 rcases h with h|h
 ·exact h
 ·cases d<;>simp[vf]at h;simp[Instr.sameNow]at hs
omit ht in
def GR(P:Program)(kt:TypeId)(F:Env)(d:TypeDesc)(k:SV)(el:List MapEntry)(es:List Ent)(i:Nat):FR->Prop
 |.at j v b=>∃m e x,j=i+m/\el[m]?=some e/\es[m]?=some x/\x.v=v/\x.born=b/\Finds P kt d (k.den F) el i (some (j,e.val))/\k.den F=e.key/\Instr.sameBits 10000 e.key (k.den F)=true
 |.no=>Finds P kt d (k.den F) el i none
 |_=>True
theorem Dl{F:Env}{pc:List E}(hp:∀x∈pc,x.B F=true){kt:TypeId}{k:SV}{d:TypeDesc}(hd:tb.und kt=some d):∀(es:List Ent)(el:List MapEntry)(i:Nat),EntL F el es->
  GR P kt F d k el es i (oN tb pc kt k es i)
 |[],el,i,he=>by
  have:el=[]:=by have:=he.1;simp_all
  simp_all[oN,GR,Finds,Instr.findNow]
 |x::es,[],i,he=>by have:=he.1;simp_all
 |x::es,e::el,i,he=>by
  obtain⟨k1,k2,k3,k4,k5⟩:=he.2 0 e x rfl rfl
  have ih:=Dl hp (k:=k) hd es el (i+1) he.tail;simp only[oN];split
  ·rename_i q hq
   obtain⟨d',hd',hs,_,hb⟩:=aaq (P:=P) hq F
   rw[hd]at hd'
   simp only[Option.some.injEq]at hd';subst hd'
   rw[<- k1]at hs hb
   split
   ·rename_i hk;have hk':=dv ht.facts hp hk
    obtain⟨h1,h2⟩:=hb hk'
    refine⟨0,e,x,rfl,rfl,rfl,rfl,rfl,?_,h1,h2⟩
    rcases hs with hs|⟨hw,hs⟩
    ·left;simp_all[Instr.findNow]
    ·right;simp_all[Instr.findAsking,Sem.run_pure]
   ·rename_i hk;have hk':=dv ht.facts hp hk;have hstep:∀r,Finds P kt d (k.den F) el (i+1) r->Finds P kt d (k.den F) (e::el) i r:=by
     intro r hr;rcases hs with hs|⟨hw,hs⟩
     ·left
      have:=hr.now hs
      simp_all[Instr.findNow]
     ·right
      refine⟨hw,fun w=>?_⟩
      have:=hr.asking hw w
      simp_all[Instr.findAsking,if_false]
    revert ih
    cases oN tb pc kt k es _ with
    |«at» j v b=>
     rintro⟨m,e',x',g1,g2,g3,g4,g5,g6,g7,g8⟩
     exact⟨m+1,e',x',by omega,by simp_all,by simp_all,g4,g5,hstep _ g6,g7,g8⟩
    |no=>simp_all[GR]
    |ask e=>intro _;trivial
    |bad=>intro _;trivial
   ·trivial
  ·trivial
omit ht in
theorem iY{kt:TypeId}{d:TypeDesc}(h:P.underlying kt=some d){k:Value}{el:List MapEntry}{r:Option (Nat×Value)}(hr:Finds P kt d k el 0 r)(w:World):(Instr.findKey kt k el).run P w=.ok r w:=by
 have h1:=run_underlying h w;unfold Instr.findKey
 rw[Sem.run_bind,h1,Result.andThen_ok]
 rcases hr with hr|⟨hw,hr⟩
 ·simp_all
 ·cases hn:Instr.findNow d k el 0 with
  |none=>exact hr w
  |some r'=>
   have:=aaP (P:=P) (kt:=kt) hw hn w
   simp_all
theorem LI{kt:TypeId}{k:SV}(h:qX tb kt k=true)(F:Env):∃d,tb.und kt=some d/\∀w (em:Bool),(Instr.checkKey em 10000 kt (k.den F)).run P w=.ok () w:=by
 unfold qX at h;split at h
 ·rename_i e he
  obtain⟨d,hd,_,hc,_⟩:=aaq (P:=P) he F
  simp_all
 ·cases h
omit ht in
theorem Dm{k q:IntKind}{c:CK}{fz:Nat->Option Obj}(x:Int):∀(L:List U)(el:List MapEntry)(i:Nat),el.length=L.length->
  (∀(j:Nat)(e:MapEntry)(u:U),el[j]?=some e->L[j]?=some u->e.key=.int k u.fst.toI/\e.val=c.val u.snd/\c.ok fz u.snd)->
  (cG x L=none/\Instr.findNow (.int q) (.int k x) el i=some none/\(∀v,cC x v L=L++[.lst [.int x,v]])/\q9 x L=L)\/
  (∃j e u,el[j]?=some e/\L[j]?=some u/\u.fst.toI=x/\cG x L=some u.snd/\Instr.findNow (.int q) (.int k x) el i=some (some (i+j,e.val))/\
   (∀v,cC x v L=L.set j (.lst [.int x,v]))/\q9 x L=L.eraseIdx j)
 |[],[],i,_,_=>.inl ⟨rfl,rfl,fun _=>rfl,rfl⟩
 |u::L,[],i,h,_=>by simp at h
 |[],e::el,i,h,_=>by simp at h
 |u::L,e::el,i,hl,h=>by
  obtain⟨k1,k2,k3⟩:=h 0 e u rfl rfl
  by_cases hx:u.fst.toI=x
  ·right
   refine⟨0,e,u,rfl,rfl,hx,by simp[cG,hx],?_,fun v=>by simp[cC,hx],by simp[q9,hx]⟩
   simp_all[Instr.findNow,Instr.sameNow]
  ·have hx':¬x=u.fst.toI:=fun e=>hx e.symm
   rcases Dm (q:=q) x L el (i+1) (by simp_all) (fun j e' u' he hu=>h (j+1) e' u' (by simp_all) (by simp_all))with⟨h1,h2,h3,h4⟩ | ⟨j,e',u',h1,h2,h3,h4,h5,h6,h7⟩
   ·left
    refine⟨by simp_all[cG],?_,fun v=>by simp_all[cC],by simp_all[q9]⟩
    have hb:(x==u.fst.toI)=false:=by simp_all
    simp only[Instr.findNow,k1,Instr.sameNow,if_true,hb,h2]
   ·right
    refine⟨j+1,e',u',by simp_all,by simp_all,h3,by simp_all[cG],?_,fun v=>by simp_all[cC],by simp_all[q9]⟩
    simp only[Instr.findNow,Instr.sameNow];grind
omit ht in
theorem LH{kt:TypeId}{k:IntKind}{ke:E}(h:qX tb kt (.int k ke)=true):∃q,tb.und kt=some (.int q):=by
 grind[qX,xQ]
omit ht in
theorem ZS(ok:Bool)(v:SV)(b:E)(F:Env):(jl ok v b).den F=(if ok then .tuple #[v.den F,.bool (b.B F)] else v.den F):=by
 grind[jl,SV.den,SV.dens]
omit ht in
theorem ZT{ok:Bool}{v:SV}{b:E}{F:Env}(hv:v.ok F):(jl ok v b).ok F:=by
 cases ok<;>simp[jl,SV.ok,SV.oks,hv]
omit ht in
theorem Kl(ok:Bool)(v:SV)(b:Bool)(F:Env):(jl ok v (.bool b)).den F=(if ok then .tuple #[v.den F,.bool b] else v.den F):=by
 cases ok<;>simp[jl,SV.den,SV.dens]
omit ht in
theorem Km{ok:Bool}{v:SV}{b:Bool}{F:Env}(hv:v.ok F):(jl ok v (.bool b)).ok F:=by
 cases ok<;>simp[jl,SV.ok,SV.oks,hv]
theorem aca{B:Base}{st st':St}{t:TypeId}{x k v:SV}{ok:Bool}{F:Env}{w:World}(hr:RepW B F st w)(h:yG tb st t x k ok=.val v st'):
  st'=st/\v.ok F/\(Instr.lookup t (x.den F) (k.den F) ok).run P w=.ok (v.den F) w:=by
 have hp:=hr.pc;unfold yG at h;split at h
 ·rename_i kt vt hu;split at h
  ·rename_i z hz hkf
   obtain⟨d,hd,hck⟩:=LI ht hkf F
   have hz':=ht.run_zero hz F w;split at h
   ·obtain⟨rfl,rfl⟩:=h
    refine⟨rfl,Km (i6 hz F),?_⟩
    simp only[Instr.lookup,Sem.run_bind,ht.run_und hu,Result.andThen_ok,SV.den,Sem.run_pure,hck,iY (ht.und hd) (r:=none) (el:=[]) (.inl rfl),hz',Kl]
   ·rename_i b;split at h
    ·rename_i own es clk hb
     obtain⟨_,⟨entries,clock,h1,h2,h3,_⟩,_⟩:=hr.blk _ _ hb
     have hg:(getObj (F.blk b)).run P w=.ok (.map entries clock) w:=by simp[getObj,Sem.run,h1]
     have hf:=Dl ht hp hd (k:=k) es _ 0 (xM.1 h3);split at h
     ·rename_i j v' s hfs
      rw[hfs]at hf
      obtain⟨m,e,y,g1,g2,g3,g4,g5,g6,g7,g8⟩:=hf
      obtain⟨rfl,rfl⟩:=h
      obtain⟨_,q2,_,_,q5⟩:=(xM.1 h3).2 m e y g2 g3
      rw[g4]at q2 q5
      refine⟨rfl,Km q5,?_⟩
      simp only[Instr.lookup,Sem.run_bind,ht.run_und hu,Result.andThen_ok,SV.den,Sem.run_pure,hg,hck,iY (ht.und hd) g6,Kl,q2]
     ·rename_i hfs
      rw[hfs]at hf
      obtain⟨rfl,rfl⟩:=h
      refine⟨rfl,Km (i6 hz F),?_⟩
      simp only[Instr.lookup,Sem.run_bind,ht.run_und hu,Result.andThen_ok,SV.den,Sem.run_pure,hg,hck,iY (ht.und hd) hf,hz',Kl]
     all_goals simp_all
    ·rename_i own k0 c e hb
     obtain⟨_,⟨entries,clock,h1,h2,_⟩,_⟩:=hr.blk _ _ hb
     have hg:(getObj (F.blk b)).run P w=.ok (.map entries clock) w:=by simp[getObj,Sem.run,h1]
     split at h
     ·rename_i k1 ke ze hfz
      obtain⟨q,hq⟩:=LH hkf
      rw[hq]at hd
      simp only[Option.some.injEq]at hd;subst hd
      obtain⟨z1,_,z3⟩:=mZ hfz (i6 hz F)
      split at h
      ·rename_i hk;have hk':=fe hk;subst hk';have hck0:∀w em,(Instr.checkKey em _ kt (.int k1 _)).run P w=.ok () w:=hck;simp only[EffR.val.injEq]at h
       obtain⟨rfl,rfl⟩:=h
       have e1:(E.fn 32 (.pr e (.pr ke ze))).den F=(cG (ke.I F) (e.L F)).getD (ze.den F):=rfl;have e2:(E.fn 33 (.pr e ke)).B F=(cG (ke.I F) (e.L F)).isSome:=rfl;rcases Dm (q:=q) (ke.I F) _ entries.toList 0 (by simpa using h2.1) (fun j e' u he hu=>h2.2 j e' u (by simp_all) hu)with⟨g1,g2,g3,g4⟩ | ⟨j,en,u,g1,g2,g3,g4,g5,g6,g7⟩
       ·refine⟨rfl,ZT (xA _ _ _ (by simp_all)),?_⟩
        simp only[Instr.lookup,Sem.run_bind,ht.run_und hu,Result.andThen_ok,SV.den,Sem.run_pure,hg,hck0,iY (ht.und hq) (.inl g2),hz',ZS,e2,g1,xz,e1,Option.getD_none,z1,Option.isSome_none]
       ·obtain⟨k1,k2,k3⟩:=h2.2 j en u (by simp_all) g2
        refine⟨rfl,ZT (xA _ _ _ (by simp_all)),?_⟩
        simp only[Instr.lookup,Sem.run_bind,ht.run_und hu,Result.andThen_ok,SV.den,Sem.run_pure,hg,hck0,iY (ht.und hq) (.inl g5),ZS,e2,g4,xz,e1,Option.getD_some,k2,Option.isSome_some]
      ·cases h
     ·cases h
    ·cases h
   ·cases h
  ·cases h
 ·cases h
end
end Go.SX

namespace Go.SX
theorem aGK(a b:Nat):Nat.beq a b=(a==b):=by
 grind[lj,Nat.eq_of_beq_eq_true]
section
variable {P:Program} {tb:Tab} (ht:TabOk P tb)
include ht
omit ht in
theorem aeO{B:Base}{F:Env}{st:St}{w:World}(hr:RepW B F st w){i j m n:Nat}{oi oj:Off}{o1 o2:Bool}{c1 c2:SV}{cs1 cs2:List SV}{t1 t2:E}{e1 e2:TypeId}
  (hi:st.heap.get i=some ⟨o1,.cells (c1::cs1) t1 e1⟩)(hj:st.heap.get j=some ⟨o2,.cells (c2::cs2) t2 e2⟩)(hm:fG oi=some m)(hn:fG oj=some n)(hown:(o1||o2)=true):
  (sameAddr ⟨F.blk i,F.off i+oi.den F,none⟩ ⟨F.blk j,F.off j+oj.den F,none⟩).run P w=.ok (Nat.beq i j&&Nat.beq m n) w:=by
 obtain⟨_,⟨_,z1,_,a1,h1,_,_⟩,_⟩:=hr.blk _ _ hi
 obtain⟨_,⟨_,z2,_,a2,h2,_,_⟩,_⟩:=hr.blk _ _ hj
 rw[iQ hm,iQ hn,z1,z2,Nat.zero_add,Nat.zero_add]
 have hbeq:=aGK;by_cases hij:i=j
 ·subst hij;simp only[sameAddr,beq_self_eq_true,if_true,Sem.run_pure,hbeq,Bool.true_and];congr 1;grind
 ·have hne:=hr.apart hi hj trivial trivial (by simpa using hown) hij;have hb:=by simpa using hne
  have hf:∀(b o:Nat)(arr:Array _)(e:TypeId),w.heap[b]?=some (.cells arr e (0,0))->w.frozen? ⟨b,o,none⟩=false:=by
   intro b o arr e h;simp[World.frozen?,h]
  have hs1:w.shape? (F.blk i)=some (e1,a1.size):=by simp[World.shape?,h1]
  have hs2:w.shape? (F.blk j)=some (e2,a2.size):=by simp[World.shape?,h2]
  have hij':=by simpa using hij
  simp[sameAddr,hb,hbeq,hij',run_frozen,hf _ _ _ _ h1,hf _ _ _ _ h2,noView,viewAt,hs1,hs2,mayBeOne,stringish]
omit ht in
theorem Zi(tb:Tab)(st:St)(e:E)(n:Nat)(f:Nat->Option SV)(st':St):oC tb st e n f≠.skip st':=by
 unfold oC;split
 ·rename_i j _;cases f j<;>simp[EffR.ofVal]
 ·simp
 ·simp
omit ht in
theorem aF3(tb:Tab)(st:St)(t:TypeId)(ks:List CK)(l i:E)(j:Nat)(st':St):o8 tb st t ks l i j≠.skip st':=by
 grind[o8]
omit ht in
theorem aF5(tb:Tab)(st:St)(t:TypeId)(b:Nat)(ks:List CK)(l i:E)(j:Nat)(st':St):yE tb st t b ks l i j≠.skip st':=by
 grind[yE]
omit ht in
theorem aJ3(tb:Tab)(st:St)(t:TypeId)(b:Nat)(ks:List CK)(x:E)(j:Nat)(v:SV)(cur p:E)(q:SV×St):zu tb st t b ks x j v cur p≠.val q.1 q.2:=by
 unfold zu M9;grind[T.setK_eq]
omit ht in
theorem ab9(tb:Tab)(st:St)(t:TypeId)(x:SV)(st':St):yF tb st t x≠.skip st':=by
 unfold yF;repeat' split
 all_goals simp_all[aF3,aF5]
omit ht in
theorem aJ1(tb:Tab)(st:St)(t:TypeId)(x v:SV)(p:SV×St):rz tb st t x v≠.val p.1 p.2:=by
 unfold rz;repeat' split
 all_goals simp_all[aJ3,T.setK_eq]
omit ht in
theorem aFB(tb:Tab)(st:St)(e l:E)(k:EffR)(st':St)(hk:k≠.skip st'):oU tb st e l k≠.skip st':=by
 grind[oU]
omit ht in
theorem abv(tb:Tab)(st:St)(t:TypeId)(x i:SV)(st':St):yf tb st t x i≠.skip st':=by
 unfold yf;repeat' split
 all_goals simp_all[Zi,aFB]
omit ht in
theorem abx(tb:Tab)(st:St)(t:TypeId)(x i:SV)(st':St):yg tb st t x i≠.skip st':=by
 unfold yg;grind[Zi]
omit ht in
theorem aFS(tb:Tab)(st:St)(e:E)(st':St):o4 tb st e≠.skip st':=by
 grind[o4]
omit ht in
theorem DT(tb:Tab)(st:St)(c:Bool)(t:TypeId)(x:SV)(st':St):tU tb st c t x≠.skip st':=by
 unfold tU;grind[aFS]
omit ht in
theorem aEI(tb:Tab)(st:St)(sz:Nat)(x:SV)(lo hi mx:E)(st':St):xI tb st sz x lo hi mx≠.skip st':=by
 unfold xI;repeat' split
 all_goals simp
omit ht in
theorem ae1(tb:Tab)(st:St)(t:TypeId)(x:SV)(lo hi mx:Option SV)(st':St):zm tb st t x lo hi mx≠.skip st':=by
 unfold zm;repeat' split
 all_goals simp_all[aEI]
omit ht in
theorem acb(tb:Tab)(st:St)(t:TypeId)(x k:SV)(ok:Bool)(st':St):yG tb st t x k ok≠.skip st':=by
 unfold yG;repeat' split
 all_goals simp
omit ht in
theorem aeF{F:Env}{z:List SV}(h:SV.oks F z):∀n,SV.oks F (lG z n)
 |0=>trivial
 |n+1=>by
  have ih:=aeF h n;grind[SV.oks_iff,lG]
def agP(P:Program)(B:Base)(F:Env)(t:Tm)(a:Act)(w:World)(o:Oper):EffR->Prop
 |.val v st'=>∃F' w',F.Ext F'/\RepW B F' st' w'/\TmRep F' t a/\v.ok F'/\(execOp a.eval o).run P w=.ok (.value (v.den F')) w'
 |.skip st'=>∃F' w',F.Ext F'/\RepW B F' st' w'/\TmRep F' t a/\(execOp a.eval o).run P w=.ok .skip w'
 |.ask _=>True
 |.lack _=>True
 |.bad=>True
omit ht in
theorem DU{c:Bool}{b:Builtin}(hb:b=(if c then .cap else .len))(ts:Array TypeId)(ty:TypeId)(cs:Array Bool)(vs:Array Value){v:Value}{w:World}(h:(oZ c ts ty vs).run P w=.ok v w):(builtin b ts ty cs vs).run P w=.ok (.value v) w:=by
 subst hb;cases c with
 |true=>exact dz h
 |false=>exact dz h
theorem aMh{F:Env}{st:St}{w:World}(hpc:∀e∈st.pc,e.B F=true){op:BinOp}{k k':IntKind}{x y:E}{ty:TypeId}{X Y:Operand}{v:SV}{st':St}
  (h:Fi tb st op k x k' y=.val v st'):
  st'=st/\v.ok F/\(do eqGuard op ty X Y (SV.den F (.int k x)) (SV.den F (.int k' y));binOp op ty (SV.den F (.int k x)) (SV.den F (.int k' y)):Sem Value).run P w=.ok (v.den F) w:=by
 unfold Fi at h;split at h
 ·rename_i hk
  have:=fe hk;subst this
  split at h
  ·rename_i hkn;have hb:=dv ht.facts hpc hkn
   rw[dx]at hb
   have hb':y.I F≠0:=by
    simp_all[cf]
   have hg:(eqGuard op ty X Y (SV.den F (.int k x)) (SV.den F (.int k y))).run P w=.ok () w:=
    xP op ty _ _ (by simp[SV.den]) (fun cs h=>by simp[SV.den]at h) X Y w
   rw[Sem.run_bind,hg,Result.andThen_ok]
   split at h
   ·cases h
    refine⟨rfl,by simp[SV.ok],?_⟩
    simp[binOp,Op.intDiv,SV.den,pd,jh,hb']
   ·cases h
    refine⟨rfl,by simp[SV.ok],?_⟩
    simp[binOp,Op.intDiv,SV.den,pd,jh,hb']
   ·cases h
  grind
 ·cases h
theorem aad{F:Env}{st:St}{w:World}(hpc:∀e∈st.pc,e.B F=true){op:BinOp}{k k':IntKind}{x y:E}{ty:TypeId}{X Y:Operand}{v:SV}{st':St}
  (h:qC tb st op k x k' y=.val v st'):
  st'=st/\v.ok F/\(do eqGuard op ty X Y (SV.den F (.int k x)) (SV.den F (.int k' y));binOp op ty (SV.den F (.int k x)) (SV.den F (.int k' y)):Sem Value).run P w=.ok (v.den F) w:=by unfold qC at h;cases h
omit ht in
theorem aHk{st st':St}{op:BinOp}{k k':IntKind}{x y:E}:Fi tb st op k x k' y≠.skip st':=by
 intro h;unfold Fi at h;grind
omit ht in
theorem aae{st st':St}{op:BinOp}{k k':IntKind}{x y:E}:qC tb st op k x k' y≠.skip st':=by
 cases op;all_goals grind[qC,aHk,shF]
theorem aEM{B:Base}{F:Env}{st:St}{w:World}{t:Tm}{a:Act}(hr:RepW B F st w)(hT:TmRep F t a)(o:Oper):
  agP P B F t a w o (mS tb t st o.op):=by
 have hev:=hT.eval;have hwf:=hT.wf;generalize hR:mS tb t st _=R
 rw[aah]at hR;unfold CX C1 CW CV CU C0 CY CS CQ CT CR CZ at hR
 split at hR;all_goals (rename_i ho)
 ·-- load
  split at hR
  ·rename_i x hx;split at hR
   ·rename_i v hl;subst hR
    obtain⟨ad,h1,h2⟩:=LX ht hr hl
    refine⟨F,w,Env.Ext.refl F,hr,hT,LY ht hr hl,?_⟩
    simp only[execOp,ho,hev _ _ hx];simp_all[Instr.loadAt,Instr.sureAddr,Result.andThen_ok]
   ·cases R with
    |val v st'=>
     obtain⟨rfl,hv,ad,h1,h2⟩:=ab8 ht hr (hwf _ _ hx) hR
     refine⟨F,w,Env.Ext.refl F,hr,hT,hv,?_⟩
     simp only[execOp,ho,hev _ _ hx];simp_all[Instr.loadAt,Instr.sureAddr,Result.andThen_ok]
    |skip st'=>simp_all[ab9]
    |_=>trivial
  ·subst hR;trivial
 ·-- store
  split at hR
  ·rename_i x y hx hy;split at hR
   ·rename_i st' hs;subst hR
    obtain⟨ad,w',h1,h2,h3⟩:=afx ht hr (hwf _ _ hy) hs
    refine⟨F,w',Env.Ext.refl F,h3,hT,?_⟩
    simp only[execOp,ho,hev _ _ hx,hev _ _ hy,h1];simp_all[pm,Instr.storeAt,Instr.sureAddr,Sem.run_bind,Sem.run_pure,Result.andThen_ok]
   ·cases R with
    |skip st'=>
     obtain⟨ad,w',h1,h2,h3⟩:=Nw ht hr (hwf _ _ hx) (hwf _ _ hy) hR
     refine⟨F,w',Env.Ext.refl F,h3,hT,?_⟩
     simp only[execOp,ho,hev _ _ hx,hev _ _ hy,h1];simp_all[pm,Instr.storeAt,Instr.sureAddr,Sem.run_bind,Sem.run_pure,Result.andThen_ok]
    |val v st'=>exact absurd hR (aJ1 _ _ _ _ _ (_,_))
    |_=>trivial
  ·subst hR;trivial
 ·-- indexAddr
  split at hR
  ·rename_i x y hx hy;cases R with
   |val v st'=>
    obtain⟨rfl,hv,h2⟩:=abu ht hr (hwf _ _ hx) hR
    refine⟨F,w,Env.Ext.refl F,hr,hT,hv,?_⟩
    simp only[execOp,ho,hev _ _ hx,hev _ _ hy];simp_all
   |skip st'=>simp_all[absurd,abv]
   |_=>trivial
  ·subst hR;trivial
 ·-- index
  split at hR
  ·rename_i x y hx hy;cases R with
   |val v st'=>
    obtain⟨rfl,hv,h2⟩:=abw ht hr.pc (hwf _ _ hx) hR w
    refine⟨F,w,Env.Ext.refl F,hr,hT,hv,?_⟩
    simp only[execOp,ho,hev _ _ hx,hev _ _ hy];simp_all
   |skip st'=>simp_all[absurd,abx]
   |_=>trivial
  ·subst hR;trivial
 ·-- len,cap
  rename_i c;split at hR
  ·rename_i b hb;split at hR
   ·rename_i ty vs hty hvs;split at hR
    ·rename_i x hx
     rw[dr]at hty hx
     have h1:=mU hev _ _ hvs;have e1:c.args.map a.eval=(SV.dens F vs).toArray:=by grind
     have hxok:=(SV.oks_iff _).1 (qI hwf _ _ hvs) x (List.mem_of_getElem? hx);have hx':∀(v:SV)(s:Sem _),builtin b c.argTypes o.type (c.args.map fun | .const _=>true | _=>false) (c.args.map a.eval)=s->s.run P w=.ok (.value (v.den F)) w->
       (execOp a.eval o).run P w=.ok (.value (v.den F)) w:=by
      grind[execOp,resolve,Sem.run_bind,Sem.run_pure,Result.andThen_ok,invoke]
     obtain⟨bE,hrest⟩:∃bE,c.argTypes=(ty::bE).toArray:=by
      cases ha:c.argTypes with
      |mk l=>rw[ha]at hty;cases l with
       |nil=>simp_all
       |cons t' l=>simp_all
     obtain⟨rv,hrv⟩:∃rv,SV.dens F vs=x.den F::rv:=by
      cases vs with
      |nil=>simp at hx
      |cons x' vs=>simp at hx;subst hx;exact⟨_,rfl⟩
     split at hR
     ·cases R with
      |val v st'=>
       obtain⟨rfl,hv,h2⟩:=DS ht hr hxok hR _ _ rv
       refine⟨F,w,Env.Ext.refl F,hr,hT,hv,?_⟩
       refine hx' v _ rfl ?_
       rw[e1,hrv,hrest]
       exact DU rfl _ _ _ _ h2
      |skip st'=>simp_all[absurd,DT]
      |_=>trivial
     ·cases R with
      |val v st'=>
       obtain⟨rfl,hv,h2⟩:=DS ht hr hxok hR _ _ rv
       refine⟨F,w,Env.Ext.refl F,hr,hT,hv,?_⟩
       refine hx' v _ rfl ?_
       rw[e1,hrv,hrest]
       exact DU rfl _ _ _ _ h2
      |skip st'=>simp_all[absurd,DT]
      |_=>trivial
     ·subst hR;trivial
    ·subst hR;trivial
   ·subst hR;trivial
  ·subst hR;trivial
 ·-- slice
  split at hR
  ·rename_i v1 v2 v3 v4 h1 h2 h3 h4;cases R with
   |val v st'=>
    obtain⟨rfl,hv,h5⟩:=ae0 ht hr (hwf _ _ h1) hR
    refine⟨F,w,Env.Ext.refl F,hr,hT,hv,?_⟩
    simp only[execOp,ho,hev _ _ h1,mV hev h2,mV hev h3,mV hev h4];simp_all
   |skip st'=>simp_all[absurd,ae1]
   |_=>trivial
  ·subst hR;trivial
 ·-- lookup
  split at hR
  ·rename_i x y hx hy;cases R with
   |val v st'=>
    obtain⟨rfl,hv,h5⟩:=aca ht hr hR
    refine⟨F,w,Env.Ext.refl F,hr,hT,hv,?_⟩
    simp only[execOp,ho,hev _ _ hx,hev _ _ hy];simp_all
   |skip st'=>simp_all[absurd,acb]
   |_=>trivial
  ·subst hR;trivial
 ·-- box
  split at hR
  ·rename_i x hx;cases hn:re t st _ _ with
   |none=>rw[hn]at hR;subst hR;trivial
   |some q=>
    obtain⟨v,st'⟩:=q
    rw[hn]at hR;subst hR
    obtain⟨rfl,F',w',h1,h2,h3,h0,_,h4⟩:=Mg (P:=P) hr hT (SV.cells_ok (hwf _ _ hx)) hn
    refine⟨F',w',h1,h2,h3,by simp[SV.ok],?_⟩
    simp only[execOp,ho,hev _ _ hx];refine dz ?_;simp only[Instr.box,newVar,Sem.run_bind,NP,h4,Result.andThen_ok,Sem.run_pure,SV.den,h0,Nat.zero_add];rfl
  ·subst hR;trivial
 ·-- alloc
  split at hR
  ·rename_i x hx;cases hn:re t st _ _ with
   |none=>rw[hn]at hR;subst hR;trivial
   |some q=>
    obtain⟨v,st'⟩:=q
    rw[hn]at hR;subst hR
    obtain⟨rfl,F',w',h1,h2,h3,h0,_,h4⟩:=Mg (P:=P) hr hT (SV.cells_ok (i6 hx F)) hn
    refine⟨F',w',h1,h2,h3,by simp[SV.ok],?_⟩
    simp only[execOp,ho];refine dz ?_;simp only[Instr.alloc,newVar,Sem.run_bind,ht.run_zero hx F w,NP,h4,Result.andThen_ok,Sem.run_pure,SV.den,h0,Nat.zero_add];rfl
  ·subst hR;trivial
 ·-- buildSlice
  rename_i ty len parts;split at hR
  ·rename_i elem ps hu hps;split at hR
   ·rename_i sz z hsz hz;split at hR
    ·rename_i hle;simp only[Bool.and_eq_true]at hle
     obtain⟨hle,hzs0⟩:=hle
     rw[Nat.ble_eq]at hle
     split at hR
     ·rename_i cs hcs;split at hR
      ·rename_i b off st' hn;subst hR;have hok:=KV _ _ _ hcs (aeF (SV.cells_ok (i6 hz F)) _) (KC hwf _ _ hps)
       obtain⟨hv,F',w',h1,h2,h3,h0,_,h4⟩:=Mg (P:=P) hr hT hok hn
       simp only[SV.ptr.injEq]at hv
       obtain⟨rfl,rfl⟩:=hv
       refine⟨F',w',h1,h2,h3,by simp[SV.ok],?_⟩
       have hp:=KB hev _ _ hps;simp only[execOp,ho];have e':(parts.map fun(i,x)=>(i,a.eval x))=(ps.map fun x=>(x.1,x.2.den F)).toArray:=by
        grind
       rw[e']
       refine dz ?_;have hf:=Di F _ _ _ _ hcs;have hzs:z.cells.length=sz:=Nat.eq_of_beq_eq_true hzs0;have hrep:=aHq z.cells F len
       rw[hzs]at hrep
       have hrep':((Array.range (len*sz)).map fun i=>(z.den F).cells[i%(z.den F).cells.size]!)=(SV.dens F (lG z.cells len)).toArray:=by
        grind[NP,Array.ext']
       have hgt:¬(len*sz>2^24):=by simp_all
       simp only[Instr.buildSlice,Sem.run_bind,ht.run_und hu,ht.run_size hsz,Result.andThen_ok,if_neg hgt,Sem.run_pure];have hfin:∀(zero:Array Value),((Array.range (len*sz)).map fun i=>zero[i%zero.size]!)=(SV.dens F (lG z.cells len)).toArray->
         Sem.run P (match Instr.fill (fun i=>some (i*sz,sz)) ((Array.range (len*sz)).map fun i=>zero[i%zero.size]!) (ps.map fun x=>(x.1,x.2.den F)).toArray.toList with
          |some cells=>(do pure (Value.slice (some (<- newRow elem cells)) len len):Sem Value)
          |_=>stuck "buildSlice: a part of the wrong size") w=.ok (SV.den F' (.slice st.nb ⟨0,0,.int 0⟩ (.int (.ofNat len)) (.int (.ofNat len)))) w':=by
        intro zero hz0;have hf':Instr.fill (fun i=>some (i*sz,sz)) (SV.dens F (lG z.cells len)).toArray (ps.map fun x=>(x.1,x.2.den F)).toArray.toList=some (SV.dens F cs).toArray:=hf
        rw[hz0,hf']
        simp only[Sem.run_bind,h4,Result.andThen_ok,Sem.run_pure,SV.den,h0,Nat.zero_add];rfl
       by_cases h0:len*sz=0
       ·simp only[if_pos h0,Sem.run_pure,Result.andThen_ok];refine hfin _ ?_;simp_all
       ·simp only[if_neg h0,Sem.run_bind,ht.run_zero hz F w,Result.andThen_ok,Sem.run_pure];exact hfin _ hrep'
      ·subst hR;trivial
     ·subst hR;trivial
    ·subst hR;trivial
   ·subst hR;trivial
  ·subst hR;trivial
 ·-- pointers
  rename_i op ty X Y yt;split at hR
  ·rename_i k1 x1 k2 y1 hx hy;generalize hd:qC tb st op k1 x1 k2 y1=D at hR;cases D with
   |val v st'=>
    subst hR
    obtain⟨rfl,h1,h2⟩:=aad (P:=P) (w:=w) (ty:=ty) (X:=X) (Y:=Y) ht hr.pc hd
    refine⟨F,w,Env.Ext.refl F,hr,hT,h1,?_⟩
    simp only[execOp,ho,hev _ _ hx,hev _ _ hy];exact dz h2
   |skip st'=>exact absurd hd aae
   |_=>subst hR;trivial
  ·rename_i i oi j oj hx hy;split at hR
   ·rename_i elem hu;split at hR
    ·rename_i n hsz;split at hR
     ·rename_i own1 c1 cs1 tot1 el1 own2 c2 cs2 tot2 el2 m k hi hj hm hk;cases hown:(own1||own2)with
      |false=>rw[hown]at hR;subst hR;trivial
      |true=>
       rw[hown]at hR
       simp only at hR;have hs:=aeO (P:=P) hr hi hj hm hk hown;have he:(Op.equal ty (SV.den F (.ptr i oi)) (SV.den F (.ptr j oj))).run P w=.ok (Nat.beq i j&&Nat.beq m k) w:=by
        have hD:∀D,(Op.equalIn (D+1) ty (SV.den F (.ptr i oi)) (SV.den F (.ptr j oj))).run P w=.ok (Nat.beq i j&&Nat.beq m k) w:=by
         intro D;simp only[Op.equalIn,Sem.run_bind,ht.run_und hu,Result.andThen_ok,SV.den,ht.run_size hsz,ne_eq,not_false_eq_true,if_true,Nat.succ_eq_add_one,Nat.add_one_ne_zero];omega
        exact hD 9999
       have hg:∀op,(eqGuard op ty X Y (SV.den F (.ptr i oi)) (SV.den F (.ptr j oj))).run P w=.ok () w:=
        fun op=>xP op ty _ _ (by simp[SV.den]) (fun cs h=>by simp[SV.den]at h) X Y w
       split at hR
       ·subst hR
        refine⟨F,w,Env.Ext.refl F,hr,hT,by simp[SV.ok],?_⟩
        simp only[execOp,ho,hev _ _ hx,hev _ _ hy];refine dz ?_
        rw[Sem.run_bind,hg,Result.andThen_ok]
        simp_all[binOp,SV.den,bool,Op.equal,Sem,Value,Sem.run_bind]
       ·subst hR
        refine⟨F,w,Env.Ext.refl F,hr,hT,by simp[SV.ok],?_⟩
        simp only[execOp,ho,hev _ _ hx,hev _ _ hy];refine dz ?_
        rw[Sem.run_bind,hg,Result.andThen_ok]
        simp_all[binOp,SV.den,bool,Op.equal,Sem,Value,Sem.run_bind]
       ·subst hR;trivial
     ·subst hR;trivial
    ·subst hR;trivial
   ·subst hR;trivial
  ·subst hR;trivial
 ·-- pick
  rename_i c x y;split at hR
  ·rename_i e hc;split at hR
   ·rename_i hk;have hk':=dv ht.facts hr.pc hk;generalize hv:bz t x=u at hR;cases u with
    |none=>subst hR;trivial
    |some v=>
     simp only[EffR.ofVal]at hR;subst hR
     exact⟨F,w,Env.Ext.refl F,hr,hT,hwf _ _ hv,by simp only[execOp,ho,hev _ _ hc,hev _ _ hv,SV.den,hk',asBool,Sem.run_bind,Sem.run_pure,Result.andThen_ok];rfl⟩
   ·rename_i hk;have hk':=dv ht.facts hr.pc hk;generalize hv:bz t y=u at hR;cases u with
    |none=>subst hR;trivial
    |some v=>
     simp only[EffR.ofVal]at hR;subst hR
     exact⟨F,w,Env.Ext.refl F,hr,hT,hwf _ _ hv,by simp only[execOp,ho,hev _ _ hc,hev _ _ hv,SV.den,hk',asBool,Sem.run_bind,Sem.run_pure,Result.andThen_ok];rfl⟩
   ·subst hR;trivial
  ·subst hR;trivial
 ·subst hR;trivial
def axZ(P:Program)(F:Env)(st:St)(a:Act)(w:World)(o:Oper):EffR->Prop
 |.val v st'=>st'=st/\v.ok F/\(execOp a.eval o).run P w=.ok (.value (v.den F)) w
 |_=>True
theorem aew{B:Base}{F:Env}{st:St}{w:World}{t:Tm}{a:Act}(hr:RepW B F st w)(hT:TmRep F t a)(o:Oper)(hro:MS o.op=true):
  axZ P F st a w o (mS tb t st o.op):=by
 have hev:=hT.eval;have hwf:=hT.wf;generalize hR:mS tb t st _=R
 rw[aah]at hR;unfold CX C1 CW CV CU C0 CY CS CQ CT CR CZ at hR
 split at hR;all_goals (rename_i ho)
 ·-- load
  split at hR
  ·rename_i x hx;split at hR
   ·rename_i v hl;subst hR
    obtain⟨ad,h1,h2⟩:=LX ht hr hl
    refine⟨rfl,LY ht hr hl,?_⟩
    simp only[execOp,ho,hev _ _ hx];simp_all[Instr.loadAt,Instr.sureAddr,Result.andThen_ok]
   ·cases R with
    |val v st'=>
     obtain⟨rfl,hv,ad,h1,h2⟩:=ab8 ht hr (hwf _ _ hx) hR
     refine⟨rfl,hv,?_⟩
     simp only[execOp,ho,hev _ _ hx];simp_all[Instr.loadAt,Instr.sureAddr,Result.andThen_ok]
    |skip st'=>simp_all[ab9]
    |_=>trivial
  ·subst hR;trivial
 ·rw[ho]at hro;cases hro
 ·-- indexAddr
  split at hR
  ·rename_i x y hx hy;cases R with
   |val v st'=>
    obtain⟨rfl,hv,h2⟩:=abu ht hr (hwf _ _ hx) hR
    refine⟨rfl,hv,?_⟩
    simp only[execOp,ho,hev _ _ hx,hev _ _ hy];simp_all
   |skip st'=>simp_all[absurd,abv]
   |_=>trivial
  ·subst hR;trivial
 ·-- index
  split at hR
  ·rename_i x y hx hy;cases R with
   |val v st'=>
    obtain⟨rfl,hv,h2⟩:=abw ht hr.pc (hwf _ _ hx) hR w
    refine⟨rfl,hv,?_⟩
    simp only[execOp,ho,hev _ _ hx,hev _ _ hy];simp_all
   |skip st'=>simp_all[absurd,abx]
   |_=>trivial
  ·subst hR;trivial
 ·-- len,cap
  rename_i c;split at hR
  ·rename_i b hb;split at hR
   ·rename_i ty vs hty hvs;split at hR
    ·rename_i x hx
     rw[dr]at hty hx
     have h1:=mU hev _ _ hvs;have e1:c.args.map a.eval=(SV.dens F vs).toArray:=by grind
     have hxok:=(SV.oks_iff _).1 (qI hwf _ _ hvs) x (List.mem_of_getElem? hx);have hx':∀(v:SV)(s:Sem _),builtin b c.argTypes o.type (c.args.map fun | .const _=>true | _=>false) (c.args.map a.eval)=s->s.run P w=.ok (.value (v.den F)) w->
       (execOp a.eval o).run P w=.ok (.value (v.den F)) w:=by
      grind[execOp,resolve,Sem.run_bind,Sem.run_pure,Result.andThen_ok,invoke]
     obtain⟨bE,hrest⟩:∃bE,c.argTypes=(ty::bE).toArray:=by
      cases ha:c.argTypes with
      |mk l=>rw[ha]at hty;cases l with
       |nil=>simp_all
       |cons t' l=>simp_all
     obtain⟨rv,hrv⟩:∃rv,SV.dens F vs=x.den F::rv:=by
      cases vs with
      |nil=>simp at hx
      |cons x' vs=>simp at hx;subst hx;exact⟨_,rfl⟩
     split at hR
     ·cases R with
      |val v st'=>
       obtain⟨rfl,hv,h2⟩:=DS ht hr hxok hR _ _ rv
       refine⟨rfl,hv,?_⟩
       refine hx' v _ rfl ?_
       rw[e1,hrv,hrest]
       exact DU rfl _ _ _ _ h2
      |skip st'=>simp_all[absurd,DT]
      |_=>trivial
     ·cases R with
      |val v st'=>
       obtain⟨rfl,hv,h2⟩:=DS ht hr hxok hR _ _ rv
       refine⟨rfl,hv,?_⟩
       refine hx' v _ rfl ?_
       rw[e1,hrv,hrest]
       exact DU rfl _ _ _ _ h2
      |skip st'=>simp_all[absurd,DT]
      |_=>trivial
     ·subst hR;trivial
    ·subst hR;trivial
   ·subst hR;trivial
  ·subst hR;trivial
 ·-- slice
  split at hR
  ·rename_i v1 v2 v3 v4 h1 h2 h3 h4;cases R with
   |val v st'=>
    obtain⟨rfl,hv,h5⟩:=ae0 ht hr (hwf _ _ h1) hR
    refine⟨rfl,hv,?_⟩
    simp only[execOp,ho,hev _ _ h1,mV hev h2,mV hev h3,mV hev h4];simp_all
   |skip st'=>simp_all[absurd,ae1]
   |_=>trivial
  ·subst hR;trivial
 ·-- lookup
  split at hR
  ·rename_i x y hx hy;cases R with
   |val v st'=>
    obtain⟨rfl,hv,h5⟩:=aca ht hr hR
    refine⟨rfl,hv,?_⟩
    simp only[execOp,ho,hev _ _ hx,hev _ _ hy];simp_all
   |skip st'=>simp_all[absurd,acb]
   |_=>trivial
  ·subst hR;trivial
 ·rw[ho]at hro;cases hro
 ·rw[ho]at hro;cases hro
 ·rw[ho]at hro;cases hro
 ·-- pointers
  rename_i op ty X Y yt;split at hR
  ·rename_i k1 x1 k2 y1 hx hy;generalize hd:qC tb st op k1 x1 k2 y1=D at hR;cases D with
   |val v st'=>
    subst hR
    obtain⟨rfl,h1,h2⟩:=aad (P:=P) (w:=w) (ty:=ty) (X:=X) (Y:=Y) ht hr.pc hd
    refine⟨rfl,h1,?_⟩
    simp only[execOp,ho,hev _ _ hx,hev _ _ hy];exact dz h2
   |skip st'=>exact absurd hd aae
   |_=>subst hR;trivial
  ·rename_i i oi j oj hx hy;split at hR
   ·rename_i elem hu;split at hR
    ·rename_i n hsz;split at hR
     ·rename_i own1 c1 cs1 tot1 el1 own2 c2 cs2 tot2 el2 m k hi hj hm hk;cases hown:(own1||own2)with
      |false=>rw[hown]at hR;subst hR;trivial
      |true=>
       rw[hown]at hR
       simp only at hR;have hs:=aeO (P:=P) hr hi hj hm hk hown;have he:(Op.equal ty (SV.den F (.ptr i oi)) (SV.den F (.ptr j oj))).run P w=.ok (Nat.beq i j&&Nat.beq m k) w:=by
        have hD:∀D,(Op.equalIn (D+1) ty (SV.den F (.ptr i oi)) (SV.den F (.ptr j oj))).run P w=.ok (Nat.beq i j&&Nat.beq m k) w:=by
         intro D;simp only[Op.equalIn,Sem.run_bind,ht.run_und hu,Result.andThen_ok,SV.den,ht.run_size hsz,ne_eq,not_false_eq_true,if_true,Nat.succ_eq_add_one,Nat.add_one_ne_zero];omega
        exact hD 9999
       have hg:∀op,(eqGuard op ty X Y (SV.den F (.ptr i oi)) (SV.den F (.ptr j oj))).run P w=.ok () w:=
        fun op=>xP op ty _ _ (by simp[SV.den]) (fun cs h=>by simp[SV.den]at h) X Y w
       split at hR
       ·subst hR
        refine⟨rfl,by simp[SV.ok],?_⟩
        simp only[execOp,ho,hev _ _ hx,hev _ _ hy];refine dz ?_
        rw[Sem.run_bind,hg,Result.andThen_ok]
        simp_all[binOp,SV.den,bool,Op.equal,Sem,Value,Sem.run_bind]
       ·subst hR
        refine⟨rfl,by simp[SV.ok],?_⟩
        simp only[execOp,ho,hev _ _ hx,hev _ _ hy];refine dz ?_
        rw[Sem.run_bind,hg,Result.andThen_ok]
        simp_all[binOp,SV.den,bool,Op.equal,Sem,Value,Sem.run_bind]
       ·subst hR;trivial
     ·subst hR;trivial
    ·subst hR;trivial
   ·subst hR;trivial
  ·subst hR;trivial
 ·-- pick
  rename_i c x y;split at hR
  ·rename_i e hc;split at hR
   ·rename_i hk;have hk':=dv ht.facts hr.pc hk;generalize hv:bz t x=u at hR;cases u with
    |none=>subst hR;trivial
    |some v=>
     simp only[EffR.ofVal]at hR;subst hR
     exact⟨rfl,hwf _ _ hv,by simp only[execOp,ho,hev _ _ hc,hev _ _ hv,SV.den,hk',asBool,Sem.run_bind,Sem.run_pure,Result.andThen_ok];rfl⟩
   ·rename_i hk;have hk':=dv ht.facts hr.pc hk;generalize hv:bz t y=u at hR;cases u with
    |none=>subst hR;trivial
    |some v=>
     simp only[EffR.ofVal]at hR;subst hR
     exact⟨rfl,hwf _ _ hv,by simp only[execOp,ho,hev _ _ hc,hev _ _ hv,SV.den,hk',asBool,Sem.run_bind,Sem.run_pure,Result.andThen_ok];rfl⟩
   ·subst hR;trivial
  ·subst hR;trivial
 ·subst hR;trivial
end
end Go.SX
