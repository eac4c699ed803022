/-
  A symbolic executor of the model's code: it reckons all outcomes of a call HT values and memory that are known in part.
-/
import GoSem.Step
set_option linter.unusedVariables false
set_option linter.unusedSimpArgs false
set_option linter.unusedSectionVars false

namespace Go.SX
inductive U where
 |int (n:Int) | bool (b:Bool) | str (s:ByteArray) | lst (l:List U) | bx (a:Option Addr) (n c:Nat) (l:List U)
def U.toI:U->Int | .int n=>n | _=>0
def U.toB:U->Bool | .bool b=>b | _=>false
def U.toS:U->ByteArray | .str s=>s | _=>ByteArray.empty
def U.toL:U->List U | .lst l=>l | .bx _ _ _ l=>l | _=>[]
def U.raw:U->Value | .bx a n c _=>.slice a n c | _=>.slice none 0 0
def U.adr:U->Option Addr | .bx a _ _ _=>a | _=>none
def U.rlen:U->Nat | .bx _ n _ _=>n | _=>0
def U.rcap:U->Nat | .bx _ _ c _=>c | _=>0
def U.cut(w:Nat)(u:U)(l h m:Nat):U:=
 .bx (if m=l then u.adr else u.adr.map (·.add (l*w))) (h-l) (m-l) ((u.toL.take (h*w)).drop (l*w))
def U.fst:U->U | .lst (a::_)=>a | _=>.int 0
def U.snd:U->U | .lst (_::b::_)=>b | _=>.int 0
mutual
def U.eq:U->U->Bool
 |.int a,.int b=>a==b
 |.bool a,.bool b=>a==b
 |.str a,.str b=>a.data==b.data
 |.lst a,.lst b=>U.eqs a b
 |.bx _ _ _ a,.lst b=>U.eqs a b
 |.lst a,.bx _ _ _ b=>U.eqs a b
 |.bx _ _ _ a,.bx _ _ _ b=>U.eqs a b
 |_,_=>false
def U.eqs:List U->List U->Bool
 |[],[]=>true
 |x::xs,y::ys=>U.eq x y&&U.eqs xs ys
 |_,_=>false
end
def xh(n:Nat):Int:=match n with | 0=>-128 | 1=>-32768 | 2=>-2147483648 | 3=>-9223372036854775808 | _=>0
def wM(n:Nat):Int:=match n with | 0=>127 | 1=>32767 | 2=>2147483647 | 3=>9223372036854775807 | 4=>255 | 5=>65535 | 6=>4294967295 | _=>18446744073709551615
mutual
def U.typ:U->U->Bool
 |.int x,.int k=>decide (k<8/\xh k.toNat<=x/\x<=wM k.toNat)
 |.bool _,.int k=>k==8
 |.str _,.int k=>k==9
 |.bx _ _ _ l,.lst ks=>U.typs l ks []
 |_,_=>false
def U.typs:List U->List U->List U->Bool
 |[],_,_=>true
 |x::xs,ks,k::r=>U.typ x k&&U.typs xs ks r
 |x::xs,ks,[]=>match ks with
  |k::r=>U.typ x k&&U.typs xs ks r
  |[]=>false
end
def dg(k:Int):List U->Option U
 |[]=>none
 |u::l=>if u.fst.toI=k then some u.snd else dg k l
def dh(k:Int)(v:U):List U->List U
 |[]=>[.lst [.int k,v]]
 |u::l=>if u.fst.toI=k then .lst [.int k,v]::l else u::dh k v l
def qe(k:Int):List U->List U
 |[]=>[]
 |u::l=>if u.fst.toI=k then l else u::qe k l
def ov(x:Int):List Int->List Int
 |[]=>[x]
 |y::l=>if x<=y then x::y::l else y::ov x l
def eh:List Int->List Int
 |[]=>[]
 |x::l=>ov x (eh l)
def KY(l:List U):Bool:=
 decide ((l.map fun u=>u.fst.toI).Nodup)&&(l.all fun u=>decide (-9223372036854775808<=u.fst.toI/\u.fst.toI<=9223372036854775807))&&decide (l.length<=1000000)
def SB(x:U):List U->Nat->Int
 |[],_=>-1
 |y::l,n=>if U.eq x y then n else SB x l (n+1)
mutual
def U.size:U->Nat
 |.int _=>1
 |.bool _=>1
 |.str _=>1
 |.lst l=>U.sizes l+1
 |.bx _ _ _ l=>U.sizes l+1
def U.sizes:List U->Nat
 |[]=>0
 |u::l=>U.size u+U.sizes l
end
def oW(f:Nat)(a:U):U:=
 match f with
 |0=>.int a.toL.length
 |1=>a.fst.toL.getD a.snd.toI.toNat (.int 0)
 |2=>.lst (a.fst.toL.set a.snd.fst.toI.toNat a.snd.snd)
 |3=>.lst (a.fst.toL++a.snd.toL)
 |4=>.lst ((a.fst.toL.take a.snd.snd.toI.toNat).drop a.snd.fst.toI.toNat)
 |5=>.lst (List.replicate a.fst.toI.toNat a.snd)
 |6=>.int (a.fst.toI+a.snd.toI)
 |7=>.int (a.fst.toI-a.snd.toI)
 |8=>.int (a.fst.toI*a.snd.toI)
 |9=>.int (a.fst.toL.length/a.snd.toI.toNat)
 |10=>.lst []
 |11=>.lst [a]
 |12=>.bool (U.eq a.fst a.snd)
 |13=>.int a.toS.size
 |14=>.str (a.fst.toS++a.snd.toS)
 |15=>.int ((a.fst.toS.data.getD a.snd.toI.toNat 0).toNat)
 |16=>.str (a.fst.toS.extract a.snd.fst.toI.toNat a.snd.snd.toI.toNat)
 |17=>.lst (List.replicate a.fst.toI.toNat a.snd.toL).flatten
 |18=>.lst (a.fst.toL.take a.snd.toI.toNat)
 |19=>.lst (a.fst.toL.drop a.snd.toI.toNat)
 |20=>.int (if a.fst.toB then a.snd.fst.toI else a.snd.snd.toI)
 |21=>.bx a.fst.adr a.fst.rlen a.fst.rcap a.snd.toL
 |22=>.int a.rcap
 |23=>.lst (a.fst::a.snd.toL)
 |24=>U.cut a.fst.fst.toI.toNat a.fst.snd a.snd.fst.toI.toNat a.snd.snd.fst.toI.toNat a.snd.snd.snd.toI.toNat
 |25=>.bool (a.snd.toL.any fun x=>U.eq a.fst x)
 |26=>.int a.rlen
 |27=>.bool (U.typs a.snd.toL a.fst.toL [])
 |28=>.bx a.fst.fst.adr a.fst.snd.toI.toNat a.fst.fst.rcap a.snd.toL
 |29=>.int ((a.fst.toI.toNat-a.snd.toI.toNat:Nat):Int)
 |30=>.bx none 0 0 []
 |31=>.bool a.adr.isNone
 |32=>(dg a.snd.fst.toI a.fst.toL).getD a.snd.snd
 |33=>.bool (dg a.snd.toI a.fst.toL).isSome
 |34=>.lst (dh a.snd.fst.toI a.snd.snd a.fst.toL)
 |35=>.lst (qe a.snd.toI a.fst.toL)
 |36=>.lst ((eh (a.toL.map fun u=>u.fst.toI)).map U.int)
 |37=>.lst (a.toL.map U.fst)
 |38=>.int (SB a.snd a.fst.toL 0)
 |39=>.bool (KY a.toL)
 |40=>.lst ((eh (a.toL.map U.toI)).map U.int)
 |42=>.int ((U.size a:Nat):Int)
 |41=>.str ⟨(a.toL.map fun u=>UInt8.ofNat u.toI.toNat).toArray⟩
 |_=>.int 0
end Go.SX

namespace Go.SX
def bJ(u:U):List Int:=u.toL.map U.toI
def bF(n:Nat):Nat:=n
def cX(X:U)(j:Nat):U:=X.toL.getD j (.int 0)
def iX(X:U)(j:Nat):Int:=(cX X j).toI
def nI(l:List U)(j:Nat):Int:=(l.getD j (.int 0)).toI
def dc(a x b:Int):Bool:=decide (a<=x/\x<=b)
def EM(a b:Int):Bool:=dc 0 a 500&&dc 0 b 1&&(a==0||b==0)
def uT(l:List U)(n:Nat):Bool:=(List.range n).all fun i=>EM (nI l (i*2)) (nI l (i*2+1))
def kU(p i c t:Int)(l:List U)(q:Bool):Bool:=
 dc 0 p 1&&dc 1 i 500&&dc 0 c 399&&dc (-1) t 1&&decide (l.length/2<=4)&&(decide (t<0)||l.length/2==0)&&(!q||decide (0<=t))&&uT l (l.length/2)
def pg(l:List U)(q:Bool)(n:Nat):Bool:=(List.range n).all fun i=>kU (nI l (i*5)) (nI l (i*5+1)) (nI l (i*5+2)) (nI l (i*5+3)) (l.getD (i*5+4) (.int 0)).toL q
def bn(X:U)(k:Nat):List Int:=bJ (cX X (6+14*(k/4)+k%4))
def lD(X:U)(k:Nat):List (Int×Int):=(List.range k).flatMap fun z=>(bn X z).map fun i=>(i,((z/4:Nat):Int))
def fQ(X:U)(k i:Nat):List (Int×Int):=lD X k++((bn X k).take i).map fun x=>(x,((k/4:Nat):Int))
def iA(X:U)(s:Nat):List Nat:=(List.range s).filter fun i=>decide (nI (cX X 29).toL (i*5+3)<0)
def jv(X:U)(s:Nat):List (Int×Int):=(iA X s).map fun i=>(nI (cX X 29).toL (i*5+1),nI (cX X 29).toL (i*5))
def iW(X:U)(s:Nat):List (Int×Int):=(iA X s).map fun i=>(nI (cX X 29).toL (i*5+1),nI (cX X 29).toL (i*5+2))
def jh(m:List U):List (Int×Int):=m.map fun u=>(u.fst.toI,u.snd.toI)
def nJ(l:List Int):Bool:=match l with | []=>true | x::l=>!l.contains x&&nJ l
def io(m:List U)(l:List (Int×Int)):Bool:=jh m==l&&nJ (l.map Prod.fst)
def aN(X:U):Nat:=(cX X 0).toL.length/12
def cD(X:U):Nat:=(cX X 29).toL.length/5
def oI(X:U)(i j:Nat):Int:=nI (cX X 0).toL (i*12+j)
def LB(a0 a1 a2 a3 a4 a5 a6 a7 a8:Int):Bool:=
 dc 1 a0 500&&dc (-1) a1 399&&dc 0 a2 1&&(a1 == -1||(a3==0&&a4==0))&&[a3,a4,a5,a6,a7,a8].all fun j=>dc 0 j 99
def mN(X:U)(i:Nat):Bool:=
 dc 1 (oI X i 0) 500&&dc (-1) (oI X i 1) 399&&dc 0 (oI X i 2) 1&&(oI X i 1 == -1||(oI X i 3==0&&oI X i 4==0))&&[3,4,5,6,7,8].all fun j=>dc 0 (oI X i j) 99
def dy(X:U):List (Int×Int):=fQ X 8 0++jv X (cD X)
def gi(l:List (Int×Int))(k:Int):Option Int:=(l.find? fun p=>p.1==k).map Prod.snd
def vI(X:U)(n:Nat):Bool:=(List.range n).all fun i=>mN X i&&(i==0||decide (oI X (i-1) 0<oI X i 0))&&gi (dy X) (oI X i 0)==some (oI X i 2)&&(match gi (iW X (cD X)) (oI X i 0)with | none=>true | some c=>c==oI X i 1)
def dJ(X:U):Bool:=nJ ((dy X).map Prod.fst)&&vI X (aN X)&&(dy X).length==aN X
def dv(X:U)(k:Int)(n:Nat):Int:=match (List.range n).find? fun i=>oI X i 0==k with | some i=>((i:Nat):Int) | none=>-1
def px(X:U)(p:Nat)(q:Nat)(k:Int):Nat:=((List.range q).flatMap fun z=>bn X (4*p+z)).count k
def n9(X:U)(p:Int)(k:Int)(s:Nat):Nat:=((List.range s).filter fun i=>nI (cX X 29).toL (i*5+3) == -1&&nI (cX X 29).toL (i*5+1)==k&&nI (cX X 29).toL (i*5)==p).length
def lB(X:U)(p:Nat)(k:Int):Nat:=px X p 4 k+n9 X p k (cD X)
def sK(X:U)(s:Nat):Bool:=(iA X s).all fun i=>decide (0<=dv X (nI (cX X 29).toL (i*5+1)) (aN X))&&oI X (dv X (nI (cX X 29).toL (i*5+1)) (aN X)).toNat 1==nI (cX X 29).toL (i*5+2)
def qM(X:U)(n:Nat):Bool:=(List.range n).all fun i=>mN X i&&(i==0||decide (oI X (i-1) 0<oI X i 0))&&lB X (oI X i 2).toNat (oI X i 0)==1
def uI(X:U):Nat:=((List.range 8).map fun z=>(bn X z).length).sum+(iA X (cD X)).length
def mV(X:U):Bool:=sK X (cD X)&&qM X (aN X)&&uI X==aN X
def ed(X:U):Nat:=(iX X 34).toNat
def gd(X:U):List Int:=bn X (4*ed X+2)
def fG(X:U):List Int:=bn X (4*(1-ed X)+2)
def bv(X:U):List Int:=bJ (cX X 31)
def blk(X:U)(i j:Nat):Int:=nI (cX X 32).toL (i*2+j)
def fX(X:U):Nat:=(cX X 32).toL.length/2
def kA(X:U)(n:Nat):Bool:=nJ ((bv X).take n)&&((bv X).take n).all fun a=>(gd X).contains a
def d9(X:U)(n:Nat)(j:Nat):List Int:=(List.range n).map fun i=>blk X i j
def lC(X:U)(n:Nat):Bool:=nJ (d9 X n 1)&&nJ (d9 X n 0)&&(List.range n).all fun i=>(bv X).contains (blk X i 1)&&(fG X).contains (blk X i 0)
def jy(X:U):Bool:=kA X (bv X).length&&lC X (fX X)
def iT(m:List U)(k:Int):Bool:=((dg k m).getD (.bool false)).toB
def pk(X:U)(n j:Nat)(k:Int):Bool:=match decide (0<k)with
 |true=>((bv X).take n).contains k && !(d9 X j 1).contains k
 |false=>(d9 X j 0).contains (-k)
def jw(X:U)(m:List U)(n j:Nat):Bool:=
 ((m.map fun u=>u.fst.toI)++bv X++(d9 X (fX X) 0).map (fun k=>-k)).all fun k=>iT m k==pk X n j k
def pU(X:U)(n:Nat):Bool:=(List.range n).all fun i=>(bv X).count (nI (cX X 31).toL i)==1&&(gd X).count (nI (cX X 31).toL i)==1
def rj(X:U)(i k:Nat):Bool:=(List.range k).all fun q=>!(blk X q 1==blk X i 1) && !(blk X q 0==blk X i 0)
def rP(X:U)(n:Nat):Bool:=(List.range n).all fun i=>(bv X).count (blk X i 1)==1&&(fG X).count (blk X i 0)==1&&rj X i i
def mz(X:U):Bool:=pU X (bv X).length&&rP X (fX X)
def ja(X:U)(p:Nat):Bool:=dc 0 (iX X (1+14*p)) 9999&&([2,3,4,5].all fun j=>dc 0 (iX X (j+14*p)) 99)&&dc 0 (iX X (13+14*p)) 7&&dc 0 (iX X (14+14*p)) 255
def sM(X:U):Bool:=dc 0 (iX X 34) 1&&dc 0 (iX X 33) 1000&&dc 0 (iX X 35) 10&&dc (-1) (iX X 36) 1&&dc 0 (iX X 37) 2&&decide (aN X<=500)&&decide (cD X<=200)&&decide ((cX X 30).toL.length/5<=200)
def rr(X:U):Bool:=pg (cX X 29).toL false (cD X)&&pg (cX X 30).toL true ((cX X 30).toL.length/5)
def rY(X:U):Bool:=sM X&&ja X 0&&ja X 1&&rr X&&dJ X&&jy X
def jf(X:U):Bool:=sM X&&ja X 0&&ja X 1&&rr X&&mV X&&mz X
def kOu:List U:=[.int 3,.int 3,.int 3,.int 3,.int 3,.int 3,.int 3,.int 3,.int 3,.int 8,.int 8,.int 8]
def kTu:List U:=[.int 3,.int 3]
def DI:List U:=[.int 3,.int 3,.int 3,.int 3,.lst kTu]
def ZD:List U:=[.int 3,.int 3,.int 3,.int 3,.int 3,.lst [.int 3],.lst [.int 3],.lst [.int 3],.lst [.int 3],.int 8,.int 8,.int 8,.int 3,.int 3]
def qb:List U:=.lst kOu::(ZD++(ZD++[.lst DI,.lst DI,.lst [.int 3],.lst kTu,.int 3,.int 3,.int 3,.int 3,.int 3]))
def jF(l:List U)(n:Nat):Bool:=(List.range n).all fun i=>decide ((l.getD (i*5+4) (.int 0)).toL.length/2<=6)
def pq(X:U):Bool:=
 ((List.range 8).all fun z=>decide ((bn X z).length<=40))&&decide (cD X<=20)&&decide ((cX X 30).toL.length/5<=20)&&jF (cX X 29).toL (cD X)&&jF (cX X 30).toL ((cX X 30).toL.length/5)&&decide (aN X<=30)&&decide ((bv X).length<=30)&&decide (fX X<=30)
def eZ(l:List U)(c:Int)(j:Nat):Int:=if 0<=c/\c<(l.length/14:Nat)then nI l (c.toNat*14+j)else 0
def cF(l:List U)(X:U)(p:Int)(n:Nat):List Int:=(List.range n).flatMap fun i=>
 let k:=eZ l (oI X i 1) 1;let m:=eZ l (oI X i 1) 7
 if oI X i 2==p && !((cX X 0).toL.getD (i*12+9) (.bool false)).toB&&k==1&&decide (0<=m)&&decide (m<4)&&(bn X (4*p.toNat+2)).contains (oI X i 0)then [oI X i 0,m] else []
def bi:List Int->List Int
 |a::_::l=>a::bi l
 |_=>[]
def ff(X:U)(p:Int):Bool:=dc 0 p 1&&jf X
def bM:List Int->List Int
 |_::b::l=>b::bM l
 |_=>[]
def aic(m:List Int)(c:Int):List Int:=m.set c.toNat (min 99 (m.getD c.toNat 0+1))
def aGN(l:List U)(X:U)(p:Int)(n:Nat):List Int:=((bM (cF l X p (aN X))).take n).foldl aic ((List.range 4).map fun k=>iX X (2+14*p.toNat+k))
def gY(l:List U)(X:U)(k:Int):Int:=
 let c:=oI X (dv X k (aN X)).toNat 1
 if eZ l c 1==1&&decide (0<=eZ l c 7)&&decide (eZ l c 7<4)then eZ l c 7 else -1
def om(l:List U)(X:U)(p:Int)(n:Nat):List Int:=((bn X (4*p.toNat+2)).take n).filter fun k=>decide (0<=gY l X k) && !((cX X 0).toL.getD ((dv X k (aN X)).toNat*12+9) (.bool false)).toB
def uP(l:List U)(n:Nat):Bool:=(List.range n).all fun i=>decide ((l.getD (i*2+1) (.int 0)).toL.length/5<=5)
def vL(e t:List U):Bool:=decide (e.length/5<=5)&&decide (t.length/2<=3)&&uP t (t.length/2)
def C0(l:List U)(n:Nat):Bool:=(List.range n).all fun i=>vL (l.getD (i*14+11) (.int 0)).toL (l.getD (i*14+12) (.int 0)).toL
def gM(a:U):Nat->Int | 0=>a.fst.toI | n+1=>gM a.snd n
def cp(a:U)(i:Nat):U:=match i with | 0=>a.fst | n+1=>cp a.snd n
abbrev Pu:=List Int×List Int×List Int
def ip(k c:Int):Bool:=decide (k<0)||c==k
def bB(k:Int):List Int->Nat->Int
 |_::c::l,i=>if ip k c then(i:Nat)else bB k l (i+1)
 |_,_=>-1
def fJ(i:Nat)(s:Pu):Pu:=(s.1,s.2.1.take (2*i)++s.2.1.drop (2*i+2),s.2.2++[s.2.1.getD (2*i) 0])
def ga(k:Int)(s:Pu):Option Pu:=if 0<=bB k s.2.1 0 then some (fJ (bB k s.2.1 0).toNat s)else none
def eH(b:Nat)(s:Pu):Pu:=(s.1.set b (s.1.getD b 0-1),s.2)
def fw(k:Nat)(s:Pu):Option Pu:=if 0<s.1.getD k 0 then some (eH k s)else ga k s
def fW(m:List Int):Nat:=[1,2,3].foldl (fun b k=>if m.getD b 0<m.getD k 0 then k else b) 0
def ey(s:Pu):Option Pu:=if 0<s.1.getD (fW s.1) 0 then some (eH (fW s.1) s)else ga (-1) s
def cR(f:Pu->Option Pu):Nat->Pu->Option Pu
 |0,s=>some s
 |n+1,s=>(cR f n s).bind f
def fm(c:List Int):Nat->Pu->Option Pu
 |0,s=>some s
 |k+1,s=>(fm c k s).bind (cR (fw k) (bF (c.getD k 0).toNat))
def fZ(k:Nat):Pu->Option Pu:=if k<4 then fw k else ey
def bN(c:List Int)(k n:Nat)(s:Pu):Option Pu:=(fm c k s).bind (cR (fZ k) n)
def gQ(l:List U)(X:U)(p:Int):Pu:=((List.range 4).map (fun k=>iX X (2+14*p.toNat+k)),cF l X p (aN X),[])
def kv(a:U):List Int:=[gM a 0,gM a 1,gM a 2,gM a 3]
def skip(n:Nat)(a:U):U:=match n with | 0=>a | n+1=>(skip n a).snd
def yy(a:U):Pu:=(kv a,bJ (cp a 4),bJ (cp a 5))
def sg(a:U):Pu:=gQ (cp a 0).toL (cp a 1) (cp a 2).toI
def HA(c:List Int)(any:Int):Bool:=(c.all fun x=>dc 0 x 20)&&dc 0 any 20
def im(a b:List U):Bool:=a.length/5==b.length/5&&U.eqs (a.take (a.length/5*5)) (b.take (b.length/5*5))
def aCi(Y X:U):Bool:=(List.range 38).all fun j=>if j==29||j==30 then im (cX Y j).toL (cX X j).toL else U.eq (cX Y j) (cX X j)
def aHD(l:List U)(X:U)(k:Int)(x:List Int):Int:=(x.find? fun id=>gY l X id==k).getD 0
def fj:U->Bool
 |.bx _ _ _ _=>true
 |.lst _=>true
 |_=>false
def gF(l:List U):Bool:=(List.range l.length).all fun i=>!(i%5==4)||fj (l.getD i (.int 0))
def t8(X:U):Bool:=X.toL.length==38&&[0,6,7,8,9,20,21,22,23,29,30,31,32].all (fun j=>fj (cX X j))&&(gF (cX X 29).toL&&gF (cX X 30).toL)
def AS(Y X:U):Bool:=(List.range 38).all fun j=>if j==0 then true else if j==29||j==30 then im (cX Y j).toL (cX X j).toL&&(fj (cX Y j)&&gF (cX Y j).toL)else U.eq (cX Y j) (cX X j)
def iO(L:List Int)(n:Nat)(l:List U):List U:=
 (List.range l.length).map fun j=>if j%12==9&&decide (j/12<n)&&L.contains (l.getD (j/12*12) (.int 0)).toI then .bool true else l.getD j (.int 0)
def mB(Y X:U)(p:Nat)(m:List Int):Bool:=(List.range 38).all fun j=>
 if j==0 then true
 else if j==29||j==30 then im (cX Y j).toL (cX X j).toL&&(fj (cX Y j)&&gF (cX Y j).toL)
 else if decide (2+14*p<=j)&&decide (j<6+14*p)then iX Y j==m.getD (j-(2+14*p)) 0 else U.eq (cX Y j) (cX X j)
def oQ(Y X:U)(p:Nat)(L m:List Int):Bool:=U.eqs (cX Y 0).toL (iO L (aN X) (cX X 0).toL)&&mB Y X p m
def pe:List Int->Bool
 |a::b::l=>decide (a<=b)&&pe (b::l)
 |_=>true
def amd(l:List Int)(x:Int)(i j:Nat):Bool:=((l.take i).all fun y=>decide (y<x))&&((l.drop j).all fun y=>decide (x<=y))
def apn(f:Nat)(a:U):U:=
 match f with
 |101=>.bool (uT a.fst.toL (bF a.snd.toI.toNat))
 |102=>.bool (kU a.fst.toI a.snd.fst.toI a.snd.snd.fst.toI a.snd.snd.snd.fst.toI a.snd.snd.snd.snd.fst.toL a.snd.snd.snd.snd.snd.toB)
 |103=>.bool (pg a.fst.toL a.snd.fst.toB (bF a.snd.snd.toI.toNat))
 |104=>.bool (io a.fst.toL (fQ a.snd.fst (bF (a.snd.snd.fst.toI.toNat*4+a.snd.snd.snd.fst.toI.toNat)) (bF a.snd.snd.snd.snd.toI.toNat)))
 |105=>.bool (io a.fst.toL (fQ a.snd.fst 8 0++jv a.snd.fst (bF a.snd.snd.toI.toNat)))
 |106=>.bool (io a.fst.toL (iW a.snd.fst (bF a.snd.snd.toI.toNat)))
 |107=>.bool (vI a.fst (bF a.snd.toI.toNat))
 |108=>.bool (dJ a)
 |109=>.bool (bJ a.fst==bn a.snd.fst (a.snd.snd.fst.toI.toNat*4+a.snd.snd.snd.toI.toNat))
 |110=>.bool (jy a)
 |111=>.bool (kA a.fst (bF a.snd.toI.toNat))
 |112=>.bool (lC a.fst (bF a.snd.toI.toNat))
 |113=>.bool (jw a.snd.fst a.fst.toL (bF a.snd.snd.fst.toI.toNat) (bF a.snd.snd.snd.toI.toNat))
 |114=>.bool ((bJ a.fst).contains a.snd.toI)
 |115=>.bool (rY a)
 |116=>.bool (t8 a)
 |117=>.bool (pq a)
 |118=>.bool (ja a.fst a.snd.toI.toNat)
 |120=>.int (dv a.fst a.snd.fst.toI (bF a.snd.snd.toI.toNat))
 |121=>.int ((bJ a.fst).count a.snd.toI:Nat)
 |122=>.int (lB a.fst a.snd.fst.toI.toNat a.snd.snd.toI:Nat)
 |123=>.bool (sK a.fst (bF a.snd.toI.toNat))
 |124=>.bool (qM a.fst (bF a.snd.toI.toNat))
 |125=>.bool (mV a)
 |126=>.bool (pU a.fst (bF a.snd.toI.toNat))
 |127=>.bool (rP a.fst (bF a.snd.toI.toNat))
 |128=>.bool (rj a.fst (bF a.snd.fst.toI.toNat) (bF a.snd.snd.toI.toNat))
 |129=>.bool (mz a)
 |130=>.bool (jf a)
 |131=>.int ((((bJ a.fst).take (bF a.snd.snd.toI.toNat)).count a.snd.fst.toI:Nat))
 |132=>.int (px a.fst a.snd.fst.toI.toNat (bF a.snd.snd.fst.toI.toNat) a.snd.snd.snd.toI:Nat)
 |133=>.int (n9 a.fst a.snd.fst.toI a.snd.snd.fst.toI (bF a.snd.snd.snd.toI.toNat):Nat)
 |134=>.int ((((List.range (bF a.snd.toI.toNat)).map fun z=>(bn a.fst z).length).sum:Nat))
 |135=>.int (((iA a.fst (bF a.snd.toI.toNat)).length:Nat))
 |136=>.bool ((bv a.fst).count (blk a.fst (bF a.snd.toI.toNat) 1)==1&&(fG a.fst).count (blk a.fst (bF a.snd.toI.toNat) 0)==1)
 |137=>.bool (LB (gM a 0) (gM a 1) (gM a 2) (gM a 3) (gM a 4) (gM a 5) (gM a 6) (gM a 7) a.snd.snd.snd.snd.snd.snd.snd.snd.toI)
 |141=>.int (eZ a.fst.toL a.snd.toI 1)
 |142=>.int (eZ a.fst.toL a.snd.toI 7)
 |143=>.bool (bJ a.fst==cF a.snd.fst.toL a.snd.snd.fst a.snd.snd.snd.fst.toI (bF a.snd.snd.snd.snd.toI.toNat))
 |144=>.bool (bJ a.fst==bi (cF a.snd.fst.toL a.snd.snd.fst a.snd.snd.snd.toI (aN a.snd.snd.fst)))
 |145=>.bool (ff a.fst a.snd.toI)
 |146=>.bool ([0,1,2,3].all (fun k=>dc 0 (gM a k) 20)&&dc 0 (a.snd.snd.snd.snd.toI) 20)
 |147=>.bool ([gM a 0,gM a 1,gM a 2,gM a 3]==(let a:=a.snd.snd.snd.snd;aGN a.fst.toL a.snd.fst a.snd.snd.fst.toI (bF a.snd.snd.snd.toI.toNat)))
 |148=>.bool (bJ a.fst==(bi (bJ a.snd.fst)).take (bF a.snd.snd.toI.toNat))
 |150=>.int (gY a.fst.toL a.snd.fst a.snd.snd.toI)
 |151=>.bool (bJ a.fst==om a.snd.fst.toL a.snd.snd.fst a.snd.snd.snd.fst.toI (bF a.snd.snd.snd.snd.toI.toNat))
 |152=>.bool (bJ a.fst==eh ((bJ a.snd.fst).take (bF a.snd.snd.toI.toNat)))
 |153=>.bool ((bJ a.fst).all fun k=>decide (0<=dv a.snd k (aN a.snd)))
 |155=>.bool (C0 a.fst.toL (bF a.snd.toI.toNat))
 |156=>.bool (vL a.fst.toL a.snd.toL)
 |157=>.bool (uP a.fst.toL (bF a.snd.toI.toNat))
 |158=>.bool (jF a.fst.toL (bF a.snd.toI.toNat))
 |159=>.bool ((List.range 8).all fun z=>decide ((bn a z).length<=40))
 |160=>.bool (((bJ a.fst).take (bF a.snd.snd.toI.toNat)).all fun x=>decide (x<a.snd.fst.toI))
 |161=>.bool ((bJ a.fst).take (bF a.snd.snd.toI.toNat)==(bJ a.snd.fst).take (bF a.snd.snd.toI.toNat))
 |170=>.bool ((cR (fZ (cp a 6).toI.toNat) (bF (cp a 7).toI.toNat) (yy (skip 8 a))).any fun s=>s==yy a)
 |171=>.bool ((cR (fZ (cp a 0).toI.toNat) (bF (cp a 1).toI.toNat) (yy (skip 2 a))).isNone)
 |174=>.bool ((ga (cp a 2).toI ([],bJ (cp a 3),bJ (cp a 4))).any fun s=>s==([],bJ (cp a 0),bJ (cp a 1)))
 |175=>.int (bB a.fst.toI ((bJ a.snd.fst).take (2*bF a.snd.snd.toI.toNat)) 0)
 |176=>.bool ((bN (kv (skip 8 a)) (bF (cp a 6).toI.toNat) (bF (cp a 7).toI.toNat) (sg (skip 12 a))).any fun s=>s==yy a)
 |177=>.bool ((bN (kv (skip 2 a)) (bF (cp a 0).toI.toNat) (bF (cp a 1).toI.toNat) (sg (skip 6 a))).isNone)
 |178=>.bool ((bN (kv (skip 8 a)) (bF (cp a 6).toI.toNat) (bF (cp a 7).toI.toNat) (sg (skip 12 a))).any fun s=>(s.1,bi s.2.1,s.2.2)==yy a)
 |179=>.int (aHD (cp a 2).toL (cp a 3) (cp a 1).toI (bJ (cp a 0)))
 |181=>.bool (U.eqs (a.fst.toL.take (bF a.snd.snd.toI.toNat)) (a.snd.fst.toL.take (bF a.snd.snd.toI.toNat)))
 |182=>.bool (ff (cp a 6) (cp a 7).toI&&HA (kv a) (cp a 4).toI&&(bN (kv a) 4 (bF (cp a 4).toI.toNat) (sg (skip 5 a))).isSome)
 |183=>.bool ((bN (kv (skip 5 a)) 4 (bF (cp a 9).toI.toNat) (sg (skip 10 a))).any fun s=>s.1==kv a&&eh s.2.2==bJ (cp a 4))
 |185=>.bool ((kv a).getD (cp a 4).toI.toNat 0==0)
 |186=>.bool (bJ a.fst==(bJ a.snd.fst).take (2*bF a.snd.snd.toI.toNat)++(bJ a.snd.fst).drop (2*bF a.snd.snd.toI.toNat+2))
 |188=>.bool ((kv a).all fun x=>dc 0 x 99)
 |187=>.bool (im a.fst.toL a.snd.toL)
 |189=>.bool (aCi a.fst a.snd)
 |190=>.bool (gF a.toL)
 |200=>.bool (U.eqs a.fst.toL a.snd.toL)
 |201=>.bool (fj a)
 |199=>.bool ((bN (kv (skip 2 a)) 4 (bF (cp a 6).toI.toNat) (sg (skip 7 a))).any fun s=>eh s.2.2==bJ (cp a 1)&&mB a.fst (cp a 8) (cp a 9).toI.toNat s.1)
 |198=>.bool ((bN (kv (skip 1 a)) 4 (bF (cp a 5).toI.toNat) (sg (skip 6 a))).any fun s=>oQ a.fst (cp a 7) (cp a 8).toI.toNat (eh s.2.2) s.1)
 |196=>.bool (AS a.fst a.snd)
 |195=>.bool (fj a&&gF a.toL)
 |191=>.bool (U.eqs a.fst.toL (iO (bJ (cp a 2)) (bF a.snd.snd.snd.toI.toNat) (cp a 1).toL))
 |193=>.bool (pe (bJ a))
 |194=>.bool (amd (bJ a.fst) (cp a 1).toI (bF (cp a 2).toI.toNat) (bF a.snd.snd.snd.toI.toNat))
 |184=>.bool (bJ a.fst==((bJ a.snd.fst).take (bF a.snd.snd.snd.toI.toNat)).filter fun x=>!(x==a.snd.snd.fst.toI))
 |_=>.int 0
end Go.SX

namespace Go.SX
noncomputable section
inductive T (G:Type) where
 |nil
 |node (v:G) (l r:T G)
 deriving Inhabited
noncomputable def T.get{G:Type}(t:T G):Nat->Option G:=
 T.rec (motive:=fun _=>Nat->Option G) (fun _=>none) (fun v _ _ gl gr n=>
  Nat.rec (some v) (fun n _=>Bool.rec (gr (Nat.div n 2)) (gl (Nat.div n 2)) (Nat.beq (Nat.mod n 2) 0)) n) t
noncomputable def T.set{G:Type}(t:T G):Nat->G->T G:=
 T.rec (motive:=fun _=>Nat->G->T G) (fun _ _=>T.nil) (fun v l r sl sr n x=>
  Nat.rec (T.node x l r) (fun n _=>Bool.rec (T.node v l (sr (Nat.div n 2) x)) (T.node v (sl (Nat.div n 2) x) r) (Nat.beq (Nat.mod n 2) 0)) n) t
noncomputable def T.setK{G J:Type}(t:T G):Nat->G->(T G->J)->J:=
 T.rec (motive:=fun _=>Nat->G->(T G->J)->J) (fun _ _ k=>k T.nil) (fun v l r sl sr n x k=>
  Nat.rec (k (T.node x l r)) (fun n _=>Bool.rec (sr (Nat.div n 2) x fun r'=>k (T.node v l r')) (sl (Nat.div n 2) x fun l'=>k (T.node v l' r)) (Nat.beq (Nat.mod n 2) 0)) n) t
noncomputable def T.ins{G:Type}(t:T G):Nat->G->T G:=
 T.rec (motive:=fun _=>Nat->G->T G) (fun n x=>Nat.rec (T.node x T.nil T.nil) (fun _ _=>T.nil) n) (fun v l r sl sr n x=>
  Nat.rec (T.node x l r) (fun n _=>Bool.rec (T.node v l (sr (Nat.div n 2) x)) (T.node v (sl (Nat.div n 2) x) r) (Nat.beq (Nat.mod n 2) 0)) n) t
noncomputable def T.insK{G J:Type}(t:T G):Nat->G->(T G->J)->J:=
 T.rec (motive:=fun _=>Nat->G->(T G->J)->J) (fun n x k=>Nat.rec (k (T.node x T.nil T.nil)) (fun _ _=>k T.nil) n) (fun v l r sl sr n x k=>
  Nat.rec (k (T.node x l r)) (fun n _=>Bool.rec (sr (Nat.div n 2) x fun r'=>k (T.node v l r')) (sl (Nat.div n 2) x fun l'=>k (T.node v l' r)) (Nat.beq (Nat.mod n 2) 0)) n) t
noncomputable def T.all{G:Type}(p:G->Bool)(t:T G):Bool:=
 T.rec (motive:=fun _=>Bool) true (fun v _ _ a b=>Bool.rec false (Bool.rec false b a) (p v)) t
noncomputable def T.fill{G:Type}(v:G)(d:Nat):Nat->T G:=
 Nat.rec (motive:=fun _=>Nat->T G) (fun _=>T.nil) (fun _ ih n=>Nat.rec T.nil (fun m _=>T.node v (ih (Nat.div (Nat.succ m) 2)) (ih (Nat.div m 2))) n) d
noncomputable def T.putsK{G J:Type}(l:List G):Nat->T G->(T G->J)->J:=
 List.rec (motive:=fun _=>Nat->T G->(T G->J)->J) (fun _ t k=>k t) (fun x _ ih n t k=>T.setK t n x fun t'=>ih (Nat.succ n) t' k) l
noncomputable def T.addsK{G J:Type}(l:List G):Nat->T G->(T G->J)->J:=
 List.rec (motive:=fun _=>Nat->T G->(T G->J)->J) (fun _ t k=>k t) (fun x _ ih n t k=>T.insK t n x fun t'=>ih (Nat.succ n) t' k) l
def oh(f:Nat)(a:U):U:=match Nat.blt f 100 with | true=>oW f a | false=>apn f a
inductive E where
 |int (n:Int) | bool (b:Bool) | str (s:ByteArray) | var (i:Nat)
 |ar (o:BinOp) (k:IntKind) (a b:E)
 |cmp (o:BinOp) (a b:E)
 |mn (a b:E) | mx (a b:E)
 |wr (k:IntKind) (a:E)
 |not (a:E) | and (a b:E) | seq (a b:E) | iff (a b:E) | imp (a b:E)
 |fn (f:Nat) (a:E) | pr (a b:E)
 deriving Inhabited
def jZ(o:BinOp)(k:IntKind)(x y:Int):Int:=
 match o with
 |.add=>k.wrap (x+y)
 |.sub=>k.wrap (x-y)
 |.mul=>k.wrap (x*y)
 |.quo=>k.wrap (x.tdiv y)
 |.rem=>x.tmod y
 |.and=>k.wrap (BitVec.ofInt k.bits x &&& BitVec.ofInt k.bits y).toNat
 |.or=>k.wrap (BitVec.ofInt k.bits x ||| BitVec.ofInt k.bits y).toNat
 |.xor=>k.wrap (BitVec.ofInt k.bits x ^^^ BitVec.ofInt k.bits y).toNat
 |.andNot=>k.wrap (BitVec.ofInt k.bits x &&& ~~~BitVec.ofInt k.bits y).toNat
 |.shl=>k.wrap (x*2^(min y.toNat k.bits))
 |.shr=>x.fdiv (2^(min y.toNat k.bits))
 |_=>0
def b7(o:BinOp)(x y:Int):Bool:=
 match o with
 |.eql=>x==y
 |.neq=>x != y
 |.lss=>decide (x<y)
 |.leq=>decide (x<=y)
 |.gtr=>decide (x>y)
 |.geq=>decide (x>=y)
 |_=>false
def oz:List UInt8->List UInt8->Bool
 |[],[]=>true
 |x::xs,y::ys=>match Nat.beq x.toNat y.toNat with | true=>oz xs ys | false=>false
 |_,_=>false
def kl(a b:ByteArray):Bool:=oz a.data.toList b.data.toList
def nF(x y:Int):Int:=if y<x then y else x
def lp(x y:Int):Int:=if y>x then y else x
structure Bk where
 blk:Nat
 off:Nat
 alt:Option (Option Addr)
 deriving Inhabited
def Bk.nil(k:Bk):Bool:=k.alt.isSome
def Bk.base(k:Bk):Option Addr:=match k.alt with | some x=>x | none=>some ⟨k.blk,k.off,none⟩
structure Env where
 vs:List U
 bs:List Bk
 fz:Nat->Option Obj
def Env.of(vs:List U):Env:=⟨vs,[],fun _=>none⟩
def E.den(F:Env):E->U
 |.int n=>.int n
 |.bool b=>.bool b
 |.str s=>.str s
 |.var i=>F.vs.getD i (.int 0)
 |.ar o k a b=>.int (jZ o k (a.den F).toI (b.den F).toI)
 |.cmp o a b=>.bool (b7 o (a.den F).toI (b.den F).toI)
 |.mn a b=>.int (nF (a.den F).toI (b.den F).toI)
 |.mx a b=>.int (lp (a.den F).toI (b.den F).toI)
 |.wr k a=>.int (k.wrap (a.den F).toI)
 |.not a=>.bool (!(a.den F).toB)
 |.and a b=>.bool ((a.den F).toB&&(b.den F).toB)
 |.seq a b=>.bool (kl (a.den F).toS (b.den F).toS)
 |.iff a b=>.bool ((a.den F).toB==(b.den F).toB)
 |.imp a b=>.bool (!(a.den F).toB||(b.den F).toB)
 |.fn f a=>oh f (a.den F)
 |.pr a b=>.lst [a.den F,b.den F]
def E.I(F:Env)(e:E):Int:=(e.den F).toI
def E.B(F:Env)(e:E):Bool:=(e.den F).toB
def E.S(F:Env)(e:E):ByteArray:=(e.den F).toS
def E.L(F:Env)(e:E):List U:=(e.den F).toL
def fy:IntKind->IntKind->Bool
 |.i8,.i8 | .i16,.i16 | .i32,.i32 | .i64,.i64 | .u8,.u8 | .u16,.u16 | .u32,.u32 | .u64,.u64=>true
 |_,_=>false
def FS:BinOp->Nat
 |.add=>0 | .sub=>1 | .mul=>2 | .quo=>3 | .rem=>4 | .and=>5 | .or=>6 | .xor=>7 | .shl=>8 | .shr=>9 | .andNot=>10
 |.eql=>11 | .neq=>12 | .lss=>13 | .leq=>14 | .gtr=>15 | .geq=>16
def Ke(a b:BinOp):Bool:=Nat.beq (FS a) (FS b)
def jo:Int->Int->Bool
 |.ofNat a,.ofNat b=>Nat.beq a b
 |.negSucc a,.negSucc b=>Nat.beq a b
 |_,_=>false
def my:Bool->Bool->Bool
 |true,true=>true
 |false,false=>true
 |_,_=>false
def dK(a b:Bool):Bool:=match a with | true=>b | false=>false
noncomputable def E.on_int(b:E)(f:Int->Bool):Bool:=E.rec (motive:=fun _=>Bool) (fun x0=>f x0) (fun _=>false) (fun _=>false) (fun _=>false) (fun _ _ _ _ _ _=>false) (fun _ _ _ _ _=>false) (fun _ _ _ _=>false) (fun _ _ _ _=>false) (fun _ _ _=>false) (fun _ _=>false) (fun _ _ _ _=>false) (fun _ _ _ _=>false) (fun _ _ _ _=>false) (fun _ _ _ _=>false) (fun _ _ _=>false) (fun _ _ _ _=>false) b
noncomputable def E.on_bool(b:E)(f:Bool->Bool):Bool:=E.rec (motive:=fun _=>Bool) (fun _=>false) (fun x0=>f x0) (fun _=>false) (fun _=>false) (fun _ _ _ _ _ _=>false) (fun _ _ _ _ _=>false) (fun _ _ _ _=>false) (fun _ _ _ _=>false) (fun _ _ _=>false) (fun _ _=>false) (fun _ _ _ _=>false) (fun _ _ _ _=>false) (fun _ _ _ _=>false) (fun _ _ _ _=>false) (fun _ _ _=>false) (fun _ _ _ _=>false) b
noncomputable def E.on_str(b:E)(f:ByteArray->Bool):Bool:=E.rec (motive:=fun _=>Bool) (fun _=>false) (fun _=>false) (fun x0=>f x0) (fun _=>false) (fun _ _ _ _ _ _=>false) (fun _ _ _ _ _=>false) (fun _ _ _ _=>false) (fun _ _ _ _=>false) (fun _ _ _=>false) (fun _ _=>false) (fun _ _ _ _=>false) (fun _ _ _ _=>false) (fun _ _ _ _=>false) (fun _ _ _ _=>false) (fun _ _ _=>false) (fun _ _ _ _=>false) b
noncomputable def E.on_var(b:E)(f:Nat->Bool):Bool:=E.rec (motive:=fun _=>Bool) (fun _=>false) (fun _=>false) (fun _=>false) (fun x0=>f x0) (fun _ _ _ _ _ _=>false) (fun _ _ _ _ _=>false) (fun _ _ _ _=>false) (fun _ _ _ _=>false) (fun _ _ _=>false) (fun _ _=>false) (fun _ _ _ _=>false) (fun _ _ _ _=>false) (fun _ _ _ _=>false) (fun _ _ _ _=>false) (fun _ _ _=>false) (fun _ _ _ _=>false) b
noncomputable def E.on_ar(b:E)(f:BinOp->IntKind->E->E->Bool):Bool:=E.rec (motive:=fun _=>Bool) (fun _=>false) (fun _=>false) (fun _=>false) (fun _=>false) (fun x0 x1 x2 x3 _ _=>f x0 x1 x2 x3) (fun _ _ _ _ _=>false) (fun _ _ _ _=>false) (fun _ _ _ _=>false) (fun _ _ _=>false) (fun _ _=>false) (fun _ _ _ _=>false) (fun _ _ _ _=>false) (fun _ _ _ _=>false) (fun _ _ _ _=>false) (fun _ _ _=>false) (fun _ _ _ _=>false) b
noncomputable def E.on_cmp(b:E)(f:BinOp->E->E->Bool):Bool:=E.rec (motive:=fun _=>Bool) (fun _=>false) (fun _=>false) (fun _=>false) (fun _=>false) (fun _ _ _ _ _ _=>false) (fun x0 x1 x2 _ _=>f x0 x1 x2) (fun _ _ _ _=>false) (fun _ _ _ _=>false) (fun _ _ _=>false) (fun _ _=>false) (fun _ _ _ _=>false) (fun _ _ _ _=>false) (fun _ _ _ _=>false) (fun _ _ _ _=>false) (fun _ _ _=>false) (fun _ _ _ _=>false) b
noncomputable def E.on_mn(b:E)(f:E->E->Bool):Bool:=E.rec (motive:=fun _=>Bool) (fun _=>false) (fun _=>false) (fun _=>false) (fun _=>false) (fun _ _ _ _ _ _=>false) (fun _ _ _ _ _=>false) (fun x0 x1 _ _=>f x0 x1) (fun _ _ _ _=>false) (fun _ _ _=>false) (fun _ _=>false) (fun _ _ _ _=>false) (fun _ _ _ _=>false) (fun _ _ _ _=>false) (fun _ _ _ _=>false) (fun _ _ _=>false) (fun _ _ _ _=>false) b
noncomputable def E.on_mx(b:E)(f:E->E->Bool):Bool:=E.rec (motive:=fun _=>Bool) (fun _=>false) (fun _=>false) (fun _=>false) (fun _=>false) (fun _ _ _ _ _ _=>false) (fun _ _ _ _ _=>false) (fun _ _ _ _=>false) (fun x0 x1 _ _=>f x0 x1) (fun _ _ _=>false) (fun _ _=>false) (fun _ _ _ _=>false) (fun _ _ _ _=>false) (fun _ _ _ _=>false) (fun _ _ _ _=>false) (fun _ _ _=>false) (fun _ _ _ _=>false) b
noncomputable def E.on_wr(b:E)(f:IntKind->E->Bool):Bool:=E.rec (motive:=fun _=>Bool) (fun _=>false) (fun _=>false) (fun _=>false) (fun _=>false) (fun _ _ _ _ _ _=>false) (fun _ _ _ _ _=>false) (fun _ _ _ _=>false) (fun _ _ _ _=>false) (fun x0 x1 _=>f x0 x1) (fun _ _=>false) (fun _ _ _ _=>false) (fun _ _ _ _=>false) (fun _ _ _ _=>false) (fun _ _ _ _=>false) (fun _ _ _=>false) (fun _ _ _ _=>false) b
noncomputable def E.on_not(b:E)(f:E->Bool):Bool:=E.rec (motive:=fun _=>Bool) (fun _=>false) (fun _=>false) (fun _=>false) (fun _=>false) (fun _ _ _ _ _ _=>false) (fun _ _ _ _ _=>false) (fun _ _ _ _=>false) (fun _ _ _ _=>false) (fun _ _ _=>false) (fun x0 _=>f x0) (fun _ _ _ _=>false) (fun _ _ _ _=>false) (fun _ _ _ _=>false) (fun _ _ _ _=>false) (fun _ _ _=>false) (fun _ _ _ _=>false) b
noncomputable def E.on_and(b:E)(f:E->E->Bool):Bool:=E.rec (motive:=fun _=>Bool) (fun _=>false) (fun _=>false) (fun _=>false) (fun _=>false) (fun _ _ _ _ _ _=>false) (fun _ _ _ _ _=>false) (fun _ _ _ _=>false) (fun _ _ _ _=>false) (fun _ _ _=>false) (fun _ _=>false) (fun x0 x1 _ _=>f x0 x1) (fun _ _ _ _=>false) (fun _ _ _ _=>false) (fun _ _ _ _=>false) (fun _ _ _=>false) (fun _ _ _ _=>false) b
noncomputable def E.on_seq(b:E)(f:E->E->Bool):Bool:=E.rec (motive:=fun _=>Bool) (fun _=>false) (fun _=>false) (fun _=>false) (fun _=>false) (fun _ _ _ _ _ _=>false) (fun _ _ _ _ _=>false) (fun _ _ _ _=>false) (fun _ _ _ _=>false) (fun _ _ _=>false) (fun _ _=>false) (fun _ _ _ _=>false) (fun x0 x1 _ _=>f x0 x1) (fun _ _ _ _=>false) (fun _ _ _ _=>false) (fun _ _ _=>false) (fun _ _ _ _=>false) b
noncomputable def E.on_iff(b:E)(f:E->E->Bool):Bool:=E.rec (motive:=fun _=>Bool) (fun _=>false) (fun _=>false) (fun _=>false) (fun _=>false) (fun _ _ _ _ _ _=>false) (fun _ _ _ _ _=>false) (fun _ _ _ _=>false) (fun _ _ _ _=>false) (fun _ _ _=>false) (fun _ _=>false) (fun _ _ _ _=>false) (fun _ _ _ _=>false) (fun x0 x1 _ _=>f x0 x1) (fun _ _ _ _=>false) (fun _ _ _=>false) (fun _ _ _ _=>false) b
noncomputable def E.on_imp(b:E)(f:E->E->Bool):Bool:=E.rec (motive:=fun _=>Bool) (fun _=>false) (fun _=>false) (fun _=>false) (fun _=>false) (fun _ _ _ _ _ _=>false) (fun _ _ _ _ _=>false) (fun _ _ _ _=>false) (fun _ _ _ _=>false) (fun _ _ _=>false) (fun _ _=>false) (fun _ _ _ _=>false) (fun _ _ _ _=>false) (fun _ _ _ _=>false) (fun x0 x1 _ _=>f x0 x1) (fun _ _ _=>false) (fun _ _ _ _=>false) b
noncomputable def E.on_fn(b:E)(f:Nat->E->Bool):Bool:=E.rec (motive:=fun _=>Bool) (fun _=>false) (fun _=>false) (fun _=>false) (fun _=>false) (fun _ _ _ _ _ _=>false) (fun _ _ _ _ _=>false) (fun _ _ _ _=>false) (fun _ _ _ _=>false) (fun _ _ _=>false) (fun _ _=>false) (fun _ _ _ _=>false) (fun _ _ _ _=>false) (fun _ _ _ _=>false) (fun _ _ _ _=>false) (fun x0 x1 _=>f x0 x1) (fun _ _ _ _=>false) b
noncomputable def E.on_pr(b:E)(f:E->E->Bool):Bool:=E.rec (motive:=fun _=>Bool) (fun _=>false) (fun _=>false) (fun _=>false) (fun _=>false) (fun _ _ _ _ _ _=>false) (fun _ _ _ _ _=>false) (fun _ _ _ _=>false) (fun _ _ _ _=>false) (fun _ _ _=>false) (fun _ _=>false) (fun _ _ _ _=>false) (fun _ _ _ _=>false) (fun _ _ _ _=>false) (fun _ _ _ _=>false) (fun _ _ _=>false) (fun x0 x1 _ _=>f x0 x1) b
noncomputable def E.beq(a:E):E->Bool:=
 E.rec (motive:=fun _=>E->Bool)
  (fun n b=>b.on_int fun m=>jo n m)
  (fun x b=>b.on_bool fun y=>my x y)
  (fun s b=>b.on_str fun t=>kl s t)
  (fun i b=>b.on_var fun j=>Nat.beq i j)
  (fun o k _ _ f g b=>b.on_ar fun o' k' a' b'=>dK (Ke o o') (dK (fy k k') (dK (f a') (g b'))))
  (fun o _ _ f g b=>b.on_cmp fun o' a' b'=>dK (Ke o o') (dK (f a') (g b')))
  (fun _ _ f g b=>b.on_mn fun a' b'=>dK (f a') (g b'))
  (fun _ _ f g b=>b.on_mx fun a' b'=>dK (f a') (g b'))
  (fun k _ f b=>b.on_wr fun k' a'=>dK (fy k k') (f a'))
  (fun _ f b=>b.on_not fun a'=>f a')
  (fun _ _ f g b=>b.on_and fun a' b'=>dK (f a') (g b'))
  (fun _ _ f g b=>b.on_seq fun a' b'=>dK (f a') (g b'))
  (fun _ _ f g b=>b.on_iff fun a' b'=>dK (f a') (g b'))
  (fun _ _ f g b=>b.on_imp fun a' b'=>dK (f a') (g b'))
  (fun n _ f b=>b.on_fn fun m a'=>dK (Nat.beq n m) (f a'))
  (fun _ _ f g b=>b.on_pr fun a' b'=>dK (f a') (g b')) a
def gb{J:Type}(n:Nat)(k:Nat->J):J:=
 match n with
 |0=>k 0
 |m+1=>k (m+1)
def ez(a b:Nat):Nat:=Nat.mod (Nat.add (Nat.mul a 1000003) b) 2305843009213693951
def aIH(n:Int):Nat:=match n with | .ofNat m=>Nat.mul 2 m | .negSucc m=>Nat.add (Nat.mul 2 m) 1
def TL(k:IntKind):Nat:=match k with | .i8=>1 | .i16=>2 | .i32=>3 | .i64=>4 | .u8=>5 | .u16=>6 | .u32=>7 | .u64=>8
noncomputable def lI(a:E):Nat:=
 E.rec (motive:=fun _=>Nat)
  (fun n=>ez 3 (aIH n)) (fun x=>match x with | true=>5 | false=>7) (fun _=>11) (fun i=>ez 13 i)
  (fun o k _ _ f g=>ez (ez (ez (ez 17 (FS o)) (TL k)) f) g)
  (fun o _ _ f g=>ez (ez (ez 19 (FS o)) f) g)
  (fun _ _ f g=>ez (ez 23 f) g)
  (fun _ _ f g=>ez (ez 29 f) g)
  (fun k _ f=>ez (ez 31 (TL k)) f)
  (fun _ f=>ez 37 f)
  (fun _ _ f g=>ez (ez 41 f) g)
  (fun _ _ f g=>ez (ez 43 f) g)
  (fun _ _ f g=>ez (ez 47 f) g)
  (fun _ _ f g=>ez (ez 53 f) g)
  (fun n _ f=>ez (ez 59 n) f)
  (fun _ _ f g=>ez (ez 61 f) g) a
def Io(x:E):Nat:=match x with | .imp _ c=>lI c | x=>lI x
def dB:E->E
 |.fn 6 (.pr c (.int _))=>c
 |e=>e
def OE(x:E):Nat:=match x with
 |.cmp _ a b=>match b with
  |.int _=>lI (dB a)
  |_=>match a with
   |.int _=>lI (dB b)
   |_=>0
 |_=>0
def bT(x:E):Nat:=match x with | .not y=>OE y | y=>OE y
noncomputable def FE(n:Nat)(l:List E):List E:=List.rec (motive:=fun _=>List E) [] (fun x _ ih=>Bool.rec ih (x::ih) (Nat.beq (Io x) n)) l
noncomputable def CI(n:Nat)(l:List E):List E:=List.rec (motive:=fun _=>List E) [] (fun x _ ih=>Bool.rec ih (x::ih) (Nat.beq (lI x) n)) l
noncomputable def xX(n:Nat)(l:List E):List E:=List.rec (motive:=fun _=>List E) [] (fun x _ ih=>Bool.rec ih (x::ih) (Nat.beq (bT x) n)) l
def iZ(o:BinOp)(k:IntKind)(a b:E):E:=
 match a,b with
 |.int x,.int y=>.int (jZ o k x y)
 |_,_=>.ar o k a b
def bo(a:E):E:=
 match a with
 |.bool b=>.bool (!b)
 |.not x=>x
 |_=>.not a
def fI:E->Int
 |.fn 6 (.pr _ (.int x))=>x
 |_=>0
def aI(o:BinOp)(a b:E):E:=
 match a,b with
 |.int x,.int y=>.bool (b7 o x y)
 |_,_=>match (dB a).beq (dB b)with
  |true=>.bool (b7 o (fI a) (fI b))
  |false=>match o with
   |.eql=>match a with
    |.int x=>.cmp .eql b (.int x)
    |a=>.cmp .eql a b
   |.neq=>match a with
    |.int x=>.not (.cmp .eql b (.int x))
    |a=>.not (.cmp .eql a b)
   |.gtr=>.cmp .lss b a
   |.leq=>.not (.cmp .lss b a)
   |.geq=>.not (.cmp .lss a b)
   |_=>.cmp o a b
def qT(a b:E):E:=
 match a,b with
 |.int x,.int y=>.int (nF x y)
 |_,_=>.mn a b
def oo(a b:E):E:=
 match a,b with
 |.int x,.int y=>.int (lp x y)
 |_,_=>.mx a b
def rm(k:IntKind)(a:E):E:=
 match a with
 |.int x=>.int (k.wrap x)
 |_=>.wr k a
def yA(a b:E):E:=
 match a with
 |.bool true=>match b with
  |.bool y=>.bool y
  |_=>.and a b
 |.bool false=>.bool false
 |_=>.and a b
def mS(a b:E):E:=
 match a,b with
 |.str x,.str y=>.bool (kl x y)
 |_,_=>.seq a b
def du(a b:E):E:=
 match a,b with
 |.int x,.int y=>.int (x+y)
 |.int x,b=>match jo x 0 with
  |true=>b
  |false=>match b with
   |.fn 6 (.pr c (.int y))=>.fn 6 (.pr c (.int (x+y)))
   |_=>.fn 6 (.pr b (.int x))
 |.fn 6 (.pr c (.int x)),.int y=>.fn 6 (.pr c (.int (x+y)))
 |a,.int y=>match jo y 0 with
  |true=>a
  |false=>.fn 6 (.pr a (.int y))
 |a,b=>.fn 6 (.pr a b)
def kf(a b:E):E:=
 match a,b with
 |.int x,.int y=>.int (x-y)
 |.fn 6 (.pr c (.int x)),.int y=>match jo (x-y) 0 with
  |true=>c
  |false=>.fn 6 (.pr c (.int (x-y)))
 |a,.int y=>match jo y 0 with
  |true=>a
  |false=>.fn 6 (.pr a (.int (-y)))
 |a,b=>match a.beq b with
  |true=>.int 0
  |false=>.fn 7 (.pr a b)
def iQ:E->E
 |.fn 2 (.pr l' x)=>iQ l'
 |.fn 3 (.pr a b)=>du (iQ a) (iQ b)
 |.fn 5 (.pr n x)=>oo n (.int 0)
 |.fn 10 _=>.int 0
 |.fn 11 _=>.int 1
 |.fn 21 (.pr r c)=>iQ c
 |.fn 23 (.pr x r)=>du (.int 1) (iQ r)
 |.fn 28 (.pr r c)=>iQ c
 |.fn 30 _=>.int 0
 |l=>.fn 0 l
def A8(v:E):E->Nat->Option E
 |.fn 23 (.pr x r),n=>match n with
  |0=>some (.fn 23 (.pr v r))
  |n+1=>match A8 v r n with
   |some r'=>some (.fn 23 (.pr x r'))
   |none=>none
 |_,_=>none
def Ef(i:Nat)(v:E):E->E
 |.fn 2 (.pr l (.pr (.int (.ofNat j)) u))=>match Nat.beq i j with
  |true=>.fn 2 (.pr l (.pr (.int (.ofNat i)) v))
  |false=>match Nat.blt i j with
   |true=>.fn 2 (.pr (Ef i v l) (.pr (.int (.ofNat j)) u))
   |false=>.fn 2 (.pr (.fn 2 (.pr l (.pr (.int (.ofNat j)) u))) (.pr (.int (.ofNat i)) v))
 |l=>.fn 2 (.pr l (.pr (.int (.ofNat i)) v))
def jN(l i v:E):E:=
 match i with
 |.int (.ofNat n)=>match A8 v l n with
  |some r=>r
  |none=>Ef n v l
 |_=>.fn 2 (.pr l (.pr i v))
def iB:List E->E
 |[]=>.fn 10 (.int 0)
 |x::xs=>.fn 23 (.pr x (iB xs))
def CT:E->Bool
 |.fn 10 _=>true
 |.fn 30 _=>true
 |_=>false
def E1(b:E):E->Option E
 |.fn 23 (.pr x r)=>match E1 b r with
  |some r'=>some (.fn 23 (.pr x r'))
  |none=>none
 |.fn 10 _=>some b
 |_=>none
def B0(a b:E):E:=
 match CT b with
 |true=>a
 |false=>match E1 b a with
  |some r=>r
  |none=>.fn 3 (.pr a b)
structure Off where
 base:Nat
 scale:Nat:=0
 idx:E:=.int 0
 deriving Inhabited
def Off.den(F:Env)(o:Off):Nat:=o.base+o.scale*(o.idx.I F).toNat
inductive CK where
 |int (k:IntKind) | bool | str | slc (ks:List CK)
 deriving Inhabited
mutual
def CK.beq:CK->CK->Bool
 |.int k,.int k'=>fy k k'
 |.bool,.bool=>true
 |.str,.str=>true
 |.slc a,.slc b=>gt a b
 |_,_=>false
def gt:List CK->List CK->Bool
 |[],[]=>true
 |x::xs,y::ys=>x.beq y&&gt xs ys
 |_,_=>false
end
def CK.val:CK->U->Value
 |.int k,u=>.int k u.toI
 |.bool,u=>.bool u.toB
 |.str,u=>.string u.toS
 |.slc _,u=>u.raw
inductive SlOk (fz:Nat->Option Obj):List CK->U->Prop
 |nil {ks:List CK}:SlOk fz ks (.bx none 0 0 [])
 |empty {ks:List CK} (a:Addr):SlOk fz ks (.bx (some a) 0 0 [])
 | mk {ks:List CK} {r off len cap:Nat} {l:List U} {arr:Array Value} {elem:TypeId} {fr:Nat×Nat} (hl:l.length=len*ks.length) (hc:len<=cap)
   (hz:l≠[]->fz r=some (.cells arr elem fr))
   (hv:∀(i:Nat)(u:U),l[i]?=some u->∃c,ks[i%ks.length]?=some c/\arr[off+i]?=some (c.val u))
   (hs:∀(i:Nat)(u:U)(ks':List CK),l[i]?=some u->ks[i%ks.length]?=some (.slc ks')->SlOk fz ks' u):
   SlOk fz ks (.bx (some ⟨r,off,none⟩) len cap l)
def CK.ok(fz:Nat->Option Obj):CK->U->Prop
 |.slc ks,u=>SlOk fz ks u
 |_,_=>True
inductive SV where
 |int (k:IntKind) (e:E) | bool (e:E) | str (e:E)
 |nilp | ptr (b:Nat) (o:Off)
 |nils | slice (b:Nat) (o:Off) (len cap:E)
 |nslice (b:Nat) (len cap:E)
 |bsl (ks:List CK) (e:E) | bptr (ks:List CK) (e idx:E) (j:Nat)
 |nilm | map (b:Nat)
 |nili | nilf | func (fn:Fn) (fi ca:List SV)
 |agg (cs:List SV) | tup (cs:List SV)
 |junk
 |nsl (b:Nat) (ks:List CK) (e i:E) (c:Nat) | nptr (b:Nat) (ks:List CK) (e i:E) (c:Nat) (x:E) (j:Nat)
 deriving Inhabited
def Env.blk(F:Env)(b:Nat):Nat:=(F.bs.getD b ⟨0,0,none⟩).blk
def Env.off(F:Env)(b:Nat):Nat:=(F.bs.getD b ⟨0,0,none⟩).off
def Env.nil(F:Env)(b:Nat):Bool:=(F.bs.getD b ⟨0,0,none⟩).nil
def Env.base(F:Env)(b:Nat):Option Addr:=(F.bs.getD b ⟨0,0,none⟩).base
def En(u:U)(n:Nat):Option Addr:=match u.adr with | some a=>some ⟨a.block,a.off+n,none⟩ | none=>none
mutual
def SV.den(F:Env):SV->Value
 |.int k e=>.int k (e.I F)
 |.bool e=>.bool (e.B F)
 |.str e=>.string (e.S F)
 |.nilp=>.pointer none
 |.ptr b o=>.pointer (some ⟨F.blk b,F.off b+o.den F,none⟩)
 |.nils=>.slice none 0 0
 |.slice b o l c=>.slice (some ⟨F.blk b,F.off b+o.den F,none⟩) (l.I F).toNat (c.I F).toNat
 |.nslice b l c=>.slice (F.base b) (l.I F).toNat (c.I F).toNat
 |.bsl _ e=>(e.den F).raw
 |.bptr ks e i j=>.pointer (En (e.den F) ((i.I F).toNat*ks.length+j))
 |.nilm=>.map none
 |.map b=>.map (some (F.blk b))
 |.nili=>.nilIface
 |.nilf=>.nilFunc
 |.func fn fi ca=>.func fn (SV.dens F fi).toArray (SV.dens F ca).toArray
 |.agg cs=>.agg (SV.dens F cs).toArray
 |.tup cs=>.tuple (SV.dens F cs).toArray
 |.junk=>Go.undef
 |.nsl _ _ e _ _=>(e.den F).raw
 |.nptr _ ks e _ _ x j=>.pointer (En (e.den F) ((x.I F).toNat*ks.length+j))
def SV.dens(F:Env):List SV->List Value
 |[]=>[]
 |v::vs=>v.den F::SV.dens F vs
end
mutual
def SV.ok(F:Env):SV->Prop
 |.bsl ks e=>SlOk F.fz ks (e.den F)
 |.bptr ks e i _=>SlOk F.fz ks (e.den F)/\0<=i.I F/\((i.I F).toNat+1)*ks.length<=(e.L F).length/\0<ks.length
 |.func _ fi ca=>SV.oks F fi/\SV.oks F ca
 |.agg cs=>SV.oks F cs
 |.tup cs=>SV.oks F cs
 |.nptr _ ks e _ _ x _=>0<=x.I F/\0<ks.length/\∃(r len cap:Nat) (l:List U),e.den F=.bx (some ⟨r,0,none⟩) len cap l/\(x.I F).toNat<len
 |_=>True
def SV.oks(F:Env):List SV->Prop
 |[]=>True
 |v::vs=>v.ok F/\SV.oks F vs
end
def SV.undef:SV:=.tup []
structure Ent where
 k:SV
 v:SV
 born:E
 deriving Inhabited
inductive SObj where
 |gone
 |cells (cs:List SV) (af:E) (elem:TypeId)
 |flat (ks:List CK) (l n af:E) (elem:TypeId)
 |map (es:List Ent) (clk:E)
 |mapl (k:IntKind) (c:CK) (e:E)
 |maplp (k:IntKind) (c:CK) (e ke s:E)
 |iter (k:IntKind) (c:CK) (e left:E) (cur:Option E)
 |nest (ks:List CK) (l n af:E) (elem:TypeId)
 deriving Inhabited
structure Blk where
 own:Bool
 obj:SObj
 deriving Inhabited
structure St where
 nv:Nat
 nb:Nat
 heap:T Blk
 pc:List E
 deriving Inhabited
inductive Ex where
 |normal | exit (id:Nat) | ret
 deriving Inhabited
abbrev Tm:=T SV
structure Out where
 ex:Ex
 tmps:Tm
 st:St
 deriving Inhabited
noncomputable def E.scp(nv:Nat)(e:E):Bool:=
 E.rec (motive:=fun _=>Bool) (fun _=>true) (fun _=>true) (fun _=>true) (fun i=>Nat.blt i nv)
  (fun _ _ _ _ a b=>Bool.rec false b a) (fun _ _ _ a b=>Bool.rec false b a) (fun _ _ a b=>Bool.rec false b a) (fun _ _ a b=>Bool.rec false b a)
  (fun _ _ a=>a) (fun _ a=>a) (fun _ _ a b=>Bool.rec false b a) (fun _ _ a b=>Bool.rec false b a) (fun _ _ a b=>Bool.rec false b a) (fun _ _ a b=>Bool.rec false b a)
  (fun _ _ a=>a) (fun _ _ a b=>Bool.rec false b a) e
noncomputable def SV.scp(nv nb:Nat)(v:SV):Bool:=
 SV.rec (motive_1:=fun _=>Bool) (motive_2:=fun _=>Bool)
  (fun _ e=>e.scp nv) (fun e=>e.scp nv) (fun e=>e.scp nv) true (fun b o=>Bool.rec false (o.idx.scp nv) (Nat.blt b nb))
  true (fun b o l c=>Bool.rec false (Bool.rec false (Bool.rec false (c.scp nv) (l.scp nv)) (o.idx.scp nv)) (Nat.blt b nb))
  (fun b l c=>Bool.rec false (Bool.rec false (c.scp nv) (l.scp nv)) (Nat.blt b nb))
  (fun _ e=>e.scp nv) (fun _ e i _=>Bool.rec false (i.scp nv) (e.scp nv))
  true (fun b=>Nat.blt b nb) true true (fun _ _ _ a b=>Bool.rec false b a) (fun _ a=>a) (fun _ a=>a) true
  (fun b _ e i _=>Bool.rec false (Bool.rec false (i.scp nv) (e.scp nv)) (Nat.blt b nb)) (fun b _ e i _ x _=>Bool.rec false (Bool.rec false (Bool.rec false (x.scp nv) (i.scp nv)) (e.scp nv)) (Nat.blt b nb))
  true (fun _ _ a b=>Bool.rec false b a) v
noncomputable def SV.scps(nv nb:Nat)(l:List SV):Bool:=
 List.rec (motive:=fun _=>Bool) true (fun v _ b=>Bool.rec false b (v.scp nv nb)) l
def ym(nv nb:Nat):List Ent->Bool
 |[]=>true
 |x::es=>x.k.scp nv nb&&(x.v.scp nv nb&&(x.born.scp nv&&ym nv nb es))
def ajn(nv:Nat):Option E->Bool
 |none=>true
 |some e=>e.scp nv
def SObj.scp(nv nb:Nat):SObj->Bool
 |.gone=>true
 |.cells cs af _=>af.scp nv&&SV.scps nv nb cs
 |.flat _ l n af _=>l.scp nv&&(n.scp nv&&af.scp nv)
 |.map es clk=>ym nv nb es&&clk.scp nv
 |.mapl _ _ e=>e.scp nv
 |.maplp _ _ e ke s=>e.scp nv&&(ke.scp nv&&s.scp nv)
 |.iter _ _ e n cur=>e.scp nv&&(n.scp nv&&ajn nv cur)
 |.nest _ l n af _=>l.scp nv&&(n.scp nv&&af.scp nv)
def zH(nv:Nat):List E->Bool
 |[]=>true
 |e::es=>e.scp nv&&zH nv es
def Blk.scp(nv nb:Nat)(b:Blk):Bool:=b.obj.scp nv nb
def St.scp(st:St):Bool:=zH st.nv st.pc&&T.all (Blk.scp st.nv st.nb) st.heap
def jT(nv nb:Nat)(t:Tm):Bool:=T.all (SV.scp nv nb) t
noncomputable def dQ{G:Type}(l:List G):Nat->Option G:=
 List.rec (motive:=fun _=>Nat->Option G) (fun _=>none) (fun x _ g n=>Nat.rec (some x) (fun n _=>g n) n) l
noncomputable def mL{G:Type}(l:List G):Nat->Option (List G):=
 List.rec (motive:=fun _=>Nat->Option (List G)) (fun n=>Nat.rec (some []) (fun _ _=>none) n)
  (fun x _ g n=>Nat.rec (some []) (fun n _=>Option.rec none (fun l=>some (x::l)) (g n)) n) l
noncomputable def wi{G:Type}(l:List G):Nat->List G:=
 List.rec (motive:=fun _=>Nat->List G) (fun _=>[]) (fun x xs g n=>Nat.rec (x::xs) (fun n _=>g n) n) l
noncomputable def sE{G:Type}(cs:List G):List G->Option (List G):=
 List.rec (motive:=fun _=>List G->Option (List G)) (fun vs=>List.rec (some []) (fun _ _ _=>none) vs)
  (fun c cs g vs=>List.rec (some (c::cs)) (fun v vs _=>Option.rec none (fun l=>some (v::l)) (g vs)) vs) cs
noncomputable def nY{G:Type}(cs:List G):Nat->List G->Option (List G):=
 List.rec (motive:=fun _=>Nat->List G->Option (List G)) (fun n vs=>Nat.rec (sE [] vs) (fun _ _=>none) n)
  (fun c cs g n vs=>Nat.rec (sE (c::cs) vs) (fun n _=>Option.rec none (fun l=>some (c::l)) (g n vs)) n) cs
def SV.cells:SV->List SV
 |.agg cs=>cs
 |v=>[v]
def SV.one:SV->Bool
 |.agg _ | .tup _ | .junk=>false
 |_=>true
def oY:List SV->Bool
 |[]=>true
 |v::vs=>v.one&&oY vs
mutual
def ofVal:Value->Option SV
 |.bool b=>some (.bool (.bool b))
 |.int k n=>some (.int k (.int n))
 |.string s=>some (.str (.str s))
 |.pointer none=>some .nilp
 |.slice none n c=>if Nat.beq n 0&&Nat.beq c 0 then some .nils else none
 |.map none=>some .nilm
 |.nilFunc=>some .nilf
 |.nilIface=>some .nili
 |.agg cs=>match pV cs.toList with | some l=>some (.agg l) | none=>none
 |_=>none
def pV:List Value->Option (List SV)
 |[]=>some []
 |v::vs=>match ofVal v,pV vs with | some x,some l=>some (x::l) | _,_=>none
end
end
end Go.SX

namespace Go.SX
noncomputable section
structure Tmpl where
 tmps:Tm
 st:St
 less:E
 deriving Inhabited
structure LoopX where
 n0:Nat
 b0:Nat
 xs:List Out
 deriving Inhabited
structure Ann where
 fn:FuncId
 key:Nat
 ts:List Tmpl
 known:Option LoopX:=none
 deriving Inhabited
inductive NatR where
 |no | lack (e:E) | outs (l:List (SV×St))
structure Nat1 where
 fn:FuncId
 eff:List E->List SV->St->NatR
structure Tab where
 ty:T TypeInfo
 fn:T Func
 facts:List E
 anns:List Ann
 nats:List Nat1
def Tab.und(tb:Tab)(t:TypeId):Option TypeDesc:=
 match tb.ty.get t with
 |some i=>match i.desc with
  |.named _ u=>match tb.ty.get u with
   |some j=>some j.desc
   |none=>none
  |d=>some d
 |none=>none
def qQ(o:Off)(n:Nat):Off:=⟨Nat.add o.base n,o.scale,o.idx⟩
def FZ(tb:Tab)(t:TypeId):Option (List Field):=
 match tb.und t with
 |some (.struct fs)=>some fs.toList
 |_=>none
def cC(tb:Tab)(t:TypeId):Option Nat:=
 match tb.ty.get t with
 |some i=>some i.size
 |none=>none
def jA(tb:Tab)(t:TypeId):Option Bool:=
 match tb.und t with
 |some (.struct _)=>some true
 |some (.array _ _)=>some true
 |some _=>some false
 |none=>none
def iV(tb:Tab)(t:TypeId):Option SV:=
 match tb.ty.get t with
 |some i=>match i.zero with
  |some v=>ofVal v
  |none=>none
 |none=>none
def mr(tb:Tab)(t:TypeId)(cs:List SV)(off:Nat):Option SV:=
 match jA tb t with
 |some true=>match cC tb t with
  |some n=>match mL (wi cs off) n with
   |some l=>some (.agg l)
   |none=>none
  |none=>none
 |some false=>dQ cs off
 |none=>none
def zZ(f:TypeId->SV->SV->Option E)(tb:Tab)(xs ys:List SV):List Field->Option E
 |[]=>some (.bool true)
 |fd::fds=>
  if fd.name == "_" then none else
  match mr tb fd.type xs fd.offset,mr tb fd.type ys fd.offset with
  |some x,some y=>match f fd.type x y,zZ f tb xs ys fds with
   |some a,some b=>some (yA a b)
   |_,_=>none
  |_,_=>none
def zK(f:SV->SV->Option E)(tb:Tab)(elem:TypeId)(n:Nat)(xs ys:List SV):Nat->Nat->Option E
 |0,_=>some (.bool true)
 |k+1,i=>
  match mr tb elem xs (Nat.mul i n),mr tb elem ys (Nat.mul i n)with
  |some x,some y=>match f x y,zK f tb elem n xs ys k (Nat.succ i)with
   |some a,some b=>some (yA a b)
   |_,_=>none
  |_,_=>none
def E5(a b:E):Option E:=
 match a,b with
 |.bool true,.bool y=>some (.bool y)
 |.bool false,.bool y=>some (.bool (!y))
 |.bool true,b=>some b
 |.bool false,b=>some (bo b)
 |a,.bool true=>some a
 |a,.bool false=>some (bo a)
 |a,b=>some (.iff a b)
def iH(P:Program)(tb:Tab):Nat->TypeId->SV->SV->Option E
 |0,_,_,_=>none
 |d+1,t,x,y=>
  match tb.und t,x,y with
  |some .bool,.bool a,.bool b=>E5 a b
  |some (.int _),.int k a,.int k' b=>if fy k k' then some (aI .eql a b)else none
  |some .string,.str a,.str b=>some (mS a b)
  |some (.pointer _),.nilp,.nilp=>some (.bool true)
  |some (.pointer _),.nilp,.ptr _ _=>some (.bool false)
  |some (.pointer _),.ptr _ _,.nilp=>some (.bool false)
  |some (.slice _),.nils,.nils=>some (.bool true)
  |some (.slice _),.nils,.slice _ _ _ _=>some (.bool false)
  |some (.slice _),.slice _ _ _ _,.nils=>some (.bool false)
  |some (.map _ _),.nilm,.nilm=>some (.bool true)
  |some (.map _ _),.nilm,.map _=>some (.bool false)
  |some (.map _ _),.map _,.nilm=>some (.bool false)
  |some (.func _ _ _),.nilf,.nilf=>some (.bool true)
  |some (.func _ _ _),.nilf,.func _ _ _=>some (.bool false)
  |some (.func _ _ _),.func _ _ _,.nilf=>some (.bool false)
  |some (.struct fs),.agg xs,.agg ys=>
   if P.stoodInHeld t then none else zZ (iH P tb d) tb xs ys fs.toList
  |some (.array len elem),.agg xs,.agg ys=>
   match cC tb elem with
   |some n=>zK (iH P tb d elem) tb elem n xs ys len 0
   |none=>none
  |_,_,_=>none
def Sc:SV->Bool
 |.agg _=>true
 |_=>false
def lj(P:Program)(tb:Tab)(t:TypeId)(x y:SV):Option E:=
 if Sc x then(if P.eqGuardType P.depth t then none else iH P tb 40 t x y)else iH P tb 40 t x y
def OH:E->Bool
 |.int n=>!(jo n 0)
 |_=>false
def kX(P:Program)(tb:Tab)(op:BinOp)(t:TypeId)(x y:SV):Option SV:=
 match x,y with
 |.int k a,.int k' b=>
  match op with
  |.shl | .shr=>match b with
   |.int (.ofNat _)=>some (.int k (iZ op k a b))
   |_=>none
  |.add | .sub | .mul | .and | .or | .xor | .andNot=>if fy k k' then some (.int k (iZ op k a b))else none
  |.quo | .rem=>if fy k k'&&OH b then some (.int k (iZ op k a b))else none
  |_=>if fy k k' then some (.bool (aI op a b))else none
 |.str a,.str b=>
  match op with
  |.eql=>some (.bool (mS a b))
  |.neq=>some (.bool (bo (mS a b)))
  |_=>none
 |x,y=>
  match op with
  |.eql=>match lj P tb t x y with | some e=>some (.bool e) | none=>none
  |.neq=>match lj P tb t x y with | some e=>some (.bool (bo e)) | none=>none
  |_=>none
def E6(op:UnOp)(x:SV):Option SV:=
 match op,x with
 |.neg,.int k a=>some (.int k (iZ .sub k (.int 0) a))
 |.xor,.int k a=>some (.int k (iZ .xor k (.int (match k.signed with | true=>-1 | false=>k.max)) a))
 |.not,.bool a=>some (.bool (bo a))
 |_,_=>none
def Cj(tb:Tab)(src dst:TypeId)(x:SV):Option SV:=
 match tb.und src,tb.und dst,x with
 |some _,some (.int k),.int _ a=>some (.int k (rm k a))
 |some .string,some .string,.str e=>some (.str e)
 |_,_,_=>none
def eP:E->Option Nat
 |.int (.ofNat n)=>some n
 |_=>none
def CN(tb:Tab)(s:TypeId)(x:SV)(f:Nat):Option SV:=
 match FZ tb s,x with
 |some fs,.ptr b o=>match dQ fs f with
  |some fd=>match cC tb fd.type with
   |some n=>if Nat.beq n 0 then none else some (.ptr b (qQ o fd.offset))
   |none=>none
  |none=>none
 |some fs,.bptr ks e i j=>match dQ fs f with
  |some fd=>match cC tb fd.type with
   |some n=>if Nat.beq n 0 then none else some (.bptr ks e i (Nat.add j fd.offset))
   |none=>none
  |none=>none
 |some fs,.nptr b ks e i c x j=>match dQ fs f with
  |some fd=>match cC tb fd.type with
   |some n=>if Nat.beq n 0 then none else some (.nptr b ks e i c x (Nat.add j fd.offset))
   |none=>none
  |none=>none
 |_,_=>none
def Ak(tb:Tab)(s:TypeId)(x:SV)(f:Nat):Option SV:=
 match FZ tb s,x with
 |some fs,.agg cs=>match dQ fs f with
  |some fd=>mr tb fd.type cs fd.offset
  |none=>none
 |_,_=>none
def pd(tb:Tab)(t:TypeId)(x i:SV):Option SV:=
 match i with
 |.int _ (.int (.ofNat n))=>
  match tb.und t,x with
  |some (.array len elem),.ptr b o=>
   if Nat.blt n len then match cC tb elem with
    |some sz=>some (.ptr b (qQ o (Nat.mul n sz)))
    |none=>none
   else none
  |some (.slice elem),.slice b o (.int (.ofNat l)) _=>
   if Nat.blt n l then match cC tb elem with
    |some sz=>some (.ptr b (qQ o (Nat.mul n sz)))
    |none=>none
   else none
  |_,_=>none
 |_=>none
def u0(tb:Tab)(t:TypeId)(x i:SV):Option SV:=
 match i with
 |.int _ (.int (.ofNat n))=>
  match tb.und t,x with
  |some (.array len elem),.agg cs=>
   if Nat.blt n len then match cC tb elem with
    |some sz=>mr tb elem cs (Nat.mul n sz)
    |none=>none
   else none
  |some .string,.str (.str s)=>
   match s[n]? with
   |some b=>some (.int .u8 (.int b.toNat))
   |none=>none
  |_,_=>none
 |_=>none
def A7(x:SV)(i:Nat):Option SV:=
 match x with
 |.tup vs=>dQ vs i
 |_=>none
def mC(place:Nat->Option (Nat×Nat))(cells:List SV):List (Nat×SV)->Option (List SV)
 |[]=>some cells
 |(i,v)::bK=>
  match place i with
  |none=>none
  |some (off,size)=>
   if Nat.beq v.cells.length size then
    match nY cells off v.cells with
    |some cs=>mC place cs bK
    |none=>none
   else none
def oA(ev:Operand->Option SV):List (Nat×Operand)->Option (List (Nat×SV))
 |[]=>some []
 |(i,x)::bK=>match ev x,oA ev bK with
  |some v,some l=>some ((i,v)::l)
  |_,_=>none
def jB(ev:Operand->Option SV):List Operand->Option (List SV)
 |[]=>some []
 |x::bK=>match ev x,jB ev bK with
  |some v,some l=>some (v::l)
  |_,_=>none
def xi(tb:Tab):List Field->Option (List (Nat×Nat))
 |[]=>some []
 |f::fs=>match cC tb f.type,xi tb fs with
  |some n,some l=>some ((f.offset,n)::l)
  |_,_=>none
def xe(tb:Tab)(t:TypeId)(parts:List (Nat×SV)):Option SV:=
 match iV tb t with
 |some z=>
  match tb.und t with
  |some (.struct fs)=>match xi tb fs.toList with
   |some ps=>match mC (dQ ps) z.cells parts with
    |some cs=>some (.agg cs)
    |none=>none
   |none=>none
  |some (.array _ elem)=>match cC tb elem with
   |some sz=>match mC (fun i=>some (Nat.mul i sz,sz)) z.cells parts with
    |some cs=>some (.agg cs)
    |none=>none
   |none=>none
  |_=>none
 |none=>none
def DW(tb:Tab)(t:TypeId)(x:SV):Option SV:=
 match tb.und t,x with
 |some .string,.str (.str s)=>some (.int .i64 (.int s.size))
 |some (.array n _),_=>some (.int .i64 (.int n))
 |some (.slice _),.nils=>some (.int .i64 (.int 0))
 |some (.slice _),.slice _ _ l _=>match eP l with | some n=>some (.int .i64 (.int n)) | none=>none
 |some (.map _ _),.nilm=>some (.int .i64 (.int 0))
 |_,_=>none
def Et(tb:Tab)(t:TypeId)(x:SV):Option SV:=
 match tb.und t,x with
 |some (.array n _),_=>some (.int .i64 (.int n))
 |some (.slice _),.nils=>some (.int .i64 (.int 0))
 |some (.slice _),.slice _ _ _ c=>match eP c with | some n=>some (.int .i64 (.int n)) | none=>none
 |_,_=>none
def ph(mx:Bool)(k:IntKind):List SV->E->Option SV
 |[],a=>some (.int k a)
 |v::vs,a=>match v with
  |.int k' b=>match fy k k' with
   |true=>ph mx k vs (match mx with | true=>oo a b | false=>qT a b)
   |false=>none
  |_=>none
def uG(mx:Bool):List SV->Option SV
 |.int k a::v::vs=>ph mx k (v::vs) a
 |_=>none
def uk(x:Option SV)(dflt y:Nat):Option Nat:=
 match x with
 |none=>some dflt
 |some (.int _ (.int (.ofNat n)))=>if Nat.ble n y then some n else none
 |some _=>none
def y4(len cap:Nat)(lo hi mx:Option SV):Option (Nat×Nat×Nat):=
 match mx,hi with
 |some _,none=>none
 |_,_=>
  match uk mx cap cap with
  |some m=>match uk hi len m with
   |some h=>match uk lo 0 h with
    |some l=>if Nat.ble h m then some (l,h,m)else none
    |none=>none
   |none=>none
  |none=>none
def Ep(o:Off)(m l sz:Nat):Off:=match Nat.beq m l with | true=>o | false=>qQ o (Nat.mul l sz)
def CG(tb:Tab)(t:TypeId)(x:SV)(lo hi mx:Option SV):Option SV:=
 match tb.und t,x with
 |some (.slice elem),.slice b o (.int (.ofNat len)) (.int (.ofNat cap))=>
  match y4 len cap lo hi mx,cC tb elem with
  |some (l,h,m),some sz=>some (.slice b (Ep o m l sz) (.int (.ofNat (Nat.sub h l))) (.int (.ofNat (Nat.sub m l))))
  |_,_=>none
 |some (.slice elem),.nils=>
  match y4 0 0 lo hi mx,cC tb elem with
  |some _,some _=>some .nils
  |_,_=>none
 |some (.array n elem),.ptr b o=>
  match y4 n n lo hi mx,cC tb elem with
  |some (l,h,m),some sz=>some (.slice b (Ep o m l sz) (.int (.ofNat (Nat.sub h l))) (.int (.ofNat (Nat.sub m l))))
  |_,_=>none
 |_,_=>none
def pj(ev:Operand->Option SV):Option Operand->Option (Option SV)
 |none=>some none
 |some x=>match ev x with | some v=>some (some v) | none=>none
def Fd(P:Program)(tb:Tab)(ev:Operand->Option SV)(c:Operand)(a:Operand)(b:Operand):Option SV:=
 match ev c with
  |some (.bool (.bool true))=>ev a
  |some (.bool (.bool false))=>ev b
  |_=>none
def Dh(P:Program)(tb:Tab)(ev:Operand->Option SV)(x:Operand):Option SV:=
 match ev x with
  |some (.ptr b o)=>some (.ptr b o)
  |some (.bptr ks e i j)=>some (.bptr ks e i j)
  |some (.nptr b ks e i c x j)=>some (.nptr b ks e i c x j)
  |_=>none
def BY(P:Program)(tb:Tab)(ev:Operand->Option SV)(op:BinOp)(t:TypeId)(x:Operand)(y:Operand):Option SV:=
 match ev x,ev y with
  |some vx,some vy=>kX P tb op t vx vy
  |_,_=>none
def AE(P:Program)(tb:Tab)(ev:Operand->Option SV)(op:UnOp)(x:Operand):Option SV:=
 match ev x with
  |some v=>E6 op v
  |none=>none
def Ft(P:Program)(tb:Tab)(ev:Operand->Option SV)(src:TypeId)(dst:TypeId)(x:Operand):Option SV:=
 match ev x with
  |some v=>Cj tb src dst v
  |none=>none
def EI(P:Program)(tb:Tab)(ev:Operand->Option SV)(s:TypeId)(x:Operand)(f:Nat):Option SV:=
 match ev x with
  |some v=>CN tb s v f
  |none=>none
def Cd(P:Program)(tb:Tab)(ev:Operand->Option SV)(s:TypeId)(x:Operand)(f:Nat):Option SV:=
 match ev x with
  |some v=>Ak tb s v f
  |none=>none
def Bz(P:Program)(tb:Tab)(ev:Operand->Option SV)(t:TypeId)(x:Operand)(i:Operand):Option SV:=
 match ev x,ev i with
  |some v,some w=>pd tb t v w
  |_,_=>none
def Ax(P:Program)(tb:Tab)(ev:Operand->Option SV)(t:TypeId)(x:Operand)(i:Operand):Option SV:=
 match ev x,ev i with
  |some v,some w=>u0 tb t v w
  |_,_=>none
def EL(P:Program)(tb:Tab)(ev:Operand->Option SV)(x:Operand)(i:Nat):Option SV:=
 match ev x with
  |some v=>A7 v i
  |none=>none
def DX(P:Program)(tb:Tab)(ev:Operand->Option SV)(t:TypeId)(parts:Array (Nat×Operand)):Option SV:=
 match oA ev parts.toList with
  |some ps=>xe tb t ps
  |none=>none
def Bb(P:Program)(tb:Tab)(ev:Operand->Option SV)(fn:Fn)(fi:Array Operand)(ca:Array Operand):Option SV:=
 match jB ev fi.toList,jB ev ca.toList with
  |some a,some b=>some (.func fn a b)
  |_,_=>none
def Bx(P:Program)(tb:Tab)(ev:Operand->Option SV)(t:TypeId)(x:Operand)(lo:Option Operand)(hi:Option Operand)(mx:Option Operand):Option SV:=
 match ev x,pj ev lo,pj ev hi,pj ev mx with
  |some v,some l,some h,some m=>CG tb t v l h m
  |_,_,_,_=>none
def FN(P:Program)(tb:Tab)(ev:Operand->Option SV)(c:Call):Option SV:=
 match c.callee with
  |.builtin b=>match jB ev c.args.toList with
   |some vs=>match b with
    |.len=>match dQ c.argTypes.toList 0,dQ vs 0 with
     |some t,some v=>DW tb t v
     |_,_=>none
    |.cap=>match dQ c.argTypes.toList 0,dQ vs 0 with
     |some t,some v=>Et tb t v
     |_,_=>none
    |.min=>uG false vs
    |.max=>uG true vs
    |_=>none
   |none=>none
  |_=>none
noncomputable def rS(P:Program)(tb:Tab)(ev:Operand->Option SV)(o:Op):Option SV:=
 Op.rec (motive:=fun _=>Option SV)
  (fun x=>ev x)
  (fun x=>ev x)
  (fun c a b=>Fd P tb ev c a b)
  (fun _=>none)
  (fun _ _=>none)
  (fun t parts=>DX P tb ev t parts)
  (fun _ _ _=>none)
  (fun _ _ _ _=>none)
  (fun _ _=>none)
  (fun _ _ _=>none)
  (fun _=>none)
  (fun _=>none)
  (fun x=>Dh P tb ev x)
  (fun op t x y _=>BY P tb ev op t x y)
  (fun op _ x=>AE P tb ev op x)
  (fun src dst x=>Ft P tb ev src dst x)
  (fun _ _=>none)
  (fun _ _=>none)
  (fun fn fi ca=>Bb P tb ev fn fi ca)
  (fun _ _=>none)
  (fun _ _=>none)
  (fun _ _ _=>none)
  (fun t x lo hi mx=>Bx P tb ev t x lo hi mx)
  (fun s x f=>EI P tb ev s x f)
  (fun s x f=>Cd P tb ev s x f)
  (fun t x i=>Bz P tb ev t x i)
  (fun t x i=>Ax P tb ev t x i)
  (fun _ _ _ _=>none)
  (fun _ _ _ _=>none)
  (fun _ _ _=>none)
  (fun _ _ _ _=>none)
  (fun _ _=>none)
  (fun _ _=>none)
  (fun _=>none)
  (fun _ _ _ _=>none)
  (fun x i=>EL P tb ev x i)
  (fun c=>FN P tb ev c)
  (fun _=>none)
  (fun _=>none)
  (fun _=>none)
  (fun _ _=>none)
  (fun _ _ _=>none)
  (fun _ _=>none)
  o
theorem ace(P:Program)(tb:Tab)(ev:Operand->Option SV)(o:Op):rS P tb ev o=(match o with
 |.move x=>ev x
 |.assign x=>ev x
 |.pick c a b=>Fd P tb ev c a b
 |.nilCheck x=>Dh P tb ev x
 |.binOp op t x y _=>BY P tb ev op t x y
 |.unOp op _ x=>AE P tb ev op x
 |.convert src dst x=>Ft P tb ev src dst x
 |.fieldAddr s x f=>EI P tb ev s x f
 |.field s x f=>Cd P tb ev s x f
 |.indexAddr t x i=>Bz P tb ev t x i
 |.index t x i=>Ax P tb ev t x i
 |.extract x i=>EL P tb ev x i
 |.build t parts=>DX P tb ev t parts
 |.makeFunc fn fi ca=>Bb P tb ev fn fi ca
 |.slice t x lo hi mx=>Bx P tb ev t x lo hi mx
 |.call c=>FN P tb ev c
 |_=>none):=by cases o<;>rfl
def zr(e:E):List E->Bool
 |[]=>false
 |x::xs=>match x.beq e with | true=>true | false=>zr e xs
def pF(e:E)(l:List E):Bool:=gb (lI e) fun c=>zr e (CI c l)
def aEF:E->Bool
 |.and _ _=>true
 |_=>false
def afv(pc:List E)(a:E):Bool:=match aEF a with | true=>pF a pc | false=>false
def sj(pc:List E):E->Bool
 |.and a b=>match afv pc a with
  |true=>sj pc b
  |false=>match sj pc a with | true=>sj pc b | false=>false
 |e=>pF e pc
def rp(pc:List E)(e:E):List E->Bool
 |[]=>false
 |x::xs=>match x with
  |.imp p c=>match c.beq e with
   |true=>match sj pc p with
    |true=>true
    |false=>rp pc e xs
   |false=>rp pc e xs
  |_=>match x.beq e with
   |true=>true
   |false=>rp pc e xs
def uH(pc:List E)(e:E)(l:List E):Bool:=gb (lI e) fun n=>rp pc e (FE n l)
def wq(a:Option Int)(b:Int):Option Int:=
 match a with
 |some x=>some (lp x b)
 |none=>some b
def xE(a:Option Int)(b:Int):Option Int:=
 match a with
 |some x=>some (nF x b)
 |none=>some b
def mE(c:E):List E->Option Int->Option Int
 |[],r=>r
 |e::es,r=>match e with
  |.not (.cmp .lss a (.int k))=>match (dB a).beq c with
   |true=>mE c es (wq r (k-fI a))
   |false=>mE c es r
  |.cmp .lss (.int k) a=>match (dB a).beq c with
   |true=>mE c es (wq r (k+1-fI a))
   |false=>mE c es r
  |.cmp .eql a (.int k)=>match (dB a).beq c with
   |true=>mE c es (wq r (k-fI a))
   |false=>mE c es r
  |_=>mE c es r
def mK(c:E):List E->Option Int->Option Int
 |[],r=>r
 |e::es,r=>match e with
  |.not (.cmp .lss (.int k) a)=>match (dB a).beq c with
   |true=>mK c es (xE r (k-fI a))
   |false=>mK c es r
  |.cmp .lss a (.int k)=>match (dB a).beq c with
   |true=>mK c es (xE r (k-1-fI a))
   |false=>mK c es r
  |.cmp .eql a (.int k)=>match (dB a).beq c with
   |true=>mK c es (xE r (k-fI a))
   |false=>mK c es r
  |_=>mK c es r
def zo:E->Bool
 |.fn f _=>match f with
  |0=>true
  |9=>true
  |13=>true
  |22=>true
  |26=>true
  |29=>true
  |_=>false
 |_=>false
def rk(c:E)(k:Int):List E->Bool
 |[]=>false
 |e::es=>match e with
  |.not (.cmp .eql a (.int j))=>match (dB a).beq c&&jo (j-fI a) k with
   |true=>true
   |false=>rk c k es
  |_=>rk c k es
def Fh(pc:List E)(c:E):Nat->Int->Int
 |0,k=>k
 |n+1,k=>match rk c k pc with
  |true=>Fh pc c n (k+1)
  |false=>k
def DE(pc:List E)(c:E):Nat->Int->Int
 |0,k=>k
 |n+1,k=>match rk c k pc with
  |true=>DE pc c n (k-1)
  |false=>k
def Ks(c:E)(pc:List E):Option Int:=
 match mE c pc (match zo c with | true=>some 0 | false=>none)with
 |some k=>some (Fh pc c 4 k)
 |none=>none
def GQ(c:E)(pc:List E):Option Int:=
 match mK c pc none with
 |some k=>some (DE pc c 4 k)
 |none=>none
def qV(pc:List E)(c:E):Option Int:=gb (lI c) fun n=>Ks c (xX n pc)
def l5(pc:List E)(c:E):Option Int:=gb (lI c) fun n=>GQ c (xX n pc)
def leI(a b:Int):Bool:=b7 .leq a b
def oS(a b:Int):Bool:=b7 .lss a b
def Ci(pc:List E)(e:E):Option Bool:=
 match e with
 |.cmp .lss a (.int k)=>match qV pc (dB a)with
  |some x=>match leI k (x+fI a)with
   |true=>some false
   |false=>match l5 pc (dB a)with
    |some y=>match oS (y+fI a) k with
     |true=>some true
     |false=>none
    |none=>none
  |none=>match l5 pc (dB a)with
   |some y=>match oS (y+fI a) k with
    |true=>some true
    |false=>none
   |none=>none
 |.cmp .lss (.int k) a=>match qV pc (dB a)with
  |some x=>match oS k (x+fI a)with
   |true=>some true
   |false=>match l5 pc (dB a)with
    |some y=>match leI (y+fI a) k with
     |true=>some false
     |false=>none
    |none=>none
  |none=>match l5 pc (dB a)with
   |some y=>match leI (y+fI a) k with
    |true=>some false
    |false=>none
   |none=>none
 |.cmp .eql a (.int k)=>match qV pc (dB a)with
  |some x=>match oS k (x+fI a)with
   |true=>some false
   |false=>match l5 pc (dB a)with
    |some y=>match oS (y+fI a) k with
     |true=>some false
     |false=>match jo (x+fI a) k&&jo (y+fI a) k with
      |true=>some true
      |false=>none
    |none=>none
  |none=>match l5 pc (dB a)with
   |some y=>match oS (y+fI a) k with
    |true=>some false
    |false=>none
   |none=>none
 |_=>none
def Qs:Option Bool->Option Bool
 |some b=>some (!b)
 |none=>none
def Kz(fs pc:List E)(e:E):Option Bool:=
 match uH pc e pc with
  |true=>some true
  |false=>match uH pc (bo e) pc with
   |true=>some false
   |false=>match uH pc e fs with
    |true=>some true
    |false=>match uH pc (bo e) fs with
     |true=>some false
     |false=>match e with
      |.not x=>Qs (Ci pc x)
      |_=>Ci pc e
noncomputable def aDO(e:E):Option Bool:=E.rec (motive:=fun _=>Option Bool) (fun _=>none) some (fun _=>none) (fun _=>none) (fun _ _ _ _ _ _=>none) (fun _ _ _ _ _=>none) (fun _ _ _ _=>none) (fun _ _ _ _=>none) (fun _ _ _=>none) (fun _ _=>none) (fun _ _ _ _=>none) (fun _ _ _ _=>none) (fun _ _ _ _=>none) (fun _ _ _ _=>none) (fun _ _ _=>none) (fun _ _ _ _=>none) e
noncomputable def eK(fs pc:List E)(e:E):Option Bool:=Option.rec (motive:=fun _=>Option Bool) (Kz fs pc e) some (aDO e)
theorem ajf(fs pc:List E)(e:E):eK fs pc e=(match e with
 |.bool b=>some b
 |_=>Kz fs pc e):=by cases e<;>rfl
def kn(fs pc:List E)(a b:E):Bool:=
 match eK fs pc (aI .lss a b)with
 |some true=>true
 |_=>false
def qf(fs pc:List E)(a b:E):Bool:=
 match eK fs pc (aI .lss a b)with
 |some false=>true
 |_=>false
def dR(fs pc:List E)(e:E):Bool:=
 match zo e with
 |true=>true
 |false=>qf fs pc e (.int 0)
inductive Rz where
 |lit (j:Nat)
 |ask (e:E)
 |lack (e:E)
def zV(fs pc:List E)(i:E):Nat->Nat->Rz
 |0,_=>.lack (.bool false)
 |n+1,j=>match eK fs pc (aI .eql i (.int (.ofNat j)))with
  |some true=>.lit j
  |some false=>zV fs pc i n (Nat.succ j)
  |none=>.ask (aI .eql i (.int (.ofNat j)))
def iw(o:Off):Option Nat:=match o.scale with | 0=>some o.base | _=>none
def vB(tb:Tab)(st:St)(t:TypeId)(x:SV):Option SV:=
 match x with
 |.ptr b o=>match st.heap.get b with
  |some ⟨_,.cells cs _ _⟩=>match iw o with
   |some n=>match jA tb t with
    |some true=>match cC tb t with
     |some sz=>match mL (wi cs n) sz with
      |some l=>some (.agg l)
      |none=>none
     |none=>none
    |some false=>dQ cs n
    |none=>none
   |none=>none
  |_=>none
 |_=>none
def Gf(tb:Tab)(st:St)(t:TypeId)(x v:SV):Option St:=
 match x with
 |.ptr b o=>match st.heap.get b with
  |some ⟨true,.cells cs af elem⟩=>match iw o with
   |some n=>match cC tb t with
    | some sz=>if Nat.beq v.cells.length sz&&oY v.cells then
      match nY cs n v.cells with
      |some cs'=>T.setK st.heap b ⟨true,.cells cs' af elem⟩ fun h=>some {st with heap:=h}
      |none=>none
     else none
    |none=>none
   |none=>none
  |_=>none
 |_=>none
def pu(tmps:Tm)(st:St)(elem:TypeId)(cs:List SV):Option (SV×St):=
 if st.scp&&jT st.nv st.nb tmps&&SV.scps st.nv st.nb cs then
  T.insK st.heap st.nb ⟨true,.cells cs (.int (.ofNat cs.length)) elem⟩ fun h=>some (.ptr st.nb ⟨0,0,.int 0⟩,{st with nb:=Nat.succ st.nb,heap:=h})
 else none
def iS(z:List SV):Nat->List SV
 |0=>[]
 |n+1=>z++iS z n
inductive EffR where
 |val (v:SV) (st:St)
 |skip (st:St)
 |ask (e:E)
 |lack (e:E)
 |bad
def EffR.ofVal:Option SV->St->EffR
 |some v,st=>.val v st
 |none,_=>.bad
def EffR.ofPair:Option (SV×St)->EffR
 |some (v,st)=>.val v st
 |none=>.bad
noncomputable def isJunk(v:SV):Bool:=
 SV.rec (motive_1:=fun _=>Bool) (motive_2:=fun _=>Bool) (fun _ _=>false) (fun _=>false) (fun _=>false) false (fun _ _=>false) false (fun _ _ _ _=>false)
  (fun _ _ _=>false) (fun _ _=>false) (fun _ _ _ _=>false) false (fun _=>false) false false (fun _ _ _ _ _=>false) (fun _ _=>false) (fun _ _=>false) true
  (fun _ _ _ _ _=>false) (fun _ _ _ _ _ _ _=>false)
  false (fun _ _ _ _=>false) v
noncomputable def aoI(v:SV):Option SV:=Bool.rec (some v) none (isJunk v)
noncomputable def ad2(x:Option SV):Option SV:=Option.rec (motive:=fun _=>Option SV) (some .undef) aoI x
noncomputable def bE(tmps:Tm)(x:Operand):Option SV:=
 Operand.rec (motive:=fun _=>Option SV) (fun t=>ad2 (tmps.get t)) ofVal (fun _=>none) (fun f=>some (.func (.func f) [] [])) x
theorem Wo(tmps:Tm)(t:Tmp):bE tmps (.tmp t)=(match tmps.get t with
  |some v=>match v with
   |.junk=>none
   |_=>some v
  |none=>some .undef):=by
 show ad2 (tmps.get t)=_;cases tmps.get t with
 |none=>rfl
 |some v=>cases v<;>rfl
theorem aKt(tmps:Tm)(v:Value):bE tmps (.const v)=ofVal v:=rfl
theorem aak(tmps:Tm)(g:Nat):bE tmps (.global g)=none:=rfl
theorem Wl(tmps:Tm)(f:FuncId):bE tmps (.func f)=some (.func (.func f) [] []):=rfl
def aT{G:Type}:List G->Nat
 |[]=>0
 |_::xs=>Nat.succ (aT xs)
def ik(w:Nat)(e:E):E:=
 match e with
 |.fn 24 (.pr _ (.pr l (.pr h _)))=>match l with
  |.int (.ofNat 0)=>h
  |_=>.fn 29 (.pr h l)
 |.fn 28 (.pr (.pr _ n) _)=>n
 |.fn 30 _=>.int 0
 |e=>match w with | 1=>iQ e | _=>.fn 9 (.pr e (.int (.ofNat w)))
def pb(e:E):E:=
 match e with
 |.fn 24 (.pr _ (.pr l (.pr _ m)))=>match l with
  |.int (.ofNat 0)=>m
  |_=>.fn 29 (.pr m l)
 |.fn 30 _=>.int 0
 |e=>.fn 22 e
def eg(w:Nat)(idx:E)(j:Nat):E:=
 match w with
 |1=>idx
 |_=>match idx with
  |.int n=>.int (n * .ofNat w + .ofNat j)
  |_=>.fn 6 (.pr (.fn 8 (.pr idx (.int (.ofNat w)))) (.int (.ofNat j)))
def iY(fs pc:List E):E->E->E
 |.fn 2 (.pr l' (.pr j v)),i=>match i.beq j with
  |true=>v
  |false=>match i,j with
   |.int (.ofNat _),.int (.ofNat _)=>iY fs pc l' i
   |_,_=>match eK fs pc (aI .eql i j)with
    |some true=>match qf fs pc j (.int 0)with
     |true=>v
     |false=>.fn 1 (.pr (.fn 2 (.pr l' (.pr j v))) i)
    |some false=>match qf fs pc j (.int 0)with
     |true=>iY fs pc l' i
     |false=>.fn 1 (.pr (.fn 2 (.pr l' (.pr j v))) i)
    |none=>.fn 1 (.pr (.fn 2 (.pr l' (.pr j v))) i)
 |.fn 3 (.pr a b),i=>match kn fs pc i (iQ a)with
  |true=>iY fs pc a i
  |false=>match qf fs pc i (iQ a)with
   |true=>iY fs pc b (kf i (iQ a))
   |false=>.fn 1 (.pr (.fn 3 (.pr a b)) i)
 |.fn 23 (.pr x r),i=>match i with
  |.int (.ofNat n)=>match n with
   |0=>x
   |n+1=>iY fs pc r (.int (.ofNat n))
  |_=>.fn 1 (.pr (.fn 23 (.pr x r)) i)
 |.fn 5 (.pr n x),i=>x
 |.fn 11 x,i=>x
 |.fn 21 (.pr r c),i=>iY fs pc c i
 |.fn 28 (.pr r c),i=>iY fs pc c i
 |.fn 24 (.pr (.pr (.int (.ofNat 1)) e) (.pr l m)),i=>match qf fs pc l (.int 0)with
  |true=>iY fs pc e (du l i)
  |false=>.fn 1 (.pr (.fn 24 (.pr (.pr (.int (.ofNat 1)) e) (.pr l m))) i)
 |l,i=>.fn 1 (.pr l i)
inductive FA where
 |at (idx:E) (j:Nat)
 |lack (e:E)
 |bad
def CD(fs pc:List E)(n idx:E)(j:Nat):FA:=
 match kn fs pc idx n with
 |true=>.at idx j
 |false=>.lack (aI .lss idx n)
def pY(fs pc:List E)(w:Nat)(n:E)(o:Off):FA:=
 match w with
 |0=>.bad
 |_=>match o.scale with
  |0=>CD fs pc n (.int (.ofNat (Nat.div o.base w))) (Nat.mod o.base w)
  |s=>match Nat.beq s w with
   |true=>match dR fs pc o.idx with
    |true=>CD fs pc n (du o.idx (.int (.ofNat (Nat.div o.base w)))) (Nat.mod o.base w)
    |false=>.lack (bo (aI .lss o.idx (.int 0)))
   |false=>.bad
def mU(c:CK)(e:E):SV:=
 match c with
 |.int k=>.int k e
 |.bool=>.bool e
 |.str=>.str e
 |.slc ks=>.bsl ks e
def vR(fs pc:List E)(ks:List CK)(w:Nat)(l idx:E):Nat->Nat->Option (List SV)
 |0,_=>some []
 |n+1,j=>match dQ ks j with
  |some c=>match vR fs pc ks w l idx n (Nat.succ j)with
   |some vs=>some (mU c (iY fs pc l (eg w idx j))::vs)
   |none=>none
  |none=>none
def rd(tb:Tab)(st:St)(t:TypeId)(ks:List CK)(l idx:E)(j:Nat):EffR:=
 match jA tb t with
 |some true=>match cC tb t with
  |some sz=>match vR tb.facts st.pc ks (aT ks) l idx sz j with
   |some vs=>.val (.agg vs) st
   |none=>.bad
  |none=>.bad
 |some false=>match vR tb.facts st.pc ks (aT ks) l idx 1 j with
  |some vs=>match vs with
   |[v]=>.val v st
   |_=>.bad
  |none=>.bad
 |none=>.bad
def lF:E->E
 |.fn 21 (.pr x _)=>lF x
 |e=>e
def ud(e:E):E:=match e with
 |.fn 21 (.pr _ c)=>c
 |.fn 28 (.pr _ c)=>c
 |e=>e
def xZ(b:Nat)(c:CK)(e idx:E)(j:Nat):SV:=
 match c with
 |.int k=>.int k e
 |.bool=>.bool e
 |.str=>.str e
 |.slc ks=>.nsl b ks e idx j
def vO(fs pc:List E)(b:Nat)(ks:List CK)(w:Nat)(l idx:E):Nat->Nat->Option (List SV)
 |0,_=>some []
 |n+1,j=>match dQ ks j with
  |some c=>match vO fs pc b ks w l idx n (Nat.succ j)with
   |some vs=>some (xZ b c (iY fs pc l (eg w idx j)) idx j::vs)
   |none=>none
  |none=>none
def zD(tb:Tab)(st:St)(t:TypeId)(b:Nat)(ks:List CK)(l idx:E)(j:Nat):EffR:=
 match jA tb t with
 |some true=>match cC tb t with
  |some sz=>match vO tb.facts st.pc b ks (aT ks) l idx sz j with
   |some vs=>.val (.agg vs) st
   |none=>.bad
  |none=>.bad
 |some false=>match vO tb.facts st.pc b ks (aT ks) l idx 1 j with
  |some vs=>match vs with
   |[v]=>.val v st
   |_=>.bad
  |none=>.bad
 |none=>.bad
inductive NA where
 |at (cur p:E)
 |lack (e:E)
 |bad
def ZH(e cur p:E):NA:=match (lF cur).beq (lF e)with | true=>.at cur p | false=>.bad
def qw(fs pc:List E)(h:T Blk)(b:Nat)(ks:List CK)(e idx:E)(c:Nat):NA:=
 match h.get b with
 |some ⟨true,.nest ks0 l n _ _⟩=>match dQ ks0 c with
  |some (.slc ks')=>match gt ks ks' with
   |true=>match dR fs pc idx with
    |true=>match kn fs pc idx n with
     |true=>ZH e (iY fs pc l (eg (aT ks0) idx c)) (eg (aT ks0) idx c)
     |false=>.lack (aI .lss idx n)
    |false=>.lack (bo (aI .lss idx (.int 0)))
   |false=>.bad
  |_=>.bad
 |_=>.bad
def xx(tb:Tab)(st:St)(t:TypeId)(x:SV):EffR:=
 match x with
 |.ptr b o=>match st.heap.get b with
  |some ⟨_,.flat ks l n _ _⟩=>match pY tb.facts st.pc (aT ks) n o with
   |.at idx j=>rd tb st t ks l idx j
   |.lack e=>.lack e
   |.bad=>.bad
  |some ⟨_,.nest ks l n _ _⟩=>match pY tb.facts st.pc (aT ks) n o with
   |.at idx j=>zD tb st t b ks l idx j
   |.lack e=>.lack e
   |.bad=>.bad
  |_=>.bad
 |.bptr ks e idx j=>rd tb st t ks e idx j
 |.nptr b ks e idx c x j=>match qw tb.facts st.pc st.heap b ks e idx c with
  |.at cur _=>rd tb st t ks cur x j
  |.lack e=>.lack e
  |.bad=>.bad
 |_=>.bad
def kV(c:CK)(v:SV):Option E:=
 match c,v with
 |.int k,.int k' e=>match fy k k' with | true=>some e | false=>none
 |.bool,.bool e=>some e
 |.str,.str e=>some e
 |.slc ks,.bsl ks' e=>match gt ks ks' with | true=>some e | false=>none
 |.slc _,.nils=>some (.fn 30 (.int 0))
 |_,_=>none
def putCells(ks:List CK)(w:Nat)(idx:E):List SV->Nat->E->Option E
 |[],_,l=>some l
 |v::vs,j,l=>match dQ ks j with
  |some c=>match kV c v with
   |some e=>putCells ks w idx vs (Nat.succ j) (jN l (eg w idx j) e)
   |none=>none
  |none=>none
def Mc(c:CK)(v:SV):Bool:=
 match c,v with
 |.slc _,.nils=>true
 |.slc _,_=>false
 |_,_=>true
def Fq:List CK->Nat->List SV->Bool
 |_,_,[]=>true
 |ks,j,v::vs=>match dQ ks j with
  |some c=>Mc c v&&Fq ks (Nat.succ j) vs
  |none=>false
def JS(st:St)(b:Nat)(l':E):EffR:=
 match st.heap.get b with
 |some ⟨true,.nest ks _ n af elem⟩=>T.setK st.heap b ⟨true,.nest ks l' n af elem⟩ fun h=>.skip {st with heap:=h}
 |_=>.bad
def acW(st:St)(b:Nat):E:=
 match st.heap.get b with
 |some ⟨_,.nest _ l _ _ _⟩=>l
 |_=>.int 0
def zO(tb:Tab)(st:St)(t:TypeId)(b:Nat)(ks:List CK)(x:E)(j:Nat)(v:SV)(cur p:E):EffR:=
 match cC tb t with
 |some sz=>match Nat.beq v.cells.length sz&&Nat.ble j (aT ks)with
  |true=>match putCells ks (aT ks) x v.cells j (ud cur)with
   |some c'=>JS st b (jN (acW st b) p (.fn 21 (.pr (lF cur) c')))
   |none=>.bad
  |false=>.bad
 |none=>.bad
def rf(tb:Tab)(st:St)(t:TypeId)(x v:SV):EffR:=
 match x with
 |.nptr b ks e idx c x j=>match qw tb.facts st.pc st.heap b ks e idx c with
  |.at cur p=>zO tb st t b ks x j v cur p
  |.lack e=>.lack e
  |.bad=>.bad
 |.ptr b o=>match st.heap.get b with
  |some ⟨true,.flat ks l n af elem⟩=>match pY tb.facts st.pc (aT ks) n o with
   |.at idx j=>match cC tb t with
    |some sz=>match Nat.beq v.cells.length sz with
     |true=>match putCells ks (aT ks) idx v.cells j l with
      |some l'=>T.setK st.heap b ⟨true,.flat ks l' n af elem⟩ fun h=>.skip {st with heap:=h}
      |none=>.bad
     |false=>.bad
    |none=>.bad
   |.lack e=>.lack e
   |.bad=>.bad
  |some ⟨true,.nest ks l n af elem⟩=>match pY tb.facts st.pc (aT ks) n o with
   |.at idx j=>match cC tb t with
    |some sz=>match Nat.beq v.cells.length sz&&Fq ks j v.cells with
     |true=>match putCells ks (aT ks) idx v.cells j l with
      |some l'=>T.setK st.heap b ⟨true,.nest ks l' n af elem⟩ fun h=>.skip {st with heap:=h}
      |none=>.bad
     |false=>.bad
    |none=>.bad
   |.lack e=>.lack e
   |.bad=>.bad
  |_=>.bad
 |_=>.bad
def C5(fs pc:List E)(o:Off)(sz:Nat)(i:E):Option Off:=
 match o.scale with
 |0=>some ⟨o.base,sz,i⟩
 |s=>match Nat.beq s sz with
  |true=>match dR fs pc o.idx with
   |true=>some ⟨o.base,sz,du o.idx i⟩
   |false=>none
  |false=>none
def lit(k:IntKind)(j:Nat):SV:=.int k (.int (.ofNat j))
def oT(tb:Tab)(st:St)(e:E)(n:Nat)(f:Nat->Option SV):EffR:=
 match zV tb.facts st.pc e n 0 with
 |.lit j=>.ofVal (f j) st
 |.ask e=>.ask e
 |.lack e=>.lack e
inductive BK where
 |cells | flat (n:E) | other
def AG(st:St)(b:Nat):BK:=
 match st.heap.get b with
 |some ⟨_,.flat _ _ n _ _⟩=>.flat n
 |some ⟨_,.nest _ _ n _ _⟩=>.flat n
 |some ⟨_,.cells _ _ _⟩=>.cells
 |_=>.other
def pz(tb:Tab)(st:St)(e l:E)(k:EffR):EffR:=
 match dR tb.facts st.pc e with
 |true=>match kn tb.facts st.pc e l with
  |true=>k
  |false=>.lack (aI .lss e l)
 |false=>.lack (bo (aI .lss e (.int 0)))
def xC(tb:Tab)(st:St)(t:TypeId)(x i:SV):EffR:=
 match i with
 |.int k e=>match tb.und t with
  |some (.array len _)=>match x with
   |.ptr _ _=>oT tb st e len fun j=>pd tb t x (lit k j)
   |_=>.bad
  |some (.slice elem)=>match cC tb elem with
   |some sz=>match x with
    |.slice b o l _=>match AG st b with
     |.flat _=>pz tb st e l (match C5 tb.facts st.pc o sz e with
      |some o'=>.val (.ptr b o') st
      |none=>.bad)
     |_=>match eP l with
      |some n=>oT tb st e n fun j=>pd tb t x (lit k j)
      |none=>.bad
    |.nslice b l _=>match AG st b with
     |.flat n=>pz tb st e l (match kn tb.facts st.pc e n with
      |true=>.val (.ptr b ⟨0,sz,e⟩) st
      |false=>.lack (aI .lss e n))
     |.cells=>match eP l with
      |some n=>oT tb st e n fun j=>match Nat.blt j n with
       |true=>some (.ptr b ⟨Nat.mul j sz,0,.int 0⟩)
       |false=>none
      |none=>.bad
     |.other=>.bad
    |.bsl ks y=>match Nat.beq (aT ks) sz&&Nat.blt 0 sz with
     |true=>pz tb st e (ik sz y) (.val (.bptr ks y e 0) st)
     |false=>.bad
    |.nsl b ks y idx c=>match Nat.beq (aT ks) sz&&Nat.blt 0 sz with
     |true=>match qw tb.facts st.pc st.heap b ks y idx c with
      |.at cur _=>pz tb st e (ik sz cur) (.val (.nptr b ks y idx c e 0) st)
      |.lack e=>.lack e
      |.bad=>.bad
     |false=>.bad
    |_=>.bad
   |none=>.bad
  |_=>.bad
 |_=>.bad
def zk(tb:Tab)(st:St)(t:TypeId)(x i:SV):EffR:=
 match i with
 |.int k e=>match tb.und t with
  |some (.array len _)=>oT tb st e len fun j=>u0 tb t x (lit k j)
  |_=>.bad
 |_=>.bad
def pM(tb:Tab)(st:St)(e:E):EffR:=
 match dR tb.facts st.pc e with
 |true=>.val (.int .i64 e) st
 |false=>.lack (bo (aI .lss e (.int 0)))
def tV(tb:Tab)(st:St)(c:Bool)(t:TypeId)(x:SV):EffR:=
 match tb.und t with
 |some (.slice elem)=>match x with
  |.slice _ _ l m=>pM tb st (match c with | true=>m | false=>l)
  |.nslice _ l m=>pM tb st (match c with | true=>m | false=>l)
  |.bsl ks e=>match ks with
   |[]=>.bad
   |_=>pM tb st (match c with | true=>pb e | false=>ik (aT ks) e)
  |.nsl b ks e idx j=>match ks with
   |[]=>.bad
   |_=>match qw tb.facts st.pc st.heap b ks e idx j with
    |.at cur _=>pM tb st (match c with | true=>pb (lF cur) | false=>ik (aT ks) cur)
    |.lack e=>.lack e
    |.bad=>.bad
  |_=>.bad
 |some .string=>match c with
  |true=>.bad
  |false=>match x with
   |.str e=>.val (.int .i64 (.fn 13 e)) st
   |_=>.bad
 |some (.map _ _)=>match c with
  |true=>.bad
  |false=>match x with
  |.map b=>match st.heap.get b with
   |some ⟨_,.map es _⟩=>.val (.int .i64 (.int (.ofNat (aT es)))) st
   |some ⟨_,.mapl _ _ e⟩=>.val (.int .i64 (.fn 0 e)) st
   |_=>.bad
  |_=>.bad
 |_=>.bad
def dm(fs pc:List E)(a b:E):Bool:=qf fs pc b a
def fF(d:E):Option SV->Option E
 |none=>some d
 |some (.int _ e)=>some e
 |some _=>none
def Hb(fs pc:List E)(c lo hi mx:E)(hlo hhi hmx:Bool):Option E:=
 match hlo && !(dR fs pc lo)with
 |true=>some (bo (aI .lss lo (.int 0)))
 |false=>match hhi && !(dR fs pc hi)with
  |true=>some (bo (aI .lss hi (.int 0)))
  |false=>match hmx && !(dR fs pc mx)with
   |true=>some (bo (aI .lss mx (.int 0)))
   |false=>match hmx && !(dm fs pc mx c)with
    |true=>some (bo (aI .lss c mx))
    |false=>match hhi && !(dm fs pc hi mx)with
     |true=>some (bo (aI .lss mx hi))
     |false=>match hlo && !(dm fs pc lo hi)with
      |true=>some (bo (aI .lss hi lo))
      |false=>none
def ie:Option SV->Bool | some _=>true | none=>false
def Fg(fs pc:List E)(lo hi mx:E):Option Bool:=
 match kn fs pc lo hi&&dm fs pc hi mx with
 |true=>some true
 |false=>match eK fs pc (aI .eql mx lo)with
  |some true=>some false
  |some false=>some true
  |none=>none
def rW:E->Bool
 |.int (.ofNat n)=>Nat.beq n 0
 |_=>false
def MU(fs pc:List E)(len cap lo hi mx:E)(hlo hhi hmx:Bool):Option E:=
 match hlo && !(dR fs pc lo)with
 |true=>some (bo (aI .lss lo (.int 0)))
 |false=>match hhi && !(dR fs pc hi)with
  |true=>some (bo (aI .lss hi (.int 0)))
  |false=>match hmx && !(dR fs pc mx)with
   |true=>some (bo (aI .lss mx (.int 0)))
   |false=>match hmx && !(dm fs pc mx cap||dm fs pc mx len)with
    |true=>some (bo (aI .lss len mx))
    |false=>match hhi && !(dm fs pc hi len)with
     |true=>some (bo (aI .lss len hi))
     |false=>match hmx && !(dm fs pc hi mx)with
      |true=>some (bo (aI .lss mx hi))
      |false=>match hlo && !(dm fs pc lo hi)with
       |true=>some (bo (aI .lss hi lo))
       |false=>none
def rN(fs pc:List E):List E->E
 |[]=>.bool false
 |c::cs=>match eK fs pc c with
  |some true=>rN fs pc cs
  |_=>c
def xF(tb:Tab)(st:St)(sz:Nat)(x:SV)(lo hi mx:E):EffR:=
 match x with
 |.nslice b _ c=>match rW lo with
  |true=>.val (.nslice b hi mx) st
  |false=>match Fg tb.facts st.pc lo hi mx with
   |some false=>match dm tb.facts st.pc hi mx&&dm tb.facts st.pc lo hi with
    |true=>.val (.nslice b (.int 0) (.int 0)) st
    |false=>.lack (rN tb.facts st.pc [bo (aI .lss mx hi),bo (aI .lss hi lo)])
   |some true=>match st.heap.get b with
    |some ⟨_,.flat _ _ _ af _⟩=>match dm tb.facts st.pc c af&&(dm tb.facts st.pc mx c&&(dR tb.facts st.pc lo&&(dm tb.facts st.pc lo hi&&dm tb.facts st.pc hi mx)))with
     |true=>.val (.slice b ⟨0,sz,lo⟩ (kf hi lo) (kf mx lo)) st
     |false=>.lack (rN tb.facts st.pc [bo (aI .lss af c),bo (aI .lss c mx),bo (aI .lss lo (.int 0)),bo (aI .lss hi lo),bo (aI .lss mx hi)])
    |some ⟨_,.cells _ _ _⟩=>match eP lo with
     |some n=>match dm tb.facts st.pc lo hi&&dm tb.facts st.pc hi mx with
      |true=>.val (.slice b ⟨Nat.mul n sz,0,.int 0⟩ (kf hi lo) (kf mx lo)) st
      |false=>.bad
     |none=>.bad
    |_=>.bad
   |none=>.ask (aI .eql mx lo)
 |.slice b o _ _=>match rW lo with
  |true=>.val (.slice b o hi mx) st
  |false=>match Fg tb.facts st.pc lo hi mx with
   |some false=>match dm tb.facts st.pc hi mx&&dm tb.facts st.pc lo hi with
    |true=>.val (.slice b o (.int 0) (.int 0)) st
    |false=>.bad
   |some true=>match dR tb.facts st.pc lo&&(dm tb.facts st.pc lo hi&&dm tb.facts st.pc hi mx)with
    |true=>match eP lo with
     |some n=>.val (.slice b (qQ o (Nat.mul n sz)) (kf hi lo) (kf mx lo)) st
     |none=>match C5 tb.facts st.pc o sz lo with
      |some o'=>.val (.slice b o' (kf hi lo) (kf mx lo)) st
      |none=>.bad
    |false=>.bad
   |none=>.ask (aI .eql mx lo)
 |_=>.bad
def HR:SV->Option (E×E)
 |.slice _ _ l c=>some (l,c)
 |.nslice _ l c=>some (l,c)
 |_=>none
def Ae(tb:Tab)(st:St)(t:TypeId)(x:SV)(lo hi mx:Option SV):EffR:=
 match tb.und t with
 |some (.slice elem)=>match cC tb elem with
  |some sz=>match ie mx && !(ie hi)with
   |true=>.bad
   |false=>match x with
    |.bsl ks e=>match Nat.beq (aT ks) sz&&Nat.blt 0 sz with
     |true=>match fF (.int 0) lo,fF (ik sz e) hi,fF (pb e) mx with
      |some lo',some hi',some mx'=>match MU tb.facts st.pc (ik sz e) (pb e) lo' hi' mx' (ie lo) (ie hi) (ie mx)with
       |some e=>.lack e
       |none=>.val (.bsl ks (.fn 24 (.pr (.pr (.int (.ofNat sz)) e) (.pr lo' (.pr hi' mx'))))) st
      |_,_,_=>.bad
     |false=>.bad
    |_=>match HR x with
     |some (l,c)=>match fF (.int 0) lo,fF l hi,fF c mx with
      |some lo',some hi',some mx'=>match Hb tb.facts st.pc c lo' hi' mx' (ie lo) (ie hi) (ie mx)with
       |some e=>.lack e
       |none=>xF tb st sz x lo' hi' mx'
      |_,_,_=>.bad
     |none=>.bad
  |none=>.bad
 |_=>.bad
def g9:List SV->List SV->Nat->Option E
 |[],[],0=>some (.bool true)
 |x::xs,y::ys,n+1=>match x,y with
  |.int k a,.int k' b=>match fy k k',g9 xs ys n with
   |true,some e=>some (yA (aI .eql a b) e)
   |_,_=>none
  |_,_=>none
 |_,_,_=>none
def zI(tb:Tab)(t:TypeId)(x y:SV):Option E:=
 match tb.und t with
 |some (.array len elem)=>match tb.und elem with
  |some (.int _)=>match cC tb elem,jA tb elem with
   |some 1,some false=>match x,y with
    |.agg xs,.agg ys=>g9 xs ys len
    |_,_=>none
   |_,_=>none
  |_=>none
 |some .bool=>match x,y with
  |.bool a,.bool b=>E5 a b
  |_,_=>none
 |some (.int _)=>match x,y with
  |.int k a,.int k' b=>match fy k k' with
   |true=>some (aI .eql a b)
   |false=>none
  |_,_=>none
 |some .string=>match x,y with
  |.str a,.str b=>some (mS a b)
  |_,_=>none
 |_=>none
inductive FR where
 |at (i:Nat) (v:SV) (born:E)
 |no
 |ask (e:E)
 |bad
def oK(tb:Tab)(pc:List E)(kt:TypeId)(k:SV):List Ent->Nat->FR
 |[],_=>.no
 |x::es,i=>match zI tb kt k x.k with
  |some e=>match eK tb.facts pc e with
   |some true=>.at i x.v x.born
   |some false=>oK tb pc kt k es (Nat.succ i)
   |none=>.ask e
  |none=>.bad
def qd(tb:Tab)(kt:TypeId)(k:SV):Bool:=
 match zI tb kt k k with
 |some _=>true
 |none=>false
def kK(ok:Bool)(v:SV)(is:E):SV:=match ok with | true=>.tup [v,.bool is] | false=>v
def wI(tb:Tab)(st:St)(t:TypeId)(x k:SV)(ok:Bool):EffR:=
 match tb.und t with
 |some (.map kt vt)=>match iV tb vt,qd tb kt k with
  |some z,true=>match x with
   |.nilm=>.val (kK ok z (.bool false)) st
   |.map b=>match st.heap.get b with
    |some ⟨_,.map es _⟩=>match oK tb st.pc kt k es 0 with
     |.at _ v _=>.val (kK ok v (.bool true)) st
     |.no=>.val (kK ok z (.bool false)) st
     |.ask e=>.ask e
     |.bad=>.bad
    |some ⟨_,.mapl k0 c e⟩=>match k,kV c z with
     |.int k1 ke,some ze=>match fy k1 k0 with
      |true=>.val (kK ok (mU c (.fn 32 (.pr e (.pr ke ze)))) (.fn 33 (.pr e ke))) st
      |false=>.bad
     |_,_=>.bad
    |_=>.bad
   |_=>.bad
  |_,_=>.bad
 |_=>.bad
def Gl(tb:Tab)(tmps:Tm)(st:St)(t:TypeId)(x:Operand):EffR:=
 match bE tmps x with
  |some v=>match vB tb st t v with
   |some u=>.val u st
   |none=>xx tb st t v
  |none=>.bad
def Cr(tb:Tab)(tmps:Tm)(st:St)(t:TypeId)(x:Operand)(y:Operand):EffR:=
 match bE tmps x,bE tmps y with
  |some v,some w=>match Gf tb st t v w with
   |some st'=>.skip st'
   |none=>rf tb st t v w
  |_,_=>.bad
def F7(tb:Tab)(tmps:Tm)(st:St)(t:TypeId)(x:Operand)(i:Operand):EffR:=
 match bE tmps x,bE tmps i with
  |some v,some w=>xC tb st t v w
  |_,_=>.bad
def BF(tb:Tab)(tmps:Tm)(st:St)(t:TypeId)(x:Operand)(i:Operand):EffR:=
 match bE tmps x,bE tmps i with
  |some v,some w=>zk tb st t v w
  |_,_=>.bad
def FO(tb:Tab)(tmps:Tm)(st:St)(c:Call):EffR:=
 match c.callee with
  |.builtin b=>match dQ c.argTypes.toList 0,jB (bE tmps) c.args.toList with
   |some t,some vs=>match dQ vs 0 with
    |some v=>match b with
     |.len=>tV tb st false t v
     |.cap=>tV tb st true t v
     |_=>.bad
    |none=>.bad
   |_,_=>.bad
  |_=>.bad
def AX(tb:Tab)(tmps:Tm)(st:St)(t:TypeId)(x:Operand)(lo:Option Operand)(hi:Option Operand)(mx:Option Operand):EffR:=
 match bE tmps x,pj (bE tmps) lo,pj (bE tmps) hi,pj (bE tmps) mx with
  |some v,some l,some h,some m=>Ae tb st t v l h m
  |_,_,_,_=>.bad
def EQ(tb:Tab)(tmps:Tm)(st:St)(t:TypeId)(x:Operand)(k:Operand)(ok:Bool):EffR:=
 match bE tmps x,bE tmps k with
  |some v,some w=>wI tb st t v w ok
  |_,_=>.bad
def C9(tb:Tab)(tmps:Tm)(st:St)(elem:TypeId)(x:Operand):EffR:=
 match bE tmps x with
  |some v=>.ofPair (pu tmps st elem v.cells)
  |none=>.bad
def Az(tb:Tab)(tmps:Tm)(st:St)(elem:TypeId):EffR:=
 match iV tb elem with
  |some v=>.ofPair (pu tmps st elem v.cells)
  |none=>.bad
def AA(tb:Tab)(tmps:Tm)(st:St)(t:TypeId)(len:Nat)(parts:Array (Nat×Operand)):EffR:=
 match tb.und t,oA (bE tmps) parts.toList with
  |some (.slice elem),some ps=>match cC tb elem,iV tb elem with
   |some sz,some z=>if Nat.ble (Nat.mul len sz) 16777216&&Nat.beq z.cells.length sz then match mC (fun i=>some (Nat.mul i sz,sz)) (iS z.cells len) ps with
    |some cs=>match pu tmps st elem cs with
     |some (.ptr b o,st')=>.val (.slice b o (.int (.ofNat len)) (.int (.ofNat len))) st'
     |_=>.bad
    |none=>.bad
    else .bad
   |_,_=>.bad
  |_,_=>.bad
def E2(tb:Tab)(st:St)(op:BinOp)(k:IntKind)(a b:E):EffR:=
 match eK tb.facts st.pc (aI .lss b (.int 0))with
 |some false=>.val (.int k (iZ op k a b)) st
 |_=>.lack (bo (aI .lss b (.int 0)))
def u7(tb:Tab)(st:St)(op:BinOp)(k:IntKind)(a:E)(k':IntKind)(b:E):EffR:=
 match fy k k' with
 |true=>match eK tb.facts st.pc (aI .eql b (.int 0))with
  |some false=>match op with
   |.quo=>.val (.int k (iZ .quo k a b)) st
   |.rem=>.val (.int k (iZ .rem k a b)) st
   |_=>.bad
  |_=>match op with
   |.quo=>.lack (bo (aI .eql b (.int 0)))
   |.rem=>.lack (bo (aI .eql b (.int 0)))
   |_=>.bad
 |false=>.bad
def sb(tb:Tab)(st:St)(op:BinOp)(k:IntKind)(a:E)(k':IntKind)(b:E):EffR:=
 match op with
 |.shl=>E2 tb st .shl k a b
 |.shr=>E2 tb st .shr k a b
 |.quo=>u7 tb st .quo k a k' b
 |.rem=>u7 tb st .rem k a k' b
 |_=>.bad
def Cg(tb:Tab)(tmps:Tm)(st:St)(op:BinOp)(t:TypeId)(x:Operand)(y:Operand):EffR:=
 match bE tmps x,bE tmps y with
  |some (.int k a),some (.int k' b)=>sb tb st op k a k' b
  |some (.ptr a i),some (.ptr b j)=>
   match tb.und t with
   |some (.pointer elem)=>match cC tb elem with
    |some (Nat.succ _)=>match st.heap.get a,st.heap.get b,iw i,iw j with
     |some ⟨own1,.cells (_::_) _ _⟩,some ⟨own2,.cells (_::_) _ _⟩,some m,some n=>
      match own1||own2 with
      |true=>match op with
       |.eql=>.val (.bool (.bool (Nat.beq a b&&Nat.beq m n))) st
       |.neq=>.val (.bool (.bool (!(Nat.beq a b&&Nat.beq m n)))) st
       |_=>.bad
      |false=>.bad
     |_,_,_,_=>.bad
    |_=>.bad
   |_=>.bad
  |_,_=>.bad
def Bw(tb:Tab)(tmps:Tm)(st:St)(c:Operand)(a:Operand)(b:Operand):EffR:=
 match bE tmps c with
  |some (.bool e)=>match eK tb.facts st.pc e with
   |some true=>.ofVal (bE tmps a) st
   |some false=>.ofVal (bE tmps b) st
   |none=>.ask e
  |_=>.bad
noncomputable def ng(tb:Tab)(tmps:Tm)(st:St)(o:Op):EffR:=
 Op.rec (motive:=fun _=>EffR)
  (fun _=>.bad)
  (fun _=>.bad)
  (fun c a b=>Bw tb tmps st c a b)
  (fun elem=>Az tb tmps st elem)
  (fun elem x=>C9 tb tmps st elem x)
  (fun _ _=>.bad)
  (fun t len parts=>AA tb tmps st t len parts)
  (fun _ _ _ _=>.bad)
  (fun t x=>Gl tb tmps st t x)
  (fun t x y=>Cr tb tmps st t x y)
  (fun _=>.bad)
  (fun _=>.bad)
  (fun _=>.bad)
  (fun op t x y _=>Cg tb tmps st op t x y)
  (fun _ _ _=>.bad)
  (fun _ _ _=>.bad)
  (fun _ _=>.bad)
  (fun _ _=>.bad)
  (fun _ _ _=>.bad)
  (fun _ _=>.bad)
  (fun _ _=>.bad)
  (fun _ _ _=>.bad)
  (fun t x lo hi mx=>AX tb tmps st t x lo hi mx)
  (fun _ _ _=>.bad)
  (fun _ _ _=>.bad)
  (fun t x i=>F7 tb tmps st t x i)
  (fun t x i=>BF tb tmps st t x i)
  (fun t x k ok=>EQ tb tmps st t x k ok)
  (fun _ _ _ _=>.bad)
  (fun _ _ _=>.bad)
  (fun _ _ _ _=>.bad)
  (fun _ _=>.bad)
  (fun _ _=>.bad)
  (fun _=>.bad)
  (fun _ _ _ _=>.bad)
  (fun _ _=>.bad)
  (fun c=>FO tb tmps st c)
  (fun _=>.bad)
  (fun _=>.bad)
  (fun _=>.bad)
  (fun _ _=>.bad)
  (fun _ _ _=>.bad)
  (fun _ _=>.bad)
  o
theorem ac7(tb:Tab)(tmps:Tm)(st:St)(o:Op):ng tb tmps st o=(match o with
 |.load t x=>Gl tb tmps st t x
 |.store t x y=>Cr tb tmps st t x y
 |.indexAddr t x i=>F7 tb tmps st t x i
 |.index t x i=>BF tb tmps st t x i
 |.call c=>FO tb tmps st c
 |.slice t x lo hi mx=>AX tb tmps st t x lo hi mx
 |.lookup t x k ok=>EQ tb tmps st t x k ok
 |.box elem x=>C9 tb tmps st elem x
 |.alloc elem=>Az tb tmps st elem
 |.buildSlice t len parts=>AA tb tmps st t len parts
 |.binOp op t x y _=>Cg tb tmps st op t x y
 |.pick c a b=>Bw tb tmps st c a b
 |_=>.bad):=by cases o<;>rfl
def Q5(f:TypeId->Option (List CK)):List Field->Option (List CK)
 |[]=>some []
 |fd::fds=>match f fd.type,Q5 f fds with
  |some a,some b=>some (a++b)
  |_,_=>none
def nD(l:List CK):Nat->List CK
 |0=>[]
 |n+1=>l++nD l n
def qF(tb:Tab):Nat->TypeId->Option (List CK)
 |0,_=>none
 |d+1,t=>match tb.und t with
  |some (.int k)=>some [.int k]
  |some .bool=>some [.bool]
  |some .string=>some [.str]
  |some (.slice e)=>match qF tb d e with
   |some ks=>some [.slc ks]
   |none=>none
  |some (.struct fs)=>Q5 (qF tb d) fs.toList
  |some (.array n e)=>match qF tb d e with
   |some ks=>some (nD ks n)
   |none=>none
  |_=>none
def sL:List CK->List SV->Option (List E)
 |[],[]=>some []
 |c::cs,v::vs=>match kV c v,sL cs vs with
  |some e,some l=>some (e::l)
  |_,_=>none
 |_,_=>none
def vj(ks:List CK)(n:Nat)(vs:List SV):Option E:=
 match sL (nD ks n) vs with
 |some l=>some (iB l)
 |none=>none
inductive Held where
 |cells (vs:List SV)
 |list (ks:List CK) (l n:E)
def ul(w:Nat)(l n lo len:E):E:=
 match rW lo&&len.beq n with
 |true=>l
 |false=>match w with
  |1=>.fn 4 (.pr l (.pr lo (du lo len)))
  |_=>match rW lo with
   |true=>.fn 18 (.pr l (.fn 8 (.pr len (.int (.ofNat w)))))
   |false=>.fn 4 (.pr l (.pr (.fn 8 (.pr lo (.int (.ofNat w)))) (.fn 8 (.pr (du lo len) (.int (.ofNat w))))))
def BI(w:Nat)(o:Off):Option E:=
 match o.scale with
 |0=>match Nat.beq (Nat.mod o.base w) 0 with
  |true=>some (.int (.ofNat (Nat.div o.base w)))
  |false=>none
 |s=>match Nat.beq s w&&Nat.beq o.base 0 with
  |true=>some o.idx
  |false=>none
def sY(tb:Tab)(st:St)(sz:Nat)(v:SV):Option Held:=
 match v with
 |.nils=>some (.cells [])
 |.bsl ks e=>match Nat.beq (aT ks) sz&&Nat.blt 0 sz with
  |true=>some (.list ks e (ik sz e))
  |false=>none
 |.slice b o len _=>match st.heap.get b with
  |some ⟨_,.cells cs _ _⟩=>match eP len,iw o with
   |some n,some m=>match mL (wi cs m) (Nat.mul n sz)with
    |some l=>match oY l with
     |true=>some (.cells l)
     |false=>none
    |none=>none
   |_,_=>none
  |some ⟨_,.flat ks l n _ _⟩=>match Nat.beq (aT ks) sz&&Nat.blt 0 sz,BI sz o with
   |true,some lo=>match dR tb.facts st.pc lo&&(dR tb.facts st.pc len&&dm tb.facts st.pc (du lo len) n)with
    |true=>some (.list ks (ul sz l n lo len) len)
    |false=>none
   |_,_=>none
  |_=>none
 |.nslice b len _=>match st.heap.get b with
  |some ⟨_,.cells cs _ _⟩=>match eP len with
   |some n=>match mL cs (Nat.mul n sz)with
    |some l=>match oY l with
     |true=>some (.cells l)
     |false=>none
    |none=>none
   |none=>none
  |some ⟨_,.flat ks l n _ _⟩=>match Nat.beq (aT ks) sz&&Nat.blt 0 sz with
   |true=>match dR tb.facts st.pc len&&dm tb.facts st.pc len n with
    |true=>some (.list ks (ul sz l n (.int 0) len) len)
    |false=>none
   |false=>none
  |_=>none
 |_=>none
def h9(tmps:Tm)(st:St):Bool:=st.scp&&jT st.nv st.nb tmps
def Cc(sz:Nat)(c:E):E:=match sz with | 1=>c | _=>.fn 8 (.pr c (.int (.ofNat sz)))
def QQ(sz:Nat)(elem:TypeId)(ct:Held)(c:E):SObj:=
 match ct with
 |.cells vs=>.cells vs (Cc sz c) elem
 |.list ks l n=>.flat ks l n c elem
def Held.scp(nv nb:Nat):Held->Bool
 |.cells vs=>SV.scps nv nb vs
 |.list _ l n=>l.scp nv&&n.scp nv
def pL(tmps:Tm)(st:St)(sz:Nat)(elem:TypeId)(ct:Held)(need:E):Option (SV×St):=
 let c:=E.var st.nv
 match h9 tmps st&&(need.scp st.nv&&ct.scp st.nv st.nb)with
 |true=>T.insK st.heap st.nb ⟨true,QQ sz elem ct c⟩ fun h=>some (.nslice st.nb need c,⟨Nat.succ st.nv,Nat.succ st.nb,h,bo (aI .lss c need)::bo (aI .lss c (.int 0))::st.pc⟩)
 |false=>none
def I3(l l':E):E:=
 match CT l with
 |true=>l'
 |false=>.fn 3 (.pr l l')
def Kv(sz:Nat)(n m:Option Nat)(a b:Held):Option Held:=
 match a,b with
 |.cells x,.cells y=>some (.cells (x++y))
 |.list ks l n,.list ks' l' n'=>match gt ks ks' with
  |true=>some (.list ks (B0 l l') (du n n'))
  |false=>none
 |.list ks l n,.cells y=>match m with
  |some m=>match vj ks m y with
   |some l'=>some (.list ks (B0 l l') (du n (.int (.ofNat m))))
   |none=>none
  |none=>none
 |.cells x,.list ks l' n'=>match n with
  |some n=>match vj ks n x with
   |some l=>some (.list ks (I3 l l') (du (.int (.ofNat n)) n'))
   |none=>none
  |none=>none
def kd(sz:Nat)(v:SV):Option E:=
 match v with
 |.nils=>some (.int 0)
 |.slice _ _ l _=>some l
 |.nslice _ l _=>some l
 |.bsl _ e=>some (ik sz e)
 |_=>none
def ss(v:SV):Option E:=
 match v with
 |.nils=>some (.int 0)
 |.slice _ _ _ c=>some c
 |.nslice _ _ c=>some c
 |.bsl _ e=>some (pb e)
 |_=>none
inductive Eff2 where
 |val (v:SV) (st:St)
 |skip (st:St)
 |ask (e:E)
 |lack (e:E)
 |bad
def lw:E:=.int 2147483648
def yX(sz:Nat)(c af:E):Bool:=
 match eP c with
 |some n=>(E.int (.ofNat (Nat.mul n sz))).beq af
 |none=>(Cc sz c).beq af
def Eg(st:St)(sz:Nat)(elem:TypeId)(v:SV):Option Nat:=
 match v with
 |.nslice b _ c=>match st.heap.get b with
  |some ⟨true,.flat ks _ _ af e⟩=>match c.beq af&&(Nat.beq (aT ks) sz&&Nat.beq e elem)with | true=>some b | false=>none
  |some ⟨true,.cells _ af e⟩=>match yX sz c af&&Nat.beq e elem with | true=>some b | false=>none
  |_=>none
 |.slice b o _ c=>match iw o with
  |some 0=>match st.heap.get b with
   |some ⟨true,.cells _ af e⟩=>match yX sz c af&&Nat.beq e elem with | true=>some b | false=>none
   |_=>none
  |_=>none
 |_=>none
def CH(tb:Tab)(t:TypeId):Option Nat:=
 match tb.ty.get t with
 |some i=>some i.bytes
 |none=>none
def wU(old:SObj)(ct:Held):Option SObj:=
 match old,ct with
 |.cells _ af e,.cells vs=>some (.cells vs af e)
 |.flat _ _ _ af e,.list ks l n=>some (.flat ks l n af e)
 |_,_=>none
def QW(old:SObj)(ct:Held):Bool:=
 match old,ct with
 |.cells _ _ _,_=>true
 |.flat _ _ _ _ _,.list _ _ _=>true
 |_,_=>false
def FT(tmps:Tm)(st:St)(b:Nat)(sz:Nat)(elem:TypeId)(ct:Held)(need:E):Option (SV×St):=
 match st.heap.get b with
 |some ⟨_,old⟩=>match QW old ct with
  |true=>T.setK st.heap b ⟨true,.gone⟩ fun h=>pL tmps {st with heap:=h} sz elem ct need
  |false=>none
 |none=>none
def vq:SV->Bool
 |.bsl _ _=>true
 |_=>false
def Eff2.ofPair:Option (SV×St)->Eff2
 |some (v,st)=>.val v st
 |none=>.bad
def zW(tb:Tab)(t:TypeId):Bool:=
 match tb.und t with
 |some (.slice _)=>true
 |_=>false
def oe(fs pc:List E)(e:E):Bool:=
 match rW e with
 |true=>true
 |false=>match eK fs pc (aI .eql e (.int 0))with
  |some true=>true
  |_=>false
def aCA(fs pc:List E)(ls lx c:E):E:=
 match dR fs pc ls with
 |false=>bo (aI .lss ls (.int 0))
 |true=>match dR fs pc lx with
  |false=>bo (aI .lss lx (.int 0))
  |true=>bo (aI .lss c (.int 0))
def sQ:E:=.iff (.bool true) (.bool true)
def Kf(fs pc:List E)(s:SV)(c:E)(ct:Held):Bool:=
 match ct with
 |.list _ _ _=>match s with
  |.nils=>pF sQ fs
  |.bsl _ _=>match pF sQ fs with | true=>oe fs pc c | false=>false
  |_=>false
 |_=>false
def yG(tb:Tab)(tmps:Tm)(st:St)(elem:TypeId)(sz:Nat)(s:SV)(a b:Held)(ls lx c:E):Eff2:=
  match Kv sz (eP ls) (eP lx) a b with
  |some ct=>
    let need:=du ls lx
    match dR tb.facts st.pc ls&&(dR tb.facts st.pc lx&&dR tb.facts st.pc c)with
    | true=>match dm tb.facts st.pc need lw with
      | true=>match eK tb.facts st.pc (aI .lss c need)with
        |some true=> .ofPair (pL tmps st sz elem ct need)
        | some false=>match !(pF sQ tb.facts)&&oe tb.facts st.pc lx with
          |true=> .val s st
          | false=>match Eg st sz elem s with
            | some b=>match st.heap.get b with
              | some ⟨_,old⟩=>match wU old ct with
                |some obj=>T.setK st.heap b ⟨true,obj⟩ fun h=> .val (.nslice b need c) {st with heap:=h}
                |none=> .lack (aI .eql lx (.int 0))
              |none=> .lack (aI .eql lx (.int 0))
            | none=>match oe tb.facts st.pc lx with
              |true=> .val s st
              |false=> .lack (aI .eql lx (.int 0))
        | none=>match Eg st sz elem s with
          |some b=> .ofPair (FT tmps st b sz elem ct need)
          |none=>match Kf tb.facts st.pc s c ct with
           |true=> .ofPair (pL tmps st sz elem ct need)
           |false=>match vq s with
            | true=>match eK tb.facts st.pc (aI .eql lx (.int 0))with
              |some true=> .val s st
              |some false=> .lack (aI .lss c need)
              |none=> .ask (aI .eql lx (.int 0))
            | false=>match s with
              | .nils=>match eK tb.facts st.pc (aI .eql lx (.int 0))with
                |some true=> .val s st
                |some false=> .lack (aI .lss c need)
                |none=> .ask (aI .eql lx (.int 0))
              |_=> .ask (aI .lss c need)
      |false=> .lack (bo (aI .lss lw need))
    |false=> .lack (aCA tb.facts st.pc ls lx c)
  |none=> .bad
def CQ(tb:Tab)(st:St)(sz:Nat)(v:SV):Option E:=
 match v with
 |.nslice b len _=>match st.heap.get b with
  |some ⟨_,o⟩=>match o with
   |.flat _ _ n _ _=>some (rN tb.facts st.pc [bo (aI .lss len (.int 0)),bo (aI .lss n len)])
   |_=>none
  |none=>none
 |.slice b off len _=>match st.heap.get b with
  |some ⟨_,o⟩=>match o with
   |.flat _ _ n _ _=>match BI sz off with
    |some lo=>some (rN tb.facts st.pc [bo (aI .lss lo (.int 0)),bo (aI .lss len (.int 0)),bo (aI .lss n (du lo len))])
    |none=>none
   |_=>none
  |none=>none
 |_=>none
def tu(x:Option E):Eff2:=
 match x with
 |some e=>.lack e
 |none=>.bad
def um(c pat:E):E:=
 match pat with
 |.fn 23 (.pr e (.fn 10 _))=>.fn 5 (.pr c e)
 |_=>.fn 17 (.pr c pat)
def O2(tb:Tab)(st:St)(elem xt:TypeId)(z x:SV):Option (Held×E):=
 match tb.und xt with
 |some (.int .i64)=>match x with
  |.int .i64 n=>match eP n with
   |some m=>match Nat.ble m 4096&&oY (iS z.cells m)with
    |true=>some (.cells (iS z.cells m),.int (.ofNat m))
    |false=>none
   |none=>match qF tb 12 elem with
    |some ks=>match vj ks 1 z.cells with
     |some pat=>match dR tb.facts st.pc n&&(dm tb.facts st.pc n (.int 4096)&&Nat.blt 0 (aT ks))with
      |true=>some (.list ks (um n pat) n,n)
      |false=>none
     |none=>none
    |none=>none
  |_=>none
 |_=>none
def aru(tb:Tab)(st:St)(x:SV):Option E:=
 match x with
 |.int .i64 n=>match eP n with
  |some _=>none
  |none=>some (rN tb.facts st.pc [bo (aI .lss n (.int 0)),bo (aI .lss (.int 4096) n)])
 |_=>none
def vn(tb:Tab)(tmps:Tm)(st:St)(t xt:TypeId)(s x:SV):Eff2:=
 match tb.und t with
 |some (.slice elem)=>match cC tb elem,CH tb elem,iV tb elem with
  |some sz,some bytes,some z=>match Nat.blt 0 bytes&&(Nat.ble bytes 32768&&(Nat.blt 0 sz&&Nat.beq z.cells.length sz))with
   |true=>match sY tb st sz s,kd sz s,ss s with
    |some a,some ls,some c=>match zW tb xt with
     |true=>match sY tb st sz x,kd sz x with
      |some b,some lx=>yG tb tmps st elem sz s a b ls lx c
      |_,_=>tu (CQ tb st sz x)
     |false=>match O2 tb st elem xt z x with
      |some (b,lx)=>yG tb tmps st elem sz s a b ls lx c
      |none=>tu (aru tb st x)
    |_,_,_=>tu (CQ tb st sz s)
   |false=>.bad
  |_,_,_=>.bad
 |_=>.bad
def uJ(tb:Tab)(tmps:Tm)(st:St)(elem:TypeId)(z:SV)(n c:E):Eff2:=
 match qF tb 12 elem with
 |some ks=>match vj ks 1 z.cells with
  |some pat=>match h9 tmps st&&(n.scp st.nv&&(c.scp st.nv&&(pat.scp st.nv&&Nat.blt 0 (aT ks))))with
   |true=>T.insK st.heap st.nb ⟨true,.flat ks (um c pat) c c elem⟩ fun h=>.val (.nslice st.nb n c) {st with nb:=Nat.succ st.nb,heap:=h}
   |false=>.bad
  |none=>.bad
 |none=>.bad
def Bv(tb:Tab)(tmps:Tm)(st:St)(t:TypeId)(n c:SV):Eff2:=
 match tb.und t with
 |some (.slice elem)=>match cC tb elem,CH tb elem,iV tb elem with
  |some sz,some bytes,some z=>match Nat.beq z.cells.length sz&&(Nat.blt 0 sz&&Nat.ble bytes 32768)with
   |true=>match n,c with
    |.int .i64 n,.int .i64 c=>match dR tb.facts st.pc n&&dm tb.facts st.pc n c with
     |true=>match dm tb.facts st.pc c lw with
      |true=>match eP c with
       |some m=>match Nat.ble (Nat.mul m sz) 256&&n.scp st.nv with
        |true=>match pu tmps st elem (iS z.cells m)with
         |some (.ptr b _,st')=>.val (.nslice b n c) st'
         |_=>.bad
        |false=>uJ tb tmps st elem z n c
       |none=>uJ tb tmps st elem z n c
      |false=>.lack (bo (aI .lss lw c))
     |false=>match dR tb.facts st.pc n with
      |true=>.lack (bo (aI .lss c n))
      |false=>.lack (bo (aI .lss n (.int 0)))
    |_,_=>.bad
   |false=>.bad
  |_,_,_=>.bad
 |_=>.bad
def zM(st:St)(b off:Nat)(ws:List SV)(v:SV):Eff2:=
 match st.heap.get b with
 |some ⟨true,.cells cs af e⟩=>match nY cs off ws with
  |some cs'=>T.setK st.heap b ⟨true,.cells cs' af e⟩ fun h=>.val v {st with heap:=h}
  |none=>.bad
 |_=>.bad
def Fw(tb:Tab)(st:St)(t xt:TypeId)(d s:SV):Eff2:=
 match tb.und t,zW tb xt with
 |some (.slice elem),true=>match cC tb elem with
  |some sz=>match kd sz d,kd sz s,sY tb st sz s with
   |some ld,some ls,some ct=>match ct with
    |.cells vs=>match eP ld,eP ls with
     |some n,some m=>match Nat.ble m n with
      |true=>match d with
       |.nils=>.val (.int .i64 (.int 0)) st
       |.slice b o _ _=>match iw o with
        |some off=>zM st b off vs (.int .i64 (.int (.ofNat m)))
        |none=>.bad
       |.nslice b _ _=>zM st b 0 vs (.int .i64 (.int (.ofNat m)))
       |_=>.bad
      |false=>.bad
     |_,_=>.bad
    |.list ks l n=>match d with
     |.nslice b _ _=>match st.heap.get b with
      |some ⟨true,.flat ks' _ n' af e⟩=>match gt ks ks'&&(ld.beq ls&&(dR tb.facts st.pc ls&&dm tb.facts st.pc ld n'))with
       |true=>T.setK st.heap b ⟨true,.flat ks l n af e⟩ fun h=>.val (.int .i64 ls) {st with heap:=h}
       |false=>match gt ks ks'&&ld.beq ls with
        |true=>.lack (rN tb.facts st.pc [bo (aI .lss ls (.int 0)),bo (aI .lss n' ld)])
        |false=>.bad
      |_=>match eP ls with
       |some m=>match m with
        |0=>.val (.int .i64 (.int 0)) st
        |_+1=>.bad
       |none=>.bad
     |_=>.bad
   |_,_,_=>tu (CQ tb st sz s)
  |none=>.bad
 |_,_=>.bad
def Ik(fs pc:List E)(m:Nat)(af:E):Bool:=
 match dm fs pc (.int (.ofNat m)) af with
 |true=>true
 |false=>match af with
  |.fn f (.pr c (.int (.ofNat k)))=>match Nat.beq f 8,Nat.blt 0 k with
   |true,true=>dm fs pc (.int (.ofNat (Nat.div (Nat.pred (Nat.add m k)) k))) c
   |_,_=>false
  |_=>false
def E9(tb:Tab)(st:St)(elem:TypeId)(b:Nat)(o:Off)(z:SV):Eff2:=
 match Gf tb st elem (.ptr b o) z with
 |some st'=>.val .undef st'
 |none=>match rf tb st elem (.ptr b o) z with
  |.skip st'=>.val .undef st'
  |.ask e=>.ask e
  |.lack e=>.lack e
  |_=>.bad
def tH(tb:Tab)(st:St)(elem:TypeId)(b:Nat)(o:Off):Eff2:=
 match cC tb elem,iV tb elem with
 |some sz,some z=>match Nat.beq z.cells.length sz&&oY z.cells with
  |true=>match st.heap.get b with
   |some ⟨true,.cells cs af e'⟩=>match iw o with
    |some off=>match Nat.ble cs.length off with
     |true=>match Ik tb.facts st.pc (Nat.add off z.cells.length) af with
      |true=>T.setK st.heap b ⟨true,.cells cs af e'⟩ fun h=>.val .undef {st with heap:=h}
      |false=>.lack (bo (aI .lss af (.int (.ofNat (Nat.add off z.cells.length)))))
     |false=>E9 tb st elem b o z
    |none=>.bad
   |some ⟨true,.flat ks l n af e'⟩=>match pY tb.facts st.pc (aT ks) af o with
    |.at idx j=>match Nat.beq j 0&&(Nat.beq z.cells.length (aT ks)&&dm tb.facts st.pc n idx)with
     |true=>T.setK st.heap b ⟨true,.flat ks l n af e'⟩ fun h=>.val .undef {st with heap:=h}
     |false=>E9 tb st elem b o z
    |.lack e=>.lack e
    |.bad=>.bad
   |_=>.bad
  |false=>.bad
 |_,_=>.bad
def Bn(tb:Tab)(st:St)(t:TypeId)(v:SV):Eff2:=
 match tb.und t with
 |some (.slice elem)=>match v with
  |.slice b o n _=>match eP n with
   |some m=>match m with
    |0=>.val .undef st
    |k+1=>match k with
     |0=>tH tb st elem b o
     |_+1=>.bad
   |none=>match eK tb.facts st.pc (aI .eql n (.int 1))with
    |some true=>tH tb st elem b o
    |_=>.lack (aI .eql n (.int 1))
  |.nslice b n _=>match st.heap.get b,eP n with
   |some ⟨true,.cells _ _ _⟩,some m=>match m with
    |0=>.val .undef st
    |k+1=>match k with
     |0=>tH tb st elem b ⟨0,0,.int 0⟩
     |_+1=>.bad
   |_,_=>.bad
  |.nils=>.val .undef st
  |_=>.bad
 |_=>.bad
def mG(es:List Ent)(i:Nat)(v:SV):List Ent:=
 match es with
 |[]=>[]
 |x::es=>match i with
  |0=>⟨x.k,v,x.born⟩::es
  |i+1=>x::mG es i v
def zc(es:List Ent)(i:Nat):List Ent:=
 match es with
 |[]=>[]
 |e::es=>match i with
  |0=>es
  |i+1=>e::zc es i
def sv(st:St)(b:Nat)(es:List Ent)(clk:E):St:=T.setK st.heap b ⟨true,.map es clk⟩ fun h=>{st with heap:=h}
def uC(st:St)(b:Nat)(k:IntKind)(c:CK)(e:E):St:=T.setK st.heap b ⟨true,.mapl k c e⟩ fun h=>{st with heap:=h}
def zF(tb:Tab)(st:St)(t:TypeId)(x k v:SV):Eff2:=
 match tb.und t with
 |some (.map kt _)=>match x,qd tb kt k with
  |.map b,true=>match st.heap.get b with
   |some ⟨true,.map es clk⟩=>match oK tb st.pc kt k es 0 with
    |.at i _ _=>.skip (sv st b (mG es i v) clk)
    |.no=>.skip (sv st b (es++[⟨k,v,clk⟩]) (du clk (.int 1)))
    |.ask e=>.ask e
    |.bad=>.bad
   |some ⟨true,.mapl k0 c e⟩=>match k,kV c v with
    |.int k1 ke,some ve=>match fy k1 k0 with
     |true=>.skip (uC st b k0 c (.fn 34 (.pr e (.pr ke ve))))
     |false=>.bad
    |_,_=>.bad
   |_=>.bad
  |_,_=>.bad
 |_=>.bad
def Lt(st:St)(b:Nat)(k:IntKind)(c:CK)(e ke s:E):St:=T.setK st.heap b ⟨true,.maplp k c e ke s⟩ fun h=>{st with heap:=h}
def B2(e ke ve:E):E:=
 match e with
 |.fn 34 (.pr e0 (.pr ke0 _))=>match ke0.beq ke with
  |true=>.fn 34 (.pr e0 (.pr ke ve))
  |false=>.fn 34 (.pr e (.pr ke ve))
 |e=>.fn 34 (.pr e (.pr ke ve))
def Ed(tb:Tab)(tmps:Tm)(st:St)(t:TypeId)(x k:SV):Eff2:=
 match tb.und t with
 |some (.map kt vt)=>match x,qd tb kt k with
  |.map b,true=>match st.heap.get b with
   |some ⟨true,.map es clk⟩=>match oK tb st.pc kt k es 0 with
    |.at _ v s=>.val (.tup [v,.int .i64 s]) st
    |.no=>match iV tb vt with
     |some z=>.val (.tup [z,.int .i64 clk]) (sv st b (es++[⟨k,z,clk⟩]) (du clk (.int 1)))
     |none=>.bad
    |.ask e=>.ask e
    |.bad=>.bad
   |some ⟨true,.mapl k0 c e⟩=>match iV tb vt with
    |some z=>match k,kV c z with
     |.int k1 ke,some ze=>match fy k1 k0,h9 tmps st&&ke.scp st.nv with
      | true,true=>.val (.tup [mU c (.fn 32 (.pr e (.pr ke ze))),.int .i64 (.var st.nv)])
        (Lt {st with nv:=Nat.succ st.nv} b k0 c (.fn 34 (.pr e (.pr ke (.fn 32 (.pr e (.pr ke ze)))))) ke (.var st.nv))
      |_,_=>.bad
     |_,_=>.bad
    |none=>.bad
   |_=>.bad
  |_,_=>.bad
 |_=>.bad
def xH(s:E):List Ent->Nat->Option Nat
 |[],_=>none
 |x::es,i=>match x.born.beq s with
  |true=>some i
  |false=>xH s es (Nat.succ i)
def EW(st:St)(x s v:SV):Eff2:=
 match x,s with
 |.map b,.int _ s=>match st.heap.get b with
  |some ⟨true,.map es clk⟩=>match xH s es 0 with
   |some i=>.skip (sv st b (mG es i v) clk)
   |none=>.bad
  |some ⟨true,.maplp k0 c e ke s0⟩=>match s0.beq s,kV c v with
   |true,some ve=>.skip (uC st b k0 c (B2 e ke ve))
   |_,_=>.bad
  |_=>.bad
 |_,_=>.bad
def F4(tb:Tab)(st:St)(t:TypeId)(x k:SV):Eff2:=
 match tb.und t with
 |some (.map kt _)=>match x,qd tb kt k with
  |.nilm,true=>.val .undef st
  |.map b,true=>match st.heap.get b with
   |some ⟨true,.map es clk⟩=>match oK tb st.pc kt k es 0 with
    |.at i _ _=>.val .undef (sv st b (zc es i) clk)
    |.no=>.val .undef st
    |.ask e=>.ask e
    |.bad=>.bad
   |some ⟨true,.mapl k0 c e⟩=>match k with
    |.int k1 ke=>match fy k1 k0 with
     |true=>.val .undef (uC st b k0 c (.fn 35 (.pr e ke)))
     |false=>.bad
    |_=>.bad
   |_=>.bad
  |_,_=>.bad
 |_=>.bad
def pX(tb:Tab)(tmps:Tm)(st:St)(v:SV)(yes:Bool):Eff2:=
 match v with
 |.nslice b len _=>match st.heap.get b with
  |some ⟨_,.cells _ _ _⟩=>.val (.bool (.bool (!yes))) st
  |some ⟨_,.flat _ _ n af _⟩=>match kn tb.facts st.pc (.int 0) af||kn tb.facts st.pc (.int 0) n with
   |true=>.val (.bool (.bool (!yes))) st
   |false=>match h9 tmps st&&n.scp st.nv with
    |true=>.val (.bool (match yes with | true=>.var st.nv | false=>.not (.var st.nv))) {st with nv:=Nat.succ st.nv,pc:=.imp (.var st.nv) (aI .eql n (.int 0))::st.pc}
    |false=>.bad
  |_=>.bad
 |.bsl ks e=>match Nat.blt 0 (aT ks)with
  | true=>.val (.bool (match yes with | true=>.fn 31 e | false=>.not (.fn 31 e))) (match zo (ik (aT ks) e)with
    |true=>{st with pc:=.imp (.fn 31 e) (aI .eql (ik (aT ks) e) (.int 0))::.imp (.fn 31 e) (aI .eql (.fn 0 e) (.int 0))::st.pc}
    |false=>st)
  |false=>.bad
 |_=>.bad
def wd:SV->Bool
 |.nils=>true
 |_=>false
def zn:List SV->Option (List UInt8)
 |[]=>some []
 |v::vs=>match v with
  |.int .u8 (.int (.ofNat n))=>match zn vs with
   |some l=>match Nat.blt n 256 with
    |true=>some (UInt8.ofNat n::l)
    |false=>none
   |none=>none
  |_=>none
def Ey(tb:Tab)(st:St)(src dst:TypeId)(v:SV):Eff2:=
 match tb.und src,tb.und dst with
 |some (.slice e),some .string=>match tb.und e with
  |some (.int .u8)=>match v with
   |.nils=>.val (.str (.str ByteArray.empty)) st
   |_=>match sY tb st 1 v with
    |some (.cells vs)=>match zn vs with
     |some l=>.val (.str (.str ⟨l.toArray⟩)) st
     |none=>.bad
    |some (.list ks l _)=>match ks with
     |[.int .u8]=>.val (.str (.fn 41 l)) st
     |_=>.bad
    |none=>tu (CQ tb st 1 v)
  |_=>.bad
 |_,_=>.bad
def vu:List UInt8->List E
 |[]=>[]
 |b::l=>.int (.ofNat b.toNat)::vu l
def Fl(tb:Tab)(tmps:Tm)(st:St)(src dst:TypeId)(v:SV):Eff2:=
 match tb.und src,tb.und dst with
 |some .string,some (.slice e)=>match tb.und e with
  |some (.int .u8)=>match v with
   |.str (.str s)=>match h9 tmps st with
    |true=>.val (.bsl [.int .u8] (.fn 28 (.pr (.pr (.var st.nv) (.int (.ofNat s.size))) (iB (vu s.data.toList))))) {st with nv:=Nat.succ st.nv}
    |false=>.bad
   |_=>.bad
  |_=>.bad
 |_,_=>Ey tb st src dst v
def Nc(tb:Tab)(tmps:Tm)(st:St)(t:TypeId)(x:SV):Eff2:=
 match tb.und t,x with
 |some (.map _ _),.map b=>match st.heap.get b with
  |some ⟨true,.mapl k c e⟩=>match eK tb.facts st.pc (.fn 39 e),h9 tmps st with
   |some true,true=>T.setK st.heap b ⟨true,.gone⟩ fun h=>T.insK h st.nb ⟨true,.iter k c e (.fn 0 e) none⟩ fun h=>.val (.ptr st.nb ⟨0,0,.int 0⟩) {st with nb:=Nat.succ st.nb,heap:=h}
   |some true,false=>.bad
   |_,_=>.lack (.fn 39 e)
  |_=>.bad
 |_,_=>.bad
def MS(tb:Tab)(tmps:Tm)(st:St)(x:SV)(str:Bool):Eff2:=
 match str,x with
 |false,.ptr b o=>match iw o with
  |some 0=>match st.heap.get b with
   |some ⟨true,.iter k c e n _⟩=>match eK tb.facts st.pc (aI .eql n (.int 0))with
    |some true=>.val (.tup [.bool (.bool false)]) st
    |some false=>match h9 tmps st with
     |true=>T.setK st.heap b ⟨true,.iter k c e (du n (.int (-1))) (some (.var st.nv))⟩ fun h=>
       .val (.tup [.bool (.bool true),.int k (.var st.nv),mU c (.fn 32 (.pr e (.pr (.var st.nv) (.int 0))))]) {st with nv:=Nat.succ st.nv,heap:=h,pc:=.fn 33 (.pr e (.var st.nv))::st.pc}
     |false=>.bad
    |none=>.ask (aI .eql n (.int 0))
   |_=>.bad
  |_=>.bad
 |_,_=>.bad
def Ix(st:St)(x:SV):Eff2:=
 match x with
 |.ptr b o=>match iw o with
  |some 0=>match st.heap.get b with
   |some ⟨true,.iter k c e _ (some u)⟩=>.val (.tup [.int k u,mU c (.fn 32 (.pr e (.pr u (.int 0))))]) st
   |_=>.bad
  |_=>.bad
 |_=>.bad
def Hk(tb:Tab)(tmps:Tm)(st:St)(t:TypeId)(x:Operand):Eff2:=
 match bE tmps x with
  |some v=>Nc tb tmps st t v
  |none=>.bad
def IE(tb:Tab)(tmps:Tm)(st:St)(x:Operand)(str:Bool):Eff2:=
 match bE tmps x with
  |some v=>MS tb tmps st v str
  |none=>.bad
def Im(tb:Tab)(tmps:Tm)(st:St)(x:Operand):Eff2:=
 match bE tmps x with
  |some v=>Ix st v
  |none=>.bad
def EY(st:St)(n len cap af l:E):Bool:=
 n.beq len&&(cap.beq af&&(st.scp&&(l.scp st.nv&&(len.scp st.nv&&cap.scp st.nv))))
def zE(ks0:List CK)(fs:List E)(p:SV×St):SV×St:=
 match p.1 with
 |.nils=>(.bsl ks0 (.fn 30 (.int 0)),p.2)
 |.nslice _ (.int 0) (.int 0)=>match p.2.scp with
  |true=>(.bsl ks0 (.fn 28 (.pr (.pr (.var p.2.nv) (.int 0)) (.fn 10 (.int 0)))),{p.2 with nv:=Nat.succ p.2.nv})
  |false=>p
 |.nslice b len cap=>match p.2.heap.get b with
  |some ⟨true,.flat ks l n af _⟩=>match EY p.2 n len cap af l with
   |true=>T.setK p.2.heap b ⟨true,.gone⟩ fun h=>(.bsl ks (.fn 28 (.pr (.pr (.var p.2.nv) len) l)),{p.2 with nv:=Nat.succ p.2.nv,heap:=h})
   |false=>p
  |_=>p
 |.slice _ _ (.int 0) (.int 0)=>match p.2.scp with
  |true=>(.bsl ks0 (.fn 28 (.pr (.pr (.var p.2.nv) (.int 0)) (.fn 10 (.int 0)))),{p.2 with nv:=Nat.succ p.2.nv})
  |false=>p
 |_=>p
inductive FM where
 |stay
 |down (ks:List CK)
 |up (ks:List CK) (el:TypeId)
 deriving Inhabited
def uL(ks:List CK)(el:TypeId)(v:SV)(st:St):SV×St:=
 match st.scp&&Nat.blt 0 (aT ks)with
 |true=>T.insK st.heap st.nb ⟨true,.flat ks (.fn 10 (.int 0)) (.int 0) (.int 0) el⟩ fun h=>(.nslice st.nb (.int 0) (.int 0),{st with nb:=Nat.succ st.nb,heap:=h})
 |false=>(v,st)
def xB(ks0:List CK)(el:TypeId)(fs:List E)(v:SV)(st:St):SV×St:=
 match v with
 |.nils=>uL ks0 el v st
 |.bsl ks e=>match Nat.blt 0 (aT ks)&&(oe fs st.pc (ik (aT ks) e)&&oe fs st.pc (pb e))with
  |true=>uL ks0 el v st
  |false=>(v,st)
 |_=>(v,st)
def Ag(m:FM)(fs:List E)(v:SV)(st:St):SV×St:=
 match m with
 |.stay=>(v,st)
 |.down ks=>zE ks fs (v,st)
 |.up ks el=>xB ks el fs v st
def ko(fs:List E):List FM->List SV->St->List SV×St
 |m::ms,v::vs,st=>match m with
  |.stay=>match v.scp st.nv st.nb with
   |true=>match ko fs ms vs st with
    |(vs',st')=>(v::vs',st')
   |false=>(v::vs,st)
  |_=>match Ag m fs v st with
   |(v',st1)=>match v'.scp st1.nv st1.nb&&SV.scps st.nv st.nb vs with
    |true=>match ko fs ms vs st1 with
     |(vs',st')=>(v'::vs',st')
    |false=>(v::vs,st)
 |_,vs,st=>(vs,st)
def sd(ms:List FM)(fs:List E)(v:SV)(st:St):SV×St:=
 match v with
 |.agg cs=>match ko fs ms cs st with
  |(cs',st')=>(.agg cs',st')
 |v=>match ms with
  |m::_=>Ag m fs v st
  |[]=>(v,st)
def lu(ms:List FM)(fs:List E)(p:SV×St):SV×St:=
 match p.1 with
 |.tup vs=>match vs with
  |v::vs=>match sd ms fs v p.2 with
   |(v',st1)=>match SV.scps p.2.nv p.2.nb vs with
    |true=>(.tup (v'::vs),st1)
    |false=>p
  |[]=>p
 |v=>sd ms fs v p.2
def t7:List CK->List FM
 |[]=>[]
 |c::cs=>match c with
  |.slc ks=>.down ks::t7 cs
  |_=>.stay::t7 cs
def wY(tb:Tab)(tmps:Tm)(st:St)(elem:TypeId)(b:Nat)(s x:SV):Option St:=
 match st.heap.get b with
 |some ⟨true,.cells vs af e⟩=>match qF tb 12 elem with
  |some ks=>match jT st.nv st.nb tmps&&(s.scp st.nv st.nb&&(x.scp st.nv st.nb&&af.scp st.nv))with
   |true=>match ko tb.facts (t7 (nD ks (Nat.div (aT vs) (aT ks)))) vs st with
    |(vs',st')=>match st'.heap.get b with
     |some ⟨true,.cells _ _ _⟩=>some (T.setK st'.heap b ⟨true,.cells vs' af e⟩ fun h=>{st' with heap:=h})
     |_=>none
   |false=>none
  |none=>none
 |_=>none
def zR(tb:Tab)(tmps:Tm)(st:St)(t xt:TypeId)(s x:SV):Eff2:=
 match tb.und t with
 | some (.slice elem)=>match (match x with
   |.slice b _ _ _=>wY tb tmps st elem b s x
   |.nslice b _ _=>wY tb tmps st elem b s x
   |_=>none)with
  |some st'=>vn tb tmps st' t xt s x
  |none=>.bad
 |_=>.bad
def Ic(tb:Tab)(tmps:Tm)(st:St)(t xt:TypeId)(s x:SV):Eff2:=
 match pF sQ tb.facts with
 |true=>match zR tb tmps st t xt s x with
  |.bad=>vn tb tmps st t xt s x
  |r=>r
 |false=>match vn tb tmps st t xt s x with
  |.bad=>zR tb tmps st t xt s x
  |r=>r
def wc(tb:Tab)(tmps:Tm)(st:St)(t:TypeId)(p v:SV):Eff2:=
 match p,v with
 |.ptr b o,.nslice b2 len cap=>match st.heap.get b,st.heap.get b2 with
  |some ⟨true,.nest ks l n af elem⟩,some ⟨true,.flat ks2 l2 n2 tot2 _⟩=>match pY tb.facts st.pc (aT ks) n o with
   |.at idx j=>match dQ ks j with
    |some (.slc ks')=>match gt ks' ks2&&EY st n2 len cap tot2 l2&&jT st.nv st.nb tmps&&p.scp st.nv st.nb with
     |true=>match cC tb t with
      |some 1=>T.setK st.heap b2 ⟨true,.gone⟩ fun h=>T.setK h b ⟨true,.nest ks (jN l (eg (aT ks) idx j) (.fn 28 (.pr (.pr (.var st.nv) len) l2))) n af elem⟩ fun h=>.skip {st with nv:=Nat.succ st.nv,heap:=h}
      |_=>.bad
     |false=>.bad
    |_=>.bad
   |.lack e=>.lack e
   |.bad=>.bad
  |_,_=>.bad
 |_,_=>.bad
def apf(st:St)(p:SV):Bool:=
 match p with
 |.ptr b _=>match st.heap.get b with
  |some ⟨_,.nest _ _ _ _ _⟩=>true
  |_=>false
 |_=>false
def Ls(tb:Tab)(tmps:Tm)(st:St)(t:TypeId)(x:Operand)(y:Operand):Eff2:=
  match bE tmps x,bE tmps y with
  |some p,some v=>match apf st p with
   |true=>wc tb tmps st t p v
   |false=>match qF tb 12 t with
    | some ks=>match jT st.nv st.nb tmps&&p.scp st.nv st.nb with
      | true=>match lu (t7 ks) tb.facts (v,st)with
        | (v',st')=>match rf tb st' t p v' with
          |.skip st''=> .skip st''
          |.lack e=> .lack e
          |_=> .bad
      |false=> .bad
    |none=> .bad
  |_,_=> .bad
def KO(tb:Tab)(tmps:Tm)(st:St)(t:TypeId)(n:Operand)(c:Operand):Eff2:=
 match bE tmps n,bE tmps c with
  |some a,some b=>Bv tb tmps st t a b
  |_,_=>.bad
def HJ(tb:Tab)(tmps:Tm)(st:St)(t:TypeId)(r:Option Operand):Eff2:=
 match r with
  |none=>match h9 tmps st with
   |true=>T.insK st.heap st.nb ⟨true,.map [] (.int 0)⟩ fun h=>.val (.map st.nb) {st with nb:=Nat.succ st.nb,heap:=h}
   |false=>.bad
  |some _=>.bad
def JN(tb:Tab)(tmps:Tm)(st:St)(t:TypeId)(m:Operand)(k:Operand)(x:Operand):Eff2:=
 match bE tmps m,bE tmps k,bE tmps x with
  |some a,some b,some c=>zF tb st t a b c
  |_,_,_=>.bad
def KJ(tb:Tab)(tmps:Tm)(st:St)(t:TypeId)(m:Operand)(k:Operand)(x:Operand):Eff2:=
 match bE tmps m,bE tmps k,bE tmps x with
  |some a,some b,some c=>zF tb st t a b c
  |_,_,_=>.bad
def JH(tb:Tab)(tmps:Tm)(st:St)(t:TypeId)(m:Operand)(k:Operand):Eff2:=
 match bE tmps m,bE tmps k with
  |some a,some b=>Ed tb tmps st t a b
  |_,_=>.bad
def Mi(tb:Tab)(tmps:Tm)(st:St)(m:Operand)(s:Operand)(x:Operand):Eff2:=
 match bE tmps m,bE tmps s,bE tmps x with
  |some a,some b,some c=>EW st a b c
  |_,_,_=>.bad
def LU(tb:Tab)(tmps:Tm)(st:St)(op:BinOp)(t:TypeId)(x:Operand)(y:Operand):Eff2:=
 match zW tb t,bE tmps x,bE tmps y with
  |true,some a,some b=>match op with
   |.eql=>match wd b with
    |true=>pX tb tmps st a true
    |false=>match wd a with | true=>pX tb tmps st b true | false=>.bad
   |.neq=>match wd b with
    |true=>pX tb tmps st a false
    |false=>match wd a with | true=>pX tb tmps st b false | false=>.bad
   |_=>.bad
  |_,_,_=>.bad
def Kn(tb:Tab)(tmps:Tm)(st:St)(src:TypeId)(dst:TypeId)(x:Operand):Eff2:=
 match bE tmps x with
  |some v=>Fl tb tmps st src dst v
  |none=>.bad
def NT(tb:Tab)(tmps:Tm)(st:St)(c:Call):Eff2:=
 match c.callee with
  |.builtin b=>match jB (bE tmps) c.args.toList with
   |some [v,w]=>match b with
    |.append=>match c.argTypes.toList with
     |[t,xt]=>Ic tb tmps st t xt v w
     |_=>.bad
    |.copy=>match c.argTypes.toList with
     |[t,xt]=>Fw tb st t xt v w
     |_=>.bad
    |.delete=>match c.argTypes.toList with
     |t::_=>F4 tb st t v w
     |_=>.bad
    |_=>.bad
   |some [v]=>match b with
    |.clear=>match c.argTypes.toList with
     |[t]=>Bn tb st t v
     |_=>.bad
    |_=>.bad
   |_=>.bad
  |_=>.bad
noncomputable def xT(tb:Tab)(tmps:Tm)(st:St)(o:Op):Eff2:=
 Op.rec (motive:=fun _=>Eff2)
  (fun _=>.bad)
  (fun _=>.bad)
  (fun _ _ _=>.bad)
  (fun _=>.bad)
  (fun _ _=>.bad)
  (fun _ _=>.bad)
  (fun _ _ _=>.bad)
  (fun t m k x=>KJ tb tmps st t m k x)
  (fun _ _=>.bad)
  (fun t x y=>Ls tb tmps st t x y)
  (fun _=>.bad)
  (fun _=>.bad)
  (fun _=>.bad)
  (fun op t x y _=>LU tb tmps st op t x y)
  (fun _ _ _=>.bad)
  (fun src dst x=>Kn tb tmps st src dst x)
  (fun _ _=>.bad)
  (fun _ _=>.bad)
  (fun _ _ _=>.bad)
  (fun t r=>HJ tb tmps st t r)
  (fun _ _=>.bad)
  (fun t n c=>KO tb tmps st t n c)
  (fun _ _ _ _ _=>.bad)
  (fun _ _ _=>.bad)
  (fun _ _ _=>.bad)
  (fun _ _ _=>.bad)
  (fun _ _ _=>.bad)
  (fun _ _ _ _=>.bad)
  (fun t m k x=>JN tb tmps st t m k x)
  (fun t m k=>JH tb tmps st t m k)
  (fun _ m s x=>Mi tb tmps st m s x)
  (fun t x=>Hk tb tmps st t x)
  (fun x s=>IE tb tmps st x s)
  (fun x=>Im tb tmps st x)
  (fun _ _ _ _=>.bad)
  (fun _ _=>.bad)
  (fun c=>NT tb tmps st c)
  (fun _=>.bad)
  (fun _=>.bad)
  (fun _=>.bad)
  (fun _ _=>.bad)
  (fun _ _ _=>.bad)
  (fun _ _=>.bad)
  o
theorem akm(tb:Tab)(tmps:Tm)(st:St)(o:Op):xT tb tmps st o=(match o with
 |.makeSlice t n c=>KO tb tmps st t n c
 |.makeMap t r=>HJ tb tmps st t r
 |.mapUpdate t m k x=>JN tb tmps st t m k x
 |.insert t m k x=>KJ tb tmps st t m k x
 |.mapEntry t m k=>JH tb tmps st t m k
 |.entryStore _ m s x=>Mi tb tmps st m s x
 |.range t x=>Hk tb tmps st t x
 |.next x s=>IE tb tmps st x s
 |.entry x=>Im tb tmps st x
 |.binOp op t x y _=>LU tb tmps st op t x y
 |.convert src dst x=>Kn tb tmps st src dst x
 |.call c=>NT tb tmps st c
 |.store t x y=>Ls tb tmps st t x y
 |_=>.bad):=by cases o<;>rfl
structure Node where
 listed:Nat
 left:Nat
 tmps:Tm
 st:St
 deriving Inhabited
abbrev aS:=Option (List Out)
abbrev fD:=Tm->St->aS
structure Info where
 wait:Nat
 reads:Nat
 dst:Nat
inductive Task where
 |code (g:FuncId) (c:Code)
 |rounds (g:FuncId) (c:Code)
 |call (f:FuncId) (args:List SV)
 |draw (all:List Oper) (n:Nat)
 |layer (all:List Oper) (infos:List Info) (l:List Node)
def hG(a b:aS):aS:=
 match a with
 |some l=>match b with
  |some m=>some (l++m)
  |none=>none
 |none=>none
def jV:List Edge->Nat
 |[]=>0
 |e::es=>match Region.binds .any e with
  |true=>Nat.lor (Nat.pow 2 e.on) (jV es)
  |false=>jV es
def od:List Operand->Nat
 |[]=>0
 |x::xs=>match x with
  |.tmp t=>Nat.lor (Nat.pow 2 t) (od xs)
  |_=>od xs
def CM(all:List Oper)(j:Nat):Option Tmp:=match dQ all j with | some o=>o.dst | none=>none
def Dq:Option Tmp->Nat
 |some t=>Nat.pow 2 t
 |none=>0
def aei(all:List Oper)(o:Oper):Nat:=
 match o.guard with
 |some (j,_)=>Dq (CM all j)
 |none=>0
def bZ(all:List Oper)(o:Oper):Info:=
 ⟨jV o.after.toList,Nat.lor (aei all o) (od o.op.operands.toList),Dq o.dst⟩
def aY(all:List Oper):List Oper->List Info
 |[]=>[]
 |o::os=>bZ all o::aY all os
def gn(listed:Nat):List Oper->List Info->Nat->List (Nat×Oper×Info)
 |o::os,m::ms,i=>match Nat.testBit listed i with
  |true=>gn listed os ms (Nat.succ i)
  |false=>match Nat.beq (Nat.land m.wait listed) m.wait with
   |true=>(i,o,m)::gn listed os ms (Nat.succ i)
   |false=>gn listed os ms (Nat.succ i)
 |_,_,_=>[]
def mJ(listed i:Nat)(x:Info):List Info->Nat->Bool
 |[],_=>true
 |m::ms,j=>match Nat.testBit listed j with
  |true=>mJ listed i x ms (Nat.succ j)
  |false=>match Nat.beq i j with
   |true=>mJ listed i x ms (Nat.succ j)
   |false=>match Nat.testBit m.wait i with
    |true=>mJ listed i x ms (Nat.succ j)
    |false=>match Nat.beq (Nat.land x.dst m.reads) 0 with
     |true=>match Nat.beq (Nat.land x.dst m.dst) 0 with
      |true=>match Nat.beq (Nat.land m.dst x.reads) 0 with
       |true=>mJ listed i x ms (Nat.succ j)
       |false=>false
      |false=>false
     |false=>false
def Fv(tb:Tab)(tmps:Tm)(c:Call):Option (FuncId×List SV):=
 match c.callee with
 |.value f=>match bE tmps f,jB (bE tmps) c.args.toList with
  |some (.func (.func f) fi ca),some vs=>match tb.fn.get f with
   |some fn=>match fn.body with
    |some _=>some (f,fi++(vs++ca))
    |none=>none
   |none=>none
  |_,_=>none
 |_=>none
inductive Want where
 |yes | no | bad | ask (slot:Tmp) (e:E) (want:Bool)
def tx(all:List Oper)(tmps:Tm)(o:Oper):Want:=
 match o.guard with
 |none=>.yes
 |some (j,want)=>match CM all j with
  |some t=>match tmps.get t with
   |some (.bool e)=>match e with
    |.bool b=>match my b want with | true=>.yes | false=>.no
    |_=>.ask t e want
   |some .junk=>.bad
   |_=>.no
  |none=>.no
def fg{J:Type}(tmps:Tm)(d:Option Tmp)(v:SV)(k:Tm->J):J:=
 match d with
 |none=>k tmps
 |some t=>T.setK tmps t v k
def kG(tb:Tab)(st:St)(tmps:Tm):List ResultVar->Option (List SV)
 |[]=>some []
 |.tmp t::rs=>match kG tb st tmps rs with
  |some l=>match tmps.get t with
   |some v=>match v with
    |.junk=>none
    |_=>some (v::l)
   |none=>some (.undef::l)
  |none=>none
 |.cell a t::rs=>match tmps.get a with
  |some x=>match vB tb st t x,kG tb st tmps rs with
   |some v,some l=>some (v::l)
   |_,_=>none
  |none=>none
def qu:List SV->SV
 |[v]=>v
 |vs=>.tup vs
def Hx:Fn->Fn->Bool
 |.func a,.func b=>Nat.beq a b
 |_,_=>false
mutual
def SV.beq:SV->SV->Bool
 |.int k e,.int k' e'=>fy k k'&&e.beq e'
 |.bool e,.bool e'=>e.beq e'
 |.str e,.str e'=>e.beq e'
 |.nilp,.nilp | .nils,.nils | .nilm,.nilm | .nili,.nili | .nilf,.nilf=>true
 |.ptr b o,.ptr b' o'=>Nat.beq b b'&&Nat.beq o.base o'.base&&Nat.beq o.scale o'.scale&&o.idx.beq o'.idx
 |.slice b o l c,.slice b' o' l' c'=>Nat.beq b b'&&Nat.beq o.base o'.base&&Nat.beq o.scale o'.scale&&o.idx.beq o'.idx&&l.beq l'&&c.beq c'
 |.map b,.map b'=>Nat.beq b b'
 |.nslice b l c,.nslice b' l' c'=>Nat.beq b b'&&l.beq l'&&c.beq c'
 |.bsl ks e,.bsl ks' e'=>gt ks ks'&&e.beq e'
 |.bptr ks e i j,.bptr ks' e' i' j'=>gt ks ks'&&e.beq e'&&i.beq i'&&Nat.beq j j'
 |.func fn fi ca,.func fn' fi' ca'=>Hx fn fn'&&SV.beqs fi fi'&&SV.beqs ca ca'
 |.agg cs,.agg cs'=>SV.beqs cs cs'
 |.tup cs,.tup cs'=>SV.beqs cs cs'
 |.junk,.junk=>true
 |.nsl b ks e i c,.nsl b' ks' e' i' c'=>Nat.beq b b'&&gt ks ks'&&e.beq e'&&i.beq i'&&Nat.beq c c'
 |.nptr b ks e i c x j,.nptr b' ks' e' i' c' x' j'=>Nat.beq b b'&&gt ks ks'&&e.beq e'&&i.beq i'&&Nat.beq c c'&&x.beq x'&&Nat.beq j j'
 |_,_=>false
def SV.beqs:List SV->List SV->Bool
 |[],[]=>true
 |x::xs,y::ys=>x.beq y&&SV.beqs xs ys
 |_,_=>false
end
def vz:List Ent->List Ent->Bool
 |[],[]=>true
 |x::xs,y::ys=>x.k.beq y.k&&(x.v.beq y.v&&(x.born.beq y.born&&vz xs ys))
 |_,_=>false
def abA:Option E->Option E->Bool
 |none,none=>true
 |some a,some b=>a.beq b
 |_,_=>false
def SObj.beq:SObj->SObj->Bool
 |.gone,.gone=>true
 |.cells cs t e,.cells cs' t' e'=>Nat.beq e e'&&t.beq t'&&SV.beqs cs cs'
 |.flat ks l n t e,.flat ks' l' n' t' e'=>Nat.beq e e'&&l.beq l'&&n.beq n'&&t.beq t'&&gt ks ks'
 |.map es c,.map es' c'=>c.beq c'&&vz es es'
 |.mapl k c e,.mapl k' c' e'=>fy k k'&&c.beq c'&&e.beq e'
 |.maplp k c e ke s,.maplp k' c' e' ke' s'=>fy k k'&&c.beq c'&&e.beq e'&&ke.beq ke'&&s.beq s'
 |.iter k c e n u,.iter k' c' e' n' u'=>fy k k'&&c.beq c'&&e.beq e'&&n.beq n'&&abA u u'
 |.nest ks l n t e,.nest ks' l' n' t' e'=>Nat.beq e e'&&l.beq l'&&n.beq n'&&t.beq t'&&gt ks ks'
 |_,_=>false
def T.beq{G:Type}(f:G->G->Bool):T G->T G->Bool
 |.nil,.nil=>true
 |.node v l r,.node v' l' r'=>f v v'&&T.beq f l l'&&T.beq f r r'
 |_,_=>false
def Blk.beq(x y:Blk):Bool:=my x.own y.own&&x.obj.beq y.obj
def vF:List E->List E->Bool
 |[],[]=>true
 |x::xs,y::ys=>x.beq y&&vF xs ys
 |_,_=>false
def St.beq(a b:St):Bool:=Nat.beq a.nv b.nv&&Nat.beq a.nb b.nb&&vF a.pc b.pc&&T.beq Blk.beq a.heap b.heap
def Node.beq(a b:Node):Bool:=
 Nat.beq a.listed b.listed&&Nat.beq a.left b.left&&T.beq SV.beq a.tmps b.tmps&&a.st.beq b.st
def yO:List Node->Node->Bool
 |[],_=>false
 |x::xs,n=>match x.beq n with | true=>true | false=>yO xs n
def lz{J:Type}(P:Program)(tb:Tab)(all:List Oper)(infos:List Info):List Oper->List Info->Nat->Nat->Nat->Tm->(Nat->Nat->Tm->J)->J
 |o::os,m::ms,i,listed,left,tmps,k=>
  match Nat.testBit listed i with
  |true=>lz P tb all infos os ms (Nat.succ i) listed left tmps k
  |false=>match Nat.beq (Nat.land m.wait listed) m.wait with
   |true=>match left with
    |0=>k listed left tmps
    |left'+1=>match tx all tmps o with
     |.yes=>match rS P tb (bE tmps) o.op with
      |some v=>match mJ listed i m infos 0 with
       |true=>fg tmps o.dst v fun tmps=>gb (Nat.lor (Nat.pow 2 i) listed) fun listed=>lz P tb all infos os ms (Nat.succ i) listed left' tmps k
       |false=>lz P tb all infos os ms (Nat.succ i) listed left tmps k
      |none=>lz P tb all infos os ms (Nat.succ i) listed left tmps k
     |.no=>match mJ listed i m infos 0 with
      |true=>fg tmps o.dst .undef fun tmps=>gb (Nat.lor (Nat.pow 2 i) listed) fun listed=>lz P tb all infos os ms (Nat.succ i) listed left' tmps k
      |false=>lz P tb all infos os ms (Nat.succ i) listed left tmps k
     |_=>lz P tb all infos os ms (Nat.succ i) listed left tmps k
   |false=>lz P tb all infos os ms (Nat.succ i) listed left tmps k
 |_,_,_,listed,left,tmps,k=>k listed left tmps
def u9(acc:List Node)(x:Node):List Node:=match yO acc x with | true=>acc | false=>x::acc
def nM(P:Program)(tb:Tab)(all:List Oper)(infos:List Info)(listed left:Nat):List Out->List Node->List Node
 |[],acc=>acc
 |o::os,acc=>lz P tb all infos all infos 0 listed left o.tmps fun listed' left' tmps=>
  nM P tb all infos listed left os (u9 acc ⟨listed',left',tmps,o.st⟩)
def sq(_:String):aS:=none
def Fu(_:String)(_:St)(_:E):aS:=none
abbrev bX:=Task->Tm->St->(Out->aS)->aS
def az5(o:Op):String:=
 match o with
 |.load _ _=> "load" | .store _ _ _=> "store" | .move _=> "move" | .assign _=> "assign" | .pick _ _ _=> "pick" | .nilCheck _=> "nilCheck" | .binOp _ _ _ _ _=> "binOp" | .unOp _ _ _=> "unOp" | .convert _ _ _=> "convert"
 |.fieldAddr _ _ _=> "fieldAddr" | .field _ _ _=> "field" | .indexAddr _ _ _=> "indexAddr" | .index _ _ _=> "index" | .extract _ _=> "extract" | .build _ _=> "build" | .makeFunc _ _ _=> "makeFunc" | .slice _ _ _ _ _=> "slice"
 |.box _ _=> "box" | .alloc _=> "alloc" | .buildSlice _ _ _=> "buildSlice" | .insert _ _ _ _=> "insert" | .ready _=> "ready" | .waits _=> "waits" | .sliceToArrayPointer _ _=> "sliceToArrayPointer" | .makeInterface _ _=> "makeInterface" | .makeMap _ _=> "makeMap" | .makeChan _ _=> "makeChan" | .makeSlice _ _ _=> "makeSlice" | .lookup _ _ _ _=> "lookup" | .mapUpdate _ _ _ _=> "mapUpdate" | .mapEntry _ _ _=> "mapEntry" | .entryStore _ _ _ _=> "entryStore" | .range _ _=> "range" | .next _ _=> "next" | .entry _=> "entry" | .typeAssert _ _ _ _=> "typeAssert" | .call _=> "call" | _=> "other"
def Blk.same(x y:Blk):Bool:=
 match x.obj with
 |.iter _ _ _ _ _=>false
 |_=>x.beq y
def mZ:T Blk->T Blk->Bool
 |.nil,_=>true
 |.node v l r,.node v' l' r'=>match Blk.same v v' with
  |true=>match mZ l l' with
   |true=>mZ r r'
   |false=>false
  |false=>false
 |_,_=>false
mutual
def SV.plain:SV->Bool
 |.bsl _ _ | .bptr _ _ _ _ | .nsl _ _ _ _ _ | .nptr _ _ _ _ _ _ _=>false
 |.func _ fi ca=>SV.plains fi&&SV.plains ca
 |.agg cs | .tup cs=>SV.plains cs
 |_=>true
def SV.plains:List SV->Bool
 |[]=>true
 |v::vs=>v.plain&&SV.plains vs
end
structure Sub where
 n0:Nat
 es:List E
 b0:Nat
 bs:List Nat
def Bl(n0:Nat)(es:List E)(i:Nat):E:=
 match Nat.blt i n0 with
 |true=>.var i
 |false=>match dQ es (Nat.sub i n0)with
  |some e=>e
  |none=>.var i
def Ct:E->Nat->Option E
 |.fn 23 (.pr x r),n=>match n with
  |0=>some x
  |n+1=>Ct r n
 |_,_=>none
def EK(f:Nat)(a:E):E:=
 match f with
 |0=>iQ a
 |6=>match a with
  |.pr (.int x) (.int y)=>.int (x+y)
  |_=>.fn f a
 |7=>match a with
  |.pr (.int x) (.int y)=>.int (x-y)
  |_=>.fn f a
 |1=>match a with
  |.pr l (.int (.ofNat n))=>match Ct l n with
   |some e=>e
   |none=>.fn f a
  |_=>.fn f a
 |_=>.fn f a
def AT(a:E):E:=
 match a with
 |.bool b=>.bool (!b)
 |_=>.not a
noncomputable def E.sub(n0:Nat)(es:List E)(e:E):E:=
 E.rec (motive:=fun _=>E)
  (fun n=>.int n)
  (fun b=>.bool b)
  (fun s=>.str s)
  (fun i=>Bl n0 es i)
  (fun o k _ _ ia ib=>iZ o k ia ib)
  (fun o _ _ ia ib=>aI o ia ib)
  (fun _ _ ia ib=>qT ia ib)
  (fun _ _ ia ib=>oo ia ib)
  (fun k _ ia=>rm k ia)
  (fun _ ia=>AT ia)
  (fun _ _ ia ib=>.and ia ib)
  (fun _ _ ia ib=>mS ia ib)
  (fun _ _ ia ib=>.iff ia ib)
  (fun _ _ ia ib=>.imp ia ib)
  (fun f _ ia=>EK f ia)
  (fun _ _ ia ib=>.pr ia ib)
  e
theorem E.sub_eq_int(n0:Nat)(es:List E)(n:Int):(E.int n).sub n0 es=.int n:=rfl
theorem E.sub_eq_bool(n0:Nat)(es:List E)(b:Bool):(E.bool b).sub n0 es=.bool b:=rfl
theorem E.sub_eq_str(n0:Nat)(es:List E)(s:ByteArray):(E.str s).sub n0 es=.str s:=rfl
theorem E.sub_eq_var(n0:Nat)(es:List E)(i:Nat):(E.var i).sub n0 es=Bl n0 es i:=rfl
theorem E.sub_eq_ar(n0:Nat)(es:List E)(o:BinOp)(k:IntKind)(a:E)(b:E):(E.ar o k a b).sub n0 es=iZ o k (a.sub n0 es) (b.sub n0 es):=rfl
theorem E.sub_eq_cmp(n0:Nat)(es:List E)(o:BinOp)(a:E)(b:E):(E.cmp o a b).sub n0 es=aI o (a.sub n0 es) (b.sub n0 es):=rfl
theorem E.sub_eq_mn(n0:Nat)(es:List E)(a:E)(b:E):(E.mn a b).sub n0 es=qT (a.sub n0 es) (b.sub n0 es):=rfl
theorem E.sub_eq_mx(n0:Nat)(es:List E)(a:E)(b:E):(E.mx a b).sub n0 es=oo (a.sub n0 es) (b.sub n0 es):=rfl
theorem E.sub_eq_wr(n0:Nat)(es:List E)(k:IntKind)(a:E):(E.wr k a).sub n0 es=rm k (a.sub n0 es):=rfl
theorem E.sub_eq_not(n0:Nat)(es:List E)(a:E):(E.not a).sub n0 es=AT (a.sub n0 es):=rfl
theorem E.sub_eq_and(n0:Nat)(es:List E)(a:E)(b:E):(E.and a b).sub n0 es=.and (a.sub n0 es) (b.sub n0 es):=rfl
theorem E.sub_eq_seq(n0:Nat)(es:List E)(a:E)(b:E):(E.seq a b).sub n0 es=mS (a.sub n0 es) (b.sub n0 es):=rfl
theorem E.sub_eq_iff(n0:Nat)(es:List E)(a:E)(b:E):(E.iff a b).sub n0 es=.iff (a.sub n0 es) (b.sub n0 es):=rfl
theorem E.sub_eq_imp(n0:Nat)(es:List E)(a:E)(b:E):(E.imp a b).sub n0 es=.imp (a.sub n0 es) (b.sub n0 es):=rfl
theorem E.sub_eq_fn(n0:Nat)(es:List E)(f:Nat)(a:E):(E.fn f a).sub n0 es=EK f (a.sub n0 es):=rfl
theorem E.sub_eq_pr(n0:Nat)(es:List E)(a:E)(b:E):(E.pr a b).sub n0 es=.pr (a.sub n0 es) (b.sub n0 es):=rfl
def b8(b0:Nat)(bs:List Nat)(i:Nat):Nat:=
 match Nat.blt i b0 with
 |true=>i
 |false=>match dQ bs (Nat.sub i b0)with
  |some j=>j
  |none=>i
def Off.sub(n0:Nat)(es:List E)(o:Off):Off:=⟨o.base,o.scale,o.idx.sub n0 es⟩
mutual
def SV.sub(z:Sub):SV->SV
 |.int k e=>.int k (e.sub z.n0 z.es)
 |.bool e=>.bool (e.sub z.n0 z.es)
 |.str e=>.str (e.sub z.n0 z.es)
 |.ptr b o=>.ptr (b8 z.b0 z.bs b) (o.sub z.n0 z.es)
 |.slice b o l c=>.slice (b8 z.b0 z.bs b) (o.sub z.n0 z.es) (l.sub z.n0 z.es) (c.sub z.n0 z.es)
 |.nslice b l c=>.nslice (b8 z.b0 z.bs b) (l.sub z.n0 z.es) (c.sub z.n0 z.es)
 |.bsl ks e=>.bsl ks (e.sub z.n0 z.es)
 |.bptr ks e i j=>.bptr ks (e.sub z.n0 z.es) (i.sub z.n0 z.es) j
 |.nsl b ks e i c=>.nsl (b8 z.b0 z.bs b) ks (e.sub z.n0 z.es) (i.sub z.n0 z.es) c
 |.nptr b ks e i c x j=>.nptr (b8 z.b0 z.bs b) ks (e.sub z.n0 z.es) (i.sub z.n0 z.es) c (x.sub z.n0 z.es) j
 |.map b=>.map (b8 z.b0 z.bs b)
 |.func fn fi ca=>.func fn (SV.subs z fi) (SV.subs z ca)
 |.agg cs=>.agg (SV.subs z cs)
 |.tup cs=>.tup (SV.subs z cs)
 |.nilp=>.nilp
 |.nils=>.nils
 |.nilm=>.nilm
 |.nili=>.nili
 |.nilf=>.nilf
 |.junk=>.junk
def SV.subs(z:Sub):List SV->List SV
 |[]=>[]
 |v::vs=>v.sub z::SV.subs z vs
end
def tX(z:Sub):List Ent->List Ent
 |[]=>[]
 |x::es=>⟨x.k.sub z,x.v.sub z,x.born.sub z.n0 z.es⟩::tX z es
def SObj.sub(z:Sub):SObj->SObj
 |.gone=>.gone
 |.cells cs af elem=>.cells (SV.subs z cs) (af.sub z.n0 z.es) elem
 |.flat ks l n af elem=>.flat ks (l.sub z.n0 z.es) (n.sub z.n0 z.es) (af.sub z.n0 z.es) elem
 |.map es c=>.map (tX z es) (c.sub z.n0 z.es)
 |.mapl k c e=>.mapl k c (e.sub z.n0 z.es)
 |.maplp k c e ke s=>.maplp k c (e.sub z.n0 z.es) (ke.sub z.n0 z.es) (s.sub z.n0 z.es)
 |.nest ks l n af elem=>.nest ks (l.sub z.n0 z.es) (n.sub z.n0 z.es) (af.sub z.n0 z.es) elem
 |.iter k c e n u=>.iter k c (e.sub z.n0 z.es) (n.sub z.n0 z.es) (match u with | none=>none | some x=>some (x.sub z.n0 z.es))
def zX(k:IntKind)(c:CK):List Ent->Option (List E)
 |[]=>some []
 |x::es=>match x.k with
  |.int k' ke=>match fy k' k,kV c x.v with
   |true,some ve=>match zX k c es with
    |some l=>some (.pr ke ve::l)
    |none=>none
   |_,_=>none
  |_=>none
def Jo(ks r:List CK):List CK:=match r with | []=>ks | x::xs=>x::xs
def S0(l:List CK):Option CK:=match l with | []=>none | c::_=>some c
def ah6(l:List CK):List CK:=match l with | []=>[] | _::r=>r
def wz(ks:List CK):List SV->List CK->Option (List E)
 |[],_=>some []
 |v::vs,r=>match S0 (Jo ks r)with
  |none=>none
  |some c=>match kV c v with
   |some e=>match wz ks vs (ah6 (Jo ks r))with
    |some l=>some (e::l)
    |none=>none
   |none=>none
def H2(w:Nat)(af:E):Option E:=
 match w with
 |1=>some af
 |w=>match af with
  |.fn 8 (.pr c (.int (.ofNat m)))=>match Nat.beq m w with
   |true=>some c
   |false=>none
  |.int (.ofNat t)=>match Nat.beq (Nat.mul (Nat.div t w) w) t with
   |true=>some (.int (.ofNat (Nat.div t w)))
   |false=>none
  |_=>none
def tR(p x:SObj):Option SObj:=
 match p with
 |.mapl k c _=>match x with
  |.map es _=>match zX k c es with
   |some l=>some (.mapl k c (iB l))
   |none=>none
  |_=>none
 |.iter _ _ _ _ u=>match u with
  |none=>match x with
   |.iter k c e n _=>some (.iter k c e n none)
   |_=>none
  |some _=>none
 |.nest ks _ _ _ _=>match x with
  |.flat ks' l n af elem=>match gt ks ks'&&Nat.beq (aT ks) 1 with
   |true=>match l with
    |.fn 5 (.pr _ (.fn 30 _))=>some (.nest ks' l n af elem)
    |_=>none
   |false=>none
  |_=>none
 |.flat ks _ _ _ _=>match x with
  |.cells cs af elem=>match wz ks cs [],H2 (aT ks) af with
   |some l,some t=>match l with
    |[]=>match t with
     |.int (.ofNat m)=>match Nat.blt 0 (aT ks)with
      |true=>some (.flat ks (.fn 10 (.int 0)) (.int 0) (.int (.ofNat m)) elem)
      |false=>none
     |_=>none
    |_=>match Nat.beq (Nat.mul (Nat.div (aT cs) (aT ks)) (aT ks)) (aT cs)with
     |true=>some (.flat ks (iB l) (.int (.ofNat (Nat.div (aT cs) (aT ks)))) t elem)
     |false=>none
   |_,_=>none
  |_=>none
 |_=>none
def Xn:E->Option Nat
 |.fn 23 (.pr _ r)=>match Xn r with
  |some n=>some (Nat.succ n)
  |none=>none
 |.fn 10 _=>some 0
 |_=>none
def abr(e:E):E->E
 |.fn 23 (.pr x r)=>.fn 23 (.pr x (abr e r))
 |_=>.fn 23 (.pr e (.fn 10 (.int 0)))
def I1(y e:E):Nat->Nat->E
 |0,_=>.fn 23 (.pr e (.fn 10 (.int 0)))
 |n+1,j=>.fn 23 (.pr (.fn 1 (.pr y (.int (.ofNat j)))) (I1 y e n (Nat.succ j)))
def aAM:E->Nat->Option E
 |.fn 1 (.pr y (.int (.ofNat k))),j=>match Nat.beq k j with
  |true=>some y
  |false=>none
 |_,_=>none
def aGC(cur:E)(j:Nat)(e:E):E:=
 match Xn cur with
 |some n=>match Nat.beq n j with
  |true=>abr e cur
  |false=>cur
 |none=>match aAM e j with
  |some y=>match y.beq cur with
   |true=>cur
   |false=>match j with
    |0=>y
    |_=>match cur with
     |.int _=>y
     |_=>I1 cur e j 0
  |none=>I1 cur e j 0
def avf(n0 f:Nat)(a:E):Option (Nat×Nat):=
 match f with
 |1=>match a with
  |.pr (.var i) (.int (.ofNat j))=>match Nat.blt i n0 with
   |true=>none
   |false=>some (i,j)
  |_=>none
 |_=>none
def aEx(n0 i j:Nat)(e:E)(t:T E):T E:=
 match t.get (Nat.sub i n0)with
 |some cur=>t.set (Nat.sub i n0) (aGC cur j e)
 |none=>t
noncomputable def E.go_ar(b:E)(f:BinOp->IntKind->E->E->T E->T E):T E->T E:=E.rec (motive:=fun _=>T E->T E) (fun _ t=>t) (fun _ t=>t) (fun _ t=>t) (fun _ t=>t) (fun x0 x1 x2 x3 _ _=>f x0 x1 x2 x3) (fun _ _ _ _ _ t=>t) (fun _ _ _ _ t=>t) (fun _ _ _ _ t=>t) (fun _ _ _ t=>t) (fun _ _ t=>t) (fun _ _ _ _ t=>t) (fun _ _ _ _ t=>t) (fun _ _ _ _ t=>t) (fun _ _ _ _ t=>t) (fun _ _ _ t=>t) (fun _ _ _ _ t=>t) b
noncomputable def E.go_fn(b:E)(f:Nat->E->T E->T E):T E->T E:=E.rec (motive:=fun _=>T E->T E) (fun _ t=>t) (fun _ t=>t) (fun _ t=>t) (fun _ t=>t) (fun _ _ _ _ _ _ t=>t) (fun _ _ _ _ _ t=>t) (fun _ _ _ _ t=>t) (fun _ _ _ _ t=>t) (fun _ _ _ t=>t) (fun _ _ t=>t) (fun _ _ _ _ t=>t) (fun _ _ _ _ t=>t) (fun _ _ _ _ t=>t) (fun _ _ _ _ t=>t) (fun x0 x1 _=>f x0 x1) (fun _ _ _ _ t=>t) b
noncomputable def E.go_pr(b:E)(f:E->E->T E->T E):T E->T E:=E.rec (motive:=fun _=>T E->T E) (fun _ t=>t) (fun _ t=>t) (fun _ t=>t) (fun _ t=>t) (fun _ _ _ _ _ _ t=>t) (fun _ _ _ _ _ t=>t) (fun _ _ _ _ t=>t) (fun _ _ _ _ t=>t) (fun _ _ _ t=>t) (fun _ _ t=>t) (fun _ _ _ _ t=>t) (fun _ _ _ _ t=>t) (fun _ _ _ _ t=>t) (fun _ _ _ _ t=>t) (fun _ _ _ t=>t) (fun x0 x1 _ _=>f x0 x1) b
noncomputable def E.go_not(b:E)(f:E->T E->T E):T E->T E:=E.rec (motive:=fun _=>T E->T E) (fun _ t=>t) (fun _ t=>t) (fun _ t=>t) (fun _ t=>t) (fun _ _ _ _ _ _ t=>t) (fun _ _ _ _ _ t=>t) (fun _ _ _ _ t=>t) (fun _ _ _ _ t=>t) (fun _ _ _ t=>t) (fun x0 _=>f x0) (fun _ _ _ _ t=>t) (fun _ _ _ _ t=>t) (fun _ _ _ _ t=>t) (fun _ _ _ _ t=>t) (fun _ _ _ t=>t) (fun _ _ _ _ t=>t) b
noncomputable def ig(n0:Nat)(a:E):E->T E->T E:=
 E.rec (motive:=fun _=>E->T E->T E)
  (fun _ _ t=>t)
  (fun _ _ t=>t)
  (fun _ _ t=>t)
  (fun i e t=>Bool.rec (t.set (Nat.sub i n0) e) t (Nat.blt i n0))
  (fun _ _ _ _ f g e=>e.go_ar fun _ _ a b t=>g b (f a t))
  (fun _ _ _ _ _ _ t=>t)
  (fun _ _ _ _ _ t=>t)
  (fun _ _ _ _ _ t=>t)
  (fun _ _ _ _ t=>t)
  (fun _ f e=>e.go_not fun a t=>f a t)
  (fun _ _ _ _ _ t=>t)
  (fun _ _ _ _ _ t=>t)
  (fun _ _ _ _ _ t=>t)
  (fun _ _ _ _ _ t=>t)
  (fun k a f e=>Option.rec (motive:=fun _=>T E->T E) (e.go_fn fun _ a t=>f a t) (fun p t=>aEx n0 p.1 p.2 e t) (avf n0 k a))
  (fun _ _ f g e=>e.go_pr fun a b t=>g b (f a t))
  a
abbrev G2:=T E×T Nat
noncomputable def SV.go_int(v:SV)(f:E->G2->G2):G2->G2:=SV.rec (motive_1:=fun _=>G2->G2) (motive_2:=fun _=>G2->G2) (fun _ e=>f e) (fun _ g=>g) (fun _ g=>g) (fun g=>g) (fun _ _ g=>g) (fun g=>g) (fun _ _ _ _ g=>g) (fun _ _ _ g=>g) (fun _ _ g=>g) (fun _ _ _ _ g=>g) (fun g=>g) (fun _ g=>g) (fun g=>g) (fun g=>g) (fun _ _ _ _ _ g=>g) (fun _ _ g=>g) (fun _ _ g=>g) (fun g=>g) (fun _ _ _ _ _ g=>g) (fun _ _ _ _ _ _ _ g=>g) (fun g=>g) (fun _ _ _ _ g=>g) v
noncomputable def SV.go_bool(v:SV)(f:E->G2->G2):G2->G2:=SV.rec (motive_1:=fun _=>G2->G2) (motive_2:=fun _=>G2->G2) (fun _ _ g=>g) (fun e=>f e) (fun _ g=>g) (fun g=>g) (fun _ _ g=>g) (fun g=>g) (fun _ _ _ _ g=>g) (fun _ _ _ g=>g) (fun _ _ g=>g) (fun _ _ _ _ g=>g) (fun g=>g) (fun _ g=>g) (fun g=>g) (fun g=>g) (fun _ _ _ _ _ g=>g) (fun _ _ g=>g) (fun _ _ g=>g) (fun g=>g) (fun _ _ _ _ _ g=>g) (fun _ _ _ _ _ _ _ g=>g) (fun g=>g) (fun _ _ _ _ g=>g) v
noncomputable def SV.go_str(v:SV)(f:E->G2->G2):G2->G2:=SV.rec (motive_1:=fun _=>G2->G2) (motive_2:=fun _=>G2->G2) (fun _ _ g=>g) (fun _ g=>g) (fun e=>f e) (fun g=>g) (fun _ _ g=>g) (fun g=>g) (fun _ _ _ _ g=>g) (fun _ _ _ g=>g) (fun _ _ g=>g) (fun _ _ _ _ g=>g) (fun g=>g) (fun _ g=>g) (fun g=>g) (fun g=>g) (fun _ _ _ _ _ g=>g) (fun _ _ g=>g) (fun _ _ g=>g) (fun g=>g) (fun _ _ _ _ _ g=>g) (fun _ _ _ _ _ _ _ g=>g) (fun g=>g) (fun _ _ _ _ g=>g) v
noncomputable def SV.go_ptr(v:SV)(f:Nat->Off->G2->G2):G2->G2:=SV.rec (motive_1:=fun _=>G2->G2) (motive_2:=fun _=>G2->G2) (fun _ _ g=>g) (fun _ g=>g) (fun _ g=>g) (fun g=>g) (fun b o=>f b o) (fun g=>g) (fun _ _ _ _ g=>g) (fun _ _ _ g=>g) (fun _ _ g=>g) (fun _ _ _ _ g=>g) (fun g=>g) (fun _ g=>g) (fun g=>g) (fun g=>g) (fun _ _ _ _ _ g=>g) (fun _ _ g=>g) (fun _ _ g=>g) (fun g=>g) (fun _ _ _ _ _ g=>g) (fun _ _ _ _ _ _ _ g=>g) (fun g=>g) (fun _ _ _ _ g=>g) v
noncomputable def SV.go_slice(v:SV)(f:Nat->Off->E->E->G2->G2):G2->G2:=SV.rec (motive_1:=fun _=>G2->G2) (motive_2:=fun _=>G2->G2) (fun _ _ g=>g) (fun _ g=>g) (fun _ g=>g) (fun g=>g) (fun _ _ g=>g) (fun g=>g) (fun b o l c=>f b o l c) (fun _ _ _ g=>g) (fun _ _ g=>g) (fun _ _ _ _ g=>g) (fun g=>g) (fun _ g=>g) (fun g=>g) (fun g=>g) (fun _ _ _ _ _ g=>g) (fun _ _ g=>g) (fun _ _ g=>g) (fun g=>g) (fun _ _ _ _ _ g=>g) (fun _ _ _ _ _ _ _ g=>g) (fun g=>g) (fun _ _ _ _ g=>g) v
noncomputable def SV.go_nslice(v:SV)(f:Nat->E->E->G2->G2):G2->G2:=SV.rec (motive_1:=fun _=>G2->G2) (motive_2:=fun _=>G2->G2) (fun _ _ g=>g) (fun _ g=>g) (fun _ g=>g) (fun g=>g) (fun _ _ g=>g) (fun g=>g) (fun _ _ _ _ g=>g) (fun b l c=>f b l c) (fun _ _ g=>g) (fun _ _ _ _ g=>g) (fun g=>g) (fun _ g=>g) (fun g=>g) (fun g=>g) (fun _ _ _ _ _ g=>g) (fun _ _ g=>g) (fun _ _ g=>g) (fun g=>g) (fun _ _ _ _ _ g=>g) (fun _ _ _ _ _ _ _ g=>g) (fun g=>g) (fun _ _ _ _ g=>g) v
noncomputable def SV.go_bsl(v:SV)(f:E->G2->G2):G2->G2:=SV.rec (motive_1:=fun _=>G2->G2) (motive_2:=fun _=>G2->G2) (fun _ _ g=>g) (fun _ g=>g) (fun _ g=>g) (fun g=>g) (fun _ _ g=>g) (fun g=>g) (fun _ _ _ _ g=>g) (fun _ _ _ g=>g) (fun _ e=>f e) (fun _ _ _ _ g=>g) (fun g=>g) (fun _ g=>g) (fun g=>g) (fun g=>g) (fun _ _ _ _ _ g=>g) (fun _ _ g=>g) (fun _ _ g=>g) (fun g=>g) (fun _ _ _ _ _ g=>g) (fun _ _ _ _ _ _ _ g=>g) (fun g=>g) (fun _ _ _ _ g=>g) v
noncomputable def SV.go_bptr(v:SV)(f:E->E->G2->G2):G2->G2:=SV.rec (motive_1:=fun _=>G2->G2) (motive_2:=fun _=>G2->G2) (fun _ _ g=>g) (fun _ g=>g) (fun _ g=>g) (fun g=>g) (fun _ _ g=>g) (fun g=>g) (fun _ _ _ _ g=>g) (fun _ _ _ g=>g) (fun _ _ g=>g) (fun _ e i _=>f e i) (fun g=>g) (fun _ g=>g) (fun g=>g) (fun g=>g) (fun _ _ _ _ _ g=>g) (fun _ _ g=>g) (fun _ _ g=>g) (fun g=>g) (fun _ _ _ _ _ g=>g) (fun _ _ _ _ _ _ _ g=>g) (fun g=>g) (fun _ _ _ _ g=>g) v
noncomputable def SV.go_map(v:SV)(f:Nat->G2->G2):G2->G2:=SV.rec (motive_1:=fun _=>G2->G2) (motive_2:=fun _=>G2->G2) (fun _ _ g=>g) (fun _ g=>g) (fun _ g=>g) (fun g=>g) (fun _ _ g=>g) (fun g=>g) (fun _ _ _ _ g=>g) (fun _ _ _ g=>g) (fun _ _ g=>g) (fun _ _ _ _ g=>g) (fun g=>g) (fun b=>f b) (fun g=>g) (fun g=>g) (fun _ _ _ _ _ g=>g) (fun _ _ g=>g) (fun _ _ g=>g) (fun g=>g) (fun _ _ _ _ _ g=>g) (fun _ _ _ _ _ _ _ g=>g) (fun g=>g) (fun _ _ _ _ g=>g) v
noncomputable def SV.go_func(v:SV)(f:List SV->List SV->G2->G2):G2->G2:=SV.rec (motive_1:=fun _=>G2->G2) (motive_2:=fun _=>G2->G2) (fun _ _ g=>g) (fun _ g=>g) (fun _ g=>g) (fun g=>g) (fun _ _ g=>g) (fun g=>g) (fun _ _ _ _ g=>g) (fun _ _ _ g=>g) (fun _ _ g=>g) (fun _ _ _ _ g=>g) (fun g=>g) (fun _ g=>g) (fun g=>g) (fun g=>g) (fun _ fi ca _ _=>f fi ca) (fun _ _ g=>g) (fun _ _ g=>g) (fun g=>g) (fun _ _ _ _ _ g=>g) (fun _ _ _ _ _ _ _ g=>g) (fun g=>g) (fun _ _ _ _ g=>g) v
noncomputable def SV.go_agg(v:SV)(f:List SV->G2->G2):G2->G2:=SV.rec (motive_1:=fun _=>G2->G2) (motive_2:=fun _=>G2->G2) (fun _ _ g=>g) (fun _ g=>g) (fun _ g=>g) (fun g=>g) (fun _ _ g=>g) (fun g=>g) (fun _ _ _ _ g=>g) (fun _ _ _ g=>g) (fun _ _ g=>g) (fun _ _ _ _ g=>g) (fun g=>g) (fun _ g=>g) (fun g=>g) (fun g=>g) (fun _ _ _ _ _ g=>g) (fun cs _=>f cs) (fun _ _ g=>g) (fun g=>g) (fun _ _ _ _ _ g=>g) (fun _ _ _ _ _ _ _ g=>g) (fun g=>g) (fun _ _ _ _ g=>g) v
noncomputable def SV.go_tup(v:SV)(f:List SV->G2->G2):G2->G2:=SV.rec (motive_1:=fun _=>G2->G2) (motive_2:=fun _=>G2->G2) (fun _ _ g=>g) (fun _ g=>g) (fun _ g=>g) (fun g=>g) (fun _ _ g=>g) (fun g=>g) (fun _ _ _ _ g=>g) (fun _ _ _ g=>g) (fun _ _ g=>g) (fun _ _ _ _ g=>g) (fun g=>g) (fun _ g=>g) (fun g=>g) (fun g=>g) (fun _ _ _ _ _ g=>g) (fun _ _ g=>g) (fun cs _=>f cs) (fun g=>g) (fun _ _ _ _ _ g=>g) (fun _ _ _ _ _ _ _ g=>g) (fun g=>g) (fun _ _ _ _ g=>g) v
noncomputable def akj(b0 b b':Nat)(t:T Nat):T Nat:=Bool.rec (t.set (Nat.sub b b0) b') t (Nat.blt b b0)
noncomputable def gE(n0:Nat)(e e':E)(g:G2):G2:=(ig n0 e e' g.1,g.2)
noncomputable def gB(b0 b b':Nat)(g:G2):G2:=(g.1,akj b0 b b' g.2)
noncomputable def List.goK(l:List SV)(f:SV->List SV->G2->G2):G2->G2:=List.rec (motive:=fun _=>G2->G2) (fun g=>g) (fun v vs _=>f v vs) l
noncomputable def az1(n0 b0:Nat)(v:SV)(b:Nat)(l c:E):G2->G2:=
 v.go_slice fun b' _ l' c' g=>gE n0 c c' (gE n0 l l' (gB b0 b b' g))
noncomputable def A2(n0 b0:Nat)(v:SV):SV->G2->G2:=
 SV.rec (motive_1:=fun _=>SV->G2->G2) (motive_2:=fun _=>List SV->G2->G2)
  (fun _ e v=>v.go_int fun e' g=>gE n0 e e' g)
  (fun e v=>v.go_bool fun e' g=>gE n0 e e' g)
  (fun e v=>v.go_str fun e' g=>gE n0 e e' g)
  (fun _ g=>g)
  (fun b o v=>v.go_ptr fun b' o' g=>gE n0 o.idx o'.idx (gB b0 b b' g))
  (fun _ g=>g)
  (fun b o l c v=>v.go_slice fun b' o' l' c' g=>gE n0 c c' (gE n0 l l' (gE n0 o.idx o'.idx (gB b0 b b' g))))
  (fun b l c v g=>az1 n0 b0 v b l c (v.go_nslice (fun b' l' c' g=>gE n0 c c' (gE n0 l l' (gB b0 b b' g))) g))
  (fun _ e v=>v.go_bsl fun e' g=>gE n0 e e' g)
  (fun _ e i _ v=>v.go_bptr fun e' i' g=>gE n0 i i' (gE n0 e e' g))
  (fun _ g=>g)
  (fun b v=>v.go_map fun b' g=>gB b0 b b' g)
  (fun _ g=>g) (fun _ g=>g)
  (fun _ _ _ f1 f2 v=>v.go_func fun fi ca g=>f2 ca (f1 fi g))
  (fun _ f v=>v.go_agg fun cs g=>f cs g)
  (fun _ f v=>v.go_tup fun cs g=>f cs g)
  (fun _ g=>g)
  (fun _ _ _ _ _ _ g=>g) (fun _ _ _ _ _ _ _ _ g=>g)
  (fun _ g=>g)
  (fun _ _ f1 f2 l=>List.goK l fun v vs g=>f2 vs (f1 v g)) v
noncomputable def aEu(n0 b0:Nat)(vs:List SV):List SV->G2->G2:=
 List.rec (motive:=fun _=>List SV->G2->G2) (fun _ g=>g) (fun v _ f l=>List.goK l fun v' vs' g=>f vs' (A2 n0 b0 v v' g)) vs
noncomputable def T.goK(t:T SV)(f:SV->T SV->T SV->G2->G2):G2->G2:=T.rec (motive:=fun _=>G2->G2) (fun g=>g) (fun v l r _ _=>f v l r) t
noncomputable def avK(n0 b0:Nat)(t:Tm):Tm->G2->G2:=
 T.rec (motive:=fun _=>Tm->G2->G2) (fun _ g=>g) (fun v _ _ f1 f2 t=>T.goK t fun v' l' r' g=>f2 r' (f1 l' (A2 n0 b0 v v' g))) t
def WC(n0 b0:Nat):List Ent->List Ent->T E×T Nat->T E×T Nat
 |x::es,y::es',g=>WC n0 b0 es es' (let h:=A2 n0 b0 x.v y.v (A2 n0 b0 x.k y.k g);(ig n0 x.born y.born h.1,h.2))
 |_,_,g=>g
def DJ(n0 b0:Nat)(heap:T Blk):T Blk->Nat->Nat->T E×T Nat->T E×T Nat
 |.nil,_,_,g=>g
 |.node x l r,a,d,g=>
  let j:=match Nat.blt a b0 with | true=>some a | false=>g.2.get (Nat.sub a b0)
  let g:=match j with
   |some j=>match heap.get j with
    |some y=>match x.obj,(match tR x.obj y.obj with | some o=>o | none=>y.obj)with
     |.mapl _ _ e,.mapl _ _ e'=>(ig n0 e e' g.1,g.2)
     |.iter _ _ e n u,.iter _ _ e' n' u'=>(match u,u' with
      |some x,some x'=>ig n0 x x' (ig n0 n n' (ig n0 e e' g.1))
      |_,_=>ig n0 n n' (ig n0 e e' g.1),g.2)
     |.cells cs t _,.cells cs' t' _=>let g:=aEu n0 b0 cs cs' g;(ig n0 t t' g.1,g.2)
     |.nest _ e n t _,.nest _ e' n' t' _=>(ig n0 t t' (ig n0 n n' (ig n0 e e' g.1)),g.2)
     |.flat _ e n t _,.flat _ e' n' t' _=>(ig n0 t t' (ig n0 n n' (ig n0 e e' g.1)),g.2)
     |.map es c,.map es' c'=>let h:=WC n0 b0 es es' g;(ig n0 c c' h.1,h.2)
     |_,_=>g
    |none=>g
   |none=>g
  DJ n0 b0 heap r (Nat.add a (Nat.add d d)) (Nat.add d d) (DJ n0 b0 heap l (Nat.add a d) (Nat.add d d) g)
def IM{G:Type}(t:T G)(x:G):Nat->Nat->List G
 |0,_=>[]
 |n+1,i=>(match t.get i with | some y=>y | none=>x)::IM t x n (Nat.succ i)
def NQ(n0 b0:Nat)(tmps:Tm)(st:St)(τ:Tmpl):Sub:=
 let nE:=Nat.sub τ.st.nv n0
 let nB:=Nat.sub τ.st.nb b0
 let g:=DJ n0 b0 st.heap τ.st.heap 0 1 (avK n0 b0 τ.tmps tmps (T.fill (.int 0) 20 nE,T.fill 0 20 nB))
 let g:=DJ n0 b0 st.heap τ.st.heap 0 1 g
 ⟨n0,IM g.1 (.int 0) nE 0,b0,IM g.2 0 nB 0⟩
def F9(nv:Nat):List E->Bool
 |[]=>true
 |e::es=>match e.scp nv with
  |true=>F9 nv es
  |false=>false
def Gq(nb:Nat):List Nat->Bool
 |[]=>true
 |b::bs=>match Nat.blt b nb with
  |true=>Gq nb bs
  |false=>false
noncomputable def tE(z:Sub)(p v:SV):Bool:=Bool.rec ((p.sub z).beq v) true (isJunk p)
theorem ao1(z:Sub)(p v:SV):tE z p v=(match p with
 |.junk=>true
 |_=>(p.sub z).beq v):=by cases p<;>rfl
noncomputable def aAP(t:Tm):Bool:=T.rec (motive:=fun _=>Bool) true (fun _ _ _ _ _=>false) t
noncomputable def aog(t:Tm)(f:SV->Tm->Tm->Bool):Bool:=T.rec (motive:=fun _=>Bool) false (fun v l r _ _=>f v l r) t
noncomputable def mf(z:Sub)(p:Tm):Tm->Bool:=
 T.rec (motive:=fun _=>Tm->Bool) aAP (fun p _ _ fl fr t=>aog t fun v l' r'=>Bool.rec false (Bool.rec false (fr r') (fl l')) (tE z p v)) p
theorem amj(z:Sub)(p v:SV)(l r l' r':Tm):mf z (.node p l r) (.node v l' r')=(match tE z p v with
  |true=>match mf z l l' with
   |true=>mf z r r'
   |false=>false
  |false=>false):=by
 have h:mf z (.node p l r) (.node v l' r')=Bool.rec (motive:=fun _=>Bool) false (Bool.rec (motive:=fun _=>Bool) false (mf z r r') (mf z l l')) (tE z p v):=rfl
 rw[h]
 cases tE z p v
 ·rfl
 ·cases mf z l l'<;>rfl
def JI(z:Sub)(p x:SObj):Bool:=
 match p with
 |.gone=>true
 |_=>match tR p x with
  |some x'=>(p.sub z).beq x'
  |none=>(p.sub z).beq x
def Bs(z:Sub)(heap:T Blk)(nb a:Nat)(p:Blk):Bool:=
 match Nat.blt a nb with
 |true=>match p.obj with
  |.gone=>true
  |_=>match heap.get (b8 z.b0 z.bs a)with
   |some x=>my p.own x.own&&JI z p.obj x.obj
   |none=>false
 |false=>false
def xd(z:Sub)(heap:T Blk)(nb:Nat):T Blk->Nat->Nat->Bool
 |.nil,_,_=>true
 |.node p l r,a,d=>match Bs z heap nb a p with
  |true=>match xd z heap nb l (Nat.add a d) (Nat.add d d)with
   |true=>xd z heap nb r (Nat.add a (Nat.add d d)) (Nat.add d d)
   |false=>false
  |false=>false
def kr:T Blk->Nat->Nat->List Nat->List Nat
 |.nil,_,_,acc=>acc
 |.node p l r,a,d,acc=>
  match p.obj with
  |.gone=>kr r (Nat.add a (Nat.add d d)) (Nat.add d d) (kr l (Nat.add a d) (Nat.add d d) acc)
  |_=>kr r (Nat.add a (Nat.add d d)) (Nat.add d d) (kr l (Nat.add a d) (Nat.add d d) (a::acc))
def uA(z:Sub):List Nat->List Nat
 |[]=>[]
 |i::l=>b8 z.b0 z.bs i::uA z l
def Ap(n:Nat):List Nat->Bool
 |[]=>false
 |m::ms=>match Nat.beq n m with
  |true=>true
  |false=>Ap n ms
def Gn:List Nat->Bool
 |[]=>true
 |n::ns=>match Ap n ns with
  |true=>false
  |false=>Gn ns
inductive Fit where
 |ok (z:Sub)
 |lack (e:E)
 |bad (n:Nat)
def wm(fs:List E)(z:Sub)(pc:List E):List E->Fit
 |[]=>.ok z
 |e::es=>match eK fs pc (e.sub z.n0 z.es)with
  |some true=>wm fs z pc es
  |_=>.lack (e.sub z.n0 z.es)
def rq(fs:List E)(n0 b0:Nat)(tmps:Tm)(st:St)(τ:Tmpl):Fit:=
 let z:=NQ n0 b0 tmps st τ
 match Nat.beq (Nat.add n0 (aT z.es)) τ.st.nv&&Nat.beq (Nat.add b0 (aT z.bs)) τ.st.nb&&(F9 st.nv z.es&&Gq st.nb z.bs)with
 |true=>match mf z τ.tmps tmps with
  |true=>match xd z st.heap τ.st.nb τ.st.heap 0 1 with
   |true=>match Gn (uA z (kr τ.st.heap 0 1 []))with
    |true=>wm fs z st.pc τ.st.pc
    |false=>.bad 4
   |false=>.bad 3
  |false=>.bad 2
 |false=>.bad 1
noncomputable def T.map{G J:Type}(f:G->J)(t:T G):T J:=T.rec (motive:=fun _=>T J) T.nil (fun v _ _ a b=>T.node (f v) a b) t
def Hi:Option Blk->Bool
 |some b=>match b.obj with
  |.cells _ _ _=>true
  |_=>false
 |none=>false
def KI(o:Off):Bool:=
 match iw o with
 |some n=>Nat.beq n 0
 |none=>false
mutual
def SV.norm(h:T Blk):SV->SV
 |.int k e=>.int k e
 |.bool e=>.bool e
 |.str e=>.str e
 |.ptr b o=>.ptr b o
 |.slice b o l c=>match Hi (h.get b)&&KI o with
  |true=>.nslice b l c
  |false=>.slice b o l c
 |.nslice b l c=>.nslice b l c
 |.bsl ks e=>.bsl ks e
 |.bptr ks e i j=>.bptr ks e i j
 |.nsl b ks e i c=>.nsl b ks e i c
 |.nptr b ks e i c x j=>.nptr b ks e i c x j
 |.map b=>.map b
 |.func fn fi ca=>.func fn (SV.norms h fi) (SV.norms h ca)
 |.agg cs=>.agg (SV.norms h cs)
 |.tup cs=>.tup (SV.norms h cs)
 |.nilp=>.nilp
 |.nils=>.nils
 |.nilm=>.nilm
 |.nili=>.nili
 |.nilf=>.nilf
 |.junk=>.junk
def SV.norms(h:T Blk):List SV->List SV
 |[]=>[]
 |v::vs=>v.norm h::SV.norms h vs
end
def SObj.norm(h:T Blk):SObj->SObj
 |.cells cs af e=>.cells (SV.norms h cs) af e
 |.gone=>.gone
 |.flat ks l n af e=>.flat ks l n af e
 |.map es c=>.map es c
 |.mapl k c e=>.mapl k c e
 |.maplp k c e ke s=>.maplp k c e ke s
 |.iter k c e n u=>.iter k c e n u
 |.nest ks l n af e=>.nest ks l n af e
def Blk.norm(h:T Blk)(b:Blk):Blk:=⟨b.own,b.obj.norm h⟩
def St.norm(st:St):St:=⟨st.nv,st.nb,st.heap.map (Blk.norm st.heap),st.pc⟩
def HN(fs:List E)(n0 b0:Nat)(tmps:Tm)(st:St)(τ:Tmpl):Fit:=rq fs n0 b0 (tmps.map (SV.norm st.heap)) st.norm τ
def Ab(nv:Nat):List E->List E
 |[]=>[]
 |e::es=>match e.scp nv with
  |true=>e::Ab nv es
  |false=>Ab nv es
def IT(st:St)(v:SV)(st':St):St:=
 match Nat.beq st.nb st'.nb&&Nat.beq st.nv st'.nv with
 |true=>st'
 |false=>match v.plain&&(v.scp st.nv st.nb&&(st.scp&&mZ st.heap st'.heap))with
  |true=>⟨st.nv,st.nb,st.heap,Ab st.nv st'.pc⟩
  |false=>st'
def rH(b:Nat)(m:Nat):Nat:=Nat.lor (Nat.pow 2 b) m
mutual
def SV.blks:SV->Nat->Nat
 |.ptr b _,m=>rH b m
 |.slice b _ _ _,m=>rH b m
 |.nslice b _ _,m=>rH b m
 |.map b,m=>rH b m
 |.nsl b _ _ _ _,m=>rH b m
 |.nptr b _ _ _ _ _ _,m=>rH b m
 |.func _ fi ca,m=>SV.blkss ca (SV.blkss fi m)
 |.agg cs,m=>SV.blkss cs m
 |.tup cs,m=>SV.blkss cs m
 |_,m=>m
def SV.blkss:List SV->Nat->Nat
 |[],m=>m
 |v::vs,m=>SV.blkss vs (SV.blks v m)
end
def agI:List Ent->Nat->Nat
 |[],m=>m
 |x::es,m=>agI es (SV.blks x.v (SV.blks x.k m))
def SObj.blks:SObj->Nat->Nat
 |.cells cs _ _,m=>SV.blkss cs m
 |.map es _,m=>agI es m
 |_,m=>m
def BM(heap:T Blk)(m:Nat):Nat->Nat->Nat->Nat
 |0,_,r=>r
 |n+1,b,r=>match Nat.testBit m b with
  |true=>match heap.get b with
   |some x=>gb (x.obj.blks r) fun r=>BM heap m n (Nat.succ b) r
   |none=>BM heap m n (Nat.succ b) r
  |false=>BM heap m n (Nat.succ b) r
def RA(heap:T Blk)(n b0:Nat):Nat->Nat->Nat
 |0,m=>m
 |k+1,m=>gb (BM heap m n b0 m) fun m'=>match Nat.beq m m' with
  |true=>m
  |false=>RA heap n b0 k m'
def xa(m:Nat):Nat->Nat->T Blk->T Blk
 |0,_,h=>h
 |n+1,b,h=>match Nat.testBit m b with
  |true=>xa m n (Nat.succ b) h
  |false=>T.setK h b ⟨true,.gone⟩ fun h=>xa m n (Nat.succ b) h
def E.vset:E->Nat->Nat
 |.var i,m=>rH i m
 |.ar _ _ a b,m=>E.vset b (E.vset a m)
 |.cmp _ a b,m=>E.vset b (E.vset a m)
 |.mn a b,m=>E.vset b (E.vset a m)
 |.mx a b,m=>E.vset b (E.vset a m)
 |.wr _ a,m=>E.vset a m
 |.not a,m=>E.vset a m
 |.and a b,m=>E.vset b (E.vset a m)
 |.seq a b,m=>E.vset b (E.vset a m)
 |.iff a b,m=>E.vset b (E.vset a m)
 |.imp a b,m=>E.vset b (E.vset a m)
 |.fn _ a,m=>E.vset a m
 |.pr a b,m=>E.vset b (E.vset a m)
 |_,m=>m
mutual
def SV.vset:SV->Nat->Nat
 |.int _ e,m=>e.vset m
 |.bool e,m=>e.vset m
 |.str e,m=>e.vset m
 |.ptr _ o,m=>o.idx.vset m
 |.slice _ o l c,m=>c.vset (l.vset (o.idx.vset m))
 |.nslice _ l c,m=>c.vset (l.vset m)
 |.bsl _ e,m=>e.vset m
 |.bptr _ e i _,m=>i.vset (e.vset m)
 |.nsl _ _ e i _,m=>i.vset (e.vset m)
 |.nptr _ _ e i _ x _,m=>x.vset (i.vset (e.vset m))
 |.func _ fi ca,m=>SV.vsets ca (SV.vsets fi m)
 |.agg cs,m=>SV.vsets cs m
 |.tup cs,m=>SV.vsets cs m
 |_,m=>m
def SV.vsets:List SV->Nat->Nat
 |[],m=>m
 |v::vs,m=>SV.vsets vs (SV.vset v m)
end
def Xk:List Ent->Nat->Nat
 |[],m=>m
 |x::es,m=>Xk es (x.born.vset (SV.vset x.v (SV.vset x.k m)))
def SObj.vset:SObj->Nat->Nat
 |.gone,m=>m
 |.cells cs t _,m=>t.vset (SV.vsets cs m)
 |.flat _ l n t _,m=>t.vset (n.vset (l.vset m))
 |.nest _ l n t _,m=>t.vset (n.vset (l.vset m))
 |.map es c,m=>c.vset (Xk es m)
 |.mapl _ _ e,m=>e.vset m
 |.maplp _ _ e ke s,m=>s.vset (ke.vset (e.vset m))
 |.iter _ _ e n u,m=>match u with | none=>n.vset (e.vset m) | some x=>x.vset (n.vset (e.vset m))
def Gj(heap:T Blk)(bs:Nat):Nat->Nat->Nat->Nat
 |0,_,r=>r
 |n+1,b,r=>match Nat.testBit bs b with
  |true=>match heap.get b with
   |some x=>gb (x.obj.vset r) fun r=>Gj heap bs n (Nat.succ b) r
   |none=>Gj heap bs n (Nat.succ b) r
  |false=>Gj heap bs n (Nat.succ b) r
def y8(nv live:Nat):List E->List E
 |[]=>[]
 |e::es=>match Nat.beq (Nat.land (Nat.shiftRight (e.vset 0) nv) live) (Nat.shiftRight (e.vset 0) nv)with
  |true=>e::y8 nv live es
  |false=>y8 nv live es
def y6(st:St)(v:SV)(st':St):St:=
 match Nat.beq st.nb st'.nb with
 |true=>st'
 |false=>match mZ st.heap st'.heap with
  |true=>gb (RA st'.heap (Nat.sub st'.nb st.nb) st.nb 40 (SV.blks v 0)) fun m=>
    gb (Nat.shiftRight (Gj st'.heap m (Nat.sub st'.nb st.nb) st.nb (SV.vset v 0)) st.nv) fun live=>
     ⟨st'.nv,st'.nb,xa m (Nat.sub st'.nb st.nb) st.nb st'.heap,y8 st.nv live st'.pc⟩
  |false=>st'
def zP(v:SV)(st:St):List (SV×St)->Bool
 |[]=>false
 |x::xs=>match v.beq x.1&&st.beq x.2 with
  |true=>true
  |false=>zP v st xs
def kb(v:SV):Tm:=.node v .nil .nil
def UH(n0 b0:Nat)(t:Tm)(st:St):Bool:=Nat.ble n0 st.nv&&(Nat.ble b0 st.nb&&(st.scp&&jT st.nv st.nb t))
def Mx:Fit->Bool
 |.ok _=>true
 |_=>false
def qc(fs:List E)(n0 b0:Nat)(t:Tm)(st:St):List (Tm×St)->Bool
 |[]=>false
 |x::xs=>match UH n0 b0 x.1 x.2&&Mx (rq fs n0 b0 t st ⟨x.1,x.2,.int 0⟩)with
  |true=>true
  |false=>qc fs n0 b0 t st xs
def wb:List (SV×St)->List (Tm×St)
 |[]=>[]
 |x::xs=>match x.1 with
  |.junk=>wb xs
  |v=>(kb v,x.2)::wb xs
def yl(fs:List E)(st0:St)(v:SV)(st:St)(acc:List (SV×St)):List (SV×St):=
 match acc with
 |[]=>[(v,st)]
 |_=>match zP v st acc with
  |true=>acc
  |false=>match Nat.beq st0.nb st.nb&&Nat.beq st0.nv st.nv with
   |true=>(v,st)::acc
   |false=>match qc fs st0.nv st0.nb (kb v) (y6 st0 v st) (wb acc)with
    |true=>acc
    |false=>(v,y6 st0 v st)::acc
def yC(fs:List E)(st:St):List Out->List (SV×St)->Option (List (SV×St))
 |[],acc=>some acc
 |r::rs,acc=>match r.tmps with
  |.node v _ _=>yC fs st rs (yl fs st v (IT st v r.st) acc)
  |_=>none
def NR(tmps:Tm)(d:Option Tmp)(k:fD):List (SV×St)->aS
 |[]=>some []
 |x::xs=>hG (fg tmps d x.1 fun tmps=>k tmps x.2) (NR tmps d k xs)
def DL(_:List Out):List Out:=[]
def UC(_:Tm)(_:St)(_:Op):String:= ""
def DG(tb:Tab)(rec:bX)(o:Oper)(tmps:Tm)(st:St)(k:fD):aS:=
 match o.op with
 |.call c=>match Fv tb tmps c with
  |some (g,args)=>match jT st.nv st.nb tmps with
   |true=>match rec (.call g args) .nil st (fun r=>some [r])with
    |some rs=>match DL rs with
     |[]=>match yC tb.facts st rs [] with
      |some l=>NR tmps o.dst k l
      |none=>none
     |raw=>some raw
    |none=>none
   |false=>sq (o.pos ++ " scope")
  |none=>sq (o.pos ++ " callee" ++ (match o.op with | .call c=>c.args.toList.foldl (fun s x=>s++UC tmps st (.load 0 x)) "" | _=> ""))
 |_=>sq (o.pos ++ " operation " ++ az5 o.op++UC tmps st o.op)
def pf(tb:Tab)(rec:bX)(o:Oper)(tmps:Tm)(k:fD)(n:Nat):St->aS:=
 Nat.rec (motive:=fun _=>St->aS) (fun _=>none) (fun _ ih st=>
  match ng tb tmps st o.op with
  |.val v st=>fg tmps o.dst v fun tmps=>k tmps st
  |.skip st=>fg tmps o.dst .undef fun tmps=>k tmps st
  |.ask e=>hG (ih {st with pc:=e::st.pc}) (ih {st with pc:=bo e::st.pc})
  |.lack e=>Fu o.pos st e
  |.bad=>match xT tb tmps st o.op with
   |.val v st=>fg tmps o.dst v fun tmps=>k tmps st
   |.skip st=>fg tmps o.dst .undef fun tmps=>k tmps st
   |.ask e=>hG (ih {st with pc:=e::st.pc}) (ih {st with pc:=bo e::st.pc})
   |.lack e=>Fu o.pos st e
   |.bad=>DG tb rec o tmps st k) n
def yf(P:Program)(tb:Tab)(rec:bX)(o:Oper)(tmps:Tm)(st:St)(k:fD):aS:=
 match rS P tb (bE tmps) o.op with
 |some v=>fg tmps o.dst v fun tmps=>k tmps st
 |none=>pf tb rec o tmps k 40 st
def pC(P:Program)(tb:Tab)(rec:bX)(all:List Oper)(o:Oper)(tmps:Tm)(st:St)(k:fD):aS:=
 match tx all tmps o with
 |.yes=>yf P tb rec o tmps st k
 |.no=>fg tmps o.dst .undef fun tmps=>k tmps st
 |.bad=>sq o.pos
 |.ask t e want=>match eK tb.facts st.pc e with
  |some b=>T.setK tmps t (.bool (.bool b)) fun tmps=>match my b want with
   |true=>yf P tb rec o tmps st k
   |false=>fg tmps o.dst .undef fun tmps=>k tmps st
  |none=>
   hG (T.setK tmps t (.bool (.bool want)) fun tmps=>yf P tb rec o tmps {st with pc:=(match want with | true=>e | false=>bo e)::st.pc} k)
    (T.setK tmps t (.bool (.bool (!want))) fun tmps=>fg tmps o.dst .undef fun tmps=>k tmps {st with pc:=(match want with | true=>bo e | false=>e)::st.pc})
def SJ(P:Program)(tb:Tab)(rec:bX)(all:List Oper)(l:List Oper):Tm->St->fD->aS:=
 List.rec (motive:=fun _=>Tm->St->fD->aS) (fun tmps st k=>k tmps st)
  (fun o _ ih tmps st k=>pC P tb rec all o tmps st fun tmps st=>ih tmps st k) l
def vf(k:Nat)(x:Info):List Info->Bool
 |[]=>true
 |m::ms=>match Nat.testBit m.wait k with
  |true=>vf k x ms
  |false=>match Nat.beq (Nat.land x.dst m.reads) 0 with
   |true=>match Nat.beq (Nat.land x.dst m.dst) 0 with
    |true=>match Nat.beq (Nat.land m.dst x.reads) 0 with
     |true=>vf k x ms
     |false=>false
    |false=>false
   |false=>false
def jL:List Info->Nat->Bool
 |[],_=>true
 |m::ms,k=>match Nat.blt m.wait (Nat.pow 2 k)with
  |true=>match vf k m ms with
   |true=>jL ms (Nat.succ k)
   |false=>false
  |false=>false
inductive QR where
 |done (v:SV)
 |split (e:E)
 |bad
def Yi(st:St)(r:aS):QR:=
 match r with
 |some os=>match os with
  |[o]=>match o.tmps with
   |.node v _ _=>match v.plain&&(v.scp st.nv st.nb&&st.scp&&mZ st.heap o.st.heap)with
    |true=>.done v
    |false=>.bad
   |.nil=>.bad
  |_=>.bad
 |none=>.bad
def GH(o:Op):Bool:=
 match o with
 |.load _ _=>true
 |.slice _ _ _ _ _=>true
 |.lookup _ _ _ _=>true
 |.binOp _ _ _ _ _=>true
 |.indexAddr _ _ _=>true
 |.index _ _ _=>true
 |.pick _ _ _=>true
 |.call c=>match c.callee with
  |.builtin _=>true
  |_=>false
 |_=>false
def wQ(P:Program)(tb:Tab)(rec:bX)(o:Oper)(tmps:Tm)(st:St):QR:=
 match rS P tb (bE tmps) o.op with
 |some v=>.done v
 |none=>match GH o.op with
  |true=>match ng tb tmps st o.op with
   |.val v _=>.done v
   |.ask e=>.split e
   |_=>.bad
  |false=>match o.op with
   |.call c=>match Fv tb tmps c with
    |some (g,args)=>Yi st (rec (.call g args) .nil st fun o=>some [o])
    |none=>.bad
   |_=>.bad
inductive QE where
 |done (tmps:Tm)
 |split (e:E)
 |bad
def nh(P:Program)(tb:Tab)(rec:bX)(all:List Oper)(st:St):List Oper->Tm->QE
 |[],tmps=>.done tmps
 |o::os,tmps=>match tx all tmps o with
  |.yes=>match wQ P tb rec o tmps st with
   |.done v=>fg tmps o.dst v fun tmps=>nh P tb rec all st os tmps
   |.split e=>.split e
   |.bad=>.bad
  |.no=>fg tmps o.dst .undef fun tmps=>nh P tb rec all st os tmps
  |.bad=>.bad
  |.ask t e want=>match eK tb.facts st.pc e with
   |some b=>T.setK tmps t (.bool (.bool b)) fun tmps=>match my b want with
    |true=>match wQ P tb rec o tmps st with
     |.done v=>fg tmps o.dst v fun tmps=>nh P tb rec all st os tmps
     |.split e=>.split e
     |.bad=>.bad
    |false=>fg tmps o.dst .undef fun tmps=>nh P tb rec all st os tmps
   |none=>.split e
def ji:List Oper->Bool
 |[]=>true
 |o::os=>match o.op with
  |.select _ _=>false
  |_=>ji os
def wB(m:Nat):List Nat->Nat->Nat->Nat
 |[],_,r=>r
 |c::cs,j,r=>match Nat.testBit m j with
  |true=>wB m cs (Nat.succ j) (Nat.lor c r)
  |false=>wB m cs (Nat.succ j) r
def AO:List Info->List Nat->List Nat
 |[],acc=>acc
 |m::ms,acc=>gb (wB m.wait acc 0 m.wait) fun c=>AO ms (acc++[c])
inductive NS where
 |val (v:SV)
 |ask (e:E)
 |bad
def EZ(P:Program)(tb:Tab)(tmps:Tm)(st:St)(o:Oper):NS:=
 match rS P tb (bE tmps) o.op with
 |some v=>.val v
 |none=>match GH o.op with
  |true=>match ng tb tmps st o.op with
   |.val v _=>.val v
   |.ask e=>.ask e
   |_=>.bad
  |false=>.bad
def BS(P:Program)(tb:Tab)(all:List Oper)(tmps:Tm)(st:St)(o:Oper):NS:=
 match tx all tmps o with
 |.yes=>EZ P tb tmps st o
 |.no=>.val .undef
 |.bad=>.bad
 |.ask _ e want=>match eK tb.facts st.pc e with
  |some b=>match my b want with
   |true=>EZ P tb tmps st o
   |false=>.val .undef
  |none=>.ask e
def oG(dst:Nat):List Info->Nat->Nat->Nat
 |[],_,r=>r
 |m::ms,j,r=>match Nat.beq (Nat.land dst (Nat.lor m.reads m.dst)) 0 with
  |true=>oG dst ms (Nat.succ j) r
  |false=>oG dst ms (Nat.succ j) (Nat.lor (Nat.pow 2 j) r)
def EV(cs:Nat)(clos:List Nat):List (Nat×Oper×Info)->Bool
 |[]=>true
 |(j,_,_)::rs=>match dQ clos j with
  |some c=>match Nat.beq (Nat.land cs c) cs with
   |true=>EV cs clos rs
   |false=>false
  |none=>false
def Kt(all:List Oper)(infos:List Info)(clos:List Nat)(listed used:Nat)(m:Info):Bool:=
 match Nat.beq (Nat.land m.dst (Nat.lor m.reads used)) 0 with
 |true=>true
 |false=>Nat.beq (Nat.land m.dst m.reads) 0&&EV (Nat.land (oG m.dst infos 0 0) listed) clos (gn listed all infos 0)
def mY{J:Type}(P:Program)(tb:Tab)(all:List Oper)(infos:List Info)(clos:List Nat)(st:St):List Oper->List Info->Nat->Nat->Nat->Nat->Tm->(Nat->Nat->Nat->Tm->Option E->J)->J
 |o::os,m::ms,i,listed,used,neu,tmps,k=>
  match Nat.testBit listed i with
  |true=>mY P tb all infos clos st os ms (Nat.succ i) listed used neu tmps k
  |false=>match Nat.beq (Nat.land m.wait listed) m.wait with
   |true=>match BS P tb all tmps st o with
    |.val v=>match Kt all infos clos listed used m with
     |true=>fg tmps o.dst v fun tmps=>gb (Nat.lor (Nat.pow 2 i) listed) fun listed=>gb (Nat.lor (Nat.lor m.reads m.dst) used) fun used=>gb (Nat.lor (Nat.pow 2 i) neu) fun neu=>
       mY P tb all infos clos st os ms (Nat.succ i) listed used neu tmps k
     |false=>mY P tb all infos clos st os ms (Nat.succ i) listed used neu tmps k
    |.ask e=>k listed used neu tmps (some e)
    |.bad=>mY P tb all infos clos st os ms (Nat.succ i) listed used neu tmps k
   |false=>mY P tb all infos clos st os ms (Nat.succ i) listed used neu tmps k
 |_,_,_,listed,used,neu,tmps,k=>k listed used neu tmps none
def SV.isJunk:SV->Bool
 |.junk=>true
 |_=>false
def oU(P:Program)(tb:Tab)(all:List Oper)(tmps:Tm)(st:St)(neu:Nat):List Oper->Nat->Bool
 |[],_=>true
 |o::os,i=>match Nat.testBit neu i with
  |false=>oU P tb all tmps st neu os (Nat.succ i)
  |true=>match BS P tb all tmps st o with
   |.val v=>match o.dst with
    |none=>oU P tb all tmps st neu os (Nat.succ i)
    |some d=>match tmps.get d with
     |some u=>match !(v.isJunk)&&v.beq u with
      |true=>oU P tb all tmps st neu os (Nat.succ i)
      |false=>false
     |none=>false
   |_=>false
def andNot(a b:Nat):Nat:=Nat.xor a (Nat.land a b)
def Dl(P:Program)(tb:Tab)(rec:bX)(all:List Oper)(infos:List Info)(clos:List Nat)(listed used neu:Nat)(tmps:Tm)(st:St)(ih:Nat->Nat->Nat->Tm->St->aS):List (Nat×Oper×Info)->aS
 |[]=>some []
 |(i,o,m)::rs=>match dQ clos i with
  | some c=>match gb (andNot neu c) fun neu=>pC P tb rec all o tmps st fun tmps st=>match oU P tb all tmps st neu all 0 with
    |true=>gb (Nat.lor (Nat.pow 2 i) listed) fun listed=>gb (Nat.lor (Nat.lor m.reads m.dst) used) fun used=>ih listed used neu tmps st
    |false=>none with
   |some os=>match Dl P tb rec all infos clos listed used neu tmps st ih rs with
    |some os'=>some (os++os')
    |none=>none
   |none=>none
  |none=>none
def HS(P:Program)(tb:Tab)(rec:bX)(all:List Oper)(infos:List Info)(clos:List Nat)(listed used neu:Nat)(tmps:Tm)(st:St)(k:fD)(ih:Nat->Nat->Nat->Tm->St->aS):aS:=
 match gn listed all infos 0 with
 |[]=>k tmps st
 |rs=>Dl P tb rec all infos clos listed used neu tmps st ih rs
def vS(P:Program)(tb:Tab)(rec:bX)(all:List Oper)(infos:List Info)(clos:List Nat)(k:fD)(n:Nat):Nat->Nat->Nat->Tm->St->aS:=
 Nat.rec (motive:=fun _=>Nat->Nat->Nat->Tm->St->aS) (fun _ _ _ _ _=>none) (fun _ ih listed used neu tmps st=>
  mY P tb all infos clos st all infos 0 listed used neu tmps fun listed used neu tmps pend=>match pend with
   |some e=>hG (ih listed used neu tmps {st with pc:=e::st.pc}) (ih listed used neu tmps {st with pc:=bo e::st.pc})
   |none=>HS P tb rec all infos clos listed used neu tmps st k ih) n
def qJ(tmps:Tm)(st:St):aS:=some [⟨.normal,tmps,st⟩]
def lg(fs:List E)(n0 b0:Nat):List Out->List (Tm×St)->List (Tm×St)
 |[],acc=>acc
 |o::os,acc=>match acc with
  |[]=>lg fs n0 b0 os [(o.tmps,o.st)]
  |_=>match qc fs n0 b0 o.tmps o.st acc with
   |true=>lg fs n0 b0 os acc
   |false=>lg fs n0 b0 os ((o.tmps,o.st)::acc)
def GW(k:Out->aS):List (Tm×St)->aS
 |[]=>some []
 |x::xs=>hG (k ⟨.normal,x.1,x.2⟩) (GW k xs)
def Hq(P:Program)(tb:Tab)(rec:bX)(all:List Oper)(n:Nat)(tmps:Tm)(st:St)(k:Out->aS):aS:=
 match ji all with
 |true=>match jL (aY all all) 0 with
  |true=>match vS P tb rec all (aY all all) (AO (aY all all) []) qJ (Nat.add 10 (Nat.add n n)) 0 0 0 tmps st with
   |some outs=>match DL outs with
    |[]=>GW k (lg tb.facts st.nv st.nb outs [])
    |raw=>some raw
   |none=>match nh P tb rec all st all tmps with
   |.done tmps=>k ⟨.normal,tmps,st⟩
   |.split e=>hG (rec (.draw all n) tmps {st with pc:=e::st.pc} k) (rec (.draw all n) tmps {st with pc:=bo e::st.pc} k)
   |.bad=>rec (.layer all (aY all all) (nM P tb all (aY all all) 0 n [⟨.normal,tmps,st⟩] [])) tmps st k
  |false=>rec (.layer all (aY all all) (nM P tb all (aY all all) 0 n [⟨.normal,tmps,st⟩] [])) tmps st k
 |false=>none
def kx:Code->Option Nat
 |.exit id=>some id
 |.seq a b=>match kx a with
  |some n=>some n
  |none=>kx b
 |.block _ b=>kx b
 |.loop b=>kx b
 |.cond _ a b=>match kx a with
  |some n=>some n
  |none=>kx b
 |_=>none
def zQ(g key:Nat):List Ann->Option Ann
 |[]=>none
 |x::xs=>match Nat.beq x.fn g with
  |true=>match Nat.beq x.key key with
   |true=>some x
   |false=>zQ g key xs
  |false=>zQ g key xs
def GZ(tb:Tab)(g:Nat)(b:Code):Option Ann:=
 match tb.anns with
 |[]=>none
 |l=>match kx b with
  |some key=>zQ g key l
  |none=>none
def jI(fs:List E)(n0 b0:Nat)(tmps:Tm)(st:St)(bound:Option E):List Tmpl->Option E->Fit
 |[],why=>match why with
  |some e=>.lack e
  |none=>.bad 0
 |τ::τs,why=>match HN fs n0 b0 tmps st τ with
  |.ok z=>match bound with
   |none=>.ok z
   |some m=>match kn fs st.pc (τ.less.sub z.n0 z.es) m with
    |true=>match dR fs st.pc (τ.less.sub z.n0 z.es)with
     |true=>.ok z
     |false=>.lack (bo (aI .lss (τ.less.sub z.n0 z.es) (.int 0)))
    |false=>.lack (aI .lss (τ.less.sub z.n0 z.es) m)
  |.lack e=>jI fs n0 b0 tmps st bound τs (match why with | some e=>some e | none=>some e)
  |.bad _=>jI fs n0 b0 tmps st bound τs why
def ni(_:Tm)(_:St)(f:Fit)(r:aS):aS:=
 match f with
 |.ok _=>r
 |_=>none
def Tmpl.scp(τ:Tmpl):Bool:=τ.st.scp&&jT τ.st.nv τ.st.nb τ.tmps&&τ.less.scp τ.st.nv
def rL(n0 b0:Nat):List Tmpl->Bool
 |[]=>true
 |τ::τs=>match Nat.ble n0 τ.st.nv&&Nat.ble b0 τ.st.nb&&τ.scp with
  |true=>rL n0 b0 τs
  |false=>false
def JQ(tb:Tab)(rec:bX)(g:FuncId)(b:Code)(n0 b0:Nat)(ts:List Tmpl)(k:Out->aS):List Tmpl->aS
 |[]=>some []
 | τ::τs=>hG (rec (.code g b) τ.tmps τ.st fun o=>match o.ex with
   |.normal=>ni o.tmps o.st (jI tb.facts n0 b0 o.tmps o.st (some τ.less) ts none) (some [])
   |_=>k o) (JQ tb rec g b n0 b0 ts k τs)
def La(k:Out->aS):List Out->aS
 |[]=>some []
 |o::os=>hG (k o) (La k os)
def KH:Nat->Nat->T Blk->T Blk
 |0,_,t=>t
 |k+1,n,t=>KH k (Nat.succ n) (T.ins t n ⟨true,.gone⟩)
def St.pad(st:St)(n b:Nat):St:=⟨n,b,KH (Nat.sub b st.nb) st.nb st.heap,st.pc⟩
def EF(tb:Tab)(n b:Nat)(ts:List Tmpl)(xs:List Out)(tmps:Tm)(st:St)(k:Out->aS):aS:=
 match rL n b ts with
 |true=>ni tmps st (jI tb.facts n b tmps st none ts none) (La k xs)
 |false=>sq "templates"
def Ew(tb:Tab)(rec:bX)(g:FuncId)(b:Code)(tmps:Tm)(st:St)(k:Out->aS):aS:=
 match GZ tb g b with
 |none=>rec (.rounds g b) tmps st k
 |some x=>match x.known with
  |none=>match rL st.nv st.nb x.ts with
   |true=>ni tmps st (jI tb.facts st.nv st.nb tmps st none x.ts none) (JQ tb rec g b st.nv st.nb x.ts k x.ts)
   |false=>sq "templates"
  |some y=>match Nat.beq st.nv y.n0&&Nat.beq st.nb y.b0 with
   |true=>EF tb y.n0 y.b0 x.ts y.xs tmps st k
   |false=>match Nat.ble st.nv y.n0&&Nat.ble st.nb y.b0&&st.scp&&jT st.nv st.nb tmps with
    |true=>EF tb y.n0 y.b0 x.ts y.xs tmps (st.pad y.n0 y.b0) k
    |false=>sq "a loop's variables"
def NF(rec:bX)(g:FuncId)(tmps:Tm)(st:St)(k:Out->aS)(a b:Code):aS:=
 rec (.code g a) tmps st fun o=>match o.ex with
   |.normal=>rec (.code g b) o.tmps o.st k
   |_=>k o
def If(rec:bX)(g:FuncId)(tmps:Tm)(st:St)(k:Out->aS)(id:Nat)(b:Code):aS:=
 rec (.code g b) tmps st fun o=>match o.ex with
   |.exit i=>match Nat.beq i id with
    |true=>k ⟨.normal,o.tmps,o.st⟩
    |false=>k o
   |_=>k o
def Oq(tb:Tab)(rec:bX)(g:FuncId)(tmps:Tm)(st:St)(k:Out->aS)(c:Operand)(x y:Code):aS:=
 match bE tmps c with
  |some (.bool e)=>match eK tb.facts st.pc e with
   |some true=>rec (.code g x) tmps st k
   |some false=>rec (.code g y) tmps st k
   |none=>hG (rec (.code g x) tmps {st with pc:=e::st.pc} k) (rec (.code g y) tmps {st with pc:=bo e::st.pc} k)
  |_=>none
def JL(P:Program)(tb:Tab)(rec:bX)(tmps:Tm)(st:St)(k:Out->aS)(ops:Array Oper)(d:Bool):aS:=
 match d with
  |false=>SJ P tb rec ops.toList ops.toList tmps st fun tmps st=>k ⟨.normal,tmps,st⟩
  |true=>rec (.draw ops.toList ops.size) tmps st k
noncomputable def JJ(P:Program)(tb:Tab)(rec:bX)(g:FuncId)(c:Code)(tmps:Tm)(st:St)(k:Out->aS):aS:=
 Code.rec (motive:=fun _=>aS)
  (k ⟨.normal,tmps,st⟩)
  (fun _ ops d=>JL P tb rec tmps st k ops d)
  (fun a b _ _=>NF rec g tmps st k a b)
  (fun c x y _ _=>Oq tb rec g tmps st k c x y)
  (fun id b _=>If rec g tmps st k id b)
  (fun b _=>Ew tb rec g b tmps st k)
  (fun _ _ _ _ _ _=>none)
  (fun id=>k ⟨.exit id,tmps,st⟩)
  (fun _ _=>none)
  (fun _=>k ⟨.normal,tmps,st⟩)
  (fun _=>none)
  (k ⟨.ret,tmps,st⟩)
  (fun _=>none)
  c
theorem axg(P:Program)(tb:Tab)(rec:bX)(g:FuncId)(c:Code)(tmps:Tm)(st:St)(k:Out->aS):JJ P tb rec g c tmps st k=(match c with
 |.skip=>k ⟨.normal,tmps,st⟩
 |.label _=>k ⟨.normal,tmps,st⟩
 |.ret=>k ⟨.ret,tmps,st⟩
 |.exit id=>k ⟨.exit id,tmps,st⟩
 |.seq a b=>NF rec g tmps st k a b
 |.block id b=>If rec g tmps st k id b
 |.loop b=>Ew tb rec g b tmps st k
 |.cond c x y=>Oq tb rec g tmps st k c x y
 |.region _ ops d=>JL P tb rec tmps st k ops d
 |_=>none):=by cases c<;>rfl
def wx(fs:List E)(g:FuncId)(args:List SV)(st:St):List Nat1->NatR
 |[]=>.no
 |x::xs=>match Nat.beq x.fn g with
  |true=>match x.eff fs args st with
   |.outs l=>.outs l
   |_=>wx fs g args st xs
  |false=>wx fs g args st xs
def adY(k:Out->aS):List (SV×St)->aS
 |[]=>some []
 |(v,st)::l=>hG (k ⟨.ret,.node v .nil .nil,st⟩) (adY k l)
def Ii(tb:Tab)(rec:bX)(g:FuncId)(args:List SV)(st:St)(k:Out->aS):aS:=
 match wx tb.facts g args st tb.nats with
 |.outs l=>adY k l
 |_=>match tb.fn.get g with
 |some fn=>match fn.body with
  |some c=>match Nat.ble args.length fn.ntmps&&Nat.ble fn.ntmps 1048575 with
   | true=>T.putsK args 0 (T.fill SV.undef 20 fn.ntmps) fun tmps=>rec (.code g c) tmps st fun o=>match o.ex with
     |.exit _=>none
     |_=>match kG tb o.st o.tmps fn.results.toList with
      |some vs=>k ⟨.ret,.node (qu vs) .nil .nil,o.st⟩
      |none=>none
   |false=>none
  |none=>none
 |none=>none
def yF(P:Program)(tb:Tab)(rec:bX)(all:List Oper)(infos:List Info)(x:Node)(left:Nat):List (Nat×Oper×Info)->List Node->Option (List Node)
 |[],acc=>some acc
 |(i,o,_)::rs,acc=>match pC P tb rec all o x.tmps x.st qJ with
  |some os=>gb (Nat.lor (Nat.pow 2 i) x.listed) fun listed=>yF P tb rec all infos x left rs (nM P tb all infos listed left os acc)
  |none=>none
def xS(P:Program)(tb:Tab)(rec:bX)(all:List Oper)(infos:List Info)(k:fD):List Node->List Node->Option (List Node×List Out)
 |[],acc=>some (acc,[])
 |x::xs,acc=>match gn x.listed all infos 0 with
  |[]=>match k x.tmps x.st with
   |some os=>match xS P tb rec all infos k xs acc with
    |some (acc,more)=>some (acc,os++more)
    |none=>none
   |none=>none
  |rs=>match x.left with
   |0=>none
   |left+1=>match yF P tb rec all infos x left rs acc with
    |some acc=>xS P tb rec all infos k xs acc
    |none=>none
def Kd(P:Program)(tb:Tab)(rec:bX)(all:List Oper)(infos:List Info)(l:List Node)(tmps:Tm)(st:St)(k:Out->aS):aS:=
 match xS P tb rec all infos (fun tmps st=>k ⟨.normal,tmps,st⟩) l [] with
 |some (next,os)=>match next with
  |[]=>some os
  |_=>match rec (.layer all infos next) tmps st k with
   |some more=>some (os++more)
   |none=>none
 |none=>none
def Vv(rec:bX)(g:FuncId)(b:Code)(tmps:Tm)(st:St)(k:Out->aS):aS:=
 rec (.code g b) tmps st fun o=>match o.ex with
  |.normal=>rec (.rounds g b) o.tmps o.st k
  |_=>k o
def aGu(P:Program)(tb:Tab)(rec:bX)(task:Task)(tmps:Tm)(st:St)(k:Out->aS):aS:=
 match task with
 |.code g c=>JJ P tb rec g c tmps st k
 |.rounds g c=>Vv rec g c tmps st k
 |.call g args=>Ii tb rec g args st k
 |.draw all n=>Hq P tb rec all n tmps st k
 |.layer all infos l=>Kd P tb rec all infos l tmps st k
def run(P:Program)(tb:Tab)(n:Nat):bX:=
 Nat.rec (motive:=fun _=>bX) (fun _ _ _ _=>none) (fun _ ih=>aGu P tb ih) n
def ic(key:Nat):Code->List Code
 |.seq a b=>ic key a++ic key b
 |.cond _ a b=>ic key a++ic key b
 |.block _ b=>ic key b
 |.loop b=>match kx b with
  |some n=>match Nat.beq n key with
   |true=>b::ic key b
   |false=>ic key b
  |none=>ic key b
 |_=>[]
def HD:Ex->Ex->Bool
 |.normal,.normal=>true
 |.ret,.ret=>true
 |.exit a,.exit b=>Nat.beq a b
 |_,_=>false
def uh(e:Ex):List Out->List Tmpl
 |[]=>[]
 |x::xs=>match HD e x.ex with
  |true=>⟨x.tmps,x.st,.int 0⟩::uh e xs
  |false=>uh e xs
def A0:List Out->List Tmpl
 |[]=>[]
 |x::xs=>⟨x.tmps,x.st,.int 0⟩::A0 xs
def TI(tb:Tab)(n0 b0:Nat)(ts:List Tmpl)(xs:List Out)(less:E)(o:Out):aS:=
 match o.ex with
 |.normal=>ni o.tmps o.st (jI tb.facts n0 b0 o.tmps o.st (some less) ts none) (some [])
 |_=>ni o.tmps o.st (jI tb.facts n0 b0 o.tmps o.st none (uh o.ex xs) none) (some [])
def YD:aS->Bool
 |some _=>true
 |none=>false
def acJ(P:Program)(tb:Tab)(n:Nat)(g key n0 b0:Nat)(ts:List Tmpl)(xs:List Out)(less:E)(tmps:Tm)(st:St):Bool:=
 match tb.fn.get g with
 |some fn=>match fn.body with
  |some c=>match ic key c with
   |[b]=>match rL n0 b0 ts&&rL n0 b0 (A0 xs)with
    |true=>YD (run P tb n (.code g b) tmps st (TI tb n0 b0 ts xs less))
    |false=>false
   |_=>false
  |none=>false
 |none=>false
def km{J:Type}(P:Program)(k:Tab->J):J:=
 T.addsK P.types.toList 0 T.nil fun ty=>T.addsK P.funcs.toList 0 T.nil fun fn=>k ⟨ty,fn,[],[],[]⟩
end
end Go.SX

namespace Go.SX
noncomputable section
def nj(x:Int):List Int->List Int
 |[]=>[x]
 |y::l=>match leI x y with
  |true=>x::y::l
  |false=>y::nj x l
def gI:List Int->List Int
 |[]=>[]
 |x::l=>nj x (gI l)
def ra:List Int->List SV
 |[]=>[]
 |n::l=>.int .i64 (.int n)::ra l
def Jp:Option (List (SV×St))->NatR
 |some l=>.outs l
 |none=>.no
def xU:List SV->Option (List Int)
 |[]=>some []
 |v::l=>match v with
  |.int .i64 (.int n)=>match xU l with
   |some r=>some (n::r)
   |none=>none
  |_=>none
def Da(st:St)(b:Nat)(cs:List SV)(af:E)(el:TypeId)(n:Nat):NatR:=
 match mL cs n with
 |some hd=>match xU hd with
  |some l=>match Nat.ble n 1000000 with
   |true=>match nY cs 0 (ra (gI l))with
    |some cs'=>.outs [(.tup [],{st with heap:=st.heap.set b ⟨true,.cells cs' af el⟩})]
    |none=>.no
   |false=>.no
  |none=>.no
 |none=>.no
def Ho(st:St)(b:Nat)(l n af:E)(el:TypeId)(ok:Bool):NatR:=
 match ok with
 |true=>.outs [(.tup [],{st with heap:=st.heap.set b ⟨true,.flat [.int .i64] (.fn 40 l) n af el⟩})]
 |false=>.lack (bo (aI .lss lw n))
def NY:List CK->Bool
 |[c]=>match c with
  |.int .i64=>true
  |_=>false
 |_=>false
def KD(fs:List E)(args:List SV)(st:St):NatR:=
 match args with
 |[v]=>match v with
  |.nils=>.outs [(.tup [],st)]
  |.nslice b len _=>match st.heap.get b with
   |some ⟨own,o⟩=>match own with
    |true=>match o with
     |.cells cs af el=>match eP len with
      |some n=>Da st b cs af el n
      |none=>.no
     |.flat ks l n af el=>match len.beq n&&NY ks with
      |true=>Ho st b l n af el (dm fs st.pc n lw)
      |false=>.no
     |_=>.no
    |false=>.no
   |none=>.no
  |.slice b off len _=>match st.heap.get b with
   |some ⟨own,o⟩=>match own with
    |true=>match o with
     |.cells cs af el=>match eP len,iw off with
      |some n,some 0=>Da st b cs af el n
      |_,_=>.no
     |_=>.no
    |false=>.no
   |none=>.no
  |_=>.no
 |_=>.no
def agw(f:FuncId):Nat1:=⟨f,KD⟩
def MC(args:List SV)(st:St):Option (List (SV×St)):=
 match args with
 |[]=>some [(.bool (.bool true),st)]
 |_=>none
def MN(g:FuncId):Nat1:=⟨g,fun _ args st=>Jp (MC args st)⟩
structure Pact where
 fn:FuncId
 args:List SV
 st:St
 posts:List (SV×St)
 deriving Inhabited
def Pact.tmpl(s:Pact):Tmpl:=⟨kb (.tup s.args),s.st,.int 0⟩
def pn(n0:Nat):Nat->List E
 |0=>[]
 |n+1=>.var n0::pn (Nat.succ n0) n
def oF(n0:Nat):Nat->List Nat
 |0=>[]
 |n+1=>n0::oF (Nat.succ n0) n
def H1(z:Sub)(st pre post:St):Sub:=⟨0,z.es++pn st.nv (Nat.sub post.nv pre.nv),0,z.bs++oF st.nb (Nat.sub post.nb pre.nb)⟩
def mI(z:Sub)(pre post:T Blk):Nat->Nat->T Blk->T Blk
 |0,_,heap=>heap
 |n+1,i,heap=>match pre.get i with
  |none=>mI z pre post n (Nat.succ i) heap
  |some p=>match p.obj with
   |.gone=>mI z pre post n (Nat.succ i) heap
   |_=>match post.get i with
    |none=>T.setK heap (b8 0 z.bs i) ⟨true,.gone⟩ fun heap=>mI z pre post n (Nat.succ i) heap
    |some q=>T.setK heap (b8 0 z.bs i) ⟨true,q.obj.sub z⟩ fun heap=>mI z pre post n (Nat.succ i) heap
def rD(z:Sub)(post:T Blk):Nat->Nat->Nat->T Blk->T Blk
 |0,_,_,heap=>heap
 |n+1,i,b,heap=>match post.get i with
  |none=>T.insK heap b ⟨true,.gone⟩ fun heap=>rD z post n (Nat.succ i) (Nat.succ b) heap
  |some q=>T.insK heap b ⟨true,q.obj.sub z⟩ fun heap=>rD z post n (Nat.succ i) (Nat.succ b) heap
def xl(z:Sub)(pc:List E):List E->List E
 |[]=>pc
 |e::es=>e.sub z.n0 z.es::xl z pc es
def vN(z:Sub)(st pre:St)(p:SV×St):SV×St:=
 let z':=H1 z st pre p.2
 (p.1.sub z',⟨Nat.add st.nv (Nat.sub p.2.nv pre.nv),Nat.add st.nb (Nat.sub p.2.nb pre.nb),
  rD z' p.2.heap (Nat.sub p.2.nb pre.nb) pre.nb st.nb (mI z' pre.heap p.2.heap pre.nb 0 st.heap),xl z' st.pc p.2.pc⟩)
def Gc(z:Sub)(st pre:St):List (SV×St)->List (SV×St)
 |[]=>[]
 |p::ps=>vN z st pre p::Gc z st pre ps
def NG(s:Pact)(fs:List E)(args:List SV)(st:St):NatR:=
 match st.scp with
 |true=>match rq fs 0 0 (kb (.tup args)) st s.tmpl with
  |.ok z=>.outs (Gc z st s.st s.posts)
  |.lack e=>.lack e
  |.bad _=>.no
 |false=>.no
def H5(fs:List E)(p:SV×St):Bool:=
 match p.2.pc with
 |[]=>true
 |c::bK=>match eK fs bK (bo c)with
  |some b=>!b
  |none=>true
def wS(fs:List E):List (SV×St)->List (SV×St)
 |[]=>[]
 |p::ps=>match H5 fs p with
  |true=>p::wS fs ps
  |false=>wS fs ps
def Kp(s:Pact)(fs:List E)(args:List SV)(st:St):NatR:=
 match NG s fs (SV.norms st.heap args) st.norm with
 |.outs l=>.outs (wS fs l)
 |.lack e=>.lack e
 |.no=>.no
def bu(s:Pact):Nat1:=⟨s.fn,Kp s⟩
def GA(t:T Blk):Bool:=T.all (fun b=>b.own) t
def Bd(pre post:T Blk):Nat->Bool
 |0=>true
 |n+1=>match Bd pre post n with
  |true=>match post.get n with
   |none=>true
   |some q=>match q.obj with
    |.gone=>true
    |_=>match pre.get n with
     |some p=>match p.obj with
      |.gone=>false
      |_=>true
     |none=>false
  |false=>false
def LC(s:Pact)(p:SV×St):Bool:=
 Nat.ble s.st.nv p.2.nv&&(Nat.ble s.st.nb p.2.nb&&(p.2.scp&&(p.1.scp p.2.nv p.2.nb&&(GA p.2.heap&&Bd s.st.heap p.2.heap s.st.nb))))
def CX(s:Pact):List (SV×St)->Bool
 |[]=>true
 |p::ps=>match LC s p with
  |true=>CX s ps
  |false=>false
def Pact.good(s:Pact):Bool:=s.st.scp&&(SV.scps s.st.nv s.st.nb s.args&&(GA s.st.heap&&CX s s.posts))
def LP(fs:List E)(s:Pact)(p:SV×St):Bool:=qc fs s.st.nv s.st.nb (kb p.1) p.2 (wb s.posts)
def AZ(tb:Tab)(ms:List FM)(s:Pact):List Out->Bool
 |[]=>true
 |o::os=>match o.tmps with
  |.node v _ _=>match LP tb.facts s (lu ms tb.facts (v,o.st))with
   |true=>AZ tb ms s os
   |false=>false
  |.nil=>false
def I0(P:Program)(tb:Tab)(n:Nat)(ms:List FM)(s:Pact):Bool:=
 match s.good with
 |true=>match run P tb n (.call s.fn s.args) .nil s.st (fun o=>some [o])with
  |some os=>AZ tb ms s os
  |none=>false
 |false=>false
def dr(n:Nat)(l:List (Nat×SV)):Tm:=l.foldr (fun p t=>t.set p.1 p.2) (T.fill .junk 20 n)
def cn(l:List Blk):T Blk:=(l.foldl (fun(p:T Blk×Nat) b=>(p.1.ins p.2 b,p.2+1)) (T.nil,0)).1
def ny(a b:E):E:=.cmp .lss a b
def ag(a b:E):E:=.not (.cmp .lss b a)
def eV(i:Nat):E:=.var i
def aha:List Nat->List E
 |[]=>[]
 |i::l=>.not (.cmp .lss (.var i) (.int 0))::.not (.cmp .lss (.int 18446744073709551615) (.var i))::aha l
def aaK:List Nat->List E
 |[]=>[]
 |i::l=>.not (.cmp .lss (.var i) (.int (-9223372036854775808)))::.not (.cmp .lss (.int 9223372036854775807) (.var i))::aaK l
def JY(kss:List FM)(fs:List E):List (SV×St)->List (SV×St)
 |[]=>[]
 |p::ps=>lu kss fs p::JY kss fs ps
def LW(kss:List FM)(x:Nat1)(fs:List E)(args:List SV)(st:St):NatR:=
 match x.eff fs args st with
 |.outs l=>.outs (JY kss fs l)
 |.lack e=>.lack e
 |.no=>.no
def aE2(kss:List FM)(x:Nat1):Nat1:=⟨x.fn,LW kss x⟩
end
end Go.SX
