/-
  A symbolic executor of the model's code: it reckons all outcomes of a call Sx values and memory that are known in part.
-/
import GoSem.Step
set_option linter.unusedVariables false
set_option linter.unusedSimpArgs false
set_option linter.unusedSectionVars false

namespace Go.SX
inductive U where
 |int (n:Int) | bool (b:Bool) | str (s:ByteArray) | lst (l:List U) | bx (a:Option Addr) (n c:Nat) (l:List U)
def U.toI:U->Int | .int n=>n | _=>0
def U.toB:U->Bool | .bool b=>b | _=>false
def U.toS:U->ByteArray | .str s=>s | _=>ByteArray.empty
def U.toL:U->List U | .lst l=>l | .bx _ _ _ l=>l | _=>[]
def U.raw:U->Value | .bx a n c _=>.slice a n c | _=>.slice none 0 0
def U.adr:U->Option Addr | .bx a _ _ _=>a | _=>none
def U.rlen:U->Nat | .bx _ n _ _=>n | _=>0
def U.rcap:U->Nat | .bx _ _ c _=>c | _=>0
def U.cut(w:Nat)(u:U)(l h m:Nat):U:=
 .bx (if m=l then u.adr else u.adr.map (·.add (l*w))) (h-l) (m-l) ((u.toL.take (h*w)).drop (l*w))
def U.fst:U->U | .lst (a::_)=>a | _=>.int 0
def U.snd:U->U | .lst (_::b::_)=>b | _=>.int 0
mutual
def U.eq:U->U->Bool
 |.int a,.int b=>a==b
 |.bool a,.bool b=>a==b
 |.str a,.str b=>a.data==b.data
 |.lst a,.lst b=>U.eqs a b
 |.bx _ _ _ a,.lst b=>U.eqs a b
 |.lst a,.bx _ _ _ b=>U.eqs a b
 |.bx _ _ _ a,.bx _ _ _ b=>U.eqs a b
 |_,_=>false
def U.eqs:List U->List U->Bool
 |[],[]=>true
 |x::xs,y::ys=>U.eq x y&&U.eqs xs ys
 |_,_=>false
end
def akK(n:Nat):Int:=match n with | 0=>-128 | 1=>-32768 | 2=>-2147483648 | 3=>-9223372036854775808 | _=>0
def akJ(n:Nat):Int:=match n with | 0=>127 | 1=>32767 | 2=>2147483647 | 3=>9223372036854775807 | 4=>255 | 5=>65535 | 6=>4294967295 | _=>18446744073709551615
mutual
def U.typ:U->U->Bool
 |.int x,.int k=>decide (k<8/\akK k.toNat<=x/\x<=akJ k.toNat)
 |.bool _,.int k=>k==8
 |.str _,.int k=>k==9
 |.bx _ _ _ l,.lst ks=>U.typs l ks []
 |_,_=>false
def U.typs:List U->List U->List U->Bool
 |[],_,_=>true
 |x::xs,ks,k::r=>U.typ x k&&U.typs xs ks r
 |x::xs,ks,[]=>match ks with
  |k::r=>U.typ x k&&U.typs xs ks r
  |[]=>false
end
def d5(k:Int):List U->Option U
 |[]=>none
 |u::l=>if u.fst.toI=k then some u.snd else d5 k l
def gv(k:Int)(v:U):List U->List U
 |[]=>[.lst [.int k,v]]
 |u::l=>if u.fst.toI=k then .lst [.int k,v]::l else u::gv k v l
def vf(k:Int):List U->List U
 |[]=>[]
 |u::l=>if u.fst.toI=k then l else u::vf k l
def qm(x:Int):List Int->List Int
 |[]=>[x]
 |y::l=>if x<=y then x::y::l else y::qm x l
def dk:List Int->List Int
 |[]=>[]
 |x::l=>qm x (dk l)
def aYT(l:List U):Bool:=
 decide ((l.map fun u=>u.fst.toI).Nodup)&&(l.all fun u=>decide (-9223372036854775808<=u.fst.toI/\u.fst.toI<=9223372036854775807))&&decide (l.length<=1000000)
def akn(x:U):List U->Nat->Int
 |[],_=>-1
 |y::l,n=>if U.eq x y then n else akn x l (n+1)
mutual
def U.size:U->Nat
 |.int _=>1
 |.bool _=>1
 |.str _=>1
 |.lst l=>U.sizes l+1
 |.bx _ _ _ l=>U.sizes l+1
def U.sizes:List U->Nat
 |[]=>0
 |u::l=>U.size u+U.sizes l
end
def zc(f:Nat)(a:U):U:=
 match f with
 |0=>.int a.toL.length
 |1=>a.fst.toL.getD a.snd.toI.toNat (.int 0)
 |2=>.lst (a.fst.toL.set a.snd.fst.toI.toNat a.snd.snd)
 |3=>.lst (a.fst.toL++a.snd.toL)
 |4=>.lst ((a.fst.toL.take a.snd.snd.toI.toNat).drop a.snd.fst.toI.toNat)
 |5=>.lst (List.replicate a.fst.toI.toNat a.snd)
 |6=>.int (a.fst.toI+a.snd.toI)
 |7=>.int (a.fst.toI-a.snd.toI)
 |8=>.int (a.fst.toI*a.snd.toI)
 |9=>.int (a.fst.toL.length/a.snd.toI.toNat)
 |10=>.lst []
 |11=>.lst [a]
 |12=>.bool (U.eq a.fst a.snd)
 |13=>.int a.toS.size
 |14=>.str (a.fst.toS++a.snd.toS)
 |15=>.int ((a.fst.toS.data.getD a.snd.toI.toNat 0).toNat)
 |16=>.str (a.fst.toS.extract a.snd.fst.toI.toNat a.snd.snd.toI.toNat)
 |17=>.lst (List.replicate a.fst.toI.toNat a.snd.toL).flatten
 |18=>.lst (a.fst.toL.take a.snd.toI.toNat)
 |19=>.lst (a.fst.toL.drop a.snd.toI.toNat)
 |20=>.int (if a.fst.toB then a.snd.fst.toI else a.snd.snd.toI)
 |21=>.bx a.fst.adr a.fst.rlen a.fst.rcap a.snd.toL
 |22=>.int a.rcap
 |23=>.lst (a.fst::a.snd.toL)
 |24=>U.cut a.fst.fst.toI.toNat a.fst.snd a.snd.fst.toI.toNat a.snd.snd.fst.toI.toNat a.snd.snd.snd.toI.toNat
 |25=>.bool (a.snd.toL.any fun x=>U.eq a.fst x)
 |26=>.int a.rlen
 |27=>.bool (U.typs a.snd.toL a.fst.toL [])
 |28=>.bx a.fst.fst.adr a.fst.snd.toI.toNat a.fst.fst.rcap a.snd.toL
 |29=>.int ((a.fst.toI.toNat-a.snd.toI.toNat:Nat):Int)
 |30=>.bx none 0 0 []
 |31=>.bool a.adr.isNone
 |32=>(d5 a.snd.fst.toI a.fst.toL).getD a.snd.snd
 |33=>.bool (d5 a.snd.toI a.fst.toL).isSome
 |34=>.lst (gv a.snd.fst.toI a.snd.snd a.fst.toL)
 |35=>.lst (vf a.snd.toI a.fst.toL)
 |36=>.lst ((dk (a.toL.map fun u=>u.fst.toI)).map U.int)
 |37=>.lst (a.toL.map U.fst)
 |38=>.int (akn a.snd a.fst.toL 0)
 |39=>.bool (aYT a.toL)
 |40=>.lst ((dk (a.toL.map U.toI)).map U.int)
 |42=>.int ((U.size a:Nat):Int)
 |41=>.str ⟨(a.toL.map fun u=>UInt8.ofNat u.toI.toNat).toArray⟩
 |_=>.int 0
end Go.SX

namespace Go.SX
def bI(u:U):List Int:=u.toL.map U.toI
def bC(n:Nat):Nat:=n
def cX(X:U)(j:Nat):U:=X.toL.getD j (.int 0)
def iX(X:U)(j:Nat):Int:=(cX X j).toI
def nI(l:List U)(j:Nat):Int:=(l.getD j (.int 0)).toI
def dh(a x b:Int):Bool:=decide (a<=x/\x<=b)
def HJ(a b:Int):Bool:=dh 0 a 500&&dh 0 b 1&&(a==0||b==0)
def B2(l:List U)(n:Nat):Bool:=(List.range n).all fun i=>HJ (nI l (i*2)) (nI l (i*2+1))
def qn(p i c t:Int)(l:List U)(q:Bool):Bool:=
 dh 0 p 1&&dh 1 i 500&&dh 0 c 399&&dh (-1) t 1&&decide (l.length/2<=4)&&(decide (t<0)||l.length/2==0)&&(!q||decide (0<=t))&&B2 l (l.length/2)
def yf(l:List U)(q:Bool)(n:Nat):Bool:=(List.range n).all fun i=>qn (nI l (i*5)) (nI l (i*5+1)) (nI l (i*5+2)) (nI l (i*5+3)) (l.getD (i*5+4) (.int 0)).toL q
def bg(X:U)(k:Nat):List Int:=bI (cX X (6+14*(k/4)+k%4))
def nu(X:U)(k:Nat):List (Int×Int):=(List.range k).flatMap fun z=>(bg X z).map fun i=>(i,((z/4:Nat):Int))
def fV(X:U)(k i:Nat):List (Int×Int):=nu X k++((bg X k).take i).map fun x=>(x,((k/4:Nat):Int))
def lf(X:U)(s:Nat):List Nat:=(List.range s).filter fun i=>decide (nI (cX X 29).toL (i*5+3)<0)
def kf(X:U)(s:Nat):List (Int×Int):=(lf X s).map fun i=>(nI (cX X 29).toL (i*5+1),nI (cX X 29).toL (i*5))
def jv(X:U)(s:Nat):List (Int×Int):=(lf X s).map fun i=>(nI (cX X 29).toL (i*5+1),nI (cX X 29).toL (i*5+2))
def kc(m:List U):List (Int×Int):=m.map fun u=>(u.fst.toI,u.snd.toI)
def qv(l:List Int):Bool:=match l with | []=>true | x::l=>!l.contains x&&qv l
def jn(m:List U)(l:List (Int×Int)):Bool:=kc m==l&&qv (l.map Prod.fst)
def aJ(X:U):Nat:=(cX X 0).toL.length/12
def cy(X:U):Nat:=(cX X 29).toL.length/5
def oI(X:U)(i j:Nat):Int:=nI (cX X 0).toL (i*12+j)
def So(a0 a1 a2 a3 a4 a5 a6 a7 a8:Int):Bool:=
 dh 1 a0 500&&dh (-1) a1 399&&dh 0 a2 1&&(a1 == -1||(a3==0&&a4==0))&&[a3,a4,a5,a6,a7,a8].all fun j=>dh 0 j 99
def vo(X:U)(i:Nat):Bool:=
 dh 1 (oI X i 0) 500&&dh (-1) (oI X i 1) 399&&dh 0 (oI X i 2) 1&&(oI X i 1 == -1||(oI X i 3==0&&oI X i 4==0))&&[3,4,5,6,7,8].all fun j=>dh 0 (oI X i j) 99
def dg(X:U):List (Int×Int):=fV X 8 0++kf X (cy X)
def gu(l:List (Int×Int))(k:Int):Option Int:=(l.find? fun p=>p.1==k).map Prod.snd
def yG(X:U)(n:Nat):Bool:=(List.range n).all fun i=>vo X i&&(i==0||decide (oI X (i-1) 0<oI X i 0))&&gu (dg X) (oI X i 0)==some (oI X i 2)&&(match gu (jv X (cy X)) (oI X i 0)with | none=>true | some c=>c==oI X i 1)
def du(X:U):Bool:=qv ((dg X).map Prod.fst)&&yG X (aJ X)&&(dg X).length==aJ X
def cO(X:U)(k:Int)(n:Nat):Int:=match (List.range n).find? fun i=>oI X i 0==k with | some i=>((i:Nat):Int) | none=>-1
def uO(X:U)(p:Nat)(q:Nat)(k:Int):Nat:=((List.range q).flatMap fun z=>bg X (4*p+z)).count k
def rE(X:U)(p:Int)(k:Int)(s:Nat):Nat:=((List.range s).filter fun i=>nI (cX X 29).toL (i*5+3) == -1&&nI (cX X 29).toL (i*5+1)==k&&nI (cX X 29).toL (i*5)==p).length
def sd(X:U)(p:Nat)(k:Int):Nat:=uO X p 4 k+rE X p k (cy X)
def zf(X:U)(s:Nat):Bool:=(lf X s).all fun i=>decide (0<=cO X (nI (cX X 29).toL (i*5+1)) (aJ X))&&oI X (cO X (nI (cX X 29).toL (i*5+1)) (aJ X)).toNat 1==nI (cX X 29).toL (i*5+2)
def yH(X:U)(n:Nat):Bool:=(List.range n).all fun i=>vo X i&&(i==0||decide (oI X (i-1) 0<oI X i 0))&&sd X (oI X i 2).toNat (oI X i 0)==1
def Dd(X:U):Nat:=((List.range 8).map fun z=>(bg X z).length).sum+(lf X (cy X)).length
def uY(X:U):Bool:=zf X (cy X)&&yH X (aJ X)&&Dd X==aJ X
def eB(X:U):Nat:=(iX X 34).toNat
def iC(X:U):List Int:=bg X (4*eB X+2)
def gA(X:U):List Int:=bg X (4*(1-eB X)+2)
def bn(X:U):List Int:=bI (cX X 31)
def blk(X:U)(i j:Nat):Int:=nI (cX X 32).toL (i*2+j)
def fe(X:U):Nat:=(cX X 32).toL.length/2
def lA(X:U)(n:Nat):Bool:=qv ((bn X).take n)&&((bn X).take n).all fun a=>(iC X).contains a
def dM(X:U)(n:Nat)(j:Nat):List Int:=(List.range n).map fun i=>blk X i j
def mM(X:U)(n:Nat):Bool:=qv (dM X n 1)&&qv (dM X n 0)&&(List.range n).all fun i=>(bn X).contains (blk X i 1)&&(gA X).contains (blk X i 0)
def jT(X:U):Bool:=lA X (bn X).length&&mM X (fe X)
def ju(m:List U)(k:Int):Bool:=((d5 k m).getD (.bool false)).toB
def si(X:U)(n j:Nat)(k:Int):Bool:=match decide (0<k)with
 |true=>((bn X).take n).contains k && !(dM X j 1).contains k
 |false=>(dM X j 0).contains (-k)
def kd(X:U)(m:List U)(n j:Nat):Bool:=
 ((m.map fun u=>u.fst.toI)++bn X++(dM X (fe X) 0).map (fun k=>-k)).all fun k=>ju m k==si X n j k
def uH(X:U)(n:Nat):Bool:=(List.range n).all fun i=>(bn X).count (nI (cX X 31).toL i)==1&&(iC X).count (nI (cX X 31).toL i)==1
def xB(X:U)(i k:Nat):Bool:=(List.range k).all fun q=>!(blk X q 1==blk X i 1) && !(blk X q 0==blk X i 0)
def xC(X:U)(n:Nat):Bool:=(List.range n).all fun i=>(bn X).count (blk X i 1)==1&&(gA X).count (blk X i 0)==1&&xB X i i
def uR(X:U):Bool:=uH X (bn X).length&&xC X (fe X)
def sg(X:U)(p:Nat):Bool:=dh 0 (iX X (1+14*p)) 9999&&([2,3,4,5].all fun j=>dh 0 (iX X (j+14*p)) 99)&&dh 0 (iX X (13+14*p)) 7&&dh 0 (iX X (14+14*p)) 255
def yE(X:U):Bool:=dh 0 (iX X 34) 1&&dh 0 (iX X 33) 1000&&dh 0 (iX X 35) 10&&dh (-1) (iX X 36) 1&&dh 0 (iX X 37) 2&&decide (aJ X<=500)&&decide (cy X<=200)&&decide ((cX X 30).toL.length/5<=200)
def ye(X:U):Bool:=yf (cX X 29).toL false (cy X)&&yf (cX X 30).toL true ((cX X 30).toL.length/5)
def vP(X:U):Bool:=yE X&&sg X 0&&sg X 1&&ye X&&du X&&jT X
def qE(X:U):Bool:=yE X&&sg X 0&&sg X 1&&ye X&&uY X&&uR X
def kOu:List U:=[.int 3,.int 3,.int 3,.int 3,.int 3,.int 3,.int 3,.int 3,.int 3,.int 8,.int 8,.int 8]
def kTu:List U:=[.int 3,.int 3]
def I1:List U:=[.int 3,.int 3,.int 3,.int 3,.lst kTu]
def kSu:List U:=[.int 3,.int 3,.int 3,.int 3,.int 3,.lst [.int 3],.lst [.int 3],.lst [.int 3],.lst [.int 3],.int 8,.int 8,.int 8,.int 3,.int 3]
def qo:List U:=.lst kOu::(kSu++(kSu++[.lst I1,.lst I1,.lst [.int 3],.lst kTu,.int 3,.int 3,.int 3,.int 3,.int 3]))
def eO(l:List U)(n:Nat):Bool:=(List.range n).all fun i=>decide ((l.getD (i*5+4) (.int 0)).toL.length/2<=6)
def k8(X:U):Bool:=
 ((List.range 8).all fun z=>decide ((bg X z).length<=40))&&decide (cy X<=20)&&decide ((cX X 30).toL.length/5<=20)&&eO (cX X 29).toL (cy X)&&eO (cX X 30).toL ((cX X 30).toL.length/5)&&decide (aJ X<=30)&&decide ((bn X).length<=30)&&decide (fe X<=30)
def eU(l:List U)(c:Int)(j:Nat):Int:=if 0<=c/\c<(l.length/14:Nat)then nI l (c.toNat*14+j)else 0
def dE(l:List U)(X:U)(p:Int)(n:Nat):List Int:=(List.range n).flatMap fun i=>
 let k:=eU l (oI X i 1) 1;let m:=eU l (oI X i 1) 7
 if oI X i 2==p && !((cX X 0).toL.getD (i*12+9) (.bool false)).toB&&k==1&&decide (0<=m)&&decide (m<4)&&(bg X (4*p.toNat+2)).contains (oI X i 0)then [oI X i 0,m] else []
def bw:List Int->List Int
 |a::_::l=>a::bw l
 |_=>[]
def jU(X:U)(p:Int):Bool:=dh 0 p 1&&qE X
def eH:List Int->List Int
 |_::b::l=>b::eH l
 |_=>[]
def aZT(m:List Int)(c:Int):List Int:=m.set c.toNat (min 99 (m.getD c.toNat 0+1))
def aZU(l:List U)(X:U)(p:Int)(n:Nat):List Int:=((eH (dE l X p (aJ X))).take n).foldl aZT ((List.range 4).map fun k=>iX X (2+14*p.toNat+k))
def kQ(l:List U)(X:U)(k:Int):Int:=
 let c:=oI X (cO X k (aJ X)).toNat 1
 if eU l c 1==1&&decide (0<=eU l c 7)&&decide (eU l c 7<4)then eU l c 7 else -1
def qC(l:List U)(X:U)(p:Int)(n:Nat):List Int:=((bg X (4*p.toNat+2)).take n).filter fun k=>decide (0<=kQ l X k) && !((cX X 0).toL.getD ((cO X k (aJ X)).toNat*12+9) (.bool false)).toB
def xW(l:List U)(n:Nat):Bool:=(List.range n).all fun i=>decide ((l.getD (i*2+1) (.int 0)).toL.length/5<=5)
def xV(e t:List U):Bool:=decide (e.length/5<=5)&&decide (t.length/2<=3)&&xW t (t.length/2)
def Jc(l:List U)(n:Nat):Bool:=(List.range n).all fun i=>xV (l.getD (i*14+11) (.int 0)).toL (l.getD (i*14+12) (.int 0)).toL
def gW(a:U):Nat->Int | 0=>a.fst.toI | n+1=>gW a.snd n
def bG(a:U)(i:Nat):U:=match i with | 0=>a.fst | n+1=>bG a.snd n
abbrev Pu:=List Int×List Int×List Int
def ka(k c:Int):Bool:=decide (k<0)||c==k
def bS(k:Int):List Int->Nat->Int
 |_::c::l,i=>if ka k c then(i:Nat)else bS k l (i+1)
 |_,_=>-1
def jx(i:Nat)(s:Pu):Pu:=(s.1,s.2.1.take (2*i)++s.2.1.drop (2*i+2),s.2.2++[s.2.1.getD (2*i) 0])
def hG(k:Int)(s:Pu):Option Pu:=if 0<=bS k s.2.1 0 then some (jx (bS k s.2.1 0).toNat s)else none
def gd(b:Nat)(s:Pu):Pu:=(s.1.set b (s.1.getD b 0-1),s.2)
def iD(k:Nat)(s:Pu):Option Pu:=if 0<s.1.getD k 0 then some (gd k s)else hG k s
def gq(m:List Int):Nat:=[1,2,3].foldl (fun b k=>if m.getD b 0<m.getD k 0 then k else b) 0
def fU(s:Pu):Option Pu:=if 0<s.1.getD (gq s.1) 0 then some (gd (gq s.1) s)else hG (-1) s
def dN(f:Pu->Option Pu):Nat->Pu->Option Pu
 |0,s=>some s
 |n+1,s=>(dN f n s).bind f
def gY(c:List Int):Nat->Pu->Option Pu
 |0,s=>some s
 |k+1,s=>(gY c k s).bind (dN (iD k) (bC (c.getD k 0).toNat))
def gh(k:Nat):Pu->Option Pu:=if k<4 then iD k else fU
def bN(c:List Int)(k n:Nat)(s:Pu):Option Pu:=(gY c k s).bind (dN (gh k) n)
def sf(l:List U)(X:U)(p:Int):Pu:=((List.range 4).map (fun k=>iX X (2+14*p.toNat+k)),dE l X p (aJ X),[])
def jX(a:U):List Int:=[gW a 0,gW a 1,gW a 2,gW a 3]
def skip(n:Nat)(a:U):U:=match n with | 0=>a | n+1=>(skip n a).snd
def DC(a:U):Pu:=(jX a,bI (bG a 4),bI (bG a 5))
def qw(a:U):Pu:=sf (bG a 0).toL (bG a 1) (bG a 2).toI
def Qk(c:List Int)(any:Int):Bool:=(c.all fun x=>dh 0 x 20)&&dh 0 any 20
def g9(a b:List U):Bool:=a.length/5==b.length/5&&U.eqs (a.take (a.length/5*5)) (b.take (b.length/5*5))
def gD(j:Nat)(a b:U):Bool:=if j==29||j==30 then g9 a.toL b.toL else if [0,6,7,8,9,20,21,22,23,31,32].contains j then U.eq a b else if [10,11,12,24,25,26].contains j then a.toB==b.toB else a.toI==b.toI
def a1e(Y X:U):Bool:=(List.range 38).all fun j=>gD j (cX Y j) (cX X j)
def aYf(l:List U)(X:U)(k:Int)(x:List Int):Int:=(x.find? fun id=>kQ l X id==k).getD 0
def eN:U->Bool
 |.bx _ _ _ _=>true
 |.lst _=>true
 |_=>false
def gV(l:List U):Bool:=(List.range l.length).all fun i=>!(i%5==4)||eN (l.getD i (.int 0))
def xD(X:U):Bool:=X.toL.length==38&&[0,6,7,8,9,20,21,22,23,29,30,31,32].all (fun j=>eN (cX X j))&&(gV (cX X 29).toL&&gV (cX X 30).toL)
def Kk(Y X:U):Bool:=(List.range 38).all fun j=>if j==0 then true else if j==29||j==30 then g9 (cX Y j).toL (cX X j).toL&&(eN (cX Y j)&&gV (cX Y j).toL)else U.eq (cX Y j) (cX X j)
def fg(L:List Int)(n:Nat)(l:List U):List U:=
 (List.range l.length).map fun j=>if j%12==9&&decide (j/12<n)&&L.contains (l.getD (j/12*12) (.int 0)).toI then .bool true else l.getD j (.int 0)
def oT(Y X:U)(p:Nat)(m:List Int):Bool:=(List.range 38).all fun j=>
 if j==0 then true
 else if j==29||j==30 then g9 (cX Y j).toL (cX X j).toL&&(eN (cX Y j)&&gV (cX Y j).toL)
 else if decide (2+14*p<=j)&&decide (j<6+14*p)then iX Y j==m.getD (j-(2+14*p)) 0 else U.eq (cX Y j) (cX X j)
def oH(Y X:U)(p:Nat)(L m:List Int):Bool:=U.eqs (cX Y 0).toL (fg L (aJ X) (cX X 0).toL)&&oT Y X p m
def sn:List Int->Bool
 |a::b::l=>decide (a<=b)&&sn (b::l)
 |_=>true
def aW6(l:List Int)(x:Int)(i j:Nat):Bool:=((l.take i).all fun y=>decide (y<x))&&((l.drop j).all fun y=>decide (x<=y))
def gy:List Nat:=[1,2,3,4,5,10,11,12,13,14,15,16,17,18,19,24,25,26,27,28,33,34,35,36,37]
def lV:List Nat:=[0,6,7,8,9,20,21,22,23,29,30,31,32]
def qA(W Y:U)(l:Nat->U):Bool:=(List.range 38).all fun j=>match lV.idxOf? j with
 |some i=>if j==29||j==30 then g9 (cX W j).toL (l i).toL else U.eqs (cX W j).toL (l i).toL
 |none=>gD j (cX W j) (cX Y (gy.idxOf j))
def qD(Y X:U)(p:Nat)(m:List Int):Bool:=(List.range 25).all fun k=>let j:=gy.getD k 0
 if decide (2+14*p<=j)&&decide (j<6+14*p)then iX Y k==m.getD (j-(2+14*p)) 0 else U.eq (cX Y k) (cX X j)
def a0r(f:Nat)(a:U):U:=
 match f with
 |101=>.bool (B2 a.fst.toL (bC a.snd.toI.toNat))
 |102=>.bool (qn a.fst.toI a.snd.fst.toI a.snd.snd.fst.toI a.snd.snd.snd.fst.toI a.snd.snd.snd.snd.fst.toL a.snd.snd.snd.snd.snd.toB)
 |103=>.bool (yf a.fst.toL a.snd.fst.toB (bC a.snd.snd.toI.toNat))
 |104=>.bool (jn a.fst.toL (fV a.snd.fst (bC (a.snd.snd.fst.toI.toNat*4+a.snd.snd.snd.fst.toI.toNat)) (bC a.snd.snd.snd.snd.toI.toNat)))
 |105=>.bool (jn a.fst.toL (fV a.snd.fst 8 0++kf a.snd.fst (bC a.snd.snd.toI.toNat)))
 |106=>.bool (jn a.fst.toL (jv a.snd.fst (bC a.snd.snd.toI.toNat)))
 |107=>.bool (yG a.fst (bC a.snd.toI.toNat))
 |108=>.bool (du a)
 |109=>.bool (bI a.fst==bg a.snd.fst (a.snd.snd.fst.toI.toNat*4+a.snd.snd.snd.toI.toNat))
 |110=>.bool (jT a)
 |111=>.bool (lA a.fst (bC a.snd.toI.toNat))
 |112=>.bool (mM a.fst (bC a.snd.toI.toNat))
 |113=>.bool (kd a.snd.fst a.fst.toL (bC a.snd.snd.fst.toI.toNat) (bC a.snd.snd.snd.toI.toNat))
 |114=>.bool ((bI a.fst).contains a.snd.toI)
 |115=>.bool (vP a)
 |116=>.bool (xD a)
 |117=>.bool (k8 a)
 |120=>.int (cO a.fst a.snd.fst.toI (bC a.snd.snd.toI.toNat))
 |121=>.int ((bI a.fst).count a.snd.toI:Nat)
 |122=>.int (sd a.fst a.snd.fst.toI.toNat a.snd.snd.toI:Nat)
 |123=>.bool (zf a.fst (bC a.snd.toI.toNat))
 |124=>.bool (yH a.fst (bC a.snd.toI.toNat))
 |125=>.bool (uY a)
 |126=>.bool (uH a.fst (bC a.snd.toI.toNat))
 |127=>.bool (xC a.fst (bC a.snd.toI.toNat))
 |128=>.bool (xB a.fst (bC a.snd.fst.toI.toNat) (bC a.snd.snd.toI.toNat))
 |129=>.bool (uR a)
 |130=>.bool (qE a)
 |131=>.int ((((bI a.fst).take (bC a.snd.snd.toI.toNat)).count a.snd.fst.toI:Nat))
 |132=>.int (uO a.fst a.snd.fst.toI.toNat (bC a.snd.snd.fst.toI.toNat) a.snd.snd.snd.toI:Nat)
 |133=>.int (rE a.fst a.snd.fst.toI a.snd.snd.fst.toI (bC a.snd.snd.snd.toI.toNat):Nat)
 |134=>.int ((((List.range (bC a.snd.toI.toNat)).map fun z=>(bg a.fst z).length).sum:Nat))
 |135=>.int (((lf a.fst (bC a.snd.toI.toNat)).length:Nat))
 |136=>.bool ((bn a.fst).count (blk a.fst (bC a.snd.toI.toNat) 1)==1&&(gA a.fst).count (blk a.fst (bC a.snd.toI.toNat) 0)==1)
 |137=>.bool (So (gW a 0) (gW a 1) (gW a 2) (gW a 3) (gW a 4) (gW a 5) (gW a 6) (gW a 7) a.snd.snd.snd.snd.snd.snd.snd.snd.toI)
 |141=>.int (eU a.fst.toL a.snd.toI 1)
 |142=>.int (eU a.fst.toL a.snd.toI 7)
 |143=>.bool (bI a.fst==dE a.snd.fst.toL a.snd.snd.fst a.snd.snd.snd.fst.toI (bC a.snd.snd.snd.snd.toI.toNat))
 |144=>.bool (bI a.fst==bw (dE a.snd.fst.toL a.snd.snd.fst a.snd.snd.snd.toI (aJ a.snd.snd.fst)))
 |145=>.bool (jU a.fst a.snd.toI)
 |146=>.bool ([0,1,2,3].all (fun k=>dh 0 (gW a k) 20)&&dh 0 (a.snd.snd.snd.snd.toI) 20)
 |147=>.bool ([gW a 0,gW a 1,gW a 2,gW a 3]==(let a:=a.snd.snd.snd.snd;aZU a.fst.toL a.snd.fst a.snd.snd.fst.toI (bC a.snd.snd.snd.toI.toNat)))
 |148=>.bool (bI a.fst==(bw (bI a.snd.fst)).take (bC a.snd.snd.toI.toNat))
 |150=>.int (kQ a.fst.toL a.snd.fst a.snd.snd.toI)
 |151=>.bool (bI a.fst==qC a.snd.fst.toL a.snd.snd.fst a.snd.snd.snd.fst.toI (bC a.snd.snd.snd.snd.toI.toNat))
 |152=>.bool (bI a.fst==dk ((bI a.snd.fst).take (bC a.snd.snd.toI.toNat)))
 |155=>.bool (Jc a.fst.toL (bC a.snd.toI.toNat))
 |156=>.bool (xV a.fst.toL a.snd.toL)
 |157=>.bool (xW a.fst.toL (bC a.snd.toI.toNat))
 |158=>.bool (eO a.fst.toL (bC a.snd.toI.toNat))
 |159=>.bool ((List.range 8).all fun z=>decide ((bg a z).length<=40))
 |160=>.bool (((bI a.fst).take (bC a.snd.snd.toI.toNat)).all fun x=>decide (x<a.snd.fst.toI))
 |161=>.bool ((bI a.fst).take (bC a.snd.snd.toI.toNat)==(bI a.snd.fst).take (bC a.snd.snd.toI.toNat))
 |170=>.bool ((dN (gh (bG a 6).toI.toNat) (bC (bG a 7).toI.toNat) (DC (skip 8 a))).any fun s=>s==DC a)
 |171=>.bool ((dN (gh (bG a 0).toI.toNat) (bC (bG a 1).toI.toNat) (DC (skip 2 a))).isNone)
 |174=>.bool ((hG (bG a 2).toI ([],bI (bG a 3),bI (bG a 4))).any fun s=>s==([],bI (bG a 0),bI (bG a 1)))
 |175=>.int (bS a.fst.toI ((bI a.snd.fst).take (2*bC a.snd.snd.toI.toNat)) 0)
 |176=>.bool ((bN (jX (skip 8 a)) (bC (bG a 6).toI.toNat) (bC (bG a 7).toI.toNat) (qw (skip 12 a))).any fun s=>s==DC a)
 |177=>.bool ((bN (jX (skip 2 a)) (bC (bG a 0).toI.toNat) (bC (bG a 1).toI.toNat) (qw (skip 6 a))).isNone)
 |178=>.bool ((bN (jX (skip 8 a)) (bC (bG a 6).toI.toNat) (bC (bG a 7).toI.toNat) (qw (skip 12 a))).any fun s=>(s.1,bw s.2.1,s.2.2)==DC a)
 |179=>.int (aYf (bG a 2).toL (bG a 3) (bG a 1).toI (bI (bG a 0)))
 |181=>.bool (U.eqs (a.fst.toL.take (bC a.snd.snd.toI.toNat)) (a.snd.fst.toL.take (bC a.snd.snd.toI.toNat)))
 |182=>.bool (jU (bG a 6) (bG a 7).toI&&Qk (jX a) (bG a 4).toI&&(bN (jX a) 4 (bC (bG a 4).toI.toNat) (qw (skip 5 a))).isSome)
 |183=>.bool ((bN (jX (skip 5 a)) 4 (bC (bG a 9).toI.toNat) (qw (skip 10 a))).any fun s=>s.1==jX a&&dk s.2.2==bI (bG a 4))
 |185=>.bool ((jX a).getD (bG a 4).toI.toNat 0==0)
 |186=>.bool (bI a.fst==(bI a.snd.fst).take (2*bC a.snd.snd.toI.toNat)++(bI a.snd.fst).drop (2*bC a.snd.snd.toI.toNat+2))
 |188=>.bool ((jX a).all fun x=>dh 0 x 99)
 |187=>.bool (g9 a.fst.toL a.snd.toL)
 |189=>.bool (a1e a.fst a.snd)
 |190=>.bool (gV a.toL)
 |200=>.bool (U.eqs a.fst.toL a.snd.toL)
 |201=>.bool (eN a)
 |199=>.bool ((bN (jX (skip 2 a)) 4 (bC (bG a 6).toI.toNat) (qw (skip 7 a))).any fun s=>dk s.2.2==bI (bG a 1)&&oT a.fst (bG a 8) (bG a 9).toI.toNat s.1)
 |198=>.bool ((bN (jX (skip 1 a)) 4 (bC (bG a 5).toI.toNat) (qw (skip 6 a))).any fun s=>oH a.fst (bG a 7) (bG a 8).toI.toNat (dk s.2.2) s.1)
 |196=>.bool (Kk a.fst a.snd)
 |195=>.bool (eN a&&gV a.toL)
 |191=>.bool (U.eqs a.fst.toL (fg (bI (bG a 2)) (bC a.snd.snd.snd.toI.toNat) (bG a 1).toL))
 |193=>.bool (sn (bI a))
 |194=>.bool (aW6 (bI a.fst) (bG a 1).toI (bC (bG a 2).toI.toNat) (bC a.snd.snd.snd.toI.toNat))
 |184=>.bool (bI a.fst==((bI a.snd.fst).take (bC a.snd.snd.snd.toI.toNat)).filter fun x=>!(x==a.snd.snd.fst.toI))
 |220=>.bool (U.eqs a.fst.toL (fg ((bI (bG a 2)).take (bC a.snd.snd.snd.toI.toNat)) ((bG a 1).toL.length/12) (bG a 1).toL))
 |221=>.bool (qA a.fst a.snd.fst fun i=>bG a (2+i))
 |218=>.bool ((bN (jX (skip 2 a)) 4 (bC (bG a 6).toI.toNat) (qw (skip 7 a))).any fun s=>dk s.2.2==bI (bG a 1)&&qD a.fst (bG a 8) (bG a 9).toI.toNat s.1)
 |219=>.bool ((bN (jX (skip 2 a)) 4 (bC (bG a 6).toI.toNat) (qw (skip 7 a))).any fun s=>U.eqs (bG a 1).toL (fg (dk s.2.2) (aJ (bG a 8)) (cX (bG a 8) 0).toL)&&qD a.fst (bG a 8) (bG a 9).toI.toNat s.1)
 |_=>.int 0
end Go.SX

namespace Go.SX
noncomputable section
inductive T (G:Type) where
 |nil
 |node (v:G) (l r:T G)
 deriving Inhabited
noncomputable def T.get{G:Type}(t:T G):Nat->Option G:=
 T.rec (motive:=fun _=>Nat->Option G) (fun _=>none) (fun v _ _ gl gr n=>
  Nat.rec (some v) (fun n _=>Bool.rec (gr (Nat.div n 2)) (gl (Nat.div n 2)) (Nat.beq (Nat.mod n 2) 0)) n) t
noncomputable def T.set{G:Type}(t:T G):Nat->G->T G:=
 T.rec (motive:=fun _=>Nat->G->T G) (fun _ _=>T.nil) (fun v l r sl sr n x=>
  Nat.rec (T.node x l r) (fun n _=>Bool.rec (T.node v l (sr (Nat.div n 2) x)) (T.node v (sl (Nat.div n 2) x) r) (Nat.beq (Nat.mod n 2) 0)) n) t
noncomputable def T.setK{G O:Type}(t:T G):Nat->G->(T G->O)->O:=
 T.rec (motive:=fun _=>Nat->G->(T G->O)->O) (fun _ _ k=>k T.nil) (fun v l r sl sr n x k=>
  Nat.rec (k (T.node x l r)) (fun n _=>Bool.rec (sr (Nat.div n 2) x fun r'=>k (T.node v l r')) (sl (Nat.div n 2) x fun l'=>k (T.node v l' r)) (Nat.beq (Nat.mod n 2) 0)) n) t
noncomputable def T.ins{G:Type}(t:T G):Nat->G->T G:=
 T.rec (motive:=fun _=>Nat->G->T G) (fun n x=>Nat.rec (T.node x T.nil T.nil) (fun _ _=>T.nil) n) (fun v l r sl sr n x=>
  Nat.rec (T.node x l r) (fun n _=>Bool.rec (T.node v l (sr (Nat.div n 2) x)) (T.node v (sl (Nat.div n 2) x) r) (Nat.beq (Nat.mod n 2) 0)) n) t
noncomputable def T.insK{G O:Type}(t:T G):Nat->G->(T G->O)->O:=
 T.rec (motive:=fun _=>Nat->G->(T G->O)->O) (fun n x k=>Nat.rec (k (T.node x T.nil T.nil)) (fun _ _=>k T.nil) n) (fun v l r sl sr n x k=>
  Nat.rec (k (T.node x l r)) (fun n _=>Bool.rec (sr (Nat.div n 2) x fun r'=>k (T.node v l r')) (sl (Nat.div n 2) x fun l'=>k (T.node v l' r)) (Nat.beq (Nat.mod n 2) 0)) n) t
noncomputable def T.all{G:Type}(p:G->Bool)(t:T G):Bool:=
 T.rec (motive:=fun _=>Bool) true (fun v _ _ a b=>Bool.rec false (Bool.rec false b a) (p v)) t
noncomputable def T.fill{G:Type}(v:G)(d:Nat):Nat->T G:=
 Nat.rec (motive:=fun _=>Nat->T G) (fun _=>T.nil) (fun _ ih n=>Nat.rec T.nil (fun m _=>T.node v (ih (Nat.div (Nat.succ m) 2)) (ih (Nat.div m 2))) n) d
noncomputable def T.putsK{G O:Type}(l:List G):Nat->T G->(T G->O)->O:=
 List.rec (motive:=fun _=>Nat->T G->(T G->O)->O) (fun _ t k=>k t) (fun x _ ih n t k=>T.setK t n x fun t'=>ih (Nat.succ n) t' k) l
noncomputable def T.addsK{G O:Type}(l:List G):Nat->T G->(T G->O)->O:=
 List.rec (motive:=fun _=>Nat->T G->(T G->O)->O) (fun _ t k=>k t) (fun x _ ih n t k=>T.insK t n x fun t'=>ih (Nat.succ n) t' k) l
def uX(f:Nat)(a:U):U:=match Nat.blt f 100 with | true=>zc f a | false=>a0r f a
inductive E where
 |int (n:Int) | bool (b:Bool) | str (s:ByteArray) | var (i:Nat)
 |ar (o:BinOp) (k:IntKind) (a b:E)
 |cmp (o:BinOp) (a b:E)
 |mn (a b:E) | mx (a b:E)
 |wr (k:IntKind) (a:E)
 |not (a:E) | and (a b:E) | seq (a b:E) | iff (a b:E) | imp (a b:E)
 |fn (f:Nat) (a:E) | pr (a b:E)
 deriving Inhabited
def od(o:BinOp)(k:IntKind)(x y:Int):Int:=
 match o with
 |.add=>k.wrap (x+y)
 |.sub=>k.wrap (x-y)
 |.mul=>k.wrap (x*y)
 |.quo=>k.wrap (x.tdiv y)
 |.rem=>x.tmod y
 |.and=>k.wrap (BitVec.ofInt k.bits x &&& BitVec.ofInt k.bits y).toNat
 |.or=>k.wrap (BitVec.ofInt k.bits x ||| BitVec.ofInt k.bits y).toNat
 |.xor=>k.wrap (BitVec.ofInt k.bits x ^^^ BitVec.ofInt k.bits y).toNat
 |.andNot=>k.wrap (BitVec.ofInt k.bits x &&& ~~~BitVec.ofInt k.bits y).toNat
 |.shl=>k.wrap (x*2^(min y.toNat k.bits))
 |.shr=>x.fdiv (2^(min y.toNat k.bits))
 |_=>0
def cB(o:BinOp)(x y:Int):Bool:=
 match o with
 |.eql=>x==y
 |.neq=>x != y
 |.lss=>decide (x<y)
 |.leq=>decide (x<=y)
 |.gtr=>decide (x>y)
 |.geq=>decide (x>=y)
 |_=>false
def qb:List UInt8->List UInt8->Bool
 |[],[]=>true
 |x::xs,y::ys=>match Nat.beq x.toNat y.toNat with | true=>qb xs ys | false=>false
 |_,_=>false
def lF(a b:ByteArray):Bool:=qb a.data.toList b.data.toList
def qr(x y:Int):Int:=if y<x then y else x
def mZ(x y:Int):Int:=if y>x then y else x
structure Bk where
 blk:Nat
 off:Nat
 alt:Option (Option Addr)
 deriving Inhabited
def Bk.nil(k:Bk):Bool:=k.alt.isSome
def Bk.base(k:Bk):Option Addr:=match k.alt with | some x=>x | none=>some ⟨k.blk,k.off,none⟩
structure Env where
 vs:List U
 bs:List Bk
 fz:Nat->Option Obj
def Env.of(vs:List U):Env:=⟨vs,[],fun _=>none⟩
def E.den(F:Env):E->U
 |.int n=>.int n
 |.bool b=>.bool b
 |.str s=>.str s
 |.var i=>F.vs.getD i (.int 0)
 |.ar o k a b=>.int (od o k (a.den F).toI (b.den F).toI)
 |.cmp o a b=>.bool (cB o (a.den F).toI (b.den F).toI)
 |.mn a b=>.int (qr (a.den F).toI (b.den F).toI)
 |.mx a b=>.int (mZ (a.den F).toI (b.den F).toI)
 |.wr k a=>.int (k.wrap (a.den F).toI)
 |.not a=>.bool (!(a.den F).toB)
 |.and a b=>.bool ((a.den F).toB&&(b.den F).toB)
 |.seq a b=>.bool (lF (a.den F).toS (b.den F).toS)
 |.iff a b=>.bool ((a.den F).toB==(b.den F).toB)
 |.imp a b=>.bool (!(a.den F).toB||(b.den F).toB)
 |.fn f a=>uX f (a.den F)
 |.pr a b=>.lst [a.den F,b.den F]
def E.I(F:Env)(e:E):Int:=(e.den F).toI
def E.B(F:Env)(e:E):Bool:=(e.den F).toB
def E.S(F:Env)(e:E):ByteArray:=(e.den F).toS
def E.L(F:Env)(e:E):List U:=(e.den F).toL
def ge:IntKind->IntKind->Bool
 |.i8,.i8 | .i16,.i16 | .i32,.i32 | .i64,.i64 | .u8,.u8 | .u16,.u16 | .u32,.u32 | .u64,.u64=>true
 |_,_=>false
def JA:BinOp->Nat
 |.add=>0 | .sub=>1 | .mul=>2 | .quo=>3 | .rem=>4 | .and=>5 | .or=>6 | .xor=>7 | .shl=>8 | .shr=>9 | .andNot=>10
 |.eql=>11 | .neq=>12 | .lss=>13 | .leq=>14 | .gtr=>15 | .geq=>16
def Su(a b:BinOp):Bool:=Nat.beq (JA a) (JA b)
def jW:Int->Int->Bool
 |.ofNat a,.ofNat b=>Nat.beq a b
 |.negSucc a,.negSucc b=>Nat.beq a b
 |_,_=>false
def rB:Bool->Bool->Bool
 |true,true=>true
 |false,false=>true
 |_,_=>false
def dC(a b:Bool):Bool:=match a with | true=>b | false=>false
noncomputable def E.on_int(b:E)(f:Int->Bool):Bool:=E.rec (motive:=fun _=>Bool) (fun x0=>f x0) (fun _=>false) (fun _=>false) (fun _=>false) (fun _ _ _ _ _ _=>false) (fun _ _ _ _ _=>false) (fun _ _ _ _=>false) (fun _ _ _ _=>false) (fun _ _ _=>false) (fun _ _=>false) (fun _ _ _ _=>false) (fun _ _ _ _=>false) (fun _ _ _ _=>false) (fun _ _ _ _=>false) (fun _ _ _=>false) (fun _ _ _ _=>false) b
noncomputable def E.on_bool(b:E)(f:Bool->Bool):Bool:=E.rec (motive:=fun _=>Bool) (fun _=>false) (fun x0=>f x0) (fun _=>false) (fun _=>false) (fun _ _ _ _ _ _=>false) (fun _ _ _ _ _=>false) (fun _ _ _ _=>false) (fun _ _ _ _=>false) (fun _ _ _=>false) (fun _ _=>false) (fun _ _ _ _=>false) (fun _ _ _ _=>false) (fun _ _ _ _=>false) (fun _ _ _ _=>false) (fun _ _ _=>false) (fun _ _ _ _=>false) b
noncomputable def E.on_str(b:E)(f:ByteArray->Bool):Bool:=E.rec (motive:=fun _=>Bool) (fun _=>false) (fun _=>false) (fun x0=>f x0) (fun _=>false) (fun _ _ _ _ _ _=>false) (fun _ _ _ _ _=>false) (fun _ _ _ _=>false) (fun _ _ _ _=>false) (fun _ _ _=>false) (fun _ _=>false) (fun _ _ _ _=>false) (fun _ _ _ _=>false) (fun _ _ _ _=>false) (fun _ _ _ _=>false) (fun _ _ _=>false) (fun _ _ _ _=>false) b
noncomputable def E.on_var(b:E)(f:Nat->Bool):Bool:=E.rec (motive:=fun _=>Bool) (fun _=>false) (fun _=>false) (fun _=>false) (fun x0=>f x0) (fun _ _ _ _ _ _=>false) (fun _ _ _ _ _=>false) (fun _ _ _ _=>false) (fun _ _ _ _=>false) (fun _ _ _=>false) (fun _ _=>false) (fun _ _ _ _=>false) (fun _ _ _ _=>false) (fun _ _ _ _=>false) (fun _ _ _ _=>false) (fun _ _ _=>false) (fun _ _ _ _=>false) b
noncomputable def E.on_ar(b:E)(f:BinOp->IntKind->E->E->Bool):Bool:=E.rec (motive:=fun _=>Bool) (fun _=>false) (fun _=>false) (fun _=>false) (fun _=>false) (fun x0 x1 x2 x3 _ _=>f x0 x1 x2 x3) (fun _ _ _ _ _=>false) (fun _ _ _ _=>false) (fun _ _ _ _=>false) (fun _ _ _=>false) (fun _ _=>false) (fun _ _ _ _=>false) (fun _ _ _ _=>false) (fun _ _ _ _=>false) (fun _ _ _ _=>false) (fun _ _ _=>false) (fun _ _ _ _=>false) b
noncomputable def E.on_cmp(b:E)(f:BinOp->E->E->Bool):Bool:=E.rec (motive:=fun _=>Bool) (fun _=>false) (fun _=>false) (fun _=>false) (fun _=>false) (fun _ _ _ _ _ _=>false) (fun x0 x1 x2 _ _=>f x0 x1 x2) (fun _ _ _ _=>false) (fun _ _ _ _=>false) (fun _ _ _=>false) (fun _ _=>false) (fun _ _ _ _=>false) (fun _ _ _ _=>false) (fun _ _ _ _=>false) (fun _ _ _ _=>false) (fun _ _ _=>false) (fun _ _ _ _=>false) b
noncomputable def E.on_mn(b:E)(f:E->E->Bool):Bool:=E.rec (motive:=fun _=>Bool) (fun _=>false) (fun _=>false) (fun _=>false) (fun _=>false) (fun _ _ _ _ _ _=>false) (fun _ _ _ _ _=>false) (fun x0 x1 _ _=>f x0 x1) (fun _ _ _ _=>false) (fun _ _ _=>false) (fun _ _=>false) (fun _ _ _ _=>false) (fun _ _ _ _=>false) (fun _ _ _ _=>false) (fun _ _ _ _=>false) (fun _ _ _=>false) (fun _ _ _ _=>false) b
noncomputable def E.on_mx(b:E)(f:E->E->Bool):Bool:=E.rec (motive:=fun _=>Bool) (fun _=>false) (fun _=>false) (fun _=>false) (fun _=>false) (fun _ _ _ _ _ _=>false) (fun _ _ _ _ _=>false) (fun _ _ _ _=>false) (fun x0 x1 _ _=>f x0 x1) (fun _ _ _=>false) (fun _ _=>false) (fun _ _ _ _=>false) (fun _ _ _ _=>false) (fun _ _ _ _=>false) (fun _ _ _ _=>false) (fun _ _ _=>false) (fun _ _ _ _=>false) b
noncomputable def E.on_wr(b:E)(f:IntKind->E->Bool):Bool:=E.rec (motive:=fun _=>Bool) (fun _=>false) (fun _=>false) (fun _=>false) (fun _=>false) (fun _ _ _ _ _ _=>false) (fun _ _ _ _ _=>false) (fun _ _ _ _=>false) (fun _ _ _ _=>false) (fun x0 x1 _=>f x0 x1) (fun _ _=>false) (fun _ _ _ _=>false) (fun _ _ _ _=>false) (fun _ _ _ _=>false) (fun _ _ _ _=>false) (fun _ _ _=>false) (fun _ _ _ _=>false) b
noncomputable def E.on_not(b:E)(f:E->Bool):Bool:=E.rec (motive:=fun _=>Bool) (fun _=>false) (fun _=>false) (fun _=>false) (fun _=>false) (fun _ _ _ _ _ _=>false) (fun _ _ _ _ _=>false) (fun _ _ _ _=>false) (fun _ _ _ _=>false) (fun _ _ _=>false) (fun x0 _=>f x0) (fun _ _ _ _=>false) (fun _ _ _ _=>false) (fun _ _ _ _=>false) (fun _ _ _ _=>false) (fun _ _ _=>false) (fun _ _ _ _=>false) b
noncomputable def E.on_and(b:E)(f:E->E->Bool):Bool:=E.rec (motive:=fun _=>Bool) (fun _=>false) (fun _=>false) (fun _=>false) (fun _=>false) (fun _ _ _ _ _ _=>false) (fun _ _ _ _ _=>false) (fun _ _ _ _=>false) (fun _ _ _ _=>false) (fun _ _ _=>false) (fun _ _=>false) (fun x0 x1 _ _=>f x0 x1) (fun _ _ _ _=>false) (fun _ _ _ _=>false) (fun _ _ _ _=>false) (fun _ _ _=>false) (fun _ _ _ _=>false) b
noncomputable def E.on_seq(b:E)(f:E->E->Bool):Bool:=E.rec (motive:=fun _=>Bool) (fun _=>false) (fun _=>false) (fun _=>false) (fun _=>false) (fun _ _ _ _ _ _=>false) (fun _ _ _ _ _=>false) (fun _ _ _ _=>false) (fun _ _ _ _=>false) (fun _ _ _=>false) (fun _ _=>false) (fun _ _ _ _=>false) (fun x0 x1 _ _=>f x0 x1) (fun _ _ _ _=>false) (fun _ _ _ _=>false) (fun _ _ _=>false) (fun _ _ _ _=>false) b
noncomputable def E.on_iff(b:E)(f:E->E->Bool):Bool:=E.rec (motive:=fun _=>Bool) (fun _=>false) (fun _=>false) (fun _=>false) (fun _=>false) (fun _ _ _ _ _ _=>false) (fun _ _ _ _ _=>false) (fun _ _ _ _=>false) (fun _ _ _ _=>false) (fun _ _ _=>false) (fun _ _=>false) (fun _ _ _ _=>false) (fun _ _ _ _=>false) (fun x0 x1 _ _=>f x0 x1) (fun _ _ _ _=>false) (fun _ _ _=>false) (fun _ _ _ _=>false) b
noncomputable def E.on_imp(b:E)(f:E->E->Bool):Bool:=E.rec (motive:=fun _=>Bool) (fun _=>false) (fun _=>false) (fun _=>false) (fun _=>false) (fun _ _ _ _ _ _=>false) (fun _ _ _ _ _=>false) (fun _ _ _ _=>false) (fun _ _ _ _=>false) (fun _ _ _=>false) (fun _ _=>false) (fun _ _ _ _=>false) (fun _ _ _ _=>false) (fun _ _ _ _=>false) (fun x0 x1 _ _=>f x0 x1) (fun _ _ _=>false) (fun _ _ _ _=>false) b
noncomputable def E.on_fn(b:E)(f:Nat->E->Bool):Bool:=E.rec (motive:=fun _=>Bool) (fun _=>false) (fun _=>false) (fun _=>false) (fun _=>false) (fun _ _ _ _ _ _=>false) (fun _ _ _ _ _=>false) (fun _ _ _ _=>false) (fun _ _ _ _=>false) (fun _ _ _=>false) (fun _ _=>false) (fun _ _ _ _=>false) (fun _ _ _ _=>false) (fun _ _ _ _=>false) (fun _ _ _ _=>false) (fun x0 x1 _=>f x0 x1) (fun _ _ _ _=>false) b
noncomputable def E.on_pr(b:E)(f:E->E->Bool):Bool:=E.rec (motive:=fun _=>Bool) (fun _=>false) (fun _=>false) (fun _=>false) (fun _=>false) (fun _ _ _ _ _ _=>false) (fun _ _ _ _ _=>false) (fun _ _ _ _=>false) (fun _ _ _ _=>false) (fun _ _ _=>false) (fun _ _=>false) (fun _ _ _ _=>false) (fun _ _ _ _=>false) (fun _ _ _ _=>false) (fun _ _ _ _=>false) (fun _ _ _=>false) (fun x0 x1 _ _=>f x0 x1) b
noncomputable def E.beq(a:E):E->Bool:=
 E.rec (motive:=fun _=>E->Bool)
  (fun n b=>b.on_int fun m=>jW n m)
  (fun x b=>b.on_bool fun y=>rB x y)
  (fun s b=>b.on_str fun t=>lF s t)
  (fun i b=>b.on_var fun j=>Nat.beq i j)
  (fun o k _ _ f g b=>b.on_ar fun o' k' a' b'=>dC (Su o o') (dC (ge k k') (dC (f a') (g b'))))
  (fun o _ _ f g b=>b.on_cmp fun o' a' b'=>dC (Su o o') (dC (f a') (g b')))
  (fun _ _ f g b=>b.on_mn fun a' b'=>dC (f a') (g b'))
  (fun _ _ f g b=>b.on_mx fun a' b'=>dC (f a') (g b'))
  (fun k _ f b=>b.on_wr fun k' a'=>dC (ge k k') (f a'))
  (fun _ f b=>b.on_not fun a'=>f a')
  (fun _ _ f g b=>b.on_and fun a' b'=>dC (f a') (g b'))
  (fun _ _ f g b=>b.on_seq fun a' b'=>dC (f a') (g b'))
  (fun _ _ f g b=>b.on_iff fun a' b'=>dC (f a') (g b'))
  (fun _ _ f g b=>b.on_imp fun a' b'=>dC (f a') (g b'))
  (fun n _ f b=>b.on_fn fun m a'=>dC (Nat.beq n m) (f a'))
  (fun _ _ f g b=>b.on_pr fun a' b'=>dC (f a') (g b')) a
def kM{O:Type}(n:Nat)(k:Nat->O):O:=
 match n with
 |0=>k 0
 |m+1=>k (m+1)
def dO(a b:Nat):Nat:=Nat.mod (Nat.add (Nat.mul a 1000003) b) 2305843009213693951
def aXA(n:Int):Nat:=match n with | .ofNat m=>Nat.mul 2 m | .negSucc m=>Nat.add (Nat.mul 2 m) 1
def aiR(k:IntKind):Nat:=match k with | .i8=>1 | .i16=>2 | .i32=>3 | .i64=>4 | .u8=>5 | .u16=>6 | .u32=>7 | .u64=>8
noncomputable def mO(a:E):Nat:=
 E.rec (motive:=fun _=>Nat)
  (fun n=>dO 3 (aXA n)) (fun x=>match x with | true=>5 | false=>7) (fun _=>11) (fun i=>dO 13 i)
  (fun o k _ _ f g=>dO (dO (dO (dO 17 (JA o)) (aiR k)) f) g)
  (fun o _ _ f g=>dO (dO (dO 19 (JA o)) f) g)
  (fun _ _ f g=>dO (dO 23 f) g)
  (fun _ _ f g=>dO (dO 29 f) g)
  (fun k _ f=>dO (dO 31 (aiR k)) f)
  (fun _ f=>dO 37 f)
  (fun _ _ f g=>dO (dO 41 f) g)
  (fun _ _ f g=>dO (dO 43 f) g)
  (fun _ _ f g=>dO (dO 47 f) g)
  (fun _ _ f g=>dO (dO 53 f) g)
  (fun n _ f=>dO (dO 59 n) f)
  (fun _ _ f g=>dO (dO 61 f) g) a
def Uf(x:E):Nat:=match x with | .imp _ c=>mO c | x=>mO x
def dq:E->E
 |.fn 6 (.pr c (.int _))=>c
 |e=>e
def bT1(x:E):Nat:=match x with
 |.cmp _ a b=>match b with
  |.int _=>mO (dq a)
  |_=>match a with
   |.int _=>mO (dq b)
   |_=>0
 |_=>0
def bT(x:E):Nat:=match x with | .not y=>bT1 y | y=>bT1 y
noncomputable def IA(n:Nat)(l:List E):List E:=List.rec (motive:=fun _=>List E) [] (fun x _ ih=>Bool.rec ih (x::ih) (Nat.beq (Uf x) n)) l
noncomputable def Iz(n:Nat)(l:List E):List E:=List.rec (motive:=fun _=>List E) [] (fun x _ ih=>Bool.rec ih (x::ih) (Nat.beq (mO x) n)) l
noncomputable def CE(n:Nat)(l:List E):List E:=List.rec (motive:=fun _=>List E) [] (fun x _ ih=>Bool.rec ih (x::ih) (Nat.beq (bT x) n)) l
def j9(o:BinOp)(k:IntKind)(a b:E):E:=
 match a,b with
 |.int x,.int y=>.int (od o k x y)
 |_,_=>.ar o k a b
def bz(a:E):E:=
 match a with
 |.bool b=>.bool (!b)
 |.not x=>x
 |_=>.not a
def fI:E->Int
 |.fn 6 (.pr _ (.int x))=>x
 |_=>0
def aL(o:BinOp)(a b:E):E:=
 match a,b with
 |.int x,.int y=>.bool (cB o x y)
 |_,_=>match (dq a).beq (dq b)with
  |true=>.bool (cB o (fI a) (fI b))
  |false=>match o with
   |.eql=>match a with
    |.int x=>.cmp .eql b (.int x)
    |a=>.cmp .eql a b
   |.neq=>match a with
    |.int x=>.not (.cmp .eql b (.int x))
    |a=>.not (.cmp .eql a b)
   |.gtr=>.cmp .lss b a
   |.leq=>.not (.cmp .lss b a)
   |.geq=>.not (.cmp .lss a b)
   |_=>.cmp o a b
def vg(a b:E):E:=
 match a,b with
 |.int x,.int y=>.int (qr x y)
 |_,_=>.mn a b
def qt(a b:E):E:=
 match a,b with
 |.int x,.int y=>.int (mZ x y)
 |_,_=>.mx a b
def vi(k:IntKind)(a:E):E:=
 match a with
 |.int x=>.int (k.wrap x)
 |_=>.wr k a
def Dk(a b:E):E:=
 match a with
 |.bool true=>match b with
  |.bool y=>.bool y
  |_=>.and a b
 |.bool false=>.bool false
 |_=>.and a b
def oD(a b:E):E:=
 match a,b with
 |.str x,.str y=>.bool (lF x y)
 |_,_=>.seq a b
def dr(a b:E):E:=
 match a,b with
 |.int x,.int y=>.int (x+y)
 |.int x,b=>match jW x 0 with
  |true=>b
  |false=>match b with
   |.fn 6 (.pr c (.int y))=>.fn 6 (.pr c (.int (x+y)))
   |_=>.fn 6 (.pr b (.int x))
 |.fn 6 (.pr c (.int x)),.int y=>.fn 6 (.pr c (.int (x+y)))
 |a,.int y=>match jW y 0 with
  |true=>a
  |false=>.fn 6 (.pr a (.int y))
 |a,b=>.fn 6 (.pr a b)
def kR(a b:E):E:=
 match a,b with
 |.int x,.int y=>.int (x-y)
 |.fn 6 (.pr c (.int x)),.int y=>match jW (x-y) 0 with
  |true=>c
  |false=>.fn 6 (.pr c (.int (x-y)))
 |a,.int y=>match jW y 0 with
  |true=>a
  |false=>.fn 6 (.pr a (.int (-y)))
 |a,b=>match a.beq b with
  |true=>.int 0
  |false=>.fn 7 (.pr a b)
def jo:E->E
 |.fn 2 (.pr l' x)=>jo l'
 |.fn 3 (.pr a b)=>dr (jo a) (jo b)
 |.fn 5 (.pr n x)=>qt n (.int 0)
 |.fn 10 _=>.int 0
 |.fn 11 _=>.int 1
 |.fn 21 (.pr r c)=>jo c
 |.fn 23 (.pr x r)=>dr (.int 1) (jo r)
 |.fn 28 (.pr r c)=>jo c
 |.fn 30 _=>.int 0
 |l=>.fn 0 l
def Km(v:E):E->Nat->Option E
 |.fn 23 (.pr x r),n=>match n with
  |0=>some (.fn 23 (.pr v r))
  |n+1=>match Km v r n with
   |some r'=>some (.fn 23 (.pr x r'))
   |none=>none
 |_,_=>none
def Li(i:Nat)(v:E):E->E
 |.fn 2 (.pr l (.pr (.int (.ofNat j)) u))=>match Nat.beq i j with
  |true=>.fn 2 (.pr l (.pr (.int (.ofNat i)) v))
  |false=>match Nat.blt i j with
   |true=>.fn 2 (.pr (Li i v l) (.pr (.int (.ofNat j)) u))
   |false=>.fn 2 (.pr (.fn 2 (.pr l (.pr (.int (.ofNat j)) u))) (.pr (.int (.ofNat i)) v))
 |l=>.fn 2 (.pr l (.pr (.int (.ofNat i)) v))
def kU(l i v:E):E:=
 match i with
 |.int (.ofNat n)=>match Km v l n with
  |some r=>r
  |none=>Li n v l
 |_=>.fn 2 (.pr l (.pr i v))
def dt:List E->E
 |[]=>.fn 10 (.int 0)
 |x::xs=>.fn 23 (.pr x (dt xs))
def IY:E->Bool
 |.fn 10 _=>true
 |.fn 30 _=>true
 |_=>false
def HP(b:E):E->Option E
 |.fn 23 (.pr x r)=>match HP b r with
  |some r'=>some (.fn 23 (.pr x r'))
  |none=>none
 |.fn 10 _=>some b
 |_=>none
def Jj(a b:E):E:=
 match IY b with
 |true=>a
 |false=>match HP b a with
  |some r=>r
  |none=>.fn 3 (.pr a b)
structure Off where
 base:Nat
 scale:Nat:=0
 idx:E:=.int 0
 deriving Inhabited
def Off.den(F:Env)(o:Off):Nat:=o.base+o.scale*(o.idx.I F).toNat
inductive CK where
 |int (k:IntKind) | bool | str | slc (ks:List CK)
 deriving Inhabited
mutual
def CK.beq:CK->CK->Bool
 |.int k,.int k'=>ge k k'
 |.bool,.bool=>true
 |.str,.str=>true
 |.slc a,.slc b=>iA a b
 |_,_=>false
def iA:List CK->List CK->Bool
 |[],[]=>true
 |x::xs,y::ys=>x.beq y&&iA xs ys
 |_,_=>false
end
def CK.val:CK->U->Value
 |.int k,u=>.int k u.toI
 |.bool,u=>.bool u.toB
 |.str,u=>.string u.toS
 |.slc _,u=>u.raw
inductive SlOk (fz:Nat->Option Obj):List CK->U->Prop
 |nil {ks:List CK}:SlOk fz ks (.bx none 0 0 [])
 |empty {ks:List CK} (a:Addr):SlOk fz ks (.bx (some a) 0 0 [])
 | mk {ks:List CK} {r off len cap:Nat} {l:List U} {arr:Array Value} {elem:TypeId} {fr:Nat×Nat} (hl:l.length=len*ks.length) (hc:len<=cap)
   (hz:l≠[]->fz r=some (.cells arr elem fr))
   (hv:∀(i:Nat)(u:U),l[i]?=some u->∃c,ks[i%ks.length]?=some c/\arr[off+i]?=some (c.val u))
   (hs:∀(i:Nat)(u:U)(ks':List CK),l[i]?=some u->ks[i%ks.length]?=some (.slc ks')->SlOk fz ks' u):
   SlOk fz ks (.bx (some ⟨r,off,none⟩) len cap l)
def CK.ok(fz:Nat->Option Obj):CK->U->Prop
 |.slc ks,u=>SlOk fz ks u
 |_,_=>True
inductive SV where
 |int (k:IntKind) (e:E) | bool (e:E) | str (e:E)
 |nilp | ptr (b:Nat) (o:Off)
 |nils | slice (b:Nat) (o:Off) (len cap:E)
 |nslice (b:Nat) (len cap:E)
 |bsl (ks:List CK) (e:E) | bptr (ks:List CK) (e idx:E) (j:Nat)
 |nilm | map (b:Nat)
 |nili | nilf | func (fn:Fn) (fi ca:List SV)
 |agg (cs:List SV) | tup (cs:List SV)
 |junk
 |nsl (b:Nat) (ks:List CK) (e i:E) (c:Nat) | nptr (b:Nat) (ks:List CK) (e i:E) (c:Nat) (x:E) (j:Nat)
 deriving Inhabited
def Env.blk(F:Env)(b:Nat):Nat:=(F.bs.getD b ⟨0,0,none⟩).blk
def Env.off(F:Env)(b:Nat):Nat:=(F.bs.getD b ⟨0,0,none⟩).off
def Env.nil(F:Env)(b:Nat):Bool:=(F.bs.getD b ⟨0,0,none⟩).nil
def Env.base(F:Env)(b:Nat):Option Addr:=(F.bs.getD b ⟨0,0,none⟩).base
def H7(u:U)(n:Nat):Option Addr:=match u.adr with | some a=>some ⟨a.block,a.off+n,none⟩ | none=>none
mutual
def SV.den(F:Env):SV->Value
 |.int k e=>.int k (e.I F)
 |.bool e=>.bool (e.B F)
 |.str e=>.string (e.S F)
 |.nilp=>.pointer none
 |.ptr b o=>.pointer (some ⟨F.blk b,F.off b+o.den F,none⟩)
 |.nils=>.slice none 0 0
 |.slice b o l c=>.slice (some ⟨F.blk b,F.off b+o.den F,none⟩) (l.I F).toNat (c.I F).toNat
 |.nslice b l c=>.slice (F.base b) (l.I F).toNat (c.I F).toNat
 |.bsl _ e=>(e.den F).raw
 |.bptr ks e i j=>.pointer (H7 (e.den F) ((i.I F).toNat*ks.length+j))
 |.nilm=>.map none
 |.map b=>.map (some (F.blk b))
 |.nili=>.nilIface
 |.nilf=>.nilFunc
 |.func fn fi ca=>.func fn (SV.dens F fi).toArray (SV.dens F ca).toArray
 |.agg cs=>.agg (SV.dens F cs).toArray
 |.tup cs=>.tuple (SV.dens F cs).toArray
 |.junk=>Go.undef
 |.nsl _ _ e _ _=>(e.den F).raw
 |.nptr _ ks e _ _ x j=>.pointer (H7 (e.den F) ((x.I F).toNat*ks.length+j))
def SV.dens(F:Env):List SV->List Value
 |[]=>[]
 |v::vs=>v.den F::SV.dens F vs
end
mutual
def SV.ok(F:Env):SV->Prop
 |.bsl ks e=>SlOk F.fz ks (e.den F)
 |.bptr ks e i _=>SlOk F.fz ks (e.den F)/\0<=i.I F/\((i.I F).toNat+1)*ks.length<=(e.L F).length/\0<ks.length
 |.func _ fi ca=>SV.oks F fi/\SV.oks F ca
 |.agg cs=>SV.oks F cs
 |.tup cs=>SV.oks F cs
 |.nptr _ ks e _ _ x _=>0<=x.I F/\0<ks.length/\∃(r len cap:Nat) (l:List U),e.den F=.bx (some ⟨r,0,none⟩) len cap l/\(x.I F).toNat<len
 |_=>True
def SV.oks(F:Env):List SV->Prop
 |[]=>True
 |v::vs=>v.ok F/\SV.oks F vs
end
def SV.undef:SV:=.tup []
structure Ent where
 k:SV
 v:SV
 born:E
 deriving Inhabited
inductive SObj where
 |gone
 |cells (cs:List SV) (ah:E) (elem:TypeId)
 |flat (ks:List CK) (l n ah:E) (elem:TypeId)
 |map (es:List Ent) (clk:E)
 |mapl (k:IntKind) (c:CK) (e:E)
 |maplp (k:IntKind) (c:CK) (e ke s:E)
 |iter (k:IntKind) (c:CK) (e left:E) (cur:Option E)
 |nest (ks:List CK) (l n ah:E) (elem:TypeId) (own:E)
 deriving Inhabited
structure Blk where
 own:Bool
 obj:SObj
 deriving Inhabited
structure St where
 nv:Nat
 nb:Nat
 heap:T Blk
 pc:List E
 deriving Inhabited
inductive Ex where
 |normal | exit (id:Nat) | ret
 deriving Inhabited
abbrev Tm:=T SV
structure Out where
 ex:Ex
 tmps:Tm
 st:St
 deriving Inhabited
noncomputable def E.scp(nv:Nat)(e:E):Bool:=
 E.rec (motive:=fun _=>Bool) (fun _=>true) (fun _=>true) (fun _=>true) (fun i=>Nat.blt i nv)
  (fun _ _ _ _ a b=>Bool.rec false b a) (fun _ _ _ a b=>Bool.rec false b a) (fun _ _ a b=>Bool.rec false b a) (fun _ _ a b=>Bool.rec false b a)
  (fun _ _ a=>a) (fun _ a=>a) (fun _ _ a b=>Bool.rec false b a) (fun _ _ a b=>Bool.rec false b a) (fun _ _ a b=>Bool.rec false b a) (fun _ _ a b=>Bool.rec false b a)
  (fun _ _ a=>a) (fun _ _ a b=>Bool.rec false b a) e
noncomputable def SV.scp(nv nb:Nat)(v:SV):Bool:=
 SV.rec (motive_1:=fun _=>Bool) (motive_2:=fun _=>Bool)
  (fun _ e=>e.scp nv) (fun e=>e.scp nv) (fun e=>e.scp nv) true (fun b o=>Bool.rec false (o.idx.scp nv) (Nat.blt b nb))
  true (fun b o l c=>Bool.rec false (Bool.rec false (Bool.rec false (c.scp nv) (l.scp nv)) (o.idx.scp nv)) (Nat.blt b nb))
  (fun b l c=>Bool.rec false (Bool.rec false (c.scp nv) (l.scp nv)) (Nat.blt b nb))
  (fun _ e=>e.scp nv) (fun _ e i _=>Bool.rec false (i.scp nv) (e.scp nv))
  true (fun b=>Nat.blt b nb) true true (fun _ _ _ a b=>Bool.rec false b a) (fun _ a=>a) (fun _ a=>a) true
  (fun b _ e i _=>Bool.rec false (Bool.rec false (i.scp nv) (e.scp nv)) (Nat.blt b nb)) (fun b _ e i _ x _=>Bool.rec false (Bool.rec false (Bool.rec false (x.scp nv) (i.scp nv)) (e.scp nv)) (Nat.blt b nb))
  true (fun _ _ a b=>Bool.rec false b a) v
noncomputable def SV.scps(nv nb:Nat)(l:List SV):Bool:=
 List.rec (motive:=fun _=>Bool) true (fun v _ b=>Bool.rec false b (v.scp nv nb)) l
def Du(nv nb:Nat):List Ent->Bool
 |[]=>true
 |x::es=>x.k.scp nv nb&&(x.v.scp nv nb&&(x.born.scp nv&&Du nv nb es))
def a0o(nv:Nat):Option E->Bool
 |none=>true
 |some e=>e.scp nv
def SObj.scp(nv nb:Nat):SObj->Bool
 |.gone=>true
 |.cells cs ah _=>ah.scp nv&&SV.scps nv nb cs
 |.flat _ l n ah _=>l.scp nv&&(n.scp nv&&ah.scp nv)
 |.map es clk=>Du nv nb es&&clk.scp nv
 |.mapl _ _ e=>e.scp nv
 |.maplp _ _ e ke s=>e.scp nv&&(ke.scp nv&&s.scp nv)
 |.iter _ _ e n cur=>e.scp nv&&(n.scp nv&&a0o nv cur)
 |.nest _ l n ah _ own=>l.scp nv&&(n.scp nv&&(ah.scp nv&&own.scp nv))
def JW(nv:Nat):List E->Bool
 |[]=>true
 |e::es=>e.scp nv&&JW nv es
def Blk.scp(nv nb:Nat)(b:Blk):Bool:=b.obj.scp nv nb
def St.scp(st:St):Bool:=JW st.nv st.pc&&T.all (Blk.scp st.nv st.nb) st.heap
def lg(nv nb:Nat)(t:Tm):Bool:=T.all (SV.scp nv nb) t
noncomputable def dV{G:Type}(l:List G):Nat->Option G:=
 List.rec (motive:=fun _=>Nat->Option G) (fun _=>none) (fun x _ g n=>Nat.rec (some x) (fun n _=>g n) n) l
noncomputable def oU{G:Type}(l:List G):Nat->Option (List G):=
 List.rec (motive:=fun _=>Nat->Option (List G)) (fun n=>Nat.rec (some []) (fun _ _=>none) n)
  (fun x _ g n=>Nat.rec (some []) (fun n _=>Option.rec none (fun l=>some (x::l)) (g n)) n) l
noncomputable def xO{G:Type}(l:List G):Nat->List G:=
 List.rec (motive:=fun _=>Nat->List G) (fun _=>[]) (fun x xs g n=>Nat.rec (x::xs) (fun n _=>g n) n) l
noncomputable def vr{G:Type}(cs:List G):List G->Option (List G):=
 List.rec (motive:=fun _=>List G->Option (List G)) (fun vs=>List.rec (some []) (fun _ _ _=>none) vs)
  (fun c cs g vs=>List.rec (some (c::cs)) (fun v vs _=>Option.rec none (fun l=>some (v::l)) (g vs)) vs) cs
noncomputable def vq{G:Type}(cs:List G):Nat->List G->Option (List G):=
 List.rec (motive:=fun _=>Nat->List G->Option (List G)) (fun n vs=>Nat.rec (vr [] vs) (fun _ _=>none) n)
  (fun c cs g n vs=>Nat.rec (vr (c::cs) vs) (fun n _=>Option.rec none (fun l=>some (c::l)) (g n vs)) n) cs
def SV.cells:SV->List SV
 |.agg cs=>cs
 |v=>[v]
def SV.one:SV->Bool
 |.agg _ | .tup _ | .junk=>false
 |_=>true
def uE:List SV->Bool
 |[]=>true
 |v::vs=>v.one&&uE vs
mutual
def ofVal:Value->Option SV
 |.bool b=>some (.bool (.bool b))
 |.int k n=>some (.int k (.int n))
 |.string s=>some (.str (.str s))
 |.pointer none=>some .nilp
 |.slice none n c=>if Nat.beq n 0&&Nat.beq c 0 then some .nils else none
 |.map none=>some .nilm
 |.nilFunc=>some .nilf
 |.nilIface=>some .nili
 |.agg cs=>match r9 cs.toList with | some l=>some (.agg l) | none=>none
 |_=>none
def r9:List Value->Option (List SV)
 |[]=>some []
 |v::vs=>match ofVal v,r9 vs with | some x,some l=>some (x::l) | _,_=>none
end
end
end Go.SX

namespace Go.SX
noncomputable section
structure Tmpl where
 tmps:Tm
 st:St
 less:E
 deriving Inhabited
structure LoopX where
 n0:Nat
 b0:Nat
 xs:List Out
 deriving Inhabited
structure Ann where
 fn:FuncId
 key:Nat
 ts:List Tmpl
 known:Option LoopX:=none
 deriving Inhabited
inductive NatR where
 |no | lack (e:E) | outs (l:List (SV×St))
structure Nat1 where
 fn:FuncId
 eff:List E->List SV->St->NatR
structure Tab where
 ty:T TypeInfo
 fn:T Func
 facts:List E
 anns:List Ann
 nats:List Nat1
def Tab.und(tb:Tab)(t:TypeId):Option TypeDesc:=
 match tb.ty.get t with
 |some i=>match i.desc with
  |.named _ u=>match tb.ty.get u with
   |some j=>some j.desc
   |none=>none
  |d=>some d
 |none=>none
def uC(o:Off)(n:Nat):Off:=⟨Nat.add o.base n,o.scale,o.idx⟩
def KD(tb:Tab)(t:TypeId):Option (List Field):=
 match tb.und t with
 |some (.struct fs)=>some fs.toList
 |_=>none
def cL(tb:Tab)(t:TypeId):Option Nat:=
 match tb.ty.get t with
 |some i=>some i.size
 |none=>none
def kN(tb:Tab)(t:TypeId):Option Bool:=
 match tb.und t with
 |some (.struct _)=>some true
 |some (.array _ _)=>some true
 |some _=>some false
 |none=>none
def nr(tb:Tab)(t:TypeId):Option SV:=
 match tb.ty.get t with
 |some i=>match i.zero with
  |some v=>ofVal v
  |none=>none
 |none=>none
def oJ(tb:Tab)(t:TypeId)(cs:List SV)(off:Nat):Option SV:=
 match kN tb t with
 |some true=>match cL tb t with
  |some n=>match oU (xO cs off) n with
   |some l=>some (.agg l)
   |none=>none
  |none=>none
 |some false=>dV cs off
 |none=>none
def Cw(f:TypeId->SV->SV->Option E)(tb:Tab)(xs ys:List SV):List Field->Option E
 |[]=>some (.bool true)
 |fd::fds=>
  if fd.name == "_" then none else
  match oJ tb fd.type xs fd.offset,oJ tb fd.type ys fd.offset with
  |some x,some y=>match f fd.type x y,Cw f tb xs ys fds with
   |some a,some b=>some (Dk a b)
   |_,_=>none
  |_,_=>none
def Cu(f:SV->SV->Option E)(tb:Tab)(elem:TypeId)(n:Nat)(xs ys:List SV):Nat->Nat->Option E
 |0,_=>some (.bool true)
 |k+1,i=>
  match oJ tb elem xs (Nat.mul i n),oJ tb elem ys (Nat.mul i n)with
  |some x,some y=>match f x y,Cu f tb elem n xs ys k (Nat.succ i)with
   |some a,some b=>some (Dk a b)
   |_,_=>none
  |_,_=>none
def Jk(a b:E):Option E:=
 match a,b with
 |.bool true,.bool y=>some (.bool y)
 |.bool false,.bool y=>some (.bool (!y))
 |.bool true,b=>some b
 |.bool false,b=>some (bz b)
 |a,.bool true=>some a
 |a,.bool false=>some (bz a)
 |a,b=>some (.iff a b)
def ji(P:Program)(tb:Tab):Nat->TypeId->SV->SV->Option E
 |0,_,_,_=>none
 |d+1,t,x,y=>
  match tb.und t,x,y with
  |some .bool,.bool a,.bool b=>Jk a b
  |some (.int _),.int k a,.int k' b=>if ge k k' then some (aL .eql a b)else none
  |some .string,.str a,.str b=>some (oD a b)
  |some (.pointer _),.nilp,.nilp=>some (.bool true)
  |some (.pointer _),.nilp,.ptr _ _=>some (.bool false)
  |some (.pointer _),.ptr _ _,.nilp=>some (.bool false)
  |some (.slice _),.nils,.nils=>some (.bool true)
  |some (.slice _),.nils,.slice _ _ _ _=>some (.bool false)
  |some (.slice _),.slice _ _ _ _,.nils=>some (.bool false)
  |some (.map _ _),.nilm,.nilm=>some (.bool true)
  |some (.map _ _),.nilm,.map _=>some (.bool false)
  |some (.map _ _),.map _,.nilm=>some (.bool false)
  |some (.func _ _ _),.nilf,.nilf=>some (.bool true)
  |some (.func _ _ _),.nilf,.func _ _ _=>some (.bool false)
  |some (.func _ _ _),.func _ _ _,.nilf=>some (.bool false)
  |some (.struct fs),.agg xs,.agg ys=>
   if P.stoodInHeld t then none else Cw (ji P tb d) tb xs ys fs.toList
  |some (.array len elem),.agg xs,.agg ys=>
   match cL tb elem with
   |some n=>Cu (ji P tb d elem) tb elem n xs ys len 0
   |none=>none
  |_,_,_=>none
def akC:SV->Bool
 |.agg _=>true
 |_=>false
def mS(P:Program)(tb:Tab)(t:TypeId)(x y:SV):Option E:=
 if akC x then(if P.eqGuardType P.depth t then none else ji P tb 40 t x y)else ji P tb 40 t x y
def amJ:E->Bool
 |.int n=>!(jW n 0)
 |_=>false
def lC(P:Program)(tb:Tab)(op:BinOp)(t:TypeId)(x y:SV):Option SV:=
 match x,y with
 |.int k a,.int k' b=>
  match op with
  |.shl | .shr=>match b with
   |.int (.ofNat _)=>some (.int k (j9 op k a b))
   |_=>none
  |.add | .sub | .mul | .and | .or | .xor | .andNot=>if ge k k' then some (.int k (j9 op k a b))else none
  |.quo | .rem=>if ge k k'&&amJ b then some (.int k (j9 op k a b))else none
  |_=>if ge k k' then some (.bool (aL op a b))else none
 |.str a,.str b=>
  match op with
  |.eql=>some (.bool (oD a b))
  |.neq=>some (.bool (bz (oD a b)))
  |_=>none
 |x,y=>
  match op with
  |.eql=>match mS P tb t x y with | some e=>some (.bool e) | none=>none
  |.neq=>match mS P tb t x y with | some e=>some (.bool (bz e)) | none=>none
  |_=>none
def Lh(op:UnOp)(x:SV):Option SV:=
 match op,x with
 |.neg,.int k a=>some (.int k (j9 .sub k (.int 0) a))
 |.xor,.int k a=>some (.int k (j9 .xor k (.int (match k.signed with | true=>-1 | false=>k.max)) a))
 |.not,.bool a=>some (.bool (bz a))
 |_,_=>none
def Ig(tb:Tab)(src dst:TypeId)(x:SV):Option SV:=
 match tb.und src,tb.und dst,x with
 |some _,some (.int k),.int _ a=>some (.int k (vi k a))
 |some .string,some .string,.str e=>some (.str e)
 |_,_,_=>none
def gf:E->Option Nat
 |.int (.ofNat n)=>some n
 |_=>none
def Iw(tb:Tab)(s:TypeId)(x:SV)(f:Nat):Option SV:=
 match KD tb s,x with
 |some fs,.ptr b o=>match dV fs f with
  |some fd=>match cL tb fd.type with
   |some n=>if Nat.beq n 0 then none else some (.ptr b (uC o fd.offset))
   |none=>none
  |none=>none
 |some fs,.bptr ks e i j=>match dV fs f with
  |some fd=>match cL tb fd.type with
   |some n=>if Nat.beq n 0 then none else some (.bptr ks e i (Nat.add j fd.offset))
   |none=>none
  |none=>none
 |some fs,.nptr b ks e i c x j=>match dV fs f with
  |some fd=>match cL tb fd.type with
   |some n=>if Nat.beq n 0 then none else some (.nptr b ks e i c x (Nat.add j fd.offset))
   |none=>none
  |none=>none
 |_,_=>none
def Ix(tb:Tab)(s:TypeId)(x:SV)(f:Nat):Option SV:=
 match KD tb s,x with
 |some fs,.agg cs=>match dV fs f with
  |some fd=>oJ tb fd.type cs fd.offset
  |none=>none
 |_,_=>none
def rO(tb:Tab)(t:TypeId)(x i:SV):Option SV:=
 match i with
 |.int _ (.int (.ofNat n))=>
  match tb.und t,x with
  |some (.array len elem),.ptr b o=>
   if Nat.blt n len then match cL tb elem with
    |some sz=>some (.ptr b (uC o (Nat.mul n sz)))
    |none=>none
   else none
  |some (.slice elem),.slice b o (.int (.ofNat l)) _=>
   if Nat.blt n l then match cL tb elem with
    |some sz=>some (.ptr b (uC o (Nat.mul n sz)))
    |none=>none
   else none
  |_,_=>none
 |_=>none
def x9(tb:Tab)(t:TypeId)(x i:SV):Option SV:=
 match i with
 |.int _ (.int (.ofNat n))=>
  match tb.und t,x with
  |some (.array len elem),.agg cs=>
   if Nat.blt n len then match cL tb elem with
    |some sz=>oJ tb elem cs (Nat.mul n sz)
    |none=>none
   else none
  |some .string,.str (.str s)=>
   match s[n]? with
   |some b=>some (.int .u8 (.int b.toNat))
   |none=>none
  |_,_=>none
 |_=>none
def Is(x:SV)(i:Nat):Option SV:=
 match x with
 |.tup vs=>dV vs i
 |_=>none
def oo(place:Nat->Option (Nat×Nat))(cells:List SV):List (Nat×SV)->Option (List SV)
 |[]=>some cells
 |(i,v)::bU=>
  match place i with
  |none=>none
  |some (off,size)=>
   if Nat.beq v.cells.length size then
    match vq cells off v.cells with
    |some cs=>oo place cs bU
    |none=>none
   else none
def qf(ev:Operand->Option SV):List (Nat×Operand)->Option (List (Nat×SV))
 |[]=>some []
 |(i,x)::bU=>match ev x,qf ev bU with
  |some v,some l=>some ((i,v)::l)
  |_,_=>none
def kJ(ev:Operand->Option SV):List Operand->Option (List SV)
 |[]=>some []
 |x::bU=>match ev x,kJ ev bU with
  |some v,some l=>some (v::l)
  |_,_=>none
def DB(tb:Tab):List Field->Option (List (Nat×Nat))
 |[]=>some []
 |f::fs=>match cL tb f.type,DB tb fs with
  |some n,some l=>some ((f.offset,n)::l)
  |_,_=>none
def Cd(tb:Tab)(t:TypeId)(parts:List (Nat×SV)):Option SV:=
 match nr tb t with
 |some z=>
  match tb.und t with
  |some (.struct fs)=>match DB tb fs.toList with
   |some ps=>match oo (dV ps) z.cells parts with
    |some cs=>some (.agg cs)
    |none=>none
   |none=>none
  |some (.array _ elem)=>match cL tb elem with
   |some sz=>match oo (fun i=>some (Nat.mul i sz,sz)) z.cells parts with
    |some cs=>some (.agg cs)
    |none=>none
   |none=>none
  |_=>none
 |none=>none
def I6(tb:Tab)(t:TypeId)(x:SV):Option SV:=
 match tb.und t,x with
 |some .string,.str (.str s)=>some (.int .i64 (.int s.size))
 |some (.array n _),_=>some (.int .i64 (.int n))
 |some (.slice _),.nils=>some (.int .i64 (.int 0))
 |some (.slice _),.slice _ _ l _=>match gf l with | some n=>some (.int .i64 (.int n)) | none=>none
 |some (.map _ _),.nilm=>some (.int .i64 (.int 0))
 |_,_=>none
def H5(tb:Tab)(t:TypeId)(x:SV):Option SV:=
 match tb.und t,x with
 |some (.array n _),_=>some (.int .i64 (.int n))
 |some (.slice _),.nils=>some (.int .i64 (.int 0))
 |some (.slice _),.slice _ _ _ c=>match gf c with | some n=>some (.int .i64 (.int n)) | none=>none
 |_,_=>none
def rZ(mx:Bool)(k:IntKind):List SV->E->Option SV
 |[],a=>some (.int k a)
 |v::vs,a=>match v with
  |.int k' b=>match ge k k' with
   |true=>rZ mx k vs (match mx with | true=>qt a b | false=>vg a b)
   |false=>none
  |_=>none
def yr(mx:Bool):List SV->Option SV
 |.int k a::v::vs=>rZ mx k (v::vs) a
 |_=>none
def xF(x:Option SV)(dflt y:Nat):Option Nat:=
 match x with
 |none=>some dflt
 |some (.int _ (.int (.ofNat n)))=>if Nat.ble n y then some n else none
 |some _=>none
def Cb(len cap:Nat)(lo hi mx:Option SV):Option (Nat×Nat×Nat):=
 match mx,hi with
 |some _,none=>none
 |_,_=>
  match xF mx cap cap with
  |some m=>match xF hi len m with
   |some h=>match xF lo 0 h with
    |some l=>if Nat.ble h m then some (l,h,m)else none
    |none=>none
   |none=>none
  |none=>none
def JX(o:Off)(m l sz:Nat):Off:=match Nat.beq m l with | true=>o | false=>uC o (Nat.mul l sz)
def Kq(tb:Tab)(t:TypeId)(x:SV)(lo hi mx:Option SV):Option SV:=
 match tb.und t,x with
 |some (.slice elem),.slice b o (.int (.ofNat len)) (.int (.ofNat cap))=>
  match Cb len cap lo hi mx,cL tb elem with
  |some (l,h,m),some sz=>some (.slice b (JX o m l sz) (.int (.ofNat (Nat.sub h l))) (.int (.ofNat (Nat.sub m l))))
  |_,_=>none
 |some (.slice elem),.nils=>
  match Cb 0 0 lo hi mx,cL tb elem with
  |some _,some _=>some .nils
  |_,_=>none
 |some (.array n elem),.ptr b o=>
  match Cb n n lo hi mx,cL tb elem with
  |some (l,h,m),some sz=>some (.slice b (JX o m l sz) (.int (.ofNat (Nat.sub h l))) (.int (.ofNat (Nat.sub m l))))
  |_,_=>none
 |_,_=>none
def rG(ev:Operand->Option SV):Option Operand->Option (Option SV)
 |none=>some none
 |some x=>match ev x with | some v=>some (some v) | none=>none
def JP(P:Program)(tb:Tab)(ev:Operand->Option SV)(c:Operand)(a:Operand)(b:Operand):Option SV:=
 match ev c with
  |some (.bool (.bool true))=>ev a
  |some (.bool (.bool false))=>ev b
  |_=>none
def JO(P:Program)(tb:Tab)(ev:Operand->Option SV)(x:Operand):Option SV:=
 match ev x with
  |some (.ptr b o)=>some (.ptr b o)
  |some (.bptr ks e i j)=>some (.bptr ks e i j)
  |some (.nptr b ks e i c x j)=>some (.nptr b ks e i c x j)
  |_=>none
def JE(P:Program)(tb:Tab)(ev:Operand->Option SV)(op:BinOp)(t:TypeId)(x:Operand)(y:Operand):Option SV:=
 match ev x,ev y with
  |some vx,some vy=>lC P tb op t vx vy
  |_,_=>none
def JR(P:Program)(tb:Tab)(ev:Operand->Option SV)(op:UnOp)(x:Operand):Option SV:=
 match ev x with
  |some v=>Lh op v
  |none=>none
def JH(P:Program)(tb:Tab)(ev:Operand->Option SV)(src:TypeId)(dst:TypeId)(x:Operand):Option SV:=
 match ev x with
  |some v=>Ig tb src dst v
  |none=>none
def JK(P:Program)(tb:Tab)(ev:Operand->Option SV)(s:TypeId)(x:Operand)(f:Nat):Option SV:=
 match ev x with
  |some v=>Iw tb s v f
  |none=>none
def JJ(P:Program)(tb:Tab)(ev:Operand->Option SV)(s:TypeId)(x:Operand)(f:Nat):Option SV:=
 match ev x with
  |some v=>Ix tb s v f
  |none=>none
def JM(P:Program)(tb:Tab)(ev:Operand->Option SV)(t:TypeId)(x:Operand)(i:Operand):Option SV:=
 match ev x,ev i with
  |some v,some w=>rO tb t v w
  |_,_=>none
def JL(P:Program)(tb:Tab)(ev:Operand->Option SV)(t:TypeId)(x:Operand)(i:Operand):Option SV:=
 match ev x,ev i with
  |some v,some w=>x9 tb t v w
  |_,_=>none
def JI(P:Program)(tb:Tab)(ev:Operand->Option SV)(x:Operand)(i:Nat):Option SV:=
 match ev x with
  |some v=>Is v i
  |none=>none
def JF(P:Program)(tb:Tab)(ev:Operand->Option SV)(t:TypeId)(parts:Array (Nat×Operand)):Option SV:=
 match qf ev parts.toList with
  |some ps=>Cd tb t ps
  |none=>none
def JN(P:Program)(tb:Tab)(ev:Operand->Option SV)(fn:Fn)(fi:Array Operand)(ca:Array Operand):Option SV:=
 match kJ ev fi.toList,kJ ev ca.toList with
  |some a,some b=>some (.func fn a b)
  |_,_=>none
def JQ(P:Program)(tb:Tab)(ev:Operand->Option SV)(t:TypeId)(x:Operand)(lo:Option Operand)(hi:Option Operand)(mx:Option Operand):Option SV:=
 match ev x,rG ev lo,rG ev hi,rG ev mx with
  |some v,some l,some h,some m=>Kq tb t v l h m
  |_,_,_,_=>none
def JG(P:Program)(tb:Tab)(ev:Operand->Option SV)(c:Call):Option SV:=
 match c.callee with
  |.builtin b=>match kJ ev c.args.toList with
   |some vs=>match b with
    |.len=>match dV c.argTypes.toList 0,dV vs 0 with
     |some t,some v=>I6 tb t v
     |_,_=>none
    |.cap=>match dV c.argTypes.toList 0,dV vs 0 with
     |some t,some v=>H5 tb t v
     |_,_=>none
    |.min=>yr false vs
    |.max=>yr true vs
    |_=>none
   |none=>none
  |_=>none
noncomputable def DD(P:Program)(tb:Tab)(ev:Operand->Option SV)(o:Op):Option SV:=
 Op.rec (motive:=fun _=>Option SV)
  (fun x=>ev x)
  (fun x=>ev x)
  (fun c a b=>JP P tb ev c a b)
  (fun _=>none)
  (fun _ _=>none)
  (fun t parts=>JF P tb ev t parts)
  (fun _ _ _=>none)
  (fun _ _ _ _=>none)
  (fun _ _=>none)
  (fun _ _ _=>none)
  (fun _=>none)
  (fun _=>none)
  (fun x=>JO P tb ev x)
  (fun op t x y _=>JE P tb ev op t x y)
  (fun op _ x=>JR P tb ev op x)
  (fun src dst x=>JH P tb ev src dst x)
  (fun _ _=>none)
  (fun _ _=>none)
  (fun fn fi ca=>JN P tb ev fn fi ca)
  (fun _ _=>none)
  (fun _ _=>none)
  (fun _ _ _=>none)
  (fun t x lo hi mx=>JQ P tb ev t x lo hi mx)
  (fun s x f=>JK P tb ev s x f)
  (fun s x f=>JJ P tb ev s x f)
  (fun t x i=>JM P tb ev t x i)
  (fun t x i=>JL P tb ev t x i)
  (fun _ _ _ _=>none)
  (fun _ _ _ _=>none)
  (fun _ _ _=>none)
  (fun _ _ _ _=>none)
  (fun _ _=>none)
  (fun _ _=>none)
  (fun _=>none)
  (fun _ _ _ _=>none)
  (fun x i=>JI P tb ev x i)
  (fun c=>JG P tb ev c)
  (fun _=>none)
  (fun _=>none)
  (fun _=>none)
  (fun _ _=>none)
  (fun _ _ _=>none)
  (fun _ _=>none)
  o
theorem anH(P:Program)(tb:Tab)(ev:Operand->Option SV)(o:Op):DD P tb ev o=(match o with
 |.move x=>ev x
 |.assign x=>ev x
 |.pick c a b=>JP P tb ev c a b
 |.nilCheck x=>JO P tb ev x
 |.binOp op t x y _=>JE P tb ev op t x y
 |.unOp op _ x=>JR P tb ev op x
 |.convert src dst x=>JH P tb ev src dst x
 |.fieldAddr s x f=>JK P tb ev s x f
 |.field s x f=>JJ P tb ev s x f
 |.indexAddr t x i=>JM P tb ev t x i
 |.index t x i=>JL P tb ev t x i
 |.extract x i=>JI P tb ev x i
 |.build t parts=>JF P tb ev t parts
 |.makeFunc fn fi ca=>JN P tb ev fn fi ca
 |.slice t x lo hi mx=>JQ P tb ev t x lo hi mx
 |.call c=>JG P tb ev c
 |_=>none):=by cases o<;>rfl
def CZ(e:E):List E->Bool
 |[]=>false
 |x::xs=>match x.beq e with | true=>true | false=>CZ e xs
def rP(e:E)(l:List E):Bool:=kM (mO e) fun c=>CZ e (Iz c l)
def aYM:E->Bool
 |.and _ _=>true
 |_=>false
def aie(pc:List E)(a:E):Bool:=match aYM a with | true=>rP a pc | false=>false
def uD(pc:List E):E->Bool
 |.and a b=>match aie pc a with
  |true=>uD pc b
  |false=>match uD pc a with | true=>uD pc b | false=>false
 |e=>rP e pc
def u0(pc:List E)(e:E):List E->Bool
 |[]=>false
 |x::xs=>match x with
  |.imp p c=>match c.beq e with
   |true=>match uD pc p with
    |true=>true
    |false=>u0 pc e xs
   |false=>u0 pc e xs
  |_=>match x.beq e with
   |true=>true
   |false=>u0 pc e xs
def x6(pc:List E)(e:E)(l:List E):Bool:=kM (mO e) fun n=>u0 pc e (IA n l)
def Dg(a:Option Int)(b:Int):Option Int:=
 match a with
 |some x=>some (mZ x b)
 |none=>some b
def Dj(a:Option Int)(b:Int):Option Int:=
 match a with
 |some x=>some (qr x b)
 |none=>some b
def oB(c:E):List E->Option Int->Option Int
 |[],r=>r
 |e::es,r=>match e with
  |.not (.cmp .lss a (.int k))=>match (dq a).beq c with
   |true=>oB c es (Dg r (k-fI a))
   |false=>oB c es r
  |.cmp .lss (.int k) a=>match (dq a).beq c with
   |true=>oB c es (Dg r (k+1-fI a))
   |false=>oB c es r
  |.cmp .eql a (.int k)=>match (dq a).beq c with
   |true=>oB c es (Dg r (k-fI a))
   |false=>oB c es r
  |_=>oB c es r
def ov(c:E):List E->Option Int->Option Int
 |[],r=>r
 |e::es,r=>match e with
  |.not (.cmp .lss (.int k) a)=>match (dq a).beq c with
   |true=>ov c es (Dj r (k-fI a))
   |false=>ov c es r
  |.cmp .lss a (.int k)=>match (dq a).beq c with
   |true=>ov c es (Dj r (k-1-fI a))
   |false=>ov c es r
  |.cmp .eql a (.int k)=>match (dq a).beq c with
   |true=>ov c es (Dj r (k-fI a))
   |false=>ov c es r
  |_=>ov c es r
def Dm:E->Bool
 |.fn f _=>match f with
  |0=>true
  |9=>true
  |13=>true
  |22=>true
  |26=>true
  |29=>true
  |_=>false
 |_=>false
def vj(c:E)(k:Int):List E->Bool
 |[]=>false
 |e::es=>match e with
  |.not (.cmp .eql a (.int j))=>match (dq a).beq c&&jW (j-fI a) k with
   |true=>true
   |false=>vj c k es
  |_=>vj c k es
def H3(pc:List E)(c:E):Nat->Int->Int
 |0,k=>k
 |n+1,k=>match vj c k pc with
  |true=>H3 pc c n (k+1)
  |false=>k
def H2(pc:List E)(c:E):Nat->Int->Int
 |0,k=>k
 |n+1,k=>match vj c k pc with
  |true=>H2 pc c n (k-1)
  |false=>k
def R3(c:E)(pc:List E):Option Int:=
 match oB c pc (match Dm c with | true=>some 0 | false=>none)with
 |some k=>some (H3 pc c 4 k)
 |none=>none
def Rp(c:E)(pc:List E):Option Int:=
 match ov c pc none with
 |some k=>some (H2 pc c 4 k)
 |none=>none
def vd(pc:List E)(c:E):Option Int:=kM (mO c) fun n=>R3 c (CE n pc)
def oz(pc:List E)(c:E):Option Int:=kM (mO c) fun n=>Rp c (CE n pc)
def leI(a b:Int):Bool:=cB .leq a b
def rY(a b:Int):Bool:=cB .lss a b
def H0(pc:List E)(e:E):Option Bool:=
 match e with
 |.cmp .lss a (.int k)=>match vd pc (dq a)with
  |some x=>match leI k (x+fI a)with
   |true=>some false
   |false=>match oz pc (dq a)with
    |some y=>match rY (y+fI a) k with
     |true=>some true
     |false=>none
    |none=>none
  |none=>match oz pc (dq a)with
   |some y=>match rY (y+fI a) k with
    |true=>some true
    |false=>none
   |none=>none
 |.cmp .lss (.int k) a=>match vd pc (dq a)with
  |some x=>match rY k (x+fI a)with
   |true=>some true
   |false=>match oz pc (dq a)with
    |some y=>match leI (y+fI a) k with
     |true=>some false
     |false=>none
    |none=>none
  |none=>match oz pc (dq a)with
   |some y=>match leI (y+fI a) k with
    |true=>some false
    |false=>none
   |none=>none
 |.cmp .eql a (.int k)=>match vd pc (dq a)with
  |some x=>match rY k (x+fI a)with
   |true=>some false
   |false=>match oz pc (dq a)with
    |some y=>match rY (y+fI a) k with
     |true=>some false
     |false=>match jW (x+fI a) k&&jW (y+fI a) k with
      |true=>some true
      |false=>none
    |none=>none
  |none=>match oz pc (dq a)with
   |some y=>match rY (y+fI a) k with
    |true=>some false
    |false=>none
   |none=>none
 |_=>none
def amL:Option Bool->Option Bool
 |some b=>some (!b)
 |none=>none
def RM(fs pc:List E)(e:E):Option Bool:=
 match x6 pc e pc with
  |true=>some true
  |false=>match x6 pc (bz e) pc with
   |true=>some false
   |false=>match x6 pc e fs with
    |true=>some true
    |false=>match x6 pc (bz e) fs with
     |true=>some false
     |false=>match e with
      |.not x=>amL (H0 pc x)
      |_=>H0 pc e
noncomputable def aZi(e:E):Option Bool:=E.rec (motive:=fun _=>Option Bool) (fun _=>none) some (fun _=>none) (fun _=>none) (fun _ _ _ _ _ _=>none) (fun _ _ _ _ _=>none) (fun _ _ _ _=>none) (fun _ _ _ _=>none) (fun _ _ _=>none) (fun _ _=>none) (fun _ _ _ _=>none) (fun _ _ _ _=>none) (fun _ _ _ _=>none) (fun _ _ _ _=>none) (fun _ _ _=>none) (fun _ _ _ _=>none) e
noncomputable def fF(fs pc:List E)(e:E):Option Bool:=Option.rec (motive:=fun _=>Option Bool) (RM fs pc e) some (aZi e)
theorem aYU(fs pc:List E)(e:E):fF fs pc e=(match e with
 |.bool b=>some b
 |_=>RM fs pc e):=by cases e<;>rfl
def jm(fs pc:List E)(a b:E):Bool:=
 match fF fs pc (aL .lss a b)with
 |some true=>true
 |_=>false
def mV(fs pc:List E)(a b:E):Bool:=
 match fF fs pc (aL .lss a b)with
 |some false=>true
 |_=>false
def eG(fs pc:List E)(e:E):Bool:=
 match Dm e with
 |true=>true
 |false=>mV fs pc e (.int 0)
inductive Rz where
 |lit (j:Nat)
 |ask (e:E)
 |lack (e:E)
def DV(fs pc:List E)(i:E):Nat->Nat->Rz
 |0,_=>.lack (.bool false)
 |n+1,j=>match fF fs pc (aL .eql i (.int (.ofNat j)))with
  |some true=>.lit j
  |some false=>DV fs pc i n (Nat.succ j)
  |none=>.ask (aL .eql i (.int (.ofNat j)))
def jZ(o:Off):Option Nat:=match o.scale with | 0=>some o.base | _=>none
def yn(tb:Tab)(st:St)(t:TypeId)(x:SV):Option SV:=
 match x with
 |.ptr b o=>match st.heap.get b with
  |some ⟨_,.cells cs _ _⟩=>match jZ o with
   |some n=>match kN tb t with
    |some true=>match cL tb t with
     |some sz=>match oU (xO cs n) sz with
      |some l=>some (.agg l)
      |none=>none
     |none=>none
    |some false=>dV cs n
    |none=>none
   |none=>none
  |_=>none
 |_=>none
def KC(tb:Tab)(st:St)(t:TypeId)(x v:SV):Option St:=
 match x with
 |.ptr b o=>match st.heap.get b with
  |some ⟨true,.cells cs ah elem⟩=>match jZ o with
   |some n=>match cL tb t with
    | some sz=>if Nat.beq v.cells.length sz&&uE v.cells then
      match vq cs n v.cells with
      |some cs'=>T.setK st.heap b ⟨true,.cells cs' ah elem⟩ fun h=>some {st with heap:=h}
      |none=>none
     else none
    |none=>none
   |none=>none
  |_=>none
 |_=>none
def vn(tmps:Tm)(st:St)(elem:TypeId)(cs:List SV):Option (SV×St):=
 if st.scp&&lg st.nv st.nb tmps&&SV.scps st.nv st.nb cs then
  T.insK st.heap st.nb ⟨true,.cells cs (.int (.ofNat cs.length)) elem⟩ fun h=>some (.ptr st.nb ⟨0,0,.int 0⟩,{st with nb:=Nat.succ st.nb,heap:=h})
 else none
def oL(z:List SV):Nat->List SV
 |0=>[]
 |n+1=>z++oL z n
inductive EffR where
 |val (v:SV) (st:St)
 |skip (st:St)
 |ask (e:E)
 |lack (e:E)
 |bad
def EffR.ofVal:Option SV->St->EffR
 |some v,st=>.val v st
 |none,_=>.bad
def EffR.ofPair:Option (SV×St)->EffR
 |some (v,st)=>.val v st
 |none=>.bad
noncomputable def isJunk(v:SV):Bool:=
 SV.rec (motive_1:=fun _=>Bool) (motive_2:=fun _=>Bool) (fun _ _=>false) (fun _=>false) (fun _=>false) false (fun _ _=>false) false (fun _ _ _ _=>false)
  (fun _ _ _=>false) (fun _ _=>false) (fun _ _ _ _=>false) false (fun _=>false) false false (fun _ _ _ _ _=>false) (fun _ _=>false) (fun _ _=>false) true
  (fun _ _ _ _ _=>false) (fun _ _ _ _ _ _ _=>false)
  false (fun _ _ _ _=>false) v
noncomputable def aXZ(v:SV):Option SV:=Bool.rec (some v) none (isJunk v)
noncomputable def ajq(x:Option SV):Option SV:=Option.rec (motive:=fun _=>Option SV) (some .undef) aXZ x
noncomputable def bK(tmps:Tm)(x:Operand):Option SV:=
 Operand.rec (motive:=fun _=>Option SV) (fun t=>ajq (tmps.get t)) ofVal (fun _=>none) (fun f=>some (.func (.func f) [] [])) x
theorem ajt(tmps:Tm)(t:Tmp):bK tmps (.tmp t)=(match tmps.get t with
  |some v=>match v with
   |.junk=>none
   |_=>some v
  |none=>some .undef):=by
 show ajq (tmps.get t)=_;cases tmps.get t with
 |none=>rfl
 |some v=>cases v<;>rfl
theorem ajs(tmps:Tm)(g:Nat):bK tmps (.global g)=none:=rfl
theorem ajr(tmps:Tm)(f:FuncId):bK tmps (.func f)=some (.func (.func f) [] []):=rfl
def aU{G:Type}:List G->Nat
 |[]=>0
 |_::xs=>Nat.succ (aU xs)
def iW(w:Nat)(e:E):E:=
 match e with
 |.fn 24 (.pr _ (.pr l (.pr h _)))=>match l with
  |.int (.ofNat 0)=>h
  |_=>.fn 29 (.pr h l)
 |.fn 28 (.pr (.pr _ n) _)=>n
 |.fn 30 _=>.int 0
 |e=>match w with | 1=>jo e | _=>.fn 9 (.pr e (.int (.ofNat w)))
def rD(e:E):E:=
 match e with
 |.fn 24 (.pr _ (.pr l (.pr _ m)))=>match l with
  |.int (.ofNat 0)=>m
  |_=>.fn 29 (.pr m l)
 |.fn 30 _=>.int 0
 |e=>.fn 22 e
def dP(w:Nat)(idx:E)(j:Nat):E:=
 match w with
 |1=>idx
 |_=>match idx with
  |.int n=>.int (n * .ofNat w + .ofNat j)
  |_=>.fn 6 (.pr (.fn 8 (.pr idx (.int (.ofNat w)))) (.int (.ofNat j)))
def jq(fs pc:List E):E->E->E
 |.fn 2 (.pr l' (.pr j v)),i=>match i.beq j with
  |true=>v
  |false=>match i,j with
   |.int (.ofNat _),.int (.ofNat _)=>jq fs pc l' i
   |_,_=>match fF fs pc (aL .eql i j)with
    |some true=>match mV fs pc j (.int 0)with
     |true=>v
     |false=>.fn 1 (.pr (.fn 2 (.pr l' (.pr j v))) i)
    |some false=>match mV fs pc j (.int 0)with
     |true=>jq fs pc l' i
     |false=>.fn 1 (.pr (.fn 2 (.pr l' (.pr j v))) i)
    |none=>.fn 1 (.pr (.fn 2 (.pr l' (.pr j v))) i)
 |.fn 3 (.pr a b),i=>match jm fs pc i (jo a)with
  |true=>jq fs pc a i
  |false=>match mV fs pc i (jo a)with
   |true=>jq fs pc b (kR i (jo a))
   |false=>.fn 1 (.pr (.fn 3 (.pr a b)) i)
 |.fn 23 (.pr x r),i=>match i with
  |.int (.ofNat n)=>match n with
   |0=>x
   |n+1=>jq fs pc r (.int (.ofNat n))
  |_=>.fn 1 (.pr (.fn 23 (.pr x r)) i)
 |.fn 5 (.pr n x),i=>x
 |.fn 11 x,i=>x
 |.fn 21 (.pr r c),i=>jq fs pc c i
 |.fn 28 (.pr r c),i=>jq fs pc c i
 |.fn 24 (.pr (.pr (.int (.ofNat 1)) e) (.pr l m)),i=>match mV fs pc l (.int 0)with
  |true=>jq fs pc e (dr l i)
  |false=>.fn 1 (.pr (.fn 24 (.pr (.pr (.int (.ofNat 1)) e) (.pr l m))) i)
 |l,i=>.fn 1 (.pr l i)
inductive FA where
 |at (idx:E) (j:Nat)
 |lack (e:E)
 |bad
def ID(fs pc:List E)(n idx:E)(j:Nat):FA:=
 match jm fs pc idx n with
 |true=>.at idx j
 |false=>.lack (aL .lss idx n)
def rJ(fs pc:List E)(w:Nat)(n:E)(o:Off):FA:=
 match w with
 |0=>.bad
 |_=>match o.scale with
  |0=>ID fs pc n (.int (.ofNat (Nat.div o.base w))) (Nat.mod o.base w)
  |s=>match Nat.beq s w with
   |true=>match eG fs pc o.idx with
    |true=>ID fs pc n (dr o.idx (.int (.ofNat (Nat.div o.base w)))) (Nat.mod o.base w)
    |false=>.lack (bz (aL .lss o.idx (.int 0)))
   |false=>.bad
def uJ(c:CK)(e:E):SV:=
 match c with
 |.int k=>.int k e
 |.bool=>.bool e
 |.str=>.str e
 |.slc ks=>.bsl ks e
def xJ(fs pc:List E)(ks:List CK)(w:Nat)(l idx:E):Nat->Nat->Option (List SV)
 |0,_=>some []
 |n+1,j=>match dV ks j with
  |some c=>match xJ fs pc ks w l idx n (Nat.succ j)with
   |some vs=>some (uJ c (jq fs pc l (dP w idx j))::vs)
   |none=>none
  |none=>none
def rW(tb:Tab)(st:St)(t:TypeId)(ks:List CK)(l idx:E)(j:Nat):EffR:=
 match kN tb t with
 |some true=>match cL tb t with
  |some sz=>match xJ tb.facts st.pc ks (aU ks) l idx sz j with
   |some vs=>.val (.agg vs) st
   |none=>.bad
  |none=>.bad
 |some false=>match xJ tb.facts st.pc ks (aU ks) l idx 1 j with
  |some vs=>match vs with
   |[v]=>.val v st
   |_=>.bad
  |none=>.bad
 |none=>.bad
def mW:E->E
 |.fn 21 (.pr x _)=>mW x
 |e=>e
def xM(e:E):E:=match e with
 |.fn 21 (.pr _ c)=>c
 |.fn 28 (.pr _ c)=>c
 |e=>e
def Ch(b:Nat)(c:CK)(e idx:E)(j:Nat):SV:=
 match c with
 |.int k=>.int k e
 |.bool=>.bool e
 |.str=>.str e
 |.slc ks=>.nsl b ks e idx j
def xK(fs pc:List E)(b:Nat)(ks:List CK)(w:Nat)(l idx:E):Nat->Nat->Option (List SV)
 |0,_=>some []
 |n+1,j=>match dV ks j with
  |some c=>match xK fs pc b ks w l idx n (Nat.succ j)with
   |some vs=>some (Ch b c (jq fs pc l (dP w idx j)) idx j::vs)
   |none=>none
  |none=>none
def Da(tb:Tab)(st:St)(t:TypeId)(b:Nat)(ks:List CK)(l idx:E)(j:Nat):EffR:=
 match kN tb t with
 |some true=>match cL tb t with
  |some sz=>match xK tb.facts st.pc b ks (aU ks) l idx sz j with
   |some vs=>.val (.agg vs) st
   |none=>.bad
  |none=>.bad
 |some false=>match xK tb.facts st.pc b ks (aU ks) l idx 1 j with
  |some vs=>match vs with
   |[v]=>.val v st
   |_=>.bad
  |none=>.bad
 |none=>.bad
inductive NA where
 |at (cur p:E)
 |lack (e:E)
 |bad
def amC(e cur p:E):NA:=match (mW cur).beq (mW e)with | true=>.at cur p | false=>.bad
def vk(fs pc:List E)(h:T Blk)(b:Nat)(ks:List CK)(e idx:E)(c:Nat):NA:=
 match h.get b with
 |some ⟨true,.nest ks0 l n _ _ own⟩=>match dV ks0 c with
  |some (.slc ks')=>match iA ks ks' with
   |true=>match eG fs pc idx with
    |true=>match jm fs pc idx n with
     |true=>match jm fs pc idx own with
      |true=>amC e (jq fs pc l (dP (aU ks0) idx c)) (dP (aU ks0) idx c)
      |false=>.lack (aL .lss idx own)
     |false=>.lack (aL .lss idx n)
    |false=>.lack (bz (aL .lss idx (.int 0)))
   |false=>.bad
  |_=>.bad
 |_=>.bad
def Db(tb:Tab)(st:St)(t:TypeId)(x:SV):EffR:=
 match x with
 |.ptr b o=>match st.heap.get b with
  |some ⟨_,.flat ks l n _ _⟩=>match rJ tb.facts st.pc (aU ks) n o with
   |.at idx j=>rW tb st t ks l idx j
   |.lack e=>.lack e
   |.bad=>.bad
  |some ⟨_,.nest ks l n _ _ own⟩=>match rJ tb.facts st.pc (aU ks) n o with
   |.at idx j=>match jm tb.facts st.pc idx own with
    |true=>Da tb st t b ks l idx j
    |false=>match mV tb.facts st.pc idx own with
     |true=>rW tb st t ks l idx j
     |false=>.ask (aL .lss idx own)
   |.lack e=>.lack e
   |.bad=>.bad
  |_=>.bad
 |.bptr ks e idx j=>rW tb st t ks e idx j
 |.nptr b ks e idx c x j=>match vk tb.facts st.pc st.heap b ks e idx c with
  |.at cur _=>rW tb st t ks cur x j
  |.lack e=>.lack e
  |.bad=>.bad
 |_=>.bad
def oq(c:CK)(v:SV):Option E:=
 match c,v with
 |.int k,.int k' e=>match ge k k' with | true=>some e | false=>none
 |.bool,.bool e=>some e
 |.str,.str e=>some e
 |.slc ks,.bsl ks' e=>match iA ks ks' with | true=>some e | false=>none
 |.slc _,.nils=>some (.fn 30 (.int 0))
 |_,_=>none
def putCells(ks:List CK)(w:Nat)(idx:E):List SV->Nat->E->Option E
 |[],_,l=>some l
 |v::vs,j,l=>match dV ks j with
  |some c=>match oq c v with
   |some e=>putCells ks w idx vs (Nat.succ j) (kU l (dP w idx j) e)
   |none=>none
  |none=>none
def SR(c:CK)(v:SV):Bool:=
 match c,v with
 |.slc _,.nils=>true
 |.slc _,_=>false
 |_,_=>true
def JZ:List CK->Nat->List SV->Bool
 |_,_,[]=>true
 |ks,j,v::vs=>match dV ks j with
  |some c=>SR c v&&JZ ks (Nat.succ j) vs
  |none=>false
def To(st:St)(b:Nat)(l':E):EffR:=
 match st.heap.get b with
 |some ⟨true,.nest ks _ n ah elem own⟩=>T.setK st.heap b ⟨true,.nest ks l' n ah elem own⟩ fun h=>.skip {st with heap:=h}
 |_=>.bad
def amD(st:St)(b:Nat):E:=
 match st.heap.get b with
 |some ⟨_,.nest _ l _ _ _ _⟩=>l
 |_=>.int 0
def DP(tb:Tab)(st:St)(t:TypeId)(b:Nat)(ks:List CK)(x:E)(j:Nat)(v:SV)(cur p:E):EffR:=
 match cL tb t with
 |some sz=>match Nat.beq v.cells.length sz&&Nat.ble j (aU ks)with
  |true=>match putCells ks (aU ks) x v.cells j (xM cur)with
   |some c'=>To st b (kU (amD st b) p (.fn 21 (.pr (mW cur) c')))
   |none=>.bad
  |false=>.bad
 |none=>.bad
def vK(tb:Tab)(st:St)(t:TypeId)(x v:SV):EffR:=
 match x with
 |.nptr b ks e idx c x j=>match vk tb.facts st.pc st.heap b ks e idx c with
  |.at cur p=>DP tb st t b ks x j v cur p
  |.lack e=>.lack e
  |.bad=>.bad
 |.ptr b o=>match st.heap.get b with
  |some ⟨true,.flat ks l n ah elem⟩=>match rJ tb.facts st.pc (aU ks) n o with
   |.at idx j=>match cL tb t with
    |some sz=>match Nat.beq v.cells.length sz with
     |true=>match putCells ks (aU ks) idx v.cells j l with
      |some l'=>T.setK st.heap b ⟨true,.flat ks l' n ah elem⟩ fun h=>.skip {st with heap:=h}
      |none=>.bad
     |false=>.bad
    |none=>.bad
   |.lack e=>.lack e
   |.bad=>.bad
  |some ⟨true,.nest ks l n ah elem own⟩=>match rJ tb.facts st.pc (aU ks) n o with
   |.at idx j=>match cL tb t with
    |some sz=>match Nat.beq v.cells.length sz&&JZ ks j v.cells with
     |true=>match putCells ks (aU ks) idx v.cells j l with
      |some l'=>T.setK st.heap b ⟨true,.nest ks l' n ah elem own⟩ fun h=>.skip {st with heap:=h}
      |none=>.bad
     |false=>.bad
    |none=>.bad
   |.lack e=>.lack e
   |.bad=>.bad
  |_=>.bad
 |_=>.bad
def HI(fs pc:List E)(o:Off)(sz:Nat)(i:E):Option Off:=
 match o.scale with
 |0=>some ⟨o.base,sz,i⟩
 |s=>match Nat.beq s sz with
  |true=>match eG fs pc o.idx with
   |true=>some ⟨o.base,sz,dr o.idx i⟩
   |false=>none
  |false=>none
def lit(k:IntKind)(j:Nat):SV:=.int k (.int (.ofNat j))
def rz(tb:Tab)(st:St)(e:E)(n:Nat)(f:Nat->Option SV):EffR:=
 match DV tb.facts st.pc e n 0 with
 |.lit j=>.ofVal (f j) st
 |.ask e=>.ask e
 |.lack e=>.lack e
inductive BK where
 |cells | flat (n:E) | other
def I2(st:St)(b:Nat):BK:=
 match st.heap.get b with
 |some ⟨_,.flat _ _ n _ _⟩=>.flat n
 |some ⟨_,.nest _ _ n _ _ _⟩=>.flat n
 |some ⟨_,.cells _ _ _⟩=>.cells
 |_=>.other
def rN(tb:Tab)(st:St)(e l:E)(k:EffR):EffR:=
 match eG tb.facts st.pc e with
 |true=>match jm tb.facts st.pc e l with
  |true=>k
  |false=>.lack (aL .lss e l)
 |false=>.lack (bz (aL .lss e (.int 0)))
def CR(tb:Tab)(st:St)(t:TypeId)(x i:SV):EffR:=
 match i with
 |.int k e=>match tb.und t with
  |some (.array len _)=>match x with
   |.ptr _ _=>rz tb st e len fun j=>rO tb t x (lit k j)
   |_=>.bad
  |some (.slice elem)=>match cL tb elem with
   |some sz=>match x with
    |.slice b o l _=>match I2 st b with
     |.flat _=>rN tb st e l (match HI tb.facts st.pc o sz e with
      |some o'=>.val (.ptr b o') st
      |none=>.bad)
     |_=>match gf l with
      |some n=>rz tb st e n fun j=>rO tb t x (lit k j)
      |none=>.bad
    |.nslice b l _=>match I2 st b with
     |.flat n=>rN tb st e l (match jm tb.facts st.pc e n with
      |true=>.val (.ptr b ⟨0,sz,e⟩) st
      |false=>.lack (aL .lss e n))
     |.cells=>match gf l with
      |some n=>rz tb st e n fun j=>match Nat.blt j n with
       |true=>some (.ptr b ⟨Nat.mul j sz,0,.int 0⟩)
       |false=>none
      |none=>.bad
     |.other=>.bad
    |.bsl ks y=>match Nat.beq (aU ks) sz&&Nat.blt 0 sz with
     |true=>rN tb st e (iW sz y) (.val (.bptr ks y e 0) st)
     |false=>.bad
    |.nsl b ks y idx c=>match Nat.beq (aU ks) sz&&Nat.blt 0 sz with
     |true=>match vk tb.facts st.pc st.heap b ks y idx c with
      |.at cur _=>rN tb st e (iW sz cur) (.val (.nptr b ks y idx c e 0) st)
      |.lack e=>.lack e
      |.bad=>.bad
     |false=>.bad
    |_=>.bad
   |none=>.bad
  |_=>.bad
 |_=>.bad
def CS(tb:Tab)(st:St)(t:TypeId)(x i:SV):EffR:=
 match i with
 |.int k e=>match tb.und t with
  |some (.array len _)=>rz tb st e len fun j=>x9 tb t x (lit k j)
  |_=>.bad
 |_=>.bad
def rU(tb:Tab)(st:St)(e:E):EffR:=
 match eG tb.facts st.pc e with
 |true=>.val (.int .i64 e) st
 |false=>.lack (bz (aL .lss e (.int 0)))
def yi(tb:Tab)(st:St)(c:Bool)(t:TypeId)(x:SV):EffR:=
 match tb.und t with
 |some (.slice elem)=>match x with
  |.slice _ _ l m=>rU tb st (match c with | true=>m | false=>l)
  |.nslice _ l m=>rU tb st (match c with | true=>m | false=>l)
  |.bsl ks e=>match ks with
   |[]=>.bad
   |_=>rU tb st (match c with | true=>rD e | false=>iW (aU ks) e)
  |.nsl b ks e idx j=>match ks with
   |[]=>.bad
   |_=>match vk tb.facts st.pc st.heap b ks e idx j with
    |.at cur _=>rU tb st (match c with | true=>rD (mW cur) | false=>iW (aU ks) cur)
    |.lack e=>.lack e
    |.bad=>.bad
  |_=>.bad
 |some .string=>match c with
  |true=>.bad
  |false=>match x with
   |.str e=>.val (.int .i64 (.fn 13 e)) st
   |_=>.bad
 |some (.map _ _)=>match c with
  |true=>.bad
  |false=>match x with
  |.map b=>match st.heap.get b with
   |some ⟨_,.map es _⟩=>.val (.int .i64 (.int (.ofNat (aU es)))) st
   |some ⟨_,.mapl _ _ e⟩=>.val (.int .i64 (.fn 0 e)) st
   |_=>.bad
  |_=>.bad
 |_=>.bad
def dz(fs pc:List E)(a b:E):Bool:=mV fs pc b a
def fJ(d:E):Option SV->Option E
 |none=>some d
 |some (.int _ e)=>some e
 |some _=>none
def P2(fs pc:List E)(c lo hi mx:E)(hlo hhi hmx:Bool):Option E:=
 match hlo && !(eG fs pc lo)with
 |true=>some (bz (aL .lss lo (.int 0)))
 |false=>match hhi && !(eG fs pc hi)with
  |true=>some (bz (aL .lss hi (.int 0)))
  |false=>match hmx && !(eG fs pc mx)with
   |true=>some (bz (aL .lss mx (.int 0)))
   |false=>match hmx && !(dz fs pc mx c)with
    |true=>some (bz (aL .lss c mx))
    |false=>match hhi && !(dz fs pc hi mx)with
     |true=>some (bz (aL .lss mx hi))
     |false=>match hlo && !(dz fs pc lo hi)with
      |true=>some (bz (aL .lss hi lo))
      |false=>none
def iS:Option SV->Bool | some _=>true | none=>false
def Jn(fs pc:List E)(lo hi mx:E):Option Bool:=
 match jm fs pc lo hi&&dz fs pc hi mx with
 |true=>some true
 |false=>match fF fs pc (aL .eql mx lo)with
  |some true=>some false
  |some false=>some true
  |none=>none
def vX:E->Bool
 |.int (.ofNat n)=>Nat.beq n 0
 |_=>false
def Qm(fs pc:List E)(len cap lo hi mx:E)(hlo hhi hmx:Bool):Option E:=
 match hlo && !(eG fs pc lo)with
 |true=>some (bz (aL .lss lo (.int 0)))
 |false=>match hhi && !(eG fs pc hi)with
  |true=>some (bz (aL .lss hi (.int 0)))
  |false=>match hmx && !(eG fs pc mx)with
   |true=>some (bz (aL .lss mx (.int 0)))
   |false=>match hmx && !(dz fs pc mx cap||dz fs pc mx len)with
    |true=>some (bz (aL .lss len mx))
    |false=>match hhi && !(dz fs pc hi len)with
     |true=>some (bz (aL .lss len hi))
     |false=>match hmx && !(dz fs pc hi mx)with
      |true=>some (bz (aL .lss mx hi))
      |false=>match hlo && !(dz fs pc lo hi)with
       |true=>some (bz (aL .lss hi lo))
       |false=>none
def yh(fs pc:List E):List E->E
 |[]=>.bool false
 |c::cs=>match fF fs pc c with
  |some true=>yh fs pc cs
  |_=>c
def Co(tb:Tab)(st:St)(sz:Nat)(x:SV)(lo hi mx:E):EffR:=
 match x with
 |.nslice b _ c=>match vX lo with
  |true=>.val (.nslice b hi mx) st
  |false=>match Jn tb.facts st.pc lo hi mx with
   |some false=>match dz tb.facts st.pc hi mx&&dz tb.facts st.pc lo hi with
    |true=>.val (.nslice b (.int 0) (.int 0)) st
    |false=>.lack (yh tb.facts st.pc [bz (aL .lss mx hi),bz (aL .lss hi lo)])
   |some true=>match st.heap.get b with
    |some ⟨_,.flat _ _ _ ah _⟩=>match dz tb.facts st.pc c ah&&(dz tb.facts st.pc mx c&&(eG tb.facts st.pc lo&&(dz tb.facts st.pc lo hi&&dz tb.facts st.pc hi mx)))with
     |true=>.val (.slice b ⟨0,sz,lo⟩ (kR hi lo) (kR mx lo)) st
     |false=>.lack (yh tb.facts st.pc [bz (aL .lss ah c),bz (aL .lss c mx),bz (aL .lss lo (.int 0)),bz (aL .lss hi lo),bz (aL .lss mx hi)])
    |some ⟨_,.cells _ _ _⟩=>match gf lo with
     |some n=>match dz tb.facts st.pc lo hi&&dz tb.facts st.pc hi mx with
      |true=>.val (.slice b ⟨Nat.mul n sz,0,.int 0⟩ (kR hi lo) (kR mx lo)) st
      |false=>.bad
     |none=>.bad
    |_=>.bad
   |none=>.ask (aL .eql mx lo)
 |.slice b o _ _=>match vX lo with
  |true=>.val (.slice b o hi mx) st
  |false=>match Jn tb.facts st.pc lo hi mx with
   |some false=>match dz tb.facts st.pc hi mx&&dz tb.facts st.pc lo hi with
    |true=>.val (.slice b o (.int 0) (.int 0)) st
    |false=>.bad
   |some true=>match eG tb.facts st.pc lo&&(dz tb.facts st.pc lo hi&&dz tb.facts st.pc hi mx)with
    |true=>match gf lo with
     |some n=>.val (.slice b (uC o (Nat.mul n sz)) (kR hi lo) (kR mx lo)) st
     |none=>match HI tb.facts st.pc o sz lo with
      |some o'=>.val (.slice b o' (kR hi lo) (kR mx lo)) st
      |none=>.bad
    |false=>.bad
   |none=>.ask (aL .eql mx lo)
 |_=>.bad
def RS:SV->Option (E×E)
 |.slice _ _ l c=>some (l,c)
 |.nslice _ l c=>some (l,c)
 |_=>none
def DH(tb:Tab)(st:St)(t:TypeId)(x:SV)(lo hi mx:Option SV):EffR:=
 match tb.und t with
 |some (.slice elem)=>match cL tb elem with
  |some sz=>match iS mx && !(iS hi)with
   |true=>.bad
   |false=>match x with
    |.bsl ks e=>match Nat.beq (aU ks) sz&&Nat.blt 0 sz with
     |true=>match fJ (.int 0) lo,fJ (iW sz e) hi,fJ (rD e) mx with
      |some lo',some hi',some mx'=>match Qm tb.facts st.pc (iW sz e) (rD e) lo' hi' mx' (iS lo) (iS hi) (iS mx)with
       |some e=>.lack e
       |none=>.val (.bsl ks (.fn 24 (.pr (.pr (.int (.ofNat sz)) e) (.pr lo' (.pr hi' mx'))))) st
      |_,_,_=>.bad
     |false=>.bad
    |_=>match RS x with
     |some (l,c)=>match fJ (.int 0) lo,fJ l hi,fJ c mx with
      |some lo',some hi',some mx'=>match P2 tb.facts st.pc c lo' hi' mx' (iS lo) (iS hi) (iS mx)with
       |some e=>.lack e
       |none=>Co tb st sz x lo' hi' mx'
      |_,_,_=>.bad
     |none=>.bad
  |none=>.bad
 |_=>.bad
def iu:List SV->List SV->Nat->Option E
 |[],[],0=>some (.bool true)
 |x::xs,y::ys,n+1=>match x,y with
  |.int k a,.int k' b=>match ge k k',iu xs ys n with
   |true,some e=>some (Dk (aL .eql a b) e)
   |_,_=>none
  |_,_=>none
 |_,_,_=>none
def Cv(tb:Tab)(t:TypeId)(x y:SV):Option E:=
 match tb.und t with
 |some (.array len elem)=>match tb.und elem with
  |some (.int _)=>match cL tb elem,kN tb elem with
   |some 1,some false=>match x,y with
    |.agg xs,.agg ys=>iu xs ys len
    |_,_=>none
   |_,_=>none
  |_=>none
 |some .bool=>match x,y with
  |.bool a,.bool b=>Jk a b
  |_,_=>none
 |some (.int _)=>match x,y with
  |.int k a,.int k' b=>match ge k k' with
   |true=>some (aL .eql a b)
   |false=>none
  |_,_=>none
 |some .string=>match x,y with
  |.str a,.str b=>some (oD a b)
  |_,_=>none
 |_=>none
inductive FR where
 |at (i:Nat) (v:SV) (born:E)
 |no
 |ask (e:E)
 |bad
def uS(tb:Tab)(pc:List E)(kt:TypeId)(k:SV):List Ent->Nat->FR
 |[],_=>.no
 |x::es,i=>match Cv tb kt k x.k with
  |some e=>match fF tb.facts pc e with
   |some true=>.at i x.v x.born
   |some false=>uS tb pc kt k es (Nat.succ i)
   |none=>.ask e
  |none=>.bad
def yg(tb:Tab)(kt:TypeId)(k:SV):Bool:=
 match Cv tb kt k k with
 |some _=>true
 |none=>false
def lD(ok:Bool)(v:SV)(is:E):SV:=match ok with | true=>.tup [v,.bool is] | false=>v
def Dc(tb:Tab)(st:St)(t:TypeId)(x k:SV)(ok:Bool):EffR:=
 match tb.und t with
 |some (.map kt vt)=>match nr tb vt,yg tb kt k with
  |some z,true=>match x with
   |.nilm=>.val (lD ok z (.bool false)) st
   |.map b=>match st.heap.get b with
    |some ⟨_,.map es _⟩=>match uS tb st.pc kt k es 0 with
     |.at _ v _=>.val (lD ok v (.bool true)) st
     |.no=>.val (lD ok z (.bool false)) st
     |.ask e=>.ask e
     |.bad=>.bad
    |some ⟨_,.mapl k0 c e⟩=>match k,oq c z with
     |.int k1 ke,some ze=>match ge k1 k0 with
      |true=>.val (lD ok (uJ c (.fn 32 (.pr e (.pr ke ze)))) (.fn 33 (.pr e ke))) st
      |false=>.bad
     |_,_=>.bad
    |_=>.bad
   |_=>.bad
  |_,_=>.bad
 |_=>.bad
def Qv(tb:Tab)(tmps:Tm)(st:St)(t:TypeId)(x:Operand):EffR:=
 match bK tmps x with
  |some v=>match yn tb st t v with
   |some u=>.val u st
   |none=>Db tb st t v
  |none=>.bad
def Qz(tb:Tab)(tmps:Tm)(st:St)(t:TypeId)(x:Operand)(y:Operand):EffR:=
 match bK tmps x,bK tmps y with
  |some v,some w=>match KC tb st t v w with
   |some st'=>.skip st'
   |none=>vK tb st t v w
  |_,_=>.bad
def Qu(tb:Tab)(tmps:Tm)(st:St)(t:TypeId)(x:Operand)(i:Operand):EffR:=
 match bK tmps x,bK tmps i with
  |some v,some w=>CR tb st t v w
  |_,_=>.bad
def Qt(tb:Tab)(tmps:Tm)(st:St)(t:TypeId)(x:Operand)(i:Operand):EffR:=
 match bK tmps x,bK tmps i with
  |some v,some w=>CS tb st t v w
  |_,_=>.bad
def Qs(tb:Tab)(tmps:Tm)(st:St)(c:Call):EffR:=
 match c.callee with
  |.builtin b=>match dV c.argTypes.toList 0,kJ (bK tmps) c.args.toList with
   |some t,some vs=>match dV vs 0 with
    |some v=>match b with
     |.len=>yi tb st false t v
     |.cap=>yi tb st true t v
     |_=>.bad
    |none=>.bad
   |_,_=>.bad
  |_=>.bad
def Qy(tb:Tab)(tmps:Tm)(st:St)(t:TypeId)(x:Operand)(lo:Option Operand)(hi:Option Operand)(mx:Option Operand):EffR:=
 match bK tmps x,rG (bK tmps) lo,rG (bK tmps) hi,rG (bK tmps) mx with
  |some v,some l,some h,some m=>DH tb st t v l h m
  |_,_,_,_=>.bad
def Qw(tb:Tab)(tmps:Tm)(st:St)(t:TypeId)(x:Operand)(k:Operand)(ok:Bool):EffR:=
 match bK tmps x,bK tmps k with
  |some v,some w=>Dc tb st t v w ok
  |_,_=>.bad
def Qq(tb:Tab)(tmps:Tm)(st:St)(elem:TypeId)(x:Operand):EffR:=
 match bK tmps x with
  |some v=>.ofPair (vn tmps st elem v.cells)
  |none=>.bad
def Qo(tb:Tab)(tmps:Tm)(st:St)(elem:TypeId):EffR:=
 match nr tb elem with
  |some v=>.ofPair (vn tmps st elem v.cells)
  |none=>.bad
def Qr(tb:Tab)(tmps:Tm)(st:St)(t:TypeId)(len:Nat)(parts:Array (Nat×Operand)):EffR:=
 match tb.und t,qf (bK tmps) parts.toList with
  |some (.slice elem),some ps=>match cL tb elem,nr tb elem with
   |some sz,some z=>if Nat.ble (Nat.mul len sz) 16777216&&Nat.beq z.cells.length sz then match oo (fun i=>some (Nat.mul i sz,sz)) (oL z.cells len) ps with
    |some cs=>match vn tmps st elem cs with
     |some (.ptr b o,st')=>.val (.slice b o (.int (.ofNat len)) (.int (.ofNat len))) st'
     |_=>.bad
    |none=>.bad
    else .bad
   |_,_=>.bad
  |_,_=>.bad
def shF(tb:Tab)(st:St)(op:BinOp)(k:IntKind)(a b:E):EffR:=
 match fF tb.facts st.pc (aL .lss b (.int 0))with
 |some false=>.val (.int k (j9 op k a b)) st
 |_=>.lack (bz (aL .lss b (.int 0)))
def anO(tb:Tab)(st:St)(op:BinOp)(k:IntKind)(a:E)(k':IntKind)(b:E):EffR:=
 match ge k k' with
 |true=>match fF tb.facts st.pc (aL .eql b (.int 0))with
  |some false=>match op with
   |.quo=>.val (.int k (j9 .quo k a b)) st
   |.rem=>.val (.int k (j9 .rem k a b)) st
   |_=>.bad
  |_=>match op with
   |.quo=>.lack (bz (aL .eql b (.int 0)))
   |.rem=>.lack (bz (aL .eql b (.int 0)))
   |_=>.bad
 |false=>.bad
def xN(tb:Tab)(st:St)(op:BinOp)(k:IntKind)(a:E)(k':IntKind)(b:E):EffR:=
 .bad
def Qp(tb:Tab)(tmps:Tm)(st:St)(op:BinOp)(t:TypeId)(x:Operand)(y:Operand):EffR:=
 match bK tmps x,bK tmps y with
  |some (.int k a),some (.int k' b)=>xN tb st op k a k' b
  |some (.ptr a i),some (.ptr b j)=>
   match tb.und t with
   |some (.pointer elem)=>match cL tb elem with
    |some (Nat.succ _)=>match st.heap.get a,st.heap.get b,jZ i,jZ j with
     |some ⟨own1,.cells (_::_) _ _⟩,some ⟨own2,.cells (_::_) _ _⟩,some m,some n=>
      match own1||own2 with
      |true=>match op with
       |.eql=>.val (.bool (.bool (Nat.beq a b&&Nat.beq m n))) st
       |.neq=>.val (.bool (.bool (!(Nat.beq a b&&Nat.beq m n)))) st
       |_=>.bad
      |false=>.bad
     |_,_,_,_=>.bad
    |_=>.bad
   |_=>.bad
  |_,_=>.bad
def Qx(tb:Tab)(tmps:Tm)(st:St)(c:Operand)(a:Operand)(b:Operand):EffR:=
 match bK tmps c with
  |some (.bool e)=>match fF tb.facts st.pc e with
   |some true=>.ofVal (bK tmps a) st
   |some false=>.ofVal (bK tmps b) st
   |none=>.ask e
  |_=>.bad
noncomputable def Cr(tb:Tab)(tmps:Tm)(st:St)(o:Op):EffR:=
 Op.rec (motive:=fun _=>EffR)
  (fun _=>.bad)
  (fun _=>.bad)
  (fun c a b=>Qx tb tmps st c a b)
  (fun elem=>Qo tb tmps st elem)
  (fun elem x=>Qq tb tmps st elem x)
  (fun _ _=>.bad)
  (fun t len parts=>Qr tb tmps st t len parts)
  (fun _ _ _ _=>.bad)
  (fun t x=>Qv tb tmps st t x)
  (fun t x y=>Qz tb tmps st t x y)
  (fun _=>.bad)
  (fun _=>.bad)
  (fun _=>.bad)
  (fun op t x y _=>Qp tb tmps st op t x y)
  (fun _ _ _=>.bad)
  (fun _ _ _=>.bad)
  (fun _ _=>.bad)
  (fun _ _=>.bad)
  (fun _ _ _=>.bad)
  (fun _ _=>.bad)
  (fun _ _=>.bad)
  (fun _ _ _=>.bad)
  (fun t x lo hi mx=>Qy tb tmps st t x lo hi mx)
  (fun _ _ _=>.bad)
  (fun _ _ _=>.bad)
  (fun t x i=>Qu tb tmps st t x i)
  (fun t x i=>Qt tb tmps st t x i)
  (fun t x k ok=>Qw tb tmps st t x k ok)
  (fun _ _ _ _=>.bad)
  (fun _ _ _=>.bad)
  (fun _ _ _ _=>.bad)
  (fun _ _=>.bad)
  (fun _ _=>.bad)
  (fun _=>.bad)
  (fun _ _ _ _=>.bad)
  (fun _ _=>.bad)
  (fun c=>Qs tb tmps st c)
  (fun _=>.bad)
  (fun _=>.bad)
  (fun _=>.bad)
  (fun _ _=>.bad)
  (fun _ _ _=>.bad)
  (fun _ _=>.bad)
  o
theorem aXQ(tb:Tab)(tmps:Tm)(st:St)(o:Op):Cr tb tmps st o=(match o with
 |.load t x=>Qv tb tmps st t x
 |.store t x y=>Qz tb tmps st t x y
 |.indexAddr t x i=>Qu tb tmps st t x i
 |.index t x i=>Qt tb tmps st t x i
 |.call c=>Qs tb tmps st c
 |.slice t x lo hi mx=>Qy tb tmps st t x lo hi mx
 |.lookup t x k ok=>Qw tb tmps st t x k ok
 |.box elem x=>Qq tb tmps st elem x
 |.alloc elem=>Qo tb tmps st elem
 |.buildSlice t len parts=>Qr tb tmps st t len parts
 |.binOp op t x y _=>Qp tb tmps st op t x y
 |.pick c a b=>Qx tb tmps st c a b
 |_=>.bad):=by cases o<;>rfl
def akL(f:TypeId->Option (List CK)):List Field->Option (List CK)
 |[]=>some []
 |fd::fds=>match f fd.type,akL f fds with
  |some a,some b=>some (a++b)
  |_,_=>none
def qp(l:List CK):Nat->List CK
 |0=>[]
 |n+1=>l++qp l n
def C6(tb:Tab):Nat->TypeId->Option (List CK)
 |0,_=>none
 |d+1,t=>match tb.und t with
  |some (.int k)=>some [.int k]
  |some .bool=>some [.bool]
  |some .string=>some [.str]
  |some (.slice e)=>match C6 tb d e with
   |some ks=>some [.slc ks]
   |none=>none
  |some (.struct fs)=>akL (C6 tb d) fs.toList
  |some (.array n e)=>match C6 tb d e with
   |some ks=>some (qp ks n)
   |none=>none
  |_=>none
def uU:List CK->List SV->Option (List E)
 |[],[]=>some []
 |c::cs,v::vs=>match oq c v,uU cs vs with
  |some e,some l=>some (e::l)
  |_,_=>none
 |_,_=>none
def Jd(ks:List CK)(n:Nat)(vs:List SV):Option E:=
 match uU (qp ks n) vs with
 |some l=>some (dt l)
 |none=>none
inductive Held where
 |cells (vs:List SV)
 |list (ks:List CK) (l n:E)
def zg(w:Nat)(l n lo len:E):E:=
 match vX lo&&len.beq n with
 |true=>l
 |false=>match w with
  |1=>.fn 4 (.pr l (.pr lo (dr lo len)))
  |_=>match vX lo with
   |true=>.fn 18 (.pr l (.fn 8 (.pr len (.int (.ofNat w)))))
   |false=>.fn 4 (.pr l (.pr (.fn 8 (.pr lo (.int (.ofNat w)))) (.fn 8 (.pr (dr lo len) (.int (.ofNat w))))))
def Jz(w:Nat)(o:Off):Option E:=
 match o.scale with
 |0=>match Nat.beq (Nat.mod o.base w) 0 with
  |true=>some (.int (.ofNat (Nat.div o.base w)))
  |false=>none
 |s=>match Nat.beq s w&&Nat.beq o.base 0 with
  |true=>some o.idx
  |false=>none
def If(tb:Tab)(st:St)(sz:Nat)(v:SV):Option Held:=
 match v with
 |.nils=>some (.cells [])
 |.bsl ks e=>match Nat.beq (aU ks) sz&&Nat.blt 0 sz with
  |true=>some (.list ks e (iW sz e))
  |false=>none
 |.slice b o len _=>match st.heap.get b with
  |some ⟨_,.cells cs _ _⟩=>match gf len,jZ o with
   |some n,some m=>match oU (xO cs m) (Nat.mul n sz)with
    |some l=>match uE l with
     |true=>some (.cells l)
     |false=>none
    |none=>none
   |_,_=>none
  |some ⟨_,.flat ks l n _ _⟩=>match Nat.beq (aU ks) sz&&Nat.blt 0 sz,Jz sz o with
   |true,some lo=>match eG tb.facts st.pc lo&&(eG tb.facts st.pc len&&dz tb.facts st.pc (dr lo len) n)with
    |true=>some (.list ks (zg sz l n lo len) len)
    |false=>none
   |_,_=>none
  |_=>none
 |.nslice b len _=>match st.heap.get b with
  |some ⟨_,.cells cs _ _⟩=>match gf len with
   |some n=>match oU cs (Nat.mul n sz)with
    |some l=>match uE l with
     |true=>some (.cells l)
     |false=>none
    |none=>none
   |none=>none
  |some ⟨_,.flat ks l n _ _⟩=>match Nat.beq (aU ks) sz&&Nat.blt 0 sz with
   |true=>match eG tb.facts st.pc len&&dz tb.facts st.pc len n with
    |true=>some (.list ks (zg sz l n (.int 0) len) len)
    |false=>none
   |false=>none
  |_=>none
 |_=>none
def vJ(tmps:Tm)(st:St):Bool:=st.scp&&lg st.nv st.nb tmps
def Lc(sz:Nat)(c:E):E:=match sz with | 1=>c | _=>.fn 8 (.pr c (.int (.ofNat sz)))
def amQ(sz:Nat)(elem:TypeId)(ct:Held)(c:E):SObj:=
 match ct with
 |.cells vs=>.cells vs (Lc sz c) elem
 |.list ks l n=>.flat ks l n c elem
def Held.scp(nv nb:Nat):Held->Bool
 |.cells vs=>SV.scps nv nb vs
 |.list _ l n=>l.scp nv&&n.scp nv
def rL(tmps:Tm)(st:St)(sz:Nat)(elem:TypeId)(ct:Held)(need:E):Option (SV×St):=
 let c:=E.var st.nv
 match vJ tmps st&&(need.scp st.nv&&ct.scp st.nv st.nb)with
 |true=>T.insK st.heap st.nb ⟨true,amQ sz elem ct c⟩ fun h=>some (.nslice st.nb need c,⟨Nat.succ st.nv,Nat.succ st.nb,h,bz (aL .lss c need)::bz (aL .lss c (.int 0))::st.pc⟩)
 |false=>none
def SZ(l l':E):E:=
 match IY l with
 |true=>l'
 |false=>.fn 3 (.pr l l')
def PV(sz:Nat)(n m:Option Nat)(a b:Held):Option Held:=
 match a,b with
 |.cells x,.cells y=>some (.cells (x++y))
 |.list ks l n,.list ks' l' n'=>match iA ks ks' with
  |true=>some (.list ks (Jj l l') (dr n n'))
  |false=>none
 |.list ks l n,.cells y=>match m with
  |some m=>match Jd ks m y with
   |some l'=>some (.list ks (Jj l l') (dr n (.int (.ofNat m))))
   |none=>none
  |none=>none
 |.cells x,.list ks l' n'=>match n with
  |some n=>match Jd ks n x with
   |some l=>some (.list ks (SZ l l') (dr (.int (.ofNat n)) n'))
   |none=>none
  |none=>none
def va(sz:Nat)(v:SV):Option E:=
 match v with
 |.nils=>some (.int 0)
 |.slice _ _ l _=>some l
 |.nslice _ l _=>some l
 |.bsl _ e=>some (iW sz e)
 |_=>none
def uI(v:SV):Option E:=
 match v with
 |.nils=>some (.int 0)
 |.slice _ _ _ c=>some c
 |.nslice _ _ c=>some c
 |.bsl _ e=>some (rD e)
 |_=>none
inductive Eff2 where
 |val (v:SV) (st:St)
 |skip (st:St)
 |ask (e:E)
 |lack (e:E)
 |bad
def ry:E:=.int 2147483648
def DS(sz:Nat)(c ah:E):Bool:=
 match gf c with
 |some n=>(E.int (.ofNat (Nat.mul n sz))).beq ah
 |none=>(Lc sz c).beq ah
def Lm(st:St)(sz:Nat)(elem:TypeId)(v:SV):Option Nat:=
 match v with
 |.nslice b _ c=>match st.heap.get b with
  |some ⟨true,.flat ks _ _ ah e⟩=>match c.beq ah&&(Nat.beq (aU ks) sz&&Nat.beq e elem)with | true=>some b | false=>none
  |some ⟨true,.cells _ ah e⟩=>match DS sz c ah&&Nat.beq e elem with | true=>some b | false=>none
  |_=>none
 |.slice b o _ c=>match jZ o with
  |some 0=>match st.heap.get b with
   |some ⟨true,.cells _ ah e⟩=>match DS sz c ah&&Nat.beq e elem with | true=>some b | false=>none
   |_=>none
  |_=>none
 |_=>none
def P8(tb:Tab)(t:TypeId):Option Nat:=
 match tb.ty.get t with
 |some i=>some i.bytes
 |none=>none
def Do(old:SObj)(ct:Held):Option SObj:=
 match old,ct with
 |.cells _ ah e,.cells vs=>some (.cells vs ah e)
 |.flat _ _ _ ah e,.list ks l n=>some (.flat ks l n ah e)
 |_,_=>none
def aki(old:SObj)(ct:Held):Bool:=
 match old,ct with
 |.cells _ _ _,_=>true
 |.flat _ _ _ _ _,.list _ _ _=>true
 |_,_=>false
def KY(tmps:Tm)(st:St)(b:Nat)(sz:Nat)(elem:TypeId)(ct:Held)(need:E):Option (SV×St):=
 match st.heap.get b with
 |some ⟨_,old⟩=>match aki old ct with
  |true=>T.setK st.heap b ⟨true,.gone⟩ fun h=>rL tmps {st with heap:=h} sz elem ct need
  |false=>none
 |none=>none
def yb:SV->Bool
 |.bsl _ _=>true
 |_=>false
def Eff2.ofPair:Option (SV×St)->Eff2
 |some (v,st)=>.val v st
 |none=>.bad
def I0(tb:Tab)(t:TypeId):Bool:=
 match tb.und t with
 |some (.slice _)=>true
 |_=>false
def qI(fs pc:List E)(e:E):Bool:=
 match vX e with
 |true=>true
 |false=>match fF fs pc (aL .eql e (.int 0))with
  |some true=>true
  |_=>false
def aY8(fs pc:List E)(ls lx c:E):E:=
 match eG fs pc ls with
 |false=>bz (aL .lss ls (.int 0))
 |true=>match eG fs pc lx with
  |false=>bz (aL .lss lx (.int 0))
  |true=>bz (aL .lss c (.int 0))
def zu:E:=.iff (.bool true) (.bool true)
def Uk(fs pc:List E)(s:SV)(c:E)(ct:Held):Bool:=
 match ct with
 |.list _ _ _=>match s with
  |.nils=>rP zu fs
  |.bsl _ _=>match rP zu fs with | true=>qI fs pc c | false=>false
  |_=>false
 |_=>false
def B4(tb:Tab)(tmps:Tm)(st:St)(elem:TypeId)(sz:Nat)(s:SV)(a b:Held)(ls lx c:E):Eff2:=
  match PV sz (gf ls) (gf lx) a b with
  |some ct=>
    let need:=dr ls lx
    match eG tb.facts st.pc ls&&(eG tb.facts st.pc lx&&eG tb.facts st.pc c)with
    | true=>match dz tb.facts st.pc need ry with
      | true=>match fF tb.facts st.pc (aL .lss c need)with
        |some true=> .ofPair (rL tmps st sz elem ct need)
        | some false=>match !(rP zu tb.facts)&&qI tb.facts st.pc lx with
          |true=> .val s st
          | false=>match Lm st sz elem s with
            | some b=>match st.heap.get b with
              | some ⟨_,old⟩=>match Do old ct with
                |some obj=>T.setK st.heap b ⟨true,obj⟩ fun h=> .val (.nslice b need c) {st with heap:=h}
                |none=> .lack (aL .eql lx (.int 0))
              |none=> .lack (aL .eql lx (.int 0))
            | none=>match qI tb.facts st.pc lx with
              |true=> .val s st
              |false=> .lack (aL .eql lx (.int 0))
        | none=>match Lm st sz elem s with
          |some b=> .ofPair (KY tmps st b sz elem ct need)
          |none=>match Uk tb.facts st.pc s c ct with
           |true=> .ofPair (rL tmps st sz elem ct need)
           |false=>match yb s with
            | true=>match fF tb.facts st.pc (aL .eql lx (.int 0))with
              |some true=> .val s st
              |some false=> .lack (aL .lss c need)
              |none=> .ask (aL .eql lx (.int 0))
            | false=>match s with
              | .nils=>match fF tb.facts st.pc (aL .eql lx (.int 0))with
                |some true=> .val s st
                |some false=> .lack (aL .lss c need)
                |none=> .ask (aL .eql lx (.int 0))
              |_=> .ask (aL .lss c need)
      |false=> .lack (bz (aL .lss ry need))
    |false=> .lack (aY8 tb.facts st.pc ls lx c)
  |none=> .bad
def aiU(tb:Tab)(st:St)(sz:Nat)(v:SV):Option E:=
 match v with
 |.nslice b len _=>match st.heap.get b with
  |some ⟨_,o⟩=>match o with
   |.flat _ _ n _ _=>some (yh tb.facts st.pc [bz (aL .lss len (.int 0)),bz (aL .lss n len)])
   |_=>none
  |none=>none
 |.slice b off len _=>match st.heap.get b with
  |some ⟨_,o⟩=>match o with
   |.flat _ _ n _ _=>match Jz sz off with
    |some lo=>some (yh tb.facts st.pc [bz (aL .lss lo (.int 0)),bz (aL .lss len (.int 0)),bz (aL .lss n (dr lo len))])
    |none=>none
   |_=>none
  |none=>none
 |_=>none
def I5(x:Option E):Eff2:=
 match x with
 |some e=>.lack e
 |none=>.bad
def aqO(tb:Tab)(st:St)(elem xt:TypeId)(z x:SV):Option (Held×E):=
 none
def a6J(tb:Tab)(st:St)(x:SV):Option E:=
 match x with
 |.int .i64 n=>match gf n with
  |some _=>none
  |none=>some (yh tb.facts st.pc [bz (aL .lss n (.int 0)),bz (aL .lss (.int 4096) n)])
 |_=>none
def xy(tb:Tab)(tmps:Tm)(st:St)(t xt:TypeId)(s x:SV):Eff2:=
 match tb.und t with
 |some (.slice elem)=>match cL tb elem,P8 tb elem,nr tb elem with
  |some sz,some bytes,some z=>match Nat.blt 0 bytes&&(Nat.ble bytes 32768&&(Nat.blt 0 sz&&Nat.beq z.cells.length sz))with
   |true=>match If tb st sz s,va sz s,uI s with
    |some a,some ls,some c=>match I0 tb xt with
     |true=>match If tb st sz x,va sz x with
      |some b,some lx=>B4 tb tmps st elem sz s a b ls lx c
      |_,_=>I5 (aiU tb st sz x)
     |false=>match aqO tb st elem xt z x with
      |some (b,lx)=>B4 tb tmps st elem sz s a b ls lx c
      |none=>I5 (a6J tb st x)
    |_,_,_=>I5 (aiU tb st sz s)
   |false=>.bad
  |_,_,_=>.bad
 |_=>.bad
def ak9(tb:Tab)(tmps:Tm)(st:St)(t:TypeId)(n c:SV):Eff2:=
 .bad
def aiW(tb:Tab)(st:St)(t xt:TypeId)(d s:SV):Eff2:=
 .bad
def S7(fs pc:List E)(m:Nat)(ah:E):Bool:=
 match dz fs pc (.int (.ofNat m)) ah with
 |true=>true
 |false=>match ah with
  |.fn f (.pr c (.int (.ofNat k)))=>match Nat.beq f 8,Nat.blt 0 k with
   |true,true=>dz fs pc (.int (.ofNat (Nat.div (Nat.pred (Nat.add m k)) k))) c
   |_,_=>false
  |_=>false
def Ia(tb:Tab)(st:St)(elem:TypeId)(b:Nat)(o:Off)(z:SV):Eff2:=
 match KC tb st elem (.ptr b o) z with
 |some st'=>.val .undef st'
 |none=>match vK tb st elem (.ptr b o) z with
  |.skip st'=>.val .undef st'
  |.ask e=>.ask e
  |.lack e=>.lack e
  |_=>.bad
def xL(tb:Tab)(st:St)(elem:TypeId)(b:Nat)(o:Off):Eff2:=
 match cL tb elem,nr tb elem with
 |some sz,some z=>match Nat.beq z.cells.length sz&&uE z.cells with
  |true=>match st.heap.get b with
   |some ⟨true,.cells cs ah e'⟩=>match jZ o with
    |some off=>match Nat.ble cs.length off with
     |true=>match S7 tb.facts st.pc (Nat.add off z.cells.length) ah with
      |true=>T.setK st.heap b ⟨true,.cells cs ah e'⟩ fun h=>.val .undef {st with heap:=h}
      |false=>.lack (bz (aL .lss ah (.int (.ofNat (Nat.add off z.cells.length)))))
     |false=>Ia tb st elem b o z
    |none=>.bad
   |some ⟨true,.flat ks l n ah e'⟩=>match rJ tb.facts st.pc (aU ks) ah o with
    |.at idx j=>match Nat.beq j 0&&(Nat.beq z.cells.length (aU ks)&&dz tb.facts st.pc n idx)with
     |true=>T.setK st.heap b ⟨true,.flat ks l n ah e'⟩ fun h=>.val .undef {st with heap:=h}
     |false=>Ia tb st elem b o z
    |.lack e=>.lack e
    |.bad=>.bad
   |_=>.bad
  |false=>.bad
 |_,_=>.bad
def Ib(tb:Tab)(st:St)(t:TypeId)(v:SV):Eff2:=
 match tb.und t with
 |some (.slice elem)=>match v with
  |.slice b o n _=>match gf n with
   |some m=>match m with
    |0=>.val .undef st
    |k+1=>match k with
     |0=>xL tb st elem b o
     |_+1=>.bad
   |none=>match fF tb.facts st.pc (aL .eql n (.int 1))with
    |some true=>xL tb st elem b o
    |_=>.lack (aL .eql n (.int 1))
  |.nslice b n _=>match st.heap.get b,gf n with
   |some ⟨true,.cells _ _ _⟩,some m=>match m with
    |0=>.val .undef st
    |k+1=>match k with
     |0=>xL tb st elem b ⟨0,0,.int 0⟩
     |_+1=>.bad
   |_,_=>.bad
  |.nils=>.val .undef st
  |_=>.bad
 |_=>.bad
def qB(es:List Ent)(i:Nat)(v:SV):List Ent:=
 match es with
 |[]=>[]
 |x::es=>match i with
  |0=>⟨x.k,v,x.born⟩::es
  |i+1=>x::qB es i v
def Ii(es:List Ent)(i:Nat):List Ent:=
 match es with
 |[]=>[]
 |e::es=>match i with
  |0=>es
  |i+1=>e::Ii es i
def Kf(st:St)(b:Nat)(es:List Ent)(clk:E):St:=T.setK st.heap b ⟨true,.map es clk⟩ fun h=>{st with heap:=h}
def S2(st:St)(b:Nat)(k:IntKind)(c:CK)(e:E):St:=T.setK st.heap b ⟨true,.mapl k c e⟩ fun h=>{st with heap:=h}
def Df(tb:Tab)(st:St)(t:TypeId)(x k v:SV):Eff2:=
 match tb.und t with
 |some (.map kt _)=>match x,yg tb kt k with
  |.map b,true=>match st.heap.get b with
   |some ⟨true,.map es clk⟩=>match uS tb st.pc kt k es 0 with
    |.at i _ _=>.skip (Kf st b (qB es i v) clk)
    |.no=>.skip (Kf st b (es++[⟨k,v,clk⟩]) (dr clk (.int 1)))
    |.ask e=>.ask e
    |.bad=>.bad
   |some ⟨true,.mapl k0 c e⟩=>match k,oq c v with
    |.int k1 ke,some ve=>match ge k1 k0 with
     |true=>.skip (S2 st b k0 c (.fn 34 (.pr e (.pr ke ve))))
     |false=>.bad
    |_,_=>.bad
   |_=>.bad
  |_,_=>.bad
 |_=>.bad
def alb(tb:Tab)(tmps:Tm)(st:St)(t:TypeId)(x k:SV):Eff2:=
 .bad
def ai9(st:St)(x s v:SV):Eff2:=
 .bad
def ai3(tb:Tab)(st:St)(t:TypeId)(x k:SV):Eff2:=
 .bad
def rQ(tb:Tab)(tmps:Tm)(st:St)(v:SV)(yes:Bool):Eff2:=
 match v with
 |.nslice b len _=>match st.heap.get b with
  |some ⟨_,.cells _ _ _⟩=>.val (.bool (.bool (!yes))) st
  |some ⟨_,.flat _ _ n ah _⟩=>match jm tb.facts st.pc (.int 0) ah||jm tb.facts st.pc (.int 0) n with
   |true=>.val (.bool (.bool (!yes))) st
   |false=>match vJ tmps st&&n.scp st.nv with
    |true=>.val (.bool (match yes with | true=>.var st.nv | false=>.not (.var st.nv))) {st with nv:=Nat.succ st.nv,pc:=.imp (.var st.nv) (aL .eql n (.int 0))::st.pc}
    |false=>.bad
  |_=>.bad
 |.bsl ks e=>match Nat.blt 0 (aU ks)with
  | true=>.val (.bool (match yes with | true=>.fn 31 e | false=>.not (.fn 31 e))) (match Dm (iW (aU ks) e)with
    |true=>{st with pc:=.imp (.fn 31 e) (aL .eql (iW (aU ks) e) (.int 0))::.imp (.fn 31 e) (aL .eql (.fn 0 e) (.int 0))::st.pc}
    |false=>st)
  |false=>.bad
 |_=>.bad
def yc:SV->Bool
 |.nils=>true
 |_=>false
def aoQ(tb:Tab)(tmps:Tm)(st:St)(src dst:TypeId)(v:SV):Eff2:=
 .bad
def anP(tb:Tab)(tmps:Tm)(st:St)(t:TypeId)(x:SV):Eff2:=
 .bad
def amF(tb:Tab)(tmps:Tm)(st:St)(x:SV)(str:Bool):Eff2:=
 .bad
def QA(st:St)(x:SV):Eff2:=
 match x with
 |.ptr b o=>match jZ o with
  |some 0=>match st.heap.get b with
   |some ⟨true,.iter k c e _ (some u)⟩=>.val (.tup [.int k u,uJ c (.fn 32 (.pr e (.pr u (.int 0))))]) st
   |_=>.bad
  |_=>.bad
 |_=>.bad
def Q3(tb:Tab)(tmps:Tm)(st:St)(t:TypeId)(x:Operand):Eff2:=
 match bK tmps x with
  |some v=>anP tb tmps st t v
  |none=>.bad
def Q2(tb:Tab)(tmps:Tm)(st:St)(x:Operand)(str:Bool):Eff2:=
 match bK tmps x with
  |some v=>amF tb tmps st v str
  |none=>.bad
def QV(tb:Tab)(tmps:Tm)(st:St)(x:Operand):Eff2:=
 match bK tmps x with
  |some v=>QA st v
  |none=>.bad
def IF(st:St)(n len cap ah l:E):Bool:=
 n.beq len&&(cap.beq ah&&(st.scp&&(l.scp st.nv&&(len.scp st.nv&&cap.scp st.nv))))
def CJ(ks0:List CK)(fs:List E)(p:SV×St):SV×St:=
 match p.1 with
 |.nils=>(.bsl ks0 (.fn 30 (.int 0)),p.2)
 |.nslice _ (.int 0) (.int 0)=>match p.2.scp with
  |true=>(.bsl ks0 (.fn 28 (.pr (.pr (.var p.2.nv) (.int 0)) (.fn 10 (.int 0)))),{p.2 with nv:=Nat.succ p.2.nv})
  |false=>p
 |.nslice b len cap=>match p.2.heap.get b with
  |some ⟨true,.flat ks l n ah _⟩=>match IF p.2 n len cap ah l with
   |true=>T.setK p.2.heap b ⟨true,.gone⟩ fun h=>(.bsl ks (.fn 28 (.pr (.pr (.var p.2.nv) len) l)),{p.2 with nv:=Nat.succ p.2.nv,heap:=h})
   |false=>p
  |_=>p
 |.slice _ _ (.int 0) (.int 0)=>match p.2.scp with
  |true=>(.bsl ks0 (.fn 28 (.pr (.pr (.var p.2.nv) (.int 0)) (.fn 10 (.int 0)))),{p.2 with nv:=Nat.succ p.2.nv})
  |false=>p
 |_=>p
inductive FM where
 |stay
 |down (ks:List CK)
 |up (ks:List CK) (el:TypeId)
 deriving Inhabited
def zv(ks:List CK)(el:TypeId)(v:SV)(st:St):SV×St:=
 match st.scp&&Nat.blt 0 (aU ks)with
 |true=>T.insK st.heap st.nb ⟨true,.flat ks (.fn 10 (.int 0)) (.int 0) (.int 0) el⟩ fun h=>(.nslice st.nb (.int 0) (.int 0),{st with nb:=Nat.succ st.nb,heap:=h})
 |false=>(v,st)
def DT(ks0:List CK)(el:TypeId)(fs:List E)(v:SV)(st:St):SV×St:=
 match v with
 |.nils=>zv ks0 el v st
 |.bsl ks e=>match Nat.blt 0 (aU ks)&&(qI fs st.pc (iW (aU ks) e)&&qI fs st.pc (rD e))with
  |true=>zv ks0 el v st
  |false=>(v,st)
 |_=>(v,st)
def CL(m:FM)(fs:List E)(v:SV)(st:St):SV×St:=
 match m with
 |.stay=>(v,st)
 |.down ks=>CJ ks fs (v,st)
 |.up ks el=>DT ks el fs v st
def lI(fs:List E):List FM->List SV->St->List SV×St
 |m::ms,v::vs,st=>match m with
  |.stay=>match v.scp st.nv st.nb with
   |true=>match lI fs ms vs st with
    |(vs',st')=>(v::vs',st')
   |false=>(v::vs,st)
  |_=>match CL m fs v st with
   |(v',st1)=>match v'.scp st1.nv st1.nb&&SV.scps st.nv st.nb vs with
    |true=>match lI fs ms vs st1 with
     |(vs',st')=>(v'::vs',st')
    |false=>(v::vs,st)
 |_,vs,st=>(vs,st)
def uZ(ms:List FM)(fs:List E)(v:SV)(st:St):SV×St:=
 match v with
 |.agg cs=>match lI fs ms cs st with
  |(cs',st')=>(.agg cs',st')
 |v=>match ms with
  |m::_=>CL m fs v st
  |[]=>(v,st)
def mU(ms:List FM)(fs:List E)(p:SV×St):SV×St:=
 match p.1 with
 |.tup vs=>match vs with
  |v::vs=>match uZ ms fs v p.2 with
   |(v',st1)=>match SV.scps p.2.nv p.2.nb vs with
    |true=>(.tup (v'::vs),st1)
    |false=>p
  |[]=>p
 |v=>uZ ms fs v p.2
def x5:List CK->List FM
 |[]=>[]
 |c::cs=>match c with
  |.slc ks=>.down ks::x5 cs
  |_=>.stay::x5 cs
def Cn(tb:Tab)(tmps:Tm)(st:St)(elem:TypeId)(b:Nat)(s x:SV):Option St:=
 match st.heap.get b with
 |some ⟨true,.cells vs ah e⟩=>match C6 tb 12 elem with
  |some ks=>match lg st.nv st.nb tmps&&(s.scp st.nv st.nb&&(x.scp st.nv st.nb&&ah.scp st.nv))with
   |true=>match lI tb.facts (x5 (qp ks (Nat.div (aU vs) (aU ks)))) vs st with
    |(vs',st')=>match st'.heap.get b with
     |some ⟨true,.cells _ _ _⟩=>some (T.setK st'.heap b ⟨true,.cells vs' ah e⟩ fun h=>{st' with heap:=h})
     |_=>none
   |false=>none
  |none=>none
 |_=>none
def B5(tb:Tab)(tmps:Tm)(st:St)(t xt:TypeId)(s x:SV):Eff2:=
 match tb.und t with
 | some (.slice elem)=>match (match x with
   |.slice b _ _ _=>Cn tb tmps st elem b s x
   |.nslice b _ _=>Cn tb tmps st elem b s x
   |_=>none)with
  |some st'=>xy tb tmps st' t xt s x
  |none=>.bad
 |_=>.bad
def PW(tb:Tab)(tmps:Tm)(st:St)(t xt:TypeId)(s x:SV):Eff2:=
 match rP zu tb.facts with
 |true=>match B5 tb tmps st t xt s x with
  |.bad=>xy tb tmps st t xt s x
  |r=>r
 |false=>match xy tb tmps st t xt s x with
  |.bad=>B5 tb tmps st t xt s x
  |r=>r
def ni:List CK->Nat
 |[]=>0
 |c::cs=>match c with
  |.slc _=>Nat.succ (ni cs)
  |_=>ni cs
def SA(fs pc:List E)(ks:List CK)(idx own:E):Option E:=
 match jm fs pc idx own with
 |true=>some own
 |false=>match mV fs pc idx own&&mV fs pc own idx with
  |true=>match Nat.beq (ni ks) 1 with
   |true=>some (.fn 6 (.pr idx (.int 1)))
   |false=>none
  |false=>none
def yA(tb:Tab)(tmps:Tm)(st:St)(t:TypeId)(p v:SV):Eff2:=
 match p,v with
 |.ptr b o,.nslice b2 len cap=>match st.heap.get b,st.heap.get b2 with
  |some ⟨true,.nest ks l n ah elem own⟩,some ⟨true,.flat ks2 l2 n2 tot2 _⟩=>match rJ tb.facts st.pc (aU ks) n o with
   |.at idx j=>match dV ks j with
    |some (.slc ks')=>match iA ks' ks2&&IF st n2 len cap tot2 l2&&lg st.nv st.nb tmps&&p.scp st.nv st.nb with
     |true=>match cL tb t with
      |some 1=>match SA tb.facts st.pc ks idx own with
       |some own'=>T.setK st.heap b2 ⟨true,.gone⟩ fun h=>T.setK h b ⟨true,.nest ks (kU l (dP (aU ks) idx j) (.fn 28 (.pr (.pr (.var st.nv) len) l2))) n ah elem own'⟩ fun h=>.skip {st with nv:=Nat.succ st.nv,heap:=h}
       |none=>.bad
      |_=>.bad
     |false=>.bad
    |_=>.bad
   |.lack e=>.lack e
   |.bad=>.bad
  |_,_=>.bad
 |_,_=>.bad
def aYP(st:St)(p:SV):Bool:=
 match p with
 |.ptr b _=>match st.heap.get b with
  |some ⟨_,.nest _ _ _ _ _ _⟩=>true
  |_=>false
 |_=>false
def Q4(tb:Tab)(tmps:Tm)(st:St)(t:TypeId)(x:Operand)(y:Operand):Eff2:=
  match bK tmps x,bK tmps y with
  |some p,some v=>match aYP st p with
   |true=>yA tb tmps st t p v
   |false=>match C6 tb 12 t with
    | some ks=>match lg st.nv st.nb tmps&&p.scp st.nv st.nb with
      | true=>match mU (x5 ks) tb.facts (v,st)with
        | (v',st')=>match vK tb st' t p v' with
          |.skip st''=> .skip st''
          |.lack e=> .lack e
          |_=> .bad
      |false=> .bad
    |none=> .bad
  |_,_=> .bad
def QZ(tb:Tab)(tmps:Tm)(st:St)(t:TypeId)(n:Operand)(c:Operand):Eff2:=
 match bK tmps n,bK tmps c with
  |some a,some b=>ak9 tb tmps st t a b
  |_,_=>.bad
def QY(tb:Tab)(tmps:Tm)(st:St)(t:TypeId)(r:Option Operand):Eff2:=
 match r with
  |none=>match vJ tmps st with
   |true=>T.insK st.heap st.nb ⟨true,.map [] (.int 0)⟩ fun h=>.val (.map st.nb) {st with nb:=Nat.succ st.nb,heap:=h}
   |false=>.bad
  |some _=>.bad
def Q1(tb:Tab)(tmps:Tm)(st:St)(t:TypeId)(m:Operand)(k:Operand)(x:Operand):Eff2:=
 match bK tmps m,bK tmps k,bK tmps x with
  |some a,some b,some c=>Df tb st t a b c
  |_,_,_=>.bad
def QX(tb:Tab)(tmps:Tm)(st:St)(t:TypeId)(m:Operand)(k:Operand)(x:Operand):Eff2:=
 match bK tmps m,bK tmps k,bK tmps x with
  |some a,some b,some c=>Df tb st t a b c
  |_,_,_=>.bad
def Q0(tb:Tab)(tmps:Tm)(st:St)(t:TypeId)(m:Operand)(k:Operand):Eff2:=
 match bK tmps m,bK tmps k with
  |some a,some b=>alb tb tmps st t a b
  |_,_=>.bad
def QW(tb:Tab)(tmps:Tm)(st:St)(m:Operand)(s:Operand)(x:Operand):Eff2:=
 match bK tmps m,bK tmps s,bK tmps x with
  |some a,some b,some c=>ai9 st a b c
  |_,_,_=>.bad
def QS(tb:Tab)(tmps:Tm)(st:St)(op:BinOp)(t:TypeId)(x:Operand)(y:Operand):Eff2:=
 match I0 tb t,bK tmps x,bK tmps y with
  |true,some a,some b=>match op with
   |.eql=>match yc b with
    |true=>rQ tb tmps st a true
    |false=>match yc a with | true=>rQ tb tmps st b true | false=>.bad
   |.neq=>match yc b with
    |true=>rQ tb tmps st a false
    |false=>match yc a with | true=>rQ tb tmps st b false | false=>.bad
   |_=>.bad
  |_,_,_=>.bad
def QU(tb:Tab)(tmps:Tm)(st:St)(src:TypeId)(dst:TypeId)(x:Operand):Eff2:=
 match bK tmps x with
  |some v=>aoQ tb tmps st src dst v
  |none=>.bad
def QT(tb:Tab)(tmps:Tm)(st:St)(c:Call):Eff2:=
 match c.callee with
  |.builtin b=>match kJ (bK tmps) c.args.toList with
   |some [v,w]=>match b with
    |.append=>match c.argTypes.toList with
     |[t,xt]=>PW tb tmps st t xt v w
     |_=>.bad
    |.copy=>match c.argTypes.toList with
     |[t,xt]=>aiW tb st t xt v w
     |_=>.bad
    |.delete=>match c.argTypes.toList with
     |t::_=>ai3 tb st t v w
     |_=>.bad
    |_=>.bad
   |some [v]=>match b with
    |.clear=>match c.argTypes.toList with
     |[t]=>Ib tb st t v
     |_=>.bad
    |_=>.bad
   |_=>.bad
  |_=>.bad
noncomputable def Cs(tb:Tab)(tmps:Tm)(st:St)(o:Op):Eff2:=
 Op.rec (motive:=fun _=>Eff2)
  (fun _=>.bad)
  (fun _=>.bad)
  (fun _ _ _=>.bad)
  (fun _=>.bad)
  (fun _ _=>.bad)
  (fun _ _=>.bad)
  (fun _ _ _=>.bad)
  (fun t m k x=>QX tb tmps st t m k x)
  (fun _ _=>.bad)
  (fun t x y=>Q4 tb tmps st t x y)
  (fun _=>.bad)
  (fun _=>.bad)
  (fun _=>.bad)
  (fun op t x y _=>QS tb tmps st op t x y)
  (fun _ _ _=>.bad)
  (fun src dst x=>QU tb tmps st src dst x)
  (fun _ _=>.bad)
  (fun _ _=>.bad)
  (fun _ _ _=>.bad)
  (fun t r=>QY tb tmps st t r)
  (fun _ _=>.bad)
  (fun t n c=>QZ tb tmps st t n c)
  (fun _ _ _ _ _=>.bad)
  (fun _ _ _=>.bad)
  (fun _ _ _=>.bad)
  (fun _ _ _=>.bad)
  (fun _ _ _=>.bad)
  (fun _ _ _ _=>.bad)
  (fun t m k x=>Q1 tb tmps st t m k x)
  (fun t m k=>Q0 tb tmps st t m k)
  (fun _ m s x=>QW tb tmps st m s x)
  (fun t x=>Q3 tb tmps st t x)
  (fun x s=>Q2 tb tmps st x s)
  (fun x=>QV tb tmps st x)
  (fun _ _ _ _=>.bad)
  (fun _ _=>.bad)
  (fun c=>QT tb tmps st c)
  (fun _=>.bad)
  (fun _=>.bad)
  (fun _=>.bad)
  (fun _ _=>.bad)
  (fun _ _ _=>.bad)
  (fun _ _=>.bad)
  o
theorem aXO(tb:Tab)(tmps:Tm)(st:St)(o:Op):Cs tb tmps st o=(match o with
 |.makeSlice t n c=>QZ tb tmps st t n c
 |.makeMap t r=>QY tb tmps st t r
 |.mapUpdate t m k x=>Q1 tb tmps st t m k x
 |.insert t m k x=>QX tb tmps st t m k x
 |.mapEntry t m k=>Q0 tb tmps st t m k
 |.entryStore _ m s x=>QW tb tmps st m s x
 |.range t x=>Q3 tb tmps st t x
 |.next x s=>Q2 tb tmps st x s
 |.entry x=>QV tb tmps st x
 |.binOp op t x y _=>QS tb tmps st op t x y
 |.convert src dst x=>QU tb tmps st src dst x
 |.call c=>QT tb tmps st c
 |.store t x y=>Q4 tb tmps st t x y
 |_=>.bad):=by cases o<;>rfl
structure Node where
 listed:Nat
 left:Nat
 tmps:Tm
 st:St
 deriving Inhabited
abbrev bc:=Option (List Out)
abbrev gi:=Tm->St->bc
structure Info where
 wait:Nat
 reads:Nat
 dst:Nat
inductive Task where
 |code (g:FuncId) (c:Code)
 |rounds (g:FuncId) (c:Code)
 |call (f:FuncId) (args:List SV)
 |draw (all:List Oper) (n:Nat)
 |layer (all:List Oper) (infos:List Info) (l:List Node)
def kP(a b:bc):bc:=
 match a with
 |some l=>match b with
  |some m=>some (l++m)
  |none=>none
 |none=>none
def nq:List Edge->Nat
 |[]=>0
 |e::es=>match Region.binds .any e with
  |true=>Nat.lor (Nat.pow 2 e.on) (nq es)
  |false=>nq es
def qy:List Operand->Nat
 |[]=>0
 |x::xs=>match x with
  |.tmp t=>Nat.lor (Nat.pow 2 t) (qy xs)
  |_=>qy xs
def Kr(all:List Oper)(j:Nat):Option Tmp:=match dV all j with | some o=>o.dst | none=>none
def HT:Option Tmp->Nat
 |some t=>Nat.pow 2 t
 |none=>0
def aj9(all:List Oper)(o:Oper):Nat:=
 match o.guard with
 |some (j,_)=>HT (Kr all j)
 |none=>0
def eX(all:List Oper)(o:Oper):Info:=
 ⟨nq o.after.toList,Nat.lor (aj9 all o) (qy o.op.operands.toList),HT o.dst⟩
def cZ(all:List Oper):List Oper->List Info
 |[]=>[]
 |o::os=>eX all o::cZ all os
def kY(listed:Nat):List Oper->List Info->Nat->List (Nat×Oper×Info)
 |o::os,m::ms,i=>match Nat.testBit listed i with
  |true=>kY listed os ms (Nat.succ i)
  |false=>match Nat.beq (Nat.land m.wait listed) m.wait with
   |true=>(i,o,m)::kY listed os ms (Nat.succ i)
   |false=>kY listed os ms (Nat.succ i)
 |_,_,_=>[]
def ou(listed i:Nat)(x:Info):List Info->Nat->Bool
 |[],_=>true
 |m::ms,j=>match Nat.testBit listed j with
  |true=>ou listed i x ms (Nat.succ j)
  |false=>match Nat.beq i j with
   |true=>ou listed i x ms (Nat.succ j)
   |false=>match Nat.testBit m.wait i with
    |true=>ou listed i x ms (Nat.succ j)
    |false=>match Nat.beq (Nat.land x.dst m.reads) 0 with
     |true=>match Nat.beq (Nat.land x.dst m.dst) 0 with
      |true=>match Nat.beq (Nat.land m.dst x.reads) 0 with
       |true=>ou listed i x ms (Nat.succ j)
       |false=>false
      |false=>false
     |false=>false
def P9(tb:Tab)(tmps:Tm)(c:Call):Option (FuncId×List SV):=
 match c.callee with
 |.value f=>match bK tmps f,kJ (bK tmps) c.args.toList with
  |some (.func (.func f) fi ca),some vs=>match tb.fn.get f with
   |some fn=>match fn.body with
    |some _=>some (f,fi++(vs++ca))
    |none=>none
   |none=>none
  |_,_=>none
 |_=>none
inductive Want where
 |yes | no | bad | ask (slot:Tmp) (e:E) (want:Bool)
def Ll(all:List Oper)(tmps:Tm)(o:Oper):Want:=
 match o.guard with
 |none=>.yes
 |some (j,want)=>match Kr all j with
  |some t=>match tmps.get t with
   |some (.bool e)=>match e with
    |.bool b=>match rB b want with | true=>.yes | false=>.no
    |_=>.ask t e want
   |some .junk=>.bad
   |_=>.no
  |none=>.no
def gZ{O:Type}(tmps:Tm)(d:Option Tmp)(v:SV)(k:Tm->O):O:=
 match d with
 |none=>k tmps
 |some t=>T.setK tmps t v k
def lU(tb:Tab)(st:St)(tmps:Tm):List ResultVar->Option (List SV)
 |[]=>some []
 |.tmp t::rs=>match lU tb st tmps rs with
  |some l=>match tmps.get t with
   |some v=>match v with
    |.junk=>none
    |_=>some (v::l)
   |none=>some (.undef::l)
  |none=>none
 |.cell a t::rs=>match tmps.get a with
  |some x=>match yn tb st t x,lU tb st tmps rs with
   |some v,some l=>some (v::l)
   |_,_=>none
  |none=>none
def vO:List SV->SV
 |[v]=>v
 |vs=>.tup vs
def Rf:Fn->Fn->Bool
 |.func a,.func b=>Nat.beq a b
 |_,_=>false
mutual
def SV.beq:SV->SV->Bool
 |.int k e,.int k' e'=>ge k k'&&e.beq e'
 |.bool e,.bool e'=>e.beq e'
 |.str e,.str e'=>e.beq e'
 |.nilp,.nilp | .nils,.nils | .nilm,.nilm | .nili,.nili | .nilf,.nilf=>true
 |.ptr b o,.ptr b' o'=>Nat.beq b b'&&Nat.beq o.base o'.base&&Nat.beq o.scale o'.scale&&o.idx.beq o'.idx
 |.slice b o l c,.slice b' o' l' c'=>Nat.beq b b'&&Nat.beq o.base o'.base&&Nat.beq o.scale o'.scale&&o.idx.beq o'.idx&&l.beq l'&&c.beq c'
 |.map b,.map b'=>Nat.beq b b'
 |.nslice b l c,.nslice b' l' c'=>Nat.beq b b'&&l.beq l'&&c.beq c'
 |.bsl ks e,.bsl ks' e'=>iA ks ks'&&e.beq e'
 |.bptr ks e i j,.bptr ks' e' i' j'=>iA ks ks'&&e.beq e'&&i.beq i'&&Nat.beq j j'
 |.func fn fi ca,.func fn' fi' ca'=>Rf fn fn'&&SV.beqs fi fi'&&SV.beqs ca ca'
 |.agg cs,.agg cs'=>SV.beqs cs cs'
 |.tup cs,.tup cs'=>SV.beqs cs cs'
 |.junk,.junk=>true
 |.nsl b ks e i c,.nsl b' ks' e' i' c'=>Nat.beq b b'&&iA ks ks'&&e.beq e'&&i.beq i'&&Nat.beq c c'
 |.nptr b ks e i c x j,.nptr b' ks' e' i' c' x' j'=>Nat.beq b b'&&iA ks ks'&&e.beq e'&&i.beq i'&&Nat.beq c c'&&x.beq x'&&Nat.beq j j'
 |_,_=>false
def SV.beqs:List SV->List SV->Bool
 |[],[]=>true
 |x::xs,y::ys=>x.beq y&&SV.beqs xs ys
 |_,_=>false
end
def yO:List Ent->List Ent->Bool
 |[],[]=>true
 |x::xs,y::ys=>x.k.beq y.k&&(x.v.beq y.v&&(x.born.beq y.born&&yO xs ys))
 |_,_=>false
def am4:Option E->Option E->Bool
 |none,none=>true
 |some a,some b=>a.beq b
 |_,_=>false
def SObj.beq:SObj->SObj->Bool
 |.gone,.gone=>true
 |.cells cs t e,.cells cs' t' e'=>Nat.beq e e'&&t.beq t'&&SV.beqs cs cs'
 |.flat ks l n t e,.flat ks' l' n' t' e'=>Nat.beq e e'&&l.beq l'&&n.beq n'&&t.beq t'&&iA ks ks'
 |.map es c,.map es' c'=>c.beq c'&&yO es es'
 |.mapl k c e,.mapl k' c' e'=>ge k k'&&c.beq c'&&e.beq e'
 |.maplp k c e ke s,.maplp k' c' e' ke' s'=>ge k k'&&c.beq c'&&e.beq e'&&ke.beq ke'&&s.beq s'
 |.iter k c e n u,.iter k' c' e' n' u'=>ge k k'&&c.beq c'&&e.beq e'&&n.beq n'&&am4 u u'
 |.nest ks l n t e o,.nest ks' l' n' t' e' o'=>Nat.beq e e'&&l.beq l'&&n.beq n'&&t.beq t'&&iA ks ks'&&o.beq o'
 |_,_=>false
def T.beq{G:Type}(f:G->G->Bool):T G->T G->Bool
 |.nil,.nil=>true
 |.node v l r,.node v' l' r'=>f v v'&&T.beq f l l'&&T.beq f r r'
 |_,_=>false
def Blk.beq(x y:Blk):Bool:=rB x.own y.own&&x.obj.beq y.obj
def yR:List E->List E->Bool
 |[],[]=>true
 |x::xs,y::ys=>x.beq y&&yR xs ys
 |_,_=>false
def St.beq(a b:St):Bool:=Nat.beq a.nv b.nv&&Nat.beq a.nb b.nb&&yR a.pc b.pc&&T.beq Blk.beq a.heap b.heap
def Node.beq(a b:Node):Bool:=
 Nat.beq a.listed b.listed&&Nat.beq a.left b.left&&T.beq SV.beq a.tmps b.tmps&&a.st.beq b.st
def CN:List Node->Node->Bool
 |[],_=>false
 |x::xs,n=>match x.beq n with | true=>true | false=>CN xs n
def nh{O:Type}(P:Program)(tb:Tab)(all:List Oper)(infos:List Info):List Oper->List Info->Nat->Nat->Nat->Tm->(Nat->Nat->Tm->O)->O
 |o::os,m::ms,i,listed,left,tmps,k=>
  match Nat.testBit listed i with
  |true=>nh P tb all infos os ms (Nat.succ i) listed left tmps k
  |false=>match Nat.beq (Nat.land m.wait listed) m.wait with
   |true=>match left with
    |0=>k listed left tmps
    |left'+1=>match Ll all tmps o with
     |.yes=>match DD P tb (bK tmps) o.op with
      |some v=>match ou listed i m infos 0 with
       |true=>gZ tmps o.dst v fun tmps=>kM (Nat.lor (Nat.pow 2 i) listed) fun listed=>nh P tb all infos os ms (Nat.succ i) listed left' tmps k
       |false=>nh P tb all infos os ms (Nat.succ i) listed left tmps k
      |none=>nh P tb all infos os ms (Nat.succ i) listed left tmps k
     |.no=>match ou listed i m infos 0 with
      |true=>gZ tmps o.dst .undef fun tmps=>kM (Nat.lor (Nat.pow 2 i) listed) fun listed=>nh P tb all infos os ms (Nat.succ i) listed left' tmps k
      |false=>nh P tb all infos os ms (Nat.succ i) listed left tmps k
     |_=>nh P tb all infos os ms (Nat.succ i) listed left tmps k
   |false=>nh P tb all infos os ms (Nat.succ i) listed left tmps k
 |_,_,_,listed,left,tmps,k=>k listed left tmps
def yV(acc:List Node)(x:Node):List Node:=match CN acc x with | true=>acc | false=>x::acc
def sD(P:Program)(tb:Tab)(all:List Oper)(infos:List Info)(listed left:Nat):List Out->List Node->List Node
 |[],acc=>acc
 |o::os,acc=>nh P tb all infos all infos 0 listed left o.tmps fun listed' left' tmps=>
  sD P tb all infos listed left os (yV acc ⟨listed',left',tmps,o.st⟩)
def uQ(_:String):bc:=none
def I4(_:String)(_:St)(_:E):bc:=none
abbrev cH:=Task->Tm->St->(Out->bc)->bc
def a0l(o:Op):String:=
 match o with
 |.load _ _=> "load" | .store _ _ _=> "store" | .move _=> "move" | .assign _=> "assign" | .pick _ _ _=> "pick" | .nilCheck _=> "nilCheck" | .binOp _ _ _ _ _=> "binOp" | .unOp _ _ _=> "unOp" | .convert _ _ _=> "convert"
 |.fieldAddr _ _ _=> "fieldAddr" | .field _ _ _=> "field" | .indexAddr _ _ _=> "indexAddr" | .index _ _ _=> "index" | .extract _ _=> "extract" | .build _ _=> "build" | .makeFunc _ _ _=> "makeFunc" | .slice _ _ _ _ _=> "slice"
 |.box _ _=> "box" | .alloc _=> "alloc" | .buildSlice _ _ _=> "buildSlice" | .insert _ _ _ _=> "insert" | .ready _=> "ready" | .waits _=> "waits" | .sliceToArrayPointer _ _=> "sliceToArrayPointer" | .makeInterface _ _=> "makeInterface" | .makeMap _ _=> "makeMap" | .makeChan _ _=> "makeChan" | .makeSlice _ _ _=> "makeSlice" | .lookup _ _ _ _=> "lookup" | .mapUpdate _ _ _ _=> "mapUpdate" | .mapEntry _ _ _=> "mapEntry" | .entryStore _ _ _ _=> "entryStore" | .range _ _=> "range" | .next _ _=> "next" | .entry _=> "entry" | .typeAssert _ _ _ _=> "typeAssert" | .call _=> "call" | _=> "other"
def Blk.same(x y:Blk):Bool:=
 match x.obj with
 |.iter _ _ _ _ _=>false
 |_=>x.beq y
def lJ:T Blk->T Blk->Bool
 |.nil,_=>true
 |.node v l r,.node v' l' r'=>match Blk.same v v' with
  |true=>match lJ l l' with
   |true=>lJ r r'
   |false=>false
  |false=>false
 |_,_=>false
mutual
def SV.plain:SV->Bool
 |.bsl _ _ | .bptr _ _ _ _ | .nsl _ _ _ _ _ | .nptr _ _ _ _ _ _ _=>false
 |.func _ fi ca=>SV.plains fi&&SV.plains ca
 |.agg cs | .tup cs=>SV.plains cs
 |_=>true
def SV.plains:List SV->Bool
 |[]=>true
 |v::vs=>v.plain&&SV.plains vs
end
structure Sub where
 n0:Nat
 es:List E
 b0:Nat
 bs:List Nat
def TL(n0:Nat)(es:List E)(i:Nat):E:=
 match Nat.blt i n0 with
 |true=>.var i
 |false=>match dV es (Nat.sub i n0)with
  |some e=>e
  |none=>.var i
def Jw:E->Nat->Option E
 |.fn 23 (.pr x r),n=>match n with
  |0=>some x
  |n+1=>Jw r n
 |_,_=>none
def KG(f:Nat)(a:E):E:=
 match f with
 |0=>jo a
 |6=>match a with
  |.pr (.int x) (.int y)=>.int (x+y)
  |_=>.fn f a
 |7=>match a with
  |.pr (.int x) (.int y)=>.int (x-y)
  |_=>.fn f a
 |1=>match a with
  |.pr l (.int (.ofNat n))=>match Jw l n with
   |some e=>e
   |none=>.fn f a
  |_=>.fn f a
 |_=>.fn f a
def KH(a:E):E:=
 match a with
 |.bool b=>.bool (!b)
 |_=>.not a
noncomputable def E.sub(n0:Nat)(es:List E)(e:E):E:=
 E.rec (motive:=fun _=>E)
  (fun n=>.int n)
  (fun b=>.bool b)
  (fun s=>.str s)
  (fun i=>TL n0 es i)
  (fun o k _ _ ia ib=>j9 o k ia ib)
  (fun o _ _ ia ib=>aL o ia ib)
  (fun _ _ ia ib=>vg ia ib)
  (fun _ _ ia ib=>qt ia ib)
  (fun k _ ia=>vi k ia)
  (fun _ ia=>KH ia)
  (fun _ _ ia ib=>.and ia ib)
  (fun _ _ ia ib=>oD ia ib)
  (fun _ _ ia ib=>.iff ia ib)
  (fun _ _ ia ib=>.imp ia ib)
  (fun f _ ia=>KG f ia)
  (fun _ _ ia ib=>.pr ia ib)
  e
theorem E.sub_eq_ar(n0:Nat)(es:List E)(o:BinOp)(k:IntKind)(a:E)(b:E):(E.ar o k a b).sub n0 es=j9 o k (a.sub n0 es) (b.sub n0 es):=rfl
theorem E.sub_eq_cmp(n0:Nat)(es:List E)(o:BinOp)(a:E)(b:E):(E.cmp o a b).sub n0 es=aL o (a.sub n0 es) (b.sub n0 es):=rfl
theorem E.sub_eq_mn(n0:Nat)(es:List E)(a:E)(b:E):(E.mn a b).sub n0 es=vg (a.sub n0 es) (b.sub n0 es):=rfl
theorem E.sub_eq_mx(n0:Nat)(es:List E)(a:E)(b:E):(E.mx a b).sub n0 es=qt (a.sub n0 es) (b.sub n0 es):=rfl
theorem E.sub_eq_wr(n0:Nat)(es:List E)(k:IntKind)(a:E):(E.wr k a).sub n0 es=vi k (a.sub n0 es):=rfl
theorem E.sub_eq_not(n0:Nat)(es:List E)(a:E):(E.not a).sub n0 es=KH (a.sub n0 es):=rfl
theorem E.sub_eq_and(n0:Nat)(es:List E)(a:E)(b:E):(E.and a b).sub n0 es=.and (a.sub n0 es) (b.sub n0 es):=rfl
theorem E.sub_eq_seq(n0:Nat)(es:List E)(a:E)(b:E):(E.seq a b).sub n0 es=oD (a.sub n0 es) (b.sub n0 es):=rfl
theorem E.sub_eq_iff(n0:Nat)(es:List E)(a:E)(b:E):(E.iff a b).sub n0 es=.iff (a.sub n0 es) (b.sub n0 es):=rfl
theorem E.sub_eq_imp(n0:Nat)(es:List E)(a:E)(b:E):(E.imp a b).sub n0 es=.imp (a.sub n0 es) (b.sub n0 es):=rfl
theorem E.sub_eq_fn(n0:Nat)(es:List E)(f:Nat)(a:E):(E.fn f a).sub n0 es=KG f (a.sub n0 es):=rfl
theorem E.sub_eq_pr(n0:Nat)(es:List E)(a:E)(b:E):(E.pr a b).sub n0 es=.pr (a.sub n0 es) (b.sub n0 es):=rfl
def ce(b0:Nat)(bs:List Nat)(i:Nat):Nat:=
 match Nat.blt i b0 with
 |true=>i
 |false=>match dV bs (Nat.sub i b0)with
  |some j=>j
  |none=>i
def Off.sub(n0:Nat)(es:List E)(o:Off):Off:=⟨o.base,o.scale,o.idx.sub n0 es⟩
mutual
def SV.sub(z:Sub):SV->SV
 |.int k e=>.int k (e.sub z.n0 z.es)
 |.bool e=>.bool (e.sub z.n0 z.es)
 |.str e=>.str (e.sub z.n0 z.es)
 |.ptr b o=>.ptr (ce z.b0 z.bs b) (o.sub z.n0 z.es)
 |.slice b o l c=>.slice (ce z.b0 z.bs b) (o.sub z.n0 z.es) (l.sub z.n0 z.es) (c.sub z.n0 z.es)
 |.nslice b l c=>.nslice (ce z.b0 z.bs b) (l.sub z.n0 z.es) (c.sub z.n0 z.es)
 |.bsl ks e=>.bsl ks (e.sub z.n0 z.es)
 |.bptr ks e i j=>.bptr ks (e.sub z.n0 z.es) (i.sub z.n0 z.es) j
 |.nsl b ks e i c=>.nsl (ce z.b0 z.bs b) ks (e.sub z.n0 z.es) (i.sub z.n0 z.es) c
 |.nptr b ks e i c x j=>.nptr (ce z.b0 z.bs b) ks (e.sub z.n0 z.es) (i.sub z.n0 z.es) c (x.sub z.n0 z.es) j
 |.map b=>.map (ce z.b0 z.bs b)
 |.func fn fi ca=>.func fn (SV.subs z fi) (SV.subs z ca)
 |.agg cs=>.agg (SV.subs z cs)
 |.tup cs=>.tup (SV.subs z cs)
 |.nilp=>.nilp
 |.nils=>.nils
 |.nilm=>.nilm
 |.nili=>.nili
 |.nilf=>.nilf
 |.junk=>.junk
def SV.subs(z:Sub):List SV->List SV
 |[]=>[]
 |v::vs=>v.sub z::SV.subs z vs
end
def yP(z:Sub):List Ent->List Ent
 |[]=>[]
 |x::es=>⟨x.k.sub z,x.v.sub z,x.born.sub z.n0 z.es⟩::yP z es
def SObj.sub(z:Sub):SObj->SObj
 |.gone=>.gone
 |.cells cs ah elem=>.cells (SV.subs z cs) (ah.sub z.n0 z.es) elem
 |.flat ks l n ah elem=>.flat ks (l.sub z.n0 z.es) (n.sub z.n0 z.es) (ah.sub z.n0 z.es) elem
 |.map es c=>.map (yP z es) (c.sub z.n0 z.es)
 |.mapl k c e=>.mapl k c (e.sub z.n0 z.es)
 |.maplp k c e ke s=>.maplp k c (e.sub z.n0 z.es) (ke.sub z.n0 z.es) (s.sub z.n0 z.es)
 |.nest ks l n ah elem own=>.nest ks (l.sub z.n0 z.es) (n.sub z.n0 z.es) (ah.sub z.n0 z.es) elem (own.sub z.n0 z.es)
 |.iter k c e n u=>.iter k c (e.sub z.n0 z.es) (n.sub z.n0 z.es) (match u with | none=>none | some x=>some (x.sub z.n0 z.es))
def Ct(k:IntKind)(c:CK):List Ent->Option (List E)
 |[]=>some []
 |x::es=>match x.k with
  |.int k' ke=>match ge k' k,oq c x.v with
   |true,some ve=>match Ct k c es with
    |some l=>some (.pr ke ve::l)
    |none=>none
   |_,_=>none
  |_=>none
def Sj(ks r:List CK):List CK:=match r with | []=>ks | x::xs=>x::xs
def akf(l:List CK):Option CK:=match l with | []=>none | c::_=>some c
def a59(l:List CK):List CK:=match l with | []=>[] | _::r=>r
def Ci(ks:List CK):List SV->List CK->Option (List E)
 |[],_=>some []
 |v::vs,r=>match akf (Sj ks r)with
  |none=>none
  |some c=>match oq c v with
   |some e=>match Ci ks vs (a59 (Sj ks r))with
    |some l=>some (e::l)
    |none=>none
   |none=>none
def Ui(w:Nat)(ah:E):Option E:=
 match w with
 |1=>some ah
 |w=>match ah with
  |.fn 8 (.pr c (.int (.ofNat m)))=>match Nat.beq m w with
   |true=>some c
   |false=>none
  |.int (.ofNat t)=>match Nat.beq (Nat.mul (Nat.div t w) w) t with
   |true=>some (.int (.ofNat (Nat.div t w)))
   |false=>none
  |_=>none
def yF(p x:SObj):Option SObj:=
 match p with
 |.mapl k c _=>match x with
  |.map es _=>match Ct k c es with
   |some l=>some (.mapl k c (dt l))
   |none=>none
  |_=>none
 |.iter _ _ _ _ u=>match u with
  |none=>match x with
   |.iter k c e n _=>some (.iter k c e n none)
   |_=>none
  |some _=>none
 |.nest ks _ _ _ _ _=>match x with
  |.flat ks' l n ah elem=>match iA ks ks' with
   |true=>match l,Nat.beq (aU ks) 1 with
    |.fn 5 (.pr _ (.fn 30 _)),true=>some (.nest ks' l n ah elem n)
    |_,_=>some (.nest ks' l n ah elem (.int 0))
   |false=>none
  |_=>none
 |.flat ks _ _ _ _=>match x with
  |.cells cs ah elem=>match Ci ks cs [],Ui (aU ks) ah with
   |some l,some t=>match l with
    |[]=>match t with
     |.int (.ofNat m)=>match Nat.blt 0 (aU ks)with
      |true=>some (.flat ks (.fn 10 (.int 0)) (.int 0) (.int (.ofNat m)) elem)
      |false=>none
     |_=>none
    |_=>match Nat.beq (Nat.mul (Nat.div (aU cs) (aU ks)) (aU ks)) (aU cs)with
     |true=>some (.flat ks (dt l) (.int (.ofNat (Nat.div (aU cs) (aU ks)))) t elem)
     |false=>none
   |_,_=>none
  |_=>none
 |_=>none
def an0:E->Option Nat
 |.fn 23 (.pr _ r)=>match an0 r with
  |some n=>some (Nat.succ n)
  |none=>none
 |.fn 10 _=>some 0
 |_=>none
def an3(e:E):E->E
 |.fn 23 (.pr x r)=>.fn 23 (.pr x (an3 e r))
 |_=>.fn 23 (.pr e (.fn 10 (.int 0)))
def S8(y e:E):Nat->Nat->E
 |0,_=>.fn 23 (.pr e (.fn 10 (.int 0)))
 |n+1,j=>.fn 23 (.pr (.fn 1 (.pr y (.int (.ofNat j)))) (S8 y e n (Nat.succ j)))
def aXk:E->Nat->Option E
 |.fn 1 (.pr y (.int (.ofNat k))),j=>match Nat.beq k j with
  |true=>some y
  |false=>none
 |_,_=>none
def a00(cur:E)(j:Nat)(e:E):E:=
 match an0 cur with
 |some n=>match Nat.beq n j with
  |true=>an3 e cur
  |false=>cur
 |none=>match aXk e j with
  |some y=>match y.beq cur with
   |true=>cur
   |false=>match j with
    |0=>y
    |_=>match cur with
     |.int _=>y
     |_=>S8 cur e j 0
  |none=>S8 cur e j 0
def a06(n0 f:Nat)(a:E):Option (Nat×Nat):=
 match f with
 |1=>match a with
  |.pr (.var i) (.int (.ofNat j))=>match Nat.blt i n0 with
   |true=>none
   |false=>some (i,j)
  |_=>none
 |_=>none
def a07(n0 i j:Nat)(e:E)(t:T E):T E:=
 match t.get (Nat.sub i n0)with
 |some cur=>t.set (Nat.sub i n0) (a00 cur j e)
 |none=>t
noncomputable def E.sw(b:E)(fa:BinOp->IntKind->E->E->T E->T E:=fun _ _ _ _ t=>t)(ff:Nat->E->T E->T E:=fun _ _ t=>t)(fp:E->E->T E->T E:=fun _ _ t=>t)(fn:E->T E->T E:=fun _ t=>t):T E->T E:=E.rec (motive:=fun _=>T E->T E) (fun _ t=>t) (fun _ t=>t) (fun _ t=>t) (fun _ t=>t) (fun x0 x1 x2 x3 _ _=>fa x0 x1 x2 x3) (fun _ _ _ _ _ t=>t) (fun _ _ _ _ t=>t) (fun _ _ _ _ t=>t) (fun _ _ _ t=>t) (fun x0 _=>fn x0) (fun _ _ _ _ t=>t) (fun _ _ _ _ t=>t) (fun _ _ _ _ t=>t) (fun _ _ _ _ t=>t) (fun x0 x1 _=>ff x0 x1) (fun x0 x1 _ _=>fp x0 x1) b
noncomputable def E.go_ar(b:E)(f:BinOp->IntKind->E->E->T E->T E):T E->T E:=b.sw (fa:=f)
noncomputable def E.go_fn(b:E)(f:Nat->E->T E->T E):T E->T E:=b.sw (ff:=f)
noncomputable def E.go_pr(b:E)(f:E->E->T E->T E):T E->T E:=b.sw (fp:=f)
noncomputable def E.go_not(b:E)(f:E->T E->T E):T E->T E:=b.sw (fn:=f)
noncomputable def iv(n0:Nat)(a:E):E->T E->T E:=
 E.rec (motive:=fun _=>E->T E->T E)
  (fun _ _ t=>t)
  (fun _ _ t=>t)
  (fun _ _ t=>t)
  (fun i e t=>Bool.rec (t.set (Nat.sub i n0) e) t (Nat.blt i n0))
  (fun _ _ _ _ f g e=>e.go_ar fun _ _ a b t=>g b (f a t))
  (fun _ _ _ _ _ _ t=>t)
  (fun _ _ _ _ _ t=>t)
  (fun _ _ _ _ _ t=>t)
  (fun _ _ _ _ t=>t)
  (fun _ f e=>e.go_not fun a t=>f a t)
  (fun _ _ _ _ _ t=>t)
  (fun _ _ _ _ _ t=>t)
  (fun _ _ _ _ _ t=>t)
  (fun _ _ _ _ _ t=>t)
  (fun k a f e=>Option.rec (motive:=fun _=>T E->T E) (e.go_fn fun _ a t=>f a t) (fun p t=>a07 n0 p.1 p.2 e t) (a06 n0 k a))
  (fun _ _ f g e=>e.go_pr fun a b t=>g b (f a t))
  a
abbrev G2:=T E×T Nat
noncomputable def SV.sw(v:SV)(fi:E->G2->G2:=fun _ g=>g)(fb:E->G2->G2:=fun _ g=>g)(fs:E->G2->G2:=fun _ g=>g)(fp:Nat->Off->G2->G2:=fun _ _ g=>g)(fl:Nat->Off->E->E->G2->G2:=fun _ _ _ _ g=>g)(fn:Nat->E->E->G2->G2:=fun _ _ _ g=>g)(fc:E->G2->G2:=fun _ g=>g)(fq:E->E->G2->G2:=fun _ _ g=>g)(fm:Nat->G2->G2:=fun _ g=>g)(ff:List SV->List SV->G2->G2:=fun _ _ g=>g)(fa:List SV->G2->G2:=fun _ g=>g)(ft:List SV->G2->G2:=fun _ g=>g):G2->G2:=SV.rec (motive_1:=fun _=>G2->G2) (motive_2:=fun _=>G2->G2) (fun _ e=>fi e) (fun e=>fb e) (fun e=>fs e) (fun g=>g) (fun b o=>fp b o) (fun g=>g) (fun b o l c=>fl b o l c) (fun b l c=>fn b l c) (fun _ e=>fc e) (fun _ e i _=>fq e i) (fun g=>g) (fun b=>fm b) (fun g=>g) (fun g=>g) (fun _ i c _ _=>ff i c) (fun cs _=>fa cs) (fun cs _=>ft cs) (fun g=>g) (fun _ _ _ _ _ g=>g) (fun _ _ _ _ _ _ _ g=>g) (fun g=>g) (fun _ _ _ _ g=>g) v
noncomputable def SV.go_int(v:SV)(f:E->G2->G2):G2->G2:=v.sw (fi:=f)
noncomputable def SV.go_bool(v:SV)(f:E->G2->G2):G2->G2:=v.sw (fb:=f)
noncomputable def SV.go_str(v:SV)(f:E->G2->G2):G2->G2:=v.sw (fs:=f)
noncomputable def SV.go_ptr(v:SV)(f:Nat->Off->G2->G2):G2->G2:=v.sw (fp:=f)
noncomputable def SV.go_slice(v:SV)(f:Nat->Off->E->E->G2->G2):G2->G2:=v.sw (fl:=f)
noncomputable def SV.go_nslice(v:SV)(f:Nat->E->E->G2->G2):G2->G2:=v.sw (fn:=f)
noncomputable def SV.go_bsl(v:SV)(f:E->G2->G2):G2->G2:=v.sw (fc:=f)
noncomputable def SV.go_bptr(v:SV)(f:E->E->G2->G2):G2->G2:=v.sw (fq:=f)
noncomputable def SV.go_map(v:SV)(f:Nat->G2->G2):G2->G2:=v.sw (fm:=f)
noncomputable def SV.go_func(v:SV)(f:List SV->List SV->G2->G2):G2->G2:=v.sw (ff:=f)
noncomputable def SV.go_agg(v:SV)(f:List SV->G2->G2):G2->G2:=v.sw (fa:=f)
noncomputable def SV.go_tup(v:SV)(f:List SV->G2->G2):G2->G2:=v.sw (ft:=f)
noncomputable def aYo(b0 b b':Nat)(t:T Nat):T Nat:=Bool.rec (t.set (Nat.sub b b0) b') t (Nat.blt b b0)
noncomputable def gE(n0:Nat)(e e':E)(g:G2):G2:=(iv n0 e e' g.1,g.2)
noncomputable def gB(b0 b b':Nat)(g:G2):G2:=(g.1,aYo b0 b b' g.2)
noncomputable def List.goK(l:List SV)(f:SV->List SV->G2->G2):G2->G2:=List.rec (motive:=fun _=>G2->G2) (fun g=>g) (fun v vs _=>f v vs) l
noncomputable def aYm(n0 b0:Nat)(v:SV)(b:Nat)(l c:E):G2->G2:=
 v.go_slice fun b' _ l' c' g=>gE n0 c c' (gE n0 l l' (gB b0 b b' g))
noncomputable def IM(n0 b0:Nat)(v:SV):SV->G2->G2:=
 SV.rec (motive_1:=fun _=>SV->G2->G2) (motive_2:=fun _=>List SV->G2->G2)
  (fun _ e v=>v.go_int fun e' g=>gE n0 e e' g)
  (fun e v=>v.go_bool fun e' g=>gE n0 e e' g)
  (fun e v=>v.go_str fun e' g=>gE n0 e e' g)
  (fun _ g=>g)
  (fun b o v=>v.go_ptr fun b' o' g=>gE n0 o.idx o'.idx (gB b0 b b' g))
  (fun _ g=>g)
  (fun b o l c v=>v.go_slice fun b' o' l' c' g=>gE n0 c c' (gE n0 l l' (gE n0 o.idx o'.idx (gB b0 b b' g))))
  (fun b l c v g=>aYm n0 b0 v b l c (v.go_nslice (fun b' l' c' g=>gE n0 c c' (gE n0 l l' (gB b0 b b' g))) g))
  (fun _ e v=>v.go_bsl fun e' g=>gE n0 e e' g)
  (fun _ e i _ v=>v.go_bptr fun e' i' g=>gE n0 i i' (gE n0 e e' g))
  (fun _ g=>g)
  (fun b v=>v.go_map fun b' g=>gB b0 b b' g)
  (fun _ g=>g) (fun _ g=>g)
  (fun _ _ _ f1 f2 v=>v.go_func fun fi ca g=>f2 ca (f1 fi g))
  (fun _ f v=>v.go_agg fun cs g=>f cs g)
  (fun _ f v=>v.go_tup fun cs g=>f cs g)
  (fun _ g=>g)
  (fun _ _ _ _ _ _ g=>g) (fun _ _ _ _ _ _ _ _ g=>g)
  (fun _ g=>g)
  (fun _ _ f1 f2 l=>List.goK l fun v vs g=>f2 vs (f1 v g)) v
noncomputable def aYq(n0 b0:Nat)(vs:List SV):List SV->G2->G2:=
 List.rec (motive:=fun _=>List SV->G2->G2) (fun _ g=>g) (fun v _ f l=>List.goK l fun v' vs' g=>f vs' (IM n0 b0 v v' g)) vs
noncomputable def T.goK(t:T SV)(f:SV->T SV->T SV->G2->G2):G2->G2:=T.rec (motive:=fun _=>G2->G2) (fun g=>g) (fun v l r _ _=>f v l r) t
noncomputable def aYp(n0 b0:Nat)(t:Tm):Tm->G2->G2:=
 T.rec (motive:=fun _=>Tm->G2->G2) (fun _ g=>g) (fun v _ _ f1 f2 t=>T.goK t fun v' l' r' g=>f2 r' (f1 l' (IM n0 b0 v v' g))) t
def aka(n0 b0:Nat):List Ent->List Ent->T E×T Nat->T E×T Nat
 |x::es,y::es',g=>aka n0 b0 es es' (let h:=IM n0 b0 x.v y.v (IM n0 b0 x.k y.k g);(iv n0 x.born y.born h.1,h.2))
 |_,_,g=>g
def IL(n0 b0:Nat)(heap:T Blk):T Blk->Nat->Nat->T E×T Nat->T E×T Nat
 |.nil,_,_,g=>g
 |.node x l r,a,d,g=>
  let j:=match Nat.blt a b0 with | true=>some a | false=>g.2.get (Nat.sub a b0)
  let g:=match j with
   |some j=>match heap.get j with
    |some y=>match x.obj,(match yF x.obj y.obj with | some o=>o | none=>y.obj)with
     |.mapl _ _ e,.mapl _ _ e'=>(iv n0 e e' g.1,g.2)
     |.iter _ _ e n u,.iter _ _ e' n' u'=>(match u,u' with
      |some x,some x'=>iv n0 x x' (iv n0 n n' (iv n0 e e' g.1))
      |_,_=>iv n0 n n' (iv n0 e e' g.1),g.2)
     |.cells cs t _,.cells cs' t' _=>let g:=aYq n0 b0 cs cs' g;(iv n0 t t' g.1,g.2)
     |.nest _ e n t _ o,.nest _ e' n' t' _ o'=>(iv n0 o o' (iv n0 t t' (iv n0 n n' (iv n0 e e' g.1))),g.2)
     |.flat _ e n t _,.flat _ e' n' t' _=>(iv n0 t t' (iv n0 n n' (iv n0 e e' g.1)),g.2)
     |.map es c,.map es' c'=>let h:=aka n0 b0 es es' g;(iv n0 c c' h.1,h.2)
     |_,_=>g
    |none=>g
   |none=>g
  IL n0 b0 heap r (Nat.add a (Nat.add d d)) (Nat.add d d) (IL n0 b0 heap l (Nat.add a d) (Nat.add d d) g)
def Ul{G:Type}(t:T G)(x:G):Nat->Nat->List G
 |0,_=>[]
 |n+1,i=>(match t.get i with | some y=>y | none=>x)::Ul t x n (Nat.succ i)
def Rm(n0 b0:Nat)(tmps:Tm)(st:St)(τ:Tmpl):Sub:=
 let nE:=Nat.sub τ.st.nv n0
 let nB:=Nat.sub τ.st.nb b0
 let g:=IL n0 b0 st.heap τ.st.heap 0 1 (aYp n0 b0 τ.tmps tmps (T.fill (.int 0) 20 nE,T.fill 0 20 nB))
 let g:=IL n0 b0 st.heap τ.st.heap 0 1 g
 ⟨n0,Ul g.1 (.int 0) nE 0,b0,Ul g.2 0 nB 0⟩
def Kl(nv:Nat):List E->Bool
 |[]=>true
 |e::es=>match e.scp nv with
  |true=>Kl nv es
  |false=>false
def HZ(nb:Nat):List Nat->Bool
 |[]=>true
 |b::bs=>match Nat.blt b nb with
  |true=>HZ nb bs
  |false=>false
noncomputable def y7(z:Sub)(p v:SV):Bool:=Bool.rec ((p.sub z).beq v) true (isJunk p)
theorem a1m(z:Sub)(p v:SV):y7 z p v=(match p with
 |.junk=>true
 |_=>(p.sub z).beq v):=by cases p<;>rfl
noncomputable def a6j(t:Tm):Bool:=T.rec (motive:=fun _=>Bool) true (fun _ _ _ _ _=>false) t
noncomputable def a6k(t:Tm)(f:SV->Tm->Tm->Bool):Bool:=T.rec (motive:=fun _=>Bool) false (fun v l r _ _=>f v l r) t
noncomputable def oV(z:Sub)(p:Tm):Tm->Bool:=
 T.rec (motive:=fun _=>Tm->Bool) a6j (fun p _ _ fl fr t=>a6k t fun v l' r'=>Bool.rec false (Bool.rec false (fr r') (fl l')) (y7 z p v)) p
theorem a6h(z:Sub)(p v:SV)(l r l' r':Tm):oV z (.node p l r) (.node v l' r')=(match y7 z p v with
  |true=>match oV z l l' with
   |true=>oV z r r'
   |false=>false
  |false=>false):=by
 have h:oV z (.node p l r) (.node v l' r')=Bool.rec (motive:=fun _=>Bool) false (Bool.rec (motive:=fun _=>Bool) false (oV z r r') (oV z l l')) (y7 z p v):=rfl
 rw[h]
 cases y7 z p v
 ·rfl
 ·cases oV z l l'<;>rfl
def Sn(z:Sub)(p x:SObj):Bool:=
 match p with
 |.gone=>true
 |_=>match yF p x with
  |some x'=>(p.sub z).beq x'
  |none=>(p.sub z).beq x
def HU(z:Sub)(heap:T Blk)(nb a:Nat)(p:Blk):Bool:=
 match Nat.blt a nb with
 |true=>match p.obj with
  |.gone=>true
  |_=>match heap.get (ce z.b0 z.bs a)with
   |some x=>rB p.own x.own&&Sn z p.obj x.obj
   |none=>false
 |false=>false
def CP(z:Sub)(heap:T Blk)(nb:Nat):T Blk->Nat->Nat->Bool
 |.nil,_,_=>true
 |.node p l r,a,d=>match HU z heap nb a p with
  |true=>match CP z heap nb l (Nat.add a d) (Nat.add d d)with
   |true=>CP z heap nb r (Nat.add a (Nat.add d d)) (Nat.add d d)
   |false=>false
  |false=>false
def lM:T Blk->Nat->Nat->List Nat->List Nat
 |.nil,_,_,acc=>acc
 |.node p l r,a,d,acc=>
  match p.obj with
  |.gone=>lM r (Nat.add a (Nat.add d d)) (Nat.add d d) (lM l (Nat.add a d) (Nat.add d d) acc)
  |_=>lM r (Nat.add a (Nat.add d d)) (Nat.add d d) (lM l (Nat.add a d) (Nat.add d d) (a::acc))
def x8(z:Sub):List Nat->List Nat
 |[]=>[]
 |i::l=>ce z.b0 z.bs i::x8 z l
def IP(n:Nat):List Nat->Bool
 |[]=>false
 |m::ms=>match Nat.beq n m with
  |true=>true
  |false=>IP n ms
def HK:List Nat->Bool
 |[]=>true
 |n::ns=>match IP n ns with
  |true=>false
  |false=>HK ns
inductive Fit where
 |ok (z:Sub)
 |lack (e:E)
 |bad (n:Nat)
def Dx(fs:List E)(z:Sub)(pc:List E):List E->Fit
 |[]=>.ok z
 |e::es=>match fF fs pc (e.sub z.n0 z.es)with
  |some true=>Dx fs z pc es
  |_=>.lack (e.sub z.n0 z.es)
def uT(fs:List E)(n0 b0:Nat)(tmps:Tm)(st:St)(τ:Tmpl):Fit:=
 let z:=Rm n0 b0 tmps st τ
 match Nat.beq (Nat.add n0 (aU z.es)) τ.st.nv&&Nat.beq (Nat.add b0 (aU z.bs)) τ.st.nb&&(Kl st.nv z.es&&HZ st.nb z.bs)with
 |true=>match oV z τ.tmps tmps with
  |true=>match CP z st.heap τ.st.nb τ.st.heap 0 1 with
   |true=>match HK (x8 z (lM τ.st.heap 0 1 []))with
    |true=>Dx fs z st.pc τ.st.pc
    |false=>.bad 4
   |false=>.bad 3
  |false=>.bad 2
 |false=>.bad 1
noncomputable def T.map{G O:Type}(f:G->O)(t:T G):T O:=T.rec (motive:=fun _=>T O) T.nil (fun v _ _ a b=>T.node (f v) a b) t
def RF:Option Blk->Bool
 |some b=>match b.obj with
  |.cells _ _ _=>true
  |_=>false
 |none=>false
def Sr(o:Off):Bool:=
 match jZ o with
 |some n=>Nat.beq n 0
 |none=>false
mutual
def SV.norm(h:T Blk):SV->SV
 |.int k e=>.int k e
 |.bool e=>.bool e
 |.str e=>.str e
 |.ptr b o=>.ptr b o
 |.slice b o l c=>match RF (h.get b)&&Sr o with
  |true=>.nslice b l c
  |false=>.slice b o l c
 |.nslice b l c=>.nslice b l c
 |.bsl ks e=>.bsl ks e
 |.bptr ks e i j=>.bptr ks e i j
 |.nsl b ks e i c=>.nsl b ks e i c
 |.nptr b ks e i c x j=>.nptr b ks e i c x j
 |.map b=>.map b
 |.func fn fi ca=>.func fn (SV.norms h fi) (SV.norms h ca)
 |.agg cs=>.agg (SV.norms h cs)
 |.tup cs=>.tup (SV.norms h cs)
 |.nilp=>.nilp
 |.nils=>.nils
 |.nilm=>.nilm
 |.nili=>.nili
 |.nilf=>.nilf
 |.junk=>.junk
def SV.norms(h:T Blk):List SV->List SV
 |[]=>[]
 |v::vs=>v.norm h::SV.norms h vs
end
def SObj.norm(h:T Blk):SObj->SObj
 |.cells cs ah e=>.cells (SV.norms h cs) ah e
 |.gone=>.gone
 |.flat ks l n ah e=>.flat ks l n ah e
 |.map es c=>.map es c
 |.mapl k c e=>.mapl k c e
 |.maplp k c e ke s=>.maplp k c e ke s
 |.iter k c e n u=>.iter k c e n u
 |.nest ks l n ah e o=>.nest ks l n ah e o
def Blk.norm(h:T Blk)(b:Blk):Blk:=⟨b.own,b.obj.norm h⟩
def St.norm(st:St):St:=⟨st.nv,st.nb,st.heap.map (Blk.norm st.heap),st.pc⟩
def Rc(fs:List E)(n0 b0:Nat)(tmps:Tm)(st:St)(τ:Tmpl):Fit:=uT fs n0 b0 (tmps.map (SV.norm st.heap)) st.norm τ
def C2(nv:Nat):List E->List E
 |[]=>[]
 |e::es=>match e.scp nv with
  |true=>e::C2 nv es
  |false=>C2 nv es
def P0(st:St)(v:SV)(st':St):St:=
 match Nat.beq st.nb st'.nb&&Nat.beq st.nv st'.nv with
 |true=>st'
 |false=>match v.plain&&(v.scp st.nv st.nb&&(st.scp&&lJ st.heap st'.heap))with
  |true=>⟨st.nv,st.nb,st.heap,C2 st.nv st'.pc⟩
  |false=>st'
def uB(b:Nat)(m:Nat):Nat:=Nat.lor (Nat.pow 2 b) m
mutual
def SV.blks:SV->Nat->Nat
 |.ptr b _,m=>uB b m
 |.slice b _ _ _,m=>uB b m
 |.nslice b _ _,m=>uB b m
 |.map b,m=>uB b m
 |.nsl b _ _ _ _,m=>uB b m
 |.nptr b _ _ _ _ _ _,m=>uB b m
 |.func _ fi ca,m=>SV.blkss ca (SV.blkss fi m)
 |.agg cs,m=>SV.blkss cs m
 |.tup cs,m=>SV.blkss cs m
 |_,m=>m
def SV.blkss:List SV->Nat->Nat
 |[],m=>m
 |v::vs,m=>SV.blkss vs (SV.blks v m)
end
def ai7:List Ent->Nat->Nat
 |[],m=>m
 |x::es,m=>ai7 es (SV.blks x.v (SV.blks x.k m))
def SObj.blks:SObj->Nat->Nat
 |.cells cs _ _,m=>SV.blkss cs m
 |.map es _,m=>ai7 es m
 |_,m=>m
def Kg(heap:T Blk)(m:Nat):Nat->Nat->Nat->Nat
 |0,_,r=>r
 |n+1,b,r=>match Nat.testBit m b with
  |true=>match heap.get b with
   |some x=>kM (x.obj.blks r) fun r=>Kg heap m n (Nat.succ b) r
   |none=>Kg heap m n (Nat.succ b) r
  |false=>Kg heap m n (Nat.succ b) r
def anS(heap:T Blk)(n b0:Nat):Nat->Nat->Nat
 |0,m=>m
 |k+1,m=>kM (Kg heap m n b0 m) fun m'=>match Nat.beq m m' with
  |true=>m
  |false=>anS heap n b0 k m'
def Cp(m:Nat):Nat->Nat->T Blk->T Blk
 |0,_,h=>h
 |n+1,b,h=>match Nat.testBit m b with
  |true=>Cp m n (Nat.succ b) h
  |false=>T.setK h b ⟨true,.gone⟩ fun h=>Cp m n (Nat.succ b) h
def E.vset:E->Nat->Nat
 |.var i,m=>uB i m
 |.ar _ _ a b,m=>E.vset b (E.vset a m)
 |.cmp _ a b,m=>E.vset b (E.vset a m)
 |.mn a b,m=>E.vset b (E.vset a m)
 |.mx a b,m=>E.vset b (E.vset a m)
 |.wr _ a,m=>E.vset a m
 |.not a,m=>E.vset a m
 |.and a b,m=>E.vset b (E.vset a m)
 |.seq a b,m=>E.vset b (E.vset a m)
 |.iff a b,m=>E.vset b (E.vset a m)
 |.imp a b,m=>E.vset b (E.vset a m)
 |.fn _ a,m=>E.vset a m
 |.pr a b,m=>E.vset b (E.vset a m)
 |_,m=>m
mutual
def SV.vset:SV->Nat->Nat
 |.int _ e,m=>e.vset m
 |.bool e,m=>e.vset m
 |.str e,m=>e.vset m
 |.ptr _ o,m=>o.idx.vset m
 |.slice _ o l c,m=>c.vset (l.vset (o.idx.vset m))
 |.nslice _ l c,m=>c.vset (l.vset m)
 |.bsl _ e,m=>e.vset m
 |.bptr _ e i _,m=>i.vset (e.vset m)
 |.nsl _ _ e i _,m=>i.vset (e.vset m)
 |.nptr _ _ e i _ x _,m=>x.vset (i.vset (e.vset m))
 |.func _ fi ca,m=>SV.vsets ca (SV.vsets fi m)
 |.agg cs,m=>SV.vsets cs m
 |.tup cs,m=>SV.vsets cs m
 |_,m=>m
def SV.vsets:List SV->Nat->Nat
 |[],m=>m
 |v::vs,m=>SV.vsets vs (SV.vset v m)
end
def ai8:List Ent->Nat->Nat
 |[],m=>m
 |x::es,m=>ai8 es (x.born.vset (SV.vset x.v (SV.vset x.k m)))
def SObj.vset:SObj->Nat->Nat
 |.gone,m=>m
 |.cells cs t _,m=>t.vset (SV.vsets cs m)
 |.flat _ l n t _,m=>t.vset (n.vset (l.vset m))
 |.nest _ l n t _ o,m=>o.vset (t.vset (n.vset (l.vset m)))
 |.map es c,m=>c.vset (ai8 es m)
 |.mapl _ _ e,m=>e.vset m
 |.maplp _ _ e ke s,m=>s.vset (ke.vset (e.vset m))
 |.iter _ _ e n u,m=>match u with | none=>n.vset (e.vset m) | some x=>x.vset (n.vset (e.vset m))
def HW(heap:T Blk)(bs:Nat):Nat->Nat->Nat->Nat
 |0,_,r=>r
 |n+1,b,r=>match Nat.testBit bs b with
  |true=>match heap.get b with
   |some x=>kM (x.obj.vset r) fun r=>HW heap bs n (Nat.succ b) r
   |none=>HW heap bs n (Nat.succ b) r
  |false=>HW heap bs n (Nat.succ b) r
def C3(nv live:Nat):List E->List E
 |[]=>[]
 |e::es=>match Nat.beq (Nat.land (Nat.shiftRight (e.vset 0) nv) live) (Nat.shiftRight (e.vset 0) nv)with
  |true=>e::C3 nv live es
  |false=>C3 nv live es
def CM(st:St)(v:SV)(st':St):St:=
 match Nat.beq st.nb st'.nb with
 |true=>st'
 |false=>match lJ st.heap st'.heap with
  |true=>kM (anS st'.heap (Nat.sub st'.nb st.nb) st.nb 40 (SV.blks v 0)) fun m=>
    kM (Nat.shiftRight (HW st'.heap m (Nat.sub st'.nb st.nb) st.nb (SV.vset v 0)) st.nv) fun live=>
     ⟨st'.nv,st'.nb,Cp m (Nat.sub st'.nb st.nb) st.nb st'.heap,C3 st.nv live st'.pc⟩
  |false=>st'
def CO(v:SV)(st:St):List (SV×St)->Bool
 |[]=>false
 |x::xs=>match v.beq x.1&&st.beq x.2 with
  |true=>true
  |false=>CO v st xs
def kW(v:SV):Tm:=.node v .nil .nil
def aqj(n0 b0:Nat)(t:Tm)(st:St):Bool:=Nat.ble n0 st.nv&&(Nat.ble b0 st.nb&&(st.scp&&lg st.nv st.nb t))
def RH:Fit->Bool
 |.ok _=>true
 |_=>false
def yl(fs:List E)(n0 b0:Nat)(t:Tm)(st:St):List (Tm×St)->Bool
 |[]=>false
 |x::xs=>match aqj n0 b0 x.1 x.2&&RH (uT fs n0 b0 t st ⟨x.1,x.2,.int 0⟩)with
  |true=>true
  |false=>yl fs n0 b0 t st xs
def xz:List (SV×St)->List (Tm×St)
 |[]=>[]
 |x::xs=>match x.1 with
  |.junk=>xz xs
  |v=>(kW v,x.2)::xz xs
def B1(fs:List E)(st0:St)(v:SV)(st:St)(acc:List (SV×St)):List (SV×St):=
 match acc with
 |[]=>[(v,st)]
 |_=>match CO v st acc with
  |true=>acc
  |false=>match Nat.beq st0.nb st.nb&&Nat.beq st0.nv st.nv with
   |true=>(v,st)::acc
   |false=>match yl fs st0.nv st0.nb (kW v) (CM st0 v st) (xz acc)with
    |true=>acc
    |false=>(v,CM st0 v st)::acc
def Cf(fs:List E)(st:St):List Out->List (SV×St)->Option (List (SV×St))
 |[],acc=>some acc
 |r::rs,acc=>match r.tmps with
  |.node v _ _=>Cf fs st rs (B1 fs st v (P0 st v r.st) acc)
  |_=>none
def S3(tmps:Tm)(d:Option Tmp)(k:gi):List (SV×St)->bc
 |[]=>some []
 |x::xs=>kP (gZ tmps d x.1 fun tmps=>k tmps x.2) (S3 tmps d k xs)
def anQ(_:List Out):List Out:=[]
def am2(_:Tm)(_:St)(_:Op):String:= ""
def Kx(tb:Tab)(rec:cH)(o:Oper)(tmps:Tm)(st:St)(k:gi):bc:=
 match o.op with
 |.call c=>match P9 tb tmps c with
  |some (g,args)=>match lg st.nv st.nb tmps with
   |true=>match rec (.call g args) .nil st (fun r=>some [r])with
    |some rs=>match anQ rs with
     |[]=>match Cf tb.facts st rs [] with
      |some l=>S3 tmps o.dst k l
      |none=>none
     |raw=>some raw
    |none=>none
   |false=>uQ (o.pos ++ " scope")
  |none=>uQ (o.pos ++ " callee" ++ (match o.op with | .call c=>c.args.toList.foldl (fun s x=>s++am2 tmps st (.load 0 x)) "" | _=> ""))
 |_=>uQ (o.pos ++ " operation " ++ a0l o.op++am2 tmps st o.op)
def ss(tb:Tab)(rec:cH)(o:Oper)(tmps:Tm)(k:gi)(n:Nat):St->bc:=
 Nat.rec (motive:=fun _=>St->bc) (fun _=>none) (fun _ ih st=>
  match Cr tb tmps st o.op with
  |.val v st=>gZ tmps o.dst v fun tmps=>k tmps st
  |.skip st=>gZ tmps o.dst .undef fun tmps=>k tmps st
  |.ask e=>kP (ih {st with pc:=e::st.pc}) (ih {st with pc:=bz e::st.pc})
  |.lack e=>I4 o.pos st e
  |.bad=>match Cs tb tmps st o.op with
   |.val v st=>gZ tmps o.dst v fun tmps=>k tmps st
   |.skip st=>gZ tmps o.dst .undef fun tmps=>k tmps st
   |.ask e=>kP (ih {st with pc:=e::st.pc}) (ih {st with pc:=bz e::st.pc})
   |.lack e=>I4 o.pos st e
   |.bad=>Kx tb rec o tmps st k) n
def DN(P:Program)(tb:Tab)(rec:cH)(o:Oper)(tmps:Tm)(st:St)(k:gi):bc:=
 match DD P tb (bK tmps) o.op with
 |some v=>gZ tmps o.dst v fun tmps=>k tmps st
 |none=>ss tb rec o tmps k 40 st
def zd(P:Program)(tb:Tab)(rec:cH)(all:List Oper)(o:Oper)(tmps:Tm)(st:St)(k:gi):bc:=
 match Ll all tmps o with
 |.yes=>DN P tb rec o tmps st k
 |.no=>gZ tmps o.dst .undef fun tmps=>k tmps st
 |.bad=>uQ o.pos
 |.ask t e want=>match fF tb.facts st.pc e with
  |some b=>T.setK tmps t (.bool (.bool b)) fun tmps=>match rB b want with
   |true=>DN P tb rec o tmps st k
   |false=>gZ tmps o.dst .undef fun tmps=>k tmps st
  |none=>
   kP (T.setK tmps t (.bool (.bool want)) fun tmps=>DN P tb rec o tmps {st with pc:=(match want with | true=>e | false=>bz e)::st.pc} k)
    (T.setK tmps t (.bool (.bool (!want))) fun tmps=>gZ tmps o.dst .undef fun tmps=>k tmps {st with pc:=(match want with | true=>bz e | false=>e)::st.pc})
def aoL(P:Program)(tb:Tab)(rec:cH)(all:List Oper)(l:List Oper):Tm->St->gi->bc:=
 List.rec (motive:=fun _=>Tm->St->gi->bc) (fun tmps st k=>k tmps st)
  (fun o _ ih tmps st k=>zd P tb rec all o tmps st fun tmps st=>ih tmps st k) l
inductive QR where
 |done (v:SV)
 |split (e:E)
 |bad
inductive QE where
 |done (tmps:Tm)
 |split (e:E)
 |bad
def lR:List Oper->Bool
 |[]=>true
 |o::os=>match o.op with
  |.select _ _=>false
  |_=>lR os
inductive NS where
 |val (v:SV)
 |ask (e:E)
 |bad
def SV.isJunk:SV->Bool
 |.junk=>true
 |_=>false
def andNot(a b:Nat):Nat:=Nat.xor a (Nat.land a b)
def Ie(tmps:Tm)(st:St):bc:=some [⟨.normal,tmps,st⟩]
def TE(P:Program)(tb:Tab)(rec:cH)(all:List Oper)(n:Nat)(tmps:Tm)(st:St)(k:Out->bc):bc:=
 match lR all with
 |true=>rec (.layer all (cZ all all) (sD P tb all (cZ all all) 0 n [⟨.normal,tmps,st⟩] [])) tmps st k
 |false=>none
def lL:Code->Option Nat
 |.exit id=>some id
 |.seq a b=>match lL a with
  |some n=>some n
  |none=>lL b
 |.block _ b=>lL b
 |.loop b=>lL b
 |.cond _ a b=>match lL a with
  |some n=>some n
  |none=>lL b
 |_=>none
def CF(g key:Nat):List Ann->Option Ann
 |[]=>none
 |x::xs=>match Nat.beq x.fn g with
  |true=>match Nat.beq x.key key with
   |true=>some x
   |false=>CF g key xs
  |false=>CF g key xs
def PR(tb:Tab)(g:Nat)(b:Code):Option Ann:=
 match tb.anns with
 |[]=>none
 |l=>match lL b with
  |some key=>CF g key l
  |none=>none
def kK(fs:List E)(n0 b0:Nat)(tmps:Tm)(st:St)(bound:Option E):List Tmpl->Option E->Fit
 |[],why=>match why with
  |some e=>.lack e
  |none=>.bad 0
 |τ::τs,why=>match Rc fs n0 b0 tmps st τ with
  |.ok z=>match bound with
   |none=>.ok z
   |some m=>match jm fs st.pc (τ.less.sub z.n0 z.es) m with
    |true=>match eG fs st.pc (τ.less.sub z.n0 z.es)with
     |true=>.ok z
     |false=>.lack (bz (aL .lss (τ.less.sub z.n0 z.es) (.int 0)))
    |false=>.lack (aL .lss (τ.less.sub z.n0 z.es) m)
  |.lack e=>kK fs n0 b0 tmps st bound τs (match why with | some e=>some e | none=>some e)
  |.bad _=>kK fs n0 b0 tmps st bound τs why
def qi(_:Tm)(_:St)(f:Fit)(r:bc):bc:=
 match f with
 |.ok _=>r
 |_=>none
def Tmpl.scp(τ:Tmpl):Bool:=τ.st.scp&&lg τ.st.nv τ.st.nb τ.tmps&&τ.less.scp τ.st.nv
def vN(n0 b0:Nat):List Tmpl->Bool
 |[]=>true
 |τ::τs=>match Nat.ble n0 τ.st.nv&&Nat.ble b0 τ.st.nb&&τ.scp with
  |true=>vN n0 b0 τs
  |false=>false
def R5(tb:Tab)(rec:cH)(g:FuncId)(b:Code)(n0 b0:Nat)(ts:List Tmpl)(k:Out->bc):List Tmpl->bc
 |[]=>some []
 | τ::τs=>kP (rec (.code g b) τ.tmps τ.st fun o=>match o.ex with
   |.normal=>qi o.tmps o.st (kK tb.facts n0 b0 o.tmps o.st (some τ.less) ts none) (some [])
   |_=>k o) (R5 tb rec g b n0 b0 ts k τs)
def QM(k:Out->bc):List Out->bc
 |[]=>some []
 |o::os=>kP (k o) (QM k os)
def SC:Nat->Nat->T Blk->T Blk
 |0,_,t=>t
 |k+1,n,t=>SC k (Nat.succ n) (T.ins t n ⟨true,.gone⟩)
def St.pad(st:St)(n b:Nat):St:=⟨n,b,SC (Nat.sub b st.nb) st.nb st.heap,st.pc⟩
def Ky(tb:Tab)(n b:Nat)(ts:List Tmpl)(xs:List Out)(tmps:Tm)(st:St)(k:Out->bc):bc:=
 match vN n b ts with
 |true=>qi tmps st (kK tb.facts n b tmps st none ts none) (QM k xs)
 |false=>uQ "templates"
def Kz(tb:Tab)(rec:cH)(g:FuncId)(b:Code)(tmps:Tm)(st:St)(k:Out->bc):bc:=
 match PR tb g b with
 |none=>rec (.rounds g b) tmps st k
 |some x=>match x.known with
  |none=>match vN st.nv st.nb x.ts with
   |true=>qi tmps st (kK tb.facts st.nv st.nb tmps st none x.ts none) (R5 tb rec g b st.nv st.nb x.ts k x.ts)
   |false=>uQ "templates"
  |some y=>match Nat.beq st.nv y.n0&&Nat.beq st.nb y.b0 with
   |true=>Ky tb y.n0 y.b0 x.ts y.xs tmps st k
   |false=>match Nat.ble st.nv y.n0&&Nat.ble st.nb y.b0&&st.scp&&lg st.nv st.nb tmps with
    |true=>Ky tb y.n0 y.b0 x.ts y.xs tmps (st.pad y.n0 y.b0) k
    |false=>uQ "a loop's variables"
def Ti(rec:cH)(g:FuncId)(tmps:Tm)(st:St)(k:Out->bc)(a b:Code):bc:=
 rec (.code g a) tmps st fun o=>match o.ex with
   |.normal=>rec (.code g b) o.tmps o.st k
   |_=>k o
def Tf(rec:cH)(g:FuncId)(tmps:Tm)(st:St)(k:Out->bc)(id:Nat)(b:Code):bc:=
 rec (.code g b) tmps st fun o=>match o.ex with
   |.exit i=>match Nat.beq i id with
    |true=>k ⟨.normal,o.tmps,o.st⟩
    |false=>k o
   |_=>k o
def Tg(tb:Tab)(rec:cH)(g:FuncId)(tmps:Tm)(st:St)(k:Out->bc)(c:Operand)(x y:Code):bc:=
 match bK tmps c with
  |some (.bool e)=>match fF tb.facts st.pc e with
   |some true=>rec (.code g x) tmps st k
   |some false=>rec (.code g y) tmps st k
   |none=>kP (rec (.code g x) tmps {st with pc:=e::st.pc} k) (rec (.code g y) tmps {st with pc:=bz e::st.pc} k)
  |_=>none
def Th(P:Program)(tb:Tab)(rec:cH)(tmps:Tm)(st:St)(k:Out->bc)(ops:Array Oper)(d:Bool):bc:=
 match d with
  |false=>aoL P tb rec ops.toList ops.toList tmps st fun tmps st=>k ⟨.normal,tmps,st⟩
  |true=>rec (.draw ops.toList ops.size) tmps st k
noncomputable def TD(P:Program)(tb:Tab)(rec:cH)(g:FuncId)(c:Code)(tmps:Tm)(st:St)(k:Out->bc):bc:=
 Code.rec (motive:=fun _=>bc)
  (k ⟨.normal,tmps,st⟩)
  (fun _ ops d=>Th P tb rec tmps st k ops d)
  (fun a b _ _=>Ti rec g tmps st k a b)
  (fun c x y _ _=>Tg tb rec g tmps st k c x y)
  (fun id b _=>Tf rec g tmps st k id b)
  (fun b _=>Kz tb rec g b tmps st k)
  (fun _ _ _ _ _ _=>none)
  (fun id=>k ⟨.exit id,tmps,st⟩)
  (fun _ _=>none)
  (fun _=>k ⟨.normal,tmps,st⟩)
  (fun _=>none)
  (k ⟨.ret,tmps,st⟩)
  (fun _=>none)
  c
theorem a4g(P:Program)(tb:Tab)(rec:cH)(g:FuncId)(c:Code)(tmps:Tm)(st:St)(k:Out->bc):TD P tb rec g c tmps st k=(match c with
 |.skip=>k ⟨.normal,tmps,st⟩
 |.label _=>k ⟨.normal,tmps,st⟩
 |.ret=>k ⟨.ret,tmps,st⟩
 |.exit id=>k ⟨.exit id,tmps,st⟩
 |.seq a b=>Ti rec g tmps st k a b
 |.block id b=>Tf rec g tmps st k id b
 |.loop b=>Kz tb rec g b tmps st k
 |.cond c x y=>Tg tb rec g tmps st k c x y
 |.region _ ops d=>Th P tb rec tmps st k ops d
 |_=>none):=by cases c<;>rfl
def CG(fs:List E)(g:FuncId)(args:List SV)(st:St):List Nat1->NatR
 |[]=>.no
 |x::xs=>match Nat.beq x.fn g with
  |true=>match x.eff fs args st with
   |.outs l=>.outs l
   |_=>CG fs g args st xs
  |false=>CG fs g args st xs
def aln(k:Out->bc):List (SV×St)->bc
 |[]=>some []
 |(v,st)::l=>kP (k ⟨.ret,.node v .nil .nil,st⟩) (aln k l)
def TC(tb:Tab)(rec:cH)(g:FuncId)(args:List SV)(st:St)(k:Out->bc):bc:=
 match CG tb.facts g args st tb.nats with
 |.outs l=>aln k l
 |_=>match tb.fn.get g with
 |some fn=>match fn.body with
  |some c=>match Nat.ble args.length fn.ntmps&&Nat.ble fn.ntmps 1048575 with
   | true=>T.putsK args 0 (T.fill SV.undef 20 fn.ntmps) fun tmps=>rec (.code g c) tmps st fun o=>match o.ex with
     |.exit _=>none
     |_=>match lU tb o.st o.tmps fn.results.toList with
      |some vs=>k ⟨.ret,.node (vO vs) .nil .nil,o.st⟩
      |none=>none
   |false=>none
  |none=>none
 |none=>none
def Cq(P:Program)(tb:Tab)(rec:cH)(all:List Oper)(infos:List Info)(x:Node)(left:Nat):List (Nat×Oper×Info)->List Node->Option (List Node)
 |[],acc=>some acc
 |(i,o,_)::rs,acc=>match zd P tb rec all o x.tmps x.st Ie with
  |some os=>kM (Nat.lor (Nat.pow 2 i) x.listed) fun listed=>Cq P tb rec all infos x left rs (sD P tb all infos listed left os acc)
  |none=>none
def DO(P:Program)(tb:Tab)(rec:cH)(all:List Oper)(infos:List Info)(k:gi):List Node->List Node->Option (List Node×List Out)
 |[],acc=>some (acc,[])
 |x::xs,acc=>match kY x.listed all infos 0 with
  |[]=>match k x.tmps x.st with
   |some os=>match DO P tb rec all infos k xs acc with
    |some (acc,more)=>some (acc,os++more)
    |none=>none
   |none=>none
  |rs=>match x.left with
   |0=>none
   |left+1=>match Cq P tb rec all infos x left rs acc with
    |some acc=>DO P tb rec all infos k xs acc
    |none=>none
def TH(P:Program)(tb:Tab)(rec:cH)(all:List Oper)(infos:List Info)(l:List Node)(tmps:Tm)(st:St)(k:Out->bc):bc:=
 match DO P tb rec all infos (fun tmps st=>k ⟨.normal,tmps,st⟩) l [] with
 |some (next,os)=>match next with
  |[]=>some os
  |_=>match rec (.layer all infos next) tmps st k with
   |some more=>some (os++more)
   |none=>none
 |none=>none
def aoN(rec:cH)(g:FuncId)(b:Code)(tmps:Tm)(st:St)(k:Out->bc):bc:=
 rec (.code g b) tmps st fun o=>match o.ex with
  |.normal=>rec (.rounds g b) o.tmps o.st k
  |_=>k o
def a4d(P:Program)(tb:Tab)(rec:cH)(task:Task)(tmps:Tm)(st:St)(k:Out->bc):bc:=
 match task with
 |.code g c=>TD P tb rec g c tmps st k
 |.rounds g c=>aoN rec g c tmps st k
 |.call g args=>TC tb rec g args st k
 |.draw all n=>TE P tb rec all n tmps st k
 |.layer all infos l=>TH P tb rec all infos l tmps st k
def run(P:Program)(tb:Tab)(n:Nat):cH:=
 Nat.rec (motive:=fun _=>cH) (fun _ _ _ _=>none) (fun _ ih=>a4d P tb ih) n
def iB(key:Nat):Code->List Code
 |.seq a b=>iB key a++iB key b
 |.cond _ a b=>iB key a++iB key b
 |.block _ b=>iB key b
 |.loop b=>match lL b with
  |some n=>match Nat.beq n key with
   |true=>b::iB key b
   |false=>iB key b
  |none=>iB key b
 |_=>[]
def QJ:Ex->Ex->Bool
 |.normal,.normal=>true
 |.ret,.ret=>true
 |.exit a,.exit b=>Nat.beq a b
 |_,_=>false
def xU(e:Ex):List Out->List Tmpl
 |[]=>[]
 |x::xs=>match QJ e x.ex with
  |true=>⟨x.tmps,x.st,.int 0⟩::xU e xs
  |false=>xU e xs
def Ir:List Out->List Tmpl
 |[]=>[]
 |x::xs=>⟨x.tmps,x.st,.int 0⟩::Ir xs
def aiB(tb:Tab)(n0 b0:Nat)(ts:List Tmpl)(xs:List Out)(less:E)(o:Out):bc:=
 match o.ex with
 |.normal=>qi o.tmps o.st (kK tb.facts n0 b0 o.tmps o.st (some less) ts none) (some [])
 |_=>qi o.tmps o.st (kK tb.facts n0 b0 o.tmps o.st none (xU o.ex xs) none) (some [])
def akG:bc->Bool
 |some _=>true
 |none=>false
def aiA(P:Program)(tb:Tab)(n:Nat)(g key n0 b0:Nat)(ts:List Tmpl)(xs:List Out)(less:E)(tmps:Tm)(st:St):Bool:=
 match tb.fn.get g with
 |some fn=>match fn.body with
  |some c=>match iB key c with
   |[b]=>match vN n0 b0 ts&&vN n0 b0 (Ir xs)with
    |true=>akG (run P tb n (.code g b) tmps st (aiB tb n0 b0 ts xs less))
    |false=>false
   |_=>false
  |none=>false
 |none=>false
def oX{O:Type}(P:Program)(k:Tab->O):O:=
 T.addsK P.types.toList 0 T.nil fun ty=>T.addsK P.funcs.toList 0 T.nil fun fn=>k ⟨ty,fn,[],[],[]⟩
end
end Go.SX

namespace Go.SX
noncomputable section
def ql(x:Int):List Int->List Int
 |[]=>[x]
 |y::l=>match leI x y with
  |true=>x::y::l
  |false=>y::ql x l
def hE:List Int->List Int
 |[]=>[]
 |x::l=>ql x (hE l)
def u5:List Int->List SV
 |[]=>[]
 |n::l=>.int .i64 (.int n)::u5 l
def Sg:Option (List (SV×St))->NatR
 |some l=>.outs l
 |none=>.no
def DU:List SV->Option (List Int)
 |[]=>some []
 |v::l=>match v with
  |.int .i64 (.int n)=>match DU l with
   |some r=>some (n::r)
   |none=>none
  |_=>none
def Ks(st:St)(b:Nat)(cs:List SV)(ah:E)(el:TypeId)(n:Nat):NatR:=
 match oU cs n with
 |some hd=>match DU hd with
  |some l=>match Nat.ble n 1000000 with
   |true=>match vq cs 0 (u5 (hE l))with
    |some cs'=>.outs [(.tup [],{st with heap:=st.heap.set b ⟨true,.cells cs' ah el⟩})]
    |none=>.no
   |false=>.no
  |none=>.no
 |none=>.no
def Tt(st:St)(b:Nat)(l n ah:E)(el:TypeId)(ok:Bool):NatR:=
 match ok with
 |true=>.outs [(.tup [],{st with heap:=st.heap.set b ⟨true,.flat [.int .i64] (.fn 40 l) n ah el⟩})]
 |false=>.lack (bz (aL .lss ry n))
def RG:List CK->Bool
 |[c]=>match c with
  |.int .i64=>true
  |_=>false
 |_=>false
def Ts(fs:List E)(args:List SV)(st:St):NatR:=
 match args with
 |[v]=>match v with
  |.nils=>.outs [(.tup [],st)]
  |.nslice b len _=>match st.heap.get b with
   |some ⟨own,o⟩=>match own with
    |true=>match o with
     |.cells cs ah el=>match gf len with
      |some n=>Ks st b cs ah el n
      |none=>.no
     |.flat ks l n ah el=>match len.beq n&&RG ks with
      |true=>Tt st b l n ah el (dz fs st.pc n ry)
      |false=>.no
     |_=>.no
    |false=>.no
   |none=>.no
  |.slice b off len _=>match st.heap.get b with
   |some ⟨own,o⟩=>match own with
    |true=>match o with
     |.cells cs ah el=>match gf len,jZ off with
      |some n,some 0=>Ks st b cs ah el n
      |_,_=>.no
     |_=>.no
    |false=>.no
   |none=>.no
  |_=>.no
 |_=>.no
def aos(f:FuncId):Nat1:=⟨f,Ts⟩
def Qf(args:List SV)(st:St):Option (List (SV×St)):=
 match args with
 |[]=>some [(.bool (.bool true),st)]
 |_=>none
def Qg(g:FuncId):Nat1:=⟨g,fun _ args st=>Sg (Qf args st)⟩
structure Pact where
 fn:FuncId
 args:List SV
 st:St
 posts:List (SV×St)
 deriving Inhabited
def Pact.tmpl(s:Pact):Tmpl:=⟨kW (.tup s.args),s.st,.int 0⟩
def sG(n0:Nat):Nat->List E
 |0=>[]
 |n+1=>.var n0::sG (Nat.succ n0) n
def qu(n0:Nat):Nat->List Nat
 |0=>[]
 |n+1=>n0::qu (Nat.succ n0) n
def SW(z:Sub)(st pre post:St):Sub:=⟨0,z.es++sG st.nv (Nat.sub post.nv pre.nv),0,z.bs++qu st.nb (Nat.sub post.nb pre.nb)⟩
def oN(z:Sub)(pre post:T Blk):Nat->Nat->T Blk->T Blk
 |0,_,heap=>heap
 |n+1,i,heap=>match pre.get i with
  |none=>oN z pre post n (Nat.succ i) heap
  |some p=>match p.obj with
   |.gone=>oN z pre post n (Nat.succ i) heap
   |_=>match post.get i with
    |none=>T.setK heap (ce 0 z.bs i) ⟨true,.gone⟩ fun heap=>oN z pre post n (Nat.succ i) heap
    |some q=>T.setK heap (ce 0 z.bs i) ⟨true,q.obj.sub z⟩ fun heap=>oN z pre post n (Nat.succ i) heap
def u4(z:Sub)(post:T Blk):Nat->Nat->Nat->T Blk->T Blk
 |0,_,_,heap=>heap
 |n+1,i,b,heap=>match post.get i with
  |none=>T.insK heap b ⟨true,.gone⟩ fun heap=>u4 z post n (Nat.succ i) (Nat.succ b) heap
  |some q=>T.insK heap b ⟨true,q.obj.sub z⟩ fun heap=>u4 z post n (Nat.succ i) (Nat.succ b) heap
def Dy(z:Sub)(pc:List E):List E->List E
 |[]=>pc
 |e::es=>e.sub z.n0 z.es::Dy z pc es
def y9(z:Sub)(st pre:St)(p:SV×St):SV×St:=
 let z':=SW z st pre p.2
 (p.1.sub z',⟨Nat.add st.nv (Nat.sub p.2.nv pre.nv),Nat.add st.nb (Nat.sub p.2.nb pre.nb),
  u4 z' p.2.heap (Nat.sub p.2.nb pre.nb) pre.nb st.nb (oN z' pre.heap p.2.heap pre.nb 0 st.heap),Dy z' st.pc p.2.pc⟩)
def Kv(z:Sub)(st pre:St):List (SV×St)->List (SV×St)
 |[]=>[]
 |p::ps=>y9 z st pre p::Kv z st pre ps
def Ty(s:Pact)(fs:List E)(args:List SV)(st:St):NatR:=
 match st.scp with
 |true=>match uT fs 0 0 (kW (.tup args)) st s.tmpl with
  |.ok z=>.outs (Kv z st s.st s.posts)
  |.lack e=>.lack e
  |.bad _=>.no
 |false=>.no
def RZ(fs:List E)(p:SV×St):Bool:=
 match p.2.pc with
 |[]=>true
 |c::bU=>match fF fs bU (bz c)with
  |some b=>!b
  |none=>true
def C8(fs:List E):List (SV×St)->List (SV×St)
 |[]=>[]
 |p::ps=>match RZ fs p with
  |true=>p::C8 fs ps
  |false=>C8 fs ps
def Tx(s:Pact)(fs:List E)(args:List SV)(st:St):NatR:=
 match Ty s fs (SV.norms st.heap args) st.norm with
 |.outs l=>.outs (C8 fs l)
 |.lack e=>.lack e
 |.no=>.no
def aX(s:Pact):Nat1:=⟨s.fn,Tx s⟩
def Sz(t:T Blk):Bool:=T.all (fun b=>b.own) t
def IK(pre post:T Blk):Nat->Bool
 |0=>true
 |n+1=>match IK pre post n with
  |true=>match post.get n with
   |none=>true
   |some q=>match q.obj with
    |.gone=>true
    |_=>match pre.get n with
     |some p=>match p.obj with
      |.gone=>false
      |_=>true
     |none=>false
  |false=>false
def SU(s:Pact)(p:SV×St):Bool:=
 Nat.ble s.st.nv p.2.nv&&(Nat.ble s.st.nb p.2.nb&&(p.2.scp&&(p.1.scp p.2.nv p.2.nb&&(Sz p.2.heap&&IK s.st.heap p.2.heap s.st.nb))))
def Kb(s:Pact):List (SV×St)->Bool
 |[]=>true
 |p::ps=>match SU s p with
  |true=>Kb s ps
  |false=>false
def Pact.good(s:Pact):Bool:=s.st.scp&&(SV.scps s.st.nv s.st.nb s.args&&(Sz s.st.heap&&Kb s s.posts))
def Sw(fs:List E)(s:Pact)(p:SV×St):Bool:=yl fs s.st.nv s.st.nb (kW p.1) p.2 (xz s.posts)
def JB(tb:Tab)(ms:List FM)(s:Pact):List Out->Bool
 |[]=>true
 |o::os=>match o.tmps with
  |.node v _ _=>match Sw tb.facts s (mU ms tb.facts (v,o.st))with
   |true=>JB tb ms s os
   |false=>false
  |.nil=>false
def Tw(P:Program)(tb:Tab)(n:Nat)(ms:List FM)(s:Pact):Bool:=
 match s.good with
 |true=>match run P tb n (.call s.fn s.args) .nil s.st (fun o=>some [o])with
  |some os=>JB tb ms s os
  |none=>false
 |false=>false
def bo(n:Nat)(l:List (Nat×SV)):Tm:=l.foldr (fun p t=>t.set p.1 p.2) (T.fill .junk 20 n)
def bp(l:List Blk):T Blk:=(l.foldl (fun(p:T Blk×Nat) b=>(p.1.ins p.2 b,p.2+1)) (T.nil,0)).1
def gt(a b:E):E:=.cmp .lss a b
def af(a b:E):E:=.not (.cmp .lss b a)
def eV(i:Nat):E:=.var i
def aqs:List Nat->List E
 |[]=>[]
 |i::l=>.not (.cmp .lss (.var i) (.int 0))::.not (.cmp .lss (.int 18446744073709551615) (.var i))::aqs l
def akl:List Nat->List E
 |[]=>[]
 |i::l=>.not (.cmp .lss (.var i) (.int (-9223372036854775808)))::.not (.cmp .lss (.int 9223372036854775807) (.var i))::akl l
def Rg(kss:List FM)(fs:List E):List (SV×St)->List (SV×St)
 |[]=>[]
 |p::ps=>mU kss fs p::Rg kss fs ps
def Rh(kss:List FM)(x:Nat1)(fs:List E)(args:List SV)(st:St):NatR:=
 match x.eff fs args st with
 |.outs l=>.outs (Rg kss fs l)
 |.lack e=>.lack e
 |.no=>.no
def aYl(kss:List FM)(x:Nat1):Nat1:=⟨x.fn,Rh kss x⟩
end
end Go.SX

namespace Go.SX
noncomputable section
def Ja(ks:List CK)(l n len:E)(cap ah:E)(v:SV)(nv:Nat):SV×Nat:=
 match n.beq len&&cap.beq ah with
 |true=>(.bsl ks (.fn 28 (.pr (.pr (.var nv) len) l)),Nat.succ nv)
 |false=>(v,nv)
def RV(h:T Blk)(ks0:List CK)(v:SV)(nv:Nat):SV×Nat:=
 match v with
 |.nils=>(.bsl ks0 (.fn 30 (.int 0)),nv)
 |.nslice b len cap=>match h.get b with
  |some ⟨true,.flat ks l n ah _⟩=>Ja ks l n len cap ah v nv
  |some ⟨true,.nest ks l n ah _ _⟩=>Ja ks l n len cap ah v nv
  |_=>(v,nv)
 |_=>(v,nv)
def Jb(h:T Blk)(m:FM)(v:SV)(nv:Nat):SV×Nat:=
 match m with
 |.down ks=>RV h ks v nv
 |_=>(v,nv)
def yj(h:T Blk)(nb:Nat):List FM->List SV->Nat->List SV×Nat
 |m::ms,v::vs,nv=>match Jb h m v nv with
  |(v',nv1)=>match v'.scp nv1 nb with
   |true=>match yj h nb ms vs nv1 with
    |(vs',nv')=>(v'::vs',nv')
   |false=>(v::vs,nv)
 |_,vs,nv=>(vs,nv)
def RW(h:T Blk)(nb:Nat)(ms:List FM)(v:SV)(nv:Nat):SV×Nat:=
 match v with
 |.agg cs=>match yj h nb ms cs nv with
  |(cs',nv')=>(.agg cs',nv')
 |v=>match ms with
  |m::_=>Jb h m v nv
  |[]=>(v,nv)
def vc(h:T Blk)(nb:Nat):List (List FM)->List SV->Nat->List SV×Nat
 |ms::mss,v::vs,nv=>match RW h nb ms v nv with
  |(v',nv1)=>match v'.scp nv1 nb with
   |true=>match vc h nb mss vs nv1 with
    |(vs',nv')=>(v'::vs',nv')
   |false=>(v::vs,nv)
 |_,vs,nv=>(vs,nv)
def Ka:SV->Bool
 |.int _ _=>true
 |.bool _=>true
 |.str _=>true
 |_=>false
def I9(h:T Blk):List (SV×St)->Option (List (SV×St))
 |[]=>some []
 |y::l=>match Ka y.1 with
  |true=>match I9 h l with
   |some l'=>some ((y.1,⟨y.2.nv,y.2.nb,h,y.2.pc⟩)::l')
   |none=>none
  |false=>none
def RU(mss:List (List FM))(x:Nat1)(fs:List E)(args:List SV)(st:St):NatR:=
 match st.scp&&SV.scps st.nv st.nb args with
 |true=>match vc st.heap st.nb mss args st.nv with
  |(args',nv')=>match x.eff fs args' ⟨nv',st.nb,.nil,st.pc⟩ with
   |.outs l=>match I9 st.heap l with
    |some l'=>.outs l'
    |none=>.no
   |.lack e=>match e.scp st.nv with
    |true=>.lack e
    |false=>.no
   |.no=>.no
 |false=>.no
def aZe(mss:List (List FM))(x:Nat1):Nat1:=⟨x.fn,RU mss x⟩
end
end Go.SX
