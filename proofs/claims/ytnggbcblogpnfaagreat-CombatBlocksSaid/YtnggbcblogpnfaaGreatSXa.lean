/-
  A symbolic executor of the model's code: it reckons all outcomes of a call E7 values and memory that are known in part.
-/
import GoSem.Step
set_option linter.unusedVariables false
set_option linter.unusedSimpArgs false
set_option linter.unusedSectionVars false

namespace Go.SX
inductive U where
 |int (n:Int) | bool (b:Bool) | str (s:ByteArray) | lst (l:List U) | bx (a:Option Addr) (n c:Nat) (l:List U)
def U.toI:U->Int | .int n=>n | _=>0
def U.toB:U->Bool | .bool b=>b | _=>false
def U.toS:U->ByteArray | .str s=>s | _=>ByteArray.empty
def U.toL:U->List U | .lst l=>l | .bx _ _ _ l=>l | _=>[]
def U.raw:U->Value | .bx a n c _=>.slice a n c | _=>.slice none 0 0
def U.adr:U->Option Addr | .bx a _ _ _=>a | _=>none
def U.rlen:U->Nat | .bx _ n _ _=>n | _=>0
def U.rcap:U->Nat | .bx _ _ c _=>c | _=>0
def U.cut(w:Nat)(u:U)(l h m:Nat):U:=
 .bx (if m=l then u.adr else u.adr.map (·.add (l*w))) (h-l) (m-l) ((u.toL.take (h*w)).drop (l*w))
def U.fst:U->U | .lst (a::_)=>a | _=>.int 0
def U.snd:U->U | .lst (_::b::_)=>b | _=>.int 0
mutual
def U.eq:U->U->Bool
 |.int a,.int b=>a==b
 |.bool a,.bool b=>a==b
 |.str a,.str b=>a.data==b.data
 |.lst a,.lst b=>U.eqs a b
 |.bx _ _ _ a,.lst b=>U.eqs a b
 |.lst a,.bx _ _ _ b=>U.eqs a b
 |.bx _ _ _ a,.bx _ _ _ b=>U.eqs a b
 |_,_=>false
def U.eqs:List U->List U->Bool
 |[],[]=>true
 |x::xs,y::ys=>U.eq x y&&U.eqs xs ys
 |_,_=>false
end
def acR(n:Nat):Int:=match n with | 0=>-128 | 1=>-32768 | 2=>-2147483648 | 3=>-9223372036854775808 | _=>0
def acQ(n:Nat):Int:=match n with | 0=>127 | 1=>32767 | 2=>2147483647 | 3=>9223372036854775807 | 4=>255 | 5=>65535 | 6=>4294967295 | _=>18446744073709551615
mutual
def U.typ:U->U->Bool
 |.int x,.int k=>decide (k<8/\acR k.toNat<=x/\x<=acQ k.toNat)
 |.bool _,.int k=>k==8
 |.str _,.int k=>k==9
 |.bx _ _ _ l,.lst ks=>U.typs l ks []
 |_,_=>false
def U.typs:List U->List U->List U->Bool
 |[],_,_=>true
 |x::xs,ks,k::r=>U.typ x k&&U.typs xs ks r
 |x::xs,ks,[]=>match ks with
  |k::r=>U.typ x k&&U.typs xs ks r
  |[]=>false
end
def db(k:Int):List U->Option U
 |[]=>none
 |u::l=>if u.fst.toI=k then some u.snd else db k l
def cM(k:Int)(v:U):List U->List U
 |[]=>[.lst [.int k,v]]
 |u::l=>if u.fst.toI=k then .lst [.int k,v]::l else u::cM k v l
def rC(k:Int):List U->List U
 |[]=>[]
 |u::l=>if u.fst.toI=k then l else u::rC k l
def nL(x:Int):List Int->List Int
 |[]=>[x]
 |y::l=>if x<=y then x::y::l else y::nL x l
def dy:List Int->List Int
 |[]=>[]
 |x::l=>nL x (dy l)
def aHJ(l:List U):Bool:=
 decide ((l.map fun u=>u.fst.toI).Nodup)&&(l.all fun u=>decide (-9223372036854775808<=u.fst.toI/\u.fst.toI<=9223372036854775807))&&decide (l.length<=1000000)
def acA(x:U):List U->Nat->Int
 |[],_=>-1
 |y::l,n=>if U.eq x y then n else acA x l (n+1)
mutual
def U.size:U->Nat
 |.int _=>1
 |.bool _=>1
 |.str _=>1
 |.lst l=>U.sizes l+1
 |.bx _ _ _ l=>U.sizes l+1
def U.sizes:List U->Nat
 |[]=>0
 |u::l=>U.size u+U.sizes l
end
def vi(f:Nat)(a:U):U:=
 match f with
 |0=>.int a.toL.length
 |1=>a.fst.toL.getD a.snd.toI.toNat (.int 0)
 |2=>.lst (a.fst.toL.set a.snd.fst.toI.toNat a.snd.snd)
 |3=>.lst (a.fst.toL++a.snd.toL)
 |4=>.lst ((a.fst.toL.take a.snd.snd.toI.toNat).drop a.snd.fst.toI.toNat)
 |5=>.lst (List.replicate a.fst.toI.toNat a.snd)
 |6=>.int (a.fst.toI+a.snd.toI)
 |7=>.int (a.fst.toI-a.snd.toI)
 |8=>.int (a.fst.toI*a.snd.toI)
 |9=>.int (a.fst.toL.length/a.snd.toI.toNat)
 |10=>.lst []
 |11=>.lst [a]
 |12=>.bool (U.eq a.fst a.snd)
 |13=>.int a.toS.size
 |14=>.str (a.fst.toS++a.snd.toS)
 |15=>.int ((a.fst.toS.data.getD a.snd.toI.toNat 0).toNat)
 |16=>.str (a.fst.toS.extract a.snd.fst.toI.toNat a.snd.snd.toI.toNat)
 |17=>.lst (List.replicate a.fst.toI.toNat a.snd.toL).flatten
 |18=>.lst (a.fst.toL.take a.snd.toI.toNat)
 |19=>.lst (a.fst.toL.drop a.snd.toI.toNat)
 |20=>.int (if a.fst.toB then a.snd.fst.toI else a.snd.snd.toI)
 |21=>.bx a.fst.adr a.fst.rlen a.fst.rcap a.snd.toL
 |22=>.int a.rcap
 |23=>.lst (a.fst::a.snd.toL)
 |24=>U.cut a.fst.fst.toI.toNat a.fst.snd a.snd.fst.toI.toNat a.snd.snd.fst.toI.toNat a.snd.snd.snd.toI.toNat
 |25=>.bool (a.snd.toL.any fun x=>U.eq a.fst x)
 |26=>.int a.rlen
 |27=>.bool (U.typs a.snd.toL a.fst.toL [])
 |28=>.bx a.fst.fst.adr a.fst.snd.toI.toNat a.fst.fst.rcap a.snd.toL
 |29=>.int ((a.fst.toI.toNat-a.snd.toI.toNat:Nat):Int)
 |30=>.bx none 0 0 []
 |31=>.bool a.adr.isNone
 |32=>(db a.snd.fst.toI a.fst.toL).getD a.snd.snd
 |33=>.bool (db a.snd.toI a.fst.toL).isSome
 |34=>.lst (cM a.snd.fst.toI a.snd.snd a.fst.toL)
 |35=>.lst (rC a.snd.toI a.fst.toL)
 |36=>.lst ((dy (a.toL.map fun u=>u.fst.toI)).map U.int)
 |37=>.lst (a.toL.map U.fst)
 |38=>.int (acA a.snd a.fst.toL 0)
 |39=>.bool (aHJ a.toL)
 |40=>.lst ((dy (a.toL.map U.toI)).map U.int)
 |42=>.int ((U.size a:Nat):Int)
 |41=>.str ⟨(a.toL.map fun u=>UInt8.ofNat u.toI.toNat).toArray⟩
 |_=>.int 0
end Go.SX

namespace Go.SX
def br(u:U):List Int:=u.toL.map U.toI
def bj(n:Nat):Nat:=n
def cX(X:U)(j:Nat):U:=X.toL.getD j (.int 0)
def iX(X:U)(j:Nat):Int:=(cX X j).toI
def nI(l:List U)(j:Nat):Int:=(l.getD j (.int 0)).toI
def dq(a x b:Int):Bool:=decide (a<=x/\x<=b)
def Cw(a b:Int):Bool:=dq 0 a 500&&dq 0 b 1&&(a==0||b==0)
def xv(l:List U)(n:Nat):Bool:=(List.range n).all fun i=>Cw (nI l (i*2)) (nI l (i*2+1))
def nM(p i c t:Int)(l:List U)(q:Bool):Bool:=
 dq 0 p 1&&dq 1 i 500&&dq 0 c 399&&dq (-1) t 1&&decide (l.length/2<=4)&&(decide (t<0)||l.length/2==0)&&(!q||decide (0<=t))&&xv l (l.length/2)
def ud(l:List U)(q:Bool)(n:Nat):Bool:=(List.range n).all fun i=>nM (nI l (i*5)) (nI l (i*5+1)) (nI l (i*5+2)) (nI l (i*5+3)) (l.getD (i*5+4) (.int 0)).toL q
def aY(X:U)(k:Nat):List Int:=br (cX X (6+14*(k/4)+k%4))
def kY(X:U)(k:Nat):List (Int×Int):=(List.range k).flatMap fun z=>(aY X z).map fun i=>(i,((z/4:Nat):Int))
def eW(X:U)(k i:Nat):List (Int×Int):=kY X k++((aY X k).take i).map fun x=>(x,((k/4:Nat):Int))
def jf(X:U)(s:Nat):List Nat:=(List.range s).filter fun i=>decide (nI (cX X 29).toL (i*5+3)<0)
def iH(X:U)(s:Nat):List (Int×Int):=(jf X s).map fun i=>(nI (cX X 29).toL (i*5+1),nI (cX X 29).toL (i*5))
def ic(X:U)(s:Nat):List (Int×Int):=(jf X s).map fun i=>(nI (cX X 29).toL (i*5+1),nI (cX X 29).toL (i*5+2))
def iF(m:List U):List (Int×Int):=m.map fun u=>(u.fst.toI,u.snd.toI)
def nW(l:List Int):Bool:=match l with | []=>true | x::l=>!l.contains x&&nW l
def g9(m:List U)(l:List (Int×Int)):Bool:=iF m==l&&nW (l.map Prod.fst)
def aT(X:U):Nat:=(cX X 0).toL.length/12
def cD(X:U):Nat:=(cX X 29).toL.length/5
def oI(X:U)(i j:Nat):Int:=nI (cX X 0).toL (i*12+j)
def MG(a0 a1 a2 a3 a4 a5 a6 a7 a8:Int):Bool:=
 dq 1 a0 500&&dq (-1) a1 399&&dq 0 a2 1&&(a1 == -1||(a3==0&&a4==0))&&[a3,a4,a5,a6,a7,a8].all fun j=>dq 0 j 99
def rJ(X:U)(i:Nat):Bool:=
 dq 1 (oI X i 0) 500&&dq (-1) (oI X i 1) 399&&dq 0 (oI X i 2) 1&&(oI X i 1 == -1||(oI X i 3==0&&oI X i 4==0))&&[3,4,5,6,7,8].all fun j=>dq 0 (oI X i j) 99
def c9(X:U):List (Int×Int):=eW X 8 0++iH X (cD X)
def fy(l:List (Int×Int))(k:Int):Option Int:=(l.find? fun p=>p.1==k).map Prod.snd
def uF(X:U)(n:Nat):Bool:=(List.range n).all fun i=>rJ X i&&(i==0||decide (oI X (i-1) 0<oI X i 0))&&fy (c9 X) (oI X i 0)==some (oI X i 2)&&(match fy (ic X (cD X)) (oI X i 0)with | none=>true | some c=>c==oI X i 1)
def dr(X:U):Bool:=nW ((c9 X).map Prod.fst)&&uF X (aT X)&&(c9 X).length==aT X
def cm(X:U)(k:Int)(n:Nat):Int:=match (List.range n).find? fun i=>oI X i 0==k with | some i=>((i:Nat):Int) | none=>-1
def q9(X:U)(p:Nat)(q:Nat)(k:Int):Nat:=((List.range q).flatMap fun z=>aY X (4*p+z)).count k
def o6(X:U)(p:Int)(k:Int)(s:Nat):Nat:=((List.range s).filter fun i=>nI (cX X 29).toL (i*5+3) == -1&&nI (cX X 29).toL (i*5+1)==k&&nI (cX X 29).toL (i*5)==p).length
def pB(X:U)(p:Nat)(k:Int):Nat:=q9 X p 4 k+o6 X p k (cD X)
def vj(X:U)(s:Nat):Bool:=(jf X s).all fun i=>decide (0<=cm X (nI (cX X 29).toL (i*5+1)) (aT X))&&oI X (cm X (nI (cX X 29).toL (i*5+1)) (aT X)).toNat 1==nI (cX X 29).toL (i*5+2)
def uG(X:U)(n:Nat):Bool:=(List.range n).all fun i=>rJ X i&&(i==0||decide (oI X (i-1) 0<oI X i 0))&&pB X (oI X i 2).toNat (oI X i 0)==1
def yM(X:U):Nat:=((List.range 8).map fun z=>(aY X z).length).sum+(jf X (cD X)).length
def rm(X:U):Bool:=vj X (cD X)&&uG X (aT X)&&yM X==aT X
def cy(X:U):Nat:=(iX X 34).toNat
def gf(X:U):List Int:=aY X (4*cy X+2)
def fC(X:U):List Int:=aY X (4*(1-cy X)+2)
def aX(X:U):List Int:=br (cX X 31)
def blk(X:U)(i j:Nat):Int:=nI (cX X 32).toL (i*2+j)
def cS(X:U):Nat:=(cX X 32).toL.length/2
def jw(X:U)(n:Nat):Bool:=nW ((aX X).take n)&&((aX X).take n).all fun a=>(gf X).contains a
def dp(X:U)(n:Nat)(j:Nat):List Int:=(List.range n).map fun i=>blk X i j
def kq(X:U)(n:Nat):Bool:=nW (dp X n 1)&&nW (dp X n 0)&&(List.range n).all fun i=>(aX X).contains (blk X i 1)&&(fC X).contains (blk X i 0)
def gW(X:U):Bool:=jw X (aX X).length&&kq X (cS X)
def hO(m:List U)(k:Int):Bool:=((db k m).getD (.bool false)).toB
def pF(X:U)(n j:Nat)(k:Int):Bool:=match decide (0<k)with
 |true=>((aX X).take n).contains k && !(dp X j 1).contains k
 |false=>(dp X j 0).contains (-k)
def iG(X:U)(m:List U)(n j:Nat):Bool:=
 ((m.map fun u=>u.fst.toI)++aX X++(dp X (cS X) 0).map (fun k=>-k)).all fun k=>hO m k==pF X n j k
def qW(X:U)(n:Nat):Bool:=(List.range n).all fun i=>(aX X).count (nI (cX X 31).toL i)==1&&(gf X).count (nI (cX X 31).toL i)==1
def tA(X:U)(i k:Nat):Bool:=(List.range k).all fun q=>!(blk X q 1==blk X i 1) && !(blk X q 0==blk X i 0)
def tB(X:U)(n:Nat):Bool:=(List.range n).all fun i=>(aX X).count (blk X i 1)==1&&(fC X).count (blk X i 0)==1&&tA X i i
def ri(X:U):Bool:=qW X (aX X).length&&tB X (cS X)
def rX(X:U)(p:Nat):Bool:=dq 0 (iX X (1+14*p)) 9999&&([2,3,4,5].all fun j=>dq 0 (iX X (j+14*p)) 99)&&dq 0 (iX X (13+14*p)) 7&&dq 0 (iX X (14+14*p)) 255
def uD(X:U):Bool:=dq 0 (iX X 34) 1&&dq 0 (iX X 33) 1000&&dq 0 (iX X 35) 10&&dq (-1) (iX X 36) 1&&dq 0 (iX X 37) 2&&decide (aT X<=500)&&decide (cD X<=200)&&decide ((cX X 30).toL.length/5<=200)
def uc(X:U):Bool:=ud (cX X 29).toL false (cD X)&&ud (cX X 30).toL true ((cX X 30).toL.length/5)
def sa(X:U):Bool:=uD X&&rX X 0&&rX X 1&&uc X&&dr X&&gW X
def sb(X:U):Bool:=uD X&&rX X 0&&rX X 1&&uc X&&rm X&&ri X
def kOu:List U:=[.int 3,.int 3,.int 3,.int 3,.int 3,.int 3,.int 3,.int 3,.int 3,.int 8,.int 8,.int 8]
def kTu:List U:=[.int 3,.int 3]
def Ej:List U:=[.int 3,.int 3,.int 3,.int 3,.lst kTu]
def kSu:List U:=[.int 3,.int 3,.int 3,.int 3,.int 3,.lst [.int 3],.lst [.int 3],.lst [.int 3],.lst [.int 3],.int 8,.int 8,.int 8,.int 3,.int 3]
def nN:List U:=.lst kOu::(kSu++(kSu++[.lst Ej,.lst Ej,.lst [.int 3],.lst kTu,.int 3,.int 3,.int 3,.int 3,.int 3]))
def eX(l:List U)(n:Nat):Bool:=(List.range n).all fun i=>decide ((l.getD (i*5+4) (.int 0)).toL.length/2<=6)
def je(X:U):Bool:=
 ((List.range 8).all fun z=>decide ((aY X z).length<=40))&&decide (cD X<=20)&&decide ((cX X 30).toL.length/5<=20)&&eX (cX X 29).toL (cD X)&&eX (cX X 30).toL ((cX X 30).toL.length/5)&&decide (aT X<=30)&&decide ((aX X).length<=30)&&decide (cS X<=30)
def gu(l:List U)(c:Int)(j:Nat):Int:=if 0<=c/\c<(l.length/14:Nat)then nI l (c.toNat*14+j)else 0
def F4(l:List U)(X:U)(p:Int)(n:Nat):List Int:=(List.range n).flatMap fun i=>
 let k:=gu l (oI X i 1) 1;let m:=gu l (oI X i 1) 7
 if oI X i 2==p && !((cX X 0).toL.getD (i*12+9) (.bool false)).toB&&k==1&&decide (0<=m)&&decide (m<4)&&(aY X (4*p.toNat+2)).contains (oI X i 0)then [oI X i 0,m] else []
def Dr:List Int->List Int
 |a::_::l=>a::Dr l
 |_=>[]
def pa(X:U)(p:Int):Bool:=dq 0 p 1&&sb X
def E1:List Int->List Int
 |_::b::l=>b::E1 l
 |_=>[]
def aIu(m:List Int)(c:Int):List Int:=m.set c.toNat (min 99 (m.getD c.toNat 0+1))
def aIv(l:List U)(X:U)(p:Int)(n:Nat):List Int:=((E1 (F4 l X p (aT X))).take n).foldl aIu ((List.range 4).map fun k=>iX X (2+14*p.toNat+k))
def Mn(l:List U)(X:U)(k:Int):Int:=
 let c:=oI X (cm X k (aT X)).toNat 1
 if gu l c 1==1&&decide (0<=gu l c 7)&&decide (gu l c 7<4)then gu l c 7 else -1
def aLM(l:List U)(X:U)(p:Int)(n:Nat):List Int:=((aY X (4*p.toNat+2)).take n).filter fun k=>decide (0<=Mn l X k) && !((cX X 0).toL.getD ((cm X k (aT X)).toNat*12+9) (.bool false)).toB
def tO(l:List U)(n:Nat):Bool:=(List.range n).all fun i=>decide ((l.getD (i*2+1) (.int 0)).toL.length/5<=5)
def tN(e t:List U):Bool:=decide (e.length/5<=5)&&decide (t.length/2<=3)&&tO t (t.length/2)
def Ey(l:List U)(n:Nat):Bool:=(List.range n).all fun i=>tN (l.getD (i*14+11) (.int 0)).toL (l.getD (i*14+12) (.int 0)).toL
def fV(a:U):Nat->Int | 0=>a.fst.toI | n+1=>fV a.snd n
def bD(a:U)(i:Nat):U:=match i with | 0=>a.fst | n+1=>bD a.snd n
abbrev Pu:=List Int×List Int×List Int
def okC(k c:Int):Bool:=decide (k<0)||c==k
def DG(k:Int):List Int->Nat->Int
 |_::c::l,i=>if okC k c then(i:Nat)else DG k l (i+1)
 |_,_=>-1
def aNl(i:Nat)(s:Pu):Pu:=(s.1,s.2.1.take (2*i)++s.2.1.drop (2*i+2),s.2.2++[s.2.1.getD (2*i) 0])
def Oi(k:Int)(s:Pu):Option Pu:=if 0<=DG k s.2.1 0 then some (aNl (DG k s.2.1 0).toNat s)else none
def abh(b:Nat)(s:Pu):Pu:=(s.1.set b (s.1.getD b 0-1),s.2)
def ae6(k:Nat)(s:Pu):Option Pu:=if 0<s.1.getD k 0 then some (abh k s)else Oi k s
def aaC(m:List Int):Nat:=[1,2,3].foldl (fun b k=>if m.getD b 0<m.getD k 0 then k else b) 0
def aI1(s:Pu):Option Pu:=if 0<s.1.getD (aaC s.1) 0 then some (abh (aaC s.1) s)else Oi (-1) s
def yw(f:Pu->Option Pu):Nat->Pu->Option Pu
 |0,s=>some s
 |n+1,s=>(yw f n s).bind f
def ae7(c:List Int):Nat->Pu->Option Pu
 |0,s=>some s
 |k+1,s=>(ae7 c k s).bind (yw (ae6 k) (bj (c.getD k 0).toNat))
def NL(k:Nat):Pu->Option Pu:=if k<4 then ae6 k else aI1
def nY(c:List Int)(k n:Nat)(s:Pu):Option Pu:=(ae7 c k s).bind (yw (NL k) n)
def afx(l:List U)(X:U)(p:Int):Pu:=((List.range 4).map (fun k=>iX X (2+14*p.toNat+k)),F4 l X p (aT X),[])
def iB(a:U):List Int:=[fV a 0,fV a 1,fV a 2,fV a 3]
def skip(n:Nat)(a:U):U:=match n with | 0=>a | n+1=>(skip n a).snd
def zj(a:U):Pu:=(iB a,br (bD a 4),br (bD a 5))
def n4(a:U):Pu:=afx (bD a 0).toL (bD a 1) (bD a 2).toI
def aGB(c:List Int)(any:Int):Bool:=(c.all fun x=>dq 0 x 20)&&dq 0 any 20
def fF(a b:List U):Bool:=a.length/5==b.length/5&&U.eqs (a.take (a.length/5*5)) (b.take (b.length/5*5))
def gg(j:Nat)(a b:U):Bool:=if j==29||j==30 then fF a.toL b.toL else if [0,6,7,8,9,20,21,22,23,31,32].contains j then U.eq a b else if [10,11,12,24,25,26].contains j then a.toB==b.toB else a.toI==b.toI
def aJE(Y X:U):Bool:=(List.range 38).all fun j=>gg j (cX Y j) (cX X j)
def aG5(l:List U)(X:U)(k:Int)(x:List Int):Int:=(x.find? fun id=>Mn l X id==k).getD 0
def dF:U->Bool
 |.bx _ _ _ _=>true
 |.lst _=>true
 |_=>false
def fT(l:List U):Bool:=(List.range l.length).all fun i=>!(i%5==4)||dF (l.getD i (.int 0))
def tC(X:U):Bool:=X.toL.length==38&&[0,6,7,8,9,20,21,22,23,29,30,31,32].all (fun j=>dF (cX X j))&&(fT (cX X 29).toL&&fT (cX X 30).toL)
def aJF(Y X:U):Bool:=(List.range 38).all fun j=>if j==0 then true else if j==29||j==30 then fF (cX Y j).toL (cX X j).toL&&(dF (cX Y j)&&fT (cX Y j).toL)else U.eq (cX Y j) (cX X j)
def GB(L:List Int)(n:Nat)(l:List U):List U:=
 (List.range l.length).map fun j=>if j%12==9&&decide (j/12<n)&&L.contains (l.getD (j/12*12) (.int 0)).toI then .bool true else l.getD j (.int 0)
def ahu(Y X:U)(p:Nat)(m:List Int):Bool:=(List.range 38).all fun j=>
 if j==0 then true
 else if j==29||j==30 then fF (cX Y j).toL (cX X j).toL&&(dF (cX Y j)&&fT (cX Y j).toL)
 else if decide (2+14*p<=j)&&decide (j<6+14*p)then iX Y j==m.getD (j-(2+14*p)) 0 else U.eq (cX Y j) (cX X j)
def ae2(Y X:U)(p:Nat)(L m:List Int):Bool:=U.eqs (cX Y 0).toL (GB L (aT X) (cX X 0).toL)&&ahu Y X p m
def agp:List Int->Bool
 |a::b::l=>decide (a<=b)&&agp (b::l)
 |_=>true
def aF9(l:List Int)(x:Int)(i j:Nat):Bool:=((l.take i).all fun y=>decide (y<x))&&((l.drop j).all fun y=>decide (x<=y))
def fB:List Nat:=[1,2,3,4,5,10,11,12,13,14,15,16,17,18,19,24,25,26,27,28,33,34,35,36,37]
def jN:List Nat:=[0,6,7,8,9,20,21,22,23,29,30,31,32]
def oe(W Y:U)(l:Nat->U):Bool:=(List.range 38).all fun j=>match jN.idxOf? j with
 |some i=>if j==29||j==30 then fF (cX W j).toL (l i).toL else U.eqs (cX W j).toL (l i).toL
 |none=>gg j (cX W j) (cX Y (fB.idxOf j))
def ahv(Y X:U)(p:Nat)(m:List Int):Bool:=(List.range 25).all fun k=>let j:=fB.getD k 0
 if decide (2+14*p<=j)&&decide (j<6+14*p)then iX Y k==m.getD (j-(2+14*p)) 0 else U.eq (cX Y k) (cX X j)
def CE(x y:Int):Int:=IntKind.i64.wrap ((BitVec.ofInt IntKind.i64.bits x &&& BitVec.ofInt IntKind.i64.bits y).toNat:Nat)
def DU(l:List U)(c k:Int):Bool:=CE (gu l c 10) k==k
def ua(l:List U)(c:Int):Bool:=c == -1||gu l c 1==2
def tK(l:List U)(X:U)(p:Int)(i:Nat):Bool:=oI X i 2==p&&ua l (oI X i 1)&&(aY X (4*p.toNat+2)).contains (oI X i 0)
def gv(l:List U)(X:U)(p:Int)(n:Nat):List Int:=((List.range n).filter (tK l X p)).map fun i=>oI X i 0
def nu(l:List U)(X:U)(p:Int)(n:Nat):List Int:=((aY X (4*p.toNat+2)).take n).filter fun k=>ua l (oI X (cm X k (aT X)).toNat 1)
def aLN(l:List U):Bool:=(List.range (l.length/12)).all fun q=>decide (1<=nI l (q*12))&&decide (nI l (q*12)<=500)&&(decide (l.length/12<=q+1)||decide (nI l (q*12)<nI l ((q+1)*12)))
def aF8(l:List U)(x:Int)(i j:Nat):Bool:=(List.range (l.length/12)).all fun q=>(decide (i<=q)||decide (nI l (q*12)<x))&&(decide (q<j)||decide (x<=nI l (q*12)))
def Lz(l:List U)(x y:Int)(n:Nat):Bool:=(List.range n).any fun q=>nI l (q*2)==x&&nI l (q*2+1)==y
def jv(l:List U)(j:Nat)(x:Int)(n:Nat):Bool:=(List.range n).any fun q=>nI l (q*2+j)==x
def fg(l:List U)(X:U)(x y:Int):Bool:=
 let i:=(cm X x (aT X)).toNat;let j:=(cm X y (aT X)).toNat
 !((cX X 0).toL.getD (i*12+9) (.bool false)).toB && !(jv (cX X 32).toL 0 x (cS X)) && !(jv (cX X 32).toL 1 y (cS X)) && !(DU l (oI X j 1) 2 && !(DU l (oI X i 1) 2))
def eS(l:List U)(X:U)(B A:List Int)(n m:Nat):List Int:=
 ((B.take n).flatMap fun x=>A.flatMap fun y=>if fg l X x y then [x,y] else [])++((B.drop n).take 1).flatMap fun x=>(A.take m).flatMap fun y=>if fg l X x y then [x,y] else []
def yR(l:List U)(X:U)(x y:Int):Bool:=
 let B:=gv l X (1-cy X) (aT X);let L:=eS l X B (dy (aX X)) B.length 0
 (List.range (L.length/2)).any fun q=>L.getD (q*2) 0==x&&L.getD (q*2+1) 0==y
def pE(l:List Nat)(Y X:U):Bool:=l.all fun k=>if k==29||k==30 then fF (cX Y k).toL (cX X k).toL&&(dF (cX Y k)&&fT (cX Y k).toL)else U.eq (cX Y k) (cX X k)
def EZ(Y X:U):Bool:=(List.range 25).all fun k=>U.eq (cX Y k) (cX X (fB.getD k 0))
def aIW(f:Nat)(a:U):U:=
 match f with
 |101=>.bool (xv a.fst.toL (bj a.snd.toI.toNat))
 |102=>.bool (nM a.fst.toI a.snd.fst.toI a.snd.snd.fst.toI a.snd.snd.snd.fst.toI a.snd.snd.snd.snd.fst.toL a.snd.snd.snd.snd.snd.toB)
 |103=>.bool (ud a.fst.toL a.snd.fst.toB (bj a.snd.snd.toI.toNat))
 |104=>.bool (g9 a.fst.toL (eW a.snd.fst (bj (a.snd.snd.fst.toI.toNat*4+a.snd.snd.snd.fst.toI.toNat)) (bj a.snd.snd.snd.snd.toI.toNat)))
 |105=>.bool (g9 a.fst.toL (eW a.snd.fst 8 0++iH a.snd.fst (bj a.snd.snd.toI.toNat)))
 |106=>.bool (g9 a.fst.toL (ic a.snd.fst (bj a.snd.snd.toI.toNat)))
 |107=>.bool (uF a.fst (bj a.snd.toI.toNat))
 |108=>.bool (dr a)
 |109=>.bool (br a.fst==aY a.snd.fst (a.snd.snd.fst.toI.toNat*4+a.snd.snd.snd.toI.toNat))
 |110=>.bool (gW a)
 |111=>.bool (jw a.fst (bj a.snd.toI.toNat))
 |112=>.bool (kq a.fst (bj a.snd.toI.toNat))
 |113=>.bool (iG a.snd.fst a.fst.toL (bj a.snd.snd.fst.toI.toNat) (bj a.snd.snd.snd.toI.toNat))
 |114=>.bool ((br a.fst).contains a.snd.toI)
 |115=>.bool (sa a)
 |116=>.bool (tC a)
 |117=>.bool (je a)
 |118=>.bool (rX a.fst a.snd.toI.toNat)
 |120=>.int (cm a.fst a.snd.fst.toI (bj a.snd.snd.toI.toNat))
 |121=>.int ((br a.fst).count a.snd.toI:Nat)
 |122=>.int (pB a.fst a.snd.fst.toI.toNat a.snd.snd.toI:Nat)
 |123=>.bool (vj a.fst (bj a.snd.toI.toNat))
 |124=>.bool (uG a.fst (bj a.snd.toI.toNat))
 |125=>.bool (rm a)
 |126=>.bool (qW a.fst (bj a.snd.toI.toNat))
 |127=>.bool (tB a.fst (bj a.snd.toI.toNat))
 |128=>.bool (tA a.fst (bj a.snd.fst.toI.toNat) (bj a.snd.snd.toI.toNat))
 |129=>.bool (ri a)
 |130=>.bool (sb a)
 |131=>.int ((((br a.fst).take (bj a.snd.snd.toI.toNat)).count a.snd.fst.toI:Nat))
 |132=>.int (q9 a.fst a.snd.fst.toI.toNat (bj a.snd.snd.fst.toI.toNat) a.snd.snd.snd.toI:Nat)
 |133=>.int (o6 a.fst a.snd.fst.toI a.snd.snd.fst.toI (bj a.snd.snd.snd.toI.toNat):Nat)
 |134=>.int ((((List.range (bj a.snd.toI.toNat)).map fun z=>(aY a.fst z).length).sum:Nat))
 |135=>.int (((jf a.fst (bj a.snd.toI.toNat)).length:Nat))
 |136=>.bool ((aX a.fst).count (blk a.fst (bj a.snd.toI.toNat) 1)==1&&(fC a.fst).count (blk a.fst (bj a.snd.toI.toNat) 0)==1)
 |137=>.bool (MG (fV a 0) (fV a 1) (fV a 2) (fV a 3) (fV a 4) (fV a 5) (fV a 6) (fV a 7) a.snd.snd.snd.snd.snd.snd.snd.snd.toI)
 |141=>.int (gu a.fst.toL a.snd.toI 1)
 |142=>.int (gu a.fst.toL a.snd.toI 7)
 |143=>.bool (br a.fst==F4 a.snd.fst.toL a.snd.snd.fst a.snd.snd.snd.fst.toI (bj a.snd.snd.snd.snd.toI.toNat))
 |144=>.bool (br a.fst==Dr (F4 a.snd.fst.toL a.snd.snd.fst a.snd.snd.snd.toI (aT a.snd.snd.fst)))
 |145=>.bool (pa a.fst a.snd.toI)
 |146=>.bool ([0,1,2,3].all (fun k=>dq 0 (fV a k) 20)&&dq 0 (a.snd.snd.snd.snd.toI) 20)
 |147=>.bool ([fV a 0,fV a 1,fV a 2,fV a 3]==(let a:=a.snd.snd.snd.snd;aIv a.fst.toL a.snd.fst a.snd.snd.fst.toI (bj a.snd.snd.snd.toI.toNat)))
 |148=>.bool (br a.fst==(Dr (br a.snd.fst)).take (bj a.snd.snd.toI.toNat))
 |150=>.int (Mn a.fst.toL a.snd.fst a.snd.snd.toI)
 |151=>.bool (br a.fst==aLM a.snd.fst.toL a.snd.snd.fst a.snd.snd.snd.fst.toI (bj a.snd.snd.snd.snd.toI.toNat))
 |152=>.bool (br a.fst==dy ((br a.snd.fst).take (bj a.snd.snd.toI.toNat)))
 |153=>.bool ((br a.fst).all fun k=>decide (0<=cm a.snd k (aT a.snd)))
 |155=>.bool (Ey a.fst.toL (bj a.snd.toI.toNat))
 |156=>.bool (tN a.fst.toL a.snd.toL)
 |157=>.bool (tO a.fst.toL (bj a.snd.toI.toNat))
 |158=>.bool (eX a.fst.toL (bj a.snd.toI.toNat))
 |159=>.bool ((List.range 8).all fun z=>decide ((aY a z).length<=40))
 |160=>.bool (((br a.fst).take (bj a.snd.snd.toI.toNat)).all fun x=>decide (x<a.snd.fst.toI))
 |161=>.bool ((br a.fst).take (bj a.snd.snd.toI.toNat)==(br a.snd.fst).take (bj a.snd.snd.toI.toNat))
 |170=>.bool ((yw (NL (bD a 6).toI.toNat) (bj (bD a 7).toI.toNat) (zj (skip 8 a))).any fun s=>s==zj a)
 |171=>.bool ((yw (NL (bD a 0).toI.toNat) (bj (bD a 1).toI.toNat) (zj (skip 2 a))).isNone)
 |174=>.bool ((Oi (bD a 2).toI ([],br (bD a 3),br (bD a 4))).any fun s=>s==([],br (bD a 0),br (bD a 1)))
 |175=>.int (DG a.fst.toI ((br a.snd.fst).take (2*bj a.snd.snd.toI.toNat)) 0)
 |176=>.bool ((nY (iB (skip 8 a)) (bj (bD a 6).toI.toNat) (bj (bD a 7).toI.toNat) (n4 (skip 12 a))).any fun s=>s==zj a)
 |177=>.bool ((nY (iB (skip 2 a)) (bj (bD a 0).toI.toNat) (bj (bD a 1).toI.toNat) (n4 (skip 6 a))).isNone)
 |178=>.bool ((nY (iB (skip 8 a)) (bj (bD a 6).toI.toNat) (bj (bD a 7).toI.toNat) (n4 (skip 12 a))).any fun s=>(s.1,Dr s.2.1,s.2.2)==zj a)
 |179=>.int (aG5 (bD a 2).toL (bD a 3) (bD a 1).toI (br (bD a 0)))
 |181=>.bool (U.eqs (a.fst.toL.take (bj a.snd.snd.toI.toNat)) (a.snd.fst.toL.take (bj a.snd.snd.toI.toNat)))
 |182=>.bool (pa (bD a 6) (bD a 7).toI&&aGB (iB a) (bD a 4).toI&&(nY (iB a) 4 (bj (bD a 4).toI.toNat) (n4 (skip 5 a))).isSome)
 |183=>.bool ((nY (iB (skip 5 a)) 4 (bj (bD a 9).toI.toNat) (n4 (skip 10 a))).any fun s=>s.1==iB a&&dy s.2.2==br (bD a 4))
 |185=>.bool ((iB a).getD (bD a 4).toI.toNat 0==0)
 |186=>.bool (br a.fst==(br a.snd.fst).take (2*bj a.snd.snd.toI.toNat)++(br a.snd.fst).drop (2*bj a.snd.snd.toI.toNat+2))
 |188=>.bool ((iB a).all fun x=>dq 0 x 99)
 |187=>.bool (fF a.fst.toL a.snd.toL)
 |189=>.bool (aJE a.fst a.snd)
 |190=>.bool (fT a.toL)
 |200=>.bool (U.eqs a.fst.toL a.snd.toL)
 |201=>.bool (dF a)
 |199=>.bool ((nY (iB (skip 2 a)) 4 (bj (bD a 6).toI.toNat) (n4 (skip 7 a))).any fun s=>dy s.2.2==br (bD a 1)&&ahu a.fst (bD a 8) (bD a 9).toI.toNat s.1)
 |198=>.bool ((nY (iB (skip 1 a)) 4 (bj (bD a 5).toI.toNat) (n4 (skip 6 a))).any fun s=>ae2 a.fst (bD a 7) (bD a 8).toI.toNat (dy s.2.2) s.1)
 |196=>.bool (aJF a.fst a.snd)
 |195=>.bool (dF a&&fT a.toL)
 |191=>.bool (U.eqs a.fst.toL (GB (br (bD a 2)) (bj a.snd.snd.snd.toI.toNat) (bD a 1).toL))
 |193=>.bool (agp (br a))
 |194=>.bool (aF9 (br a.fst) (bD a 1).toI (bj (bD a 2).toI.toNat) (bj a.snd.snd.snd.toI.toNat))
 |184=>.bool (br a.fst==((br a.snd.fst).take (bj a.snd.snd.snd.toI.toNat)).filter fun x=>!(x==a.snd.snd.fst.toI))
 |220=>.bool (U.eqs a.fst.toL (GB ((br (bD a 2)).take (bj a.snd.snd.snd.toI.toNat)) ((bD a 1).toL.length/12) (bD a 1).toL))
 |221=>.bool (oe a.fst a.snd.fst fun i=>bD a (2+i))
 |229=>.bool (Lz a.fst.toL a.snd.fst.toI a.snd.snd.fst.toI (bj a.snd.snd.snd.toI.toNat))
 |230=>.bool (jv a.fst.toL 1 a.snd.fst.toI (bj a.snd.snd.toI.toNat))
 |231=>.bool (jv a.fst.toL 0 a.snd.fst.toI (bj a.snd.snd.toI.toNat))
 |232=>.bool (br a.fst==(let C:=a.snd.fst.toL;let X:=a.snd.snd;let p:=1-cy X;let B:=gv C X p (aT X);eS C X B (dy (aX X)) B.length 0))
 |233=>.bool (U.eqs a.fst.toL (a.snd.fst.toL++[a.snd.snd.fst,a.snd.snd.snd]))
 |234=>.bool (yR a.fst.toL a.snd.fst a.snd.snd.fst.toI a.snd.snd.snd.toI)
 |235=>.bool (pE ((List.range 38).filter fun k=>!(k==a.snd.snd.toI.toNat)) a.fst a.snd.fst)
 |238=>.bool (pE (List.range 32) a.fst a.snd)
 |236=>.bool (EZ a.fst a.snd)
 |237=>.bool (br a.fst==br a.snd)
 |228=>.bool (aLN a.toL)
 |222=>.bool (DU a.fst.toL a.snd.fst.toI a.snd.snd.toI)
 |223=>.bool (ua a.fst.toL a.snd.toI)
 |224=>.bool (br a.fst==gv a.snd.fst.toL a.snd.snd.fst a.snd.snd.snd.fst.toI (bj a.snd.snd.snd.snd.toI.toNat))
 |225=>.bool (br a.fst==nu a.snd.fst.toL a.snd.snd.fst a.snd.snd.snd.fst.toI (bj a.snd.snd.snd.snd.toI.toNat))
 |226=>.bool (aF8 a.fst.toL a.snd.fst.toI (bj a.snd.snd.fst.toI.toNat) (bj a.snd.snd.snd.toI.toNat))
 |227=>.bool (br a.fst==eS (bD a 1).toL (bD a 2) (br (bD a 3)) (br (bD a 4)) (bj (bD a 5).toI.toNat) (bj a.snd.snd.snd.snd.snd.snd.toI.toNat))
 |218=>.bool ((nY (iB (skip 2 a)) 4 (bj (bD a 6).toI.toNat) (n4 (skip 7 a))).any fun s=>dy s.2.2==br (bD a 1)&&ahv a.fst (bD a 8) (bD a 9).toI.toNat s.1)
 |219=>.bool ((nY (iB (skip 2 a)) 4 (bj (bD a 6).toI.toNat) (n4 (skip 7 a))).any fun s=>U.eqs (bD a 1).toL (GB (dy s.2.2) (aT (bD a 8)) (cX (bD a 8) 0).toL)&&ahv a.fst (bD a 8) (bD a 9).toI.toNat s.1)
 |_=>.int 0
end Go.SX

namespace Go.SX
noncomputable section
inductive T (G:Type) where
 |nil
 |node (v:G) (l r:T G)
 deriving Inhabited
noncomputable def T.get{G:Type}(t:T G):Nat->Option G:=
 T.rec (motive:=fun _=>Nat->Option G) (fun _=>none) (fun v _ _ gl gr n=>
  Nat.rec (some v) (fun n _=>Bool.rec (gr (Nat.div n 2)) (gl (Nat.div n 2)) (Nat.beq (Nat.mod n 2) 0)) n) t
noncomputable def T.set{G:Type}(t:T G):Nat->G->T G:=
 T.rec (motive:=fun _=>Nat->G->T G) (fun _ _=>T.nil) (fun v l r sl sr n x=>
  Nat.rec (T.node x l r) (fun n _=>Bool.rec (T.node v l (sr (Nat.div n 2) x)) (T.node v (sl (Nat.div n 2) x) r) (Nat.beq (Nat.mod n 2) 0)) n) t
noncomputable def T.setK{G O:Type}(t:T G):Nat->G->(T G->O)->O:=
 T.rec (motive:=fun _=>Nat->G->(T G->O)->O) (fun _ _ k=>k T.nil) (fun v l r sl sr n x k=>
  Nat.rec (k (T.node x l r)) (fun n _=>Bool.rec (sr (Nat.div n 2) x fun r'=>k (T.node v l r')) (sl (Nat.div n 2) x fun l'=>k (T.node v l' r)) (Nat.beq (Nat.mod n 2) 0)) n) t
noncomputable def T.ins{G:Type}(t:T G):Nat->G->T G:=
 T.rec (motive:=fun _=>Nat->G->T G) (fun n x=>Nat.rec (T.node x T.nil T.nil) (fun _ _=>T.nil) n) (fun v l r sl sr n x=>
  Nat.rec (T.node x l r) (fun n _=>Bool.rec (T.node v l (sr (Nat.div n 2) x)) (T.node v (sl (Nat.div n 2) x) r) (Nat.beq (Nat.mod n 2) 0)) n) t
noncomputable def T.insK{G O:Type}(t:T G):Nat->G->(T G->O)->O:=
 T.rec (motive:=fun _=>Nat->G->(T G->O)->O) (fun n x k=>Nat.rec (k (T.node x T.nil T.nil)) (fun _ _=>k T.nil) n) (fun v l r sl sr n x k=>
  Nat.rec (k (T.node x l r)) (fun n _=>Bool.rec (sr (Nat.div n 2) x fun r'=>k (T.node v l r')) (sl (Nat.div n 2) x fun l'=>k (T.node v l' r)) (Nat.beq (Nat.mod n 2) 0)) n) t
noncomputable def T.all{G:Type}(p:G->Bool)(t:T G):Bool:=
 T.rec (motive:=fun _=>Bool) true (fun v _ _ a b=>Bool.rec false (Bool.rec false b a) (p v)) t
noncomputable def T.fill{G:Type}(v:G)(d:Nat):Nat->T G:=
 Nat.rec (motive:=fun _=>Nat->T G) (fun _=>T.nil) (fun _ ih n=>Nat.rec T.nil (fun m _=>T.node v (ih (Nat.div (Nat.succ m) 2)) (ih (Nat.div m 2))) n) d
noncomputable def T.putsK{G O:Type}(l:List G):Nat->T G->(T G->O)->O:=
 List.rec (motive:=fun _=>Nat->T G->(T G->O)->O) (fun _ t k=>k t) (fun x _ ih n t k=>T.setK t n x fun t'=>ih (Nat.succ n) t' k) l
noncomputable def T.addsK{G O:Type}(l:List G):Nat->T G->(T G->O)->O:=
 List.rec (motive:=fun _=>Nat->T G->(T G->O)->O) (fun _ t k=>k t) (fun x _ ih n t k=>T.insK t n x fun t'=>ih (Nat.succ n) t' k) l
def rl(f:Nat)(a:U):U:=match Nat.blt f 100 with | true=>vi f a | false=>aIW f a
inductive E where
 |int (n:Int) | bool (b:Bool) | str (s:ByteArray) | var (i:Nat)
 |ar (o:BinOp) (k:IntKind) (a b:E)
 |cmp (o:BinOp) (a b:E)
 |mn (a b:E) | mx (a b:E)
 |wr (k:IntKind) (a:E)
 |not (a:E) | and (a b:E) | seq (a b:E) | iff (a b:E) | imp (a b:E)
 |fn (f:Nat) (a:E) | pr (a b:E)
 deriving Inhabited
def lw(o:BinOp)(k:IntKind)(x y:Int):Int:=
 match o with
 |.add=>k.wrap (x+y)
 |.sub=>k.wrap (x-y)
 |.mul=>k.wrap (x*y)
 |.quo=>k.wrap (x.tdiv y)
 |.rem=>x.tmod y
 |.and=>k.wrap (BitVec.ofInt k.bits x &&& BitVec.ofInt k.bits y).toNat
 |.or=>k.wrap (BitVec.ofInt k.bits x ||| BitVec.ofInt k.bits y).toNat
 |.xor=>k.wrap (BitVec.ofInt k.bits x ^^^ BitVec.ofInt k.bits y).toNat
 |.andNot=>k.wrap (BitVec.ofInt k.bits x &&& ~~~BitVec.ofInt k.bits y).toNat
 |.shl=>k.wrap (x*2^(min y.toNat k.bits))
 |.shr=>x.fdiv (2^(min y.toNat k.bits))
 |_=>0
def cv(o:BinOp)(x y:Int):Bool:=
 match o with
 |.eql=>x==y
 |.neq=>x != y
 |.lss=>decide (x<y)
 |.leq=>decide (x<=y)
 |.gtr=>decide (x>y)
 |.geq=>decide (x>=y)
 |_=>false
def ni:List UInt8->List UInt8->Bool
 |[],[]=>true
 |x::xs,y::ys=>match Nat.beq x.toNat y.toNat with | true=>ni xs ys | false=>false
 |_,_=>false
def jB(a b:ByteArray):Bool:=ni a.data.toList b.data.toList
def nQ(x y:Int):Int:=if y<x then y else x
def kJ(x y:Int):Int:=if y>x then y else x
structure Bk where
 blk:Nat
 off:Nat
 alt:Option (Option Addr)
 deriving Inhabited
def Bk.nil(k:Bk):Bool:=k.alt.isSome
def Bk.base(k:Bk):Option Addr:=match k.alt with | some x=>x | none=>some ⟨k.blk,k.off,none⟩
structure Env where
 vs:List U
 bs:List Bk
 fz:Nat->Option Obj
def Env.of(vs:List U):Env:=⟨vs,[],fun _=>none⟩
def E.den(F:Env):E->U
 |.int n=>.int n
 |.bool b=>.bool b
 |.str s=>.str s
 |.var i=>F.vs.getD i (.int 0)
 |.ar o k a b=>.int (lw o k (a.den F).toI (b.den F).toI)
 |.cmp o a b=>.bool (cv o (a.den F).toI (b.den F).toI)
 |.mn a b=>.int (nQ (a.den F).toI (b.den F).toI)
 |.mx a b=>.int (kJ (a.den F).toI (b.den F).toI)
 |.wr k a=>.int (k.wrap (a.den F).toI)
 |.not a=>.bool (!(a.den F).toB)
 |.and a b=>.bool ((a.den F).toB&&(b.den F).toB)
 |.seq a b=>.bool (jB (a.den F).toS (b.den F).toS)
 |.iff a b=>.bool ((a.den F).toB==(b.den F).toB)
 |.imp a b=>.bool (!(a.den F).toB||(b.den F).toB)
 |.fn f a=>rl f (a.den F)
 |.pr a b=>.lst [a.den F,b.den F]
def E.I(F:Env)(e:E):Int:=(e.den F).toI
def E.B(F:Env)(e:E):Bool:=(e.den F).toB
def E.S(F:Env)(e:E):ByteArray:=(e.den F).toS
def E.L(F:Env)(e:E):List U:=(e.den F).toL
def eU:IntKind->IntKind->Bool
 |.i8,.i8 | .i16,.i16 | .i32,.i32 | .i64,.i64 | .u8,.u8 | .u16,.u16 | .u32,.u32 | .u64,.u64=>true
 |_,_=>false
def E5:BinOp->Nat
 |.add=>0 | .sub=>1 | .mul=>2 | .quo=>3 | .rem=>4 | .and=>5 | .or=>6 | .xor=>7 | .shl=>8 | .shr=>9 | .andNot=>10
 |.eql=>11 | .neq=>12 | .lss=>13 | .leq=>14 | .gtr=>15 | .geq=>16
def MJ(a b:BinOp):Bool:=Nat.beq (E5 a) (E5 b)
def iz:Int->Int->Bool
 |.ofNat a,.ofNat b=>Nat.beq a b
 |.negSucc a,.negSucc b=>Nat.beq a b
 |_,_=>false
def lC:Bool->Bool->Bool
 |true,true=>true
 |false,false=>true
 |_,_=>false
def dx(a b:Bool):Bool:=match a with | true=>b | false=>false
noncomputable def E.on_int(b:E)(f:Int->Bool):Bool:=E.rec (motive:=fun _=>Bool) (fun x0=>f x0) (fun _=>false) (fun _=>false) (fun _=>false) (fun _ _ _ _ _ _=>false) (fun _ _ _ _ _=>false) (fun _ _ _ _=>false) (fun _ _ _ _=>false) (fun _ _ _=>false) (fun _ _=>false) (fun _ _ _ _=>false) (fun _ _ _ _=>false) (fun _ _ _ _=>false) (fun _ _ _ _=>false) (fun _ _ _=>false) (fun _ _ _ _=>false) b
noncomputable def E.on_bool(b:E)(f:Bool->Bool):Bool:=E.rec (motive:=fun _=>Bool) (fun _=>false) (fun x0=>f x0) (fun _=>false) (fun _=>false) (fun _ _ _ _ _ _=>false) (fun _ _ _ _ _=>false) (fun _ _ _ _=>false) (fun _ _ _ _=>false) (fun _ _ _=>false) (fun _ _=>false) (fun _ _ _ _=>false) (fun _ _ _ _=>false) (fun _ _ _ _=>false) (fun _ _ _ _=>false) (fun _ _ _=>false) (fun _ _ _ _=>false) b
noncomputable def E.on_str(b:E)(f:ByteArray->Bool):Bool:=E.rec (motive:=fun _=>Bool) (fun _=>false) (fun _=>false) (fun x0=>f x0) (fun _=>false) (fun _ _ _ _ _ _=>false) (fun _ _ _ _ _=>false) (fun _ _ _ _=>false) (fun _ _ _ _=>false) (fun _ _ _=>false) (fun _ _=>false) (fun _ _ _ _=>false) (fun _ _ _ _=>false) (fun _ _ _ _=>false) (fun _ _ _ _=>false) (fun _ _ _=>false) (fun _ _ _ _=>false) b
noncomputable def E.on_var(b:E)(f:Nat->Bool):Bool:=E.rec (motive:=fun _=>Bool) (fun _=>false) (fun _=>false) (fun _=>false) (fun x0=>f x0) (fun _ _ _ _ _ _=>false) (fun _ _ _ _ _=>false) (fun _ _ _ _=>false) (fun _ _ _ _=>false) (fun _ _ _=>false) (fun _ _=>false) (fun _ _ _ _=>false) (fun _ _ _ _=>false) (fun _ _ _ _=>false) (fun _ _ _ _=>false) (fun _ _ _=>false) (fun _ _ _ _=>false) b
noncomputable def E.on_ar(b:E)(f:BinOp->IntKind->E->E->Bool):Bool:=E.rec (motive:=fun _=>Bool) (fun _=>false) (fun _=>false) (fun _=>false) (fun _=>false) (fun x0 x1 x2 x3 _ _=>f x0 x1 x2 x3) (fun _ _ _ _ _=>false) (fun _ _ _ _=>false) (fun _ _ _ _=>false) (fun _ _ _=>false) (fun _ _=>false) (fun _ _ _ _=>false) (fun _ _ _ _=>false) (fun _ _ _ _=>false) (fun _ _ _ _=>false) (fun _ _ _=>false) (fun _ _ _ _=>false) b
noncomputable def E.on_cmp(b:E)(f:BinOp->E->E->Bool):Bool:=E.rec (motive:=fun _=>Bool) (fun _=>false) (fun _=>false) (fun _=>false) (fun _=>false) (fun _ _ _ _ _ _=>false) (fun x0 x1 x2 _ _=>f x0 x1 x2) (fun _ _ _ _=>false) (fun _ _ _ _=>false) (fun _ _ _=>false) (fun _ _=>false) (fun _ _ _ _=>false) (fun _ _ _ _=>false) (fun _ _ _ _=>false) (fun _ _ _ _=>false) (fun _ _ _=>false) (fun _ _ _ _=>false) b
noncomputable def E.on_mn(b:E)(f:E->E->Bool):Bool:=E.rec (motive:=fun _=>Bool) (fun _=>false) (fun _=>false) (fun _=>false) (fun _=>false) (fun _ _ _ _ _ _=>false) (fun _ _ _ _ _=>false) (fun x0 x1 _ _=>f x0 x1) (fun _ _ _ _=>false) (fun _ _ _=>false) (fun _ _=>false) (fun _ _ _ _=>false) (fun _ _ _ _=>false) (fun _ _ _ _=>false) (fun _ _ _ _=>false) (fun _ _ _=>false) (fun _ _ _ _=>false) b
noncomputable def E.on_mx(b:E)(f:E->E->Bool):Bool:=E.rec (motive:=fun _=>Bool) (fun _=>false) (fun _=>false) (fun _=>false) (fun _=>false) (fun _ _ _ _ _ _=>false) (fun _ _ _ _ _=>false) (fun _ _ _ _=>false) (fun x0 x1 _ _=>f x0 x1) (fun _ _ _=>false) (fun _ _=>false) (fun _ _ _ _=>false) (fun _ _ _ _=>false) (fun _ _ _ _=>false) (fun _ _ _ _=>false) (fun _ _ _=>false) (fun _ _ _ _=>false) b
noncomputable def E.on_wr(b:E)(f:IntKind->E->Bool):Bool:=E.rec (motive:=fun _=>Bool) (fun _=>false) (fun _=>false) (fun _=>false) (fun _=>false) (fun _ _ _ _ _ _=>false) (fun _ _ _ _ _=>false) (fun _ _ _ _=>false) (fun _ _ _ _=>false) (fun x0 x1 _=>f x0 x1) (fun _ _=>false) (fun _ _ _ _=>false) (fun _ _ _ _=>false) (fun _ _ _ _=>false) (fun _ _ _ _=>false) (fun _ _ _=>false) (fun _ _ _ _=>false) b
noncomputable def E.on_not(b:E)(f:E->Bool):Bool:=E.rec (motive:=fun _=>Bool) (fun _=>false) (fun _=>false) (fun _=>false) (fun _=>false) (fun _ _ _ _ _ _=>false) (fun _ _ _ _ _=>false) (fun _ _ _ _=>false) (fun _ _ _ _=>false) (fun _ _ _=>false) (fun x0 _=>f x0) (fun _ _ _ _=>false) (fun _ _ _ _=>false) (fun _ _ _ _=>false) (fun _ _ _ _=>false) (fun _ _ _=>false) (fun _ _ _ _=>false) b
noncomputable def E.on_and(b:E)(f:E->E->Bool):Bool:=E.rec (motive:=fun _=>Bool) (fun _=>false) (fun _=>false) (fun _=>false) (fun _=>false) (fun _ _ _ _ _ _=>false) (fun _ _ _ _ _=>false) (fun _ _ _ _=>false) (fun _ _ _ _=>false) (fun _ _ _=>false) (fun _ _=>false) (fun x0 x1 _ _=>f x0 x1) (fun _ _ _ _=>false) (fun _ _ _ _=>false) (fun _ _ _ _=>false) (fun _ _ _=>false) (fun _ _ _ _=>false) b
noncomputable def E.on_seq(b:E)(f:E->E->Bool):Bool:=E.rec (motive:=fun _=>Bool) (fun _=>false) (fun _=>false) (fun _=>false) (fun _=>false) (fun _ _ _ _ _ _=>false) (fun _ _ _ _ _=>false) (fun _ _ _ _=>false) (fun _ _ _ _=>false) (fun _ _ _=>false) (fun _ _=>false) (fun _ _ _ _=>false) (fun x0 x1 _ _=>f x0 x1) (fun _ _ _ _=>false) (fun _ _ _ _=>false) (fun _ _ _=>false) (fun _ _ _ _=>false) b
noncomputable def E.on_iff(b:E)(f:E->E->Bool):Bool:=E.rec (motive:=fun _=>Bool) (fun _=>false) (fun _=>false) (fun _=>false) (fun _=>false) (fun _ _ _ _ _ _=>false) (fun _ _ _ _ _=>false) (fun _ _ _ _=>false) (fun _ _ _ _=>false) (fun _ _ _=>false) (fun _ _=>false) (fun _ _ _ _=>false) (fun _ _ _ _=>false) (fun x0 x1 _ _=>f x0 x1) (fun _ _ _ _=>false) (fun _ _ _=>false) (fun _ _ _ _=>false) b
noncomputable def E.on_imp(b:E)(f:E->E->Bool):Bool:=E.rec (motive:=fun _=>Bool) (fun _=>false) (fun _=>false) (fun _=>false) (fun _=>false) (fun _ _ _ _ _ _=>false) (fun _ _ _ _ _=>false) (fun _ _ _ _=>false) (fun _ _ _ _=>false) (fun _ _ _=>false) (fun _ _=>false) (fun _ _ _ _=>false) (fun _ _ _ _=>false) (fun _ _ _ _=>false) (fun x0 x1 _ _=>f x0 x1) (fun _ _ _=>false) (fun _ _ _ _=>false) b
noncomputable def E.on_fn(b:E)(f:Nat->E->Bool):Bool:=E.rec (motive:=fun _=>Bool) (fun _=>false) (fun _=>false) (fun _=>false) (fun _=>false) (fun _ _ _ _ _ _=>false) (fun _ _ _ _ _=>false) (fun _ _ _ _=>false) (fun _ _ _ _=>false) (fun _ _ _=>false) (fun _ _=>false) (fun _ _ _ _=>false) (fun _ _ _ _=>false) (fun _ _ _ _=>false) (fun _ _ _ _=>false) (fun x0 x1 _=>f x0 x1) (fun _ _ _ _=>false) b
noncomputable def E.on_pr(b:E)(f:E->E->Bool):Bool:=E.rec (motive:=fun _=>Bool) (fun _=>false) (fun _=>false) (fun _=>false) (fun _=>false) (fun _ _ _ _ _ _=>false) (fun _ _ _ _ _=>false) (fun _ _ _ _=>false) (fun _ _ _ _=>false) (fun _ _ _=>false) (fun _ _=>false) (fun _ _ _ _=>false) (fun _ _ _ _=>false) (fun _ _ _ _=>false) (fun _ _ _ _=>false) (fun _ _ _=>false) (fun x0 x1 _ _=>f x0 x1) b
noncomputable def E.beq(a:E):E->Bool:=
 E.rec (motive:=fun _=>E->Bool)
  (fun n b=>b.on_int fun m=>iz n m)
  (fun x b=>b.on_bool fun y=>lC x y)
  (fun s b=>b.on_str fun t=>jB s t)
  (fun i b=>b.on_var fun j=>Nat.beq i j)
  (fun o k _ _ f g b=>b.on_ar fun o' k' a' b'=>dx (MJ o o') (dx (eU k k') (dx (f a') (g b'))))
  (fun o _ _ f g b=>b.on_cmp fun o' a' b'=>dx (MJ o o') (dx (f a') (g b')))
  (fun _ _ f g b=>b.on_mn fun a' b'=>dx (f a') (g b'))
  (fun _ _ f g b=>b.on_mx fun a' b'=>dx (f a') (g b'))
  (fun k _ f b=>b.on_wr fun k' a'=>dx (eU k k') (f a'))
  (fun _ f b=>b.on_not fun a'=>f a')
  (fun _ _ f g b=>b.on_and fun a' b'=>dx (f a') (g b'))
  (fun _ _ f g b=>b.on_seq fun a' b'=>dx (f a') (g b'))
  (fun _ _ f g b=>b.on_iff fun a' b'=>dx (f a') (g b'))
  (fun _ _ f g b=>b.on_imp fun a' b'=>dx (f a') (g b'))
  (fun n _ f b=>b.on_fn fun m a'=>dx (Nat.beq n m) (f a'))
  (fun _ _ f g b=>b.on_pr fun a' b'=>dx (f a') (g b')) a
def fj{O:Type}(n:Nat)(k:Nat->O):O:=
 match n with
 |0=>k 0
 |m+1=>k (m+1)
def dI(a b:Nat):Nat:=Nat.mod (Nat.add (Nat.mul a 1000003) b) 2305843009213693951
def aGv(n:Int):Nat:=match n with | .ofNat m=>Nat.mul 2 m | .negSucc m=>Nat.add (Nat.mul 2 m) 1
def aa4(k:IntKind):Nat:=match k with | .i8=>1 | .i16=>2 | .i32=>3 | .i64=>4 | .u8=>5 | .u16=>6 | .u32=>7 | .u64=>8
noncomputable def kr(a:E):Nat:=
 E.rec (motive:=fun _=>Nat)
  (fun n=>dI 3 (aGv n)) (fun x=>match x with | true=>5 | false=>7) (fun _=>11) (fun i=>dI 13 i)
  (fun o k _ _ f g=>dI (dI (dI (dI 17 (E5 o)) (aa4 k)) f) g)
  (fun o _ _ f g=>dI (dI (dI 19 (E5 o)) f) g)
  (fun _ _ f g=>dI (dI 23 f) g)
  (fun _ _ f g=>dI (dI 29 f) g)
  (fun k _ f=>dI (dI 31 (aa4 k)) f)
  (fun _ f=>dI 37 f)
  (fun _ _ f g=>dI (dI 41 f) g)
  (fun _ _ f g=>dI (dI 43 f) g)
  (fun _ _ f g=>dI (dI 47 f) g)
  (fun _ _ f g=>dI (dI 53 f) g)
  (fun n _ f=>dI (dI 59 n) f)
  (fun _ _ f g=>dI (dI 61 f) g) a
def Ol(x:E):Nat:=match x with | .imp _ c=>kr c | x=>kr x
def dk:E->E
 |.fn 6 (.pr c (.int _))=>c
 |e=>e
def bT1(x:E):Nat:=match x with
 |.cmp _ a b=>match b with
  |.int _=>kr (dk a)
  |_=>match a with
   |.int _=>kr (dk b)
   |_=>0
 |_=>0
def bT(x:E):Nat:=match x with | .not y=>bT1 y | y=>bT1 y
noncomputable def DD(n:Nat)(l:List E):List E:=List.rec (motive:=fun _=>List E) [] (fun x _ ih=>Bool.rec ih (x::ih) (Nat.beq (Ol x) n)) l
noncomputable def DC(n:Nat)(l:List E):List E:=List.rec (motive:=fun _=>List E) [] (fun x _ ih=>Bool.rec ih (x::ih) (Nat.beq (kr x) n)) l
noncomputable def x6(n:Nat)(l:List E):List E:=List.rec (motive:=fun _=>List E) [] (fun x _ ih=>Bool.rec ih (x::ih) (Nat.beq (bT x) n)) l
def iC(o:BinOp)(k:IntKind)(a b:E):E:=
 match a,b with
 |.int x,.int y=>.int (lw o k x y)
 |_,_=>.ar o k a b
def bk(a:E):E:=
 match a with
 |.bool b=>.bool (!b)
 |.not x=>x
 |_=>.not a
def eH:E->Int
 |.fn 6 (.pr _ (.int x))=>x
 |_=>0
def aE(o:BinOp)(a b:E):E:=
 match a,b with
 |.int x,.int y=>.bool (cv o x y)
 |_,_=>match (dk a).beq (dk b)with
  |true=>.bool (cv o (eH a) (eH b))
  |false=>match o with
   |.eql=>match a with
    |.int x=>.cmp .eql b (.int x)
    |a=>.cmp .eql a b
   |.neq=>match a with
    |.int x=>.not (.cmp .eql b (.int x))
    |a=>.not (.cmp .eql a b)
   |.gtr=>.cmp .lss b a
   |.leq=>.not (.cmp .lss b a)
   |.geq=>.not (.cmp .lss a b)
   |_=>.cmp o a b
def rD(a b:E):E:=
 match a,b with
 |.int x,.int y=>.int (nQ x y)
 |_,_=>.mn a b
def nR(a b:E):E:=
 match a,b with
 |.int x,.int y=>.int (kJ x y)
 |_,_=>.mx a b
def rE(k:IntKind)(a:E):E:=
 match a with
 |.int x=>.int (k.wrap x)
 |_=>.wr k a
def yV(a b:E):E:=
 match a with
 |.bool true=>match b with
  |.bool y=>.bool y
  |_=>.and a b
 |.bool false=>.bool false
 |_=>.and a b
def lT(a b:E):E:=
 match a,b with
 |.str x,.str y=>.bool (jB x y)
 |_,_=>.seq a b
def dc(a b:E):E:=
 match a,b with
 |.int x,.int y=>.int (x+y)
 |.int x,b=>match iz x 0 with
  |true=>b
  |false=>match b with
   |.fn 6 (.pr c (.int y))=>.fn 6 (.pr c (.int (x+y)))
   |_=>.fn 6 (.pr b (.int x))
 |.fn 6 (.pr c (.int x)),.int y=>.fn 6 (.pr c (.int (x+y)))
 |a,.int y=>match iz y 0 with
  |true=>a
  |false=>.fn 6 (.pr a (.int y))
 |a,b=>.fn 6 (.pr a b)
def i6(a b:E):E:=
 match a,b with
 |.int x,.int y=>.int (x-y)
 |.fn 6 (.pr c (.int x)),.int y=>match iz (x-y) 0 with
  |true=>c
  |false=>.fn 6 (.pr c (.int (x-y)))
 |a,.int y=>match iz y 0 with
  |true=>a
  |false=>.fn 6 (.pr a (.int (-y)))
 |a,b=>match a.beq b with
  |true=>.int 0
  |false=>.fn 7 (.pr a b)
def hE:E->E
 |.fn 2 (.pr l' x)=>hE l'
 |.fn 3 (.pr a b)=>dc (hE a) (hE b)
 |.fn 5 (.pr n x)=>nR n (.int 0)
 |.fn 10 _=>.int 0
 |.fn 11 _=>.int 1
 |.fn 21 (.pr r c)=>hE c
 |.fn 23 (.pr x r)=>dc (.int 1) (hE r)
 |.fn 28 (.pr r c)=>hE c
 |.fn 30 _=>.int 0
 |l=>.fn 0 l
def FS(v:E):E->Nat->Option E
 |.fn 23 (.pr x r),n=>match n with
  |0=>some (.fn 23 (.pr v r))
  |n+1=>match FS v r n with
   |some r'=>some (.fn 23 (.pr x r'))
   |none=>none
 |_,_=>none
def GI(i:Nat)(v:E):E->E
 |.fn 2 (.pr l (.pr (.int (.ofNat j)) u))=>match Nat.beq i j with
  |true=>.fn 2 (.pr l (.pr (.int (.ofNat i)) v))
  |false=>match Nat.blt i j with
   |true=>.fn 2 (.pr (GI i v l) (.pr (.int (.ofNat j)) u))
   |false=>.fn 2 (.pr (.fn 2 (.pr l (.pr (.int (.ofNat j)) u))) (.pr (.int (.ofNat i)) v))
 |l=>.fn 2 (.pr l (.pr (.int (.ofNat i)) v))
def i7(l i v:E):E:=
 match i with
 |.int (.ofNat n)=>match FS v l n with
  |some r=>r
  |none=>GI n v l
 |_=>.fn 2 (.pr l (.pr i v))
def cL:List E->E
 |[]=>.fn 10 (.int 0)
 |x::xs=>.fn 23 (.pr x (cL xs))
def Eg:E->Bool
 |.fn 10 _=>true
 |.fn 30 _=>true
 |_=>false
def CD(b:E):E->Option E
 |.fn 23 (.pr x r)=>match CD b r with
  |some r'=>some (.fn 23 (.pr x r'))
  |none=>none
 |.fn 10 _=>some b
 |_=>none
def EI(a b:E):E:=
 match Eg b with
 |true=>a
 |false=>match CD b a with
  |some r=>r
  |none=>.fn 3 (.pr a b)
structure Off where
 base:Nat
 scale:Nat:=0
 idx:E:=.int 0
 deriving Inhabited
def Off.den(F:Env)(o:Off):Nat:=o.base+o.scale*(o.idx.I F).toNat
inductive CK where
 |int (k:IntKind) | bool | str | slc (ks:List CK)
 deriving Inhabited
mutual
def CK.beq:CK->CK->Bool
 |.int k,.int k'=>eU k k'
 |.bool,.bool=>true
 |.str,.str=>true
 |.slc a,.slc b=>gd a b
 |_,_=>false
def gd:List CK->List CK->Bool
 |[],[]=>true
 |x::xs,y::ys=>x.beq y&&gd xs ys
 |_,_=>false
end
def CK.val:CK->U->Value
 |.int k,u=>.int k u.toI
 |.bool,u=>.bool u.toB
 |.str,u=>.string u.toS
 |.slc _,u=>u.raw
inductive SlOk (fz:Nat->Option Obj):List CK->U->Prop
 |nil {ks:List CK}:SlOk fz ks (.bx none 0 0 [])
 |empty {ks:List CK} (a:Addr):SlOk fz ks (.bx (some a) 0 0 [])
 | mk {ks:List CK} {r off len cap:Nat} {l:List U} {arr:Array Value} {elem:TypeId} {fr:Nat×Nat} (hl:l.length=len*ks.length) (hc:len<=cap)
   (hz:l≠[]->fz r=some (.cells arr elem fr))
   (hv:∀(i:Nat)(u:U),l[i]?=some u->∃c,ks[i%ks.length]?=some c/\arr[off+i]?=some (c.val u))
   (hs:∀(i:Nat)(u:U)(ks':List CK),l[i]?=some u->ks[i%ks.length]?=some (.slc ks')->SlOk fz ks' u):
   SlOk fz ks (.bx (some ⟨r,off,none⟩) len cap l)
def CK.ok(fz:Nat->Option Obj):CK->U->Prop
 |.slc ks,u=>SlOk fz ks u
 |_,_=>True
inductive SV where
 |int (k:IntKind) (e:E) | bool (e:E) | str (e:E)
 |nilp | ptr (b:Nat) (o:Off)
 |nils | slice (b:Nat) (o:Off) (len cap:E)
 |nslice (b:Nat) (len cap:E)
 |bsl (ks:List CK) (e:E) | bptr (ks:List CK) (e idx:E) (j:Nat)
 |nilm | map (b:Nat)
 |nili | nilf | func (fn:Fn) (fi ca:List SV)
 |agg (cs:List SV) | tup (cs:List SV)
 |junk
 |nsl (b:Nat) (ks:List CK) (e i:E) (c:Nat) | nptr (b:Nat) (ks:List CK) (e i:E) (c:Nat) (x:E) (j:Nat)
 deriving Inhabited
def Env.blk(F:Env)(b:Nat):Nat:=(F.bs.getD b ⟨0,0,none⟩).blk
def Env.off(F:Env)(b:Nat):Nat:=(F.bs.getD b ⟨0,0,none⟩).off
def Env.nil(F:Env)(b:Nat):Bool:=(F.bs.getD b ⟨0,0,none⟩).nil
def Env.base(F:Env)(b:Nat):Option Addr:=(F.bs.getD b ⟨0,0,none⟩).base
def C0(u:U)(n:Nat):Option Addr:=match u.adr with | some a=>some ⟨a.block,a.off+n,none⟩ | none=>none
mutual
def SV.den(F:Env):SV->Value
 |.int k e=>.int k (e.I F)
 |.bool e=>.bool (e.B F)
 |.str e=>.string (e.S F)
 |.nilp=>.pointer none
 |.ptr b o=>.pointer (some ⟨F.blk b,F.off b+o.den F,none⟩)
 |.nils=>.slice none 0 0
 |.slice b o l c=>.slice (some ⟨F.blk b,F.off b+o.den F,none⟩) (l.I F).toNat (c.I F).toNat
 |.nslice b l c=>.slice (F.base b) (l.I F).toNat (c.I F).toNat
 |.bsl _ e=>(e.den F).raw
 |.bptr ks e i j=>.pointer (C0 (e.den F) ((i.I F).toNat*ks.length+j))
 |.nilm=>.map none
 |.map b=>.map (some (F.blk b))
 |.nili=>.nilIface
 |.nilf=>.nilFunc
 |.func fn fi ca=>.func fn (SV.dens F fi).toArray (SV.dens F ca).toArray
 |.agg cs=>.agg (SV.dens F cs).toArray
 |.tup cs=>.tuple (SV.dens F cs).toArray
 |.junk=>Go.undef
 |.nsl _ _ e _ _=>(e.den F).raw
 |.nptr _ ks e _ _ x j=>.pointer (C0 (e.den F) ((x.I F).toNat*ks.length+j))
def SV.dens(F:Env):List SV->List Value
 |[]=>[]
 |v::vs=>v.den F::SV.dens F vs
end
mutual
def SV.ok(F:Env):SV->Prop
 |.bsl ks e=>SlOk F.fz ks (e.den F)
 |.bptr ks e i _=>SlOk F.fz ks (e.den F)/\0<=i.I F/\((i.I F).toNat+1)*ks.length<=(e.L F).length/\0<ks.length
 |.func _ fi ca=>SV.oks F fi/\SV.oks F ca
 |.agg cs=>SV.oks F cs
 |.tup cs=>SV.oks F cs
 |.nptr _ ks e _ _ x _=>0<=x.I F/\0<ks.length/\∃(r len cap:Nat) (l:List U),e.den F=.bx (some ⟨r,0,none⟩) len cap l/\(x.I F).toNat<len
 |_=>True
def SV.oks(F:Env):List SV->Prop
 |[]=>True
 |v::vs=>v.ok F/\SV.oks F vs
end
def SV.undef:SV:=.tup []
structure Ent where
 k:SV
 v:SV
 born:E
 deriving Inhabited
inductive SObj where
 |gone
 |cells (cs:List SV) (ag:E) (elem:TypeId)
 |flat (ks:List CK) (l n ag:E) (elem:TypeId)
 |map (es:List Ent) (clk:E)
 |mapl (k:IntKind) (c:CK) (e:E)
 |maplp (k:IntKind) (c:CK) (e ke s:E)
 |iter (k:IntKind) (c:CK) (e left:E) (cur:Option E)
 |nest (ks:List CK) (l n ag:E) (elem:TypeId) (own:E)
 deriving Inhabited
structure Blk where
 own:Bool
 obj:SObj
 deriving Inhabited
structure St where
 nv:Nat
 nb:Nat
 heap:T Blk
 pc:List E
 deriving Inhabited
inductive Ex where
 |normal | exit (id:Nat) | ret
 deriving Inhabited
abbrev Tm:=T SV
structure Out where
 ex:Ex
 tmps:Tm
 st:St
 deriving Inhabited
noncomputable def E.scp(nv:Nat)(e:E):Bool:=
 E.rec (motive:=fun _=>Bool) (fun _=>true) (fun _=>true) (fun _=>true) (fun i=>Nat.blt i nv)
  (fun _ _ _ _ a b=>Bool.rec false b a) (fun _ _ _ a b=>Bool.rec false b a) (fun _ _ a b=>Bool.rec false b a) (fun _ _ a b=>Bool.rec false b a)
  (fun _ _ a=>a) (fun _ a=>a) (fun _ _ a b=>Bool.rec false b a) (fun _ _ a b=>Bool.rec false b a) (fun _ _ a b=>Bool.rec false b a) (fun _ _ a b=>Bool.rec false b a)
  (fun _ _ a=>a) (fun _ _ a b=>Bool.rec false b a) e
noncomputable def SV.scp(nv nb:Nat)(v:SV):Bool:=
 SV.rec (motive_1:=fun _=>Bool) (motive_2:=fun _=>Bool)
  (fun _ e=>e.scp nv) (fun e=>e.scp nv) (fun e=>e.scp nv) true (fun b o=>Bool.rec false (o.idx.scp nv) (Nat.blt b nb))
  true (fun b o l c=>Bool.rec false (Bool.rec false (Bool.rec false (c.scp nv) (l.scp nv)) (o.idx.scp nv)) (Nat.blt b nb))
  (fun b l c=>Bool.rec false (Bool.rec false (c.scp nv) (l.scp nv)) (Nat.blt b nb))
  (fun _ e=>e.scp nv) (fun _ e i _=>Bool.rec false (i.scp nv) (e.scp nv))
  true (fun b=>Nat.blt b nb) true true (fun _ _ _ a b=>Bool.rec false b a) (fun _ a=>a) (fun _ a=>a) true
  (fun b _ e i _=>Bool.rec false (Bool.rec false (i.scp nv) (e.scp nv)) (Nat.blt b nb)) (fun b _ e i _ x _=>Bool.rec false (Bool.rec false (Bool.rec false (x.scp nv) (i.scp nv)) (e.scp nv)) (Nat.blt b nb))
  true (fun _ _ a b=>Bool.rec false b a) v
noncomputable def SV.scps(nv nb:Nat)(l:List SV):Bool:=
 List.rec (motive:=fun _=>Bool) true (fun v _ b=>Bool.rec false b (v.scp nv nb)) l
def zf(nv nb:Nat):List Ent->Bool
 |[]=>true
 |x::es=>x.k.scp nv nb&&(x.v.scp nv nb&&(x.born.scp nv&&zf nv nb es))
def aIT(nv:Nat):Option E->Bool
 |none=>true
 |some e=>e.scp nv
def SObj.scp(nv nb:Nat):SObj->Bool
 |.gone=>true
 |.cells cs ag _=>ag.scp nv&&SV.scps nv nb cs
 |.flat _ l n ag _=>l.scp nv&&(n.scp nv&&ag.scp nv)
 |.map es clk=>zf nv nb es&&clk.scp nv
 |.mapl _ _ e=>e.scp nv
 |.maplp _ _ e ke s=>e.scp nv&&(ke.scp nv&&s.scp nv)
 |.iter _ _ e n cur=>e.scp nv&&(n.scp nv&&aIT nv cur)
 |.nest _ l n ag _ own=>l.scp nv&&(n.scp nv&&(ag.scp nv&&own.scp nv))
def Fu(nv:Nat):List E->Bool
 |[]=>true
 |e::es=>e.scp nv&&Fu nv es
def Blk.scp(nv nb:Nat)(b:Blk):Bool:=b.obj.scp nv nb
def St.scp(st:St):Bool:=Fu st.nv st.pc&&T.all (Blk.scp st.nv st.nb) st.heap
def jg(nv nb:Nat)(t:Tm):Bool:=T.all (SV.scp nv nb) t
noncomputable def dC{G:Type}(l:List G):Nat->Option G:=
 List.rec (motive:=fun _=>Nat->Option G) (fun _=>none) (fun x _ g n=>Nat.rec (some x) (fun n _=>g n) n) l
noncomputable def jP{G:Type}(l:List G):Nat->Option (List G):=
 List.rec (motive:=fun _=>Nat->Option (List G)) (fun n=>Nat.rec (some []) (fun _ _=>none) n)
  (fun x _ g n=>Nat.rec (some []) (fun n _=>Option.rec none (fun l=>some (x::l)) (g n)) n) l
noncomputable def rc{G:Type}(l:List G):Nat->List G:=
 List.rec (motive:=fun _=>Nat->List G) (fun _=>[]) (fun x xs g n=>Nat.rec (x::xs) (fun n _=>g n) n) l
noncomputable def rL{G:Type}(cs:List G):List G->Option (List G):=
 List.rec (motive:=fun _=>List G->Option (List G)) (fun vs=>List.rec (some []) (fun _ _ _=>none) vs)
  (fun c cs g vs=>List.rec (some (c::cs)) (fun v vs _=>Option.rec none (fun l=>some (v::l)) (g vs)) vs) cs
noncomputable def nX{G:Type}(cs:List G):Nat->List G->Option (List G):=
 List.rec (motive:=fun _=>Nat->List G->Option (List G)) (fun n vs=>Nat.rec (rL [] vs) (fun _ _=>none) n)
  (fun c cs g n vs=>Nat.rec (rL (c::cs) vs) (fun n _=>Option.rec none (fun l=>some (c::l)) (g n vs)) n) cs
def SV.cells:SV->List SV
 |.agg cs=>cs
 |v=>[v]
def SV.one:SV->Bool
 |.agg _ | .tup _ | .junk=>false
 |_=>true
def oT:List SV->Bool
 |[]=>true
 |v::vs=>v.one&&oT vs
mutual
def ofVal:Value->Option SV
 |.bool b=>some (.bool (.bool b))
 |.int k n=>some (.int k (.int n))
 |.string s=>some (.str (.str s))
 |.pointer none=>some .nilp
 |.slice none n c=>if Nat.beq n 0&&Nat.beq c 0 then some .nils else none
 |.map none=>some .nilm
 |.nilFunc=>some .nilf
 |.nilIface=>some .nili
 |.agg cs=>match pz cs.toList with | some l=>some (.agg l) | none=>none
 |_=>none
def pz:List Value->Option (List SV)
 |[]=>some []
 |v::vs=>match ofVal v,pz vs with | some x,some l=>some (x::l) | _,_=>none
end
end
end Go.SX

namespace Go.SX
noncomputable section
structure Tmpl where
 tmps:Tm
 st:St
 less:E
 deriving Inhabited
structure LoopX where
 n0:Nat
 b0:Nat
 xs:List Out
 deriving Inhabited
structure Ann where
 fn:FuncId
 key:Nat
 ts:List Tmpl
 known:Option LoopX:=none
 deriving Inhabited
inductive NatR where
 |no | lack (e:E) | outs (l:List (SV×St))
structure Nat1 where
 fn:FuncId
 eff:List E->List SV->St->NatR
structure Tab where
 ty:T TypeInfo
 fn:T Func
 facts:List E
 anns:List Ann
 nats:List Nat1
def Tab.und(tb:Tab)(t:TypeId):Option TypeDesc:=
 match tb.ty.get t with
 |some i=>match i.desc with
  |.named _ u=>match tb.ty.get u with
   |some j=>some j.desc
   |none=>none
  |d=>some d
 |none=>none
def qU(o:Off)(n:Nat):Off:=⟨Nat.add o.base n,o.scale,o.idx⟩
def Gb(tb:Tab)(t:TypeId):Option (List Field):=
 match tb.und t with
 |some (.struct fs)=>some fs.toList
 |_=>none
def cI(tb:Tab)(t:TypeId):Option Nat:=
 match tb.ty.get t with
 |some i=>some i.size
 |none=>none
def iZ(tb:Tab)(t:TypeId):Option Bool:=
 match tb.und t with
 |some (.struct _)=>some true
 |some (.array _ _)=>some true
 |some _=>some false
 |none=>none
def iK(tb:Tab)(t:TypeId):Option SV:=
 match tb.ty.get t with
 |some i=>match i.zero with
  |some v=>ofVal v
  |none=>none
 |none=>none
def lX(tb:Tab)(t:TypeId)(cs:List SV)(off:Nat):Option SV:=
 match iZ tb t with
 |some true=>match cI tb t with
  |some n=>match jP (rc cs off) n with
   |some l=>some (.agg l)
   |none=>none
  |none=>none
 |some false=>dC cs off
 |none=>none
def xX(f:TypeId->SV->SV->Option E)(tb:Tab)(xs ys:List SV):List Field->Option E
 |[]=>some (.bool true)
 |fd::fds=>
  if fd.name == "_" then none else
  match lX tb fd.type xs fd.offset,lX tb fd.type ys fd.offset with
  |some x,some y=>match f fd.type x y,xX f tb xs ys fds with
   |some a,some b=>some (yV a b)
   |_,_=>none
  |_,_=>none
def xV(f:SV->SV->Option E)(tb:Tab)(elem:TypeId)(n:Nat)(xs ys:List SV):Nat->Nat->Option E
 |0,_=>some (.bool true)
 |k+1,i=>
  match lX tb elem xs (Nat.mul i n),lX tb elem ys (Nat.mul i n)with
  |some x,some y=>match f x y,xV f tb elem n xs ys k (Nat.succ i)with
   |some a,some b=>some (yV a b)
   |_,_=>none
  |_,_=>none
def EJ(a b:E):Option E:=
 match a,b with
 |.bool true,.bool y=>some (.bool y)
 |.bool false,.bool y=>some (.bool (!y))
 |.bool true,b=>some b
 |.bool false,b=>some (bk b)
 |a,.bool true=>some a
 |a,.bool false=>some (bk a)
 |a,b=>some (.iff a b)
def gV(P:Program)(tb:Tab):Nat->TypeId->SV->SV->Option E
 |0,_,_,_=>none
 |d+1,t,x,y=>
  match tb.und t,x,y with
  |some .bool,.bool a,.bool b=>EJ a b
  |some (.int _),.int k a,.int k' b=>if eU k k' then some (aE .eql a b)else none
  |some .string,.str a,.str b=>some (lT a b)
  |some (.pointer _),.nilp,.nilp=>some (.bool true)
  |some (.pointer _),.nilp,.ptr _ _=>some (.bool false)
  |some (.pointer _),.ptr _ _,.nilp=>some (.bool false)
  |some (.slice _),.nils,.nils=>some (.bool true)
  |some (.slice _),.nils,.slice _ _ _ _=>some (.bool false)
  |some (.slice _),.slice _ _ _ _,.nils=>some (.bool false)
  |some (.map _ _),.nilm,.nilm=>some (.bool true)
  |some (.map _ _),.nilm,.map _=>some (.bool false)
  |some (.map _ _),.map _,.nilm=>some (.bool false)
  |some (.func _ _ _),.nilf,.nilf=>some (.bool true)
  |some (.func _ _ _),.nilf,.func _ _ _=>some (.bool false)
  |some (.func _ _ _),.func _ _ _,.nilf=>some (.bool false)
  |some (.struct fs),.agg xs,.agg ys=>
   if P.stoodInHeld t then none else xX (gV P tb d) tb xs ys fs.toList
  |some (.array len elem),.agg xs,.agg ys=>
   match cI tb elem with
   |some n=>xV (gV P tb d elem) tb elem n xs ys len 0
   |none=>none
  |_,_,_=>none
def acL:SV->Bool
 |.agg _=>true
 |_=>false
def kw(P:Program)(tb:Tab)(t:TypeId)(x y:SV):Option E:=
 if acL x then(if P.eqGuardType P.depth t then none else gV P tb 40 t x y)else gV P tb 40 t x y
def aeI:E->Bool
 |.int n=>!(iz n 0)
 |_=>false
def jy(P:Program)(tb:Tab)(op:BinOp)(t:TypeId)(x y:SV):Option SV:=
 match x,y with
 |.int k a,.int k' b=>
  match op with
  |.shl | .shr=>match b with
   |.int (.ofNat _)=>some (.int k (iC op k a b))
   |_=>none
  |.add | .sub | .mul | .and | .or | .xor | .andNot=>if eU k k' then some (.int k (iC op k a b))else none
  |.quo | .rem=>if eU k k'&&aeI b then some (.int k (iC op k a b))else none
  |_=>if eU k k' then some (.bool (aE op a b))else none
 |.str a,.str b=>
  match op with
  |.eql=>some (.bool (lT a b))
  |.neq=>some (.bool (bk (lT a b)))
  |_=>none
 |x,y=>
  match op with
  |.eql=>match kw P tb t x y with | some e=>some (.bool e) | none=>none
  |.neq=>match kw P tb t x y with | some e=>some (.bool (bk e)) | none=>none
  |_=>none
def GH(op:UnOp)(x:SV):Option SV:=
 match op,x with
 |.neg,.int k a=>some (.int k (iC .sub k (.int 0) a))
 |.xor,.int k a=>some (.int k (iC .xor k (.int (match k.signed with | true=>-1 | false=>k.max)) a))
 |.not,.bool a=>some (.bool (bk a))
 |_,_=>none
def C5(tb:Tab)(src dst:TypeId)(x:SV):Option SV:=
 match tb.und src,tb.und dst,x with
 |some _,some (.int k),.int _ a=>some (.int k (rE k a))
 |some .string,some .string,.str e=>some (.str e)
 |_,_,_=>none
def eG:E->Option Nat
 |.int (.ofNat n)=>some n
 |_=>none
def Dz(tb:Tab)(s:TypeId)(x:SV)(f:Nat):Option SV:=
 match Gb tb s,x with
 |some fs,.ptr b o=>match dC fs f with
  |some fd=>match cI tb fd.type with
   |some n=>if Nat.beq n 0 then none else some (.ptr b (qU o fd.offset))
   |none=>none
  |none=>none
 |some fs,.bptr ks e i j=>match dC fs f with
  |some fd=>match cI tb fd.type with
   |some n=>if Nat.beq n 0 then none else some (.bptr ks e i (Nat.add j fd.offset))
   |none=>none
  |none=>none
 |some fs,.nptr b ks e i c x j=>match dC fs f with
  |some fd=>match cI tb fd.type with
   |some n=>if Nat.beq n 0 then none else some (.nptr b ks e i c x (Nat.add j fd.offset))
   |none=>none
  |none=>none
 |_,_=>none
def DA(tb:Tab)(s:TypeId)(x:SV)(f:Nat):Option SV:=
 match Gb tb s,x with
 |some fs,.agg cs=>match dC fs f with
  |some fd=>lX tb fd.type cs fd.offset
  |none=>none
 |_,_=>none
def pg(tb:Tab)(t:TypeId)(x i:SV):Option SV:=
 match i with
 |.int _ (.int (.ofNat n))=>
  match tb.und t,x with
  |some (.array len elem),.ptr b o=>
   if Nat.blt n len then match cI tb elem with
    |some sz=>some (.ptr b (qU o (Nat.mul n sz)))
    |none=>none
   else none
  |some (.slice elem),.slice b o (.int (.ofNat l)) _=>
   if Nat.blt n l then match cI tb elem with
    |some sz=>some (.ptr b (qU o (Nat.mul n sz)))
    |none=>none
   else none
  |_,_=>none
 |_=>none
def tZ(tb:Tab)(t:TypeId)(x i:SV):Option SV:=
 match i with
 |.int _ (.int (.ofNat n))=>
  match tb.und t,x with
  |some (.array len elem),.agg cs=>
   if Nat.blt n len then match cI tb elem with
    |some sz=>lX tb elem cs (Nat.mul n sz)
    |none=>none
   else none
  |some .string,.str (.str s)=>
   match s[n]? with
   |some b=>some (.int .u8 (.int b.toNat))
   |none=>none
  |_,_=>none
 |_=>none
def Dt(x:SV)(i:Nat):Option SV:=
 match x with
 |.tup vs=>dC vs i
 |_=>none
def lH(place:Nat->Option (Nat×Nat))(cells:List SV):List (Nat×SV)->Option (List SV)
 |[]=>some cells
 |(i,v)::bP=>
  match place i with
  |none=>none
  |some (off,size)=>
   if Nat.beq v.cells.length size then
    match nX cells off v.cells with
    |some cs=>lH place cs bP
    |none=>none
   else none
def nz(ev:Operand->Option SV):List (Nat×Operand)->Option (List (Nat×SV))
 |[]=>some []
 |(i,x)::bP=>match ev x,nz ev bP with
  |some v,some l=>some ((i,v)::l)
  |_,_=>none
def iW(ev:Operand->Option SV):List Operand->Option (List SV)
 |[]=>some []
 |x::bP=>match ev x,iW ev bP with
  |some v,some l=>some (v::l)
  |_,_=>none
def zi(tb:Tab):List Field->Option (List (Nat×Nat))
 |[]=>some []
 |f::fs=>match cI tb f.type,zi tb fs with
  |some n,some l=>some ((f.offset,n)::l)
  |_,_=>none
def xD(tb:Tab)(t:TypeId)(parts:List (Nat×SV)):Option SV:=
 match iK tb t with
 |some z=>
  match tb.und t with
  |some (.struct fs)=>match zi tb fs.toList with
   |some ps=>match lH (dC ps) z.cells parts with
    |some cs=>some (.agg cs)
    |none=>none
   |none=>none
  |some (.array _ elem)=>match cI tb elem with
   |some sz=>match lH (fun i=>some (Nat.mul i sz,sz)) z.cells parts with
    |some cs=>some (.agg cs)
    |none=>none
   |none=>none
  |_=>none
 |none=>none
def Es(tb:Tab)(t:TypeId)(x:SV):Option SV:=
 match tb.und t,x with
 |some .string,.str (.str s)=>some (.int .i64 (.int s.size))
 |some (.array n _),_=>some (.int .i64 (.int n))
 |some (.slice _),.nils=>some (.int .i64 (.int 0))
 |some (.slice _),.slice _ _ l _=>match eG l with | some n=>some (.int .i64 (.int n)) | none=>none
 |some (.map _ _),.nilm=>some (.int .i64 (.int 0))
 |_,_=>none
def CZ(tb:Tab)(t:TypeId)(x:SV):Option SV:=
 match tb.und t,x with
 |some (.array n _),_=>some (.int .i64 (.int n))
 |some (.slice _),.nils=>some (.int .i64 (.int 0))
 |some (.slice _),.slice _ _ _ c=>match eG c with | some n=>some (.int .i64 (.int n)) | none=>none
 |_,_=>none
def pu(mx:Bool)(k:IntKind):List SV->E->Option SV
 |[],a=>some (.int k a)
 |v::vs,a=>match v with
  |.int k' b=>match eU k k' with
   |true=>pu mx k vs (match mx with | true=>nR a b | false=>rD a b)
   |false=>none
  |_=>none
def uw(mx:Bool):List SV->Option SV
 |.int k a::v::vs=>pu mx k (v::vs) a
 |_=>none
def tD(x:Option SV)(dflt y:Nat):Option Nat:=
 match x with
 |none=>some dflt
 |some (.int _ (.int (.ofNat n)))=>if Nat.ble n y then some n else none
 |some _=>none
def xB(len cap:Nat)(lo hi mx:Option SV):Option (Nat×Nat×Nat):=
 match mx,hi with
 |some _,none=>none
 |_,_=>
  match tD mx cap cap with
  |some m=>match tD hi len m with
   |some h=>match tD lo 0 h with
    |some l=>if Nat.ble h m then some (l,h,m)else none
    |none=>none
   |none=>none
  |none=>none
def Fv(o:Off)(m l sz:Nat):Off:=match Nat.beq m l with | true=>o | false=>qU o (Nat.mul l sz)
def FV(tb:Tab)(t:TypeId)(x:SV)(lo hi mx:Option SV):Option SV:=
 match tb.und t,x with
 |some (.slice elem),.slice b o (.int (.ofNat len)) (.int (.ofNat cap))=>
  match xB len cap lo hi mx,cI tb elem with
  |some (l,h,m),some sz=>some (.slice b (Fv o m l sz) (.int (.ofNat (Nat.sub h l))) (.int (.ofNat (Nat.sub m l))))
  |_,_=>none
 |some (.slice elem),.nils=>
  match xB 0 0 lo hi mx,cI tb elem with
  |some _,some _=>some .nils
  |_,_=>none
 |some (.array n elem),.ptr b o=>
  match xB n n lo hi mx,cI tb elem with
  |some (l,h,m),some sz=>some (.slice b (Fv o m l sz) (.int (.ofNat (Nat.sub h l))) (.int (.ofNat (Nat.sub m l))))
  |_,_=>none
 |_,_=>none
def o7(ev:Operand->Option SV):Option Operand->Option (Option SV)
 |none=>some none
 |some x=>match ev x with | some v=>some (some v) | none=>none
def Fq(P:Program)(tb:Tab)(ev:Operand->Option SV)(c:Operand)(a:Operand)(b:Operand):Option SV:=
 match ev c with
  |some (.bool (.bool true))=>ev a
  |some (.bool (.bool false))=>ev b
  |_=>none
def Fp(P:Program)(tb:Tab)(ev:Operand->Option SV)(x:Operand):Option SV:=
 match ev x with
  |some (.ptr b o)=>some (.ptr b o)
  |some (.bptr ks e i j)=>some (.bptr ks e i j)
  |some (.nptr b ks e i c x j)=>some (.nptr b ks e i c x j)
  |_=>none
def Fe(P:Program)(tb:Tab)(ev:Operand->Option SV)(op:BinOp)(t:TypeId)(x:Operand)(y:Operand):Option SV:=
 match ev x,ev y with
  |some vx,some vy=>jy P tb op t vx vy
  |_,_=>none
def Fs(P:Program)(tb:Tab)(ev:Operand->Option SV)(op:UnOp)(x:Operand):Option SV:=
 match ev x with
  |some v=>GH op v
  |none=>none
def Fh(P:Program)(tb:Tab)(ev:Operand->Option SV)(src:TypeId)(dst:TypeId)(x:Operand):Option SV:=
 match ev x with
  |some v=>C5 tb src dst v
  |none=>none
def Fk(P:Program)(tb:Tab)(ev:Operand->Option SV)(s:TypeId)(x:Operand)(f:Nat):Option SV:=
 match ev x with
  |some v=>Dz tb s v f
  |none=>none
def Fj(P:Program)(tb:Tab)(ev:Operand->Option SV)(s:TypeId)(x:Operand)(f:Nat):Option SV:=
 match ev x with
  |some v=>DA tb s v f
  |none=>none
def Fm(P:Program)(tb:Tab)(ev:Operand->Option SV)(t:TypeId)(x:Operand)(i:Operand):Option SV:=
 match ev x,ev i with
  |some v,some w=>pg tb t v w
  |_,_=>none
def Fl(P:Program)(tb:Tab)(ev:Operand->Option SV)(t:TypeId)(x:Operand)(i:Operand):Option SV:=
 match ev x,ev i with
  |some v,some w=>tZ tb t v w
  |_,_=>none
def Fi(P:Program)(tb:Tab)(ev:Operand->Option SV)(x:Operand)(i:Nat):Option SV:=
 match ev x with
  |some v=>Dt v i
  |none=>none
def Ff(P:Program)(tb:Tab)(ev:Operand->Option SV)(t:TypeId)(parts:Array (Nat×Operand)):Option SV:=
 match nz ev parts.toList with
  |some ps=>xD tb t ps
  |none=>none
def Fo(P:Program)(tb:Tab)(ev:Operand->Option SV)(fn:Fn)(fi:Array Operand)(ca:Array Operand):Option SV:=
 match iW ev fi.toList,iW ev ca.toList with
  |some a,some b=>some (.func fn a b)
  |_,_=>none
def Fr(P:Program)(tb:Tab)(ev:Operand->Option SV)(t:TypeId)(x:Operand)(lo:Option Operand)(hi:Option Operand)(mx:Option Operand):Option SV:=
 match ev x,o7 ev lo,o7 ev hi,o7 ev mx with
  |some v,some l,some h,some m=>FV tb t v l h m
  |_,_,_,_=>none
def Fg(P:Program)(tb:Tab)(ev:Operand->Option SV)(c:Call):Option SV:=
 match c.callee with
  |.builtin b=>match iW ev c.args.toList with
   |some vs=>match b with
    |.len=>match dC c.argTypes.toList 0,dC vs 0 with
     |some t,some v=>Es tb t v
     |_,_=>none
    |.cap=>match dC c.argTypes.toList 0,dC vs 0 with
     |some t,some v=>CZ tb t v
     |_,_=>none
    |.min=>uw false vs
    |.max=>uw true vs
    |_=>none
   |none=>none
  |_=>none
noncomputable def rW(P:Program)(tb:Tab)(ev:Operand->Option SV)(o:Op):Option SV:=
 Op.rec (motive:=fun _=>Option SV)
  (fun x=>ev x)
  (fun x=>ev x)
  (fun c a b=>Fq P tb ev c a b)
  (fun _=>none)
  (fun _ _=>none)
  (fun t parts=>Ff P tb ev t parts)
  (fun _ _ _=>none)
  (fun _ _ _ _=>none)
  (fun _ _=>none)
  (fun _ _ _=>none)
  (fun _=>none)
  (fun _=>none)
  (fun x=>Fp P tb ev x)
  (fun op t x y _=>Fe P tb ev op t x y)
  (fun op _ x=>Fs P tb ev op x)
  (fun src dst x=>Fh P tb ev src dst x)
  (fun _ _=>none)
  (fun _ _=>none)
  (fun fn fi ca=>Fo P tb ev fn fi ca)
  (fun _ _=>none)
  (fun _ _=>none)
  (fun _ _ _=>none)
  (fun t x lo hi mx=>Fr P tb ev t x lo hi mx)
  (fun s x f=>Fk P tb ev s x f)
  (fun s x f=>Fj P tb ev s x f)
  (fun t x i=>Fm P tb ev t x i)
  (fun t x i=>Fl P tb ev t x i)
  (fun _ _ _ _=>none)
  (fun _ _ _ _=>none)
  (fun _ _ _=>none)
  (fun _ _ _ _=>none)
  (fun _ _=>none)
  (fun _ _=>none)
  (fun _=>none)
  (fun _ _ _ _=>none)
  (fun x i=>Fi P tb ev x i)
  (fun c=>Fg P tb ev c)
  (fun _=>none)
  (fun _=>none)
  (fun _=>none)
  (fun _ _=>none)
  (fun _ _ _=>none)
  (fun _ _=>none)
  o
theorem afv(P:Program)(tb:Tab)(ev:Operand->Option SV)(o:Op):rW P tb ev o=(match o with
 |.move x=>ev x
 |.assign x=>ev x
 |.pick c a b=>Fq P tb ev c a b
 |.nilCheck x=>Fp P tb ev x
 |.binOp op t x y _=>Fe P tb ev op t x y
 |.unOp op _ x=>Fs P tb ev op x
 |.convert src dst x=>Fh P tb ev src dst x
 |.fieldAddr s x f=>Fk P tb ev s x f
 |.field s x f=>Fj P tb ev s x f
 |.indexAddr t x i=>Fm P tb ev t x i
 |.index t x i=>Fl P tb ev t x i
 |.extract x i=>Fi P tb ev x i
 |.build t parts=>Ff P tb ev t parts
 |.makeFunc fn fi ca=>Fo P tb ev fn fi ca
 |.slice t x lo hi mx=>Fr P tb ev t x lo hi mx
 |.call c=>Fg P tb ev c
 |_=>none):=by cases o<;>rfl
def yv(e:E):List E->Bool
 |[]=>false
 |x::xs=>match x.beq e with | true=>true | false=>yv e xs
def ph(e:E)(l:List E):Bool:=fj (kr e) fun c=>yv e (DC c l)
def aHD:E->Bool
 |.and _ _=>true
 |_=>false
def aaq(pc:List E)(a:E):Bool:=match aHD a with | true=>ph a pc | false=>false
def qV(pc:List E):E->Bool
 |.and a b=>match aaq pc a with
  |true=>qV pc b
  |false=>match qV pc a with | true=>qV pc b | false=>false
 |e=>ph e pc
def ro(pc:List E)(e:E):List E->Bool
 |[]=>false
 |x::xs=>match x with
  |.imp p c=>match c.beq e with
   |true=>match qV pc p with
    |true=>true
    |false=>ro pc e xs
   |false=>ro pc e xs
  |_=>match x.beq e with
   |true=>true
   |false=>ro pc e xs
def tU(pc:List E)(e:E)(l:List E):Bool:=fj (kr e) fun n=>ro pc e (DD n l)
def yQ(a:Option Int)(b:Int):Option Int:=
 match a with
 |some x=>some (kJ x b)
 |none=>some b
def yU(a:Option Int)(b:Int):Option Int:=
 match a with
 |some x=>some (nQ x b)
 |none=>some b
def lS(c:E):List E->Option Int->Option Int
 |[],r=>r
 |e::es,r=>match e with
  |.not (.cmp .lss a (.int k))=>match (dk a).beq c with
   |true=>lS c es (yQ r (k-eH a))
   |false=>lS c es r
  |.cmp .lss (.int k) a=>match (dk a).beq c with
   |true=>lS c es (yQ r (k+1-eH a))
   |false=>lS c es r
  |.cmp .eql a (.int k)=>match (dk a).beq c with
   |true=>lS c es (yQ r (k-eH a))
   |false=>lS c es r
  |_=>lS c es r
def lM(c:E):List E->Option Int->Option Int
 |[],r=>r
 |e::es,r=>match e with
  |.not (.cmp .lss (.int k) a)=>match (dk a).beq c with
   |true=>lM c es (yU r (k-eH a))
   |false=>lM c es r
  |.cmp .lss a (.int k)=>match (dk a).beq c with
   |true=>lM c es (yU r (k-1-eH a))
   |false=>lM c es r
  |.cmp .eql a (.int k)=>match (dk a).beq c with
   |true=>lM c es (yU r (k-eH a))
   |false=>lM c es r
  |_=>lM c es r
def yZ:E->Bool
 |.fn f _=>match f with
  |0=>true
  |9=>true
  |13=>true
  |22=>true
  |26=>true
  |29=>true
  |_=>false
 |_=>false
def rF(c:E)(k:Int):List E->Bool
 |[]=>false
 |e::es=>match e with
  |.not (.cmp .eql a (.int j))=>match (dk a).beq c&&iz (j-eH a) k with
   |true=>true
   |false=>rF c k es
  |_=>rF c k es
def CV(pc:List E)(c:E):Nat->Int->Int
 |0,k=>k
 |n+1,k=>match rF c k pc with
  |true=>CV pc c n (k+1)
  |false=>k
def CU(pc:List E)(c:E):Nat->Int->Int
 |0,k=>k
 |n+1,k=>match rF c k pc with
  |true=>CU pc c n (k-1)
  |false=>k
def Mh(c:E)(pc:List E):Option Int:=
 match lS c pc (match yZ c with | true=>some 0 | false=>none)with
 |some k=>some (CV pc c 4 k)
 |none=>none
def LC(c:E)(pc:List E):Option Int:=
 match lM c pc none with
 |some k=>some (CU pc c 4 k)
 |none=>none
def rA(pc:List E)(c:E):Option Int:=fj (kr c) fun n=>Mh c (x6 n pc)
def lN(pc:List E)(c:E):Option Int:=fj (kr c) fun n=>LC c (x6 n pc)
def leI(a b:Int):Bool:=cv .leq a b
def pq(a b:Int):Bool:=cv .lss a b
def CR(pc:List E)(e:E):Option Bool:=
 match e with
 |.cmp .lss a (.int k)=>match rA pc (dk a)with
  |some x=>match leI k (x+eH a)with
   |true=>some false
   |false=>match lN pc (dk a)with
    |some y=>match pq (y+eH a) k with
     |true=>some true
     |false=>none
    |none=>none
  |none=>match lN pc (dk a)with
   |some y=>match pq (y+eH a) k with
    |true=>some true
    |false=>none
   |none=>none
 |.cmp .lss (.int k) a=>match rA pc (dk a)with
  |some x=>match pq k (x+eH a)with
   |true=>some true
   |false=>match lN pc (dk a)with
    |some y=>match leI (y+eH a) k with
     |true=>some false
     |false=>none
    |none=>none
  |none=>match lN pc (dk a)with
   |some y=>match leI (y+eH a) k with
    |true=>some false
    |false=>none
   |none=>none
 |.cmp .eql a (.int k)=>match rA pc (dk a)with
  |some x=>match pq k (x+eH a)with
   |true=>some false
   |false=>match lN pc (dk a)with
    |some y=>match pq (y+eH a) k with
     |true=>some false
     |false=>match iz (x+eH a) k&&iz (y+eH a) k with
      |true=>some true
      |false=>none
    |none=>none
  |none=>match lN pc (dk a)with
   |some y=>match pq (y+eH a) k with
    |true=>some false
    |false=>none
   |none=>none
 |_=>none
def aeK:Option Bool->Option Bool
 |some b=>some (!b)
 |none=>none
def L5(fs pc:List E)(e:E):Option Bool:=
 match tU pc e pc with
  |true=>some true
  |false=>match tU pc (bk e) pc with
   |true=>some false
   |false=>match tU pc e fs with
    |true=>some true
    |false=>match tU pc (bk e) fs with
     |true=>some false
     |false=>match e with
      |.not x=>aeK (CR pc x)
      |_=>CR pc e
noncomputable def aH1(e:E):Option Bool:=E.rec (motive:=fun _=>Option Bool) (fun _=>none) some (fun _=>none) (fun _=>none) (fun _ _ _ _ _ _=>none) (fun _ _ _ _ _=>none) (fun _ _ _ _=>none) (fun _ _ _ _=>none) (fun _ _ _=>none) (fun _ _=>none) (fun _ _ _ _=>none) (fun _ _ _ _=>none) (fun _ _ _ _=>none) (fun _ _ _ _=>none) (fun _ _ _=>none) (fun _ _ _ _=>none) e
noncomputable def d7(fs pc:List E)(e:E):Option Bool:=Option.rec (motive:=fun _=>Option Bool) (L5 fs pc e) some (aH1 e)
theorem aHK(fs pc:List E)(e:E):d7 fs pc e=(match e with
 |.bool b=>some b
 |_=>L5 fs pc e):=by cases e<;>rfl
def gZ(fs pc:List E)(a b:E):Bool:=
 match d7 fs pc (aE .lss a b)with
 |some true=>true
 |_=>false
def kz(fs pc:List E)(a b:E):Bool:=
 match d7 fs pc (aE .lss a b)with
 |some false=>true
 |_=>false
def d4(fs pc:List E)(e:E):Bool:=
 match yZ e with
 |true=>true
 |false=>kz fs pc e (.int 0)
inductive Rz where
 |lit (j:Nat)
 |ask (e:E)
 |lack (e:E)
def zL(fs pc:List E)(i:E):Nat->Nat->Rz
 |0,_=>.lack (.bool false)
 |n+1,j=>match d7 fs pc (aE .eql i (.int (.ofNat j)))with
  |some true=>.lit j
  |some false=>zL fs pc i n (Nat.succ j)
  |none=>.ask (aE .eql i (.int (.ofNat j)))
def fU(o:Off):Option Nat:=match o.scale with | 0=>some o.base | _=>none
def ut(tb:Tab)(st:St)(t:TypeId)(x:SV):Option SV:=
 match x with
 |.ptr b o=>match st.heap.get b with
  |some ⟨_,.cells cs _ _⟩=>match fU o with
   |some n=>match iZ tb t with
    |some true=>match cI tb t with
     |some sz=>match jP (rc cs n) sz with
      |some l=>some (.agg l)
      |none=>none
     |none=>none
    |some false=>dC cs n
    |none=>none
   |none=>none
  |_=>none
 |_=>none
def Ga(tb:Tab)(st:St)(t:TypeId)(x v:SV):Option St:=
 match x with
 |.ptr b o=>match st.heap.get b with
  |some ⟨true,.cells cs ag elem⟩=>match fU o with
   |some n=>match cI tb t with
    | some sz=>if Nat.beq v.cells.length sz&&oT v.cells then
      match nX cs n v.cells with
      |some cs'=>T.setK st.heap b ⟨true,.cells cs' ag elem⟩ fun h=>some {st with heap:=h}
      |none=>none
     else none
    |none=>none
   |none=>none
  |_=>none
 |_=>none
def rH(tmps:Tm)(st:St)(elem:TypeId)(cs:List SV):Option (SV×St):=
 if st.scp&&jg st.nv st.nb tmps&&SV.scps st.nv st.nb cs then
  T.insK st.heap st.nb ⟨true,.cells cs (.int (.ofNat cs.length)) elem⟩ fun h=>some (.ptr st.nb ⟨0,0,.int 0⟩,{st with nb:=Nat.succ st.nb,heap:=h})
 else none
def lZ(z:List SV):Nat->List SV
 |0=>[]
 |n+1=>z++lZ z n
inductive EffR where
 |val (v:SV) (st:St)
 |skip (st:St)
 |ask (e:E)
 |lack (e:E)
 |bad
def EffR.ofVal:Option SV->St->EffR
 |some v,st=>.val v st
 |none,_=>.bad
def EffR.ofPair:Option (SV×St)->EffR
 |some (v,st)=>.val v st
 |none=>.bad
noncomputable def isJunk(v:SV):Bool:=
 SV.rec (motive_1:=fun _=>Bool) (motive_2:=fun _=>Bool) (fun _ _=>false) (fun _=>false) (fun _=>false) false (fun _ _=>false) false (fun _ _ _ _=>false)
  (fun _ _ _=>false) (fun _ _=>false) (fun _ _ _ _=>false) false (fun _=>false) false false (fun _ _ _ _ _=>false) (fun _ _=>false) (fun _ _=>false) true
  (fun _ _ _ _ _=>false) (fun _ _ _ _ _ _ _=>false)
  false (fun _ _ _ _=>false) v
noncomputable def aGV(v:SV):Option SV:=Bool.rec (some v) none (isJunk v)
noncomputable def abF(x:Option SV):Option SV:=Option.rec (motive:=fun _=>Option SV) (some .undef) aGV x
noncomputable def bI(tmps:Tm)(x:Operand):Option SV:=
 Operand.rec (motive:=fun _=>Option SV) (fun t=>abF (tmps.get t)) ofVal (fun _=>none) (fun f=>some (.func (.func f) [] [])) x
theorem abI(tmps:Tm)(t:Tmp):bI tmps (.tmp t)=(match tmps.get t with
  |some v=>match v with
   |.junk=>none
   |_=>some v
  |none=>some .undef):=by
 show abF (tmps.get t)=_;cases tmps.get t with
 |none=>rfl
 |some v=>cases v<;>rfl
theorem abH(tmps:Tm)(g:Nat):bI tmps (.global g)=none:=rfl
theorem abG(tmps:Tm)(f:FuncId):bI tmps (.func f)=some (.func (.func f) [] []):=rfl
def aP{G:Type}:List G->Nat
 |[]=>0
 |_::xs=>Nat.succ (aP xs)
def gH(w:Nat)(e:E):E:=
 match e with
 |.fn 24 (.pr _ (.pr l (.pr h _)))=>match l with
  |.int (.ofNat 0)=>h
  |_=>.fn 29 (.pr h l)
 |.fn 28 (.pr (.pr _ n) _)=>n
 |.fn 30 _=>.int 0
 |e=>match w with | 1=>hE e | _=>.fn 9 (.pr e (.int (.ofNat w)))
def o5(e:E):E:=
 match e with
 |.fn 24 (.pr _ (.pr l (.pr _ m)))=>match l with
  |.int (.ofNat 0)=>m
  |_=>.fn 29 (.pr m l)
 |.fn 30 _=>.int 0
 |e=>.fn 22 e
def dJ(w:Nat)(idx:E)(j:Nat):E:=
 match w with
 |1=>idx
 |_=>match idx with
  |.int n=>.int (n * .ofNat w + .ofNat j)
  |_=>.fn 6 (.pr (.fn 8 (.pr idx (.int (.ofNat w)))) (.int (.ofNat j)))
def hJ(fs pc:List E):E->E->E
 |.fn 2 (.pr l' (.pr j v)),i=>match i.beq j with
  |true=>v
  |false=>match i,j with
   |.int (.ofNat _),.int (.ofNat _)=>hJ fs pc l' i
   |_,_=>match d7 fs pc (aE .eql i j)with
    |some true=>match kz fs pc j (.int 0)with
     |true=>v
     |false=>.fn 1 (.pr (.fn 2 (.pr l' (.pr j v))) i)
    |some false=>match kz fs pc j (.int 0)with
     |true=>hJ fs pc l' i
     |false=>.fn 1 (.pr (.fn 2 (.pr l' (.pr j v))) i)
    |none=>.fn 1 (.pr (.fn 2 (.pr l' (.pr j v))) i)
 |.fn 3 (.pr a b),i=>match gZ fs pc i (hE a)with
  |true=>hJ fs pc a i
  |false=>match kz fs pc i (hE a)with
   |true=>hJ fs pc b (i6 i (hE a))
   |false=>.fn 1 (.pr (.fn 3 (.pr a b)) i)
 |.fn 23 (.pr x r),i=>match i with
  |.int (.ofNat n)=>match n with
   |0=>x
   |n+1=>hJ fs pc r (.int (.ofNat n))
  |_=>.fn 1 (.pr (.fn 23 (.pr x r)) i)
 |.fn 5 (.pr n x),i=>x
 |.fn 11 x,i=>x
 |.fn 21 (.pr r c),i=>hJ fs pc c i
 |.fn 28 (.pr r c),i=>hJ fs pc c i
 |.fn 24 (.pr (.pr (.int (.ofNat 1)) e) (.pr l m)),i=>match kz fs pc l (.int 0)with
  |true=>hJ fs pc e (dc l i)
  |false=>.fn 1 (.pr (.fn 24 (.pr (.pr (.int (.ofNat 1)) e) (.pr l m))) i)
 |l,i=>.fn 1 (.pr l i)
inductive FA where
 |at (idx:E) (j:Nat)
 |lack (e:E)
 |bad
def DL(fs pc:List E)(n idx:E)(j:Nat):FA:=
 match gZ fs pc idx n with
 |true=>.at idx j
 |false=>.lack (aE .lss idx n)
def pb(fs pc:List E)(w:Nat)(n:E)(o:Off):FA:=
 match w with
 |0=>.bad
 |_=>match o.scale with
  |0=>DL fs pc n (.int (.ofNat (Nat.div o.base w))) (Nat.mod o.base w)
  |s=>match Nat.beq s w with
   |true=>match d4 fs pc o.idx with
    |true=>DL fs pc n (dc o.idx (.int (.ofNat (Nat.div o.base w)))) (Nat.mod o.base w)
    |false=>.lack (bk (aE .lss o.idx (.int 0)))
   |false=>.bad
def nj(c:CK)(e:E):SV:=
 match c with
 |.int k=>.int k e
 |.bool=>.bool e
 |.str=>.str e
 |.slc ks=>.bsl ks e
def tG(fs pc:List E)(ks:List CK)(w:Nat)(l idx:E):Nat->Nat->Option (List SV)
 |0,_=>some []
 |n+1,j=>match dC ks j with
  |some c=>match tG fs pc ks w l idx n (Nat.succ j)with
   |some vs=>some (nj c (hJ fs pc l (dJ w idx j))::vs)
   |none=>none
  |none=>none
def pp(tb:Tab)(st:St)(t:TypeId)(ks:List CK)(l idx:E)(j:Nat):EffR:=
 match iZ tb t with
 |some true=>match cI tb t with
  |some sz=>match tG tb.facts st.pc ks (aP ks) l idx sz j with
   |some vs=>.val (.agg vs) st
   |none=>.bad
  |none=>.bad
 |some false=>match tG tb.facts st.pc ks (aP ks) l idx 1 j with
  |some vs=>match vs with
   |[v]=>.val v st
   |_=>.bad
  |none=>.bad
 |none=>.bad
def kA:E->E
 |.fn 21 (.pr x _)=>kA x
 |e=>e
def tJ(e:E):E:=match e with
 |.fn 21 (.pr _ c)=>c
 |.fn 28 (.pr _ c)=>c
 |e=>e
def xH(b:Nat)(c:CK)(e idx:E)(j:Nat):SV:=
 match c with
 |.int k=>.int k e
 |.bool=>.bool e
 |.str=>.str e
 |.slc ks=>.nsl b ks e idx j
def tH(fs pc:List E)(b:Nat)(ks:List CK)(w:Nat)(l idx:E):Nat->Nat->Option (List SV)
 |0,_=>some []
 |n+1,j=>match dC ks j with
  |some c=>match tH fs pc b ks w l idx n (Nat.succ j)with
   |some vs=>some (xH b c (hJ fs pc l (dJ w idx j)) idx j::vs)
   |none=>none
  |none=>none
def yJ(tb:Tab)(st:St)(t:TypeId)(b:Nat)(ks:List CK)(l idx:E)(j:Nat):EffR:=
 match iZ tb t with
 |some true=>match cI tb t with
  |some sz=>match tH tb.facts st.pc b ks (aP ks) l idx sz j with
   |some vs=>.val (.agg vs) st
   |none=>.bad
  |none=>.bad
 |some false=>match tH tb.facts st.pc b ks (aP ks) l idx 1 j with
  |some vs=>match vs with
   |[v]=>.val v st
   |_=>.bad
  |none=>.bad
 |none=>.bad
inductive NA where
 |at (cur p:E)
 |lack (e:E)
 |bad
def aez(e cur p:E):NA:=match (kA cur).beq (kA e)with | true=>.at cur p | false=>.bad
def rG(fs pc:List E)(h:T Blk)(b:Nat)(ks:List CK)(e idx:E)(c:Nat):NA:=
 match h.get b with
 |some ⟨true,.nest ks0 l n _ _ own⟩=>match dC ks0 c with
  |some (.slc ks')=>match gd ks ks' with
   |true=>match d4 fs pc idx with
    |true=>match gZ fs pc idx n with
     |true=>match gZ fs pc idx own with
      |true=>aez e (hJ fs pc l (dJ (aP ks0) idx c)) (dJ (aP ks0) idx c)
      |false=>.lack (aE .lss idx own)
     |false=>.lack (aE .lss idx n)
    |false=>.lack (bk (aE .lss idx (.int 0)))
   |false=>.bad
  |_=>.bad
 |_=>.bad
def yK(tb:Tab)(st:St)(t:TypeId)(x:SV):EffR:=
 match x with
 |.ptr b o=>match st.heap.get b with
  |some ⟨_,.flat ks l n _ _⟩=>match pb tb.facts st.pc (aP ks) n o with
   |.at idx j=>pp tb st t ks l idx j
   |.lack e=>.lack e
   |.bad=>.bad
  |some ⟨_,.nest ks l n _ _ own⟩=>match pb tb.facts st.pc (aP ks) n o with
   |.at idx j=>match gZ tb.facts st.pc idx own with
    |true=>yJ tb st t b ks l idx j
    |false=>match kz tb.facts st.pc idx own with
     |true=>pp tb st t ks l idx j
     |false=>.ask (aE .lss idx own)
   |.lack e=>.lack e
   |.bad=>.bad
  |_=>.bad
 |.bptr ks e idx j=>pp tb st t ks e idx j
 |.nptr b ks e idx c x j=>match rG tb.facts st.pc st.heap b ks e idx c with
  |.at cur _=>pp tb st t ks cur x j
  |.lack e=>.lack e
  |.bad=>.bad
 |_=>.bad
def jC(c:CK)(v:SV):Option E:=
 match c,v with
 |.int k,.int k' e=>match eU k k' with | true=>some e | false=>none
 |.bool,.bool e=>some e
 |.str,.str e=>some e
 |.slc ks,.bsl ks' e=>match gd ks ks' with | true=>some e | false=>none
 |.slc _,.nils=>some (.fn 30 (.int 0))
 |_,_=>none
def putCells(ks:List CK)(w:Nat)(idx:E):List SV->Nat->E->Option E
 |[],_,l=>some l
 |v::vs,j,l=>match dC ks j with
  |some c=>match jC c v with
   |some e=>putCells ks w idx vs (Nat.succ j) (i7 l (dJ w idx j) e)
   |none=>none
  |none=>none
def M1(c:CK)(v:SV):Bool:=
 match c,v with
 |.slc _,.nils=>true
 |.slc _,_=>false
 |_,_=>true
def Fx:List CK->Nat->List SV->Bool
 |_,_,[]=>true
 |ks,j,v::vs=>match dC ks j with
  |some c=>M1 c v&&Fx ks (Nat.succ j) vs
  |none=>false
def Nu(st:St)(b:Nat)(l':E):EffR:=
 match st.heap.get b with
 |some ⟨true,.nest ks _ n ag elem own⟩=>T.setK st.heap b ⟨true,.nest ks l' n ag elem own⟩ fun h=>.skip {st with heap:=h}
 |_=>.bad
def aeA(st:St)(b:Nat):E:=
 match st.heap.get b with
 |some ⟨_,.nest _ l _ _ _ _⟩=>l
 |_=>.int 0
def zB(tb:Tab)(st:St)(t:TypeId)(b:Nat)(ks:List CK)(x:E)(j:Nat)(v:SV)(cur p:E):EffR:=
 match cI tb t with
 |some sz=>match Nat.beq v.cells.length sz&&Nat.ble j (aP ks)with
  |true=>match putCells ks (aP ks) x v.cells j (tJ cur)with
   |some c'=>Nu st b (i7 (aeA st b) p (.fn 21 (.pr (kA cur) c')))
   |none=>.bad
  |false=>.bad
 |none=>.bad
def rZ(tb:Tab)(st:St)(t:TypeId)(x v:SV):EffR:=
 match x with
 |.nptr b ks e idx c x j=>match rG tb.facts st.pc st.heap b ks e idx c with
  |.at cur p=>zB tb st t b ks x j v cur p
  |.lack e=>.lack e
  |.bad=>.bad
 |.ptr b o=>match st.heap.get b with
  |some ⟨true,.flat ks l n ag elem⟩=>match pb tb.facts st.pc (aP ks) n o with
   |.at idx j=>match cI tb t with
    |some sz=>match Nat.beq v.cells.length sz with
     |true=>match putCells ks (aP ks) idx v.cells j l with
      |some l'=>T.setK st.heap b ⟨true,.flat ks l' n ag elem⟩ fun h=>.skip {st with heap:=h}
      |none=>.bad
     |false=>.bad
    |none=>.bad
   |.lack e=>.lack e
   |.bad=>.bad
  |some ⟨true,.nest ks l n ag elem own⟩=>match pb tb.facts st.pc (aP ks) n o with
   |.at idx j=>match cI tb t with
    |some sz=>match Nat.beq v.cells.length sz&&Fx ks j v.cells with
     |true=>match putCells ks (aP ks) idx v.cells j l with
      |some l'=>T.setK st.heap b ⟨true,.nest ks l' n ag elem own⟩ fun h=>.skip {st with heap:=h}
      |none=>.bad
     |false=>.bad
    |none=>.bad
   |.lack e=>.lack e
   |.bad=>.bad
  |_=>.bad
 |_=>.bad
def Cv(fs pc:List E)(o:Off)(sz:Nat)(i:E):Option Off:=
 match o.scale with
 |0=>some ⟨o.base,sz,i⟩
 |s=>match Nat.beq s sz with
  |true=>match d4 fs pc o.idx with
   |true=>some ⟨o.base,sz,dc o.idx i⟩
   |false=>none
  |false=>none
def lit(k:IntKind)(j:Nat):SV:=.int k (.int (.ofNat j))
def oU(tb:Tab)(st:St)(e:E)(n:Nat)(f:Nat->Option SV):EffR:=
 match zL tb.facts st.pc e n 0 with
 |.lit j=>.ofVal (f j) st
 |.ask e=>.ask e
 |.lack e=>.lack e
inductive BK where
 |cells | flat (n:E) | other
def Ek(st:St)(b:Nat):BK:=
 match st.heap.get b with
 |some ⟨_,.flat _ _ n _ _⟩=>.flat n
 |some ⟨_,.nest _ _ n _ _ _⟩=>.flat n
 |some ⟨_,.cells _ _ _⟩=>.cells
 |_=>.other
def pf(tb:Tab)(st:St)(e l:E)(k:EffR):EffR:=
 match d4 tb.facts st.pc e with
 |true=>match gZ tb.facts st.pc e l with
  |true=>k
  |false=>.lack (aE .lss e l)
 |false=>.lack (bk (aE .lss e (.int 0)))
def yk(tb:Tab)(st:St)(t:TypeId)(x i:SV):EffR:=
 match i with
 |.int k e=>match tb.und t with
  |some (.array len _)=>match x with
   |.ptr _ _=>oU tb st e len fun j=>pg tb t x (lit k j)
   |_=>.bad
  |some (.slice elem)=>match cI tb elem with
   |some sz=>match x with
    |.slice b o l _=>match Ek st b with
     |.flat _=>pf tb st e l (match Cv tb.facts st.pc o sz e with
      |some o'=>.val (.ptr b o') st
      |none=>.bad)
     |_=>match eG l with
      |some n=>oU tb st e n fun j=>pg tb t x (lit k j)
      |none=>.bad
    |.nslice b l _=>match Ek st b with
     |.flat n=>pf tb st e l (match gZ tb.facts st.pc e n with
      |true=>.val (.ptr b ⟨0,sz,e⟩) st
      |false=>.lack (aE .lss e n))
     |.cells=>match eG l with
      |some n=>oU tb st e n fun j=>match Nat.blt j n with
       |true=>some (.ptr b ⟨Nat.mul j sz,0,.int 0⟩)
       |false=>none
      |none=>.bad
     |.other=>.bad
    |.bsl ks y=>match Nat.beq (aP ks) sz&&Nat.blt 0 sz with
     |true=>pf tb st e (gH sz y) (.val (.bptr ks y e 0) st)
     |false=>.bad
    |.nsl b ks y idx c=>match Nat.beq (aP ks) sz&&Nat.blt 0 sz with
     |true=>match rG tb.facts st.pc st.heap b ks y idx c with
      |.at cur _=>pf tb st e (gH sz cur) (.val (.nptr b ks y idx c e 0) st)
      |.lack e=>.lack e
      |.bad=>.bad
     |false=>.bad
    |_=>.bad
   |none=>.bad
  |_=>.bad
 |_=>.bad
def yl(tb:Tab)(st:St)(t:TypeId)(x i:SV):EffR:=
 match i with
 |.int k e=>match tb.und t with
  |some (.array len _)=>oU tb st e len fun j=>tZ tb t x (lit k j)
  |_=>.bad
 |_=>.bad
def pm(tb:Tab)(st:St)(e:E):EffR:=
 match d4 tb.facts st.pc e with
 |true=>.val (.int .i64 e) st
 |false=>.lack (bk (aE .lss e (.int 0)))
def ul(tb:Tab)(st:St)(c:Bool)(t:TypeId)(x:SV):EffR:=
 match tb.und t with
 |some (.slice elem)=>match x with
  |.slice _ _ l m=>pm tb st (match c with | true=>m | false=>l)
  |.nslice _ l m=>pm tb st (match c with | true=>m | false=>l)
  |.bsl ks e=>match ks with
   |[]=>.bad
   |_=>pm tb st (match c with | true=>o5 e | false=>gH (aP ks) e)
  |.nsl b ks e idx j=>match ks with
   |[]=>.bad
   |_=>match rG tb.facts st.pc st.heap b ks e idx j with
    |.at cur _=>pm tb st (match c with | true=>o5 (kA cur) | false=>gH (aP ks) cur)
    |.lack e=>.lack e
    |.bad=>.bad
  |_=>.bad
 |some .string=>match c with
  |true=>.bad
  |false=>match x with
   |.str e=>.val (.int .i64 (.fn 13 e)) st
   |_=>.bad
 |some (.map _ _)=>match c with
  |true=>.bad
  |false=>match x with
  |.map b=>match st.heap.get b with
   |some ⟨_,.map es _⟩=>.val (.int .i64 (.int (.ofNat (aP es)))) st
   |some ⟨_,.mapl _ _ e⟩=>.val (.int .i64 (.fn 0 e)) st
   |_=>.bad
  |_=>.bad
 |_=>.bad
def da(fs pc:List E)(a b:E):Bool:=kz fs pc b a
def eJ(d:E):Option SV->Option E
 |none=>some d
 |some (.int _ e)=>some e
 |some _=>none
def Ks(fs pc:List E)(c lo hi mx:E)(hlo hhi hmx:Bool):Option E:=
 match hlo && !(d4 fs pc lo)with
 |true=>some (bk (aE .lss lo (.int 0)))
 |false=>match hhi && !(d4 fs pc hi)with
  |true=>some (bk (aE .lss hi (.int 0)))
  |false=>match hmx && !(d4 fs pc mx)with
   |true=>some (bk (aE .lss mx (.int 0)))
   |false=>match hmx && !(da fs pc mx c)with
    |true=>some (bk (aE .lss c mx))
    |false=>match hhi && !(da fs pc hi mx)with
     |true=>some (bk (aE .lss mx hi))
     |false=>match hlo && !(da fs pc lo hi)with
      |true=>some (bk (aE .lss hi lo))
      |false=>none
def gy:Option SV->Bool | some _=>true | none=>false
def EM(fs pc:List E)(lo hi mx:E):Option Bool:=
 match gZ fs pc lo hi&&da fs pc hi mx with
 |true=>some true
 |false=>match d7 fs pc (aE .eql mx lo)with
  |some true=>some false
  |some false=>some true
  |none=>none
def sn:E->Bool
 |.int (.ofNat n)=>Nat.beq n 0
 |_=>false
def KM(fs pc:List E)(len cap lo hi mx:E)(hlo hhi hmx:Bool):Option E:=
 match hlo && !(d4 fs pc lo)with
 |true=>some (bk (aE .lss lo (.int 0)))
 |false=>match hhi && !(d4 fs pc hi)with
  |true=>some (bk (aE .lss hi (.int 0)))
  |false=>match hmx && !(d4 fs pc mx)with
   |true=>some (bk (aE .lss mx (.int 0)))
   |false=>match hmx && !(da fs pc mx cap||da fs pc mx len)with
    |true=>some (bk (aE .lss len mx))
    |false=>match hhi && !(da fs pc hi len)with
     |true=>some (bk (aE .lss len hi))
     |false=>match hmx && !(da fs pc hi mx)with
      |true=>some (bk (aE .lss mx hi))
      |false=>match hlo && !(da fs pc lo hi)with
       |true=>some (bk (aE .lss hi lo))
       |false=>none
def ui(fs pc:List E):List E->E
 |[]=>.bool false
 |c::cs=>match d7 fs pc c with
  |some true=>ui fs pc cs
  |_=>c
def xP(tb:Tab)(st:St)(sz:Nat)(x:SV)(lo hi mx:E):EffR:=
 match x with
 |.nslice b _ c=>match sn lo with
  |true=>.val (.nslice b hi mx) st
  |false=>match EM tb.facts st.pc lo hi mx with
   |some false=>match da tb.facts st.pc hi mx&&da tb.facts st.pc lo hi with
    |true=>.val (.nslice b (.int 0) (.int 0)) st
    |false=>.lack (ui tb.facts st.pc [bk (aE .lss mx hi),bk (aE .lss hi lo)])
   |some true=>match st.heap.get b with
    |some ⟨_,.flat _ _ _ ag _⟩=>match da tb.facts st.pc c ag&&(da tb.facts st.pc mx c&&(d4 tb.facts st.pc lo&&(da tb.facts st.pc lo hi&&da tb.facts st.pc hi mx)))with
     |true=>.val (.slice b ⟨0,sz,lo⟩ (i6 hi lo) (i6 mx lo)) st
     |false=>.lack (ui tb.facts st.pc [bk (aE .lss ag c),bk (aE .lss c mx),bk (aE .lss lo (.int 0)),bk (aE .lss hi lo),bk (aE .lss mx hi)])
    |some ⟨_,.cells _ _ _⟩=>match eG lo with
     |some n=>match da tb.facts st.pc lo hi&&da tb.facts st.pc hi mx with
      |true=>.val (.slice b ⟨Nat.mul n sz,0,.int 0⟩ (i6 hi lo) (i6 mx lo)) st
      |false=>.bad
     |none=>.bad
    |_=>.bad
   |none=>.ask (aE .eql mx lo)
 |.slice b o _ _=>match sn lo with
  |true=>.val (.slice b o hi mx) st
  |false=>match EM tb.facts st.pc lo hi mx with
   |some false=>match da tb.facts st.pc hi mx&&da tb.facts st.pc lo hi with
    |true=>.val (.slice b o (.int 0) (.int 0)) st
    |false=>.bad
   |some true=>match d4 tb.facts st.pc lo&&(da tb.facts st.pc lo hi&&da tb.facts st.pc hi mx)with
    |true=>match eG lo with
     |some n=>.val (.slice b (qU o (Nat.mul n sz)) (i6 hi lo) (i6 mx lo)) st
     |none=>match Cv tb.facts st.pc o sz lo with
      |some o'=>.val (.slice b o' (i6 hi lo) (i6 mx lo)) st
      |none=>.bad
    |false=>.bad
   |none=>.ask (aE .eql mx lo)
 |_=>.bad
def L9:SV->Option (E×E)
 |.slice _ _ l c=>some (l,c)
 |.nslice _ l c=>some (l,c)
 |_=>none
def zv(tb:Tab)(st:St)(t:TypeId)(x:SV)(lo hi mx:Option SV):EffR:=
 match tb.und t with
 |some (.slice elem)=>match cI tb elem with
  |some sz=>match gy mx && !(gy hi)with
   |true=>.bad
   |false=>match x with
    |.bsl ks e=>match Nat.beq (aP ks) sz&&Nat.blt 0 sz with
     |true=>match eJ (.int 0) lo,eJ (gH sz e) hi,eJ (o5 e) mx with
      |some lo',some hi',some mx'=>match KM tb.facts st.pc (gH sz e) (o5 e) lo' hi' mx' (gy lo) (gy hi) (gy mx)with
       |some e=>.lack e
       |none=>.val (.bsl ks (.fn 24 (.pr (.pr (.int (.ofNat sz)) e) (.pr lo' (.pr hi' mx'))))) st
      |_,_,_=>.bad
     |false=>.bad
    |_=>match L9 x with
     |some (l,c)=>match eJ (.int 0) lo,eJ l hi,eJ c mx with
      |some lo',some hi',some mx'=>match Ks tb.facts st.pc c lo' hi' mx' (gy lo) (gy hi) (gy mx)with
       |some e=>.lack e
       |none=>xP tb st sz x lo' hi' mx'
      |_,_,_=>.bad
     |none=>.bad
  |none=>.bad
 |_=>.bad
def ga:List SV->List SV->Nat->Option E
 |[],[],0=>some (.bool true)
 |x::xs,y::ys,n+1=>match x,y with
  |.int k a,.int k' b=>match eU k k',ga xs ys n with
   |true,some e=>some (yV (aE .eql a b) e)
   |_,_=>none
  |_,_=>none
 |_,_,_=>none
def xW(tb:Tab)(t:TypeId)(x y:SV):Option E:=
 match tb.und t with
 |some (.array len elem)=>match tb.und elem with
  |some (.int _)=>match cI tb elem,iZ tb elem with
   |some 1,some false=>match x,y with
    |.agg xs,.agg ys=>ga xs ys len
    |_,_=>none
   |_,_=>none
  |_=>none
 |some .bool=>match x,y with
  |.bool a,.bool b=>EJ a b
  |_,_=>none
 |some (.int _)=>match x,y with
  |.int k a,.int k' b=>match eU k k' with
   |true=>some (aE .eql a b)
   |false=>none
  |_,_=>none
 |some .string=>match x,y with
  |.str a,.str b=>some (lT a b)
  |_,_=>none
 |_=>none
inductive FR where
 |at (i:Nat) (v:SV) (born:E)
 |no
 |ask (e:E)
 |bad
def o9(tb:Tab)(pc:List E)(kt:TypeId)(k:SV):List Ent->Nat->FR
 |[],_=>.no
 |x::es,i=>match xW tb kt k x.k with
  |some e=>match d7 tb.facts pc e with
   |some true=>.at i x.v x.born
   |some false=>o9 tb pc kt k es (Nat.succ i)
   |none=>.ask e
  |none=>.bad
def rx(tb:Tab)(kt:TypeId)(k:SV):Bool:=
 match xW tb kt k k with
 |some _=>true
 |none=>false
def jA(ok:Bool)(v:SV)(is:E):SV:=match ok with | true=>.tup [v,.bool is] | false=>v
def yL(tb:Tab)(st:St)(t:TypeId)(x k:SV)(ok:Bool):EffR:=
 match tb.und t with
 |some (.map kt vt)=>match iK tb vt,rx tb kt k with
  |some z,true=>match x with
   |.nilm=>.val (jA ok z (.bool false)) st
   |.map b=>match st.heap.get b with
    |some ⟨_,.map es _⟩=>match o9 tb st.pc kt k es 0 with
     |.at _ v _=>.val (jA ok v (.bool true)) st
     |.no=>.val (jA ok z (.bool false)) st
     |.ask e=>.ask e
     |.bad=>.bad
    |some ⟨_,.mapl k0 c e⟩=>match k,jC c z with
     |.int k1 ke,some ze=>match eU k1 k0 with
      |true=>.val (jA ok (nj c (.fn 32 (.pr e (.pr ke ze)))) (.fn 33 (.pr e ke))) st
      |false=>.bad
     |_,_=>.bad
    |_=>.bad
   |_=>.bad
  |_,_=>.bad
 |_=>.bad
def Df(tb:Tab)(tmps:Tm)(st:St)(t:TypeId)(x:Operand):EffR:=
 match bI tmps x with
  |some v=>match ut tb st t v with
   |some u=>.val u st
   |none=>yK tb st t v
  |none=>.bad
def Dj(tb:Tab)(tmps:Tm)(st:St)(t:TypeId)(x:Operand)(y:Operand):EffR:=
 match bI tmps x,bI tmps y with
  |some v,some w=>match Ga tb st t v w with
   |some st'=>.skip st'
   |none=>rZ tb st t v w
  |_,_=>.bad
def De(tb:Tab)(tmps:Tm)(st:St)(t:TypeId)(x:Operand)(i:Operand):EffR:=
 match bI tmps x,bI tmps i with
  |some v,some w=>yk tb st t v w
  |_,_=>.bad
def Dd(tb:Tab)(tmps:Tm)(st:St)(t:TypeId)(x:Operand)(i:Operand):EffR:=
 match bI tmps x,bI tmps i with
  |some v,some w=>yl tb st t v w
  |_,_=>.bad
def Dc(tb:Tab)(tmps:Tm)(st:St)(c:Call):EffR:=
 match c.callee with
  |.builtin b=>match dC c.argTypes.toList 0,iW (bI tmps) c.args.toList with
   |some t,some vs=>match dC vs 0 with
    |some v=>match b with
     |.len=>ul tb st false t v
     |.cap=>ul tb st true t v
     |_=>.bad
    |none=>.bad
   |_,_=>.bad
  |_=>.bad
def Di(tb:Tab)(tmps:Tm)(st:St)(t:TypeId)(x:Operand)(lo:Option Operand)(hi:Option Operand)(mx:Option Operand):EffR:=
 match bI tmps x,o7 (bI tmps) lo,o7 (bI tmps) hi,o7 (bI tmps) mx with
  |some v,some l,some h,some m=>zv tb st t v l h m
  |_,_,_,_=>.bad
def Dg(tb:Tab)(tmps:Tm)(st:St)(t:TypeId)(x:Operand)(k:Operand)(ok:Bool):EffR:=
 match bI tmps x,bI tmps k with
  |some v,some w=>yL tb st t v w ok
  |_,_=>.bad
def Da(tb:Tab)(tmps:Tm)(st:St)(elem:TypeId)(x:Operand):EffR:=
 match bI tmps x with
  |some v=>.ofPair (rH tmps st elem v.cells)
  |none=>.bad
def C8(tb:Tab)(tmps:Tm)(st:St)(elem:TypeId):EffR:=
 match iK tb elem with
  |some v=>.ofPair (rH tmps st elem v.cells)
  |none=>.bad
def Db(tb:Tab)(tmps:Tm)(st:St)(t:TypeId)(len:Nat)(parts:Array (Nat×Operand)):EffR:=
 match tb.und t,nz (bI tmps) parts.toList with
  |some (.slice elem),some ps=>match cI tb elem,iK tb elem with
   |some sz,some z=>if Nat.ble (Nat.mul len sz) 16777216&&Nat.beq z.cells.length sz then match lH (fun i=>some (Nat.mul i sz,sz)) (lZ z.cells len) ps with
    |some cs=>match rH tmps st elem cs with
     |some (.ptr b o,st')=>.val (.slice b o (.int (.ofNat len)) (.int (.ofNat len))) st'
     |_=>.bad
    |none=>.bad
    else .bad
   |_,_=>.bad
  |_,_=>.bad
def shF(tb:Tab)(st:St)(op:BinOp)(k:IntKind)(a b:E):EffR:=
 match d7 tb.facts st.pc (aE .lss b (.int 0))with
 |some false=>.val (.int k (iC op k a b)) st
 |_=>.lack (bk (aE .lss b (.int 0)))
def afD(tb:Tab)(st:St)(op:BinOp)(k:IntKind)(a:E)(k':IntKind)(b:E):EffR:=
 match eU k k' with
 |true=>match d7 tb.facts st.pc (aE .eql b (.int 0))with
  |some false=>match op with
   |.quo=>.val (.int k (iC .quo k a b)) st
   |.rem=>.val (.int k (iC .rem k a b)) st
   |_=>.bad
  |_=>match op with
   |.quo=>.lack (bk (aE .eql b (.int 0)))
   |.rem=>.lack (bk (aE .eql b (.int 0)))
   |_=>.bad
 |false=>.bad
def rb(tb:Tab)(st:St)(op:BinOp)(k:IntKind)(a:E)(k':IntKind)(b:E):EffR:=
 .bad
def C9(tb:Tab)(tmps:Tm)(st:St)(op:BinOp)(t:TypeId)(x:Operand)(y:Operand):EffR:=
 match bI tmps x,bI tmps y with
  |some (.int k a),some (.int k' b)=>rb tb st op k a k' b
  |some (.ptr a i),some (.ptr b j)=>
   match tb.und t with
   |some (.pointer elem)=>match cI tb elem with
    |some (Nat.succ _)=>match st.heap.get a,st.heap.get b,fU i,fU j with
     |some ⟨own1,.cells (_::_) _ _⟩,some ⟨own2,.cells (_::_) _ _⟩,some m,some n=>
      match own1||own2 with
      |true=>match op with
       |.eql=>.val (.bool (.bool (Nat.beq a b&&Nat.beq m n))) st
       |.neq=>.val (.bool (.bool (!(Nat.beq a b&&Nat.beq m n)))) st
       |_=>.bad
      |false=>.bad
     |_,_,_,_=>.bad
    |_=>.bad
   |_=>.bad
  |_,_=>.bad
def Dh(tb:Tab)(tmps:Tm)(st:St)(c:Operand)(a:Operand)(b:Operand):EffR:=
 match bI tmps c with
  |some (.bool e)=>match d7 tb.facts st.pc e with
   |some true=>.ofVal (bI tmps a) st
   |some false=>.ofVal (bI tmps b) st
   |none=>.ask e
  |_=>.bad
noncomputable def nw(tb:Tab)(tmps:Tm)(st:St)(o:Op):EffR:=
 Op.rec (motive:=fun _=>EffR)
  (fun _=>.bad)
  (fun _=>.bad)
  (fun c a b=>Dh tb tmps st c a b)
  (fun elem=>C8 tb tmps st elem)
  (fun elem x=>Da tb tmps st elem x)
  (fun _ _=>.bad)
  (fun t len parts=>Db tb tmps st t len parts)
  (fun _ _ _ _=>.bad)
  (fun t x=>Df tb tmps st t x)
  (fun t x y=>Dj tb tmps st t x y)
  (fun _=>.bad)
  (fun _=>.bad)
  (fun _=>.bad)
  (fun op t x y _=>C9 tb tmps st op t x y)
  (fun _ _ _=>.bad)
  (fun _ _ _=>.bad)
  (fun _ _=>.bad)
  (fun _ _=>.bad)
  (fun _ _ _=>.bad)
  (fun _ _=>.bad)
  (fun _ _=>.bad)
  (fun _ _ _=>.bad)
  (fun t x lo hi mx=>Di tb tmps st t x lo hi mx)
  (fun _ _ _=>.bad)
  (fun _ _ _=>.bad)
  (fun t x i=>De tb tmps st t x i)
  (fun t x i=>Dd tb tmps st t x i)
  (fun t x k ok=>Dg tb tmps st t x k ok)
  (fun _ _ _ _=>.bad)
  (fun _ _ _=>.bad)
  (fun _ _ _ _=>.bad)
  (fun _ _=>.bad)
  (fun _ _=>.bad)
  (fun _=>.bad)
  (fun _ _ _ _=>.bad)
  (fun _ _=>.bad)
  (fun c=>Dc tb tmps st c)
  (fun _=>.bad)
  (fun _=>.bad)
  (fun _=>.bad)
  (fun _ _=>.bad)
  (fun _ _ _=>.bad)
  (fun _ _=>.bad)
  o
theorem abn(tb:Tab)(tmps:Tm)(st:St)(o:Op):nw tb tmps st o=(match o with
 |.load t x=>Df tb tmps st t x
 |.store t x y=>Dj tb tmps st t x y
 |.indexAddr t x i=>De tb tmps st t x i
 |.index t x i=>Dd tb tmps st t x i
 |.call c=>Dc tb tmps st c
 |.slice t x lo hi mx=>Di tb tmps st t x lo hi mx
 |.lookup t x k ok=>Dg tb tmps st t x k ok
 |.box elem x=>Da tb tmps st elem x
 |.alloc elem=>C8 tb tmps st elem
 |.buildSlice t len parts=>Db tb tmps st t len parts
 |.binOp op t x y _=>C9 tb tmps st op t x y
 |.pick c a b=>Dh tb tmps st c a b
 |_=>.bad):=by cases o<;>rfl
def acS(f:TypeId->Option (List CK)):List Field->Option (List CK)
 |[]=>some []
 |fd::fds=>match f fd.type,acS f fds with
  |some a,some b=>some (a++b)
  |_,_=>none
def nO(l:List CK):Nat->List CK
 |0=>[]
 |n+1=>l++nO l n
def yE(tb:Tab):Nat->TypeId->Option (List CK)
 |0,_=>none
 |d+1,t=>match tb.und t with
  |some (.int k)=>some [.int k]
  |some .bool=>some [.bool]
  |some .string=>some [.str]
  |some (.slice e)=>match yE tb d e with
   |some ks=>some [.slc ks]
   |none=>none
  |some (.struct fs)=>acS (yE tb d) fs.toList
  |some (.array n e)=>match yE tb d e with
   |some ks=>some (nO ks n)
   |none=>none
  |_=>none
def rk:List CK->List SV->Option (List E)
 |[],[]=>some []
 |c::cs,v::vs=>match jC c v,rk cs vs with
  |some e,some l=>some (e::l)
  |_,_=>none
 |_,_=>none
def EA(ks:List CK)(n:Nat)(vs:List SV):Option E:=
 match rk (nO ks n) vs with
 |some l=>some (cL l)
 |none=>none
inductive Held where
 |cells (vs:List SV)
 |list (ks:List CK) (l n:E)
def vk(w:Nat)(l n lo len:E):E:=
 match sn lo&&len.beq n with
 |true=>l
 |false=>match w with
  |1=>.fn 4 (.pr l (.pr lo (dc lo len)))
  |_=>match sn lo with
   |true=>.fn 18 (.pr l (.fn 8 (.pr len (.int (.ofNat w)))))
   |false=>.fn 4 (.pr l (.pr (.fn 8 (.pr lo (.int (.ofNat w)))) (.fn 8 (.pr (dc lo len) (.int (.ofNat w))))))
def E4(w:Nat)(o:Off):Option E:=
 match o.scale with
 |0=>match Nat.beq (Nat.mod o.base w) 0 with
  |true=>some (.int (.ofNat (Nat.div o.base w)))
  |false=>none
 |s=>match Nat.beq s w&&Nat.beq o.base 0 with
  |true=>some o.idx
  |false=>none
def C4(tb:Tab)(st:St)(sz:Nat)(v:SV):Option Held:=
 match v with
 |.nils=>some (.cells [])
 |.bsl ks e=>match Nat.beq (aP ks) sz&&Nat.blt 0 sz with
  |true=>some (.list ks e (gH sz e))
  |false=>none
 |.slice b o len _=>match st.heap.get b with
  |some ⟨_,.cells cs _ _⟩=>match eG len,fU o with
   |some n,some m=>match jP (rc cs m) (Nat.mul n sz)with
    |some l=>match oT l with
     |true=>some (.cells l)
     |false=>none
    |none=>none
   |_,_=>none
  |some ⟨_,.flat ks l n _ _⟩=>match Nat.beq (aP ks) sz&&Nat.blt 0 sz,E4 sz o with
   |true,some lo=>match d4 tb.facts st.pc lo&&(d4 tb.facts st.pc len&&da tb.facts st.pc (dc lo len) n)with
    |true=>some (.list ks (vk sz l n lo len) len)
    |false=>none
   |_,_=>none
  |_=>none
 |.nslice b len _=>match st.heap.get b with
  |some ⟨_,.cells cs _ _⟩=>match eG len with
   |some n=>match jP cs (Nat.mul n sz)with
    |some l=>match oT l with
     |true=>some (.cells l)
     |false=>none
    |none=>none
   |none=>none
  |some ⟨_,.flat ks l n _ _⟩=>match Nat.beq (aP ks) sz&&Nat.blt 0 sz with
   |true=>match d4 tb.facts st.pc len&&da tb.facts st.pc len n with
    |true=>some (.list ks (vk sz l n (.int 0) len) len)
    |false=>none
   |false=>none
  |_=>none
 |_=>none
def oh(tmps:Tm)(st:St):Bool:=st.scp&&jg st.nv st.nb tmps
def GD(sz:Nat)(c:E):E:=match sz with | 1=>c | _=>.fn 8 (.pr c (.int (.ofNat sz)))
def aeR(sz:Nat)(elem:TypeId)(ct:Held)(c:E):SObj:=
 match ct with
 |.cells vs=>.cells vs (GD sz c) elem
 |.list ks l n=>.flat ks l n c elem
def Held.scp(nv nb:Nat):Held->Bool
 |.cells vs=>SV.scps nv nb vs
 |.list _ l n=>l.scp nv&&n.scp nv
def pe(tmps:Tm)(st:St)(sz:Nat)(elem:TypeId)(ct:Held)(need:E):Option (SV×St):=
 let c:=E.var st.nv
 match oh tmps st&&(need.scp st.nv&&ct.scp st.nv st.nb)with
 |true=>T.insK st.heap st.nb ⟨true,aeR sz elem ct c⟩ fun h=>some (.nslice st.nb need c,⟨Nat.succ st.nv,Nat.succ st.nb,h,bk (aE .lss c need)::bk (aE .lss c (.int 0))::st.pc⟩)
 |false=>none
def M4(l l':E):E:=
 match Eg l with
 |true=>l'
 |false=>.fn 3 (.pr l l')
def Kk(sz:Nat)(n m:Option Nat)(a b:Held):Option Held:=
 match a,b with
 |.cells x,.cells y=>some (.cells (x++y))
 |.list ks l n,.list ks' l' n'=>match gd ks ks' with
  |true=>some (.list ks (EI l l') (dc n n'))
  |false=>none
 |.list ks l n,.cells y=>match m with
  |some m=>match EA ks m y with
   |some l'=>some (.list ks (EI l l') (dc n (.int (.ofNat m))))
   |none=>none
  |none=>none
 |.cells x,.list ks l' n'=>match n with
  |some n=>match EA ks n x with
   |some l=>some (.list ks (M4 l l') (dc (.int (.ofNat n)) n'))
   |none=>none
  |none=>none
def ry(sz:Nat)(v:SV):Option E:=
 match v with
 |.nils=>some (.int 0)
 |.slice _ _ l _=>some l
 |.nslice _ l _=>some l
 |.bsl _ e=>some (gH sz e)
 |_=>none
def qY(v:SV):Option E:=
 match v with
 |.nils=>some (.int 0)
 |.slice _ _ _ c=>some c
 |.nslice _ _ c=>some c
 |.bsl _ e=>some (o5 e)
 |_=>none
inductive Eff2 where
 |val (v:SV) (st:St)
 |skip (st:St)
 |ask (e:E)
 |lack (e:E)
 |bad
def iV:E:=.int 2147483648
def zH(sz:Nat)(c ag:E):Bool:=
 match eG c with
 |some n=>(E.int (.ofNat (Nat.mul n sz))).beq ag
 |none=>(GD sz c).beq ag
def GN(st:St)(sz:Nat)(elem:TypeId)(v:SV):Option Nat:=
 match v with
 |.nslice b _ c=>match st.heap.get b with
  |some ⟨true,.flat ks _ _ ag e⟩=>match c.beq ag&&(Nat.beq (aP ks) sz&&Nat.beq e elem)with | true=>some b | false=>none
  |some ⟨true,.cells _ ag e⟩=>match zH sz c ag&&Nat.beq e elem with | true=>some b | false=>none
  |_=>none
 |.slice b o _ c=>match fU o with
  |some 0=>match st.heap.get b with
   |some ⟨true,.cells _ ag e⟩=>match zH sz c ag&&Nat.beq e elem with | true=>some b | false=>none
   |_=>none
  |_=>none
 |_=>none
def Kv(tb:Tab)(t:TypeId):Option Nat:=
 match tb.ty.get t with
 |some i=>some i.bytes
 |none=>none
def y5(old:SObj)(ct:Held):Option SObj:=
 match old,ct with
 |.cells _ ag e,.cells vs=>some (.cells vs ag e)
 |.flat _ _ _ ag e,.list ks l n=>some (.flat ks l n ag e)
 |_,_=>none
def acm(old:SObj)(ct:Held):Bool:=
 match old,ct with
 |.cells _ _ _,_=>true
 |.flat _ _ _ _ _,.list _ _ _=>true
 |_,_=>false
def GA(tmps:Tm)(st:St)(b:Nat)(sz:Nat)(elem:TypeId)(ct:Held)(need:E):Option (SV×St):=
 match st.heap.get b with
 |some ⟨_,old⟩=>match acm old ct with
  |true=>T.setK st.heap b ⟨true,.gone⟩ fun h=>pe tmps {st with heap:=h} sz elem ct need
  |false=>none
 |none=>none
def t8:SV->Bool
 |.bsl _ _=>true
 |_=>false
def Eff2.ofPair:Option (SV×St)->Eff2
 |some (v,st)=>.val v st
 |none=>.bad
def Ei(tb:Tab)(t:TypeId):Bool:=
 match tb.und t with
 |some (.slice _)=>true
 |_=>false
def ot(fs pc:List E)(e:E):Bool:=
 match sn e with
 |true=>true
 |false=>match d7 fs pc (aE .eql e (.int 0))with
  |some true=>true
  |_=>false
def aHQ(fs pc:List E)(ls lx c:E):E:=
 match d4 fs pc ls with
 |false=>bk (aE .lss ls (.int 0))
 |true=>match d4 fs pc lx with
  |false=>bk (aE .lss lx (.int 0))
  |true=>bk (aE .lss c (.int 0))
def vw:E:=.iff (.bool true) (.bool true)
def Oq(fs pc:List E)(s:SV)(c:E)(ct:Held):Bool:=
 match ct with
 |.list _ _ _=>match s with
  |.nils=>ph vw fs
  |.bsl _ _=>match ph vw fs with | true=>ot fs pc c | false=>false
  |_=>false
 |_=>false
def xw(tb:Tab)(tmps:Tm)(st:St)(elem:TypeId)(sz:Nat)(s:SV)(a b:Held)(ls lx c:E):Eff2:=
  match Kk sz (eG ls) (eG lx) a b with
  |some ct=>
    let need:=dc ls lx
    match d4 tb.facts st.pc ls&&(d4 tb.facts st.pc lx&&d4 tb.facts st.pc c)with
    | true=>match da tb.facts st.pc need iV with
      | true=>match d7 tb.facts st.pc (aE .lss c need)with
        |some true=> .ofPair (pe tmps st sz elem ct need)
        | some false=>match !(ph vw tb.facts)&&ot tb.facts st.pc lx with
          |true=> .val s st
          | false=>match GN st sz elem s with
            | some b=>match st.heap.get b with
              | some ⟨_,old⟩=>match y5 old ct with
                |some obj=>T.setK st.heap b ⟨true,obj⟩ fun h=> .val (.nslice b need c) {st with heap:=h}
                |none=> .lack (aE .eql lx (.int 0))
              |none=> .lack (aE .eql lx (.int 0))
            | none=>match ot tb.facts st.pc lx with
              |true=> .val s st
              |false=> .lack (aE .eql lx (.int 0))
        | none=>match GN st sz elem s with
          |some b=> .ofPair (GA tmps st b sz elem ct need)
          |none=>match Oq tb.facts st.pc s c ct with
           |true=> .ofPair (pe tmps st sz elem ct need)
           |false=>match t8 s with
            | true=>match d7 tb.facts st.pc (aE .eql lx (.int 0))with
              |some true=> .val s st
              |some false=> .lack (aE .lss c need)
              |none=> .ask (aE .eql lx (.int 0))
            | false=>match s with
              | .nils=>match d7 tb.facts st.pc (aE .eql lx (.int 0))with
                |some true=> .val s st
                |some false=> .lack (aE .lss c need)
                |none=> .ask (aE .eql lx (.int 0))
              |_=> .ask (aE .lss c need)
      |false=> .lack (bk (aE .lss iV need))
    |false=> .lack (aHQ tb.facts st.pc ls lx c)
  |none=> .bad
def aa7(tb:Tab)(st:St)(sz:Nat)(v:SV):Option E:=
 match v with
 |.nslice b len _=>match st.heap.get b with
  |some ⟨_,o⟩=>match o with
   |.flat _ _ n _ _=>some (ui tb.facts st.pc [bk (aE .lss len (.int 0)),bk (aE .lss n len)])
   |_=>none
  |none=>none
 |.slice b off len _=>match st.heap.get b with
  |some ⟨_,o⟩=>match o with
   |.flat _ _ n _ _=>match E4 sz off with
    |some lo=>some (ui tb.facts st.pc [bk (aE .lss lo (.int 0)),bk (aE .lss len (.int 0)),bk (aE .lss n (dc lo len))])
    |none=>none
   |_=>none
  |none=>none
 |_=>none
def En(x:Option E):Eff2:=
 match x with
 |some e=>.lack e
 |none=>.bad
def ah9(tb:Tab)(st:St)(elem xt:TypeId)(z x:SV):Option (Held×E):=
 none
def aNR(tb:Tab)(st:St)(x:SV):Option E:=
 match x with
 |.int .i64 n=>match eG n with
  |some _=>none
  |none=>some (ui tb.facts st.pc [bk (aE .lss n (.int 0)),bk (aE .lss (.int 4096) n)])
 |_=>none
def tw(tb:Tab)(tmps:Tm)(st:St)(t xt:TypeId)(s x:SV):Eff2:=
 match tb.und t with
 |some (.slice elem)=>match cI tb elem,Kv tb elem,iK tb elem with
  |some sz,some bytes,some z=>match Nat.blt 0 bytes&&(Nat.ble bytes 32768&&(Nat.blt 0 sz&&Nat.beq z.cells.length sz))with
   |true=>match C4 tb st sz s,ry sz s,qY s with
    |some a,some ls,some c=>match Ei tb xt with
     |true=>match C4 tb st sz x,ry sz x with
      |some b,some lx=>xw tb tmps st elem sz s a b ls lx c
      |_,_=>En (aa7 tb st sz x)
     |false=>match ah9 tb st elem xt z x with
      |some (b,lx)=>xw tb tmps st elem sz s a b ls lx c
      |none=>En (aNR tb st x)
    |_,_,_=>En (aa7 tb st sz s)
   |false=>.bad
  |_,_,_=>.bad
 |_=>.bad
def adg(tb:Tab)(tmps:Tm)(st:St)(t:TypeId)(n c:SV):Eff2:=
 .bad
def FF(st:St)(b off:Nat)(ws:List SV)(v:SV):Eff2:=
 match st.heap.get b with
 |some ⟨true,.cells cs ag e⟩=>match nX cs off ws with
  |some cs'=>T.setK st.heap b ⟨true,.cells cs' ag e⟩ fun h=>.val v {st with heap:=h}
  |none=>.bad
 |_=>.bad
def aa9(tb:Tab)(st:St)(t xt:TypeId)(d s:SV):Eff2:=
 .bad
def Nd(fs pc:List E)(m:Nat)(ag:E):Bool:=
 match da fs pc (.int (.ofNat m)) ag with
 |true=>true
 |false=>match ag with
  |.fn f (.pr c (.int (.ofNat k)))=>match Nat.beq f 8,Nat.blt 0 k with
   |true,true=>da fs pc (.int (.ofNat (Nat.div (Nat.pred (Nat.add m k)) k))) c
   |_,_=>false
  |_=>false
def C1(tb:Tab)(st:St)(elem:TypeId)(b:Nat)(o:Off)(z:SV):Eff2:=
 match Ga tb st elem (.ptr b o) z with
 |some st'=>.val .undef st'
 |none=>match rZ tb st elem (.ptr b o) z with
  |.skip st'=>.val .undef st'
  |.ask e=>.ask e
  |.lack e=>.lack e
  |_=>.bad
def tI(tb:Tab)(st:St)(elem:TypeId)(b:Nat)(o:Off):Eff2:=
 match cI tb elem,iK tb elem with
 |some sz,some z=>match Nat.beq z.cells.length sz&&oT z.cells with
  |true=>match st.heap.get b with
   |some ⟨true,.cells cs ag e'⟩=>match fU o with
    |some off=>match Nat.ble cs.length off with
     |true=>match Nd tb.facts st.pc (Nat.add off z.cells.length) ag with
      |true=>T.setK st.heap b ⟨true,.cells cs ag e'⟩ fun h=>.val .undef {st with heap:=h}
      |false=>.lack (bk (aE .lss ag (.int (.ofNat (Nat.add off z.cells.length)))))
     |false=>C1 tb st elem b o z
    |none=>.bad
   |some ⟨true,.flat ks l n ag e'⟩=>match pb tb.facts st.pc (aP ks) ag o with
    |.at idx j=>match Nat.beq j 0&&(Nat.beq z.cells.length (aP ks)&&da tb.facts st.pc n idx)with
     |true=>T.setK st.heap b ⟨true,.flat ks l n ag e'⟩ fun h=>.val .undef {st with heap:=h}
     |false=>C1 tb st elem b o z
    |.lack e=>.lack e
    |.bad=>.bad
   |_=>.bad
  |false=>.bad
 |_,_=>.bad
def zp(zc:List SV):Nat->List SV
 |0=>[]
 |m+1=>zc++zp zc m
def xL(tb:Tab)(st:St)(elem:TypeId)(b off m:Nat):Eff2:=
 match iK tb elem with
 |some z=>match oT z.cells with
  |true=>FF st b off (zp z.cells m) .undef
  |false=>.bad
 |none=>.bad
def C2(tb:Tab)(st:St)(t:TypeId)(v:SV):Eff2:=
 match tb.und t with
 |some (.slice elem)=>match v with
  |.slice b o n _=>match eG n with
   |some m=>match m with
    |0=>.val .undef st
    |k+1=>match k with
     |0=>tI tb st elem b o
     |_+1=>match fU o with
      |some off=>xL tb st elem b off m
      |none=>.bad
   |none=>match d7 tb.facts st.pc (aE .eql n (.int 1))with
    |some true=>tI tb st elem b o
    |_=>.lack (aE .eql n (.int 1))
  |.nslice b n _=>match st.heap.get b,eG n with
   |some ⟨true,.cells _ _ _⟩,some m=>match m with
    |0=>.val .undef st
    |k+1=>match k with
     |0=>tI tb st elem b ⟨0,0,.int 0⟩
     |_+1=>xL tb st elem b 0 m
   |_,_=>.bad
  |.nils=>.val .undef st
  |_=>.bad
 |_=>.bad
def mf(es:List Ent)(i:Nat)(v:SV):List Ent:=
 match es with
 |[]=>[]
 |x::es=>match i with
  |0=>⟨x.k,v,x.born⟩::es
  |i+1=>x::mf es i v
def C6(es:List Ent)(i:Nat):List Ent:=
 match es with
 |[]=>[]
 |e::es=>match i with
  |0=>es
  |i+1=>e::C6 es i
def uU(st:St)(b:Nat)(es:List Ent)(clk:E):St:=T.setK st.heap b ⟨true,.map es clk⟩ fun h=>{st with heap:=h}
def zk(st:St)(b:Nat)(k:IntKind)(c:CK)(e:E):St:=T.setK st.heap b ⟨true,.mapl k c e⟩ fun h=>{st with heap:=h}
def yO(tb:Tab)(st:St)(t:TypeId)(x k v:SV):Eff2:=
 match tb.und t with
 |some (.map kt _)=>match x,rx tb kt k with
  |.map b,true=>match st.heap.get b with
   |some ⟨true,.map es clk⟩=>match o9 tb st.pc kt k es 0 with
    |.at i _ _=>.skip (uU st b (mf es i v) clk)
    |.no=>.skip (uU st b (es++[⟨k,v,clk⟩]) (dc clk (.int 1)))
    |.ask e=>.ask e
    |.bad=>.bad
   |some ⟨true,.mapl k0 c e⟩=>match k,jC c v with
    |.int k1 ke,some ve=>match eU k1 k0 with
     |true=>.skip (zk st b k0 c (.fn 34 (.pr e (.pr ke ve))))
     |false=>.bad
    |_,_=>.bad
   |_=>.bad
  |_,_=>.bad
 |_=>.bad
def M7(st:St)(b:Nat)(k:IntKind)(c:CK)(e ke s:E):St:=T.setK st.heap b ⟨true,.maplp k c e ke s⟩ fun h=>{st with heap:=h}
def FK(e ke ve:E):E:=
 match e with
 |.fn 34 (.pr e0 (.pr ke0 _))=>match ke0.beq ke with
  |true=>.fn 34 (.pr e0 (.pr ke ve))
  |false=>.fn 34 (.pr e (.pr ke ve))
 |e=>.fn 34 (.pr e (.pr ke ve))
def ED(tb:Tab)(tmps:Tm)(st:St)(t:TypeId)(x k:SV):Eff2:=
 match tb.und t with
 |some (.map kt vt)=>match x,rx tb kt k with
  |.map b,true=>match st.heap.get b with
   |some ⟨true,.map es clk⟩=>match o9 tb st.pc kt k es 0 with
    |.at _ v s=>.val (.tup [v,.int .i64 s]) st
    |.no=>match iK tb vt with
     |some z=>.val (.tup [z,.int .i64 clk]) (uU st b (es++[⟨k,z,clk⟩]) (dc clk (.int 1)))
     |none=>.bad
    |.ask e=>.ask e
    |.bad=>.bad
   |some ⟨true,.mapl k0 c e⟩=>match iK tb vt with
    |some z=>match k,jC c z with
     |.int k1 ke,some ze=>match eU k1 k0,oh tmps st&&ke.scp st.nv with
      | true,true=>.val (.tup [nj c (.fn 32 (.pr e (.pr ke ze))),.int .i64 (.var st.nv)])
        (M7 {st with nv:=Nat.succ st.nv} b k0 c (.fn 34 (.pr e (.pr ke (.fn 32 (.pr e (.pr ke ze)))))) ke (.var st.nv))
      |_,_=>.bad
     |_,_=>.bad
    |none=>.bad
   |_=>.bad
  |_,_=>.bad
 |_=>.bad
def x8(s:E):List Ent->Nat->Option Nat
 |[],_=>none
 |x::es,i=>match x.born.beq s with
  |true=>some i
  |false=>x8 s es (Nat.succ i)
def Dk(st:St)(x s v:SV):Eff2:=
 match x,s with
 |.map b,.int _ s=>match st.heap.get b with
  |some ⟨true,.map es clk⟩=>match x8 s es 0 with
   |some i=>.skip (uU st b (mf es i v) clk)
   |none=>.bad
  |some ⟨true,.maplp k0 c e ke s0⟩=>match s0.beq s,jC c v with
   |true,some ve=>.skip (zk st b k0 c (FK e ke ve))
   |_,_=>.bad
  |_=>.bad
 |_,_=>.bad
def abi(tb:Tab)(st:St)(t:TypeId)(x k:SV):Eff2:=
 .bad
def pi(tb:Tab)(tmps:Tm)(st:St)(v:SV)(yes:Bool):Eff2:=
 match v with
 |.nslice b len _=>match st.heap.get b with
  |some ⟨_,.cells _ _ _⟩=>.val (.bool (.bool (!yes))) st
  |some ⟨_,.flat _ _ n ag _⟩=>match gZ tb.facts st.pc (.int 0) ag||gZ tb.facts st.pc (.int 0) n with
   |true=>.val (.bool (.bool (!yes))) st
   |false=>match oh tmps st&&n.scp st.nv with
    |true=>.val (.bool (match yes with | true=>.var st.nv | false=>.not (.var st.nv))) {st with nv:=Nat.succ st.nv,pc:=.imp (.var st.nv) (aE .eql n (.int 0))::st.pc}
    |false=>.bad
  |_=>.bad
 |.bsl ks e=>match Nat.blt 0 (aP ks)with
  | true=>.val (.bool (match yes with | true=>.fn 31 e | false=>.not (.fn 31 e))) (match yZ (gH (aP ks) e)with
    |true=>{st with pc:=.imp (.fn 31 e) (aE .eql (gH (aP ks) e) (.int 0))::.imp (.fn 31 e) (aE .eql (.fn 0 e) (.int 0))::st.pc}
    |false=>st)
  |false=>.bad
 |_=>.bad
def ub:SV->Bool
 |.nils=>true
 |_=>false
def agI(tb:Tab)(tmps:Tm)(st:St)(src dst:TypeId)(v:SV):Eff2:=
 .bad
def afE(tb:Tab)(tmps:Tm)(st:St)(t:TypeId)(x:SV):Eff2:=
 .bad
def aeE(tb:Tab)(tmps:Tm)(st:St)(x:SV)(str:Bool):Eff2:=
 .bad
def KO(st:St)(x:SV):Eff2:=
 match x with
 |.ptr b o=>match fU o with
  |some 0=>match st.heap.get b with
   |some ⟨true,.iter k c e _ (some u)⟩=>.val (.tup [.int k u,nj c (.fn 32 (.pr e (.pr u (.int 0))))]) st
   |_=>.bad
  |_=>.bad
 |_=>.bad
def Lm(tb:Tab)(tmps:Tm)(st:St)(t:TypeId)(x:Operand):Eff2:=
 match bI tmps x with
  |some v=>afE tb tmps st t v
  |none=>.bad
def Ll(tb:Tab)(tmps:Tm)(st:St)(x:Operand)(str:Bool):Eff2:=
 match bI tmps x with
  |some v=>aeE tb tmps st v str
  |none=>.bad
def Le(tb:Tab)(tmps:Tm)(st:St)(x:Operand):Eff2:=
 match bI tmps x with
  |some v=>KO st v
  |none=>.bad
def DO(st:St)(n len cap ag l:E):Bool:=
 n.beq len&&(cap.beq ag&&(st.scp&&(l.scp st.nv&&(len.scp st.nv&&cap.scp st.nv))))
def yb(ks0:List CK)(fs:List E)(p:SV×St):SV×St:=
 match p.1 with
 |.nils=>(.bsl ks0 (.fn 30 (.int 0)),p.2)
 |.nslice _ (.int 0) (.int 0)=>match p.2.scp with
  |true=>(.bsl ks0 (.fn 28 (.pr (.pr (.var p.2.nv) (.int 0)) (.fn 10 (.int 0)))),{p.2 with nv:=Nat.succ p.2.nv})
  |false=>p
 |.nslice b len cap=>match p.2.heap.get b with
  |some ⟨true,.flat ks l n ag _⟩=>match DO p.2 n len cap ag l with
   |true=>T.setK p.2.heap b ⟨true,.gone⟩ fun h=>(.bsl ks (.fn 28 (.pr (.pr (.var p.2.nv) len) l)),{p.2 with nv:=Nat.succ p.2.nv,heap:=h})
   |false=>p
  |_=>p
 |.slice _ _ (.int 0) (.int 0)=>match p.2.scp with
  |true=>(.bsl ks0 (.fn 28 (.pr (.pr (.var p.2.nv) (.int 0)) (.fn 10 (.int 0)))),{p.2 with nv:=Nat.succ p.2.nv})
  |false=>p
 |_=>p
inductive FM where
 |stay
 |down (ks:List CK)
 |up (ks:List CK) (el:TypeId)
 deriving Inhabited
def vz(ks:List CK)(el:TypeId)(v:SV)(st:St):SV×St:=
 match st.scp&&Nat.blt 0 (aP ks)with
 |true=>T.insK st.heap st.nb ⟨true,.flat ks (.fn 10 (.int 0)) (.int 0) (.int 0) el⟩ fun h=>(.nslice st.nb (.int 0) (.int 0),{st with nb:=Nat.succ st.nb,heap:=h})
 |false=>(v,st)
def zJ(ks0:List CK)(el:TypeId)(fs:List E)(v:SV)(st:St):SV×St:=
 match v with
 |.nils=>vz ks0 el v st
 |.bsl ks e=>match Nat.blt 0 (aP ks)&&(ot fs st.pc (gH (aP ks) e)&&ot fs st.pc (o5 e))with
  |true=>vz ks0 el v st
  |false=>(v,st)
 |_=>(v,st)
def yc(m:FM)(fs:List E)(v:SV)(st:St):SV×St:=
 match m with
 |.stay=>(v,st)
 |.down ks=>yb ks fs (v,st)
 |.up ks el=>zJ ks el fs v st
def jD(fs:List E):List FM->List SV->St->List SV×St
 |m::ms,v::vs,st=>match m with
  |.stay=>match v.scp st.nv st.nb with
   |true=>match jD fs ms vs st with
    |(vs',st')=>(v::vs',st')
   |false=>(v::vs,st)
  |_=>match yc m fs v st with
   |(v',st1)=>match v'.scp st1.nv st1.nb&&SV.scps st.nv st.nb vs with
    |true=>match jD fs ms vs st1 with
     |(vs',st')=>(v'::vs',st')
    |false=>(v::vs,st)
 |_,vs,st=>(vs,st)
def rn(ms:List FM)(fs:List E)(v:SV)(st:St):SV×St:=
 match v with
 |.agg cs=>match jD fs ms cs st with
  |(cs',st')=>(.agg cs',st')
 |v=>match ms with
  |m::_=>yc m fs v st
  |[]=>(v,st)
def nH(ms:List FM)(fs:List E)(p:SV×St):SV×St:=
 match p.1 with
 |.tup vs=>match vs with
  |v::vs=>match rn ms fs v p.2 with
   |(v',st1)=>match SV.scps p.2.nv p.2.nb vs with
    |true=>(.tup (v'::vs),st1)
    |false=>p
  |[]=>p
 |v=>rn ms fs v p.2
def tS:List CK->List FM
 |[]=>[]
 |c::cs=>match c with
  |.slc ks=>.down ks::tS cs
  |_=>.stay::tS cs
def xN(tb:Tab)(tmps:Tm)(st:St)(elem:TypeId)(b:Nat)(s x:SV):Option St:=
 match st.heap.get b with
 |some ⟨true,.cells vs ag e⟩=>match yE tb 12 elem with
  |some ks=>match jg st.nv st.nb tmps&&(s.scp st.nv st.nb&&(x.scp st.nv st.nb&&ag.scp st.nv))with
   |true=>match jD tb.facts (tS (nO ks (Nat.div (aP vs) (aP ks)))) vs st with
    |(vs',st')=>match st'.heap.get b with
     |some ⟨true,.cells _ _ _⟩=>some (T.setK st'.heap b ⟨true,.cells vs' ag e⟩ fun h=>{st' with heap:=h})
     |_=>none
   |false=>none
  |none=>none
 |_=>none
def xx(tb:Tab)(tmps:Tm)(st:St)(t xt:TypeId)(s x:SV):Eff2:=
 match tb.und t with
 | some (.slice elem)=>match (match x with
   |.slice b _ _ _=>xN tb tmps st elem b s x
   |.nslice b _ _=>xN tb tmps st elem b s x
   |_=>none)with
  |some st'=>tw tb tmps st' t xt s x
  |none=>.bad
 |_=>.bad
def Km(tb:Tab)(tmps:Tm)(st:St)(t xt:TypeId)(s x:SV):Eff2:=
 match ph vw tb.facts with
 |true=>match xx tb tmps st t xt s x with
  |.bad=>tw tb tmps st t xt s x
  |r=>r
 |false=>match tw tb tmps st t xt s x with
  |.bad=>xx tb tmps st t xt s x
  |r=>r
def kU:List CK->Nat
 |[]=>0
 |c::cs=>match c with
  |.slc _=>Nat.succ (kU cs)
  |_=>kU cs
def MO(fs pc:List E)(ks:List CK)(idx own:E):Option E:=
 match gZ fs pc idx own with
 |true=>some own
 |false=>match kz fs pc idx own&&kz fs pc own idx with
  |true=>match Nat.beq (kU ks) 1 with
   |true=>some (.fn 6 (.pr idx (.int 1)))
   |false=>none
  |false=>none
def uB(tb:Tab)(tmps:Tm)(st:St)(t:TypeId)(p v:SV):Eff2:=
 match p,v with
 |.ptr b o,.nslice b2 len cap=>match st.heap.get b,st.heap.get b2 with
  |some ⟨true,.nest ks l n ag elem own⟩,some ⟨true,.flat ks2 l2 n2 tot2 _⟩=>match pb tb.facts st.pc (aP ks) n o with
   |.at idx j=>match dC ks j with
    |some (.slc ks')=>match gd ks' ks2&&DO st n2 len cap tot2 l2&&jg st.nv st.nb tmps&&p.scp st.nv st.nb with
     |true=>match cI tb t with
      |some 1=>match MO tb.facts st.pc ks idx own with
       |some own'=>T.setK st.heap b2 ⟨true,.gone⟩ fun h=>T.setK h b ⟨true,.nest ks (i7 l (dJ (aP ks) idx j) (.fn 28 (.pr (.pr (.var st.nv) len) l2))) n ag elem own'⟩ fun h=>.skip {st with nv:=Nat.succ st.nv,heap:=h}
       |none=>.bad
      |_=>.bad
     |false=>.bad
    |_=>.bad
   |.lack e=>.lack e
   |.bad=>.bad
  |_,_=>.bad
 |_,_=>.bad
def aHF(st:St)(p:SV):Bool:=
 match p with
 |.ptr b _=>match st.heap.get b with
  |some ⟨_,.nest _ _ _ _ _ _⟩=>true
  |_=>false
 |_=>false
def Ln(tb:Tab)(tmps:Tm)(st:St)(t:TypeId)(x:Operand)(y:Operand):Eff2:=
  match bI tmps x,bI tmps y with
  |some p,some v=>match aHF st p with
   |true=>uB tb tmps st t p v
   |false=>match yE tb 12 t with
    | some ks=>match jg st.nv st.nb tmps&&p.scp st.nv st.nb with
      | true=>match nH (tS ks) tb.facts (v,st)with
        | (v',st')=>match rZ tb st' t p v' with
          |.skip st''=> .skip st''
          |.lack e=> .lack e
          |_=> .bad
      |false=> .bad
    |none=> .bad
  |_,_=> .bad
def Li(tb:Tab)(tmps:Tm)(st:St)(t:TypeId)(n:Operand)(c:Operand):Eff2:=
 match bI tmps n,bI tmps c with
  |some a,some b=>adg tb tmps st t a b
  |_,_=>.bad
def Lh(tb:Tab)(tmps:Tm)(st:St)(t:TypeId)(r:Option Operand):Eff2:=
 match r with
  |none=>match oh tmps st with
   |true=>T.insK st.heap st.nb ⟨true,.map [] (.int 0)⟩ fun h=>.val (.map st.nb) {st with nb:=Nat.succ st.nb,heap:=h}
   |false=>.bad
  |some _=>.bad
def Lk(tb:Tab)(tmps:Tm)(st:St)(t:TypeId)(m:Operand)(k:Operand)(x:Operand):Eff2:=
 match bI tmps m,bI tmps k,bI tmps x with
  |some a,some b,some c=>yO tb st t a b c
  |_,_,_=>.bad
def Lg(tb:Tab)(tmps:Tm)(st:St)(t:TypeId)(m:Operand)(k:Operand)(x:Operand):Eff2:=
 match bI tmps m,bI tmps k,bI tmps x with
  |some a,some b,some c=>yO tb st t a b c
  |_,_,_=>.bad
def Lj(tb:Tab)(tmps:Tm)(st:St)(t:TypeId)(m:Operand)(k:Operand):Eff2:=
 match bI tmps m,bI tmps k with
  |some a,some b=>ED tb tmps st t a b
  |_,_=>.bad
def Lf(tb:Tab)(tmps:Tm)(st:St)(m:Operand)(s:Operand)(x:Operand):Eff2:=
 match bI tmps m,bI tmps s,bI tmps x with
  |some a,some b,some c=>Dk st a b c
  |_,_,_=>.bad
def Lb(tb:Tab)(tmps:Tm)(st:St)(op:BinOp)(t:TypeId)(x:Operand)(y:Operand):Eff2:=
 match Ei tb t,bI tmps x,bI tmps y with
  |true,some a,some b=>match op with
   |.eql=>match ub b with
    |true=>pi tb tmps st a true
    |false=>match ub a with | true=>pi tb tmps st b true | false=>.bad
   |.neq=>match ub b with
    |true=>pi tb tmps st a false
    |false=>match ub a with | true=>pi tb tmps st b false | false=>.bad
   |_=>.bad
  |_,_,_=>.bad
def Ld(tb:Tab)(tmps:Tm)(st:St)(src:TypeId)(dst:TypeId)(x:Operand):Eff2:=
 match bI tmps x with
  |some v=>agI tb tmps st src dst v
  |none=>.bad
def Lc(tb:Tab)(tmps:Tm)(st:St)(c:Call):Eff2:=
 match c.callee with
  |.builtin b=>match iW (bI tmps) c.args.toList with
   |some [v,w]=>match b with
    |.append=>match c.argTypes.toList with
     |[t,xt]=>Km tb tmps st t xt v w
     |_=>.bad
    |.copy=>match c.argTypes.toList with
     |[t,xt]=>aa9 tb st t xt v w
     |_=>.bad
    |.delete=>match c.argTypes.toList with
     |t::_=>abi tb st t v w
     |_=>.bad
    |_=>.bad
   |some [v]=>match b with
    |.clear=>match c.argTypes.toList with
     |[t]=>C2 tb st t v
     |_=>.bad
    |_=>.bad
   |_=>.bad
  |_=>.bad
noncomputable def xS(tb:Tab)(tmps:Tm)(st:St)(o:Op):Eff2:=
 Op.rec (motive:=fun _=>Eff2)
  (fun _=>.bad)
  (fun _=>.bad)
  (fun _ _ _=>.bad)
  (fun _=>.bad)
  (fun _ _=>.bad)
  (fun _ _=>.bad)
  (fun _ _ _=>.bad)
  (fun t m k x=>Lg tb tmps st t m k x)
  (fun _ _=>.bad)
  (fun t x y=>Ln tb tmps st t x y)
  (fun _=>.bad)
  (fun _=>.bad)
  (fun _=>.bad)
  (fun op t x y _=>Lb tb tmps st op t x y)
  (fun _ _ _=>.bad)
  (fun src dst x=>Ld tb tmps st src dst x)
  (fun _ _=>.bad)
  (fun _ _=>.bad)
  (fun _ _ _=>.bad)
  (fun t r=>Lh tb tmps st t r)
  (fun _ _=>.bad)
  (fun t n c=>Li tb tmps st t n c)
  (fun _ _ _ _ _=>.bad)
  (fun _ _ _=>.bad)
  (fun _ _ _=>.bad)
  (fun _ _ _=>.bad)
  (fun _ _ _=>.bad)
  (fun _ _ _ _=>.bad)
  (fun t m k x=>Lk tb tmps st t m k x)
  (fun t m k=>Lj tb tmps st t m k)
  (fun _ m s x=>Lf tb tmps st m s x)
  (fun t x=>Lm tb tmps st t x)
  (fun x s=>Ll tb tmps st x s)
  (fun x=>Le tb tmps st x)
  (fun _ _ _ _=>.bad)
  (fun _ _=>.bad)
  (fun c=>Lc tb tmps st c)
  (fun _=>.bad)
  (fun _=>.bad)
  (fun _=>.bad)
  (fun _ _=>.bad)
  (fun _ _ _=>.bad)
  (fun _ _=>.bad)
  o
theorem aGK(tb:Tab)(tmps:Tm)(st:St)(o:Op):xS tb tmps st o=(match o with
 |.makeSlice t n c=>Li tb tmps st t n c
 |.makeMap t r=>Lh tb tmps st t r
 |.mapUpdate t m k x=>Lk tb tmps st t m k x
 |.insert t m k x=>Lg tb tmps st t m k x
 |.mapEntry t m k=>Lj tb tmps st t m k
 |.entryStore _ m s x=>Lf tb tmps st m s x
 |.range t x=>Lm tb tmps st t x
 |.next x s=>Ll tb tmps st x s
 |.entry x=>Le tb tmps st x
 |.binOp op t x y _=>Lb tb tmps st op t x y
 |.convert src dst x=>Ld tb tmps st src dst x
 |.call c=>Lc tb tmps st c
 |.store t x y=>Ln tb tmps st t x y
 |_=>.bad):=by cases o<;>rfl
structure Node where
 listed:Nat
 left:Nat
 tmps:Tm
 st:St
 deriving Inhabited
abbrev aO:=Option (List Out)
abbrev eD:=Tm->St->aO
structure Info where
 wait:Nat
 reads:Nat
 dst:Nat
inductive Task where
 |code (g:FuncId) (c:Code)
 |rounds (g:FuncId) (c:Code)
 |call (f:FuncId) (args:List SV)
 |draw (all:List Oper) (n:Nat)
 |layer (all:List Oper) (infos:List Info) (l:List Node)
def gc(a b:aO):aO:=
 match a with
 |some l=>match b with
  |some m=>some (l++m)
  |none=>none
 |none=>none
def jh:List Edge->Nat
 |[]=>0
 |e::es=>match Region.binds .any e with
  |true=>Nat.lor (Nat.pow 2 e.on) (jh es)
  |false=>jh es
def n7:List Operand->Nat
 |[]=>0
 |x::xs=>match x with
  |.tmp t=>Nat.lor (Nat.pow 2 t) (n7 xs)
  |_=>n7 xs
def FW(all:List Oper)(j:Nat):Option Tmp:=match dC all j with | some o=>o.dst | none=>none
def CH:Option Tmp->Nat
 |some t=>Nat.pow 2 t
 |none=>0
def acd(all:List Oper)(o:Oper):Nat:=
 match o.guard with
 |some (j,_)=>CH (FW all j)
 |none=>0
def ce(all:List Oper)(o:Oper):Info:=
 ⟨jh o.after.toList,Nat.lor (acd all o) (n7 o.op.operands.toList),CH o.dst⟩
def aW(all:List Oper):List Oper->List Info
 |[]=>[]
 |o::os=>ce all o::aW all os
def fE(listed:Nat):List Oper->List Info->Nat->List (Nat×Oper×Info)
 |o::os,m::ms,i=>match Nat.testBit listed i with
  |true=>fE listed os ms (Nat.succ i)
  |false=>match Nat.beq (Nat.land m.wait listed) m.wait with
   |true=>(i,o,m)::fE listed os ms (Nat.succ i)
   |false=>fE listed os ms (Nat.succ i)
 |_,_,_=>[]
def lJ(listed i:Nat)(x:Info):List Info->Nat->Bool
 |[],_=>true
 |m::ms,j=>match Nat.testBit listed j with
  |true=>lJ listed i x ms (Nat.succ j)
  |false=>match Nat.beq i j with
   |true=>lJ listed i x ms (Nat.succ j)
   |false=>match Nat.testBit m.wait i with
    |true=>lJ listed i x ms (Nat.succ j)
    |false=>match Nat.beq (Nat.land x.dst m.reads) 0 with
     |true=>match Nat.beq (Nat.land x.dst m.dst) 0 with
      |true=>match Nat.beq (Nat.land m.dst x.reads) 0 with
       |true=>lJ listed i x ms (Nat.succ j)
       |false=>false
      |false=>false
     |false=>false
def CX(tb:Tab)(tmps:Tm)(c:Call):Option (FuncId×List SV):=
 match c.callee with
 |.value f=>match bI tmps f,iW (bI tmps) c.args.toList with
  |some (.func (.func f) fi ca),some vs=>match tb.fn.get f with
   |some fn=>match fn.body with
    |some _=>some (f,fi++(vs++ca))
    |none=>none
   |none=>none
  |_,_=>none
 |_=>none
inductive Want where
 |yes | no | bad | ask (slot:Tmp) (e:E) (want:Bool)
def vA(all:List Oper)(tmps:Tm)(o:Oper):Want:=
 match o.guard with
 |none=>.yes
 |some (j,want)=>match FW all j with
  |some t=>match tmps.get t with
   |some (.bool e)=>match e with
    |.bool b=>match lC b want with | true=>.yes | false=>.no
    |_=>.ask t e want
   |some .junk=>.bad
   |_=>.no
  |none=>.no
def d8{O:Type}(tmps:Tm)(d:Option Tmp)(v:SV)(k:Tm->O):O:=
 match d with
 |none=>k tmps
 |some t=>T.setK tmps t v k
def jL(tb:Tab)(st:St)(tmps:Tm):List ResultVar->Option (List SV)
 |[]=>some []
 |.tmp t::rs=>match jL tb st tmps rs with
  |some l=>match tmps.get t with
   |some v=>match v with
    |.junk=>none
    |_=>some (v::l)
   |none=>some (.undef::l)
  |none=>none
 |.cell a t::rs=>match tmps.get a with
  |some x=>match ut tb st t x,jL tb st tmps rs with
   |some v,some l=>some (v::l)
   |_,_=>none
  |none=>none
def r8:List SV->SV
 |[v]=>v
 |vs=>.tup vs
def Lu:Fn->Fn->Bool
 |.func a,.func b=>Nat.beq a b
 |_,_=>false
mutual
def SV.beq:SV->SV->Bool
 |.int k e,.int k' e'=>eU k k'&&e.beq e'
 |.bool e,.bool e'=>e.beq e'
 |.str e,.str e'=>e.beq e'
 |.nilp,.nilp | .nils,.nils | .nilm,.nilm | .nili,.nili | .nilf,.nilf=>true
 |.ptr b o,.ptr b' o'=>Nat.beq b b'&&Nat.beq o.base o'.base&&Nat.beq o.scale o'.scale&&o.idx.beq o'.idx
 |.slice b o l c,.slice b' o' l' c'=>Nat.beq b b'&&Nat.beq o.base o'.base&&Nat.beq o.scale o'.scale&&o.idx.beq o'.idx&&l.beq l'&&c.beq c'
 |.map b,.map b'=>Nat.beq b b'
 |.nslice b l c,.nslice b' l' c'=>Nat.beq b b'&&l.beq l'&&c.beq c'
 |.bsl ks e,.bsl ks' e'=>gd ks ks'&&e.beq e'
 |.bptr ks e i j,.bptr ks' e' i' j'=>gd ks ks'&&e.beq e'&&i.beq i'&&Nat.beq j j'
 |.func fn fi ca,.func fn' fi' ca'=>Lu fn fn'&&SV.beqs fi fi'&&SV.beqs ca ca'
 |.agg cs,.agg cs'=>SV.beqs cs cs'
 |.tup cs,.tup cs'=>SV.beqs cs cs'
 |.junk,.junk=>true
 |.nsl b ks e i c,.nsl b' ks' e' i' c'=>Nat.beq b b'&&gd ks ks'&&e.beq e'&&i.beq i'&&Nat.beq c c'
 |.nptr b ks e i c x j,.nptr b' ks' e' i' c' x' j'=>Nat.beq b b'&&gd ks ks'&&e.beq e'&&i.beq i'&&Nat.beq c c'&&x.beq x'&&Nat.beq j j'
 |_,_=>false
def SV.beqs:List SV->List SV->Bool
 |[],[]=>true
 |x::xs,y::ys=>x.beq y&&SV.beqs xs ys
 |_,_=>false
end
def uL:List Ent->List Ent->Bool
 |[],[]=>true
 |x::xs,y::ys=>x.k.beq y.k&&(x.v.beq y.v&&(x.born.beq y.born&&uL xs ys))
 |_,_=>false
def aeX:Option E->Option E->Bool
 |none,none=>true
 |some a,some b=>a.beq b
 |_,_=>false
def SObj.beq:SObj->SObj->Bool
 |.gone,.gone=>true
 |.cells cs t e,.cells cs' t' e'=>Nat.beq e e'&&t.beq t'&&SV.beqs cs cs'
 |.flat ks l n t e,.flat ks' l' n' t' e'=>Nat.beq e e'&&l.beq l'&&n.beq n'&&t.beq t'&&gd ks ks'
 |.map es c,.map es' c'=>c.beq c'&&uL es es'
 |.mapl k c e,.mapl k' c' e'=>eU k k'&&c.beq c'&&e.beq e'
 |.maplp k c e ke s,.maplp k' c' e' ke' s'=>eU k k'&&c.beq c'&&e.beq e'&&ke.beq ke'&&s.beq s'
 |.iter k c e n u,.iter k' c' e' n' u'=>eU k k'&&c.beq c'&&e.beq e'&&n.beq n'&&aeX u u'
 |.nest ks l n t e o,.nest ks' l' n' t' e' o'=>Nat.beq e e'&&l.beq l'&&n.beq n'&&t.beq t'&&gd ks ks'&&o.beq o'
 |_,_=>false
def T.beq{G:Type}(f:G->G->Bool):T G->T G->Bool
 |.nil,.nil=>true
 |.node v l r,.node v' l' r'=>f v v'&&T.beq f l l'&&T.beq f r r'
 |_,_=>false
def Blk.beq(x y:Blk):Bool:=lC x.own y.own&&x.obj.beq y.obj
def uO:List E->List E->Bool
 |[],[]=>true
 |x::xs,y::ys=>x.beq y&&uO xs ys
 |_,_=>false
def St.beq(a b:St):Bool:=Nat.beq a.nv b.nv&&Nat.beq a.nb b.nb&&uO a.pc b.pc&&T.beq Blk.beq a.heap b.heap
def Node.beq(a b:Node):Bool:=
 Nat.beq a.listed b.listed&&Nat.beq a.left b.left&&T.beq SV.beq a.tmps b.tmps&&a.st.beq b.st
def ye:List Node->Node->Bool
 |[],_=>false
 |x::xs,n=>match x.beq n with | true=>true | false=>ye xs n
def kR{O:Type}(P:Program)(tb:Tab)(all:List Oper)(infos:List Info):List Oper->List Info->Nat->Nat->Nat->Tm->(Nat->Nat->Tm->O)->O
 |o::os,m::ms,i,listed,left,tmps,k=>
  match Nat.testBit listed i with
  |true=>kR P tb all infos os ms (Nat.succ i) listed left tmps k
  |false=>match Nat.beq (Nat.land m.wait listed) m.wait with
   |true=>match left with
    |0=>k listed left tmps
    |left'+1=>match vA all tmps o with
     |.yes=>match rW P tb (bI tmps) o.op with
      |some v=>match lJ listed i m infos 0 with
       |true=>d8 tmps o.dst v fun tmps=>fj (Nat.lor (Nat.pow 2 i) listed) fun listed=>kR P tb all infos os ms (Nat.succ i) listed left' tmps k
       |false=>kR P tb all infos os ms (Nat.succ i) listed left tmps k
      |none=>kR P tb all infos os ms (Nat.succ i) listed left tmps k
     |.no=>match lJ listed i m infos 0 with
      |true=>d8 tmps o.dst .undef fun tmps=>fj (Nat.lor (Nat.pow 2 i) listed) fun listed=>kR P tb all infos os ms (Nat.succ i) listed left' tmps k
      |false=>kR P tb all infos os ms (Nat.succ i) listed left tmps k
     |_=>kR P tb all infos os ms (Nat.succ i) listed left tmps k
   |false=>kR P tb all infos os ms (Nat.succ i) listed left tmps k
 |_,_,_,listed,left,tmps,k=>k listed left tmps
def uV(acc:List Node)(x:Node):List Node:=match ye acc x with | true=>acc | false=>x::acc
def ol(P:Program)(tb:Tab)(all:List Oper)(infos:List Info)(listed left:Nat):List Out->List Node->List Node
 |[],acc=>acc
 |o::os,acc=>kR P tb all infos all infos 0 listed left o.tmps fun listed' left' tmps=>
  ol P tb all infos listed left os (uV acc ⟨listed',left',tmps,o.st⟩)
def rh(_:String):aO:=none
def Em(_:String)(_:St)(_:E):aO:=none
abbrev b7:=Task->Tm->St->(Out->aO)->aO
def aIP(o:Op):String:=
 match o with
 |.load _ _=> "load" | .store _ _ _=> "store" | .move _=> "move" | .assign _=> "assign" | .pick _ _ _=> "pick" | .nilCheck _=> "nilCheck" | .binOp _ _ _ _ _=> "binOp" | .unOp _ _ _=> "unOp" | .convert _ _ _=> "convert"
 |.fieldAddr _ _ _=> "fieldAddr" | .field _ _ _=> "field" | .indexAddr _ _ _=> "indexAddr" | .index _ _ _=> "index" | .extract _ _=> "extract" | .build _ _=> "build" | .makeFunc _ _ _=> "makeFunc" | .slice _ _ _ _ _=> "slice"
 |.box _ _=> "box" | .alloc _=> "alloc" | .buildSlice _ _ _=> "buildSlice" | .insert _ _ _ _=> "insert" | .ready _=> "ready" | .waits _=> "waits" | .sliceToArrayPointer _ _=> "sliceToArrayPointer" | .makeInterface _ _=> "makeInterface" | .makeMap _ _=> "makeMap" | .makeChan _ _=> "makeChan" | .makeSlice _ _ _=> "makeSlice" | .lookup _ _ _ _=> "lookup" | .mapUpdate _ _ _ _=> "mapUpdate" | .mapEntry _ _ _=> "mapEntry" | .entryStore _ _ _ _=> "entryStore" | .range _ _=> "range" | .next _ _=> "next" | .entry _=> "entry" | .typeAssert _ _ _ _=> "typeAssert" | .call _=> "call" | _=> "other"
def Blk.same(x y:Blk):Bool:=
 match x.obj with
 |.iter _ _ _ _ _=>false
 |_=>x.beq y
def nJ:T Blk->T Blk->Bool
 |.nil,_=>true
 |.node v l r,.node v' l' r'=>match Blk.same v v' with
  |true=>match nJ l l' with
   |true=>nJ r r'
   |false=>false
  |false=>false
 |_,_=>false
mutual
def SV.plain:SV->Bool
 |.bsl _ _ | .bptr _ _ _ _ | .nsl _ _ _ _ _ | .nptr _ _ _ _ _ _ _=>false
 |.func _ fi ca=>SV.plains fi&&SV.plains ca
 |.agg cs | .tup cs=>SV.plains cs
 |_=>true
def SV.plains:List SV->Bool
 |[]=>true
 |v::vs=>v.plain&&SV.plains vs
end
structure Sub where
 n0:Nat
 es:List E
 b0:Nat
 bs:List Nat
def NR(n0:Nat)(es:List E)(i:Nat):E:=
 match Nat.blt i n0 with
 |true=>.var i
 |false=>match dC es (Nat.sub i n0)with
  |some e=>e
  |none=>.var i
def EY:E->Nat->Option E
 |.fn 23 (.pr x r),n=>match n with
  |0=>some x
  |n+1=>EY r n
 |_,_=>none
def Ge(f:Nat)(a:E):E:=
 match f with
 |0=>hE a
 |6=>match a with
  |.pr (.int x) (.int y)=>.int (x+y)
  |_=>.fn f a
 |7=>match a with
  |.pr (.int x) (.int y)=>.int (x-y)
  |_=>.fn f a
 |1=>match a with
  |.pr l (.int (.ofNat n))=>match EY l n with
   |some e=>e
   |none=>.fn f a
  |_=>.fn f a
 |_=>.fn f a
def Gf(a:E):E:=
 match a with
 |.bool b=>.bool (!b)
 |_=>.not a
noncomputable def E.sub(n0:Nat)(es:List E)(e:E):E:=
 E.rec (motive:=fun _=>E)
  (fun n=>.int n)
  (fun b=>.bool b)
  (fun s=>.str s)
  (fun i=>NR n0 es i)
  (fun o k _ _ ia ib=>iC o k ia ib)
  (fun o _ _ ia ib=>aE o ia ib)
  (fun _ _ ia ib=>rD ia ib)
  (fun _ _ ia ib=>nR ia ib)
  (fun k _ ia=>rE k ia)
  (fun _ ia=>Gf ia)
  (fun _ _ ia ib=>.and ia ib)
  (fun _ _ ia ib=>lT ia ib)
  (fun _ _ ia ib=>.iff ia ib)
  (fun _ _ ia ib=>.imp ia ib)
  (fun f _ ia=>Ge f ia)
  (fun _ _ ia ib=>.pr ia ib)
  e
theorem E.sub_eq_ar(n0:Nat)(es:List E)(o:BinOp)(k:IntKind)(a:E)(b:E):(E.ar o k a b).sub n0 es=iC o k (a.sub n0 es) (b.sub n0 es):=rfl
theorem E.sub_eq_cmp(n0:Nat)(es:List E)(o:BinOp)(a:E)(b:E):(E.cmp o a b).sub n0 es=aE o (a.sub n0 es) (b.sub n0 es):=rfl
theorem E.sub_eq_mn(n0:Nat)(es:List E)(a:E)(b:E):(E.mn a b).sub n0 es=rD (a.sub n0 es) (b.sub n0 es):=rfl
theorem E.sub_eq_mx(n0:Nat)(es:List E)(a:E)(b:E):(E.mx a b).sub n0 es=nR (a.sub n0 es) (b.sub n0 es):=rfl
theorem E.sub_eq_wr(n0:Nat)(es:List E)(k:IntKind)(a:E):(E.wr k a).sub n0 es=rE k (a.sub n0 es):=rfl
theorem E.sub_eq_not(n0:Nat)(es:List E)(a:E):(E.not a).sub n0 es=Gf (a.sub n0 es):=rfl
theorem E.sub_eq_and(n0:Nat)(es:List E)(a:E)(b:E):(E.and a b).sub n0 es=.and (a.sub n0 es) (b.sub n0 es):=rfl
theorem E.sub_eq_seq(n0:Nat)(es:List E)(a:E)(b:E):(E.seq a b).sub n0 es=lT (a.sub n0 es) (b.sub n0 es):=rfl
theorem E.sub_eq_iff(n0:Nat)(es:List E)(a:E)(b:E):(E.iff a b).sub n0 es=.iff (a.sub n0 es) (b.sub n0 es):=rfl
theorem E.sub_eq_imp(n0:Nat)(es:List E)(a:E)(b:E):(E.imp a b).sub n0 es=.imp (a.sub n0 es) (b.sub n0 es):=rfl
theorem E.sub_eq_fn(n0:Nat)(es:List E)(f:Nat)(a:E):(E.fn f a).sub n0 es=Ge f (a.sub n0 es):=rfl
theorem E.sub_eq_pr(n0:Nat)(es:List E)(a:E)(b:E):(E.pr a b).sub n0 es=.pr (a.sub n0 es) (b.sub n0 es):=rfl
def cf(b0:Nat)(bs:List Nat)(i:Nat):Nat:=
 match Nat.blt i b0 with
 |true=>i
 |false=>match dC bs (Nat.sub i b0)with
  |some j=>j
  |none=>i
def Off.sub(n0:Nat)(es:List E)(o:Off):Off:=⟨o.base,o.scale,o.idx.sub n0 es⟩
mutual
def SV.sub(z:Sub):SV->SV
 |.int k e=>.int k (e.sub z.n0 z.es)
 |.bool e=>.bool (e.sub z.n0 z.es)
 |.str e=>.str (e.sub z.n0 z.es)
 |.ptr b o=>.ptr (cf z.b0 z.bs b) (o.sub z.n0 z.es)
 |.slice b o l c=>.slice (cf z.b0 z.bs b) (o.sub z.n0 z.es) (l.sub z.n0 z.es) (c.sub z.n0 z.es)
 |.nslice b l c=>.nslice (cf z.b0 z.bs b) (l.sub z.n0 z.es) (c.sub z.n0 z.es)
 |.bsl ks e=>.bsl ks (e.sub z.n0 z.es)
 |.bptr ks e i j=>.bptr ks (e.sub z.n0 z.es) (i.sub z.n0 z.es) j
 |.nsl b ks e i c=>.nsl (cf z.b0 z.bs b) ks (e.sub z.n0 z.es) (i.sub z.n0 z.es) c
 |.nptr b ks e i c x j=>.nptr (cf z.b0 z.bs b) ks (e.sub z.n0 z.es) (i.sub z.n0 z.es) c (x.sub z.n0 z.es) j
 |.map b=>.map (cf z.b0 z.bs b)
 |.func fn fi ca=>.func fn (SV.subs z fi) (SV.subs z ca)
 |.agg cs=>.agg (SV.subs z cs)
 |.tup cs=>.tup (SV.subs z cs)
 |.nilp=>.nilp
 |.nils=>.nils
 |.nilm=>.nilm
 |.nili=>.nili
 |.nilf=>.nilf
 |.junk=>.junk
def SV.subs(z:Sub):List SV->List SV
 |[]=>[]
 |v::vs=>v.sub z::SV.subs z vs
end
def uM(z:Sub):List Ent->List Ent
 |[]=>[]
 |x::es=>⟨x.k.sub z,x.v.sub z,x.born.sub z.n0 z.es⟩::uM z es
def SObj.sub(z:Sub):SObj->SObj
 |.gone=>.gone
 |.cells cs ag elem=>.cells (SV.subs z cs) (ag.sub z.n0 z.es) elem
 |.flat ks l n ag elem=>.flat ks (l.sub z.n0 z.es) (n.sub z.n0 z.es) (ag.sub z.n0 z.es) elem
 |.map es c=>.map (uM z es) (c.sub z.n0 z.es)
 |.mapl k c e=>.mapl k c (e.sub z.n0 z.es)
 |.maplp k c e ke s=>.maplp k c (e.sub z.n0 z.es) (ke.sub z.n0 z.es) (s.sub z.n0 z.es)
 |.nest ks l n ag elem own=>.nest ks (l.sub z.n0 z.es) (n.sub z.n0 z.es) (ag.sub z.n0 z.es) elem (own.sub z.n0 z.es)
 |.iter k c e n u=>.iter k c (e.sub z.n0 z.es) (n.sub z.n0 z.es) (match u with | none=>none | some x=>some (x.sub z.n0 z.es))
def xU(k:IntKind)(c:CK):List Ent->Option (List E)
 |[]=>some []
 |x::es=>match x.k with
  |.int k' ke=>match eU k' k,jC c x.v with
   |true,some ve=>match xU k c es with
    |some l=>some (.pr ke ve::l)
    |none=>none
   |_,_=>none
  |_=>none
def MA(ks r:List CK):List CK:=match r with | []=>ks | x::xs=>x::xs
def acj(l:List CK):Option CK:=match l with | []=>none | c::_=>some c
def aNh(l:List CK):List CK:=match l with | []=>[] | _::r=>r
def xK(ks:List CK):List SV->List CK->Option (List E)
 |[],_=>some []
 |v::vs,r=>match acj (MA ks r)with
  |none=>none
  |some c=>match jC c v with
   |some e=>match xK ks vs (aNh (MA ks r))with
    |some l=>some (e::l)
    |none=>none
   |none=>none
def Oo(w:Nat)(ag:E):Option E:=
 match w with
 |1=>some ag
 |w=>match ag with
  |.fn 8 (.pr c (.int (.ofNat m)))=>match Nat.beq m w with
   |true=>some c
   |false=>none
  |.int (.ofNat t)=>match Nat.beq (Nat.mul (Nat.div t w) w) t with
   |true=>some (.int (.ofNat (Nat.div t w)))
   |false=>none
  |_=>none
def uE(p x:SObj):Option SObj:=
 match p with
 |.mapl k c _=>match x with
  |.map es _=>match xU k c es with
   |some l=>some (.mapl k c (cL l))
   |none=>none
  |_=>none
 |.iter _ _ _ _ u=>match u with
  |none=>match x with
   |.iter k c e n _=>some (.iter k c e n none)
   |_=>none
  |some _=>none
 |.nest ks _ _ _ _ _=>match x with
  |.flat ks' l n ag elem=>match gd ks ks' with
   |true=>match l,Nat.beq (aP ks) 1 with
    |.fn 5 (.pr _ (.fn 30 _)),true=>some (.nest ks' l n ag elem n)
    |_,_=>some (.nest ks' l n ag elem (.int 0))
   |false=>none
  |_=>none
 |.flat ks _ _ _ _=>match x with
  |.cells cs ag elem=>match xK ks cs [],Oo (aP ks) ag with
   |some l,some t=>match l with
    |[]=>match t with
     |.int (.ofNat m)=>match Nat.blt 0 (aP ks)with
      |true=>some (.flat ks (.fn 10 (.int 0)) (.int 0) (.int (.ofNat m)) elem)
      |false=>none
     |_=>none
    |_=>match Nat.beq (Nat.mul (Nat.div (aP cs) (aP ks)) (aP ks)) (aP cs)with
     |true=>some (.flat ks (cL l) (.int (.ofNat (Nat.div (aP cs) (aP ks)))) t elem)
     |false=>none
   |_,_=>none
  |_=>none
 |_=>none
def afP:E->Option Nat
 |.fn 23 (.pr _ r)=>match afP r with
  |some n=>some (Nat.succ n)
  |none=>none
 |.fn 10 _=>some 0
 |_=>none
def afS(e:E):E->E
 |.fn 23 (.pr x r)=>.fn 23 (.pr x (afS e r))
 |_=>.fn 23 (.pr e (.fn 10 (.int 0)))
def Nf(y e:E):Nat->Nat->E
 |0,_=>.fn 23 (.pr e (.fn 10 (.int 0)))
 |n+1,j=>.fn 23 (.pr (.fn 1 (.pr y (.int (.ofNat j)))) (Nf y e n (Nat.succ j)))
def aGk:E->Nat->Option E
 |.fn 1 (.pr y (.int (.ofNat k))),j=>match Nat.beq k j with
  |true=>some y
  |false=>none
 |_,_=>none
def aJm(cur:E)(j:Nat)(e:E):E:=
 match afP cur with
 |some n=>match Nat.beq n j with
  |true=>afS e cur
  |false=>cur
 |none=>match aGk e j with
  |some y=>match y.beq cur with
   |true=>cur
   |false=>match j with
    |0=>y
    |_=>match cur with
     |.int _=>y
     |_=>Nf cur e j 0
  |none=>Nf cur e j 0
def aJu(n0 f:Nat)(a:E):Option (Nat×Nat):=
 match f with
 |1=>match a with
  |.pr (.var i) (.int (.ofNat j))=>match Nat.blt i n0 with
   |true=>none
   |false=>some (i,j)
  |_=>none
 |_=>none
def aJv(n0 i j:Nat)(e:E)(t:T E):T E:=
 match t.get (Nat.sub i n0)with
 |some cur=>t.set (Nat.sub i n0) (aJm cur j e)
 |none=>t
noncomputable def E.sw(b:E)(fa:BinOp->IntKind->E->E->T E->T E:=fun _ _ _ _ t=>t)(ff:Nat->E->T E->T E:=fun _ _ t=>t)(fp:E->E->T E->T E:=fun _ _ t=>t)(fn:E->T E->T E:=fun _ t=>t):T E->T E:=E.rec (motive:=fun _=>T E->T E) (fun _ t=>t) (fun _ t=>t) (fun _ t=>t) (fun _ t=>t) (fun x0 x1 x2 x3 _ _=>fa x0 x1 x2 x3) (fun _ _ _ _ _ t=>t) (fun _ _ _ _ t=>t) (fun _ _ _ _ t=>t) (fun _ _ _ t=>t) (fun x0 _=>fn x0) (fun _ _ _ _ t=>t) (fun _ _ _ _ t=>t) (fun _ _ _ _ t=>t) (fun _ _ _ _ t=>t) (fun x0 x1 _=>ff x0 x1) (fun x0 x1 _ _=>fp x0 x1) b
noncomputable def E.go_ar(b:E)(f:BinOp->IntKind->E->E->T E->T E):T E->T E:=b.sw (fa:=f)
noncomputable def E.go_fn(b:E)(f:Nat->E->T E->T E):T E->T E:=b.sw (ff:=f)
noncomputable def E.go_pr(b:E)(f:E->E->T E->T E):T E->T E:=b.sw (fp:=f)
noncomputable def E.go_not(b:E)(f:E->T E->T E):T E->T E:=b.sw (fn:=f)
noncomputable def gb(n0:Nat)(a:E):E->T E->T E:=
 E.rec (motive:=fun _=>E->T E->T E)
  (fun _ _ t=>t)
  (fun _ _ t=>t)
  (fun _ _ t=>t)
  (fun i e t=>Bool.rec (t.set (Nat.sub i n0) e) t (Nat.blt i n0))
  (fun _ _ _ _ f g e=>e.go_ar fun _ _ a b t=>g b (f a t))
  (fun _ _ _ _ _ _ t=>t)
  (fun _ _ _ _ _ t=>t)
  (fun _ _ _ _ _ t=>t)
  (fun _ _ _ _ t=>t)
  (fun _ f e=>e.go_not fun a t=>f a t)
  (fun _ _ _ _ _ t=>t)
  (fun _ _ _ _ _ t=>t)
  (fun _ _ _ _ _ t=>t)
  (fun _ _ _ _ _ t=>t)
  (fun k a f e=>Option.rec (motive:=fun _=>T E->T E) (e.go_fn fun _ a t=>f a t) (fun p t=>aJv n0 p.1 p.2 e t) (aJu n0 k a))
  (fun _ _ f g e=>e.go_pr fun a b t=>g b (f a t))
  a
abbrev G2:=T E×T Nat
noncomputable def SV.sw(v:SV)(fi:E->G2->G2:=fun _ g=>g)(fb:E->G2->G2:=fun _ g=>g)(fs:E->G2->G2:=fun _ g=>g)(fp:Nat->Off->G2->G2:=fun _ _ g=>g)(fl:Nat->Off->E->E->G2->G2:=fun _ _ _ _ g=>g)(fn:Nat->E->E->G2->G2:=fun _ _ _ g=>g)(fc:E->G2->G2:=fun _ g=>g)(fq:E->E->G2->G2:=fun _ _ g=>g)(fm:Nat->G2->G2:=fun _ g=>g)(ff:List SV->List SV->G2->G2:=fun _ _ g=>g)(fa:List SV->G2->G2:=fun _ g=>g)(ft:List SV->G2->G2:=fun _ g=>g):G2->G2:=SV.rec (motive_1:=fun _=>G2->G2) (motive_2:=fun _=>G2->G2) (fun _ e=>fi e) (fun e=>fb e) (fun e=>fs e) (fun g=>g) (fun b o=>fp b o) (fun g=>g) (fun b o l c=>fl b o l c) (fun b l c=>fn b l c) (fun _ e=>fc e) (fun _ e i _=>fq e i) (fun g=>g) (fun b=>fm b) (fun g=>g) (fun g=>g) (fun _ i c _ _=>ff i c) (fun cs _=>fa cs) (fun cs _=>ft cs) (fun g=>g) (fun _ _ _ _ _ g=>g) (fun _ _ _ _ _ _ _ g=>g) (fun g=>g) (fun _ _ _ _ g=>g) v
noncomputable def SV.go_int(v:SV)(f:E->G2->G2):G2->G2:=v.sw (fi:=f)
noncomputable def SV.go_bool(v:SV)(f:E->G2->G2):G2->G2:=v.sw (fb:=f)
noncomputable def SV.go_str(v:SV)(f:E->G2->G2):G2->G2:=v.sw (fs:=f)
noncomputable def SV.go_ptr(v:SV)(f:Nat->Off->G2->G2):G2->G2:=v.sw (fp:=f)
noncomputable def SV.go_slice(v:SV)(f:Nat->Off->E->E->G2->G2):G2->G2:=v.sw (fl:=f)
noncomputable def SV.go_nslice(v:SV)(f:Nat->E->E->G2->G2):G2->G2:=v.sw (fn:=f)
noncomputable def SV.go_bsl(v:SV)(f:E->G2->G2):G2->G2:=v.sw (fc:=f)
noncomputable def SV.go_bptr(v:SV)(f:E->E->G2->G2):G2->G2:=v.sw (fq:=f)
noncomputable def SV.go_map(v:SV)(f:Nat->G2->G2):G2->G2:=v.sw (fm:=f)
noncomputable def SV.go_func(v:SV)(f:List SV->List SV->G2->G2):G2->G2:=v.sw (ff:=f)
noncomputable def SV.go_agg(v:SV)(f:List SV->G2->G2):G2->G2:=v.sw (fa:=f)
noncomputable def SV.go_tup(v:SV)(f:List SV->G2->G2):G2->G2:=v.sw (ft:=f)
noncomputable def aHh(b0 b b':Nat)(t:T Nat):T Nat:=Bool.rec (t.set (Nat.sub b b0) b') t (Nat.blt b b0)
noncomputable def gE(n0:Nat)(e e':E)(g:G2):G2:=(gb n0 e e' g.1,g.2)
noncomputable def gB(b0 b b':Nat)(g:G2):G2:=(g.1,aHh b0 b b' g.2)
noncomputable def List.goK(l:List SV)(f:SV->List SV->G2->G2):G2->G2:=List.rec (motive:=fun _=>G2->G2) (fun g=>g) (fun v vs _=>f v vs) l
noncomputable def aHb(n0 b0:Nat)(v:SV)(b:Nat)(l c:E):G2->G2:=
 v.go_slice fun b' _ l' c' g=>gE n0 c c' (gE n0 l l' (gB b0 b b' g))
noncomputable def DS(n0 b0:Nat)(v:SV):SV->G2->G2:=
 SV.rec (motive_1:=fun _=>SV->G2->G2) (motive_2:=fun _=>List SV->G2->G2)
  (fun _ e v=>v.go_int fun e' g=>gE n0 e e' g)
  (fun e v=>v.go_bool fun e' g=>gE n0 e e' g)
  (fun e v=>v.go_str fun e' g=>gE n0 e e' g)
  (fun _ g=>g)
  (fun b o v=>v.go_ptr fun b' o' g=>gE n0 o.idx o'.idx (gB b0 b b' g))
  (fun _ g=>g)
  (fun b o l c v=>v.go_slice fun b' o' l' c' g=>gE n0 c c' (gE n0 l l' (gE n0 o.idx o'.idx (gB b0 b b' g))))
  (fun b l c v g=>aHb n0 b0 v b l c (v.go_nslice (fun b' l' c' g=>gE n0 c c' (gE n0 l l' (gB b0 b b' g))) g))
  (fun _ e v=>v.go_bsl fun e' g=>gE n0 e e' g)
  (fun _ e i _ v=>v.go_bptr fun e' i' g=>gE n0 i i' (gE n0 e e' g))
  (fun _ g=>g)
  (fun b v=>v.go_map fun b' g=>gB b0 b b' g)
  (fun _ g=>g) (fun _ g=>g)
  (fun _ _ _ f1 f2 v=>v.go_func fun fi ca g=>f2 ca (f1 fi g))
  (fun _ f v=>v.go_agg fun cs g=>f cs g)
  (fun _ f v=>v.go_tup fun cs g=>f cs g)
  (fun _ g=>g)
  (fun _ _ _ _ _ _ g=>g) (fun _ _ _ _ _ _ _ _ g=>g)
  (fun _ g=>g)
  (fun _ _ f1 f2 l=>List.goK l fun v vs g=>f2 vs (f1 v g)) v
noncomputable def aHj(n0 b0:Nat)(vs:List SV):List SV->G2->G2:=
 List.rec (motive:=fun _=>List SV->G2->G2) (fun _ g=>g) (fun v _ f l=>List.goK l fun v' vs' g=>f vs' (DS n0 b0 v v' g)) vs
noncomputable def T.goK(t:T SV)(f:SV->T SV->T SV->G2->G2):G2->G2:=T.rec (motive:=fun _=>G2->G2) (fun g=>g) (fun v l r _ _=>f v l r) t
noncomputable def aHi(n0 b0:Nat)(t:Tm):Tm->G2->G2:=
 T.rec (motive:=fun _=>Tm->G2->G2) (fun _ g=>g) (fun v _ _ f1 f2 t=>T.goK t fun v' l' r' g=>f2 r' (f1 l' (DS n0 b0 v v' g))) t
def ace(n0 b0:Nat):List Ent->List Ent->T E×T Nat->T E×T Nat
 |x::es,y::es',g=>ace n0 b0 es es' (let h:=DS n0 b0 x.v y.v (DS n0 b0 x.k y.k g);(gb n0 x.born y.born h.1,h.2))
 |_,_,g=>g
def DR(n0 b0:Nat)(heap:T Blk):T Blk->Nat->Nat->T E×T Nat->T E×T Nat
 |.nil,_,_,g=>g
 |.node x l r,a,d,g=>
  let j:=match Nat.blt a b0 with | true=>some a | false=>g.2.get (Nat.sub a b0)
  let g:=match j with
   |some j=>match heap.get j with
    |some y=>match x.obj,(match uE x.obj y.obj with | some o=>o | none=>y.obj)with
     |.mapl _ _ e,.mapl _ _ e'=>(gb n0 e e' g.1,g.2)
     |.iter _ _ e n u,.iter _ _ e' n' u'=>(match u,u' with
      |some x,some x'=>gb n0 x x' (gb n0 n n' (gb n0 e e' g.1))
      |_,_=>gb n0 n n' (gb n0 e e' g.1),g.2)
     |.cells cs t _,.cells cs' t' _=>let g:=aHj n0 b0 cs cs' g;(gb n0 t t' g.1,g.2)
     |.nest _ e n t _ o,.nest _ e' n' t' _ o'=>(gb n0 o o' (gb n0 t t' (gb n0 n n' (gb n0 e e' g.1))),g.2)
     |.flat _ e n t _,.flat _ e' n' t' _=>(gb n0 t t' (gb n0 n n' (gb n0 e e' g.1)),g.2)
     |.map es c,.map es' c'=>let h:=ace n0 b0 es es' g;(gb n0 c c' h.1,h.2)
     |_,_=>g
    |none=>g
   |none=>g
  DR n0 b0 heap r (Nat.add a (Nat.add d d)) (Nat.add d d) (DR n0 b0 heap l (Nat.add a d) (Nat.add d d) g)
def Ot{G:Type}(t:T G)(x:G):Nat->Nat->List G
 |0,_=>[]
 |n+1,i=>(match t.get i with | some y=>y | none=>x)::Ot t x n (Nat.succ i)
def Ly(n0 b0:Nat)(tmps:Tm)(st:St)(τ:Tmpl):Sub:=
 let nE:=Nat.sub τ.st.nv n0
 let nB:=Nat.sub τ.st.nb b0
 let g:=DR n0 b0 st.heap τ.st.heap 0 1 (aHi n0 b0 τ.tmps tmps (T.fill (.int 0) 20 nE,T.fill 0 20 nB))
 let g:=DR n0 b0 st.heap τ.st.heap 0 1 g
 ⟨n0,Ot g.1 (.int 0) nE 0,b0,Ot g.2 0 nB 0⟩
def FQ(nv:Nat):List E->Bool
 |[]=>true
 |e::es=>match e.scp nv with
  |true=>FQ nv es
  |false=>false
def CP(nb:Nat):List Nat->Bool
 |[]=>true
 |b::bs=>match Nat.blt b nb with
  |true=>CP nb bs
  |false=>false
noncomputable def vd(z:Sub)(p v:SV):Bool:=Bool.rec ((p.sub z).beq v) true (isJunk p)
theorem aJL(z:Sub)(p v:SV):vd z p v=(match p with
 |.junk=>true
 |_=>(p.sub z).beq v):=by cases p<;>rfl
noncomputable def aNo(t:Tm):Bool:=T.rec (motive:=fun _=>Bool) true (fun _ _ _ _ _=>false) t
noncomputable def aNp(t:Tm)(f:SV->Tm->Tm->Bool):Bool:=T.rec (motive:=fun _=>Bool) false (fun v l r _ _=>f v l r) t
noncomputable def mo(z:Sub)(p:Tm):Tm->Bool:=
 T.rec (motive:=fun _=>Tm->Bool) aNo (fun p _ _ fl fr t=>aNp t fun v l' r'=>Bool.rec false (Bool.rec false (fr r') (fl l')) (vd z p v)) p
theorem aNm(z:Sub)(p v:SV)(l r l' r':Tm):mo z (.node p l r) (.node v l' r')=(match vd z p v with
  |true=>match mo z l l' with
   |true=>mo z r r'
   |false=>false
  |false=>false):=by
 have h:mo z (.node p l r) (.node v l' r')=Bool.rec (motive:=fun _=>Bool) false (Bool.rec (motive:=fun _=>Bool) false (mo z r r') (mo z l l')) (vd z p v):=rfl
 rw[h]
 cases vd z p v
 ·rfl
 ·cases mo z l l'<;>rfl
def MF(z:Sub)(p x:SObj):Bool:=
 match p with
 |.gone=>true
 |_=>match uE p x with
  |some x'=>(p.sub z).beq x'
  |none=>(p.sub z).beq x
def CI(z:Sub)(heap:T Blk)(nb a:Nat)(p:Blk):Bool:=
 match Nat.blt a nb with
 |true=>match p.obj with
  |.gone=>true
  |_=>match heap.get (cf z.b0 z.bs a)with
   |some x=>lC p.own x.own&&MF z p.obj x.obj
   |none=>false
 |false=>false
def yg(z:Sub)(heap:T Blk)(nb:Nat):T Blk->Nat->Nat->Bool
 |.nil,_,_=>true
 |.node p l r,a,d=>match CI z heap nb a p with
  |true=>match yg z heap nb l (Nat.add a d) (Nat.add d d)with
   |true=>yg z heap nb r (Nat.add a (Nat.add d d)) (Nat.add d d)
   |false=>false
  |false=>false
def jH:T Blk->Nat->Nat->List Nat->List Nat
 |.nil,_,_,acc=>acc
 |.node p l r,a,d,acc=>
  match p.obj with
  |.gone=>jH r (Nat.add a (Nat.add d d)) (Nat.add d d) (jH l (Nat.add a d) (Nat.add d d) acc)
  |_=>jH r (Nat.add a (Nat.add d d)) (Nat.add d d) (jH l (Nat.add a d) (Nat.add d d) (a::acc))
def tY(z:Sub):List Nat->List Nat
 |[]=>[]
 |i::l=>cf z.b0 z.bs i::tY z l
def DV(n:Nat):List Nat->Bool
 |[]=>false
 |m::ms=>match Nat.beq n m with
  |true=>true
  |false=>DV n ms
def Cy:List Nat->Bool
 |[]=>true
 |n::ns=>match DV n ns with
  |true=>false
  |false=>Cy ns
inductive Fit where
 |ok (z:Sub)
 |lack (e:E)
 |bad (n:Nat)
def zg(fs:List E)(z:Sub)(pc:List E):List E->Fit
 |[]=>.ok z
 |e::es=>match d7 fs pc (e.sub z.n0 z.es)with
  |some true=>zg fs z pc es
  |_=>.lack (e.sub z.n0 z.es)
def rj(fs:List E)(n0 b0:Nat)(tmps:Tm)(st:St)(τ:Tmpl):Fit:=
 let z:=Ly n0 b0 tmps st τ
 match Nat.beq (Nat.add n0 (aP z.es)) τ.st.nv&&Nat.beq (Nat.add b0 (aP z.bs)) τ.st.nb&&(FQ st.nv z.es&&CP st.nb z.bs)with
 |true=>match mo z τ.tmps tmps with
  |true=>match yg z st.heap τ.st.nb τ.st.heap 0 1 with
   |true=>match Cy (tY z (jH τ.st.heap 0 1 []))with
    |true=>zg fs z st.pc τ.st.pc
    |false=>.bad 4
   |false=>.bad 3
  |false=>.bad 2
 |false=>.bad 1
noncomputable def T.map{G O:Type}(f:G->O)(t:T G):T O:=T.rec (motive:=fun _=>T O) T.nil (fun v _ _ a b=>T.node (f v) a b) t
def LP:Option Blk->Bool
 |some b=>match b.obj with
  |.cells _ _ _=>true
  |_=>false
 |none=>false
def MI(o:Off):Bool:=
 match fU o with
 |some n=>Nat.beq n 0
 |none=>false
mutual
def SV.norm(h:T Blk):SV->SV
 |.int k e=>.int k e
 |.bool e=>.bool e
 |.str e=>.str e
 |.ptr b o=>.ptr b o
 |.slice b o l c=>match LP (h.get b)&&MI o with
  |true=>.nslice b l c
  |false=>.slice b o l c
 |.nslice b l c=>.nslice b l c
 |.bsl ks e=>.bsl ks e
 |.bptr ks e i j=>.bptr ks e i j
 |.nsl b ks e i c=>.nsl b ks e i c
 |.nptr b ks e i c x j=>.nptr b ks e i c x j
 |.map b=>.map b
 |.func fn fi ca=>.func fn (SV.norms h fi) (SV.norms h ca)
 |.agg cs=>.agg (SV.norms h cs)
 |.tup cs=>.tup (SV.norms h cs)
 |.nilp=>.nilp
 |.nils=>.nils
 |.nilm=>.nilm
 |.nili=>.nili
 |.nilf=>.nilf
 |.junk=>.junk
def SV.norms(h:T Blk):List SV->List SV
 |[]=>[]
 |v::vs=>v.norm h::SV.norms h vs
end
def SObj.norm(h:T Blk):SObj->SObj
 |.cells cs ag e=>.cells (SV.norms h cs) ag e
 |.gone=>.gone
 |.flat ks l n ag e=>.flat ks l n ag e
 |.map es c=>.map es c
 |.mapl k c e=>.mapl k c e
 |.maplp k c e ke s=>.maplp k c e ke s
 |.iter k c e n u=>.iter k c e n u
 |.nest ks l n ag e o=>.nest ks l n ag e o
def Blk.norm(h:T Blk)(b:Blk):Blk:=⟨b.own,b.obj.norm h⟩
def St.norm(st:St):St:=⟨st.nv,st.nb,st.heap.map (Blk.norm st.heap),st.pc⟩
def Lr(fs:List E)(n0 b0:Nat)(tmps:Tm)(st:St)(τ:Tmpl):Fit:=rj fs n0 b0 (tmps.map (SV.norm st.heap)) st.norm τ
def yA(nv:Nat):List E->List E
 |[]=>[]
 |e::es=>match e.scp nv with
  |true=>e::yA nv es
  |false=>yA nv es
def Kp(st:St)(v:SV)(st':St):St:=
 match Nat.beq st.nb st'.nb&&Nat.beq st.nv st'.nv with
 |true=>st'
 |false=>match v.plain&&(v.scp st.nv st.nb&&(st.scp&&nJ st.heap st'.heap))with
  |true=>⟨st.nv,st.nb,st.heap,yA st.nv st'.pc⟩
  |false=>st'
def qT(b:Nat)(m:Nat):Nat:=Nat.lor (Nat.pow 2 b) m
mutual
def SV.blks:SV->Nat->Nat
 |.ptr b _,m=>qT b m
 |.slice b _ _ _,m=>qT b m
 |.nslice b _ _,m=>qT b m
 |.map b,m=>qT b m
 |.nsl b _ _ _ _,m=>qT b m
 |.nptr b _ _ _ _ _ _,m=>qT b m
 |.func _ fi ca,m=>SV.blkss ca (SV.blkss fi m)
 |.agg cs,m=>SV.blkss cs m
 |.tup cs,m=>SV.blkss cs m
 |_,m=>m
def SV.blkss:List SV->Nat->Nat
 |[],m=>m
 |v::vs,m=>SV.blkss vs (SV.blks v m)
end
def abo:List Ent->Nat->Nat
 |[],m=>m
 |x::es,m=>abo es (SV.blks x.v (SV.blks x.k m))
def SObj.blks:SObj->Nat->Nat
 |.cells cs _ _,m=>SV.blkss cs m
 |.map es _,m=>abo es m
 |_,m=>m
def FL(heap:T Blk)(m:Nat):Nat->Nat->Nat->Nat
 |0,_,r=>r
 |n+1,b,r=>match Nat.testBit m b with
  |true=>match heap.get b with
   |some x=>fj (x.obj.blks r) fun r=>FL heap m n (Nat.succ b) r
   |none=>FL heap m n (Nat.succ b) r
  |false=>FL heap m n (Nat.succ b) r
def afG(heap:T Blk)(n b0:Nat):Nat->Nat->Nat
 |0,m=>m
 |k+1,m=>fj (FL heap m n b0 m) fun m'=>match Nat.beq m m' with
  |true=>m
  |false=>afG heap n b0 k m'
def xQ(m:Nat):Nat->Nat->T Blk->T Blk
 |0,_,h=>h
 |n+1,b,h=>match Nat.testBit m b with
  |true=>xQ m n (Nat.succ b) h
  |false=>T.setK h b ⟨true,.gone⟩ fun h=>xQ m n (Nat.succ b) h
def E.vset:E->Nat->Nat
 |.var i,m=>qT i m
 |.ar _ _ a b,m=>E.vset b (E.vset a m)
 |.cmp _ a b,m=>E.vset b (E.vset a m)
 |.mn a b,m=>E.vset b (E.vset a m)
 |.mx a b,m=>E.vset b (E.vset a m)
 |.wr _ a,m=>E.vset a m
 |.not a,m=>E.vset a m
 |.and a b,m=>E.vset b (E.vset a m)
 |.seq a b,m=>E.vset b (E.vset a m)
 |.iff a b,m=>E.vset b (E.vset a m)
 |.imp a b,m=>E.vset b (E.vset a m)
 |.fn _ a,m=>E.vset a m
 |.pr a b,m=>E.vset b (E.vset a m)
 |_,m=>m
mutual
def SV.vset:SV->Nat->Nat
 |.int _ e,m=>e.vset m
 |.bool e,m=>e.vset m
 |.str e,m=>e.vset m
 |.ptr _ o,m=>o.idx.vset m
 |.slice _ o l c,m=>c.vset (l.vset (o.idx.vset m))
 |.nslice _ l c,m=>c.vset (l.vset m)
 |.bsl _ e,m=>e.vset m
 |.bptr _ e i _,m=>i.vset (e.vset m)
 |.nsl _ _ e i _,m=>i.vset (e.vset m)
 |.nptr _ _ e i _ x _,m=>x.vset (i.vset (e.vset m))
 |.func _ fi ca,m=>SV.vsets ca (SV.vsets fi m)
 |.agg cs,m=>SV.vsets cs m
 |.tup cs,m=>SV.vsets cs m
 |_,m=>m
def SV.vsets:List SV->Nat->Nat
 |[],m=>m
 |v::vs,m=>SV.vsets vs (SV.vset v m)
end
def abp:List Ent->Nat->Nat
 |[],m=>m
 |x::es,m=>abp es (x.born.vset (SV.vset x.v (SV.vset x.k m)))
def SObj.vset:SObj->Nat->Nat
 |.gone,m=>m
 |.cells cs t _,m=>t.vset (SV.vsets cs m)
 |.flat _ l n t _,m=>t.vset (n.vset (l.vset m))
 |.nest _ l n t _ o,m=>o.vset (t.vset (n.vset (l.vset m)))
 |.map es c,m=>c.vset (abp es m)
 |.mapl _ _ e,m=>e.vset m
 |.maplp _ _ e ke s,m=>s.vset (ke.vset (e.vset m))
 |.iter _ _ e n u,m=>match u with | none=>n.vset (e.vset m) | some x=>x.vset (n.vset (e.vset m))
def CL(heap:T Blk)(bs:Nat):Nat->Nat->Nat->Nat
 |0,_,r=>r
 |n+1,b,r=>match Nat.testBit bs b with
  |true=>match heap.get b with
   |some x=>fj (x.obj.vset r) fun r=>CL heap bs n (Nat.succ b) r
   |none=>CL heap bs n (Nat.succ b) r
  |false=>CL heap bs n (Nat.succ b) r
def yB(nv live:Nat):List E->List E
 |[]=>[]
 |e::es=>match Nat.beq (Nat.land (Nat.shiftRight (e.vset 0) nv) live) (Nat.shiftRight (e.vset 0) nv)with
  |true=>e::yB nv live es
  |false=>yB nv live es
def yd(st:St)(v:SV)(st':St):St:=
 match Nat.beq st.nb st'.nb with
 |true=>st'
 |false=>match nJ st.heap st'.heap with
  |true=>fj (afG st'.heap (Nat.sub st'.nb st.nb) st.nb 40 (SV.blks v 0)) fun m=>
    fj (Nat.shiftRight (CL st'.heap m (Nat.sub st'.nb st.nb) st.nb (SV.vset v 0)) st.nv) fun live=>
     ⟨st'.nv,st'.nb,xQ m (Nat.sub st'.nb st.nb) st.nb st'.heap,yB st.nv live st'.pc⟩
  |false=>st'
def yf(v:SV)(st:St):List (SV×St)->Bool
 |[]=>false
 |x::xs=>match v.beq x.1&&st.beq x.2 with
  |true=>true
  |false=>yf v st xs
def ja(v:SV):Tm:=.node v .nil .nil
def ahA(n0 b0:Nat)(t:Tm)(st:St):Bool:=Nat.ble n0 st.nv&&(Nat.ble b0 st.nb&&(st.scp&&jg st.nv st.nb t))
def LR:Fit->Bool
 |.ok _=>true
 |_=>false
def pn(fs:List E)(n0 b0:Nat)(t:Tm)(st:St):List (Tm×St)->Bool
 |[]=>false
 |x::xs=>match ahA n0 b0 x.1 x.2&&LR (rj fs n0 b0 t st ⟨x.1,x.2,.int 0⟩)with
  |true=>true
  |false=>pn fs n0 b0 t st xs
def tx:List (SV×St)->List (Tm×St)
 |[]=>[]
 |x::xs=>match x.1 with
  |.junk=>tx xs
  |v=>(ja v,x.2)::tx xs
def xu(fs:List E)(st0:St)(v:SV)(st:St)(acc:List (SV×St)):List (SV×St):=
 match acc with
 |[]=>[(v,st)]
 |_=>match yf v st acc with
  |true=>acc
  |false=>match Nat.beq st0.nb st.nb&&Nat.beq st0.nv st.nv with
   |true=>(v,st)::acc
   |false=>match pn fs st0.nv st0.nb (ja v) (yd st0 v st) (tx acc)with
    |true=>acc
    |false=>(v,yd st0 v st)::acc
def xF(fs:List E)(st:St):List Out->List (SV×St)->Option (List (SV×St))
 |[],acc=>some acc
 |r::rs,acc=>match r.tmps with
  |.node v _ _=>xF fs st rs (xu fs st v (Kp st v r.st) acc)
  |_=>none
def M8(tmps:Tm)(d:Option Tmp)(k:eD):List (SV×St)->aO
 |[]=>some []
 |x::xs=>gc (d8 tmps d x.1 fun tmps=>k tmps x.2) (M8 tmps d k xs)
def FJ(_:List Out):List Out:=[]
def aeW(_:Tm)(_:St)(_:Op):String:= ""
def F5(tb:Tab)(rec:b7)(o:Oper)(tmps:Tm)(st:St)(k:eD):aO:=
 match o.op with
 |.call c=>match CX tb tmps c with
  |some (g,args)=>match jg st.nv st.nb tmps with
   |true=>match rec (.call g args) .nil st (fun r=>some [r])with
    |some rs=>match FJ rs with
     |[]=>match xF tb.facts st rs [] with
      |some l=>M8 tmps o.dst k l
      |none=>none
     |raw=>some raw
    |none=>none
   |false=>rh (o.pos ++ " scope")
  |none=>rh (o.pos ++ " callee" ++ (match o.op with | .call c=>c.args.toList.foldl (fun s x=>s++aeW tmps st (.load 0 x)) "" | _=> ""))
 |_=>rh (o.pos ++ " operation " ++ aIP o.op++aeW tmps st o.op)
def pJ(tb:Tab)(rec:b7)(o:Oper)(tmps:Tm)(k:eD)(n:Nat):St->aO:=
 Nat.rec (motive:=fun _=>St->aO) (fun _=>none) (fun _ ih st=>
  match nw tb tmps st o.op with
  |.val v st=>d8 tmps o.dst v fun tmps=>k tmps st
  |.skip st=>d8 tmps o.dst .undef fun tmps=>k tmps st
  |.ask e=>gc (ih {st with pc:=e::st.pc}) (ih {st with pc:=bk e::st.pc})
  |.lack e=>Em o.pos st e
  |.bad=>match xS tb tmps st o.op with
   |.val v st=>d8 tmps o.dst v fun tmps=>k tmps st
   |.skip st=>d8 tmps o.dst .undef fun tmps=>k tmps st
   |.ask e=>gc (ih {st with pc:=e::st.pc}) (ih {st with pc:=bk e::st.pc})
   |.lack e=>Em o.pos st e
   |.bad=>F5 tb rec o tmps st k) n
def zz(P:Program)(tb:Tab)(rec:b7)(o:Oper)(tmps:Tm)(st:St)(k:eD):aO:=
 match rW P tb (bI tmps) o.op with
 |some v=>d8 tmps o.dst v fun tmps=>k tmps st
 |none=>pJ tb rec o tmps k 40 st
def pK(P:Program)(tb:Tab)(rec:b7)(all:List Oper)(o:Oper)(tmps:Tm)(st:St)(k:eD):aO:=
 match vA all tmps o with
 |.yes=>zz P tb rec o tmps st k
 |.no=>d8 tmps o.dst .undef fun tmps=>k tmps st
 |.bad=>rh o.pos
 |.ask t e want=>match d7 tb.facts st.pc e with
  |some b=>T.setK tmps t (.bool (.bool b)) fun tmps=>match lC b want with
   |true=>zz P tb rec o tmps st k
   |false=>d8 tmps o.dst .undef fun tmps=>k tmps st
  |none=>
   gc (T.setK tmps t (.bool (.bool want)) fun tmps=>zz P tb rec o tmps {st with pc:=(match want with | true=>e | false=>bk e)::st.pc} k)
    (T.setK tmps t (.bool (.bool (!want))) fun tmps=>d8 tmps o.dst .undef fun tmps=>k tmps {st with pc:=(match want with | true=>bk e | false=>e)::st.pc})
def agD(P:Program)(tb:Tab)(rec:b7)(all:List Oper)(l:List Oper):Tm->St->eD->aO:=
 List.rec (motive:=fun _=>Tm->St->eD->aO) (fun tmps st k=>k tmps st)
  (fun o _ ih tmps st k=>pK P tb rec all o tmps st fun tmps st=>ih tmps st k) l
def uq(k:Nat)(x:Info):List Info->Bool
 |[]=>true
 |m::ms=>match Nat.testBit m.wait k with
  |true=>uq k x ms
  |false=>match Nat.beq (Nat.land x.dst m.reads) 0 with
   |true=>match Nat.beq (Nat.land x.dst m.dst) 0 with
    |true=>match Nat.beq (Nat.land m.dst x.reads) 0 with
     |true=>uq k x ms
     |false=>false
    |false=>false
   |false=>false
def i4:List Info->Nat->Bool
 |[],_=>true
 |m::ms,k=>match Nat.blt m.wait (Nat.pow 2 k)with
  |true=>match uq k m ms with
   |true=>i4 ms (Nat.succ k)
   |false=>false
  |false=>false
inductive QR where
 |done (v:SV)
 |split (e:E)
 |bad
def afA(st:St)(r:aO):QR:=
 match r with
 |some os=>match os with
  |[o]=>match o.tmps with
   |.node v _ _=>match v.plain&&(v.scp st.nv st.nb&&st.scp&&nJ st.heap o.st.heap)with
    |true=>.done v
    |false=>.bad
   |.nil=>.bad
  |_=>.bad
 |none=>.bad
def Na(o:Op):Bool:=
 match o with
 |.load _ _=>true
 |.slice _ _ _ _ _=>true
 |.lookup _ _ _ _=>true
 |.binOp _ _ _ _ _=>true
 |.indexAddr _ _ _=>true
 |.index _ _ _=>true
 |.pick _ _ _=>true
 |.call c=>match c.callee with
  |.builtin _=>true
  |_=>false
 |_=>false
def zl(P:Program)(tb:Tab)(rec:b7)(o:Oper)(tmps:Tm)(st:St):QR:=
 match rW P tb (bI tmps) o.op with
 |some v=>.done v
 |none=>match Na o.op with
  |true=>match nw tb tmps st o.op with
   |.val v _=>.done v
   |.ask e=>.split e
   |_=>.bad
  |false=>match o.op with
   |.call c=>match CX tb tmps c with
    |some (g,args)=>afA st (rec (.call g args) .nil st fun o=>some [o])
    |none=>.bad
   |_=>.bad
inductive QE where
 |done (tmps:Tm)
 |split (e:E)
 |bad
def n6(P:Program)(tb:Tab)(rec:b7)(all:List Oper)(st:St):List Oper->Tm->QE
 |[],tmps=>.done tmps
 |o::os,tmps=>match vA all tmps o with
  |.yes=>match zl P tb rec o tmps st with
   |.done v=>d8 tmps o.dst v fun tmps=>n6 P tb rec all st os tmps
   |.split e=>.split e
   |.bad=>.bad
  |.no=>d8 tmps o.dst .undef fun tmps=>n6 P tb rec all st os tmps
  |.bad=>.bad
  |.ask t e want=>match d7 tb.facts st.pc e with
   |some b=>T.setK tmps t (.bool (.bool b)) fun tmps=>match lC b want with
    |true=>match zl P tb rec o tmps st with
     |.done v=>d8 tmps o.dst v fun tmps=>n6 P tb rec all st os tmps
     |.split e=>.split e
     |.bad=>.bad
    |false=>d8 tmps o.dst .undef fun tmps=>n6 P tb rec all st os tmps
   |none=>.split e
def iD:List Oper->Bool
 |[]=>true
 |o::os=>match o.op with
  |.select _ _=>false
  |_=>iD os
def xM(m:Nat):List Nat->Nat->Nat->Nat
 |[],_,r=>r
 |c::cs,j,r=>match Nat.testBit m j with
  |true=>xM m cs (Nat.succ j) (Nat.lor c r)
  |false=>xM m cs (Nat.succ j) r
def C3:List Info->List Nat->List Nat
 |[],acc=>acc
 |m::ms,acc=>fj (xM m.wait acc 0 m.wait) fun c=>C3 ms (acc++[c])
inductive NS where
 |val (v:SV)
 |ask (e:E)
 |bad
def EU(P:Program)(tb:Tab)(tmps:Tm)(st:St)(o:Oper):NS:=
 match rW P tb (bI tmps) o.op with
 |some v=>.val v
 |none=>match Na o.op with
  |true=>match nw tb tmps st o.op with
   |.val v _=>.val v
   |.ask e=>.ask e
   |_=>.bad
  |false=>.bad
def EV(P:Program)(tb:Tab)(all:List Oper)(tmps:Tm)(st:St)(o:Oper):NS:=
 match vA all tmps o with
 |.yes=>EU P tb tmps st o
 |.no=>.val .undef
 |.bad=>.bad
 |.ask _ e want=>match d7 tb.facts st.pc e with
  |some b=>match lC b want with
   |true=>EU P tb tmps st o
   |false=>.val .undef
  |none=>.ask e
def nr(dst:Nat):List Info->Nat->Nat->Nat
 |[],_,r=>r
 |m::ms,j,r=>match Nat.beq (Nat.land dst (Nat.lor m.reads m.dst)) 0 with
  |true=>nr dst ms (Nat.succ j) r
  |false=>nr dst ms (Nat.succ j) (Nat.lor (Nat.pow 2 j) r)
def Cx(cs:Nat)(clos:List Nat):List (Nat×Oper×Info)->Bool
 |[]=>true
 |(j,_,_)::rs=>match dC clos j with
  |some c=>match Nat.beq (Nat.land cs c) cs with
   |true=>Cx cs clos rs
   |false=>false
  |none=>false
def KJ(all:List Oper)(infos:List Info)(clos:List Nat)(listed used:Nat)(m:Info):Bool:=
 match Nat.beq (Nat.land m.dst (Nat.lor m.reads used)) 0 with
 |true=>true
 |false=>Nat.beq (Nat.land m.dst m.reads) 0&&Cx (Nat.land (nr m.dst infos 0 0) listed) clos (fE listed all infos 0)
def lD{O:Type}(P:Program)(tb:Tab)(all:List Oper)(infos:List Info)(clos:List Nat)(st:St):List Oper->List Info->Nat->Nat->Nat->Nat->Tm->(Nat->Nat->Nat->Tm->Option E->O)->O
 |o::os,m::ms,i,listed,used,neu,tmps,k=>
  match Nat.testBit listed i with
  |true=>lD P tb all infos clos st os ms (Nat.succ i) listed used neu tmps k
  |false=>match Nat.beq (Nat.land m.wait listed) m.wait with
   |true=>match EV P tb all tmps st o with
    |.val v=>match KJ all infos clos listed used m with
     |true=>d8 tmps o.dst v fun tmps=>fj (Nat.lor (Nat.pow 2 i) listed) fun listed=>fj (Nat.lor (Nat.lor m.reads m.dst) used) fun used=>fj (Nat.lor (Nat.pow 2 i) neu) fun neu=>
       lD P tb all infos clos st os ms (Nat.succ i) listed used neu tmps k
     |false=>lD P tb all infos clos st os ms (Nat.succ i) listed used neu tmps k
    |.ask e=>k listed used neu tmps (some e)
    |.bad=>lD P tb all infos clos st os ms (Nat.succ i) listed used neu tmps k
   |false=>lD P tb all infos clos st os ms (Nat.succ i) listed used neu tmps k
 |_,_,_,listed,used,neu,tmps,k=>k listed used neu tmps none
def SV.isJunk:SV->Bool
 |.junk=>true
 |_=>false
def pC(P:Program)(tb:Tab)(all:List Oper)(tmps:Tm)(st:St)(neu:Nat):List Oper->Nat->Bool
 |[],_=>true
 |o::os,i=>match Nat.testBit neu i with
  |false=>pC P tb all tmps st neu os (Nat.succ i)
  |true=>match EV P tb all tmps st o with
   |.val v=>match o.dst with
    |none=>pC P tb all tmps st neu os (Nat.succ i)
    |some d=>match tmps.get d with
     |some u=>match !(v.isJunk)&&v.beq u with
      |true=>pC P tb all tmps st neu os (Nat.succ i)
      |false=>false
     |none=>false
   |_=>false
def andNot(a b:Nat):Nat:=Nat.xor a (Nat.land a b)
def CY(P:Program)(tb:Tab)(rec:b7)(all:List Oper)(infos:List Info)(clos:List Nat)(listed used neu:Nat)(tmps:Tm)(st:St)(ih:Nat->Nat->Nat->Tm->St->aO):List (Nat×Oper×Info)->aO
 |[]=>some []
 |(i,o,m)::rs=>match dC clos i with
  | some c=>match fj (andNot neu c) fun neu=>pK P tb rec all o tmps st fun tmps st=>match pC P tb all tmps st neu all 0 with
    |true=>fj (Nat.lor (Nat.pow 2 i) listed) fun listed=>fj (Nat.lor (Nat.lor m.reads m.dst) used) fun used=>ih listed used neu tmps st
    |false=>none with
   |some os=>match CY P tb rec all infos clos listed used neu tmps st ih rs with
    |some os'=>some (os++os')
    |none=>none
   |none=>none
  |none=>none
def Kw(P:Program)(tb:Tab)(rec:b7)(all:List Oper)(infos:List Info)(clos:List Nat)(listed used neu:Nat)(tmps:Tm)(st:St)(k:eD)(ih:Nat->Nat->Nat->Tm->St->aO):aO:=
 match fE listed all infos 0 with
 |[]=>k tmps st
 |rs=>CY P tb rec all infos clos listed used neu tmps st ih rs
def tF(P:Program)(tb:Tab)(rec:b7)(all:List Oper)(infos:List Info)(clos:List Nat)(k:eD)(n:Nat):Nat->Nat->Nat->Tm->St->aO:=
 Nat.rec (motive:=fun _=>Nat->Nat->Nat->Tm->St->aO) (fun _ _ _ _ _=>none) (fun _ ih listed used neu tmps st=>
  lD P tb all infos clos st all infos 0 listed used neu tmps fun listed used neu tmps pend=>match pend with
   |some e=>gc (ih listed used neu tmps {st with pc:=e::st.pc}) (ih listed used neu tmps {st with pc:=bk e::st.pc})
   |none=>Kw P tb rec all infos clos listed used neu tmps st k ih) n
def ra(tmps:Tm)(st:St):aO:=some [⟨.normal,tmps,st⟩]
def jJ(fs:List E)(n0 b0:Nat):List Out->List (Tm×St)->List (Tm×St)
 |[],acc=>acc
 |o::os,acc=>match acc with
  |[]=>jJ fs n0 b0 os [(o.tmps,o.st)]
  |_=>match pn fs n0 b0 o.tmps o.st acc with
   |true=>jJ fs n0 b0 os acc
   |false=>jJ fs n0 b0 os ((o.tmps,o.st)::acc)
def Ni(k:Out->aO):List (Tm×St)->aO
 |[]=>some []
 |x::xs=>gc (k ⟨.normal,x.1,x.2⟩) (Ni k xs)
def NI(P:Program)(tb:Tab)(rec:b7)(all:List Oper)(n:Nat)(tmps:Tm)(st:St)(k:Out->aO):aO:=
 match iD all with
 |true=>match i4 (aW all all) 0 with
  |true=>match tF P tb rec all (aW all all) (C3 (aW all all) []) ra (Nat.add 10 (Nat.add n n)) 0 0 0 tmps st with
   |some outs=>match FJ outs with
    |[]=>Ni k (jJ tb.facts st.nv st.nb outs [])
    |raw=>some raw
   |none=>match n6 P tb rec all st all tmps with
   |.done tmps=>k ⟨.normal,tmps,st⟩
   |.split e=>gc (rec (.draw all n) tmps {st with pc:=e::st.pc} k) (rec (.draw all n) tmps {st with pc:=bk e::st.pc} k)
   |.bad=>rec (.layer all (aW all all) (ol P tb all (aW all all) 0 n [⟨.normal,tmps,st⟩] [])) tmps st k
  |false=>rec (.layer all (aW all all) (ol P tb all (aW all all) 0 n [⟨.normal,tmps,st⟩] [])) tmps st k
 |false=>none
def i0:Code->Option Nat
 |.exit id=>some id
 |.seq a b=>match i0 a with
  |some n=>some n
  |none=>i0 b
 |.block _ b=>i0 b
 |.loop b=>i0 b
 |.scope b=>i0 b
 |.cond _ a b=>match i0 a with
  |some n=>some n
  |none=>i0 b
 |_=>none
def x7(g key:Nat):List Ann->Option Ann
 |[]=>none
 |x::xs=>match Nat.beq x.fn g with
  |true=>match Nat.beq x.key key with
   |true=>some x
   |false=>x7 g key xs
  |false=>x7 g key xs
def Ki(tb:Tab)(g:Nat)(b:Code):Option Ann:=
 match tb.anns with
 |[]=>none
 |l=>match i0 b with
  |some key=>x7 g key l
  |none=>none
def iY(fs:List E)(n0 b0:Nat)(tmps:Tm)(st:St)(bound:Option E):List Tmpl->Option E->Fit
 |[],why=>match why with
  |some e=>.lack e
  |none=>.bad 0
 |τ::τs,why=>match Lr fs n0 b0 tmps st τ with
  |.ok z=>match bound with
   |none=>.ok z
   |some m=>match gZ fs st.pc (τ.less.sub z.n0 z.es) m with
    |true=>match d4 fs st.pc (τ.less.sub z.n0 z.es)with
     |true=>.ok z
     |false=>.lack (bk (aE .lss (τ.less.sub z.n0 z.es) (.int 0)))
    |false=>.lack (aE .lss (τ.less.sub z.n0 z.es) m)
  |.lack e=>iY fs n0 b0 tmps st bound τs (match why with | some e=>some e | none=>some e)
  |.bad _=>iY fs n0 b0 tmps st bound τs why
def nC(_:Tm)(_:St)(f:Fit)(r:aO):aO:=
 match f with
 |.ok _=>r
 |_=>none
def Tmpl.scp(τ:Tmpl):Bool:=τ.st.scp&&jg τ.st.nv τ.st.nb τ.tmps&&τ.less.scp τ.st.nv
def r7(n0 b0:Nat):List Tmpl->Bool
 |[]=>true
 |τ::τs=>match Nat.ble n0 τ.st.nv&&Nat.ble b0 τ.st.nb&&τ.scp with
  |true=>r7 n0 b0 τs
  |false=>false
def Ml(tb:Tab)(rec:b7)(g:FuncId)(b:Code)(n0 b0:Nat)(ts:List Tmpl)(k:Out->aO):List Tmpl->aO
 |[]=>some []
 | τ::τs=>gc (rec (.code g b) τ.tmps τ.st fun o=>match o.ex with
   |.normal=>nC o.tmps o.st (iY tb.facts n0 b0 o.tmps o.st (some τ.less) ts none) (some [])
   |_=>k o) (Ml tb rec g b n0 b0 ts k τs)
def KX(k:Out->aO):List Out->aO
 |[]=>some []
 |o::os=>gc (k o) (KX k os)
def MQ:Nat->Nat->T Blk->T Blk
 |0,_,t=>t
 |k+1,n,t=>MQ k (Nat.succ n) (T.ins t n ⟨true,.gone⟩)
def St.pad(st:St)(n b:Nat):St:=⟨n,b,MQ (Nat.sub b st.nb) st.nb st.heap,st.pc⟩
def F6(tb:Tab)(n b:Nat)(ts:List Tmpl)(xs:List Out)(tmps:Tm)(st:St)(k:Out->aO):aO:=
 match r7 n b ts with
 |true=>nC tmps st (iY tb.facts n b tmps st none ts none) (KX k xs)
 |false=>rh "templates"
def F7(tb:Tab)(rec:b7)(g:FuncId)(b:Code)(tmps:Tm)(st:St)(k:Out->aO):aO:=
 match Ki tb g b with
 |none=>rec (.rounds g b) tmps st k
 |some x=>match x.known with
  |none=>match r7 st.nv st.nb x.ts with
   |true=>nC tmps st (iY tb.facts st.nv st.nb tmps st none x.ts none) (Ml tb rec g b st.nv st.nb x.ts k x.ts)
   |false=>rh "templates"
  |some y=>match Nat.beq st.nv y.n0&&Nat.beq st.nb y.b0 with
   |true=>F6 tb y.n0 y.b0 x.ts y.xs tmps st k
   |false=>match Nat.ble st.nv y.n0&&Nat.ble st.nb y.b0&&st.scp&&jg st.nv st.nb tmps with
    |true=>F6 tb y.n0 y.b0 x.ts y.xs tmps (st.pad y.n0 y.b0) k
    |false=>rh "a loop's variables"
def Nq(rec:b7)(g:FuncId)(tmps:Tm)(st:St)(k:Out->aO)(a b:Code):aO:=
 rec (.code g a) tmps st fun o=>match o.ex with
   |.normal=>rec (.code g b) o.tmps o.st k
   |_=>k o
def Nn(rec:b7)(g:FuncId)(tmps:Tm)(st:St)(k:Out->aO)(id:Nat)(b:Code):aO:=
 rec (.code g b) tmps st fun o=>match o.ex with
   |.exit i=>match Nat.beq i id with
    |true=>k ⟨.normal,o.tmps,o.st⟩
    |false=>k o
   |_=>k o
def No(tb:Tab)(rec:b7)(g:FuncId)(tmps:Tm)(st:St)(k:Out->aO)(c:Operand)(x y:Code):aO:=
 match bI tmps c with
  |some (.bool e)=>match d7 tb.facts st.pc e with
   |some true=>rec (.code g x) tmps st k
   |some false=>rec (.code g y) tmps st k
   |none=>gc (rec (.code g x) tmps {st with pc:=e::st.pc} k) (rec (.code g y) tmps {st with pc:=bk e::st.pc} k)
  |_=>none
def Np(P:Program)(tb:Tab)(rec:b7)(tmps:Tm)(st:St)(k:Out->aO)(ops:Array Oper)(d:Bool):aO:=
 match d with
  |false=>agD P tb rec ops.toList ops.toList tmps st fun tmps st=>k ⟨.normal,tmps,st⟩
  |true=>rec (.draw ops.toList ops.size) tmps st k
noncomputable def NH(P:Program)(tb:Tab)(rec:b7)(g:FuncId)(c:Code)(tmps:Tm)(st:St)(k:Out->aO):aO:=
 Code.rec (motive:=fun _=>aO)
  (k ⟨.normal,tmps,st⟩)
  (fun _ ops d=>Np P tb rec tmps st k ops d)
  (fun a b _ _=>Nq rec g tmps st k a b)
  (fun c x y _ _=>No tb rec g tmps st k c x y)
  (fun id b _=>Nn rec g tmps st k id b)
  (fun b _=>F7 tb rec g b tmps st k)
  (fun _ _ _ _ _ _=>none)
  (fun id=>k ⟨.exit id,tmps,st⟩)
  (fun b _=>rec (.code g b) tmps st k)
  (fun _=>k ⟨.normal,tmps,st⟩)
  (fun _=>none)
  (k ⟨.ret,tmps,st⟩)
  (fun _=>none)
  c
theorem aLU(P:Program)(tb:Tab)(rec:b7)(g:FuncId)(c:Code)(tmps:Tm)(st:St)(k:Out->aO):NH P tb rec g c tmps st k=(match c with
 |.skip=>k ⟨.normal,tmps,st⟩
 |.label _=>k ⟨.normal,tmps,st⟩
 |.ret=>k ⟨.ret,tmps,st⟩
 |.exit id=>k ⟨.exit id,tmps,st⟩
 |.seq a b=>Nq rec g tmps st k a b
 |.block id b=>Nn rec g tmps st k id b
 |.loop b=>F7 tb rec g b tmps st k
 |.cond c x y=>No tb rec g tmps st k c x y
 |.region _ ops d=>Np P tb rec tmps st k ops d
 |.scope b=>rec (.code g b) tmps st k
 |_=>none):=by cases c<;>rfl
def x9(fs:List E)(g:FuncId)(args:List SV)(st:St):List Nat1->NatR
 |[]=>.no
 |x::xs=>match Nat.beq x.fn g with
  |true=>match x.eff fs args st with
   |.outs l=>.outs l
   |_=>x9 fs g args st xs
  |false=>x9 fs g args st xs
def adv(k:Out->aO):List (SV×St)->aO
 |[]=>some []
 |(v,st)::l=>gc (k ⟨.ret,.node v .nil .nil,st⟩) (adv k l)
def NG(tb:Tab)(rec:b7)(g:FuncId)(args:List SV)(st:St)(k:Out->aO):aO:=
 match x9 tb.facts g args st tb.nats with
 |.outs l=>adv k l
 |_=>match tb.fn.get g with
 |some fn=>match fn.body with
  |some c=>match Nat.ble args.length fn.ntmps&&Nat.ble fn.ntmps 1048575 with
   | true=>T.putsK args 0 (T.fill SV.undef 20 fn.ntmps) fun tmps=>rec (.code g c) tmps st fun o=>match o.ex with
     |.exit _=>none
     |_=>match jL tb o.st o.tmps fn.results.toList with
      |some vs=>k ⟨.ret,.node (r8 vs) .nil .nil,o.st⟩
      |none=>none
   |false=>none
  |none=>none
 |none=>none
def xR(P:Program)(tb:Tab)(rec:b7)(all:List Oper)(infos:List Info)(x:Node)(left:Nat):List (Nat×Oper×Info)->List Node->Option (List Node)
 |[],acc=>some acc
 |(i,o,_)::rs,acc=>match pK P tb rec all o x.tmps x.st ra with
  |some os=>fj (Nat.lor (Nat.pow 2 i) x.listed) fun listed=>xR P tb rec all infos x left rs (ol P tb all infos listed left os acc)
  |none=>none
def zA(P:Program)(tb:Tab)(rec:b7)(all:List Oper)(infos:List Info)(k:eD):List Node->List Node->Option (List Node×List Out)
 |[],acc=>some (acc,[])
 |x::xs,acc=>match fE x.listed all infos 0 with
  |[]=>match k x.tmps x.st with
   |some os=>match zA P tb rec all infos k xs acc with
    |some (acc,more)=>some (acc,os++more)
    |none=>none
   |none=>none
  |rs=>match x.left with
   |0=>none
   |left+1=>match xR P tb rec all infos x left rs acc with
    |some acc=>zA P tb rec all infos k xs acc
    |none=>none
def NM(P:Program)(tb:Tab)(rec:b7)(all:List Oper)(infos:List Info)(l:List Node)(tmps:Tm)(st:St)(k:Out->aO):aO:=
 match zA P tb rec all infos (fun tmps st=>k ⟨.normal,tmps,st⟩) l [] with
 |some (next,os)=>match next with
  |[]=>some os
  |_=>match rec (.layer all infos next) tmps st k with
   |some more=>some (os++more)
   |none=>none
 |none=>none
def agF(rec:b7)(g:FuncId)(b:Code)(tmps:Tm)(st:St)(k:Out->aO):aO:=
 rec (.code g b) tmps st fun o=>match o.ex with
  |.normal=>rec (.rounds g b) o.tmps o.st k
  |_=>k o
def aLR(P:Program)(tb:Tab)(rec:b7)(task:Task)(tmps:Tm)(st:St)(k:Out->aO):aO:=
 match task with
 |.code g c=>NH P tb rec g c tmps st k
 |.rounds g c=>agF rec g c tmps st k
 |.call g args=>NG tb rec g args st k
 |.draw all n=>NI P tb rec all n tmps st k
 |.layer all infos l=>NM P tb rec all infos l tmps st k
def run(P:Program)(tb:Tab)(n:Nat):b7:=
 Nat.rec (motive:=fun _=>b7) (fun _ _ _ _=>none) (fun _ ih=>aLR P tb ih) n
def fA(key:Nat):Code->List Code
 |.seq a b=>fA key a++fA key b
 |.cond _ a b=>fA key a++fA key b
 |.block _ b=>fA key b
 |.scope b=>fA key b
 |.loop b=>match i0 b with
  |some n=>match Nat.beq n key with
   |true=>b::fA key b
   |false=>fA key b
  |none=>fA key b
 |_=>[]
def KW:Ex->Ex->Bool
 |.normal,.normal=>true
 |.ret,.ret=>true
 |.exit a,.exit b=>Nat.beq a b
 |_,_=>false
def tM(e:Ex):List Out->List Tmpl
 |[]=>[]
 |x::xs=>match KW e x.ex with
  |true=>⟨x.tmps,x.st,.int 0⟩::tM e xs
  |false=>tM e xs
def Ds:List Out->List Tmpl
 |[]=>[]
 |x::xs=>⟨x.tmps,x.st,.int 0⟩::Ds xs
def aaJ(tb:Tab)(n0 b0:Nat)(ts:List Tmpl)(xs:List Out)(less:E)(o:Out):aO:=
 match o.ex with
 |.normal=>nC o.tmps o.st (iY tb.facts n0 b0 o.tmps o.st (some less) ts none) (some [])
 |_=>nC o.tmps o.st (iY tb.facts n0 b0 o.tmps o.st none (tM o.ex xs) none) (some [])
def acP:aO->Bool
 |some _=>true
 |none=>false
def aaI(P:Program)(tb:Tab)(n:Nat)(g key n0 b0:Nat)(ts:List Tmpl)(xs:List Out)(less:E)(tmps:Tm)(st:St):Bool:=
 match tb.fn.get g with
 |some fn=>match fn.body with
  |some c=>match fA key c with
   |[b]=>match r7 n0 b0 ts&&r7 n0 b0 (Ds xs)with
    |true=>acP (run P tb n (.code g b) tmps st (aaJ tb n0 b0 ts xs less))
    |false=>false
   |_=>false
  |none=>false
 |none=>false
def mq{O:Type}(P:Program)(k:Tab->O):O:=
 T.addsK P.types.toList 0 T.nil fun ty=>T.addsK P.funcs.toList 0 T.nil fun fn=>k ⟨ty,fn,[],[],[]⟩
end
end Go.SX

namespace Go.SX
noncomputable section
def u7(st:St)(cs:List SV)(n:Nat)(el:TypeId):SV×St:=
 (.nslice st.nb (.int (.ofNat n)) (.var st.nv),⟨Nat.succ st.nv,Nat.succ st.nb,st.heap.ins st.nb ⟨true,.cells cs (.var st.nv) el⟩,bk (aE .lss (.var st.nv) (.int (.ofNat n)))::st.pc⟩)
def nK(x:Int):List Int->List Int
 |[]=>[x]
 |y::l=>match leI x y with
  |true=>x::y::l
  |false=>y::nK x l
def fW:List Int->List Int
 |[]=>[]
 |x::l=>nK x (fW l)
def kD:List Int->List SV
 |[]=>[]
 |n::l=>.int .i64 (.int n)::kD l
def n9(st:St)(el:TypeId)(l:List Int):Option (List (SV×St)):=
 match l with
 |[]=>some [(.nils,st)]
 |_=>match st.scp with
  |true=>some [u7 st (kD l) (aP l) el]
  |false=>none
def nT:Option (List (SV×St))->NatR
 |some l=>.outs l
 |none=>.no
def lI(st:St)(e:E)(el:TypeId):SV×St:=
 (.nslice st.nb (.fn 0 e) (.var st.nv),⟨Nat.succ st.nv,Nat.succ st.nb,st.heap.ins st.nb ⟨true,.flat [.int .i64] e (.fn 0 e) (.var st.nv) el⟩,bk (aE .lss (.var st.nv) (.fn 0 e))::st.pc⟩)
def pR:List SV->Option (List Int)
 |[]=>some []
 |v::l=>match v with
  |.int .i64 (.int n)=>match pR l with
   |some r=>some (n::r)
   |none=>none
  |_=>none
def FY(st:St)(b:Nat)(cs:List SV)(ag:E)(el:TypeId)(n:Nat):NatR:=
 match jP cs n with
 |some hd=>match pR hd with
  |some l=>match Nat.ble n 1000000 with
   |true=>match nX cs 0 (kD (fW l))with
    |some cs'=>.outs [(.tup [],{st with heap:=st.heap.set b ⟨true,.cells cs' ag el⟩})]
    |none=>.no
   |false=>.no
  |none=>.no
 |none=>.no
def Nx(st:St)(b:Nat)(l n ag:E)(el:TypeId)(ok:Bool):NatR:=
 match ok with
 |true=>.outs [(.tup [],{st with heap:=st.heap.set b ⟨true,.flat [.int .i64] (.fn 40 l) n ag el⟩})]
 |false=>.lack (bk (aE .lss iV n))
def yu:List CK->Bool
 |[c]=>match c with
  |.int .i64=>true
  |_=>false
 |_=>false
def Nw(fs:List E)(args:List SV)(st:St):NatR:=
 match args with
 |[v]=>match v with
  |.nils=>.outs [(.tup [],st)]
  |.nslice b len _=>match st.heap.get b with
   |some ⟨own,o⟩=>match own with
    |true=>match o with
     |.cells cs ag el=>match eG len with
      |some n=>FY st b cs ag el n
      |none=>.no
     |.flat ks l n ag el=>match len.beq n&&yu ks with
      |true=>Nx st b l n ag el (da fs st.pc n iV)
      |false=>.no
     |_=>.no
    |false=>.no
   |none=>.no
  |.slice b off len _=>match st.heap.get b with
   |some ⟨own,o⟩=>match own with
    |true=>match o with
     |.cells cs ag el=>match eG len,fU off with
      |some n,some 0=>FY st b cs ag el n
      |_,_=>.no
     |_=>.no
    |false=>.no
   |none=>.no
  |_=>.no
 |_=>.no
def agm(f:FuncId):Nat1:=⟨f,Nw⟩
def GL(g1:FuncId)(args:List SV)(st:St):Option SV:=
 match args with
 |[.nils,.func (.func g) [] [.ptr b o]]=>match Nat.beq g g1,fU o with
  |true,some 0=>match st.heap.get b with
   |some ⟨_,.cells (v::_) _ _⟩=>some v
   |_=>none
  |_,_=>none
 |_=>none
def GK(el:TypeId)(st:St)(e:E)(ok:Bool):NatR:=
 match ok with
 |true=>.outs [lI st e el]
 |false=>.lack (bk (aE .lss iV (.fn 0 e)))
def Kl(g1:FuncId)(el:TypeId)(fs:List E)(args:List SV)(st:St):NatR:=
 match GL g1 args st with
 |some v=>match v with
  |.nils=>.outs [(.nils,st)]
  |.nslice b len _=>match st.heap.get b with
   |some ⟨_,o⟩=>match o with
    |.cells cs _ _=>match eG len with
     |some n=>match jP cs n with
      |some hd=>match pR hd with
       |some l=>match Nat.ble n 1000000 with
        |true=>nT (n9 st el l)
        |false=>.no
       |none=>.no
      |none=>.no
     |none=>.no
    |.flat ks l n _ _=>match len.beq n&&yu ks&&st.scp with
     |true=>GK el st l (da fs st.pc len iV)
     |false=>.no
    |_=>.no
   |none=>.no
  |.slice b off len _=>match st.heap.get b with
   |some ⟨_,o⟩=>match o with
    |.cells cs _ _=>match eG len,fU off with
     |some n,some m=>match jP (rc cs m) n with
      |some hd=>match pR hd with
       |some l=>match Nat.ble n 1000000 with
        |true=>nT (n9 st el l)
        |false=>.no
       |none=>.no
      |none=>.no
     |_,_=>.no
    |_=>.no
   |none=>.no
  |.bsl ks e=>match yu ks&&st.scp&&e.scp st.nv with
   |true=>GK el st e (da fs st.pc (.fn 0 e) iV)
   |false=>.no
  |_=>.no
 |none=>.no
def aaw(f g1:FuncId)(el:TypeId):Nat1:=⟨f,Kl g1 el⟩
def KD(args:List SV)(st:St):Option (List (SV×St)):=
 match args with
 |[]=>some [(.bool (.bool true),st)]
 |_=>none
def KE(g:FuncId):Nat1:=⟨g,fun _ args st=>nT (KD args st)⟩
structure Pact where
 fn:FuncId
 args:List SV
 st:St
 posts:List (SV×St)
 deriving Inhabited
def Pact.tmpl(s:Pact):Tmpl:=⟨ja (.tup s.args),s.st,.int 0⟩
def pS(n0:Nat):Nat->List E
 |0=>[]
 |n+1=>.var n0::pS (Nat.succ n0) n
def nU(n0:Nat):Nat->List Nat
 |0=>[]
 |n+1=>n0::nU (Nat.succ n0) n
def M3(z:Sub)(st pre post:St):Sub:=⟨0,z.es++pS st.nv (Nat.sub post.nv pre.nv),0,z.bs++nU st.nb (Nat.sub post.nb pre.nb)⟩
def mg(z:Sub)(pre post:T Blk):Nat->Nat->T Blk->T Blk
 |0,_,heap=>heap
 |n+1,i,heap=>match pre.get i with
  |none=>mg z pre post n (Nat.succ i) heap
  |some p=>match p.obj with
   |.gone=>mg z pre post n (Nat.succ i) heap
   |_=>match post.get i with
    |none=>T.setK heap (cf 0 z.bs i) ⟨true,.gone⟩ fun heap=>mg z pre post n (Nat.succ i) heap
    |some q=>T.setK heap (cf 0 z.bs i) ⟨true,q.obj.sub z⟩ fun heap=>mg z pre post n (Nat.succ i) heap
def rq(z:Sub)(post:T Blk):Nat->Nat->Nat->T Blk->T Blk
 |0,_,_,heap=>heap
 |n+1,i,b,heap=>match post.get i with
  |none=>T.insK heap b ⟨true,.gone⟩ fun heap=>rq z post n (Nat.succ i) (Nat.succ b) heap
  |some q=>T.insK heap b ⟨true,q.obj.sub z⟩ fun heap=>rq z post n (Nat.succ i) (Nat.succ b) heap
def zh(z:Sub)(pc:List E):List E->List E
 |[]=>pc
 |e::es=>e.sub z.n0 z.es::zh z pc es
def vg(z:Sub)(st pre:St)(p:SV×St):SV×St:=
 let z':=M3 z st pre p.2
 (p.1.sub z',⟨Nat.add st.nv (Nat.sub p.2.nv pre.nv),Nat.add st.nb (Nat.sub p.2.nb pre.nb),
  rq z' p.2.heap (Nat.sub p.2.nb pre.nb) pre.nb st.nb (mg z' pre.heap p.2.heap pre.nb 0 st.heap),zh z' st.pc p.2.pc⟩)
def FZ(z:Sub)(st pre:St):List (SV×St)->List (SV×St)
 |[]=>[]
 |p::ps=>vg z st pre p::FZ z st pre ps
def ND(s:Pact)(fs:List E)(args:List SV)(st:St):NatR:=
 match st.scp with
 |true=>match rj fs 0 0 (ja (.tup args)) st s.tmpl with
  |.ok z=>.outs (FZ z st s.st s.posts)
  |.lack e=>.lack e
  |.bad _=>.no
 |false=>.no
def Mf(fs:List E)(p:SV×St):Bool:=
 match p.2.pc with
 |[]=>true
 |c::bP=>match d7 fs bP (bk c)with
  |some b=>!b
  |none=>true
def yH(fs:List E):List (SV×St)->List (SV×St)
 |[]=>[]
 |p::ps=>match Mf fs p with
  |true=>p::yH fs ps
  |false=>yH fs ps
def NC(s:Pact)(fs:List E)(args:List SV)(st:St):NatR:=
 match ND s fs (SV.norms st.heap args) st.norm with
 |.outs l=>.outs (yH fs l)
 |.lack e=>.lack e
 |.no=>.no
def bh(s:Pact):Nat1:=⟨s.fn,NC s⟩
def MN(t:T Blk):Bool:=T.all (fun b=>b.own) t
def DQ(pre post:T Blk):Nat->Bool
 |0=>true
 |n+1=>match DQ pre post n with
  |true=>match post.get n with
   |none=>true
   |some q=>match q.obj with
    |.gone=>true
    |_=>match pre.get n with
     |some p=>match p.obj with
      |.gone=>false
      |_=>true
     |none=>false
  |false=>false
def M2(s:Pact)(p:SV×St):Bool:=
 Nat.ble s.st.nv p.2.nv&&(Nat.ble s.st.nb p.2.nb&&(p.2.scp&&(p.1.scp p.2.nv p.2.nb&&(MN p.2.heap&&DQ s.st.heap p.2.heap s.st.nb))))
def Fz(s:Pact):List (SV×St)->Bool
 |[]=>true
 |p::ps=>match M2 s p with
  |true=>Fz s ps
  |false=>false
def Pact.good(s:Pact):Bool:=s.st.scp&&(SV.scps s.st.nv s.st.nb s.args&&(MN s.st.heap&&Fz s s.posts))
def MM(fs:List E)(s:Pact)(p:SV×St):Bool:=pn fs s.st.nv s.st.nb (ja p.1) p.2 (tx s.posts)
def E6(tb:Tab)(ms:List FM)(s:Pact):List Out->Bool
 |[]=>true
 |o::os=>match o.tmps with
  |.node v _ _=>match MM tb.facts s (nH ms tb.facts (v,o.st))with
   |true=>E6 tb ms s os
   |false=>false
  |.nil=>false
def NB(P:Program)(tb:Tab)(n:Nat)(ms:List FM)(s:Pact):Bool:=
 match s.good with
 |true=>match run P tb n (.call s.fn s.args) .nil s.st (fun o=>some [o])with
  |some os=>E6 tb ms s os
  |none=>false
 |false=>false
def bF(n:Nat)(l:List (Nat×SV)):Tm:=l.foldr (fun p t=>t.set p.1 p.2) (T.fill .junk 20 n)
def bW(l:List Blk):T Blk:=(l.foldl (fun(p:T Blk×Nat) b=>(p.1.ins p.2 b,p.2+1)) (T.nil,0)).1
def fR(a b:E):E:=.cmp .lss a b
def af(a b:E):E:=.not (.cmp .lss b a)
def eV(i:Nat):E:=.var i
def ahI:List Nat->List E
 |[]=>[]
 |i::l=>.not (.cmp .lss (.var i) (.int 0))::.not (.cmp .lss (.int 18446744073709551615) (.var i))::ahI l
def acq:List Nat->List E
 |[]=>[]
 |i::l=>.not (.cmp .lss (.var i) (.int (-9223372036854775808)))::.not (.cmp .lss (.int 9223372036854775807) (.var i))::acq l
end
end Go.SX

namespace Go.SX
noncomputable section
def Ev(ks:List CK)(l n len:E)(cap ag:E)(v:SV)(nv:Nat):SV×Nat:=
 match n.beq len&&cap.beq ag with
 |true=>(.bsl ks (.fn 28 (.pr (.pr (.var nv) len) l)),Nat.succ nv)
 |false=>(v,nv)
def Mb(h:T Blk)(ks0:List CK)(v:SV)(nv:Nat):SV×Nat:=
 match v with
 |.nils=>(.bsl ks0 (.fn 30 (.int 0)),nv)
 |.nslice b len cap=>match h.get b with
  |some ⟨true,.flat ks l n ag _⟩=>Ev ks l n len cap ag v nv
  |some ⟨true,.nest ks l n ag _ _⟩=>Ev ks l n len cap ag v nv
  |_=>(v,nv)
 |_=>(v,nv)
def Ew(h:T Blk)(m:FM)(v:SV)(nv:Nat):SV×Nat:=
 match m with
 |.down ks=>Mb h ks v nv
 |_=>(v,nv)
def un(h:T Blk)(nb:Nat):List FM->List SV->Nat->List SV×Nat
 |m::ms,v::vs,nv=>match Ew h m v nv with
  |(v',nv1)=>match v'.scp nv1 nb with
   |true=>match un h nb ms vs nv1 with
    |(vs',nv')=>(v'::vs',nv')
   |false=>(v::vs,nv)
 |_,vs,nv=>(vs,nv)
def Mc(h:T Blk)(nb:Nat)(ms:List FM)(v:SV)(nv:Nat):SV×Nat:=
 match v with
 |.agg cs=>match un h nb ms cs nv with
  |(cs',nv')=>(.agg cs',nv')
 |v=>match ms with
  |m::_=>Ew h m v nv
  |[]=>(v,nv)
def rz(h:T Blk)(nb:Nat):List (List FM)->List SV->Nat->List SV×Nat
 |ms::mss,v::vs,nv=>match Mc h nb ms v nv with
  |(v',nv1)=>match v'.scp nv1 nb with
   |true=>match rz h nb mss vs nv1 with
    |(vs',nv')=>(v'::vs',nv')
   |false=>(v::vs,nv)
 |_,vs,nv=>(vs,nv)
def Fy:SV->Bool
 |.int _ _=>true
 |.bool _=>true
 |.str _=>true
 |_=>false
def Eu(h:T Blk):List (SV×St)->Option (List (SV×St))
 |[]=>some []
 |y::l=>match Fy y.1 with
  |true=>match Eu h l with
   |some l'=>some ((y.1,⟨y.2.nv,y.2.nb,h,y.2.pc⟩)::l')
   |none=>none
  |false=>none
def Ma(mss:List (List FM))(x:Nat1)(fs:List E)(args:List SV)(st:St):NatR:=
 match st.scp&&SV.scps st.nv st.nb args with
 |true=>match rz st.heap st.nb mss args st.nv with
  |(args',nv')=>match x.eff fs args' ⟨nv',st.nb,.nil,st.pc⟩ with
   |.outs l=>match Eu st.heap l with
    |some l'=>.outs l'
    |none=>.no
   |.lack e=>match e.scp st.nv with
    |true=>.lack e
    |false=>.no
   |.no=>.no
 |false=>.no
def aHV(mss:List (List FM))(x:Nat1):Nat1:=⟨x.fn,Ma mss x⟩
end
end Go.SX
