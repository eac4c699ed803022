/-
  A symbolic executor of the model's code: it reckons all outcomes of a call EK values and memory that are known in part.
-/
import GoSem.Step
set_option linter.unusedVariables false
set_option linter.unusedSimpArgs false
set_option linter.unusedSectionVars false

namespace Go.SX
inductive U where
 |int (n:Int) | bool (b:Bool) | str (s:ByteArray) | lst (l:List U) | bx (a:Option Addr) (n c:Nat) (l:List U)
def U.toI:U->Int | .int n=>n | _=>0
def U.toB:U->Bool | .bool b=>b | _=>false
def U.toS:U->ByteArray | .str s=>s | _=>ByteArray.empty
def U.toL:U->List U | .lst l=>l | .bx _ _ _ l=>l | _=>[]
def U.raw:U->Value | .bx a n c _=>.slice a n c | _=>.slice none 0 0
def U.adr:U->Option Addr | .bx a _ _ _=>a | _=>none
def U.rlen:U->Nat | .bx _ n _ _=>n | _=>0
def U.rcap:U->Nat | .bx _ _ c _=>c | _=>0
def U.cut(w:Nat)(u:U)(l h m:Nat):U:=
 .bx (if m=l then u.adr else u.adr.map (·.add (l*w))) (h-l) (m-l) ((u.toL.take (h*w)).drop (l*w))
def U.fst:U->U | .lst (a::_)=>a | _=>.int 0
def U.snd:U->U | .lst (_::b::_)=>b | _=>.int 0
mutual
def U.eq:U->U->Bool
 |.int a,.int b=>a==b
 |.bool a,.bool b=>a==b
 |.str a,.str b=>a.data==b.data
 |.lst a,.lst b=>U.eqs a b
 |.bx _ _ _ a,.lst b=>U.eqs a b
 |.lst a,.bx _ _ _ b=>U.eqs a b
 |.bx _ _ _ a,.bx _ _ _ b=>U.eqs a b
 |_,_=>false
def U.eqs:List U->List U->Bool
 |[],[]=>true
 |x::xs,y::ys=>U.eq x y&&U.eqs xs ys
 |_,_=>false
end
def abQ(n:Nat):Int:=match n with | 0=>-128 | 1=>-32768 | 2=>-2147483648 | 3=>-9223372036854775808 | _=>0
def abP(n:Nat):Int:=match n with | 0=>127 | 1=>32767 | 2=>2147483647 | 3=>9223372036854775807 | 4=>255 | 5=>65535 | 6=>4294967295 | _=>18446744073709551615
mutual
def U.typ:U->U->Bool
 |.int x,.int k=>decide (k<8/\abQ k.toNat<=x/\x<=abP k.toNat)
 |.bool _,.int k=>k==8
 |.str _,.int k=>k==9
 |.bx _ _ _ l,.lst ks=>U.typs l ks []
 |_,_=>false
def U.typs:List U->List U->List U->Bool
 |[],_,_=>true
 |x::xs,ks,k::r=>U.typ x k&&U.typs xs ks r
 |x::xs,ks,[]=>match ks with
  |k::r=>U.typ x k&&U.typs xs ks r
  |[]=>false
end
def cG(k:Int):List U->Option U
 |[]=>none
 |u::l=>if u.fst.toI=k then some u.snd else cG k l
def cC(k:Int)(v:U):List U->List U
 |[]=>[.lst [.int k,v]]
 |u::l=>if u.fst.toI=k then .lst [.int k,v]::l else u::cC k v l
def q9(k:Int):List U->List U
 |[]=>[]
 |u::l=>if u.fst.toI=k then l else u::q9 k l
def ni(x:Int):List Int->List Int
 |[]=>[x]
 |y::l=>if x<=y then x::y::l else y::ni x l
def ep:List Int->List Int
 |[]=>[]
 |x::l=>ni x (ep l)
def aFJ(l:List U):Bool:=
 decide ((l.map fun u=>u.fst.toI).Nodup)&&(l.all fun u=>decide (-9223372036854775808<=u.fst.toI/\u.fst.toI<=9223372036854775807))&&decide (l.length<=1000000)
def aby(x:U):List U->Nat->Int
 |[],_=>-1
 |y::l,n=>if U.eq x y then n else aby x l (n+1)
mutual
def U.size:U->Nat
 |.int _=>1
 |.bool _=>1
 |.str _=>1
 |.lst l=>U.sizes l+1
 |.bx _ _ _ l=>U.sizes l+1
def U.sizes:List U->Nat
 |[]=>0
 |u::l=>U.size u+U.sizes l
end
def uQ(f:Nat)(a:U):U:=
 match f with
 |0=>.int a.toL.length
 |1=>a.fst.toL.getD a.snd.toI.toNat (.int 0)
 |2=>.lst (a.fst.toL.set a.snd.fst.toI.toNat a.snd.snd)
 |3=>.lst (a.fst.toL++a.snd.toL)
 |4=>.lst ((a.fst.toL.take a.snd.snd.toI.toNat).drop a.snd.fst.toI.toNat)
 |5=>.lst (List.replicate a.fst.toI.toNat a.snd)
 |6=>.int (a.fst.toI+a.snd.toI)
 |7=>.int (a.fst.toI-a.snd.toI)
 |8=>.int (a.fst.toI*a.snd.toI)
 |9=>.int (a.fst.toL.length/a.snd.toI.toNat)
 |10=>.lst []
 |11=>.lst [a]
 |12=>.bool (U.eq a.fst a.snd)
 |13=>.int a.toS.size
 |14=>.str (a.fst.toS++a.snd.toS)
 |15=>.int ((a.fst.toS.data.getD a.snd.toI.toNat 0).toNat)
 |16=>.str (a.fst.toS.extract a.snd.fst.toI.toNat a.snd.snd.toI.toNat)
 |17=>.lst (List.replicate a.fst.toI.toNat a.snd.toL).flatten
 |18=>.lst (a.fst.toL.take a.snd.toI.toNat)
 |19=>.lst (a.fst.toL.drop a.snd.toI.toNat)
 |20=>.int (if a.fst.toB then a.snd.fst.toI else a.snd.snd.toI)
 |21=>.bx a.fst.adr a.fst.rlen a.fst.rcap a.snd.toL
 |22=>.int a.rcap
 |23=>.lst (a.fst::a.snd.toL)
 |24=>U.cut a.fst.fst.toI.toNat a.fst.snd a.snd.fst.toI.toNat a.snd.snd.fst.toI.toNat a.snd.snd.snd.toI.toNat
 |25=>.bool (a.snd.toL.any fun x=>U.eq a.fst x)
 |26=>.int a.rlen
 |27=>.bool (U.typs a.snd.toL a.fst.toL [])
 |28=>.bx a.fst.fst.adr a.fst.snd.toI.toNat a.fst.fst.rcap a.snd.toL
 |29=>.int ((a.fst.toI.toNat-a.snd.toI.toNat:Nat):Int)
 |30=>.bx none 0 0 []
 |31=>.bool a.adr.isNone
 |32=>(cG a.snd.fst.toI a.fst.toL).getD a.snd.snd
 |33=>.bool (cG a.snd.toI a.fst.toL).isSome
 |34=>.lst (cC a.snd.fst.toI a.snd.snd a.fst.toL)
 |35=>.lst (q9 a.snd.toI a.fst.toL)
 |36=>.lst ((ep (a.toL.map fun u=>u.fst.toI)).map U.int)
 |37=>.lst (a.toL.map U.fst)
 |38=>.int (aby a.snd a.fst.toL 0)
 |39=>.bool (aFJ a.toL)
 |40=>.lst ((ep (a.toL.map U.toI)).map U.int)
 |42=>.int ((U.size a:Nat):Int)
 |41=>.str ⟨(a.toL.map fun u=>UInt8.ofNat u.toI.toNat).toArray⟩
 |_=>.int 0
end Go.SX

namespace Go.SX
def bp(u:U):List Int:=u.toL.map U.toI
def ba(n:Nat):Nat:=n
def cX(X:U)(j:Nat):U:=X.toL.getD j (.int 0)
def iX(X:U)(j:Nat):Int:=(cX X j).toI
def nI(l:List U)(j:Nat):Int:=(l.getD j (.int 0)).toI
def da(a x b:Int):Bool:=decide (a<=x/\x<=b)
def Cd(a b:Int):Bool:=da 0 a 500&&da 0 b 1&&(a==0||b==0)
def xh(l:List U)(n:Nat):Bool:=(List.range n).all fun i=>Cd (nI l (i*2)) (nI l (i*2+1))
def nl(p i c t:Int)(l:List U)(q:Bool):Bool:=
 da 0 p 1&&da 1 i 500&&da 0 c 399&&da (-1) t 1&&decide (l.length/2<=4)&&(decide (t<0)||l.length/2==0)&&(!q||decide (0<=t))&&xh l (l.length/2)
def tM(l:List U)(q:Bool)(n:Nat):Bool:=(List.range n).all fun i=>nl (nI l (i*5)) (nI l (i*5+1)) (nI l (i*5+2)) (nI l (i*5+3)) (l.getD (i*5+4) (.int 0)).toL q
def aV(X:U)(k:Nat):List Int:=bp (cX X (6+14*(k/4)+k%4))
def kD(X:U)(k:Nat):List (Int×Int):=(List.range k).flatMap fun z=>(aV X z).map fun i=>(i,((z/4:Nat):Int))
def eF(X:U)(k i:Nat):List (Int×Int):=kD X k++((aV X k).take i).map fun x=>(x,((k/4:Nat):Int))
def i0(X:U)(s:Nat):List Nat:=(List.range s).filter fun i=>decide (nI (cX X 29).toL (i*5+3)<0)
def iq(X:U)(s:Nat):List (Int×Int):=(i0 X s).map fun i=>(nI (cX X 29).toL (i*5+1),nI (cX X 29).toL (i*5))
def gR(X:U)(s:Nat):List (Int×Int):=(i0 X s).map fun i=>(nI (cX X 29).toL (i*5+1),nI (cX X 29).toL (i*5+2))
def io(m:List U):List (Int×Int):=m.map fun u=>(u.fst.toI,u.snd.toI)
def nC(l:List Int):Bool:=match l with | []=>true | x::l=>!l.contains x&&nC l
def gM(m:List U)(l:List (Int×Int)):Bool:=io m==l&&nC (l.map Prod.fst)
def aD(X:U):Nat:=(cX X 0).toL.length/12
def cv(X:U):Nat:=(cX X 29).toL.length/5
def oI(X:U)(i j:Nat):Int:=nI (cX X 0).toL (i*12+j)
def Mn(a0 a1 a2 a3 a4 a5 a6 a7 a8:Int):Bool:=
 da 1 a0 500&&da (-1) a1 399&&da 0 a2 1&&(a1 == -1||(a3==0&&a4==0))&&[a3,a4,a5,a6,a7,a8].all fun j=>da 0 j 99
def rg(X:U)(i:Nat):Bool:=
 da 1 (oI X i 0) 500&&da (-1) (oI X i 1) 399&&da 0 (oI X i 2) 1&&(oI X i 1 == -1||(oI X i 3==0&&oI X i 4==0))&&[3,4,5,6,7,8].all fun j=>da 0 (oI X i j) 99
def cO(X:U):List (Int×Int):=eF X 8 0++iq X (cv X)
def fg(l:List (Int×Int))(k:Int):Option Int:=(l.find? fun p=>p.1==k).map Prod.snd
def uk(X:U)(n:Nat):Bool:=(List.range n).all fun i=>rg X i&&(i==0||decide (oI X (i-1) 0<oI X i 0))&&fg (cO X) (oI X i 0)==some (oI X i 2)&&(match fg (gR X (cv X)) (oI X i 0)with | none=>true | some c=>c==oI X i 1)
def cW(X:U):Bool:=nC ((cO X).map Prod.fst)&&uk X (aD X)&&(cO X).length==aD X
def bB(X:U)(k:Int)(n:Nat):Int:=match (List.range n).find? fun i=>oI X i 0==k with | some i=>((i:Nat):Int) | none=>-1
def qA(X:U)(p:Nat)(q:Nat)(k:Int):Nat:=((List.range q).flatMap fun z=>aV X (4*p+z)).count k
def oK(X:U)(p:Int)(k:Int)(s:Nat):Nat:=((List.range s).filter fun i=>nI (cX X 29).toL (i*5+3) == -1&&nI (cX X 29).toL (i*5+1)==k&&nI (cX X 29).toL (i*5)==p).length
def pj(X:U)(p:Nat)(k:Int):Nat:=qA X p 4 k+oK X p k (cv X)
def uR(X:U)(s:Nat):Bool:=(i0 X s).all fun i=>decide (0<=bB X (nI (cX X 29).toL (i*5+1)) (aD X))&&oI X (bB X (nI (cX X 29).toL (i*5+1)) (aD X)).toNat 1==nI (cX X 29).toL (i*5+2)
def ul(X:U)(n:Nat):Bool:=(List.range n).all fun i=>rg X i&&(i==0||decide (oI X (i-1) 0<oI X i 0))&&pj X (oI X i 2).toNat (oI X i 0)==1
def yH(X:U):Nat:=((List.range 8).map fun z=>(aV X z).length).sum+(i0 X (cv X)).length
def qP(X:U):Bool:=uR X (cv X)&&ul X (aD X)&&yH X==aD X
def cj(X:U):Nat:=(iX X 34).toNat
def fS(X:U):List Int:=aV X (4*cj X+2)
def fk(X:U):List Int:=aV X (4*(1-cj X)+2)
def aW(X:U):List Int:=bp (cX X 31)
def blk(X:U)(i j:Nat):Int:=nI (cX X 32).toL (i*2+j)
def dG(X:U):Nat:=(cX X 32).toL.length/2
def ji(X:U)(n:Nat):Bool:=nC ((aW X).take n)&&((aW X).take n).all fun a=>(fS X).contains a
def du(X:U)(n:Nat)(j:Nat):List Int:=(List.range n).map fun i=>blk X i j
def j9(X:U)(n:Nat):Bool:=nC (du X n 1)&&nC (du X n 0)&&(List.range n).all fun i=>(aW X).contains (blk X i 1)&&(fk X).contains (blk X i 0)
def gJ(X:U):Bool:=ji X (aW X).length&&j9 X (dG X)
def gQ(m:List U)(k:Int):Bool:=((cG k m).getD (.bool false)).toB
def pn(X:U)(n j:Nat)(k:Int):Bool:=match decide (0<k)with
 |true=>((aW X).take n).contains k && !(du X j 1).contains k
 |false=>(du X j 0).contains (-k)
def ip(X:U)(m:List U)(n j:Nat):Bool:=
 ((m.map fun u=>u.fst.toI)++aW X++(du X (dG X) 0).map (fun k=>-k)).all fun k=>gQ m k==pn X n j k
def qu(X:U)(n:Nat):Bool:=(List.range n).all fun i=>(aW X).count (nI (cX X 31).toL i)==1&&(fS X).count (nI (cX X 31).toL i)==1
def s5(X:U)(i k:Nat):Bool:=(List.range k).all fun q=>!(blk X q 1==blk X i 1) && !(blk X q 0==blk X i 0)
def s6(X:U)(n:Nat):Bool:=(List.range n).all fun i=>(aW X).count (blk X i 1)==1&&(fk X).count (blk X i 0)==1&&s5 X i i
def qK(X:U):Bool:=qu X (aW X).length&&s6 X (dG X)
def rx(X:U)(p:Nat):Bool:=da 0 (iX X (1+14*p)) 9999&&([2,3,4,5].all fun j=>da 0 (iX X (j+14*p)) 99)&&da 0 (iX X (13+14*p)) 7&&da 0 (iX X (14+14*p)) 255
def ui(X:U):Bool:=da 0 (iX X 34) 1&&da 0 (iX X 33) 1000&&da 0 (iX X 35) 10&&da (-1) (iX X 36) 1&&da 0 (iX X 37) 2&&decide (aD X<=500)&&decide (cv X<=200)&&decide ((cX X 30).toL.length/5<=200)
def tL(X:U):Bool:=tM (cX X 29).toL false (cv X)&&tM (cX X 30).toL true ((cX X 30).toL.length/5)
def rF(X:U):Bool:=ui X&&rx X 0&&rx X 1&&tL X&&cW X&&gJ X
def rG(X:U):Bool:=ui X&&rx X 0&&rx X 1&&tL X&&qP X&&qK X
def kOu:List U:=[.int 3,.int 3,.int 3,.int 3,.int 3,.int 3,.int 3,.int 3,.int 3,.int 8,.int 8,.int 8]
def kTu:List U:=[.int 3,.int 3]
def DN:List U:=[.int 3,.int 3,.int 3,.int 3,.lst kTu]
def kSu:List U:=[.int 3,.int 3,.int 3,.int 3,.int 3,.lst [.int 3],.lst [.int 3],.lst [.int 3],.lst [.int 3],.int 8,.int 8,.int 8,.int 3,.int 3]
def np:List U:=.lst kOu::(kSu++(kSu++[.lst DN,.lst DN,.lst [.int 3],.lst kTu,.int 3,.int 3,.int 3,.int 3,.int 3]))
def eG(l:List U)(n:Nat):Bool:=(List.range n).all fun i=>decide ((l.getD (i*5+4) (.int 0)).toL.length/2<=6)
def iZ(X:U):Bool:=
 ((List.range 8).all fun z=>decide ((aV X z).length<=40))&&decide (cv X<=20)&&decide ((cX X 30).toL.length/5<=20)&&eG (cX X 29).toL (cv X)&&eG (cX X 30).toL ((cX X 30).toL.length/5)&&decide (aD X<=30)&&decide ((aW X).length<=30)&&decide (dG X<=30)
def gc(l:List U)(c:Int)(j:Nat):Int:=if 0<=c/\c<(l.length/14:Nat)then nI l (c.toNat*14+j)else 0
def Fy(l:List U)(X:U)(p:Int)(n:Nat):List Int:=(List.range n).flatMap fun i=>
 let k:=gc l (oI X i 1) 1;let m:=gc l (oI X i 1) 7
 if oI X i 2==p && !((cX X 0).toL.getD (i*12+9) (.bool false)).toB&&k==1&&decide (0<=m)&&decide (m<4)&&(aV X (4*p.toNat+2)).contains (oI X i 0)then [oI X i 0,m] else []
def C8:List Int->List Int
 |a::_::l=>a::C8 l
 |_=>[]
def oO(X:U)(p:Int):Bool:=da 0 p 1&&rG X
def EE:List Int->List Int
 |_::b::l=>b::EE l
 |_=>[]
def aGx(m:List Int)(c:Int):List Int:=m.set c.toNat (min 99 (m.getD c.toNat 0+1))
def aGy(l:List U)(X:U)(p:Int)(n:Nat):List Int:=((EE (Fy l X p (aD X))).take n).foldl aGx ((List.range 4).map fun k=>iX X (2+14*p.toNat+k))
def L3(l:List U)(X:U)(k:Int):Int:=
 let c:=oI X (bB X k (aD X)).toNat 1
 if gc l c 1==1&&decide (0<=gc l c 7)&&decide (gc l c 7<4)then gc l c 7 else -1
def aJN(l:List U)(X:U)(p:Int)(n:Nat):List Int:=((aV X (4*p.toNat+2)).take n).filter fun k=>decide (0<=L3 l X k) && !((cX X 0).toL.getD ((bB X k (aD X)).toNat*12+9) (.bool false)).toB
def tn(l:List U)(n:Nat):Bool:=(List.range n).all fun i=>decide ((l.getD (i*2+1) (.int 0)).toL.length/5<=5)
def tl(e t:List U):Bool:=decide (e.length/5<=5)&&decide (t.length/2<=3)&&tn t (t.length/2)
def Ea(l:List U)(n:Nat):Bool:=(List.range n).all fun i=>tl (l.getD (i*14+11) (.int 0)).toL (l.getD (i*14+12) (.int 0)).toL
def fH(a:U):Nat->Int | 0=>a.fst.toI | n+1=>fH a.snd n
def bb(a:U)(i:Nat):U:=match i with | 0=>a.fst | n+1=>bb a.snd n
abbrev Pu:=List Int×List Int×List Int
def okC(k c:Int):Bool:=decide (k<0)||c==k
def Dn(k:Int):List Int->Nat->Int
 |_::c::l,i=>if okC k c then(i:Nat)else Dn k l (i+1)
 |_,_=>-1
def aLB(i:Nat)(s:Pu):Pu:=(s.1,s.2.1.take (2*i)++s.2.1.drop (2*i+2),s.2.2++[s.2.1.getD (2*i) 0])
def NM(k:Int)(s:Pu):Option Pu:=if 0<=Dn k s.2.1 0 then some (aLB (Dn k s.2.1 0).toNat s)else none
def aab(b:Nat)(s:Pu):Pu:=(s.1.set b (s.1.getD b 0-1),s.2)
def ad2(k:Nat)(s:Pu):Option Pu:=if 0<s.1.getD k 0 then some (aab k s)else NM k s
def Zn(m:List Int):Nat:=[1,2,3].foldl (fun b k=>if m.getD b 0<m.getD k 0 then k else b) 0
def aG5(s:Pu):Option Pu:=if 0<s.1.getD (Zn s.1) 0 then some (aab (Zn s.1) s)else NM (-1) s
def yn(f:Pu->Option Pu):Nat->Pu->Option Pu
 |0,s=>some s
 |n+1,s=>(yn f n s).bind f
def ad3(c:List Int):Nat->Pu->Option Pu
 |0,s=>some s
 |k+1,s=>(ad3 c k s).bind (yn (ad2 k) (ba (c.getD k 0).toNat))
def Nr(k:Nat):Pu->Option Pu:=if k<4 then ad2 k else aG5
def nG(c:List Int)(k n:Nat)(s:Pu):Option Pu:=(ad3 c k s).bind (yn (Nr k) n)
def aen(l:List U)(X:U)(p:Int):Pu:=((List.range 4).map (fun k=>iX X (2+14*p.toNat+k)),Fy l X p (aD X),[])
def ic(a:U):List Int:=[fH a 0,fH a 1,fH a 2,fH a 3]
def skip(n:Nat)(a:U):U:=match n with | 0=>a | n+1=>(skip n a).snd
def y8(a:U):Pu:=(ic a,bp (bb a 4),bp (bb a 5))
def nJ(a:U):Pu:=aen (bb a 0).toL (bb a 1) (bb a 2).toI
def aEz(c:List Int)(any:Int):Bool:=(c.all fun x=>da 0 x 20)&&da 0 any 20
def fu(a b:List U):Bool:=a.length/5==b.length/5&&U.eqs (a.take (a.length/5*5)) (b.take (b.length/5*5))
def fU(j:Nat)(a b:U):Bool:=if j==29||j==30 then fu a.toL b.toL else if [0,6,7,8,9,20,21,22,23,31,32].contains j then U.eq a b else if [10,11,12,24,25,26].contains j then a.toB==b.toB else a.toI==b.toI
def aHJ(Y X:U):Bool:=(List.range 38).all fun j=>fU j (cX Y j) (cX X j)
def aE7(l:List U)(X:U)(k:Int)(x:List Int):Int:=(x.find? fun id=>L3 l X id==k).getD 0
def dA:U->Bool
 |.bx _ _ _ _=>true
 |.lst _=>true
 |_=>false
def fF(l:List U):Bool:=(List.range l.length).all fun i=>!(i%5==4)||dA (l.getD i (.int 0))
def s7(X:U):Bool:=X.toL.length==38&&[0,6,7,8,9,20,21,22,23,29,30,31,32].all (fun j=>dA (cX X j))&&(fF (cX X 29).toL&&fF (cX X 30).toL)
def aHK(Y X:U):Bool:=(List.range 38).all fun j=>if j==0 then true else if j==29||j==30 then fu (cX Y j).toL (cX X j).toL&&(dA (cX Y j)&&fF (cX Y j).toL)else U.eq (cX Y j) (cX X j)
def Ga(L:List Int)(n:Nat)(l:List U):List U:=
 (List.range l.length).map fun j=>if j%12==9&&decide (j/12<n)&&L.contains (l.getD (j/12*12) (.int 0)).toI then .bool true else l.getD j (.int 0)
def af8(Y X:U)(p:Nat)(m:List Int):Bool:=(List.range 38).all fun j=>
 if j==0 then true
 else if j==29||j==30 then fu (cX Y j).toL (cX X j).toL&&(dA (cX Y j)&&fF (cX Y j).toL)
 else if decide (2+14*p<=j)&&decide (j<6+14*p)then iX Y j==m.getD (j-(2+14*p)) 0 else U.eq (cX Y j) (cX X j)
def adY(Y X:U)(p:Nat)(L m:List Int):Bool:=U.eqs (cX Y 0).toL (Ga L (aD X) (cX X 0).toL)&&af8 Y X p m
def aff:List Int->Bool
 |a::b::l=>decide (a<=b)&&aff (b::l)
 |_=>true
def aD6(l:List Int)(x:Int)(i j:Nat):Bool:=((l.take i).all fun y=>decide (y<x))&&((l.drop j).all fun y=>decide (x<=y))
def fj:List Nat:=[1,2,3,4,5,10,11,12,13,14,15,16,17,18,19,24,25,26,27,28,33,34,35,36,37]
def jD:List Nat:=[0,6,7,8,9,20,21,22,23,29,30,31,32]
def nP(W Y:U)(l:Nat->U):Bool:=(List.range 38).all fun j=>match jD.idxOf? j with
 |some i=>if j==29||j==30 then fu (cX W j).toL (l i).toL else U.eqs (cX W j).toL (l i).toL
 |none=>fU j (cX W j) (cX Y (fj.idxOf j))
def af9(Y X:U)(p:Nat)(m:List Int):Bool:=(List.range 25).all fun k=>let j:=fj.getD k 0
 if decide (2+14*p<=j)&&decide (j<6+14*p)then iX Y k==m.getD (j-(2+14*p)) 0 else U.eq (cX Y k) (cX X j)
def Cm(x y:Int):Int:=IntKind.i64.wrap ((BitVec.ofInt IntKind.i64.bits x &&& BitVec.ofInt IntKind.i64.bits y).toNat:Nat)
def iM(l:List U)(c k:Int):Bool:=Cm (gc l c 10) k==k
def tJ(l:List U)(c:Int):Bool:=c == -1||gc l c 1==2
def xG(l:List U)(X:U)(p:Int)(i:Nat):Bool:=oI X i 2==p&&tJ l (oI X i 1)&&(aV X (4*p.toNat+2)).contains (oI X i 0)
def d4(l:List U)(X:U)(p:Int)(n:Nat):List Int:=((List.range n).filter (xG l X p)).map fun i=>oI X i 0
def mR(l:List U)(X:U)(p:Int)(n:Nat):List Int:=((aV X (4*p.toNat+2)).take n).filter fun k=>tJ l (oI X (bB X k (aD X)).toNat 1)
def aJO(l:List U):Bool:=(List.range (l.length/12)).all fun q=>decide (1<=nI l (q*12))&&decide (nI l (q*12)<=500)&&(decide (l.length/12<=q+1)||decide (nI l (q*12)<nI l ((q+1)*12)))
def aD5(l:List U)(x:Int)(i j:Nat):Bool:=(List.range (l.length/12)).all fun q=>(decide (i<=q)||decide (nI l (q*12)<x))&&(decide (q<j)||decide (x<=nI l (q*12)))
def aFk(l:List U)(x y:Int)(n:Nat):Bool:=(List.range n).any fun q=>nI l (q*2)==x&&nI l (q*2+1)==y
def Ck(l:List U)(j:Nat)(x:Int)(n:Nat):Bool:=(List.range n).any fun q=>nI l (q*2+j)==x
def Zr(l:List U)(X:U)(x y:Int):Bool:=
 let i:=(bB X x (aD X)).toNat;let j:=(bB X y (aD X)).toNat
 !((cX X 0).toL.getD (i*12+9) (.bool false)).toB && !(Ck (cX X 32).toL 0 x (dG X)) && !(Ck (cX X 32).toL 1 y (dG X)) && !(iM l (oI X j 1) 2 && !(iM l (oI X i 1) 2))
def J2(l:List U)(X:U)(B A:List Int)(n m:Nat):List Int:=
 ((B.take n).flatMap fun x=>A.flatMap fun y=>if Zr l X x y then [x,y] else [])++((B.drop n).take 1).flatMap fun x=>(A.take m).flatMap fun y=>if Zr l X x y then [x,y] else []
def aGh(l:List U)(X:U)(x y:Int):Bool:=
 let B:=d4 l X (1-cj X) (aD X);let L:=J2 l X B (ep (aW X)) B.length 0
 (List.range (L.length/2)).any fun q=>L.getD (q*2) 0==x&&L.getD (q*2+1) 0==y
def lI(l:List Nat)(Y X:U):Bool:=l.all fun k=>if k==29||k==30 then fu (cX Y k).toL (cX X k).toL&&(dA (cX Y k)&&fF (cX Y k).toL)else U.eq (cX Y k) (cX X k)
def EC(Y X:U):Bool:=(List.range 25).all fun k=>U.eq (cX Y k) (cX X (fj.getD k 0))
def hE(l:List U)(X:U)(k:Int):Bool:=
 let i:=(bB X k (aD X)).toNat
 !((cX X 0).toL.getD (i*12+9) (.bool false)).toB && !((aW X).contains k)&&(!((cX X 0).toL.getD (i*12+10) (.bool false)).toB||iM l (oI X i 1) 1)
def hG(l:List U)(X:U):List Int:=(d4 l X (cj X) (aD X)).filter (hE l X)
def aG1(f:Nat)(a:U):U:=
 match f with
 |101=>.bool (xh a.fst.toL (ba a.snd.toI.toNat))
 |102=>.bool (nl a.fst.toI a.snd.fst.toI a.snd.snd.fst.toI a.snd.snd.snd.fst.toI a.snd.snd.snd.snd.fst.toL a.snd.snd.snd.snd.snd.toB)
 |103=>.bool (tM a.fst.toL a.snd.fst.toB (ba a.snd.snd.toI.toNat))
 |104=>.bool (gM a.fst.toL (eF a.snd.fst (ba (a.snd.snd.fst.toI.toNat*4+a.snd.snd.snd.fst.toI.toNat)) (ba a.snd.snd.snd.snd.toI.toNat)))
 |105=>.bool (gM a.fst.toL (eF a.snd.fst 8 0++iq a.snd.fst (ba a.snd.snd.toI.toNat)))
 |106=>.bool (gM a.fst.toL (gR a.snd.fst (ba a.snd.snd.toI.toNat)))
 |107=>.bool (uk a.fst (ba a.snd.toI.toNat))
 |108=>.bool (cW a)
 |109=>.bool (bp a.fst==aV a.snd.fst (a.snd.snd.fst.toI.toNat*4+a.snd.snd.snd.toI.toNat))
 |110=>.bool (gJ a)
 |111=>.bool (ji a.fst (ba a.snd.toI.toNat))
 |112=>.bool (j9 a.fst (ba a.snd.toI.toNat))
 |113=>.bool (ip a.snd.fst a.fst.toL (ba a.snd.snd.fst.toI.toNat) (ba a.snd.snd.snd.toI.toNat))
 |114=>.bool ((bp a.fst).contains a.snd.toI)
 |115=>.bool (rF a)
 |116=>.bool (s7 a)
 |117=>.bool (iZ a)
 |118=>.bool (rx a.fst a.snd.toI.toNat)
 |120=>.int (bB a.fst a.snd.fst.toI (ba a.snd.snd.toI.toNat))
 |121=>.int ((bp a.fst).count a.snd.toI:Nat)
 |122=>.int (pj a.fst a.snd.fst.toI.toNat a.snd.snd.toI:Nat)
 |123=>.bool (uR a.fst (ba a.snd.toI.toNat))
 |124=>.bool (ul a.fst (ba a.snd.toI.toNat))
 |125=>.bool (qP a)
 |126=>.bool (qu a.fst (ba a.snd.toI.toNat))
 |127=>.bool (s6 a.fst (ba a.snd.toI.toNat))
 |128=>.bool (s5 a.fst (ba a.snd.fst.toI.toNat) (ba a.snd.snd.toI.toNat))
 |129=>.bool (qK a)
 |130=>.bool (rG a)
 |131=>.int ((((bp a.fst).take (ba a.snd.snd.toI.toNat)).count a.snd.fst.toI:Nat))
 |132=>.int (qA a.fst a.snd.fst.toI.toNat (ba a.snd.snd.fst.toI.toNat) a.snd.snd.snd.toI:Nat)
 |133=>.int (oK a.fst a.snd.fst.toI a.snd.snd.fst.toI (ba a.snd.snd.snd.toI.toNat):Nat)
 |134=>.int ((((List.range (ba a.snd.toI.toNat)).map fun z=>(aV a.fst z).length).sum:Nat))
 |135=>.int (((i0 a.fst (ba a.snd.toI.toNat)).length:Nat))
 |136=>.bool ((aW a.fst).count (blk a.fst (ba a.snd.toI.toNat) 1)==1&&(fk a.fst).count (blk a.fst (ba a.snd.toI.toNat) 0)==1)
 |137=>.bool (Mn (fH a 0) (fH a 1) (fH a 2) (fH a 3) (fH a 4) (fH a 5) (fH a 6) (fH a 7) a.snd.snd.snd.snd.snd.snd.snd.snd.toI)
 |141=>.int (gc a.fst.toL a.snd.toI 1)
 |142=>.int (gc a.fst.toL a.snd.toI 7)
 |143=>.bool (bp a.fst==Fy a.snd.fst.toL a.snd.snd.fst a.snd.snd.snd.fst.toI (ba a.snd.snd.snd.snd.toI.toNat))
 |144=>.bool (bp a.fst==C8 (Fy a.snd.fst.toL a.snd.snd.fst a.snd.snd.snd.toI (aD a.snd.snd.fst)))
 |145=>.bool (oO a.fst a.snd.toI)
 |146=>.bool ([0,1,2,3].all (fun k=>da 0 (fH a k) 20)&&da 0 (a.snd.snd.snd.snd.toI) 20)
 |147=>.bool ([fH a 0,fH a 1,fH a 2,fH a 3]==(let a:=a.snd.snd.snd.snd;aGy a.fst.toL a.snd.fst a.snd.snd.fst.toI (ba a.snd.snd.snd.toI.toNat)))
 |148=>.bool (bp a.fst==(C8 (bp a.snd.fst)).take (ba a.snd.snd.toI.toNat))
 |150=>.int (L3 a.fst.toL a.snd.fst a.snd.snd.toI)
 |151=>.bool (bp a.fst==aJN a.snd.fst.toL a.snd.snd.fst a.snd.snd.snd.fst.toI (ba a.snd.snd.snd.snd.toI.toNat))
 |152=>.bool (bp a.fst==ep ((bp a.snd.fst).take (ba a.snd.snd.toI.toNat)))
 |153=>.bool ((bp a.fst).all fun k=>decide (0<=bB a.snd k (aD a.snd)))
 |155=>.bool (Ea a.fst.toL (ba a.snd.toI.toNat))
 |156=>.bool (tl a.fst.toL a.snd.toL)
 |157=>.bool (tn a.fst.toL (ba a.snd.toI.toNat))
 |158=>.bool (eG a.fst.toL (ba a.snd.toI.toNat))
 |159=>.bool ((List.range 8).all fun z=>decide ((aV a z).length<=40))
 |160=>.bool (((bp a.fst).take (ba a.snd.snd.toI.toNat)).all fun x=>decide (x<a.snd.fst.toI))
 |161=>.bool ((bp a.fst).take (ba a.snd.snd.toI.toNat)==(bp a.snd.fst).take (ba a.snd.snd.toI.toNat))
 |170=>.bool ((yn (Nr (bb a 6).toI.toNat) (ba (bb a 7).toI.toNat) (y8 (skip 8 a))).any fun s=>s==y8 a)
 |171=>.bool ((yn (Nr (bb a 0).toI.toNat) (ba (bb a 1).toI.toNat) (y8 (skip 2 a))).isNone)
 |174=>.bool ((NM (bb a 2).toI ([],bp (bb a 3),bp (bb a 4))).any fun s=>s==([],bp (bb a 0),bp (bb a 1)))
 |175=>.int (Dn a.fst.toI ((bp a.snd.fst).take (2*ba a.snd.snd.toI.toNat)) 0)
 |176=>.bool ((nG (ic (skip 8 a)) (ba (bb a 6).toI.toNat) (ba (bb a 7).toI.toNat) (nJ (skip 12 a))).any fun s=>s==y8 a)
 |177=>.bool ((nG (ic (skip 2 a)) (ba (bb a 0).toI.toNat) (ba (bb a 1).toI.toNat) (nJ (skip 6 a))).isNone)
 |178=>.bool ((nG (ic (skip 8 a)) (ba (bb a 6).toI.toNat) (ba (bb a 7).toI.toNat) (nJ (skip 12 a))).any fun s=>(s.1,C8 s.2.1,s.2.2)==y8 a)
 |179=>.int (aE7 (bb a 2).toL (bb a 3) (bb a 1).toI (bp (bb a 0)))
 |181=>.bool (U.eqs (a.fst.toL.take (ba a.snd.snd.toI.toNat)) (a.snd.fst.toL.take (ba a.snd.snd.toI.toNat)))
 |182=>.bool (oO (bb a 6) (bb a 7).toI&&aEz (ic a) (bb a 4).toI&&(nG (ic a) 4 (ba (bb a 4).toI.toNat) (nJ (skip 5 a))).isSome)
 |183=>.bool ((nG (ic (skip 5 a)) 4 (ba (bb a 9).toI.toNat) (nJ (skip 10 a))).any fun s=>s.1==ic a&&ep s.2.2==bp (bb a 4))
 |185=>.bool ((ic a).getD (bb a 4).toI.toNat 0==0)
 |186=>.bool (bp a.fst==(bp a.snd.fst).take (2*ba a.snd.snd.toI.toNat)++(bp a.snd.fst).drop (2*ba a.snd.snd.toI.toNat+2))
 |188=>.bool ((ic a).all fun x=>da 0 x 99)
 |187=>.bool (fu a.fst.toL a.snd.toL)
 |189=>.bool (aHJ a.fst a.snd)
 |190=>.bool (fF a.toL)
 |200=>.bool (U.eqs a.fst.toL a.snd.toL)
 |201=>.bool (dA a)
 |199=>.bool ((nG (ic (skip 2 a)) 4 (ba (bb a 6).toI.toNat) (nJ (skip 7 a))).any fun s=>ep s.2.2==bp (bb a 1)&&af8 a.fst (bb a 8) (bb a 9).toI.toNat s.1)
 |198=>.bool ((nG (ic (skip 1 a)) 4 (ba (bb a 5).toI.toNat) (nJ (skip 6 a))).any fun s=>adY a.fst (bb a 7) (bb a 8).toI.toNat (ep s.2.2) s.1)
 |196=>.bool (aHK a.fst a.snd)
 |195=>.bool (dA a&&fF a.toL)
 |191=>.bool (U.eqs a.fst.toL (Ga (bp (bb a 2)) (ba a.snd.snd.snd.toI.toNat) (bb a 1).toL))
 |193=>.bool (aff (bp a))
 |194=>.bool (aD6 (bp a.fst) (bb a 1).toI (ba (bb a 2).toI.toNat) (ba a.snd.snd.snd.toI.toNat))
 |184=>.bool (bp a.fst==((bp a.snd.fst).take (ba a.snd.snd.snd.toI.toNat)).filter fun x=>!(x==a.snd.snd.fst.toI))
 |220=>.bool (U.eqs a.fst.toL (Ga ((bp (bb a 2)).take (ba a.snd.snd.snd.toI.toNat)) ((bb a 1).toL.length/12) (bb a 1).toL))
 |221=>.bool (nP a.fst a.snd.fst fun i=>bb a (2+i))
 |229=>.bool (aFk a.fst.toL a.snd.fst.toI a.snd.snd.fst.toI (ba a.snd.snd.snd.toI.toNat))
 |230=>.bool (Ck a.fst.toL 1 a.snd.fst.toI (ba a.snd.snd.toI.toNat))
 |231=>.bool (Ck a.fst.toL 0 a.snd.fst.toI (ba a.snd.snd.toI.toNat))
 |232=>.bool (bp a.fst==(let C:=a.snd.fst.toL;let X:=a.snd.snd;let p:=1-cj X;let B:=d4 C X p (aD X);J2 C X B (ep (aW X)) B.length 0))
 |233=>.bool (U.eqs a.fst.toL (a.snd.fst.toL++[a.snd.snd.fst,a.snd.snd.snd]))
 |234=>.bool (aGh a.fst.toL a.snd.fst a.snd.snd.fst.toI a.snd.snd.snd.toI)
 |235=>.bool (lI ((List.range 38).filter fun k=>!(k==a.snd.snd.toI.toNat)) a.fst a.snd.fst)
 |238=>.bool (lI (List.range 32) a.fst a.snd)
 |236=>.bool (EC a.fst a.snd)
 |237=>.bool (bp a.fst==bp a.snd)
 |239=>.bool (hE a.fst.toL a.snd.fst a.snd.snd.toI)
 |241=>.bool (bp a.fst==hG a.snd.fst.toL a.snd.snd)
 |242=>.bool (bp a.fst==((bp (bb a 1)).take (ba a.snd.snd.snd.snd.toI.toNat)).filter (hE (bb a 2).toL (bb a 3)))
 |243=>.bool (let i:=ba (bb a 3).toI.toNat;let j:=ba a.snd.snd.snd.snd.toI.toNat;let B:=d4 (bb a 1).toL (bb a 2) (cj (bb a 2)) (aD (bb a 2));(bp a.fst).take i==(B.take j).filter (hE (bb a 1).toL (bb a 2))&&(bp a.fst).drop j==B.drop j)
 |244=>.bool (((bp a.fst).take (ba a.snd.snd.snd.toI.toNat)).all (hE a.snd.fst.toL a.snd.snd.fst))
 |246=>.bool ((hG a.fst.toL a.snd.fst).contains a.snd.snd.toI)
 |247=>.bool (let X:=a.snd.fst;let k:=a.snd.snd.snd.toI;let i:=(bB X k (aD X)).toNat;U.eqs a.fst.toL ((cX X 0).toL.set (i*12+9) (.bool (!(iM a.snd.snd.fst.toL (oI X i 1) 4)))))
 |248=>.bool (U.eqs a.fst.toL (a.snd.fst.toL++[a.snd.snd]))
 |249=>.bool (lI ((List.range 30).map fun k=>k+1) a.fst a.snd)
 |250=>.bool (lI ((List.range 38).filter fun k=>!(k==0||k==31)) a.fst a.snd)
 |228=>.bool (aJO a.toL)
 |222=>.bool (iM a.fst.toL a.snd.fst.toI a.snd.snd.toI)
 |223=>.bool (tJ a.fst.toL a.snd.toI)
 |224=>.bool (bp a.fst==d4 a.snd.fst.toL a.snd.snd.fst a.snd.snd.snd.fst.toI (ba a.snd.snd.snd.snd.toI.toNat))
 |225=>.bool (bp a.fst==mR a.snd.fst.toL a.snd.snd.fst a.snd.snd.snd.fst.toI (ba a.snd.snd.snd.snd.toI.toNat))
 |226=>.bool (aD5 a.fst.toL a.snd.fst.toI (ba a.snd.snd.fst.toI.toNat) (ba a.snd.snd.snd.toI.toNat))
 |227=>.bool (bp a.fst==J2 (bb a 1).toL (bb a 2) (bp (bb a 3)) (bp (bb a 4)) (ba (bb a 5).toI.toNat) (ba a.snd.snd.snd.snd.snd.snd.toI.toNat))
 |218=>.bool ((nG (ic (skip 2 a)) 4 (ba (bb a 6).toI.toNat) (nJ (skip 7 a))).any fun s=>ep s.2.2==bp (bb a 1)&&af9 a.fst (bb a 8) (bb a 9).toI.toNat s.1)
 |219=>.bool ((nG (ic (skip 2 a)) 4 (ba (bb a 6).toI.toNat) (nJ (skip 7 a))).any fun s=>U.eqs (bb a 1).toL (Ga (ep s.2.2) (aD (bb a 8)) (cX (bb a 8) 0).toL)&&af9 a.fst (bb a 8) (bb a 9).toI.toNat s.1)
 |_=>.int 0
end Go.SX

namespace Go.SX
noncomputable section
inductive T (G:Type) where
 |nil
 |node (v:G) (l r:T G)
 deriving Inhabited
noncomputable def T.get{G:Type}(t:T G):Nat->Option G:=
 T.rec (motive:=fun _=>Nat->Option G) (fun _=>none) (fun v _ _ gl gr n=>
  Nat.rec (some v) (fun n _=>Bool.rec (gr (Nat.div n 2)) (gl (Nat.div n 2)) (Nat.beq (Nat.mod n 2) 0)) n) t
noncomputable def T.set{G:Type}(t:T G):Nat->G->T G:=
 T.rec (motive:=fun _=>Nat->G->T G) (fun _ _=>T.nil) (fun v l r sl sr n x=>
  Nat.rec (T.node x l r) (fun n _=>Bool.rec (T.node v l (sr (Nat.div n 2) x)) (T.node v (sl (Nat.div n 2) x) r) (Nat.beq (Nat.mod n 2) 0)) n) t
noncomputable def T.setK{G O:Type}(t:T G):Nat->G->(T G->O)->O:=
 T.rec (motive:=fun _=>Nat->G->(T G->O)->O) (fun _ _ k=>k T.nil) (fun v l r sl sr n x k=>
  Nat.rec (k (T.node x l r)) (fun n _=>Bool.rec (sr (Nat.div n 2) x fun r'=>k (T.node v l r')) (sl (Nat.div n 2) x fun l'=>k (T.node v l' r)) (Nat.beq (Nat.mod n 2) 0)) n) t
noncomputable def T.ins{G:Type}(t:T G):Nat->G->T G:=
 T.rec (motive:=fun _=>Nat->G->T G) (fun n x=>Nat.rec (T.node x T.nil T.nil) (fun _ _=>T.nil) n) (fun v l r sl sr n x=>
  Nat.rec (T.node x l r) (fun n _=>Bool.rec (T.node v l (sr (Nat.div n 2) x)) (T.node v (sl (Nat.div n 2) x) r) (Nat.beq (Nat.mod n 2) 0)) n) t
noncomputable def T.insK{G O:Type}(t:T G):Nat->G->(T G->O)->O:=
 T.rec (motive:=fun _=>Nat->G->(T G->O)->O) (fun n x k=>Nat.rec (k (T.node x T.nil T.nil)) (fun _ _=>k T.nil) n) (fun v l r sl sr n x k=>
  Nat.rec (k (T.node x l r)) (fun n _=>Bool.rec (sr (Nat.div n 2) x fun r'=>k (T.node v l r')) (sl (Nat.div n 2) x fun l'=>k (T.node v l' r)) (Nat.beq (Nat.mod n 2) 0)) n) t
noncomputable def T.all{G:Type}(p:G->Bool)(t:T G):Bool:=
 T.rec (motive:=fun _=>Bool) true (fun v _ _ a b=>Bool.rec false (Bool.rec false b a) (p v)) t
noncomputable def T.fill{G:Type}(v:G)(d:Nat):Nat->T G:=
 Nat.rec (motive:=fun _=>Nat->T G) (fun _=>T.nil) (fun _ ih n=>Nat.rec T.nil (fun m _=>T.node v (ih (Nat.div (Nat.succ m) 2)) (ih (Nat.div m 2))) n) d
noncomputable def T.putsK{G O:Type}(l:List G):Nat->T G->(T G->O)->O:=
 List.rec (motive:=fun _=>Nat->T G->(T G->O)->O) (fun _ t k=>k t) (fun x _ ih n t k=>T.setK t n x fun t'=>ih (Nat.succ n) t' k) l
noncomputable def T.addsK{G O:Type}(l:List G):Nat->T G->(T G->O)->O:=
 List.rec (motive:=fun _=>Nat->T G->(T G->O)->O) (fun _ t k=>k t) (fun x _ ih n t k=>T.insK t n x fun t'=>ih (Nat.succ n) t' k) l
def qO(f:Nat)(a:U):U:=match Nat.blt f 100 with | true=>uQ f a | false=>aG1 f a
inductive E where
 |int (n:Int) | bool (b:Bool) | str (s:ByteArray) | var (i:Nat)
 |ar (o:BinOp) (k:IntKind) (a b:E)
 |cmp (o:BinOp) (a b:E)
 |mn (a b:E) | mx (a b:E)
 |wr (k:IntKind) (a:E)
 |not (a:E) | and (a b:E) | seq (a b:E) | iff (a b:E) | imp (a b:E)
 |fn (f:Nat) (a:E) | pr (a b:E)
 deriving Inhabited
def jh(o:BinOp)(k:IntKind)(x y:Int):Int:=
 match o with
 |.add=>k.wrap (x+y)
 |.sub=>k.wrap (x-y)
 |.mul=>k.wrap (x*y)
 |.quo=>k.wrap (x.tdiv y)
 |.rem=>x.tmod y
 |.and=>k.wrap (BitVec.ofInt k.bits x &&& BitVec.ofInt k.bits y).toNat
 |.or=>k.wrap (BitVec.ofInt k.bits x ||| BitVec.ofInt k.bits y).toNat
 |.xor=>k.wrap (BitVec.ofInt k.bits x ^^^ BitVec.ofInt k.bits y).toNat
 |.andNot=>k.wrap (BitVec.ofInt k.bits x &&& ~~~BitVec.ofInt k.bits y).toNat
 |.shl=>k.wrap (x*2^(min y.toNat k.bits))
 |.shr=>x.fdiv (2^(min y.toNat k.bits))
 |_=>0
def cf(o:BinOp)(x y:Int):Bool:=
 match o with
 |.eql=>x==y
 |.neq=>x != y
 |.lss=>decide (x<y)
 |.leq=>decide (x<=y)
 |.gtr=>decide (x>y)
 |.geq=>decide (x>=y)
 |_=>false
def mM:List UInt8->List UInt8->Bool
 |[],[]=>true
 |x::xs,y::ys=>match Nat.beq x.toNat y.toNat with | true=>mM xs ys | false=>false
 |_,_=>false
def jn(a b:ByteArray):Bool:=mM a.data.toList b.data.toList
def nu(x y:Int):Int:=if y<x then y else x
def kn(x y:Int):Int:=if y>x then y else x
structure Bk where
 blk:Nat
 off:Nat
 alt:Option (Option Addr)
 deriving Inhabited
def Bk.nil(k:Bk):Bool:=k.alt.isSome
def Bk.base(k:Bk):Option Addr:=match k.alt with | some x=>x | none=>some ⟨k.blk,k.off,none⟩
structure Env where
 vs:List U
 bs:List Bk
 fz:Nat->Option Obj
def Env.of(vs:List U):Env:=⟨vs,[],fun _=>none⟩
def E.den(F:Env):E->U
 |.int n=>.int n
 |.bool b=>.bool b
 |.str s=>.str s
 |.var i=>F.vs.getD i (.int 0)
 |.ar o k a b=>.int (jh o k (a.den F).toI (b.den F).toI)
 |.cmp o a b=>.bool (cf o (a.den F).toI (b.den F).toI)
 |.mn a b=>.int (nu (a.den F).toI (b.den F).toI)
 |.mx a b=>.int (kn (a.den F).toI (b.den F).toI)
 |.wr k a=>.int (k.wrap (a.den F).toI)
 |.not a=>.bool (!(a.den F).toB)
 |.and a b=>.bool ((a.den F).toB&&(b.den F).toB)
 |.seq a b=>.bool (jn (a.den F).toS (b.den F).toS)
 |.iff a b=>.bool ((a.den F).toB==(b.den F).toB)
 |.imp a b=>.bool (!(a.den F).toB||(b.den F).toB)
 |.fn f a=>qO f (a.den F)
 |.pr a b=>.lst [a.den F,b.den F]
def E.I(F:Env)(e:E):Int:=(e.den F).toI
def E.B(F:Env)(e:E):Bool:=(e.den F).toB
def E.S(F:Env)(e:E):ByteArray:=(e.den F).toS
def E.L(F:Env)(e:E):List U:=(e.den F).toL
def eE:IntKind->IntKind->Bool
 |.i8,.i8 | .i16,.i16 | .i32,.i32 | .i64,.i64 | .u8,.u8 | .u16,.u16 | .u32,.u32 | .u64,.u64=>true
 |_,_=>false
def EI:BinOp->Nat
 |.add=>0 | .sub=>1 | .mul=>2 | .quo=>3 | .rem=>4 | .and=>5 | .or=>6 | .xor=>7 | .shl=>8 | .shr=>9 | .andNot=>10
 |.eql=>11 | .neq=>12 | .lss=>13 | .leq=>14 | .gtr=>15 | .geq=>16
def Mq(a b:BinOp):Bool:=Nat.beq (EI a) (EI b)
def hO:Int->Int->Bool
 |.ofNat a,.ofNat b=>Nat.beq a b
 |.negSucc a,.negSucc b=>Nat.beq a b
 |_,_=>false
def lk:Bool->Bool->Bool
 |true,true=>true
 |false,false=>true
 |_,_=>false
def dg(a b:Bool):Bool:=match a with | true=>b | false=>false
noncomputable def E.on_int(b:E)(f:Int->Bool):Bool:=E.rec (motive:=fun _=>Bool) (fun x0=>f x0) (fun _=>false) (fun _=>false) (fun _=>false) (fun _ _ _ _ _ _=>false) (fun _ _ _ _ _=>false) (fun _ _ _ _=>false) (fun _ _ _ _=>false) (fun _ _ _=>false) (fun _ _=>false) (fun _ _ _ _=>false) (fun _ _ _ _=>false) (fun _ _ _ _=>false) (fun _ _ _ _=>false) (fun _ _ _=>false) (fun _ _ _ _=>false) b
noncomputable def E.on_bool(b:E)(f:Bool->Bool):Bool:=E.rec (motive:=fun _=>Bool) (fun _=>false) (fun x0=>f x0) (fun _=>false) (fun _=>false) (fun _ _ _ _ _ _=>false) (fun _ _ _ _ _=>false) (fun _ _ _ _=>false) (fun _ _ _ _=>false) (fun _ _ _=>false) (fun _ _=>false) (fun _ _ _ _=>false) (fun _ _ _ _=>false) (fun _ _ _ _=>false) (fun _ _ _ _=>false) (fun _ _ _=>false) (fun _ _ _ _=>false) b
noncomputable def E.on_str(b:E)(f:ByteArray->Bool):Bool:=E.rec (motive:=fun _=>Bool) (fun _=>false) (fun _=>false) (fun x0=>f x0) (fun _=>false) (fun _ _ _ _ _ _=>false) (fun _ _ _ _ _=>false) (fun _ _ _ _=>false) (fun _ _ _ _=>false) (fun _ _ _=>false) (fun _ _=>false) (fun _ _ _ _=>false) (fun _ _ _ _=>false) (fun _ _ _ _=>false) (fun _ _ _ _=>false) (fun _ _ _=>false) (fun _ _ _ _=>false) b
noncomputable def E.on_var(b:E)(f:Nat->Bool):Bool:=E.rec (motive:=fun _=>Bool) (fun _=>false) (fun _=>false) (fun _=>false) (fun x0=>f x0) (fun _ _ _ _ _ _=>false) (fun _ _ _ _ _=>false) (fun _ _ _ _=>false) (fun _ _ _ _=>false) (fun _ _ _=>false) (fun _ _=>false) (fun _ _ _ _=>false) (fun _ _ _ _=>false) (fun _ _ _ _=>false) (fun _ _ _ _=>false) (fun _ _ _=>false) (fun _ _ _ _=>false) b
noncomputable def E.on_ar(b:E)(f:BinOp->IntKind->E->E->Bool):Bool:=E.rec (motive:=fun _=>Bool) (fun _=>false) (fun _=>false) (fun _=>false) (fun _=>false) (fun x0 x1 x2 x3 _ _=>f x0 x1 x2 x3) (fun _ _ _ _ _=>false) (fun _ _ _ _=>false) (fun _ _ _ _=>false) (fun _ _ _=>false) (fun _ _=>false) (fun _ _ _ _=>false) (fun _ _ _ _=>false) (fun _ _ _ _=>false) (fun _ _ _ _=>false) (fun _ _ _=>false) (fun _ _ _ _=>false) b
noncomputable def E.on_cmp(b:E)(f:BinOp->E->E->Bool):Bool:=E.rec (motive:=fun _=>Bool) (fun _=>false) (fun _=>false) (fun _=>false) (fun _=>false) (fun _ _ _ _ _ _=>false) (fun x0 x1 x2 _ _=>f x0 x1 x2) (fun _ _ _ _=>false) (fun _ _ _ _=>false) (fun _ _ _=>false) (fun _ _=>false) (fun _ _ _ _=>false) (fun _ _ _ _=>false) (fun _ _ _ _=>false) (fun _ _ _ _=>false) (fun _ _ _=>false) (fun _ _ _ _=>false) b
noncomputable def E.on_mn(b:E)(f:E->E->Bool):Bool:=E.rec (motive:=fun _=>Bool) (fun _=>false) (fun _=>false) (fun _=>false) (fun _=>false) (fun _ _ _ _ _ _=>false) (fun _ _ _ _ _=>false) (fun x0 x1 _ _=>f x0 x1) (fun _ _ _ _=>false) (fun _ _ _=>false) (fun _ _=>false) (fun _ _ _ _=>false) (fun _ _ _ _=>false) (fun _ _ _ _=>false) (fun _ _ _ _=>false) (fun _ _ _=>false) (fun _ _ _ _=>false) b
noncomputable def E.on_mx(b:E)(f:E->E->Bool):Bool:=E.rec (motive:=fun _=>Bool) (fun _=>false) (fun _=>false) (fun _=>false) (fun _=>false) (fun _ _ _ _ _ _=>false) (fun _ _ _ _ _=>false) (fun _ _ _ _=>false) (fun x0 x1 _ _=>f x0 x1) (fun _ _ _=>false) (fun _ _=>false) (fun _ _ _ _=>false) (fun _ _ _ _=>false) (fun _ _ _ _=>false) (fun _ _ _ _=>false) (fun _ _ _=>false) (fun _ _ _ _=>false) b
noncomputable def E.on_wr(b:E)(f:IntKind->E->Bool):Bool:=E.rec (motive:=fun _=>Bool) (fun _=>false) (fun _=>false) (fun _=>false) (fun _=>false) (fun _ _ _ _ _ _=>false) (fun _ _ _ _ _=>false) (fun _ _ _ _=>false) (fun _ _ _ _=>false) (fun x0 x1 _=>f x0 x1) (fun _ _=>false) (fun _ _ _ _=>false) (fun _ _ _ _=>false) (fun _ _ _ _=>false) (fun _ _ _ _=>false) (fun _ _ _=>false) (fun _ _ _ _=>false) b
noncomputable def E.on_not(b:E)(f:E->Bool):Bool:=E.rec (motive:=fun _=>Bool) (fun _=>false) (fun _=>false) (fun _=>false) (fun _=>false) (fun _ _ _ _ _ _=>false) (fun _ _ _ _ _=>false) (fun _ _ _ _=>false) (fun _ _ _ _=>false) (fun _ _ _=>false) (fun x0 _=>f x0) (fun _ _ _ _=>false) (fun _ _ _ _=>false) (fun _ _ _ _=>false) (fun _ _ _ _=>false) (fun _ _ _=>false) (fun _ _ _ _=>false) b
noncomputable def E.on_and(b:E)(f:E->E->Bool):Bool:=E.rec (motive:=fun _=>Bool) (fun _=>false) (fun _=>false) (fun _=>false) (fun _=>false) (fun _ _ _ _ _ _=>false) (fun _ _ _ _ _=>false) (fun _ _ _ _=>false) (fun _ _ _ _=>false) (fun _ _ _=>false) (fun _ _=>false) (fun x0 x1 _ _=>f x0 x1) (fun _ _ _ _=>false) (fun _ _ _ _=>false) (fun _ _ _ _=>false) (fun _ _ _=>false) (fun _ _ _ _=>false) b
noncomputable def E.on_seq(b:E)(f:E->E->Bool):Bool:=E.rec (motive:=fun _=>Bool) (fun _=>false) (fun _=>false) (fun _=>false) (fun _=>false) (fun _ _ _ _ _ _=>false) (fun _ _ _ _ _=>false) (fun _ _ _ _=>false) (fun _ _ _ _=>false) (fun _ _ _=>false) (fun _ _=>false) (fun _ _ _ _=>false) (fun x0 x1 _ _=>f x0 x1) (fun _ _ _ _=>false) (fun _ _ _ _=>false) (fun _ _ _=>false) (fun _ _ _ _=>false) b
noncomputable def E.on_iff(b:E)(f:E->E->Bool):Bool:=E.rec (motive:=fun _=>Bool) (fun _=>false) (fun _=>false) (fun _=>false) (fun _=>false) (fun _ _ _ _ _ _=>false) (fun _ _ _ _ _=>false) (fun _ _ _ _=>false) (fun _ _ _ _=>false) (fun _ _ _=>false) (fun _ _=>false) (fun _ _ _ _=>false) (fun _ _ _ _=>false) (fun x0 x1 _ _=>f x0 x1) (fun _ _ _ _=>false) (fun _ _ _=>false) (fun _ _ _ _=>false) b
noncomputable def E.on_imp(b:E)(f:E->E->Bool):Bool:=E.rec (motive:=fun _=>Bool) (fun _=>false) (fun _=>false) (fun _=>false) (fun _=>false) (fun _ _ _ _ _ _=>false) (fun _ _ _ _ _=>false) (fun _ _ _ _=>false) (fun _ _ _ _=>false) (fun _ _ _=>false) (fun _ _=>false) (fun _ _ _ _=>false) (fun _ _ _ _=>false) (fun _ _ _ _=>false) (fun x0 x1 _ _=>f x0 x1) (fun _ _ _=>false) (fun _ _ _ _=>false) b
noncomputable def E.on_fn(b:E)(f:Nat->E->Bool):Bool:=E.rec (motive:=fun _=>Bool) (fun _=>false) (fun _=>false) (fun _=>false) (fun _=>false) (fun _ _ _ _ _ _=>false) (fun _ _ _ _ _=>false) (fun _ _ _ _=>false) (fun _ _ _ _=>false) (fun _ _ _=>false) (fun _ _=>false) (fun _ _ _ _=>false) (fun _ _ _ _=>false) (fun _ _ _ _=>false) (fun _ _ _ _=>false) (fun x0 x1 _=>f x0 x1) (fun _ _ _ _=>false) b
noncomputable def E.on_pr(b:E)(f:E->E->Bool):Bool:=E.rec (motive:=fun _=>Bool) (fun _=>false) (fun _=>false) (fun _=>false) (fun _=>false) (fun _ _ _ _ _ _=>false) (fun _ _ _ _ _=>false) (fun _ _ _ _=>false) (fun _ _ _ _=>false) (fun _ _ _=>false) (fun _ _=>false) (fun _ _ _ _=>false) (fun _ _ _ _=>false) (fun _ _ _ _=>false) (fun _ _ _ _=>false) (fun _ _ _=>false) (fun x0 x1 _ _=>f x0 x1) b
noncomputable def E.beq(a:E):E->Bool:=
 E.rec (motive:=fun _=>E->Bool)
  (fun n b=>b.on_int fun m=>hO n m)
  (fun x b=>b.on_bool fun y=>lk x y)
  (fun s b=>b.on_str fun t=>jn s t)
  (fun i b=>b.on_var fun j=>Nat.beq i j)
  (fun o k _ _ f g b=>b.on_ar fun o' k' a' b'=>dg (Mq o o') (dg (eE k k') (dg (f a') (g b'))))
  (fun o _ _ f g b=>b.on_cmp fun o' a' b'=>dg (Mq o o') (dg (f a') (g b')))
  (fun _ _ f g b=>b.on_mn fun a' b'=>dg (f a') (g b'))
  (fun _ _ f g b=>b.on_mx fun a' b'=>dg (f a') (g b'))
  (fun k _ f b=>b.on_wr fun k' a'=>dg (eE k k') (f a'))
  (fun _ f b=>b.on_not fun a'=>f a')
  (fun _ _ f g b=>b.on_and fun a' b'=>dg (f a') (g b'))
  (fun _ _ f g b=>b.on_seq fun a' b'=>dg (f a') (g b'))
  (fun _ _ f g b=>b.on_iff fun a' b'=>dg (f a') (g b'))
  (fun _ _ f g b=>b.on_imp fun a' b'=>dg (f a') (g b'))
  (fun n _ f b=>b.on_fn fun m a'=>dg (Nat.beq n m) (f a'))
  (fun _ _ f g b=>b.on_pr fun a' b'=>dg (f a') (g b')) a
def eQ{O:Type}(n:Nat)(k:Nat->O):O:=
 match n with
 |0=>k 0
 |m+1=>k (m+1)
def dw(a b:Nat):Nat:=Nat.mod (Nat.add (Nat.mul a 1000003) b) 2305843009213693951
def aEt(n:Int):Nat:=match n with | .ofNat m=>Nat.mul 2 m | .negSucc m=>Nat.add (Nat.mul 2 m) 1
def ZR(k:IntKind):Nat:=match k with | .i8=>1 | .i16=>2 | .i32=>3 | .i64=>4 | .u8=>5 | .u16=>6 | .u32=>7 | .u64=>8
noncomputable def kb(a:E):Nat:=
 E.rec (motive:=fun _=>Nat)
  (fun n=>dw 3 (aEt n)) (fun x=>match x with | true=>5 | false=>7) (fun _=>11) (fun i=>dw 13 i)
  (fun o k _ _ f g=>dw (dw (dw (dw 17 (EI o)) (ZR k)) f) g)
  (fun o _ _ f g=>dw (dw (dw 19 (EI o)) f) g)
  (fun _ _ f g=>dw (dw 23 f) g)
  (fun _ _ f g=>dw (dw 29 f) g)
  (fun k _ f=>dw (dw 31 (ZR k)) f)
  (fun _ f=>dw 37 f)
  (fun _ _ f g=>dw (dw 41 f) g)
  (fun _ _ f g=>dw (dw 43 f) g)
  (fun _ _ f g=>dw (dw 47 f) g)
  (fun _ _ f g=>dw (dw 53 f) g)
  (fun n _ f=>dw (dw 59 n) f)
  (fun _ _ f g=>dw (dw 61 f) g) a
def NO(x:E):Nat:=match x with | .imp _ c=>kb c | x=>kb x
def cU:E->E
 |.fn 6 (.pr c (.int _))=>c
 |e=>e
def Zm(x:E):Nat:=match x with
 |.cmp _ a b=>match b with
  |.int _=>kb (cU a)
  |_=>match a with
   |.int _=>kb (cU b)
   |_=>0
 |_=>0
def bT(x:E):Nat:=match x with | .not y=>Zm y | y=>Zm y
noncomputable def Dk(n:Nat)(l:List E):List E:=List.rec (motive:=fun _=>List E) [] (fun x _ ih=>Bool.rec ih (x::ih) (Nat.beq (NO x) n)) l
noncomputable def Dj(n:Nat)(l:List E):List E:=List.rec (motive:=fun _=>List E) [] (fun x _ ih=>Bool.rec ih (x::ih) (Nat.beq (kb x) n)) l
noncomputable def xV(n:Nat)(l:List E):List E:=List.rec (motive:=fun _=>List E) [] (fun x _ ih=>Bool.rec ih (x::ih) (Nat.beq (bT x) n)) l
def ig(o:BinOp)(k:IntKind)(a b:E):E:=
 match a,b with
 |.int x,.int y=>.int (jh o k x y)
 |_,_=>.ar o k a b
def bc(a:E):E:=
 match a with
 |.bool b=>.bool (!b)
 |.not x=>x
 |_=>.not a
def eg:E->Int
 |.fn 6 (.pr _ (.int x))=>x
 |_=>0
def aF(o:BinOp)(a b:E):E:=
 match a,b with
 |.int x,.int y=>.bool (cf o x y)
 |_,_=>match (cU a).beq (cU b)with
  |true=>.bool (cf o (eg a) (eg b))
  |false=>match o with
   |.eql=>match a with
    |.int x=>.cmp .eql b (.int x)
    |a=>.cmp .eql a b
   |.neq=>match a with
    |.int x=>.not (.cmp .eql b (.int x))
    |a=>.not (.cmp .eql a b)
   |.gtr=>.cmp .lss b a
   |.leq=>.not (.cmp .lss b a)
   |.geq=>.not (.cmp .lss a b)
   |_=>.cmp o a b
def ra(a b:E):E:=
 match a,b with
 |.int x,.int y=>.int (nu x y)
 |_,_=>.mn a b
def nw(a b:E):E:=
 match a,b with
 |.int x,.int y=>.int (kn x y)
 |_,_=>.mx a b
def rb(k:IntKind)(a:E):E:=
 match a with
 |.int x=>.int (k.wrap x)
 |_=>.wr k a
def yP(a b:E):E:=
 match a with
 |.bool true=>match b with
  |.bool y=>.bool y
  |_=>.and a b
 |.bool false=>.bool false
 |_=>.and a b
def lB(a b:E):E:=
 match a,b with
 |.str x,.str y=>.bool (jn x y)
 |_,_=>.seq a b
def cI(a b:E):E:=
 match a,b with
 |.int x,.int y=>.int (x+y)
 |.int x,b=>match hO x 0 with
  |true=>b
  |false=>match b with
   |.fn 6 (.pr c (.int y))=>.fn 6 (.pr c (.int (x+y)))
   |_=>.fn 6 (.pr b (.int x))
 |.fn 6 (.pr c (.int x)),.int y=>.fn 6 (.pr c (.int (x+y)))
 |a,.int y=>match hO y 0 with
  |true=>a
  |false=>.fn 6 (.pr a (.int y))
 |a,b=>.fn 6 (.pr a b)
def iR(a b:E):E:=
 match a,b with
 |.int x,.int y=>.int (x-y)
 |.fn 6 (.pr c (.int x)),.int y=>match hO (x-y) 0 with
  |true=>c
  |false=>.fn 6 (.pr c (.int (x-y)))
 |a,.int y=>match hO y 0 with
  |true=>a
  |false=>.fn 6 (.pr a (.int (-y)))
 |a,b=>match a.beq b with
  |true=>.int 0
  |false=>.fn 7 (.pr a b)
def gN:E->E
 |.fn 2 (.pr l' x)=>gN l'
 |.fn 3 (.pr a b)=>cI (gN a) (gN b)
 |.fn 5 (.pr n x)=>nw n (.int 0)
 |.fn 10 _=>.int 0
 |.fn 11 _=>.int 1
 |.fn 21 (.pr r c)=>gN c
 |.fn 23 (.pr x r)=>cI (.int 1) (gN r)
 |.fn 28 (.pr r c)=>gN c
 |.fn 30 _=>.int 0
 |l=>.fn 0 l
def Fr(v:E):E->Nat->Option E
 |.fn 23 (.pr x r),n=>match n with
  |0=>some (.fn 23 (.pr v r))
  |n+1=>match Fr v r n with
   |some r'=>some (.fn 23 (.pr x r'))
   |none=>none
 |_,_=>none
def Gg(i:Nat)(v:E):E->E
 |.fn 2 (.pr l (.pr (.int (.ofNat j)) u))=>match Nat.beq i j with
  |true=>.fn 2 (.pr l (.pr (.int (.ofNat i)) v))
  |false=>match Nat.blt i j with
   |true=>.fn 2 (.pr (Gg i v l) (.pr (.int (.ofNat j)) u))
   |false=>.fn 2 (.pr (.fn 2 (.pr l (.pr (.int (.ofNat j)) u))) (.pr (.int (.ofNat i)) v))
 |l=>.fn 2 (.pr l (.pr (.int (.ofNat i)) v))
def iS(l i v:E):E:=
 match i with
 |.int (.ofNat n)=>match Fr v l n with
  |some r=>r
  |none=>Gg n v l
 |_=>.fn 2 (.pr l (.pr i v))
def cr:List E->E
 |[]=>.fn 10 (.int 0)
 |x::xs=>.fn 23 (.pr x (cr xs))
def DK:E->Bool
 |.fn 10 _=>true
 |.fn 30 _=>true
 |_=>false
def Cl(b:E):E->Option E
 |.fn 23 (.pr x r)=>match Cl b r with
  |some r'=>some (.fn 23 (.pr x r'))
  |none=>none
 |.fn 10 _=>some b
 |_=>none
def Ek(a b:E):E:=
 match DK b with
 |true=>a
 |false=>match Cl b a with
  |some r=>r
  |none=>.fn 3 (.pr a b)
structure Off where
 base:Nat
 scale:Nat:=0
 idx:E:=.int 0
 deriving Inhabited
def Off.den(F:Env)(o:Off):Nat:=o.base+o.scale*(o.idx.I F).toNat
inductive CK where
 |int (k:IntKind) | bool | str | slc (ks:List CK)
 deriving Inhabited
mutual
def CK.beq:CK->CK->Bool
 |.int k,.int k'=>eE k k'
 |.bool,.bool=>true
 |.str,.str=>true
 |.slc a,.slc b=>fR a b
 |_,_=>false
def fR:List CK->List CK->Bool
 |[],[]=>true
 |x::xs,y::ys=>x.beq y&&fR xs ys
 |_,_=>false
end
def CK.val:CK->U->Value
 |.int k,u=>.int k u.toI
 |.bool,u=>.bool u.toB
 |.str,u=>.string u.toS
 |.slc _,u=>u.raw
inductive SlOk (fz:Nat->Option Obj):List CK->U->Prop
 |nil {ks:List CK}:SlOk fz ks (.bx none 0 0 [])
 |empty {ks:List CK} (a:Addr):SlOk fz ks (.bx (some a) 0 0 [])
 | mk {ks:List CK} {r off len cap:Nat} {l:List U} {arr:Array Value} {elem:TypeId} {fr:Nat×Nat} (hl:l.length=len*ks.length) (hc:len<=cap)
   (hz:l≠[]->fz r=some (.cells arr elem fr))
   (hv:∀(i:Nat)(u:U),l[i]?=some u->∃c,ks[i%ks.length]?=some c/\arr[off+i]?=some (c.val u))
   (hs:∀(i:Nat)(u:U)(ks':List CK),l[i]?=some u->ks[i%ks.length]?=some (.slc ks')->SlOk fz ks' u):
   SlOk fz ks (.bx (some ⟨r,off,none⟩) len cap l)
def CK.ok(fz:Nat->Option Obj):CK->U->Prop
 |.slc ks,u=>SlOk fz ks u
 |_,_=>True
inductive SV where
 |int (k:IntKind) (e:E) | bool (e:E) | str (e:E)
 |nilp | ptr (b:Nat) (o:Off)
 |nils | slice (b:Nat) (o:Off) (len cap:E)
 |nslice (b:Nat) (len cap:E)
 |bsl (ks:List CK) (e:E) | bptr (ks:List CK) (e idx:E) (j:Nat)
 |nilm | map (b:Nat)
 |nili | nilf | func (fn:Fn) (fi ca:List SV)
 |agg (cs:List SV) | tup (cs:List SV)
 |junk
 |nsl (b:Nat) (ks:List CK) (e i:E) (c:Nat) | nptr (b:Nat) (ks:List CK) (e i:E) (c:Nat) (x:E) (j:Nat)
 deriving Inhabited
def Env.blk(F:Env)(b:Nat):Nat:=(F.bs.getD b ⟨0,0,none⟩).blk
def Env.off(F:Env)(b:Nat):Nat:=(F.bs.getD b ⟨0,0,none⟩).off
def Env.nil(F:Env)(b:Nat):Bool:=(F.bs.getD b ⟨0,0,none⟩).nil
def Env.base(F:Env)(b:Nat):Option Addr:=(F.bs.getD b ⟨0,0,none⟩).base
def CG(u:U)(n:Nat):Option Addr:=match u.adr with | some a=>some ⟨a.block,a.off+n,none⟩ | none=>none
mutual
def SV.den(F:Env):SV->Value
 |.int k e=>.int k (e.I F)
 |.bool e=>.bool (e.B F)
 |.str e=>.string (e.S F)
 |.nilp=>.pointer none
 |.ptr b o=>.pointer (some ⟨F.blk b,F.off b+o.den F,none⟩)
 |.nils=>.slice none 0 0
 |.slice b o l c=>.slice (some ⟨F.blk b,F.off b+o.den F,none⟩) (l.I F).toNat (c.I F).toNat
 |.nslice b l c=>.slice (F.base b) (l.I F).toNat (c.I F).toNat
 |.bsl _ e=>(e.den F).raw
 |.bptr ks e i j=>.pointer (CG (e.den F) ((i.I F).toNat*ks.length+j))
 |.nilm=>.map none
 |.map b=>.map (some (F.blk b))
 |.nili=>.nilIface
 |.nilf=>.nilFunc
 |.func fn fi ca=>.func fn (SV.dens F fi).toArray (SV.dens F ca).toArray
 |.agg cs=>.agg (SV.dens F cs).toArray
 |.tup cs=>.tuple (SV.dens F cs).toArray
 |.junk=>Go.undef
 |.nsl _ _ e _ _=>(e.den F).raw
 |.nptr _ ks e _ _ x j=>.pointer (CG (e.den F) ((x.I F).toNat*ks.length+j))
def SV.dens(F:Env):List SV->List Value
 |[]=>[]
 |v::vs=>v.den F::SV.dens F vs
end
mutual
def SV.ok(F:Env):SV->Prop
 |.bsl ks e=>SlOk F.fz ks (e.den F)
 |.bptr ks e i _=>SlOk F.fz ks (e.den F)/\0<=i.I F/\((i.I F).toNat+1)*ks.length<=(e.L F).length/\0<ks.length
 |.func _ fi ca=>SV.oks F fi/\SV.oks F ca
 |.agg cs=>SV.oks F cs
 |.tup cs=>SV.oks F cs
 |.nptr _ ks e _ _ x _=>0<=x.I F/\0<ks.length/\∃(r len cap:Nat) (l:List U),e.den F=.bx (some ⟨r,0,none⟩) len cap l/\(x.I F).toNat<len
 |_=>True
def SV.oks(F:Env):List SV->Prop
 |[]=>True
 |v::vs=>v.ok F/\SV.oks F vs
end
def SV.undef:SV:=.tup []
structure Ent where
 k:SV
 v:SV
 born:E
 deriving Inhabited
inductive SObj where
 |gone
 |cells (cs:List SV) (ag:E) (elem:TypeId)
 |flat (ks:List CK) (l n ag:E) (elem:TypeId)
 |map (es:List Ent) (clk:E)
 |mapl (k:IntKind) (c:CK) (e:E)
 |maplp (k:IntKind) (c:CK) (e ke s:E)
 |iter (k:IntKind) (c:CK) (e left:E) (cur:Option E)
 |nest (ks:List CK) (l n ag:E) (elem:TypeId) (own:E)
 deriving Inhabited
structure Blk where
 own:Bool
 obj:SObj
 deriving Inhabited
structure St where
 nv:Nat
 nb:Nat
 heap:T Blk
 pc:List E
 deriving Inhabited
inductive Ex where
 |normal | exit (id:Nat) | ret
 deriving Inhabited
abbrev Tm:=T SV
structure Out where
 ex:Ex
 tmps:Tm
 st:St
 deriving Inhabited
noncomputable def E.scp(nv:Nat)(e:E):Bool:=
 E.rec (motive:=fun _=>Bool) (fun _=>true) (fun _=>true) (fun _=>true) (fun i=>Nat.blt i nv)
  (fun _ _ _ _ a b=>Bool.rec false b a) (fun _ _ _ a b=>Bool.rec false b a) (fun _ _ a b=>Bool.rec false b a) (fun _ _ a b=>Bool.rec false b a)
  (fun _ _ a=>a) (fun _ a=>a) (fun _ _ a b=>Bool.rec false b a) (fun _ _ a b=>Bool.rec false b a) (fun _ _ a b=>Bool.rec false b a) (fun _ _ a b=>Bool.rec false b a)
  (fun _ _ a=>a) (fun _ _ a b=>Bool.rec false b a) e
noncomputable def SV.scp(nv nb:Nat)(v:SV):Bool:=
 SV.rec (motive_1:=fun _=>Bool) (motive_2:=fun _=>Bool)
  (fun _ e=>e.scp nv) (fun e=>e.scp nv) (fun e=>e.scp nv) true (fun b o=>Bool.rec false (o.idx.scp nv) (Nat.blt b nb))
  true (fun b o l c=>Bool.rec false (Bool.rec false (Bool.rec false (c.scp nv) (l.scp nv)) (o.idx.scp nv)) (Nat.blt b nb))
  (fun b l c=>Bool.rec false (Bool.rec false (c.scp nv) (l.scp nv)) (Nat.blt b nb))
  (fun _ e=>e.scp nv) (fun _ e i _=>Bool.rec false (i.scp nv) (e.scp nv))
  true (fun b=>Nat.blt b nb) true true (fun _ _ _ a b=>Bool.rec false b a) (fun _ a=>a) (fun _ a=>a) true
  (fun b _ e i _=>Bool.rec false (Bool.rec false (i.scp nv) (e.scp nv)) (Nat.blt b nb)) (fun b _ e i _ x _=>Bool.rec false (Bool.rec false (Bool.rec false (x.scp nv) (i.scp nv)) (e.scp nv)) (Nat.blt b nb))
  true (fun _ _ a b=>Bool.rec false b a) v
noncomputable def SV.scps(nv nb:Nat)(l:List SV):Bool:=
 List.rec (motive:=fun _=>Bool) true (fun v _ b=>Bool.rec false b (v.scp nv nb)) l
def y4(nv nb:Nat):List Ent->Bool
 |[]=>true
 |x::es=>x.k.scp nv nb&&(x.v.scp nv nb&&(x.born.scp nv&&y4 nv nb es))
def aGX(nv:Nat):Option E->Bool
 |none=>true
 |some e=>e.scp nv
def SObj.scp(nv nb:Nat):SObj->Bool
 |.gone=>true
 |.cells cs ag _=>ag.scp nv&&SV.scps nv nb cs
 |.flat _ l n ag _=>l.scp nv&&(n.scp nv&&ag.scp nv)
 |.map es clk=>y4 nv nb es&&clk.scp nv
 |.mapl _ _ e=>e.scp nv
 |.maplp _ _ e ke s=>e.scp nv&&(ke.scp nv&&s.scp nv)
 |.iter _ _ e n cur=>e.scp nv&&(n.scp nv&&aGX nv cur)
 |.nest _ l n ag _ own=>l.scp nv&&(n.scp nv&&(ag.scp nv&&own.scp nv))
def E2(nv:Nat):List E->Bool
 |[]=>true
 |e::es=>e.scp nv&&E2 nv es
def Blk.scp(nv nb:Nat)(b:Blk):Bool:=b.obj.scp nv nb
def St.scp(st:St):Bool:=E2 st.nv st.pc&&T.all (Blk.scp st.nv st.nb) st.heap
def i3(nv nb:Nat)(t:Tm):Bool:=T.all (SV.scp nv nb) t
noncomputable def dq{G:Type}(l:List G):Nat->Option G:=
 List.rec (motive:=fun _=>Nat->Option G) (fun _=>none) (fun x _ g n=>Nat.rec (some x) (fun n _=>g n) n) l
noncomputable def jF{G:Type}(l:List G):Nat->Option (List G):=
 List.rec (motive:=fun _=>Nat->Option (List G)) (fun n=>Nat.rec (some []) (fun _ _=>none) n)
  (fun x _ g n=>Nat.rec (some []) (fun n _=>Option.rec none (fun l=>some (x::l)) (g n)) n) l
noncomputable def qD{G:Type}(l:List G):Nat->List G:=
 List.rec (motive:=fun _=>Nat->List G) (fun _=>[]) (fun x xs g n=>Nat.rec (x::xs) (fun n _=>g n) n) l
noncomputable def rh{G:Type}(cs:List G):List G->Option (List G):=
 List.rec (motive:=fun _=>List G->Option (List G)) (fun vs=>List.rec (some []) (fun _ _ _=>none) vs)
  (fun c cs g vs=>List.rec (some (c::cs)) (fun v vs _=>Option.rec none (fun l=>some (v::l)) (g vs)) vs) cs
noncomputable def nF{G:Type}(cs:List G):Nat->List G->Option (List G):=
 List.rec (motive:=fun _=>Nat->List G->Option (List G)) (fun n vs=>Nat.rec (rh [] vs) (fun _ _=>none) n)
  (fun c cs g n vs=>Nat.rec (rh (c::cs) vs) (fun n _=>Option.rec none (fun l=>some (c::l)) (g n vs)) n) cs
def SV.cells:SV->List SV
 |.agg cs=>cs
 |v=>[v]
def SV.one:SV->Bool
 |.agg _ | .tup _ | .junk=>false
 |_=>true
def mK:List SV->Bool
 |[]=>true
 |v::vs=>v.one&&mK vs
mutual
def ofVal:Value->Option SV
 |.bool b=>some (.bool (.bool b))
 |.int k n=>some (.int k (.int n))
 |.string s=>some (.str (.str s))
 |.pointer none=>some .nilp
 |.slice none n c=>if Nat.beq n 0&&Nat.beq c 0 then some .nils else none
 |.map none=>some .nilm
 |.nilFunc=>some .nilf
 |.nilIface=>some .nili
 |.agg cs=>match pg cs.toList with | some l=>some (.agg l) | none=>none
 |_=>none
def pg:List Value->Option (List SV)
 |[]=>some []
 |v::vs=>match ofVal v,pg vs with | some x,some l=>some (x::l) | _,_=>none
end
end
end Go.SX

namespace Go.SX
noncomputable section
structure Tmpl where
 tmps:Tm
 st:St
 less:E
 deriving Inhabited
structure LoopX where
 n0:Nat
 b0:Nat
 xs:List Out
 deriving Inhabited
structure Ann where
 fn:FuncId
 key:Nat
 ts:List Tmpl
 known:Option LoopX:=none
 deriving Inhabited
inductive NatR where
 |no | lack (e:E) | outs (l:List (SV×St))
structure Nat1 where
 fn:FuncId
 eff:List E->List SV->St->NatR
structure Tab where
 ty:T TypeInfo
 fn:T Func
 facts:List E
 anns:List Ann
 nats:List Nat1
def Tab.und(tb:Tab)(t:TypeId):Option TypeDesc:=
 match tb.ty.get t with
 |some i=>match i.desc with
  |.named _ u=>match tb.ty.get u with
   |some j=>some j.desc
   |none=>none
  |d=>some d
 |none=>none
def qq(o:Off)(n:Nat):Off:=⟨Nat.add o.base n,o.scale,o.idx⟩
def FG(tb:Tab)(t:TypeId):Option (List Field):=
 match tb.und t with
 |some (.struct fs)=>some fs.toList
 |_=>none
def cy(tb:Tab)(t:TypeId):Option Nat:=
 match tb.ty.get t with
 |some i=>some i.size
 |none=>none
def iN(tb:Tab)(t:TypeId):Option Bool:=
 match tb.und t with
 |some (.struct _)=>some true
 |some (.array _ _)=>some true
 |some _=>some false
 |none=>none
def gT(tb:Tab)(t:TypeId):Option SV:=
 match tb.ty.get t with
 |some i=>match i.zero with
  |some v=>ofVal v
  |none=>none
 |none=>none
def lE(tb:Tab)(t:TypeId)(cs:List SV)(off:Nat):Option SV:=
 match iN tb t with
 |some true=>match cy tb t with
  |some n=>match jF (qD cs off) n with
   |some l=>some (.agg l)
   |none=>none
  |none=>none
 |some false=>dq cs off
 |none=>none
def xR(f:TypeId->SV->SV->Option E)(tb:Tab)(xs ys:List SV):List Field->Option E
 |[]=>some (.bool true)
 |fd::fds=>
  if fd.name == "_" then none else
  match lE tb fd.type xs fd.offset,lE tb fd.type ys fd.offset with
  |some x,some y=>match f fd.type x y,xR f tb xs ys fds with
   |some a,some b=>some (yP a b)
   |_,_=>none
  |_,_=>none
def xO(f:SV->SV->Option E)(tb:Tab)(elem:TypeId)(n:Nat)(xs ys:List SV):Nat->Nat->Option E
 |0,_=>some (.bool true)
 |k+1,i=>
  match lE tb elem xs (Nat.mul i n),lE tb elem ys (Nat.mul i n)with
  |some x,some y=>match f x y,xO f tb elem n xs ys k (Nat.succ i)with
   |some a,some b=>some (yP a b)
   |_,_=>none
  |_,_=>none
def El(a b:E):Option E:=
 match a,b with
 |.bool true,.bool y=>some (.bool y)
 |.bool false,.bool y=>some (.bool (!y))
 |.bool true,b=>some b
 |.bool false,b=>some (bc b)
 |a,.bool true=>some a
 |a,.bool false=>some (bc a)
 |a,b=>some (.iff a b)
def gI(P:Program)(tb:Tab):Nat->TypeId->SV->SV->Option E
 |0,_,_,_=>none
 |d+1,t,x,y=>
  match tb.und t,x,y with
  |some .bool,.bool a,.bool b=>El a b
  |some (.int _),.int k a,.int k' b=>if eE k k' then some (aF .eql a b)else none
  |some .string,.str a,.str b=>some (lB a b)
  |some (.pointer _),.nilp,.nilp=>some (.bool true)
  |some (.pointer _),.nilp,.ptr _ _=>some (.bool false)
  |some (.pointer _),.ptr _ _,.nilp=>some (.bool false)
  |some (.slice _),.nils,.nils=>some (.bool true)
  |some (.slice _),.nils,.slice _ _ _ _=>some (.bool false)
  |some (.slice _),.slice _ _ _ _,.nils=>some (.bool false)
  |some (.map _ _),.nilm,.nilm=>some (.bool true)
  |some (.map _ _),.nilm,.map _=>some (.bool false)
  |some (.map _ _),.map _,.nilm=>some (.bool false)
  |some (.func _ _ _),.nilf,.nilf=>some (.bool true)
  |some (.func _ _ _),.nilf,.func _ _ _=>some (.bool false)
  |some (.func _ _ _),.func _ _ _,.nilf=>some (.bool false)
  |some (.struct fs),.agg xs,.agg ys=>
   if P.stoodInHeld t then none else xR (gI P tb d) tb xs ys fs.toList
  |some (.array len elem),.agg xs,.agg ys=>
   match cy tb elem with
   |some n=>xO (gI P tb d elem) tb elem n xs ys len 0
   |none=>none
  |_,_,_=>none
def abK:SV->Bool
 |.agg _=>true
 |_=>false
def kf(P:Program)(tb:Tab)(t:TypeId)(x y:SV):Option E:=
 if abK x then(if P.eqGuardType P.depth t then none else gI P tb 40 t x y)else gI P tb 40 t x y
def adE:E->Bool
 |.int n=>!(hO n 0)
 |_=>false
def jk(P:Program)(tb:Tab)(op:BinOp)(t:TypeId)(x y:SV):Option SV:=
 match x,y with
 |.int k a,.int k' b=>
  match op with
  |.shl | .shr=>match b with
   |.int (.ofNat _)=>some (.int k (ig op k a b))
   |_=>none
  |.add | .sub | .mul | .and | .or | .xor | .andNot=>if eE k k' then some (.int k (ig op k a b))else none
  |.quo | .rem=>if eE k k'&&adE b then some (.int k (ig op k a b))else none
  |_=>if eE k k' then some (.bool (aF op a b))else none
 |.str a,.str b=>
  match op with
  |.eql=>some (.bool (lB a b))
  |.neq=>some (.bool (bc (lB a b)))
  |_=>none
 |x,y=>
  match op with
  |.eql=>match kf P tb t x y with | some e=>some (.bool e) | none=>none
  |.neq=>match kf P tb t x y with | some e=>some (.bool (bc e)) | none=>none
  |_=>none
def Gf(op:UnOp)(x:SV):Option SV:=
 match op,x with
 |.neg,.int k a=>some (.int k (ig .sub k (.int 0) a))
 |.xor,.int k a=>some (.int k (ig .xor k (.int (match k.signed with | true=>-1 | false=>k.max)) a))
 |.not,.bool a=>some (.bool (bc a))
 |_,_=>none
def CN(tb:Tab)(src dst:TypeId)(x:SV):Option SV:=
 match tb.und src,tb.und dst,x with
 |some _,some (.int k),.int _ a=>some (.int k (rb k a))
 |some .string,some .string,.str e=>some (.str e)
 |_,_,_=>none
def ef:E->Option Nat
 |.int (.ofNat n)=>some n
 |_=>none
def Dg(tb:Tab)(s:TypeId)(x:SV)(f:Nat):Option SV:=
 match FG tb s,x with
 |some fs,.ptr b o=>match dq fs f with
  |some fd=>match cy tb fd.type with
   |some n=>if Nat.beq n 0 then none else some (.ptr b (qq o fd.offset))
   |none=>none
  |none=>none
 |some fs,.bptr ks e i j=>match dq fs f with
  |some fd=>match cy tb fd.type with
   |some n=>if Nat.beq n 0 then none else some (.bptr ks e i (Nat.add j fd.offset))
   |none=>none
  |none=>none
 |some fs,.nptr b ks e i c x j=>match dq fs f with
  |some fd=>match cy tb fd.type with
   |some n=>if Nat.beq n 0 then none else some (.nptr b ks e i c x (Nat.add j fd.offset))
   |none=>none
  |none=>none
 |_,_=>none
def Dh(tb:Tab)(s:TypeId)(x:SV)(f:Nat):Option SV:=
 match FG tb s,x with
 |some fs,.agg cs=>match dq fs f with
  |some fd=>lE tb fd.type cs fd.offset
  |none=>none
 |_,_=>none
def oV(tb:Tab)(t:TypeId)(x i:SV):Option SV:=
 match i with
 |.int _ (.int (.ofNat n))=>
  match tb.und t,x with
  |some (.array len elem),.ptr b o=>
   if Nat.blt n len then match cy tb elem with
    |some sz=>some (.ptr b (qq o (Nat.mul n sz)))
    |none=>none
   else none
  |some (.slice elem),.slice b o (.int (.ofNat l)) _=>
   if Nat.blt n l then match cy tb elem with
    |some sz=>some (.ptr b (qq o (Nat.mul n sz)))
    |none=>none
   else none
  |_,_=>none
 |_=>none
def tE(tb:Tab)(t:TypeId)(x i:SV):Option SV:=
 match i with
 |.int _ (.int (.ofNat n))=>
  match tb.und t,x with
  |some (.array len elem),.agg cs=>
   if Nat.blt n len then match cy tb elem with
    |some sz=>lE tb elem cs (Nat.mul n sz)
    |none=>none
   else none
  |some .string,.str (.str s)=>
   match s[n]? with
   |some b=>some (.int .u8 (.int b.toNat))
   |none=>none
  |_,_=>none
 |_=>none
def Da(x:SV)(i:Nat):Option SV:=
 match x with
 |.tup vs=>dq vs i
 |_=>none
def lp(place:Nat->Option (Nat×Nat))(cells:List SV):List (Nat×SV)->Option (List SV)
 |[]=>some cells
 |(i,v)::bE=>
  match place i with
  |none=>none
  |some (off,size)=>
   if Nat.beq v.cells.length size then
    match nF cells off v.cells with
    |some cs=>lp place cs bE
    |none=>none
   else none
def mW(ev:Operand->Option SV):List (Nat×Operand)->Option (List (Nat×SV))
 |[]=>some []
 |(i,x)::bE=>match ev x,mW ev bE with
  |some v,some l=>some ((i,v)::l)
  |_,_=>none
def iK(ev:Operand->Option SV):List Operand->Option (List SV)
 |[]=>some []
 |x::bE=>match ev x,iK ev bE with
  |some v,some l=>some (v::l)
  |_,_=>none
def y7(tb:Tab):List Field->Option (List (Nat×Nat))
 |[]=>some []
 |f::fs=>match cy tb f.type,y7 tb fs with
  |some n,some l=>some ((f.offset,n)::l)
  |_,_=>none
def xr(tb:Tab)(t:TypeId)(parts:List (Nat×SV)):Option SV:=
 match gT tb t with
 |some z=>
  match tb.und t with
  |some (.struct fs)=>match y7 tb fs.toList with
   |some ps=>match lp (dq ps) z.cells parts with
    |some cs=>some (.agg cs)
    |none=>none
   |none=>none
  |some (.array _ elem)=>match cy tb elem with
   |some sz=>match lp (fun i=>some (Nat.mul i sz,sz)) z.cells parts with
    |some cs=>some (.agg cs)
    |none=>none
   |none=>none
  |_=>none
 |none=>none
def DV(tb:Tab)(t:TypeId)(x:SV):Option SV:=
 match tb.und t,x with
 |some .string,.str (.str s)=>some (.int .i64 (.int s.size))
 |some (.array n _),_=>some (.int .i64 (.int n))
 |some (.slice _),.nils=>some (.int .i64 (.int 0))
 |some (.slice _),.slice _ _ l _=>match ef l with | some n=>some (.int .i64 (.int n)) | none=>none
 |some (.map _ _),.nilm=>some (.int .i64 (.int 0))
 |_,_=>none
def CF(tb:Tab)(t:TypeId)(x:SV):Option SV:=
 match tb.und t,x with
 |some (.array n _),_=>some (.int .i64 (.int n))
 |some (.slice _),.nils=>some (.int .i64 (.int 0))
 |some (.slice _),.slice _ _ _ c=>match ef c with | some n=>some (.int .i64 (.int n)) | none=>none
 |_,_=>none
def pb(mx:Bool)(k:IntKind):List SV->E->Option SV
 |[],a=>some (.int k a)
 |v::vs,a=>match v with
  |.int k' b=>match eE k k' with
   |true=>pb mx k vs (match mx with | true=>nw a b | false=>ra a b)
   |false=>none
  |_=>none
def ua(mx:Bool):List SV->Option SV
 |.int k a::v::vs=>pb mx k (v::vs) a
 |_=>none
def ta(x:Option SV)(dflt y:Nat):Option Nat:=
 match x with
 |none=>some dflt
 |some (.int _ (.int (.ofNat n)))=>if Nat.ble n y then some n else none
 |some _=>none
def xp(len cap:Nat)(lo hi mx:Option SV):Option (Nat×Nat×Nat):=
 match mx,hi with
 |some _,none=>none
 |_,_=>
  match ta mx cap cap with
  |some m=>match ta hi len m with
   |some h=>match ta lo 0 h with
    |some l=>if Nat.ble h m then some (l,h,m)else none
    |none=>none
   |none=>none
  |none=>none
def E3(o:Off)(m l sz:Nat):Off:=match Nat.beq m l with | true=>o | false=>qq o (Nat.mul l sz)
def Fu(tb:Tab)(t:TypeId)(x:SV)(lo hi mx:Option SV):Option SV:=
 match tb.und t,x with
 |some (.slice elem),.slice b o (.int (.ofNat len)) (.int (.ofNat cap))=>
  match xp len cap lo hi mx,cy tb elem with
  |some (l,h,m),some sz=>some (.slice b (E3 o m l sz) (.int (.ofNat (Nat.sub h l))) (.int (.ofNat (Nat.sub m l))))
  |_,_=>none
 |some (.slice elem),.nils=>
  match xp 0 0 lo hi mx,cy tb elem with
  |some _,some _=>some .nils
  |_,_=>none
 |some (.array n elem),.ptr b o=>
  match xp n n lo hi mx,cy tb elem with
  |some (l,h,m),some sz=>some (.slice b (E3 o m l sz) (.int (.ofNat (Nat.sub h l))) (.int (.ofNat (Nat.sub m l))))
  |_,_=>none
 |_,_=>none
def oM(ev:Operand->Option SV):Option Operand->Option (Option SV)
 |none=>some none
 |some x=>match ev x with | some v=>some (some v) | none=>none
def EY(P:Program)(tb:Tab)(ev:Operand->Option SV)(c:Operand)(a:Operand)(b:Operand):Option SV:=
 match ev c with
  |some (.bool (.bool true))=>ev a
  |some (.bool (.bool false))=>ev b
  |_=>none
def EX(P:Program)(tb:Tab)(ev:Operand->Option SV)(x:Operand):Option SV:=
 match ev x with
  |some (.ptr b o)=>some (.ptr b o)
  |some (.bptr ks e i j)=>some (.bptr ks e i j)
  |some (.nptr b ks e i c x j)=>some (.nptr b ks e i c x j)
  |_=>none
def EN(P:Program)(tb:Tab)(ev:Operand->Option SV)(op:BinOp)(t:TypeId)(x:Operand)(y:Operand):Option SV:=
 match ev x,ev y with
  |some vx,some vy=>jk P tb op t vx vy
  |_,_=>none
def E0(P:Program)(tb:Tab)(ev:Operand->Option SV)(op:UnOp)(x:Operand):Option SV:=
 match ev x with
  |some v=>Gf op v
  |none=>none
def EQ(P:Program)(tb:Tab)(ev:Operand->Option SV)(src:TypeId)(dst:TypeId)(x:Operand):Option SV:=
 match ev x with
  |some v=>CN tb src dst v
  |none=>none
def ET(P:Program)(tb:Tab)(ev:Operand->Option SV)(s:TypeId)(x:Operand)(f:Nat):Option SV:=
 match ev x with
  |some v=>Dg tb s v f
  |none=>none
def ES(P:Program)(tb:Tab)(ev:Operand->Option SV)(s:TypeId)(x:Operand)(f:Nat):Option SV:=
 match ev x with
  |some v=>Dh tb s v f
  |none=>none
def EV(P:Program)(tb:Tab)(ev:Operand->Option SV)(t:TypeId)(x:Operand)(i:Operand):Option SV:=
 match ev x,ev i with
  |some v,some w=>oV tb t v w
  |_,_=>none
def EU(P:Program)(tb:Tab)(ev:Operand->Option SV)(t:TypeId)(x:Operand)(i:Operand):Option SV:=
 match ev x,ev i with
  |some v,some w=>tE tb t v w
  |_,_=>none
def ER(P:Program)(tb:Tab)(ev:Operand->Option SV)(x:Operand)(i:Nat):Option SV:=
 match ev x with
  |some v=>Da v i
  |none=>none
def EO(P:Program)(tb:Tab)(ev:Operand->Option SV)(t:TypeId)(parts:Array (Nat×Operand)):Option SV:=
 match mW ev parts.toList with
  |some ps=>xr tb t ps
  |none=>none
def EW(P:Program)(tb:Tab)(ev:Operand->Option SV)(fn:Fn)(fi:Array Operand)(ca:Array Operand):Option SV:=
 match iK ev fi.toList,iK ev ca.toList with
  |some a,some b=>some (.func fn a b)
  |_,_=>none
def EZ(P:Program)(tb:Tab)(ev:Operand->Option SV)(t:TypeId)(x:Operand)(lo:Option Operand)(hi:Option Operand)(mx:Option Operand):Option SV:=
 match ev x,oM ev lo,oM ev hi,oM ev mx with
  |some v,some l,some h,some m=>Fu tb t v l h m
  |_,_,_,_=>none
def EP(P:Program)(tb:Tab)(ev:Operand->Option SV)(c:Call):Option SV:=
 match c.callee with
  |.builtin b=>match iK ev c.args.toList with
   |some vs=>match b with
    |.len=>match dq c.argTypes.toList 0,dq vs 0 with
     |some t,some v=>DV tb t v
     |_,_=>none
    |.cap=>match dq c.argTypes.toList 0,dq vs 0 with
     |some t,some v=>CF tb t v
     |_,_=>none
    |.min=>ua false vs
    |.max=>ua true vs
    |_=>none
   |none=>none
  |_=>none
noncomputable def ru(P:Program)(tb:Tab)(ev:Operand->Option SV)(o:Op):Option SV:=
 Op.rec (motive:=fun _=>Option SV)
  (fun x=>ev x)
  (fun x=>ev x)
  (fun c a b=>EY P tb ev c a b)
  (fun _=>none)
  (fun _ _=>none)
  (fun t parts=>EO P tb ev t parts)
  (fun _ _ _=>none)
  (fun _ _ _ _=>none)
  (fun _ _=>none)
  (fun _ _ _=>none)
  (fun _=>none)
  (fun _=>none)
  (fun x=>EX P tb ev x)
  (fun op t x y _=>EN P tb ev op t x y)
  (fun op _ x=>E0 P tb ev op x)
  (fun src dst x=>EQ P tb ev src dst x)
  (fun _ _=>none)
  (fun _ _=>none)
  (fun fn fi ca=>EW P tb ev fn fi ca)
  (fun _ _=>none)
  (fun _ _=>none)
  (fun _ _ _=>none)
  (fun t x lo hi mx=>EZ P tb ev t x lo hi mx)
  (fun s x f=>ET P tb ev s x f)
  (fun s x f=>ES P tb ev s x f)
  (fun t x i=>EV P tb ev t x i)
  (fun t x i=>EU P tb ev t x i)
  (fun _ _ _ _=>none)
  (fun _ _ _ _=>none)
  (fun _ _ _=>none)
  (fun _ _ _ _=>none)
  (fun _ _=>none)
  (fun _ _=>none)
  (fun _=>none)
  (fun _ _ _ _=>none)
  (fun x i=>ER P tb ev x i)
  (fun c=>EP P tb ev c)
  (fun _=>none)
  (fun _=>none)
  (fun _=>none)
  (fun _ _=>none)
  (fun _ _ _=>none)
  (fun _ _=>none)
  o
theorem ael(P:Program)(tb:Tab)(ev:Operand->Option SV)(o:Op):ru P tb ev o=(match o with
 |.move x=>ev x
 |.assign x=>ev x
 |.pick c a b=>EY P tb ev c a b
 |.nilCheck x=>EX P tb ev x
 |.binOp op t x y _=>EN P tb ev op t x y
 |.unOp op _ x=>E0 P tb ev op x
 |.convert src dst x=>EQ P tb ev src dst x
 |.fieldAddr s x f=>ET P tb ev s x f
 |.field s x f=>ES P tb ev s x f
 |.indexAddr t x i=>EV P tb ev t x i
 |.index t x i=>EU P tb ev t x i
 |.extract x i=>ER P tb ev x i
 |.build t parts=>EO P tb ev t parts
 |.makeFunc fn fi ca=>EW P tb ev fn fi ca
 |.slice t x lo hi mx=>EZ P tb ev t x lo hi mx
 |.call c=>EP P tb ev c
 |_=>none):=by cases o<;>rfl
def ym(e:E):List E->Bool
 |[]=>false
 |x::xs=>match x.beq e with | true=>true | false=>ym e xs
def oW(e:E)(l:List E):Bool:=eQ (kb e) fun c=>ym e (Dj c l)
def aFD:E->Bool
 |.and _ _=>true
 |_=>false
def Y9(pc:List E)(a:E):Bool:=match aFD a with | true=>oW a pc | false=>false
def qr(pc:List E):E->Bool
 |.and a b=>match Y9 pc a with
  |true=>qr pc b
  |false=>match qr pc a with | true=>qr pc b | false=>false
 |e=>oW e pc
def qR(pc:List E)(e:E):List E->Bool
 |[]=>false
 |x::xs=>match x with
  |.imp p c=>match c.beq e with
   |true=>match qr pc p with
    |true=>true
    |false=>qR pc e xs
   |false=>qR pc e xs
  |_=>match x.beq e with
   |true=>true
   |false=>qR pc e xs
def tx(pc:List E)(e:E)(l:List E):Bool:=eQ (kb e) fun n=>qR pc e (Dk n l)
def yL(a:Option Int)(b:Int):Option Int:=
 match a with
 |some x=>some (kn x b)
 |none=>some b
def yO(a:Option Int)(b:Int):Option Int:=
 match a with
 |some x=>some (nu x b)
 |none=>some b
def lA(c:E):List E->Option Int->Option Int
 |[],r=>r
 |e::es,r=>match e with
  |.not (.cmp .lss a (.int k))=>match (cU a).beq c with
   |true=>lA c es (yL r (k-eg a))
   |false=>lA c es r
  |.cmp .lss (.int k) a=>match (cU a).beq c with
   |true=>lA c es (yL r (k+1-eg a))
   |false=>lA c es r
  |.cmp .eql a (.int k)=>match (cU a).beq c with
   |true=>lA c es (yL r (k-eg a))
   |false=>lA c es r
  |_=>lA c es r
def lv(c:E):List E->Option Int->Option Int
 |[],r=>r
 |e::es,r=>match e with
  |.not (.cmp .lss (.int k) a)=>match (cU a).beq c with
   |true=>lv c es (yO r (k-eg a))
   |false=>lv c es r
  |.cmp .lss a (.int k)=>match (cU a).beq c with
   |true=>lv c es (yO r (k-1-eg a))
   |false=>lv c es r
  |.cmp .eql a (.int k)=>match (cU a).beq c with
   |true=>lv c es (yO r (k-eg a))
   |false=>lv c es r
  |_=>lv c es r
def yS:E->Bool
 |.fn f _=>match f with
  |0=>true
  |9=>true
  |13=>true
  |22=>true
  |26=>true
  |29=>true
  |_=>false
 |_=>false
def rc(c:E)(k:Int):List E->Bool
 |[]=>false
 |e::es=>match e with
  |.not (.cmp .eql a (.int j))=>match (cU a).beq c&&hO (j-eg a) k with
   |true=>true
   |false=>rc c k es
  |_=>rc c k es
def CB(pc:List E)(c:E):Nat->Int->Int
 |0,k=>k
 |n+1,k=>match rc c k pc with
  |true=>CB pc c n (k+1)
  |false=>k
def CA(pc:List E)(c:E):Nat->Int->Int
 |0,k=>k
 |n+1,k=>match rc c k pc with
  |true=>CA pc c n (k-1)
  |false=>k
def LV(c:E)(pc:List E):Option Int:=
 match lA c pc (match yS c with | true=>some 0 | false=>none)with
 |some k=>some (CB pc c 4 k)
 |none=>none
def Lk(c:E)(pc:List E):Option Int:=
 match lv c pc none with
 |some k=>some (CA pc c 4 k)
 |none=>none
def q8(pc:List E)(c:E):Option Int:=eQ (kb c) fun n=>LV c (xV n pc)
def lw(pc:List E)(c:E):Option Int:=eQ (kb c) fun n=>Lk c (xV n pc)
def leI(a b:Int):Bool:=cf .leq a b
def o9(a b:Int):Bool:=cf .lss a b
def Cx(pc:List E)(e:E):Option Bool:=
 match e with
 |.cmp .lss a (.int k)=>match q8 pc (cU a)with
  |some x=>match leI k (x+eg a)with
   |true=>some false
   |false=>match lw pc (cU a)with
    |some y=>match o9 (y+eg a) k with
     |true=>some true
     |false=>none
    |none=>none
  |none=>match lw pc (cU a)with
   |some y=>match o9 (y+eg a) k with
    |true=>some true
    |false=>none
   |none=>none
 |.cmp .lss (.int k) a=>match q8 pc (cU a)with
  |some x=>match o9 k (x+eg a)with
   |true=>some true
   |false=>match lw pc (cU a)with
    |some y=>match leI (y+eg a) k with
     |true=>some false
     |false=>none
    |none=>none
  |none=>match lw pc (cU a)with
   |some y=>match leI (y+eg a) k with
    |true=>some false
    |false=>none
   |none=>none
 |.cmp .eql a (.int k)=>match q8 pc (cU a)with
  |some x=>match o9 k (x+eg a)with
   |true=>some false
   |false=>match lw pc (cU a)with
    |some y=>match o9 (y+eg a) k with
     |true=>some false
     |false=>match hO (x+eg a) k&&hO (y+eg a) k with
      |true=>some true
      |false=>none
    |none=>none
  |none=>match lw pc (cU a)with
   |some y=>match o9 (y+eg a) k with
    |true=>some false
    |false=>none
   |none=>none
 |_=>none
def adG:Option Bool->Option Bool
 |some b=>some (!b)
 |none=>none
def LJ(fs pc:List E)(e:E):Option Bool:=
 match tx pc e pc with
  |true=>some true
  |false=>match tx pc (bc e) pc with
   |true=>some false
   |false=>match tx pc e fs with
    |true=>some true
    |false=>match tx pc (bc e) fs with
     |true=>some false
     |false=>match e with
      |.not x=>adG (Cx pc x)
      |_=>Cx pc e
noncomputable def aF0(e:E):Option Bool:=E.rec (motive:=fun _=>Option Bool) (fun _=>none) some (fun _=>none) (fun _=>none) (fun _ _ _ _ _ _=>none) (fun _ _ _ _ _=>none) (fun _ _ _ _=>none) (fun _ _ _ _=>none) (fun _ _ _=>none) (fun _ _=>none) (fun _ _ _ _=>none) (fun _ _ _ _=>none) (fun _ _ _ _=>none) (fun _ _ _ _=>none) (fun _ _ _=>none) (fun _ _ _ _=>none) e
noncomputable def dQ(fs pc:List E)(e:E):Option Bool:=Option.rec (motive:=fun _=>Option Bool) (LJ fs pc e) some (aF0 e)
theorem aFK(fs pc:List E)(e:E):dQ fs pc e=(match e with
 |.bool b=>some b
 |_=>LJ fs pc e):=by cases e<;>rfl
def gL(fs pc:List E)(a b:E):Bool:=
 match dQ fs pc (aF .lss a b)with
 |some true=>true
 |_=>false
def kh(fs pc:List E)(a b:E):Bool:=
 match dQ fs pc (aF .lss a b)with
 |some false=>true
 |_=>false
def dR(fs pc:List E)(e:E):Bool:=
 match yS e with
 |true=>true
 |false=>kh fs pc e (.int 0)
inductive Rz where
 |lit (j:Nat)
 |ask (e:E)
 |lack (e:E)
def zC(fs pc:List E)(i:E):Nat->Nat->Rz
 |0,_=>.lack (.bool false)
 |n+1,j=>match dQ fs pc (aF .eql i (.int (.ofNat j)))with
  |some true=>.lit j
  |some false=>zC fs pc i n (Nat.succ j)
  |none=>.ask (aF .eql i (.int (.ofNat j)))
def fG(o:Off):Option Nat:=match o.scale with | 0=>some o.base | _=>none
def t7(tb:Tab)(st:St)(t:TypeId)(x:SV):Option SV:=
 match x with
 |.ptr b o=>match st.heap.get b with
  |some ⟨_,.cells cs _ _⟩=>match fG o with
   |some n=>match iN tb t with
    |some true=>match cy tb t with
     |some sz=>match jF (qD cs n) sz with
      |some l=>some (.agg l)
      |none=>none
     |none=>none
    |some false=>dq cs n
    |none=>none
   |none=>none
  |_=>none
 |_=>none
def FF(tb:Tab)(st:St)(t:TypeId)(x v:SV):Option St:=
 match x with
 |.ptr b o=>match st.heap.get b with
  |some ⟨true,.cells cs ag elem⟩=>match fG o with
   |some n=>match cy tb t with
    | some sz=>if Nat.beq v.cells.length sz&&mK v.cells then
      match nF cs n v.cells with
      |some cs'=>T.setK st.heap b ⟨true,.cells cs' ag elem⟩ fun h=>some {st with heap:=h}
      |none=>none
     else none
    |none=>none
   |none=>none
  |_=>none
 |_=>none
def re(tmps:Tm)(st:St)(elem:TypeId)(cs:List SV):Option (SV×St):=
 if st.scp&&i3 st.nv st.nb tmps&&SV.scps st.nv st.nb cs then
  T.insK st.heap st.nb ⟨true,.cells cs (.int (.ofNat cs.length)) elem⟩ fun h=>some (.ptr st.nb ⟨0,0,.int 0⟩,{st with nb:=Nat.succ st.nb,heap:=h})
 else none
def lG(z:List SV):Nat->List SV
 |0=>[]
 |n+1=>z++lG z n
inductive EffR where
 |val (v:SV) (st:St)
 |skip (st:St)
 |ask (e:E)
 |lack (e:E)
 |bad
def EffR.ofVal:Option SV->St->EffR
 |some v,st=>.val v st
 |none,_=>.bad
def EffR.ofPair:Option (SV×St)->EffR
 |some (v,st)=>.val v st
 |none=>.bad
noncomputable def isJunk(v:SV):Bool:=
 SV.rec (motive_1:=fun _=>Bool) (motive_2:=fun _=>Bool) (fun _ _=>false) (fun _=>false) (fun _=>false) false (fun _ _=>false) false (fun _ _ _ _=>false)
  (fun _ _ _=>false) (fun _ _=>false) (fun _ _ _ _=>false) false (fun _=>false) false false (fun _ _ _ _ _=>false) (fun _ _=>false) (fun _ _=>false) true
  (fun _ _ _ _ _=>false) (fun _ _ _ _ _ _ _=>false)
  false (fun _ _ _ _=>false) v
noncomputable def aEW(v:SV):Option SV:=Bool.rec (some v) none (isJunk v)
noncomputable def aay(x:Option SV):Option SV:=Option.rec (motive:=fun _=>Option SV) (some .undef) aEW x
noncomputable def bz(tmps:Tm)(x:Operand):Option SV:=
 Operand.rec (motive:=fun _=>Option SV) (fun t=>aay (tmps.get t)) ofVal (fun _=>none) (fun f=>some (.func (.func f) [] [])) x
theorem aaB(tmps:Tm)(t:Tmp):bz tmps (.tmp t)=(match tmps.get t with
  |some v=>match v with
   |.junk=>none
   |_=>some v
  |none=>some .undef):=by
 show aay (tmps.get t)=_;cases tmps.get t with
 |none=>rfl
 |some v=>cases v<;>rfl
theorem aaA(tmps:Tm)(g:Nat):bz tmps (.global g)=none:=rfl
theorem aaz(tmps:Tm)(f:FuncId):bz tmps (.func f)=some (.func (.func f) [] []):=rfl
def aM{G:Type}:List G->Nat
 |[]=>0
 |_::xs=>Nat.succ (aM xs)
def gm(w:Nat)(e:E):E:=
 match e with
 |.fn 24 (.pr _ (.pr l (.pr h _)))=>match l with
  |.int (.ofNat 0)=>h
  |_=>.fn 29 (.pr h l)
 |.fn 28 (.pr (.pr _ n) _)=>n
 |.fn 30 _=>.int 0
 |e=>match w with | 1=>gN e | _=>.fn 9 (.pr e (.int (.ofNat w)))
def oJ(e:E):E:=
 match e with
 |.fn 24 (.pr _ (.pr l (.pr _ m)))=>match l with
  |.int (.ofNat 0)=>m
  |_=>.fn 29 (.pr m l)
 |.fn 30 _=>.int 0
 |e=>.fn 22 e
def dy(w:Nat)(idx:E)(j:Nat):E:=
 match w with
 |1=>idx
 |_=>match idx with
  |.int n=>.int (n * .ofNat w + .ofNat j)
  |_=>.fn 6 (.pr (.fn 8 (.pr idx (.int (.ofNat w)))) (.int (.ofNat j)))
def gP(fs pc:List E):E->E->E
 |.fn 2 (.pr l' (.pr j v)),i=>match i.beq j with
  |true=>v
  |false=>match i,j with
   |.int (.ofNat _),.int (.ofNat _)=>gP fs pc l' i
   |_,_=>match dQ fs pc (aF .eql i j)with
    |some true=>match kh fs pc j (.int 0)with
     |true=>v
     |false=>.fn 1 (.pr (.fn 2 (.pr l' (.pr j v))) i)
    |some false=>match kh fs pc j (.int 0)with
     |true=>gP fs pc l' i
     |false=>.fn 1 (.pr (.fn 2 (.pr l' (.pr j v))) i)
    |none=>.fn 1 (.pr (.fn 2 (.pr l' (.pr j v))) i)
 |.fn 3 (.pr a b),i=>match gL fs pc i (gN a)with
  |true=>gP fs pc a i
  |false=>match kh fs pc i (gN a)with
   |true=>gP fs pc b (iR i (gN a))
   |false=>.fn 1 (.pr (.fn 3 (.pr a b)) i)
 |.fn 23 (.pr x r),i=>match i with
  |.int (.ofNat n)=>match n with
   |0=>x
   |n+1=>gP fs pc r (.int (.ofNat n))
  |_=>.fn 1 (.pr (.fn 23 (.pr x r)) i)
 |.fn 5 (.pr n x),i=>x
 |.fn 11 x,i=>x
 |.fn 21 (.pr r c),i=>gP fs pc c i
 |.fn 28 (.pr r c),i=>gP fs pc c i
 |.fn 24 (.pr (.pr (.int (.ofNat 1)) e) (.pr l m)),i=>match kh fs pc l (.int 0)with
  |true=>gP fs pc e (cI l i)
  |false=>.fn 1 (.pr (.fn 24 (.pr (.pr (.int (.ofNat 1)) e) (.pr l m))) i)
 |l,i=>.fn 1 (.pr l i)
inductive FA where
 |at (idx:E) (j:Nat)
 |lack (e:E)
 |bad
def Dp(fs pc:List E)(n idx:E)(j:Nat):FA:=
 match gL fs pc idx n with
 |true=>.at idx j
 |false=>.lack (aF .lss idx n)
def nd(fs pc:List E)(w:Nat)(n:E)(o:Off):FA:=
 match w with
 |0=>.bad
 |_=>match o.scale with
  |0=>Dp fs pc n (.int (.ofNat (Nat.div o.base w))) (Nat.mod o.base w)
  |s=>match Nat.beq s w with
   |true=>match dR fs pc o.idx with
    |true=>Dp fs pc n (cI o.idx (.int (.ofNat (Nat.div o.base w)))) (Nat.mod o.base w)
    |false=>.lack (bc (aF .lss o.idx (.int 0)))
   |false=>.bad
def mN(c:CK)(e:E):SV:=
 match c with
 |.int k=>.int k e
 |.bool=>.bool e
 |.str=>.str e
 |.slc ks=>.bsl ks e
def te(fs pc:List E)(ks:List CK)(w:Nat)(l idx:E):Nat->Nat->Option (List SV)
 |0,_=>some []
 |n+1,j=>match dq ks j with
  |some c=>match te fs pc ks w l idx n (Nat.succ j)with
   |some vs=>some (mN c (gP fs pc l (dy w idx j))::vs)
   |none=>none
  |none=>none
def o8(tb:Tab)(st:St)(t:TypeId)(ks:List CK)(l idx:E)(j:Nat):EffR:=
 match iN tb t with
 |some true=>match cy tb t with
  |some sz=>match te tb.facts st.pc ks (aM ks) l idx sz j with
   |some vs=>.val (.agg vs) st
   |none=>.bad
  |none=>.bad
 |some false=>match te tb.facts st.pc ks (aM ks) l idx 1 j with
  |some vs=>match vs with
   |[v]=>.val v st
   |_=>.bad
  |none=>.bad
 |none=>.bad
def ki:E->E
 |.fn 21 (.pr x _)=>ki x
 |e=>e
def ti(e:E):E:=match e with
 |.fn 21 (.pr _ c)=>c
 |.fn 28 (.pr _ c)=>c
 |e=>e
def xy(b:Nat)(c:CK)(e idx:E)(j:Nat):SV:=
 match c with
 |.int k=>.int k e
 |.bool=>.bool e
 |.str=>.str e
 |.slc ks=>.nsl b ks e idx j
def tf(fs pc:List E)(b:Nat)(ks:List CK)(w:Nat)(l idx:E):Nat->Nat->Option (List SV)
 |0,_=>some []
 |n+1,j=>match dq ks j with
  |some c=>match tf fs pc b ks w l idx n (Nat.succ j)with
   |some vs=>some (xy b c (gP fs pc l (dy w idx j)) idx j::vs)
   |none=>none
  |none=>none
def yE(tb:Tab)(st:St)(t:TypeId)(b:Nat)(ks:List CK)(l idx:E)(j:Nat):EffR:=
 match iN tb t with
 |some true=>match cy tb t with
  |some sz=>match tf tb.facts st.pc b ks (aM ks) l idx sz j with
   |some vs=>.val (.agg vs) st
   |none=>.bad
  |none=>.bad
 |some false=>match tf tb.facts st.pc b ks (aM ks) l idx 1 j with
  |some vs=>match vs with
   |[v]=>.val v st
   |_=>.bad
  |none=>.bad
 |none=>.bad
inductive NA where
 |at (cur p:E)
 |lack (e:E)
 |bad
def adv(e cur p:E):NA:=match (ki cur).beq (ki e)with | true=>.at cur p | false=>.bad
def rd(fs pc:List E)(h:T Blk)(b:Nat)(ks:List CK)(e idx:E)(c:Nat):NA:=
 match h.get b with
 |some ⟨true,.nest ks0 l n _ _ own⟩=>match dq ks0 c with
  |some (.slc ks')=>match fR ks ks' with
   |true=>match dR fs pc idx with
    |true=>match gL fs pc idx n with
     |true=>match gL fs pc idx own with
      |true=>adv e (gP fs pc l (dy (aM ks0) idx c)) (dy (aM ks0) idx c)
      |false=>.lack (aF .lss idx own)
     |false=>.lack (aF .lss idx n)
    |false=>.lack (bc (aF .lss idx (.int 0)))
   |false=>.bad
  |_=>.bad
 |_=>.bad
def yF(tb:Tab)(st:St)(t:TypeId)(x:SV):EffR:=
 match x with
 |.ptr b o=>match st.heap.get b with
  |some ⟨_,.flat ks l n _ _⟩=>match nd tb.facts st.pc (aM ks) n o with
   |.at idx j=>o8 tb st t ks l idx j
   |.lack e=>.lack e
   |.bad=>.bad
  |some ⟨_,.nest ks l n _ _ own⟩=>match nd tb.facts st.pc (aM ks) n o with
   |.at idx j=>match gL tb.facts st.pc idx own with
    |true=>yE tb st t b ks l idx j
    |false=>match kh tb.facts st.pc idx own with
     |true=>o8 tb st t ks l idx j
     |false=>.ask (aF .lss idx own)
   |.lack e=>.lack e
   |.bad=>.bad
  |_=>.bad
 |.bptr ks e idx j=>o8 tb st t ks e idx j
 |.nptr b ks e idx c x j=>match rd tb.facts st.pc st.heap b ks e idx c with
  |.at cur _=>o8 tb st t ks cur x j
  |.lack e=>.lack e
  |.bad=>.bad
 |_=>.bad
def jo(c:CK)(v:SV):Option E:=
 match c,v with
 |.int k,.int k' e=>match eE k k' with | true=>some e | false=>none
 |.bool,.bool e=>some e
 |.str,.str e=>some e
 |.slc ks,.bsl ks' e=>match fR ks ks' with | true=>some e | false=>none
 |.slc _,.nils=>some (.fn 30 (.int 0))
 |_,_=>none
def putCells(ks:List CK)(w:Nat)(idx:E):List SV->Nat->E->Option E
 |[],_,l=>some l
 |v::vs,j,l=>match dq ks j with
  |some c=>match jo c v with
   |some e=>putCells ks w idx vs (Nat.succ j) (iS l (dy w idx j) e)
   |none=>none
  |none=>none
def MJ(c:CK)(v:SV):Bool:=
 match c,v with
 |.slc _,.nils=>true
 |.slc _,_=>false
 |_,_=>true
def E5:List CK->Nat->List SV->Bool
 |_,_,[]=>true
 |ks,j,v::vs=>match dq ks j with
  |some c=>MJ c v&&E5 ks (Nat.succ j) vs
  |none=>false
def M9(st:St)(b:Nat)(l':E):EffR:=
 match st.heap.get b with
 |some ⟨true,.nest ks _ n ag elem own⟩=>T.setK st.heap b ⟨true,.nest ks l' n ag elem own⟩ fun h=>.skip {st with heap:=h}
 |_=>.bad
def adw(st:St)(b:Nat):E:=
 match st.heap.get b with
 |some ⟨_,.nest _ l _ _ _ _⟩=>l
 |_=>.int 0
def zu(tb:Tab)(st:St)(t:TypeId)(b:Nat)(ks:List CK)(x:E)(j:Nat)(v:SV)(cur p:E):EffR:=
 match cy tb t with
 |some sz=>match Nat.beq v.cells.length sz&&Nat.ble j (aM ks)with
  |true=>match putCells ks (aM ks) x v.cells j (ti cur)with
   |some c'=>M9 st b (iS (adw st b) p (.fn 21 (.pr (ki cur) c')))
   |none=>.bad
  |false=>.bad
 |none=>.bad
def rz(tb:Tab)(st:St)(t:TypeId)(x v:SV):EffR:=
 match x with
 |.nptr b ks e idx c x j=>match rd tb.facts st.pc st.heap b ks e idx c with
  |.at cur p=>zu tb st t b ks x j v cur p
  |.lack e=>.lack e
  |.bad=>.bad
 |.ptr b o=>match st.heap.get b with
  |some ⟨true,.flat ks l n ag elem⟩=>match nd tb.facts st.pc (aM ks) n o with
   |.at idx j=>match cy tb t with
    |some sz=>match Nat.beq v.cells.length sz with
     |true=>match putCells ks (aM ks) idx v.cells j l with
      |some l'=>T.setK st.heap b ⟨true,.flat ks l' n ag elem⟩ fun h=>.skip {st with heap:=h}
      |none=>.bad
     |false=>.bad
    |none=>.bad
   |.lack e=>.lack e
   |.bad=>.bad
  |some ⟨true,.nest ks l n ag elem own⟩=>match nd tb.facts st.pc (aM ks) n o with
   |.at idx j=>match cy tb t with
    |some sz=>match Nat.beq v.cells.length sz&&E5 ks j v.cells with
     |true=>match putCells ks (aM ks) idx v.cells j l with
      |some l'=>T.setK st.heap b ⟨true,.nest ks l' n ag elem own⟩ fun h=>.skip {st with heap:=h}
      |none=>.bad
     |false=>.bad
    |none=>.bad
   |.lack e=>.lack e
   |.bad=>.bad
  |_=>.bad
 |_=>.bad
def Cc(fs pc:List E)(o:Off)(sz:Nat)(i:E):Option Off:=
 match o.scale with
 |0=>some ⟨o.base,sz,i⟩
 |s=>match Nat.beq s sz with
  |true=>match dR fs pc o.idx with
   |true=>some ⟨o.base,sz,cI o.idx i⟩
   |false=>none
  |false=>none
def lit(k:IntKind)(j:Nat):SV:=.int k (.int (.ofNat j))
def oC(tb:Tab)(st:St)(e:E)(n:Nat)(f:Nat->Option SV):EffR:=
 match zC tb.facts st.pc e n 0 with
 |.lit j=>.ofVal (f j) st
 |.ask e=>.ask e
 |.lack e=>.lack e
inductive BK where
 |cells | flat (n:E) | other
def DO(st:St)(b:Nat):BK:=
 match st.heap.get b with
 |some ⟨_,.flat _ _ n _ _⟩=>.flat n
 |some ⟨_,.nest _ _ n _ _ _⟩=>.flat n
 |some ⟨_,.cells _ _ _⟩=>.cells
 |_=>.other
def oU(tb:Tab)(st:St)(e l:E)(k:EffR):EffR:=
 match dR tb.facts st.pc e with
 |true=>match gL tb.facts st.pc e l with
  |true=>k
  |false=>.lack (aF .lss e l)
 |false=>.lack (bc (aF .lss e (.int 0)))
def yf(tb:Tab)(st:St)(t:TypeId)(x i:SV):EffR:=
 match i with
 |.int k e=>match tb.und t with
  |some (.array len _)=>match x with
   |.ptr _ _=>oC tb st e len fun j=>oV tb t x (lit k j)
   |_=>.bad
  |some (.slice elem)=>match cy tb elem with
   |some sz=>match x with
    |.slice b o l _=>match DO st b with
     |.flat _=>oU tb st e l (match Cc tb.facts st.pc o sz e with
      |some o'=>.val (.ptr b o') st
      |none=>.bad)
     |_=>match ef l with
      |some n=>oC tb st e n fun j=>oV tb t x (lit k j)
      |none=>.bad
    |.nslice b l _=>match DO st b with
     |.flat n=>oU tb st e l (match gL tb.facts st.pc e n with
      |true=>.val (.ptr b ⟨0,sz,e⟩) st
      |false=>.lack (aF .lss e n))
     |.cells=>match ef l with
      |some n=>oC tb st e n fun j=>match Nat.blt j n with
       |true=>some (.ptr b ⟨Nat.mul j sz,0,.int 0⟩)
       |false=>none
      |none=>.bad
     |.other=>.bad
    |.bsl ks y=>match Nat.beq (aM ks) sz&&Nat.blt 0 sz with
     |true=>oU tb st e (gm sz y) (.val (.bptr ks y e 0) st)
     |false=>.bad
    |.nsl b ks y idx c=>match Nat.beq (aM ks) sz&&Nat.blt 0 sz with
     |true=>match rd tb.facts st.pc st.heap b ks y idx c with
      |.at cur _=>oU tb st e (gm sz cur) (.val (.nptr b ks y idx c e 0) st)
      |.lack e=>.lack e
      |.bad=>.bad
     |false=>.bad
    |_=>.bad
   |none=>.bad
  |_=>.bad
 |_=>.bad
def yg(tb:Tab)(st:St)(t:TypeId)(x i:SV):EffR:=
 match i with
 |.int k e=>match tb.und t with
  |some (.array len _)=>oC tb st e len fun j=>tE tb t x (lit k j)
  |_=>.bad
 |_=>.bad
def o4(tb:Tab)(st:St)(e:E):EffR:=
 match dR tb.facts st.pc e with
 |true=>.val (.int .i64 e) st
 |false=>.lack (bc (aF .lss e (.int 0)))
def tU(tb:Tab)(st:St)(c:Bool)(t:TypeId)(x:SV):EffR:=
 match tb.und t with
 |some (.slice elem)=>match x with
  |.slice _ _ l m=>o4 tb st (match c with | true=>m | false=>l)
  |.nslice _ l m=>o4 tb st (match c with | true=>m | false=>l)
  |.bsl ks e=>match ks with
   |[]=>.bad
   |_=>o4 tb st (match c with | true=>oJ e | false=>gm (aM ks) e)
  |.nsl b ks e idx j=>match ks with
   |[]=>.bad
   |_=>match rd tb.facts st.pc st.heap b ks e idx j with
    |.at cur _=>o4 tb st (match c with | true=>oJ (ki cur) | false=>gm (aM ks) cur)
    |.lack e=>.lack e
    |.bad=>.bad
  |_=>.bad
 |some .string=>match c with
  |true=>.bad
  |false=>match x with
   |.str e=>.val (.int .i64 (.fn 13 e)) st
   |_=>.bad
 |some (.map _ _)=>match c with
  |true=>.bad
  |false=>match x with
  |.map b=>match st.heap.get b with
   |some ⟨_,.map es _⟩=>.val (.int .i64 (.int (.ofNat (aM es)))) st
   |some ⟨_,.mapl _ _ e⟩=>.val (.int .i64 (.fn 0 e)) st
   |_=>.bad
  |_=>.bad
 |_=>.bad
def cM(fs pc:List E)(a b:E):Bool:=kh fs pc b a
def eh(d:E):Option SV->Option E
 |none=>some d
 |some (.int _ e)=>some e
 |some _=>none
def J4(fs pc:List E)(c lo hi mx:E)(hlo hhi hmx:Bool):Option E:=
 match hlo && !(dR fs pc lo)with
 |true=>some (bc (aF .lss lo (.int 0)))
 |false=>match hhi && !(dR fs pc hi)with
  |true=>some (bc (aF .lss hi (.int 0)))
  |false=>match hmx && !(dR fs pc mx)with
   |true=>some (bc (aF .lss mx (.int 0)))
   |false=>match hmx && !(cM fs pc mx c)with
    |true=>some (bc (aF .lss c mx))
    |false=>match hhi && !(cM fs pc hi mx)with
     |true=>some (bc (aF .lss mx hi))
     |false=>match hlo && !(cM fs pc lo hi)with
      |true=>some (bc (aF .lss hi lo))
      |false=>none
def gd:Option SV->Bool | some _=>true | none=>false
def Eo(fs pc:List E)(lo hi mx:E):Option Bool:=
 match gL fs pc lo hi&&cM fs pc hi mx with
 |true=>some true
 |false=>match dQ fs pc (aF .eql mx lo)with
  |some true=>some false
  |some false=>some true
  |none=>none
def rO:E->Bool
 |.int (.ofNat n)=>Nat.beq n 0
 |_=>false
def Ku(fs pc:List E)(len cap lo hi mx:E)(hlo hhi hmx:Bool):Option E:=
 match hlo && !(dR fs pc lo)with
 |true=>some (bc (aF .lss lo (.int 0)))
 |false=>match hhi && !(dR fs pc hi)with
  |true=>some (bc (aF .lss hi (.int 0)))
  |false=>match hmx && !(dR fs pc mx)with
   |true=>some (bc (aF .lss mx (.int 0)))
   |false=>match hmx && !(cM fs pc mx cap||cM fs pc mx len)with
    |true=>some (bc (aF .lss len mx))
    |false=>match hhi && !(cM fs pc hi len)with
     |true=>some (bc (aF .lss len hi))
     |false=>match hmx && !(cM fs pc hi mx)with
      |true=>some (bc (aF .lss mx hi))
      |false=>match hlo && !(cM fs pc lo hi)with
       |true=>some (bc (aF .lss hi lo))
       |false=>none
def tR(fs pc:List E):List E->E
 |[]=>.bool false
 |c::cs=>match dQ fs pc c with
  |some true=>tR fs pc cs
  |_=>c
def xI(tb:Tab)(st:St)(sz:Nat)(x:SV)(lo hi mx:E):EffR:=
 match x with
 |.nslice b _ c=>match rO lo with
  |true=>.val (.nslice b hi mx) st
  |false=>match Eo tb.facts st.pc lo hi mx with
   |some false=>match cM tb.facts st.pc hi mx&&cM tb.facts st.pc lo hi with
    |true=>.val (.nslice b (.int 0) (.int 0)) st
    |false=>.lack (tR tb.facts st.pc [bc (aF .lss mx hi),bc (aF .lss hi lo)])
   |some true=>match st.heap.get b with
    |some ⟨_,.flat _ _ _ ag _⟩=>match cM tb.facts st.pc c ag&&(cM tb.facts st.pc mx c&&(dR tb.facts st.pc lo&&(cM tb.facts st.pc lo hi&&cM tb.facts st.pc hi mx)))with
     |true=>.val (.slice b ⟨0,sz,lo⟩ (iR hi lo) (iR mx lo)) st
     |false=>.lack (tR tb.facts st.pc [bc (aF .lss ag c),bc (aF .lss c mx),bc (aF .lss lo (.int 0)),bc (aF .lss hi lo),bc (aF .lss mx hi)])
    |some ⟨_,.cells _ _ _⟩=>match ef lo with
     |some n=>match cM tb.facts st.pc lo hi&&cM tb.facts st.pc hi mx with
      |true=>.val (.slice b ⟨Nat.mul n sz,0,.int 0⟩ (iR hi lo) (iR mx lo)) st
      |false=>.bad
     |none=>.bad
    |_=>.bad
   |none=>.ask (aF .eql mx lo)
 |.slice b o _ _=>match rO lo with
  |true=>.val (.slice b o hi mx) st
  |false=>match Eo tb.facts st.pc lo hi mx with
   |some false=>match cM tb.facts st.pc hi mx&&cM tb.facts st.pc lo hi with
    |true=>.val (.slice b o (.int 0) (.int 0)) st
    |false=>.bad
   |some true=>match dR tb.facts st.pc lo&&(cM tb.facts st.pc lo hi&&cM tb.facts st.pc hi mx)with
    |true=>match ef lo with
     |some n=>.val (.slice b (qq o (Nat.mul n sz)) (iR hi lo) (iR mx lo)) st
     |none=>match Cc tb.facts st.pc o sz lo with
      |some o'=>.val (.slice b o' (iR hi lo) (iR mx lo)) st
      |none=>.bad
    |false=>.bad
   |none=>.ask (aF .eql mx lo)
 |_=>.bad
def LM:SV->Option (E×E)
 |.slice _ _ l c=>some (l,c)
 |.nslice _ l c=>some (l,c)
 |_=>none
def zm(tb:Tab)(st:St)(t:TypeId)(x:SV)(lo hi mx:Option SV):EffR:=
 match tb.und t with
 |some (.slice elem)=>match cy tb elem with
  |some sz=>match gd mx && !(gd hi)with
   |true=>.bad
   |false=>match x with
    |.bsl ks e=>match Nat.beq (aM ks) sz&&Nat.blt 0 sz with
     |true=>match eh (.int 0) lo,eh (gm sz e) hi,eh (oJ e) mx with
      |some lo',some hi',some mx'=>match Ku tb.facts st.pc (gm sz e) (oJ e) lo' hi' mx' (gd lo) (gd hi) (gd mx)with
       |some e=>.lack e
       |none=>.val (.bsl ks (.fn 24 (.pr (.pr (.int (.ofNat sz)) e) (.pr lo' (.pr hi' mx'))))) st
      |_,_,_=>.bad
     |false=>.bad
    |_=>match LM x with
     |some (l,c)=>match eh (.int 0) lo,eh l hi,eh c mx with
      |some lo',some hi',some mx'=>match J4 tb.facts st.pc c lo' hi' mx' (gd lo) (gd hi) (gd mx)with
       |some e=>.lack e
       |none=>xI tb st sz x lo' hi' mx'
      |_,_,_=>.bad
     |none=>.bad
  |none=>.bad
 |_=>.bad
def fO:List SV->List SV->Nat->Option E
 |[],[],0=>some (.bool true)
 |x::xs,y::ys,n+1=>match x,y with
  |.int k a,.int k' b=>match eE k k',fO xs ys n with
   |true,some e=>some (yP (aF .eql a b) e)
   |_,_=>none
  |_,_=>none
 |_,_,_=>none
def xQ(tb:Tab)(t:TypeId)(x y:SV):Option E:=
 match tb.und t with
 |some (.array len elem)=>match tb.und elem with
  |some (.int _)=>match cy tb elem,iN tb elem with
   |some 1,some false=>match x,y with
    |.agg xs,.agg ys=>fO xs ys len
    |_,_=>none
   |_,_=>none
  |_=>none
 |some .bool=>match x,y with
  |.bool a,.bool b=>El a b
  |_,_=>none
 |some (.int _)=>match x,y with
  |.int k a,.int k' b=>match eE k k' with
   |true=>some (aF .eql a b)
   |false=>none
  |_,_=>none
 |some .string=>match x,y with
  |.str a,.str b=>some (lB a b)
  |_,_=>none
 |_=>none
inductive FR where
 |at (i:Nat) (v:SV) (born:E)
 |no
 |ask (e:E)
 |bad
def oN(tb:Tab)(pc:List E)(kt:TypeId)(k:SV):List Ent->Nat->FR
 |[],_=>.no
 |x::es,i=>match xQ tb kt k x.k with
  |some e=>match dQ tb.facts pc e with
   |some true=>.at i x.v x.born
   |some false=>oN tb pc kt k es (Nat.succ i)
   |none=>.ask e
  |none=>.bad
def qX(tb:Tab)(kt:TypeId)(k:SV):Bool:=
 match xQ tb kt k k with
 |some _=>true
 |none=>false
def jl(ok:Bool)(v:SV)(is:E):SV:=match ok with | true=>.tup [v,.bool is] | false=>v
def yG(tb:Tab)(st:St)(t:TypeId)(x k:SV)(ok:Bool):EffR:=
 match tb.und t with
 |some (.map kt vt)=>match gT tb vt,qX tb kt k with
  |some z,true=>match x with
   |.nilm=>.val (jl ok z (.bool false)) st
   |.map b=>match st.heap.get b with
    |some ⟨_,.map es _⟩=>match oN tb st.pc kt k es 0 with
     |.at _ v _=>.val (jl ok v (.bool true)) st
     |.no=>.val (jl ok z (.bool false)) st
     |.ask e=>.ask e
     |.bad=>.bad
    |some ⟨_,.mapl k0 c e⟩=>match k,jo c z with
     |.int k1 ke,some ze=>match eE k1 k0 with
      |true=>.val (jl ok (mN c (.fn 32 (.pr e (.pr ke ze)))) (.fn 33 (.pr e ke))) st
      |false=>.bad
     |_,_=>.bad
    |_=>.bad
   |_=>.bad
  |_,_=>.bad
 |_=>.bad
def CX(tb:Tab)(tmps:Tm)(st:St)(t:TypeId)(x:Operand):EffR:=
 match bz tmps x with
  |some v=>match t7 tb st t v with
   |some u=>.val u st
   |none=>yF tb st t v
  |none=>.bad
def C1(tb:Tab)(tmps:Tm)(st:St)(t:TypeId)(x:Operand)(y:Operand):EffR:=
 match bz tmps x,bz tmps y with
  |some v,some w=>match FF tb st t v w with
   |some st'=>.skip st'
   |none=>rz tb st t v w
  |_,_=>.bad
def CW(tb:Tab)(tmps:Tm)(st:St)(t:TypeId)(x:Operand)(i:Operand):EffR:=
 match bz tmps x,bz tmps i with
  |some v,some w=>yf tb st t v w
  |_,_=>.bad
def CV(tb:Tab)(tmps:Tm)(st:St)(t:TypeId)(x:Operand)(i:Operand):EffR:=
 match bz tmps x,bz tmps i with
  |some v,some w=>yg tb st t v w
  |_,_=>.bad
def CU(tb:Tab)(tmps:Tm)(st:St)(c:Call):EffR:=
 match c.callee with
  |.builtin b=>match dq c.argTypes.toList 0,iK (bz tmps) c.args.toList with
   |some t,some vs=>match dq vs 0 with
    |some v=>match b with
     |.len=>tU tb st false t v
     |.cap=>tU tb st true t v
     |_=>.bad
    |none=>.bad
   |_,_=>.bad
  |_=>.bad
def C0(tb:Tab)(tmps:Tm)(st:St)(t:TypeId)(x:Operand)(lo:Option Operand)(hi:Option Operand)(mx:Option Operand):EffR:=
 match bz tmps x,oM (bz tmps) lo,oM (bz tmps) hi,oM (bz tmps) mx with
  |some v,some l,some h,some m=>zm tb st t v l h m
  |_,_,_,_=>.bad
def CY(tb:Tab)(tmps:Tm)(st:St)(t:TypeId)(x:Operand)(k:Operand)(ok:Bool):EffR:=
 match bz tmps x,bz tmps k with
  |some v,some w=>yG tb st t v w ok
  |_,_=>.bad
def CS(tb:Tab)(tmps:Tm)(st:St)(elem:TypeId)(x:Operand):EffR:=
 match bz tmps x with
  |some v=>.ofPair (re tmps st elem v.cells)
  |none=>.bad
def CQ(tb:Tab)(tmps:Tm)(st:St)(elem:TypeId):EffR:=
 match gT tb elem with
  |some v=>.ofPair (re tmps st elem v.cells)
  |none=>.bad
def CT(tb:Tab)(tmps:Tm)(st:St)(t:TypeId)(len:Nat)(parts:Array (Nat×Operand)):EffR:=
 match tb.und t,mW (bz tmps) parts.toList with
  |some (.slice elem),some ps=>match cy tb elem,gT tb elem with
   |some sz,some z=>if Nat.ble (Nat.mul len sz) 16777216&&Nat.beq z.cells.length sz then match lp (fun i=>some (Nat.mul i sz,sz)) (lG z.cells len) ps with
    |some cs=>match re tmps st elem cs with
     |some (.ptr b o,st')=>.val (.slice b o (.int (.ofNat len)) (.int (.ofNat len))) st'
     |_=>.bad
    |none=>.bad
    else .bad
   |_,_=>.bad
  |_,_=>.bad
def shF(tb:Tab)(st:St)(op:BinOp)(k:IntKind)(a b:E):EffR:=
 match dQ tb.facts st.pc (aF .lss b (.int 0))with
 |some false=>.val (.int k (ig op k a b)) st
 |_=>.lack (bc (aF .lss b (.int 0)))
def Fi(tb:Tab)(st:St)(op:BinOp)(k:IntKind)(a:E)(k':IntKind)(b:E):EffR:=
 match eE k k' with
 |true=>match dQ tb.facts st.pc (aF .eql b (.int 0))with
  |some false=>match op with
   |.quo=>.val (.int k (ig .quo k a b)) st
   |.rem=>.val (.int k (ig .rem k a b)) st
   |_=>.bad
  |_=>match op with
   |.quo=>.lack (bc (aF .eql b (.int 0)))
   |.rem=>.lack (bc (aF .eql b (.int 0)))
   |_=>.bad
 |false=>.bad
def qC(tb:Tab)(st:St)(op:BinOp)(k:IntKind)(a:E)(k':IntKind)(b:E):EffR:=
 .bad
def CR(tb:Tab)(tmps:Tm)(st:St)(op:BinOp)(t:TypeId)(x:Operand)(y:Operand):EffR:=
 match bz tmps x,bz tmps y with
  |some (.int k a),some (.int k' b)=>qC tb st op k a k' b
  |some (.ptr a i),some (.ptr b j)=>
   match tb.und t with
   |some (.pointer elem)=>match cy tb elem with
    |some (Nat.succ _)=>match st.heap.get a,st.heap.get b,fG i,fG j with
     |some ⟨own1,.cells (_::_) _ _⟩,some ⟨own2,.cells (_::_) _ _⟩,some m,some n=>
      match own1||own2 with
      |true=>match op with
       |.eql=>.val (.bool (.bool (Nat.beq a b&&Nat.beq m n))) st
       |.neq=>.val (.bool (.bool (!(Nat.beq a b&&Nat.beq m n)))) st
       |_=>.bad
      |false=>.bad
     |_,_,_,_=>.bad
    |_=>.bad
   |_=>.bad
  |_,_=>.bad
def CZ(tb:Tab)(tmps:Tm)(st:St)(c:Operand)(a:Operand)(b:Operand):EffR:=
 match bz tmps c with
  |some (.bool e)=>match dQ tb.facts st.pc e with
   |some true=>.ofVal (bz tmps a) st
   |some false=>.ofVal (bz tmps b) st
   |none=>.ask e
  |_=>.bad
noncomputable def mS(tb:Tab)(tmps:Tm)(st:St)(o:Op):EffR:=
 Op.rec (motive:=fun _=>EffR)
  (fun _=>.bad)
  (fun _=>.bad)
  (fun c a b=>CZ tb tmps st c a b)
  (fun elem=>CQ tb tmps st elem)
  (fun elem x=>CS tb tmps st elem x)
  (fun _ _=>.bad)
  (fun t len parts=>CT tb tmps st t len parts)
  (fun _ _ _ _=>.bad)
  (fun t x=>CX tb tmps st t x)
  (fun t x y=>C1 tb tmps st t x y)
  (fun _=>.bad)
  (fun _=>.bad)
  (fun _=>.bad)
  (fun op t x y _=>CR tb tmps st op t x y)
  (fun _ _ _=>.bad)
  (fun _ _ _=>.bad)
  (fun _ _=>.bad)
  (fun _ _=>.bad)
  (fun _ _ _=>.bad)
  (fun _ _=>.bad)
  (fun _ _=>.bad)
  (fun _ _ _=>.bad)
  (fun t x lo hi mx=>C0 tb tmps st t x lo hi mx)
  (fun _ _ _=>.bad)
  (fun _ _ _=>.bad)
  (fun t x i=>CW tb tmps st t x i)
  (fun t x i=>CV tb tmps st t x i)
  (fun t x k ok=>CY tb tmps st t x k ok)
  (fun _ _ _ _=>.bad)
  (fun _ _ _=>.bad)
  (fun _ _ _ _=>.bad)
  (fun _ _=>.bad)
  (fun _ _=>.bad)
  (fun _=>.bad)
  (fun _ _ _ _=>.bad)
  (fun _ _=>.bad)
  (fun c=>CU tb tmps st c)
  (fun _=>.bad)
  (fun _=>.bad)
  (fun _=>.bad)
  (fun _ _=>.bad)
  (fun _ _ _=>.bad)
  (fun _ _=>.bad)
  o
theorem aah(tb:Tab)(tmps:Tm)(st:St)(o:Op):mS tb tmps st o=(match o with
 |.load t x=>CX tb tmps st t x
 |.store t x y=>C1 tb tmps st t x y
 |.indexAddr t x i=>CW tb tmps st t x i
 |.index t x i=>CV tb tmps st t x i
 |.call c=>CU tb tmps st c
 |.slice t x lo hi mx=>C0 tb tmps st t x lo hi mx
 |.lookup t x k ok=>CY tb tmps st t x k ok
 |.box elem x=>CS tb tmps st elem x
 |.alloc elem=>CQ tb tmps st elem
 |.buildSlice t len parts=>CT tb tmps st t len parts
 |.binOp op t x y _=>CR tb tmps st op t x y
 |.pick c a b=>CZ tb tmps st c a b
 |_=>.bad):=by cases o<;>rfl
def abR(f:TypeId->Option (List CK)):List Field->Option (List CK)
 |[]=>some []
 |fd::fds=>match f fd.type,abR f fds with
  |some a,some b=>some (a++b)
  |_,_=>none
def nq(l:List CK):Nat->List CK
 |0=>[]
 |n+1=>l++nq l n
def yy(tb:Tab):Nat->TypeId->Option (List CK)
 |0,_=>none
 |d+1,t=>match tb.und t with
  |some (.int k)=>some [.int k]
  |some .bool=>some [.bool]
  |some .string=>some [.str]
  |some (.slice e)=>match yy tb d e with
   |some ks=>some [.slc ks]
   |none=>none
  |some (.struct fs)=>abR (yy tb d) fs.toList
  |some (.array n e)=>match yy tb d e with
   |some ks=>some (nq ks n)
   |none=>none
  |_=>none
def qM:List CK->List SV->Option (List E)
 |[],[]=>some []
 |c::cs,v::vs=>match jo c v,qM cs vs with
  |some e,some l=>some (e::l)
  |_,_=>none
 |_,_=>none
def Ec(ks:List CK)(n:Nat)(vs:List SV):Option E:=
 match qM (nq ks n) vs with
 |some l=>some (cr l)
 |none=>none
inductive Held where
 |cells (vs:List SV)
 |list (ks:List CK) (l n:E)
def uS(w:Nat)(l n lo len:E):E:=
 match rO lo&&len.beq n with
 |true=>l
 |false=>match w with
  |1=>.fn 4 (.pr l (.pr lo (cI lo len)))
  |_=>match rO lo with
   |true=>.fn 18 (.pr l (.fn 8 (.pr len (.int (.ofNat w)))))
   |false=>.fn 4 (.pr l (.pr (.fn 8 (.pr lo (.int (.ofNat w)))) (.fn 8 (.pr (cI lo len) (.int (.ofNat w))))))
def EH(w:Nat)(o:Off):Option E:=
 match o.scale with
 |0=>match Nat.beq (Nat.mod o.base w) 0 with
  |true=>some (.int (.ofNat (Nat.div o.base w)))
  |false=>none
 |s=>match Nat.beq s w&&Nat.beq o.base 0 with
  |true=>some o.idx
  |false=>none
def xE(tb:Tab)(st:St)(sz:Nat)(v:SV):Option Held:=
 match v with
 |.nils=>some (.cells [])
 |.bsl ks e=>match Nat.beq (aM ks) sz&&Nat.blt 0 sz with
  |true=>some (.list ks e (gm sz e))
  |false=>none
 |.slice b o len _=>match st.heap.get b with
  |some ⟨_,.cells cs _ _⟩=>match ef len,fG o with
   |some n,some m=>match jF (qD cs m) (Nat.mul n sz)with
    |some l=>match mK l with
     |true=>some (.cells l)
     |false=>none
    |none=>none
   |_,_=>none
  |some ⟨_,.flat ks l n _ _⟩=>match Nat.beq (aM ks) sz&&Nat.blt 0 sz,EH sz o with
   |true,some lo=>match dR tb.facts st.pc lo&&(dR tb.facts st.pc len&&cM tb.facts st.pc (cI lo len) n)with
    |true=>some (.list ks (uS sz l n lo len) len)
    |false=>none
   |_,_=>none
  |_=>none
 |.nslice b len _=>match st.heap.get b with
  |some ⟨_,.cells cs _ _⟩=>match ef len with
   |some n=>match jF cs (Nat.mul n sz)with
    |some l=>match mK l with
     |true=>some (.cells l)
     |false=>none
    |none=>none
   |none=>none
  |some ⟨_,.flat ks l n _ _⟩=>match Nat.beq (aM ks) sz&&Nat.blt 0 sz with
   |true=>match dR tb.facts st.pc len&&cM tb.facts st.pc len n with
    |true=>some (.list ks (uS sz l n (.int 0) len) len)
    |false=>none
   |false=>none
  |_=>none
 |_=>none
def nR(tmps:Tm)(st:St):Bool:=st.scp&&i3 st.nv st.nb tmps
def Gc(sz:Nat)(c:E):E:=match sz with | 1=>c | _=>.fn 8 (.pr c (.int (.ofNat sz)))
def adN(sz:Nat)(elem:TypeId)(ct:Held)(c:E):SObj:=
 match ct with
 |.cells vs=>.cells vs (Gc sz c) elem
 |.list ks l n=>.flat ks l n c elem
def Held.scp(nv nb:Nat):Held->Bool
 |.cells vs=>SV.scps nv nb vs
 |.list _ l n=>l.scp nv&&n.scp nv
def oS(tmps:Tm)(st:St)(sz:Nat)(elem:TypeId)(ct:Held)(need:E):Option (SV×St):=
 let c:=E.var st.nv
 match nR tmps st&&(need.scp st.nv&&ct.scp st.nv st.nb)with
 |true=>T.insK st.heap st.nb ⟨true,adN sz elem ct c⟩ fun h=>some (.nslice st.nb need c,⟨Nat.succ st.nv,Nat.succ st.nb,h,bc (aF .lss c need)::bc (aF .lss c (.int 0))::st.pc⟩)
 |false=>none
def MM(l l':E):E:=
 match DK l with
 |true=>l'
 |false=>.fn 3 (.pr l l')
def JV(sz:Nat)(n m:Option Nat)(a b:Held):Option Held:=
 match a,b with
 |.cells x,.cells y=>some (.cells (x++y))
 |.list ks l n,.list ks' l' n'=>match fR ks ks' with
  |true=>some (.list ks (Ek l l') (cI n n'))
  |false=>none
 |.list ks l n,.cells y=>match m with
  |some m=>match Ec ks m y with
   |some l'=>some (.list ks (Ek l l') (cI n (.int (.ofNat m))))
   |none=>none
  |none=>none
 |.cells x,.list ks l' n'=>match n with
  |some n=>match Ec ks n x with
   |some l=>some (.list ks (MM l l') (cI (.int (.ofNat n)) n'))
   |none=>none
  |none=>none
def qY(sz:Nat)(v:SV):Option E:=
 match v with
 |.nils=>some (.int 0)
 |.slice _ _ l _=>some l
 |.nslice _ l _=>some l
 |.bsl _ e=>some (gm sz e)
 |_=>none
def qx(v:SV):Option E:=
 match v with
 |.nils=>some (.int 0)
 |.slice _ _ _ c=>some c
 |.nslice _ _ c=>some c
 |.bsl _ e=>some (oJ e)
 |_=>none
inductive Eff2 where
 |val (v:SV) (st:St)
 |skip (st:St)
 |ask (e:E)
 |lack (e:E)
 |bad
def iH:E:=.int 2147483648
def zy(sz:Nat)(c ag:E):Bool:=
 match ef c with
 |some n=>(E.int (.ofNat (Nat.mul n sz))).beq ag
 |none=>(Gc sz c).beq ag
def Gl(st:St)(sz:Nat)(elem:TypeId)(v:SV):Option Nat:=
 match v with
 |.nslice b _ c=>match st.heap.get b with
  |some ⟨true,.flat ks _ _ ag e⟩=>match c.beq ag&&(Nat.beq (aM ks) sz&&Nat.beq e elem)with | true=>some b | false=>none
  |some ⟨true,.cells _ ag e⟩=>match zy sz c ag&&Nat.beq e elem with | true=>some b | false=>none
  |_=>none
 |.slice b o _ c=>match fG o with
  |some 0=>match st.heap.get b with
   |some ⟨true,.cells _ ag e⟩=>match zy sz c ag&&Nat.beq e elem with | true=>some b | false=>none
   |_=>none
  |_=>none
 |_=>none
def J7(tb:Tab)(t:TypeId):Option Nat:=
 match tb.ty.get t with
 |some i=>some i.bytes
 |none=>none
def yU(old:SObj)(ct:Held):Option SObj:=
 match old,ct with
 |.cells _ ag e,.cells vs=>some (.cells vs ag e)
 |.flat _ _ _ ag e,.list ks l n=>some (.flat ks l n ag e)
 |_,_=>none
def abk(old:SObj)(ct:Held):Bool:=
 match old,ct with
 |.cells _ _ _,_=>true
 |.flat _ _ _ _ _,.list _ _ _=>true
 |_,_=>false
def F9(tmps:Tm)(st:St)(b:Nat)(sz:Nat)(elem:TypeId)(ct:Held)(need:E):Option (SV×St):=
 match st.heap.get b with
 |some ⟨_,old⟩=>match abk old ct with
  |true=>T.setK st.heap b ⟨true,.gone⟩ fun h=>oS tmps {st with heap:=h} sz elem ct need
  |false=>none
 |none=>none
def tI:SV->Bool
 |.bsl _ _=>true
 |_=>false
def Eff2.ofPair:Option (SV×St)->Eff2
 |some (v,st)=>.val v st
 |none=>.bad
def DM(tb:Tab)(t:TypeId):Bool:=
 match tb.und t with
 |some (.slice _)=>true
 |_=>false
def nZ(fs pc:List E)(e:E):Bool:=
 match rO e with
 |true=>true
 |false=>match dQ fs pc (aF .eql e (.int 0))with
  |some true=>true
  |_=>false
def aFQ(fs pc:List E)(ls lx c:E):E:=
 match dR fs pc ls with
 |false=>bc (aF .lss ls (.int 0))
 |true=>match dR fs pc lx with
  |false=>bc (aF .lss lx (.int 0))
  |true=>bc (aF .lss c (.int 0))
def vb:E:=.iff (.bool true) (.bool true)
def NT(fs pc:List E)(s:SV)(c:E)(ct:Held):Bool:=
 match ct with
 |.list _ _ _=>match s with
  |.nils=>oW vb fs
  |.bsl _ _=>match oW vb fs with | true=>nZ fs pc c | false=>false
  |_=>false
 |_=>false
def xi(tb:Tab)(tmps:Tm)(st:St)(elem:TypeId)(sz:Nat)(s:SV)(a b:Held)(ls lx c:E):Eff2:=
  match JV sz (ef ls) (ef lx) a b with
  |some ct=>
    let need:=cI ls lx
    match dR tb.facts st.pc ls&&(dR tb.facts st.pc lx&&dR tb.facts st.pc c)with
    | true=>match cM tb.facts st.pc need iH with
      | true=>match dQ tb.facts st.pc (aF .lss c need)with
        |some true=> .ofPair (oS tmps st sz elem ct need)
        | some false=>match !(oW vb tb.facts)&&nZ tb.facts st.pc lx with
          |true=> .val s st
          | false=>match Gl st sz elem s with
            | some b=>match st.heap.get b with
              | some ⟨_,old⟩=>match yU old ct with
                |some obj=>T.setK st.heap b ⟨true,obj⟩ fun h=> .val (.nslice b need c) {st with heap:=h}
                |none=> .lack (aF .eql lx (.int 0))
              |none=> .lack (aF .eql lx (.int 0))
            | none=>match nZ tb.facts st.pc lx with
              |true=> .val s st
              |false=> .lack (aF .eql lx (.int 0))
        | none=>match Gl st sz elem s with
          |some b=> .ofPair (F9 tmps st b sz elem ct need)
          |none=>match NT tb.facts st.pc s c ct with
           |true=> .ofPair (oS tmps st sz elem ct need)
           |false=>match tI s with
            | true=>match dQ tb.facts st.pc (aF .eql lx (.int 0))with
              |some true=> .val s st
              |some false=> .lack (aF .lss c need)
              |none=> .ask (aF .eql lx (.int 0))
            | false=>match s with
              | .nils=>match dQ tb.facts st.pc (aF .eql lx (.int 0))with
                |some true=> .val s st
                |some false=> .lack (aF .lss c need)
                |none=> .ask (aF .eql lx (.int 0))
              |_=> .ask (aF .lss c need)
      |false=> .lack (bc (aF .lss iH need))
    |false=> .lack (aFQ tb.facts st.pc ls lx c)
  |none=> .bad
def Kq(tb:Tab)(st:St)(sz:Nat)(v:SV):Option E:=
 match v with
 |.nslice b len _=>match st.heap.get b with
  |some ⟨_,o⟩=>match o with
   |.flat _ _ n _ _=>some (tR tb.facts st.pc [bc (aF .lss len (.int 0)),bc (aF .lss n len)])
   |_=>none
  |none=>none
 |.slice b off len _=>match st.heap.get b with
  |some ⟨_,o⟩=>match o with
   |.flat _ _ n _ _=>match EH sz off with
    |some lo=>some (tR tb.facts st.pc [bc (aF .lss lo (.int 0)),bc (aF .lss len (.int 0)),bc (aF .lss n (cI lo len))])
    |none=>none
   |_=>none
  |none=>none
 |_=>none
def yz(x:Option E):Eff2:=
 match x with
 |some e=>.lack e
 |none=>.bad
def aeC(c pat:E):E:=
 match pat with
 |.fn 23 (.pr e (.fn 10 _))=>.fn 5 (.pr c e)
 |_=>.fn 17 (.pr c pat)
def agL(tb:Tab)(st:St)(elem xt:TypeId)(z x:SV):Option (Held×E):=
 none
def aL9(tb:Tab)(st:St)(x:SV):Option E:=
 match x with
 |.int .i64 n=>match ef n with
  |some _=>none
  |none=>some (tR tb.facts st.pc [bc (aF .lss n (.int 0)),bc (aF .lss (.int 4096) n)])
 |_=>none
def sX(tb:Tab)(tmps:Tm)(st:St)(t xt:TypeId)(s x:SV):Eff2:=
 match tb.und t with
 |some (.slice elem)=>match cy tb elem,J7 tb elem,gT tb elem with
  |some sz,some bytes,some z=>match Nat.blt 0 bytes&&(Nat.ble bytes 32768&&(Nat.blt 0 sz&&Nat.beq z.cells.length sz))with
   |true=>match xE tb st sz s,qY sz s,qx s with
    |some a,some ls,some c=>match DM tb xt with
     |true=>match xE tb st sz x,qY sz x with
      |some b,some lx=>xi tb tmps st elem sz s a b ls lx c
      |_,_=>yz (Kq tb st sz x)
     |false=>match agL tb st elem xt z x with
      |some (b,lx)=>xi tb tmps st elem sz s a b ls lx c
      |none=>yz (aL9 tb st x)
    |_,_,_=>yz (Kq tb st sz s)
   |false=>.bad
  |_,_,_=>.bad
 |_=>.bad
def aGc(tb:Tab)(tmps:Tm)(st:St)(elem:TypeId)(z:SV)(n c:E):Eff2:=
 .bad
def acf(tb:Tab)(tmps:Tm)(st:St)(t:TypeId)(n c:SV):Eff2:=
 .bad
def Fe(st:St)(b off:Nat)(ws:List SV)(v:SV):Eff2:=
 match st.heap.get b with
 |some ⟨true,.cells cs ag e⟩=>match nF cs off ws with
  |some cs'=>T.setK st.heap b ⟨true,.cells cs' ag e⟩ fun h=>.val v {st with heap:=h}
  |none=>.bad
 |_=>.bad
def ZU(tb:Tab)(st:St)(t xt:TypeId)(d s:SV):Eff2:=
 .bad
def MV(fs pc:List E)(m:Nat)(ag:E):Bool:=
 match cM fs pc (.int (.ofNat m)) ag with
 |true=>true
 |false=>match ag with
  |.fn f (.pr c (.int (.ofNat k)))=>match Nat.beq f 8,Nat.blt 0 k with
   |true,true=>cM fs pc (.int (.ofNat (Nat.div (Nat.pred (Nat.add m k)) k))) c
   |_,_=>false
  |_=>false
def CI(tb:Tab)(st:St)(elem:TypeId)(b:Nat)(o:Off)(z:SV):Eff2:=
 match FF tb st elem (.ptr b o) z with
 |some st'=>.val .undef st'
 |none=>match rz tb st elem (.ptr b o) z with
  |.skip st'=>.val .undef st'
  |.ask e=>.ask e
  |.lack e=>.lack e
  |_=>.bad
def tg(tb:Tab)(st:St)(elem:TypeId)(b:Nat)(o:Off):Eff2:=
 match cy tb elem,gT tb elem with
 |some sz,some z=>match Nat.beq z.cells.length sz&&mK z.cells with
  |true=>match st.heap.get b with
   |some ⟨true,.cells cs ag e'⟩=>match fG o with
    |some off=>match Nat.ble cs.length off with
     |true=>match MV tb.facts st.pc (Nat.add off z.cells.length) ag with
      |true=>T.setK st.heap b ⟨true,.cells cs ag e'⟩ fun h=>.val .undef {st with heap:=h}
      |false=>.lack (bc (aF .lss ag (.int (.ofNat (Nat.add off z.cells.length)))))
     |false=>CI tb st elem b o z
    |none=>.bad
   |some ⟨true,.flat ks l n ag e'⟩=>match nd tb.facts st.pc (aM ks) ag o with
    |.at idx j=>match Nat.beq j 0&&(Nat.beq z.cells.length (aM ks)&&cM tb.facts st.pc n idx)with
     |true=>T.setK st.heap b ⟨true,.flat ks l n ag e'⟩ fun h=>.val .undef {st with heap:=h}
     |false=>CI tb st elem b o z
    |.lack e=>.lack e
    |.bad=>.bad
   |_=>.bad
  |false=>.bad
 |_,_=>.bad
def zh(zc:List SV):Nat->List SV
 |0=>[]
 |m+1=>zc++zh zc m
def xC(tb:Tab)(st:St)(elem:TypeId)(b off m:Nat):Eff2:=
 match gT tb elem with
 |some z=>match mK z.cells with
  |true=>Fe st b off (zh z.cells m) .undef
  |false=>.bad
 |none=>.bad
def th(tb:Tab)(st:St)(elem:TypeId)(b:Nat)(o:Off)(n:E):Eff2:=
 match gT tb elem with
 |some z=>match st.heap.get b with
  |some ⟨true,.flat ks l m ag e'⟩=>match nd tb.facts st.pc (aM ks) ag o with
   |.at idx j=>match Nat.beq j 0&&(Nat.beq z.cells.length (aM ks)&&(mK z.cells&&cM tb.facts st.pc (.int 0) n))with
    |true=>match dQ tb.facts st.pc (aF .eql m (cI idx n))with
     |some true=>T.setK st.heap b ⟨true,.flat ks (.fn 18 (.pr l (.fn 8 (.pr idx (.int (.ofNat (aM ks))))))) idx ag e'⟩ fun h=>.val .undef {st with heap:=h}
     |_=>.lack (aF .eql m (cI idx n))
    |false=>.lack (bc (aF .lss n (.int 0)))
   |.lack e=>.lack e
   |.bad=>.bad
  |_=>.bad
 |none=>.bad
def CJ(tb:Tab)(st:St)(t:TypeId)(v:SV):Eff2:=
 match tb.und t with
 |some (.slice elem)=>match v with
  |.slice b o n _=>match ef n with
   |some m=>match m with
    |0=>.val .undef st
    |k+1=>match k with
     |0=>tg tb st elem b o
     |_+1=>match fG o with
      |some off=>xC tb st elem b off m
      |none=>.bad
   |none=>match dQ tb.facts st.pc (aF .eql n (.int 1))with
    |some true=>tg tb st elem b o
    |_=>th tb st elem b o n
  |.nslice b n _=>match st.heap.get b,ef n with
   |some ⟨true,.cells _ _ _⟩,some m=>match m with
    |0=>.val .undef st
    |k+1=>match k with
     |0=>tg tb st elem b ⟨0,0,.int 0⟩
     |_+1=>xC tb st elem b 0 m
   |some ⟨true,.flat _ _ _ _ _⟩,_=>th tb st elem b ⟨0,0,.int 0⟩ n
   |_,_=>.bad
  |.nils=>.val .undef st
  |_=>.bad
 |_=>.bad
def lK(es:List Ent)(i:Nat)(v:SV):List Ent:=
 match es with
 |[]=>[]
 |x::es=>match i with
  |0=>⟨x.k,v,x.born⟩::es
  |i+1=>x::lK es i v
def CO(es:List Ent)(i:Nat):List Ent:=
 match es with
 |[]=>[]
 |e::es=>match i with
  |0=>es
  |i+1=>e::CO es i
def uA(st:St)(b:Nat)(es:List Ent)(clk:E):St:=T.setK st.heap b ⟨true,.map es clk⟩ fun h=>{st with heap:=h}
def y9(st:St)(b:Nat)(k:IntKind)(c:CK)(e:E):St:=T.setK st.heap b ⟨true,.mapl k c e⟩ fun h=>{st with heap:=h}
def yJ(tb:Tab)(st:St)(t:TypeId)(x k v:SV):Eff2:=
 match tb.und t with
 |some (.map kt _)=>match x,qX tb kt k with
  |.map b,true=>match st.heap.get b with
   |some ⟨true,.map es clk⟩=>match oN tb st.pc kt k es 0 with
    |.at i _ _=>.skip (uA st b (lK es i v) clk)
    |.no=>.skip (uA st b (es++[⟨k,v,clk⟩]) (cI clk (.int 1)))
    |.ask e=>.ask e
    |.bad=>.bad
   |some ⟨true,.mapl k0 c e⟩=>match k,jo c v with
    |.int k1 ke,some ve=>match eE k1 k0 with
     |true=>.skip (y9 st b k0 c (.fn 34 (.pr e (.pr ke ve))))
     |false=>.bad
    |_,_=>.bad
   |_=>.bad
  |_,_=>.bad
 |_=>.bad
def MP(st:St)(b:Nat)(k:IntKind)(c:CK)(e ke s:E):St:=T.setK st.heap b ⟨true,.maplp k c e ke s⟩ fun h=>{st with heap:=h}
def Fk(e ke ve:E):E:=
 match e with
 |.fn 34 (.pr e0 (.pr ke0 _))=>match ke0.beq ke with
  |true=>.fn 34 (.pr e0 (.pr ke ve))
  |false=>.fn 34 (.pr e (.pr ke ve))
 |e=>.fn 34 (.pr e (.pr ke ve))
def Ef(tb:Tab)(tmps:Tm)(st:St)(t:TypeId)(x k:SV):Eff2:=
 match tb.und t with
 |some (.map kt vt)=>match x,qX tb kt k with
  |.map b,true=>match st.heap.get b with
   |some ⟨true,.map es clk⟩=>match oN tb st.pc kt k es 0 with
    |.at _ v s=>.val (.tup [v,.int .i64 s]) st
    |.no=>match gT tb vt with
     |some z=>.val (.tup [z,.int .i64 clk]) (uA st b (es++[⟨k,z,clk⟩]) (cI clk (.int 1)))
     |none=>.bad
    |.ask e=>.ask e
    |.bad=>.bad
   |some ⟨true,.mapl k0 c e⟩=>match gT tb vt with
    |some z=>match k,jo c z with
     |.int k1 ke,some ze=>match eE k1 k0,nR tmps st&&ke.scp st.nv with
      | true,true=>.val (.tup [mN c (.fn 32 (.pr e (.pr ke ze))),.int .i64 (.var st.nv)])
        (MP {st with nv:=Nat.succ st.nv} b k0 c (.fn 34 (.pr e (.pr ke (.fn 32 (.pr e (.pr ke ze)))))) ke (.var st.nv))
      |_,_=>.bad
     |_,_=>.bad
    |none=>.bad
   |_=>.bad
  |_,_=>.bad
 |_=>.bad
def xX(s:E):List Ent->Nat->Option Nat
 |[],_=>none
 |x::es,i=>match x.born.beq s with
  |true=>some i
  |false=>xX s es (Nat.succ i)
def C2(st:St)(x s v:SV):Eff2:=
 match x,s with
 |.map b,.int _ s=>match st.heap.get b with
  |some ⟨true,.map es clk⟩=>match xX s es 0 with
   |some i=>.skip (uA st b (lK es i v) clk)
   |none=>.bad
  |some ⟨true,.maplp k0 c e ke s0⟩=>match s0.beq s,jo c v with
   |true,some ve=>.skip (y9 st b k0 c (Fk e ke ve))
   |_,_=>.bad
  |_=>.bad
 |_,_=>.bad
def aac(tb:Tab)(st:St)(t:TypeId)(x k:SV):Eff2:=
 .bad
def oX(tb:Tab)(tmps:Tm)(st:St)(v:SV)(yes:Bool):Eff2:=
 match v with
 |.nslice b len _=>match st.heap.get b with
  |some ⟨_,.cells _ _ _⟩=>.val (.bool (.bool (!yes))) st
  |some ⟨_,.flat _ _ n ag _⟩=>match gL tb.facts st.pc (.int 0) ag||gL tb.facts st.pc (.int 0) n with
   |true=>.val (.bool (.bool (!yes))) st
   |false=>match nR tmps st&&n.scp st.nv with
    |true=>.val (.bool (match yes with | true=>.var st.nv | false=>.not (.var st.nv))) {st with nv:=Nat.succ st.nv,pc:=.imp (.var st.nv) (aF .eql n (.int 0))::st.pc}
    |false=>.bad
  |_=>.bad
 |.bsl ks e=>match Nat.blt 0 (aM ks)with
  | true=>.val (.bool (match yes with | true=>.fn 31 e | false=>.not (.fn 31 e))) (match yS (gm (aM ks) e)with
    |true=>{st with pc:=.imp (.fn 31 e) (aF .eql (gm (aM ks) e) (.int 0))::.imp (.fn 31 e) (aF .eql (.fn 0 e) (.int 0))::st.pc}
    |false=>st)
  |false=>.bad
 |_=>.bad
def tK:SV->Bool
 |.nils=>true
 |_=>false
def xv:List SV->Option (List UInt8)
 |[]=>some []
 |v::vs=>match v with
  |.int .u8 (.int (.ofNat n))=>match xv vs with
   |some l=>match Nat.blt n 256 with
    |true=>some (UInt8.ofNat n::l)
    |false=>none
   |none=>none
  |_=>none
def J8(tb:Tab)(st:St)(src dst:TypeId)(v:SV):Eff2:=
 match tb.und src,tb.und dst with
 |some (.slice e),some .string=>match tb.und e with
  |some (.int .u8)=>match v with
   |.nils=>.val (.str (.str ByteArray.empty)) st
   |_=>match xE tb st 1 v with
    |some (.cells vs)=>match xv vs with
     |some l=>.val (.str (.str ⟨l.toArray⟩)) st
     |none=>.bad
    |some (.list ks l _)=>match ks with
     |[.int .u8]=>.val (.str (.fn 41 l)) st
     |_=>.bad
    |none=>yz (Kq tb st 1 v)
  |_=>.bad
 |_,_=>.bad
def J6:List UInt8->List E
 |[]=>[]
 |b::l=>.int (.ofNat b.toNat)::J6 l
def afy(tb:Tab)(tmps:Tm)(st:St)(src dst:TypeId)(v:SV):Eff2:=
 .bad
def aet(tb:Tab)(tmps:Tm)(st:St)(t:TypeId)(x:SV):Eff2:=
 .bad
def adA(tb:Tab)(tmps:Tm)(st:St)(x:SV)(str:Bool):Eff2:=
 .bad
def Kw(st:St)(x:SV):Eff2:=
 match x with
 |.ptr b o=>match fG o with
  |some 0=>match st.heap.get b with
   |some ⟨true,.iter k c e _ (some u)⟩=>.val (.tup [.int k u,mN c (.fn 32 (.pr e (.pr u (.int 0))))]) st
   |_=>.bad
  |_=>.bad
 |_=>.bad
def KT(tb:Tab)(tmps:Tm)(st:St)(t:TypeId)(x:Operand):Eff2:=
 match bz tmps x with
  |some v=>aet tb tmps st t v
  |none=>.bad
def KS(tb:Tab)(tmps:Tm)(st:St)(x:Operand)(str:Bool):Eff2:=
 match bz tmps x with
  |some v=>adA tb tmps st v str
  |none=>.bad
def KL(tb:Tab)(tmps:Tm)(st:St)(x:Operand):Eff2:=
 match bz tmps x with
  |some v=>Kw st v
  |none=>.bad
def Dr(st:St)(n len cap ag l:E):Bool:=
 n.beq len&&(cap.beq ag&&(st.scp&&(l.scp st.nv&&(len.scp st.nv&&cap.scp st.nv))))
def x7(ks0:List CK)(fs:List E)(p:SV×St):SV×St:=
 match p.1 with
 |.nils=>(.bsl ks0 (.fn 30 (.int 0)),p.2)
 |.nslice _ (.int 0) (.int 0)=>match p.2.scp with
  |true=>(.bsl ks0 (.fn 28 (.pr (.pr (.var p.2.nv) (.int 0)) (.fn 10 (.int 0)))),{p.2 with nv:=Nat.succ p.2.nv})
  |false=>p
 |.nslice b len cap=>match p.2.heap.get b with
  |some ⟨true,.flat ks l n ag _⟩=>match Dr p.2 n len cap ag l with
   |true=>T.setK p.2.heap b ⟨true,.gone⟩ fun h=>(.bsl ks (.fn 28 (.pr (.pr (.var p.2.nv) len) l)),{p.2 with nv:=Nat.succ p.2.nv,heap:=h})
   |false=>p
  |_=>p
 |.slice _ _ (.int 0) (.int 0)=>match p.2.scp with
  |true=>(.bsl ks0 (.fn 28 (.pr (.pr (.var p.2.nv) (.int 0)) (.fn 10 (.int 0)))),{p.2 with nv:=Nat.succ p.2.nv})
  |false=>p
 |_=>p
inductive FM where
 |stay
 |down (ks:List CK)
 |up (ks:List CK) (el:TypeId)
 deriving Inhabited
def vc(ks:List CK)(el:TypeId)(v:SV)(st:St):SV×St:=
 match st.scp&&Nat.blt 0 (aM ks)with
 |true=>T.insK st.heap st.nb ⟨true,.flat ks (.fn 10 (.int 0)) (.int 0) (.int 0) el⟩ fun h=>(.nslice st.nb (.int 0) (.int 0),{st with nb:=Nat.succ st.nb,heap:=h})
 |false=>(v,st)
def zA(ks0:List CK)(el:TypeId)(fs:List E)(v:SV)(st:St):SV×St:=
 match v with
 |.nils=>vc ks0 el v st
 |.bsl ks e=>match Nat.blt 0 (aM ks)&&(nZ fs st.pc (gm (aM ks) e)&&nZ fs st.pc (oJ e))with
  |true=>vc ks0 el v st
  |false=>(v,st)
 |_=>(v,st)
def x8(m:FM)(fs:List E)(v:SV)(st:St):SV×St:=
 match m with
 |.stay=>(v,st)
 |.down ks=>x7 ks fs (v,st)
 |.up ks el=>zA ks el fs v st
def jp(fs:List E):List FM->List SV->St->List SV×St
 |m::ms,v::vs,st=>match m with
  |.stay=>match v.scp st.nv st.nb with
   |true=>match jp fs ms vs st with
    |(vs',st')=>(v::vs',st')
   |false=>(v::vs,st)
  |_=>match x8 m fs v st with
   |(v',st1)=>match v'.scp st1.nv st1.nb&&SV.scps st.nv st.nb vs with
    |true=>match jp fs ms vs st1 with
     |(vs',st')=>(v'::vs',st')
    |false=>(v::vs,st)
 |_,vs,st=>(vs,st)
def qQ(ms:List FM)(fs:List E)(v:SV)(st:St):SV×St:=
 match v with
 |.agg cs=>match jp fs ms cs st with
  |(cs',st')=>(.agg cs',st')
 |v=>match ms with
  |m::_=>x8 m fs v st
  |[]=>(v,st)
def nf(ms:List FM)(fs:List E)(p:SV×St):SV×St:=
 match p.1 with
 |.tup vs=>match vs with
  |v::vs=>match qQ ms fs v p.2 with
   |(v',st1)=>match SV.scps p.2.nv p.2.nb vs with
    |true=>(.tup (v'::vs),st1)
    |false=>p
  |[]=>p
 |v=>qQ ms fs v p.2
def tv:List CK->List FM
 |[]=>[]
 |c::cs=>match c with
  |.slc ks=>.down ks::tv cs
  |_=>.stay::tv cs
def xF(tb:Tab)(tmps:Tm)(st:St)(elem:TypeId)(b:Nat)(s x:SV):Option St:=
 match st.heap.get b with
 |some ⟨true,.cells vs ag e⟩=>match yy tb 12 elem with
  |some ks=>match i3 st.nv st.nb tmps&&(s.scp st.nv st.nb&&(x.scp st.nv st.nb&&ag.scp st.nv))with
   |true=>match jp tb.facts (tv (nq ks (Nat.div (aM vs) (aM ks)))) vs st with
    |(vs',st')=>match st'.heap.get b with
     |some ⟨true,.cells _ _ _⟩=>some (T.setK st'.heap b ⟨true,.cells vs' ag e⟩ fun h=>{st' with heap:=h})
     |_=>none
   |false=>none
  |none=>none
 |_=>none
def xj(tb:Tab)(tmps:Tm)(st:St)(t xt:TypeId)(s x:SV):Eff2:=
 match tb.und t with
 | some (.slice elem)=>match (match x with
   |.slice b _ _ _=>xF tb tmps st elem b s x
   |.nslice b _ _=>xF tb tmps st elem b s x
   |_=>none)with
  |some st'=>sX tb tmps st' t xt s x
  |none=>.bad
 |_=>.bad
def JX(tb:Tab)(tmps:Tm)(st:St)(t xt:TypeId)(s x:SV):Eff2:=
 match oW vb tb.facts with
 |true=>match xj tb tmps st t xt s x with
  |.bad=>sX tb tmps st t xt s x
  |r=>r
 |false=>match sX tb tmps st t xt s x with
  |.bad=>xj tb tmps st t xt s x
  |r=>r
def kw:List CK->Nat
 |[]=>0
 |c::cs=>match c with
  |.slc _=>Nat.succ (kw cs)
  |_=>kw cs
def Mu(fs pc:List E)(ks:List CK)(idx own:E):Option E:=
 match gL fs pc idx own with
 |true=>some own
 |false=>match kh fs pc idx own&&kh fs pc own idx with
  |true=>match Nat.beq (kw ks) 1 with
   |true=>some (.fn 6 (.pr idx (.int 1)))
   |false=>none
  |false=>none
def uf(tb:Tab)(tmps:Tm)(st:St)(t:TypeId)(p v:SV):Eff2:=
 match p,v with
 |.ptr b o,.nslice b2 len cap=>match st.heap.get b,st.heap.get b2 with
  |some ⟨true,.nest ks l n ag elem own⟩,some ⟨true,.flat ks2 l2 n2 tot2 _⟩=>match nd tb.facts st.pc (aM ks) n o with
   |.at idx j=>match dq ks j with
    |some (.slc ks')=>match fR ks' ks2&&Dr st n2 len cap tot2 l2&&i3 st.nv st.nb tmps&&p.scp st.nv st.nb with
     |true=>match cy tb t with
      |some 1=>match Mu tb.facts st.pc ks idx own with
       |some own'=>T.setK st.heap b2 ⟨true,.gone⟩ fun h=>T.setK h b ⟨true,.nest ks (iS l (dy (aM ks) idx j) (.fn 28 (.pr (.pr (.var st.nv) len) l2))) n ag elem own'⟩ fun h=>.skip {st with nv:=Nat.succ st.nv,heap:=h}
       |none=>.bad
      |_=>.bad
     |false=>.bad
    |_=>.bad
   |.lack e=>.lack e
   |.bad=>.bad
  |_,_=>.bad
 |_,_=>.bad
def aFF(st:St)(p:SV):Bool:=
 match p with
 |.ptr b _=>match st.heap.get b with
  |some ⟨_,.nest _ _ _ _ _ _⟩=>true
  |_=>false
 |_=>false
def KU(tb:Tab)(tmps:Tm)(st:St)(t:TypeId)(x:Operand)(y:Operand):Eff2:=
  match bz tmps x,bz tmps y with
  |some p,some v=>match aFF st p with
   |true=>uf tb tmps st t p v
   |false=>match yy tb 12 t with
    | some ks=>match i3 st.nv st.nb tmps&&p.scp st.nv st.nb with
      | true=>match nf (tv ks) tb.facts (v,st)with
        | (v',st')=>match rz tb st' t p v' with
          |.skip st''=> .skip st''
          |.lack e=> .lack e
          |_=> .bad
      |false=> .bad
    |none=> .bad
  |_,_=> .bad
def KP(tb:Tab)(tmps:Tm)(st:St)(t:TypeId)(n:Operand)(c:Operand):Eff2:=
 match bz tmps n,bz tmps c with
  |some a,some b=>acf tb tmps st t a b
  |_,_=>.bad
def KO(tb:Tab)(tmps:Tm)(st:St)(t:TypeId)(r:Option Operand):Eff2:=
 match r with
  |none=>match nR tmps st with
   |true=>T.insK st.heap st.nb ⟨true,.map [] (.int 0)⟩ fun h=>.val (.map st.nb) {st with nb:=Nat.succ st.nb,heap:=h}
   |false=>.bad
  |some _=>.bad
def KR(tb:Tab)(tmps:Tm)(st:St)(t:TypeId)(m:Operand)(k:Operand)(x:Operand):Eff2:=
 match bz tmps m,bz tmps k,bz tmps x with
  |some a,some b,some c=>yJ tb st t a b c
  |_,_,_=>.bad
def KN(tb:Tab)(tmps:Tm)(st:St)(t:TypeId)(m:Operand)(k:Operand)(x:Operand):Eff2:=
 match bz tmps m,bz tmps k,bz tmps x with
  |some a,some b,some c=>yJ tb st t a b c
  |_,_,_=>.bad
def KQ(tb:Tab)(tmps:Tm)(st:St)(t:TypeId)(m:Operand)(k:Operand):Eff2:=
 match bz tmps m,bz tmps k with
  |some a,some b=>Ef tb tmps st t a b
  |_,_=>.bad
def KM(tb:Tab)(tmps:Tm)(st:St)(m:Operand)(s:Operand)(x:Operand):Eff2:=
 match bz tmps m,bz tmps s,bz tmps x with
  |some a,some b,some c=>C2 st a b c
  |_,_,_=>.bad
def KI(tb:Tab)(tmps:Tm)(st:St)(op:BinOp)(t:TypeId)(x:Operand)(y:Operand):Eff2:=
 match DM tb t,bz tmps x,bz tmps y with
  |true,some a,some b=>match op with
   |.eql=>match tK b with
    |true=>oX tb tmps st a true
    |false=>match tK a with | true=>oX tb tmps st b true | false=>.bad
   |.neq=>match tK b with
    |true=>oX tb tmps st a false
    |false=>match tK a with | true=>oX tb tmps st b false | false=>.bad
   |_=>.bad
  |_,_,_=>.bad
def KK(tb:Tab)(tmps:Tm)(st:St)(src:TypeId)(dst:TypeId)(x:Operand):Eff2:=
 match bz tmps x with
  |some v=>afy tb tmps st src dst v
  |none=>.bad
def KJ(tb:Tab)(tmps:Tm)(st:St)(c:Call):Eff2:=
 match c.callee with
  |.builtin b=>match iK (bz tmps) c.args.toList with
   |some [v,w]=>match b with
    |.append=>match c.argTypes.toList with
     |[t,xt]=>JX tb tmps st t xt v w
     |_=>.bad
    |.copy=>match c.argTypes.toList with
     |[t,xt]=>ZU tb st t xt v w
     |_=>.bad
    |.delete=>match c.argTypes.toList with
     |t::_=>aac tb st t v w
     |_=>.bad
    |_=>.bad
   |some [v]=>match b with
    |.clear=>match c.argTypes.toList with
     |[t]=>CJ tb st t v
     |_=>.bad
    |_=>.bad
   |_=>.bad
  |_=>.bad
noncomputable def xL(tb:Tab)(tmps:Tm)(st:St)(o:Op):Eff2:=
 Op.rec (motive:=fun _=>Eff2)
  (fun _=>.bad)
  (fun _=>.bad)
  (fun _ _ _=>.bad)
  (fun _=>.bad)
  (fun _ _=>.bad)
  (fun _ _=>.bad)
  (fun _ _ _=>.bad)
  (fun t m k x=>KN tb tmps st t m k x)
  (fun _ _=>.bad)
  (fun t x y=>KU tb tmps st t x y)
  (fun _=>.bad)
  (fun _=>.bad)
  (fun _=>.bad)
  (fun op t x y _=>KI tb tmps st op t x y)
  (fun _ _ _=>.bad)
  (fun src dst x=>KK tb tmps st src dst x)
  (fun _ _=>.bad)
  (fun _ _=>.bad)
  (fun _ _ _=>.bad)
  (fun t r=>KO tb tmps st t r)
  (fun _ _=>.bad)
  (fun t n c=>KP tb tmps st t n c)
  (fun _ _ _ _ _=>.bad)
  (fun _ _ _=>.bad)
  (fun _ _ _=>.bad)
  (fun _ _ _=>.bad)
  (fun _ _ _=>.bad)
  (fun _ _ _ _=>.bad)
  (fun t m k x=>KR tb tmps st t m k x)
  (fun t m k=>KQ tb tmps st t m k)
  (fun _ m s x=>KM tb tmps st m s x)
  (fun t x=>KT tb tmps st t x)
  (fun x s=>KS tb tmps st x s)
  (fun x=>KL tb tmps st x)
  (fun _ _ _ _=>.bad)
  (fun _ _=>.bad)
  (fun c=>KJ tb tmps st c)
  (fun _=>.bad)
  (fun _=>.bad)
  (fun _=>.bad)
  (fun _ _=>.bad)
  (fun _ _ _=>.bad)
  (fun _ _=>.bad)
  o
theorem aEK(tb:Tab)(tmps:Tm)(st:St)(o:Op):xL tb tmps st o=(match o with
 |.makeSlice t n c=>KP tb tmps st t n c
 |.makeMap t r=>KO tb tmps st t r
 |.mapUpdate t m k x=>KR tb tmps st t m k x
 |.insert t m k x=>KN tb tmps st t m k x
 |.mapEntry t m k=>KQ tb tmps st t m k
 |.entryStore _ m s x=>KM tb tmps st m s x
 |.range t x=>KT tb tmps st t x
 |.next x s=>KS tb tmps st x s
 |.entry x=>KL tb tmps st x
 |.binOp op t x y _=>KI tb tmps st op t x y
 |.convert src dst x=>KK tb tmps st src dst x
 |.call c=>KJ tb tmps st c
 |.store t x y=>KU tb tmps st t x y
 |_=>.bad):=by cases o<;>rfl
structure Node where
 listed:Nat
 left:Nat
 tmps:Tm
 st:St
 deriving Inhabited
abbrev aQ:=Option (List Out)
abbrev d7:=Tm->St->aQ
structure Info where
 wait:Nat
 reads:Nat
 dst:Nat
inductive Task where
 |code (g:FuncId) (c:Code)
 |rounds (g:FuncId) (c:Code)
 |call (f:FuncId) (args:List SV)
 |draw (all:List Oper) (n:Nat)
 |layer (all:List Oper) (infos:List Info) (l:List Node)
def fQ(a b:aQ):aQ:=
 match a with
 |some l=>match b with
  |some m=>some (l++m)
  |none=>none
 |none=>none
def i4:List Edge->Nat
 |[]=>0
 |e::es=>match Region.binds .any e with
  |true=>Nat.lor (Nat.pow 2 e.on) (i4 es)
  |false=>i4 es
def nL:List Operand->Nat
 |[]=>0
 |x::xs=>match x with
  |.tmp t=>Nat.lor (Nat.pow 2 t) (nL xs)
  |_=>nL xs
def Fv(all:List Oper)(j:Nat):Option Tmp:=match dq all j with | some o=>o.dst | none=>none
def Cp:Option Tmp->Nat
 |some t=>Nat.pow 2 t
 |none=>0
def abb(all:List Oper)(o:Oper):Nat:=
 match o.guard with
 |some (j,_)=>Cp (Fv all j)
 |none=>0
def bU(all:List Oper)(o:Oper):Info:=
 ⟨i4 o.after.toList,Nat.lor (abb all o) (nL o.op.operands.toList),Cp o.dst⟩
def aU(all:List Oper):List Oper->List Info
 |[]=>[]
 |o::os=>bU all o::aU all os
def fo(listed:Nat):List Oper->List Info->Nat->List (Nat×Oper×Info)
 |o::os,m::ms,i=>match Nat.testBit listed i with
  |true=>fo listed os ms (Nat.succ i)
  |false=>match Nat.beq (Nat.land m.wait listed) m.wait with
   |true=>(i,o,m)::fo listed os ms (Nat.succ i)
   |false=>fo listed os ms (Nat.succ i)
 |_,_,_=>[]
def lr(listed i:Nat)(x:Info):List Info->Nat->Bool
 |[],_=>true
 |m::ms,j=>match Nat.testBit listed j with
  |true=>lr listed i x ms (Nat.succ j)
  |false=>match Nat.beq i j with
   |true=>lr listed i x ms (Nat.succ j)
   |false=>match Nat.testBit m.wait i with
    |true=>lr listed i x ms (Nat.succ j)
    |false=>match Nat.beq (Nat.land x.dst m.reads) 0 with
     |true=>match Nat.beq (Nat.land x.dst m.dst) 0 with
      |true=>match Nat.beq (Nat.land m.dst x.reads) 0 with
       |true=>lr listed i x ms (Nat.succ j)
       |false=>false
      |false=>false
     |false=>false
def CD(tb:Tab)(tmps:Tm)(c:Call):Option (FuncId×List SV):=
 match c.callee with
 |.value f=>match bz tmps f,iK (bz tmps) c.args.toList with
  |some (.func (.func f) fi ca),some vs=>match tb.fn.get f with
   |some fn=>match fn.body with
    |some _=>some (f,fi++(vs++ca))
    |none=>none
   |none=>none
  |_,_=>none
 |_=>none
inductive Want where
 |yes | no | bad | ask (slot:Tmp) (e:E) (want:Bool)
def vd(all:List Oper)(tmps:Tm)(o:Oper):Want:=
 match o.guard with
 |none=>.yes
 |some (j,want)=>match Fv all j with
  |some t=>match tmps.get t with
   |some (.bool e)=>match e with
    |.bool b=>match lk b want with | true=>.yes | false=>.no
    |_=>.ask t e want
   |some .junk=>.bad
   |_=>.no
  |none=>.no
def dW{O:Type}(tmps:Tm)(d:Option Tmp)(v:SV)(k:Tm->O):O:=
 match d with
 |none=>k tmps
 |some t=>T.setK tmps t v k
def jA(tb:Tab)(st:St)(tmps:Tm):List ResultVar->Option (List SV)
 |[]=>some []
 |.tmp t::rs=>match jA tb st tmps rs with
  |some l=>match tmps.get t with
   |some v=>match v with
    |.junk=>none
    |_=>some (v::l)
   |none=>some (.undef::l)
  |none=>none
 |.cell a t::rs=>match tmps.get a with
  |some x=>match t7 tb st t x,jA tb st tmps rs with
   |some v,some l=>some (v::l)
   |_,_=>none
  |none=>none
def rD:List SV->SV
 |[v]=>v
 |vs=>.tup vs
def Ld:Fn->Fn->Bool
 |.func a,.func b=>Nat.beq a b
 |_,_=>false
mutual
def SV.beq:SV->SV->Bool
 |.int k e,.int k' e'=>eE k k'&&e.beq e'
 |.bool e,.bool e'=>e.beq e'
 |.str e,.str e'=>e.beq e'
 |.nilp,.nilp | .nils,.nils | .nilm,.nilm | .nili,.nili | .nilf,.nilf=>true
 |.ptr b o,.ptr b' o'=>Nat.beq b b'&&Nat.beq o.base o'.base&&Nat.beq o.scale o'.scale&&o.idx.beq o'.idx
 |.slice b o l c,.slice b' o' l' c'=>Nat.beq b b'&&Nat.beq o.base o'.base&&Nat.beq o.scale o'.scale&&o.idx.beq o'.idx&&l.beq l'&&c.beq c'
 |.map b,.map b'=>Nat.beq b b'
 |.nslice b l c,.nslice b' l' c'=>Nat.beq b b'&&l.beq l'&&c.beq c'
 |.bsl ks e,.bsl ks' e'=>fR ks ks'&&e.beq e'
 |.bptr ks e i j,.bptr ks' e' i' j'=>fR ks ks'&&e.beq e'&&i.beq i'&&Nat.beq j j'
 |.func fn fi ca,.func fn' fi' ca'=>Ld fn fn'&&SV.beqs fi fi'&&SV.beqs ca ca'
 |.agg cs,.agg cs'=>SV.beqs cs cs'
 |.tup cs,.tup cs'=>SV.beqs cs cs'
 |.junk,.junk=>true
 |.nsl b ks e i c,.nsl b' ks' e' i' c'=>Nat.beq b b'&&fR ks ks'&&e.beq e'&&i.beq i'&&Nat.beq c c'
 |.nptr b ks e i c x j,.nptr b' ks' e' i' c' x' j'=>Nat.beq b b'&&fR ks ks'&&e.beq e'&&i.beq i'&&Nat.beq c c'&&x.beq x'&&Nat.beq j j'
 |_,_=>false
def SV.beqs:List SV->List SV->Bool
 |[],[]=>true
 |x::xs,y::ys=>x.beq y&&SV.beqs xs ys
 |_,_=>false
end
def ur:List Ent->List Ent->Bool
 |[],[]=>true
 |x::xs,y::ys=>x.k.beq y.k&&(x.v.beq y.v&&(x.born.beq y.born&&ur xs ys))
 |_,_=>false
def adT:Option E->Option E->Bool
 |none,none=>true
 |some a,some b=>a.beq b
 |_,_=>false
def SObj.beq:SObj->SObj->Bool
 |.gone,.gone=>true
 |.cells cs t e,.cells cs' t' e'=>Nat.beq e e'&&t.beq t'&&SV.beqs cs cs'
 |.flat ks l n t e,.flat ks' l' n' t' e'=>Nat.beq e e'&&l.beq l'&&n.beq n'&&t.beq t'&&fR ks ks'
 |.map es c,.map es' c'=>c.beq c'&&ur es es'
 |.mapl k c e,.mapl k' c' e'=>eE k k'&&c.beq c'&&e.beq e'
 |.maplp k c e ke s,.maplp k' c' e' ke' s'=>eE k k'&&c.beq c'&&e.beq e'&&ke.beq ke'&&s.beq s'
 |.iter k c e n u,.iter k' c' e' n' u'=>eE k k'&&c.beq c'&&e.beq e'&&n.beq n'&&adT u u'
 |.nest ks l n t e o,.nest ks' l' n' t' e' o'=>Nat.beq e e'&&l.beq l'&&n.beq n'&&t.beq t'&&fR ks ks'&&o.beq o'
 |_,_=>false
def T.beq{G:Type}(f:G->G->Bool):T G->T G->Bool
 |.nil,.nil=>true
 |.node v l r,.node v' l' r'=>f v v'&&T.beq f l l'&&T.beq f r r'
 |_,_=>false
def Blk.beq(x y:Blk):Bool:=lk x.own y.own&&x.obj.beq y.obj
def uw:List E->List E->Bool
 |[],[]=>true
 |x::xs,y::ys=>x.beq y&&uw xs ys
 |_,_=>false
def St.beq(a b:St):Bool:=Nat.beq a.nv b.nv&&Nat.beq a.nb b.nb&&uw a.pc b.pc&&T.beq Blk.beq a.heap b.heap
def Node.beq(a b:Node):Bool:=
 Nat.beq a.listed b.listed&&Nat.beq a.left b.left&&T.beq SV.beq a.tmps b.tmps&&a.st.beq b.st
def ya:List Node->Node->Bool
 |[],_=>false
 |x::xs,n=>match x.beq n with | true=>true | false=>ya xs n
def kr{O:Type}(P:Program)(tb:Tab)(all:List Oper)(infos:List Info):List Oper->List Info->Nat->Nat->Nat->Tm->(Nat->Nat->Tm->O)->O
 |o::os,m::ms,i,listed,left,tmps,k=>
  match Nat.testBit listed i with
  |true=>kr P tb all infos os ms (Nat.succ i) listed left tmps k
  |false=>match Nat.beq (Nat.land m.wait listed) m.wait with
   |true=>match left with
    |0=>k listed left tmps
    |left'+1=>match vd all tmps o with
     |.yes=>match ru P tb (bz tmps) o.op with
      |some v=>match lr listed i m infos 0 with
       |true=>dW tmps o.dst v fun tmps=>eQ (Nat.lor (Nat.pow 2 i) listed) fun listed=>kr P tb all infos os ms (Nat.succ i) listed left' tmps k
       |false=>kr P tb all infos os ms (Nat.succ i) listed left tmps k
      |none=>kr P tb all infos os ms (Nat.succ i) listed left tmps k
     |.no=>match lr listed i m infos 0 with
      |true=>dW tmps o.dst .undef fun tmps=>eQ (Nat.lor (Nat.pow 2 i) listed) fun listed=>kr P tb all infos os ms (Nat.succ i) listed left' tmps k
      |false=>kr P tb all infos os ms (Nat.succ i) listed left tmps k
     |_=>kr P tb all infos os ms (Nat.succ i) listed left tmps k
   |false=>kr P tb all infos os ms (Nat.succ i) listed left tmps k
 |_,_,_,listed,left,tmps,k=>k listed left tmps
def uB(acc:List Node)(x:Node):List Node:=match ya acc x with | true=>acc | false=>x::acc
def nU(P:Program)(tb:Tab)(all:List Oper)(infos:List Info)(listed left:Nat):List Out->List Node->List Node
 |[],acc=>acc
 |o::os,acc=>kr P tb all infos all infos 0 listed left o.tmps fun listed' left' tmps=>
  nU P tb all infos listed left os (uB acc ⟨listed',left',tmps,o.st⟩)
def qJ(_:String):aQ:=none
def DQ(_:String)(_:St)(_:E):aQ:=none
abbrev bR:=Task->Tm->St->(Out->aQ)->aQ
def aGT(o:Op):String:=
 match o with
 |.load _ _=> "load" | .store _ _ _=> "store" | .move _=> "move" | .assign _=> "assign" | .pick _ _ _=> "pick" | .nilCheck _=> "nilCheck" | .binOp _ _ _ _ _=> "binOp" | .unOp _ _ _=> "unOp" | .convert _ _ _=> "convert"
 |.fieldAddr _ _ _=> "fieldAddr" | .field _ _ _=> "field" | .indexAddr _ _ _=> "indexAddr" | .index _ _ _=> "index" | .extract _ _=> "extract" | .build _ _=> "build" | .makeFunc _ _ _=> "makeFunc" | .slice _ _ _ _ _=> "slice"
 |.box _ _=> "box" | .alloc _=> "alloc" | .buildSlice _ _ _=> "buildSlice" | .insert _ _ _ _=> "insert" | .ready _=> "ready" | .waits _=> "waits" | .sliceToArrayPointer _ _=> "sliceToArrayPointer" | .makeInterface _ _=> "makeInterface" | .makeMap _ _=> "makeMap" | .makeChan _ _=> "makeChan" | .makeSlice _ _ _=> "makeSlice" | .lookup _ _ _ _=> "lookup" | .mapUpdate _ _ _ _=> "mapUpdate" | .mapEntry _ _ _=> "mapEntry" | .entryStore _ _ _ _=> "entryStore" | .range _ _=> "range" | .next _ _=> "next" | .entry _=> "entry" | .typeAssert _ _ _ _=> "typeAssert" | .call _=> "call" | _=> "other"
def Blk.same(x y:Blk):Bool:=
 match x.obj with
 |.iter _ _ _ _ _=>false
 |_=>x.beq y
def ng:T Blk->T Blk->Bool
 |.nil,_=>true
 |.node v l r,.node v' l' r'=>match Blk.same v v' with
  |true=>match ng l l' with
   |true=>ng r r'
   |false=>false
  |false=>false
 |_,_=>false
mutual
def SV.plain:SV->Bool
 |.bsl _ _ | .bptr _ _ _ _ | .nsl _ _ _ _ _ | .nptr _ _ _ _ _ _ _=>false
 |.func _ fi ca=>SV.plains fi&&SV.plains ca
 |.agg cs | .tup cs=>SV.plains cs
 |_=>true
def SV.plains:List SV->Bool
 |[]=>true
 |v::vs=>v.plain&&SV.plains vs
end
structure Sub where
 n0:Nat
 es:List E
 b0:Nat
 bs:List Nat
def Nx(n0:Nat)(es:List E)(i:Nat):E:=
 match Nat.blt i n0 with
 |true=>.var i
 |false=>match dq es (Nat.sub i n0)with
  |some e=>e
  |none=>.var i
def EB:E->Nat->Option E
 |.fn 23 (.pr x r),n=>match n with
  |0=>some x
  |n+1=>EB r n
 |_,_=>none
def FJ(f:Nat)(a:E):E:=
 match f with
 |0=>gN a
 |6=>match a with
  |.pr (.int x) (.int y)=>.int (x+y)
  |_=>.fn f a
 |7=>match a with
  |.pr (.int x) (.int y)=>.int (x-y)
  |_=>.fn f a
 |1=>match a with
  |.pr l (.int (.ofNat n))=>match EB l n with
   |some e=>e
   |none=>.fn f a
  |_=>.fn f a
 |_=>.fn f a
def FK(a:E):E:=
 match a with
 |.bool b=>.bool (!b)
 |_=>.not a
noncomputable def E.sub(n0:Nat)(es:List E)(e:E):E:=
 E.rec (motive:=fun _=>E)
  (fun n=>.int n)
  (fun b=>.bool b)
  (fun s=>.str s)
  (fun i=>Nx n0 es i)
  (fun o k _ _ ia ib=>ig o k ia ib)
  (fun o _ _ ia ib=>aF o ia ib)
  (fun _ _ ia ib=>ra ia ib)
  (fun _ _ ia ib=>nw ia ib)
  (fun k _ ia=>rb k ia)
  (fun _ ia=>FK ia)
  (fun _ _ ia ib=>.and ia ib)
  (fun _ _ ia ib=>lB ia ib)
  (fun _ _ ia ib=>.iff ia ib)
  (fun _ _ ia ib=>.imp ia ib)
  (fun f _ ia=>FJ f ia)
  (fun _ _ ia ib=>.pr ia ib)
  e
theorem E.sub_eq_ar(n0:Nat)(es:List E)(o:BinOp)(k:IntKind)(a:E)(b:E):(E.ar o k a b).sub n0 es=ig o k (a.sub n0 es) (b.sub n0 es):=rfl
theorem E.sub_eq_cmp(n0:Nat)(es:List E)(o:BinOp)(a:E)(b:E):(E.cmp o a b).sub n0 es=aF o (a.sub n0 es) (b.sub n0 es):=rfl
theorem E.sub_eq_mn(n0:Nat)(es:List E)(a:E)(b:E):(E.mn a b).sub n0 es=ra (a.sub n0 es) (b.sub n0 es):=rfl
theorem E.sub_eq_mx(n0:Nat)(es:List E)(a:E)(b:E):(E.mx a b).sub n0 es=nw (a.sub n0 es) (b.sub n0 es):=rfl
theorem E.sub_eq_wr(n0:Nat)(es:List E)(k:IntKind)(a:E):(E.wr k a).sub n0 es=rb k (a.sub n0 es):=rfl
theorem E.sub_eq_not(n0:Nat)(es:List E)(a:E):(E.not a).sub n0 es=FK (a.sub n0 es):=rfl
theorem E.sub_eq_and(n0:Nat)(es:List E)(a:E)(b:E):(E.and a b).sub n0 es=.and (a.sub n0 es) (b.sub n0 es):=rfl
theorem E.sub_eq_seq(n0:Nat)(es:List E)(a:E)(b:E):(E.seq a b).sub n0 es=lB (a.sub n0 es) (b.sub n0 es):=rfl
theorem E.sub_eq_iff(n0:Nat)(es:List E)(a:E)(b:E):(E.iff a b).sub n0 es=.iff (a.sub n0 es) (b.sub n0 es):=rfl
theorem E.sub_eq_imp(n0:Nat)(es:List E)(a:E)(b:E):(E.imp a b).sub n0 es=.imp (a.sub n0 es) (b.sub n0 es):=rfl
theorem E.sub_eq_fn(n0:Nat)(es:List E)(f:Nat)(a:E):(E.fn f a).sub n0 es=FJ f (a.sub n0 es):=rfl
theorem E.sub_eq_pr(n0:Nat)(es:List E)(a:E)(b:E):(E.pr a b).sub n0 es=.pr (a.sub n0 es) (b.sub n0 es):=rfl
def bW(b0:Nat)(bs:List Nat)(i:Nat):Nat:=
 match Nat.blt i b0 with
 |true=>i
 |false=>match dq bs (Nat.sub i b0)with
  |some j=>j
  |none=>i
def Off.sub(n0:Nat)(es:List E)(o:Off):Off:=⟨o.base,o.scale,o.idx.sub n0 es⟩
mutual
def SV.sub(z:Sub):SV->SV
 |.int k e=>.int k (e.sub z.n0 z.es)
 |.bool e=>.bool (e.sub z.n0 z.es)
 |.str e=>.str (e.sub z.n0 z.es)
 |.ptr b o=>.ptr (bW z.b0 z.bs b) (o.sub z.n0 z.es)
 |.slice b o l c=>.slice (bW z.b0 z.bs b) (o.sub z.n0 z.es) (l.sub z.n0 z.es) (c.sub z.n0 z.es)
 |.nslice b l c=>.nslice (bW z.b0 z.bs b) (l.sub z.n0 z.es) (c.sub z.n0 z.es)
 |.bsl ks e=>.bsl ks (e.sub z.n0 z.es)
 |.bptr ks e i j=>.bptr ks (e.sub z.n0 z.es) (i.sub z.n0 z.es) j
 |.nsl b ks e i c=>.nsl (bW z.b0 z.bs b) ks (e.sub z.n0 z.es) (i.sub z.n0 z.es) c
 |.nptr b ks e i c x j=>.nptr (bW z.b0 z.bs b) ks (e.sub z.n0 z.es) (i.sub z.n0 z.es) c (x.sub z.n0 z.es) j
 |.map b=>.map (bW z.b0 z.bs b)
 |.func fn fi ca=>.func fn (SV.subs z fi) (SV.subs z ca)
 |.agg cs=>.agg (SV.subs z cs)
 |.tup cs=>.tup (SV.subs z cs)
 |.nilp=>.nilp
 |.nils=>.nils
 |.nilm=>.nilm
 |.nili=>.nili
 |.nilf=>.nilf
 |.junk=>.junk
def SV.subs(z:Sub):List SV->List SV
 |[]=>[]
 |v::vs=>v.sub z::SV.subs z vs
end
def ut(z:Sub):List Ent->List Ent
 |[]=>[]
 |x::es=>⟨x.k.sub z,x.v.sub z,x.born.sub z.n0 z.es⟩::ut z es
def SObj.sub(z:Sub):SObj->SObj
 |.gone=>.gone
 |.cells cs ag elem=>.cells (SV.subs z cs) (ag.sub z.n0 z.es) elem
 |.flat ks l n ag elem=>.flat ks (l.sub z.n0 z.es) (n.sub z.n0 z.es) (ag.sub z.n0 z.es) elem
 |.map es c=>.map (ut z es) (c.sub z.n0 z.es)
 |.mapl k c e=>.mapl k c (e.sub z.n0 z.es)
 |.maplp k c e ke s=>.maplp k c (e.sub z.n0 z.es) (ke.sub z.n0 z.es) (s.sub z.n0 z.es)
 |.nest ks l n ag elem own=>.nest ks (l.sub z.n0 z.es) (n.sub z.n0 z.es) (ag.sub z.n0 z.es) elem (own.sub z.n0 z.es)
 |.iter k c e n u=>.iter k c (e.sub z.n0 z.es) (n.sub z.n0 z.es) (match u with | none=>none | some x=>some (x.sub z.n0 z.es))
def xN(k:IntKind)(c:CK):List Ent->Option (List E)
 |[]=>some []
 |x::es=>match x.k with
  |.int k' ke=>match eE k' k,jo c x.v with
   |true,some ve=>match xN k c es with
    |some l=>some (.pr ke ve::l)
    |none=>none
   |_,_=>none
  |_=>none
def Mh(ks r:List CK):List CK:=match r with | []=>ks | x::xs=>x::xs
def abh(l:List CK):Option CK:=match l with | []=>none | c::_=>some c
def aLw(l:List CK):List CK:=match l with | []=>[] | _::r=>r
def xB(ks:List CK):List SV->List CK->Option (List E)
 |[],_=>some []
 |v::vs,r=>match abh (Mh ks r)with
  |none=>none
  |some c=>match jo c v with
   |some e=>match xB ks vs (aLw (Mh ks r))with
    |some l=>some (e::l)
    |none=>none
   |none=>none
def NR(w:Nat)(ag:E):Option E:=
 match w with
 |1=>some ag
 |w=>match ag with
  |.fn 8 (.pr c (.int (.ofNat m)))=>match Nat.beq m w with
   |true=>some c
   |false=>none
  |.int (.ofNat t)=>match Nat.beq (Nat.mul (Nat.div t w) w) t with
   |true=>some (.int (.ofNat (Nat.div t w)))
   |false=>none
  |_=>none
def uj(p x:SObj):Option SObj:=
 match p with
 |.mapl k c _=>match x with
  |.map es _=>match xN k c es with
   |some l=>some (.mapl k c (cr l))
   |none=>none
  |_=>none
 |.iter _ _ _ _ u=>match u with
  |none=>match x with
   |.iter k c e n _=>some (.iter k c e n none)
   |_=>none
  |some _=>none
 |.nest ks _ _ _ _ _=>match x with
  |.flat ks' l n ag elem=>match fR ks ks' with
   |true=>match l,Nat.beq (aM ks) 1 with
    |.fn 5 (.pr _ (.fn 30 _)),true=>some (.nest ks' l n ag elem n)
    |_,_=>some (.nest ks' l n ag elem (.int 0))
   |false=>none
  |_=>none
 |.flat ks _ _ _ _=>match x with
  |.cells cs ag elem=>match xB ks cs [],NR (aM ks) ag with
   |some l,some t=>match l with
    |[]=>match t with
     |.int (.ofNat m)=>match Nat.blt 0 (aM ks)with
      |true=>some (.flat ks (.fn 10 (.int 0)) (.int 0) (.int (.ofNat m)) elem)
      |false=>none
     |_=>none
    |_=>match Nat.beq (Nat.mul (Nat.div (aM cs) (aM ks)) (aM ks)) (aM cs)with
     |true=>some (.flat ks (cr l) (.int (.ofNat (Nat.div (aM cs) (aM ks)))) t elem)
     |false=>none
   |_,_=>none
  |_=>none
 |_=>none
def aeG:E->Option Nat
 |.fn 23 (.pr _ r)=>match aeG r with
  |some n=>some (Nat.succ n)
  |none=>none
 |.fn 10 _=>some 0
 |_=>none
def aeJ(e:E):E->E
 |.fn 23 (.pr x r)=>.fn 23 (.pr x (aeJ e r))
 |_=>.fn 23 (.pr e (.fn 10 (.int 0)))
def MW(y e:E):Nat->Nat->E
 |0,_=>.fn 23 (.pr e (.fn 10 (.int 0)))
 |n+1,j=>.fn 23 (.pr (.fn 1 (.pr y (.int (.ofNat j)))) (MW y e n (Nat.succ j)))
def aEi:E->Nat->Option E
 |.fn 1 (.pr y (.int (.ofNat k))),j=>match Nat.beq k j with
  |true=>some y
  |false=>none
 |_,_=>none
def aHs(cur:E)(j:Nat)(e:E):E:=
 match aeG cur with
 |some n=>match Nat.beq n j with
  |true=>aeJ e cur
  |false=>cur
 |none=>match aEi e j with
  |some y=>match y.beq cur with
   |true=>cur
   |false=>match j with
    |0=>y
    |_=>match cur with
     |.int _=>y
     |_=>MW cur e j 0
  |none=>MW cur e j 0
def aHz(n0 f:Nat)(a:E):Option (Nat×Nat):=
 match f with
 |1=>match a with
  |.pr (.var i) (.int (.ofNat j))=>match Nat.blt i n0 with
   |true=>none
   |false=>some (i,j)
  |_=>none
 |_=>none
def aHA(n0 i j:Nat)(e:E)(t:T E):T E:=
 match t.get (Nat.sub i n0)with
 |some cur=>t.set (Nat.sub i n0) (aHs cur j e)
 |none=>t
noncomputable def E.sw(b:E)(fa:BinOp->IntKind->E->E->T E->T E:=fun _ _ _ _ t=>t)(ff:Nat->E->T E->T E:=fun _ _ t=>t)(fp:E->E->T E->T E:=fun _ _ t=>t)(fn:E->T E->T E:=fun _ t=>t):T E->T E:=E.rec (motive:=fun _=>T E->T E) (fun _ t=>t) (fun _ t=>t) (fun _ t=>t) (fun _ t=>t) (fun x0 x1 x2 x3 _ _=>fa x0 x1 x2 x3) (fun _ _ _ _ _ t=>t) (fun _ _ _ _ t=>t) (fun _ _ _ _ t=>t) (fun _ _ _ t=>t) (fun x0 _=>fn x0) (fun _ _ _ _ t=>t) (fun _ _ _ _ t=>t) (fun _ _ _ _ t=>t) (fun _ _ _ _ t=>t) (fun x0 x1 _=>ff x0 x1) (fun x0 x1 _ _=>fp x0 x1) b
noncomputable def E.go_ar(b:E)(f:BinOp->IntKind->E->E->T E->T E):T E->T E:=b.sw (fa:=f)
noncomputable def E.go_fn(b:E)(f:Nat->E->T E->T E):T E->T E:=b.sw (ff:=f)
noncomputable def E.go_pr(b:E)(f:E->E->T E->T E):T E->T E:=b.sw (fp:=f)
noncomputable def E.go_not(b:E)(f:E->T E->T E):T E->T E:=b.sw (fn:=f)
noncomputable def fP(n0:Nat)(a:E):E->T E->T E:=
 E.rec (motive:=fun _=>E->T E->T E)
  (fun _ _ t=>t)
  (fun _ _ t=>t)
  (fun _ _ t=>t)
  (fun i e t=>Bool.rec (t.set (Nat.sub i n0) e) t (Nat.blt i n0))
  (fun _ _ _ _ f g e=>e.go_ar fun _ _ a b t=>g b (f a t))
  (fun _ _ _ _ _ _ t=>t)
  (fun _ _ _ _ _ t=>t)
  (fun _ _ _ _ _ t=>t)
  (fun _ _ _ _ t=>t)
  (fun _ f e=>e.go_not fun a t=>f a t)
  (fun _ _ _ _ _ t=>t)
  (fun _ _ _ _ _ t=>t)
  (fun _ _ _ _ _ t=>t)
  (fun _ _ _ _ _ t=>t)
  (fun k a f e=>Option.rec (motive:=fun _=>T E->T E) (e.go_fn fun _ a t=>f a t) (fun p t=>aHA n0 p.1 p.2 e t) (aHz n0 k a))
  (fun _ _ f g e=>e.go_pr fun a b t=>g b (f a t))
  a
abbrev G2:=T E×T Nat
noncomputable def SV.sw(v:SV)(fi:E->G2->G2:=fun _ g=>g)(fb:E->G2->G2:=fun _ g=>g)(fs:E->G2->G2:=fun _ g=>g)(fp:Nat->Off->G2->G2:=fun _ _ g=>g)(fl:Nat->Off->E->E->G2->G2:=fun _ _ _ _ g=>g)(fn:Nat->E->E->G2->G2:=fun _ _ _ g=>g)(fc:E->G2->G2:=fun _ g=>g)(fq:E->E->G2->G2:=fun _ _ g=>g)(fm:Nat->G2->G2:=fun _ g=>g)(ff:List SV->List SV->G2->G2:=fun _ _ g=>g)(fa:List SV->G2->G2:=fun _ g=>g)(ft:List SV->G2->G2:=fun _ g=>g):G2->G2:=SV.rec (motive_1:=fun _=>G2->G2) (motive_2:=fun _=>G2->G2) (fun _ e=>fi e) (fun e=>fb e) (fun e=>fs e) (fun g=>g) (fun b o=>fp b o) (fun g=>g) (fun b o l c=>fl b o l c) (fun b l c=>fn b l c) (fun _ e=>fc e) (fun _ e i _=>fq e i) (fun g=>g) (fun b=>fm b) (fun g=>g) (fun g=>g) (fun _ i c _ _=>ff i c) (fun cs _=>fa cs) (fun cs _=>ft cs) (fun g=>g) (fun _ _ _ _ _ g=>g) (fun _ _ _ _ _ _ _ g=>g) (fun g=>g) (fun _ _ _ _ g=>g) v
noncomputable def SV.go_int(v:SV)(f:E->G2->G2):G2->G2:=v.sw (fi:=f)
noncomputable def SV.go_bool(v:SV)(f:E->G2->G2):G2->G2:=v.sw (fb:=f)
noncomputable def SV.go_str(v:SV)(f:E->G2->G2):G2->G2:=v.sw (fs:=f)
noncomputable def SV.go_ptr(v:SV)(f:Nat->Off->G2->G2):G2->G2:=v.sw (fp:=f)
noncomputable def SV.go_slice(v:SV)(f:Nat->Off->E->E->G2->G2):G2->G2:=v.sw (fl:=f)
noncomputable def SV.go_nslice(v:SV)(f:Nat->E->E->G2->G2):G2->G2:=v.sw (fn:=f)
noncomputable def SV.go_bsl(v:SV)(f:E->G2->G2):G2->G2:=v.sw (fc:=f)
noncomputable def SV.go_bptr(v:SV)(f:E->E->G2->G2):G2->G2:=v.sw (fq:=f)
noncomputable def SV.go_map(v:SV)(f:Nat->G2->G2):G2->G2:=v.sw (fm:=f)
noncomputable def SV.go_func(v:SV)(f:List SV->List SV->G2->G2):G2->G2:=v.sw (ff:=f)
noncomputable def SV.go_agg(v:SV)(f:List SV->G2->G2):G2->G2:=v.sw (fa:=f)
noncomputable def SV.go_tup(v:SV)(f:List SV->G2->G2):G2->G2:=v.sw (ft:=f)
noncomputable def aFh(b0 b b':Nat)(t:T Nat):T Nat:=Bool.rec (t.set (Nat.sub b b0) b') t (Nat.blt b b0)
noncomputable def gE(n0:Nat)(e e':E)(g:G2):G2:=(fP n0 e e' g.1,g.2)
noncomputable def gB(b0 b b':Nat)(g:G2):G2:=(g.1,aFh b0 b b' g.2)
noncomputable def List.goK(l:List SV)(f:SV->List SV->G2->G2):G2->G2:=List.rec (motive:=fun _=>G2->G2) (fun g=>g) (fun v vs _=>f v vs) l
noncomputable def aFd(n0 b0:Nat)(v:SV)(b:Nat)(l c:E):G2->G2:=
 v.go_slice fun b' _ l' c' g=>gE n0 c c' (gE n0 l l' (gB b0 b b' g))
noncomputable def Dv(n0 b0:Nat)(v:SV):SV->G2->G2:=
 SV.rec (motive_1:=fun _=>SV->G2->G2) (motive_2:=fun _=>List SV->G2->G2)
  (fun _ e v=>v.go_int fun e' g=>gE n0 e e' g)
  (fun e v=>v.go_bool fun e' g=>gE n0 e e' g)
  (fun e v=>v.go_str fun e' g=>gE n0 e e' g)
  (fun _ g=>g)
  (fun b o v=>v.go_ptr fun b' o' g=>gE n0 o.idx o'.idx (gB b0 b b' g))
  (fun _ g=>g)
  (fun b o l c v=>v.go_slice fun b' o' l' c' g=>gE n0 c c' (gE n0 l l' (gE n0 o.idx o'.idx (gB b0 b b' g))))
  (fun b l c v g=>aFd n0 b0 v b l c (v.go_nslice (fun b' l' c' g=>gE n0 c c' (gE n0 l l' (gB b0 b b' g))) g))
  (fun _ e v=>v.go_bsl fun e' g=>gE n0 e e' g)
  (fun _ e i _ v=>v.go_bptr fun e' i' g=>gE n0 i i' (gE n0 e e' g))
  (fun _ g=>g)
  (fun b v=>v.go_map fun b' g=>gB b0 b b' g)
  (fun _ g=>g) (fun _ g=>g)
  (fun _ _ _ f1 f2 v=>v.go_func fun fi ca g=>f2 ca (f1 fi g))
  (fun _ f v=>v.go_agg fun cs g=>f cs g)
  (fun _ f v=>v.go_tup fun cs g=>f cs g)
  (fun _ g=>g)
  (fun _ _ _ _ _ _ g=>g) (fun _ _ _ _ _ _ _ _ g=>g)
  (fun _ g=>g)
  (fun _ _ f1 f2 l=>List.goK l fun v vs g=>f2 vs (f1 v g)) v
noncomputable def aFj(n0 b0:Nat)(vs:List SV):List SV->G2->G2:=
 List.rec (motive:=fun _=>List SV->G2->G2) (fun _ g=>g) (fun v _ f l=>List.goK l fun v' vs' g=>f vs' (Dv n0 b0 v v' g)) vs
noncomputable def T.goK(t:T SV)(f:SV->T SV->T SV->G2->G2):G2->G2:=T.rec (motive:=fun _=>G2->G2) (fun g=>g) (fun v l r _ _=>f v l r) t
noncomputable def aFi(n0 b0:Nat)(t:Tm):Tm->G2->G2:=
 T.rec (motive:=fun _=>Tm->G2->G2) (fun _ g=>g) (fun v _ _ f1 f2 t=>T.goK t fun v' l' r' g=>f2 r' (f1 l' (Dv n0 b0 v v' g))) t
def abc(n0 b0:Nat):List Ent->List Ent->T E×T Nat->T E×T Nat
 |x::es,y::es',g=>abc n0 b0 es es' (let h:=Dv n0 b0 x.v y.v (Dv n0 b0 x.k y.k g);(fP n0 x.born y.born h.1,h.2))
 |_,_,g=>g
def Du(n0 b0:Nat)(heap:T Blk):T Blk->Nat->Nat->T E×T Nat->T E×T Nat
 |.nil,_,_,g=>g
 |.node x l r,a,d,g=>
  let j:=match Nat.blt a b0 with | true=>some a | false=>g.2.get (Nat.sub a b0)
  let g:=match j with
   |some j=>match heap.get j with
    |some y=>match x.obj,(match uj x.obj y.obj with | some o=>o | none=>y.obj)with
     |.mapl _ _ e,.mapl _ _ e'=>(fP n0 e e' g.1,g.2)
     |.iter _ _ e n u,.iter _ _ e' n' u'=>(match u,u' with
      |some x,some x'=>fP n0 x x' (fP n0 n n' (fP n0 e e' g.1))
      |_,_=>fP n0 n n' (fP n0 e e' g.1),g.2)
     |.cells cs t _,.cells cs' t' _=>let g:=aFj n0 b0 cs cs' g;(fP n0 t t' g.1,g.2)
     |.nest _ e n t _ o,.nest _ e' n' t' _ o'=>(fP n0 o o' (fP n0 t t' (fP n0 n n' (fP n0 e e' g.1))),g.2)
     |.flat _ e n t _,.flat _ e' n' t' _=>(fP n0 t t' (fP n0 n n' (fP n0 e e' g.1)),g.2)
     |.map es c,.map es' c'=>let h:=abc n0 b0 es es' g;(fP n0 c c' h.1,h.2)
     |_,_=>g
    |none=>g
   |none=>g
  Du n0 b0 heap r (Nat.add a (Nat.add d d)) (Nat.add d d) (Du n0 b0 heap l (Nat.add a d) (Nat.add d d) g)
def NU{G:Type}(t:T G)(x:G):Nat->Nat->List G
 |0,_=>[]
 |n+1,i=>(match t.get i with | some y=>y | none=>x)::NU t x n (Nat.succ i)
def Lg(n0 b0:Nat)(tmps:Tm)(st:St)(τ:Tmpl):Sub:=
 let nE:=Nat.sub τ.st.nv n0
 let nB:=Nat.sub τ.st.nb b0
 let g:=Du n0 b0 st.heap τ.st.heap 0 1 (aFi n0 b0 τ.tmps tmps (T.fill (.int 0) 20 nE,T.fill 0 20 nB))
 let g:=Du n0 b0 st.heap τ.st.heap 0 1 g
 ⟨n0,NU g.1 (.int 0) nE 0,b0,NU g.2 0 nB 0⟩
def Fq(nv:Nat):List E->Bool
 |[]=>true
 |e::es=>match e.scp nv with
  |true=>Fq nv es
  |false=>false
def Cv(nb:Nat):List Nat->Bool
 |[]=>true
 |b::bs=>match Nat.blt b nb with
  |true=>Cv nb bs
  |false=>false
noncomputable def uO(z:Sub)(p v:SV):Bool:=Bool.rec ((p.sub z).beq v) true (isJunk p)
theorem aHS(z:Sub)(p v:SV):uO z p v=(match p with
 |.junk=>true
 |_=>(p.sub z).beq v):=by cases p<;>rfl
noncomputable def aLE(t:Tm):Bool:=T.rec (motive:=fun _=>Bool) true (fun _ _ _ _ _=>false) t
noncomputable def aLF(t:Tm)(f:SV->Tm->Tm->Bool):Bool:=T.rec (motive:=fun _=>Bool) false (fun v l r _ _=>f v l r) t
noncomputable def lP(z:Sub)(p:Tm):Tm->Bool:=
 T.rec (motive:=fun _=>Tm->Bool) aLE (fun p _ _ fl fr t=>aLF t fun v l' r'=>Bool.rec false (Bool.rec false (fr r') (fl l')) (uO z p v)) p
theorem aLC(z:Sub)(p v:SV)(l r l' r':Tm):lP z (.node p l r) (.node v l' r')=(match uO z p v with
  |true=>match lP z l l' with
   |true=>lP z r r'
   |false=>false
  |false=>false):=by
 have h:lP z (.node p l r) (.node v l' r')=Bool.rec (motive:=fun _=>Bool) false (Bool.rec (motive:=fun _=>Bool) false (lP z r r') (lP z l l')) (uO z p v):=rfl
 rw[h]
 cases uO z p v
 ·rfl
 ·cases lP z l l'<;>rfl
def Mm(z:Sub)(p x:SObj):Bool:=
 match p with
 |.gone=>true
 |_=>match uj p x with
  |some x'=>(p.sub z).beq x'
  |none=>(p.sub z).beq x
def Cq(z:Sub)(heap:T Blk)(nb a:Nat)(p:Blk):Bool:=
 match Nat.blt a nb with
 |true=>match p.obj with
  |.gone=>true
  |_=>match heap.get (bW z.b0 z.bs a)with
   |some x=>lk p.own x.own&&Mm z p.obj x.obj
   |none=>false
 |false=>false
def yc(z:Sub)(heap:T Blk)(nb:Nat):T Blk->Nat->Nat->Bool
 |.nil,_,_=>true
 |.node p l r,a,d=>match Cq z heap nb a p with
  |true=>match yc z heap nb l (Nat.add a d) (Nat.add d d)with
   |true=>yc z heap nb r (Nat.add a (Nat.add d d)) (Nat.add d d)
   |false=>false
  |false=>false
def ju:T Blk->Nat->Nat->List Nat->List Nat
 |.nil,_,_,acc=>acc
 |.node p l r,a,d,acc=>
  match p.obj with
  |.gone=>ju r (Nat.add a (Nat.add d d)) (Nat.add d d) (ju l (Nat.add a d) (Nat.add d d) acc)
  |_=>ju r (Nat.add a (Nat.add d d)) (Nat.add d d) (ju l (Nat.add a d) (Nat.add d d) (a::acc))
def tD(z:Sub):List Nat->List Nat
 |[]=>[]
 |i::l=>bW z.b0 z.bs i::tD z l
def Dx(n:Nat):List Nat->Bool
 |[]=>false
 |m::ms=>match Nat.beq n m with
  |true=>true
  |false=>Dx n ms
def Cf:List Nat->Bool
 |[]=>true
 |n::ns=>match Dx n ns with
  |true=>false
  |false=>Cf ns
inductive Fit where
 |ok (z:Sub)
 |lack (e:E)
 |bad (n:Nat)
def y5(fs:List E)(z:Sub)(pc:List E):List E->Fit
 |[]=>.ok z
 |e::es=>match dQ fs pc (e.sub z.n0 z.es)with
  |some true=>y5 fs z pc es
  |_=>.lack (e.sub z.n0 z.es)
def qL(fs:List E)(n0 b0:Nat)(tmps:Tm)(st:St)(τ:Tmpl):Fit:=
 let z:=Lg n0 b0 tmps st τ
 match Nat.beq (Nat.add n0 (aM z.es)) τ.st.nv&&Nat.beq (Nat.add b0 (aM z.bs)) τ.st.nb&&(Fq st.nv z.es&&Cv st.nb z.bs)with
 |true=>match lP z τ.tmps tmps with
  |true=>match yc z st.heap τ.st.nb τ.st.heap 0 1 with
   |true=>match Cf (tD z (ju τ.st.heap 0 1 []))with
    |true=>y5 fs z st.pc τ.st.pc
    |false=>.bad 4
   |false=>.bad 3
  |false=>.bad 2
 |false=>.bad 1
noncomputable def T.map{G O:Type}(f:G->O)(t:T G):T O:=T.rec (motive:=fun _=>T O) T.nil (fun v _ _ a b=>T.node (f v) a b) t
def Lv:Option Blk->Bool
 |some b=>match b.obj with
  |.cells _ _ _=>true
  |_=>false
 |none=>false
def Mp(o:Off):Bool:=
 match fG o with
 |some n=>Nat.beq n 0
 |none=>false
mutual
def SV.norm(h:T Blk):SV->SV
 |.int k e=>.int k e
 |.bool e=>.bool e
 |.str e=>.str e
 |.ptr b o=>.ptr b o
 |.slice b o l c=>match Lv (h.get b)&&Mp o with
  |true=>.nslice b l c
  |false=>.slice b o l c
 |.nslice b l c=>.nslice b l c
 |.bsl ks e=>.bsl ks e
 |.bptr ks e i j=>.bptr ks e i j
 |.nsl b ks e i c=>.nsl b ks e i c
 |.nptr b ks e i c x j=>.nptr b ks e i c x j
 |.map b=>.map b
 |.func fn fi ca=>.func fn (SV.norms h fi) (SV.norms h ca)
 |.agg cs=>.agg (SV.norms h cs)
 |.tup cs=>.tup (SV.norms h cs)
 |.nilp=>.nilp
 |.nils=>.nils
 |.nilm=>.nilm
 |.nili=>.nili
 |.nilf=>.nilf
 |.junk=>.junk
def SV.norms(h:T Blk):List SV->List SV
 |[]=>[]
 |v::vs=>v.norm h::SV.norms h vs
end
def SObj.norm(h:T Blk):SObj->SObj
 |.cells cs ag e=>.cells (SV.norms h cs) ag e
 |.gone=>.gone
 |.flat ks l n ag e=>.flat ks l n ag e
 |.map es c=>.map es c
 |.mapl k c e=>.mapl k c e
 |.maplp k c e ke s=>.maplp k c e ke s
 |.iter k c e n u=>.iter k c e n u
 |.nest ks l n ag e o=>.nest ks l n ag e o
def Blk.norm(h:T Blk)(b:Blk):Blk:=⟨b.own,b.obj.norm h⟩
def St.norm(st:St):St:=⟨st.nv,st.nb,st.heap.map (Blk.norm st.heap),st.pc⟩
def La(fs:List E)(n0 b0:Nat)(tmps:Tm)(st:St)(τ:Tmpl):Fit:=qL fs n0 b0 (tmps.map (SV.norm st.heap)) st.norm τ
def yu(nv:Nat):List E->List E
 |[]=>[]
 |e::es=>match e.scp nv with
  |true=>e::yu nv es
  |false=>yu nv es
def J1(st:St)(v:SV)(st':St):St:=
 match Nat.beq st.nb st'.nb&&Nat.beq st.nv st'.nv with
 |true=>st'
 |false=>match v.plain&&(v.scp st.nv st.nb&&(st.scp&&ng st.heap st'.heap))with
  |true=>⟨st.nv,st.nb,st.heap,yu st.nv st'.pc⟩
  |false=>st'
def qp(b:Nat)(m:Nat):Nat:=Nat.lor (Nat.pow 2 b) m
mutual
def SV.blks:SV->Nat->Nat
 |.ptr b _,m=>qp b m
 |.slice b _ _ _,m=>qp b m
 |.nslice b _ _,m=>qp b m
 |.map b,m=>qp b m
 |.nsl b _ _ _ _,m=>qp b m
 |.nptr b _ _ _ _ _ _,m=>qp b m
 |.func _ fi ca,m=>SV.blkss ca (SV.blkss fi m)
 |.agg cs,m=>SV.blkss cs m
 |.tup cs,m=>SV.blkss cs m
 |_,m=>m
def SV.blkss:List SV->Nat->Nat
 |[],m=>m
 |v::vs,m=>SV.blkss vs (SV.blks v m)
end
def aai:List Ent->Nat->Nat
 |[],m=>m
 |x::es,m=>aai es (SV.blks x.v (SV.blks x.k m))
def SObj.blks:SObj->Nat->Nat
 |.cells cs _ _,m=>SV.blkss cs m
 |.map es _,m=>aai es m
 |_,m=>m
def Fl(heap:T Blk)(m:Nat):Nat->Nat->Nat->Nat
 |0,_,r=>r
 |n+1,b,r=>match Nat.testBit m b with
  |true=>match heap.get b with
   |some x=>eQ (x.obj.blks r) fun r=>Fl heap m n (Nat.succ b) r
   |none=>Fl heap m n (Nat.succ b) r
  |false=>Fl heap m n (Nat.succ b) r
def aev(heap:T Blk)(n b0:Nat):Nat->Nat->Nat
 |0,m=>m
 |k+1,m=>eQ (Fl heap m n b0 m) fun m'=>match Nat.beq m m' with
  |true=>m
  |false=>aev heap n b0 k m'
def xJ(m:Nat):Nat->Nat->T Blk->T Blk
 |0,_,h=>h
 |n+1,b,h=>match Nat.testBit m b with
  |true=>xJ m n (Nat.succ b) h
  |false=>T.setK h b ⟨true,.gone⟩ fun h=>xJ m n (Nat.succ b) h
def E.vset:E->Nat->Nat
 |.var i,m=>qp i m
 |.ar _ _ a b,m=>E.vset b (E.vset a m)
 |.cmp _ a b,m=>E.vset b (E.vset a m)
 |.mn a b,m=>E.vset b (E.vset a m)
 |.mx a b,m=>E.vset b (E.vset a m)
 |.wr _ a,m=>E.vset a m
 |.not a,m=>E.vset a m
 |.and a b,m=>E.vset b (E.vset a m)
 |.seq a b,m=>E.vset b (E.vset a m)
 |.iff a b,m=>E.vset b (E.vset a m)
 |.imp a b,m=>E.vset b (E.vset a m)
 |.fn _ a,m=>E.vset a m
 |.pr a b,m=>E.vset b (E.vset a m)
 |_,m=>m
mutual
def SV.vset:SV->Nat->Nat
 |.int _ e,m=>e.vset m
 |.bool e,m=>e.vset m
 |.str e,m=>e.vset m
 |.ptr _ o,m=>o.idx.vset m
 |.slice _ o l c,m=>c.vset (l.vset (o.idx.vset m))
 |.nslice _ l c,m=>c.vset (l.vset m)
 |.bsl _ e,m=>e.vset m
 |.bptr _ e i _,m=>i.vset (e.vset m)
 |.nsl _ _ e i _,m=>i.vset (e.vset m)
 |.nptr _ _ e i _ x _,m=>x.vset (i.vset (e.vset m))
 |.func _ fi ca,m=>SV.vsets ca (SV.vsets fi m)
 |.agg cs,m=>SV.vsets cs m
 |.tup cs,m=>SV.vsets cs m
 |_,m=>m
def SV.vsets:List SV->Nat->Nat
 |[],m=>m
 |v::vs,m=>SV.vsets vs (SV.vset v m)
end
def aaj:List Ent->Nat->Nat
 |[],m=>m
 |x::es,m=>aaj es (x.born.vset (SV.vset x.v (SV.vset x.k m)))
def SObj.vset:SObj->Nat->Nat
 |.gone,m=>m
 |.cells cs t _,m=>t.vset (SV.vsets cs m)
 |.flat _ l n t _,m=>t.vset (n.vset (l.vset m))
 |.nest _ l n t _ o,m=>o.vset (t.vset (n.vset (l.vset m)))
 |.map es c,m=>c.vset (aaj es m)
 |.mapl _ _ e,m=>e.vset m
 |.maplp _ _ e ke s,m=>s.vset (ke.vset (e.vset m))
 |.iter _ _ e n u,m=>match u with | none=>n.vset (e.vset m) | some x=>x.vset (n.vset (e.vset m))
def Cs(heap:T Blk)(bs:Nat):Nat->Nat->Nat->Nat
 |0,_,r=>r
 |n+1,b,r=>match Nat.testBit bs b with
  |true=>match heap.get b with
   |some x=>eQ (x.obj.vset r) fun r=>Cs heap bs n (Nat.succ b) r
   |none=>Cs heap bs n (Nat.succ b) r
  |false=>Cs heap bs n (Nat.succ b) r
def yv(nv live:Nat):List E->List E
 |[]=>[]
 |e::es=>match Nat.beq (Nat.land (Nat.shiftRight (e.vset 0) nv) live) (Nat.shiftRight (e.vset 0) nv)with
  |true=>e::yv nv live es
  |false=>yv nv live es
def x9(st:St)(v:SV)(st':St):St:=
 match Nat.beq st.nb st'.nb with
 |true=>st'
 |false=>match ng st.heap st'.heap with
  |true=>eQ (aev st'.heap (Nat.sub st'.nb st.nb) st.nb 40 (SV.blks v 0)) fun m=>
    eQ (Nat.shiftRight (Cs st'.heap m (Nat.sub st'.nb st.nb) st.nb (SV.vset v 0)) st.nv) fun live=>
     ⟨st'.nv,st'.nb,xJ m (Nat.sub st'.nb st.nb) st.nb st'.heap,yv st.nv live st'.pc⟩
  |false=>st'
def yb(v:SV)(st:St):List (SV×St)->Bool
 |[]=>false
 |x::xs=>match v.beq x.1&&st.beq x.2 with
  |true=>true
  |false=>yb v st xs
def iU(v:SV):Tm:=.node v .nil .nil
def agc(n0 b0:Nat)(t:Tm)(st:St):Bool:=Nat.ble n0 st.nv&&(Nat.ble b0 st.nb&&(st.scp&&i3 st.nv st.nb t))
def Lx:Fit->Bool
 |.ok _=>true
 |_=>false
def o5(fs:List E)(n0 b0:Nat)(t:Tm)(st:St):List (Tm×St)->Bool
 |[]=>false
 |x::xs=>match agc n0 b0 x.1 x.2&&Lx (qL fs n0 b0 t st ⟨x.1,x.2,.int 0⟩)with
  |true=>true
  |false=>o5 fs n0 b0 t st xs
def sY:List (SV×St)->List (Tm×St)
 |[]=>[]
 |x::xs=>match x.1 with
  |.junk=>sY xs
  |v=>(iU v,x.2)::sY xs
def xg(fs:List E)(st0:St)(v:SV)(st:St)(acc:List (SV×St)):List (SV×St):=
 match acc with
 |[]=>[(v,st)]
 |_=>match yb v st acc with
  |true=>acc
  |false=>match Nat.beq st0.nb st.nb&&Nat.beq st0.nv st.nv with
   |true=>(v,st)::acc
   |false=>match o5 fs st0.nv st0.nb (iU v) (x9 st0 v st) (sY acc)with
    |true=>acc
    |false=>(v,x9 st0 v st)::acc
def xw(fs:List E)(st:St):List Out->List (SV×St)->Option (List (SV×St))
 |[],acc=>some acc
 |r::rs,acc=>match r.tmps with
  |.node v _ _=>xw fs st rs (xg fs st v (J1 st v r.st) acc)
  |_=>none
def MQ(tmps:Tm)(d:Option Tmp)(k:d7):List (SV×St)->aQ
 |[]=>some []
 |x::xs=>fQ (dW tmps d x.1 fun tmps=>k tmps x.2) (MQ tmps d k xs)
def Fj(_:List Out):List Out:=[]
def adS(_:Tm)(_:St)(_:Op):String:= ""
def Fz(tb:Tab)(rec:bR)(o:Oper)(tmps:Tm)(st:St)(k:d7):aQ:=
 match o.op with
 |.call c=>match CD tb tmps c with
  |some (g,args)=>match i3 st.nv st.nb tmps with
   |true=>match rec (.call g args) .nil st (fun r=>some [r])with
    |some rs=>match Fj rs with
     |[]=>match xw tb.facts st rs [] with
      |some l=>MQ tmps o.dst k l
      |none=>none
     |raw=>some raw
    |none=>none
   |false=>qJ (o.pos ++ " scope")
  |none=>qJ (o.pos ++ " callee" ++ (match o.op with | .call c=>c.args.toList.foldl (fun s x=>s++adS tmps st (.load 0 x)) "" | _=> ""))
 |_=>qJ (o.pos ++ " operation " ++ aGT o.op++adS tmps st o.op)
def pt(tb:Tab)(rec:bR)(o:Oper)(tmps:Tm)(k:d7)(n:Nat):St->aQ:=
 Nat.rec (motive:=fun _=>St->aQ) (fun _=>none) (fun _ ih st=>
  match mS tb tmps st o.op with
  |.val v st=>dW tmps o.dst v fun tmps=>k tmps st
  |.skip st=>dW tmps o.dst .undef fun tmps=>k tmps st
  |.ask e=>fQ (ih {st with pc:=e::st.pc}) (ih {st with pc:=bc e::st.pc})
  |.lack e=>DQ o.pos st e
  |.bad=>match xL tb tmps st o.op with
   |.val v st=>dW tmps o.dst v fun tmps=>k tmps st
   |.skip st=>dW tmps o.dst .undef fun tmps=>k tmps st
   |.ask e=>fQ (ih {st with pc:=e::st.pc}) (ih {st with pc:=bc e::st.pc})
   |.lack e=>DQ o.pos st e
   |.bad=>Fz tb rec o tmps st k) n
def zr(P:Program)(tb:Tab)(rec:bR)(o:Oper)(tmps:Tm)(st:St)(k:d7):aQ:=
 match ru P tb (bz tmps) o.op with
 |some v=>dW tmps o.dst v fun tmps=>k tmps st
 |none=>pt tb rec o tmps k 40 st
def pu(P:Program)(tb:Tab)(rec:bR)(all:List Oper)(o:Oper)(tmps:Tm)(st:St)(k:d7):aQ:=
 match vd all tmps o with
 |.yes=>zr P tb rec o tmps st k
 |.no=>dW tmps o.dst .undef fun tmps=>k tmps st
 |.bad=>qJ o.pos
 |.ask t e want=>match dQ tb.facts st.pc e with
  |some b=>T.setK tmps t (.bool (.bool b)) fun tmps=>match lk b want with
   |true=>zr P tb rec o tmps st k
   |false=>dW tmps o.dst .undef fun tmps=>k tmps st
  |none=>
   fQ (T.setK tmps t (.bool (.bool want)) fun tmps=>zr P tb rec o tmps {st with pc:=(match want with | true=>e | false=>bc e)::st.pc} k)
    (T.setK tmps t (.bool (.bool (!want))) fun tmps=>dW tmps o.dst .undef fun tmps=>k tmps {st with pc:=(match want with | true=>bc e | false=>e)::st.pc})
def aft(P:Program)(tb:Tab)(rec:bR)(all:List Oper)(l:List Oper):Tm->St->d7->aQ:=
 List.rec (motive:=fun _=>Tm->St->d7->aQ) (fun tmps st k=>k tmps st)
  (fun o _ ih tmps st k=>pu P tb rec all o tmps st fun tmps st=>ih tmps st k) l
def tY(k:Nat)(x:Info):List Info->Bool
 |[]=>true
 |m::ms=>match Nat.testBit m.wait k with
  |true=>tY k x ms
  |false=>match Nat.beq (Nat.land x.dst m.reads) 0 with
   |true=>match Nat.beq (Nat.land x.dst m.dst) 0 with
    |true=>match Nat.beq (Nat.land m.dst x.reads) 0 with
     |true=>tY k x ms
     |false=>false
    |false=>false
   |false=>false
def iP:List Info->Nat->Bool
 |[],_=>true
 |m::ms,k=>match Nat.blt m.wait (Nat.pow 2 k)with
  |true=>match tY k m ms with
   |true=>iP ms (Nat.succ k)
   |false=>false
  |false=>false
inductive QR where
 |done (v:SV)
 |split (e:E)
 |bad
def aeq(st:St)(r:aQ):QR:=
 match r with
 |some os=>match os with
  |[o]=>match o.tmps with
   |.node v _ _=>match v.plain&&(v.scp st.nv st.nb&&st.scp&&ng st.heap o.st.heap)with
    |true=>.done v
    |false=>.bad
   |.nil=>.bad
  |_=>.bad
 |none=>.bad
def MS(o:Op):Bool:=
 match o with
 |.load _ _=>true
 |.slice _ _ _ _ _=>true
 |.lookup _ _ _ _=>true
 |.binOp _ _ _ _ _=>true
 |.indexAddr _ _ _=>true
 |.index _ _ _=>true
 |.pick _ _ _=>true
 |.call c=>match c.callee with
  |.builtin _=>true
  |_=>false
 |_=>false
def zd(P:Program)(tb:Tab)(rec:bR)(o:Oper)(tmps:Tm)(st:St):QR:=
 match ru P tb (bz tmps) o.op with
 |some v=>.done v
 |none=>match MS o.op with
  |true=>match mS tb tmps st o.op with
   |.val v _=>.done v
   |.ask e=>.split e
   |_=>.bad
  |false=>match o.op with
   |.call c=>match CD tb tmps c with
    |some (g,args)=>aeq st (rec (.call g args) .nil st fun o=>some [o])
    |none=>.bad
   |_=>.bad
inductive QE where
 |done (tmps:Tm)
 |split (e:E)
 |bad
def nK(P:Program)(tb:Tab)(rec:bR)(all:List Oper)(st:St):List Oper->Tm->QE
 |[],tmps=>.done tmps
 |o::os,tmps=>match vd all tmps o with
  |.yes=>match zd P tb rec o tmps st with
   |.done v=>dW tmps o.dst v fun tmps=>nK P tb rec all st os tmps
   |.split e=>.split e
   |.bad=>.bad
  |.no=>dW tmps o.dst .undef fun tmps=>nK P tb rec all st os tmps
  |.bad=>.bad
  |.ask t e want=>match dQ tb.facts st.pc e with
   |some b=>T.setK tmps t (.bool (.bool b)) fun tmps=>match lk b want with
    |true=>match zd P tb rec o tmps st with
     |.done v=>dW tmps o.dst v fun tmps=>nK P tb rec all st os tmps
     |.split e=>.split e
     |.bad=>.bad
    |false=>dW tmps o.dst .undef fun tmps=>nK P tb rec all st os tmps
   |none=>.split e
def ik:List Oper->Bool
 |[]=>true
 |o::os=>match o.op with
  |.select _ _=>false
  |_=>ik os
def xD(m:Nat):List Nat->Nat->Nat->Nat
 |[],_,r=>r
 |c::cs,j,r=>match Nat.testBit m j with
  |true=>xD m cs (Nat.succ j) (Nat.lor c r)
  |false=>xD m cs (Nat.succ j) r
def CL:List Info->List Nat->List Nat
 |[],acc=>acc
 |m::ms,acc=>eQ (xD m.wait acc 0 m.wait) fun c=>CL ms (acc++[c])
inductive NS where
 |val (v:SV)
 |ask (e:E)
 |bad
def Ew(P:Program)(tb:Tab)(tmps:Tm)(st:St)(o:Oper):NS:=
 match ru P tb (bz tmps) o.op with
 |some v=>.val v
 |none=>match MS o.op with
  |true=>match mS tb tmps st o.op with
   |.val v _=>.val v
   |.ask e=>.ask e
   |_=>.bad
  |false=>.bad
def Ey(P:Program)(tb:Tab)(all:List Oper)(tmps:Tm)(st:St)(o:Oper):NS:=
 match vd all tmps o with
 |.yes=>Ew P tb tmps st o
 |.no=>.val .undef
 |.bad=>.bad
 |.ask _ e want=>match dQ tb.facts st.pc e with
  |some b=>match lk b want with
   |true=>Ew P tb tmps st o
   |false=>.val .undef
  |none=>.ask e
def mQ(dst:Nat):List Info->Nat->Nat->Nat
 |[],_,r=>r
 |m::ms,j,r=>match Nat.beq (Nat.land dst (Nat.lor m.reads m.dst)) 0 with
  |true=>mQ dst ms (Nat.succ j) r
  |false=>mQ dst ms (Nat.succ j) (Nat.lor (Nat.pow 2 j) r)
def Ce(cs:Nat)(clos:List Nat):List (Nat×Oper×Info)->Bool
 |[]=>true
 |(j,_,_)::rs=>match dq clos j with
  |some c=>match Nat.beq (Nat.land cs c) cs with
   |true=>Ce cs clos rs
   |false=>false
  |none=>false
def Kp(all:List Oper)(infos:List Info)(clos:List Nat)(listed used:Nat)(m:Info):Bool:=
 match Nat.beq (Nat.land m.dst (Nat.lor m.reads used)) 0 with
 |true=>true
 |false=>Nat.beq (Nat.land m.dst m.reads) 0&&Ce (Nat.land (mQ m.dst infos 0 0) listed) clos (fo listed all infos 0)
def ll{O:Type}(P:Program)(tb:Tab)(all:List Oper)(infos:List Info)(clos:List Nat)(st:St):List Oper->List Info->Nat->Nat->Nat->Nat->Tm->(Nat->Nat->Nat->Tm->Option E->O)->O
 |o::os,m::ms,i,listed,used,neu,tmps,k=>
  match Nat.testBit listed i with
  |true=>ll P tb all infos clos st os ms (Nat.succ i) listed used neu tmps k
  |false=>match Nat.beq (Nat.land m.wait listed) m.wait with
   |true=>match Ey P tb all tmps st o with
    |.val v=>match Kp all infos clos listed used m with
     |true=>dW tmps o.dst v fun tmps=>eQ (Nat.lor (Nat.pow 2 i) listed) fun listed=>eQ (Nat.lor (Nat.lor m.reads m.dst) used) fun used=>eQ (Nat.lor (Nat.pow 2 i) neu) fun neu=>
       ll P tb all infos clos st os ms (Nat.succ i) listed used neu tmps k
     |false=>ll P tb all infos clos st os ms (Nat.succ i) listed used neu tmps k
    |.ask e=>k listed used neu tmps (some e)
    |.bad=>ll P tb all infos clos st os ms (Nat.succ i) listed used neu tmps k
   |false=>ll P tb all infos clos st os ms (Nat.succ i) listed used neu tmps k
 |_,_,_,listed,used,neu,tmps,k=>k listed used neu tmps none
def SV.isJunk:SV->Bool
 |.junk=>true
 |_=>false
def pk(P:Program)(tb:Tab)(all:List Oper)(tmps:Tm)(st:St)(neu:Nat):List Oper->Nat->Bool
 |[],_=>true
 |o::os,i=>match Nat.testBit neu i with
  |false=>pk P tb all tmps st neu os (Nat.succ i)
  |true=>match Ey P tb all tmps st o with
   |.val v=>match o.dst with
    |none=>pk P tb all tmps st neu os (Nat.succ i)
    |some d=>match tmps.get d with
     |some u=>match !(v.isJunk)&&v.beq u with
      |true=>pk P tb all tmps st neu os (Nat.succ i)
      |false=>false
     |none=>false
   |_=>false
def andNot(a b:Nat):Nat:=Nat.xor a (Nat.land a b)
def CE(P:Program)(tb:Tab)(rec:bR)(all:List Oper)(infos:List Info)(clos:List Nat)(listed used neu:Nat)(tmps:Tm)(st:St)(ih:Nat->Nat->Nat->Tm->St->aQ):List (Nat×Oper×Info)->aQ
 |[]=>some []
 |(i,o,m)::rs=>match dq clos i with
  | some c=>match eQ (andNot neu c) fun neu=>pu P tb rec all o tmps st fun tmps st=>match pk P tb all tmps st neu all 0 with
    |true=>eQ (Nat.lor (Nat.pow 2 i) listed) fun listed=>eQ (Nat.lor (Nat.lor m.reads m.dst) used) fun used=>ih listed used neu tmps st
    |false=>none with
   |some os=>match CE P tb rec all infos clos listed used neu tmps st ih rs with
    |some os'=>some (os++os')
    |none=>none
   |none=>none
  |none=>none
def J9(P:Program)(tb:Tab)(rec:bR)(all:List Oper)(infos:List Info)(clos:List Nat)(listed used neu:Nat)(tmps:Tm)(st:St)(k:d7)(ih:Nat->Nat->Nat->Tm->St->aQ):aQ:=
 match fo listed all infos 0 with
 |[]=>k tmps st
 |rs=>CE P tb rec all infos clos listed used neu tmps st ih rs
def td(P:Program)(tb:Tab)(rec:bR)(all:List Oper)(infos:List Info)(clos:List Nat)(k:d7)(n:Nat):Nat->Nat->Nat->Tm->St->aQ:=
 Nat.rec (motive:=fun _=>Nat->Nat->Nat->Tm->St->aQ) (fun _ _ _ _ _=>none) (fun _ ih listed used neu tmps st=>
  ll P tb all infos clos st all infos 0 listed used neu tmps fun listed used neu tmps pend=>match pend with
   |some e=>fQ (ih listed used neu tmps {st with pc:=e::st.pc}) (ih listed used neu tmps {st with pc:=bc e::st.pc})
   |none=>J9 P tb rec all infos clos listed used neu tmps st k ih) n
def qB(tmps:Tm)(st:St):aQ:=some [⟨.normal,tmps,st⟩]
def jw(fs:List E)(n0 b0:Nat):List Out->List (Tm×St)->List (Tm×St)
 |[],acc=>acc
 |o::os,acc=>match acc with
  |[]=>jw fs n0 b0 os [(o.tmps,o.st)]
  |_=>match o5 fs n0 b0 o.tmps o.st acc with
   |true=>jw fs n0 b0 os acc
   |false=>jw fs n0 b0 os ((o.tmps,o.st)::acc)
def MY(k:Out->aQ):List (Tm×St)->aQ
 |[]=>some []
 |x::xs=>fQ (k ⟨.normal,x.1,x.2⟩) (MY k xs)
def No(P:Program)(tb:Tab)(rec:bR)(all:List Oper)(n:Nat)(tmps:Tm)(st:St)(k:Out->aQ):aQ:=
 match ik all with
 |true=>match iP (aU all all) 0 with
  |true=>match td P tb rec all (aU all all) (CL (aU all all) []) qB (Nat.add 10 (Nat.add n n)) 0 0 0 tmps st with
   |some outs=>match Fj outs with
    |[]=>MY k (jw tb.facts st.nv st.nb outs [])
    |raw=>some raw
   |none=>match nK P tb rec all st all tmps with
   |.done tmps=>k ⟨.normal,tmps,st⟩
   |.split e=>fQ (rec (.draw all n) tmps {st with pc:=e::st.pc} k) (rec (.draw all n) tmps {st with pc:=bc e::st.pc} k)
   |.bad=>rec (.layer all (aU all all) (nU P tb all (aU all all) 0 n [⟨.normal,tmps,st⟩] [])) tmps st k
  |false=>rec (.layer all (aU all all) (nU P tb all (aU all all) 0 n [⟨.normal,tmps,st⟩] [])) tmps st k
 |false=>none
def iO:Code->Option Nat
 |.exit id=>some id
 |.seq a b=>match iO a with
  |some n=>some n
  |none=>iO b
 |.block _ b=>iO b
 |.loop b=>iO b
 |.scope b=>iO b
 |.cond _ a b=>match iO a with
  |some n=>some n
  |none=>iO b
 |_=>none
def xW(g key:Nat):List Ann->Option Ann
 |[]=>none
 |x::xs=>match Nat.beq x.fn g with
  |true=>match Nat.beq x.key key with
   |true=>some x
   |false=>xW g key xs
  |false=>xW g key xs
def JU(tb:Tab)(g:Nat)(b:Code):Option Ann:=
 match tb.anns with
 |[]=>none
 |l=>match iO b with
  |some key=>xW g key l
  |none=>none
def iL(fs:List E)(n0 b0:Nat)(tmps:Tm)(st:St)(bound:Option E):List Tmpl->Option E->Fit
 |[],why=>match why with
  |some e=>.lack e
  |none=>.bad 0
 |τ::τs,why=>match La fs n0 b0 tmps st τ with
  |.ok z=>match bound with
   |none=>.ok z
   |some m=>match gL fs st.pc (τ.less.sub z.n0 z.es) m with
    |true=>match dR fs st.pc (τ.less.sub z.n0 z.es)with
     |true=>.ok z
     |false=>.lack (bc (aF .lss (τ.less.sub z.n0 z.es) (.int 0)))
    |false=>.lack (aF .lss (τ.less.sub z.n0 z.es) m)
  |.lack e=>iL fs n0 b0 tmps st bound τs (match why with | some e=>some e | none=>some e)
  |.bad _=>iL fs n0 b0 tmps st bound τs why
def mY(_:Tm)(_:St)(f:Fit)(r:aQ):aQ:=
 match f with
 |.ok _=>r
 |_=>none
def Tmpl.scp(τ:Tmpl):Bool:=τ.st.scp&&i3 τ.st.nv τ.st.nb τ.tmps&&τ.less.scp τ.st.nv
def rC(n0 b0:Nat):List Tmpl->Bool
 |[]=>true
 |τ::τs=>match Nat.ble n0 τ.st.nv&&Nat.ble b0 τ.st.nb&&τ.scp with
  |true=>rC n0 b0 τs
  |false=>false
def LZ(tb:Tab)(rec:bR)(g:FuncId)(b:Code)(n0 b0:Nat)(ts:List Tmpl)(k:Out->aQ):List Tmpl->aQ
 |[]=>some []
 | τ::τs=>fQ (rec (.code g b) τ.tmps τ.st fun o=>match o.ex with
   |.normal=>mY o.tmps o.st (iL tb.facts n0 b0 o.tmps o.st (some τ.less) ts none) (some [])
   |_=>k o) (LZ tb rec g b n0 b0 ts k τs)
def KE(k:Out->aQ):List Out->aQ
 |[]=>some []
 |o::os=>fQ (k o) (KE k os)
def Mw:Nat->Nat->T Blk->T Blk
 |0,_,t=>t
 |k+1,n,t=>Mw k (Nat.succ n) (T.ins t n ⟨true,.gone⟩)
def St.pad(st:St)(n b:Nat):St:=⟨n,b,Mw (Nat.sub b st.nb) st.nb st.heap,st.pc⟩
def FB(tb:Tab)(n b:Nat)(ts:List Tmpl)(xs:List Out)(tmps:Tm)(st:St)(k:Out->aQ):aQ:=
 match rC n b ts with
 |true=>mY tmps st (iL tb.facts n b tmps st none ts none) (KE k xs)
 |false=>qJ "templates"
def FC(tb:Tab)(rec:bR)(g:FuncId)(b:Code)(tmps:Tm)(st:St)(k:Out->aQ):aQ:=
 match JU tb g b with
 |none=>rec (.rounds g b) tmps st k
 |some x=>match x.known with
  |none=>match rC st.nv st.nb x.ts with
   |true=>mY tmps st (iL tb.facts st.nv st.nb tmps st none x.ts none) (LZ tb rec g b st.nv st.nb x.ts k x.ts)
   |false=>qJ "templates"
  |some y=>match Nat.beq st.nv y.n0&&Nat.beq st.nb y.b0 with
   |true=>FB tb y.n0 y.b0 x.ts y.xs tmps st k
   |false=>match Nat.ble st.nv y.n0&&Nat.ble st.nb y.b0&&st.scp&&i3 st.nv st.nb tmps with
    |true=>FB tb y.n0 y.b0 x.ts y.xs tmps (st.pad y.n0 y.b0) k
    |false=>qJ "a loop's variables"
def M5(rec:bR)(g:FuncId)(tmps:Tm)(st:St)(k:Out->aQ)(a b:Code):aQ:=
 rec (.code g a) tmps st fun o=>match o.ex with
   |.normal=>rec (.code g b) o.tmps o.st k
   |_=>k o
def M2(rec:bR)(g:FuncId)(tmps:Tm)(st:St)(k:Out->aQ)(id:Nat)(b:Code):aQ:=
 rec (.code g b) tmps st fun o=>match o.ex with
   |.exit i=>match Nat.beq i id with
    |true=>k ⟨.normal,o.tmps,o.st⟩
    |false=>k o
   |_=>k o
def M3(tb:Tab)(rec:bR)(g:FuncId)(tmps:Tm)(st:St)(k:Out->aQ)(c:Operand)(x y:Code):aQ:=
 match bz tmps c with
  |some (.bool e)=>match dQ tb.facts st.pc e with
   |some true=>rec (.code g x) tmps st k
   |some false=>rec (.code g y) tmps st k
   |none=>fQ (rec (.code g x) tmps {st with pc:=e::st.pc} k) (rec (.code g y) tmps {st with pc:=bc e::st.pc} k)
  |_=>none
def M4(P:Program)(tb:Tab)(rec:bR)(tmps:Tm)(st:St)(k:Out->aQ)(ops:Array Oper)(d:Bool):aQ:=
 match d with
  |false=>aft P tb rec ops.toList ops.toList tmps st fun tmps st=>k ⟨.normal,tmps,st⟩
  |true=>rec (.draw ops.toList ops.size) tmps st k
noncomputable def Nn(P:Program)(tb:Tab)(rec:bR)(g:FuncId)(c:Code)(tmps:Tm)(st:St)(k:Out->aQ):aQ:=
 Code.rec (motive:=fun _=>aQ)
  (k ⟨.normal,tmps,st⟩)
  (fun _ ops d=>M4 P tb rec tmps st k ops d)
  (fun a b _ _=>M5 rec g tmps st k a b)
  (fun c x y _ _=>M3 tb rec g tmps st k c x y)
  (fun id b _=>M2 rec g tmps st k id b)
  (fun b _=>FC tb rec g b tmps st k)
  (fun _ _ _ _ _ _=>none)
  (fun id=>k ⟨.exit id,tmps,st⟩)
  (fun b _=>rec (.code g b) tmps st k)
  (fun _=>k ⟨.normal,tmps,st⟩)
  (fun _=>none)
  (k ⟨.ret,tmps,st⟩)
  (fun _=>none)
  c
theorem aJV(P:Program)(tb:Tab)(rec:bR)(g:FuncId)(c:Code)(tmps:Tm)(st:St)(k:Out->aQ):Nn P tb rec g c tmps st k=(match c with
 |.skip=>k ⟨.normal,tmps,st⟩
 |.label _=>k ⟨.normal,tmps,st⟩
 |.ret=>k ⟨.ret,tmps,st⟩
 |.exit id=>k ⟨.exit id,tmps,st⟩
 |.seq a b=>M5 rec g tmps st k a b
 |.block id b=>M2 rec g tmps st k id b
 |.loop b=>FC tb rec g b tmps st k
 |.cond c x y=>M3 tb rec g tmps st k c x y
 |.region _ ops d=>M4 P tb rec tmps st k ops d
 |.scope b=>rec (.code g b) tmps st k
 |_=>none):=by cases c<;>rfl
def xY(fs:List E)(g:FuncId)(args:List SV)(st:St):List Nat1->NatR
 |[]=>.no
 |x::xs=>match Nat.beq x.fn g with
  |true=>match x.eff fs args st with
   |.outs l=>.outs l
   |_=>xY fs g args st xs
  |false=>xY fs g args st xs
def acu(k:Out->aQ):List (SV×St)->aQ
 |[]=>some []
 |(v,st)::l=>fQ (k ⟨.ret,.node v .nil .nil,st⟩) (acu k l)
def Nm(tb:Tab)(rec:bR)(g:FuncId)(args:List SV)(st:St)(k:Out->aQ):aQ:=
 match xY tb.facts g args st tb.nats with
 |.outs l=>acu k l
 |_=>match tb.fn.get g with
 |some fn=>match fn.body with
  |some c=>match Nat.ble args.length fn.ntmps&&Nat.ble fn.ntmps 1048575 with
   | true=>T.putsK args 0 (T.fill SV.undef 20 fn.ntmps) fun tmps=>rec (.code g c) tmps st fun o=>match o.ex with
     |.exit _=>none
     |_=>match jA tb o.st o.tmps fn.results.toList with
      |some vs=>k ⟨.ret,.node (rD vs) .nil .nil,o.st⟩
      |none=>none
   |false=>none
  |none=>none
 |none=>none
def xK(P:Program)(tb:Tab)(rec:bR)(all:List Oper)(infos:List Info)(x:Node)(left:Nat):List (Nat×Oper×Info)->List Node->Option (List Node)
 |[],acc=>some acc
 |(i,o,_)::rs,acc=>match pu P tb rec all o x.tmps x.st qB with
  |some os=>eQ (Nat.lor (Nat.pow 2 i) x.listed) fun listed=>xK P tb rec all infos x left rs (nU P tb all infos listed left os acc)
  |none=>none
def zt(P:Program)(tb:Tab)(rec:bR)(all:List Oper)(infos:List Info)(k:d7):List Node->List Node->Option (List Node×List Out)
 |[],acc=>some (acc,[])
 |x::xs,acc=>match fo x.listed all infos 0 with
  |[]=>match k x.tmps x.st with
   |some os=>match zt P tb rec all infos k xs acc with
    |some (acc,more)=>some (acc,os++more)
    |none=>none
   |none=>none
  |rs=>match x.left with
   |0=>none
   |left+1=>match xK P tb rec all infos x left rs acc with
    |some acc=>zt P tb rec all infos k xs acc
    |none=>none
def Ns(P:Program)(tb:Tab)(rec:bR)(all:List Oper)(infos:List Info)(l:List Node)(tmps:Tm)(st:St)(k:Out->aQ):aQ:=
 match zt P tb rec all infos (fun tmps st=>k ⟨.normal,tmps,st⟩) l [] with
 |some (next,os)=>match next with
  |[]=>some os
  |_=>match rec (.layer all infos next) tmps st k with
   |some more=>some (os++more)
   |none=>none
 |none=>none
def afv(rec:bR)(g:FuncId)(b:Code)(tmps:Tm)(st:St)(k:Out->aQ):aQ:=
 rec (.code g b) tmps st fun o=>match o.ex with
  |.normal=>rec (.rounds g b) o.tmps o.st k
  |_=>k o
def aJS(P:Program)(tb:Tab)(rec:bR)(task:Task)(tmps:Tm)(st:St)(k:Out->aQ):aQ:=
 match task with
 |.code g c=>Nn P tb rec g c tmps st k
 |.rounds g c=>afv rec g c tmps st k
 |.call g args=>Nm tb rec g args st k
 |.draw all n=>No P tb rec all n tmps st k
 |.layer all infos l=>Ns P tb rec all infos l tmps st k
def run(P:Program)(tb:Tab)(n:Nat):bR:=
 Nat.rec (motive:=fun _=>bR) (fun _ _ _ _=>none) (fun _ ih=>aJS P tb ih) n
def fh(key:Nat):Code->List Code
 |.seq a b=>fh key a++fh key b
 |.cond _ a b=>fh key a++fh key b
 |.block _ b=>fh key b
 |.scope b=>fh key b
 |.loop b=>match iO b with
  |some n=>match Nat.beq n key with
   |true=>b::fh key b
   |false=>fh key b
  |none=>fh key b
 |_=>[]
def KD:Ex->Ex->Bool
 |.normal,.normal=>true
 |.ret,.ret=>true
 |.exit a,.exit b=>Nat.beq a b
 |_,_=>false
def tk(e:Ex):List Out->List Tmpl
 |[]=>[]
 |x::xs=>match KD e x.ex with
  |true=>⟨x.tmps,x.st,.int 0⟩::tk e xs
  |false=>tk e xs
def C9:List Out->List Tmpl
 |[]=>[]
 |x::xs=>⟨x.tmps,x.st,.int 0⟩::C9 xs
def Zu(tb:Tab)(n0 b0:Nat)(ts:List Tmpl)(xs:List Out)(less:E)(o:Out):aQ:=
 match o.ex with
 |.normal=>mY o.tmps o.st (iL tb.facts n0 b0 o.tmps o.st (some less) ts none) (some [])
 |_=>mY o.tmps o.st (iL tb.facts n0 b0 o.tmps o.st none (tk o.ex xs) none) (some [])
def abO:aQ->Bool
 |some _=>true
 |none=>false
def Zt(P:Program)(tb:Tab)(n:Nat)(g key n0 b0:Nat)(ts:List Tmpl)(xs:List Out)(less:E)(tmps:Tm)(st:St):Bool:=
 match tb.fn.get g with
 |some fn=>match fn.body with
  |some c=>match fh key c with
   |[b]=>match rC n0 b0 ts&&rC n0 b0 (C9 xs)with
    |true=>abO (run P tb n (.code g b) tmps st (Zu tb n0 b0 ts xs less))
    |false=>false
   |_=>false
  |none=>false
 |none=>false
def lQ{O:Type}(P:Program)(k:Tab->O):O:=
 T.addsK P.types.toList 0 T.nil fun ty=>T.addsK P.funcs.toList 0 T.nil fun fn=>k ⟨ty,fn,[],[],[]⟩
end
end Go.SX

namespace Go.SX
noncomputable section
def uJ(st:St)(cs:List SV)(n:Nat)(el:TypeId):SV×St:=
 (.nslice st.nb (.int (.ofNat n)) (.var st.nv),⟨Nat.succ st.nv,Nat.succ st.nb,st.heap.ins st.nb ⟨true,.cells cs (.var st.nv) el⟩,bc (aF .lss (.var st.nv) (.int (.ofNat n)))::st.pc⟩)
def nh(x:Int):List Int->List Int
 |[]=>[x]
 |y::l=>match leI x y with
  |true=>x::y::l
  |false=>y::nh x l
def fI:List Int->List Int
 |[]=>[]
 |x::l=>nh x (fI l)
def kj:List Int->List SV
 |[]=>[]
 |n::l=>.int .i64 (.int n)::kj l
def nO(st:St)(el:TypeId)(l:List Int):Option (List (SV×St)):=
 match l with
 |[]=>some [(.nils,st)]
 |_=>match st.scp with
  |true=>some [uJ st (kj l) (aM l) el]
  |false=>none
def ny:Option (List (SV×St))->NatR
 |some l=>.outs l
 |none=>.no
def lq(st:St)(e:E)(el:TypeId):SV×St:=
 (.nslice st.nb (.fn 0 e) (.var st.nv),⟨Nat.succ st.nv,Nat.succ st.nb,st.heap.ins st.nb ⟨true,.flat [.int .i64] e (.fn 0 e) (.var st.nv) el⟩,bc (aF .lss (.var st.nv) (.fn 0 e))::st.pc⟩)
def pA:List SV->Option (List Int)
 |[]=>some []
 |v::l=>match v with
  |.int .i64 (.int n)=>match pA l with
   |some r=>some (n::r)
   |none=>none
  |_=>none
def Fw(st:St)(b:Nat)(cs:List SV)(ag:E)(el:TypeId)(n:Nat):NatR:=
 match jF cs n with
 |some hd=>match pA hd with
  |some l=>match Nat.ble n 1000000 with
   |true=>match nF cs 0 (kj (fI l))with
    |some cs'=>.outs [(.tup [],{st with heap:=st.heap.set b ⟨true,.cells cs' ag el⟩})]
    |none=>.no
   |false=>.no
  |none=>.no
 |none=>.no
def Nc(st:St)(b:Nat)(l n ag:E)(el:TypeId)(ok:Bool):NatR:=
 match ok with
 |true=>.outs [(.tup [],{st with heap:=st.heap.set b ⟨true,.flat [.int .i64] (.fn 40 l) n ag el⟩})]
 |false=>.lack (bc (aF .lss iH n))
def yl:List CK->Bool
 |[c]=>match c with
  |.int .i64=>true
  |_=>false
 |_=>false
def Nb(fs:List E)(args:List SV)(st:St):NatR:=
 match args with
 |[v]=>match v with
  |.nils=>.outs [(.tup [],st)]
  |.nslice b len _=>match st.heap.get b with
   |some ⟨own,o⟩=>match own with
    |true=>match o with
     |.cells cs ag el=>match ef len with
      |some n=>Fw st b cs ag el n
      |none=>.no
     |.flat ks l n ag el=>match len.beq n&&yl ks with
      |true=>Nc st b l n ag el (cM fs st.pc n iH)
      |false=>.no
     |_=>.no
    |false=>.no
   |none=>.no
  |.slice b off len _=>match st.heap.get b with
   |some ⟨own,o⟩=>match own with
    |true=>match o with
     |.cells cs ag el=>match ef len,fG off with
      |some n,some 0=>Fw st b cs ag el n
      |_,_=>.no
     |_=>.no
    |false=>.no
   |none=>.no
  |_=>.no
 |_=>.no
def afc(f:FuncId):Nat1:=⟨f,Nb⟩
def Gj(g1:FuncId)(args:List SV)(st:St):Option SV:=
 match args with
 |[.nils,.func (.func g) [] [.ptr b o]]=>match Nat.beq g g1,fG o with
  |true,some 0=>match st.heap.get b with
   |some ⟨_,.cells (v::_) _ _⟩=>some v
   |_=>none
  |_,_=>none
 |_=>none
def Gi(el:TypeId)(st:St)(e:E)(ok:Bool):NatR:=
 match ok with
 |true=>.outs [lq st e el]
 |false=>.lack (bc (aF .lss iH (.fn 0 e)))
def JW(g1:FuncId)(el:TypeId)(fs:List E)(args:List SV)(st:St):NatR:=
 match Gj g1 args st with
 |some v=>match v with
  |.nils=>.outs [(.nils,st)]
  |.nslice b len _=>match st.heap.get b with
   |some ⟨_,o⟩=>match o with
    |.cells cs _ _=>match ef len with
     |some n=>match jF cs n with
      |some hd=>match pA hd with
       |some l=>match Nat.ble n 1000000 with
        |true=>ny (nO st el l)
        |false=>.no
       |none=>.no
      |none=>.no
     |none=>.no
    |.flat ks l n _ _=>match len.beq n&&yl ks&&st.scp with
     |true=>Gi el st l (cM fs st.pc len iH)
     |false=>.no
    |_=>.no
   |none=>.no
  |.slice b off len _=>match st.heap.get b with
   |some ⟨_,o⟩=>match o with
    |.cells cs _ _=>match ef len,fG off with
     |some n,some m=>match jF (qD cs m) n with
      |some hd=>match pA hd with
       |some l=>match Nat.ble n 1000000 with
        |true=>ny (nO st el l)
        |false=>.no
       |none=>.no
      |none=>.no
     |_,_=>.no
    |_=>.no
   |none=>.no
  |.bsl ks e=>match yl ks&&st.scp&&e.scp st.nv with
   |true=>Gi el st e (cM fs st.pc (.fn 0 e) iH)
   |false=>.no
  |_=>.no
 |none=>.no
def Zg(f g1:FuncId)(el:TypeId):Nat1:=⟨f,JW g1 el⟩
def Ki(args:List SV)(st:St):Option (List (SV×St)):=
 match args with
 |[]=>some [(.bool (.bool true),st)]
 |_=>none
def Kj(g:FuncId):Nat1:=⟨g,fun _ args st=>ny (Ki args st)⟩
structure Pact where
 fn:FuncId
 args:List SV
 st:St
 posts:List (SV×St)
 deriving Inhabited
def Pact.tmpl(s:Pact):Tmpl:=⟨iU (.tup s.args),s.st,.int 0⟩
def pB(n0:Nat):Nat->List E
 |0=>[]
 |n+1=>.var n0::pB (Nat.succ n0) n
def nz(n0:Nat):Nat->List Nat
 |0=>[]
 |n+1=>n0::nz (Nat.succ n0) n
def ML(z:Sub)(st pre post:St):Sub:=⟨0,z.es++pB st.nv (Nat.sub post.nv pre.nv),0,z.bs++nz st.nb (Nat.sub post.nb pre.nb)⟩
def lL(z:Sub)(pre post:T Blk):Nat->Nat->T Blk->T Blk
 |0,_,heap=>heap
 |n+1,i,heap=>match pre.get i with
  |none=>lL z pre post n (Nat.succ i) heap
  |some p=>match p.obj with
   |.gone=>lL z pre post n (Nat.succ i) heap
   |_=>match post.get i with
    |none=>T.setK heap (bW 0 z.bs i) ⟨true,.gone⟩ fun heap=>lL z pre post n (Nat.succ i) heap
    |some q=>T.setK heap (bW 0 z.bs i) ⟨true,q.obj.sub z⟩ fun heap=>lL z pre post n (Nat.succ i) heap
def qV(z:Sub)(post:T Blk):Nat->Nat->Nat->T Blk->T Blk
 |0,_,_,heap=>heap
 |n+1,i,b,heap=>match post.get i with
  |none=>T.insK heap b ⟨true,.gone⟩ fun heap=>qV z post n (Nat.succ i) (Nat.succ b) heap
  |some q=>T.insK heap b ⟨true,q.obj.sub z⟩ fun heap=>qV z post n (Nat.succ i) (Nat.succ b) heap
def y6(z:Sub)(pc:List E):List E->List E
 |[]=>pc
 |e::es=>e.sub z.n0 z.es::y6 z pc es
def uP(z:Sub)(st pre:St)(p:SV×St):SV×St:=
 let z':=ML z st pre p.2
 (p.1.sub z',⟨Nat.add st.nv (Nat.sub p.2.nv pre.nv),Nat.add st.nb (Nat.sub p.2.nb pre.nb),
  qV z' p.2.heap (Nat.sub p.2.nb pre.nb) pre.nb st.nb (lL z' pre.heap p.2.heap pre.nb 0 st.heap),y6 z' st.pc p.2.pc⟩)
def Fx(z:Sub)(st pre:St):List (SV×St)->List (SV×St)
 |[]=>[]
 |p::ps=>uP z st pre p::Fx z st pre ps
def Nj(s:Pact)(fs:List E)(args:List SV)(st:St):NatR:=
 match st.scp with
 |true=>match qL fs 0 0 (iU (.tup args)) st s.tmpl with
  |.ok z=>.outs (Fx z st s.st s.posts)
  |.lack e=>.lack e
  |.bad _=>.no
 |false=>.no
def LS(fs:List E)(p:SV×St):Bool:=
 match p.2.pc with
 |[]=>true
 |c::bE=>match dQ fs bE (bc c)with
  |some b=>!b
  |none=>true
def yC(fs:List E):List (SV×St)->List (SV×St)
 |[]=>[]
 |p::ps=>match LS fs p with
  |true=>p::yC fs ps
  |false=>yC fs ps
def Ni(s:Pact)(fs:List E)(args:List SV)(st:St):NatR:=
 match Nj s fs (SV.norms st.heap args) st.norm with
 |.outs l=>.outs (yC fs l)
 |.lack e=>.lack e
 |.no=>.no
def bj(s:Pact):Nat1:=⟨s.fn,Ni s⟩
def Mt(t:T Blk):Bool:=T.all (fun b=>b.own) t
def Dt(pre post:T Blk):Nat->Bool
 |0=>true
 |n+1=>match Dt pre post n with
  |true=>match post.get n with
   |none=>true
   |some q=>match q.obj with
    |.gone=>true
    |_=>match pre.get n with
     |some p=>match p.obj with
      |.gone=>false
      |_=>true
     |none=>false
  |false=>false
def MK(s:Pact)(p:SV×St):Bool:=
 Nat.ble s.st.nv p.2.nv&&(Nat.ble s.st.nb p.2.nb&&(p.2.scp&&(p.1.scp p.2.nv p.2.nb&&(Mt p.2.heap&&Dt s.st.heap p.2.heap s.st.nb))))
def E7(s:Pact):List (SV×St)->Bool
 |[]=>true
 |p::ps=>match MK s p with
  |true=>E7 s ps
  |false=>false
def Pact.good(s:Pact):Bool:=s.st.scp&&(SV.scps s.st.nv s.st.nb s.args&&(Mt s.st.heap&&E7 s s.posts))
def Ms(fs:List E)(s:Pact)(p:SV×St):Bool:=o5 fs s.st.nv s.st.nb (iU p.1) p.2 (sY s.posts)
def EJ(tb:Tab)(ms:List FM)(s:Pact):List Out->Bool
 |[]=>true
 |o::os=>match o.tmps with
  |.node v _ _=>match Ms tb.facts s (nf ms tb.facts (v,o.st))with
   |true=>EJ tb ms s os
   |false=>false
  |.nil=>false
def Nh(P:Program)(tb:Tab)(n:Nat)(ms:List FM)(s:Pact):Bool:=
 match s.good with
 |true=>match run P tb n (.call s.fn s.args) .nil s.st (fun o=>some [o])with
  |some os=>EJ tb ms s os
  |none=>false
 |false=>false
def bF(n:Nat)(l:List (Nat×SV)):Tm:=l.foldr (fun p t=>t.set p.1 p.2) (T.fill .junk 20 n)
def cn(l:List Blk):T Blk:=(l.foldl (fun(p:T Blk×Nat) b=>(p.1.ins p.2 b,p.2+1)) (T.nil,0)).1
def gH(a b:E):E:=.cmp .lss a b
def af(a b:E):E:=.not (.cmp .lss b a)
def eV(i:Nat):E:=.var i
def agl:List Nat->List E
 |[]=>[]
 |i::l=>.not (.cmp .lss (.var i) (.int 0))::.not (.cmp .lss (.int 18446744073709551615) (.var i))::agl l
def abo:List Nat->List E
 |[]=>[]
 |i::l=>.not (.cmp .lss (.var i) (.int (-9223372036854775808)))::.not (.cmp .lss (.int 9223372036854775807) (.var i))::abo l
end
end Go.SX

namespace Go.SX
noncomputable section
def DY(ks:List CK)(l n len:E)(cap ag:E)(v:SV)(nv:Nat):SV×Nat:=
 match n.beq len&&cap.beq ag with
 |true=>(.bsl ks (.fn 28 (.pr (.pr (.var nv) len) l)),Nat.succ nv)
 |false=>(v,nv)
def LO(h:T Blk)(ks0:List CK)(v:SV)(nv:Nat):SV×Nat:=
 match v with
 |.nils=>(.bsl ks0 (.fn 30 (.int 0)),nv)
 |.nslice b len cap=>match h.get b with
  |some ⟨true,.flat ks l n ag _⟩=>DY ks l n len cap ag v nv
  |some ⟨true,.nest ks l n ag _ _⟩=>DY ks l n len cap ag v nv
  |_=>(v,nv)
 |_=>(v,nv)
def DZ(h:T Blk)(m:FM)(v:SV)(nv:Nat):SV×Nat:=
 match m with
 |.down ks=>LO h ks v nv
 |_=>(v,nv)
def tW(h:T Blk)(nb:Nat):List FM->List SV->Nat->List SV×Nat
 |m::ms,v::vs,nv=>match DZ h m v nv with
  |(v',nv1)=>match v'.scp nv1 nb with
   |true=>match tW h nb ms vs nv1 with
    |(vs',nv')=>(v'::vs',nv')
   |false=>(v::vs,nv)
 |_,vs,nv=>(vs,nv)
def LP(h:T Blk)(nb:Nat)(ms:List FM)(v:SV)(nv:Nat):SV×Nat:=
 match v with
 |.agg cs=>match tW h nb ms cs nv with
  |(cs',nv')=>(.agg cs',nv')
 |v=>match ms with
  |m::_=>DZ h m v nv
  |[]=>(v,nv)
def qZ(h:T Blk)(nb:Nat):List (List FM)->List SV->Nat->List SV×Nat
 |ms::mss,v::vs,nv=>match LP h nb ms v nv with
  |(v',nv1)=>match v'.scp nv1 nb with
   |true=>match qZ h nb mss vs nv1 with
    |(vs',nv')=>(v'::vs',nv')
   |false=>(v::vs,nv)
 |_,vs,nv=>(vs,nv)
def E6:SV->Bool
 |.int _ _=>true
 |.bool _=>true
 |.str _=>true
 |_=>false
def DX(h:T Blk):List (SV×St)->Option (List (SV×St))
 |[]=>some []
 |y::l=>match E6 y.1 with
  |true=>match DX h l with
   |some l'=>some ((y.1,⟨y.2.nv,y.2.nb,h,y.2.pc⟩)::l')
   |none=>none
  |false=>none
def LN(mss:List (List FM))(x:Nat1)(fs:List E)(args:List SV)(st:St):NatR:=
 match st.scp&&SV.scps st.nv st.nb args with
 |true=>match qZ st.heap st.nb mss args st.nv with
  |(args',nv')=>match x.eff fs args' ⟨nv',st.nb,.nil,st.pc⟩ with
   |.outs l=>match DX st.heap l with
    |some l'=>.outs l'
    |none=>.no
   |.lack e=>match e.scp st.nv with
    |true=>.lack e
    |false=>.no
   |.no=>.no
 |false=>.no
def aFV(mss:List (List FM))(x:Nat1):Nat1:=⟨x.fn,LN mss x⟩
end
end Go.SX
