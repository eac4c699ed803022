/-
  A symbolic executor of the model's code: it reckons all outcomes of a call E3 values and memory that are known in part.
-/
import GoSem.Step
set_option linter.unusedVariables false
set_option linter.unusedSimpArgs false
set_option linter.unusedSectionVars false

namespace Go.SX
inductive U where
 |int (n:Int) | bool (b:Bool) | str (s:ByteArray) | lst (l:List U) | bx (a:Option Addr) (n c:Nat) (l:List U)
def U.toI:U->Int | .int n=>n | _=>0
def U.toB:U->Bool | .bool b=>b | _=>false
def U.toS:U->ByteArray | .str s=>s | _=>ByteArray.empty
def U.toL:U->List U | .lst l=>l | .bx _ _ _ l=>l | _=>[]
def U.raw:U->Value | .bx a n c _=>.slice a n c | _=>.slice none 0 0
def U.adr:U->Option Addr | .bx a _ _ _=>a | _=>none
def U.rlen:U->Nat | .bx _ n _ _=>n | _=>0
def U.rcap:U->Nat | .bx _ _ c _=>c | _=>0
def U.cut(w:Nat)(u:U)(l h m:Nat):U:=
 .bx (if m=l then u.adr else u.adr.map (·.add (l*w))) (h-l) (m-l) ((u.toL.take (h*w)).drop (l*w))
def U.fst:U->U | .lst (a::_)=>a | _=>.int 0
def U.snd:U->U | .lst (_::b::_)=>b | _=>.int 0
mutual
def U.eq:U->U->Bool
 |.int a,.int b=>a==b
 |.bool a,.bool b=>a==b
 |.str a,.str b=>a.data==b.data
 |.lst a,.lst b=>U.eqs a b
 |.bx _ _ _ a,.lst b=>U.eqs a b
 |.lst a,.bx _ _ _ b=>U.eqs a b
 |.bx _ _ _ a,.bx _ _ _ b=>U.eqs a b
 |_,_=>false
def U.eqs:List U->List U->Bool
 |[],[]=>true
 |x::xs,y::ys=>U.eq x y&&U.eqs xs ys
 |_,_=>false
end
def abl(n:Nat):Int:=match n with | 0=>-128 | 1=>-32768 | 2=>-2147483648 | 3=>-9223372036854775808 | _=>0
def abk(n:Nat):Int:=match n with | 0=>127 | 1=>32767 | 2=>2147483647 | 3=>9223372036854775807 | 4=>255 | 5=>65535 | 6=>4294967295 | _=>18446744073709551615
mutual
def U.typ:U->U->Bool
 |.int x,.int k=>decide (k<8/\abl k.toNat<=x/\x<=abk k.toNat)
 |.bool _,.int k=>k==8
 |.str _,.int k=>k==9
 |.bx _ _ _ l,.lst ks=>U.typs l ks []
 |_,_=>false
def U.typs:List U->List U->List U->Bool
 |[],_,_=>true
 |x::xs,ks,k::r=>U.typ x k&&U.typs xs ks r
 |x::xs,ks,[]=>match ks with
  |k::r=>U.typ x k&&U.typs xs ks r
  |[]=>false
end
def cF(k:Int):List U->Option U
 |[]=>none
 |u::l=>if u.fst.toI=k then some u.snd else cF k l
def cO(k:Int)(v:U):List U->List U
 |[]=>[.lst [.int k,v]]
 |u::l=>if u.fst.toI=k then .lst [.int k,v]::l else u::cO k v l
def sI(k:Int):List U->List U
 |[]=>[]
 |u::l=>if u.fst.toI=k then l else u::sI k l
def oC(x:Int):List Int->List Int
 |[]=>[x]
 |y::l=>if x<=y then x::y::l else y::oC x l
def f9:List Int->List Int
 |[]=>[]
 |x::l=>oC x (f9 l)
def aD7(l:List U):Bool:=
 decide ((l.map fun u=>u.fst.toI).Nodup)&&(l.all fun u=>decide (-9223372036854775808<=u.fst.toI/\u.fst.toI<=9223372036854775807))&&decide (l.length<=1000000)
def aa0(x:U):List U->Nat->Int
 |[],_=>-1
 |y::l,n=>if U.eq x y then n else aa0 x l (n+1)
mutual
def U.size:U->Nat
 |.int _=>1
 |.bool _=>1
 |.str _=>1
 |.lst l=>U.sizes l+1
 |.bx _ _ _ l=>U.sizes l+1
def U.sizes:List U->Nat
 |[]=>0
 |u::l=>U.size u+U.sizes l
end
def wa(f:Nat)(a:U):U:=
 match f with
 |0=>.int a.toL.length
 |1=>a.fst.toL.getD a.snd.toI.toNat (.int 0)
 |2=>.lst (a.fst.toL.set a.snd.fst.toI.toNat a.snd.snd)
 |3=>.lst (a.fst.toL++a.snd.toL)
 |4=>.lst ((a.fst.toL.take a.snd.snd.toI.toNat).drop a.snd.fst.toI.toNat)
 |5=>.lst (List.replicate a.fst.toI.toNat a.snd)
 |6=>.int (a.fst.toI+a.snd.toI)
 |7=>.int (a.fst.toI-a.snd.toI)
 |8=>.int (a.fst.toI*a.snd.toI)
 |9=>.int (a.fst.toL.length/a.snd.toI.toNat)
 |10=>.lst []
 |11=>.lst [a]
 |12=>.bool (U.eq a.fst a.snd)
 |13=>.int a.toS.size
 |14=>.str (a.fst.toS++a.snd.toS)
 |15=>.int ((a.fst.toS.data.getD a.snd.toI.toNat 0).toNat)
 |16=>.str (a.fst.toS.extract a.snd.fst.toI.toNat a.snd.snd.toI.toNat)
 |17=>.lst (List.replicate a.fst.toI.toNat a.snd.toL).flatten
 |18=>.lst (a.fst.toL.take a.snd.toI.toNat)
 |19=>.lst (a.fst.toL.drop a.snd.toI.toNat)
 |20=>.int (if a.fst.toB then a.snd.fst.toI else a.snd.snd.toI)
 |21=>.bx a.fst.adr a.fst.rlen a.fst.rcap a.snd.toL
 |22=>.int a.rcap
 |23=>.lst (a.fst::a.snd.toL)
 |24=>U.cut a.fst.fst.toI.toNat a.fst.snd a.snd.fst.toI.toNat a.snd.snd.fst.toI.toNat a.snd.snd.snd.toI.toNat
 |25=>.bool (a.snd.toL.any fun x=>U.eq a.fst x)
 |26=>.int a.rlen
 |27=>.bool (U.typs a.snd.toL a.fst.toL [])
 |28=>.bx a.fst.fst.adr a.fst.snd.toI.toNat a.fst.fst.rcap a.snd.toL
 |29=>.int ((a.fst.toI.toNat-a.snd.toI.toNat:Nat):Int)
 |30=>.bx none 0 0 []
 |31=>.bool a.adr.isNone
 |32=>(cF a.snd.fst.toI a.fst.toL).getD a.snd.snd
 |33=>.bool (cF a.snd.toI a.fst.toL).isSome
 |34=>.lst (cO a.snd.fst.toI a.snd.snd a.fst.toL)
 |35=>.lst (sI a.snd.toI a.fst.toL)
 |36=>.lst ((f9 (a.toL.map fun u=>u.fst.toI)).map U.int)
 |37=>.lst (a.toL.map U.fst)
 |38=>.int (aa0 a.snd a.fst.toL 0)
 |39=>.bool (aD7 a.toL)
 |40=>.lst ((f9 (a.toL.map U.toI)).map U.int)
 |42=>.int ((U.size a:Nat):Int)
 |41=>.str ⟨(a.toL.map fun u=>UInt8.ofNat u.toI.toNat).toArray⟩
 |_=>.int 0
end Go.SX

namespace Go.SX
def bA(u:U):List Int:=u.toL.map U.toI
def bb(n:Nat):Nat:=n
def cX(X:U)(j:Nat):U:=X.toL.getD j (.int 0)
def iX(X:U)(j:Nat):Int:=(cX X j).toI
def nI(l:List U)(j:Nat):Int:=(l.getD j (.int 0)).toI
def dG(a x b:Int):Bool:=decide (a<=x/\x<=b)
def Cq(a b:Int):Bool:=dG 0 a 500&&dG 0 b 1&&(a==0||b==0)
def ue(l:List U)(n:Nat):Bool:=(List.range n).all fun i=>Cq (nI l (i*2)) (nI l (i*2+1))
def kK(p i c t:Int)(l:List U)(q:Bool):Bool:=
 dG 0 p 1&&dG 1 i 500&&dG 0 c 399&&dG (-1) t 1&&decide (l.length/2<=4)&&(decide (t<0)||l.length/2==0)&&(!q||decide (0<=t))&&ue l (l.length/2)
def pU(l:List U)(q:Bool)(n:Nat):Bool:=(List.range n).all fun i=>kK (nI l (i*5)) (nI l (i*5+1)) (nI l (i*5+2)) (nI l (i*5+3)) (l.getD (i*5+4) (.int 0)).toL q
def bh(X:U)(k:Nat):List Int:=bA (cX X (6+14*(k/4)+k%4))
def k7(X:U)(k:Nat):List (Int×Int):=(List.range k).flatMap fun z=>(bh X z).map fun i=>(i,((z/4:Nat):Int))
def fP(X:U)(k i:Nat):List (Int×Int):=k7 X k++((bh X k).take i).map fun x=>(x,((k/4:Nat):Int))
def hF(X:U)(s:Nat):List Nat:=(List.range s).filter fun i=>decide (nI (cX X 29).toL (i*5+3)<0)
def i4(X:U)(s:Nat):List (Int×Int):=(hF X s).map fun i=>(nI (cX X 29).toL (i*5+1),nI (cX X 29).toL (i*5))
def hE(X:U)(s:Nat):List (Int×Int):=(hF X s).map fun i=>(nI (cX X 29).toL (i*5+1),nI (cX X 29).toL (i*5+2))
def jo(m:List U):List (Int×Int):=m.map fun u=>(u.fst.toI,u.snd.toI)
def oM(l:List Int):Bool:=match l with | []=>true | x::l=>!l.contains x&&oM l
def iV(m:List U)(l:List (Int×Int)):Bool:=jo m==l&&oM (l.map Prod.fst)
def aK(X:U):Nat:=(cX X 0).toL.length/12
def b8(X:U):Nat:=(cX X 29).toL.length/5
def oI(X:U)(i j:Nat):Int:=nI (cX X 0).toL (i*12+j)
def Mv(a0 a1 a2 a3 a4 a5 a6 a7 a8:Int):Bool:=
 dG 1 a0 500&&dG (-1) a1 399&&dG 0 a2 1&&(a1 == -1||(a3==0&&a4==0))&&[a3,a4,a5,a6,a7,a8].all fun j=>dG 0 j 99
def oO(X:U)(i:Nat):Bool:=
 dG 1 (oI X i 0) 500&&dG (-1) (oI X i 1) 399&&dG 0 (oI X i 2) 1&&(oI X i 1 == -1||(oI X i 3==0&&oI X i 4==0))&&[3,4,5,6,7,8].all fun j=>dG 0 (oI X i j) 99
def dx(X:U):List (Int×Int):=fP X 8 0++i4 X (b8 X)
def gp(l:List (Int×Int))(k:Int):Option Int:=(l.find? fun p=>p.1==k).map Prod.snd
def qi(X:U)(n:Nat):Bool:=(List.range n).all fun i=>oO X i&&(i==0||decide (oI X (i-1) 0<oI X i 0))&&gp (dx X) (oI X i 0)==some (oI X i 2)&&(match gp (hE X (b8 X)) (oI X i 0)with | none=>true | some c=>c==oI X i 1)
def dI(X:U):Bool:=oM ((dx X).map Prod.fst)&&qi X (aK X)&&(dx X).length==aK X
def bC(X:U)(k:Int)(n:Nat):Int:=match (List.range n).find? fun i=>oI X i 0==k with | some i=>((i:Nat):Int) | none=>-1
def rY(X:U)(p:Nat)(q:Nat)(k:Int):Nat:=((List.range q).flatMap fun z=>bh X (4*p+z)).count k
def pE(X:U)(p:Int)(k:Int)(s:Nat):Nat:=((List.range s).filter fun i=>nI (cX X 29).toL (i*5+3) == -1&&nI (cX X 29).toL (i*5+1)==k&&nI (cX X 29).toL (i*5)==p).length
def qm(X:U)(p:Nat)(k:Int):Nat:=rY X p 4 k+pE X p k (b8 X)
def wb(X:U)(s:Nat):Bool:=(hF X s).all fun i=>decide (0<=bC X (nI (cX X 29).toL (i*5+1)) (aK X))&&oI X (bC X (nI (cX X 29).toL (i*5+1)) (aK X)).toNat 1==nI (cX X 29).toL (i*5+2)
def vv(X:U)(n:Nat):Bool:=(List.range n).all fun i=>oO X i&&(i==0||decide (oI X (i-1) 0<oI X i 0))&&qm X (oI X i 2).toNat (oI X i 0)==1
def zq(X:U):Nat:=((List.range 8).map fun z=>(bh X z).length).sum+(hF X (b8 X)).length
def sq(X:U):Bool:=wb X (b8 X)&&vv X (aK X)&&zq X==aK X
def bI(X:U):Nat:=(iX X 34).toNat
def fZ(X:U):List Int:=bh X (4*bI X+2)
def fD(X:U):List Int:=bh X (4*(1-bI X)+2)
def aC(X:U):List Int:=bA (cX X 31)
def blk(X:U)(i j:Nat):Int:=nI (cX X 32).toL (i*2+j)
def bc(X:U):Nat:=(cX X 32).toL.length/2
def jE(X:U)(n:Nat):Bool:=oM ((aC X).take n)&&((aC X).take n).all fun a=>(fZ X).contains a
def cT(X:U)(n:Nat)(j:Nat):List Int:=(List.range n).map fun i=>blk X i j
def kw(X:U)(n:Nat):Bool:=oM (cT X n 1)&&oM (cT X n 0)&&(List.range n).all fun i=>(aC X).contains (blk X i 1)&&(fD X).contains (blk X i 0)
def gW(X:U):Bool:=jE X (aC X).length&&kw X (bc X)
def i3(m:List U)(k:Int):Bool:=((cF k m).getD (.bool false)).toB
def qq(X:U)(n j:Nat)(k:Int):Bool:=match decide (0<k)with
 |true=>((aC X).take n).contains k && !(cT X j 1).contains k
 |false=>(cT X j 0).contains (-k)
def jq(X:U)(m:List U)(n j:Nat):Bool:=
 ((m.map fun u=>u.fst.toI)++aC X++(cT X (bc X) 0).map (fun k=>-k)).all fun k=>i3 m k==qq X n j k
def rR(X:U)(n:Nat):Bool:=(List.range n).all fun i=>(aC X).count (nI (cX X 31).toL i)==1&&(fZ X).count (nI (cX X 31).toL i)==1
def ul(X:U)(i k:Nat):Bool:=(List.range k).all fun q=>!(blk X q 1==blk X i 1) && !(blk X q 0==blk X i 0)
def uo(X:U)(n:Nat):Bool:=(List.range n).all fun i=>(aC X).count (blk X i 1)==1&&(fD X).count (blk X i 0)==1&&ul X i i
def sg(X:U):Bool:=rR X (aC X).length&&uo X (bc X)
def na(X:U)(p:Nat):Bool:=dG 0 (iX X (1+14*p)) 9999&&([2,3,4,5].all fun j=>dG 0 (iX X (j+14*p)) 99)&&dG 0 (iX X (13+14*p)) 7&&dG 0 (iX X (14+14*p)) 255
def oN(X:U):Bool:=dG 0 (iX X 34) 1&&dG 0 (iX X 33) 1000&&dG 0 (iX X 35) 10&&dG (-1) (iX X 36) 1&&dG 0 (iX X 37) 2&&decide (aK X<=500)&&decide (b8 X<=200)&&decide ((cX X 30).toL.length/5<=200)
def sC(X:U):Bool:=pU (cX X 29).toL false (b8 X)&&pU (cX X 30).toL true ((cX X 30).toL.length/5)
def iI(X:U):Bool:=oN X&&na X 0&&na X 1&&sC X&&dI X&&gW X
def ti(X:U):Bool:=oN X&&na X 0&&na X 1&&sC X&&sq X&&sg X
def kOu:List U:=[.int 3,.int 3,.int 3,.int 3,.int 3,.int 3,.int 3,.int 3,.int 3,.int 8,.int 8,.int 8]
def kTu:List U:=[.int 3,.int 3]
def Ea:List U:=[.int 3,.int 3,.int 3,.int 3,.lst kTu]
def kSu:List U:=[.int 3,.int 3,.int 3,.int 3,.int 3,.lst [.int 3],.lst [.int 3],.lst [.int 3],.lst [.int 3],.int 8,.int 8,.int 8,.int 3,.int 3]
def oD:List U:=.lst kOu::(kSu++(kSu++[.lst Ea,.lst Ea,.lst [.int 3],.lst kTu,.int 3,.int 3,.int 3,.int 3,.int 3]))
def ga(l:List U)(n:Nat):Bool:=(List.range n).all fun i=>decide ((l.getD (i*5+4) (.int 0)).toL.length/2<=6)
def iE(X:U):Bool:=
 ((List.range 8).all fun z=>decide ((bh X z).length<=40))&&decide (b8 X<=20)&&decide ((cX X 30).toL.length/5<=20)&&ga (cX X 29).toL (b8 X)&&ga (cX X 30).toL ((cX X 30).toL.length/5)&&decide (aK X<=30)&&decide ((aC X).length<=30)&&decide (bc X<=30)
def eO(l:List U)(c:Int)(j:Nat):Int:=if 0<=c/\c<(l.length/14:Nat)then nI l (c.toNat*14+j)else 0
def FY(l:List U)(X:U)(p:Int)(n:Nat):List Int:=(List.range n).flatMap fun i=>
 let k:=eO l (oI X i 1) 1;let m:=eO l (oI X i 1) 7
 if oI X i 2==p && !((cX X 0).toL.getD (i*12+9) (.bool false)).toB&&k==1&&decide (0<=m)&&decide (m<4)&&(bh X (4*p.toNat+2)).contains (oI X i 0)then [oI X i 0,m] else []
def Dk:List Int->List Int
 |a::_::l=>a::Dk l
 |_=>[]
def aai(X:U)(p:Int):Bool:=dG 0 p 1&&ti X
def EW:List Int->List Int
 |_::b::l=>b::EW l
 |_=>[]
def aEP(m:List Int)(c:Int):List Int:=m.set c.toNat (min 99 (m.getD c.toNat 0+1))
def aEQ(l:List U)(X:U)(p:Int)(n:Nat):List Int:=((EW (FY l X p (aK X))).take n).foldl aEP ((List.range 4).map fun k=>iX X (2+14*p.toNat+k))
def L9(l:List U)(X:U)(k:Int):Int:=
 let c:=oI X (bC X k (aK X)).toNat 1
 if eO l c 1==1&&decide (0<=eO l c 7)&&decide (eO l c 7<4)then eO l c 7 else -1
def aHX(l:List U)(X:U)(p:Int)(n:Nat):List Int:=((bh X (4*p.toNat+2)).take n).filter fun k=>decide (0<=L9 l X k) && !((cX X 0).toL.getD ((bC X k (aK X)).toNat*12+9) (.bool false)).toB
def uF(l:List U)(n:Nat):Bool:=(List.range n).all fun i=>decide ((l.getD (i*2+1) (.int 0)).toL.length/5<=5)
def uE(e t:List U):Bool:=decide (e.length/5<=5)&&decide (t.length/2<=3)&&uF t (t.length/2)
def Ep(l:List U)(n:Nat):Bool:=(List.range n).all fun i=>uE (l.getD (i*14+11) (.int 0)).toL (l.getD (i*14+12) (.int 0)).toL
def gM(a:U):Nat->Int | 0=>a.fst.toI | n+1=>gM a.snd n
def aZ(a:U)(i:Nat):U:=match i with | 0=>a.fst | n+1=>aZ a.snd n
abbrev Pu:=List Int×List Int×List Int
def okC(k c:Int):Bool:=decide (k<0)||c==k
def Dx(k:Int):List Int->Nat->Int
 |_::c::l,i=>if okC k c then(i:Nat)else Dx k l (i+1)
 |_,_=>-1
def aJF(i:Nat)(s:Pu):Pu:=(s.1,s.2.1.take (2*i)++s.2.1.drop (2*i+2),s.2.2++[s.2.1.getD (2*i) 0])
def NR(k:Int)(s:Pu):Option Pu:=if 0<=Dx k s.2.1 0 then some (aJF (Dx k s.2.1 0).toNat s)else none
def Zo(b:Nat)(s:Pu):Pu:=(s.1.set b (s.1.getD b 0-1),s.2)
def adz(k:Nat)(s:Pu):Option Pu:=if 0<s.1.getD k 0 then some (Zo k s)else NR k s
def YH(m:List Int):Nat:=[1,2,3].foldl (fun b k=>if m.getD b 0<m.getD k 0 then k else b) 0
def aFk(s:Pu):Option Pu:=if 0<s.1.getD (YH s.1) 0 then some (Zo (YH s.1) s)else NR (-1) s
def y5(f:Pu->Option Pu):Nat->Pu->Option Pu
 |0,s=>some s
 |n+1,s=>(y5 f n s).bind f
def adA(c:List Int):Nat->Pu->Option Pu
 |0,s=>some s
 |k+1,s=>(adA c k s).bind (y5 (adz k) (bb (c.getD k 0).toNat))
def Nz(k:Nat):Pu->Option Pu:=if k<4 then adz k else aFk
def oR(c:List Int)(k n:Nat)(s:Pu):Option Pu:=(adA c k s).bind (y5 (Nz k) n)
def adY(l:List U)(X:U)(p:Int):Pu:=((List.range 4).map (fun k=>iX X (2+14*p.toNat+k)),FY l X p (aK X),[])
def jj(a:U):List Int:=[gM a 0,gM a 1,gM a 2,gM a 3]
def skip(n:Nat)(a:U):U:=match n with | 0=>a | n+1=>(skip n a).snd
def zO(a:U):Pu:=(jj a,bA (aZ a 4),bA (aZ a 5))
def oU(a:U):Pu:=adY (aZ a 0).toL (aZ a 1) (aZ a 2).toI
def aCG(c:List Int)(any:Int):Bool:=(c.all fun x=>dG 0 x 20)&&dG 0 any 20
def fw(a b:List U):Bool:=a.length/5==b.length/5&&U.eqs (a.take (a.length/5*5)) (b.take (b.length/5*5))
def gZ(j:Nat)(a b:U):Bool:=if j==29||j==30 then fw a.toL b.toL else if [0,6,7,8,9,20,21,22,23,31,32].contains j then U.eq a b else if [10,11,12,24,25,26].contains j then a.toB==b.toB else a.toI==b.toI
def aF0(Y X:U):Bool:=(List.range 38).all fun j=>gZ j (cX Y j) (cX X j)
def aDj(l:List U)(X:U)(k:Int)(x:List Int):Int:=(x.find? fun id=>L9 l X id==k).getD 0
def ep:U->Bool
 |.bx _ _ _ _=>true
 |.lst _=>true
 |_=>false
def gn(l:List U):Bool:=(List.range l.length).all fun i=>!(i%5==4)||ep (l.getD i (.int 0))
def uq(X:U):Bool:=X.toL.length==38&&[0,6,7,8,9,20,21,22,23,29,30,31,32].all (fun j=>ep (cX X j))&&(gn (cX X 29).toL&&gn (cX X 30).toL)
def zV(Y X:U):Bool:=(List.range 38).all fun j=>if j==0 then true else if j==29||j==30 then fw (cX Y j).toL (cX X j).toL&&(ep (cX Y j)&&gn (cX Y j).toL)else U.eq (cX Y j) (cX X j)
def Gu(L:List Int)(n:Nat)(l:List U):List U:=
 (List.range l.length).map fun j=>if j%12==9&&decide (j/12<n)&&L.contains (l.getD (j/12*12) (.int 0)).toI then .bool true else l.getD j (.int 0)
def afJ(Y X:U)(p:Nat)(m:List Int):Bool:=(List.range 38).all fun j=>
 if j==0 then true
 else if j==29||j==30 then fw (cX Y j).toL (cX X j).toL&&(ep (cX Y j)&&gn (cX Y j).toL)
 else if decide (2+14*p<=j)&&decide (j<6+14*p)then iX Y j==m.getD (j-(2+14*p)) 0 else U.eq (cX Y j) (cX X j)
def adv(Y X:U)(p:Nat)(L m:List Int):Bool:=U.eqs (cX Y 0).toL (Gu L (aK X) (cX X 0).toL)&&afJ Y X p m
def aeR:List Int->Bool
 |a::b::l=>decide (a<=b)&&aeR (b::l)
 |_=>true
def aCb(l:List Int)(x:Int)(i j:Nat):Bool:=((l.take i).all fun y=>decide (y<x))&&((l.drop j).all fun y=>decide (x<=y))
def fL:List Nat:=[1,2,3,4,5,10,11,12,13,14,15,16,17,18,19,24,25,26,27,28,33,34,35,36,37]
def g9:List Nat:=[0,6,7,8,9,20,21,22,23,29,30,31,32]
def oZ(W Y:U)(l:Nat->U):Bool:=(List.range 38).all fun j=>match g9.idxOf? j with
 |some i=>if j==29||j==30 then fw (cX W j).toL (l i).toL else U.eqs (cX W j).toL (l i).toL
 |none=>gZ j (cX W j) (cX Y (fL.idxOf j))
def afK(Y X:U)(p:Nat)(m:List Int):Bool:=(List.range 25).all fun k=>let j:=fL.getD k 0
 if decide (2+14*p<=j)&&decide (j<6+14*p)then iX Y k==m.getD (j-(2+14*p)) 0 else U.eq (cX Y k) (cX X j)
def Cy(x y:Int):Int:=IntKind.i64.wrap ((BitVec.ofInt IntKind.i64.bits x &&& BitVec.ofInt IntKind.i64.bits y).toNat:Nat)
def ov(l:List U)(c k:Int):Bool:=Cy (eO l c 10) k==k
def Lz(l:List U)(c:Int):Bool:=c == -1||eO l c 1==2
def aCJ(l:List U)(X:U)(p:Int)(i:Nat):Bool:=oI X i 2==p&&Lz l (oI X i 1)&&(bh X (4*p.toNat+2)).contains (oI X i 0)
def yi(l:List U)(X:U)(p:Int)(n:Nat):List Int:=((List.range n).filter (aCJ l X p)).map fun i=>oI X i 0
def aCK(l:List U)(X:U)(p:Int)(n:Nat):List Int:=((bh X (4*p.toNat+2)).take n).filter fun k=>Lz l (oI X (bC X k (aK X)).toNat 1)
def aHY(l:List U):Bool:=(List.range (l.length/12)).all fun q=>decide (1<=nI l (q*12))&&decide (nI l (q*12)<=500)&&(decide (l.length/12<=q+1)||decide (nI l (q*12)<nI l ((q+1)*12)))
def aCa(l:List U)(x:Int)(i j:Nat):Bool:=(List.range (l.length/12)).all fun q=>(decide (i<=q)||decide (nI l (q*12)<x))&&(decide (q<j)||decide (x<=nI l (q*12)))
def aDy(l:List U)(x y:Int)(n:Nat):Bool:=(List.range n).any fun q=>nI l (q*2)==x&&nI l (q*2+1)==y
def ug(l:List U)(j:Nat)(x:Int)(n:Nat):Bool:=(List.range n).any fun q=>nI l (q*2+j)==x
def YL(l:List U)(X:U)(x y:Int):Bool:=
 let i:=(bC X x (aK X)).toNat;let j:=(bC X y (aK X)).toNat
 !((cX X 0).toL.getD (i*12+9) (.bool false)).toB && !(ug (cX X 32).toL 0 x (bc X)) && !(ug (cX X 32).toL 1 y (bc X)) && !(ov l (oI X j 1) 2 && !(ov l (oI X i 1) 2))
def J3(l:List U)(X:U)(B A:List Int)(n m:Nat):List Int:=
 ((B.take n).flatMap fun x=>A.flatMap fun y=>if YL l X x y then [x,y] else [])++((B.drop n).take 1).flatMap fun x=>(A.take m).flatMap fun y=>if YL l X x y then [x,y] else []
def aED(l:List U)(X:U)(x y:Int):Bool:=
 let B:=yi l X (1-bI X) (aK X);let L:=J3 l X B (f9 (aC X)) B.length 0
 (List.range (L.length/2)).any fun q=>L.getD (q*2) 0==x&&L.getD (q*2+1) 0==y
def FO(l:List Nat)(Y X:U):Bool:=l.all fun k=>if k==29||k==30 then fw (cX Y k).toL (cX X k).toL&&(ep (cX Y k)&&gn (cX Y k).toL)else U.eq (cX Y k) (cX X k)
def aE5(Y X:U):Bool:=(List.range 25).all fun k=>U.eq (cX Y k) (cX X (fL.getD k 0))
def xX(l:List U)(X:U)(k:Int):Bool:=
 let i:=(bC X k (aK X)).toNat
 !((cX X 0).toL.getD (i*12+9) (.bool false)).toB && !((aC X).contains k)&&(!((cX X 0).toL.getD (i*12+10) (.bool false)).toB||ov l (oI X i 1) 1)
def YE(l:List U)(X:U):List Int:=(yi l X (bI X) (aK X)).filter (xX l X)
def fI(a b:Int):Int:=min 99 (max 0 (min a 99)+max 0 (min b 99))
def oS(l:List U)(c p k q:Int):Int:=fI (fI (if c=-1 then p else eO l c 8) k) q
def f6(k:Int):List (Int×Int×Bool)->Option (Int×Bool)
 |[]=>none
 |p::l=>if p.1=k then some p.2 else f6 k l
def s5(k:Int)(v:Int×Bool):List (Int×Int×Bool)->List (Int×Int×Bool)
 |[]=>[(k,v)]
 |p::l=>if p.1=k then(k,v)::l else p::s5 k v l
def ou:U->Bool
 |.lst [.int _,.lst [.int _,.bool _]]=>true
 |_=>false
def qC(u:U):Int×Int×Bool:=(u.fst.toI,(cX u.snd 0).toI,(cX u.snd 1).toB)
def lH(l:List U)(X:U)(k:Int):Int×Bool:=
 let i:=(bC X k (aK X)).toNat;let n:=oS l (oI X i 1) (oI X i 3) (oI X i 6) (oI X i 7)
 (n,decide (0<n)&&ov l (oI X i 1) 8)
def fX(l:List U)(X:U):Nat->List (Int×Int×Bool)
 |0=>[]
 |n+1=>s5 (blk X n 1) (lH l X (blk X n 0)) (s5 (blk X n 0) (lH l X (blk X n 1)) (fX l X n))
def sZ(l:List U)(X:U)(k:Int):Int:=let i:=(bC X k (aK X)).toNat;oS l (oI X i 1) (oI X i 3) (oI X i 6) (oI X i 7)
def iT(l:List U)(X:U):Nat->Int
 |0=>iX X (1+14*(1-bI X))
 |n+1=>let k:=(aC X).getD n 0;if(cT X (bc X) 1).contains k then iT l X n else max 0 (iT l X n-sZ l X k)
def pO(j:Nat)(v:U):Option (Int×Bool)->U
 |some b=>if j%12==5 then .int (fI v.toI b.1)else if j%12==11 then .bool (v.toB||b.2)else v
 |none=>v
def jg(f:Nat->Option (Int×Bool))(L:List U):List U:=(List.range L.length).map fun j=>pO j (L.getD j (.int 0)) (f (j/12))
def iq(l:List U)(X:U)(n:Nat):List U:=jg (fun q=>if q<n then f6 (oI X q 0) (fX l X (bc X))else none) (cX X 0).toL
def kz(q:Nat)(b:Int×Bool)(L:List U):List U:=(L.set (q*12+5) (.int (fI (nI L (q*12+5)) b.1))).set (q*12+11) (.bool ((L.getD (q*12+11) (.int 0)).toB||b.2))
def aCP(a:U):Int×Bool:=let n:=oS a.fst.toL (aZ a 1).toI (aZ a 2).toI (aZ a 3).toI a.snd.snd.snd.snd.toI;(n,decide (0<n)&&ov a.fst.toL (aZ a 1).toI 8)
def pz(X:U)(k:Int):Int:=match (List.range (bc X)).find? fun i=>blk X i 1==k with | some i=>blk X i 0 | none=>0
def kF(l:List U)(X:U):Nat->List U
 |0=>(cX X 0).toL
 |n+1=>let k:=(aC X).getD n 0;let c:=pz X k
  if c=0 then kF l X n else kz (bC X k (aK X)).toNat (lH l X c) (kz (bC X c (aK X)).toNat (lH l X k) (kF l X n))
def GH(W:U)(l:List U)(X:U):Bool:=(List.range 38).all fun j=>
 if j==0 then U.eqs (cX W 0).toL (kF l X (aC X).length)
 else if j==31||j==32 then(cX W j).toL.isEmpty
 else if j==29||j==30 then fw (cX W j).toL (cX X j).toL&&(ep (cX W j)&&gn (cX W j).toL)
 else if j==1+14*(1-bI X)then iX W j==iT l X (aC X).length
 else U.eq (cX W j) (cX X j)
def ER(Y:U)(l:List U)(X:U):Bool:=(List.range 25).all fun k=>let j:=fL.getD k 0
 if j==1+14*(1-bI X)then iX Y k==iT l X (aC X).length else U.eq (cX Y k) (cX X j)
def kJ(x:Int):Bool:=decide (-9223372036854775808<=x/\x<=9223372036854775807)
def aFg(f:Nat)(a:U):U:=
 match f with
 |101=>.bool (ue a.fst.toL (bb a.snd.toI.toNat))
 |102=>.bool (kK a.fst.toI a.snd.fst.toI a.snd.snd.fst.toI a.snd.snd.snd.fst.toI a.snd.snd.snd.snd.fst.toL a.snd.snd.snd.snd.snd.toB)
 |103=>.bool (pU a.fst.toL a.snd.fst.toB (bb a.snd.snd.toI.toNat))
 |104=>.bool (iV a.fst.toL (fP a.snd.fst (bb (a.snd.snd.fst.toI.toNat*4+a.snd.snd.snd.fst.toI.toNat)) (bb a.snd.snd.snd.snd.toI.toNat)))
 |105=>.bool (iV a.fst.toL (fP a.snd.fst 8 0++i4 a.snd.fst (bb a.snd.snd.toI.toNat)))
 |106=>.bool (iV a.fst.toL (hE a.snd.fst (bb a.snd.snd.toI.toNat)))
 |107=>.bool (qi a.fst (bb a.snd.toI.toNat))
 |108=>.bool (dI a)
 |109=>.bool (bA a.fst==bh a.snd.fst (a.snd.snd.fst.toI.toNat*4+a.snd.snd.snd.toI.toNat))
 |110=>.bool (gW a)
 |111=>.bool (jE a.fst (bb a.snd.toI.toNat))
 |112=>.bool (kw a.fst (bb a.snd.toI.toNat))
 |113=>.bool (jq a.snd.fst a.fst.toL (bb a.snd.snd.fst.toI.toNat) (bb a.snd.snd.snd.toI.toNat))
 |114=>.bool ((bA a.fst).contains a.snd.toI)
 |115=>.bool (iI a)
 |116=>.bool (uq a)
 |117=>.bool (iE a)
 |118=>.bool (na a.fst a.snd.toI.toNat)
 |120=>.int (bC a.fst a.snd.fst.toI (bb a.snd.snd.toI.toNat))
 |121=>.int ((bA a.fst).count a.snd.toI:Nat)
 |122=>.int (qm a.fst a.snd.fst.toI.toNat a.snd.snd.toI:Nat)
 |123=>.bool (wb a.fst (bb a.snd.toI.toNat))
 |124=>.bool (vv a.fst (bb a.snd.toI.toNat))
 |125=>.bool (sq a)
 |126=>.bool (rR a.fst (bb a.snd.toI.toNat))
 |127=>.bool (uo a.fst (bb a.snd.toI.toNat))
 |128=>.bool (ul a.fst (bb a.snd.fst.toI.toNat) (bb a.snd.snd.toI.toNat))
 |129=>.bool (sg a)
 |130=>.bool (ti a)
 |131=>.int ((((bA a.fst).take (bb a.snd.snd.toI.toNat)).count a.snd.fst.toI:Nat))
 |132=>.int (rY a.fst a.snd.fst.toI.toNat (bb a.snd.snd.fst.toI.toNat) a.snd.snd.snd.toI:Nat)
 |133=>.int (pE a.fst a.snd.fst.toI a.snd.snd.fst.toI (bb a.snd.snd.snd.toI.toNat):Nat)
 |134=>.int ((((List.range (bb a.snd.toI.toNat)).map fun z=>(bh a.fst z).length).sum:Nat))
 |135=>.int (((hF a.fst (bb a.snd.toI.toNat)).length:Nat))
 |136=>.bool ((aC a.fst).count (blk a.fst (bb a.snd.toI.toNat) 1)==1&&(fD a.fst).count (blk a.fst (bb a.snd.toI.toNat) 0)==1)
 |137=>.bool (Mv (gM a 0) (gM a 1) (gM a 2) (gM a 3) (gM a 4) (gM a 5) (gM a 6) (gM a 7) a.snd.snd.snd.snd.snd.snd.snd.snd.toI)
 |141=>.int (eO a.fst.toL a.snd.toI 1)
 |142=>.int (eO a.fst.toL a.snd.toI 7)
 |143=>.bool (bA a.fst==FY a.snd.fst.toL a.snd.snd.fst a.snd.snd.snd.fst.toI (bb a.snd.snd.snd.snd.toI.toNat))
 |144=>.bool (bA a.fst==Dk (FY a.snd.fst.toL a.snd.snd.fst a.snd.snd.snd.toI (aK a.snd.snd.fst)))
 |145=>.bool (aai a.fst a.snd.toI)
 |146=>.bool ([0,1,2,3].all (fun k=>dG 0 (gM a k) 20)&&dG 0 (a.snd.snd.snd.snd.toI) 20)
 |147=>.bool ([gM a 0,gM a 1,gM a 2,gM a 3]==(let a:=a.snd.snd.snd.snd;aEQ a.fst.toL a.snd.fst a.snd.snd.fst.toI (bb a.snd.snd.snd.toI.toNat)))
 |148=>.bool (bA a.fst==(Dk (bA a.snd.fst)).take (bb a.snd.snd.toI.toNat))
 |150=>.int (L9 a.fst.toL a.snd.fst a.snd.snd.toI)
 |151=>.bool (bA a.fst==aHX a.snd.fst.toL a.snd.snd.fst a.snd.snd.snd.fst.toI (bb a.snd.snd.snd.snd.toI.toNat))
 |152=>.bool (bA a.fst==f9 ((bA a.snd.fst).take (bb a.snd.snd.toI.toNat)))
 |153=>.bool ((bA a.fst).all fun k=>decide (0<=bC a.snd k (aK a.snd)))
 |155=>.bool (Ep a.fst.toL (bb a.snd.toI.toNat))
 |156=>.bool (uE a.fst.toL a.snd.toL)
 |157=>.bool (uF a.fst.toL (bb a.snd.toI.toNat))
 |158=>.bool (ga a.fst.toL (bb a.snd.toI.toNat))
 |159=>.bool ((List.range 8).all fun z=>decide ((bh a z).length<=40))
 |160=>.bool (((bA a.fst).take (bb a.snd.snd.toI.toNat)).all fun x=>decide (x<a.snd.fst.toI))
 |161=>.bool ((bA a.fst).take (bb a.snd.snd.toI.toNat)==(bA a.snd.fst).take (bb a.snd.snd.toI.toNat))
 |170=>.bool ((y5 (Nz (aZ a 6).toI.toNat) (bb (aZ a 7).toI.toNat) (zO (skip 8 a))).any fun s=>s==zO a)
 |171=>.bool ((y5 (Nz (aZ a 0).toI.toNat) (bb (aZ a 1).toI.toNat) (zO (skip 2 a))).isNone)
 |174=>.bool ((NR (aZ a 2).toI ([],bA (aZ a 3),bA (aZ a 4))).any fun s=>s==([],bA (aZ a 0),bA (aZ a 1)))
 |175=>.int (Dx a.fst.toI ((bA a.snd.fst).take (2*bb a.snd.snd.toI.toNat)) 0)
 |176=>.bool ((oR (jj (skip 8 a)) (bb (aZ a 6).toI.toNat) (bb (aZ a 7).toI.toNat) (oU (skip 12 a))).any fun s=>s==zO a)
 |177=>.bool ((oR (jj (skip 2 a)) (bb (aZ a 0).toI.toNat) (bb (aZ a 1).toI.toNat) (oU (skip 6 a))).isNone)
 |178=>.bool ((oR (jj (skip 8 a)) (bb (aZ a 6).toI.toNat) (bb (aZ a 7).toI.toNat) (oU (skip 12 a))).any fun s=>(s.1,Dk s.2.1,s.2.2)==zO a)
 |179=>.int (aDj (aZ a 2).toL (aZ a 3) (aZ a 1).toI (bA (aZ a 0)))
 |181=>.bool (U.eqs (a.fst.toL.take (bb a.snd.snd.toI.toNat)) (a.snd.fst.toL.take (bb a.snd.snd.toI.toNat)))
 |182=>.bool (aai (aZ a 6) (aZ a 7).toI&&aCG (jj a) (aZ a 4).toI&&(oR (jj a) 4 (bb (aZ a 4).toI.toNat) (oU (skip 5 a))).isSome)
 |183=>.bool ((oR (jj (skip 5 a)) 4 (bb (aZ a 9).toI.toNat) (oU (skip 10 a))).any fun s=>s.1==jj a&&f9 s.2.2==bA (aZ a 4))
 |185=>.bool ((jj a).getD (aZ a 4).toI.toNat 0==0)
 |186=>.bool (bA a.fst==(bA a.snd.fst).take (2*bb a.snd.snd.toI.toNat)++(bA a.snd.fst).drop (2*bb a.snd.snd.toI.toNat+2))
 |188=>.bool ((jj a).all fun x=>dG 0 x 99)
 |187=>.bool (fw a.fst.toL a.snd.toL)
 |189=>.bool (aF0 a.fst a.snd)
 |190=>.bool (gn a.toL)
 |200=>.bool (U.eqs a.fst.toL a.snd.toL)
 |201=>.bool (ep a)
 |199=>.bool ((oR (jj (skip 2 a)) 4 (bb (aZ a 6).toI.toNat) (oU (skip 7 a))).any fun s=>f9 s.2.2==bA (aZ a 1)&&afJ a.fst (aZ a 8) (aZ a 9).toI.toNat s.1)
 |198=>.bool ((oR (jj (skip 1 a)) 4 (bb (aZ a 5).toI.toNat) (oU (skip 6 a))).any fun s=>adv a.fst (aZ a 7) (aZ a 8).toI.toNat (f9 s.2.2) s.1)
 |196=>.bool (zV a.fst a.snd)
 |195=>.bool (ep a&&gn a.toL)
 |191=>.bool (U.eqs a.fst.toL (Gu (bA (aZ a 2)) (bb a.snd.snd.snd.toI.toNat) (aZ a 1).toL))
 |193=>.bool (aeR (bA a))
 |194=>.bool (aCb (bA a.fst) (aZ a 1).toI (bb (aZ a 2).toI.toNat) (bb a.snd.snd.snd.toI.toNat))
 |184=>.bool (bA a.fst==((bA a.snd.fst).take (bb a.snd.snd.snd.toI.toNat)).filter fun x=>!(x==a.snd.snd.fst.toI))
 |220=>.bool (U.eqs a.fst.toL (Gu ((bA (aZ a 2)).take (bb a.snd.snd.snd.toI.toNat)) ((aZ a 1).toL.length/12) (aZ a 1).toL))
 |221=>.bool (oZ a.fst a.snd.fst fun i=>aZ a (2+i))
 |229=>.bool (aDy a.fst.toL a.snd.fst.toI a.snd.snd.fst.toI (bb a.snd.snd.snd.toI.toNat))
 |230=>.bool (ug a.fst.toL 1 a.snd.fst.toI (bb a.snd.snd.toI.toNat))
 |231=>.bool (ug a.fst.toL 0 a.snd.fst.toI (bb a.snd.snd.toI.toNat))
 |232=>.bool (bA a.fst==(let C:=a.snd.fst.toL;let X:=a.snd.snd;let p:=1-bI X;let B:=yi C X p (aK X);J3 C X B (f9 (aC X)) B.length 0))
 |233=>.bool (U.eqs a.fst.toL (a.snd.fst.toL++[a.snd.snd.fst,a.snd.snd.snd]))
 |234=>.bool (aED a.fst.toL a.snd.fst a.snd.snd.fst.toI a.snd.snd.snd.toI)
 |235=>.bool (FO ((List.range 38).filter fun k=>!(k==a.snd.snd.toI.toNat)) a.fst a.snd.fst)
 |238=>.bool (FO (List.range 32) a.fst a.snd)
 |236=>.bool (aE5 a.fst a.snd)
 |237=>.bool (bA a.fst==bA a.snd)
 |239=>.bool (xX a.fst.toL a.snd.fst a.snd.snd.toI)
 |241=>.bool (bA a.fst==YE a.snd.fst.toL a.snd.snd)
 |242=>.bool (bA a.fst==((bA (aZ a 1)).take (bb a.snd.snd.snd.snd.toI.toNat)).filter (xX (aZ a 2).toL (aZ a 3)))
 |243=>.bool (let i:=bb (aZ a 3).toI.toNat;let j:=bb a.snd.snd.snd.snd.toI.toNat;let B:=yi (aZ a 1).toL (aZ a 2) (bI (aZ a 2)) (aK (aZ a 2));(bA a.fst).take i==(B.take j).filter (xX (aZ a 1).toL (aZ a 2))&&(bA a.fst).drop j==B.drop j)
 |244=>.bool (((bA a.fst).take (bb a.snd.snd.snd.toI.toNat)).all (xX a.snd.fst.toL a.snd.snd.fst))
 |246=>.bool ((YE a.fst.toL a.snd.fst).contains a.snd.snd.toI)
 |247=>.bool (let X:=a.snd.fst;let k:=a.snd.snd.snd.toI;let i:=(bC X k (aK X)).toNat;U.eqs a.fst.toL ((cX X 0).toL.set (i*12+9) (.bool (!(ov a.snd.snd.fst.toL (oI X i 1) 4)))))
 |248=>.bool (U.eqs a.fst.toL (a.snd.fst.toL++[a.snd.snd]))
 |249=>.bool (FO ((List.range 30).map fun k=>k+1) a.fst a.snd)
 |250=>.bool (FO ((List.range 38).filter fun k=>!(k==0||k==31)) a.fst a.snd)
 |251=>.int (oS a.fst.toL a.snd.fst.toI a.snd.snd.fst.toI a.snd.snd.snd.fst.toI a.snd.snd.snd.snd.toI)
 |252=>.int (fI a.fst.toI a.snd.toI)
 |253=>.bool (a.fst.toL.all ou&&a.fst.toL.map qC==fX a.snd.fst.toL a.snd.snd.fst (bb a.snd.snd.snd.toI.toNat))
 |254=>.int (iT a.fst.toL a.snd.fst (bb a.snd.snd.toI.toNat))
 |255=>.bool (U.eqs a.fst.toL (iq a.snd.fst.toL a.snd.snd.fst (bb a.snd.snd.snd.toI.toNat)))
 |256=>.bool (ER a.fst a.snd.fst.toL a.snd.snd)
 |257=>.bool (U.eqs a.fst.toL (kF a.snd.fst.toL a.snd.snd.fst (bb a.snd.snd.snd.toI.toNat)))
 |258=>.int (pz a.fst a.snd.toI)
 |259=>.bool (GH a.fst a.snd.fst.toL a.snd.snd)
 |260=>.bool (U.eqs a.fst.toL (kz (aZ a 2).toI.toNat (aCP a.snd.snd.snd) (aZ a 1).toL))
 |261=>.bool ((List.range (a.toL.length/14)).all fun i=>kJ (nI a.toL (i*14+8)))
 |262=>.bool (kJ a.fst.toI&&kJ a.snd.fst.toI&&kJ a.snd.snd.toI)
 |228=>.bool (aHY a.toL)
 |222=>.bool (ov a.fst.toL a.snd.fst.toI a.snd.snd.toI)
 |223=>.bool (Lz a.fst.toL a.snd.toI)
 |224=>.bool (bA a.fst==yi a.snd.fst.toL a.snd.snd.fst a.snd.snd.snd.fst.toI (bb a.snd.snd.snd.snd.toI.toNat))
 |225=>.bool (bA a.fst==aCK a.snd.fst.toL a.snd.snd.fst a.snd.snd.snd.fst.toI (bb a.snd.snd.snd.snd.toI.toNat))
 |226=>.bool (aCa a.fst.toL a.snd.fst.toI (bb a.snd.snd.fst.toI.toNat) (bb a.snd.snd.snd.toI.toNat))
 |227=>.bool (bA a.fst==J3 (aZ a 1).toL (aZ a 2) (bA (aZ a 3)) (bA (aZ a 4)) (bb (aZ a 5).toI.toNat) (bb a.snd.snd.snd.snd.snd.snd.toI.toNat))
 |218=>.bool ((oR (jj (skip 2 a)) 4 (bb (aZ a 6).toI.toNat) (oU (skip 7 a))).any fun s=>f9 s.2.2==bA (aZ a 1)&&afK a.fst (aZ a 8) (aZ a 9).toI.toNat s.1)
 |219=>.bool ((oR (jj (skip 2 a)) 4 (bb (aZ a 6).toI.toNat) (oU (skip 7 a))).any fun s=>U.eqs (aZ a 1).toL (Gu (f9 s.2.2) (aK (aZ a 8)) (cX (aZ a 8) 0).toL)&&afK a.fst (aZ a 8) (aZ a 9).toI.toNat s.1)
 |_=>.int 0
end Go.SX

namespace Go.SX
noncomputable section
inductive T (G:Type) where
 |nil
 |node (v:G) (l r:T G)
 deriving Inhabited
noncomputable def T.get{G:Type}(t:T G):Nat->Option G:=
 T.rec (motive:=fun _=>Nat->Option G) (fun _=>none) (fun v _ _ gl gr n=>
  Nat.rec (some v) (fun n _=>Bool.rec (gr (Nat.div n 2)) (gl (Nat.div n 2)) (Nat.beq (Nat.mod n 2) 0)) n) t
noncomputable def T.set{G:Type}(t:T G):Nat->G->T G:=
 T.rec (motive:=fun _=>Nat->G->T G) (fun _ _=>T.nil) (fun v l r sl sr n x=>
  Nat.rec (T.node x l r) (fun n _=>Bool.rec (T.node v l (sr (Nat.div n 2) x)) (T.node v (sl (Nat.div n 2) x) r) (Nat.beq (Nat.mod n 2) 0)) n) t
noncomputable def T.setK{G Z:Type}(t:T G):Nat->G->(T G->Z)->Z:=
 T.rec (motive:=fun _=>Nat->G->(T G->Z)->Z) (fun _ _ k=>k T.nil) (fun v l r sl sr n x k=>
  Nat.rec (k (T.node x l r)) (fun n _=>Bool.rec (sr (Nat.div n 2) x fun r'=>k (T.node v l r')) (sl (Nat.div n 2) x fun l'=>k (T.node v l' r)) (Nat.beq (Nat.mod n 2) 0)) n) t
noncomputable def T.ins{G:Type}(t:T G):Nat->G->T G:=
 T.rec (motive:=fun _=>Nat->G->T G) (fun n x=>Nat.rec (T.node x T.nil T.nil) (fun _ _=>T.nil) n) (fun v l r sl sr n x=>
  Nat.rec (T.node x l r) (fun n _=>Bool.rec (T.node v l (sr (Nat.div n 2) x)) (T.node v (sl (Nat.div n 2) x) r) (Nat.beq (Nat.mod n 2) 0)) n) t
noncomputable def T.insK{G Z:Type}(t:T G):Nat->G->(T G->Z)->Z:=
 T.rec (motive:=fun _=>Nat->G->(T G->Z)->Z) (fun n x k=>Nat.rec (k (T.node x T.nil T.nil)) (fun _ _=>k T.nil) n) (fun v l r sl sr n x k=>
  Nat.rec (k (T.node x l r)) (fun n _=>Bool.rec (sr (Nat.div n 2) x fun r'=>k (T.node v l r')) (sl (Nat.div n 2) x fun l'=>k (T.node v l' r)) (Nat.beq (Nat.mod n 2) 0)) n) t
noncomputable def T.all{G:Type}(p:G->Bool)(t:T G):Bool:=
 T.rec (motive:=fun _=>Bool) true (fun v _ _ a b=>Bool.rec false (Bool.rec false b a) (p v)) t
noncomputable def T.fill{G:Type}(v:G)(d:Nat):Nat->T G:=
 Nat.rec (motive:=fun _=>Nat->T G) (fun _=>T.nil) (fun _ ih n=>Nat.rec T.nil (fun m _=>T.node v (ih (Nat.div (Nat.succ m) 2)) (ih (Nat.div m 2))) n) d
noncomputable def T.putsK{G Z:Type}(l:List G):Nat->T G->(T G->Z)->Z:=
 List.rec (motive:=fun _=>Nat->T G->(T G->Z)->Z) (fun _ t k=>k t) (fun x _ ih n t k=>T.setK t n x fun t'=>ih (Nat.succ n) t' k) l
noncomputable def T.addsK{G Z:Type}(l:List G):Nat->T G->(T G->Z)->Z:=
 List.rec (motive:=fun _=>Nat->T G->(T G->Z)->Z) (fun _ t k=>k t) (fun x _ ih n t k=>T.insK t n x fun t'=>ih (Nat.succ n) t' k) l
def sn(f:Nat)(a:U):U:=match Nat.blt f 100 with | true=>wa f a | false=>aFg f a
inductive E where
 |int (n:Int) | bool (b:Bool) | str (s:ByteArray) | var (i:Nat)
 |ar (o:BinOp) (k:IntKind) (a b:E)
 |cmp (o:BinOp) (a b:E)
 |mn (a b:E) | mx (a b:E)
 |wr (k:IntKind) (a:E)
 |not (a:E) | and (a b:E) | seq (a b:E) | iff (a b:E) | imp (a b:E)
 |fn (f:Nat) (a:E) | pr (a b:E)
 deriving Inhabited
def mz(o:BinOp)(k:IntKind)(x y:Int):Int:=
 match o with
 |.add=>k.wrap (x+y)
 |.sub=>k.wrap (x-y)
 |.mul=>k.wrap (x*y)
 |.quo=>k.wrap (x.tdiv y)
 |.rem=>x.tmod y
 |.and=>k.wrap (BitVec.ofInt k.bits x &&& BitVec.ofInt k.bits y).toNat
 |.or=>k.wrap (BitVec.ofInt k.bits x ||| BitVec.ofInt k.bits y).toNat
 |.xor=>k.wrap (BitVec.ofInt k.bits x ^^^ BitVec.ofInt k.bits y).toNat
 |.andNot=>k.wrap (BitVec.ofInt k.bits x &&& ~~~BitVec.ofInt k.bits y).toNat
 |.shl=>k.wrap (x*2^(min y.toNat k.bits))
 |.shr=>x.fdiv (2^(min y.toNat k.bits))
 |_=>0
def cK(o:BinOp)(x y:Int):Bool:=
 match o with
 |.eql=>x==y
 |.neq=>x != y
 |.lss=>decide (x<y)
 |.leq=>decide (x<=y)
 |.gtr=>decide (x>y)
 |.geq=>decide (x>=y)
 |_=>false
def n4:List UInt8->List UInt8->Bool
 |[],[]=>true
 |x::xs,y::ys=>match Nat.beq x.toNat y.toNat with | true=>n4 xs ys | false=>false
 |_,_=>false
def kA(a b:ByteArray):Bool:=n4 a.data.toList b.data.toList
def oG(x y:Int):Int:=if y<x then y else x
def lS(x y:Int):Int:=if y>x then y else x
structure Bk where
 blk:Nat
 off:Nat
 alt:Option (Option Addr)
 deriving Inhabited
def Bk.nil(k:Bk):Bool:=k.alt.isSome
def Bk.base(k:Bk):Option Addr:=match k.alt with | some x=>x | none=>some ⟨k.blk,k.off,none⟩
structure Env where
 vs:List U
 bs:List Bk
 fz:Nat->Option Obj
def Env.of(vs:List U):Env:=⟨vs,[],fun _=>none⟩
def E.den(ρ:Env):E->U
 |.int n=>.int n
 |.bool b=>.bool b
 |.str s=>.str s
 |.var i=>ρ.vs.getD i (.int 0)
 |.ar o k a b=>.int (mz o k (a.den ρ).toI (b.den ρ).toI)
 |.cmp o a b=>.bool (cK o (a.den ρ).toI (b.den ρ).toI)
 |.mn a b=>.int (oG (a.den ρ).toI (b.den ρ).toI)
 |.mx a b=>.int (lS (a.den ρ).toI (b.den ρ).toI)
 |.wr k a=>.int (k.wrap (a.den ρ).toI)
 |.not a=>.bool (!(a.den ρ).toB)
 |.and a b=>.bool ((a.den ρ).toB&&(b.den ρ).toB)
 |.seq a b=>.bool (kA (a.den ρ).toS (b.den ρ).toS)
 |.iff a b=>.bool ((a.den ρ).toB==(b.den ρ).toB)
 |.imp a b=>.bool (!(a.den ρ).toB||(b.den ρ).toB)
 |.fn f a=>sn f (a.den ρ)
 |.pr a b=>.lst [a.den ρ,b.den ρ]
def E.I(ρ:Env)(e:E):Int:=(e.den ρ).toI
def E.B(ρ:Env)(e:E):Bool:=(e.den ρ).toB
def E.S(ρ:Env)(e:E):ByteArray:=(e.den ρ).toS
def E.L(ρ:Env)(e:E):List U:=(e.den ρ).toL
def fY:IntKind->IntKind->Bool
 |.i8,.i8 | .i16,.i16 | .i32,.i32 | .i64,.i64 | .u8,.u8 | .u16,.u16 | .u32,.u32 | .u64,.u64=>true
 |_,_=>false
def E1:BinOp->Nat
 |.add=>0 | .sub=>1 | .mul=>2 | .quo=>3 | .rem=>4 | .and=>5 | .or=>6 | .xor=>7 | .shl=>8 | .shr=>9 | .andNot=>10
 |.eql=>11 | .neq=>12 | .lss=>13 | .leq=>14 | .gtr=>15 | .geq=>16
def My(a b:BinOp):Bool:=Nat.beq (E1 a) (E1 b)
def ji:Int->Int->Bool
 |.ofNat a,.ofNat b=>Nat.beq a b
 |.negSucc a,.negSucc b=>Nat.beq a b
 |_,_=>false
def mC:Bool->Bool->Bool
 |true,true=>true
 |false,false=>true
 |_,_=>false
def dU(a b:Bool):Bool:=match a with | true=>b | false=>false
noncomputable def E.on_int(b:E)(f:Int->Bool):Bool:=E.rec (motive:=fun _=>Bool) (fun x0=>f x0) (fun _=>false) (fun _=>false) (fun _=>false) (fun _ _ _ _ _ _=>false) (fun _ _ _ _ _=>false) (fun _ _ _ _=>false) (fun _ _ _ _=>false) (fun _ _ _=>false) (fun _ _=>false) (fun _ _ _ _=>false) (fun _ _ _ _=>false) (fun _ _ _ _=>false) (fun _ _ _ _=>false) (fun _ _ _=>false) (fun _ _ _ _=>false) b
noncomputable def E.on_bool(b:E)(f:Bool->Bool):Bool:=E.rec (motive:=fun _=>Bool) (fun _=>false) (fun x0=>f x0) (fun _=>false) (fun _=>false) (fun _ _ _ _ _ _=>false) (fun _ _ _ _ _=>false) (fun _ _ _ _=>false) (fun _ _ _ _=>false) (fun _ _ _=>false) (fun _ _=>false) (fun _ _ _ _=>false) (fun _ _ _ _=>false) (fun _ _ _ _=>false) (fun _ _ _ _=>false) (fun _ _ _=>false) (fun _ _ _ _=>false) b
noncomputable def E.on_str(b:E)(f:ByteArray->Bool):Bool:=E.rec (motive:=fun _=>Bool) (fun _=>false) (fun _=>false) (fun x0=>f x0) (fun _=>false) (fun _ _ _ _ _ _=>false) (fun _ _ _ _ _=>false) (fun _ _ _ _=>false) (fun _ _ _ _=>false) (fun _ _ _=>false) (fun _ _=>false) (fun _ _ _ _=>false) (fun _ _ _ _=>false) (fun _ _ _ _=>false) (fun _ _ _ _=>false) (fun _ _ _=>false) (fun _ _ _ _=>false) b
noncomputable def E.on_var(b:E)(f:Nat->Bool):Bool:=E.rec (motive:=fun _=>Bool) (fun _=>false) (fun _=>false) (fun _=>false) (fun x0=>f x0) (fun _ _ _ _ _ _=>false) (fun _ _ _ _ _=>false) (fun _ _ _ _=>false) (fun _ _ _ _=>false) (fun _ _ _=>false) (fun _ _=>false) (fun _ _ _ _=>false) (fun _ _ _ _=>false) (fun _ _ _ _=>false) (fun _ _ _ _=>false) (fun _ _ _=>false) (fun _ _ _ _=>false) b
noncomputable def E.on_ar(b:E)(f:BinOp->IntKind->E->E->Bool):Bool:=E.rec (motive:=fun _=>Bool) (fun _=>false) (fun _=>false) (fun _=>false) (fun _=>false) (fun x0 x1 x2 x3 _ _=>f x0 x1 x2 x3) (fun _ _ _ _ _=>false) (fun _ _ _ _=>false) (fun _ _ _ _=>false) (fun _ _ _=>false) (fun _ _=>false) (fun _ _ _ _=>false) (fun _ _ _ _=>false) (fun _ _ _ _=>false) (fun _ _ _ _=>false) (fun _ _ _=>false) (fun _ _ _ _=>false) b
noncomputable def E.on_cmp(b:E)(f:BinOp->E->E->Bool):Bool:=E.rec (motive:=fun _=>Bool) (fun _=>false) (fun _=>false) (fun _=>false) (fun _=>false) (fun _ _ _ _ _ _=>false) (fun x0 x1 x2 _ _=>f x0 x1 x2) (fun _ _ _ _=>false) (fun _ _ _ _=>false) (fun _ _ _=>false) (fun _ _=>false) (fun _ _ _ _=>false) (fun _ _ _ _=>false) (fun _ _ _ _=>false) (fun _ _ _ _=>false) (fun _ _ _=>false) (fun _ _ _ _=>false) b
noncomputable def E.on_mn(b:E)(f:E->E->Bool):Bool:=E.rec (motive:=fun _=>Bool) (fun _=>false) (fun _=>false) (fun _=>false) (fun _=>false) (fun _ _ _ _ _ _=>false) (fun _ _ _ _ _=>false) (fun x0 x1 _ _=>f x0 x1) (fun _ _ _ _=>false) (fun _ _ _=>false) (fun _ _=>false) (fun _ _ _ _=>false) (fun _ _ _ _=>false) (fun _ _ _ _=>false) (fun _ _ _ _=>false) (fun _ _ _=>false) (fun _ _ _ _=>false) b
noncomputable def E.on_mx(b:E)(f:E->E->Bool):Bool:=E.rec (motive:=fun _=>Bool) (fun _=>false) (fun _=>false) (fun _=>false) (fun _=>false) (fun _ _ _ _ _ _=>false) (fun _ _ _ _ _=>false) (fun _ _ _ _=>false) (fun x0 x1 _ _=>f x0 x1) (fun _ _ _=>false) (fun _ _=>false) (fun _ _ _ _=>false) (fun _ _ _ _=>false) (fun _ _ _ _=>false) (fun _ _ _ _=>false) (fun _ _ _=>false) (fun _ _ _ _=>false) b
noncomputable def E.on_wr(b:E)(f:IntKind->E->Bool):Bool:=E.rec (motive:=fun _=>Bool) (fun _=>false) (fun _=>false) (fun _=>false) (fun _=>false) (fun _ _ _ _ _ _=>false) (fun _ _ _ _ _=>false) (fun _ _ _ _=>false) (fun _ _ _ _=>false) (fun x0 x1 _=>f x0 x1) (fun _ _=>false) (fun _ _ _ _=>false) (fun _ _ _ _=>false) (fun _ _ _ _=>false) (fun _ _ _ _=>false) (fun _ _ _=>false) (fun _ _ _ _=>false) b
noncomputable def E.on_not(b:E)(f:E->Bool):Bool:=E.rec (motive:=fun _=>Bool) (fun _=>false) (fun _=>false) (fun _=>false) (fun _=>false) (fun _ _ _ _ _ _=>false) (fun _ _ _ _ _=>false) (fun _ _ _ _=>false) (fun _ _ _ _=>false) (fun _ _ _=>false) (fun x0 _=>f x0) (fun _ _ _ _=>false) (fun _ _ _ _=>false) (fun _ _ _ _=>false) (fun _ _ _ _=>false) (fun _ _ _=>false) (fun _ _ _ _=>false) b
noncomputable def E.on_and(b:E)(f:E->E->Bool):Bool:=E.rec (motive:=fun _=>Bool) (fun _=>false) (fun _=>false) (fun _=>false) (fun _=>false) (fun _ _ _ _ _ _=>false) (fun _ _ _ _ _=>false) (fun _ _ _ _=>false) (fun _ _ _ _=>false) (fun _ _ _=>false) (fun _ _=>false) (fun x0 x1 _ _=>f x0 x1) (fun _ _ _ _=>false) (fun _ _ _ _=>false) (fun _ _ _ _=>false) (fun _ _ _=>false) (fun _ _ _ _=>false) b
noncomputable def E.on_seq(b:E)(f:E->E->Bool):Bool:=E.rec (motive:=fun _=>Bool) (fun _=>false) (fun _=>false) (fun _=>false) (fun _=>false) (fun _ _ _ _ _ _=>false) (fun _ _ _ _ _=>false) (fun _ _ _ _=>false) (fun _ _ _ _=>false) (fun _ _ _=>false) (fun _ _=>false) (fun _ _ _ _=>false) (fun x0 x1 _ _=>f x0 x1) (fun _ _ _ _=>false) (fun _ _ _ _=>false) (fun _ _ _=>false) (fun _ _ _ _=>false) b
noncomputable def E.on_iff(b:E)(f:E->E->Bool):Bool:=E.rec (motive:=fun _=>Bool) (fun _=>false) (fun _=>false) (fun _=>false) (fun _=>false) (fun _ _ _ _ _ _=>false) (fun _ _ _ _ _=>false) (fun _ _ _ _=>false) (fun _ _ _ _=>false) (fun _ _ _=>false) (fun _ _=>false) (fun _ _ _ _=>false) (fun _ _ _ _=>false) (fun x0 x1 _ _=>f x0 x1) (fun _ _ _ _=>false) (fun _ _ _=>false) (fun _ _ _ _=>false) b
noncomputable def E.on_imp(b:E)(f:E->E->Bool):Bool:=E.rec (motive:=fun _=>Bool) (fun _=>false) (fun _=>false) (fun _=>false) (fun _=>false) (fun _ _ _ _ _ _=>false) (fun _ _ _ _ _=>false) (fun _ _ _ _=>false) (fun _ _ _ _=>false) (fun _ _ _=>false) (fun _ _=>false) (fun _ _ _ _=>false) (fun _ _ _ _=>false) (fun _ _ _ _=>false) (fun x0 x1 _ _=>f x0 x1) (fun _ _ _=>false) (fun _ _ _ _=>false) b
noncomputable def E.on_fn(b:E)(f:Nat->E->Bool):Bool:=E.rec (motive:=fun _=>Bool) (fun _=>false) (fun _=>false) (fun _=>false) (fun _=>false) (fun _ _ _ _ _ _=>false) (fun _ _ _ _ _=>false) (fun _ _ _ _=>false) (fun _ _ _ _=>false) (fun _ _ _=>false) (fun _ _=>false) (fun _ _ _ _=>false) (fun _ _ _ _=>false) (fun _ _ _ _=>false) (fun _ _ _ _=>false) (fun x0 x1 _=>f x0 x1) (fun _ _ _ _=>false) b
noncomputable def E.on_pr(b:E)(f:E->E->Bool):Bool:=E.rec (motive:=fun _=>Bool) (fun _=>false) (fun _=>false) (fun _=>false) (fun _=>false) (fun _ _ _ _ _ _=>false) (fun _ _ _ _ _=>false) (fun _ _ _ _=>false) (fun _ _ _ _=>false) (fun _ _ _=>false) (fun _ _=>false) (fun _ _ _ _=>false) (fun _ _ _ _=>false) (fun _ _ _ _=>false) (fun _ _ _ _=>false) (fun _ _ _=>false) (fun x0 x1 _ _=>f x0 x1) b
noncomputable def E.beq(a:E):E->Bool:=
 E.rec (motive:=fun _=>E->Bool)
  (fun n b=>b.on_int fun m=>ji n m)
  (fun x b=>b.on_bool fun y=>mC x y)
  (fun s b=>b.on_str fun t=>kA s t)
  (fun i b=>b.on_var fun j=>Nat.beq i j)
  (fun o k _ _ f g b=>b.on_ar fun o' k' a' b'=>dU (My o o') (dU (fY k k') (dU (f a') (g b'))))
  (fun o _ _ f g b=>b.on_cmp fun o' a' b'=>dU (My o o') (dU (f a') (g b')))
  (fun _ _ f g b=>b.on_mn fun a' b'=>dU (f a') (g b'))
  (fun _ _ f g b=>b.on_mx fun a' b'=>dU (f a') (g b'))
  (fun k _ f b=>b.on_wr fun k' a'=>dU (fY k k') (f a'))
  (fun _ f b=>b.on_not fun a'=>f a')
  (fun _ _ f g b=>b.on_and fun a' b'=>dU (f a') (g b'))
  (fun _ _ f g b=>b.on_seq fun a' b'=>dU (f a') (g b'))
  (fun _ _ f g b=>b.on_iff fun a' b'=>dU (f a') (g b'))
  (fun _ _ f g b=>b.on_imp fun a' b'=>dU (f a') (g b'))
  (fun n _ f b=>b.on_fn fun m a'=>dU (Nat.beq n m) (f a'))
  (fun _ _ f g b=>b.on_pr fun a' b'=>dU (f a') (g b')) a
def gf{Z:Type}(n:Nat)(k:Nat->Z):Z:=
 match n with
 |0=>k 0
 |m+1=>k (m+1)
def eB(a b:Nat):Nat:=Nat.mod (Nat.add (Nat.mul a 1000003) b) 2305843009213693951
def aCA(n:Int):Nat:=match n with | .ofNat m=>Nat.mul 2 m | .negSucc m=>Nat.add (Nat.mul 2 m) 1
def Zc(k:IntKind):Nat:=match k with | .i8=>1 | .i16=>2 | .i32=>3 | .i64=>4 | .u8=>5 | .u16=>6 | .u32=>7 | .u64=>8
noncomputable def lJ(a:E):Nat:=
 E.rec (motive:=fun _=>Nat)
  (fun n=>eB 3 (aCA n)) (fun x=>match x with | true=>5 | false=>7) (fun _=>11) (fun i=>eB 13 i)
  (fun o k _ _ f g=>eB (eB (eB (eB 17 (E1 o)) (Zc k)) f) g)
  (fun o _ _ f g=>eB (eB (eB 19 (E1 o)) f) g)
  (fun _ _ f g=>eB (eB 23 f) g)
  (fun _ _ f g=>eB (eB 29 f) g)
  (fun k _ f=>eB (eB 31 (Zc k)) f)
  (fun _ f=>eB 37 f)
  (fun _ _ f g=>eB (eB 41 f) g)
  (fun _ _ f g=>eB (eB 43 f) g)
  (fun _ _ f g=>eB (eB 47 f) g)
  (fun _ _ f g=>eB (eB 53 f) g)
  (fun n _ f=>eB (eB 59 n) f)
  (fun _ _ f g=>eB (eB 61 f) g) a
def NU(x:E):Nat:=match x with | .imp _ c=>lJ c | x=>lJ x
def dM:E->E
 |.fn 6 (.pr c (.int _))=>c
 |e=>e
def YG(x:E):Nat:=match x with
 |.cmp _ a b=>match b with
  |.int _=>lJ (dM a)
  |_=>match a with
   |.int _=>lJ (dM b)
   |_=>0
 |_=>0
def bT(x:E):Nat:=match x with | .not y=>YG y | y=>YG y
noncomputable def Du(n:Nat)(l:List E):List E:=List.rec (motive:=fun _=>List E) [] (fun x _ ih=>Bool.rec ih (x::ih) (Nat.beq (NU x) n)) l
noncomputable def Dt(n:Nat)(l:List E):List E:=List.rec (motive:=fun _=>List E) [] (fun x _ ih=>Bool.rec ih (x::ih) (Nat.beq (lJ x) n)) l
noncomputable def yF(n:Nat)(l:List E):List E:=List.rec (motive:=fun _=>List E) [] (fun x _ ih=>Bool.rec ih (x::ih) (Nat.beq (bT x) n)) l
def jl(o:BinOp)(k:IntKind)(a b:E):E:=
 match a,b with
 |.int x,.int y=>.int (mz o k x y)
 |_,_=>.ar o k a b
def bm(a:E):E:=
 match a with
 |.bool b=>.bool (!b)
 |.not x=>x
 |_=>.not a
def fM:E->Int
 |.fn 6 (.pr _ (.int x))=>x
 |_=>0
def aN(o:BinOp)(a b:E):E:=
 match a,b with
 |.int x,.int y=>.bool (cK o x y)
 |_,_=>match (dM a).beq (dM b)with
  |true=>.bool (cK o (fM a) (fM b))
  |false=>match o with
   |.eql=>match a with
    |.int x=>.cmp .eql b (.int x)
    |a=>.cmp .eql a b
   |.neq=>match a with
    |.int x=>.not (.cmp .eql b (.int x))
    |a=>.not (.cmp .eql a b)
   |.gtr=>.cmp .lss b a
   |.leq=>.not (.cmp .lss b a)
   |.geq=>.not (.cmp .lss a b)
   |_=>.cmp o a b
def sJ(a b:E):E:=
 match a,b with
 |.int x,.int y=>.int (oG x y)
 |_,_=>.mn a b
def oH(a b:E):E:=
 match a,b with
 |.int x,.int y=>.int (lS x y)
 |_,_=>.mx a b
def sK(k:IntKind)(a:E):E:=
 match a with
 |.int x=>.int (k.wrap x)
 |_=>.wr k a
def zz(a b:E):E:=
 match a with
 |.bool true=>match b with
  |.bool y=>.bool y
  |_=>.and a b
 |.bool false=>.bool false
 |_=>.and a b
def mS(a b:E):E:=
 match a,b with
 |.str x,.str y=>.bool (kA x y)
 |_,_=>.seq a b
def dA(a b:E):E:=
 match a,b with
 |.int x,.int y=>.int (x+y)
 |.int x,b=>match ji x 0 with
  |true=>b
  |false=>match b with
   |.fn 6 (.pr c (.int y))=>.fn 6 (.pr c (.int (x+y)))
   |_=>.fn 6 (.pr b (.int x))
 |.fn 6 (.pr c (.int x)),.int y=>.fn 6 (.pr c (.int (x+y)))
 |a,.int y=>match ji y 0 with
  |true=>a
  |false=>.fn 6 (.pr a (.int y))
 |a,b=>.fn 6 (.pr a b)
def jM(a b:E):E:=
 match a,b with
 |.int x,.int y=>.int (x-y)
 |.fn 6 (.pr c (.int x)),.int y=>match ji (x-y) 0 with
  |true=>c
  |false=>.fn 6 (.pr c (.int (x-y)))
 |a,.int y=>match ji y 0 with
  |true=>a
  |false=>.fn 6 (.pr a (.int (-y)))
 |a,b=>match a.beq b with
  |true=>.int 0
  |false=>.fn 7 (.pr a b)
def iW:E->E
 |.fn 2 (.pr l' x)=>iW l'
 |.fn 3 (.pr a b)=>dA (iW a) (iW b)
 |.fn 5 (.pr n x)=>oH n (.int 0)
 |.fn 10 _=>.int 0
 |.fn 11 _=>.int 1
 |.fn 21 (.pr r c)=>iW c
 |.fn 23 (.pr x r)=>dA (.int 1) (iW r)
 |.fn 28 (.pr r c)=>iW c
 |.fn 30 _=>.int 0
 |l=>.fn 0 l
def FQ(v:E):E->Nat->Option E
 |.fn 23 (.pr x r),n=>match n with
  |0=>some (.fn 23 (.pr v r))
  |n+1=>match FQ v r n with
   |some r'=>some (.fn 23 (.pr x r'))
   |none=>none
 |_,_=>none
def GB(i:Nat)(v:E):E->E
 |.fn 2 (.pr l (.pr (.int (.ofNat j)) u))=>match Nat.beq i j with
  |true=>.fn 2 (.pr l (.pr (.int (.ofNat i)) v))
  |false=>match Nat.blt i j with
   |true=>.fn 2 (.pr (GB i v l) (.pr (.int (.ofNat j)) u))
   |false=>.fn 2 (.pr (.fn 2 (.pr l (.pr (.int (.ofNat j)) u))) (.pr (.int (.ofNat i)) v))
 |l=>.fn 2 (.pr l (.pr (.int (.ofNat i)) v))
def jN(l i v:E):E:=
 match i with
 |.int (.ofNat n)=>match FQ v l n with
  |some r=>r
  |none=>GB n v l
 |_=>.fn 2 (.pr l (.pr i v))
def cU:List E->E
 |[]=>.fn 10 (.int 0)
 |x::xs=>.fn 23 (.pr x (cU xs))
def DX:E->Bool
 |.fn 10 _=>true
 |.fn 30 _=>true
 |_=>false
def Cx(b:E):E->Option E
 |.fn 23 (.pr x r)=>match Cx b r with
  |some r'=>some (.fn 23 (.pr x r'))
  |none=>none
 |.fn 10 _=>some b
 |_=>none
def EB(a b:E):E:=
 match DX b with
 |true=>a
 |false=>match Cx b a with
  |some r=>r
  |none=>.fn 3 (.pr a b)
structure Off where
 base:Nat
 scale:Nat:=0
 idx:E:=.int 0
 deriving Inhabited
def Off.den(ρ:Env)(o:Off):Nat:=o.base+o.scale*(o.idx.I ρ).toNat
inductive CK where
 |int (k:IntKind) | bool | str | slc (ks:List CK)
 deriving Inhabited
mutual
def CK.beq:CK->CK->Bool
 |.int k,.int k'=>fY k k'
 |.bool,.bool=>true
 |.str,.str=>true
 |.slc a,.slc b=>gK a b
 |_,_=>false
def gK:List CK->List CK->Bool
 |[],[]=>true
 |x::xs,y::ys=>x.beq y&&gK xs ys
 |_,_=>false
end
def CK.val:CK->U->Value
 |.int k,u=>.int k u.toI
 |.bool,u=>.bool u.toB
 |.str,u=>.string u.toS
 |.slc _,u=>u.raw
inductive SlOk (fz:Nat->Option Obj):List CK->U->Prop
 |nil {ks:List CK}:SlOk fz ks (.bx none 0 0 [])
 |empty {ks:List CK} (a:Addr):SlOk fz ks (.bx (some a) 0 0 [])
 | mk {ks:List CK} {r off len cap:Nat} {l:List U} {arr:Array Value} {elem:TypeId} {fr:Nat×Nat} (hl:l.length=len*ks.length) (hc:len<=cap)
   (hz:l≠[]->fz r=some (.cells arr elem fr))
   (hv:∀(i:Nat)(u:U),l[i]?=some u->∃c,ks[i%ks.length]?=some c/\arr[off+i]?=some (c.val u))
   (hs:∀(i:Nat)(u:U)(ks':List CK),l[i]?=some u->ks[i%ks.length]?=some (.slc ks')->SlOk fz ks' u):
   SlOk fz ks (.bx (some ⟨r,off,none⟩) len cap l)
def CK.ok(fz:Nat->Option Obj):CK->U->Prop
 |.slc ks,u=>SlOk fz ks u
 |_,_=>True
inductive VK where
 |one (c:CK) | row (ks:List CK)
 deriving Inhabited
def VK.beq:VK->VK->Bool
 |.one c,.one c'=>c.beq c'
 |.row a,.row b=>gK a b
 |_,_=>false
def qG(us:List U):Nat->List CK->List Value
 |_,[]=>[]
 |i,c::cs=>c.val (us.getD i (.int 0))::qG us (i+1) cs
def vw(fz:Nat->Option Obj)(us:List U):Nat->List CK->Prop
 |_,[]=>True
 |i,c::cs=>c.ok fz (us.getD i (.int 0))/\vw fz us (i+1) cs
def VK.val:VK->U->Value
 |.one c,u=>c.val u
 |.row ks,u=>.agg (qG u.toL 0 ks).toArray
def VK.ok(fz:Nat->Option Obj):VK->U->Prop
 |.one c,u=>c.ok fz u
 |.row ks,u=>vw fz u.toL 0 ks
inductive SV where
 |int (k:IntKind) (e:E) | bool (e:E) | str (e:E)
 |nilp | ptr (b:Nat) (o:Off)
 |nils | slice (b:Nat) (o:Off) (len cap:E)
 |nslice (b:Nat) (len cap:E)
 |bsl (ks:List CK) (e:E) | bptr (ks:List CK) (e idx:E) (j:Nat)
 |nilm | map (b:Nat)
 |nili | nilf | func (fn:Fn) (fi ca:List SV)
 |agg (cs:List SV) | tup (cs:List SV)
 |junk
 |nsl (b:Nat) (ks:List CK) (e i:E) (c:Nat) | nptr (b:Nat) (ks:List CK) (e i:E) (c:Nat) (x:E) (j:Nat)
 deriving Inhabited
def Env.blk(ρ:Env)(b:Nat):Nat:=(ρ.bs.getD b ⟨0,0,none⟩).blk
def Env.off(ρ:Env)(b:Nat):Nat:=(ρ.bs.getD b ⟨0,0,none⟩).off
def Env.nil(ρ:Env)(b:Nat):Bool:=(ρ.bs.getD b ⟨0,0,none⟩).nil
def Env.base(ρ:Env)(b:Nat):Option Addr:=(ρ.bs.getD b ⟨0,0,none⟩).base
def CU(u:U)(n:Nat):Option Addr:=match u.adr with | some a=>some ⟨a.block,a.off+n,none⟩ | none=>none
mutual
def SV.den(ρ:Env):SV->Value
 |.int k e=>.int k (e.I ρ)
 |.bool e=>.bool (e.B ρ)
 |.str e=>.string (e.S ρ)
 |.nilp=>.pointer none
 |.ptr b o=>.pointer (some ⟨ρ.blk b,ρ.off b+o.den ρ,none⟩)
 |.nils=>.slice none 0 0
 |.slice b o l c=>.slice (some ⟨ρ.blk b,ρ.off b+o.den ρ,none⟩) (l.I ρ).toNat (c.I ρ).toNat
 |.nslice b l c=>.slice (ρ.base b) (l.I ρ).toNat (c.I ρ).toNat
 |.bsl _ e=>(e.den ρ).raw
 |.bptr ks e i j=>.pointer (CU (e.den ρ) ((i.I ρ).toNat*ks.length+j))
 |.nilm=>.map none
 |.map b=>.map (some (ρ.blk b))
 |.nili=>.nilIface
 |.nilf=>.nilFunc
 |.func fn fi ca=>.func fn (SV.dens ρ fi).toArray (SV.dens ρ ca).toArray
 |.agg cs=>.agg (SV.dens ρ cs).toArray
 |.tup cs=>.tuple (SV.dens ρ cs).toArray
 |.junk=>Go.undef
 |.nsl _ _ e _ _=>(e.den ρ).raw
 |.nptr _ ks e _ _ x j=>.pointer (CU (e.den ρ) ((x.I ρ).toNat*ks.length+j))
def SV.dens(ρ:Env):List SV->List Value
 |[]=>[]
 |v::vs=>v.den ρ::SV.dens ρ vs
end
mutual
def SV.ok(ρ:Env):SV->Prop
 |.bsl ks e=>SlOk ρ.fz ks (e.den ρ)
 |.bptr ks e i _=>SlOk ρ.fz ks (e.den ρ)/\0<=i.I ρ/\((i.I ρ).toNat+1)*ks.length<=(e.L ρ).length/\0<ks.length
 |.func _ fi ca=>SV.oks ρ fi/\SV.oks ρ ca
 |.agg cs=>SV.oks ρ cs
 |.tup cs=>SV.oks ρ cs
 |.nptr _ ks e _ _ x _=>0<=x.I ρ/\0<ks.length/\∃(r len cap:Nat) (l:List U),e.den ρ=.bx (some ⟨r,0,none⟩) len cap l/\(x.I ρ).toNat<len
 |_=>True
def SV.oks(ρ:Env):List SV->Prop
 |[]=>True
 |v::vs=>v.ok ρ/\SV.oks ρ vs
end
def SV.undef:SV:=.tup []
structure Ent where
 k:SV
 v:SV
 born:E
 deriving Inhabited
inductive SObj where
 |gone
 |cells (cs:List SV) (af:E) (elem:TypeId)
 |flat (ks:List CK) (l n af:E) (elem:TypeId)
 |map (es:List Ent) (clk:E)
 |mapl (k:IntKind) (c:VK) (e:E)
 |maplp (k:IntKind) (c:VK) (e ke s:E)
 |iter (k:IntKind) (c:VK) (e left:E) (cur:Option E)
 |nest (ks:List CK) (l n af:E) (elem:TypeId) (own:E)
 deriving Inhabited
structure Blk where
 own:Bool
 obj:SObj
 deriving Inhabited
structure St where
 nv:Nat
 nb:Nat
 heap:T Blk
 pc:List E
 deriving Inhabited
inductive Ex where
 |normal | exit (id:Nat) | ret
 deriving Inhabited
abbrev Tm:=T SV
structure Out where
 ex:Ex
 tmps:Tm
 st:St
 deriving Inhabited
noncomputable def E.scp(nv:Nat)(e:E):Bool:=
 E.rec (motive:=fun _=>Bool) (fun _=>true) (fun _=>true) (fun _=>true) (fun i=>Nat.blt i nv)
  (fun _ _ _ _ a b=>Bool.rec false b a) (fun _ _ _ a b=>Bool.rec false b a) (fun _ _ a b=>Bool.rec false b a) (fun _ _ a b=>Bool.rec false b a)
  (fun _ _ a=>a) (fun _ a=>a) (fun _ _ a b=>Bool.rec false b a) (fun _ _ a b=>Bool.rec false b a) (fun _ _ a b=>Bool.rec false b a) (fun _ _ a b=>Bool.rec false b a)
  (fun _ _ a=>a) (fun _ _ a b=>Bool.rec false b a) e
noncomputable def SV.scp(nv nb:Nat)(v:SV):Bool:=
 SV.rec (motive_1:=fun _=>Bool) (motive_2:=fun _=>Bool)
  (fun _ e=>e.scp nv) (fun e=>e.scp nv) (fun e=>e.scp nv) true (fun b o=>Bool.rec false (o.idx.scp nv) (Nat.blt b nb))
  true (fun b o l c=>Bool.rec false (Bool.rec false (Bool.rec false (c.scp nv) (l.scp nv)) (o.idx.scp nv)) (Nat.blt b nb))
  (fun b l c=>Bool.rec false (Bool.rec false (c.scp nv) (l.scp nv)) (Nat.blt b nb))
  (fun _ e=>e.scp nv) (fun _ e i _=>Bool.rec false (i.scp nv) (e.scp nv))
  true (fun b=>Nat.blt b nb) true true (fun _ _ _ a b=>Bool.rec false b a) (fun _ a=>a) (fun _ a=>a) true
  (fun b _ e i _=>Bool.rec false (Bool.rec false (i.scp nv) (e.scp nv)) (Nat.blt b nb)) (fun b _ e i _ x _=>Bool.rec false (Bool.rec false (Bool.rec false (x.scp nv) (i.scp nv)) (e.scp nv)) (Nat.blt b nb))
  true (fun _ _ a b=>Bool.rec false b a) v
noncomputable def SV.scps(nv nb:Nat)(l:List SV):Bool:=
 List.rec (motive:=fun _=>Bool) true (fun v _ b=>Bool.rec false b (v.scp nv nb)) l
def zK(nv nb:Nat):List Ent->Bool
 |[]=>true
 |x::es=>x.k.scp nv nb&&(x.v.scp nv nb&&(x.born.scp nv&&zK nv nb es))
def aFd(nv:Nat):Option E->Bool
 |none=>true
 |some e=>e.scp nv
def SObj.scp(nv nb:Nat):SObj->Bool
 |.gone=>true
 |.cells cs af _=>af.scp nv&&SV.scps nv nb cs
 |.flat _ l n af _=>l.scp nv&&(n.scp nv&&af.scp nv)
 |.map es clk=>zK nv nb es&&clk.scp nv
 |.mapl _ _ e=>e.scp nv
 |.maplp _ _ e ke s=>e.scp nv&&(ke.scp nv&&s.scp nv)
 |.iter _ _ e n cur=>e.scp nv&&(n.scp nv&&aFd nv cur)
 |.nest _ l n af _ own=>l.scp nv&&(n.scp nv&&(af.scp nv&&own.scp nv))
def Fp(nv:Nat):List E->Bool
 |[]=>true
 |e::es=>e.scp nv&&Fp nv es
def Blk.scp(nv nb:Nat)(b:Blk):Bool:=b.obj.scp nv nb
def St.scp(st:St):Bool:=Fp st.nv st.pc&&T.all (Blk.scp st.nv st.nb) st.heap
def jT(nv nb:Nat)(t:Tm):Bool:=T.all (SV.scp nv nb) t
noncomputable def d9{G:Type}(l:List G):Nat->Option G:=
 List.rec (motive:=fun _=>Nat->Option G) (fun _=>none) (fun x _ g n=>Nat.rec (some x) (fun n _=>g n) n) l
noncomputable def kZ{G:Type}(l:List G):Nat->Option (List G):=
 List.rec (motive:=fun _=>Nat->Option (List G)) (fun n=>Nat.rec (some []) (fun _ _=>none) n)
  (fun x _ g n=>Nat.rec (some []) (fun n _=>Option.rec none (fun l=>some (x::l)) (g n)) n) l
noncomputable def sa{G:Type}(l:List G):Nat->List G:=
 List.rec (motive:=fun _=>Nat->List G) (fun _=>[]) (fun x xs g n=>Nat.rec (x::xs) (fun n _=>g n) n) l
noncomputable def sP{G:Type}(cs:List G):List G->Option (List G):=
 List.rec (motive:=fun _=>List G->Option (List G)) (fun vs=>List.rec (some []) (fun _ _ _=>none) vs)
  (fun c cs g vs=>List.rec (some (c::cs)) (fun v vs _=>Option.rec none (fun l=>some (v::l)) (g vs)) vs) cs
noncomputable def oQ{G:Type}(cs:List G):Nat->List G->Option (List G):=
 List.rec (motive:=fun _=>Nat->List G->Option (List G)) (fun n vs=>Nat.rec (sP [] vs) (fun _ _=>none) n)
  (fun c cs g n vs=>Nat.rec (sP (c::cs) vs) (fun n _=>Option.rec none (fun l=>some (c::l)) (g n vs)) n) cs
def SV.cells:SV->List SV
 |.agg cs=>cs
 |v=>[v]
def SV.one:SV->Bool
 |.agg _ | .tup _ | .junk=>false
 |_=>true
def nY:List SV->Bool
 |[]=>true
 |v::vs=>v.one&&nY vs
mutual
def ofVal:Value->Option SV
 |.bool b=>some (.bool (.bool b))
 |.int k n=>some (.int k (.int n))
 |.string s=>some (.str (.str s))
 |.pointer none=>some .nilp
 |.slice none n c=>if Nat.beq n 0&&Nat.beq c 0 then some .nils else none
 |.map none=>some .nilm
 |.nilFunc=>some .nilf
 |.nilIface=>some .nili
 |.agg cs=>match qj cs.toList with | some l=>some (.agg l) | none=>none
 |_=>none
def qj:List Value->Option (List SV)
 |[]=>some []
 |v::vs=>match ofVal v,qj vs with | some x,some l=>some (x::l) | _,_=>none
end
end
end Go.SX

namespace Go.SX
noncomputable section
structure Tmpl where
 tmps:Tm
 st:St
 less:E
 deriving Inhabited
structure LoopX where
 n0:Nat
 b0:Nat
 xs:List Out
 deriving Inhabited
structure Ann where
 fn:FuncId
 key:Nat
 ts:List Tmpl
 known:Option LoopX:=none
 deriving Inhabited
inductive NatR where
 |no | lack (e:E) | outs (l:List (SV×St))
structure Nat1 where
 fn:FuncId
 eff:List E->List SV->St->NatR
structure Tab where
 ty:T TypeInfo
 fn:T Func
 facts:List E
 anns:List Ann
 nats:List Nat1
def Tab.und(tb:Tab)(t:TypeId):Option TypeDesc:=
 match tb.ty.get t with
 |some i=>match i.desc with
  |.named _ u=>match tb.ty.get u with
   |some j=>some j.desc
   |none=>none
  |d=>some d
 |none=>none
def rN(o:Off)(n:Nat):Off:=⟨Nat.add o.base n,o.scale,o.idx⟩
def F5(tb:Tab)(t:TypeId):Option (List Field):=
 match tb.und t with
 |some (.struct fs)=>some fs.toList
 |_=>none
def dd(tb:Tab)(t:TypeId):Option Nat:=
 match tb.ty.get t with
 |some i=>some i.size
 |none=>none
def jI(tb:Tab)(t:TypeId):Option Bool:=
 match tb.und t with
 |some (.struct _)=>some true
 |some (.array _ _)=>some true
 |some _=>some false
 |none=>none
def i7(tb:Tab)(t:TypeId):Option SV:=
 match tb.ty.get t with
 |some i=>match i.zero with
  |some v=>ofVal v
  |none=>none
 |none=>none
def mW(tb:Tab)(t:TypeId)(cs:List SV)(off:Nat):Option SV:=
 match jI tb t with
 |some true=>match dd tb t with
  |some n=>match kZ (sa cs off) n with
   |some l=>some (.agg l)
   |none=>none
  |none=>none
 |some false=>d9 cs off
 |none=>none
def yz(f:TypeId->SV->SV->Option E)(tb:Tab)(xs ys:List SV):List Field->Option E
 |[]=>some (.bool true)
 |fd::fds=>
  if fd.name == "_" then none else
  match mW tb fd.type xs fd.offset,mW tb fd.type ys fd.offset with
  |some x,some y=>match f fd.type x y,yz f tb xs ys fds with
   |some a,some b=>some (zz a b)
   |_,_=>none
  |_,_=>none
def yx(f:SV->SV->Option E)(tb:Tab)(elem:TypeId)(n:Nat)(xs ys:List SV):Nat->Nat->Option E
 |0,_=>some (.bool true)
 |k+1,i=>
  match mW tb elem xs (Nat.mul i n),mW tb elem ys (Nat.mul i n)with
  |some x,some y=>match f x y,yx f tb elem n xs ys k (Nat.succ i)with
   |some a,some b=>some (zz a b)
   |_,_=>none
  |_,_=>none
def EC(a b:E):Option E:=
 match a,b with
 |.bool true,.bool y=>some (.bool y)
 |.bool false,.bool y=>some (.bool (!y))
 |.bool true,b=>some b
 |.bool false,b=>some (bm b)
 |a,.bool true=>some a
 |a,.bool false=>some (bm a)
 |a,b=>some (.iff a b)
def iR(P:Program)(tb:Tab):Nat->TypeId->SV->SV->Option E
 |0,_,_,_=>none
 |d+1,t,x,y=>
  match tb.und t,x,y with
  |some .bool,.bool a,.bool b=>EC a b
  |some (.int _),.int k a,.int k' b=>if fY k k' then some (aN .eql a b)else none
  |some .string,.str a,.str b=>some (mS a b)
  |some (.pointer _),.nilp,.nilp=>some (.bool true)
  |some (.pointer _),.nilp,.ptr _ _=>some (.bool false)
  |some (.pointer _),.ptr _ _,.nilp=>some (.bool false)
  |some (.slice _),.nils,.nils=>some (.bool true)
  |some (.slice _),.nils,.slice _ _ _ _=>some (.bool false)
  |some (.slice _),.slice _ _ _ _,.nils=>some (.bool false)
  |some (.map _ _),.nilm,.nilm=>some (.bool true)
  |some (.map _ _),.nilm,.map _=>some (.bool false)
  |some (.map _ _),.map _,.nilm=>some (.bool false)
  |some (.func _ _ _),.nilf,.nilf=>some (.bool true)
  |some (.func _ _ _),.nilf,.func _ _ _=>some (.bool false)
  |some (.func _ _ _),.func _ _ _,.nilf=>some (.bool false)
  |some (.struct fs),.agg xs,.agg ys=>
   if P.stoodInHeld t then none else yz (iR P tb d) tb xs ys fs.toList
  |some (.array len elem),.agg xs,.agg ys=>
   match dd tb elem with
   |some n=>yx (iR P tb d elem) tb elem n xs ys len 0
   |none=>none
  |_,_,_=>none
def abf:SV->Bool
 |.agg _=>true
 |_=>false
def lM(P:Program)(tb:Tab)(t:TypeId)(x y:SV):Option E:=
 if abf x then(if P.eqGuardType P.depth t then none else iR P tb 40 t x y)else iR P tb 40 t x y
def ac9:E->Bool
 |.int n=>!(ji n 0)
 |_=>false
def kv(P:Program)(tb:Tab)(op:BinOp)(t:TypeId)(x y:SV):Option SV:=
 match x,y with
 |.int k a,.int k' b=>
  match op with
  |.shl | .shr=>match b with
   |.int (.ofNat _)=>some (.int k (jl op k a b))
   |_=>none
  |.add | .sub | .mul | .and | .or | .xor | .andNot=>if fY k k' then some (.int k (jl op k a b))else none
  |.quo | .rem=>if fY k k'&&ac9 b then some (.int k (jl op k a b))else none
  |_=>if fY k k' then some (.bool (aN op a b))else none
 |.str a,.str b=>
  match op with
  |.eql=>some (.bool (mS a b))
  |.neq=>some (.bool (bm (mS a b)))
  |_=>none
 |x,y=>
  match op with
  |.eql=>match lM P tb t x y with | some e=>some (.bool e) | none=>none
  |.neq=>match lM P tb t x y with | some e=>some (.bool (bm e)) | none=>none
  |_=>none
def GA(op:UnOp)(x:SV):Option SV:=
 match op,x with
 |.neg,.int k a=>some (.int k (jl .sub k (.int 0) a))
 |.xor,.int k a=>some (.int k (jl .xor k (.int (match k.signed with | true=>-1 | false=>k.max)) a))
 |.not,.bool a=>some (.bool (bm a))
 |_,_=>none
def CZ(tb:Tab)(src dst:TypeId)(x:SV):Option SV:=
 match tb.und src,tb.und dst,x with
 |some _,some (.int k),.int _ a=>some (.int k (sK k a))
 |some .string,some .string,.str e=>some (.str e)
 |_,_,_=>none
def fK:E->Option Nat
 |.int (.ofNat n)=>some n
 |_=>none
def Dq(tb:Tab)(s:TypeId)(x:SV)(f:Nat):Option SV:=
 match F5 tb s,x with
 |some fs,.ptr b o=>match d9 fs f with
  |some fd=>match dd tb fd.type with
   |some n=>if Nat.beq n 0 then none else some (.ptr b (rN o fd.offset))
   |none=>none
  |none=>none
 |some fs,.bptr ks e i j=>match d9 fs f with
  |some fd=>match dd tb fd.type with
   |some n=>if Nat.beq n 0 then none else some (.bptr ks e i (Nat.add j fd.offset))
   |none=>none
  |none=>none
 |some fs,.nptr b ks e i c x j=>match d9 fs f with
  |some fd=>match dd tb fd.type with
   |some n=>if Nat.beq n 0 then none else some (.nptr b ks e i c x (Nat.add j fd.offset))
   |none=>none
  |none=>none
 |_,_=>none
def Dr(tb:Tab)(s:TypeId)(x:SV)(f:Nat):Option SV:=
 match F5 tb s,x with
 |some fs,.agg cs=>match d9 fs f with
  |some fd=>mW tb fd.type cs fd.offset
  |none=>none
 |_,_=>none
def pR(tb:Tab)(t:TypeId)(x i:SV):Option SV:=
 match i with
 |.int _ (.int (.ofNat n))=>
  match tb.und t,x with
  |some (.array len elem),.ptr b o=>
   if Nat.blt n len then match dd tb elem with
    |some sz=>some (.ptr b (rN o (Nat.mul n sz)))
    |none=>none
   else none
  |some (.slice elem),.slice b o (.int (.ofNat l)) _=>
   if Nat.blt n l then match dd tb elem with
    |some sz=>some (.ptr b (rN o (Nat.mul n sz)))
    |none=>none
   else none
  |_,_=>none
 |_=>none
def uR(tb:Tab)(t:TypeId)(x i:SV):Option SV:=
 match i with
 |.int _ (.int (.ofNat n))=>
  match tb.und t,x with
  |some (.array len elem),.agg cs=>
   if Nat.blt n len then match dd tb elem with
    |some sz=>mW tb elem cs (Nat.mul n sz)
    |none=>none
   else none
  |some .string,.str (.str s)=>
   match s[n]? with
   |some b=>some (.int .u8 (.int b.toNat))
   |none=>none
  |_,_=>none
 |_=>none
def Dm(x:SV)(i:Nat):Option SV:=
 match x with
 |.tup vs=>d9 vs i
 |_=>none
def mI(place:Nat->Option (Nat×Nat))(cells:List SV):List (Nat×SV)->Option (List SV)
 |[]=>some cells
 |(i,v)::bU=>
  match place i with
  |none=>none
  |some (off,size)=>
   if Nat.beq v.cells.length size then
    match oQ cells off v.cells with
    |some cs=>mI place cs bU
    |none=>none
   else none
def og(ev:Operand->Option SV):List (Nat×Operand)->Option (List (Nat×SV))
 |[]=>some []
 |(i,x)::bU=>match ev x,og ev bU with
  |some v,some l=>some ((i,v)::l)
  |_,_=>none
def jG(ev:Operand->Option SV):List Operand->Option (List SV)
 |[]=>some []
 |x::bU=>match ev x,jG ev bU with
  |some v,some l=>some (v::l)
  |_,_=>none
def zN(tb:Tab):List Field->Option (List (Nat×Nat))
 |[]=>some []
 |f::fs=>match dd tb f.type,zN tb fs with
  |some n,some l=>some ((f.offset,n)::l)
  |_,_=>none
def x9(tb:Tab)(t:TypeId)(parts:List (Nat×SV)):Option SV:=
 match i7 tb t with
 |some z=>
  match tb.und t with
  |some (.struct fs)=>match zN tb fs.toList with
   |some ps=>match mI (d9 ps) z.cells parts with
    |some cs=>some (.agg cs)
    |none=>none
   |none=>none
  |some (.array _ elem)=>match dd tb elem with
   |some sz=>match mI (fun i=>some (Nat.mul i sz,sz)) z.cells parts with
    |some cs=>some (.agg cs)
    |none=>none
   |none=>none
  |_=>none
 |none=>none
def Ej(tb:Tab)(t:TypeId)(x:SV):Option SV:=
 match tb.und t,x with
 |some .string,.str (.str s)=>some (.int .i64 (.int s.size))
 |some (.array n _),_=>some (.int .i64 (.int n))
 |some (.slice _),.nils=>some (.int .i64 (.int 0))
 |some (.slice _),.slice _ _ l _=>match fK l with | some n=>some (.int .i64 (.int n)) | none=>none
 |some (.map _ _),.nilm=>some (.int .i64 (.int 0))
 |_,_=>none
def CT(tb:Tab)(t:TypeId)(x:SV):Option SV:=
 match tb.und t,x with
 |some (.array n _),_=>some (.int .i64 (.int n))
 |some (.slice _),.nils=>some (.int .i64 (.int 0))
 |some (.slice _),.slice _ _ _ c=>match fK c with | some n=>some (.int .i64 (.int n)) | none=>none
 |_,_=>none
def qc(mx:Bool)(k:IntKind):List SV->E->Option SV
 |[],a=>some (.int k a)
 |v::vs,a=>match v with
  |.int k' b=>match fY k k' with
   |true=>qc mx k vs (match mx with | true=>oH a b | false=>sJ a b)
   |false=>none
  |_=>none
def vi(mx:Bool):List SV->Option SV
 |.int k a::v::vs=>qc mx k (v::vs) a
 |_=>none
def ur(x:Option SV)(dflt y:Nat):Option Nat:=
 match x with
 |none=>some dflt
 |some (.int _ (.int (.ofNat n)))=>if Nat.ble n y then some n else none
 |some _=>none
def x7(len cap:Nat)(lo hi mx:Option SV):Option (Nat×Nat×Nat):=
 match mx,hi with
 |some _,none=>none
 |_,_=>
  match ur mx cap cap with
  |some m=>match ur hi len m with
   |some h=>match ur lo 0 h with
    |some l=>if Nat.ble h m then some (l,h,m)else none
    |none=>none
   |none=>none
  |none=>none
def Fq(o:Off)(m l sz:Nat):Off:=match Nat.beq m l with | true=>o | false=>rN o (Nat.mul l sz)
def FU(tb:Tab)(t:TypeId)(x:SV)(lo hi mx:Option SV):Option SV:=
 match tb.und t,x with
 |some (.slice elem),.slice b o (.int (.ofNat len)) (.int (.ofNat cap))=>
  match x7 len cap lo hi mx,dd tb elem with
  |some (l,h,m),some sz=>some (.slice b (Fq o m l sz) (.int (.ofNat (Nat.sub h l))) (.int (.ofNat (Nat.sub m l))))
  |_,_=>none
 |some (.slice elem),.nils=>
  match x7 0 0 lo hi mx,dd tb elem with
  |some _,some _=>some .nils
  |_,_=>none
 |some (.array n elem),.ptr b o=>
  match x7 n n lo hi mx,dd tb elem with
  |some (l,h,m),some sz=>some (.slice b (Fq o m l sz) (.int (.ofNat (Nat.sub h l))) (.int (.ofNat (Nat.sub m l))))
  |_,_=>none
 |_,_=>none
def pH(ev:Operand->Option SV):Option Operand->Option (Option SV)
 |none=>some none
 |some x=>match ev x with | some v=>some (some v) | none=>none
def Fk(P:Program)(tb:Tab)(ev:Operand->Option SV)(c:Operand)(a:Operand)(b:Operand):Option SV:=
 match ev c with
  |some (.bool (.bool true))=>ev a
  |some (.bool (.bool false))=>ev b
  |_=>none
def Fj(P:Program)(tb:Tab)(ev:Operand->Option SV)(x:Operand):Option SV:=
 match ev x with
  |some (.ptr b o)=>some (.ptr b o)
  |some (.bptr ks e i j)=>some (.bptr ks e i j)
  |some (.nptr b ks e i c x j)=>some (.nptr b ks e i c x j)
  |_=>none
def E7(P:Program)(tb:Tab)(ev:Operand->Option SV)(op:BinOp)(t:TypeId)(x:Operand)(y:Operand):Option SV:=
 match ev x,ev y with
  |some vx,some vy=>kv P tb op t vx vy
  |_,_=>none
def Fm(P:Program)(tb:Tab)(ev:Operand->Option SV)(op:UnOp)(x:Operand):Option SV:=
 match ev x with
  |some v=>GA op v
  |none=>none
def Fb(P:Program)(tb:Tab)(ev:Operand->Option SV)(src:TypeId)(dst:TypeId)(x:Operand):Option SV:=
 match ev x with
  |some v=>CZ tb src dst v
  |none=>none
def Fe(P:Program)(tb:Tab)(ev:Operand->Option SV)(s:TypeId)(x:Operand)(f:Nat):Option SV:=
 match ev x with
  |some v=>Dq tb s v f
  |none=>none
def Fd(P:Program)(tb:Tab)(ev:Operand->Option SV)(s:TypeId)(x:Operand)(f:Nat):Option SV:=
 match ev x with
  |some v=>Dr tb s v f
  |none=>none
def Fh(P:Program)(tb:Tab)(ev:Operand->Option SV)(t:TypeId)(x:Operand)(i:Operand):Option SV:=
 match ev x,ev i with
  |some v,some w=>pR tb t v w
  |_,_=>none
def Ff(P:Program)(tb:Tab)(ev:Operand->Option SV)(t:TypeId)(x:Operand)(i:Operand):Option SV:=
 match ev x,ev i with
  |some v,some w=>uR tb t v w
  |_,_=>none
def Fc(P:Program)(tb:Tab)(ev:Operand->Option SV)(x:Operand)(i:Nat):Option SV:=
 match ev x with
  |some v=>Dm v i
  |none=>none
def E8(P:Program)(tb:Tab)(ev:Operand->Option SV)(t:TypeId)(parts:Array (Nat×Operand)):Option SV:=
 match og ev parts.toList with
  |some ps=>x9 tb t ps
  |none=>none
def Fi(P:Program)(tb:Tab)(ev:Operand->Option SV)(fn:Fn)(fi:Array Operand)(ca:Array Operand):Option SV:=
 match jG ev fi.toList,jG ev ca.toList with
  |some a,some b=>some (.func fn a b)
  |_,_=>none
def Fl(P:Program)(tb:Tab)(ev:Operand->Option SV)(t:TypeId)(x:Operand)(lo:Option Operand)(hi:Option Operand)(mx:Option Operand):Option SV:=
 match ev x,pH ev lo,pH ev hi,pH ev mx with
  |some v,some l,some h,some m=>FU tb t v l h m
  |_,_,_,_=>none
def E9(P:Program)(tb:Tab)(ev:Operand->Option SV)(c:Call):Option SV:=
 match c.callee with
  |.builtin b=>match jG ev c.args.toList with
   |some vs=>match b with
    |.len=>match d9 c.argTypes.toList 0,d9 vs 0 with
     |some t,some v=>Ej tb t v
     |_,_=>none
    |.cap=>match d9 c.argTypes.toList 0,d9 vs 0 with
     |some t,some v=>CT tb t v
     |_,_=>none
    |.min=>vi false vs
    |.max=>vi true vs
    |_=>none
   |none=>none
  |_=>none
noncomputable def s6(P:Program)(tb:Tab)(ev:Operand->Option SV)(o:Op):Option SV:=
 Op.rec (motive:=fun _=>Option SV)
  (fun x=>ev x)
  (fun x=>ev x)
  (fun c a b=>Fk P tb ev c a b)
  (fun _=>none)
  (fun _ _=>none)
  (fun t parts=>E8 P tb ev t parts)
  (fun _ _ _=>none)
  (fun _ _ _ _=>none)
  (fun _ _=>none)
  (fun _ _ _=>none)
  (fun _=>none)
  (fun _=>none)
  (fun x=>Fj P tb ev x)
  (fun op t x y _=>E7 P tb ev op t x y)
  (fun op _ x=>Fm P tb ev op x)
  (fun src dst x=>Fb P tb ev src dst x)
  (fun _ _=>none)
  (fun _ _=>none)
  (fun fn fi ca=>Fi P tb ev fn fi ca)
  (fun _ _=>none)
  (fun _ _=>none)
  (fun _ _ _=>none)
  (fun t x lo hi mx=>Fl P tb ev t x lo hi mx)
  (fun s x f=>Fe P tb ev s x f)
  (fun s x f=>Fd P tb ev s x f)
  (fun t x i=>Fh P tb ev t x i)
  (fun t x i=>Ff P tb ev t x i)
  (fun _ _ _ _=>none)
  (fun _ _ _ _=>none)
  (fun _ _ _=>none)
  (fun _ _ _ _=>none)
  (fun _ _=>none)
  (fun _ _=>none)
  (fun _=>none)
  (fun _ _ _ _=>none)
  (fun x i=>Fc P tb ev x i)
  (fun c=>E9 P tb ev c)
  (fun _=>none)
  (fun _=>none)
  (fun _=>none)
  (fun _ _=>none)
  (fun _ _ _=>none)
  (fun _ _=>none)
  o
theorem adW(P:Program)(tb:Tab)(ev:Operand->Option SV)(o:Op):s6 P tb ev o=(match o with
 |.move x=>ev x
 |.assign x=>ev x
 |.pick c a b=>Fk P tb ev c a b
 |.nilCheck x=>Fj P tb ev x
 |.binOp op t x y _=>E7 P tb ev op t x y
 |.unOp op _ x=>Fm P tb ev op x
 |.convert src dst x=>Fb P tb ev src dst x
 |.fieldAddr s x f=>Fe P tb ev s x f
 |.field s x f=>Fd P tb ev s x f
 |.indexAddr t x i=>Fh P tb ev t x i
 |.index t x i=>Ff P tb ev t x i
 |.extract x i=>Fc P tb ev x i
 |.build t parts=>E8 P tb ev t parts
 |.makeFunc fn fi ca=>Fi P tb ev fn fi ca
 |.slice t x lo hi mx=>Fl P tb ev t x lo hi mx
 |.call c=>E9 P tb ev c
 |_=>none):=by cases o<;>rfl
def y4(e:E):List E->Bool
 |[]=>false
 |x::xs=>match x.beq e with | true=>true | false=>y4 e xs
def pS(e:E)(l:List E):Bool:=gf (lJ e) fun c=>y4 e (Dt c l)
def aD0:E->Bool
 |.and _ _=>true
 |_=>false
def Yr(pc:List E)(a:E):Bool:=match aD0 a with | true=>pS a pc | false=>false
def rP(pc:List E):E->Bool
 |.and a b=>match Yr pc a with
  |true=>rP pc b
  |false=>match rP pc a with | true=>rP pc b | false=>false
 |e=>pS e pc
def su(pc:List E)(e:E):List E->Bool
 |[]=>false
 |x::xs=>match x with
  |.imp p c=>match c.beq e with
   |true=>match rP pc p with
    |true=>true
    |false=>su pc e xs
   |false=>su pc e xs
  |_=>match x.beq e with
   |true=>true
   |false=>su pc e xs
def uO(pc:List E)(e:E)(l:List E):Bool:=gf (lJ e) fun n=>su pc e (Du n l)
def zv(a:Option Int)(b:Int):Option Int:=
 match a with
 |some x=>some (lS x b)
 |none=>some b
def zy(a:Option Int)(b:Int):Option Int:=
 match a with
 |some x=>some (oG x b)
 |none=>some b
def mR(c:E):List E->Option Int->Option Int
 |[],r=>r
 |e::es,r=>match e with
  |.not (.cmp .lss a (.int k))=>match (dM a).beq c with
   |true=>mR c es (zv r (k-fM a))
   |false=>mR c es r
  |.cmp .lss (.int k) a=>match (dM a).beq c with
   |true=>mR c es (zv r (k+1-fM a))
   |false=>mR c es r
  |.cmp .eql a (.int k)=>match (dM a).beq c with
   |true=>mR c es (zv r (k-fM a))
   |false=>mR c es r
  |_=>mR c es r
def mM(c:E):List E->Option Int->Option Int
 |[],r=>r
 |e::es,r=>match e with
  |.not (.cmp .lss (.int k) a)=>match (dM a).beq c with
   |true=>mM c es (zy r (k-fM a))
   |false=>mM c es r
  |.cmp .lss a (.int k)=>match (dM a).beq c with
   |true=>mM c es (zy r (k-1-fM a))
   |false=>mM c es r
  |.cmp .eql a (.int k)=>match (dM a).beq c with
   |true=>mM c es (zy r (k-fM a))
   |false=>mM c es r
  |_=>mM c es r
def zC:E->Bool
 |.fn f _=>match f with
  |0=>true
  |9=>true
  |13=>true
  |22=>true
  |26=>true
  |29=>true
  |_=>false
 |_=>false
def sM(c:E)(k:Int):List E->Bool
 |[]=>false
 |e::es=>match e with
  |.not (.cmp .eql a (.int j))=>match (dM a).beq c&&ji (j-fM a) k with
   |true=>true
   |false=>sM c k es
  |_=>sM c k es
def CP(pc:List E)(c:E):Nat->Int->Int
 |0,k=>k
 |n+1,k=>match sM c k pc with
  |true=>CP pc c n (k+1)
  |false=>k
def CO(pc:List E)(c:E):Nat->Int->Int
 |0,k=>k
 |n+1,k=>match sM c k pc with
  |true=>CO pc c n (k-1)
  |false=>k
def L3(c:E)(pc:List E):Option Int:=
 match mR c pc (match zC c with | true=>some 0 | false=>none)with
 |some k=>some (CP pc c 4 k)
 |none=>none
def Ll(c:E)(pc:List E):Option Int:=
 match mM c pc none with
 |some k=>some (CO pc c 4 k)
 |none=>none
def sH(pc:List E)(c:E):Option Int:=gf (lJ c) fun n=>L3 c (yF n pc)
def mN(pc:List E)(c:E):Option Int:=gf (lJ c) fun n=>Ll c (yF n pc)
def leI(a b:Int):Bool:=cK .leq a b
def qb(a b:Int):Bool:=cK .lss a b
def CM(pc:List E)(e:E):Option Bool:=
 match e with
 |.cmp .lss a (.int k)=>match sH pc (dM a)with
  |some x=>match leI k (x+fM a)with
   |true=>some false
   |false=>match mN pc (dM a)with
    |some y=>match qb (y+fM a) k with
     |true=>some true
     |false=>none
    |none=>none
  |none=>match mN pc (dM a)with
   |some y=>match qb (y+fM a) k with
    |true=>some true
    |false=>none
   |none=>none
 |.cmp .lss (.int k) a=>match sH pc (dM a)with
  |some x=>match qb k (x+fM a)with
   |true=>some true
   |false=>match mN pc (dM a)with
    |some y=>match leI (y+fM a) k with
     |true=>some false
     |false=>none
    |none=>none
  |none=>match mN pc (dM a)with
   |some y=>match leI (y+fM a) k with
    |true=>some false
    |false=>none
   |none=>none
 |.cmp .eql a (.int k)=>match sH pc (dM a)with
  |some x=>match qb k (x+fM a)with
   |true=>some false
   |false=>match mN pc (dM a)with
    |some y=>match qb (y+fM a) k with
     |true=>some false
     |false=>match ji (x+fM a) k&&ji (y+fM a) k with
      |true=>some true
      |false=>none
    |none=>none
  |none=>match mN pc (dM a)with
   |some y=>match qb (y+fM a) k with
    |true=>some false
    |false=>none
   |none=>none
 |_=>none
def adb:Option Bool->Option Bool
 |some b=>some (!b)
 |none=>none
def LO(fs pc:List E)(e:E):Option Bool:=
 match uO pc e pc with
  |true=>some true
  |false=>match uO pc (bm e) pc with
   |true=>some false
   |false=>match uO pc e fs with
    |true=>some true
    |false=>match uO pc (bm e) fs with
     |true=>some false
     |false=>match e with
      |.not x=>adb (CM pc x)
      |_=>CM pc e
noncomputable def aEn(e:E):Option Bool:=E.rec (motive:=fun _=>Option Bool) (fun _=>none) some (fun _=>none) (fun _=>none) (fun _ _ _ _ _ _=>none) (fun _ _ _ _ _=>none) (fun _ _ _ _=>none) (fun _ _ _ _=>none) (fun _ _ _=>none) (fun _ _=>none) (fun _ _ _ _=>none) (fun _ _ _ _=>none) (fun _ _ _ _=>none) (fun _ _ _ _=>none) (fun _ _ _=>none) (fun _ _ _ _=>none) e
noncomputable def fe(fs pc:List E)(e:E):Option Bool:=Option.rec (motive:=fun _=>Option Bool) (LO fs pc e) some (aEn e)
theorem aD8(fs pc:List E)(e:E):fe fs pc e=(match e with
 |.bool b=>some b
 |_=>LO fs pc e):=by cases e<;>rfl
def iU(fs pc:List E)(a b:E):Bool:=
 match fe fs pc (aN .lss a b)with
 |some true=>true
 |_=>false
def lN(fs pc:List E)(a b:E):Bool:=
 match fe fs pc (aN .lss a b)with
 |some false=>true
 |_=>false
def fg(fs pc:List E)(e:E):Bool:=
 match zC e with
 |true=>true
 |false=>lN fs pc e (.int 0)
inductive Rz where
 |lit (j:Nat)
 |ask (e:E)
 |lack (e:E)
def Ak(fs pc:List E)(i:E):Nat->Nat->Rz
 |0,_=>.lack (.bool false)
 |n+1,j=>match fe fs pc (aN .eql i (.int (.ofNat j)))with
  |some true=>.lit j
  |some false=>Ak fs pc i n (Nat.succ j)
  |none=>.ask (aN .eql i (.int (.ofNat j)))
def gL(o:Off):Option Nat:=match o.scale with | 0=>some o.base | _=>none
def vd(tb:Tab)(st:St)(t:TypeId)(x:SV):Option SV:=
 match x with
 |.ptr b o=>match st.heap.get b with
  |some ⟨_,.cells cs _ _⟩=>match gL o with
   |some n=>match jI tb t with
    |some true=>match dd tb t with
     |some sz=>match kZ (sa cs n) sz with
      |some l=>some (.agg l)
      |none=>none
     |none=>none
    |some false=>d9 cs n
    |none=>none
   |none=>none
  |_=>none
 |_=>none
def F4(tb:Tab)(st:St)(t:TypeId)(x v:SV):Option St:=
 match x with
 |.ptr b o=>match st.heap.get b with
  |some ⟨true,.cells cs af elem⟩=>match gL o with
   |some n=>match dd tb t with
    | some sz=>if Nat.beq v.cells.length sz&&nY v.cells then
      match oQ cs n v.cells with
      |some cs'=>T.setK st.heap b ⟨true,.cells cs' af elem⟩ fun h=>some {st with heap:=h}
      |none=>none
     else none
    |none=>none
   |none=>none
  |_=>none
 |_=>none
def sO(tmps:Tm)(st:St)(elem:TypeId)(cs:List SV):Option (SV×St):=
 if st.scp&&jT st.nv st.nb tmps&&SV.scps st.nv st.nb cs then
  T.insK st.heap st.nb ⟨true,.cells cs (.int (.ofNat cs.length)) elem⟩ fun h=>some (.ptr st.nb ⟨0,0,.int 0⟩,{st with nb:=Nat.succ st.nb,heap:=h})
 else none
def mY(z:List SV):Nat->List SV
 |0=>[]
 |n+1=>z++mY z n
inductive EffR where
 |val (v:SV) (st:St)
 |skip (st:St)
 |ask (e:E)
 |lack (e:E)
 |bad
def EffR.ofVal:Option SV->St->EffR
 |some v,st=>.val v st
 |none,_=>.bad
def EffR.ofPair:Option (SV×St)->EffR
 |some (v,st)=>.val v st
 |none=>.bad
noncomputable def isJunk(v:SV):Bool:=
 SV.rec (motive_1:=fun _=>Bool) (motive_2:=fun _=>Bool) (fun _ _=>false) (fun _=>false) (fun _=>false) false (fun _ _=>false) false (fun _ _ _ _=>false)
  (fun _ _ _=>false) (fun _ _=>false) (fun _ _ _ _=>false) false (fun _=>false) false false (fun _ _ _ _ _=>false) (fun _ _=>false) (fun _ _=>false) true
  (fun _ _ _ _ _=>false) (fun _ _ _ _ _ _ _=>false)
  false (fun _ _ _ _=>false) v
noncomputable def aC8(v:SV):Option SV:=Bool.rec (some v) none (isJunk v)
noncomputable def ZS(x:Option SV):Option SV:=Option.rec (motive:=fun _=>Option SV) (some .undef) aC8 x
noncomputable def bJ(tmps:Tm)(x:Operand):Option SV:=
 Operand.rec (motive:=fun _=>Option SV) (fun t=>ZS (tmps.get t)) ofVal (fun _=>none) (fun f=>some (.func (.func f) [] [])) x
theorem ZV(tmps:Tm)(t:Tmp):bJ tmps (.tmp t)=(match tmps.get t with
  |some v=>match v with
   |.junk=>none
   |_=>some v
  |none=>some .undef):=by
 show ZS (tmps.get t)=_;cases tmps.get t with
 |none=>rfl
 |some v=>cases v<;>rfl
theorem ZU(tmps:Tm)(g:Nat):bJ tmps (.global g)=none:=rfl
theorem ZT(tmps:Tm)(f:FuncId):bJ tmps (.func f)=some (.func (.func f) [] []):=rfl
def aR{G:Type}:List G->Nat
 |[]=>0
 |_::xs=>Nat.succ (aR xs)
def iD(w:Nat)(e:E):E:=
 match e with
 |.fn 24 (.pr _ (.pr l (.pr h _)))=>match l with
  |.int (.ofNat 0)=>h
  |_=>.fn 29 (.pr h l)
 |.fn 28 (.pr (.pr _ n) _)=>n
 |.fn 30 _=>.int 0
 |e=>match w with | 1=>iW e | _=>.fn 9 (.pr e (.int (.ofNat w)))
def pC(e:E):E:=
 match e with
 |.fn 24 (.pr _ (.pr l (.pr _ m)))=>match l with
  |.int (.ofNat 0)=>m
  |_=>.fn 29 (.pr m l)
 |.fn 30 _=>.int 0
 |e=>.fn 22 e
def eD(w:Nat)(idx:E)(j:Nat):E:=
 match w with
 |1=>idx
 |_=>match idx with
  |.int n=>.int (n * .ofNat w + .ofNat j)
  |_=>.fn 6 (.pr (.fn 8 (.pr idx (.int (.ofNat w)))) (.int (.ofNat j)))
def iZ(fs pc:List E):E->E->E
 |.fn 2 (.pr l' (.pr j v)),i=>match i.beq j with
  |true=>v
  |false=>match i,j with
   |.int (.ofNat _),.int (.ofNat _)=>iZ fs pc l' i
   |_,_=>match fe fs pc (aN .eql i j)with
    |some true=>match lN fs pc j (.int 0)with
     |true=>v
     |false=>.fn 1 (.pr (.fn 2 (.pr l' (.pr j v))) i)
    |some false=>match lN fs pc j (.int 0)with
     |true=>iZ fs pc l' i
     |false=>.fn 1 (.pr (.fn 2 (.pr l' (.pr j v))) i)
    |none=>.fn 1 (.pr (.fn 2 (.pr l' (.pr j v))) i)
 |.fn 3 (.pr a b),i=>match iU fs pc i (iW a)with
  |true=>iZ fs pc a i
  |false=>match lN fs pc i (iW a)with
   |true=>iZ fs pc b (jM i (iW a))
   |false=>.fn 1 (.pr (.fn 3 (.pr a b)) i)
 |.fn 23 (.pr x r),i=>match i with
  |.int (.ofNat n)=>match n with
   |0=>x
   |n+1=>iZ fs pc r (.int (.ofNat n))
  |_=>.fn 1 (.pr (.fn 23 (.pr x r)) i)
 |.fn 5 (.pr n x),i=>x
 |.fn 11 x,i=>x
 |.fn 21 (.pr r c),i=>iZ fs pc c i
 |.fn 28 (.pr r c),i=>iZ fs pc c i
 |.fn 24 (.pr (.pr (.int (.ofNat 1)) e) (.pr l m)),i=>match lN fs pc l (.int 0)with
  |true=>iZ fs pc e (dA l i)
  |false=>.fn 1 (.pr (.fn 24 (.pr (.pr (.int (.ofNat 1)) e) (.pr l m))) i)
 |l,i=>.fn 1 (.pr l i)
inductive FA where
 |at (idx:E) (j:Nat)
 |lack (e:E)
 |bad
def Dz(fs pc:List E)(n idx:E)(j:Nat):FA:=
 match iU fs pc idx n with
 |true=>.at idx j
 |false=>.lack (aN .lss idx n)
def oq(fs pc:List E)(w:Nat)(n:E)(o:Off):FA:=
 match w with
 |0=>.bad
 |_=>match o.scale with
  |0=>Dz fs pc n (.int (.ofNat (Nat.div o.base w))) (Nat.mod o.base w)
  |s=>match Nat.beq s w with
   |true=>match fg fs pc o.idx with
    |true=>Dz fs pc n (dA o.idx (.int (.ofNat (Nat.div o.base w)))) (Nat.mod o.base w)
    |false=>.lack (bm (aN .lss o.idx (.int 0)))
   |false=>.bad
def pD(c:CK)(e:E):SV:=
 match c with
 |.int k=>.int k e
 |.bool=>.bool e
 |.str=>.str e
 |.slc ks=>.bsl ks e
def uw(fs pc:List E)(ks:List CK)(w:Nat)(l idx:E):Nat->Nat->Option (List SV)
 |0,_=>some []
 |n+1,j=>match d9 ks j with
  |some c=>match uw fs pc ks w l idx n (Nat.succ j)with
   |some vs=>some (pD c (iZ fs pc l (eD w idx j))::vs)
   |none=>none
  |none=>none
def qa(tb:Tab)(st:St)(t:TypeId)(ks:List CK)(l idx:E)(j:Nat):EffR:=
 match jI tb t with
 |some true=>match dd tb t with
  |some sz=>match uw tb.facts st.pc ks (aR ks) l idx sz j with
   |some vs=>.val (.agg vs) st
   |none=>.bad
  |none=>.bad
 |some false=>match uw tb.facts st.pc ks (aR ks) l idx 1 j with
  |some vs=>match vs with
   |[v]=>.val v st
   |_=>.bad
  |none=>.bad
 |none=>.bad
def lO:E->E
 |.fn 21 (.pr x _)=>lO x
 |e=>e
def uB(e:E):E:=match e with
 |.fn 21 (.pr _ c)=>c
 |.fn 28 (.pr _ c)=>c
 |e=>e
def yd(b:Nat)(c:CK)(e idx:E)(j:Nat):SV:=
 match c with
 |.int k=>.int k e
 |.bool=>.bool e
 |.str=>.str e
 |.slc ks=>.nsl b ks e idx j
def ux(fs pc:List E)(b:Nat)(ks:List CK)(w:Nat)(l idx:E):Nat->Nat->Option (List SV)
 |0,_=>some []
 |n+1,j=>match d9 ks j with
  |some c=>match ux fs pc b ks w l idx n (Nat.succ j)with
   |some vs=>some (yd b c (iZ fs pc l (eD w idx j)) idx j::vs)
   |none=>none
  |none=>none
def zm(tb:Tab)(st:St)(t:TypeId)(b:Nat)(ks:List CK)(l idx:E)(j:Nat):EffR:=
 match jI tb t with
 |some true=>match dd tb t with
  |some sz=>match ux tb.facts st.pc b ks (aR ks) l idx sz j with
   |some vs=>.val (.agg vs) st
   |none=>.bad
  |none=>.bad
 |some false=>match ux tb.facts st.pc b ks (aR ks) l idx 1 j with
  |some vs=>match vs with
   |[v]=>.val v st
   |_=>.bad
  |none=>.bad
 |none=>.bad
inductive NA where
 |at (cur p:E)
 |lack (e:E)
 |bad
def ac0(e cur p:E):NA:=match (lO cur).beq (lO e)with | true=>.at cur p | false=>.bad
def sN(fs pc:List E)(h:T Blk)(b:Nat)(ks:List CK)(e idx:E)(c:Nat):NA:=
 match h.get b with
 |some ⟨true,.nest ks0 l n _ _ own⟩=>match d9 ks0 c with
  |some (.slc ks')=>match gK ks ks' with
   |true=>match fg fs pc idx with
    |true=>match iU fs pc idx n with
     |true=>match iU fs pc idx own with
      |true=>ac0 e (iZ fs pc l (eD (aR ks0) idx c)) (eD (aR ks0) idx c)
      |false=>.lack (aN .lss idx own)
     |false=>.lack (aN .lss idx n)
    |false=>.lack (bm (aN .lss idx (.int 0)))
   |false=>.bad
  |_=>.bad
 |_=>.bad
def zo(tb:Tab)(st:St)(t:TypeId)(x:SV):EffR:=
 match x with
 |.ptr b o=>match st.heap.get b with
  |some ⟨_,.flat ks l n _ _⟩=>match oq tb.facts st.pc (aR ks) n o with
   |.at idx j=>qa tb st t ks l idx j
   |.lack e=>.lack e
   |.bad=>.bad
  |some ⟨_,.nest ks l n _ _ own⟩=>match oq tb.facts st.pc (aR ks) n o with
   |.at idx j=>match iU tb.facts st.pc idx own with
    |true=>zm tb st t b ks l idx j
    |false=>match lN tb.facts st.pc idx own with
     |true=>qa tb st t ks l idx j
     |false=>.ask (aN .lss idx own)
   |.lack e=>.lack e
   |.bad=>.bad
  |_=>.bad
 |.bptr ks e idx j=>qa tb st t ks e idx j
 |.nptr b ks e idx c x j=>match sN tb.facts st.pc st.heap b ks e idx c with
  |.at cur _=>qa tb st t ks cur x j
  |.lack e=>.lack e
  |.bad=>.bad
 |_=>.bad
def om(c:CK)(v:SV):Option E:=
 match c,v with
 |.int k,.int k' e=>match fY k k' with | true=>some e | false=>none
 |.bool,.bool e=>some e
 |.str,.str e=>some e
 |.slc ks,.bsl ks' e=>match gK ks ks' with | true=>some e | false=>none
 |.slc _,.nils=>some (.fn 30 (.int 0))
 |_,_=>none
def vT:List CK->List SV->Option E
 |[],[]=>some (.fn 10 (.int 0))
 |c::cs,v::vs=>match om c v,vT cs vs with
  |some e,some r=>some (.fn 23 (.pr e r))
  |_,_=>none
 |_,_=>none
def sk(c:VK)(v:SV):Option E:=
 match c with
 |.one c=>om c v
 |.row ks=>match v with
  |.agg vs=>vT ks vs
  |_=>none
def uy(e:E):Nat->List CK->List SV
 |_,[]=>[]
 |i,c::cs=>pD c (.fn 1 (.pr e (.int (.ofNat i))))::uy e (Nat.succ i) cs
def wd(c:VK)(e:E):SV:=
 match c with
 |.one c=>pD c e
 |.row ks=>.agg (uy e 0 ks)
def putCells(ks:List CK)(w:Nat)(idx:E):List SV->Nat->E->Option E
 |[],_,l=>some l
 |v::vs,j,l=>match d9 ks j with
  |some c=>match om c v with
   |some e=>putCells ks w idx vs (Nat.succ j) (jN l (eD w idx j) e)
   |none=>none
  |none=>none
def MQ(c:CK)(v:SV):Bool:=
 match c,v with
 |.slc _,.nils=>true
 |.slc _,_=>false
 |_,_=>true
def Ft:List CK->Nat->List SV->Bool
 |_,_,[]=>true
 |ks,j,v::vs=>match d9 ks j with
  |some c=>MQ c v&&Ft ks (Nat.succ j) vs
  |none=>false
def Ni(st:St)(b:Nat)(l':E):EffR:=
 match st.heap.get b with
 |some ⟨true,.nest ks _ n af elem own⟩=>T.setK st.heap b ⟨true,.nest ks l' n af elem own⟩ fun h=>.skip {st with heap:=h}
 |_=>.bad
def ac1(st:St)(b:Nat):E:=
 match st.heap.get b with
 |some ⟨_,.nest _ l _ _ _ _⟩=>l
 |_=>.int 0
def Ad(tb:Tab)(st:St)(t:TypeId)(b:Nat)(ks:List CK)(x:E)(j:Nat)(v:SV)(cur p:E):EffR:=
 match dd tb t with
 |some sz=>match Nat.beq v.cells.length sz&&Nat.ble j (aR ks)with
  |true=>match putCells ks (aR ks) x v.cells j (uB cur)with
   |some c'=>Ni st b (jN (ac1 st b) p (.fn 21 (.pr (lO cur) c')))
   |none=>.bad
  |false=>.bad
 |none=>.bad
def tc(tb:Tab)(st:St)(t:TypeId)(x v:SV):EffR:=
 match x with
 |.nptr b ks e idx c x j=>match sN tb.facts st.pc st.heap b ks e idx c with
  |.at cur p=>Ad tb st t b ks x j v cur p
  |.lack e=>.lack e
  |.bad=>.bad
 |.ptr b o=>match st.heap.get b with
  |some ⟨true,.flat ks l n af elem⟩=>match oq tb.facts st.pc (aR ks) n o with
   |.at idx j=>match dd tb t with
    |some sz=>match Nat.beq v.cells.length sz with
     |true=>match putCells ks (aR ks) idx v.cells j l with
      |some l'=>T.setK st.heap b ⟨true,.flat ks l' n af elem⟩ fun h=>.skip {st with heap:=h}
      |none=>.bad
     |false=>.bad
    |none=>.bad
   |.lack e=>.lack e
   |.bad=>.bad
  |some ⟨true,.nest ks l n af elem own⟩=>match oq tb.facts st.pc (aR ks) n o with
   |.at idx j=>match dd tb t with
    |some sz=>match Nat.beq v.cells.length sz&&Ft ks j v.cells with
     |true=>match putCells ks (aR ks) idx v.cells j l with
      |some l'=>T.setK st.heap b ⟨true,.nest ks l' n af elem own⟩ fun h=>.skip {st with heap:=h}
      |none=>.bad
     |false=>.bad
    |none=>.bad
   |.lack e=>.lack e
   |.bad=>.bad
  |_=>.bad
 |_=>.bad
def Co(fs pc:List E)(o:Off)(sz:Nat)(i:E):Option Off:=
 match o.scale with
 |0=>some ⟨o.base,sz,i⟩
 |s=>match Nat.beq s sz with
  |true=>match fg fs pc o.idx with
   |true=>some ⟨o.base,sz,dA o.idx i⟩
   |false=>none
  |false=>none
def lit(k:IntKind)(j:Nat):SV:=.int k (.int (.ofNat j))
def pv(tb:Tab)(st:St)(e:E)(n:Nat)(f:Nat->Option SV):EffR:=
 match Ak tb.facts st.pc e n 0 with
 |.lit j=>.ofVal (f j) st
 |.ask e=>.ask e
 |.lack e=>.lack e
inductive BK where
 |cells | flat (n:E) | other
def Eb(st:St)(b:Nat):BK:=
 match st.heap.get b with
 |some ⟨_,.flat _ _ n _ _⟩=>.flat n
 |some ⟨_,.nest _ _ n _ _ _⟩=>.flat n
 |some ⟨_,.cells _ _ _⟩=>.cells
 |_=>.other
def pQ(tb:Tab)(st:St)(e l:E)(k:EffR):EffR:=
 match fg tb.facts st.pc e with
 |true=>match iU tb.facts st.pc e l with
  |true=>k
  |false=>.lack (aN .lss e l)
 |false=>.lack (bm (aN .lss e (.int 0)))
def yS(tb:Tab)(st:St)(t:TypeId)(x i:SV):EffR:=
 match i with
 |.int k e=>match tb.und t with
  |some (.array len _)=>match x with
   |.ptr _ _=>pv tb st e len fun j=>pR tb t x (lit k j)
   |_=>.bad
  |some (.slice elem)=>match dd tb elem with
   |some sz=>match x with
    |.slice b o l _=>match Eb st b with
     |.flat _=>pQ tb st e l (match Co tb.facts st.pc o sz e with
      |some o'=>.val (.ptr b o') st
      |none=>.bad)
     |_=>match fK l with
      |some n=>pv tb st e n fun j=>pR tb t x (lit k j)
      |none=>.bad
    |.nslice b l _=>match Eb st b with
     |.flat n=>pQ tb st e l (match iU tb.facts st.pc e n with
      |true=>.val (.ptr b ⟨0,sz,e⟩) st
      |false=>.lack (aN .lss e n))
     |.cells=>match fK l with
      |some n=>pv tb st e n fun j=>match Nat.blt j n with
       |true=>some (.ptr b ⟨Nat.mul j sz,0,.int 0⟩)
       |false=>none
      |none=>.bad
     |.other=>.bad
    |.bsl ks y=>match Nat.beq (aR ks) sz&&Nat.blt 0 sz with
     |true=>pQ tb st e (iD sz y) (.val (.bptr ks y e 0) st)
     |false=>.bad
    |.nsl b ks y idx c=>match Nat.beq (aR ks) sz&&Nat.blt 0 sz with
     |true=>match sN tb.facts st.pc st.heap b ks y idx c with
      |.at cur _=>pQ tb st e (iD sz cur) (.val (.nptr b ks y idx c e 0) st)
      |.lack e=>.lack e
      |.bad=>.bad
     |false=>.bad
    |_=>.bad
   |none=>.bad
  |_=>.bad
 |_=>.bad
def yT(tb:Tab)(st:St)(t:TypeId)(x i:SV):EffR:=
 match i with
 |.int k e=>match tb.und t with
  |some (.array len _)=>pv tb st e len fun j=>uR tb t x (lit k j)
  |_=>.bad
 |_=>.bad
def pX(tb:Tab)(st:St)(e:E):EffR:=
 match fg tb.facts st.pc e with
 |true=>.val (.int .i64 e) st
 |false=>.lack (bm (aN .lss e (.int 0)))
def u6(tb:Tab)(st:St)(c:Bool)(t:TypeId)(x:SV):EffR:=
 match tb.und t with
 |some (.slice elem)=>match x with
  |.slice _ _ l m=>pX tb st (match c with | true=>m | false=>l)
  |.nslice _ l m=>pX tb st (match c with | true=>m | false=>l)
  |.bsl ks e=>match ks with
   |[]=>.bad
   |_=>pX tb st (match c with | true=>pC e | false=>iD (aR ks) e)
  |.nsl b ks e idx j=>match ks with
   |[]=>.bad
   |_=>match sN tb.facts st.pc st.heap b ks e idx j with
    |.at cur _=>pX tb st (match c with | true=>pC (lO cur) | false=>iD (aR ks) cur)
    |.lack e=>.lack e
    |.bad=>.bad
  |_=>.bad
 |some .string=>match c with
  |true=>.bad
  |false=>match x with
   |.str e=>.val (.int .i64 (.fn 13 e)) st
   |_=>.bad
 |some (.map _ _)=>match c with
  |true=>.bad
  |false=>match x with
  |.map b=>match st.heap.get b with
   |some ⟨_,.map es _⟩=>.val (.int .i64 (.int (.ofNat (aR es)))) st
   |some ⟨_,.mapl _ _ e⟩=>.val (.int .i64 (.fn 0 e)) st
   |_=>.bad
  |_=>.bad
 |_=>.bad
def dD(fs pc:List E)(a b:E):Bool:=lN fs pc b a
def fN(d:E):Option SV->Option E
 |none=>some d
 |some (.int _ e)=>some e
 |some _=>none
def J5(fs pc:List E)(c lo hi mx:E)(hlo hhi hmx:Bool):Option E:=
 match hlo && !(fg fs pc lo)with
 |true=>some (bm (aN .lss lo (.int 0)))
 |false=>match hhi && !(fg fs pc hi)with
  |true=>some (bm (aN .lss hi (.int 0)))
  |false=>match hmx && !(fg fs pc mx)with
   |true=>some (bm (aN .lss mx (.int 0)))
   |false=>match hmx && !(dD fs pc mx c)with
    |true=>some (bm (aN .lss c mx))
    |false=>match hhi && !(dD fs pc hi mx)with
     |true=>some (bm (aN .lss mx hi))
     |false=>match hlo && !(dD fs pc lo hi)with
      |true=>some (bm (aN .lss hi lo))
      |false=>none
def iv:Option SV->Bool | some _=>true | none=>false
def EF(fs pc:List E)(lo hi mx:E):Option Bool:=
 match iU fs pc lo hi&&dD fs pc hi mx with
 |true=>some true
 |false=>match fe fs pc (aN .eql mx lo)with
  |some true=>some false
  |some false=>some true
  |none=>none
def tv:E->Bool
 |.int (.ofNat n)=>Nat.beq n 0
 |_=>false
def Ks(fs pc:List E)(len cap lo hi mx:E)(hlo hhi hmx:Bool):Option E:=
 match hlo && !(fg fs pc lo)with
 |true=>some (bm (aN .lss lo (.int 0)))
 |false=>match hhi && !(fg fs pc hi)with
  |true=>some (bm (aN .lss hi (.int 0)))
  |false=>match hmx && !(fg fs pc mx)with
   |true=>some (bm (aN .lss mx (.int 0)))
   |false=>match hmx && !(dD fs pc mx cap||dD fs pc mx len)with
    |true=>some (bm (aN .lss len mx))
    |false=>match hhi && !(dD fs pc hi len)with
     |true=>some (bm (aN .lss len hi))
     |false=>match hmx && !(dD fs pc hi mx)with
      |true=>some (bm (aN .lss mx hi))
      |false=>match hlo && !(dD fs pc lo hi)with
       |true=>some (bm (aN .lss hi lo))
       |false=>none
def uZ(fs pc:List E):List E->E
 |[]=>.bool false
 |c::cs=>match fe fs pc c with
  |some true=>uZ fs pc cs
  |_=>c
def yj(tb:Tab)(st:St)(sz:Nat)(x:SV)(lo hi mx:E):EffR:=
 match x with
 |.nslice b _ c=>match tv lo with
  |true=>.val (.nslice b hi mx) st
  |false=>match EF tb.facts st.pc lo hi mx with
   |some false=>match dD tb.facts st.pc hi mx&&dD tb.facts st.pc lo hi with
    |true=>.val (.nslice b (.int 0) (.int 0)) st
    |false=>.lack (uZ tb.facts st.pc [bm (aN .lss mx hi),bm (aN .lss hi lo)])
   |some true=>match st.heap.get b with
    |some ⟨_,.flat _ _ _ af _⟩=>match dD tb.facts st.pc c af&&(dD tb.facts st.pc mx c&&(fg tb.facts st.pc lo&&(dD tb.facts st.pc lo hi&&dD tb.facts st.pc hi mx)))with
     |true=>.val (.slice b ⟨0,sz,lo⟩ (jM hi lo) (jM mx lo)) st
     |false=>.lack (uZ tb.facts st.pc [bm (aN .lss af c),bm (aN .lss c mx),bm (aN .lss lo (.int 0)),bm (aN .lss hi lo),bm (aN .lss mx hi)])
    |some ⟨_,.cells _ _ _⟩=>match fK lo with
     |some n=>match dD tb.facts st.pc lo hi&&dD tb.facts st.pc hi mx with
      |true=>.val (.slice b ⟨Nat.mul n sz,0,.int 0⟩ (jM hi lo) (jM mx lo)) st
      |false=>.bad
     |none=>.bad
    |_=>.bad
   |none=>.ask (aN .eql mx lo)
 |.slice b o _ _=>match tv lo with
  |true=>.val (.slice b o hi mx) st
  |false=>match EF tb.facts st.pc lo hi mx with
   |some false=>match dD tb.facts st.pc hi mx&&dD tb.facts st.pc lo hi with
    |true=>.val (.slice b o (.int 0) (.int 0)) st
    |false=>.bad
   |some true=>match fg tb.facts st.pc lo&&(dD tb.facts st.pc lo hi&&dD tb.facts st.pc hi mx)with
    |true=>match fK lo with
     |some n=>.val (.slice b (rN o (Nat.mul n sz)) (jM hi lo) (jM mx lo)) st
     |none=>match Co tb.facts st.pc o sz lo with
      |some o'=>.val (.slice b o' (jM hi lo) (jM mx lo)) st
      |none=>.bad
    |false=>.bad
   |none=>.ask (aN .eql mx lo)
 |_=>.bad
def LS:SV->Option (E×E)
 |.slice _ _ l c=>some (l,c)
 |.nslice _ l c=>some (l,c)
 |_=>none
def zY(tb:Tab)(st:St)(t:TypeId)(x:SV)(lo hi mx:Option SV):EffR:=
 match tb.und t with
 |some (.slice elem)=>match dd tb elem with
  |some sz=>match iv mx && !(iv hi)with
   |true=>.bad
   |false=>match x with
    |.bsl ks e=>match Nat.beq (aR ks) sz&&Nat.blt 0 sz with
     |true=>match fN (.int 0) lo,fN (iD sz e) hi,fN (pC e) mx with
      |some lo',some hi',some mx'=>match Ks tb.facts st.pc (iD sz e) (pC e) lo' hi' mx' (iv lo) (iv hi) (iv mx)with
       |some e=>.lack e
       |none=>.val (.bsl ks (.fn 24 (.pr (.pr (.int (.ofNat sz)) e) (.pr lo' (.pr hi' mx'))))) st
      |_,_,_=>.bad
     |false=>.bad
    |_=>match LS x with
     |some (l,c)=>match fN (.int 0) lo,fN l hi,fN c mx with
      |some lo',some hi',some mx'=>match J5 tb.facts st.pc c lo' hi' mx' (iv lo) (iv hi) (iv mx)with
       |some e=>.lack e
       |none=>yj tb st sz x lo' hi' mx'
      |_,_,_=>.bad
     |none=>.bad
  |none=>.bad
 |_=>.bad
def gV:List SV->List SV->Nat->Option E
 |[],[],0=>some (.bool true)
 |x::xs,y::ys,n+1=>match x,y with
  |.int k a,.int k' b=>match fY k k',gV xs ys n with
   |true,some e=>some (zz (aN .eql a b) e)
   |_,_=>none
  |_,_=>none
 |_,_,_=>none
def yy(tb:Tab)(t:TypeId)(x y:SV):Option E:=
 match tb.und t with
 |some (.array len elem)=>match tb.und elem with
  |some (.int _)=>match dd tb elem,jI tb elem with
   |some 1,some false=>match x,y with
    |.agg xs,.agg ys=>gV xs ys len
    |_,_=>none
   |_,_=>none
  |_=>none
 |some .bool=>match x,y with
  |.bool a,.bool b=>EC a b
  |_,_=>none
 |some (.int _)=>match x,y with
  |.int k a,.int k' b=>match fY k k' with
   |true=>some (aN .eql a b)
   |false=>none
  |_,_=>none
 |some .string=>match x,y with
  |.str a,.str b=>some (mS a b)
  |_,_=>none
 |_=>none
inductive FR where
 |at (i:Nat) (v:SV) (born:E)
 |no
 |ask (e:E)
 |bad
def pI(tb:Tab)(pc:List E)(kt:TypeId)(k:SV):List Ent->Nat->FR
 |[],_=>.no
 |x::es,i=>match yy tb kt k x.k with
  |some e=>match fe tb.facts pc e with
   |some true=>.at i x.v x.born
   |some false=>pI tb pc kt k es (Nat.succ i)
   |none=>.ask e
  |none=>.bad
def sE(tb:Tab)(kt:TypeId)(k:SV):Bool:=
 match yy tb kt k k with
 |some _=>true
 |none=>false
def ky(ok:Bool)(v:SV)(is:E):SV:=match ok with | true=>.tup [v,.bool is] | false=>v
def zp(tb:Tab)(st:St)(t:TypeId)(x k:SV)(ok:Bool):EffR:=
 match tb.und t with
 |some (.map kt vt)=>match i7 tb vt,sE tb kt k with
  |some z,true=>match x with
   |.nilm=>.val (ky ok z (.bool false)) st
   |.map b=>match st.heap.get b with
    |some ⟨_,.map es _⟩=>match pI tb st.pc kt k es 0 with
     |.at _ v _=>.val (ky ok v (.bool true)) st
     |.no=>.val (ky ok z (.bool false)) st
     |.ask e=>.ask e
     |.bad=>.bad
    |some ⟨_,.mapl k0 c e⟩=>match k,sk c z with
     |.int k1 ke,some ze=>match fY k1 k0 with
      |true=>.val (ky ok (wd c (.fn 32 (.pr e (.pr ke ze)))) (.fn 33 (.pr e ke))) st
      |false=>.bad
     |_,_=>.bad
    |_=>.bad
   |_=>.bad
  |_,_=>.bad
 |_=>.bad
def C9(tb:Tab)(tmps:Tm)(st:St)(t:TypeId)(x:Operand):EffR:=
 match bJ tmps x with
  |some v=>match vd tb st t v with
   |some u=>.val u st
   |none=>zo tb st t v
  |none=>.bad
def Dd(tb:Tab)(tmps:Tm)(st:St)(t:TypeId)(x:Operand)(y:Operand):EffR:=
 match bJ tmps x,bJ tmps y with
  |some v,some w=>match F4 tb st t v w with
   |some st'=>.skip st'
   |none=>tc tb st t v w
  |_,_=>.bad
def C8(tb:Tab)(tmps:Tm)(st:St)(t:TypeId)(x:Operand)(i:Operand):EffR:=
 match bJ tmps x,bJ tmps i with
  |some v,some w=>yS tb st t v w
  |_,_=>.bad
def C7(tb:Tab)(tmps:Tm)(st:St)(t:TypeId)(x:Operand)(i:Operand):EffR:=
 match bJ tmps x,bJ tmps i with
  |some v,some w=>yT tb st t v w
  |_,_=>.bad
def C6(tb:Tab)(tmps:Tm)(st:St)(c:Call):EffR:=
 match c.callee with
  |.builtin b=>match d9 c.argTypes.toList 0,jG (bJ tmps) c.args.toList with
   |some t,some vs=>match d9 vs 0 with
    |some v=>match b with
     |.len=>u6 tb st false t v
     |.cap=>u6 tb st true t v
     |_=>.bad
    |none=>.bad
   |_,_=>.bad
  |_=>.bad
def Dc(tb:Tab)(tmps:Tm)(st:St)(t:TypeId)(x:Operand)(lo:Option Operand)(hi:Option Operand)(mx:Option Operand):EffR:=
 match bJ tmps x,pH (bJ tmps) lo,pH (bJ tmps) hi,pH (bJ tmps) mx with
  |some v,some l,some h,some m=>zY tb st t v l h m
  |_,_,_,_=>.bad
def Da(tb:Tab)(tmps:Tm)(st:St)(t:TypeId)(x:Operand)(k:Operand)(ok:Bool):EffR:=
 match bJ tmps x,bJ tmps k with
  |some v,some w=>zp tb st t v w ok
  |_,_=>.bad
def C4(tb:Tab)(tmps:Tm)(st:St)(elem:TypeId)(x:Operand):EffR:=
 match bJ tmps x with
  |some v=>.ofPair (sO tmps st elem v.cells)
  |none=>.bad
def C2(tb:Tab)(tmps:Tm)(st:St)(elem:TypeId):EffR:=
 match i7 tb elem with
  |some v=>.ofPair (sO tmps st elem v.cells)
  |none=>.bad
def C5(tb:Tab)(tmps:Tm)(st:St)(t:TypeId)(len:Nat)(parts:Array (Nat×Operand)):EffR:=
 match tb.und t,og (bJ tmps) parts.toList with
  |some (.slice elem),some ps=>match dd tb elem,i7 tb elem with
   |some sz,some z=>if Nat.ble (Nat.mul len sz) 16777216&&Nat.beq z.cells.length sz then match mI (fun i=>some (Nat.mul i sz,sz)) (mY z.cells len) ps with
    |some cs=>match sO tmps st elem cs with
     |some (.ptr b o,st')=>.val (.slice b o (.int (.ofNat len)) (.int (.ofNat len))) st'
     |_=>.bad
    |none=>.bad
    else .bad
   |_,_=>.bad
  |_,_=>.bad
def shF(tb:Tab)(st:St)(op:BinOp)(k:IntKind)(a b:E):EffR:=
 match fe tb.facts st.pc (aN .lss b (.int 0))with
 |some false=>.val (.int k (jl op k a b)) st
 |_=>.lack (bm (aN .lss b (.int 0)))
def ad4(tb:Tab)(st:St)(op:BinOp)(k:IntKind)(a:E)(k':IntKind)(b:E):EffR:=
 match fY k k' with
 |true=>match fe tb.facts st.pc (aN .eql b (.int 0))with
  |some false=>match op with
   |.quo=>.val (.int k (jl .quo k a b)) st
   |.rem=>.val (.int k (jl .rem k a b)) st
   |_=>.bad
  |_=>match op with
   |.quo=>.lack (bm (aN .eql b (.int 0)))
   |.rem=>.lack (bm (aN .eql b (.int 0)))
   |_=>.bad
 |false=>.bad
def r9(tb:Tab)(st:St)(op:BinOp)(k:IntKind)(a:E)(k':IntKind)(b:E):EffR:=
 .bad
def C3(tb:Tab)(tmps:Tm)(st:St)(op:BinOp)(t:TypeId)(x:Operand)(y:Operand):EffR:=
 match bJ tmps x,bJ tmps y with
  |some (.int k a),some (.int k' b)=>r9 tb st op k a k' b
  |some (.ptr a i),some (.ptr b j)=>
   match tb.und t with
   |some (.pointer elem)=>match dd tb elem with
    |some (Nat.succ _)=>match st.heap.get a,st.heap.get b,gL i,gL j with
     |some ⟨own1,.cells (_::_) _ _⟩,some ⟨own2,.cells (_::_) _ _⟩,some m,some n=>
      match own1||own2 with
      |true=>match op with
       |.eql=>.val (.bool (.bool (Nat.beq a b&&Nat.beq m n))) st
       |.neq=>.val (.bool (.bool (!(Nat.beq a b&&Nat.beq m n)))) st
       |_=>.bad
      |false=>.bad
     |_,_,_,_=>.bad
    |_=>.bad
   |_=>.bad
  |_,_=>.bad
def Db(tb:Tab)(tmps:Tm)(st:St)(c:Operand)(a:Operand)(b:Operand):EffR:=
 match bJ tmps c with
  |some (.bool e)=>match fe tb.facts st.pc e with
   |some true=>.ofVal (bJ tmps a) st
   |some false=>.ofVal (bJ tmps b) st
   |none=>.ask e
  |_=>.bad
noncomputable def n9(tb:Tab)(tmps:Tm)(st:St)(o:Op):EffR:=
 Op.rec (motive:=fun _=>EffR)
  (fun _=>.bad)
  (fun _=>.bad)
  (fun c a b=>Db tb tmps st c a b)
  (fun elem=>C2 tb tmps st elem)
  (fun elem x=>C4 tb tmps st elem x)
  (fun _ _=>.bad)
  (fun t len parts=>C5 tb tmps st t len parts)
  (fun _ _ _ _=>.bad)
  (fun t x=>C9 tb tmps st t x)
  (fun t x y=>Dd tb tmps st t x y)
  (fun _=>.bad)
  (fun _=>.bad)
  (fun _=>.bad)
  (fun op t x y _=>C3 tb tmps st op t x y)
  (fun _ _ _=>.bad)
  (fun _ _ _=>.bad)
  (fun _ _=>.bad)
  (fun _ _=>.bad)
  (fun _ _ _=>.bad)
  (fun _ _=>.bad)
  (fun _ _=>.bad)
  (fun _ _ _=>.bad)
  (fun t x lo hi mx=>Dc tb tmps st t x lo hi mx)
  (fun _ _ _=>.bad)
  (fun _ _ _=>.bad)
  (fun t x i=>C8 tb tmps st t x i)
  (fun t x i=>C7 tb tmps st t x i)
  (fun t x k ok=>Da tb tmps st t x k ok)
  (fun _ _ _ _=>.bad)
  (fun _ _ _=>.bad)
  (fun _ _ _ _=>.bad)
  (fun _ _=>.bad)
  (fun _ _=>.bad)
  (fun _=>.bad)
  (fun _ _ _ _=>.bad)
  (fun _ _=>.bad)
  (fun c=>C6 tb tmps st c)
  (fun _=>.bad)
  (fun _=>.bad)
  (fun _=>.bad)
  (fun _ _=>.bad)
  (fun _ _ _=>.bad)
  (fun _ _=>.bad)
  o
theorem Zz(tb:Tab)(tmps:Tm)(st:St)(o:Op):n9 tb tmps st o=(match o with
 |.load t x=>C9 tb tmps st t x
 |.store t x y=>Dd tb tmps st t x y
 |.indexAddr t x i=>C8 tb tmps st t x i
 |.index t x i=>C7 tb tmps st t x i
 |.call c=>C6 tb tmps st c
 |.slice t x lo hi mx=>Dc tb tmps st t x lo hi mx
 |.lookup t x k ok=>Da tb tmps st t x k ok
 |.box elem x=>C4 tb tmps st elem x
 |.alloc elem=>C2 tb tmps st elem
 |.buildSlice t len parts=>C5 tb tmps st t len parts
 |.binOp op t x y _=>C3 tb tmps st op t x y
 |.pick c a b=>Db tb tmps st c a b
 |_=>.bad):=by cases o<;>rfl
def abm(f:TypeId->Option (List CK)):List Field->Option (List CK)
 |[]=>some []
 |fd::fds=>match f fd.type,abm f fds with
  |some a,some b=>some (a++b)
  |_,_=>none
def oE(l:List CK):Nat->List CK
 |0=>[]
 |n+1=>l++oE l n
def zh(tb:Tab):Nat->TypeId->Option (List CK)
 |0,_=>none
 |d+1,t=>match tb.und t with
  |some (.int k)=>some [.int k]
  |some .bool=>some [.bool]
  |some .string=>some [.str]
  |some (.slice e)=>match zh tb d e with
   |some ks=>some [.slc ks]
   |none=>none
  |some (.struct fs)=>abm (zh tb d) fs.toList
  |some (.array n e)=>match zh tb d e with
   |some ks=>some (oE ks n)
   |none=>none
  |_=>none
def sj:List CK->List SV->Option (List E)
 |[],[]=>some []
 |c::cs,v::vs=>match om c v,sj cs vs with
  |some e,some l=>some (e::l)
  |_,_=>none
 |_,_=>none
def Es(ks:List CK)(n:Nat)(vs:List SV):Option E:=
 match sj (oE ks n) vs with
 |some l=>some (cU l)
 |none=>none
inductive Held where
 |cells (vs:List SV)
 |list (ks:List CK) (l n:E)
def wc(w:Nat)(l n lo len:E):E:=
 match tv lo&&len.beq n with
 |true=>l
 |false=>match w with
  |1=>.fn 4 (.pr l (.pr lo (dA lo len)))
  |_=>match tv lo with
   |true=>.fn 18 (.pr l (.fn 8 (.pr len (.int (.ofNat w)))))
   |false=>.fn 4 (.pr l (.pr (.fn 8 (.pr lo (.int (.ofNat w)))) (.fn 8 (.pr (dA lo len) (.int (.ofNat w))))))
def E0(w:Nat)(o:Off):Option E:=
 match o.scale with
 |0=>match Nat.beq (Nat.mod o.base w) 0 with
  |true=>some (.int (.ofNat (Nat.div o.base w)))
  |false=>none
 |s=>match Nat.beq s w&&Nat.beq o.base 0 with
  |true=>some o.idx
  |false=>none
def CY(tb:Tab)(st:St)(sz:Nat)(v:SV):Option Held:=
 match v with
 |.nils=>some (.cells [])
 |.bsl ks e=>match Nat.beq (aR ks) sz&&Nat.blt 0 sz with
  |true=>some (.list ks e (iD sz e))
  |false=>none
 |.slice b o len _=>match st.heap.get b with
  |some ⟨_,.cells cs _ _⟩=>match fK len,gL o with
   |some n,some m=>match kZ (sa cs m) (Nat.mul n sz)with
    |some l=>match nY l with
     |true=>some (.cells l)
     |false=>none
    |none=>none
   |_,_=>none
  |some ⟨_,.flat ks l n _ _⟩=>match Nat.beq (aR ks) sz&&Nat.blt 0 sz,E0 sz o with
   |true,some lo=>match fg tb.facts st.pc lo&&(fg tb.facts st.pc len&&dD tb.facts st.pc (dA lo len) n)with
    |true=>some (.list ks (wc sz l n lo len) len)
    |false=>none
   |_,_=>none
  |_=>none
 |.nslice b len _=>match st.heap.get b with
  |some ⟨_,.cells cs _ _⟩=>match fK len with
   |some n=>match kZ cs (Nat.mul n sz)with
    |some l=>match nY l with
     |true=>some (.cells l)
     |false=>none
    |none=>none
   |none=>none
  |some ⟨_,.flat ks l n _ _⟩=>match Nat.beq (aR ks) sz&&Nat.blt 0 sz with
   |true=>match fg tb.facts st.pc len&&dD tb.facts st.pc len n with
    |true=>some (.list ks (wc sz l n (.int 0) len) len)
    |false=>none
   |false=>none
  |_=>none
 |_=>none
def o4(tmps:Tm)(st:St):Bool:=st.scp&&jT st.nv st.nb tmps
def Gw(sz:Nat)(c:E):E:=match sz with | 1=>c | _=>.fn 8 (.pr c (.int (.ofNat sz)))
def adi(sz:Nat)(elem:TypeId)(ct:Held)(c:E):SObj:=
 match ct with
 |.cells vs=>.cells vs (Gw sz c) elem
 |.list ks l n=>.flat ks l n c elem
def Held.scp(nv nb:Nat):Held->Bool
 |.cells vs=>SV.scps nv nb vs
 |.list _ l n=>l.scp nv&&n.scp nv
def pM(tmps:Tm)(st:St)(sz:Nat)(elem:TypeId)(ct:Held)(need:E):Option (SV×St):=
 let c:=E.var st.nv
 match o4 tmps st&&(need.scp st.nv&&ct.scp st.nv st.nb)with
 |true=>T.insK st.heap st.nb ⟨true,adi sz elem ct c⟩ fun h=>some (.nslice st.nb need c,⟨Nat.succ st.nv,Nat.succ st.nb,h,bm (aN .lss c need)::bm (aN .lss c (.int 0))::st.pc⟩)
 |false=>none
def MU(l l':E):E:=
 match DX l with
 |true=>l'
 |false=>.fn 3 (.pr l l')
def JU(sz:Nat)(n m:Option Nat)(a b:Held):Option Held:=
 match a,b with
 |.cells x,.cells y=>some (.cells (x++y))
 |.list ks l n,.list ks' l' n'=>match gK ks ks' with
  |true=>some (.list ks (EB l l') (dA n n'))
  |false=>none
 |.list ks l n,.cells y=>match m with
  |some m=>match Es ks m y with
   |some l'=>some (.list ks (EB l l') (dA n (.int (.ofNat m))))
   |none=>none
  |none=>none
 |.cells x,.list ks l' n'=>match n with
  |some n=>match Es ks n x with
   |some l=>some (.list ks (MU l l') (dA (.int (.ofNat n)) n'))
   |none=>none
  |none=>none
def sF(sz:Nat)(v:SV):Option E:=
 match v with
 |.nils=>some (.int 0)
 |.slice _ _ l _=>some l
 |.nslice _ l _=>some l
 |.bsl _ e=>some (iD sz e)
 |_=>none
def rV(v:SV):Option E:=
 match v with
 |.nils=>some (.int 0)
 |.slice _ _ _ c=>some c
 |.nslice _ _ c=>some c
 |.bsl _ e=>some (pC e)
 |_=>none
inductive Eff2 where
 |val (v:SV) (st:St)
 |skip (st:St)
 |ask (e:E)
 |lack (e:E)
 |bad
def jD:E:=.int 2147483648
def Ah(sz:Nat)(c af:E):Bool:=
 match fK c with
 |some n=>(E.int (.ofNat (Nat.mul n sz))).beq af
 |none=>(Gw sz c).beq af
def GI(st:St)(sz:Nat)(elem:TypeId)(v:SV):Option Nat:=
 match v with
 |.nslice b _ c=>match st.heap.get b with
  |some ⟨true,.flat ks _ _ af e⟩=>match c.beq af&&(Nat.beq (aR ks) sz&&Nat.beq e elem)with | true=>some b | false=>none
  |some ⟨true,.cells _ af e⟩=>match Ah sz c af&&Nat.beq e elem with | true=>some b | false=>none
  |_=>none
 |.slice b o _ c=>match gL o with
  |some 0=>match st.heap.get b with
   |some ⟨true,.cells _ af e⟩=>match Ah sz c af&&Nat.beq e elem with | true=>some b | false=>none
   |_=>none
  |_=>none
 |_=>none
def J7(tb:Tab)(t:TypeId):Option Nat:=
 match tb.ty.get t with
 |some i=>some i.bytes
 |none=>none
def zF(old:SObj)(ct:Held):Option SObj:=
 match old,ct with
 |.cells _ af e,.cells vs=>some (.cells vs af e)
 |.flat _ _ _ af e,.list ks l n=>some (.flat ks l n af e)
 |_,_=>none
def aaL(old:SObj)(ct:Held):Bool:=
 match old,ct with
 |.cells _ _ _,_=>true
 |.flat _ _ _ _ _,.list _ _ _=>true
 |_,_=>false
def Gt(tmps:Tm)(st:St)(b:Nat)(sz:Nat)(elem:TypeId)(ct:Held)(need:E):Option (SV×St):=
 match st.heap.get b with
 |some ⟨_,old⟩=>match aaL old ct with
  |true=>T.setK st.heap b ⟨true,.gone⟩ fun h=>pM tmps {st with heap:=h} sz elem ct need
  |false=>none
 |none=>none
def uT:SV->Bool
 |.bsl _ _=>true
 |_=>false
def Eff2.ofPair:Option (SV×St)->Eff2
 |some (v,st)=>.val v st
 |none=>.bad
def DZ(tb:Tab)(t:TypeId):Bool:=
 match tb.und t with
 |some (.slice _)=>true
 |_=>false
def o9(fs pc:List E)(e:E):Bool:=
 match tv e with
 |true=>true
 |false=>match fe fs pc (aN .eql e (.int 0))with
  |some true=>true
  |_=>false
def aEe(fs pc:List E)(ls lx c:E):E:=
 match fg fs pc ls with
 |false=>bm (aN .lss ls (.int 0))
 |true=>match fg fs pc lx with
  |false=>bm (aN .lss lx (.int 0))
  |true=>bm (aN .lss c (.int 0))
def wn:E:=.iff (.bool true) (.bool true)
def NY(fs pc:List E)(s:SV)(c:E)(ct:Held):Bool:=
 match ct with
 |.list _ _ _=>match s with
  |.nils=>pS wn fs
  |.bsl _ _=>match pS wn fs with | true=>o9 fs pc c | false=>false
  |_=>false
 |_=>false
def xV(tb:Tab)(tmps:Tm)(st:St)(elem:TypeId)(sz:Nat)(s:SV)(a b:Held)(ls lx c:E):Eff2:=
  match JU sz (fK ls) (fK lx) a b with
  |some ct=>
    let need:=dA ls lx
    match fg tb.facts st.pc ls&&(fg tb.facts st.pc lx&&fg tb.facts st.pc c)with
    | true=>match dD tb.facts st.pc need jD with
      | true=>match fe tb.facts st.pc (aN .lss c need)with
        |some true=> .ofPair (pM tmps st sz elem ct need)
        | some false=>match !(pS wn tb.facts)&&o9 tb.facts st.pc lx with
          |true=> .val s st
          | false=>match GI st sz elem s with
            | some b=>match st.heap.get b with
              | some ⟨_,old⟩=>match zF old ct with
                |some obj=>T.setK st.heap b ⟨true,obj⟩ fun h=> .val (.nslice b need c) {st with heap:=h}
                |none=> .lack (aN .eql lx (.int 0))
              |none=> .lack (aN .eql lx (.int 0))
            | none=>match o9 tb.facts st.pc lx with
              |true=> .val s st
              |false=> .lack (aN .eql lx (.int 0))
        | none=>match GI st sz elem s with
          |some b=> .ofPair (Gt tmps st b sz elem ct need)
          |none=>match NY tb.facts st.pc s c ct with
           |true=> .ofPair (pM tmps st sz elem ct need)
           |false=>match uT s with
            | true=>match fe tb.facts st.pc (aN .eql lx (.int 0))with
              |some true=> .val s st
              |some false=> .lack (aN .lss c need)
              |none=> .ask (aN .eql lx (.int 0))
            | false=>match s with
              | .nils=>match fe tb.facts st.pc (aN .eql lx (.int 0))with
                |some true=> .val s st
                |some false=> .lack (aN .lss c need)
                |none=> .ask (aN .eql lx (.int 0))
              |_=> .ask (aN .lss c need)
      |false=> .lack (bm (aN .lss jD need))
    |false=> .lack (aEe tb.facts st.pc ls lx c)
  |none=> .bad
def Zf(tb:Tab)(st:St)(sz:Nat)(v:SV):Option E:=
 match v with
 |.nslice b len _=>match st.heap.get b with
  |some ⟨_,o⟩=>match o with
   |.flat _ _ n _ _=>some (uZ tb.facts st.pc [bm (aN .lss len (.int 0)),bm (aN .lss n len)])
   |_=>none
  |none=>none
 |.slice b off len _=>match st.heap.get b with
  |some ⟨_,o⟩=>match o with
   |.flat _ _ n _ _=>match E0 sz off with
    |some lo=>some (uZ tb.facts st.pc [bm (aN .lss lo (.int 0)),bm (aN .lss len (.int 0)),bm (aN .lss n (dA lo len))])
    |none=>none
   |_=>none
  |none=>none
 |_=>none
def Ee(x:Option E):Eff2:=
 match x with
 |some e=>.lack e
 |none=>.bad
def agl(tb:Tab)(st:St)(elem xt:TypeId)(z x:SV):Option (Held×E):=
 none
def aKg(tb:Tab)(st:St)(x:SV):Option E:=
 match x with
 |.int .i64 n=>match fK n with
  |some _=>none
  |none=>some (uZ tb.facts st.pc [bm (aN .lss n (.int 0)),bm (aN .lss (.int 4096) n)])
 |_=>none
def uh(tb:Tab)(tmps:Tm)(st:St)(t xt:TypeId)(s x:SV):Eff2:=
 match tb.und t with
 |some (.slice elem)=>match dd tb elem,J7 tb elem,i7 tb elem with
  |some sz,some bytes,some z=>match Nat.blt 0 bytes&&(Nat.ble bytes 32768&&(Nat.blt 0 sz&&Nat.beq z.cells.length sz))with
   |true=>match CY tb st sz s,sF sz s,rV s with
    |some a,some ls,some c=>match DZ tb xt with
     |true=>match CY tb st sz x,sF sz x with
      |some b,some lx=>xV tb tmps st elem sz s a b ls lx c
      |_,_=>Ee (Zf tb st sz x)
     |false=>match agl tb st elem xt z x with
      |some (b,lx)=>xV tb tmps st elem sz s a b ls lx c
      |none=>Ee (aKg tb st x)
    |_,_,_=>Ee (Zf tb st sz s)
   |false=>.bad
  |_,_,_=>.bad
 |_=>.bad
def abM(tb:Tab)(tmps:Tm)(st:St)(t:TypeId)(n c:SV):Eff2:=
 .bad
def FD(st:St)(b off:Nat)(ws:List SV)(v:SV):Eff2:=
 match st.heap.get b with
 |some ⟨true,.cells cs af e⟩=>match oQ cs off ws with
  |some cs'=>T.setK st.heap b ⟨true,.cells cs' af e⟩ fun h=>.val v {st with heap:=h}
  |none=>.bad
 |_=>.bad
def Zh(tb:Tab)(st:St)(t xt:TypeId)(d s:SV):Eff2:=
 .bad
def M3(fs pc:List E)(m:Nat)(af:E):Bool:=
 match dD fs pc (.int (.ofNat m)) af with
 |true=>true
 |false=>match af with
  |.fn f (.pr c (.int (.ofNat k)))=>match Nat.beq f 8,Nat.blt 0 k with
   |true,true=>dD fs pc (.int (.ofNat (Nat.div (Nat.pred (Nat.add m k)) k))) c
   |_,_=>false
  |_=>false
def CV(tb:Tab)(st:St)(elem:TypeId)(b:Nat)(o:Off)(z:SV):Eff2:=
 match F4 tb st elem (.ptr b o) z with
 |some st'=>.val .undef st'
 |none=>match tc tb st elem (.ptr b o) z with
  |.skip st'=>.val .undef st'
  |.ask e=>.ask e
  |.lack e=>.lack e
  |_=>.bad
def uz(tb:Tab)(st:St)(elem:TypeId)(b:Nat)(o:Off):Eff2:=
 match dd tb elem,i7 tb elem with
 |some sz,some z=>match Nat.beq z.cells.length sz&&nY z.cells with
  |true=>match st.heap.get b with
   |some ⟨true,.cells cs af e'⟩=>match gL o with
    |some off=>match Nat.ble cs.length off with
     |true=>match M3 tb.facts st.pc (Nat.add off z.cells.length) af with
      |true=>T.setK st.heap b ⟨true,.cells cs af e'⟩ fun h=>.val .undef {st with heap:=h}
      |false=>.lack (bm (aN .lss af (.int (.ofNat (Nat.add off z.cells.length)))))
     |false=>CV tb st elem b o z
    |none=>.bad
   |some ⟨true,.flat ks l n af e'⟩=>match oq tb.facts st.pc (aR ks) af o with
    |.at idx j=>match Nat.beq j 0&&(Nat.beq z.cells.length (aR ks)&&dD tb.facts st.pc n idx)with
     |true=>T.setK st.heap b ⟨true,.flat ks l n af e'⟩ fun h=>.val .undef {st with heap:=h}
     |false=>CV tb st elem b o z
    |.lack e=>.lack e
    |.bad=>.bad
   |_=>.bad
  |false=>.bad
 |_,_=>.bad
def zT(zc:List SV):Nat->List SV
 |0=>[]
 |m+1=>zc++zT zc m
def yf(tb:Tab)(st:St)(elem:TypeId)(b off m:Nat):Eff2:=
 match i7 tb elem with
 |some z=>match nY z.cells with
  |true=>FD st b off (zT z.cells m) .undef
  |false=>.bad
 |none=>.bad
def uA(tb:Tab)(st:St)(elem:TypeId)(b:Nat)(o:Off)(n:E):Eff2:=
 match i7 tb elem with
 |some z=>match st.heap.get b with
  |some ⟨true,.flat ks l m af e'⟩=>match oq tb.facts st.pc (aR ks) af o with
   |.at idx j=>match Nat.beq j 0&&(Nat.beq z.cells.length (aR ks)&&(nY z.cells&&dD tb.facts st.pc (.int 0) n))with
    |true=>match fe tb.facts st.pc (aN .eql m (dA idx n))with
     |some true=>T.setK st.heap b ⟨true,.flat ks (.fn 18 (.pr l (.fn 8 (.pr idx (.int (.ofNat (aR ks))))))) idx af e'⟩ fun h=>.val .undef {st with heap:=h}
     |_=>.lack (aN .eql m (dA idx n))
    |false=>.lack (bm (aN .lss n (.int 0)))
   |.lack e=>.lack e
   |.bad=>.bad
  |_=>.bad
 |none=>.bad
def CW(tb:Tab)(st:St)(t:TypeId)(v:SV):Eff2:=
 match tb.und t with
 |some (.slice elem)=>match v with
  |.slice b o n _=>match fK n with
   |some m=>match m with
    |0=>.val .undef st
    |k+1=>match k with
     |0=>uz tb st elem b o
     |_+1=>match gL o with
      |some off=>yf tb st elem b off m
      |none=>.bad
   |none=>match fe tb.facts st.pc (aN .eql n (.int 1))with
    |some true=>uz tb st elem b o
    |_=>uA tb st elem b o n
  |.nslice b n _=>match st.heap.get b,fK n with
   |some ⟨true,.cells _ _ _⟩,some m=>match m with
    |0=>.val .undef st
    |k+1=>match k with
     |0=>uz tb st elem b ⟨0,0,.int 0⟩
     |_+1=>yf tb st elem b 0 m
   |some ⟨true,.flat _ _ _ _ _⟩,_=>uA tb st elem b ⟨0,0,.int 0⟩ n
   |_,_=>.bad
  |.nils=>.val .undef st
  |_=>.bad
 |_=>.bad
def nf(es:List Ent)(i:Nat)(v:SV):List Ent:=
 match es with
 |[]=>[]
 |x::es=>match i with
  |0=>⟨x.k,v,x.born⟩::es
  |i+1=>x::nf es i v
def C0(es:List Ent)(i:Nat):List Ent:=
 match es with
 |[]=>[]
 |e::es=>match i with
  |0=>es
  |i+1=>e::C0 es i
def vM(st:St)(b:Nat)(es:List Ent)(clk:E):St:=T.setK st.heap b ⟨true,.map es clk⟩ fun h=>{st with heap:=h}
def zP(st:St)(b:Nat)(k:IntKind)(c:VK)(e:E):St:=T.setK st.heap b ⟨true,.mapl k c e⟩ fun h=>{st with heap:=h}
def zt(tb:Tab)(st:St)(t:TypeId)(x k v:SV):Eff2:=
 match tb.und t with
 |some (.map kt _)=>match x,sE tb kt k with
  |.map b,true=>match st.heap.get b with
   |some ⟨true,.map es clk⟩=>match pI tb st.pc kt k es 0 with
    |.at i _ _=>.skip (vM st b (nf es i v) clk)
    |.no=>.skip (vM st b (es++[⟨k,v,clk⟩]) (dA clk (.int 1)))
    |.ask e=>.ask e
    |.bad=>.bad
   |some ⟨true,.mapl k0 c e⟩=>match k,sk c v with
    |.int k1 ke,some ve=>match fY k1 k0 with
     |true=>.skip (zP st b k0 c (.fn 34 (.pr e (.pr ke ve))))
     |false=>.bad
    |_,_=>.bad
   |_=>.bad
  |_,_=>.bad
 |_=>.bad
def MX(st:St)(b:Nat)(k:IntKind)(c:VK)(e ke s:E):St:=T.setK st.heap b ⟨true,.maplp k c e ke s⟩ fun h=>{st with heap:=h}
def FI(e ke ve:E):E:=
 match e with
 |.fn 34 (.pr e0 (.pr ke0 _))=>match ke0.beq ke with
  |true=>.fn 34 (.pr e0 (.pr ke ve))
  |false=>.fn 34 (.pr e (.pr ke ve))
 |e=>.fn 34 (.pr e (.pr ke ve))
def Ev(tb:Tab)(tmps:Tm)(st:St)(t:TypeId)(x k:SV):Eff2:=
 match tb.und t with
 |some (.map kt vt)=>match x,sE tb kt k with
  |.map b,true=>match st.heap.get b with
   |some ⟨true,.map es clk⟩=>match pI tb st.pc kt k es 0 with
    |.at _ v s=>.val (.tup [v,.int .i64 s]) st
    |.no=>match i7 tb vt with
     |some z=>.val (.tup [z,.int .i64 clk]) (vM st b (es++[⟨k,z,clk⟩]) (dA clk (.int 1)))
     |none=>.bad
    |.ask e=>.ask e
    |.bad=>.bad
   |some ⟨true,.mapl k0 c e⟩=>match i7 tb vt with
    |some z=>match k,sk c z with
     |.int k1 ke,some ze=>match fY k1 k0,o4 tmps st&&ke.scp st.nv with
      | true,true=>.val (.tup [wd c (.fn 32 (.pr e (.pr ke ze))),.int .i64 (.var st.nv)])
        (MX {st with nv:=Nat.succ st.nv} b k0 c (.fn 34 (.pr e (.pr ke (.fn 32 (.pr e (.pr ke ze)))))) ke (.var st.nv))
      |_,_=>.bad
     |_,_=>.bad
    |none=>.bad
   |_=>.bad
  |_,_=>.bad
 |_=>.bad
def yH(s:E):List Ent->Nat->Option Nat
 |[],_=>none
 |x::es,i=>match x.born.beq s with
  |true=>some i
  |false=>yH s es (Nat.succ i)
def Df(st:St)(x s v:SV):Eff2:=
 match x,s with
 |.map b,.int _ s=>match st.heap.get b with
  |some ⟨true,.map es clk⟩=>match yH s es 0 with
   |some i=>.skip (vM st b (nf es i v) clk)
   |none=>.bad
  |some ⟨true,.maplp k0 c e ke s0⟩=>match s0.beq s,sk c v with
   |true,some ve=>.skip (zP st b k0 c (FI e ke ve))
   |_,_=>.bad
  |_=>.bad
 |_,_=>.bad
def Zp(tb:Tab)(st:St)(t:TypeId)(x k:SV):Eff2:=
 .bad
def pT(tb:Tab)(tmps:Tm)(st:St)(v:SV)(yes:Bool):Eff2:=
 match v with
 |.nslice b len _=>match st.heap.get b with
  |some ⟨_,.cells _ _ _⟩=>.val (.bool (.bool (!yes))) st
  |some ⟨_,.flat _ _ n af _⟩=>match iU tb.facts st.pc (.int 0) af||iU tb.facts st.pc (.int 0) n with
   |true=>.val (.bool (.bool (!yes))) st
   |false=>match o4 tmps st&&n.scp st.nv with
    |true=>.val (.bool (match yes with | true=>.var st.nv | false=>.not (.var st.nv))) {st with nv:=Nat.succ st.nv,pc:=.imp (.var st.nv) (aN .eql n (.int 0))::st.pc}
    |false=>.bad
  |_=>.bad
 |.bsl ks e=>match Nat.blt 0 (aR ks)with
  | true=>.val (.bool (match yes with | true=>.fn 31 e | false=>.not (.fn 31 e))) (match zC (iD (aR ks) e)with
    |true=>{st with pc:=.imp (.fn 31 e) (aN .eql (iD (aR ks) e) (.int 0))::.imp (.fn 31 e) (aN .eql (.fn 0 e) (.int 0))::st.pc}
    |false=>st)
  |false=>.bad
 |_=>.bad
def uU:SV->Bool
 |.nils=>true
 |_=>false
def ae9(tb:Tab)(tmps:Tm)(st:St)(src dst:TypeId)(v:SV):Eff2:=
 .bad
def ad5(tb:Tab)(tmps:Tm)(st:St)(t:TypeId)(x:SV):Eff2:=
 .bad
def ac5(tb:Tab)(tmps:Tm)(st:St)(x:SV)(str:Bool):Eff2:=
 .bad
def Kz(st:St)(x:SV):Eff2:=
 match x with
 |.ptr b o=>match gL o with
  |some 0=>match st.heap.get b with
   |some ⟨true,.iter k c e _ (some u)⟩=>.val (.tup [.int k u,wd c (.fn 32 (.pr e (.pr u (.int 0))))]) st
   |_=>.bad
  |_=>.bad
 |_=>.bad
def KW(tb:Tab)(tmps:Tm)(st:St)(t:TypeId)(x:Operand):Eff2:=
 match bJ tmps x with
  |some v=>ad5 tb tmps st t v
  |none=>.bad
def KV(tb:Tab)(tmps:Tm)(st:St)(x:Operand)(str:Bool):Eff2:=
 match bJ tmps x with
  |some v=>ac5 tb tmps st v str
  |none=>.bad
def KO(tb:Tab)(tmps:Tm)(st:St)(x:Operand):Eff2:=
 match bJ tmps x with
  |some v=>Kz st v
  |none=>.bad
def DB(st:St)(n len cap af l:E):Bool:=
 n.beq len&&(cap.beq af&&(st.scp&&(l.scp st.nv&&(len.scp st.nv&&cap.scp st.nv))))
def yL(ks0:List CK)(fs:List E)(p:SV×St):SV×St:=
 match p.1 with
 |.nils=>(.bsl ks0 (.fn 30 (.int 0)),p.2)
 |.nslice _ (.int 0) (.int 0)=>match p.2.scp with
  |true=>(.bsl ks0 (.fn 28 (.pr (.pr (.var p.2.nv) (.int 0)) (.fn 10 (.int 0)))),{p.2 with nv:=Nat.succ p.2.nv})
  |false=>p
 |.nslice b len cap=>match p.2.heap.get b with
  |some ⟨true,.flat ks l n af _⟩=>match DB p.2 n len cap af l with
   |true=>T.setK p.2.heap b ⟨true,.gone⟩ fun h=>(.bsl ks (.fn 28 (.pr (.pr (.var p.2.nv) len) l)),{p.2 with nv:=Nat.succ p.2.nv,heap:=h})
   |false=>p
  |_=>p
 |.slice _ _ (.int 0) (.int 0)=>match p.2.scp with
  |true=>(.bsl ks0 (.fn 28 (.pr (.pr (.var p.2.nv) (.int 0)) (.fn 10 (.int 0)))),{p.2 with nv:=Nat.succ p.2.nv})
  |false=>p
 |_=>p
inductive FM where
 |stay
 |down (ks:List CK)
 |up (ks:List CK) (el:TypeId)
 deriving Inhabited
def wo(ks:List CK)(el:TypeId)(v:SV)(st:St):SV×St:=
 match st.scp&&Nat.blt 0 (aR ks)with
 |true=>T.insK st.heap st.nb ⟨true,.flat ks (.fn 10 (.int 0)) (.int 0) (.int 0) el⟩ fun h=>(.nslice st.nb (.int 0) (.int 0),{st with nb:=Nat.succ st.nb,heap:=h})
 |false=>(v,st)
def Ai(ks0:List CK)(el:TypeId)(fs:List E)(v:SV)(st:St):SV×St:=
 match v with
 |.nils=>wo ks0 el v st
 |.bsl ks e=>match Nat.blt 0 (aR ks)&&(o9 fs st.pc (iD (aR ks) e)&&o9 fs st.pc (pC e))with
  |true=>wo ks0 el v st
  |false=>(v,st)
 |_=>(v,st)
def yM(m:FM)(fs:List E)(v:SV)(st:St):SV×St:=
 match m with
 |.stay=>(v,st)
 |.down ks=>yL ks fs (v,st)
 |.up ks el=>Ai ks el fs v st
def kD(fs:List E):List FM->List SV->St->List SV×St
 |m::ms,v::vs,st=>match m with
  |.stay=>match v.scp st.nv st.nb with
   |true=>match kD fs ms vs st with
    |(vs',st')=>(v::vs',st')
   |false=>(v::vs,st)
  |_=>match yM m fs v st with
   |(v',st1)=>match v'.scp st1.nv st1.nb&&SV.scps st.nv st.nb vs with
    |true=>match kD fs ms vs st1 with
     |(vs',st')=>(v'::vs',st')
    |false=>(v::vs,st)
 |_,vs,st=>(vs,st)
def ss(ms:List FM)(fs:List E)(v:SV)(st:St):SV×St:=
 match v with
 |.agg cs=>match kD fs ms cs st with
  |(cs',st')=>(.agg cs',st')
 |v=>match ms with
  |m::_=>yM m fs v st
  |[]=>(v,st)
def ot(ms:List FM)(fs:List E)(p:SV×St):SV×St:=
 match p.1 with
 |.tup vs=>match vs with
  |v::vs=>match ss ms fs v p.2 with
   |(v',st1)=>match SV.scps p.2.nv p.2.nb vs with
    |true=>(.tup (v'::vs),st1)
    |false=>p
  |[]=>p
 |v=>ss ms fs v p.2
def uK:List CK->List FM
 |[]=>[]
 |c::cs=>match c with
  |.slc ks=>.down ks::uK cs
  |_=>.stay::uK cs
def yh(tb:Tab)(tmps:Tm)(st:St)(elem:TypeId)(b:Nat)(s x:SV):Option St:=
 match st.heap.get b with
 |some ⟨true,.cells vs af e⟩=>match zh tb 12 elem with
  |some ks=>match jT st.nv st.nb tmps&&(s.scp st.nv st.nb&&(x.scp st.nv st.nb&&af.scp st.nv))with
   |true=>match kD tb.facts (uK (oE ks (Nat.div (aR vs) (aR ks)))) vs st with
    |(vs',st')=>match st'.heap.get b with
     |some ⟨true,.cells _ _ _⟩=>some (T.setK st'.heap b ⟨true,.cells vs' af e⟩ fun h=>{st' with heap:=h})
     |_=>none
   |false=>none
  |none=>none
 |_=>none
def xW(tb:Tab)(tmps:Tm)(st:St)(t xt:TypeId)(s x:SV):Eff2:=
 match tb.und t with
 | some (.slice elem)=>match (match x with
   |.slice b _ _ _=>yh tb tmps st elem b s x
   |.nslice b _ _=>yh tb tmps st elem b s x
   |_=>none)with
  |some st'=>uh tb tmps st' t xt s x
  |none=>.bad
 |_=>.bad
def JW(tb:Tab)(tmps:Tm)(st:St)(t xt:TypeId)(s x:SV):Eff2:=
 match pS wn tb.facts with
 |true=>match xW tb tmps st t xt s x with
  |.bad=>uh tb tmps st t xt s x
  |r=>r
 |false=>match uh tb tmps st t xt s x with
  |.bad=>xW tb tmps st t xt s x
  |r=>r
def lX:List CK->Nat
 |[]=>0
 |c::cs=>match c with
  |.slc _=>Nat.succ (lX cs)
  |_=>lX cs
def MD(fs pc:List E)(ks:List CK)(idx own:E):Option E:=
 match iU fs pc idx own with
 |true=>some own
 |false=>match lN fs pc idx own&&lN fs pc own idx with
  |true=>match Nat.beq (lX ks) 1 with
   |true=>some (.fn 6 (.pr idx (.int 1)))
   |false=>none
  |false=>none
def vq(tb:Tab)(tmps:Tm)(st:St)(t:TypeId)(p v:SV):Eff2:=
 match p,v with
 |.ptr b o,.nslice b2 len cap=>match st.heap.get b,st.heap.get b2 with
  |some ⟨true,.nest ks l n af elem own⟩,some ⟨true,.flat ks2 l2 n2 tot2 _⟩=>match oq tb.facts st.pc (aR ks) n o with
   |.at idx j=>match d9 ks j with
    |some (.slc ks')=>match gK ks' ks2&&DB st n2 len cap tot2 l2&&jT st.nv st.nb tmps&&p.scp st.nv st.nb with
     |true=>match dd tb t with
      |some 1=>match MD tb.facts st.pc ks idx own with
       |some own'=>T.setK st.heap b2 ⟨true,.gone⟩ fun h=>T.setK h b ⟨true,.nest ks (jN l (eD (aR ks) idx j) (.fn 28 (.pr (.pr (.var st.nv) len) l2))) n af elem own'⟩ fun h=>.skip {st with nv:=Nat.succ st.nv,heap:=h}
       |none=>.bad
      |_=>.bad
     |false=>.bad
    |_=>.bad
   |.lack e=>.lack e
   |.bad=>.bad
  |_,_=>.bad
 |_,_=>.bad
def aD2(st:St)(p:SV):Bool:=
 match p with
 |.ptr b _=>match st.heap.get b with
  |some ⟨_,.nest _ _ _ _ _ _⟩=>true
  |_=>false
 |_=>false
def KX(tb:Tab)(tmps:Tm)(st:St)(t:TypeId)(x:Operand)(y:Operand):Eff2:=
  match bJ tmps x,bJ tmps y with
  |some p,some v=>match aD2 st p with
   |true=>vq tb tmps st t p v
   |false=>match zh tb 12 t with
    | some ks=>match jT st.nv st.nb tmps&&p.scp st.nv st.nb with
      | true=>match ot (uK ks) tb.facts (v,st)with
        | (v',st')=>match tc tb st' t p v' with
          |.skip st''=> .skip st''
          |.lack e=> .lack e
          |_=> .bad
      |false=> .bad
    |none=> .bad
  |_,_=> .bad
def KS(tb:Tab)(tmps:Tm)(st:St)(t:TypeId)(n:Operand)(c:Operand):Eff2:=
 match bJ tmps n,bJ tmps c with
  |some a,some b=>abM tb tmps st t a b
  |_,_=>.bad
def KR(tb:Tab)(tmps:Tm)(st:St)(t:TypeId)(r:Option Operand):Eff2:=
 match r with
  |none=>match o4 tmps st with
   |true=>T.insK st.heap st.nb ⟨true,.map [] (.int 0)⟩ fun h=>.val (.map st.nb) {st with nb:=Nat.succ st.nb,heap:=h}
   |false=>.bad
  |some _=>.bad
def KU(tb:Tab)(tmps:Tm)(st:St)(t:TypeId)(m:Operand)(k:Operand)(x:Operand):Eff2:=
 match bJ tmps m,bJ tmps k,bJ tmps x with
  |some a,some b,some c=>zt tb st t a b c
  |_,_,_=>.bad
def KQ(tb:Tab)(tmps:Tm)(st:St)(t:TypeId)(m:Operand)(k:Operand)(x:Operand):Eff2:=
 match bJ tmps m,bJ tmps k,bJ tmps x with
  |some a,some b,some c=>zt tb st t a b c
  |_,_,_=>.bad
def KT(tb:Tab)(tmps:Tm)(st:St)(t:TypeId)(m:Operand)(k:Operand):Eff2:=
 match bJ tmps m,bJ tmps k with
  |some a,some b=>Ev tb tmps st t a b
  |_,_=>.bad
def KP(tb:Tab)(tmps:Tm)(st:St)(m:Operand)(s:Operand)(x:Operand):Eff2:=
 match bJ tmps m,bJ tmps s,bJ tmps x with
  |some a,some b,some c=>Df st a b c
  |_,_,_=>.bad
def KL(tb:Tab)(tmps:Tm)(st:St)(op:BinOp)(t:TypeId)(x:Operand)(y:Operand):Eff2:=
 match DZ tb t,bJ tmps x,bJ tmps y with
  |true,some a,some b=>match op with
   |.eql=>match uU b with
    |true=>pT tb tmps st a true
    |false=>match uU a with | true=>pT tb tmps st b true | false=>.bad
   |.neq=>match uU b with
    |true=>pT tb tmps st a false
    |false=>match uU a with | true=>pT tb tmps st b false | false=>.bad
   |_=>.bad
  |_,_,_=>.bad
def KN(tb:Tab)(tmps:Tm)(st:St)(src:TypeId)(dst:TypeId)(x:Operand):Eff2:=
 match bJ tmps x with
  |some v=>ae9 tb tmps st src dst v
  |none=>.bad
def KM(tb:Tab)(tmps:Tm)(st:St)(c:Call):Eff2:=
 match c.callee with
  |.builtin b=>match jG (bJ tmps) c.args.toList with
   |some [v,w]=>match b with
    |.append=>match c.argTypes.toList with
     |[t,xt]=>JW tb tmps st t xt v w
     |_=>.bad
    |.copy=>match c.argTypes.toList with
     |[t,xt]=>Zh tb st t xt v w
     |_=>.bad
    |.delete=>match c.argTypes.toList with
     |t::_=>Zp tb st t v w
     |_=>.bad
    |_=>.bad
   |some [v]=>match b with
    |.clear=>match c.argTypes.toList with
     |[t]=>CW tb st t v
     |_=>.bad
    |_=>.bad
   |_=>.bad
  |_=>.bad
noncomputable def yu(tb:Tab)(tmps:Tm)(st:St)(o:Op):Eff2:=
 Op.rec (motive:=fun _=>Eff2)
  (fun _=>.bad)
  (fun _=>.bad)
  (fun _ _ _=>.bad)
  (fun _=>.bad)
  (fun _ _=>.bad)
  (fun _ _=>.bad)
  (fun _ _ _=>.bad)
  (fun t m k x=>KQ tb tmps st t m k x)
  (fun _ _=>.bad)
  (fun t x y=>KX tb tmps st t x y)
  (fun _=>.bad)
  (fun _=>.bad)
  (fun _=>.bad)
  (fun op t x y _=>KL tb tmps st op t x y)
  (fun _ _ _=>.bad)
  (fun src dst x=>KN tb tmps st src dst x)
  (fun _ _=>.bad)
  (fun _ _=>.bad)
  (fun _ _ _=>.bad)
  (fun t r=>KR tb tmps st t r)
  (fun _ _=>.bad)
  (fun t n c=>KS tb tmps st t n c)
  (fun _ _ _ _ _=>.bad)
  (fun _ _ _=>.bad)
  (fun _ _ _=>.bad)
  (fun _ _ _=>.bad)
  (fun _ _ _=>.bad)
  (fun _ _ _ _=>.bad)
  (fun t m k x=>KU tb tmps st t m k x)
  (fun t m k=>KT tb tmps st t m k)
  (fun _ m s x=>KP tb tmps st m s x)
  (fun t x=>KW tb tmps st t x)
  (fun x s=>KV tb tmps st x s)
  (fun x=>KO tb tmps st x)
  (fun _ _ _ _=>.bad)
  (fun _ _=>.bad)
  (fun c=>KM tb tmps st c)
  (fun _=>.bad)
  (fun _=>.bad)
  (fun _=>.bad)
  (fun _ _=>.bad)
  (fun _ _ _=>.bad)
  (fun _ _=>.bad)
  o
theorem aCX(tb:Tab)(tmps:Tm)(st:St)(o:Op):yu tb tmps st o=(match o with
 |.makeSlice t n c=>KS tb tmps st t n c
 |.makeMap t r=>KR tb tmps st t r
 |.mapUpdate t m k x=>KU tb tmps st t m k x
 |.insert t m k x=>KQ tb tmps st t m k x
 |.mapEntry t m k=>KT tb tmps st t m k
 |.entryStore _ m s x=>KP tb tmps st m s x
 |.range t x=>KW tb tmps st t x
 |.next x s=>KV tb tmps st x s
 |.entry x=>KO tb tmps st x
 |.binOp op t x y _=>KL tb tmps st op t x y
 |.convert src dst x=>KN tb tmps st src dst x
 |.call c=>KM tb tmps st c
 |.store t x y=>KX tb tmps st t x y
 |_=>.bad):=by cases o<;>rfl
structure Node where
 listed:Nat
 left:Nat
 tmps:Tm
 st:St
 deriving Inhabited
abbrev aT:=Option (List Out)
abbrev fG:=Tm->St->aT
structure Info where
 wait:Nat
 reads:Nat
 dst:Nat
inductive Task where
 |code (g:FuncId) (c:Code)
 |rounds (g:FuncId) (c:Code)
 |call (f:FuncId) (args:List SV)
 |draw (all:List Oper) (n:Nat)
 |layer (all:List Oper) (infos:List Info) (l:List Node)
def gY(a b:aT):aT:=
 match a with
 |some l=>match b with
  |some m=>some (l++m)
  |none=>none
 |none=>none
def jU:List Edge->Nat
 |[]=>0
 |e::es=>match Region.binds .any e with
  |true=>Nat.lor (Nat.pow 2 e.on) (jU es)
  |false=>jU es
def oW:List Operand->Nat
 |[]=>0
 |x::xs=>match x with
  |.tmp t=>Nat.lor (Nat.pow 2 t) (oW xs)
  |_=>oW xs
def FV(all:List Oper)(j:Nat):Option Tmp:=match d9 all j with | some o=>o.dst | none=>none
def CC:Option Tmp->Nat
 |some t=>Nat.pow 2 t
 |none=>0
def aaB(all:List Oper)(o:Oper):Nat:=
 match o.guard with
 |some (j,_)=>CC (FV all j)
 |none=>0
def cv(all:List Oper)(o:Oper):Info:=
 ⟨jU o.after.toList,Nat.lor (aaB all o) (oW o.op.operands.toList),CC o.dst⟩
def aY(all:List Oper):List Oper->List Info
 |[]=>[]
 |o::os=>cv all o::aY all os
def gu(listed:Nat):List Oper->List Info->Nat->List (Nat×Oper×Info)
 |o::os,m::ms,i=>match Nat.testBit listed i with
  |true=>gu listed os ms (Nat.succ i)
  |false=>match Nat.beq (Nat.land m.wait listed) m.wait with
   |true=>(i,o,m)::gu listed os ms (Nat.succ i)
   |false=>gu listed os ms (Nat.succ i)
 |_,_,_=>[]
def mK(listed i:Nat)(x:Info):List Info->Nat->Bool
 |[],_=>true
 |m::ms,j=>match Nat.testBit listed j with
  |true=>mK listed i x ms (Nat.succ j)
  |false=>match Nat.beq i j with
   |true=>mK listed i x ms (Nat.succ j)
   |false=>match Nat.testBit m.wait i with
    |true=>mK listed i x ms (Nat.succ j)
    |false=>match Nat.beq (Nat.land x.dst m.reads) 0 with
     |true=>match Nat.beq (Nat.land x.dst m.dst) 0 with
      |true=>match Nat.beq (Nat.land m.dst x.reads) 0 with
       |true=>mK listed i x ms (Nat.succ j)
       |false=>false
      |false=>false
     |false=>false
def CR(tb:Tab)(tmps:Tm)(c:Call):Option (FuncId×List SV):=
 match c.callee with
 |.value f=>match bJ tmps f,jG (bJ tmps) c.args.toList with
  |some (.func (.func f) fi ca),some vs=>match tb.fn.get f with
   |some fn=>match fn.body with
    |some _=>some (f,fi++(vs++ca))
    |none=>none
   |none=>none
  |_,_=>none
 |_=>none
inductive Want where
 |yes | no | bad | ask (slot:Tmp) (e:E) (want:Bool)
def wq(all:List Oper)(tmps:Tm)(o:Oper):Want:=
 match o.guard with
 |none=>.yes
 |some (j,want)=>match FV all j with
  |some t=>match tmps.get t with
   |some (.bool e)=>match e with
    |.bool b=>match mC b want with | true=>.yes | false=>.no
    |_=>.ask t e want
   |some .junk=>.bad
   |_=>.no
  |none=>.no
def fv{Z:Type}(tmps:Tm)(d:Option Tmp)(v:SV)(k:Tm->Z):Z:=
 match d with
 |none=>k tmps
 |some t=>T.setK tmps t v k
def kW(tb:Tab)(st:St)(tmps:Tm):List ResultVar->Option (List SV)
 |[]=>some []
 |.tmp t::rs=>match kW tb st tmps rs with
  |some l=>match tmps.get t with
   |some v=>match v with
    |.junk=>none
    |_=>some (v::l)
   |none=>some (.undef::l)
  |none=>none
 |.cell a t::rs=>match tmps.get a with
  |some x=>match vd tb st t x,kW tb st tmps rs with
   |some v,some l=>some (v::l)
   |_,_=>none
  |none=>none
def tg:List SV->SV
 |[v]=>v
 |vs=>.tup vs
def Le:Fn->Fn->Bool
 |.func a,.func b=>Nat.beq a b
 |_,_=>false
mutual
def SV.beq:SV->SV->Bool
 |.int k e,.int k' e'=>fY k k'&&e.beq e'
 |.bool e,.bool e'=>e.beq e'
 |.str e,.str e'=>e.beq e'
 |.nilp,.nilp | .nils,.nils | .nilm,.nilm | .nili,.nili | .nilf,.nilf=>true
 |.ptr b o,.ptr b' o'=>Nat.beq b b'&&Nat.beq o.base o'.base&&Nat.beq o.scale o'.scale&&o.idx.beq o'.idx
 |.slice b o l c,.slice b' o' l' c'=>Nat.beq b b'&&Nat.beq o.base o'.base&&Nat.beq o.scale o'.scale&&o.idx.beq o'.idx&&l.beq l'&&c.beq c'
 |.map b,.map b'=>Nat.beq b b'
 |.nslice b l c,.nslice b' l' c'=>Nat.beq b b'&&l.beq l'&&c.beq c'
 |.bsl ks e,.bsl ks' e'=>gK ks ks'&&e.beq e'
 |.bptr ks e i j,.bptr ks' e' i' j'=>gK ks ks'&&e.beq e'&&i.beq i'&&Nat.beq j j'
 |.func fn fi ca,.func fn' fi' ca'=>Le fn fn'&&SV.beqs fi fi'&&SV.beqs ca ca'
 |.agg cs,.agg cs'=>SV.beqs cs cs'
 |.tup cs,.tup cs'=>SV.beqs cs cs'
 |.junk,.junk=>true
 |.nsl b ks e i c,.nsl b' ks' e' i' c'=>Nat.beq b b'&&gK ks ks'&&e.beq e'&&i.beq i'&&Nat.beq c c'
 |.nptr b ks e i c x j,.nptr b' ks' e' i' c' x' j'=>Nat.beq b b'&&gK ks ks'&&e.beq e'&&i.beq i'&&Nat.beq c c'&&x.beq x'&&Nat.beq j j'
 |_,_=>false
def SV.beqs:List SV->List SV->Bool
 |[],[]=>true
 |x::xs,y::ys=>x.beq y&&SV.beqs xs ys
 |_,_=>false
end
def vD:List Ent->List Ent->Bool
 |[],[]=>true
 |x::xs,y::ys=>x.k.beq y.k&&(x.v.beq y.v&&(x.born.beq y.born&&vD xs ys))
 |_,_=>false
def adp:Option E->Option E->Bool
 |none,none=>true
 |some a,some b=>a.beq b
 |_,_=>false
def SObj.beq:SObj->SObj->Bool
 |.gone,.gone=>true
 |.cells cs t e,.cells cs' t' e'=>Nat.beq e e'&&t.beq t'&&SV.beqs cs cs'
 |.flat ks l n t e,.flat ks' l' n' t' e'=>Nat.beq e e'&&l.beq l'&&n.beq n'&&t.beq t'&&gK ks ks'
 |.map es c,.map es' c'=>c.beq c'&&vD es es'
 |.mapl k c e,.mapl k' c' e'=>fY k k'&&c.beq c'&&e.beq e'
 |.maplp k c e ke s,.maplp k' c' e' ke' s'=>fY k k'&&c.beq c'&&e.beq e'&&ke.beq ke'&&s.beq s'
 |.iter k c e n u,.iter k' c' e' n' u'=>fY k k'&&c.beq c'&&e.beq e'&&n.beq n'&&adp u u'
 |.nest ks l n t e o,.nest ks' l' n' t' e' o'=>Nat.beq e e'&&l.beq l'&&n.beq n'&&t.beq t'&&gK ks ks'&&o.beq o'
 |_,_=>false
def T.beq{G:Type}(f:G->G->Bool):T G->T G->Bool
 |.nil,.nil=>true
 |.node v l r,.node v' l' r'=>f v v'&&T.beq f l l'&&T.beq f r r'
 |_,_=>false
def Blk.beq(x y:Blk):Bool:=mC x.own y.own&&x.obj.beq y.obj
def vG:List E->List E->Bool
 |[],[]=>true
 |x::xs,y::ys=>x.beq y&&vG xs ys
 |_,_=>false
def St.beq(a b:St):Bool:=Nat.beq a.nv b.nv&&Nat.beq a.nb b.nb&&vG a.pc b.pc&&T.beq Blk.beq a.heap b.heap
def Node.beq(a b:Node):Bool:=
 Nat.beq a.listed b.listed&&Nat.beq a.left b.left&&T.beq SV.beq a.tmps b.tmps&&a.st.beq b.st
def yO:List Node->Node->Bool
 |[],_=>false
 |x::xs,n=>match x.beq n with | true=>true | false=>yO xs n
def lW{Z:Type}(P:Program)(tb:Tab)(all:List Oper)(infos:List Info):List Oper->List Info->Nat->Nat->Nat->Tm->(Nat->Nat->Tm->Z)->Z
 |o::os,m::ms,i,listed,left,tmps,k=>
  match Nat.testBit listed i with
  |true=>lW P tb all infos os ms (Nat.succ i) listed left tmps k
  |false=>match Nat.beq (Nat.land m.wait listed) m.wait with
   |true=>match left with
    |0=>k listed left tmps
    |left'+1=>match wq all tmps o with
     |.yes=>match s6 P tb (bJ tmps) o.op with
      |some v=>match mK listed i m infos 0 with
       |true=>fv tmps o.dst v fun tmps=>gf (Nat.lor (Nat.pow 2 i) listed) fun listed=>lW P tb all infos os ms (Nat.succ i) listed left' tmps k
       |false=>lW P tb all infos os ms (Nat.succ i) listed left tmps k
      |none=>lW P tb all infos os ms (Nat.succ i) listed left tmps k
     |.no=>match mK listed i m infos 0 with
      |true=>fv tmps o.dst .undef fun tmps=>gf (Nat.lor (Nat.pow 2 i) listed) fun listed=>lW P tb all infos os ms (Nat.succ i) listed left' tmps k
      |false=>lW P tb all infos os ms (Nat.succ i) listed left tmps k
     |_=>lW P tb all infos os ms (Nat.succ i) listed left tmps k
   |false=>lW P tb all infos os ms (Nat.succ i) listed left tmps k
 |_,_,_,listed,left,tmps,k=>k listed left tmps
def vN(acc:List Node)(x:Node):List Node:=match yO acc x with | true=>acc | false=>x::acc
def o5(P:Program)(tb:Tab)(all:List Oper)(infos:List Info)(listed left:Nat):List Out->List Node->List Node
 |[],acc=>acc
 |o::os,acc=>lW P tb all infos all infos 0 listed left o.tmps fun listed' left' tmps=>
  o5 P tb all infos listed left os (vN acc ⟨listed',left',tmps,o.st⟩)
def sf(_:String):aT:=none
def Ed(_:String)(_:St)(_:E):aT:=none
abbrev cq:=Task->Tm->St->(Out->aT)->aT
def aE9(o:Op):String:=
 match o with
 |.load _ _=> "load" | .store _ _ _=> "store" | .move _=> "move" | .assign _=> "assign" | .pick _ _ _=> "pick" | .nilCheck _=> "nilCheck" | .binOp _ _ _ _ _=> "binOp" | .unOp _ _ _=> "unOp" | .convert _ _ _=> "convert"
 |.fieldAddr _ _ _=> "fieldAddr" | .field _ _ _=> "field" | .indexAddr _ _ _=> "indexAddr" | .index _ _ _=> "index" | .extract _ _=> "extract" | .build _ _=> "build" | .makeFunc _ _ _=> "makeFunc" | .slice _ _ _ _ _=> "slice"
 |.box _ _=> "box" | .alloc _=> "alloc" | .buildSlice _ _ _=> "buildSlice" | .insert _ _ _ _=> "insert" | .ready _=> "ready" | .waits _=> "waits" | .sliceToArrayPointer _ _=> "sliceToArrayPointer" | .makeInterface _ _=> "makeInterface" | .makeMap _ _=> "makeMap" | .makeChan _ _=> "makeChan" | .makeSlice _ _ _=> "makeSlice" | .lookup _ _ _ _=> "lookup" | .mapUpdate _ _ _ _=> "mapUpdate" | .mapEntry _ _ _=> "mapEntry" | .entryStore _ _ _ _=> "entryStore" | .range _ _=> "range" | .next _ _=> "next" | .entry _=> "entry" | .typeAssert _ _ _ _=> "typeAssert" | .call _=> "call" | _=> "other"
def Blk.same(x y:Blk):Bool:=
 match x.obj with
 |.iter _ _ _ _ _=>false
 |_=>x.beq y
def oz:T Blk->T Blk->Bool
 |.nil,_=>true
 |.node v l r,.node v' l' r'=>match Blk.same v v' with
  |true=>match oz l l' with
   |true=>oz r r'
   |false=>false
  |false=>false
 |_,_=>false
mutual
def SV.plain:SV->Bool
 |.bsl _ _ | .bptr _ _ _ _ | .nsl _ _ _ _ _ | .nptr _ _ _ _ _ _ _=>false
 |.func _ fi ca=>SV.plains fi&&SV.plains ca
 |.agg cs | .tup cs=>SV.plains cs
 |_=>true
def SV.plains:List SV->Bool
 |[]=>true
 |v::vs=>v.plain&&SV.plains vs
end
structure Sub where
 n0:Nat
 es:List E
 b0:Nat
 bs:List Nat
def NG(n0:Nat)(es:List E)(i:Nat):E:=
 match Nat.blt i n0 with
 |true=>.var i
 |false=>match d9 es (Nat.sub i n0)with
  |some e=>e
  |none=>.var i
def EQ:E->Nat->Option E
 |.fn 23 (.pr x r),n=>match n with
  |0=>some x
  |n+1=>EQ r n
 |_,_=>none
def F8(f:Nat)(a:E):E:=
 match f with
 |0=>iW a
 |6=>match a with
  |.pr (.int x) (.int y)=>.int (x+y)
  |_=>.fn f a
 |7=>match a with
  |.pr (.int x) (.int y)=>.int (x-y)
  |_=>.fn f a
 |1=>match a with
  |.pr l (.int (.ofNat n))=>match EQ l n with
   |some e=>e
   |none=>.fn f a
  |_=>.fn f a
 |_=>.fn f a
def F9(a:E):E:=
 match a with
 |.bool b=>.bool (!b)
 |_=>.not a
noncomputable def E.sub(n0:Nat)(es:List E)(e:E):E:=
 E.rec (motive:=fun _=>E)
  (fun n=>.int n)
  (fun b=>.bool b)
  (fun s=>.str s)
  (fun i=>NG n0 es i)
  (fun o k _ _ ia ib=>jl o k ia ib)
  (fun o _ _ ia ib=>aN o ia ib)
  (fun _ _ ia ib=>sJ ia ib)
  (fun _ _ ia ib=>oH ia ib)
  (fun k _ ia=>sK k ia)
  (fun _ ia=>F9 ia)
  (fun _ _ ia ib=>.and ia ib)
  (fun _ _ ia ib=>mS ia ib)
  (fun _ _ ia ib=>.iff ia ib)
  (fun _ _ ia ib=>.imp ia ib)
  (fun f _ ia=>F8 f ia)
  (fun _ _ ia ib=>.pr ia ib)
  e
theorem E.sub_eq_ar(n0:Nat)(es:List E)(o:BinOp)(k:IntKind)(a:E)(b:E):(E.ar o k a b).sub n0 es=jl o k (a.sub n0 es) (b.sub n0 es):=rfl
theorem E.sub_eq_cmp(n0:Nat)(es:List E)(o:BinOp)(a:E)(b:E):(E.cmp o a b).sub n0 es=aN o (a.sub n0 es) (b.sub n0 es):=rfl
theorem E.sub_eq_mn(n0:Nat)(es:List E)(a:E)(b:E):(E.mn a b).sub n0 es=sJ (a.sub n0 es) (b.sub n0 es):=rfl
theorem E.sub_eq_mx(n0:Nat)(es:List E)(a:E)(b:E):(E.mx a b).sub n0 es=oH (a.sub n0 es) (b.sub n0 es):=rfl
theorem E.sub_eq_wr(n0:Nat)(es:List E)(k:IntKind)(a:E):(E.wr k a).sub n0 es=sK k (a.sub n0 es):=rfl
theorem E.sub_eq_not(n0:Nat)(es:List E)(a:E):(E.not a).sub n0 es=F9 (a.sub n0 es):=rfl
theorem E.sub_eq_and(n0:Nat)(es:List E)(a:E)(b:E):(E.and a b).sub n0 es=.and (a.sub n0 es) (b.sub n0 es):=rfl
theorem E.sub_eq_seq(n0:Nat)(es:List E)(a:E)(b:E):(E.seq a b).sub n0 es=mS (a.sub n0 es) (b.sub n0 es):=rfl
theorem E.sub_eq_iff(n0:Nat)(es:List E)(a:E)(b:E):(E.iff a b).sub n0 es=.iff (a.sub n0 es) (b.sub n0 es):=rfl
theorem E.sub_eq_imp(n0:Nat)(es:List E)(a:E)(b:E):(E.imp a b).sub n0 es=.imp (a.sub n0 es) (b.sub n0 es):=rfl
theorem E.sub_eq_fn(n0:Nat)(es:List E)(f:Nat)(a:E):(E.fn f a).sub n0 es=F8 f (a.sub n0 es):=rfl
theorem E.sub_eq_pr(n0:Nat)(es:List E)(a:E)(b:E):(E.pr a b).sub n0 es=.pr (a.sub n0 es) (b.sub n0 es):=rfl
def cw(b0:Nat)(bs:List Nat)(i:Nat):Nat:=
 match Nat.blt i b0 with
 |true=>i
 |false=>match d9 bs (Nat.sub i b0)with
  |some j=>j
  |none=>i
def Off.sub(n0:Nat)(es:List E)(o:Off):Off:=⟨o.base,o.scale,o.idx.sub n0 es⟩
mutual
def SV.sub(z:Sub):SV->SV
 |.int k e=>.int k (e.sub z.n0 z.es)
 |.bool e=>.bool (e.sub z.n0 z.es)
 |.str e=>.str (e.sub z.n0 z.es)
 |.ptr b o=>.ptr (cw z.b0 z.bs b) (o.sub z.n0 z.es)
 |.slice b o l c=>.slice (cw z.b0 z.bs b) (o.sub z.n0 z.es) (l.sub z.n0 z.es) (c.sub z.n0 z.es)
 |.nslice b l c=>.nslice (cw z.b0 z.bs b) (l.sub z.n0 z.es) (c.sub z.n0 z.es)
 |.bsl ks e=>.bsl ks (e.sub z.n0 z.es)
 |.bptr ks e i j=>.bptr ks (e.sub z.n0 z.es) (i.sub z.n0 z.es) j
 |.nsl b ks e i c=>.nsl (cw z.b0 z.bs b) ks (e.sub z.n0 z.es) (i.sub z.n0 z.es) c
 |.nptr b ks e i c x j=>.nptr (cw z.b0 z.bs b) ks (e.sub z.n0 z.es) (i.sub z.n0 z.es) c (x.sub z.n0 z.es) j
 |.map b=>.map (cw z.b0 z.bs b)
 |.func fn fi ca=>.func fn (SV.subs z fi) (SV.subs z ca)
 |.agg cs=>.agg (SV.subs z cs)
 |.tup cs=>.tup (SV.subs z cs)
 |.nilp=>.nilp
 |.nils=>.nils
 |.nilm=>.nilm
 |.nili=>.nili
 |.nilf=>.nilf
 |.junk=>.junk
def SV.subs(z:Sub):List SV->List SV
 |[]=>[]
 |v::vs=>v.sub z::SV.subs z vs
end
def vE(z:Sub):List Ent->List Ent
 |[]=>[]
 |x::es=>⟨x.k.sub z,x.v.sub z,x.born.sub z.n0 z.es⟩::vE z es
def SObj.sub(z:Sub):SObj->SObj
 |.gone=>.gone
 |.cells cs af elem=>.cells (SV.subs z cs) (af.sub z.n0 z.es) elem
 |.flat ks l n af elem=>.flat ks (l.sub z.n0 z.es) (n.sub z.n0 z.es) (af.sub z.n0 z.es) elem
 |.map es c=>.map (vE z es) (c.sub z.n0 z.es)
 |.mapl k c e=>.mapl k c (e.sub z.n0 z.es)
 |.maplp k c e ke s=>.maplp k c (e.sub z.n0 z.es) (ke.sub z.n0 z.es) (s.sub z.n0 z.es)
 |.nest ks l n af elem own=>.nest ks (l.sub z.n0 z.es) (n.sub z.n0 z.es) (af.sub z.n0 z.es) elem (own.sub z.n0 z.es)
 |.iter k c e n u=>.iter k c (e.sub z.n0 z.es) (n.sub z.n0 z.es) (match u with | none=>none | some x=>some (x.sub z.n0 z.es))
def yw(k:IntKind)(c:VK):List Ent->Option (List E)
 |[]=>some []
 |x::es=>match x.k with
  |.int k' ke=>match fY k' k,sk c x.v with
   |true,some ve=>match yw k c es with
    |some l=>some (.pr ke ve::l)
    |none=>none
   |_,_=>none
  |_=>none
def Mo(ks r:List CK):List CK:=match r with | []=>ks | x::xs=>x::xs
def aaI(l:List CK):Option CK:=match l with | []=>none | c::_=>some c
def aJz(l:List CK):List CK:=match l with | []=>[] | _::r=>r
def ye(ks:List CK):List SV->List CK->Option (List E)
 |[],_=>some []
 |v::vs,r=>match aaI (Mo ks r)with
  |none=>none
  |some c=>match om c v with
   |some e=>match ye ks vs (aJz (Mo ks r))with
    |some l=>some (e::l)
    |none=>none
   |none=>none
def NX(w:Nat)(af:E):Option E:=
 match w with
 |1=>some af
 |w=>match af with
  |.fn 8 (.pr c (.int (.ofNat m)))=>match Nat.beq m w with
   |true=>some c
   |false=>none
  |.int (.ofNat t)=>match Nat.beq (Nat.mul (Nat.div t w) w) t with
   |true=>some (.int (.ofNat (Nat.div t w)))
   |false=>none
  |_=>none
def vu(p x:SObj):Option SObj:=
 match p with
 |.mapl k c _=>match x with
  |.map es _=>match yw k c es with
   |some l=>some (.mapl k c (cU l))
   |none=>none
  |_=>none
 |.iter _ _ _ _ u=>match u with
  |none=>match x with
   |.iter k c e n _=>some (.iter k c e n none)
   |_=>none
  |some _=>none
 |.nest ks _ _ _ _ _=>match x with
  |.flat ks' l n af elem=>match gK ks ks' with
   |true=>match l,Nat.beq (aR ks) 1 with
    |.fn 5 (.pr _ (.fn 30 _)),true=>some (.nest ks' l n af elem n)
    |_,_=>some (.nest ks' l n af elem (.int 0))
   |false=>none
  |_=>none
 |.flat ks _ _ _ _=>match x with
  |.cells cs af elem=>match ye ks cs [],NX (aR ks) af with
   |some l,some t=>match l with
    |[]=>match t with
     |.int (.ofNat m)=>match Nat.blt 0 (aR ks)with
      |true=>some (.flat ks (.fn 10 (.int 0)) (.int 0) (.int (.ofNat m)) elem)
      |false=>none
     |_=>none
    |_=>match Nat.beq (Nat.mul (Nat.div (aR cs) (aR ks)) (aR ks)) (aR cs)with
     |true=>some (.flat ks (cU l) (.int (.ofNat (Nat.div (aR cs) (aR ks)))) t elem)
     |false=>none
   |_,_=>none
  |_=>none
 |_=>none
def aei:E->Option Nat
 |.fn 23 (.pr _ r)=>match aei r with
  |some n=>some (Nat.succ n)
  |none=>none
 |.fn 10 _=>some 0
 |_=>none
def ael(e:E):E->E
 |.fn 23 (.pr x r)=>.fn 23 (.pr x (ael e r))
 |_=>.fn 23 (.pr e (.fn 10 (.int 0)))
def M4(y e:E):Nat->Nat->E
 |0,_=>.fn 23 (.pr e (.fn 10 (.int 0)))
 |n+1,j=>.fn 23 (.pr (.fn 1 (.pr y (.int (.ofNat j)))) (M4 y e n (Nat.succ j)))
def aCp:E->Nat->Option E
 |.fn 1 (.pr y (.int (.ofNat k))),j=>match Nat.beq k j with
  |true=>some y
  |false=>none
 |_,_=>none
def aFL(cur:E)(j:Nat)(e:E):E:=
 match aei cur with
 |some n=>match Nat.beq n j with
  |true=>ael e cur
  |false=>cur
 |none=>match aCp e j with
  |some y=>match y.beq cur with
   |true=>cur
   |false=>match j with
    |0=>y
    |_=>match cur with
     |.int _=>y
     |_=>M4 cur e j 0
  |none=>M4 cur e j 0
def aFS(n0 f:Nat)(a:E):Option (Nat×Nat):=
 match f with
 |1=>match a with
  |.pr (.var i) (.int (.ofNat j))=>match Nat.blt i n0 with
   |true=>none
   |false=>some (i,j)
  |_=>none
 |_=>none
def aFT(n0 i j:Nat)(e:E)(t:T E):T E:=
 match t.get (Nat.sub i n0)with
 |some cur=>t.set (Nat.sub i n0) (aFL cur j e)
 |none=>t
noncomputable def E.sw(b:E)(fa:BinOp->IntKind->E->E->T E->T E:=fun _ _ _ _ t=>t)(ff:Nat->E->T E->T E:=fun _ _ t=>t)(fp:E->E->T E->T E:=fun _ _ t=>t)(fn:E->T E->T E:=fun _ t=>t):T E->T E:=E.rec (motive:=fun _=>T E->T E) (fun _ t=>t) (fun _ t=>t) (fun _ t=>t) (fun _ t=>t) (fun x0 x1 x2 x3 _ _=>fa x0 x1 x2 x3) (fun _ _ _ _ _ t=>t) (fun _ _ _ _ t=>t) (fun _ _ _ _ t=>t) (fun _ _ _ t=>t) (fun x0 _=>fn x0) (fun _ _ _ _ t=>t) (fun _ _ _ _ t=>t) (fun _ _ _ _ t=>t) (fun _ _ _ _ t=>t) (fun x0 x1 _=>ff x0 x1) (fun x0 x1 _ _=>fp x0 x1) b
noncomputable def E.go_ar(b:E)(f:BinOp->IntKind->E->E->T E->T E):T E->T E:=b.sw (fa:=f)
noncomputable def E.go_fn(b:E)(f:Nat->E->T E->T E):T E->T E:=b.sw (ff:=f)
noncomputable def E.go_pr(b:E)(f:E->E->T E->T E):T E->T E:=b.sw (fp:=f)
noncomputable def E.go_not(b:E)(f:E->T E->T E):T E->T E:=b.sw (fn:=f)
noncomputable def gX(n0:Nat)(a:E):E->T E->T E:=
 E.rec (motive:=fun _=>E->T E->T E)
  (fun _ _ t=>t)
  (fun _ _ t=>t)
  (fun _ _ t=>t)
  (fun i e t=>Bool.rec (t.set (Nat.sub i n0) e) t (Nat.blt i n0))
  (fun _ _ _ _ f g e=>e.go_ar fun _ _ a b t=>g b (f a t))
  (fun _ _ _ _ _ _ t=>t)
  (fun _ _ _ _ _ t=>t)
  (fun _ _ _ _ _ t=>t)
  (fun _ _ _ _ t=>t)
  (fun _ f e=>e.go_not fun a t=>f a t)
  (fun _ _ _ _ _ t=>t)
  (fun _ _ _ _ _ t=>t)
  (fun _ _ _ _ _ t=>t)
  (fun _ _ _ _ _ t=>t)
  (fun k a f e=>Option.rec (motive:=fun _=>T E->T E) (e.go_fn fun _ a t=>f a t) (fun p t=>aFT n0 p.1 p.2 e t) (aFS n0 k a))
  (fun _ _ f g e=>e.go_pr fun a b t=>g b (f a t))
  a
abbrev G2:=T E×T Nat
noncomputable def SV.sw(v:SV)(fi:E->G2->G2:=fun _ g=>g)(fb:E->G2->G2:=fun _ g=>g)(fs:E->G2->G2:=fun _ g=>g)(fp:Nat->Off->G2->G2:=fun _ _ g=>g)(fl:Nat->Off->E->E->G2->G2:=fun _ _ _ _ g=>g)(fn:Nat->E->E->G2->G2:=fun _ _ _ g=>g)(fc:E->G2->G2:=fun _ g=>g)(fq:E->E->G2->G2:=fun _ _ g=>g)(fm:Nat->G2->G2:=fun _ g=>g)(ff:List SV->List SV->G2->G2:=fun _ _ g=>g)(fa:List SV->G2->G2:=fun _ g=>g)(ft:List SV->G2->G2:=fun _ g=>g):G2->G2:=SV.rec (motive_1:=fun _=>G2->G2) (motive_2:=fun _=>G2->G2) (fun _ e=>fi e) (fun e=>fb e) (fun e=>fs e) (fun g=>g) (fun b o=>fp b o) (fun g=>g) (fun b o l c=>fl b o l c) (fun b l c=>fn b l c) (fun _ e=>fc e) (fun _ e i _=>fq e i) (fun g=>g) (fun b=>fm b) (fun g=>g) (fun g=>g) (fun _ i c _ _=>ff i c) (fun cs _=>fa cs) (fun cs _=>ft cs) (fun g=>g) (fun _ _ _ _ _ g=>g) (fun _ _ _ _ _ _ _ g=>g) (fun g=>g) (fun _ _ _ _ g=>g) v
noncomputable def SV.go_int(v:SV)(f:E->G2->G2):G2->G2:=v.sw (fi:=f)
noncomputable def SV.go_bool(v:SV)(f:E->G2->G2):G2->G2:=v.sw (fb:=f)
noncomputable def SV.go_str(v:SV)(f:E->G2->G2):G2->G2:=v.sw (fs:=f)
noncomputable def SV.go_ptr(v:SV)(f:Nat->Off->G2->G2):G2->G2:=v.sw (fp:=f)
noncomputable def SV.go_slice(v:SV)(f:Nat->Off->E->E->G2->G2):G2->G2:=v.sw (fl:=f)
noncomputable def SV.go_nslice(v:SV)(f:Nat->E->E->G2->G2):G2->G2:=v.sw (fn:=f)
noncomputable def SV.go_bsl(v:SV)(f:E->G2->G2):G2->G2:=v.sw (fc:=f)
noncomputable def SV.go_bptr(v:SV)(f:E->E->G2->G2):G2->G2:=v.sw (fq:=f)
noncomputable def SV.go_map(v:SV)(f:Nat->G2->G2):G2->G2:=v.sw (fm:=f)
noncomputable def SV.go_func(v:SV)(f:List SV->List SV->G2->G2):G2->G2:=v.sw (ff:=f)
noncomputable def SV.go_agg(v:SV)(f:List SV->G2->G2):G2->G2:=v.sw (fa:=f)
noncomputable def SV.go_tup(v:SV)(f:List SV->G2->G2):G2->G2:=v.sw (ft:=f)
noncomputable def aDu(b0 b b':Nat)(t:T Nat):T Nat:=Bool.rec (t.set (Nat.sub b b0) b') t (Nat.blt b b0)
noncomputable def gE(n0:Nat)(e e':E)(g:G2):G2:=(gX n0 e e' g.1,g.2)
noncomputable def gB(b0 b b':Nat)(g:G2):G2:=(g.1,aDu b0 b b' g.2)
noncomputable def List.goK(l:List SV)(f:SV->List SV->G2->G2):G2->G2:=List.rec (motive:=fun _=>G2->G2) (fun g=>g) (fun v vs _=>f v vs) l
noncomputable def aDp(n0 b0:Nat)(v:SV)(b:Nat)(l c:E):G2->G2:=
 v.go_slice fun b' _ l' c' g=>gE n0 c c' (gE n0 l l' (gB b0 b b' g))
noncomputable def DF(n0 b0:Nat)(v:SV):SV->G2->G2:=
 SV.rec (motive_1:=fun _=>SV->G2->G2) (motive_2:=fun _=>List SV->G2->G2)
  (fun _ e v=>v.go_int fun e' g=>gE n0 e e' g)
  (fun e v=>v.go_bool fun e' g=>gE n0 e e' g)
  (fun e v=>v.go_str fun e' g=>gE n0 e e' g)
  (fun _ g=>g)
  (fun b o v=>v.go_ptr fun b' o' g=>gE n0 o.idx o'.idx (gB b0 b b' g))
  (fun _ g=>g)
  (fun b o l c v=>v.go_slice fun b' o' l' c' g=>gE n0 c c' (gE n0 l l' (gE n0 o.idx o'.idx (gB b0 b b' g))))
  (fun b l c v g=>aDp n0 b0 v b l c (v.go_nslice (fun b' l' c' g=>gE n0 c c' (gE n0 l l' (gB b0 b b' g))) g))
  (fun _ e v=>v.go_bsl fun e' g=>gE n0 e e' g)
  (fun _ e i _ v=>v.go_bptr fun e' i' g=>gE n0 i i' (gE n0 e e' g))
  (fun _ g=>g)
  (fun b v=>v.go_map fun b' g=>gB b0 b b' g)
  (fun _ g=>g) (fun _ g=>g)
  (fun _ _ _ f1 f2 v=>v.go_func fun fi ca g=>f2 ca (f1 fi g))
  (fun _ f v=>v.go_agg fun cs g=>f cs g)
  (fun _ f v=>v.go_tup fun cs g=>f cs g)
  (fun _ g=>g)
  (fun _ _ _ _ _ _ g=>g) (fun _ _ _ _ _ _ _ _ g=>g)
  (fun _ g=>g)
  (fun _ _ f1 f2 l=>List.goK l fun v vs g=>f2 vs (f1 v g)) v
noncomputable def aDw(n0 b0:Nat)(vs:List SV):List SV->G2->G2:=
 List.rec (motive:=fun _=>List SV->G2->G2) (fun _ g=>g) (fun v _ f l=>List.goK l fun v' vs' g=>f vs' (DF n0 b0 v v' g)) vs
noncomputable def T.goK(t:T SV)(f:SV->T SV->T SV->G2->G2):G2->G2:=T.rec (motive:=fun _=>G2->G2) (fun g=>g) (fun v l r _ _=>f v l r) t
noncomputable def aDv(n0 b0:Nat)(t:Tm):Tm->G2->G2:=
 T.rec (motive:=fun _=>Tm->G2->G2) (fun _ g=>g) (fun v _ _ f1 f2 t=>T.goK t fun v' l' r' g=>f2 r' (f1 l' (DF n0 b0 v v' g))) t
def aaC(n0 b0:Nat):List Ent->List Ent->T E×T Nat->T E×T Nat
 |x::es,y::es',g=>aaC n0 b0 es es' (let h:=DF n0 b0 x.v y.v (DF n0 b0 x.k y.k g);(gX n0 x.born y.born h.1,h.2))
 |_,_,g=>g
def DE(n0 b0:Nat)(heap:T Blk):T Blk->Nat->Nat->T E×T Nat->T E×T Nat
 |.nil,_,_,g=>g
 |.node x l r,a,d,g=>
  let j:=match Nat.blt a b0 with | true=>some a | false=>g.2.get (Nat.sub a b0)
  let g:=match j with
   |some j=>match heap.get j with
    |some y=>match x.obj,(match vu x.obj y.obj with | some o=>o | none=>y.obj)with
     |.mapl _ _ e,.mapl _ _ e'=>(gX n0 e e' g.1,g.2)
     |.iter _ _ e n u,.iter _ _ e' n' u'=>(match u,u' with
      |some x,some x'=>gX n0 x x' (gX n0 n n' (gX n0 e e' g.1))
      |_,_=>gX n0 n n' (gX n0 e e' g.1),g.2)
     |.cells cs t _,.cells cs' t' _=>let g:=aDw n0 b0 cs cs' g;(gX n0 t t' g.1,g.2)
     |.nest _ e n t _ o,.nest _ e' n' t' _ o'=>(gX n0 o o' (gX n0 t t' (gX n0 n n' (gX n0 e e' g.1))),g.2)
     |.flat _ e n t _,.flat _ e' n' t' _=>(gX n0 t t' (gX n0 n n' (gX n0 e e' g.1)),g.2)
     |.map es c,.map es' c'=>let h:=aaC n0 b0 es es' g;(gX n0 c c' h.1,h.2)
     |_,_=>g
    |none=>g
   |none=>g
  DE n0 b0 heap r (Nat.add a (Nat.add d d)) (Nat.add d d) (DE n0 b0 heap l (Nat.add a d) (Nat.add d d) g)
def NZ{G:Type}(t:T G)(x:G):Nat->Nat->List G
 |0,_=>[]
 |n+1,i=>(match t.get i with | some y=>y | none=>x)::NZ t x n (Nat.succ i)
def Li(n0 b0:Nat)(tmps:Tm)(st:St)(τ:Tmpl):Sub:=
 let nE:=Nat.sub τ.st.nv n0
 let nB:=Nat.sub τ.st.nb b0
 let g:=DE n0 b0 st.heap τ.st.heap 0 1 (aDv n0 b0 τ.tmps tmps (T.fill (.int 0) 20 nE,T.fill 0 20 nB))
 let g:=DE n0 b0 st.heap τ.st.heap 0 1 g
 ⟨n0,NZ g.1 (.int 0) nE 0,b0,NZ g.2 0 nB 0⟩
def FP(nv:Nat):List E->Bool
 |[]=>true
 |e::es=>match e.scp nv with
  |true=>FP nv es
  |false=>false
def CJ(nb:Nat):List Nat->Bool
 |[]=>true
 |b::bs=>match Nat.blt b nb with
  |true=>CJ nb bs
  |false=>false
noncomputable def v7(z:Sub)(p v:SV):Bool:=Bool.rec ((p.sub z).beq v) true (isJunk p)
theorem aF5(z:Sub)(p v:SV):v7 z p v=(match p with
 |.junk=>true
 |_=>(p.sub z).beq v):=by cases p<;>rfl
noncomputable def aJI(t:Tm):Bool:=T.rec (motive:=fun _=>Bool) true (fun _ _ _ _ _=>false) t
noncomputable def aJJ(t:Tm)(f:SV->Tm->Tm->Bool):Bool:=T.rec (motive:=fun _=>Bool) false (fun v l r _ _=>f v l r) t
noncomputable def nq(z:Sub)(p:Tm):Tm->Bool:=
 T.rec (motive:=fun _=>Tm->Bool) aJI (fun p _ _ fl fr t=>aJJ t fun v l' r'=>Bool.rec false (Bool.rec false (fr r') (fl l')) (v7 z p v)) p
theorem aJG(z:Sub)(p v:SV)(l r l' r':Tm):nq z (.node p l r) (.node v l' r')=(match v7 z p v with
  |true=>match nq z l l' with
   |true=>nq z r r'
   |false=>false
  |false=>false):=by
 have h:nq z (.node p l r) (.node v l' r')=Bool.rec (motive:=fun _=>Bool) false (Bool.rec (motive:=fun _=>Bool) false (nq z r r') (nq z l l')) (v7 z p v):=rfl
 rw[h]
 cases v7 z p v
 ·rfl
 ·cases nq z l l'<;>rfl
def Mu(z:Sub)(p x:SObj):Bool:=
 match p with
 |.gone=>true
 |_=>match vu p x with
  |some x'=>(p.sub z).beq x'
  |none=>(p.sub z).beq x
def CD(z:Sub)(heap:T Blk)(nb a:Nat)(p:Blk):Bool:=
 match Nat.blt a nb with
 |true=>match p.obj with
  |.gone=>true
  |_=>match heap.get (cw z.b0 z.bs a)with
   |some x=>mC p.own x.own&&Mu z p.obj x.obj
   |none=>false
 |false=>false
def yQ(z:Sub)(heap:T Blk)(nb:Nat):T Blk->Nat->Nat->Bool
 |.nil,_,_=>true
 |.node p l r,a,d=>match CD z heap nb a p with
  |true=>match yQ z heap nb l (Nat.add a d) (Nat.add d d)with
   |true=>yQ z heap nb r (Nat.add a (Nat.add d d)) (Nat.add d d)
   |false=>false
  |false=>false
def kN:T Blk->Nat->Nat->List Nat->List Nat
 |.nil,_,_,acc=>acc
 |.node p l r,a,d,acc=>
  match p.obj with
  |.gone=>kN r (Nat.add a (Nat.add d d)) (Nat.add d d) (kN l (Nat.add a d) (Nat.add d d) acc)
  |_=>kN r (Nat.add a (Nat.add d d)) (Nat.add d d) (kN l (Nat.add a d) (Nat.add d d) (a::acc))
def uQ(z:Sub):List Nat->List Nat
 |[]=>[]
 |i::l=>cw z.b0 z.bs i::uQ z l
def DH(n:Nat):List Nat->Bool
 |[]=>false
 |m::ms=>match Nat.beq n m with
  |true=>true
  |false=>DH n ms
def Cs:List Nat->Bool
 |[]=>true
 |n::ns=>match DH n ns with
  |true=>false
  |false=>Cs ns
inductive Fit where
 |ok (z:Sub)
 |lack (e:E)
 |bad (n:Nat)
def zL(fs:List E)(z:Sub)(pc:List E):List E->Fit
 |[]=>.ok z
 |e::es=>match fe fs pc (e.sub z.n0 z.es)with
  |some true=>zL fs z pc es
  |_=>.lack (e.sub z.n0 z.es)
def si(fs:List E)(n0 b0:Nat)(tmps:Tm)(st:St)(τ:Tmpl):Fit:=
 let z:=Li n0 b0 tmps st τ
 match Nat.beq (Nat.add n0 (aR z.es)) τ.st.nv&&Nat.beq (Nat.add b0 (aR z.bs)) τ.st.nb&&(FP st.nv z.es&&CJ st.nb z.bs)with
 |true=>match nq z τ.tmps tmps with
  |true=>match yQ z st.heap τ.st.nb τ.st.heap 0 1 with
   |true=>match Cs (uQ z (kN τ.st.heap 0 1 []))with
    |true=>zL fs z st.pc τ.st.pc
    |false=>.bad 4
   |false=>.bad 3
  |false=>.bad 2
 |false=>.bad 1
noncomputable def T.map{G Z:Type}(f:G->Z)(t:T G):T Z:=T.rec (motive:=fun _=>T Z) T.nil (fun v _ _ a b=>T.node (f v) a b) t
def Ly:Option Blk->Bool
 |some b=>match b.obj with
  |.cells _ _ _=>true
  |_=>false
 |none=>false
def Mx(o:Off):Bool:=
 match gL o with
 |some n=>Nat.beq n 0
 |none=>false
mutual
def SV.norm(h:T Blk):SV->SV
 |.int k e=>.int k e
 |.bool e=>.bool e
 |.str e=>.str e
 |.ptr b o=>.ptr b o
 |.slice b o l c=>match Ly (h.get b)&&Mx o with
  |true=>.nslice b l c
  |false=>.slice b o l c
 |.nslice b l c=>.nslice b l c
 |.bsl ks e=>.bsl ks e
 |.bptr ks e i j=>.bptr ks e i j
 |.nsl b ks e i c=>.nsl b ks e i c
 |.nptr b ks e i c x j=>.nptr b ks e i c x j
 |.map b=>.map b
 |.func fn fi ca=>.func fn (SV.norms h fi) (SV.norms h ca)
 |.agg cs=>.agg (SV.norms h cs)
 |.tup cs=>.tup (SV.norms h cs)
 |.nilp=>.nilp
 |.nils=>.nils
 |.nilm=>.nilm
 |.nili=>.nili
 |.nilf=>.nilf
 |.junk=>.junk
def SV.norms(h:T Blk):List SV->List SV
 |[]=>[]
 |v::vs=>v.norm h::SV.norms h vs
end
def SObj.norm(h:T Blk):SObj->SObj
 |.cells cs af e=>.cells (SV.norms h cs) af e
 |.gone=>.gone
 |.flat ks l n af e=>.flat ks l n af e
 |.map es c=>.map es c
 |.mapl k c e=>.mapl k c e
 |.maplp k c e ke s=>.maplp k c e ke s
 |.iter k c e n u=>.iter k c e n u
 |.nest ks l n af e o=>.nest ks l n af e o
def Blk.norm(h:T Blk)(b:Blk):Blk:=⟨b.own,b.obj.norm h⟩
def St.norm(st:St):St:=⟨st.nv,st.nb,st.heap.map (Blk.norm st.heap),st.pc⟩
def Lb(fs:List E)(n0 b0:Nat)(tmps:Tm)(st:St)(τ:Tmpl):Fit:=si fs n0 b0 (tmps.map (SV.norm st.heap)) st.norm τ
def y9(nv:Nat):List E->List E
 |[]=>[]
 |e::es=>match e.scp nv with
  |true=>e::y9 nv es
  |false=>y9 nv es
def J1(st:St)(v:SV)(st':St):St:=
 match Nat.beq st.nb st'.nb&&Nat.beq st.nv st'.nv with
 |true=>st'
 |false=>match v.plain&&(v.scp st.nv st.nb&&(st.scp&&oz st.heap st'.heap))with
  |true=>⟨st.nv,st.nb,st.heap,y9 st.nv st'.pc⟩
  |false=>st'
def rM(b:Nat)(m:Nat):Nat:=Nat.lor (Nat.pow 2 b) m
mutual
def SV.blks:SV->Nat->Nat
 |.ptr b _,m=>rM b m
 |.slice b _ _ _,m=>rM b m
 |.nslice b _ _,m=>rM b m
 |.map b,m=>rM b m
 |.nsl b _ _ _ _,m=>rM b m
 |.nptr b _ _ _ _ _ _,m=>rM b m
 |.func _ fi ca,m=>SV.blkss ca (SV.blkss fi m)
 |.agg cs,m=>SV.blkss cs m
 |.tup cs,m=>SV.blkss cs m
 |_,m=>m
def SV.blkss:List SV->Nat->Nat
 |[],m=>m
 |v::vs,m=>SV.blkss vs (SV.blks v m)
end
def ZA:List Ent->Nat->Nat
 |[],m=>m
 |x::es,m=>ZA es (SV.blks x.v (SV.blks x.k m))
def SObj.blks:SObj->Nat->Nat
 |.cells cs _ _,m=>SV.blkss cs m
 |.map es _,m=>ZA es m
 |_,m=>m
def FJ(heap:T Blk)(m:Nat):Nat->Nat->Nat->Nat
 |0,_,r=>r
 |n+1,b,r=>match Nat.testBit m b with
  |true=>match heap.get b with
   |some x=>gf (x.obj.blks r) fun r=>FJ heap m n (Nat.succ b) r
   |none=>FJ heap m n (Nat.succ b) r
  |false=>FJ heap m n (Nat.succ b) r
def ad7(heap:T Blk)(n b0:Nat):Nat->Nat->Nat
 |0,m=>m
 |k+1,m=>gf (FJ heap m n b0 m) fun m'=>match Nat.beq m m' with
  |true=>m
  |false=>ad7 heap n b0 k m'
def yq(m:Nat):Nat->Nat->T Blk->T Blk
 |0,_,h=>h
 |n+1,b,h=>match Nat.testBit m b with
  |true=>yq m n (Nat.succ b) h
  |false=>T.setK h b ⟨true,.gone⟩ fun h=>yq m n (Nat.succ b) h
def E.vset:E->Nat->Nat
 |.var i,m=>rM i m
 |.ar _ _ a b,m=>E.vset b (E.vset a m)
 |.cmp _ a b,m=>E.vset b (E.vset a m)
 |.mn a b,m=>E.vset b (E.vset a m)
 |.mx a b,m=>E.vset b (E.vset a m)
 |.wr _ a,m=>E.vset a m
 |.not a,m=>E.vset a m
 |.and a b,m=>E.vset b (E.vset a m)
 |.seq a b,m=>E.vset b (E.vset a m)
 |.iff a b,m=>E.vset b (E.vset a m)
 |.imp a b,m=>E.vset b (E.vset a m)
 |.fn _ a,m=>E.vset a m
 |.pr a b,m=>E.vset b (E.vset a m)
 |_,m=>m
mutual
def SV.vset:SV->Nat->Nat
 |.int _ e,m=>e.vset m
 |.bool e,m=>e.vset m
 |.str e,m=>e.vset m
 |.ptr _ o,m=>o.idx.vset m
 |.slice _ o l c,m=>c.vset (l.vset (o.idx.vset m))
 |.nslice _ l c,m=>c.vset (l.vset m)
 |.bsl _ e,m=>e.vset m
 |.bptr _ e i _,m=>i.vset (e.vset m)
 |.nsl _ _ e i _,m=>i.vset (e.vset m)
 |.nptr _ _ e i _ x _,m=>x.vset (i.vset (e.vset m))
 |.func _ fi ca,m=>SV.vsets ca (SV.vsets fi m)
 |.agg cs,m=>SV.vsets cs m
 |.tup cs,m=>SV.vsets cs m
 |_,m=>m
def SV.vsets:List SV->Nat->Nat
 |[],m=>m
 |v::vs,m=>SV.vsets vs (SV.vset v m)
end
def ZB:List Ent->Nat->Nat
 |[],m=>m
 |x::es,m=>ZB es (x.born.vset (SV.vset x.v (SV.vset x.k m)))
def SObj.vset:SObj->Nat->Nat
 |.gone,m=>m
 |.cells cs t _,m=>t.vset (SV.vsets cs m)
 |.flat _ l n t _,m=>t.vset (n.vset (l.vset m))
 |.nest _ l n t _ o,m=>o.vset (t.vset (n.vset (l.vset m)))
 |.map es c,m=>c.vset (ZB es m)
 |.mapl _ _ e,m=>e.vset m
 |.maplp _ _ e ke s,m=>s.vset (ke.vset (e.vset m))
 |.iter _ _ e n u,m=>match u with | none=>n.vset (e.vset m) | some x=>x.vset (n.vset (e.vset m))
def CF(heap:T Blk)(bs:Nat):Nat->Nat->Nat->Nat
 |0,_,r=>r
 |n+1,b,r=>match Nat.testBit bs b with
  |true=>match heap.get b with
   |some x=>gf (x.obj.vset r) fun r=>CF heap bs n (Nat.succ b) r
   |none=>CF heap bs n (Nat.succ b) r
  |false=>CF heap bs n (Nat.succ b) r
def zd(nv live:Nat):List E->List E
 |[]=>[]
 |e::es=>match Nat.beq (Nat.land (Nat.shiftRight (e.vset 0) nv) live) (Nat.shiftRight (e.vset 0) nv)with
  |true=>e::zd nv live es
  |false=>zd nv live es
def yN(st:St)(v:SV)(st':St):St:=
 match Nat.beq st.nb st'.nb with
 |true=>st'
 |false=>match oz st.heap st'.heap with
  |true=>gf (ad7 st'.heap (Nat.sub st'.nb st.nb) st.nb 40 (SV.blks v 0)) fun m=>
    gf (Nat.shiftRight (CF st'.heap m (Nat.sub st'.nb st.nb) st.nb (SV.vset v 0)) st.nv) fun live=>
     ⟨st'.nv,st'.nb,yq m (Nat.sub st'.nb st.nb) st.nb st'.heap,zd st.nv live st'.pc⟩
  |false=>st'
def yP(v:SV)(st:St):List (SV×St)->Bool
 |[]=>false
 |x::xs=>match v.beq x.1&&st.beq x.2 with
  |true=>true
  |false=>yP v st xs
def jP(v:SV):Tm:=.node v .nil .nil
def afN(n0 b0:Nat)(t:Tm)(st:St):Bool:=Nat.ble n0 st.nv&&(Nat.ble b0 st.nb&&(st.scp&&jT st.nv st.nb t))
def LB:Fit->Bool
 |.ok _=>true
 |_=>false
def pY(fs:List E)(n0 b0:Nat)(t:Tm)(st:St):List (Tm×St)->Bool
 |[]=>false
 |x::xs=>match afN n0 b0 x.1 x.2&&LB (si fs n0 b0 t st ⟨x.1,x.2,.int 0⟩)with
  |true=>true
  |false=>pY fs n0 b0 t st xs
def ui:List (SV×St)->List (Tm×St)
 |[]=>[]
 |x::xs=>match x.1 with
  |.junk=>ui xs
  |v=>(jP v,x.2)::ui xs
def xQ(fs:List E)(st0:St)(v:SV)(st:St)(acc:List (SV×St)):List (SV×St):=
 match acc with
 |[]=>[(v,st)]
 |_=>match yP v st acc with
  |true=>acc
  |false=>match Nat.beq st0.nb st.nb&&Nat.beq st0.nv st.nv with
   |true=>(v,st)::acc
   |false=>match pY fs st0.nv st0.nb (jP v) (yN st0 v st) (ui acc)with
    |true=>acc
    |false=>(v,yN st0 v st)::acc
def yb(fs:List E)(st:St):List Out->List (SV×St)->Option (List (SV×St))
 |[],acc=>some acc
 |r::rs,acc=>match r.tmps with
  |.node v _ _=>yb fs st rs (xQ fs st v (J1 st v r.st) acc)
  |_=>none
def MY(tmps:Tm)(d:Option Tmp)(k:fG):List (SV×St)->aT
 |[]=>some []
 |x::xs=>gY (fv tmps d x.1 fun tmps=>k tmps x.2) (MY tmps d k xs)
def FH(_:List Out):List Out:=[]
def ado(_:Tm)(_:St)(_:Op):String:= ""
def FZ(tb:Tab)(rec:cq)(o:Oper)(tmps:Tm)(st:St)(k:fG):aT:=
 match o.op with
 |.call c=>match CR tb tmps c with
  |some (g,args)=>match jT st.nv st.nb tmps with
   |true=>match rec (.call g args) .nil st (fun r=>some [r])with
    |some rs=>match FH rs with
     |[]=>match yb tb.facts st rs [] with
      |some l=>MY tmps o.dst k l
      |none=>none
     |raw=>some raw
    |none=>none
   |false=>sf (o.pos ++ " scope")
  |none=>sf (o.pos ++ " callee" ++ (match o.op with | .call c=>c.args.toList.foldl (fun s x=>s++ado tmps st (.load 0 x)) "" | _=> ""))
 |_=>sf (o.pos ++ " operation " ++ aE9 o.op++ado tmps st o.op)
def qv(tb:Tab)(rec:cq)(o:Oper)(tmps:Tm)(k:fG)(n:Nat):St->aT:=
 Nat.rec (motive:=fun _=>St->aT) (fun _=>none) (fun _ ih st=>
  match n9 tb tmps st o.op with
  |.val v st=>fv tmps o.dst v fun tmps=>k tmps st
  |.skip st=>fv tmps o.dst .undef fun tmps=>k tmps st
  |.ask e=>gY (ih {st with pc:=e::st.pc}) (ih {st with pc:=bm e::st.pc})
  |.lack e=>Ed o.pos st e
  |.bad=>match yu tb tmps st o.op with
   |.val v st=>fv tmps o.dst v fun tmps=>k tmps st
   |.skip st=>fv tmps o.dst .undef fun tmps=>k tmps st
   |.ask e=>gY (ih {st with pc:=e::st.pc}) (ih {st with pc:=bm e::st.pc})
   |.lack e=>Ed o.pos st e
   |.bad=>FZ tb rec o tmps st k) n
def Ab(P:Program)(tb:Tab)(rec:cq)(o:Oper)(tmps:Tm)(st:St)(k:fG):aT:=
 match s6 P tb (bJ tmps) o.op with
 |some v=>fv tmps o.dst v fun tmps=>k tmps st
 |none=>qv tb rec o tmps k 40 st
def qx(P:Program)(tb:Tab)(rec:cq)(all:List Oper)(o:Oper)(tmps:Tm)(st:St)(k:fG):aT:=
 match wq all tmps o with
 |.yes=>Ab P tb rec o tmps st k
 |.no=>fv tmps o.dst .undef fun tmps=>k tmps st
 |.bad=>sf o.pos
 |.ask t e want=>match fe tb.facts st.pc e with
  |some b=>T.setK tmps t (.bool (.bool b)) fun tmps=>match mC b want with
   |true=>Ab P tb rec o tmps st k
   |false=>fv tmps o.dst .undef fun tmps=>k tmps st
  |none=>
   gY (T.setK tmps t (.bool (.bool want)) fun tmps=>Ab P tb rec o tmps {st with pc:=(match want with | true=>e | false=>bm e)::st.pc} k)
    (T.setK tmps t (.bool (.bool (!want))) fun tmps=>fv tmps o.dst .undef fun tmps=>k tmps {st with pc:=(match want with | true=>bm e | false=>e)::st.pc})
def ae4(P:Program)(tb:Tab)(rec:cq)(all:List Oper)(l:List Oper):Tm->St->fG->aT:=
 List.rec (motive:=fun _=>Tm->St->fG->aT) (fun tmps st k=>k tmps st)
  (fun o _ ih tmps st k=>qx P tb rec all o tmps st fun tmps st=>ih tmps st k) l
def vb(k:Nat)(x:Info):List Info->Bool
 |[]=>true
 |m::ms=>match Nat.testBit m.wait k with
  |true=>vb k x ms
  |false=>match Nat.beq (Nat.land x.dst m.reads) 0 with
   |true=>match Nat.beq (Nat.land x.dst m.dst) 0 with
    |true=>match Nat.beq (Nat.land m.dst x.reads) 0 with
     |true=>vb k x ms
     |false=>false
    |false=>false
   |false=>false
def jK:List Info->Nat->Bool
 |[],_=>true
 |m::ms,k=>match Nat.blt m.wait (Nat.pow 2 k)with
  |true=>match vb k m ms with
   |true=>jK ms (Nat.succ k)
   |false=>false
  |false=>false
inductive QR where
 |done (v:SV)
 |split (e:E)
 |bad
def ad1(st:St)(r:aT):QR:=
 match r with
 |some os=>match os with
  |[o]=>match o.tmps with
   |.node v _ _=>match v.plain&&(v.scp st.nv st.nb&&st.scp&&oz st.heap o.st.heap)with
    |true=>.done v
    |false=>.bad
   |.nil=>.bad
  |_=>.bad
 |none=>.bad
def M0(o:Op):Bool:=
 match o with
 |.load _ _=>true
 |.slice _ _ _ _ _=>true
 |.lookup _ _ _ _=>true
 |.binOp _ _ _ _ _=>true
 |.indexAddr _ _ _=>true
 |.index _ _ _=>true
 |.pick _ _ _=>true
 |.call c=>match c.callee with
  |.builtin _=>true
  |_=>false
 |_=>false
def zQ(P:Program)(tb:Tab)(rec:cq)(o:Oper)(tmps:Tm)(st:St):QR:=
 match s6 P tb (bJ tmps) o.op with
 |some v=>.done v
 |none=>match M0 o.op with
  |true=>match n9 tb tmps st o.op with
   |.val v _=>.done v
   |.ask e=>.split e
   |_=>.bad
  |false=>match o.op with
   |.call c=>match CR tb tmps c with
    |some (g,args)=>ad1 st (rec (.call g args) .nil st fun o=>some [o])
    |none=>.bad
   |_=>.bad
inductive QE where
 |done (tmps:Tm)
 |split (e:E)
 |bad
def oV(P:Program)(tb:Tab)(rec:cq)(all:List Oper)(st:St):List Oper->Tm->QE
 |[],tmps=>.done tmps
 |o::os,tmps=>match wq all tmps o with
  |.yes=>match zQ P tb rec o tmps st with
   |.done v=>fv tmps o.dst v fun tmps=>oV P tb rec all st os tmps
   |.split e=>.split e
   |.bad=>.bad
  |.no=>fv tmps o.dst .undef fun tmps=>oV P tb rec all st os tmps
  |.bad=>.bad
  |.ask t e want=>match fe tb.facts st.pc e with
   |some b=>T.setK tmps t (.bool (.bool b)) fun tmps=>match mC b want with
    |true=>match zQ P tb rec o tmps st with
     |.done v=>fv tmps o.dst v fun tmps=>oV P tb rec all st os tmps
     |.split e=>.split e
     |.bad=>.bad
    |false=>fv tmps o.dst .undef fun tmps=>oV P tb rec all st os tmps
   |none=>.split e
def jm:List Oper->Bool
 |[]=>true
 |o::os=>match o.op with
  |.select _ _=>false
  |_=>jm os
def yg(m:Nat):List Nat->Nat->Nat->Nat
 |[],_,r=>r
 |c::cs,j,r=>match Nat.testBit m j with
  |true=>yg m cs (Nat.succ j) (Nat.lor c r)
  |false=>yg m cs (Nat.succ j) r
def CX:List Info->List Nat->List Nat
 |[],acc=>acc
 |m::ms,acc=>gf (yg m.wait acc 0 m.wait) fun c=>CX ms (acc++[c])
inductive NS where
 |val (v:SV)
 |ask (e:E)
 |bad
def EL(P:Program)(tb:Tab)(tmps:Tm)(st:St)(o:Oper):NS:=
 match s6 P tb (bJ tmps) o.op with
 |some v=>.val v
 |none=>match M0 o.op with
  |true=>match n9 tb tmps st o.op with
   |.val v _=>.val v
   |.ask e=>.ask e
   |_=>.bad
  |false=>.bad
def EM(P:Program)(tb:Tab)(all:List Oper)(tmps:Tm)(st:St)(o:Oper):NS:=
 match wq all tmps o with
 |.yes=>EL P tb tmps st o
 |.no=>.val .undef
 |.bad=>.bad
 |.ask _ e want=>match fe tb.facts st.pc e with
  |some b=>match mC b want with
   |true=>EL P tb tmps st o
   |false=>.val .undef
  |none=>.ask e
def n8(dst:Nat):List Info->Nat->Nat->Nat
 |[],_,r=>r
 |m::ms,j,r=>match Nat.beq (Nat.land dst (Nat.lor m.reads m.dst)) 0 with
  |true=>n8 dst ms (Nat.succ j) r
  |false=>n8 dst ms (Nat.succ j) (Nat.lor (Nat.pow 2 j) r)
def Cr(cs:Nat)(clos:List Nat):List (Nat×Oper×Info)->Bool
 |[]=>true
 |(j,_,_)::rs=>match d9 clos j with
  |some c=>match Nat.beq (Nat.land cs c) cs with
   |true=>Cr cs clos rs
   |false=>false
  |none=>false
def Kp(all:List Oper)(infos:List Info)(clos:List Nat)(listed used:Nat)(m:Info):Bool:=
 match Nat.beq (Nat.land m.dst (Nat.lor m.reads used)) 0 with
 |true=>true
 |false=>Nat.beq (Nat.land m.dst m.reads) 0&&Cr (Nat.land (n8 m.dst infos 0 0) listed) clos (gu listed all infos 0)
def mD{Z:Type}(P:Program)(tb:Tab)(all:List Oper)(infos:List Info)(clos:List Nat)(st:St):List Oper->List Info->Nat->Nat->Nat->Nat->Tm->(Nat->Nat->Nat->Tm->Option E->Z)->Z
 |o::os,m::ms,i,listed,used,neu,tmps,k=>
  match Nat.testBit listed i with
  |true=>mD P tb all infos clos st os ms (Nat.succ i) listed used neu tmps k
  |false=>match Nat.beq (Nat.land m.wait listed) m.wait with
   |true=>match EM P tb all tmps st o with
    |.val v=>match Kp all infos clos listed used m with
     |true=>fv tmps o.dst v fun tmps=>gf (Nat.lor (Nat.pow 2 i) listed) fun listed=>gf (Nat.lor (Nat.lor m.reads m.dst) used) fun used=>gf (Nat.lor (Nat.pow 2 i) neu) fun neu=>
       mD P tb all infos clos st os ms (Nat.succ i) listed used neu tmps k
     |false=>mD P tb all infos clos st os ms (Nat.succ i) listed used neu tmps k
    |.ask e=>k listed used neu tmps (some e)
    |.bad=>mD P tb all infos clos st os ms (Nat.succ i) listed used neu tmps k
   |false=>mD P tb all infos clos st os ms (Nat.succ i) listed used neu tmps k
 |_,_,_,listed,used,neu,tmps,k=>k listed used neu tmps none
def SV.isJunk:SV->Bool
 |.junk=>true
 |_=>false
def qn(P:Program)(tb:Tab)(all:List Oper)(tmps:Tm)(st:St)(neu:Nat):List Oper->Nat->Bool
 |[],_=>true
 |o::os,i=>match Nat.testBit neu i with
  |false=>qn P tb all tmps st neu os (Nat.succ i)
  |true=>match EM P tb all tmps st o with
   |.val v=>match o.dst with
    |none=>qn P tb all tmps st neu os (Nat.succ i)
    |some d=>match tmps.get d with
     |some u=>match !(v.isJunk)&&v.beq u with
      |true=>qn P tb all tmps st neu os (Nat.succ i)
      |false=>false
     |none=>false
   |_=>false
def andNot(a b:Nat):Nat:=Nat.xor a (Nat.land a b)
def CS(P:Program)(tb:Tab)(rec:cq)(all:List Oper)(infos:List Info)(clos:List Nat)(listed used neu:Nat)(tmps:Tm)(st:St)(ih:Nat->Nat->Nat->Tm->St->aT):List (Nat×Oper×Info)->aT
 |[]=>some []
 |(i,o,m)::rs=>match d9 clos i with
  | some c=>match gf (andNot neu c) fun neu=>qx P tb rec all o tmps st fun tmps st=>match qn P tb all tmps st neu all 0 with
    |true=>gf (Nat.lor (Nat.pow 2 i) listed) fun listed=>gf (Nat.lor (Nat.lor m.reads m.dst) used) fun used=>ih listed used neu tmps st
    |false=>none with
   |some os=>match CS P tb rec all infos clos listed used neu tmps st ih rs with
    |some os'=>some (os++os')
    |none=>none
   |none=>none
  |none=>none
def J8(P:Program)(tb:Tab)(rec:cq)(all:List Oper)(infos:List Info)(clos:List Nat)(listed used neu:Nat)(tmps:Tm)(st:St)(k:fG)(ih:Nat->Nat->Nat->Tm->St->aT):aT:=
 match gu listed all infos 0 with
 |[]=>k tmps st
 |rs=>CS P tb rec all infos clos listed used neu tmps st ih rs
def uv(P:Program)(tb:Tab)(rec:cq)(all:List Oper)(infos:List Info)(clos:List Nat)(k:fG)(n:Nat):Nat->Nat->Nat->Tm->St->aT:=
 Nat.rec (motive:=fun _=>Nat->Nat->Nat->Tm->St->aT) (fun _ _ _ _ _=>none) (fun _ ih listed used neu tmps st=>
  mD P tb all infos clos st all infos 0 listed used neu tmps fun listed used neu tmps pend=>match pend with
   |some e=>gY (ih listed used neu tmps {st with pc:=e::st.pc}) (ih listed used neu tmps {st with pc:=bm e::st.pc})
   |none=>J8 P tb rec all infos clos listed used neu tmps st k ih) n
def rZ(tmps:Tm)(st:St):aT:=some [⟨.normal,tmps,st⟩]
def kQ(fs:List E)(n0 b0:Nat):List Out->List (Tm×St)->List (Tm×St)
 |[],acc=>acc
 |o::os,acc=>match acc with
  |[]=>kQ fs n0 b0 os [(o.tmps,o.st)]
  |_=>match pY fs n0 b0 o.tmps o.st acc with
   |true=>kQ fs n0 b0 os acc
   |false=>kQ fs n0 b0 os ((o.tmps,o.st)::acc)
def M6(k:Out->aT):List (Tm×St)->aT
 |[]=>some []
 |x::xs=>gY (k ⟨.normal,x.1,x.2⟩) (M6 k xs)
def Nw(P:Program)(tb:Tab)(rec:cq)(all:List Oper)(n:Nat)(tmps:Tm)(st:St)(k:Out->aT):aT:=
 match jm all with
 |true=>match jK (aY all all) 0 with
  |true=>match uv P tb rec all (aY all all) (CX (aY all all) []) rZ (Nat.add 10 (Nat.add n n)) 0 0 0 tmps st with
   |some outs=>match FH outs with
    |[]=>M6 k (kQ tb.facts st.nv st.nb outs [])
    |raw=>some raw
   |none=>match oV P tb rec all st all tmps with
   |.done tmps=>k ⟨.normal,tmps,st⟩
   |.split e=>gY (rec (.draw all n) tmps {st with pc:=e::st.pc} k) (rec (.draw all n) tmps {st with pc:=bm e::st.pc} k)
   |.bad=>rec (.layer all (aY all all) (o5 P tb all (aY all all) 0 n [⟨.normal,tmps,st⟩] [])) tmps st k
  |false=>rec (.layer all (aY all all) (o5 P tb all (aY all all) 0 n [⟨.normal,tmps,st⟩] [])) tmps st k
 |false=>none
def jJ:Code->Option Nat
 |.exit id=>some id
 |.seq a b=>match jJ a with
  |some n=>some n
  |none=>jJ b
 |.block _ b=>jJ b
 |.loop b=>jJ b
 |.scope b=>jJ b
 |.cond _ a b=>match jJ a with
  |some n=>some n
  |none=>jJ b
 |_=>none
def yG(g key:Nat):List Ann->Option Ann
 |[]=>none
 |x::xs=>match Nat.beq x.fn g with
  |true=>match Nat.beq x.key key with
   |true=>some x
   |false=>yG g key xs
  |false=>yG g key xs
def JT(tb:Tab)(g:Nat)(b:Code):Option Ann:=
 match tb.anns with
 |[]=>none
 |l=>match jJ b with
  |some key=>yG g key l
  |none=>none
def jH(fs:List E)(n0 b0:Nat)(tmps:Tm)(st:St)(bound:Option E):List Tmpl->Option E->Fit
 |[],why=>match why with
  |some e=>.lack e
  |none=>.bad 0
 |τ::τs,why=>match Lb fs n0 b0 tmps st τ with
  |.ok z=>match bound with
   |none=>.ok z
   |some m=>match iU fs st.pc (τ.less.sub z.n0 z.es) m with
    |true=>match fg fs st.pc (τ.less.sub z.n0 z.es)with
     |true=>.ok z
     |false=>.lack (bm (aN .lss (τ.less.sub z.n0 z.es) (.int 0)))
    |false=>.lack (aN .lss (τ.less.sub z.n0 z.es) m)
  |.lack e=>jH fs n0 b0 tmps st bound τs (match why with | some e=>some e | none=>some e)
  |.bad _=>jH fs n0 b0 tmps st bound τs why
def ol(_:Tm)(_:St)(f:Fit)(r:aT):aT:=
 match f with
 |.ok _=>r
 |_=>none
def Tmpl.scp(τ:Tmpl):Bool:=τ.st.scp&&jT τ.st.nv τ.st.nb τ.tmps&&τ.less.scp τ.st.nv
def tf(n0 b0:Nat):List Tmpl->Bool
 |[]=>true
 |τ::τs=>match Nat.ble n0 τ.st.nv&&Nat.ble b0 τ.st.nb&&τ.scp with
  |true=>tf n0 b0 τs
  |false=>false
def L7(tb:Tab)(rec:cq)(g:FuncId)(b:Code)(n0 b0:Nat)(ts:List Tmpl)(k:Out->aT):List Tmpl->aT
 |[]=>some []
 | τ::τs=>gY (rec (.code g b) τ.tmps τ.st fun o=>match o.ex with
   |.normal=>ol o.tmps o.st (jH tb.facts n0 b0 o.tmps o.st (some τ.less) ts none) (some [])
   |_=>k o) (L7 tb rec g b n0 b0 ts k τs)
def KG(k:Out->aT):List Out->aT
 |[]=>some []
 |o::os=>gY (k o) (KG k os)
def MF:Nat->Nat->T Blk->T Blk
 |0,_,t=>t
 |k+1,n,t=>MF k (Nat.succ n) (T.ins t n ⟨true,.gone⟩)
def St.pad(st:St)(n b:Nat):St:=⟨n,b,MF (Nat.sub b st.nb) st.nb st.heap,st.pc⟩
def F0(tb:Tab)(n b:Nat)(ts:List Tmpl)(xs:List Out)(tmps:Tm)(st:St)(k:Out->aT):aT:=
 match tf n b ts with
 |true=>ol tmps st (jH tb.facts n b tmps st none ts none) (KG k xs)
 |false=>sf "templates"
def F1(tb:Tab)(rec:cq)(g:FuncId)(b:Code)(tmps:Tm)(st:St)(k:Out->aT):aT:=
 match JT tb g b with
 |none=>rec (.rounds g b) tmps st k
 |some x=>match x.known with
  |none=>match tf st.nv st.nb x.ts with
   |true=>ol tmps st (jH tb.facts st.nv st.nb tmps st none x.ts none) (L7 tb rec g b st.nv st.nb x.ts k x.ts)
   |false=>sf "templates"
  |some y=>match Nat.beq st.nv y.n0&&Nat.beq st.nb y.b0 with
   |true=>F0 tb y.n0 y.b0 x.ts y.xs tmps st k
   |false=>match Nat.ble st.nv y.n0&&Nat.ble st.nb y.b0&&st.scp&&jT st.nv st.nb tmps with
    |true=>F0 tb y.n0 y.b0 x.ts y.xs tmps (st.pad y.n0 y.b0) k
    |false=>sf "a loop's variables"
def Nd(rec:cq)(g:FuncId)(tmps:Tm)(st:St)(k:Out->aT)(a b:Code):aT:=
 rec (.code g a) tmps st fun o=>match o.ex with
   |.normal=>rec (.code g b) o.tmps o.st k
   |_=>k o
def Na(rec:cq)(g:FuncId)(tmps:Tm)(st:St)(k:Out->aT)(id:Nat)(b:Code):aT:=
 rec (.code g b) tmps st fun o=>match o.ex with
   |.exit i=>match Nat.beq i id with
    |true=>k ⟨.normal,o.tmps,o.st⟩
    |false=>k o
   |_=>k o
def Nb(tb:Tab)(rec:cq)(g:FuncId)(tmps:Tm)(st:St)(k:Out->aT)(c:Operand)(x y:Code):aT:=
 match bJ tmps c with
  |some (.bool e)=>match fe tb.facts st.pc e with
   |some true=>rec (.code g x) tmps st k
   |some false=>rec (.code g y) tmps st k
   |none=>gY (rec (.code g x) tmps {st with pc:=e::st.pc} k) (rec (.code g y) tmps {st with pc:=bm e::st.pc} k)
  |_=>none
def Nc(P:Program)(tb:Tab)(rec:cq)(tmps:Tm)(st:St)(k:Out->aT)(ops:Array Oper)(d:Bool):aT:=
 match d with
  |false=>ae4 P tb rec ops.toList ops.toList tmps st fun tmps st=>k ⟨.normal,tmps,st⟩
  |true=>rec (.draw ops.toList ops.size) tmps st k
noncomputable def Nv(P:Program)(tb:Tab)(rec:cq)(g:FuncId)(c:Code)(tmps:Tm)(st:St)(k:Out->aT):aT:=
 Code.rec (motive:=fun _=>aT)
  (k ⟨.normal,tmps,st⟩)
  (fun _ ops d=>Nc P tb rec tmps st k ops d)
  (fun a b _ _=>Nd rec g tmps st k a b)
  (fun c x y _ _=>Nb tb rec g tmps st k c x y)
  (fun id b _=>Na rec g tmps st k id b)
  (fun b _=>F1 tb rec g b tmps st k)
  (fun _ _ _ _ _ _=>none)
  (fun id=>k ⟨.exit id,tmps,st⟩)
  (fun b _=>rec (.code g b) tmps st k)
  (fun _=>k ⟨.normal,tmps,st⟩)
  (fun _=>none)
  (k ⟨.ret,tmps,st⟩)
  (fun _=>none)
  c
theorem aH5(P:Program)(tb:Tab)(rec:cq)(g:FuncId)(c:Code)(tmps:Tm)(st:St)(k:Out->aT):Nv P tb rec g c tmps st k=(match c with
 |.skip=>k ⟨.normal,tmps,st⟩
 |.label _=>k ⟨.normal,tmps,st⟩
 |.ret=>k ⟨.ret,tmps,st⟩
 |.exit id=>k ⟨.exit id,tmps,st⟩
 |.seq a b=>Nd rec g tmps st k a b
 |.block id b=>Na rec g tmps st k id b
 |.loop b=>F1 tb rec g b tmps st k
 |.cond c x y=>Nb tb rec g tmps st k c x y
 |.region _ ops d=>Nc P tb rec tmps st k ops d
 |.scope b=>rec (.code g b) tmps st k
 |_=>none):=by cases c<;>rfl
def yI(fs:List E)(g:FuncId)(args:List SV)(st:St):List Nat1->NatR
 |[]=>.no
 |x::xs=>match Nat.beq x.fn g with
  |true=>match x.eff fs args st with
   |.outs l=>.outs l
   |_=>yI fs g args st xs
  |false=>yI fs g args st xs
def abZ(k:Out->aT):List (SV×St)->aT
 |[]=>some []
 |(v,st)::l=>gY (k ⟨.ret,.node v .nil .nil,st⟩) (abZ k l)
def Nu(tb:Tab)(rec:cq)(g:FuncId)(args:List SV)(st:St)(k:Out->aT):aT:=
 match yI tb.facts g args st tb.nats with
 |.outs l=>abZ k l
 |_=>match tb.fn.get g with
 |some fn=>match fn.body with
  |some c=>match Nat.ble args.length fn.ntmps&&Nat.ble fn.ntmps 1048575 with
   | true=>T.putsK args 0 (T.fill SV.undef 20 fn.ntmps) fun tmps=>rec (.code g c) tmps st fun o=>match o.ex with
     |.exit _=>none
     |_=>match kW tb o.st o.tmps fn.results.toList with
      |some vs=>k ⟨.ret,.node (tg vs) .nil .nil,o.st⟩
      |none=>none
   |false=>none
  |none=>none
 |none=>none
def yr(P:Program)(tb:Tab)(rec:cq)(all:List Oper)(infos:List Info)(x:Node)(left:Nat):List (Nat×Oper×Info)->List Node->Option (List Node)
 |[],acc=>some acc
 |(i,o,_)::rs,acc=>match qx P tb rec all o x.tmps x.st rZ with
  |some os=>gf (Nat.lor (Nat.pow 2 i) x.listed) fun listed=>yr P tb rec all infos x left rs (o5 P tb all infos listed left os acc)
  |none=>none
def Ac(P:Program)(tb:Tab)(rec:cq)(all:List Oper)(infos:List Info)(k:fG):List Node->List Node->Option (List Node×List Out)
 |[],acc=>some (acc,[])
 |x::xs,acc=>match gu x.listed all infos 0 with
  |[]=>match k x.tmps x.st with
   |some os=>match Ac P tb rec all infos k xs acc with
    |some (acc,more)=>some (acc,os++more)
    |none=>none
   |none=>none
  |rs=>match x.left with
   |0=>none
   |left+1=>match yr P tb rec all infos x left rs acc with
    |some acc=>Ac P tb rec all infos k xs acc
    |none=>none
def NB(P:Program)(tb:Tab)(rec:cq)(all:List Oper)(infos:List Info)(l:List Node)(tmps:Tm)(st:St)(k:Out->aT):aT:=
 match Ac P tb rec all infos (fun tmps st=>k ⟨.normal,tmps,st⟩) l [] with
 |some (next,os)=>match next with
  |[]=>some os
  |_=>match rec (.layer all infos next) tmps st k with
   |some more=>some (os++more)
   |none=>none
 |none=>none
def ae6(rec:cq)(g:FuncId)(b:Code)(tmps:Tm)(st:St)(k:Out->aT):aT:=
 rec (.code g b) tmps st fun o=>match o.ex with
  |.normal=>rec (.rounds g b) o.tmps o.st k
  |_=>k o
def aH2(P:Program)(tb:Tab)(rec:cq)(task:Task)(tmps:Tm)(st:St)(k:Out->aT):aT:=
 match task with
 |.code g c=>Nv P tb rec g c tmps st k
 |.rounds g c=>ae6 rec g c tmps st k
 |.call g args=>Nu tb rec g args st k
 |.draw all n=>Nw P tb rec all n tmps st k
 |.layer all infos l=>NB P tb rec all infos l tmps st k
def run(P:Program)(tb:Tab)(n:Nat):cq:=
 Nat.rec (motive:=fun _=>cq) (fun _ _ _ _=>none) (fun _ ih=>aH2 P tb ih) n
def gq(key:Nat):Code->List Code
 |.seq a b=>gq key a++gq key b
 |.cond _ a b=>gq key a++gq key b
 |.block _ b=>gq key b
 |.scope b=>gq key b
 |.loop b=>match jJ b with
  |some n=>match Nat.beq n key with
   |true=>b::gq key b
   |false=>gq key b
  |none=>gq key b
 |_=>[]
def KF:Ex->Ex->Bool
 |.normal,.normal=>true
 |.ret,.ret=>true
 |.exit a,.exit b=>Nat.beq a b
 |_,_=>false
def uD(e:Ex):List Out->List Tmpl
 |[]=>[]
 |x::xs=>match KF e x.ex with
  |true=>⟨x.tmps,x.st,.int 0⟩::uD e xs
  |false=>uD e xs
def Dl:List Out->List Tmpl
 |[]=>[]
 |x::xs=>⟨x.tmps,x.st,.int 0⟩::Dl xs
def YP(tb:Tab)(n0 b0:Nat)(ts:List Tmpl)(xs:List Out)(less:E)(o:Out):aT:=
 match o.ex with
 |.normal=>ol o.tmps o.st (jH tb.facts n0 b0 o.tmps o.st (some less) ts none) (some [])
 |_=>ol o.tmps o.st (jH tb.facts n0 b0 o.tmps o.st none (uD o.ex xs) none) (some [])
def abj:aT->Bool
 |some _=>true
 |none=>false
def YO(P:Program)(tb:Tab)(n:Nat)(g key n0 b0:Nat)(ts:List Tmpl)(xs:List Out)(less:E)(tmps:Tm)(st:St):Bool:=
 match tb.fn.get g with
 |some fn=>match fn.body with
  |some c=>match gq key c with
   |[b]=>match tf n0 b0 ts&&tf n0 b0 (Dl xs)with
    |true=>abj (run P tb n (.code g b) tmps st (YP tb n0 b0 ts xs less))
    |false=>false
   |_=>false
  |none=>false
 |none=>false
def nr{Z:Type}(P:Program)(k:Tab->Z):Z:=
 T.addsK P.types.toList 0 T.nil fun ty=>T.addsK P.funcs.toList 0 T.nil fun fn=>k ⟨ty,fn,[],[],[]⟩
end
end Go.SX

namespace Go.SX
noncomputable section
def vV(st:St)(cs:List SV)(n:Nat)(el:TypeId):SV×St:=
 (.nslice st.nb (.int (.ofNat n)) (.var st.nv),⟨Nat.succ st.nv,Nat.succ st.nb,st.heap.ins st.nb ⟨true,.cells cs (.var st.nv) el⟩,bm (aN .lss (.var st.nv) (.int (.ofNat n)))::st.pc⟩)
def oB(x:Int):List Int->List Int
 |[]=>[x]
 |y::l=>match leI x y with
  |true=>x::y::l
  |false=>y::oB x l
def gP:List Int->List Int
 |[]=>[]
 |x::l=>oB x (gP l)
def lQ:List Int->List SV
 |[]=>[]
 |n::l=>.int .i64 (.int n)::lQ l
def oY(st:St)(el:TypeId)(l:List Int):Option (List (SV×St)):=
 match l with
 |[]=>some [(.nils,st)]
 |_=>match st.scp with
  |true=>some [vV st (lQ l) (aR l) el]
  |false=>none
def oJ:Option (List (SV×St))->NatR
 |some l=>.outs l
 |none=>.no
def mJ(st:St)(e:E)(el:TypeId):SV×St:=
 (.nslice st.nb (.fn 0 e) (.var st.nv),⟨Nat.succ st.nv,Nat.succ st.nb,st.heap.ins st.nb ⟨true,.flat [.int .i64] e (.fn 0 e) (.var st.nv) el⟩,bm (aN .lss (.var st.nv) (.fn 0 e))::st.pc⟩)
def qF:List SV->Option (List Int)
 |[]=>some []
 |v::l=>match v with
  |.int .i64 (.int n)=>match qF l with
   |some r=>some (n::r)
   |none=>none
  |_=>none
def FW(st:St)(b:Nat)(cs:List SV)(af:E)(el:TypeId)(n:Nat):NatR:=
 match kZ cs n with
 |some hd=>match qF hd with
  |some l=>match Nat.ble n 1000000 with
   |true=>match oQ cs 0 (lQ (gP l))with
    |some cs'=>.outs [(.tup [],{st with heap:=st.heap.set b ⟨true,.cells cs' af el⟩})]
    |none=>.no
   |false=>.no
  |none=>.no
 |none=>.no
def Nm(st:St)(b:Nat)(l n af:E)(el:TypeId)(ok:Bool):NatR:=
 match ok with
 |true=>.outs [(.tup [],{st with heap:=st.heap.set b ⟨true,.flat [.int .i64] (.fn 40 l) n af el⟩})]
 |false=>.lack (bm (aN .lss jD n))
def yZ:List CK->Bool
 |[c]=>match c with
  |.int .i64=>true
  |_=>false
 |_=>false
def Nk(fs:List E)(args:List SV)(st:St):NatR:=
 match args with
 |[v]=>match v with
  |.nils=>.outs [(.tup [],st)]
  |.nslice b len _=>match st.heap.get b with
   |some ⟨own,o⟩=>match own with
    |true=>match o with
     |.cells cs af el=>match fK len with
      |some n=>FW st b cs af el n
      |none=>.no
     |.flat ks l n af el=>match len.beq n&&yZ ks with
      |true=>Nm st b l n af el (dD fs st.pc n jD)
      |false=>.no
     |_=>.no
    |false=>.no
   |none=>.no
  |.slice b off len _=>match st.heap.get b with
   |some ⟨own,o⟩=>match own with
    |true=>match o with
     |.cells cs af el=>match fK len,gL off with
      |some n,some 0=>FW st b cs af el n
      |_,_=>.no
     |_=>.no
    |false=>.no
   |none=>.no
  |_=>.no
 |_=>.no
def aeP(f:FuncId):Nat1:=⟨f,Nk⟩
def GF(g1:FuncId)(args:List SV)(st:St):Option SV:=
 match args with
 |[.nils,.func (.func g) [] [.ptr b o]]=>match Nat.beq g g1,gL o with
  |true,some 0=>match st.heap.get b with
   |some ⟨_,.cells (v::_) _ _⟩=>some v
   |_=>none
  |_,_=>none
 |_=>none
def GD(el:TypeId)(st:St)(e:E)(ok:Bool):NatR:=
 match ok with
 |true=>.outs [mJ st e el]
 |false=>.lack (bm (aN .lss jD (.fn 0 e)))
def JV(g1:FuncId)(el:TypeId)(fs:List E)(args:List SV)(st:St):NatR:=
 match GF g1 args st with
 |some v=>match v with
  |.nils=>.outs [(.nils,st)]
  |.nslice b len _=>match st.heap.get b with
   |some ⟨_,o⟩=>match o with
    |.cells cs _ _=>match fK len with
     |some n=>match kZ cs n with
      |some hd=>match qF hd with
       |some l=>match Nat.ble n 1000000 with
        |true=>oJ (oY st el l)
        |false=>.no
       |none=>.no
      |none=>.no
     |none=>.no
    |.flat ks l n _ _=>match len.beq n&&yZ ks&&st.scp with
     |true=>GD el st l (dD fs st.pc len jD)
     |false=>.no
    |_=>.no
   |none=>.no
  |.slice b off len _=>match st.heap.get b with
   |some ⟨_,o⟩=>match o with
    |.cells cs _ _=>match fK len,gL off with
     |some n,some m=>match kZ (sa cs m) n with
      |some hd=>match qF hd with
       |some l=>match Nat.ble n 1000000 with
        |true=>oJ (oY st el l)
        |false=>.no
       |none=>.no
      |none=>.no
     |_,_=>.no
    |_=>.no
   |none=>.no
  |.bsl ks e=>match yZ ks&&st.scp&&e.scp st.nv with
   |true=>GD el st e (dD fs st.pc (.fn 0 e) jD)
   |false=>.no
  |_=>.no
 |none=>.no
def Yy(f g1:FuncId)(el:TypeId):Nat1:=⟨f,JV g1 el⟩
def Ki(args:List SV)(st:St):Option (List (SV×St)):=
 match args with
 |[]=>some [(.bool (.bool true),st)]
 |_=>none
def Kj(g:FuncId):Nat1:=⟨g,fun _ args st=>oJ (Ki args st)⟩
structure Pact where
 fn:FuncId
 args:List SV
 st:St
 posts:List (SV×St)
 deriving Inhabited
def Pact.tmpl(s:Pact):Tmpl:=⟨jP (.tup s.args),s.st,.int 0⟩
def qH(n0:Nat):Nat->List E
 |0=>[]
 |n+1=>.var n0::qH (Nat.succ n0) n
def oK(n0:Nat):Nat->List Nat
 |0=>[]
 |n+1=>n0::oK (Nat.succ n0) n
def MS(z:Sub)(st pre post:St):Sub:=⟨0,z.es++qH st.nv (Nat.sub post.nv pre.nv),0,z.bs++oK st.nb (Nat.sub post.nb pre.nb)⟩
def ng(z:Sub)(pre post:T Blk):Nat->Nat->T Blk->T Blk
 |0,_,heap=>heap
 |n+1,i,heap=>match pre.get i with
  |none=>ng z pre post n (Nat.succ i) heap
  |some p=>match p.obj with
   |.gone=>ng z pre post n (Nat.succ i) heap
   |_=>match post.get i with
    |none=>T.setK heap (cw 0 z.bs i) ⟨true,.gone⟩ fun heap=>ng z pre post n (Nat.succ i) heap
    |some q=>T.setK heap (cw 0 z.bs i) ⟨true,q.obj.sub z⟩ fun heap=>ng z pre post n (Nat.succ i) heap
def sB(z:Sub)(post:T Blk):Nat->Nat->Nat->T Blk->T Blk
 |0,_,_,heap=>heap
 |n+1,i,b,heap=>match post.get i with
  |none=>T.insK heap b ⟨true,.gone⟩ fun heap=>sB z post n (Nat.succ i) (Nat.succ b) heap
  |some q=>T.insK heap b ⟨true,q.obj.sub z⟩ fun heap=>sB z post n (Nat.succ i) (Nat.succ b) heap
def zM(z:Sub)(pc:List E):List E->List E
 |[]=>pc
 |e::es=>e.sub z.n0 z.es::zM z pc es
def v8(z:Sub)(st pre:St)(p:SV×St):SV×St:=
 let z':=MS z st pre p.2
 (p.1.sub z',⟨Nat.add st.nv (Nat.sub p.2.nv pre.nv),Nat.add st.nb (Nat.sub p.2.nb pre.nb),
  sB z' p.2.heap (Nat.sub p.2.nb pre.nb) pre.nb st.nb (ng z' pre.heap p.2.heap pre.nb 0 st.heap),zM z' st.pc p.2.pc⟩)
def FX(z:Sub)(st pre:St):List (SV×St)->List (SV×St)
 |[]=>[]
 |p::ps=>v8 z st pre p::FX z st pre ps
def Ns(s:Pact)(fs:List E)(args:List SV)(st:St):NatR:=
 match st.scp with
 |true=>match si fs 0 0 (jP (.tup args)) st s.tmpl with
  |.ok z=>.outs (FX z st s.st s.posts)
  |.lack e=>.lack e
  |.bad _=>.no
 |false=>.no
def LZ(fs:List E)(p:SV×St):Bool:=
 match p.2.pc with
 |[]=>true
 |c::bU=>match fe fs bU (bm c)with
  |some b=>!b
  |none=>true
def zk(fs:List E):List (SV×St)->List (SV×St)
 |[]=>[]
 |p::ps=>match LZ fs p with
  |true=>p::zk fs ps
  |false=>zk fs ps
def Nr(s:Pact)(fs:List E)(args:List SV)(st:St):NatR:=
 match Ns s fs (SV.norms st.heap args) st.norm with
 |.outs l=>.outs (zk fs l)
 |.lack e=>.lack e
 |.no=>.no
def bz(s:Pact):Nat1:=⟨s.fn,Nr s⟩
def MC(t:T Blk):Bool:=T.all (fun b=>b.own) t
def DD(pre post:T Blk):Nat->Bool
 |0=>true
 |n+1=>match DD pre post n with
  |true=>match post.get n with
   |none=>true
   |some q=>match q.obj with
    |.gone=>true
    |_=>match pre.get n with
     |some p=>match p.obj with
      |.gone=>false
      |_=>true
     |none=>false
  |false=>false
def MR(s:Pact)(p:SV×St):Bool:=
 Nat.ble s.st.nv p.2.nv&&(Nat.ble s.st.nb p.2.nb&&(p.2.scp&&(p.1.scp p.2.nv p.2.nb&&(MC p.2.heap&&DD s.st.heap p.2.heap s.st.nb))))
def Fv(s:Pact):List (SV×St)->Bool
 |[]=>true
 |p::ps=>match MR s p with
  |true=>Fv s ps
  |false=>false
def Pact.good(s:Pact):Bool:=s.st.scp&&(SV.scps s.st.nv s.st.nb s.args&&(MC s.st.heap&&Fv s s.posts))
def MB(fs:List E)(s:Pact)(p:SV×St):Bool:=pY fs s.st.nv s.st.nb (jP p.1) p.2 (ui s.posts)
def E2(tb:Tab)(ms:List FM)(s:Pact):List Out->Bool
 |[]=>true
 |o::os=>match o.tmps with
  |.node v _ _=>match MB tb.facts s (ot ms tb.facts (v,o.st))with
   |true=>E2 tb ms s os
   |false=>false
  |.nil=>false
def Nq(P:Program)(tb:Tab)(n:Nat)(ms:List FM)(s:Pact):Bool:=
 match s.good with
 |true=>match run P tb n (.call s.fn s.args) .nil s.st (fun o=>some [o])with
  |some os=>E2 tb ms s os
  |none=>false
 |false=>false
def bX(n:Nat)(l:List (Nat×SV)):Tm:=l.foldr (fun p t=>t.set p.1 p.2) (T.fill .junk 20 n)
def db(l:List Blk):T Blk:=(l.foldl (fun(p:T Blk×Nat) b=>(p.1.ins p.2 b,p.2+1)) (T.nil,0)).1
def jd(a b:E):E:=.cmp .lss a b
def ah(a b:E):E:=.not (.cmp .lss b a)
def eV(i:Nat):E:=.var i
def afW:List Nat->List E
 |[]=>[]
 |i::l=>.not (.cmp .lss (.var i) (.int 0))::.not (.cmp .lss (.int 18446744073709551615) (.var i))::afW l
def aaS:List Nat->List E
 |[]=>[]
 |i::l=>.not (.cmp .lss (.var i) (.int (-9223372036854775808)))::.not (.cmp .lss (.int 9223372036854775807) (.var i))::aaS l
end
end Go.SX

namespace Go.SX
noncomputable section
def En(ks:List CK)(l n len:E)(cap af:E)(v:SV)(nv:Nat):SV×Nat:=
 match n.beq len&&cap.beq af with
 |true=>(.bsl ks (.fn 28 (.pr (.pr (.var nv) len) l)),Nat.succ nv)
 |false=>(v,nv)
def LV(h:T Blk)(ks0:List CK)(v:SV)(nv:Nat):SV×Nat:=
 match v with
 |.nils=>(.bsl ks0 (.fn 30 (.int 0)),nv)
 |.nslice b len cap=>match h.get b with
  |some ⟨true,.flat ks l n af _⟩=>En ks l n len cap af v nv
  |some ⟨true,.nest ks l n af _ _⟩=>En ks l n len cap af v nv
  |_=>(v,nv)
 |_=>(v,nv)
def Eo(h:T Blk)(m:FM)(v:SV)(nv:Nat):SV×Nat:=
 match m with
 |.down ks=>LV h ks v nv
 |_=>(v,nv)
def u9(h:T Blk)(nb:Nat):List FM->List SV->Nat->List SV×Nat
 |m::ms,v::vs,nv=>match Eo h m v nv with
  |(v',nv1)=>match v'.scp nv1 nb with
   |true=>match u9 h nb ms vs nv1 with
    |(vs',nv')=>(v'::vs',nv')
   |false=>(v::vs,nv)
 |_,vs,nv=>(vs,nv)
def LW(h:T Blk)(nb:Nat)(ms:List FM)(v:SV)(nv:Nat):SV×Nat:=
 match v with
 |.agg cs=>match u9 h nb ms cs nv with
  |(cs',nv')=>(.agg cs',nv')
 |v=>match ms with
  |m::_=>Eo h m v nv
  |[]=>(v,nv)
def sG(h:T Blk)(nb:Nat):List (List FM)->List SV->Nat->List SV×Nat
 |ms::mss,v::vs,nv=>match LW h nb ms v nv with
  |(v',nv1)=>match v'.scp nv1 nb with
   |true=>match sG h nb mss vs nv1 with
    |(vs',nv')=>(v'::vs',nv')
   |false=>(v::vs,nv)
 |_,vs,nv=>(vs,nv)
def Fr:SV->Bool
 |.int _ _=>true
 |.bool _=>true
 |.str _=>true
 |_=>false
def plains:List SV->Bool
 |[]=>true
 |v::vs=>match Fr v with
  |true=>plains vs
  |false=>false
def Fu(v:SV):Bool:=
 match v with
 |.agg l=>plains l
 |v=>Fr v
def Em(h:T Blk):List (SV×St)->Option (List (SV×St))
 |[]=>some []
 |y::l=>match Fu y.1 with
  |true=>match Em h l with
   |some l'=>some ((y.1,⟨y.2.nv,y.2.nb,h,y.2.pc⟩)::l')
   |none=>none
  |false=>none
def LU(mss:List (List FM))(x:Nat1)(fs:List E)(args:List SV)(st:St):NatR:=
 match st.scp&&SV.scps st.nv st.nb args with
 |true=>match sG st.heap st.nb mss args st.nv with
  |(args',nv')=>match x.eff fs args' ⟨nv',st.nb,.nil,st.pc⟩ with
   |.outs l=>match Em st.heap l with
    |some l'=>.outs l'
    |none=>.no
   |.lack e=>match e.scp st.nv with
    |true=>.lack e
    |false=>.no
   |.no=>.no
 |false=>.no
def aEi(mss:List (List FM))(x:Nat1):Nat1:=⟨x.fn,LU mss x⟩
def ym(n:Nat):List E->Option E
 |[]=>none
 |e::l=>match e with
  |.cmp .eql (.var m) x=>match Nat.beq m n with
   |true=>some x
   |false=>ym n l
  |_=>ym n l
def yl(n:Nat):List E->Option E
 |[]=>none
 |e::l=>match e with
  |.iff (.var m) x=>match Nat.beq m n with
   |true=>some x
   |false=>yl n l
  |_=>yl n l
def yk(pc:List E)(v:SV):SV:=
 match v with
 |.int k (.var n)=>match ym n pc with
  |some x=>.int k x
  |none=>v
 |.bool (.var n)=>match yl n pc with
  |some x=>.bool x
  |none=>v
 |_=>v
def yp(pc:List E):List SV->List SV
 |[]=>[]
 |v::vs=>yk pc v::yp pc vs
def yn(pc:List E)(v:SV):SV:=
 match v with
 |.agg l=>.agg (yp pc l)
 |v=>yk pc v
def Kv:List (SV×St)->List (SV×St)
 |[]=>[]
 |y::l=>(yn y.2.pc y.1,y.2)::Kv l
def Kw(x:Nat1)(fs:List E)(args:List SV)(st:St):NatR:=
 match x.eff fs args st with
 |.outs l=>.outs (Kv l)
 |r=>r
def aCU(x:Nat1):Nat1:=⟨x.fn,Kw x⟩
end
end Go.SX
