/-
  A symbolic executor of the model's code: it reckons all outcomes of a call If values and memory that are known in part.
-/
import GoSem.Step
set_option linter.unusedVariables false
set_option linter.unusedSimpArgs false
set_option linter.unusedSectionVars false

namespace Go.SX
inductive U where
 |int (n:Int) | bool (b:Bool) | str (s:ByteArray) | lst (l:List U) | bx (a:Option Addr) (n c:Nat) (l:List U)
def U.toI:U->Int | .int n=>n | _=>0
def U.toB:U->Bool | .bool b=>b | _=>false
def U.toS:U->ByteArray | .str s=>s | _=>ByteArray.empty
def U.toL:U->List U | .lst l=>l | .bx _ _ _ l=>l | _=>[]
def U.raw:U->Value | .bx a n c _=>.slice a n c | _=>.slice none 0 0
def U.adr:U->Option Addr | .bx a _ _ _=>a | _=>none
def U.rlen:U->Nat | .bx _ n _ _=>n | _=>0
def U.rcap:U->Nat | .bx _ _ c _=>c | _=>0
def U.cut(w:Nat)(u:U)(l h m:Nat):U:=
 .bx (if m=l then u.adr else u.adr.map (·.add (l*w))) (h-l) (m-l) ((u.toL.take (h*w)).drop (l*w))
def U.fst:U->U | .lst (a::_)=>a | _=>.int 0
def U.snd:U->U | .lst (_::b::_)=>b | _=>.int 0
mutual
def U.eq:U->U->Bool
 |.int a,.int b=>a==b
 |.bool a,.bool b=>a==b
 |.str a,.str b=>a.data==b.data
 |.lst a,.lst b=>U.eqs a b
 |.bx _ _ _ a,.lst b=>U.eqs a b
 |.lst a,.bx _ _ _ b=>U.eqs a b
 |.bx _ _ _ a,.bx _ _ _ b=>U.eqs a b
 |_,_=>false
def U.eqs:List U->List U->Bool
 |[],[]=>true
 |x::xs,y::ys=>U.eq x y&&U.eqs xs ys
 |_,_=>false
end
def vQ(n:Nat):Int:=match n with | 0=>-128 | 1=>-32768 | 2=>-2147483648 | 3=>-9223372036854775808 | _=>0
def wt(n:Nat):Int:=match n with | 0=>127 | 1=>32767 | 2=>2147483647 | 3=>9223372036854775807 | 4=>255 | 5=>65535 | 6=>4294967295 | _=>18446744073709551615
mutual
def U.typ:U->U->Bool
 |.int x,.int k=>decide (k<8/\vQ k.toNat<=x/\x<=wt k.toNat)
 |.bool _,.int k=>k==8
 |.str _,.int k=>k==9
 |.bx _ _ _ l,.lst ks=>U.typs l ks []
 |_,_=>false
def U.typs:List U->List U->List U->Bool
 |[],_,_=>true
 |x::xs,ks,k::r=>U.typ x k&&U.typs xs ks r
 |x::xs,ks,[]=>match ks with
  |k::r=>U.typ x k&&U.typs xs ks r
  |[]=>false
end
def cz(k:Int):List U->Option U
 |[]=>none
 |u::l=>if u.fst.toI=k then some u.snd else cz k l
def cC(k:Int)(v:U):List U->List U
 |[]=>[.lst [.int k,v]]
 |u::l=>if u.fst.toI=k then .lst [.int k,v]::l else u::cC k v l
def oL(k:Int):List U->List U
 |[]=>[]
 |u::l=>if u.fst.toI=k then l else u::oL k l
def sH(x:Int):List Int->List Int
 |[]=>[x]
 |y::l=>if x<=y then x::y::l else y::sH x l
def gJ:List Int->List Int
 |[]=>[]
 |x::l=>sH x (gJ l)
def GS(l:List U):Bool:=
 decide ((l.map fun u=>u.fst.toI).Nodup)&&(l.all fun u=>decide (-9223372036854775808<=u.fst.toI/\u.fst.toI<=9223372036854775807))&&decide (l.length<=1000000)
def aaV(x:U):List U->Nat->Int
 |[],_=>-1
 |y::l,n=>if U.eq x y then n else aaV x l (n+1)
mutual
def U.size:U->Nat
 |.int _=>1
 |.bool _=>1
 |.str _=>1
 |.lst l=>U.sizes l+1
 |.bx _ _ _ l=>U.sizes l+1
def U.sizes:List U->Nat
 |[]=>0
 |u::l=>U.size u+U.sizes l
end
def pF(f:Nat)(a:U):U:=
 match f with
 |0=>.int a.toL.length
 |1=>a.fst.toL.getD a.snd.toI.toNat (.int 0)
 |2=>.lst (a.fst.toL.set a.snd.fst.toI.toNat a.snd.snd)
 |3=>.lst (a.fst.toL++a.snd.toL)
 |4=>.lst ((a.fst.toL.take a.snd.snd.toI.toNat).drop a.snd.fst.toI.toNat)
 |5=>.lst (List.replicate a.fst.toI.toNat a.snd)
 |6=>.int (a.fst.toI+a.snd.toI)
 |7=>.int (a.fst.toI-a.snd.toI)
 |8=>.int (a.fst.toI*a.snd.toI)
 |9=>.int (a.fst.toL.length/a.snd.toI.toNat)
 |10=>.lst []
 |11=>.lst [a]
 |12=>.bool (U.eq a.fst a.snd)
 |13=>.int a.toS.size
 |14=>.str (a.fst.toS++a.snd.toS)
 |15=>.int ((a.fst.toS.data.getD a.snd.toI.toNat 0).toNat)
 |16=>.str (a.fst.toS.extract a.snd.fst.toI.toNat a.snd.snd.toI.toNat)
 |17=>.lst (List.replicate a.fst.toI.toNat a.snd.toL).flatten
 |18=>.lst (a.fst.toL.take a.snd.toI.toNat)
 |19=>.lst (a.fst.toL.drop a.snd.toI.toNat)
 |20=>.int (if a.fst.toB then a.snd.fst.toI else a.snd.snd.toI)
 |21=>.bx a.fst.adr a.fst.rlen a.fst.rcap a.snd.toL
 |22=>.int a.rcap
 |23=>.lst (a.fst::a.snd.toL)
 |24=>U.cut a.fst.fst.toI.toNat a.fst.snd a.snd.fst.toI.toNat a.snd.snd.fst.toI.toNat a.snd.snd.snd.toI.toNat
 |25=>.bool (a.snd.toL.any fun x=>U.eq a.fst x)
 |26=>.int a.rlen
 |27=>.bool (U.typs a.snd.toL a.fst.toL [])
 |28=>.bx a.fst.fst.adr a.fst.snd.toI.toNat a.fst.fst.rcap a.snd.toL
 |29=>.int ((a.fst.toI.toNat-a.snd.toI.toNat:Nat):Int)
 |30=>.bx none 0 0 []
 |31=>.bool a.adr.isNone
 |32=>(cz a.snd.fst.toI a.fst.toL).getD a.snd.snd
 |33=>.bool (cz a.snd.toI a.fst.toL).isSome
 |34=>.lst (cC a.snd.fst.toI a.snd.snd a.fst.toL)
 |35=>.lst (oL a.snd.toI a.fst.toL)
 |36=>.lst ((gJ (a.toL.map fun u=>u.fst.toI)).map U.int)
 |37=>.lst (a.toL.map U.fst)
 |38=>.int (aaV a.snd a.fst.toL 0)
 |39=>.bool (GS a.toL)
 |40=>.lst ((gJ (a.toL.map U.toI)).map U.int)
 |42=>.int ((U.size a:Nat):Int)
 |41=>.str ⟨(a.toL.map fun u=>UInt8.ofNat u.toI.toNat).toArray⟩
 |_=>.int 0
end Go.SX

namespace Go.SX
def bi(u:U):List Int:=u.toL.map U.toI
def bh(n:Nat):Nat:=n
def cX(X:U)(j:Nat):U:=X.toL.getD j (.int 0)
def iX(X:U)(j:Nat):Int:=(cX X j).toI
def nI(l:List U)(j:Nat):Int:=(l.getD j (.int 0)).toI
def cp(a x b:Int):Bool:=decide (a<=x/\x<=b)
def Dy(a b:Int):Bool:=cp 0 a 500&&cp 0 b 1&&(a==0||b==0)
def yx(l:List U)(n:Nat):Bool:=(List.range n).all fun i=>Dy (nI l (i*2)) (nI l (i*2+1))
def mg(p i c t:Int)(l:List U)(q:Bool):Bool:=
 cp 0 p 1&&cp 1 i 500&&cp 0 c 399&&cp (-1) t 1&&decide (l.length/2<=4)&&(decide (t<0)||l.length/2==0)&&(!q||decide (0<=t))&&yx l (l.length/2)
def tC(l:List U)(q:Bool)(n:Nat):Bool:=(List.range n).all fun i=>mg (nI l (i*5)) (nI l (i*5+1)) (nI l (i*5+2)) (nI l (i*5+3)) (l.getD (i*5+4) (.int 0)).toL q
def ba(X:U)(k:Nat):List Int:=bi (cX X (6+14*(k/4)+k%4))
def kx(X:U)(k:Nat):List (Int×Int):=(List.range k).flatMap fun z=>(ba X z).map fun i=>(i,((z/4:Nat):Int))
def fh(X:U)(k i:Nat):List (Int×Int):=kx X k++((ba X k).take i).map fun x=>(x,((k/4:Nat):Int))
def gS(X:U)(s:Nat):List Nat:=(List.range s).filter fun i=>decide (nI (cX X 29).toL (i*5+3)<0)
def iu(X:U)(s:Nat):List (Int×Int):=(gS X s).map fun i=>(nI (cX X 29).toL (i*5+1),nI (cX X 29).toL (i*5))
def gF(X:U)(s:Nat):List (Int×Int):=(gS X s).map fun i=>(nI (cX X 29).toL (i*5+1),nI (cX X 29).toL (i*5+2))
def iN(m:List U):List (Int×Int):=m.map fun u=>(u.fst.toI,u.snd.toI)
def nu(l:List Int):Bool:=match l with | []=>true | x::l=>!l.contains x&&nu l
def gC(m:List U)(l:List (Int×Int)):Bool:=iN m==l&&nu (l.map Prod.fst)
def bQ(X:U):Nat:=(cX X 0).toL.length/12
def cN(X:U):Nat:=(cX X 29).toL.length/5
def oI(X:U)(i j:Nat):Int:=nI (cX X 0).toL (i*12+j)
def HE(a0 a1 a2 a3 a4 a5 a6 a7 a8:Int):Bool:=
 cp 1 a0 500&&cp (-1) a1 399&&cp 0 a2 1&&(a1 == -1||(a3==0&&a4==0))&&[a3,a4,a5,a6,a7,a8].all fun j=>cp 0 j 99
def mu(X:U)(i:Nat):Bool:=
 cp 1 (oI X i 0) 500&&cp (-1) (oI X i 1) 399&&cp 0 (oI X i 2) 1&&(oI X i 1 == -1||(oI X i 3==0&&oI X i 4==0))&&[3,4,5,6,7,8].all fun j=>cp 0 (oI X i j) 99
def di(X:U):List (Int×Int):=fh X 8 0++iu X (cN X)
def fw(l:List (Int×Int))(k:Int):Option Int:=(l.find? fun p=>p.1==k).map Prod.snd
def uQ(X:U)(n:Nat):Bool:=(List.range n).all fun i=>mu X i&&(i==0||decide (oI X (i-1) 0<oI X i 0))&&fw (di X) (oI X i 0)==some (oI X i 2)&&(match fw (gF X (cN X)) (oI X i 0)with | none=>true | some c=>c==oI X i 1)
def eh(X:U):Bool:=nu ((di X).map Prod.fst)&&uQ X (bQ X)&&(di X).length==bQ X
def ep(X:U)(k:Int)(n:Nat):Int:=match (List.range n).find? fun i=>oI X i 0==k with | some i=>((i:Nat):Int) | none=>-1
def mY(X:U)(p:Nat)(q:Nat)(k:Int):Nat:=((List.range q).flatMap fun z=>ba X (4*p+z)).count k
def nz(X:U)(p:Int)(k:Int)(s:Nat):Nat:=((List.range s).filter fun i=>nI (cX X 29).toL (i*5+3) == -1&&nI (cX X 29).toL (i*5+1)==k&&nI (cX X 29).toL (i*5)==p).length
def mj(X:U)(p:Nat)(k:Int):Nat:=mY X p 4 k+nz X p k (cN X)
def tW(X:U)(s:Nat):Bool:=(gS X s).all fun i=>decide (0<=ep X (nI (cX X 29).toL (i*5+1)) (bQ X))&&oI X (ep X (nI (cX X 29).toL (i*5+1)) (bQ X)).toNat 1==nI (cX X 29).toL (i*5+2)
def ry(X:U)(n:Nat):Bool:=(List.range n).all fun i=>mu X i&&(i==0||decide (oI X (i-1) 0<oI X i 0))&&mj X (oI X i 2).toNat (oI X i 0)==1
def sd(X:U):Nat:=((List.range 8).map fun z=>(ba X z).length).sum+(gS X (cN X)).length
def nW(X:U):Bool:=tW X (cN X)&&ry X (bQ X)&&sd X==bQ X
def d4(X:U):Nat:=(iX X 34).toNat
def fX(X:U):List Int:=ba X (4*d4 X+2)
def fy(X:U):List Int:=ba X (4*(1-d4 X)+2)
def bj(X:U):List Int:=bi (cX X 31)
def blk(X:U)(i j:Nat):Int:=nI (cX X 32).toL (i*2+j)
def fD(X:U):Nat:=(cX X 32).toL.length/2
def jT(X:U)(n:Nat):Bool:=nu ((bj X).take n)&&((bj X).take n).all fun a=>(fX X).contains a
def dv(X:U)(n:Nat)(j:Nat):List Int:=(List.range n).map fun i=>blk X i j
def ku(X:U)(n:Nat):Bool:=nu (dv X n 1)&&nu (dv X n 0)&&(List.range n).all fun i=>(bj X).contains (blk X i 1)&&(fy X).contains (blk X i 0)
def iq(X:U):Bool:=jT X (bj X).length&&ku X (fD X)
def gM(m:List U)(k:Int):Bool:=((cz k m).getD (.bool false)).toB
def oo(X:U)(n j:Nat)(k:Int):Bool:=match decide (0<k)with
 |true=>((bj X).take n).contains k && !(dv X j 1).contains k
 |false=>(dv X j 0).contains (-k)
def iK(X:U)(m:List U)(n j:Nat):Bool:=
 ((m.map fun u=>u.fst.toI)++bj X++(dv X (fD X) 0).map (fun k=>-k)).all fun k=>gM m k==oo X n j k
def pR(X:U)(n:Nat):Bool:=(List.range n).all fun i=>(bj X).count (nI (cX X 31).toL i)==1&&(fX X).count (nI (cX X 31).toL i)==1
def ue(X:U)(i k:Nat):Bool:=(List.range k).all fun q=>!(blk X q 1==blk X i 1) && !(blk X q 0==blk X i 0)
def tU(X:U)(n:Nat):Bool:=(List.range n).all fun i=>(bj X).count (blk X i 1)==1&&(fy X).count (blk X i 0)==1&&ue X i i
def nj(X:U):Bool:=pR X (bj X).length&&tU X (fD X)
def gL(X:U)(p:Nat):Bool:=cp 0 (iX X (1+14*p)) 9999&&([2,3,4,5].all fun j=>cp 0 (iX X (j+14*p)) 99)&&cp 0 (iX X (13+14*p)) 7&&cp 0 (iX X (14+14*p)) 255
def oJ(X:U):Bool:=cp 0 (iX X 34) 1&&cp 0 (iX X 33) 1000&&cp 0 (iX X 35) 10&&cp (-1) (iX X 36) 1&&cp 0 (iX X 37) 2&&decide (bQ X<=500)&&decide (cN X<=200)&&decide ((cX X 30).toL.length/5<=200)
def o8(X:U):Bool:=tC (cX X 29).toL false (cN X)&&tC (cX X 30).toL true ((cX X 30).toL.length/5)
def sM(X:U):Bool:=oJ X&&gL X 0&&gL X 1&&o8 X&&eh X&&iq X
def kf(X:U):Bool:=oJ X&&gL X 0&&gL X 1&&o8 X&&nW X&&nj X
def ov(l:List U)(n:Nat):Bool:=(List.range n).all fun i=>decide ((l.getD (i*5+4) (.int 0)).toL.length/2<=6)
def nR(X:U):Bool:=
 ((List.range 8).all fun z=>decide ((ba X z).length<=40))&&decide (cN X<=20)&&decide ((cX X 30).toL.length/5<=20)&&ov (cX X 29).toL (cN X)&&ov (cX X 30).toL ((cX X 30).toL.length/5)&&decide (bQ X<=30)&&decide ((bj X).length<=30)&&decide (fD X<=30)
def dz(l:List U)(c:Int)(j:Nat):Int:=if 0<=c/\c<(l.length/14:Nat)then nI l (c.toNat*14+j)else 0
def iM(l:List U)(X:U)(p:Int)(n:Nat):List Int:=(List.range n).flatMap fun i=>
 let k:=dz l (oI X i 1) 1;let m:=dz l (oI X i 1) 7
 if oI X i 2==p && !((cX X 0).toL.getD (i*12+9) (.bool false)).toB&&k==1&&decide (0<=m)&&decide (m<4)&&(ba X (4*p.toNat+2)).contains (oI X i 0)then [oI X i 0,m] else []
def EB:List Int->List Int
 |a::_::l=>a::EB l
 |_=>[]
def jE(X:U)(p:Int):Bool:=cp 0 p 1&&kf X
def cn:List Int->List Int
 |_::b::l=>b::cn l
 |_=>[]
def ala(m:List Int)(c:Int):List Int:=m.set c.toNat (min 99 (m.getD c.toNat 0+1))
def aqN(l:List U)(X:U)(p:Int)(n:Nat):List Int:=((cn (iM l X p (bQ X))).take n).foldl ala ((List.range 4).map fun k=>iX X (2+14*p.toNat+k))
def MG(l:List U)(X:U)(k:Int):Int:=
 let c:=oI X (ep X k (bQ X)).toNat 1
 if dz l c 1==1&&decide (0<=dz l c 7)&&decide (dz l c 7<4)then dz l c 7 else -1
def axN(l:List U)(X:U)(p:Int)(n:Nat):List Int:=((ba X (4*p.toNat+2)).take n).filter fun k=>decide (0<=MG l X k) && !((cX X 0).toL.getD ((ep X k (bQ X)).toNat*12+9) (.bool false)).toB
def tE(l:List U)(n:Nat):Bool:=(List.range n).all fun i=>decide ((l.getD (i*2+1) (.int 0)).toL.length/5<=5)
def uO(e t:List U):Bool:=decide (e.length/5<=5)&&decide (t.length/2<=3)&&tE t (t.length/2)
def zz(l:List U)(n:Nat):Bool:=(List.range n).all fun i=>uO (l.getD (i*14+11) (.int 0)).toL (l.getD (i*14+12) (.int 0)).toL
def fQ(a:U):Nat->Int | 0=>a.fst.toI | n+1=>fQ a.snd n
def br(a:U)(i:Nat):U:=match i with | 0=>a.fst | n+1=>br a.snd n
abbrev Pu:=List Int×List Int×List Int
def kA(k c:Int):Bool:=decide (k<0)||c==k
def bV(k:Int):List Int->Nat->Int
 |_::c::l,i=>if kA k c then(i:Nat)else bV k l (i+1)
 |_,_=>-1
def j9(i:Nat)(s:Pu):Pu:=(s.1,s.2.1.take (2*i)++s.2.1.drop (2*i+2),s.2.2++[s.2.1.getD (2*i) 0])
def fY(k:Int)(s:Pu):Option Pu:=if 0<=bV k s.2.1 0 then some (j9 (bV k s.2.1 0).toNat s)else none
def iP(b:Nat)(s:Pu):Pu:=(s.1.set b (s.1.getD b 0-1),s.2)
def jb(k:Nat)(s:Pu):Option Pu:=if 0<s.1.getD k 0 then some (iP k s)else fY k s
def gt(m:List Int):Nat:=[1,2,3].foldl (fun b k=>if m.getD b 0<m.getD k 0 then k else b) 0
def fP(s:Pu):Option Pu:=if 0<s.1.getD (gt s.1) 0 then some (iP (gt s.1) s)else fY (-1) s
def dr(f:Pu->Option Pu):Nat->Pu->Option Pu
 |0,s=>some s
 |n+1,s=>(dr f n s).bind f
def mt(c:List Int):Nat->Pu->Option Pu
 |0,s=>some s
 |k+1,s=>(mt c k s).bind (dr (jb k) (bh (c.getD k 0).toNat))
def ju(k:Nat):Pu->Option Pu:=if k<4 then jb k else fP
def co(c:List Int)(k n:Nat)(s:Pu):Option Pu:=(mt c k s).bind (dr (ju k) n)
def tV(l:List U)(X:U)(p:Int):Pu:=((List.range 4).map (fun k=>iX X (2+14*p.toNat+k)),iM l X p (bQ X),[])
def gH(a:U):List Int:=[fQ a 0,fQ a 1,fQ a 2,fQ a 3]
def skip(n:Nat)(a:U):U:=match n with | 0=>a | n+1=>(skip n a).snd
def wd(a:U):Pu:=(gH a,bi (br a 4),bi (br a 5))
def rP(a:U):Pu:=tV (br a 0).toL (br a 1) (br a 2).toI
def KK(c:List Int)(any:Int):Bool:=(c.all fun x=>cp 0 x 20)&&cp 0 any 20
def oD(a b:List U):Bool:=a.length/5==b.length/5&&U.eqs (a.take (a.length/5*5)) (b.take (b.length/5*5))
def aAj(Y X:U):Bool:=(List.range 38).all fun j=>if j==29||j==30 then oD (cX Y j).toL (cX X j).toL else U.eq (cX Y j) (cX X j)
def axo(l:List U)(X:U)(k:Int)(x:List Int):Int:=(x.find? fun id=>MG l X id==k).getD 0
def cM:U->Bool
 |.bx _ _ _ _=>true
 |.lst _=>true
 |_=>false
def jL(l:List U):Bool:=(List.range l.length).all fun i=>!(i%5==4)||cM (l.getD i (.int 0))
def M5(X:U):Bool:=X.toL.length==38&&[0,6,7,8,9,20,21,22,23,29,30,31,32].all (fun j=>cM (cX X j))&&(jL (cX X 29).toL&&jL (cX X 30).toL)
def anO(Y X:U):Bool:=(List.range 38).all fun j=>if j==0 then true else if j==29||j==30 then oD (cX Y j).toL (cX X j).toL&&(cM (cX Y j)&&jL (cX Y j).toL)else U.eq (cX Y j) (cX X j)
def Zo(L:List Int)(n:Nat)(l:List U):List U:=
 (List.range l.length).map fun j=>if j%12==9&&decide (j/12<n)&&L.contains (l.getD (j/12*12) (.int 0)).toI then .bool true else l.getD j (.int 0)
def Tl(Y X:U)(p:Nat)(m:List Int):Bool:=(List.range 38).all fun j=>
 if j==0 then true
 else if j==29||j==30 then oD (cX Y j).toL (cX X j).toL&&(cM (cX Y j)&&jL (cX Y j).toL)
 else if decide (2+14*p<=j)&&decide (j<6+14*p)then iX Y j==m.getD (j-(2+14*p)) 0 else U.eq (cX Y j) (cX X j)
def adt(Y X:U)(p:Nat)(L m:List Int):Bool:=U.eqs (cX Y 0).toL (Zo L (bQ X) (cX X 0).toL)&&Tl Y X p m
def Qp:List Int->Bool
 |a::b::l=>decide (a<=b)&&Qp (b::l)
 |_=>true
def aGE(l:List Int)(x:Int)(i j:Nat):Bool:=((l.take i).all fun y=>decide (y<x))&&((l.drop j).all fun y=>decide (x<=y))
def dV(l:List U)(j:Nat):Bool:=decide (3<nI l j%8)
def gZ(d l:List U)(i t j:Nat):List U:=
 [.int ((j:Nat)+1:Int),d.getD j (.int 0),.int 1,.int 0,.int 0,.int 0,.int 0,.int 0,.int 0,.bool (decide (j<t)&&dV l j),.bool (decide (j<i)),.bool false]
def du(d l:List U)(n i t:Nat):List U:=(List.range n).flatMap (gZ d l i t)
def eg(a k:Nat):List Int:=(List.range k).map fun j=>((a+j:Nat):Int)
def lY(n i j:Nat):List Int:=if j=20 then eg (i+1) (n-i)else if j=22 then eg 1 i else []
def tY(m:List Int)(j:Nat):Int:=if j=1 then 20 else if j=15 then 20 else if j=36 then -1 else if decide (16<=j)&&decide (j<20)then m.getD (j-16) 0 else 0
def dJ(j:Nat):Bool:=[6,7,8,9,20,21,22,23,31].contains j
def dI(j:Nat):Bool:=[29,30,32].contains j
def rB(j:Nat):Bool:=[10,11,12,24,25,26].contains j
def W7(X:U)(n i:Nat)(m:List Int):Bool:=(List.range 38).all fun j=>
 if j==0 then true else if dJ j then bi (cX X j)==lY n i j&&cM (cX X j)else if dI j then(cX X j).toL.length/(if j=32 then 2 else 5)==0&&cM (cX X j)else if rB j then !(cX X j).toB else iX X j==tY m j
def GM(d l:List U)(i:Nat):Bool:=d.length==l.length&&(List.range i).all fun j=>nI d j==nI l j%4
def bp(l:List U)(k:Nat)(h:Int)(j:Nat):Int:=if !(dV l j)&&nI l j%4==(k:Int)&&decide (0<=h)&&decide (h<100)then h+1 else h
def gO(l:List U)(k:Nat)(m:Int)(i:Nat):Int:=(List.range i).foldl (bp l k) m
def adv(Y X:U):Bool:=(List.range 38).all fun j=>if j==0 then true else if dI j then(cX Y j).toL.length/(if j=32 then 2 else 5)==(cX X j).toL.length/(if j=32 then 2 else 5)&&cM (cX Y j)else U.eq (cX Y j) (cX X j)
def km(L:List Int)(id:Int)(j:Nat)(b:Int):List Int:=(L.filter fun x=>!(x==id))++if j=22/\b=1 then [id] else []
def Tp(Y X:U)(id b:Int):Bool:=(List.range 38).all fun j=>
 if j==0 then true else if dJ j then bi (cX Y j)==km (bi (cX X j)) id j b&&cM (cX Y j)else if dI j then(cX Y j).toL.length/(if j=32 then 2 else 5)==0&&cM (cX Y j)else U.eq (cX Y j) (cX X j)
def s8(O:List U)(k:Int)(n:Nat):Int:=match (List.range n).find? fun i=>nI O (i*12)==k with | some i=>((i:Nat):Int) | none=>-1
def setRow(O:List U)(i:Nat)(cs:List U):List U:=O.take (i*12)++cs++O.drop (i*12+12)
def DF(O:List U)(i:Nat):List U:=setRow O i ((List.range 5).map (fun j=>O.getD (i*12+j) (.int 0))++[.int 0,.int 0,.int 0,.int 0,.bool false,.bool true,.bool false])
def awa(f:Nat)(a:U):U:=
 match f with
 |101=>.bool (yx a.fst.toL (bh a.snd.toI.toNat))
 |102=>.bool (mg a.fst.toI a.snd.fst.toI a.snd.snd.fst.toI a.snd.snd.snd.fst.toI a.snd.snd.snd.snd.fst.toL a.snd.snd.snd.snd.snd.toB)
 |103=>.bool (tC a.fst.toL a.snd.fst.toB (bh a.snd.snd.toI.toNat))
 |104=>.bool (gC a.fst.toL (fh a.snd.fst (bh (a.snd.snd.fst.toI.toNat*4+a.snd.snd.snd.fst.toI.toNat)) (bh a.snd.snd.snd.snd.toI.toNat)))
 |105=>.bool (gC a.fst.toL (fh a.snd.fst 8 0++iu a.snd.fst (bh a.snd.snd.toI.toNat)))
 |106=>.bool (gC a.fst.toL (gF a.snd.fst (bh a.snd.snd.toI.toNat)))
 |107=>.bool (uQ a.fst (bh a.snd.toI.toNat))
 |108=>.bool (eh a)
 |109=>.bool (bi a.fst==ba a.snd.fst (a.snd.snd.fst.toI.toNat*4+a.snd.snd.snd.toI.toNat))
 |110=>.bool (iq a)
 |111=>.bool (jT a.fst (bh a.snd.toI.toNat))
 |112=>.bool (ku a.fst (bh a.snd.toI.toNat))
 |113=>.bool (iK a.snd.fst a.fst.toL (bh a.snd.snd.fst.toI.toNat) (bh a.snd.snd.snd.toI.toNat))
 |114=>.bool ((bi a.fst).contains a.snd.toI)
 |115=>.bool (sM a)
 |116=>.bool (M5 a)
 |117=>.bool (nR a)
 |118=>.bool (gL a.fst a.snd.toI.toNat)
 |120=>.int (ep a.fst a.snd.fst.toI (bh a.snd.snd.toI.toNat))
 |121=>.int ((bi a.fst).count a.snd.toI:Nat)
 |122=>.int (mj a.fst a.snd.fst.toI.toNat a.snd.snd.toI:Nat)
 |123=>.bool (tW a.fst (bh a.snd.toI.toNat))
 |124=>.bool (ry a.fst (bh a.snd.toI.toNat))
 |125=>.bool (nW a)
 |126=>.bool (pR a.fst (bh a.snd.toI.toNat))
 |127=>.bool (tU a.fst (bh a.snd.toI.toNat))
 |128=>.bool (ue a.fst (bh a.snd.fst.toI.toNat) (bh a.snd.snd.toI.toNat))
 |129=>.bool (nj a)
 |130=>.bool (kf a)
 |131=>.int ((((bi a.fst).take (bh a.snd.snd.toI.toNat)).count a.snd.fst.toI:Nat))
 |132=>.int (mY a.fst a.snd.fst.toI.toNat (bh a.snd.snd.fst.toI.toNat) a.snd.snd.snd.toI:Nat)
 |133=>.int (nz a.fst a.snd.fst.toI a.snd.snd.fst.toI (bh a.snd.snd.snd.toI.toNat):Nat)
 |134=>.int ((((List.range (bh a.snd.toI.toNat)).map fun z=>(ba a.fst z).length).sum:Nat))
 |135=>.int (((gS a.fst (bh a.snd.toI.toNat)).length:Nat))
 |136=>.bool ((bj a.fst).count (blk a.fst (bh a.snd.toI.toNat) 1)==1&&(fy a.fst).count (blk a.fst (bh a.snd.toI.toNat) 0)==1)
 |137=>.bool (HE (fQ a 0) (fQ a 1) (fQ a 2) (fQ a 3) (fQ a 4) (fQ a 5) (fQ a 6) (fQ a 7) a.snd.snd.snd.snd.snd.snd.snd.snd.toI)
 |141=>.int (dz a.fst.toL a.snd.toI 1)
 |142=>.int (dz a.fst.toL a.snd.toI 7)
 |143=>.bool (bi a.fst==iM a.snd.fst.toL a.snd.snd.fst a.snd.snd.snd.fst.toI (bh a.snd.snd.snd.snd.toI.toNat))
 |144=>.bool (bi a.fst==EB (iM a.snd.fst.toL a.snd.snd.fst a.snd.snd.snd.toI (bQ a.snd.snd.fst)))
 |145=>.bool (jE a.fst a.snd.toI)
 |146=>.bool ([0,1,2,3].all (fun k=>cp 0 (fQ a k) 20)&&cp 0 (a.snd.snd.snd.snd.toI) 20)
 |147=>.bool ([fQ a 0,fQ a 1,fQ a 2,fQ a 3]==(let a:=a.snd.snd.snd.snd;aqN a.fst.toL a.snd.fst a.snd.snd.fst.toI (bh a.snd.snd.snd.toI.toNat)))
 |148=>.bool (bi a.fst==(EB (bi a.snd.fst)).take (bh a.snd.snd.toI.toNat))
 |150=>.int (MG a.fst.toL a.snd.fst a.snd.snd.toI)
 |151=>.bool (bi a.fst==axN a.snd.fst.toL a.snd.snd.fst a.snd.snd.snd.fst.toI (bh a.snd.snd.snd.snd.toI.toNat))
 |152=>.bool (bi a.fst==gJ ((bi a.snd.fst).take (bh a.snd.snd.toI.toNat)))
 |153=>.bool ((bi a.fst).all fun k=>decide (0<=ep a.snd k (bQ a.snd)))
 |155=>.bool (zz a.fst.toL (bh a.snd.toI.toNat))
 |156=>.bool (uO a.fst.toL a.snd.toL)
 |157=>.bool (tE a.fst.toL (bh a.snd.toI.toNat))
 |158=>.bool (ov a.fst.toL (bh a.snd.toI.toNat))
 |159=>.bool ((List.range 8).all fun z=>decide ((ba a z).length<=40))
 |160=>.bool (((bi a.fst).take (bh a.snd.snd.toI.toNat)).all fun x=>decide (x<a.snd.fst.toI))
 |161=>.bool ((bi a.fst).take (bh a.snd.snd.toI.toNat)==(bi a.snd.fst).take (bh a.snd.snd.toI.toNat))
 |170=>.bool ((dr (ju (br a 6).toI.toNat) (bh (br a 7).toI.toNat) (wd (skip 8 a))).any fun s=>s==wd a)
 |171=>.bool ((dr (ju (br a 0).toI.toNat) (bh (br a 1).toI.toNat) (wd (skip 2 a))).isNone)
 |174=>.bool ((fY (br a 2).toI ([],bi (br a 3),bi (br a 4))).any fun s=>s==([],bi (br a 0),bi (br a 1)))
 |175=>.int (bV a.fst.toI ((bi a.snd.fst).take (2*bh a.snd.snd.toI.toNat)) 0)
 |176=>.bool ((co (gH (skip 8 a)) (bh (br a 6).toI.toNat) (bh (br a 7).toI.toNat) (rP (skip 12 a))).any fun s=>s==wd a)
 |177=>.bool ((co (gH (skip 2 a)) (bh (br a 0).toI.toNat) (bh (br a 1).toI.toNat) (rP (skip 6 a))).isNone)
 |178=>.bool ((co (gH (skip 8 a)) (bh (br a 6).toI.toNat) (bh (br a 7).toI.toNat) (rP (skip 12 a))).any fun s=>(s.1,EB s.2.1,s.2.2)==wd a)
 |179=>.int (axo (br a 2).toL (br a 3) (br a 1).toI (bi (br a 0)))
 |181=>.bool (U.eqs (a.fst.toL.take (bh a.snd.snd.toI.toNat)) (a.snd.fst.toL.take (bh a.snd.snd.toI.toNat)))
 |182=>.bool (jE (br a 6) (br a 7).toI&&KK (gH a) (br a 4).toI&&(co (gH a) 4 (bh (br a 4).toI.toNat) (rP (skip 5 a))).isSome)
 |183=>.bool ((co (gH (skip 5 a)) 4 (bh (br a 9).toI.toNat) (rP (skip 10 a))).any fun s=>s.1==gH a&&gJ s.2.2==bi (br a 4))
 |185=>.bool ((gH a).getD (br a 4).toI.toNat 0==0)
 |186=>.bool (bi a.fst==(bi a.snd.fst).take (2*bh a.snd.snd.toI.toNat)++(bi a.snd.fst).drop (2*bh a.snd.snd.toI.toNat+2))
 |188=>.bool ((gH a).all fun x=>cp 0 x 99)
 |187=>.bool (oD a.fst.toL a.snd.toL)
 |189=>.bool (aAj a.fst a.snd)
 |190=>.bool (jL a.toL)
 |200=>.bool (U.eqs a.fst.toL a.snd.toL)
 |201=>.bool (cM a)
 |199=>.bool ((co (gH (skip 2 a)) 4 (bh (br a 6).toI.toNat) (rP (skip 7 a))).any fun s=>gJ s.2.2==bi (br a 1)&&Tl a.fst (br a 8) (br a 9).toI.toNat s.1)
 |198=>.bool ((co (gH (skip 1 a)) 4 (bh (br a 5).toI.toNat) (rP (skip 6 a))).any fun s=>adt a.fst (br a 7) (br a 8).toI.toNat (gJ s.2.2) s.1)
 |196=>.bool (anO a.fst a.snd)
 |195=>.bool (cM a&&jL a.toL)
 |191=>.bool (U.eqs a.fst.toL (Zo (bi (br a 2)) (bh a.snd.snd.snd.toI.toNat) (br a 1).toL))
 |193=>.bool (Qp (bi a))
 |194=>.bool (aGE (bi a.fst) (br a 1).toI (bh (br a 2).toI.toNat) (bh a.snd.snd.snd.toI.toNat))
 |202=>.bool (U.eqs a.fst.toL (du (br a 1).toL (br a 2).toL (bh (br a 3).toI.toNat) (bh (br a 4).toI.toNat) (bh a.snd.snd.snd.snd.snd.toI.toNat)))
 |203=>.bool (W7 a.fst (bh (br a 1).toI.toNat) (bh (br a 2).toI.toNat) (gH (skip 3 a)))
 |204=>.bool (GM a.fst.toL (br a 1).toL (bh a.snd.snd.toI.toNat))
 |205=>.bool ([0,1,2,3].all fun k=>(gH a).getD k 0==gO (br a 8).toL k ((gH (skip 4 a)).getD k 0) (bh (br a 9).toI.toNat))
 |206=>.bool (U.eqs a.fst.toL (DF (br a 1).toL (bh a.snd.snd.toI.toNat)))
 |208=>.int (s8 a.fst.toL (br a 1).toI (bh a.snd.snd.toI.toNat))
 |209=>.bool (Tp a.fst (br a 1) (br a 2).toI a.snd.snd.snd.toI)
 |211=>.bool (adv a.fst a.snd)
 |214=>.bool ((bi a).all fun x=>decide (0<=x)&&decide (x<4))
 |217=>.bool (U.eqs a.fst.toL (setRow (br a 1).toL (bh (br a 2).toI.toNat) ((List.range 12).map fun j=>br a (j+3))))
 |215=>.bool (bi a.fst==eg 1 (bh a.snd.toI.toNat))
 |184=>.bool (bi a.fst==((bi a.snd.fst).take (bh a.snd.snd.snd.toI.toNat)).filter fun x=>!(x==a.snd.snd.fst.toI))
 |_=>.int 0
end Go.SX

namespace Go.SX
noncomputable section
inductive T (G:Type) where
 |nil
 |node (v:G) (l r:T G)
 deriving Inhabited
noncomputable def T.get{G:Type}(t:T G):Nat->Option G:=
 T.rec (motive:=fun _=>Nat->Option G) (fun _=>none) (fun v _ _ gl gr n=>
  Nat.rec (some v) (fun n _=>Bool.rec (gr (Nat.div n 2)) (gl (Nat.div n 2)) (Nat.beq (Nat.mod n 2) 0)) n) t
noncomputable def T.set{G:Type}(t:T G):Nat->G->T G:=
 T.rec (motive:=fun _=>Nat->G->T G) (fun _ _=>T.nil) (fun v l r sl sr n x=>
  Nat.rec (T.node x l r) (fun n _=>Bool.rec (T.node v l (sr (Nat.div n 2) x)) (T.node v (sl (Nat.div n 2) x) r) (Nat.beq (Nat.mod n 2) 0)) n) t
noncomputable def T.setK{G J:Type}(t:T G):Nat->G->(T G->J)->J:=
 T.rec (motive:=fun _=>Nat->G->(T G->J)->J) (fun _ _ k=>k T.nil) (fun v l r sl sr n x k=>
  Nat.rec (k (T.node x l r)) (fun n _=>Bool.rec (sr (Nat.div n 2) x fun r'=>k (T.node v l r')) (sl (Nat.div n 2) x fun l'=>k (T.node v l' r)) (Nat.beq (Nat.mod n 2) 0)) n) t
noncomputable def T.ins{G:Type}(t:T G):Nat->G->T G:=
 T.rec (motive:=fun _=>Nat->G->T G) (fun n x=>Nat.rec (T.node x T.nil T.nil) (fun _ _=>T.nil) n) (fun v l r sl sr n x=>
  Nat.rec (T.node x l r) (fun n _=>Bool.rec (T.node v l (sr (Nat.div n 2) x)) (T.node v (sl (Nat.div n 2) x) r) (Nat.beq (Nat.mod n 2) 0)) n) t
noncomputable def T.insK{G J:Type}(t:T G):Nat->G->(T G->J)->J:=
 T.rec (motive:=fun _=>Nat->G->(T G->J)->J) (fun n x k=>Nat.rec (k (T.node x T.nil T.nil)) (fun _ _=>k T.nil) n) (fun v l r sl sr n x k=>
  Nat.rec (k (T.node x l r)) (fun n _=>Bool.rec (sr (Nat.div n 2) x fun r'=>k (T.node v l r')) (sl (Nat.div n 2) x fun l'=>k (T.node v l' r)) (Nat.beq (Nat.mod n 2) 0)) n) t
noncomputable def T.all{G:Type}(p:G->Bool)(t:T G):Bool:=
 T.rec (motive:=fun _=>Bool) true (fun v _ _ a b=>Bool.rec false (Bool.rec false b a) (p v)) t
noncomputable def T.fill{G:Type}(v:G)(d:Nat):Nat->T G:=
 Nat.rec (motive:=fun _=>Nat->T G) (fun _=>T.nil) (fun _ ih n=>Nat.rec T.nil (fun m _=>T.node v (ih (Nat.div (Nat.succ m) 2)) (ih (Nat.div m 2))) n) d
noncomputable def T.putsK{G J:Type}(l:List G):Nat->T G->(T G->J)->J:=
 List.rec (motive:=fun _=>Nat->T G->(T G->J)->J) (fun _ t k=>k t) (fun x _ ih n t k=>T.setK t n x fun t'=>ih (Nat.succ n) t' k) l
noncomputable def T.addsK{G J:Type}(l:List G):Nat->T G->(T G->J)->J:=
 List.rec (motive:=fun _=>Nat->T G->(T G->J)->J) (fun _ t k=>k t) (fun x _ ih n t k=>T.insK t n x fun t'=>ih (Nat.succ n) t' k) l
def qw(f:Nat)(a:U):U:=match Nat.blt f 100 with | true=>pF f a | false=>awa f a
inductive E where
 |int (n:Int) | bool (b:Bool) | str (s:ByteArray) | var (i:Nat)
 |ar (o:BinOp) (k:IntKind) (a b:E)
 |cmp (o:BinOp) (a b:E)
 |mn (a b:E) | mx (a b:E)
 |wr (k:IntKind) (a:E)
 |not (a:E) | and (a b:E) | seq (a b:E) | iff (a b:E) | imp (a b:E)
 |fn (f:Nat) (a:E) | pr (a b:E)
 deriving Inhabited
def i7(o:BinOp)(k:IntKind)(x y:Int):Int:=
 match o with
 |.add=>k.wrap (x+y)
 |.sub=>k.wrap (x-y)
 |.mul=>k.wrap (x*y)
 |.quo=>k.wrap (x.tdiv y)
 |.rem=>x.tmod y
 |.and=>k.wrap (BitVec.ofInt k.bits x &&& BitVec.ofInt k.bits y).toNat
 |.or=>k.wrap (BitVec.ofInt k.bits x ||| BitVec.ofInt k.bits y).toNat
 |.xor=>k.wrap (BitVec.ofInt k.bits x ^^^ BitVec.ofInt k.bits y).toNat
 |.andNot=>k.wrap (BitVec.ofInt k.bits x &&& ~~~BitVec.ofInt k.bits y).toNat
 |.shl=>k.wrap (x*2^(min y.toNat k.bits))
 |.shr=>x.fdiv (2^(min y.toNat k.bits))
 |_=>0
def bZ(o:BinOp)(x y:Int):Bool:=
 match o with
 |.eql=>x==y
 |.neq=>x != y
 |.lss=>decide (x<y)
 |.leq=>decide (x<=y)
 |.gtr=>decide (x>y)
 |.geq=>decide (x>=y)
 |_=>false
def nY:List UInt8->List UInt8->Bool
 |[],[]=>true
 |x::xs,y::ys=>match Nat.beq x.toNat y.toNat with | true=>nY xs ys | false=>false
 |_,_=>false
def jv(a b:ByteArray):Bool:=nY a.data.toList b.data.toList
def nJ(x y:Int):Int:=if y<x then y else x
def kG(x y:Int):Int:=if y>x then y else x
structure Bk where
 blk:Nat
 off:Nat
 alt:Option (Option Addr)
 deriving Inhabited
def Bk.nil(k:Bk):Bool:=k.alt.isSome
def Bk.base(k:Bk):Option Addr:=match k.alt with | some x=>x | none=>some ⟨k.blk,k.off,none⟩
structure Env where
 vs:List U
 bs:List Bk
 fz:Nat->Option Obj
def Env.of(vs:List U):Env:=⟨vs,[],fun _=>none⟩
def E.den(F:Env):E->U
 |.int n=>.int n
 |.bool b=>.bool b
 |.str s=>.str s
 |.var i=>F.vs.getD i (.int 0)
 |.ar o k a b=>.int (i7 o k (a.den F).toI (b.den F).toI)
 |.cmp o a b=>.bool (bZ o (a.den F).toI (b.den F).toI)
 |.mn a b=>.int (nJ (a.den F).toI (b.den F).toI)
 |.mx a b=>.int (kG (a.den F).toI (b.den F).toI)
 |.wr k a=>.int (k.wrap (a.den F).toI)
 |.not a=>.bool (!(a.den F).toB)
 |.and a b=>.bool ((a.den F).toB&&(b.den F).toB)
 |.seq a b=>.bool (jv (a.den F).toS (b.den F).toS)
 |.iff a b=>.bool ((a.den F).toB==(b.den F).toB)
 |.imp a b=>.bool (!(a.den F).toB||(b.den F).toB)
 |.fn f a=>qw f (a.den F)
 |.pr a b=>.lst [a.den F,b.den F]
def E.I(F:Env)(e:E):Int:=(e.den F).toI
def E.B(F:Env)(e:E):Bool:=(e.den F).toB
def E.S(F:Env)(e:E):ByteArray:=(e.den F).toS
def E.L(F:Env)(e:E):List U:=(e.den F).toL
def eM:IntKind->IntKind->Bool
 |.i8,.i8 | .i16,.i16 | .i32,.i32 | .i64,.i64 | .u8,.u8 | .u16,.u16 | .u32,.u32 | .u64,.u64=>true
 |_,_=>false
def Bp:BinOp->Nat
 |.add=>0 | .sub=>1 | .mul=>2 | .quo=>3 | .rem=>4 | .and=>5 | .or=>6 | .xor=>7 | .shl=>8 | .shr=>9 | .andNot=>10
 |.eql=>11 | .neq=>12 | .lss=>13 | .leq=>14 | .gtr=>15 | .geq=>16
def Io(a b:BinOp):Bool:=Nat.beq (Bp a) (Bp b)
def iE:Int->Int->Bool
 |.ofNat a,.ofNat b=>Nat.beq a b
 |.negSucc a,.negSucc b=>Nat.beq a b
 |_,_=>false
def l6:Bool->Bool->Bool
 |true,true=>true
 |false,false=>true
 |_,_=>false
def df(a b:Bool):Bool:=match a with | true=>b | false=>false
noncomputable def E.on_int(b:E)(f:Int->Bool):Bool:=E.rec (motive:=fun _=>Bool) (fun x0=>f x0) (fun _=>false) (fun _=>false) (fun _=>false) (fun _ _ _ _ _ _=>false) (fun _ _ _ _ _=>false) (fun _ _ _ _=>false) (fun _ _ _ _=>false) (fun _ _ _=>false) (fun _ _=>false) (fun _ _ _ _=>false) (fun _ _ _ _=>false) (fun _ _ _ _=>false) (fun _ _ _ _=>false) (fun _ _ _=>false) (fun _ _ _ _=>false) b
noncomputable def E.on_bool(b:E)(f:Bool->Bool):Bool:=E.rec (motive:=fun _=>Bool) (fun _=>false) (fun x0=>f x0) (fun _=>false) (fun _=>false) (fun _ _ _ _ _ _=>false) (fun _ _ _ _ _=>false) (fun _ _ _ _=>false) (fun _ _ _ _=>false) (fun _ _ _=>false) (fun _ _=>false) (fun _ _ _ _=>false) (fun _ _ _ _=>false) (fun _ _ _ _=>false) (fun _ _ _ _=>false) (fun _ _ _=>false) (fun _ _ _ _=>false) b
noncomputable def E.on_str(b:E)(f:ByteArray->Bool):Bool:=E.rec (motive:=fun _=>Bool) (fun _=>false) (fun _=>false) (fun x0=>f x0) (fun _=>false) (fun _ _ _ _ _ _=>false) (fun _ _ _ _ _=>false) (fun _ _ _ _=>false) (fun _ _ _ _=>false) (fun _ _ _=>false) (fun _ _=>false) (fun _ _ _ _=>false) (fun _ _ _ _=>false) (fun _ _ _ _=>false) (fun _ _ _ _=>false) (fun _ _ _=>false) (fun _ _ _ _=>false) b
noncomputable def E.on_var(b:E)(f:Nat->Bool):Bool:=E.rec (motive:=fun _=>Bool) (fun _=>false) (fun _=>false) (fun _=>false) (fun x0=>f x0) (fun _ _ _ _ _ _=>false) (fun _ _ _ _ _=>false) (fun _ _ _ _=>false) (fun _ _ _ _=>false) (fun _ _ _=>false) (fun _ _=>false) (fun _ _ _ _=>false) (fun _ _ _ _=>false) (fun _ _ _ _=>false) (fun _ _ _ _=>false) (fun _ _ _=>false) (fun _ _ _ _=>false) b
noncomputable def E.on_ar(b:E)(f:BinOp->IntKind->E->E->Bool):Bool:=E.rec (motive:=fun _=>Bool) (fun _=>false) (fun _=>false) (fun _=>false) (fun _=>false) (fun x0 x1 x2 x3 _ _=>f x0 x1 x2 x3) (fun _ _ _ _ _=>false) (fun _ _ _ _=>false) (fun _ _ _ _=>false) (fun _ _ _=>false) (fun _ _=>false) (fun _ _ _ _=>false) (fun _ _ _ _=>false) (fun _ _ _ _=>false) (fun _ _ _ _=>false) (fun _ _ _=>false) (fun _ _ _ _=>false) b
noncomputable def E.on_cmp(b:E)(f:BinOp->E->E->Bool):Bool:=E.rec (motive:=fun _=>Bool) (fun _=>false) (fun _=>false) (fun _=>false) (fun _=>false) (fun _ _ _ _ _ _=>false) (fun x0 x1 x2 _ _=>f x0 x1 x2) (fun _ _ _ _=>false) (fun _ _ _ _=>false) (fun _ _ _=>false) (fun _ _=>false) (fun _ _ _ _=>false) (fun _ _ _ _=>false) (fun _ _ _ _=>false) (fun _ _ _ _=>false) (fun _ _ _=>false) (fun _ _ _ _=>false) b
noncomputable def E.on_mn(b:E)(f:E->E->Bool):Bool:=E.rec (motive:=fun _=>Bool) (fun _=>false) (fun _=>false) (fun _=>false) (fun _=>false) (fun _ _ _ _ _ _=>false) (fun _ _ _ _ _=>false) (fun x0 x1 _ _=>f x0 x1) (fun _ _ _ _=>false) (fun _ _ _=>false) (fun _ _=>false) (fun _ _ _ _=>false) (fun _ _ _ _=>false) (fun _ _ _ _=>false) (fun _ _ _ _=>false) (fun _ _ _=>false) (fun _ _ _ _=>false) b
noncomputable def E.on_mx(b:E)(f:E->E->Bool):Bool:=E.rec (motive:=fun _=>Bool) (fun _=>false) (fun _=>false) (fun _=>false) (fun _=>false) (fun _ _ _ _ _ _=>false) (fun _ _ _ _ _=>false) (fun _ _ _ _=>false) (fun x0 x1 _ _=>f x0 x1) (fun _ _ _=>false) (fun _ _=>false) (fun _ _ _ _=>false) (fun _ _ _ _=>false) (fun _ _ _ _=>false) (fun _ _ _ _=>false) (fun _ _ _=>false) (fun _ _ _ _=>false) b
noncomputable def E.on_wr(b:E)(f:IntKind->E->Bool):Bool:=E.rec (motive:=fun _=>Bool) (fun _=>false) (fun _=>false) (fun _=>false) (fun _=>false) (fun _ _ _ _ _ _=>false) (fun _ _ _ _ _=>false) (fun _ _ _ _=>false) (fun _ _ _ _=>false) (fun x0 x1 _=>f x0 x1) (fun _ _=>false) (fun _ _ _ _=>false) (fun _ _ _ _=>false) (fun _ _ _ _=>false) (fun _ _ _ _=>false) (fun _ _ _=>false) (fun _ _ _ _=>false) b
noncomputable def E.on_not(b:E)(f:E->Bool):Bool:=E.rec (motive:=fun _=>Bool) (fun _=>false) (fun _=>false) (fun _=>false) (fun _=>false) (fun _ _ _ _ _ _=>false) (fun _ _ _ _ _=>false) (fun _ _ _ _=>false) (fun _ _ _ _=>false) (fun _ _ _=>false) (fun x0 _=>f x0) (fun _ _ _ _=>false) (fun _ _ _ _=>false) (fun _ _ _ _=>false) (fun _ _ _ _=>false) (fun _ _ _=>false) (fun _ _ _ _=>false) b
noncomputable def E.on_and(b:E)(f:E->E->Bool):Bool:=E.rec (motive:=fun _=>Bool) (fun _=>false) (fun _=>false) (fun _=>false) (fun _=>false) (fun _ _ _ _ _ _=>false) (fun _ _ _ _ _=>false) (fun _ _ _ _=>false) (fun _ _ _ _=>false) (fun _ _ _=>false) (fun _ _=>false) (fun x0 x1 _ _=>f x0 x1) (fun _ _ _ _=>false) (fun _ _ _ _=>false) (fun _ _ _ _=>false) (fun _ _ _=>false) (fun _ _ _ _=>false) b
noncomputable def E.on_seq(b:E)(f:E->E->Bool):Bool:=E.rec (motive:=fun _=>Bool) (fun _=>false) (fun _=>false) (fun _=>false) (fun _=>false) (fun _ _ _ _ _ _=>false) (fun _ _ _ _ _=>false) (fun _ _ _ _=>false) (fun _ _ _ _=>false) (fun _ _ _=>false) (fun _ _=>false) (fun _ _ _ _=>false) (fun x0 x1 _ _=>f x0 x1) (fun _ _ _ _=>false) (fun _ _ _ _=>false) (fun _ _ _=>false) (fun _ _ _ _=>false) b
noncomputable def E.on_iff(b:E)(f:E->E->Bool):Bool:=E.rec (motive:=fun _=>Bool) (fun _=>false) (fun _=>false) (fun _=>false) (fun _=>false) (fun _ _ _ _ _ _=>false) (fun _ _ _ _ _=>false) (fun _ _ _ _=>false) (fun _ _ _ _=>false) (fun _ _ _=>false) (fun _ _=>false) (fun _ _ _ _=>false) (fun _ _ _ _=>false) (fun x0 x1 _ _=>f x0 x1) (fun _ _ _ _=>false) (fun _ _ _=>false) (fun _ _ _ _=>false) b
noncomputable def E.on_imp(b:E)(f:E->E->Bool):Bool:=E.rec (motive:=fun _=>Bool) (fun _=>false) (fun _=>false) (fun _=>false) (fun _=>false) (fun _ _ _ _ _ _=>false) (fun _ _ _ _ _=>false) (fun _ _ _ _=>false) (fun _ _ _ _=>false) (fun _ _ _=>false) (fun _ _=>false) (fun _ _ _ _=>false) (fun _ _ _ _=>false) (fun _ _ _ _=>false) (fun x0 x1 _ _=>f x0 x1) (fun _ _ _=>false) (fun _ _ _ _=>false) b
noncomputable def E.on_fn(b:E)(f:Nat->E->Bool):Bool:=E.rec (motive:=fun _=>Bool) (fun _=>false) (fun _=>false) (fun _=>false) (fun _=>false) (fun _ _ _ _ _ _=>false) (fun _ _ _ _ _=>false) (fun _ _ _ _=>false) (fun _ _ _ _=>false) (fun _ _ _=>false) (fun _ _=>false) (fun _ _ _ _=>false) (fun _ _ _ _=>false) (fun _ _ _ _=>false) (fun _ _ _ _=>false) (fun x0 x1 _=>f x0 x1) (fun _ _ _ _=>false) b
noncomputable def E.on_pr(b:E)(f:E->E->Bool):Bool:=E.rec (motive:=fun _=>Bool) (fun _=>false) (fun _=>false) (fun _=>false) (fun _=>false) (fun _ _ _ _ _ _=>false) (fun _ _ _ _ _=>false) (fun _ _ _ _=>false) (fun _ _ _ _=>false) (fun _ _ _=>false) (fun _ _=>false) (fun _ _ _ _=>false) (fun _ _ _ _=>false) (fun _ _ _ _=>false) (fun _ _ _ _=>false) (fun _ _ _=>false) (fun x0 x1 _ _=>f x0 x1) b
noncomputable def E.beq(a:E):E->Bool:=
 E.rec (motive:=fun _=>E->Bool)
  (fun n b=>b.on_int fun m=>iE n m)
  (fun x b=>b.on_bool fun y=>l6 x y)
  (fun s b=>b.on_str fun t=>jv s t)
  (fun i b=>b.on_var fun j=>Nat.beq i j)
  (fun o k _ _ f g b=>b.on_ar fun o' k' a' b'=>df (Io o o') (df (eM k k') (df (f a') (g b'))))
  (fun o _ _ f g b=>b.on_cmp fun o' a' b'=>df (Io o o') (df (f a') (g b')))
  (fun _ _ f g b=>b.on_mn fun a' b'=>df (f a') (g b'))
  (fun _ _ f g b=>b.on_mx fun a' b'=>df (f a') (g b'))
  (fun k _ f b=>b.on_wr fun k' a'=>df (eM k k') (f a'))
  (fun _ f b=>b.on_not fun a'=>f a')
  (fun _ _ f g b=>b.on_and fun a' b'=>df (f a') (g b'))
  (fun _ _ f g b=>b.on_seq fun a' b'=>df (f a') (g b'))
  (fun _ _ f g b=>b.on_iff fun a' b'=>df (f a') (g b'))
  (fun _ _ f g b=>b.on_imp fun a' b'=>df (f a') (g b'))
  (fun n _ f b=>b.on_fn fun m a'=>df (Nat.beq n m) (f a'))
  (fun _ _ f g b=>b.on_pr fun a' b'=>df (f a') (g b')) a
def eZ{J:Type}(n:Nat)(k:Nat->J):J:=
 match n with
 |0=>k 0
 |m+1=>k (m+1)
def dA(a b:Nat):Nat:=Nat.mod (Nat.add (Nat.mul a 1000003) b) 2305843009213693951
def aAs(n:Int):Nat:=match n with | .ofNat m=>Nat.mul 2 m | .negSucc m=>Nat.add (Nat.mul 2 m) 1
def Wh(k:IntKind):Nat:=match k with | .i8=>1 | .i16=>2 | .i32=>3 | .i64=>4 | .u8=>5 | .u16=>6 | .u32=>7 | .u64=>8
noncomputable def kq(a:E):Nat:=
 E.rec (motive:=fun _=>Nat)
  (fun n=>dA 3 (aAs n)) (fun x=>match x with | true=>5 | false=>7) (fun _=>11) (fun i=>dA 13 i)
  (fun o k _ _ f g=>dA (dA (dA (dA 17 (Bp o)) (Wh k)) f) g)
  (fun o _ _ f g=>dA (dA (dA 19 (Bp o)) f) g)
  (fun _ _ f g=>dA (dA 23 f) g)
  (fun _ _ f g=>dA (dA 29 f) g)
  (fun k _ f=>dA (dA 31 (Wh k)) f)
  (fun _ f=>dA 37 f)
  (fun _ _ f g=>dA (dA 41 f) g)
  (fun _ _ f g=>dA (dA 43 f) g)
  (fun _ _ f g=>dA (dA 47 f) g)
  (fun _ _ f g=>dA (dA 53 f) g)
  (fun n _ f=>dA (dA 59 n) f)
  (fun _ _ f g=>dA (dA 61 f) g) a
def L7(x:E):Nat:=match x with | .imp _ c=>kq c | x=>kq x
def cZ:E->E
 |.fn 6 (.pr c (.int _))=>c
 |e=>e
def bT1(x:E):Nat:=match x with
 |.cmp _ a b=>match b with
  |.int _=>kq (cZ a)
  |_=>match a with
   |.int _=>kq (cZ b)
   |_=>0
 |_=>0
def bT(x:E):Nat:=match x with | .not y=>bT1 y | y=>bT1 y
noncomputable def Du(n:Nat)(l:List E):List E:=List.rec (motive:=fun _=>List E) [] (fun x _ ih=>Bool.rec ih (x::ih) (Nat.beq (L7 x) n)) l
noncomputable def DI(n:Nat)(l:List E):List E:=List.rec (motive:=fun _=>List E) [] (fun x _ ih=>Bool.rec ih (x::ih) (Nat.beq (kq x) n)) l
noncomputable def ye(n:Nat)(l:List E):List E:=List.rec (motive:=fun _=>List E) [] (fun x _ ih=>Bool.rec ih (x::ih) (Nat.beq (bT x) n)) l
def iC(o:BinOp)(k:IntKind)(a b:E):E:=
 match a,b with
 |.int x,.int y=>.int (i7 o k x y)
 |_,_=>.ar o k a b
def bc(a:E):E:=
 match a with
 |.bool b=>.bool (!b)
 |.not x=>x
 |_=>.not a
def eH:E->Int
 |.fn 6 (.pr _ (.int x))=>x
 |_=>0
def aD(o:BinOp)(a b:E):E:=
 match a,b with
 |.int x,.int y=>.bool (bZ o x y)
 |_,_=>match (cZ a).beq (cZ b)with
  |true=>.bool (bZ o (eH a) (eH b))
  |false=>match o with
   |.eql=>match a with
    |.int x=>.cmp .eql b (.int x)
    |a=>.cmp .eql a b
   |.neq=>match a with
    |.int x=>.not (.cmp .eql b (.int x))
    |a=>.not (.cmp .eql a b)
   |.gtr=>.cmp .lss b a
   |.leq=>.not (.cmp .lss b a)
   |.geq=>.not (.cmp .lss a b)
   |_=>.cmp o a b
def qR(a b:E):E:=
 match a,b with
 |.int x,.int y=>.int (nJ x y)
 |_,_=>.mn a b
def mh(a b:E):E:=
 match a,b with
 |.int x,.int y=>.int (kG x y)
 |_,_=>.mx a b
def rh(k:IntKind)(a:E):E:=
 match a with
 |.int x=>.int (k.wrap x)
 |_=>.wr k a
def zf(a b:E):E:=
 match a with
 |.bool true=>match b with
  |.bool y=>.bool y
  |_=>.and a b
 |.bool false=>.bool false
 |_=>.and a b
def lR(a b:E):E:=
 match a,b with
 |.str x,.str y=>.bool (jv x y)
 |_,_=>.seq a b
def cR(a b:E):E:=
 match a,b with
 |.int x,.int y=>.int (x+y)
 |.int x,b=>match iE x 0 with
  |true=>b
  |false=>match b with
   |.fn 6 (.pr c (.int y))=>.fn 6 (.pr c (.int (x+y)))
   |_=>.fn 6 (.pr b (.int x))
 |.fn 6 (.pr c (.int x)),.int y=>.fn 6 (.pr c (.int (x+y)))
 |a,.int y=>match iE y 0 with
  |true=>a
  |false=>.fn 6 (.pr a (.int y))
 |a,b=>.fn 6 (.pr a b)
def jf(a b:E):E:=
 match a,b with
 |.int x,.int y=>.int (x-y)
 |.fn 6 (.pr c (.int x)),.int y=>match iE (x-y) 0 with
  |true=>c
  |false=>.fn 6 (.pr c (.int (x-y)))
 |a,.int y=>match iE y 0 with
  |true=>a
  |false=>.fn 6 (.pr a (.int (-y)))
 |a,b=>match a.beq b with
  |true=>.int 0
  |false=>.fn 7 (.pr a b)
def gU:E->E
 |.fn 2 (.pr l' x)=>gU l'
 |.fn 3 (.pr a b)=>cR (gU a) (gU b)
 |.fn 5 (.pr n x)=>mh n (.int 0)
 |.fn 10 _=>.int 0
 |.fn 11 _=>.int 1
 |.fn 21 (.pr r c)=>gU c
 |.fn 23 (.pr x r)=>cR (.int 1) (gU r)
 |.fn 28 (.pr r c)=>gU c
 |.fn 30 _=>.int 0
 |l=>.fn 0 l
def DQ(v:E):E->Nat->Option E
 |.fn 23 (.pr x r),n=>match n with
  |0=>some (.fn 23 (.pr v r))
  |n+1=>match DQ v r n with
   |some r'=>some (.fn 23 (.pr x r'))
   |none=>none
 |_,_=>none
def B6(i:Nat)(v:E):E->E
 |.fn 2 (.pr l (.pr (.int (.ofNat j)) u))=>match Nat.beq i j with
  |true=>.fn 2 (.pr l (.pr (.int (.ofNat i)) v))
  |false=>match Nat.blt i j with
   |true=>.fn 2 (.pr (B6 i v l) (.pr (.int (.ofNat j)) u))
   |false=>.fn 2 (.pr (.fn 2 (.pr l (.pr (.int (.ofNat j)) u))) (.pr (.int (.ofNat i)) v))
 |l=>.fn 2 (.pr l (.pr (.int (.ofNat i)) v))
def jc(l i v:E):E:=
 match i with
 |.int (.ofNat n)=>match DQ v l n with
  |some r=>r
  |none=>B6 n v l
 |_=>.fn 2 (.pr l (.pr i v))
def eT:List E->E
 |[]=>.fn 10 (.int 0)
 |x::xs=>.fn 23 (.pr x (eT xs))
def Di:E->Bool
 |.fn 10 _=>true
 |.fn 30 _=>true
 |_=>false
def DU(b:E):E->Option E
 |.fn 23 (.pr x r)=>match DU b r with
  |some r'=>some (.fn 23 (.pr x r'))
  |none=>none
 |.fn 10 _=>some b
 |_=>none
def EC(a b:E):E:=
 match Di b with
 |true=>a
 |false=>match DU b a with
  |some r=>r
  |none=>.fn 3 (.pr a b)
structure Off where
 base:Nat
 scale:Nat:=0
 idx:E:=.int 0
 deriving Inhabited
def Off.den(F:Env)(o:Off):Nat:=o.base+o.scale*(o.idx.I F).toNat
inductive CK where
 |int (k:IntKind) | bool | str | slc (ks:List CK)
 deriving Inhabited
mutual
def CK.beq:CK->CK->Bool
 |.int k,.int k'=>eM k k'
 |.bool,.bool=>true
 |.str,.str=>true
 |.slc a,.slc b=>ft a b
 |_,_=>false
def ft:List CK->List CK->Bool
 |[],[]=>true
 |x::xs,y::ys=>x.beq y&&ft xs ys
 |_,_=>false
end
def CK.val:CK->U->Value
 |.int k,u=>.int k u.toI
 |.bool,u=>.bool u.toB
 |.str,u=>.string u.toS
 |.slc _,u=>u.raw
inductive SlOk (fz:Nat->Option Obj):List CK->U->Prop
 |nil {ks:List CK}:SlOk fz ks (.bx none 0 0 [])
 |empty {ks:List CK} (a:Addr):SlOk fz ks (.bx (some a) 0 0 [])
 | mk {ks:List CK} {r off len cap:Nat} {l:List U} {arr:Array Value} {elem:TypeId} {fr:Nat×Nat} (hl:l.length=len*ks.length) (hc:len<=cap)
   (hz:l≠[]->fz r=some (.cells arr elem fr))
   (hv:∀(i:Nat)(u:U),l[i]?=some u->∃c,ks[i%ks.length]?=some c/\arr[off+i]?=some (c.val u))
   (hs:∀(i:Nat)(u:U)(ks':List CK),l[i]?=some u->ks[i%ks.length]?=some (.slc ks')->SlOk fz ks' u):
   SlOk fz ks (.bx (some ⟨r,off,none⟩) len cap l)
def CK.ok(fz:Nat->Option Obj):CK->U->Prop
 |.slc ks,u=>SlOk fz ks u
 |_,_=>True
inductive SV where
 |int (k:IntKind) (e:E) | bool (e:E) | str (e:E)
 |nilp | ptr (b:Nat) (o:Off)
 |nils | slice (b:Nat) (o:Off) (len cap:E)
 |nslice (b:Nat) (len cap:E)
 |bsl (ks:List CK) (e:E) | bptr (ks:List CK) (e idx:E) (j:Nat)
 |nilm | map (b:Nat)
 |nili | nilf | func (fn:Fn) (fi ca:List SV)
 |agg (cs:List SV) | tup (cs:List SV)
 |junk
 |nsl (b:Nat) (ks:List CK) (e i:E) (c:Nat) | nptr (b:Nat) (ks:List CK) (e i:E) (c:Nat) (x:E) (j:Nat)
 deriving Inhabited
def Env.blk(F:Env)(b:Nat):Nat:=(F.bs.getD b ⟨0,0,none⟩).blk
def Env.off(F:Env)(b:Nat):Nat:=(F.bs.getD b ⟨0,0,none⟩).off
def Env.nil(F:Env)(b:Nat):Bool:=(F.bs.getD b ⟨0,0,none⟩).nil
def Env.base(F:Env)(b:Nat):Option Addr:=(F.bs.getD b ⟨0,0,none⟩).base
def BO(u:U)(n:Nat):Option Addr:=match u.adr with | some a=>some ⟨a.block,a.off+n,none⟩ | none=>none
mutual
def SV.den(F:Env):SV->Value
 |.int k e=>.int k (e.I F)
 |.bool e=>.bool (e.B F)
 |.str e=>.string (e.S F)
 |.nilp=>.pointer none
 |.ptr b o=>.pointer (some ⟨F.blk b,F.off b+o.den F,none⟩)
 |.nils=>.slice none 0 0
 |.slice b o l c=>.slice (some ⟨F.blk b,F.off b+o.den F,none⟩) (l.I F).toNat (c.I F).toNat
 |.nslice b l c=>.slice (F.base b) (l.I F).toNat (c.I F).toNat
 |.bsl _ e=>(e.den F).raw
 |.bptr ks e i j=>.pointer (BO (e.den F) ((i.I F).toNat*ks.length+j))
 |.nilm=>.map none
 |.map b=>.map (some (F.blk b))
 |.nili=>.nilIface
 |.nilf=>.nilFunc
 |.func fn fi ca=>.func fn (SV.dens F fi).toArray (SV.dens F ca).toArray
 |.agg cs=>.agg (SV.dens F cs).toArray
 |.tup cs=>.tuple (SV.dens F cs).toArray
 |.junk=>Go.undef
 |.nsl _ _ e _ _=>(e.den F).raw
 |.nptr _ ks e _ _ x j=>.pointer (BO (e.den F) ((x.I F).toNat*ks.length+j))
def SV.dens(F:Env):List SV->List Value
 |[]=>[]
 |v::vs=>v.den F::SV.dens F vs
end
mutual
def SV.ok(F:Env):SV->Prop
 |.bsl ks e=>SlOk F.fz ks (e.den F)
 |.bptr ks e i _=>SlOk F.fz ks (e.den F)/\0<=i.I F/\((i.I F).toNat+1)*ks.length<=(e.L F).length/\0<ks.length
 |.func _ fi ca=>SV.oks F fi/\SV.oks F ca
 |.agg cs=>SV.oks F cs
 |.tup cs=>SV.oks F cs
 |.nptr _ ks e _ _ x _=>0<=x.I F/\0<ks.length/\∃(r len cap:Nat) (l:List U),e.den F=.bx (some ⟨r,0,none⟩) len cap l/\(x.I F).toNat<len
 |_=>True
def SV.oks(F:Env):List SV->Prop
 |[]=>True
 |v::vs=>v.ok F/\SV.oks F vs
end
def SV.undef:SV:=.tup []
structure Ent where
 k:SV
 v:SV
 born:E
 deriving Inhabited
inductive SObj where
 |gone
 |cells (cs:List SV) (af:E) (elem:TypeId)
 |flat (ks:List CK) (l n af:E) (elem:TypeId)
 |map (es:List Ent) (clk:E)
 |mapl (k:IntKind) (c:CK) (e:E)
 |maplp (k:IntKind) (c:CK) (e ke s:E)
 |iter (k:IntKind) (c:CK) (e left:E) (cur:Option E)
 |nest (ks:List CK) (l n af:E) (elem:TypeId)
 deriving Inhabited
structure Blk where
 own:Bool
 obj:SObj
 deriving Inhabited
structure St where
 nv:Nat
 nb:Nat
 heap:T Blk
 pc:List E
 deriving Inhabited
inductive Ex where
 |normal | exit (id:Nat) | ret
 deriving Inhabited
abbrev Tm:=T SV
structure Out where
 ex:Ex
 tmps:Tm
 st:St
 deriving Inhabited
noncomputable def E.scp(nv:Nat)(e:E):Bool:=
 E.rec (motive:=fun _=>Bool) (fun _=>true) (fun _=>true) (fun _=>true) (fun i=>Nat.blt i nv)
  (fun _ _ _ _ a b=>Bool.rec false b a) (fun _ _ _ a b=>Bool.rec false b a) (fun _ _ a b=>Bool.rec false b a) (fun _ _ a b=>Bool.rec false b a)
  (fun _ _ a=>a) (fun _ a=>a) (fun _ _ a b=>Bool.rec false b a) (fun _ _ a b=>Bool.rec false b a) (fun _ _ a b=>Bool.rec false b a) (fun _ _ a b=>Bool.rec false b a)
  (fun _ _ a=>a) (fun _ _ a b=>Bool.rec false b a) e
noncomputable def SV.scp(nv nb:Nat)(v:SV):Bool:=
 SV.rec (motive_1:=fun _=>Bool) (motive_2:=fun _=>Bool)
  (fun _ e=>e.scp nv) (fun e=>e.scp nv) (fun e=>e.scp nv) true (fun b o=>Bool.rec false (o.idx.scp nv) (Nat.blt b nb))
  true (fun b o l c=>Bool.rec false (Bool.rec false (Bool.rec false (c.scp nv) (l.scp nv)) (o.idx.scp nv)) (Nat.blt b nb))
  (fun b l c=>Bool.rec false (Bool.rec false (c.scp nv) (l.scp nv)) (Nat.blt b nb))
  (fun _ e=>e.scp nv) (fun _ e i _=>Bool.rec false (i.scp nv) (e.scp nv))
  true (fun b=>Nat.blt b nb) true true (fun _ _ _ a b=>Bool.rec false b a) (fun _ a=>a) (fun _ a=>a) true
  (fun b _ e i _=>Bool.rec false (Bool.rec false (i.scp nv) (e.scp nv)) (Nat.blt b nb)) (fun b _ e i _ x _=>Bool.rec false (Bool.rec false (Bool.rec false (x.scp nv) (i.scp nv)) (e.scp nv)) (Nat.blt b nb))
  true (fun _ _ a b=>Bool.rec false b a) v
noncomputable def SV.scps(nv nb:Nat)(l:List SV):Bool:=
 List.rec (motive:=fun _=>Bool) true (fun v _ b=>Bool.rec false b (v.scp nv nb)) l
def yD(nv nb:Nat):List Ent->Bool
 |[]=>true
 |x::es=>x.k.scp nv nb&&(x.v.scp nv nb&&(x.born.scp nv&&yD nv nb es))
def aGR(nv:Nat):Option E->Bool
 |none=>true
 |some e=>e.scp nv
def SObj.scp(nv nb:Nat):SObj->Bool
 |.gone=>true
 |.cells cs af _=>af.scp nv&&SV.scps nv nb cs
 |.flat _ l n af _=>l.scp nv&&(n.scp nv&&af.scp nv)
 |.map es clk=>yD nv nb es&&clk.scp nv
 |.mapl _ _ e=>e.scp nv
 |.maplp _ _ e ke s=>e.scp nv&&(ke.scp nv&&s.scp nv)
 |.iter _ _ e n cur=>e.scp nv&&(n.scp nv&&aGR nv cur)
 |.nest _ l n af _=>l.scp nv&&(n.scp nv&&af.scp nv)
def Bx(nv:Nat):List E->Bool
 |[]=>true
 |e::es=>e.scp nv&&Bx nv es
def Blk.scp(nv nb:Nat)(b:Blk):Bool:=b.obj.scp nv nb
def St.scp(st:St):Bool:=Bx st.nv st.pc&&T.all (Blk.scp st.nv st.nb) st.heap
def iV(nv nb:Nat)(t:Tm):Bool:=T.all (SV.scp nv nb) t
noncomputable def dm{G:Type}(l:List G):Nat->Option G:=
 List.rec (motive:=fun _=>Nat->Option G) (fun _=>none) (fun x _ g n=>Nat.rec (some x) (fun n _=>g n) n) l
noncomputable def lg{G:Type}(l:List G):Nat->Option (List G):=
 List.rec (motive:=fun _=>Nat->Option (List G)) (fun n=>Nat.rec (some []) (fun _ _=>none) n)
  (fun x _ g n=>Nat.rec (some []) (fun n _=>Option.rec none (fun l=>some (x::l)) (g n)) n) l
noncomputable def vA{G:Type}(l:List G):Nat->List G:=
 List.rec (motive:=fun _=>Nat->List G) (fun _=>[]) (fun x xs g n=>Nat.rec (x::xs) (fun n _=>g n) n) l
noncomputable def rl{G:Type}(cs:List G):List G->Option (List G):=
 List.rec (motive:=fun _=>List G->Option (List G)) (fun vs=>List.rec (some []) (fun _ _ _=>none) vs)
  (fun c cs g vs=>List.rec (some (c::cs)) (fun v vs _=>Option.rec none (fun l=>some (v::l)) (g vs)) vs) cs
noncomputable def mZ{G:Type}(cs:List G):Nat->List G->Option (List G):=
 List.rec (motive:=fun _=>Nat->List G->Option (List G)) (fun n vs=>Nat.rec (rl [] vs) (fun _ _=>none) n)
  (fun c cs g n vs=>Nat.rec (rl (c::cs) vs) (fun n _=>Option.rec none (fun l=>some (c::l)) (g n vs)) n) cs
def SV.cells:SV->List SV
 |.agg cs=>cs
 |v=>[v]
def SV.one:SV->Bool
 |.agg _ | .tup _ | .junk=>false
 |_=>true
def om:List SV->Bool
 |[]=>true
 |v::vs=>v.one&&om vs
mutual
def ofVal:Value->Option SV
 |.bool b=>some (.bool (.bool b))
 |.int k n=>some (.int k (.int n))
 |.string s=>some (.str (.str s))
 |.pointer none=>some .nilp
 |.slice none n c=>if Nat.beq n 0&&Nat.beq c 0 then some .nils else none
 |.map none=>some .nilm
 |.nilFunc=>some .nilf
 |.nilIface=>some .nili
 |.agg cs=>match ph cs.toList with | some l=>some (.agg l) | none=>none
 |_=>none
def ph:List Value->Option (List SV)
 |[]=>some []
 |v::vs=>match ofVal v,ph vs with | some x,some l=>some (x::l) | _,_=>none
end
end
end Go.SX

namespace Go.SX
noncomputable section
structure Tmpl where
 tmps:Tm
 st:St
 less:E
 deriving Inhabited
structure LoopX where
 n0:Nat
 b0:Nat
 xs:List Out
 deriving Inhabited
structure Ann where
 fn:FuncId
 key:Nat
 ts:List Tmpl
 known:Option LoopX:=none
 deriving Inhabited
inductive NatR where
 |no | lack (e:E) | outs (l:List (SV×St))
structure Nat1 where
 fn:FuncId
 eff:List E->List SV->St->NatR
structure Tab where
 ty:T TypeInfo
 fn:T Func
 facts:List E
 anns:List Ann
 nats:List Nat1
def Tab.und(tb:Tab)(t:TypeId):Option TypeDesc:=
 match tb.ty.get t with
 |some i=>match i.desc with
  |.named _ u=>match tb.ty.get u with
   |some j=>some j.desc
   |none=>none
  |d=>some d
 |none=>none
def qu(o:Off)(n:Nat):Off:=⟨Nat.add o.base n,o.scale,o.idx⟩
def zI(tb:Tab)(t:TypeId):Option (List Field):=
 match tb.und t with
 |some (.struct fs)=>some fs.toList
 |_=>none
def cj(tb:Tab)(t:TypeId):Option Nat:=
 match tb.ty.get t with
 |some i=>some i.size
 |none=>none
def jk(tb:Tab)(t:TypeId):Option Bool:=
 match tb.und t with
 |some (.struct _)=>some true
 |some (.array _ _)=>some true
 |some _=>some false
 |none=>none
def g9(tb:Tab)(t:TypeId):Option SV:=
 match tb.ty.get t with
 |some i=>match i.zero with
  |some v=>ofVal v
  |none=>none
 |none=>none
def l8(tb:Tab)(t:TypeId)(cs:List SV)(off:Nat):Option SV:=
 match jk tb t with
 |some true=>match cj tb t with
  |some n=>match lg (vA cs off) n with
   |some l=>some (.agg l)
   |none=>none
  |none=>none
 |some false=>dm cs off
 |none=>none
def yb(f:TypeId->SV->SV->Option E)(tb:Tab)(xs ys:List SV):List Field->Option E
 |[]=>some (.bool true)
 |fd::fds=>
  if fd.name == "_" then none else
  match l8 tb fd.type xs fd.offset,l8 tb fd.type ys fd.offset with
  |some x,some y=>match f fd.type x y,yb f tb xs ys fds with
   |some a,some b=>some (zf a b)
   |_,_=>none
  |_,_=>none
def yz(f:SV->SV->Option E)(tb:Tab)(elem:TypeId)(n:Nat)(xs ys:List SV):Nat->Nat->Option E
 |0,_=>some (.bool true)
 |k+1,i=>
  match l8 tb elem xs (Nat.mul i n),l8 tb elem ys (Nat.mul i n)with
  |some x,some y=>match f x y,yz f tb elem n xs ys k (Nat.succ i)with
   |some a,some b=>some (zf a b)
   |_,_=>none
  |_,_=>none
def Ao(a b:E):Option E:=
 match a,b with
 |.bool true,.bool y=>some (.bool y)
 |.bool false,.bool y=>some (.bool (!y))
 |.bool true,b=>some b
 |.bool false,b=>some (bc b)
 |a,.bool true=>some a
 |a,.bool false=>some (bc a)
 |a,b=>some (.iff a b)
def gR(P:Program)(tb:Tab):Nat->TypeId->SV->SV->Option E
 |0,_,_,_=>none
 |d+1,t,x,y=>
  match tb.und t,x,y with
  |some .bool,.bool a,.bool b=>Ao a b
  |some (.int _),.int k a,.int k' b=>if eM k k' then some (aD .eql a b)else none
  |some .string,.str a,.str b=>some (lR a b)
  |some (.pointer _),.nilp,.nilp=>some (.bool true)
  |some (.pointer _),.nilp,.ptr _ _=>some (.bool false)
  |some (.pointer _),.ptr _ _,.nilp=>some (.bool false)
  |some (.slice _),.nils,.nils=>some (.bool true)
  |some (.slice _),.nils,.slice _ _ _ _=>some (.bool false)
  |some (.slice _),.slice _ _ _ _,.nils=>some (.bool false)
  |some (.map _ _),.nilm,.nilm=>some (.bool true)
  |some (.map _ _),.nilm,.map _=>some (.bool false)
  |some (.map _ _),.map _,.nilm=>some (.bool false)
  |some (.func _ _ _),.nilf,.nilf=>some (.bool true)
  |some (.func _ _ _),.nilf,.func _ _ _=>some (.bool false)
  |some (.func _ _ _),.func _ _ _,.nilf=>some (.bool false)
  |some (.struct fs),.agg xs,.agg ys=>
   if P.stoodInHeld t then none else yb (gR P tb d) tb xs ys fs.toList
  |some (.array len elem),.agg xs,.agg ys=>
   match cj tb elem with
   |some n=>yz (gR P tb d elem) tb elem n xs ys len 0
   |none=>none
  |_,_,_=>none
def ads:SV->Bool
 |.agg _=>true
 |_=>false
def kl(P:Program)(tb:Tab)(t:TypeId)(x y:SV):Option E:=
 if ads x then(if P.eqGuardType P.depth t then none else gR P tb 40 t x y)else gR P tb 40 t x y
def XQ:E->Bool
 |.int n=>!(iE n 0)
 |_=>false
def jw(P:Program)(tb:Tab)(op:BinOp)(t:TypeId)(x y:SV):Option SV:=
 match x,y with
 |.int k a,.int k' b=>
  match op with
  |.shl | .shr=>match b with
   |.int (.ofNat _)=>some (.int k (iC op k a b))
   |_=>none
  |.add | .sub | .mul | .and | .or | .xor | .andNot=>if eM k k' then some (.int k (iC op k a b))else none
  |.quo | .rem=>if eM k k'&&XQ b then some (.int k (iC op k a b))else none
  |_=>if eM k k' then some (.bool (aD op a b))else none
 |.str a,.str b=>
  match op with
  |.eql=>some (.bool (lR a b))
  |.neq=>some (.bool (bc (lR a b)))
  |_=>none
 |x,y=>
  match op with
  |.eql=>match kl P tb t x y with | some e=>some (.bool e) | none=>none
  |.neq=>match kl P tb t x y with | some e=>some (.bool (bc e)) | none=>none
  |_=>none
def BI(op:UnOp)(x:SV):Option SV:=
 match op,x with
 |.neg,.int k a=>some (.int k (iC .sub k (.int 0) a))
 |.xor,.int k a=>some (.int k (iC .xor k (.int (match k.signed with | true=>-1 | false=>k.max)) a))
 |.not,.bool a=>some (.bool (bc a))
 |_,_=>none
def BF(tb:Tab)(src dst:TypeId)(x:SV):Option SV:=
 match tb.und src,tb.und dst,x with
 |some _,some (.int k),.int _ a=>some (.int k (rh k a))
 |some .string,some .string,.str e=>some (.str e)
 |_,_,_=>none
def dW:E->Option Nat
 |.int (.ofNat n)=>some n
 |_=>none
def Eh(tb:Tab)(s:TypeId)(x:SV)(f:Nat):Option SV:=
 match zI tb s,x with
 |some fs,.ptr b o=>match dm fs f with
  |some fd=>match cj tb fd.type with
   |some n=>if Nat.beq n 0 then none else some (.ptr b (qu o fd.offset))
   |none=>none
  |none=>none
 |some fs,.bptr ks e i j=>match dm fs f with
  |some fd=>match cj tb fd.type with
   |some n=>if Nat.beq n 0 then none else some (.bptr ks e i (Nat.add j fd.offset))
   |none=>none
  |none=>none
 |some fs,.nptr b ks e i c x j=>match dm fs f with
  |some fd=>match cj tb fd.type with
   |some n=>if Nat.beq n 0 then none else some (.nptr b ks e i c x (Nat.add j fd.offset))
   |none=>none
  |none=>none
 |_,_=>none
def DD(tb:Tab)(s:TypeId)(x:SV)(f:Nat):Option SV:=
 match zI tb s,x with
 |some fs,.agg cs=>match dm fs f with
  |some fd=>l8 tb fd.type cs fd.offset
  |none=>none
 |_,_=>none
def oF(tb:Tab)(t:TypeId)(x i:SV):Option SV:=
 match i with
 |.int _ (.int (.ofNat n))=>
  match tb.und t,x with
  |some (.array len elem),.ptr b o=>
   if Nat.blt n len then match cj tb elem with
    |some sz=>some (.ptr b (qu o (Nat.mul n sz)))
    |none=>none
   else none
  |some (.slice elem),.slice b o (.int (.ofNat l)) _=>
   if Nat.blt n l then match cj tb elem with
    |some sz=>some (.ptr b (qu o (Nat.mul n sz)))
    |none=>none
   else none
  |_,_=>none
 |_=>none
def uD(tb:Tab)(t:TypeId)(x i:SV):Option SV:=
 match i with
 |.int _ (.int (.ofNat n))=>
  match tb.und t,x with
  |some (.array len elem),.agg cs=>
   if Nat.blt n len then match cj tb elem with
    |some sz=>l8 tb elem cs (Nat.mul n sz)
    |none=>none
   else none
  |some .string,.str (.str s)=>
   match s[n]? with
   |some b=>some (.int .u8 (.int b.toNat))
   |none=>none
  |_,_=>none
 |_=>none
def Bz(x:SV)(i:Nat):Option SV:=
 match x with
 |.tup vs=>dm vs i
 |_=>none
def ll(place:Nat->Option (Nat×Nat))(cells:List SV):List (Nat×SV)->Option (List SV)
 |[]=>some cells
 |(i,v)::bA=>
  match place i with
  |none=>none
  |some (off,size)=>
   if Nat.beq v.cells.length size then
    match mZ cells off v.cells with
    |some cs=>ll place cs bA
    |none=>none
   else none
def mJ(ev:Operand->Option SV):List (Nat×Operand)->Option (List (Nat×SV))
 |[]=>some []
 |(i,x)::bA=>match ev x,mJ ev bA with
  |some v,some l=>some ((i,v)::l)
  |_,_=>none
def i0(ev:Operand->Option SV):List Operand->Option (List SV)
 |[]=>some []
 |x::bA=>match ev x,i0 ev bA with
  |some v,some l=>some (v::l)
  |_,_=>none
def yH(tb:Tab):List Field->Option (List (Nat×Nat))
 |[]=>some []
 |f::fs=>match cj tb f.type,yH tb fs with
  |some n,some l=>some ((f.offset,n)::l)
  |_,_=>none
def yG(tb:Tab)(t:TypeId)(parts:List (Nat×SV)):Option SV:=
 match g9 tb t with
 |some z=>
  match tb.und t with
  |some (.struct fs)=>match yH tb fs.toList with
   |some ps=>match ll (dm ps) z.cells parts with
    |some cs=>some (.agg cs)
    |none=>none
   |none=>none
  |some (.array _ elem)=>match cj tb elem with
   |some sz=>match ll (fun i=>some (Nat.mul i sz,sz)) z.cells parts with
    |some cs=>some (.agg cs)
    |none=>none
   |none=>none
  |_=>none
 |none=>none
def EJ(tb:Tab)(t:TypeId)(x:SV):Option SV:=
 match tb.und t,x with
 |some .string,.str (.str s)=>some (.int .i64 (.int s.size))
 |some (.array n _),_=>some (.int .i64 (.int n))
 |some (.slice _),.nils=>some (.int .i64 (.int 0))
 |some (.slice _),.slice _ _ l _=>match dW l with | some n=>some (.int .i64 (.int n)) | none=>none
 |some (.map _ _),.nilm=>some (.int .i64 (.int 0))
 |_,_=>none
def A0(tb:Tab)(t:TypeId)(x:SV):Option SV:=
 match tb.und t,x with
 |some (.array n _),_=>some (.int .i64 (.int n))
 |some (.slice _),.nils=>some (.int .i64 (.int 0))
 |some (.slice _),.slice _ _ _ c=>match dW c with | some n=>some (.int .i64 (.int n)) | none=>none
 |_,_=>none
def oM(mx:Bool)(k:IntKind):List SV->E->Option SV
 |[],a=>some (.int k a)
 |v::vs,a=>match v with
  |.int k' b=>match eM k k' with
   |true=>oM mx k vs (match mx with | true=>mh a b | false=>qR a b)
   |false=>none
  |_=>none
def sx(mx:Bool):List SV->Option SV
 |.int k a::v::vs=>oM mx k (v::vs) a
 |_=>none
def rZ(x:Option SV)(dflt y:Nat):Option Nat:=
 match x with
 |none=>some dflt
 |some (.int _ (.int (.ofNat n)))=>if Nat.ble n y then some n else none
 |some _=>none
def xy(len cap:Nat)(lo hi mx:Option SV):Option (Nat×Nat×Nat):=
 match mx,hi with
 |some _,none=>none
 |_,_=>
  match rZ mx cap cap with
  |some m=>match rZ hi len m with
   |some h=>match rZ lo 0 h with
    |some l=>if Nat.ble h m then some (l,h,m)else none
    |none=>none
   |none=>none
  |none=>none
def Am(o:Off)(m l sz:Nat):Off:=match Nat.beq m l with | true=>o | false=>qu o (Nat.mul l sz)
def EG(tb:Tab)(t:TypeId)(x:SV)(lo hi mx:Option SV):Option SV:=
 match tb.und t,x with
 |some (.slice elem),.slice b o (.int (.ofNat len)) (.int (.ofNat cap))=>
  match xy len cap lo hi mx,cj tb elem with
  |some (l,h,m),some sz=>some (.slice b (Am o m l sz) (.int (.ofNat (Nat.sub h l))) (.int (.ofNat (Nat.sub m l))))
  |_,_=>none
 |some (.slice elem),.nils=>
  match xy 0 0 lo hi mx,cj tb elem with
  |some _,some _=>some .nils
  |_,_=>none
 |some (.array n elem),.ptr b o=>
  match xy n n lo hi mx,cj tb elem with
  |some (l,h,m),some sz=>some (.slice b (Am o m l sz) (.int (.ofNat (Nat.sub h l))) (.int (.ofNat (Nat.sub m l))))
  |_,_=>none
 |_,_=>none
def pK(ev:Operand->Option SV):Option Operand->Option (Option SV)
 |none=>some none
 |some x=>match ev x with | some v=>some (some v) | none=>none
def Cn(P:Program)(tb:Tab)(ev:Operand->Option SV)(c:Operand)(a:Operand)(b:Operand):Option SV:=
 match ev c with
  |some (.bool (.bool true))=>ev a
  |some (.bool (.bool false))=>ev b
  |_=>none
def CO(P:Program)(tb:Tab)(ev:Operand->Option SV)(x:Operand):Option SV:=
 match ev x with
  |some (.ptr b o)=>some (.ptr b o)
  |some (.bptr ks e i j)=>some (.bptr ks e i j)
  |some (.nptr b ks e i c x j)=>some (.nptr b ks e i c x j)
  |_=>none
def AV(P:Program)(tb:Tab)(ev:Operand->Option SV)(op:BinOp)(t:TypeId)(x:Operand)(y:Operand):Option SV:=
 match ev x,ev y with
  |some vx,some vy=>jw P tb op t vx vy
  |_,_=>none
def BL(P:Program)(tb:Tab)(ev:Operand->Option SV)(op:UnOp)(x:Operand):Option SV:=
 match ev x with
  |some v=>BI op v
  |none=>none
def CM(P:Program)(tb:Tab)(ev:Operand->Option SV)(src:TypeId)(dst:TypeId)(x:Operand):Option SV:=
 match ev x with
  |some v=>BF tb src dst v
  |none=>none
def A8(P:Program)(tb:Tab)(ev:Operand->Option SV)(s:TypeId)(x:Operand)(f:Nat):Option SV:=
 match ev x with
  |some v=>Eh tb s v f
  |none=>none
def DJ(P:Program)(tb:Tab)(ev:Operand->Option SV)(s:TypeId)(x:Operand)(f:Nat):Option SV:=
 match ev x with
  |some v=>DD tb s v f
  |none=>none
def Fu(P:Program)(tb:Tab)(ev:Operand->Option SV)(t:TypeId)(x:Operand)(i:Operand):Option SV:=
 match ev x,ev i with
  |some v,some w=>oF tb t v w
  |_,_=>none
def Eo(P:Program)(tb:Tab)(ev:Operand->Option SV)(t:TypeId)(x:Operand)(i:Operand):Option SV:=
 match ev x,ev i with
  |some v,some w=>uD tb t v w
  |_,_=>none
def Fq(P:Program)(tb:Tab)(ev:Operand->Option SV)(x:Operand)(i:Nat):Option SV:=
 match ev x with
  |some v=>Bz v i
  |none=>none
def Fb(P:Program)(tb:Tab)(ev:Operand->Option SV)(t:TypeId)(parts:Array (Nat×Operand)):Option SV:=
 match mJ ev parts.toList with
  |some ps=>yG tb t ps
  |none=>none
def zR(P:Program)(tb:Tab)(ev:Operand->Option SV)(fn:Fn)(fi:Array Operand)(ca:Array Operand):Option SV:=
 match i0 ev fi.toList,i0 ev ca.toList with
  |some a,some b=>some (.func fn a b)
  |_,_=>none
def EL(P:Program)(tb:Tab)(ev:Operand->Option SV)(t:TypeId)(x:Operand)(lo:Option Operand)(hi:Option Operand)(mx:Option Operand):Option SV:=
 match ev x,pK ev lo,pK ev hi,pK ev mx with
  |some v,some l,some h,some m=>EG tb t v l h m
  |_,_,_,_=>none
def Eb(P:Program)(tb:Tab)(ev:Operand->Option SV)(c:Call):Option SV:=
 match c.callee with
  |.builtin b=>match i0 ev c.args.toList with
   |some vs=>match b with
    |.len=>match dm c.argTypes.toList 0,dm vs 0 with
     |some t,some v=>EJ tb t v
     |_,_=>none
    |.cap=>match dm c.argTypes.toList 0,dm vs 0 with
     |some t,some v=>A0 tb t v
     |_,_=>none
    |.min=>sx false vs
    |.max=>sx true vs
    |_=>none
   |none=>none
  |_=>none
noncomputable def rG(P:Program)(tb:Tab)(ev:Operand->Option SV)(o:Op):Option SV:=
 Op.rec (motive:=fun _=>Option SV)
  (fun x=>ev x)
  (fun x=>ev x)
  (fun c a b=>Cn P tb ev c a b)
  (fun _=>none)
  (fun _ _=>none)
  (fun t parts=>Fb P tb ev t parts)
  (fun _ _ _=>none)
  (fun _ _ _ _=>none)
  (fun _ _=>none)
  (fun _ _ _=>none)
  (fun _=>none)
  (fun _=>none)
  (fun x=>CO P tb ev x)
  (fun op t x y _=>AV P tb ev op t x y)
  (fun op _ x=>BL P tb ev op x)
  (fun src dst x=>CM P tb ev src dst x)
  (fun _ _=>none)
  (fun _ _=>none)
  (fun fn fi ca=>zR P tb ev fn fi ca)
  (fun _ _=>none)
  (fun _ _=>none)
  (fun _ _ _=>none)
  (fun t x lo hi mx=>EL P tb ev t x lo hi mx)
  (fun s x f=>A8 P tb ev s x f)
  (fun s x f=>DJ P tb ev s x f)
  (fun t x i=>Fu P tb ev t x i)
  (fun t x i=>Eo P tb ev t x i)
  (fun _ _ _ _=>none)
  (fun _ _ _ _=>none)
  (fun _ _ _=>none)
  (fun _ _ _ _=>none)
  (fun _ _=>none)
  (fun _ _=>none)
  (fun _=>none)
  (fun _ _ _ _=>none)
  (fun x i=>Fq P tb ev x i)
  (fun c=>Eb P tb ev c)
  (fun _=>none)
  (fun _=>none)
  (fun _=>none)
  (fun _ _=>none)
  (fun _ _ _=>none)
  (fun _ _=>none)
  o
theorem adD(P:Program)(tb:Tab)(ev:Operand->Option SV)(o:Op):rG P tb ev o=(match o with
 |.move x=>ev x
 |.assign x=>ev x
 |.pick c a b=>Cn P tb ev c a b
 |.nilCheck x=>CO P tb ev x
 |.binOp op t x y _=>AV P tb ev op t x y
 |.unOp op _ x=>BL P tb ev op x
 |.convert src dst x=>CM P tb ev src dst x
 |.fieldAddr s x f=>A8 P tb ev s x f
 |.field s x f=>DJ P tb ev s x f
 |.indexAddr t x i=>Fu P tb ev t x i
 |.index t x i=>Eo P tb ev t x i
 |.extract x i=>Fq P tb ev x i
 |.build t parts=>Fb P tb ev t parts
 |.makeFunc fn fi ca=>zR P tb ev fn fi ca
 |.slice t x lo hi mx=>EL P tb ev t x lo hi mx
 |.call c=>Eb P tb ev c
 |_=>none):=by cases o<;>rfl
def yk(e:E):List E->Bool
 |[]=>false
 |x::xs=>match x.beq e with | true=>true | false=>yk e xs
def pt(e:E)(l:List E):Bool:=eZ (kq e) fun c=>yk e (DI c l)
def afG:E->Bool
 |.and _ _=>true
 |_=>false
def S7(pc:List E)(a:E):Bool:=match afG a with | true=>pt a pc | false=>false
def ro(pc:List E):E->Bool
 |.and a b=>match S7 pc a with
  |true=>ro pc b
  |false=>match ro pc a with | true=>ro pc b | false=>false
 |e=>pt e pc
def q8(pc:List E)(e:E):List E->Bool
 |[]=>false
 |x::xs=>match x with
  |.imp p c=>match c.beq e with
   |true=>match ro pc p with
    |true=>true
    |false=>q8 pc e xs
   |false=>q8 pc e xs
  |_=>match x.beq e with
   |true=>true
   |false=>q8 pc e xs
def u5(pc:List E)(e:E)(l:List E):Bool:=eZ (kq e) fun n=>q8 pc e (Du n l)
def vW(a:Option Int)(b:Int):Option Int:=
 match a with
 |some x=>some (kG x b)
 |none=>some b
def wx(a:Option Int)(b:Int):Option Int:=
 match a with
 |some x=>some (nJ x b)
 |none=>some b
def l3(c:E):List E->Option Int->Option Int
 |[],r=>r
 |e::es,r=>match e with
  |.not (.cmp .lss a (.int k))=>match (cZ a).beq c with
   |true=>l3 c es (vW r (k-eH a))
   |false=>l3 c es r
  |.cmp .lss (.int k) a=>match (cZ a).beq c with
   |true=>l3 c es (vW r (k+1-eH a))
   |false=>l3 c es r
  |.cmp .eql a (.int k)=>match (cZ a).beq c with
   |true=>l3 c es (vW r (k-eH a))
   |false=>l3 c es r
  |_=>l3 c es r
def lG(c:E):List E->Option Int->Option Int
 |[],r=>r
 |e::es,r=>match e with
  |.not (.cmp .lss (.int k) a)=>match (cZ a).beq c with
   |true=>lG c es (wx r (k-eH a))
   |false=>lG c es r
  |.cmp .lss a (.int k)=>match (cZ a).beq c with
   |true=>lG c es (wx r (k-1-eH a))
   |false=>lG c es r
  |.cmp .eql a (.int k)=>match (cZ a).beq c with
   |true=>lG c es (wx r (k-eH a))
   |false=>lG c es r
  |_=>lG c es r
def yT:E->Bool
 |.fn f _=>match f with
  |0=>true
  |9=>true
  |13=>true
  |22=>true
  |26=>true
  |29=>true
  |_=>false
 |_=>false
def qF(c:E)(k:Int):List E->Bool
 |[]=>false
 |e::es=>match e with
  |.not (.cmp .eql a (.int j))=>match (cZ a).beq c&&iE (j-eH a) k with
   |true=>true
   |false=>qF c k es
  |_=>qF c k es
def Ar(pc:List E)(c:E):Nat->Int->Int
 |0,k=>k
 |n+1,k=>match qF c k pc with
  |true=>Ar pc c n (k+1)
  |false=>k
def Ey(pc:List E)(c:E):Nat->Int->Int
 |0,k=>k
 |n+1,k=>match qF c k pc with
  |true=>Ey pc c n (k-1)
  |false=>k
def Jv(c:E)(pc:List E):Option Int:=
 match l3 c pc (match yT c with | true=>some 0 | false=>none)with
 |some k=>some (Ar pc c 4 k)
 |none=>none
def LS(c:E)(pc:List E):Option Int:=
 match lG c pc none with
 |some k=>some (Ey pc c 4 k)
 |none=>none
def qa(pc:List E)(c:E):Option Int:=eZ (kq c) fun n=>Jv c (ye n pc)
def lj(pc:List E)(c:E):Option Int:=eZ (kq c) fun n=>LS c (ye n pc)
def leI(a b:Int):Bool:=bZ .leq a b
def pA(a b:Int):Bool:=bZ .lss a b
def AH(pc:List E)(e:E):Option Bool:=
 match e with
 |.cmp .lss a (.int k)=>match qa pc (cZ a)with
  |some x=>match leI k (x+eH a)with
   |true=>some false
   |false=>match lj pc (cZ a)with
    |some y=>match pA (y+eH a) k with
     |true=>some true
     |false=>none
    |none=>none
  |none=>match lj pc (cZ a)with
   |some y=>match pA (y+eH a) k with
    |true=>some true
    |false=>none
   |none=>none
 |.cmp .lss (.int k) a=>match qa pc (cZ a)with
  |some x=>match pA k (x+eH a)with
   |true=>some true
   |false=>match lj pc (cZ a)with
    |some y=>match leI (y+eH a) k with
     |true=>some false
     |false=>none
    |none=>none
  |none=>match lj pc (cZ a)with
   |some y=>match leI (y+eH a) k with
    |true=>some false
    |false=>none
   |none=>none
 |.cmp .eql a (.int k)=>match qa pc (cZ a)with
  |some x=>match pA k (x+eH a)with
   |true=>some false
   |false=>match lj pc (cZ a)with
    |some y=>match pA (y+eH a) k with
     |true=>some false
     |false=>match iE (x+eH a) k&&iE (y+eH a) k with
      |true=>some true
      |false=>none
    |none=>none
  |none=>match lj pc (cZ a)with
   |some y=>match pA (y+eH a) k with
    |true=>some false
    |false=>none
   |none=>none
 |_=>none
def abk:Option Bool->Option Bool
 |some b=>some (!b)
 |none=>none
def JP(fs pc:List E)(e:E):Option Bool:=
 match u5 pc e pc with
  |true=>some true
  |false=>match u5 pc (bc e) pc with
   |true=>some false
   |false=>match u5 pc e fs with
    |true=>some true
    |false=>match u5 pc (bc e) fs with
     |true=>some false
     |false=>match e with
      |.not x=>abk (AH pc x)
      |_=>AH pc e
noncomputable def auY(e:E):Option Bool:=E.rec (motive:=fun _=>Option Bool) (fun _=>none) some (fun _=>none) (fun _=>none) (fun _ _ _ _ _ _=>none) (fun _ _ _ _ _=>none) (fun _ _ _ _=>none) (fun _ _ _ _=>none) (fun _ _ _=>none) (fun _ _=>none) (fun _ _ _ _=>none) (fun _ _ _ _=>none) (fun _ _ _ _=>none) (fun _ _ _ _=>none) (fun _ _ _=>none) (fun _ _ _ _=>none) e
noncomputable def dR(fs pc:List E)(e:E):Option Bool:=Option.rec (motive:=fun _=>Option Bool) (JP fs pc e) some (auY e)
theorem ahE(fs pc:List E)(e:E):dR fs pc e=(match e with
 |.bool b=>some b
 |_=>JP fs pc e):=by cases e<;>rfl
def jV(fs pc:List E)(a b:E):Bool:=
 match dR fs pc (aD .lss a b)with
 |some true=>true
 |_=>false
def oZ(fs pc:List E)(a b:E):Bool:=
 match dR fs pc (aD .lss a b)with
 |some false=>true
 |_=>false
def dp(fs pc:List E)(e:E):Bool:=
 match yT e with
 |true=>true
 |false=>oZ fs pc e (.int 0)
inductive Rz where
 |lit (j:Nat)
 |ask (e:E)
 |lack (e:E)
def xJ(fs pc:List E)(i:E):Nat->Nat->Rz
 |0,_=>.lack (.bool false)
 |n+1,j=>match dR fs pc (aD .eql i (.int (.ofNat j)))with
  |some true=>.lit j
  |some false=>xJ fs pc i n (Nat.succ j)
  |none=>.ask (aD .eql i (.int (.ofNat j)))
def gn(o:Off):Option Nat:=match o.scale with | 0=>some o.base | _=>none
def tw(tb:Tab)(st:St)(t:TypeId)(x:SV):Option SV:=
 match x with
 |.ptr b o=>match st.heap.get b with
  |some ⟨_,.cells cs _ _⟩=>match gn o with
   |some n=>match jk tb t with
    |some true=>match cj tb t with
     |some sz=>match lg (vA cs n) sz with
      |some l=>some (.agg l)
      |none=>none
     |none=>none
    |some false=>dm cs n
    |none=>none
   |none=>none
  |_=>none
 |_=>none
def By(tb:Tab)(st:St)(t:TypeId)(x v:SV):Option St:=
 match x with
 |.ptr b o=>match st.heap.get b with
  |some ⟨true,.cells cs af elem⟩=>match gn o with
   |some n=>match cj tb t with
    | some sz=>if Nat.beq v.cells.length sz&&om v.cells then
      match mZ cs n v.cells with
      |some cs'=>T.setK st.heap b ⟨true,.cells cs' af elem⟩ fun h=>some {st with heap:=h}
      |none=>none
     else none
    |none=>none
   |none=>none
  |_=>none
 |_=>none
def pB(tmps:Tm)(st:St)(elem:TypeId)(cs:List SV):Option (SV×St):=
 if st.scp&&iV st.nv st.nb tmps&&SV.scps st.nv st.nb cs then
  T.insK st.heap st.nb ⟨true,.cells cs (.int (.ofNat cs.length)) elem⟩ fun h=>some (.ptr st.nb ⟨0,0,.int 0⟩,{st with nb:=Nat.succ st.nb,heap:=h})
 else none
def gD(z:List SV):Nat->List SV
 |0=>[]
 |n+1=>z++gD z n
inductive EffR where
 |val (v:SV) (st:St)
 |skip (st:St)
 |ask (e:E)
 |lack (e:E)
 |bad
def EffR.ofVal:Option SV->St->EffR
 |some v,st=>.val v st
 |none,_=>.bad
def EffR.ofPair:Option (SV×St)->EffR
 |some (v,st)=>.val v st
 |none=>.bad
noncomputable def isJunk(v:SV):Bool:=
 SV.rec (motive_1:=fun _=>Bool) (motive_2:=fun _=>Bool) (fun _ _=>false) (fun _=>false) (fun _=>false) false (fun _ _=>false) false (fun _ _ _ _=>false)
  (fun _ _ _=>false) (fun _ _=>false) (fun _ _ _ _=>false) false (fun _=>false) false false (fun _ _ _ _ _=>false) (fun _ _=>false) (fun _ _=>false) true
  (fun _ _ _ _ _=>false) (fun _ _ _ _ _ _ _=>false)
  false (fun _ _ _ _=>false) v
noncomputable def aFJ(v:SV):Option SV:=Bool.rec (some v) none (isJunk v)
noncomputable def Qh(x:Option SV):Option SV:=Option.rec (motive:=fun _=>Option SV) (some .undef) aFJ x
noncomputable def bq(tmps:Tm)(x:Operand):Option SV:=
 Operand.rec (motive:=fun _=>Option SV) (fun t=>Qh (tmps.get t)) ofVal (fun _=>none) (fun f=>some (.func (.func f) [] [])) x
theorem aeu(tmps:Tm)(t:Tmp):bq tmps (.tmp t)=(match tmps.get t with
  |some v=>match v with
   |.junk=>none
   |_=>some v
  |none=>some .undef):=by
 show Qh (tmps.get t)=_;cases tmps.get t with
 |none=>rfl
 |some v=>cases v<;>rfl
theorem Ym(tmps:Tm)(g:Nat):bq tmps (.global g)=none:=rfl
theorem Qm(tmps:Tm)(f:FuncId):bq tmps (.func f)=some (.func (.func f) [] []):=rfl
def aN{G:Type}:List G->Nat
 |[]=>0
 |_::xs=>Nat.succ (aN xs)
def gz(w:Nat)(e:E):E:=
 match e with
 |.fn 24 (.pr _ (.pr l (.pr h _)))=>match l with
  |.int (.ofNat 0)=>h
  |_=>.fn 29 (.pr h l)
 |.fn 28 (.pr (.pr _ n) _)=>n
 |.fn 30 _=>.int 0
 |e=>match w with | 1=>gU e | _=>.fn 9 (.pr e (.int (.ofNat w)))
def oX(e:E):E:=
 match e with
 |.fn 24 (.pr _ (.pr l (.pr _ m)))=>match l with
  |.int (.ofNat 0)=>m
  |_=>.fn 29 (.pr m l)
 |.fn 30 _=>.int 0
 |e=>.fn 22 e
def dx(w:Nat)(idx:E)(j:Nat):E:=
 match w with
 |1=>idx
 |_=>match idx with
  |.int n=>.int (n * .ofNat w + .ofNat j)
  |_=>.fn 6 (.pr (.fn 8 (.pr idx (.int (.ofNat w)))) (.int (.ofNat j)))
def gW(fs pc:List E):E->E->E
 |.fn 2 (.pr l' (.pr j v)),i=>match i.beq j with
  |true=>v
  |false=>match i,j with
   |.int (.ofNat _),.int (.ofNat _)=>gW fs pc l' i
   |_,_=>match dR fs pc (aD .eql i j)with
    |some true=>match oZ fs pc j (.int 0)with
     |true=>v
     |false=>.fn 1 (.pr (.fn 2 (.pr l' (.pr j v))) i)
    |some false=>match oZ fs pc j (.int 0)with
     |true=>gW fs pc l' i
     |false=>.fn 1 (.pr (.fn 2 (.pr l' (.pr j v))) i)
    |none=>.fn 1 (.pr (.fn 2 (.pr l' (.pr j v))) i)
 |.fn 3 (.pr a b),i=>match jV fs pc i (gU a)with
  |true=>gW fs pc a i
  |false=>match oZ fs pc i (gU a)with
   |true=>gW fs pc b (jf i (gU a))
   |false=>.fn 1 (.pr (.fn 3 (.pr a b)) i)
 |.fn 23 (.pr x r),i=>match i with
  |.int (.ofNat n)=>match n with
   |0=>x
   |n+1=>gW fs pc r (.int (.ofNat n))
  |_=>.fn 1 (.pr (.fn 23 (.pr x r)) i)
 |.fn 5 (.pr n x),i=>x
 |.fn 11 x,i=>x
 |.fn 21 (.pr r c),i=>gW fs pc c i
 |.fn 28 (.pr r c),i=>gW fs pc c i
 |.fn 24 (.pr (.pr (.int (.ofNat 1)) e) (.pr l m)),i=>match oZ fs pc l (.int 0)with
  |true=>gW fs pc e (cR l i)
  |false=>.fn 1 (.pr (.fn 24 (.pr (.pr (.int (.ofNat 1)) e) (.pr l m))) i)
 |l,i=>.fn 1 (.pr l i)
inductive FA where
 |at (idx:E) (j:Nat)
 |lack (e:E)
 |bad
def Dv(fs pc:List E)(n idx:E)(j:Nat):FA:=
 match jV fs pc idx n with
 |true=>.at idx j
 |false=>.lack (aD .lss idx n)
def oq(fs pc:List E)(w:Nat)(n:E)(o:Off):FA:=
 match w with
 |0=>.bad
 |_=>match o.scale with
  |0=>Dv fs pc n (.int (.ofNat (Nat.div o.base w))) (Nat.mod o.base w)
  |s=>match Nat.beq s w with
   |true=>match dp fs pc o.idx with
    |true=>Dv fs pc n (cR o.idx (.int (.ofNat (Nat.div o.base w)))) (Nat.mod o.base w)
    |false=>.lack (bc (aD .lss o.idx (.int 0)))
   |false=>.bad
def lL(c:CK)(e:E):SV:=
 match c with
 |.int k=>.int k e
 |.bool=>.bool e
 |.str=>.str e
 |.slc ks=>.bsl ks e
def uV(fs pc:List E)(ks:List CK)(w:Nat)(l idx:E):Nat->Nat->Option (List SV)
 |0,_=>some []
 |n+1,j=>match dm ks j with
  |some c=>match uV fs pc ks w l idx n (Nat.succ j)with
   |some vs=>some (lL c (gW fs pc l (dx w idx j))::vs)
   |none=>none
  |none=>none
def rQ(tb:Tab)(st:St)(t:TypeId)(ks:List CK)(l idx:E)(j:Nat):EffR:=
 match jk tb t with
 |some true=>match cj tb t with
  |some sz=>match uV tb.facts st.pc ks (aN ks) l idx sz j with
   |some vs=>.val (.agg vs) st
   |none=>.bad
  |none=>.bad
 |some false=>match uV tb.facts st.pc ks (aN ks) l idx 1 j with
  |some vs=>match vs with
   |[v]=>.val v st
   |_=>.bad
  |none=>.bad
 |none=>.bad
def kW:E->E
 |.fn 21 (.pr x _)=>kW x
 |e=>e
def uC(e:E):E:=match e with
 |.fn 21 (.pr _ c)=>c
 |.fn 28 (.pr _ c)=>c
 |e=>e
def wb(b:Nat)(c:CK)(e idx:E)(j:Nat):SV:=
 match c with
 |.int k=>.int k e
 |.bool=>.bool e
 |.str=>.str e
 |.slc ks=>.nsl b ks e idx j
def u6(fs pc:List E)(b:Nat)(ks:List CK)(w:Nat)(l idx:E):Nat->Nat->Option (List SV)
 |0,_=>some []
 |n+1,j=>match dm ks j with
  |some c=>match u6 fs pc b ks w l idx n (Nat.succ j)with
   |some vs=>some (wb b c (gW fs pc l (dx w idx j)) idx j::vs)
   |none=>none
  |none=>none
def yu(tb:Tab)(st:St)(t:TypeId)(b:Nat)(ks:List CK)(l idx:E)(j:Nat):EffR:=
 match jk tb t with
 |some true=>match cj tb t with
  |some sz=>match u6 tb.facts st.pc b ks (aN ks) l idx sz j with
   |some vs=>.val (.agg vs) st
   |none=>.bad
  |none=>.bad
 |some false=>match u6 tb.facts st.pc b ks (aN ks) l idx 1 j with
  |some vs=>match vs with
   |[v]=>.val v st
   |_=>.bad
  |none=>.bad
 |none=>.bad
inductive NA where
 |at (cur p:E)
 |lack (e:E)
 |bad
def Yu(e cur p:E):NA:=match (kW cur).beq (kW e)with | true=>.at cur p | false=>.bad
def q9(fs pc:List E)(h:T Blk)(b:Nat)(ks:List CK)(e idx:E)(c:Nat):NA:=
 match h.get b with
 |some ⟨true,.nest ks0 l n _ _⟩=>match dm ks0 c with
  |some (.slc ks')=>match ft ks ks' with
   |true=>match dp fs pc idx with
    |true=>match jV fs pc idx n with
     |true=>Yu e (gW fs pc l (dx (aN ks0) idx c)) (dx (aN ks0) idx c)
     |false=>.lack (aD .lss idx n)
    |false=>.lack (bc (aD .lss idx (.int 0)))
   |false=>.bad
  |_=>.bad
 |_=>.bad
def yQ(tb:Tab)(st:St)(t:TypeId)(x:SV):EffR:=
 match x with
 |.ptr b o=>match st.heap.get b with
  |some ⟨_,.flat ks l n _ _⟩=>match oq tb.facts st.pc (aN ks) n o with
   |.at idx j=>rQ tb st t ks l idx j
   |.lack e=>.lack e
   |.bad=>.bad
  |some ⟨_,.nest ks l n _ _⟩=>match oq tb.facts st.pc (aN ks) n o with
   |.at idx j=>yu tb st t b ks l idx j
   |.lack e=>.lack e
   |.bad=>.bad
  |_=>.bad
 |.bptr ks e idx j=>rQ tb st t ks e idx j
 |.nptr b ks e idx c x j=>match q9 tb.facts st.pc st.heap b ks e idx c with
  |.at cur _=>rQ tb st t ks cur x j
  |.lack e=>.lack e
  |.bad=>.bad
 |_=>.bad
def jF(c:CK)(v:SV):Option E:=
 match c,v with
 |.int k,.int k' e=>match eM k k' with | true=>some e | false=>none
 |.bool,.bool e=>some e
 |.str,.str e=>some e
 |.slc ks,.bsl ks' e=>match ft ks ks' with | true=>some e | false=>none
 |.slc _,.nils=>some (.fn 30 (.int 0))
 |_,_=>none
def putCells(ks:List CK)(w:Nat)(idx:E):List SV->Nat->E->Option E
 |[],_,l=>some l
 |v::vs,j,l=>match dm ks j with
  |some c=>match jF c v with
   |some e=>putCells ks w idx vs (Nat.succ j) (jc l (dx w idx j) e)
   |none=>none
  |none=>none
def Jm(c:CK)(v:SV):Bool:=
 match c,v with
 |.slc _,.nils=>true
 |.slc _,_=>false
 |_,_=>true
def Ci:List CK->Nat->List SV->Bool
 |_,_,[]=>true
 |ks,j,v::vs=>match dm ks j with
  |some c=>Jm c v&&Ci ks (Nat.succ j) vs
  |none=>false
def Ng(st:St)(b:Nat)(l':E):EffR:=
 match st.heap.get b with
 |some ⟨true,.nest ks _ n af elem⟩=>T.setK st.heap b ⟨true,.nest ks l' n af elem⟩ fun h=>.skip {st with heap:=h}
 |_=>.bad
def ade(st:St)(b:Nat):E:=
 match st.heap.get b with
 |some ⟨_,.nest _ l _ _ _⟩=>l
 |_=>.int 0
def wA(tb:Tab)(st:St)(t:TypeId)(b:Nat)(ks:List CK)(x:E)(j:Nat)(v:SV)(cur p:E):EffR:=
 match cj tb t with
 |some sz=>match Nat.beq v.cells.length sz&&Nat.ble j (aN ks)with
  |true=>match putCells ks (aN ks) x v.cells j (uC cur)with
   |some c'=>Ng st b (jc (ade st b) p (.fn 21 (.pr (kW cur) c')))
   |none=>.bad
  |false=>.bad
 |none=>.bad
def qQ(tb:Tab)(st:St)(t:TypeId)(x v:SV):EffR:=
 match x with
 |.nptr b ks e idx c x j=>match q9 tb.facts st.pc st.heap b ks e idx c with
  |.at cur p=>wA tb st t b ks x j v cur p
  |.lack e=>.lack e
  |.bad=>.bad
 |.ptr b o=>match st.heap.get b with
  |some ⟨true,.flat ks l n af elem⟩=>match oq tb.facts st.pc (aN ks) n o with
   |.at idx j=>match cj tb t with
    |some sz=>match Nat.beq v.cells.length sz with
     |true=>match putCells ks (aN ks) idx v.cells j l with
      |some l'=>T.setK st.heap b ⟨true,.flat ks l' n af elem⟩ fun h=>.skip {st with heap:=h}
      |none=>.bad
     |false=>.bad
    |none=>.bad
   |.lack e=>.lack e
   |.bad=>.bad
  |some ⟨true,.nest ks l n af elem⟩=>match oq tb.facts st.pc (aN ks) n o with
   |.at idx j=>match cj tb t with
    |some sz=>match Nat.beq v.cells.length sz&&Ci ks j v.cells with
     |true=>match putCells ks (aN ks) idx v.cells j l with
      |some l'=>T.setK st.heap b ⟨true,.nest ks l' n af elem⟩ fun h=>.skip {st with heap:=h}
      |none=>.bad
     |false=>.bad
    |none=>.bad
   |.lack e=>.lack e
   |.bad=>.bad
  |_=>.bad
 |_=>.bad
def Ck(fs pc:List E)(o:Off)(sz:Nat)(i:E):Option Off:=
 match o.scale with
 |0=>some ⟨o.base,sz,i⟩
 |s=>match Nat.beq s sz with
  |true=>match dp fs pc o.idx with
   |true=>some ⟨o.base,sz,cR o.idx i⟩
   |false=>none
  |false=>none
def lit(k:IntKind)(j:Nat):SV:=.int k (.int (.ofNat j))
def ot(tb:Tab)(st:St)(e:E)(n:Nat)(f:Nat->Option SV):EffR:=
 match xJ tb.facts st.pc e n 0 with
 |.lit j=>.ofVal (f j) st
 |.ask e=>.ask e
 |.lack e=>.lack e
inductive BK where
 |cells | flat (n:E) | other
def AY(st:St)(b:Nat):BK:=
 match st.heap.get b with
 |some ⟨_,.flat _ _ n _ _⟩=>.flat n
 |some ⟨_,.nest _ _ n _ _⟩=>.flat n
 |some ⟨_,.cells _ _ _⟩=>.cells
 |_=>.other
def oQ(tb:Tab)(st:St)(e l:E)(k:EffR):EffR:=
 match dp tb.facts st.pc e with
 |true=>match jV tb.facts st.pc e l with
  |true=>k
  |false=>.lack (aD .lss e l)
 |false=>.lack (bc (aD .lss e (.int 0)))
def xQ(tb:Tab)(st:St)(t:TypeId)(x i:SV):EffR:=
 match i with
 |.int k e=>match tb.und t with
  |some (.array len _)=>match x with
   |.ptr _ _=>ot tb st e len fun j=>oF tb t x (lit k j)
   |_=>.bad
  |some (.slice elem)=>match cj tb elem with
   |some sz=>match x with
    |.slice b o l _=>match AY st b with
     |.flat _=>oQ tb st e l (match Ck tb.facts st.pc o sz e with
      |some o'=>.val (.ptr b o') st
      |none=>.bad)
     |_=>match dW l with
      |some n=>ot tb st e n fun j=>oF tb t x (lit k j)
      |none=>.bad
    |.nslice b l _=>match AY st b with
     |.flat n=>oQ tb st e l (match jV tb.facts st.pc e n with
      |true=>.val (.ptr b ⟨0,sz,e⟩) st
      |false=>.lack (aD .lss e n))
     |.cells=>match dW l with
      |some n=>ot tb st e n fun j=>match Nat.blt j n with
       |true=>some (.ptr b ⟨Nat.mul j sz,0,.int 0⟩)
       |false=>none
      |none=>.bad
     |.other=>.bad
    |.bsl ks y=>match Nat.beq (aN ks) sz&&Nat.blt 0 sz with
     |true=>oQ tb st e (gz sz y) (.val (.bptr ks y e 0) st)
     |false=>.bad
    |.nsl b ks y idx c=>match Nat.beq (aN ks) sz&&Nat.blt 0 sz with
     |true=>match q9 tb.facts st.pc st.heap b ks y idx c with
      |.at cur _=>oQ tb st e (gz sz cur) (.val (.nptr b ks y idx c e 0) st)
      |.lack e=>.lack e
      |.bad=>.bad
     |false=>.bad
    |_=>.bad
   |none=>.bad
  |_=>.bad
 |_=>.bad
def wl(tb:Tab)(st:St)(t:TypeId)(x i:SV):EffR:=
 match i with
 |.int k e=>match tb.und t with
  |some (.array len _)=>ot tb st e len fun j=>uD tb t x (lit k j)
  |_=>.bad
 |_=>.bad
def o6(tb:Tab)(st:St)(e:E):EffR:=
 match dp tb.facts st.pc e with
 |true=>.val (.int .i64 e) st
 |false=>.lack (bc (aD .lss e (.int 0)))
def tK(tb:Tab)(st:St)(c:Bool)(t:TypeId)(x:SV):EffR:=
 match tb.und t with
 |some (.slice elem)=>match x with
  |.slice _ _ l m=>o6 tb st (match c with | true=>m | false=>l)
  |.nslice _ l m=>o6 tb st (match c with | true=>m | false=>l)
  |.bsl ks e=>match ks with
   |[]=>.bad
   |_=>o6 tb st (match c with | true=>oX e | false=>gz (aN ks) e)
  |.nsl b ks e idx j=>match ks with
   |[]=>.bad
   |_=>match q9 tb.facts st.pc st.heap b ks e idx j with
    |.at cur _=>o6 tb st (match c with | true=>oX (kW cur) | false=>gz (aN ks) cur)
    |.lack e=>.lack e
    |.bad=>.bad
  |_=>.bad
 |some .string=>match c with
  |true=>.bad
  |false=>match x with
   |.str e=>.val (.int .i64 (.fn 13 e)) st
   |_=>.bad
 |some (.map _ _)=>match c with
  |true=>.bad
  |false=>match x with
  |.map b=>match st.heap.get b with
   |some ⟨_,.map es _⟩=>.val (.int .i64 (.int (.ofNat (aN es)))) st
   |some ⟨_,.mapl _ _ e⟩=>.val (.int .i64 (.fn 0 e)) st
   |_=>.bad
  |_=>.bad
 |_=>.bad
def cP(fs pc:List E)(a b:E):Bool:=oZ fs pc b a
def eK(d:E):Option SV->Option E
 |none=>some d
 |some (.int _ e)=>some e
 |some _=>none
def Jy(fs pc:List E)(c lo hi mx:E)(hlo hhi hmx:Bool):Option E:=
 match hlo && !(dp fs pc lo)with
 |true=>some (bc (aD .lss lo (.int 0)))
 |false=>match hhi && !(dp fs pc hi)with
  |true=>some (bc (aD .lss hi (.int 0)))
  |false=>match hmx && !(dp fs pc mx)with
   |true=>some (bc (aD .lss mx (.int 0)))
   |false=>match hmx && !(cP fs pc mx c)with
    |true=>some (bc (aD .lss c mx))
    |false=>match hhi && !(cP fs pc hi mx)with
     |true=>some (bc (aD .lss mx hi))
     |false=>match hlo && !(cP fs pc lo hi)with
      |true=>some (bc (aD .lss hi lo))
      |false=>none
def gy:Option SV->Bool | some _=>true | none=>false
def yL(fs pc:List E)(lo hi mx:E):Option Bool:=
 match jV fs pc lo hi&&cP fs pc hi mx with
 |true=>some true
 |false=>match dR fs pc (aD .eql mx lo)with
  |some true=>some false
  |some false=>some true
  |none=>none
def ql:E->Bool
 |.int (.ofNat n)=>Nat.beq n 0
 |_=>false
def HK(fs pc:List E)(len cap lo hi mx:E)(hlo hhi hmx:Bool):Option E:=
 match hlo && !(dp fs pc lo)with
 |true=>some (bc (aD .lss lo (.int 0)))
 |false=>match hhi && !(dp fs pc hi)with
  |true=>some (bc (aD .lss hi (.int 0)))
  |false=>match hmx && !(dp fs pc mx)with
   |true=>some (bc (aD .lss mx (.int 0)))
   |false=>match hmx && !(cP fs pc mx cap||cP fs pc mx len)with
    |true=>some (bc (aD .lss len mx))
    |false=>match hhi && !(cP fs pc hi len)with
     |true=>some (bc (aD .lss len hi))
     |false=>match hmx && !(cP fs pc hi mx)with
      |true=>some (bc (aD .lss mx hi))
      |false=>match hlo && !(cP fs pc lo hi)with
       |true=>some (bc (aD .lss hi lo))
       |false=>none
def qf(fs pc:List E):List E->E
 |[]=>.bool false
 |c::cs=>match dR fs pc c with
  |some true=>qf fs pc cs
  |_=>c
def y7(tb:Tab)(st:St)(sz:Nat)(x:SV)(lo hi mx:E):EffR:=
 match x with
 |.nslice b _ c=>match ql lo with
  |true=>.val (.nslice b hi mx) st
  |false=>match yL tb.facts st.pc lo hi mx with
   |some false=>match cP tb.facts st.pc hi mx&&cP tb.facts st.pc lo hi with
    |true=>.val (.nslice b (.int 0) (.int 0)) st
    |false=>.lack (qf tb.facts st.pc [bc (aD .lss mx hi),bc (aD .lss hi lo)])
   |some true=>match st.heap.get b with
    |some ⟨_,.flat _ _ _ af _⟩=>match cP tb.facts st.pc c af&&(cP tb.facts st.pc mx c&&(dp tb.facts st.pc lo&&(cP tb.facts st.pc lo hi&&cP tb.facts st.pc hi mx)))with
     |true=>.val (.slice b ⟨0,sz,lo⟩ (jf hi lo) (jf mx lo)) st
     |false=>.lack (qf tb.facts st.pc [bc (aD .lss af c),bc (aD .lss c mx),bc (aD .lss lo (.int 0)),bc (aD .lss hi lo),bc (aD .lss mx hi)])
    |some ⟨_,.cells _ _ _⟩=>match dW lo with
     |some n=>match cP tb.facts st.pc lo hi&&cP tb.facts st.pc hi mx with
      |true=>.val (.slice b ⟨Nat.mul n sz,0,.int 0⟩ (jf hi lo) (jf mx lo)) st
      |false=>.bad
     |none=>.bad
    |_=>.bad
   |none=>.ask (aD .eql mx lo)
 |.slice b o _ _=>match ql lo with
  |true=>.val (.slice b o hi mx) st
  |false=>match yL tb.facts st.pc lo hi mx with
   |some false=>match cP tb.facts st.pc hi mx&&cP tb.facts st.pc lo hi with
    |true=>.val (.slice b o (.int 0) (.int 0)) st
    |false=>.bad
   |some true=>match dp tb.facts st.pc lo&&(cP tb.facts st.pc lo hi&&cP tb.facts st.pc hi mx)with
    |true=>match dW lo with
     |some n=>.val (.slice b (qu o (Nat.mul n sz)) (jf hi lo) (jf mx lo)) st
     |none=>match Ck tb.facts st.pc o sz lo with
      |some o'=>.val (.slice b o' (jf hi lo) (jf mx lo)) st
      |none=>.bad
    |false=>.bad
   |none=>.ask (aD .eql mx lo)
 |_=>.bad
def Gl:SV->Option (E×E)
 |.slice _ _ l c=>some (l,c)
 |.nslice _ l c=>some (l,c)
 |_=>none
def xT(tb:Tab)(st:St)(t:TypeId)(x:SV)(lo hi mx:Option SV):EffR:=
 match tb.und t with
 |some (.slice elem)=>match cj tb elem with
  |some sz=>match gy mx && !(gy hi)with
   |true=>.bad
   |false=>match x with
    |.bsl ks e=>match Nat.beq (aN ks) sz&&Nat.blt 0 sz with
     |true=>match eK (.int 0) lo,eK (gz sz e) hi,eK (oX e) mx with
      |some lo',some hi',some mx'=>match HK tb.facts st.pc (gz sz e) (oX e) lo' hi' mx' (gy lo) (gy hi) (gy mx)with
       |some e=>.lack e
       |none=>.val (.bsl ks (.fn 24 (.pr (.pr (.int (.ofNat sz)) e) (.pr lo' (.pr hi' mx'))))) st
      |_,_,_=>.bad
     |false=>.bad
    |_=>match Gl x with
     |some (l,c)=>match eK (.int 0) lo,eK l hi,eK c mx with
      |some lo',some hi',some mx'=>match Jy tb.facts st.pc c lo' hi' mx' (gy lo) (gy hi) (gy mx)with
       |some e=>.lack e
       |none=>y7 tb st sz x lo' hi' mx'
      |_,_,_=>.bad
     |none=>.bad
  |none=>.bad
 |_=>.bad
def gf:List SV->List SV->Nat->Option E
 |[],[],0=>some (.bool true)
 |x::xs,y::ys,n+1=>match x,y with
  |.int k a,.int k' b=>match eM k k',gf xs ys n with
   |true,some e=>some (zf (aD .eql a b) e)
   |_,_=>none
  |_,_=>none
 |_,_,_=>none
def yS(tb:Tab)(t:TypeId)(x y:SV):Option E:=
 match tb.und t with
 |some (.array len elem)=>match tb.und elem with
  |some (.int _)=>match cj tb elem,jk tb elem with
   |some 1,some false=>match x,y with
    |.agg xs,.agg ys=>gf xs ys len
    |_,_=>none
   |_,_=>none
  |_=>none
 |some .bool=>match x,y with
  |.bool a,.bool b=>Ao a b
  |_,_=>none
 |some (.int _)=>match x,y with
  |.int k a,.int k' b=>match eM k k' with
   |true=>some (aD .eql a b)
   |false=>none
  |_,_=>none
 |some .string=>match x,y with
  |.str a,.str b=>some (lR a b)
  |_,_=>none
 |_=>none
inductive FR where
 |at (i:Nat) (v:SV) (born:E)
 |no
 |ask (e:E)
 |bad
def nf(tb:Tab)(pc:List E)(kt:TypeId)(k:SV):List Ent->Nat->FR
 |[],_=>.no
 |x::es,i=>match yS tb kt k x.k with
  |some e=>match dR tb.facts pc e with
   |some true=>.at i x.v x.born
   |some false=>nf tb pc kt k es (Nat.succ i)
   |none=>.ask e
  |none=>.bad
def pm(tb:Tab)(kt:TypeId)(k:SV):Bool:=
 match yS tb kt k k with
 |some _=>true
 |none=>false
def jK(ok:Bool)(v:SV)(is:E):SV:=match ok with | true=>.tup [v,.bool is] | false=>v
def xc(tb:Tab)(st:St)(t:TypeId)(x k:SV)(ok:Bool):EffR:=
 match tb.und t with
 |some (.map kt vt)=>match g9 tb vt,pm tb kt k with
  |some z,true=>match x with
   |.nilm=>.val (jK ok z (.bool false)) st
   |.map b=>match st.heap.get b with
    |some ⟨_,.map es _⟩=>match nf tb st.pc kt k es 0 with
     |.at _ v _=>.val (jK ok v (.bool true)) st
     |.no=>.val (jK ok z (.bool false)) st
     |.ask e=>.ask e
     |.bad=>.bad
    |some ⟨_,.mapl k0 c e⟩=>match k,jF c z with
     |.int k1 ke,some ze=>match eM k1 k0 with
      |true=>.val (jK ok (lL c (.fn 32 (.pr e (.pr ke ze)))) (.fn 33 (.pr e ke))) st
      |false=>.bad
     |_,_=>.bad
    |_=>.bad
   |_=>.bad
  |_,_=>.bad
 |_=>.bad
def BM(tb:Tab)(tmps:Tm)(st:St)(t:TypeId)(x:Operand):EffR:=
 match bq tmps x with
  |some v=>match tw tb st t v with
   |some u=>.val u st
   |none=>yQ tb st t v
  |none=>.bad
def E7(tb:Tab)(tmps:Tm)(st:St)(t:TypeId)(x:Operand)(y:Operand):EffR:=
 match bq tmps x,bq tmps y with
  |some v,some w=>match By tb st t v w with
   |some st'=>.skip st'
   |none=>qQ tb st t v w
  |_,_=>.bad
def BN(tb:Tab)(tmps:Tm)(st:St)(t:TypeId)(x:Operand)(i:Operand):EffR:=
 match bq tmps x,bq tmps i with
  |some v,some w=>xQ tb st t v w
  |_,_=>.bad
def AO(tb:Tab)(tmps:Tm)(st:St)(t:TypeId)(x:Operand)(i:Operand):EffR:=
 match bq tmps x,bq tmps i with
  |some v,some w=>wl tb st t v w
  |_,_=>.bad
def Fw(tb:Tab)(tmps:Tm)(st:St)(c:Call):EffR:=
 match c.callee with
  |.builtin b=>match dm c.argTypes.toList 0,i0 (bq tmps) c.args.toList with
   |some t,some vs=>match dm vs 0 with
    |some v=>match b with
     |.len=>tK tb st false t v
     |.cap=>tK tb st true t v
     |_=>.bad
    |none=>.bad
   |_,_=>.bad
  |_=>.bad
def Cm(tb:Tab)(tmps:Tm)(st:St)(t:TypeId)(x:Operand)(lo:Option Operand)(hi:Option Operand)(mx:Option Operand):EffR:=
 match bq tmps x,pK (bq tmps) lo,pK (bq tmps) hi,pK (bq tmps) mx with
  |some v,some l,some h,some m=>xT tb st t v l h m
  |_,_,_,_=>.bad
def B2(tb:Tab)(tmps:Tm)(st:St)(t:TypeId)(x:Operand)(k:Operand)(ok:Bool):EffR:=
 match bq tmps x,bq tmps k with
  |some v,some w=>xc tb st t v w ok
  |_,_=>.bad
def AJ(tb:Tab)(tmps:Tm)(st:St)(elem:TypeId)(x:Operand):EffR:=
 match bq tmps x with
  |some v=>.ofPair (pB tmps st elem v.cells)
  |none=>.bad
def E5(tb:Tab)(tmps:Tm)(st:St)(elem:TypeId):EffR:=
 match g9 tb elem with
  |some v=>.ofPair (pB tmps st elem v.cells)
  |none=>.bad
def Et(tb:Tab)(tmps:Tm)(st:St)(t:TypeId)(len:Nat)(parts:Array (Nat×Operand)):EffR:=
 match tb.und t,mJ (bq tmps) parts.toList with
  |some (.slice elem),some ps=>match cj tb elem,g9 tb elem with
   |some sz,some z=>if Nat.ble (Nat.mul len sz) 16777216&&Nat.beq z.cells.length sz then match ll (fun i=>some (Nat.mul i sz,sz)) (gD z.cells len) ps with
    |some cs=>match pB tmps st elem cs with
     |some (.ptr b o,st')=>.val (.slice b o (.int (.ofNat len)) (.int (.ofNat len))) st'
     |_=>.bad
    |none=>.bad
    else .bad
   |_,_=>.bad
  |_,_=>.bad
def C1(tb:Tab)(st:St)(op:BinOp)(k:IntKind)(a b:E):EffR:=
 match dR tb.facts st.pc (aD .lss b (.int 0))with
 |some false=>.val (.int k (iC op k a b)) st
 |_=>.lack (bc (aD .lss b (.int 0)))
def tQ(tb:Tab)(st:St)(op:BinOp)(k:IntKind)(a:E)(k':IntKind)(b:E):EffR:=
 match eM k k' with
 |true=>match dR tb.facts st.pc (aD .eql b (.int 0))with
  |some false=>match op with
   |.quo=>.val (.int k (iC .quo k a b)) st
   |.rem=>.val (.int k (iC .rem k a b)) st
   |_=>.bad
  |_=>match op with
   |.quo=>.lack (bc (aD .eql b (.int 0)))
   |.rem=>.lack (bc (aD .eql b (.int 0)))
   |_=>.bad
 |false=>.bad
def rd(tb:Tab)(st:St)(op:BinOp)(k:IntKind)(a:E)(k':IntKind)(b:E):EffR:=
 match op with
 |.shl=>C1 tb st .shl k a b
 |.shr=>C1 tb st .shr k a b
 |.quo=>tQ tb st .quo k a k' b
 |.rem=>tQ tb st .rem k a k' b
 |_=>.bad
def AL(tb:Tab)(tmps:Tm)(st:St)(op:BinOp)(t:TypeId)(x:Operand)(y:Operand):EffR:=
 match bq tmps x,bq tmps y with
  |some (.int k a),some (.int k' b)=>rd tb st op k a k' b
  |some (.ptr a i),some (.ptr b j)=>
   match tb.und t with
   |some (.pointer elem)=>match cj tb elem with
    |some (Nat.succ _)=>match st.heap.get a,st.heap.get b,gn i,gn j with
     |some ⟨own1,.cells (_::_) _ _⟩,some ⟨own2,.cells (_::_) _ _⟩,some m,some n=>
      match own1||own2 with
      |true=>match op with
       |.eql=>.val (.bool (.bool (Nat.beq a b&&Nat.beq m n))) st
       |.neq=>.val (.bool (.bool (!(Nat.beq a b&&Nat.beq m n)))) st
       |_=>.bad
      |false=>.bad
     |_,_,_,_=>.bad
    |_=>.bad
   |_=>.bad
  |_,_=>.bad
def AE(tb:Tab)(tmps:Tm)(st:St)(c:Operand)(a:Operand)(b:Operand):EffR:=
 match bq tmps c with
  |some (.bool e)=>match dR tb.facts st.pc e with
   |some true=>.ofVal (bq tmps a) st
   |some false=>.ofVal (bq tmps b) st
   |none=>.ask e
  |_=>.bad
noncomputable def nZ(tb:Tab)(tmps:Tm)(st:St)(o:Op):EffR:=
 Op.rec (motive:=fun _=>EffR)
  (fun _=>.bad)
  (fun _=>.bad)
  (fun c a b=>AE tb tmps st c a b)
  (fun elem=>E5 tb tmps st elem)
  (fun elem x=>AJ tb tmps st elem x)
  (fun _ _=>.bad)
  (fun t len parts=>Et tb tmps st t len parts)
  (fun _ _ _ _=>.bad)
  (fun t x=>BM tb tmps st t x)
  (fun t x y=>E7 tb tmps st t x y)
  (fun _=>.bad)
  (fun _=>.bad)
  (fun _=>.bad)
  (fun op t x y _=>AL tb tmps st op t x y)
  (fun _ _ _=>.bad)
  (fun _ _ _=>.bad)
  (fun _ _=>.bad)
  (fun _ _=>.bad)
  (fun _ _ _=>.bad)
  (fun _ _=>.bad)
  (fun _ _=>.bad)
  (fun _ _ _=>.bad)
  (fun t x lo hi mx=>Cm tb tmps st t x lo hi mx)
  (fun _ _ _=>.bad)
  (fun _ _ _=>.bad)
  (fun t x i=>BN tb tmps st t x i)
  (fun t x i=>AO tb tmps st t x i)
  (fun t x k ok=>B2 tb tmps st t x k ok)
  (fun _ _ _ _=>.bad)
  (fun _ _ _=>.bad)
  (fun _ _ _ _=>.bad)
  (fun _ _=>.bad)
  (fun _ _=>.bad)
  (fun _=>.bad)
  (fun _ _ _ _=>.bad)
  (fun _ _=>.bad)
  (fun c=>Fw tb tmps st c)
  (fun _=>.bad)
  (fun _=>.bad)
  (fun _=>.bad)
  (fun _ _=>.bad)
  (fun _ _ _=>.bad)
  (fun _ _=>.bad)
  o
theorem aet(tb:Tab)(tmps:Tm)(st:St)(o:Op):nZ tb tmps st o=(match o with
 |.load t x=>BM tb tmps st t x
 |.store t x y=>E7 tb tmps st t x y
 |.indexAddr t x i=>BN tb tmps st t x i
 |.index t x i=>AO tb tmps st t x i
 |.call c=>Fw tb tmps st c
 |.slice t x lo hi mx=>Cm tb tmps st t x lo hi mx
 |.lookup t x k ok=>B2 tb tmps st t x k ok
 |.box elem x=>AJ tb tmps st elem x
 |.alloc elem=>E5 tb tmps st elem
 |.buildSlice t len parts=>Et tb tmps st t len parts
 |.binOp op t x y _=>AL tb tmps st op t x y
 |.pick c a b=>AE tb tmps st c a b
 |_=>.bad):=by cases o<;>rfl
def abU(f:TypeId->Option (List CK)):List Field->Option (List CK)
 |[]=>some []
 |fd::fds=>match f fd.type,abU f fds with
  |some a,some b=>some (a++b)
  |_,_=>none
def mM(l:List CK):Nat->List CK
 |0=>[]
 |n+1=>l++mM l n
def qC(tb:Tab):Nat->TypeId->Option (List CK)
 |0,_=>none
 |d+1,t=>match tb.und t with
  |some (.int k)=>some [.int k]
  |some .bool=>some [.bool]
  |some .string=>some [.str]
  |some (.slice e)=>match qC tb d e with
   |some ks=>some [.slc ks]
   |none=>none
  |some (.struct fs)=>abU (qC tb d) fs.toList
  |some (.array n e)=>match qC tb d e with
   |some ks=>some (mM ks n)
   |none=>none
  |_=>none
def rq:List CK->List SV->Option (List E)
 |[],[]=>some []
 |c::cs,v::vs=>match jF c v,rq cs vs with
  |some e,some l=>some (e::l)
  |_,_=>none
 |_,_=>none
def s9(ks:List CK)(n:Nat)(vs:List SV):Option E:=
 match rq (mM ks n) vs with
 |some l=>some (eT l)
 |none=>none
inductive Held where
 |cells (vs:List SV)
 |list (ks:List CK) (l n:E)
def vz(w:Nat)(l n lo len:E):E:=
 match ql lo&&len.beq n with
 |true=>l
 |false=>match w with
  |1=>.fn 4 (.pr l (.pr lo (cR lo len)))
  |_=>match ql lo with
   |true=>.fn 18 (.pr l (.fn 8 (.pr len (.int (.ofNat w)))))
   |false=>.fn 4 (.pr l (.pr (.fn 8 (.pr lo (.int (.ofNat w)))) (.fn 8 (.pr (cR lo len) (.int (.ofNat w))))))
def zX(w:Nat)(o:Off):Option E:=
 match o.scale with
 |0=>match Nat.beq (Nat.mod o.base w) 0 with
  |true=>some (.int (.ofNat (Nat.div o.base w)))
  |false=>none
 |s=>match Nat.beq s w&&Nat.beq o.base 0 with
  |true=>some o.idx
  |false=>none
def tI(tb:Tab)(st:St)(sz:Nat)(v:SV):Option Held:=
 match v with
 |.nils=>some (.cells [])
 |.bsl ks e=>match Nat.beq (aN ks) sz&&Nat.blt 0 sz with
  |true=>some (.list ks e (gz sz e))
  |false=>none
 |.slice b o len _=>match st.heap.get b with
  |some ⟨_,.cells cs _ _⟩=>match dW len,gn o with
   |some n,some m=>match lg (vA cs m) (Nat.mul n sz)with
    |some l=>match om l with
     |true=>some (.cells l)
     |false=>none
    |none=>none
   |_,_=>none
  |some ⟨_,.flat ks l n _ _⟩=>match Nat.beq (aN ks) sz&&Nat.blt 0 sz,zX sz o with
   |true,some lo=>match dp tb.facts st.pc lo&&(dp tb.facts st.pc len&&cP tb.facts st.pc (cR lo len) n)with
    |true=>some (.list ks (vz sz l n lo len) len)
    |false=>none
   |_,_=>none
  |_=>none
 |.nslice b len _=>match st.heap.get b with
  |some ⟨_,.cells cs _ _⟩=>match dW len with
   |some n=>match lg cs (Nat.mul n sz)with
    |some l=>match om l with
     |true=>some (.cells l)
     |false=>none
    |none=>none
   |none=>none
  |some ⟨_,.flat ks l n _ _⟩=>match Nat.beq (aN ks) sz&&Nat.blt 0 sz with
   |true=>match dp tb.facts st.pc len&&cP tb.facts st.pc len n with
    |true=>some (.list ks (vz sz l n (.int 0) len) len)
    |false=>none
   |false=>none
  |_=>none
 |_=>none
def ga(tmps:Tm)(st:St):Bool:=st.scp&&iV st.nv st.nb tmps
def DM(sz:Nat)(c:E):E:=match sz with | 1=>c | _=>.fn 8 (.pr c (.int (.ofNat sz)))
def XB(sz:Nat)(elem:TypeId)(ct:Held)(c:E):SObj:=
 match ct with
 |.cells vs=>.cells vs (DM sz c) elem
 |.list ks l n=>.flat ks l n c elem
def Held.scp(nv nb:Nat):Held->Bool
 |.cells vs=>SV.scps nv nb vs
 |.list _ l n=>l.scp nv&&n.scp nv
def pd(tmps:Tm)(st:St)(sz:Nat)(elem:TypeId)(ct:Held)(need:E):Option (SV×St):=
 let c:=E.var st.nv
 match ga tmps st&&(need.scp st.nv&&ct.scp st.nv st.nb)with
 |true=>T.insK st.heap st.nb ⟨true,XB sz elem ct c⟩ fun h=>some (.nslice st.nb need c,⟨Nat.succ st.nv,Nat.succ st.nb,h,bc (aD .lss c need)::bc (aD .lss c (.int 0))::st.pc⟩)
 |false=>none
def MJ(l l':E):E:=
 match Di l with
 |true=>l'
 |false=>.fn 3 (.pr l l')
def MC(sz:Nat)(n m:Option Nat)(a b:Held):Option Held:=
 match a,b with
 |.cells x,.cells y=>some (.cells (x++y))
 |.list ks l n,.list ks' l' n'=>match ft ks ks' with
  |true=>some (.list ks (EC l l') (cR n n'))
  |false=>none
 |.list ks l n,.cells y=>match m with
  |some m=>match s9 ks m y with
   |some l'=>some (.list ks (EC l l') (cR n (.int (.ofNat m))))
   |none=>none
  |none=>none
 |.cells x,.list ks l' n'=>match n with
  |some n=>match s9 ks n x with
   |some l=>some (.list ks (MJ l l') (cR (.int (.ofNat n)) n'))
   |none=>none
  |none=>none
def jj(sz:Nat)(v:SV):Option E:=
 match v with
 |.nils=>some (.int 0)
 |.slice _ _ l _=>some l
 |.nslice _ l _=>some l
 |.bsl _ e=>some (gz sz e)
 |_=>none
def qS(v:SV):Option E:=
 match v with
 |.nils=>some (.int 0)
 |.slice _ _ _ c=>some c
 |.nslice _ _ c=>some c
 |.bsl _ e=>some (oX e)
 |_=>none
inductive Eff2 where
 |val (v:SV) (st:St)
 |skip (st:St)
 |ask (e:E)
 |lack (e:E)
 |bad
def kJ:E:=.int 2147483648
def wK(sz:Nat)(c af:E):Bool:=
 match dW c with
 |some n=>(E.int (.ofNat (Nat.mul n sz))).beq af
 |none=>(DM sz c).beq af
def Bg(st:St)(sz:Nat)(elem:TypeId)(v:SV):Option Nat:=
 match v with
 |.nslice b _ c=>match st.heap.get b with
  |some ⟨true,.flat ks _ _ af e⟩=>match c.beq af&&(Nat.beq (aN ks) sz&&Nat.beq e elem)with | true=>some b | false=>none
  |some ⟨true,.cells _ af e⟩=>match wK sz c af&&Nat.beq e elem with | true=>some b | false=>none
  |_=>none
 |.slice b o _ c=>match gn o with
  |some 0=>match st.heap.get b with
   |some ⟨true,.cells _ af e⟩=>match wK sz c af&&Nat.beq e elem with | true=>some b | false=>none
   |_=>none
  |_=>none
 |_=>none
def Dk(tb:Tab)(t:TypeId):Option Nat:=
 match tb.ty.get t with
 |some i=>some i.bytes
 |none=>none
def wD(old:SObj)(ct:Held):Option SObj:=
 match old,ct with
 |.cells _ af e,.cells vs=>some (.cells vs af e)
 |.flat _ _ _ af e,.list ks l n=>some (.flat ks l n af e)
 |_,_=>none
def RM(old:SObj)(ct:Held):Bool:=
 match old,ct with
 |.cells _ _ _,_=>true
 |.flat _ _ _ _ _,.list _ _ _=>true
 |_,_=>false
def zT(tmps:Tm)(st:St)(b:Nat)(sz:Nat)(elem:TypeId)(ct:Held)(need:E):Option (SV×St):=
 match st.heap.get b with
 |some ⟨_,old⟩=>match RM old ct with
  |true=>T.setK st.heap b ⟨true,.gone⟩ fun h=>pd tmps {st with heap:=h} sz elem ct need
  |false=>none
 |none=>none
def uB:SV->Bool
 |.bsl _ _=>true
 |_=>false
def Eff2.ofPair:Option (SV×St)->Eff2
 |some (v,st)=>.val v st
 |none=>.bad
def yP(tb:Tab)(t:TypeId):Bool:=
 match tb.und t with
 |some (.slice _)=>true
 |_=>false
def nU(fs pc:List E)(e:E):Bool:=
 match ql e with
 |true=>true
 |false=>match dR fs pc (aD .eql e (.int 0))with
  |some true=>true
  |_=>false
def aGL(fs pc:List E)(ls lx c:E):E:=
 match dp fs pc ls with
 |false=>bc (aD .lss ls (.int 0))
 |true=>match dp fs pc lx with
  |false=>bc (aD .lss lx (.int 0))
  |true=>bc (aD .lss c (.int 0))
def tO:E:=.iff (.bool true) (.bool true)
def Kz(fs pc:List E)(s:SV)(c:E)(ct:Held):Bool:=
 match ct with
 |.list _ _ _=>match s with
  |.nils=>pt tO fs
  |.bsl _ _=>match pt tO fs with | true=>nU fs pc c | false=>false
  |_=>false
 |_=>false
def yJ(tb:Tab)(tmps:Tm)(st:St)(elem:TypeId)(sz:Nat)(s:SV)(a b:Held)(ls lx c:E):Eff2:=
  match MC sz (dW ls) (dW lx) a b with
  |some ct=>
    let need:=cR ls lx
    match dp tb.facts st.pc ls&&(dp tb.facts st.pc lx&&dp tb.facts st.pc c)with
    | true=>match cP tb.facts st.pc need kJ with
      | true=>match dR tb.facts st.pc (aD .lss c need)with
        |some true=> .ofPair (pd tmps st sz elem ct need)
        | some false=>match !(pt tO tb.facts)&&nU tb.facts st.pc lx with
          |true=> .val s st
          | false=>match Bg st sz elem s with
            | some b=>match st.heap.get b with
              | some ⟨_,old⟩=>match wD old ct with
                |some obj=>T.setK st.heap b ⟨true,obj⟩ fun h=> .val (.nslice b need c) {st with heap:=h}
                |none=> .lack (aD .eql lx (.int 0))
              |none=> .lack (aD .eql lx (.int 0))
            | none=>match nU tb.facts st.pc lx with
              |true=> .val s st
              |false=> .lack (aD .eql lx (.int 0))
        | none=>match Bg st sz elem s with
          |some b=> .ofPair (zT tmps st b sz elem ct need)
          |none=>match Kz tb.facts st.pc s c ct with
           |true=> .ofPair (pd tmps st sz elem ct need)
           |false=>match uB s with
            | true=>match dR tb.facts st.pc (aD .eql lx (.int 0))with
              |some true=> .val s st
              |some false=> .lack (aD .lss c need)
              |none=> .ask (aD .eql lx (.int 0))
            | false=>match s with
              | .nils=>match dR tb.facts st.pc (aD .eql lx (.int 0))with
                |some true=> .val s st
                |some false=> .lack (aD .lss c need)
                |none=> .ask (aD .eql lx (.int 0))
              |_=> .ask (aD .lss c need)
      |false=> .lack (bc (aD .lss kJ need))
    |false=> .lack (aGL tb.facts st.pc ls lx c)
  |none=> .bad
def zK(tb:Tab)(st:St)(sz:Nat)(v:SV):Option E:=
 match v with
 |.nslice b len _=>match st.heap.get b with
  |some ⟨_,o⟩=>match o with
   |.flat _ _ n _ _=>some (qf tb.facts st.pc [bc (aD .lss len (.int 0)),bc (aD .lss n len)])
   |_=>none
  |none=>none
 |.slice b off len _=>match st.heap.get b with
  |some ⟨_,o⟩=>match o with
   |.flat _ _ n _ _=>match zX sz off with
    |some lo=>some (qf tb.facts st.pc [bc (aD .lss lo (.int 0)),bc (aD .lss len (.int 0)),bc (aD .lss n (cR lo len))])
    |none=>none
   |_=>none
  |none=>none
 |_=>none
def sV(x:Option E):Eff2:=
 match x with
 |some e=>.lack e
 |none=>.bad
def ud(c pat:E):E:=
 match pat with
 |.fn 23 (.pr e (.fn 10 _))=>.fn 5 (.pr c e)
 |_=>.fn 17 (.pr c pat)
def aeI(tb:Tab)(st:St)(elem xt:TypeId)(z x:SV):Option (Held×E):=
 match tb.und xt with
 |some (.int .i64)=>match x with
  |.int .i64 n=>match dW n with
   |some m=>match Nat.ble m 4096&&om (gD z.cells m)with
    |true=>some (.cells (gD z.cells m),.int (.ofNat m))
    |false=>none
   |none=>match qC tb 12 elem with
    |some ks=>match s9 ks 1 z.cells with
     |some pat=>match dp tb.facts st.pc n&&(cP tb.facts st.pc n (.int 4096)&&Nat.blt 0 (aN ks))with
      |true=>some (.list ks (ud n pat) n,n)
      |false=>none
     |none=>none
    |none=>none
  |_=>none
 |_=>none
def arQ(tb:Tab)(st:St)(x:SV):Option E:=
 match x with
 |.int .i64 n=>match dW n with
  |some _=>none
  |none=>some (qf tb.facts st.pc [bc (aD .lss n (.int 0)),bc (aD .lss (.int 4096) n)])
 |_=>none
def sm(tb:Tab)(tmps:Tm)(st:St)(t xt:TypeId)(s x:SV):Eff2:=
 match tb.und t with
 |some (.slice elem)=>match cj tb elem,Dk tb elem,g9 tb elem with
  |some sz,some bytes,some z=>match Nat.blt 0 bytes&&(Nat.ble bytes 32768&&(Nat.blt 0 sz&&Nat.beq z.cells.length sz))with
   |true=>match tI tb st sz s,jj sz s,qS s with
    |some a,some ls,some c=>match yP tb xt with
     |true=>match tI tb st sz x,jj sz x with
      |some b,some lx=>yJ tb tmps st elem sz s a b ls lx c
      |_,_=>sV (zK tb st sz x)
     |false=>match aeI tb st elem xt z x with
      |some (b,lx)=>yJ tb tmps st elem sz s a b ls lx c
      |none=>sV (arQ tb st x)
    |_,_,_=>sV (zK tb st sz s)
   |false=>.bad
  |_,_,_=>.bad
 |_=>.bad
def tS(tb:Tab)(tmps:Tm)(st:St)(elem:TypeId)(z:SV)(n c:E):Eff2:=
 match qC tb 12 elem with
 |some ks=>match s9 ks 1 z.cells with
  |some pat=>match ga tmps st&&(n.scp st.nv&&(c.scp st.nv&&(pat.scp st.nv&&Nat.blt 0 (aN ks))))with
   |true=>T.insK st.heap st.nb ⟨true,.flat ks (ud c pat) c c elem⟩ fun h=>.val (.nslice st.nb n c) {st with nb:=Nat.succ st.nb,heap:=h}
   |false=>.bad
  |none=>.bad
 |none=>.bad
def B8(tb:Tab)(tmps:Tm)(st:St)(t:TypeId)(n c:SV):Eff2:=
 match tb.und t with
 |some (.slice elem)=>match cj tb elem,Dk tb elem,g9 tb elem with
  |some sz,some bytes,some z=>match Nat.beq z.cells.length sz&&(Nat.blt 0 sz&&Nat.ble bytes 32768)with
   |true=>match n,c with
    |.int .i64 n,.int .i64 c=>match dp tb.facts st.pc n&&cP tb.facts st.pc n c with
     |true=>match cP tb.facts st.pc c kJ with
      |true=>match dW c with
       |some m=>match Nat.ble (Nat.mul m sz) 256&&n.scp st.nv with
        |true=>match pB tmps st elem (gD z.cells m)with
         |some (.ptr b _,st')=>.val (.nslice b n c) st'
         |_=>.bad
        |false=>tS tb tmps st elem z n c
       |none=>tS tb tmps st elem z n c
      |false=>.lack (bc (aD .lss kJ c))
     |false=>match dp tb.facts st.pc n with
      |true=>.lack (bc (aD .lss c n))
      |false=>.lack (bc (aD .lss n (.int 0)))
    |_,_=>.bad
   |false=>.bad
  |_,_,_=>.bad
 |_=>.bad
def xF(st:St)(b off:Nat)(ws:List SV)(v:SV):Eff2:=
 match st.heap.get b with
 |some ⟨true,.cells cs af e⟩=>match mZ cs off ws with
  |some cs'=>T.setK st.heap b ⟨true,.cells cs' af e⟩ fun h=>.val v {st with heap:=h}
  |none=>.bad
 |_=>.bad
def B1(tb:Tab)(st:St)(t xt:TypeId)(d s:SV):Eff2:=
 match tb.und t,yP tb xt with
 |some (.slice elem),true=>match cj tb elem with
  |some sz=>match jj sz d,jj sz s,tI tb st sz s with
   |some ld,some ls,some ct=>match ct with
    |.cells vs=>match dW ld,dW ls with
     |some n,some m=>match Nat.ble m n with
      |true=>match d with
       |.nils=>.val (.int .i64 (.int 0)) st
       |.slice b o _ _=>match gn o with
        |some off=>xF st b off vs (.int .i64 (.int (.ofNat m)))
        |none=>.bad
       |.nslice b _ _=>xF st b 0 vs (.int .i64 (.int (.ofNat m)))
       |_=>.bad
      |false=>.bad
     |_,_=>.bad
    |.list ks l n=>match d with
     |.nslice b _ _=>match st.heap.get b with
      |some ⟨true,.flat ks' _ n' af e⟩=>match ft ks ks'&&(ld.beq ls&&(dp tb.facts st.pc ls&&cP tb.facts st.pc ld n'))with
       |true=>T.setK st.heap b ⟨true,.flat ks l n af e⟩ fun h=>.val (.int .i64 ls) {st with heap:=h}
       |false=>match ft ks ks'&&ld.beq ls with
        |true=>.lack (qf tb.facts st.pc [bc (aD .lss ls (.int 0)),bc (aD .lss n' ld)])
        |false=>.bad
      |_=>match dW ls with
       |some m=>match m with
        |0=>.val (.int .i64 (.int 0)) st
        |_+1=>.bad
       |none=>.bad
     |_=>.bad
   |_,_,_=>sV (zK tb st sz s)
  |none=>.bad
 |_,_=>.bad
def He(fs pc:List E)(m:Nat)(af:E):Bool:=
 match cP fs pc (.int (.ofNat m)) af with
 |true=>true
 |false=>match af with
  |.fn f (.pr c (.int (.ofNat k)))=>match Nat.beq f 8,Nat.blt 0 k with
   |true,true=>cP fs pc (.int (.ofNat (Nat.div (Nat.pred (Nat.add m k)) k))) c
   |_,_=>false
  |_=>false
def Al(tb:Tab)(st:St)(elem:TypeId)(b:Nat)(o:Off)(z:SV):Eff2:=
 match By tb st elem (.ptr b o) z with
 |some st'=>.val .undef st'
 |none=>match qQ tb st elem (.ptr b o) z with
  |.skip st'=>.val .undef st'
  |.ask e=>.ask e
  |.lack e=>.lack e
  |_=>.bad
def sj(tb:Tab)(st:St)(elem:TypeId)(b:Nat)(o:Off):Eff2:=
 match cj tb elem,g9 tb elem with
 |some sz,some z=>match Nat.beq z.cells.length sz&&om z.cells with
  |true=>match st.heap.get b with
   |some ⟨true,.cells cs af e'⟩=>match gn o with
    |some off=>match Nat.ble cs.length off with
     |true=>match He tb.facts st.pc (Nat.add off z.cells.length) af with
      |true=>T.setK st.heap b ⟨true,.cells cs af e'⟩ fun h=>.val .undef {st with heap:=h}
      |false=>.lack (bc (aD .lss af (.int (.ofNat (Nat.add off z.cells.length)))))
     |false=>Al tb st elem b o z
    |none=>.bad
   |some ⟨true,.flat ks l n af e'⟩=>match oq tb.facts st.pc (aN ks) af o with
    |.at idx j=>match Nat.beq j 0&&(Nat.beq z.cells.length (aN ks)&&cP tb.facts st.pc n idx)with
     |true=>T.setK st.heap b ⟨true,.flat ks l n af e'⟩ fun h=>.val .undef {st with heap:=h}
     |false=>Al tb st elem b o z
    |.lack e=>.lack e
    |.bad=>.bad
   |_=>.bad
  |false=>.bad
 |_,_=>.bad
def AW(tb:Tab)(st:St)(t:TypeId)(v:SV):Eff2:=
 match tb.und t with
 |some (.slice elem)=>match v with
  |.slice b o n _=>match dW n with
   |some m=>match m with
    |0=>.val .undef st
    |k+1=>match k with
     |0=>sj tb st elem b o
     |_+1=>.bad
   |none=>match dR tb.facts st.pc (aD .eql n (.int 1))with
    |some true=>sj tb st elem b o
    |_=>.lack (aD .eql n (.int 1))
  |.nslice b n _=>match st.heap.get b,dW n with
   |some ⟨true,.cells _ _ _⟩,some m=>match m with
    |0=>.val .undef st
    |k+1=>match k with
     |0=>sj tb st elem b ⟨0,0,.int 0⟩
     |_+1=>.bad
   |_,_=>.bad
  |.nils=>.val .undef st
  |_=>.bad
 |_=>.bad
def lv(es:List Ent)(i:Nat)(v:SV):List Ent:=
 match es with
 |[]=>[]
 |x::es=>match i with
  |0=>⟨x.k,v,x.born⟩::es
  |i+1=>x::lv es i v
def vI(es:List Ent)(i:Nat):List Ent:=
 match es with
 |[]=>[]
 |e::es=>match i with
  |0=>es
  |i+1=>e::vI es i
def qX(st:St)(b:Nat)(es:List Ent)(clk:E):St:=T.setK st.heap b ⟨true,.map es clk⟩ fun h=>{st with heap:=h}
def uo(st:St)(b:Nat)(k:IntKind)(c:CK)(e:E):St:=T.setK st.heap b ⟨true,.mapl k c e⟩ fun h=>{st with heap:=h}
def xG(tb:Tab)(st:St)(t:TypeId)(x k v:SV):Eff2:=
 match tb.und t with
 |some (.map kt _)=>match x,pm tb kt k with
  |.map b,true=>match st.heap.get b with
   |some ⟨true,.map es clk⟩=>match nf tb st.pc kt k es 0 with
    |.at i _ _=>.skip (qX st b (lv es i v) clk)
    |.no=>.skip (qX st b (es++[⟨k,v,clk⟩]) (cR clk (.int 1)))
    |.ask e=>.ask e
    |.bad=>.bad
   |some ⟨true,.mapl k0 c e⟩=>match k,jF c v with
    |.int k1 ke,some ve=>match eM k1 k0 with
     |true=>.skip (uo st b k0 c (.fn 34 (.pr e (.pr ke ve))))
     |false=>.bad
    |_,_=>.bad
   |_=>.bad
  |_,_=>.bad
 |_=>.bad
def JU(st:St)(b:Nat)(k:IntKind)(c:CK)(e ke s:E):St:=T.setK st.heap b ⟨true,.maplp k c e ke s⟩ fun h=>{st with heap:=h}
def CG(e ke ve:E):E:=
 match e with
 |.fn 34 (.pr e0 (.pr ke0 _))=>match ke0.beq ke with
  |true=>.fn 34 (.pr e0 (.pr ke ve))
  |false=>.fn 34 (.pr e (.pr ke ve))
 |e=>.fn 34 (.pr e (.pr ke ve))
def Bc(tb:Tab)(tmps:Tm)(st:St)(t:TypeId)(x k:SV):Eff2:=
 match tb.und t with
 |some (.map kt vt)=>match x,pm tb kt k with
  |.map b,true=>match st.heap.get b with
   |some ⟨true,.map es clk⟩=>match nf tb st.pc kt k es 0 with
    |.at _ v s=>.val (.tup [v,.int .i64 s]) st
    |.no=>match g9 tb vt with
     |some z=>.val (.tup [z,.int .i64 clk]) (qX st b (es++[⟨k,z,clk⟩]) (cR clk (.int 1)))
     |none=>.bad
    |.ask e=>.ask e
    |.bad=>.bad
   |some ⟨true,.mapl k0 c e⟩=>match g9 tb vt with
    |some z=>match k,jF c z with
     |.int k1 ke,some ze=>match eM k1 k0,ga tmps st&&ke.scp st.nv with
      | true,true=>.val (.tup [lL c (.fn 32 (.pr e (.pr ke ze))),.int .i64 (.var st.nv)])
        (JU {st with nv:=Nat.succ st.nv} b k0 c (.fn 34 (.pr e (.pr ke (.fn 32 (.pr e (.pr ke ze)))))) ke (.var st.nv))
      |_,_=>.bad
     |_,_=>.bad
    |none=>.bad
   |_=>.bad
  |_,_=>.bad
 |_=>.bad
def y4(s:E):List Ent->Nat->Option Nat
 |[],_=>none
 |x::es,i=>match x.born.beq s with
  |true=>some i
  |false=>y4 s es (Nat.succ i)
def DS(st:St)(x s v:SV):Eff2:=
 match x,s with
 |.map b,.int _ s=>match st.heap.get b with
  |some ⟨true,.map es clk⟩=>match y4 s es 0 with
   |some i=>.skip (qX st b (lv es i v) clk)
   |none=>.bad
  |some ⟨true,.maplp k0 c e ke s0⟩=>match s0.beq s,jF c v with
   |true,some ve=>.skip (uo st b k0 c (CG e ke ve))
   |_,_=>.bad
  |_=>.bad
 |_,_=>.bad
def AK(tb:Tab)(st:St)(t:TypeId)(x k:SV):Eff2:=
 match tb.und t with
 |some (.map kt _)=>match x,pm tb kt k with
  |.nilm,true=>.val .undef st
  |.map b,true=>match st.heap.get b with
   |some ⟨true,.map es clk⟩=>match nf tb st.pc kt k es 0 with
    |.at i _ _=>.val .undef (qX st b (vI es i) clk)
    |.no=>.val .undef st
    |.ask e=>.ask e
    |.bad=>.bad
   |some ⟨true,.mapl k0 c e⟩=>match k with
    |.int k1 ke=>match eM k1 k0 with
     |true=>.val .undef (uo st b k0 c (.fn 35 (.pr e ke)))
     |false=>.bad
    |_=>.bad
   |_=>.bad
  |_,_=>.bad
 |_=>.bad
def oY(tb:Tab)(tmps:Tm)(st:St)(v:SV)(yes:Bool):Eff2:=
 match v with
 |.nslice b len _=>match st.heap.get b with
  |some ⟨_,.cells _ _ _⟩=>.val (.bool (.bool (!yes))) st
  |some ⟨_,.flat _ _ n af _⟩=>match jV tb.facts st.pc (.int 0) af||jV tb.facts st.pc (.int 0) n with
   |true=>.val (.bool (.bool (!yes))) st
   |false=>match ga tmps st&&n.scp st.nv with
    |true=>.val (.bool (match yes with | true=>.var st.nv | false=>.not (.var st.nv))) {st with nv:=Nat.succ st.nv,pc:=.imp (.var st.nv) (aD .eql n (.int 0))::st.pc}
    |false=>.bad
  |_=>.bad
 |.bsl ks e=>match Nat.blt 0 (aN ks)with
  | true=>.val (.bool (match yes with | true=>.fn 31 e | false=>.not (.fn 31 e))) (match yT (gz (aN ks) e)with
    |true=>{st with pc:=.imp (.fn 31 e) (aD .eql (gz (aN ks) e) (.int 0))::.imp (.fn 31 e) (aD .eql (.fn 0 e) (.int 0))::st.pc}
    |false=>st)
  |false=>.bad
 |_=>.bad
def tH:SV->Bool
 |.nils=>true
 |_=>false
def zd:List SV->Option (List UInt8)
 |[]=>some []
 |v::vs=>match v with
  |.int .u8 (.int (.ofNat n))=>match zd vs with
   |some l=>match Nat.blt n 256 with
    |true=>some (UInt8.ofNat n::l)
    |false=>none
   |none=>none
  |_=>none
def DC(tb:Tab)(st:St)(src dst:TypeId)(v:SV):Eff2:=
 match tb.und src,tb.und dst with
 |some (.slice e),some .string=>match tb.und e with
  |some (.int .u8)=>match v with
   |.nils=>.val (.str (.str ByteArray.empty)) st
   |_=>match tI tb st 1 v with
    |some (.cells vs)=>match zd vs with
     |some l=>.val (.str (.str ⟨l.toArray⟩)) st
     |none=>.bad
    |some (.list ks l _)=>match ks with
     |[.int .u8]=>.val (.str (.fn 41 l)) st
     |_=>.bad
    |none=>sV (zK tb st 1 v)
  |_=>.bad
 |_,_=>.bad
def ur:List UInt8->List E
 |[]=>[]
 |b::l=>.int (.ofNat b.toNat)::ur l
def Aj(tb:Tab)(tmps:Tm)(st:St)(src dst:TypeId)(v:SV):Eff2:=
 match tb.und src,tb.und dst with
 |some .string,some (.slice e)=>match tb.und e with
  |some (.int .u8)=>match v with
   |.str (.str s)=>match ga tmps st with
    |true=>.val (.bsl [.int .u8] (.fn 28 (.pr (.pr (.var st.nv) (.int (.ofNat s.size))) (eT (ur s.data.toList))))) {st with nv:=Nat.succ st.nv}
    |false=>.bad
   |_=>.bad
  |_=>.bad
 |_,_=>DC tb st src dst v
def HH(tb:Tab)(tmps:Tm)(st:St)(t:TypeId)(x:SV):Eff2:=
 match tb.und t,x with
 |some (.map _ _),.map b=>match st.heap.get b with
  |some ⟨true,.mapl k c e⟩=>match dR tb.facts st.pc (.fn 39 e),ga tmps st with
   |some true,true=>T.setK st.heap b ⟨true,.gone⟩ fun h=>T.insK h st.nb ⟨true,.iter k c e (.fn 0 e) none⟩ fun h=>.val (.ptr st.nb ⟨0,0,.int 0⟩) {st with nb:=Nat.succ st.nb,heap:=h}
   |some true,false=>.bad
   |_,_=>.lack (.fn 39 e)
  |_=>.bad
 |_,_=>.bad
def GK(tb:Tab)(tmps:Tm)(st:St)(x:SV)(str:Bool):Eff2:=
 match str,x with
 |false,.ptr b o=>match gn o with
  |some 0=>match st.heap.get b with
   |some ⟨true,.iter k c e n _⟩=>match dR tb.facts st.pc (aD .eql n (.int 0))with
    |some true=>.val (.tup [.bool (.bool false)]) st
    |some false=>match ga tmps st with
     |true=>T.setK st.heap b ⟨true,.iter k c e (cR n (.int (-1))) (some (.var st.nv))⟩ fun h=>
       .val (.tup [.bool (.bool true),.int k (.var st.nv),lL c (.fn 32 (.pr e (.pr (.var st.nv) (.int 0))))]) {st with nv:=Nat.succ st.nv,heap:=h,pc:=.fn 33 (.pr e (.var st.nv))::st.pc}
     |false=>.bad
    |none=>.ask (aD .eql n (.int 0))
   |_=>.bad
  |_=>.bad
 |_,_=>.bad
def Jc(st:St)(x:SV):Eff2:=
 match x with
 |.ptr b o=>match gn o with
  |some 0=>match st.heap.get b with
   |some ⟨true,.iter k c e _ (some u)⟩=>.val (.tup [.int k u,lL c (.fn 32 (.pr e (.pr u (.int 0))))]) st
   |_=>.bad
  |_=>.bad
 |_=>.bad
def Kk(tb:Tab)(tmps:Tm)(st:St)(t:TypeId)(x:Operand):Eff2:=
 match bq tmps x with
  |some v=>HH tb tmps st t v
  |none=>.bad
def KF(tb:Tab)(tmps:Tm)(st:St)(x:Operand)(str:Bool):Eff2:=
 match bq tmps x with
  |some v=>GK tb tmps st v str
  |none=>.bad
def L3(tb:Tab)(tmps:Tm)(st:St)(x:Operand):Eff2:=
 match bq tmps x with
  |some v=>Jc st v
  |none=>.bad
def Cl(st:St)(n len cap af l:E):Bool:=
 n.beq len&&(cap.beq af&&(st.scp&&(l.scp st.nv&&(len.scp st.nv&&cap.scp st.nv))))
def yW(ks0:List CK)(fs:List E)(p:SV×St):SV×St:=
 match p.1 with
 |.nils=>(.bsl ks0 (.fn 30 (.int 0)),p.2)
 |.nslice _ (.int 0) (.int 0)=>match p.2.scp with
  |true=>(.bsl ks0 (.fn 28 (.pr (.pr (.var p.2.nv) (.int 0)) (.fn 10 (.int 0)))),{p.2 with nv:=Nat.succ p.2.nv})
  |false=>p
 |.nslice b len cap=>match p.2.heap.get b with
  |some ⟨true,.flat ks l n af _⟩=>match Cl p.2 n len cap af l with
   |true=>T.setK p.2.heap b ⟨true,.gone⟩ fun h=>(.bsl ks (.fn 28 (.pr (.pr (.var p.2.nv) len) l)),{p.2 with nv:=Nat.succ p.2.nv,heap:=h})
   |false=>p
  |_=>p
 |.slice _ _ (.int 0) (.int 0)=>match p.2.scp with
  |true=>(.bsl ks0 (.fn 28 (.pr (.pr (.var p.2.nv) (.int 0)) (.fn 10 (.int 0)))),{p.2 with nv:=Nat.succ p.2.nv})
  |false=>p
 |_=>p
inductive FM where
 |stay
 |down (ks:List CK)
 |up (ks:List CK) (el:TypeId)
 deriving Inhabited
def sh(ks:List CK)(el:TypeId)(v:SV)(st:St):SV×St:=
 match st.scp&&Nat.blt 0 (aN ks)with
 |true=>T.insK st.heap st.nb ⟨true,.flat ks (.fn 10 (.int 0)) (.int 0) (.int 0) el⟩ fun h=>(.nslice st.nb (.int 0) (.int 0),{st with nb:=Nat.succ st.nb,heap:=h})
 |false=>(v,st)
def vV(ks0:List CK)(el:TypeId)(fs:List E)(v:SV)(st:St):SV×St:=
 match v with
 |.nils=>sh ks0 el v st
 |.bsl ks e=>match Nat.blt 0 (aN ks)&&(nU fs st.pc (gz (aN ks) e)&&nU fs st.pc (oX e))with
  |true=>sh ks0 el v st
  |false=>(v,st)
 |_=>(v,st)
def vU(m:FM)(fs:List E)(v:SV)(st:St):SV×St:=
 match m with
 |.stay=>(v,st)
 |.down ks=>yW ks fs (v,st)
 |.up ks el=>vV ks el fs v st
def i3(fs:List E):List FM->List SV->St->List SV×St
 |m::ms,v::vs,st=>match m with
  |.stay=>match v.scp st.nv st.nb with
   |true=>match i3 fs ms vs st with
    |(vs',st')=>(v::vs',st')
   |false=>(v::vs,st)
  |_=>match vU m fs v st with
   |(v',st1)=>match v'.scp st1.nv st1.nb&&SV.scps st.nv st.nb vs with
    |true=>match i3 fs ms vs st1 with
     |(vs',st')=>(v'::vs',st')
    |false=>(v::vs,st)
 |_,vs,st=>(vs,st)
def me(ms:List FM)(fs:List E)(v:SV)(st:St):SV×St:=
 match v with
 |.agg cs=>match i3 fs ms cs st with
  |(cs',st')=>(.agg cs',st')
 |v=>match ms with
  |m::_=>vU m fs v st
  |[]=>(v,st)
def kF(ms:List FM)(fs:List E)(p:SV×St):SV×St:=
 match p.1 with
 |.tup vs=>match vs with
  |v::vs=>match me ms fs v p.2 with
   |(v',st1)=>match SV.scps p.2.nv p.2.nb vs with
    |true=>(.tup (v'::vs),st1)
    |false=>p
  |[]=>p
 |v=>me ms fs v p.2
def mK:List CK->List FM
 |[]=>[]
 |c::cs=>match c with
  |.slc ks=>.down ks::mK cs
  |_=>.stay::mK cs
def xR(tb:Tab)(tmps:Tm)(st:St)(elem:TypeId)(b:Nat)(s x:SV):Option St:=
 match st.heap.get b with
 |some ⟨true,.cells vs af e⟩=>match qC tb 12 elem with
  |some ks=>match iV st.nv st.nb tmps&&(s.scp st.nv st.nb&&(x.scp st.nv st.nb&&af.scp st.nv))with
   |true=>match i3 tb.facts (mK (mM ks (Nat.div (aN vs) (aN ks)))) vs st with
    |(vs',st')=>match st'.heap.get b with
     |some ⟨true,.cells _ _ _⟩=>some (T.setK st'.heap b ⟨true,.cells vs' af e⟩ fun h=>{st' with heap:=h})
     |_=>none
   |false=>none
  |none=>none
 |_=>none
def xv(tb:Tab)(tmps:Tm)(st:St)(t xt:TypeId)(s x:SV):Eff2:=
 match tb.und t with
 | some (.slice elem)=>match (match x with
   |.slice b _ _ _=>xR tb tmps st elem b s x
   |.nslice b _ _=>xR tb tmps st elem b s x
   |_=>none)with
  |some st'=>sm tb tmps st' t xt s x
  |none=>.bad
 |_=>.bad
def Lk(tb:Tab)(tmps:Tm)(st:St)(t xt:TypeId)(s x:SV):Eff2:=
 match pt tO tb.facts with
 |true=>match xv tb tmps st t xt s x with
  |.bad=>sm tb tmps st t xt s x
  |r=>r
 |false=>match sm tb tmps st t xt s x with
  |.bad=>xv tb tmps st t xt s x
  |r=>r
def sW(tb:Tab)(tmps:Tm)(st:St)(t:TypeId)(p v:SV):Eff2:=
 match p,v with
 |.ptr b o,.nslice b2 len cap=>match st.heap.get b,st.heap.get b2 with
  |some ⟨true,.nest ks l n af elem⟩,some ⟨true,.flat ks2 l2 n2 tot2 _⟩=>match oq tb.facts st.pc (aN ks) n o with
   |.at idx j=>match dm ks j with
    |some (.slc ks')=>match ft ks' ks2&&Cl st n2 len cap tot2 l2&&iV st.nv st.nb tmps&&p.scp st.nv st.nb with
     |true=>match cj tb t with
      |some 1=>T.setK st.heap b2 ⟨true,.gone⟩ fun h=>T.setK h b ⟨true,.nest ks (jc l (dx (aN ks) idx j) (.fn 28 (.pr (.pr (.var st.nv) len) l2))) n af elem⟩ fun h=>.skip {st with nv:=Nat.succ st.nv,heap:=h}
      |_=>.bad
     |false=>.bad
    |_=>.bad
   |.lack e=>.lack e
   |.bad=>.bad
  |_,_=>.bad
 |_,_=>.bad
def alP(st:St)(p:SV):Bool:=
 match p with
 |.ptr b _=>match st.heap.get b with
  |some ⟨_,.nest _ _ _ _ _⟩=>true
  |_=>false
 |_=>false
def LR(tb:Tab)(tmps:Tm)(st:St)(t:TypeId)(x:Operand)(y:Operand):Eff2:=
  match bq tmps x,bq tmps y with
  |some p,some v=>match alP st p with
   |true=>sW tb tmps st t p v
   |false=>match qC tb 12 t with
    | some ks=>match iV st.nv st.nb tmps&&p.scp st.nv st.nb with
      | true=>match kF (mK ks) tb.facts (v,st)with
        | (v',st')=>match qQ tb st' t p v' with
          |.skip st''=> .skip st''
          |.lack e=> .lack e
          |_=> .bad
      |false=> .bad
    |none=> .bad
  |_,_=> .bad
def Mr(tb:Tab)(tmps:Tm)(st:St)(t:TypeId)(n:Operand)(c:Operand):Eff2:=
 match bq tmps n,bq tmps c with
  |some a,some b=>B8 tb tmps st t a b
  |_,_=>.bad
def KA(tb:Tab)(tmps:Tm)(st:St)(t:TypeId)(r:Option Operand):Eff2:=
 match r with
  |none=>match ga tmps st with
   |true=>T.insK st.heap st.nb ⟨true,.map [] (.int 0)⟩ fun h=>.val (.map st.nb) {st with nb:=Nat.succ st.nb,heap:=h}
   |false=>.bad
  |some _=>.bad
def In(tb:Tab)(tmps:Tm)(st:St)(t:TypeId)(m:Operand)(k:Operand)(x:Operand):Eff2:=
 match bq tmps m,bq tmps k,bq tmps x with
  |some a,some b,some c=>xG tb st t a b c
  |_,_,_=>.bad
def HU(tb:Tab)(tmps:Tm)(st:St)(t:TypeId)(m:Operand)(k:Operand)(x:Operand):Eff2:=
 match bq tmps m,bq tmps k,bq tmps x with
  |some a,some b,some c=>xG tb st t a b c
  |_,_,_=>.bad
def Gx(tb:Tab)(tmps:Tm)(st:St)(t:TypeId)(m:Operand)(k:Operand):Eff2:=
 match bq tmps m,bq tmps k with
  |some a,some b=>Bc tb tmps st t a b
  |_,_=>.bad
def Kg(tb:Tab)(tmps:Tm)(st:St)(m:Operand)(s:Operand)(x:Operand):Eff2:=
 match bq tmps m,bq tmps s,bq tmps x with
  |some a,some b,some c=>DS st a b c
  |_,_,_=>.bad
def IS(tb:Tab)(tmps:Tm)(st:St)(op:BinOp)(t:TypeId)(x:Operand)(y:Operand):Eff2:=
 match yP tb t,bq tmps x,bq tmps y with
  |true,some a,some b=>match op with
   |.eql=>match tH b with
    |true=>oY tb tmps st a true
    |false=>match tH a with | true=>oY tb tmps st b true | false=>.bad
   |.neq=>match tH b with
    |true=>oY tb tmps st a false
    |false=>match tH a with | true=>oY tb tmps st b false | false=>.bad
   |_=>.bad
  |_,_,_=>.bad
def Ih(tb:Tab)(tmps:Tm)(st:St)(src:TypeId)(dst:TypeId)(x:Operand):Eff2:=
 match bq tmps x with
  |some v=>Aj tb tmps st src dst v
  |none=>.bad
def Lr(tb:Tab)(tmps:Tm)(st:St)(c:Call):Eff2:=
 match c.callee with
  |.builtin b=>match i0 (bq tmps) c.args.toList with
   |some [v,w]=>match b with
    |.append=>match c.argTypes.toList with
     |[t,xt]=>Lk tb tmps st t xt v w
     |_=>.bad
    |.copy=>match c.argTypes.toList with
     |[t,xt]=>B1 tb st t xt v w
     |_=>.bad
    |.delete=>match c.argTypes.toList with
     |t::_=>AK tb st t v w
     |_=>.bad
    |_=>.bad
   |some [v]=>match b with
    |.clear=>match c.argTypes.toList with
     |[t]=>AW tb st t v
     |_=>.bad
    |_=>.bad
   |_=>.bad
  |_=>.bad
noncomputable def xX(tb:Tab)(tmps:Tm)(st:St)(o:Op):Eff2:=
 Op.rec (motive:=fun _=>Eff2)
  (fun _=>.bad)
  (fun _=>.bad)
  (fun _ _ _=>.bad)
  (fun _=>.bad)
  (fun _ _=>.bad)
  (fun _ _=>.bad)
  (fun _ _ _=>.bad)
  (fun t m k x=>HU tb tmps st t m k x)
  (fun _ _=>.bad)
  (fun t x y=>LR tb tmps st t x y)
  (fun _=>.bad)
  (fun _=>.bad)
  (fun _=>.bad)
  (fun op t x y _=>IS tb tmps st op t x y)
  (fun _ _ _=>.bad)
  (fun src dst x=>Ih tb tmps st src dst x)
  (fun _ _=>.bad)
  (fun _ _=>.bad)
  (fun _ _ _=>.bad)
  (fun t r=>KA tb tmps st t r)
  (fun _ _=>.bad)
  (fun t n c=>Mr tb tmps st t n c)
  (fun _ _ _ _ _=>.bad)
  (fun _ _ _=>.bad)
  (fun _ _ _=>.bad)
  (fun _ _ _=>.bad)
  (fun _ _ _=>.bad)
  (fun _ _ _ _=>.bad)
  (fun t m k x=>In tb tmps st t m k x)
  (fun t m k=>Gx tb tmps st t m k)
  (fun _ m s x=>Kg tb tmps st m s x)
  (fun t x=>Kk tb tmps st t x)
  (fun x s=>KF tb tmps st x s)
  (fun x=>L3 tb tmps st x)
  (fun _ _ _ _=>.bad)
  (fun _ _=>.bad)
  (fun c=>Lr tb tmps st c)
  (fun _=>.bad)
  (fun _=>.bad)
  (fun _=>.bad)
  (fun _ _=>.bad)
  (fun _ _ _=>.bad)
  (fun _ _=>.bad)
  o
theorem azM(tb:Tab)(tmps:Tm)(st:St)(o:Op):xX tb tmps st o=(match o with
 |.makeSlice t n c=>Mr tb tmps st t n c
 |.makeMap t r=>KA tb tmps st t r
 |.mapUpdate t m k x=>In tb tmps st t m k x
 |.insert t m k x=>HU tb tmps st t m k x
 |.mapEntry t m k=>Gx tb tmps st t m k
 |.entryStore _ m s x=>Kg tb tmps st m s x
 |.range t x=>Kk tb tmps st t x
 |.next x s=>KF tb tmps st x s
 |.entry x=>L3 tb tmps st x
 |.binOp op t x y _=>IS tb tmps st op t x y
 |.convert src dst x=>Ih tb tmps st src dst x
 |.call c=>Lr tb tmps st c
 |.store t x y=>LR tb tmps st t x y
 |_=>.bad):=by cases o<;>rfl
structure Node where
 listed:Nat
 left:Nat
 tmps:Tm
 st:St
 deriving Inhabited
abbrev aO:=Option (List Out)
abbrev eF:=Tm->St->aO
structure Info where
 wait:Nat
 reads:Nat
 dst:Nat
inductive Task where
 |code (g:FuncId) (c:Code)
 |rounds (g:FuncId) (c:Code)
 |call (f:FuncId) (args:List SV)
 |draw (all:List Oper) (n:Nat)
 |layer (all:List Oper) (infos:List Info) (l:List Node)
def gc(a b:aO):aO:=
 match a with
 |some l=>match b with
  |some m=>some (l++m)
  |none=>none
 |none=>none
def ja:List Edge->Nat
 |[]=>0
 |e::es=>match Region.binds .any e with
  |true=>Nat.lor (Nat.pow 2 e.on) (ja es)
  |false=>ja es
def nG:List Operand->Nat
 |[]=>0
 |x::xs=>match x with
  |.tmp t=>Nat.lor (Nat.pow 2 t) (nG xs)
  |_=>nG xs
def Dc(all:List Oper)(j:Nat):Option Tmp:=match dm all j with | some o=>o.dst | none=>none
def Aw:Option Tmp->Nat
 |some t=>Nat.pow 2 t
 |none=>0
def WE(all:List Oper)(o:Oper):Nat:=
 match o.guard with
 |some (j,_)=>Aw (Dc all j)
 |none=>0
def bK(all:List Oper)(o:Oper):Info:=
 ⟨ja o.after.toList,Nat.lor (WE all o) (nG o.op.operands.toList),Aw o.dst⟩
def aS(all:List Oper):List Oper->List Info
 |[]=>[]
 |o::os=>bK all o::aS all os
def fC(listed:Nat):List Oper->List Info->Nat->List (Nat×Oper×Info)
 |o::os,m::ms,i=>match Nat.testBit listed i with
  |true=>fC listed os ms (Nat.succ i)
  |false=>match Nat.beq (Nat.land m.wait listed) m.wait with
   |true=>(i,o,m)::fC listed os ms (Nat.succ i)
   |false=>fC listed os ms (Nat.succ i)
 |_,_,_=>[]
def lQ(listed i:Nat)(x:Info):List Info->Nat->Bool
 |[],_=>true
 |m::ms,j=>match Nat.testBit listed j with
  |true=>lQ listed i x ms (Nat.succ j)
  |false=>match Nat.beq i j with
   |true=>lQ listed i x ms (Nat.succ j)
   |false=>match Nat.testBit m.wait i with
    |true=>lQ listed i x ms (Nat.succ j)
    |false=>match Nat.beq (Nat.land x.dst m.reads) 0 with
     |true=>match Nat.beq (Nat.land x.dst m.dst) 0 with
      |true=>match Nat.beq (Nat.land m.dst x.reads) 0 with
       |true=>lQ listed i x ms (Nat.succ j)
       |false=>false
      |false=>false
     |false=>false
def CX(tb:Tab)(tmps:Tm)(c:Call):Option (FuncId×List SV):=
 match c.callee with
 |.value f=>match bq tmps f,i0 (bq tmps) c.args.toList with
  |some (.func (.func f) fi ca),some vs=>match tb.fn.get f with
   |some fn=>match fn.body with
    |some _=>some (f,fi++(vs++ca))
    |none=>none
   |none=>none
  |_,_=>none
 |_=>none
inductive Want where
 |yes | no | bad | ask (slot:Tmp) (e:E) (want:Bool)
def vE(all:List Oper)(tmps:Tm)(o:Oper):Want:=
 match o.guard with
 |none=>.yes
 |some (j,want)=>match Dc all j with
  |some t=>match tmps.get t with
   |some (.bool e)=>match e with
    |.bool b=>match l6 b want with | true=>.yes | false=>.no
    |_=>.ask t e want
   |some .junk=>.bad
   |_=>.no
  |none=>.no
def d7{J:Type}(tmps:Tm)(d:Option Tmp)(v:SV)(k:Tm->J):J:=
 match d with
 |none=>k tmps
 |some t=>T.setK tmps t v k
def jO(tb:Tab)(st:St)(tmps:Tm):List ResultVar->Option (List SV)
 |[]=>some []
 |.tmp t::rs=>match jO tb st tmps rs with
  |some l=>match tmps.get t with
   |some v=>match v with
    |.junk=>none
    |_=>some (v::l)
   |none=>some (.undef::l)
  |none=>none
 |.cell a t::rs=>match tmps.get a with
  |some x=>match tw tb st t x,jO tb st tmps rs with
   |some v,some l=>some (v::l)
   |_,_=>none
  |none=>none
def pT:List SV->SV
 |[v]=>v
 |vs=>.tup vs
def MV:Fn->Fn->Bool
 |.func a,.func b=>Nat.beq a b
 |_,_=>false
mutual
def SV.beq:SV->SV->Bool
 |.int k e,.int k' e'=>eM k k'&&e.beq e'
 |.bool e,.bool e'=>e.beq e'
 |.str e,.str e'=>e.beq e'
 |.nilp,.nilp | .nils,.nils | .nilm,.nilm | .nili,.nili | .nilf,.nilf=>true
 |.ptr b o,.ptr b' o'=>Nat.beq b b'&&Nat.beq o.base o'.base&&Nat.beq o.scale o'.scale&&o.idx.beq o'.idx
 |.slice b o l c,.slice b' o' l' c'=>Nat.beq b b'&&Nat.beq o.base o'.base&&Nat.beq o.scale o'.scale&&o.idx.beq o'.idx&&l.beq l'&&c.beq c'
 |.map b,.map b'=>Nat.beq b b'
 |.nslice b l c,.nslice b' l' c'=>Nat.beq b b'&&l.beq l'&&c.beq c'
 |.bsl ks e,.bsl ks' e'=>ft ks ks'&&e.beq e'
 |.bptr ks e i j,.bptr ks' e' i' j'=>ft ks ks'&&e.beq e'&&i.beq i'&&Nat.beq j j'
 |.func fn fi ca,.func fn' fi' ca'=>MV fn fn'&&SV.beqs fi fi'&&SV.beqs ca ca'
 |.agg cs,.agg cs'=>SV.beqs cs cs'
 |.tup cs,.tup cs'=>SV.beqs cs cs'
 |.junk,.junk=>true
 |.nsl b ks e i c,.nsl b' ks' e' i' c'=>Nat.beq b b'&&ft ks ks'&&e.beq e'&&i.beq i'&&Nat.beq c c'
 |.nptr b ks e i c x j,.nptr b' ks' e' i' c' x' j'=>Nat.beq b b'&&ft ks ks'&&e.beq e'&&i.beq i'&&Nat.beq c c'&&x.beq x'&&Nat.beq j j'
 |_,_=>false
def SV.beqs:List SV->List SV->Bool
 |[],[]=>true
 |x::xs,y::ys=>x.beq y&&SV.beqs xs ys
 |_,_=>false
end
def uw:List Ent->List Ent->Bool
 |[],[]=>true
 |x::xs,y::ys=>x.k.beq y.k&&(x.v.beq y.v&&(x.born.beq y.born&&uw xs ys))
 |_,_=>false
def abY:Option E->Option E->Bool
 |none,none=>true
 |some a,some b=>a.beq b
 |_,_=>false
def SObj.beq:SObj->SObj->Bool
 |.gone,.gone=>true
 |.cells cs t e,.cells cs' t' e'=>Nat.beq e e'&&t.beq t'&&SV.beqs cs cs'
 |.flat ks l n t e,.flat ks' l' n' t' e'=>Nat.beq e e'&&l.beq l'&&n.beq n'&&t.beq t'&&ft ks ks'
 |.map es c,.map es' c'=>c.beq c'&&uw es es'
 |.mapl k c e,.mapl k' c' e'=>eM k k'&&c.beq c'&&e.beq e'
 |.maplp k c e ke s,.maplp k' c' e' ke' s'=>eM k k'&&c.beq c'&&e.beq e'&&ke.beq ke'&&s.beq s'
 |.iter k c e n u,.iter k' c' e' n' u'=>eM k k'&&c.beq c'&&e.beq e'&&n.beq n'&&abY u u'
 |.nest ks l n t e,.nest ks' l' n' t' e'=>Nat.beq e e'&&l.beq l'&&n.beq n'&&t.beq t'&&ft ks ks'
 |_,_=>false
def T.beq{G:Type}(f:G->G->Bool):T G->T G->Bool
 |.nil,.nil=>true
 |.node v l r,.node v' l' r'=>f v v'&&T.beq f l l'&&T.beq f r r'
 |_,_=>false
def Blk.beq(x y:Blk):Bool:=l6 x.own y.own&&x.obj.beq y.obj
def vu:List E->List E->Bool
 |[],[]=>true
 |x::xs,y::ys=>x.beq y&&vu xs ys
 |_,_=>false
def St.beq(a b:St):Bool:=Nat.beq a.nv b.nv&&Nat.beq a.nb b.nb&&vu a.pc b.pc&&T.beq Blk.beq a.heap b.heap
def Node.beq(a b:Node):Bool:=
 Nat.beq a.listed b.listed&&Nat.beq a.left b.left&&T.beq SV.beq a.tmps b.tmps&&a.st.beq b.st
def wB:List Node->Node->Bool
 |[],_=>false
 |x::xs,n=>match x.beq n with | true=>true | false=>wB xs n
def kU{J:Type}(P:Program)(tb:Tab)(all:List Oper)(infos:List Info):List Oper->List Info->Nat->Nat->Nat->Tm->(Nat->Nat->Tm->J)->J
 |o::os,m::ms,i,listed,left,tmps,k=>
  match Nat.testBit listed i with
  |true=>kU P tb all infos os ms (Nat.succ i) listed left tmps k
  |false=>match Nat.beq (Nat.land m.wait listed) m.wait with
   |true=>match left with
    |0=>k listed left tmps
    |left'+1=>match vE all tmps o with
     |.yes=>match rG P tb (bq tmps) o.op with
      |some v=>match lQ listed i m infos 0 with
       |true=>d7 tmps o.dst v fun tmps=>eZ (Nat.lor (Nat.pow 2 i) listed) fun listed=>kU P tb all infos os ms (Nat.succ i) listed left' tmps k
       |false=>kU P tb all infos os ms (Nat.succ i) listed left tmps k
      |none=>kU P tb all infos os ms (Nat.succ i) listed left tmps k
     |.no=>match lQ listed i m infos 0 with
      |true=>d7 tmps o.dst .undef fun tmps=>eZ (Nat.lor (Nat.pow 2 i) listed) fun listed=>kU P tb all infos os ms (Nat.succ i) listed left' tmps k
      |false=>kU P tb all infos os ms (Nat.succ i) listed left tmps k
     |_=>kU P tb all infos os ms (Nat.succ i) listed left tmps k
   |false=>kU P tb all infos os ms (Nat.succ i) listed left tmps k
 |_,_,_,listed,left,tmps,k=>k listed left tmps
def sS(acc:List Node)(x:Node):List Node:=match wB acc x with | true=>acc | false=>x::acc
def nC(P:Program)(tb:Tab)(all:List Oper)(infos:List Info)(listed left:Nat):List Out->List Node->List Node
 |[],acc=>acc
 |o::os,acc=>kU P tb all infos all infos 0 listed left o.tmps fun listed' left' tmps=>
  nC P tb all infos listed left os (sS acc ⟨listed',left',tmps,o.st⟩)
def qH(_:String):aO:=none
def CA(_:String)(_:St)(_:E):aO:=none
abbrev bJ:=Task->Tm->St->(Out->aO)->aO
def aeT(o:Op):String:=
 match o with
 |.load _ _=> "load" | .store _ _ _=> "store" | .move _=> "move" | .assign _=> "assign" | .pick _ _ _=> "pick" | .nilCheck _=> "nilCheck" | .binOp _ _ _ _ _=> "binOp" | .unOp _ _ _=> "unOp" | .convert _ _ _=> "convert"
 |.fieldAddr _ _ _=> "fieldAddr" | .field _ _ _=> "field" | .indexAddr _ _ _=> "indexAddr" | .index _ _ _=> "index" | .extract _ _=> "extract" | .build _ _=> "build" | .makeFunc _ _ _=> "makeFunc" | .slice _ _ _ _ _=> "slice"
 |.box _ _=> "box" | .alloc _=> "alloc" | .buildSlice _ _ _=> "buildSlice" | .insert _ _ _ _=> "insert" | .ready _=> "ready" | .waits _=> "waits" | .sliceToArrayPointer _ _=> "sliceToArrayPointer" | .makeInterface _ _=> "makeInterface" | .makeMap _ _=> "makeMap" | .makeChan _ _=> "makeChan" | .makeSlice _ _ _=> "makeSlice" | .lookup _ _ _ _=> "lookup" | .mapUpdate _ _ _ _=> "mapUpdate" | .mapEntry _ _ _=> "mapEntry" | .entryStore _ _ _ _=> "entryStore" | .range _ _=> "range" | .next _ _=> "next" | .entry _=> "entry" | .typeAssert _ _ _ _=> "typeAssert" | .call _=> "call" | _=> "other"
def Blk.same(x y:Blk):Bool:=
 match x.obj with
 |.iter _ _ _ _ _=>false
 |_=>x.beq y
def mv:T Blk->T Blk->Bool
 |.nil,_=>true
 |.node v l r,.node v' l' r'=>match Blk.same v v' with
  |true=>match mv l l' with
   |true=>mv r r'
   |false=>false
  |false=>false
 |_,_=>false
mutual
def SV.plain:SV->Bool
 |.bsl _ _ | .bptr _ _ _ _ | .nsl _ _ _ _ _ | .nptr _ _ _ _ _ _ _=>false
 |.func _ fi ca=>SV.plains fi&&SV.plains ca
 |.agg cs | .tup cs=>SV.plains cs
 |_=>true
def SV.plains:List SV->Bool
 |[]=>true
 |v::vs=>v.plain&&SV.plains vs
end
structure Sub where
 n0:Nat
 es:List E
 b0:Nat
 bs:List Nat
def Lq(n0:Nat)(es:List E)(i:Nat):E:=
 match Nat.blt i n0 with
 |true=>.var i
 |false=>match dm es (Nat.sub i n0)with
  |some e=>e
  |none=>.var i
def Ct:E->Nat->Option E
 |.fn 23 (.pr x r),n=>match n with
  |0=>some x
  |n+1=>Ct r n
 |_,_=>none
def Fh(f:Nat)(a:E):E:=
 match f with
 |0=>gU a
 |6=>match a with
  |.pr (.int x) (.int y)=>.int (x+y)
  |_=>.fn f a
 |7=>match a with
  |.pr (.int x) (.int y)=>.int (x-y)
  |_=>.fn f a
 |1=>match a with
  |.pr l (.int (.ofNat n))=>match Ct l n with
   |some e=>e
   |none=>.fn f a
  |_=>.fn f a
 |_=>.fn f a
def Af(a:E):E:=
 match a with
 |.bool b=>.bool (!b)
 |_=>.not a
noncomputable def E.sub(n0:Nat)(es:List E)(e:E):E:=
 E.rec (motive:=fun _=>E)
  (fun n=>.int n)
  (fun b=>.bool b)
  (fun s=>.str s)
  (fun i=>Lq n0 es i)
  (fun o k _ _ ia ib=>iC o k ia ib)
  (fun o _ _ ia ib=>aD o ia ib)
  (fun _ _ ia ib=>qR ia ib)
  (fun _ _ ia ib=>mh ia ib)
  (fun k _ ia=>rh k ia)
  (fun _ ia=>Af ia)
  (fun _ _ ia ib=>.and ia ib)
  (fun _ _ ia ib=>lR ia ib)
  (fun _ _ ia ib=>.iff ia ib)
  (fun _ _ ia ib=>.imp ia ib)
  (fun f _ ia=>Fh f ia)
  (fun _ _ ia ib=>.pr ia ib)
  e
theorem E.sub_eq_ar(n0:Nat)(es:List E)(o:BinOp)(k:IntKind)(a:E)(b:E):(E.ar o k a b).sub n0 es=iC o k (a.sub n0 es) (b.sub n0 es):=rfl
theorem E.sub_eq_cmp(n0:Nat)(es:List E)(o:BinOp)(a:E)(b:E):(E.cmp o a b).sub n0 es=aD o (a.sub n0 es) (b.sub n0 es):=rfl
theorem E.sub_eq_mn(n0:Nat)(es:List E)(a:E)(b:E):(E.mn a b).sub n0 es=qR (a.sub n0 es) (b.sub n0 es):=rfl
theorem E.sub_eq_mx(n0:Nat)(es:List E)(a:E)(b:E):(E.mx a b).sub n0 es=mh (a.sub n0 es) (b.sub n0 es):=rfl
theorem E.sub_eq_wr(n0:Nat)(es:List E)(k:IntKind)(a:E):(E.wr k a).sub n0 es=rh k (a.sub n0 es):=rfl
theorem E.sub_eq_not(n0:Nat)(es:List E)(a:E):(E.not a).sub n0 es=Af (a.sub n0 es):=rfl
theorem E.sub_eq_and(n0:Nat)(es:List E)(a:E)(b:E):(E.and a b).sub n0 es=.and (a.sub n0 es) (b.sub n0 es):=rfl
theorem E.sub_eq_seq(n0:Nat)(es:List E)(a:E)(b:E):(E.seq a b).sub n0 es=lR (a.sub n0 es) (b.sub n0 es):=rfl
theorem E.sub_eq_iff(n0:Nat)(es:List E)(a:E)(b:E):(E.iff a b).sub n0 es=.iff (a.sub n0 es) (b.sub n0 es):=rfl
theorem E.sub_eq_imp(n0:Nat)(es:List E)(a:E)(b:E):(E.imp a b).sub n0 es=.imp (a.sub n0 es) (b.sub n0 es):=rfl
theorem E.sub_eq_fn(n0:Nat)(es:List E)(f:Nat)(a:E):(E.fn f a).sub n0 es=Fh f (a.sub n0 es):=rfl
theorem E.sub_eq_pr(n0:Nat)(es:List E)(a:E)(b:E):(E.pr a b).sub n0 es=.pr (a.sub n0 es) (b.sub n0 es):=rfl
def bL(b0:Nat)(bs:List Nat)(i:Nat):Nat:=
 match Nat.blt i b0 with
 |true=>i
 |false=>match dm bs (Nat.sub i b0)with
  |some j=>j
  |none=>i
def Off.sub(n0:Nat)(es:List E)(o:Off):Off:=⟨o.base,o.scale,o.idx.sub n0 es⟩
mutual
def SV.sub(z:Sub):SV->SV
 |.int k e=>.int k (e.sub z.n0 z.es)
 |.bool e=>.bool (e.sub z.n0 z.es)
 |.str e=>.str (e.sub z.n0 z.es)
 |.ptr b o=>.ptr (bL z.b0 z.bs b) (o.sub z.n0 z.es)
 |.slice b o l c=>.slice (bL z.b0 z.bs b) (o.sub z.n0 z.es) (l.sub z.n0 z.es) (c.sub z.n0 z.es)
 |.nslice b l c=>.nslice (bL z.b0 z.bs b) (l.sub z.n0 z.es) (c.sub z.n0 z.es)
 |.bsl ks e=>.bsl ks (e.sub z.n0 z.es)
 |.bptr ks e i j=>.bptr ks (e.sub z.n0 z.es) (i.sub z.n0 z.es) j
 |.nsl b ks e i c=>.nsl (bL z.b0 z.bs b) ks (e.sub z.n0 z.es) (i.sub z.n0 z.es) c
 |.nptr b ks e i c x j=>.nptr (bL z.b0 z.bs b) ks (e.sub z.n0 z.es) (i.sub z.n0 z.es) c (x.sub z.n0 z.es) j
 |.map b=>.map (bL z.b0 z.bs b)
 |.func fn fi ca=>.func fn (SV.subs z fi) (SV.subs z ca)
 |.agg cs=>.agg (SV.subs z cs)
 |.tup cs=>.tup (SV.subs z cs)
 |.nilp=>.nilp
 |.nils=>.nils
 |.nilm=>.nilm
 |.nili=>.nili
 |.nilf=>.nilf
 |.junk=>.junk
def SV.subs(z:Sub):List SV->List SV
 |[]=>[]
 |v::vs=>v.sub z::SV.subs z vs
end
def rX(z:Sub):List Ent->List Ent
 |[]=>[]
 |x::es=>⟨x.k.sub z,x.v.sub z,x.born.sub z.n0 z.es⟩::rX z es
def SObj.sub(z:Sub):SObj->SObj
 |.gone=>.gone
 |.cells cs af elem=>.cells (SV.subs z cs) (af.sub z.n0 z.es) elem
 |.flat ks l n af elem=>.flat ks (l.sub z.n0 z.es) (n.sub z.n0 z.es) (af.sub z.n0 z.es) elem
 |.map es c=>.map (rX z es) (c.sub z.n0 z.es)
 |.mapl k c e=>.mapl k c (e.sub z.n0 z.es)
 |.maplp k c e ke s=>.maplp k c (e.sub z.n0 z.es) (ke.sub z.n0 z.es) (s.sub z.n0 z.es)
 |.nest ks l n af elem=>.nest ks (l.sub z.n0 z.es) (n.sub z.n0 z.es) (af.sub z.n0 z.es) elem
 |.iter k c e n u=>.iter k c (e.sub z.n0 z.es) (n.sub z.n0 z.es) (match u with | none=>none | some x=>some (x.sub z.n0 z.es))
def wz(k:IntKind)(c:CK):List Ent->Option (List E)
 |[]=>some []
 |x::es=>match x.k with
  |.int k' ke=>match eM k' k,jF c x.v with
   |true,some ve=>match wz k c es with
    |some l=>some (.pr ke ve::l)
    |none=>none
   |_,_=>none
  |_=>none
def HQ(ks r:List CK):List CK:=match r with | []=>ks | x::xs=>x::xs
def OU(l:List CK):Option CK:=match l with | []=>none | c::_=>some c
def ahN(l:List CK):List CK:=match l with | []=>[] | _::r=>r
def zc(ks:List CK):List SV->List CK->Option (List E)
 |[],_=>some []
 |v::vs,r=>match OU (HQ ks r)with
  |none=>none
  |some c=>match jF c v with
   |some e=>match zc ks vs (ahN (HQ ks r))with
    |some l=>some (e::l)
    |none=>none
   |none=>none
def Ls(w:Nat)(af:E):Option E:=
 match w with
 |1=>some af
 |w=>match af with
  |.fn 8 (.pr c (.int (.ofNat m)))=>match Nat.beq m w with
   |true=>some c
   |false=>none
  |.int (.ofNat t)=>match Nat.beq (Nat.mul (Nat.div t w) w) t with
   |true=>some (.int (.ofNat (Nat.div t w)))
   |false=>none
  |_=>none
def ri(p x:SObj):Option SObj:=
 match p with
 |.mapl k c _=>match x with
  |.map es _=>match wz k c es with
   |some l=>some (.mapl k c (eT l))
   |none=>none
  |_=>none
 |.iter _ _ _ _ u=>match u with
  |none=>match x with
   |.iter k c e n _=>some (.iter k c e n none)
   |_=>none
  |some _=>none
 |.nest ks _ _ _ _=>match x with
  |.flat ks' l n af elem=>match ft ks ks'&&Nat.beq (aN ks) 1 with
   |true=>match l with
    |.fn 5 (.pr _ (.fn 30 _))=>some (.nest ks' l n af elem)
    |_=>none
   |false=>none
  |_=>none
 |.flat ks _ _ _ _=>match x with
  |.cells cs af elem=>match zc ks cs [],Ls (aN ks) af with
   |some l,some t=>match l with
    |[]=>match t with
     |.int (.ofNat m)=>match Nat.blt 0 (aN ks)with
      |true=>some (.flat ks (.fn 10 (.int 0)) (.int 0) (.int (.ofNat m)) elem)
      |false=>none
     |_=>none
    |_=>match Nat.beq (Nat.mul (Nat.div (aN cs) (aN ks)) (aN ks)) (aN cs)with
     |true=>some (.flat ks (eT l) (.int (.ofNat (Nat.div (aN cs) (aN ks)))) t elem)
     |false=>none
   |_,_=>none
  |_=>none
 |_=>none
def Tv:E->Option Nat
 |.fn 23 (.pr _ r)=>match Tv r with
  |some n=>some (Nat.succ n)
  |none=>none
 |.fn 10 _=>some 0
 |_=>none
def abN(e:E):E->E
 |.fn 23 (.pr x r)=>.fn 23 (.pr x (abN e r))
 |_=>.fn 23 (.pr e (.fn 10 (.int 0)))
def HM(y e:E):Nat->Nat->E
 |0,_=>.fn 23 (.pr e (.fn 10 (.int 0)))
 |n+1,j=>.fn 23 (.pr (.fn 1 (.pr y (.int (.ofNat j)))) (HM y e n (Nat.succ j)))
def aD8:E->Nat->Option E
 |.fn 1 (.pr y (.int (.ofNat k))),j=>match Nat.beq k j with
  |true=>some y
  |false=>none
 |_,_=>none
def aky(cur:E)(j:Nat)(e:E):E:=
 match Tv cur with
 |some n=>match Nat.beq n j with
  |true=>abN e cur
  |false=>cur
 |none=>match aD8 e j with
  |some y=>match y.beq cur with
   |true=>cur
   |false=>match j with
    |0=>y
    |_=>match cur with
     |.int _=>y
     |_=>HM cur e j 0
  |none=>HM cur e j 0
def ay4(n0 f:Nat)(a:E):Option (Nat×Nat):=
 match f with
 |1=>match a with
  |.pr (.var i) (.int (.ofNat j))=>match Nat.blt i n0 with
   |true=>none
   |false=>some (i,j)
  |_=>none
 |_=>none
def ayH(n0 i j:Nat)(e:E)(t:T E):T E:=
 match t.get (Nat.sub i n0)with
 |some cur=>t.set (Nat.sub i n0) (aky cur j e)
 |none=>t
noncomputable def E.go_ar(b:E)(f:BinOp->IntKind->E->E->T E->T E):T E->T E:=E.rec (motive:=fun _=>T E->T E) (fun _ t=>t) (fun _ t=>t) (fun _ t=>t) (fun _ t=>t) (fun x0 x1 x2 x3 _ _=>f x0 x1 x2 x3) (fun _ _ _ _ _ t=>t) (fun _ _ _ _ t=>t) (fun _ _ _ _ t=>t) (fun _ _ _ t=>t) (fun _ _ t=>t) (fun _ _ _ _ t=>t) (fun _ _ _ _ t=>t) (fun _ _ _ _ t=>t) (fun _ _ _ _ t=>t) (fun _ _ _ t=>t) (fun _ _ _ _ t=>t) b
noncomputable def E.go_fn(b:E)(f:Nat->E->T E->T E):T E->T E:=E.rec (motive:=fun _=>T E->T E) (fun _ t=>t) (fun _ t=>t) (fun _ t=>t) (fun _ t=>t) (fun _ _ _ _ _ _ t=>t) (fun _ _ _ _ _ t=>t) (fun _ _ _ _ t=>t) (fun _ _ _ _ t=>t) (fun _ _ _ t=>t) (fun _ _ t=>t) (fun _ _ _ _ t=>t) (fun _ _ _ _ t=>t) (fun _ _ _ _ t=>t) (fun _ _ _ _ t=>t) (fun x0 x1 _=>f x0 x1) (fun _ _ _ _ t=>t) b
noncomputable def E.go_pr(b:E)(f:E->E->T E->T E):T E->T E:=E.rec (motive:=fun _=>T E->T E) (fun _ t=>t) (fun _ t=>t) (fun _ t=>t) (fun _ t=>t) (fun _ _ _ _ _ _ t=>t) (fun _ _ _ _ _ t=>t) (fun _ _ _ _ t=>t) (fun _ _ _ _ t=>t) (fun _ _ _ t=>t) (fun _ _ t=>t) (fun _ _ _ _ t=>t) (fun _ _ _ _ t=>t) (fun _ _ _ _ t=>t) (fun _ _ _ _ t=>t) (fun _ _ _ t=>t) (fun x0 x1 _ _=>f x0 x1) b
noncomputable def E.go_not(b:E)(f:E->T E->T E):T E->T E:=E.rec (motive:=fun _=>T E->T E) (fun _ t=>t) (fun _ t=>t) (fun _ t=>t) (fun _ t=>t) (fun _ _ _ _ _ _ t=>t) (fun _ _ _ _ _ t=>t) (fun _ _ _ _ t=>t) (fun _ _ _ _ t=>t) (fun _ _ _ t=>t) (fun x0 _=>f x0) (fun _ _ _ _ t=>t) (fun _ _ _ _ t=>t) (fun _ _ _ _ t=>t) (fun _ _ _ _ t=>t) (fun _ _ _ t=>t) (fun _ _ _ _ t=>t) b
noncomputable def gA(n0:Nat)(a:E):E->T E->T E:=
 E.rec (motive:=fun _=>E->T E->T E)
  (fun _ _ t=>t)
  (fun _ _ t=>t)
  (fun _ _ t=>t)
  (fun i e t=>Bool.rec (t.set (Nat.sub i n0) e) t (Nat.blt i n0))
  (fun _ _ _ _ f g e=>e.go_ar fun _ _ a b t=>g b (f a t))
  (fun _ _ _ _ _ _ t=>t)
  (fun _ _ _ _ _ t=>t)
  (fun _ _ _ _ _ t=>t)
  (fun _ _ _ _ t=>t)
  (fun _ f e=>e.go_not fun a t=>f a t)
  (fun _ _ _ _ _ t=>t)
  (fun _ _ _ _ _ t=>t)
  (fun _ _ _ _ _ t=>t)
  (fun _ _ _ _ _ t=>t)
  (fun k a f e=>Option.rec (motive:=fun _=>T E->T E) (e.go_fn fun _ a t=>f a t) (fun p t=>ayH n0 p.1 p.2 e t) (ay4 n0 k a))
  (fun _ _ f g e=>e.go_pr fun a b t=>g b (f a t))
  a
abbrev G2:=T E×T Nat
noncomputable def SV.go_int(v:SV)(f:E->G2->G2):G2->G2:=SV.rec (motive_1:=fun _=>G2->G2) (motive_2:=fun _=>G2->G2) (fun _ e=>f e) (fun _ g=>g) (fun _ g=>g) (fun g=>g) (fun _ _ g=>g) (fun g=>g) (fun _ _ _ _ g=>g) (fun _ _ _ g=>g) (fun _ _ g=>g) (fun _ _ _ _ g=>g) (fun g=>g) (fun _ g=>g) (fun g=>g) (fun g=>g) (fun _ _ _ _ _ g=>g) (fun _ _ g=>g) (fun _ _ g=>g) (fun g=>g) (fun _ _ _ _ _ g=>g) (fun _ _ _ _ _ _ _ g=>g) (fun g=>g) (fun _ _ _ _ g=>g) v
noncomputable def SV.go_bool(v:SV)(f:E->G2->G2):G2->G2:=SV.rec (motive_1:=fun _=>G2->G2) (motive_2:=fun _=>G2->G2) (fun _ _ g=>g) (fun e=>f e) (fun _ g=>g) (fun g=>g) (fun _ _ g=>g) (fun g=>g) (fun _ _ _ _ g=>g) (fun _ _ _ g=>g) (fun _ _ g=>g) (fun _ _ _ _ g=>g) (fun g=>g) (fun _ g=>g) (fun g=>g) (fun g=>g) (fun _ _ _ _ _ g=>g) (fun _ _ g=>g) (fun _ _ g=>g) (fun g=>g) (fun _ _ _ _ _ g=>g) (fun _ _ _ _ _ _ _ g=>g) (fun g=>g) (fun _ _ _ _ g=>g) v
noncomputable def SV.go_str(v:SV)(f:E->G2->G2):G2->G2:=SV.rec (motive_1:=fun _=>G2->G2) (motive_2:=fun _=>G2->G2) (fun _ _ g=>g) (fun _ g=>g) (fun e=>f e) (fun g=>g) (fun _ _ g=>g) (fun g=>g) (fun _ _ _ _ g=>g) (fun _ _ _ g=>g) (fun _ _ g=>g) (fun _ _ _ _ g=>g) (fun g=>g) (fun _ g=>g) (fun g=>g) (fun g=>g) (fun _ _ _ _ _ g=>g) (fun _ _ g=>g) (fun _ _ g=>g) (fun g=>g) (fun _ _ _ _ _ g=>g) (fun _ _ _ _ _ _ _ g=>g) (fun g=>g) (fun _ _ _ _ g=>g) v
noncomputable def SV.go_ptr(v:SV)(f:Nat->Off->G2->G2):G2->G2:=SV.rec (motive_1:=fun _=>G2->G2) (motive_2:=fun _=>G2->G2) (fun _ _ g=>g) (fun _ g=>g) (fun _ g=>g) (fun g=>g) (fun b o=>f b o) (fun g=>g) (fun _ _ _ _ g=>g) (fun _ _ _ g=>g) (fun _ _ g=>g) (fun _ _ _ _ g=>g) (fun g=>g) (fun _ g=>g) (fun g=>g) (fun g=>g) (fun _ _ _ _ _ g=>g) (fun _ _ g=>g) (fun _ _ g=>g) (fun g=>g) (fun _ _ _ _ _ g=>g) (fun _ _ _ _ _ _ _ g=>g) (fun g=>g) (fun _ _ _ _ g=>g) v
noncomputable def SV.go_slice(v:SV)(f:Nat->Off->E->E->G2->G2):G2->G2:=SV.rec (motive_1:=fun _=>G2->G2) (motive_2:=fun _=>G2->G2) (fun _ _ g=>g) (fun _ g=>g) (fun _ g=>g) (fun g=>g) (fun _ _ g=>g) (fun g=>g) (fun b o l c=>f b o l c) (fun _ _ _ g=>g) (fun _ _ g=>g) (fun _ _ _ _ g=>g) (fun g=>g) (fun _ g=>g) (fun g=>g) (fun g=>g) (fun _ _ _ _ _ g=>g) (fun _ _ g=>g) (fun _ _ g=>g) (fun g=>g) (fun _ _ _ _ _ g=>g) (fun _ _ _ _ _ _ _ g=>g) (fun g=>g) (fun _ _ _ _ g=>g) v
noncomputable def SV.go_nslice(v:SV)(f:Nat->E->E->G2->G2):G2->G2:=SV.rec (motive_1:=fun _=>G2->G2) (motive_2:=fun _=>G2->G2) (fun _ _ g=>g) (fun _ g=>g) (fun _ g=>g) (fun g=>g) (fun _ _ g=>g) (fun g=>g) (fun _ _ _ _ g=>g) (fun b l c=>f b l c) (fun _ _ g=>g) (fun _ _ _ _ g=>g) (fun g=>g) (fun _ g=>g) (fun g=>g) (fun g=>g) (fun _ _ _ _ _ g=>g) (fun _ _ g=>g) (fun _ _ g=>g) (fun g=>g) (fun _ _ _ _ _ g=>g) (fun _ _ _ _ _ _ _ g=>g) (fun g=>g) (fun _ _ _ _ g=>g) v
noncomputable def SV.go_bsl(v:SV)(f:E->G2->G2):G2->G2:=SV.rec (motive_1:=fun _=>G2->G2) (motive_2:=fun _=>G2->G2) (fun _ _ g=>g) (fun _ g=>g) (fun _ g=>g) (fun g=>g) (fun _ _ g=>g) (fun g=>g) (fun _ _ _ _ g=>g) (fun _ _ _ g=>g) (fun _ e=>f e) (fun _ _ _ _ g=>g) (fun g=>g) (fun _ g=>g) (fun g=>g) (fun g=>g) (fun _ _ _ _ _ g=>g) (fun _ _ g=>g) (fun _ _ g=>g) (fun g=>g) (fun _ _ _ _ _ g=>g) (fun _ _ _ _ _ _ _ g=>g) (fun g=>g) (fun _ _ _ _ g=>g) v
noncomputable def SV.go_bptr(v:SV)(f:E->E->G2->G2):G2->G2:=SV.rec (motive_1:=fun _=>G2->G2) (motive_2:=fun _=>G2->G2) (fun _ _ g=>g) (fun _ g=>g) (fun _ g=>g) (fun g=>g) (fun _ _ g=>g) (fun g=>g) (fun _ _ _ _ g=>g) (fun _ _ _ g=>g) (fun _ _ g=>g) (fun _ e i _=>f e i) (fun g=>g) (fun _ g=>g) (fun g=>g) (fun g=>g) (fun _ _ _ _ _ g=>g) (fun _ _ g=>g) (fun _ _ g=>g) (fun g=>g) (fun _ _ _ _ _ g=>g) (fun _ _ _ _ _ _ _ g=>g) (fun g=>g) (fun _ _ _ _ g=>g) v
noncomputable def SV.go_map(v:SV)(f:Nat->G2->G2):G2->G2:=SV.rec (motive_1:=fun _=>G2->G2) (motive_2:=fun _=>G2->G2) (fun _ _ g=>g) (fun _ g=>g) (fun _ g=>g) (fun g=>g) (fun _ _ g=>g) (fun g=>g) (fun _ _ _ _ g=>g) (fun _ _ _ g=>g) (fun _ _ g=>g) (fun _ _ _ _ g=>g) (fun g=>g) (fun b=>f b) (fun g=>g) (fun g=>g) (fun _ _ _ _ _ g=>g) (fun _ _ g=>g) (fun _ _ g=>g) (fun g=>g) (fun _ _ _ _ _ g=>g) (fun _ _ _ _ _ _ _ g=>g) (fun g=>g) (fun _ _ _ _ g=>g) v
noncomputable def SV.go_func(v:SV)(f:List SV->List SV->G2->G2):G2->G2:=SV.rec (motive_1:=fun _=>G2->G2) (motive_2:=fun _=>G2->G2) (fun _ _ g=>g) (fun _ g=>g) (fun _ g=>g) (fun g=>g) (fun _ _ g=>g) (fun g=>g) (fun _ _ _ _ g=>g) (fun _ _ _ g=>g) (fun _ _ g=>g) (fun _ _ _ _ g=>g) (fun g=>g) (fun _ g=>g) (fun g=>g) (fun g=>g) (fun _ fi ca _ _=>f fi ca) (fun _ _ g=>g) (fun _ _ g=>g) (fun g=>g) (fun _ _ _ _ _ g=>g) (fun _ _ _ _ _ _ _ g=>g) (fun g=>g) (fun _ _ _ _ g=>g) v
noncomputable def SV.go_agg(v:SV)(f:List SV->G2->G2):G2->G2:=SV.rec (motive_1:=fun _=>G2->G2) (motive_2:=fun _=>G2->G2) (fun _ _ g=>g) (fun _ g=>g) (fun _ g=>g) (fun g=>g) (fun _ _ g=>g) (fun g=>g) (fun _ _ _ _ g=>g) (fun _ _ _ g=>g) (fun _ _ g=>g) (fun _ _ _ _ g=>g) (fun g=>g) (fun _ g=>g) (fun g=>g) (fun g=>g) (fun _ _ _ _ _ g=>g) (fun cs _=>f cs) (fun _ _ g=>g) (fun g=>g) (fun _ _ _ _ _ g=>g) (fun _ _ _ _ _ _ _ g=>g) (fun g=>g) (fun _ _ _ _ g=>g) v
noncomputable def SV.go_tup(v:SV)(f:List SV->G2->G2):G2->G2:=SV.rec (motive_1:=fun _=>G2->G2) (motive_2:=fun _=>G2->G2) (fun _ _ g=>g) (fun _ g=>g) (fun _ g=>g) (fun g=>g) (fun _ _ g=>g) (fun g=>g) (fun _ _ _ _ g=>g) (fun _ _ _ g=>g) (fun _ _ g=>g) (fun _ _ _ _ g=>g) (fun g=>g) (fun _ g=>g) (fun g=>g) (fun g=>g) (fun _ _ _ _ _ g=>g) (fun _ _ g=>g) (fun cs _=>f cs) (fun g=>g) (fun _ _ _ _ _ g=>g) (fun _ _ _ _ _ _ _ g=>g) (fun g=>g) (fun _ _ _ _ g=>g) v
noncomputable def amR(b0 b b':Nat)(t:T Nat):T Nat:=Bool.rec (t.set (Nat.sub b b0) b') t (Nat.blt b b0)
noncomputable def gE(n0:Nat)(e e':E)(g:G2):G2:=(gA n0 e e' g.1,g.2)
noncomputable def gB(b0 b b':Nat)(g:G2):G2:=(g.1,amR b0 b b' g.2)
noncomputable def List.goK(l:List SV)(f:SV->List SV->G2->G2):G2->G2:=List.rec (motive:=fun _=>G2->G2) (fun g=>g) (fun v vs _=>f v vs) l
noncomputable def aGO(n0 b0:Nat)(v:SV)(b:Nat)(l c:E):G2->G2:=
 v.go_slice fun b' _ l' c' g=>gE n0 c c' (gE n0 l l' (gB b0 b b' g))
noncomputable def Bt(n0 b0:Nat)(v:SV):SV->G2->G2:=
 SV.rec (motive_1:=fun _=>SV->G2->G2) (motive_2:=fun _=>List SV->G2->G2)
  (fun _ e v=>v.go_int fun e' g=>gE n0 e e' g)
  (fun e v=>v.go_bool fun e' g=>gE n0 e e' g)
  (fun e v=>v.go_str fun e' g=>gE n0 e e' g)
  (fun _ g=>g)
  (fun b o v=>v.go_ptr fun b' o' g=>gE n0 o.idx o'.idx (gB b0 b b' g))
  (fun _ g=>g)
  (fun b o l c v=>v.go_slice fun b' o' l' c' g=>gE n0 c c' (gE n0 l l' (gE n0 o.idx o'.idx (gB b0 b b' g))))
  (fun b l c v g=>aGO n0 b0 v b l c (v.go_nslice (fun b' l' c' g=>gE n0 c c' (gE n0 l l' (gB b0 b b' g))) g))
  (fun _ e v=>v.go_bsl fun e' g=>gE n0 e e' g)
  (fun _ e i _ v=>v.go_bptr fun e' i' g=>gE n0 i i' (gE n0 e e' g))
  (fun _ g=>g)
  (fun b v=>v.go_map fun b' g=>gB b0 b b' g)
  (fun _ g=>g) (fun _ g=>g)
  (fun _ _ _ f1 f2 v=>v.go_func fun fi ca g=>f2 ca (f1 fi g))
  (fun _ f v=>v.go_agg fun cs g=>f cs g)
  (fun _ f v=>v.go_tup fun cs g=>f cs g)
  (fun _ g=>g)
  (fun _ _ _ _ _ _ g=>g) (fun _ _ _ _ _ _ _ _ g=>g)
  (fun _ g=>g)
  (fun _ _ f1 f2 l=>List.goK l fun v vs g=>f2 vs (f1 v g)) v
noncomputable def aFY(n0 b0:Nat)(vs:List SV):List SV->G2->G2:=
 List.rec (motive:=fun _=>List SV->G2->G2) (fun _ g=>g) (fun v _ f l=>List.goK l fun v' vs' g=>f vs' (Bt n0 b0 v v' g)) vs
noncomputable def T.goK(t:T SV)(f:SV->T SV->T SV->G2->G2):G2->G2:=T.rec (motive:=fun _=>G2->G2) (fun g=>g) (fun v l r _ _=>f v l r) t
noncomputable def aFd(n0 b0:Nat)(t:Tm):Tm->G2->G2:=
 T.rec (motive:=fun _=>Tm->G2->G2) (fun _ g=>g) (fun v _ _ f1 f2 t=>T.goK t fun v' l' r' g=>f2 r' (f1 l' (Bt n0 b0 v v' g))) t
def Yr(n0 b0:Nat):List Ent->List Ent->T E×T Nat->T E×T Nat
 |x::es,y::es',g=>Yr n0 b0 es es' (let h:=Bt n0 b0 x.v y.v (Bt n0 b0 x.k y.k g);(gA n0 x.born y.born h.1,h.2))
 |_,_,g=>g
def A1(n0 b0:Nat)(heap:T Blk):T Blk->Nat->Nat->T E×T Nat->T E×T Nat
 |.nil,_,_,g=>g
 |.node x l r,a,d,g=>
  let j:=match Nat.blt a b0 with | true=>some a | false=>g.2.get (Nat.sub a b0)
  let g:=match j with
   |some j=>match heap.get j with
    |some y=>match x.obj,(match ri x.obj y.obj with | some o=>o | none=>y.obj)with
     |.mapl _ _ e,.mapl _ _ e'=>(gA n0 e e' g.1,g.2)
     |.iter _ _ e n u,.iter _ _ e' n' u'=>(match u,u' with
      |some x,some x'=>gA n0 x x' (gA n0 n n' (gA n0 e e' g.1))
      |_,_=>gA n0 n n' (gA n0 e e' g.1),g.2)
     |.cells cs t _,.cells cs' t' _=>let g:=aFY n0 b0 cs cs' g;(gA n0 t t' g.1,g.2)
     |.nest _ e n t _,.nest _ e' n' t' _=>(gA n0 t t' (gA n0 n n' (gA n0 e e' g.1)),g.2)
     |.flat _ e n t _,.flat _ e' n' t' _=>(gA n0 t t' (gA n0 n n' (gA n0 e e' g.1)),g.2)
     |.map es c,.map es' c'=>let h:=Yr n0 b0 es es' g;(gA n0 c c' h.1,h.2)
     |_,_=>g
    |none=>g
   |none=>g
  A1 n0 b0 heap r (Nat.add a (Nat.add d d)) (Nat.add d d) (A1 n0 b0 heap l (Nat.add a d) (Nat.add d d) g)
def KJ{G:Type}(t:T G)(x:G):Nat->Nat->List G
 |0,_=>[]
 |n+1,i=>(match t.get i with | some y=>y | none=>x)::KJ t x n (Nat.succ i)
def JH(n0 b0:Nat)(tmps:Tm)(st:St)(τ:Tmpl):Sub:=
 let nE:=Nat.sub τ.st.nv n0
 let nB:=Nat.sub τ.st.nb b0
 let g:=A1 n0 b0 st.heap τ.st.heap 0 1 (aFd n0 b0 τ.tmps tmps (T.fill (.int 0) 20 nE,T.fill 0 20 nB))
 let g:=A1 n0 b0 st.heap τ.st.heap 0 1 g
 ⟨n0,KJ g.1 (.int 0) nE 0,b0,KJ g.2 0 nB 0⟩
def Fl(nv:Nat):List E->Bool
 |[]=>true
 |e::es=>match e.scp nv with
  |true=>Fl nv es
  |false=>false
def Dj(nb:Nat):List Nat->Bool
 |[]=>true
 |b::bs=>match Nat.blt b nb with
  |true=>Dj nb bs
  |false=>false
noncomputable def vn(z:Sub)(p v:SV):Bool:=Bool.rec ((p.sub z).beq v) true (isJunk p)
theorem apJ(z:Sub)(p v:SV):vn z p v=(match p with
 |.junk=>true
 |_=>(p.sub z).beq v):=by cases p<;>rfl
noncomputable def anU(t:Tm):Bool:=T.rec (motive:=fun _=>Bool) true (fun _ _ _ _ _=>false) t
noncomputable def amN(t:Tm)(f:SV->Tm->Tm->Bool):Bool:=T.rec (motive:=fun _=>Bool) false (fun v l r _ _=>f v l r) t
noncomputable def lw(z:Sub)(p:Tm):Tm->Bool:=
 T.rec (motive:=fun _=>Tm->Bool) anU (fun p _ _ fl fr t=>amN t fun v l' r'=>Bool.rec false (Bool.rec false (fr r') (fl l')) (vn z p v)) p
theorem azO(z:Sub)(p v:SV)(l r l' r':Tm):lw z (.node p l r) (.node v l' r')=(match vn z p v with
  |true=>match lw z l l' with
   |true=>lw z r r'
   |false=>false
  |false=>false):=by
 have h:lw z (.node p l r) (.node v l' r')=Bool.rec (motive:=fun _=>Bool) false (Bool.rec (motive:=fun _=>Bool) false (lw z r r') (lw z l l')) (vn z p v):=rfl
 rw[h]
 cases vn z p v
 ·rfl
 ·cases lw z l l'<;>rfl
def I7(z:Sub)(p x:SObj):Bool:=
 match p with
 |.gone=>true
 |_=>match ri p x with
  |some x'=>(p.sub z).beq x'
  |none=>(p.sub z).beq x
def Es(z:Sub)(heap:T Blk)(nb a:Nat)(p:Blk):Bool:=
 match Nat.blt a nb with
 |true=>match p.obj with
  |.gone=>true
  |_=>match heap.get (bL z.b0 z.bs a)with
   |some x=>l6 p.own x.own&&I7 z p.obj x.obj
   |none=>false
 |false=>false
def xM(z:Sub)(heap:T Blk)(nb:Nat):T Blk->Nat->Nat->Bool
 |.nil,_,_=>true
 |.node p l r,a,d=>match Es z heap nb a p with
  |true=>match xM z heap nb l (Nat.add a d) (Nat.add d d)with
   |true=>xM z heap nb r (Nat.add a (Nat.add d d)) (Nat.add d d)
   |false=>false
  |false=>false
def jY:T Blk->Nat->Nat->List Nat->List Nat
 |.nil,_,_,acc=>acc
 |.node p l r,a,d,acc=>
  match p.obj with
  |.gone=>jY r (Nat.add a (Nat.add d d)) (Nat.add d d) (jY l (Nat.add a d) (Nat.add d d) acc)
  |_=>jY r (Nat.add a (Nat.add d d)) (Nat.add d d) (jY l (Nat.add a d) (Nat.add d d) (a::acc))
def ub(z:Sub):List Nat->List Nat
 |[]=>[]
 |i::l=>bL z.b0 z.bs i::ub z l
def CN(n:Nat):List Nat->Bool
 |[]=>false
 |m::ms=>match Nat.beq n m with
  |true=>true
  |false=>CN n ms
def Cb:List Nat->Bool
 |[]=>true
 |n::ns=>match CN n ns with
  |true=>false
  |false=>Cb ns
inductive Fit where
 |ok (z:Sub)
 |lack (e:E)
 |bad (n:Nat)
def wF(fs:List E)(z:Sub)(pc:List E):List E->Fit
 |[]=>.ok z
 |e::es=>match dR fs pc (e.sub z.n0 z.es)with
  |some true=>wF fs z pc es
  |_=>.lack (e.sub z.n0 z.es)
def qP(fs:List E)(n0 b0:Nat)(tmps:Tm)(st:St)(τ:Tmpl):Fit:=
 let z:=JH n0 b0 tmps st τ
 match Nat.beq (Nat.add n0 (aN z.es)) τ.st.nv&&Nat.beq (Nat.add b0 (aN z.bs)) τ.st.nb&&(Fl st.nv z.es&&Dj st.nb z.bs)with
 |true=>match lw z τ.tmps tmps with
  |true=>match xM z st.heap τ.st.nb τ.st.heap 0 1 with
   |true=>match Cb (ub z (jY τ.st.heap 0 1 []))with
    |true=>wF fs z st.pc τ.st.pc
    |false=>.bad 4
   |false=>.bad 3
  |false=>.bad 2
 |false=>.bad 1
noncomputable def T.map{G J:Type}(f:G->J)(t:T G):T J:=T.rec (motive:=fun _=>T J) T.nil (fun v _ _ a b=>T.node (f v) a b) t
def FL:Option Blk->Bool
 |some b=>match b.obj with
  |.cells _ _ _=>true
  |_=>false
 |none=>false
def LU(o:Off):Bool:=
 match gn o with
 |some n=>Nat.beq n 0
 |none=>false
mutual
def SV.norm(h:T Blk):SV->SV
 |.int k e=>.int k e
 |.bool e=>.bool e
 |.str e=>.str e
 |.ptr b o=>.ptr b o
 |.slice b o l c=>match FL (h.get b)&&LU o with
  |true=>.nslice b l c
  |false=>.slice b o l c
 |.nslice b l c=>.nslice b l c
 |.bsl ks e=>.bsl ks e
 |.bptr ks e i j=>.bptr ks e i j
 |.nsl b ks e i c=>.nsl b ks e i c
 |.nptr b ks e i c x j=>.nptr b ks e i c x j
 |.map b=>.map b
 |.func fn fi ca=>.func fn (SV.norms h fi) (SV.norms h ca)
 |.agg cs=>.agg (SV.norms h cs)
 |.tup cs=>.tup (SV.norms h cs)
 |.nilp=>.nilp
 |.nils=>.nils
 |.nilm=>.nilm
 |.nili=>.nili
 |.nilf=>.nilf
 |.junk=>.junk
def SV.norms(h:T Blk):List SV->List SV
 |[]=>[]
 |v::vs=>v.norm h::SV.norms h vs
end
def SObj.norm(h:T Blk):SObj->SObj
 |.cells cs af e=>.cells (SV.norms h cs) af e
 |.gone=>.gone
 |.flat ks l n af e=>.flat ks l n af e
 |.map es c=>.map es c
 |.mapl k c e=>.mapl k c e
 |.maplp k c e ke s=>.maplp k c e ke s
 |.iter k c e n u=>.iter k c e n u
 |.nest ks l n af e=>.nest ks l n af e
def Blk.norm(h:T Blk)(b:Blk):Blk:=⟨b.own,b.obj.norm h⟩
def St.norm(st:St):St:=⟨st.nv,st.nb,st.heap.map (Blk.norm st.heap),st.pc⟩
def IL(fs:List E)(n0 b0:Nat)(tmps:Tm)(st:St)(τ:Tmpl):Fit:=qP fs n0 b0 (tmps.map (SV.norm st.heap)) st.norm τ
def yZ(nv:Nat):List E->List E
 |[]=>[]
 |e::es=>match e.scp nv with
  |true=>e::yZ nv es
  |false=>yZ nv es
def Kh(st:St)(v:SV)(st':St):St:=
 match Nat.beq st.nb st'.nb&&Nat.beq st.nv st'.nv with
 |true=>st'
 |false=>match v.plain&&(v.scp st.nv st.nb&&(st.scp&&mv st.heap st'.heap))with
  |true=>⟨st.nv,st.nb,st.heap,yZ st.nv st'.pc⟩
  |false=>st'
def rz(b:Nat)(m:Nat):Nat:=Nat.lor (Nat.pow 2 b) m
mutual
def SV.blks:SV->Nat->Nat
 |.ptr b _,m=>rz b m
 |.slice b _ _ _,m=>rz b m
 |.nslice b _ _,m=>rz b m
 |.map b,m=>rz b m
 |.nsl b _ _ _ _,m=>rz b m
 |.nptr b _ _ _ _ _ _,m=>rz b m
 |.func _ fi ca,m=>SV.blkss ca (SV.blkss fi m)
 |.agg cs,m=>SV.blkss cs m
 |.tup cs,m=>SV.blkss cs m
 |_,m=>m
def SV.blkss:List SV->Nat->Nat
 |[],m=>m
 |v::vs,m=>SV.blkss vs (SV.blks v m)
end
def P6:List Ent->Nat->Nat
 |[],m=>m
 |x::es,m=>P6 es (SV.blks x.v (SV.blks x.k m))
def SObj.blks:SObj->Nat->Nat
 |.cells cs _ _,m=>SV.blkss cs m
 |.map es _,m=>P6 es m
 |_,m=>m
def zM(heap:T Blk)(m:Nat):Nat->Nat->Nat->Nat
 |0,_,r=>r
 |n+1,b,r=>match Nat.testBit m b with
  |true=>match heap.get b with
   |some x=>eZ (x.obj.blks r) fun r=>zM heap m n (Nat.succ b) r
   |none=>zM heap m n (Nat.succ b) r
  |false=>zM heap m n (Nat.succ b) r
def ad8(heap:T Blk)(n b0:Nat):Nat->Nat->Nat
 |0,m=>m
 |k+1,m=>eZ (zM heap m n b0 m) fun m'=>match Nat.beq m m' with
  |true=>m
  |false=>ad8 heap n b0 k m'
def xk(m:Nat):Nat->Nat->T Blk->T Blk
 |0,_,h=>h
 |n+1,b,h=>match Nat.testBit m b with
  |true=>xk m n (Nat.succ b) h
  |false=>T.setK h b ⟨true,.gone⟩ fun h=>xk m n (Nat.succ b) h
def E.vset:E->Nat->Nat
 |.var i,m=>rz i m
 |.ar _ _ a b,m=>E.vset b (E.vset a m)
 |.cmp _ a b,m=>E.vset b (E.vset a m)
 |.mn a b,m=>E.vset b (E.vset a m)
 |.mx a b,m=>E.vset b (E.vset a m)
 |.wr _ a,m=>E.vset a m
 |.not a,m=>E.vset a m
 |.and a b,m=>E.vset b (E.vset a m)
 |.seq a b,m=>E.vset b (E.vset a m)
 |.iff a b,m=>E.vset b (E.vset a m)
 |.imp a b,m=>E.vset b (E.vset a m)
 |.fn _ a,m=>E.vset a m
 |.pr a b,m=>E.vset b (E.vset a m)
 |_,m=>m
mutual
def SV.vset:SV->Nat->Nat
 |.int _ e,m=>e.vset m
 |.bool e,m=>e.vset m
 |.str e,m=>e.vset m
 |.ptr _ o,m=>o.idx.vset m
 |.slice _ o l c,m=>c.vset (l.vset (o.idx.vset m))
 |.nslice _ l c,m=>c.vset (l.vset m)
 |.bsl _ e,m=>e.vset m
 |.bptr _ e i _,m=>i.vset (e.vset m)
 |.nsl _ _ e i _,m=>i.vset (e.vset m)
 |.nptr _ _ e i _ x _,m=>x.vset (i.vset (e.vset m))
 |.func _ fi ca,m=>SV.vsets ca (SV.vsets fi m)
 |.agg cs,m=>SV.vsets cs m
 |.tup cs,m=>SV.vsets cs m
 |_,m=>m
def SV.vsets:List SV->Nat->Nat
 |[],m=>m
 |v::vs,m=>SV.vsets vs (SV.vset v m)
end
def RT:List Ent->Nat->Nat
 |[],m=>m
 |x::es,m=>RT es (x.born.vset (SV.vset x.v (SV.vset x.k m)))
def SObj.vset:SObj->Nat->Nat
 |.gone,m=>m
 |.cells cs t _,m=>t.vset (SV.vsets cs m)
 |.flat _ l n t _,m=>t.vset (n.vset (l.vset m))
 |.nest _ l n t _,m=>t.vset (n.vset (l.vset m))
 |.map es c,m=>c.vset (RT es m)
 |.mapl _ _ e,m=>e.vset m
 |.maplp _ _ e ke s,m=>s.vset (ke.vset (e.vset m))
 |.iter _ _ e n u,m=>match u with | none=>n.vset (e.vset m) | some x=>x.vset (n.vset (e.vset m))
def Co(heap:T Blk)(bs:Nat):Nat->Nat->Nat->Nat
 |0,_,r=>r
 |n+1,b,r=>match Nat.testBit bs b with
  |true=>match heap.get b with
   |some x=>eZ (x.obj.vset r) fun r=>Co heap bs n (Nat.succ b) r
   |none=>Co heap bs n (Nat.succ b) r
  |false=>Co heap bs n (Nat.succ b) r
def yd(nv live:Nat):List E->List E
 |[]=>[]
 |e::es=>match Nat.beq (Nat.land (Nat.shiftRight (e.vset 0) nv) live) (Nat.shiftRight (e.vset 0) nv)with
  |true=>e::yd nv live es
  |false=>yd nv live es
def xf(st:St)(v:SV)(st':St):St:=
 match Nat.beq st.nb st'.nb with
 |true=>st'
 |false=>match mv st.heap st'.heap with
  |true=>eZ (ad8 st'.heap (Nat.sub st'.nb st.nb) st.nb 40 (SV.blks v 0)) fun m=>
    eZ (Nat.shiftRight (Co st'.heap m (Nat.sub st'.nb st.nb) st.nb (SV.vset v 0)) st.nv) fun live=>
     ⟨st'.nv,st'.nb,xk m (Nat.sub st'.nb st.nb) st.nb st'.heap,yd st.nv live st'.pc⟩
  |false=>st'
def yy(v:SV)(st:St):List (SV×St)->Bool
 |[]=>false
 |x::xs=>match v.beq x.1&&st.beq x.2 with
  |true=>true
  |false=>yy v st xs
def jd(v:SV):Tm:=.node v .nil .nil
def O4(n0 b0:Nat)(t:Tm)(st:St):Bool:=Nat.ble n0 st.nv&&(Nat.ble b0 st.nb&&(st.scp&&iV st.nv st.nb t))
def H2:Fit->Bool
 |.ok _=>true
 |_=>false
def pw(fs:List E)(n0 b0:Nat)(t:Tm)(st:St):List (Tm×St)->Bool
 |[]=>false
 |x::xs=>match O4 n0 b0 x.1 x.2&&H2 (qP fs n0 b0 t st ⟨x.1,x.2,.int 0⟩)with
  |true=>true
  |false=>pw fs n0 b0 t st xs
def uN:List (SV×St)->List (Tm×St)
 |[]=>[]
 |x::xs=>match x.1 with
  |.junk=>uN xs
  |v=>(jd v,x.2)::uN xs
def wh(fs:List E)(st0:St)(v:SV)(st:St)(acc:List (SV×St)):List (SV×St):=
 match acc with
 |[]=>[(v,st)]
 |_=>match yy v st acc with
  |true=>acc
  |false=>match Nat.beq st0.nb st.nb&&Nat.beq st0.nv st.nv with
   |true=>(v,st)::acc
   |false=>match pw fs st0.nv st0.nb (jd v) (xf st0 v st) (uN acc)with
    |true=>acc
    |false=>(v,xf st0 v st)::acc
def wj(fs:List E)(st:St):List Out->List (SV×St)->Option (List (SV×St))
 |[],acc=>some acc
 |r::rs,acc=>match r.tmps with
  |.node v _ _=>wj fs st rs (wh fs st v (Kh st v r.st) acc)
  |_=>none
def IK(tmps:Tm)(d:Option Tmp)(k:eF):List (SV×St)->aO
 |[]=>some []
 |x::xs=>gc (d7 tmps d x.1 fun tmps=>k tmps x.2) (IK tmps d k xs)
def Fg(_:List Out):List Out:=[]
def abE(_:Tm)(_:St)(_:Op):String:= ""
def Bd(tb:Tab)(rec:bJ)(o:Oper)(tmps:Tm)(st:St)(k:eF):aO:=
 match o.op with
 |.call c=>match CX tb tmps c with
  |some (g,args)=>match iV st.nv st.nb tmps with
   |true=>match rec (.call g args) .nil st (fun r=>some [r])with
    |some rs=>match Fg rs with
     |[]=>match wj tb.facts st rs [] with
      |some l=>IK tmps o.dst k l
      |none=>none
     |raw=>some raw
    |none=>none
   |false=>qH (o.pos ++ " scope")
  |none=>qH (o.pos ++ " callee" ++ (match o.op with | .call c=>c.args.toList.foldl (fun s x=>s++abE tmps st (.load 0 x)) "" | _=> ""))
 |_=>qH (o.pos ++ " operation " ++ aeT o.op++abE tmps st o.op)
def pf(tb:Tab)(rec:bJ)(o:Oper)(tmps:Tm)(k:eF)(n:Nat):St->aO:=
 Nat.rec (motive:=fun _=>St->aO) (fun _=>none) (fun _ ih st=>
  match nZ tb tmps st o.op with
  |.val v st=>d7 tmps o.dst v fun tmps=>k tmps st
  |.skip st=>d7 tmps o.dst .undef fun tmps=>k tmps st
  |.ask e=>gc (ih {st with pc:=e::st.pc}) (ih {st with pc:=bc e::st.pc})
  |.lack e=>CA o.pos st e
  |.bad=>match xX tb tmps st o.op with
   |.val v st=>d7 tmps o.dst v fun tmps=>k tmps st
   |.skip st=>d7 tmps o.dst .undef fun tmps=>k tmps st
   |.ask e=>gc (ih {st with pc:=e::st.pc}) (ih {st with pc:=bc e::st.pc})
   |.lack e=>CA o.pos st e
   |.bad=>Bd tb rec o tmps st k) n
def vO(P:Program)(tb:Tab)(rec:bJ)(o:Oper)(tmps:Tm)(st:St)(k:eF):aO:=
 match rG P tb (bq tmps) o.op with
 |some v=>d7 tmps o.dst v fun tmps=>k tmps st
 |none=>pf tb rec o tmps k 40 st
def oA(P:Program)(tb:Tab)(rec:bJ)(all:List Oper)(o:Oper)(tmps:Tm)(st:St)(k:eF):aO:=
 match vE all tmps o with
 |.yes=>vO P tb rec o tmps st k
 |.no=>d7 tmps o.dst .undef fun tmps=>k tmps st
 |.bad=>qH o.pos
 |.ask t e want=>match dR tb.facts st.pc e with
  |some b=>T.setK tmps t (.bool (.bool b)) fun tmps=>match l6 b want with
   |true=>vO P tb rec o tmps st k
   |false=>d7 tmps o.dst .undef fun tmps=>k tmps st
  |none=>
   gc (T.setK tmps t (.bool (.bool want)) fun tmps=>vO P tb rec o tmps {st with pc:=(match want with | true=>e | false=>bc e)::st.pc} k)
    (T.setK tmps t (.bool (.bool (!want))) fun tmps=>d7 tmps o.dst .undef fun tmps=>k tmps {st with pc:=(match want with | true=>bc e | false=>e)::st.pc})
def aeN(P:Program)(tb:Tab)(rec:bJ)(all:List Oper)(l:List Oper):Tm->St->eF->aO:=
 List.rec (motive:=fun _=>Tm->St->eF->aO) (fun tmps st k=>k tmps st)
  (fun o _ ih tmps st k=>oA P tb rec all o tmps st fun tmps st=>ih tmps st k) l
def ss(k:Nat)(x:Info):List Info->Bool
 |[]=>true
 |m::ms=>match Nat.testBit m.wait k with
  |true=>ss k x ms
  |false=>match Nat.beq (Nat.land x.dst m.reads) 0 with
   |true=>match Nat.beq (Nat.land x.dst m.dst) 0 with
    |true=>match Nat.beq (Nat.land m.dst x.reads) 0 with
     |true=>ss k x ms
     |false=>false
    |false=>false
   |false=>false
def jh:List Info->Nat->Bool
 |[],_=>true
 |m::ms,k=>match Nat.blt m.wait (Nat.pow 2 k)with
  |true=>match ss k m ms with
   |true=>jh ms (Nat.succ k)
   |false=>false
  |false=>false
inductive QR where
 |done (v:SV)
 |split (e:E)
 |bad
def O8(st:St)(r:aO):QR:=
 match r with
 |some os=>match os with
  |[o]=>match o.tmps with
   |.node v _ _=>match v.plain&&(v.scp st.nv st.nb&&st.scp&&mv st.heap o.st.heap)with
    |true=>.done v
    |false=>.bad
   |.nil=>.bad
  |_=>.bad
 |none=>.bad
def L6(o:Op):Bool:=
 match o with
 |.load _ _=>true
 |.slice _ _ _ _ _=>true
 |.lookup _ _ _ _=>true
 |.binOp _ _ _ _ _=>true
 |.indexAddr _ _ _=>true
 |.index _ _ _=>true
 |.pick _ _ _=>true
 |.call c=>match c.callee with
  |.builtin _=>true
  |_=>false
 |_=>false
def zg(P:Program)(tb:Tab)(rec:bJ)(o:Oper)(tmps:Tm)(st:St):QR:=
 match rG P tb (bq tmps) o.op with
 |some v=>.done v
 |none=>match L6 o.op with
  |true=>match nZ tb tmps st o.op with
   |.val v _=>.done v
   |.ask e=>.split e
   |_=>.bad
  |false=>match o.op with
   |.call c=>match CX tb tmps c with
    |some (g,args)=>O8 st (rec (.call g args) .nil st fun o=>some [o])
    |none=>.bad
   |_=>.bad
inductive QE where
 |done (tmps:Tm)
 |split (e:E)
 |bad
def mH(P:Program)(tb:Tab)(rec:bJ)(all:List Oper)(st:St):List Oper->Tm->QE
 |[],tmps=>.done tmps
 |o::os,tmps=>match vE all tmps o with
  |.yes=>match zg P tb rec o tmps st with
   |.done v=>d7 tmps o.dst v fun tmps=>mH P tb rec all st os tmps
   |.split e=>.split e
   |.bad=>.bad
  |.no=>d7 tmps o.dst .undef fun tmps=>mH P tb rec all st os tmps
  |.bad=>.bad
  |.ask t e want=>match dR tb.facts st.pc e with
   |some b=>T.setK tmps t (.bool (.bool b)) fun tmps=>match l6 b want with
    |true=>match zg P tb rec o tmps st with
     |.done v=>d7 tmps o.dst v fun tmps=>mH P tb rec all st os tmps
     |.split e=>.split e
     |.bad=>.bad
    |false=>d7 tmps o.dst .undef fun tmps=>mH P tb rec all st os tmps
   |none=>.split e
def iB:List Oper->Bool
 |[]=>true
 |o::os=>match o.op with
  |.select _ _=>false
  |_=>iB os
def ya(m:Nat):List Nat->Nat->Nat->Nat
 |[],_,r=>r
 |c::cs,j,r=>match Nat.testBit m j with
  |true=>ya m cs (Nat.succ j) (Nat.lor c r)
  |false=>ya m cs (Nat.succ j) r
def Ap:List Info->List Nat->List Nat
 |[],acc=>acc
 |m::ms,acc=>eZ (ya m.wait acc 0 m.wait) fun c=>Ap ms (acc++[c])
inductive NS where
 |val (v:SV)
 |ask (e:E)
 |bad
def Cz(P:Program)(tb:Tab)(tmps:Tm)(st:St)(o:Oper):NS:=
 match rG P tb (bq tmps) o.op with
 |some v=>.val v
 |none=>match L6 o.op with
  |true=>match nZ tb tmps st o.op with
   |.val v _=>.val v
   |.ask e=>.ask e
   |_=>.bad
  |false=>.bad
def DE(P:Program)(tb:Tab)(all:List Oper)(tmps:Tm)(st:St)(o:Oper):NS:=
 match vE all tmps o with
 |.yes=>Cz P tb tmps st o
 |.no=>.val .undef
 |.bad=>.bad
 |.ask _ e want=>match dR tb.facts st.pc e with
  |some b=>match l6 b want with
   |true=>Cz P tb tmps st o
   |false=>.val .undef
  |none=>.ask e
def mV(dst:Nat):List Info->Nat->Nat->Nat
 |[],_,r=>r
 |m::ms,j,r=>match Nat.beq (Nat.land dst (Nat.lor m.reads m.dst)) 0 with
  |true=>mV dst ms (Nat.succ j) r
  |false=>mV dst ms (Nat.succ j) (Nat.lor (Nat.pow 2 j) r)
def DA(cs:Nat)(clos:List Nat):List (Nat×Oper×Info)->Bool
 |[]=>true
 |(j,_,_)::rs=>match dm clos j with
  |some c=>match Nat.beq (Nat.land cs c) cs with
   |true=>DA cs clos rs
   |false=>false
  |none=>false
def MI(all:List Oper)(infos:List Info)(clos:List Nat)(listed used:Nat)(m:Info):Bool:=
 match Nat.beq (Nat.land m.dst (Nat.lor m.reads used)) 0 with
 |true=>true
 |false=>Nat.beq (Nat.land m.dst m.reads) 0&&DA (Nat.land (mV m.dst infos 0 0) listed) clos (fC listed all infos 0)
def lu{J:Type}(P:Program)(tb:Tab)(all:List Oper)(infos:List Info)(clos:List Nat)(st:St):List Oper->List Info->Nat->Nat->Nat->Nat->Tm->(Nat->Nat->Nat->Tm->Option E->J)->J
 |o::os,m::ms,i,listed,used,neu,tmps,k=>
  match Nat.testBit listed i with
  |true=>lu P tb all infos clos st os ms (Nat.succ i) listed used neu tmps k
  |false=>match Nat.beq (Nat.land m.wait listed) m.wait with
   |true=>match DE P tb all tmps st o with
    |.val v=>match MI all infos clos listed used m with
     |true=>d7 tmps o.dst v fun tmps=>eZ (Nat.lor (Nat.pow 2 i) listed) fun listed=>eZ (Nat.lor (Nat.lor m.reads m.dst) used) fun used=>eZ (Nat.lor (Nat.pow 2 i) neu) fun neu=>
       lu P tb all infos clos st os ms (Nat.succ i) listed used neu tmps k
     |false=>lu P tb all infos clos st os ms (Nat.succ i) listed used neu tmps k
    |.ask e=>k listed used neu tmps (some e)
    |.bad=>lu P tb all infos clos st os ms (Nat.succ i) listed used neu tmps k
   |false=>lu P tb all infos clos st os ms (Nat.succ i) listed used neu tmps k
 |_,_,_,listed,used,neu,tmps,k=>k listed used neu tmps none
def SV.isJunk:SV->Bool
 |.junk=>true
 |_=>false
def oK(P:Program)(tb:Tab)(all:List Oper)(tmps:Tm)(st:St)(neu:Nat):List Oper->Nat->Bool
 |[],_=>true
 |o::os,i=>match Nat.testBit neu i with
  |false=>oK P tb all tmps st neu os (Nat.succ i)
  |true=>match DE P tb all tmps st o with
   |.val v=>match o.dst with
    |none=>oK P tb all tmps st neu os (Nat.succ i)
    |some d=>match tmps.get d with
     |some u=>match !(v.isJunk)&&v.beq u with
      |true=>oK P tb all tmps st neu os (Nat.succ i)
      |false=>false
     |none=>false
   |_=>false
def andNot(a b:Nat):Nat:=Nat.xor a (Nat.land a b)
def Eg(P:Program)(tb:Tab)(rec:bJ)(all:List Oper)(infos:List Info)(clos:List Nat)(listed used neu:Nat)(tmps:Tm)(st:St)(ih:Nat->Nat->Nat->Tm->St->aO):List (Nat×Oper×Info)->aO
 |[]=>some []
 |(i,o,m)::rs=>match dm clos i with
  | some c=>match eZ (andNot neu c) fun neu=>oA P tb rec all o tmps st fun tmps st=>match oK P tb all tmps st neu all 0 with
    |true=>eZ (Nat.lor (Nat.pow 2 i) listed) fun listed=>eZ (Nat.lor (Nat.lor m.reads m.dst) used) fun used=>ih listed used neu tmps st
    |false=>none with
   |some os=>match Eg P tb rec all infos clos listed used neu tmps st ih rs with
    |some os'=>some (os++os')
    |none=>none
   |none=>none
  |none=>none
def LA(P:Program)(tb:Tab)(rec:bJ)(all:List Oper)(infos:List Info)(clos:List Nat)(listed used neu:Nat)(tmps:Tm)(st:St)(k:eF)(ih:Nat->Nat->Nat->Tm->St->aO):aO:=
 match fC listed all infos 0 with
 |[]=>k tmps st
 |rs=>Eg P tb rec all infos clos listed used neu tmps st ih rs
def sL(P:Program)(tb:Tab)(rec:bJ)(all:List Oper)(infos:List Info)(clos:List Nat)(k:eF)(n:Nat):Nat->Nat->Nat->Tm->St->aO:=
 Nat.rec (motive:=fun _=>Nat->Nat->Nat->Tm->St->aO) (fun _ _ _ _ _=>none) (fun _ ih listed used neu tmps st=>
  lu P tb all infos clos st all infos 0 listed used neu tmps fun listed used neu tmps pend=>match pend with
   |some e=>gc (ih listed used neu tmps {st with pc:=e::st.pc}) (ih listed used neu tmps {st with pc:=bc e::st.pc})
   |none=>LA P tb rec all infos clos listed used neu tmps st k ih) n
def qh(tmps:Tm)(st:St):aO:=some [⟨.normal,tmps,st⟩]
def jr(fs:List E)(n0 b0:Nat):List Out->List (Tm×St)->List (Tm×St)
 |[],acc=>acc
 |o::os,acc=>match acc with
  |[]=>jr fs n0 b0 os [(o.tmps,o.st)]
  |_=>match pw fs n0 b0 o.tmps o.st acc with
   |true=>jr fs n0 b0 os acc
   |false=>jr fs n0 b0 os ((o.tmps,o.st)::acc)
def L0(k:Out->aO):List (Tm×St)->aO
 |[]=>some []
 |x::xs=>gc (k ⟨.normal,x.1,x.2⟩) (L0 k xs)
def FP(P:Program)(tb:Tab)(rec:bJ)(all:List Oper)(n:Nat)(tmps:Tm)(st:St)(k:Out->aO):aO:=
 match iB all with
 |true=>match jh (aS all all) 0 with
  |true=>match sL P tb rec all (aS all all) (Ap (aS all all) []) qh (Nat.add 10 (Nat.add n n)) 0 0 0 tmps st with
   |some outs=>match Fg outs with
    |[]=>L0 k (jr tb.facts st.nv st.nb outs [])
    |raw=>some raw
   |none=>match mH P tb rec all st all tmps with
   |.done tmps=>k ⟨.normal,tmps,st⟩
   |.split e=>gc (rec (.draw all n) tmps {st with pc:=e::st.pc} k) (rec (.draw all n) tmps {st with pc:=bc e::st.pc} k)
   |.bad=>rec (.layer all (aS all all) (nC P tb all (aS all all) 0 n [⟨.normal,tmps,st⟩] [])) tmps st k
  |false=>rec (.layer all (aS all all) (nC P tb all (aS all all) 0 n [⟨.normal,tmps,st⟩] [])) tmps st k
 |false=>none
def lH:Code->Option Nat
 |.exit id=>some id
 |.seq a b=>match lH a with
  |some n=>some n
  |none=>lH b
 |.block _ b=>lH b
 |.loop b=>lH b
 |.cond _ a b=>match lH a with
  |some n=>some n
  |none=>lH b
 |_=>none
def yF(g key:Nat):List Ann->Option Ann
 |[]=>none
 |x::xs=>match Nat.beq x.fn g with
  |true=>match Nat.beq x.key key with
   |true=>some x
   |false=>yF g key xs
  |false=>yF g key xs
def LC(tb:Tab)(g:Nat)(b:Code):Option Ann:=
 match tb.anns with
 |[]=>none
 |l=>match lH b with
  |some key=>yF g key l
  |none=>none
def lm(fs:List E)(n0 b0:Nat)(tmps:Tm)(st:St)(bound:Option E):List Tmpl->Option E->Fit
 |[],why=>match why with
  |some e=>.lack e
  |none=>.bad 0
 |τ::τs,why=>match IL fs n0 b0 tmps st τ with
  |.ok z=>match bound with
   |none=>.ok z
   |some m=>match jV fs st.pc (τ.less.sub z.n0 z.es) m with
    |true=>match dp fs st.pc (τ.less.sub z.n0 z.es)with
     |true=>.ok z
     |false=>.lack (bc (aD .lss (τ.less.sub z.n0 z.es) (.int 0)))
    |false=>.lack (aD .lss (τ.less.sub z.n0 z.es) m)
  |.lack e=>lm fs n0 b0 tmps st bound τs (match why with | some e=>some e | none=>some e)
  |.bad _=>lm fs n0 b0 tmps st bound τs why
def uz(_:Tm)(_:St)(f:Fit)(r:aO):aO:=
 match f with
 |.ok _=>r
 |_=>none
def Tmpl.scp(τ:Tmpl):Bool:=τ.st.scp&&iV τ.st.nv τ.st.nb τ.tmps&&τ.less.scp τ.st.nv
def yc(n0 b0:Nat):List Tmpl->Bool
 |[]=>true
 |τ::τs=>match Nat.ble n0 τ.st.nv&&Nat.ble b0 τ.st.nb&&τ.scp with
  |true=>yc n0 b0 τs
  |false=>false
def HZ(tb:Tab)(rec:bJ)(g:FuncId)(b:Code)(n0 b0:Nat)(ts:List Tmpl)(k:Out->aO):List Tmpl->aO
 |[]=>some []
 | τ::τs=>gc (rec (.code g b) τ.tmps τ.st fun o=>match o.ex with
   |.normal=>uz o.tmps o.st (lm tb.facts n0 b0 o.tmps o.st (some τ.less) ts none) (some [])
   |_=>k o) (HZ tb rec g b n0 b0 ts k τs)
def LF(k:Out->aO):List Out->aO
 |[]=>some []
 |o::os=>gc (k o) (LF k os)
def GD:Nat->Nat->T Blk->T Blk
 |0,_,t=>t
 |k+1,n,t=>GD k (Nat.succ n) (T.ins t n ⟨true,.gone⟩)
def St.pad(st:St)(n b:Nat):St:=⟨n,b,GD (Nat.sub b st.nb) st.nb st.heap,st.pc⟩
def As(tb:Tab)(n b:Nat)(ts:List Tmpl)(xs:List Out)(tmps:Tm)(st:St)(k:Out->aO):aO:=
 match yc n b ts with
 |true=>uz tmps st (lm tb.facts n b tmps st none ts none) (LF k xs)
 |false=>qH "templates"
def zJ(tb:Tab)(rec:bJ)(g:FuncId)(b:Code)(tmps:Tm)(st:St)(k:Out->aO):aO:=
 match LC tb g b with
 |none=>rec (.rounds g b) tmps st k
 |some x=>match x.known with
  |none=>match yc st.nv st.nb x.ts with
   |true=>uz tmps st (lm tb.facts st.nv st.nb tmps st none x.ts none) (HZ tb rec g b st.nv st.nb x.ts k x.ts)
   |false=>qH "templates"
  |some y=>match Nat.beq st.nv y.n0&&Nat.beq st.nb y.b0 with
   |true=>As tb y.n0 y.b0 x.ts y.xs tmps st k
   |false=>match Nat.ble st.nv y.n0&&Nat.ble st.nb y.b0&&st.scp&&iV st.nv st.nb tmps with
    |true=>As tb y.n0 y.b0 x.ts y.xs tmps (st.pad y.n0 y.b0) k
    |false=>qH "a loop's variables"
def Hz(rec:bJ)(g:FuncId)(tmps:Tm)(st:St)(k:Out->aO)(a b:Code):aO:=
 rec (.code g a) tmps st fun o=>match o.ex with
   |.normal=>rec (.code g b) o.tmps o.st k
   |_=>k o
def I6(rec:bJ)(g:FuncId)(tmps:Tm)(st:St)(k:Out->aO)(id:Nat)(b:Code):aO:=
 rec (.code g b) tmps st fun o=>match o.ex with
   |.exit i=>match Nat.beq i id with
    |true=>k ⟨.normal,o.tmps,o.st⟩
    |false=>k o
   |_=>k o
def Mv(tb:Tab)(rec:bJ)(g:FuncId)(tmps:Tm)(st:St)(k:Out->aO)(c:Operand)(x y:Code):aO:=
 match bq tmps c with
  |some (.bool e)=>match dR tb.facts st.pc e with
   |some true=>rec (.code g x) tmps st k
   |some false=>rec (.code g y) tmps st k
   |none=>gc (rec (.code g x) tmps {st with pc:=e::st.pc} k) (rec (.code g y) tmps {st with pc:=bc e::st.pc} k)
  |_=>none
def Ie(P:Program)(tb:Tab)(rec:bJ)(tmps:Tm)(st:St)(k:Out->aO)(ops:Array Oper)(d:Bool):aO:=
 match d with
  |false=>aeN P tb rec ops.toList ops.toList tmps st fun tmps st=>k ⟨.normal,tmps,st⟩
  |true=>rec (.draw ops.toList ops.size) tmps st k
noncomputable def Lj(P:Program)(tb:Tab)(rec:bJ)(g:FuncId)(c:Code)(tmps:Tm)(st:St)(k:Out->aO):aO:=
 Code.rec (motive:=fun _=>aO)
  (k ⟨.normal,tmps,st⟩)
  (fun _ ops d=>Ie P tb rec tmps st k ops d)
  (fun a b _ _=>Hz rec g tmps st k a b)
  (fun c x y _ _=>Mv tb rec g tmps st k c x y)
  (fun id b _=>I6 rec g tmps st k id b)
  (fun b _=>zJ tb rec g b tmps st k)
  (fun _ _ _ _ _ _=>none)
  (fun id=>k ⟨.exit id,tmps,st⟩)
  (fun _ _=>none)
  (fun _=>k ⟨.normal,tmps,st⟩)
  (fun _=>none)
  (k ⟨.ret,tmps,st⟩)
  (fun _=>none)
  c
theorem aiN(P:Program)(tb:Tab)(rec:bJ)(g:FuncId)(c:Code)(tmps:Tm)(st:St)(k:Out->aO):Lj P tb rec g c tmps st k=(match c with
 |.skip=>k ⟨.normal,tmps,st⟩
 |.label _=>k ⟨.normal,tmps,st⟩
 |.ret=>k ⟨.ret,tmps,st⟩
 |.exit id=>k ⟨.exit id,tmps,st⟩
 |.seq a b=>Hz rec g tmps st k a b
 |.block id b=>I6 rec g tmps st k id b
 |.loop b=>zJ tb rec g b tmps st k
 |.cond c x y=>Mv tb rec g tmps st k c x y
 |.region _ ops d=>Ie P tb rec tmps st k ops d
 |_=>none):=by cases c<;>rfl
def wV(fs:List E)(g:FuncId)(args:List SV)(st:St):List Nat1->NatR
 |[]=>.no
 |x::xs=>match Nat.beq x.fn g with
  |true=>match x.eff fs args st with
   |.outs l=>.outs l
   |_=>wV fs g args st xs
  |false=>wV fs g args st xs
def ZE(k:Out->aO):List (SV×St)->aO
 |[]=>some []
 |(v,st)::l=>gc (k ⟨.ret,.node v .nil .nil,st⟩) (ZE k l)
def GR(tb:Tab)(rec:bJ)(g:FuncId)(args:List SV)(st:St)(k:Out->aO):aO:=
 match wV tb.facts g args st tb.nats with
 |.outs l=>ZE k l
 |_=>match tb.fn.get g with
 |some fn=>match fn.body with
  |some c=>match Nat.ble args.length fn.ntmps&&Nat.ble fn.ntmps 1048575 with
   | true=>T.putsK args 0 (T.fill SV.undef 20 fn.ntmps) fun tmps=>rec (.code g c) tmps st fun o=>match o.ex with
     |.exit _=>none
     |_=>match jO tb o.st o.tmps fn.results.toList with
      |some vs=>k ⟨.ret,.node (pT vs) .nil .nil,o.st⟩
      |none=>none
   |false=>none
  |none=>none
 |none=>none
def zx(P:Program)(tb:Tab)(rec:bJ)(all:List Oper)(infos:List Info)(x:Node)(left:Nat):List (Nat×Oper×Info)->List Node->Option (List Node)
 |[],acc=>some acc
 |(i,o,_)::rs,acc=>match oA P tb rec all o x.tmps x.st qh with
  |some os=>eZ (Nat.lor (Nat.pow 2 i) x.listed) fun listed=>zx P tb rec all infos x left rs (nC P tb all infos listed left os acc)
  |none=>none
def yr(P:Program)(tb:Tab)(rec:bJ)(all:List Oper)(infos:List Info)(k:eF):List Node->List Node->Option (List Node×List Out)
 |[],acc=>some (acc,[])
 |x::xs,acc=>match fC x.listed all infos 0 with
  |[]=>match k x.tmps x.st with
   |some os=>match yr P tb rec all infos k xs acc with
    |some (acc,more)=>some (acc,os++more)
    |none=>none
   |none=>none
  |rs=>match x.left with
   |0=>none
   |left+1=>match zx P tb rec all infos x left rs acc with
    |some acc=>yr P tb rec all infos k xs acc
    |none=>none
def GP(P:Program)(tb:Tab)(rec:bJ)(all:List Oper)(infos:List Info)(l:List Node)(tmps:Tm)(st:St)(k:Out->aO):aO:=
 match yr P tb rec all infos (fun tmps st=>k ⟨.normal,tmps,st⟩) l [] with
 |some (next,os)=>match next with
  |[]=>some os
  |_=>match rec (.layer all infos next) tmps st k with
   |some more=>some (os++more)
   |none=>none
 |none=>none
def Wo(rec:bJ)(g:FuncId)(b:Code)(tmps:Tm)(st:St)(k:Out->aO):aO:=
 rec (.code g b) tmps st fun o=>match o.ex with
  |.normal=>rec (.rounds g b) o.tmps o.st k
  |_=>k o
def aF1(P:Program)(tb:Tab)(rec:bJ)(task:Task)(tmps:Tm)(st:St)(k:Out->aO):aO:=
 match task with
 |.code g c=>Lj P tb rec g c tmps st k
 |.rounds g c=>Wo rec g c tmps st k
 |.call g args=>GR tb rec g args st k
 |.draw all n=>FP P tb rec all n tmps st k
 |.layer all infos l=>GP P tb rec all infos l tmps st k
def run(P:Program)(tb:Tab)(n:Nat):bJ:=
 Nat.rec (motive:=fun _=>bJ) (fun _ _ _ _=>none) (fun _ ih=>aF1 P tb ih) n
def og{J:Type}(P:Program)(k:Tab->J):J:=
 T.addsK P.types.toList 0 T.nil fun ty=>T.addsK P.funcs.toList 0 T.nil fun fn=>k ⟨ty,fn,[],[],[]⟩
end
end Go.SX

namespace Go.SX
noncomputable section
def mA(x:Int):List Int->List Int
 |[]=>[x]
 |y::l=>match leI x y with
  |true=>x::y::l
  |false=>y::mA x l
def fS:List Int->List Int
 |[]=>[]
 |x::l=>mA x (fS l)
def qJ:List Int->List SV
 |[]=>[]
 |n::l=>.int .i64 (.int n)::qJ l
def MS:Option (List (SV×St))->NatR
 |some l=>.outs l
 |none=>.no
def wI:List SV->Option (List Int)
 |[]=>some []
 |v::l=>match v with
  |.int .i64 (.int n)=>match wI l with
   |some r=>some (n::r)
   |none=>none
  |_=>none
def EY(st:St)(b:Nat)(cs:List SV)(af:E)(el:TypeId)(n:Nat):NatR:=
 match lg cs n with
 |some hd=>match wI hd with
  |some l=>match Nat.ble n 1000000 with
   |true=>match mZ cs 0 (qJ (fS l))with
    |some cs'=>.outs [(.tup [],{st with heap:=st.heap.set b ⟨true,.cells cs' af el⟩})]
    |none=>.no
   |false=>.no
  |none=>.no
 |none=>.no
def Je(st:St)(b:Nat)(l n af:E)(el:TypeId)(ok:Bool):NatR:=
 match ok with
 |true=>.outs [(.tup [],{st with heap:=st.heap.set b ⟨true,.flat [.int .i64] (.fn 40 l) n af el⟩})]
 |false=>.lack (bc (aD .lss kJ n))
def HS:List CK->Bool
 |[c]=>match c with
  |.int .i64=>true
  |_=>false
 |_=>false
def Kn(fs:List E)(args:List SV)(st:St):NatR:=
 match args with
 |[v]=>match v with
  |.nils=>.outs [(.tup [],st)]
  |.nslice b len _=>match st.heap.get b with
   |some ⟨own,o⟩=>match own with
    |true=>match o with
     |.cells cs af el=>match dW len with
      |some n=>EY st b cs af el n
      |none=>.no
     |.flat ks l n af el=>match len.beq n&&HS ks with
      |true=>Je st b l n af el (cP fs st.pc n kJ)
      |false=>.no
     |_=>.no
    |false=>.no
   |none=>.no
  |.slice b off len _=>match st.heap.get b with
   |some ⟨own,o⟩=>match own with
    |true=>match o with
     |.cells cs af el=>match dW len,gn off with
      |some n,some 0=>EY st b cs af el n
      |_,_=>.no
     |_=>.no
    |false=>.no
   |none=>.no
  |_=>.no
 |_=>.no
def Rp(f:FuncId):Nat1:=⟨f,Kn⟩
def La(args:List SV)(st:St):Option (List (SV×St)):=
 match args with
 |[]=>some [(.bool (.bool true),st)]
 |_=>none
def MT(g:FuncId):Nat1:=⟨g,fun _ args st=>MS (La args st)⟩
structure Pact where
 fn:FuncId
 args:List SV
 st:St
 posts:List (SV×St)
 deriving Inhabited
def Pact.tmpl(s:Pact):Tmpl:=⟨jd (.tup s.args),s.st,.int 0⟩
def pi(n0:Nat):Nat->List E
 |0=>[]
 |n+1=>.var n0::pi (Nat.succ n0) n
def mN(n0:Nat):Nat->List Nat
 |0=>[]
 |n+1=>n0::mN (Nat.succ n0) n
def FY(z:Sub)(st pre post:St):Sub:=⟨0,z.es++pi st.nv (Nat.sub post.nv pre.nv),0,z.bs++mN st.nb (Nat.sub post.nb pre.nb)⟩
def lB(z:Sub)(pre post:T Blk):Nat->Nat->T Blk->T Blk
 |0,_,heap=>heap
 |n+1,i,heap=>match pre.get i with
  |none=>lB z pre post n (Nat.succ i) heap
  |some p=>match p.obj with
   |.gone=>lB z pre post n (Nat.succ i) heap
   |_=>match post.get i with
    |none=>T.setK heap (bL 0 z.bs i) ⟨true,.gone⟩ fun heap=>lB z pre post n (Nat.succ i) heap
    |some q=>T.setK heap (bL 0 z.bs i) ⟨true,q.obj.sub z⟩ fun heap=>lB z pre post n (Nat.succ i) heap
def pU(z:Sub)(post:T Blk):Nat->Nat->Nat->T Blk->T Blk
 |0,_,_,heap=>heap
 |n+1,i,b,heap=>match post.get i with
  |none=>T.insK heap b ⟨true,.gone⟩ fun heap=>pU z post n (Nat.succ i) (Nat.succ b) heap
  |some q=>T.insK heap b ⟨true,q.obj.sub z⟩ fun heap=>pU z post n (Nat.succ i) (Nat.succ b) heap
def vR(z:Sub)(pc:List E):List E->List E
 |[]=>pc
 |e::es=>e.sub z.n0 z.es::vR z pc es
def tf(z:Sub)(st pre:St)(p:SV×St):SV×St:=
 let z':=FY z st pre p.2
 (p.1.sub z',⟨Nat.add st.nv (Nat.sub p.2.nv pre.nv),Nat.add st.nb (Nat.sub p.2.nb pre.nb),
  pU z' p.2.heap (Nat.sub p.2.nb pre.nb) pre.nb st.nb (lB z' pre.heap p.2.heap pre.nb 0 st.heap),vR z' st.pc p.2.pc⟩)
def AD(z:Sub)(st pre:St):List (SV×St)->List (SV×St)
 |[]=>[]
 |p::ps=>tf z st pre p::AD z st pre ps
def IJ(s:Pact)(fs:List E)(args:List SV)(st:St):NatR:=
 match st.scp with
 |true=>match qP fs 0 0 (jd (.tup args)) st s.tmpl with
  |.ok z=>.outs (AD z st s.st s.posts)
  |.lack e=>.lack e
  |.bad _=>.no
 |false=>.no
def Nf(fs:List E)(p:SV×St):Bool:=
 match p.2.pc with
 |[]=>true
 |c::bA=>match dR fs bA (bc c)with
  |some b=>!b
  |none=>true
def zD(fs:List E):List (SV×St)->List (SV×St)
 |[]=>[]
 |p::ps=>match Nf fs p with
  |true=>p::zD fs ps
  |false=>zD fs ps
def JC(s:Pact)(fs:List E)(args:List SV)(st:St):NatR:=
 match IJ s fs (SV.norms st.heap args) st.norm with
 |.outs l=>.outs (zD fs l)
 |.lack e=>.lack e
 |.no=>.no
def bn(s:Pact):Nat1:=⟨s.fn,JC s⟩
def FS(t:T Blk):Bool:=T.all (fun b=>b.own) t
def Ag(pre post:T Blk):Nat->Bool
 |0=>true
 |n+1=>match Ag pre post n with
  |true=>match post.get n with
   |none=>true
   |some q=>match q.obj with
    |.gone=>true
    |_=>match pre.get n with
     |some p=>match p.obj with
      |.gone=>false
      |_=>true
     |none=>false
  |false=>false
def GG(s:Pact)(p:SV×St):Bool:=
 Nat.ble s.st.nv p.2.nv&&(Nat.ble s.st.nb p.2.nb&&(p.2.scp&&(p.1.scp p.2.nv p.2.nb&&(FS p.2.heap&&Ag s.st.heap p.2.heap s.st.nb))))
def Dg(s:Pact):List (SV×St)->Bool
 |[]=>true
 |p::ps=>match GG s p with
  |true=>Dg s ps
  |false=>false
def Pact.good(s:Pact):Bool:=s.st.scp&&(SV.scps s.st.nv s.st.nb s.args&&(FS s.st.heap&&Dg s s.posts))
def Le(fs:List E)(s:Pact)(p:SV×St):Bool:=pw fs s.st.nv s.st.nb (jd p.1) p.2 (uN s.posts)
def Cu(tb:Tab)(ms:List FM)(s:Pact):List Out->Bool
 |[]=>true
 |o::os=>match o.tmps with
  |.node v _ _=>match Le tb.facts s (kF ms tb.facts (v,o.st))with
   |true=>Cu tb ms s os
   |false=>false
  |.nil=>false
def LX(P:Program)(tb:Tab)(n:Nat)(ms:List FM)(s:Pact):Bool:=
 match s.good with
 |true=>match run P tb n (.call s.fn s.args) .nil s.st (fun o=>some [o])with
  |some os=>Cu tb ms s os
  |none=>false
 |false=>false
def cJ(n:Nat)(l:List (Nat×SV)):Tm:=l.foldr (fun p t=>t.set p.1 p.2) (T.fill .junk 20 n)
def bM(l:List Blk):T Blk:=(l.foldl (fun(p:T Blk×Nat) b=>(p.1.ins p.2 b,p.2+1)) (T.nil,0)).1
def oC(a b:E):E:=.cmp .lss a b
def ai(a b:E):E:=.not (.cmp .lss b a)
def eV(i:Nat):E:=.var i
def Wv:List Nat->List E
 |[]=>[]
 |i::l=>.not (.cmp .lss (.var i) (.int 0))::.not (.cmp .lss (.int 18446744073709551615) (.var i))::Wv l
def Wj:List Nat->List E
 |[]=>[]
 |i::l=>.not (.cmp .lss (.var i) (.int (-9223372036854775808)))::.not (.cmp .lss (.int 9223372036854775807) (.var i))::Wj l
def Ly(kss:List FM)(fs:List E):List (SV×St)->List (SV×St)
 |[]=>[]
 |p::ps=>kF kss fs p::Ly kss fs ps
def KX(kss:List FM)(x:Nat1)(fs:List E)(args:List SV)(st:St):NatR:=
 match x.eff fs args st with
 |.outs l=>.outs (Ly kss fs l)
 |.lack e=>.lack e
 |.no=>.no
def afZ(kss:List FM)(x:Nat1):Nat1:=⟨x.fn,KX kss x⟩
end
end Go.SX

namespace Go.SX
noncomputable section
def FN(cs:List SV)(h:T Blk):Nat->Option Nat
 |0=>none
 |n+1=>match h.get n with
  |some ⟨true,.cells vs _ _⟩=>match SV.beqs vs cs with
   |true=>some n
   |false=>FN cs h n
  |_=>FN cs h n
def Mo(ks:List CK)(b:Nat)(st:St):St:=
 match st.heap.get b with
 |some ⟨true,.cells vs af el⟩=>match ri (.flat ks (.int 0) (.int 0) (.int 0) 0) (.cells vs af el)with
  |some o=>T.setK st.heap b ⟨true,o⟩ fun h=>{st with heap:=h}
  |none=>st
 |_=>st
def HC(ms:List FM)(fs:List E)(cs:List SV)(st:St)(b:Nat):Option (List SV×St):=
 match st.heap.get b with
 |some ⟨true,.cells vs af e⟩=>match SV.beqs vs cs&&af.scp st.nv with
  |true=>match i3 fs ms cs st with
   |(cs',st')=>match st'.heap.get b with
    |some ⟨true,.cells _ _ _⟩=>some (cs',T.setK st'.heap b ⟨true,.cells cs' af e⟩ fun h=>{st' with heap:=h})
    |_=>none
  |false=>none
 |_=>none
def vY(ms:List FM)(fs:List E)(v:SV)(st:St):SV×St:=
 match v with
 |.agg cs=>match FN cs st.heap st.nb with
  |some b=>match HC ms fs cs st b with
   |some q=>(.agg q.1,q.2)
   |none=>(v,st)
  |none=>me ms fs (.agg cs) st
 |.nslice b len cap=>match ms with
  |.down ks::_=>me ms fs (.nslice b len cap) (Mo ks b st)
  |_=>(v,st)
 |_=>(v,st)
def jo(fs:List E):List (List FM)->List SV->St->List SV×St
 |m::ms,v::vs,st=>match vY m fs v st with
  |(v',st1)=>match v'.scp st1.nv st1.nb&&SV.scps st.nv st.nb vs with
   |true=>match jo fs ms vs st1 with
    |(vs',st')=>(v'::vs',st')
   |false=>(v::vs,st)
 |_,vs,st=>(vs,st)
def GB(mss:List (List FM))(x:Nat1)(fs:List E)(args:List SV)(st:St):NatR:=
 match jo fs mss args st with
 |(args',st')=>x.eff fs args' st'
def avD(mss:List (List FM))(x:Nat1):Nat1:=⟨x.fn,GB mss x⟩
end
end Go.SX
