/-
  A symbolic executor of the model's code: it reckons all outcomes of a call Qn values and memory that are known in part.
-/
import GoSem.Step
set_option linter.unusedVariables false
set_option linter.unusedSimpArgs false
set_option linter.unusedSectionVars false

namespace Go.SX
inductive U where
 |int (n:Int) | bool (b:Bool) | str (s:ByteArray) | lst (l:List U) | bx (a:Option Addr) (n c:Nat) (l:List U)
def U.toI:U->Int | .int n=>n | _=>0
def U.toB:U->Bool | .bool b=>b | _=>false
def U.toS:U->ByteArray | .str s=>s | _=>ByteArray.empty
def U.toL:U->List U | .lst l=>l | .bx _ _ _ l=>l | _=>[]
def U.raw:U->Value | .bx a n c _=>.slice a n c | _=>.slice none 0 0
def U.adr:U->Option Addr | .bx a _ _ _=>a | _=>none
def U.rlen:U->Nat | .bx _ n _ _=>n | _=>0
def U.rcap:U->Nat | .bx _ _ c _=>c | _=>0
def U.cut(w:Nat)(u:U)(l h m:Nat):U:=
 .bx (if m=l then u.adr else u.adr.map (·.add (l*w))) (h-l) (m-l) ((u.toL.take (h*w)).drop (l*w))
def U.fst:U->U | .lst (a::_)=>a | _=>.int 0
def U.snd:U->U | .lst (_::b::_)=>b | _=>.int 0
mutual
def U.eq:U->U->Bool
 |.int a,.int b=>a==b
 |.bool a,.bool b=>a==b
 |.str a,.str b=>a.data==b.data
 |.lst a,.lst b=>U.eqs a b
 |.bx _ _ _ a,.lst b=>U.eqs a b
 |.lst a,.bx _ _ _ b=>U.eqs a b
 |.bx _ _ _ a,.bx _ _ _ b=>U.eqs a b
 |_,_=>false
def U.eqs:List U->List U->Bool
 |[],[]=>true
 |x::xs,y::ys=>U.eq x y&&U.eqs xs ys
 |_,_=>false
end
def B7(n:Nat):Int:=match n with | 0=>-128 | 1=>-32768 | 2=>-2147483648 | 3=>-9223372036854775808 | _=>0
def Af(n:Nat):Int:=match n with | 0=>127 | 1=>32767 | 2=>2147483647 | 3=>9223372036854775807 | 4=>255 | 5=>65535 | 6=>4294967295 | _=>18446744073709551615
mutual
def U.typ:U->U->Bool
 |.int x,.int k=>decide (k<8/\B7 k.toNat<=x/\x<=Af k.toNat)
 |.bool _,.int k=>k==8
 |.str _,.int k=>k==9
 |.bx _ _ _ l,.lst ks=>U.typs l ks []
 |_,_=>false
def U.typs:List U->List U->List U->Bool
 |[],_,_=>true
 |x::xs,ks,k::r=>U.typ x k&&U.typs xs ks r
 |x::xs,ks,[]=>match ks with
  |k::r=>U.typ x k&&U.typs xs ks r
  |[]=>false
end
def cI(k:Int):List U->Option U
 |[]=>none
 |u::l=>if u.fst.toI=k then some u.snd else cI k l
def cL(k:Int)(v:U):List U->List U
 |[]=>[.lst [.int k,v]]
 |u::l=>if u.fst.toI=k then .lst [.int k,v]::l else u::cL k v l
def qN(k:Int):List U->List U
 |[]=>[]
 |u::l=>if u.fst.toI=k then l else u::qN k l
def pP(x:Int):List Int->List Int
 |[]=>[x]
 |y::l=>if x<=y then x::y::l else y::pP x l
def fp:List Int->List Int
 |[]=>[]
 |x::l=>pP x (fp l)
def LK(l:List U):Bool:=
 decide ((l.map fun u=>u.fst.toI).Nodup)&&(l.all fun u=>decide (-9223372036854775808<=u.fst.toI/\u.fst.toI<=9223372036854775807))&&decide (l.length<=1000000)
def aeF(x:U):List U->Nat->Int
 |[],_=>-1
 |y::l,n=>if U.eq x y then n else aeF x l (n+1)
mutual
def U.size:U->Nat
 |.int _=>1
 |.bool _=>1
 |.str _=>1
 |.lst l=>U.sizes l+1
 |.bx _ _ _ l=>U.sizes l+1
def U.sizes:List U->Nat
 |[]=>0
 |u::l=>U.size u+U.sizes l
end
def qZ(f:Nat)(a:U):U:=
 match f with
 |0=>.int a.toL.length
 |1=>a.fst.toL.getD a.snd.toI.toNat (.int 0)
 |2=>.lst (a.fst.toL.set a.snd.fst.toI.toNat a.snd.snd)
 |3=>.lst (a.fst.toL++a.snd.toL)
 |4=>.lst ((a.fst.toL.take a.snd.snd.toI.toNat).drop a.snd.fst.toI.toNat)
 |5=>.lst (List.replicate a.fst.toI.toNat a.snd)
 |6=>.int (a.fst.toI+a.snd.toI)
 |7=>.int (a.fst.toI-a.snd.toI)
 |8=>.int (a.fst.toI*a.snd.toI)
 |9=>.int (a.fst.toL.length/a.snd.toI.toNat)
 |10=>.lst []
 |11=>.lst [a]
 |12=>.bool (U.eq a.fst a.snd)
 |13=>.int a.toS.size
 |14=>.str (a.fst.toS++a.snd.toS)
 |15=>.int ((a.fst.toS.data.getD a.snd.toI.toNat 0).toNat)
 |16=>.str (a.fst.toS.extract a.snd.fst.toI.toNat a.snd.snd.toI.toNat)
 |17=>.lst (List.replicate a.fst.toI.toNat a.snd.toL).flatten
 |18=>.lst (a.fst.toL.take a.snd.toI.toNat)
 |19=>.lst (a.fst.toL.drop a.snd.toI.toNat)
 |20=>.int (if a.fst.toB then a.snd.fst.toI else a.snd.snd.toI)
 |21=>.bx a.fst.adr a.fst.rlen a.fst.rcap a.snd.toL
 |22=>.int a.rcap
 |23=>.lst (a.fst::a.snd.toL)
 |24=>U.cut a.fst.fst.toI.toNat a.fst.snd a.snd.fst.toI.toNat a.snd.snd.fst.toI.toNat a.snd.snd.snd.toI.toNat
 |25=>.bool (a.snd.toL.any fun x=>U.eq a.fst x)
 |26=>.int a.rlen
 |27=>.bool (U.typs a.snd.toL a.fst.toL [])
 |28=>.bx a.fst.fst.adr a.fst.snd.toI.toNat a.fst.fst.rcap a.snd.toL
 |29=>.int ((a.fst.toI.toNat-a.snd.toI.toNat:Nat):Int)
 |30=>.bx none 0 0 []
 |31=>.bool a.adr.isNone
 |32=>(cI a.snd.fst.toI a.fst.toL).getD a.snd.snd
 |33=>.bool (cI a.snd.toI a.fst.toL).isSome
 |34=>.lst (cL a.snd.fst.toI a.snd.snd a.fst.toL)
 |35=>.lst (qN a.snd.toI a.fst.toL)
 |36=>.lst ((fp (a.toL.map fun u=>u.fst.toI)).map U.int)
 |37=>.lst (a.toL.map U.fst)
 |38=>.int (aeF a.snd a.fst.toL 0)
 |39=>.bool (LK a.toL)
 |40=>.lst ((fp (a.toL.map U.toI)).map U.int)
 |42=>.int ((U.size a:Nat):Int)
 |41=>.str ⟨(a.toL.map fun u=>UInt8.ofNat u.toI.toNat).toArray⟩
 |_=>.int 0
end Go.SX

namespace Go.SX
def bK(u:U):List Int:=u.toL.map U.toI
def bD(n:Nat):Nat:=n
def cX(X:U)(j:Nat):U:=X.toL.getD j (.int 0)
def iX(X:U)(j:Nat):Int:=(cX X j).toI
def nI(l:List U)(j:Nat):Int:=(l.getD j (.int 0)).toI
def de(a x b:Int):Bool:=decide (a<=x/\x<=b)
def Jb(a b:Int):Bool:=de 0 a 500&&de 0 b 1&&(a==0||b==0)
def A6(l:List U)(n:Nat):Bool:=(List.range n).all fun i=>Jb (nI l (i*2)) (nI l (i*2+1))
def oL(p i c t:Int)(l:List U)(q:Bool):Bool:=
 de 0 p 1&&de 1 i 500&&de 0 c 399&&de (-1) t 1&&decide (l.length/2<=4)&&(decide (t<0)||l.length/2==0)&&(!q||decide (0<=t))&&A6 l (l.length/2)
def xH(l:List U)(q:Bool)(n:Nat):Bool:=(List.range n).all fun i=>oL (nI l (i*5)) (nI l (i*5+1)) (nI l (i*5+2)) (nI l (i*5+3)) (l.getD (i*5+4) (.int 0)).toL q
def bc(X:U)(k:Nat):List Int:=bK (cX X (6+14*(k/4)+k%4))
def lU(X:U)(k:Nat):List (Int×Int):=(List.range k).flatMap fun z=>(bc X z).map fun i=>(i,((z/4:Nat):Int))
def fq(X:U)(k i:Nat):List (Int×Int):=lU X k++((bc X k).take i).map fun x=>(x,((k/4:Nat):Int))
def km(X:U)(s:Nat):List Nat:=(List.range s).filter fun i=>decide (nI (cX X 29).toL (i*5+3)<0)
def jx(X:U)(s:Nat):List (Int×Int):=(km X s).map fun i=>(nI (cX X 29).toL (i*5+1),nI (cX X 29).toL (i*5))
def i4(X:U)(s:Nat):List (Int×Int):=(km X s).map fun i=>(nI (cX X 29).toL (i*5+1),nI (cX X 29).toL (i*5+2))
def i9(m:List U):List (Int×Int):=m.map fun u=>(u.fst.toI,u.snd.toI)
def qA(l:List Int):Bool:=match l with | []=>true | x::l=>!l.contains x&&qA l
def hG(m:List U)(l:List (Int×Int)):Bool:=i9 m==l&&qA (l.map Prod.fst)
def aV(X:U):Nat:=(cX X 0).toL.length/12
def dc(X:U):Nat:=(cX X 29).toL.length/5
def oI(X:U)(i j:Nat):Int:=nI (cX X 0).toL (i*12+j)
def Ox(a0 a1 a2 a3 a4 a5 a6 a7 a8:Int):Bool:=
 de 1 a0 500&&de (-1) a1 399&&de 0 a2 1&&(a1 == -1||(a3==0&&a4==0))&&[a3,a4,a5,a6,a7,a8].all fun j=>de 0 j 99
def uB(X:U)(i:Nat):Bool:=
 de 1 (oI X i 0) 500&&de (-1) (oI X i 1) 399&&de 0 (oI X i 2) 1&&(oI X i 1 == -1||(oI X i 3==0&&oI X i 4==0))&&[3,4,5,6,7,8].all fun j=>de 0 (oI X i j) 99
def db(X:U):List (Int×Int):=fq X 8 0++jx X (dc X)
def fQ(l:List (Int×Int))(k:Int):Option Int:=(l.find? fun p=>p.1==k).map Prod.snd
def xX(X:U)(n:Nat):Bool:=(List.range n).all fun i=>uB X i&&(i==0||decide (oI X (i-1) 0<oI X i 0))&&fQ (db X) (oI X i 0)==some (oI X i 2)&&(match fQ (i4 X (dc X)) (oI X i 0)with | none=>true | some c=>c==oI X i 1)
def dp(X:U):Bool:=qA ((db X).map Prod.fst)&&xX X (aV X)&&(db X).length==aV X
def dT(X:U)(k:Int)(n:Nat):Int:=match (List.range n).find? fun i=>oI X i 0==k with | some i=>((i:Nat):Int) | none=>-1
def ud(X:U)(p:Nat)(q:Nat)(k:Int):Nat:=((List.range q).flatMap fun z=>bc X (4*p+z)).count k
def rh(X:U)(p:Int)(k:Int)(s:Nat):Nat:=((List.range s).filter fun i=>nI (cX X 29).toL (i*5+3) == -1&&nI (cX X 29).toL (i*5+1)==k&&nI (cX X 29).toL (i*5)==p).length
def sL(X:U)(p:Nat)(k:Int):Nat:=ud X p 4 k+rh X p k (dc X)
def xz(X:U)(s:Nat):Bool:=(km X s).all fun i=>decide (0<=dT X (nI (cX X 29).toL (i*5+1)) (aV X))&&oI X (dT X (nI (cX X 29).toL (i*5+1)) (aV X)).toNat 1==nI (cX X 29).toL (i*5+2)
def wd(X:U)(n:Nat):Bool:=(List.range n).all fun i=>uB X i&&(i==0||decide (oI X (i-1) 0<oI X i 0))&&sL X (oI X i 2).toNat (oI X i 0)==1
def Bm(X:U):Nat:=((List.range 8).map fun z=>(bc X z).length).sum+(km X (dc X)).length
def vE(X:U):Bool:=xz X (dc X)&&wd X (aV X)&&Bm X==aV X
def dW(X:U):Nat:=(iX X 34).toNat
def gH(X:U):List Int:=bc X (4*dW X+2)
def fG(X:U):List Int:=bc X (4*(1-dW X)+2)
def bi(X:U):List Int:=bK (cX X 31)
def blk(X:U)(i j:Nat):Int:=nI (cX X 32).toL (i*2+j)
def gS(X:U):Nat:=(cX X 32).toL.length/2
def lv(X:U)(n:Nat):Bool:=qA ((bi X).take n)&&((bi X).take n).all fun a=>(gH X).contains a
def dJ(X:U)(n:Nat)(j:Nat):List Int:=(List.range n).map fun i=>blk X i j
def mD(X:U)(n:Nat):Bool:=qA (dJ X n 1)&&qA (dJ X n 0)&&(List.range n).all fun i=>(bi X).contains (blk X i 1)&&(fG X).contains (blk X i 0)
def jI(X:U):Bool:=lv X (bi X).length&&mD X (gS X)
def i5(m:List U)(k:Int):Bool:=((cI k m).getD (.bool false)).toB
def qP(X:U)(n j:Nat)(k:Int):Bool:=match decide (0<k)with
 |true=>((bi X).take n).contains k && !(dJ X j 1).contains k
 |false=>(dJ X j 0).contains (-k)
def jz(X:U)(m:List U)(n j:Nat):Bool:=
 ((m.map fun u=>u.fst.toI)++bi X++(dJ X (gS X) 0).map (fun k=>-k)).all fun k=>i5 m k==qP X n j k
def uP(X:U)(n:Nat):Bool:=(List.range n).all fun i=>(bi X).count (nI (cX X 31).toL i)==1&&(gH X).count (nI (cX X 31).toL i)==1
def xl(X:U)(i k:Nat):Bool:=(List.range k).all fun q=>!(blk X q 1==blk X i 1) && !(blk X q 0==blk X i 0)
def wK(X:U)(n:Nat):Bool:=(List.range n).all fun i=>(bi X).count (blk X i 1)==1&&(fG X).count (blk X i 0)==1&&xl X i i
def vj(X:U):Bool:=uP X (bi X).length&&wK X (gS X)
def pj(X:U)(p:Nat):Bool:=de 0 (iX X (1+14*p)) 9999&&([2,3,4,5].all fun j=>de 0 (iX X (j+14*p)) 99)&&de 0 (iX X (13+14*p)) 7&&de 0 (iX X (14+14*p)) 255
def wh(X:U):Bool:=de 0 (iX X 34) 1&&de 0 (iX X 33) 1000&&de 0 (iX X 35) 10&&de (-1) (iX X 36) 1&&de 0 (iX X 37) 2&&decide (aV X<=500)&&decide (dc X<=200)&&decide ((cX X 30).toL.length/5<=200)
def zA(X:U):Bool:=xH (cX X 29).toL false (dc X)&&xH (cX X 30).toL true ((cX X 30).toL.length/5)
def uG(X:U):Bool:=wh X&&pj X 0&&pj X 1&&zA X&&dp X&&jI X
def pW(X:U):Bool:=wh X&&pj X 0&&pj X 1&&zA X&&vE X&&vj X
def kOu:List U:=[.int 3,.int 3,.int 3,.int 3,.int 3,.int 3,.int 3,.int 3,.int 3,.int 8,.int 8,.int 8]
def Xm:List U:=[.int 3,.int 3]
def CA:List U:=[.int 3,.int 3,.int 3,.int 3,.lst Xm]
def kSu:List U:=[.int 3,.int 3,.int 3,.int 3,.int 3,.lst [.int 3],.lst [.int 3],.lst [.int 3],.lst [.int 3],.int 8,.int 8,.int 8,.int 3,.int 3]
def Ah:List U:=.lst kOu::(kSu++(kSu++[.lst CA,.lst CA,.lst [.int 3],.lst Xm,.int 3,.int 3,.int 3,.int 3,.int 3]))
def sI(l:List U)(n:Nat):Bool:=(List.range n).all fun i=>decide ((l.getD (i*5+4) (.int 0)).toL.length/2<=6)
def Cx(X:U):Bool:=
 ((List.range 8).all fun z=>decide ((bc X z).length<=40))&&decide (dc X<=20)&&decide ((cX X 30).toL.length/5<=20)&&sI (cX X 29).toL (dc X)&&sI (cX X 30).toL ((cX X 30).toL.length/5)&&decide (aV X<=30)&&decide ((bi X).length<=30)&&decide (gS X<=30)
def eo(l:List U)(c:Int)(j:Nat):Int:=if 0<=c/\c<(l.length/14:Nat)then nI l (c.toNat*14+j)else 0
def dv(l:List U)(X:U)(p:Int)(n:Nat):List Int:=(List.range n).flatMap fun i=>
 let k:=eo l (oI X i 1) 1;let m:=eo l (oI X i 1) 7
 if oI X i 2==p && !((cX X 0).toL.getD (i*12+9) (.bool false)).toB&&k==1&&decide (0<=m)&&decide (m<4)&&(bc X (4*p.toNat+2)).contains (oI X i 0)then [oI X i 0,m] else []
def bz:List Int->List Int
 |a::_::l=>a::bz l
 |_=>[]
def kA(X:U)(p:Int):Bool:=de 0 p 1&&pW X
def eE:List Int->List Int
 |_::b::l=>b::eE l
 |_=>[]
def awG(m:List Int)(c:Int):List Int:=m.set c.toNat (min 99 (m.getD c.toNat 0+1))
def atX(l:List U)(X:U)(p:Int)(n:Nat):List Int:=((eE (dv l X p (aV X))).take n).foldl awG ((List.range 4).map fun k=>iX X (2+14*p.toNat+k))
def jT(l:List U)(X:U)(k:Int):Int:=
 let c:=oI X (dT X k (aV X)).toNat 1
 if eo l c 1==1&&decide (0<=eo l c 7)&&decide (eo l c 7<4)then eo l c 7 else -1
def pM(l:List U)(X:U)(p:Int)(n:Nat):List Int:=((bc X (4*p.toNat+2)).take n).filter fun k=>decide (0<=jT l X k) && !((cX X 0).toL.getD ((dT X k (aV X)).toNat*12+9) (.bool false)).toB
def xP(l:List U)(n:Nat):Bool:=(List.range n).all fun i=>decide ((l.getD (i*2+1) (.int 0)).toL.length/5<=5)
def yU(e t:List U):Bool:=decide (e.length/5<=5)&&decide (t.length/2<=3)&&xP t (t.length/2)
def FS(l:List U)(n:Nat):Bool:=(List.range n).all fun i=>yU (l.getD (i*14+11) (.int 0)).toL (l.getD (i*14+12) (.int 0)).toL
def gu(a:U):Nat->Int | 0=>a.fst.toI | n+1=>gu a.snd n
def dh(a:U)(i:Nat):U:=match i with | 0=>a.fst | n+1=>dh a.snd n
abbrev Pu:=List Int×List Int×List Int
def jt(k c:Int):Bool:=decide (k<0)||c==k
def bH(k:Int):List Int->Nat->Int
 |_::c::l,i=>if jt k c then(i:Nat)else bH k l (i+1)
 |_,_=>-1
def lH(i:Nat)(s:Pu):Pu:=(s.1,s.2.1.take (2*i)++s.2.1.drop (2*i+2),s.2.2++[s.2.1.getD (2*i) 0])
def g9(k:Int)(s:Pu):Option Pu:=if 0<=bH k s.2.1 0 then some (lH (bH k s.2.1 0).toNat s)else none
def gv(b:Nat)(s:Pu):Pu:=(s.1.set b (s.1.getD b 0-1),s.2)
def iA(k:Nat)(s:Pu):Option Pu:=if 0<s.1.getD k 0 then some (gv k s)else g9 k s
def fH(m:List Int):Nat:=[1,2,3].foldl (fun b k=>if m.getD b 0<m.getD k 0 then k else b) 0
def fw(s:Pu):Option Pu:=if 0<s.1.getD (fH s.1) 0 then some (gv (fH s.1) s)else g9 (-1) s
def eJ(f:Pu->Option Pu):Nat->Pu->Option Pu
 |0,s=>some s
 |n+1,s=>(eJ f n s).bind f
def lZ(c:List Int):Nat->Pu->Option Pu
 |0,s=>some s
 |k+1,s=>(lZ c k s).bind (eJ (iA k) (bD (c.getD k 0).toNat))
def hE(k:Nat):Pu->Option Pu:=if k<4 then iA k else fw
def cN(c:List Int)(k n:Nat)(s:Pu):Option Pu:=(lZ c k s).bind (eJ (hE k) n)
def th(l:List U)(X:U)(p:Int):Pu:=((List.range 4).map (fun k=>iX X (2+14*p.toNat+k)),dv l X p (aV X),[])
def nX(a:U):List Int:=[gu a 0,gu a 1,gu a 2,gu a 3]
def skip(n:Nat)(a:U):U:=match n with | 0=>a | n+1=>(skip n a).snd
def B6(a:U):Pu:=(nX a,bK (dh a 4),bK (dh a 5))
def Cz(a:U):Pu:=th (dh a 0).toL (dh a 1) (dh a 2).toI
def QM(c:List Int)(any:Int):Bool:=(c.all fun x=>de 0 x 20)&&de 0 any 20
def qy(a b:List U):Bool:=a.length/5==b.length/5&&U.eqs (a.take (a.length/5*5)) (b.take (b.length/5*5))
def ayg(Y X:U):Bool:=(List.range 38).all fun j=>if j==29||j==30 then qy (cX Y j).toL (cX X j).toL else U.eq (cX Y j) (cX X j)
def aUK(l:List U)(X:U)(k:Int)(x:List Int):Int:=(x.find? fun id=>jT l X id==k).getD 0
def aHa(f:Nat)(a:U):U:=
 match f with
 |101=>.bool (A6 a.fst.toL (bD a.snd.toI.toNat))
 |102=>.bool (oL a.fst.toI a.snd.fst.toI a.snd.snd.fst.toI a.snd.snd.snd.fst.toI a.snd.snd.snd.snd.fst.toL a.snd.snd.snd.snd.snd.toB)
 |103=>.bool (xH a.fst.toL a.snd.fst.toB (bD a.snd.snd.toI.toNat))
 |104=>.bool (hG a.fst.toL (fq a.snd.fst (bD (a.snd.snd.fst.toI.toNat*4+a.snd.snd.snd.fst.toI.toNat)) (bD a.snd.snd.snd.snd.toI.toNat)))
 |105=>.bool (hG a.fst.toL (fq a.snd.fst 8 0++jx a.snd.fst (bD a.snd.snd.toI.toNat)))
 |106=>.bool (hG a.fst.toL (i4 a.snd.fst (bD a.snd.snd.toI.toNat)))
 |107=>.bool (xX a.fst (bD a.snd.toI.toNat))
 |108=>.bool (dp a)
 |109=>.bool (bK a.fst==bc a.snd.fst (a.snd.snd.fst.toI.toNat*4+a.snd.snd.snd.toI.toNat))
 |110=>.bool (jI a)
 |111=>.bool (lv a.fst (bD a.snd.toI.toNat))
 |112=>.bool (mD a.fst (bD a.snd.toI.toNat))
 |113=>.bool (jz a.snd.fst a.fst.toL (bD a.snd.snd.fst.toI.toNat) (bD a.snd.snd.snd.toI.toNat))
 |114=>.bool ((bK a.fst).contains a.snd.toI)
 |115=>.bool (uG a)
 |116=>.bool (U.typs a.toL Ah []&&a.toL.length==38)
 |117=>.bool (Cx a)
 |118=>.bool (pj a.fst a.snd.toI.toNat)
 |120=>.int (dT a.fst a.snd.fst.toI (bD a.snd.snd.toI.toNat))
 |121=>.int ((bK a.fst).count a.snd.toI:Nat)
 |122=>.int (sL a.fst a.snd.fst.toI.toNat a.snd.snd.toI:Nat)
 |123=>.bool (xz a.fst (bD a.snd.toI.toNat))
 |124=>.bool (wd a.fst (bD a.snd.toI.toNat))
 |125=>.bool (vE a)
 |126=>.bool (uP a.fst (bD a.snd.toI.toNat))
 |127=>.bool (wK a.fst (bD a.snd.toI.toNat))
 |128=>.bool (xl a.fst (bD a.snd.fst.toI.toNat) (bD a.snd.snd.toI.toNat))
 |129=>.bool (vj a)
 |130=>.bool (pW a)
 |131=>.int ((((bK a.fst).take (bD a.snd.snd.toI.toNat)).count a.snd.fst.toI:Nat))
 |132=>.int (ud a.fst a.snd.fst.toI.toNat (bD a.snd.snd.fst.toI.toNat) a.snd.snd.snd.toI:Nat)
 |133=>.int (rh a.fst a.snd.fst.toI a.snd.snd.fst.toI (bD a.snd.snd.snd.toI.toNat):Nat)
 |134=>.int ((((List.range (bD a.snd.toI.toNat)).map fun z=>(bc a.fst z).length).sum:Nat))
 |135=>.int (((km a.fst (bD a.snd.toI.toNat)).length:Nat))
 |136=>.bool ((bi a.fst).count (blk a.fst (bD a.snd.toI.toNat) 1)==1&&(fG a.fst).count (blk a.fst (bD a.snd.toI.toNat) 0)==1)
 |137=>.bool (Ox (gu a 0) (gu a 1) (gu a 2) (gu a 3) (gu a 4) (gu a 5) (gu a 6) (gu a 7) a.snd.snd.snd.snd.snd.snd.snd.snd.toI)
 |141=>.int (eo a.fst.toL a.snd.toI 1)
 |142=>.int (eo a.fst.toL a.snd.toI 7)
 |143=>.bool (bK a.fst==dv a.snd.fst.toL a.snd.snd.fst a.snd.snd.snd.fst.toI (bD a.snd.snd.snd.snd.toI.toNat))
 |144=>.bool (bK a.fst==bz (dv a.snd.fst.toL a.snd.snd.fst a.snd.snd.snd.toI (aV a.snd.snd.fst)))
 |145=>.bool (kA a.fst a.snd.toI)
 |146=>.bool ([0,1,2,3].all (fun k=>de 0 (gu a k) 20)&&de 0 (a.snd.snd.snd.snd.toI) 20)
 |147=>.bool ([gu a 0,gu a 1,gu a 2,gu a 3]==(let a:=a.snd.snd.snd.snd;atX a.fst.toL a.snd.fst a.snd.snd.fst.toI (bD a.snd.snd.snd.toI.toNat)))
 |148=>.bool (bK a.fst==(bz (bK a.snd.fst)).take (bD a.snd.snd.toI.toNat))
 |150=>.int (jT a.fst.toL a.snd.fst a.snd.snd.toI)
 |151=>.bool (bK a.fst==pM a.snd.fst.toL a.snd.snd.fst a.snd.snd.snd.fst.toI (bD a.snd.snd.snd.snd.toI.toNat))
 |152=>.bool (bK a.fst==fp ((bK a.snd.fst).take (bD a.snd.snd.toI.toNat)))
 |153=>.bool ((bK a.fst).all fun k=>decide (0<=dT a.snd k (aV a.snd)))
 |155=>.bool (FS a.fst.toL (bD a.snd.toI.toNat))
 |156=>.bool (yU a.fst.toL a.snd.toL)
 |157=>.bool (xP a.fst.toL (bD a.snd.toI.toNat))
 |158=>.bool (sI a.fst.toL (bD a.snd.toI.toNat))
 |159=>.bool ((List.range 8).all fun z=>decide ((bc a z).length<=40))
 |160=>.bool (((bK a.fst).take (bD a.snd.snd.toI.toNat)).all fun x=>decide (x<a.snd.fst.toI))
 |161=>.bool ((bK a.fst).take (bD a.snd.snd.toI.toNat)==(bK a.snd.fst).take (bD a.snd.snd.toI.toNat))
 |170=>.bool ((eJ (hE (dh a 6).toI.toNat) (bD (dh a 7).toI.toNat) (B6 (skip 8 a))).any fun s=>s==B6 a)
 |171=>.bool ((eJ (hE (dh a 0).toI.toNat) (bD (dh a 1).toI.toNat) (B6 (skip 2 a))).isNone)
 |174=>.bool ((g9 (dh a 2).toI ([],bK (dh a 3),bK (dh a 4))).any fun s=>s==([],bK (dh a 0),bK (dh a 1)))
 |175=>.int (bH a.fst.toI ((bK a.snd.fst).take (2*bD a.snd.snd.toI.toNat)) 0)
 |176=>.bool ((cN (nX (skip 8 a)) (bD (dh a 6).toI.toNat) (bD (dh a 7).toI.toNat) (Cz (skip 12 a))).any fun s=>s==B6 a)
 |177=>.bool ((cN (nX (skip 2 a)) (bD (dh a 0).toI.toNat) (bD (dh a 1).toI.toNat) (Cz (skip 6 a))).isNone)
 |178=>.bool ((cN (nX (skip 8 a)) (bD (dh a 6).toI.toNat) (bD (dh a 7).toI.toNat) (Cz (skip 12 a))).any fun s=>(s.1,bz s.2.1,s.2.2)==B6 a)
 |179=>.int (aUK (dh a 2).toL (dh a 3) (dh a 1).toI (bK (dh a 0)))
 |181=>.bool (U.eqs (a.fst.toL.take (bD a.snd.snd.toI.toNat)) (a.snd.fst.toL.take (bD a.snd.snd.toI.toNat)))
 |182=>.bool (kA (dh a 6) (dh a 7).toI&&QM (nX a) (dh a 4).toI&&(cN (nX a) 4 (bD (dh a 4).toI.toNat) (Cz (skip 5 a))).isSome)
 |183=>.bool ((cN (nX (skip 5 a)) 4 (bD (dh a 9).toI.toNat) (Cz (skip 10 a))).any fun s=>s.1==nX a&&fp s.2.2==bK (dh a 4))
 |185=>.bool ((nX a).getD (dh a 4).toI.toNat 0==0)
 |186=>.bool (bK a.fst==(bK a.snd.fst).take (2*bD a.snd.snd.toI.toNat)++(bK a.snd.fst).drop (2*bD a.snd.snd.toI.toNat+2))
 |188=>.bool ((nX a).all fun x=>de 0 x 99)
 |187=>.bool (qy a.fst.toL a.snd.toL)
 |189=>.bool (ayg a.fst a.snd)
 |190=>.bool (U.typs a.toL CA [])
 |184=>.bool (bK a.fst==((bK a.snd.fst).take (bD a.snd.snd.snd.toI.toNat)).filter fun x=>!(x==a.snd.snd.fst.toI))
 |_=>.int 0
end Go.SX

namespace Go.SX
noncomputable section
inductive T (G:Type) where
 |nil
 |node (v:G) (l r:T G)
 deriving Inhabited
noncomputable def T.get{G:Type}(t:T G):Nat->Option G:=
 T.rec (motive:=fun _=>Nat->Option G) (fun _=>none) (fun v _ _ gl gr n=>
  Nat.rec (some v) (fun n _=>Bool.rec (gr (Nat.div n 2)) (gl (Nat.div n 2)) (Nat.beq (Nat.mod n 2) 0)) n) t
noncomputable def T.set{G:Type}(t:T G):Nat->G->T G:=
 T.rec (motive:=fun _=>Nat->G->T G) (fun _ _=>T.nil) (fun v l r sl sr n x=>
  Nat.rec (T.node x l r) (fun n _=>Bool.rec (T.node v l (sr (Nat.div n 2) x)) (T.node v (sl (Nat.div n 2) x) r) (Nat.beq (Nat.mod n 2) 0)) n) t
noncomputable def T.setK{G J:Type}(t:T G):Nat->G->(T G->J)->J:=
 T.rec (motive:=fun _=>Nat->G->(T G->J)->J) (fun _ _ k=>k T.nil) (fun v l r sl sr n x k=>
  Nat.rec (k (T.node x l r)) (fun n _=>Bool.rec (sr (Nat.div n 2) x fun r'=>k (T.node v l r')) (sl (Nat.div n 2) x fun l'=>k (T.node v l' r)) (Nat.beq (Nat.mod n 2) 0)) n) t
noncomputable def T.ins{G:Type}(t:T G):Nat->G->T G:=
 T.rec (motive:=fun _=>Nat->G->T G) (fun n x=>Nat.rec (T.node x T.nil T.nil) (fun _ _=>T.nil) n) (fun v l r sl sr n x=>
  Nat.rec (T.node x l r) (fun n _=>Bool.rec (T.node v l (sr (Nat.div n 2) x)) (T.node v (sl (Nat.div n 2) x) r) (Nat.beq (Nat.mod n 2) 0)) n) t
noncomputable def T.insK{G J:Type}(t:T G):Nat->G->(T G->J)->J:=
 T.rec (motive:=fun _=>Nat->G->(T G->J)->J) (fun n x k=>Nat.rec (k (T.node x T.nil T.nil)) (fun _ _=>k T.nil) n) (fun v l r sl sr n x k=>
  Nat.rec (k (T.node x l r)) (fun n _=>Bool.rec (sr (Nat.div n 2) x fun r'=>k (T.node v l r')) (sl (Nat.div n 2) x fun l'=>k (T.node v l' r)) (Nat.beq (Nat.mod n 2) 0)) n) t
noncomputable def T.all{G:Type}(p:G->Bool)(t:T G):Bool:=
 T.rec (motive:=fun _=>Bool) true (fun v _ _ a b=>Bool.rec false (Bool.rec false b a) (p v)) t
noncomputable def T.fill{G:Type}(v:G)(d:Nat):Nat->T G:=
 Nat.rec (motive:=fun _=>Nat->T G) (fun _=>T.nil) (fun _ ih n=>Nat.rec T.nil (fun m _=>T.node v (ih (Nat.div (Nat.succ m) 2)) (ih (Nat.div m 2))) n) d
noncomputable def T.putsK{G J:Type}(l:List G):Nat->T G->(T G->J)->J:=
 List.rec (motive:=fun _=>Nat->T G->(T G->J)->J) (fun _ t k=>k t) (fun x _ ih n t k=>T.setK t n x fun t'=>ih (Nat.succ n) t' k) l
noncomputable def T.addsK{G J:Type}(l:List G):Nat->T G->(T G->J)->J:=
 List.rec (motive:=fun _=>Nat->T G->(T G->J)->J) (fun _ t k=>k t) (fun x _ ih n t k=>T.insK t n x fun t'=>ih (Nat.succ n) t' k) l
def oS(f:Nat)(a:U):U:=match Nat.blt f 100 with | true=>qZ f a | false=>aHa f a
inductive E where
 |int (n:Int) | bool (b:Bool) | str (s:ByteArray) | var (i:Nat)
 |ar (o:BinOp) (k:IntKind) (a b:E)
 |cmp (o:BinOp) (a b:E)
 |mn (a b:E) | mx (a b:E)
 |wr (k:IntKind) (a:E)
 |not (a:E) | and (a b:E) | seq (a b:E) | iff (a b:E) | imp (a b:E)
 |fn (f:Nat) (a:E) | pr (a b:E)
 deriving Inhabited
def kd(o:BinOp)(k:IntKind)(x y:Int):Int:=
 match o with
 |.add=>k.wrap (x+y)
 |.sub=>k.wrap (x-y)
 |.mul=>k.wrap (x*y)
 |.quo=>k.wrap (x.tdiv y)
 |.rem=>x.tmod y
 |.and=>k.wrap (BitVec.ofInt k.bits x &&& BitVec.ofInt k.bits y).toNat
 |.or=>k.wrap (BitVec.ofInt k.bits x ||| BitVec.ofInt k.bits y).toNat
 |.xor=>k.wrap (BitVec.ofInt k.bits x ^^^ BitVec.ofInt k.bits y).toNat
 |.andNot=>k.wrap (BitVec.ofInt k.bits x &&& ~~~BitVec.ofInt k.bits y).toNat
 |.shl=>k.wrap (x*2^(min y.toNat k.bits))
 |.shr=>x.fdiv (2^(min y.toNat k.bits))
 |_=>0
def bV(o:BinOp)(x y:Int):Bool:=
 match o with
 |.eql=>x==y
 |.neq=>x != y
 |.lss=>decide (x<y)
 |.leq=>decide (x<=y)
 |.gtr=>decide (x>y)
 |.geq=>decide (x>=y)
 |_=>false
def qw:List UInt8->List UInt8->Bool
 |[],[]=>true
 |x::xs,y::ys=>match Nat.beq x.toNat y.toNat with | true=>qw xs ys | false=>false
 |_,_=>false
def kz(a b:ByteArray):Bool:=qw a.data.toList b.data.toList
def pp(x y:Int):Int:=if y<x then y else x
def l9(x y:Int):Int:=if y>x then y else x
structure Bk where
 blk:Nat
 off:Nat
 alt:Option (Option Addr)
 deriving Inhabited
def Bk.nil(k:Bk):Bool:=k.alt.isSome
def Bk.base(k:Bk):Option Addr:=match k.alt with | some x=>x | none=>some ⟨k.blk,k.off,none⟩
structure Env where
 vs:List U
 bs:List Bk
 fz:Nat->Option Obj
def Env.of(vs:List U):Env:=⟨vs,[],fun _=>none⟩
def E.den(F:Env):E->U
 |.int n=>.int n
 |.bool b=>.bool b
 |.str s=>.str s
 |.var i=>F.vs.getD i (.int 0)
 |.ar o k a b=>.int (kd o k (a.den F).toI (b.den F).toI)
 |.cmp o a b=>.bool (bV o (a.den F).toI (b.den F).toI)
 |.mn a b=>.int (pp (a.den F).toI (b.den F).toI)
 |.mx a b=>.int (l9 (a.den F).toI (b.den F).toI)
 |.wr k a=>.int (k.wrap (a.den F).toI)
 |.not a=>.bool (!(a.den F).toB)
 |.and a b=>.bool ((a.den F).toB&&(b.den F).toB)
 |.seq a b=>.bool (kz (a.den F).toS (b.den F).toS)
 |.iff a b=>.bool ((a.den F).toB==(b.den F).toB)
 |.imp a b=>.bool (!(a.den F).toB||(b.den F).toB)
 |.fn f a=>oS f (a.den F)
 |.pr a b=>.lst [a.den F,b.den F]
def E.I(F:Env)(e:E):Int:=(e.den F).toI
def E.B(F:Env)(e:E):Bool:=(e.den F).toB
def E.S(F:Env)(e:E):ByteArray:=(e.den F).toS
def E.L(F:Env)(e:E):List U:=(e.den F).toL
def eG:IntKind->IntKind->Bool
 |.i8,.i8 | .i16,.i16 | .i32,.i32 | .i64,.i64 | .u8,.u8 | .u16,.u16 | .u32,.u32 | .u64,.u64=>true
 |_,_=>false
def Ha:BinOp->Nat
 |.add=>0 | .sub=>1 | .mul=>2 | .quo=>3 | .rem=>4 | .and=>5 | .or=>6 | .xor=>7 | .shl=>8 | .shr=>9 | .andNot=>10
 |.eql=>11 | .neq=>12 | .lss=>13 | .leq=>14 | .gtr=>15 | .geq=>16
def LF(a b:BinOp):Bool:=Nat.beq (Ha a) (Ha b)
def jK:Int->Int->Bool
 |.ofNat a,.ofNat b=>Nat.beq a b
 |.negSucc a,.negSucc b=>Nat.beq a b
 |_,_=>false
def om:Bool->Bool->Bool
 |true,true=>true
 |false,false=>true
 |_,_=>false
def dx(a b:Bool):Bool:=match a with | true=>b | false=>false
noncomputable def E.on_int(b:E)(f:Int->Bool):Bool:=E.rec (motive:=fun _=>Bool) (fun x0=>f x0) (fun _=>false) (fun _=>false) (fun _=>false) (fun _ _ _ _ _ _=>false) (fun _ _ _ _ _=>false) (fun _ _ _ _=>false) (fun _ _ _ _=>false) (fun _ _ _=>false) (fun _ _=>false) (fun _ _ _ _=>false) (fun _ _ _ _=>false) (fun _ _ _ _=>false) (fun _ _ _ _=>false) (fun _ _ _=>false) (fun _ _ _ _=>false) b
noncomputable def E.on_bool(b:E)(f:Bool->Bool):Bool:=E.rec (motive:=fun _=>Bool) (fun _=>false) (fun x0=>f x0) (fun _=>false) (fun _=>false) (fun _ _ _ _ _ _=>false) (fun _ _ _ _ _=>false) (fun _ _ _ _=>false) (fun _ _ _ _=>false) (fun _ _ _=>false) (fun _ _=>false) (fun _ _ _ _=>false) (fun _ _ _ _=>false) (fun _ _ _ _=>false) (fun _ _ _ _=>false) (fun _ _ _=>false) (fun _ _ _ _=>false) b
noncomputable def E.on_str(b:E)(f:ByteArray->Bool):Bool:=E.rec (motive:=fun _=>Bool) (fun _=>false) (fun _=>false) (fun x0=>f x0) (fun _=>false) (fun _ _ _ _ _ _=>false) (fun _ _ _ _ _=>false) (fun _ _ _ _=>false) (fun _ _ _ _=>false) (fun _ _ _=>false) (fun _ _=>false) (fun _ _ _ _=>false) (fun _ _ _ _=>false) (fun _ _ _ _=>false) (fun _ _ _ _=>false) (fun _ _ _=>false) (fun _ _ _ _=>false) b
noncomputable def E.on_var(b:E)(f:Nat->Bool):Bool:=E.rec (motive:=fun _=>Bool) (fun _=>false) (fun _=>false) (fun _=>false) (fun x0=>f x0) (fun _ _ _ _ _ _=>false) (fun _ _ _ _ _=>false) (fun _ _ _ _=>false) (fun _ _ _ _=>false) (fun _ _ _=>false) (fun _ _=>false) (fun _ _ _ _=>false) (fun _ _ _ _=>false) (fun _ _ _ _=>false) (fun _ _ _ _=>false) (fun _ _ _=>false) (fun _ _ _ _=>false) b
noncomputable def E.on_ar(b:E)(f:BinOp->IntKind->E->E->Bool):Bool:=E.rec (motive:=fun _=>Bool) (fun _=>false) (fun _=>false) (fun _=>false) (fun _=>false) (fun x0 x1 x2 x3 _ _=>f x0 x1 x2 x3) (fun _ _ _ _ _=>false) (fun _ _ _ _=>false) (fun _ _ _ _=>false) (fun _ _ _=>false) (fun _ _=>false) (fun _ _ _ _=>false) (fun _ _ _ _=>false) (fun _ _ _ _=>false) (fun _ _ _ _=>false) (fun _ _ _=>false) (fun _ _ _ _=>false) b
noncomputable def E.on_cmp(b:E)(f:BinOp->E->E->Bool):Bool:=E.rec (motive:=fun _=>Bool) (fun _=>false) (fun _=>false) (fun _=>false) (fun _=>false) (fun _ _ _ _ _ _=>false) (fun x0 x1 x2 _ _=>f x0 x1 x2) (fun _ _ _ _=>false) (fun _ _ _ _=>false) (fun _ _ _=>false) (fun _ _=>false) (fun _ _ _ _=>false) (fun _ _ _ _=>false) (fun _ _ _ _=>false) (fun _ _ _ _=>false) (fun _ _ _=>false) (fun _ _ _ _=>false) b
noncomputable def E.on_mn(b:E)(f:E->E->Bool):Bool:=E.rec (motive:=fun _=>Bool) (fun _=>false) (fun _=>false) (fun _=>false) (fun _=>false) (fun _ _ _ _ _ _=>false) (fun _ _ _ _ _=>false) (fun x0 x1 _ _=>f x0 x1) (fun _ _ _ _=>false) (fun _ _ _=>false) (fun _ _=>false) (fun _ _ _ _=>false) (fun _ _ _ _=>false) (fun _ _ _ _=>false) (fun _ _ _ _=>false) (fun _ _ _=>false) (fun _ _ _ _=>false) b
noncomputable def E.on_mx(b:E)(f:E->E->Bool):Bool:=E.rec (motive:=fun _=>Bool) (fun _=>false) (fun _=>false) (fun _=>false) (fun _=>false) (fun _ _ _ _ _ _=>false) (fun _ _ _ _ _=>false) (fun _ _ _ _=>false) (fun x0 x1 _ _=>f x0 x1) (fun _ _ _=>false) (fun _ _=>false) (fun _ _ _ _=>false) (fun _ _ _ _=>false) (fun _ _ _ _=>false) (fun _ _ _ _=>false) (fun _ _ _=>false) (fun _ _ _ _=>false) b
noncomputable def E.on_wr(b:E)(f:IntKind->E->Bool):Bool:=E.rec (motive:=fun _=>Bool) (fun _=>false) (fun _=>false) (fun _=>false) (fun _=>false) (fun _ _ _ _ _ _=>false) (fun _ _ _ _ _=>false) (fun _ _ _ _=>false) (fun _ _ _ _=>false) (fun x0 x1 _=>f x0 x1) (fun _ _=>false) (fun _ _ _ _=>false) (fun _ _ _ _=>false) (fun _ _ _ _=>false) (fun _ _ _ _=>false) (fun _ _ _=>false) (fun _ _ _ _=>false) b
noncomputable def E.on_not(b:E)(f:E->Bool):Bool:=E.rec (motive:=fun _=>Bool) (fun _=>false) (fun _=>false) (fun _=>false) (fun _=>false) (fun _ _ _ _ _ _=>false) (fun _ _ _ _ _=>false) (fun _ _ _ _=>false) (fun _ _ _ _=>false) (fun _ _ _=>false) (fun x0 _=>f x0) (fun _ _ _ _=>false) (fun _ _ _ _=>false) (fun _ _ _ _=>false) (fun _ _ _ _=>false) (fun _ _ _=>false) (fun _ _ _ _=>false) b
noncomputable def E.on_and(b:E)(f:E->E->Bool):Bool:=E.rec (motive:=fun _=>Bool) (fun _=>false) (fun _=>false) (fun _=>false) (fun _=>false) (fun _ _ _ _ _ _=>false) (fun _ _ _ _ _=>false) (fun _ _ _ _=>false) (fun _ _ _ _=>false) (fun _ _ _=>false) (fun _ _=>false) (fun x0 x1 _ _=>f x0 x1) (fun _ _ _ _=>false) (fun _ _ _ _=>false) (fun _ _ _ _=>false) (fun _ _ _=>false) (fun _ _ _ _=>false) b
noncomputable def E.on_seq(b:E)(f:E->E->Bool):Bool:=E.rec (motive:=fun _=>Bool) (fun _=>false) (fun _=>false) (fun _=>false) (fun _=>false) (fun _ _ _ _ _ _=>false) (fun _ _ _ _ _=>false) (fun _ _ _ _=>false) (fun _ _ _ _=>false) (fun _ _ _=>false) (fun _ _=>false) (fun _ _ _ _=>false) (fun x0 x1 _ _=>f x0 x1) (fun _ _ _ _=>false) (fun _ _ _ _=>false) (fun _ _ _=>false) (fun _ _ _ _=>false) b
noncomputable def E.on_iff(b:E)(f:E->E->Bool):Bool:=E.rec (motive:=fun _=>Bool) (fun _=>false) (fun _=>false) (fun _=>false) (fun _=>false) (fun _ _ _ _ _ _=>false) (fun _ _ _ _ _=>false) (fun _ _ _ _=>false) (fun _ _ _ _=>false) (fun _ _ _=>false) (fun _ _=>false) (fun _ _ _ _=>false) (fun _ _ _ _=>false) (fun x0 x1 _ _=>f x0 x1) (fun _ _ _ _=>false) (fun _ _ _=>false) (fun _ _ _ _=>false) b
noncomputable def E.on_imp(b:E)(f:E->E->Bool):Bool:=E.rec (motive:=fun _=>Bool) (fun _=>false) (fun _=>false) (fun _=>false) (fun _=>false) (fun _ _ _ _ _ _=>false) (fun _ _ _ _ _=>false) (fun _ _ _ _=>false) (fun _ _ _ _=>false) (fun _ _ _=>false) (fun _ _=>false) (fun _ _ _ _=>false) (fun _ _ _ _=>false) (fun _ _ _ _=>false) (fun x0 x1 _ _=>f x0 x1) (fun _ _ _=>false) (fun _ _ _ _=>false) b
noncomputable def E.on_fn(b:E)(f:Nat->E->Bool):Bool:=E.rec (motive:=fun _=>Bool) (fun _=>false) (fun _=>false) (fun _=>false) (fun _=>false) (fun _ _ _ _ _ _=>false) (fun _ _ _ _ _=>false) (fun _ _ _ _=>false) (fun _ _ _ _=>false) (fun _ _ _=>false) (fun _ _=>false) (fun _ _ _ _=>false) (fun _ _ _ _=>false) (fun _ _ _ _=>false) (fun _ _ _ _=>false) (fun x0 x1 _=>f x0 x1) (fun _ _ _ _=>false) b
noncomputable def E.on_pr(b:E)(f:E->E->Bool):Bool:=E.rec (motive:=fun _=>Bool) (fun _=>false) (fun _=>false) (fun _=>false) (fun _=>false) (fun _ _ _ _ _ _=>false) (fun _ _ _ _ _=>false) (fun _ _ _ _=>false) (fun _ _ _ _=>false) (fun _ _ _=>false) (fun _ _=>false) (fun _ _ _ _=>false) (fun _ _ _ _=>false) (fun _ _ _ _=>false) (fun _ _ _ _=>false) (fun _ _ _=>false) (fun x0 x1 _ _=>f x0 x1) b
noncomputable def E.beq(a:E):E->Bool:=
 E.rec (motive:=fun _=>E->Bool)
  (fun n b=>b.on_int fun m=>jK n m)
  (fun x b=>b.on_bool fun y=>om x y)
  (fun s b=>b.on_str fun t=>kz s t)
  (fun i b=>b.on_var fun j=>Nat.beq i j)
  (fun o k _ _ f g b=>b.on_ar fun o' k' a' b'=>dx (LF o o') (dx (eG k k') (dx (f a') (g b'))))
  (fun o _ _ f g b=>b.on_cmp fun o' a' b'=>dx (LF o o') (dx (f a') (g b')))
  (fun _ _ f g b=>b.on_mn fun a' b'=>dx (f a') (g b'))
  (fun _ _ f g b=>b.on_mx fun a' b'=>dx (f a') (g b'))
  (fun k _ f b=>b.on_wr fun k' a'=>dx (eG k k') (f a'))
  (fun _ f b=>b.on_not fun a'=>f a')
  (fun _ _ f g b=>b.on_and fun a' b'=>dx (f a') (g b'))
  (fun _ _ f g b=>b.on_seq fun a' b'=>dx (f a') (g b'))
  (fun _ _ f g b=>b.on_iff fun a' b'=>dx (f a') (g b'))
  (fun _ _ f g b=>b.on_imp fun a' b'=>dx (f a') (g b'))
  (fun n _ f b=>b.on_fn fun m a'=>dx (Nat.beq n m) (f a'))
  (fun _ _ f g b=>b.on_pr fun a' b'=>dx (f a') (g b')) a
def fB{J:Type}(n:Nat)(k:Nat->J):J:=
 match n with
 |0=>k 0
 |m+1=>k (m+1)
def dL(a b:Nat):Nat:=Nat.mod (Nat.add (Nat.mul a 1000003) b) 2305843009213693951
def aGG(n:Int):Nat:=match n with | .ofNat m=>Nat.mul 2 m | .negSucc m=>Nat.add (Nat.mul 2 m) 1
def al4(k:IntKind):Nat:=match k with | .i8=>1 | .i16=>2 | .i32=>3 | .i64=>4 | .u8=>5 | .u16=>6 | .u32=>7 | .u64=>8
noncomputable def l3(a:E):Nat:=
 E.rec (motive:=fun _=>Nat)
  (fun n=>dL 3 (aGG n)) (fun x=>match x with | true=>5 | false=>7) (fun _=>11) (fun i=>dL 13 i)
  (fun o k _ _ f g=>dL (dL (dL (dL 17 (Ha o)) (al4 k)) f) g)
  (fun o _ _ f g=>dL (dL (dL 19 (Ha o)) f) g)
  (fun _ _ f g=>dL (dL 23 f) g)
  (fun _ _ f g=>dL (dL 29 f) g)
  (fun k _ f=>dL (dL 31 (al4 k)) f)
  (fun _ f=>dL 37 f)
  (fun _ _ f g=>dL (dL 41 f) g)
  (fun _ _ f g=>dL (dL 43 f) g)
  (fun _ _ f g=>dL (dL 47 f) g)
  (fun _ _ f g=>dL (dL 53 f) g)
  (fun n _ f=>dL (dL 59 n) f)
  (fun _ _ f g=>dL (dL 61 f) g) a
def P7(x:E):Nat:=match x with | .imp _ c=>l3 c | x=>l3 x
def di:E->E
 |.fn 6 (.pr c (.int _))=>c
 |e=>e
def bT1(x:E):Nat:=match x with
 |.cmp _ a b=>match b with
  |.int _=>l3 (di a)
  |_=>match a with
   |.int _=>l3 (di b)
   |_=>0
 |_=>0
def bT(x:E):Nat:=match x with | .not y=>bT1 y | y=>bT1 y
noncomputable def GU(n:Nat)(l:List E):List E:=List.rec (motive:=fun _=>List E) [] (fun x _ ih=>Bool.rec ih (x::ih) (Nat.beq (P7 x) n)) l
noncomputable def JV(n:Nat)(l:List E):List E:=List.rec (motive:=fun _=>List E) [] (fun x _ ih=>Bool.rec ih (x::ih) (Nat.beq (l3 x) n)) l
noncomputable def CC(n:Nat)(l:List E):List E:=List.rec (motive:=fun _=>List E) [] (fun x _ ih=>Bool.rec ih (x::ih) (Nat.beq (bT x) n)) l
def jh(o:BinOp)(k:IntKind)(a b:E):E:=
 match a,b with
 |.int x,.int y=>.int (kd o k x y)
 |_,_=>.ar o k a b
def aW(a:E):E:=
 match a with
 |.bool b=>.bool (!b)
 |.not x=>x
 |_=>.not a
def eT:E->Int
 |.fn 6 (.pr _ (.int x))=>x
 |_=>0
def aF(o:BinOp)(a b:E):E:=
 match a,b with
 |.int x,.int y=>.bool (bV o x y)
 |_,_=>match (di a).beq (di b)with
  |true=>.bool (bV o (eT a) (eT b))
  |false=>match o with
   |.eql=>match a with
    |.int x=>.cmp .eql b (.int x)
    |a=>.cmp .eql a b
   |.neq=>match a with
    |.int x=>.not (.cmp .eql b (.int x))
    |a=>.not (.cmp .eql a b)
   |.gtr=>.cmp .lss b a
   |.leq=>.not (.cmp .lss b a)
   |.geq=>.not (.cmp .lss a b)
   |_=>.cmp o a b
def tY(a b:E):E:=
 match a,b with
 |.int x,.int y=>.int (pp x y)
 |_,_=>.mn a b
def qc(a b:E):E:=
 match a,b with
 |.int x,.int y=>.int (l9 x y)
 |_,_=>.mx a b
def t7(k:IntKind)(a:E):E:=
 match a with
 |.int x=>.int (k.wrap x)
 |_=>.wr k a
def AC(a b:E):E:=
 match a with
 |.bool true=>match b with
  |.bool y=>.bool y
  |_=>.and a b
 |.bool false=>.bool false
 |_=>.and a b
def oq(a b:E):E:=
 match a,b with
 |.str x,.str y=>.bool (kz x y)
 |_,_=>.seq a b
def cY(a b:E):E:=
 match a,b with
 |.int x,.int y=>.int (x+y)
 |.int x,b=>match jK x 0 with
  |true=>b
  |false=>match b with
   |.fn 6 (.pr c (.int y))=>.fn 6 (.pr c (.int (x+y)))
   |_=>.fn 6 (.pr b (.int x))
 |.fn 6 (.pr c (.int x)),.int y=>.fn 6 (.pr c (.int (x+y)))
 |a,.int y=>match jK y 0 with
  |true=>a
  |false=>.fn 6 (.pr a (.int y))
 |a,b=>.fn 6 (.pr a b)
def kQ(a b:E):E:=
 match a,b with
 |.int x,.int y=>.int (x-y)
 |.fn 6 (.pr c (.int x)),.int y=>match jK (x-y) 0 with
  |true=>c
  |false=>.fn 6 (.pr c (.int (x-y)))
 |a,.int y=>match jK y 0 with
  |true=>a
  |false=>.fn 6 (.pr a (.int (-y)))
 |a,b=>match a.beq b with
  |true=>.int 0
  |false=>.fn 7 (.pr a b)
def iY:E->E
 |.fn 2 (.pr l' x)=>iY l'
 |.fn 3 (.pr a b)=>cY (iY a) (iY b)
 |.fn 5 (.pr n x)=>qc n (.int 0)
 |.fn 10 _=>.int 0
 |.fn 11 _=>.int 1
 |.fn 21 (.pr r c)=>iY c
 |.fn 23 (.pr x r)=>cY (.int 1) (iY r)
 |.fn 28 (.pr r c)=>iY c
 |.fn 30 _=>.int 0
 |l=>.fn 0 l
def Gs(v:E):E->Nat->Option E
 |.fn 23 (.pr x r),n=>match n with
  |0=>some (.fn 23 (.pr v r))
  |n+1=>match Gs v r n with
   |some r'=>some (.fn 23 (.pr x r'))
   |none=>none
 |_,_=>none
def Kn(i:Nat)(v:E):E->E
 |.fn 2 (.pr l (.pr (.int (.ofNat j)) u))=>match Nat.beq i j with
  |true=>.fn 2 (.pr l (.pr (.int (.ofNat i)) v))
  |false=>match Nat.blt i j with
   |true=>.fn 2 (.pr (Kn i v l) (.pr (.int (.ofNat j)) u))
   |false=>.fn 2 (.pr (.fn 2 (.pr l (.pr (.int (.ofNat j)) u))) (.pr (.int (.ofNat i)) v))
 |l=>.fn 2 (.pr l (.pr (.int (.ofNat i)) v))
def jW(l i v:E):E:=
 match i with
 |.int (.ofNat n)=>match Gs v l n with
  |some r=>r
  |none=>Kn n v l
 |_=>.fn 2 (.pr l (.pr i v))
def jG:List E->E
 |[]=>.fn 10 (.int 0)
 |x::xs=>.fn 23 (.pr x (jG xs))
def Ed:E->Bool
 |.fn 10 _=>true
 |.fn 30 _=>true
 |_=>false
def KD(b:E):E->Option E
 |.fn 23 (.pr x r)=>match KD b r with
  |some r'=>some (.fn 23 (.pr x r'))
  |none=>none
 |.fn 10 _=>some b
 |_=>none
def JK(a b:E):E:=
 match Ed b with
 |true=>a
 |false=>match KD b a with
  |some r=>r
  |none=>.fn 3 (.pr a b)
structure Off where
 base:Nat
 scale:Nat:=0
 idx:E:=.int 0
 deriving Inhabited
def Off.den(F:Env)(o:Off):Nat:=o.base+o.scale*(o.idx.I F).toNat
inductive CK where
 |int (k:IntKind) | bool | str | slc (ks:List CK)
 deriving Inhabited
mutual
def CK.beq:CK->CK->Bool
 |.int k,.int k'=>eG k k'
 |.bool,.bool=>true
 |.str,.str=>true
 |.slc a,.slc b=>fJ a b
 |_,_=>false
def fJ:List CK->List CK->Bool
 |[],[]=>true
 |x::xs,y::ys=>x.beq y&&fJ xs ys
 |_,_=>false
end
def CK.val:CK->U->Value
 |.int k,u=>.int k u.toI
 |.bool,u=>.bool u.toB
 |.str,u=>.string u.toS
 |.slc _,u=>u.raw
inductive SlOk (fz:Nat->Option Obj):List CK->U->Prop
 |nil {ks:List CK}:SlOk fz ks (.bx none 0 0 [])
 |empty {ks:List CK} (a:Addr):SlOk fz ks (.bx (some a) 0 0 [])
 | mk {ks:List CK} {r off len cap:Nat} {l:List U} {arr:Array Value} {elem:TypeId} {fr:Nat×Nat} (hl:l.length=len*ks.length) (hc:len<=cap)
   (hz:l≠[]->fz r=some (.cells arr elem fr))
   (hv:∀(i:Nat)(u:U),l[i]?=some u->∃c,ks[i%ks.length]?=some c/\arr[off+i]?=some (c.val u))
   (hs:∀(i:Nat)(u:U)(ks':List CK),l[i]?=some u->ks[i%ks.length]?=some (.slc ks')->SlOk fz ks' u):
   SlOk fz ks (.bx (some ⟨r,off,none⟩) len cap l)
def CK.ok(fz:Nat->Option Obj):CK->U->Prop
 |.slc ks,u=>SlOk fz ks u
 |_,_=>True
inductive SV where
 |int (k:IntKind) (e:E) | bool (e:E) | str (e:E)
 |nilp | ptr (b:Nat) (o:Off)
 |nils | slice (b:Nat) (o:Off) (len cap:E)
 |nslice (b:Nat) (len cap:E)
 |bsl (ks:List CK) (e:E) | bptr (ks:List CK) (e idx:E) (j:Nat)
 |nilm | map (b:Nat)
 |nili | nilf | func (fn:Fn) (fi ca:List SV)
 |agg (cs:List SV) | tup (cs:List SV)
 |junk
 |nsl (b:Nat) (ks:List CK) (e i:E) (c:Nat) | nptr (b:Nat) (ks:List CK) (e i:E) (c:Nat) (x:E) (j:Nat)
 deriving Inhabited
def Env.blk(F:Env)(b:Nat):Nat:=(F.bs.getD b ⟨0,0,none⟩).blk
def Env.off(F:Env)(b:Nat):Nat:=(F.bs.getD b ⟨0,0,none⟩).off
def Env.nil(F:Env)(b:Nat):Bool:=(F.bs.getD b ⟨0,0,none⟩).nil
def Env.base(F:Env)(b:Nat):Option Addr:=(F.bs.getD b ⟨0,0,none⟩).base
def Fb(u:U)(n:Nat):Option Addr:=match u.adr with | some a=>some ⟨a.block,a.off+n,none⟩ | none=>none
mutual
def SV.den(F:Env):SV->Value
 |.int k e=>.int k (e.I F)
 |.bool e=>.bool (e.B F)
 |.str e=>.string (e.S F)
 |.nilp=>.pointer none
 |.ptr b o=>.pointer (some ⟨F.blk b,F.off b+o.den F,none⟩)
 |.nils=>.slice none 0 0
 |.slice b o l c=>.slice (some ⟨F.blk b,F.off b+o.den F,none⟩) (l.I F).toNat (c.I F).toNat
 |.nslice b l c=>.slice (F.base b) (l.I F).toNat (c.I F).toNat
 |.bsl _ e=>(e.den F).raw
 |.bptr ks e i j=>.pointer (Fb (e.den F) ((i.I F).toNat*ks.length+j))
 |.nilm=>.map none
 |.map b=>.map (some (F.blk b))
 |.nili=>.nilIface
 |.nilf=>.nilFunc
 |.func fn fi ca=>.func fn (SV.dens F fi).toArray (SV.dens F ca).toArray
 |.agg cs=>.agg (SV.dens F cs).toArray
 |.tup cs=>.tuple (SV.dens F cs).toArray
 |.junk=>Go.undef
 |.nsl _ _ e _ _=>(e.den F).raw
 |.nptr _ ks e _ _ x j=>.pointer (Fb (e.den F) ((x.I F).toNat*ks.length+j))
def SV.dens(F:Env):List SV->List Value
 |[]=>[]
 |v::vs=>v.den F::SV.dens F vs
end
mutual
def SV.ok(F:Env):SV->Prop
 |.bsl ks e=>SlOk F.fz ks (e.den F)
 |.bptr ks e i _=>SlOk F.fz ks (e.den F)/\0<=i.I F/\((i.I F).toNat+1)*ks.length<=(e.L F).length/\0<ks.length
 |.func _ fi ca=>SV.oks F fi/\SV.oks F ca
 |.agg cs=>SV.oks F cs
 |.tup cs=>SV.oks F cs
 |.nptr _ ks e _ _ x _=>0<=x.I F/\0<ks.length/\∃(r len cap:Nat) (l:List U),e.den F=.bx (some ⟨r,0,none⟩) len cap l/\(x.I F).toNat<len
 |_=>True
def SV.oks(F:Env):List SV->Prop
 |[]=>True
 |v::vs=>v.ok F/\SV.oks F vs
end
def SV.undef:SV:=.tup []
structure Ent where
 k:SV
 v:SV
 born:E
 deriving Inhabited
inductive SObj where
 |gone
 |cells (cs:List SV) (tot:E) (elem:TypeId)
 |flat (ks:List CK) (l n tot:E) (elem:TypeId)
 |map (es:List Ent) (clk:E)
 |mapl (k:IntKind) (c:CK) (e:E)
 |maplp (k:IntKind) (c:CK) (e ke s:E)
 |iter (k:IntKind) (c:CK) (e left:E) (cur:Option E)
 |nest (ks:List CK) (l n tot:E) (elem:TypeId)
 deriving Inhabited
structure Blk where
 own:Bool
 obj:SObj
 deriving Inhabited
structure St where
 nv:Nat
 nb:Nat
 heap:T Blk
 pc:List E
 deriving Inhabited
inductive Ex where
 |normal | exit (id:Nat) | ret
 deriving Inhabited
abbrev Tm:=T SV
structure Out where
 ex:Ex
 tmps:Tm
 st:St
 deriving Inhabited
noncomputable def E.scp(nv:Nat)(e:E):Bool:=
 E.rec (motive:=fun _=>Bool) (fun _=>true) (fun _=>true) (fun _=>true) (fun i=>Nat.blt i nv)
  (fun _ _ _ _ a b=>Bool.rec false b a) (fun _ _ _ a b=>Bool.rec false b a) (fun _ _ a b=>Bool.rec false b a) (fun _ _ a b=>Bool.rec false b a)
  (fun _ _ a=>a) (fun _ a=>a) (fun _ _ a b=>Bool.rec false b a) (fun _ _ a b=>Bool.rec false b a) (fun _ _ a b=>Bool.rec false b a) (fun _ _ a b=>Bool.rec false b a)
  (fun _ _ a=>a) (fun _ _ a b=>Bool.rec false b a) e
noncomputable def SV.scp(nv nb:Nat)(v:SV):Bool:=
 SV.rec (motive_1:=fun _=>Bool) (motive_2:=fun _=>Bool)
  (fun _ e=>e.scp nv) (fun e=>e.scp nv) (fun e=>e.scp nv) true (fun b o=>Bool.rec false (o.idx.scp nv) (Nat.blt b nb))
  true (fun b o l c=>Bool.rec false (Bool.rec false (Bool.rec false (c.scp nv) (l.scp nv)) (o.idx.scp nv)) (Nat.blt b nb))
  (fun b l c=>Bool.rec false (Bool.rec false (c.scp nv) (l.scp nv)) (Nat.blt b nb))
  (fun _ e=>e.scp nv) (fun _ e i _=>Bool.rec false (i.scp nv) (e.scp nv))
  true (fun b=>Nat.blt b nb) true true (fun _ _ _ a b=>Bool.rec false b a) (fun _ a=>a) (fun _ a=>a) true
  (fun b _ e i _=>Bool.rec false (Bool.rec false (i.scp nv) (e.scp nv)) (Nat.blt b nb)) (fun b _ e i _ x _=>Bool.rec false (Bool.rec false (Bool.rec false (x.scp nv) (i.scp nv)) (e.scp nv)) (Nat.blt b nb))
  true (fun _ _ a b=>Bool.rec false b a) v
noncomputable def SV.scps(nv nb:Nat)(l:List SV):Bool:=
 List.rec (motive:=fun _=>Bool) true (fun v _ b=>Bool.rec false b (v.scp nv nb)) l
def BF(nv nb:Nat):List Ent->Bool
 |[]=>true
 |x::es=>x.k.scp nv nb&&(x.v.scp nv nb&&(x.born.scp nv&&BF nv nb es))
def aKk(nv:Nat):Option E->Bool
 |none=>true
 |some e=>e.scp nv
def SObj.scp(nv nb:Nat):SObj->Bool
 |.gone=>true
 |.cells cs tot _=>tot.scp nv&&SV.scps nv nb cs
 |.flat _ l n tot _=>l.scp nv&&(n.scp nv&&tot.scp nv)
 |.map es clk=>BF nv nb es&&clk.scp nv
 |.mapl _ _ e=>e.scp nv
 |.maplp _ _ e ke s=>e.scp nv&&(ke.scp nv&&s.scp nv)
 |.iter _ _ e n cur=>e.scp nv&&(n.scp nv&&aKk nv cur)
 |.nest _ l n tot _=>l.scp nv&&(n.scp nv&&tot.scp nv)
def BG(nv:Nat):List E->Bool
 |[]=>true
 |e::es=>e.scp nv&&BG nv es
def Blk.scp(nv nb:Nat)(b:Blk):Bool:=b.obj.scp nv nb
def St.scp(st:St):Bool:=BG st.nv st.pc&&T.all (Blk.scp st.nv st.nb) st.heap
def kr(nv nb:Nat)(t:Tm):Bool:=T.all (SV.scp nv nb) t
noncomputable def dF{G:Type}(l:List G):Nat->Option G:=
 List.rec (motive:=fun _=>Nat->Option G) (fun _=>none) (fun x _ g n=>Nat.rec (some x) (fun n _=>g n) n) l
noncomputable def mS{G:Type}(l:List G):Nat->Option (List G):=
 List.rec (motive:=fun _=>Nat->Option (List G)) (fun n=>Nat.rec (some []) (fun _ _=>none) n)
  (fun x _ g n=>Nat.rec (some []) (fun n _=>Option.rec none (fun l=>some (x::l)) (g n)) n) l
noncomputable def yM{G:Type}(l:List G):Nat->List G:=
 List.rec (motive:=fun _=>Nat->List G) (fun _=>[]) (fun x xs g n=>Nat.rec (x::xs) (fun n _=>g n) n) l
noncomputable def uv{G:Type}(cs:List G):List G->Option (List G):=
 List.rec (motive:=fun _=>List G->Option (List G)) (fun vs=>List.rec (some []) (fun _ _ _=>none) vs)
  (fun c cs g vs=>List.rec (some (c::cs)) (fun v vs _=>Option.rec none (fun l=>some (v::l)) (g vs)) vs) cs
noncomputable def pJ{G:Type}(cs:List G):Nat->List G->Option (List G):=
 List.rec (motive:=fun _=>Nat->List G->Option (List G)) (fun n vs=>Nat.rec (uv [] vs) (fun _ _=>none) n)
  (fun c cs g n vs=>Nat.rec (uv (c::cs) vs) (fun n _=>Option.rec none (fun l=>some (c::l)) (g n vs)) n) cs
def SV.cells:SV->List SV
 |.agg cs=>cs
 |v=>[v]
def SV.one:SV->Bool
 |.agg _ | .tup _ | .junk=>false
 |_=>true
def qH:List SV->Bool
 |[]=>true
 |v::vs=>v.one&&qH vs
mutual
def ofVal:Value->Option SV
 |.bool b=>some (.bool (.bool b))
 |.int k n=>some (.int k (.int n))
 |.string s=>some (.str (.str s))
 |.pointer none=>some .nilp
 |.slice none n c=>if Nat.beq n 0&&Nat.beq c 0 then some .nils else none
 |.map none=>some .nilm
 |.nilFunc=>some .nilf
 |.nilIface=>some .nili
 |.agg cs=>match sJ cs.toList with | some l=>some (.agg l) | none=>none
 |_=>none
def sJ:List Value->Option (List SV)
 |[]=>some []
 |v::vs=>match ofVal v,sJ vs with | some x,some l=>some (x::l) | _,_=>none
end
end
end Go.SX

namespace Go.SX
noncomputable section
structure Tmpl where
 tmps:Tm
 st:St
 less:E
 deriving Inhabited
structure LoopX where
 n0:Nat
 b0:Nat
 xs:List Out
 deriving Inhabited
structure Ann where
 fn:FuncId
 key:Nat
 ts:List Tmpl
 known:Option LoopX:=none
 deriving Inhabited
inductive NatR where
 |no | lack (e:E) | outs (l:List (SV×St))
structure Nat1 where
 fn:FuncId
 eff:List E->List SV->St->NatR
structure Tab where
 ty:T TypeInfo
 fn:T Func
 facts:List E
 anns:List Ann
 nats:List Nat1
def Tab.und(tb:Tab)(t:TypeId):Option TypeDesc:=
 match tb.ty.get t with
 |some i=>match i.desc with
  |.named _ u=>match tb.ty.get u with
   |some j=>some j.desc
   |none=>none
  |d=>some d
 |none=>none
def vF(o:Off)(n:Nat):Off:=⟨Nat.add o.base n,o.scale,o.idx⟩
def Fd(tb:Tab)(t:TypeId):Option (List Field):=
 match tb.und t with
 |some (.struct fs)=>some fs.toList
 |_=>none
def cq(tb:Tab)(t:TypeId):Option Nat:=
 match tb.ty.get t with
 |some i=>some i.size
 |none=>none
def kw(tb:Tab)(t:TypeId):Option Bool:=
 match tb.und t with
 |some (.struct _)=>some true
 |some (.array _ _)=>some true
 |some _=>some false
 |none=>none
def iM(tb:Tab)(t:TypeId):Option SV:=
 match tb.ty.get t with
 |some i=>match i.zero with
  |some v=>ofVal v
  |none=>none
 |none=>none
def n8(tb:Tab)(t:TypeId)(cs:List SV)(off:Nat):Option SV:=
 match kw tb t with
 |some true=>match cq tb t with
  |some n=>match mS (yM cs off) n with
   |some l=>some (.agg l)
   |none=>none
  |none=>none
 |some false=>dF cs off
 |none=>none
def CM(f:TypeId->SV->SV->Option E)(tb:Tab)(xs ys:List SV):List Field->Option E
 |[]=>some (.bool true)
 |fd::fds=>
  if fd.name == "_" then none else
  match n8 tb fd.type xs fd.offset,n8 tb fd.type ys fd.offset with
  |some x,some y=>match f fd.type x y,CM f tb xs ys fds with
   |some a,some b=>some (AC a b)
   |_,_=>none
  |_,_=>none
def CL(f:SV->SV->Option E)(tb:Tab)(elem:TypeId)(n:Nat)(xs ys:List SV):Nat->Nat->Option E
 |0,_=>some (.bool true)
 |k+1,i=>
  match n8 tb elem xs (Nat.mul i n),n8 tb elem ys (Nat.mul i n)with
  |some x,some y=>match f x y,CL f tb elem n xs ys k (Nat.succ i)with
   |some a,some b=>some (AC a b)
   |_,_=>none
  |_,_=>none
def HL(a b:E):Option E:=
 match a,b with
 |.bool true,.bool y=>some (.bool y)
 |.bool false,.bool y=>some (.bool (!y))
 |.bool true,b=>some b
 |.bool false,b=>some (aW b)
 |a,.bool true=>some a
 |a,.bool false=>some (aW a)
 |a,b=>some (.iff a b)
def iL(P:Program)(tb:Tab):Nat->TypeId->SV->SV->Option E
 |0,_,_,_=>none
 |d+1,t,x,y=>
  match tb.und t,x,y with
  |some .bool,.bool a,.bool b=>HL a b
  |some (.int _),.int k a,.int k' b=>if eG k k' then some (aF .eql a b)else none
  |some .string,.str a,.str b=>some (oq a b)
  |some (.pointer _),.nilp,.nilp=>some (.bool true)
  |some (.pointer _),.nilp,.ptr _ _=>some (.bool false)
  |some (.pointer _),.ptr _ _,.nilp=>some (.bool false)
  |some (.slice _),.nils,.nils=>some (.bool true)
  |some (.slice _),.nils,.slice _ _ _ _=>some (.bool false)
  |some (.slice _),.slice _ _ _ _,.nils=>some (.bool false)
  |some (.map _ _),.nilm,.nilm=>some (.bool true)
  |some (.map _ _),.nilm,.map _=>some (.bool false)
  |some (.map _ _),.map _,.nilm=>some (.bool false)
  |some (.func _ _ _),.nilf,.nilf=>some (.bool true)
  |some (.func _ _ _),.nilf,.func _ _ _=>some (.bool false)
  |some (.func _ _ _),.func _ _ _,.nilf=>some (.bool false)
  |some (.struct fs),.agg xs,.agg ys=>
   if P.stoodInHeld t then none else CM (iL P tb d) tb xs ys fs.toList
  |some (.array len elem),.agg xs,.agg ys=>
   match cq tb elem with
   |some n=>CL (iL P tb d elem) tb elem n xs ys len 0
   |none=>none
  |_,_,_=>none
def anV:SV->Bool
 |.agg _=>true
 |_=>false
def me(P:Program)(tb:Tab)(t:TypeId)(x y:SV):Option E:=
 if anV x then(if P.eqGuardType P.depth t then none else iL P tb 40 t x y)else iL P tb 40 t x y
def ZB:E->Bool
 |.int n=>!(jK n 0)
 |_=>false
def lD(P:Program)(tb:Tab)(op:BinOp)(t:TypeId)(x y:SV):Option SV:=
 match x,y with
 |.int k a,.int k' b=>
  match op with
  |.shl | .shr=>match b with
   |.int (.ofNat _)=>some (.int k (jh op k a b))
   |_=>none
  |.add | .sub | .mul | .and | .or | .xor | .andNot=>if eG k k' then some (.int k (jh op k a b))else none
  |.quo | .rem=>if eG k k'&&ZB b then some (.int k (jh op k a b))else none
  |_=>if eG k k' then some (.bool (aF op a b))else none
 |.str a,.str b=>
  match op with
  |.eql=>some (.bool (oq a b))
  |.neq=>some (.bool (aW (oq a b)))
  |_=>none
 |x,y=>
  match op with
  |.eql=>match me P tb t x y with | some e=>some (.bool e) | none=>none
  |.neq=>match me P tb t x y with | some e=>some (.bool (aW e)) | none=>none
  |_=>none
def GP(op:UnOp)(x:SV):Option SV:=
 match op,x with
 |.neg,.int k a=>some (.int k (jh .sub k (.int 0) a))
 |.xor,.int k a=>some (.int k (jh .xor k (.int (match k.signed with | true=>-1 | false=>k.max)) a))
 |.not,.bool a=>some (.bool (aW a))
 |_,_=>none
def Jk(tb:Tab)(src dst:TypeId)(x:SV):Option SV:=
 match tb.und src,tb.und dst,x with
 |some _,some (.int k),.int _ a=>some (.int k (t7 k a))
 |some .string,some .string,.str e=>some (.str e)
 |_,_,_=>none
def d4:E->Option Nat
 |.int (.ofNat n)=>some n
 |_=>none
def Jd(tb:Tab)(s:TypeId)(x:SV)(f:Nat):Option SV:=
 match Fd tb s,x with
 |some fs,.ptr b o=>match dF fs f with
  |some fd=>match cq tb fd.type with
   |some n=>if Nat.beq n 0 then none else some (.ptr b (vF o fd.offset))
   |none=>none
  |none=>none
 |some fs,.bptr ks e i j=>match dF fs f with
  |some fd=>match cq tb fd.type with
   |some n=>if Nat.beq n 0 then none else some (.bptr ks e i (Nat.add j fd.offset))
   |none=>none
  |none=>none
 |some fs,.nptr b ks e i c x j=>match dF fs f with
  |some fd=>match cq tb fd.type with
   |some n=>if Nat.beq n 0 then none else some (.nptr b ks e i c x (Nat.add j fd.offset))
   |none=>none
  |none=>none
 |_,_=>none
def Jf(tb:Tab)(s:TypeId)(x:SV)(f:Nat):Option SV:=
 match Fd tb s,x with
 |some fs,.agg cs=>match dF fs f with
  |some fd=>n8 tb fd.type cs fd.offset
  |none=>none
 |_,_=>none
def sf(tb:Tab)(t:TypeId)(x i:SV):Option SV:=
 match i with
 |.int _ (.int (.ofNat n))=>
  match tb.und t,x with
  |some (.array len elem),.ptr b o=>
   if Nat.blt n len then match cq tb elem with
    |some sz=>some (.ptr b (vF o (Nat.mul n sz)))
    |none=>none
   else none
  |some (.slice elem),.slice b o (.int (.ofNat l)) _=>
   if Nat.blt n l then match cq tb elem with
    |some sz=>some (.ptr b (vF o (Nat.mul n sz)))
    |none=>none
   else none
  |_,_=>none
 |_=>none
def wY(tb:Tab)(t:TypeId)(x i:SV):Option SV:=
 match i with
 |.int _ (.int (.ofNat n))=>
  match tb.und t,x with
  |some (.array len elem),.agg cs=>
   if Nat.blt n len then match cq tb elem with
    |some sz=>n8 tb elem cs (Nat.mul n sz)
    |none=>none
   else none
  |some .string,.str (.str s)=>
   match s[n]? with
   |some b=>some (.int .u8 (.int b.toNat))
   |none=>none
  |_,_=>none
 |_=>none
def Iv(x:SV)(i:Nat):Option SV:=
 match x with
 |.tup vs=>dF vs i
 |_=>none
def nT(place:Nat->Option (Nat×Nat))(cells:List SV):List (Nat×SV)->Option (List SV)
 |[]=>some cells
 |(i,v)::bB=>
  match place i with
  |none=>none
  |some (off,size)=>
   if Nat.beq v.cells.length size then
    match pJ cells off v.cells with
    |some cs=>nT place cs bB
    |none=>none
   else none
def oO(ev:Operand->Option SV):List (Nat×Operand)->Option (List (Nat×SV))
 |[]=>some []
 |(i,x)::bB=>match ev x,oO ev bB with
  |some v,some l=>some ((i,v)::l)
  |_,_=>none
def ka(ev:Operand->Option SV):List Operand->Option (List SV)
 |[]=>some []
 |x::bB=>match ev x,ka ev bB with
  |some v,some l=>some (v::l)
  |_,_=>none
def A5(tb:Tab):List Field->Option (List (Nat×Nat))
 |[]=>some []
 |f::fs=>match cq tb f.type,A5 tb fs with
  |some n,some l=>some ((f.offset,n)::l)
  |_,_=>none
def C3(tb:Tab)(t:TypeId)(parts:List (Nat×SV)):Option SV:=
 match iM tb t with
 |some z=>
  match tb.und t with
  |some (.struct fs)=>match A5 tb fs.toList with
   |some ps=>match nT (dF ps) z.cells parts with
    |some cs=>some (.agg cs)
    |none=>none
   |none=>none
  |some (.array _ elem)=>match cq tb elem with
   |some sz=>match nT (fun i=>some (Nat.mul i sz,sz)) z.cells parts with
    |some cs=>some (.agg cs)
    |none=>none
   |none=>none
  |_=>none
 |none=>none
def Hj(tb:Tab)(t:TypeId)(x:SV):Option SV:=
 match tb.und t,x with
 |some .string,.str (.str s)=>some (.int .i64 (.int s.size))
 |some (.array n _),_=>some (.int .i64 (.int n))
 |some (.slice _),.nils=>some (.int .i64 (.int 0))
 |some (.slice _),.slice _ _ l _=>match d4 l with | some n=>some (.int .i64 (.int n)) | none=>none
 |some (.map _ _),.nilm=>some (.int .i64 (.int 0))
 |_,_=>none
def Gv(tb:Tab)(t:TypeId)(x:SV):Option SV:=
 match tb.und t,x with
 |some (.array n _),_=>some (.int .i64 (.int n))
 |some (.slice _),.nils=>some (.int .i64 (.int 0))
 |some (.slice _),.slice _ _ _ c=>match d4 c with | some n=>some (.int .i64 (.int n)) | none=>none
 |_,_=>none
def qQ(mx:Bool)(k:IntKind):List SV->E->Option SV
 |[],a=>some (.int k a)
 |v::vs,a=>match v with
  |.int k' b=>match eG k k' with
   |true=>qQ mx k vs (match mx with | true=>qc a b | false=>tY a b)
   |false=>none
  |_=>none
def wD(mx:Bool):List SV->Option SV
 |.int k a::v::vs=>qQ mx k (v::vs) a
 |_=>none
def xB(x:Option SV)(dflt y:Nat):Option Nat:=
 match x with
 |none=>some dflt
 |some (.int _ (.int (.ofNat n)))=>if Nat.ble n y then some n else none
 |some _=>none
def Dc(len cap:Nat)(lo hi mx:Option SV):Option (Nat×Nat×Nat):=
 match mx,hi with
 |some _,none=>none
 |_,_=>
  match xB mx cap cap with
  |some m=>match xB hi len m with
   |some h=>match xB lo 0 h with
    |some l=>if Nat.ble h m then some (l,h,m)else none
    |none=>none
   |none=>none
  |none=>none
def Fx(o:Off)(m l sz:Nat):Off:=match Nat.beq m l with | true=>o | false=>vF o (Nat.mul l sz)
def JX(tb:Tab)(t:TypeId)(x:SV)(lo hi mx:Option SV):Option SV:=
 match tb.und t,x with
 |some (.slice elem),.slice b o (.int (.ofNat len)) (.int (.ofNat cap))=>
  match Dc len cap lo hi mx,cq tb elem with
  |some (l,h,m),some sz=>some (.slice b (Fx o m l sz) (.int (.ofNat (Nat.sub h l))) (.int (.ofNat (Nat.sub m l))))
  |_,_=>none
 |some (.slice elem),.nils=>
  match Dc 0 0 lo hi mx,cq tb elem with
  |some _,some _=>some .nils
  |_,_=>none
 |some (.array n elem),.ptr b o=>
  match Dc n n lo hi mx,cq tb elem with
  |some (l,h,m),some sz=>some (.slice b (Fx o m l sz) (.int (.ofNat (Nat.sub h l))) (.int (.ofNat (Nat.sub m l))))
  |_,_=>none
 |_,_=>none
def qS(ev:Operand->Option SV):Option Operand->Option (Option SV)
 |none=>some none
 |some x=>match ev x with | some v=>some (some v) | none=>none
def Gh(P:Program)(tb:Tab)(ev:Operand->Option SV)(c:Operand)(a:Operand)(b:Operand):Option SV:=
 match ev c with
  |some (.bool (.bool true))=>ev a
  |some (.bool (.bool false))=>ev b
  |_=>none
def Fh(P:Program)(tb:Tab)(ev:Operand->Option SV)(x:Operand):Option SV:=
 match ev x with
  |some (.ptr b o)=>some (.ptr b o)
  |some (.bptr ks e i j)=>some (.bptr ks e i j)
  |some (.nptr b ks e i c x j)=>some (.nptr b ks e i c x j)
  |_=>none
def IH(P:Program)(tb:Tab)(ev:Operand->Option SV)(op:BinOp)(t:TypeId)(x:Operand)(y:Operand):Option SV:=
 match ev x,ev y with
  |some vx,some vy=>lD P tb op t vx vy
  |_,_=>none
def Eh(P:Program)(tb:Tab)(ev:Operand->Option SV)(op:UnOp)(x:Operand):Option SV:=
 match ev x with
  |some v=>GP op v
  |none=>none
def Ie(P:Program)(tb:Tab)(ev:Operand->Option SV)(src:TypeId)(dst:TypeId)(x:Operand):Option SV:=
 match ev x with
  |some v=>Jk tb src dst v
  |none=>none
def Ej(P:Program)(tb:Tab)(ev:Operand->Option SV)(s:TypeId)(x:Operand)(f:Nat):Option SV:=
 match ev x with
  |some v=>Jd tb s v f
  |none=>none
def EN(P:Program)(tb:Tab)(ev:Operand->Option SV)(s:TypeId)(x:Operand)(f:Nat):Option SV:=
 match ev x with
  |some v=>Jf tb s v f
  |none=>none
def Jt(P:Program)(tb:Tab)(ev:Operand->Option SV)(t:TypeId)(x:Operand)(i:Operand):Option SV:=
 match ev x,ev i with
  |some v,some w=>sf tb t v w
  |_,_=>none
def JR(P:Program)(tb:Tab)(ev:Operand->Option SV)(t:TypeId)(x:Operand)(i:Operand):Option SV:=
 match ev x,ev i with
  |some v,some w=>wY tb t v w
  |_,_=>none
def Kb(P:Program)(tb:Tab)(ev:Operand->Option SV)(x:Operand)(i:Nat):Option SV:=
 match ev x with
  |some v=>Iv v i
  |none=>none
def HZ(P:Program)(tb:Tab)(ev:Operand->Option SV)(t:TypeId)(parts:Array (Nat×Operand)):Option SV:=
 match oO ev parts.toList with
  |some ps=>C3 tb t ps
  |none=>none
def JH(P:Program)(tb:Tab)(ev:Operand->Option SV)(fn:Fn)(fi:Array Operand)(ca:Array Operand):Option SV:=
 match ka ev fi.toList,ka ev ca.toList with
  |some a,some b=>some (.func fn a b)
  |_,_=>none
def KE(P:Program)(tb:Tab)(ev:Operand->Option SV)(t:TypeId)(x:Operand)(lo:Option Operand)(hi:Option Operand)(mx:Option Operand):Option SV:=
 match ev x,qS ev lo,qS ev hi,qS ev mx with
  |some v,some l,some h,some m=>JX tb t v l h m
  |_,_,_,_=>none
def Jx(P:Program)(tb:Tab)(ev:Operand->Option SV)(c:Call):Option SV:=
 match c.callee with
  |.builtin b=>match ka ev c.args.toList with
   |some vs=>match b with
    |.len=>match dF c.argTypes.toList 0,dF vs 0 with
     |some t,some v=>Hj tb t v
     |_,_=>none
    |.cap=>match dF c.argTypes.toList 0,dF vs 0 with
     |some t,some v=>Gv tb t v
     |_,_=>none
    |.min=>wD false vs
    |.max=>wD true vs
    |_=>none
   |none=>none
  |_=>none
noncomputable def tG(P:Program)(tb:Tab)(ev:Operand->Option SV)(o:Op):Option SV:=
 Op.rec (motive:=fun _=>Option SV)
  (fun x=>ev x)
  (fun x=>ev x)
  (fun c a b=>Gh P tb ev c a b)
  (fun _=>none)
  (fun _ _=>none)
  (fun t parts=>HZ P tb ev t parts)
  (fun _ _ _=>none)
  (fun _ _ _ _=>none)
  (fun _ _=>none)
  (fun _ _ _=>none)
  (fun _=>none)
  (fun _=>none)
  (fun x=>Fh P tb ev x)
  (fun op t x y _=>IH P tb ev op t x y)
  (fun op _ x=>Eh P tb ev op x)
  (fun src dst x=>Ie P tb ev src dst x)
  (fun _ _=>none)
  (fun _ _=>none)
  (fun fn fi ca=>JH P tb ev fn fi ca)
  (fun _ _=>none)
  (fun _ _=>none)
  (fun _ _ _=>none)
  (fun t x lo hi mx=>KE P tb ev t x lo hi mx)
  (fun s x f=>Ej P tb ev s x f)
  (fun s x f=>EN P tb ev s x f)
  (fun t x i=>Jt P tb ev t x i)
  (fun t x i=>JR P tb ev t x i)
  (fun _ _ _ _=>none)
  (fun _ _ _ _=>none)
  (fun _ _ _=>none)
  (fun _ _ _ _=>none)
  (fun _ _=>none)
  (fun _ _=>none)
  (fun _=>none)
  (fun _ _ _ _=>none)
  (fun x i=>Kb P tb ev x i)
  (fun c=>Jx P tb ev c)
  (fun _=>none)
  (fun _=>none)
  (fun _=>none)
  (fun _ _=>none)
  (fun _ _ _=>none)
  (fun _ _=>none)
  o
theorem af2(P:Program)(tb:Tab)(ev:Operand->Option SV)(o:Op):tG P tb ev o=(match o with
 |.move x=>ev x
 |.assign x=>ev x
 |.pick c a b=>Gh P tb ev c a b
 |.nilCheck x=>Fh P tb ev x
 |.binOp op t x y _=>IH P tb ev op t x y
 |.unOp op _ x=>Eh P tb ev op x
 |.convert src dst x=>Ie P tb ev src dst x
 |.fieldAddr s x f=>Ej P tb ev s x f
 |.field s x f=>EN P tb ev s x f
 |.indexAddr t x i=>Jt P tb ev t x i
 |.index t x i=>JR P tb ev t x i
 |.extract x i=>Kb P tb ev x i
 |.build t parts=>HZ P tb ev t parts
 |.makeFunc fn fi ca=>JH P tb ev fn fi ca
 |.slice t x lo hi mx=>KE P tb ev t x lo hi mx
 |.call c=>Jx P tb ev c
 |_=>none):=by cases o<;>rfl
def Bd(e:E):List E->Bool
 |[]=>false
 |x::xs=>match x.beq e with | true=>true | false=>Bd e xs
def qK(e:E)(l:List E):Bool:=fB (l3 e) fun c=>Bd e (JV c l)
def ay0:E->Bool
 |.and _ _=>true
 |_=>false
def ac2(pc:List E)(a:E):Bool:=match ay0 a with | true=>qK a pc | false=>false
def tC(pc:List E):E->Bool
 |.and a b=>match ac2 pc a with
  |true=>tC pc b
  |false=>match tC pc a with | true=>tC pc b | false=>false
 |e=>qK e pc
def tE(pc:List E)(e:E):List E->Bool
 |[]=>false
 |x::xs=>match x with
  |.imp p c=>match c.beq e with
   |true=>match tC pc p with
    |true=>true
    |false=>tE pc e xs
   |false=>tE pc e xs
  |_=>match x.beq e with
   |true=>true
   |false=>tE pc e xs
def zu(pc:List E)(e:E)(l:List E):Bool:=fB (l3 e) fun n=>tE pc e (GU n l)
def CY(a:Option Int)(b:Int):Option Int:=
 match a with
 |some x=>some (l9 x b)
 |none=>some b
def AA(a:Option Int)(b:Int):Option Int:=
 match a with
 |some x=>some (pp x b)
 |none=>some b
def np(c:E):List E->Option Int->Option Int
 |[],r=>r
 |e::es,r=>match e with
  |.not (.cmp .lss a (.int k))=>match (di a).beq c with
   |true=>np c es (CY r (k-eT a))
   |false=>np c es r
  |.cmp .lss (.int k) a=>match (di a).beq c with
   |true=>np c es (CY r (k+1-eT a))
   |false=>np c es r
  |.cmp .eql a (.int k)=>match (di a).beq c with
   |true=>np c es (CY r (k-eT a))
   |false=>np c es r
  |_=>np c es r
def mT(c:E):List E->Option Int->Option Int
 |[],r=>r
 |e::es,r=>match e with
  |.not (.cmp .lss (.int k) a)=>match (di a).beq c with
   |true=>mT c es (AA r (k-eT a))
   |false=>mT c es r
  |.cmp .lss a (.int k)=>match (di a).beq c with
   |true=>mT c es (AA r (k-1-eT a))
   |false=>mT c es r
  |.cmp .eql a (.int k)=>match (di a).beq c with
   |true=>mT c es (AA r (k-eT a))
   |false=>mT c es r
  |_=>mT c es r
def CQ:E->Bool
 |.fn f _=>match f with
  |0=>true
  |9=>true
  |13=>true
  |22=>true
  |26=>true
  |29=>true
  |_=>false
 |_=>false
def uz(c:E)(k:Int):List E->Bool
 |[]=>false
 |e::es=>match e with
  |.not (.cmp .eql a (.int j))=>match (di a).beq c&&jK (j-eT a) k with
   |true=>true
   |false=>uz c k es
  |_=>uz c k es
def Jm(pc:List E)(c:E):Nat->Int->Int
 |0,k=>k
 |n+1,k=>match uz c k pc with
  |true=>Jm pc c n (k+1)
  |false=>k
def Fm(pc:List E)(c:E):Nat->Int->Int
 |0,k=>k
 |n+1,k=>match uz c k pc with
  |true=>Fm pc c n (k-1)
  |false=>k
def Mh(c:E)(pc:List E):Option Int:=
 match np c pc (match CQ c with | true=>some 0 | false=>none)with
 |some k=>some (Jm pc c 4 k)
 |none=>none
def Pd(c:E)(pc:List E):Option Int:=
 match mT c pc none with
 |some k=>some (Fm pc c 4 k)
 |none=>none
def vG(pc:List E)(c:E):Option Int:=fB (l3 c) fun n=>Mh c (CC n pc)
def oo(pc:List E)(c:E):Option Int:=fB (l3 c) fun n=>Pd c (CC n pc)
def leI(a b:Int):Bool:=bV .leq a b
def r9(a b:Int):Bool:=bV .lss a b
def JG(pc:List E)(e:E):Option Bool:=
 match e with
 |.cmp .lss a (.int k)=>match vG pc (di a)with
  |some x=>match leI k (x+eT a)with
   |true=>some false
   |false=>match oo pc (di a)with
    |some y=>match r9 (y+eT a) k with
     |true=>some true
     |false=>none
    |none=>none
  |none=>match oo pc (di a)with
   |some y=>match r9 (y+eT a) k with
    |true=>some true
    |false=>none
   |none=>none
 |.cmp .lss (.int k) a=>match vG pc (di a)with
  |some x=>match r9 k (x+eT a)with
   |true=>some true
   |false=>match oo pc (di a)with
    |some y=>match leI (y+eT a) k with
     |true=>some false
     |false=>none
    |none=>none
  |none=>match oo pc (di a)with
   |some y=>match leI (y+eT a) k with
    |true=>some false
    |false=>none
   |none=>none
 |.cmp .eql a (.int k)=>match vG pc (di a)with
  |some x=>match r9 k (x+eT a)with
   |true=>some false
   |false=>match oo pc (di a)with
    |some y=>match r9 (y+eT a) k with
     |true=>some false
     |false=>match jK (x+eT a) k&&jK (y+eT a) k with
      |true=>some true
      |false=>none
    |none=>none
  |none=>match oo pc (di a)with
   |some y=>match r9 (y+eT a) k with
    |true=>some false
    |false=>none
   |none=>none
 |_=>none
def Wt:Option Bool->Option Bool
 |some b=>some (!b)
 |none=>none
def P5(fs pc:List E)(e:E):Option Bool:=
 match zu pc e pc with
  |true=>some true
  |false=>match zu pc (aW e) pc with
   |true=>some false
   |false=>match zu pc e fs with
    |true=>some true
    |false=>match zu pc (aW e) fs with
     |true=>some false
     |false=>match e with
      |.not x=>Wt (JG pc x)
      |_=>JG pc e
noncomputable def aBv(e:E):Option Bool:=E.rec (motive:=fun _=>Option Bool) (fun _=>none) some (fun _=>none) (fun _=>none) (fun _ _ _ _ _ _=>none) (fun _ _ _ _ _=>none) (fun _ _ _ _=>none) (fun _ _ _ _=>none) (fun _ _ _=>none) (fun _ _=>none) (fun _ _ _ _=>none) (fun _ _ _ _=>none) (fun _ _ _ _=>none) (fun _ _ _ _=>none) (fun _ _ _=>none) (fun _ _ _ _=>none) e
noncomputable def dV(fs pc:List E)(e:E):Option Bool:=Option.rec (motive:=fun _=>Option Bool) (P5 fs pc e) some (aBv e)
theorem awg(fs pc:List E)(e:E):dV fs pc e=(match e with
 |.bool b=>some b
 |_=>P5 fs pc e):=by cases e<;>rfl
def ll(fs pc:List E)(a b:E):Bool:=
 match dV fs pc (aF .lss a b)with
 |some true=>true
 |_=>false
def rV(fs pc:List E)(a b:E):Bool:=
 match dV fs pc (aF .lss a b)with
 |some false=>true
 |_=>false
def dD(fs pc:List E)(e:E):Bool:=
 match CQ e with
 |true=>true
 |false=>rV fs pc e (.int 0)
inductive Rz where
 |lit (j:Nat)
 |ask (e:E)
 |lack (e:E)
def Am(fs pc:List E)(i:E):Nat->Nat->Rz
 |0,_=>.lack (.bool false)
 |n+1,j=>match dV fs pc (aF .eql i (.int (.ofNat j)))with
  |some true=>.lit j
  |some false=>Am fs pc i n (Nat.succ j)
  |none=>.ask (aF .eql i (.int (.ofNat j)))
def iD(o:Off):Option Nat:=match o.scale with | 0=>some o.base | _=>none
def wk(tb:Tab)(st:St)(t:TypeId)(x:SV):Option SV:=
 match x with
 |.ptr b o=>match st.heap.get b with
  |some ⟨_,.cells cs _ _⟩=>match iD o with
   |some n=>match kw tb t with
    |some true=>match cq tb t with
     |some sz=>match mS (yM cs n) sz with
      |some l=>some (.agg l)
      |none=>none
     |none=>none
    |some false=>dF cs n
    |none=>none
   |none=>none
  |_=>none
 |_=>none
def DX(tb:Tab)(st:St)(t:TypeId)(x v:SV):Option St:=
 match x with
 |.ptr b o=>match st.heap.get b with
  |some ⟨true,.cells cs tot elem⟩=>match iD o with
   |some n=>match cq tb t with
    | some sz=>if Nat.beq v.cells.length sz&&qH v.cells then
      match pJ cs n v.cells with
      |some cs'=>T.setK st.heap b ⟨true,.cells cs' tot elem⟩ fun h=>some {st with heap:=h}
      |none=>none
     else none
    |none=>none
   |none=>none
  |_=>none
 |_=>none
def qY(tmps:Tm)(st:St)(elem:TypeId)(cs:List SV):Option (SV×St):=
 if st.scp&&kr st.nv st.nb tmps&&SV.scps st.nv st.nb cs then
  T.insK st.heap st.nb ⟨true,.cells cs (.int (.ofNat cs.length)) elem⟩ fun h=>some (.ptr st.nb ⟨0,0,.int 0⟩,{st with nb:=Nat.succ st.nb,heap:=h})
 else none
def iG(z:List SV):Nat->List SV
 |0=>[]
 |n+1=>z++iG z n
inductive EffR where
 |val (v:SV) (st:St)
 |skip (st:St)
 |ask (e:E)
 |lack (e:E)
 |bad
def EffR.ofVal:Option SV->St->EffR
 |some v,st=>.val v st
 |none,_=>.bad
def EffR.ofPair:Option (SV×St)->EffR
 |some (v,st)=>.val v st
 |none=>.bad
noncomputable def isJunk(v:SV):Bool:=
 SV.rec (motive_1:=fun _=>Bool) (motive_2:=fun _=>Bool) (fun _ _=>false) (fun _=>false) (fun _=>false) false (fun _ _=>false) false (fun _ _ _ _=>false)
  (fun _ _ _=>false) (fun _ _=>false) (fun _ _ _ _=>false) false (fun _=>false) false false (fun _ _ _ _ _=>false) (fun _ _=>false) (fun _ _=>false) true
  (fun _ _ _ _ _=>false) (fun _ _ _ _ _ _ _=>false)
  false (fun _ _ _ _=>false) v
noncomputable def aME(v:SV):Option SV:=Bool.rec (some v) none (isJunk v)
noncomputable def alu(x:Option SV):Option SV:=Option.rec (motive:=fun _=>Option SV) (some .undef) aME x
noncomputable def bn(tmps:Tm)(x:Operand):Option SV:=
 Operand.rec (motive:=fun _=>Option SV) (fun t=>alu (tmps.get t)) ofVal (fun _=>none) (fun f=>some (.func (.func f) [] [])) x
theorem ab4(tmps:Tm)(t:Tmp):bn tmps (.tmp t)=(match tmps.get t with
  |some v=>match v with
   |.junk=>none
   |_=>some v
  |none=>some .undef):=by
 show alu _=_;cases tmps.get t with
 |none=>rfl
 |some v=>cases v<;>rfl
theorem aZn(tmps:Tm)(v:Value):bn tmps (.const v)=ofVal v:=rfl
theorem Yv(tmps:Tm)(g:Nat):bn tmps (.global g)=none:=rfl
theorem afj(tmps:Tm)(f:FuncId):bn tmps (.func f)=some (.func (.func f) [] []):=rfl
def aM{G:Type}:List G->Nat
 |[]=>0
 |_::xs=>Nat.succ (aM xs)
def io(w:Nat)(e:E):E:=
 match e with
 |.fn 24 (.pr _ (.pr l (.pr h _)))=>match l with
  |.int (.ofNat 0)=>h
  |_=>.fn 29 (.pr h l)
 |.fn 28 (.pr (.pr _ n) _)=>n
 |.fn 30 _=>.int 0
 |e=>match w with | 1=>iY e | _=>.fn 9 (.pr e (.int (.ofNat w)))
def oF(e:E):E:=
 match e with
 |.fn 24 (.pr _ (.pr l (.pr _ m)))=>match l with
  |.int (.ofNat 0)=>m
  |_=>.fn 29 (.pr m l)
 |.fn 30 _=>.int 0
 |e=>.fn 22 e
def dI(w:Nat)(idx:E)(j:Nat):E:=
 match w with
 |1=>idx
 |_=>match idx with
  |.int n=>.int (n * .ofNat w + .ofNat j)
  |_=>.fn 6 (.pr (.fn 8 (.pr idx (.int (.ofNat w)))) (.int (.ofNat j)))
def iJ(fs pc:List E):E->E->E
 |.fn 2 (.pr l' (.pr j v)),i=>match i.beq j with
  |true=>v
  |false=>match i,j with
   |.int (.ofNat _),.int (.ofNat _)=>iJ fs pc l' i
   |_,_=>match dV fs pc (aF .eql i j)with
    |some true=>match rV fs pc j (.int 0)with
     |true=>v
     |false=>.fn 1 (.pr (.fn 2 (.pr l' (.pr j v))) i)
    |some false=>match rV fs pc j (.int 0)with
     |true=>iJ fs pc l' i
     |false=>.fn 1 (.pr (.fn 2 (.pr l' (.pr j v))) i)
    |none=>.fn 1 (.pr (.fn 2 (.pr l' (.pr j v))) i)
 |.fn 3 (.pr a b),i=>match ll fs pc i (iY a)with
  |true=>iJ fs pc a i
  |false=>match rV fs pc i (iY a)with
   |true=>iJ fs pc b (kQ i (iY a))
   |false=>.fn 1 (.pr (.fn 3 (.pr a b)) i)
 |.fn 23 (.pr x r),i=>match i with
  |.int (.ofNat n)=>match n with
   |0=>x
   |n+1=>iJ fs pc r (.int (.ofNat n))
  |_=>.fn 1 (.pr (.fn 23 (.pr x r)) i)
 |.fn 5 (.pr n x),i=>x
 |.fn 11 x,i=>x
 |.fn 21 (.pr r c),i=>iJ fs pc c i
 |.fn 28 (.pr r c),i=>iJ fs pc c i
 |.fn 24 (.pr (.pr (.int (.ofNat 1)) e) (.pr l m)),i=>match rV fs pc l (.int 0)with
  |true=>iJ fs pc e (cY l i)
  |false=>.fn 1 (.pr (.fn 24 (.pr (.pr (.int (.ofNat 1)) e) (.pr l m))) i)
 |l,i=>.fn 1 (.pr l i)
inductive FA where
 |at (idx:E) (j:Nat)
 |lack (e:E)
 |bad
def IU(fs pc:List E)(n idx:E)(j:Nat):FA:=
 match ll fs pc idx n with
 |true=>.at idx j
 |false=>.lack (aF .lss idx n)
def sF(fs pc:List E)(w:Nat)(n:E)(o:Off):FA:=
 match w with
 |0=>.bad
 |_=>match o.scale with
  |0=>IU fs pc n (.int (.ofNat (Nat.div o.base w))) (Nat.mod o.base w)
  |s=>match Nat.beq s w with
   |true=>match dD fs pc o.idx with
    |true=>IU fs pc n (cY o.idx (.int (.ofNat (Nat.div o.base w)))) (Nat.mod o.base w)
    |false=>.lack (aW (aF .lss o.idx (.int 0)))
   |false=>.bad
def nM(c:CK)(e:E):SV:=
 match c with
 |.int k=>.int k e
 |.bool=>.bool e
 |.str=>.str e
 |.slc ks=>.bsl ks e
def v7(fs pc:List E)(ks:List CK)(w:Nat)(l idx:E):Nat->Nat->Option (List SV)
 |0,_=>some []
 |n+1,j=>match dF ks j with
  |some c=>match v7 fs pc ks w l idx n (Nat.succ j)with
   |some vs=>some (nM c (iJ fs pc l (dI w idx j))::vs)
   |none=>none
  |none=>none
def tz(tb:Tab)(st:St)(t:TypeId)(ks:List CK)(l idx:E)(j:Nat):EffR:=
 match kw tb t with
 |some true=>match cq tb t with
  |some sz=>match v7 tb.facts st.pc ks (aM ks) l idx sz j with
   |some vs=>.val (.agg vs) st
   |none=>.bad
  |none=>.bad
 |some false=>match v7 tb.facts st.pc ks (aM ks) l idx 1 j with
  |some vs=>match vs with
   |[v]=>.val v st
   |_=>.bad
  |none=>.bad
 |none=>.bad
def kD:E->E
 |.fn 21 (.pr x _)=>kD x
 |e=>e
def y6(e:E):E:=match e with
 |.fn 21 (.pr _ c)=>c
 |.fn 28 (.pr _ c)=>c
 |e=>e
def Bu(b:Nat)(c:CK)(e idx:E)(j:Nat):SV:=
 match c with
 |.int k=>.int k e
 |.bool=>.bool e
 |.str=>.str e
 |.slc ks=>.nsl b ks e idx j
def xa(fs pc:List E)(b:Nat)(ks:List CK)(w:Nat)(l idx:E):Nat->Nat->Option (List SV)
 |0,_=>some []
 |n+1,j=>match dF ks j with
  |some c=>match xa fs pc b ks w l idx n (Nat.succ j)with
   |some vs=>some (Bu b c (iJ fs pc l (dI w idx j)) idx j::vs)
   |none=>none
  |none=>none
def Az(tb:Tab)(st:St)(t:TypeId)(b:Nat)(ks:List CK)(l idx:E)(j:Nat):EffR:=
 match kw tb t with
 |some true=>match cq tb t with
  |some sz=>match xa tb.facts st.pc b ks (aM ks) l idx sz j with
   |some vs=>.val (.agg vs) st
   |none=>.bad
  |none=>.bad
 |some false=>match xa tb.facts st.pc b ks (aM ks) l idx 1 j with
  |some vs=>match vs with
   |[v]=>.val v st
   |_=>.bad
  |none=>.bad
 |none=>.bad
inductive NA where
 |at (cur p:E)
 |lack (e:E)
 |bad
def aj8(e cur p:E):NA:=match (kD cur).beq (kD e)with | true=>.at cur p | false=>.bad
def tk(fs pc:List E)(h:T Blk)(b:Nat)(ks:List CK)(e idx:E)(c:Nat):NA:=
 match h.get b with
 |some ⟨true,.nest ks0 l n _ _⟩=>match dF ks0 c with
  |some (.slc ks')=>match fJ ks ks' with
   |true=>match dD fs pc idx with
    |true=>match ll fs pc idx n with
     |true=>aj8 e (iJ fs pc l (dI (aM ks0) idx c)) (dI (aM ks0) idx c)
     |false=>.lack (aF .lss idx n)
    |false=>.lack (aW (aF .lss idx (.int 0)))
   |false=>.bad
  |_=>.bad
 |_=>.bad
def Dv(tb:Tab)(st:St)(t:TypeId)(x:SV):EffR:=
 match x with
 |.ptr b o=>match st.heap.get b with
  |some ⟨_,.flat ks l n _ _⟩=>match sF tb.facts st.pc (aM ks) n o with
   |.at idx j=>tz tb st t ks l idx j
   |.lack e=>.lack e
   |.bad=>.bad
  |some ⟨_,.nest ks l n _ _⟩=>match sF tb.facts st.pc (aM ks) n o with
   |.at idx j=>Az tb st t b ks l idx j
   |.lack e=>.lack e
   |.bad=>.bad
  |_=>.bad
 |.bptr ks e idx j=>tz tb st t ks e idx j
 |.nptr b ks e idx c x j=>match tk tb.facts st.pc st.heap b ks e idx c with
  |.at cur _=>tz tb st t ks cur x j
  |.lack e=>.lack e
  |.bad=>.bad
 |_=>.bad
def lQ(c:CK)(v:SV):Option E:=
 match c,v with
 |.int k,.int k' e=>match eG k k' with | true=>some e | false=>none
 |.bool,.bool e=>some e
 |.str,.str e=>some e
 |.slc ks,.bsl ks' e=>match fJ ks ks' with | true=>some e | false=>none
 |.slc _,.nils=>some (.fn 30 (.int 0))
 |_,_=>none
def putCells(ks:List CK)(w:Nat)(idx:E):List SV->Nat->E->Option E
 |[],_,l=>some l
 |v::vs,j,l=>match dF ks j with
  |some c=>match lQ c v with
   |some e=>putCells ks w idx vs (Nat.succ j) (jW l (dI w idx j) e)
   |none=>none
  |none=>none
def Mb(c:CK)(v:SV):Bool:=
 match c,v with
 |.slc _,.nils=>true
 |.slc _,_=>false
 |_,_=>true
def Hs:List CK->Nat->List SV->Bool
 |_,_,[]=>true
 |ks,j,v::vs=>match dF ks j with
  |some c=>Mb c v&&Hs ks (Nat.succ j) vs
  |none=>false
def P2(st:St)(b:Nat)(l':E):EffR:=
 match st.heap.get b with
 |some ⟨true,.nest ks _ n tot elem⟩=>T.setK st.heap b ⟨true,.nest ks l' n tot elem⟩ fun h=>.skip {st with heap:=h}
 |_=>.bad
def abw(st:St)(b:Nat):E:=
 match st.heap.get b with
 |some ⟨_,.nest _ l _ _ _⟩=>l
 |_=>.int 0
def AT(tb:Tab)(st:St)(t:TypeId)(b:Nat)(ks:List CK)(x:E)(j:Nat)(v:SV)(cur p:E):EffR:=
 match cq tb t with
 |some sz=>match Nat.beq v.cells.length sz&&Nat.ble j (aM ks)with
  |true=>match putCells ks (aM ks) x v.cells j (y6 cur)with
   |some c'=>P2 st b (jW (abw st b) p (.fn 21 (.pr (kD cur) c')))
   |none=>.bad
  |false=>.bad
 |none=>.bad
def uj(tb:Tab)(st:St)(t:TypeId)(x v:SV):EffR:=
 match x with
 |.nptr b ks e idx c x j=>match tk tb.facts st.pc st.heap b ks e idx c with
  |.at cur p=>AT tb st t b ks x j v cur p
  |.lack e=>.lack e
  |.bad=>.bad
 |.ptr b o=>match st.heap.get b with
  |some ⟨true,.flat ks l n tot elem⟩=>match sF tb.facts st.pc (aM ks) n o with
   |.at idx j=>match cq tb t with
    |some sz=>match Nat.beq v.cells.length sz with
     |true=>match putCells ks (aM ks) idx v.cells j l with
      |some l'=>T.setK st.heap b ⟨true,.flat ks l' n tot elem⟩ fun h=>.skip {st with heap:=h}
      |none=>.bad
     |false=>.bad
    |none=>.bad
   |.lack e=>.lack e
   |.bad=>.bad
  |some ⟨true,.nest ks l n tot elem⟩=>match sF tb.facts st.pc (aM ks) n o with
   |.at idx j=>match cq tb t with
    |some sz=>match Nat.beq v.cells.length sz&&Hs ks j v.cells with
     |true=>match putCells ks (aM ks) idx v.cells j l with
      |some l'=>T.setK st.heap b ⟨true,.nest ks l' n tot elem⟩ fun h=>.skip {st with heap:=h}
      |none=>.bad
     |false=>.bad
    |none=>.bad
   |.lack e=>.lack e
   |.bad=>.bad
  |_=>.bad
 |_=>.bad
def KW(fs pc:List E)(o:Off)(sz:Nat)(i:E):Option Off:=
 match o.scale with
 |0=>some ⟨o.base,sz,i⟩
 |s=>match Nat.beq s sz with
  |true=>match dD fs pc o.idx with
   |true=>some ⟨o.base,sz,cY o.idx i⟩
   |false=>none
  |false=>none
def lit(k:IntKind)(j:Nat):SV:=.int k (.int (.ofNat j))
def qO(tb:Tab)(st:St)(e:E)(n:Nat)(f:Nat->Option SV):EffR:=
 match Am tb.facts st.pc e n 0 with
 |.lit j=>.ofVal (f j) st
 |.ask e=>.ask e
 |.lack e=>.lack e
inductive BK where
 |cells | flat (n:E) | other
def E0(st:St)(b:Nat):BK:=
 match st.heap.get b with
 |some ⟨_,.flat _ _ n _ _⟩=>.flat n
 |some ⟨_,.nest _ _ n _ _⟩=>.flat n
 |some ⟨_,.cells _ _ _⟩=>.cells
 |_=>.other
def rm(tb:Tab)(st:St)(e l:E)(k:EffR):EffR:=
 match dD tb.facts st.pc e with
 |true=>match ll tb.facts st.pc e l with
  |true=>k
  |false=>.lack (aF .lss e l)
 |false=>.lack (aW (aF .lss e (.int 0)))
def CS(tb:Tab)(st:St)(t:TypeId)(x i:SV):EffR:=
 match i with
 |.int k e=>match tb.und t with
  |some (.array len _)=>match x with
   |.ptr _ _=>qO tb st e len fun j=>sf tb t x (lit k j)
   |_=>.bad
  |some (.slice elem)=>match cq tb elem with
   |some sz=>match x with
    |.slice b o l _=>match E0 st b with
     |.flat _=>rm tb st e l (match KW tb.facts st.pc o sz e with
      |some o'=>.val (.ptr b o') st
      |none=>.bad)
     |_=>match d4 l with
      |some n=>qO tb st e n fun j=>sf tb t x (lit k j)
      |none=>.bad
    |.nslice b l _=>match E0 st b with
     |.flat n=>rm tb st e l (match ll tb.facts st.pc e n with
      |true=>.val (.ptr b ⟨0,sz,e⟩) st
      |false=>.lack (aF .lss e n))
     |.cells=>match d4 l with
      |some n=>qO tb st e n fun j=>match Nat.blt j n with
       |true=>some (.ptr b ⟨Nat.mul j sz,0,.int 0⟩)
       |false=>none
      |none=>.bad
     |.other=>.bad
    |.bsl ks y=>match Nat.beq (aM ks) sz&&Nat.blt 0 sz with
     |true=>rm tb st e (io sz y) (.val (.bptr ks y e 0) st)
     |false=>.bad
    |.nsl b ks y idx c=>match Nat.beq (aM ks) sz&&Nat.blt 0 sz with
     |true=>match tk tb.facts st.pc st.heap b ks y idx c with
      |.at cur _=>rm tb st e (io sz cur) (.val (.nptr b ks y idx c e 0) st)
      |.lack e=>.lack e
      |.bad=>.bad
     |false=>.bad
    |_=>.bad
   |none=>.bad
  |_=>.bad
 |_=>.bad
def A0(tb:Tab)(st:St)(t:TypeId)(x i:SV):EffR:=
 match i with
 |.int k e=>match tb.und t with
  |some (.array len _)=>qO tb st e len fun j=>wY tb t x (lit k j)
  |_=>.bad
 |_=>.bad
def rN(tb:Tab)(st:St)(e:E):EffR:=
 match dD tb.facts st.pc e with
 |true=>.val (.int .i64 e) st
 |false=>.lack (aW (aF .lss e (.int 0)))
def zh(tb:Tab)(st:St)(c:Bool)(t:TypeId)(x:SV):EffR:=
 match tb.und t with
 |some (.slice elem)=>match x with
  |.slice _ _ l m=>rN tb st (match c with | true=>m | false=>l)
  |.nslice _ l m=>rN tb st (match c with | true=>m | false=>l)
  |.bsl ks e=>match ks with
   |[]=>.bad
   |_=>rN tb st (match c with | true=>oF e | false=>io (aM ks) e)
  |.nsl b ks e idx j=>match ks with
   |[]=>.bad
   |_=>match tk tb.facts st.pc st.heap b ks e idx j with
    |.at cur _=>rN tb st (match c with | true=>oF (kD cur) | false=>io (aM ks) cur)
    |.lack e=>.lack e
    |.bad=>.bad
  |_=>.bad
 |some .string=>match c with
  |true=>.bad
  |false=>match x with
   |.str e=>.val (.int .i64 (.fn 13 e)) st
   |_=>.bad
 |some (.map _ _)=>match c with
  |true=>.bad
  |false=>match x with
  |.map b=>match st.heap.get b with
   |some ⟨_,.map es _⟩=>.val (.int .i64 (.int (.ofNat (aM es)))) st
   |some ⟨_,.mapl _ _ e⟩=>.val (.int .i64 (.fn 0 e)) st
   |_=>.bad
  |_=>.bad
 |_=>.bad
def cU(fs pc:List E)(a b:E):Bool:=rV fs pc b a
def eO(d:E):Option SV->Option E
 |none=>some d
 |some (.int _ e)=>some e
 |some _=>none
def OT(fs pc:List E)(c lo hi mx:E)(hlo hhi hmx:Bool):Option E:=
 match hlo && !(dD fs pc lo)with
 |true=>some (aW (aF .lss lo (.int 0)))
 |false=>match hhi && !(dD fs pc hi)with
  |true=>some (aW (aF .lss hi (.int 0)))
  |false=>match hmx && !(dD fs pc mx)with
   |true=>some (aW (aF .lss mx (.int 0)))
   |false=>match hmx && !(cU fs pc mx c)with
    |true=>some (aW (aF .lss c mx))
    |false=>match hhi && !(cU fs pc hi mx)with
     |true=>some (aW (aF .lss mx hi))
     |false=>match hlo && !(cU fs pc lo hi)with
      |true=>some (aW (aF .lss hi lo))
      |false=>none
def ig:Option SV->Bool | some _=>true | none=>false
def Ih(fs pc:List E)(lo hi mx:E):Option Bool:=
 match ll fs pc lo hi&&cU fs pc hi mx with
 |true=>some true
 |false=>match dV fs pc (aF .eql mx lo)with
  |some true=>some false
  |some false=>some true
  |none=>none
def vP:E->Bool
 |.int (.ofNat n)=>Nat.beq n 0
 |_=>false
def Rb(fs pc:List E)(len cap lo hi mx:E)(hlo hhi hmx:Bool):Option E:=
 match hlo && !(dD fs pc lo)with
 |true=>some (aW (aF .lss lo (.int 0)))
 |false=>match hhi && !(dD fs pc hi)with
  |true=>some (aW (aF .lss hi (.int 0)))
  |false=>match hmx && !(dD fs pc mx)with
   |true=>some (aW (aF .lss mx (.int 0)))
   |false=>match hmx && !(cU fs pc mx cap||cU fs pc mx len)with
    |true=>some (aW (aF .lss len mx))
    |false=>match hhi && !(cU fs pc hi len)with
     |true=>some (aW (aF .lss len hi))
     |false=>match hmx && !(cU fs pc hi mx)with
      |true=>some (aW (aF .lss mx hi))
      |false=>match hlo && !(cU fs pc lo hi)with
       |true=>some (aW (aF .lss hi lo))
       |false=>none
def u6(fs pc:List E):List E->E
 |[]=>.bool false
 |c::cs=>match dV fs pc c with
  |some true=>u6 fs pc cs
  |_=>c
def Di(tb:Tab)(st:St)(sz:Nat)(x:SV)(lo hi mx:E):EffR:=
 match x with
 |.nslice b _ c=>match vP lo with
  |true=>.val (.nslice b hi mx) st
  |false=>match Ih tb.facts st.pc lo hi mx with
   |some false=>match cU tb.facts st.pc hi mx&&cU tb.facts st.pc lo hi with
    |true=>.val (.nslice b (.int 0) (.int 0)) st
    |false=>.lack (u6 tb.facts st.pc [aW (aF .lss mx hi),aW (aF .lss hi lo)])
   |some true=>match st.heap.get b with
    |some ⟨_,.flat _ _ _ tot _⟩=>match cU tb.facts st.pc c tot&&(cU tb.facts st.pc mx c&&(dD tb.facts st.pc lo&&(cU tb.facts st.pc lo hi&&cU tb.facts st.pc hi mx)))with
     |true=>.val (.slice b ⟨0,sz,lo⟩ (kQ hi lo) (kQ mx lo)) st
     |false=>.lack (u6 tb.facts st.pc [aW (aF .lss tot c),aW (aF .lss c mx),aW (aF .lss lo (.int 0)),aW (aF .lss hi lo),aW (aF .lss mx hi)])
    |some ⟨_,.cells _ _ _⟩=>match d4 lo with
     |some n=>match cU tb.facts st.pc lo hi&&cU tb.facts st.pc hi mx with
      |true=>.val (.slice b ⟨Nat.mul n sz,0,.int 0⟩ (kQ hi lo) (kQ mx lo)) st
      |false=>.bad
     |none=>.bad
    |_=>.bad
   |none=>.ask (aF .eql mx lo)
 |.slice b o _ _=>match vP lo with
  |true=>.val (.slice b o hi mx) st
  |false=>match Ih tb.facts st.pc lo hi mx with
   |some false=>match cU tb.facts st.pc hi mx&&cU tb.facts st.pc lo hi with
    |true=>.val (.slice b o (.int 0) (.int 0)) st
    |false=>.bad
   |some true=>match dD tb.facts st.pc lo&&(cU tb.facts st.pc lo hi&&cU tb.facts st.pc hi mx)with
    |true=>match d4 lo with
     |some n=>.val (.slice b (vF o (Nat.mul n sz)) (kQ hi lo) (kQ mx lo)) st
     |none=>match KW tb.facts st.pc o sz lo with
      |some o'=>.val (.slice b o' (kQ hi lo) (kQ mx lo)) st
      |none=>.bad
    |false=>.bad
   |none=>.ask (aF .eql mx lo)
 |_=>.bad
def QU:SV->Option (E×E)
 |.slice _ _ l c=>some (l,c)
 |.nslice _ l c=>some (l,c)
 |_=>none
def Ct(tb:Tab)(st:St)(t:TypeId)(x:SV)(lo hi mx:Option SV):EffR:=
 match tb.und t with
 |some (.slice elem)=>match cq tb elem with
  |some sz=>match ig mx && !(ig hi)with
   |true=>.bad
   |false=>match x with
    |.bsl ks e=>match Nat.beq (aM ks) sz&&Nat.blt 0 sz with
     |true=>match eO (.int 0) lo,eO (io sz e) hi,eO (oF e) mx with
      |some lo',some hi',some mx'=>match Rb tb.facts st.pc (io sz e) (oF e) lo' hi' mx' (ig lo) (ig hi) (ig mx)with
       |some e=>.lack e
       |none=>.val (.bsl ks (.fn 24 (.pr (.pr (.int (.ofNat sz)) e) (.pr lo' (.pr hi' mx'))))) st
      |_,_,_=>.bad
     |false=>.bad
    |_=>match QU x with
     |some (l,c)=>match eO (.int 0) lo,eO l hi,eO c mx with
      |some lo',some hi',some mx'=>match OT tb.facts st.pc c lo' hi' mx' (ig lo) (ig hi) (ig mx)with
       |some e=>.lack e
       |none=>Di tb st sz x lo' hi' mx'
      |_,_,_=>.bad
     |none=>.bad
  |none=>.bad
 |_=>.bad
def gF:List SV->List SV->Nat->Option E
 |[],[],0=>some (.bool true)
 |x::xs,y::ys,n+1=>match x,y with
  |.int k a,.int k' b=>match eG k k',gF xs ys n with
   |true,some e=>some (AC (aF .eql a b) e)
   |_,_=>none
  |_,_=>none
 |_,_,_=>none
def Ak(tb:Tab)(t:TypeId)(x y:SV):Option E:=
 match tb.und t with
 |some (.array len elem)=>match tb.und elem with
  |some (.int _)=>match cq tb elem,kw tb elem with
   |some 1,some false=>match x,y with
    |.agg xs,.agg ys=>gF xs ys len
    |_,_=>none
   |_,_=>none
  |_=>none
 |some .bool=>match x,y with
  |.bool a,.bool b=>HL a b
  |_,_=>none
 |some (.int _)=>match x,y with
  |.int k a,.int k' b=>match eG k k' with
   |true=>some (aF .eql a b)
   |false=>none
  |_,_=>none
 |some .string=>match x,y with
  |.str a,.str b=>some (oq a b)
  |_,_=>none
 |_=>none
inductive FR where
 |at (i:Nat) (v:SV) (born:E)
 |no
 |ask (e:E)
 |bad
def pA(tb:Tab)(pc:List E)(kt:TypeId)(k:SV):List Ent->Nat->FR
 |[],_=>.no
 |x::es,i=>match Ak tb kt k x.k with
  |some e=>match dV tb.facts pc e with
   |some true=>.at i x.v x.born
   |some false=>pA tb pc kt k es (Nat.succ i)
   |none=>.ask e
  |none=>.bad
def sC(tb:Tab)(kt:TypeId)(k:SV):Bool:=
 match Ak tb kt k k with
 |some _=>true
 |none=>false
def k9(ok:Bool)(v:SV)(is:E):SV:=match ok with | true=>.tup [v,.bool is] | false=>v
def BW(tb:Tab)(st:St)(t:TypeId)(x k:SV)(ok:Bool):EffR:=
 match tb.und t with
 |some (.map kt vt)=>match iM tb vt,sC tb kt k with
  |some z,true=>match x with
   |.nilm=>.val (k9 ok z (.bool false)) st
   |.map b=>match st.heap.get b with
    |some ⟨_,.map es _⟩=>match pA tb st.pc kt k es 0 with
     |.at _ v _=>.val (k9 ok v (.bool true)) st
     |.no=>.val (k9 ok z (.bool false)) st
     |.ask e=>.ask e
     |.bad=>.bad
    |some ⟨_,.mapl k0 c e⟩=>match k,lQ c z with
     |.int k1 ke,some ze=>match eG k1 k0 with
      |true=>.val (k9 ok (nM c (.fn 32 (.pr e (.pr ke ze)))) (.fn 33 (.pr e ke))) st
      |false=>.bad
     |_,_=>.bad
    |_=>.bad
   |_=>.bad
  |_,_=>.bad
 |_=>.bad
def JN(tb:Tab)(tmps:Tm)(st:St)(t:TypeId)(x:Operand):EffR:=
 match bn tmps x with
  |some v=>match wk tb st t v with
   |some u=>.val u st
   |none=>Dv tb st t v
  |none=>.bad
def EF(tb:Tab)(tmps:Tm)(st:St)(t:TypeId)(x:Operand)(y:Operand):EffR:=
 match bn tmps x,bn tmps y with
  |some v,some w=>match DX tb st t v w with
   |some st'=>.skip st'
   |none=>uj tb st t v w
  |_,_=>.bad
def HN(tb:Tab)(tmps:Tm)(st:St)(t:TypeId)(x:Operand)(i:Operand):EffR:=
 match bn tmps x,bn tmps i with
  |some v,some w=>CS tb st t v w
  |_,_=>.bad
def FN(tb:Tab)(tmps:Tm)(st:St)(t:TypeId)(x:Operand)(i:Operand):EffR:=
 match bn tmps x,bn tmps i with
  |some v,some w=>A0 tb st t v w
  |_,_=>.bad
def La(tb:Tab)(tmps:Tm)(st:St)(c:Call):EffR:=
 match c.callee with
  |.builtin b=>match dF c.argTypes.toList 0,ka (bn tmps) c.args.toList with
   |some t,some vs=>match dF vs 0 with
    |some v=>match b with
     |.len=>zh tb st false t v
     |.cap=>zh tb st true t v
     |_=>.bad
    |none=>.bad
   |_,_=>.bad
  |_=>.bad
def JY(tb:Tab)(tmps:Tm)(st:St)(t:TypeId)(x:Operand)(lo:Option Operand)(hi:Option Operand)(mx:Option Operand):EffR:=
 match bn tmps x,qS (bn tmps) lo,qS (bn tmps) hi,qS (bn tmps) mx with
  |some v,some l,some h,some m=>Ct tb st t v l h m
  |_,_,_,_=>.bad
def It(tb:Tab)(tmps:Tm)(st:St)(t:TypeId)(x:Operand)(k:Operand)(ok:Bool):EffR:=
 match bn tmps x,bn tmps k with
  |some v,some w=>BW tb st t v w ok
  |_,_=>.bad
def DS(tb:Tab)(tmps:Tm)(st:St)(elem:TypeId)(x:Operand):EffR:=
 match bn tmps x with
  |some v=>.ofPair (qY tmps st elem v.cells)
  |none=>.bad
def H7(tb:Tab)(tmps:Tm)(st:St)(elem:TypeId):EffR:=
 match iM tb elem with
  |some v=>.ofPair (qY tmps st elem v.cells)
  |none=>.bad
def Ei(tb:Tab)(tmps:Tm)(st:St)(t:TypeId)(len:Nat)(parts:Array (Nat×Operand)):EffR:=
 match tb.und t,oO (bn tmps) parts.toList with
  |some (.slice elem),some ps=>match cq tb elem,iM tb elem with
   |some sz,some z=>if Nat.ble (Nat.mul len sz) 16777216&&Nat.beq z.cells.length sz then match nT (fun i=>some (Nat.mul i sz,sz)) (iG z.cells len) ps with
    |some cs=>match qY tmps st elem cs with
     |some (.ptr b o,st')=>.val (.slice b o (.int (.ofNat len)) (.int (.ofNat len))) st'
     |_=>.bad
    |none=>.bad
    else .bad
   |_,_=>.bad
  |_,_=>.bad
def IZ(tb:Tab)(st:St)(op:BinOp)(k:IntKind)(a b:E):EffR:=
 match dV tb.facts st.pc (aF .lss b (.int 0))with
 |some false=>.val (.int k (jh op k a b)) st
 |_=>.lack (aW (aF .lss b (.int 0)))
def yP(tb:Tab)(st:St)(op:BinOp)(k:IntKind)(a:E)(k':IntKind)(b:E):EffR:=
 match eG k k' with
 |true=>match dV tb.facts st.pc (aF .eql b (.int 0))with
  |some false=>match op with
   |.quo=>.val (.int k (jh .quo k a b)) st
   |.rem=>.val (.int k (jh .rem k a b)) st
   |_=>.bad
  |_=>match op with
   |.quo=>.lack (aW (aF .eql b (.int 0)))
   |.rem=>.lack (aW (aF .eql b (.int 0)))
   |_=>.bad
 |false=>.bad
def vN(tb:Tab)(st:St)(op:BinOp)(k:IntKind)(a:E)(k':IntKind)(b:E):EffR:=
 match op with
 |.shl=>IZ tb st .shl k a b
 |.shr=>IZ tb st .shr k a b
 |.quo=>yP tb st .quo k a k' b
 |.rem=>yP tb st .rem k a k' b
 |_=>.bad
def GF(tb:Tab)(tmps:Tm)(st:St)(op:BinOp)(t:TypeId)(x:Operand)(y:Operand):EffR:=
 match bn tmps x,bn tmps y with
  |some (.int k a),some (.int k' b)=>vN tb st op k a k' b
  |some (.ptr a i),some (.ptr b j)=>
   match tb.und t with
   |some (.pointer elem)=>match cq tb elem with
    |some (Nat.succ _)=>match st.heap.get a,st.heap.get b,iD i,iD j with
     |some ⟨own1,.cells (_::_) _ _⟩,some ⟨own2,.cells (_::_) _ _⟩,some m,some n=>
      match own1||own2 with
      |true=>match op with
       |.eql=>.val (.bool (.bool (Nat.beq a b&&Nat.beq m n))) st
       |.neq=>.val (.bool (.bool (!(Nat.beq a b&&Nat.beq m n)))) st
       |_=>.bad
      |false=>.bad
     |_,_,_,_=>.bad
    |_=>.bad
   |_=>.bad
  |_,_=>.bad
def Jz(tb:Tab)(tmps:Tm)(st:St)(c:Operand)(a:Operand)(b:Operand):EffR:=
 match bn tmps c with
  |some (.bool e)=>match dV tb.facts st.pc e with
   |some true=>.ofVal (bn tmps a) st
   |some false=>.ofVal (bn tmps b) st
   |none=>.ask e
  |_=>.bad
noncomputable def qo(tb:Tab)(tmps:Tm)(st:St)(o:Op):EffR:=
 Op.rec (motive:=fun _=>EffR)
  (fun _=>.bad)
  (fun _=>.bad)
  (fun c a b=>Jz tb tmps st c a b)
  (fun elem=>H7 tb tmps st elem)
  (fun elem x=>DS tb tmps st elem x)
  (fun _ _=>.bad)
  (fun t len parts=>Ei tb tmps st t len parts)
  (fun _ _ _ _=>.bad)
  (fun t x=>JN tb tmps st t x)
  (fun t x y=>EF tb tmps st t x y)
  (fun _=>.bad)
  (fun _=>.bad)
  (fun _=>.bad)
  (fun op t x y _=>GF tb tmps st op t x y)
  (fun _ _ _=>.bad)
  (fun _ _ _=>.bad)
  (fun _ _=>.bad)
  (fun _ _=>.bad)
  (fun _ _ _=>.bad)
  (fun _ _=>.bad)
  (fun _ _=>.bad)
  (fun _ _ _=>.bad)
  (fun t x lo hi mx=>JY tb tmps st t x lo hi mx)
  (fun _ _ _=>.bad)
  (fun _ _ _=>.bad)
  (fun t x i=>HN tb tmps st t x i)
  (fun t x i=>FN tb tmps st t x i)
  (fun t x k ok=>It tb tmps st t x k ok)
  (fun _ _ _ _=>.bad)
  (fun _ _ _=>.bad)
  (fun _ _ _ _=>.bad)
  (fun _ _=>.bad)
  (fun _ _=>.bad)
  (fun _=>.bad)
  (fun _ _ _ _=>.bad)
  (fun _ _=>.bad)
  (fun c=>La tb tmps st c)
  (fun _=>.bad)
  (fun _=>.bad)
  (fun _=>.bad)
  (fun _ _=>.bad)
  (fun _ _ _=>.bad)
  (fun _ _=>.bad)
  o
theorem ahL(tb:Tab)(tmps:Tm)(st:St)(o:Op):qo tb tmps st o=(match o with
 |.load t x=>JN tb tmps st t x
 |.store t x y=>EF tb tmps st t x y
 |.indexAddr t x i=>HN tb tmps st t x i
 |.index t x i=>FN tb tmps st t x i
 |.call c=>La tb tmps st c
 |.slice t x lo hi mx=>JY tb tmps st t x lo hi mx
 |.lookup t x k ok=>It tb tmps st t x k ok
 |.box elem x=>DS tb tmps st elem x
 |.alloc elem=>H7 tb tmps st elem
 |.buildSlice t len parts=>Ei tb tmps st t len parts
 |.binOp op t x y _=>GF tb tmps st op t x y
 |.pick c a b=>Jz tb tmps st c a b
 |_=>.bad):=by cases o<;>rfl
def ad7(f:TypeId->Option (List CK)):List Field->Option (List CK)
 |[]=>some []
 |fd::fds=>match f fd.type,ad7 f fds with
  |some a,some b=>some (a++b)
  |_,_=>none
def pO(l:List CK):Nat->List CK
 |0=>[]
 |n+1=>l++pO l n
def vv(tb:Tab):Nat->TypeId->Option (List CK)
 |0,_=>none
 |d+1,t=>match tb.und t with
  |some (.int k)=>some [.int k]
  |some .bool=>some [.bool]
  |some .string=>some [.str]
  |some (.slice e)=>match vv tb d e with
   |some ks=>some [.slc ks]
   |none=>none
  |some (.struct fs)=>ad7 (vv tb d) fs.toList
  |some (.array n e)=>match vv tb d e with
   |some ks=>some (pO ks n)
   |none=>none
  |_=>none
def vS:List CK->List SV->Option (List E)
 |[],[]=>some []
 |c::cs,v::vs=>match lQ c v,vS cs vs with
  |some e,some l=>some (e::l)
  |_,_=>none
 |_,_=>none
def yF(ks:List CK)(n:Nat)(vs:List SV):Option E:=
 match vS (pO ks n) vs with
 |some l=>some (jG l)
 |none=>none
inductive Held where
 |cells (vs:List SV)
 |list (ks:List CK) (l n:E)
def xr(w:Nat)(l n lo len:E):E:=
 match vP lo&&len.beq n with
 |true=>l
 |false=>match w with
  |1=>.fn 4 (.pr l (.pr lo (cY lo len)))
  |_=>match vP lo with
   |true=>.fn 18 (.pr l (.fn 8 (.pr len (.int (.ofNat w)))))
   |false=>.fn 4 (.pr l (.pr (.fn 8 (.pr lo (.int (.ofNat w)))) (.fn 8 (.pr (cY lo len) (.int (.ofNat w))))))
def KV(w:Nat)(o:Off):Option E:=
 match o.scale with
 |0=>match Nat.beq (Nat.mod o.base w) 0 with
  |true=>some (.int (.ofNat (Nat.div o.base w)))
  |false=>none
 |s=>match Nat.beq s w&&Nat.beq o.base 0 with
  |true=>some o.idx
  |false=>none
def wb(tb:Tab)(st:St)(sz:Nat)(v:SV):Option Held:=
 match v with
 |.nils=>some (.cells [])
 |.bsl ks e=>match Nat.beq (aM ks) sz&&Nat.blt 0 sz with
  |true=>some (.list ks e (io sz e))
  |false=>none
 |.slice b o len _=>match st.heap.get b with
  |some ⟨_,.cells cs _ _⟩=>match d4 len,iD o with
   |some n,some m=>match mS (yM cs m) (Nat.mul n sz)with
    |some l=>match qH l with
     |true=>some (.cells l)
     |false=>none
    |none=>none
   |_,_=>none
  |some ⟨_,.flat ks l n _ _⟩=>match Nat.beq (aM ks) sz&&Nat.blt 0 sz,KV sz o with
   |true,some lo=>match dD tb.facts st.pc lo&&(dD tb.facts st.pc len&&cU tb.facts st.pc (cY lo len) n)with
    |true=>some (.list ks (xr sz l n lo len) len)
    |false=>none
   |_,_=>none
  |_=>none
 |.nslice b len _=>match st.heap.get b with
  |some ⟨_,.cells cs _ _⟩=>match d4 len with
   |some n=>match mS cs (Nat.mul n sz)with
    |some l=>match qH l with
     |true=>some (.cells l)
     |false=>none
    |none=>none
   |none=>none
  |some ⟨_,.flat ks l n _ _⟩=>match Nat.beq (aM ks) sz&&Nat.blt 0 sz with
   |true=>match dD tb.facts st.pc len&&cU tb.facts st.pc len n with
    |true=>some (.list ks (xr sz l n (.int 0) len) len)
    |false=>none
   |false=>none
  |_=>none
 |_=>none
def gY(tmps:Tm)(st:St):Bool:=st.scp&&kr st.nv st.nb tmps
def I0(sz:Nat)(c:E):E:=match sz with | 1=>c | _=>.fn 8 (.pr c (.int (.ofNat sz)))
def amk(sz:Nat)(elem:TypeId)(ct:Held)(c:E):SObj:=
 match ct with
 |.cells vs=>.cells vs (I0 sz c) elem
 |.list ks l n=>.flat ks l n c elem
def Held.scp(nv nb:Nat):Held->Bool
 |.cells vs=>SV.scps nv nb vs
 |.list _ l n=>l.scp nv&&n.scp nv
def rQ(tmps:Tm)(st:St)(sz:Nat)(elem:TypeId)(ct:Held)(need:E):Option (SV×St):=
 let c:=E.var st.nv
 match gY tmps st&&(need.scp st.nv&&ct.scp st.nv st.nb)with
 |true=>T.insK st.heap st.nb ⟨true,amk sz elem ct c⟩ fun h=>some (.nslice st.nb need c,⟨Nat.succ st.nv,Nat.succ st.nb,h,aW (aF .lss c need)::aW (aF .lss c (.int 0))::st.pc⟩)
 |false=>none
def Sn(l l':E):E:=
 match Ed l with
 |true=>l'
 |false=>.fn 3 (.pr l l')
def LI(sz:Nat)(n m:Option Nat)(a b:Held):Option Held:=
 match a,b with
 |.cells x,.cells y=>some (.cells (x++y))
 |.list ks l n,.list ks' l' n'=>match fJ ks ks' with
  |true=>some (.list ks (JK l l') (cY n n'))
  |false=>none
 |.list ks l n,.cells y=>match m with
  |some m=>match yF ks m y with
   |some l'=>some (.list ks (JK l l') (cY n (.int (.ofNat m))))
   |none=>none
  |none=>none
 |.cells x,.list ks l' n'=>match n with
  |some n=>match yF ks n x with
   |some l=>some (.list ks (Sn l l') (cY (.int (.ofNat n)) n'))
   |none=>none
  |none=>none
def jV(sz:Nat)(v:SV):Option E:=
 match v with
 |.nils=>some (.int 0)
 |.slice _ _ l _=>some l
 |.nslice _ l _=>some l
 |.bsl _ e=>some (io sz e)
 |_=>none
def sR(v:SV):Option E:=
 match v with
 |.nils=>some (.int 0)
 |.slice _ _ _ c=>some c
 |.nslice _ _ c=>some c
 |.bsl _ e=>some (oF e)
 |_=>none
inductive Eff2 where
 |val (v:SV) (st:St)
 |skip (st:St)
 |ask (e:E)
 |lack (e:E)
 |bad
def mI:E:=.int 2147483648
def AW(sz:Nat)(c tot:E):Bool:=
 match d4 c with
 |some n=>(E.int (.ofNat (Nat.mul n sz))).beq tot
 |none=>(I0 sz c).beq tot
def Ep(st:St)(sz:Nat)(elem:TypeId)(v:SV):Option Nat:=
 match v with
 |.nslice b _ c=>match st.heap.get b with
  |some ⟨true,.flat ks _ _ tot e⟩=>match c.beq tot&&(Nat.beq (aM ks) sz&&Nat.beq e elem)with | true=>some b | false=>none
  |some ⟨true,.cells _ tot e⟩=>match AW sz c tot&&Nat.beq e elem with | true=>some b | false=>none
  |_=>none
 |.slice b o _ c=>match iD o with
  |some 0=>match st.heap.get b with
   |some ⟨true,.cells _ tot e⟩=>match AW sz c tot&&Nat.beq e elem with | true=>some b | false=>none
   |_=>none
  |_=>none
 |_=>none
def Hx(tb:Tab)(t:TypeId):Option Nat:=
 match tb.ty.get t with
 |some i=>some i.bytes
 |none=>none
def B3(old:SObj)(ct:Held):Option SObj:=
 match old,ct with
 |.cells _ tot e,.cells vs=>some (.cells vs tot e)
 |.flat _ _ _ tot e,.list ks l n=>some (.flat ks l n tot e)
 |_,_=>none
def acl(old:SObj)(ct:Held):Bool:=
 match old,ct with
 |.cells _ _ _,_=>true
 |.flat _ _ _ _ _,.list _ _ _=>true
 |_,_=>false
def HJ(tmps:Tm)(st:St)(b:Nat)(sz:Nat)(elem:TypeId)(ct:Held)(need:E):Option (SV×St):=
 match st.heap.get b with
 |some ⟨_,old⟩=>match acl old ct with
  |true=>T.setK st.heap b ⟨true,.gone⟩ fun h=>rQ tmps {st with heap:=h} sz elem ct need
  |false=>none
 |none=>none
def y4:SV->Bool
 |.bsl _ _=>true
 |_=>false
def Eff2.ofPair:Option (SV×St)->Eff2
 |some (v,st)=>.val v st
 |none=>.bad
def Bc(tb:Tab)(t:TypeId):Bool:=
 match tb.und t with
 |some (.slice _)=>true
 |_=>false
def oD(fs pc:List E)(e:E):Bool:=
 match vP e with
 |true=>true
 |false=>match dV fs pc (aF .eql e (.int 0))with
  |some true=>true
  |_=>false
def aKF(fs pc:List E)(ls lx c:E):E:=
 match dD fs pc ls with
 |false=>aW (aF .lss ls (.int 0))
 |true=>match dD fs pc lx with
  |false=>aW (aF .lss lx (.int 0))
  |true=>aW (aF .lss c (.int 0))
def w8:E:=.iff (.bool true) (.bool true)
def S6(fs pc:List E)(s:SV)(c:E)(ct:Held):Bool:=
 match ct with
 |.list _ _ _=>match s with
  |.nils=>qK w8 fs
  |.bsl _ _=>match qK w8 fs with | true=>oD fs pc c | false=>false
  |_=>false
 |_=>false
def zZ(tb:Tab)(tmps:Tm)(st:St)(elem:TypeId)(sz:Nat)(s:SV)(a b:Held)(ls lx c:E):Eff2:=
  match LI sz (d4 ls) (d4 lx) a b with
  |some ct=>
    let need:=cY ls lx
    match dD tb.facts st.pc ls&&(dD tb.facts st.pc lx&&dD tb.facts st.pc c)with
    | true=>match cU tb.facts st.pc need mI with
      | true=>match dV tb.facts st.pc (aF .lss c need)with
        |some true=> .ofPair (rQ tmps st sz elem ct need)
        | some false=>match !(qK w8 tb.facts)&&oD tb.facts st.pc lx with
          |true=> .val s st
          | false=>match Ep st sz elem s with
            | some b=>match st.heap.get b with
              | some ⟨_,old⟩=>match B3 old ct with
                |some obj=>T.setK st.heap b ⟨true,obj⟩ fun h=> .val (.nslice b need c) {st with heap:=h}
                |none=> .lack (aF .eql lx (.int 0))
              |none=> .lack (aF .eql lx (.int 0))
            | none=>match oD tb.facts st.pc lx with
              |true=> .val s st
              |false=> .lack (aF .eql lx (.int 0))
        | none=>match Ep st sz elem s with
          |some b=> .ofPair (HJ tmps st b sz elem ct need)
          |none=>match S6 tb.facts st.pc s c ct with
           |true=> .ofPair (rQ tmps st sz elem ct need)
           |false=>match y4 s with
            | true=>match dV tb.facts st.pc (aF .eql lx (.int 0))with
              |some true=> .val s st
              |some false=> .lack (aF .lss c need)
              |none=> .ask (aF .eql lx (.int 0))
            | false=>match s with
              | .nils=>match dV tb.facts st.pc (aF .eql lx (.int 0))with
                |some true=> .val s st
                |some false=> .lack (aF .lss c need)
                |none=> .ask (aF .eql lx (.int 0))
              |_=> .ask (aF .lss c need)
      |false=> .lack (aW (aF .lss mI need))
    |false=> .lack (aKF tb.facts st.pc ls lx c)
  |none=> .bad
def Hr(tb:Tab)(st:St)(sz:Nat)(v:SV):Option E:=
 match v with
 |.nslice b len _=>match st.heap.get b with
  |some ⟨_,o⟩=>match o with
   |.flat _ _ n _ _=>some (u6 tb.facts st.pc [aW (aF .lss len (.int 0)),aW (aF .lss n len)])
   |_=>none
  |none=>none
 |.slice b off len _=>match st.heap.get b with
  |some ⟨_,o⟩=>match o with
   |.flat _ _ n _ _=>match KV sz off with
    |some lo=>some (u6 tb.facts st.pc [aW (aF .lss lo (.int 0)),aW (aF .lss len (.int 0)),aW (aF .lss n (cY lo len))])
    |none=>none
   |_=>none
  |none=>none
 |_=>none
def yB(x:Option E):Eff2:=
 match x with
 |some e=>.lack e
 |none=>.bad
def zi(c pat:E):E:=
 match pat with
 |.fn 23 (.pr e (.fn 10 _))=>.fn 5 (.pr c e)
 |_=>.fn 17 (.pr c pat)
def aeb(tb:Tab)(st:St)(elem xt:TypeId)(z x:SV):Option (Held×E):=
 match tb.und xt with
 |some (.int .i64)=>match x with
  |.int .i64 n=>match d4 n with
   |some m=>match Nat.ble m 4096&&qH (iG z.cells m)with
    |true=>some (.cells (iG z.cells m),.int (.ofNat m))
    |false=>none
   |none=>match vv tb 12 elem with
    |some ks=>match yF ks 1 z.cells with
     |some pat=>match dD tb.facts st.pc n&&(cU tb.facts st.pc n (.int 4096)&&Nat.blt 0 (aM ks))with
      |true=>some (.list ks (zi n pat) n,n)
      |false=>none
     |none=>none
    |none=>none
  |_=>none
 |_=>none
def azi(tb:Tab)(st:St)(x:SV):Option E:=
 match x with
 |.int .i64 n=>match d4 n with
  |some _=>none
  |none=>some (u6 tb.facts st.pc [aW (aF .lss n (.int 0)),aW (aF .lss (.int 4096) n)])
 |_=>none
def wM(tb:Tab)(tmps:Tm)(st:St)(t xt:TypeId)(s x:SV):Eff2:=
 match tb.und t with
 |some (.slice elem)=>match cq tb elem,Hx tb elem,iM tb elem with
  |some sz,some bytes,some z=>match Nat.blt 0 bytes&&(Nat.ble bytes 32768&&(Nat.blt 0 sz&&Nat.beq z.cells.length sz))with
   |true=>match wb tb st sz s,jV sz s,sR s with
    |some a,some ls,some c=>match Bc tb xt with
     |true=>match wb tb st sz x,jV sz x with
      |some b,some lx=>zZ tb tmps st elem sz s a b ls lx c
      |_,_=>yB (Hr tb st sz x)
     |false=>match aeb tb st elem xt z x with
      |some (b,lx)=>zZ tb tmps st elem sz s a b ls lx c
      |none=>yB (azi tb st x)
    |_,_,_=>yB (Hr tb st sz s)
   |false=>.bad
  |_,_,_=>.bad
 |_=>.bad
def wH(tb:Tab)(tmps:Tm)(st:St)(elem:TypeId)(z:SV)(n c:E):Eff2:=
 match vv tb 12 elem with
 |some ks=>match yF ks 1 z.cells with
  |some pat=>match gY tmps st&&(n.scp st.nv&&(c.scp st.nv&&(pat.scp st.nv&&Nat.blt 0 (aM ks))))with
   |true=>T.insK st.heap st.nb ⟨true,.flat ks (zi c pat) c c elem⟩ fun h=>.val (.nslice st.nb n c) {st with nb:=Nat.succ st.nb,heap:=h}
   |false=>.bad
  |none=>.bad
 |none=>.bad
def IS(tb:Tab)(tmps:Tm)(st:St)(t:TypeId)(n c:SV):Eff2:=
 match tb.und t with
 |some (.slice elem)=>match cq tb elem,Hx tb elem,iM tb elem with
  |some sz,some bytes,some z=>match Nat.beq z.cells.length sz&&(Nat.blt 0 sz&&Nat.ble bytes 32768)with
   |true=>match n,c with
    |.int .i64 n,.int .i64 c=>match dD tb.facts st.pc n&&cU tb.facts st.pc n c with
     |true=>match cU tb.facts st.pc c mI with
      |true=>match d4 c with
       |some m=>match Nat.ble (Nat.mul m sz) 256&&n.scp st.nv with
        |true=>match qY tmps st elem (iG z.cells m)with
         |some (.ptr b _,st')=>.val (.nslice b n c) st'
         |_=>.bad
        |false=>wH tb tmps st elem z n c
       |none=>wH tb tmps st elem z n c
      |false=>.lack (aW (aF .lss mI c))
     |false=>match dD tb.facts st.pc n with
      |true=>.lack (aW (aF .lss c n))
      |false=>.lack (aW (aF .lss n (.int 0)))
    |_,_=>.bad
   |false=>.bad
  |_,_,_=>.bad
 |_=>.bad
def AL(st:St)(b off:Nat)(ws:List SV)(v:SV):Eff2:=
 match st.heap.get b with
 |some ⟨true,.cells cs tot e⟩=>match pJ cs off ws with
  |some cs'=>T.setK st.heap b ⟨true,.cells cs' tot e⟩ fun h=>.val v {st with heap:=h}
  |none=>.bad
 |_=>.bad
def HC(tb:Tab)(st:St)(t xt:TypeId)(d s:SV):Eff2:=
 match tb.und t,Bc tb xt with
 |some (.slice elem),true=>match cq tb elem with
  |some sz=>match jV sz d,jV sz s,wb tb st sz s with
   |some ld,some ls,some ct=>match ct with
    |.cells vs=>match d4 ld,d4 ls with
     |some n,some m=>match Nat.ble m n with
      |true=>match d with
       |.nils=>.val (.int .i64 (.int 0)) st
       |.slice b o _ _=>match iD o with
        |some off=>AL st b off vs (.int .i64 (.int (.ofNat m)))
        |none=>.bad
       |.nslice b _ _=>AL st b 0 vs (.int .i64 (.int (.ofNat m)))
       |_=>.bad
      |false=>.bad
     |_,_=>.bad
    |.list ks l n=>match d with
     |.nslice b _ _=>match st.heap.get b with
      |some ⟨true,.flat ks' _ n' tot e⟩=>match fJ ks ks'&&(ld.beq ls&&(dD tb.facts st.pc ls&&cU tb.facts st.pc ld n'))with
       |true=>T.setK st.heap b ⟨true,.flat ks l n tot e⟩ fun h=>.val (.int .i64 ls) {st with heap:=h}
       |false=>match fJ ks ks'&&ld.beq ls with
        |true=>.lack (u6 tb.facts st.pc [aW (aF .lss ls (.int 0)),aW (aF .lss n' ld)])
        |false=>.bad
      |_=>match d4 ls with
       |some m=>match m with
        |0=>.val (.int .i64 (.int 0)) st
        |_+1=>.bad
       |none=>.bad
     |_=>.bad
   |_,_,_=>yB (Hr tb st sz s)
  |none=>.bad
 |_,_=>.bad
def LN(fs pc:List E)(m:Nat)(tot:E):Bool:=
 match cU fs pc (.int (.ofNat m)) tot with
 |true=>true
 |false=>match tot with
  |.fn f (.pr c (.int (.ofNat k)))=>match Nat.beq f 8,Nat.blt 0 k with
   |true,true=>cU fs pc (.int (.ofNat (Nat.div (Nat.pred (Nat.add m k)) k))) c
   |_,_=>false
  |_=>false
def JM(tb:Tab)(st:St)(elem:TypeId)(b:Nat)(o:Off)(z:SV):Eff2:=
 match DX tb st elem (.ptr b o) z with
 |some st'=>.val .undef st'
 |none=>match uj tb st elem (.ptr b o) z with
  |.skip st'=>.val .undef st'
  |.ask e=>.ask e
  |.lack e=>.lack e
  |_=>.bad
def xx(tb:Tab)(st:St)(elem:TypeId)(b:Nat)(o:Off):Eff2:=
 match cq tb elem,iM tb elem with
 |some sz,some z=>match Nat.beq z.cells.length sz&&qH z.cells with
  |true=>match st.heap.get b with
   |some ⟨true,.cells cs tot e'⟩=>match iD o with
    |some off=>match Nat.ble cs.length off with
     |true=>match LN tb.facts st.pc (Nat.add off z.cells.length) tot with
      |true=>T.setK st.heap b ⟨true,.cells cs tot e'⟩ fun h=>.val .undef {st with heap:=h}
      |false=>.lack (aW (aF .lss tot (.int (.ofNat (Nat.add off z.cells.length)))))
     |false=>JM tb st elem b o z
    |none=>.bad
   |some ⟨true,.flat ks l n tot e'⟩=>match sF tb.facts st.pc (aM ks) tot o with
    |.at idx j=>match Nat.beq j 0&&(Nat.beq z.cells.length (aM ks)&&cU tb.facts st.pc n idx)with
     |true=>T.setK st.heap b ⟨true,.flat ks l n tot e'⟩ fun h=>.val .undef {st with heap:=h}
     |false=>JM tb st elem b o z
    |.lack e=>.lack e
    |.bad=>.bad
   |_=>.bad
  |false=>.bad
 |_,_=>.bad
def Fv(tb:Tab)(st:St)(t:TypeId)(v:SV):Eff2:=
 match tb.und t with
 |some (.slice elem)=>match v with
  |.slice b o n _=>match d4 n with
   |some m=>match m with
    |0=>.val .undef st
    |k+1=>match k with
     |0=>xx tb st elem b o
     |_+1=>.bad
   |none=>match dV tb.facts st.pc (aF .eql n (.int 1))with
    |some true=>xx tb st elem b o
    |_=>.lack (aF .eql n (.int 1))
  |.nslice b n _=>match st.heap.get b,d4 n with
   |some ⟨true,.cells _ _ _⟩,some m=>match m with
    |0=>.val .undef st
    |k+1=>match k with
     |0=>xx tb st elem b ⟨0,0,.int 0⟩
     |_+1=>.bad
   |_,_=>.bad
  |.nils=>.val .undef st
  |_=>.bad
 |_=>.bad
def nr(es:List Ent)(i:Nat)(v:SV):List Ent:=
 match es with
 |[]=>[]
 |x::es=>match i with
  |0=>⟨x.k,v,x.born⟩::es
  |i+1=>x::nr es i v
def BZ(es:List Ent)(i:Nat):List Ent:=
 match es with
 |[]=>[]
 |e::es=>match i with
  |0=>es
  |i+1=>e::BZ es i
def sX(st:St)(b:Nat)(es:List Ent)(clk:E):St:=T.setK st.heap b ⟨true,.map es clk⟩ fun h=>{st with heap:=h}
def wZ(st:St)(b:Nat)(k:IntKind)(c:CK)(e:E):St:=T.setK st.heap b ⟨true,.mapl k c e⟩ fun h=>{st with heap:=h}
def BD(tb:Tab)(st:St)(t:TypeId)(x k v:SV):Eff2:=
 match tb.und t with
 |some (.map kt _)=>match x,sC tb kt k with
  |.map b,true=>match st.heap.get b with
   |some ⟨true,.map es clk⟩=>match pA tb st.pc kt k es 0 with
    |.at i _ _=>.skip (sX st b (nr es i v) clk)
    |.no=>.skip (sX st b (es++[⟨k,v,clk⟩]) (cY clk (.int 1)))
    |.ask e=>.ask e
    |.bad=>.bad
   |some ⟨true,.mapl k0 c e⟩=>match k,lQ c v with
    |.int k1 ke,some ve=>match eG k1 k0 with
     |true=>.skip (wZ st b k0 c (.fn 34 (.pr e (.pr ke ve))))
     |false=>.bad
    |_,_=>.bad
   |_=>.bad
  |_,_=>.bad
 |_=>.bad
def Nr(st:St)(b:Nat)(k:IntKind)(c:CK)(e ke s:E):St:=T.setK st.heap b ⟨true,.maplp k c e ke s⟩ fun h=>{st with heap:=h}
def Hu(e ke ve:E):E:=
 match e with
 |.fn 34 (.pr e0 (.pr ke0 _))=>match ke0.beq ke with
  |true=>.fn 34 (.pr e0 (.pr ke ve))
  |false=>.fn 34 (.pr e (.pr ke ve))
 |e=>.fn 34 (.pr e (.pr ke ve))
def IK(tb:Tab)(tmps:Tm)(st:St)(t:TypeId)(x k:SV):Eff2:=
 match tb.und t with
 |some (.map kt vt)=>match x,sC tb kt k with
  |.map b,true=>match st.heap.get b with
   |some ⟨true,.map es clk⟩=>match pA tb st.pc kt k es 0 with
    |.at _ v s=>.val (.tup [v,.int .i64 s]) st
    |.no=>match iM tb vt with
     |some z=>.val (.tup [z,.int .i64 clk]) (sX st b (es++[⟨k,z,clk⟩]) (cY clk (.int 1)))
     |none=>.bad
    |.ask e=>.ask e
    |.bad=>.bad
   |some ⟨true,.mapl k0 c e⟩=>match iM tb vt with
    |some z=>match k,lQ c z with
     |.int k1 ke,some ze=>match eG k1 k0,gY tmps st&&ke.scp st.nv with
      | true,true=>.val (.tup [nM c (.fn 32 (.pr e (.pr ke ze))),.int .i64 (.var st.nv)])
        (Nr {st with nv:=Nat.succ st.nv} b k0 c (.fn 34 (.pr e (.pr ke (.fn 32 (.pr e (.pr ke ze)))))) ke (.var st.nv))
      |_,_=>.bad
     |_,_=>.bad
    |none=>.bad
   |_=>.bad
  |_,_=>.bad
 |_=>.bad
def Df(s:E):List Ent->Nat->Option Nat
 |[],_=>none
 |x::es,i=>match x.born.beq s with
  |true=>some i
  |false=>Df s es (Nat.succ i)
def Fe(st:St)(x s v:SV):Eff2:=
 match x,s with
 |.map b,.int _ s=>match st.heap.get b with
  |some ⟨true,.map es clk⟩=>match Df s es 0 with
   |some i=>.skip (sX st b (nr es i v) clk)
   |none=>.bad
  |some ⟨true,.maplp k0 c e ke s0⟩=>match s0.beq s,lQ c v with
   |true,some ve=>.skip (wZ st b k0 c (Hu e ke ve))
   |_,_=>.bad
  |_=>.bad
 |_,_=>.bad
def IR(tb:Tab)(st:St)(t:TypeId)(x k:SV):Eff2:=
 match tb.und t with
 |some (.map kt _)=>match x,sC tb kt k with
  |.nilm,true=>.val .undef st
  |.map b,true=>match st.heap.get b with
   |some ⟨true,.map es clk⟩=>match pA tb st.pc kt k es 0 with
    |.at i _ _=>.val .undef (sX st b (BZ es i) clk)
    |.no=>.val .undef st
    |.ask e=>.ask e
    |.bad=>.bad
   |some ⟨true,.mapl k0 c e⟩=>match k with
    |.int k1 ke=>match eG k1 k0 with
     |true=>.val .undef (wZ st b k0 c (.fn 35 (.pr e ke)))
     |false=>.bad
    |_=>.bad
   |_=>.bad
  |_,_=>.bad
 |_=>.bad
def rj(tb:Tab)(tmps:Tm)(st:St)(v:SV)(yes:Bool):Eff2:=
 match v with
 |.nslice b len _=>match st.heap.get b with
  |some ⟨_,.cells _ _ _⟩=>.val (.bool (.bool (!yes))) st
  |some ⟨_,.flat _ _ n tot _⟩=>match ll tb.facts st.pc (.int 0) tot||ll tb.facts st.pc (.int 0) n with
   |true=>.val (.bool (.bool (!yes))) st
   |false=>match gY tmps st&&n.scp st.nv with
    |true=>.val (.bool (match yes with | true=>.var st.nv | false=>.not (.var st.nv))) {st with nv:=Nat.succ st.nv,pc:=.imp (.var st.nv) (aF .eql n (.int 0))::st.pc}
    |false=>.bad
  |_=>.bad
 |.bsl ks e=>match Nat.blt 0 (aM ks)with
  | true=>.val (.bool (match yes with | true=>.fn 31 e | false=>.not (.fn 31 e))) (match CQ (io (aM ks) e)with
    |true=>{st with pc:=.imp (.fn 31 e) (aF .eql (io (aM ks) e) (.int 0))::st.pc}
    |false=>st)
  |false=>.bad
 |_=>.bad
def xg:SV->Bool
 |.nils=>true
 |_=>false
def CB:List SV->Option (List UInt8)
 |[]=>some []
 |v::vs=>match v with
  |.int .u8 (.int (.ofNat n))=>match CB vs with
   |some l=>match Nat.blt n 256 with
    |true=>some (UInt8.ofNat n::l)
    |false=>none
   |none=>none
  |_=>none
def GB(tb:Tab)(st:St)(src dst:TypeId)(v:SV):Eff2:=
 match tb.und src,tb.und dst with
 |some (.slice e),some .string=>match tb.und e with
  |some (.int .u8)=>match v with
   |.nils=>.val (.str (.str ByteArray.empty)) st
   |_=>match wb tb st 1 v with
    |some (.cells vs)=>match CB vs with
     |some l=>.val (.str (.str ⟨l.toArray⟩)) st
     |none=>.bad
    |some (.list ks l _)=>match ks with
     |[.int .u8]=>.val (.str (.fn 41 l)) st
     |_=>.bad
    |none=>yB (Hr tb st 1 v)
  |_=>.bad
 |_,_=>.bad
def zj:List UInt8->List E
 |[]=>[]
 |b::l=>.int (.ofNat b.toNat)::zj l
def Fk(tb:Tab)(tmps:Tm)(st:St)(src dst:TypeId)(v:SV):Eff2:=
 match tb.und src,tb.und dst with
 |some .string,some (.slice e)=>match tb.und e with
  |some (.int .u8)=>match v with
   |.str (.str s)=>match gY tmps st with
    |true=>.val (.bsl [.int .u8] (.fn 28 (.pr (.pr (.var st.nv) (.int (.ofNat s.size))) (jG (zj s.data.toList))))) {st with nv:=Nat.succ st.nv}
    |false=>.bad
   |_=>.bad
  |_=>.bad
 |_,_=>GB tb st src dst v
def MU(tb:Tab)(tmps:Tm)(st:St)(t:TypeId)(x:SV):Eff2:=
 match tb.und t,x with
 |some (.map _ _),.map b=>match st.heap.get b with
  |some ⟨true,.mapl k c e⟩=>match dV tb.facts st.pc (.fn 39 e),gY tmps st with
   |some true,true=>T.setK st.heap b ⟨true,.gone⟩ fun h=>T.insK h st.nb ⟨true,.iter k c e (.fn 0 e) none⟩ fun h=>.val (.ptr st.nb ⟨0,0,.int 0⟩) {st with nb:=Nat.succ st.nb,heap:=h}
   |some true,false=>.bad
   |_,_=>.lack (.fn 39 e)
  |_=>.bad
 |_,_=>.bad
def Q3(tb:Tab)(tmps:Tm)(st:St)(x:SV)(str:Bool):Eff2:=
 match str,x with
 |false,.ptr b o=>match iD o with
  |some 0=>match st.heap.get b with
   |some ⟨true,.iter k c e n _⟩=>match dV tb.facts st.pc (aF .eql n (.int 0))with
    |some true=>.val (.tup [.bool (.bool false)]) st
    |some false=>match gY tmps st with
     |true=>T.setK st.heap b ⟨true,.iter k c e (cY n (.int (-1))) (some (.var st.nv))⟩ fun h=>
       .val (.tup [.bool (.bool true),.int k (.var st.nv),nM c (.fn 32 (.pr e (.pr (.var st.nv) (.int 0))))]) {st with nv:=Nat.succ st.nv,heap:=h,pc:=.fn 33 (.pr e (.var st.nv))::st.pc}
     |false=>.bad
    |none=>.ask (aF .eql n (.int 0))
   |_=>.bad
  |_=>.bad
 |_,_=>.bad
def NU(st:St)(x:SV):Eff2:=
 match x with
 |.ptr b o=>match iD o with
  |some 0=>match st.heap.get b with
   |some ⟨true,.iter k c e _ (some u)⟩=>.val (.tup [.int k u,nM c (.fn 32 (.pr e (.pr u (.int 0))))]) st
   |_=>.bad
  |_=>.bad
 |_=>.bad
def L0(tb:Tab)(tmps:Tm)(st:St)(t:TypeId)(x:Operand):Eff2:=
 match bn tmps x with
  |some v=>MU tb tmps st t v
  |none=>.bad
def LG(tb:Tab)(tmps:Tm)(st:St)(x:Operand)(str:Bool):Eff2:=
 match bn tmps x with
  |some v=>Q3 tb tmps st v str
  |none=>.bad
def Lh(tb:Tab)(tmps:Tm)(st:St)(x:Operand):Eff2:=
 match bn tmps x with
  |some v=>NU st v
  |none=>.bad
def GH(st:St)(n len cap tot l:E):Bool:=
 n.beq len&&(cap.beq tot&&(st.scp&&(l.scp st.nv&&(len.scp st.nv&&cap.scp st.nv))))
def CD(ks0:List CK)(fs:List E)(p:SV×St):SV×St:=
 match p.1 with
 |.nils=>(.bsl ks0 (.fn 30 (.int 0)),p.2)
 |.nslice _ (.int 0) (.int 0)=>match p.2.scp with
  |true=>(.bsl ks0 (.fn 28 (.pr (.pr (.var p.2.nv) (.int 0)) (.fn 10 (.int 0)))),{p.2 with nv:=Nat.succ p.2.nv})
  |false=>p
 |.nslice b len cap=>match p.2.heap.get b with
  |some ⟨true,.flat ks l n tot _⟩=>match GH p.2 n len cap tot l with
   |true=>T.setK p.2.heap b ⟨true,.gone⟩ fun h=>(.bsl ks (.fn 28 (.pr (.pr (.var p.2.nv) len) l)),{p.2 with nv:=Nat.succ p.2.nv,heap:=h})
   |false=>p
  |_=>p
 |.slice _ _ (.int 0) (.int 0)=>match p.2.scp with
  |true=>(.bsl ks0 (.fn 28 (.pr (.pr (.var p.2.nv) (.int 0)) (.fn 10 (.int 0)))),{p.2 with nv:=Nat.succ p.2.nv})
  |false=>p
 |_=>p
inductive FM where
 |stay
 |down (ks:List CK)
 |up (ks:List CK) (el:TypeId)
 deriving Inhabited
def y9(ks:List CK)(el:TypeId)(v:SV)(st:St):SV×St:=
 match st.scp&&Nat.blt 0 (aM ks)with
 |true=>T.insK st.heap st.nb ⟨true,.flat ks (.fn 10 (.int 0)) (.int 0) (.int 0) el⟩ fun h=>(.nslice st.nb (.int 0) (.int 0),{st with nb:=Nat.succ st.nb,heap:=h})
 |false=>(v,st)
def CH(ks0:List CK)(el:TypeId)(fs:List E)(v:SV)(st:St):SV×St:=
 match v with
 |.nils=>y9 ks0 el v st
 |.bsl ks e=>match Nat.blt 0 (aM ks)&&(oD fs st.pc (io (aM ks) e)&&oD fs st.pc (oF e))with
  |true=>y9 ks0 el v st
  |false=>(v,st)
 |_=>(v,st)
def Aj(m:FM)(fs:List E)(v:SV)(st:St):SV×St:=
 match m with
 |.stay=>(v,st)
 |.down ks=>CD ks fs (v,st)
 |.up ks el=>CH ks el fs v st
def lp(fs:List E):List FM->List SV->St->List SV×St
 |m::ms,v::vs,st=>match m with
  |.stay=>match v.scp st.nv st.nb with
   |true=>match lp fs ms vs st with
    |(vs',st')=>(v::vs',st')
   |false=>(v::vs,st)
  |_=>match Aj m fs v st with
   |(v',st1)=>match v'.scp st1.nv st1.nb&&SV.scps st.nv st.nb vs with
    |true=>match lp fs ms vs st1 with
     |(vs',st')=>(v'::vs',st')
    |false=>(v::vs,st)
 |_,vs,st=>(vs,st)
def tj(ms:List FM)(fs:List E)(v:SV)(st:St):SV×St:=
 match v with
 |.agg cs=>match lp fs ms cs st with
  |(cs',st')=>(.agg cs',st')
 |v=>match ms with
  |m::_=>Aj m fs v st
  |[]=>(v,st)
def mM(ms:List FM)(fs:List E)(p:SV×St):SV×St:=
 match p.1 with
 |.tup vs=>match vs with
  |v::vs=>match tj ms fs v p.2 with
   |(v',st1)=>match SV.scps p.2.nv p.2.nb vs with
    |true=>(.tup (v'::vs),st1)
    |false=>p
  |[]=>p
 |v=>tj ms fs v p.2
def xI:List CK->List FM
 |[]=>[]
 |c::cs=>match c with
  |.slc ks=>.down ks::xI cs
  |_=>.stay::xI cs
def AX(tb:Tab)(tmps:Tm)(st:St)(elem:TypeId)(b:Nat)(s x:SV):Option St:=
 match st.heap.get b with
 |some ⟨true,.cells vs tot e⟩=>match vv tb 12 elem with
  |some ks=>match kr st.nv st.nb tmps&&(s.scp st.nv st.nb&&(x.scp st.nv st.nb&&tot.scp st.nv))with
   |true=>match lp tb.facts (xI (pO ks (Nat.div (aM vs) (aM ks)))) vs st with
    |(vs',st')=>match st'.heap.get b with
     |some ⟨true,.cells _ _ _⟩=>some (T.setK st'.heap b ⟨true,.cells vs' tot e⟩ fun h=>{st' with heap:=h})
     |_=>none
   |false=>none
  |none=>none
 |_=>none
def AS(tb:Tab)(tmps:Tm)(st:St)(t xt:TypeId)(s x:SV):Eff2:=
 match tb.und t with
 | some (.slice elem)=>match (match x with
   |.slice b _ _ _=>AX tb tmps st elem b s x
   |.nslice b _ _=>AX tb tmps st elem b s x
   |_=>none)with
  |some st'=>wM tb tmps st' t xt s x
  |none=>.bad
 |_=>.bad
def Pf(tb:Tab)(tmps:Tm)(st:St)(t xt:TypeId)(s x:SV):Eff2:=
 match qK w8 tb.facts with
 |true=>match AS tb tmps st t xt s x with
  |.bad=>wM tb tmps st t xt s x
  |r=>r
 |false=>match wM tb tmps st t xt s x with
  |.bad=>AS tb tmps st t xt s x
  |r=>r
def wO(tb:Tab)(tmps:Tm)(st:St)(t:TypeId)(p v:SV):Eff2:=
 match p,v with
 |.ptr b o,.nslice b2 len cap=>match st.heap.get b,st.heap.get b2 with
  |some ⟨true,.nest ks l n tot elem⟩,some ⟨true,.flat ks2 l2 n2 tot2 _⟩=>match sF tb.facts st.pc (aM ks) n o with
   |.at idx j=>match dF ks j with
    |some (.slc ks')=>match fJ ks' ks2&&GH st n2 len cap tot2 l2&&kr st.nv st.nb tmps&&p.scp st.nv st.nb with
     |true=>match cq tb t with
      |some 1=>T.setK st.heap b2 ⟨true,.gone⟩ fun h=>T.setK h b ⟨true,.nest ks (jW l (dI (aM ks) idx j) (.fn 28 (.pr (.pr (.var st.nv) len) l2))) n tot elem⟩ fun h=>.skip {st with nv:=Nat.succ st.nv,heap:=h}
      |_=>.bad
     |false=>.bad
    |_=>.bad
   |.lack e=>.lack e
   |.bad=>.bad
  |_,_=>.bad
 |_,_=>.bad
def aW5(st:St)(p:SV):Bool:=
 match p with
 |.ptr b _=>match st.heap.get b with
  |some ⟨_,.nest _ _ _ _ _⟩=>true
  |_=>false
 |_=>false
def Lf(tb:Tab)(tmps:Tm)(st:St)(t:TypeId)(x:Operand)(y:Operand):Eff2:=
  match bn tmps x,bn tmps y with
  |some p,some v=>match aW5 st p with
   |true=>wO tb tmps st t p v
   |false=>match vv tb 12 t with
    | some ks=>match kr st.nv st.nb tmps&&p.scp st.nv st.nb with
      | true=>match mM (xI ks) tb.facts (v,st)with
        | (v',st')=>match uj tb st' t p v' with
          |.skip st''=> .skip st''
          |.lack e=> .lack e
          |_=> .bad
      |false=> .bad
    |none=> .bad
  |_,_=> .bad
def Ns(tb:Tab)(tmps:Tm)(st:St)(t:TypeId)(n:Operand)(c:Operand):Eff2:=
 match bn tmps n,bn tmps c with
  |some a,some b=>IS tb tmps st t a b
  |_,_=>.bad
def O5(tb:Tab)(tmps:Tm)(st:St)(t:TypeId)(r:Option Operand):Eff2:=
 match r with
  |none=>match gY tmps st with
   |true=>T.insK st.heap st.nb ⟨true,.map [] (.int 0)⟩ fun h=>.val (.map st.nb) {st with nb:=Nat.succ st.nb,heap:=h}
   |false=>.bad
  |some _=>.bad
def Ry(tb:Tab)(tmps:Tm)(st:St)(t:TypeId)(m:Operand)(k:Operand)(x:Operand):Eff2:=
 match bn tmps m,bn tmps k,bn tmps x with
  |some a,some b,some c=>BD tb st t a b c
  |_,_,_=>.bad
def OP(tb:Tab)(tmps:Tm)(st:St)(t:TypeId)(m:Operand)(k:Operand)(x:Operand):Eff2:=
 match bn tmps m,bn tmps k,bn tmps x with
  |some a,some b,some c=>BD tb st t a b c
  |_,_,_=>.bad
def Re(tb:Tab)(tmps:Tm)(st:St)(t:TypeId)(m:Operand)(k:Operand):Eff2:=
 match bn tmps m,bn tmps k with
  |some a,some b=>IK tb tmps st t a b
  |_,_=>.bad
def MI(tb:Tab)(tmps:Tm)(st:St)(m:Operand)(s:Operand)(x:Operand):Eff2:=
 match bn tmps m,bn tmps s,bn tmps x with
  |some a,some b,some c=>Fe st a b c
  |_,_,_=>.bad
def Rj(tb:Tab)(tmps:Tm)(st:St)(op:BinOp)(t:TypeId)(x:Operand)(y:Operand):Eff2:=
 match Bc tb t,bn tmps x,bn tmps y with
  |true,some a,some b=>match op with
   |.eql=>match xg b with
    |true=>rj tb tmps st a true
    |false=>match xg a with | true=>rj tb tmps st b true | false=>.bad
   |.neq=>match xg b with
    |true=>rj tb tmps st a false
    |false=>match xg a with | true=>rj tb tmps st b false | false=>.bad
   |_=>.bad
  |_,_,_=>.bad
def OM(tb:Tab)(tmps:Tm)(st:St)(src:TypeId)(dst:TypeId)(x:Operand):Eff2:=
 match bn tmps x with
  |some v=>Fk tb tmps st src dst v
  |none=>.bad
def Mx(tb:Tab)(tmps:Tm)(st:St)(c:Call):Eff2:=
 match c.callee with
  |.builtin b=>match ka (bn tmps) c.args.toList with
   |some [v,w]=>match b with
    |.append=>match c.argTypes.toList with
     |[t,xt]=>Pf tb tmps st t xt v w
     |_=>.bad
    |.copy=>match c.argTypes.toList with
     |[t,xt]=>HC tb st t xt v w
     |_=>.bad
    |.delete=>match c.argTypes.toList with
     |t::_=>IR tb st t v w
     |_=>.bad
    |_=>.bad
   |some [v]=>match b with
    |.clear=>match c.argTypes.toList with
     |[t]=>Fv tb st t v
     |_=>.bad
    |_=>.bad
   |_=>.bad
  |_=>.bad
noncomputable def Cd(tb:Tab)(tmps:Tm)(st:St)(o:Op):Eff2:=
 Op.rec (motive:=fun _=>Eff2)
  (fun _=>.bad)
  (fun _=>.bad)
  (fun _ _ _=>.bad)
  (fun _=>.bad)
  (fun _ _=>.bad)
  (fun _ _=>.bad)
  (fun _ _ _=>.bad)
  (fun t m k x=>OP tb tmps st t m k x)
  (fun _ _=>.bad)
  (fun t x y=>Lf tb tmps st t x y)
  (fun _=>.bad)
  (fun _=>.bad)
  (fun _=>.bad)
  (fun op t x y _=>Rj tb tmps st op t x y)
  (fun _ _ _=>.bad)
  (fun src dst x=>OM tb tmps st src dst x)
  (fun _ _=>.bad)
  (fun _ _=>.bad)
  (fun _ _ _=>.bad)
  (fun t r=>O5 tb tmps st t r)
  (fun _ _=>.bad)
  (fun t n c=>Ns tb tmps st t n c)
  (fun _ _ _ _ _=>.bad)
  (fun _ _ _=>.bad)
  (fun _ _ _=>.bad)
  (fun _ _ _=>.bad)
  (fun _ _ _=>.bad)
  (fun _ _ _ _=>.bad)
  (fun t m k x=>Ry tb tmps st t m k x)
  (fun t m k=>Re tb tmps st t m k)
  (fun _ m s x=>MI tb tmps st m s x)
  (fun t x=>L0 tb tmps st t x)
  (fun x s=>LG tb tmps st x s)
  (fun x=>Lh tb tmps st x)
  (fun _ _ _ _=>.bad)
  (fun _ _=>.bad)
  (fun c=>Mx tb tmps st c)
  (fun _=>.bad)
  (fun _=>.bad)
  (fun _=>.bad)
  (fun _ _=>.bad)
  (fun _ _ _=>.bad)
  (fun _ _=>.bad)
  o
theorem aN0(tb:Tab)(tmps:Tm)(st:St)(o:Op):Cd tb tmps st o=(match o with
 |.makeSlice t n c=>Ns tb tmps st t n c
 |.makeMap t r=>O5 tb tmps st t r
 |.mapUpdate t m k x=>Ry tb tmps st t m k x
 |.insert t m k x=>OP tb tmps st t m k x
 |.mapEntry t m k=>Re tb tmps st t m k
 |.entryStore _ m s x=>MI tb tmps st m s x
 |.range t x=>L0 tb tmps st t x
 |.next x s=>LG tb tmps st x s
 |.entry x=>Lh tb tmps st x
 |.binOp op t x y _=>Rj tb tmps st op t x y
 |.convert src dst x=>OM tb tmps st src dst x
 |.call c=>Mx tb tmps st c
 |.store t x y=>Lf tb tmps st t x y
 |_=>.bad):=by cases o<;>rfl
structure Node where
 listed:Nat
 left:Nat
 tmps:Tm
 st:St
 deriving Inhabited
abbrev aL:=Option (List Out)
abbrev eU:=Tm->St->aL
structure Info where
 wait:Nat
 reads:Nat
 dst:Nat
inductive Task where
 |code (g:FuncId) (c:Code)
 |rounds (g:FuncId) (c:Code)
 |call (f:FuncId) (args:List SV)
 |draw (all:List Oper) (n:Nat)
 |layer (all:List Oper) (infos:List Info) (l:List Node)
def gK(a b:aL):aL:=
 match a with
 |some l=>match b with
  |some m=>some (l++m)
  |none=>none
 |none=>none
def j9:List Edge->Nat
 |[]=>0
 |e::es=>match Region.binds .any e with
  |true=>Nat.lor (Nat.pow 2 e.on) (j9 es)
  |false=>j9 es
def oR:List Operand->Nat
 |[]=>0
 |x::xs=>match x with
  |.tmp t=>Nat.lor (Nat.pow 2 t) (oR xs)
  |_=>oR xs
def Gb(all:List Oper)(j:Nat):Option Tmp:=match dF all j with | some o=>o.dst | none=>none
def HV:Option Tmp->Nat
 |some t=>Nat.pow 2 t
 |none=>0
def af7(all:List Oper)(o:Oper):Nat:=
 match o.guard with
 |some (j,_)=>HV (Gb all j)
 |none=>0
def bS(all:List Oper)(o:Oper):Info:=
 ⟨j9 o.after.toList,Nat.lor (af7 all o) (oR o.op.operands.toList),HV o.dst⟩
def aP(all:List Oper):List Oper->List Info
 |[]=>[]
 |o::os=>bS all o::aP all os
def fT(listed:Nat):List Oper->List Info->Nat->List (Nat×Oper×Info)
 |o::os,m::ms,i=>match Nat.testBit listed i with
  |true=>fT listed os ms (Nat.succ i)
  |false=>match Nat.beq (Nat.land m.wait listed) m.wait with
   |true=>(i,o,m)::fT listed os ms (Nat.succ i)
   |false=>fT listed os ms (Nat.succ i)
 |_,_,_=>[]
def nG(listed i:Nat)(x:Info):List Info->Nat->Bool
 |[],_=>true
 |m::ms,j=>match Nat.testBit listed j with
  |true=>nG listed i x ms (Nat.succ j)
  |false=>match Nat.beq i j with
   |true=>nG listed i x ms (Nat.succ j)
   |false=>match Nat.testBit m.wait i with
    |true=>nG listed i x ms (Nat.succ j)
    |false=>match Nat.beq (Nat.land x.dst m.reads) 0 with
     |true=>match Nat.beq (Nat.land x.dst m.dst) 0 with
      |true=>match Nat.beq (Nat.land m.dst x.reads) 0 with
       |true=>nG listed i x ms (Nat.succ j)
       |false=>false
      |false=>false
     |false=>false
def DV(tb:Tab)(tmps:Tm)(c:Call):Option (FuncId×List SV):=
 match c.callee with
 |.value f=>match bn tmps f,ka (bn tmps) c.args.toList with
  |some (.func (.func f) fi ca),some vs=>match tb.fn.get f with
   |some fn=>match fn.body with
    |some _=>some (f,fi++(vs++ca))
    |none=>none
   |none=>none
  |_,_=>none
 |_=>none
inductive Want where
 |yes | no | bad | ask (slot:Tmp) (e:E) (want:Bool)
def x8(all:List Oper)(tmps:Tm)(o:Oper):Want:=
 match o.guard with
 |none=>.yes
 |some (j,want)=>match Gb all j with
  |some t=>match tmps.get t with
   |some (.bool e)=>match e with
    |.bool b=>match om b want with | true=>.yes | false=>.no
    |_=>.ask t e want
   |some .junk=>.bad
   |_=>.no
  |none=>.no
def ey{J:Type}(tmps:Tm)(d:Option Tmp)(v:SV)(k:Tm->J):J:=
 match d with
 |none=>k tmps
 |some t=>T.setK tmps t v k
def lC(tb:Tab)(st:St)(tmps:Tm):List ResultVar->Option (List SV)
 |[]=>some []
 |.tmp t::rs=>match lC tb st tmps rs with
  |some l=>match tmps.get t with
   |some v=>match v with
    |.junk=>none
    |_=>some (v::l)
   |none=>some (.undef::l)
  |none=>none
 |.cell a t::rs=>match tmps.get a with
  |some x=>match wk tb st t x,lC tb st tmps rs with
   |some v,some l=>some (v::l)
   |_,_=>none
  |none=>none
def vu:List SV->SV
 |[v]=>v
 |vs=>.tup vs
def Q1:Fn->Fn->Bool
 |.func a,.func b=>Nat.beq a b
 |_,_=>false
mutual
def SV.beq:SV->SV->Bool
 |.int k e,.int k' e'=>eG k k'&&e.beq e'
 |.bool e,.bool e'=>e.beq e'
 |.str e,.str e'=>e.beq e'
 |.nilp,.nilp | .nils,.nils | .nilm,.nilm | .nili,.nili | .nilf,.nilf=>true
 |.ptr b o,.ptr b' o'=>Nat.beq b b'&&Nat.beq o.base o'.base&&Nat.beq o.scale o'.scale&&o.idx.beq o'.idx
 |.slice b o l c,.slice b' o' l' c'=>Nat.beq b b'&&Nat.beq o.base o'.base&&Nat.beq o.scale o'.scale&&o.idx.beq o'.idx&&l.beq l'&&c.beq c'
 |.map b,.map b'=>Nat.beq b b'
 |.nslice b l c,.nslice b' l' c'=>Nat.beq b b'&&l.beq l'&&c.beq c'
 |.bsl ks e,.bsl ks' e'=>fJ ks ks'&&e.beq e'
 |.bptr ks e i j,.bptr ks' e' i' j'=>fJ ks ks'&&e.beq e'&&i.beq i'&&Nat.beq j j'
 |.func fn fi ca,.func fn' fi' ca'=>Q1 fn fn'&&SV.beqs fi fi'&&SV.beqs ca ca'
 |.agg cs,.agg cs'=>SV.beqs cs cs'
 |.tup cs,.tup cs'=>SV.beqs cs cs'
 |.junk,.junk=>true
 |.nsl b ks e i c,.nsl b' ks' e' i' c'=>Nat.beq b b'&&fJ ks ks'&&e.beq e'&&i.beq i'&&Nat.beq c c'
 |.nptr b ks e i c x j,.nptr b' ks' e' i' c' x' j'=>Nat.beq b b'&&fJ ks ks'&&e.beq e'&&i.beq i'&&Nat.beq c c'&&x.beq x'&&Nat.beq j j'
 |_,_=>false
def SV.beqs:List SV->List SV->Bool
 |[],[]=>true
 |x::xs,y::ys=>x.beq y&&SV.beqs xs ys
 |_,_=>false
end
def xK:List Ent->List Ent->Bool
 |[],[]=>true
 |x::xs,y::ys=>x.k.beq y.k&&(x.v.beq y.v&&(x.born.beq y.born&&xK xs ys))
 |_,_=>false
def XC:Option E->Option E->Bool
 |none,none=>true
 |some a,some b=>a.beq b
 |_,_=>false
def SObj.beq:SObj->SObj->Bool
 |.gone,.gone=>true
 |.cells cs t e,.cells cs' t' e'=>Nat.beq e e'&&t.beq t'&&SV.beqs cs cs'
 |.flat ks l n t e,.flat ks' l' n' t' e'=>Nat.beq e e'&&l.beq l'&&n.beq n'&&t.beq t'&&fJ ks ks'
 |.map es c,.map es' c'=>c.beq c'&&xK es es'
 |.mapl k c e,.mapl k' c' e'=>eG k k'&&c.beq c'&&e.beq e'
 |.maplp k c e ke s,.maplp k' c' e' ke' s'=>eG k k'&&c.beq c'&&e.beq e'&&ke.beq ke'&&s.beq s'
 |.iter k c e n u,.iter k' c' e' n' u'=>eG k k'&&c.beq c'&&e.beq e'&&n.beq n'&&XC u u'
 |.nest ks l n t e,.nest ks' l' n' t' e'=>Nat.beq e e'&&l.beq l'&&n.beq n'&&t.beq t'&&fJ ks ks'
 |_,_=>false
def T.beq{G:Type}(f:G->G->Bool):T G->T G->Bool
 |.nil,.nil=>true
 |.node v l r,.node v' l' r'=>f v v'&&T.beq f l l'&&T.beq f r r'
 |_,_=>false
def Blk.beq(x y:Blk):Bool:=om x.own y.own&&x.obj.beq y.obj
def yh:List E->List E->Bool
 |[],[]=>true
 |x::xs,y::ys=>x.beq y&&yh xs ys
 |_,_=>false
def St.beq(a b:St):Bool:=Nat.beq a.nv b.nv&&Nat.beq a.nb b.nb&&yh a.pc b.pc&&T.beq Blk.beq a.heap b.heap
def Node.beq(a b:Node):Bool:=
 Nat.beq a.listed b.listed&&Nat.beq a.left b.left&&T.beq SV.beq a.tmps b.tmps&&a.st.beq b.st
def CP:List Node->Node->Bool
 |[],_=>false
 |x::xs,n=>match x.beq n with | true=>true | false=>CP xs n
def l6{J:Type}(P:Program)(tb:Tab)(all:List Oper)(infos:List Info):List Oper->List Info->Nat->Nat->Nat->Tm->(Nat->Nat->Tm->J)->J
 |o::os,m::ms,i,listed,left,tmps,k=>
  match Nat.testBit listed i with
  |true=>l6 P tb all infos os ms (Nat.succ i) listed left tmps k
  |false=>match Nat.beq (Nat.land m.wait listed) m.wait with
   |true=>match left with
    |0=>k listed left tmps
    |left'+1=>match x8 all tmps o with
     |.yes=>match tG P tb (bn tmps) o.op with
      |some v=>match nG listed i m infos 0 with
       |true=>ey tmps o.dst v fun tmps=>fB (Nat.lor (Nat.pow 2 i) listed) fun listed=>l6 P tb all infos os ms (Nat.succ i) listed left' tmps k
       |false=>l6 P tb all infos os ms (Nat.succ i) listed left tmps k
      |none=>l6 P tb all infos os ms (Nat.succ i) listed left tmps k
     |.no=>match nG listed i m infos 0 with
      |true=>ey tmps o.dst .undef fun tmps=>fB (Nat.lor (Nat.pow 2 i) listed) fun listed=>l6 P tb all infos os ms (Nat.succ i) listed left' tmps k
      |false=>l6 P tb all infos os ms (Nat.succ i) listed left tmps k
     |_=>l6 P tb all infos os ms (Nat.succ i) listed left tmps k
   |false=>l6 P tb all infos os ms (Nat.succ i) listed left tmps k
 |_,_,_,listed,left,tmps,k=>k listed left tmps
def xq(acc:List Node)(x:Node):List Node:=match CP acc x with | true=>acc | false=>x::acc
def ph(P:Program)(tb:Tab)(all:List Oper)(infos:List Info)(listed left:Nat):List Out->List Node->List Node
 |[],acc=>acc
 |o::os,acc=>l6 P tb all infos all infos 0 listed left o.tmps fun listed' left' tmps=>
  ph P tb all infos listed left os (xq acc ⟨listed',left',tmps,o.st⟩)
def uo(_:String):aL:=none
def JU(_:String)(_:St)(_:E):aL:=none
abbrev bQ:=Task->Tm->St->(Out->aL)->aL
def aHv(o:Op):String:=
 match o with
 |.load _ _=> "load" | .store _ _ _=> "store" | .move _=> "move" | .assign _=> "assign" | .pick _ _ _=> "pick" | .nilCheck _=> "nilCheck" | .binOp _ _ _ _ _=> "binOp" | .unOp _ _ _=> "unOp" | .convert _ _ _=> "convert"
 |.fieldAddr _ _ _=> "fieldAddr" | .field _ _ _=> "field" | .indexAddr _ _ _=> "indexAddr" | .index _ _ _=> "index" | .extract _ _=> "extract" | .build _ _=> "build" | .makeFunc _ _ _=> "makeFunc" | .slice _ _ _ _ _=> "slice"
 |.box _ _=> "box" | .alloc _=> "alloc" | .buildSlice _ _ _=> "buildSlice" | .insert _ _ _ _=> "insert" | .ready _=> "ready" | .waits _=> "waits" | .sliceToArrayPointer _ _=> "sliceToArrayPointer" | .makeInterface _ _=> "makeInterface" | .makeMap _ _=> "makeMap" | .makeChan _ _=> "makeChan" | .makeSlice _ _ _=> "makeSlice" | .lookup _ _ _ _=> "lookup" | .mapUpdate _ _ _ _=> "mapUpdate" | .mapEntry _ _ _=> "mapEntry" | .entryStore _ _ _ _=> "entryStore" | .range _ _=> "range" | .next _ _=> "next" | .entry _=> "entry" | .typeAssert _ _ _ _=> "typeAssert" | .call _=> "call" | _=> "other"
def Blk.same(x y:Blk):Bool:=
 match x.obj with
 |.iter _ _ _ _ _=>false
 |_=>x.beq y
def jX:T Blk->T Blk->Bool
 |.nil,_=>true
 |.node v l r,.node v' l' r'=>match Blk.same v v' with
  |true=>match jX l l' with
   |true=>jX r r'
   |false=>false
  |false=>false
 |_,_=>false
mutual
def SV.plain:SV->Bool
 |.bsl _ _ | .bptr _ _ _ _ | .nsl _ _ _ _ _ | .nptr _ _ _ _ _ _ _=>false
 |.func _ fi ca=>SV.plains fi&&SV.plains ca
 |.agg cs | .tup cs=>SV.plains cs
 |_=>true
def SV.plains:List SV->Bool
 |[]=>true
 |v::vs=>v.plain&&SV.plains vs
end
structure Sub where
 n0:Nat
 es:List E
 b0:Nat
 bs:List Nat
def IJ(n0:Nat)(es:List E)(i:Nat):E:=
 match Nat.blt i n0 with
 |true=>.var i
 |false=>match dF es (Nat.sub i n0)with
  |some e=>e
  |none=>.var i
def Iz:E->Nat->Option E
 |.fn 23 (.pr x r),n=>match n with
  |0=>some x
  |n+1=>Iz r n
 |_,_=>none
def H0(f:Nat)(a:E):E:=
 match f with
 |0=>iY a
 |6=>match a with
  |.pr (.int x) (.int y)=>.int (x+y)
  |_=>.fn f a
 |7=>match a with
  |.pr (.int x) (.int y)=>.int (x-y)
  |_=>.fn f a
 |1=>match a with
  |.pr l (.int (.ofNat n))=>match Iz l n with
   |some e=>e
   |none=>.fn f a
  |_=>.fn f a
 |_=>.fn f a
def Fl(a:E):E:=
 match a with
 |.bool b=>.bool (!b)
 |_=>.not a
noncomputable def E.sub(n0:Nat)(es:List E)(e:E):E:=
 E.rec (motive:=fun _=>E)
  (fun n=>.int n)
  (fun b=>.bool b)
  (fun s=>.str s)
  (fun i=>IJ n0 es i)
  (fun o k _ _ ia ib=>jh o k ia ib)
  (fun o _ _ ia ib=>aF o ia ib)
  (fun _ _ ia ib=>tY ia ib)
  (fun _ _ ia ib=>qc ia ib)
  (fun k _ ia=>t7 k ia)
  (fun _ ia=>Fl ia)
  (fun _ _ ia ib=>.and ia ib)
  (fun _ _ ia ib=>oq ia ib)
  (fun _ _ ia ib=>.iff ia ib)
  (fun _ _ ia ib=>.imp ia ib)
  (fun f _ ia=>H0 f ia)
  (fun _ _ ia ib=>.pr ia ib)
  e
theorem E.sub_eq_int(n0:Nat)(es:List E)(n:Int):(E.int n).sub n0 es=.int n:=rfl
theorem E.sub_eq_bool(n0:Nat)(es:List E)(b:Bool):(E.bool b).sub n0 es=.bool b:=rfl
theorem E.sub_eq_str(n0:Nat)(es:List E)(s:ByteArray):(E.str s).sub n0 es=.str s:=rfl
theorem E.sub_eq_var(n0:Nat)(es:List E)(i:Nat):(E.var i).sub n0 es=IJ n0 es i:=rfl
theorem E.sub_eq_ar(n0:Nat)(es:List E)(o:BinOp)(k:IntKind)(a:E)(b:E):(E.ar o k a b).sub n0 es=jh o k (a.sub n0 es) (b.sub n0 es):=rfl
theorem E.sub_eq_cmp(n0:Nat)(es:List E)(o:BinOp)(a:E)(b:E):(E.cmp o a b).sub n0 es=aF o (a.sub n0 es) (b.sub n0 es):=rfl
theorem E.sub_eq_mn(n0:Nat)(es:List E)(a:E)(b:E):(E.mn a b).sub n0 es=tY (a.sub n0 es) (b.sub n0 es):=rfl
theorem E.sub_eq_mx(n0:Nat)(es:List E)(a:E)(b:E):(E.mx a b).sub n0 es=qc (a.sub n0 es) (b.sub n0 es):=rfl
theorem E.sub_eq_wr(n0:Nat)(es:List E)(k:IntKind)(a:E):(E.wr k a).sub n0 es=t7 k (a.sub n0 es):=rfl
theorem E.sub_eq_not(n0:Nat)(es:List E)(a:E):(E.not a).sub n0 es=Fl (a.sub n0 es):=rfl
theorem E.sub_eq_and(n0:Nat)(es:List E)(a:E)(b:E):(E.and a b).sub n0 es=.and (a.sub n0 es) (b.sub n0 es):=rfl
theorem E.sub_eq_seq(n0:Nat)(es:List E)(a:E)(b:E):(E.seq a b).sub n0 es=oq (a.sub n0 es) (b.sub n0 es):=rfl
theorem E.sub_eq_iff(n0:Nat)(es:List E)(a:E)(b:E):(E.iff a b).sub n0 es=.iff (a.sub n0 es) (b.sub n0 es):=rfl
theorem E.sub_eq_imp(n0:Nat)(es:List E)(a:E)(b:E):(E.imp a b).sub n0 es=.imp (a.sub n0 es) (b.sub n0 es):=rfl
theorem E.sub_eq_fn(n0:Nat)(es:List E)(f:Nat)(a:E):(E.fn f a).sub n0 es=H0 f (a.sub n0 es):=rfl
theorem E.sub_eq_pr(n0:Nat)(es:List E)(a:E)(b:E):(E.pr a b).sub n0 es=.pr (a.sub n0 es) (b.sub n0 es):=rfl
def bR(b0:Nat)(bs:List Nat)(i:Nat):Nat:=
 match Nat.blt i b0 with
 |true=>i
 |false=>match dF bs (Nat.sub i b0)with
  |some j=>j
  |none=>i
def Off.sub(n0:Nat)(es:List E)(o:Off):Off:=⟨o.base,o.scale,o.idx.sub n0 es⟩
mutual
def SV.sub(z:Sub):SV->SV
 |.int k e=>.int k (e.sub z.n0 z.es)
 |.bool e=>.bool (e.sub z.n0 z.es)
 |.str e=>.str (e.sub z.n0 z.es)
 |.ptr b o=>.ptr (bR z.b0 z.bs b) (o.sub z.n0 z.es)
 |.slice b o l c=>.slice (bR z.b0 z.bs b) (o.sub z.n0 z.es) (l.sub z.n0 z.es) (c.sub z.n0 z.es)
 |.nslice b l c=>.nslice (bR z.b0 z.bs b) (l.sub z.n0 z.es) (c.sub z.n0 z.es)
 |.bsl ks e=>.bsl ks (e.sub z.n0 z.es)
 |.bptr ks e i j=>.bptr ks (e.sub z.n0 z.es) (i.sub z.n0 z.es) j
 |.nsl b ks e i c=>.nsl (bR z.b0 z.bs b) ks (e.sub z.n0 z.es) (i.sub z.n0 z.es) c
 |.nptr b ks e i c x j=>.nptr (bR z.b0 z.bs b) ks (e.sub z.n0 z.es) (i.sub z.n0 z.es) c (x.sub z.n0 z.es) j
 |.map b=>.map (bR z.b0 z.bs b)
 |.func fn fi ca=>.func fn (SV.subs z fi) (SV.subs z ca)
 |.agg cs=>.agg (SV.subs z cs)
 |.tup cs=>.tup (SV.subs z cs)
 |.nilp=>.nilp
 |.nils=>.nils
 |.nilm=>.nilm
 |.nili=>.nili
 |.nilf=>.nilf
 |.junk=>.junk
def SV.subs(z:Sub):List SV->List SV
 |[]=>[]
 |v::vs=>v.sub z::SV.subs z vs
end
def yD(z:Sub):List Ent->List Ent
 |[]=>[]
 |x::es=>⟨x.k.sub z,x.v.sub z,x.born.sub z.n0 z.es⟩::yD z es
def SObj.sub(z:Sub):SObj->SObj
 |.gone=>.gone
 |.cells cs tot elem=>.cells (SV.subs z cs) (tot.sub z.n0 z.es) elem
 |.flat ks l n tot elem=>.flat ks (l.sub z.n0 z.es) (n.sub z.n0 z.es) (tot.sub z.n0 z.es) elem
 |.map es c=>.map (yD z es) (c.sub z.n0 z.es)
 |.mapl k c e=>.mapl k c (e.sub z.n0 z.es)
 |.maplp k c e ke s=>.maplp k c (e.sub z.n0 z.es) (ke.sub z.n0 z.es) (s.sub z.n0 z.es)
 |.nest ks l n tot elem=>.nest ks (l.sub z.n0 z.es) (n.sub z.n0 z.es) (tot.sub z.n0 z.es) elem
 |.iter k c e n u=>.iter k c (e.sub z.n0 z.es) (n.sub z.n0 z.es) (match u with | none=>none | some x=>some (x.sub z.n0 z.es))
def zQ(k:IntKind)(c:CK):List Ent->Option (List E)
 |[]=>some []
 |x::es=>match x.k with
  |.int k' ke=>match eG k' k,lQ c x.v with
   |true,some ve=>match zQ k c es with
    |some l=>some (.pr ke ve::l)
    |none=>none
   |_,_=>none
  |_=>none
def LW(ks r:List CK):List CK:=match r with | []=>ks | x::xs=>x::xs
def akm(l:List CK):Option CK:=match l with | []=>none | c::_=>some c
def ax8(l:List CK):List CK:=match l with | []=>[] | _::r=>r
def DC(ks:List CK):List SV->List CK->Option (List E)
 |[],_=>some []
 |v::vs,r=>match akm (LW ks r)with
  |none=>none
  |some c=>match lQ c v with
   |some e=>match DC ks vs (ax8 (LW ks r))with
    |some l=>some (e::l)
    |none=>none
   |none=>none
def S2(w:Nat)(tot:E):Option E:=
 match w with
 |1=>some tot
 |w=>match tot with
  |.fn 8 (.pr c (.int (.ofNat m)))=>match Nat.beq m w with
   |true=>some c
   |false=>none
  |.int (.ofNat t)=>match Nat.beq (Nat.mul (Nat.div t w) w) t with
   |true=>some (.int (.ofNat (Nat.div t w)))
   |false=>none
  |_=>none
def xZ(p x:SObj):Option SObj:=
 match p with
 |.mapl k c _=>match x with
  |.map es _=>match zQ k c es with
   |some l=>some (.mapl k c (jG l))
   |none=>none
  |_=>none
 |.iter _ _ _ _ u=>match u with
  |none=>match x with
   |.iter k c e n _=>some (.iter k c e n none)
   |_=>none
  |some _=>none
 |.nest ks _ _ _ _=>match x with
  |.flat ks' l n tot elem=>match fJ ks ks'&&Nat.beq (aM ks) 1 with
   |true=>match l with
    |.fn 5 (.pr _ (.fn 30 _))=>some (.nest ks' l n tot elem)
    |_=>none
   |false=>none
  |_=>none
 |.flat ks _ _ _ _=>match x with
  |.cells cs tot elem=>match DC ks cs [],S2 (aM ks) tot with
   |some l,some t=>match l with
    |[]=>match t with
     |.int (.ofNat m)=>match Nat.blt 0 (aM ks)with
      |true=>some (.flat ks (.fn 10 (.int 0)) (.int 0) (.int (.ofNat m)) elem)
      |false=>none
     |_=>none
    |_=>match Nat.beq (Nat.mul (Nat.div (aM cs) (aM ks)) (aM ks)) (aM cs)with
     |true=>some (.flat ks (jG l) (.int (.ofNat (Nat.div (aM cs) (aM ks)))) t elem)
     |false=>none
   |_,_=>none
  |_=>none
 |_=>none
def ada:E->Option Nat
 |.fn 23 (.pr _ r)=>match ada r with
  |some n=>some (Nat.succ n)
  |none=>none
 |.fn 10 _=>some 0
 |_=>none
def aaj(e:E):E->E
 |.fn 23 (.pr x r)=>.fn 23 (.pr x (aaj e r))
 |_=>.fn 23 (.pr e (.fn 10 (.int 0)))
def S4(y e:E):Nat->Nat->E
 |0,_=>.fn 23 (.pr e (.fn 10 (.int 0)))
 |n+1,j=>.fn 23 (.pr (.fn 1 (.pr y (.int (.ofNat j)))) (S4 y e n (Nat.succ j)))
def aAy:E->Nat->Option E
 |.fn 1 (.pr y (.int (.ofNat k))),j=>match Nat.beq k j with
  |true=>some y
  |false=>none
 |_,_=>none
def ayx(cur:E)(j:Nat)(e:E):E:=
 match ada cur with
 |some n=>match Nat.beq n j with
  |true=>aaj e cur
  |false=>cur
 |none=>match aAy e j with
  |some y=>match y.beq cur with
   |true=>cur
   |false=>match j with
    |0=>y
    |_=>S4 cur e j 0
  |none=>S4 cur e j 0
def aSt(n0 f:Nat)(a:E):Option (Nat×Nat):=
 match f with
 |1=>match a with
  |.pr (.var i) (.int (.ofNat j))=>match Nat.blt i n0 with
   |true=>none
   |false=>some (i,j)
  |_=>none
 |_=>none
def arw(n0 i j:Nat)(e:E)(t:T E):T E:=
 match t.get (Nat.sub i n0)with
 |some cur=>t.set (Nat.sub i n0) (ayx cur j e)
 |none=>t
noncomputable def E.go_ar(b:E)(f:BinOp->IntKind->E->E->T E->T E):T E->T E:=E.rec (motive:=fun _=>T E->T E) (fun _ t=>t) (fun _ t=>t) (fun _ t=>t) (fun _ t=>t) (fun x0 x1 x2 x3 _ _=>f x0 x1 x2 x3) (fun _ _ _ _ _ t=>t) (fun _ _ _ _ t=>t) (fun _ _ _ _ t=>t) (fun _ _ _ t=>t) (fun _ _ t=>t) (fun _ _ _ _ t=>t) (fun _ _ _ _ t=>t) (fun _ _ _ _ t=>t) (fun _ _ _ _ t=>t) (fun _ _ _ t=>t) (fun _ _ _ _ t=>t) b
noncomputable def E.go_fn(b:E)(f:Nat->E->T E->T E):T E->T E:=E.rec (motive:=fun _=>T E->T E) (fun _ t=>t) (fun _ t=>t) (fun _ t=>t) (fun _ t=>t) (fun _ _ _ _ _ _ t=>t) (fun _ _ _ _ _ t=>t) (fun _ _ _ _ t=>t) (fun _ _ _ _ t=>t) (fun _ _ _ t=>t) (fun _ _ t=>t) (fun _ _ _ _ t=>t) (fun _ _ _ _ t=>t) (fun _ _ _ _ t=>t) (fun _ _ _ _ t=>t) (fun x0 x1 _=>f x0 x1) (fun _ _ _ _ t=>t) b
noncomputable def E.go_pr(b:E)(f:E->E->T E->T E):T E->T E:=E.rec (motive:=fun _=>T E->T E) (fun _ t=>t) (fun _ t=>t) (fun _ t=>t) (fun _ t=>t) (fun _ _ _ _ _ _ t=>t) (fun _ _ _ _ _ t=>t) (fun _ _ _ _ t=>t) (fun _ _ _ _ t=>t) (fun _ _ _ t=>t) (fun _ _ t=>t) (fun _ _ _ _ t=>t) (fun _ _ _ _ t=>t) (fun _ _ _ _ t=>t) (fun _ _ _ _ t=>t) (fun _ _ _ t=>t) (fun x0 x1 _ _=>f x0 x1) b
noncomputable def E.go_not(b:E)(f:E->T E->T E):T E->T E:=E.rec (motive:=fun _=>T E->T E) (fun _ t=>t) (fun _ t=>t) (fun _ t=>t) (fun _ t=>t) (fun _ _ _ _ _ _ t=>t) (fun _ _ _ _ _ t=>t) (fun _ _ _ _ t=>t) (fun _ _ _ _ t=>t) (fun _ _ _ t=>t) (fun x0 _=>f x0) (fun _ _ _ _ t=>t) (fun _ _ _ _ t=>t) (fun _ _ _ _ t=>t) (fun _ _ _ _ t=>t) (fun _ _ _ t=>t) (fun _ _ _ _ t=>t) b
noncomputable def ic(n0:Nat)(a:E):E->T E->T E:=
 E.rec (motive:=fun _=>E->T E->T E)
  (fun _ _ t=>t)
  (fun _ _ t=>t)
  (fun _ _ t=>t)
  (fun i e t=>Bool.rec (t.set (Nat.sub i n0) e) t (Nat.blt i n0))
  (fun _ _ _ _ f g e=>e.go_ar fun _ _ a b t=>g b (f a t))
  (fun _ _ _ _ _ _ t=>t)
  (fun _ _ _ _ _ t=>t)
  (fun _ _ _ _ _ t=>t)
  (fun _ _ _ _ t=>t)
  (fun _ f e=>e.go_not fun a t=>f a t)
  (fun _ _ _ _ _ t=>t)
  (fun _ _ _ _ _ t=>t)
  (fun _ _ _ _ _ t=>t)
  (fun _ _ _ _ _ t=>t)
  (fun k a f e=>Option.rec (motive:=fun _=>T E->T E) (e.go_fn fun _ a t=>f a t) (fun p t=>arw n0 p.1 p.2 e t) (aSt n0 k a))
  (fun _ _ f g e=>e.go_pr fun a b t=>g b (f a t))
  a
abbrev G2:=T E×T Nat
noncomputable def SV.go_int(v:SV)(f:E->G2->G2):G2->G2:=SV.rec (motive_1:=fun _=>G2->G2) (motive_2:=fun _=>G2->G2) (fun _ e=>f e) (fun _ g=>g) (fun _ g=>g) (fun g=>g) (fun _ _ g=>g) (fun g=>g) (fun _ _ _ _ g=>g) (fun _ _ _ g=>g) (fun _ _ g=>g) (fun _ _ _ _ g=>g) (fun g=>g) (fun _ g=>g) (fun g=>g) (fun g=>g) (fun _ _ _ _ _ g=>g) (fun _ _ g=>g) (fun _ _ g=>g) (fun g=>g) (fun _ _ _ _ _ g=>g) (fun _ _ _ _ _ _ _ g=>g) (fun g=>g) (fun _ _ _ _ g=>g) v
noncomputable def SV.go_bool(v:SV)(f:E->G2->G2):G2->G2:=SV.rec (motive_1:=fun _=>G2->G2) (motive_2:=fun _=>G2->G2) (fun _ _ g=>g) (fun e=>f e) (fun _ g=>g) (fun g=>g) (fun _ _ g=>g) (fun g=>g) (fun _ _ _ _ g=>g) (fun _ _ _ g=>g) (fun _ _ g=>g) (fun _ _ _ _ g=>g) (fun g=>g) (fun _ g=>g) (fun g=>g) (fun g=>g) (fun _ _ _ _ _ g=>g) (fun _ _ g=>g) (fun _ _ g=>g) (fun g=>g) (fun _ _ _ _ _ g=>g) (fun _ _ _ _ _ _ _ g=>g) (fun g=>g) (fun _ _ _ _ g=>g) v
noncomputable def SV.go_str(v:SV)(f:E->G2->G2):G2->G2:=SV.rec (motive_1:=fun _=>G2->G2) (motive_2:=fun _=>G2->G2) (fun _ _ g=>g) (fun _ g=>g) (fun e=>f e) (fun g=>g) (fun _ _ g=>g) (fun g=>g) (fun _ _ _ _ g=>g) (fun _ _ _ g=>g) (fun _ _ g=>g) (fun _ _ _ _ g=>g) (fun g=>g) (fun _ g=>g) (fun g=>g) (fun g=>g) (fun _ _ _ _ _ g=>g) (fun _ _ g=>g) (fun _ _ g=>g) (fun g=>g) (fun _ _ _ _ _ g=>g) (fun _ _ _ _ _ _ _ g=>g) (fun g=>g) (fun _ _ _ _ g=>g) v
noncomputable def SV.go_ptr(v:SV)(f:Nat->Off->G2->G2):G2->G2:=SV.rec (motive_1:=fun _=>G2->G2) (motive_2:=fun _=>G2->G2) (fun _ _ g=>g) (fun _ g=>g) (fun _ g=>g) (fun g=>g) (fun b o=>f b o) (fun g=>g) (fun _ _ _ _ g=>g) (fun _ _ _ g=>g) (fun _ _ g=>g) (fun _ _ _ _ g=>g) (fun g=>g) (fun _ g=>g) (fun g=>g) (fun g=>g) (fun _ _ _ _ _ g=>g) (fun _ _ g=>g) (fun _ _ g=>g) (fun g=>g) (fun _ _ _ _ _ g=>g) (fun _ _ _ _ _ _ _ g=>g) (fun g=>g) (fun _ _ _ _ g=>g) v
noncomputable def SV.go_slice(v:SV)(f:Nat->Off->E->E->G2->G2):G2->G2:=SV.rec (motive_1:=fun _=>G2->G2) (motive_2:=fun _=>G2->G2) (fun _ _ g=>g) (fun _ g=>g) (fun _ g=>g) (fun g=>g) (fun _ _ g=>g) (fun g=>g) (fun b o l c=>f b o l c) (fun _ _ _ g=>g) (fun _ _ g=>g) (fun _ _ _ _ g=>g) (fun g=>g) (fun _ g=>g) (fun g=>g) (fun g=>g) (fun _ _ _ _ _ g=>g) (fun _ _ g=>g) (fun _ _ g=>g) (fun g=>g) (fun _ _ _ _ _ g=>g) (fun _ _ _ _ _ _ _ g=>g) (fun g=>g) (fun _ _ _ _ g=>g) v
noncomputable def SV.go_nslice(v:SV)(f:Nat->E->E->G2->G2):G2->G2:=SV.rec (motive_1:=fun _=>G2->G2) (motive_2:=fun _=>G2->G2) (fun _ _ g=>g) (fun _ g=>g) (fun _ g=>g) (fun g=>g) (fun _ _ g=>g) (fun g=>g) (fun _ _ _ _ g=>g) (fun b l c=>f b l c) (fun _ _ g=>g) (fun _ _ _ _ g=>g) (fun g=>g) (fun _ g=>g) (fun g=>g) (fun g=>g) (fun _ _ _ _ _ g=>g) (fun _ _ g=>g) (fun _ _ g=>g) (fun g=>g) (fun _ _ _ _ _ g=>g) (fun _ _ _ _ _ _ _ g=>g) (fun g=>g) (fun _ _ _ _ g=>g) v
noncomputable def SV.go_bsl(v:SV)(f:E->G2->G2):G2->G2:=SV.rec (motive_1:=fun _=>G2->G2) (motive_2:=fun _=>G2->G2) (fun _ _ g=>g) (fun _ g=>g) (fun _ g=>g) (fun g=>g) (fun _ _ g=>g) (fun g=>g) (fun _ _ _ _ g=>g) (fun _ _ _ g=>g) (fun _ e=>f e) (fun _ _ _ _ g=>g) (fun g=>g) (fun _ g=>g) (fun g=>g) (fun g=>g) (fun _ _ _ _ _ g=>g) (fun _ _ g=>g) (fun _ _ g=>g) (fun g=>g) (fun _ _ _ _ _ g=>g) (fun _ _ _ _ _ _ _ g=>g) (fun g=>g) (fun _ _ _ _ g=>g) v
noncomputable def SV.go_bptr(v:SV)(f:E->E->G2->G2):G2->G2:=SV.rec (motive_1:=fun _=>G2->G2) (motive_2:=fun _=>G2->G2) (fun _ _ g=>g) (fun _ g=>g) (fun _ g=>g) (fun g=>g) (fun _ _ g=>g) (fun g=>g) (fun _ _ _ _ g=>g) (fun _ _ _ g=>g) (fun _ _ g=>g) (fun _ e i _=>f e i) (fun g=>g) (fun _ g=>g) (fun g=>g) (fun g=>g) (fun _ _ _ _ _ g=>g) (fun _ _ g=>g) (fun _ _ g=>g) (fun g=>g) (fun _ _ _ _ _ g=>g) (fun _ _ _ _ _ _ _ g=>g) (fun g=>g) (fun _ _ _ _ g=>g) v
noncomputable def SV.go_map(v:SV)(f:Nat->G2->G2):G2->G2:=SV.rec (motive_1:=fun _=>G2->G2) (motive_2:=fun _=>G2->G2) (fun _ _ g=>g) (fun _ g=>g) (fun _ g=>g) (fun g=>g) (fun _ _ g=>g) (fun g=>g) (fun _ _ _ _ g=>g) (fun _ _ _ g=>g) (fun _ _ g=>g) (fun _ _ _ _ g=>g) (fun g=>g) (fun b=>f b) (fun g=>g) (fun g=>g) (fun _ _ _ _ _ g=>g) (fun _ _ g=>g) (fun _ _ g=>g) (fun g=>g) (fun _ _ _ _ _ g=>g) (fun _ _ _ _ _ _ _ g=>g) (fun g=>g) (fun _ _ _ _ g=>g) v
noncomputable def SV.go_func(v:SV)(f:List SV->List SV->G2->G2):G2->G2:=SV.rec (motive_1:=fun _=>G2->G2) (motive_2:=fun _=>G2->G2) (fun _ _ g=>g) (fun _ g=>g) (fun _ g=>g) (fun g=>g) (fun _ _ g=>g) (fun g=>g) (fun _ _ _ _ g=>g) (fun _ _ _ g=>g) (fun _ _ g=>g) (fun _ _ _ _ g=>g) (fun g=>g) (fun _ g=>g) (fun g=>g) (fun g=>g) (fun _ fi ca _ _=>f fi ca) (fun _ _ g=>g) (fun _ _ g=>g) (fun g=>g) (fun _ _ _ _ _ g=>g) (fun _ _ _ _ _ _ _ g=>g) (fun g=>g) (fun _ _ _ _ g=>g) v
noncomputable def SV.go_agg(v:SV)(f:List SV->G2->G2):G2->G2:=SV.rec (motive_1:=fun _=>G2->G2) (motive_2:=fun _=>G2->G2) (fun _ _ g=>g) (fun _ g=>g) (fun _ g=>g) (fun g=>g) (fun _ _ g=>g) (fun g=>g) (fun _ _ _ _ g=>g) (fun _ _ _ g=>g) (fun _ _ g=>g) (fun _ _ _ _ g=>g) (fun g=>g) (fun _ g=>g) (fun g=>g) (fun g=>g) (fun _ _ _ _ _ g=>g) (fun cs _=>f cs) (fun _ _ g=>g) (fun g=>g) (fun _ _ _ _ _ g=>g) (fun _ _ _ _ _ _ _ g=>g) (fun g=>g) (fun _ _ _ _ g=>g) v
noncomputable def SV.go_tup(v:SV)(f:List SV->G2->G2):G2->G2:=SV.rec (motive_1:=fun _=>G2->G2) (motive_2:=fun _=>G2->G2) (fun _ _ g=>g) (fun _ g=>g) (fun _ g=>g) (fun g=>g) (fun _ _ g=>g) (fun g=>g) (fun _ _ _ _ g=>g) (fun _ _ _ g=>g) (fun _ _ g=>g) (fun _ _ _ _ g=>g) (fun g=>g) (fun _ g=>g) (fun g=>g) (fun g=>g) (fun _ _ _ _ _ g=>g) (fun _ _ g=>g) (fun cs _=>f cs) (fun g=>g) (fun _ _ _ _ _ g=>g) (fun _ _ _ _ _ _ _ g=>g) (fun g=>g) (fun _ _ _ _ g=>g) v
noncomputable def aQQ(b0 b b':Nat)(t:T Nat):T Nat:=Bool.rec (t.set (Nat.sub b b0) b') t (Nat.blt b b0)
noncomputable def gE(n0:Nat)(e e':E)(g:G2):G2:=(ic n0 e e' g.1,g.2)
noncomputable def gB(b0 b b':Nat)(g:G2):G2:=(g.1,aQQ b0 b b' g.2)
noncomputable def List.goK(l:List SV)(f:SV->List SV->G2->G2):G2->G2:=List.rec (motive:=fun _=>G2->G2) (fun g=>g) (fun v vs _=>f v vs) l
noncomputable def aNj(n0 b0:Nat)(v:SV)(b:Nat)(l c:E):G2->G2:=
 v.go_slice fun b' _ l' c' g=>gE n0 c c' (gE n0 l l' (gB b0 b b' g))
noncomputable def ED(n0 b0:Nat)(v:SV):SV->G2->G2:=
 SV.rec (motive_1:=fun _=>SV->G2->G2) (motive_2:=fun _=>List SV->G2->G2)
  (fun _ e v=>v.go_int fun e' g=>gE n0 e e' g)
  (fun e v=>v.go_bool fun e' g=>gE n0 e e' g)
  (fun e v=>v.go_str fun e' g=>gE n0 e e' g)
  (fun _ g=>g)
  (fun b o v=>v.go_ptr fun b' o' g=>gE n0 o.idx o'.idx (gB b0 b b' g))
  (fun _ g=>g)
  (fun b o l c v=>v.go_slice fun b' o' l' c' g=>gE n0 c c' (gE n0 l l' (gE n0 o.idx o'.idx (gB b0 b b' g))))
  (fun b l c v g=>aNj n0 b0 v b l c (v.go_nslice (fun b' l' c' g=>gE n0 c c' (gE n0 l l' (gB b0 b b' g))) g))
  (fun _ e v=>v.go_bsl fun e' g=>gE n0 e e' g)
  (fun _ e i _ v=>v.go_bptr fun e' i' g=>gE n0 i i' (gE n0 e e' g))
  (fun _ g=>g)
  (fun b v=>v.go_map fun b' g=>gB b0 b b' g)
  (fun _ g=>g) (fun _ g=>g)
  (fun _ _ _ f1 f2 v=>v.go_func fun fi ca g=>f2 ca (f1 fi g))
  (fun _ f v=>v.go_agg fun cs g=>f cs g)
  (fun _ f v=>v.go_tup fun cs g=>f cs g)
  (fun _ g=>g)
  (fun _ _ _ _ _ _ g=>g) (fun _ _ _ _ _ _ _ _ g=>g)
  (fun _ g=>g)
  (fun _ _ f1 f2 l=>List.goK l fun v vs g=>f2 vs (f1 v g)) v
noncomputable def auG(n0 b0:Nat)(vs:List SV):List SV->G2->G2:=
 List.rec (motive:=fun _=>List SV->G2->G2) (fun _ g=>g) (fun v _ f l=>List.goK l fun v' vs' g=>f vs' (ED n0 b0 v v' g)) vs
noncomputable def T.goK(t:T SV)(f:SV->T SV->T SV->G2->G2):G2->G2:=T.rec (motive:=fun _=>G2->G2) (fun g=>g) (fun v l r _ _=>f v l r) t
noncomputable def aKM(n0 b0:Nat)(t:Tm):Tm->G2->G2:=
 T.rec (motive:=fun _=>Tm->G2->G2) (fun _ g=>g) (fun v _ _ f1 f2 t=>T.goK t fun v' l' r' g=>f2 r' (f1 l' (ED n0 b0 v v' g))) t
def aco(n0 b0:Nat):List Ent->List Ent->T E×T Nat->T E×T Nat
 |x::es,y::es',g=>aco n0 b0 es es' (let h:=ED n0 b0 x.v y.v (ED n0 b0 x.k y.k g);(ic n0 x.born y.born h.1,h.2))
 |_,_,g=>g
def EK(n0 b0:Nat)(heap:T Blk):T Blk->Nat->Nat->T E×T Nat->T E×T Nat
 |.nil,_,_,g=>g
 |.node x l r,a,d,g=>
  let j:=match Nat.blt a b0 with | true=>some a | false=>g.2.get (Nat.sub a b0)
  let g:=match j with
   |some j=>match heap.get j with
    |some y=>match x.obj,(match xZ x.obj y.obj with | some o=>o | none=>y.obj)with
     |.mapl _ _ e,.mapl _ _ e'=>(ic n0 e e' g.1,g.2)
     |.iter _ _ e n u,.iter _ _ e' n' u'=>(match u,u' with
      |some x,some x'=>ic n0 x x' (ic n0 n n' (ic n0 e e' g.1))
      |_,_=>ic n0 n n' (ic n0 e e' g.1),g.2)
     |.cells cs t _,.cells cs' t' _=>let g:=auG n0 b0 cs cs' g;(ic n0 t t' g.1,g.2)
     |.nest _ e n t _,.nest _ e' n' t' _=>(ic n0 t t' (ic n0 n n' (ic n0 e e' g.1)),g.2)
     |.flat _ e n t _,.flat _ e' n' t' _=>(ic n0 t t' (ic n0 n n' (ic n0 e e' g.1)),g.2)
     |.map es c,.map es' c'=>let h:=aco n0 b0 es es' g;(ic n0 c c' h.1,h.2)
     |_,_=>g
    |none=>g
   |none=>g
  EK n0 b0 heap r (Nat.add a (Nat.add d d)) (Nat.add d d) (EK n0 b0 heap l (Nat.add a d) (Nat.add d d) g)
def Sc{G:Type}(t:T G)(x:G):Nat->Nat->List G
 |0,_=>[]
 |n+1,i=>(match t.get i with | some y=>y | none=>x)::Sc t x n (Nat.succ i)
def NV(n0 b0:Nat)(tmps:Tm)(st:St)(τ:Tmpl):Sub:=
 let nE:=Nat.sub τ.st.nv n0
 let nB:=Nat.sub τ.st.nb b0
 let g:=EK n0 b0 st.heap τ.st.heap 0 1 (aKM n0 b0 τ.tmps tmps (T.fill (.int 0) 20 nE,T.fill 0 20 nB))
 let g:=EK n0 b0 st.heap τ.st.heap 0 1 g
 ⟨n0,Sc g.1 (.int 0) nE 0,b0,Sc g.2 0 nB 0⟩
def FL(nv:Nat):List E->Bool
 |[]=>true
 |e::es=>match e.scp nv with
  |true=>FL nv es
  |false=>false
def EH(nb:Nat):List Nat->Bool
 |[]=>true
 |b::bs=>match Nat.blt b nb with
  |true=>EH nb bs
  |false=>false
noncomputable def A4(z:Sub)(p v:SV):Bool:=Bool.rec ((p.sub z).beq v) true (isJunk p)
theorem aPr(z:Sub)(p v:SV):A4 z p v=(match p with
 |.junk=>true
 |_=>(p.sub z).beq v):=by cases p<;>rfl
noncomputable def awF(t:Tm):Bool:=T.rec (motive:=fun _=>Bool) true (fun _ _ _ _ _=>false) t
noncomputable def ara(t:Tm)(f:SV->Tm->Tm->Bool):Bool:=T.rec (motive:=fun _=>Bool) false (fun v l r _ _=>f v l r) t
noncomputable def o9(z:Sub)(p:Tm):Tm->Bool:=
 T.rec (motive:=fun _=>Tm->Bool) awF (fun p _ _ fl fr t=>ara t fun v l' r'=>Bool.rec false (Bool.rec false (fr r') (fl l')) (A4 z p v)) p
theorem aWb(z:Sub)(p v:SV)(l r l' r':Tm):o9 z (.node p l r) (.node v l' r')=(match A4 z p v with
  |true=>match o9 z l l' with
   |true=>o9 z r r'
   |false=>false
  |false=>false):=by
 have h:o9 z (.node p l r) (.node v l' r')=Bool.rec (motive:=fun _=>Bool) _ (Bool.rec (motive:=fun _=>Bool) _ _ (o9 z l l')) _:=rfl
 rw[h]
 cases A4 z p v
 ·rfl
 ·cases o9 z l l'<;>rfl
def NG(z:Sub)(p x:SObj):Bool:=
 match p with
 |.gone=>true
 |_=>match xZ p x with
  |some x'=>(p.sub z).beq x'
  |none=>(p.sub z).beq x
def DU(z:Sub)(heap:T Blk)(nb a:Nat)(p:Blk):Bool:=
 match Nat.blt a nb with
 |true=>match p.obj with
  |.gone=>true
  |_=>match heap.get (bR z.b0 z.bs a)with
   |some x=>om p.own x.own&&NG z p.obj x.obj
   |none=>false
 |false=>false
def Cv(z:Sub)(heap:T Blk)(nb:Nat):T Blk->Nat->Nat->Bool
 |.nil,_,_=>true
 |.node p l r,a,d=>match DU z heap nb a p with
  |true=>match Cv z heap nb l (Nat.add a d) (Nat.add d d)with
   |true=>Cv z heap nb r (Nat.add a (Nat.add d d)) (Nat.add d d)
   |false=>false
  |false=>false
def lh:T Blk->Nat->Nat->List Nat->List Nat
 |.nil,_,_,acc=>acc
 |.node p l r,a,d,acc=>
  match p.obj with
  |.gone=>lh r (Nat.add a (Nat.add d d)) (Nat.add d d) (lh l (Nat.add a d) (Nat.add d d) acc)
  |_=>lh r (Nat.add a (Nat.add d d)) (Nat.add d d) (lh l (Nat.add a d) (Nat.add d d) (a::acc))
def xN(z:Sub):List Nat->List Nat
 |[]=>[]
 |i::l=>bR z.b0 z.bs i::xN z l
def Ko(n:Nat):List Nat->Bool
 |[]=>false
 |m::ms=>match Nat.beq n m with
  |true=>true
  |false=>Ko n ms
def KO:List Nat->Bool
 |[]=>true
 |n::ns=>match Ko n ns with
  |true=>false
  |false=>KO ns
inductive Fit where
 |ok (z:Sub)
 |lack (e:E)
 |bad (n:Nat)
def Dm(fs:List E)(z:Sub)(pc:List E):List E->Fit
 |[]=>.ok z
 |e::es=>match dV fs pc (e.sub z.n0 z.es)with
  |some true=>Dm fs z pc es
  |_=>.lack (e.sub z.n0 z.es)
def vd(fs:List E)(n0 b0:Nat)(tmps:Tm)(st:St)(τ:Tmpl):Fit:=
 let z:=NV n0 b0 tmps st τ
 match Nat.beq (Nat.add n0 (aM z.es)) τ.st.nv&&Nat.beq (Nat.add b0 (aM z.bs)) τ.st.nb&&(FL st.nv z.es&&EH st.nb z.bs)with
 |true=>match o9 z τ.tmps tmps with
  |true=>match Cv z st.heap τ.st.nb τ.st.heap 0 1 with
   |true=>match KO (xN z (lh τ.st.heap 0 1 []))with
    |true=>Dm fs z st.pc τ.st.pc
    |false=>.bad 4
   |false=>.bad 3
  |false=>.bad 2
 |false=>.bad 1
noncomputable def T.map{G J:Type}(f:G->J)(t:T G):T J:=T.rec (motive:=fun _=>T J) T.nil (fun v _ _ a b=>T.node (f v) a b) t
def O4:Option Blk->Bool
 |some b=>match b.obj with
  |.cells _ _ _=>true
  |_=>false
 |none=>false
def Ov(o:Off):Bool:=
 match iD o with
 |some n=>Nat.beq n 0
 |none=>false
mutual
def SV.norm(h:T Blk):SV->SV
 |.int k e=>.int k e
 |.bool e=>.bool e
 |.str e=>.str e
 |.ptr b o=>.ptr b o
 |.slice b o l c=>match O4 (h.get b)&&Ov o with
  |true=>.nslice b l c
  |false=>.slice b o l c
 |.nslice b l c=>.nslice b l c
 |.bsl ks e=>.bsl ks e
 |.bptr ks e i j=>.bptr ks e i j
 |.nsl b ks e i c=>.nsl b ks e i c
 |.nptr b ks e i c x j=>.nptr b ks e i c x j
 |.map b=>.map b
 |.func fn fi ca=>.func fn (SV.norms h fi) (SV.norms h ca)
 |.agg cs=>.agg (SV.norms h cs)
 |.tup cs=>.tup (SV.norms h cs)
 |.nilp=>.nilp
 |.nils=>.nils
 |.nilm=>.nilm
 |.nili=>.nili
 |.nilf=>.nilf
 |.junk=>.junk
def SV.norms(h:T Blk):List SV->List SV
 |[]=>[]
 |v::vs=>v.norm h::SV.norms h vs
end
def SObj.norm(h:T Blk):SObj->SObj
 |.cells cs tot e=>.cells (SV.norms h cs) tot e
 |.gone=>.gone
 |.flat ks l n tot e=>.flat ks l n tot e
 |.map es c=>.map es c
 |.mapl k c e=>.mapl k c e
 |.maplp k c e ke s=>.maplp k c e ke s
 |.iter k c e n u=>.iter k c e n u
 |.nest ks l n tot e=>.nest ks l n tot e
def Blk.norm(h:T Blk)(b:Blk):Blk:=⟨b.own,b.obj.norm h⟩
def St.norm(st:St):St:=⟨st.nv,st.nb,st.heap.map (Blk.norm st.heap),st.pc⟩
def QF(fs:List E)(n0 b0:Nat)(tmps:Tm)(st:St)(τ:Tmpl):Fit:=vd fs n0 b0 (tmps.map (SV.norm st.heap)) st.norm τ
def AZ(nv:Nat):List E->List E
 |[]=>[]
 |e::es=>match e.scp nv with
  |true=>e::AZ nv es
  |false=>AZ nv es
def PK(st:St)(v:SV)(st':St):St:=
 match Nat.beq st.nb st'.nb&&Nat.beq st.nv st'.nv with
 |true=>st'
 |false=>match v.plain&&(v.scp st.nv st.nb&&(st.scp&&jX st.heap st'.heap))with
  |true=>⟨st.nv,st.nb,st.heap,AZ st.nv st'.pc⟩
  |false=>st'
def s9(b:Nat)(m:Nat):Nat:=Nat.lor (Nat.pow 2 b) m
mutual
def SV.blks:SV->Nat->Nat
 |.ptr b _,m=>s9 b m
 |.slice b _ _ _,m=>s9 b m
 |.nslice b _ _,m=>s9 b m
 |.map b,m=>s9 b m
 |.nsl b _ _ _ _,m=>s9 b m
 |.nptr b _ _ _ _ _ _,m=>s9 b m
 |.func _ fi ca,m=>SV.blkss ca (SV.blkss fi m)
 |.agg cs,m=>SV.blkss cs m
 |.tup cs,m=>SV.blkss cs m
 |_,m=>m
def SV.blkss:List SV->Nat->Nat
 |[],m=>m
 |v::vs,m=>SV.blkss vs (SV.blks v m)
end
def ajU:List Ent->Nat->Nat
 |[],m=>m
 |x::es,m=>ajU es (SV.blks x.v (SV.blks x.k m))
def SObj.blks:SObj->Nat->Nat
 |.cells cs _ _,m=>SV.blkss cs m
 |.map es _,m=>ajU es m
 |_,m=>m
def Lc(heap:T Blk)(m:Nat):Nat->Nat->Nat->Nat
 |0,_,r=>r
 |n+1,b,r=>match Nat.testBit m b with
  |true=>match heap.get b with
   |some x=>fB (x.obj.blks r) fun r=>Lc heap m n (Nat.succ b) r
   |none=>Lc heap m n (Nat.succ b) r
  |false=>Lc heap m n (Nat.succ b) r
def WW(heap:T Blk)(n b0:Nat):Nat->Nat->Nat
 |0,m=>m
 |k+1,m=>fB (Lc heap m n b0 m) fun m'=>match Nat.beq m m' with
  |true=>m
  |false=>WW heap n b0 k m'
def Ba(m:Nat):Nat->Nat->T Blk->T Blk
 |0,_,h=>h
 |n+1,b,h=>match Nat.testBit m b with
  |true=>Ba m n (Nat.succ b) h
  |false=>T.setK h b ⟨true,.gone⟩ fun h=>Ba m n (Nat.succ b) h
def E.vset:E->Nat->Nat
 |.var i,m=>s9 i m
 |.ar _ _ a b,m=>E.vset b (E.vset a m)
 |.cmp _ a b,m=>E.vset b (E.vset a m)
 |.mn a b,m=>E.vset b (E.vset a m)
 |.mx a b,m=>E.vset b (E.vset a m)
 |.wr _ a,m=>E.vset a m
 |.not a,m=>E.vset a m
 |.and a b,m=>E.vset b (E.vset a m)
 |.seq a b,m=>E.vset b (E.vset a m)
 |.iff a b,m=>E.vset b (E.vset a m)
 |.imp a b,m=>E.vset b (E.vset a m)
 |.fn _ a,m=>E.vset a m
 |.pr a b,m=>E.vset b (E.vset a m)
 |_,m=>m
mutual
def SV.vset:SV->Nat->Nat
 |.int _ e,m=>e.vset m
 |.bool e,m=>e.vset m
 |.str e,m=>e.vset m
 |.ptr _ o,m=>o.idx.vset m
 |.slice _ o l c,m=>c.vset (l.vset (o.idx.vset m))
 |.nslice _ l c,m=>c.vset (l.vset m)
 |.bsl _ e,m=>e.vset m
 |.bptr _ e i _,m=>i.vset (e.vset m)
 |.nsl _ _ e i _,m=>i.vset (e.vset m)
 |.nptr _ _ e i _ x _,m=>x.vset (i.vset (e.vset m))
 |.func _ fi ca,m=>SV.vsets ca (SV.vsets fi m)
 |.agg cs,m=>SV.vsets cs m
 |.tup cs,m=>SV.vsets cs m
 |_,m=>m
def SV.vsets:List SV->Nat->Nat
 |[],m=>m
 |v::vs,m=>SV.vsets vs (SV.vset v m)
end
def UM:List Ent->Nat->Nat
 |[],m=>m
 |x::es,m=>UM es (x.born.vset (SV.vset x.v (SV.vset x.k m)))
def SObj.vset:SObj->Nat->Nat
 |.gone,m=>m
 |.cells cs t _,m=>t.vset (SV.vsets cs m)
 |.flat _ l n t _,m=>t.vset (n.vset (l.vset m))
 |.nest _ l n t _,m=>t.vset (n.vset (l.vset m))
 |.map es c,m=>c.vset (UM es m)
 |.mapl _ _ e,m=>e.vset m
 |.maplp _ _ e ke s,m=>s.vset (ke.vset (e.vset m))
 |.iter _ _ e n u,m=>match u with | none=>n.vset (e.vset m) | some x=>x.vset (n.vset (e.vset m))
def EJ(heap:T Blk)(bs:Nat):Nat->Nat->Nat->Nat
 |0,_,r=>r
 |n+1,b,r=>match Nat.testBit bs b with
  |true=>match heap.get b with
   |some x=>fB (x.obj.vset r) fun r=>EJ heap bs n (Nat.succ b) r
   |none=>EJ heap bs n (Nat.succ b) r
  |false=>EJ heap bs n (Nat.succ b) r
def Cl(nv live:Nat):List E->List E
 |[]=>[]
 |e::es=>match Nat.beq (Nat.land (Nat.shiftRight (e.vset 0) nv) live) (Nat.shiftRight (e.vset 0) nv)with
  |true=>e::Cl nv live es
  |false=>Cl nv live es
def Dq(st:St)(v:SV)(st':St):St:=
 match Nat.beq st.nb st'.nb with
 |true=>st'
 |false=>match jX st.heap st'.heap with
  |true=>fB (WW st'.heap (Nat.sub st'.nb st.nb) st.nb 40 (SV.blks v 0)) fun m=>
    fB (Nat.shiftRight (EJ st'.heap m (Nat.sub st'.nb st.nb) st.nb (SV.vset v 0)) st.nv) fun live=>
     ⟨st'.nv,st'.nb,Ba m (Nat.sub st'.nb st.nb) st.nb st'.heap,Cl st.nv live st'.pc⟩
  |false=>st'
def AB(v:SV)(st:St):List (SV×St)->Bool
 |[]=>false
 |x::xs=>match v.beq x.1&&st.beq x.2 with
  |true=>true
  |false=>AB v st xs
def kN(v:SV):Tm:=.node v .nil .nil
def acG(n0 b0:Nat)(t:Tm)(st:St):Bool:=Nat.ble n0 st.nv&&(Nat.ble b0 st.nb&&(st.scp&&kr st.nv st.nb t))
def OJ:Fit->Bool
 |.ok _=>true
 |_=>false
def qW(fs:List E)(n0 b0:Nat)(t:Tm)(st:St):List (Tm×St)->Bool
 |[]=>false
 |x::xs=>match acG n0 b0 x.1 x.2&&OJ (vd fs n0 b0 t st ⟨x.1,x.2,.int 0⟩)with
  |true=>true
  |false=>qW fs n0 b0 t st xs
def yp:List (SV×St)->List (Tm×St)
 |[]=>[]
 |x::xs=>match x.1 with
  |.junk=>yp xs
  |v=>(kN v,x.2)::yp xs
def AR(fs:List E)(st0:St)(v:SV)(st:St)(acc:List (SV×St)):List (SV×St):=
 match acc with
 |[]=>[(v,st)]
 |_=>match AB v st acc with
  |true=>acc
  |false=>match Nat.beq st0.nb st.nb&&Nat.beq st0.nv st.nv with
   |true=>(v,st)::acc
   |false=>match qW fs st0.nv st0.nb (kN v) (Dq st0 v st) (yp acc)with
    |true=>acc
    |false=>(v,Dq st0 v st)::acc
def Aq(fs:List E)(st:St):List Out->List (SV×St)->Option (List (SV×St))
 |[],acc=>some acc
 |r::rs,acc=>match r.tmps with
  |.node v _ _=>Aq fs st rs (AR fs st v (PK st v r.st) acc)
  |_=>none
def Tn(tmps:Tm)(d:Option Tmp)(k:eU):List (SV×St)->aL
 |[]=>some []
 |x::xs=>gK (ey tmps d x.1 fun tmps=>k tmps x.2) (Tn tmps d k xs)
def Kp(_:List Out):List Out:=[]
def agc(_:Tm)(_:St)(_:Op):String:= ""
def Ht(tb:Tab)(rec:bQ)(o:Oper)(tmps:Tm)(st:St)(k:eU):aL:=
 match o.op with
 |.call c=>match DV tb tmps c with
  |some (g,args)=>match kr st.nv st.nb tmps with
   |true=>match rec (.call g args) .nil st (fun r=>some [r])with
    |some rs=>match Kp rs with
     |[]=>match Aq tb.facts st rs [] with
      |some l=>Tn tmps o.dst k l
      |none=>none
     |raw=>some raw
    |none=>none
   |false=>uo (o.pos ++ " scope")
  |none=>uo (o.pos ++ " callee" ++ (match o.op with | .call c=>c.args.toList.foldl (fun s x=>s++agc tmps st (.load 0 x)) "" | _=> ""))
 |_=>uo (o.pos ++ " operation " ++ aHv o.op++agc tmps st o.op)
def sd(tb:Tab)(rec:bQ)(o:Oper)(tmps:Tm)(k:eU)(n:Nat):St->aL:=
 Nat.rec (motive:=fun _=>St->aL) (fun _=>none) (fun _ ih st=>
  match qo tb tmps st o.op with
  |.val v st=>ey tmps o.dst v fun tmps=>k tmps st
  |.skip st=>ey tmps o.dst .undef fun tmps=>k tmps st
  |.ask e=>gK (ih {st with pc:=e::st.pc}) (ih {st with pc:=aW e::st.pc})
  |.lack e=>JU o.pos st e
  |.bad=>match Cd tb tmps st o.op with
   |.val v st=>ey tmps o.dst v fun tmps=>k tmps st
   |.skip st=>ey tmps o.dst .undef fun tmps=>k tmps st
   |.ask e=>gK (ih {st with pc:=e::st.pc}) (ih {st with pc:=aW e::st.pc})
   |.lack e=>JU o.pos st e
   |.bad=>Ht tb rec o tmps st k) n
def Cu(P:Program)(tb:Tab)(rec:bQ)(o:Oper)(tmps:Tm)(st:St)(k:eU):aL:=
 match tG P tb (bn tmps) o.op with
 |some v=>ey tmps o.dst v fun tmps=>k tmps st
 |none=>sd tb rec o tmps k 40 st
def rJ(P:Program)(tb:Tab)(rec:bQ)(all:List Oper)(o:Oper)(tmps:Tm)(st:St)(k:eU):aL:=
 match x8 all tmps o with
 |.yes=>Cu P tb rec o tmps st k
 |.no=>ey tmps o.dst .undef fun tmps=>k tmps st
 |.bad=>uo o.pos
 |.ask t e want=>match dV tb.facts st.pc e with
  |some b=>T.setK tmps t (.bool (.bool b)) fun tmps=>match om b want with
   |true=>Cu P tb rec o tmps st k
   |false=>ey tmps o.dst .undef fun tmps=>k tmps st
  |none=>
   gK (T.setK tmps t (.bool (.bool want)) fun tmps=>Cu P tb rec o tmps {st with pc:=(match want with | true=>e | false=>aW e)::st.pc} k)
    (T.setK tmps t (.bool (.bool (!want))) fun tmps=>ey tmps o.dst .undef fun tmps=>k tmps {st with pc:=(match want with | true=>aW e | false=>e)::st.pc})
def aj1(P:Program)(tb:Tab)(rec:bQ)(all:List Oper)(l:List Oper):Tm->St->eU->aL:=
 List.rec (motive:=fun _=>Tm->St->eU->aL) (fun tmps st k=>k tmps st)
  (fun o _ ih tmps st k=>rJ P tb rec all o tmps st fun tmps st=>ih tmps st k) l
def yw(k:Nat)(x:Info):List Info->Bool
 |[]=>true
 |m::ms=>match Nat.testBit m.wait k with
  |true=>yw k x ms
  |false=>match Nat.beq (Nat.land x.dst m.reads) 0 with
   |true=>match Nat.beq (Nat.land x.dst m.dst) 0 with
    |true=>match Nat.beq (Nat.land m.dst x.reads) 0 with
     |true=>yw k x ms
     |false=>false
    |false=>false
   |false=>false
def kq:List Info->Nat->Bool
 |[],_=>true
 |m::ms,k=>match Nat.blt m.wait (Nat.pow 2 k)with
  |true=>match yw k m ms with
   |true=>kq ms (Nat.succ k)
   |false=>false
  |false=>false
inductive QR where
 |done (v:SV)
 |split (e:E)
 |bad
def akV(st:St)(r:aL):QR:=
 match r with
 |some os=>match os with
  |[o]=>match o.tmps with
   |.node v _ _=>match v.plain&&(v.scp st.nv st.nb&&st.scp&&jX st.heap o.st.heap)with
    |true=>.done v
    |false=>.bad
   |.nil=>.bad
  |_=>.bad
 |none=>.bad
def O6(o:Op):Bool:=
 match o with
 |.load _ _=>true
 |.slice _ _ _ _ _=>true
 |.lookup _ _ _ _=>true
 |.binOp _ _ _ _ _=>true
 |.indexAddr _ _ _=>true
 |.index _ _ _=>true
 |.pick _ _ _=>true
 |.call c=>match c.callee with
  |.builtin _=>true
  |_=>false
 |_=>false
def Aw(P:Program)(tb:Tab)(rec:bQ)(o:Oper)(tmps:Tm)(st:St):QR:=
 match tG P tb (bn tmps) o.op with
 |some v=>.done v
 |none=>match O6 o.op with
  |true=>match qo tb tmps st o.op with
   |.val v _=>.done v
   |.ask e=>.split e
   |_=>.bad
  |false=>match o.op with
   |.call c=>match DV tb tmps c with
    |some (g,args)=>akV st (rec (.call g args) .nil st fun o=>some [o])
    |none=>.bad
   |_=>.bad
inductive QE where
 |done (tmps:Tm)
 |split (e:E)
 |bad
def pk(P:Program)(tb:Tab)(rec:bQ)(all:List Oper)(st:St):List Oper->Tm->QE
 |[],tmps=>.done tmps
 |o::os,tmps=>match x8 all tmps o with
  |.yes=>match Aw P tb rec o tmps st with
   |.done v=>ey tmps o.dst v fun tmps=>pk P tb rec all st os tmps
   |.split e=>.split e
   |.bad=>.bad
  |.no=>ey tmps o.dst .undef fun tmps=>pk P tb rec all st os tmps
  |.bad=>.bad
  |.ask t e want=>match dV tb.facts st.pc e with
   |some b=>T.setK tmps t (.bool (.bool b)) fun tmps=>match om b want with
    |true=>match Aw P tb rec o tmps st with
     |.done v=>ey tmps o.dst v fun tmps=>pk P tb rec all st os tmps
     |.split e=>.split e
     |.bad=>.bad
    |false=>ey tmps o.dst .undef fun tmps=>pk P tb rec all st os tmps
   |none=>.split e
def jo:List Oper->Bool
 |[]=>true
 |o::os=>match o.op with
  |.select _ _=>false
  |_=>jo os
def C1(m:Nat):List Nat->Nat->Nat->Nat
 |[],_,r=>r
 |c::cs,j,r=>match Nat.testBit m j with
  |true=>C1 m cs (Nat.succ j) (Nat.lor c r)
  |false=>C1 m cs (Nat.succ j) r
def Ho:List Info->List Nat->List Nat
 |[],acc=>acc
 |m::ms,acc=>fB (C1 m.wait acc 0 m.wait) fun c=>Ho ms (acc++[c])
inductive NS where
 |val (v:SV)
 |ask (e:E)
 |bad
def Gg(P:Program)(tb:Tab)(tmps:Tm)(st:St)(o:Oper):NS:=
 match tG P tb (bn tmps) o.op with
 |some v=>.val v
 |none=>match O6 o.op with
  |true=>match qo tb tmps st o.op with
   |.val v _=>.val v
   |.ask e=>.ask e
   |_=>.bad
  |false=>.bad
def EO(P:Program)(tb:Tab)(all:List Oper)(tmps:Tm)(st:St)(o:Oper):NS:=
 match x8 all tmps o with
 |.yes=>Gg P tb tmps st o
 |.no=>.val .undef
 |.bad=>.bad
 |.ask _ e want=>match dV tb.facts st.pc e with
  |some b=>match om b want with
   |true=>Gg P tb tmps st o
   |false=>.val .undef
  |none=>.ask e
def px(dst:Nat):List Info->Nat->Nat->Nat
 |[],_,r=>r
 |m::ms,j,r=>match Nat.beq (Nat.land dst (Nat.lor m.reads m.dst)) 0 with
  |true=>px dst ms (Nat.succ j) r
  |false=>px dst ms (Nat.succ j) (Nat.lor (Nat.pow 2 j) r)
def Hh(cs:Nat)(clos:List Nat):List (Nat×Oper×Info)->Bool
 |[]=>true
 |(j,_,_)::rs=>match dF clos j with
  |some c=>match Nat.beq (Nat.land cs c) cs with
   |true=>Hh cs clos rs
   |false=>false
  |none=>false
def M2(all:List Oper)(infos:List Info)(clos:List Nat)(listed used:Nat)(m:Info):Bool:=
 match Nat.beq (Nat.land m.dst (Nat.lor m.reads used)) 0 with
 |true=>true
 |false=>Nat.beq (Nat.land m.dst m.reads) 0&&Hh (Nat.land (px m.dst infos 0 0) listed) clos (fT listed all infos 0)
def nS{J:Type}(P:Program)(tb:Tab)(all:List Oper)(infos:List Info)(clos:List Nat)(st:St):List Oper->List Info->Nat->Nat->Nat->Nat->Tm->(Nat->Nat->Nat->Tm->Option E->J)->J
 |o::os,m::ms,i,listed,used,neu,tmps,k=>
  match Nat.testBit listed i with
  |true=>nS P tb all infos clos st os ms (Nat.succ i) listed used neu tmps k
  |false=>match Nat.beq (Nat.land m.wait listed) m.wait with
   |true=>match EO P tb all tmps st o with
    |.val v=>match M2 all infos clos listed used m with
     |true=>ey tmps o.dst v fun tmps=>fB (Nat.lor (Nat.pow 2 i) listed) fun listed=>fB (Nat.lor (Nat.lor m.reads m.dst) used) fun used=>fB (Nat.lor (Nat.pow 2 i) neu) fun neu=>
       nS P tb all infos clos st os ms (Nat.succ i) listed used neu tmps k
     |false=>nS P tb all infos clos st os ms (Nat.succ i) listed used neu tmps k
    |.ask e=>k listed used neu tmps (some e)
    |.bad=>nS P tb all infos clos st os ms (Nat.succ i) listed used neu tmps k
   |false=>nS P tb all infos clos st os ms (Nat.succ i) listed used neu tmps k
 |_,_,_,listed,used,neu,tmps,k=>k listed used neu tmps none
def SV.isJunk:SV->Bool
 |.junk=>true
 |_=>false
def sj(P:Program)(tb:Tab)(all:List Oper)(tmps:Tm)(st:St)(neu:Nat):List Oper->Nat->Bool
 |[],_=>true
 |o::os,i=>match Nat.testBit neu i with
  |false=>sj P tb all tmps st neu os (Nat.succ i)
  |true=>match EO P tb all tmps st o with
   |.val v=>match o.dst with
    |none=>sj P tb all tmps st neu os (Nat.succ i)
    |some d=>match tmps.get d with
     |some u=>match !(v.isJunk)&&v.beq u with
      |true=>sj P tb all tmps st neu os (Nat.succ i)
      |false=>false
     |none=>false
   |_=>false
def andNot(a b:Nat):Nat:=Nat.xor a (Nat.land a b)
def Kt(P:Program)(tb:Tab)(rec:bQ)(all:List Oper)(infos:List Info)(clos:List Nat)(listed used neu:Nat)(tmps:Tm)(st:St)(ih:Nat->Nat->Nat->Tm->St->aL):List (Nat×Oper×Info)->aL
 |[]=>some []
 |(i,o,m)::rs=>match dF clos i with
  | some c=>match fB (andNot neu c) fun neu=>rJ P tb rec all o tmps st fun tmps st=>match sj P tb all tmps st neu all 0 with
    |true=>fB (Nat.lor (Nat.pow 2 i) listed) fun listed=>fB (Nat.lor (Nat.lor m.reads m.dst) used) fun used=>ih listed used neu tmps st
    |false=>none with
   |some os=>match Kt P tb rec all infos clos listed used neu tmps st ih rs with
    |some os'=>some (os++os')
    |none=>none
   |none=>none
  |none=>none
def Ot(P:Program)(tb:Tab)(rec:bQ)(all:List Oper)(infos:List Info)(clos:List Nat)(listed used neu:Nat)(tmps:Tm)(st:St)(k:eU)(ih:Nat->Nat->Nat->Tm->St->aL):aL:=
 match fT listed all infos 0 with
 |[]=>k tmps st
 |rs=>Kt P tb rec all infos clos listed used neu tmps st ih rs
def wg(P:Program)(tb:Tab)(rec:bQ)(all:List Oper)(infos:List Info)(clos:List Nat)(k:eU)(n:Nat):Nat->Nat->Nat->Tm->St->aL:=
 Nat.rec (motive:=fun _=>Nat->Nat->Nat->Tm->St->aL) (fun _ _ _ _ _=>none) (fun _ ih listed used neu tmps st=>
  nS P tb all infos clos st all infos 0 listed used neu tmps fun listed used neu tmps pend=>match pend with
   |some e=>gK (ih listed used neu tmps {st with pc:=e::st.pc}) (ih listed used neu tmps {st with pc:=aW e::st.pc})
   |none=>Ot P tb rec all infos clos listed used neu tmps st k ih) n
def uC(tmps:Tm)(st:St):aL:=some [⟨.normal,tmps,st⟩]
def lw(fs:List E)(n0 b0:Nat):List Out->List (Tm×St)->List (Tm×St)
 |[],acc=>acc
 |o::os,acc=>match acc with
  |[]=>lw fs n0 b0 os [(o.tmps,o.st)]
  |_=>match qW fs n0 b0 o.tmps o.st acc with
   |true=>lw fs n0 b0 os acc
   |false=>lw fs n0 b0 os ((o.tmps,o.st)::acc)
def Ri(k:Out->aL):List (Tm×St)->aL
 |[]=>some []
 |x::xs=>gK (k ⟨.normal,x.1,x.2⟩) (Ri k xs)
def MB(P:Program)(tb:Tab)(rec:bQ)(all:List Oper)(n:Nat)(tmps:Tm)(st:St)(k:Out->aL):aL:=
 match jo all with
 |true=>match kq (aP all all) 0 with
  |true=>match wg P tb rec all (aP all all) (Ho (aP all all) []) uC (Nat.add 10 (Nat.add n n)) 0 0 0 tmps st with
   |some outs=>match Kp outs with
    |[]=>Ri k (lw tb.facts st.nv st.nb outs [])
    |raw=>some raw
   |none=>match pk P tb rec all st all tmps with
   |.done tmps=>k ⟨.normal,tmps,st⟩
   |.split e=>gK (rec (.draw all n) tmps {st with pc:=e::st.pc} k) (rec (.draw all n) tmps {st with pc:=aW e::st.pc} k)
   |.bad=>rec (.layer all (aP all all) (ph P tb all (aP all all) 0 n [⟨.normal,tmps,st⟩] [])) tmps st k
  |false=>rec (.layer all (aP all all) (ph P tb all (aP all all) 0 n [⟨.normal,tmps,st⟩] [])) tmps st k
 |false=>none
def lA:Code->Option Nat
 |.exit id=>some id
 |.seq a b=>match lA a with
  |some n=>some n
  |none=>lA b
 |.block _ b=>lA b
 |.loop b=>lA b
 |.cond _ a b=>match lA a with
  |some n=>some n
  |none=>lA b
 |_=>none
def Aa(g key:Nat):List Ann->Option Ann
 |[]=>none
 |x::xs=>match Nat.beq x.fn g with
  |true=>match Nat.beq x.key key with
   |true=>some x
   |false=>Aa g key xs
  |false=>Aa g key xs
def R7(tb:Tab)(g:Nat)(b:Code):Option Ann:=
 match tb.anns with
 |[]=>none
 |l=>match lA b with
  |some key=>Aa g key l
  |none=>none
def jS(fs:List E)(n0 b0:Nat)(tmps:Tm)(st:St)(bound:Option E):List Tmpl->Option E->Fit
 |[],why=>match why with
  |some e=>.lack e
  |none=>.bad 0
 |τ::τs,why=>match QF fs n0 b0 tmps st τ with
  |.ok z=>match bound with
   |none=>.ok z
   |some m=>match ll fs st.pc (τ.less.sub z.n0 z.es) m with
    |true=>match dD fs st.pc (τ.less.sub z.n0 z.es)with
     |true=>.ok z
     |false=>.lack (aW (aF .lss (τ.less.sub z.n0 z.es) (.int 0)))
    |false=>.lack (aF .lss (τ.less.sub z.n0 z.es) m)
  |.lack e=>jS fs n0 b0 tmps st bound τs (match why with | some e=>some e | none=>some e)
  |.bad _=>jS fs n0 b0 tmps st bound τs why
def pb(_:Tm)(_:St)(f:Fit)(r:aL):aL:=
 match f with
 |.ok _=>r
 |_=>none
def Tmpl.scp(τ:Tmpl):Bool:=τ.st.scp&&kr τ.st.nv τ.st.nb τ.tmps&&τ.less.scp τ.st.nv
def tg(n0 b0:Nat):List Tmpl->Bool
 |[]=>true
 |τ::τs=>match Nat.ble n0 τ.st.nv&&Nat.ble b0 τ.st.nb&&τ.scp with
  |true=>tg n0 b0 τs
  |false=>false
def Qv(tb:Tab)(rec:bQ)(g:FuncId)(b:Code)(n0 b0:Nat)(ts:List Tmpl)(k:Out->aL):List Tmpl->aL
 |[]=>some []
 | τ::τs=>gK (rec (.code g b) τ.tmps τ.st fun o=>match o.ex with
   |.normal=>pb o.tmps o.st (jS tb.facts n0 b0 o.tmps o.st (some τ.less) ts none) (some [])
   |_=>k o) (Qv tb rec g b n0 b0 ts k τs)
def PH(k:Out->aL):List Out->aL
 |[]=>some []
 |o::os=>gK (k o) (PH k os)
def QK:Nat->Nat->T Blk->T Blk
 |0,_,t=>t
 |k+1,n,t=>QK k (Nat.succ n) (T.ins t n ⟨true,.gone⟩)
def St.pad(st:St)(n b:Nat):St:=⟨n,b,QK (Nat.sub b st.nb) st.nb st.heap,st.pc⟩
def DG(tb:Tab)(n b:Nat)(ts:List Tmpl)(xs:List Out)(tmps:Tm)(st:St)(k:Out->aL):aL:=
 match tg n b ts with
 |true=>pb tmps st (jS tb.facts n b tmps st none ts none) (PH k xs)
 |false=>uo "templates"
def H1(tb:Tab)(rec:bQ)(g:FuncId)(b:Code)(tmps:Tm)(st:St)(k:Out->aL):aL:=
 match R7 tb g b with
 |none=>rec (.rounds g b) tmps st k
 |some x=>match x.known with
  |none=>match tg st.nv st.nb x.ts with
   |true=>pb tmps st (jS tb.facts st.nv st.nb tmps st none x.ts none) (Qv tb rec g b st.nv st.nb x.ts k x.ts)
   |false=>uo "templates"
  |some y=>match Nat.beq st.nv y.n0&&Nat.beq st.nb y.b0 with
   |true=>DG tb y.n0 y.b0 x.ts y.xs tmps st k
   |false=>match Nat.ble st.nv y.n0&&Nat.ble st.nb y.b0&&st.scp&&kr st.nv st.nb tmps with
    |true=>DG tb y.n0 y.b0 x.ts y.xs tmps (st.pad y.n0 y.b0) k
    |false=>uo "a loop's variables"
def Nk(rec:bQ)(g:FuncId)(tmps:Tm)(st:St)(k:Out->aL)(a b:Code):aL:=
 rec (.code g a) tmps st fun o=>match o.ex with
   |.normal=>rec (.code g b) o.tmps o.st k
   |_=>k o
def QT(rec:bQ)(g:FuncId)(tmps:Tm)(st:St)(k:Out->aL)(id:Nat)(b:Code):aL:=
 rec (.code g b) tmps st fun o=>match o.ex with
   |.exit i=>match Nat.beq i id with
    |true=>k ⟨.normal,o.tmps,o.st⟩
    |false=>k o
   |_=>k o
def PC(tb:Tab)(rec:bQ)(g:FuncId)(tmps:Tm)(st:St)(k:Out->aL)(c:Operand)(x y:Code):aL:=
 match bn tmps c with
  |some (.bool e)=>match dV tb.facts st.pc e with
   |some true=>rec (.code g x) tmps st k
   |some false=>rec (.code g y) tmps st k
   |none=>gK (rec (.code g x) tmps {st with pc:=e::st.pc} k) (rec (.code g y) tmps {st with pc:=aW e::st.pc} k)
  |_=>none
def PV(P:Program)(tb:Tab)(rec:bQ)(tmps:Tm)(st:St)(k:Out->aL)(ops:Array Oper)(d:Bool):aL:=
 match d with
  |false=>aj1 P tb rec ops.toList ops.toList tmps st fun tmps st=>k ⟨.normal,tmps,st⟩
  |true=>rec (.draw ops.toList ops.size) tmps st k
noncomputable def MM(P:Program)(tb:Tab)(rec:bQ)(g:FuncId)(c:Code)(tmps:Tm)(st:St)(k:Out->aL):aL:=
 Code.rec (motive:=fun _=>aL)
  (k ⟨.normal,tmps,st⟩)
  (fun _ ops d=>PV P tb rec tmps st k ops d)
  (fun a b _ _=>Nk rec g tmps st k a b)
  (fun c x y _ _=>PC tb rec g tmps st k c x y)
  (fun id b _=>QT rec g tmps st k id b)
  (fun b _=>H1 tb rec g b tmps st k)
  (fun _ _ _ _ _ _=>none)
  (fun id=>k ⟨.exit id,tmps,st⟩)
  (fun _ _=>none)
  (fun _=>k ⟨.normal,tmps,st⟩)
  (fun _=>none)
  (k ⟨.ret,tmps,st⟩)
  (fun _=>none)
  c
theorem aTO(P:Program)(tb:Tab)(rec:bQ)(g:FuncId)(c:Code)(tmps:Tm)(st:St)(k:Out->aL):MM P tb rec g c tmps st k=(match c with
 |.skip=>k ⟨.normal,tmps,st⟩
 |.label _=>k ⟨.normal,tmps,st⟩
 |.ret=>k ⟨.ret,tmps,st⟩
 |.exit id=>k ⟨.exit id,tmps,st⟩
 |.seq a b=>Nk rec g tmps st k a b
 |.block id b=>QT rec g tmps st k id b
 |.loop b=>H1 tb rec g b tmps st k
 |.cond c x y=>PC tb rec g tmps st k c x y
 |.region _ ops d=>PV P tb rec tmps st k ops d
 |_=>none):=by cases c<;>rfl
def B4(fs:List E)(g:FuncId)(args:List SV)(st:St):List Nat1->NatR
 |[]=>.no
 |x::xs=>match Nat.beq x.fn g with
  |true=>match x.eff fs args st with
   |.outs l=>.outs l
   |_=>B4 fs g args st xs
  |false=>B4 fs g args st xs
def anY(k:Out->aL):List (SV×St)->aL
 |[]=>some []
 |(v,st)::l=>gK (k ⟨.ret,.node v .nil .nil,st⟩) (anY k l)
def Na(tb:Tab)(rec:bQ)(g:FuncId)(args:List SV)(st:St)(k:Out->aL):aL:=
 match B4 tb.facts g args st tb.nats with
 |.outs l=>anY k l
 |_=>match tb.fn.get g with
 |some fn=>match fn.body with
  |some c=>match Nat.ble args.length fn.ntmps&&Nat.ble fn.ntmps 1048575 with
   | true=>T.putsK args 0 (T.fill SV.undef 20 fn.ntmps) fun tmps=>rec (.code g c) tmps st fun o=>match o.ex with
     |.exit _=>none
     |_=>match lC tb o.st o.tmps fn.results.toList with
      |some vs=>k ⟨.ret,.node (vu vs) .nil .nil,o.st⟩
      |none=>none
   |false=>none
  |none=>none
 |none=>none
def zU(P:Program)(tb:Tab)(rec:bQ)(all:List Oper)(infos:List Info)(x:Node)(left:Nat):List (Nat×Oper×Info)->List Node->Option (List Node)
 |[],acc=>some acc
 |(i,o,_)::rs,acc=>match rJ P tb rec all o x.tmps x.st uC with
  |some os=>fB (Nat.lor (Nat.pow 2 i) x.listed) fun listed=>zU P tb rec all infos x left rs (ph P tb all infos listed left os acc)
  |none=>none
def BH(P:Program)(tb:Tab)(rec:bQ)(all:List Oper)(infos:List Info)(k:eU):List Node->List Node->Option (List Node×List Out)
 |[],acc=>some (acc,[])
 |x::xs,acc=>match fT x.listed all infos 0 with
  |[]=>match k x.tmps x.st with
   |some os=>match BH P tb rec all infos k xs acc with
    |some (acc,more)=>some (acc,os++more)
    |none=>none
   |none=>none
  |rs=>match x.left with
   |0=>none
   |left+1=>match zU P tb rec all infos x left rs acc with
    |some acc=>BH P tb rec all infos k xs acc
    |none=>none
def RM(P:Program)(tb:Tab)(rec:bQ)(all:List Oper)(infos:List Info)(l:List Node)(tmps:Tm)(st:St)(k:Out->aL):aL:=
 match BH P tb rec all infos (fun tmps st=>k ⟨.normal,tmps,st⟩) l [] with
 |some (next,os)=>match next with
  |[]=>some os
  |_=>match rec (.layer all infos next) tmps st k with
   |some more=>some (os++more)
   |none=>none
 |none=>none
def afO(rec:bQ)(g:FuncId)(b:Code)(tmps:Tm)(st:St)(k:Out->aL):aL:=
 rec (.code g b) tmps st fun o=>match o.ex with
  |.normal=>rec (.rounds g b) o.tmps o.st k
  |_=>k o
def aH5(P:Program)(tb:Tab)(rec:bQ)(task:Task)(tmps:Tm)(st:St)(k:Out->aL):aL:=
 match task with
 |.code g c=>MM P tb rec g c tmps st k
 |.rounds g c=>afO rec g c tmps st k
 |.call g args=>Na tb rec g args st k
 |.draw all n=>MB P tb rec all n tmps st k
 |.layer all infos l=>RM P tb rec all infos l tmps st k
def run(P:Program)(tb:Tab)(n:Nat):bQ:=
 Nat.rec (motive:=fun _=>bQ) (fun _ _ _ _=>none) (fun _ ih=>aH5 P tb ih) n
def gU(key:Nat):Code->List Code
 |.seq a b=>gU key a++gU key b
 |.cond _ a b=>gU key a++gU key b
 |.block _ b=>gU key b
 |.loop b=>match lA b with
  |some n=>match Nat.beq n key with
   |true=>b::gU key b
   |false=>gU key b
  |none=>gU key b
 |_=>[]
def Md:Ex->Ex->Bool
 |.normal,.normal=>true
 |.ret,.ret=>true
 |.exit a,.exit b=>Nat.beq a b
 |_,_=>false
def wu(e:Ex):List Out->List Tmpl
 |[]=>[]
 |x::xs=>match Md e x.ex with
  |true=>⟨x.tmps,x.st,.int 0⟩::wu e xs
  |false=>wu e xs
def Js:List Out->List Tmpl
 |[]=>[]
 |x::xs=>⟨x.tmps,x.st,.int 0⟩::Js xs
def aeq(tb:Tab)(n0 b0:Nat)(ts:List Tmpl)(xs:List Out)(less:E)(o:Out):aL:=
 match o.ex with
 |.normal=>pb o.tmps o.st (jS tb.facts n0 b0 o.tmps o.st (some less) ts none) (some [])
 |_=>pb o.tmps o.st (jS tb.facts n0 b0 o.tmps o.st none (wu o.ex xs) none) (some [])
def ams:aL->Bool
 |some _=>true
 |none=>false
def aiT(P:Program)(tb:Tab)(n:Nat)(g key n0 b0:Nat)(ts:List Tmpl)(xs:List Out)(less:E)(tmps:Tm)(st:St):Bool:=
 match tb.fn.get g with
 |some fn=>match fn.body with
  |some c=>match gU key c with
   |[b]=>match tg n0 b0 ts&&tg n0 b0 (Js xs)with
    |true=>ams (run P tb n (.code g b) tmps st (aeq tb n0 b0 ts xs less))
    |false=>false
   |_=>false
  |none=>false
 |none=>false
def lM{J:Type}(P:Program)(k:Tab->J):J:=
 T.addsK P.types.toList 0 T.nil fun ty=>T.addsK P.funcs.toList 0 T.nil fun fn=>k ⟨ty,fn,[],[],[]⟩
end
end Go.SX

namespace Go.SX
noncomputable section
def pV(x:Int):List Int->List Int
 |[]=>[x]
 |y::l=>match leI x y with
  |true=>x::y::l
  |false=>y::pV x l
def gx:List Int->List Int
 |[]=>[]
 |x::l=>pV x (gx l)
def uJ:List Int->List SV
 |[]=>[]
 |n::l=>.int .i64 (.int n)::uJ l
def QL:Option (List (SV×St))->NatR
 |some l=>.outs l
 |none=>.no
def Bp:List SV->Option (List Int)
 |[]=>some []
 |v::l=>match v with
  |.int .i64 (.int n)=>match Bp l with
   |some r=>some (n::r)
   |none=>none
  |_=>none
def Iw(st:St)(b:Nat)(cs:List SV)(tot:E)(el:TypeId)(n:Nat):NatR:=
 match mS cs n with
 |some hd=>match Bp hd with
  |some l=>match Nat.ble n 1000000 with
   |true=>match pJ cs 0 (uJ (gx l))with
    |some cs'=>.outs [(.tup [],{st with heap:=st.heap.set b ⟨true,.cells cs' tot el⟩})]
    |none=>.no
   |false=>.no
  |none=>.no
 |none=>.no
def PR(st:St)(b:Nat)(l n tot:E)(el:TypeId)(ok:Bool):NatR:=
 match ok with
 |true=>.outs [(.tup [],{st with heap:=st.heap.set b ⟨true,.flat [.int .i64] (.fn 40 l) n tot el⟩})]
 |false=>.lack (aW (aF .lss mI n))
def RO:List CK->Bool
 |[c]=>match c with
  |.int .i64=>true
  |_=>false
 |_=>false
def Nt(fs:List E)(args:List SV)(st:St):NatR:=
 match args with
 |[v]=>match v with
  |.nils=>.outs [(.tup [],st)]
  |.nslice b len _=>match st.heap.get b with
   |some ⟨own,o⟩=>match own with
    |true=>match o with
     |.cells cs tot el=>match d4 len with
      |some n=>Iw st b cs tot el n
      |none=>.no
     |.flat ks l n tot el=>match len.beq n&&RO ks with
      |true=>PR st b l n tot el (cU fs st.pc n mI)
      |false=>.no
     |_=>.no
    |false=>.no
   |none=>.no
  |.slice b off len _=>match st.heap.get b with
   |some ⟨own,o⟩=>match own with
    |true=>match o with
     |.cells cs tot el=>match d4 len,iD off with
      |some n,some 0=>Iw st b cs tot el n
      |_,_=>.no
     |_=>.no
    |false=>.no
   |none=>.no
  |_=>.no
 |_=>.no
def ZL(f:FuncId):Nat1:=⟨f,Nt⟩
def Te(args:List SV)(st:St):Option (List (SV×St)):=
 match args with
 |[]=>some [(.bool (.bool true),st)]
 |_=>none
def OI(g:FuncId):Nat1:=⟨g,fun _ args st=>QL (Te args st)⟩
structure Pact where
 fn:FuncId
 args:List SV
 st:St
 posts:List (SV×St)
 deriving Inhabited
def Pact.tmpl(s:Pact):Tmpl:=⟨kN (.tup s.args),s.st,.int 0⟩
def rR(n0:Nat):Nat->List E
 |0=>[]
 |n+1=>.var n0::rR (Nat.succ n0) n
def py(n0:Nat):Nat->List Nat
 |0=>[]
 |n+1=>n0::py (Nat.succ n0) n
def OK(z:Sub)(st pre post:St):Sub:=⟨0,z.es++rR st.nv (Nat.sub post.nv pre.nv),0,z.bs++py st.nb (Nat.sub post.nb pre.nb)⟩
def nQ(z:Sub)(pre post:T Blk):Nat->Nat->T Blk->T Blk
 |0,_,heap=>heap
 |n+1,i,heap=>match pre.get i with
  |none=>nQ z pre post n (Nat.succ i) heap
  |some p=>match p.obj with
   |.gone=>nQ z pre post n (Nat.succ i) heap
   |_=>match post.get i with
    |none=>T.setK heap (bR 0 z.bs i) ⟨true,.gone⟩ fun heap=>nQ z pre post n (Nat.succ i) heap
    |some q=>T.setK heap (bR 0 z.bs i) ⟨true,q.obj.sub z⟩ fun heap=>nQ z pre post n (Nat.succ i) heap
def vI(z:Sub)(post:T Blk):Nat->Nat->Nat->T Blk->T Blk
 |0,_,_,heap=>heap
 |n+1,i,b,heap=>match post.get i with
  |none=>T.insK heap b ⟨true,.gone⟩ fun heap=>vI z post n (Nat.succ i) (Nat.succ b) heap
  |some q=>T.insK heap b ⟨true,q.obj.sub z⟩ fun heap=>vI z post n (Nat.succ i) (Nat.succ b) heap
def Cb(z:Sub)(pc:List E):List E->List E
 |[]=>pc
 |e::es=>e.sub z.n0 z.es::Cb z pc es
def wU(z:Sub)(st pre:St)(p:SV×St):SV×St:=
 let z':=OK z st pre p.2
 (p.1.sub z',⟨Nat.add st.nv (Nat.sub p.2.nv pre.nv),Nat.add st.nb (Nat.sub p.2.nb pre.nb),
  vI z' p.2.heap (Nat.sub p.2.nb pre.nb) pre.nb st.nb (nQ z' pre.heap p.2.heap pre.nb 0 st.heap),Cb z' st.pc p.2.pc⟩)
def KJ(z:Sub)(st pre:St):List (SV×St)->List (SV×St)
 |[]=>[]
 |p::ps=>wU z st pre p::KJ z st pre ps
def Si(s:Pact)(fs:List E)(args:List SV)(st:St):NatR:=
 match st.scp with
 |true=>match vd fs 0 0 (kN (.tup args)) st s.tmpl with
  |.ok z=>.outs (KJ z st s.st s.posts)
  |.lack e=>.lack e
  |.bad _=>.no
 |false=>.no
def Ts(fs:List E)(p:SV×St):Bool:=
 match p.2.pc with
 |[]=>true
 |c::bB=>match dV fs bB (aW c)with
  |some b=>!b
  |none=>true
def Bj(fs:List E):List (SV×St)->List (SV×St)
 |[]=>[]
 |p::ps=>match Ts fs p with
  |true=>p::Bj fs ps
  |false=>Bj fs ps
def QX(s:Pact)(fs:List E)(args:List SV)(st:St):NatR:=
 match Si s fs (SV.norms st.heap args) st.norm with
 |.outs l=>.outs (Bj fs l)
 |.lack e=>.lack e
 |.no=>.no
def aZ(s:Pact):Nat1:=⟨s.fn,QX s⟩
def Qi(t:T Blk):Bool:=T.all (fun b=>b.own) t
def HA(pre post:T Blk):Nat->Bool
 |0=>true
 |n+1=>match HA pre post n with
  |true=>match post.get n with
   |none=>true
   |some q=>match q.obj with
    |.gone=>true
    |_=>match pre.get n with
     |some p=>match p.obj with
      |.gone=>false
      |_=>true
     |none=>false
  |false=>false
def Od(s:Pact)(p:SV×St):Bool:=
 Nat.ble s.st.nv p.2.nv&&(Nat.ble s.st.nb p.2.nb&&(p.2.scp&&(p.1.scp p.2.nv p.2.nb&&(Qi p.2.heap&&HA s.st.heap p.2.heap s.st.nb))))
def JO(s:Pact):List (SV×St)->Bool
 |[]=>true
 |p::ps=>match Od s p with
  |true=>JO s ps
  |false=>false
def Pact.good(s:Pact):Bool:=s.st.scp&&(SV.scps s.st.nv s.st.nb s.args&&(Qi s.st.heap&&JO s s.posts))
def Tj(fs:List E)(s:Pact)(p:SV×St):Bool:=qW fs s.st.nv s.st.nb (kN p.1) p.2 (yp s.posts)
def DF(tb:Tab)(ms:List FM)(s:Pact):List Out->Bool
 |[]=>true
 |o::os=>match o.tmps with
  |.node v _ _=>match Tj tb.facts s (mM ms tb.facts (v,o.st))with
   |true=>DF tb ms s os
   |false=>false
  |.nil=>false
def P8(P:Program)(tb:Tab)(n:Nat)(ms:List FM)(s:Pact):Bool:=
 match s.good with
 |true=>match run P tb n (.call s.fn s.args) .nil s.st (fun o=>some [o])with
  |some os=>DF tb ms s os
  |none=>false
 |false=>false
def bC(n:Nat)(l:List (Nat×SV)):Tm:=l.foldr (fun p t=>t.set p.1 p.2) (T.fill .junk 20 n)
def bU(l:List Blk):T Blk:=(l.foldl (fun(p:T Blk×Nat) b=>(p.1.ins p.2 b,p.2+1)) (T.nil,0)).1
def iB(a b:E):E:=.cmp .lss a b
def ag(a b:E):E:=.not (.cmp .lss b a)
def eV(i:Nat):E:=.var i
def aiB:List Nat->List E
 |[]=>[]
 |i::l=>.not (.cmp .lss (.var i) (.int 0))::.not (.cmp .lss (.int 18446744073709551615) (.var i))::aiB l
def aah:List Nat->List E
 |[]=>[]
 |i::l=>.not (.cmp .lss (.var i) (.int (-9223372036854775808)))::.not (.cmp .lss (.int 9223372036854775807) (.var i))::aah l
def M1(kss:List FM)(fs:List E):List (SV×St)->List (SV×St)
 |[]=>[]
 |p::ps=>mM kss fs p::M1 kss fs ps
def Nv(kss:List FM)(x:Nat1)(fs:List E)(args:List SV)(st:St):NatR:=
 match x.eff fs args st with
 |.outs l=>.outs (M1 kss fs l)
 |.lack e=>.lack e
 |.no=>.no
def aFq(kss:List FM)(x:Nat1):Nat1:=⟨x.fn,Nv kss x⟩
end
end Go.SX
