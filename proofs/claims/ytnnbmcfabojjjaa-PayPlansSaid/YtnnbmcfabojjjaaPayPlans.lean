/-
  PayPlans: one reckoning by the kernel, Qn contracts of functions and facts.
-/
import Derived.Test.YtnnbmcfabojjjaaRows
import Derived.Test.YtnnbmcfabojjjaaNat
import Derived.WalkKit
import Derived.ProofKit
import Derived.OpenShut
import Derived.ChangeOld
import Derived.Below
import Derived.KernelRfl
import Derived.Lib.SmallJoins
import Derived.Laws.IdiomArrays
import Derived.Test.YtnnbmcfabojjjaaPayPlansParto
namespace Go.Proofs.Ytnnbmcfabojjjaa.payPlans
open Go.ChangeShapes Go.WideShapes Go.ChangeAt Go.RowKit
open Go.SX
open Go.SX.E (fn pr cmp var)
set_option linter.unusedVariables false
set_option linter.unusedSimpArgs false
set_option maxRecDepth 100000
noncomputable section
abbrev dA:E:=var 1
abbrev gj:E:=var 2
abbrev ZZ2:E:=pr dA gj
abbrev fW:E:=fn 145 ZZ2
abbrev ZZ4:E:=pr (fn 1 (pr dA (.int 19))) (.int 0)
abbrev ZZ5:E:=pr (fn 1 (pr dA (.int 18))) ZZ4
abbrev ZZ6:E:=pr (fn 1 (pr dA (.int 17))) ZZ5
abbrev ZZ7:E:=pr (fn 1 (pr dA (.int 16))) ZZ6
abbrev Xy:E:=fn 188 ZZ7
abbrev ZZ9:E:=pr (fn 1 (pr dA (.int 5))) (.int 0)
abbrev aJJ:E:=pr (fn 1 (pr dA (.int 4))) ZZ9
abbrev at7:E:=pr (fn 1 (pr dA (.int 3))) aJJ
abbrev aW7:E:=pr (fn 1 (pr dA (.int 2))) at7
abbrev Uh:E:=fn 188 aW7
abbrev WZ:E:=cmp .eql gj (.int 0)
abbrev vp:E:=var 8
abbrev mC:E:=var 0
abbrev aCw:E:=pr mC ZZ2
abbrev aql:E:=pr vp aCw
abbrev aUI:E:=fn 144 aql
abbrev YV:=[aUI]
abbrev pG:E:=var 3
abbrev oM:E:=var 4
abbrev pR:E:=var 5
abbrev o6:E:=var 6
abbrev azH:E:=pr gj (.int 0)
abbrev aSa:E:=pr dA azH
abbrev abr:E:=pr mC aSa
abbrev aP3:E:=pr o6 abr
abbrev asQ:E:=pr pR aP3
abbrev aII:E:=pr oM asQ
abbrev ajT:E:=pr pG aII
abbrev aGu:E:=pr (.int 0) ajT
abbrev aDj:E:=pr (.int 0) aGu
abbrev ayT:E:=pr (fn 10 (.int 0)) aDj
abbrev Zh:E:=pr vp ayT
abbrev apV:E:=pr (fn 1 (pr dA (.int 19))) Zh
abbrev aSG:E:=pr (fn 1 (pr dA (.int 18))) apV
abbrev aEL:E:=pr (fn 1 (pr dA (.int 17))) aSG
abbrev ap9:E:=pr (fn 1 (pr dA (.int 16))) aEL
abbrev WL:E:=fn 178 ap9
abbrev aWm:E:=pr (fn 1 (pr dA (.int 5))) Zh
abbrev avz:E:=pr (fn 1 (pr dA (.int 4))) aWm
abbrev axB:E:=pr (fn 1 (pr dA (.int 3))) avz
abbrev aT9:E:=pr (fn 1 (pr dA (.int 2))) axB
abbrev ama:E:=fn 178 aT9
abbrev Kv:E:=var 32
abbrev Jh:E:=var 33
abbrev Ft:E:=var 34
abbrev JZ:E:=var 35
abbrev Bf:E:=var 36
abbrev kG:E:=var 7
abbrev Rn:E:=pr (.int 4) (pr kG ajT)
abbrev su:E:=pr pG (pr oM (pr pR (pr o6 (pr kG abr))))
abbrev wR:E:=pr (fn 10 (.int 0)) su
abbrev aqW:E:=pr Ft (pr JZ wR)
abbrev aWM:E:=pr Jh aqW
abbrev aSP:E:=pr Kv aWM
abbrev aiQ:E:=fn 183 aSP
abbrev u0:E:=var 40
abbrev aYn:E:=cmp .lss (.int 30) (fn 6 (pr u0 (fn 0 Bf)))
abbrev XG:E:=.not aYn
abbrev zO:E:=var 39
abbrev amV:E:=cmp .eql (fn 0 zO) u0
abbrev awQ:E:=pr JZ (pr (var 43) su)
abbrev aPZ:E:=pr Ft awQ
abbrev aX4:E:=pr Jh aPZ
abbrev aGO:E:=pr Kv aX4
abbrev WI:E:=fn 183 aGO
abbrev aTz:E:=cmp .eql (var 44) u0
abbrev Yc:=[aTz]
abbrev lm:E:=fn 146 (pr pG (pr oM (pr pR (pr o6 kG))))
abbrev yQ:E:=.and fW lm
abbrev ZD:E:=.iff vp yQ
abbrev qx:E:=fn 182 su
abbrev F5:=[ZD,vp]
abbrev aOV:E:=cmp .lss gj (.int 0)
abbrev LZ:E:=.not aOV
abbrev ay6:E:=cmp .lss (.int 1) gj
abbrev Pa:E:=.not ay6
abbrev oh:E:=var 11
abbrev na:E:=var 12
abbrev nf:E:=var 13
abbrev zx:E:=.bool true
abbrev aWO:E:=cmp .lss (.int 12) (fn 9 (pr mC (.int 14)))
abbrev aif:E:=.not aWO
abbrev aVo:E:=pr mC (fn 9 (pr mC (.int 14)))
abbrev ade:E:=fn 155 aVo
abbrev azP:E:=.and aif ade
abbrev aJk:E:=.imp vp azP
abbrev afK:=[aJk,vp]
abbrev zT:E:=var 20
abbrev uU:E:=var 14
abbrev pe:E:=var 15
abbrev Bl:E:=fn 183 (pr oh (pr na (pr nf (pr uU (pr pe su)))))
abbrev wq:E:=var 18
abbrev BX:E:=var 19
abbrev ww:E:=var 17
abbrev agt:E:=.iff ww yQ
abbrev aAK:=[agt,(.not ww)]
abbrev aTY:=fW::aAK
abbrev acn:=lm::aTY
abbrev aeU:E:=cmp .eql uU (.int 0)
abbrev Ek:E:=.and (cmp .eql oh (.int 0)) (.and (cmp .eql na (.int 0)) (.and (cmp .eql nf (.int 0)) (.and aeU zx)))
abbrev wi:E:=fn 183 (pr oh (pr na (pr nf (pr uU wR))))
abbrev nN:E:=var 16
abbrev lG:E:=fn 177 Rn
abbrev akn:List E:=[(.iff oh qx),(.iff na qx)]
abbrev ab2:E:=.not yQ
abbrev AK:=[ab2,(.iff nf yQ),nf]
abbrev yO:E:=var 21
abbrev xL:E:=var 22
abbrev Av:E:=var 23
abbrev Nb:E:=var 24
abbrev aq7:E:=pr Nb (pr (var 25) su)
abbrev apK:E:=pr Av aq7
abbrev aTo:E:=pr xL apK
abbrev aN5:E:=pr yO aTo
abbrev adR:E:=fn 183 aN5
abbrev alk:E:=cmp .eql (fn 0 pe) nN
abbrev asT:E:=pr Av (pr Nb wR)
abbrev apk:E:=pr xL asT
abbrev aAw:E:=pr yO apk
abbrev adY:E:=fn 183 aAw
abbrev azy:E:=pr wq su
abbrev aT6:E:=pr ww azy
abbrev aBo:E:=pr nN aT6
abbrev aF1:E:=pr pe aBo
abbrev aS4:E:=pr uU aF1
abbrev ahA:E:=fn 183 aS4
abbrev ah4:E:=.not ahA
abbrev Bg:E:=fn 183 (pr uU (pr pe (pr nN (pr ww wR))))
abbrev Jq:E:=.and aeU (.and (cmp .eql pe (.int 0)) (.and (cmp .eql nN (.int 0)) (.and (cmp .eql ww (.int 0)) zx)))
abbrev aJB:E:=pr yO (pr xL su)
abbrev avj:E:=pr zT aJB
abbrev aDg:E:=pr BX avj
abbrev aFw:E:=pr wq aDg
abbrev agh:E:=fn 183 aFw
abbrev aVz:=[lm,fW]
abbrev Ji:=ab2::aVz
theorem aDv:dZ Try.prog (xS (some oB)):=rW rfl (by kernel_rfl) (by
 intro τ hτ;rcases List.mem_cons.1 hτ with rfl|hτ
 ·exact aWe
 rcases List.mem_cons.1 hτ with rfl|hτ
 ·exact aYB
 cases hτ)
def aKS:=fb ([fW]) Xy<|aq fun F p0=>by
 have hr0:(E.B F fW=true)->E.B F Xy=true:=fun s0=>ah5 s0
 try simp only[aa,ab]at *
 grind
def aAQ:=fb ([fW]) Uh<|aq fun F p0=>by
 have hr0:(E.B F fW=true)->E.B F Uh=true:=fun s0=>Ye s0
 try simp only[aa,ab]at *
 grind
def axn:=fb (fW::(.not WZ)::YV) WL<|af fun F p0 p1 p2=>by
 have:=@ij F gj dA
 have hr0:(E.I F gj=1)->E.B F WL=true:=fun s0=>aqk p2 s0
 try simp only[aa,ab]at *
 grind
def aIW:=fb (WZ::YV) ama<|ak fun F p0 p1=>by
 have hr0:(E.I F gj=0)->E.B F ama=true:=fun s0=>aWR p1 s0
 try simp only[aa,ab]at *
 grind
def aXA:=fb ([(fn 178 (pr Kv (pr Jh (pr Ft (pr JZ (pr Bf (pr (fn 10 (.int 0)) Rn)))))))]) aiQ<|aq fun F p0=>by
 have hr3:(E.I F kG=E.I F kG)->E.B F aiQ=true:=fun s0=>aAI p0 s0
 try simp only[aa,ab]at *
 grind
def au7:=fb ([XG]) (.not (cmp .lss (.int 60) u0))<|aq fun F p0=>by
 try simp only[aa,ab]at *
 have:=@cf F Bf
 grind
def aWa:=fb ([(fn 178 (pr Kv (pr Jh (pr Ft (pr JZ (pr Bf (pr zO Rn))))))),amV,(fn 152 (pr (var 43) (pr zO u0)))]) WI<|af fun F p0 p1 p2=>by
 have hr3:(E.I F kG=E.I F kG)->(E.I F (fn 0 zO)<=E.I F u0)->E.B F WI=true:=fun s0 s1=>avi p0 s0 p2 s1
 try simp only[aa,ab]at *
 grind
def aAb:=fb (amV::(.not (cmp .lss u0 (.int 1)))::Yc) (.not (cmp .lss (var 44) (.int 1)))<|af fun F p0 p1 p2=>by
 have:=@cf F zO
 try simp only[aa,ab]at *
 grind
def arK:=fb (XG::Yc) (.not (cmp .lss (.int 30) (var 44)))<|ak fun F p0 p1=>by
 try simp only[aa,ab]at *
 have:=@cf F Bf
 grind
def p63:List Fa:=[fK,aKS,aAQ,axn,aIW,al3,aXA,au7,aWa,aAb,arK]
def acC:List Ann:=(wj (some ni))::(xS (some oB))::[]
theorem aIJ:∀x∈acC,dZ Try.prog x:=by
 intro x hx;rcases List.mem_cons.1 hx with rfl|hx
 ·exact aBP
 rcases List.mem_cons.1 hx with rfl|hx
 ·exact aDv
 exact gL [] (by kernel_rfl) x hx
theorem aUB:aN Try.prog (aZ (aU6)):=
 P4 good (facts:=fl p63) (gh _) (anns:=acC) aIJ (nats:=fR.l) fR.h (n:=3000) (ms:=[]) (by kernel_rfl)
def adi:Nl:=nc aUB fR
def aXE:=fb ([ZD,(.not vp)]) (.iff (.bool false) qx)<|ak fun F p0 p1=>by
 have:=(@nP F kG pG oM pR o6 mC dA gj)
 try simp only[aa,ab]at *
 grind
def aqw:=fb F5 fW<|ak fun F p0 p1=>by
 try simp only[aa,ab]at *
 grind
def apY:=fb F5 LZ<|ak fun F p0 p1=>by
 have:=@ij F gj dA
 try simp only[aa,ab]at *
 grind
def aJP:=fb F5 Pa<|ak fun F p0 p1=>by
 have:=@ij F gj dA
 try simp only[aa,ab]at *
 grind
def aHU:=fb F5 lm<|ak fun F p0 p1=>by
 try simp only[aa,ab]at *
 grind
def aV3:=fb ([lm,fW,(fn 183 (pr (var 9) (pr (var 10) (pr oh (pr na (pr nf su))))))]) (.iff zx qx)<|af fun F p0 p1 p2=>by
 have:=(@nP F kG pG oM pR o6 mC dA gj)
 have:=jw p2
 try simp only[aa,ab]at *
 grind
def aTb:=fb ([lm,fW,(fn 183 (pr (var 9) (pr (var 10) (pr oh (pr na wR)))))]) (.iff zx qx)<|af fun F p0 p1 p2=>by
 have:=(@nP F kG pG oM pR o6 mC dA gj)
 have:=jw p2
 try simp only[aa,ab]at *
 grind
def p64:List Fa:=[fK,aXE,aqw,apY,aJP,aHU,aV3,aTb,aeJ]
theorem aUV:aN Try.prog (aZ (auA)):=sc p64 ([]) adi ([]) (by kernel_rfl) (by kernel_rfl)
def TQ:Nl:=nc aUV adi
def aTL:=fb afK aif<|ak fun F p0 p1=>by
 try simp only[aa,ab]at *
 grind
def aCM:=fb afK ade<|ak fun F p0 p1=>by
 try simp only[aa,ab]at *
 grind
def aXo:=fb ([lm,fW,(.iff zT yQ)]) zT<|af fun F p0 p1 p2=>by
 try simp only[aa,ab]at *
 grind
def aWn:=fb ([fW]) LZ<|aq fun F p0=>by
 have:=@ij F gj dA
 try simp only[aa,ab]at *
 grind
def aw1:=fb ([lm,fW,Bl,(.iff wq qx),(.iff BX qx)]) (.iff wq BX)<|aB fun F p0 p1 p2 p3 p4=>by
 have:=(@nP F kG pG oM pR o6 mC dA gj)
 have:=jw p2
 try simp only[aa,ab]at *
 grind
def apd:=fb acn (.not Ek)<|aj fun F p0 p1 p2 p3=>by
 try simp only[aa,ab]at *
 grind
def aIB:=fb acn Ek<|aj fun F p0 p1 p2 p3=>by
 try simp only[aa,ab]at *
 grind
def aCd:=fb ([lm,fW,wi,(.iff pe qx),(.iff nN qx)]) (.iff pe nN)<|aB fun F p0 p1 p2 p3 p4=>by
 have:=(@nP F kG pG oM pR o6 mC dA gj)
 have:=jw p2
 try simp only[aa,ab]at *
 grind
def au3:=fb ([lm,fW,(.iff nf yQ)]) nf<|af fun F p0 p1 p2=>by
 try simp only[aa,ab]at *
 grind
def aBH:=fb (lG::akn) (.iff oh na)<|af fun F p0 p1 p2=>by
 have:=(@nP F kG pG oM pR o6 mC dA gj)
 try simp only[aa,ab]at *
 grind
def aLK:=fb AK fW<|af fun F p0 p1 p2=>by
 try simp only[aa,ab]at *
 grind
def aF9:=fb akn (.iff oh na)<|ak fun F p0 p1=>by
 try simp only[aa,ab]at *
 grind
def aRP:=fb ([lm,fW,agt]) ww<|af fun F p0 p1 p2=>by
 try simp only[aa,ab]at *
 grind
def aJM:=fb ([fW]) Pa<|aq fun F p0=>by
 have:=@ij F gj dA
 try simp only[aa,ab]at *
 grind
def aoN:=fb AK LZ<|af fun F p0 p1 p2=>by
 try simp only[aa,ab]at *
 grind
def aRJ:=fb AK Pa<|af fun F p0 p1 p2=>by
 try simp only[aa,ab]at *
 grind
def aCF:=fb ([Bl,adR]) (.and (cmp .eql oh yO) (.and (cmp .eql na xL) (.and (cmp .eql nf Av) (.and (cmp .eql uU Nb) zx))))<|ak fun F p0 p1=>by
 obtain⟨hr30,hr31,hr32,hr33,hr34,hr35⟩:=Ax p0 p1
 clear hr35;try simp only[aa,ab]at *
 grind
def aru:=fb ([alk,Bl,(cmp .eql (fn 0 (var 25)) (var 26)),adR,(.iff (var 28) (.and (cmp .eql nN (var 26)) (fn 161 (pr pe (pr (var 25) nN)))))]) (var 28)<|aB fun F p0 p1 p2 p3 p4=>by
 obtain⟨hr30,hr31,hr32,hr33,hr34,hr35⟩:=Ax p1 p3
 have:=hr35 nN
 clear hr35;try simp only[aa,ab]at *
 grind
def ayU:=fb ([alk,(.not (cmp .lss nN (.int 1))),Bl]) (.not adY)<|af fun F p0 p1 p2=>by
 have hr2:E.B F adY=true->E.I F (fn 0 pe)=E.I F (fn 0 (fn 10 (.int 0))):=fun hneg=>(Ax p2 hneg).2.2.2.2.1
 have:=@aas F (.int 0)
 try simp only[aa,ab]at *
 grind
def asE:=fb ([Bl]) (.not lG)<|aq fun F p0=>by
 have:=jw p0
 try simp only[aa,ab]at *
 grind
def aPW:=fb ([lG]) ah4<|aq fun F p0=>by
 have hr1:E.B F ahA=true->¬E.B F lG=true:=fun hneg=>jw hneg
 try simp only[aa,ab]at *
 grind
def aOs:=fb ([lG,Bg]) (.not Jq)<|ak fun F p0 p1=>by
 have:=jw p1
 try simp only[aa,ab]at *
 grind
def awK:=fb ([lG,Bg]) Jq<|ak fun F p0 p1=>by
 have:=jw p1
 try simp only[aa,ab]at *
 grind
def aIm:=fb AK lm<|af fun F p0 p1 p2=>by
 try simp only[aa,ab]at *
 grind
def aHe:=fb ([wi,(cmp .eql (fn 0 xL) Av),(.not (cmp .lss Av (.int 1)))]) (.not agh)<|af fun F p0 p1 p2=>by
 have hr2:E.B F agh=true->E.I F (fn 0 (fn 10 (.int 0)))=E.I F (fn 0 xL):=fun hneg=>(Ax p0 hneg).2.2.2.2.1
 have:=@aas F (.int 0)
 try simp only[aa,ab]at *
 grind
def awE:=fb ([wi,(fn 183 (pr wq (pr BX (pr zT (pr yO wR)))))]) (.and (cmp .eql oh wq) (.and (cmp .eql na BX) (.and (cmp .eql nf zT) (.and (cmp .eql uU yO) zx))))<|ak fun F p0 p1=>by
 obtain⟨hr30,hr31,hr32,hr33,hr34,hr35⟩:=Ax p0 p1
 clear hr35;try simp only[aa,ab]at *
 grind
def aVV:=fb ([wi,lG]) (.not Ek)<|ak fun F p0 p1=>by
 have:=jw p0
 try simp only[aa,ab]at *
 grind
def aEk:=fb ([wi,lG]) Ek<|ak fun F p0 p1=>by
 have:=jw p0
 try simp only[aa,ab]at *
 grind
def aNa:=fb ([lG]) (.not Bg)<|aq fun F p0=>by
 have hr1:E.B F Bg=true->¬E.B F lG=true:=fun hneg=>jw hneg
 try simp only[aa,ab]at *
 grind
def aB6:=fb Ji ah4<|af fun F p0 p1 p2=>by
 try simp only[aa,ab]at *
 grind
def aSj:=fb Ji (.not Jq)<|af fun F p0 p1 p2=>by
 try simp only[aa,ab]at *
 grind
def aEe:=fb Ji Jq<|af fun F p0 p1 p2=>by
 try simp only[aa,ab]at *
 grind
def aw5:=fb AK (.not lG)<|af fun F p0 p1 p2=>by
 try simp only[aa,ab]at *
 grind
def auD:=fb ([wi]) (.not lG)<|aq fun F p0=>by
 have:=jw p0
 try simp only[aa,ab]at *
 grind
def aGB:=fb Ji (.not Bg)<|af fun F p0 p1 p2=>by
 try simp only[aa,ab]at *
 grind
def mF:List Fa:=[fK,aTL,aCM,aXo,aWn,aw1,apd,aIB,aCd,au3,aBH,aLK,aF9,aRP,aJM,aoN,aRJ,aCF,aru,ayU,asE,aPW,aOs,awK,aIm,aHe,awE,aVV,aEk,aNa,aB6,aSj,aEe,aw5,auD,aGB]
theorem W7:lM Try.prog (fun tb=>pt uk (run Try.prog (tb.plus (fl mF) [] TQ.l) 3000 (.call 4 aEU) .nil (qJ 8 RK) SX.one))=true:=by kernel_rfl

theorem walk{H:Type}(W:World)(base:Nat)(enc:TypeId×Value->H)(v0:Value)(d0:DataW H)(p0:List MemPlace)(v1:Value)(d1:DataW H)(p1:List MemPlace)(v2:Value)(d2:DataW H)(p2:List MemPlace)(v3:Value)(d3:DataW H)(p3:List MemPlace)
  (o0:Value.okWide Try.prog W .any base 22 v0)(h0:DataW.Trod enc Try.prog W 0 (fun _=>true) true 22 v0 d0 p0)
  (o1:Value.okWide Try.prog W .any base 34 v1)(h1:DataW.Trod enc Try.prog W 0 (fun _=>true) true 34 v1 d1 p1)
  (o2:Value.okWide Try.prog W .any base 3 v2)(h2:DataW.Trod enc Try.prog W 0 (fun _=>true) true 3 v2 d2 p2)
  (o3:Value.okWide Try.prog W .any base 42 v3)(h3:DataW.Trod enc Try.prog W 0 (fun _=>true) true 42 v3 d3 p3):
  Calls Try.prog 4 #[v0,v1,v2,v3] W fun e W'=>e=.returned (.bool true)/\Below W.heap.size W W':=by
 obtain⟨x0,rfl,k0,w0⟩:=aKZ (n:=9) (ks:=kC) Try.underlying22 (by kernel_rfl) o0 h0
 obtain⟨x1,rfl,l1,k1,w1,s1⟩:=ay1 aAR (n:=9) (ks:=kB) Try.underlying34 (by kernel_rfl) o1 h1
 obtain⟨x2,rfl,_,_,w2⟩:=open_int Try.underlying3 o2 h2
 have r2:=wa w2
 obtain⟨x3,x4,x5,x6,x7,rfl,w3,w4,w5,w6,w7⟩:=arX o3 h3
 have r3:=wa w3;have r4:=wa w4;have r5:=wa w5;have r6:=wa w6;have r7:=wa w7;have q0:=aSR w0;refine afX good (facts:=fl mF) (gh _) (anns:=[]) (gL _ (by kernel_rfl)) TQ.h (vs:=[x0,.lst x1,.int x2,.int x3,.int x4,.int x5,.int x6,.int x7]) (pc:=RK) W7 ?_ W ⟨k0,⟨⟨k1 0 _ rfl,trivial,trivial,trivial,trivial,trivial,k1 6 _ rfl,k1 7 _ rfl,k1 8 _ rfl,k1 9 _ rfl,trivial,trivial,trivial,trivial,trivial,trivial,trivial,trivial,trivial,trivial,k1 20 _ rfl,k1 21 _ rfl,k1 22 _ rfl,k1 23 _ rfl,trivial,trivial,trivial,trivial,trivial,k1 29 _ rfl,k1 30 _ rfl,k1 31 _ rfl,k1 32 _ rfl,trivial,trivial,trivial,trivial,trivial,trivial⟩,⟨trivial,⟨⟨trivial,trivial,trivial,trivial,trivial,trivial⟩,trivial⟩⟩⟩⟩;unfold RK;try simp only[aiB,aah,List.cons_append,List.nil_append]
 repeat' (refine aUr ?_ ?_)
 all_goals first
  |exact aEI
  |(exact azh l1 w1)
  |(first | exact q0 | skip;done)
  |(simp only[ag,iB,eV,Env.of,ZC,ayI,Zn,aod,getD_cons_zero,getD_cons_succ,aOH];omega)

set_option maxRecDepth 100000 in
theorem aQD(os:Os)(started:os.Started)(H:Type)(enc:TypeId×Value->H):
    ReturnsInHanded {} Try.checked os 4 .any (Rows.payPlansSpec.pre6 enc Try.prog Try.f4 Rows.payPlansRow.domain false) (Rows.payPlansSpec.post enc Try.prog Try.f4 false true false false):=by
  refine returnsInHanded_of_change (C:=Try.checked) own started (by kernel_rfl) Try.func4
    (ChangeSpec.witness6 (enc:=enc) (C:=Try.checked) false ⟨#[],#[.slice none 0 0,.agg #[.slice none 0 0,.int .i64 0,.int .i64 0,.int .i64 0,.int .i64 0,.int .i64 0,.slice none 0 0,.slice none 0 0,.slice none 0 0,.slice none 0 0,.bool false,.bool false,.bool false,.int .i64 0,.int .i64 0,.int .i64 0,.int .i64 0,.int .i64 0,.int .i64 0,.int .i64 0,.slice none 0 0,.slice none 0 0,.slice none 0 0,.slice none 0 0,.bool false,.bool false,.bool false,.int .i64 0,.int .i64 0,.slice none 0 0,.slice none 0 0,.slice none 0 0,.slice none 0 0,.int .i64 0,.int .i64 0,.int .i64 0,.int .i64 0,.int .i64 0],.int .i64 0,.agg #[.int .i64 0,.int .i64 0,.int .i64 0,.int .i64 0,.int .i64 0]],[]⟩ 8 (by kernel_rfl) (by kernel_rfl) (by kernel_rfl) (by kernel_rfl)) ?_
  intro W base args ds gs before hval0 hW hcnd _;have hval:∀(j:Nat) t v,Try.f4.params[j]? =some t->args[j]? =some v->Value.okWide Try.prog W .any base t v:=hval0;have hW':=hW
  obtain⟨p,q,hA0,hV,rfl,hfz,hnd⟩:=hW
  have hA:DataW.TrodAll enc Try.prog W 0 (fun _=>true) true Try.f4.params.toList args.toList ds p:=hA0
  rw[Try.params4]at hA hval
  obtain⟨v0,vs0,d0,ds0,p0,q0,hargs,rfl,rfl,h0,r0⟩:=trodAll_cons hA
  obtain⟨v1,vs1,d1,ds1,p1,q1,rfl,rfl,rfl,h1,r1⟩:=trodAll_cons r0
  obtain⟨v2,vs2,d2,ds2,p2,q2,rfl,rfl,rfl,h2,r2⟩:=trodAll_cons r1
  obtain⟨v3,vs3,d3,ds3,p3,q3,rfl,rfl,rfl,h3,r3⟩:=trodAll_cons r2
  obtain⟨rfl,rfl,rfl⟩:=trodAll_nil r3
  obtain rfl:args= #[v0,v1,v2,v3]:=by cases args;simp_all
  obtain⟨rfl,rfl⟩:=trodVars_none hV
  have lt0:∀x∈p0,x.block<W.heap.size:=by obtain⟨m,hm⟩:=h0;exact DataW.trod_lt m _ _ _ hm
  have lt1:∀x∈p1,x.block<W.heap.size:=by obtain⟨m,hm⟩:=h1;exact DataW.trod_lt m _ _ _ hm
  have lt2:∀x∈p2,x.block<W.heap.size:=by obtain⟨m,hm⟩:=h2;exact DataW.trod_lt m _ _ _ hm
  have lt3:∀x∈p3,x.block<W.heap.size:=by obtain⟨m,hm⟩:=h3;exact DataW.trod_lt m _ _ _ hm
  have o0:=hval 0 22 v0 rfl rfl;have o1:=hval 1 34 v1 rfl rfl;have o2:=hval 2 3 v2 rfl rfl;have o3:=hval 3 42 v3 rfl rfl;clear hA0 hval0
  refine(walk W base enc v0 d0 p0 v1 d1 p1 v2 d2 p2 v3 d3 p3 o0 h0 o1 h1 o2 h2 o3 h3).mono fun e W' ⟨he,bel⟩=>?_
  subst he
  exact⟨_,rfl,_,_,_,[],_,[],hW',trodAll_mk1 (shut_bool Try.underlying4 _),(trodAll_cons_mk (Below.trod laidOut (by kernel_rfl) (of_decide_eq_true (by kernel_rfl)) h0 bel lt0) (trodAll_cons_mk (Below.trod laidOut (by kernel_rfl) (of_decide_eq_true (by kernel_rfl)) h1 bel lt1) (trodAll_cons_mk (Below.trod laidOut (by kernel_rfl) (of_decide_eq_true (by kernel_rfl)) h2 bel lt2) (trodAll_cons_mk (Below.trod laidOut (by kernel_rfl) (of_decide_eq_true (by kernel_rfl)) h3 bel lt3) trodAll_mk0)))),rfl,bel.frame _,fun h=>by cases h⟩

theorem Qn:Rows.payPlansRow.holds Try.pinned (OpenSpec.ofChange Rows.payPlansSpec):=
 OpenClaim.holds_of_wide 4 Try.f4 rfl rfl rfl rfl rfl rfl rfl ⟨rfl,rfl,rfl,rfl,rfl⟩ rfl rfl rfl rfl rfl (by kernel_rfl) Try.func4 (by kernel_rfl)
  (of_decide_eq_true (by kernel_rfl)) (by unfold Func.isWrapper;first | (rw[if_pos (by decide +kernel)];kernel_rfl) | (rw[if_neg (by decide +kernel)];exact⟨rfl,rfl⟩))
  (fun os started H enc _=>aQD os started H enc)

theorem proved:Rows.PayPlansSaid:=Qn

end
end Go.Proofs.Ytnnbmcfabojjjaa.payPlans
