/-
  PayPlans: contracts of functions, part 15.
-/
import Derived.Test.YtnnbmcfabojjjaaRows
import Derived.Test.YtnnbmcfabojjjaaNat
import Derived.WalkKit
import Derived.ProofKit
import Derived.OpenShut
import Derived.ChangeOld
import Derived.Below
import Derived.KernelRfl
import Derived.Lib.SmallJoins
import Derived.Laws.IdiomArrays
import Derived.Test.YtnnbmcfabojjjaaPayPlansPartn
namespace Go.Proofs.Ytnnbmcfabojjjaa.payPlans
open Go.ChangeShapes Go.WideShapes Go.ChangeAt Go.RowKit
open Go.SX
open Go.SX.E (fn pr cmp var)
set_option linter.unusedVariables false
set_option linter.unusedSimpArgs false
set_option maxRecDepth 100000
noncomputable section
abbrev jY:E:=var 32
abbrev ko:E:=var 33
abbrev kf:E:=var 34
abbrev jH:E:=var 35
abbrev kn:E:=fn 188 (pr jY (pr ko (pr kf (pr jH (.int 0)))))
abbrev ki:E:=cmp .lss jY ko
abbrev rp:E:=cmp .lss ko kf
abbrev Dh:E:=cmp .lss kf jH
abbrev YY8:E:=cmp .lss (.int 0) jH
abbrev TZ:E:=.not YY8
abbrev RL:=[TZ]
abbrev TJ:=Dh::RL
abbrev au6:=rp::TJ
abbrev awx:=ki::au6
abbrev Hw:=kn::awx
abbrev ul:E:=.not (cmp .lss (var 41) (.int 0))
abbrev acd:E:=cmp .lss (.int 0) kf
abbrev Qc:E:=.not acd
abbrev ahm:=[Qc]
abbrev apO:=rp::ahm
abbrev aUv:=ki::apO
abbrev Fs:=kn::aUv
abbrev GN:E:=cmp .lss ko jH
abbrev aJq:=GN::RL
abbrev aRz:=ki::aJq
abbrev KX:=kn::aRz
abbrev aiq:E:=cmp .lss (.int 0) ko
abbrev anl:E:=.not aiq
abbrev aAU:=[anl]
abbrev azF:=ki::aAU
abbrev DN:=kn::azF
abbrev tI:E:=cmp .lss jY kf
abbrev aEs:=tI::TJ
abbrev KG:=kn::aEs
abbrev av1:=tI::ahm
abbrev Iy:=kn::av1
abbrev xj:E:=cmp .lss jY jH
abbrev aPk:=xj::RL
abbrev ER:=kn::aPk
abbrev jc:E:=var 42
abbrev i3:E:=var 7
abbrev mg:E:=cmp .lss jc i3
abbrev wL:E:=.not ki
abbrev Kw:E:=.not tI
abbrev Tk:E:=cmp .lss (.int 0) jY
abbrev eA:E:=var 36
abbrev afo:E:=cmp .eql (fn 0 eA) (.int 0)
abbrev aUU:E:=cmp .lss jc (.int 0)
abbrev Lz:E:=.not aUU
abbrev BL:E:=var 39
abbrev mJ:E:=var 3
abbrev mK:E:=var 4
abbrev lY:E:=var 5
abbrev lS:E:=var 6
abbrev Q9:E:=var 1
abbrev Ni:E:=pr mJ (pr mK (pr lY (pr lS (pr (var 0) (pr Q9 (pr (var 2) (.int 0)))))))
abbrev EZ:E:=fn 178 (pr jY (pr ko (pr kf (pr jH (pr eA (pr BL (pr (.int 4) (pr jc Ni))))))))
abbrev aPt:E:=pr Q9 (var 2)
abbrev aqM:E:=fn 145 aPt
abbrev adD:=[aqM,(fn 117 Q9)]
abbrev Wb:E:=pr (.int 4) (pr i3 Ni)
abbrev aR7:E:=pr lS i3
abbrev aKy:E:=pr lY aR7
abbrev aw2:E:=pr mK aKy
abbrev aFa:E:=pr mJ aw2
abbrev agr:E:=fn 146 aFa
abbrev arA:=[agr]
abbrev aKY:=kn::arA
abbrev aTr:=EZ::aKY
abbrev Gj:=Lz::aTr
abbrev Pm:=YY8::Gj
abbrev Zp:=Dh::Pm
abbrev aPh:E:=pr (.ar .add .i64 jc (.int 1)) Ni
abbrev abP:E:=pr (.int 4) aPh
abbrev aU7:E:=pr BL abP
abbrev aej:E:=pr eA aU7
abbrev Ju:E:=fn 178 (pr jY (pr ko (pr kf (pr (.ar .sub .i64 jH (.int 1)) aej))))
abbrev Dn:E:=var 40
abbrev ru:E:=.not (cmp .lss (.int 2147483648) (fn 6 (pr Dn (.int 1))))
abbrev aM0:=acd::Gj
abbrev amv:List E:=(.not Dh)::aM0
abbrev aiK:E:=pr jH aej
abbrev aHi:E:=pr (.ar .sub .i64 kf (.int 1)) aiK
abbrev aL1:E:=pr ko aHi
abbrev aNL:E:=pr jY aL1
abbrev aen:E:=fn 178 aNL
abbrev ajF:E:=pr kf aiK
abbrev M7:E:=.not afo
abbrev aMV:E:=cmp .lss (.int 30) (fn 6 (pr Dn (fn 0 eA)))
abbrev amr:E:=.not aMV
abbrev aTy:=[amr]
abbrev TW:=M7::aTy
abbrev sM:E:=cmp .eql (fn 6 (pr (fn 0 BL) (.int 1))) (fn 6 (pr Dn (.int 1)))
abbrev sh:E:=.not (cmp .lss (.int 30) (fn 6 (pr (fn 6 (pr Dn (.int 1))) (fn 0 (fn 24 (pr (pr (.int 1) eA) (pr (.int 1) (pr (fn 0 eA) (fn 22 eA)))))))))
abbrev Ia:=[TZ,kn]
abbrev sn:E:=fn 178 (pr jY (pr ko (pr kf (pr jH (pr (fn 24 (pr (pr (.int 1) eA) (pr (.int 1) (pr (fn 0 eA) (fn 22 eA))))) (pr (fn 3 (pr BL (fn 23 (pr (fn 1 (pr eA (.int 0))) (fn 10 (.int 0)))))) abP))))))
def aML:=fb Hw ul<|aB fun F p0 p1 p2 p3 p4=>by
 have:=(@ah F _ _ _ _).mp p0
 try simp only[aa]at *
 grind
def atj:=fb Fs ul<|aj fun F p0 p1 p2 p3=>by
 have:=(@ah F _ _ _ _).mp p0
 try simp only[aa]at *
 grind
def aH1:=fb KX ul<|aj fun F p0 p1 p2 p3=>by
 have:=(@ah F _ _ _ _).mp p0
 try simp only[aa]at *
 grind
def aJ6:=fb DN ul<|af fun F p0 p1 p2=>by
 have:=(@ah F _ _ _ _).mp p0
 try simp only[aa]at *
 grind
def atd:=fb KG ul<|aj fun F p0 p1 p2 p3=>by
 have:=(@ah F _ _ _ _).mp p0
 try simp only[aa]at *
 grind
def aKe:=fb Iy ul<|af fun F p0 p1 p2=>by
 have:=(@ah F _ _ _ _).mp p0
 try simp only[aa]at *
 grind
def aMe:=fb ER ul<|af fun F p0 p1 p2=>by
 have:=(@ah F _ _ _ _).mp p0
 try simp only[aa]at *
 grind
def azr:=fb (mg::wL::Kw::(.not xj)::(.not Tk)::afo::Lz::EZ::kn::adD) (fn 177 Wb)<|dH fun F p0 p1 p2 p3 p4 p5 p6 p7 p8 p9 ai=>by
 have hr3:(0<=E.I F _)->(E.I F _<E.I F _)->(E.I F _=0)->(E.I F _<=0)->(E.I F _<=0)->(E.I F _<=0)->(E.I F _<=0)->E.B F (fn _ (pr _ (pr i3 _)))=true:=fun s0 s1 s2 s3 s4 s5 s6=>aiV p7 p9 ai s0 s1 s2 s3 s4 s5 s6
 try simp only[aa]at *
 grind
def aL0:=fb ([(.not mg),(.not (cmp .lss i3 jc)),EZ]) (fn 178 (pr jY (pr ko (pr kf (pr jH (pr eA (pr BL Wb)))))))<|af fun F p0 p1 p2=>by
 have hr3:(E.I F _=E.I F _)->(E.I F _=E.I F _)->E.B F (fn _ (pr _ (pr _ (pr _ (pr _ (pr _ (pr _ (pr (.int 4) (pr i3 _)))))))))=true:=fun s0 s1=>wV p2 s0 s1
 try simp only[aa]at *
 grind
def aDc:=fb (mg::ki::rp::Zp) Ju<|bh fun F p0 p1 p2 p3 p4 p5 p6 p7 p8=>by
 have:=@aK F jH (.int 1)
 have:=@am F jc (.int 1)
 have:=@aO F mJ mK lY lS i3
 have:=(@ah F _ _ _ _).mp p7
 have hr3:(0<=E.I F _)->(E.I F _=E.I F _+1)->(0<E.I F _)->(E.I F _=E.I F _-1)->(E.I F _<E.I F _)->(E.I F _<E.I F _)->(E.I F _<E.I F _)->E.B F (fn _ (pr _ (pr _ (pr _ (pr (.ar .sub .i64 jH (.int 1)) (pr _ (pr _ (pr _ (pr (.ar .add .i64 jc (.int 1)) _)))))))))=true:=fun s0 s1 s2 s3 s4 s5 s6=>rl p6 s0 s1 s2 s3 s4 s5 s6
 try simp only[aa]at *
 grind
def aMh:=fb Hw ru<|aB fun F p0 p1 p2 p3 p4=>by
 have:=(@ah F _ _ _ _).mp p0
 try simp only[aa]at *
 grind
def aSS:=fb (mg::ki::rp::amv) aen<|bh fun F p0 p1 p2 p3 p4 p5 p6 p7 p8=>by
 have:=@aK F kf (.int 1)
 have:=@am F jc (.int 1)
 have:=@aO F mJ mK lY lS i3
 have:=(@ah F _ _ _ _).mp p7
 have hr3:(0<=E.I F _)->(E.I F _=E.I F _+1)->(0<E.I F _)->(E.I F _=E.I F _-1)->(E.I F _<E.I F _)->(E.I F _<E.I F _)->(E.I F _<=E.I F _)->E.B F (fn _ (pr _ (pr _ (pr (.ar .sub .i64 kf (.int 1)) (pr _ (pr _ (pr _ (pr _ (pr (.ar .add .i64 jc (.int 1)) _)))))))))=true:=fun s0 s1 s2 s3 s4 s5 s6=>Gl p6 s0 s1 s2 s3 s4 s5 s6
 try simp only[aa]at *
 grind
def arQ:=fb Fs ru<|aj fun F p0 p1 p2 p3=>by
 have:=(@ah F _ _ _ _).mp p0
 try simp only[aa]at *
 grind
def aBA:=fb (mg::ki::(.not rp)::GN::Pm) Ju<|bh fun F p0 p1 p2 p3 p4 p5 p6 p7 p8=>by
 have:=@aK F jH (.int 1)
 have:=@am F jc (.int 1)
 have:=@aO F mJ mK lY lS i3
 have:=(@ah F _ _ _ _).mp p7
 have hr3:(0<=E.I F _)->(E.I F _=E.I F _+1)->(0<E.I F _)->(E.I F _=E.I F _-1)->(E.I F _<E.I F _)->(E.I F _<E.I F _)->(E.I F _<E.I F _)->E.B F (fn _ (pr _ (pr _ (pr _ (pr (.ar .sub .i64 jH (.int 1)) (pr _ (pr _ (pr _ (pr (.ar .add .i64 jc (.int 1)) _)))))))))=true:=fun s0 s1 s2 s3 s4 s5 s6=>rl p6 s0 s1 s2 s3 s4 s5 s6
 try simp only[aa]at *
 grind
def aGW:=fb KX ru<|aj fun F p0 p1 p2 p3=>by
 have:=(@ah F _ _ _ _).mp p0
 try simp only[aa]at *
 grind
def aoO:=fb (mg::ki::(.not rp)::(.not GN)::aiq::Gj) (fn 178 (pr jY (pr (.ar .sub .i64 ko (.int 1)) ajF)))<|bh fun F p0 p1 p2 p3 p4 p5 p6 p7 p8=>by
 have:=@aK F ko (.int 1)
 have:=@am F jc (.int 1)
 have:=@aO F mJ mK lY lS i3
 have:=(@ah F _ _ _ _).mp p7
 have hr3:(0<=E.I F _)->(E.I F _=E.I F _+1)->(0<E.I F _)->(E.I F _=E.I F _-1)->(E.I F _<E.I F _)->(E.I F _<=E.I F _)->(E.I F _<=E.I F _)->E.B F (fn _ (pr _ (pr (.ar .sub .i64 ko (.int 1)) (pr _ (pr _ (pr _ (pr _ (pr _ (pr (.ar .add .i64 jc (.int 1)) _)))))))))=true:=fun s0 s1 s2 s3 s4 s5 s6=>acD p6 s0 s1 s2 s3 s4 s5 s6
 try simp only[aa]at *
 grind
def aVB:=fb DN ru<|af fun F p0 p1 p2=>by
 have:=(@ah F _ _ _ _).mp p0
 try simp only[aa]at *
 grind
def atE:=fb (mg::wL::tI::Zp) Ju<|bh fun F p0 p1 p2 p3 p4 p5 p6 p7 p8=>by
 have:=@aK F jH (.int 1)
 have:=@am F jc (.int 1)
 have:=@aO F mJ mK lY lS i3
 have:=(@ah F _ _ _ _).mp p7
 have hr3:(0<=E.I F _)->(E.I F _=E.I F _+1)->(0<E.I F _)->(E.I F _=E.I F _-1)->(E.I F _<E.I F _)->(E.I F _<E.I F _)->(E.I F _<E.I F _)->E.B F (fn _ (pr _ (pr _ (pr _ (pr (.ar .sub .i64 jH (.int 1)) (pr _ (pr _ (pr _ (pr (.ar .add .i64 jc (.int 1)) _)))))))))=true:=fun s0 s1 s2 s3 s4 s5 s6=>rl p6 s0 s1 s2 s3 s4 s5 s6
 try simp only[aa]at *
 grind
def aND:=fb KG ru<|aj fun F p0 p1 p2 p3=>by
 have:=(@ah F _ _ _ _).mp p0
 try simp only[aa]at *
 grind
def aIc:=fb (mg::wL::tI::amv) aen<|bh fun F p0 p1 p2 p3 p4 p5 p6 p7 p8=>by
 have:=@aK F kf (.int 1)
 have:=@am F jc (.int 1)
 have:=@aO F mJ mK lY lS i3
 have:=(@ah F _ _ _ _).mp p7
 have hr3:(0<=E.I F _)->(E.I F _=E.I F _+1)->(0<E.I F _)->(E.I F _=E.I F _-1)->(E.I F _<E.I F _)->(E.I F _<E.I F _)->(E.I F _<=E.I F _)->E.B F (fn _ (pr _ (pr _ (pr (.ar .sub .i64 kf (.int 1)) (pr _ (pr _ (pr _ (pr _ (pr (.ar .add .i64 jc (.int 1)) _)))))))))=true:=fun s0 s1 s2 s3 s4 s5 s6=>Gl p6 s0 s1 s2 s3 s4 s5 s6
 try simp only[aa]at *
 grind
def aDX:=fb Iy ru<|af fun F p0 p1 p2=>by
 have:=(@ah F _ _ _ _).mp p0
 try simp only[aa]at *
 grind
def aAo:=fb (mg::wL::Kw::xj::Pm) Ju<|bh fun F p0 p1 p2 p3 p4 p5 p6 p7 p8=>by
 have:=@aK F jH (.int 1)
 have:=@am F jc (.int 1)
 have:=@aO F mJ mK lY lS i3
 have:=(@ah F _ _ _ _).mp p7
 have hr3:(0<=E.I F _)->(E.I F _=E.I F _+1)->(0<E.I F _)->(E.I F _=E.I F _-1)->(E.I F _<E.I F _)->(E.I F _<E.I F _)->(E.I F _<E.I F _)->E.B F (fn _ (pr _ (pr _ (pr _ (pr (.ar .sub .i64 jH (.int 1)) (pr _ (pr _ (pr _ (pr (.ar .add .i64 jc (.int 1)) _)))))))))=true:=fun s0 s1 s2 s3 s4 s5 s6=>rl p6 s0 s1 s2 s3 s4 s5 s6
 try simp only[aa]at *
 grind
def avw:=fb ER ru<|af fun F p0 p1 p2=>by
 have:=(@ah F _ _ _ _).mp p0
 try simp only[aa]at *
 grind
def aoB:=fb (mg::wL::Kw::(.not xj)::Tk::Gj) (fn 178 (pr (.ar .sub .i64 jY (.int 1)) (pr ko ajF)))<|bh fun F p0 p1 p2 p3 p4 p5 p6 p7 p8=>by
 have:=@aK F jY (.int 1)
 have:=@am F jc (.int 1)
 have:=@aO F mJ mK lY lS i3
 have:=(@ah F _ _ _ _).mp p7
 have hr3:(0<=E.I F _)->(E.I F _=E.I F _+1)->(0<E.I F _)->(E.I F _=E.I F _-1)->(E.I F _<=E.I F _)->(E.I F _<=E.I F _)->(E.I F _<=E.I F _)->E.B F (fn _ (pr (.ar .sub .i64 jY (.int 1)) (pr _ (pr _ (pr _ (pr _ (pr _ (pr _ (pr (.ar .add .i64 jc (.int 1)) _)))))))))=true:=fun s0 s1 s2 s3 s4 s5 s6=>agj p6 s0 s1 s2 s3 s4 s5 s6
 try simp only[aa]at *
 grind
def aQy:=fb TW ru<|ak fun F p0 p1=>by
 try simp only[aa]at *
 have:=@cf F eA
 grind
def as4:=fb ([M7,amr,(.not (cmp .lss Dn (.int 1)))]) (.not (cmp .lss (.int 40) (fn 0 (fn 24 (pr (pr (.int 1) eA) (pr (.int 1) (pr (fn 0 eA) (fn 22 eA))))))))<|af fun F p0 p1 p2=>by
 have:=@Hc F (fn 22 eA) eA
 try simp only[aa]at *
 have:=@cf F eA
 grind
def aAl:=fb Hw sM<|aB fun F p0 p1 p2 p3 p4=>by
 have:=(@ah F _ _ _ _).mp p0
 try simp only[aa]at *
 grind
def aYD:=fb Fs sM<|aj fun F p0 p1 p2 p3=>by
 have:=(@ah F _ _ _ _).mp p0
 try simp only[aa]at *
 grind
def aWs:=fb KX sM<|aj fun F p0 p1 p2 p3=>by
 have:=(@ah F _ _ _ _).mp p0
 try simp only[aa]at *
 grind
def aEb:=fb DN sM<|af fun F p0 p1 p2=>by
 have:=(@ah F _ _ _ _).mp p0
 try simp only[aa]at *
 grind
def aUf:=fb KG sM<|aj fun F p0 p1 p2 p3=>by
 have:=(@ah F _ _ _ _).mp p0
 try simp only[aa]at *
 grind
def aKc:=fb Iy sM<|af fun F p0 p1 p2=>by
 have:=(@ah F _ _ _ _).mp p0
 try simp only[aa]at *
 grind
def aBh:=fb ER sM<|af fun F p0 p1 p2=>by
 have:=(@ah F _ _ _ _).mp p0
 try simp only[aa]at *
 grind
def azJ:=fb Hw sh<|aB fun F p0 p1 p2 p3 p4=>by
 have:=(@ah F _ _ _ _).mp p0
 try simp only[aa]at *
 grind
def ayc:=fb Fs sh<|aj fun F p0 p1 p2 p3=>by
 have:=(@ah F _ _ _ _).mp p0
 try simp only[aa]at *
 grind
def aUC:=fb KX sh<|aj fun F p0 p1 p2 p3=>by
 have:=(@ah F _ _ _ _).mp p0
 try simp only[aa]at *
 grind
def apE:=fb DN sh<|af fun F p0 p1 p2=>by
 have:=(@ah F _ _ _ _).mp p0
 try simp only[aa]at *
 grind
def aEW:=fb KG sh<|aj fun F p0 p1 p2 p3=>by
 have:=(@ah F _ _ _ _).mp p0
 try simp only[aa]at *
 grind
def ayK:=fb Iy sh<|af fun F p0 p1 p2=>by
 have:=(@ah F _ _ _ _).mp p0
 try simp only[aa]at *
 grind
def aCY:=fb ER sh<|af fun F p0 p1 p2=>by
 have:=(@ah F _ _ _ _).mp p0
 try simp only[aa]at *
 grind
def ax3:=fb TW sh<|ak fun F p0 p1=>by
 have:=@Hc F (fn 22 eA) eA
 try simp only[aa]at *
 have:=@cf F eA
 grind
def aNk:=fb (ki::rp::Dh::Ia) sn<|aB fun F p0 p1 p2 p3 p4=>by
 have:=(@ah F _ _ _ _).mp p4
 try simp only[aa]at *
 grind
def avO:=fb ([ki,rp,Qc,kn]) sn<|aj fun F p0 p1 p2 p3=>by
 have:=(@ah F _ _ _ _).mp p3
 try simp only[aa]at *
 grind
def aMy:=fb (ki::GN::Ia) sn<|aj fun F p0 p1 p2 p3=>by
 have:=(@ah F _ _ _ _).mp p3
 try simp only[aa]at *
 grind
def avq:=fb ([ki,anl,kn]) sn<|af fun F p0 p1 p2=>by
 have:=(@ah F _ _ _ _).mp p2
 try simp only[aa]at *
 grind
def auO:=fb (tI::Dh::Ia) sn<|aj fun F p0 p1 p2 p3=>by
 have:=(@ah F _ _ _ _).mp p3
 try simp only[aa]at *
 grind
def aU1:=fb ([tI,Qc,kn]) sn<|af fun F p0 p1 p2=>by
 have:=(@ah F _ _ _ _).mp p2
 try simp only[aa]at *
 grind
def aue:=fb (xj::Ia) sn<|af fun F p0 p1 p2=>by
 have:=(@ah F _ _ _ _).mp p2
 try simp only[aa]at *
 grind
def aq1:=fb (mg::wL::Kw::(.not xj)::(.not Tk)::M7::Lz::EZ::agr::adD) sn<|dH fun F p0 p1 p2 p3 p4 p5 p6 p7 p8 p9 ai=>by
 have:=@am F jc (.int 1)
 have:=@aO F mJ mK lY lS i3
 have hr3:(0<=E.I F _)->(E.I F _=E.I F _+1)->(0<E.I F _)->(E.I F _<=0)->(E.I F _<=0)->(E.I F _<=0)->(E.I F _<=0)->E.B F (fn _ (pr _ (pr _ (pr _ (pr _ (pr (fn 24 (pr _ (pr _ (pr _ (fn 22 eA))))) (pr _ (pr _ (pr (.ar .add .i64 jc (.int 1)) _)))))))))=true:=fun s0 s1 s2 s3 s4 s5 s6=>aHR p7 p9 ai s0 s1 s2 s3 s4 s5 s6
 try simp only[aa]at *
 have:=@cf F eA
 grind
def axG:List Fa:=[fK,ael,Vb,aML,aeB,UN,atj,aic,Zw,aH1,amj,afs,aJ6,adA,akK,atd,aa8,Vl,aKe,alZ,W4,aMe,E7,azr,LL,aL0,aDc,aMh,aSS,arQ,aBA,aGW,aoO,aVB,atE,aND,aIc,aDX,aAo,avw,aoB,aQy,afF,aiA,afu,ais,alC,acQ,aaz,aaE,as4,Xd,aAl,aYD,aWs,aEb,aUf,aKc,aBh,Ly,anh,azJ,ayc,aUC,apE,aEW,ayK,aCY,ax3,Vu,aNk,avO,aMy,avq,auO,aU1,aue,aq1,ZH,ac4,anK,aaO,al9,am0,YD,Zr,Vp,ai9,aix,aae,VN,VY,afR,afG,ads,acf,ahg,amG,aob,aip,abT,ai5,afr,acj,aiz,amN,WO,akv,WX,acX,agP,am5,ahY,Wl]
theorem aup:BodyOk Try.prog (xS (some oB)) oB (iw true).less (iw true).tmps {(iw true).st with pc:=(iw true).st.pc}:=
 kc good (facts:=fl axG) (gh _) (anns:=[]) (gL _ (by kernel_rfl)) (nats:=fR.l) fR.h (n:=3000) (by kernel_rfl) (by kernel_rfl)
theorem aYB:BodyOk Try.prog (xS (some oB)) oB (iw true).less (iw true).tmps (iw true).st:=aup
end
end Go.Proofs.Ytnnbmcfabojjjaa.payPlans
