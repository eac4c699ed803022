/-
  CombatBlocks: contracts of functions, part 12.
-/
import Derived.Test.YtnggbcblogpnfaaGreatCombatBlocksPartk
namespace Go.Proofs.YtnggbcblogpnfaaGreat.combatBlocks
open Go.ChangeShapes Go.WideShapes Go.ChangeAt Go.RowKit
open Go.SX
open Go.SX.E (fn pr cmp var)
set_option linter.unusedVariables false
set_option linter.unusedSimpArgs false
set_option maxRecDepth 100000
noncomputable section
abbrev cx:E:=var 2
abbrev IH:E:=cmp .lss cx (.int 0)
abbrev wU:E:=var 13
abbrev QQ3:E:=cmp .eql (.ar .and .i64 (.int 0) wU) wU
abbrev bv:E:=var 0
abbrev QQ5:E:=pr cx wU
abbrev QQ6:E:=pr bv QQ5
abbrev Vk:E:=fn 222 QQ6
abbrev Vm:E:=.iff QQ3 Vk
abbrev Ba:E:=.not IH
abbrev A0:E:=cmp .lss cx (fn 9 (pr bv (.int 14)))
abbrev A3:E:=cmp .eql cx (.int (-1))
abbrev UR:E:=.bool false
abbrev II:E:=fn 223 (pr bv cx)
abbrev UU:E:=.iff UR II
abbrev bB:E:=var 1
abbrev azO:E:=cmp .lss (.int 500) bB
abbrev IJ:E:=.not azO
abbrev azP:E:=cmp .lss bB (.int 1)
abbrev IK:E:=.not azP
abbrev UV:E:=fn 228 bv
abbrev azQ:E:=cmp .lss (.int 30) (fn 9 (pr bv (.int 12)))
abbrev azR:E:=.not azQ
abbrev UW:=[azR]
abbrev azS:=UV::UW
abbrev azT:=IK::azS
abbrev UX:=IJ::azT
abbrev aH:E:=var 8
abbrev aM:E:=var 9
abbrev A7:E:=cmp .lss aH aM
abbrev azU:E:=cmp .lss (fn 9 (pr bv (.int 12))) aM
abbrev IL:E:=.not azU
abbrev azV:E:=cmp .lss aH (.int 0)
abbrev IM:E:=.not azV
abbrev ll:=A7::IL::IM::UW
abbrev A8:E:=.not A7
abbrev A9:E:=cmp .lss aH (fn 9 (pr bv (.int 12)))
abbrev azW:E:=cmp .lss aM aH
abbrev UY:E:=.not azW
abbrev IN:=[UY]
abbrev azX:E:=cmp .lss (fn 9 (pr bv (.int 12))) aH
abbrev UZ:E:=.not azX
abbrev azY:=IL::IN
abbrev azZ:List E:=(.not A9)::azY
abbrev Va:=A8::azZ
abbrev az0:E:=pr aH aM
abbrev az1:E:=pr bB az0
abbrev az2:E:=pr bv az1
abbrev Vb:E:=fn 226 az2
abbrev az3:E:=cmp .eql (fn 1 (pr bv (fn 6 (pr (fn 8 (pr aH (.int 12))) (.int 0))))) bB
abbrev Vc:E:=.and A9 az3
abbrev Vd:E:=cmp .lss (.ar .sub .i64 (fn 1 (pr bv (fn 6 (pr (fn 8 (pr (.wr .i64 (.ar .shr .u64 (.wr .u64 (.ar .add .i64 aH aM)) (.int 1))) (.int 12))) (.int 0))))) bB) (.int 0)
abbrev az4:=IM::UX
abbrev az5:=IL::az4
abbrev Ve:=Vb::az5
abbrev sU:E:=fn 115 bv
abbrev jp:E:=var 3
abbrev Vf:E:=cmp .lss jp (fn 9 (pr (fn 1 (pr bv (.int 0))) (.int 12)))
abbrev az6:E:=cmp .lss jp (.int 0)
abbrev Vg:E:=.not az6
abbrev IP:E:=fn 226 (pr (fn 1 (pr bv (.int 0))) (pr bB (pr jp jp)))
abbrev az7:E:=cmp .lss (fn 120 (pr bv (pr bB (fn 9 (pr (fn 1 (pr bv (.int 0))) (.int 12)))))) (.int 0)
abbrev IQ:E:=.not az7
abbrev IR:=[IQ,sU]
abbrev Vh:=[Vg]
abbrev az8:E:=pr cx (fn 9 (pr (fn 1 (pr bB (.int 0))) (.int 12)))
abbrev az9:E:=pr bB az8
abbrev Vi:E:=pr bv az9
abbrev aAa:E:=pr (fn 10 (.int 0)) Vi
abbrev Vj:E:=fn 224 aAa
abbrev mN:E:=fn 117 bB
abbrev ba:E:=var 19
abbrev fN:E:=cmp .lss ba (fn 9 (pr (fn 1 (pr bB (.int 0))) (.int 12)))
abbrev aAb:E:=cmp .lss (fn 9 (pr (fn 1 (pr bB (.int 0))) (.int 12))) ba
abbrev IS:E:=.not aAb
abbrev mO:E:=var 17
abbrev aAc:E:=cmp .lss ba mO
abbrev Vl:E:=.not aAc
abbrev sV:E:=var 16
abbrev IT:E:=cmp .eql (fn 0 sV) mO
abbrev Vn:=[Vl,IT]
abbrev aAd:E:=pr cx ba
abbrev aAe:E:=pr bB aAd
abbrev Vo:E:=pr bv aAe
abbrev IU:E:=fn 224 (pr (fn 10 (.int 0)) Vo)
abbrev qh:E:=.not (cmp .lss ba (.int 0))
abbrev IV:=[fN,qh]
abbrev IW:=mN::IV
abbrev aAf:E:=pr sV Vo
abbrev aAg:E:=fn 224 aAf
abbrev Vp:=[aAg]
abbrev aAh:=qh::Vn
abbrev aAi:=fN::aAh
abbrev IX:=mN::aAi
abbrev sW:E:=cmp .eql (fn 1 (pr (fn 1 (pr bB (.int 0))) (fn 6 (pr (fn 8 (pr ba (.int 12))) (.int 2))))) cx
abbrev Vq:=mN::Vp
abbrev Bb:=qh::Vq
abbrev Bc:E:=pr bv (pr bB (pr cx (.ar .add .i64 ba (.int 1))))
abbrev Bd:E:=fn 224 (pr sV Bc)
abbrev qi:E:=var 20
abbrev sS:E:=.iff qi (fn 223 (pr bv (fn 1 (pr (fn 1 (pr bB (.int 0))) (fn 6 (pr (fn 8 (pr ba (.int 12))) (.int 1)))))))
abbrev wS:E:=cmp .eql cx (.int 0)
abbrev A1:E:=.not wS
abbrev azF:E:=cmp .lss (var 21) (.int (-1))
abbrev UN:E:=.not azF
abbrev wT:E:=cmp .lss (var 21) (.int 0)
abbrev sT:E:=.not wT
abbrev A2:E:=.iff sT (fn 114 (pr (fn 1 (pr bB (.int 22))) (fn 1 (pr (fn 1 (pr bB (.int 0))) (fn 6 (pr (fn 8 (pr ba (.int 12))) (.int 0)))))))
abbrev azG:E:=cmp .lss (.int 1) cx
abbrev UO:E:=.not azG
abbrev azH:=Ba::Vq
abbrev azI:=UO::azH
abbrev UP:=qh::azI
abbrev A4:E:=.iff sT (fn 114 (pr (fn 1 (pr bB (.int 8))) (fn 1 (pr (fn 1 (pr bB (.int 0))) (fn 6 (pr (fn 8 (pr ba (.int 12))) (.int 0)))))))
abbrev azJ:=[qh,mN]
abbrev A5:=IU::azJ
abbrev A6:E:=fn 224 (pr (fn 10 (.int 0)) Bc)
abbrev azK:=[UO,Ba,mN]
abbrev azL:=qh::azK
abbrev UQ:=IU::azL
abbrev azM:E:=pr (fn 23 (pr (fn 1 (pr (fn 1 (pr bB (.int 0))) (fn 6 (pr (fn 8 (pr ba (.int 12))) (.int 0))))) (fn 10 (.int 0)))) Bc
abbrev US:E:=fn 224 azM
abbrev azN:E:=pr (fn 3 (pr sV (fn 23 (pr (fn 1 (pr (fn 1 (pr bB (.int 0))) (fn 6 (pr (fn 8 (pr ba (.int 12))) (.int 0))))) (fn 10 (.int 0)))))) Bc
abbrev UT:E:=fn 224 azN
def Q4:=fb [IH] Vm<|ah fun F p0=>by
 have h:E.I F cx<0\/¬E.I F cx<E.I F (fn 9 (pr bv (.int 14))):=by
  simp only[aa]at *;omega
 exact acp h
def Q5:=fb [Ba,A0] (.iff (cmp .eql (.ar .and .i64 (fn 1 (pr bv (fn 6 (pr (fn 8 (pr cx (.int 14))) (.int 10))))) wU) wU) Vk)<|am fun F p0 p1=>by
 have h0:0<=E.I F cx:=by
  simp only[aa]at *;omega
 have h1:E.I F cx<E.I F (fn 9 (pr bv (.int 14))):=by
  simp only[aa]at *;omega
 exact aHl h0 h1
def Q7:=fb [(.not A0)] Vm<|ah fun F p0=>by
 have h:E.I F cx<0\/¬E.I F cx<E.I F (fn 9 (pr bv (.int 14))):=by
  simp only[aa]at *;omega
 exact acp h
def pA:List Fa:=[df,Q4,Q5,Q7]
theorem aLf:aL Tryz.prog (bh (agu 39)):=sc pA ([]) ad7 ([]) (by kernel_rfl) (by kernel_rfl)
def ad8:Nl:=nc aLf ad7
def E9:List Fa:=[df,Q4,Q5,Q7]
theorem aLg:aL Tryz.prog (bh (agu 48)):=sc E9 ([]) ad8 ([]) (by kernel_rfl) (by kernel_rfl)
def ad9:Nl:=nc aLg ad8
def Q8:=fb [(.not A3),IH] UU<|am fun F p0 p1=>by
 have hn:¬E.I F cx=-1:=by
  simp only[aa]at *;omega
 have h:E.I F cx<0\/¬E.I F cx<E.I F (fn 9 (pr bv (.int 14))):=by
  simp only[aa]at *;omega
 exact abc hn h
def Q9:=fb [(.not A3),Ba,A0] (.iff (cmp .eql (fn 1 (pr bv (fn 6 (pr (fn 8 (pr cx (.int 14))) (.int 1))))) (.int 2)) II)<|aj fun F p0 p1 p2=>by
 have hn:¬E.I F cx=-1:=by
  simp only[aa]at *;omega
 have h0:0<=E.I F cx:=by
  simp only[aa]at *;omega
 have h1:E.I F cx<E.I F (fn 9 (pr bv (.int 14))):=by
  simp only[aa]at *;omega
 exact aGE hn h0 h1
def Ra:=fb [(.not A3),(.not A0)] UU<|am fun F p0 p1=>by
 have hn:¬E.I F cx=-1:=by
  simp only[aa]at *;omega
 have h:E.I F cx<0\/¬E.I F cx<E.I F (fn 9 (pr bv (.int 14))):=by
  simp only[aa]at *;omega
 exact abc hn h
def Rb:=fb [A3] (.iff (.bool true) II)<|ah fun F p0=>by
 have hn:E.I F cx=-1:=by
  simp only[aa]at *;omega
 exact aGF hn
def p46:List Fa:=[df,Q8,Q9,Ra,Rb]
theorem aLh:aL Tryz.prog (bh (agr 70)):=sc p46 ([]) ad9 ([]) (by kernel_rfl) (by kernel_rfl)
def aea:Nl:=nc aLh ad9
def p47:List Fa:=[df,Q8,Q9,Ra,Rb]
theorem aLi:aL Tryz.prog (bh (agr 86)):=sc p47 ([]) aea ([]) (by kernel_rfl) (by kernel_rfl)
def aeb:Nl:=nc aLi aea
def asK:=fb UX (fn 226 (pr bv (pr bB (pr (.int 0) (fn 9 (pr bv (.int 12)))))))<|aw fun F p0 p1 p2 p3=>by
 exact aM3 (by simp only[aa]at *;omega) (by simp only[aa]at *;omega)
def asL:=fb ll (.not (cmp .lss (.wr .i64 (.ar .shr .u64 (.wr .u64 (.ar .add .i64 aH aM)) (.int 1))) (.int 0)))<|aw fun F p0 p1 p2 p3=>by
 have b0:0<=E.I F aH:=by
  simp only[aa,and_true]at *;omega
 have b1:0<=E.I F aM:=by
  simp only[aa,and_true]at *;omega
 have b2:E.I F aH<=1000:=by
  simp only[aa,and_true]at *;omega
 have b3:E.I F aM<=1000:=by
  simp only[aa,and_true]at *;omega
 have hm:=jl b0 b1 b2 b3;have m0:0<=E.I F (.wr .i64 (.ar .shr .u64 (.wr .u64 (.ar .add .i64 aH aM)) (.int 1))):=by
  rw[hm]
  simp only[aa,and_true]at *;omega
 obtain⟨w,ew,qw⟩:=ab (E.I F (fn 1 (pr bv (fn 6 (pr (fn 8 (pr (.wr .i64 (.ar .shr .u64 (.wr .u64 (.ar .add .i64 aH aM)) (.int 1))) (.int 12))) (.int 0)))))-E.I F bB)
 obtain⟨w1,ew1,qw1⟩:=ab (E.I F (.wr .i64 (.ar .shr .u64 (.wr .u64 (.ar .add .i64 aH aM)) (.int 1)))+1)
 simp only[aa,ae]at *;try simp only[ew,ew1]at *
 omega
def asM:=fb (A8::A9::IN) UZ<|aj fun F p0 p1 p2=>by
 try simp only[aa,ae]at *
 omega
def asN:=fb Va UZ<|aw fun F p0 p1 p2 p3=>by
 try simp only[aa,ae]at *
 omega
def asO:=fb ll (cmp .lss (.wr .i64 (.ar .shr .u64 (.wr .u64 (.ar .add .i64 aH aM)) (.int 1))) (fn 9 (pr bv (.int 12))))<|aw fun F p0 p1 p2 p3=>by
 have b0:0<=E.I F aH:=by
  simp only[aa,and_true]at *;omega
 have b1:0<=E.I F aM:=by
  simp only[aa,and_true]at *;omega
 have b2:E.I F aH<=1000:=by
  simp only[aa,and_true]at *;omega
 have b3:E.I F aM<=1000:=by
  simp only[aa,and_true]at *;omega
 have hm:=jl b0 b1 b2 b3;have m1:E.I F (.wr .i64 (.ar .shr .u64 (.wr .u64 (.ar .add .i64 aH aM)) (.int 1)))<E.I F (fn 9 (pr bv (.int 12))):=by
  rw[hm]
  simp only[aa,and_true]at *;omega
 simp only[aa,ae]at *;try simp only[ew,ew1]at *
 omega
def asP:=fb (A8::Vb::IN) (fn 226 (pr bv (pr bB (pr aH aH))))<|aj fun F p0 p1 p2=>by
 exact aM0 p1 (by simp only[aa]at *;omega)
def asQ:=fb ll (.not (cmp .lss (.ar .add .i64 (.wr .i64 (.ar .shr .u64 (.wr .u64 (.ar .add .i64 aH aM)) (.int 1))) (.int 1)) (.int 0)))<|aw fun F p0 p1 p2 p3=>by
 have b0:0<=E.I F aH:=by
  simp only[aa,and_true]at *;omega
 have b1:0<=E.I F aM:=by
  simp only[aa,and_true]at *;omega
 have b2:E.I F aH<=1000:=by
  simp only[aa,and_true]at *;omega
 have b3:E.I F aM<=1000:=by
  simp only[aa,and_true]at *;omega
 have hm:=jl b0 b1 b2 b3;have m0:0<=E.I F (.wr .i64 (.ar .shr .u64 (.wr .u64 (.ar .add .i64 aH aM)) (.int 1))):=by
  rw[hm]
  simp only[aa,and_true]at *;omega
 have m1:E.I F (.wr .i64 (.ar .shr .u64 (.wr .u64 (.ar .add .i64 aH aM)) (.int 1)))<E.I F (fn 9 (pr bv (.int 12))):=by
  rw[hm]
  simp only[aa,and_true]at *;omega
 obtain⟨w,ew,qw⟩:=ab (E.I F (fn 1 (pr bv (fn 6 (pr (fn 8 (pr (.wr .i64 (.ar .shr .u64 (.wr .u64 (.ar .add .i64 aH aM)) (.int 1))) (.int 12))) (.int 0)))))-E.I F bB)
 obtain⟨w1,ew1,qw1⟩:=ab (E.I F (.wr .i64 (.ar .shr .u64 (.wr .u64 (.ar .add .i64 aH aM)) (.int 1)))+1)
 simp only[aa,ae]at *;try simp only[ew,ew1]at *
 omega
def asR:=fb ll (.not (cmp .lss (.wr .i64 (.ar .shr .u64 (.wr .u64 (.ar .add .i64 aH aM)) (.int 1))) aH))<|aw fun F p0 p1 p2 p3=>by
 have b0:0<=E.I F aH:=by
  simp only[aa,and_true]at *;omega
 have b1:0<=E.I F aM:=by
  simp only[aa,and_true]at *;omega
 have b2:E.I F aH<=1000:=by
  simp only[aa,and_true]at *;omega
 have b3:E.I F aM<=1000:=by
  simp only[aa,and_true]at *;omega
 have:=jl b0 b1 b2 b3
 obtain⟨w,ew,qw⟩:=ab (E.I F (fn 1 (pr bv (fn 6 (pr (fn 8 (pr (.wr .i64 (.ar .shr .u64 (.wr .u64 (.ar .add .i64 aH aM)) (.int 1))) (.int 12))) (.int 0)))))-E.I F bB)
 obtain⟨w1,ew1,qw1⟩:=ab (E.I F (.wr .i64 (.ar .shr .u64 (.wr .u64 (.ar .add .i64 aH aM)) (.int 1)))+1)
 simp only[aa,ae]at *;try simp only[ew,ew1]at *
 omega
def asS:=fb [UV,A8,A9,UY,IM,IJ,IK] (.iff (cmp .eql (.ar .sub .i64 (fn 1 (pr bv (fn 6 (pr (fn 8 (pr aH (.int 12))) (.int 0))))) bB) (.int 0)) Vc)<|cH fun F p0 p1 p2 p3 p4 p5 p6=>by
 have:=LG p0 (i:=aH) (by simp only[aa]at *;omega) (by simp only[aa]at *;omega)
 obtain⟨w,ew,qw⟩:=ab (E.I F (fn 1 (pr bv (fn 6 (pr (fn 8 (pr aH (.int 12))) (.int 0)))))-E.I F bB)
 simp only[aa,ae]at *;try simp only[ew]at *
 omega
def asT:=fb Va (.iff UR Vc)<|aw fun F p0 p1 p2 p3=>by
 rw[bp]
 simp only[aa,Bool.false_eq_true]at *;simp_all;intro h;omega
def asU:=fb ll (.not (cmp .lss aM (.ar .add .i64 (.wr .i64 (.ar .shr .u64 (.wr .u64 (.ar .add .i64 aH aM)) (.int 1))) (.int 1))))<|aw fun F p0 p1 p2 p3=>by
 have b0:0<=E.I F aH:=by
  simp only[aa,and_true]at *;omega
 have b1:0<=E.I F aM:=by
  simp only[aa,and_true]at *;omega
 have b2:E.I F aH<=1000:=by
  simp only[aa,and_true]at *;omega
 have b3:E.I F aM<=1000:=by
  simp only[aa,and_true]at *;omega
 have hm:=jl b0 b1 b2 b3;have m0:0<=E.I F (.wr .i64 (.ar .shr .u64 (.wr .u64 (.ar .add .i64 aH aM)) (.int 1))):=by
  rw[hm]
  simp only[aa,and_true]at *;omega
 have m1:E.I F (.wr .i64 (.ar .shr .u64 (.wr .u64 (.ar .add .i64 aH aM)) (.int 1)))<E.I F (fn 9 (pr bv (.int 12))):=by
  rw[hm]
  simp only[aa,and_true]at *;omega
 obtain⟨w,ew,qw⟩:=ab (E.I F (fn 1 (pr bv (fn 6 (pr (fn 8 (pr (.wr .i64 (.ar .shr .u64 (.wr .u64 (.ar .add .i64 aH aM)) (.int 1))) (.int 12))) (.int 0)))))-E.I F bB)
 obtain⟨w1,ew1,qw1⟩:=ab (E.I F (.wr .i64 (.ar .shr .u64 (.wr .u64 (.ar .add .i64 aH aM)) (.int 1)))+1)
 simp only[aa,ae]at *;try simp only[ew,ew1]at *
 omega
def asV:=fb ll (.not (cmp .lss (fn 9 (pr bv (.int 12))) (.wr .i64 (.ar .shr .u64 (.wr .u64 (.ar .add .i64 aH aM)) (.int 1)))))<|aw fun F p0 p1 p2 p3=>by
 have b0:0<=E.I F aH:=by
  simp only[aa,and_true]at *;omega
 have b1:0<=E.I F aM:=by
  simp only[aa,and_true]at *;omega
 have b2:E.I F aH<=1000:=by
  simp only[aa,and_true]at *;omega
 have b3:E.I F aM<=1000:=by
  simp only[aa,and_true]at *;omega
 have hm:=jl b0 b1 b2 b3;have m1:E.I F (.wr .i64 (.ar .shr .u64 (.wr .u64 (.ar .add .i64 aH aM)) (.int 1)))<E.I F (fn 9 (pr bv (.int 12))):=by
  rw[hm]
  simp only[aa,and_true]at *;omega
 obtain⟨w,ew,qw⟩:=ab (E.I F (fn 1 (pr bv (fn 6 (pr (fn 8 (pr (.wr .i64 (.ar .shr .u64 (.wr .u64 (.ar .add .i64 aH aM)) (.int 1))) (.int 12))) (.int 0)))))-E.I F bB)
 obtain⟨w1,ew1,qw1⟩:=ab (E.I F (.wr .i64 (.ar .shr .u64 (.wr .u64 (.ar .add .i64 aH aM)) (.int 1)))+1)
 simp only[aa,ae]at *;try simp only[ew,ew1]at *
 omega
def asW:=fb (A7::Vd::Ve) (fn 226 (pr bv (pr bB (pr (.ar .add .i64 (.wr .i64 (.ar .shr .u64 (.wr .u64 (.ar .add .i64 aH aM)) (.int 1))) (.int 1)) aM))))<|dP fun F p0 p1 p2 p3 p4 p5 p6 p7 p8=>by
 have b0:0<=E.I F aH:=by
  simp only[aa,and_true]at *;omega
 have b1:0<=E.I F aM:=by
  simp only[aa,and_true]at *;omega
 have b2:E.I F aH<=1000:=by
  simp only[aa,and_true]at *;omega
 have b3:E.I F aM<=1000:=by
  simp only[aa,and_true]at *;omega
 have hm:=jl b0 b1 b2 b3;have m0:0<=E.I F (.wr .i64 (.ar .shr .u64 (.wr .u64 (.ar .add .i64 aH aM)) (.int 1))):=by
  rw[hm]
  simp only[aa,and_true]at *;omega
 have m1:E.I F (.wr .i64 (.ar .shr .u64 (.wr .u64 (.ar .add .i64 aH aM)) (.int 1)))<E.I F (fn 9 (pr bv (.int 12))):=by
  rw[hm]
  simp only[aa,and_true]at *;omega
 have:=LG p7 m0 m1
 have hv:E.I F (fn 1 (pr bv (fn 6 (pr (fn 8 (pr (.wr .i64 (.ar .shr .u64 (.wr .u64 (.ar .add .i64 aH aM)) (.int 1))) (.int 12))) (.int 0)))))<E.I F bB:=by
  obtain⟨w,ew,qw⟩:=ab (E.I F (fn 1 (pr bv (fn 6 (pr (fn 8 (pr (.wr .i64 (.ar .shr .u64 (.wr .u64 (.ar .add .i64 aH aM)) (.int 1))) (.int 12))) (.int 0)))))-E.I F bB)
  obtain⟨w1,ew1,qw1⟩:=ab (E.I F (.wr .i64 (.ar .shr .u64 (.wr .u64 (.ar .add .i64 aH aM)) (.int 1)))+1)
  simp only[aa,ae]at *;try simp only[ew,ew1]at *
  omega
 have hk:E.I F (.ar .add .i64 (.wr .i64 (.ar .shr .u64 (.wr .u64 (.ar .add .i64 aH aM)) (.int 1))) (.int 1))=E.I F (.wr .i64 (.ar .shr .u64 (.wr .u64 (.ar .add .i64 aH aM)) (.int 1)))+1:=by
  obtain⟨w,ew,qw⟩:=ab (E.I F (fn 1 (pr bv (fn 6 (pr (fn 8 (pr (.wr .i64 (.ar .shr .u64 (.wr .u64 (.ar .add .i64 aH aM)) (.int 1))) (.int 12))) (.int 0)))))-E.I F bB)
  obtain⟨w1,ew1,qw1⟩:=ab (E.I F (.wr .i64 (.ar .shr .u64 (.wr .u64 (.ar .add .i64 aH aM)) (.int 1)))+1)
  simp only[aa,ae]at *;try simp only[ew,ew1]at *
  omega
 exact aM1 p7 p2 m0 m1 hv hk
def asX:=fb (A7::(.not Vd)::Ve) (fn 226 (pr bv (pr bB (pr aH (.wr .i64 (.ar .shr .u64 (.wr .u64 (.ar .add .i64 aH aM)) (.int 1)))))))<|dP fun F p0 p1 p2 p3 p4 p5 p6 p7 p8=>by
 have b0:0<=E.I F aH:=by
  simp only[aa,and_true]at *;omega
 have b1:0<=E.I F aM:=by
  simp only[aa,and_true]at *;omega
 have b2:E.I F aH<=1000:=by
  simp only[aa,and_true]at *;omega
 have b3:E.I F aM<=1000:=by
  simp only[aa,and_true]at *;omega
 have hm:=jl b0 b1 b2 b3;have m0:0<=E.I F (.wr .i64 (.ar .shr .u64 (.wr .u64 (.ar .add .i64 aH aM)) (.int 1))):=by
  rw[hm]
  simp only[aa,and_true]at *;omega
 have m1:E.I F (.wr .i64 (.ar .shr .u64 (.wr .u64 (.ar .add .i64 aH aM)) (.int 1)))<E.I F (fn 9 (pr bv (.int 12))):=by
  rw[hm]
  simp only[aa,and_true]at *;omega
 have:=LG p7 m0 m1
 have hv:¬E.I F (fn 1 (pr bv (fn 6 (pr (fn 8 (pr (.wr .i64 (.ar .shr .u64 (.wr .u64 (.ar .add .i64 aH aM)) (.int 1))) (.int 12))) (.int 0)))))<E.I F bB:=by
  obtain⟨w,ew,qw⟩:=ab (E.I F (fn 1 (pr bv (fn 6 (pr (fn 8 (pr (.wr .i64 (.ar .shr .u64 (.wr .u64 (.ar .add .i64 aH aM)) (.int 1))) (.int 12))) (.int 0)))))-E.I F bB)
  obtain⟨w1,ew1,qw1⟩:=ab (E.I F (.wr .i64 (.ar .shr .u64 (.wr .u64 (.ar .add .i64 aH aM)) (.int 1)))+1)
  simp only[aa,ae]at *;try simp only[ew,ew1]at *
  omega
 exact aM2 p7 p2 m0 m1 hv
def asY:=fb ll (cmp .lss (fn 7 (pr aM (.ar .add .i64 (.wr .i64 (.ar .shr .u64 (.wr .u64 (.ar .add .i64 aH aM)) (.int 1))) (.int 1)))) (fn 7 (pr aM aH)))<|aw fun F p0 p1 p2 p3=>by
 have b0:0<=E.I F aH:=by
  simp only[aa,and_true]at *;omega
 have b1:0<=E.I F aM:=by
  simp only[aa,and_true]at *;omega
 have b2:E.I F aH<=1000:=by
  simp only[aa,and_true]at *;omega
 have b3:E.I F aM<=1000:=by
  simp only[aa,and_true]at *;omega
 have hm:=jl b0 b1 b2 b3;have m0:0<=E.I F (.wr .i64 (.ar .shr .u64 (.wr .u64 (.ar .add .i64 aH aM)) (.int 1))):=by
  rw[hm]
  simp only[aa,and_true]at *;omega
 have m1:E.I F (.wr .i64 (.ar .shr .u64 (.wr .u64 (.ar .add .i64 aH aM)) (.int 1)))<E.I F (fn 9 (pr bv (.int 12))):=by
  rw[hm]
  simp only[aa,and_true]at *;omega
 obtain⟨w,ew,qw⟩:=ab (E.I F (fn 1 (pr bv (fn 6 (pr (fn 8 (pr (.wr .i64 (.ar .shr .u64 (.wr .u64 (.ar .add .i64 aH aM)) (.int 1))) (.int 12))) (.int 0)))))-E.I F bB)
 obtain⟨w1,ew1,qw1⟩:=ab (E.I F (.wr .i64 (.ar .shr .u64 (.wr .u64 (.ar .add .i64 aH aM)) (.int 1)))+1)
 simp only[aa,ae]at *;try simp only[ew,ew1]at *
 omega
def asZ:=fb ll (cmp .lss (fn 7 (pr (.wr .i64 (.ar .shr .u64 (.wr .u64 (.ar .add .i64 aH aM)) (.int 1))) aH)) (fn 7 (pr aM aH)))<|aw fun F p0 p1 p2 p3=>by
 have b0:0<=E.I F aH:=by
  simp only[aa,and_true]at *;omega
 have b1:0<=E.I F aM:=by
  simp only[aa,and_true]at *;omega
 have b2:E.I F aH<=1000:=by
  simp only[aa,and_true]at *;omega
 have b3:E.I F aM<=1000:=by
  simp only[aa,and_true]at *;omega
 have:=jl b0 b1 b2 b3
 obtain⟨w,ew,qw⟩:=ab (E.I F (fn 1 (pr bv (fn 6 (pr (fn 8 (pr (.wr .i64 (.ar .shr .u64 (.wr .u64 (.ar .add .i64 aH aM)) (.int 1))) (.int 12))) (.int 0)))))-E.I F bB)
 obtain⟨w1,ew1,qw1⟩:=ab (E.I F (.wr .i64 (.ar .shr .u64 (.wr .u64 (.ar .add .i64 aH aM)) (.int 1)))+1)
 simp only[aa,ae]at *;try simp only[ew,ew1]at *
 omega
def as0:=fb ll (.not (cmp .lss (fn 7 (pr aM (.ar .add .i64 (.wr .i64 (.ar .shr .u64 (.wr .u64 (.ar .add .i64 aH aM)) (.int 1))) (.int 1)))) (.int 0)))<|aw fun F p0 p1 p2 p3=>by
 have b0:0<=E.I F aH:=by
  simp only[aa,and_true]at *;omega
 have b1:0<=E.I F aM:=by
  simp only[aa,and_true]at *;omega
 have b2:E.I F aH<=1000:=by
  simp only[aa,and_true]at *;omega
 have b3:E.I F aM<=1000:=by
  simp only[aa,and_true]at *;omega
 have hm:=jl b0 b1 b2 b3;have m0:0<=E.I F (.wr .i64 (.ar .shr .u64 (.wr .u64 (.ar .add .i64 aH aM)) (.int 1))):=by
  rw[hm]
  simp only[aa,and_true]at *;omega
 have m1:E.I F (.wr .i64 (.ar .shr .u64 (.wr .u64 (.ar .add .i64 aH aM)) (.int 1)))<E.I F (fn 9 (pr bv (.int 12))):=by
  rw[hm]
  simp only[aa,and_true]at *;omega
 obtain⟨w,ew,qw⟩:=ab (E.I F (fn 1 (pr bv (fn 6 (pr (fn 8 (pr (.wr .i64 (.ar .shr .u64 (.wr .u64 (.ar .add .i64 aH aM)) (.int 1))) (.int 12))) (.int 0)))))-E.I F bB)
 obtain⟨w1,ew1,qw1⟩:=ab (E.I F (.wr .i64 (.ar .shr .u64 (.wr .u64 (.ar .add .i64 aH aM)) (.int 1)))+1)
 simp only[aa,ae]at *;try simp only[ew,ew1]at *
 omega
def as1:=fb ll (.not (cmp .lss (fn 7 (pr (.wr .i64 (.ar .shr .u64 (.wr .u64 (.ar .add .i64 aH aM)) (.int 1))) aH)) (.int 0)))<|aw fun F p0 p1 p2 p3=>by
 have b0:0<=E.I F aH:=by
  simp only[aa,and_true]at *;omega
 have b1:0<=E.I F aM:=by
  simp only[aa,and_true]at *;omega
 have b2:E.I F aH<=1000:=by
  simp only[aa,and_true]at *;omega
 have b3:E.I F aM<=1000:=by
  simp only[aa,and_true]at *;omega
 have:=jl b0 b1 b2 b3
 obtain⟨w,ew,qw⟩:=ab (E.I F (fn 1 (pr bv (fn 6 (pr (fn 8 (pr (.wr .i64 (.ar .shr .u64 (.wr .u64 (.ar .add .i64 aH aM)) (.int 1))) (.int 12))) (.int 0)))))-E.I F bB)
 obtain⟨w1,ew1,qw1⟩:=ab (E.I F (.wr .i64 (.ar .shr .u64 (.wr .u64 (.ar .add .i64 aH aM)) (.int 1)))+1)
 simp only[aa,ae]at *;try simp only[ew,ew1]at *
 omega
def Fb:List Fa:=[df,asK,asL,asM,asN,asO,asP,asQ,asR,asS,asT,asU,asV,asW,asX,asY,asZ,as0,as1]
theorem aLj:aL Tryz.prog (bh (aJU)):=sc Fb (aES) aeb ([]) (by kernel_rfl) (by kernel_rfl)
def aed:Nl:=nc aLj aeb
def as2:=fb [sU,(.iff cx sU)] cx<|am fun F p0 p1=>by
 simp only[aa]at *;grind
def as3:=fb ((.iff (var 4) (.and Vf (cmp .eql (fn 1 (pr (fn 1 (pr bv (.int 0))) (fn 6 (pr (fn 8 (pr jp (.int 12))) (.int 0))))) bB)))::Vg::IP::IR) (var 4)<|aJ fun F p0 p1 p2 p3 p4=>by
 have hx:=p3;simp only[aa]at hx;have h0:0<=E.I F jp:=by
  simp only[aa,and_true]at *;omega
 have:=NZ p4 p2 h0 hx
 simp only[aa]at *;grind
def as4:=fb [sU] (fn 228 (fn 1 (pr bv (.int 0))))<|ah fun F p0=>by
 exact aha p0
def as5:=fb IR IK<|am fun F p0 p1=>by
 have hx:=p0;simp only[aa]at hx
 have:=agN p1 hx
 simp only[aa]at *;omega
def as6:=fb IR IJ<|am fun F p0 p1=>by
 have hx:=p0;simp only[aa]at hx
 have:=agN p1 hx
 simp only[aa]at *;omega
def as7:=fb (IQ::sU::IP::(.not (cmp .lss (fn 9 (pr (fn 1 (pr bv (.int 0))) (.int 12))) jp))::Vh) Vf<|aJ fun F p0 p1 p2 p3 p4=>by
 have hx:=p0;simp only[aa]at hx;have h0:0<=E.I F jp:=by
  simp only[aa,and_true]at *;omega
 have:=NZ p1 p2 h0 hx
 simp only[aa]at *;grind
def as8:=fb (IQ::sU::IP::Vh) (cmp .eql jp (fn 120 (pr bv (pr bB (fn 9 (pr (fn 1 (pr bv (.int 0))) (.int 12)))))))<|aw fun F p0 p1 p2 p3=>by
 have hx:=p0;simp only[aa]at hx;have h0:0<=E.I F jp:=by
  simp only[aa,and_true]at *;omega
 have:=NZ p1 p2 h0 hx
 simp only[aa]at *;grind
def p49:List Fa:=[df,as2,as3,Ae,as4,as5,as6,as7,as8]
theorem aLk:aL Tryz.prog (bh (aJ8)):=sc p49 ([]) aed ([]) (by kernel_rfl) (by kernel_rfl)
def aee:Nl:=nc aLk aed
def as9:=fb [(.iff jp (fn 115 bB)),(.not jp),(fn 115 bB)] Vj<|aj fun F p0 p1 p2=>by
 simp only[aa,bp,aS]at *;grind
def ata:=fa ((fn 224 (pr (fn 10 (.int 0)) (pr bv (pr bB (pr cx (.int 0)))))))<|fun F=>by
 exact aMW (by simp only[aa]at *;omega)
def atb:=fb [mN] (.not (cmp .lss (.int 1000) (fn 0 (fn 1 (pr bB (.int 8))))))<|ah fun F p0=>by
 have:=ai p0
 try simp only[aa,ae]at *
 have:=@bz F (fn 1 (pr bB (.int 8)))
 omega
def atc:=fb [mN] (.not (cmp .lss (.int 1000) (fn 0 (fn 1 (pr bB (.int 22))))))<|ah fun F p0=>by
 have:=ai p0
 try simp only[aa,ae]at *
 have:=@bz F (fn 1 (pr bB (.int 22)))
 omega
def atd:=fb (mN::(.not fN)::IS::Vn) (.not (cmp .lss (.int 30) mO))<|aJ fun F p0 p1 p2 p3 p4=>by
 have:=ai p0
 try simp only[aa,ae]at *
 omega
def ate:=fb [(.not fN),IU,IS] Vj<|aj fun F p0 p1 p2=>by
 exact ag5 p1 (by simp only[aa]at *;omega)
def atf:=fb IW (.not (cmp .lss (.ar .add .i64 ba (.int 1)) (.int 0)))<|aj fun F p0 p1 p2=>by
 have:=ai p0
 try simp only[aa,ae]at *
 obtain⟨a8,ea8,qa8⟩:=ab ((E.I F ba)+(1))
 try simp only[ea8]at *
 omega
def atg:=fb [mN,fN,qh,Vl,IT,(.not (cmp .lss (var 18) mO)),(.not (cmp .lss mO (.int 1)))] (.not (cmp .lss (var 18) (.int 0)))<|cH fun F p0 p1 p2 p3 p4 p5 p6=>by
 have:=ai p0
 try simp only[aa,ae]at *
 omega
def ath:=fb ((.not fN)::IS::Vp) (fn 224 (pr sV Vi))<|aj fun F p0 p1 p2=>by
 exact ag5 p2 (by simp only[aa]at *;omega)
def ati:=fb IV (.not (cmp .lss (fn 9 (pr (fn 1 (pr bB (.int 0))) (.int 12))) (.ar .add .i64 ba (.int 1))))<|am fun F p0 p1=>by
 try simp only[aa,ae]at *
 obtain⟨a8,ea8,qa8⟩:=ab ((E.I F ba)+(1))
 try simp only[ea8]at *
 omega
def atj:=fb IX (.not (cmp .lss (.int 2147483648) (fn 6 (pr mO (.int 1)))))<|aJ fun F p0 p1 p2 p3 p4=>by
 have:=ai p0
 try simp only[aa,ae]at *
 omega
def atl:=fb (fN::(.not sW)::Bb) Bd<|aJ fun F p0 p1 p2 p3 p4=>by
 have:=(ai p3).2.2.1.2.2.1
 have h0:0<=E.I F ba:=by
  simp only[aa]at *;omega
 have hn:E.I F (.ar .add .i64 ba (.int 1))=E.I F ba+1:=by
  simp only[aa,ae]at *
  obtain⟨w,ew,qw⟩:=ab (E.I F ba+1)
  simp only[ew];omega
 refine Gs p4 h0 hn ?_;simp only[aa,bp,aS]at *;grind
def atm:=fb (fN::sS::(.not qi)::Bb) Bd<|bL fun F p0 p1 p2 p3 p4 p5=>by
 have:=(ai p4).2.2.1.2.2.1
 have h0:0<=E.I F ba:=by
  simp only[aa]at *;omega
 have hn:E.I F (.ar .add .i64 ba (.int 1))=E.I F ba+1:=by
  simp only[aa,ae]at *
  obtain⟨w,ew,qw⟩:=ab (E.I F ba+1)
  simp only[ew];omega
 refine Gs p5 h0 hn ?_;simp only[aa,bp,aS]at *;grind
def atn:=fb (fN::A1::UN::A2::wT::UP) Bd<|eT fun F p0 p1 p2 p3 p4 p5 p6 p7 p8 p9=>by
 have:=(ai p8).2.2.1.2.2.1
 have h0:0<=E.I F ba:=by
  simp only[aa]at *;omega
 have hn:E.I F (.ar .add .i64 ba (.int 1))=E.I F ba+1:=by
  simp only[aa,ae]at *
  obtain⟨w,ew,qw⟩:=ab (E.I F ba+1)
  simp only[ew];omega
 have hL:=@Dy F cx bB (by simp only[aa]at *;omega);refine Gr p9 hL h0 hn ?_;simp only[aa,bp,aS]at *;grind
def ato:=fb (fN::wS::A4::wT::Bb) Bd<|cH fun F p0 p1 p2 p3 p4 p5 p6=>by
 have:=(ai p5).2.2.1.2.2.1
 have h0:0<=E.I F ba:=by
  simp only[aa]at *;omega
 have hn:E.I F (.ar .add .i64 ba (.int 1))=E.I F ba+1:=by
  simp only[aa,ae]at *
  obtain⟨w,ew,qw⟩:=ab (E.I F ba+1)
  simp only[ew];omega
 have hL:=@Dx F cx bB (by simp only[aa]at *;omega);refine Gr p6 hL h0 hn ?_;simp only[aa,bp,aS]at *;grind
def atp:=fb (fN::(.not sW)::A5) A6<|aJ fun F p0 p1 p2 p3 p4=>by
 have:=(ai p4).2.2.1.2.2.1
 have h0:0<=E.I F ba:=by
  simp only[aa]at *;omega
 have hn:E.I F (.ar .add .i64 ba (.int 1))=E.I F ba+1:=by
  simp only[aa,ae]at *
  obtain⟨w,ew,qw⟩:=ab (E.I F ba+1)
  simp only[ew];omega
 refine Gs p2 h0 hn ?_;simp only[aa,bp,aS]at *;grind
def atq:=fb (fN::sS::(.not qi)::A5) A6<|bL fun F p0 p1 p2 p3 p4 p5=>by
 have:=(ai p5).2.2.1.2.2.1
 have h0:0<=E.I F ba:=by
  simp only[aa]at *;omega
 have hn:E.I F (.ar .add .i64 ba (.int 1))=E.I F ba+1:=by
  simp only[aa,ae]at *
  obtain⟨w,ew,qw⟩:=ab (E.I F ba+1)
  simp only[ew];omega
 refine Gs p3 h0 hn ?_;simp only[aa,bp,aS]at *;grind
def atr:=fb (fN::sW::sS::qi::A1::A2::sT::UQ) US<|jE fun F p0 p1 p2 p3 p4 p5 p6 p7 p8 p9 ak ao=>by
 have:=(ai ao).2.2.1.2.2.1
 have h0:0<=E.I F ba:=by
  simp only[aa]at *;omega
 have hn:E.I F (.ar .add .i64 ba (.int 1))=E.I F ba+1:=by
  simp only[aa,ae]at *
  obtain⟨w,ew,qw⟩:=ab (E.I F ba+1)
  simp only[ew];omega
 have hL:=@Dy F cx bB (by simp only[aa]at *;omega);refine ag6 p7 hL h0 hn ?_ ?_ ?_
 ·simp only[aa]at *;omega
 ·simp only[aa,bp,aS]at *;grind
 ·simp only[aa,bp,aS]at *;grind
def ats:=fb (fN::A1::UN::A2::wT::UQ) A6<|eT fun F p0 p1 p2 p3 p4 p5 p6 p7 p8 p9=>by
 have:=(ai p9).2.2.1.2.2.1
 have h0:0<=E.I F ba:=by
  simp only[aa]at *;omega
 have hn:E.I F (.ar .add .i64 ba (.int 1))=E.I F ba+1:=by
  simp only[aa,ae]at *
  obtain⟨w,ew,qw⟩:=ab (E.I F ba+1)
  simp only[ew];omega
 have hL:=@Dy F cx bB (by simp only[aa]at *;omega);refine Gr p5 hL h0 hn ?_;simp only[aa,bp,aS]at *;grind
def att:=fb (fN::sW::sS::qi::wS::A4::sT::A5) US<|eT fun F p0 p1 p2 p3 p4 p5 p6 p7 p8 p9=>by
 have:=(ai p9).2.2.1.2.2.1
 have h0:0<=E.I F ba:=by
  simp only[aa]at *;omega
 have hn:E.I F (.ar .add .i64 ba (.int 1))=E.I F ba+1:=by
  simp only[aa,ae]at *
  obtain⟨w,ew,qw⟩:=ab (E.I F ba+1)
  simp only[ew];omega
 have hL:=@Dx F cx bB (by simp only[aa]at *;omega);refine ag6 p7 hL h0 hn ?_ ?_ ?_
 ·simp only[aa]at *;omega
 ·simp only[aa,bp,aS]at *;grind
 ·simp only[aa,bp,aS]at *;grind
def atu:=fb (fN::wS::A4::wT::A5) A6<|cH fun F p0 p1 p2 p3 p4 p5 p6=>by
 have:=(ai p6).2.2.1.2.2.1
 have h0:0<=E.I F ba:=by
  simp only[aa]at *;omega
 have hn:E.I F (.ar .add .i64 ba (.int 1))=E.I F ba+1:=by
  simp only[aa,ae]at *
  obtain⟨w,ew,qw⟩:=ab (E.I F ba+1)
  simp only[ew];omega
 have hL:=@Dx F cx bB (by simp only[aa]at *;omega);refine Gr p4 hL h0 hn ?_;simp only[aa,bp,aS]at *;grind
def atv:=fb IX (.not (cmp .lss (.ar .add .i64 ba (.int 1)) mO))<|aJ fun F p0 p1 p2 p3 p4=>by
 have:=ai p0
 try simp only[aa,ae]at *
 obtain⟨a8,ea8,qa8⟩:=ab ((E.I F ba)+(1))
 try simp only[ea8]at *
 omega
def atw:=fb IW (cmp .lss (fn 7 (pr (fn 9 (pr (fn 1 (pr bB (.int 0))) (.int 12))) (.ar .add .i64 ba (.int 1)))) (fn 7 (pr (fn 9 (pr (fn 1 (pr bB (.int 0))) (.int 12))) ba)))<|aj fun F p0 p1 p2=>by
 have:=ai p0
 try simp only[aa,ae]at *
 obtain⟨a5,ea5,qa5⟩:=ab ((E.I F ba)+(1))
 try simp only[ea5]at *
 omega
def atx:=fb IW (.not (cmp .lss (.ar .add .i64 ba (.int 1)) (.int 1)))<|aj fun F p0 p1 p2=>by
 have:=ai p0
 try simp only[aa,ae]at *
 obtain⟨a7,ea7,qa7⟩:=ab ((E.I F ba)+(1))
 try simp only[ea7]at *
 omega
def aty:=fb (fN::sW::sS::qi::A1::A2::sT::UP) UT<|jE fun F p0 p1 p2 p3 p4 p5 p6 p7 p8 p9 ak ao=>by
 have:=(ai ak).2.2.1.2.2.1
 have h0:0<=E.I F ba:=by
  simp only[aa]at *;omega
 have hn:E.I F (.ar .add .i64 ba (.int 1))=E.I F ba+1:=by
  simp only[aa,ae]at *
  obtain⟨w,ew,qw⟩:=ab (E.I F ba+1)
  simp only[ew];omega
 have hL:=@Dy F cx bB (by simp only[aa]at *;omega);refine NY ao hL h0 hn ?_ ?_ ?_
 ·simp only[aa]at *;omega
 ·simp only[aa,bp,aS]at *;grind
 ·simp only[aa,bp,aS]at *;grind
def atz:=fb (fN::sW::sS::qi::wS::A4::sT::Bb) UT<|eT fun F p0 p1 p2 p3 p4 p5 p6 p7 p8 p9=>by
 have:=(ai p8).2.2.1.2.2.1
 have h0:0<=E.I F ba:=by
  simp only[aa]at *;omega
 have hn:E.I F (.ar .add .i64 ba (.int 1))=E.I F ba+1:=by
  simp only[aa,ae]at *
  obtain⟨w,ew,qw⟩:=ab (E.I F ba+1)
  simp only[ew];omega
 have hL:=@Dx F cx bB (by simp only[aa]at *;omega);refine NY p9 hL h0 hn ?_ ?_ ?_
 ·simp only[aa]at *;omega
 ·simp only[aa,bp,aS]at *;grind
 ·simp only[aa,bp,aS]at *;grind
def atA:=fb IV (.not (cmp .lss (fn 7 (pr (fn 9 (pr (fn 1 (pr bB (.int 0))) (.int 12))) (.ar .add .i64 ba (.int 1)))) (.int 0)))<|am fun F p0 p1=>by
 try simp only[aa,ae]at *
 obtain⟨a5,ea5,qa5⟩:=ab ((E.I F ba)+(1))
 try simp only[ea5]at *
 omega
def Re:=fb [IT] (cmp .eql (fn 6 (pr (fn 0 sV) (.int 1))) (fn 6 (pr mO (.int 1))))<|ah fun F p0=>by
 try simp only[aa,ae]at *
 omega
def atB:=fb IX (.not (cmp .lss (.ar .add .i64 ba (.int 1)) (fn 6 (pr mO (.int 1)))))<|aJ fun F p0 p1 p2 p3 p4=>by
 have:=ai p0
 try simp only[aa,ae]at *
 obtain⟨a10,ea10,qa10⟩:=ab ((E.I F ba)+(1))
 try simp only[ea10]at *
 omega
def p50:List Fa:=[df,as9,ata,atb,atc,atd,ate,atf,atg,ath,ati,atj,atl,atm,atn,ato,atp,atq,atr,ats,att,atu,atv,atw,atx,aty,atz,atA,Re,atB]
theorem aLm:aL Tryz.prog (bh (aJ1)):=sc p50 (aEX) aee (aIw) (by kernel_rfl) (by kernel_rfl)
def aef:Nl:=nc aLm aee
end
end Go.Proofs.YtnggbcblogpnfaaGreat.combatBlocks
