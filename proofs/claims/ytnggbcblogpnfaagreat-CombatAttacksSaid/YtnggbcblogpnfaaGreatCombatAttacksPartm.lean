/-
  CombatAttacks: contracts of functions, part 13.
-/
import Derived.Test.YtnggbcblogpnfaaGreatCombatAttacksPartl
namespace Go.Proofs.YtnggbcblogpnfaaGreat.combatAttacks
open Go.ChangeShapes Go.WideShapes Go.ChangeAt Go.RowKit
open Go.SX
open Go.SX.E (fn pr cmp var)
set_option linter.unusedVariables false
set_option linter.unusedSimpArgs false
set_option maxRecDepth 100000
noncomputable section
abbrev aE:E:=var 1
abbrev lW:E:=fn 117 aE
abbrev dc:E:=var 2
abbrev vM:E:=.not (cmp .lss (fn 120 (pr aE (pr dc (fn 9 (pr (fn 1 (pr aE (.int 0))) (.int 12)))))) (.int 0))
abbrev bM:E:=var 3
abbrev An:E:=cmp .eql bM (fn 120 (pr aE (pr dc (fn 9 (pr (fn 1 (pr aE (.int 0))) (.int 12))))))
abbrev dD:E:=var 0
abbrev JJ7:E:=pr aE dc
abbrev QW:E:=pr dD JJ7
abbrev JJ9:E:=fn 239 QW
abbrev Hn:E:=.not JJ9
abbrev Qz:E:=.iff (.bool true) Hn
abbrev Ho:E:=.not (fn 1 (pr (fn 1 (pr aE (.int 0))) (fn 6 (pr (fn 8 (pr bM (.int 12))) (.int 9)))))
abbrev n9:E:=var 4
abbrev Ag:E:=cmp .lss n9 (.int 0)
abbrev QN:E:=pr (fn 1 (pr aE (.int 31))) dc
abbrev Hu:E:=.iff (.not Ag) (fn 114 QN)
abbrev d8:E:=var 5
abbrev Hv:E:=.bool false
abbrev fy:E:=fn 115 aE
abbrev lY:E:=.imp fy (fn 224 (pr dc (pr dD (pr aE (pr (fn 1 (pr aE (.int 34))) (fn 9 (pr (fn 1 (pr aE (.int 0))) (.int 12))))))))
abbrev vL:E:=.not fy
abbrev QO:E:=cmp .eql bM (.int 0)
abbrev kF:E:=.imp vL QO
abbrev Aj:E:=.not (cmp .lss (fn 1 (pr aE (.int 34))) (.int 0))
abbrev od:E:=.imp fy Aj
abbrev Ak:E:=.not (cmp .lss (.int 1) (fn 1 (pr aE (.int 34))))
abbrev rW:E:=.imp fy Ak
abbrev cb:E:=var 16
abbrev rX:E:=cmp .lss cb bM
abbrev QP:E:=cmp .lss cb (.int 0)
abbrev iw:E:=.not QP
abbrev kG:E:=cmp .eql (fn 0 dc) bM
abbrev rY:E:=fn 244 (pr dc (pr dD (pr aE cb)))
abbrev avy:E:=cmp .lss bM cb
abbrev Hw:E:=.not avy
abbrev Hx:E:=fn 244 (pr dc (pr dD (pr aE bM)))
abbrev kH:E:=fn 116 aE
abbrev rZ:E:=fn 155 (pr dD (fn 9 (pr dD (.int 14))))
abbrev r6:E:=.not (cmp .lss (.int 12) (fn 9 (pr dD (.int 14))))
abbrev cJ:E:=var 17
abbrev avz:E:=pr aE (fn 1 (pr dc cb))
abbrev avA:E:=pr dD avz
abbrev avB:E:=fn 239 avA
abbrev QQ:E:=.not avB
abbrev Hy:E:=.iff cJ QQ
abbrev QS:E:=.not cJ
abbrev lZ:E:=.not (cmp .lss (.int 30) bM)
abbrev Al:E:=.not (cmp .lss n9 bM)
abbrev Am:E:=.not (cmp .lss bM (.int 0))
abbrev Ao:=[Am]
abbrev Hz:=Al::Ao
abbrev avC:=kG::Hz
abbrev avD:=lZ::avC
abbrev avE:=iw::avD
abbrev avF:=Hw::avE
abbrev avG:=QS::avF
abbrev avH:=Hy::avG
abbrev avI:=rX::avH
abbrev avJ:=kH::avI
abbrev avK:=lW::avJ
abbrev avL:=r6::avK
abbrev avM:=rZ::avL
abbrev avN:=lY::avM
abbrev avO:=kF::avN
abbrev avP:=od::avO
abbrev avQ:=rW::avP
abbrev Ap:=rY::avQ
abbrev avR:E:=cmp .lss (.ar .add .i64 cb (.int 1)) (.int 0)
abbrev QT:E:=.not avR
abbrev Aq:E:=cmp .lss d8 (.int 0)
abbrev HA:E:=.imp Aq Hx
abbrev QU:E:=cmp .eql d8 (.int (-1))
abbrev vN:E:=pr dD aE
abbrev HB:E:=cmp .lss d8 bM
abbrev Ar:E:=.not (cmp .lss d8 (.int (-1)))
abbrev HC:E:=.not QU
abbrev avS:=[HC]
abbrev avT:=Ar::avS
abbrev QV:=HB::avT
abbrev HD:=kF::QV
abbrev pI:E:=.not Aq
abbrev HE:E:=.imp pI (.not (fn 239 (pr dD (pr aE (fn 1 (pr dc d8))))))
abbrev HF:E:=.imp pI (fn 244 (pr dc (pr dD (pr aE d8))))
abbrev ma:E:=cmp .lss cb cJ
abbrev pJ:E:=cmp .lss cJ bM
abbrev r7:E:=.not pJ
abbrev r8:E:=.not (cmp .lss bM cJ)
abbrev kJ:E:=var 24
abbrev me:E:=cmp .eql (fn 0 kJ) bM
abbrev vO:E:=fn 243 (pr kJ (pr dD (pr aE (pr cb cJ))))
abbrev QX:E:=cmp .eql n9 cb
abbrev avU:=[me,Al]
abbrev avV:=ma::avU
abbrev QY:=r8::avV
abbrev avW:=QX::QY
abbrev HG:=r7::avW
abbrev HH:=r7::QY
abbrev vP:E:=var 25
abbrev As:E:=.iff vP (.not (fn 239 (pr dD (pr aE (fn 1 (pr kJ cJ))))))
abbrev avd:=me::Hz
abbrev ave:=lZ::avd
abbrev avf:=iw::ave
abbrev avg:=ma::avf
abbrev Qy:=r8::avg
abbrev avh:=vP::Qy
abbrev avi:=As::avh
abbrev avj:=pJ::avi
abbrev avk:=kH::avj
abbrev avl:=lW::avk
abbrev avm:=fy::avl
abbrev avn:=r6::avm
abbrev avo:=rZ::avn
abbrev avp:=Aj::avo
abbrev avq:=Ak::avp
abbrev Af:=vO::avq
abbrev vF:=vO::Ak::Aj::rZ::r6::fy::lW::kH::pJ::As::(.not vP)::Qy
abbrev avr:E:=cmp .lss bM (.ar .add .i64 cJ (.int 1))
abbrev QA:E:=.not avr
abbrev QB:E:=.not (cmp .lss n9 cb)
abbrev avs:=ma::iw::lZ::me::Ao
abbrev QC:=vO::avs
abbrev QD:E:=cmp .lss (fn 7 (pr bM (.ar .add .i64 cJ (.int 1)))) (fn 7 (pr bM cJ))
abbrev avt:E:=cmp .lss (fn 7 (pr bM (.ar .add .i64 cJ (.int 1)))) (.int 0)
abbrev QF:E:=.not avt
abbrev bX:E:=var 6
abbrev avu:E:=fn 241 (pr bX vN)
abbrev QG:E:=.imp fy avu
abbrev QH:E:=cmp .eql (fn 0 bX) d8
abbrev QI:E:=.not (cmp .lss bM d8)
abbrev vG:E:=cmp .eql bX (fn 120 (pr aE (pr dc (fn 9 (pr (fn 1 (pr aE (.int 0))) (.int 12))))))
abbrev Hp:E:=.iff pI (fn 114 (pr n9 dc))
abbrev Hq:E:=.imp fy (fn 241 (pr n9 vN))
abbrev lX:E:=.iff bM fy
abbrev Hr:=[bM,lX]
abbrev vH:E:=fn 246 QW
abbrev vI:E:=cmp .lss bX (fn 9 (pr (fn 1 (pr aE (.int 0))) (.int 12)))
abbrev vJ:E:=.not (cmp .lss bX (.int 0))
abbrev avv:=vJ::Hr
abbrev QJ:=vI::avv
abbrev dC:E:=var 10
abbrev QK:E:=cmp .lss dC (fn 9 (pr (fn 1 (pr aE (.int 0))) (.int 12)))
abbrev Ah:E:=.not (cmp .lss dC (.int 0))
abbrev Ai:E:=fn 226 (pr (fn 1 (pr aE (.int 0))) (pr (fn 1 (pr (fn 1 (pr aE (.int 0))) (fn 6 (pr (fn 8 (pr bX (.int 12))) (.int 0))))) (pr dC dC)))
abbrev avw:=Ai::QJ
abbrev Hs:=Ah::avw
abbrev QL:=[lX,bM,Hq,Hp,pI]
abbrev QM:=[lX,bM,vI,vJ,vG]
abbrev vK:E:=var 46
abbrev avx:E:=cmp .eql vK (fn 9 (pr (fn 1 (pr aE (.int 31))) (.int 1)))
abbrev Ht:=[avx]
def Qq:=fb [lW] (.not (cmp .lss (.int 1000) (fn 0 (fn 1 (pr aE (.int 31))))))<|ah fun F p0=>by
 have:=ak p0
 simp only[aa]at *;omega
def arN:=fb [vM,An,(fn 1 (pr (fn 1 (pr aE (.int 0))) (fn 6 (pr (fn 8 (pr bM (.int 12))) (.int 9)))))] Qz<|am fun F p0 p1 p2=>by
 have hq:E.I F bM=E.I F (fn 120 (pr aE (pr dc (fn 9 (pr (fn 1 (pr aE (.int 0))) (.int 12)))))):=by
  simp only[aa]at *;omega
 have h0:0<=E.I F bM:=by
  simp only[aa]at *;omega
 have:=@uW _ _ _ _ dD hq h0
 clear hq h0;simp only[aa,bg,bv]at *;grind
def arO:=fb [vM,An,Ho,Hu,Ag,(fn 1 (pr (fn 1 (pr aE (.int 0))) (fn 6 (pr (fn 8 (pr bM (.int 12))) (.int 10))))),(.iff d8 (fn 222 (pr dD (pr (fn 1 (pr (fn 1 (pr aE (.int 0))) (fn 6 (pr (fn 8 (pr bM (.int 12))) (.int 1))))) (.int 1)))))] (.iff (.not d8) Hn)<|cV fun F p0 p1 p2 p3 p4 p5 p6=>by
 have hq:E.I F bM=E.I F (fn 120 (pr aE (pr dc (fn 9 (pr (fn 1 (pr aE (.int 0))) (.int 12)))))):=by
  simp only[aa]at *;omega
 have h0:0<=E.I F bM:=by
  simp only[aa]at *;omega
 have:=@uW _ _ _ _ dD hq h0
 clear hq h0;simp only[aa,bg,bv]at *;grind
def arP:=fb [vM,An,Ho,Hu,Ag,(.not (fn 1 (pr (fn 1 (pr aE (.int 0))) (fn 6 (pr (fn 8 (pr bM (.int 12))) (.int 10))))))] (.iff Hv Hn)<|bL fun F p0 p1 p2 p3 p4 p5=>by
 have hq:E.I F bM=E.I F (fn 120 (pr aE (pr dc (fn 9 (pr (fn 1 (pr aE (.int 0))) (.int 12)))))):=by
  simp only[aa]at *;omega
 have h0:0<=E.I F bM:=by
  simp only[aa]at *;omega
 have:=@uW _ _ _ _ dD hq h0
 clear hq h0;simp only[aa,bg,bv]at *;grind
def arQ:=fb [vM,An,Ho,Hu,(.not Ag)] Qz<|aK fun F p0 p1 p2 p3 p4=>by
 have hq:E.I F bM=E.I F (fn 120 (pr aE (pr dc (fn 9 (pr (fn 1 (pr aE (.int 0))) (.int 12)))))):=by
  simp only[aa]at *;omega
 have h0:0<=E.I F bM:=by
  simp only[aa]at *;omega
 have:=@uW _ _ _ _ dD hq h0
 clear hq h0;simp only[aa,bg,bv]at *;grind
def p51:List Fa:=[cY,Qq,arN,arO,arP,arQ]
theorem aJr:aR Tryz.prog (bj (aH7)):=sc p51 ([]) ade ([]) (by kernel_rfl) (by kernel_rfl)
def adf:Nl:=nc aJr ade
def Hh:=fb [lY] lY<|ah fun F p0=>by
 exact p0
def Hi:=fb [kF] kF<|ah fun F p0=>by
 exact p0
def Qs:=fb [od] od<|ah fun F p0=>by
 exact p0
def Qt:=fb [rW] rW<|ah fun F p0=>by
 exact p0
def arR:=fa ((fn 244 (pr dc (pr dD (pr aE (.int 0))))))<|fun F=>by
 exact aLh (by simp only[aa]at *;omega)
def arS:=fb [rX,iw,kF,kG] fy<|aB fun F p0 p1 p2 p3=>by
 have hz:=p2
 rw[aG]at hz
 apply Classical.byContradiction;intro hn
 have:=hz (by rw[bv];exact hn)
 clear hz hn;simp only[aa]at *;omega
def arT:=fb [(.not rX),rY,Hw] (.imp (.bool true) Hx)<|am fun F p0 p1 p2=>by
 rw[aG]
 intro hc;first | exact af1 p1 (by simp only[aa]at *;omega) | (exfalso;simp only[aa]at *;omega)
def arU:=fb [rX,iw,kF,lY,kG] (.not (cmp .lss (fn 120 (pr aE (pr (fn 1 (pr dc cb)) (fn 9 (pr (fn 1 (pr aE (.int 0))) (.int 12)))))) (.int 0)))<|aK fun F p0 p1 p2 p3 p4=>by
 have hz:=p2
 rw[aG]at hz
 have hv:E.B F fy=true:=by
  apply Classical.byContradiction;intro hn;have u:=hz (by rw[bv];exact hn);clear hz hn;simp only[aa]at *;omega
 have h4:=p3
 rw[aG]at h4
 have h4:=h4 hv;clear hz
 have:=jm h4 (i:=cb) (by simp only[aa]at *;omega) (by simp only[aa]at *;omega)
 simp only[aa]at *;omega
def arV:=fb [kH] (.imp Hv (fn 244 (pr dc (pr dD (pr aE (.int (-1)))))))<|ah fun F p0=>by
 rw[aG]
 intro hc;cases hc
def arW:=fb [rY,iw] (.imp QP Hx)<|ap fun F p0 p1=>by
 rw[aG]
 intro hc;first | exact af1 p0 (by simp only[aa]at *;omega) | (exfalso;simp only[aa]at *;omega)
def arX:=fb Ap QT<|eZ fun F p0 p1 p2 p3 p4 p5 p6 p7 p8 p9 ai ao aq ax aA aC aL aN=>by
 clear p1 p2 p4 ai
 obtain⟨w0,ew0,qw0⟩:=ab (E.I F cb+1)
 simp only[aa,ae,ew0]at *;omega
def arY:=fb [kH] (.imp Hv (.not (fn 239 (pr dD (pr aE (fn 1 (pr dc (.int (-1)))))))))<|ah fun F p0=>by
 rw[aG]
 intro hc;cases hc
def arZ:=fb [rY] (.imp iw rY)<|ah fun F p0=>by
 rw[aG]
 intro hc;exact p0
def ar0:=fb Ap (.not (cmp .lss bM (.ar .add .i64 cb (.int 1))))<|eZ fun F p0 p1 p2 p3 p4 p5 p6 p7 p8 p9 ai ao aq ax aA aC aL aN=>by
 clear p1 p2 p4 ai
 obtain⟨w0,ew0,qw0⟩:=ab (E.I F cb+1)
 simp only[aa,ae,ew0]at *;omega
def ar1:=fb [Hy,cJ] (.imp iw QQ)<|ap fun F p0 p1=>by
 rw[aG]
 intro hc;simp only[aa,bg,bv]at *;grind
def ar2:=fb (rX::Hy::QS::rY::iw::lZ::kG::Ao) (fn 244 (pr dc (pr dD (pr aE (.ar .add .i64 cb (.int 1))))))<|c9 fun F p0 p1 p2 p3 p4 p5 p6 p7=>by
 have hn:E.I F (.ar .add .i64 cb (.int 1))=E.I F cb+1:=by
  simp only[aa,ae]at *
  obtain⟨w,ew,qw⟩:=ab (E.I F cb+1)
  simp only[ew];omega
 refine aLg p3 (by simp only[aa]at *;omega) (by simp only[aa]at *;omega) hn ?_;clear hn;simp only[aa,bg,bv]at *;grind
def ar3:=fb Ap (cmp .lss (fn 7 (pr bM (.ar .add .i64 cb (.int 1)))) (fn 7 (pr bM cb)))<|eZ fun F p0 p1 p2 p3 p4 p5 p6 p7 p8 p9 ai ao aq ax aA aC aL aN=>by
 clear p1 p2 p4 ai
 obtain⟨w0,ew0,qw0⟩:=ab (E.I F cb+1)
 simp only[aa,ae,ew0]at *;omega
def ar4:=fb Ap (.not (cmp .lss (fn 7 (pr bM (.ar .add .i64 cb (.int 1)))) (.int 0)))<|eZ fun F p0 p1 p2 p3 p4 p5 p6 p7 p8 p9 ai ao aq ax aA aC aL aN=>by
 clear p1 p2 p4 ai
 obtain⟨w0,ew0,qw0⟩:=ab (E.I F cb+1)
 simp only[aa,ae,ew0]at *;omega
def p52:List Fa:=[cY,Hh,Hi,Qs,Qt,arR,arS,arT,arU,arV,arW,arX,arY,arZ,ar0,ar1,ar2,ar3,ar4]
theorem aJs:aR Tryz.prog (bj (aIj)):=sc p52 ([⟨71,0,[t71],none⟩]) adf ([]) (by kernel_rfl) (by kernel_rfl)
def adg:Nl:=nc aJs adf
def ar5:=fb [od,lY,kG,HA,QU] (.imp fy (fn 241 (pr dc vN)))<|aK fun F p0 p1 p2 p3 p4=>by
 rw[aG]
 intro hv;have h4:=p1
 rw[aG]at h4
 have ha:=p0
 rw[aG]at ha
 have hn:=p3
 rw[aG]at hn
 have ha0:0<=E.I F (fn 1 (pr aE (.int 34))):=by
  have u:=ha hv;simp only[aa]at u;omega
 have hc:E.B F Aq=true:=by
  clear h4 ha hn;simp only[aa]at *;omega
 exact aK9 (h4 hv) ha0 (hn hc) (by simp only[aa]at *;omega)
def ar6:=fb HD fy<|aB fun F p0 p1 p2 p3=>by
 have hz:=p0
 rw[aG]at hz
 apply Classical.byContradiction;intro hn
 have:=hz (by rw[bv];exact hn)
 clear hz hn;simp only[aa]at *;omega
def ar7:=fb HD Aj<|aB fun F p0 p1 p2 p3=>by
 have:=@bQ F aE
 try simp only[aa,ae]at *
 grind
def ar8:=fb HD Ak<|aB fun F p0 p1 p2 p3=>by
 have:=@bQ F aE
 try simp only[aa,ae]at *
 grind
def ar9:=fb (rW::od::kF::lY::lZ::kG::Al::Am::rZ::r6::lW::kH::HE::HF::HA::QV) (cmp .lss d8 (.ar .add .i64 d8 (.int 1)))<|eZ fun F p0 p1 p2 p3 p4 p5 p6 p7 p8 p9 ai ao aq ax aA aC aL aN=>by
 clear p0 p1 p3 aq ax aA
 obtain⟨w0,ew0,qw0⟩:=ab (E.I F d8+1)
 simp only[aa,ae,ew0]at *;omega
def asa:=fb (rW::od::kF::lY::kG::rZ::r6::lW::kH::HE::HF::HA::HB::Ar::HC::lZ::Hz) (.not (cmp .lss bM (.ar .add .i64 d8 (.int 1))))<|eZ fun F p0 p1 p2 p3 p4 p5 p6 p7 p8 p9 ai ao aq ax aA aC aL aN=>by
 clear p0 p1 p3 p9 ai ao
 obtain⟨w0,ew0,qw0⟩:=ab (E.I F d8+1)
 simp only[aa,ae,ew0]at *;omega
def asb:=fb (od::kF::lY::kG::HE::HF::HB::Ar::HC::lZ::Ao) (fn 243 (pr dc (pr dD (pr aE (pr d8 (.ar .add .i64 d8 (.int 1)))))))<|eS fun F p0 p1 p2 p3 p4 p5 p6 p7 p8 p9 ai=>by
 have hz:=p1
 rw[aG]at hz
 have hv:E.B F fy=true:=by
  apply Classical.byContradiction;intro hn
  have:=hz (by rw[bv];exact hn)
  clear hz;simp only[aa]at *;omega
 have h4:=p2
 rw[aG]at h4
 have hc:E.B F pI=true:=by
  simp only[aa]at *;omega
 have hg:=p5
 rw[aG]at hg
 have hk:=p4
 rw[aG]at hk
 have hk:=hk hc
 rw[bv]at hk
 have ha:=p0
 rw[aG]at ha
 have ha:=ha hv;have ha0:0<=E.I F (fn 1 (pr aE (.int 34))):=by
  simp only[aa]at ha;omega
 clear ha;have hn:E.I F (.ar .add .i64 d8 (.int 1))=E.I F d8+1:=by
  simp only[aa,ae]at *
  obtain⟨w,ew,qw⟩:=ab (E.I F d8+1)
  simp only[ew];omega
 exact aLf (h4 hv) ha0 (hg hc) (by simp only[aa]at *;omega) (by simp only[aa]at *;omega) hn hk
def asc:=fb [ma,iw] (.not (cmp .lss cJ (.int 0)))<|ap fun F p0 p1=>by
 simp only[aa]at *;omega
def asd:=fb [r7,r8,ma,me] Hw<|aB fun F p0 p1 p2 p3=>by
 simp only[aa]at *;omega
def ase:=fb [pJ,vO,ma,iw,me] (.not (cmp .lss (fn 120 (pr aE (pr (fn 1 (pr kJ cJ)) (fn 9 (pr (fn 1 (pr aE (.int 0))) (.int 12)))))) (.int 0)))<|aK fun F p0 p1 p2 p3 p4=>by
 have:=aLc p1 (j:=cJ) (by simp only[aa]at *;omega) (by simp only[aa]at *;omega)
 simp only[aa]at *;omega
def asf:=fb HG (cmp .lss (.int 0) n9)<|bL fun F p0 p1 p2 p3 p4 p5=>by
 try simp only[aa,ae]at *
 omega
def asg:=fb HH (cmp .lss cb n9)<|aK fun F p0 p1 p2 p3 p4=>by
 try simp only[aa,ae]at *
 omega
def ash:=fb [pJ,ma,me] rX<|am fun F p0 p1 p2=>by
 try simp only[aa,ae]at *
 omega
def asi:=fb Af (cmp .lss cb (.ar .add .i64 cJ (.int 1)))<|eZ fun F p0 p1 p2 p3 p4 p5 p6 p7 p8 p9 ai ao aq ax aA aC aL aN=>by
 clear p9
 obtain⟨w0,ew0,qw0⟩:=ab (E.I F cJ+1)
 simp only[aa,ae,ew0]at *;omega
def asj:=fb HG QO<|bL fun F p0 p1 p2 p3 p4 p5=>by
 simp only[aa]at *;omega
def asl:=fb [r7,r8,ma,me] (.not (cmp .lss (fn 7 (pr bM cb)) (.int 0)))<|aB fun F p0 p1 p2 p3=>by
 simp only[aa]at *;omega
def asm:=fb vF QT<|eZ fun F p0 p1 p2 p3 p4 p5 p6 p7 p8 p9 ai ao aq ax aA aC aL aN=>by
 clear p9
 obtain⟨w0,ew0,qw0⟩:=ab (E.I F cb+1)
 simp only[aa,ae,ew0]at *;omega
def asn:=fb Af QA<|eZ fun F p0 p1 p2 p3 p4 p5 p6 p7 p8 p9 ai ao aq ax aA aC aL aN=>by
 clear p9
 obtain⟨w0,ew0,qw0⟩:=ab (E.I F cJ+1)
 simp only[aa,ae,ew0]at *;omega
def aso:=fb HG QB<|bL fun F p0 p1 p2 p3 p4 p5=>by
 simp only[aa]at *;omega
def asp:=fa ((cmp .eql bM (fn 6 (pr cb (fn 7 (pr bM cb))))))<|fun F=>by
 simp only[aa]at *;omega
def asq:=fb vF (cmp .lss (.ar .add .i64 cb (.int 1)) (.ar .add .i64 cJ (.int 1)))<|eZ fun F p0 p1 p2 p3 p4 p5 p6 p7 p8 p9 ai ao aq ax aA aC aL aN=>by
 clear p9
 obtain⟨w0,ew0,qw0⟩:=ab (E.I F cb+1)
 obtain⟨w1,ew1,qw1⟩:=ab (E.I F cJ+1)
 simp only[aa,ae,ew0,ew1]at *;omega
def asr:=fb (pJ::As::vP::QC) (fn 243 (pr kJ (pr dD (pr aE (pr cb (.ar .add .i64 cJ (.int 1)))))))<|di fun F p0 p1 p2 p3 p4 p5 p6 p7 p8=>by
 have hn:E.I F (.ar .add .i64 cJ (.int 1))=E.I F cJ+1:=by
  simp only[aa,ae]at *
  obtain⟨w,ew,qw⟩:=ab (E.I F cJ+1)
  simp only[ew];omega
 refine aLe p3 (by simp only[aa]at *;omega) (by simp only[aa]at *;omega) hn ?_;clear hn;simp only[aa,bg,bv]at *;grind
def ass:=fb HH (.not QX)<|aK fun F p0 p1 p2 p3 p4=>by
 simp only[aa]at *;omega
def ast:=fb HH QB<|aK fun F p0 p1 p2 p3 p4=>by
 simp only[aa]at *;omega
def asu:=fb vF QA<|eZ fun F p0 p1 p2 p3 p4 p5 p6 p7 p8 p9 ai ao aq ax aA aC aL aN=>by
 clear p9
 obtain⟨w0,ew0,qw0⟩:=ab (E.I F cJ+1)
 simp only[aa,ae,ew0]at *;omega
def asv:=fb Af QD<|eZ fun F p0 p1 p2 p3 p4 p5 p6 p7 p8 p9 ai ao aq ax aA aC aL aN=>by
 clear p9
 obtain⟨w0,ew0,qw0⟩:=ab (E.I F cJ+1)
 simp only[aa,ae,ew0]at *;omega
def asw:=fb (pJ::As::(.not vP)::QC) (fn 243 (pr (fn 2 (pr kJ (pr cb (fn 1 (pr kJ cJ))))) (pr dD (pr aE (pr (.ar .add .i64 cb (.int 1)) (.ar .add .i64 cJ (.int 1)))))))<|di fun F p0 p1 p2 p3 p4 p5 p6 p7 p8=>by
 have hn:E.I F (.ar .add .i64 cJ (.int 1))=E.I F cJ+1:=by
  simp only[aa,ae]at *
  obtain⟨w,ew,qw⟩:=ab (E.I F cJ+1)
  simp only[ew];omega
 have hm:E.I F (.ar .add .i64 cb (.int 1))=E.I F cb+1:=by
  simp only[aa,ae]at *
  obtain⟨w,ew,qw⟩:=ab (E.I F cb+1)
  simp only[ew];omega
 refine aLd p3 (by simp only[aa]at *;omega) (by simp only[aa]at *;omega) (by simp only[aa]at *;omega) hm hn ?_;clear hn hm;simp only[aa,bg,bv]at *;grind
def asx:=fb Af QF<|eZ fun F p0 p1 p2 p3 p4 p5 p6 p7 p8 p9 ai ao aq ax aA aC aL aN=>by
 clear p9
 obtain⟨w0,ew0,qw0⟩:=ab (E.I F cJ+1)
 simp only[aa,ae,ew0]at *;omega
def asy:=fb vF QD<|eZ fun F p0 p1 p2 p3 p4 p5 p6 p7 p8 p9 ai ao aq ax aA aC aL aN=>by
 clear p9
 obtain⟨w0,ew0,qw0⟩:=ab (E.I F cJ+1)
 simp only[aa,ae,ew0]at *;omega
def asz:=fb vF QF<|eZ fun F p0 p1 p2 p3 p4 p5 p6 p7 p8 p9 ai ao aq ax aA aC aL aN=>by
 clear p9
 obtain⟨w0,ew0,qw0⟩:=ab (E.I F cJ+1)
 simp only[aa,ae,ew0]at *;omega
def asA:=fb [r7,r8,ma,iw,me] (cmp .eql (fn 0 (fn 18 (pr kJ (fn 8 (pr cb (.int 1)))))) cb)<|aK fun F p0 p1 p2 p3 p4=>by
 rw[kg]
 exact @aKQ _ kJ cb (by simp only[aa]at *;omega) (by simp only[aa]at *;omega)
def asB:=fb [r7,vO,r8,iw,me] (.imp fy (fn 241 (pr (fn 18 (pr kJ (fn 8 (pr cb (.int 1))))) vN)))<|aK fun F p0 p1 p2 p3 p4=>by
 rw[aG]
 intro hv;exact aLb p1 (by simp only[aa]at *;omega) (by simp only[aa]at *;omega)
def asC:=fb [fy] (.imp vL (cmp .eql cb (.int 0)))<|ah fun F p0=>by
 rw[aG]
 intro h;simp only[bv]at h;exact absurd p0 h
def p53:List Fa:=[cY,Hh,Hi,Qs,Qt,ar5,ar6,ar7,ar8,ar9,asa,asb,asc,asd,ase,asf,asg,ash,asi,asj,asl,asm,asn,aso,asp,asq,asr,ass,ast,asu,asv,asw,asx,asy,asz,asA,asB,asC]
theorem aJt:aR Tryz.prog (bj (aIa)):=sc p53 ([⟨35,0,[t35],none⟩]) adg ([]) (by kernel_rfl) (by kernel_rfl)
def adh:Nl:=nc aJt adg
def asD:=fb [kH] od<|ah fun F p0=>by
 rw[aG]
 intro hv
 have:=sV hv
 simp only[aa]at *;omega
def asE:=fb [kH] rW<|ah fun F p0=>by
 rw[aG]
 intro hv
 have:=sV hv
 simp only[aa]at *;omega
def asF:=fb [QG] (.imp fy (fn 241 (pr (fn 28 (pr (pr (var 7) d8) bX)) vN)))<|ah fun F p0=>by
 rw[aG]
 intro hv;have h:=p0
 rw[aG]at h
 exact h hv
def asG:=fb [rZ,r6,lW,kH,kF,lY,lZ,kG,Al,Am,(.imp vL (cmp .eql d8 (.int 0))),QG,QH,QI,pI] (.imp vL (cmp .eql (fn 0 bX) (.int 0)))<|tB fun F p0 p1 p2 p3 p4 p5 p6 p7 p8 p9 ai ao aq ax aA=>by
 rw[aG]
 intro h;have u4:=p4;have u10:=ai
 rw[aG]at u4
 have:=u4 h
 rw[aG]at u10
 have:=u10 h
 clear h;simp only[aa]at *;first | omega | grind
def asH:=fb [lZ,kG,Am,QH,QI] (.not (cmp .lss (.int 40) (fn 0 bX)))<|aK fun F p0 p1 p2 p3 p4=>by
 simp only[aa]at *;omega
def p54:List Fa:=[cY,asD,asE,Hh,Hi,asF,asG,asH]
theorem aJu:aR Tryz.prog (bj (aH1)):=sc p54 ([]) adh ([.down kI]) (by kernel_rfl) (by kernel_rfl)
def adi:Nl:=nc aJu adh
def asI:=fb (vG::pI::Hp::Hq::Hr) (.not (fn 1 (pr (fn 1 (pr aE (.int 0))) (fn 6 (pr (fn 8 (pr bX (.int 12))) (.int 9))))))<|bL fun F p0 p1 p2 p3 p4 p5=>by
 have hv:=p5
 rw[bg]at hv
 have hv:=hv.1 p4;have h241:=p3
 rw[aG]at h241
 have h241:=h241 hv;have m:=@F6 _ _ dc _ _ h241;have g:=p2;have m6:E.B F vH=true:=by
  rw[<- m]
  rw[bg]at g
  refine g.1 ?_;simp only[aa,bv]at *;omega
 clear m g
 rw[bv]
 exact aLj m6 (by simp only[aa]at *;omega)
def asJ:=fb ((.iff (var 8) (fn 137 (pr (fn 1 (pr (fn 1 (pr aE (.int 0))) (fn 6 (pr (fn 8 (pr bX (.int 12))) (.int 0))))) (pr (fn 1 (pr (fn 1 (pr aE (.int 0))) (fn 6 (pr (fn 8 (pr bX (.int 12))) (.int 1))))) (pr (fn 1 (pr (fn 1 (pr aE (.int 0))) (fn 6 (pr (fn 8 (pr bX (.int 12))) (.int 2))))) (pr (fn 1 (pr (fn 1 (pr aE (.int 0))) (fn 6 (pr (fn 8 (pr bX (.int 12))) (.int 3))))) (pr (fn 1 (pr (fn 1 (pr aE (.int 0))) (fn 6 (pr (fn 8 (pr bX (.int 12))) (.int 4))))) (pr (fn 1 (pr (fn 1 (pr aE (.int 0))) (fn 6 (pr (fn 8 (pr bX (.int 12))) (.int 5))))) (pr (fn 1 (pr (fn 1 (pr aE (.int 0))) (fn 6 (pr (fn 8 (pr bX (.int 12))) (.int 6))))) (pr (fn 1 (pr (fn 1 (pr aE (.int 0))) (fn 6 (pr (fn 8 (pr bX (.int 12))) (.int 7))))) (fn 1 (pr (fn 1 (pr aE (.int 0))) (fn 6 (pr (fn 8 (pr bX (.int 12))) (.int 8)))))))))))))))::QJ) (var 8)<|aK fun F p0 p1 p2 p3 p4=>by
 have hv:=p4
 rw[bg]at hv
 have hv:=hv.1 p3;have u:=@NC _ bX _ hv (by simp only[aa]at *;omega) (by simp only[aa]at *;omega);have g:=p0
 rw[bg]at g
 exact g.2 u
def asK:=fb ((.iff (var 9) fy)::Hr) (var 9)<|am fun F p0 p1 p2=>by
 simp only[aa]at *;grind
def asL:=fb ((.iff (var 11) (.and QK (cmp .eql (fn 1 (pr (fn 1 (pr aE (.int 0))) (fn 6 (pr (fn 8 (pr dC (.int 12))) (.int 0))))) (fn 1 (pr (fn 1 (pr aE (.int 0))) (fn 6 (pr (fn 8 (pr bX (.int 12))) (.int 0))))))))::(.not (cmp .lss (fn 9 (pr (fn 1 (pr aE (.int 0))) (.int 12))) dC))::Hs) (var 11)<|c9 fun F p0 p1 p2 p3 p4 p5 p6 p7=>by
 have hv:=p7
 rw[bg]at hv
 have hv:=hv.1 p6;have e:=@uV _ bX dC _ hv (by simp only[aa]at *;omega) (by simp only[aa]at *;omega) (by simp only[aa]at *;omega) p3;have e0:=@Kb F _ _ aE 0 e;unfold iI at e0;have g:=p0
 rw[bg]at g
 refine g.2 ?_;clear g;simp only[cz]at *;simp only[aa]at *;grind
def asM:=fb Hs (cmp .eql (fn 1 (pr (fn 1 (pr aE (.int 0))) (fn 6 (pr (fn 8 (pr dC (.int 12))) (.int 1))))) (fn 1 (pr (fn 1 (pr aE (.int 0))) (fn 6 (pr (fn 8 (pr bX (.int 12))) (.int 1))))))<|bL fun F p0 p1 p2 p3 p4 p5=>by
 have hv:=p5
 rw[bg]at hv
 have hv:=hv.1 p4;have e:=@uV _ bX dC _ hv (by simp only[aa]at *;omega) (by simp only[aa]at *;omega) (by simp only[aa]at *;omega) p1
 rw[kg]
 exact Kb 1 e
def asN:=fb Hs (cmp .eql (fn 1 (pr (fn 1 (pr aE (.int 0))) (fn 6 (pr (fn 8 (pr dC (.int 12))) (.int 2))))) (fn 1 (pr (fn 1 (pr aE (.int 0))) (fn 6 (pr (fn 8 (pr bX (.int 12))) (.int 2))))))<|bL fun F p0 p1 p2 p3 p4 p5=>by
 have hv:=p5
 rw[bg]at hv
 have hv:=hv.1 p4;have e:=@uV _ bX dC _ hv (by simp only[aa]at *;omega) (by simp only[aa]at *;omega) (by simp only[aa]at *;omega) p1
 rw[kg]
 exact Kb 2 e
def asO:=fb [lX,(.not bM)] vL<|ap fun F p0 p1=>by
 simp only[aa,bg,bv]at *;grind
def asP:=fb [lX,bM,Hq,Ar,Hp,Aq] (.not vH)<|bL fun F p0 p1 p2 p3 p4 p5=>by
 have hv:=p0
 rw[bg]at hv
 have hv:=hv.1 p1;have h241:=p2
 rw[aG]at h241
 have h241:=h241 hv;have m:=@F6 _ _ dc _ _ h241;have g:=p4
 rw[bv,<- m]
 rw[bg]at g
 rw[<- g]
 simp only[aa,bv]at *;omega
def asQ:=fb QL vM<|aK fun F p0 p1 p2 p3 p4=>by
 have hv:=p0
 rw[bg]at hv
 have hv:=hv.1 p1;have h241:=p2
 rw[aG]at h241
 have h241:=h241 hv;have m:=@F6 _ _ dc _ _ h241;have g:=p3;have m6:E.B F vH=true:=by
  rw[<- m]
  rw[bg]at g
  refine g.1 ?_;simp only[aa,bv]at *;omega
 clear m g
 have:=uY m6
 simp only[aa]at *;omega
def asR:=fb [lW] (.not (cmp .lss (.int 30) (fn 9 (pr (fn 1 (pr aE (.int 0))) (.int 12)))))<|ah fun F p0=>by
 have:=ak p0
 try simp only[aa,ae]at *
 grind
def asS:=fb [lX,bM] (fn 228 (fn 1 (pr aE (.int 0))))<|ap fun F p0 p1=>by
 have hv:=p0
 rw[bg]at hv
 have hv:=hv.1 p1;exact F5 hv
def asT:=fb QM (.not (cmp .lss (fn 1 (pr (fn 1 (pr aE (.int 0))) (fn 6 (pr (fn 8 (pr bX (.int 12))) (.int 0))))) (.int 1)))<|aK fun F p0 p1 p2 p3 p4=>by
 have hv:=p0
 rw[bg]at hv
 have hv:=hv.1 p1;have u:=@NC _ bX _ hv (by simp only[aa]at *;omega) (by simp only[aa]at *;omega)
 rw[cg]at u
 simp only[aa]at *;omega
def asU:=fb QM (.not (cmp .lss (.int 500) (fn 1 (pr (fn 1 (pr aE (.int 0))) (fn 6 (pr (fn 8 (pr bX (.int 12))) (.int 0)))))))<|aK fun F p0 p1 p2 p3 p4=>by
 have hv:=p0
 rw[bg]at hv
 have hv:=hv.1 p1;have u:=@NC _ bX _ hv (by simp only[aa]at *;omega) (by simp only[aa]at *;omega)
 rw[cg]at u
 simp only[aa]at *;omega
def asV:=fb [lX,bM,vI,vJ,vG,Ai,Ah] QK<|cV fun F p0 p1 p2 p3 p4 p5 p6=>by
 have hv:=p0
 rw[bg]at hv
 have hv:=hv.1 p1
 have:=@uV _ bX dC _ hv (by simp only[aa]at *;omega) (by simp only[aa]at *;omega) (by simp only[aa]at *;omega) p5
 simp only[aa]at *;omega
def asW:=fb [lX,bM,vI,vJ,vG,Ai,Ah,(cmp .eql (var 13) (fn 9 (pr (fn 1 (pr aE (.int 0))) (.int 12))))] (cmp .lss dC (var 13))<|c9 fun F p0 p1 p2 p3 p4 p5 p6 p7=>by
 have hv:=p0
 rw[bg]at hv
 have hv:=hv.1 p1
 have:=@uV _ bX dC _ hv (by simp only[aa]at *;omega) (by simp only[aa]at *;omega) (by simp only[aa]at *;omega) p5
 simp only[aa]at *;omega
def asX:=fb ((.not (cmp .lss (var 47) vK))::(.not (cmp .lss vK (.int 0)))::Ht) (.not (cmp .lss (var 47) (.int 0)))<|am fun F p0 p1 p2=>by
 simp only[aa]at *;omega
def asY:=fb (lW::Ht) (.not (cmp .lss (.int 2147483648) (fn 6 (pr vK (.int 1)))))<|ap fun F p0 p1=>by
 have:=ak p0
 have r1:E.I F (fn 9 (pr (fn 1 (pr aE (.int 31))) (.int 1)))=E.I F (fn 0 (fn 1 (pr aE (.int 31)))):=ku;simp only[aa]at *;omega
def asZ:=fb QL vH<|aK fun F p0 p1 p2 p3 p4=>by
 have hv:=p0
 rw[bg]at hv
 have hv:=hv.1 p1;have h241:=p2
 rw[aG]at h241
 have h241:=h241 hv;have m:=@F6 _ _ dc _ _ h241;have g:=p3;have m6:E.B F vH=true:=by
  rw[<- m]
  rw[bg]at g
  refine g.1 ?_;simp only[aa,bv]at *;omega
 clear m g;exact m6
def as0:=fa ((fn 236 (pr (aGQ 0 aE (fn 1 (pr aE (.int 2))) (fn 1 (pr aE (.int 3))) (fn 1 (pr aE (.int 4))) (fn 1 (pr aE (.int 5)))) aE)))<|fun F=>by
 exact aK5
def as1:=fb [lX,bM,vI,vJ,vG,(.iff (var 7) (fn 222 (pr dD (pr (fn 1 (pr (fn 1 (pr aE (.int 0))) (fn 6 (pr (fn 8 (pr bX (.int 12))) (.int 1))))) (.int 4))))),Ai,Ah,(fn 200 (pr (var 12) (fn 1 (pr aE (.int 0)))))] (fn 247 (pr (fn 2 (pr (fn 2 (pr (fn 2 (pr (fn 2 (pr (fn 2 (pr (fn 2 (pr (fn 2 (pr (fn 2 (pr (fn 2 (pr (fn 2 (pr (fn 2 (pr (fn 2 (pr (var 12) (pr (fn 6 (pr (fn 8 (pr dC (.int 12))) (.int 0))) (fn 1 (pr (fn 1 (pr aE (.int 0))) (fn 6 (pr (fn 8 (pr bX (.int 12))) (.int 0)))))))) (pr (fn 6 (pr (fn 8 (pr dC (.int 12))) (.int 1))) (fn 1 (pr (fn 1 (pr aE (.int 0))) (fn 6 (pr (fn 8 (pr bX (.int 12))) (.int 1)))))))) (pr (fn 6 (pr (fn 8 (pr dC (.int 12))) (.int 2))) (fn 1 (pr (fn 1 (pr aE (.int 0))) (fn 6 (pr (fn 8 (pr bX (.int 12))) (.int 2)))))))) (pr (fn 6 (pr (fn 8 (pr dC (.int 12))) (.int 3))) (fn 1 (pr (fn 1 (pr aE (.int 0))) (fn 6 (pr (fn 8 (pr bX (.int 12))) (.int 3)))))))) (pr (fn 6 (pr (fn 8 (pr dC (.int 12))) (.int 4))) (fn 1 (pr (fn 1 (pr aE (.int 0))) (fn 6 (pr (fn 8 (pr bX (.int 12))) (.int 4)))))))) (pr (fn 6 (pr (fn 8 (pr dC (.int 12))) (.int 5))) (fn 1 (pr (fn 1 (pr aE (.int 0))) (fn 6 (pr (fn 8 (pr bX (.int 12))) (.int 5)))))))) (pr (fn 6 (pr (fn 8 (pr dC (.int 12))) (.int 6))) (fn 1 (pr (fn 1 (pr aE (.int 0))) (fn 6 (pr (fn 8 (pr bX (.int 12))) (.int 6)))))))) (pr (fn 6 (pr (fn 8 (pr dC (.int 12))) (.int 7))) (fn 1 (pr (fn 1 (pr aE (.int 0))) (fn 6 (pr (fn 8 (pr bX (.int 12))) (.int 7)))))))) (pr (fn 6 (pr (fn 8 (pr dC (.int 12))) (.int 8))) (fn 1 (pr (fn 1 (pr aE (.int 0))) (fn 6 (pr (fn 8 (pr bX (.int 12))) (.int 8)))))))) (pr (fn 6 (pr (fn 8 (pr dC (.int 12))) (.int 9))) (.not (var 7))))) (pr (fn 6 (pr (fn 8 (pr dC (.int 12))) (.int 10))) (fn 1 (pr (fn 1 (pr aE (.int 0))) (fn 6 (pr (fn 8 (pr bX (.int 12))) (.int 10)))))))) (pr (fn 6 (pr (fn 8 (pr dC (.int 12))) (.int 11))) (fn 1 (pr (fn 1 (pr aE (.int 0))) (fn 6 (pr (fn 8 (pr bX (.int 12))) (.int 11)))))))) (pr aE (pr dD dc))))<|di fun F p0 p1 p2 p3 p4 p5 p6 p7 p8=>by
 have hv:=p0
 rw[bg]at hv
 have hv:=hv.1 p1;have e:=@uV _ bX dC _ hv (by simp only[aa]at *;omega) (by simp only[aa]at *;omega) (by simp only[aa]at *;omega) p6;exact aLl (by simp only[aa]at *;omega) (by simp only[aa]at *;omega) e p8 p5
def as2:=fb [(fn 200 (pr (var 45) (fn 1 (pr aE (.int 31)))))] (fn 248 (pr (fn 3 (pr (var 45) (fn 23 (pr dc (fn 10 (.int 0)))))) QN))<|ah fun F p0=>by
 exact af4 p0
def as3:=fb Ht (cmp .eql (fn 6 (pr vK (.int 1))) (fn 6 (pr (fn 9 (pr (fn 1 (pr aE (.int 31))) (.int 1))) (.int 1))))<|ah fun F p0=>by
 simp only[aa]at *;omega
def p55:List Fa:=[cY,asI,asJ,asK,asL,asM,asN,asO,Qp,asP,asQ,asR,asS,asT,asU,asV,asW,asX,asY,asZ,as0,as1,as2,as3]
theorem aJv:aR Tryz.prog (bj (aH0)):=sc p55 ([]) adi (aGC) (by kernel_rfl) (by kernel_rfl)
def adj:Nl:=nc aJv adi
end
end Go.Proofs.YtnggbcblogpnfaaGreat.combatAttacks
