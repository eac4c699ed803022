/-
  CombatAttacks: contracts of functions, part 14.
-/
import Derived.Test.YtnggbcblogpnfaaGreatCombatAttacksPartm
namespace Go.Proofs.YtnggbcblogpnfaaGreat.combatAttacks
open Go.ChangeShapes Go.WideShapes Go.ChangeAt Go.RowKit
open Go.SX
open Go.SX.E (fn pr cmp var)
set_option linter.unusedVariables false
set_option linter.unusedSimpArgs false
set_option maxRecDepth 100000
noncomputable section
abbrev bq:E:=var 2
abbrev Wd:E:=cmp .eql bq (.int 0)
abbrev ay:E:=var 1
abbrev jf:E:=fn 117 ay
abbrev Jl:E:=pr ay (pr bq (.int 2))
abbrev au:E:=var 0
abbrev Bz:E:=.not (cmp .lss (.int 1) bq)
abbrev BD:E:=.not (cmp .lss bq (.int 0))
abbrev aJ:E:=var 20
abbrev av:E:=var 19
abbrev jO:E:=cmp .lss aJ (fn 0 av)
abbrev eK:E:=var 21
abbrev wt:E:=cmp .eql eK (fn 120 (pr ay (pr (fn 1 (pr av aJ)) (fn 9 (pr (fn 1 (pr ay (.int 0))) (.int 12))))))
abbrev kU:E:=.not (cmp .lss aJ (.int 0))
abbrev Je:E:=fn 109 (pr av Jl)
abbrev gY:E:=fn 130 ay
abbrev ayQ:=[BD,gY]
abbrev ay0:=Bz::ayQ
abbrev Ji:=Je::ay0
abbrev wy:E:=.not (cmp .lss eK (.int 0))
abbrev pV:E:=fn 145 (pr ay bq)
abbrev Bw:E:=.not jO
abbrev azA:E:=pr bq aJ
abbrev azB:E:=pr ay azA
abbrev Ww:E:=pr au azB
abbrev azC:E:=pr (fn 10 (.int 0)) Ww
abbrev Wx:E:=fn 225 azC
abbrev Bx:E:=.not (cmp .lss (fn 0 av) aJ)
abbrev azD:E:=pr bq (fn 9 (pr (fn 1 (pr ay (.int 0))) (.int 12)))
abbrev Wy:E:=pr ay azD
abbrev Wz:E:=pr au Wy
abbrev sI:E:=.not (cmp .lss (.int 40) (fn 0 av))
abbrev eM:E:=var 17
abbrev azE:E:=cmp .lss aJ eM
abbrev Jk:E:=.not azE
abbrev dm:E:=var 16
abbrev sJ:E:=cmp .eql (fn 0 dm) eM
abbrev azF:=[Jk,sJ]
abbrev azG:=sI::azF
abbrev WA:=kU::azG
abbrev Jm:=[jO,kU,sI]
abbrev oq:E:=var 18
abbrev azH:E:=cmp .lss oq eM
abbrev WB:E:=.not azH
abbrev azI:E:=cmp .lss eM (.int 1)
abbrev WC:E:=.not azI
abbrev azJ:=[WC]
abbrev azK:=WB::azJ
abbrev WD:=sJ::azK
abbrev azL:E:=cmp .lss oq (.int 0)
abbrev WE:E:=.not azL
abbrev gZ:E:=var 22
abbrev Jn:=jO::WA
abbrev azM:E:=cmp .lss (.int 2147483648) (fn 6 (pr eM (.int 1)))
abbrev WF:E:=.not azM
abbrev azN:E:=pr dm Ww
abbrev azO:E:=fn 225 azN
abbrev WG:=[azO]
abbrev By:E:=.iff gZ (fn 223 (pr au (fn 1 (pr (fn 1 (pr ay (.int 0))) (fn 6 (pr (fn 8 (pr eK (.int 12))) (.int 1)))))))
abbrev azP:=sI::Ji
abbrev azQ:=kU::azP
abbrev WH:=Wx::azQ
abbrev BB:E:=pr au (pr ay (pr bq (.ar .add .i64 aJ (.int 1))))
abbrev BC:E:=.not gZ
abbrev azR:=gY::WG
abbrev azS:=BD::azR
abbrev azT:=Bz::azS
abbrev azU:=Je::azT
abbrev azV:=sI::azU
abbrev WI:=kU::azV
abbrev eY:E:=cmp .lss av (fn 0 bq)
abbrev iD:E:=cmp .eql aJ (fn 120 (pr ay (pr (fn 1 (pr bq av)) (fn 9 (pr (fn 1 (pr ay (.int 0))) (.int 12))))))
abbrev kV:E:=.not (cmp .lss av (.int 0))
abbrev pW:E:=fn 224 (pr bq (pr au (pr ay (pr (fn 1 (pr ay (.int 34))) (fn 9 (pr (fn 1 (pr ay (.int 0))) (.int 12)))))))
abbrev pX:E:=.not (cmp .lss (fn 0 bq) av)
abbrev azW:E:=pr ay av
abbrev azX:E:=pr au azW
abbrev WJ:E:=pr bq azX
abbrev azY:E:=pr dm WJ
abbrev WK:E:=fn 242 azY
abbrev WL:=[WK]
abbrev BE:E:=pr au ay
abbrev Jo:E:=fn 242 (pr (fn 10 (.int 0)) WJ)
abbrev mv:E:=.not (cmp .lss (.int 40) (fn 0 bq))
abbrev wz:=[eY,kV,mv]
abbrev azZ:E:=cmp .lss av eM
abbrev Jp:E:=.not azZ
abbrev az0:=[Jp,sJ]
abbrev az1:=mv::az0
abbrev WM:=kV::az1
abbrev Jq:=eY::WM
abbrev wA:=kV::pW::mv::WL
abbrev BF:E:=pr bq (pr au (pr ay (.ar .add .i64 av (.int 1))))
abbrev Jr:E:=fn 242 (pr dm BF)
abbrev wB:=[Jo,kV,pW,mv]
abbrev Js:E:=fn 242 (pr (fn 10 (.int 0)) BF)
abbrev sK:E:=.iff gZ (fn 222 (pr au (pr (fn 1 (pr (fn 1 (pr ay (.int 0))) (fn 6 (pr (fn 8 (pr aJ (.int 12))) (.int 1))))) (.int 1))))
abbrev ot:E:=cmp .eql eK (fn 121 (pr (fn 1 (pr ay (.int 31))) (fn 1 (pr (fn 1 (pr ay (.int 0))) (fn 6 (pr (fn 8 (pr aJ (.int 12))) (.int 0)))))))
abbrev ou:E:=cmp .eql eK (.int 0)
abbrev sL:E:=.not (fn 1 (pr (fn 1 (pr ay (.int 0))) (fn 6 (pr (fn 8 (pr aJ (.int 12))) (.int 9)))))
abbrev ayt:E:=pr (fn 23 (pr (fn 1 (pr (fn 1 (pr ay (.int 0))) (fn 6 (pr (fn 8 (pr aJ (.int 12))) (.int 0))))) (fn 10 (.int 0)))) BF
abbrev We:E:=fn 242 ayt
abbrev Wf:E:=.not (fn 1 (pr (fn 1 (pr ay (.int 0))) (fn 6 (pr (fn 8 (pr aJ (.int 12))) (.int 10)))))
abbrev Jb:E:=fn 155 (pr au (fn 9 (pr au (.int 14))))
abbrev ayu:E:=cmp .lss (.int 12) (fn 9 (pr au (.int 14)))
abbrev Jc:E:=.not ayu
abbrev wq:E:=fn 116 ay
abbrev Wg:E:=cmp .lss aJ (fn 9 (pr (fn 1 (pr ay (.int 0))) (.int 12)))
abbrev ayv:E:=cmp .lss aJ (.int (-1))
abbrev Wh:E:=.not ayv
abbrev ayw:E:=cmp .lss (fn 0 (fn 1 (pr ay (.int 31)))) eK
abbrev Wi:E:=.not ayw
abbrev ayx:E:=cmp .lss (var 23) (.int 0)
abbrev Wj:E:=.not ayx
abbrev ayy:E:=cmp .lss (.ar .add .i64 av (.int 1)) (.int 1)
abbrev Wk:E:=.not ayy
abbrev ayz:E:=pr (fn 3 (pr dm (fn 23 (pr (fn 1 (pr (fn 1 (pr ay (.int 0))) (fn 6 (pr (fn 8 (pr aJ (.int 12))) (.int 0))))) (fn 10 (.int 0)))))) BF
abbrev Wl:E:=fn 242 ayz
abbrev ayA:E:=cmp .lss (.ar .add .i64 av (.int 1)) (fn 6 (pr eM (.int 1)))
abbrev Wm:E:=.not ayA
abbrev sG:E:=var 10
abbrev gD:E:=var 11
abbrev pU:E:=var 14
abbrev wu:E:=var 15
abbrev Bt:E:=var 3
abbrev wv:E:=fn 241 (pr Bt BE)
abbrev Bu:E:=var 4
abbrev ww:E:=cmp .eql Bu (fn 121 (pr Bt bq))
abbrev wx:E:=cmp .eql Bu (.int 1)
abbrev ol:E:=fn 246 (pr au (pr ay bq))
abbrev je:E:=var 9
abbrev ayB:E:=cmp .lss sG je
abbrev Wn:E:=.not ayB
abbrev Jd:E:=cmp .eql je (fn 0 (fn 1 (pr ay (.int 31))))
abbrev om:E:=var 6
abbrev Wo:E:=fn 201 om
abbrev ayC:E:=pr om (fn 1 (pr ay (.int 32)))
abbrev Wp:E:=fn 200 ayC
abbrev aj:E:=var 5
abbrev ayD:E:=pr aj ay
abbrev Wq:E:=fn 249 ayD
abbrev ayE:=[Wq]
abbrev ayF:=Wp::ayE
abbrev Wr:=Wo::ayF
abbrev Jf:=wq::Wr
abbrev iC:E:=var 7
abbrev oo:E:=var 12
abbrev Jg:E:=fn 200 (pr oo (fn 1 (pr ay (.int 31))))
abbrev Jh:E:=fn 200 (pr gD (fn 1 (pr ay (.int 0))))
abbrev ayG:=Jh::Wr
abbrev ayH:=Jg::ayG
abbrev ayI:=wx::ayH
abbrev ayJ:=ww::ayI
abbrev ayK:=wv::ayJ
abbrev ayL:=wq::ayK
abbrev ayM:=jf::ayL
abbrev Ws:=gY::ayM
abbrev ayN:E:=cmp .lss (fn 0 Bt) Bu
abbrev ayO:E:=.not ayN
abbrev ayP:E:=cmp .lss Bu (.int 0)
abbrev ayR:E:=.not ayP
abbrev ayS:E:=cmp .lss je (.int 0)
abbrev ayT:E:=.not ayS
abbrev sH:E:=var 8
abbrev ayU:E:=.not (cmp .lss sH iC)
abbrev ayV:E:=cmp .lss iC (.int 0)
abbrev ayW:E:=.not ayV
abbrev ayX:E:=cmp .eql iC (fn 9 (pr (fn 1 (pr ay (.int 0))) (.int 12)))
abbrev ayY:E:=cmp .lss (var 13) (.int 0)
abbrev ayZ:E:=.not ayY
abbrev ay1:E:=cmp .lss (var 13) (fn 6 (pr je (.int 1)))
abbrev ay2:E:=.not ay1
abbrev ay3:E:=cmp .lss dm (fn 9 (pr (fn 28 (pr (pr pU iC) gD)) (.int 12)))
abbrev ay4:E:=cmp .lss dm (.int (-1))
abbrev ay5:E:=.not ay4
abbrev Wt:E:=cmp .eql dm (fn 120 (pr (cr [(fn 28 (pr (pr pU iC) gD)),(fn 1 (pr aj (.int 1))),(fn 1 (pr aj (.int 2))),(fn 1 (pr aj (.int 3))),(fn 1 (pr aj (.int 4))),(fn 1 (pr aj (.int 5))),(fn 1 (pr aj (.int 6))),(fn 1 (pr aj (.int 7))),(fn 1 (pr aj (.int 8))),(fn 1 (pr aj (.int 9))),(fn 1 (pr aj (.int 10))),(fn 1 (pr aj (.int 11))),(fn 1 (pr aj (.int 12))),(fn 1 (pr aj (.int 13))),(fn 1 (pr aj (.int 14))),(fn 1 (pr aj (.int 15))),(fn 1 (pr aj (.int 16))),(fn 1 (pr aj (.int 17))),(fn 1 (pr aj (.int 18))),(fn 1 (pr aj (.int 19))),(fn 1 (pr aj (.int 20))),(fn 1 (pr aj (.int 21))),(fn 1 (pr aj (.int 22))),(fn 1 (pr aj (.int 23))),(fn 1 (pr aj (.int 24))),(fn 1 (pr aj (.int 25))),(fn 1 (pr aj (.int 26))),(fn 1 (pr aj (.int 27))),(fn 1 (pr aj (.int 28))),(fn 1 (pr aj (.int 29))),(fn 1 (pr aj (.int 30))),(fn 28 (pr (pr wu (fn 6 (pr je (.int 1)))) (fn 3 (pr oo (fn 23 (pr bq (fn 10 (.int 0)))))))),om,(fn 1 (pr ay (.int 33))),(fn 1 (pr ay (.int 34))),(fn 1 (pr ay (.int 35))),(fn 1 (pr ay (.int 36))),(fn 1 (pr ay (.int 37)))]) (pr bq (fn 9 (pr (fn 28 (pr (pr pU iC) gD)) (.int 12))))))
abbrev ay6:E:=cmp .lss (.int 40) (fn 0 Bt)
abbrev ay7:E:=.not ay6
abbrev ay8:=[ay7]
abbrev ay9:=Wt::ay8
abbrev aza:=ay5::ay9
abbrev azb:=ay3::aza
abbrev azc:=ay2::azb
abbrev azd:=ayZ::azc
abbrev aze:=Wq::azd
abbrev azf:=Wp::aze
abbrev azg:=Wo::azf
abbrev azh:=Jh::azg
abbrev azi:=Jg::azh
abbrev azj:=ayX::azi
abbrev azk:=ayW::azj
abbrev azl:=ayU::azk
abbrev azm:=Jd::azl
abbrev azn:=ayT::azm
abbrev azo:=Wn::azn
abbrev azp:=wx::azo
abbrev azq:=ww::azp
abbrev azr:=ayR::azq
abbrev azs:=ayO::azr
abbrev azt:=wv::azs
abbrev azu:=wq::azt
abbrev azv:=jf::azu
abbrev azw:=gY::azv
abbrev azx:=Jc::azw
abbrev Wu:=Jb::azx
abbrev Jj:E:=fn 120 Wy
abbrev Bv:E:=.not eM
abbrev azy:E:=pr (fn 1 (pr gD (fn 6 (pr (fn 8 (pr dm (.int 12))) (.int 1))))) (.int 4)
abbrev azz:E:=pr au azy
abbrev Wv:E:=fn 222 azz
def as4:=fb [Wd,jf,jf] (fn 109 (pr (fn 1 (pr ay (.int 8))) Jl))<|am fun F p0 p1 p2=>by
 have g0:E.I F bq=(0):=by
  have:=ak p1
  have:=ak p2
  have:=ug F (pr au (.int 14))
  try simp only[aa,ae]at *
  omega
 have g1:E.I F (.int 2)=E.I F (.int 2):=rfl;exact fV 0 2 8 (by decide) (by decide) g0 g1
def as5:=fb [(.not Wd),Bz,BD,jf,jf] (fn 109 (pr (fn 1 (pr ay (.int 22))) Jl))<|aK fun F p0 p1 p2 p3 p4=>by
 have g0:E.I F bq=(1):=by
  have:=ak p3
  have:=ak p4
  have:=ug F (pr au (.int 14))
  try simp only[aa,ae]at *
  omega
 have g1:E.I F (.int 2)=E.I F (.int 2):=rfl;exact fV 1 2 22 (by decide) (by decide) g0 g1
def as6:=fb [jf] (.not (cmp .lss (.int 40) (fn 0 (fn 1 (pr ay (.int 8))))))<|ah fun F p0=>by
 have q1:=Eq.mp gv p0
 have:=Eq.mp kA q1.1
 simp only[aa]at *;omega
def as7:=fb [jf] (.not (cmp .lss (.int 40) (fn 0 (fn 1 (pr ay (.int 22))))))<|ah fun F p0=>by
 have q1:=Eq.mp gv p0
 have:=Eq.mp kA q1.1
 simp only[aa]at *;omega
def as8:=fa ((fn 225 (pr (fn 10 (.int 0)) (pr au (pr ay (pr bq (.int 0)))))))<|fun F=>by
 exact aK0 (by simp only[aa]at *;omega)
def as9:=fb (jO::wt::kU::Ji) wy<|cV fun F p0 p1 p2 p3 p4 p5 p6=>by
 have hf:E.B F pV=true:=by
  rw[rM]
  exact⟨by simp only[aa]at *;omega,by simp only[aa]at *;omega,p6⟩
 have h0:0<=E.I F aJ:=by
  simp only[aa]at *;omega
 have h1:E.I F aJ<E.I F (fn 0 av):=by
  simp only[aa]at *;omega
 have:=zv p3 hf (i:=aJ) rfl h0 h1
 simp only[aa]at *;omega
def ata:=fb (Bw::Wx::Bx::Ji) (fn 224 (pr (fn 30 (.int 0)) Wz))<|cV fun F p0 p1 p2 p3 p4 p5 p6=>by
 have hf:E.B F pV=true:=by
  rw[rM]
  exact⟨by simp only[aa]at *;omega,by simp only[aa]at *;omega,p6⟩
 have h1:E.I F (fn 0 av)<=E.I F aJ:=by
  simp only[aa]at *;omega
 exact aKZ p1 p3 hf h1
def atb:=fb (Bw::Bx::WA) (.not (cmp .lss (.int 60) eM))<|bL fun F p0 p1 p2 p3 p4 p5=>by
 try simp only[aa,ae]at *
 omega
def atc:=fb Jm (.not (cmp .lss (.ar .add .i64 aJ (.int 1)) (.int 0)))<|am fun F p0 p1 p2=>by
 try simp only[aa,ae]at *
 have:=@cP F av
 obtain⟨a8,ea8,qa8⟩:=ab ((E.I F aJ)+(1))
 try simp only[ea8]at *
 omega
def atd:=fb (jO::kU::sI::Jk::WD) WE<|cV fun F p0 p1 p2 p3 p4 p5 p6=>by
 try simp only[aa,ae]at *
 have:=@cP F av
 omega
def ate:=fb [Jk,sJ,Bx,kU,Bw,(cmp .eql (fn 0 eK) gZ),(cmp .eql gZ eM),sI] (.not (cmp .lss (.int 40) (fn 0 eK)))<|c9 fun F p0 p1 p2 p3 p4 p5 p6 p7=>by
 simp only[aa]at *;omega
def atf:=fb [jO,kU] (.not (cmp .lss (fn 0 av) (.ar .add .i64 aJ (.int 1))))<|ap fun F p0 p1=>by
 try simp only[aa,ae]at *
 obtain⟨a8,ea8,qa8⟩:=ab ((E.I F aJ)+(1))
 try simp only[ea8]at *
 omega
def atg:=fb Jn WF<|aK fun F p0 p1 p2 p3 p4=>by
 try simp only[aa,ae]at *
 have:=@cP F av
 omega
def ath:=fb (Bw::(fn 152 (pr eK (pr dm eM)))::Bx::Je::Bz::BD::gY::sJ::WG) (fn 224 (pr (fn 28 (pr (pr (var 24) gZ) eK)) Wz))<|di fun F p0 p1 p2 p3 p4 p5 p6 p7 p8=>by
 have hf:E.B F pV=true:=by
  rw[rM]
  exact⟨by simp only[aa]at *;omega,by simp only[aa]at *;omega,p6⟩
 have h1:E.I F (fn 0 av)<=E.I F aJ:=by
  simp only[aa]at *;omega
 have hx:E.I F (fn 0 dm)<=E.I F eM:=by
  simp only[aa]at *;omega
 exact aKY p8 p3 hf p1 h1 hx
def ati:=fb (jO::wt::By::gZ::WH) (fn 225 (pr (fn 23 (pr (fn 1 (pr av aJ)) (fn 10 (.int 0)))) BB))<|eS fun F p0 p1 p2 p3 p4 p5 p6 p7 p8 p9 ai=>by
 have hf:E.B F pV=true:=by
  rw[rM]
  exact⟨by simp only[aa]at *;omega,by simp only[aa]at *;omega,ai⟩
 have h0:0<=E.I F aJ:=by
  simp only[aa]at *;omega
 have h1:E.I F aJ<E.I F (fn 0 av):=by
  simp only[aa]at *;omega
 have hk:=zv p7 hf (i:=aJ) rfl h0 h1;have hq:E.I F eK=E.I F (fn 120 (pr ay (pr (fn 1 (pr av aJ)) (fn 9 (pr (fn 1 (pr ay (.int 0))) (.int 12)))))):=by
  simp only[aa]at *;omega
 have hq0:0<=E.I F eK:=by
  rw[hq]
  exact hk
 have hn:E.I F (.ar .add .i64 aJ (.int 1))=E.I F aJ+1:=by
  simp only[aa,ae]at *
  obtain⟨w,ew,qw⟩:=ab (E.I F aJ+1)
  simp only[ew];omega
 have st:=@F4 _ (fn 10 (.int 0)) _ _ _ _ _ _ au p4 p7 h0 h1 hn hq hq0
 refine(st.2 ?_).2 rfl
 clear st;simp only[aa,bg,bv]at *;grind
def atj:=fb (jO::wt::By::BC::WH) (fn 225 (pr (fn 10 (.int 0)) BB))<|eS fun F p0 p1 p2 p3 p4 p5 p6 p7 p8 p9 ai=>by
 have hf:E.B F pV=true:=by
  rw[rM]
  exact⟨by simp only[aa]at *;omega,by simp only[aa]at *;omega,ai⟩
 have h0:0<=E.I F aJ:=by
  simp only[aa]at *;omega
 have h1:E.I F aJ<E.I F (fn 0 av):=by
  simp only[aa]at *;omega
 have hk:=zv p7 hf (i:=aJ) rfl h0 h1;have hq:E.I F eK=E.I F (fn 120 (pr ay (pr (fn 1 (pr av aJ)) (fn 9 (pr (fn 1 (pr ay (.int 0))) (.int 12)))))):=by
  simp only[aa]at *;omega
 have hq0:0<=E.I F eK:=by
  rw[hq]
  exact hk
 have hn:E.I F (.ar .add .i64 aJ (.int 1))=E.I F aJ+1:=by
  simp only[aa,ae]at *
  obtain⟨w,ew,qw⟩:=ab (E.I F aJ+1)
  simp only[ew];omega
 have st:=@F4 _ (fn 10 (.int 0)) _ _ _ _ _ _ au p4 p7 h0 h1 hn hq hq0;refine st.1 ?_;clear st;simp only[aa,bg,bv]at *;grind
def atl:=fb (jO::wt::By::BC::WI) (fn 225 (pr dm BB))<|eS fun F p0 p1 p2 p3 p4 p5 p6 p7 p8 p9 ai=>by
 have hf:E.B F pV=true:=by
  rw[rM]
  exact⟨by simp only[aa]at *;omega,by simp only[aa]at *;omega,p9⟩
 have h0:0<=E.I F aJ:=by
  simp only[aa]at *;omega
 have h1:E.I F aJ<E.I F (fn 0 av):=by
  simp only[aa]at *;omega
 have hk:=zv p6 hf (i:=aJ) rfl h0 h1;have hq:E.I F eK=E.I F (fn 120 (pr ay (pr (fn 1 (pr av aJ)) (fn 9 (pr (fn 1 (pr ay (.int 0))) (.int 12)))))):=by
  simp only[aa]at *;omega
 have hq0:0<=E.I F eK:=by
  rw[hq]
  exact hk
 have hn:E.I F (.ar .add .i64 aJ (.int 1))=E.I F aJ+1:=by
  simp only[aa,ae]at *
  obtain⟨w,ew,qw⟩:=ab (E.I F aJ+1)
  simp only[ew];omega
 have st:=@F4 _ dm _ _ _ _ _ _ au ai p6 h0 h1 hn hq hq0;refine st.1 ?_;clear st;simp only[aa,bg,bv]at *;grind
def atm:=fb Jm (.not (cmp .lss (.ar .add .i64 aJ (.int 1)) (.int 1)))<|am fun F p0 p1 p2=>by
 try simp only[aa,ae]at *
 have:=@cP F av
 obtain⟨a8,ea8,qa8⟩:=ab ((E.I F aJ)+(1))
 try simp only[ea8]at *
 omega
def atn:=fb Jm (cmp .lss (fn 7 (pr (fn 0 av) (.ar .add .i64 aJ (.int 1)))) (fn 7 (pr (fn 0 av) aJ)))<|am fun F p0 p1 p2=>by
 try simp only[aa,ae]at *
 have:=@cP F av
 obtain⟨a7,ea7,qa7⟩:=ab ((E.I F aJ)+(1))
 try simp only[ea7]at *
 omega
def ato:=fb Jn (.not (cmp .lss (.ar .add .i64 aJ (.int 1)) eM))<|aK fun F p0 p1 p2 p3 p4=>by
 try simp only[aa,ae]at *
 have:=@cP F av
 obtain⟨a10,ea10,qa10⟩:=ab ((E.I F aJ)+(1))
 try simp only[ea10]at *
 omega
def atp:=fb [jO,kU] (.not (cmp .lss (fn 7 (pr (fn 0 av) (.ar .add .i64 aJ (.int 1)))) (.int 0)))<|ap fun F p0 p1=>by
 try simp only[aa,ae]at *
 obtain⟨a7,ea7,qa7⟩:=ab ((E.I F aJ)+(1))
 try simp only[ea7]at *
 omega
def atq:=fb (jO::wt::By::gZ::WI) (fn 225 (pr (fn 3 (pr dm (fn 23 (pr (fn 1 (pr av aJ)) (fn 10 (.int 0)))))) BB))<|eS fun F p0 p1 p2 p3 p4 p5 p6 p7 p8 p9 ai=>by
 have hf:E.B F pV=true:=by
  rw[rM]
  exact⟨by simp only[aa]at *;omega,by simp only[aa]at *;omega,p9⟩
 have h0:0<=E.I F aJ:=by
  simp only[aa]at *;omega
 have h1:E.I F aJ<E.I F (fn 0 av):=by
  simp only[aa]at *;omega
 have hk:=zv p6 hf (i:=aJ) rfl h0 h1;have hq:E.I F eK=E.I F (fn 120 (pr ay (pr (fn 1 (pr av aJ)) (fn 9 (pr (fn 1 (pr ay (.int 0))) (.int 12)))))):=by
  simp only[aa]at *;omega
 have hq0:0<=E.I F eK:=by
  rw[hq]
  exact hk
 have hn:E.I F (.ar .add .i64 aJ (.int 1))=E.I F aJ+1:=by
  simp only[aa,ae]at *
  obtain⟨w,ew,qw⟩:=ab (E.I F aJ+1)
  simp only[ew];omega
 have st:=@F4 _ dm _ _ _ _ _ _ au ai p6 h0 h1 hn hq hq0
 refine(st.2 ?_).1
 clear st;simp only[aa,bg,bv]at *;grind
def atr:=fb Jn (.not (cmp .lss (.ar .add .i64 aJ (.int 1)) (fn 6 (pr eM (.int 1)))))<|aK fun F p0 p1 p2 p3 p4=>by
 try simp only[aa,ae]at *
 have:=@cP F av
 obtain⟨a11,ea11,qa11⟩:=ab ((E.I F aJ)+(1))
 try simp only[ea11]at *
 omega
def p56:List Fa:=[cY,as4,as5,as6,as7,as8,as9,ata,atb,atc,atd,ate,atf,atg,ath,ati,atj,atl,atm,atn,ato,atp,atq,Hg,atr]
theorem aJw:aR Tryz.prog (bj (aIx)):=sc p56 (aDk) adj (msI) (by kernel_rfl) (by kernel_rfl)
def adk:Nl:=nc aJw adj
def ats:=fb [gY] (.not (cmp .lss (fn 1 (pr ay (.int 34))) (.int 0)))<|ah fun F p0=>by
 have hv:=gt.2 p0
 have:=sV hv
 simp only[aa]at *;omega
def att:=fb [gY] (.not (cmp .lss (.int 1) (fn 1 (pr ay (.int 34)))))<|ah fun F p0=>by
 have hv:=gt.2 p0
 have:=sV hv
 simp only[aa]at *;omega
def atu:=fa ((fn 242 (pr (fn 10 (.int 0)) (pr bq (pr au (pr ay (.int 0)))))))<|fun F=>by
 exact aLa (by simp only[aa]at *;omega)
def atv:=fb [eY,iD,kV,pW] kU<|aB fun F p0 p1 p2 p3=>by
 have z0:0<=E.I F av:=by
  simp only[aa]at *;omega
 have z1:E.I F av<E.I F (fn 0 bq):=by
  simp only[aa]at *;omega
 have hq:E.I F aJ=E.I F (fn 120 (pr ay (pr (fn 1 (pr bq av)) (fn 9 (pr (fn 1 (pr ay (.int 0))) (.int 12)))))):=by
  simp only[aa]at *;omega
 have h0:0<=E.I F aJ:=by
  rw[hq]
  exact jm p3 z0 z1
 clear z0 z1;clear hq;simp only[aa]at *;omega
def atw:=fb ((.not eY)::pX::pW::gY::WL) (fn 241 (pr (fn 28 (pr (pr aJ eM) dm)) BE))<|aK fun F p0 p1 p2 p3 p4=>by
 have hv:=gt.2 p3
 have:=(sV hv).1
 have u:=afY p4 p2 (by simp only[aa]at *;omega) (by simp only[aa]at *;omega);exact aK7 u
def atx:=fb [(.not eY),Jo,pX,pW,gY] (fn 241 (pr (fn 30 (.int 0)) BE))<|aK fun F p0 p1 p2 p3 p4=>by
 have hv:=gt.2 p4
 have:=(sV hv).1
 have u:=afY p1 p3 (by simp only[aa]at *;omega) (by simp only[aa]at *;omega);exact aK8 u
def aty:=fb wz (.not (cmp .lss (.ar .add .i64 av (.int 1)) (.int 0)))<|am fun F p0 p1 p2=>by
 obtain⟨w0,ew0,qw0⟩:=ab (E.I F av+1)
 simp only[aa,ae,ew0]at *;omega
def atz:=fb ((.not eY)::pX::WM) (.not (cmp .lss (.int 40) (fn 0 dm)))<|bL fun F p0 p1 p2 p3 p4 p5=>by
 simp only[aa]at *;omega
def atA:=fb (eY::kV::mv::Jp::WD) WE<|cV fun F p0 p1 p2 p3 p4 p5 p6=>by
 simp only[aa]at *;omega
def atB:=fb wz (.not (cmp .lss (fn 0 bq) (.ar .add .i64 av (.int 1))))<|am fun F p0 p1 p2=>by
 obtain⟨w0,ew0,qw0⟩:=ab (E.I F av+1)
 simp only[aa,ae,ew0]at *;omega
def atC:=fb Jq WF<|aK fun F p0 p1 p2 p3 p4=>by
 simp only[aa]at *;omega
def atD:=fb (eY::iD::(fn 1 (pr (fn 1 (pr ay (.int 0))) (fn 6 (pr (fn 8 (pr aJ (.int 12))) (.int 9)))))::wA) Jr<|cV fun F p0 p1 p2 p3 p4 p5 p6=>by
 have z0:0<=E.I F av:=by
  simp only[aa]at *;omega
 have z1:E.I F av<E.I F (fn 0 bq):=by
  simp only[aa]at *;omega
 have hq:E.I F aJ=E.I F (fn 120 (pr ay (pr (fn 1 (pr bq av)) (fn 9 (pr (fn 1 (pr ay (.int 0))) (.int 12)))))):=by
  simp only[aa]at *;omega
 have h0:0<=E.I F aJ:=by
  rw[hq]
  exact jm p4 z0 z1
 clear z0 z1;have hn:E.I F (.ar .add .i64 av (.int 1))=E.I F av+1:=by
  simp only[aa,ae]at *
  obtain⟨w,ew,qw⟩:=ab (E.I F av+1)
  simp only[ew];omega
 have st:=@lO _ _ _ _ au hq h0;refine uX p6 (by simp only[aa]at *;omega) (by simp only[aa]at *;omega) hn ?_
 rw[st]
 clear st hq h0 hn;simp only[aa,bg,bv]at *;grind
def atE:=fb (eY::iD::(fn 1 (pr (fn 1 (pr ay (.int 0))) (fn 6 (pr (fn 8 (pr aJ (.int 12))) (.int 9)))))::wB) Js<|cV fun F p0 p1 p2 p3 p4 p5 p6=>by
 have z0:0<=E.I F av:=by
  simp only[aa]at *;omega
 have z1:E.I F av<E.I F (fn 0 bq):=by
  simp only[aa]at *;omega
 have hq:E.I F aJ=E.I F (fn 120 (pr ay (pr (fn 1 (pr bq av)) (fn 9 (pr (fn 1 (pr ay (.int 0))) (.int 12)))))):=by
  simp only[aa]at *;omega
 have h0:0<=E.I F aJ:=by
  rw[hq]
  exact jm p5 z0 z1
 clear z0 z1;have hn:E.I F (.ar .add .i64 av (.int 1))=E.I F av+1:=by
  simp only[aa,ae]at *
  obtain⟨w,ew,qw⟩:=ab (E.I F av+1)
  simp only[ew];omega
 have st:=@lO _ _ _ _ au hq h0;refine uX p3 (by simp only[aa]at *;omega) (by simp only[aa]at *;omega) hn ?_
 rw[st]
 clear st hq h0 hn;simp only[aa,bg,bv]at *;grind
def atF:=fb (eY::iD::(fn 1 (pr (fn 1 (pr ay (.int 0))) (fn 6 (pr (fn 8 (pr aJ (.int 12))) (.int 10)))))::sK::BC::wA) Jr<|di fun F p0 p1 p2 p3 p4 p5 p6 p7 p8=>by
 have z0:0<=E.I F av:=by
  simp only[aa]at *;omega
 have z1:E.I F av<E.I F (fn 0 bq):=by
  simp only[aa]at *;omega
 have hq:E.I F aJ=E.I F (fn 120 (pr ay (pr (fn 1 (pr bq av)) (fn 9 (pr (fn 1 (pr ay (.int 0))) (.int 12)))))):=by
  simp only[aa]at *;omega
 have h0:0<=E.I F aJ:=by
  rw[hq]
  exact jm p6 z0 z1
 clear z0 z1;have hn:E.I F (.ar .add .i64 av (.int 1))=E.I F av+1:=by
  simp only[aa,ae]at *
  obtain⟨w,ew,qw⟩:=ab (E.I F av+1)
  simp only[ew];omega
 have st:=@lO _ _ _ _ au hq h0;refine uX p8 (by simp only[aa]at *;omega) (by simp only[aa]at *;omega) hn ?_
 rw[st]
 clear st hq h0 hn;simp only[aa,bg,bv]at *;grind
def atG:=fb (eY::iD::wy::ot::(.not ou)::wA) Jr<|di fun F p0 p1 p2 p3 p4 p5 p6 p7 p8=>by
 have z0:0<=E.I F av:=by
  simp only[aa]at *;omega
 have z1:E.I F av<E.I F (fn 0 bq):=by
  simp only[aa]at *;omega
 have hq:E.I F aJ=E.I F (fn 120 (pr ay (pr (fn 1 (pr bq av)) (fn 9 (pr (fn 1 (pr ay (.int 0))) (.int 12)))))):=by
  simp only[aa]at *;omega
 have h0:0<=E.I F aJ:=by
  rw[hq]
  exact jm p6 z0 z1
 clear z0 z1;have hn:E.I F (.ar .add .i64 av (.int 1))=E.I F av+1:=by
  simp only[aa,ae]at *
  obtain⟨w,ew,qw⟩:=ab (E.I F av+1)
  simp only[ew];omega
 have st:=@lO _ _ _ _ au hq h0;refine uX p8 (by simp only[aa]at *;omega) (by simp only[aa]at *;omega) hn ?_
 rw[st]
 clear st hq h0 hn;simp only[aa,bg,bv]at *;grind
def atH:=fb Jq (.not (cmp .lss (.ar .add .i64 av (.int 1)) eM))<|aK fun F p0 p1 p2 p3 p4=>by
 obtain⟨w0,ew0,qw0⟩:=ab (E.I F av+1)
 simp only[aa,ae,ew0]at *;omega
def atI:=fb (eY::iD::sL::ot::ou::sK::gZ::wB) We<|eS fun F p0 p1 p2 p3 p4 p5 p6 p7 p8 p9 ai=>by
 have z0:0<=E.I F av:=by
  simp only[aa]at *;omega
 have z1:E.I F av<E.I F (fn 0 bq):=by
  simp only[aa]at *;omega
 have hq:E.I F aJ=E.I F (fn 120 (pr ay (pr (fn 1 (pr bq av)) (fn 9 (pr (fn 1 (pr ay (.int 0))) (.int 12)))))):=by
  simp only[aa]at *;omega
 have h0:0<=E.I F aJ:=by
  rw[hq]
  exact jm p9 z0 z1
 clear z0 z1;have hn:E.I F (.ar .add .i64 av (.int 1))=E.I F av+1:=by
  simp only[aa,ae]at *
  obtain⟨w,ew,qw⟩:=ab (E.I F av+1)
  simp only[ew];omega
 have st:=@lO _ _ _ _ au hq h0;refine afZ p7 (by simp only[aa]at *;omega) (by simp only[aa]at *;omega) hn (yh hq h0) ?_
 rw[st]
 clear st hq h0 hn;simp only[aa,bg,bv]at *;grind
def atJ:=fb (eY::iD::(fn 1 (pr (fn 1 (pr ay (.int 0))) (fn 6 (pr (fn 8 (pr aJ (.int 12))) (.int 10)))))::sK::BC::wB) Js<|di fun F p0 p1 p2 p3 p4 p5 p6 p7 p8=>by
 have z0:0<=E.I F av:=by
  simp only[aa]at *;omega
 have z1:E.I F av<E.I F (fn 0 bq):=by
  simp only[aa]at *;omega
 have hq:E.I F aJ=E.I F (fn 120 (pr ay (pr (fn 1 (pr bq av)) (fn 9 (pr (fn 1 (pr ay (.int 0))) (.int 12)))))):=by
  simp only[aa]at *;omega
 have h0:0<=E.I F aJ:=by
  rw[hq]
  exact jm p7 z0 z1
 clear z0 z1;have hn:E.I F (.ar .add .i64 av (.int 1))=E.I F av+1:=by
  simp only[aa,ae]at *
  obtain⟨w,ew,qw⟩:=ab (E.I F av+1)
  simp only[ew];omega
 have st:=@lO _ _ _ _ au hq h0;refine uX p5 (by simp only[aa]at *;omega) (by simp only[aa]at *;omega) hn ?_
 rw[st]
 clear st hq h0 hn;simp only[aa,bg,bv]at *;grind
def atK:=fb (eY::iD::sL::ot::ou::Wf::wB) We<|eR fun F p0 p1 p2 p3 p4 p5 p6 p7 p8 p9=>by
 have z0:0<=E.I F av:=by
  simp only[aa]at *;omega
 have z1:E.I F av<E.I F (fn 0 bq):=by
  simp only[aa]at *;omega
 have hq:E.I F aJ=E.I F (fn 120 (pr ay (pr (fn 1 (pr bq av)) (fn 9 (pr (fn 1 (pr ay (.int 0))) (.int 12)))))):=by
  simp only[aa]at *;omega
 have h0:0<=E.I F aJ:=by
  rw[hq]
  exact jm p8 z0 z1
 clear z0 z1;have hn:E.I F (.ar .add .i64 av (.int 1))=E.I F av+1:=by
  simp only[aa,ae]at *
  obtain⟨w,ew,qw⟩:=ab (E.I F av+1)
  simp only[ew];omega
 have st:=@lO _ _ _ _ au hq h0;refine afZ p6 (by simp only[aa]at *;omega) (by simp only[aa]at *;omega) hn (yh hq h0) ?_
 rw[st]
 clear st hq h0 hn;simp only[aa,bg,bv]at *;grind
def atL:=fb (eY::iD::wy::ot::(.not ou)::wB) Js<|di fun F p0 p1 p2 p3 p4 p5 p6 p7 p8=>by
 have z0:0<=E.I F av:=by
  simp only[aa]at *;omega
 have z1:E.I F av<E.I F (fn 0 bq):=by
  simp only[aa]at *;omega
 have hq:E.I F aJ=E.I F (fn 120 (pr ay (pr (fn 1 (pr bq av)) (fn 9 (pr (fn 1 (pr ay (.int 0))) (.int 12)))))):=by
  simp only[aa]at *;omega
 have h0:0<=E.I F aJ:=by
  rw[hq]
  exact jm p7 z0 z1
 clear z0 z1;have hn:E.I F (.ar .add .i64 av (.int 1))=E.I F av+1:=by
  simp only[aa,ae]at *
  obtain⟨w,ew,qw⟩:=ab (E.I F av+1)
  simp only[ew];omega
 have st:=@lO _ _ _ _ au hq h0;refine uX p5 (by simp only[aa]at *;omega) (by simp only[aa]at *;omega) hn ?_
 rw[st]
 clear st hq h0 hn;simp only[aa,bg,bv]at *;grind
def atM:=fb wz (cmp .lss (fn 7 (pr (fn 0 bq) (.ar .add .i64 av (.int 1)))) (fn 7 (pr (fn 0 bq) av)))<|am fun F p0 p1 p2=>by
 obtain⟨w0,ew0,qw0⟩:=ab (E.I F av+1)
 simp only[aa,ae,ew0]at *;omega
def atN:=fb [Jo,pW,Jb,Jc,gY,jf,wq,eY,Wg,Wh,iD,sL,Wi,wy,ot,ou,(fn 1 (pr (fn 1 (pr ay (.int 0))) (fn 6 (pr (fn 8 (pr aJ (.int 12))) (.int 10))))),sK,gZ,Wj,(.not (cmp .lss (var 23) (.int 1))),pX,kV,mv,pX,kV,mv] Wk<|yj fun F p0 p1 p2 p3 p4 p5 p6 p7 p8 p9 ai ao aq ax aA aC aL aN bn bw bC bG bO bV co cp cQ=>by
 clear aN
 obtain⟨w0,ew0,qw0⟩:=ab (E.I F av+1)
 simp only[aa,ae,ew0]at *;omega
def atO:=fb wz Wk<|am fun F p0 p1 p2=>by
 obtain⟨w0,ew0,qw0⟩:=ab (E.I F av+1)
 simp only[aa,ae,ew0]at *;omega
def atP:=fb wz (.not (cmp .lss (fn 7 (pr (fn 0 bq) (.ar .add .i64 av (.int 1)))) (.int 0)))<|am fun F p0 p1 p2=>by
 obtain⟨w0,ew0,qw0⟩:=ab (E.I F av+1)
 simp only[aa,ae,ew0]at *;omega
def atQ:=fb (eY::iD::sL::ot::ou::sK::gZ::wA) Wl<|eS fun F p0 p1 p2 p3 p4 p5 p6 p7 p8 p9 ai=>by
 have z0:0<=E.I F av:=by
  simp only[aa]at *;omega
 have z1:E.I F av<E.I F (fn 0 bq):=by
  simp only[aa]at *;omega
 have hq:E.I F aJ=E.I F (fn 120 (pr ay (pr (fn 1 (pr bq av)) (fn 9 (pr (fn 1 (pr ay (.int 0))) (.int 12)))))):=by
  simp only[aa]at *;omega
 have h0:0<=E.I F aJ:=by
  rw[hq]
  exact jm p8 z0 z1
 clear z0 z1;have hn:E.I F (.ar .add .i64 av (.int 1))=E.I F av+1:=by
  simp only[aa,ae]at *
  obtain⟨w,ew,qw⟩:=ab (E.I F av+1)
  simp only[ew];omega
 have st:=@lO _ _ _ _ au hq h0;refine af0 ai (by simp only[aa]at *;omega) (by simp only[aa]at *;omega) hn (yh hq h0) ?_
 rw[st]
 clear st hq h0 hn;simp only[aa,bg,bv]at *;grind
def atS:=fb (eY::iD::sL::ot::ou::Wf::wA) Wl<|eR fun F p0 p1 p2 p3 p4 p5 p6 p7 p8 p9=>by
 have z0:0<=E.I F av:=by
  simp only[aa]at *;omega
 have z1:E.I F av<E.I F (fn 0 bq):=by
  simp only[aa]at *;omega
 have hq:E.I F aJ=E.I F (fn 120 (pr ay (pr (fn 1 (pr bq av)) (fn 9 (pr (fn 1 (pr ay (.int 0))) (.int 12)))))):=by
  simp only[aa]at *;omega
 have h0:0<=E.I F aJ:=by
  rw[hq]
  exact jm p7 z0 z1
 clear z0 z1;have hn:E.I F (.ar .add .i64 av (.int 1))=E.I F av+1:=by
  simp only[aa,ae]at *
  obtain⟨w,ew,qw⟩:=ab (E.I F av+1)
  simp only[ew];omega
 have st:=@lO _ _ _ _ au hq h0;refine af0 p9 (by simp only[aa]at *;omega) (by simp only[aa]at *;omega) hn (yh hq h0) ?_
 rw[st]
 clear st hq h0 hn;simp only[aa,bg,bv]at *;grind
def atT:=fb [WK,pW,Jb,Jc,gY,jf,wq,eY,Wg,Wh,iD,sL,Wi,wy,ot,ou,(fn 1 (pr (fn 1 (pr ay (.int 0))) (fn 6 (pr (fn 8 (pr aJ (.int 12))) (.int 10))))),sK,gZ,Wj,(.not (cmp .lss (var 23) (fn 6 (pr eM (.int 1))))),pX,kV,mv,Jp,sJ,WB,WC,pX,kV,mv] Wm<|abD fun F p0 p1 p2 p3 p4 p5 p6 p7 p8 p9 ai ao aq ax aA aC aL aN bn bw bC bG bO bV co cp cQ dH d6 eU fT=>by
 clear aN
 obtain⟨w0,ew0,qw0⟩:=ab (E.I F av+1)
 simp only[aa,ae,ew0]at *;omega
def atU:=fb Jq Wm<|aK fun F p0 p1 p2 p3 p4=>by
 obtain⟨w0,ew0,qw0⟩:=ab (E.I F av+1)
 simp only[aa,ae,ew0]at *;omega
def p57:List Fa:=[cY,ats,att,atu,atv,atw,atx,Qq,aty,atz,atA,atB,atC,atD,atE,atF,atG,atH,atI,atJ,atK,atL,atM,atN,atO,atP,atQ,atS,Hg,atT,atU]
theorem aJx:aR Tryz.prog (bj (aIb)):=sc p57 (aC6) adk ([.down kI]) (by kernel_rfl) (by kernel_rfl)
def aGE:Nl:=nc aJx adk
def atV:=fb [(fn 116 au),(fn 195 sG),(fn 187 (pr sG (fn 1 (pr au (.int 29))))),(fn 195 gD),(fn 187 (pr gD (fn 1 (pr au (.int 30)))))] (fn 249 (pr (cr [(fn 1 (pr au (.int 0))),(fn 1 (pr au (.int 1))),(fn 1 (pr au (.int 2))),(fn 1 (pr au (.int 3))),(fn 1 (pr au (.int 4))),(fn 1 (pr au (.int 5))),(fn 28 (pr (pr pU (fn 0 (fn 1 (pr au (.int 6))))) (fn 1 (pr au (.int 6))))),(fn 28 (pr (pr wu (fn 0 (fn 1 (pr au (.int 7))))) (fn 1 (pr au (.int 7))))),(fn 28 (pr (pr dm (fn 0 (fn 1 (pr au (.int 8))))) (fn 1 (pr au (.int 8))))),(fn 28 (pr (pr eM (fn 0 (fn 1 (pr au (.int 9))))) (fn 1 (pr au (.int 9))))),(fn 1 (pr au (.int 10))),(fn 1 (pr au (.int 11))),(fn 1 (pr au (.int 12))),(fn 1 (pr au (.int 13))),(fn 1 (pr au (.int 14))),(fn 1 (pr au (.int 15))),(fn 1 (pr au (.int 16))),(fn 1 (pr au (.int 17))),(fn 1 (pr au (.int 18))),(fn 1 (pr au (.int 19))),(fn 28 (pr (pr oq (fn 0 (fn 1 (pr au (.int 20))))) (fn 1 (pr au (.int 20))))),(fn 28 (pr (pr av (fn 0 (fn 1 (pr au (.int 21))))) (fn 1 (pr au (.int 21))))),(fn 28 (pr (pr aJ (fn 0 (fn 1 (pr au (.int 22))))) (fn 1 (pr au (.int 22))))),(fn 28 (pr (pr eK (fn 0 (fn 1 (pr au (.int 23))))) (fn 1 (pr au (.int 23))))),(fn 1 (pr au (.int 24))),(fn 1 (pr au (.int 25))),(fn 1 (pr au (.int 26))),(fn 1 (pr au (.int 27))),(fn 1 (pr au (.int 28))),sG,gD]) au))<|aK fun F p0 p1 p2 p3 p4=>by
 have h1:=@aLm F au ([(fn 1 (pr au (.int 0))),(fn 1 (pr au (.int 1))),(fn 1 (pr au (.int 2))),(fn 1 (pr au (.int 3))),(fn 1 (pr au (.int 4))),(fn 1 (pr au (.int 5))),(fn 28 (pr (pr pU (fn 0 (fn 1 (pr au (.int 6))))) (fn 1 (pr au (.int 6))))),(fn 28 (pr (pr wu (fn 0 (fn 1 (pr au (.int 7))))) (fn 1 (pr au (.int 7))))),(fn 28 (pr (pr dm (fn 0 (fn 1 (pr au (.int 8))))) (fn 1 (pr au (.int 8))))),(fn 28 (pr (pr eM (fn 0 (fn 1 (pr au (.int 9))))) (fn 1 (pr au (.int 9))))),(fn 1 (pr au (.int 10))),(fn 1 (pr au (.int 11))),(fn 1 (pr au (.int 12))),(fn 1 (pr au (.int 13))),(fn 1 (pr au (.int 14))),(fn 1 (pr au (.int 15))),(fn 1 (pr au (.int 16))),(fn 1 (pr au (.int 17))),(fn 1 (pr au (.int 18))),(fn 1 (pr au (.int 19))),(fn 28 (pr (pr oq (fn 0 (fn 1 (pr au (.int 20))))) (fn 1 (pr au (.int 20))))),(fn 28 (pr (pr av (fn 0 (fn 1 (pr au (.int 21))))) (fn 1 (pr au (.int 21))))),(fn 28 (pr (pr aJ (fn 0 (fn 1 (pr au (.int 22))))) (fn 1 (pr au (.int 22))))),(fn 28 (pr (pr eK (fn 0 (fn 1 (pr au (.int 23))))) (fn 1 (pr au (.int 23))))),(fn 1 (pr au (.int 24))),(fn 1 (pr au (.int 25))),(fn 1 (pr au (.int 26))),(fn 1 (pr au (.int 27))),(fn 1 (pr au (.int 28))),sG,gD]) rfl;exact h1 (aEF (eP 1 rfl rfl (eP 2 rfl rfl (eP 3 rfl rfl (eP 4 rfl rfl (eP 5 rfl rfl (oL 6 rfl rfl (by decide) p0 nS nT (oL 7 rfl rfl (by decide) p0 nS nT (oL 8 rfl rfl (by decide) p0 nS nT (oL 9 rfl rfl (by decide) p0 nS nT (eP 10 rfl rfl (eP 11 rfl rfl (eP 12 rfl rfl (eP 13 rfl rfl (eP 14 rfl rfl (eP 15 rfl rfl (eP 16 rfl rfl (eP 17 rfl rfl (eP 18 rfl rfl (eP 19 rfl rfl (oL 20 rfl rfl (by decide) p0 nS nT (oL 21 rfl rfl (by decide) p0 nS nT (oL 22 rfl rfl (by decide) p0 nS nT (oL 23 rfl rfl (by decide) p0 nS nT (eP 24 rfl rfl (eP 25 rfl rfl (eP 26 rfl rfl (eP 27 rfl rfl (eP 28 rfl rfl (aaa 29 rfl rfl p2 p1 (aaa 30 rfl rfl p4 p3 trivial)))))))))))))))))))))))))))))))
def atW:=fa ((fn 200 (pr (fn 28 (pr (pr gZ (fn 9 (pr (fn 1 (pr au (.int 32))) (.int 2)))) (fn 1 (pr au (.int 32))))) (fn 1 (pr au (.int 32))))))<|fun F=>by
 exact nS
def atX:=fa ((fn 201 (fn 28 (pr (pr gZ (fn 9 (pr (fn 1 (pr au (.int 32))) (.int 2)))) (fn 1 (pr au (.int 32)))))))<|fun F=>by
 exact nT
def atY:=fa ((fn 200 (pr (fn 1 (pr au (.int 0))) (fn 1 (pr au (.int 0))))))<|fun F=>by
 exact NF
def atZ:=fa ((fn 200 (pr (fn 1 (pr au (.int 31))) (fn 1 (pr au (.int 31))))))<|fun F=>by
 exact NF
def p58:List Fa:=[cY,GV,GW,GX,GY,GZ,Ha,Hb,Hc,Hd,lU,vA,Ab,rU,vB,Ac,He,Hf,atV,atW,atX,atY,atZ]
theorem aJy:aR Tryz.prog (bj (aIF)):=sc p58 ([]) Et (aGD) (by kernel_rfl) (by kernel_rfl)
def adm:Nl:=nc aJy aGE
def at1:=fb [gY,wv,ww,(.not wx)] (.not ol)<|aB fun F p0 p1 p2 p3=>by
 have hv:=gt.2 p0;have m:=@rB _ _ bq _ _ hv p1
 rw[bv,<- m]
 simp only[aa]at *;omega
def at2:=fb [jf,Wn,Jd] (.not (cmp .lss sG (.int 0)))<|am fun F p0 p1 p2=>by
 have:=ak p0
 simp only[aa]at *;omega
def at3:=fb [jf,Jd] (.not (cmp .lss (.int 2147483648) (fn 6 (pr je (.int 1)))))<|ap fun F p0 p1=>by
 have:=ak p0
 simp only[aa]at *;omega
def at4:=fb Jf (fn 116 (cr [(fn 28 (pr (pr pU iC) gD)),(fn 1 (pr aj (.int 1))),(fn 1 (pr aj (.int 2))),(fn 1 (pr aj (.int 3))),(fn 1 (pr aj (.int 4))),(fn 1 (pr aj (.int 5))),(fn 1 (pr aj (.int 6))),(fn 1 (pr aj (.int 7))),(fn 1 (pr aj (.int 8))),(fn 1 (pr aj (.int 9))),(fn 1 (pr aj (.int 10))),(fn 1 (pr aj (.int 11))),(fn 1 (pr aj (.int 12))),(fn 1 (pr aj (.int 13))),(fn 1 (pr aj (.int 14))),(fn 1 (pr aj (.int 15))),(fn 1 (pr aj (.int 16))),(fn 1 (pr aj (.int 17))),(fn 1 (pr aj (.int 18))),(fn 1 (pr aj (.int 19))),(fn 1 (pr aj (.int 20))),(fn 1 (pr aj (.int 21))),(fn 1 (pr aj (.int 22))),(fn 1 (pr aj (.int 23))),(fn 1 (pr aj (.int 24))),(fn 1 (pr aj (.int 25))),(fn 1 (pr aj (.int 26))),(fn 1 (pr aj (.int 27))),(fn 1 (pr aj (.int 28))),(fn 1 (pr aj (.int 29))),(fn 1 (pr aj (.int 30))),(fn 28 (pr (pr wu (fn 6 (pr je (.int 1)))) (fn 3 (pr oo (fn 23 (pr bq (fn 10 (.int 0)))))))),om,(fn 1 (pr ay (.int 33))),(fn 1 (pr ay (.int 34))),(fn 1 (pr ay (.int 35))),(fn 1 (pr ay (.int 36))),(fn 1 (pr ay (.int 37)))]))<|aB fun F p0 p1 p2 p3=>by
 exact afD p3 p2 p1 p0
def at5:=fb Ws (fn 117 (cr [(fn 28 (pr (pr pU iC) gD)),(fn 1 (pr aj (.int 1))),(fn 1 (pr aj (.int 2))),(fn 1 (pr aj (.int 3))),(fn 1 (pr aj (.int 4))),(fn 1 (pr aj (.int 5))),(fn 1 (pr aj (.int 6))),(fn 1 (pr aj (.int 7))),(fn 1 (pr aj (.int 8))),(fn 1 (pr aj (.int 9))),(fn 1 (pr aj (.int 10))),(fn 1 (pr aj (.int 11))),(fn 1 (pr aj (.int 12))),(fn 1 (pr aj (.int 13))),(fn 1 (pr aj (.int 14))),(fn 1 (pr aj (.int 15))),(fn 1 (pr aj (.int 16))),(fn 1 (pr aj (.int 17))),(fn 1 (pr aj (.int 18))),(fn 1 (pr aj (.int 19))),(fn 1 (pr aj (.int 20))),(fn 1 (pr aj (.int 21))),(fn 1 (pr aj (.int 22))),(fn 1 (pr aj (.int 23))),(fn 1 (pr aj (.int 24))),(fn 1 (pr aj (.int 25))),(fn 1 (pr aj (.int 26))),(fn 1 (pr aj (.int 27))),(fn 1 (pr aj (.int 28))),(fn 1 (pr aj (.int 29))),(fn 1 (pr aj (.int 30))),(fn 28 (pr (pr wu (fn 6 (pr je (.int 1)))) (fn 3 (pr oo (fn 23 (pr bq (fn 10 (.int 0)))))))),om,(fn 1 (pr ay (.int 33))),(fn 1 (pr ay (.int 34))),(fn 1 (pr ay (.int 35))),(fn 1 (pr ay (.int 36))),(fn 1 (pr ay (.int 37)))]))<|eS fun F p0 p1 p2 p3 p4 p5 p6 p7 p8 p9 ai=>by
 have hv:=gt.2 p0;have m:=@rB _ _ bq _ _ hv p3;have m6:E.B F ol=true:=by
  rw[<- m]
  simp only[aa]at *;omega
 clear m;exact afE ai p9 p8 p2 p1 hv m6 (afU p7) p6
def at6:=fb Wu (.not (cmp .lss dm (.int 0)))<|yj fun F p0 p1 p2 p3 p4 p5 p6 p7 p8 p9 ai ao aq ax aA aC aL aN bn bw bC bG bO bV co cp cQ=>by
 have hv:=gt.2 p2;have m:=@rB _ _ bq _ _ hv p5;have m6:E.B F ol=true:=by
  rw[<- m]
  simp only[aa]at *;omega
 clear m;have hq:E.I F dm=E.I F Jj:=by
  rw[<- Ny aN]
  have g:=cp
  rw[kg]at g
  exact g
 have h0:=uY m6;have h1:=af2 m6
 rw[<- hq]at h0 h1
 clear cp hq;simp only[aa]at *;omega
def at7:=fb Wu (cmp .lss dm iC)<|yj fun F p0 p1 p2 p3 p4 p5 p6 p7 p8 p9 ai ao aq ax aA aC aL aN bn bw bC bG bO bV co cp cQ=>by
 have hv:=gt.2 p2;have m:=@rB _ _ bq _ _ hv p5;have m6:E.B F ol=true:=by
  rw[<- m]
  simp only[aa]at *;omega
 clear m;have hq:E.I F dm=E.I F Jj:=by
  rw[<- Ny aN]
  have g:=cp
  rw[kg]at g
  exact g
 have h0:=uY m6;have h1:=af2 m6
 rw[<- hq]at h0 h1
 clear cp hq;simp only[aa]at *;omega
def at8:=fb [gY,wv,ww,wx] ol<|aB fun F p0 p1 p2 p3=>by
 have hv:=gt.2 p0;have m:=@rB _ _ bq _ _ hv p1;have m6:E.B F ol=true:=by
  rw[<- m]
  simp only[aa]at *;omega
 clear m;exact m6
def at9:=fb Jf (fn 250 (pr (cr [(fn 28 (pr (pr oq iC) (fn 2 (pr gD (pr (fn 6 (pr (fn 8 (pr dm (.int 12))) (.int 9))) Bv))))),(fn 1 (pr aj (.int 1))),(fn 1 (pr aj (.int 2))),(fn 1 (pr aj (.int 3))),(fn 1 (pr aj (.int 4))),(fn 1 (pr aj (.int 5))),(fn 1 (pr aj (.int 6))),(fn 1 (pr aj (.int 7))),(fn 1 (pr aj (.int 8))),(fn 1 (pr aj (.int 9))),(fn 1 (pr aj (.int 10))),(fn 1 (pr aj (.int 11))),(fn 1 (pr aj (.int 12))),(fn 1 (pr aj (.int 13))),(fn 1 (pr aj (.int 14))),(fn 1 (pr aj (.int 15))),(fn 1 (pr aj (.int 16))),(fn 1 (pr aj (.int 17))),(fn 1 (pr aj (.int 18))),(fn 1 (pr aj (.int 19))),(fn 1 (pr aj (.int 20))),(fn 1 (pr aj (.int 21))),(fn 1 (pr aj (.int 22))),(fn 1 (pr aj (.int 23))),(fn 1 (pr aj (.int 24))),(fn 1 (pr aj (.int 25))),(fn 1 (pr aj (.int 26))),(fn 1 (pr aj (.int 27))),(fn 1 (pr aj (.int 28))),(fn 1 (pr aj (.int 29))),(fn 1 (pr aj (.int 30))),(fn 28 (pr (pr av (fn 6 (pr je (.int 1)))) (fn 3 (pr oo (fn 23 (pr bq (fn 10 (.int 0)))))))),om,(fn 1 (pr ay (.int 33))),(fn 1 (pr ay (.int 34))),(fn 1 (pr ay (.int 35))),(fn 1 (pr ay (.int 36))),(fn 1 (pr ay (.int 37)))]) ay))<|aB fun F p0 p1 p2 p3=>by
 exact NJ p3 p2 p1 p0
def aua:=fb [gY,wv,ww,wx,Jh,Wt,(.iff eM Wv)] (fn 247 (pr (fn 28 (pr (pr oq iC) (fn 2 (pr gD (pr (fn 6 (pr (fn 8 (pr dm (.int 12))) (.int 9))) Bv))))) (pr ay (pr au bq))))<|cV fun F p0 p1 p2 p3 p4 p5 p6=>by
 have hv:=gt.2 p0;have m:=@rB _ _ bq _ _ hv p1;have m6:E.B F ol=true:=by
  rw[<- m]
  simp only[aa]at *;omega
 clear m;have hq:E.I F dm=E.I F Jj:=by
  rw[<- Ny p4]
  have g:=p5
  rw[kg]at g
  exact g
 have h0:=uY m6
 rw[<- hq]at h0
 have g:=p6
 rw[bg]at g
 refine aLk hq h0 p4 ?_;apply propext;have ec:E.B F (fn 222 (pr au (pr (iI ay dm 1) (.int 4))))=E.B F Wv:=aKW p4
 rw[ec]
 exact g
def aub:=fb [Jg] (fn 248 (pr (fn 28 (pr (pr av (fn 6 (pr je (.int 1)))) (fn 3 (pr oo (fn 23 (pr bq (fn 10 (.int 0)))))))) (pr (fn 1 (pr ay (.int 31))) bq)))<|ah fun F p0=>by
 exact af4 p0
def auc:=fb Jf (fn 116 (cr [(fn 28 (pr (pr oq iC) (fn 2 (pr gD (pr (fn 6 (pr (fn 8 (pr dm (.int 12))) (.int 9))) Bv))))),(fn 1 (pr aj (.int 1))),(fn 1 (pr aj (.int 2))),(fn 1 (pr aj (.int 3))),(fn 1 (pr aj (.int 4))),(fn 1 (pr aj (.int 5))),(fn 1 (pr aj (.int 6))),(fn 1 (pr aj (.int 7))),(fn 1 (pr aj (.int 8))),(fn 1 (pr aj (.int 9))),(fn 1 (pr aj (.int 10))),(fn 1 (pr aj (.int 11))),(fn 1 (pr aj (.int 12))),(fn 1 (pr aj (.int 13))),(fn 1 (pr aj (.int 14))),(fn 1 (pr aj (.int 15))),(fn 1 (pr aj (.int 16))),(fn 1 (pr aj (.int 17))),(fn 1 (pr aj (.int 18))),(fn 1 (pr aj (.int 19))),(fn 1 (pr aj (.int 20))),(fn 1 (pr aj (.int 21))),(fn 1 (pr aj (.int 22))),(fn 1 (pr aj (.int 23))),(fn 1 (pr aj (.int 24))),(fn 1 (pr aj (.int 25))),(fn 1 (pr aj (.int 26))),(fn 1 (pr aj (.int 27))),(fn 1 (pr aj (.int 28))),(fn 1 (pr aj (.int 29))),(fn 1 (pr aj (.int 30))),(fn 28 (pr (pr av (fn 6 (pr je (.int 1)))) (fn 3 (pr oo (fn 23 (pr bq (fn 10 (.int 0)))))))),om,(fn 1 (pr ay (.int 33))),(fn 1 (pr ay (.int 34))),(fn 1 (pr ay (.int 35))),(fn 1 (pr ay (.int 36))),(fn 1 (pr ay (.int 37)))]))<|aB fun F p0 p1 p2 p3=>by
 exact afD p3 p2 p1 p0
def aud:=fb Ws (fn 117 (cr [(fn 28 (pr (pr oq iC) (fn 2 (pr gD (pr (fn 6 (pr (fn 8 (pr dm (.int 12))) (.int 9))) Bv))))),(fn 1 (pr aj (.int 1))),(fn 1 (pr aj (.int 2))),(fn 1 (pr aj (.int 3))),(fn 1 (pr aj (.int 4))),(fn 1 (pr aj (.int 5))),(fn 1 (pr aj (.int 6))),(fn 1 (pr aj (.int 7))),(fn 1 (pr aj (.int 8))),(fn 1 (pr aj (.int 9))),(fn 1 (pr aj (.int 10))),(fn 1 (pr aj (.int 11))),(fn 1 (pr aj (.int 12))),(fn 1 (pr aj (.int 13))),(fn 1 (pr aj (.int 14))),(fn 1 (pr aj (.int 15))),(fn 1 (pr aj (.int 16))),(fn 1 (pr aj (.int 17))),(fn 1 (pr aj (.int 18))),(fn 1 (pr aj (.int 19))),(fn 1 (pr aj (.int 20))),(fn 1 (pr aj (.int 21))),(fn 1 (pr aj (.int 22))),(fn 1 (pr aj (.int 23))),(fn 1 (pr aj (.int 24))),(fn 1 (pr aj (.int 25))),(fn 1 (pr aj (.int 26))),(fn 1 (pr aj (.int 27))),(fn 1 (pr aj (.int 28))),(fn 1 (pr aj (.int 29))),(fn 1 (pr aj (.int 30))),(fn 28 (pr (pr av (fn 6 (pr je (.int 1)))) (fn 3 (pr oo (fn 23 (pr bq (fn 10 (.int 0)))))))),om,(fn 1 (pr ay (.int 33))),(fn 1 (pr ay (.int 34))),(fn 1 (pr ay (.int 35))),(fn 1 (pr ay (.int 36))),(fn 1 (pr ay (.int 37)))]))<|eS fun F p0 p1 p2 p3 p4 p5 p6 p7 p8 p9 ai=>by
 have hv:=gt.2 p0;have m:=@rB _ _ bq _ _ hv p3;have m6:E.B F ol=true:=by
  rw[<- m]
  simp only[aa]at *;omega
 clear m;exact afE ai p9 p8 p2 p1 hv m6 (aHM.trans (afU p7)) p6
def p59:List Fa:=[cY,at1,at2,at3,at4,at5,at6,at7,at8,at9,aua,aub,auc,aud]
theorem aJz:aR Tryz.prog (bj (aIg)):=sc p59 ([]) adm (aGB) (by kernel_rfl) (by kernel_rfl)
def aGF:Nl:=nc aJz adm
def p60:List Fa:=[cY,GV,GW,GX,GY,GZ,Ha,Hb,Hc,Hd,lU,vA,Ab,rU,vB,Ac,He,Hf,PR]
theorem aJB:aR Tryz.prog (bj (afi)):=sc p60 ([]) Et (uc) (by kernel_rfl) (by kernel_rfl)
def aGG:Nl:=nc aJB aGF
def aue:=fb [(cmp .lss sH (fn 0 au)),(cmp .eql (fn 0 au) (fn 0 ay))] (cmp .lss sH (fn 0 ay))<|ap fun F p0 p1=>by
 simp only[aa]at *;omega
def auf:=fb [(fn 237 BE)] (cmp .eql (fn 1 (pr au sH)) (fn 1 (pr ay sH)))<|ah fun F p0=>by
 have:=@aK6 _ _ _ sH p0
 simp only[aa]at *;omega
def p61:List Fa:=[cY,aue,auf,PS,GS,PT,GU]
theorem aJC:aR Tryz.prog (bj (aIp)):=sc p61 (aDf) Me ([]) (by kernel_rfl) (by kernel_rfl)
def adn:Nl:=nc aJC aGG
end
end Go.Proofs.YtnggbcblogpnfaaGreat.combatAttacks
