/-
  CombatDamages: contracts of functions, part 14.
-/
import Derived.Test.YtnggbcblogpnfaaGreatCombatDamagesPartm
namespace Go.Proofs.YtnggbcblogpnfaaGreat.combatDamages
open Go.ChangeShapes Go.WideShapes Go.ChangeAt Go.RowKit
open Go.SX
open Go.SX.E (fn pr cmp var)
set_option linter.unusedVariables false
set_option linter.unusedSimpArgs false
set_option maxRecDepth 100000
noncomputable section
abbrev aW:E:=var 68
abbrev nP:E:=var 29
abbrev Wr:E:=cmp .lss aW nP
abbrev Wv:E:=var 40
abbrev Jq:E:=cmp .eql Wv nP
abbrev Wz:E:=cmp .lss aW Wv
abbrev lz:E:=var 32
abbrev WE:E:=cmp .lss aW lz
abbrev WI:E:=var 41
abbrev Js:E:=cmp .eql WI lz
abbrev VH:E:=cmp .lss aW WI
abbrev rg:E:=var 2
abbrev ax2:E:=cmp .lss rg (.int 0)
abbrev ax9:E:=.not ax2
abbrev lw:E:=var 48
abbrev VY:E:=cmp .lss lw rg
abbrev ayo:E:=cmp .lss (.int 40) rg
abbrev ayu:E:=.not ayo
abbrev ayA:E:=cmp .lss lw (.int 0)
abbrev ayH:E:=.not ayA
abbrev Ws:=[ayH]
abbrev ayL:=ayu::Ws
abbrev ayM:=VY::ayL
abbrev Wt:=ax9::ayM
abbrev rj:E:=var 5
abbrev ayN:E:=cmp .lss rj (.int 0)
abbrev ayO:E:=.not ayN
abbrev bk:E:=var 80
abbrev Wu:E:=cmp .lss bk rj
abbrev ayP:E:=cmp .lss (.int 40) rj
abbrev ayQ:E:=.not ayP
abbrev io:List E:=[(.not (cmp .lss bk (.int 0)))]
abbrev ayR:=ayQ::io
abbrev ayS:=Wu::ayR
abbrev Ww:=ayO::ayS
abbrev pk:E:=.not (cmp .lss (.ar .add .i64 bk (.int 1)) (.int 0))
abbrev gd:E:=var 64
abbrev ayT:E:=cmp .lss gd (.int 4)
abbrev ayU:E:=cmp .lss gd (.int 0)
abbrev ayV:E:=.not ayU
abbrev Jr:=[ayV]
abbrev B2:=ayT::Jr
abbrev ayW:E:=cmp .lss (.ar .add .i64 gd (.int 1)) (.int 0)
abbrev Wx:E:=.not ayW
abbrev rk:E:=var 8
abbrev ayX:E:=cmp .lss rk (.int 0)
abbrev ayY:E:=.not ayX
abbrev Wy:E:=cmp .lss bk rk
abbrev ayZ:E:=cmp .lss (.int 40) rk
abbrev ay0:E:=.not ayZ
abbrev ay1:=ay0::io
abbrev ay2:=Wy::ay1
abbrev WA:=ayY::ay2
abbrev rl:E:=var 11
abbrev ay3:E:=cmp .lss rl (.int 0)
abbrev ay4:E:=.not ay3
abbrev WB:E:=cmp .lss bk rl
abbrev ay5:E:=cmp .lss (.int 40) rl
abbrev ay6:E:=.not ay5
abbrev ay7:=ay6::io
abbrev ay8:=WB::ay7
abbrev WC:=ay4::ay8
abbrev rm:E:=var 14
abbrev ay9:E:=cmp .lss rm (.int 0)
abbrev aza:E:=.not ay9
abbrev WD:E:=cmp .lss bk rm
abbrev azb:E:=cmp .lss (.int 40) rm
abbrev azc:E:=.not azb
abbrev azd:=azc::io
abbrev aze:=WD::azd
abbrev WF:=aza::aze
abbrev rn:E:=var 17
abbrev azf:E:=cmp .lss rn (.int 0)
abbrev azg:E:=.not azf
abbrev WG:E:=cmp .lss bk rn
abbrev azh:E:=cmp .lss (.int 40) rn
abbrev azi:E:=.not azh
abbrev azj:=azi::io
abbrev azk:=WG::azj
abbrev WH:=azg::azk
abbrev ro:E:=var 20
abbrev azl:E:=cmp .lss ro (.int 0)
abbrev azm:E:=.not azl
abbrev WJ:E:=cmp .lss bk ro
abbrev azn:E:=cmp .lss (.int 40) ro
abbrev azo:E:=.not azn
abbrev azp:=azo::io
abbrev azq:=WJ::azp
abbrev WK:=azm::azq
abbrev rp:E:=var 23
abbrev azr:E:=cmp .lss rp (.int 0)
abbrev azs:E:=.not azr
abbrev WL:E:=cmp .lss bk rp
abbrev azt:E:=cmp .lss (.int 40) rp
abbrev azu:E:=.not azt
abbrev azv:=azu::io
abbrev azw:=WL::azv
abbrev WM:=azs::azw
abbrev rq:E:=var 26
abbrev azx:E:=cmp .lss rq (.int 0)
abbrev axP:E:=.not azx
abbrev VI:E:=cmp .lss bk rq
abbrev axQ:E:=cmp .lss (.int 40) rq
abbrev axR:E:=.not axQ
abbrev axS:=axR::io
abbrev axT:=VI::axS
abbrev VJ:=axP::axT
abbrev lr:E:=var 50
abbrev axU:E:=cmp .lss lr (.int 2)
abbrev axV:E:=cmp .lss lr (.int 0)
abbrev axW:E:=.not axV
abbrev axX:=[axW]
abbrev B0:=axU::axX
abbrev nQ:E:=.not (cmp .lss aW (.int 0))
abbrev lu:E:=var 60
abbrev axY:E:=cmp .lss lu (.int 0)
abbrev axZ:E:=.not axY
abbrev ax0:E:=cmp .lss lu (.int 2)
abbrev ax1:=[ax0]
abbrev B1:=axZ::ax1
abbrev rh:E:=var 35
abbrev ax3:E:=cmp .lss rh (.int 0)
abbrev ax4:E:=.not ax3
abbrev VL:E:=cmp .lss gd rh
abbrev ax5:E:=cmp .lss (.int 40) rh
abbrev ax6:E:=.not ax5
abbrev ax7:=ax6::Jr
abbrev ax8:=VL::ax7
abbrev VM:=ax4::ax8
abbrev ri:E:=var 38
abbrev aya:E:=cmp .lss ri (.int 0)
abbrev ayb:E:=.not aya
abbrev lv:E:=var 72
abbrev VN:E:=cmp .lss lv ri
abbrev ayc:E:=cmp .lss (.int 40) ri
abbrev ayd:E:=.not ayc
abbrev aye:E:=cmp .lss lv (.int 0)
abbrev ayf:E:=.not aye
abbrev VO:=[ayf]
abbrev ayg:=ayd::VO
abbrev ayh:=VN::ayg
abbrev VP:=ayb::ayh
abbrev VQ:=VY::Ws
abbrev VR:=Wu::io
abbrev VS:=Wy::io
abbrev VT:=WB::io
abbrev VU:=WD::io
abbrev VV:=WG::io
abbrev VW:=WJ::io
abbrev VX:=WL::io
abbrev VZ:=VI::io
abbrev eR:E:=var 77
abbrev ayi:E:=pr eR nP
abbrev Wa:E:=fn 158 ayi
abbrev cp:E:=var 76
abbrev ayj:E:=cmp .lss nP (.int 0)
abbrev ayk:E:=.not ayj
abbrev ayl:E:=cmp .lss (.int 40) nP
abbrev aym:E:=.not ayl
abbrev ayn:=[Wz]
abbrev Wb:=nQ::ayn
abbrev ayp:=aym::Wb
abbrev ayq:=ayk::ayp
abbrev Jn:=Jq::ayq
abbrev ayr:E:=cmp .lss (.ar .add .i64 aW (.int 1)) (.int 0)
abbrev Wc:E:=.not ayr
abbrev eS:E:=var 78
abbrev ays:E:=pr eS lz
abbrev Wd:E:=fn 158 ays
abbrev ayt:E:=cmp .lss lz (.int 0)
abbrev ayv:E:=.not ayt
abbrev ayw:E:=cmp .lss (.int 40) lz
abbrev ayx:E:=.not ayw
abbrev We:=[VH,nQ]
abbrev ayy:=ayx::We
abbrev ayz:=ayv::ayy
abbrev Jo:=Js::ayz
abbrev Wf:=VL::Jr
abbrev Wg:=VN::VO
abbrev Wh:E:=cmp .lss cp (fn 9 (pr (fn 1 (pr eR (fn 6 (pr (fn 8 (pr aW (.int 5))) (.int 4))))) (.int 2)))
abbrev ayB:E:=cmp .lss cp (.int 0)
abbrev Jp:E:=.not ayB
abbrev ayC:=[nQ,Wr]
abbrev ayD:=Jp::ayC
abbrev ayE:=Wh::ayD
abbrev Wi:=Wa::ayE
abbrev ayF:E:=cmp .lss (.ar .add .i64 cp (.int 1)) (.int 0)
abbrev Wj:E:=.not ayF
abbrev Wk:E:=cmp .lss cp (fn 9 (pr (fn 1 (pr eS (fn 6 (pr (fn 8 (pr aW (.int 5))) (.int 4))))) (.int 2)))
abbrev ayG:=[WE,nQ]
abbrev ayI:=Jp::ayG
abbrev ayJ:=Wk::ayI
abbrev Wl:=Wd::ayJ
abbrev Wm:=[Jp,nQ]
abbrev Wn:=Wh::Wm
abbrev Wo:E:=cmp .lss (fn 7 (pr (.int 40) (.ar .add .i64 aW (.int 1)))) (fn 7 (pr (.int 40) aW))
abbrev Wp:=Wk::Wm
abbrev ayK:E:=cmp .lss (fn 7 (pr (.int 40) (.ar .add .i64 aW (.int 1)))) (.int 0)
abbrev Wq:E:=.not ayK
def p59:List Fa:=[ey,Hm,Hn,Ho,Hp,Hq,Hr,Hs,Ht,Hu,ny,wH,AK,tB,wI,AL,Hv,Hw,PQ]
theorem aHM:aV Tryz.prog (bz (aeT)):=sc p59 ([]) EJ (sL) (by kernel_rfl) (by kernel_rfl)
def acT:Nl:=nc aHM aEV
def ase:=fb [Wr,Jq] Wz<|au fun ρ p0 p1=>by
 simp only[aa]at *;omega
def asf:=fb [WE,Js] VH<|au fun ρ p0 p1=>by
 simp only[aa]at *;omega
def asg:=fb Wt (.not (cmp .lss (.ar .add .i64 lw (.int 1)) (.int 0)))<|aF fun ρ p0 p1 p2 p3=>by
 simp only[aa,ae]at *
 obtain⟨a,b,c⟩:=ab (E.I ρ lw+1)
 omega
def ash:=fb Ww pk<|aF fun ρ p0 p1 p2 p3=>by
 simp only[aa,ae]at *
 obtain⟨a,b,c⟩:=ab (E.I ρ bk+1)
 omega
def asi:=fb B2 Wx<|au fun ρ p0 p1=>by
 simp only[aa,ae]at *
 obtain⟨a,b,c⟩:=ab (E.I ρ gd+1)
 omega
def asj:=fb WA pk<|aF fun ρ p0 p1 p2 p3=>by
 simp only[aa,ae]at *
 obtain⟨a,b,c⟩:=ab (E.I ρ bk+1)
 omega
def asl:=fb WC pk<|aF fun ρ p0 p1 p2 p3=>by
 simp only[aa,ae]at *
 obtain⟨a,b,c⟩:=ab (E.I ρ bk+1)
 omega
def asm:=fb WF pk<|aF fun ρ p0 p1 p2 p3=>by
 simp only[aa,ae]at *
 obtain⟨a,b,c⟩:=ab (E.I ρ bk+1)
 omega
def asn:=fb WH pk<|aF fun ρ p0 p1 p2 p3=>by
 simp only[aa,ae]at *
 obtain⟨a,b,c⟩:=ab (E.I ρ bk+1)
 omega
def aso:=fb WK pk<|aF fun ρ p0 p1 p2 p3=>by
 simp only[aa,ae]at *
 obtain⟨a,b,c⟩:=ab (E.I ρ bk+1)
 omega
def asp:=fb WM pk<|aF fun ρ p0 p1 p2 p3=>by
 simp only[aa,ae]at *
 obtain⟨a,b,c⟩:=ab (E.I ρ bk+1)
 omega
def asq:=fb VJ pk<|aF fun ρ p0 p1 p2 p3=>by
 simp only[aa,ae]at *
 obtain⟨a,b,c⟩:=ab (E.I ρ bk+1)
 omega
def asr:=fb B0 (.not (cmp .lss (.ar .add .i64 lr (.int 1)) (.int 0)))<|au fun ρ p0 p1=>by
 simp only[aa,ae]at *
 obtain⟨a,b,c⟩:=ab (E.I ρ lr+1)
 omega
def ass:=fb [nQ,(fn 158 (pr (var 69) nP))] (fn 158 (pr (fn 2 (pr (var 69) (pr (fn 6 (pr (fn 8 (pr aW (.int 5))) (.int 2))) (.ar .add .i64 (fn 1 (pr (var 69) (fn 6 (pr (fn 8 (pr aW (.int 5))) (.int 2))))) (.int 1))))) nP))<|au fun ρ p0 p1=>by
 have h0:0<=E.I ρ aW:=by simp only[aa]at *;omega
 exact aab h0 p1
def ast:=fb B1 (.not (cmp .lss (.ar .add .i64 lu (.int 1)) (.int 0)))<|au fun ρ p0 p1=>by
 simp only[aa,ae]at *
 obtain⟨a,b,c⟩:=ab (E.I ρ lu+1)
 omega
def asu:=fb [nQ,(fn 158 (pr (var 70) lz))] (fn 158 (pr (fn 2 (pr (var 70) (pr (fn 6 (pr (fn 8 (pr aW (.int 5))) (.int 2))) (.ar .add .i64 (fn 1 (pr (var 70) (fn 6 (pr (fn 8 (pr aW (.int 5))) (.int 2))))) (.int 1))))) lz))<|au fun ρ p0 p1=>by
 have h0:0<=E.I ρ aW:=by simp only[aa]at *;omega
 exact aab h0 p1
def asv:=fb VM Wx<|aF fun ρ p0 p1 p2 p3=>by
 simp only[aa,ae]at *
 obtain⟨a,b,c⟩:=ab (E.I ρ gd+1)
 omega
def asw:=fb VP (.not (cmp .lss (.ar .add .i64 lv (.int 1)) (.int 0)))<|aF fun ρ p0 p1 p2 p3=>by
 simp only[aa,ae]at *
 obtain⟨a,b,c⟩:=ab (E.I ρ lv+1)
 omega
def asx:=fb VQ (.not (cmp .lss rg (.ar .add .i64 lw (.int 1))))<|au fun ρ p0 p1=>by
 simp only[aa,ae]at *
 obtain⟨a,b,c⟩:=ab (E.I ρ lw+1)
 omega
def asy:=fb VR (.not (cmp .lss rj (.ar .add .i64 bk (.int 1))))<|au fun ρ p0 p1=>by
 simp only[aa,ae]at *
 obtain⟨a,b,c⟩:=ab (E.I ρ bk+1)
 omega
def asz:=fb B2 (.not (cmp .lss (.int 4) (.ar .add .i64 gd (.int 1))))<|au fun ρ p0 p1=>by
 simp only[aa,ae]at *
 obtain⟨a,b,c⟩:=ab (E.I ρ gd+1)
 omega
def asA:=fb VS (.not (cmp .lss rk (.ar .add .i64 bk (.int 1))))<|au fun ρ p0 p1=>by
 simp only[aa,ae]at *
 obtain⟨a,b,c⟩:=ab (E.I ρ bk+1)
 omega
def asB:=fb VT (.not (cmp .lss rl (.ar .add .i64 bk (.int 1))))<|au fun ρ p0 p1=>by
 simp only[aa,ae]at *
 obtain⟨a,b,c⟩:=ab (E.I ρ bk+1)
 omega
def asC:=fb VU (.not (cmp .lss rm (.ar .add .i64 bk (.int 1))))<|au fun ρ p0 p1=>by
 simp only[aa,ae]at *
 obtain⟨a,b,c⟩:=ab (E.I ρ bk+1)
 omega
def asD:=fb VV (.not (cmp .lss rn (.ar .add .i64 bk (.int 1))))<|au fun ρ p0 p1=>by
 simp only[aa,ae]at *
 obtain⟨a,b,c⟩:=ab (E.I ρ bk+1)
 omega
def asE:=fb VW (.not (cmp .lss ro (.ar .add .i64 bk (.int 1))))<|au fun ρ p0 p1=>by
 simp only[aa,ae]at *
 obtain⟨a,b,c⟩:=ab (E.I ρ bk+1)
 omega
def asF:=fb VX (.not (cmp .lss rp (.ar .add .i64 bk (.int 1))))<|au fun ρ p0 p1=>by
 simp only[aa,ae]at *
 obtain⟨a,b,c⟩:=ab (E.I ρ bk+1)
 omega
def asG:=fb VZ (.not (cmp .lss rq (.ar .add .i64 bk (.int 1))))<|au fun ρ p0 p1=>by
 simp only[aa,ae]at *
 obtain⟨a,b,c⟩:=ab (E.I ρ bk+1)
 omega
def asH:=fb B0 (.not (cmp .lss (.int 2) (.ar .add .i64 lr (.int 1))))<|au fun ρ p0 p1=>by
 simp only[aa,ae]at *
 obtain⟨a,b,c⟩:=ab (E.I ρ lr+1)
 omega
def asI:=fb [nQ,Wa] (fn 158 (pr (fn 2 (pr eR (pr (fn 6 (pr (fn 8 (pr aW (.int 5))) (.int 4))) (fn 21 (pr (fn 1 (pr eR (fn 6 (pr (fn 8 (pr aW (.int 5))) (.int 4))))) (fn 2 (pr (fn 1 (pr eR (fn 6 (pr (fn 8 (pr aW (.int 5))) (.int 4))))) (pr (fn 6 (pr (fn 8 (pr cp (.int 2))) (.int 0))) (.ar .add .i64 (fn 1 (pr (fn 1 (pr eR (fn 6 (pr (fn 8 (pr aW (.int 5))) (.int 4))))) (fn 6 (pr (fn 8 (pr cp (.int 2))) (.int 0))))) (.int 1)))))))))) nP))<|au fun ρ p0 p1=>by
 have h0:0<=E.I ρ aW:=by simp only[aa]at *;omega
 exact aac h0 p1
def asJ:=fb Jn Wc<|bl fun ρ p0 p1 p2 p3 p4=>by
 simp only[aa,ae]at *
 obtain⟨a,b,c⟩:=ab (E.I ρ aW+1)
 omega
def asK:=fb [nQ,Wd] (fn 158 (pr (fn 2 (pr eS (pr (fn 6 (pr (fn 8 (pr aW (.int 5))) (.int 4))) (fn 21 (pr (fn 1 (pr eS (fn 6 (pr (fn 8 (pr aW (.int 5))) (.int 4))))) (fn 2 (pr (fn 1 (pr eS (fn 6 (pr (fn 8 (pr aW (.int 5))) (.int 4))))) (pr (fn 6 (pr (fn 8 (pr cp (.int 2))) (.int 0))) (.ar .add .i64 (fn 1 (pr (fn 1 (pr eS (fn 6 (pr (fn 8 (pr aW (.int 5))) (.int 4))))) (fn 6 (pr (fn 8 (pr cp (.int 2))) (.int 0))))) (.int 1)))))))))) lz))<|au fun ρ p0 p1=>by
 have h0:0<=E.I ρ aW:=by simp only[aa]at *;omega
 exact aac h0 p1
def asL:=fb Jo Wc<|bl fun ρ p0 p1 p2 p3 p4=>by
 simp only[aa,ae]at *
 obtain⟨a,b,c⟩:=ab (E.I ρ aW+1)
 omega
def asM:=fb B1 (.not (cmp .lss (.int 2) (.ar .add .i64 lu (.int 1))))<|au fun ρ p0 p1=>by
 simp only[aa,ae]at *
 obtain⟨a,b,c⟩:=ab (E.I ρ lu+1)
 omega
def asN:=fb Wf (.not (cmp .lss rh (.ar .add .i64 gd (.int 1))))<|au fun ρ p0 p1=>by
 simp only[aa,ae]at *
 obtain⟨a,b,c⟩:=ab (E.I ρ gd+1)
 omega
def asO:=fb Wg (.not (cmp .lss ri (.ar .add .i64 lv (.int 1))))<|au fun ρ p0 p1=>by
 simp only[aa,ae]at *
 obtain⟨a,b,c⟩:=ab (E.I ρ lv+1)
 omega
def asP:=fb Wt (cmp .lss (fn 7 (pr rg (.ar .add .i64 lw (.int 1)))) (fn 7 (pr rg lw)))<|aF fun ρ p0 p1 p2 p3=>by
 simp only[aa,ae]at *
 obtain⟨a,b,c⟩:=ab (E.I ρ lw+1)
 omega
def asQ:=fb Ww (cmp .lss (fn 7 (pr rj (.ar .add .i64 bk (.int 1)))) (fn 7 (pr rj bk)))<|aF fun ρ p0 p1 p2 p3=>by
 simp only[aa,ae]at *
 obtain⟨a,b,c⟩:=ab (E.I ρ bk+1)
 omega
def asR:=fb B2 (cmp .lss (fn 7 (pr (.int 4) (.ar .add .i64 gd (.int 1)))) (fn 7 (pr (.int 4) gd)))<|au fun ρ p0 p1=>by
 simp only[aa,ae]at *
 obtain⟨a,b,c⟩:=ab (E.I ρ gd+1)
 omega
def asS:=fb WA (cmp .lss (fn 7 (pr rk (.ar .add .i64 bk (.int 1)))) (fn 7 (pr rk bk)))<|aF fun ρ p0 p1 p2 p3=>by
 simp only[aa,ae]at *
 obtain⟨a,b,c⟩:=ab (E.I ρ bk+1)
 omega
def asT:=fb WC (cmp .lss (fn 7 (pr rl (.ar .add .i64 bk (.int 1)))) (fn 7 (pr rl bk)))<|aF fun ρ p0 p1 p2 p3=>by
 simp only[aa,ae]at *
 obtain⟨a,b,c⟩:=ab (E.I ρ bk+1)
 omega
def asU:=fb WF (cmp .lss (fn 7 (pr rm (.ar .add .i64 bk (.int 1)))) (fn 7 (pr rm bk)))<|aF fun ρ p0 p1 p2 p3=>by
 simp only[aa,ae]at *
 obtain⟨a,b,c⟩:=ab (E.I ρ bk+1)
 omega
def asV:=fb WH (cmp .lss (fn 7 (pr rn (.ar .add .i64 bk (.int 1)))) (fn 7 (pr rn bk)))<|aF fun ρ p0 p1 p2 p3=>by
 simp only[aa,ae]at *
 obtain⟨a,b,c⟩:=ab (E.I ρ bk+1)
 omega
def asW:=fb WK (cmp .lss (fn 7 (pr ro (.ar .add .i64 bk (.int 1)))) (fn 7 (pr ro bk)))<|aF fun ρ p0 p1 p2 p3=>by
 simp only[aa,ae]at *
 obtain⟨a,b,c⟩:=ab (E.I ρ bk+1)
 omega
def asX:=fb WM (cmp .lss (fn 7 (pr rp (.ar .add .i64 bk (.int 1)))) (fn 7 (pr rp bk)))<|aF fun ρ p0 p1 p2 p3=>by
 simp only[aa,ae]at *
 obtain⟨a,b,c⟩:=ab (E.I ρ bk+1)
 omega
def asY:=fb VJ (cmp .lss (fn 7 (pr rq (.ar .add .i64 bk (.int 1)))) (fn 7 (pr rq bk)))<|aF fun ρ p0 p1 p2 p3=>by
 simp only[aa,ae]at *
 obtain⟨a,b,c⟩:=ab (E.I ρ bk+1)
 omega
def asZ:=fb B0 (cmp .lss (fn 7 (pr (.int 2) (.ar .add .i64 lr (.int 1)))) (fn 7 (pr (.int 2) lr)))<|au fun ρ p0 p1=>by
 simp only[aa,ae]at *
 obtain⟨a,b,c⟩:=ab (E.I ρ lr+1)
 omega
def as0:=fb Wi Wj<|bl fun ρ p0 p1 p2 p3 p4=>by
 have h0:0<=E.I ρ aW:=by simp only[aa]at *;omega
 have h9:=by simp only[aa]at *;omega
 have:=Do h0 h9 p0
 simp only[aa,ae]at *
 obtain⟨a,b,c⟩:=ab (E.I ρ cp+1)
 omega
def as1:=fb (Jq::Wb) (.not (cmp .lss nP (.ar .add .i64 aW (.int 1))))<|ay fun ρ p0 p1 p2=>by
 simp only[aa,ae]at *
 obtain⟨a,b,c⟩:=ab (E.I ρ aW+1)
 omega
def as2:=fb Wl Wj<|bl fun ρ p0 p1 p2 p3 p4=>by
 have h0:0<=E.I ρ aW:=by simp only[aa]at *;omega
 have h9:E.I ρ aW<E.I ρ lz:=by simp only[aa]at *;omega
 have:=Do h0 h9 p0
 simp only[aa,ae]at *
 obtain⟨a,b,c⟩:=ab (E.I ρ cp+1)
 omega
def as3:=fb (Js::We) (.not (cmp .lss lz (.ar .add .i64 aW (.int 1))))<|ay fun ρ p0 p1 p2=>by
 simp only[aa,ae]at *
 obtain⟨a,b,c⟩:=ab (E.I ρ aW+1)
 omega
def as4:=fb B1 (cmp .lss (fn 7 (pr (.int 2) (.ar .add .i64 lu (.int 1)))) (fn 7 (pr (.int 2) lu)))<|au fun ρ p0 p1=>by
 simp only[aa,ae]at *
 obtain⟨a,b,c⟩:=ab (E.I ρ lu+1)
 omega
def as5:=fb VM (cmp .lss (fn 7 (pr rh (.ar .add .i64 gd (.int 1)))) (fn 7 (pr rh gd)))<|aF fun ρ p0 p1 p2 p3=>by
 simp only[aa,ae]at *
 obtain⟨a,b,c⟩:=ab (E.I ρ gd+1)
 omega
def as6:=fb VP (cmp .lss (fn 7 (pr ri (.ar .add .i64 lv (.int 1)))) (fn 7 (pr ri lv)))<|aF fun ρ p0 p1 p2 p3=>by
 simp only[aa,ae]at *
 obtain⟨a,b,c⟩:=ab (E.I ρ lv+1)
 omega
def as7:=fb VQ (.not (cmp .lss (fn 7 (pr rg (.ar .add .i64 lw (.int 1)))) (.int 0)))<|au fun ρ p0 p1=>by
 simp only[aa,ae]at *
 obtain⟨a,b,c⟩:=ab (E.I ρ lw+1)
 omega
def as8:=fb VR (.not (cmp .lss (fn 7 (pr rj (.ar .add .i64 bk (.int 1)))) (.int 0)))<|au fun ρ p0 p1=>by
 simp only[aa,ae]at *
 obtain⟨a,b,c⟩:=ab (E.I ρ bk+1)
 omega
def as9:=fb B2 (.not (cmp .lss (fn 7 (pr (.int 4) (.ar .add .i64 gd (.int 1)))) (.int 0)))<|au fun ρ p0 p1=>by
 simp only[aa,ae]at *
 obtain⟨a,b,c⟩:=ab (E.I ρ gd+1)
 omega
def ata:=fb VS (.not (cmp .lss (fn 7 (pr rk (.ar .add .i64 bk (.int 1)))) (.int 0)))<|au fun ρ p0 p1=>by
 simp only[aa,ae]at *
 obtain⟨a,b,c⟩:=ab (E.I ρ bk+1)
 omega
def atb:=fb VT (.not (cmp .lss (fn 7 (pr rl (.ar .add .i64 bk (.int 1)))) (.int 0)))<|au fun ρ p0 p1=>by
 simp only[aa,ae]at *
 obtain⟨a,b,c⟩:=ab (E.I ρ bk+1)
 omega
def atc:=fb VU (.not (cmp .lss (fn 7 (pr rm (.ar .add .i64 bk (.int 1)))) (.int 0)))<|au fun ρ p0 p1=>by
 simp only[aa,ae]at *
 obtain⟨a,b,c⟩:=ab (E.I ρ bk+1)
 omega
def atd:=fb VV (.not (cmp .lss (fn 7 (pr rn (.ar .add .i64 bk (.int 1)))) (.int 0)))<|au fun ρ p0 p1=>by
 simp only[aa,ae]at *
 obtain⟨a,b,c⟩:=ab (E.I ρ bk+1)
 omega
def ate:=fb VW (.not (cmp .lss (fn 7 (pr ro (.ar .add .i64 bk (.int 1)))) (.int 0)))<|au fun ρ p0 p1=>by
 simp only[aa,ae]at *
 obtain⟨a,b,c⟩:=ab (E.I ρ bk+1)
 omega
def atf:=fb VX (.not (cmp .lss (fn 7 (pr rp (.ar .add .i64 bk (.int 1)))) (.int 0)))<|au fun ρ p0 p1=>by
 simp only[aa,ae]at *
 obtain⟨a,b,c⟩:=ab (E.I ρ bk+1)
 omega
def atg:=fb VZ (.not (cmp .lss (fn 7 (pr rq (.ar .add .i64 bk (.int 1)))) (.int 0)))<|au fun ρ p0 p1=>by
 simp only[aa,ae]at *
 obtain⟨a,b,c⟩:=ab (E.I ρ bk+1)
 omega
def ath:=fb B0 (.not (cmp .lss (fn 7 (pr (.int 2) (.ar .add .i64 lr (.int 1)))) (.int 0)))<|au fun ρ p0 p1=>by
 simp only[aa,ae]at *
 obtain⟨a,b,c⟩:=ab (E.I ρ lr+1)
 omega
def ati:=fb Wn (.not (cmp .lss (fn 9 (pr (fn 1 (pr (fn 2 (pr eR (pr (fn 6 (pr (fn 8 (pr aW (.int 5))) (.int 4))) (fn 21 (pr (fn 1 (pr eR (fn 6 (pr (fn 8 (pr aW (.int 5))) (.int 4))))) (fn 2 (pr (fn 1 (pr eR (fn 6 (pr (fn 8 (pr aW (.int 5))) (.int 4))))) (pr (fn 6 (pr (fn 8 (pr cp (.int 2))) (.int 0))) (.ar .add .i64 (fn 1 (pr (fn 1 (pr eR (fn 6 (pr (fn 8 (pr aW (.int 5))) (.int 4))))) (fn 6 (pr (fn 8 (pr cp (.int 2))) (.int 0))))) (.int 1)))))))))) (fn 6 (pr (fn 8 (pr aW (.int 5))) (.int 4))))) (.int 2))) (.ar .add .i64 cp (.int 1))))<|ay fun ρ p0 p1 p2=>by
 have h0:0<=E.I ρ aW:=by simp only[aa]at *;omega
 have hr:E.I ρ (fn 9 (pr (fn 1 (pr (fn 2 (pr _ (pr _ (fn 21 (pr _ (fn 2 (pr _ (pr (fn 6 (pr (fn 8 (pr cp (.int 2))) (.int 0))) (.ar .add .i64 (fn 1 (pr (fn 1 (pr eR (fn 6 (pr (fn 8 (pr aW (.int 5))) (.int 4))))) (fn 6 (pr (fn 8 (pr cp (.int 2))) (.int 0))))) (.int 1)))))))))) _)) _))=E.I ρ (fn 9 (pr (fn 1 (pr eR _)) _)):=uG h0;simp only[aa,ae]at *
 obtain⟨a,b,c⟩:=ab (E.I ρ cp+1)
 omega
def atj:=fb Jn Wo<|bl fun ρ p0 p1 p2 p3 p4=>by
 simp only[aa,ae]at *
 obtain⟨a,b,c⟩:=ab (E.I ρ aW+1)
 omega
def atl:=fb Wp (.not (cmp .lss (fn 9 (pr (fn 1 (pr (fn 2 (pr eS (pr (fn 6 (pr (fn 8 (pr aW (.int 5))) (.int 4))) (fn 21 (pr (fn 1 (pr eS (fn 6 (pr (fn 8 (pr aW (.int 5))) (.int 4))))) (fn 2 (pr (fn 1 (pr eS (fn 6 (pr (fn 8 (pr aW (.int 5))) (.int 4))))) (pr (fn 6 (pr (fn 8 (pr cp (.int 2))) (.int 0))) (.ar .add .i64 (fn 1 (pr (fn 1 (pr eS (fn 6 (pr (fn 8 (pr aW (.int 5))) (.int 4))))) (fn 6 (pr (fn 8 (pr cp (.int 2))) (.int 0))))) (.int 1)))))))))) (fn 6 (pr (fn 8 (pr aW (.int 5))) (.int 4))))) (.int 2))) (.ar .add .i64 cp (.int 1))))<|ay fun ρ p0 p1 p2=>by
 have h0:0<=E.I ρ aW:=by simp only[aa]at *;omega
 have hr:E.I ρ (fn 9 (pr (fn 1 (pr (fn 2 (pr _ (pr _ (fn 21 (pr _ (fn 2 (pr _ (pr (fn 6 (pr (fn 8 (pr cp (.int 2))) (.int 0))) (.ar .add .i64 (fn 1 (pr (fn 1 (pr eS (fn 6 (pr (fn 8 (pr aW (.int 5))) (.int 4))))) (fn 6 (pr (fn 8 (pr cp (.int 2))) (.int 0))))) (.int 1)))))))))) _)) _))=E.I ρ (fn 9 (pr (fn 1 (pr eS _)) _)):=uG h0;simp only[aa,ae]at *
 obtain⟨a,b,c⟩:=ab (E.I ρ cp+1)
 omega
def atm:=fb Jo Wo<|bl fun ρ p0 p1 p2 p3 p4=>by
 simp only[aa,ae]at *
 obtain⟨a,b,c⟩:=ab (E.I ρ aW+1)
 omega
def atn:=fb B1 (.not (cmp .lss (fn 7 (pr (.int 2) (.ar .add .i64 lu (.int 1)))) (.int 0)))<|au fun ρ p0 p1=>by
 simp only[aa,ae]at *
 obtain⟨a,b,c⟩:=ab (E.I ρ lu+1)
 omega
def ato:=fb Wf (.not (cmp .lss (fn 7 (pr rh (.ar .add .i64 gd (.int 1)))) (.int 0)))<|au fun ρ p0 p1=>by
 simp only[aa,ae]at *
 obtain⟨a,b,c⟩:=ab (E.I ρ gd+1)
 omega
def atp:=fb Wg (.not (cmp .lss (fn 7 (pr ri (.ar .add .i64 lv (.int 1)))) (.int 0)))<|au fun ρ p0 p1=>by
 simp only[aa,ae]at *
 obtain⟨a,b,c⟩:=ab (E.I ρ lv+1)
 omega
def atq:=fb Wi (cmp .lss (fn 7 (pr (fn 9 (pr (fn 1 (pr (fn 2 (pr eR (pr (fn 6 (pr (fn 8 (pr aW (.int 5))) (.int 4))) (fn 21 (pr (fn 1 (pr eR (fn 6 (pr (fn 8 (pr aW (.int 5))) (.int 4))))) (fn 2 (pr (fn 1 (pr eR (fn 6 (pr (fn 8 (pr aW (.int 5))) (.int 4))))) (pr (fn 6 (pr (fn 8 (pr cp (.int 2))) (.int 0))) (.ar .add .i64 (fn 1 (pr (fn 1 (pr eR (fn 6 (pr (fn 8 (pr aW (.int 5))) (.int 4))))) (fn 6 (pr (fn 8 (pr cp (.int 2))) (.int 0))))) (.int 1)))))))))) (fn 6 (pr (fn 8 (pr aW (.int 5))) (.int 4))))) (.int 2))) (.ar .add .i64 cp (.int 1)))) (fn 7 (pr (fn 9 (pr (fn 1 (pr eR (fn 6 (pr (fn 8 (pr aW (.int 5))) (.int 4))))) (.int 2))) cp)))<|bl fun ρ p0 p1 p2 p3 p4=>by
 have h0:0<=E.I ρ aW:=by simp only[aa]at *;omega
 have h9:=by simp only[aa]at *;omega
 have:=Do h0 h9 p0
 have hr:E.I ρ (fn 9 (pr (fn 1 (pr (fn 2 (pr _ (pr _ (fn 21 (pr _ (fn 2 (pr _ (pr (fn 6 (pr (fn 8 (pr cp (.int 2))) (.int 0))) (.ar .add .i64 (fn 1 (pr (fn 1 (pr eR (fn 6 (pr (fn 8 (pr aW (.int 5))) (.int 4))))) (fn 6 (pr (fn 8 (pr cp (.int 2))) (.int 0))))) (.int 1)))))))))) _)) _))=E.I ρ (fn 9 (pr (fn 1 (pr eR _)) _)):=uG h0;simp only[aa,ae]at *
 obtain⟨a,b,c⟩:=ab (E.I ρ cp+1)
 omega
def atr:=fb Jn Wq<|bl fun ρ p0 p1 p2 p3 p4=>by
 simp only[aa,ae]at *
 obtain⟨a,b,c⟩:=ab (E.I ρ aW+1)
 omega
def ats:=fb Wl (cmp .lss (fn 7 (pr (fn 9 (pr (fn 1 (pr (fn 2 (pr eS (pr (fn 6 (pr (fn 8 (pr aW (.int 5))) (.int 4))) (fn 21 (pr (fn 1 (pr eS (fn 6 (pr (fn 8 (pr aW (.int 5))) (.int 4))))) (fn 2 (pr (fn 1 (pr eS (fn 6 (pr (fn 8 (pr aW (.int 5))) (.int 4))))) (pr (fn 6 (pr (fn 8 (pr cp (.int 2))) (.int 0))) (.ar .add .i64 (fn 1 (pr (fn 1 (pr eS (fn 6 (pr (fn 8 (pr aW (.int 5))) (.int 4))))) (fn 6 (pr (fn 8 (pr cp (.int 2))) (.int 0))))) (.int 1)))))))))) (fn 6 (pr (fn 8 (pr aW (.int 5))) (.int 4))))) (.int 2))) (.ar .add .i64 cp (.int 1)))) (fn 7 (pr (fn 9 (pr (fn 1 (pr eS (fn 6 (pr (fn 8 (pr aW (.int 5))) (.int 4))))) (.int 2))) cp)))<|bl fun ρ p0 p1 p2 p3 p4=>by
 have h0:0<=E.I ρ aW:=by simp only[aa]at *;omega
 have h9:E.I ρ aW<E.I ρ lz:=by simp only[aa]at *;omega
 have:=Do h0 h9 p0
 have hr:E.I ρ (fn 9 (pr (fn 1 (pr (fn 2 (pr _ (pr _ (fn 21 (pr _ (fn 2 (pr _ (pr (fn 6 (pr (fn 8 (pr cp (.int 2))) (.int 0))) (.ar .add .i64 (fn 1 (pr (fn 1 (pr eS (fn 6 (pr (fn 8 (pr aW (.int 5))) (.int 4))))) (fn 6 (pr (fn 8 (pr cp (.int 2))) (.int 0))))) (.int 1)))))))))) _)) _))=E.I ρ (fn 9 (pr (fn 1 (pr eS _)) _)):=uG h0;simp only[aa,ae]at *
 obtain⟨a,b,c⟩:=ab (E.I ρ cp+1)
 omega
def att:=fb Jo Wq<|bl fun ρ p0 p1 p2 p3 p4=>by
 simp only[aa,ae]at *
 obtain⟨a,b,c⟩:=ab (E.I ρ aW+1)
 omega
def atu:=fb Wn (.not (cmp .lss (fn 7 (pr (fn 9 (pr (fn 1 (pr (fn 2 (pr eR (pr (fn 6 (pr (fn 8 (pr aW (.int 5))) (.int 4))) (fn 21 (pr (fn 1 (pr eR (fn 6 (pr (fn 8 (pr aW (.int 5))) (.int 4))))) (fn 2 (pr (fn 1 (pr eR (fn 6 (pr (fn 8 (pr aW (.int 5))) (.int 4))))) (pr (fn 6 (pr (fn 8 (pr cp (.int 2))) (.int 0))) (.ar .add .i64 (fn 1 (pr (fn 1 (pr eR (fn 6 (pr (fn 8 (pr aW (.int 5))) (.int 4))))) (fn 6 (pr (fn 8 (pr cp (.int 2))) (.int 0))))) (.int 1)))))))))) (fn 6 (pr (fn 8 (pr aW (.int 5))) (.int 4))))) (.int 2))) (.ar .add .i64 cp (.int 1)))) (.int 0)))<|ay fun ρ p0 p1 p2=>by
 have h0:0<=E.I ρ aW:=by simp only[aa]at *;omega
 have hr:E.I ρ (fn 9 (pr (fn 1 (pr (fn 2 (pr _ (pr _ (fn 21 (pr _ (fn 2 (pr _ (pr (fn 6 (pr (fn 8 (pr cp (.int 2))) (.int 0))) (.ar .add .i64 (fn 1 (pr (fn 1 (pr eR (fn 6 (pr (fn 8 (pr aW (.int 5))) (.int 4))))) (fn 6 (pr (fn 8 (pr cp (.int 2))) (.int 0))))) (.int 1)))))))))) _)) _))=E.I ρ (fn 9 (pr (fn 1 (pr eR _)) _)):=uG h0;simp only[aa,ae]at *
 obtain⟨a,b,c⟩:=ab (E.I ρ cp+1)
 omega
def atv:=fb Wp (.not (cmp .lss (fn 7 (pr (fn 9 (pr (fn 1 (pr (fn 2 (pr eS (pr (fn 6 (pr (fn 8 (pr aW (.int 5))) (.int 4))) (fn 21 (pr (fn 1 (pr eS (fn 6 (pr (fn 8 (pr aW (.int 5))) (.int 4))))) (fn 2 (pr (fn 1 (pr eS (fn 6 (pr (fn 8 (pr aW (.int 5))) (.int 4))))) (pr (fn 6 (pr (fn 8 (pr cp (.int 2))) (.int 0))) (.ar .add .i64 (fn 1 (pr (fn 1 (pr eS (fn 6 (pr (fn 8 (pr aW (.int 5))) (.int 4))))) (fn 6 (pr (fn 8 (pr cp (.int 2))) (.int 0))))) (.int 1)))))))))) (fn 6 (pr (fn 8 (pr aW (.int 5))) (.int 4))))) (.int 2))) (.ar .add .i64 cp (.int 1)))) (.int 0)))<|ay fun ρ p0 p1 p2=>by
 have h0:0<=E.I ρ aW:=by simp only[aa]at *;omega
 have hr:E.I ρ (fn 9 (pr (fn 1 (pr (fn 2 (pr _ (pr _ (fn 21 (pr _ (fn 2 (pr _ (pr (fn 6 (pr (fn 8 (pr cp (.int 2))) (.int 0))) (.ar .add .i64 (fn 1 (pr (fn 1 (pr eS (fn 6 (pr (fn 8 (pr aW (.int 5))) (.int 4))))) (fn 6 (pr (fn 8 (pr cp (.int 2))) (.int 0))))) (.int 1)))))))))) _)) _))=E.I ρ (fn 9 (pr (fn 1 (pr eS _)) _)):=uG h0;simp only[aa,ae]at *
 obtain⟨a,b,c⟩:=ab (E.I ρ cp+1)
 omega
def p60:List Fa:=[ey,ase,asf,asg,ash,asi,asj,asl,asm,asn,aso,asp,asq,asr,ass,ast,asu,asv,asw,asx,asy,asz,asA,asB,asC,asD,asE,asF,asG,asH,asI,asJ,asK,asL,asM,asN,asO,asP,asQ,asR,asS,asT,asU,asV,asW,asX,asY,asZ,as0,as1,as2,as3,as4,as5,as6,as7,as8,as9,ata,atb,atc,atd,ate,atf,atg,ath,ati,atj,atl,atm,atn,ato,atp,atq,atr,ats,att,atu,atv]
theorem aHO:aV Tryz.prog (bz (aGO)):=sc p60 (aBq) acT ([]) (by kernel_rfl) (by kernel_rfl)
def Ml:Nl:=nc aHO acT
end
end Go.Proofs.YtnggbcblogpnfaaGreat.combatDamages
