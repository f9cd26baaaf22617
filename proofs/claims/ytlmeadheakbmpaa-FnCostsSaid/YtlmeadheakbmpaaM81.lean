/- Contracts of functions of the seat, proved over the engine. No condition. -/
import Derived.Lib.Walk
import Derived.Below
import Derived.Test.YtlmeadheakbmpaaXxH
import Derived.Test.YtlmeadheakbmpaaXxE
import Derived.Test.YtlmeadheakbmpaaXxD
import Derived.Test.YtlmeadheakbmpaaXxG
import Derived.Test.YtlmeadheakbmpaaChecked
set_option linter.all false
namespace Go.Ax
open Go.Proofs
def gC:Try.prog.follows .mixedOrders=true:=by kernel_rfl
def af4:Od Try.prog 4:=YW gC (by kernel_rfl)
def Zd:qf Try.prog 21:=Qq gC (by kernel_rfl)
def ajy:Ab Try.prog 76:=PF gC (by kernel_rfl)
def MH:lL Try.prog 42:=RQ gC (by kernel_rfl) ajy
def akl:tt Try.prog 20:=He gC (by kernel_rfl) MH
def af5:OF Try.prog 5:=aaQ gC (by kernel_rfl) Zd akl
def ae7:sa Try.prog 78:=SM gC (by kernel_rfl) MH
def agO:vw Try.prog 32:=Pn gC (by kernel_rfl)
def ajS:Ap Try.prog 45:=Q7 gC (by kernel_rfl) MH ae7 agO
def abe:nD Try.prog 46:=Je gC (by kernel_rfl)
def akf:qu Try.prog 22:=Cu gC (by kernel_rfl) ajS abe MH
def af6:E3 Try.prog 6:=PM gC (by kernel_rfl) Zd akf
def akV:zB Try.prog 79:=PB gC (by kernel_rfl) ae7 MH
end Go.Ax
namespace Go.Proofs
open Go.RowKit Go.Lib
set_option maxHeartbeats 2000000
set_option maxRecDepth 100000
def abo{α:Type}(h:Array α)(a b c d:α):((((h.push a).push b).push c).push d)[h.size+1+1+1]?=some d:=by
 have e:(((h.push a).push b).push c).size=h.size+1+1+1:=by simp only[Array.size_push]
 rw[←e];exact Array.getElem?_push_size
def Zb{α:Type}(h:Array α)(a b c d:α):((((h.push a).push b).push c).push d)[h.size+1+1]?=some c:=by
 have e:((h.push a).push b).size=h.size+1+1:=by simp only[Array.size_push]
 rw[Array.getElem?_push,if_neg (by simp only[Array.size_push];omega),←e];exact Array.getElem?_push_size
def Dz(w:World)(o:Obj):(w.alloc o).heap.size=w.heap.size+1:=by
 show(w.heap.push o).size=_
 simp only[Array.size_push]
def Tc(k:Int)(a1 a2 a3 b1 b2 b3:Value)(w:World):
  Calls Try.prog 44 #[.int .i64 k,.agg #[a1,a2,a3],.agg #[b1,b2,b3]] w fun e w'=>(∃b t,e=.returned (.agg #[.int .i64 k,.int .i64 0,.slice (some ⟨b,0,none⟩) 2 2])∧w.heap.size≤b∧w'.heap[b]?=some (.cells #[a1,a2,a3,b1,b2,b3] t (0,0)))∧Below w.heap.size w w':=by
 have gC:Try.prog.follows .mixedOrders=true:=by kernel_rfl
 go_enter Try.func44,Try.ntmps44
 go_wp2
 refine bodyPost_ret (results_cell_row rfl _ _ (w.heap.size+1+1) 34 #[.int .i64 k,.int .i64 0,.slice (some ⟨w.heap.size+1+1+1,0,none⟩) 2 2] (0,0) _ rfl ?_ Try.underlying34 rfl (by kernel_rfl)) rfl ?_;exact Zb w.heap _ _ _ _;refine⟨⟨w.heap.size+1+1+1,34,rfl,by omega,?_⟩,?_⟩;exact abo w.heap _ _ _ _;exact((((Below.refl _ w).alloc (Nat.le_refl _) _).alloc (by simp only[Dz];omega) _).alloc (by simp only[Dz];omega) _).alloc (by simp only[Dz];omega) _
end Go.Proofs
namespace Go.Ax
open Go.Proofs
def ag2(a:Array Value)(h:a.size=3):∃x y z,a= #[x,y,z]:=by
 obtain⟨l⟩:=a
 match l,h with
 | [x,y,z],_=>exact⟨x,y,z,rfl⟩
def QK:nj Try.prog 44:=by
 refine⟨⟨Try.f44,Try.func44,by kernel_rfl,by kernel_rfl⟩,fun k a b w ha hb=>?_⟩;obtain⟨a1,a2,a3,rfl⟩:=ag2 a ha;obtain⟨b1,b2,b3,rfl⟩:=ag2 b hb;exact Tc k a1 a2 a3 b1 b2 b3 w
def akg:zo Try.prog 47:=QA gC (by kernel_rfl) ae7 akV MH QK
def ajx:xm Try.prog 23:=MI gC (by kernel_rfl) akg
def af7:KG Try.prog 7:=VG gC (by kernel_rfl) Zd ajx
def VJ:qx Try.prog 37:=Uq gC (by kernel_rfl)
def agD:s0 Try.prog 69:=LD gC (by kernel_rfl) VJ
def agb:tq Try.prog 70:=LR gC (by kernel_rfl)
def akS:xg Try.prog 71:=Mn gC (by kernel_rfl)
def aj2:wV Try.prog 36:=Nf gC (by kernel_rfl) agD VJ agb akS
def aeK:od Try.prog 15:=DF gC (by kernel_rfl) aj2 VJ
def akL:D0 Try.prog 80:=U6 gC (by kernel_rfl)
def ak4:rG Try.prog 81:=EE gC (by kernel_rfl)
def akz:CD Try.prog 48:=SZ gC (by kernel_rfl) akL VJ ak4
def agZ:yq Try.prog 24:=Wp gC (by kernel_rfl) akz
def agh:xX Try.prog 49:=WP gC (by kernel_rfl)
def akh:wW Try.prog 83:=Mz gC (by kernel_rfl)
def agC:vE Try.prog 54:=RK gC (by kernel_rfl)
def ajo:xt Try.prog 82:=MU gC (by kernel_rfl) akh agC
def akQ:vF Try.prog 51:=RI gC (by kernel_rfl) agh ajo
def aj8:Ch Try.prog 50:=TG gC (by kernel_rfl)
def akT:DN Try.prog 52:=UO gC (by kernel_rfl)
def ak6:DH Try.prog 53:=Ub gC (by kernel_rfl) agC
def akq:HE Try.prog 25:=aar gC (by kernel_rfl) agh akQ aj8 akT ak6
def af8:AP Try.prog 8:=Jk gC (by kernel_rfl) aeK agZ akq
def Qi:rg Try.prog 38:=abK gC (by kernel_rfl)
def agY:xW Try.prog 56:=WL gC (by kernel_rfl) Qi
def ajv:xj Try.prog 55:=LB gC (by kernel_rfl) agY Qi
def agf:qb Try.prog 26:=Hf gC (by kernel_rfl) ajv Qi
def alc:zJ Try.prog 57:=Rp gC (by kernel_rfl)
def aj4:Ci Try.prog 84:=VK gC (by kernel_rfl)
def ak7:w5 Try.prog 58:=Mf gC (by kernel_rfl) aj4
def ald:Aa Try.prog 85:=Rc gC (by kernel_rfl)
def ahB:oo Try.prog 86:=Cs gC (by kernel_rfl) Qi
def akv:Aq Try.prog 59:=QH gC (by kernel_rfl) ald Qi ahB
def ahq:BY Try.prog 27:=YD gC (by kernel_rfl) agY alc ak7 akv
def aeW:og Try.prog 60:=Hh gC (by kernel_rfl)
def agn:vH Try.prog 87:=Qs gC (by kernel_rfl)
def ajt:pY Try.prog 61:=HF gC (by kernel_rfl) abe agn aeW
def ak5:o9 Try.prog 62:=EQ gC (by kernel_rfl) abe agn aeW
def ake:zh Try.prog 28:=RR gC (by kernel_rfl) abe aeW ajt ak5
def af9:Bn Try.prog 9:=Ir gC (by kernel_rfl) agf ahq ake
def akc:Hr Try.prog 29:=YE gC (by kernel_rfl)
def ad7:u6 Try.prog 30:=U4 gC (by kernel_rfl)
def akM:xh Try.prog 31:=LY gC (by kernel_rfl)
def aki:wB Try.prog 10:=EO gC (by kernel_rfl) aeK akc ad7 akM
def aj0:wx Try.prog 11:=EN gC (by kernel_rfl) agf agO
def akt:xB Try.prog 63:=Lw gC (by kernel_rfl) agD VJ agb
def akR:tA Try.prog 33:=Hs gC (by kernel_rfl) akt
def akw:uY Try.prog 88:=KA gC (by kernel_rfl)
def akj:ti Try.prog 65:=LE gC (by kernel_rfl) ad7 akw
def akm:vj Try.prog 64:=I1 gC (by kernel_rfl)
def aju:uX Try.prog 66:=Kf gC (by kernel_rfl)
def akG:uQ Try.prog 67:=JO gC (by kernel_rfl)
def akd:wT Try.prog 34:=Nk gC (by kernel_rfl) ad7 akj akm aju akG
def aj7:um Try.prog 12:=Dr gC (by kernel_rfl) akR agZ akd
def agR:il Try.prog 68=some (26,aee,[.t 4]):=by kernel_rfl
def akA:rv Try.prog 35:=EG gC (by kernel_rfl) agR
def akx:wA Try.prog 13:=EH gC (by kernel_rfl) akA
def ak8:D8 Try.prog 14:=Nh gC (by kernel_rfl)
def akW:JW Try.prog 16:=Ug gC (by kernel_rfl)
def ahz:vV Try.prog 99:=Qm gC (by kernel_rfl)
def aev:mX Try.prog .sh 100=some (53,pj 100 99,[]):=by kernel_rfl
def agV:uw Try.prog 100:=IQ gC aev ahz
def ahb:ur Try.prog 103:=IS gC (by kernel_rfl)
def agy:zS Try.prog 102:=Qk gC (by kernel_rfl) ahb
def afb:mX Try.prog .sh 101=some (66,Ay 102,[.t 2]):=by kernel_rfl
def agH:zD Try.prog 101:=RG gC afb agy
def aeY:sj Try.prog 97:=Qn gC (by kernel_rfl)
def Zq:rY Try.prog 96:=Tl gC (by kernel_rfl)
def agw:mX Try.prog .sh 93=some (35,CK 100 101 97 96 44,[.c 4 3 true]):=by kernel_rfl
def akZ:CJ Try.prog 93:=VS gC agw agV agH aeY Zq QK
def ajJ:C9 Try.prog 94:=Ui gC (by kernel_rfl) aeY Zq QK
def adq:vh Try.prog 77:=T3 gC (by kernel_rfl)
def ajA:zT Try.prog 95:=Qy gC (by kernel_rfl) ahB adq Zq
def agz:vS Try.prog 89:=Qz gC (by kernel_rfl) akZ ajJ ajA Zq
def aeL:qA Try.prog 73:=M3 gC (by kernel_rfl)
def ajH:zU Try.prog 92:=Pp gC (by kernel_rfl)
def ag4:sV Try.prog 74:=Mr gC (by kernel_rfl) ajH
def akn:xo Try.prog 98:=L6 gC (by kernel_rfl)
def ajs:zn Try.prog 90:=Rg gC (by kernel_rfl) aeY adq QK ag4 akn agz
def ak2:zj Try.prog 91:=PX gC (by kernel_rfl) ahz
def ahd:mX Try.prog .sb 72=some (88,uV 89 73 90 91,[.t 4,.t 5,.t 6]):=by kernel_rfl
def akI:uP Try.prog 72:=Jx gC ahd agz aeL ajs ak2
def alR:Az Try.prog 39:=Q2 gC (by kernel_rfl) akI aeL ag4
def akP:uA Try.prog 40:=JX gC (by kernel_rfl)
def ajz:zH Try.prog 75:=Qt gC (by kernel_rfl)
def ahc:mX Try.prog .sb 41=some (117,th 41 73 75,[]):=by kernel_rfl
def aky:xf Try.prog 41:=MC gC ahc aeL ajz
def af3:mX Try.prog .sb 17=some (47,tn 27 38 39 40 41,[.t 6,.t 7]):=by kernel_rfl
def alb:yz Try.prog 17:=G0 gC af3 ahq Qi alR akP aky
def aks:Kk Try.prog 18:=TJ gC (by kernel_rfl) Zd MH
def akr:rm Try.prog 43:=ED gC (by kernel_rfl) adq QK
def alf:yH Try.prog 19:=HD gC (by kernel_rfl) akr QK
def rc3:RC:=(.seq (.jI false [⟨none,.mv 4 (.c (.sc (.bool false)))⟩]) ((.seq ((.seq (.jI false [⟨none,.mv 27 (.t 0)⟩,⟨none,.call (some 28) 4 [(.t 27)]⟩,⟨none,.mv 29 (.t 28)⟩,⟨some (29,false),.mv 30 (.t 1)⟩,⟨some (29,false),.call (some 31) 4 [(.t 30)]⟩,⟨none,.pick 32 (.t 29) (.c (.sc (.bool true))) (.t 31)⟩]) (.cond (.t 32) ((.seq (.jI false [⟨none,.mv 4 (.c (.sc (.bool true)))⟩]) (.ret))) (.skip)))) ((.seq (.jI false [⟨none,.mv 33 (.t 0)⟩,⟨none,.call (some 34) 5 [(.t 33)]⟩,⟨none,.zer 5 2 (.ag [(.sc (.int .i64 0)),(.sc (.int .i64 0))])⟩,⟨none,.st 2 (.t 5) (.t 34)⟩]) ((.seq (.jI false [⟨none,.mv 35 (.t 1)⟩,⟨none,.ld 36 true 2 (.t 5)⟩,⟨none,.call (some 37) 6 [(.t 35),(.t 36)]⟩,⟨none,.zer 6 5 (.ag [(.sc (.int .i64 0)),(.sc (.int .i64 0)),(.sc (.int .i64 0)),(.ls (some true) 1 []),(.ls (some true) 1 [])])⟩,⟨none,.st 5 (.t 6) (.t 37)⟩]) ((.seq (.jI false [⟨none,.mv 38 (.t 0)⟩,⟨none,.ld 39 true 2 (.t 5)⟩,⟨none,.call (some 40) 7 [(.t 38),(.t 39),(.c (.sc (.int .i64 6)))]⟩,⟨none,.zer 7 3 (.ag [(.sc (.int .i64 0)),(.sc (.int .i64 0)),(.ls (some true) 3 [])])⟩,⟨none,.st 3 (.t 7) (.t 40)⟩]) ((.seq (.jI false [⟨none,.ld 42 true 5 (.t 6)⟩,⟨none,.ld 43 true 3 (.t 7)⟩,⟨none,.call (some 44) 8 [(.t 42),(.t 43)]⟩,⟨none,.mv 41 (.t 44)⟩,⟨none,.ext 45 (.t 41) 0⟩,⟨none,.ext 46 (.t 41) 1⟩,⟨none,.mv 8 (.t 45)⟩,⟨none,.mv 9 (.t 46)⟩]) ((.seq (.jI false [⟨none,.ld 48 true 5 (.t 6)⟩,⟨none,.ld 49 true 3 (.t 7)⟩,⟨none,.call (some 50) 9 [(.t 48),(.t 49)]⟩,⟨none,.mv 47 (.t 50)⟩,⟨none,.ext 51 (.t 47) 0⟩,⟨none,.ext 52 (.t 47) 1⟩,⟨none,.mv 10 (.t 51)⟩,⟨none,.mv 11 (.t 52)⟩]) ((.seq (.jI false [⟨none,.ld 54 true 5 (.t 6)⟩,⟨none,.call (some 55) 10 [(.t 54)]⟩,⟨none,.mv 53 (.t 55)⟩,⟨none,.ext 56 (.t 53) 0⟩,⟨none,.ext 57 (.t 53) 1⟩,⟨none,.zer 12 5 (.ag [(.sc (.int .i64 0)),(.sc (.int .i64 0)),(.sc (.int .i64 0)),(.ls (some true) 1 []),(.ls (some true) 1 [])])⟩,⟨none,.st 5 (.t 12) (.t 56)⟩,⟨none,.mv 13 (.t 57)⟩]) ((.seq (.jI false [⟨none,.ld 59 true 5 (.t 6)⟩,⟨none,.call (some 60) 11 [(.t 59)]⟩,⟨none,.mv 58 (.t 60)⟩,⟨none,.ext 61 (.t 58) 0⟩,⟨none,.ext 62 (.t 58) 1⟩,⟨none,.zer 14 5 (.ag [(.sc (.int .i64 0)),(.sc (.int .i64 0)),(.sc (.int .i64 0)),(.ls (some true) 1 []),(.ls (some true) 1 [])])⟩,⟨none,.st 5 (.t 14) (.t 61)⟩,⟨none,.mv 15 (.t 62)⟩]) ((.seq (.jI false [⟨none,.ld 64 true 5 (.t 14)⟩,⟨none,.ld 65 true 3 (.t 7)⟩,⟨none,.call (some 66) 12 [(.t 64),(.t 65)]⟩,⟨none,.mv 63 (.t 66)⟩,⟨none,.ext 67 (.t 63) 0⟩,⟨none,.ext 68 (.t 63) 1⟩,⟨none,.mv 16 (.t 67)⟩,⟨none,.mv 17 (.t 68)⟩]) ((.seq ((.seq (.jI false [⟨none,.mv 69 (.t 9)⟩,⟨none,.mv 70 (.t 11)⟩,⟨none,.bin 71 .neq (.t 69) (.t 70)⟩,⟨none,.mv 72 (.t 71)⟩,⟨some (72,false),.mv 73 (.t 13)⟩,⟨some (72,false),.mv 74 (.t 15)⟩,⟨some (72,false),.bin 75 .neq (.t 73) (.t 74)⟩,⟨none,.pick 76 (.t 72) (.c (.sc (.bool true))) (.t 75)⟩,⟨none,.mv 77 (.t 76)⟩,⟨some (77,false),.mv 78 (.t 9)⟩,⟨some (77,false),.bin 79 .neq (.t 78) (.c (.sc (.int .i64 0)))⟩,⟨none,.pick 80 (.t 77) (.c (.sc (.bool true))) (.t 79)⟩,⟨none,.mv 81 (.t 80)⟩,⟨some (81,false),.mv 82 (.t 17)⟩,⟨some (81,false),.bin 83 .neq (.t 82) (.c (.sc (.int .i64 0)))⟩,⟨none,.pick 84 (.t 81) (.c (.sc (.bool true))) (.t 83)⟩,⟨none,.mv 85 (.t 84)⟩,⟨some (85,false),.ld 86 true 5 (.t 12)⟩,⟨some (85,false),.ld 87 true 5 (.t 14)⟩,⟨some (85,false),.call (some 88) 13 [(.t 86),(.t 87)]⟩,⟨some (85,false),.un 89 .not (.t 88)⟩,⟨none,.pick 90 (.t 85) (.c (.sc (.bool true))) (.t 89)⟩,⟨none,.mv 91 (.t 90)⟩,⟨some (91,false),.mv 92 (.t 8)⟩,⟨some (91,false),.len 93 (.t 92)⟩,⟨some (91,false),.fa 94 2 (.t 6)⟩,⟨some (91,false),.ld 95 false 1 (.t 94)⟩,⟨some (91,false),.bin 96 .neq (.t 93) (.t 95)⟩,⟨none,.pick 97 (.t 91) (.c (.sc (.bool true))) (.t 96)⟩,⟨none,.mv 98 (.t 97)⟩,⟨some (98,false),.mv 99 (.t 16)⟩,⟨some (98,false),.fa 100 2 (.t 6)⟩,⟨some (98,false),.ld 101 false 1 (.t 100)⟩,⟨some (98,false),.call (some 102) 14 [(.t 99),(.t 101)]⟩,⟨some (98,false),.un 103 .not (.t 102)⟩,⟨none,.pick 104 (.t 98) (.c (.sc (.bool true))) (.t 103)⟩,⟨none,.mv 105 (.t 104)⟩,⟨some (105,false),.ld 106 true 5 (.t 6)⟩,⟨some (105,false),.call (some 107) 15 [(.t 106)]⟩,⟨some (105,false),.un 108 .not (.t 107)⟩,⟨none,.pick 109 (.t 105) (.c (.sc (.bool true))) (.t 108)⟩]) (.cond (.t 109) ((.seq (.jI false [⟨none,.mv 4 (.c (.sc (.bool false)))⟩]) (.ret))) (.skip)))) ((.seq ((.seq (.jI false [⟨none,.mv 18 (.c (.sc (.int .i64 0)))⟩]) (.gX 0 (.loop ((.seq ((.seq (.jI false [⟨none,.mv 110 (.t 18)⟩,⟨none,.mv 111 (.t 10)⟩,⟨none,.len 112 (.t 111)⟩,⟨none,.bin 113 .lss (.t 110) (.t 112)⟩]) (.cond (.t 113) (.skip) (.exit 0)))) ((.seq (.gX 1 ((.seq ((.seq (.jI true [⟨none,.mv 116 (.t 8)⟩,⟨none,.mv 117 (.t 18)⟩,⟨none,.ia 118 1 (.t 116) (.t 117)⟩,⟨none,.ld 119 false 1 (.t 118)⟩,⟨none,.mv 120 (.t 10)⟩,⟨none,.mv 121 (.t 18)⟩,⟨none,.ia 122 1 (.t 120) (.t 121)⟩,⟨none,.ld 123 false 1 (.t 122)⟩,⟨none,.call (some 124) 16 [(.t 119),(.t 123)]⟩,⟨none,.un 125 .not (.t 124)⟩]) (.cond (.t 125) ((.seq (.jI false [⟨none,.mv 4 (.c (.sc (.bool false)))⟩]) (.ret))) (.skip)))) ((.seq (.jI false [⟨none,.mv 19 (.c (.sc (.int .i64 0)))⟩]) (.gX 2 (.loop ((.seq ((.seq (.jI false [⟨none,.mv 126 (.t 19)⟩,⟨none,.mv 127 (.t 10)⟩,⟨none,.len 128 (.t 127)⟩,⟨none,.bin 129 .lss (.t 126) (.t 128)⟩]) (.cond (.t 129) (.skip) (.exit 2)))) ((.seq (.gX 3 ((.seq (.jI true [⟨none,.mv 132 (.t 10)⟩,⟨none,.mv 133 (.t 18)⟩,⟨none,.ia 134 1 (.t 132) (.t 133)⟩,⟨none,.ld 135 false 1 (.t 134)⟩,⟨none,.mv 136 (.t 19)⟩,⟨none,.ia 137 1 (.t 135) (.t 136)⟩,⟨none,.ld 138 false 1 (.t 137)⟩,⟨none,.bin 139 .neq (.t 138) (.c (.sc (.int .i64 (-1))))⟩,⟨none,.mv 140 (.t 16)⟩,⟨none,.mv 141 (.t 18)⟩,⟨none,.ia 142 1 (.t 140) (.t 141)⟩,⟨none,.ld 143 false 1 (.t 142)⟩,⟨none,.mv 144 (.t 19)⟩,⟨none,.ia 145 1 (.t 143) (.t 144)⟩,⟨none,.ld 146 false 1 (.t 145)⟩,⟨none,.beq 147 true (.t 139) (.t 146)⟩]) (.cond (.t 147) ((.seq (.jI false [⟨none,.mv 4 (.c (.sc (.bool false)))⟩]) (.ret))) (.skip))))) (.jI false [⟨none,.mv 130 (.t 19)⟩,⟨none,.bin 131 .add (.t 130) (.c (.sc (.int .i64 1)))⟩,⟨none,.mv 19 (.t 131)⟩])))))))))))) (.jI false [⟨none,.mv 114 (.t 18)⟩,⟨none,.bin 115 .add (.t 114) (.c (.sc (.int .i64 1)))⟩,⟨none,.mv 18 (.t 115)⟩]))))))))) ((.seq (.jI false [⟨none,.ld 149 true 2 (.t 5)⟩,⟨none,.ld 150 true 3 (.t 7)⟩,⟨none,.call (some 151) 17 [(.t 149),(.t 150),(.c (.sc (.int .i64 2)))]⟩,⟨none,.mv 148 (.t 151)⟩,⟨none,.ext 152 (.t 148) 0⟩,⟨none,.ext 153 (.t 148) 1⟩,⟨none,.mv 20 (.t 152)⟩,⟨none,.mv 21 (.t 153)⟩]) ((.seq ((.seq (.jI false [⟨none,.mv 154 (.t 21)⟩,⟨none,.bin 155 .neq (.t 154) (.c (.sc (.int .i64 0)))⟩,⟨none,.mv 156 (.t 155)⟩,⟨some (156,false),.mv 157 (.t 20)⟩,⟨some (156,false),.len 158 (.t 157)⟩,⟨some (156,false),.bin 159 .eql (.t 158) (.c (.sc (.int .i64 0)))⟩,⟨none,.pick 160 (.t 156) (.c (.sc (.bool true))) (.t 159)⟩]) (.cond (.t 160) ((.seq (.jI false [⟨none,.mv 4 (.c (.sc (.bool true)))⟩]) (.ret))) (.skip)))) ((.seq (.jI false [⟨none,.mv 161 (.t 20)⟩,⟨none,.mv 162 (.t 1)⟩,⟨none,.mv 163 (.t 20)⟩,⟨none,.len 164 (.t 163)⟩,⟨none,.call (some 165) 18 [(.t 162),(.t 164)]⟩,⟨none,.ia 166 2 (.t 161) (.t 165)⟩,⟨none,.ld 167 true 2 (.t 166)⟩,⟨none,.zer 22 2 (.ag [(.ls (some true) 1 []),(.ls (some true) 1 [])])⟩,⟨none,.st 2 (.t 22) (.t 167)⟩]) ((.seq (.jI true [⟨none,.ld 169 true 5 (.t 6)⟩,⟨none,.ld 170 true 2 (.t 5)⟩,⟨none,.ld 171 true 2 (.t 22)⟩,⟨none,.call (some 172) 19 [(.t 170),(.t 171)]⟩,⟨none,.call (some 173) 8 [(.t 169),(.t 172)]⟩,⟨none,.mv 168 (.t 173)⟩,⟨none,.ext 174 (.t 168) 0⟩,⟨none,.ext 175 (.t 168) 1⟩,⟨none,.mv 23 (.t 174)⟩,⟨none,.mv 24 (.t 175)⟩]) ((.seq ((.seq (.jI false [⟨none,.mv 176 (.t 24)⟩,⟨none,.bin 177 .neq (.t 176) (.c (.sc (.int .i64 0)))⟩,⟨none,.mv 178 (.t 177)⟩,⟨some (178,false),.mv 179 (.t 23)⟩,⟨some (178,false),.len 180 (.t 179)⟩,⟨some (178,false),.mv 181 (.t 10)⟩,⟨some (178,false),.len 182 (.t 181)⟩,⟨some (178,false),.bin 183 .neq (.t 180) (.t 182)⟩,⟨none,.pick 184 (.t 178) (.c (.sc (.bool true))) (.t 183)⟩]) (.cond (.t 184) ((.seq (.jI false [⟨none,.mv 4 (.c (.sc (.bool false)))⟩]) (.ret))) (.skip)))) ((.seq ((.seq (.jI false [⟨none,.mv 25 (.c (.sc (.int .i64 0)))⟩]) (.gX 4 (.loop ((.seq ((.seq (.jI false [⟨none,.mv 185 (.t 25)⟩,⟨none,.mv 186 (.t 10)⟩,⟨none,.len 187 (.t 186)⟩,⟨none,.bin 188 .lss (.t 185) (.t 187)⟩]) (.cond (.t 188) (.skip) (.exit 4)))) ((.seq (.gX 5 ((.seq (.jI false [⟨none,.mv 26 (.c (.sc (.int .i64 0)))⟩]) (.gX 6 (.loop ((.seq ((.seq (.jI false [⟨none,.mv 191 (.t 26)⟩,⟨none,.mv 192 (.t 10)⟩,⟨none,.len 193 (.t 192)⟩,⟨none,.bin 194 .lss (.t 191) (.t 193)⟩,⟨none,.mv 195 (.t 194)⟩,⟨some (195,true),.mv 196 (.t 26)⟩,⟨some (195,true),.mv 197 (.t 23)⟩,⟨some (195,true),.mv 198 (.t 25)⟩,⟨some (195,true),.ia 199 1 (.t 197) (.t 198)⟩,⟨some (195,true),.ld 200 false 1 (.t 199)⟩,⟨some (195,true),.len 201 (.t 200)⟩,⟨some (195,true),.bin 202 .lss (.t 196) (.t 201)⟩,⟨none,.pick 203 (.t 195) (.t 202) (.c (.sc (.bool false)))⟩]) (.cond (.t 203) (.skip) (.exit 6)))) ((.seq (.gX 7 ((.seq (.jI true [⟨none,.mv 206 (.t 23)⟩,⟨none,.mv 207 (.t 25)⟩,⟨none,.ia 208 1 (.t 206) (.t 207)⟩,⟨none,.ld 209 false 1 (.t 208)⟩,⟨none,.mv 210 (.t 26)⟩,⟨none,.ia 211 1 (.t 209) (.t 210)⟩,⟨none,.ld 212 false 1 (.t 211)⟩,⟨none,.bin 213 .neq (.t 212) (.c (.sc (.int .i64 (-1))))⟩,⟨none,.mv 214 (.t 213)⟩,⟨some (214,true),.mv 215 (.t 10)⟩,⟨some (214,true),.mv 216 (.t 25)⟩,⟨some (214,true),.ia 217 1 (.t 215) (.t 216)⟩,⟨some (214,true),.ld 218 false 1 (.t 217)⟩,⟨some (214,true),.mv 219 (.t 26)⟩,⟨some (214,true),.ia 220 1 (.t 218) (.t 219)⟩,⟨some (214,true),.ld 221 false 1 (.t 220)⟩,⟨some (214,true),.bin 222 .eql (.t 221) (.c (.sc (.int .i64 (-1))))⟩,⟨some (214,true),.mv 223 (.t 222)⟩,⟨some (223,false),.mv 224 (.t 10)⟩,⟨some (223,false),.mv 225 (.t 25)⟩,⟨some (223,false),.ia 226 1 (.t 224) (.t 225)⟩,⟨some (223,false),.ld 227 false 1 (.t 226)⟩,⟨some (223,false),.mv 228 (.t 26)⟩,⟨some (223,false),.ia 229 1 (.t 227) (.t 228)⟩,⟨some (223,false),.ld 230 false 1 (.t 229)⟩,⟨some (223,false),.mv 231 (.t 23)⟩,⟨some (223,false),.mv 232 (.t 25)⟩,⟨some (223,false),.ia 233 1 (.t 231) (.t 232)⟩,⟨some (223,false),.ld 234 false 1 (.t 233)⟩,⟨some (223,false),.mv 235 (.t 26)⟩,⟨some (223,false),.ia 236 1 (.t 234) (.t 235)⟩,⟨some (223,false),.ld 237 false 1 (.t 236)⟩,⟨some (223,false),.bin 238 .gtr (.t 230) (.t 237)⟩,⟨some (214,true),.pick 239 (.t 223) (.c (.sc (.bool true))) (.t 238)⟩,⟨none,.pick 240 (.t 214) (.t 239) (.c (.sc (.bool false)))⟩]) (.cond (.t 240) ((.seq (.jI false [⟨none,.mv 4 (.c (.sc (.bool false)))⟩]) (.ret))) (.skip))))) (.jI false [⟨none,.mv 204 (.t 26)⟩,⟨none,.bin 205 .add (.t 204) (.c (.sc (.int .i64 1)))⟩,⟨none,.mv 26 (.t 205)⟩])))))))))) (.jI false [⟨none,.mv 189 (.t 25)⟩,⟨none,.bin 190 .add (.t 189) (.c (.sc (.int .i64 1)))⟩,⟨none,.mv 25 (.t 190)⟩]))))))))) ((.seq (.jI false [⟨none,.mv 4 (.c (.sc (.bool true)))⟩]) (.ret))))))))))))))))))))))))))))))))))))))
def ajO:il Try.prog 3=some (241,rc3,[.t 4]):=by kernel_rfl
variable {n:Nat}
def Dx{α:Type}{g:Nat→α}{x:α}(h:x∈g7 n g):∃i,i<n∧g i=x:=by
 unfold g7 at h;rw[aB]at h;obtain⟨i,hi,e⟩:=h;exact⟨i,bK.1 hi,e⟩
def YR{R:my}:j8 (n:Int) (n:Int) (mK n R)=true:=by
 simp only[j8,it,mK,g8,bE,bI,aM];intro r hr;obtain⟨i,_,rfl⟩:=Dx hr;simp[g8]
def aib{k:Nat}(h:k≤3):(2:Int) ^ k≤8:=by
 have:k=0∨k=1∨k=2∨k=3:=by omega
 rcases this with rfl|rfl|rfl|rfl<;>decide
def X7{f:Nat→Int}:eS 1 eI (some false,g7 n f)=.ls (some false) 1 (qP n f):=by simp only[eS,qP,mj,eI]
def PJ{c:Co}{p:Nat}(hC:xP c p):wh (j5 c p)=true:=by
 have hp:kJ (p:Int) 1 8=true:=by have h1:=hC.n1;have h2:=hC.n8;simp[kJ];omega
 simp only[wh,iU,nv,j8,it,j5,hC.g,hp,bA,bI,aU,lM,aM];refine⟨⟨hC.tl,fun r hr=>?_⟩,hC.al,fun r hr=>?_⟩;obtain⟨r',Ig,rfl⟩:=aB.1 hr;have:=hC.tr r' Ig;simp only;omega;obtain⟨r',Ig,rfl⟩:=aB.1 hr;refine⟨by simp[mK,g8],fun q hq=>?_⟩;obtain⟨i,_,rfl⟩:=Dx hq;simp[g8]
set_option maxHeartbeats 16000000
set_option maxRecDepth 20000
def law(x0 x1:SL Int)(h0:∀v∈x0.2,0≤v∧v<256)(h1:∀v∈x1.2,0≤v∧v<256):AF Try.prog 3 [eS 1 eU x0,eS 1 eU x1] (.own (eB true)):=by
 obtain⟨n0,c0⟩:=x0;obtain⟨n1,c1⟩:=x1;simp only at h0 h1
 show AF _ _ [.ls n0 1 (c0.map eU),.ls n1 1 (c1.map eU)] _
 refine fY ajO gC rfl fun hbd=>?_;simp(maxSteps:=5000000)+contextual-implicitDefEqProofs only[rc3,eB,go_sem];refine fL ?_ (af4 n0 c0) ?_;exact rfl;cases hd0:decide ((c0.length:Int)>4096)
 case true=>
  simp(maxSteps:=5000000)+contextual-implicitDefEqProofs only[eB,go_sem]
 simp(maxSteps:=5000000)+contextual-implicitDefEqProofs only[eB,go_sem];refine fL ?_ (af4 n1 c1) ?_;exact rfl;cases hd1:decide ((c1.length:Int)>4096)
 case true=>
  simp(maxSteps:=5000000)+contextual-implicitDefEqProofs only[eB,go_sem]
 have lW:nW c0:=⟨h0,by simp at hd0;omega⟩;have xH:nW c1:=⟨h1,by simp at hd1;omega⟩;obtain⟨g,hg,hP⟩:=af5 n0 c0 lW;obtain⟨co,hcg,XA,zd,iS,H0,⟨p,hp,hB⟩,hC⟩:=af6 n1 c1 g xH hg;subst hcg;obtain⟨e,he,hE⟩:=af7 n0 c0 co.1 6 lW hg (by omega) (by omega);have hE:=hE.afR;have hK:xP co p:=by
  obtain⟨q,hK⟩:=Mj XA;have:q=p:=by have:=hK.Cf;omega
  rwa [this]at hK
 have oe:=Yj he (by omega);have heT:f8 co.1 e=true:=by simp only[BA,bA]at oe;exact oe.2.2
 have heS:fZ e≤800:=by simp only[BA,bA,a7]at oe;omega
 have afS:=(Ya hK (by omega) hB e heT he.2.2.2.2.2).2;have hMo:=PJ hK;have hM:we (j5 co p) p:=by
  obtain⟨q,hM⟩:=G9 hMo;have:q=p:=by have h1:=hM.Cf;have h2:(j5 co p).2.1=(p:Int):=rfl;omega
  rwa [this]at hM
 have hgi:=lh hg;have hW:=alb co.1 hg e oe 2 (by omega);have O0:=JD (g:=co.1) (e:=e) (M:=(iY co.1).toNat) (C:=co.1.2.toNat) (ℓ:=2) heT heS;have hgc:=Hv (g:=co.1) (e:=e) (M:=(iY co.1).toNat) (C:=co.1.2.toNat) (ℓ:=2) heT heS;obtain⟨ws,wc,hwe⟩:∃ws wc,rF e (iY co.1).toNat co.1.2.toNat 2=(ws,wc):=⟨_,_,rfl⟩;rw[hwe]at hW O0 hgc;simp only at hW O0 hgc;have i1:=af8 co e;have i2:=af9 co e;rw[yC XA oe hK]at i1 i2;have i3:=aki co H0;have i4:=aj0 co H0;have hsr:qW co=(j5 co p,0):=by unfold qW;rw[af XA,show co.2.1.toNat=p by omega]
 rw[hsr]at i3 i4;have i5:=aj7 (j5 co p) e;rw[Ol hMo oe hM]at i5;have i6:=akx (j5 co p);have i7:=ak8 (mK p (gS (j5 co p) e)) p;rw[YR]at i7;have i8:=aeK co;rw[XA]at i8;clear hwe hsr hB;have hpt:co.2.1=(p:Int):=hp;have key:wc=0→ws≠[]→∃(v:Int) (w:Wo) (xe:Ex) (CX:lA),0≤v∧v<ws.length∧AF Try.prog 18 [.ls n1 1 (c1.map eU),eI ws.length] (.own (eI v))∧D.at (ws.map xw) v.toNat=xw w∧
   AF Try.prog 19 [eG co.1,xw w] (.own (eE xe))∧AF Try.prog 8 [pc co,eE xe] (.lf [.own (.ls (some false) 1 (mD p CX)),.own (eI 0)])∧∀x y,x<p→y<p→lw (fW co e x y) (CX x y):=by
  intro hz hws;have hwl:0<ws.length:=dY.2 hws;obtain⟨v,hv0,hv1,hPk⟩:=aks n1 c1 (ws.length:Int) xH (by omega);have OR:v.toNat<ws.length:=by omega
  have e1:D.at (ws.map xw) v.toNat=xw (ws.getD v.toNat Hm):=jJ OR;obtain⟨q1,q2,q3,q4,_⟩:=O0 hz _ (ji (d:=Hm) OR);have q5:=hgc hz _ (ji (d:=Hm) OR) co p hK rfl;generalize ws.getD v.toNat Hm=w at e1 q1 q2 q3 q4 q5;have hA:iY co.1=2 ^ co.1.1.toNat:=rfl;have h8:=aib (k:=co.1.1.toNat) (by omega);have h80:(0:Int)<2 ^ co.1.1.toNat:=Int.pow_pos (by omega);have okx:BA co.1 (mU co.1.1.toNat w.1.2 w.2.2 w.2.2.length)=true:=WO hg (fun c hc=>by have:=q4 c hc;omega) q2;have hWx:∀x y,x<p→y<p→fW co (mU co.1.1.toNat w.1.2 w.2.2 w.2.2.length) x y=Mp co p w.1.2 w.2.2 w.2.2.length x y:=fun x y hx hy=>Js hK q1 (fun a ha=>by have:=q3 a ha;omega) (aw _) hx hy;have i9:=alf co.1.1.toNat co.1.2 w.1.1 w.1.2 w.2.1 w.2.2 (by omega) q1 (fun a ha=>by have:=q3 a ha;omega) (by omega);have i10:=af8 co (mU co.1.1.toNat w.1.2 w.2.2 w.2.2.length);rw[yC XA okx hK]at i10;simp only[sx]at i10;rw[show((co.1.1.toNat:Nat):Int)=co.1.1 by omega]at i9;exact⟨v,w,_,_,hv0,hv1,hPk,e1,i9,i10,fun x y hx hy=>by rw[hWx x y hx hy];exact q5 x y hx hy⟩
 clear O0 hgc lW xH;simp only[rf,sx]at i1 i2 i5 i7;have hI:∀f:Nat→Int,AF Try.prog 16 [.ls (some false) 1 (qP p f),.ls (some false) 1 (qP p f)] (.own (eB true)):=fun f=>by
  have:=akW (some false,g7 p f) (some false,g7 p f);rw[X7]at this;simpa using this
 generalize gS (j5 co p) e=RE at afS i5 i7;generalize fW co e=CE at afS i1 i2 key;generalize j5 co p=sm at i3 i4 i5 i6;clear hM hMo hK XA H0 he hg oe heT heS hgi;obtain⟨⟨g1,g2⟩,pI,T,A⟩:=co;simp only at hpt;subst hpt;obtain⟨⟨sg1,sg2⟩,sp,sT,sA⟩:=sm;obtain⟨ek,en,enn,eks,rfl⟩:=Ex.ex e;simp only[gM]at hE hW i1 i2 i5;simp(maxSteps:=5000000)+contextual-implicitDefEqProofs only[lN,eB,go_sem];refine fL ?_ (hP) ?_;exact rfl;simp(maxSteps:=5000000)+contextual-implicitDefEqProofs only[eG,eI,D.put,D.size,D.fS,D.fX,D.at,D.sub,fU,fO,go_sem];refine fL ?_ (hC) ?_;exact rfl;simp(maxSteps:=5000000)+contextual-implicitDefEqProofs only[eI,pc,eS,bne,bN,D.put,D.size,D.fS,D.fX,D.at,D.sub,fU,fO,go_sem];refine fL ?_ (hE) ?_;exact rfl;simp(maxSteps:=5000000)+contextual-implicitDefEqProofs only[bne,bN,D.put,D.size,D.fS,D.fX,D.at,D.sub,fU,fO,go_sem];refine fL ?_ (i1) ?_;exact rfl;simp(maxSteps:=5000000)+contextual-implicitDefEqProofs only[eI,bne,bN,D.fX,D.at,D.sub,go_sem];refine fL ?_ (i2) ?_;exact rfl;simp(maxSteps:=5000000)+contextual-implicitDefEqProofs only[eI,bne,bN,D.fX,D.at,D.sub,go_sem];refine fL ?_ (i3) ?_;exact rfl;simp(maxSteps:=5000000)+contextual-implicitDefEqProofs only[eI,eM,eS,bne,bN,D.put,D.size,D.fS,D.fX,D.at,D.sub,fU,fO,go_sem];refine fL ?_ (i4) ?_;exact rfl;simp(maxSteps:=5000000)+contextual-implicitDefEqProofs only[eI,eM,eS,bne,bN,D.put,D.size,D.fS,D.fX,D.at,D.sub,fU,fO,go_sem];refine fL ?_ (i5) ?_;exact rfl
 simp(maxSteps:=5000000)+contextual-implicitDefEqProofs only[eI,bne,bT,bN,D.fX,D.at,D.sub,go_sem];refine fL ?_ (i6) ?_;exact rfl;simp(maxSteps:=5000000)+contextual-implicitDefEqProofs only[iG,eB,bne,bT,D.fX,D.at,D.sub,go_sem];refine fL ?_ (i7) ?_;exact rfl;simp(maxSteps:=5000000)+contextual-implicitDefEqProofs only[eB,bT,D.fX,D.at,D.sub,go_sem];refine fL ?_ (i8) ?_;exact rfl;simp(maxSteps:=5000000)+contextual-implicitDefEqProofs only[eB,bT,go_sem];refine lv (α:=Nat) [4,18,19,110,111,112,113,114,115,116,117,118,119,120,121,122,123,124,125,126,127,128,129,130,131,132,133,134,135,136,137,138,139,140,141,142,143,144,145,146,147] (fun x=>[(18,.im none (.sc (.int .i64 x)))]) (fun x=>x≤p) (fun x=>p-x) 0 (by simp only[fR,go_sem];simp) (aq _) ?_;intro x XB
 by_cases hx:x<p
 ·have e1:=mP (R:=CE) hx;simp(maxSteps:=5000000)+contextual-implicitDefEqProofs only[hx,e1,iG,aS,iN,D.size,D.fX,D.sub,iL,go_sem]
  repeat (refine And.intro (by omega) ?_)
  refine fL ?_ (hI (CE x)) ?_;exact rfl;simp(maxSteps:=5000000)+contextual-implicitDefEqProofs only[eB,bT,go_sem];refine lv (α:=Nat) [4,19,126,127,128,129,130,131,132,133,134,135,136,137,138,139,140,141,142,143,144,145,146,147] (fun y=>[(19,.im none (.sc (.int .i64 y)))]) (fun y=>y≤p) (fun y=>p-y) 0 (by simp only[fR,go_sem];simp) (aq _) ?_;intro y hy0
  by_cases hy:y<p
  ·have e2:=kh (f:=CE x) hy;have e3:=Cx (R:=RE) hx;have e4:=vC (f:=RE x) hy;rw[afS x y hx hy]at e4;cases hz:(CE x y== -1)with
   |true=>
    simp(maxSteps:=5000000)+contextual-implicitDefEqProofs only[hx,hy,e1,e2,e3,e4,hz,iG,iO,pG,ph,aS,iN,bne,bT,D.size,D.fX,D.sub,iL,go_sem];rw[fQ (by omega) (by omega)]
    repeat (refine And.intro (by omega) ?_)
    exact⟨y+1,by omega,by omega,gO.env (by simp only[fR,go_sem]<;>simp)⟩
   |false=>
    simp(maxSteps:=5000000)+contextual-implicitDefEqProofs only[hx,hy,e1,e2,e3,e4,hz,iG,iO,pG,ph,aS,iN,bne,bT,bN,D.size,D.fX,D.sub,iL,go_sem];rw[fQ (by omega) (by omega)]
    repeat (refine And.intro (by omega) ?_)
    exact⟨y+1,by omega,by omega,gO.env (by simp only[fR,go_sem]<;>simp)⟩
  simp(maxSteps:=5000000)+contextual-implicitDefEqProofs only[hy,iG,iL,go_sem];rw[fQ (by omega) (by omega)]
  repeat (refine And.intro (by omega) ?_)
  exact⟨x+1,by omega,by omega,gO.env (by simp only[fR,go_sem]<;>simp)⟩
 simp(maxSteps:=5000000)+contextual-implicitDefEqProofs only[hx,iG,D.fX,D.sub,iL,go_sem];refine fL ?_ (hW) ?_;exact rfl;simp(maxSteps:=5000000)+contextual-implicitDefEqProofs only[eI,bne,bN,go_sem]
 by_cases hz:wc=0
 case neg=>
  have bz:(wc==0)=false:=aW hz;simp(maxSteps:=5000000)+contextual-implicitDefEqProofs only[bz,bN,go_sem]
 by_cases hws:ws=[]
 case pos=>
  subst hws hz;simp(maxSteps:=5000000)+contextual-implicitDefEqProofs only[lN,lZ,aG,bE,Bool.true_eq_false,bT,go_sem]
 obtain⟨v,w,xe,CX,hv0,hv1,hPk,e1,i9,i10,hle⟩:=key hz hws;have hwl:0<ws.length:=dY.2 hws;have bl:((ws.length:Int)==0)=false:=by simp;omega
 subst hz;obtain⟨⟨wn1,was⟩,wn2,wcs⟩:=w;obtain⟨xk,xn,xnn,xks,rfl⟩:=Ex.ex xe;simp only[gM,xw,eS]at e1 i9 i10;simp(maxSteps:=5000000)+contextual-implicitDefEqProofs only[bl,bT,go_sem];refine fL ?_ (hPk) ?_;exact rfl;simp(maxSteps:=5000000)+contextual-implicitDefEqProofs only[e1,hv0,hv1,eI,bne,bN,D.put,D.size,D.fS,D.fX,D.sub,fU,fO,go_sem];refine fL ?_ (i9) ?_;exact rfl;simp(maxSteps:=5000000)+contextual-implicitDefEqProofs only[bne,bN,go_sem];refine fL ?_ (i10) ?_;exact rfl;simp(maxSteps:=5000000)+contextual-implicitDefEqProofs only[iG,eI,bne,bT,bN,go_sem];refine lv (α:=Nat) [4,25,26,185,186,187,188,189,190,191,192,193,194,195,196,197,198,199,200,201,202,203,204,205,206,207,208,209,210,211,212,213,214,215,216,217,218,219,220,221,222,223,224,225,226,227,228,229,230,231,232,233,234,235,236,237,238,239,240] (fun x=>[(25,.im none (.sc (.int .i64 x)))]) (fun x=>x≤p) (fun x=>p-x) 0 (by simp only[fR,go_sem];simp) (aq _) ?_;intro x XB
 by_cases hx:x<p
 ·simp(maxSteps:=5000000)+contextual-implicitDefEqProofs only[hx,iG,iL,go_sem];refine lv (α:=Nat) [4,26,191,192,193,194,195,196,197,198,199,200,201,202,203,204,205,206,207,208,209,210,211,212,213,214,215,216,217,218,219,220,221,222,223,224,225,226,227,228,229,230,231,232,233,234,235,236,237,238,239,240] (fun y=>[(26,.im none (.sc (.int .i64 y)))]) (fun y=>y≤p) (fun y=>p-y) 0 (by simp only[fR,go_sem];simp) (aq _) ?_;intro y hy0;have e2:=mP (R:=CX) hx
  by_cases hy:y<p
  ·have e3:=mP (R:=CE) hx;have e4:=kh (f:=CE x) hy;have e5:=kh (f:=CX x) hy;have rh:=hle x y hx hy;cases hz:(CX x y== -1)with
   |true=>
    simp(maxSteps:=5000000)+contextual-implicitDefEqProofs only[hx,hy,e2,e5,hz,iG,iO,aS,iN,bne,bT,D.size,D.fX,D.sub,iL,go_sem];rw[fQ (by omega) (by omega)]
    repeat (refine And.intro (by omega) ?_)
    exact⟨y+1,by omega,by omega,gO.env (by simp only[fR,go_sem]<;>simp)⟩
   |false=>
    have OQ:CX x y≠-1:=by simpa using hz
    unfold lw at rh;have hz2:(CE x y== -1)=false:=aW (by omega);have Io:¬(CE x y>CX x y):=by omega
    have hgt2:¬(CX x y<CE x y):=by omega
    simp(maxSteps:=5000000)+contextual-implicitDefEqProofs only[hx,hy,e2,e3,e4,e5,hz,hz2,Io,iG,iO,aS,iN,bne,bN,D.size,D.fX,D.sub,iL,go_sem];rw[fQ (by omega) (by omega)]
    repeat (refine And.intro (by omega) ?_)
    exact⟨y+1,by omega,by omega,gO.env (by simp only[fR,go_sem]<;>simp)⟩
  simp(maxSteps:=5000000)+contextual-implicitDefEqProofs only[hy,iG,iL,go_sem];rw[fQ (by omega) (by omega)]
  repeat (refine And.intro (by omega) ?_)
  exact⟨x+1,by omega,by omega,gO.env (by simp only[fR,go_sem]<;>simp)⟩
 simp(maxSteps:=5000000)+contextual-implicitDefEqProofs only[hx,iG,iL,go_sem]
end Go.Ax
