/- Contracts of functions of the seat, proved over the engine. No condition. -/
import Derived.Lib.Walk
import Derived.Below
import Derived.Test.YtjnghfepojipiaaXxG
import Derived.Test.YtjnghfepojipiaaXxD
import Derived.Test.YtjnghfepojipiaaChecked
set_option linter.unusedSimpArgs false
set_option linter.unusedVariables false
set_option linter.unnecessarySimpa false
set_option linter.unusedSectionVars false
namespace Go.Ax
set_option linter.unusedSimpArgs false
open Go.Proofs
theorem aY:Try.prog.follows .mixedOrders=true:=by kernel_rfl
theorem L4:aP Try.prog 53=some (6,wr,[.t 2]):=by kernel_rfl
theorem NH:Bj Try.prog 53:=Gk aY L4
theorem IJ:aP Try.prog 149=some (6,qm,[.t 2]):=by kernel_rfl
theorem Ba:g8 Try.prog 149:=Cn aY IJ
theorem IT:aP Try.prog 232=some (62,mm,[.t 2]):=by kernel_rfl
theorem LJ:pV Try.prog 232:=CW aY IT
theorem Ir:aP Try.prog 152=some (20,jj 232,[.t 4]):=by kernel_rfl
theorem uO:eO Try.prog 152:=Cw aY Ir LJ
theorem Ig:aP Try.prog 148=some (24,fJ 152,[.c 2 2 true]):=by kernel_rfl
theorem LQ:j5 Try.prog 148:=vX aY Ig uO
theorem OA:aP Try.prog 54=some (6,wa 149 148,[.c 2 2 true]):=by kernel_rfl
theorem UA:Bh Try.prog 54:=E8 aY OA Ba LQ
theorem IL:aP Try.prog 151=some (9,tY 152,[.t 4]):=by kernel_rfl
theorem DK:jo Try.prog 151:=Dd aY IL uO
theorem Ht:aP Try.prog 175=some (17,py,[.t 2]):=by kernel_rfl
theorem Eb:js Try.prog 175:=BX aY Ht
theorem IR:aP Try.prog 159=some (82,pA 152 151 175,[.c 6 5 true]):=by kernel_rfl
theorem Lq:pE Try.prog 159:=CL aY IR uO DK Eb
theorem Mv:aP Try.prog 61=some (9,ql 149 159,[.c 4 5 true]):=by kernel_rfl
theorem U2:vI Try.prog 61:=BY aY Mv Ba Lq
theorem Iz:aP Try.prog 277=some (66,dr 151 152,[.c 4 3 true]):=by kernel_rfl
theorem Lt:pW Try.prog 277:=CD aY Iz DK uO
end Go.Ax
namespace Go.Proofs
open Go.RowKit Go.Lib
set_option maxHeartbeats 2000000
set_option maxRecDepth 100000
theorem E7{α:Type}(h:Array α)(a b c d:α):((((h.push a).push b).push c).push d)[h.size+1+1+1]?=some d:=by
 have e:(((h.push a).push b).push c).size=h.size+1+1+1:=by simp only[Array.size_push]
 rw[←e];exact Array.getElem?_push_size
theorem FZ{α:Type}(h:Array α)(a b c d:α):((((h.push a).push b).push c).push d)[h.size+1+1]?=some c:=by
 have e:((h.push a).push b).size=h.size+1+1:=by simp only[Array.size_push]
 rw[Array.getElem?_push,if_neg (by simp only[Array.size_push];omega),←e];exact Array.getElem?_push_size
theorem rZ(w:World)(o:Obj):(w.alloc o).heap.size=w.heap.size+1:=by
 show(w.heap.push o).size=_
 simp only[Array.size_push]
theorem Ds(k:Int)(a1 a2 a3 b1 b2 b3:Value)(w:World):
  Calls Try.prog 165 #[.int .i64 k,.agg #[a1,a2,a3],.agg #[b1,b2,b3]] w fun e w'=>(∃b t,e=.returned (.agg #[.int .i64 k,.int .i64 0,.slice (some ⟨b,0,none⟩) 2 2])∧w.heap.size≤b∧w'.heap[b]?=some (.cells #[a1,a2,a3,b1,b2,b3] t (0,0)))∧Below w.heap.size w w':=by
 have aY:Try.prog.follows .mixedOrders=true:=by kernel_rfl
 go_enter Try.func165,Try.ntmps165
 go_wp2
 refine bodyPost_ret (results_cell_row rfl _ _ (w.heap.size+1+1) 52 #[.int .i64 k,.int .i64 0,.slice (some ⟨w.heap.size+1+1+1,0,none⟩) 2 2] (0,0) _ rfl ?_ Try.underlying52 rfl (by kernel_rfl)) rfl ?_
 ·exact FZ w.heap _ _ _ _
 ·refine⟨⟨w.heap.size+1+1+1,52,rfl,by omega,?_⟩,?_⟩
  ·exact E7 w.heap _ _ _ _
  ·exact((((Below.refl _ w).alloc (Nat.le_refl _) _).alloc (by simp only[rZ];omega) _).alloc (by simp only[rZ];omega) _).alloc (by simp only[rZ];omega) _
end Go.Proofs
namespace Go.Ax
open Go.Proofs
theorem N4(a:Array Value)(h:a.size=3):∃x y z,a= #[x,y,z]:=by
 obtain⟨l⟩:=a
 match l,h with
 | [x,y,z],_=>exact⟨x,y,z,rfl⟩
theorem uP:ft Try.prog 165:=by
 refine⟨⟨Try.f165,Try.func165,by kernel_rfl,by kernel_rfl⟩,fun k a b w ha hb=>?_⟩;obtain⟨a1,a2,a3,rfl⟩:=N4 a ha;obtain⟨b1,b2,b3,rfl⟩:=N4 b hb;exact Ds k a1 a2 a3 b1 b2 b3 w
theorem Ii:aP Try.prog 231=some (97,dc 231 151 277 152 165,[.c 6 3 true]):=by kernel_rfl
theorem Ow:qr Try.prog 231:=B3 aY Ii DK Lt uO uP
theorem I6:aP Try.prog 150=some (15,mS 231,[.c 6 3 true]):=by kernel_rfl
theorem PD:mL Try.prog 150:=Aw aY I6 Ow
theorem My:aP Try.prog 55=some (12,ub 149 150,[.c 6 3 true]):=by kernel_rfl
theorem Vu:xV Try.prog 55:=DE aY My Ba PD
theorem Io:aP Try.prog 109=some (15,v6,[.t 6]):=by kernel_rfl
theorem uJ:iC Try.prog 109:=Gf aY Io
theorem HY:aP Try.prog 130=some (11,ue 109,[.t 2]):=by kernel_rfl
theorem DI:lx Try.prog 130:=Dl aY HY uJ
theorem HG:aP Try.prog 221=some (30,pk 221,[.t 4]):=by kernel_rfl
theorem Oo:pf Try.prog 221:=B7 aY HG
theorem Ih:aP Try.prog 224=some (10,oA,[.t 4]):=by kernel_rfl
theorem Pk:tJ Try.prog 224:=Dk aY Ih
theorem I4:aP Try.prog 222=some (25,nD 222 224,[.t 2]):=by kernel_rfl
theorem Lm:mW Try.prog 222:=zX aY I4 Pk
theorem Ix:aP Try.prog 275=some (15,dM,[.t 2]):=by kernel_rfl
theorem NP:pL Try.prog 275:=CT aY Ix
theorem HA:aP Try.prog 157=some (34,iu 157 109,[.t 2]):=by kernel_rfl
theorem Hk:fS Try.prog 157:=tC aY HA uJ
theorem Jj:aP Try.prog 223=some (80,pQ 223 275 109 157,[.t 4]):=by kernel_rfl
theorem L6:pB Try.prog 223:=BV aY Jj NP uJ Hk
theorem Hn:aP Try.prog 131=some (22,wV 130 221 222 223,[.t 4]):=by kernel_rfl
theorem Ln:wZ Try.prog 131:=FN aY Hn DI Oo Lm L6
theorem Il:aP Try.prog 156=some (62,gY 156,[.t 4]):=by kernel_rfl
theorem GS:lL Try.prog 156:=Cd aY Il
theorem Jy:fc Try.prog .sh 278=some (53,gw 278 156,[]):=by kernel_rfl
theorem Pt:kQ Try.prog 278:=xu aY Jy GS
theorem IE:aP Try.prog 298=some (20,iG 298,[.t 2]):=by kernel_rfl
theorem Nt:kK Try.prog 298:=x7 aY IE
theorem I1:aP Try.prog 296=some (79,dU 296 298,[.t 2]):=by kernel_rfl
theorem Nj:qj Try.prog 296:=BW aY I1 Nt
theorem IF:fc Try.prog .sh 279=some (66,qf 296,[.t 2]):=by kernel_rfl
theorem Mb:qk Try.prog 279:=B9 aY IF Nj
theorem HO:aP Try.prog 164=some (2,pO,[.c 0 3 true]):=by kernel_rfl
theorem Ez:iW Try.prog 164:=BM aY HO
theorem IG:aP Try.prog 217=some (36,th 217,[.c 2 3 true]):=by kernel_rfl
theorem A0:iX Try.prog 217:=ED aY IG
theorem H6:fc Try.prog .sh 235=some (35,tt 278 279 164 217 165,[.c 4 3 true]):=by kernel_rfl
theorem Lk:tQ Try.prog 235:=Dg aY H6 Pt Mb Ez A0 uP
theorem Jz:aP Try.prog 236=some (60,gB 236 164 217 165,[.c 4 3 true]):=by kernel_rfl
theorem Nf:tI Try.prog 236:=DZ aY Jz Ez A0 uP
theorem Jb:aP Try.prog 254=some (2,sR,[.c 0 3 true]):=by kernel_rfl
theorem EN:kI Try.prog 254:=DW aY Jb
theorem JE:aP Try.prog 237=some (17,qC 157 254 217,[.c 2 3 true]):=by kernel_rfl
theorem Lw:pI Try.prog 237:=BR aY JE Hk EN A0
theorem HF:aP Try.prog 166=some (43,gW 166 235 236 237 217,[.c 2 3 true]):=by kernel_rfl
theorem GZ:mg Try.prog 166:=Ch aY HF Lk Nf Lw A0
theorem Is:aP Try.prog 251=some (7,mQ,[.t 2]):=by kernel_rfl
theorem Bq:gf Try.prog 251:=zP aY Is
theorem HQ:aP Try.prog 285=some (68,fD 285,[.t 4]):=by kernel_rfl
theorem Ng:qg Try.prog 285:=Cq aY HQ
theorem HS:aP Try.prog 252=some (52,fh 252 285,[.t 4]):=by kernel_rfl
theorem GG:jY Try.prog 252:=Au aY HS Ng
theorem Im:aP Try.prog 158=some (24,nu 158,[.t 2]):=by kernel_rfl
theorem Mn:mM Try.prog 158:=zD aY Im
theorem Hu:aP Try.prog 283=some (142,pj 283 164 254 165 252 158 166,[.c 6 3 true,.t 7]):=by kernel_rfl
theorem MB:pH Try.prog 283:=Cp aY Hu Ez EN uP GG Mn GZ
theorem Ho:aP Try.prog 284=some (18,pU 156,[.t 4]):=by kernel_rfl
theorem Oi:px Try.prog 284:=CU aY Ho GS
theorem IY:fc Try.prog .sb 250=some (88,lr 166 251 283 284,[.t 4,.t 5,.t 6]):=by kernel_rfl
theorem MM:kL Try.prog 250:=xJ aY IY GZ Bq MB Oi
theorem Jw:aP Try.prog 177=some (55,qp 250 251 252,[.c 4 4 true,.t 5]):=by kernel_rfl
theorem Ox:pg Try.prog 177:=CJ aY Jw MM Bq GG
theorem JJ:aP Try.prog 178=some (110,lg,[.t 4]):=by kernel_rfl
theorem OD:lE Try.prog 178:=xS aY JJ
theorem HH:aP Try.prog 253=some (6,pd,[.t 2]):=by kernel_rfl
theorem MK:qA Try.prog 253:=BS aY HH
theorem JD:fc Try.prog .sb 179=some (117,jV 179 251 253,[]):=by kernel_rfl
theorem Og:nr Try.prog 179:=Ag aY JD Bq MK
theorem PB:fc Try.prog .sb 81=some (47,jQ 131 109 177 178 179,[.t 6,.t 7]):=by kernel_rfl
theorem Ug:nS Try.prog 81:=wN aY PB Ln uJ Ox OD Og
theorem LF:aP Try.prog 82=some (9,sH 149 152,[.t 4]):=by kernel_rfl
theorem Uw:yi Try.prog 82:=Ei aY LF Ba uO
theorem Iv:aP Try.prog 115=some (15,tN,[.t 6]):=by kernel_rfl
theorem AS:jm Try.prog 115:=Dv aY Iv
theorem HP:aP Try.prog 138=some (11,mJ 115,[.t 2]):=by kernel_rfl
theorem OO:nv Try.prog 138:=Ap aY HP AS
theorem Hv:aP Try.prog 248=some (24,jT,[.t 6]):=by kernel_rfl
theorem PF:mZ Try.prog 248:=zt aY Hv
theorem Jm:aP Try.prog 195=some (46,nz 138 115 248,[.t 8]):=by kernel_rfl
theorem Ob:nq Try.prog 195:=zS aY Jm OO AS PF
theorem Ns:aP Try.prog 96=some (12,jU 195,[.t 2]):=by kernel_rfl
theorem NR:gN Try.prog 96:=v5 aY Ns Ob
theorem JH:aP Try.prog 286=some (6,pu,[.t 2]):=by kernel_rfl
theorem Me:o7 Try.prog 286:=Ck aY JH
theorem I2:aP Try.prog 199=some (19,qn 115,[.t 4]):=by kernel_rfl
theorem Pc:pY Try.prog 199:=Cu aY I2 AS
theorem Jh:aP Try.prog 256=some (27,qG 286 199,[.t 4]):=by kernel_rfl
theorem O4:ph Try.prog 256:=Cs aY Jh Me Pc
theorem Js:aP Try.prog 184=some (14,oh 256,[.t 4]):=by kernel_rfl
theorem Mx:tu Try.prog 184:=DD aY Js O4
theorem JA:aP Try.prog 173=some (33,sW,[.t 4]):=by kernel_rfl
theorem C6:kG Try.prog 173:=Eo aY JA
theorem HL:aP Try.prog 257=some (30,kM,[.t 6]):=by kernel_rfl
theorem LS:lw Try.prog 257:=xY aY HL
theorem H5:aP Try.prog 188=some (9,mT 173 257,[.t 4]):=by kernel_rfl
theorem GU:gi Try.prog 188:=zF aY H5 C6 LS
theorem Hr:aP Try.prog 187=some (26,s7,[.t 4]):=by kernel_rfl
theorem Oh:sD Try.prog 187:=Ek aY Hr
theorem HR:aP Try.prog 186=some (22,jB 187,[.t 7]):=by kernel_rfl
theorem ME:nH Try.prog 186:=zi aY HR Oh
theorem IN:aP Try.prog 185=some (9,pM 173 186,[.t 4]):=by kernel_rfl
theorem Om:qu Try.prog 185:=B5 aY IN C6 ME
theorem Py:aP Try.prog 87=some (45,ni 96 184 188 185,[.t 4,.t 5]):=by kernel_rfl
theorem VM:sT Try.prog 87:=zr aY Py NR Mx GU Om
theorem JK:aP Try.prog 193=some (36,ny 130 109,[.t 6]):=by kernel_rfl
theorem LA:ng Try.prog 193:=zB aY JK DI uJ
theorem Ms:aP Try.prog 91=some (82,wh 193,[.t 2]):=by kernel_rfl
theorem T4:ww Try.prog 91:=FB aY Ms LA
theorem IZ:aP Try.prog 189=some (74,qa 130 251 109,[.t 4]):=by kernel_rfl
theorem OL:pz Try.prog 189:=CE aY IZ DI Bq uJ
theorem II:aP Try.prog 190=some (26,pG,[.t 4]):=by kernel_rfl
theorem LB:qw Try.prog 190:=Cj aY II
theorem IM:aP Try.prog 191=some (62,tU 175,[.t 4]):=by kernel_rfl
theorem PC:oz Try.prog 191:=Ey aY IM Eb
theorem M1:aP Try.prog 88=some (101,mU 91 189 175 190 191,[.t 4,.t 5]):=by kernel_rfl
theorem Wq:sa Try.prog 88:=zu aY M1 T4 OL Eb LB PC
theorem Jv:aP Try.prog 276=some (15,er,[.t 2]):=by kernel_rfl
theorem OK:su Try.prog 276:=C9 aY Jv
theorem Jl:aP Try.prog 227=some (25,gp 227,[.t 2]):=by kernel_rfl
theorem LX:iQ Try.prog 227:=uk aY Jl
theorem Jc:aP Try.prog 226=some (86,lJ 226 276 115 227,[.t 8,.t 9]):=by kernel_rfl
theorem M5:tq Try.prog 226:=C7 aY Jc OK AS LX
theorem Ij:aP Try.prog 139=some (14,tG 226,[.t 4]):=by kernel_rfl
theorem On:sA Try.prog 139:=EH aY Ij M5
theorem JG:aP Try.prog 210=some (19,lG,[.t 6]):=by kernel_rfl
theorem LK:lB Try.prog 210:=xg aY JG
theorem H0:aP Try.prog 211=some (20,kV,[.t 5]):=by kernel_rfl
theorem Mj:kz Try.prog 211:=yR aY H0
theorem HZ:aP Try.prog 212=some (70,eH,[.t 7]):=by kernel_rfl
theorem N5:kx Try.prog 212:=xd aY HZ
theorem JI:aP Try.prog 118=some (60,mO 118 173 188 210 211 212,[.t 4]):=by kernel_rfl
theorem OX:nG Try.prog 118:=zO aY JI C6 GU LK Mj N5
theorem Pr:aP Try.prog 73=some (19,ic 96 139 118,[.t 4,.t 5]):=by kernel_rfl
theorem Oa:lA Try.prog 73:=sr aY Pr NR On OX
theorem H3:aP Try.prog 180=some (33,iU 254 165,[.c 4 3 true]):=by kernel_rfl
theorem L9:iM Try.prog 180:=um aY H3 EN uP
theorem Oc:aP Try.prog 83=some (40,jE 180 165,[.c 4 3 true]):=by kernel_rfl
theorem Uh:nO Try.prog 83:=wQ aY Oc L9 uP
theorem Mt:aP Try.prog 74=some (23,jW,[.t 4]):=by kernel_rfl
theorem Hx:t7 Try.prog 74:=zC aY Mt

def Lx:RC:=(.seq (.reg false [⟨none,.mv 4 (.c (.sc (.bool false)))⟩]) ((.seq ((.seq (.reg false [⟨none,.mv 21 (.t 0)⟩,⟨none,.call (some 22) 53 [(.t 21)]⟩,⟨none,.mv 23 (.t 22)⟩,⟨some (23,false),.mv 24 (.t 1)⟩,⟨some (23,false),.call (some 25) 53 [(.t 24)]⟩,⟨none,.pick 26 (.t 23) (.c (.sc (.bool true))) (.t 25)⟩]) (.cond (.t 26) ((.seq (.reg false [⟨none,.mv 4 (.c (.sc (.bool true)))⟩]) (.ret))) (.skip)))) ((.seq (.reg false [⟨none,.mv 27 (.t 0)⟩,⟨none,.call (some 28) 54 [(.t 27)]⟩,⟨none,.zer 5 2 (.ag [(.sc (.int .i64 0)),(.sc (.int .i64 0))])⟩,⟨none,.st 2 (.t 5) (.t 28)⟩]) ((.seq (.reg false [⟨none,.mv 29 (.t 1)⟩,⟨none,.ld 30 true 2 (.t 5)⟩,⟨none,.call (some 31) 61 [(.t 29),(.t 30)]⟩,⟨none,.zer 6 5 (.ag [(.sc (.int .i64 0)),(.sc (.int .i64 0)),(.sc (.int .i64 0)),(.ls (some true) 1 []),(.ls (some true) 1 [])])⟩,⟨none,.st 5 (.t 6) (.t 31)⟩]) ((.seq (.reg false [⟨none,.mv 32 (.t 0)⟩,⟨none,.ld 33 true 2 (.t 5)⟩,⟨none,.call (some 34) 55 [(.t 32),(.t 33),(.c (.sc (.int .i64 6)))]⟩,⟨none,.zer 7 3 (.ag [(.sc (.int .i64 0)),(.sc (.int .i64 0)),(.ls (some true) 3 [])])⟩,⟨none,.st 3 (.t 7) (.t 34)⟩]) ((.seq (.reg false [⟨none,.ld 36 true 2 (.t 5)⟩,⟨none,.ld 37 true 3 (.t 7)⟩,⟨none,.call (some 38) 81 [(.t 36),(.t 37),(.c (.sc (.int .i64 2)))]⟩,⟨none,.mv 35 (.t 38)⟩,⟨none,.ext 39 (.t 35) 0⟩,⟨none,.ext 40 (.t 35) 1⟩,⟨none,.mv 8 (.t 39)⟩,⟨none,.mv 9 (.t 40)⟩]) ((.seq ((.seq (.reg false [⟨none,.mv 41 (.t 9)⟩,⟨none,.bin 42 .neq (.t 41) (.c (.sc (.int .i64 0)))⟩,⟨none,.mv 43 (.t 42)⟩,⟨some (43,false),.mv 44 (.t 8)⟩,⟨some (43,false),.len 45 (.t 44)⟩,⟨some (43,false),.bin 46 .eql (.t 45) (.c (.sc (.int .i64 0)))⟩,⟨none,.pick 47 (.t 43) (.c (.sc (.bool true))) (.t 46)⟩]) (.cond (.t 47) ((.seq (.reg false [⟨none,.mv 4 (.c (.sc (.bool true)))⟩]) (.ret))) (.skip)))) ((.seq (.reg false [⟨none,.mv 48 (.t 8)⟩,⟨none,.mv 49 (.t 1)⟩,⟨none,.mv 50 (.t 8)⟩,⟨none,.len 51 (.t 50)⟩,⟨none,.call (some 52) 82 [(.t 49),(.t 51)]⟩,⟨none,.ia 53 2 (.t 48) (.t 52)⟩,⟨none,.ld 54 true 2 (.t 53)⟩,⟨none,.zer 10 2 (.ag [(.ls (some true) 1 []),(.ls (some true) 1 [])])⟩,⟨none,.st 2 (.t 10) (.t 54)⟩]) ((.seq (.reg false [⟨none,.ld 56 true 5 (.t 6)⟩,⟨none,.ld 57 true 2 (.t 10)⟩,⟨none,.call (some 58) 87 [(.t 56),(.t 57)]⟩,⟨none,.mv 55 (.t 58)⟩,⟨none,.ext 59 (.t 55) 0⟩,⟨none,.ext 60 (.t 55) 1⟩,⟨none,.mv 11 (.t 59)⟩,⟨none,.mv 12 (.t 60)⟩]) ((.seq (.reg false [⟨none,.ld 62 true 5 (.t 6)⟩,⟨none,.ld 63 true 2 (.t 10)⟩,⟨none,.call (some 64) 88 [(.t 62),(.t 63)]⟩,⟨none,.mv 61 (.t 64)⟩,⟨none,.ext 65 (.t 61) 0⟩,⟨none,.ext 66 (.t 61) 1⟩,⟨none,.mv 13 (.t 65)⟩,⟨none,.mv 14 (.t 66)⟩]) ((.seq (.reg false [⟨none,.ld 68 true 5 (.t 6)⟩,⟨none,.ld 69 true 3 (.t 7)⟩,⟨none,.call (some 70) 73 [(.t 68),(.t 69)]⟩,⟨none,.mv 67 (.t 70)⟩,⟨none,.ext 71 (.t 67) 0⟩,⟨none,.ext 72 (.t 67) 1⟩,⟨none,.mv 15 (.t 71)⟩,⟨none,.mv 16 (.t 72)⟩]) ((.seq (.reg true [⟨none,.ld 74 true 5 (.t 6)⟩,⟨none,.ld 75 true 2 (.t 5)⟩,⟨none,.ld 76 true 2 (.t 10)⟩,⟨none,.call (some 77) 83 [(.t 75),(.t 76)]⟩,⟨none,.call (some 78) 73 [(.t 74),(.t 77)]⟩,⟨none,.mv 73 (.t 78)⟩,⟨none,.ext 79 (.t 73) 0⟩,⟨none,.ext 80 (.t 73) 1⟩,⟨none,.mv 17 (.t 79)⟩,⟨none,.mv 18 (.t 80)⟩]) ((.seq ((.seq (.reg false [⟨none,.mv 81 (.t 12)⟩,⟨none,.mv 82 (.t 14)⟩,⟨none,.bin 83 .neq (.t 81) (.t 82)⟩,⟨none,.mv 84 (.t 83)⟩,⟨some (84,false),.mv 85 (.t 12)⟩,⟨some (84,false),.bin 86 .neq (.t 85) (.c (.sc (.int .i64 0)))⟩,⟨none,.pick 87 (.t 84) (.c (.sc (.bool true))) (.t 86)⟩,⟨none,.mv 88 (.t 87)⟩,⟨some (88,false),.mv 89 (.t 16)⟩,⟨some (88,false),.bin 90 .neq (.t 89) (.c (.sc (.int .i64 0)))⟩,⟨none,.pick 91 (.t 88) (.c (.sc (.bool true))) (.t 90)⟩,⟨none,.mv 92 (.t 91)⟩,⟨some (92,false),.mv 93 (.t 18)⟩,⟨some (92,false),.bin 94 .neq (.t 93) (.c (.sc (.int .i64 0)))⟩,⟨none,.pick 95 (.t 92) (.c (.sc (.bool true))) (.t 94)⟩,⟨none,.mv 96 (.t 95)⟩,⟨some (96,false),.mv 97 (.t 11)⟩,⟨some (96,false),.fa 98 2 (.t 6)⟩,⟨some (96,false),.ld 99 false 1 (.t 98)⟩,⟨some (96,false),.call (some 100) 74 [(.t 97),(.t 99)]⟩,⟨some (96,false),.un 101 .not (.t 100)⟩,⟨none,.pick 102 (.t 96) (.c (.sc (.bool true))) (.t 101)⟩,⟨none,.mv 103 (.t 102)⟩,⟨some (103,false),.mv 104 (.t 15)⟩,⟨some (103,false),.fa 105 2 (.t 6)⟩,⟨some (103,false),.ld 106 false 1 (.t 105)⟩,⟨some (103,false),.call (some 107) 74 [(.t 104),(.t 106)]⟩,⟨some (103,false),.un 108 .not (.t 107)⟩,⟨none,.pick 109 (.t 103) (.c (.sc (.bool true))) (.t 108)⟩,⟨none,.mv 110 (.t 109)⟩,⟨some (110,false),.mv 111 (.t 17)⟩,⟨some (110,false),.fa 112 2 (.t 6)⟩,⟨some (110,false),.ld 113 false 1 (.t 112)⟩,⟨some (110,false),.call (some 114) 74 [(.t 111),(.t 113)]⟩,⟨some (110,false),.un 115 .not (.t 114)⟩,⟨none,.pick 116 (.t 110) (.c (.sc (.bool true))) (.t 115)⟩]) (.cond (.t 116) ((.seq (.reg false [⟨none,.mv 4 (.c (.sc (.bool false)))⟩]) (.ret))) (.skip)))) ((.seq ((.seq (.reg false [⟨none,.mv 19 (.c (.sc (.int .i64 0)))⟩]) (.blk 0 (.loop ((.seq ((.seq (.reg false [⟨none,.mv 117 (.t 19)⟩,⟨none,.fa 118 2 (.t 6)⟩,⟨none,.ld 119 false 1 (.t 118)⟩,⟨none,.bin 120 .lss (.t 117) (.t 119)⟩]) (.cond (.t 120) (.skip) (.exit 0)))) ((.seq (.blk 1 ((.seq (.reg false [⟨none,.mv 20 (.c (.sc (.int .i64 0)))⟩]) (.blk 2 (.loop ((.seq ((.seq (.reg false [⟨none,.mv 123 (.t 20)⟩,⟨none,.fa 124 2 (.t 6)⟩,⟨none,.ld 125 false 1 (.t 124)⟩,⟨none,.bin 126 .lss (.t 123) (.t 125)⟩]) (.cond (.t 126) (.skip) (.exit 2)))) ((.seq (.blk 3 ((.seq (.reg true [⟨none,.mv 129 (.t 11)⟩,⟨none,.mv 130 (.t 19)⟩,⟨none,.ia 131 1 (.t 129) (.t 130)⟩,⟨none,.ld 132 false 1 (.t 131)⟩,⟨none,.mv 133 (.t 20)⟩,⟨none,.ia 134 1 (.t 132) (.t 133)⟩,⟨none,.ld 135 false 1 (.t 134)⟩,⟨none,.mv 136 (.t 13)⟩,⟨none,.mv 137 (.t 19)⟩,⟨none,.ia 138 1 (.t 136) (.t 137)⟩,⟨none,.ld 139 false 1 (.t 138)⟩,⟨none,.mv 140 (.t 20)⟩,⟨none,.ia 141 1 (.t 139) (.t 140)⟩,⟨none,.ld 142 false 1 (.t 141)⟩,⟨none,.beq 143 true (.t 135) (.t 142)⟩,⟨none,.mv 144 (.t 143)⟩,⟨some (144,false),.mv 145 (.t 11)⟩,⟨some (144,false),.mv 146 (.t 19)⟩,⟨some (144,false),.ia 147 1 (.t 145) (.t 146)⟩,⟨some (144,false),.ld 148 false 1 (.t 147)⟩,⟨some (144,false),.mv 149 (.t 20)⟩,⟨some (144,false),.ia 150 1 (.t 148) (.t 149)⟩,⟨some (144,false),.ld 151 false 1 (.t 150)⟩,⟨some (144,false),.mv 152 (.t 151)⟩,⟨some (152,true),.mv 153 (.t 15)⟩,⟨some (152,true),.mv 154 (.t 19)⟩,⟨some (152,true),.ia 155 1 (.t 153) (.t 154)⟩,⟨some (152,true),.ld 156 false 1 (.t 155)⟩,⟨some (152,true),.mv 157 (.t 20)⟩,⟨some (152,true),.ia 158 1 (.t 156) (.t 157)⟩,⟨some (152,true),.ld 159 false 1 (.t 158)⟩,⟨some (152,true),.un 160 .not (.t 159)⟩,⟨some (144,false),.pick 161 (.t 152) (.t 160) (.c (.sc (.bool false)))⟩,⟨none,.pick 162 (.t 144) (.c (.sc (.bool true))) (.t 161)⟩,⟨none,.mv 163 (.t 162)⟩,⟨some (163,false),.mv 164 (.t 17)⟩,⟨some (163,false),.mv 165 (.t 19)⟩,⟨some (163,false),.ia 166 1 (.t 164) (.t 165)⟩,⟨some (163,false),.ld 167 false 1 (.t 166)⟩,⟨some (163,false),.mv 168 (.t 20)⟩,⟨some (163,false),.ia 169 1 (.t 167) (.t 168)⟩,⟨some (163,false),.ld 170 false 1 (.t 169)⟩,⟨some (163,false),.mv 171 (.t 11)⟩,⟨some (163,false),.mv 172 (.t 19)⟩,⟨some (163,false),.ia 173 1 (.t 171) (.t 172)⟩,⟨some (163,false),.ld 174 false 1 (.t 173)⟩,⟨some (163,false),.mv 175 (.t 20)⟩,⟨some (163,false),.ia 176 1 (.t 174) (.t 175)⟩,⟨some (163,false),.ld 177 false 1 (.t 176)⟩,⟨some (163,false),.beq 178 true (.t 170) (.t 177)⟩,⟨none,.pick 179 (.t 163) (.c (.sc (.bool true))) (.t 178)⟩]) (.cond (.t 179) ((.seq (.reg false [⟨none,.mv 4 (.c (.sc (.bool false)))⟩]) (.ret))) (.skip))))) (.reg false [⟨none,.mv 127 (.t 20)⟩,⟨none,.bin 128 .add (.t 127) (.c (.sc (.int .i64 1)))⟩,⟨none,.mv 20 (.t 128)⟩])))))))))) (.reg false [⟨none,.mv 121 (.t 19)⟩,⟨none,.bin 122 .add (.t 121) (.c (.sc (.int .i64 1)))⟩,⟨none,.mv 19 (.t 122)⟩]))))))))) ((.seq (.reg false [⟨none,.mv 4 (.c (.sc (.bool true)))⟩]) (.ret))))))))))))))))))))))))))))))
theorem NS:aP Try.prog 13=some (180,Lx,[.t 4]):=by kernel_rfl
theorem Af{α:Type}{n:Nat}{g:Nat→α}{x:α}(h:x∈bS n g):∃i,i<n∧g i=x:=by
 unfold bS at h;rw[List.mem_map]at h;obtain⟨i,hi,e⟩:=h;exact⟨i,List.mem_range.1 hi,e⟩
theorem FG{n:Nat}{R:de}:dG (n:Int) (n:Int) (dZ n R)=true:=by
 simp only[dG,bM,dZ,cK,bE,bI,List.all_eq_true];intro r hr;obtain⟨i,_,rfl⟩:=Af hr;simp[cK]
theorem qv{g:Int×Int}(_:fH g=true):bu g=2 ^ g.1.toNat:=rfl
theorem Pj{k:Nat}(h:k≤3):(2:Int) ^ k≤8:=by
 have:k=0∨k=1∨k=2∨k=3:=by omega
 rcases this with rfl|rfl|rfl|rfl<;>decide
set_option maxHeartbeats 16000000
set_option maxRecDepth 20000
theorem law(x0 x1:SL Int)(h0:∀v∈x0.2,0≤v∧v<256)(h1:∀v∈x1.2,0≤v∧v<256):AF Try.prog 13 [eS 1 eU x0,eS 1 eU x1] (.own (eB true)):=by
 obtain⟨n0,c0⟩:=x0;obtain⟨n1,c1⟩:=x1;simp only at h0 h1
 show AF _ _ [.ls n0 1 (c0.map eU),.ls n1 1 (c1.map eU)] _
 refine aw NS aY rfl fun hbd=>?_;simp(maxSteps:=5000000)+contextual-implicitDefEqProofs only[Lx,eB,go_sem];refine aa ?_ (NH n0 c0) ?_
 ·exact rfl
 cases hd0:decide ((c0.length:Int)>4096)
 case true=>
  simp(maxSteps:=5000000)+contextual-implicitDefEqProofs only[eB,go_sem]
 simp(maxSteps:=5000000)+contextual-implicitDefEqProofs only[eB,go_sem];refine aa ?_ (NH n1 c1) ?_
 ·exact rfl
 cases hd1:decide ((c1.length:Int)>4096)
 case true=>
  simp(maxSteps:=5000000)+contextual-implicitDefEqProofs only[eB,go_sem]
 have hs0:fZ c0:=⟨h0,by simp at hd0;omega⟩;have hs1:fZ c1:=⟨h1,by simp at hd1;omega⟩;obtain⟨g,hg,hP⟩:=UA n0 c0 hs0;obtain⟨m,hmg,hmo,hm4,hm1,hM⟩:=U2 n1 c1 g hs1 hg;subst hmg;obtain⟨e,he,hE⟩:=Vu n0 c0 m.1 6 hs0 hg (by omega) (by omega);have hE:=hE.own_sh;obtain⟨p,hMk⟩:=rT hmo;have hp:=hMk.pts;have oe:=FX he (by omega);have heT:aD m.1 e=true:=by simp only[uj,bA]at oe;exact oe.2.2
 have heS:au e≤800:=by simp only[uj,bA,decide_eq_true_eq]at oe;omega
 have hgi:=dB hg;have hW:=Ug m.1 hg e oe 2 (by omega);have hgood:=xK (g:=m.1) (e:=e) (M:=(bu m.1).toNat) (C:=m.1.2.toNat) (ℓ:=2) heT heS;obtain⟨ws,wc,hwe⟩:∃ws wc,mY e (bu m.1).toNat m.1.2.toNat 2=(ws,wc):=⟨_,_,rfl⟩;rw[hwe]at hW hgood;simp only at hW hgood;have i5:=Oa m e;rw[vT hmo oe hMk]at i5;clear hwe;obtain⟨ek,en,enn,eks,rfl⟩:=Ex.ex e;simp only[bc]at hE hW i5;simp(maxSteps:=5000000)+contextual-implicitDefEqProofs only[lN,eB,go_sem];refine aa ?_ (hP) ?_
 ·exact rfl
 simp(maxSteps:=5000000)+contextual-implicitDefEqProofs only[eG,eI,D.put,D.size,D.sizeL,D.isAg,D.at,D.sub,aq,af,go_sem];refine aa ?_ (hM) ?_
 ·exact rfl
 simp(maxSteps:=5000000)+contextual-implicitDefEqProofs only[eI,eM,eS,bne,bN,D.put,D.size,D.sizeL,D.isAg,D.at,D.sub,aq,af,go_sem];refine aa ?_ (hE) ?_
 ·exact rfl
 simp(maxSteps:=5000000)+contextual-implicitDefEqProofs only[bne,bN,D.put,D.size,D.sizeL,D.isAg,D.at,D.sub,aq,af,go_sem];refine aa ?_ (hW) ?_
 ·exact rfl
 simp(maxSteps:=5000000)+contextual-implicitDefEqProofs only[eI,bne,bN,go_sem]
 by_cases hz:wc=0
 case neg=>
  have bz:(wc==0)=false:=beq_false_of_ne hz;simp(maxSteps:=5000000)+contextual-implicitDefEqProofs only[bz,bN,go_sem]
 subst hz;have hgood:=hgood rfl
 by_cases hws:ws=[]
 case pos=>
  subst hws;simp(maxSteps:=5000000)+contextual-implicitDefEqProofs only[lN,lZ,Int.cast_ofNat_Int,bE,Bool.true_eq_false,bT,go_sem]
 have hwl:0<ws.length:=List.length_pos_iff.2 hws;have bl:((ws.length:Int)==0)=false:=by simp;omega
 obtain⟨v,hv0,hv1,hPk⟩:=Uw n1 c1 (ws.length:Int) hs1 (by omega);have hvl:v.toNat<ws.length:=by omega
 have e1:D.at (ws.map gJ) v.toNat=gJ (ws.getD v.toNat AJ):=cO hvl;obtain⟨q1,q2,q3,q4,q5⟩:=hgood _ (fe (d:=AJ) hvl);generalize ws.getD v.toNat AJ=w at e1 q1 q2 q3 q4 q5;have hat0:0≤bu m.1:=by
  have:=vd hMk 0;have hA:=(qv (g:=m.1) hMk.g);omega
 have okw:km m.1 w=true:=Cc q1 q2 (fun a ha=>by have:=q3 a ha;omega) (fun c hc=>by have:=q4 c hc;omega);have i1:=VM m w;have i2:=Wq m w;rw[wP hmo okw hMk]at i1 i2;have hRR:=q5 m p hMk rfl;have hpow:∀k:Nat,((2 ^ k:Nat):Int)=2 ^ k:=fun k=>by simp
 have hWx:∀{x y:Nat},x<p→y<p→a7 m (eW m.1.1.toNat w.1.2 w.2.2 w.2.2.length) x y=dQ m p w w.2.2.length x y:=fun hx hy=>tn hMk (fun x _=>vd hMk x) q1 (fun a ha=>by
  have:=q3 a ha;have hA:=(qv (g:=m.1) hMk.g);omega) (Nat.le_refl _) hx hy
 have okx:uj m.1 (eW m.1.1.toNat w.1.2 w.2.2 w.2.2.length)=true:=Dn hMk.g (fun c hc=>by have:=q4 c hc;omega) q2;have i6:=Oa m (eW m.1.1.toNat w.1.2 w.2.2 w.2.2.length);rw[vT hmo okx hMk]at i6;have hg3:=dB hMk.g;have i7:=Uh m.1.1.toNat m.1.2 w.1.1 w.1.2 w.2.1 w.2.2 (by omega) q1 (fun a ha=>by
  have:=q3 a ha;have hA:=(qv (g:=m.1) hMk.g);have h8:=Pj (k:=m.1.1.toNat) (by omega);omega) (by omega)
 have i3:=Hx (dZ p (a7 m (.mk ek en enn eks))) p;have i4:=Hx (dZ p (dQ m p w w.2.2.length)) p;have i8:=Hx (dZ p (a7 m (eW m.1.1.toNat w.1.2 w.2.2 w.2.2.length))) p;rw[FG]at i3 i4 i8;simp only[gu]at i1 i2 i3 i4 i5 i6 i8;rw[show((m.1.1.toNat:Nat):Int)=m.1.1 by omega]at i7;generalize eW m.1.1.toNat w.1.2 w.2.2 w.2.2.length=xe at hWx i6 i7 i8;generalize a7 m xe=RX at hWx i6 i8;generalize a7 m (.mk ek en enn eks)=RE at hRR i3 i5;generalize dQ m p w w.2.2.length=RU at hRR hWx i1 i2 i4;have hp8:=hMk.n8;have hpp:=hMk.pts;obtain⟨⟨wn1,was⟩,wn2,wcs⟩:=w;obtain⟨xk,xn,xnn,xks,rfl⟩:=Ex.ex xe;obtain⟨⟨g1,g2⟩,p',T,A⟩:=m;simp only at hpp;subst hpp;simp only[bc,gJ,eS]at e1 i1 i2 i6 i7;simp(maxSteps:=5000000)+contextual-implicitDefEqProofs only[bl,bT,go_sem];refine aa ?_ (hPk) ?_
 ·exact rfl
 simp(maxSteps:=5000000)+contextual-implicitDefEqProofs only[e1,hv0,hv1,eI,bne,bN,D.put,D.size,D.sizeL,D.isAg,D.sub,aq,af,go_sem];refine aa ?_ (i1) ?_
 ·exact rfl
 simp(maxSteps:=5000000)+contextual-implicitDefEqProofs only[eI,bne,bN,D.isAg,D.sub,go_sem];refine aa ?_ (i2) ?_
 ·exact rfl
 simp(maxSteps:=5000000)+contextual-implicitDefEqProofs only[eI,bne,bN,D.isAg,D.sub,go_sem];refine aa ?_ (i5) ?_
 ·exact rfl
 simp(maxSteps:=5000000)+contextual-implicitDefEqProofs only[eI,bne,bN,D.isAg,D.sub,go_sem];refine aa ?_ (i7) ?_
 ·exact rfl
 simp(maxSteps:=5000000)+contextual-implicitDefEqProofs only[bne,bN,go_sem];refine aa ?_ (i6) ?_
 ·exact rfl
 simp(maxSteps:=5000000)+contextual-implicitDefEqProofs only[eI,bne,bT,bN,D.isAg,D.sub,go_sem];refine aa ?_ (i4) ?_
 ·exact rfl
 simp(maxSteps:=5000000)+contextual-implicitDefEqProofs only[eB,bT,D.isAg,D.sub,go_sem];refine aa ?_ (i3) ?_
 ·exact rfl
 simp(maxSteps:=5000000)+contextual-implicitDefEqProofs only[eB,bT,D.isAg,D.sub,go_sem];refine aa ?_ (i8) ?_
 ·exact rfl
 simp(maxSteps:=5000000)+contextual-implicitDefEqProofs only[eB,bT,go_sem];refine eD (α:=Nat) [4,19,20,117,118,119,120,121,122,123,124,125,126,127,128,129,130,131,132,133,134,135,136,137,138,139,140,141,142,143,144,145,146,147,148,149,150,151,152,153,154,155,156,157,158,159,160,161,162,163,164,165,166,167,168,169,170,171,172,173,174,175,176,177,178,179] (fun x=>[(19,.im none (.sc (.int .i64 x)))]) (fun x=>x≤p) (fun x=>p-x) 0 (by simp only[an,go_sem];simp) (Nat.zero_le _) ?_;intro x hx0
 by_cases hx:x<p
 ·simp(maxSteps:=5000000)+contextual-implicitDefEqProofs only[hx,D.isAg,D.sub,iL,go_sem];refine eD (α:=Nat) [4,20,123,124,125,126,127,128,129,130,131,132,133,134,135,136,137,138,139,140,141,142,143,144,145,146,147,148,149,150,151,152,153,154,155,156,157,158,159,160,161,162,163,164,165,166,167,168,169,170,171,172,173,174,175,176,177,178,179] (fun y=>[(20,.im none (.sc (.int .i64 y)))]) (fun y=>y≤p) (fun y=>p-y) 0 (by simp only[an,go_sem];simp) (Nat.zero_le _) ?_;intro y hy0
  by_cases hy:y<p
  ·have r1:=lm (R:=RU) hx;have r2:=gm (f:=RU x) hy;have r3:=lm (R:=RE) hx;have r4:=gm (f:=RE x) hy;have r5:=lm (R:=RX) hx;have r6:=gm (f:=RX x) hy;have hsub:=hRR x y hx hy;rw[hWx hx hy]at r6;cases hb:RU x y with
   |true=>
    rw[hb]at r2 r6;rw[hsub hb]at r4;simp(maxSteps:=5000000)+contextual-implicitDefEqProofs only[hx,hy,r1,r2,r3,r4,r5,r6,dJ,eC,Int.toNat_natCast,bT,D.size,D.isAg,D.sub,iL,go_sem];rw[aj (by omega) (by omega)]
    repeat (refine And.intro (by omega) ?_)
    exact⟨y+1,by omega,by omega,bf.env (by simp only[an,go_sem]<;>simp)⟩
   |false=>
    rw[hb]at r2 r6;simp(maxSteps:=5000000)+contextual-implicitDefEqProofs only[hx,hy,r1,r2,r5,r6,dJ,eC,Int.toNat_natCast,bT,D.size,D.isAg,D.sub,iL,go_sem];rw[aj (by omega) (by omega)]
    repeat (refine And.intro (by omega) ?_)
    exact⟨y+1,by omega,by omega,bf.env (by simp only[an,go_sem]<;>simp)⟩
  ·simp(maxSteps:=5000000)+contextual-implicitDefEqProofs only[hy,D.isAg,D.sub,iL,go_sem];rw[aj (by omega) (by omega)]
   repeat (refine And.intro (by omega) ?_)
   exact⟨x+1,by omega,by omega,bf.env (by simp only[an,go_sem]<;>simp)⟩
 ·simp(maxSteps:=5000000)+contextual-implicitDefEqProofs only[hx,D.isAg,D.sub,iL,go_sem]
end Go.Ax
