/- Contracts of functions of the seat, proved over the engine. No condition. -/
import Derived.Test.YtalgnbkjhgncaaaXxD
import Derived.Test.YtalgnbkjhgncaaaXxC
import Derived.Test.YtalgnbkjhgncaaaChecked
set_option linter.all false
namespace Go.Ax
open Go.Proofs
def gB:Try.prog.follows .mixedOrders=true:=by kernel_rfl
def ach:gq Try.prog 99=some (27,zr 88 3 true,[.t 4]):=by kernel_rfl
def abv:gq Try.prog 88=some (12,t9 99,[.t 4]):=by kernel_rfl
def abI:RC:=(.seq (.gt false [⟨none,.box 2 7 (.t 0)⟩,⟨none,.mv 4 (.c (.sc (.int .i64 0)))⟩]) ((.seq (.gt false [⟨none,.fa 5 2 (.t 2)⟩,⟨none,.ld 6 true 3 (.t 5)⟩,⟨none,.mv 7 (.t 1)⟩,⟨none,.call (some 8) 88 [(.t 6),(.t 7)]⟩,⟨none,.mv 1 (.t 8)⟩]) ((.seq ((.seq (.gt false [⟨none,.mv 9 (.t 1)⟩,⟨none,.bin 10 .lss (.t 9) (.c (.sc (.int .i64 0)))⟩]) (.cond (.t 10) ((.seq (.gt false [⟨none,.mv 4 (.c (.sc (.int .i64 (-1))))⟩]) (.ret))) (.skip)))) ((.seq (.gt false [⟨none,.mv 11 (.t 1)⟩,⟨none,.mv 4 (.t 11)⟩]) (.ret))))))))
def abJ:gq Try.prog 68=some (12,abI,[.t 4]):=by kernel_rfl
def aaZ:gq Try.prog 43=some (27,zr 68 7 true,[.t 4]):=by kernel_rfl
def aa1:RC:=(.seq (.gt false [⟨none,.box 2 2 (.t 0)⟩,⟨none,.mv 4 (.c (.sc (.int .i64 0)))⟩]) ((.seq (.gt false [⟨none,.fa 5 1 (.t 2)⟩,⟨none,.ld 6 false 1 (.t 5)⟩,⟨none,.mv 7 (.t 1)⟩,⟨none,.call (some 8) 43 [(.t 6),(.t 7)]⟩,⟨none,.mv 1 (.t 8)⟩]) ((.seq ((.seq (.gt false [⟨none,.mv 9 (.t 1)⟩,⟨none,.bin 10 .lss (.t 9) (.c (.sc (.int .i64 0)))⟩]) (.cond (.t 10) ((.seq (.gt false [⟨none,.mv 4 (.c (.sc (.int .i64 (-1))))⟩]) (.ret))) (.skip)))) ((.seq (.gt false [⟨none,.mv 11 (.t 1)⟩,⟨none,.mv 4 (.t 11)⟩]) (.ret))))))))
def abz:gq Try.prog 14=some (12,aa1,[.t 4]):=by kernel_rfl
def Su:GZ Try.prog 16:=SX gB (by kernel_rfl)
def Yx:gq Try.prog 102=some (23,zj 92 3 40 true (.ag [(.sc (.int .i64 0)),(.sc (.int .i64 0)),(.ls (some true) 3 [])]),[.t 2]):=by kernel_rfl
def ack:gq Try.prog 92=some (15,tQ 102,[.c 2 3 true]):=by kernel_rfl
def acP:RC:=(.seq (.gt false [⟨none,.box 1 7 (.t 0)⟩,⟨none,.zer 2 7 (.ag [(.sc (.int .i64 0)),(.sc (.int .i64 0)),(.sc (.int .i64 0)),(.sc (.int .i64 0)),(.ls (some true) 3 []),(.sc (.int .i64 0)),(.sc (.int .i64 0))])⟩]) ((.seq (.gt false [⟨none,.zer 3 7 (.ag [(.sc (.int .i64 0)),(.sc (.int .i64 0)),(.sc (.int .i64 0)),(.sc (.int .i64 0)),(.ls (some true) 3 []),(.sc (.int .i64 0)),(.sc (.int .i64 0))])⟩]) ((.seq (.gt false [⟨none,.fa 4 0 (.t 1)⟩,⟨none,.ld 5 false 1 (.t 4)⟩,⟨none,.fa 6 0 (.t 3)⟩,⟨none,.st 1 (.t 6) (.t 5)⟩]) ((.seq (.gt false [⟨none,.fa 7 1 (.t 1)⟩,⟨none,.ld 8 false 1 (.t 7)⟩,⟨none,.fa 9 1 (.t 3)⟩,⟨none,.st 1 (.t 9) (.t 8)⟩]) ((.seq (.gt false [⟨none,.fa 10 2 (.t 1)⟩,⟨none,.ld 11 true 3 (.t 10)⟩,⟨none,.call (some 12) 92 [(.t 11)]⟩,⟨none,.fa 13 2 (.t 3)⟩,⟨none,.st 3 (.t 13) (.t 12)⟩]) ((.seq (.gt false [⟨none,.fa 14 5 (.t 1)⟩,⟨none,.ld 15 false 1 (.t 14)⟩,⟨none,.fa 16 5 (.t 3)⟩,⟨none,.st 1 (.t 16) (.t 15)⟩]) ((.seq (.gt false [⟨none,.fa 17 6 (.t 1)⟩,⟨none,.ld 18 false 1 (.t 17)⟩,⟨none,.fa 19 6 (.t 3)⟩,⟨none,.st 1 (.t 19) (.t 18)⟩]) ((.seq (.gt false [⟨none,.ld 20 true 7 (.t 3)⟩,⟨none,.st 7 (.t 2) (.t 20)⟩]) (.ret))))))))))))))))
def acD:gq Try.prog 74=some (21,acP,[.c 2 7 true]):=by kernel_rfl
def adl:gq Try.prog 46=some (23,zj 74 7 72 true (.ag [(.sc (.int .i64 0)),(.sc (.int .i64 0)),(.sc (.int .i64 0)),(.sc (.int .i64 0)),(.ls (some true) 3 []),(.sc (.int .i64 0)),(.sc (.int .i64 0))]),[.t 2]):=by kernel_rfl
def acs:RC:=(.seq (.gt false [⟨none,.box 1 2 (.t 0)⟩,⟨none,.zer 2 2 (.ag [(.sc (.int .i64 0)),(.ls (some true) 7 [])])⟩]) ((.seq (.gt false [⟨none,.zer 3 2 (.ag [(.sc (.int .i64 0)),(.ls (some true) 7 [])])⟩]) ((.seq (.gt false [⟨none,.fa 4 0 (.t 1)⟩,⟨none,.ld 5 false 1 (.t 4)⟩,⟨none,.fa 6 0 (.t 3)⟩,⟨none,.st 1 (.t 6) (.t 5)⟩]) ((.seq (.gt false [⟨none,.fa 7 1 (.t 1)⟩,⟨none,.ld 8 false 1 (.t 7)⟩,⟨none,.call (some 9) 46 [(.t 8)]⟩,⟨none,.fa 10 1 (.t 3)⟩,⟨none,.st 1 (.t 10) (.t 9)⟩]) ((.seq (.gt false [⟨none,.ld 11 true 2 (.t 3)⟩,⟨none,.st 2 (.t 2) (.t 11)⟩]) (.ret))))))))))
def abV:gq Try.prog 17=some (12,acs,[.c 2 2 true]):=by kernel_rfl
def OL:pI Try.prog 58:=SF gB (by kernel_rfl)
def adt:tH Try.prog 69:=Ma gB (by kernel_rfl) OL
def agT:uY Try.prog 89:=J7 gB (by kernel_rfl)
def aaS:vj Try.prog 106:=Jv gB (by kernel_rfl)
def abP:yt Try.prog 110:=Lj gB (by kernel_rfl)
def aaO:sO Try.prog 107:=FX gB (by kernel_rfl) abP
def ac3:u9 Try.prog 111:=Ky gB (by kernel_rfl)
def Vn:lU Try.prog 101:=yb gB (by kernel_rfl) OL
def acb:u7 Try.prog 108:=Ib gB (by kernel_rfl) ac3 OL Vn
def ac2:BJ Try.prog 100:=SJ gB (by kernel_rfl) adt aaS aaO acb
def afV:uH Try.prog 90:=Kw gB (by kernel_rfl) ac2 Vn
def ag2:uX Try.prog 70:=KE gB (by kernel_rfl) agT OL afV
def ag1:uP Try.prog 44:=Jh gB (by kernel_rfl) adt OL ag2
def ahn:sP Try.prog 71:=F8 gB (by kernel_rfl)
def aha:vB Try.prog 91:=Ja gB (by kernel_rfl)
def ahv:sS Try.prog 72:=FS gB (by kernel_rfl) aha
def agj:sR Try.prog 73:=Fh gB (by kernel_rfl)
def agt:pE Try.prog 45:=Be gB (by kernel_rfl) ahn ahv agj
def agf:oz Try.prog 15:=tK gB (by kernel_rfl) ag1 agt
def Qz:pf Try.prog 62:=NY gB (by kernel_rfl)
def afE:sy Try.prog 75:=Fo gB (by kernel_rfl) Qz
def afF:yx Try.prog 93:=OZ gB (by kernel_rfl)
def aaR:xo Try.prog 112:=Nu gB (by kernel_rfl)
def VE:mz Try.prog 104:=zt gB (by kernel_rfl)
def ac7:xM Try.prog 109:=MP gB (by kernel_rfl) aaR Qz VE
def acR:xJ Try.prog 103:=Ny gB (by kernel_rfl) ac7
def agM:sV Try.prog 94:=Gz gB (by kernel_rfl) acR VE
def af3:xW Try.prog 76:=Lx gB (by kernel_rfl) Qz afF agM
def agp:oW Try.prog 47:=zo gB (by kernel_rfl) afE Qz af3
def afI:uU Try.prog 48:=JA gB (by kernel_rfl)
def agL:BA Try.prog 77:=Sy gB (by kernel_rfl)
def afO:Bo Try.prog 49:=S7 gB (by kernel_rfl) agL
def agU:A6 Try.prog 95:=Se gB (by kernel_rfl)
def agq:By Try.prog 96:=Re gB (by kernel_rfl)
def agF:Nk Try.prog 78:=aby gB (by kernel_rfl) agU agq
theorem res50:gq Try.prog 50=some (48,zV 78 (othF Try.prog 50 0) (othF Try.prog 50 1) (othF Try.prog 50 2) (othF Try.prog 50 3),[.t 4]):=by kernel_rfl
def ahs:uD Try.prog 50:=J1 gB res50 agF
def agX:xz Try.prog 51:=N3 gB (by kernel_rfl)
def ags:oF Try.prog 18:=tz gB (by kernel_rfl) agp afI afO ahs agX
def aa2:Hm Try.prog 34:=Ra gB (by kernel_rfl)
def acV:gq Try.prog 63=some (26,X8,[.t 4]):=by kernel_rfl
def aa3:gq Try.prog 35=some (27,zc 63 1 false,[.t 4]):=by kernel_rfl
def adp:gq Try.prog 86=some (26,ZC,[.t 4]):=by kernel_rfl
def aa0:gq Try.prog 64=some (27,zc 86 1 false,[.t 4]):=by kernel_rfl
def abe:gq Try.prog 37=some (27,zc 64 1 false,[.t 4]):=by kernel_rfl
def adj:RC:=(.seq (.gt false [⟨none,.box 2 4 (.t 0)⟩,⟨none,.box 3 4 (.t 1)⟩,⟨none,.mv 4 (.c (.sc (.bool false)))⟩]) ((.seq ((.seq (.gt false [⟨none,.fa 5 0 (.t 2)⟩,⟨none,.ld 6 true 2 (.t 5)⟩,⟨none,.fa 7 0 (.t 3)⟩,⟨none,.ld 8 true 2 (.t 7)⟩,⟨none,.call (some 9) 34 [(.t 6),(.t 8)]⟩,⟨none,.un 10 .not (.t 9)⟩]) (.cond (.t 10) ((.seq (.gt false [⟨none,.mv 4 (.c (.sc (.bool false)))⟩]) (.ret))) (.skip)))) ((.seq ((.seq (.gt false [⟨none,.fa 11 2 (.t 2)⟩,⟨none,.ld 12 false 1 (.t 11)⟩,⟨none,.fa 13 2 (.t 3)⟩,⟨none,.ld 14 false 1 (.t 13)⟩,⟨none,.call (some 15) 35 [(.t 12),(.t 14)]⟩,⟨none,.un 16 .not (.t 15)⟩]) (.cond (.t 16) ((.seq (.gt false [⟨none,.mv 4 (.c (.sc (.bool false)))⟩]) (.ret))) (.skip)))) ((.seq ((.seq (.gt false [⟨none,.fa 17 3 (.t 2)⟩,⟨none,.ld 18 false 1 (.t 17)⟩,⟨none,.fa 19 3 (.t 3)⟩,⟨none,.ld 20 false 1 (.t 19)⟩,⟨none,.call (some 21) 37 [(.t 18),(.t 20)]⟩,⟨none,.un 22 .not (.t 21)⟩]) (.cond (.t 22) ((.seq (.gt false [⟨none,.mv 4 (.c (.sc (.bool false)))⟩]) (.ret))) (.skip)))) ((.seq (.gt false [⟨none,.mv 4 (.c (.sc (.bool true)))⟩]) (.ret))))))))))
def ab9:gq Try.prog 19=some (23,adj,[.t 4]):=by kernel_rfl
def Wf:gq Try.prog 105=some (27,zc 97 3 true,[.t 4]):=by kernel_rfl
def abL:gq Try.prog 97=some (21,pj 105,[.t 4]):=by kernel_rfl
def Uk:RC:=(.seq (.gt false [⟨none,.box 2 7 (.t 0)⟩,⟨none,.box 3 7 (.t 1)⟩,⟨none,.mv 4 (.c (.sc (.bool false)))⟩]) ((.seq ((.seq (.gt false [⟨none,.fa 5 0 (.t 2)⟩,⟨none,.ld 6 false 1 (.t 5)⟩,⟨none,.fa 7 0 (.t 3)⟩,⟨none,.ld 8 false 1 (.t 7)⟩,⟨none,.bin 9 .neq (.t 6) (.t 8)⟩]) (.cond (.t 9) ((.seq (.gt false [⟨none,.mv 4 (.c (.sc (.bool false)))⟩]) (.ret))) (.skip)))) ((.seq ((.seq (.gt false [⟨none,.fa 10 1 (.t 2)⟩,⟨none,.ld 11 false 1 (.t 10)⟩,⟨none,.fa 12 1 (.t 3)⟩,⟨none,.ld 13 false 1 (.t 12)⟩,⟨none,.bin 14 .neq (.t 11) (.t 13)⟩]) (.cond (.t 14) ((.seq (.gt false [⟨none,.mv 4 (.c (.sc (.bool false)))⟩]) (.ret))) (.skip)))) ((.seq ((.seq (.gt false [⟨none,.fa 15 2 (.t 2)⟩,⟨none,.ld 16 true 3 (.t 15)⟩,⟨none,.fa 17 2 (.t 3)⟩,⟨none,.ld 18 true 3 (.t 17)⟩,⟨none,.call (some 19) 97 [(.t 16),(.t 18)]⟩,⟨none,.un 20 .not (.t 19)⟩]) (.cond (.t 20) ((.seq (.gt false [⟨none,.mv 4 (.c (.sc (.bool false)))⟩]) (.ret))) (.skip)))) ((.seq ((.seq (.gt false [⟨none,.fa 21 5 (.t 2)⟩,⟨none,.ld 22 false 1 (.t 21)⟩,⟨none,.fa 23 5 (.t 3)⟩,⟨none,.ld 24 false 1 (.t 23)⟩,⟨none,.bin 25 .neq (.t 22) (.t 24)⟩]) (.cond (.t 25) ((.seq (.gt false [⟨none,.mv 4 (.c (.sc (.bool false)))⟩]) (.ret))) (.skip)))) ((.seq ((.seq (.gt false [⟨none,.fa 26 6 (.t 2)⟩,⟨none,.ld 27 false 1 (.t 26)⟩,⟨none,.fa 28 6 (.t 3)⟩,⟨none,.ld 29 false 1 (.t 28)⟩,⟨none,.bin 30 .neq (.t 27) (.t 29)⟩]) (.cond (.t 30) ((.seq (.gt false [⟨none,.mv 4 (.c (.sc (.bool false)))⟩]) (.ret))) (.skip)))) ((.seq (.gt false [⟨none,.mv 4 (.c (.sc (.bool true)))⟩]) (.ret))))))))))))))
def aci:gq Try.prog 79=some (31,Uk,[.t 4]):=by kernel_rfl
def aca:gq Try.prog 52=some (27,zc 79 7 true,[.t 4]):=by kernel_rfl
def Xh:RC:=(.seq (.gt false [⟨none,.box 2 2 (.t 0)⟩,⟨none,.box 3 2 (.t 1)⟩,⟨none,.mv 4 (.c (.sc (.bool false)))⟩]) ((.seq ((.seq (.gt false [⟨none,.fa 5 0 (.t 2)⟩,⟨none,.ld 6 false 1 (.t 5)⟩,⟨none,.fa 7 0 (.t 3)⟩,⟨none,.ld 8 false 1 (.t 7)⟩,⟨none,.bin 9 .neq (.t 6) (.t 8)⟩]) (.cond (.t 9) ((.seq (.gt false [⟨none,.mv 4 (.c (.sc (.bool false)))⟩]) (.ret))) (.skip)))) ((.seq ((.seq (.gt false [⟨none,.fa 10 1 (.t 2)⟩,⟨none,.ld 11 false 1 (.t 10)⟩,⟨none,.fa 12 1 (.t 3)⟩,⟨none,.ld 13 false 1 (.t 12)⟩,⟨none,.call (some 14) 52 [(.t 11),(.t 13)]⟩,⟨none,.un 15 .not (.t 14)⟩]) (.cond (.t 15) ((.seq (.gt false [⟨none,.mv 4 (.c (.sc (.bool false)))⟩]) (.ret))) (.skip)))) ((.seq (.gt false [⟨none,.mv 4 (.c (.sc (.bool true)))⟩]) (.ret))))))))
def acI:gq Try.prog 20=some (16,Xh,[.t 4]):=by kernel_rfl
def aa9:gq Try.prog 67=some (23,TV,[.t 4]):=by kernel_rfl
def acZ:gq Try.prog 41=some (21,IK 67,[.t 4]):=by kernel_rfl
def adi:gq Try.prog 98=some (21,QS,[.t 4]):=by kernel_rfl
def acM:gq Try.prog 81=some (21,IK 98,[.t 4]):=by kernel_rfl
def abF:gq Try.prog 54=some (21,IK 81,[.t 4]):=by kernel_rfl
def ab2:RC:=(.seq (.gt false [⟨none,.box 2 4 (.t 0)⟩,⟨none,.mv 4 (.c (.sc (.int .i64 0)))⟩]) ((.seq (.gt false [⟨none,.fa 5 2 (.t 2)⟩,⟨none,.ld 6 false 1 (.t 5)⟩,⟨none,.mv 7 (.t 1)⟩,⟨none,.call (some 8) 41 [(.t 6),(.t 7)]⟩,⟨none,.mv 1 (.t 8)⟩]) ((.seq ((.seq (.gt false [⟨none,.mv 9 (.t 1)⟩,⟨none,.bin 10 .lss (.t 9) (.c (.sc (.int .i64 0)))⟩]) (.cond (.t 10) ((.seq (.gt false [⟨none,.mv 4 (.c (.sc (.int .i64 (-1))))⟩]) (.ret))) (.skip)))) ((.seq (.gt false [⟨none,.fa 11 3 (.t 2)⟩,⟨none,.ld 12 false 1 (.t 11)⟩,⟨none,.mv 13 (.t 1)⟩,⟨none,.call (some 14) 54 [(.t 12),(.t 13)]⟩,⟨none,.mv 1 (.t 14)⟩]) ((.seq ((.seq (.gt false [⟨none,.mv 15 (.t 1)⟩,⟨none,.bin 16 .lss (.t 15) (.c (.sc (.int .i64 0)))⟩]) (.cond (.t 16) ((.seq (.gt false [⟨none,.mv 4 (.c (.sc (.int .i64 (-1))))⟩]) (.ret))) (.skip)))) ((.seq (.gt false [⟨none,.mv 17 (.t 1)⟩,⟨none,.mv 4 (.t 17)⟩]) (.ret))))))))))))
def aa6:gq Try.prog 23=some (18,ab2,[.t 4]):=by kernel_rfl
def ag4:qW Try.prog 80:=DW gB (by kernel_rfl)
def ahl:qS Try.prog 53:=CY gB (by kernel_rfl) ag4
def af0:yh Try.prog 21:=Gw gB (by kernel_rfl) ahl
def ada:gq Try.prog 65=some (21,Qt,[.t 4]):=by kernel_rfl
def ac0:gq Try.prog 38=some (19,Ir 65,[.t 4]):=by kernel_rfl
def abw:gq Try.prog 87=some (19,Q3,[.t 4]):=by kernel_rfl
def abc:gq Try.prog 66=some (19,Ir 87,[.t 4]):=by kernel_rfl
def acX:gq Try.prog 39=some (19,Ir 66,[.t 4]):=by kernel_rfl
def acF:RC:=(.seq (.gt false [⟨none,.box 2 4 (.t 0)⟩,⟨none,.mv 4 (.c (.sc (.int .i64 0)))⟩]) ((.seq (.gt false [⟨none,.fa 5 2 (.t 2)⟩,⟨none,.ld 6 false 1 (.t 5)⟩,⟨none,.mv 7 (.t 1)⟩,⟨none,.Eg 8 38 (.t 6) (.t 7)⟩,⟨none,.mv 1 (.t 8)⟩]) ((.seq (.gt false [⟨none,.fa 9 3 (.t 2)⟩,⟨none,.ld 10 false 1 (.t 9)⟩,⟨none,.mv 11 (.t 1)⟩,⟨none,.Eg 12 39 (.t 10) (.t 11)⟩,⟨none,.mv 1 (.t 12)⟩]) ((.seq (.gt false [⟨none,.mv 13 (.t 1)⟩,⟨none,.mv 4 (.t 13)⟩]) (.ret))))))))
def ac6:gq Try.prog 22=some (14,acF,[.t 4]):=by kernel_rfl
def rc4:RC:=(.seq (.gt false [⟨none,.box 2 2 (.t 0)⟩,⟨none,.box 3 2 (.t 1)⟩,⟨none,.mv 4 (.c (.sc (.bool false)))⟩]) ((.seq (.gt false [⟨none,.mv 5 (.c (.sc (.int .i64 1048576)))⟩]) ((.seq (.gt false [⟨none,.ld 16 true 2 (.t 3)⟩,⟨none,.mv 17 (.t 5)⟩,⟨none,.call (some 18) 14 [(.t 16),(.t 17)]⟩,⟨none,.mv 5 (.t 18)⟩]) ((.seq ((.seq (.gt false [⟨none,.mv 19 (.t 5)⟩,⟨none,.bin 20 .lss (.t 19) (.c (.sc (.int .i64 0)))⟩]) (.cond (.t 20) ((.seq (.gt false [⟨none,.mv 4 (.c (.sc (.bool true)))⟩]) (.ret))) (.skip)))) ((.seq (.gt true [⟨none,.ld 22 true 2 (.t 2)⟩,⟨none,.call (some 23) 16 [(.t 22)]⟩,⟨none,.ld 24 true 2 (.t 3)⟩,⟨none,.call (some 25) 17 [(.t 24)]⟩,⟨none,.call (some 26) 15 [(.t 23),(.t 25)]⟩,⟨none,.mv 21 (.t 26)⟩,⟨none,.ext 27 (.t 21) 0⟩,⟨none,.ext 28 (.t 21) 1⟩,⟨none,.zer 6 4 (.ag [(.sc (.int .i64 0)),(.sc (.int .i64 0)),(.ls (some true) 1 []),(.ls (some true) 1 [])])⟩,⟨none,.st 4 (.t 6) (.t 27)⟩,⟨none,.mv 7 (.t 28)⟩]) ((.seq (.gt false [⟨none,.ld 29 true 2 (.t 3)⟩,⟨none,.call (some 30) 17 [(.t 29)]⟩,⟨none,.zer 8 2 (.ag [(.sc (.int .i64 0)),(.ls (some true) 7 [])])⟩,⟨none,.st 2 (.t 8) (.t 30)⟩]) ((.seq (.gt true [⟨none,.ld 32 true 2 (.t 2)⟩,⟨none,.call (some 33) 16 [(.t 32)]⟩,⟨none,.ld 34 true 2 (.t 8)⟩,⟨none,.call (some 35) 18 [(.t 33),(.t 34)]⟩,⟨none,.mv 31 (.t 35)⟩,⟨none,.ext 36 (.t 31) 0⟩,⟨none,.ext 37 (.t 31) 1⟩,⟨none,.zer 9 4 (.ag [(.sc (.int .i64 0)),(.sc (.int .i64 0)),(.ls (some true) 1 []),(.ls (some true) 1 [])])⟩,⟨none,.st 4 (.t 9) (.t 36)⟩,⟨none,.mv 10 (.t 37)⟩]) ((.seq ((.seq (.gt false [⟨none,.ld 38 true 4 (.t 9)⟩,⟨none,.ld 39 true 4 (.t 6)⟩,⟨none,.call (some 40) 19 [(.t 38),(.t 39)]⟩,⟨none,.un 41 .not (.t 40)⟩,⟨none,.mv 42 (.t 41)⟩,⟨some (42,false),.mv 43 (.t 10)⟩,⟨some (42,false),.mv 44 (.t 7)⟩,⟨some (42,false),.bin 45 .neq (.t 43) (.t 44)⟩,⟨none,.pick 46 (.t 42) (.c (.sc (.bool true))) (.t 45)⟩]) (.cond (.t 46) ((.seq (.gt false [⟨none,.mv 4 (.c (.sc (.bool false)))⟩]) (.ret))) (.skip)))) ((.seq ((.seq (.gt true [⟨none,.ld 47 true 2 (.t 8)⟩,⟨none,.ld 48 true 2 (.t 3)⟩,⟨none,.call (some 49) 17 [(.t 48)]⟩,⟨none,.call (some 50) 20 [(.t 47),(.t 49)]⟩,⟨none,.un 51 .not (.t 50)⟩]) (.cond (.t 51) ((.seq (.gt false [⟨none,.mv 4 (.c (.sc (.bool false)))⟩]) (.ret))) (.skip)))) ((.seq (.gt false [⟨none,.mv 11 (.c (.sc (.int .i64 1)))⟩]) ((.seq (.gt false [⟨none,.ld 52 true 2 (.t 8)⟩,⟨none,.mv 53 (.t 11)⟩,⟨none,.Eg 54 21 (.t 52) (.t 53)⟩,⟨none,.mv 11 (.t 54)⟩]) ((.seq ((.seq (.gt false [⟨none,.mv 55 (.t 11)⟩,⟨none,.bin 56 .lss (.t 55) (.c (.sc (.int .i64 0)))⟩,⟨none,.mv 57 (.t 56)⟩,⟨some (57,false),.ld 58 true 4 (.t 9)⟩,⟨some (57,false),.ld 59 true 4 (.t 6)⟩,⟨some (57,false),.call (some 60) 19 [(.t 58),(.t 59)]⟩,⟨some (57,false),.un 61 .not (.t 60)⟩,⟨none,.pick 62 (.t 57) (.c (.sc (.bool true))) (.t 61)⟩,⟨none,.mv 63 (.t 62)⟩,⟨some (63,false),.mv 64 (.t 10)⟩,⟨some (63,false),.mv 65 (.t 7)⟩,⟨some (63,false),.bin 66 .neq (.t 64) (.t 65)⟩,⟨none,.pick 67 (.t 63) (.c (.sc (.bool true))) (.t 66)⟩]) (.cond (.t 67) ((.seq (.gt false [⟨none,.mv 4 (.c (.sc (.bool false)))⟩]) (.ret))) (.skip)))) ((.seq (.gt false [⟨none,.mv 12 (.c (.sc (.int .i64 1)))⟩]) ((.seq (.gt false [⟨none,.ld 68 true 4 (.t 9)⟩,⟨none,.mv 69 (.t 12)⟩,⟨none,.Eg 70 22 (.t 68) (.t 69)⟩,⟨none,.mv 12 (.t 70)⟩]) ((.seq (.gt false [⟨none,.mv 13 (.c (.sc (.int .i64 1)))⟩]) ((.seq (.gt false [⟨none,.ld 71 true 4 (.t 9)⟩,⟨none,.mv 72 (.t 13)⟩,⟨none,.call (some 73) 23 [(.t 71),(.t 72)]⟩,⟨none,.mv 13 (.t 73)⟩]) ((.seq ((.seq (.gt false [⟨none,.mv 74 (.t 13)⟩,⟨none,.bin 75 .lss (.t 74) (.c (.sc (.int .i64 0)))⟩]) (.cond (.t 75) ((.seq (.gt false [⟨none,.mv 4 (.c (.sc (.bool false)))⟩]) (.ret))) (.skip)))) ((.seq ((.seq (.gt false [⟨none,.mv 76 (.t 13)⟩,⟨none,.mv 77 (.t 12)⟩,⟨none,.bin 78 .neq (.t 76) (.t 77)⟩]) (.cond (.t 78) ((.seq (.gt false [⟨none,.mv 4 (.c (.sc (.bool false)))⟩]) (.ret))) (.skip)))) ((.seq (.gt true [⟨none,.ld 80 true 2 (.t 2)⟩,⟨none,.call (some 81) 16 [(.t 80)]⟩,⟨none,.ld 82 true 2 (.t 3)⟩,⟨none,.call (some 83) 17 [(.t 82)]⟩,⟨none,.call (some 84) 18 [(.t 81),(.t 83)]⟩,⟨none,.mv 79 (.t 84)⟩,⟨none,.ext 85 (.t 79) 0⟩,⟨none,.ext 86 (.t 79) 1⟩,⟨none,.zer 14 4 (.ag [(.sc (.int .i64 0)),(.sc (.int .i64 0)),(.ls (some true) 1 []),(.ls (some true) 1 [])])⟩,⟨none,.st 4 (.t 14) (.t 85)⟩,⟨none,.mv 15 (.t 86)⟩]) ((.seq ((.seq (.gt false [⟨none,.ld 87 true 4 (.t 14)⟩,⟨none,.ld 88 true 4 (.t 6)⟩,⟨none,.call (some 89) 19 [(.t 87),(.t 88)]⟩,⟨none,.un 90 .not (.t 89)⟩,⟨none,.mv 91 (.t 90)⟩,⟨some (91,false),.mv 92 (.t 15)⟩,⟨some (91,false),.mv 93 (.t 7)⟩,⟨some (91,false),.bin 94 .neq (.t 92) (.t 93)⟩,⟨none,.pick 95 (.t 91) (.c (.sc (.bool true))) (.t 94)⟩]) (.cond (.t 95) ((.seq (.gt false [⟨none,.mv 4 (.c (.sc (.bool false)))⟩]) (.ret))) (.skip)))) ((.seq (.gt false [⟨none,.mv 13 (.c (.sc (.int .i64 1)))⟩]) ((.seq (.gt false [⟨none,.ld 96 true 4 (.t 9)⟩,⟨none,.mv 97 (.t 13)⟩,⟨none,.call (some 98) 23 [(.t 96),(.t 97)]⟩,⟨none,.mv 13 (.t 98)⟩]) ((.seq ((.seq (.gt false [⟨none,.mv 99 (.t 13)⟩,⟨none,.bin 100 .lss (.t 99) (.c (.sc (.int .i64 0)))⟩]) (.cond (.t 100) ((.seq (.gt false [⟨none,.mv 4 (.c (.sc (.bool false)))⟩]) (.ret))) (.skip)))) ((.seq ((.seq (.gt false [⟨none,.mv 101 (.t 13)⟩,⟨none,.mv 102 (.t 12)⟩,⟨none,.bin 103 .neq (.t 101) (.t 102)⟩]) (.cond (.t 103) ((.seq (.gt false [⟨none,.mv 4 (.c (.sc (.bool false)))⟩]) (.ret))) (.skip)))) ((.seq (.gt false [⟨none,.mv 4 (.c (.sc (.bool true)))⟩]) (.ret))))))))))))))))))))))))))))))))))))))))))))))))))
def afZ:gq Try.prog 4=some (104,rc4,[.t 4]):=by kernel_rfl
def ab5:gq Try.prog 55=some (12,Mn,[.t 4]):=by kernel_rfl
def adf:gq Try.prog 24=some (27,zr 55 1 false,[.t 4]):=by kernel_rfl
def aba:gq Try.prog 82=some (12,Mn,[.t 4]):=by kernel_rfl
def acr:gq Try.prog 56=some (27,zr 82 1 false,[.t 4]):=by kernel_rfl
def acg:gq Try.prog 25=some (27,zr 56 1 false,[.t 4]):=by kernel_rfl
def rc5:RC:=(.seq (.gt false [⟨none,.box 2 5 (.t 0)⟩,⟨none,.mv 4 (.c (.sc (.int .i64 0)))⟩]) ((.seq (.gt false [⟨none,.fa 5 3 (.t 2)⟩,⟨none,.ld 6 false 1 (.t 5)⟩,⟨none,.mv 7 (.t 1)⟩,⟨none,.call (some 8) 24 [(.t 6),(.t 7)]⟩,⟨none,.mv 1 (.t 8)⟩]) ((.seq ((.seq (.gt false [⟨none,.mv 9 (.t 1)⟩,⟨none,.bin 10 .lss (.t 9) (.c (.sc (.int .i64 0)))⟩]) (.cond (.t 10) ((.seq (.gt false [⟨none,.mv 4 (.c (.sc (.int .i64 (-1))))⟩]) (.ret))) (.skip)))) ((.seq (.gt false [⟨none,.fa 11 4 (.t 2)⟩,⟨none,.ld 12 false 1 (.t 11)⟩,⟨none,.mv 13 (.t 1)⟩,⟨none,.call (some 14) 25 [(.t 12),(.t 13)]⟩,⟨none,.mv 1 (.t 14)⟩]) ((.seq ((.seq (.gt false [⟨none,.mv 15 (.t 1)⟩,⟨none,.bin 16 .lss (.t 15) (.c (.sc (.int .i64 0)))⟩]) (.cond (.t 16) ((.seq (.gt false [⟨none,.mv 4 (.c (.sc (.int .i64 (-1))))⟩]) (.ret))) (.skip)))) ((.seq (.gt false [⟨none,.mv 17 (.t 1)⟩,⟨none,.mv 4 (.t 17)⟩]) (.ret))))))))))))
def agR:gq Try.prog 5=some (18,rc5,[.t 4]):=by kernel_rfl
def abM:gq Try.prog 59=some (22,Oe 1 (.sc (.bool false)),[.t 2]):=by kernel_rfl
def abo:gq Try.prog 28=some (23,zj 59 1 24 false (.ls (some true) 1 []),[.t 2]):=by kernel_rfl
def ado:gq Try.prog 83=some (22,Oe 8 (.sc (.int .i64 0)),[.t 2]):=by kernel_rfl
def acJ:gq Try.prog 60=some (23,zj 83 1 24 false (.ls (some true) 1 []),[.t 2]):=by kernel_rfl
def acC:gq Try.prog 29=some (23,zj 60 1 24 false (.ls (some true) 1 []),[.t 2]):=by kernel_rfl
def rc7:RC:=(.seq (.gt false [⟨none,.box 1 5 (.t 0)⟩,⟨none,.zer 2 5 (.ag [(.sc (.int .i64 0)),(.sc (.int .i64 0)),(.sc (.int .i64 0)),(.ls (some true) 1 []),(.ls (some true) 1 [])])⟩]) ((.seq (.gt false [⟨none,.zer 3 5 (.ag [(.sc (.int .i64 0)),(.sc (.int .i64 0)),(.sc (.int .i64 0)),(.ls (some true) 1 []),(.ls (some true) 1 [])])⟩]) ((.seq (.gt false [⟨none,.fa 4 0 (.t 1)⟩,⟨none,.ld 5 true 2 (.t 4)⟩,⟨none,.call (some 6) 16 [(.t 5)]⟩,⟨none,.fa 7 0 (.t 3)⟩,⟨none,.st 2 (.t 7) (.t 6)⟩]) ((.seq (.gt false [⟨none,.fa 8 2 (.t 1)⟩,⟨none,.ld 9 false 1 (.t 8)⟩,⟨none,.fa 10 2 (.t 3)⟩,⟨none,.st 1 (.t 10) (.t 9)⟩]) ((.seq (.gt false [⟨none,.fa 11 3 (.t 1)⟩,⟨none,.ld 12 false 1 (.t 11)⟩,⟨none,.call (some 13) 28 [(.t 12)]⟩,⟨none,.fa 14 3 (.t 3)⟩,⟨none,.st 1 (.t 14) (.t 13)⟩]) ((.seq (.gt false [⟨none,.fa 15 4 (.t 1)⟩,⟨none,.ld 16 false 1 (.t 15)⟩,⟨none,.call (some 17) 29 [(.t 16)]⟩,⟨none,.fa 18 4 (.t 3)⟩,⟨none,.st 1 (.t 18) (.t 17)⟩]) ((.seq (.gt false [⟨none,.ld 19 true 5 (.t 3)⟩,⟨none,.st 5 (.t 2) (.t 19)⟩]) (.ret))))))))))))))
def af9:gq Try.prog 7=some (20,rc7,[.c 2 5 true]):=by kernel_rfl
def adb:RC:=(.seq (.gt false [⟨none,.box 2 5 (.t 0)⟩,⟨none,.box 3 5 (.t 1)⟩,⟨none,.mv 4 (.c (.sc (.bool false)))⟩]) ((.seq ((.seq (.gt false [⟨none,.fa 5 0 (.t 2)⟩,⟨none,.ld 6 true 2 (.t 5)⟩,⟨none,.fa 7 0 (.t 3)⟩,⟨none,.ld 8 true 2 (.t 7)⟩,⟨none,.call (some 9) 34 [(.t 6),(.t 8)]⟩,⟨none,.un 10 .not (.t 9)⟩]) (.cond (.t 10) ((.seq (.gt false [⟨none,.mv 4 (.c (.sc (.bool false)))⟩]) (.ret))) (.skip)))) ((.seq ((.seq (.gt false [⟨none,.fa 11 2 (.t 2)⟩,⟨none,.ld 12 false 1 (.t 11)⟩,⟨none,.fa 13 2 (.t 3)⟩,⟨none,.ld 14 false 1 (.t 13)⟩,⟨none,.bin 15 .neq (.t 12) (.t 14)⟩]) (.cond (.t 15) ((.seq (.gt false [⟨none,.mv 4 (.c (.sc (.bool false)))⟩]) (.ret))) (.skip)))) ((.seq ((.seq (.gt false [⟨none,.fa 16 3 (.t 2)⟩,⟨none,.ld 17 false 1 (.t 16)⟩,⟨none,.fa 18 3 (.t 3)⟩,⟨none,.ld 19 false 1 (.t 18)⟩,⟨none,.call (some 20) 35 [(.t 17),(.t 19)]⟩,⟨none,.un 21 .not (.t 20)⟩]) (.cond (.t 21) ((.seq (.gt false [⟨none,.mv 4 (.c (.sc (.bool false)))⟩]) (.ret))) (.skip)))) ((.seq ((.seq (.gt false [⟨none,.fa 22 4 (.t 2)⟩,⟨none,.ld 23 false 1 (.t 22)⟩,⟨none,.fa 24 4 (.t 3)⟩,⟨none,.ld 25 false 1 (.t 24)⟩,⟨none,.call (some 26) 37 [(.t 23),(.t 25)]⟩,⟨none,.un 27 .not (.t 26)⟩]) (.cond (.t 27) ((.seq (.gt false [⟨none,.mv 4 (.c (.sc (.bool false)))⟩]) (.ret))) (.skip)))) ((.seq (.gt false [⟨none,.mv 4 (.c (.sc (.bool true)))⟩]) (.ret))))))))))))
def abA:gq Try.prog 10=some (28,adb,[.t 4]):=by kernel_rfl
noncomputable def kp:Gr Try.prog eE 88 92 97:=afR gB abv ach ack Yx abL Wf
def zR(x):kp.t x=tE x:=rfl
noncomputable def sM (m:Sp):Int→Int:=fun l=>nx (kp.s m.2.2.1 l) (fun l=>l)
def Bk(m:Sp):Prop:=kp.fit m.2.2.1
noncomputable def DI (m:Sp):Sp:=(m.1,m.2.1,kp.t m.2.2.1,m.2.2.2.1,m.2.2.2.2)
noncomputable def qv (a b:Sp):Bool:=((a.1==b.1)&&((a.2.1==b.2.1)&&(kp.q a.2.2.1 b.2.2.1&&((a.2.2.2.1==b.2.2.2.1)&&(a.2.2.2.2==b.2.2.2.2)))))
def JG(m:Sp)(l:Int)(h1:0≤l)(h2:l≤1048576): -1≤sM m l∧sM m l≤l:=by
 refine De (aI l) (CT (kp.oh m.2.2.1 l h1 (by omega)) h1 (by omega) fun y0 a0 b0=>?_);exact⟨by omega,b0⟩
def Gj(m:Sp)(l:Int)(h2:l≤1048576)(h1:0≤l)(h:0≤sM m l):Bk m:=by
 obtain⟨p0,h⟩:=pL h;have e0:=kp.uw m.2.2.1 l (by omega) h1 p0;have b0:=kp.oh m.2.2.1 l h1 (by omega);exact e0
def agQ(m:Sp)(l:Int)(h1:0≤l)(h2:l≤1048576):AF Try.prog 68 [jg m,eI l] (.own (eI (sM m l))):=by
 refine fH abJ gB rfl fun _=>?_;simp+contextual-implicitDefEqProofs only[abI,jg,go_sem,eI,eB,Nat.reduceMul,Nat.reduceSub];refine fy ?_ (kp.UV m.2.2.1 l (by omega) (by omega)) ?_
 ·first|exact rfl|(simp only[gV];exact rfl)
 simp+contextual-implicitDefEqProofs only[jg,go_sem,eI,eB,Nat.reduceMul,Nat.reduceSub];have b0:=kp.oh m.2.2.1 l (by omega) (by omega);refine⟨fun h=>D.Le.gm (by simp only[sM];rw[qP h]),fun g0=>?_⟩;exact D.Le.gm (by simp only[sM];rw[mV g0])
def ahk(m:Sp)(h:Bk m):AF Try.prog 74 [jg m] (.own (jg (DI m))):=by
 refine fH acD gB rfl fun _=>?_;simp+contextual-implicitDefEqProofs only[acP,jg,DI,zR,VB,abN,abR,Vz,VD,go_sem,eI,eB,Nat.reduceMul,Nat.reduceSub];refine fy ?_ (kp.UW m.2.2.1 h) ?_
 ·first|exact rfl|(simp only[gV];exact rfl)
 simp+contextual-implicitDefEqProofs only[jg,DI,zR,VB,abN,abR,Vz,VD,go_sem,eI,eB,Nat.reduceMul,Nat.reduceSub]
def af8(a b:Sp):AF Try.prog 79 [jg a,jg b] (.own (eB (qv a b))):=by
 refine fH aci gB rfl fun _=>?_;cases e0:(a.1==b.1);simp+contextual-implicitDefEqProofs only[Uk,qv,bne,bT,bN,bI,bG,bU,bJ,jg,e0,go_sem,eI,eB,Nat.reduceMul,Nat.reduceSub];cases e1:(a.2.1==b.2.1);simp+contextual-implicitDefEqProofs only[Uk,qv,bne,bT,bN,bI,bG,bU,bJ,jg,e0,e1,go_sem,eI,eB,Nat.reduceMul,Nat.reduceSub];simp+contextual-implicitDefEqProofs only[Uk,qv,bne,bT,bN,bI,bG,bU,bJ,jg,e0,e1,go_sem,eI,eB,Nat.reduceMul,Nat.reduceSub];refine fy ?_ (kp.PM a.2.2.1 b.2.2.1) ?_
 ·first|exact rfl|(simp only[gV];exact rfl)
 cases e2:kp.q a.2.2.1 b.2.2.1;simp+contextual-implicitDefEqProofs only[qv,bne,bT,bN,bI,bG,bU,bJ,jg,e0,e1,e2,go_sem,eI,eB,Nat.reduceMul,Nat.reduceSub];cases e3:(a.2.2.2.1==b.2.2.2.1);simp+contextual-implicitDefEqProofs only[qv,bne,bT,bN,bI,bG,bU,bJ,jg,e0,e1,e2,e3,go_sem,eI,eB,Nat.reduceMul,Nat.reduceSub];cases e4:(a.2.2.2.2==b.2.2.2.2);simp+contextual-implicitDefEqProofs only[qv,bne,bT,bN,bI,bG,bU,bJ,jg,e0,e1,e2,e3,e4,go_sem,eI,eB,Nat.reduceMul,Nat.reduceSub];simp+contextual-implicitDefEqProofs only[qv,bne,bT,bN,bI,bG,bU,bJ,jg,e0,e1,e2,e3,e4,go_sem,eI,eB,Nat.reduceMul,Nat.reduceSub]
def E6(m:Sp):qv m m=true:=by simp[qv,kp.om]
noncomputable def Bq:Gr Try.prog jg 68 74 79:=⟨sM,DI,qv,Bk,JG,Gj,E6,agQ,ahk,af8⟩
def aaE(x):Bq.t x=DI x:=rfl
noncomputable def jG:Gr Try.prog (eS 7 jg) 43 46 52:=SA gB Bq xP ⟨rfl,rfl,rfl⟩ (by omega) aaZ adl aca
def xZ(x):jG.t x=(some false,x.2.map Bq.t):=rfl
noncomputable def sZ (m:Fl):Int→Int:=fun l=>nx (jG.s m.2 l) (fun l=>l)
def Bd(m:Fl):Prop:=jG.fit m.2
noncomputable def Dm (m:Fl):Fl:=(m.1,jG.t m.2)
noncomputable def vX (a b:Fl):Bool:=((a.1==b.1)&&jG.q a.2 b.2)
def IU(m:Fl)(l:Int)(h1:0≤l)(h2:l≤1048576): -1≤sZ m l∧sZ m l≤l:=by
 refine De (aI l) (CT (jG.oh m.2 l h1 (by omega)) h1 (by omega) fun y0 a0 b0=>?_);exact⟨by omega,b0⟩
def E7(m:Fl)(l:Int)(h2:l≤1048576)(h1:0≤l)(h:0≤sZ m l):Bd m:=by
 obtain⟨p0,h⟩:=pL h;have e0:=jG.uw m.2 l (by omega) h1 p0;have b0:=jG.oh m.2 l h1 (by omega);exact e0
def afD(m:Fl)(l:Int)(h1:0≤l)(h2:l≤1048576):AF Try.prog 14 [jz m,eI l] (.own (eI (sZ m l))):=by
 refine fH abz gB rfl fun _=>?_;simp+contextual-implicitDefEqProofs only[aa1,jz,eS,go_sem,eI,eB,Nat.reduceMul,Nat.reduceSub];refine fy ?_ (jG.UV m.2 l (by omega) (by omega)) ?_
 ·first|exact rfl|(simp only[gV];exact rfl)
 simp+contextual-implicitDefEqProofs only[jz,eS,go_sem,eI,eB,Nat.reduceMul,Nat.reduceSub];have b0:=jG.oh m.2 l (by omega) (by omega);refine⟨fun h=>D.Le.gm (by simp only[sZ];rw[qP h]),fun g0=>?_⟩;exact D.Le.gm (by simp only[sZ];rw[mV g0])
def ahm(m:Fl)(h:Bd m):AF Try.prog 17 [jz m] (.own (jz (Dm m))):=by
 refine fH abV gB rfl fun _=>?_;simp+contextual-implicitDefEqProofs only[acs,jz,eS,Dm,xZ,go_sem,eI,eB,Nat.reduceMul,Nat.reduceSub];refine fy ?_ (jG.UW m.2 h) ?_
 ·first|exact rfl|(simp only[gV];exact rfl)
 simp+contextual-implicitDefEqProofs only[jz,eS,Dm,xZ,go_sem,eI,eB,Nat.reduceMul,Nat.reduceSub]
def agZ(a b:Fl):AF Try.prog 20 [jz a,jz b] (.own (eB (vX a b))):=by
 refine fH acI gB rfl fun _=>?_;cases e0:(a.1==b.1);simp+contextual-implicitDefEqProofs only[Xh,vX,bne,bT,bN,bI,bG,bU,bJ,jz,eS,e0,go_sem,eI,eB,Nat.reduceMul,Nat.reduceSub];simp+contextual-implicitDefEqProofs only[Xh,vX,bne,bT,bN,bI,bG,bU,bJ,jz,eS,e0,go_sem,eI,eB,Nat.reduceMul,Nat.reduceSub];refine fy ?_ (jG.PM a.2 b.2) ?_
 ·first|exact rfl|(simp only[gV];exact rfl)
 cases e1:jG.q a.2 b.2;simp+contextual-implicitDefEqProofs only[vX,bne,bT,bN,bI,bG,bU,bJ,jz,eS,e0,e1,go_sem,eI,eB,Nat.reduceMul,Nat.reduceSub];simp+contextual-implicitDefEqProofs only[vX,bne,bT,bN,bI,bG,bU,bJ,jz,eS,e0,e1,go_sem,eI,eB,Nat.reduceMul,Nat.reduceSub]
def FM(m:Fl):vX m m=true:=by simp[vX,jG.om]
noncomputable def jR:Gr Try.prog jz 14 17 20:=⟨sZ,Dm,vX,Bd,IU,E7,FM,afD,ahm,agZ⟩
def aay(x):jR.t x=Dm x:=rfl
noncomputable def px:Gr Try.prog (eS 1 eB) 55 59 63:=abS gB afW noB ⟨rfl,rfl,rfl⟩ (by omega) ab5 abM (uz fun x y=>x==y) (fun _=>qI fun _ _=>by simp) fun a b=>Zr gB acV a b
def Wu(x):px.t x=(some false,x.2):=rfl
noncomputable def gE:Gr Try.prog (eS 1 (eS 1 eB)) 24 28 35:=SA gB px (IN eB 1) ⟨rfl,rfl,rfl⟩ (by omega) adf abo aa3
def oM(x):gE.t x=(some false,x.2.map px.t):=rfl
noncomputable def nF:Gr Try.prog (eS 1 eI) 82 83 86:=abS gB afX noI ⟨rfl,rfl,rfl⟩ (by omega) aba ado (uz fun x y=>x==y) (fun _=>qI fun _ _=>by simp) fun a b=>Zc gB adp a b
def Vs(x):nF.t x=(some false,x.2):=rfl
noncomputable def mr:Gr Try.prog (eS 1 (eS 1 eI)) 56 60 64:=SA gB nF (IN eI 1) ⟨rfl,rfl,rfl⟩ (by omega) acr acJ aa0
def Rh(x):mr.t x=(some false,x.2.map nF.t):=rfl
noncomputable def gA:Gr Try.prog (eS 1 (eS 1 (eS 1 eI))) 25 29 37:=SA gB mr (IN (eS 1 eI) 1) ⟨rfl,rfl,rfl⟩ (by omega) acg acC abe
def mB(x):gA.t x=(some false,x.2.map mr.t):=rfl
noncomputable def oC (m:Co):Int→Int:=fun l=>nx (gE.s m.2.2.1 l) (fun l=>nx (gA.s m.2.2.2 l) (fun l=>l))
def yl(m:Co):Prop:=gE.fit m.2.2.1∧gA.fit m.2.2.2
noncomputable def sK (m:Co):Co:=(m.1,m.2.1,gE.t m.2.2.1,gA.t m.2.2.2)
noncomputable def mU (a b:Co):Bool:=(qG a.1 b.1&&((a.2.1==b.2.1)&&(gE.q a.2.2.1 b.2.2.1&&gA.q a.2.2.2 b.2.2.2)))
def Gv(m:Co)(l:Int)(h1:0≤l)(h2:l≤1048576): -1≤oC m l∧oC m l≤l:=by
 refine De (aI l) (CT (gE.oh m.2.2.1 l h1 (by omega)) h1 (by omega) fun y0 a0 b0=>?_);refine De b0 (CT (gA.oh m.2.2.2 y0 a0 (by omega)) a0 (by omega) fun y1 a1 b1=>?_);exact⟨by omega,b1⟩
def Dk(m:Co)(l:Int)(h2:l≤1048576)(h1:0≤l)(h:0≤oC m l):yl m:=by
 obtain⟨p0,h⟩:=pL h;have e0:=gE.uw m.2.2.1 l (by omega) h1 p0;have b0:=gE.oh m.2.2.1 l h1 (by omega);obtain⟨p1,h⟩:=pL h;have e1:=gA.uw m.2.2.2 _ (by omega) p0 p1;have b1:=gA.oh m.2.2.2 (gE.s m.2.2.1 l) p0 (by omega);exact⟨e0,e1⟩
def af5(m:Co)(l:Int)(h1:0≤l)(h2:l≤1048576):AF Try.prog 5 [zi m,eI l] (.own (eI (oC m l))):=by
 refine fH agR gB rfl fun _=>?_;simp+contextual-implicitDefEqProofs only[rc5,zi,eG,eS,go_sem,eI,eB,Nat.reduceMul,Nat.reduceSub];refine fy ?_ (gE.UV m.2.2.1 l (by omega) (by omega)) ?_
 ·first|exact rfl|(simp only[gV];exact rfl)
 simp+contextual-implicitDefEqProofs only[zi,eG,eS,go_sem,eI,eB,Nat.reduceMul,Nat.reduceSub];have b0:=gE.oh m.2.2.1 l (by omega) (by omega);refine⟨fun h=>D.Le.gm (by simp only[oC];rw[qP h]),fun g0=>?_⟩;refine fy ?_ (gA.UV m.2.2.2 (gE.s m.2.2.1 l) (by omega) (by omega)) ?_
 ·first|exact rfl|(simp only[gV];exact rfl)
 simp+contextual-implicitDefEqProofs only[zi,eG,eS,go_sem,eI,eB,Nat.reduceMul,Nat.reduceSub];have b1:=gA.oh m.2.2.2 (gE.s m.2.2.1 l) (by omega) (by omega);refine⟨fun h=>D.Le.gm (by simp only[oC];rw[mV g0,qP h]),fun g1=>?_⟩;exact D.Le.gm (by simp only[oC];rw[mV g0,mV g1])
def af7(m:Co)(h:yl m):AF Try.prog 7 [zi m] (.own (zi (sK m))):=by
 refine fH af9 gB rfl fun _=>?_;simp+contextual-implicitDefEqProofs only[rc7,zi,eG,eS,sK,oM,mB,go_sem,eI,eB,Nat.reduceMul,Nat.reduceSub];refine fy ?_ (Su m.1) ?_
 ·first|exact rfl|(simp only[gV];exact rfl)
 simp+contextual-implicitDefEqProofs only[zi,eG,eS,sK,oM,mB,go_sem,eI,eB,Nat.reduceMul,Nat.reduceSub];refine fy ?_ (gE.UW m.2.2.1 h.1) ?_
 ·first|exact rfl|(simp only[gV];exact rfl)
 simp+contextual-implicitDefEqProofs only[zi,eG,eS,sK,oM,mB,go_sem,eI,eB,Nat.reduceMul,Nat.reduceSub];refine fy ?_ (gA.UW m.2.2.2 h.2) ?_
 ·first|exact rfl|(simp only[gV];exact rfl)
 simp+contextual-implicitDefEqProofs only[zi,eG,eS,sK,oM,mB,go_sem,eI,eB,Nat.reduceMul,Nat.reduceSub]
def agn(a b:Co):AF Try.prog 10 [zi a,zi b] (.own (eB (mU a b))):=by
 refine fH abA gB rfl fun _=>?_;simp+contextual-implicitDefEqProofs only[adb,mU,bne,bT,bN,bI,bG,bU,bJ,zi,eG,eS,go_sem,eI,eB,Nat.reduceMul,Nat.reduceSub];refine fy ?_ (aa2 a.1 b.1) ?_
 ·first|exact rfl|(simp only[gV];exact rfl)
 cases e0:qG a.1 b.1;simp+contextual-implicitDefEqProofs only[mU,bne,bT,bN,bI,bG,bU,bJ,zi,eG,eS,e0,go_sem,eI,eB,Nat.reduceMul,Nat.reduceSub];cases e1:(a.2.1==b.2.1);simp+contextual-implicitDefEqProofs only[mU,bne,bT,bN,bI,bG,bU,bJ,zi,eG,eS,e0,e1,go_sem,eI,eB,Nat.reduceMul,Nat.reduceSub];simp+contextual-implicitDefEqProofs only[mU,bne,bT,bN,bI,bG,bU,bJ,zi,eG,eS,e0,e1,go_sem,eI,eB,Nat.reduceMul,Nat.reduceSub];refine fy ?_ (gE.PM a.2.2.1 b.2.2.1) ?_
 ·first|exact rfl|(simp only[gV];exact rfl)
 cases e2:gE.q a.2.2.1 b.2.2.1;simp+contextual-implicitDefEqProofs only[mU,bne,bT,bN,bI,bG,bU,bJ,zi,eG,eS,e0,e1,e2,go_sem,eI,eB,Nat.reduceMul,Nat.reduceSub];simp+contextual-implicitDefEqProofs only[mU,bne,bT,bN,bI,bG,bU,bJ,zi,eG,eS,e0,e1,e2,go_sem,eI,eB,Nat.reduceMul,Nat.reduceSub];refine fy ?_ (gA.PM a.2.2.2 b.2.2.2) ?_
 ·first|exact rfl|(simp only[gV];exact rfl)
 cases e3:gA.q a.2.2.2 b.2.2.2;simp+contextual-implicitDefEqProofs only[mU,bne,bT,bN,bI,bG,bU,bJ,zi,eG,eS,e0,e1,e2,e3,go_sem,eI,eB,Nat.reduceMul,Nat.reduceSub];simp+contextual-implicitDefEqProofs only[mU,bne,bT,bN,bI,bG,bU,bJ,zi,eG,eS,e0,e1,e2,e3,go_sem,eI,eB,Nat.reduceMul,Nat.reduceSub]
def DF(m:Co):mU m m=true:=by simp[mU,qG,gE.om,gA.om]
noncomputable def Nf:Gr Try.prog zi 5 7 10:=⟨oC,sK,mU,yl,Gv,Dk,DF,af5,af7,agn⟩
def Yg(x):Nf.t x=sK x:=rfl
noncomputable def wj (m:Au):Int→Int:=fun l=>nx (gE.s m.2.1 l) (fun l=>nx (gA.s m.2.2 l) (fun l=>l))
noncomputable def x8 (m:Au):Au:=(m.1,gE.t m.2.1,gA.t m.2.2)
noncomputable def jr (a b:Au):Bool:=(qG a.1 b.1&&(gE.q a.2.1 b.2.1&&gA.q a.2.2 b.2.2))
def agv(a b:Au):AF Try.prog 19 [kK a,kK b] (.own (eB (jr a b))):=by
 refine fH ab9 gB rfl fun _=>?_;simp+contextual-implicitDefEqProofs only[adj,jr,bne,bT,bN,bI,bG,bU,bJ,kK,eG,eS,go_sem,eI,eB,Nat.reduceMul,Nat.reduceSub];refine fy ?_ (aa2 a.1 b.1) ?_
 ·first|exact rfl|(simp only[gV];exact rfl)
 cases e0:qG a.1 b.1;simp+contextual-implicitDefEqProofs only[jr,bne,bT,bN,bI,bG,bU,bJ,kK,eG,eS,e0,go_sem,eI,eB,Nat.reduceMul,Nat.reduceSub];simp+contextual-implicitDefEqProofs only[jr,bne,bT,bN,bI,bG,bU,bJ,kK,eG,eS,e0,go_sem,eI,eB,Nat.reduceMul,Nat.reduceSub];refine fy ?_ (gE.PM a.2.1 b.2.1) ?_
 ·first|exact rfl|(simp only[gV];exact rfl)
 cases e1:gE.q a.2.1 b.2.1;simp+contextual-implicitDefEqProofs only[jr,bne,bT,bN,bI,bG,bU,bJ,kK,eG,eS,e0,e1,go_sem,eI,eB,Nat.reduceMul,Nat.reduceSub];simp+contextual-implicitDefEqProofs only[jr,bne,bT,bN,bI,bG,bU,bJ,kK,eG,eS,e0,e1,go_sem,eI,eB,Nat.reduceMul,Nat.reduceSub];refine fy ?_ (gA.PM a.2.2 b.2.2) ?_
 ·first|exact rfl|(simp only[gV];exact rfl)
 cases e2:gA.q a.2.2 b.2.2;simp+contextual-implicitDefEqProofs only[jr,bne,bT,bN,bI,bG,bU,bJ,kK,eG,eS,e0,e1,e2,go_sem,eI,eB,Nat.reduceMul,Nat.reduceSub];simp+contextual-implicitDefEqProofs only[jr,bne,bT,bN,bI,bG,bU,bJ,kK,eG,eS,e0,e1,e2,go_sem,eI,eB,Nat.reduceMul,Nat.reduceSub]
def wB(m:Au):jr m m=true:=by simp[jr,gE.om,gA.om,qG]
def zd(a b:Au):AF Try.prog 19 [kK a,kK b] (.own (eB (jr a b))):=agv a b
noncomputable def Rz:zg Try.prog (eS 1 eB) px.s px.t 65 67:=hfB gB (fun _ _=>rfl) (fun _=>rfl) ada aa9
noncomputable def iK:zg Try.prog (eS 1 (eS 1 eB)) gE.s gE.t 38 41:=hfC gB px (IN eB 1) Rz (fun _=>rfl) ac0 acZ
noncomputable def NU:zg Try.prog (eS 1 eI) nF.s nF.t 87 98:=hfI gB (fun _ _=>rfl) (fun _=>rfl) abw adi
noncomputable def J6:zg Try.prog (eS 1 (eS 1 eI)) mr.s mr.t 66 81:=hfC gB nF (IN eI 1) NU (fun _=>rfl) abc acM
noncomputable def jO:zg Try.prog (eS 1 (eS 1 (eS 1 eI))) gA.s gA.t 39 54:=hfC gB mr (IN (eS 1 eI) 1) J6 (fun _=>rfl) acX abF
noncomputable def jF (m:Au) (k:Int):Au:=(m.1,iK.H3 m.2.1 k,jO.H3 m.2.2 (k+iK.cnt m.2.1))
noncomputable def jj (m:Au):Nat:=iK.cnt m.2.1+jO.cnt m.2.2
def BI(m:Au)(k:Int)(h0:0≤k)(h1:k+jj m≤kL):Cr Try.prog 22 (kK m) k (kK (jF m k)) (k+jj m):=by
 unfold jj at h1⊢;refine MJ ac6 (by omega) rfl fun UX=>?_;simp+contextual-implicitDefEqProofs only[acF,kK,eG,eS,eI,D.at,D.sub,D.put,D.cells,D.size,D.f6,D.fK,go_sem,eB,Nat.reduceMul,Nat.reduceSub,iL,lM,iN];refine nC (e':=eS 1 (eS 1 eB) (iK.H3 m.2.1 k)) (n':=k+iK.cnt m.2.1) ?_ rfl (.inr rfl) ?_;exact iK.V5 m.2.1 k (by omega) (by omega);simp+contextual-implicitDefEqProofs only[kK,eG,eS,eI,D.at,D.sub,D.put,D.cells,D.size,D.f6,D.fK,jF,go_sem,eB,Nat.reduceMul,Nat.reduceSub,iL,lM,iN];refine nC (e':=eS 1 (eS 1 (eS 1 eI)) (jO.H3 m.2.2 (k+iK.cnt m.2.1))) (n':=k+iK.cnt m.2.1+jO.cnt m.2.2) ?_ rfl (.inr rfl) ?_;exact jO.V5 m.2.2 (k+iK.cnt m.2.1) (by omega) (by omega);simp+contextual-implicitDefEqProofs only[kK,eG,eS,eI,D.at,D.sub,D.put,D.cells,D.size,D.f6,D.fK,jF,go_sem,eB,Nat.reduceMul,Nat.reduceSub,iL,lM,iN]
 try simp only[Int.natCast_add,Int.add_assoc]
 try trivial
def BP(m:Au)(k:Int)(h0:0≤k)(h1:k+jj m≤kL):AF Try.prog 23 [kK (jF m k),eI k] (.own (eI (k+jj m))):=by
 unfold jj at h1⊢;unfold kL at h1;refine fH aa6 gB rfl fun UX=>?_;simp+contextual-implicitDefEqProofs only[ab2,kK,eG,eS,jF,eI,D.at,D.sub,D.put,D.cells,D.size,D.f6,D.fK,go_sem,eB,Nat.reduceMul,Nat.reduceSub,iL,lM,iN];refine fy (ds:=[eS 1 (eS 1 eB) (iK.H3 m.2.1 k),eI k]) (by rfl) (iK.V6 m.2.1 k (by omega) (by unfold kL;omega)) ?_;have n0:¬(k+iK.cnt m.2.1<0):=by omega
 simp+contextual-implicitDefEqProofs only[n0,kK,eG,eS,jF,eI,D.at,D.sub,D.put,D.cells,D.size,D.f6,D.fK,go_sem,eB,Nat.reduceMul,Nat.reduceSub,iL,lM,iN];refine fy (ds:=[eS 1 (eS 1 (eS 1 eI)) (jO.H3 m.2.2 (k+iK.cnt m.2.1)),eI (k+iK.cnt m.2.1)]) (by rfl) (jO.V6 m.2.2 (k+iK.cnt m.2.1) (by omega) (by unfold kL;omega)) ?_;have n1:¬(k+iK.cnt m.2.1+jO.cnt m.2.2<0):=by omega
 simp+contextual-implicitDefEqProofs only[n1,kK,eG,eS,jF,eI,D.at,D.sub,D.put,D.cells,D.size,D.f6,D.fK,go_sem,eB,Nat.reduceMul,Nat.reduceSub,iL,lM,iN]
 try exact D.Le.gm (by simp only[Int.natCast_add,Int.add_assoc])
noncomputable def mI:zg Try.prog kK wj x8 22 23 where
 H3:=jF
 cnt:=jj
 yU m l h1 h2 h:=by
  unfold wj at h⊢;unfold jj;obtain⟨p0,h⟩:=pL h;rw[mV (by omega)];have b0:=gE.oh m.2.1 l (by omega) (by omega);have c0:=iK.yU m.2.1 l (by omega) (by omega) p0;obtain⟨p1,h⟩:=pL h;rw[mV (by omega)];have b1:=gA.oh m.2.2 (gE.s m.2.1 l) (by omega) (by omega);have c1:=jO.yU m.2.2 (gE.s m.2.1 l) (by omega) (by omega) p1
  push_cast
  omega
 yV m:=by unfold jj x8;simp only[iK.yV,jO.yV]
 V5:=BI
 V6:=BP
def acm(g:Int×Int)(f:Fl):∃au:Au,xR (FP g f).1.1 (FP g f).1.2.1 (FP g f).1.2.2=kK au∧mI.cnt au≤2000000000:=by
 refine⟨_,Uw _ _ _,?_⟩;unfold FP
 split
 ·next i9=>
  have hS:=(ph i9).1;have hg:=pS hS.ok;have nl:=xX hS.ok;have hl:=G7 g f;have hr:=yn (xs:=f.2.2) (M:=(kO g).toNat) (C:=g.2.toNat) (k:=f.2.2.length) (i:=0) (st:=[f.1]) (A:=[]) (N:=[]) (by simp) (by simp);have hx:=hS.len;have h1:gi (fun x:SL Bool=>x.2.length) ((Hl g f).1.map fun r=>(some false,r))≤_:=oN (b:=8) (fun x hx=>by
   obtain⟨r,wL,rfl⟩:=aR.1 hx;have:=hr.1 r wL
   show r.length≤8
   omega)
  have h2:gi (fun x:SL (SL Int)=>gi (fun x:SL Int=>x.2.length) x.2) ((Hl g f).2.map fun q=>(some false,q.map fun r=>(some false,r)))≤_:=oN (b:=32) (fun x hx=>by
   obtain⟨q,ov,rfl⟩:=aR.1 hx;have h3:=hr.2 q ov;have h4:gi (fun x:SL Int=>x.2.length) (q.map fun r=>(some false,r))≤_:=oN (b:=4) (fun x hx=>by
    obtain⟨r,wL,rfl⟩:=aR.1 hx;have:=h3.2 r wL
    show r.length≤4
    omega)
   simp only[lM]at h4;have:q.length≤8:=by omega
   show gi (fun x:SL Int=>x.2.length) (q.map fun r=>(some false,r))≤32
   omega)
  simp only[lM]at h1 h2
  show gi (fun x:SL Bool=>x.2.length) ((Hl g f).1.map fun r=>(some false,r))+gi (fun x:SL (SL Int)=>gi (fun x:SL Int=>x.2.length) x.2) ((Hl g f).2.map fun q=>(some false,q.map fun r=>(some false,r)))≤2000000000
  omega
 show(0:Nat)+0≤2000000000
 omega
def law(g:Int×Int)(f:Fl):AF Try.prog 4 [eG g,jz f] (.own (eB true)):=by
 refine fH afZ gB rfl fun UX=>?_;simp+contextual-implicitDefEqProofs only[rc4,eG,kK,jz,eS,bc,go_sem,eI,eB,Nat.reduceMul,Nat.reduceSub];refine fy (ds:=[jz f,eI 1048576]) ?_ (jR.UV f 1048576 (by omega) (by omega)) ?_;simp only[eG,kK,jz,eS,bc];exact rfl;simp+contextual-implicitDefEqProofs only[eG,kK,jz,eS,bc,go_sem,eI,eB,Nat.reduceMul,Nat.reduceSub];have sb0:=jR.oh f 1048576 (by omega) (by omega);refine fun jD=>?_;have hf0:=jR.uw f 1048576 (by omega) (by omega) (by omega);refine fy (ds:=[eG g]) ?_ (Su g) ?_;simp only[eG,kK,jz,eS,bc];exact rfl;simp+contextual-implicitDefEqProofs only[eG,kK,jz,eS,bc,go_sem,eI,eB,Nat.reduceMul,Nat.reduceSub];have hto:=jR.UW f hf0;have HW:=agf g (jR.t f);have zx:=ags g (jR.t f);have hqP:=jR.PM (jR.t f) (jR.t f);rw[jR.om]at hqP;have Eq:(gi ik (jR.t f).2.2:Nat)≤8388608:=by
  have h:=Nt f (Int.not_lt.1 jD);have e:gi ik (jR.t f).2.2=gi ik f.2.2:=Ln tE Ow f.2.2;rw[e];exact h
 obtain⟨au,hau,hcA⟩:=acm g (jR.t f);rw[hau]at HW zx;generalize (FP g (jR.t f)).2=c at HW zx;generalize jR.t f=wF at hto HW zx hqP Eq;obtain⟨ws,wnn,V7⟩:=wF;have hM0:=af0 ws wnn V7 1 (by omega) (by simp only at Eq;unfold kL;omega);have hqF:=zd au au;rw[wB]at hqF;have hM1:=mI.V5 au 1 (by omega) (by unfold kL;omega);have hH1:=mI.V6 au 1 (by omega) (by unfold kL;omega);simp only at Eq;generalize gi ik V7=cP at hM0 Eq;generalize pU xH ik V7 1=ys at hM0;generalize mI.cnt au=cR at hM1 hH1 hcA;generalize mI.H3 au 1=mR at hM1 hH1;have hk0:¬(1+(cP:Int)<0):=by omega
 have La:¬(1+(cR:Int)<0):=by omega
 refine fy (ds:=[jz f]) ?_ (hto) ?_;simp only[eG,kK,jz,eS,bc];exact rfl;simp+contextual-implicitDefEqProofs only[eG,kK,jz,eS,bc,go_sem,eI,eB,Nat.reduceMul,Nat.reduceSub];refine fy (ds:=[eG g,jz (ws,(wnn,V7))]) ?_ (HW) ?_;simp only[eG,kK,jz,eS,bc];exact rfl;simp+contextual-implicitDefEqProofs only[eG,kK,jz,eS,bc,go_sem,eI,eB,Nat.reduceMul,Nat.reduceSub];refine fy (ds:=[jz f]) ?_ (hto) ?_;simp only[eG,kK,jz,eS,bc];exact rfl;simp+contextual-implicitDefEqProofs only[eG,kK,jz,eS,bc,go_sem,eI,eB,Nat.reduceMul,Nat.reduceSub];refine fy (ds:=[eG g]) ?_ (Su g) ?_;simp only[eG,kK,jz,eS,bc];exact rfl;simp+contextual-implicitDefEqProofs only[eG,kK,jz,eS,bc,go_sem,eI,eB,Nat.reduceMul,Nat.reduceSub];refine fy (ds:=[eG g,jz (ws,(wnn,V7))]) ?_ (zx) ?_;simp only[eG,kK,jz,eS,bc];exact rfl;simp+contextual-implicitDefEqProofs only[eG,kK,jz,eS,bc,go_sem,eI,eB,Nat.reduceMul,Nat.reduceSub];refine fy (ds:=[kK au,kK au]) ?_ (hqF) ?_;simp only[eG,kK,jz,eS,bc];exact rfl;simp+contextual-implicitDefEqProofs only[bT,eG,kK,jz,eS,bc,go_sem,eI,eB,Nat.reduceMul,Nat.reduceSub];refine fy (ds:=[jz f]) ?_ (hto) ?_;simp only[eG,kK,jz,eS,bc];exact rfl;simp+contextual-implicitDefEqProofs only[eG,kK,jz,eS,bc,go_sem,eI,eB,Nat.reduceMul,Nat.reduceSub];refine fy (ds:=[jz (ws,(wnn,V7)),jz (ws,(wnn,V7))]) ?_ (hqP) ?_;simp only[eG,kK,jz,eS,bc];exact rfl
 simp+contextual-implicitDefEqProofs only[bT,eG,kK,jz,eS,bc,go_sem,eI,eB,Nat.reduceMul,Nat.reduceSub];refine⟨jz (ws,(wnn,ys)),1+cP,hM0,⟨rfl,fun _=>rfl,rfl⟩,?_⟩;simp+contextual-implicitDefEqProofs only[hk0,jz,kK,eG,eS,eI,eB,D.at,D.sub,D.put,D.cells,D.size,D.f6,D.fK,bc,go_sem,Nat.reduceMul,Nat.reduceSub];refine fy (ds:=[kK au,kK au]) ?_ (hqF) ?_;simp only[eG,kK,jz,eS,bc];exact rfl;simp+contextual-implicitDefEqProofs only[bT,eG,kK,jz,eS,bc,go_sem,eI,eB,Nat.reduceMul,Nat.reduceSub];refine⟨kK mR,1+cR,hM1,⟨rfl,fun _=>rfl,rfl⟩,?_⟩;simp+contextual-implicitDefEqProofs only[jz,kK,eG,eS,eI,eB,D.at,D.sub,D.put,D.cells,D.size,D.f6,D.fK,bc,go_sem,Nat.reduceMul,Nat.reduceSub];refine fy (ds:=[kK mR,eI 1]) ?_ (hH1) ?_;simp only[eG,kK,jz,eS,bc];exact rfl;simp+contextual-implicitDefEqProofs only[La,eG,kK,jz,eS,bc,go_sem,eI,eB,Nat.reduceMul,Nat.reduceSub];refine fy (ds:=[eG g]) ?_ (Su g) ?_;simp only[eG,kK,jz,eS,bc];exact rfl;simp+contextual-implicitDefEqProofs only[eG,kK,jz,eS,bc,go_sem,eI,eB,Nat.reduceMul,Nat.reduceSub];refine fy (ds:=[jz f]) ?_ (hto) ?_;simp only[eG,kK,jz,eS,bc];exact rfl;simp+contextual-implicitDefEqProofs only[eG,kK,jz,eS,bc,go_sem,eI,eB,Nat.reduceMul,Nat.reduceSub];refine fy (ds:=[eG g,jz (ws,(wnn,V7))]) ?_ (zx) ?_;simp only[eG,kK,jz,eS,bc];exact rfl
 simp+contextual-implicitDefEqProofs only[eG,kK,jz,eS,bc,go_sem,eI,eB,Nat.reduceMul,Nat.reduceSub];refine fy (ds:=[kK au,kK au]) ?_ (hqF) ?_;simp only[eG,kK,jz,eS,bc];exact rfl;simp+contextual-implicitDefEqProofs only[bT,eG,kK,jz,eS,bc,go_sem,eI,eB,Nat.reduceMul,Nat.reduceSub];refine fy (ds:=[kK mR,eI 1]) ?_ (hH1) ?_;simp only[eG,kK,jz,eS,bc];exact rfl;simp+contextual-implicitDefEqProofs only[La,eG,kK,jz,eS,bc,go_sem,eI,eB,Nat.reduceMul,Nat.reduceSub]
end Go.Ax
