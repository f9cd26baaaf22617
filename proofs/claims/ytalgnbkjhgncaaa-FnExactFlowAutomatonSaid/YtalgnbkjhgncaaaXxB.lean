/- Contracts of functions of the seat, proved over the engine. No condition. -/
import Derived.Test.YtalgnbkjhgncaaaXxA
import Derived.Test.YtalgnbkjhgncaaaEnL
set_option linter.all false
namespace Go.Ax
set_option maxRecDepth 20000
set_option maxHeartbeats 4000000
def km(e:Ex):Bool:=(e.k==0)&&((e.n==0)&&((e.ks.length:Int)==0))
def kV(g:Int×Int)(e:Ex):Bool:=FJ g e&&j5 e
abbrev Sp:=Int×Int×Ex×Int×Int
def jg(s:Sp):D:=.ag [eI s.1,eI s.2.1,eI s.2.2.1.k,eI s.2.2.1.n,.ls s.2.2.1.nn 3 (s.2.2.1.ks.map eE),eI s.2.2.2.1,eI s.2.2.2.2]
def xP:FA jg 7 true:=⟨by omega,fun _=>rfl,fun _=>rfl,fun _=>rfl⟩
abbrev Fl:=Int×SL Sp
def jz(f:Fl):D:=.ag [eI f.1,eS 7 jg f.2]
def lT(g:Int×Int)(n:Int)(s:Sp):Bool:=
 if s.1=1 then km s.2.2.1&&((s.2.2.2.2==0)&&(iR s.2.1 0 (g.2-1)&&iR s.2.2.2.1 0 (n-1)))
 else if s.1=2 then(s.2.1==0)&&(kV g s.2.2.1&&(iR s.2.2.2.1 0 (n-1)&&iR s.2.2.2.2 0 (n-1)))
 else if s.1=3 then(s.2.1==0)&&(km s.2.2.1&&((s.2.2.2.1==0)&&(s.2.2.2.2==0)))
 else if s.1=4 then(s.2.1==0)&&(km s.2.2.1&&((s.2.2.2.1==0)&&(s.2.2.2.2==0)))
 else false
def ot(g:Int×Int)(f:Fl):Bool:=xF g&&(iR f.2.2.length 1 60&&(iR f.1 0 (f.2.2.length-1)&&f.2.2.all (lT g f.2.2.length)))
def qU:RC:=(.s [.b 1 3 0,.v 2 .cf] (.s [.f 3 0 1,.l 4 1 3,.q 5 4 0,.m 6 5,.w 6 (.fa 7 1 (.t 1)),.w 6 (.ld 8 false 1 (.t 7)),.w 6 (.bin 9 .eql (.t 8) (.ci 0)),.k 10 6 9,.m 11 10,.w 11 (.fa 12 2 (.t 1)),.w 11 (.ld 13 false 1 (.t 12)),.w 11 (.len 14 (.t 13)),.w 11 (.bin 15 .eql (.t 14) (.ci 0)),.k 16 11 15,.m 2 16] .ret))
def yx(P:Program)(f:Nat):Prop:=∀(e:Ex),AF P f [eE e] (.own (eB (km e)))
variable {g:Nat}{P:Program}
def OZ(hm:Mx P)(hr:gq P g=some (17,qU,[.t 2])):yx P g:=by
 intro e;rw[gV];refine fH hr hm rfl fun hb=>?_;cases q1:(e.k==0);simp+contextual-implicitDefEqProofs only[qU,km,lM,q1,bne,bT,bN,bI,bG,bU,bJ,ah,ae,af,ab,go_sem,eI,eB,Nat.reduceMul,Nat.reduceSub];cases q2:(e.n==0);simp+contextual-implicitDefEqProofs only[qU,km,lM,q1,q2,bne,bT,bN,bI,bG,bU,bJ,ah,ae,af,ab,go_sem,eI,eB,Nat.reduceMul,Nat.reduceSub];cases q3:((e.ks.length:Int)==0);simp+contextual-implicitDefEqProofs only[qU,km,lM,q1,q2,q3,bne,bT,bN,bI,bG,bU,bJ,ah,ae,af,ab,go_sem,eI,eB,Nat.reduceMul,Nat.reduceSub];simp+contextual-implicitDefEqProofs only[qU,km,lM,q1,q2,q3,bne,bT,bN,bI,bG,bU,bJ,ah,ae,af,ab,go_sem,eI,eB,Nat.reduceMul,Nat.reduceSub]
def pe:RC:=(.s [.v 2 .cf] (.s [.m 3 0,.n 4 3,.f 5 0 4,.l 6 1 5,.q 7 6 0,.m 8 7,.wm 8 9 0,.w 8 (.nck 10 (.t 9)),.w 8 (.fa 11 1 (.t 10)),.w 8 (.ld 12 false 1 (.t 11)),.w 8 (.bin 13 .eql (.t 12) (.ci 0)),.k 14 8 13,.m 15 14,.wm 15 16 0,.w 15 (.nck 17 (.t 16)),.w 15 (.fa 18 2 (.t 17)),.w 15 (.ld 19 false 1 (.t 18)),.w 15 (.len 20 (.t 19)),.w 15 (.bin 21 .eql (.t 20) (.ci 0)),.k 22 15 21,.m 2 22] .ret))
def uY(P:Program)(f:Nat):Prop:=∀(e:Ex),AF P f [.pt (eE e) 0] (.own (eB (km e)))
def J7(hm:Mx P)(hr:gq P g=some (23,pe,[.t 2])):uY P g:=by
 intro e;rw[gV];refine fH hr hm rfl fun hb=>?_;cases q1:(e.k==0);simp+contextual-implicitDefEqProofs only[pe,km,lM,q1,bne,bT,bN,bI,bG,bU,bJ,ah,ae,af,ab,go_sem,eI,eB,Nat.reduceMul,Nat.reduceSub];cases q2:(e.n==0);simp+contextual-implicitDefEqProofs only[pe,km,lM,q1,q2,bne,bT,bN,bI,bG,bU,bJ,ah,ae,af,ab,go_sem,eI,eB,Nat.reduceMul,Nat.reduceSub];cases q3:((e.ks.length:Int)==0);simp+contextual-implicitDefEqProofs only[pe,km,lM,q1,q2,q3,bne,bT,bN,bI,bG,bU,bJ,ah,ae,af,ab,go_sem,eI,eB,Nat.reduceMul,Nat.reduceSub];simp+contextual-implicitDefEqProofs only[pe,km,lM,q1,q2,q3,bne,bT,bN,bI,bG,bU,bJ,ah,ae,af,ab,go_sem,eI,eB,Nat.reduceMul,Nat.reduceSub]
def mi(f1 f2:Nat):RC:=(.s [.b 2 2 0,.b 3 3 1,.v 4 .cf] (.s [.L 5 2 2,.L 6 3 3,.c 7 f1 [.t 5,.t 6],.m 8 7,.w 8 (.ld 9 true 3 (.t 3)),.w 8 (.call (some 10) f2 [.t 9]),.k 11 8 10,.m 4 11] .ret))
def sV(P:Program)(f:Nat):Prop:=∀(g:Int×Int)(e:Ex),AF P f [eG g,eE e] (.own (eB (kV g e)))
variable {f1 f2:Nat}
def Gz(hm:Mx P)(hr:gq P g=some (12,mi f1 f2,[.t 4]))(kr:xJ P f1)(kx:mz P f2):sV P g:=by
 intro g e;rw[gV];refine fH hr hm rfl fun hb=>?_;simp+contextual-implicitDefEqProofs only[mi,eG,kV,bne,bT,bN,bI,bG,bU,bJ,ah,ae,af,ab,go_sem,eI,eB,Nat.reduceMul,Nat.reduceSub];refine fy (ds:=[eG g,eE e]) ?_ (kr g e) ?_
 ·first|exact rfl|(simp only[gV];exact rfl)
 cases q1:FJ g e;simp+contextual-implicitDefEqProofs only[mi,eG,kV,q1,bne,bT,bN,bI,bG,bU,bJ,ah,ae,af,ab,go_sem,eI,eB,Nat.reduceMul,Nat.reduceSub];simp+contextual-implicitDefEqProofs only[mi,eG,kV,q1,bne,bT,bN,bI,bG,bU,bJ,ah,ae,af,ab,go_sem,eI,eB,Nat.reduceMul,Nat.reduceSub];refine fy (ds:=[eE e]) ?_ (kx e) ?_
 ·first|exact rfl|(simp only[gV];exact rfl)
 cases q2:j5 e;simp+contextual-implicitDefEqProofs only[mi,eG,kV,q1,q2,bne,bT,bN,bI,bG,bU,bJ,ah,ae,af,ab,go_sem,eI,eB,Nat.reduceMul,Nat.reduceSub];simp+contextual-implicitDefEqProofs only[mi,eG,kV,q1,q2,bne,bT,bN,bI,bG,bU,bJ,ah,ae,af,ab,go_sem,eI,eB,Nat.reduceMul,Nat.reduceSub]
def zF(f1 f2:Nat):RC:=(.s [.b 2 2 0,.v 4 .cf] (.s [.L 5 2 2,.m 6 1,.c 7 f1 [.t 5,.t 6],.m 8 7,.wm 8 9 1,.w 8 (.call (some 10) f2 [.t 9]),.k 11 8 10,.m 4 11] .ret))
def uH(P:Program)(f:Nat):Prop:=∀(g:Int×Int)(e:Ex)(hg:xF g=true),AF P f [eG g,.pt (eE e) 0] (.own (eB (kV g e)))
def Kw(hm:Mx P)(hr:gq P g=some (12,zF f1 f2,[.t 4]))(kr:BJ P f1)(kx:lU P f2):uH P g:=by
 intro g e hg;refine fH hr hm rfl fun hb=>?_;simp+contextual-implicitDefEqProofs only[zF,eG,go_sem,eI,eB,Nat.reduceMul,Nat.reduceSub];refine fy ?_ (kr g e) ?_;exact rfl;rw[hg,bI];cases q1:FJ g e;simp+contextual-implicitDefEqProofs only[kV,q1,bne,bT,bN,bI,bG,bU,bJ,ah,ae,af,ab,go_sem,eI,eB,Nat.reduceMul,Nat.reduceSub];simp+contextual-implicitDefEqProofs only[kV,q1,bne,bT,bN,bI,bG,bU,bJ,ah,ae,af,ab,go_sem,eI,eB,Nat.reduceMul,Nat.reduceSub];refine fy ?_ (kx e) ?_;exact rfl;simp+contextual-implicitDefEqProofs only[q1,bne,bT,bN,bI,bG,bU,bJ,ah,ae,af,ab,go_sem,eI,eB,Nat.reduceMul,Nat.reduceSub]
def DP{g:Int×Int}(h:xF g=true):(0≤g.1∧g.1≤3)∧0≤g.2∧g.2≤4:=by simpa[xF,iR]using h
def CK(f1 f2 f3:Nat):RC:=(.s [.b 3 2 0,.b 4 7 1,.v 6 .cf] (.seq (.s [.f 7 0 4,.l 8 1 7] (.iV 0 (.s [.q 10 8 1,.m 9 10] (.cond (.t 9) (.s [.f 11 1 4,.l 12 1 11,.f 13 1 3,.l 14 1 13,.o (.bin 15 .sub (.t 14) (.ci 1)),.c 16 f1 [.t 12,.ci 0,.t 15],.m 17 16,.w 17 (.fa 18 2 (.t 4)),.w 17 (.ld 19 true 3 (.t 18)),.w 17 (.call (some 20) f2 [.t 19]),.k 21 17 20,.m 22 21,.w 22 (.fa 23 5 (.t 4)),.w 22 (.ld 24 false 1 (.t 23)),.wm 22 25 2,.w 22 (.bin 26 .sub (.t 25) (.ci 1)),.w 22 (.call (some 27) f1 [.t 24,.ci 0,.t 26]),.k 28 22 27,.m 29 28,.w 29 (.fa 30 6 (.t 4)),.w 29 (.ld 31 false 1 (.t 30)),.w 29 (.bin 32 .eql (.t 31) (.ci 0)),.k 33 29 32,.m 6 33] .ret) (.s [.q 35 8 2,.m 34 35] (.cond (.t 34) (.s [.f 36 1 4,.l 37 1 36,.q 38 37 0,.m 39 38,.w 39 (.ld 40 true 2 (.t 3)),.w 39 (.fa 41 2 (.t 4)),.w 39 (.ld 42 true 3 (.t 41)),.w 39 (.call (some 43) f3 [.t 40,.t 42]),.k 44 39 43,.m 45 44,.w 45 (.fa 46 5 (.t 4)),.w 45 (.ld 47 false 1 (.t 46)),.wm 45 48 2,.w 45 (.bin 49 .sub (.t 48) (.ci 1)),.w 45 (.call (some 50) f1 [.t 47,.ci 0,.t 49]),.k 51 45 50,.m 52 51,.w 52 (.fa 53 6 (.t 4)),.w 52 (.ld 54 false 1 (.t 53)),.wm 52 55 2,.w 52 (.bin 56 .sub (.t 55) (.ci 1)),.w 52 (.call (some 57) f1 [.t 54,.ci 0,.t 56]),.k 58 52 57,.m 6 58] .ret) (.seq (.s [.q 60 8 3,.m 59 60] (.cond (.t 59) .skip (.r [.q 61 8 4,.m 59 61]))) (.cond (.t 59) (.s [.f 62 1 4,.l 63 1 62,.q 64 63 0,.m 65 64,.w 65 (.fa 66 2 (.t 4)),.w 65 (.ld 67 true 3 (.t 66)),.w 65 (.call (some 68) f2 [.t 67]),.k 69 65 68,.m 70 69,.w 70 (.fa 71 5 (.t 4)),.w 70 (.ld 72 false 1 (.t 71)),.w 70 (.bin 73 .eql (.t 72) (.ci 0)),.k 74 70 73,.m 75 74,.w 75 (.fa 76 6 (.t 4)),.w 75 (.ld 77 false 1 (.t 76)),.w 75 (.bin 78 .eql (.t 77) (.ci 0)),.k 79 75 78,.m 6 79] .ret) .skip)))))))) (.s [.v 6 .cf] .ret)))
def xW(P:Program)(f:Nat):Prop:=∀(g:Int×Int)(s:Sp)(n:Int)(hg:xF g=true)(h1:1≤n)(h2:n≤60),AF P f [eG g,jg s,eI n] (.own (eB (lT g n s)))
variable {f3:Nat}
def Lx(hm:Mx P)(hr:gq P g=some (80,CK f1 f2 f3,[.t 6]))(kr:pf P f1)(kx:yx P f2)(AY:sV P f3):xW P g:=by
 intro g s n hg h1 h2;refine fH hr hm rfl fun hb=>?_;simp+contextual-implicitDefEqProofs only[CK,eG,jg,go_sem,eI,eB,Nat.reduceMul,Nat.reduceSub];have hG:=DP hg;have w1:IntKind.i64.wrap (g.2-1)=g.2-1:=fF (by omega) (by omega);have w2:IntKind.i64.wrap (n-1)=n-1:=fF (by omega) (by omega)
 by_cases c1:s.1=1
 ·have er:lT g n s=(km s.2.2.1&&((s.2.2.2.2==0)&&(iR s.2.1 0 (g.2-1)&&iR s.2.2.2.1 0 (n-1)))):=by unfold lT;rw[an c1]
  rw[er];have d1:(s.1==1)=true:=by simp[c1]
  have d2:(s.1==2)=false:=by simp[c1]
  have d3:(s.1==3)=false:=by simp[c1]
  have d4:(s.1==4)=false:=by simp[c1]
  simp+contextual-implicitDefEqProofs only[d1,d2,d3,d4,w1,w2,jg,bne,bT,bN,bI,bG,bU,bJ,ah,ae,af,ab,go_sem,eI,eB,Nat.reduceMul,Nat.reduceSub];refine fy (ds:=[eI s.2.1,eI 0,eI (g.2-1)]) ?_ (kr s.2.1 0 (g.2-1)) ?_
  ·first|exact rfl|(simp only[gV];exact rfl)
  cases a1:iR s.2.1 0 (g.2-1);simp+contextual-implicitDefEqProofs only[d1,d2,d3,d4,w1,w2,jg,a1,bne,bT,bN,bI,bG,bU,bJ,ah,ae,af,ab,go_sem,eI,eB,Nat.reduceMul,Nat.reduceSub];simp+contextual-implicitDefEqProofs only[d1,d2,d3,d4,w1,w2,jg,a1,bne,bT,bN,bI,bG,bU,bJ,ah,ae,af,ab,go_sem,eI,eB,Nat.reduceMul,Nat.reduceSub];refine fy (ds:=[eE s.2.2.1]) ?_ (kx s.2.2.1) ?_
  ·first|exact rfl|(simp only[gV];exact rfl)
  cases a2:km s.2.2.1;simp+contextual-implicitDefEqProofs only[d1,d2,d3,d4,w1,w2,jg,a1,a2,bne,bT,bN,bI,bG,bU,bJ,ah,ae,af,ab,go_sem,eI,eB,Nat.reduceMul,Nat.reduceSub];simp+contextual-implicitDefEqProofs only[d1,d2,d3,d4,w1,w2,jg,a1,a2,bne,bT,bN,bI,bG,bU,bJ,ah,ae,af,ab,go_sem,eI,eB,Nat.reduceMul,Nat.reduceSub];refine fy (ds:=[eI s.2.2.2.1,eI 0,eI (n-1)]) ?_ (kr s.2.2.2.1 0 (n-1)) ?_
  ·first|exact rfl|(simp only[gV];exact rfl)
  cases a3:iR s.2.2.2.1 0 (n-1);simp+contextual-implicitDefEqProofs only[d1,d2,d3,d4,w1,w2,jg,a1,a2,a3,bne,bT,bN,bI,bG,bU,bJ,ah,ae,af,ab,go_sem,eI,eB,Nat.reduceMul,Nat.reduceSub];cases a4:(s.2.2.2.2==0);simp+contextual-implicitDefEqProofs only[d1,d2,d3,d4,w1,w2,jg,a1,a2,a3,a4,bne,bT,bN,bI,bG,bU,bJ,ah,ae,af,ab,go_sem,eI,eB,Nat.reduceMul,Nat.reduceSub];simp+contextual-implicitDefEqProofs only[d1,d2,d3,d4,w1,w2,jg,a1,a2,a3,a4,bne,bT,bN,bI,bG,bU,bJ,ah,ae,af,ab,go_sem,eI,eB,Nat.reduceMul,Nat.reduceSub]
 by_cases c2:s.1=2
 ·have er:lT g n s=((s.2.1==0)&&(kV g s.2.2.1&&(iR s.2.2.2.1 0 (n-1)&&iR s.2.2.2.2 0 (n-1)))):=by unfold lT;rw[al c1,an c2]
  rw[er];have d1:(s.1==1)=false:=by simp[c2]
  have d2:(s.1==2)=true:=by simp[c2]
  have d3:(s.1==3)=false:=by simp[c2]
  have d4:(s.1==4)=false:=by simp[c2]
  cases a7:(s.2.1==0);simp+contextual-implicitDefEqProofs only[d1,d2,d3,d4,w1,w2,jg,a7,bne,bT,bN,bI,bG,bU,bJ,ah,ae,af,ab,go_sem,eI,eB,Nat.reduceMul,Nat.reduceSub];simp+contextual-implicitDefEqProofs only[d1,d2,d3,d4,w1,w2,jg,a7,bne,bT,bN,bI,bG,bU,bJ,ah,ae,af,ab,go_sem,eI,eB,Nat.reduceMul,Nat.reduceSub];refine fy (ds:=[eG g,eE s.2.2.1]) ?_ (AY g s.2.2.1) ?_
  ·first|exact rfl|(simp only[gV];exact rfl)
  cases a5:kV g s.2.2.1;simp+contextual-implicitDefEqProofs only[d1,d2,d3,d4,w1,w2,jg,a7,a5,bne,bT,bN,bI,bG,bU,bJ,ah,ae,af,ab,go_sem,eI,eB,Nat.reduceMul,Nat.reduceSub];simp+contextual-implicitDefEqProofs only[d1,d2,d3,d4,w1,w2,jg,a7,a5,bne,bT,bN,bI,bG,bU,bJ,ah,ae,af,ab,go_sem,eI,eB,Nat.reduceMul,Nat.reduceSub];refine fy (ds:=[eI s.2.2.2.1,eI 0,eI (n-1)]) ?_ (kr s.2.2.2.1 0 (n-1)) ?_
  ·first|exact rfl|(simp only[gV];exact rfl)
  cases a3:iR s.2.2.2.1 0 (n-1);simp+contextual-implicitDefEqProofs only[d1,d2,d3,d4,w1,w2,jg,a7,a5,a3,bne,bT,bN,bI,bG,bU,bJ,ah,ae,af,ab,go_sem,eI,eB,Nat.reduceMul,Nat.reduceSub];simp+contextual-implicitDefEqProofs only[d1,d2,d3,d4,w1,w2,jg,a7,a5,a3,bne,bT,bN,bI,bG,bU,bJ,ah,ae,af,ab,go_sem,eI,eB,Nat.reduceMul,Nat.reduceSub];refine fy (ds:=[eI s.2.2.2.2,eI 0,eI (n-1)]) ?_ (kr s.2.2.2.2 0 (n-1)) ?_
  ·first|exact rfl|(simp only[gV];exact rfl)
  cases a6:iR s.2.2.2.2 0 (n-1);simp+contextual-implicitDefEqProofs only[d1,d2,d3,d4,w1,w2,jg,a7,a5,a3,a6,bne,bT,bN,bI,bG,bU,bJ,ah,ae,af,ab,go_sem,eI,eB,Nat.reduceMul,Nat.reduceSub];simp+contextual-implicitDefEqProofs only[d1,d2,d3,d4,w1,w2,jg,a7,a5,a3,a6,bne,bT,bN,bI,bG,bU,bJ,ah,ae,af,ab,go_sem,eI,eB,Nat.reduceMul,Nat.reduceSub]
 by_cases c3:s.1=3
 ·have er:lT g n s=((s.2.1==0)&&(km s.2.2.1&&((s.2.2.2.1==0)&&(s.2.2.2.2==0)))):=by unfold lT;rw[al c1,al c2,an c3]
  rw[er];have d1:(s.1==1)=false:=by simp[c3]
  have d2:(s.1==2)=false:=by simp[c3]
  have d3:(s.1==3)=true:=by simp[c3]
  have d4:(s.1==4)=false:=by simp[c3]
  cases a7:(s.2.1==0);simp+contextual-implicitDefEqProofs only[d1,d2,d3,d4,w1,w2,jg,a7,bne,bT,bN,bI,bG,bU,bJ,ah,ae,af,ab,go_sem,eI,eB,Nat.reduceMul,Nat.reduceSub];simp+contextual-implicitDefEqProofs only[d1,d2,d3,d4,w1,w2,jg,a7,bne,bT,bN,bI,bG,bU,bJ,ah,ae,af,ab,go_sem,eI,eB,Nat.reduceMul,Nat.reduceSub];refine fy (ds:=[eE s.2.2.1]) ?_ (kx s.2.2.1) ?_
  ·first|exact rfl|(simp only[gV];exact rfl)
  cases a2:km s.2.2.1;simp+contextual-implicitDefEqProofs only[d1,d2,d3,d4,w1,w2,jg,a7,a2,bne,bT,bN,bI,bG,bU,bJ,ah,ae,af,ab,go_sem,eI,eB,Nat.reduceMul,Nat.reduceSub];cases a8:(s.2.2.2.1==0);simp+contextual-implicitDefEqProofs only[d1,d2,d3,d4,w1,w2,jg,a7,a2,a8,bne,bT,bN,bI,bG,bU,bJ,ah,ae,af,ab,go_sem,eI,eB,Nat.reduceMul,Nat.reduceSub];cases a4:(s.2.2.2.2==0);simp+contextual-implicitDefEqProofs only[d1,d2,d3,d4,w1,w2,jg,a7,a2,a8,a4,bne,bT,bN,bI,bG,bU,bJ,ah,ae,af,ab,go_sem,eI,eB,Nat.reduceMul,Nat.reduceSub];simp+contextual-implicitDefEqProofs only[d1,d2,d3,d4,w1,w2,jg,a7,a2,a8,a4,bne,bT,bN,bI,bG,bU,bJ,ah,ae,af,ab,go_sem,eI,eB,Nat.reduceMul,Nat.reduceSub]
 by_cases c4:s.1=4
 ·have er:lT g n s=((s.2.1==0)&&(km s.2.2.1&&((s.2.2.2.1==0)&&(s.2.2.2.2==0)))):=by unfold lT;rw[al c1,al c2,al c3,an c4]
  rw[er];have d1:(s.1==1)=false:=by simp[c4]
  have d2:(s.1==2)=false:=by simp[c4]
  have d3:(s.1==3)=false:=by simp[c4]
  have d4:(s.1==4)=true:=by simp[c4]
  cases a7:(s.2.1==0);simp+contextual-implicitDefEqProofs only[d1,d2,d3,d4,w1,w2,jg,a7,bne,bT,bN,bI,bG,bU,bJ,ah,ae,af,ab,go_sem,eI,eB,Nat.reduceMul,Nat.reduceSub];simp+contextual-implicitDefEqProofs only[d1,d2,d3,d4,w1,w2,jg,a7,bne,bT,bN,bI,bG,bU,bJ,ah,ae,af,ab,go_sem,eI,eB,Nat.reduceMul,Nat.reduceSub];refine fy (ds:=[eE s.2.2.1]) ?_ (kx s.2.2.1) ?_
  ·first|exact rfl|(simp only[gV];exact rfl)
  cases a2:km s.2.2.1;simp+contextual-implicitDefEqProofs only[d1,d2,d3,d4,w1,w2,jg,a7,a2,bne,bT,bN,bI,bG,bU,bJ,ah,ae,af,ab,go_sem,eI,eB,Nat.reduceMul,Nat.reduceSub];cases a8:(s.2.2.2.1==0);simp+contextual-implicitDefEqProofs only[d1,d2,d3,d4,w1,w2,jg,a7,a2,a8,bne,bT,bN,bI,bG,bU,bJ,ah,ae,af,ab,go_sem,eI,eB,Nat.reduceMul,Nat.reduceSub];cases a4:(s.2.2.2.2==0);simp+contextual-implicitDefEqProofs only[d1,d2,d3,d4,w1,w2,jg,a7,a2,a8,a4,bne,bT,bN,bI,bG,bU,bJ,ah,ae,af,ab,go_sem,eI,eB,Nat.reduceMul,Nat.reduceSub];simp+contextual-implicitDefEqProofs only[d1,d2,d3,d4,w1,w2,jg,a7,a2,a8,a4,bne,bT,bN,bI,bG,bU,bJ,ah,ae,af,ab,go_sem,eI,eB,Nat.reduceMul,Nat.reduceSub]
 have er:lT g n s=false:=by unfold lT;rw[al c1,al c2,al c3,al c4]
 rw[er];have d1:(s.1==1)=false:=by simpa using c1
 have d2:(s.1==2)=false:=by simpa using c2
 have d3:(s.1==3)=false:=by simpa using c3
 have d4:(s.1==4)=false:=by simpa using c4
 simp+contextual-implicitDefEqProofs only[d1,d2,d3,d4,bne,bT,bN,bI,bG,bU,bJ,ah,ae,af,ab,go_sem,eI,eB,Nat.reduceMul,Nat.reduceSub]
def zM(f1 f2 f3:Nat):RC:=(.s [.b 3 2 0,.v 6 .cf] (.s [.m 8 1,.n 9 8,.f 10 2 9,.c 11 f1 [.t 10],.m 12 11,.wm 12 13 1,.w 12 (.nck 14 (.t 13)),.w 12 (.fa 15 1 (.t 14)),.w 12 (.ld 16 false 1 (.t 15)),.w 12 (.bin 17 .eql (.t 16) (.ci 0)),.k 18 12 17,.m 19 18,.wm 19 20 1,.w 19 (.nck 21 (.t 20)),.w 19 (.fa 22 6 (.t 21)),.w 19 (.ld 23 false 1 (.t 22)),.w 19 (.bin 24 .eql (.t 23) (.ci 0)),.k 25 19 24,.m 7 25] (.seq (.s [.m 26 1,.n 27 26,.f 28 0 27,.l 29 1 28] (.iV 0 (.s [.q 31 29 1,.m 30 31] (.cond (.t 30) (.seq (.gt true [.m 32 1,.n 33 32,.f 34 2 33,.c 35 f1 [.t 34],.m 36 35,.wm 36 37 1,.w 36 (.nck 38 (.t 37)),.w 36 (.fa 39 6 (.t 38)),.w 36 (.ld 40 false 1 (.t 39)),.w 36 (.bin 41 .eql (.t 40) (.ci 0)),.k 42 36 41,.m 43 42,.wm 43 44 1,.w 43 (.nck 45 (.t 44)),.w 43 (.fa 46 1 (.t 45)),.w 43 (.ld 47 false 1 (.t 46)),.w 43 (.fa 48 1 (.t 3)),.w 43 (.ld 49 false 1 (.t 48)),.w 43 (.bin 50 .sub (.t 49) (.ci 1)),.w 43 (.call (some 51) f2 [.t 47,.ci 0,.t 50]),.k 52 43 51,.m 53 52,.wm 53 54 1,.w 53 (.nck 55 (.t 54)),.w 53 (.fa 56 5 (.t 55)),.w 53 (.ld 57 false 1 (.t 56)),.wm 53 58 2,.w 53 (.bin 59 .sub (.t 58) (.ci 1)),.w 53 (.call (some 60) f2 [.t 57,.ci 0,.t 59]),.k 61 53 60,.m 6 61]) .ret) (.s [.q 63 29 2,.m 62 63] (.cond (.t 62) (.seq (.gt true [.m 64 1,.n 65 64,.f 66 1 65,.l 67 1 66,.q 68 67 0,.m 69 68,.w 69 (.ld 70 true 2 (.t 3)),.wm 69 71 1,.w 69 (.nck 72 (.t 71)),.w 69 (.fa 73 2 (.t 72)),.w 69 (.call (some 74) f3 [.t 70,.t 73]),.k 75 69 74,.m 76 75,.wm 76 77 1,.w 76 (.nck 78 (.t 77)),.w 76 (.fa 79 5 (.t 78)),.w 76 (.ld 80 false 1 (.t 79)),.wm 76 81 2,.w 76 (.bin 82 .sub (.t 81) (.ci 1)),.w 76 (.call (some 83) f2 [.t 80,.ci 0,.t 82]),.k 84 76 83,.m 85 84,.wm 85 86 1,.w 85 (.nck 87 (.t 86)),.w 85 (.fa 88 6 (.t 87)),.w 85 (.ld 89 false 1 (.t 88)),.wm 85 90 2,.w 85 (.bin 91 .sub (.t 90) (.ci 1)),.w 85 (.call (some 92) f2 [.t 89,.ci 0,.t 91]),.k 93 85 92,.m 6 93]) .ret) (.seq (.s [.q 95 29 3,.m 94 95] (.cond (.t 94) .skip (.r [.q 96 29 4,.m 94 96]))) (.cond (.t 94) (.s [.m 97 7,.m 98 97,.wm 98 99 1,.w 98 (.nck 100 (.t 99)),.w 98 (.fa 101 5 (.t 100)),.w 98 (.ld 102 false 1 (.t 101)),.w 98 (.bin 103 .eql (.t 102) (.ci 0)),.k 104 98 103,.m 6 104] .ret) .skip)))))))) (.s [.v 6 .cf] .ret))))
def uX(P:Program)(f:Nat):Prop:=∀(g:Int×Int)(s:Sp)(n:Int)(hg:xF g=true)(h1:1≤n)(h2:n≤60),AF P f [eG g,.pt (jg s) 0,eI n] (.own (eB (lT g n s)))
def KE(hm:Mx P)(hr:gq P g=some (105,zM f1 f2 f3,[.t 6]))(kr:uY P f1)(kx:pI P f2)(AY:uH P f3):uX P g:=by
 intro g s n hg h1 h2;refine fH hr hm rfl fun hb=>?_;have hG:=DP hg;have w1:IntKind.i64.wrap (g.2-1)=g.2-1:=fF (by omega) (by omega);have w2:IntKind.i64.wrap (n-1)=n-1:=fF (by omega) (by omega);simp+contextual-implicitDefEqProofs only[zM,eG,jg,go_sem,eI,eB,Nat.reduceMul,Nat.reduceSub];refine tM (es:=[.pt (eE s.2.2.1) 0]) rfl ⟨D.GD.sub (sz:=3) (by simp[D.size,D.f6,eI]) rfl (by omega) (by rw[gV];rfl),trivial⟩ (kr s.2.2.1) ?_;cases a2:km s.2.2.1<;>cases a7:(s.2.1==0)<;>cases a4:(s.2.2.2.2==0)<;>cases a8:(s.2.2.2.1==0)
 all_goals
  by_cases c1:s.1=1
  ·have er:lT g n s=(km s.2.2.1&&((s.2.2.2.2==0)&&(iR s.2.1 0 (g.2-1)&&iR s.2.2.2.1 0 (n-1)))):=by unfold lT;rw[an c1]
   rw[er];have d1:(s.1==1)=true:=by simp[c1]
   have d2:(s.1==2)=false:=by simp[c1]
   have d3:(s.1==3)=false:=by simp[c1]
   have d4:(s.1==4)=false:=by simp[c1]
   simp+contextual-implicitDefEqProofs only[a2,a7,a4,a8,d1,d2,d3,d4,w1,w2,bne,bT,bN,bI,bG,bU,bJ,ah,ae,af,ab,go_sem,eI,eB,Nat.reduceMul,Nat.reduceSub];refine tM (es:=[.pt (eE s.2.2.1) 0]) rfl ⟨D.GD.sub (sz:=3) (by simp[D.size,D.f6,eI]) rfl (by omega) (by rw[gV];rfl),trivial⟩ (kr s.2.2.1) ?_;simp+contextual-implicitDefEqProofs only[a2,a7,a4,a8,d1,d2,d3,d4,w1,w2,bne,bT,bN,bI,bG,bU,bJ,ah,ae,af,ab,go_sem,eI,eB,Nat.reduceMul,Nat.reduceSub]
   try
    refine fy ?_ (kx s.2.1 0 (g.2-1)) ?_;exact rfl;cases a1:iR s.2.1 0 (g.2-1);simp+contextual-implicitDefEqProofs only[a2,a7,a4,a8,d1,d2,d3,d4,w1,w2,a1,bne,bT,bN,bI,bG,bU,bJ,ah,ae,af,ab,go_sem,eI,eB,Nat.reduceMul,Nat.reduceSub];simp+contextual-implicitDefEqProofs only[a2,a7,a4,a8,d1,d2,d3,d4,w1,w2,a1,bne,bT,bN,bI,bG,bU,bJ,ah,ae,af,ab,go_sem,eI,eB,Nat.reduceMul,Nat.reduceSub];refine fy ?_ (kx s.2.2.2.1 0 (n-1)) ?_;exact rfl;cases a3:iR s.2.2.2.1 0 (n-1);simp+contextual-implicitDefEqProofs only[a2,a7,a4,a8,d1,d2,d3,d4,w1,w2,a1,a3,bne,bT,bN,bI,bG,bU,bJ,ah,ae,af,ab,go_sem,eI,eB,Nat.reduceMul,Nat.reduceSub];simp+contextual-implicitDefEqProofs only[a2,a7,a4,a8,d1,d2,d3,d4,w1,w2,a1,a3,bne,bT,bN,bI,bG,bU,bJ,ah,ae,af,ab,go_sem,eI,eB,Nat.reduceMul,Nat.reduceSub]
  by_cases c2:s.1=2
  ·have er:lT g n s=((s.2.1==0)&&(kV g s.2.2.1&&(iR s.2.2.2.1 0 (n-1)&&iR s.2.2.2.2 0 (n-1)))):=by unfold lT;rw[al c1,an c2]
   rw[er];have d1:(s.1==1)=false:=by simp[c2]
   have d2:(s.1==2)=true:=by simp[c2]
   have d3:(s.1==3)=false:=by simp[c2]
   have d4:(s.1==4)=false:=by simp[c2]
   simp+contextual-implicitDefEqProofs only[a2,a7,a4,a8,d1,d2,d3,d4,w1,w2,bne,bT,bN,bI,bG,bU,bJ,ah,ae,af,ab,go_sem,eI,eB,Nat.reduceMul,Nat.reduceSub]
   try
    refine tM (es:=[eG g,.pt (eE s.2.2.1) 0]) rfl ⟨D.GD.refl _,D.GD.sub (sz:=3) (by simp[D.size,D.f6,eI]) rfl (by omega) (by rw[gV];rfl),trivial⟩ (AY g s.2.2.1 hg) ?_;cases a5:kV g s.2.2.1;simp+contextual-implicitDefEqProofs only[a2,a7,a4,a8,d1,d2,d3,d4,w1,w2,a5,bne,bT,bN,bI,bG,bU,bJ,ah,ae,af,ab,go_sem,eI,eB,Nat.reduceMul,Nat.reduceSub];simp+contextual-implicitDefEqProofs only[a2,a7,a4,a8,d1,d2,d3,d4,w1,w2,a5,bne,bT,bN,bI,bG,bU,bJ,ah,ae,af,ab,go_sem,eI,eB,Nat.reduceMul,Nat.reduceSub];refine fy ?_ (kx s.2.2.2.1 0 (n-1)) ?_;exact rfl;cases a3:iR s.2.2.2.1 0 (n-1);simp+contextual-implicitDefEqProofs only[a2,a7,a4,a8,d1,d2,d3,d4,w1,w2,a5,a3,bne,bT,bN,bI,bG,bU,bJ,ah,ae,af,ab,go_sem,eI,eB,Nat.reduceMul,Nat.reduceSub];simp+contextual-implicitDefEqProofs only[a2,a7,a4,a8,d1,d2,d3,d4,w1,w2,a5,a3,bne,bT,bN,bI,bG,bU,bJ,ah,ae,af,ab,go_sem,eI,eB,Nat.reduceMul,Nat.reduceSub];refine fy ?_ (kx s.2.2.2.2 0 (n-1)) ?_;exact rfl;cases a6:iR s.2.2.2.2 0 (n-1);simp+contextual-implicitDefEqProofs only[a2,a7,a4,a8,d1,d2,d3,d4,w1,w2,a5,a3,a6,bne,bT,bN,bI,bG,bU,bJ,ah,ae,af,ab,go_sem,eI,eB,Nat.reduceMul,Nat.reduceSub];simp+contextual-implicitDefEqProofs only[a2,a7,a4,a8,d1,d2,d3,d4,w1,w2,a5,a3,a6,bne,bT,bN,bI,bG,bU,bJ,ah,ae,af,ab,go_sem,eI,eB,Nat.reduceMul,Nat.reduceSub]
  by_cases c3:s.1=3
  ·have er:lT g n s=((s.2.1==0)&&(km s.2.2.1&&((s.2.2.2.1==0)&&(s.2.2.2.2==0)))):=by unfold lT;rw[al c1,al c2,an c3]
   rw[er];have d1:(s.1==1)=false:=by simp[c3]
   have d2:(s.1==2)=false:=by simp[c3]
   have d3:(s.1==3)=true:=by simp[c3]
   have d4:(s.1==4)=false:=by simp[c3]
   simp+contextual-implicitDefEqProofs only[a2,a7,a4,a8,d1,d2,d3,d4,w1,w2,bne,bT,bN,bI,bG,bU,bJ,ah,ae,af,ab,go_sem,eI,eB,Nat.reduceMul,Nat.reduceSub]
  by_cases c4:s.1=4
  ·have er:lT g n s=((s.2.1==0)&&(km s.2.2.1&&((s.2.2.2.1==0)&&(s.2.2.2.2==0)))):=by unfold lT;rw[al c1,al c2,al c3,an c4]
   rw[er];have d1:(s.1==1)=false:=by simp[c4]
   have d2:(s.1==2)=false:=by simp[c4]
   have d3:(s.1==3)=false:=by simp[c4]
   have d4:(s.1==4)=true:=by simp[c4]
   simp+contextual-implicitDefEqProofs only[a2,a7,a4,a8,d1,d2,d3,d4,w1,w2,bne,bT,bN,bI,bG,bU,bJ,ah,ae,af,ab,go_sem,eI,eB,Nat.reduceMul,Nat.reduceSub]
  have er:lT g n s=false:=by unfold lT;rw[al c1,al c2,al c3,al c4]
  rw[er];have d1:(s.1==1)=false:=by simpa using c1
  have d2:(s.1==2)=false:=by simpa using c2
  have d3:(s.1==3)=false:=by simpa using c3
  have d4:(s.1==4)=false:=by simpa using c4
  simp+contextual-implicitDefEqProofs only[a2,a7,a4,a8,d1,d2,d3,d4,bne,bT,bN,bI,bG,bU,bJ,ah,ae,af,ab,go_sem,eI,eB,Nat.reduceMul,Nat.reduceSub]
def rY(f1 f2 f3:Nat):RC:=(.s [.b 2 2 0,.b 3 2 1,.v 4 .cf] (.s [.f 8 1 3,.l 9 1 8,.o (.len 10 (.t 9)),.m 5 10] (.seq (.s [.L 11 2 2,.c 12 f1 [.t 11],.o (.un 13 .not (.t 12)),.m 14 13,.u 14 (.mv 15 (.t 5)),.u 14 (.call (some 16) f2 [.t 15,.ci 1,.ci 60]),.u 14 (.un 17 .not (.t 16)),.o (.pick 18 (.t 14) .ct (.t 17)),.m 19 18,.u 19 (.fa 20 0 (.t 3)),.u 19 (.ld 21 false 1 (.t 20)),.u 19 (.mv 22 (.t 5)),.u 19 (.bin 23 .sub (.t 22) (.ci 1)),.u 19 (.call (some 24) f2 [.t 21,.ci 0,.t 23]),.u 19 (.un 25 .not (.t 24)),.o (.pick 26 (.t 19) .ct (.t 25))] (.cond (.t 26) (.s [.v 4 .cf] .ret) .skip)) (.seq (.s [.f 27 1 3,.l 28 1 27,.o (.len 29 (.t 28)),.v 30 (.ci 0)] (.iV 0 (.loop (.s [.o (.bin 31 .lss (.t 30) (.t 29))] (.seq (.cond (.t 31) .skip (.exit 0)) (.seq (.iV 1 (.s [.o (.ia 32 7 (.t 28) (.t 30)),.L 33 7 32,.o (.zer 7 7 (.ag [(.sc (.int .i64 0)),(.sc (.int .i64 0)),(.sc (.int .i64 0)),(.sc (.int .i64 0)),(.ls (some true) 3 []),(.sc (.int .i64 0)),(.sc (.int .i64 0))])),.s 7 7 33] (.s [.L 34 2 2,.L 35 7 7,.m 36 5,.c 37 f3 [.t 34,.t 35,.t 36],.o (.un 38 .not (.t 37))] (.cond (.t 38) (.s [.v 4 .cf] .ret) .skip)))) (.r [.o (.bin 39 .add (.t 30) (.ci 1)),.m 30 39]))))))) (.s [.v 4 .ct] .ret)))))
def oW(P:Program)(rR:Nat):Prop:=∀(g:Int×Int)(f:Fl),AF P rR [eG g,jz f] (.own (eB (ot g f)))
def zo(hm:Mx P)(hr:gq P g=some (40,rY f1 f2 f3,[.t 4]))(kr:sy P f1)(kx:pf P f2)(AY:xW P f3):oW P g:=by
 intro g f;refine fH hr hm rfl fun hb=>?_;have vL:=hb.2.1;simp only[jz,eS,D.bd,D.vO,lM]at vL;have hl:=vL.2.1.1;unfold gp at hl;simp+contextual-implicitDefEqProofs only[rY,eG,jz,eS,lM,go_sem,eI,eB,Nat.reduceMul,Nat.reduceSub];refine fy ?_ (kr g) ?_;exact rfl;cases hg:xF g;simp+contextual-implicitDefEqProofs only[ot,hg,bne,bT,bN,bI,bG,bU,bJ,ah,ae,af,ab,go_sem,eI,eB,Nat.reduceMul,Nat.reduceSub];simp+contextual-implicitDefEqProofs only[hg,eS,lM,bne,bT,bN,bI,bG,bU,bJ,ah,ae,af,ab,go_sem,eI,eB,Nat.reduceMul,Nat.reduceSub];refine fy ?_ (kx f.2.2.length 1 60) ?_;exact rfl;cases hn:iR f.2.2.length 1 60;simp+contextual-implicitDefEqProofs only[ot,hg,hn,bne,bT,bN,bI,bG,bU,bJ,ah,ae,af,ab,go_sem,eI,eB,Nat.reduceMul,Nat.reduceSub];have yK:1≤(f.2.2.length:Int)∧(f.2.2.length:Int)≤60:=by simpa[iR]using hn
 simp+contextual-implicitDefEqProofs only[hn,eS,lM,bne,bT,bN,bI,bG,bU,bJ,ah,ae,af,ab,go_sem,eI,eB,Nat.reduceMul,Nat.reduceSub];rw[fF (by omega) (by omega)];refine fy ?_ (kx f.1 0 (f.2.2.length-1)) ?_;exact rfl;cases hs:iR f.1 0 (f.2.2.length-1);simp+contextual-implicitDefEqProofs only[ot,hg,hn,hs,bne,bT,bN,bI,bG,bU,bJ,ah,ae,af,ab,go_sem,eI,eB,Nat.reduceMul,Nat.reduceSub];simp+contextual-implicitDefEqProofs only[hs,eS,lM,bne,bT,bN,bI,bG,bU,bJ,ah,ae,af,ab,go_sem,eI,eB,Nat.reduceMul,Nat.reduceSub];refine mJ (α:=Nat) [4,7,30,31,32,33,34,35,36,37,38,39] (fun i=>[(30,.im none (.sc (.int .i64 i)))]) (fun i=>i≤f.2.2.length∧(f.2.2.take i).all (lT g f.2.2.length)=true) (fun i=>f.2.2.length-i) 0 (by simp only[f7,go_sem,lM];simp) ⟨bu _,rfl⟩ ?_;rintro i ⟨j1,j2⟩
 by_cases hi:i<f.2.2.length
 ·have e1:=iS (f:=jg) hi;cases n1:(jg f.2.2[i]).gJ
  all_goals
   simp+contextual-implicitDefEqProofs only[e1,hi,eS,xP.sub,xP.size,xP.fK,iL,lM,iN,aV,n1,bne,bT,bN,bI,bG,bU,bJ,ah,ae,af,ab,go_sem,eI,eB,Nat.reduceMul,Nat.reduceSub];refine fy ?_ (AY g f.2.2[i] f.2.2.length hg yK.1 yK.2) ?_;exact rfl;cases hx:lT g f.2.2.length f.2.2[i]
   ·simp+contextual-implicitDefEqProofs only[bne,bT,bN,bI,bG,bU,bJ,ah,ae,af,ab,go_sem,eI,eB,Nat.reduceMul,Nat.reduceSub];exact D.Le.gm (by simp only[ot,hg,hn,hs,bI];rw[po hi hx])
   simp+contextual-implicitDefEqProofs only[bne,bT,bN,bI,bG,bU,bJ,ah,ae,af,ab,go_sem,eI,eB,Nat.reduceMul,Nat.reduceSub];rw[fF (by omega) (by omega)];exact⟨i+1,⟨by omega,ke hi j2 hx⟩,by omega,iC.vP 7 (by simp only[go_sem,fQ,AV.refs,U.kill,kS]) (by simp only[f7,go_sem,iy,AV.refs,lM];simp)⟩
 simp+contextual-implicitDefEqProofs only[hi,eS,iL,lM,iN,bne,bT,bN,bI,bG,bU,bJ,ah,ae,af,ab,go_sem,eI,eB,Nat.reduceMul,Nat.reduceSub];exact D.Le.gm (by simp only[ot,hg,hn,hs,bI];rw[lE hi j2])
def zQ(f1 f2 f3:Nat):RC:=(.s [.b 2 2 0,.v 4 .cf] (.s [.m 7 1,.n 8 7,.f 9 1 8,.l 10 1 9,.o (.len 11 (.t 10)),.m 5 11] (.seq (.s [.L 12 2 2,.c 13 f1 [.t 12],.o (.un 14 .not (.t 13)),.m 15 14,.u 15 (.mv 16 (.t 5)),.u 15 (.call (some 17) f2 [.t 16,.ci 1,.ci 60]),.u 15 (.un 18 .not (.t 17)),.o (.pick 19 (.t 15) .ct (.t 18)),.m 20 19,.u 20 (.mv 21 (.t 1)),.u 20 (.nck 22 (.t 21)),.u 20 (.fa 23 0 (.t 22)),.u 20 (.ld 24 false 1 (.t 23)),.u 20 (.mv 25 (.t 5)),.u 20 (.bin 26 .sub (.t 25) (.ci 1)),.u 20 (.call (some 27) f2 [.t 24,.ci 0,.t 26]),.u 20 (.un 28 .not (.t 27)),.o (.pick 29 (.t 20) .ct (.t 28))] (.cond (.t 29) (.s [.v 4 .cf] .ret) .skip)) (.seq (.s [.v 6 (.ci 0)] (.iV 0 (.loop (.seq (.s [.m 30 6,.m 31 1,.n 32 31,.f 33 1 32,.l 34 1 33,.o (.len 35 (.t 34)),.o (.bin 36 .lss (.t 30) (.t 35))] (.cond (.t 36) .skip (.exit 0))) (.seq (.iV 1 (.seq (.gt true [.L 39 2 2,.m 40 1,.n 41 40,.f 42 1 41,.l 43 1 42,.m 44 6,.o (.ia 45 7 (.t 43) (.t 44)),.m 46 5,.c 47 f3 [.t 39,.t 45,.t 46],.o (.un 48 .not (.t 47))]) (.cond (.t 48) (.s [.v 4 .cf] .ret) .skip))) (.r [.m 37 6,.o (.bin 38 .add (.t 37) (.ci 1)),.m 6 38])))))) (.s [.v 4 .ct] .ret)))))
def uP(P:Program)(rR:Nat):Prop:=∀(g:Int×Int)(f:Fl),AF P rR [eG g,.pt (jz f) 0] (.own (eB (ot g f)))
def Jh(hm:Mx P)(hr:gq P g=some (49,zQ f1 f2 f3,[.t 4]))(kr:tH P f1)(kx:pI P f2)(AY:uX P f3):uP P g:=by
 intro g f;refine fH hr hm rfl fun hb=>?_;have vL:=hb.2.1;simp only[jz,eS,D.bd,D.vO,lM]at vL;have hl:=vL.2.1.1;unfold gp at hl;simp+contextual-implicitDefEqProofs only[zQ,eG,jz,eS,lM,go_sem,eI,eB,Nat.reduceMul,Nat.reduceSub];refine fy ?_ (kr g) ?_;exact rfl;cases hg:xF g;simp+contextual-implicitDefEqProofs only[ot,hg,bne,bT,bN,bI,bG,bU,bJ,ah,ae,af,ab,go_sem,eI,eB,Nat.reduceMul,Nat.reduceSub];simp+contextual-implicitDefEqProofs only[hg,eS,lM,bne,bT,bN,bI,bG,bU,bJ,ah,ae,af,ab,go_sem,eI,eB,Nat.reduceMul,Nat.reduceSub];refine fy ?_ (kx f.2.2.length 1 60) ?_;exact rfl;cases hn:iR f.2.2.length 1 60;simp+contextual-implicitDefEqProofs only[ot,hg,hn,bne,bT,bN,bI,bG,bU,bJ,ah,ae,af,ab,go_sem,eI,eB,Nat.reduceMul,Nat.reduceSub];have yK:1≤(f.2.2.length:Int)∧(f.2.2.length:Int)≤60:=by simpa[iR]using hn
 simp+contextual-implicitDefEqProofs only[hn,eS,lM,bne,bT,bN,bI,bG,bU,bJ,ah,ae,af,ab,go_sem,eI,eB,Nat.reduceMul,Nat.reduceSub];rw[fF (by omega) (by omega)];refine fy ?_ (kx f.1 0 (f.2.2.length-1)) ?_;exact rfl;cases hs:iR f.1 0 (f.2.2.length-1);simp+contextual-implicitDefEqProofs only[ot,hg,hn,hs,bne,bT,bN,bI,bG,bU,bJ,ah,ae,af,ab,go_sem,eI,eB,Nat.reduceMul,Nat.reduceSub];simp+contextual-implicitDefEqProofs only[hs,eS,lM,bne,bT,bN,bI,bG,bU,bJ,ah,ae,af,ab,go_sem,eI,eB,Nat.reduceMul,Nat.reduceSub];refine mJ (α:=Nat) [4,6,30,31,32,33,34,35,36,37,38,39,40,41,42,43,44,45,46,47,48] (fun i=>[(6,.im none (.sc (.int .i64 i)))]) (fun i=>i≤f.2.2.length∧(f.2.2.take i).all (lT g f.2.2.length)=true) (fun i=>f.2.2.length-i) 0 (by simp only[f7,go_sem,lM];simp) ⟨bu _,rfl⟩ ?_;rintro i ⟨j1,j2⟩
 by_cases hi:i<f.2.2.length
 ·have e1:=iS (f:=jg) hi;simp+contextual-implicitDefEqProofs only[e1,hi,eS,xP.sub,xP.size,xP.fK,iL,lM,iN,aV,bne,bT,bN,bI,bG,bU,bJ,ah,ae,af,ab,go_sem,eI,eB,Nat.reduceMul,Nat.reduceSub];refine fy ?_ (AY g f.2.2[i] f.2.2.length hg yK.1 yK.2) ?_;exact rfl;cases hx:lT g f.2.2.length f.2.2[i]
  ·simp+contextual-implicitDefEqProofs only[bne,bT,bN,bI,bG,bU,bJ,ah,ae,af,ab,go_sem,eI,eB,Nat.reduceMul,Nat.reduceSub];exact D.Le.gm (by simp only[ot,hg,hn,hs,bI];rw[po hi hx])
  simp+contextual-implicitDefEqProofs only[bne,bT,bN,bI,bG,bU,bJ,ah,ae,af,ab,go_sem,eI,eB,Nat.reduceMul,Nat.reduceSub];rw[fF (by omega) (by omega)];exact⟨i+1,⟨by omega,ke hi j2 hx⟩,by omega,iC.env (by simp only[f7,go_sem,lM];simp)⟩
 simp+contextual-implicitDefEqProofs only[hi,eS,iL,lM,iN,bne,bT,bN,bI,bG,bU,bJ,ah,ae,af,ab,go_sem,eI,eB,Nat.reduceMul,Nat.reduceSub];exact D.Le.gm (by simp only[ot,hg,hn,hs,bI];rw[lE hi j2])
def vh(e:List (Nat×MV)):List (Nat×MV)→Prop
 | []=>True
 |(k,v)::r=>qk e k=v∧vh e r
def HH{e:List (Nat×MV)}:∀{e':List (Nat×MV)},vh e e'→∀t,qk e' t=.any∨qk e' t=qk e t
 | [],_,t=>.inl rfl
 |(k,v)::r,h,t=>by
  simp only[qk]
  split
  ·next hk=>subst hk;exact .inr h.1.symm
  exact HH h.2 t
def pM.env{bx:Bool}{ds ds':List D}{e e':List (Nat×MV)}(hd:ds'=ds)(h:vh e e'):pM ⟨bx,ds,e⟩ ⟨bx,ds',e'⟩:=⟨rfl,hd,HH h⟩
def pU{α:Type}(mk:α→Int→α)(cnt:α→Nat):List α→Int→List α
 | [],_=>[]
 |x::r,k=>mk x k::pU mk cnt r (k+cnt x)
def gi{α:Type}(cnt:α→Nat):List α→Nat
 | []=>0
 |x::r=>cnt x+gi cnt r
section
variable {α:Type}{mk:α→Int→α}{cnt:α→Nat}
def gu:∀{l:List α} {k:Int},(pU mk cnt l k).length=l.length
 | [],_=>rfl
 |x::r,k=>by simp[pU,gu (l:=r)]
def qQ:∀{a b:List α},gi cnt (a++b)=gi cnt a+gi cnt b
 | [],b=>by simp[gi]
 |x::a,b=>by simp[gi,qQ (a:=a)];omega
def xd:∀{a b:List α} {k:Int},pU mk cnt (a++b) k=pU mk cnt a k++pU mk cnt b (k+gi cnt a)
 | [],b,k=>by simp[pU,gi]
 |x::a,b,k=>by simp only[bp,pU,xd (a:=a),gi];congr 3;push_cast;omega
def lf(mk:α→Int→α)(cnt:α→Nat)(l:List α)(k:Int)(i:Nat):List α:=pU mk cnt (l.take i) k++l.drop i
variable {k:Int}{i:Nat}
def iE{l:List α}:(lf mk cnt l k i).length=l.length:=by
 simp[lf,gu];omega
def nW{l:List α}:lf mk cnt l k 0=l:=by simp[lf,pU]
def nV{l:List α}(h:l.length≤i):lf mk cnt l k i=pU mk cnt l k:=by
 simp[lf,bZ h,bQ h]
def Jg{l:List α}(h:i<l.length):(lf mk cnt l k i)[i]'(by rw[iE];exact h)=l[i]:=by
 unfold lf;rw[List.getElem_append_right (by simp[gu];omega)];simp[gu,bl (db h)]
def lA{l:List α}(h:i<l.length):gi cnt (l.take (i+1))=gi cnt (l.take i)+cnt l[i]:=by
 rw[eD h,qQ];simp[gi]
def oH{l:List α}:gi cnt (l.take i)≤gi cnt l:=by
 conv=>rhs;rw[←bw i l,qQ]
 omega
def JR{l:List α}(h:i<l.length):(lf mk cnt l k i).set i (mk l[i] (k+gi cnt (l.take i)))=lf mk cnt l k (i+1):=by
 unfold lf;have h1:(pU mk cnt (l.take i) k).length=i:=by simp[gu];omega
 rw[List.set_append_right _ _ (by omega),h1,dO,eD h,xd,bz,cy h,ej];simp[pU]
def qH{f:α→D}{l:List α}(h:i<l.length):D.at ((lf mk cnt l k i).map f) i=f l[i]:=by
 rw[iS (by rw[iE];exact h),Jg h]
def nZ{f:α→D}{l:List α}(h:i<l.length){d:D}(hd:d=f (mk l[i] (k+gi cnt (l.take i)))):((lf mk cnt l k i).map f).set i d=(lf mk cnt l k (i+1)).map f:=by
 rw[hd,←dA,JR h]
def Tm{l:List α}(h:i<l.length):(pU mk cnt l k)[i]'(by rw[gu];exact h)=mk l[i] (k+gi cnt (l.take i)):=by
 induction l generalizing k i with
 |nil=>simp at h
 |cons x r ih=>
  cases i with
  |zero=>simp[pU,gi]
  |succ i=>
   simp only[pU,List.getElem_cons_succ,aG,gi];rw[ih (by simpa using h)];congr 1
   push_cast
   omega
def F7{f:α→D}{l:List α}(h:i<l.length):D.at ((pU mk cnt l k).map f) i=f (mk l[i] (k+gi cnt (l.take i))):=by
 rw[iS (by rw[gu];exact h),Tm h]
end
def kL:Int:=4611686018427387904
def Q3:RC:=
 (.seq
  (.gt false [⟨none,.mv 4 (.c (.sc (.int .i64 0)))⟩])
  ((.seq
   ((.seq
    (.gt false [⟨none,.mv 5 (.c (.sc (.int .i64 0)))⟩])
    (.iV 0
     (.loop
      ((.seq
       ((.seq
        (.gt false [⟨none,.mv 6 (.t 5)⟩,
          ⟨none,.mv 7 (.t 0)⟩,
          ⟨none,.len 8 (.t 7)⟩,
          ⟨none,.bin 9 .lss (.t 6) (.t 8)⟩])
        (.cond (.t 9)
         (.skip)
         (.exit 0))))
       ((.seq
        (.iV 1
         ((.seq
          (.gt false [⟨none,.mv 12 (.t 0)⟩,
            ⟨none,.mv 13 (.t 5)⟩,
            ⟨none,.mv 14 (.t 1)⟩,
            ⟨none,.ia 15 1 (.t 12) (.t 13)⟩,
            ⟨none,.st 1 (.t 15) (.t 14)⟩])
          (.gt false [⟨none,.mv 16 (.t 1)⟩,
            ⟨none,.bin 17 .add (.t 16) (.c (.sc (.int .i64 1)))⟩,
            ⟨none,.mv 1 (.t 17)⟩]))))
        (.gt false [⟨none,.mv 10 (.t 5)⟩,
          ⟨none,.bin 11 .add (.t 10) (.c (.sc (.int .i64 1)))⟩,
          ⟨none,.mv 5 (.t 11)⟩])))))))))
   ((.seq
    (.gt false [⟨none,.mv 18 (.t 1)⟩,
      ⟨none,.mv 4 (.t 18)⟩])
    (.ret))))))
def Qt:RC:=
 (.seq
  (.gt false [⟨none,.mv 4 (.c (.sc (.int .i64 0)))⟩])
  ((.seq
   ((.seq
    (.gt false [⟨none,.mv 5 (.c (.sc (.int .i64 0)))⟩])
    (.iV 0
     (.loop
      ((.seq
       ((.seq
        (.gt false [⟨none,.mv 6 (.t 5)⟩,
          ⟨none,.mv 7 (.t 0)⟩,
          ⟨none,.len 8 (.t 7)⟩,
          ⟨none,.bin 9 .lss (.t 6) (.t 8)⟩])
        (.cond (.t 9)
         (.skip)
         (.exit 0))))
       ((.seq
        (.iV 1
         ((.seq
          (.gt false [⟨none,.mv 12 (.t 0)⟩,
            ⟨none,.mv 13 (.t 5)⟩,
            ⟨none,.mv 14 (.t 1)⟩,
            ⟨none,.bin 15 .rem (.t 14) (.c (.sc (.int .i64 3)))⟩,
            ⟨none,.bin 16 .eql (.t 15) (.c (.sc (.int .i64 0)))⟩,
            ⟨none,.ia 17 1 (.t 12) (.t 13)⟩,
            ⟨none,.st 1 (.t 17) (.t 16)⟩])
          (.gt false [⟨none,.mv 18 (.t 1)⟩,
            ⟨none,.bin 19 .add (.t 18) (.c (.sc (.int .i64 1)))⟩,
            ⟨none,.mv 1 (.t 19)⟩]))))
        (.gt false [⟨none,.mv 10 (.t 5)⟩,
          ⟨none,.bin 11 .add (.t 10) (.c (.sc (.int .i64 1)))⟩,
          ⟨none,.mv 5 (.t 11)⟩])))))))))
   ((.seq
    (.gt false [⟨none,.mv 20 (.t 1)⟩,
      ⟨none,.mv 4 (.t 20)⟩])
    (.ret))))))
def QS:RC:=
 (.seq
  (.gt false [⟨none,.mv 4 (.c (.sc (.int .i64 0)))⟩])
  ((.seq
   ((.seq
    (.gt false [⟨none,.mv 5 (.c (.sc (.int .i64 0)))⟩])
    (.iV 0
     (.loop
      ((.seq
       ((.seq
        (.gt false [⟨none,.mv 6 (.t 5)⟩,
          ⟨none,.mv 7 (.t 0)⟩,
          ⟨none,.len 8 (.t 7)⟩,
          ⟨none,.bin 9 .lss (.t 6) (.t 8)⟩])
        (.cond (.t 9)
         (.skip)
         (.exit 0))))
       ((.seq
        (.iV 1
         ((.seq
          ((.seq
           (.gt false [⟨none,.mv 12 (.t 0)⟩,
             ⟨none,.mv 13 (.t 5)⟩,
             ⟨none,.ia 14 1 (.t 12) (.t 13)⟩,
             ⟨none,.ld 15 false 1 (.t 14)⟩,
             ⟨none,.mv 16 (.t 1)⟩,
             ⟨none,.bin 17 .neq (.t 15) (.t 16)⟩])
           (.cond (.t 17)
            ((.seq
             (.gt false [⟨none,.mv 4 (.c (.sc (.int .i64 (-1))))⟩])
             (.ret)))
            (.skip))))
          (.gt false [⟨none,.mv 18 (.t 1)⟩,
            ⟨none,.bin 19 .add (.t 18) (.c (.sc (.int .i64 1)))⟩,
            ⟨none,.mv 1 (.t 19)⟩]))))
        (.gt false [⟨none,.mv 10 (.t 5)⟩,
          ⟨none,.bin 11 .add (.t 10) (.c (.sc (.int .i64 1)))⟩,
          ⟨none,.mv 5 (.t 11)⟩])))))))))
   ((.seq
    (.gt false [⟨none,.mv 20 (.t 1)⟩,
      ⟨none,.mv 4 (.t 20)⟩])
    (.ret))))))
def TV:RC:=
 (.seq
  (.gt false [⟨none,.mv 4 (.c (.sc (.int .i64 0)))⟩])
  ((.seq
   ((.seq
    (.gt false [⟨none,.mv 5 (.c (.sc (.int .i64 0)))⟩])
    (.iV 0
     (.loop
      ((.seq
       ((.seq
        (.gt false [⟨none,.mv 6 (.t 5)⟩,
          ⟨none,.mv 7 (.t 0)⟩,
          ⟨none,.len 8 (.t 7)⟩,
          ⟨none,.bin 9 .lss (.t 6) (.t 8)⟩])
        (.cond (.t 9)
         (.skip)
         (.exit 0))))
       ((.seq
        (.iV 1
         ((.seq
          ((.seq
           (.gt false [⟨none,.mv 12 (.t 0)⟩,
             ⟨none,.mv 13 (.t 5)⟩,
             ⟨none,.ia 14 1 (.t 12) (.t 13)⟩,
             ⟨none,.ld 15 false 1 (.t 14)⟩,
             ⟨none,.mv 16 (.t 1)⟩,
             ⟨none,.bin 17 .rem (.t 16) (.c (.sc (.int .i64 3)))⟩,
             ⟨none,.bin 18 .eql (.t 17) (.c (.sc (.int .i64 0)))⟩,
             ⟨none,.beq 19 true (.t 15) (.t 18)⟩])
           (.cond (.t 19)
            ((.seq
             (.gt false [⟨none,.mv 4 (.c (.sc (.int .i64 (-1))))⟩])
             (.ret)))
            (.skip))))
          (.gt false [⟨none,.mv 20 (.t 1)⟩,
            ⟨none,.bin 21 .add (.t 20) (.c (.sc (.int .i64 1)))⟩,
            ⟨none,.mv 1 (.t 21)⟩]))))
        (.gt false [⟨none,.mv 10 (.t 5)⟩,
          ⟨none,.bin 11 .add (.t 10) (.c (.sc (.int .i64 1)))⟩,
          ⟨none,.mv 5 (.t 11)⟩])))))))))
   ((.seq
    (.gt false [⟨none,.mv 22 (.t 1)⟩,
      ⟨none,.mv 4 (.t 22)⟩])
    (.ret))))))
def Ir(f:Nat):RC:=
 (.seq
  (.gt false [⟨none,.mv 4 (.c (.sc (.int .i64 0)))⟩])
  ((.seq
   ((.seq
    (.gt false [⟨none,.mv 5 (.c (.sc (.int .i64 0)))⟩])
    (.iV 0
     (.loop
      ((.seq
       ((.seq
        (.gt false [⟨none,.mv 6 (.t 5)⟩,
          ⟨none,.mv 7 (.t 0)⟩,
          ⟨none,.len 8 (.t 7)⟩,
          ⟨none,.bin 9 .lss (.t 6) (.t 8)⟩])
        (.cond (.t 9)
         (.skip)
         (.exit 0))))
       ((.seq
        (.iV 1
         (.gt false [⟨none,.mv 12 (.t 0)⟩,
           ⟨none,.mv 13 (.t 5)⟩,
           ⟨none,.ia 14 1 (.t 12) (.t 13)⟩,
           ⟨none,.ld 15 false 1 (.t 14)⟩,
           ⟨none,.mv 16 (.t 1)⟩,
           ⟨none,.Eg 17 f (.t 15) (.t 16)⟩,
           ⟨none,.mv 1 (.t 17)⟩]))
        (.gt false [⟨none,.mv 10 (.t 5)⟩,
          ⟨none,.bin 11 .add (.t 10) (.c (.sc (.int .i64 1)))⟩,
          ⟨none,.mv 5 (.t 11)⟩])))))))))
   ((.seq
    (.gt false [⟨none,.mv 18 (.t 1)⟩,
      ⟨none,.mv 4 (.t 18)⟩])
    (.ret))))))
def IK(f:Nat):RC:=
 (.seq
  (.gt false [⟨none,.mv 4 (.c (.sc (.int .i64 0)))⟩])
  ((.seq
   ((.seq
    (.gt false [⟨none,.mv 5 (.c (.sc (.int .i64 0)))⟩])
    (.iV 0
     (.loop
      ((.seq
       ((.seq
        (.gt false [⟨none,.mv 6 (.t 5)⟩,
          ⟨none,.mv 7 (.t 0)⟩,
          ⟨none,.len 8 (.t 7)⟩,
          ⟨none,.bin 9 .lss (.t 6) (.t 8)⟩])
        (.cond (.t 9)
         (.skip)
         (.exit 0))))
       ((.seq
        (.iV 1
         ((.seq
          (.gt false [⟨none,.mv 12 (.t 0)⟩,
            ⟨none,.mv 13 (.t 5)⟩,
            ⟨none,.ia 14 1 (.t 12) (.t 13)⟩,
            ⟨none,.ld 15 false 1 (.t 14)⟩,
            ⟨none,.mv 16 (.t 1)⟩,
            ⟨none,.call (some 17) f [(.t 15),(.t 16)]⟩,
            ⟨none,.mv 1 (.t 17)⟩])
          ((.seq
           (.gt false [⟨none,.mv 18 (.t 1)⟩,
             ⟨none,.bin 19 .lss (.t 18) (.c (.sc (.int .i64 0)))⟩])
           (.cond (.t 19)
            ((.seq
             (.gt false [⟨none,.mv 4 (.c (.sc (.int .i64 (-1))))⟩])
             (.ret)))
            (.skip)))))))
        (.gt false [⟨none,.mv 10 (.t 5)⟩,
          ⟨none,.bin 11 .add (.t 10) (.c (.sc (.int .i64 1)))⟩,
          ⟨none,.mv 5 (.t 11)⟩])))))))))
   ((.seq
    (.gt false [⟨none,.mv 20 (.t 1)⟩,
      ⟨none,.mv 4 (.t 20)⟩])
    (.ret))))))
def Xk(_:Int)(k:Int):Int:=k
def XS(_:Bool)(k:Int):Bool:=k.tmod 3==0
def one{α:Type}(_:α):Nat:=1
def BT{α:Type}(x:α):one x=1:=rfl
def Wa{P:Program}{g:Nat}(hr:gq P g=some (19,Q3,[.t 4]))(nn:Option Bool)(xs:List Int)(k:Int)(h0:0≤k)(hb:k+gi one xs≤kL):
  Cr P g (.ls nn 1 (xs.map eI)) k (.ls nn 1 ((pU Xk one xs k).map eI)) (k+gi one xs):=by
 unfold kL at hb;refine yo hr (by omega) (by simp[gu]) fun yO bx mE=>?_;have yO:xs.length≤9223372036854775807:=by simpa[gp]using yO
 simp+contextual-implicitDefEqProofs only[Q3,gu,go_sem,eI,eB,Nat.reduceMul,Nat.reduceSub,iL,lM,iN,aV];refine yA (α:=Nat) (fun i=>⟨bx,(lf Xk one xs k i).map eI,[(0,.rt),(1,.va (.int .i64 (k+gi one (xs.take i)))),(5,.va (.int .i64 i))]⟩) (fun i=>i≤xs.length) (fun i=>xs.length-i) 0 (pM.env (by rw[nW]) (by simp only[vh,go_sem,aA,gi];simp)) (bu _) ?_;intro i j1
 by_cases hi:i<xs.length
 ·have vL:bx=true:=mE (by intro e;simp at e;subst e;simp at hi);have kr:=oH (cnt:=one) (l:=xs) (i:=i+1);have kx:=lA (cnt:=one) hi;have e1:=qH (mk:=Xk) (cnt:=one) (f:=eI) (k:=k) hi;subst vL;rw[BT]at kx;simp+contextual-implicitDefEqProofs only[e1,hi,iE,eI,D.sub,D.vF,D.put,D.fK,qX,go_sem,eB,Nat.reduceMul,Nat.reduceSub,iL,lM,iN,aV];rw[fF (by omega) (by omega),fF (by omega) (by omega)];have hk:k+(gi one (xs.take i):Int)+1=k+gi one (xs.take (i+1)):=by rw[kx];simp[one];omega
  rw[hk];exact⟨i+1,by omega,by omega,pM.env ((nZ hi rfl).symm) (by simp only[vh,go_sem,lM];simp)⟩
 simp+contextual-implicitDefEqProofs only[hi,iE,go_sem,eI,eB,Nat.reduceMul,Nat.reduceSub,iL,lM,iN,aV];have hl:xs.length≤i:=by omega
 rw[nV hl,bZ hl];simp
def Yh{P:Program}{g:Nat}(hr:gq P g=some (21,Qt,[.t 4]))(nn:Option Bool)(xs:List Bool)(k:Int)(h0:0≤k)(hb:k+gi one xs≤kL):
  Cr P g (.ls nn 1 (xs.map eB)) k (.ls nn 1 ((pU XS one xs k).map eB)) (k+gi one xs):=by
 unfold kL at hb;refine yo hr (by omega) (by simp[gu]) fun yO bx mE=>?_;have yO:xs.length≤9223372036854775807:=by simpa[gp]using yO
 simp+contextual-implicitDefEqProofs only[Qt,gu,go_sem,eI,eB,Nat.reduceMul,Nat.reduceSub,iL,lM,iN,aV];refine yA (α:=Nat) (fun i=>⟨bx,(lf XS one xs k i).map eB,[(0,.rt),(1,.va (.int .i64 (k+gi one (xs.take i)))),(5,.va (.int .i64 i))]⟩) (fun i=>i≤xs.length) (fun i=>xs.length-i) 0 (pM.env (by rw[nW]) (by simp only[vh,go_sem,aA,gi];simp)) (bu _) ?_;intro i j1
 by_cases hi:i<xs.length
 ·have vL:bx=true:=mE (by intro e;simp at e;subst e;simp at hi);have kr:=oH (cnt:=one) (l:=xs) (i:=i+1);have kx:=lA (cnt:=one) hi;have e1:=qH (mk:=XS) (cnt:=one) (f:=eB) (k:=k) hi;subst vL;rw[BT]at kx;simp+contextual-implicitDefEqProofs only[e1,hi,iE,eB,D.sub,D.vF,D.put,D.fK,qX,Int.reduceNe,ne_eq,go_sem,eI,Nat.reduceMul,Nat.reduceSub,iL,lM,iN,aV];rw[fF (by omega) (by omega),fF (by omega) (by omega)];have hk:k+(gi one (xs.take i):Int)+1=k+gi one (xs.take (i+1)):=by rw[kx];simp[one];omega
  rw[hk];refine⟨by decide,?_⟩;exact⟨i+1,by omega,by omega,pM.env ((nZ hi rfl).symm) (by simp only[vh,go_sem,lM];simp)⟩
 simp+contextual-implicitDefEqProofs only[hi,iE,go_sem,eI,eB,Nat.reduceMul,Nat.reduceSub,iL,lM,iN,aV];have hl:xs.length≤i:=by omega
 rw[nV hl,bZ hl];simp
section
variable {α:Type}{f:α→D}{mk:α→Int→α}{cnt:α→Nat}
def Zy{P:Program}{g h:Nat}(hr:gq P g=some (19,Ir h,[.t 4]))(e:FA f 1 false)(nn:Option Bool)(xs:List α)(k:Int)(hf:∀x∈xs,∀k:Int,0≤k→k+cnt x≤kL→Cr P h (f x) k (f (mk x k)) (k+cnt x))(h0:0≤k)(hb:k+gi cnt xs≤kL):
  Cr P g (.ls nn 1 (xs.map f)) k (.ls nn 1 ((pU mk cnt xs k).map f)) (k+gi cnt xs):=by
 unfold kL at hb;refine yo hr (by omega) (by simp[gu]) fun yO bx mE=>?_;have yO:xs.length≤9223372036854775807:=by simpa[gp]using yO
 simp+contextual-implicitDefEqProofs only[Ir,gu,go_sem,eI,eB,Nat.reduceMul,Nat.reduceSub,iL,lM,iN,aV];refine yA (α:=Nat) (fun i=>⟨bx,(lf mk cnt xs k i).map f,[(0,.rt),(1,.va (.int .i64 (k+gi cnt (xs.take i)))),(5,.va (.int .i64 i))]⟩) (fun i=>i≤xs.length) (fun i=>xs.length-i) 0 (pM.env (by rw[nW]) (by simp only[vh,go_sem,aA,gi];simp)) (bu _) ?_;intro i j1
 by_cases hi:i<xs.length
 ·have vL:bx=true:=mE (by intro e;simp at e;subst e;simp at hi);have kr:=oH (cnt:=cnt) (l:=xs) (i:=i+1);have kx:=lA (cnt:=cnt) hi;have e1:=qH (mk:=mk) (cnt:=cnt) (f:=f) (k:=k) hi;subst vL;simp+contextual-implicitDefEqProofs only[e1,hi,iE,e.sub,e.fK,go_sem,eI,eB,Nat.reduceMul,Nat.reduceSub,iL,lM,iN,aV];refine nC (e':=f (mk xs[i] (k+gi cnt (xs.take i)))) (n':=k+gi cnt (xs.take i)+cnt xs[i]) (by rw[e1,e.sub];exact hf xs[i] (aZ hi) _ (by omega) (by unfold kL;omega)) (by rw[e1,e.sub];exact e.fK _) (.inl ⟨rfl,rfl⟩) ?_;simp+contextual-implicitDefEqProofs only[e1,hi,iE,D.put,go_sem,eI,eB,Nat.reduceMul,Nat.reduceSub,iL,lM,iN,aV];rw[fF (by omega) (by omega)];have hk:k+(gi cnt (xs.take i):Int)+cnt xs[i]=k+gi cnt (xs.take (i+1)):=by rw[kx];omega
  rw[hk];exact⟨i+1,by omega,by omega,pM.env ((nZ hi rfl).symm) (by simp only[vh,go_sem,lM];simp)⟩
 simp+contextual-implicitDefEqProofs only[hi,iE,go_sem,eI,eB,Nat.reduceMul,Nat.reduceSub,iL,lM,iN,aV];have hl:xs.length≤i:=by omega
 rw[nV hl,bZ hl];simp
end
def Zw{P:Program}(hm:Mx P){g:Nat}(hr:gq P g=some (21,QS,[.t 4]))(nn:Option Bool)(xs:List Int)(k:Int)(h0:0≤k)(hb:k+gi one xs≤kL):
  AF P g [.ls nn 1 ((pU Xk one xs k).map eI),eI k] (.own (eI (k+gi one xs))):=by
 unfold kL at hb;refine fH hr hm rfl fun UX=>?_;have hl:=jn UX;unfold gp at hl;simp only[lM,gu]at hl;simp+contextual-implicitDefEqProofs only[QS,eI,gu,go_sem,eB,Nat.reduceMul,Nat.reduceSub,iL,lM,iN,aV];refine mJ (α:=Nat) [1,4,4,5,6,7,8,9,10,11,12,13,14,15,16,17,18,19] (fun i=>[(1,.im none (.sc (.int .i64 (k+gi one (xs.take i))))),(5,.im none (.sc (.int .i64 i)))]) (fun i=>i≤xs.length) (fun i=>xs.length-i) 0 (by simp only[f7,go_sem,lM,aA,gi];simp) (bu _) ?_;intro i j1
 by_cases hi:i<xs.length
 ·have kr:=oH (cnt:=one) (l:=xs) (i:=i+1);have kx:=lA (cnt:=one) hi;have e1:=F7 (mk:=Xk) (cnt:=one) (f:=eI) (k:=k) hi;rw[BT]at kx;simp+contextual-implicitDefEqProofs only[e1,hi,gu,eI,Xk,D.size,D.sub,D.gJ,bc,go_sem,eB,Nat.reduceMul,Nat.reduceSub,iL,lM,iN,aV];rw[fF (by omega) (by omega),fF (by omega) (by omega)];have hk:k+(gi one (xs.take i):Int)+1=k+gi one (xs.take (i+1)):=by rw[kx];simp[one];omega
  rw[hk];exact⟨i+1,by omega,by omega,iC.env (by simp only[f7,go_sem,lM];simp)⟩
 simp+contextual-implicitDefEqProofs only[hi,gu,go_sem,eI,eB,Nat.reduceMul,Nat.reduceSub,iL,lM,iN,aV];rw[bZ (by omega)];exact D.Le.refl _
def Zn{P:Program}(hm:Mx P){g:Nat}(hr:gq P g=some (23,TV,[.t 4]))(nn:Option Bool)(xs:List Bool)(k:Int)(h0:0≤k)(hb:k+gi one xs≤kL):
  AF P g [.ls nn 1 ((pU XS one xs k).map eB),eI k] (.own (eI (k+gi one xs))):=by
 unfold kL at hb;refine fH hr hm rfl fun UX=>?_;have hl:=jn UX;unfold gp at hl;simp only[lM,gu]at hl;simp+contextual-implicitDefEqProofs only[TV,eI,gu,go_sem,eB,Nat.reduceMul,Nat.reduceSub,iL,lM,iN,aV];refine mJ (α:=Nat) [1,4,4,5,6,7,8,9,10,11,12,13,14,15,16,17,18,19,20,21] (fun i=>[(1,.im none (.sc (.int .i64 (k+gi one (xs.take i))))),(5,.im none (.sc (.int .i64 i)))]) (fun i=>i≤xs.length) (fun i=>xs.length-i) 0 (by simp only[f7,go_sem,lM,aA,gi];simp) (bu _) ?_;intro i j1
 by_cases hi:i<xs.length
 ·have kr:=oH (cnt:=one) (l:=xs) (i:=i+1);have kx:=lA (cnt:=one) hi;have e1:=F7 (mk:=XS) (cnt:=one) (f:=eB) (k:=k) hi;rw[BT]at kx;simp+contextual-implicitDefEqProofs only[e1,hi,gu,eB,XS,D.size,D.sub,D.gJ,bc,Int.reduceNe,ne_eq,bT,go_sem,eI,Nat.reduceMul,Nat.reduceSub,iL,lM,iN,aV];rw[fF (by omega) (by omega),fF (by omega) (by omega)];have hk:k+(gi one (xs.take i):Int)+1=k+gi one (xs.take (i+1)):=by rw[kx];simp[one];omega
  rw[hk];exact⟨by decide,i+1,by omega,by omega,iC.env (by simp only[f7,go_sem,lM];simp)⟩
 simp+contextual-implicitDefEqProofs only[hi,gu,go_sem,eI,eB,Nat.reduceMul,Nat.reduceSub,iL,lM,iN,aV];rw[bZ (by omega)];exact D.Le.refl _
section
variable {α:Type}{f:α→D}{mk:α→Int→α}{cnt:α→Nat}
def Zm{P:Program}(hm:Mx P){g h:Nat}(hr:gq P g=some (21,IK h,[.t 4]))(e:FA f 1 false)(nn:Option Bool)(xs:List α)(k:Int)(hf:∀x∈xs,∀k:Int,0≤k→k+cnt x≤kL→AF P h [f (mk x k),eI k] (.own (eI (k+cnt x))))(h0:0≤k)(hb:k+gi cnt xs≤kL):
  AF P g [.ls nn 1 ((pU mk cnt xs k).map f),eI k] (.own (eI (k+gi cnt xs))):=by
 unfold kL at hb;refine fH hr hm rfl fun UX=>?_;have hl:=jn UX;unfold gp at hl;simp only[lM,gu]at hl;simp+contextual-implicitDefEqProofs only[IK,eI,gu,go_sem,eB,Nat.reduceMul,Nat.reduceSub,iL,lM,iN,aV];refine mJ (α:=Nat) [1,4,4,5,6,7,8,9,10,11,12,13,14,15,16,17,18,19] (fun i=>[(1,.im none (.sc (.int .i64 (k+gi cnt (xs.take i))))),(5,.im none (.sc (.int .i64 i)))]) (fun i=>i≤xs.length) (fun i=>xs.length-i) 0 (by simp only[f7,go_sem,lM,aA,gi];simp) (bu _) ?_;intro i j1
 by_cases hi:i<xs.length
 ·have kr:=oH (cnt:=cnt) (l:=xs) (i:=i+1);have kx:=lA (cnt:=cnt) hi;have e1:=F7 (mk:=mk) (cnt:=cnt) (f:=f) (k:=k) hi;simp+contextual-implicitDefEqProofs only[e1,hi,gu,e.sub,e.size,e.fK,D.gJ,go_sem,eI,eB,Nat.reduceMul,Nat.reduceSub,iL,lM,iN,aV];refine fy ?_ (hf xs[i] (aZ hi) (k+gi cnt (xs.take i)) (by omega) (by unfold kL;omega)) ?_;exact rfl;simp+contextual-implicitDefEqProofs only[e1,hi,go_sem,eI,eB,Nat.reduceMul,Nat.reduceSub,iL,lM,iN,aV];have hk:k+(gi cnt (xs.take i):Int)+cnt xs[i]=k+gi cnt (xs.take (i+1)):=by rw[kx];omega
  rw[hk];refine⟨fun h=>by omega,fun _=>?_⟩;rw[fF (by omega) (by omega)];exact⟨i+1,by omega,by omega,iC.env (by simp only[f7,go_sem,lM];simp)⟩
 simp+contextual-implicitDefEqProofs only[hi,gu,go_sem,eI,eB,Nat.reduceMul,Nat.reduceSub,iL,lM,iN,aV];rw[bZ (by omega)];exact D.Le.refl _
end
mutual
def iT:Ex→Nat
 |.mk _ _ _ ks=>2+GW ks
def GW:List Ex→Nat
 | []=>0
 |e::es=>iT e+GW es
end
def CA:∀ks:List Ex,GW ks=gi iT ks
 | []=>rfl
 |e::es=>by simp only[GW,gi,CA es]
mutual
def EA:Ex→Int→Ex
 |.mk _ _ nn ks=>fun m=>.mk m (m+1) nn (Sa ks (m+2))
def Sa:List Ex→Int→List Ex
 | []=>fun _=>[]
 |e::es=>fun m=>EA e m::Sa es (m+iT e)
end
def Hc:∀(ks:List Ex)(m:Int),Sa ks m=pU EA iT ks m
 | [],_=>rfl
 |e::es,m=>by simp only[Sa,pU,Hc es]
variable {n:Int}{ks:List Ex}{nn:Option Bool}
def wX{k:Int}:iT (.mk k n nn ks)=2+gi iT ks:=by rw[iT,CA]
def Wp{k:Int}{m:Int}:EA (.mk k n nn ks) m=.mk m (m+1) nn (pU EA iT ks (m+2)):=by rw[EA];simp only[Hc]
def Ex.ex(e:Ex):∃k n nn ks,e=.mk k n nn ks:=by cases e;exact⟨_,_,_,_,rfl⟩
def wi(g:Nat):RC:=(.s [.v 4 (.ci 0)] (.seq (.s [.v 5 (.ci 0)] (.iV 0 (.loop (.seq (.s [.m 6 5,.m 7 0,.o (.len 8 (.t 7)),.o (.bin 9 .lss (.t 6) (.t 8))] (.cond (.t 9) .skip (.exit 0))) (.seq (.iV 1 (.s [.m 12 0,.m 13 5,.m 14 1,.o (.ia 15 3 (.t 12) (.t 13)),.f 16 0 15,.s 1 16 14] (.s [.m 17 1,.o (.bin 18 .add (.t 17) (.ci 1)),.m 1 18] (.s [.m 19 0,.m 20 5,.m 21 1,.o (.ia 22 3 (.t 19) (.t 20)),.f 23 1 22,.s 1 23 21] (.s [.m 24 1,.o (.bin 25 .add (.t 24) (.ci 1)),.m 1 25] (.r [.m 26 0,.m 27 5,.o (.ia 28 3 (.t 26) (.t 27)),.f 29 2 28,.l 30 1 29,.m 31 1,.o (.Eg 32 g (.t 30) (.t 31)),.m 1 32])))))) (.r [.m 10 5,.o (.bin 11 .add (.t 10) (.ci 1)),.m 5 11])))))) (.s [.m 33 1,.m 4 33] .ret)))
def qW(P:Program)(rR:Nat):Prop:=∀(nn:Option Bool)(xs:List Ex)(k:Int),0≤k→k+gi iT xs≤kL→Cr P rR (.ls nn 3 (xs.map eE)) k (.ls nn 3 ((pU EA iT xs k).map eE)) (k+gi iT xs)
variable {g:Nat}
def DW{P:Program}(hm:Mx P)(hr:gq P g=some (34,wi g,[.t 4])):qW P g:=by
 intro nn xs k h0 hb;refine Ex.ind (p:=fun e=>∀(nn:Option Bool)(k:Int),0≤k→k+gi iT e.ks≤kL→Cr P g (.ls nn 3 (e.ks.map eE)) k (.ls nn 3 ((pU EA iT e.ks k).map eE)) (k+gi iT e.ks)) (fun _ _ _ xs ih nn k h0 hb=>?_) (Ex.mk 0 0 none xs) nn k h0 hb;simp only[Ex.PP]at hb⊢;unfold kL at hb;refine yo hr (by omega) (by simp[gu]) fun yO bx mE=>?_;have yO:xs.length≤9223372036854775807:=by simpa[gp]using yO
 simp+contextual-implicitDefEqProofs only[wi,gu,go_sem,eI,eB,Nat.reduceMul,Nat.reduceSub,iL,lM,iN,aV];refine yA (α:=Nat) (fun i=>⟨bx,(lf EA iT xs k i).map eE,[(0,.rt),(1,.va (.int .i64 (k+gi iT (xs.take i)))),(5,.va (.int .i64 i))]⟩) (fun i=>i≤xs.length) (fun i=>xs.length-i) 0 (pM.env (by rw[nW]) (by simp only[vh,go_sem,aA,gi];simp)) (bu _) ?_;intro i j1
 by_cases hi:i<xs.length
 ·have vL:bx=true:=mE (by intro e;simp at e;subst e;simp at hi);have kr:=oH (cnt:=iT) (l:=xs) (i:=i+1);have kx:=lA (cnt:=iT) hi;have e1:=qH (mk:=EA) (cnt:=iT) (f:=eE) (k:=k) hi;have ihx:=ih xs[i] (aZ hi);have uq:=nZ (mk:=EA) (cnt:=iT) (f:=eE) (k:=k) hi (d:=eE (EA xs[i] (k+gi iT (xs.take i)))) rfl;obtain⟨ek,en,enn,eks,hx⟩:=Ex.ex xs[i];rw[hx]at e1 kx ihx uq;rw[kQ]at e1;rw[Wp,kQ]at uq;rw[wX]at kx;simp only[Ex.PP]at ihx;have nl:∀d,D.at (((lf EA iT xs k i).map eE).set i d) i=d:=fun d=>qX (by simp[iE];exact hi);subst vL;have hw1:IntKind.i64.wrap (k+gi iT (xs.take i)+1)=k+gi iT (xs.take i)+1:=fF (by omega) (by omega);have K8:IntKind.i64.wrap (k+gi iT (xs.take i)+1+1)=k+gi iT (xs.take i)+1+1:=fF (by omega) (by omega);simp+contextual-implicitDefEqProofs only[e1,hi,hw1,K8,nl,iE,List.length_set,dy,D.sub,D.vF,D.put,D.fK,D.cells,go_sem,eI,eB,Nat.reduceMul,Nat.reduceSub,iL,lM,iN,aV];refine nC (e':=.ls enn 3 ((pU EA iT eks (k+gi iT (xs.take i)+1+1)).map eE)) (n':=k+gi iT (xs.take i)+1+1+gi iT eks) ?_ ?_ ?_ ?_;simp only[nl,D.sub,kY,aH,aF,aD];exact ihx enn _ (by omega) (by unfold kL;omega);simp only[nl,D.sub,kY,aH,aF,aD,D.fK]
  ·right;simp only[nl,D.fK]
  simp+contextual-implicitDefEqProofs only[nl,dy,D.put,D.cells,go_sem,eI,eB,Nat.reduceMul,Nat.reduceSub,iL,lM,iN,aV];rw[fF (by omega) (by omega)];have hk:k+(gi iT (xs.take i):Int)+1+1+gi iT eks=k+gi iT (xs.take (i+1)):=by rw[kx];push_cast;omega
  have tb:k+(gi iT (xs.take i):Int)+1+1=k+gi iT (xs.take i)+2:=by omega
  rw[hk,tb];exact⟨i+1,by omega,by omega,pM.env (by rw[←uq]) (by simp only[vh,go_sem,lM];simp)⟩
 simp+contextual-implicitDefEqProofs only[hi,iE,go_sem,eI,eB,Nat.reduceMul,Nat.reduceSub,iL,lM,iN,aV];have hl:xs.length≤i:=by omega
 rw[nV hl,bZ hl];simp
def qa:Ex→Nat
 |.mk _ _ _ ks=>gi iT ks
def t4{k:Int}:qa (.mk k n nn ks)=gi iT ks:=by rw[qa]
variable {P:Program}
variable {ds:List D}{j sz:Nat}
def fX:D.sub (.ag ds) j sz true=.ag ((ds.drop j).take sz):=rfl
def fW:D.sub (.ag ds) j sz false=ds.getD j default:=rfl
def AO:List Nat→St→St
 | [],st=>st
 |k::ks,st=>AO ks (st.del k)
def iC.aeb:∀(ks:List Nat)(st:St),iC st (AO ks st)
 | [],st=>iC.refl st
 |k::ks,st=>iC.trans (iC.del st k) (iC.aeb ks (st.del k))
variable {st:St}
def J2:AO [] st=st:=rfl
attribute [go_sem] J2
variable {k:Nat}
def Gn{ks:List Nat}:AO (k::ks) st=AO ks (st.del k):=rfl
attribute [go_sem] Gn
def F6{v:AV}{e:List (Nat×AV)}{t:Nat}:∀{ts:List Nat},lk (ts.map (fun t=>(t,v))++e) t=if t∈ts then v else lk e t
 | []=>by simp
 |a::ts=>by
  simp only[lC,bp,lk,F6 (ts:=ts),aj]
  by_cases h:a=t;simp[h];simp[h,di h]
def iC.ren(st:St)(k k':Nat)(ts:List Nat)(d:D)(hu:lu st.us k=some (.own d))(hk:o9 k' (st.del k).us=true)(ht:∀t∈ts,lk st.env t=.tr k):
  iC st ⟨st.n,ts.map (fun t=>(t,.tr k'))++(st.del k).env,(k',.own d)::(st.del k).us⟩:=by
 intro n0 S0 M0 w0 a w hs;obtain⟨g,Cz,hv⟩:=hs.gh;have hm:=fB hu;obtain⟨hU,hK⟩:=Cz.del k;have py:=Cz.each _ hm;simp only[hP]at py;obtain⟨h1,h2,h3⟩:=py;have hφ:∀b∈g.φ k,b∈fp g st.us:=fun b hb=>fL.2 ⟨_,hm,hb⟩;have kZ:∀b∈g.φ k,b∉fp (g.drop k) (fQ k (AV.refs k) st.us):=by
  intro b hb Pj;obtain⟨x,hx,mE⟩:=fL.1 Pj;obtain⟨gw,u,za,_⟩:=gf hx;have aaw:b∈g.φ x.1:=by simpa[Gh.drop,gw]using mE
  exact gw (gK Cz.keys Cz.nodup za hm aaw hb)
 obtain⟨hA,hV⟩:=hU.Ph (u:=.own d) (β:=none) (cap:=0) (F:=g.φ k) (v:=g.root k) (n:=k') (ir hk) (fun b hb=>h2.lt b hb) (gO Cz hm) (fun b hb gI=>Cz.low b (hφ b hb) gI) kZ
  (fun b hb hS=>(Cz.sh b hS).2.2 (hφ b hb)) (fun b hb=>Cz.fz b (hφ b hb)) (by simp only[hP,Gh.add,aK];exact⟨trivial,h2,h3⟩)
 refine⟨hs.ms,hs.mS,hs.tm,hs.base,hs.os,hs.tape,hs.output,hs.size,hs.iD,_,hA,fun t=>?_⟩;simp only[F6]
 split
 ·next yD=>
  have:=hv t;rw[ht t yD]at this;simp only[fx]at this⊢;exact⟨⟨d,by simp⟩,by simp[Gh.add,this.2]⟩
 exact hV _ _ (gT (fun av v hf hr=>fx.iq hK hf hr) (hv t))
def wq{α:Type}:∀{l l':List α},l'.Nodup→(∀x∈l',x∈l)→l.length=l'.length→l'.Perm l
 | [],l',_,_,hl=>by
  have:l'=[]:=eX.1 (by simpa using hl.symm);subst this;exact List.Perm.refl _
 |a::l,l',hn,hs,hl=>by
  by_cases ha:a∈l'
  ·obtain⟨s,t,rfl⟩:=List.append_of_mem ha;have hp:(s++a::t).Perm (a::(s++t)):=List.perm_middle;have yK:=hp.nodup_iff.1 hn;rw[aP]at yK;refine hp.trans (List.Perm.cons a (wq yK.2 ?_ (by simp at hl⊢;omega)));intro x hx;have:=hs x (hp.mem_iff.2 (by simp[hx]));rcases aj.1 this with rfl|h
   exact absurd hx yK.1;exact h
  exfalso;have key:∀{m:List α} {l:List α},m.Nodup→(∀x∈m,x∈l)→m.length≤l.length:=by
   intro m
   induction m with
   |nil=>intro l _ _;simp
   |cons b m ih=>
    intro l hn hs;rw[aP]at hn;obtain⟨s,t,rfl⟩:=List.append_of_mem (hs b (by simp));have:=ih (l:=s++t) hn.2 (fun x hx=>by
     have h1:=hs x (by simp[hx]);simp only[ax,aj]at h1⊢;rcases h1 with h1|rfl|h1
     exact .inl h1;exact absurd hx hn.1;exact .inr h1)
    simp at this⊢;omega
  have h2:∀x∈l',x∈l:=fun x hx=>by
   rcases aj.1 (hs x hx)with rfl|h
   exact absurd hx ha;exact h
  have:=key hn h2;simp at hl;omega
def BV:List (Nat×U)→Bool
 | []=>true
 |(k,_)::r=>o9 k r&&BV r
def ub:∀{us:List (Nat×U)},BV us=true→(us.map (·.1)).Nodup
 | [],_=>by simp
 |(k,u)::r,h=>by
  simp only[BV,bA]at h;simp only[lC,aP];exact⟨ir h.1,ub h.2⟩
variable {us:List (Nat×U)}
def iC.to{n:Nat}{e e1 e':List (Nat×AV)}{us1 us':List (Nat×U)}(ks:List Nat)(h1:AO ks ⟨n,e,us⟩=⟨n,e1,us1⟩)(hk:BV us'=true)(hm:∀x∈us',x∈us1)(hl:us1.length=us'.length)(he:f7 e1 e'):iC ⟨n,e,us⟩ ⟨n,e',us'⟩:=by
 refine iC.trans (iC.aeb ks _) ?_;rw[h1];refine iC.trans (iC.perm (us':=us') (wq ?_ hm hl)) (iC.env he);have:=ub hk;exact List.Pairwise.of_map (·.1) (fun a b h e=>h (e▸rfl)) this
def qR{P:Program}{c:RC}{K:Exit→St→Prop}{α:Type}{n:Nat}{env:List (Nat×AV)}{us:List (Nat×U)}(ks:List Nat)(mc:α→List (Nat×AV))(U:α→List (Nat×U))(J:α→Prop)(μ:α→Nat)(x0:α)
  (h0:iC ⟨n,env,us⟩ ⟨n,mc x0++jQ ks env,U x0⟩) (hJ:J x0)
  (h:∀x,J x→qu P c ⟨n,mc x++jQ ks env,U x⟩ (vw (fun s=>∃y,J y∧μ y<μ x∧iC s ⟨n,mc y++jQ ks env,U y⟩) K)):qu P (.loop c) ⟨n,env,us⟩ K:=
 oL (fun x=>⟨n,mc x++jQ ks env,U x⟩) J μ x0 h0 hJ h
variable {d:D}
def D.Le.of_eq{e:D}(h:d=e):d.Le e:=h▸D.Le.refl _
def AF.sh{P:Program}{f:Nat}(h:AF P f ds (.own d)):AF P f ds (.sh d):=by
 refine⟨h.1,fun w vs iD ha=>(h.2 w vs iD ha).mono ?_⟩;rintro e w' ⟨v,F,G,rfl,hB,hR,hn,hF,hG⟩;simp only[jl]at hR;obtain⟨rfl,hR,hf⟩:=hR;refine⟨v,[],F,rfl,hB,by simp only[jl];exact⟨trivial,hR,hf⟩,bC,by simp,fun b hb=>.inl ⟨(hF b hb).1,hR.lt b hb⟩⟩
def vT{α:Type}(l:List α):Option Bool:=match l with| []=>some true|_=>some false
def wW{α:Type}{l:List α}(h:0<l.length):vT l=some false:=by cases l with|nil=>simp at h|cons=>rfl
variable {P:Program}{wv:Wv}{n0:Nat}{S0 M0:Nat→Prop}{w0:World}
def gr.sub{h:ij}{Ch:List (Nat×U)}{g g':Gh}(hu:gr h n0 S0 M0 us g)(hms:∀b,b<n0→M0 b→S0 b)(hk:(Ch.map (·.1)).Nodup)(hm:∀y∈Ch,∃u,(y.1,u)∈us)
  (hφ:∀y∈Ch,g'.φ y.1=g.φ y.1) (hd:∀i,i∉Ch.map (·.1)→g'.φ i=[]) (lw:∀b,g'.Sh b→g.Sh b∨∃i u,(i,u)∈us∧i∉Ch.map (·.1)∧b∈g.φ i)
  (he:∀y∈Ch,hP h Ch g' y.1 y.2) (hp:∀y∈Ch,y.2.jL=true→(∃u,(y.1,u)∈us∧u.jL=true)∧g'.β y.1=g.β y.1∧g'.cap y.1=g.cap y.1):gr h n0 S0 M0 Ch g':=by
 have fpm:∀b,b∈fp g' Ch→b∈fp g us:=by
  intro b hb;obtain⟨y,hy,lF⟩:=fL.1 hb;obtain⟨u,rN⟩:=hm y hy;rw[hφ y hy]at lF;exact fL.2 ⟨_,rN,lF⟩
 refine⟨hk,mq hk ?_ ?_,fun b hb=>hu.lt b (fpm b hb),fun b hb=>hu.low b (fpm b hb),hd,?_,he,fun b hb=>hu.fz b (fpm b hb),hu.ww.mono fun i u su wy=>hp _ su wy⟩;intro y hy;obtain⟨u,rN⟩:=hm y hy;rw[hφ y hy];exact gO hu rN;intro y hy z hz b lF hbz;obtain⟨u,rN⟩:=hm y hy;obtain⟨v,UF⟩:=hm z hz;rw[hφ y hy]at lF;rw[hφ z hz]at hbz;exact gK (x:=(y.1,u)) (y:=(z.1,v)) hu.keys hu.nodup rN UF lF hbz;intro b hb;rcases lw b hb with h1|⟨i,u,h1,h2,h3⟩
 ·obtain⟨q1,q2,q3⟩:=hu.sh b h1;exact⟨q1,q2,fun hf=>q3 (fpm b hf)⟩
 have hf:=fL.2 ⟨_,h1,h3⟩;refine⟨hu.lt b hf,fun gI=>hms b gI (hu.low b hf gI),fun pz=>?_⟩;obtain⟨y,hy,lF⟩:=fL.1 pz;obtain⟨v,hv⟩:=hm y hy;rw[hφ y hy]at lF;have:=gK (x:=(i,u)) (y:=(y.1,v)) hu.keys hu.nodup h1 hv h3 lF;exact h2 (aR.2 ⟨y,hy,this.symm⟩)
def ql(k:Nat)(u:U)(v:AV):AV:=
 match u,v with
 |.ar _ nn sz es,.sm i off len=>if i=k then(if off=0∧len=es.length then .im none (.ls nn sz es)else .any)else .sm i off len
 |.ar _ _ _ es,.pw i el j=>if i=k then .im none (.pt (D.at es el) j)else .pw i el j
 |.own d,.tr i=>if i=k then .im none d else .tr i
 |_,v=>if v.refs k then .any else v
def Fz(k:Nat)(u:U):List (Nat×AV)→List (Nat×AV)
 | []=>[]
 |(i,v)::r=>(i,ql k u v)::Fz k u r
def St.frz(st:St)(k:Nat)(u:U):St:=⟨st.n,Fz k u st.env,fQ k (AV.refs k) st.us⟩
variable {u:U}
def HI{t:Nat}:∀{env:List (Nat×AV)},lk (Fz k u env) t=ql k u (lk env t)∨(lk (Fz k u env) t=.any)
 | []=>.inr rfl
 |(i,v)::r=>by
  simp only[Fz,lk]
  split;exact .inl rfl;exact HI
def abl:U→Bool
 |.ar _ _ _ _=>true
 |.own _=>true
 |_=>false
def iC.frz(st:St)(k:Nat){u:U}(hu:lu st.us k=some u)(i9:abl u=true):iC st (st.frz k u):=by
 intro n0 S0 M0 w0 a w h;obtain⟨g,hU,hR⟩:=h.gh;have hm:=fB hu
 let g':Gh:=⟨g.β,fun i=>if i=k then[]else g.φ i,g.root,g.cap,fun b=>g.Sh b∨b∈g.φ k⟩
 have gφ:∀i,i≠k→g'.φ i=g.φ i:=fun i hi=>by simp[g',hi]
 have K:me [] [k] (AV.refs k) w.heap w.heap st.us (fQ k (AV.refs k) st.us) g g':=by
  refine⟨fun av hf=>⟨by simp,by simpa using hf⟩,?_,fun _ _=>⟨rfl,rfl,rfl⟩,fun _ _ _ _ _ _ _=>rfl,?_,by simp⟩;intro i u hi _ h1;simp only[am]at h1;exact iY hi h1;intro t d F cs _ h2 hr i9;simp only[am,bj]at h2;refine⟨hr,fun x hx=>?_⟩;rcases i9 x hx with q|⟨i,rfl,q,q'⟩
  exact .inl (.inl q);exact .inr ⟨i,rfl,by rw[gφ i fun e=>h2 (by rw[e])];exact q,q'⟩
 have oR:((fQ k (AV.refs k) st.us).map (·.1)).Nodup:=by
  rw[gn];exact hU.keys.filter _
 have nk:∀y∈fQ k (AV.refs k) st.us,y.1≠k∧∃u,(y.1,u)∈st.us∧y.2=u.kill (AV.refs k):=fun y hy=>gf hy;have gF:∀(v:AV)(x:Value),fx w.heap st.us g v x→fx w.heap (fQ k (AV.refs k) st.us) g' (ql k u v) x:=by
  intro v x hv;have yL:fx w.heap (fQ k (AV.refs k) st.us) g' (if v.refs k then .any else v) x:=by
   split;simp[fx]
   next hf=>exact K.rep v x (by simpa using hf) hv
  have rdc:∀(d:D),v.rd (lu st.us)=some (some k,d)→fx w.heap (fQ k (AV.refs k) st.us) g' (.im none d) x:=by
   intro d hd;obtain⟨F,r1,r2,r3⟩:=Fe hU hv hd;simp only[fx];refine⟨F,r1,r2,fun b hb=>.inl ?_⟩;rcases r3 b hb with q|⟨k',e,q⟩
   exact .inl q;injection e with e;subst e;exact .inr q
  unfold ql
  split
  ·next ow nn sz es i off len=>
   split
   ·next e=>
    subst e
    split
    ·next e2=>
     obtain⟨rfl,rfl⟩:=e2;refine rdc _ ?_;simp[AV.rd,Yw,hu]
    simp[fx]
   next e=>exact K.rep _ x (by simpa[AV.refs]using e) hv
  ·next ow nn sz es i el j=>
   split
   ·next e=>
    subst e;refine rdc _ ?_;simp[AV.rd,Xc,hu]
   next e=>exact K.rep _ x (by simpa[AV.refs]using e) hv
  ·next d i=>
   split
   ·next e=>
    subst e;refine rdc _ ?_;simp[AV.rd,AV.den,hu]
   next e=>exact K.rep _ x (by simpa[AV.refs]using e) hv
  exact yL
 refine⟨h.ms,h.mS,h.tm,h.base,h.os,h.tape,h.output,h.size,h.iD,g',hU.sub h.ms oR (fun y hy=>let⟨_,u,h1,_⟩:=nk y hy;⟨u,h1⟩) (fun y hy=>gφ _ (nk y hy).1) ?_ ?_ ?_ ?_,fun t=>?_⟩
 ·intro i hi
  by_cases e:i=k;simp[g',e]
  rw[gφ i e];refine hU.dead i fun su=>hi ?_
  show i∈(fQ k (AV.refs k) st.us).map (·.1)
  rw[gn];exact aX.2 ⟨su,by simpa using e⟩
 ·intro b hb;rcases hb with hb|hb
  exact .inl hb;exact .inr ⟨k,u,hm,by show k∉(fQ k (AV.refs k) st.us).map (·.1);rw[gn];simp[aX],hb⟩
 intro y hy;obtain⟨n1,u,h1,h2⟩:=nk y hy;rw[h2];exact(hU.each _ h1).oQ K h1 (by simp) (by simpa using n1) (gφ _ n1) (fun _ _=>rfl) (fun _ hx=>⟨.inl hx,rfl⟩);intro y hy wy;obtain⟨n1,u,h1,h2⟩:=nk y hy;rw[h2,U.qZ]at wy;exact⟨⟨_,h1,wy⟩,rfl,rfl⟩;rcases HI (k:=k) (u:=u) (t:=t) (env:=st.env)with e|e
 simp only[St.frz];rw[e];exact gF _ _ (hR t);simp only[St.frz];rw[e];simp[fx]
def Hu(es:List D)(ow:Bool)(sz:Nat)(st:St):Prop:=∃k,lu st.us 3000000000=some (.bx 1 [.sm k 0 es.length])∧k≠3000000000∧lu st.us k=some (.ar ow (some false) sz es)
def lvE(xs:List RV)(es:List D)(ow:Bool)(sz:Nat)(e:Exit)(st:St):Prop:=
 match e with
 |.normal=>ti st xs fun _=>Hu es ow sz st
 |.ret=>ti st xs fun _=>Hu es ow sz st
 |_=>False
variable {ow:Bool}{es:List D}{xs:List RV}
def Gp:lvE xs es ow sz .normal st=ti st xs fun _=>Hu es ow sz st:=rfl
def SN:lvE xs es ow sz .ret st=ti st xs fun _=>Hu es ow sz st:=rfl
attribute [go_sem] Gp SN
variable {i:Nat}
def On:lvE xs es ow sz (.exit i) st=False:=rfl
attribute [go_sem] On
variable {env:List (Nat×AV)}
def NI{n:Nat}{id:Nat}:St.GE ⟨n,env,us⟩ id k es ow sz=
 ⟨n,iy (lv k id) env,(id,.bx 1 [.sm k 0 es.length])::(k,.ar ow (some false) sz es)::fQ id (lv k id) (fQ k (lv k id) us)⟩:=rfl
def SR{n:Nat}:St.frz ⟨n,env,us⟩ k u=⟨n,Fz k u env,fQ k (AV.refs k) us⟩:=rfl
attribute [go_sem] NI SR
attribute [go_sem] Fz
variable {len off:Nat}
def RG:ql k (.ar ow nn sz es) (.sm i off len)=if i=k then(if off=0∧len=es.length then .im none (.ls nn sz es)else .any)else .sm i off len:=rfl
def RR:ql k (.own d) (.tr i)=if i=k then .im none d else .tr i:=rfl
def QZ{t:Option Nat}:ql k u (.im t d)=if(t==some k)=true then .any else .im t d:=by cases u<;>rfl
def N4:ql k u .any=.any:=by cases u<;>rfl
def Sr:ql k u (.pb i j)=if(i==k)=true then .any else .pb i j:=by cases u<;>rfl
attribute [go_sem] RG RR QZ N4 Sr
variable {el:Nat}
def Te:ql k (.ar ow nn sz es) (.pw i el j)=if i=k then .im none (.pt (D.at es el) j)else .pw i el j:=rfl
def LH:ql k (.own d) (.pw i el j)=if(i==k)=true then .any else .pw i el j:=rfl
def Tv{agg:Bool}:ql k u (.cw i el j sz agg)=if(i==k)=true then .any else .cw i el j sz agg:=by cases u<;>rfl
def Sx:ql k u (.vb i len)=if(i==k)=true then .any else .vb i len:=by cases u<;>rfl
def SS:ql k u (.ss i off len)=if(i==k)=true then .any else .ss i off len:=by cases u<;>rfl
def Nr:ql k (.ar ow nn sz es) (.tr i)=if(i==k)=true then .any else .tr i:=rfl
def M6:ql k (.own d) (.sm i off len)=if(i==k)=true then .any else .sm i off len:=rfl
def Qv{vs:List AV}:ql k u (.sg vs)=if(AV.refs k (.sg vs))=true then .any else .sg vs:=by cases u<;>rfl
def MO{vs:List AV}:ql k u (.jS vs)=if(AV.refs k (.jS vs))=true then .any else .jS vs:=by cases u<;>rfl
attribute [go_sem] Te LH Tv Sx SS Nr M6 Qv MO
def AFP.sh{f:Nat}(h:AFP P f)(k:Int){a b:D}(ha:a.fK=true)(ha3:a.size=3)(hb:b.fK=true)(hb3:b.size=3):
  AF P f [.sc (.int .i64 k),a,b] (.sh (.ag [.sc (.int .i64 k),.sc (.int .i64 0),.ls (some false) 3 [a,b]])):=by
 obtain⟨h1,h2⟩:=h;refine⟨h1,fun w vs iD hr=>?_⟩;have agg:∀{d:D} {v:Value} {F:List Nat},d.fK=true→d.size=3→d.fits v→f8 w.heap d F v.cells.toList→∃c:Array Value,v=.agg c∧c.size=3∧f8 w.heap d F c.toList:=by
  intro d v F hd hd3 hf hr;cases d with
  |ag ds=>
   obtain⟨c,rfl⟩:=hf;have:=hr.length;rw[hd3]at this;exact⟨c,rfl,by simpa[Value.cells]using this,by simpa[Value.cells]using hr⟩
  |_=>simp[D.fK]at hd
 simp only[gM]at hr;obtain⟨v1,_,F1,rfl,r1,f1,o1,v2,_,F2,rfl,r2,f2,o2,v3,_,F3,rfl,r3,f3,o3,rfl⟩:=hr;have e1:v1=.int .i64 k:=by
  simp only[f8]at r1;have hc:=fP (by simpa[D.fits]using f1);rw[hc]at r1;simpa using r1.2.1
 subst e1;obtain⟨c2,rfl,s2,r2⟩:=agg ha ha3 f2 r2;obtain⟨c3,rfl,s3,r3⟩:=agg hb hb3 f3 r3;refine(h2 k c2 c3 w s2 s3).mono ?_;rintro e w' ⟨⟨x,t,rfl,hx,hh⟩,hB⟩;have fr:∀y,y<w.heap.size→w'.heap[y]?=w.heap[y]?:=fun y hy=>hB.block y hy;refine⟨_,[],x::(F2++F3),rfl,hB,?_,bC,by simp,?_⟩
 ·simp only[jl];refine⟨trivial,?_,⟨_,rfl⟩⟩;simp only[Value.cells,f8];refine⟨by intro d hd;simp at hd;rcases hd with rfl|rfl|rfl<;>simp[D.size,D.fK],?_⟩;simp only[fR];refine⟨[],x::(F2++F3),[.int .i64 k],_,rfl,rfl,by simp[f8,Value.oneCell'],[],x::(F2++F3),[.int .i64 0],_,rfl,rfl,by simp[f8,Value.oneCell'],x::(F2++F3),[],[.slice (some ⟨x,0,none⟩) 2 2],[],by simp,rfl,?_,rfl,rfl⟩;unfold f8;refine .inr ⟨x,0,2,c2++c3,t,(0,0),F2++F3,by simp,rfl,by simp,by simp,by simp[gp],hh,by simp[s2,s3],?_,?_⟩
  ·intro d hd;simp at hd;rcases hd with rfl|rfl
   exact ha3;exact hb3
  have l2:c2.toList.length=3:=by simpa using s2
  have l3:c3.toList.length=3:=by simpa using s3
  have e3:((c2++c3).toList.drop 0).take ([a,b].length*3)=c2.toList++(c3.toList++[]):=by
   simp[fc,l2,bZ (show c2.toList.length≤6 by omega),bZ (show c3.toList.length≤3 by omega)]
  rw[e3];simp only[fR];exact⟨F2,F3,_,_,rfl,rfl,r2.frame fun y hy=>fr y (r2.lt y hy),F3,[],_,[],by simp,rfl,r3.frame fun y hy=>fr y (r3.lt y hy),rfl,rfl⟩
 intro y hy;rcases aj.1 hy with rfl|hy
 exact .inl ⟨hx,(bh.1 hh).1⟩;rcases ax.1 hy with hy|hy
 exact .inr (o2 y hy);exact .inr (o3 y hy)
mutual
def Ll:Ex→List Ex→List Ex
 |.mk k n nn ks,acc=>if k=1 then acc else if k=6 then N6 ks acc else if acc.any (fun x=>qE x (.mk k n nn ks))=true then acc else acc++[.mk k n nn ks]
def N6:List Ex→List Ex→List Ex
 | [],acc=>acc
 |e::es,acc=>N6 es (Ll e acc)
end
def tZ{g0:Int×Int}{k:Int}(hk:k=6∨k=7)(h:js g0 (.mk k n nn ks)=true):∃a b,ks=[a,b]∧js g0 a=true∧js g0 b=true:=by
 rw[qJ,bA,gL,bA]at h;obtain⟨⟨h1,_⟩,h2⟩:=h;have h3:ks.length=2:=by rcases hk with rfl|rfl<;>simp[nP]at h1<;>omega
 match ks,h3 with
 | [a,b],_=>
  simp only[cE,List.all_nil,bU,bA]at h2;exact⟨a,b,rfl,h2.1,h2.2⟩
abbrev Co:=(Int×Int)×Int×SL (SL Bool)×SL (SL (SL Int))
def zi(m:Co):D:=.ag [eI m.1.1,eI m.1.2,eI m.2.1,eS 1 (eS 1 eB) m.2.2.1,eS 1 (eS 1 (eS 1 eI)) m.2.2.2]
def Vp{α:Type}(c:Int)(x:SL α):Bool:=(x.2.length:Int)==c
abbrev Rel:=Nat→Nat→Bool
def setRow(R:Rel)(x:Nat)(f:Nat→Bool):Rel:=fun a b=>if a=x then f b else R a b
def CH{x:Int}(h1:0≤x)(h2:x≤9223372036854775807):IntKind.u64.wrap x=x:=by
 simp[IntKind.wrap,IntKind.bits,IntKind.signed];omega
mutual
def PV:Ex→Ex
 |.mk k n _ ks=>.mk k n (vT ks) (acO ks)
def acO:List Ex→List Ex
 | []=>[]
 |e::es=>PV e::acO es
end
abbrev Wd:=SL Int×SL (SL Int)
def Vg(lo hi:Int)(l:List Int):Bool:=l.all fun x=>iR x lo hi
def acq(n:Int)(r:SL Int):Bool:=Vp n r&&Vg (-1) (n-1) r.2
def kO(g:Int×Int):Int:=2 ^ g.1.toNat
def okW(g:Int×Int)(w:Wd):Bool:=iR w.1.2.length 1 12&&(Vg 0 (kO g-1) w.1.2&&(Vp g.2 w.2&&w.2.2.all (acq w.1.2.length)))
def pS{g:Int×Int}(h:xF g=true):(0≤g.1∧g.1≤3)∧0≤g.2∧g.2≤4:=by simpa[xF,iR]using h
def zU(h1:0≤n)(h2:n≤3):IntKind.i64.wrap (1*2 ^ min n.toNat 64)=2 ^ n.toNat:=by
 have:n=0∨n=1∨n=2∨n=3:=by omega
 rcases this with rfl|rfl|rfl|rfl<;>decide
def xX{g:Int×Int}(h:xF g=true):1≤kO g∧kO g≤8:=by
 have h:=(pS h).1;have:g.1=0∨g.1=1∨g.1=2∨g.1=3:=by omega
 unfold kO;rcases this with e|e|e|e<;>rw[e]<;>decide
def yq:RC:=(.s [.b 1 2 0,.v 2 (.ci 0)] (.s [.f 3 0 1,.l 4 1 3,.o (.cvt 5 .u64 (.t 4)),.o (.bin 6 .shl (.ci 1) (.t 5)),.m 2 6] .ret))
def sP(P:Program)(f:Nat):Prop:=∀(g:Int×Int)(h:xF g=true),AF P f [eG g] (.own (eI (kO g)))
def F8{P:Program}(hm:Mx P)(hr:gq P g=some (7,yq,[.t 2])):sP P g:=by
 intro g h;refine fH hr hm rfl fun hb=>?_;simp+contextual-implicitDefEqProofs only[yq,eG,go_sem,eI,eB,Nat.reduceMul,Nat.reduceSub];have h:=(pS h).1;refine D.Le.gm ?_;rw[show IntKind.u64.wrap g.1=g.1 by simp[IntKind.wrap,IntKind.bits,IntKind.signed];omega,zU h.1 h.2]
 rfl
def z9:RC:=(.s [.b 1 2 0,.v 2 (.ci 0)] (.s [.f 3 0 1,.l 4 1 3,.o (.bin 5 .shl (.ci 1) (.t 4)),.m 2 5] .ret))
def uU(P:Program)(f:Nat):Prop:=∀(g:Int×Int)(h:xF g=true),AF P f [eG g] (.own (eI (kO g)))
def JA{P:Program}(hm:Mx P)(hr:gq P g=some (6,z9,[.t 2])):uU P g:=by
 intro g h;refine fH hr hm rfl fun hb=>?_;simp+contextual-implicitDefEqProofs only[z9,eG,go_sem,eI,eB,Nat.reduceMul,Nat.reduceSub];have h:=(pS h).1;exact⟨h.1,D.Le.gm (by rw[zU h.1 h.2];rfl)⟩
def RY{α:Type}{l:List α}{d:α}(h:i<l.length):l.getD i d=l[i]:=by simp[h]
def Qi{α:Type}{f:α→D}{l:List α}{d:α}(h:i<l.length):D.at (l.map f) i=f (l.getD i d):=by rw[iS h,RY h]
def IG{x lo hi:Int}:iR x lo hi=true↔lo≤x∧x≤hi:=by simp[iR]
def aaI:lz→List Oper
 |.other o=>[o]
 |_=>[]
def RC.GU:RC→List Oper
 |.gt _ ops=>ops.flatMap fun r=>aaI r.op
 |.seq a b=>a.GU++b.GU
 |.cond _ a b=>a.GU++b.GU
 |.iV _ c=>c.GU
 |.loop c=>c.GU
 |_=>[]
def othF(P:Program)(i k:Nat):Oper:=match gq P i with
 |some (_,c,_)=>c.GU.getD k default
 |none=>default
def d1(n:Nat):ByteArray:=⟨#[UInt8.ofNat (48+n)]⟩
def ab3(n:Nat):ByteArray:=if n<10 then d1 n else d1 (n / 10)++d1 (n % 10)
def w6{a:Array UInt8}:(ByteArray.mk a).size=a.size:=rfl
def b1(b:Bool):ByteArray:=if b then⟨#[49]⟩else⟨#[48]⟩
def YR(k v:Int)(ts:List ByteArray):ByteArray:=
 if k=1 then⟨#[48]⟩else if k=2 then⟨#[49]⟩else if k=3 then⟨#[116]⟩++ab3 v.toNat else if k=4 then⟨#[97]⟩++ab3 v.toNat
 else if k=5 then⟨#[126]⟩++ts.getD 0 ⟨#[]⟩else if k=6 then⟨#[40]⟩++ts.getD 0 ⟨#[]⟩++⟨#[32,43,32]⟩++ts.getD 1 ⟨#[]⟩++⟨#[41]⟩
 else if k=7 then⟨#[40]⟩++ts.getD 0 ⟨#[]⟩++⟨#[32]⟩++ts.getD 1 ⟨#[]⟩++⟨#[41]⟩else ts.getD 0 ⟨#[]⟩++⟨#[42]⟩
mutual
def MY:Ex→ByteArray
 |.mk k v _ ks=>YR k v (N7 ks)
def N7:List Ex→List ByteArray
 | []=>[]
 |e::es=>MY e::N7 es
end
def ltT(a b:Ex):Bool:=Op.bytesLess (MY a).toList (MY b).toList
def ac8(x:Ex):List Ex→List Ex
 | []=>[x]
 |y::ys=>if ltT y x=true then y::ac8 x ys else x::y::ys
def abd(l:List Ex):List Ex:=l.foldl (fun acc x=>ac8 x acc) []
def ab7(k:Int):Bool:=(k==4)||((k==6)||(k==7))
def cP(g:Int×Int)(k:Int)(c:Ex):Bool:=(ab7 k&&kV g c)||(!ab7 k&&km c)
end Go.Ax
