/- Contracts of functions of the seat, proved over the engine. No condition. -/
import Derived.Test.YtjnghfepojipiaaXxB
import Derived.Test.YtjnghfepojipiaaXxA
set_option linter.unusedSimpArgs false
set_option linter.unusedVariables false
set_option linter.unnecessarySimpa false
set_option linter.unusedSectionVars false
namespace Go.Ax
set_option maxRecDepth 20000
set_option maxHeartbeats 4000000
def ft(P:Program)(f:Nat):Prop:=Gz P f
def uR(g:Int×Int)(l:Int):U:=.bx 4 [.sg [.pw 3000000001 0 0,.im none (eI g.1),.im none (eI g.2),.im none (eI l)]]

def wG(g:Int×Int)(cond:Bool)(s:Int)(d:Nat)(e:Ex):Prop:=aD g e=true∧rH e∧(cond=true→cG e=true)∧1≤au e∧(au e:Int)≤s∧dq e≤d
def fV(k n:Int):Ex:=.mk k n (some true) []
theorem eV{k n:Int}:eE (fV k n)=.ag [.sc (.int .i64 k),.sc (.int .i64 n),.ls (some true) 3 []]:=by unfold fV;rw[bc];rfl
theorem sn{k n:Int}:au (fV k n)=1:=by unfold fV;rw[aM];simp[aJ]
theorem fb{g:Int×Int}{k n:Int}{cond:Bool}(hk:k=1∨k=2∨(k=3∧0<g.1)∨(k=4∧0<g.2∧cond=false))(h1:k=1∨k=2→n=0)(h3:k=3→0≤n∧n<g.1)(h4:k=4→0≤n∧n<g.2)(hg:fH g=true):wG g cond 1 1 (fV k n):=by
 have hb:0≤g.1∧g.1≤3∧0≤g.2∧g.2≤4:=by simp[fH,dj]at hg;omega
 have w1:=aj (x:=g.1-1) (by omega) (by omega);have w2:=aj (x:=g.2-1) (by omega) (by omega);refine⟨?_,by unfold fV;rw[mh];simp,?_,by rw[sn];omega,by rw[sn];simp,by unfold fV;rw[fF];simp[cd]⟩
 ·unfold fV;rw[cx];rcases hk with rfl|rfl|⟨rfl,_⟩|⟨rfl,_,_⟩
  ·have:=h1 (.inl rfl);subst this;simp[aR,cN]
  ·have:=h1 (.inr rfl);subst this;simp[aR,cN]
  ·have:=h3 rfl;simp[aR,cN,w1,dj];omega
  ·have:=h4 rfl;simp[aR,cN,w2,dj];omega
 ·intro hc;unfold fV;rcases hk with rfl|rfl|⟨rfl,_⟩|⟨rfl,_,h⟩
  ·simp[cG,dw,jN]
  ·simp[cG,dw,jN]
  ·simp[cG,dw,jN]
  ·rw[hc]at h;cases h

def dr(f1 f2:Nat):RC:=(.seq (.r [.o (.zer 4 3 .ze)]) (.seq (.seq (.r [.m 5 1,.o (.un 6 .not (.t 5)),.m 7 6,.wm 7 8 0,.w 7 (.nck 9 (.t 8)),.w 7 (.fa 10 1 (.t 9)),.w 7 (.fa 11 1 (.t 10)),.w 7 (.ld 12 false 1 (.t 11)),.w 7 (.bin 13 .gtr (.t 12) (.ci 0)),.k 14 7 13,.m 15 14,.wm 15 16 0,.w 15 (.nck 17 (.t 16)),.w 15 (.fa 18 0 (.t 17)),.w 15 (.ld 19 false 1 (.t 18)),.w 15 (.wcl (some 20) f1 [.t 19,.ci 3]),.w 15 (.un 21 .not (.t 20)),.k 22 15 21]) (.cond (.t 22) (.seq (.reg true [.m 23 0,.n 24 23,.f 25 0 24,.l 26 1 25,.m 27 0,.n 28 27,.f 29 1 28,.f 30 1 29,.l 31 1 30,.o (.wcl (some 32) f2 [.t 26,.t 31]),.o (.bld 33 .ze [(0,1,(.ci 4)),(1,1,(.t 32))]),.s 3 4 33]) .ret) .skip)) (.seq (.seq (.r [.m 34 0,.n 35 34,.f 36 1 35,.f 37 0 36,.l 38 1 37,.o (.bin 39 .gtr (.t 38) (.ci 0)),.m 40 39,.wm 40 41 0,.w 40 (.nck 42 (.t 41)),.w 40 (.fa 43 0 (.t 42)),.w 40 (.ld 44 false 1 (.t 43)),.w 40 (.wcl (some 45) f1 [.t 44,.ci 4]),.w 40 (.un 46 .not (.t 45)),.k 47 40 46]) (.cond (.t 47) (.seq (.reg true [.m 48 0,.n 49 48,.f 50 0 49,.l 51 1 50,.m 52 0,.n 53 52,.f 54 1 53,.f 55 0 54,.l 56 1 55,.o (.wcl (some 57) f2 [.t 51,.t 56]),.o (.bld 58 .ze [(0,1,(.ci 3)),(1,1,(.t 57))]),.s 3 4 58]) .ret) .skip)) (.seq (.r [.m 59 0,.n 60 59,.f 61 0 60,.l 62 1 61,.o (.wcl (some 63) f2 [.t 62,.ci 2]),.o (.bin 64 .add (.ci 1) (.t 63)),.o (.bld 65 .ze [(0,1,(.t 64))]),.s 3 4 65]) .ret))))
def pW(P:Program)(fno:Nat):Prop:=∀(nn:Option Bool)(c:List Int)(a sd:Int)(g:Int×Int)(l:Int)(cond:Bool),fZ c→fH g=true→0≤a→a≤300000000→∃a' sd' e,a≤a'∧a'≤a+6∧wG g cond 1 1 e∧AE P fno [uR g l,uS nn c a sd] [.pb 3000000000 0,.im none (eB cond)] [uR g l,uS nn c a' sd'] (.own (eE e))
theorem CD{P:Program}(hm:P.follows .mixedOrders=true){g f1 f2:Nat}(hr:aP P g=some (66,dr f1 f2,[.c 4 3 true]))(hc1:jo P f1)(hc2:eO P f2):pW P g:=by
 intro nn c a sd g l cond hc hg h0 hA;have hb:0≤g.1∧g.1≤3∧0≤g.2∧g.2≤4:=by simp[fH,dj]at hg;omega
 cases cond
 ·by_cases hA2:g.2>0
  ·obtain⟨a1,sd1,b1,p1,p2,hP1⟩:=hc1 nn c a sd 3 hc h0 (by omega);cases b1
   ·obtain⟨a2,sd2,x2,q1,q2,q3,q4,q5,hP2⟩:=hc2 nn c a1 sd1 g.2 hc (by omega) (by omega);have hx:x2<g.2:=(Int.lt_or_le 1 g.2).elim (fun h=>q5 h) (fun h=>by have:=q4 h;omega);refine⟨a2,sd2,fV 4 x2,by omega,by omega,fb (.inr (.inr (.inr ⟨rfl,hA2,rfl⟩))) (by omega) (by omega) (fun _=>⟨q3,hx⟩) hg,?_⟩;refine aX (wv:=.no) hr hm rfl rfl rfl fun hb ha=>?_;simp+contextual-implicitDefEqProofs only[dr,uS,uR,aG,eI,eB,eV,hA2,D.size,D.sizeL,D.isAg,go_sem];refine aB [3000000001] [] (by rfl) (by rfl) (by rfl) hP1 rfl (by simp[bH,bp,uS,aG,af,D.noPtr,bm,AV.shW,bb,bC,U.shW,St.unit,lu]) ?_;simp+contextual-implicitDefEqProofs only[uS,aG,eB,D.size,D.isAg,go_sem];refine aB [3000000001] [] (by rfl) (by rfl) (by rfl) hP2 rfl (by simp[bH,bp,uS,aG,af,D.noPtr,bm,AV.shW,bb,bC,U.shW,St.unit,lu]) ?_;simp+contextual-implicitDefEqProofs only[uS,aG,eI,D.put,D.cells,D.size,D.sizeL,D.isAg,D.sub,aq,af,go_sem,Nat.reduceSub]
   ·by_cases hT:g.1>0
    ·obtain⟨a3,sd3,b3,r1,r2,hP3⟩:=hc1 nn c a1 sd1 4 hc (by omega) (by omega);cases b3
     ·obtain⟨a4,sd4,x4,s1,s2,s3,s4,s5,hP4⟩:=hc2 nn c a3 sd3 g.1 hc (by omega) (by omega);have hx:x4<g.1:=(Int.lt_or_le 1 g.1).elim (fun h=>s5 h) (fun h=>by have:=s4 h;omega);refine⟨a4,sd4,fV 3 x4,by omega,by omega,fb (.inr (.inr (.inl ⟨rfl,hT⟩))) (by omega) (fun _=>⟨s3,hx⟩) (by omega) hg,?_⟩;refine aX (wv:=.no) hr hm rfl rfl rfl fun hb ha=>?_;simp+contextual-implicitDefEqProofs only[dr,uS,uR,aG,eI,eB,eV,hA2,D.size,D.sizeL,D.isAg,go_sem];refine aB [3000000001] [] (by rfl) (by rfl) (by rfl) hP1 rfl (by simp[bH,bp,uS,aG,af,D.noPtr,bm,AV.shW,bb,bC,U.shW,St.unit,lu]) ?_;simp+contextual-implicitDefEqProofs only[uS,aG,eB,hT,D.size,D.isAg,go_sem];refine aB [3000000001] [] (by rfl) (by rfl) (by rfl) hP3 rfl (by simp[bH,bp,uS,aG,af,D.noPtr,bm,AV.shW,bb,bC,U.shW,St.unit,lu]) ?_;simp+contextual-implicitDefEqProofs only[uS,aG,eB,D.size,D.isAg,go_sem];refine aB [3000000001] [] (by rfl) (by rfl) (by rfl) hP4 rfl (by simp[bH,bp,uS,aG,af,D.noPtr,bm,AV.shW,bb,bC,U.shW,St.unit,lu]) ?_;simp+contextual-implicitDefEqProofs only[uS,aG,eI,D.put,D.cells,D.size,D.sizeL,D.isAg,D.sub,aq,af,go_sem,Nat.reduceSub]
     ·obtain⟨a4,sd4,x4,s1,s2,s3,s4,s5,hP4⟩:=hc2 nn c a3 sd3 2 hc (by omega) (by omega);have s5:=s5 (by omega);have w:=aj (x:=1+x4) (by omega) (by omega);refine⟨a4,sd4,fV (1+x4) 0,by omega,by omega,fb (by omega) (fun _=>rfl) (by omega) (by omega) hg,?_⟩;refine aX (wv:=.no) hr hm rfl rfl rfl fun hb ha=>?_;simp+contextual-implicitDefEqProofs only[dr,uS,uR,aG,eI,eB,eV,hA2,D.size,D.sizeL,D.isAg,go_sem];refine aB [3000000001] [] (by rfl) (by rfl) (by rfl) hP1 rfl (by simp[bH,bp,uS,aG,af,D.noPtr,bm,AV.shW,bb,bC,U.shW,St.unit,lu]) ?_;simp+contextual-implicitDefEqProofs only[uS,aG,eB,hT,D.size,D.isAg,go_sem];refine aB [3000000001] [] (by rfl) (by rfl) (by rfl) hP3 rfl (by simp[bH,bp,uS,aG,af,D.noPtr,bm,AV.shW,bb,bC,U.shW,St.unit,lu]) ?_;simp+contextual-implicitDefEqProofs only[uS,aG,eB,D.size,D.isAg,go_sem];refine aB [3000000001] [] (by rfl) (by rfl) (by rfl) hP4 rfl (by simp[bH,bp,uS,aG,af,D.noPtr,bm,AV.shW,bb,bC,U.shW,St.unit,lu]) ?_;simp+contextual-implicitDefEqProofs only[uS,aG,eI,w,D.put,D.cells,D.size,D.sizeL,D.isAg,D.sub,aq,af,go_sem,Nat.reduceSub]
    ·obtain⟨a4,sd4,x4,s1,s2,s3,s4,s5,hP4⟩:=hc2 nn c a1 sd1 2 hc (by omega) (by omega);have s5:=s5 (by omega);have w:=aj (x:=1+x4) (by omega) (by omega);refine⟨a4,sd4,fV (1+x4) 0,by omega,by omega,fb (by omega) (fun _=>rfl) (by omega) (by omega) hg,?_⟩;refine aX (wv:=.no) hr hm rfl rfl rfl fun hb ha=>?_;simp+contextual-implicitDefEqProofs only[dr,uS,uR,aG,eI,eB,eV,hA2,D.size,D.sizeL,D.isAg,go_sem];refine aB [3000000001] [] (by rfl) (by rfl) (by rfl) hP1 rfl (by simp[bH,bp,uS,aG,af,D.noPtr,bm,AV.shW,bb,bC,U.shW,St.unit,lu]) ?_;simp+contextual-implicitDefEqProofs only[uS,aG,eB,hT,D.size,D.isAg,go_sem];refine aB [3000000001] [] (by rfl) (by rfl) (by rfl) hP4 rfl (by simp[bH,bp,uS,aG,af,D.noPtr,bm,AV.shW,bb,bC,U.shW,St.unit,lu]) ?_;simp+contextual-implicitDefEqProofs only[uS,aG,eI,w,D.put,D.cells,D.size,D.sizeL,D.isAg,D.sub,aq,af,go_sem,Nat.reduceSub]
  ·by_cases hT:g.1>0
   ·obtain⟨a3,sd3,b3,r1,r2,hP3⟩:=hc1 nn c a sd 4 hc (by omega) (by omega);cases b3
    ·obtain⟨a4,sd4,x4,s1,s2,s3,s4,s5,hP4⟩:=hc2 nn c a3 sd3 g.1 hc (by omega) (by omega);have hx:x4<g.1:=(Int.lt_or_le 1 g.1).elim (fun h=>s5 h) (fun h=>by have:=s4 h;omega);refine⟨a4,sd4,fV 3 x4,by omega,by omega,fb (.inr (.inr (.inl ⟨rfl,hT⟩))) (by omega) (fun _=>⟨s3,hx⟩) (by omega) hg,?_⟩;refine aX (wv:=.no) hr hm rfl rfl rfl fun hb ha=>?_;simp+contextual-implicitDefEqProofs only[dr,uS,uR,aG,eI,eB,eV,hA2,hT,D.size,D.sizeL,D.isAg,go_sem];refine aB [3000000001] [] (by rfl) (by rfl) (by rfl) hP3 rfl (by simp[bH,bp,uS,aG,af,D.noPtr,bm,AV.shW,bb,bC,U.shW,St.unit,lu]) ?_;simp+contextual-implicitDefEqProofs only[uS,aG,eB,D.size,D.isAg,go_sem];refine aB [3000000001] [] (by rfl) (by rfl) (by rfl) hP4 rfl (by simp[bH,bp,uS,aG,af,D.noPtr,bm,AV.shW,bb,bC,U.shW,St.unit,lu]) ?_;simp+contextual-implicitDefEqProofs only[uS,aG,eI,D.put,D.cells,D.size,D.sizeL,D.isAg,D.sub,aq,af,go_sem,Nat.reduceSub]
    ·obtain⟨a4,sd4,x4,s1,s2,s3,s4,s5,hP4⟩:=hc2 nn c a3 sd3 2 hc (by omega) (by omega);have s5:=s5 (by omega);have w:=aj (x:=1+x4) (by omega) (by omega);refine⟨a4,sd4,fV (1+x4) 0,by omega,by omega,fb (by omega) (fun _=>rfl) (by omega) (by omega) hg,?_⟩;refine aX (wv:=.no) hr hm rfl rfl rfl fun hb ha=>?_;simp+contextual-implicitDefEqProofs only[dr,uS,uR,aG,eI,eB,eV,hA2,hT,D.size,D.sizeL,D.isAg,go_sem];refine aB [3000000001] [] (by rfl) (by rfl) (by rfl) hP3 rfl (by simp[bH,bp,uS,aG,af,D.noPtr,bm,AV.shW,bb,bC,U.shW,St.unit,lu]) ?_;simp+contextual-implicitDefEqProofs only[uS,aG,eB,D.size,D.isAg,go_sem];refine aB [3000000001] [] (by rfl) (by rfl) (by rfl) hP4 rfl (by simp[bH,bp,uS,aG,af,D.noPtr,bm,AV.shW,bb,bC,U.shW,St.unit,lu]) ?_;simp+contextual-implicitDefEqProofs only[uS,aG,eI,w,D.put,D.cells,D.size,D.sizeL,D.isAg,D.sub,aq,af,go_sem,Nat.reduceSub]
   ·obtain⟨a4,sd4,x4,s1,s2,s3,s4,s5,hP4⟩:=hc2 nn c a sd 2 hc (by omega) (by omega);have s5:=s5 (by omega);have w:=aj (x:=1+x4) (by omega) (by omega);refine⟨a4,sd4,fV (1+x4) 0,by omega,by omega,fb (by omega) (fun _=>rfl) (by omega) (by omega) hg,?_⟩;refine aX (wv:=.no) hr hm rfl rfl rfl fun hb ha=>?_;simp+contextual-implicitDefEqProofs only[dr,uS,uR,aG,eI,eB,eV,hA2,hT,D.size,D.sizeL,D.isAg,go_sem];refine aB [3000000001] [] (by rfl) (by rfl) (by rfl) hP4 rfl (by simp[bH,bp,uS,aG,af,D.noPtr,bm,AV.shW,bb,bC,U.shW,St.unit,lu]) ?_;simp+contextual-implicitDefEqProofs only[uS,aG,eI,w,D.put,D.cells,D.size,D.sizeL,D.isAg,D.sub,aq,af,go_sem,Nat.reduceSub]
 ·by_cases hT:g.1>0
  ·obtain⟨a3,sd3,b3,r1,r2,hP3⟩:=hc1 nn c a sd 4 hc (by omega) (by omega);cases b3
   ·obtain⟨a4,sd4,x4,s1,s2,s3,s4,s5,hP4⟩:=hc2 nn c a3 sd3 g.1 hc (by omega) (by omega);have hx:x4<g.1:=(Int.lt_or_le 1 g.1).elim (fun h=>s5 h) (fun h=>by have:=s4 h;omega);refine⟨a4,sd4,fV 3 x4,by omega,by omega,fb (.inr (.inr (.inl ⟨rfl,hT⟩))) (by omega) (fun _=>⟨s3,hx⟩) (by omega) hg,?_⟩;refine aX (wv:=.no) hr hm rfl rfl rfl fun hb ha=>?_;simp+contextual-implicitDefEqProofs only[dr,uS,uR,aG,eI,eB,eV,hT,D.size,D.sizeL,D.isAg,go_sem];refine aB [3000000001] [] (by rfl) (by rfl) (by rfl) hP3 rfl (by simp[bH,bp,uS,aG,af,D.noPtr,bm,AV.shW,bb,bC,U.shW,St.unit,lu]) ?_;simp+contextual-implicitDefEqProofs only[uS,aG,eB,D.size,D.isAg,go_sem];refine aB [3000000001] [] (by rfl) (by rfl) (by rfl) hP4 rfl (by simp[bH,bp,uS,aG,af,D.noPtr,bm,AV.shW,bb,bC,U.shW,St.unit,lu]) ?_;simp+contextual-implicitDefEqProofs only[uS,aG,eI,D.put,D.cells,D.size,D.sizeL,D.isAg,D.sub,aq,af,go_sem,Nat.reduceSub]
   ·obtain⟨a4,sd4,x4,s1,s2,s3,s4,s5,hP4⟩:=hc2 nn c a3 sd3 2 hc (by omega) (by omega);have s5:=s5 (by omega);have w:=aj (x:=1+x4) (by omega) (by omega);refine⟨a4,sd4,fV (1+x4) 0,by omega,by omega,fb (by omega) (fun _=>rfl) (by omega) (by omega) hg,?_⟩;refine aX (wv:=.no) hr hm rfl rfl rfl fun hb ha=>?_;simp+contextual-implicitDefEqProofs only[dr,uS,uR,aG,eI,eB,eV,hT,D.size,D.sizeL,D.isAg,go_sem];refine aB [3000000001] [] (by rfl) (by rfl) (by rfl) hP3 rfl (by simp[bH,bp,uS,aG,af,D.noPtr,bm,AV.shW,bb,bC,U.shW,St.unit,lu]) ?_;simp+contextual-implicitDefEqProofs only[uS,aG,eB,D.size,D.isAg,go_sem];refine aB [3000000001] [] (by rfl) (by rfl) (by rfl) hP4 rfl (by simp[bH,bp,uS,aG,af,D.noPtr,bm,AV.shW,bb,bC,U.shW,St.unit,lu]) ?_;simp+contextual-implicitDefEqProofs only[uS,aG,eI,w,D.put,D.cells,D.size,D.sizeL,D.isAg,D.sub,aq,af,go_sem,Nat.reduceSub]
  ·obtain⟨a4,sd4,x4,s1,s2,s3,s4,s5,hP4⟩:=hc2 nn c a sd 2 hc (by omega) (by omega);have s5:=s5 (by omega);have w:=aj (x:=1+x4) (by omega) (by omega);refine⟨a4,sd4,fV (1+x4) 0,by omega,by omega,fb (by omega) (fun _=>rfl) (by omega) (by omega) hg,?_⟩;refine aX (wv:=.no) hr hm rfl rfl rfl fun hb ha=>?_;simp+contextual-implicitDefEqProofs only[dr,uS,uR,aG,eI,eB,eV,hT,D.size,D.sizeL,D.isAg,go_sem];refine aB [3000000001] [] (by rfl) (by rfl) (by rfl) hP4 rfl (by simp[bH,bp,uS,aG,af,D.noPtr,bm,AV.shW,bb,bC,U.shW,St.unit,lu]) ?_;simp+contextual-implicitDefEqProofs only[uS,aG,eI,w,D.put,D.cells,D.size,D.sizeL,D.isAg,D.sub,aq,af,go_sem,Nat.reduceSub]
theorem cJ(e:Ex):(eE e).flat=false:=by cases e;rw[bc];rfl
theorem wG.mono{g:Int×Int}{c:Bool}{s s':Int}{d d':Nat}{e:Ex}(h:wG g c s d e)(hs:s≤s')(hd:d≤d'):wG g c s' d' e:=
 ⟨h.1,h.2.1,h.2.2.1,h.2.2.2.1,by have:=h.2.2.2.2.1;omega,by have:=h.2.2.2.2.2;omega⟩
theorem rW{k n:Int}{nn:Option Bool}{e:Ex}:au (.mk k n nn [e])=1+au e:=by rw[aM];simp[aJ]
theorem u6{k n:Int}{nn:Option Bool}{e f:Ex}:au (.mk k n nn [e,f])=1+(au e+au f):=by rw[aM];simp[aJ]
theorem Bk{g:Int×Int}{cond:Bool}{s:Int}{d:Nat}{e:Ex}(h:wG g true s d e):wG g cond (s+1) (d+1) (.mk 5 0 (some false) [e]):=by
 obtain⟨h1,h2,h3,h4,h5,h6⟩:=h;have h3:=h3 rfl;refine⟨?_,by rw[mh];simp[h2],fun _=>?_,by rw[rW];omega,by rw[rW];omega,?_⟩
 ·rw[cx];simp[aR,cN,uN,h3,h1]
 ·simp[cG,dw,jN,h3]
 ·rw[fF];simp[cd];omega
theorem EA{g:Int×Int}{b:Bool}{s:Int}{d:Nat}{e:Ex}(h:wG g b s d e):wG g false (s+1) (d+1) (.mk 8 0 (some false) [e]):=by
 obtain⟨h1,h2,h3,h4,h5,h6⟩:=h;refine⟨?_,by rw[mh];simp[h2],(fun h=>by cases h),by rw[rW];omega,by rw[rW];omega,?_⟩
 ·rw[cx];simp[aR,cN,h1]
 ·rw[fF];simp[cd];omega
theorem oY{g:Int×Int}{cond b1 b2:Bool}{s1 s2 k:Int}{d:Nat}{e f:Ex}(hk:k=6∨k=7)(h:wG g b1 s1 d e)(h':wG g b2 s2 d f)(q1:cond=true→b1=true)(q2:cond=true→b2=true):wG g cond (1+au e+au f) (d+1) (.mk k 0 (some false) [e,f]):=by
 obtain⟨h1,h2,h3,h4,h5,h6⟩:=h;obtain⟨g1,g2,g3,g4,g5,g6⟩:=h';refine⟨?_,by rw[mh];simp[h2,g2],fun hc=>?_,by rw[u6];omega,by rw[u6];omega,?_⟩
 ·rw[cx];rcases hk with rfl|rfl<;>simp[aR,cN,h1,g1]
 ·have e1:=h3 (q1 hc);have e2:=g3 (q2 hc);rcases hk with rfl|rfl<;>simp[cG,dw,jN,e1,e2]
 ·rw[fF];simp[cd];omega

def dc(g f1 f2 f3 f4:Nat):RC:=(.seq (.r [.o (.zer 6 3 .ze)]) (.seq (.r [.m 11 0,.n 12 11,.f 13 3 12,.l 14 1 13,.o (.bin 15 .sub (.t 14) (.ci 1)),.n 16 11,.f 17 3 16,.s 1 17 15]) (.seq (.seq (.r [.m 18 0,.n 19 18,.f 20 3 19,.l 21 1 20,.o (.bin 22 .lss (.t 21) (.ci 1)),.m 23 22,.u 23 (.mv 24 (.t 2)),.u 23 (.bin 25 .lss (.t 24) (.ci 1)),.o (.pick 26 (.t 23) .ct (.t 25)),.m 27 26,.u 27 (.mv 28 (.t 0)),.u 27 (.nck 29 (.t 28)),.u 27 (.fa 30 0 (.t 29)),.u 27 (.ld 31 false 1 (.t 30)),.u 27 (.wcl (some 32) f1 [.t 31,.ci 6]),.o (.pick 33 (.t 27) .ct (.t 32))]) (.cond (.t 33) (.seq (.r [.m 34 0,.m 35 1,.o (.wcl (some 36) f2 [.t 34,.t 35]),.s 3 6 36]) .ret) .skip)) (.seq (.r [.m 37 0,.n 38 37,.f 39 0 38,.l 40 1 39,.o (.wcl (some 41) f3 [.t 40,.ci 10]),.m 7 41]) (.seq (.blk 0 (.seq (.r [.m 43 7,.q 44 43 0,.m 45 44,.u 45 (.mv 46 (.t 1)),.u 45 (.mv 47 (.t 46)),.wm 47 48 7,.w 47 (.bin 49 .lss (.t 48) (.ci 4)),.u 45 (.pick 50 (.t 47) (.t 49) .cf),.o (.pick 51 (.t 45) .ct (.t 50)),.m 42 51]) (.cond (.t 42) (.seq (.r [.m 52 0,.m 53 2,.o (.bin 54 .sub (.t 53) (.ci 1)),.o (.wcl (some 55) g [.t 52,.ct,.t 54]),.o (.bs 56 3 .ze 1 [(0,(.t 55))]),.o (.bld 57 .ze [(0,1,(.ci 5)),(2,1,(.t 56))]),.s 3 6 57]) .ret) (.seq (.r [.m 59 7,.o (.bin 60 .lss (.t 59) (.ci 4)),.m 58 60]) (.cond (.t 58) (.seq (.r [.m 61 0,.m 62 2,.o (.bin 63 .sub (.t 62) (.ci 1)),.o (.wcl (some 64) g [.t 61,.cf,.t 63]),.o (.bs 65 3 .ze 1 [(0,(.t 64))]),.o (.bld 66 .ze [(0,1,(.ci 8)),(2,1,(.t 65))]),.s 3 6 66]) .ret) .skip))))) (.seq (.r [.v 8 (.ci 7)]) (.seq (.seq (.r [.m 67 7,.o (.bin 68 .lss (.t 67) (.ci 6))]) (.cond (.t 68) (.r [.v 8 (.ci 6)]) .skip)) (.seq (.r [.m 69 0,.m 70 1,.m 71 70,.u 71 (.mv 72 (.t 0)),.u 71 (.nck 73 (.t 72)),.u 71 (.fa 74 0 (.t 73)),.u 71 (.ld 75 false 1 (.t 74)),.u 71 (.wcl (some 76) f1 [.t 75,.ci 5]),.o (.pick 77 (.t 71) .ct (.t 76)),.m 78 2,.o (.bin 79 .sub (.t 78) (.ci 1)),.o (.wcl (some 80) g [.t 69,.t 77,.t 79]),.o (.zer 9 3 .ze),.s 3 9 80]) (.seq (.r [.m 81 0,.m 82 1,.m 83 82,.u 83 (.mv 84 (.t 0)),.u 83 (.nck 85 (.t 84)),.u 83 (.fa 86 0 (.t 85)),.u 83 (.ld 87 false 1 (.t 86)),.u 83 (.wcl (some 88) f1 [.t 87,.ci 6]),.o (.pick 89 (.t 83) .ct (.t 88)),.m 90 2,.o (.bin 91 .sub (.t 90) (.ci 1)),.o (.wcl (some 92) g [.t 81,.t 89,.t 91]),.o (.zer 10 3 .ze),.s 3 10 92]) (.seq (.r [.m 93 8,.L 94 3 9,.L 95 3 10,.c 96 f4 [.t 93,.t 94,.t 95],.s 3 6 96]) .ret))))))))))
def qr(P:Program)(fno:Nat):Prop:=∀(nn:Option Bool)(c:List Int)(g:Int×Int),fZ c→fH g=true→∀(d:Nat),∀(dd a sd l:Int)(cond:Bool),dd=(d:Int)→0≤a→a≤200000000-100000*dd→-2000≤l→l≤1000→∃a' sd' e,a≤a'∧a'≤a+14*au e∧wG g cond 2000 (d+1) e∧(l≤1→au e≤1)∧(1<l→(au e:Int)≤2*l-1)∧AE P fno [uR g l,uS nn c a sd] [.pb 3000000000 0,.im none (eB cond),.im none (eI dd)] [uR g (l-au e),uS nn c a' sd'] (.own (eE e))
theorem B3{P:Program}(hm:P.follows .mixedOrders=true){g f1 f2 f3 f4:Nat}(hr:aP P g=some (97,dc g f1 f2 f3 f4,[.c 6 3 true]))(hc1:jo P f1)(hc2:pW P f2)(hc3:eO P f3)(hc4:ft P f4):qr P g:=by
 intro nn c g hc hg d
 induction d with
 |zero=>
  intro dd a sd l cond hdd h0 hA hl0 hl1;have w0:=aj (x:=l-1) (by omega) (by omega);have hd:dd<1:=by omega
  by_cases hl:l-1<1
  ·obtain⟨a9,sd9,e9,t1,t2,t3,hL⟩:=hc2 nn c a sd g (l-1) cond hc hg (by omega) (by omega);have hs9:(au e9:Int)=1:=by have h1:=t3.2.2.2.1;have h2:=t3.2.2.2.2.1;omega
   refine⟨a9,sd9,e9,by omega,by omega,t3.mono (by omega) (by omega),fun _=>by omega,fun _=>by omega,?_⟩;rw[hs9];refine aX (wv:=.no) hr hm rfl rfl rfl fun hb ha=>?_;simp+contextual-implicitDefEqProofs only[dc,uS,uR,aG,eI,eB,w0,hl,D.size,D.sizeL,go_sem];refine aB [3000000000,3000000001] [] (by rfl) (by rfl) (by rfl) hL rfl (by simp[bH,bp,uS,uR,aG,eL,AV.okW,af,D.noPtr,bm,AV.shW,bb,bC,U.shW,St.unit,lu,eI,D.flat]) ?_;simp+contextual-implicitDefEqProofs only[uS,uR,aG,eI,aC,aO,cU.sub,cJ,D.put,aq,af,go_sem,Nat.reduceSub]
  ·obtain⟨a9,sd9,e9,t1,t2,t3,hL⟩:=hc2 nn c a sd g (l-1) cond hc hg (by omega) (by omega);have hs9:(au e9:Int)=1:=by have h1:=t3.2.2.2.1;have h2:=t3.2.2.2.2.1;omega
   refine⟨a9,sd9,e9,by omega,by omega,t3.mono (by omega) (by omega),fun _=>by omega,fun _=>by omega,?_⟩;rw[hs9];refine aX (wv:=.no) hr hm rfl rfl rfl fun hb ha=>?_;simp+contextual-implicitDefEqProofs only[dc,uS,uR,aG,eI,eB,w0,hl,hd,D.size,D.sizeL,go_sem];refine aB [3000000000,3000000001] [] (by rfl) (by rfl) (by rfl) hL rfl (by simp[bH,bp,uS,uR,aG,eL,AV.okW,af,D.noPtr,bm,AV.shW,bb,bC,U.shW,St.unit,lu,eI,D.flat]) ?_;simp+contextual-implicitDefEqProofs only[uS,uR,aG,eI,aC,aO,cU.sub,cJ,D.put,aq,af,go_sem,Nat.reduceSub]
 |succ n ih=>
  intro dd a sd l cond hdd h0 hA hl0 hl1;have w0:=aj (x:=l-1) (by omega) (by omega);have wn:=aj (x:=dd-1) (by omega) (by omega);have hd:¬dd<1:=by omega
  by_cases hl:l-1<1
  ·obtain⟨a9,sd9,e9,t1,t2,t3,hL⟩:=hc2 nn c a sd g (l-1) cond hc hg (by omega) (by omega);have hs9:(au e9:Int)=1:=by have h1:=t3.2.2.2.1;have h2:=t3.2.2.2.2.1;omega
   refine⟨a9,sd9,e9,by omega,by omega,t3.mono (by omega) (by omega),fun _=>by omega,fun _=>by omega,?_⟩;rw[hs9];refine aX (wv:=.no) hr hm rfl rfl rfl fun hb ha=>?_;simp+contextual-implicitDefEqProofs only[dc,uS,uR,aG,eI,eB,w0,hl,D.size,D.sizeL,go_sem];refine aB [3000000000,3000000001] [] (by rfl) (by rfl) (by rfl) hL rfl (by simp[bH,bp,uS,uR,aG,eL,AV.okW,af,D.noPtr,bm,AV.shW,bb,bC,U.shW,St.unit,lu,eI,D.flat]) ?_;simp+contextual-implicitDefEqProofs only[uS,uR,aG,eI,aC,aO,cU.sub,cJ,D.put,aq,af,go_sem,Nat.reduceSub]
  obtain⟨a1,sd1,b1,p1,p2,hP1⟩:=hc1 nn c a sd 6 hc (by omega) (by omega);cases b1
  ·obtain⟨a2,sd2,x2,q1,q2,q3,q4,q5,hP2⟩:=hc3 nn c a1 sd1 10 hc (by omega) (by omega)
   by_cases hk0:x2=0
   ·have hk0b:(x2==0)=true:=by simp[hk0]
    obtain⟨a3,sd3,e3,s1,s2,s3,s4,s5,hE⟩:=ih (dd-1) a2 sd2 (l-1) true (by omega) (by omega) (by omega) (by omega) (by omega);have hz:=@rW 5 0 (some false) e3;have hs:l-(au (.mk 5 0 (some false) [e3]):Int)=l-1-(au e3:Int):=by omega
    have hs1:=s3.2.2.2.1;have s5:(au e3:Int)≤2*l-3∨au e3≤1:=by omega
    have s3':wG g true (au e3) (n+1) e3:=⟨s3.1,s3.2.1,s3.2.2.1,s3.2.2.2.1,Int.le_refl _,s3.2.2.2.2.2⟩;refine⟨a3,sd3,.mk 5 0 (some false) [e3],by omega,by omega,(Bk s3').mono (by omega) (Nat.le_refl _),fun _=>by omega,fun _=>by omega,?_⟩;rw[hs,bc];refine aX (wv:=.no) hr hm rfl rfl rfl fun hb ha=>?_;simp+contextual-implicitDefEqProofs only[dc,uS,uR,aG,eI,eB,w0,hl,hd,D.size,D.sizeL,go_sem];refine aB [3000000001] [] (by rfl) (by rfl) (by rfl) hP1 rfl (by simp[bH,bp,uS,aG,af,D.noPtr,bm,AV.shW,bb,bC,U.shW,St.unit,lu]) ?_;simp+contextual-implicitDefEqProofs only[uS,aG,eB,D.size,go_sem];refine aB [3000000001] [] (by rfl) (by rfl) (by rfl) hP2 rfl (by simp[bH,bp,uS,aG,af,D.noPtr,bm,AV.shW,bb,bC,U.shW,St.unit,lu]) ?_;simp+contextual-implicitDefEqProofs only[uS,aG,eI,wn,hk0b,go_sem];refine aB [3000000000,3000000001] [] (by rfl) (by rfl) (by rfl) hE rfl (by simp[bH,bp,uS,uR,aG,eL,AV.okW,af,D.noPtr,bm,AV.shW,bb,bC,U.shW,St.unit,lu,eI,D.flat]) ?_;simp+contextual-implicitDefEqProofs only[uS,uR,aG,eI,aC,cJ,lC,lN,D.put,D.cells,D.size,D.sizeL,aq,af,go_sem,Nat.reduceMul,Nat.reduceSub];exact⟨by decide,by simp[aC]⟩
   have hk0b:(x2==0)=false:=by simp[hk0]
   cases cond
   ·by_cases hk4:x2<4
    ·obtain⟨a3,sd3,e3,s1,s2,s3,s4,s5,hE⟩:=ih (dd-1) a2 sd2 (l-1) false (by omega) (by omega) (by omega) (by omega) (by omega);have hz:=@rW 8 0 (some false) e3;have hs:l-(au (.mk 8 0 (some false) [e3]):Int)=l-1-(au e3:Int):=by omega
     have hs1:=s3.2.2.2.1;have s5:(au e3:Int)≤2*l-3∨au e3≤1:=by omega
     have s3':wG g false (au e3) (n+1) e3:=⟨s3.1,s3.2.1,s3.2.2.1,s3.2.2.2.1,Int.le_refl _,s3.2.2.2.2.2⟩;refine⟨a3,sd3,.mk 8 0 (some false) [e3],by omega,by omega,(EA s3').mono (by omega) (Nat.le_refl _),fun _=>by omega,fun _=>by omega,?_⟩;rw[hs,bc];refine aX (wv:=.no) hr hm rfl rfl rfl fun hb ha=>?_;simp+contextual-implicitDefEqProofs only[dc,uS,uR,aG,eI,eB,w0,hl,hd,D.size,D.sizeL,go_sem];refine aB [3000000001] [] (by rfl) (by rfl) (by rfl) hP1 rfl (by simp[bH,bp,uS,aG,af,D.noPtr,bm,AV.shW,bb,bC,U.shW,St.unit,lu]) ?_;simp+contextual-implicitDefEqProofs only[uS,aG,eB,D.size,go_sem];refine aB [3000000001] [] (by rfl) (by rfl) (by rfl) hP2 rfl (by simp[bH,bp,uS,aG,af,D.noPtr,bm,AV.shW,bb,bC,U.shW,St.unit,lu]) ?_;simp+contextual-implicitDefEqProofs only[uS,aG,eI,wn,hk0b,hk4,go_sem];refine aB [3000000000,3000000001] [] (by rfl) (by rfl) (by rfl) hE rfl (by simp[bH,bp,uS,uR,aG,eL,AV.okW,af,D.noPtr,bm,AV.shW,bb,bC,U.shW,St.unit,lu,eI,D.flat]) ?_;simp+contextual-implicitDefEqProofs only[uS,uR,aG,eI,aC,cJ,lC,lN,D.put,D.cells,D.size,D.sizeL,aq,af,go_sem,Nat.reduceMul,Nat.reduceSub];exact⟨by decide,by simp[aC]⟩
    ·obtain⟨a3,sd3,b3,r1,r2,hP3⟩:=hc1 nn c a2 sd2 5 hc (by omega) (by omega);obtain⟨a4,sd4,e4,s1,s2,s3,s4,s5,hE1⟩:=ih (dd-1) a3 sd3 (l-1) b3 (by omega) (by omega) (by omega) (by omega) (by omega);have hs4:=s3.2.2.2.1;have s5:(au e4:Int)≤2*l-3∨au e4≤1:=by omega
     obtain⟨a5,sd5,b5,r3,r4,hP5⟩:=hc1 nn c a4 sd4 6 hc (by omega) (by omega);obtain⟨a6,sd6,e6,u1,u2,u3,u4,u5,hE2⟩:=ih (dd-1) a5 sd5 (l-1-au e4) b5 (by omega) (by omega) (by omega) (by omega) (by omega);have hs6:=u3.2.2.2.1;have u5:(au e6:Int)≤2*(l-1-au e4)-1∨au e6≤1:=by omega
     by_cases hk6:x2<6
     ·have hz:=@u6 6 0 (some false) e4 e6;have hs:l-(au (.mk 6 0 (some false) [e4,e6]):Int)=l-1-(au e4:Int)-(au e6:Int):=by omega
      refine⟨a6,sd6,.mk 6 0 (some false) [e4,e6],by omega,by omega,(oY (by omega) s3 u3 (fun h=>by cases h) (fun h=>by cases h)).mono (by omega) (Nat.le_refl _),fun _=>by omega,fun _=>by omega,?_⟩;rw[hs,bc];refine aX (wv:=.no) hr hm rfl rfl rfl fun hb ha=>?_;simp+contextual-implicitDefEqProofs only[dc,uS,uR,aG,eI,eB,w0,hl,hd,D.size,D.sizeL,go_sem];refine aB [3000000001] [] (by rfl) (by rfl) (by rfl) hP1 rfl (by simp[bH,bp,uS,aG,af,D.noPtr,bm,AV.shW,bb,bC,U.shW,St.unit,lu]) ?_;simp+contextual-implicitDefEqProofs only[uS,aG,eB,D.size,go_sem];refine aB [3000000001] [] (by rfl) (by rfl) (by rfl) hP2 rfl (by simp[bH,bp,uS,aG,af,D.noPtr,bm,AV.shW,bb,bC,U.shW,St.unit,lu]) ?_;simp+contextual-implicitDefEqProofs only[uS,aG,eI,hk0b,hk4,hk6,D.size,go_sem];refine aB [3000000001] [] (by rfl) (by rfl) (by rfl) hP3 rfl (by simp[bH,bp,uS,aG,af,D.noPtr,bm,AV.shW,bb,bC,U.shW,St.unit,lu]) ?_;simp+contextual-implicitDefEqProofs only[uS,aG,eB,wn,go_sem];refine aB [3000000000,3000000001] [] (by rfl) (by rfl) (by rfl) hE1 rfl (by simp[bH,bp,uS,uR,aG,eL,AV.okW,af,D.noPtr,bm,AV.shW,bb,bC,U.shW,St.unit,lu,eI,D.flat]) ?_;simp+contextual-implicitDefEqProofs only[uS,uR,aG,eI,aC,cJ,D.put,D.size,D.sizeL,aq,af,go_sem,Nat.reduceSub];refine aB [3000000001] [] (by rfl) (by rfl) (by rfl) hP5 rfl (by simp[bH,bp,uS,aG,af,D.noPtr,bm,AV.shW,bb,bC,U.shW,St.unit,lu]) ?_
      simp+contextual-implicitDefEqProofs only[uS,aG,eB,wn,go_sem];refine aB [3000000000,3000000001] [] (by rfl) (by rfl) (by rfl) hE2 rfl (by simp[bH,bp,uS,uR,aG,eL,AV.okW,af,D.noPtr,bm,AV.shW,bb,bC,U.shW,St.unit,lu,eI,D.flat]) ?_;simp+contextual-implicitDefEqProofs only[uS,uR,aG,eI,aC,aO,cU.sub,cJ,D.put,D.size,D.sizeL,aq,af,go_sem,Nat.reduceSub];refine dC rfl hc4 (by simp only[AV.aggV,bi,go_sem,bE,Bool.and_self]<;>rfl) (by simp only[AV.aggV,bi,go_sem,bE,Bool.and_self]<;>rfl) ?_;simp+contextual-implicitDefEqProofs only[aO,cU.sub,lC,lN,D.put,D.cells,D.size,D.sizeL,aq,af,go_sem];simp[aC]
     ·have hz:=@u6 7 0 (some false) e4 e6;have hs:l-(au (.mk 7 0 (some false) [e4,e6]):Int)=l-1-(au e4:Int)-(au e6:Int):=by omega
      refine⟨a6,sd6,.mk 7 0 (some false) [e4,e6],by omega,by omega,(oY (by omega) s3 u3 (fun h=>by cases h) (fun h=>by cases h)).mono (by omega) (Nat.le_refl _),fun _=>by omega,fun _=>by omega,?_⟩;rw[hs,bc];refine aX (wv:=.no) hr hm rfl rfl rfl fun hb ha=>?_;simp+contextual-implicitDefEqProofs only[dc,uS,uR,aG,eI,eB,w0,hl,hd,D.size,D.sizeL,go_sem];refine aB [3000000001] [] (by rfl) (by rfl) (by rfl) hP1 rfl (by simp[bH,bp,uS,aG,af,D.noPtr,bm,AV.shW,bb,bC,U.shW,St.unit,lu]) ?_;simp+contextual-implicitDefEqProofs only[uS,aG,eB,D.size,go_sem];refine aB [3000000001] [] (by rfl) (by rfl) (by rfl) hP2 rfl (by simp[bH,bp,uS,aG,af,D.noPtr,bm,AV.shW,bb,bC,U.shW,St.unit,lu]) ?_;simp+contextual-implicitDefEqProofs only[uS,aG,eI,hk0b,hk4,hk6,D.size,go_sem];refine aB [3000000001] [] (by rfl) (by rfl) (by rfl) hP3 rfl (by simp[bH,bp,uS,aG,af,D.noPtr,bm,AV.shW,bb,bC,U.shW,St.unit,lu]) ?_;simp+contextual-implicitDefEqProofs only[uS,aG,eB,wn,go_sem];refine aB [3000000000,3000000001] [] (by rfl) (by rfl) (by rfl) hE1 rfl (by simp[bH,bp,uS,uR,aG,eL,AV.okW,af,D.noPtr,bm,AV.shW,bb,bC,U.shW,St.unit,lu,eI,D.flat]) ?_;simp+contextual-implicitDefEqProofs only[uS,uR,aG,eI,aC,cJ,D.put,D.size,D.sizeL,aq,af,go_sem,Nat.reduceSub];refine aB [3000000001] [] (by rfl) (by rfl) (by rfl) hP5 rfl (by simp[bH,bp,uS,aG,af,D.noPtr,bm,AV.shW,bb,bC,U.shW,St.unit,lu]) ?_
      simp+contextual-implicitDefEqProofs only[uS,aG,eB,wn,go_sem];refine aB [3000000000,3000000001] [] (by rfl) (by rfl) (by rfl) hE2 rfl (by simp[bH,bp,uS,uR,aG,eL,AV.okW,af,D.noPtr,bm,AV.shW,bb,bC,U.shW,St.unit,lu,eI,D.flat]) ?_;simp+contextual-implicitDefEqProofs only[uS,uR,aG,eI,aC,aO,cU.sub,cJ,D.put,D.size,D.sizeL,aq,af,go_sem,Nat.reduceSub];refine dC rfl hc4 (by simp only[AV.aggV,bi,go_sem,bE,Bool.and_self]<;>rfl) (by simp only[AV.aggV,bi,go_sem,bE,Bool.and_self]<;>rfl) ?_;simp+contextual-implicitDefEqProofs only[aO,cU.sub,lC,lN,D.put,D.cells,D.size,D.sizeL,aq,af,go_sem];simp[aC]
   ·by_cases hk4:x2<4
    ·obtain⟨a3,sd3,e3,s1,s2,s3,s4,s5,hE⟩:=ih (dd-1) a2 sd2 (l-1) true (by omega) (by omega) (by omega) (by omega) (by omega);have hz:=@rW 5 0 (some false) e3;have hs:l-(au (.mk 5 0 (some false) [e3]):Int)=l-1-(au e3:Int):=by omega
     have hs1:=s3.2.2.2.1;have s5:(au e3:Int)≤2*l-3∨au e3≤1:=by omega
     have s3':wG g true (au e3) (n+1) e3:=⟨s3.1,s3.2.1,s3.2.2.1,s3.2.2.2.1,Int.le_refl _,s3.2.2.2.2.2⟩;refine⟨a3,sd3,.mk 5 0 (some false) [e3],by omega,by omega,(Bk s3').mono (by omega) (Nat.le_refl _),fun _=>by omega,fun _=>by omega,?_⟩;rw[hs,bc];refine aX (wv:=.no) hr hm rfl rfl rfl fun hb ha=>?_;simp+contextual-implicitDefEqProofs only[dc,uS,uR,aG,eI,eB,w0,hl,hd,D.size,D.sizeL,go_sem];refine aB [3000000001] [] (by rfl) (by rfl) (by rfl) hP1 rfl (by simp[bH,bp,uS,aG,af,D.noPtr,bm,AV.shW,bb,bC,U.shW,St.unit,lu]) ?_;simp+contextual-implicitDefEqProofs only[uS,aG,eB,D.size,go_sem];refine aB [3000000001] [] (by rfl) (by rfl) (by rfl) hP2 rfl (by simp[bH,bp,uS,aG,af,D.noPtr,bm,AV.shW,bb,bC,U.shW,St.unit,lu]) ?_;simp+contextual-implicitDefEqProofs only[uS,aG,eI,wn,hk0b,hk4,go_sem];refine aB [3000000000,3000000001] [] (by rfl) (by rfl) (by rfl) hE rfl (by simp[bH,bp,uS,uR,aG,eL,AV.okW,af,D.noPtr,bm,AV.shW,bb,bC,U.shW,St.unit,lu,eI,D.flat]) ?_;simp+contextual-implicitDefEqProofs only[uS,uR,aG,eI,aC,cJ,lC,lN,D.put,D.cells,D.size,D.sizeL,aq,af,go_sem,Nat.reduceMul,Nat.reduceSub];exact⟨by decide,by simp[aC]⟩
    ·obtain⟨a4,sd4,e4,s1,s2,s3,s4,s5,hE1⟩:=ih (dd-1) a2 sd2 (l-1) true (by omega) (by omega) (by omega) (by omega) (by omega);have hs4:=s3.2.2.2.1;have s5:(au e4:Int)≤2*l-3∨au e4≤1:=by omega
     obtain⟨a6,sd6,e6,u1,u2,u3,u4,u5,hE2⟩:=ih (dd-1) a4 sd4 (l-1-au e4) true (by omega) (by omega) (by omega) (by omega) (by omega);have hs6:=u3.2.2.2.1;have u5:(au e6:Int)≤2*(l-1-au e4)-1∨au e6≤1:=by omega
     by_cases hk6:x2<6
     ·have hz:=@u6 6 0 (some false) e4 e6;have hs:l-(au (.mk 6 0 (some false) [e4,e6]):Int)=l-1-(au e4:Int)-(au e6:Int):=by omega
      refine⟨a6,sd6,.mk 6 0 (some false) [e4,e6],by omega,by omega,(oY (by omega) s3 u3 (fun _=>rfl) (fun _=>rfl)).mono (by omega) (Nat.le_refl _),fun _=>by omega,fun _=>by omega,?_⟩;rw[hs,bc];refine aX (wv:=.no) hr hm rfl rfl rfl fun hb ha=>?_;simp+contextual-implicitDefEqProofs only[dc,uS,uR,aG,eI,eB,w0,hl,hd,D.size,D.sizeL,go_sem];refine aB [3000000001] [] (by rfl) (by rfl) (by rfl) hP1 rfl (by simp[bH,bp,uS,aG,af,D.noPtr,bm,AV.shW,bb,bC,U.shW,St.unit,lu]) ?_;simp+contextual-implicitDefEqProofs only[uS,aG,eB,D.size,go_sem];refine aB [3000000001] [] (by rfl) (by rfl) (by rfl) hP2 rfl (by simp[bH,bp,uS,aG,af,D.noPtr,bm,AV.shW,bb,bC,U.shW,St.unit,lu]) ?_;simp+contextual-implicitDefEqProofs only[uS,aG,eI,wn,hk0b,hk4,hk6,go_sem];refine aB [3000000000,3000000001] [] (by rfl) (by rfl) (by rfl) hE1 rfl (by simp[bH,bp,uS,uR,aG,eL,AV.okW,af,D.noPtr,bm,AV.shW,bb,bC,U.shW,St.unit,lu,eI,D.flat]) ?_;simp+contextual-implicitDefEqProofs only[uS,uR,aG,eI,aC,cJ,wn,D.put,D.size,D.sizeL,aq,af,go_sem,Nat.reduceSub];refine aB [3000000000,3000000001] [] (by rfl) (by rfl) (by rfl) hE2 rfl (by simp[bH,bp,uS,uR,aG,eL,AV.okW,af,D.noPtr,bm,AV.shW,bb,bC,U.shW,St.unit,lu,eI,D.flat]) ?_;simp+contextual-implicitDefEqProofs only[uS,uR,aG,eI,aC,aO,cU.sub,cJ,D.put,D.size,D.sizeL,aq,af,go_sem,Nat.reduceSub]
      refine dC rfl hc4 (by simp only[AV.aggV,bi,go_sem,bE,Bool.and_self]<;>rfl) (by simp only[AV.aggV,bi,go_sem,bE,Bool.and_self]<;>rfl) ?_;simp+contextual-implicitDefEqProofs only[aO,cU.sub,lC,lN,D.put,D.cells,D.size,D.sizeL,aq,af,go_sem];simp[aC]
     ·have hz:=@u6 7 0 (some false) e4 e6;have hs:l-(au (.mk 7 0 (some false) [e4,e6]):Int)=l-1-(au e4:Int)-(au e6:Int):=by omega
      refine⟨a6,sd6,.mk 7 0 (some false) [e4,e6],by omega,by omega,(oY (by omega) s3 u3 (fun _=>rfl) (fun _=>rfl)).mono (by omega) (Nat.le_refl _),fun _=>by omega,fun _=>by omega,?_⟩;rw[hs,bc];refine aX (wv:=.no) hr hm rfl rfl rfl fun hb ha=>?_;simp+contextual-implicitDefEqProofs only[dc,uS,uR,aG,eI,eB,w0,hl,hd,D.size,D.sizeL,go_sem];refine aB [3000000001] [] (by rfl) (by rfl) (by rfl) hP1 rfl (by simp[bH,bp,uS,aG,af,D.noPtr,bm,AV.shW,bb,bC,U.shW,St.unit,lu]) ?_;simp+contextual-implicitDefEqProofs only[uS,aG,eB,D.size,go_sem];refine aB [3000000001] [] (by rfl) (by rfl) (by rfl) hP2 rfl (by simp[bH,bp,uS,aG,af,D.noPtr,bm,AV.shW,bb,bC,U.shW,St.unit,lu]) ?_;simp+contextual-implicitDefEqProofs only[uS,aG,eI,wn,hk0b,hk4,hk6,go_sem];refine aB [3000000000,3000000001] [] (by rfl) (by rfl) (by rfl) hE1 rfl (by simp[bH,bp,uS,uR,aG,eL,AV.okW,af,D.noPtr,bm,AV.shW,bb,bC,U.shW,St.unit,lu,eI,D.flat]) ?_;simp+contextual-implicitDefEqProofs only[uS,uR,aG,eI,aC,cJ,wn,D.put,D.size,D.sizeL,aq,af,go_sem,Nat.reduceSub];refine aB [3000000000,3000000001] [] (by rfl) (by rfl) (by rfl) hE2 rfl (by simp[bH,bp,uS,uR,aG,eL,AV.okW,af,D.noPtr,bm,AV.shW,bb,bC,U.shW,St.unit,lu,eI,D.flat]) ?_;simp+contextual-implicitDefEqProofs only[uS,uR,aG,eI,aC,aO,cU.sub,cJ,D.put,D.size,D.sizeL,aq,af,go_sem,Nat.reduceSub]
      refine dC rfl hc4 (by simp only[AV.aggV,bi,go_sem,bE,Bool.and_self]<;>rfl) (by simp only[AV.aggV,bi,go_sem,bE,Bool.and_self]<;>rfl) ?_;simp+contextual-implicitDefEqProofs only[aO,cU.sub,lC,lN,D.put,D.cells,D.size,D.sizeL,aq,af,go_sem];simp[aC]
  ·obtain⟨a9,sd9,e9,t1,t2,t3,hL⟩:=hc2 nn c a1 sd1 g (l-1) cond hc hg (by omega) (by omega);have hs9:(au e9:Int)=1:=by have h1:=t3.2.2.2.1;have h2:=t3.2.2.2.2.1;omega
   refine⟨a9,sd9,e9,by omega,by omega,t3.mono (by omega) (by omega),fun _=>by omega,fun _=>by omega,?_⟩;rw[hs9];refine aX (wv:=.no) hr hm rfl rfl rfl fun hb ha=>?_;simp+contextual-implicitDefEqProofs only[dc,uS,uR,aG,eI,eB,w0,hl,hd,D.size,D.sizeL,go_sem];refine aB [3000000001] [] (by rfl) (by rfl) (by rfl) hP1 rfl (by simp[bH,bp,uS,aG,af,D.noPtr,bm,AV.shW,bb,bC,U.shW,St.unit,lu]) ?_;simp+contextual-implicitDefEqProofs only[uS,aG,eB,go_sem];refine aB [3000000000,3000000001] [] (by rfl) (by rfl) (by rfl) hL rfl (by simp[bH,bp,uS,uR,aG,eL,AV.okW,af,D.noPtr,bm,AV.shW,bb,bC,U.shW,St.unit,lu,eI,D.flat]) ?_;simp+contextual-implicitDefEqProofs only[uS,uR,aG,eI,aC,aO,cU.sub,cJ,D.put,aq,af,go_sem,Nat.reduceSub]

section
variable {P : Program} (hm : P.follows .mixedOrders = true)

end

section
variable {P : Program} (hm : P.follows .mixedOrders = true)
end
end Go.Ax
namespace Go.Ax

set_option maxRecDepth 20000
set_option maxHeartbeats 4000000

def sR:RC:=(.seq (.r [.o (.zer 0 3 .ze)]) (.seq (.r [.o (.bld 1 .ze [(0,1,(.ci 2))]),.s 3 0 1]) .ret))
def kI(P:Program)(fno:Nat):Prop:=∀(_u:Unit),AF P fno [] (.own (eE (.mk 2 0 (some true) [])))
theorem DW{P:Program}(hm:P.follows .mixedOrders=true){g:Nat}(hr:aP P g=some (2,sR,[.c 0 3 true])):kI P g:=by
 intro _u;refine aw hr hm rfl fun hb=>?_;simp+contextual-implicitDefEqProofs only[sR,bc,lN,D.put,D.cells,D.size,D.sizeL,D.isAg,aq,af,D.sub,bE,bne,bN,bU,bJ,Bool.or_true,Bool.or_false,go_sem,Nat.reduceSub]
 try exact D.Le.refl _

def pO:RC:=(.seq (.r [.o (.zer 0 3 .ze)]) (.seq (.r [.o (.bld 1 .ze [(0,1,(.ci 1))]),.s 3 0 1]) .ret))
def iW(P:Program)(fno:Nat):Prop:=∀(_u:Unit),AF P fno [] (.own (eE (.mk 1 0 (some true) [])))
theorem BM{P:Program}(hm:P.follows .mixedOrders=true){g:Nat}(hr:aP P g=some (2,pO,[.c 0 3 true])):iW P g:=by
 intro _u;refine aw hr hm rfl fun hb=>?_;simp+contextual-implicitDefEqProofs only[pO,bc,lN,D.put,D.cells,D.size,D.sizeL,D.isAg,aq,af,D.sub,bE,bne,bN,bU,bJ,Bool.or_true,Bool.or_false,go_sem,Nat.reduceSub]
 try exact D.Le.refl _

theorem at1{a b:D}{l:List D}:D.at (a::b::l) 1=b:=rfl


def mS(f1:Nat):RC:=(.seq (.r [.b 4 2 1,.o (.zer 6 3 .ze)]) (.seq (.r [.m 8 0,.L 9 2 4,.m 10 2,.o (.bld 11 (.ag [(.sc (.pointer none)),(.sc (.int .i64 0)),(.sc (.int .i64 0)),(.sc (.int .i64 0))]) [(0,1,(.t 8)),(1,2,(.t 9)),(3,1,(.t 10))]),.b 12 4 11,.m 7 12]) (.seq (.r [.m 13 7,.o (.wcl (some 14) f1 [.t 13,.cf,.ci 6]),.s 3 6 14]) .ret)))
def mL(P:Program)(fno:Nat):Prop:=∀(nn:Option Bool)(c:List Int)(a sd:Int)(g:Int×Int)(m:Int),fZ c→fH g=true→0≤a→a≤100000000→1≤m→m≤1000→∃a' sd' e,a≤a'∧a'≤a+28000∧wG g false (2*m-1) 7 e∧AE P fno [uS nn c a sd] [.pw 3000000000 0 0,.im none (eG g),.im none (eI m)] [uS nn c a' sd'] (.own (eE e))
theorem Aw{P:Program}(hm:P.follows .mixedOrders=true){g f1:Nat}(hr:aP P g=some (15,mS f1,[.c 6 3 true]))(hc1:qr P f1):mL P g:=by
 intro nn c a sd g m hc hg h0 hA hm1 hm2;obtain⟨a1,sd1,e,s1,s2,s3,s4,s5,hE⟩:=hc1 nn c g hc hg 6 6 a sd m false rfl h0 (by omega) (by omega) hm2;have h1:=s3.2.2.2.1;have h2:(au e:Int)≤2*m-1:=by by_cases h:1<m;exact s5 h;have:=s4 (by omega);omega
 refine⟨a1,sd1,e,by omega,by omega,⟨s3.1,s3.2.1,s3.2.2.1,s3.2.2.2.1,h2,s3.2.2.2.2.2⟩,?_⟩;refine aX (wv:=.no) hr hm rfl rfl rfl fun hb ha=>?_;simp+contextual-implicitDefEqProofs only[mS,uS,aG,eI,eG,D.size,D.sizeL,go_sem,Nat.reduceSub];refine⟨by decide,?_⟩;refine aB [12,3000000000] [] (by rfl) (by rfl) (by rfl) hE rfl (by simp[bH,bp,uS,uR,aG,eL,AV.okW,af,D.noPtr,bm,AV.shW,bb,bC,U.shW,St.unit,lu,eI,D.flat]) ?_;simp+contextual-implicitDefEqProofs only[uS,uR,aG,eI,aC,aO,cU.sub,cJ,D.put,aq,af,go_sem,Nat.reduceSub]

def ub(f1 f2:Nat):RC:=(.seq (.r [.b 4 2 1,.o (.zer 6 3 .ze)]) (.seq (.reg true [.m 7 0,.c 8 f1 [.t 7],.L 9 2 4,.m 10 2,.o (.wcl (some 11) f2 [.t 8,.t 9,.t 10]),.s 3 6 11]) .ret))
def xV(P:Program)(fno:Nat):Prop:=∀(nn:Option Bool)(c:List Int)(g:Int×Int)(m:Int),fZ c→fH g=true→1≤m→m≤1000→∃e,wG g false (2*m-1) 7 e∧AF P fno [.ls nn 1 (c.map eU),eG g,eI m] (.own (eE e))
theorem DE{P:Program}(hm:P.follows .mixedOrders=true){g f1 f2:Nat}(hr:aP P g=some (12,ub f1 f2,[.c 6 3 true]))(hc1:g8 P f1)(hc2:mL P f2):xV P g:=by
 intro nn c g m hc hg h1 h2;obtain⟨a1,sd1,e,s1,s2,s3,hE⟩:=hc2 nn c 0 0 g m hc hg (by omega) (by omega) h1 h2;refine⟨e,s3,?_⟩;refine aw hr hm rfl fun hb=>?_;simp+contextual-implicitDefEqProofs only[ub,eI,eG,D.size,D.sizeL,go_sem];refine aa ?_ (hc1 nn c) ?_
 ·exact rfl
 simp+contextual-implicitDefEqProofs only[aG,D.size,D.sizeL,go_sem];refine aB [8] [] (by rfl) (by rfl) (by rfl) hE rfl (by simp[bH,bp,uS,aG,af,D.noPtr,bm,AV.shW,bb,bC,U.shW,St.unit,lu]) ?_;simp+contextual-implicitDefEqProofs only[uS,aG,aC,aO,cU.sub,cJ,D.put,aq,af,go_sem]

theorem EU{P:Program}{R:List RO}{T:Tr}{st:St}{k:St→Prop}(st':St)(h1:yY P R T st (fun s=>bf s st'))(h2:k st'):Ry P R T st k:=⟨st',h1,h2⟩
def yZ:Nat→Option Bool
 |0=>some true
 |_+1=>some false
def fI(F:Int→Int→Bool×Int×Int):Nat→Int×Int→List Bool×Int×Int
 |0,s=>([],s)
 |n+1,s=>((fI F n s).1++[(F (fI F n s).2.1 (fI F n s).2.2).1],(F (fI F n s).2.1 (fI F n s).2.2).2)
def eR(F:Int→Int→Bool×Int×Int)(p:Nat):Nat→Int×Int→Int×Int
 |0,s=>s
 |i+1,s=>(fI F p (eR F p i s)).2
def iz(G:Int→Int→Int→Int×Int×Int)(p x:Nat):Nat→de×Int×Int→de×Int×Int
 |0,r=>r
 |j+1,r=>(rI (iz G p x j r).1 x (G p (iz G p x j r).2.1 (iz G p x j r).2.2).1.toNat true,(G p (iz G p x j r).2.1 (iz G p x j r).2.2).2)
def kF(G:Int→Int→Int→Int×Int×Int)(r:de×Int×Int):Int×Int×Int:=G 3 r.2.1 r.2.2
def cX(G:Int→Int→Int→Int×Int×Int)(p:Nat):Nat→Int×Int→de×Int×Int
 |0,s=>(fun _ _=>false,s)
 |x+1,s=>iz G p x (kF G (cX G p x s)).1.toNat ((cX G p x s).1,(kF G (cX G p x s)).2)
def gS(G:Int→Int→Int→Int×Int×Int)(p:Nat):Nat→Int×Int→Int×Int
 |0,s=>s
 |i+1,s=>(cX G p p (gS G p i s)).2
def E5(P:Program)(f:Nat)(nn:Option Bool)(c:List Int)(F:Int→Int→Bool×Int×Int):Prop:=∀a sd:Int,0≤a→a≤500000000→a≤(F a sd).2.1∧(F a sd).2.1≤a+2∧
 AE P f [uS nn c a sd] [.pw 3000000000 0 0,.im none (eI 2)] [uS nn c (F a sd).2.1 (F a sd).2.2] (.own (eB (F a sd).1))
def yD(P:Program)(f:Nat)(nn:Option Bool)(c:List Int)(G:Int→Int→Int→Int×Int×Int):Prop:=∀n a sd:Int,0≤a→a≤500000000→a≤(G n a sd).2.1∧(G n a sd).2.1≤a+2∧0≤(G n a sd).1∧(n≤1→(G n a sd).1=0)∧(1<n→(G n a sd).1<n)∧
 AE P f [uS nn c a sd] [.pw 3000000000 0 0,.im none (eI n)] [uS nn c (G n a sd).2.1 (G n a sd).2.2] (.own (eI (G n a sd).1))
theorem Gg{P:Program}{f:Nat}(h:jo P f)(nn:Option Bool){c:List Int}(hc:fZ c):∃F,E5 P f nn c F:=by
 have h':∀x:Int×Int,∃y:Bool×Int×Int,0≤x.1→x.1≤500000000→x.1≤y.2.1∧y.2.1≤x.1+2∧AE P f [uS nn c x.1 x.2] [.pw 3000000000 0 0,.im none (eI 2)] [uS nn c y.2.1 y.2.2] (.own (eB y.1)):=by
  intro x
  by_cases hx:0≤x.1∧x.1≤500000000
  ·obtain⟨a',sd',b,p1,p2,p3⟩:=h nn c x.1 x.2 2 hc hx.1 hx.2;exact⟨(b,a',sd'),fun _ _=>⟨p1,p2,p3⟩⟩
  ·exact⟨(false,0,0),fun h1 h2=>absurd ⟨h1,h2⟩ hx⟩
 obtain⟨F,hF⟩:=Classical.skolem.1 h';exact⟨fun a sd=>F (a,sd),fun a sd h1 h2=>hF (a,sd) h1 h2⟩
theorem EF{P:Program}{f:Nat}(h:eO P f)(nn:Option Bool){c:List Int}(hc:fZ c):∃G,yD P f nn c G:=by
 have h':∀x:Int×Int×Int,∃y:Int×Int×Int,0≤x.2.1→x.2.1≤500000000→x.2.1≤y.2.1∧y.2.1≤x.2.1+2∧0≤y.1∧(x.1≤1→y.1=0)∧(1<x.1→y.1<x.1)∧AE P f [uS nn c x.2.1 x.2.2] [.pw 3000000000 0 0,.im none (eI x.1)] [uS nn c y.2.1 y.2.2] (.own (eI y.1)):=by
  intro x
  by_cases hx:0≤x.2.1∧x.2.1≤500000000
  ·obtain⟨a',sd',b,p1,p2,p3,p4,p5,p6⟩:=h nn c x.2.1 x.2.2 x.1 hc hx.1 hx.2;exact⟨(b,a',sd'),fun _ _=>⟨p1,p2,p3,p4,p5,p6⟩⟩
  ·exact⟨(0,0,0),fun h1 h2=>absurd ⟨h1,h2⟩ hx⟩
 obtain⟨G,hG⟩:=Classical.skolem.1 h';exact⟨fun n a sd=>G (n,a,sd),fun n a sd h1 h2=>hG (n,a,sd) h1 h2⟩
section
variable {P : Program} {f1 f2 : Nat} {nn : Option Bool} {c : List Int} {F : Int → Int → Bool × Int × Int} {G : Int → Int → Int → Int × Int × Int}
theorem rS(hF:E5 P f2 nn c F):∀(n:Nat)(s:Int×Int),0≤s.1→s.1+2*n≤400000000→s.1≤(fI F n s).2.1∧(fI F n s).2.1≤s.1+2*n∧(fI F n s).1.length=n
 |0,s,h0,h1=>by simp[fI]
 |n+1,s,h0,h1=>by
  obtain⟨i1,i2,i3⟩:=rS hF n s h0 (by omega);obtain⟨p1,p2,_⟩:=hF (fI F n s).2.1 (fI F n s).2.2 (by omega) (by omega);refine⟨?_,?_,?_⟩
  ·simp only[fI];omega
  ·simp only[fI];push_cast;omega
  ·simp[fI,i3]
theorem wD(hF:E5 P f2 nn c F){p:Nat}(hp:p≤8):∀(i:Nat)(s:Int×Int),0≤s.1→s.1+16*i≤300000000→s.1≤(eR F p i s).1∧(eR F p i s).1≤s.1+16*i
 |0,s,h0,h1=>by simp[eR]
 |i+1,s,h0,h1=>by
  obtain⟨i1,i2⟩:=wD hF hp i s h0 (by omega);obtain⟨p1,p2,_⟩:=rS hF p (eR F p i s) (by omega) (by omega);simp only[eR];push_cast;exact⟨by omega,by omega⟩
theorem we(hG:yD P f1 nn c G){p x:Nat}:∀(j:Nat)(r:de×Int×Int),0≤r.2.1→r.2.1+2*j≤400000000→r.2.1≤(iz G p x j r).2.1∧(iz G p x j r).2.1≤r.2.1+2*j
 |0,r,h0,h1=>by simp[iz]
 |j+1,r,h0,h1=>by
  obtain⟨i1,i2⟩:=we (p:=p) (x:=x) hG j r h0 (by omega);obtain⟨p1,p2,_⟩:=hG p (iz G p x j r).2.1 (iz G p x j r).2.2 (by omega) (by omega);simp only[iz];push_cast;exact⟨by omega,by omega⟩
theorem G4(hG:yD P f1 nn c G){r:de×Int×Int}(h0:0≤r.2.1)(h1:r.2.1≤400000000):r.2.1≤(kF G r).2.1∧(kF G r).2.1≤r.2.1+2∧0≤(kF G r).1∧(kF G r).1<3:=by
 obtain⟨p1,p2,p3,_,p5,_⟩:=hG 3 r.2.1 r.2.2 h0 (by omega);exact⟨p1,p2,p3,p5 (by omega)⟩
theorem v8(hG:yD P f1 nn c G){p:Nat}:∀(x:Nat)(s:Int×Int),0≤s.1→s.1+6*x≤300000000→s.1≤(cX G p x s).2.1∧(cX G p x s).2.1≤s.1+6*x
 |0,s,h0,h1=>by simp[cX]
 |x+1,s,h0,h1=>by
  obtain⟨i1,i2⟩:=v8 (p:=p) hG x s h0 (by omega);obtain⟨k1,k2,k3,k4⟩:=G4 hG (r:=cX G p x s) (by omega) (by omega);obtain⟨p1,p2⟩:=we hG (p:=p) (x:=x) (kF G (cX G p x s)).1.toNat ((cX G p x s).1,(kF G (cX G p x s)).2) (by simp only;omega) (by simp only;omega);simp only at p1 p2;simp only[cX];push_cast;exact⟨by omega,by omega⟩
theorem Am(hG:yD P f1 nn c G){p:Nat}(hp:p≤8):∀(i:Nat)(s:Int×Int),0≤s.1→s.1+48*i≤200000000→s.1≤(gS G p i s).1∧(gS G p i s).1≤s.1+48*i
 |0,s,h0,h1=>by simp[gS]
 |i+1,s,h0,h1=>by
  obtain⟨i1,i2⟩:=Am hG hp i s h0 (by omega);obtain⟨p1,p2⟩:=v8 hG (p:=p) p (gS G p i s) (by omega) (by omega);simp only[gS];push_cast;exact⟨by omega,by omega⟩
end

def Oz(F:Int→Int→Bool×Int×Int)(G:Int→Int→Int→Int×Int×Int)(T A p:Nat)(s:Int×Int):Mo:=
 (((T:Int),(A:Int)),(p:Int),(yZ T,bS T fun i=>(some false,(fI F p (eR F p i s)).1)),(yZ A,bS A fun i=>dZ p (cX G p p (gS G p i (eR F p T s))).1))
theorem vm{α:Type}{g:Nat→α}:bS 0 g=[]:=rfl
theorem IW{F:Int→Int→Bool×Int×Int}{G:Int→Int→Int→Int×Int×Int}{T A p:Nat}{s:Int×Int}:eM (Oz F G T A p s)=
  .ag [.sc (.int .i64 T),.sc (.int .i64 A),.sc (.int .i64 p),.ls (yZ T) 1 (bS T fun i=>.ls (some false) 1 ((fI F p (eR F p i s)).1.map eB)),.ls (yZ A) 1 (bS A fun i=>.ls (some false) 1 (rD p (cX G p p (gS G p i (eR F p T s))).1))]:=by
 have h:∀g:Nat→de,(bS A fun i=>dZ p (g i)).map (eS 1 (eS 1 eB))=bS A fun i=>.ls (some false) 1 (rD p (g i)):=fun g=>by rw[lD];unfold bS;exact List.map_congr_left fun i _=>gu
 have h2:∀w:Nat→List Bool,(bS T fun i=>((some false,w i):SL Bool)).map (eS 1 eB)=bS T fun i=>.ls (some false) 1 ((w i).map eB):=fun w=>by rw[lD];rfl
 rw[←h,←h2]
 rfl
theorem od{α:Type}{n:Nat}{g:Nat→α}{x:α}(h:x∈bS n g):∃i,i<n∧g i=x:=by
 unfold bS at h;rw[List.mem_map]at h;obtain⟨i,hi,e⟩:=h;exact⟨i,List.mem_range.1 hi,e⟩
theorem H9{P:Program}{f2:Nat}{nn:Option Bool}{c:List Int}{F:Int→Int→Bool×Int×Int}{G:Int→Int→Int→Int×Int×Int}(hF:E5 P f2 nn c F){T A p:Nat}{s:Int×Int}(hg:fH ((T:Int),(A:Int))=true)(hp:p≤8)(h1:1≤p)(h0:0≤s.1)(hb:s.1+16*T≤200000000):iP (Oz F G T A p s)=true:=by
 have hrow:∀i,i<T→(fI F p (eR F p i s)).1.length=p:=fun i hi=>by
  obtain⟨t1,t2⟩:=wD hF hp i s h0 (by omega);exact(rS hF p (eR F p i s) (by omega) (by omega)).2.2
 have hin:dj (p:Int) 1 8=true:=by simp[dj];omega
 simp only[iP,dx,it,dG,bM,Oz,hg,hin,cK,bA,bE,bI,List.all_eq_true];refine⟨fun r hr=>?_,fun r hr=>?_⟩
 ·obtain⟨i,hi,rfl⟩:=od hr;rw[hrow i hi];exact beq_self_eq_true _
 ·obtain⟨i,hi,rfl⟩:=od hr;simp only[dZ,cK,bE,true_and];intro r hr;obtain⟨j,hj,rfl⟩:=od hr;simp[cK]
theorem HN{F:Int→Int→Bool×Int×Int}{G:Int→Int→Int→Int×Int×Int}{T A p:Nat}{s:Int×Int}:∀r∈(Oz F G T A p s).2.2.1.2,r.1=some false:=fun r hr=>by
 obtain⟨i,_,rfl⟩:=od hr
 rfl

def pA(f1 f2 f3:Nat):RC:=(.seq (.r [.b 4 2 1,.o (.zer 6 5 (.ag [(.sc (.int .i64 0)),(.sc (.int .i64 0)),(.sc (.int .i64 0)),(.ls (some true) 1 []),(.ls (some true) 1 [])]))]) (.seq (.regA [.L 15 2 4,.m 16 0,.m 17 2,.o (.wcl (some 18) f1 [.t 16,.t 17]),.o (.bin 19 .add (.ci 1) (.t 18)),.o (.bld 20 (.ag [(.sc (.int .i64 0)),(.sc (.int .i64 0)),(.sc (.int .i64 0)),(.ls (some true) 1 []),(.ls (some true) 1 [])]) [(0,2,(.t 15)),(2,1,(.t 19))]),.o (.zer 7 5 (.ag [(.sc (.int .i64 0)),(.sc (.int .i64 0)),(.sc (.int .i64 0)),(.ls (some true) 1 []),(.ls (some true) 1 [])])),.s 5 7 20] (.br [(0,(.br [(1,(.br [(2,(.br [(3,(.br [(4,(.br [(5,(.br [(6,(.br [(7,(.br []))]))])),(6,(.br [(5,(.br [(7,(.br []))]))]))])),(6,(.br [(4,(.br [(5,(.br [(7,(.br []))]))]))]))])),(6,(.br [(3,(.br [(4,(.br [(5,(.br [(7,(.br []))]))]))]))]))])),(6,(.br [(2,(.br [(3,(.br [(4,(.br [(5,(.br [(7,(.br []))]))]))]))]))]))])),(2,(.br [(1,(.br [(3,(.br [(4,(.br [(5,(.br [(6,(.br [(7,(.br []))]))])),(6,(.br [(5,(.br [(7,(.br []))]))]))])),(6,(.br [(4,(.br [(5,(.br [(7,(.br []))]))]))]))])),(6,(.br [(3,(.br [(4,(.br [(5,(.br [(7,(.br []))]))]))]))]))])),(6,(.br [(1,(.br [(3,(.br [(4,(.br [(5,(.br [(7,(.br []))]))]))]))]))]))])),(6,(.br [(1,(.br [(2,(.br [(3,(.br [(4,(.br [(5,(.br [(7,(.br []))]))]))]))]))])),(2,(.br [(1,(.br [(3,(.br [(4,(.br [(5,(.br [(7,(.br []))]))]))]))]))]))]))])),(1,(.br [(0,(.br [(2,(.br [(3,(.br [(4,(.br [(5,(.br [(6,(.br [(7,(.br []))]))])),(6,(.br [(5,(.br [(7,(.br []))]))]))])),(6,(.br [(4,(.br [(5,(.br [(7,(.br []))]))]))]))])),(6,(.br [(3,(.br [(4,(.br [(5,(.br [(7,(.br []))]))]))]))]))])),(6,(.br [(2,(.br [(3,(.br [(4,(.br [(5,(.br [(7,(.br []))]))]))]))]))]))])),(2,(.br [(0,(.br [(3,(.br [(4,(.br [(5,(.br [(6,(.br [(7,(.br []))]))])),(6,(.br [(5,(.br [(7,(.br []))]))]))])),(6,(.br [(4,(.br [(5,(.br [(7,(.br []))]))]))]))])),(6,(.br [(3,(.br [(4,(.br [(5,(.br [(7,(.br []))]))]))]))]))])),(3,(.br [(0,(.br [(4,(.br [(5,(.br [(6,(.br [(7,(.br []))]))])),(6,(.br [(5,(.br [(7,(.br []))]))]))])),(6,(.br [(4,(.br [(5,(.br [(7,(.br []))]))]))]))])),(4,(.br [(0,(.br [(5,(.br [(6,(.br [(7,(.br []))]))])),(6,(.br [(5,(.br [(7,(.br []))]))]))])),(6,(.br [(0,(.br [(5,(.br [(7,(.br []))]))]))]))])),(6,(.br [(0,(.br [(4,(.br [(5,(.br [(7,(.br []))]))]))])),(4,(.br [(0,(.br [(5,(.br [(7,(.br []))]))]))]))]))])),(6,(.br [(0,(.br [(3,(.br [(4,(.br [(5,(.br [(7,(.br []))]))]))]))])),(3,(.br [(0,(.br [(4,(.br [(5,(.br [(7,(.br []))]))]))])),(4,(.br [(0,(.br [(5,(.br [(7,(.br []))]))]))]))]))]))])),(6,(.br [(0,(.br [(2,(.br [(3,(.br [(4,(.br [(5,(.br [(7,(.br []))]))]))]))]))])),(2,(.br [(0,(.br [(3,(.br [(4,(.br [(5,(.br [(7,(.br []))]))]))]))])),(3,(.br [(0,(.br [(4,(.br [(5,(.br [(7,(.br []))]))]))])),(4,(.br [(0,(.br [(5,(.br [(7,(.br []))]))]))]))]))]))]))])),(2,(.br [(0,(.br [(1,(.br [(3,(.br [(4,(.br [(5,(.br [(6,(.br [(7,(.br []))]))])),(6,(.br [(5,(.br [(7,(.br []))]))]))])),(6,(.br [(4,(.br [(5,(.br [(7,(.br []))]))]))]))])),(6,(.br [(3,(.br [(4,(.br [(5,(.br [(7,(.br []))]))]))]))]))])),(6,(.br [(1,(.br [(3,(.br [(4,(.br [(5,(.br [(7,(.br []))]))]))]))]))]))])),(1,(.br [(0,(.br [(3,(.br [(4,(.br [(5,(.br [(6,(.br [(7,(.br []))]))])),(6,(.br [(5,(.br [(7,(.br []))]))]))])),(6,(.br [(4,(.br [(5,(.br [(7,(.br []))]))]))]))])),(6,(.br [(3,(.br [(4,(.br [(5,(.br [(7,(.br []))]))]))]))]))])),(3,(.br [(0,(.br [(4,(.br [(5,(.br [(6,(.br [(7,(.br []))]))])),(6,(.br [(5,(.br [(7,(.br []))]))]))])),(6,(.br [(4,(.br [(5,(.br [(7,(.br []))]))]))]))])),(4,(.br [(0,(.br [(5,(.br [(6,(.br [(7,(.br []))]))])),(6,(.br [(5,(.br [(7,(.br []))]))]))])),(6,(.br [(0,(.br [(5,(.br [(7,(.br []))]))]))]))])),(6,(.br [(0,(.br [(4,(.br [(5,(.br [(7,(.br []))]))]))])),(4,(.br [(0,(.br [(5,(.br [(7,(.br []))]))]))]))]))])),(6,(.br [(0,(.br [(3,(.br [(4,(.br [(5,(.br [(7,(.br []))]))]))]))])),(3,(.br [(0,(.br [(4,(.br [(5,(.br [(7,(.br []))]))]))])),(4,(.br [(0,(.br [(5,(.br [(7,(.br []))]))]))]))]))]))])),(6,(.br [(0,(.br [(1,(.br [(3,(.br [(4,(.br [(5,(.br [(7,(.br []))]))]))]))]))])),(1,(.br [(0,(.br [(3,(.br [(4,(.br [(5,(.br [(7,(.br []))]))]))]))])),(3,(.br [(0,(.br [(4,(.br [(5,(.br [(7,(.br []))]))]))])),(4,(.br [(0,(.br [(5,(.br [(7,(.br []))]))]))]))]))]))]))])),(6,(.br [(0,(.br [(1,(.br [(2,(.br [(3,(.br [(4,(.br [(5,(.br [(7,(.br []))]))]))]))]))])),(2,(.br [(1,(.br [(3,(.br [(4,(.br [(5,(.br [(7,(.br []))]))]))]))]))]))])),(1,(.br [(0,(.br [(2,(.br [(3,(.br [(4,(.br [(5,(.br [(7,(.br []))]))]))]))]))])),(2,(.br [(0,(.br [(3,(.br [(4,(.br [(5,(.br [(7,(.br []))]))]))]))])),(3,(.br [(0,(.br [(4,(.br [(5,(.br [(7,(.br []))]))]))])),(4,(.br [(0,(.br [(5,(.br [(7,(.br []))]))]))]))]))]))])),(2,(.br [(0,(.br [(1,(.br [(3,(.br [(4,(.br [(5,(.br [(7,(.br []))]))]))]))]))])),(1,(.br [(0,(.br [(3,(.br [(4,(.br [(5,(.br [(7,(.br []))]))]))]))])),(3,(.br [(0,(.br [(4,(.br [(5,(.br [(7,(.br []))]))]))])),(4,(.br [(0,(.br [(5,(.br [(7,(.br []))]))]))]))]))]))]))]))])) (.seq (.seq (.r [.v 8 (.ci 0)]) (.blk 0 (.loop (.seq (.seq (.r [.m 21 8,.f 22 0 4,.l 23 1 22,.o (.bin 24 .lss (.t 21) (.t 23))]) (.cond (.t 24) .skip (.exit 0))) (.seq (.blk 1 (.seq (.r [.o (.bs 27 1 (.sc (.bool false)) 0 []),.m 9 27]) (.seq (.seq (.r [.v 10 (.ci 0)]) (.blk 2 (.loop (.seq (.seq (.r [.m 28 10,.f 29 2 7,.l 30 1 29,.o (.bin 31 .lss (.t 28) (.t 30))]) (.cond (.t 31) .skip (.exit 2))) (.seq (.blk 3 (.r [.m 34 9,.m 35 0,.o (.wcl (some 36) f2 [.t 35,.ci 2]),.o (.bs 37 1 (.sc (.bool false)) 1 [(0,(.t 36))]),.o (.app 38 1 1 (.t 34) (.t 37)),.m 9 38])) (.r [.m 32 10,.o (.bin 33 .add (.t 32) (.ci 1)),.m 10 33])))))) (.r [.f 39 3 7,.l 40 1 39,.m 41 9,.o (.bs 42 1 (.ls (some true) 1 []) 1 [(0,(.t 41))]),.o (.app 43 1 24 (.t 40) (.t 42)),.f 44 3 7,.s 1 44 43])))) (.r [.m 25 8,.o (.bin 26 .add (.t 25) (.ci 1)),.m 8 26])))))) (.seq (.seq (.r [.v 11 (.ci 0)]) (.blk 4 (.loop (.seq (.seq (.r [.m 45 11,.f 46 1 4,.l 47 1 46,.o (.bin 48 .lss (.t 45) (.t 47))]) (.cond (.t 48) .skip (.exit 4))) (.seq (.blk 5 (.seq (.r [.f 51 2 7,.l 52 1 51,.c 53 f3 [.t 52],.m 12 53]) (.seq (.seq (.r [.v 13 (.ci 0)]) (.blk 6 (.loop (.seq (.seq (.r [.m 54 13,.f 55 2 7,.l 56 1 55,.o (.bin 57 .lss (.t 54) (.t 56))]) (.cond (.t 57) .skip (.exit 6))) (.seq (.blk 7 (.seq (.r [.m 60 0,.o (.wcl (some 61) f1 [.t 60,.ci 3]),.m 14 61]) (.blk 8 (.loop (.seq (.seq (.r [.m 62 14,.o (.bin 63 .gtr (.t 62) (.ci 0))]) (.cond (.t 63) .skip (.exit 8))) (.seq (.blk 9 (.regT [.m 66 12,.m 67 13,.o (.ia 68 1 (.t 66) (.t 67)),.l 69 1 68,.m 70 0,.f 71 2 7,.l 72 1 71] (.br [(.ia 68 1 (.t 66) (.t 67)),(.ld 69 false 1 (.t 68))] [(.o (.wcl (some 73) f1 [.t 70,.t 72]),(.br [(.ia 68 1 (.t 66) (.t 67)),(.ld 69 false 1 (.t 68))] [(.o (.ia 74 1 (.t 69) (.t 73)),(.br [] [(.o (.st 1 (.t 74) .ct),(.br [] []))]))]))]))) (.r [.m 64 14,.o (.bin 65 .sub (.t 64) (.ci 1)),.m 14 65]))))))) (.r [.m 58 13,.o (.bin 59 .add (.t 58) (.ci 1)),.m 13 59])))))) (.r [.f 75 4 7,.l 76 1 75,.m 77 12,.o (.bs 78 1 (.ls (some true) 1 []) 1 [(0,(.t 77))]),.o (.app 79 1 24 (.t 76) (.t 78)),.f 80 4 7,.s 1 80 79])))) (.r [.m 49 11,.o (.bin 50 .add (.t 49) (.ci 1)),.m 11 50])))))) (.seq (.r [.L 81 5 7,.s 5 6 81]) .ret)))))
def pE(P:Program)(fno:Nat):Prop:=∀(nn:Option Bool)(c:List Int)(a sd:Int)(g:Int×Int)(m:Int),fZ c→fH g=true→0≤a→a≤100000000→1≤m→m≤8→∃a' sd' mo,a≤a'∧a'≤a+300∧mo.1=g∧iP mo=true∧mo.2.1≤m∧1≤mo.2.1∧(∀r∈mo.2.2.1.2,r.1=some false)∧AE P fno [uS nn c a sd] [.pw 3000000000 0 0,.im none (eG g),.im none (eI m)] [uS nn c a' sd'] (.own (eM mo))
theorem CL{P:Program}(hm:P.follows .mixedOrders=true){g f1 f2 f3:Nat}(hr:aP P g=some (82,pA f1 f2 f3,[.c 6 5 true]))(hc1:eO P f1)(hc2:jo P f2)(hc3:js P f3):pE P g:=by
  intro nn c a sd g m hc hg h0 hA hm1 hm8;obtain⟨F,hF⟩:=Gg hc2 nn hc;obtain⟨G,hG⟩:=EF hc1 nn hc;obtain⟨g1,g2⟩:=g;have hgb:0≤g1∧g1≤3∧0≤g2∧g2≤4:=by simp[fH,dj]at hg;omega
  obtain⟨T,rfl⟩:∃T:Nat,g1=T:=⟨g1.toNat,by omega⟩;obtain⟨A,rfl⟩:∃A:Nat,g2=A:=⟨g2.toNat,by omega⟩;obtain⟨z1,z2,z3,z4,z5,hP⟩:=hG m a sd h0 (by omega);generalize hr0:G m a sd=r0 at z1 z2 z3 z4 z5 hP;obtain⟨x0,a0,sd0⟩:=r0;simp only at z1 z2 z3 z4 z5 hP;obtain⟨p,hp⟩:∃p:Nat,1+x0=p:=⟨(1+x0).toNat,by omega⟩;have hx0:x0<m:=(Int.lt_or_le 1 m).elim (fun h=>z5 h) (fun h=>by have:=z4 h;omega);have hp8:p≤8:=by omega
  have wp:IntKind.i64.wrap (1+x0)=p:=by rw[aj (by omega) (by omega),hp]
  obtain⟨s,hs1,hs2⟩:∃s:Int×Int,a0=s.1∧sd0=s.2:=⟨(a0,sd0),rfl,rfl⟩;subst hs1 hs2;obtain⟨t1,t2⟩:=wD hF hp8 T s (by omega) (by omega);obtain⟨t3,t4⟩:=Am hG hp8 A (eR F p T s) (by omega) (by omega);refine⟨(gS G p A (eR F p T s)).1,(gS G p A (eR F p T s)).2,Oz F G T A p s,by omega,by omega,rfl,H9 hF hg hp8 (by omega) (by omega) (by omega),by show(p:Int)≤m;omega,by show(1:Int)≤p;omega,HN,?_⟩;rw[IW];refine aX (wv:=.no) hr hm rfl rfl rfl fun hb ha=>?_;simp+contextual-implicitDefEqProofs only[pA,uS,aG,eI,eG,D.size,D.sizeL,bne,bN,bU,go_sem];refine EU ⟨82,[(7,.pw 7 0 0),(6,.pw 6 0 0),(4,.pw 4 0 0),(0,.pw 3000000000 0 0),(2,.im none (.sc (.int .i64 m)))],[(7,.ar true (some false) 5 [.ag [.sc (.int .i64 T),.sc (.int .i64 A),.sc (.int .i64 p),.ls (some true) 1 [],.ls (some true) 1 []]]),(6,.ar true (some false) 5 [.ag [.sc (.int .i64 0),.sc (.int .i64 0),.sc (.int .i64 0),.ls (some true) 1 [],.ls (some true) 1 []]]),(4,.ar false (some false) 2 [.ag [.sc (.int .i64 T),.sc (.int .i64 A)]]),(3000000000,.ar false none 3 [.ag [.ls nn 1 (c.map eU),.sc (.int .i64 (s).1),.sc (.int .u64 (s).2)]])]⟩ ?_ ?_
  · simp (maxSteps := 50000000) +contextual -implicitDefEqProofs only [D.size, D.sizeL, D.isAg, D.sub, bne, bN, bU, go_sem, Nat.reduceSub]
    repeat' apply And.intro
    all_goals first
      |exact bf.to [] (by simp only[go_sem];rfl) rfl (by simp[]) (by rfl) (by simp only[an,go_sem,keep,cH,Bool.or_false,Bool.false_or,Bool.or_self]<;>simp)
      | (refine aB [3000000000] [] (by rfl) (by rfl) (by rfl) hP rfl (by simp [bH, bp, uS, aG, af, D.noPtr, bm, AV.shW, bb, bC, U.shW, St.unit, lu]) ?_
         simp(maxSteps:=50000000)+contextual-implicitDefEqProofs only[uS,aG,eI,wp,D.put,D.cells,D.size,D.sizeL,D.isAg,D.sub,aq,af,bne,bN,bU,Bool.or_true,Bool.or_false,go_sem]
         repeat' apply And.intro
         all_goals exact bf.to [] (by simp only[go_sem];rfl) rfl (by simp[]) (by rfl) (by simp only[an,go_sem]<;>simp))
  simp+contextual-implicitDefEqProofs only[go_sem];refine bB (α:=Nat) [8,9,10,21,22,23,24,25,26,27,28,29,30,31,32,33,34,35,36,37,38,39,40,41,42,43,44] (fun i=>[(8,.im none (.sc (.int .i64 i)))]) (fun i=>[(7,.ar true (some false) 5 [.ag [.sc (.int .i64 T),.sc (.int .i64 A),.sc (.int .i64 p),.ls (yZ i) 1 (bS i fun(q:Nat)=>.ls (some false) 1 ((fI F p (eR F p q s)).1.map eB)),.ls (some true) 1 []]]),(6,.ar true (some false) 5 [.ag [.sc (.int .i64 0),.sc (.int .i64 0),.sc (.int .i64 0),.ls (some true) 1 [],.ls (some true) 1 []]]),(4,.ar false (some false) 2 [.ag [.sc (.int .i64 T),.sc (.int .i64 A)]]),(3000000000,.ar false none 3 [.ag [.ls nn 1 (c.map eU),.sc (.int .i64 (eR F p i s).1),.sc (.int .u64 (eR F p i s).2)]])]) (fun i=>i≤T) (fun i=>T-i) 0 (bf.to [] (by simp only[go_sem];rfl) rfl (by simp[yZ,vm,eR]) (by rfl) (by simp only[an,go_sem,keep,cH]<;>simp)) (Nat.zero_le _) ?_;intro i hi0;obtain⟨ti1,ti2⟩:=wD hF hp8 i s (by omega) (by omega)
  by_cases hi:i<T
  · simp +contextual -implicitDefEqProofs only [hi, iL, D.isAg, D.sub, bne, bN, bU, go_sem]
    refine bB (α:=Nat) [9,10,27,28,29,30,31,32,33,34,35,36,37,38] (fun j=>[(10,.im none (.sc (.int .i64 j))),(9,.sm 27 0 j)]) (fun j=>[(27,.ar true (some false) 1 ((fI F j (eR F p i s)).1.map eB)),(7,.ar true (some false) 5 [.ag [.sc (.int .i64 T),.sc (.int .i64 A),.sc (.int .i64 p),.ls (yZ i) 1 (bS i fun(q:Nat)=>.ls (some false) 1 ((fI F p (eR F p q s)).1.map eB)),.ls (some true) 1 []]]),(6,.ar true (some false) 5 [.ag [.sc (.int .i64 0),.sc (.int .i64 0),.sc (.int .i64 0),.ls (some true) 1 [],.ls (some true) 1 []]]),(4,.ar false (some false) 2 [.ag [.sc (.int .i64 T),.sc (.int .i64 A)]]),(3000000000,.ar false none 3 [.ag [.ls nn 1 (c.map eU),.sc (.int .i64 ((fI F j (eR F p i s)).2).1),.sc (.int .u64 ((fI F j (eR F p i s)).2).2)]])]) (fun j=>j≤p) (fun j=>p-j) 0 (bf.to [] (by simp only[go_sem];rfl) rfl (by simp[fI]) (by rfl) (by simp only[an,go_sem,keep,cH]<;>simp)) (Nat.zero_le _) ?_;intro j hj0;obtain⟨rj1,rj2,rj3⟩:=rS hF j (eR F p i s) (by omega) (by omega)
    by_cases hj:j<p
    · have hO := (hF (fI F j (eR F p i s)).2.1 (fI F j (eR F p i s)).2.2 (by omega) (by omega)).2.2
      simp+contextual-implicitDefEqProofs only[hj,iL,D.isAg,D.sub,go_sem];refine aB [3000000000] [] (by rfl) (by rfl) (by rfl) hO rfl (by simp[bH,bp,uS,aG,af,D.noPtr,bm,AV.shW,bb,bC,U.shW,St.unit,lu]) ?_;simp+contextual-implicitDefEqProofs only[uS,aG,eB,rj3,lM,D.size,aq,af,bne,bN,bU,Bool.or_true,Bool.or_false,go_sem,Nat.reduceMul];refine⟨rfl,⟨by omega,by unfold aT;omega,by simp[D.size]⟩,j+1,by omega,by omega,?_⟩;rw[aj (by omega) (by omega)];exact bf.to [] (by simp only[go_sem];rfl) rfl (by simp[fI,eB]) (by rfl) (by simp only[an,go_sem]<;>simp)
    · obtain rfl : p = j := by omega
      simp+contextual-implicitDefEqProofs only[hj,iL,rj3,D.put,D.cells,D.size,D.isAg,D.sub,aq,af,lM,bne,bN,bG,bU,Bool.or_true,Bool.or_false,go_sem,Nat.reduceMul];refine⟨rfl,⟨by rw[cK];omega,by rw[cK];unfold aT;omega,by simp[D.size]⟩,i+1,by omega,by omega,?_⟩;rw[aj (by omega) (by omega)];exact bf.to [] (by simp only[go_sem];rfl) rfl (by simp[yZ,jp,eR]) (by rfl) (by simp only[an,go_sem]<;>simp)
  · obtain rfl : T = i := by omega
    simp+contextual-implicitDefEqProofs only[hi,iL,D.isAg,D.sub,go_sem];refine bB (α:=Nat) [11,12,13,14,45,46,47,48,49,50,51,52,53,54,55,56,57,58,59,60,61,62,63,64,65,66,67,68,69,70,71,72,73,74,75,76,77,78,79,80] (fun i=>[(11,.im none (.sc (.int .i64 i)))]) (fun i=>[(7,.ar true (some false) 5 [.ag [.sc (.int .i64 T),.sc (.int .i64 A),.sc (.int .i64 p),.ls (yZ T) 1 (bS T fun(q:Nat)=>.ls (some false) 1 ((fI F p (eR F p q s)).1.map eB)),.ls (yZ i) 1 (bS i fun(q:Nat)=>.ls (some false) 1 (rD p (cX G p p (gS G p q (eR F p T s))).1))]]),(6,.ar true (some false) 5 [.ag [.sc (.int .i64 0),.sc (.int .i64 0),.sc (.int .i64 0),.ls (some true) 1 [],.ls (some true) 1 []]]),(4,.ar false (some false) 2 [.ag [.sc (.int .i64 T),.sc (.int .i64 A)]]),(3000000000,.ar false none 3 [.ag [.ls nn 1 (c.map eU),.sc (.int .i64 ((gS G p i (eR F p T s))).1),.sc (.int .u64 ((gS G p i (eR F p T s))).2)]])]) (fun i=>i≤A) (fun i=>A-i) 0 (bf.to [] (by simp only[go_sem];rfl) rfl (by simp[yZ,vm,gS]) (by rfl) (by simp only[an,go_sem,keep,cH]<;>simp)) (Nat.zero_le _) ?_;intro i hi0;obtain⟨ai1,ai2⟩:=Am hG hp8 i (eR F p T s) (by omega) (by omega)
    by_cases hi:i<A
    · simp +contextual -implicitDefEqProofs only [hi, iL, D.isAg, D.sub, go_sem]
      refine aa (ds:=[eI p]) (by rfl) (hc3 p (by omega)) ?_;simp+contextual-implicitDefEqProofs only[dJ,bne,bN,bU,go_sem];refine bB (α:=Nat) [13,14,54,55,56,57,58,59,60,61,62,63,64,65,66,67,68,69,70,71,72,73,74] (fun x=>[(13,.im none (.sc (.int .i64 x)))]) (fun x=>[(53,.ar true (some false) 1 (rD p (cX G p x (gS G p i (eR F p T s))).1)),(7,.ar true (some false) 5 [.ag [.sc (.int .i64 T),.sc (.int .i64 A),.sc (.int .i64 p),.ls (yZ T) 1 (bS T fun(q:Nat)=>.ls (some false) 1 ((fI F p (eR F p q s)).1.map eB)),.ls (yZ i) 1 (bS i fun(q:Nat)=>.ls (some false) 1 (rD p (cX G p p (gS G p q (eR F p T s))).1))]]),(6,.ar true (some false) 5 [.ag [.sc (.int .i64 0),.sc (.int .i64 0),.sc (.int .i64 0),.ls (some true) 1 [],.ls (some true) 1 []]]),(4,.ar false (some false) 2 [.ag [.sc (.int .i64 T),.sc (.int .i64 A)]]),(3000000000,.ar false none 3 [.ag [.ls nn 1 (c.map eU),.sc (.int .i64 ((cX G p x (gS G p i (eR F p T s))).2).1),.sc (.int .u64 ((cX G p x (gS G p i (eR F p T s))).2).2)]])]) (fun x=>x≤p) (fun x=>p-x) 0 (bf.to [] (by simp only[go_sem];rfl) rfl (by simp[cX]) (by rfl) (by simp only[an,go_sem,keep,cH]<;>simp)) (Nat.zero_le _) ?_;intro x hx0;obtain⟨xi1,xi2⟩:=v8 (p:=p) hG x (gS G p i (eR F p T s)) (by omega) (by omega)
      by_cases hx:x<p
      · have hK := (hG 3 (cX G p x (gS G p i (eR F p T s))).2.1 (cX G p x (gS G p i (eR F p T s))).2.2 (by omega) (by omega)).2.2.2.2.2
        obtain⟨k1,k2,k3,k4⟩:=G4 hG (r:=cX G p x (gS G p i (eR F p T s))) (by omega) (by omega);simp+contextual-implicitDefEqProofs only[hx,iL,D.isAg,D.sub,go_sem];refine aB [3000000000] [] (by rfl) (by rfl) (by rfl) hK rfl (by simp[bH,bp,uS,aG,af,D.noPtr,bm,AV.shW,bb,bC,U.shW,St.unit,lu]) ?_;simp+contextual-implicitDefEqProofs only[uS,aG,eI,Bool.or_false,go_sem];refine bB (α:=Nat) [14,62,63,64,65,66,67,68,69,70,71,72,73,74] (fun j=>[(14,.im none (.sc (.int .i64 ((kF G (cX G p x (gS G p i (eR F p T s)))).1-(j:Int)))))]) (fun j=>[(53,.ar true (some false) 1 (rD p (iz G p x j ((cX G p x (gS G p i (eR F p T s))).1,(kF G (cX G p x (gS G p i (eR F p T s)))).2)).1)),(7,.ar true (some false) 5 [.ag [.sc (.int .i64 T),.sc (.int .i64 A),.sc (.int .i64 p),.ls (yZ T) 1 (bS T fun(q:Nat)=>.ls (some false) 1 ((fI F p (eR F p q s)).1.map eB)),.ls (yZ i) 1 (bS i fun(q:Nat)=>.ls (some false) 1 (rD p (cX G p p (gS G p q (eR F p T s))).1))]]),(6,.ar true (some false) 5 [.ag [.sc (.int .i64 0),.sc (.int .i64 0),.sc (.int .i64 0),.ls (some true) 1 [],.ls (some true) 1 []]]),(4,.ar false (some false) 2 [.ag [.sc (.int .i64 T),.sc (.int .i64 A)]]),(3000000000,.ar false none 3 [.ag [.ls nn 1 (c.map eU),.sc (.int .i64 ((iz G p x j ((cX G p x (gS G p i (eR F p T s))).1,(kF G (cX G p x (gS G p i (eR F p T s)))).2)).2).1),.sc (.int .u64 ((iz G p x j ((cX G p x (gS G p i (eR F p T s))).1,(kF G (cX G p x (gS G p i (eR F p T s)))).2)).2).2)]])]) (fun j=>j≤(kF G (cX G p x (gS G p i (eR F p T s)))).1.toNat) (fun j=>(kF G (cX G p x (gS G p i (eR F p T s)))).1.toNat-j) 0 (bf.to [] (by simp only[go_sem];rfl) rfl (by simp[iz,kF]) (by rfl) (by simp only[an,go_sem,keep,cH]<;>simp[kF])) (Nat.zero_le _) ?_
        intro j hj0;obtain⟨hi1,hi2⟩:=we (p:=p) (x:=x) hG j ((cX G p x (gS G p i (eR F p T s))).1,(kF G (cX G p x (gS G p i (eR F p T s)))).2) (by simp only;omega) (by simp only;omega);simp only at hi1 hi2
        by_cases hj:(kF G (cX G p x (gS G p i (eR F p T s)))).1-(j:Int)>0
        · obtain ⟨y1, y2, y3, y4, y5, hY⟩ := hG p (iz G p x j ((cX G p x (gS G p i (eR F p T s))).1, (kF G (cX G p x (gS G p i (eR F p T s)))).2)).2.1 (iz G p x j ((cX G p x (gS G p i (eR F p T s))).1, (kF G (cX G p x (gS G p i (eR F p T s)))).2)).2.2 (by omega) (by omega)
          have y6:(G p (iz G p x j ((cX G p x (gS G p i (eR F p T s))).1,(kF G (cX G p x (gS G p i (eR F p T s)))).2)).2.1 (iz G p x j ((cX G p x (gS G p i (eR F p T s))).1,(kF G (cX G p x (gS G p i (eR F p T s)))).2)).2.2).1<p:=(Int.lt_or_le 1 (p:Int)).elim (fun h=>y5 h) (fun h=>by have:=y4 h;omega);have e1:=lm (R:=(iz G p x j ((cX G p x (gS G p i (eR F p T s))).1,(kF G (cX G p x (gS G p i (eR F p T s)))).2)).1) hx;simp+contextual-implicitDefEqProofs only[hj,hx,e1,iL,D.isAg,D.sub,go_sem,iN];refine aB [3000000000] [] (by rfl) (by rfl) (by rfl) hY rfl (by simp[bH,bp,uS,aG,af,D.noPtr,bm,AV.shW,bb,bC,U.shW,St.unit,lu]) ?_;simp+contextual-implicitDefEqProofs only[uS,aG,eI,hx,e1,y3,y6,dJ,eC,gL,sP,D.put,D.size,D.isAg,D.sub,Bool.or_false,go_sem,iL,iN];refine⟨by omega,j+1,by omega,by omega,?_⟩;rw[aj (by omega) (by omega),show(kF G (cX G p x (gS G p i (eR F p T s)))).1-(j:Int)-1=(kF G (cX G p x (gS G p i (eR F p T s)))).1-((j+1:Nat):Int)by omega];exact bf.to [] (by simp only[go_sem];rfl) rfl (by simp[iz]) (by rfl) (by simp only[an,go_sem]<;>simp)
        · have hjk : j = (kF G (cX G p x (gS G p i (eR F p T s)))).1.toNat := by omega
          simp+contextual-implicitDefEqProofs only[hj,go_sem];refine⟨x+1,by omega,by omega,?_⟩;rw[aj (by omega) (by omega),hjk];exact bf.to [] (by simp only[go_sem];rfl) rfl (by simp[cX]) (by rfl) (by simp only[an,go_sem]<;>simp)
      · obtain rfl : p = x := by omega
        simp+contextual-implicitDefEqProofs only[hx,iL,dJ,D.put,D.cells,D.size,D.isAg,D.sub,aq,af,bne,bN,bI,bG,bU,Bool.or_true,Bool.or_false,go_sem,Nat.reduceMul];refine⟨rfl,⟨by rw[cK];omega,by rw[cK];unfold aT;omega,by simp[D.size]⟩,i+1,by omega,by omega,?_⟩;rw[aj (by omega) (by omega)];exact bf.to [] (by simp only[go_sem];rfl) rfl (by simp[yZ,jp,gS]) (by rfl) (by simp only[an,go_sem]<;>simp)
    · obtain rfl : A = i := by omega
      simp+contextual-implicitDefEqProofs only[hi,iL,D.put,D.size,D.sizeL,D.isAg,D.sub,aq,af,bI,bU,bJ,go_sem]
end Go.Ax
namespace Go.Ax
set_option maxRecDepth 20000
set_option maxHeartbeats 4000000
def xA(n:Nat)(A:de):Nat→de
 |0=>fun x y=>x==y||A x y
 |k+1=>dF n (xA n A k) (xA n A k)
theorem B0{A:de}{k x y:Nat}(h:gA A k x y=true):gA A (k+1) x y=true:=by simp[gA,h]
theorem BJ{A:de}{k m x y:Nat}(hm:k≤m)(h:gA A k x y=true):gA A m x y=true:=by
 induction hm with
 |refl=>exact h
 |step _ ih=>exact B0 ih
theorem iw{A:de}:∀{k x z y:Nat},z<k→gA A k x z=true→gA A k z y=true→gA A k x y=true
 |0,_,_,_,h,_,_=>by omega
 |k+1,x,z,y,hz,h1,h2=>by
  simp only[gA,Bool.or_eq_true,bA]at h1 h2⊢
  by_cases e:z=k
  ·subst e;refine .inr ⟨?_,?_⟩
   ·rcases h1 with h|h
    ·exact h
    ·exact h.1
   ·rcases h2 with h|h
    ·exact h
    ·exact h.2
  ·have hz':z<k:=by omega
   rcases h1 with h1|⟨h1,h1'⟩
   ·rcases h2 with h2|⟨h2,h2'⟩
    ·exact .inl (iw hz' h1 h2)
    ·exact .inr ⟨iw hz' h1 h2,h2'⟩
   ·rcases h2 with h2|⟨h2,h2'⟩
    ·exact .inr ⟨h1,iw hz' h1' h2⟩
    ·exact .inr ⟨h1,h2'⟩
theorem bh{n:Nat}{A B:de}{x y:Nat}:dF n A B x y=true↔∃z,z<n∧A x z=true∧B z y=true:=by
 simp only[dF,mp,List.any_eq_true,List.mem_range,bA]
theorem tB{n:Nat}{A:de}:∀{k x:Nat},x<n→xA n A k x x=true
 |0,x,_=>by simp[xA]
 |k+1,x,h=>bh.2 ⟨x,h,tB h,tB h⟩
theorem jR{n:Nat}{A:de}:∀{k x y:Nat},k≤n→x<n→y<n→gA A k x y=true→xA n A k x y=true
 |0,x,y,_,_,_,h=>by simpa[xA,gA,or_comm]using h
 |k+1,x,y,hk,hx,hy,h=>by
  simp only[gA,Bool.or_eq_true,bA]at h;rcases h with h|⟨h1,h2⟩
  ·exact bh.2 ⟨y,hy,jR (by omega) hx hy h,tB hy⟩
  ·exact bh.2 ⟨k,by omega,jR (by omega) hx (by omega) h1,jR (by omega) (by omega) hy h2⟩
theorem nL{n:Nat}{A:de}:∀{k x y:Nat},x<n→y<n→xA n A k x y=true→gA A n x y=true
 |0,x,y,_,_,h=>BJ (Nat.zero_le n) (by simpa[xA,gA,or_comm]using h)
 |k+1,x,y,hx,hy,h=>by
  obtain⟨z,hz,h1,h2⟩:=bh.1 h;exact iw hz (nL hx hz h1) (nL hz hy h2)
theorem DN{n:Nat}{A:de}:rD n (xA n A n)=rD n (kA n A):=eX fun x y hx hy=>by
 cases h:kA n A x y with
 |true=>exact jR (Nat.le_refl n) hx hy h
 |false=>
  cases h2:xA n A n x y with
  |false=>rfl
  |true=>rw[kA,nL hx hy h2]at h;cases h
theorem D0{m:Mo}{k v:Int}{ks:List Ex}(h:Ak m k v ks):ks.length≤2:=by
 cases h<;>simp_all
def lF(n:Nat)(rs:List de):D:=.ls (some false) 1 (rs.map fun R=>.ls (some false) 1 (rD n R))
theorem jS{x y:Nat}:((x:Int)==(y:Int))=(x==y):=by
 by_cases h:x=y
 ·subst h;rw[bE,bE]
 ·rw[beq_false_of_ne h,beq_false_of_ne (fun e=>h (by omega))]
theorem o6{a:D}{l:List D}:D.at (a::l) 0=a:=rfl

def lG:RC:=(.seq (.r [.v 6 .cf]) (.seq (.r [.f 7 4 2,.l 8 1 7,.f 9 1 3,.l 10 1 9,.o (.ia 11 1 (.t 8) (.t 10)),.l 12 1 11,.m 13 0,.o (.ia 14 1 (.t 12) (.t 13)),.l 15 1 14,.m 16 1,.o (.ia 17 1 (.t 15) (.t 16)),.l 18 1 17,.m 6 18]) .ret))
def lB(P:Program)(fno:Nat):Prop:=∀(m:Mo)(n:Nat)(k v:Int)(nn:Option Bool)(ks:List Ex)(x y:Nat)(hM:jh m n)(hx:x<n)(hy:y<n)(h0:0≤v)(h1:v.toNat<m.2.2.2.2.length),AF P fno [eI x,eI y,.pt (eM m) 0,.pt (eE (.mk k v nn ks)) 0] (.own (eB (bt (mF m v) x y)))
theorem xg{P:Program}(hm:P.follows .mixedOrders=true){g:Nat}(hr:aP P g=some (19,lG,[.t 6])):lB P g:=by
 intro m n k v nn ks x y hM hx hy h0 h1;obtain⟨gs,p,T,A⟩:=m;obtain rfl:p=n:=hM.pts;have h1':=jC h0 h1;have t1:=fM (f:=eS 1 (eS 1 eB)) (d:=(none,[])) h1;have t2:=hM.asq _ (fe (d:=(none,[])) h1);have t3:=t2.at hx;have t4:=t2.at2 hx hy;have t5:=t2.len;have t6:=t2.rows hx;simp only at h1 h1' t1 t2 t3 t4 t5 t6;rw[bc];refine aw hr hm rfl fun hb=>?_;simp+contextual-implicitDefEqProofs only[lG,t1,t3,t4,t5,t6,h0,h1',hx,hy,eM,eS,eI,D.size,D.sizeL,D.sub,D.isAg,go_sem,eB,iL,lM,iN];exact D.Le.refl _

def kV:RC:=(.seq (.r [.v 5 .cf]) (.seq (.r [.m 6 0,.m 7 1,.o (.bin 8 .eql (.t 6) (.t 7)),.m 9 8,.u 9 (.ld 10 false 1 (.t 2)),.u 9 (.ia 11 1 (.t 10) (.ci 0)),.u 9 (.ld 12 false 1 (.t 11)),.u 9 (.mv 13 (.t 0)),.u 9 (.ia 14 1 (.t 12) (.t 13)),.u 9 (.ld 15 false 1 (.t 14)),.u 9 (.mv 16 (.t 1)),.u 9 (.ia 17 1 (.t 15) (.t 16)),.u 9 (.ld 18 false 1 (.t 17)),.o (.pick 19 (.t 9) .ct (.t 18)),.m 5 19]) .ret))
def kz(P:Program)(fno:Nat):Prop:=∀(n:Nat)(R:de)(x y:Nat)(hx:x<n)(hy:y<n),AF P fno [eI x,eI y,.pt (lF n [R]) 0] (.own (eB (x==y||R x y)))
theorem yR{P:Program}(hm:P.follows .mixedOrders=true){g:Nat}(hr:aP P g=some (20,kV,[.t 5])):kz P g:=by
 intro n R x y hx hy;have b1:=lm (R:=R) hx;have b2:=gm (f:=R x) hy;refine aw hr hm rfl fun hb=>?_;cases hv:(x==y)
 all_goals
  simp+contextual-implicitDefEqProofs only[kV,lF,o6,b1,b2,hx,hy,jS,hv,dJ,eC,eI,D.size,D.sub,Int.cast_ofNat_Int,Int.reduceLT,Int.le_refl,D.isAg,lN,lC,lK,lZ,go_sem,eB,iL,iN]
 all_goals rfl

def eH:RC:=(.seq (.r [.v 7 .cf]) (.seq (.seq (.r [.f 8 0 2,.l 9 1 8]) (.blk 0 (.seq (.r [.q 11 9 2,.m 10 11]) (.cond (.t 10) (.seq (.r [.m 12 0,.m 13 1,.o (.bin 14 .eql (.t 12) (.t 13)),.m 7 14]) .ret) (.seq (.r [.q 16 9 3,.m 15 16]) (.cond (.t 15) (.seq (.r [.m 17 0,.m 18 1,.o (.bin 19 .eql (.t 17) (.t 18)),.m 20 19,.w 20 (.fa 21 3 (.t 3)),.w 20 (.ld 22 false 1 (.t 21)),.w 20 (.fa 23 1 (.t 2)),.w 20 (.ld 24 false 1 (.t 23)),.w 20 (.ia 25 1 (.t 22) (.t 24)),.w 20 (.ld 26 false 1 (.t 25)),.wm 20 27 0,.w 20 (.ia 28 1 (.t 26) (.t 27)),.w 20 (.ld 29 false 1 (.t 28)),.k 30 20 29,.m 7 30]) .ret) (.seq (.r [.q 32 9 5,.m 31 32]) (.cond (.t 31) (.seq (.r [.m 33 0,.m 34 1,.o (.bin 35 .eql (.t 33) (.t 34)),.m 36 35,.w 36 (.ld 37 false 1 (.t 4)),.w 36 (.ia 38 1 (.t 37) (.ci 0)),.w 36 (.ld 39 false 1 (.t 38)),.wm 36 40 0,.w 36 (.ia 41 1 (.t 39) (.t 40)),.w 36 (.ld 42 false 1 (.t 41)),.wm 36 43 1,.w 36 (.ia 44 1 (.t 42) (.t 43)),.w 36 (.ld 45 false 1 (.t 44)),.w 36 (.un 46 .not (.t 45)),.k 47 36 46,.m 7 47]) .ret) (.seq (.r [.q 49 9 6,.m 48 49]) (.cond (.t 48) (.seq (.r [.l 50 1 4,.i 51 1 50 0,.l 52 1 51,.m 53 0,.o (.ia 54 1 (.t 52) (.t 53)),.l 55 1 54,.m 56 1,.o (.ia 57 1 (.t 55) (.t 56)),.l 58 1 57,.m 59 58,.u 59 (.ld 60 false 1 (.t 4)),.u 59 (.ia 61 1 (.t 60) (.ci 1)),.u 59 (.ld 62 false 1 (.t 61)),.u 59 (.mv 63 (.t 0)),.u 59 (.ia 64 1 (.t 62) (.t 63)),.u 59 (.ld 65 false 1 (.t 64)),.u 59 (.mv 66 (.t 1)),.u 59 (.ia 67 1 (.t 65) (.t 66)),.u 59 (.ld 68 false 1 (.t 67)),.o (.pick 69 (.t 59) .ct (.t 68)),.m 7 69]) .ret) .skip)))))))))) (.seq (.r [.v 7 .cf]) .ret)))
def kx(P:Program)(fno:Nat):Prop:=∀(m:Mo)(n:Nat)(k v:Int)(nn:Option Bool)(ks:List Ex)(x y:Nat)(hM:jh m n)(rs:List de)(hx:x<n)(hy:y<n)(hl:rs.length=ks.length)(hK:Ak m k v ks)(hk4:k≠4∧k≠7∧k≠8),AF P fno [eI x,eI y,.pt (eE (.mk k v nn ks)) 0,.pt (eM m) 0,.pt (lF n rs) 0] (.own (eB (ca m k v rs x y)))
theorem xd{P:Program}(hm:P.follows .mixedOrders=true){g:Nat}(hr:aP P g=some (70,eH,[.t 7])):kx P g:=by
 intro m n k v nn ks x y hM rs hx hy hl hK hk4;obtain⟨gs,p,T,A⟩:=m;obtain rfl:p=n:=hM.pts;rw[bc];refine aw hr hm rfl fun hb=>?_;cases hv:(x==y)
 all_goals
 cases hK with
 |zero hk hks=>
  subst hk hks;rw[show ca (gs,(n:Int),T,A) 1 v rs x y=false by simp[ca,j9]];simp+contextual-implicitDefEqProofs only[eH,eM,eS,eI,D.size,D.sizeL,D.sub,Int.reduceBEq,D.isAg,lN,go_sem,eB]
 |one hk hks=>
  subst hk hks;rw[show ca (gs,(n:Int),T,A) 2 v rs x y=(x==y&&true)by simp[ca,fL],hv];simp+contextual-implicitDefEqProofs only[eH,jS,hv,eM,eS,eI,D.size,D.sizeL,D.sub,bE,D.isAg,lN,go_sem,eB]
 |test hk hks h0 h1=>
  subst hk hks;have h1':=jC h0 h1;have t1:=fM (f:=eS 1 eB) (d:=(none,[])) h1;have t2:=hM.tr _ (fe (d:=(none,[])) h1);simp only at h1 h1' t1 t2;have t5:x<(T.2.getD v.toNat (none,[])).2.length:=by omega
  have t3:=fM (f:=eB) (d:=false) t5;have t4:(T.2.getD v.toNat (none,[])).2.getD x false=tK (gs,(n:Int),T,A) v x:=rfl;rw[t4]at t3;rw[show ca (gs,(n:Int),T,A) 3 v rs x y=(x==y&&tK (gs,(n:Int),T,A) v x)by simp[ca,fL],hv];simp+contextual-implicitDefEqProofs only[eH,jS,hv,t1,t2,t3,h0,h1',eM,eS,eI,D.size,D.sizeL,D.sub,Int.reduceBEq,bE,D.isAg,lN,go_sem,eB,iL,lM,iN]
  all_goals exact hx
 |nt hk a hks=>
  subst hk hks;obtain⟨R0,rfl⟩:∃R0,rs=[R0]:=by
   match rs,hl with
   | [a],_=>exact⟨a,rfl⟩
  have b1:=lm (R:=R0) hx;have b2:=gm (f:=R0 x) hy;rw[show ca (gs,(n:Int),T,A) 5 v [R0] x y=(x==y&& !(R0 x y))by(by_cases e:x=y;(subst e;simp[ca,fL]);(simp[ca,fL,beq_false_of_ne e])),hv];simp+contextual-implicitDefEqProofs only[eH,lF,o6,jS,hv,b1,b2,hx,hy,dJ,eC,eM,eS,eI,D.size,D.sizeL,D.sub,Int.cast_ofNat_Int,Int.reduceLT,Int.le_refl,Int.reduceBEq,bE,D.isAg,lN,lC,lK,lZ,go_sem,eB,iL,iN]
 |sum hk a b hks=>
  subst hk hks;obtain⟨R0,R1,rfl⟩:∃R0 R1,rs=[R0,R1]:=by
   match rs,hl with
   | [a,b],_=>exact⟨a,b,rfl⟩
  have b1:=lm (R:=R0) hx;have b2:=gm (f:=R0 x) hy;have b3:=lm (R:=R1) hx;have b4:=gm (f:=R1 x) hy;rw[show ca (gs,(n:Int),T,A) 6 v [R0,R1] x y=(R0 x y||R1 x y)by simp[ca]];cases hw:R0 x y
  all_goals
   rw[hw]at b2;simp+contextual-implicitDefEqProofs only[eH,lF,o6,at1,b1,b2,b3,b4,hx,hy,dJ,eC,eM,eS,eI,D.size,D.sizeL,D.sub,Int.cast_ofNat_Int,Int.reduceLT,Int.reduceLE,Int.le_refl,Int.reduceBEq,bE,Int.reduceToNat,D.isAg,lN,lC,lK,lZ,go_sem,eB,iL,iN]
 |act hk=>exact absurd hk hk4.1
 |dot hk=>exact absurd hk hk4.2.1
 |star hk=>exact absurd hk hk4.2.2

def mO(g f1 f2 f3 f4 f5:Nat):RC:=(.seq (.r [.b 2 5 0,.b 3 3 1,.o (.mv 4 (.c (.ls (some true) 1 [])))]) (.seq (.r [.o (.bs 9 1 (.ls (some true) 1 []) 0 []),.o (.zer 5 1 (.ls (some true) 1 [])),.s 1 5 9]) (.seq (.seq (.r [.f 10 2 3,.l 11 1 10,.o (.len 12 (.t 11)),.v 13 (.ci 0)]) (.blk 0 (.loop (.seq (.r [.o (.bin 14 .lss (.t 13) (.t 12))]) (.seq (.cond (.t 14) .skip (.exit 0)) (.seq (.blk 1 (.seq (.r [.o (.ia 15 3 (.t 11) (.t 13)),.L 16 3 15,.o (.zer 7 3 .ze),.s 3 7 16]) (.reg true [.l 17 1 5,.L 18 5 2,.L 19 3 7,.c 20 g [.t 18,.t 19],.o (.bs 21 1 (.ls (some true) 1 []) 1 [(0,(.t 20))]),.o (.app 22 1 24 (.t 17) (.t 21)),.s 1 5 22]))) (.r [.o (.bin 23 .add (.t 13) (.ci 1)),.m 13 23]))))))) (.seq (.seq (.r [.f 24 0 3,.l 25 1 24]) (.blk 2 (.seq (.r [.q 27 25 4,.m 26 27]) (.cond (.t 26) (.seq (.r [.f 28 2 2,.l 29 1 28,.o (.mkf 30 f3 [.t 2,.t 3]),.c 31 f1 [.t 29,.t 30],.m 4 31]) .ret) (.seq (.r [.q 33 25 7,.m 32 33]) (.cond (.t 32) (.seq (.reg true [.l 34 1 5,.i 35 1 34 0,.l 36 1 35,.l 37 1 5,.i 38 1 37 1,.l 39 1 38,.c 40 f2 [.t 36,.t 39],.m 4 40]) .ret) (.seq (.r [.q 42 25 8,.m 41 42]) (.cond (.t 41) (.seq (.r [.f 43 2 2,.l 44 1 43,.o (.mkf 45 f4 [.t 5]),.c 46 f1 [.t 44,.t 45],.m 8 46]) (.seq (.seq (.r [.f 47 2 2,.l 48 1 47,.v 49 (.ci 0)]) (.blk 3 (.loop (.seq (.r [.o (.bin 50 .lss (.t 49) (.t 48))]) (.seq (.cond (.t 50) .skip (.exit 3)) (.seq (.blk 4 (.r [.m 51 8,.m 52 8,.c 53 f2 [.t 51,.t 52],.m 8 53])) (.r [.o (.bin 54 .add (.t 49) (.ci 1)),.m 49 54]))))))) (.seq (.r [.m 55 8,.m 4 55]) .ret))) .skip)))))))) (.seq (.r [.f 56 2 2,.l 57 1 56,.o (.mkf 58 f5 [.t 3,.t 2,.t 5]),.c 59 f1 [.t 57,.t 58],.m 4 59]) .ret)))))
def nG(P:Program)(fno:Nat):Prop:=∀(m:Mo)(n:Nat)(e:Ex)(hM:jh m n)(hT:aD m.1 e=true),AF P fno [eM m,eE e] (.own (.ls (some false) 1 (rD n (a7 m e))))
theorem zO{P:Program}(hm:P.follows .mixedOrders=true){g f1 f2 f3 f4 f5:Nat}(hr:aP P g=some (60,mO g f1 f2 f3 f4 f5,[.t 4]))(hc1:kG P f1)(hc2:gi P f2)(hc3:lB P f3)(hc4:kz P f4)(hc5:kx P f5):nG P g:=by
 intro m n e hM hT;obtain⟨gs,p,T,A⟩:=m;obtain rfl:p=n:=hM.pts;refine Ex.ind (p:=fun e=>aD gs e=true→AF P g [eM (gs,(n:Int),T,A),eE e] (.own (.ls (some false) 1 (rD n (a7 (gs,(n:Int),T,A) e))))) (fun k v nn ks ih hT=>?_) e hT;rw[cx,bA,List.all_eq_true]at hT;have n1:=hM.n1;have n8:=hM.n8;have hK:=F8 hM hT.1;rw[bc,eQ];refine aw hr hm rfl fun hb=>?_;have hkl:ks.length≤2:=D0 hK;simp+contextual-implicitDefEqProofs only[mO,o6,eM,eS,eI,D.size,D.sizeL,D.sub,bE,D.isAg,lN,lK,lZ,go_sem,lM];refine bB (α:=Nat) [7,13,14,15,16,17,18,19,20,21,22,23] (fun i=>[(13,.im none (.sc (.int .i64 i)))]) (fun i=>[(5,.ar true (some false) 1 [.ls (some false) 1 ((ks.take i).map fun e=>.ls (some false) 1 (rD n (a7 (gs,(n:Int),T,A) e)))]),(3,.ar false (some false) 3 [.ag [.sc (.int .i64 k),.sc (.int .i64 v),.ls nn 3 (ks.map eE)]]),(2,.ar false (some false) 5 [.ag [.sc (.int .i64 gs.1),.sc (.int .i64 gs.2),.sc (.int .i64 n),.ls T.1 1 (T.2.map (eS 1 eB)),.ls A.1 1 (A.2.map (eS 1 (eS 1 eB)))]])]) (fun i=>i≤ks.length) (fun i=>ks.length-i) 0 (bf.to [] (by simp only[go_sem];rfl) rfl (by simp) (by rfl) (by simp only[an,go_sem,keep,cH]<;>simp)) (Nat.zero_le _) ?_;intro i hi0
 by_cases hi:i<ks.length
 ·have e1:=bP (f:=eE) hi;have hx:=List.getElem_mem hi;have ihx:=ih ks[i] hx (hT.2 _ hx);obtain⟨ek,en,enn,eks,hxk⟩:=Ex.ex ks[i];rw[hxk,bc]at e1 ihx;simp+contextual-implicitDefEqProofs only[hi,e1,D.put,D.size,D.sizeL,D.isAg,aq,af,lM,D.sub,bE,lN,lC,lK,lZ,go_sem,iL,iN];refine aa (ds:=[eM (gs,(n:Int),T,A),.ag [.sc (.int .i64 ek),.sc (.int .i64 en),.ls enn 3 (eks.map eE)]]) (by rfl) ihx ?_;simp+contextual-implicitDefEqProofs only[D.put,D.size,D.isAg,aq,af,lM,D.sub,bE,lN,lC,lK,lZ,go_sem,Nat.reduceMul];refine⟨rfl,⟨by(try simp);omega,by unfold aT;(try simp);omega,by simp[D.size]⟩,i+1,by omega,by omega,?_⟩;rw[aj (by omega) (by omega)];exact bf.to [7] (by simp only[go_sem];rfl) rfl (by simp[xh hi,hxk]) (by rfl) (by simp only[an,go_sem]<;>simp)
 ·obtain rfl:i=ks.length:=by omega
  have hxy:∀x y:Nat,((x:Int)==(y:Int))=(x==y):=fun x y=>jS;rw[List.take_length];cases hK with
  |act hk hks h0 h1=>
   subst hk hks;rw[show ca (gs,(n:Int),T,A) 4 v ([].map (a7 (gs,(n:Int),T,A)))=bt (mF (gs,(n:Int),T,A) v)by simp[ca]];simp+contextual-implicitDefEqProofs only[D.sub,Int.cast_ofNat_Int,Int.reduceLT,bE,D.isAg,lN,lC,lZ,go_sem];refine aa (ds:=[eI n,.fn f3 [.pt (eM (gs,(n:Int),T,A)) 0,.pt (eE (.mk 4 v nn [])) 0]]) (by rw[bc];rfl) (hc1 n f3 _ (bt (mF (gs,(n:Int),T,A) v)) (by omega) (fun x y hx hy=>hc3 (gs,(n:Int),T,A) n 4 v nn [] x y hM hx hy h0 h1)) ?_;rw[show((some false,bS n fun x=>(some false,bS n (bt (mF (gs,(n:Int),T,A) v) x))):SL (SL Bool))=dZ n (bt (mF (gs,(n:Int),T,A) v))from rfl,gu];simp+contextual-implicitDefEqProofs only[go_sem]
  |dot hk a b hks=>
   subst hk hks;rw[show ca (gs,(n:Int),T,A) 7 v ([a,b].map (a7 (gs,(n:Int),T,A)))=dF n (a7 (gs,(n:Int),T,A) a) (a7 (gs,(n:Int),T,A) b)by simp[ca]];simp+contextual-implicitDefEqProofs only[o6,at1,D.sub,Int.cast_ofNat_Int,Int.reduceLT,Int.reduceLE,Int.le_refl,Int.reduceBEq,bE,Int.reduceToNat,D.isAg,lN,lC,lK,lZ,go_sem];refine aa (ds:=[.ls (some false) 1 (rD n (a7 (gs,(n:Int),T,A) a)),.ls (some false) 1 (rD n (a7 (gs,(n:Int),T,A) b))]) (by rfl) (za hc2 (by omega)) ?_;simp+contextual-implicitDefEqProofs only[go_sem]
  |star hk a hks=>
   subst hk hks;rw[show ca (gs,(n:Int),T,A) 8 v ([a].map (a7 (gs,(n:Int),T,A)))=kA n (a7 (gs,(n:Int),T,A) a)by simp[ca]];simp+contextual-implicitDefEqProofs only[o6,D.sub,Int.cast_ofNat_Int,Int.reduceLT,Int.reduceBEq,bE,D.isAg,lN,lC,lK,lZ,go_sem];refine aa (ds:=[eI n,.fn f4 [.pt (lF n [a7 (gs,(n:Int),T,A) a]) 0]]) (by rfl) (hc1 n f4 _ (xA n (a7 (gs,(n:Int),T,A) a) 0) (by omega) (fun x y hx hy=>hc4 n (a7 (gs,(n:Int),T,A) a) x y hx hy)) ?_;rw[show((some false,bS n fun x=>(some false,bS n (xA n (a7 (gs,(n:Int),T,A) a) 0 x))):SL (SL Bool))=dZ n (xA n (a7 (gs,(n:Int),T,A) a) 0)from rfl,gu];simp+contextual-implicitDefEqProofs only[D.sub,D.isAg,go_sem];refine bB (α:=Nat) [8,46,49,50,51,52,53,54] (fun i=>[(49,.im none (.sc (.int .i64 i))),(8,.tr 46)]) (fun i=>[(46,.own (.ls (some false) 1 (rD n (xA n (a7 (gs,(n:Int),T,A) a) i)))),(5,.ar true (some false) 1 [.ls (some false) 1 [.ls (some false) 1 (rD n (a7 (gs,(n:Int),T,A) a))]]),(3,.ar false (some false) 3 [.ag [.sc (.int .i64 8),.sc (.int .i64 v),.ls nn 3 [eE a]]]),(2,.ar false (some false) 5 [.ag [.sc (.int .i64 gs.1),.sc (.int .i64 gs.2),.sc (.int .i64 n),.ls T.1 1 (T.2.map (eS 1 eB)),.ls A.1 1 (A.2.map (eS 1 (eS 1 eB)))]])]) (fun i=>i≤n) (fun i=>n-i) 0 (bf.to [] (by simp only[go_sem];rfl) rfl (by simp) (by rfl) (by simp only[an,go_sem,keep,cH]<;>simp)) (Nat.zero_le _) ?_
   intro i hi0
   by_cases hin:i<n
   ·simp+contextual-implicitDefEqProofs only[hin,lN,lC,go_sem,iL];refine aa (ds:=[.ls (some false) 1 (rD n (xA n (a7 (gs,(n:Int),T,A) a) i)),.ls (some false) 1 (rD n (xA n (a7 (gs,(n:Int),T,A) a) i))]) (by rfl) (za hc2 (by omega)) ?_;simp+contextual-implicitDefEqProofs only[go_sem];refine⟨i+1,by omega,by omega,?_⟩;rw[aj (by omega) (by omega)];refine bf.trans (bf.del _ 46) (bf.trans (bf.ren _ 53 46 [8] (.ls (some false) 1 (rD n (xA n (a7 (gs,(n:Int),T,A) a) (i+1)))) (by rfl) (by rfl) (by simp;rfl)) ?_);exact bf.to [] (by simp only[go_sem,lC,lN];rfl) rfl (by simp) (by rfl) (by simp only[an,go_sem]<;>simp)
   ·obtain rfl:i=n:=by omega
    simp+contextual-implicitDefEqProofs only[hin,bE,go_sem,iL];rw[DN];exact D.Le.refl _
  |zero hk hks=>
   subst hk hks;simp+contextual-implicitDefEqProofs only[o6,D.sub,Int.cast_ofNat_Int,Int.reduceLT,Int.reduceBEq,D.isAg,lN,lC,lZ,go_sem];refine aa (ds:=[eI n,.fn f5 [.pt (eE (.mk 1 v nn [])) 0,.pt (eM (gs,(n:Int),T,A)) 0,.pt (lF n []) 0]]) (by rw[bc];rfl) (hc1 n f5 _ (ca (gs,(n:Int),T,A) 1 v []) (by omega) (fun x y hx hy=>hc5 (gs,(n:Int),T,A) n 1 v nn [] x y hM [] hx hy rfl (.zero rfl rfl) (by decide))) ?_;rw[show((some false,bS n fun x=>(some false,bS n (ca (gs,(n:Int),T,A) 1 v [] x))):SL (SL Bool))=dZ n (ca (gs,(n:Int),T,A) 1 v [])from rfl,gu];simp+contextual-implicitDefEqProofs only[go_sem]
  |one hk hks=>
   subst hk hks;simp+contextual-implicitDefEqProofs only[o6,D.sub,Int.cast_ofNat_Int,Int.reduceLT,Int.reduceBEq,D.isAg,lN,lC,lZ,go_sem];refine aa (ds:=[eI n,.fn f5 [.pt (eE (.mk 2 v nn [])) 0,.pt (eM (gs,(n:Int),T,A)) 0,.pt (lF n []) 0]]) (by rw[bc];rfl) (hc1 n f5 _ (ca (gs,(n:Int),T,A) 2 v []) (by omega) (fun x y hx hy=>hc5 (gs,(n:Int),T,A) n 2 v nn [] x y hM [] hx hy rfl (.one rfl rfl) (by decide))) ?_;rw[show((some false,bS n fun x=>(some false,bS n (ca (gs,(n:Int),T,A) 2 v [] x))):SL (SL Bool))=dZ n (ca (gs,(n:Int),T,A) 2 v [])from rfl,gu];simp+contextual-implicitDefEqProofs only[go_sem]
  |test hk hks h0 h1=>
   subst hk hks;simp+contextual-implicitDefEqProofs only[o6,D.sub,Int.cast_ofNat_Int,Int.reduceLT,Int.reduceBEq,D.isAg,lN,lC,lZ,go_sem];refine aa (ds:=[eI n,.fn f5 [.pt (eE (.mk 3 v nn [])) 0,.pt (eM (gs,(n:Int),T,A)) 0,.pt (lF n []) 0]]) (by rw[bc];rfl) (hc1 n f5 _ (ca (gs,(n:Int),T,A) 3 v []) (by omega) (fun x y hx hy=>hc5 (gs,(n:Int),T,A) n 3 v nn [] x y hM [] hx hy rfl (.test rfl rfl h0 h1) (by decide))) ?_;rw[show((some false,bS n fun x=>(some false,bS n (ca (gs,(n:Int),T,A) 3 v [] x))):SL (SL Bool))=dZ n (ca (gs,(n:Int),T,A) 3 v [])from rfl,gu];simp+contextual-implicitDefEqProofs only[go_sem]
  |nt hk a hks=>
   subst hk hks;simp+contextual-implicitDefEqProofs only[o6,D.sub,Int.cast_ofNat_Int,Int.reduceLT,Int.reduceBEq,D.isAg,lN,lC,lK,lZ,go_sem];refine aa (ds:=[eI n,.fn f5 [.pt (eE (.mk 5 v nn [a])) 0,.pt (eM (gs,(n:Int),T,A)) 0,.pt (lF n [a7 (gs,(n:Int),T,A) a]) 0]]) (by rw[bc];rfl) (hc1 n f5 _ (ca (gs,(n:Int),T,A) 5 v [a7 (gs,(n:Int),T,A) a]) (by omega) (fun x y hx hy=>hc5 (gs,(n:Int),T,A) n 5 v nn [a] x y hM [a7 (gs,(n:Int),T,A) a] hx hy rfl (.nt rfl a rfl) (by decide))) ?_;rw[show((some false,bS n fun x=>(some false,bS n (ca (gs,(n:Int),T,A) 5 v [a7 (gs,(n:Int),T,A) a] x))):SL (SL Bool))=dZ n (ca (gs,(n:Int),T,A) 5 v [a7 (gs,(n:Int),T,A) a])from rfl,gu];simp+contextual-implicitDefEqProofs only[go_sem]
  |sum hk a b hks=>
   subst hk hks;simp+contextual-implicitDefEqProofs only[o6,D.sub,Int.cast_ofNat_Int,Int.reduceLT,Int.reduceBEq,D.isAg,lN,lC,lK,lZ,go_sem];refine aa (ds:=[eI n,.fn f5 [.pt (eE (.mk 6 v nn [a,b])) 0,.pt (eM (gs,(n:Int),T,A)) 0,.pt (lF n [a7 (gs,(n:Int),T,A) a,a7 (gs,(n:Int),T,A) b]) 0]]) (by rw[bc];rfl) (hc1 n f5 _ (ca (gs,(n:Int),T,A) 6 v [a7 (gs,(n:Int),T,A) a,a7 (gs,(n:Int),T,A) b]) (by omega) (fun x y hx hy=>hc5 (gs,(n:Int),T,A) n 6 v nn [a,b] x y hM [a7 (gs,(n:Int),T,A) a,a7 (gs,(n:Int),T,A) b] hx hy rfl (.sum rfl a b rfl) (by decide))) ?_;rw[show((some false,bS n fun x=>(some false,bS n (ca (gs,(n:Int),T,A) 6 v [a7 (gs,(n:Int),T,A) a,a7 (gs,(n:Int),T,A) b] x))):SL (SL Bool))=dZ n (ca (gs,(n:Int),T,A) 6 v [a7 (gs,(n:Int),T,A) a,a7 (gs,(n:Int),T,A) b])from rfl,gu];simp+contextual-implicitDefEqProofs only[go_sem]
end Go.Ax
