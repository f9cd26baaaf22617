/- Contracts of functions of the seat, proved over the engine. No condition. -/
import Derived.Test.YtjnghfepojipiaaXxA
import Derived.Test.YtjnghfepojipiaaEnI
set_option linter.unusedSimpArgs false
set_option linter.unusedVariables false
set_option linter.unnecessarySimpa false
set_option linter.unusedSectionVars false
namespace Go.Ax
abbrev Mo:=(Int×Int)×Int×SL (SL Bool)×SL (SL (SL Bool))
def eM(m:Mo):D:=.ag [eI m.1.1,eI m.1.2,eI m.2.1,eS 1 (eS 1 eB) m.2.2.1,eS 1 (eS 1 (eS 1 eB)) m.2.2.2]
def bM{α:Type}(c:Int)(x:SL α):Bool:=(x.2.length:Int)==c
def dG{α:Type}(r c:Int)(t:SL (SL α)):Bool:=bM r t&&t.2.all (bM c)
def dx(g:Int×Int)(p:Int)(t:SL (SL Bool)):Bool:=fH g&&(dj p 1 8&&dG g.1 p t)
def it{α:Type}(g:Int×Int)(p:Int)(t:SL (SL (SL α))):Bool:=bM g.2 t&&t.2.all (dG p p)

def jT:RC:=(.seq (.r [.v 6 .cf]) (.seq (.seq (.r [.m 9 0,.o (.len 10 (.t 9)),.m 11 1,.o (.bin 12 .neq (.t 10) (.t 11))]) (.cond (.t 12) (.seq (.r [.v 6 .cf]) .ret) .skip)) (.seq (.seq (.r [.m 13 0,.o (.len 14 (.t 13)),.v 15 (.ci 0)]) (.blk 0 (.loop (.seq (.r [.o (.bin 16 .lss (.t 15) (.t 14))]) (.seq (.cond (.t 16) .skip (.exit 0)) (.seq (.blk 1 (.seq (.r [.o (.ia 17 1 (.t 13) (.t 15)),.l 18 1 17,.m 8 18]) (.seq (.r [.m 19 8,.o (.len 20 (.t 19)),.m 21 2,.o (.bin 22 .neq (.t 20) (.t 21))]) (.cond (.t 22) (.seq (.r [.v 6 .cf]) .ret) .skip)))) (.r [.o (.bin 23 .add (.t 15) (.ci 1)),.m 15 23]))))))) (.seq (.r [.v 6 .ct]) .ret))))
def mZ(P:Program)(f:Nat):Prop:=∀(t:SL (SL Bool))(r c:Int),AF P f [eS 1 (eS 1 eB) t,eI r,eI c] (.own (eB (dG r c t)))
theorem zt{P:Program}(hm:P.follows .mixedOrders=true){g:Nat}(hr:aP P g=some (24,jT,[.t 6])):mZ P g:=by
 intro t r c;refine aw hr hm rfl fun hb=>?_;have hl:=sY hb.1;simp only[lM]at hl;cases h0:bM r t
 ·have h0':=h0;simp only[bM]at h0';simp+contextual-implicitDefEqProofs only[jT,eS,lM,h0',dG,h0,bne,bN,bG,go_sem,eI,eB]
 have h0':=h0;simp only[bM]at h0';simp+contextual-implicitDefEqProofs only[jT,eS,lM,h0',bne,bT,go_sem,eI,eB];refine eD (α:=Nat) [6,8,15,16,17,18,19,20,21,22,23] (fun i=>[(15,.im none (.sc (.int .i64 i)))]) (fun i=>i≤t.2.length∧(t.2.take i).all (bM c)=true) (fun i=>t.2.length-i) 0 (by simp only[an,go_sem];simp) ⟨Nat.zero_le _,rfl⟩ ?_;rintro i ⟨j1,j2⟩
 by_cases hi:i<t.2.length
 ·have e1:=bP (f:=eS 1 eB) hi;simp+contextual-implicitDefEqProofs only[e1,hi,iL,lM,iN,go_sem];cases hx:bM c t.2[i]
  ·have hx':=hx;simp only[bM]at hx';simp+contextual-implicitDefEqProofs only[eS,lM,bne,hx',bN,go_sem];exact D.Le.sc_eq (by simp only[dG,h0];rw[dI hi hx];rfl)
  ·have hx':=hx;simp only[bM]at hx';simp+contextual-implicitDefEqProofs only[eS,lM,bne,hx',bT,go_sem];rw[aj (by omega) (by omega)];exact⟨i+1,⟨by omega,bR hi j2 hx⟩,by omega,bf.env (by simp only[an,go_sem];simp)⟩
 ·simp+contextual-implicitDefEqProofs only[hi,iL,go_sem];exact D.Le.sc_eq (by simp only[dG,h0];rw[cB hi j2];rfl)

def ny(f1 f2:Nat):RC:=(.seq (.r [.b 3 2 0,.v 6 .cf]) (.seq (.seq (.r [.L 8 2 3,.c 9 f1 [.t 8],.o (.un 10 .not (.t 9)),.m 11 10,.u 11 (.mv 12 (.t 1)),.u 11 (.call (some 13) f2 [.t 12,.ci 1,.ci 8]),.u 11 (.un 14 .not (.t 13)),.o (.pick 15 (.t 11) .ct (.t 14)),.m 16 15,.u 16 (.mv 17 (.t 2)),.u 16 (.len 18 (.t 17)),.u 16 (.fa 19 0 (.t 3)),.u 16 (.ld 20 false 1 (.t 19)),.u 16 (.bin 21 .neq (.t 18) (.t 20)),.o (.pick 22 (.t 16) .ct (.t 21))]) (.cond (.t 22) (.seq (.r [.v 6 .cf]) .ret) .skip)) (.seq (.seq (.r [.v 7 (.ci 0)]) (.blk 0 (.loop (.seq (.seq (.r [.m 23 7,.m 24 2,.o (.len 25 (.t 24)),.o (.bin 26 .lss (.t 23) (.t 25))]) (.cond (.t 26) .skip (.exit 0))) (.seq (.blk 1 (.seq (.r [.m 29 2,.m 30 7,.o (.ia 31 1 (.t 29) (.t 30)),.l 32 1 31,.o (.len 33 (.t 32)),.m 34 1,.o (.bin 35 .neq (.t 33) (.t 34))]) (.cond (.t 35) (.seq (.r [.v 6 .cf]) .ret) .skip))) (.r [.m 27 7,.o (.bin 28 .add (.t 27) (.ci 1)),.m 7 28])))))) (.seq (.r [.v 6 .ct]) .ret))))
def ng(P:Program)(f:Nat):Prop:=∀(g:Int×Int)(p:Int)(t:SL (SL Bool)),AF P f [eG g,eI p,eS 1 (eS 1 eB) t] (.own (eB (dx g p t)))
theorem zB{P:Program}(hm:P.follows .mixedOrders=true){g f1 f2:Nat}(hr:aP P g=some (36,ny f1 f2,[.t 6]))(hc1:lx P f1)(hc2:iC P f2):ng P g:=by
 intro g p t;refine aw hr hm rfl fun hb=>?_;have hl:=sY hb.2.2.1;simp only[lM]at hl;simp+contextual-implicitDefEqProofs only[ny,eG,eS,go_sem,eI,eB];refine aa ?_ (hc1 g) ?_
 ·exact rfl
 cases hg:fH g
 ·simp+contextual-implicitDefEqProofs only[dx,hg,bN,bG,go_sem,eB]
 simp+contextual-implicitDefEqProofs only[bT,go_sem,eB];refine aa ?_ (hc2 p 1 8) ?_
 ·exact rfl
 cases hp:dj p 1 8
 ·simp+contextual-implicitDefEqProofs only[dx,hg,hp,bN,bG,bJ,go_sem,eB]
 cases h0:bM g.1 t
 ·have h0':=h0;simp only[bM]at h0';simp+contextual-implicitDefEqProofs only[dx,dG,hg,hp,h0,h0',lM,bne,bT,bN,bG,bJ,go_sem,eB]
 have h0':=h0;simp only[bM]at h0';simp+contextual-implicitDefEqProofs only[h0',lM,bne,bT,go_sem,eB];refine eD (α:=Nat) [6,7,23,24,25,26,27,28,29,30,31,32,33,34,35] (fun i=>[(7,.im none (.sc (.int .i64 i)))]) (fun i=>i≤t.2.length∧(t.2.take i).all (bM p)=true) (fun i=>t.2.length-i) 0 (by simp only[an,go_sem];simp) ⟨Nat.zero_le _,rfl⟩ ?_;rintro i ⟨j1,j2⟩
 by_cases hi:i<t.2.length
 ·have e1:=bP (f:=eS 1 eB) hi;simp+contextual-implicitDefEqProofs only[e1,hi,iL,lM,iN,go_sem];cases hx:bM p t.2[i]
  ·have hx':=hx;simp only[bM]at hx';simp+contextual-implicitDefEqProofs only[eS,lM,bne,hx',bN,go_sem];exact D.Le.sc_eq (by simp only[dx,dG,hg,hp,h0];rw[dI hi hx];rfl)
  ·have hx':=hx;simp only[bM]at hx';simp+contextual-implicitDefEqProofs only[eS,lM,bne,hx',bT,go_sem];rw[aj (by omega) (by omega)];exact⟨i+1,⟨by omega,bR hi j2 hx⟩,by omega,bf.env (by simp only[an,go_sem];simp)⟩
 ·simp+contextual-implicitDefEqProofs only[hi,iL,lM,go_sem];exact D.Le.sc_eq (by simp only[dx,dG,hg,hp,h0];rw[cB hi j2];rfl)

def nz(f1 f2 f3:Nat):RC:=(.seq (.r [.b 4 2 0,.v 8 .cf]) (.seq (.seq (.r [.L 11 2 4,.c 12 f1 [.t 11],.o (.un 13 .not (.t 12)),.m 14 13,.u 14 (.mv 15 (.t 1)),.u 14 (.call (some 16) f2 [.t 15,.ci 1,.ci 8]),.u 14 (.un 17 .not (.t 16)),.o (.pick 18 (.t 14) .ct (.t 17)),.m 19 18,.u 19 (.mv 20 (.t 2)),.u 19 (.fa 21 0 (.t 4)),.u 19 (.ld 22 false 1 (.t 21)),.u 19 (.mv 23 (.t 1)),.u 19 (.call (some 24) f3 [.t 20,.t 22,.t 23]),.u 19 (.un 25 .not (.t 24)),.o (.pick 26 (.t 19) .ct (.t 25)),.m 27 26,.u 27 (.mv 28 (.t 3)),.u 27 (.len 29 (.t 28)),.u 27 (.fa 30 1 (.t 4)),.u 27 (.ld 31 false 1 (.t 30)),.u 27 (.bin 32 .neq (.t 29) (.t 31)),.o (.pick 33 (.t 27) .ct (.t 32))]) (.cond (.t 33) (.seq (.r [.v 8 .cf]) .ret) .skip)) (.seq (.seq (.r [.m 34 3,.o (.len 35 (.t 34)),.v 36 (.ci 0)]) (.blk 0 (.loop (.seq (.r [.o (.bin 37 .lss (.t 36) (.t 35))]) (.seq (.cond (.t 37) .skip (.exit 0)) (.seq (.blk 1 (.seq (.r [.o (.ia 38 1 (.t 34) (.t 36)),.l 39 1 38,.m 10 39]) (.seq (.r [.m 40 10,.m 41 1,.m 42 1,.c 43 f3 [.t 40,.t 41,.t 42],.o (.un 44 .not (.t 43))]) (.cond (.t 44) (.seq (.r [.v 8 .cf]) .ret) .skip)))) (.r [.o (.bin 45 .add (.t 36) (.ci 1)),.m 36 45]))))))) (.seq (.r [.v 8 .ct]) .ret))))
def nq(P:Program)(f:Nat):Prop:=∀(g:Int×Int)(p:Int)(u:SL (SL Bool))(t:SL (SL (SL Bool))),AF P f [eG g,eI p,eS 1 (eS 1 eB) u,eS 1 (eS 1 (eS 1 eB)) t] (.own (eB (dx g p u&&it g p t)))
theorem zS{P:Program}(hm:P.follows .mixedOrders=true){g f1 f2 f3:Nat}(hr:aP P g=some (46,nz f1 f2 f3,[.t 8]))(hc1:nv P f1)(hc2:jm P f2)(hc3:mZ P f3):nq P g:=by
 intro g p u t;refine aw hr hm rfl fun hb=>?_;have hl:=sY hb.2.2.2.1;simp only[lM]at hl;simp+contextual-implicitDefEqProofs only[nz,eG,eS,go_sem,eI,eB];refine aa ?_ (hc1 g) ?_
 ·exact rfl
 cases hg:fH g
 ·simp+contextual-implicitDefEqProofs only[dx,hg,bN,bG,go_sem,eB]
 simp+contextual-implicitDefEqProofs only[bT,go_sem,eB];refine aa ?_ (hc2 p 1 8) ?_
 ·exact rfl
 cases hp:dj p 1 8
 ·simp+contextual-implicitDefEqProofs only[dx,hg,hp,bN,bG,bJ,go_sem,eB]
 simp+contextual-implicitDefEqProofs only[bT,go_sem,eB];refine aa ?_ (hc3 u g.1 p) ?_
 ·exact rfl
 cases hu:dG g.1 p u
 ·simp+contextual-implicitDefEqProofs only[dx,hg,hp,hu,bN,bG,bJ,go_sem,eB]
 have hT:dx g p u=true:=by simp[dx,hg,hp,hu]
 cases h0:bM g.2 t
 ·have h0':=h0;simp only[bM]at h0';simp+contextual-implicitDefEqProofs only[it,hT,h0,h0',lM,bne,bT,bN,bG,bJ,go_sem,eB]
 have h0':=h0;simp only[bM]at h0';simp+contextual-implicitDefEqProofs only[h0',lM,bne,bT,go_sem,eB];refine eD (α:=Nat) [8,10,36,37,38,39,40,41,42,43,44,45] (fun i=>[(36,.im none (.sc (.int .i64 i)))]) (fun i=>i≤t.2.length∧(t.2.take i).all (dG p p)=true) (fun i=>t.2.length-i) 0 (by simp only[an,go_sem];simp) ⟨Nat.zero_le _,rfl⟩ ?_;rintro i ⟨j1,j2⟩
 by_cases hi:i<t.2.length
 ·have e1:=bP (f:=eS 1 (eS 1 eB)) hi;simp+contextual-implicitDefEqProofs only[eS,e1,hi,iL,lM,iN,go_sem];refine aa ?_ (hc3 t.2[i] p p) ?_
  ·exact rfl
  cases hx:dG p p t.2[i]
  ·simp+contextual-implicitDefEqProofs only[bN,go_sem,eB];exact D.Le.sc_eq (by simp only[it,hT,h0];rw[dI hi hx];rfl)
  ·simp+contextual-implicitDefEqProofs only[bT,go_sem,eB];rw[aj (by omega) (by omega)];exact⟨i+1,⟨by omega,bR hi j2 hx⟩,by omega,bf.env (by simp only[an,go_sem];simp)⟩
 ·simp+contextual-implicitDefEqProofs only[hi,iL,go_sem];exact D.Le.sc_eq (by simp only[it,hT,h0];rw[cB hi j2];rfl)

def iP(m:Mo):Bool:=dx m.1 m.2.1 m.2.2.1&&it m.1 m.2.1 m.2.2.2

def wh(f1:Nat):RC:=(.seq (.r [.v 2 .cf]) (.seq (.seq (.reg true [.m 5 0,.n 6 5,.f 7 0 6,.L 8 2 7,.m 9 0,.n 10 9,.f 11 2 10,.l 12 1 11,.m 13 0,.n 14 13,.f 15 3 14,.l 16 1 15,.c 17 f1 [.t 8,.t 12,.t 16],.o (.un 18 .not (.t 17)),.m 19 18,.u 19 (.mv 20 (.t 0)),.u 19 (.nck 21 (.t 20)),.u 19 (.fa 22 4 (.t 21)),.u 19 (.ld 23 false 1 (.t 22)),.u 19 (.len 24 (.t 23)),.u 19 (.mv 25 (.t 0)),.u 19 (.nck 26 (.t 25)),.u 19 (.fa 27 0 (.t 26)),.u 19 (.fa 28 1 (.t 27)),.u 19 (.ld 29 false 1 (.t 28)),.u 19 (.bin 30 .neq (.t 24) (.t 29)),.o (.pick 31 (.t 19) .ct (.t 30))]) (.cond (.t 31) (.seq (.r [.v 2 .cf]) .ret) .skip)) (.seq (.seq (.r [.v 3 (.ci 0)]) (.blk 0 (.loop (.seq (.seq (.r [.m 32 3,.m 33 0,.n 34 33,.f 35 4 34,.l 36 1 35,.o (.len 37 (.t 36)),.o (.bin 38 .lss (.t 32) (.t 37))]) (.cond (.t 38) .skip (.exit 0))) (.seq (.blk 1 (.seq (.seq (.reg true [.m 41 0,.n 42 41,.f 43 4 42,.l 44 1 43,.m 45 3,.o (.ia 46 1 (.t 44) (.t 45)),.l 47 1 46,.o (.len 48 (.t 47)),.m 49 0,.n 50 49,.f 51 2 50,.l 52 1 51,.o (.bin 53 .neq (.t 48) (.t 52))]) (.cond (.t 53) (.seq (.r [.v 2 .cf]) .ret) .skip)) (.seq (.r [.v 4 (.ci 0)]) (.blk 2 (.loop (.seq (.seq (.r [.m 54 4,.m 55 0,.n 56 55,.f 57 4 56,.l 58 1 57,.m 59 3,.o (.ia 60 1 (.t 58) (.t 59)),.l 61 1 60,.o (.len 62 (.t 61)),.o (.bin 63 .lss (.t 54) (.t 62))]) (.cond (.t 63) .skip (.exit 2))) (.seq (.blk 3 (.seq (.reg true [.m 66 0,.n 67 66,.f 68 4 67,.l 69 1 68,.m 70 3,.o (.ia 71 1 (.t 69) (.t 70)),.l 72 1 71,.m 73 4,.o (.ia 74 1 (.t 72) (.t 73)),.l 75 1 74,.o (.len 76 (.t 75)),.m 77 0,.n 78 77,.f 79 2 78,.l 80 1 79,.o (.bin 81 .neq (.t 76) (.t 80))]) (.cond (.t 81) (.seq (.r [.v 2 .cf]) .ret) .skip))) (.r [.m 64 4,.o (.bin 65 .add (.t 64) (.ci 1)),.m 4 65])))))))) (.r [.m 39 3,.o (.bin 40 .add (.t 39) (.ci 1)),.m 3 40])))))) (.seq (.r [.v 2 .ct]) .ret))))
def ww(P:Program)(f:Nat):Prop:=∀(m:Mo),AF P f [.pt (eM m) 0] (.own (eB (iP m)))
theorem FB{P:Program}(hm:P.follows .mixedOrders=true){g f1:Nat}(hr:aP P g=some (82,wh f1,[.t 2]))(hc1:ng P f1):ww P g:=by
 intro m;refine aw hr hm rfl fun hb=>?_;have hb1:=hb.1;simp only[eM,eS,D.bd,D.bdL,lM]at hb1;have hl:=hb1.2.2.2.2.1.1;have hl2:=hb1.2.2.2.2.1.2.2;unfold aT at hl;simp+contextual-implicitDefEqProofs only[wh,eM,eS,go_sem,eI,eB];refine aa ?_ (hc1 m.1 m.2.1 m.2.2.1) ?_
 ·exact rfl
 cases hT:dx m.1 m.2.1 m.2.2.1
 ·simp+contextual-implicitDefEqProofs only[iP,hT,bN,bG,go_sem,eB]
 cases h0:bM m.1.2 m.2.2.2
 ·have h0':=h0;simp only[bM]at h0';simp+contextual-implicitDefEqProofs only[iP,it,hT,h0,h0',lM,bne,bT,bN,bG,bJ,go_sem,eB]
 have h0':=h0;simp only[bM]at h0';simp+contextual-implicitDefEqProofs only[iP,h0',lM,bne,bT,go_sem,eB];refine eD (α:=Nat) [2,3,4,32,33,34,35,36,37,38,39,40,41,42,43,44,45,46,47,48,49,50,51,52,53,54,55,56,57,58,59,60,61,62,63,64,65,66,67,68,69,70,71,72,73,74,75,76,77,78,79,80,81] (fun i=>[(3,.im none (.sc (.int .i64 i)))]) (fun i=>i≤m.2.2.2.2.length∧(m.2.2.2.2.take i).all (dG m.2.1 m.2.1)=true) (fun i=>m.2.2.2.2.length-i) 0 (by simp only[an,go_sem];simp) ⟨Nat.zero_le _,rfl⟩ ?_;rintro i ⟨j1,j2⟩
 by_cases hi:i<m.2.2.2.2.length
 ·have e1:=bP (f:=eS 1 (eS 1 eB)) hi;simp+contextual-implicitDefEqProofs only[eS,e1,hi,iL,lM,iN,go_sem];have hli:m.2.2.2.2[i].2.length≤9223372036854775807:=by
   have:=sY (Bb hl2 _ (List.mem_map_of_mem (List.getElem_mem hi)));simpa only[lM]using this
  cases hy:bM m.2.1 m.2.2.2.2[i]
  ·have hy':=hy;simp only[bM]at hy';simp+contextual-implicitDefEqProofs only[hy',bne,bN,go_sem];have hx:dG m.2.1 m.2.1 m.2.2.2.2[i]=false:=by simp only[dG,hy,bG]
   exact D.Le.sc_eq (by simp only[it,hT,h0];rw[dI hi hx];rfl)
  have hy':=hy;simp only[bM]at hy';simp+contextual-implicitDefEqProofs only[hy',bne,bT,go_sem];refine eD (α:=Nat) [2,4,54,55,56,57,58,59,60,61,62,63,64,65,66,67,68,69,70,71,72,73,74,75,76,77,78,79,80,81] (fun k=>[(4,.im none (.sc (.int .i64 k)))]) (fun k=>k≤m.2.2.2.2[i].2.length∧(m.2.2.2.2[i].2.take k).all (bM m.2.1)=true) (fun k=>m.2.2.2.2[i].2.length-k) 0 (by simp only[an,go_sem];simp) ⟨Nat.zero_le _,rfl⟩ ?_;rintro k ⟨k1,k2⟩
  by_cases hk:k<m.2.2.2.2[i].2.length
  ·have e2:=bP (f:=eS 1 eB) hk;simp+contextual-implicitDefEqProofs only[eS,e1,hi,e2,hk,iL,lM,iN,go_sem];cases hz:bM m.2.1 m.2.2.2.2[i].2[k]
   ·have hz':=hz;simp only[bM]at hz';simp+contextual-implicitDefEqProofs only[hz',bne,bN,go_sem];have hx:dG m.2.1 m.2.1 m.2.2.2.2[i]=false:=by simp only[dG,hy];rw[dI hk hz];rfl
    exact D.Le.sc_eq (by simp only[it,hT,h0];rw[dI hi hx];rfl)
   ·have hz':=hz;simp only[bM]at hz';simp+contextual-implicitDefEqProofs only[hz',bne,bT,go_sem];rw[aj (by omega) (by omega)];exact⟨k+1,⟨by omega,bR hk k2 hz⟩,by omega,bf.env (by simp only[an,go_sem];simp)⟩
  ·simp+contextual-implicitDefEqProofs only[eS,e1,hi,hk,iL,lM,iN,go_sem];have hx:dG m.2.1 m.2.1 m.2.2.2.2[i]=true:=by simp only[dG,hy];rw[cB hk k2];rfl
   rw[aj (by omega) (by omega)];exact⟨i+1,⟨by omega,bR hi j2 hx⟩,by omega,bf.env (by simp only[an,go_sem];simp)⟩
 ·simp+contextual-implicitDefEqProofs only[hi,iL,lM,go_sem];exact D.Le.sc_eq (by simp only[it,hT,h0];rw[cB hi j2];rfl)

def jU(f1:Nat):RC:=(.seq (.r [.b 1 5 0,.v 2 .cf]) (.seq (.r [.f 3 0 1,.L 4 2 3,.f 5 2 1,.l 6 1 5,.f 7 3 1,.l 8 1 7,.f 9 4 1,.l 10 1 9,.c 11 f1 [.t 4,.t 6,.t 8,.t 10],.m 2 11]) .ret))
def gN(P:Program)(f:Nat):Prop:=∀(m:Mo),AF P f [eM m] (.own (eB (iP m)))
theorem v5{P:Program}(hm:P.follows .mixedOrders=true){g f1:Nat}(hr:aP P g=some (12,jU f1,[.t 2]))(hc1:nq P f1):gN P g:=by
 intro m;refine aw hr hm rfl fun hb=>?_;simp+contextual-implicitDefEqProofs only[jU,eM,eS,go_sem,eI,eB];refine aa ?_ (hc1 m.1 m.2.1 m.2.2.1 m.2.2.2) ?_
 ·exact rfl
 simp+contextual-implicitDefEqProofs only[iP,go_sem,eB]
set_option maxRecDepth 20000
set_option maxHeartbeats 4000000

def sW:RC:=(.seq (.r [.o (.mv 4 (.c (.ls (some true) 1 [])))]) (.seq (.r [.o (.bs 9 1 (.ls (some true) 1 []) 0 []),.m 5 9]) (.seq (.seq (.r [.m 10 0,.v 11 (.ci 0)]) (.blk 0 (.loop (.seq (.r [.o (.bin 12 .lss (.t 11) (.t 10))]) (.seq (.cond (.t 12) .skip (.exit 0)) (.seq (.blk 1 (.seq (.r [.m 13 11,.m 6 13]) (.seq (.r [.o (.bs 14 1 (.sc (.bool false)) 0 []),.m 7 14]) (.seq (.seq (.r [.m 15 0,.v 16 (.ci 0)]) (.blk 2 (.loop (.seq (.r [.o (.bin 17 .lss (.t 16) (.t 15))]) (.seq (.cond (.t 17) .skip (.exit 2)) (.seq (.blk 3 (.seq (.r [.m 18 16,.m 8 18]) (.r [.m 19 7,.m 20 1,.m 21 6,.m 22 8,.o (.calv (some 23) (.t 20) [.t 21,.t 22]),.o (.bs 24 1 (.sc (.bool false)) 1 [(0,(.t 23))]),.o (.app 25 1 1 (.t 19) (.t 24)),.m 7 25]))) (.r [.o (.bin 26 .add (.t 16) (.ci 1)),.m 16 26]))))))) (.r [.m 27 5,.m 28 7,.o (.bs 29 1 (.ls (some true) 1 []) 1 [(0,(.t 28))]),.o (.app 30 1 24 (.t 27) (.t 29)),.m 5 30]))))) (.r [.o (.bin 31 .add (.t 11) (.ci 1)),.m 11 31]))))))) (.seq (.r [.m 32 5,.m 4 32]) .ret))))
def kG(P:Program)(fno:Nat):Prop:=∀(n f:Nat)(caps:List D)(g:Nat→Nat→Bool)(hn:n≤1000)(hf:∀x y:Nat,x<n→y<n→AF P f (eI x::eI y::caps) (.own (eB (g x y)))),AF P fno [eI n,.fn f caps] (.own (eS 1 (eS 1 eB) (some false,bS n fun x=>(some false,bS n (g x)))))
theorem Eo{P:Program}(hm:P.follows .mixedOrders=true){g:Nat}(hr:aP P g=some (33,sW,[.t 4])):kG P g:=by
 intro n f caps g hn hf;refine aw hr hm rfl fun hb=>?_;simp+contextual-implicitDefEqProofs only[sW,go_sem,eI];refine bB (α:=Nat) [5,6,7,8,9,11,12,13,14,15,16,17,18,19,20,21,22,23,24,25,26,27,28,29,30,31] (fun i=>[(11,.im none (.sc (.int .i64 i))),(5,.sm 9 0 i)]) (fun i=>[(9,.ar true (some false) 1 (bS i fun x=>eS 1 eB (some false,bS n (g x))))]) (fun i=>i≤n) (fun i=>n-i) 0 (bf.to [] (by simp only[go_sem];rfl) rfl (by simp) rfl (by simp only[an,go_sem,keep,cH];simp)) (Nat.zero_le _) ?_;intro i hi0
 by_cases hi:i<n
 ·simp+contextual-implicitDefEqProofs only[hi,go_sem,iL];refine bB (α:=Nat) [7,8,14,16,17,18,19,20,21,22,23,24,25,26] (fun j=>[(16,.im none (.sc (.int .i64 j))),(7,.sm 14 0 j)]) (fun j=>[(14,.ar true (some false) 1 (bS j fun y=>eB (g i y))),(9,.ar true (some false) 1 (bS i fun x=>eS 1 eB (some false,bS n (g x))))]) (fun j=>j≤n) (fun j=>n-j) 0 (bf.to [] (by simp only[go_sem];rfl) rfl (by simp) rfl (by simp only[an,go_sem,keep,cH];simp)) (Nat.zero_le _) ?_;intro j hj0
  by_cases hj:j<n
  ·simp+contextual-implicitDefEqProofs only[hj,go_sem,eB,iL];refine aa (ds:=eI i::eI j::caps) (by simp only[dm,AV.arg,sQ];rfl) (hf i j hi hj) ?_;simp+contextual-implicitDefEqProofs only[cK,go_sem,eB,Nat.reduceMul];refine⟨rfl,⟨by omega,by unfold aT;omega,by simp[D.size]⟩,j+1,by omega,by omega,?_⟩;rw[aj (by omega) (by omega)];exact bf.env_us (by simp only[jp]) (by simp only[an,go_sem];simp)
  ·obtain rfl:j=n:=by omega
   simp+contextual-implicitDefEqProofs only[hj,cK,go_sem,eB,Nat.reduceMul,iL];refine⟨rfl,⟨by omega,by unfold aT;omega,by simp[D.size]⟩,i+1,by omega,by omega,?_⟩;rw[aj (by omega) (by omega)];exact bf.env_us (by simp only[jp,eS,lD,eB]) (by simp only[an,go_sem];simp)
 ·obtain rfl:i=n:=by omega
  simp+contextual-implicitDefEqProofs only[hi,cK,go_sem,iL];exact D.Le.of_eq (by simp only[eS,lD])
abbrev de:=Nat→Nat→Bool
def dZ(n:Nat)(R:de):SL (SL Bool):=(some false,bS n fun x=>(some false,bS n (R x)))
def rF(n:Nat)(f:Nat→Bool):List D:=bS n fun y=>.sc (.bool (f y))
def rD(n:Nat)(R:de):List D:=bS n fun x=>.ls (some false) 1 (rF n (R x))
theorem gu{n:Nat}{R:de}:eS 1 (eS 1 eB) (dZ n R)=.ls (some false) 1 (rD n R):=by
 simp only[eS,dZ,rD,rF,lD,eB]
theorem dJ{n:Nat}{R:de}:(rD n R).length=n:=cK
theorem eC{n:Nat}{f:Nat→Bool}:(rF n f).length=n:=cK
theorem rK{α:Type}{n i:Nat}{g:Nat→α}{d:α}(h:i<n):(bS n g).getD i d=g i:=by simp[bS,h]
theorem lm{n x:Nat}{R:de}(h:x<n):D.at (rD n R) x=.ls (some false) 1 (rF n (R x)):=rK h
theorem gm{n y:Nat}{f:Nat→Bool}(h:y<n):D.at (rF n f) y=.sc (.bool (f y)):=rK h
theorem lS{α:Type}{n:Nat}{f g:Nat→α}(h:∀i,i<n→f i=g i):bS n f=bS n g:=List.map_congr_left fun i hi=>h i (List.mem_range.1 hi)
theorem z9{n:Nat}{f g:Nat→Bool}(h:∀i,i<n→f i=g i):rF n f=rF n g:=lS fun i hi=>by rw[h i hi]
theorem eX{n:Nat}{R S:de}(h:∀x y,x<n→y<n→R x y=S x y):rD n R=rD n S:=lS fun x hx=>by rw[z9 fun y hy=>h x y hx hy]
theorem AR{α:Type}{n i:Nat}{f:Nat→α}{v:α}:(bS n f).set i v=bS n fun k=>if k=i then v else f k:=by
 apply List.ext_getElem
 ·simp[bS]
 ·intro k h1 h2;simp[bS]at h1
  by_cases e:i=k
  ·subst e;simp[bS]
  ·simp[bS,e,Ne.symm e]
def rI(R:de)(x y:Nat)(v:Bool):de:=fun a b=>if a=x∧b=y then v else R a b
theorem sP{n x y:Nat}{R:de}{v:Bool}:(rD n R).set x (.ls (some false) 1 ((rF n (R x)).set y (.sc (.bool v))))=rD n (rI R x y v):=by
 unfold rD rF;rw[AR,AR];refine lS fun a _=>?_
 by_cases ha:a=x
 ·subst ha;simp only[if_true,rI];congr 1;refine lS fun b _=>?_
  by_cases hb:b=y
  ·simp[hb]
  ·simp[hb]
 ·simp[ha,rI]
def setRow(R:de)(x:Nat)(f:Nat→Bool):de:=fun a b=>if a=x then f b else R a b
theorem EZ{n:Nat}:List.replicate n (D.sc (.bool false))=rF n fun _=>false:=by
 unfold rF bS
 apply List.ext_getElem
 ·simp
 ·intro i h1 h2;simp
structure Sq (n:Nat) (a:SL (SL Bool)):Prop where
 len:a.2.length=n
 row:∀r∈a.2,r.2.length=n
def bt(a:SL (SL Bool)):de:=fun x y=>(a.2.getD x (none,[])).2.getD y false
theorem Sq.rows{n x:Nat}{a:SL (SL Bool)}(h:Sq n a)(hx:x<n):(a.2.getD x (none,[])).2.length=n:=by
 have hx':x<a.2.length:=by rw[h.len];exact hx
 rw[show a.2.getD x (none,[])=a.2[x]by simp[hx']];exact h.row _ (List.getElem_mem hx')
theorem rR{n:Nat}{R:de}:Sq n (dZ n R):=⟨cK,fun r hr=>by
 obtain⟨x,_,rfl⟩:=List.mem_map.1 hr;exact cK⟩
theorem lU{n x y:Nat}{R:de}(hx:x<n)(hy:y<n):bt (dZ n R) x y=R x y:=by
 unfold bt dZ;rw[rK hx,rK hy]
theorem Sq.at{n x:Nat}{a:SL (SL Bool)}(h:Sq n a)(hx:x<n):D.at (a.2.map (eS 1 eB)) x=.ls (a.2.getD x (none,[])).1 1 ((a.2.getD x (none,[])).2.map eB):=by
 have hx':x<a.2.length:=by rw[h.len];exact hx
 rw[bP hx'];simp[eS,hx']
theorem Sq.at2{n x y:Nat}{a:SL (SL Bool)}(h:Sq n a)(hx:x<n)(hy:y<n):D.at ((a.2.getD x (none,[])).2.map eB) y=.sc (.bool (bt a x y)):=by
 have hy':y<(a.2.getD x (none,[])).2.length:=by rw[h.rows hx];exact hy
 rw[bP hy']
 show D.sc (.bool _)=_
 unfold bt;congr 2;simp only[List.getD_eq_getElem?_getD]at hy'⊢;rw[List.getElem?_eq_getElem hy']
 rfl
def mp(A B:de)(z x y:Nat):Bool:=(List.range z).any fun k=>A x k&&B k y
def dF(n:Nat)(A B:de):de:=mp A B n
theorem g9{A B:de}{z x y:Nat}:mp A B (z+1) x y=(mp A B z x y||(A x z&&B z y)):=by simp[mp,List.range_succ]
theorem nB{A B A' B':de}{n x y:Nat}(h1:∀k,k<n→A x k=A' x k)(h2:∀k,k<n→B k y=B' k y):mp A B n x y=mp A' B' n x y:=by
 induction n with
 |zero=>rfl
 |succ n ih=>rw[g9,g9,ih (fun k hk=>h1 k (by omega)) (fun k hk=>h2 k (by omega)),h1 n (by omega),h2 n (by omega)]

def gA(A:de):Nat→de
 |0=>fun x y=>A x y||x==y
 |k+1=>fun x y=>gA A k x y||(gA A k x k&&gA A k k y)
def kA(n:Nat)(A:de):de:=gA A n
theorem qo{A:de}:∀{k x:Nat},gA A k x x=true
 |0,x=>by simp[gA]
 |k+1,x=>by simp[gA,qo (k:=k)]
def py:RC:=(.seq (.r [.o (.mv 2 (.c (.ls (some true) 1 [])))]) (.seq (.r [.o (.bs 5 1 (.ls (some true) 1 []) 0 []),.m 3 5]) (.seq (.seq (.r [.v 4 (.ci 0)]) (.blk 0 (.loop (.seq (.seq (.r [.m 6 4,.m 7 0,.o (.bin 8 .lss (.t 6) (.t 7))]) (.cond (.t 8) .skip (.exit 0))) (.seq (.blk 1 (.r [.m 11 3,.m 12 0,.o (.mk 13 1 1 (.sc (.bool false)) (.t 12) (.t 12)),.o (.bs 14 1 (.ls (some true) 1 []) 1 [(0,(.t 13))]),.o (.app 15 1 24 (.t 11) (.t 14)),.m 3 15])) (.r [.m 9 4,.o (.bin 10 .add (.t 9) (.ci 1)),.m 4 10])))))) (.seq (.r [.m 16 3,.m 2 16]) .ret))))
def js(P:Program)(fno:Nat):Prop:=∀(n:Nat)(hn:n≤1000),AF P fno [eI n] (.arr 1 (rD n fun _ _=>false))
theorem BX{P:Program}(hm:P.follows .mixedOrders=true){g:Nat}(hr:aP P g=some (17,py,[.t 2])):js P g:=by
 intro n hn;refine aw hr hm rfl fun hb=>?_;simp+contextual-implicitDefEqProofs only[py,go_sem,eI];refine bB (α:=Nat) [3,4,5,6,7,8,9,10,11,12,13,14,15] (fun i=>[(4,.im none (.sc (.int .i64 i))),(3,.sm 5 0 i)]) (fun i=>[(5,.ar true (some false) 1 (bS i fun _=>.ls (some false) 1 (rF n fun _=>false)))]) (fun i=>i≤n) (fun i=>n-i) 0 (bf.to [] (by simp only[go_sem];rfl) rfl (by simp[CM]) (by rfl) (by simp only[an,go_sem,keep,cH]<;>simp)) (Nat.zero_le _) ?_;intro i hi0
 by_cases hi:i<n
 ·simp+contextual-implicitDefEqProofs only[hi,cK,go_sem,Nat.reduceMul,iL,iN];refine⟨⟨by omega,by omega,by omega⟩,rfl,by simp,⟨by omega,by unfold aT;omega,by simp[D.size]⟩,i+1,by omega,by omega,?_⟩;rw[aj (by omega) (by omega)];exact bf.to [] (by simp only[go_sem];rfl) rfl (by simp[jp,EZ]) (by rfl) (by simp only[an,go_sem]<;>simp)
 ·obtain rfl:i=n:=by omega
  simp+contextual-implicitDefEqProofs only[hi,dJ,go_sem,iL]
  rfl
def mz(n:Nat)(A B:de)(i:Nat):de:=fun a b=>decide (a<i)&&dF n A B a b
def jf(n:Nat)(A B:de)(i z:Nat):de:=fun a b=>if a=i then mp A B z i b else mz n A B i a b
def j8(n:Nat)(A B:de)(i z y:Nat):de:=fun a b=>if a=i∧b<y then mp A B (z+1) i b else jf n A B i z a b
theorem zd{n:Nat}{A B:de}{i:Nat}:jf n A B i 0=mz n A B i:=by
 funext a b;unfold jf mz
 split
 ·next h=>subst h;simp[mp]
 ·rfl
theorem AK{n:Nat}{A B:de}{i:Nat}:jf n A B i n=mz n A B (i+1):=by
 funext a b;unfold jf mz
 split
 ·next h=>subst h;simp[dF]
 ·next h=>rw[show decide (a<i+1)=decide (a<i)by rw[decide_eq_decide];omega]
theorem tX{n:Nat}{A B:de}{i z:Nat}:j8 n A B i z 0=jf n A B i z:=by
 funext a b;simp[j8]
theorem Ad{n:Nat}{A B:de}{i z y:Nat}(h:A i z=true):rI (j8 n A B i z y) i y (mp A B z i y||B z y)=j8 n A B i z (y+1):=by
 funext a b;unfold rI j8
 by_cases ha:a=i
 ·subst ha
  by_cases hb:b=y
  ·subst hb;simp[g9,h]
  ·by_cases hb2:b<y
   ·simp[hb,hb2,show b<y+1 by omega]
   ·simp[hb,hb2,show ¬b<y+1 by omega]
 ·simp[ha]
theorem EV{n:Nat}{A B:de}{i z y:Nat}:j8 n A B i z y i y=mp A B z i y:=by simp[j8,jf]
theorem Aa{n:Nat}{A B:de}{i z:Nat}(h:A i z=true):rD n (j8 n A B i z n)=rD n (jf n A B i (z+1)):=eX fun a b _ hb=>by
 unfold j8 jf
 by_cases ha:a=i<;>simp[ha,hb]
theorem zj{n:Nat}{A B:de}{i z:Nat}(h:A i z=false):jf n A B i (z+1)=jf n A B i z:=by
 funext a b;unfold jf;simp[g9,h]
theorem zA{n:Nat}{A B:de}:mz n A B 0=fun _ _=>false:=by funext a b;simp[mz]
theorem zR{n:Nat}{A B:de}:rD n (mz n A B n)=rD n (dF n A B):=eX fun a b ha _=>by simp[mz,ha]

def tU(f1:Nat):RC:=(.seq (.r [.o (.mv 4 (.c (.ls (some true) 1 [])))]) (.seq (.r [.m 9 0,.o (.len 10 (.t 9)),.c 11 f1 [.t 10],.m 5 11]) (.seq (.seq (.r [.v 6 (.ci 0)]) (.blk 0 (.loop (.seq (.seq (.r [.m 12 6,.m 13 0,.o (.len 14 (.t 13)),.o (.bin 15 .lss (.t 12) (.t 14))]) (.cond (.t 15) .skip (.exit 0))) (.seq (.blk 1 (.seq (.r [.v 7 (.ci 0)]) (.blk 2 (.loop (.seq (.seq (.r [.m 18 7,.m 19 0,.o (.len 20 (.t 19)),.o (.bin 21 .lss (.t 18) (.t 20))]) (.cond (.t 21) .skip (.exit 2))) (.seq (.blk 3 (.seq (.r [.v 8 (.ci 0)]) (.blk 4 (.loop (.seq (.seq (.r [.m 24 0,.m 25 6,.o (.ia 26 1 (.t 24) (.t 25)),.l 27 1 26,.m 28 7,.o (.ia 29 1 (.t 27) (.t 28)),.l 30 1 29,.m 31 30,.wm 31 32 8,.wm 31 33 0,.w 31 (.len 34 (.t 33)),.w 31 (.bin 35 .lss (.t 32) (.t 34)),.k 36 31 35]) (.cond (.t 36) .skip (.exit 4))) (.seq (.blk 5 (.reg true [.m 39 5,.m 40 6,.o (.ia 41 1 (.t 39) (.t 40)),.l 42 1 41,.m 43 8,.m 44 5,.m 45 6,.o (.ia 46 1 (.t 44) (.t 45)),.l 47 1 46,.m 48 8,.o (.ia 49 1 (.t 47) (.t 48)),.l 50 1 49,.m 51 50,.u 51 (.mv 52 (.t 1)),.u 51 (.mv 53 (.t 7)),.u 51 (.ia 54 1 (.t 52) (.t 53)),.u 51 (.ld 55 false 1 (.t 54)),.u 51 (.mv 56 (.t 8)),.u 51 (.ia 57 1 (.t 55) (.t 56)),.u 51 (.ld 58 false 1 (.t 57)),.o (.pick 59 (.t 51) .ct (.t 58)),.o (.ia 60 1 (.t 42) (.t 43)),.s 1 60 59])) (.r [.m 37 8,.o (.bin 38 .add (.t 37) (.ci 1)),.m 8 38]))))))) (.r [.m 22 7,.o (.bin 23 .add (.t 22) (.ci 1)),.m 7 23]))))))) (.r [.m 16 6,.o (.bin 17 .add (.t 16) (.ci 1)),.m 6 17])))))) (.seq (.r [.m 61 5,.m 4 61]) .ret))))
def oz(P:Program)(fno:Nat):Prop:=∀(n:Nat)(a b:SL (SL Bool))(hn:n≤1000)(ha:Sq n a)(hb2:Sq n b),AF P fno [eS 1 (eS 1 eB) a,eS 1 (eS 1 eB) b] (.arr 1 (rD n (dF n (bt a) (bt b))))
theorem Ey{P:Program}(hm:P.follows .mixedOrders=true){g f1:Nat}(hr:aP P g=some (62,tU f1,[.t 4]))(hc1:js P f1):oz P g:=by
 intro n a b hn ha hb2;refine aw hr hm rfl fun hb=>?_;have la:=ha.len;have lb:=hb2.len;simp+contextual-implicitDefEqProofs only[tU,eS,la,go_sem,lM];refine aa (ds:=[eI n]) (by rfl) (hc1 n hn) ?_;simp+contextual-implicitDefEqProofs only[dJ,go_sem];refine bB (α:=Nat) [6,7,8,12,13,14,15,16,17,18,19,20,21,22,23,24,25,26,27,28,29,30,31,32,33,34,35,36,37,38,39,40,41,42,43,44,45,46,47,48,49,50,51,52,53,54,55,56,57,58,59,60] (fun i=>[(6,.im none (.sc (.int .i64 i)))]) (fun i=>[(11,.ar true (some false) 1 (rD n (mz n (bt a) (bt b) i)))]) (fun i=>i≤n) (fun i=>n-i) 0 (bf.to [] (by simp only[go_sem];rfl) rfl (by simp[zA]) (by rfl) (by simp only[an,go_sem,keep,cH]<;>simp)) (Nat.zero_le _) ?_;intro i hi0
 by_cases hi:i<n
 ·have ai:=ha.at hi;simp+contextual-implicitDefEqProofs only[hi,la,go_sem,iL,lM];refine bB (α:=Nat) [7,8,18,19,20,21,22,23,24,25,26,27,28,29,30,31,32,33,34,35,36,37,38,39,40,41,42,43,44,45,46,47,48,49,50,51,52,53,54,55,56,57,58,59,60] (fun z=>[(7,.im none (.sc (.int .i64 z)))]) (fun z=>[(11,.ar true (some false) 1 (rD n (jf n (bt a) (bt b) i z)))]) (fun z=>z≤n) (fun z=>n-z) 0 (bf.to [] (by simp only[go_sem];rfl) rfl (by simp[zd]) (by rfl) (by simp only[an,go_sem,keep,cH]<;>simp)) (Nat.zero_le _) ?_;intro z hz0
  by_cases hz:z<n
  ·have az:=ha.at2 hi hz;have ri:=ha.rows hi;simp+contextual-implicitDefEqProofs only[hz,la,go_sem,iL,lM];refine bB (α:=Nat) [8,24,25,26,27,28,29,30,31,32,33,34,35,36,37,38,39,40,41,42,43,44,45,46,47,48,49,50,51,52,53,54,55,56,57,58,59,60] (fun y=>[(8,.im none (.sc (.int .i64 y)))]) (fun y=>[(11,.ar true (some false) 1 (rD n (j8 n (bt a) (bt b) i z y)))]) (fun y=>y≤n∧(y=0∨bt a i z=true)) (fun y=>n-y) 0 (bf.to [] (by simp only[go_sem];rfl) rfl (by simp[tX]) (by rfl) (by simp only[an,go_sem,keep,cH]<;>simp)) ⟨Nat.zero_le _,.inl rfl⟩ ?_;rintro y ⟨hy0,hy1⟩;cases hc:bt a i z
   ·obtain rfl:y=0:=hy1.resolve_right (by rw[hc];exact Bool.false_ne_true);simp+contextual-implicitDefEqProofs only[ai,az,hc,hi,hz,la,ri,D.size,D.sub,go_sem,iL,lM,iN];rw[aj (by omega) (by omega)];exact⟨z+1,by omega,by omega,bf.to [] (by simp only[go_sem];rfl) rfl (by simp[tX,zj hc]) (by rfl) (by simp only[an,go_sem]<;>simp)⟩
   have az':=az;rw[hc]at az'
   by_cases hy:y<n
   ·have bz:=hb2.at hz;have bzy:=hb2.at2 hz hy;have rz:=hb2.rows hz;have e1:=lm (R:=j8 n (bt a) (bt b) i z y) hi;have e2:=gm (f:=j8 n (bt a) (bt b) i z y i) hy;rw[EV]at e2;have hst:=Ad (n:=n) (A:=bt a) (B:=bt b) (y:=y) hc;cases hv:mp (bt a) (bt b) z i y
    all_goals
     rw[hv]at e2 hst;simp only[Bool.false_or,Bool.true_or]at hst;simp+contextual-implicitDefEqProofs only[ai,az',bz,bzy,e1,e2,hi,hz,hy,la,lb,ri,rz,dJ,eC,D.size,D.sub,D.put,gL,sP,go_sem,iL,lM,iN];rw[aj (by omega) (by omega),hst];exact⟨y+1,by omega,by omega,bf.to [] (by simp only[go_sem];rfl) rfl (by simp) (by rfl) (by simp only[an,go_sem]<;>simp)⟩
   ·obtain rfl:y=n:=by omega
    simp+contextual-implicitDefEqProofs only[ai,az',hi,hz,hy,la,ri,D.size,D.sub,go_sem,iL,lM,iN];rw[aj (by omega) (by omega)];exact⟨z+1,by omega,by omega,bf.to [] (by simp only[go_sem];rfl) rfl (by simp[Aa hc]) (by rfl) (by simp only[an,go_sem]<;>simp)⟩
  ·obtain rfl:z=n:=by omega
   simp+contextual-implicitDefEqProofs only[hz,la,go_sem,iL,lM];rw[aj (by omega) (by omega)];exact⟨i+1,by omega,by omega,bf.to [] (by simp only[go_sem];rfl) rfl (by simp[AK]) (by rfl) (by simp only[an,go_sem]<;>simp)⟩
 ·obtain rfl:i=n:=by omega
  simp+contextual-implicitDefEqProofs only[hi,la,dJ,go_sem,iL,lM];exact zR
theorem Cf{A B:de}{n z x y:Nat}(hz:z<n)(h1:A x z=true)(h2:B z y=true):mp A B n x y=true:=by
 simp only[mp,List.any_eq_true,List.mem_range];exact⟨z,hz,by simp[h1,h2]⟩

def kM:RC:=(.seq (.r [.v 6 .cf]) (.seq (.seq (.r [.l 8 1 2,.o (.len 9 (.t 8)),.v 10 (.ci 0)]) (.blk 0 (.loop (.seq (.r [.o (.bin 11 .lss (.t 10) (.t 9))]) (.seq (.cond (.t 11) .skip (.exit 0)) (.seq (.blk 1 (.seq (.r [.m 12 10,.m 7 12]) (.seq (.r [.l 13 1 3,.m 14 0,.o (.ia 15 1 (.t 13) (.t 14)),.l 16 1 15,.m 17 7,.o (.ia 18 1 (.t 16) (.t 17)),.l 19 1 18,.m 20 19,.w 20 (.ld 21 false 1 (.t 2)),.wm 20 22 7,.w 20 (.ia 23 1 (.t 21) (.t 22)),.w 20 (.ld 24 false 1 (.t 23)),.wm 20 25 1,.w 20 (.ia 26 1 (.t 24) (.t 25)),.w 20 (.ld 27 false 1 (.t 26)),.k 28 20 27]) (.cond (.t 28) (.seq (.r [.v 6 .ct]) .ret) .skip)))) (.r [.o (.bin 29 .add (.t 10) (.ci 1)),.m 10 29]))))))) (.seq (.r [.v 6 .cf]) .ret)))
def lw(P:Program)(fno:Nat):Prop:=∀(n:Nat)(a b:SL (SL Bool))(x y:Nat)(hn:n≤1000)(ha:Sq n a)(hb2:Sq n b)(hx:x<n)(hy:y<n),AF P fno [eI x,eI y,.pt (eS 1 (eS 1 eB) b) 0,.pt (eS 1 (eS 1 eB) a) 0] (.own (eB (dF n (bt a) (bt b) x y)))
theorem xY{P:Program}(hm:P.follows .mixedOrders=true){g:Nat}(hr:aP P g=some (30,kM,[.t 6])):lw P g:=by
 intro n a b x y hn ha hb2 hx hy;refine aw hr hm rfl fun hb=>?_;have la:=ha.len;have lb:=hb2.len;have ax:=ha.at hx;have rx:=ha.rows hx;simp+contextual-implicitDefEqProofs only[kM,eS,lb,go_sem,eI,eB,lM];refine bB (α:=Nat) [6,7,10,11,12,13,14,15,16,17,18,19,20,21,22,23,24,25,26,27,28,29] (fun z=>[(10,.im none (.sc (.int .i64 z)))]) (fun z=>[]) (fun z=>z≤n∧mp (bt a) (bt b) z x y=false) (fun z=>n-z) 0 (bf.to [] (by simp only[go_sem];rfl) rfl (by simp) (by rfl) (by simp only[an,go_sem,keep,cH]<;>simp)) ⟨Nat.zero_le _,rfl⟩ ?_;rintro z ⟨hz0,hz1⟩
 by_cases hz:z<n
 ·have az:=ha.at2 hx hz;have bz:=hb2.at hz;have by_:=hb2.at2 hz hy;have rz:=hb2.rows hz;cases h1:bt a x z
  ·rw[h1]at az;simp+contextual-implicitDefEqProofs only[ax,az,hz,hx,la,rx,D.size,D.sub,go_sem,iL,lM,iN];rw[aj (by omega) (by omega)];exact⟨z+1,⟨by omega,by rw[g9,hz1,h1];rfl⟩,by omega,bf.to [] (by simp only[go_sem];rfl) rfl (by simp) (by rfl) (by simp only[an,go_sem]<;>simp)⟩
  rw[h1]at az;cases h2:bt b z y
  ·rw[h2]at by_;simp+contextual-implicitDefEqProofs only[ax,az,bz,by_,hz,hx,hy,la,lb,rx,rz,D.size,D.sub,go_sem,iL,lM,iN];rw[aj (by omega) (by omega)];exact⟨z+1,⟨by omega,by rw[g9,hz1,h1,h2];rfl⟩,by omega,bf.to [] (by simp only[go_sem];rfl) rfl (by simp) (by rfl) (by simp only[an,go_sem]<;>simp)⟩
  ·rw[h2]at by_;simp+contextual-implicitDefEqProofs only[ax,az,bz,by_,hz,hx,hy,la,lb,rx,rz,D.size,D.sub,go_sem,iL,lM,iN];exact D.Le.sc_eq (by unfold dF;rw[Cf hz h1 h2])
 ·obtain rfl:z=n:=by omega
  simp+contextual-implicitDefEqProofs only[hz,go_sem,iL];exact D.Le.sc_eq (by unfold dF;rw[hz1])

def mT(f1 f2:Nat):RC:=(.seq (.r [.b 2 1 0,.b 3 1 1,.o (.mv 4 (.c (.ls (some true) 1 [])))]) (.seq (.r [.l 5 1 2,.o (.len 6 (.t 5)),.o (.mkf 7 f2 [.t 3,.t 2]),.c 8 f1 [.t 6,.t 7],.m 4 8]) .ret))
def gi(P:Program)(fno:Nat):Prop:=∀(n:Nat)(a b:SL (SL Bool))(hn:n≤1000)(ha:Sq n a)(hb2:Sq n b),AF P fno [eS 1 (eS 1 eB) a,eS 1 (eS 1 eB) b] (.own (eS 1 (eS 1 eB) (dZ n (dF n (bt a) (bt b)))))
theorem zF{P:Program}(hm:P.follows .mixedOrders=true){g f1 f2:Nat}(hr:aP P g=some (9,mT f1 f2,[.t 4]))(hc1:kG P f1)(hc2:lw P f2):gi P g:=by
 intro n a b hn ha hb2;refine aw hr hm rfl fun hb=>?_;have la:=ha.len;simp+contextual-implicitDefEqProofs only[mT,eS,D.at,D.sub,la,go_sem,lM];refine aa (ds:=[eI n,.fn f2 [.pt (eS 1 (eS 1 eB) b) 0,.pt (eS 1 (eS 1 eB) a) 0]]) (by rfl) (hc1 n f2 _ (dF n (bt a) (bt b)) hn (fun x y hx hy=>hc2 n a b x y hn ha hb2 hx hy)) ?_;simp+contextual-implicitDefEqProofs only[eS,dZ,go_sem]
def orB(a:Int)(i:Nat):Int:=IntKind.i64.wrap (BitVec.ofInt 64 a|||BitVec.ofInt 64 (IntKind.i64.wrap (2 ^ min i 64))).toNat
def cT(rows:List (SL Bool))(x:Nat):Nat→Int
 |0=>0
 |i+1=>if(rows.getD i default).2.getD x false=true then orB (cT rows x i) i else cT rows x i
theorem xt{rows:List (SL Bool)}{x i:Nat}(hi:i<rows.length)(hx:x<rows[i].2.length)(h:rows[i].2[x]=true):cT rows x (i+1)=orB (cT rows x i) i:=by
 simp[cT,hi,hx,h]
theorem yf{rows:List (SL Bool)}{x i:Nat}(hi:i<rows.length)(hx:x<rows[i].2.length)(h:rows[i].2[x]=false):cT rows x (i+1)=cT rows x i:=by
 simp[cT,hi,hx,h]
theorem td{x:Int}(h1:0≤x)(h2:x≤9223372036854775807):IntKind.u64.wrap x=x:=by
 simp[IntKind.wrap,IntKind.bits,IntKind.signed];omega

def s7:RC:=(.seq (.r [.b 2 5 0,.v 4 (.ci 0)]) (.seq (.r [.v 5 (.ci 0)]) (.seq (.seq (.r [.f 8 3 2,.l 9 1 8,.o (.len 10 (.t 9)),.v 11 (.ci 0)]) (.blk 0 (.loop (.seq (.r [.o (.bin 12 .lss (.t 11) (.t 10))]) (.seq (.cond (.t 12) .skip (.exit 0)) (.seq (.blk 1 (.seq (.r [.m 13 11,.o (.ia 14 1 (.t 9) (.t 11)),.l 15 1 14,.m 6 13,.m 7 15]) (.seq (.r [.m 16 7,.m 17 1,.o (.ia 18 1 (.t 16) (.t 17)),.l 19 1 18]) (.cond (.t 19) (.r [.m 20 5,.m 21 6,.o (.bin 22 .shl (.ci 1) (.t 21)),.o (.bin 23 .or (.t 20) (.t 22)),.m 5 23]) .skip)))) (.r [.o (.bin 24 .add (.t 11) (.ci 1)),.m 11 24]))))))) (.seq (.r [.m 25 5,.m 4 25]) .ret))))
def sD(P:Program)(f:Nat):Prop:=∀(m:Mo)(x:Int)(hx:0≤x)(hrow:∀r∈m.2.2.1.2,x<(r.2.length:Int)),AF P f [eM m,eI x] (.own (eI (cT m.2.2.1.2 x.toNat m.2.2.1.2.length)))
theorem Ek{P:Program}(hm:P.follows .mixedOrders=true){g:Nat}(hr:aP P g=some (26,s7,[.t 4])):sD P g:=by
 intro m x hx hrow;refine aw hr hm rfl fun hb=>?_;have hb1:=hb.1;simp only[eM,eS,D.bd,D.bdL,lM]at hb1;have hl:=hb1.2.2.2.1.1;unfold aT at hl;simp+contextual-implicitDefEqProofs only[s7,eM,eS,lM,go_sem,eI];refine eD (α:=Nat) [5,6,7,11,12,13,14,15,16,17,18,19,20,21,22,23,24] (fun i=>[(11,.im none (.sc (.int .i64 i))),(5,.im none (.sc (.int .i64 (cT m.2.2.1.2 x.toNat i))))]) (fun i=>i≤m.2.2.1.2.length) (fun i=>m.2.2.1.2.length-i) 0
  (by simp only[an,go_sem,cT];simp) (Nat.zero_le _) ?_
 intro i j1
 by_cases hi:i<m.2.2.1.2.length
 ·have e1:=bP (f:=eS 1 eB) hi;have hr1:=hrow m.2.2.1.2[i] (List.getElem_mem _);have hx2:x.toNat<m.2.2.1.2[i].2.length:=by omega
  have e2:=bP (f:=eB) hx2;simp+contextual-implicitDefEqProofs only[eS,e1,e2,hi,hx,hr1,iL,lM,iN,go_sem,eB];cases hv:m.2.2.1.2[i].2[x.toNat]
  ·have ha:=yf hi hx2 hv;simp+contextual-implicitDefEqProofs only[go_sem];rw[aj (by omega) (by omega)];refine⟨i+1,by omega,by omega,?_⟩;rw[ha];exact bf.env (by simp only[an,go_sem];simp)
  ·have ha:=xt hi hx2 hv;simp+contextual-implicitDefEqProofs only[go_sem];rw[aj (x:=(i:Int)+1) (by omega) (by omega)];refine⟨i+1,by omega,by omega,?_⟩;rw[ha];exact bf.env (by simp only[an,go_sem];simp;rfl)
 ·simp+contextual-implicitDefEqProofs only[hi,iL,go_sem];rw[show i=m.2.2.1.2.length by omega];exact D.Le.refl _

def pG:RC:=(.seq (.r [.v 4 (.ci 0)]) (.seq (.r [.v 5 (.ci 0)]) (.seq (.seq (.r [.v 6 (.ci 0)]) (.blk 0 (.loop (.seq (.seq (.r [.m 7 6,.m 8 0,.o (.len 9 (.t 8)),.o (.bin 10 .lss (.t 7) (.t 9))]) (.cond (.t 10) .skip (.exit 0))) (.seq (.blk 1 (.seq (.r [.m 13 0,.m 14 6,.o (.ia 15 1 (.t 13) (.t 14)),.l 16 1 15,.m 17 1,.o (.ia 18 1 (.t 16) (.t 17)),.l 19 1 18]) (.cond (.t 19) (.r [.m 20 5,.m 21 6,.o (.cvt 22 .u64 (.t 21)),.o (.bin 23 .shl (.ci 1) (.t 22)),.o (.bin 24 .or (.t 20) (.t 23)),.m 5 24]) .skip))) (.r [.m 11 6,.o (.bin 12 .add (.t 11) (.ci 1)),.m 6 12])))))) (.seq (.r [.m 25 5,.m 4 25]) .ret))))
def qw(P:Program)(f:Nat):Prop:=∀(t:SL (SL Bool))(x:Int)(hx:0≤x)(hrow:∀r∈t.2,x<(r.2.length:Int)),AF P f [eS 1 (eS 1 eB) t,eI x] (.own (eI (cT t.2 x.toNat t.2.length)))
theorem Cj{P:Program}(hm:P.follows .mixedOrders=true){g:Nat}(hr:aP P g=some (26,pG,[.t 4])):qw P g:=by
 intro t x hx hrow;refine aw hr hm rfl fun hb=>?_;have hl:=sY hb.1;simp only[lM]at hl;simp+contextual-implicitDefEqProofs only[pG,eS,go_sem,eI];refine eD (α:=Nat) [5,6,7,8,9,10,11,12,13,14,15,16,17,18,19,20,21,22,23,24] (fun i=>[(6,.im none (.sc (.int .i64 i))),(5,.im none (.sc (.int .i64 (cT t.2 x.toNat i))))]) (fun i=>i≤t.2.length) (fun i=>t.2.length-i) 0
  (by simp only[an,go_sem,cT];simp) (Nat.zero_le _) ?_
 intro i j1
 by_cases hi:i<t.2.length
 ·have e1:=bP (f:=eS 1 eB) hi;have hr1:=hrow t.2[i] (List.getElem_mem _);have hx2:x.toNat<t.2[i].2.length:=by omega
  have e2:=bP (f:=eB) hx2;simp+contextual-implicitDefEqProofs only[eS,e1,e2,hi,hx,hr1,iL,lM,iN,go_sem,eB];cases hv:t.2[i].2[x.toNat]
  ·have ha:=yf hi hx2 hv;simp+contextual-implicitDefEqProofs only[go_sem];rw[aj (by omega) (by omega)];refine⟨i+1,by omega,by omega,?_⟩;rw[ha];exact bf.env (by simp only[an,go_sem];simp)
  ·have ha:=xt hi hx2 hv;simp+contextual-implicitDefEqProofs only[go_sem];rw[aj (x:=(i:Int)+1) (by omega) (by omega)];rw[td (x:=(i:Int)) (by omega) (by omega)];refine⟨i+1,by omega,by omega,?_⟩;rw[ha];exact bf.env (by simp only[an,go_sem];simp;rfl)
 ·simp+contextual-implicitDefEqProofs only[hi,iL,lM,go_sem];rw[show i=t.2.length by omega];exact D.Le.refl _
theorem Ed{m:Mo}(h:iP m=true):1≤m.2.1∧m.2.1≤8:=by
 simp only[iP,dx,bA,dj,decide_eq_true_eq]at h;exact h.1.2.1

mutual
def jw:Ex→Ex
 |.mk k n _ ks=>.mk k n (zk ks) (Gq ks)
def Gq:List Ex→List Ex
 | []=>[]
 |e::es=>jw e::Gq es
end
theorem Bc:∀ks:List Ex,Gq ks=ks.map jw
 | []=>rfl
 |e::es=>by simp only[Gq,lC,Bc es]
theorem tv{k n:Int}{nn:Option Bool}{ks:List Ex}:jw (.mk k n nn ks)=.mk k n (zk ks) (ks.map jw):=by rw[jw];simp only[Bc]

def th(g:Nat):RC:=(.seq (.r [.o (.zer 2 3 .ze)]) (.seq (.reg true [.m 5 0,.n 6 5,.f 7 0 6,.l 8 1 7,.m 9 0,.n 10 9,.f 11 1 10,.l 12 1 11,.o (.bld 13 .ze [(0,1,(.t 8)),(1,1,(.t 12))]),.o (.zer 3 3 .ze),.s 3 3 13]) (.seq (.seq (.r [.v 4 (.ci 0)]) (.blk 0 (.loop (.seq (.seq (.r [.m 14 4,.m 15 0,.n 16 15,.f 17 2 16,.l 18 1 17,.o (.len 19 (.t 18)),.o (.bin 20 .lss (.t 14) (.t 19))]) (.cond (.t 20) .skip (.exit 0))) (.seq (.blk 1 (.reg true [.f 23 2 3,.l 24 1 23,.m 25 0,.n 26 25,.f 27 2 26,.l 28 1 27,.m 29 4,.o (.ia 30 3 (.t 28) (.t 29)),.c 31 g [.t 30],.o (.bs 32 3 .ze 1 [(0,(.t 31))]),.o (.app 33 3 40 (.t 24) (.t 32)),.f 34 2 3,.s 1 34 33])) (.r [.m 21 4,.o (.bin 22 .add (.t 21) (.ci 1)),.m 4 22])))))) (.seq (.r [.L 35 3 3,.s 3 2 35]) .ret))))
def iX(P:Program)(fno:Nat):Prop:=∀(e:Ex)(hf0:rH e),AF P fno [.pt (eE e) 0] (.own (eE (jw e)))
theorem ED{P:Program}(hm:P.follows .mixedOrders=true){g:Nat}(hr:aP P g=some (36,th g,[.c 2 3 true])):iX P g:=by
 intro e hf0;refine Ex.ind (p:=fun e=>rH e→AF P g [.pt (eE e) 0] (.own (eE (jw e)))) (fun k n nn ks ih hf=>?_) e hf0;rw[mh]at hf;rw[bc,tv,bc];refine aw hr hm rfl fun hb=>?_;have hl:ks.length≤9223372036854775807:=by
  have:=hb.1;simp only[D.bd,D.bdL,lM,aT]at this;exact this.2.2.1.1
 simp+contextual-implicitDefEqProofs only[th,D.put,D.cells,D.size,D.sizeL,D.at,D.sub,D.isAg,aq,af,go_sem,Nat.reduceSub];refine bB (α:=Nat) [4,14,15,16,17,18,19,20,21,22,23,24,25,26,27,28,29,30,31,32,33,34] (fun i=>[(4,.im none (.sc (.int .i64 i)))]) (fun i=>[(3,.ar true (some false) 3 [.ag [.sc (.int .i64 k),.sc (.int .i64 n),.ls (zk (ks.take i)) 3 (((ks.take i).map jw).map eE)]]),(2,.ar true (some false) 3 [.ag [.sc (.int .i64 0),.sc (.int .i64 0),.ls (some true) 3 []]])]) (fun i=>i≤ks.length) (fun i=>ks.length-i) 0 (bf.to [] (by simp only[go_sem];rfl) rfl (by simp[zk]) (by rfl) (by simp only[an,go_sem,keep,cH];simp)) (Nat.zero_le _) ?_;intro i hi0
 by_cases hi:i<ks.length
 ·have e1:=bP (f:=eE) hi;have hlen:((ks.take i).map (fun x=>eE (jw x))).length=i:=by simp;omega
  simp+contextual-implicitDefEqProofs only[hi,e1,go_sem,iL,lM,iN];refine aa ?_ (ih ks[i] (List.getElem_mem hi) (hf.2 _ (List.getElem_mem hi))) ?_
  ·exact rfl
  simp+contextual-implicitDefEqProofs only[aC,go_sem,Nat.reduceMul,lM];have hl2:(ks.take i).length=i:=by simp;omega
  refine⟨rfl,⟨by omega,by unfold aT;omega,by simp[aC]⟩,i+1,by omega,by omega,?_⟩;rw[aj (by omega) (by omega)];exact bf.to [] (by simp only[go_sem];rfl) rfl (by simp[EP hi,xh hi,List.map_append]) (by rfl) (by simp only[an,go_sem];simp)
 ·simp+contextual-implicitDefEqProofs only[hi,go_sem,iL,lM];rw[List.take_of_length_le (by omega)];exact D.Le.refl _
abbrev Wd:=SL Int×SL (SL Int)
abbrev Wo:=SL Int×SL Int
def gJ(v:Wo):D:=.ag [eS 1 eI v.1,eS 1 eI v.2]
def jt(lo hi:Int)(l:List Int):Bool:=l.all fun x=>dj x lo hi
def PH(n:Int)(r:SL Int):Bool:=bM n r&&jt (-1) (n-1) r.2
def bu(g:Int×Int):Int:=2 ^ g.1.toNat
def okW(g:Int×Int)(w:Wd):Bool:=dj w.1.2.length 1 12&&(jt 0 (bu g-1) w.1.2&&(bM g.2 w.2&&w.2.2.all (PH w.1.2.length)))
def gn(g:Int×Int)(v:Wo):Bool:=bM (v.2.2.length+1) v.1&&(jt 0 (bu g-1) v.1.2&&jt 0 (g.2-1) v.2.2)
def km(g:Int×Int)(v:Wo):Bool:=decide ((v.2.2.length:Int)≤10)&&gn g v
theorem dB{g:Int×Int}(h:fH g=true):(0≤g.1∧g.1≤3)∧0≤g.2∧g.2≤4:=by simpa[fH,dj]using h
theorem uM{n:Int}(h1:0≤n)(h2:n≤3):IntKind.i64.wrap (1*2 ^ min n.toNat 64)=2 ^ n.toNat:=by
 have:n=0∨n=1∨n=2∨n=3:=by omega
 rcases this with rfl|rfl|rfl|rfl<;>decide
theorem kN{g:Int×Int}(h:fH g=true):1≤bu g∧bu g≤8:=by
 have h:=(dB h).1;have:g.1=0∨g.1=1∨g.1=2∨g.1=3:=by omega
 unfold bu;rcases this with e|e|e|e<;>rw[e]<;>decide

def mQ:RC:=(.seq (.r [.b 1 2 0,.v 2 (.ci 0)]) (.seq (.r [.f 3 0 1,.l 4 1 3,.o (.cvt 5 .u64 (.t 4)),.o (.bin 6 .shl (.ci 1) (.t 5)),.m 2 6]) .ret))
def gf(P:Program)(f:Nat):Prop:=∀(g:Int×Int)(h:fH g=true),AF P f [eG g] (.own (eI (bu g)))
theorem zP{P:Program}(hm:P.follows .mixedOrders=true){g:Nat}(hr:aP P g=some (7,mQ,[.t 2])):gf P g:=by
 intro g h;refine aw hr hm rfl fun hb=>?_;simp+contextual-implicitDefEqProofs only[mQ,eG,go_sem,eI];have h:=(dB h).1;refine D.Le.sc_eq ?_;rw[show IntKind.u64.wrap g.1=g.1 by simp[IntKind.wrap,IntKind.bits,IntKind.signed];omega,uM h.1 h.2]
 rfl

def pu:RC:=(.seq (.r [.b 1 2 0,.v 2 (.ci 0)]) (.seq (.r [.f 3 0 1,.l 4 1 3,.o (.bin 5 .shl (.ci 1) (.t 4)),.m 2 5]) .ret))
def o7(P:Program)(f:Nat):Prop:=∀(g:Int×Int)(h:fH g=true),AF P f [eG g] (.own (eI (bu g)))
theorem Ck{P:Program}(hm:P.follows .mixedOrders=true){g:Nat}(hr:aP P g=some (6,pu,[.t 2])):o7 P g:=by
 intro g h;refine aw hr hm rfl fun hb=>?_;simp+contextual-implicitDefEqProofs only[pu,eG,go_sem,eI];have h:=(dB h).1;exact⟨h.1,D.Le.sc_eq (by rw[uM h.1 h.2];rfl)⟩

def qn(f1:Nat):RC:=(.seq (.r [.v 4 .cf]) (.seq (.seq (.r [.m 7 0,.o (.len 8 (.t 7)),.v 9 (.ci 0)]) (.blk 0 (.loop (.seq (.r [.o (.bin 10 .lss (.t 9) (.t 8))]) (.seq (.cond (.t 10) .skip (.exit 0)) (.seq (.blk 1 (.seq (.r [.o (.ia 11 1 (.t 7) (.t 9)),.l 12 1 11,.m 6 12]) (.seq (.r [.m 13 6,.m 14 1,.o (.bin 15 .sub (.t 14) (.ci 1)),.c 16 f1 [.t 13,.ci 0,.t 15],.o (.un 17 .not (.t 16))]) (.cond (.t 17) (.seq (.r [.v 4 .cf]) .ret) .skip)))) (.r [.o (.bin 18 .add (.t 9) (.ci 1)),.m 9 18]))))))) (.seq (.r [.v 4 .ct]) .ret)))
def pY(P:Program)(f:Nat):Prop:=∀(s:SL Int)(n:Int)(h1:0≤n)(h2:n≤1048576),AF P f [eS 1 eI s,eI n] (.own (eB (jt 0 (n-1) s.2)))
theorem Cu{P:Program}(hm:P.follows .mixedOrders=true){g f1:Nat}(hr:aP P g=some (19,qn f1,[.t 4]))(hc1:jm P f1):pY P g:=by
 intro s n h1 h2;refine aw hr hm rfl fun hb=>?_;have hl:=sY hb.1;simp only[lM]at hl;simp+contextual-implicitDefEqProofs only[qn,eS,lM,go_sem,eI,eB];refine eD (α:=Nat) [4,6,9,10,11,12,13,14,15,16,17,18] (fun i=>[(9,.im none (.sc (.int .i64 i)))]) (fun i=>i≤s.2.length∧(s.2.take i).all ((fun x=>dj x 0 (n-1)))=true) (fun i=>s.2.length-i) 0 (by simp only[an,go_sem];simp) ⟨Nat.zero_le _,rfl⟩ ?_;rintro i ⟨j1,j2⟩
 by_cases hi:i<s.2.length
 ·have e1:=bP (f:=eI) hi;simp+contextual-implicitDefEqProofs only[e1,hi,iL,lM,iN,go_sem,eI];rw[aj (by omega) (by omega)];refine aa ?_ (hc1 s.2[i] 0 (n-1)) ?_
  ·exact rfl
  cases hx:dj s.2[i] 0 (n-1)
  ·simp+contextual-implicitDefEqProofs only[bN,go_sem,eB];exact D.Le.sc_eq (by simp only[jt];rw[dI hi hx])
  ·simp+contextual-implicitDefEqProofs only[bT,go_sem,eB];rw[aj (by omega) (by omega)];exact⟨i+1,⟨by omega,bR hi j2 hx⟩,by omega,bf.env (by simp only[an,go_sem];simp)⟩
 ·simp+contextual-implicitDefEqProofs only[hi,iL,go_sem];exact D.Le.sc_eq (by simp only[jt];rw[cB hi j2])

def qG(f1 f2:Nat):RC:=(.seq (.r [.b 2 2 0,.b 3 2 1,.v 4 .cf]) (.seq (.reg true [.f 5 0 3,.l 6 1 5,.o (.len 7 (.t 6)),.f 8 1 3,.l 9 1 8,.o (.len 10 (.t 9)),.o (.bin 11 .add (.t 10) (.ci 1)),.o (.bin 12 .eql (.t 7) (.t 11)),.m 13 12,.w 13 (.fa 14 0 (.t 3)),.w 13 (.ld 15 false 1 (.t 14)),.w 13 (.ld 16 true 2 (.t 2)),.w 13 (.call (some 17) f1 [.t 16]),.w 13 (.call (some 18) f2 [.t 15,.t 17]),.k 19 13 18,.m 20 19,.w 20 (.fa 21 1 (.t 3)),.w 20 (.ld 22 false 1 (.t 21)),.w 20 (.fa 23 1 (.t 2)),.w 20 (.ld 24 false 1 (.t 23)),.w 20 (.call (some 25) f2 [.t 22,.t 24]),.k 26 20 25,.m 4 26]) .ret))
def ph(P:Program)(f:Nat):Prop:=∀(g:Int×Int)(v:Wo)(h:fH g=true)(h10:v.2.2.length≤1048576),AF P f [eG g,gJ v] (.own (eB (gn g v)))
theorem Cs{P:Program}(hm:P.follows .mixedOrders=true){g f1 f2:Nat}(hr:aP P g=some (27,qG f1 f2,[.t 4]))(hc1:o7 P f1)(hc2:pY P f2):ph P g:=by
 intro g v h h10;refine aw hr hm rfl fun hb=>?_;have hb1:=hb.2.1;simp only[gJ,eS,D.bd,D.bdL,lM,aT]at hb1;have hl:=hb1.1.1;have hl2:=hb1.2.1.1;have hs:v.2.2.length≤9223372036854775806∨v.2.2.length=9223372036854775807:=by omega
 simp+contextual-implicitDefEqProofs only[qG,eG,gJ,eS,lM,go_sem,eI,eB];have hg:=dB h;have hp:=kN h;rw[aj (by omega) (by omega)];cases h1:bM (v.2.2.length+1) v.1
 ·have h1':=h1;simp only[bM]at h1';simp+contextual-implicitDefEqProofs only[gn,h1,h1',bG,go_sem]
 have h1':=h1;simp only[bM]at h1';simp+contextual-implicitDefEqProofs only[gn,h1,h1',bI,go_sem];refine aa ?_ (hc1 g h) ?_
 ·exact rfl
 simp+contextual-implicitDefEqProofs only[go_sem,eI];refine aa ?_ (hc2 v.1 (bu g) (by omega) (by omega)) ?_
 ·exact rfl
 cases h2:jt 0 (bu g-1) v.1.2
 ·simp+contextual-implicitDefEqProofs only[bG,go_sem,eB]
 simp+contextual-implicitDefEqProofs only[bI,go_sem,eB];refine aa ?_ (hc2 v.2 g.2 (by omega) (by omega)) ?_
 ·exact rfl
 simp+contextual-implicitDefEqProofs only[go_sem,eB]

def oh(f1:Nat):RC:=(.seq (.r [.b 2 2 0,.b 3 2 1,.v 4 .cf]) (.seq (.r [.f 5 1 3,.l 6 1 5,.o (.len 7 (.t 6)),.o (.bin 8 .leq (.t 7) (.ci 10)),.m 9 8,.w 9 (.ld 10 true 2 (.t 2)),.w 9 (.ld 11 true 2 (.t 3)),.w 9 (.call (some 12) f1 [.t 10,.t 11]),.k 13 9 12,.m 4 13]) .ret))
def tu(P:Program)(f:Nat):Prop:=∀(g:Int×Int)(v:Wo)(h:fH g=true),AF P f [eG g,gJ v] (.own (eB (km g v)))
theorem DD{P:Program}(hm:P.follows .mixedOrders=true){g f1:Nat}(hr:aP P g=some (14,oh f1,[.t 4]))(hc1:ph P f1):tu P g:=by
 intro g v h;refine aw hr hm rfl fun hb=>?_
 by_cases h1:(v.2.2.length:Int)≤10
 ·have h10:v.2.2.length≤1048576:=by omega
  simp+contextual-implicitDefEqProofs only[oh,eG,gJ,eS,lM,km,h1,bne,bN,bI,bU,go_sem,eI,eB];refine aa ?_ (hc1 g v h h10) ?_
  ·exact rfl
  simp+contextual-implicitDefEqProofs only[go_sem,eB]
 ·simp+contextual-implicitDefEqProofs only[oh,eG,gJ,eS,lM,km,h1,bne,bN,bG,bU,go_sem,eI,eB]


theorem F9{α:Type}{l:List α}{i:Nat}{d:α}(h:i<l.length):l.getD i d=l[i]:=by simp[h]
theorem fM{α:Type}{f:α→D}{l:List α}{i:Nat}{d:α}(h:i<l.length):D.at (l.map f) i=f (l.getD i d):=by rw[bP h,F9 h]
def tK(m:Mo)(v:Int)(x:Nat):Bool:=(m.2.2.1.2.getD v.toNat (none,[])).2.getD x false
def mF(m:Mo)(v:Int):SL (SL Bool):=m.2.2.2.2.getD v.toNat (none,[])
def fL(f:Nat→Bool):de:=fun x y=>x==y&&f x
def j9:de:=fun _ _=>false
def ca(m:Mo)(k v:Int)(rs:List de):de:=
 if k=2 then fL fun _=>true
 else if k=3 then fL (tK m v)
 else if k=4 then bt (mF m v)
 else if k=5 then fL fun x=>!(rs.getD 0 j9 x x)
 else if k=6 then fun x y=>rs.getD 0 j9 x y||rs.getD 1 j9 x y
 else if k=7 then dF m.2.1.toNat (rs.getD 0 j9) (rs.getD 1 j9)
 else if k=8 then kA m.2.1.toNat (rs.getD 0 j9)
 else j9
mutual

def a7(m:Mo):Ex→de
 |.mk k v _ ks=>ca m k v (BG m ks)
def BG(m:Mo):List Ex→List de
 | []=>[]
 |e::es=>a7 m e::BG m es
end
theorem ut{m:Mo}:∀{ks:List Ex},BG m ks=ks.map (a7 m)
 | []=>rfl
 |e::es=>by simp only[BG,lC,ut (ks:=es)]
theorem eQ{m:Mo}{k v:Int}{nn:Option Bool}{ks:List Ex}:a7 m (.mk k v nn ks)=ca m k v (ks.map (a7 m)):=by rw[a7,ut]

structure jh (m:Mo) (n:Nat):Prop where
 pts:m.2.1=(n:Int)
 n1:1≤n
 n8:n≤8
 g:fH m.1=true
 tl:(m.2.2.1.2.length:Int)=m.1.1
 tr:∀r∈m.2.2.1.2,r.2.length=n
 al:(m.2.2.2.2.length:Int)=m.1.2
 asq:∀a∈m.2.2.2.2,Sq n a
theorem cP{x lo hi:Int}:dj x lo hi=true↔lo≤x∧x≤hi:=by simp[dj]
theorem rT{m:Mo}(h:iP m=true):∃n,jh m n:=by
 have hp:=Ed h;simp only[iP,dx,it,dG,bA,List.all_eq_true,bM,beq_iff_eq]at h;obtain⟨⟨hg,_,ht,htr⟩,ha,har⟩:=h;exact⟨m.2.1.toNat,by omega,by omega,by omega,hg,ht,fun r hr=>by have:=htr r hr;omega,ha,fun a hx=>⟨by have:=(har a hx).1;omega,fun r hr=>by have:=(har a hx).2 r hr;omega⟩⟩
theorem jC{x:Int}{n:Nat}(h0:0≤x)(h:x.toNat<n):x<(n:Int):=by omega
theorem fe{α:Type}{l:List α}{i:Nat}{d:α}(h:i<l.length):l.getD i d∈l:=by simp[h]

inductive Ak (m:Mo) (k v:Int) (ks:List Ex):Prop
 |zero (h:k=1) (hk:ks=[])
 |one (h:k=2) (hk:ks=[])
 |test (h:k=3) (hk:ks=[]) (h0:0≤v) (h1:v.toNat<m.2.2.1.2.length)
 |act (h:k=4) (hk:ks=[]) (h0:0≤v) (h1:v.toNat<m.2.2.2.2.length)
 |nt (h:k=5) (a:Ex) (hk:ks=[a])
 |sum (h:k=6) (a b:Ex) (hk:ks=[a,b])
 |dot (h:k=7) (a b:Ex) (hk:ks=[a,b])
 |star (h:k=8) (a:Ex) (hk:ks=[a])
theorem F8{m:Mo}{n:Nat}(hM:jh m n){k v:Int}{ks:List Ex}(h:aR m.1 k v ks=true):Ak m k v ks:=by
 have hg:=hM.g;have tl:=hM.tl;have al:=hM.al;simp only[fH,bA,cP]at hg;have hw1:IntKind.i64.wrap (m.1.1-1)=m.1.1-1:=aj (by omega) (by omega);have hw2:IntKind.i64.wrap (m.1.2-1)=m.1.2-1:=aj (by omega) (by omega);simp only[aR,bA,beq_iff_eq,hw1,hw2]at h;obtain⟨hk,hv⟩:=h;unfold cN at hk;have e0:∀{l:List Ex},(0:Int)=l.length→l=[]:=fun h=>List.eq_nil_of_length_eq_zero (by omega);have e1:∀{l:List Ex},(1:Int)=l.length→∃a,l=[a]:=fun {l} h=>by
  match l,h with
  | [a],_=>exact⟨a,rfl⟩
  | [],h=>simp at h
  |_::_::_,h=>simp at h;omega
 have e2:∀{l:List Ex},(2:Int)=l.length→∃a b,l=[a,b]:=fun {l} h=>by
  match l,h with
  | [a,b],_=>exact⟨a,b,rfl⟩
  | [],h=>simp at h
  | [_],h=>simp at h
  |_::_::_::_,h=>simp at h;omega
 by_cases h1:k=1
 ·subst h1;exact .zero rfl (e0 (by simpa using hk))
 by_cases h2:k=2
 ·subst h2;exact .one rfl (e0 (by simpa using hk))
 by_cases h3:k=3
 ·subst h3;rw[if_pos rfl,cP]at hv;exact .test rfl (e0 (by simpa using hk)) hv.1 (by omega)
 by_cases h4:k=4
 ·subst h4;rw[if_neg (by omega),if_pos rfl,cP]at hv;exact .act rfl (e0 (by simpa using hk)) hv.1 (by omega)
 by_cases h5:k=5
 ·subst h5;obtain⟨a,hk⟩:=e1 (by simpa using hk);exact .nt rfl a hk
 by_cases h6:k=6
 ·subst h6;obtain⟨a,b,hk⟩:=e2 (by simpa using hk);exact .sum rfl a b hk
 by_cases h7:k=7
 ·subst h7;obtain⟨a,b,hk⟩:=e2 (by simpa using hk);exact .dot rfl a b hk
 by_cases h8:k=8
 ·subst h8;obtain⟨a,hk⟩:=e1 (by simpa using hk);exact .star rfl a hk
 simp[h1,h2,h3,h4,h5,h6,h7,h8]at hk
def kg(f:Nat→Bool)(i:Nat):de:=fun a b=>decide (a<i)&&(a==b&&f a)
theorem Aj{f:Nat→Bool}:kg f 0=j9:=by funext a b;simp[kg,j9]
theorem zU{n:Nat}{f:Nat→Bool}:rD n (kg f n)=rD n (fL f):=eX fun a b ha _=>by simp[kg,fL,ha]
theorem AC{f:Nat→Bool}{i:Nat}:rI (kg f i) i i (f i)=kg f (i+1):=by
 funext a b;unfold rI kg
 by_cases ha:a=i
 ·subst ha
  by_cases hb:b=a
  ·subst hb;simp
  ·simp[hb,show ¬a=b from fun e=>hb e.symm]
 ·simp[ha,show decide (a<i+1)=decide (a<i)by rw[decide_eq_decide];omega]
theorem Dq:(fun _ _=>false:de)=j9:=rfl
theorem EI{n:Nat}{A B:de}:rD n (dF n (bt (dZ n A)) (bt (dZ n B)))=rD n (dF n A B):=eX fun _ _ hx hy=>nB (fun _ hk=>lU hx hk) (fun _ hk=>lU hk hy)
theorem za{P:Program}{f:Nat}(h:gi P f){n:Nat}{A B:de}(hn:n≤1000):AF P f [.ls (some false) 1 (rD n A),.ls (some false) 1 (rD n B)] (.own (.ls (some false) 1 (rD n (dF n A B)))):=by
 have:=h n (dZ n A) (dZ n B) hn rR rR;rw[gu,gu,gu]at this;rw[EI]at this;exact this

def eT(s:ByteArray):D:=.sc (.string s)
def d1(n:Nat):ByteArray:=⟨#[UInt8.ofNat (48+n)]⟩

def nZ(n:Nat):ByteArray:=if n<10 then d1 n else d1 (n / 10)++d1 (n % 10)
theorem oC{a:Array UInt8}:(ByteArray.mk a).size=a.size:=rfl
theorem mi{n:Nat}:(nZ n).size≤2:=by
 unfold nZ d1
 split<;>simp only[ByteArray.size_append,oC,List.size_toArray,lK,lZ]<;>omega
theorem Gd{n:Nat}:(d1 n).size=1:=rfl
theorem Bi{n:Nat}(h:n<10):nZ n=d1 n:=by simp[nZ,h]
theorem Gp{n:Nat}(h:¬n<10):nZ n=d1 (n / 10)++d1 (n % 10):=by simp[nZ,h]
theorem Ph{n:Nat}(h:n<10):IntKind.u8.wrap (IntKind.i64.wrap (48+(n:Int)))=((48+n:Nat):Int):=by
 rw[aj (by omega) (by omega)];unfold IntKind.wrap;simp[IntKind.signed,IntKind.bits];omega

def iG(g:Nat):RC:=(.seq (.r [⟨none,.mv 2 (.c (.sc (.string ⟨#[]⟩)))⟩]) (.seq (.seq (.r [.m 3 0,.o (.bin 4 .geq (.t 3) (.ci 10))]) (.cond (.t 4) (.seq (.reg true [.m 5 0,.o (.bin 6 .quo (.t 5) (.ci 10)),.c 7 g [.t 6],.m 8 0,.o (.bin 9 .rem (.t 8) (.ci 10)),.o (.bin 10 .add (.ci 48) (.t 9)),.o (.cvt 11 .u8 (.t 10)),.o (.bs 12 1 (.sc (.int .u8 0)) 1 [(0,(.t 11))]),.o (.cvs 13 (.t 12)),.o (.bin 14 .add (.t 7) (.t 13)),.m 2 14]) .ret) .skip)) (.seq (.r [.m 15 0,.o (.bin 16 .add (.ci 48) (.t 15)),.o (.cvt 17 .u8 (.t 16)),.o (.bs 18 1 (.sc (.int .u8 0)) 1 [(0,(.t 17))]),.o (.cvs 19 (.t 18)),.m 2 19]) .ret)))
def kK(P:Program)(fno:Nat):Prop:=∀(n:Nat)(hn:n<100),AF P fno [eI n] (.own (eT (nZ n)))
theorem x7{P:Program}(hm:P.follows .mixedOrders=true){g:Nat}(hr:aP P g=some (20,iG g,[.t 2])):kK P g:=by
 intro n hn;have h10:∀n:Nat,n<10→AF P g [eI n] (.own (eT (nZ n))):=by
  intro n hn;refine aw hr hm rfl fun hb=>?_;have hd:¬((n:Int)≥10):=by omega
  simp+contextual-implicitDefEqProofs only[iG,eI,eT,hd,D.size,go_sem,Nat.reduceMul];refine⟨by decide,D.Le.sc_eq ?_⟩;rw[Ph hn,Bi hn]
  rfl
 by_cases hd:n<10
 ·exact h10 n hd
 refine aw hr hm rfl fun hb=>?_;have hd':(n:Int)≥10:=by omega
 simp+contextual-implicitDefEqProofs only[iG,eI,eT,hd',go_sem];have q1:IntKind.i64.wrap ((n:Int).tdiv 10)=((n / 10:Nat):Int):=by rw[Int.tdiv_eq_ediv_of_nonneg (by omega),aj (by omega) (by omega)];omega
 have q2:(n:Int).tmod 10=((n % 10:Nat):Int):=by rw[Int.tmod_eq_emod_of_nonneg (by omega)];omega
 rw[q1];refine⟨by omega,aa (ds:=[eI ((n / 10:Nat):Int)]) (by rfl) (h10 (n / 10) (by omega)) ?_⟩;simp+contextual-implicitDefEqProofs only[eT,q2,Bi (show n / 10<10 by omega),D.size,go_sem,Nat.reduceMul];refine⟨by omega,by decide,⟨by rw[Gd];exact(by omega:1+1≤9223372036854775807),D.Le.sc_eq ?_⟩⟩;rw[Ph (by omega),Gp hd]
 rfl
def b1(b:Bool):ByteArray:=if b then⟨#[49]⟩else⟨#[48]⟩

def bV(k v:Int)(ts:List ByteArray):ByteArray:=
 if k=1 then⟨#[48]⟩else if k=2 then⟨#[49]⟩else if k=3 then⟨#[116]⟩++nZ v.toNat else if k=4 then⟨#[97]⟩++nZ v.toNat
 else if k=5 then⟨#[126]⟩++ts.getD 0 ⟨#[]⟩else if k=6 then⟨#[40]⟩++ts.getD 0 ⟨#[]⟩++⟨#[32,43,32]⟩++ts.getD 1 ⟨#[]⟩++⟨#[41]⟩
 else if k=7 then⟨#[40]⟩++ts.getD 0 ⟨#[]⟩++⟨#[32]⟩++ts.getD 1 ⟨#[]⟩++⟨#[41]⟩else ts.getD 0 ⟨#[]⟩++⟨#[42]⟩
mutual
def bK:Ex→ByteArray
 |.mk k v _ ks=>bV k v (wx ks)
def wx:List Ex→List ByteArray
 | []=>[]
 |e::es=>bK e::wx es
end
theorem s8:∀{ks:List Ex},wx ks=ks.map bK
 | []=>rfl
 |e::es=>by rw[wx,s8];rfl
theorem xF{k v:Int}{nn:Option Bool}{ks:List Ex}:bK (.mk k v nn ks)=bV k v (ks.map bK):=by rw[bK,s8]
inductive VO (k v:Int) (ks:List Ex):Prop
 |zero (h:k=1) (hk:ks=[])
 |one (h:k=2) (hk:ks=[])
 |test (h:k=3) (hk:ks=[]) (n:Nat) (hv:v=n) (hn:n<100)
 |act (h:k=4) (hk:ks=[]) (n:Nat) (hv:v=n) (hn:n<100)
 |nt (h:k=5) (a:Ex) (hk:ks=[a])
 |sum (h:k=6) (a b:Ex) (hk:ks=[a,b])
 |dot (h:k=7) (a b:Ex) (hk:ks=[a,b])
 |star (h:k=8) (a:Ex) (hk:ks=[a])
theorem x5{g:Int×Int}(hg:fH g=true){k v:Int}{ks:List Ex}(h:aR g k v ks=true):VO k v ks:=by
 simp only[fH,bA,cP]at hg;have hw1:IntKind.i64.wrap (g.1-1)=g.1-1:=aj (by omega) (by omega);have hw2:IntKind.i64.wrap (g.2-1)=g.2-1:=aj (by omega) (by omega);simp only[aR,bA,beq_iff_eq,hw1,hw2]at h;obtain⟨hk,hv⟩:=h;unfold cN at hk;have e0:∀{l:List Ex},(0:Int)=l.length→l=[]:=fun h=>List.eq_nil_of_length_eq_zero (by omega);have e1:∀{l:List Ex},(1:Int)=l.length→∃a,l=[a]:=fun {l} h=>by
  match l,h with
  | [a],_=>exact⟨a,rfl⟩
  | [],h=>simp at h
  |_::_::_,h=>simp at h;omega
 have e2:∀{l:List Ex},(2:Int)=l.length→∃a b,l=[a,b]:=fun {l} h=>by
  match l,h with
  | [a,b],_=>exact⟨a,b,rfl⟩
  | [],h=>simp at h
  | [_],h=>simp at h
  |_::_::_::_,h=>simp at h;omega
 by_cases h1:k=1
 ·subst h1;exact .zero rfl (e0 (by simpa using hk))
 by_cases h2:k=2
 ·subst h2;exact .one rfl (e0 (by simpa using hk))
 by_cases h3:k=3
 ·subst h3;rw[if_pos rfl,cP]at hv;exact .test rfl (e0 (by simpa using hk)) v.toNat (by omega) (by omega)
 by_cases h4:k=4
 ·subst h4;rw[if_neg (by omega),if_pos rfl,cP]at hv;exact .act rfl (e0 (by simpa using hk)) v.toNat (by omega) (by omega)
 by_cases h5:k=5
 ·subst h5;obtain⟨a,hk⟩:=e1 (by simpa using hk);exact .nt rfl a hk
 by_cases h6:k=6
 ·subst h6;obtain⟨a,b,hk⟩:=e2 (by simpa using hk);exact .sum rfl a b hk
 by_cases h7:k=7
 ·subst h7;obtain⟨a,b,hk⟩:=e2 (by simpa using hk);exact .dot rfl a b hk
 by_cases h8:k=8
 ·subst h8;obtain⟨a,hk⟩:=e1 (by simpa using hk);exact .star rfl a hk
 exact absurd hk (by simp[h1,h2,h3,h4,h5,h6,h7,h8])

def dU(g f1:Nat):RC:=(.seq (.r [⟨none,.mv 2 (.c (.sc (.string ⟨#[]⟩)))⟩]) (.seq (.seq (.r [.m 3 0,.n 4 3,.f 5 0 4,.l 6 1 5]) (.blk 0 (.seq (.r [.q 8 6 1,.m 7 8]) (.cond (.t 7) (.seq (.r [⟨none,.mv 2 (.c (.sc (.string ⟨#[48]⟩)))⟩]) .ret) (.seq (.r [.q 10 6 2,.m 9 10]) (.cond (.t 9) (.seq (.r [⟨none,.mv 2 (.c (.sc (.string ⟨#[49]⟩)))⟩]) .ret) (.seq (.r [.q 12 6 3,.m 11 12]) (.cond (.t 11) (.seq (.r [.m 13 0,.n 14 13,.f 15 1 14,.l 16 1 15,.c 17 f1 [.t 16],⟨none,.bin 18 .add (.c (.sc (.string ⟨#[116]⟩))) (.t 17)⟩,.m 2 18]) .ret) (.seq (.r [.q 20 6 4,.m 19 20]) (.cond (.t 19) (.seq (.r [.m 21 0,.n 22 21,.f 23 1 22,.l 24 1 23,.c 25 f1 [.t 24],⟨none,.bin 26 .add (.c (.sc (.string ⟨#[97]⟩))) (.t 25)⟩,.m 2 26]) .ret) (.seq (.r [.q 28 6 5,.m 27 28]) (.cond (.t 27) (.seq (.r [.m 29 0,.n 30 29,.f 31 2 30,.l 32 1 31,.i 33 3 32 0,.c 34 g [.t 33],⟨none,.bin 35 .add (.c (.sc (.string ⟨#[126]⟩))) (.t 34)⟩,.m 2 35]) .ret) (.seq (.r [.q 37 6 6,.m 36 37]) (.cond (.t 36) (.seq (.reg true [.m 38 0,.n 39 38,.f 40 2 39,.l 41 1 40,.i 42 3 41 0,.c 43 g [.t 42],⟨none,.bin 44 .add (.c (.sc (.string ⟨#[40]⟩))) (.t 43)⟩,⟨none,.bin 45 .add (.t 44) (.c (.sc (.string ⟨#[32,43,32]⟩)))⟩,.m 46 0,.n 47 46,.f 48 2 47,.l 49 1 48,.i 50 3 49 1,.c 51 g [.t 50],.o (.bin 52 .add (.t 45) (.t 51)),⟨none,.bin 53 .add (.t 52) (.c (.sc (.string ⟨#[41]⟩)))⟩,.m 2 53]) .ret) (.seq (.r [.q 55 6 7,.m 54 55]) (.cond (.t 54) (.seq (.reg true [.m 56 0,.n 57 56,.f 58 2 57,.l 59 1 58,.i 60 3 59 0,.c 61 g [.t 60],⟨none,.bin 62 .add (.c (.sc (.string ⟨#[40]⟩))) (.t 61)⟩,⟨none,.bin 63 .add (.t 62) (.c (.sc (.string ⟨#[32]⟩)))⟩,.m 64 0,.n 65 64,.f 66 2 65,.l 67 1 66,.i 68 3 67 1,.c 69 g [.t 68],.o (.bin 70 .add (.t 63) (.t 69)),⟨none,.bin 71 .add (.t 70) (.c (.sc (.string ⟨#[41]⟩)))⟩,.m 2 71]) .ret) .skip)))))))))))))))) (.seq (.r [.m 72 0,.n 73 72,.f 74 2 73,.l 75 1 74,.i 76 3 75 0,.c 77 g [.t 76],⟨none,.bin 78 .add (.t 77) (.c (.sc (.string ⟨#[42]⟩)))⟩,.m 2 78]) .ret)))
def qj(P:Program)(fno:Nat):Prop:=∀(g0:Int×Int)(hg:fH g0=true)(e:Ex)(hT:aD g0 e=true)(hz:(bK e).size≤1000000000),AF P fno [.pt (eE e) 0] (.own (eT (bK e)))
theorem BW{P:Program}(hm:P.follows .mixedOrders=true){g f1:Nat}(hr:aP P g=some (79,dU g f1,[.t 2]))(hc1:kK P f1):qj P g:=by
 intro g0 hg e hT hz;refine Ex.ind (p:=fun e=>aD g0 e=true→(bK e).size≤1000000000→AF P g [.pt (eE e) 0] (.own (eT (bK e)))) (fun k v nn ks ih hT hz=>?_) e hT hz;rw[cx,bA,List.all_eq_true]at hT;have hK:=x5 hg hT.1;rw[xF]at hz⊢;rw[bc];refine aw hr hm rfl fun hb=>?_;cases hK with
 |zero hk hks=>
  subst hk hks;rw[show bV 1 v ([].map bK)=⟨#[48]⟩by simp[bV]]at hz⊢;simp+contextual-implicitDefEqProofs only[dU,eT,D.size,D.sizeL,D.sub,bE,D.isAg,lN,List.getD_cons_zero,go_sem]
 |one hk hks=>
  subst hk hks;rw[show bV 2 v ([].map bK)=⟨#[49]⟩by simp[bV]]at hz⊢;simp+contextual-implicitDefEqProofs only[dU,eT,D.size,D.sizeL,D.sub,Int.reduceBEq,bE,D.isAg,lN,List.getD_cons_zero,go_sem]
 |test hk hks n hv hn=>
  subst hk hks hv;rw[show bV 3 n ([].map bK)=⟨#[116]⟩++nZ n by simp[bV]]at hz⊢;have hdz:=mi (n:=n);simp+contextual-implicitDefEqProofs only[dU,eT,D.size,D.sizeL,D.sub,Int.reduceBEq,bE,D.isAg,lN,lC,List.getD_cons_zero,List.getD_cons_succ,go_sem];refine aa (ds:=[eI n]) (by rfl) (hc1 n hn) ?_;simp+contextual-implicitDefEqProofs only[eT,go_sem];simp only[List.size_toArray,lK,lZ];omega
 |act hk hks n hv hn=>
  subst hk hks hv;rw[show bV 4 n ([].map bK)=⟨#[97]⟩++nZ n by simp[bV]]at hz⊢;have hdz:=mi (n:=n);simp+contextual-implicitDefEqProofs only[dU,eT,D.size,D.sizeL,D.sub,Int.reduceBEq,bE,D.isAg,lN,lC,List.getD_cons_zero,List.getD_cons_succ,go_sem];refine aa (ds:=[eI n]) (by rfl) (hc1 n hn) ?_;simp+contextual-implicitDefEqProofs only[eT,go_sem];simp only[List.size_toArray,lK,lZ];omega
 |nt hk a hks=>
  subst hk hks;rw[show bV 5 v ([a].map bK)=⟨#[126]⟩++bK a by simp[bV]]at hz⊢;have ta:=hT.2 a (by simp);simp only[ByteArray.size_append,oC,List.size_toArray,lK,lZ]at hz;simp+contextual-implicitDefEqProofs only[dU,eT,D.size,D.sizeL,D.sub,Int.cast_ofNat_Int,Int.reduceLT,Int.le_refl,Int.reduceBEq,bE,D.isAg,lN,lC,lK,lZ,D.at,List.getD_cons_zero,List.getD_cons_succ,go_sem];refine aa (ds:=[.pt (eE a) 0]) (by rfl) (ih a (by simp) ta (by omega)) ?_;simp+contextual-implicitDefEqProofs only[eT,go_sem];simp only[List.size_toArray,lK,lZ];omega
 |sum hk a b hks=>
  subst hk hks;rw[show bV 6 v ([a,b].map bK)=⟨#[40]⟩++bK a++⟨#[32,43,32]⟩++bK b++⟨#[41]⟩by simp[bV]]at hz⊢;have ta:=hT.2 a (by simp);have tb:=hT.2 b (by simp);simp only[ByteArray.size_append,oC,List.size_toArray,lK,lZ]at hz;simp+contextual-implicitDefEqProofs only[dU,eT,D.size,D.sizeL,D.sub,Int.cast_ofNat_Int,Int.reduceLT,Int.le_refl,Int.reduceBEq,bE,D.isAg,lN,lC,lK,lZ,D.at,List.getD_cons_zero,List.getD_cons_succ,go_sem];refine aa (ds:=[.pt (eE a) 0]) (by rfl) (ih a (by simp) ta (by omega)) ?_;simp+contextual-implicitDefEqProofs only[eT,D.size,D.sizeL,D.sub,Int.cast_ofNat_Int,Int.reduceLT,Int.reduceLE,Int.reduceToNat,D.isAg,lN,lC,lK,lZ,D.at,List.getD_cons_zero,List.getD_cons_succ,go_sem];refine⟨by simp only[List.size_toArray,lK,lZ];omega,by simp only[List.size_toArray,lK,lZ];omega,?_⟩;refine aa (ds:=[.pt (eE b) 0]) (by rfl) (ih b (by simp) tb (by omega)) ?_;simp+contextual-implicitDefEqProofs only[eT,go_sem];exact⟨by simp only[List.size_toArray,lK,lZ];omega,by simp only[List.size_toArray,lK,lZ];omega⟩
 |dot hk a b hks=>
  subst hk hks;rw[show bV 7 v ([a,b].map bK)=⟨#[40]⟩++bK a++⟨#[32]⟩++bK b++⟨#[41]⟩by simp[bV]]at hz⊢;have ta:=hT.2 a (by simp);have tb:=hT.2 b (by simp);simp only[ByteArray.size_append,oC,List.size_toArray,lK,lZ]at hz;simp+contextual-implicitDefEqProofs only[dU,eT,D.size,D.sizeL,D.sub,Int.cast_ofNat_Int,Int.reduceLT,Int.le_refl,Int.reduceBEq,bE,D.isAg,lN,lC,lK,lZ,D.at,List.getD_cons_zero,List.getD_cons_succ,go_sem];refine aa (ds:=[.pt (eE a) 0]) (by rfl) (ih a (by simp) ta (by omega)) ?_;simp+contextual-implicitDefEqProofs only[eT,D.size,D.sizeL,D.sub,Int.cast_ofNat_Int,Int.reduceLT,Int.reduceLE,Int.reduceToNat,D.isAg,lN,lC,lK,lZ,D.at,List.getD_cons_zero,List.getD_cons_succ,go_sem];refine⟨by simp only[List.size_toArray,lK,lZ];omega,by simp only[List.size_toArray,lK,lZ];omega,?_⟩;refine aa (ds:=[.pt (eE b) 0]) (by rfl) (ih b (by simp) tb (by omega)) ?_;simp+contextual-implicitDefEqProofs only[eT,go_sem];exact⟨by simp only[List.size_toArray,lK,lZ];omega,by simp only[List.size_toArray,lK,lZ];omega⟩
 |star hk a hks=>
  subst hk hks;rw[show bV 8 v ([a].map bK)=bK a++⟨#[42]⟩by simp[bV]]at hz⊢;have ta:=hT.2 a (by simp);simp only[ByteArray.size_append,oC,List.size_toArray,lK,lZ]at hz;simp+contextual-implicitDefEqProofs only[dU,eT,D.size,D.sizeL,D.sub,Int.cast_ofNat_Int,Int.reduceLT,Int.le_refl,Int.reduceBEq,D.isAg,lN,lC,lK,lZ,D.at,List.getD_cons_zero,List.getD_cons_succ,go_sem];refine aa (ds:=[.pt (eE a) 0]) (by rfl) (ih a (by simp) ta (by omega)) ?_;simp+contextual-implicitDefEqProofs only[eT,go_sem];simp only[List.size_toArray,lK,lZ];omega


def eU(v:Int):D:=.sc (.int .u8 v)

def aG(nn:Option Bool)(c:List Int)(a sd:Int):D:=.ag [.ls nn 1 (c.map eU),.sc (.int .i64 a),.sc (.int .u64 sd)]
def uS(nn:Option Bool)(c:List Int)(a sd:Int):U:=.ar false none 3 [aG nn c a sd]
def fZ(c:List Int):Prop:=(∀v∈c,0≤v∧v<256)∧c.length≤1000000000
def nb(c:List Int)(a:Int):Int:=if a<c.length then c.getD a.toNat 0 else 0
def CY(c:List Int)(a sd:Int):Int:=IntKind.u64.wrap (IntKind.u64.wrap (IntKind.u64.wrap (sd*6364136223846793005)+IntKind.u64.wrap (nb c a))+1442695040888963407)
def EJ(sd:Int):Int:=IntKind.i64.wrap (IntKind.u64.wrap ((BitVec.ofInt IntKind.u64.bits (sd.fdiv (2 ^ (min (40:Int).toNat IntKind.u64.bits)))&&&BitVec.ofInt IntKind.u64.bits 255).toNat:Nat))
def Bm(c:List Int)(a sd:Int):Int:=if a<c.length then nb c a else EJ (CY c a sd)
theorem Hg{c:List Int}{a:Int}(h:fZ c):0≤nb c a∧nb c a<256:=by
 unfold nb
 split
 ·next h1=>
  by_cases h2:a.toNat<c.length
  ·rw[List.getD_eq_getElem?_getD,List.getElem?_eq_getElem h2];exact h.1 _ (List.getElem_mem h2)
  ·simp[List.getD_eq_getElem?_getD,List.getElem?_eq_none (show c.length≤a.toNat by omega)]
 ·omega
theorem Fk(sd:Int):0≤EJ sd∧EJ sd<256:=by
 unfold EJ;rw[BitVec.toNat_and];have h:(BitVec.ofInt IntKind.u64.bits (sd.fdiv (2 ^ (min (40:Int).toNat IntKind.u64.bits)))).toNat&&&(BitVec.ofInt IntKind.u64.bits 255).toNat≤255:=Nat.le_trans Nat.and_le_right (by decide);generalize (BitVec.ofInt IntKind.u64.bits (sd.fdiv (2 ^ (min (40:Int).toNat IntKind.u64.bits)))).toNat&&&(BitVec.ofInt IntKind.u64.bits 255).toNat=m at h;have e1:IntKind.u64.wrap (m:Int)=m:=by simp only[IntKind.wrap,show IntKind.u64.signed=false from rfl,bG,fq,if_false,show IntKind.u64.bits=64 from rfl];omega
 rw[e1,aj (by omega) (by omega)];omega
theorem DO{c:List Int}{a sd:Int}(h:fZ c):0≤Bm c a sd∧Bm c a sd<256:=by
 unfold Bm
 split
 ·exact Hg h
 ·exact Fk _

def mm:RC:=(.seq (.r [.v 2 (.ci 0)]) (.seq (.r [.v 3 (.ci 0)]) (.seq (.seq (.reg true [.m 4 0,.n 5 4,.f 6 1 5,.l 7 1 6,.m 8 0,.n 9 8,.f 10 0 9,.l 11 1 10,.o (.len 12 (.t 11)),.o (.bin 13 .lss (.t 7) (.t 12))]) (.cond (.t 13) (.reg true [.m 14 0,.n 15 14,.f 16 0 15,.l 17 1 16,.m 18 0,.n 19 18,.f 20 1 19,.l 21 1 20,.o (.ia 22 1 (.t 17) (.t 21)),.l 23 1 22,.o (.cvt 24 .i64 (.t 23)),.m 3 24]) .skip)) (.seq (.r [.m 25 0,.n 26 25,.f 27 1 26,.l 28 1 27,.o (.bin 29 .add (.t 28) (.ci 1)),.n 30 25,.f 31 1 30,.s 1 31 29]) (.seq (.r [.m 32 0,.m 33 0,.n 34 33,.f 35 2 34,.l 36 1 35,.o (.bin 37 .mul (.t 36) (.c (.sc (.int .u64 6364136223846793005)))),.m 38 3,.o (.cvt 39 .u64 (.t 38)),.o (.bin 40 .add (.t 37) (.t 39)),.o (.bin 41 .add (.t 40) (.c (.sc (.int .u64 1442695040888963407)))),.n 42 32,.f 43 2 42,.s 1 43 41]) (.seq (.seq (.reg true [.m 44 0,.n 45 44,.f 46 1 45,.l 47 1 46,.m 48 0,.n 49 48,.f 50 0 49,.l 51 1 50,.o (.len 52 (.t 51)),.o (.bin 53 .leq (.t 47) (.t 52))]) (.cond (.t 53) (.seq (.r [.m 54 3,.m 2 54]) .ret) .skip)) (.seq (.r [.m 55 0,.n 56 55,.f 57 2 56,.l 58 1 57,.o (.bin 59 .shr (.t 58) (.c (.sc (.int .u64 40)))),.o (.bin 60 .and (.t 59) (.c (.sc (.int .u64 255)))),.o (.cvt 61 .i64 (.t 60)),.m 2 61]) .ret)))))))
def pV(P:Program)(fno:Nat):Prop:=∀(nn:Option Bool)(c:List Int)(a sd:Int),fZ c→0≤a→a≤1000000000→AE P fno [uS nn c a sd] [.pw 3000000000 0 0] [uS nn c (a+1) (CY c a sd)] (.own (.sc (.int .i64 (Bm c a sd))))
theorem CW{P:Program}(hm:P.follows .mixedOrders=true){g:Nat}(hr:aP P g=some (62,mm,[.t 2])):pV P g:=by
 intro nn c a sd hc h0 hA;have hn:=Hg (a:=a) hc;have hlen:=hc.2;have hw:=aj (x:=a+1) (by omega) (by omega);refine aX (wv:=.no) hr hm rfl rfl rfl fun hb ha=>?_
 by_cases h1:a<c.length
 ·have ea:nb c a=c.getD a.toNat 0:=by simp[nb,h1]
  have hlt:a.toNat<c.length:=by omega
  have e2:D.at (c.map eU) a.toNat=.sc (.int .u8 (nb c a)):=by rw[bP hlt,ea];simp[eU,hlt]
  have hcv:=aj (x:=nb c a) (by omega) (by omega);have h2:a+1≤c.length:=by omega
  have ex:Bm c a sd=nb c a:=by simp[Bm,h1]
  rw[ex];simp+contextual-implicitDefEqProofs only[mm,uS,aG,h1,h0,h2,hw,e2,hcv,D.put,D.cells,D.size,D.isAg,D.sub,aq,af,lM,go_sem];exact rfl
 ·have ea:nb c a=0:=by simp[nb,h1]
  have h2:¬a+1≤c.length:=by omega
  have ex:Bm c a sd=EJ (CY c a sd):=by simp[Bm,h1]
  have en:CY c a sd=IntKind.u64.wrap (IntKind.u64.wrap (IntKind.u64.wrap (sd*6364136223846793005)+IntKind.u64.wrap 0)+1442695040888963407):=by unfold CY;rw[ea]
  rw[ex,en];simp+contextual-implicitDefEqProofs only[mm,uS,aG,h1,h2,hw,D.put,D.cells,D.size,D.isAg,D.sub,aq,af,lM,go_sem];exact⟨by decide,D.Le.refl _⟩

def jj(f1:Nat):RC:=(.seq (.r [.v 4 (.ci 0)]) (.seq (.seq (.r [.m 6 1,.o (.bin 7 .leq (.t 6) (.ci 1))]) (.cond (.t 7) (.seq (.r [.v 4 (.ci 0)]) .ret) .skip)) (.seq (.r [.m 8 0,.o (.wcl (some 9) f1 [.t 8]),.m 5 9]) (.seq (.seq (.r [.m 10 1,.o (.bin 11 .gtr (.t 10) (.ci 200))]) (.cond (.t 11) (.r [.m 12 5,.o (.bin 13 .mul (.t 12) (.ci 256)),.m 14 0,.o (.wcl (some 15) f1 [.t 14]),.o (.bin 16 .add (.t 13) (.t 15)),.m 5 16]) .skip)) (.seq (.r [.m 17 5,.m 18 1,.o (.bin 19 .rem (.t 17) (.t 18)),.m 4 19]) .ret)))))
def eO(P:Program)(fno:Nat):Prop:=∀(nn:Option Bool)(c:List Int)(a sd n:Int),fZ c→0≤a→a≤500000000→∃a' sd' x,a≤a'∧a'≤a+2∧0≤x∧(n≤1→x=0)∧(1<n→x<n)∧AE P fno [uS nn c a sd] [.pw 3000000000 0 0,.im none (eI n)] [uS nn c a' sd'] (.own (eI x))
theorem Cw{P:Program}(hm:P.follows .mixedOrders=true){g f1:Nat}(hr:aP P g=some (20,jj f1,[.t 4]))(hc1:pV P f1):eO P g:=by
 intro nn c a sd n hc h0 hA
 by_cases h1:n≤1
 ·refine⟨a,sd,0,by omega,by omega,by omega,fun _=>rfl,by omega,?_⟩;refine aX (wv:=.no) hr hm rfl rfl rfl fun hb ha=>?_;simp+contextual-implicitDefEqProofs only[jj,uS,aG,h1,eI,go_sem]
 have b1:=DO (a:=a) (sd:=sd) hc
 by_cases h2:n>200
 ·have b2:=DO (a:=a+1) (sd:=CY c a sd) hc;have w1:=aj (x:=Bm c a sd*256) (by omega) (by omega);have w2:=aj (x:=Bm c a sd*256+Bm c (a+1) (CY c a sd)) (by omega) (by omega);have hn0:n≠0:=by omega
  refine⟨a+1+1,CY c (a+1) (CY c a sd),(Bm c a sd*256+Bm c (a+1) (CY c a sd)).tmod n,by omega,by omega,Int.tmod_nonneg _ (by omega),by omega,fun _=>Int.tmod_lt_of_pos _ (by omega),?_⟩;refine aX (wv:=.no) hr hm rfl rfl rfl fun hb ha=>?_;simp+contextual-implicitDefEqProofs only[jj,uS,aG,h1,eI,go_sem];refine aB [3000000000] [] (by rfl) (by rfl) (by rfl) (hc1 nn c a sd hc h0 (by omega)) rfl (by simp[bH,bp,uS,aG,af,D.noPtr,bm,AV.shW,bb,bC,U.shW,St.unit,lu]) ?_;simp+contextual-implicitDefEqProofs only[uS,aG,h2,w1,go_sem];refine aB [3000000000] [] (by rfl) (by rfl) (by rfl) (hc1 nn c (a+1) (CY c a sd) hc (by omega) (by omega)) rfl (by simp[bH,bp,uS,aG,af,D.noPtr,bm,AV.shW,bb,bC,U.shW,St.unit,lu]) ?_;simp+contextual-implicitDefEqProofs only[uS,aG,w2,go_sem];exact hn0
 ·have hn0:n≠0:=by omega
  refine⟨a+1,CY c a sd,(Bm c a sd).tmod n,by omega,by omega,Int.tmod_nonneg _ (by omega),by omega,fun _=>Int.tmod_lt_of_pos _ (by omega),?_⟩;refine aX (wv:=.no) hr hm rfl rfl rfl fun hb ha=>?_;simp+contextual-implicitDefEqProofs only[jj,uS,aG,h1,eI,go_sem];refine aB [3000000000] [] (by rfl) (by rfl) (by rfl) (hc1 nn c a sd hc h0 (by omega)) rfl (by simp[bH,bp,uS,aG,af,D.noPtr,bm,AV.shW,bb,bC,U.shW,St.unit,lu]) ?_;simp+contextual-implicitDefEqProofs only[uS,aG,h2,go_sem];exact hn0

def tY(f1:Nat):RC:=(.seq (.r [.v 4 .cf]) (.seq (.r [.m 5 0,.m 6 1,.o (.wcl (some 7) f1 [.t 5,.t 6]),.q 8 7 0,.m 4 8]) .ret))
def jo(P:Program)(fno:Nat):Prop:=∀(nn:Option Bool)(c:List Int)(a sd n:Int),fZ c→0≤a→a≤500000000→∃a' sd' b,a≤a'∧a'≤a+2∧AE P fno [uS nn c a sd] [.pw 3000000000 0 0,.im none (eI n)] [uS nn c a' sd'] (.own (eB b))
theorem Dd{P:Program}(hm:P.follows .mixedOrders=true){g f1:Nat}(hr:aP P g=some (9,tY f1,[.t 4]))(hc1:eO P f1):jo P g:=by
 intro nn c a sd n hc h0 hA;obtain⟨a',sd',x,p1,p2,p3,p4,p5,hP⟩:=hc1 nn c a sd n hc h0 hA;refine⟨a',sd',x==0,p1,p2,?_⟩;refine aX (wv:=.no) hr hm rfl rfl rfl fun hb ha=>?_;simp+contextual-implicitDefEqProofs only[tY,uS,aG,eI,go_sem,eB];refine aB [3000000000] [] (by rfl) (by rfl) (by rfl) hP rfl (by simp[bH,bp,uS,aG,af,D.noPtr,bm,AV.shW,bb,bC,U.shW,St.unit,lu]) ?_;simp+contextual-implicitDefEqProofs only[uS,aG,eI,go_sem]

def qm:RC:=(.seq (.r [.o (.mv 2 (.c (.sc (.pointer none))))]) (.seq (.r [.m 3 0,.o (.bld 4 (.ag [(.ls (some true) 1 []),(.sc (.int .i64 0)),(.sc (.int .u64 0))]) [(0,1,(.t 3))]),.b 5 3 4,.m 2 5]) .ret))
def g8(P:Program)(fno:Nat):Prop:=∀(nn:Option Bool)(c:List Int),AF P fno [.ls nn 1 (c.map eU)] (.bxs (aG nn c 0 0))
theorem Cn{P:Program}(hm:P.follows .mixedOrders=true){g:Nat}(hr:aP P g=some (6,qm,[.t 2])):g8 P g:=by
 intro nn c;refine aw hr hm rfl fun hb=>?_;simp+contextual-implicitDefEqProofs only[qm,aG,D.cells,D.size,D.sizeL,go_sem,Nat.reduceSub]

def fJ(f1:Nat):RC:=(.seq (.r [.o (.zer 2 2 (.ag [(.sc (.int .i64 0)),(.sc (.int .i64 0))]))]) (.seq (.r [.m 4 0,.o (.wcl (some 5) f1 [.t 4,.ci 2]),.o (.bin 6 .add (.ci 1) (.t 5)),.m 7 0,.o (.wcl (some 8) f1 [.t 7,.ci 2]),.o (.bin 9 .add (.ci 1) (.t 8)),.o (.bld 10 (.ag [(.sc (.int .i64 0)),(.sc (.int .i64 0))]) [(0,1,(.t 6)),(1,1,(.t 9))]),.o (.zer 3 2 (.ag [(.sc (.int .i64 0)),(.sc (.int .i64 0))])),.s 2 3 10]) (.seq (.seq (.r [.m 11 0,.o (.wcl (some 12) f1 [.t 11,.ci 12])]) (.blk 0 (.seq (.r [.q 14 12 0,.m 13 14]) (.cond (.t 13) (.r [.m 15 0,.o (.wcl (some 16) f1 [.t 15,.ci 4]),.f 17 0 3,.s 1 17 16]) (.seq (.r [.q 19 12 1,.m 18 19]) (.cond (.t 18) (.r [.m 20 0,.o (.wcl (some 21) f1 [.t 20,.ci 5]),.f 22 1 3,.s 1 22 21]) .skip)))))) (.seq (.r [.L 23 2 3,.s 2 2 23]) .ret))))
def j5(P:Program)(fno:Nat):Prop:=∀(nn:Option Bool)(c:List Int)(a sd:Int),fZ c→0≤a→a≤400000000→∃a' sd' g,a≤a'∧a'≤a+8∧fH g=true∧AE P fno [uS nn c a sd] [.pw 3000000000 0 0] [uS nn c a' sd'] (.own (eG g))
theorem vX{P:Program}(hm:P.follows .mixedOrders=true){g f1:Nat}(hr:aP P g=some (24,fJ f1,[.c 2 2 true]))(hc1:eO P f1):j5 P g:=by
 intro nn c a sd hc h0 hA;obtain⟨a1,sd1,x1,p1,p2,p3,p4,p5,hP1⟩:=hc1 nn c a sd 2 hc h0 (by omega);obtain⟨a2,sd2,x2,q1,q2,q3,q4,q5,hP2⟩:=hc1 nn c a1 sd1 2 hc (by omega) (by omega);obtain⟨a3,sd3,x3,r1,r2,r3,r4,r5,hP3⟩:=hc1 nn c a2 sd2 12 hc (by omega) (by omega);have p5:=p5 (by omega);have q5:=q5 (by omega);have w1:=aj (x:=1+x1) (by omega) (by omega);have w2:=aj (x:=1+x2) (by omega) (by omega)
 by_cases h3:x3=0
 ·have h3b:(x3==0)=true:=by simp[h3]
  obtain⟨a4,sd4,x4,s1,s2,s3,s4,s5,hP4⟩:=hc1 nn c a3 sd3 4 hc (by omega) (by omega);have s5:=s5 (by omega);refine⟨a4,sd4,(x4,1+x2),by omega,by omega,by simp[fH,dj];omega,?_⟩;refine aX (wv:=.no) hr hm rfl rfl rfl fun hb ha=>?_;simp+contextual-implicitDefEqProofs only[fJ,uS,aG,D.size,D.sizeL,go_sem];refine aB [3000000000] [] (by rfl) (by rfl) (by rfl) hP1 rfl (by simp[bH,bp,uS,aG,af,D.noPtr,bm,AV.shW,bb,bC,U.shW,St.unit,lu]) ?_;simp+contextual-implicitDefEqProofs only[uS,aG,eI,w1,go_sem];refine aB [3000000000] [] (by rfl) (by rfl) (by rfl) hP2 rfl (by simp[bH,bp,uS,aG,af,D.noPtr,bm,AV.shW,bb,bC,U.shW,St.unit,lu]) ?_;simp+contextual-implicitDefEqProofs only[uS,aG,eI,w2,D.put,D.cells,D.size,D.sizeL,D.isAg,aq,af,go_sem,Nat.reduceSub];refine aB [3000000000] [] (by rfl) (by rfl) (by rfl) hP3 rfl (by simp[bH,bp,uS,aG,af,D.noPtr,bm,AV.shW,bb,bC,U.shW,St.unit,lu]) ?_;simp+contextual-implicitDefEqProofs only[uS,aG,eI,eG,h3b,go_sem];refine aB [3000000000] [] (by rfl) (by rfl) (by rfl) hP4 rfl (by simp[bH,bp,uS,aG,af,D.noPtr,bm,AV.shW,bb,bC,U.shW,St.unit,lu]) ?_;simp+contextual-implicitDefEqProofs only[uS,aG,eI,D.put,D.cells,D.size,D.sizeL,D.isAg,D.sub,aq,af,go_sem]
 have h3b:(x3==0)=false:=by simp[h3]
 by_cases h4:x3=1
 ·have h4b:(x3==1)=true:=by simp[h4]
  obtain⟨a4,sd4,x4,s1,s2,s3,s4,s5,hP4⟩:=hc1 nn c a3 sd3 5 hc (by omega) (by omega);have s5:=s5 (by omega);refine⟨a4,sd4,(1+x1,x4),by omega,by omega,by simp[fH,dj];omega,?_⟩;refine aX (wv:=.no) hr hm rfl rfl rfl fun hb ha=>?_;simp+contextual-implicitDefEqProofs only[fJ,uS,aG,D.size,D.sizeL,go_sem];refine aB [3000000000] [] (by rfl) (by rfl) (by rfl) hP1 rfl (by simp[bH,bp,uS,aG,af,D.noPtr,bm,AV.shW,bb,bC,U.shW,St.unit,lu]) ?_;simp+contextual-implicitDefEqProofs only[uS,aG,eI,w1,go_sem];refine aB [3000000000] [] (by rfl) (by rfl) (by rfl) hP2 rfl (by simp[bH,bp,uS,aG,af,D.noPtr,bm,AV.shW,bb,bC,U.shW,St.unit,lu]) ?_;simp+contextual-implicitDefEqProofs only[uS,aG,eI,w2,D.put,D.cells,D.size,D.sizeL,D.isAg,aq,af,go_sem,Nat.reduceSub];refine aB [3000000000] [] (by rfl) (by rfl) (by rfl) hP3 rfl (by simp[bH,bp,uS,aG,af,D.noPtr,bm,AV.shW,bb,bC,U.shW,St.unit,lu]) ?_;simp+contextual-implicitDefEqProofs only[uS,aG,eI,eG,h3b,h4b,go_sem];refine aB [3000000000] [] (by rfl) (by rfl) (by rfl) hP4 rfl (by simp[bH,bp,uS,aG,af,D.noPtr,bm,AV.shW,bb,bC,U.shW,St.unit,lu]) ?_;simp+contextual-implicitDefEqProofs only[uS,aG,eI,D.put,D.cells,D.size,D.sizeL,D.isAg,D.sub,aq,af,go_sem]
 ·have h4b:(x3==1)=false:=by simp[h4]
  refine⟨a3,sd3,(1+x1,1+x2),by omega,by omega,by simp[fH,dj];omega,?_⟩;refine aX (wv:=.no) hr hm rfl rfl rfl fun hb ha=>?_;simp+contextual-implicitDefEqProofs only[fJ,uS,aG,D.size,D.sizeL,go_sem];refine aB [3000000000] [] (by rfl) (by rfl) (by rfl) hP1 rfl (by simp[bH,bp,uS,aG,af,D.noPtr,bm,AV.shW,bb,bC,U.shW,St.unit,lu]) ?_;simp+contextual-implicitDefEqProofs only[uS,aG,eI,w1,go_sem];refine aB [3000000000] [] (by rfl) (by rfl) (by rfl) hP2 rfl (by simp[bH,bp,uS,aG,af,D.noPtr,bm,AV.shW,bb,bC,U.shW,St.unit,lu]) ?_;simp+contextual-implicitDefEqProofs only[uS,aG,eI,w2,D.put,D.cells,D.size,D.sizeL,D.isAg,aq,af,go_sem,Nat.reduceSub];refine aB [3000000000] [] (by rfl) (by rfl) (by rfl) hP3 rfl (by simp[bH,bp,uS,aG,af,D.noPtr,bm,AV.shW,bb,bC,U.shW,St.unit,lu]) ?_;simp+contextual-implicitDefEqProofs only[uS,aG,eI,eG,h3b,h4b,D.put,D.size,D.sizeL,D.isAg,D.sub,aq,af,go_sem]

def wa(f1 f2:Nat):RC:=(.seq (.r [.o (.zer 2 2 (.ag [(.sc (.int .i64 0)),(.sc (.int .i64 0))]))]) (.seq (.r [.m 3 0,.c 4 f1 [.t 3],.o (.wcl (some 5) f2 [.t 4]),.s 2 2 5]) .ret))
def Bh(P:Program)(fno:Nat):Prop:=∀(nn:Option Bool)(c:List Int),fZ c→∃g,fH g=true∧AF P fno [.ls nn 1 (c.map eU)] (.own (eG g))
theorem E8{P:Program}(hm:P.follows .mixedOrders=true){g f1 f2:Nat}(hr:aP P g=some (6,wa f1 f2,[.c 2 2 true]))(hc1:g8 P f1)(hc2:j5 P f2):Bh P g:=by
 intro nn c hc;obtain⟨a',sd',g,p1,p2,p3,hP⟩:=hc2 nn c 0 0 hc (by omega) (by omega);refine⟨g,p3,?_⟩;refine aw hr hm rfl fun hb=>?_;simp+contextual-implicitDefEqProofs only[wa,eG,D.size,D.sizeL,go_sem,eI];refine aa ?_ (hc1 nn c) ?_
 ·exact rfl
 simp+contextual-implicitDefEqProofs only[aG,D.size,D.sizeL,go_sem];refine aB [4] [] (by rfl) (by rfl) (by rfl) hP rfl (by simp[bH,bp,uS,aG,af,D.noPtr,bm,AV.shW,bb,bC,U.shW,St.unit,lu]) ?_;simp+contextual-implicitDefEqProofs only[uS,aG,eG,D.put,D.size,D.sizeL,D.isAg,D.sub,aq,af,go_sem,eI]
end Go.Ax
