/- Contracts of functions of the seat, proved over the engine. No condition. -/
import Derived.Test.YtlmeadheakbmpaaXxA
import Derived.Test.YtlmeadheakbmpaaEnI
set_option linter.all false
namespace Go.Ax
abbrev Mo:=(Int×Int)×Int×SL (SL Bool)×SL (SL (SL Bool))
def eM(m:Mo):D:=.ag [eI m.1.1,eI m.1.2,eI m.2.1,eS 1 (eS 1 eB) m.2.2.1,eS 1 (eS 1 (eS 1 eB)) m.2.2.2]
abbrev Co:=(Int×Int)×Int×SL (SL Bool)×SL (SL (SL Int))
def pc(m:Co):D:=.ag [eI m.1.1,eI m.1.2,eI m.2.1,eS 1 (eS 1 eB) m.2.2.1,eS 1 (eS 1 (eS 1 eI)) m.2.2.2]
def it{α:Type}(c:Int)(x:SL α):Bool:=(x.2.length:Int)==c
def j8{α:Type}(r c:Int)(t:SL (SL α)):Bool:=it r t&&t.2.all (it c)
def iU(g:Int×Int)(p:Int)(t:SL (SL Bool)):Bool:=oC g&&(kJ p 1 8&&j8 g.1 p t)
def nv{α:Type}(g:Int×Int)(p:Int)(t:SL (SL (SL α))):Bool:=it g.2 t&&t.2.all (j8 p p)
def xq:RC:=(.s [.v 6 .cf] (.seq (.s [.m 9 0,.o (.len 10 (.t 9)),.m 11 1,.o (.bin 12 .neq (.t 10) (.t 11))] (.cond (.t 12) (.s [.v 6 .cf] .ret) .skip)) (.seq (.s [.m 13 0,.o (.len 14 (.t 13)),.v 15 (.ci 0)] (.gX 0 (.loop (.s [.o (.bin 16 .lss (.t 15) (.t 14))] (.seq (.cond (.t 16) .skip (.exit 0)) (.seq (.gX 1 (.s [.o (.ia 17 1 (.t 13) (.t 15)),.l 18 1 17,.m 8 18] (.s [.m 19 8,.o (.len 20 (.t 19)),.m 21 2,.o (.bin 22 .neq (.t 20) (.t 21))] (.cond (.t 22) (.s [.v 6 .cf] .ret) .skip)))) (.r [.o (.bin 23 .add (.t 15) (.ci 1)),.m 15 23]))))))) (.s [.v 6 .ct] .ret))))
def tq(P:Program)(f:Nat):Prop:=∀(t:SL (SL Bool))(r c:Int),AF P f [eS 1 (eS 1 eB) t,eI r,eI c] (.own (eB (j8 r c t)))
variable {g:Nat}{P:Program}
def LR(hm:Mx P)(hr:il P g=some (24,xq,[.t 6])):tq P g:=by
 intro t r c;refine fY hr hm rfl fun hb=>?_;have hl:=uq hb.1;simp only[lM]at hl;cases h0:it r t;have sF:=h0;simp only[it]at sF;simp+contextual-implicitDefEqProofs only[xq,eS,lM,sF,j8,h0,bne,bN,bG,go_sem,eI,eB];have sF:=h0;simp only[it]at sF;simp+contextual-implicitDefEqProofs only[xq,eS,lM,sF,bne,bT,go_sem,eI,eB];refine lv (α:=Nat) [6,8,15,16,17,18,19,20,21,22,23] (fun i=>[(15,.im none (.sc (.int .i64 i)))]) (fun i=>i≤t.2.length∧(t.2.take i).all (it c)=true) (fun i=>t.2.length-i) 0 (by simp only[fR,go_sem];simp) ⟨aq _,rfl⟩ ?_;rintro i ⟨j1,j2⟩
 by_cases hi:i<t.2.length
 ·have e1:=ie (f:=eS 1 eB) hi;simp+contextual-implicitDefEqProofs only[e1,hi,iL,lM,iN,go_sem];cases hx:it c t.2[i]
  ·have qR:=hx;simp only[it]at qR;simp+contextual-implicitDefEqProofs only[eS,lM,bne,qR,bN,go_sem];exact D.Le.gH (by simp only[j8,h0];rw[jG hi hx];rfl)
  have qR:=hx;simp only[it]at qR;simp+contextual-implicitDefEqProofs only[eS,lM,bne,qR,bT,go_sem];rw[fQ (by omega) (by omega)];exact⟨i+1,⟨by omega,iw hi j2 hx⟩,by omega,gO.env (by simp only[fR,go_sem];simp)⟩
 simp+contextual-implicitDefEqProofs only[hi,iL,go_sem];exact D.Le.gH (by simp only[j8,h0];rw[iW hi j2];rfl)
def xx:RC:=(.s [.v 6 .cf] (.seq (.s [.m 9 0,.o (.len 10 (.t 9)),.m 11 1,.o (.bin 12 .neq (.t 10) (.t 11))] (.cond (.t 12) (.s [.v 6 .cf] .ret) .skip)) (.seq (.s [.m 13 0,.o (.len 14 (.t 13)),.v 15 (.ci 0)] (.gX 0 (.loop (.s [.o (.bin 16 .lss (.t 15) (.t 14))] (.seq (.cond (.t 16) .skip (.exit 0)) (.seq (.gX 1 (.s [.o (.ia 17 1 (.t 13) (.t 15)),.l 18 1 17,.m 8 18] (.s [.m 19 8,.o (.len 20 (.t 19)),.m 21 2,.o (.bin 22 .neq (.t 20) (.t 21))] (.cond (.t 22) (.s [.v 6 .cf] .ret) .skip)))) (.r [.o (.bin 23 .add (.t 15) (.ci 1)),.m 15 23]))))))) (.s [.v 6 .ct] .ret))))
def xg(P:Program)(f:Nat):Prop:=∀(t:SL (SL Int))(r c:Int),AF P f [eS 1 (eS 1 eI) t,eI r,eI c] (.own (eB (j8 r c t)))
def Mn(hm:Mx P)(hr:il P g=some (24,xx,[.t 6])):xg P g:=by
 intro t r c;refine fY hr hm rfl fun hb=>?_;have hl:=uq hb.1;simp only[lM]at hl;cases h0:it r t;have sF:=h0;simp only[it]at sF;simp+contextual-implicitDefEqProofs only[xx,eS,lM,sF,j8,h0,bne,bN,bG,go_sem,eI,eB];have sF:=h0;simp only[it]at sF;simp+contextual-implicitDefEqProofs only[xx,eS,lM,sF,bne,bT,go_sem,eI,eB];refine lv (α:=Nat) [6,8,15,16,17,18,19,20,21,22,23] (fun i=>[(15,.im none (.sc (.int .i64 i)))]) (fun i=>i≤t.2.length∧(t.2.take i).all (it c)=true) (fun i=>t.2.length-i) 0 (by simp only[fR,go_sem];simp) ⟨aq _,rfl⟩ ?_;rintro i ⟨j1,j2⟩
 by_cases hi:i<t.2.length
 ·have e1:=ie (f:=eS 1 eI) hi;simp+contextual-implicitDefEqProofs only[e1,hi,iL,lM,iN,go_sem];cases hx:it c t.2[i]
  ·have qR:=hx;simp only[it]at qR;simp+contextual-implicitDefEqProofs only[eS,lM,bne,qR,bN,go_sem];exact D.Le.gH (by simp only[j8,h0];rw[jG hi hx];rfl)
  have qR:=hx;simp only[it]at qR;simp+contextual-implicitDefEqProofs only[eS,lM,bne,qR,bT,go_sem];rw[fQ (by omega) (by omega)];exact⟨i+1,⟨by omega,iw hi j2 hx⟩,by omega,gO.env (by simp only[fR,go_sem];simp)⟩
 simp+contextual-implicitDefEqProofs only[hi,iL,go_sem];exact D.Le.gH (by simp only[j8,h0];rw[iW hi j2];rfl)
def CN(f1 f2:Nat):RC:=(.s [.b 3 2 0,.v 6 .cf] (.seq (.s [.L 8 2 3,.c 9 f1 [.t 8],.o (.un 10 .not (.t 9)),.m 11 10,.u 11 (.mv 12 (.t 1)),.u 11 (.call (some 13) f2 [.t 12,.ci 1,.ci 8]),.u 11 (.un 14 .not (.t 13)),.o (.pick 15 (.t 11) .ct (.t 14)),.m 16 15,.u 16 (.mv 17 (.t 2)),.u 16 (.len 18 (.t 17)),.u 16 (.fa 19 0 (.t 3)),.u 16 (.ld 20 false 1 (.t 19)),.u 16 (.bin 21 .neq (.t 18) (.t 20)),.o (.pick 22 (.t 16) .ct (.t 21))] (.cond (.t 22) (.s [.v 6 .cf] .ret) .skip)) (.seq (.s [.v 7 (.ci 0)] (.gX 0 (.loop (.seq (.s [.m 23 7,.m 24 2,.o (.len 25 (.t 24)),.o (.bin 26 .lss (.t 23) (.t 25))] (.cond (.t 26) .skip (.exit 0))) (.seq (.gX 1 (.s [.m 29 2,.m 30 7,.o (.ia 31 1 (.t 29) (.t 30)),.l 32 1 31,.o (.len 33 (.t 32)),.m 34 1,.o (.bin 35 .neq (.t 33) (.t 34))] (.cond (.t 35) (.s [.v 6 .cf] .ret) .skip))) (.r [.m 27 7,.o (.bin 28 .add (.t 27) (.ci 1)),.m 7 28])))))) (.s [.v 6 .ct] .ret))))
def xj(P:Program)(f:Nat):Prop:=∀(g:Int×Int)(p:Int)(t:SL (SL Bool)),AF P f [eG g,eI p,eS 1 (eS 1 eB) t] (.own (eB (iU g p t)))
variable {f1 f2:Nat}
def LB(hm:Mx P)(hr:il P g=some (36,CN f1 f2,[.t 6]))(iS:xW P f1)(jw:rg P f2):xj P g:=by
 intro g p t;refine fY hr hm rfl fun hb=>?_;have hl:=uq hb.2.2.1;simp only[lM]at hl;simp+contextual-implicitDefEqProofs only[CN,eG,eS,go_sem,eI,eB];refine fL ?_ (iS g) ?_;exact rfl;cases hg:oC g;simp+contextual-implicitDefEqProofs only[iU,hg,bN,bG,go_sem,eB];simp+contextual-implicitDefEqProofs only[bT,go_sem,eB];refine fL ?_ (jw p 1 8) ?_;exact rfl;cases hp:kJ p 1 8;simp+contextual-implicitDefEqProofs only[iU,hg,hp,bN,bG,bJ,go_sem,eB];cases h0:it g.1 t;have sF:=h0;simp only[it]at sF;simp+contextual-implicitDefEqProofs only[iU,j8,hg,hp,h0,sF,lM,bne,bT,bN,bG,bJ,go_sem,eB];have sF:=h0;simp only[it]at sF;simp+contextual-implicitDefEqProofs only[sF,lM,bne,bT,go_sem,eB];refine lv (α:=Nat) [6,7,23,24,25,26,27,28,29,30,31,32,33,34,35] (fun i=>[(7,.im none (.sc (.int .i64 i)))]) (fun i=>i≤t.2.length∧(t.2.take i).all (it p)=true) (fun i=>t.2.length-i) 0 (by simp only[fR,go_sem];simp) ⟨aq _,rfl⟩ ?_;rintro i ⟨j1,j2⟩
 by_cases hi:i<t.2.length
 ·have e1:=ie (f:=eS 1 eB) hi;simp+contextual-implicitDefEqProofs only[e1,hi,iL,lM,iN,go_sem];cases hx:it p t.2[i]
  ·have qR:=hx;simp only[it]at qR;simp+contextual-implicitDefEqProofs only[eS,lM,bne,qR,bN,go_sem];exact D.Le.gH (by simp only[iU,j8,hg,hp,h0];rw[jG hi hx];rfl)
  have qR:=hx;simp only[it]at qR;simp+contextual-implicitDefEqProofs only[eS,lM,bne,qR,bT,go_sem];rw[fQ (by omega) (by omega)];exact⟨i+1,⟨by omega,iw hi j2 hx⟩,by omega,gO.env (by simp only[fR,go_sem];simp)⟩
 simp+contextual-implicitDefEqProofs only[hi,iL,lM,go_sem];exact D.Le.gH (by simp only[iU,j8,hg,hp,h0];rw[iW hi j2];rfl)
def Da(f1 f2 f3:Nat):RC:=(.s [.b 4 2 0,.v 8 .cf] (.seq (.s [.L 11 2 4,.c 12 f1 [.t 11],.o (.un 13 .not (.t 12)),.m 14 13,.u 14 (.mv 15 (.t 1)),.u 14 (.call (some 16) f2 [.t 15,.ci 1,.ci 8]),.u 14 (.un 17 .not (.t 16)),.o (.pick 18 (.t 14) .ct (.t 17)),.m 19 18,.u 19 (.mv 20 (.t 2)),.u 19 (.fa 21 0 (.t 4)),.u 19 (.ld 22 false 1 (.t 21)),.u 19 (.mv 23 (.t 1)),.u 19 (.call (some 24) f3 [.t 20,.t 22,.t 23]),.u 19 (.un 25 .not (.t 24)),.o (.pick 26 (.t 19) .ct (.t 25)),.m 27 26,.u 27 (.mv 28 (.t 3)),.u 27 (.len 29 (.t 28)),.u 27 (.fa 30 1 (.t 4)),.u 27 (.ld 31 false 1 (.t 30)),.u 27 (.bin 32 .neq (.t 29) (.t 31)),.o (.pick 33 (.t 27) .ct (.t 32))] (.cond (.t 33) (.s [.v 8 .cf] .ret) .skip)) (.seq (.s [.m 34 3,.o (.len 35 (.t 34)),.v 36 (.ci 0)] (.gX 0 (.loop (.s [.o (.bin 37 .lss (.t 36) (.t 35))] (.seq (.cond (.t 37) .skip (.exit 0)) (.seq (.gX 1 (.s [.o (.ia 38 1 (.t 34) (.t 36)),.l 39 1 38,.m 10 39] (.s [.m 40 10,.m 41 1,.m 42 1,.c 43 f3 [.t 40,.t 41,.t 42],.o (.un 44 .not (.t 43))] (.cond (.t 44) (.s [.v 8 .cf] .ret) .skip)))) (.r [.o (.bin 45 .add (.t 36) (.ci 1)),.m 36 45]))))))) (.s [.v 8 .ct] .ret))))
def xB(P:Program)(f:Nat):Prop:=∀(g:Int×Int)(p:Int)(u:SL (SL Bool))(t:SL (SL (SL Bool))),AF P f [eG g,eI p,eS 1 (eS 1 eB) u,eS 1 (eS 1 (eS 1 eB)) t] (.own (eB (iU g p u&&nv g p t)))
def Lw(hm:Mx P){f3:Nat}(hr:il P g=some (46,Da f1 f2 f3,[.t 8]))(iS:s0 P f1)(jw:qx P f2)(pd:tq P f3):xB P g:=by
 intro g p u t;refine fY hr hm rfl fun hb=>?_;have hl:=uq hb.2.2.2.1;simp only[lM]at hl;simp+contextual-implicitDefEqProofs only[Da,eG,eS,go_sem,eI,eB];refine fL ?_ (iS g) ?_;exact rfl;cases hg:oC g;simp+contextual-implicitDefEqProofs only[iU,hg,bN,bG,go_sem,eB];simp+contextual-implicitDefEqProofs only[bT,go_sem,eB];refine fL ?_ (jw p 1 8) ?_;exact rfl;cases hp:kJ p 1 8;simp+contextual-implicitDefEqProofs only[iU,hg,hp,bN,bG,bJ,go_sem,eB];simp+contextual-implicitDefEqProofs only[bT,go_sem,eB];refine fL ?_ (pd u g.1 p) ?_;exact rfl;cases hu:j8 g.1 p u;simp+contextual-implicitDefEqProofs only[iU,hg,hp,hu,bN,bG,bJ,go_sem,eB];have hT:iU g p u=true:=by simp[iU,hg,hp,hu]
 cases h0:it g.2 t;have sF:=h0;simp only[it]at sF;simp+contextual-implicitDefEqProofs only[nv,hT,h0,sF,lM,bne,bT,bN,bG,bJ,go_sem,eB];have sF:=h0;simp only[it]at sF;simp+contextual-implicitDefEqProofs only[sF,lM,bne,bT,go_sem,eB];refine lv (α:=Nat) [8,10,36,37,38,39,40,41,42,43,44,45] (fun i=>[(36,.im none (.sc (.int .i64 i)))]) (fun i=>i≤t.2.length∧(t.2.take i).all (j8 p p)=true) (fun i=>t.2.length-i) 0 (by simp only[fR,go_sem];simp) ⟨aq _,rfl⟩ ?_;rintro i ⟨j1,j2⟩
 by_cases hi:i<t.2.length
 ·have e1:=ie (f:=eS 1 (eS 1 eB)) hi;simp+contextual-implicitDefEqProofs only[eS,e1,hi,iL,lM,iN,go_sem];refine fL ?_ (pd t.2[i] p p) ?_;exact rfl;cases hx:j8 p p t.2[i]
  ·simp+contextual-implicitDefEqProofs only[bN,go_sem,eB];exact D.Le.gH (by simp only[nv,hT,h0];rw[jG hi hx];rfl)
  simp+contextual-implicitDefEqProofs only[bT,go_sem,eB];rw[fQ (by omega) (by omega)];exact⟨i+1,⟨by omega,iw hi j2 hx⟩,by omega,gO.env (by simp only[fR,go_sem];simp)⟩
 simp+contextual-implicitDefEqProofs only[hi,iL,go_sem];exact D.Le.gH (by simp only[nv,hT,h0];rw[iW hi j2];rfl)
def Cp(f1 f2 f3 f4:Nat):RC:=(.s [.b 4 2 0,.v 8 .cf] (.seq (.s [.L 11 2 4,.c 12 f1 [.t 11],.o (.un 13 .not (.t 12)),.m 14 13,.u 14 (.mv 15 (.t 1)),.u 14 (.call (some 16) f2 [.t 15,.ci 1,.ci 8]),.u 14 (.un 17 .not (.t 16)),.o (.pick 18 (.t 14) .ct (.t 17)),.m 19 18,.u 19 (.mv 20 (.t 2)),.u 19 (.fa 21 0 (.t 4)),.u 19 (.ld 22 false 1 (.t 21)),.u 19 (.mv 23 (.t 1)),.u 19 (.call (some 24) f3 [.t 20,.t 22,.t 23]),.u 19 (.un 25 .not (.t 24)),.o (.pick 26 (.t 19) .ct (.t 25)),.m 27 26,.u 27 (.mv 28 (.t 3)),.u 27 (.len 29 (.t 28)),.u 27 (.fa 30 1 (.t 4)),.u 27 (.ld 31 false 1 (.t 30)),.u 27 (.bin 32 .neq (.t 29) (.t 31)),.o (.pick 33 (.t 27) .ct (.t 32))] (.cond (.t 33) (.s [.v 8 .cf] .ret) .skip)) (.seq (.s [.m 34 3,.o (.len 35 (.t 34)),.v 36 (.ci 0)] (.gX 0 (.loop (.s [.o (.bin 37 .lss (.t 36) (.t 35))] (.seq (.cond (.t 37) .skip (.exit 0)) (.seq (.gX 1 (.s [.o (.ia 38 1 (.t 34) (.t 36)),.l 39 1 38,.m 10 39] (.s [.m 40 10,.m 41 1,.m 42 1,.c 43 f4 [.t 40,.t 41,.t 42],.o (.un 44 .not (.t 43))] (.cond (.t 44) (.s [.v 8 .cf] .ret) .skip)))) (.r [.o (.bin 45 .add (.t 36) (.ci 1)),.m 36 45]))))))) (.s [.v 8 .ct] .ret))))
def wV(P:Program)(f:Nat):Prop:=∀(g:Int×Int)(p:Int)(u:SL (SL Bool))(t:SL (SL (SL Int))),AF P f [eG g,eI p,eS 1 (eS 1 eB) u,eS 1 (eS 1 (eS 1 eI)) t] (.own (eB (iU g p u&&nv g p t)))
def Nf(hm:Mx P){f3 f4:Nat}(hr:il P g=some (46,Cp f1 f2 f3 f4,[.t 8]))(iS:s0 P f1)(jw:qx P f2)(pd:tq P f3)(zd:xg P f4):wV P g:=by
 intro g p u t;refine fY hr hm rfl fun hb=>?_;have hl:=uq hb.2.2.2.1;simp only[lM]at hl;simp+contextual-implicitDefEqProofs only[Cp,eG,eS,go_sem,eI,eB];refine fL ?_ (iS g) ?_;exact rfl;cases hg:oC g;simp+contextual-implicitDefEqProofs only[iU,hg,bN,bG,go_sem,eB];simp+contextual-implicitDefEqProofs only[bT,go_sem,eB];refine fL ?_ (jw p 1 8) ?_;exact rfl;cases hp:kJ p 1 8;simp+contextual-implicitDefEqProofs only[iU,hg,hp,bN,bG,bJ,go_sem,eB];simp+contextual-implicitDefEqProofs only[bT,go_sem,eB];refine fL ?_ (pd u g.1 p) ?_;exact rfl;cases hu:j8 g.1 p u;simp+contextual-implicitDefEqProofs only[iU,hg,hp,hu,bN,bG,bJ,go_sem,eB];have hT:iU g p u=true:=by simp[iU,hg,hp,hu]
 cases h0:it g.2 t;have sF:=h0;simp only[it]at sF;simp+contextual-implicitDefEqProofs only[nv,hT,h0,sF,lM,bne,bT,bN,bG,bJ,go_sem,eB];have sF:=h0;simp only[it]at sF;simp+contextual-implicitDefEqProofs only[sF,lM,bne,bT,go_sem,eB];refine lv (α:=Nat) [8,10,36,37,38,39,40,41,42,43,44,45] (fun i=>[(36,.im none (.sc (.int .i64 i)))]) (fun i=>i≤t.2.length∧(t.2.take i).all (j8 p p)=true) (fun i=>t.2.length-i) 0 (by simp only[fR,go_sem];simp) ⟨aq _,rfl⟩ ?_;rintro i ⟨j1,j2⟩
 by_cases hi:i<t.2.length
 ·have e1:=ie (f:=eS 1 (eS 1 eI)) hi;simp+contextual-implicitDefEqProofs only[eS,e1,hi,iL,lM,iN,go_sem];refine fL ?_ (zd t.2[i] p p) ?_;exact rfl;cases hx:j8 p p t.2[i]
  ·simp+contextual-implicitDefEqProofs only[bN,go_sem,eB];exact D.Le.gH (by simp only[nv,hT,h0];rw[jG hi hx];rfl)
  simp+contextual-implicitDefEqProofs only[bT,go_sem,eB];rw[fQ (by omega) (by omega)];exact⟨i+1,⟨by omega,iw hi j2 hx⟩,by omega,gO.env (by simp only[fR,go_sem];simp)⟩
 simp+contextual-implicitDefEqProofs only[hi,iL,go_sem];exact D.Le.gH (by simp only[nv,hT,h0];rw[iW hi j2];rfl)
def wh(m:Mo):Bool:=iU m.1 m.2.1 m.2.2.1&&nv m.1 m.2.1 m.2.2.2
def yB(f1:Nat):RC:=(.s [.b 1 5 0,.v 2 .cf] (.s [.f 3 0 1,.L 4 2 3,.f 5 2 1,.l 6 1 5,.f 7 3 1,.l 8 1 7,.f 9 4 1,.l 10 1 9,.c 11 f1 [.t 4,.t 6,.t 8,.t 10],.m 2 11] .ret))
def tA(P:Program)(f:Nat):Prop:=∀(m:Mo),AF P f [eM m] (.own (eB (wh m)))
def Hs(hm:Mx P)(hr:il P g=some (12,yB f1,[.t 2]))(iS:xB P f1):tA P g:=by
 intro m;refine fY hr hm rfl fun hb=>?_;simp+contextual-implicitDefEqProofs only[yB,eM,eS,go_sem,eI,eB];refine fL ?_ (iS m.1 m.2.1 m.2.2.1 m.2.2.2) ?_;exact rfl;simp+contextual-implicitDefEqProofs only[wh,go_sem,eB]
set_option maxRecDepth 20000
set_option maxHeartbeats 4000000
def I9:RC:=(.s [.o (.mv 4 (.c (.ls (some true) 1 [])))] (.s [.o (.bs 9 1 (.ls (some true) 1 []) 0 []),.m 5 9] (.seq (.s [.m 10 0,.v 11 (.ci 0)] (.gX 0 (.loop (.s [.o (.bin 12 .lss (.t 11) (.t 10))] (.seq (.cond (.t 12) .skip (.exit 0)) (.seq (.gX 1 (.s [.m 13 11,.m 6 13] (.s [.o (.bs 14 1 (.sc (.bool false)) 0 []),.m 7 14] (.seq (.s [.m 15 0,.v 16 (.ci 0)] (.gX 2 (.loop (.s [.o (.bin 17 .lss (.t 16) (.t 15))] (.seq (.cond (.t 17) .skip (.exit 2)) (.seq (.gX 3 (.s [.m 18 16,.m 8 18] (.r [.m 19 7,.m 20 1,.m 21 6,.m 22 8,.o (.calv (some 23) (.t 20) [.t 21,.t 22]),.o (.bs 24 1 (.sc (.bool false)) 1 [(0,(.t 23))]),.o (.app 25 1 1 (.t 19) (.t 24)),.m 7 25]))) (.r [.o (.bin 26 .add (.t 16) (.ci 1)),.m 16 26]))))))) (.r [.m 27 5,.m 28 7,.o (.bs 29 1 (.ls (some true) 1 []) 1 [(0,(.t 28))]),.o (.app 30 1 24 (.t 27) (.t 29)),.m 5 30]))))) (.r [.o (.bin 31 .add (.t 11) (.ci 1)),.m 11 31]))))))) (.s [.m 32 5,.m 4 32] .ret))))
def u6(P:Program)(iV:Nat):Prop:=∀(n f:Nat)(Ic:List D)(g:Nat→Nat→Bool)(hn:n≤1000)(hf:∀x y:Nat,x<n→y<n→AF P f (eI x::eI y::Ic) (.own (eB (g x y)))),AF P iV [eI n,.fn f Ic] (.own (eS 1 (eS 1 eB) (some false,g7 n fun x=>(some false,g7 n (g x)))))
def U4(hm:Mx P)(hr:il P g=some (33,I9,[.t 4])):u6 P g:=by
 intro n f Ic g hn hf;refine fY hr hm rfl fun hb=>?_;simp+contextual-implicitDefEqProofs only[I9,go_sem,eI];refine gL (α:=Nat) [5,6,7,8,9,11,12,13,14,15,16,17,18,19,20,21,22,23,24,25,26,27,28,29,30,31] (fun i=>[(11,.im none (.sc (.int .i64 i))),(5,.sm 9 0 i)]) (fun i=>[(9,.ar true (some false) 1 (g7 i fun x=>eS 1 eB (some false,g7 n (g x))))]) (fun i=>i≤n) (fun i=>n-i) 0 (gO.to [] (by simp only[go_sem];rfl) rfl (by simp) rfl (by simp only[fR,go_sem,iD,iP];simp)) (aq _) ?_;intro i wd
 by_cases hi:i<n
 ·simp+contextual-implicitDefEqProofs only[hi,go_sem,iL];refine gL (α:=Nat) [7,8,14,16,17,18,19,20,21,22,23,24,25,26] (fun j=>[(16,.im none (.sc (.int .i64 j))),(7,.sm 14 0 j)]) (fun j=>[(14,.ar true (some false) 1 (g7 j fun y=>eB (g i y))),(9,.ar true (some false) 1 (g7 i fun x=>eS 1 eB (some false,g7 n (g x))))]) (fun j=>j≤n) (fun j=>n-j) 0 (gO.to [] (by simp only[go_sem];rfl) rfl (by simp) rfl (by simp only[fR,go_sem,iD,iP];simp)) (aq _) ?_;intro j Sg
  by_cases hj:j<n
  ·simp+contextual-implicitDefEqProofs only[hj,go_sem,eB,iL];refine fL (ds:=eI i::eI j::Ic) (by simp only[kI,AV.arg,xF];rfl) (hf i j hi hj) ?_;simp+contextual-implicitDefEqProofs only[g8,go_sem,eB,Nat.reduceMul];refine⟨rfl,⟨by omega,by unfold gz;omega,by simp[D.size]⟩,j+1,by omega,by omega,?_⟩;rw[fQ (by omega) (by omega)];exact gO.Eq (by simp only[lI]) (by simp only[fR,go_sem];simp)
  obtain rfl:j=n:=by omega
  simp+contextual-implicitDefEqProofs only[hj,g8,go_sem,eB,Nat.reduceMul,iL];refine⟨rfl,⟨by omega,by unfold gz;omega,by simp[D.size]⟩,i+1,by omega,by omega,?_⟩;rw[fQ (by omega) (by omega)];exact gO.Eq (by simp only[lI,eS,mj,eB]) (by simp only[fR,go_sem];simp)
 obtain rfl:i=n:=by omega
 simp+contextual-implicitDefEqProofs only[hi,g8,go_sem,iL];exact D.Le.of_eq (by simp only[eS,mj])
abbrev my:=Nat→Nat→Bool
def mK(n:Nat)(R:my):SL (SL Bool):=(some false,g7 n fun x=>(some false,g7 n (R x)))
def xa(n:Nat)(f:Nat→Bool):List D:=g7 n fun y=>.sc (.bool (f y))
def rD(n:Nat)(R:my):List D:=g7 n fun x=>.ls (some false) 1 (xa n (R x))
variable {n:Nat}{R:my}
def rf:eS 1 (eS 1 eB) (mK n R)=.ls (some false) 1 (rD n R):=by
 simp only[eS,mK,rD,xa,mj,eB]
def pG:(rD n R).length=n:=g8
variable {f:Nat→Bool}
def ph:(xa n f).length=n:=g8
variable {i:Nat}
def qY{α:Type}{g:Nat→α}{d:α}(h:i<n):(g7 n g).getD i d=g i:=by simp[g7,h]
variable {x:Nat}
def Cx(h:x<n):D.at (rD n R) x=.ls (some false) 1 (xa n (R x)):=qY h
variable {y:Nat}
def vC(h:y<n):D.at (xa n f) y=.sc (.bool (f y)):=qY h
def mC{α:Type}{f g:Nat→α}(h:∀i,i<n→f i=g i):g7 n f=g7 n g:=cA fun i hi=>h i (bK.1 hi)
def M5{g:Nat→Bool}(h:∀i,i<n→f i=g i):xa n f=xa n g:=mC fun i hi=>by rw[h i hi]
def xT{S:my}(h:∀x y,x<n→y<n→R x y=S x y):rD n R=rD n S:=mC fun x hx=>by rw[M5 fun y hy=>h x y hx hy]
def yJ{α:Type}{f:Nat→α}{v:α}:(g7 n f).set i v=g7 n fun k=>if k=i then v else f k:=by
 apply dD
 simp[g7];intro k h1 h2;simp[g7]at h1
 by_cases e:i=k;subst e;simp[g7];simp[g7,e,cU e]
def QG(R:my)(x y:Nat)(v:Bool):my:=fun a b=>if a=x∧b=y then v else R a b
def S6{v:Bool}:(rD n R).set x (.ls (some false) 1 ((xa n (R x)).set y (.sc (.bool v))))=rD n (QG R x y v):=by
 unfold rD xa;rw[yJ,yJ];refine mC fun a _=>?_
 by_cases ha:a=x
 ·subst ha;simp only[ay,QG];congr 1;refine mC fun b _=>?_
  by_cases hb:b=y;simp[hb];simp[hb]
 simp[ha,QG]
def setRow(R:my)(x:Nat)(f:Nat→Bool):my:=fun a b=>if a=x then f b else R a b
def U2:List.replicate n (D.sc (.bool false))=xa n fun _=>false:=by
 unfold xa g7
 apply dD
 simp;intro i h1 h2;simp
structure Sq (n:Nat) (a:SL (SL Bool)):Prop where
 len:a.2.length=n
 row:∀r∈a.2,r.2.length=n
def kD(a:SL (SL Bool)):my:=fun x y=>(a.2.getD x (none,[])).2.getD y false
variable {a:SL (SL Bool)}
def Sq.rows(h:Sq n a)(hx:x<n):(a.2.getD x (none,[])).2.length=n:=by
 have qR:x<a.2.length:=by rw[h.len];exact hx
 rw[show a.2.getD x (none,[])=a.2[x]by simp[qR]];exact h.row _ (aF qR)
def Hu:Sq n (mK n R):=⟨g8,fun r hr=>by
 obtain⟨x,_,rfl⟩:=aB.1 hr;exact g8⟩
def Aw(hx:x<n)(hy:y<n):kD (mK n R) x y=R x y:=by
 unfold kD mK;rw[qY hx,qY hy]
def Sq.at(h:Sq n a)(hx:x<n):D.at (a.2.map (eS 1 eB)) x=.ls (a.2.getD x (none,[])).1 1 ((a.2.getD x (none,[])).2.map eB):=by
 have qR:x<a.2.length:=by rw[h.len];exact hx
 rw[ie qR];simp[eS,qR]
def Sq.ND(h:Sq n a)(hx:x<n)(hy:y<n):D.at ((a.2.getD x (none,[])).2.map eB) y=.sc (.bool (kD a x y)):=by
 have Si:y<(a.2.getD x (none,[])).2.length:=by rw[h.rows hx];exact hy
 rw[ie Si]
 show D.sc (.bool _)=_
 unfold kD;congr 2;simp only[aE]at Si⊢;rw[bb Si]
 rfl
def EP(A B:my)(z x y:Nat):Bool:=(List.range z).any fun k=>A x k&&B k y
def rP(n:Nat)(A B:my):my:=EP A B n
variable {A B:my}
def v6{z:Nat}:EP A B (z+1) x y=(EP A B z x y||(A x z&&B z y)):=by simp[EP,fj]
def Nj{A' B':my}(h1:∀k,k<n→A x k=A' x k)(h2:∀k,k<n→B k y=B' k y):EP A B n x y=EP A' B' n x y:=by
 induction n with
 |zero=>rfl
 |succ n ih=>rw[v6,v6,ih (fun k hk=>h1 k (by omega)) (fun k hk=>h2 k (by omega)),h1 n (by omega),h2 n (by omega)]
def mT(A:my):Nat→my
 |0=>fun x y=>A x y||x==y
 |k+1=>fun x y=>mT A k x y||(mT A k x k&&mT A k k y)
def sn(n:Nat)(A:my):my:=mT A n
def zV:∀{k x:Nat},mT A k x x=true
 |0,x=>by simp[mT]
 |k+1,x=>by simp[mT,zV (k:=k)]
def F8:RC:=(.s [.o (.mv 2 (.c (.ls (some true) 1 [])))] (.s [.o (.bs 5 1 (.ls (some true) 1 []) 0 []),.m 3 5] (.seq (.s [.v 4 (.ci 0)] (.gX 0 (.loop (.seq (.s [.m 6 4,.m 7 0,.o (.bin 8 .lss (.t 6) (.t 7))] (.cond (.t 8) .skip (.exit 0))) (.seq (.gX 1 (.r [.m 11 3,.m 12 0,.o (.mk 13 1 1 (.sc (.bool false)) (.t 12) (.t 12)),.o (.bs 14 1 (.ls (some true) 1 []) 1 [(0,(.t 13))]),.o (.app 15 1 24 (.t 11) (.t 14)),.m 3 15])) (.r [.m 9 4,.o (.bin 10 .add (.t 9) (.ci 1)),.m 4 10])))))) (.s [.m 16 3,.m 2 16] .ret))))
def vw(P:Program)(iV:Nat):Prop:=∀(n:Nat)(hn:n≤1000),AF P iV [eI n] (.arr 1 (rD n fun _ _=>false))
def Pn(hm:Mx P)(hr:il P g=some (17,F8,[.t 2])):vw P g:=by
 intro n hn;refine fY hr hm rfl fun hb=>?_;simp+contextual-implicitDefEqProofs only[F8,go_sem,eI];refine gL (α:=Nat) [3,4,5,6,7,8,9,10,11,12,13,14,15] (fun i=>[(4,.im none (.sc (.int .i64 i))),(3,.sm 5 0 i)]) (fun i=>[(5,.ar true (some false) 1 (g7 i fun _=>.ls (some false) 1 (xa n fun _=>false)))]) (fun i=>i≤n) (fun i=>n-i) 0 (gO.to [] (by simp only[go_sem];rfl) rfl (by simp[su]) (by rfl) (by simp only[fR,go_sem,iD,iP]<;>simp)) (aq _) ?_;intro i wd
 by_cases hi:i<n
 ·simp+contextual-implicitDefEqProofs only[hi,g8,go_sem,Nat.reduceMul,iL,iN];refine⟨⟨by omega,by omega,by omega⟩,rfl,by simp,⟨by omega,by unfold gz;omega,by simp[D.size]⟩,i+1,by omega,by omega,?_⟩;rw[fQ (by omega) (by omega)];exact gO.to [] (by simp only[go_sem];rfl) rfl (by simp[lI,U2]) (by rfl) (by simp only[fR,go_sem]<;>simp)
 obtain rfl:i=n:=by omega
 simp+contextual-implicitDefEqProofs only[hi,pG,go_sem,iL]
 rfl
def Sq.Id{x:Nat}(h:Sq n a)(hx:x<n):(a.2.getD x (none,[])).2.map eB=xa n (kD a x):=by
 have hr:=h.rows hx;have h3:=fun i hi=>h.ND (x:=x) (y:=i) hx hi;unfold kD at h3⊢;generalize (a.2.getD x (none,[])).2=r at hr h3⊢
 apply dD
 ·rw[lM,hr,ph]
 intro i h1 h2;rw[lM,hr]at h1;have h3:=h3 i h1;rw[ie (by omega)]at h3;rw[List.getElem_map,h3];simp[xa,g7]
def RA{z:Nat}(hz:z<n)(h1:A x z=true)(h2:B z y=true):EP A B n x y=true:=by
 simp only[EP,dw,bK];exact⟨z,hz,by simp[h1,h2]⟩
def Bf:RC:=(.s [.v 6 .cf] (.seq (.s [.l 8 1 2,.o (.len 9 (.t 8)),.v 10 (.ci 0)] (.gX 0 (.loop (.s [.o (.bin 11 .lss (.t 10) (.t 9))] (.seq (.cond (.t 11) .skip (.exit 0)) (.seq (.gX 1 (.s [.m 12 10,.m 7 12] (.s [.l 13 1 3,.m 14 0,.o (.ia 15 1 (.t 13) (.t 14)),.l 16 1 15,.m 17 7,.o (.ia 18 1 (.t 16) (.t 17)),.l 19 1 18,.m 20 19,.w 20 (.ld 21 false 1 (.t 2)),.wm 20 22 7,.w 20 (.ia 23 1 (.t 21) (.t 22)),.w 20 (.ld 24 false 1 (.t 23)),.wm 20 25 1,.w 20 (.ia 26 1 (.t 24) (.t 25)),.w 20 (.ld 27 false 1 (.t 26)),.k 28 20 27] (.cond (.t 28) (.s [.v 6 .ct] .ret) .skip)))) (.r [.o (.bin 29 .add (.t 10) (.ci 1)),.m 10 29]))))))) (.s [.v 6 .cf] .ret)))
def uY(P:Program)(iV:Nat):Prop:=∀(n:Nat)(a b:SL (SL Bool))(x y:Nat)(hn:n≤1000)(ha:Sq n a)(qM:Sq n b)(hx:x<n)(hy:y<n),AF P iV [eI x,eI y,.pt (eS 1 (eS 1 eB) b) 0,.pt (eS 1 (eS 1 eB) a) 0] (.own (eB (rP n (kD a) (kD b) x y)))
def KA(hm:Mx P)(hr:il P g=some (30,Bf,[.t 6])):uY P g:=by
 intro n a b x y hn ha qM hx hy;refine fY hr hm rfl fun hb=>?_;have la:=ha.len;have lb:=qM.len;have ax:=ha.at hx;have rx:=ha.rows hx;simp+contextual-implicitDefEqProofs only[Bf,eS,lb,go_sem,eI,eB,lM];refine gL (α:=Nat) [6,7,10,11,12,13,14,15,16,17,18,19,20,21,22,23,24,25,26,27,28,29] (fun z=>[(10,.im none (.sc (.int .i64 z)))]) (fun z=>[]) (fun z=>z≤n∧EP (kD a) (kD b) z x y=false) (fun z=>n-z) 0 (gO.to [] (by simp only[go_sem];rfl) rfl (by simp) (by rfl) (by simp only[fR,go_sem,iD,iP]<;>simp)) ⟨aq _,rfl⟩ ?_;rintro z ⟨HV,OQ⟩
 by_cases hz:z<n
 ·have az:=ha.ND hx hz;have bz:=qM.at hz;have by_:=qM.ND hz hy;have rz:=qM.rows hz;cases h1:kD a x z
  ·rw[h1]at az;simp+contextual-implicitDefEqProofs only[ax,az,hz,hx,la,rx,D.size,D.sub,go_sem,iL,lM,iN];rw[fQ (by omega) (by omega)];exact⟨z+1,⟨by omega,by rw[v6,OQ,h1];rfl⟩,by omega,gO.to [] (by simp only[go_sem];rfl) rfl (by simp) (by rfl) (by simp only[fR,go_sem]<;>simp)⟩
  rw[h1]at az;cases h2:kD b z y
  ·rw[h2]at by_;simp+contextual-implicitDefEqProofs only[ax,az,bz,by_,hz,hx,hy,la,lb,rx,rz,D.size,D.sub,go_sem,iL,lM,iN];rw[fQ (by omega) (by omega)];exact⟨z+1,⟨by omega,by rw[v6,OQ,h1,h2];rfl⟩,by omega,gO.to [] (by simp only[go_sem];rfl) rfl (by simp) (by rfl) (by simp only[fR,go_sem]<;>simp)⟩
  rw[h2]at by_;simp+contextual-implicitDefEqProofs only[ax,az,bz,by_,hz,hx,hy,la,lb,rx,rz,D.size,D.sub,go_sem,iL,lM,iN];exact D.Le.gH (by unfold rP;rw[RA hz h1 h2])
 obtain rfl:z=n:=by omega
 simp+contextual-implicitDefEqProofs only[hz,go_sem,iL];exact D.Le.gH (by unfold rP;rw[OQ])
def CP(f1 f2:Nat):RC:=(.s [.b 2 1 0,.b 3 1 1,.o (.mv 4 (.c (.ls (some true) 1 [])))] (.s [.l 5 1 2,.o (.len 6 (.t 5)),.o (.mkf 7 f2 [.t 3,.t 2]),.c 8 f1 [.t 6,.t 7],.m 4 8] .ret))
def ti(P:Program)(iV:Nat):Prop:=∀(n:Nat)(a b:SL (SL Bool))(hn:n≤1000)(ha:Sq n a)(qM:Sq n b),AF P iV [eS 1 (eS 1 eB) a,eS 1 (eS 1 eB) b] (.own (eS 1 (eS 1 eB) (mK n (rP n (kD a) (kD b)))))
def LE(hm:Mx P)(hr:il P g=some (9,CP f1 f2,[.t 4]))(iS:u6 P f1)(jw:uY P f2):ti P g:=by
 intro n a b hn ha qM;refine fY hr hm rfl fun hb=>?_;have la:=ha.len;simp+contextual-implicitDefEqProofs only[CP,eS,D.at,D.sub,la,go_sem,lM];refine fL (ds:=[eI n,.fn f2 [.pt (eS 1 (eS 1 eB) b) 0,.pt (eS 1 (eS 1 eB) a) 0]]) (by rfl) (iS n f2 _ (rP n (kD a) (kD b)) hn (fun x y hx hy=>jw n a b x y hn ha qM hx hy)) ?_;simp+contextual-implicitDefEqProofs only[eS,mK,go_sem]
def orB(a:Int)(i:Nat):Int:=IntKind.i64.wrap (BitVec.ofInt 64 a|||BitVec.ofInt 64 (IntKind.i64.wrap (2 ^ min i 64))).toNat
def pJ(rows:List (SL Bool))(x:Nat):Nat→Int
 |0=>0
 |i+1=>if(rows.getD i default).2.getD x false=true then orB (pJ rows x i) i else pJ rows x i
def Ja{x:Int}(h1:0≤x)(h2:x≤9223372036854775807):IntKind.u64.wrap x=x:=by
 simp[IntKind.wrap,IntKind.bits,IntKind.signed];omega
variable {m:Mo}
def V5(h:wh m=true):1≤m.2.1∧m.2.1≤8:=by
 simp only[wh,iU,bA,kJ,a7]at h;exact h.1.2.1
mutual
def rK:Ex→Ex
 |.mk k n _ ks=>.mk k n (wj ks) (ZX ks)
def ZX:List Ex→List Ex
 | []=>[]
 |e::es=>rK e::ZX es
end
def N1:∀ks:List Ex,ZX ks=ks.map rK
 | []=>rfl
 |e::es=>by simp only[ZX,lC,N1 es]
variable {k:Int}{ks:List Ex}{nn:Option Bool}
def Af{n:Int}:rK (.mk k n nn ks)=.mk k n (wj ks) (ks.map rK):=by rw[rK];simp only[N1]
def Ke(g:Nat):RC:=(.s [.o (.zer 2 3 .ze)] (.seq (.jI true [.m 5 0,.n 6 5,.f 7 0 6,.l 8 1 7,.m 9 0,.n 10 9,.f 11 1 10,.l 12 1 11,.o (.bld 13 .ze [(0,1,(.t 8)),(1,1,(.t 12))]),.o (.zer 3 3 .ze),.s 3 3 13]) (.seq (.s [.v 4 (.ci 0)] (.gX 0 (.loop (.seq (.s [.m 14 4,.m 15 0,.n 16 15,.f 17 2 16,.l 18 1 17,.o (.len 19 (.t 18)),.o (.bin 20 .lss (.t 14) (.t 19))] (.cond (.t 20) .skip (.exit 0))) (.seq (.gX 1 (.jI true [.f 23 2 3,.l 24 1 23,.m 25 0,.n 26 25,.f 27 2 26,.l 28 1 27,.m 29 4,.o (.ia 30 3 (.t 28) (.t 29)),.c 31 g [.t 30],.o (.bs 32 3 .ze 1 [(0,(.t 31))]),.o (.app 33 3 40 (.t 24) (.t 32)),.f 34 2 3,.s 1 34 33])) (.r [.m 21 4,.o (.bin 22 .add (.t 21) (.ci 1)),.m 4 22])))))) (.s [.L 35 3 3,.s 3 2 35] .ret))))
def rY(P:Program)(iV:Nat):Prop:=∀(e:Ex)(hf0:By e),AF P iV [.pt (eE e) 0] (.own (eE (rK e)))
def Tl(hm:Mx P)(hr:il P g=some (36,Ke g,[.c 2 3 true])):rY P g:=by
 intro e hf0;refine Ex.ind (p:=fun e=>By e→AF P g [.pt (eE e) 0] (.own (eE (rK e)))) (fun k n nn ks ih hf=>?_) e hf0;rw[vA]at hf;rw[gM,Af,gM];refine fY hr hm rfl fun hb=>?_;have hl:ks.length≤9223372036854775807:=by
  have:=hb.1;simp only[D.bd,D.ub,lM,gz]at this;exact this.2.2.1.1
 simp+contextual-implicitDefEqProofs only[Ke,D.put,D.cells,D.size,D.fS,D.at,D.sub,D.fX,fU,fO,go_sem,Nat.reduceSub];refine gL (α:=Nat) [4,14,15,16,17,18,19,20,21,22,23,24,25,26,27,28,29,30,31,32,33,34] (fun i=>[(4,.im none (.sc (.int .i64 i)))]) (fun i=>[(3,.ar true (some false) 3 [.ag [.sc (.int .i64 k),.sc (.int .i64 n),.ls (wj (ks.take i)) 3 (((ks.take i).map rK).map eE)]]),(2,.ar true (some false) 3 [.ag [.sc (.int .i64 0),.sc (.int .i64 0),.ls (some true) 3 []]])]) (fun i=>i≤ks.length) (fun i=>ks.length-i) 0 (gO.to [] (by simp only[go_sem];rfl) rfl (by simp[wj]) (by rfl) (by simp only[fR,go_sem,iD,iP];simp)) (aq _) ?_;intro i wd
 by_cases hi:i<ks.length
 ·have e1:=ie (f:=eE) hi;have hlen:((ks.take i).map (fun x=>eE (rK x))).length=i:=by simp;omega
  simp+contextual-implicitDefEqProofs only[hi,e1,go_sem,iL,lM,iN];refine fL ?_ (ih ks[i] (aF hi) (hf.2 _ (aF hi))) ?_;exact rfl;simp+contextual-implicitDefEqProofs only[gf,go_sem,Nat.reduceMul,lM];have Ek:(ks.take i).length=i:=by simp;omega
  refine⟨rfl,⟨by omega,by unfold gz;omega,by simp[gf]⟩,i+1,by omega,by omega,?_⟩;rw[fQ (by omega) (by omega)];exact gO.to [] (by simp only[go_sem];rfl) rfl (by simp[uv hi,qG hi,bQ]) (by rfl) (by simp only[fR,go_sem];simp)
 simp+contextual-implicitDefEqProofs only[hi,go_sem,iL,lM];rw[b9 (by omega)];exact D.Le.refl _
abbrev Wd:=SL Int×SL (SL Int)
abbrev Wo:=SL Int×SL Int
def xw(v:Wo):D:=.ag [eS 1 eI v.1,eS 1 eI v.2]
def qT(lo hi:Int)(l:List Int):Bool:=l.all fun x=>kJ x lo hi
def agx(n:Int)(r:SL Int):Bool:=it n r&&qT (-1) (n-1) r.2
def iY(g:Int×Int):Int:=2 ^ g.1.toNat
def okW(g:Int×Int)(w:Wd):Bool:=kJ w.1.2.length 1 12&&(qT 0 (iY g-1) w.1.2&&(it g.2 w.2&&w.2.2.all (agx w.1.2.length)))
def lh{g:Int×Int}(h:oC g=true):(0≤g.1∧g.1≤3)∧0≤g.2∧g.2≤4:=by simpa[oC,kJ]using h
def Ro{n:Int}(h1:0≤n)(h2:n≤3):IntKind.i64.wrap (1*2 ^ min n.toNat 64)=2 ^ n.toNat:=by
 have:n=0∨n=1∨n=2∨n=3:=by omega
 rcases this with rfl|rfl|rfl|rfl<;>decide
def Dm{g:Int×Int}(h:oC g=true):1≤iY g∧iY g≤8:=by
 have h:=(lh h).1;have:g.1=0∨g.1=1∨g.1=2∨g.1=3:=by omega
 unfold iY;rcases this with e|e|e|e<;>rw[e]<;>decide
def Cn:RC:=(.s [.b 1 2 0,.v 2 (.ci 0)] (.s [.f 3 0 1,.l 4 1 3,.o (.cvt 5 .u64 (.t 4)),.o (.bin 6 .shl (.ci 1) (.t 5)),.m 2 6] .ret))
def qA(P:Program)(f:Nat):Prop:=∀(g:Int×Int)(h:oC g=true),AF P f [eG g] (.own (eI (iY g)))
def M3(hm:Mx P)(hr:il P g=some (7,Cn,[.t 2])):qA P g:=by
 intro g h;refine fY hr hm rfl fun hb=>?_;simp+contextual-implicitDefEqProofs only[Cn,eG,go_sem,eI];have h:=(lh h).1;refine D.Le.gH ?_;rw[show IntKind.u64.wrap g.1=g.1 by simp[IntKind.wrap,IntKind.bits,IntKind.signed];omega,Ro h.1 h.2]
 rfl
def Zl{α:Type}{l:List α}{d:α}(h:i<l.length):l.getD i d=l[i]:=by simp[h]
def lz{α:Type}{f:α→D}{l:List α}{d:α}(h:i<l.length):D.at (l.map f) i=f (l.getD i d):=by rw[ie h,Zl h]
def xb(m:Mo)(v:Int)(x:Nat):Bool:=(m.2.2.1.2.getD v.toNat (none,[])).2.getD x false
def tN(m:Mo)(v:Int):SL (SL Bool):=m.2.2.2.2.getD v.toNat (none,[])
def tK(f:Nat→Bool):my:=fun x y=>x==y&&f x
def rZ:my:=fun _ _=>false
def jg(m:Mo)(k v:Int)(rs:List my):my:=
 if k=2 then tK fun _=>true
 else if k=3 then tK (xb m v)
 else if k=4 then kD (tN m v)
 else if k=5 then tK fun x=>!(rs.getD 0 rZ x x)
 else if k=6 then fun x y=>rs.getD 0 rZ x y||rs.getD 1 rZ x y
 else if k=7 then rP m.2.1.toNat (rs.getD 0 rZ) (rs.getD 1 rZ)
 else if k=8 then sn m.2.1.toNat (rs.getD 0 rZ)
 else rZ
mutual
def gS(m:Mo):Ex→my
 |.mk k v _ ks=>jg m k v (OI m ks)
def OI(m:Mo):List Ex→List my
 | []=>[]
 |e::es=>gS m e::OI m es
end
def E6:∀{ks:List Ex},OI m ks=ks.map (gS m)
 | []=>rfl
 |e::es=>by simp only[OI,lC,E6 (ks:=es)]
variable {v:Int}
def mE:gS m (.mk k v nn ks)=jg m k v (ks.map (gS m)):=by rw[gS,E6]
structure we (m:Mo) (n:Nat):Prop where
 Cf:m.2.1=(n:Int)
 n1:1≤n
 n8:n≤8
 g:oC m.1=true
 tl:(m.2.2.1.2.length:Int)=m.1.1
 tr:∀r∈m.2.2.1.2,r.2.length=n
 al:(m.2.2.2.2.length:Int)=m.1.2
 asq:∀a∈m.2.2.2.2,Sq n a
def jz{x lo hi:Int}:kJ x lo hi=true↔lo≤x∧x≤hi:=by simp[kJ]
def G9(h:wh m=true):∃n,we m n:=by
 have hp:=V5 h;simp only[wh,iU,nv,j8,bA,aM,it,aU]at h;obtain⟨⟨hg,_,ht,htr⟩,ha,Sj⟩:=h;exact⟨m.2.1.toNat,by omega,by omega,by omega,hg,ht,fun r hr=>by have:=htr r hr;omega,ha,fun a hx=>⟨by have:=(Sj a hx).1;omega,fun r hr=>by have:=(Sj a hx).2 r hr;omega⟩⟩
def oR{x:Int}(h0:0≤x)(h:x.toNat<n):x<(n:Int):=by omega
def ji{α:Type}{l:List α}{d:α}(h:i<l.length):l.getD i d∈l:=by simp[h]
inductive D9 (m:Mo) (k v:Int) (ks:List Ex):Prop
 |zero (h:k=1) (hk:ks=[])
 |one (h:k=2) (hk:ks=[])
 |test (h:k=3) (hk:ks=[]) (h0:0≤v) (h1:v.toNat<m.2.2.1.2.length)
 |act (h:k=4) (hk:ks=[]) (h0:0≤v) (h1:v.toNat<m.2.2.2.2.length)
 |nt (h:k=5) (a:Ex) (hk:ks=[a])
 |sum (h:k=6) (a b:Ex) (hk:ks=[a,b])
 |dot (h:k=7) (a b:Ex) (hk:ks=[a,b])
 |star (h:k=8) (a:Ex) (hk:ks=[a])
def x5(hM:we m n)(h:gE m.1 k v ks=true):D9 m k v ks:=by
 have hg:=hM.g;have tl:=hM.tl;have al:=hM.al;simp only[oC,bA,jz]at hg;have hw1:IntKind.i64.wrap (m.1.1-1)=m.1.1-1:=fQ (by omega) (by omega);have hw2:IntKind.i64.wrap (m.1.2-1)=m.1.2-1:=fQ (by omega) (by omega);simp only[gE,bA,aU,hw1,hw2]at h;obtain⟨hk,hv⟩:=h;unfold jU at hk;have e0:∀{l:List Ex},(0:Int)=l.length→l=[]:=fun h=>dp (by omega);have e1:∀{l:List Ex},(1:Int)=l.length→∃a,l=[a]:=fun {l} h=>by
  match l,h with
  | [a],_=>exact⟨a,rfl⟩
  | [],h=>simp at h
  |_::_::_,h=>simp at h;omega
 have e2:∀{l:List Ex},(2:Int)=l.length→∃a b,l=[a,b]:=fun {l} h=>by
  match l,h with
  | [a,b],_=>exact⟨a,b,rfl⟩
  | [],h=>simp at h
  | [_],h=>simp at h
  |_::_::_::_,h=>simp at h;omega
 by_cases h1:k=1;subst h1;exact .zero rfl (e0 (by simpa using hk))
 by_cases h2:k=2;subst h2;exact .one rfl (e0 (by simpa using hk))
 by_cases h3:k=3;subst h3;rw[af rfl,jz]at hv;exact .test rfl (e0 (by simpa using hk)) hv.1 (by omega)
 by_cases h4:k=4;subst h4;rw[ae (by omega),af rfl,jz]at hv;exact .act rfl (e0 (by simpa using hk)) hv.1 (by omega)
 by_cases h5:k=5;subst h5;obtain⟨a,hk⟩:=e1 (by simpa using hk);exact .nt rfl a hk
 by_cases h6:k=6;subst h6;obtain⟨a,b,hk⟩:=e2 (by simpa using hk);exact .sum rfl a b hk
 by_cases h7:k=7;subst h7;obtain⟨a,b,hk⟩:=e2 (by simpa using hk);exact .dot rfl a b hk
 by_cases h8:k=8;subst h8;obtain⟨a,hk⟩:=e1 (by simpa using hk);exact .star rfl a hk
 simp[h1,h2,h3,h4,h5,h6,h7,h8]at hk
def G5(R:my)(i:Nat):my:=fun a b=>decide (a<i)&&R a b
def PE:G5 R 0=rZ:=by funext a b;simp[G5,rZ]
def PG:rD n (G5 R n)=rD n R:=xT fun a b ha _=>by simp[G5,ha]
def wE(R:my)(i y:Nat):my:=fun a b=>if a=i∧b<y then R a b else G5 R i a b
def LX:wE R i 0=G5 R i:=by funext a b;simp[wE]
def L9:rD n (wE R i n)=rD n (G5 R (i+1)):=xT fun a b _ hb=>by
 unfold wE G5
 by_cases ha:a=i;subst ha;simp[hb]
 simp[ha,show decide (a<i+1)=decide (a<i)by rw[decide_eq_decide];omega]
def Mw:QG (wE R i y) i y (R i y)=wE R i (y+1):=by
 funext a b;unfold QG wE
 by_cases ha:a=i
 ·subst ha
  by_cases hb:b=y;subst hb;simp
  by_cases qM:b<y
  ·simp[hb,qM,show b<y+1 by omega]
  simp[hb,qM,show ¬b<y+1 by omega]
 simp[ha]
def Uy:(fun _ _=>false:my)=rZ:=rfl
def TO:rD n (rP n (kD (mK n A)) (kD (mK n B)))=rD n (rP n A B):=xT fun _ _ hx hy=>Nj (fun _ hk=>Aw hx hk) (fun _ hk=>Aw hk hy)
def UI{f:Nat}(h:ti P f)(hn:n≤1000):AF P f [.ls (some false) 1 (rD n A),.ls (some false) 1 (rD n B)] (.own (.ls (some false) 1 (rD n (rP n A B)))):=by
 have:=h n (mK n A) (mK n B) hn Hu Hu;rw[rf,rf,rf]at this;rw[TO]at this;exact this
def eT(s:ByteArray):D:=.sc (.string s)
def d1(n:Nat):ByteArray:=⟨#[UInt8.ofNat (48+n)]⟩
def xV(n:Nat):ByteArray:=if n<10 then d1 n else d1 (n / 10)++d1 (n % 10)
def yR{a:Array UInt8}:(ByteArray.mk a).size=a.size:=rfl
def vG:(xV n).size≤2:=by
 unfold xV d1
 split<;>simp only[cX,yR,bB,lK,lZ]<;>omega
def Zp:(d1 n).size=1:=rfl
def OB(h:n<10):xV n=d1 n:=by simp[xV,h]
def X9(h:¬n<10):xV n=d1 (n / 10)++d1 (n % 10):=by simp[xV,h]
def ahA(h:n<10):IntKind.u8.wrap (IntKind.i64.wrap (48+(n:Int)))=((48+n:Nat):Int):=by
 rw[fQ (by omega) (by omega)];unfold IntKind.wrap;simp[IntKind.signed,IntKind.bits];omega
def up(g:Nat):RC:=(.s [⟨none,.mv 2 (.c (.sc (.string ⟨#[]⟩)))⟩] (.seq (.s [.m 3 0,.o (.bin 4 .geq (.t 3) (.ci 10))] (.cond (.t 4) (.seq (.jI true [.m 5 0,.o (.bin 6 .quo (.t 5) (.ci 10)),.c 7 g [.t 6],.m 8 0,.o (.bin 9 .rem (.t 8) (.ci 10)),.o (.bin 10 .add (.ci 48) (.t 9)),.o (.cvt 11 .u8 (.t 10)),.o (.bs 12 1 (.sc (.int .u8 0)) 1 [(0,(.t 11))]),.o (.cvs 13 (.t 12)),.o (.bin 14 .add (.t 7) (.t 13)),.m 2 14]) .ret) .skip)) (.s [.m 15 0,.o (.bin 16 .add (.ci 48) (.t 15)),.o (.cvt 17 .u8 (.t 16)),.o (.bs 18 1 (.sc (.int .u8 0)) 1 [(0,(.t 17))]),.o (.cvs 19 (.t 18)),.m 2 19] .ret)))
def ur(P:Program)(iV:Nat):Prop:=∀(n:Nat)(hn:n<100),AF P iV [eI n] (.own (eT (xV n)))
def IS(hm:Mx P)(hr:il P g=some (20,up g,[.t 2])):ur P g:=by
 intro n hn;have h10:∀n:Nat,n<10→AF P g [eI n] (.own (eT (xV n))):=by
  intro n hn;refine fY hr hm rfl fun hb=>?_;have hd:¬((n:Int)≥10):=by omega
  simp+contextual-implicitDefEqProofs only[up,eI,eT,hd,D.size,go_sem,Nat.reduceMul];refine⟨by decide,D.Le.gH ?_⟩;rw[ahA hn,OB hn]
  rfl
 by_cases hd:n<10;exact h10 n hd
 refine fY hr hm rfl fun hb=>?_;have hd':(n:Int)≥10:=by omega
 simp+contextual-implicitDefEqProofs only[up,eI,eT,hd',go_sem];have q1:IntKind.i64.wrap ((n:Int).tdiv 10)=((n / 10:Nat):Int):=by rw[Int.tdiv_eq_ediv_of_nonneg (by omega),fQ (by omega) (by omega)];omega
 have q2:(n:Int).tmod 10=((n % 10:Nat):Int):=by rw[Int.tmod_eq_emod_of_nonneg (by omega)];omega
 rw[q1];refine⟨by omega,fL (ds:=[eI ((n / 10:Nat):Int)]) (by rfl) (h10 (n / 10) (by omega)) ?_⟩;simp+contextual-implicitDefEqProofs only[eT,q2,OB (show n / 10<10 by omega),D.size,go_sem,Nat.reduceMul];refine⟨by omega,by decide,⟨by rw[Zp];exact(by omega:1+1≤9223372036854775807),D.Le.gH ?_⟩⟩;rw[ahA (by omega),X9 hd]
 rfl
def b1(b:Bool):ByteArray:=if b then⟨#[49]⟩else⟨#[48]⟩
def iX(k v:Int)(ts:List ByteArray):ByteArray:=
 if k=1 then⟨#[48]⟩else if k=2 then⟨#[49]⟩else if k=3 then⟨#[116]⟩++xV v.toNat else if k=4 then⟨#[97]⟩++xV v.toNat
 else if k=5 then⟨#[126]⟩++ts.getD 0 ⟨#[]⟩else if k=6 then⟨#[40]⟩++ts.getD 0 ⟨#[]⟩++⟨#[32,43,32]⟩++ts.getD 1 ⟨#[]⟩++⟨#[41]⟩
 else if k=7 then⟨#[40]⟩++ts.getD 0 ⟨#[]⟩++⟨#[32]⟩++ts.getD 1 ⟨#[]⟩++⟨#[41]⟩else ts.getD 0 ⟨#[]⟩++⟨#[42]⟩
mutual
def iM:Ex→ByteArray
 |.mk k v _ ks=>iX k v (HP ks)
def HP:List Ex→List ByteArray
 | []=>[]
 |e::es=>iM e::HP es
end
def Dg:∀{ks:List Ex},HP ks=ks.map iM
 | []=>rfl
 |e::es=>by rw[HP,Dg];rfl
def JF:iM (.mk k v nn ks)=iX k v (ks.map iM):=by rw[iM,Dg]
inductive akE (k v:Int) (ks:List Ex):Prop
 |zero (h:k=1) (hk:ks=[])
 |one (h:k=2) (hk:ks=[])
 |test (h:k=3) (hk:ks=[]) (n:Nat) (hv:v=n) (hn:n<100)
 |act (h:k=4) (hk:ks=[]) (n:Nat) (hv:v=n) (hn:n<100)
 |nt (h:k=5) (a:Ex) (hk:ks=[a])
 |sum (h:k=6) (a b:Ex) (hk:ks=[a,b])
 |dot (h:k=7) (a b:Ex) (hk:ks=[a,b])
 |star (h:k=8) (a:Ex) (hk:ks=[a])
def DZ{g:Int×Int}(hg:oC g=true)(h:gE g k v ks=true):akE k v ks:=by
 simp only[oC,bA,jz]at hg;have hw1:IntKind.i64.wrap (g.1-1)=g.1-1:=fQ (by omega) (by omega);have hw2:IntKind.i64.wrap (g.2-1)=g.2-1:=fQ (by omega) (by omega);simp only[gE,bA,aU,hw1,hw2]at h;obtain⟨hk,hv⟩:=h;unfold jU at hk;have e0:∀{l:List Ex},(0:Int)=l.length→l=[]:=fun h=>dp (by omega);have e1:∀{l:List Ex},(1:Int)=l.length→∃a,l=[a]:=fun {l} h=>by
  match l,h with
  | [a],_=>exact⟨a,rfl⟩
  | [],h=>simp at h
  |_::_::_,h=>simp at h;omega
 have e2:∀{l:List Ex},(2:Int)=l.length→∃a b,l=[a,b]:=fun {l} h=>by
  match l,h with
  | [a,b],_=>exact⟨a,b,rfl⟩
  | [],h=>simp at h
  | [_],h=>simp at h
  |_::_::_::_,h=>simp at h;omega
 by_cases h1:k=1;subst h1;exact .zero rfl (e0 (by simpa using hk))
 by_cases h2:k=2;subst h2;exact .one rfl (e0 (by simpa using hk))
 by_cases h3:k=3;subst h3;rw[af rfl,jz]at hv;exact .test rfl (e0 (by simpa using hk)) v.toNat (by omega) (by omega)
 by_cases h4:k=4;subst h4;rw[ae (by omega),af rfl,jz]at hv;exact .act rfl (e0 (by simpa using hk)) v.toNat (by omega) (by omega)
 by_cases h5:k=5;subst h5;obtain⟨a,hk⟩:=e1 (by simpa using hk);exact .nt rfl a hk
 by_cases h6:k=6;subst h6;obtain⟨a,b,hk⟩:=e2 (by simpa using hk);exact .sum rfl a b hk
 by_cases h7:k=7;subst h7;obtain⟨a,b,hk⟩:=e2 (by simpa using hk);exact .dot rfl a b hk
 by_cases h8:k=8;subst h8;obtain⟨a,hk⟩:=e1 (by simpa using hk);exact .star rfl a hk
 exact absurd hk (by simp[h1,h2,h3,h4,h5,h6,h7,h8])
def mA(g f1:Nat):RC:=(.s [⟨none,.mv 2 (.c (.sc (.string ⟨#[]⟩)))⟩] (.seq (.s [.m 3 0,.n 4 3,.f 5 0 4,.l 6 1 5] (.gX 0 (.s [.q 8 6 1,.m 7 8] (.cond (.t 7) (.s [⟨none,.mv 2 (.c (.sc (.string ⟨#[48]⟩)))⟩] .ret) (.s [.q 10 6 2,.m 9 10] (.cond (.t 9) (.s [⟨none,.mv 2 (.c (.sc (.string ⟨#[49]⟩)))⟩] .ret) (.s [.q 12 6 3,.m 11 12] (.cond (.t 11) (.s [.m 13 0,.n 14 13,.f 15 1 14,.l 16 1 15,.c 17 f1 [.t 16],⟨none,.bin 18 .add (.c (.sc (.string ⟨#[116]⟩))) (.t 17)⟩,.m 2 18] .ret) (.s [.q 20 6 4,.m 19 20] (.cond (.t 19) (.s [.m 21 0,.n 22 21,.f 23 1 22,.l 24 1 23,.c 25 f1 [.t 24],⟨none,.bin 26 .add (.c (.sc (.string ⟨#[97]⟩))) (.t 25)⟩,.m 2 26] .ret) (.s [.q 28 6 5,.m 27 28] (.cond (.t 27) (.s [.m 29 0,.n 30 29,.f 31 2 30,.l 32 1 31,.i 33 3 32 0,.c 34 g [.t 33],⟨none,.bin 35 .add (.c (.sc (.string ⟨#[126]⟩))) (.t 34)⟩,.m 2 35] .ret) (.s [.q 37 6 6,.m 36 37] (.cond (.t 36) (.seq (.jI true [.m 38 0,.n 39 38,.f 40 2 39,.l 41 1 40,.i 42 3 41 0,.c 43 g [.t 42],⟨none,.bin 44 .add (.c (.sc (.string ⟨#[40]⟩))) (.t 43)⟩,⟨none,.bin 45 .add (.t 44) (.c (.sc (.string ⟨#[32,43,32]⟩)))⟩,.m 46 0,.n 47 46,.f 48 2 47,.l 49 1 48,.i 50 3 49 1,.c 51 g [.t 50],.o (.bin 52 .add (.t 45) (.t 51)),⟨none,.bin 53 .add (.t 52) (.c (.sc (.string ⟨#[41]⟩)))⟩,.m 2 53]) .ret) (.s [.q 55 6 7,.m 54 55] (.cond (.t 54) (.seq (.jI true [.m 56 0,.n 57 56,.f 58 2 57,.l 59 1 58,.i 60 3 59 0,.c 61 g [.t 60],⟨none,.bin 62 .add (.c (.sc (.string ⟨#[40]⟩))) (.t 61)⟩,⟨none,.bin 63 .add (.t 62) (.c (.sc (.string ⟨#[32]⟩)))⟩,.m 64 0,.n 65 64,.f 66 2 65,.l 67 1 66,.i 68 3 67 1,.c 69 g [.t 68],.o (.bin 70 .add (.t 63) (.t 69)),⟨none,.bin 71 .add (.t 70) (.c (.sc (.string ⟨#[41]⟩)))⟩,.m 2 71]) .ret) .skip)))))))))))))))) (.s [.m 72 0,.n 73 72,.f 74 2 73,.l 75 1 74,.i 76 3 75 0,.c 77 g [.t 76],⟨none,.bin 78 .add (.t 77) (.c (.sc (.string ⟨#[42]⟩)))⟩,.m 2 78] .ret)))
def zS(P:Program)(iV:Nat):Prop:=∀(g0:Int×Int)(hg:oC g0=true)(e:Ex)(hT:f8 g0 e=true)(hz:(iM e).size≤1000000000),AF P iV [.pt (eE e) 0] (.own (eT (iM e)))
def Qk(hm:Mx P)(hr:il P g=some (79,mA g f1,[.t 2]))(iS:ur P f1):zS P g:=by
 intro g0 hg e hT hz;refine Ex.ind (p:=fun e=>f8 g0 e=true→(iM e).size≤1000000000→AF P g [.pt (eE e) 0] (.own (eT (iM e)))) (fun k v nn ks ih hT hz=>?_) e hT hz;rw[ja,bA,aM]at hT;have hK:=DZ hg hT.1;rw[JF]at hz⊢;rw[gM];refine fY hr hm rfl fun hb=>?_;cases hK with
 |zero hk ky=>
  subst hk ky;rw[show iX 1 v ([].map iM)=⟨#[48]⟩by simp[iX]]at hz⊢;simp+contextual-implicitDefEqProofs only[mA,eT,D.size,D.fS,D.sub,bE,D.fX,lN,aj,go_sem]
 |one hk ky=>
  subst hk ky;rw[show iX 2 v ([].map iM)=⟨#[49]⟩by simp[iX]]at hz⊢;simp+contextual-implicitDefEqProofs only[mA,eT,D.size,D.fS,D.sub,Int.reduceBEq,bE,D.fX,lN,aj,go_sem]
 |test hk ky n hv hn=>
  subst hk ky hv;rw[show iX 3 n ([].map iM)=⟨#[116]⟩++xV n by simp[iX]]at hz⊢;have hdz:=vG (n:=n);simp+contextual-implicitDefEqProofs only[mA,eT,D.size,D.fS,D.sub,Int.reduceBEq,bE,D.fX,lN,lC,aj,ak,go_sem];refine fL (ds:=[eI n]) (by rfl) (iS n hn) ?_;simp+contextual-implicitDefEqProofs only[eT,go_sem];simp only[bB,lK,lZ];omega
 |act hk ky n hv hn=>
  subst hk ky hv;rw[show iX 4 n ([].map iM)=⟨#[97]⟩++xV n by simp[iX]]at hz⊢;have hdz:=vG (n:=n);simp+contextual-implicitDefEqProofs only[mA,eT,D.size,D.fS,D.sub,Int.reduceBEq,bE,D.fX,lN,lC,aj,ak,go_sem];refine fL (ds:=[eI n]) (by rfl) (iS n hn) ?_;simp+contextual-implicitDefEqProofs only[eT,go_sem];simp only[bB,lK,lZ];omega
 |nt hk a ky=>
  subst hk ky;rw[show iX 5 v ([a].map iM)=⟨#[126]⟩++iM a by simp[iX]]at hz⊢;have ta:=hT.2 a (by simp);simp only[cX,yR,bB,lK,lZ]at hz;simp+contextual-implicitDefEqProofs only[mA,eT,D.size,D.fS,D.sub,aG,Int.reduceLT,aV,Int.reduceBEq,bE,D.fX,lN,lC,lK,lZ,D.at,aj,ak,go_sem];refine fL (ds:=[.pt (eE a) 0]) (by rfl) (ih a (by simp) ta (by omega)) ?_;simp+contextual-implicitDefEqProofs only[eT,go_sem];simp only[bB,lK,lZ];omega
 |sum hk a b ky=>
  subst hk ky;rw[show iX 6 v ([a,b].map iM)=⟨#[40]⟩++iM a++⟨#[32,43,32]⟩++iM b++⟨#[41]⟩by simp[iX]]at hz⊢;have ta:=hT.2 a (by simp);have tb:=hT.2 b (by simp);simp only[cX,yR,bB,lK,lZ]at hz;simp+contextual-implicitDefEqProofs only[mA,eT,D.size,D.fS,D.sub,aG,Int.reduceLT,aV,Int.reduceBEq,bE,D.fX,lN,lC,lK,lZ,D.at,aj,ak,go_sem];refine fL (ds:=[.pt (eE a) 0]) (by rfl) (ih a (by simp) ta (by omega)) ?_;simp+contextual-implicitDefEqProofs only[eT,D.size,D.fS,D.sub,aG,Int.reduceLT,Int.reduceLE,Int.reduceToNat,D.fX,lN,lC,lK,lZ,D.at,aj,ak,go_sem];refine⟨by simp only[bB,lK,lZ];omega,by simp only[bB,lK,lZ];omega,?_⟩;refine fL (ds:=[.pt (eE b) 0]) (by rfl) (ih b (by simp) tb (by omega)) ?_;simp+contextual-implicitDefEqProofs only[eT,go_sem];exact⟨by simp only[bB,lK,lZ];omega,by simp only[bB,lK,lZ];omega⟩
 |dot hk a b ky=>
  subst hk ky;rw[show iX 7 v ([a,b].map iM)=⟨#[40]⟩++iM a++⟨#[32]⟩++iM b++⟨#[41]⟩by simp[iX]]at hz⊢;have ta:=hT.2 a (by simp);have tb:=hT.2 b (by simp);simp only[cX,yR,bB,lK,lZ]at hz;simp+contextual-implicitDefEqProofs only[mA,eT,D.size,D.fS,D.sub,aG,Int.reduceLT,aV,Int.reduceBEq,bE,D.fX,lN,lC,lK,lZ,D.at,aj,ak,go_sem];refine fL (ds:=[.pt (eE a) 0]) (by rfl) (ih a (by simp) ta (by omega)) ?_;simp+contextual-implicitDefEqProofs only[eT,D.size,D.fS,D.sub,aG,Int.reduceLT,Int.reduceLE,Int.reduceToNat,D.fX,lN,lC,lK,lZ,D.at,aj,ak,go_sem];refine⟨by simp only[bB,lK,lZ];omega,by simp only[bB,lK,lZ];omega,?_⟩;refine fL (ds:=[.pt (eE b) 0]) (by rfl) (ih b (by simp) tb (by omega)) ?_;simp+contextual-implicitDefEqProofs only[eT,go_sem];exact⟨by simp only[bB,lK,lZ];omega,by simp only[bB,lK,lZ];omega⟩
 |star hk a ky=>
  subst hk ky;rw[show iX 8 v ([a].map iM)=iM a++⟨#[42]⟩by simp[iX]]at hz⊢;have ta:=hT.2 a (by simp);simp only[cX,yR,bB,lK,lZ]at hz;simp+contextual-implicitDefEqProofs only[mA,eT,D.size,D.fS,D.sub,aG,Int.reduceLT,aV,Int.reduceBEq,D.fX,lN,lC,lK,lZ,D.at,aj,ak,go_sem];refine fL (ds:=[.pt (eE a) 0]) (by rfl) (ih a (by simp) ta (by omega)) ?_;simp+contextual-implicitDefEqProofs only[eT,go_sem];simp only[bB,lK,lZ];omega
def eU(v:Int):D:=.sc (.int .u8 v)
def gm(nn:Option Bool)(c:List Int)(a sd:Int):D:=.ag [.ls nn 1 (c.map eU),.sc (.int .i64 a),.sc (.int .u64 sd)]
def uS(nn:Option Bool)(c:List Int)(a sd:Int):U:=.ar false none 3 [gm nn c a sd]
def nW(c:List Int):Prop:=(∀v∈c,0≤v∧v<256)∧c.length≤1000000000
def nb(c:List Int)(a:Int):Int:=if a<c.length then c.getD a.toNat 0 else 0
def Sp(c:List Int)(a sd:Int):Int:=IntKind.u64.wrap (IntKind.u64.wrap (IntKind.u64.wrap (sd*6364136223846793005)+IntKind.u64.wrap (nb c a))+1442695040888963407)
def Ur(sd:Int):Int:=IntKind.i64.wrap (IntKind.u64.wrap ((BitVec.ofInt IntKind.u64.bits (sd.fdiv (2 ^ (min (40:Int).toNat IntKind.u64.bits)))&&&BitVec.ofInt IntKind.u64.bits 255).toNat:Nat))
def Oc(c:List Int)(a sd:Int):Int:=if a<c.length then nb c a else Ur (Sp c a sd)
def acd{c:List Int}{a:Int}(h:nW c):0≤nb c a∧nb c a<256:=by
 unfold nb
 split
 ·next h1=>
  by_cases h2:a.toNat<c.length
  ·rw[aE,bb h2];exact h.1 _ (aF h2)
  simp[aE,ed (show c.length≤a.toNat by omega)]
 omega
def aan(sd:Int):0≤Ur sd∧Ur sd<256:=by
 unfold Ur;rw[BitVec.toNat_and];have h:(BitVec.ofInt IntKind.u64.bits (sd.fdiv (2 ^ (min (40:Int).toNat IntKind.u64.bits)))).toNat&&&(BitVec.ofInt IntKind.u64.bits 255).toNat≤255:=cB Nat.and_le_right (by decide);generalize (BitVec.ofInt IntKind.u64.bits (sd.fdiv (2 ^ (min (40:Int).toNat IntKind.u64.bits)))).toNat&&&(BitVec.ofInt IntKind.u64.bits 255).toNat=m at h;have e1:IntKind.u64.wrap (m:Int)=m:=by simp only[IntKind.wrap,show IntKind.u64.signed=false from rfl,bG,mI,aA,show IntKind.u64.bits=64 from rfl];omega
 rw[e1,fQ (by omega) (by omega)];omega
def V6{c:List Int}{a sd:Int}(h:nW c):0≤Oc c a sd∧Oc c a sd<256:=by
 unfold Oc
 split;exact acd h;exact aan _
def zw:RC:=(.s [.v 2 (.ci 0)] (.s [.v 3 (.ci 0)] (.seq (.seq (.jI true [.m 4 0,.n 5 4,.f 6 1 5,.l 7 1 6,.m 8 0,.n 9 8,.f 10 0 9,.l 11 1 10,.o (.len 12 (.t 11)),.o (.bin 13 .lss (.t 7) (.t 12))]) (.cond (.t 13) (.jI true [.m 14 0,.n 15 14,.f 16 0 15,.l 17 1 16,.m 18 0,.n 19 18,.f 20 1 19,.l 21 1 20,.o (.ia 22 1 (.t 17) (.t 21)),.l 23 1 22,.o (.cvt 24 .i64 (.t 23)),.m 3 24]) .skip)) (.s [.m 25 0,.n 26 25,.f 27 1 26,.l 28 1 27,.o (.bin 29 .add (.t 28) (.ci 1)),.n 30 25,.f 31 1 30,.s 1 31 29] (.s [.m 32 0,.m 33 0,.n 34 33,.f 35 2 34,.l 36 1 35,.o (.bin 37 .mul (.t 36) (.c (.sc (.int .u64 6364136223846793005)))),.m 38 3,.o (.cvt 39 .u64 (.t 38)),.o (.bin 40 .add (.t 37) (.t 39)),.o (.bin 41 .add (.t 40) (.c (.sc (.int .u64 1442695040888963407)))),.n 42 32,.f 43 2 42,.s 1 43 41] (.seq (.seq (.jI true [.m 44 0,.n 45 44,.f 46 1 45,.l 47 1 46,.m 48 0,.n 49 48,.f 50 0 49,.l 51 1 50,.o (.len 52 (.t 51)),.o (.bin 53 .leq (.t 47) (.t 52))]) (.cond (.t 53) (.s [.m 54 3,.m 2 54] .ret) .skip)) (.s [.m 55 0,.n 56 55,.f 57 2 56,.l 58 1 57,.o (.bin 59 .shr (.t 58) (.c (.sc (.int .u64 40)))),.o (.bin 60 .and (.t 59) (.c (.sc (.int .u64 255)))),.o (.cvt 61 .i64 (.t 60)),.m 2 61] .ret)))))))
def Ab(P:Program)(iV:Nat):Prop:=∀(nn:Option Bool)(c:List Int)(a sd:Int),nW c→0≤a→a≤1000000000→Lh P iV [uS nn c a sd] [.pw 3000000000 0 0] [uS nn c (a+1) (Sp c a sd)] (.own (.sc (.int .i64 (Oc c a sd))))
def PF(hm:Mx P)(hr:il P g=some (62,zw,[.t 2])):Ab P g:=by
 intro nn c a sd hc h0 hA;have hn:=acd (a:=a) hc;have hlen:=hc.2;have hw:=fQ (x:=a+1) (by omega) (by omega);refine gN (wv:=.no) hr hm rfl rfl rfl fun hb ha=>?_
 by_cases h1:a<c.length
 ·have ea:nb c a=c.getD a.toNat 0:=by simp[nb,h1]
  have iq:a.toNat<c.length:=by omega
  have e2:D.at (c.map eU) a.toNat=.sc (.int .u8 (nb c a)):=by rw[ie iq,ea];simp[eU,iq]
  have W4:=fQ (x:=nb c a) (by omega) (by omega);have h2:a+1≤c.length:=by omega
  have ex:Oc c a sd=nb c a:=by simp[Oc,h1]
  rw[ex];simp+contextual-implicitDefEqProofs only[zw,uS,gm,h1,h0,h2,hw,e2,W4,D.put,D.cells,D.size,D.fX,D.sub,fU,fO,lM,go_sem];exact rfl
 have ea:nb c a=0:=by simp[nb,h1]
 have h2:¬a+1≤c.length:=by omega
 have ex:Oc c a sd=Ur (Sp c a sd):=by simp[Oc,h1]
 have en:Sp c a sd=IntKind.u64.wrap (IntKind.u64.wrap (IntKind.u64.wrap (sd*6364136223846793005)+IntKind.u64.wrap 0)+1442695040888963407):=by unfold Sp;rw[ea]
 rw[ex,en];simp+contextual-implicitDefEqProofs only[zw,uS,gm,h1,h2,hw,D.put,D.cells,D.size,D.fX,D.sub,fU,fO,lM,go_sem];exact⟨by decide,D.Le.refl _⟩
def vR(f1:Nat):RC:=(.s [.v 4 (.ci 0)] (.seq (.s [.m 6 1,.o (.bin 7 .leq (.t 6) (.ci 1))] (.cond (.t 7) (.s [.v 4 (.ci 0)] .ret) .skip)) (.s [.m 8 0,.o (.sH (some 9) f1 [.t 8]),.m 5 9] (.seq (.s [.m 10 1,.o (.bin 11 .gtr (.t 10) (.ci 200))] (.cond (.t 11) (.r [.m 12 5,.o (.bin 13 .mul (.t 12) (.ci 256)),.m 14 0,.o (.sH (some 15) f1 [.t 14]),.o (.bin 16 .add (.t 13) (.t 15)),.m 5 16]) .skip)) (.s [.m 17 5,.m 18 1,.o (.bin 19 .rem (.t 17) (.t 18)),.m 4 19] .ret)))))
def lL(P:Program)(iV:Nat):Prop:=∀(nn:Option Bool)(c:List Int)(a sd n:Int),nW c→0≤a→a≤500000000→∃a' Es x,a≤a'∧a'≤a+2∧0≤x∧(n≤1→x=0)∧(1<n→x<n)∧Lh P iV [uS nn c a sd] [.pw 3000000000 0 0,.im none (eI n)] [uS nn c a' Es] (.own (eI x))
def RQ(hm:Mx P)(hr:il P g=some (20,vR f1,[.t 4]))(iS:Ab P f1):lL P g:=by
 intro nn c a sd n hc h0 hA
 by_cases h1:n≤1
 ·refine⟨a,sd,0,by omega,by omega,by omega,fun _=>rfl,by omega,?_⟩;refine gN (wv:=.no) hr hm rfl rfl rfl fun hb ha=>?_;simp+contextual-implicitDefEqProofs only[vR,uS,gm,h1,eI,go_sem]
 have b1:=V6 (a:=a) (sd:=sd) hc
 by_cases h2:n>200
 ·have b2:=V6 (a:=a+1) (sd:=Sp c a sd) hc;have w1:=fQ (x:=Oc c a sd*256) (by omega) (by omega);have w2:=fQ (x:=Oc c a sd*256+Oc c (a+1) (Sp c a sd)) (by omega) (by omega);have hn0:n≠0:=by omega
  refine⟨a+1+1,Sp c (a+1) (Sp c a sd),(Oc c a sd*256+Oc c (a+1) (Sp c a sd)).tmod n,by omega,by omega,Int.tmod_nonneg _ (by omega),by omega,fun _=>Int.tmod_lt_of_pos _ (by omega),?_⟩;refine gN (wv:=.no) hr hm rfl rfl rfl fun hb ha=>?_;simp+contextual-implicitDefEqProofs only[vR,uS,gm,h1,eI,go_sem];refine gd [3000000000] [] (by rfl) (by rfl) (by rfl) (iS nn c a sd hc h0 (by omega)) rfl (by simp[iv,ij,uS,gm,fO,D.gl,ii,AV.hZ,gU,ir,U.hZ,St.unit,lu]) ?_;simp+contextual-implicitDefEqProofs only[uS,gm,h2,w1,go_sem];refine gd [3000000000] [] (by rfl) (by rfl) (by rfl) (iS nn c (a+1) (Sp c a sd) hc (by omega) (by omega)) rfl (by simp[iv,ij,uS,gm,fO,D.gl,ii,AV.hZ,gU,ir,U.hZ,St.unit,lu]) ?_;simp+contextual-implicitDefEqProofs only[uS,gm,w2,go_sem];exact hn0
 have hn0:n≠0:=by omega
 refine⟨a+1,Sp c a sd,(Oc c a sd).tmod n,by omega,by omega,Int.tmod_nonneg _ (by omega),by omega,fun _=>Int.tmod_lt_of_pos _ (by omega),?_⟩;refine gN (wv:=.no) hr hm rfl rfl rfl fun hb ha=>?_;simp+contextual-implicitDefEqProofs only[vR,uS,gm,h1,eI,go_sem];refine gd [3000000000] [] (by rfl) (by rfl) (by rfl) (iS nn c a sd hc h0 (by omega)) rfl (by simp[iv,ij,uS,gm,fO,D.gl,ii,AV.hZ,gU,ir,U.hZ,St.unit,lu]) ?_;simp+contextual-implicitDefEqProofs only[uS,gm,h2,go_sem];exact hn0
def Jd(f1:Nat):RC:=(.s [.v 4 .cf] (.s [.m 5 0,.m 6 1,.o (.sH (some 7) f1 [.t 5,.t 6]),.q 8 7 0,.m 4 8] .ret))
def sa(P:Program)(iV:Nat):Prop:=∀(nn:Option Bool)(c:List Int)(a sd n:Int),nW c→0≤a→a≤500000000→∃a' Es b,a≤a'∧a'≤a+2∧Lh P iV [uS nn c a sd] [.pw 3000000000 0 0,.im none (eI n)] [uS nn c a' Es] (.own (eB b))
def SM(hm:Mx P)(hr:il P g=some (9,Jd f1,[.t 4]))(iS:lL P f1):sa P g:=by
 intro nn c a sd n hc h0 hA;obtain⟨a',Es,x,p1,p2,p3,p4,p5,hP⟩:=iS nn c a sd n hc h0 hA;refine⟨a',Es,x==0,p1,p2,?_⟩;refine gN (wv:=.no) hr hm rfl rfl rfl fun hb ha=>?_;simp+contextual-implicitDefEqProofs only[Jd,uS,gm,eI,go_sem,eB];refine gd [3000000000] [] (by rfl) (by rfl) (by rfl) hP rfl (by simp[iv,ij,uS,gm,fO,D.gl,ii,AV.hZ,gU,ir,U.hZ,St.unit,lu]) ?_;simp+contextual-implicitDefEqProofs only[uS,gm,eI,go_sem]
def Gg:RC:=(.s [.o (.mv 2 (.c (.sc (.pointer none))))] (.s [.m 3 0,.o (.bld 4 (.ag [(.ls (some true) 1 []),(.sc (.int .i64 0)),(.sc (.int .u64 0))]) [(0,1,(.t 3))]),.b 5 3 4,.m 2 5] .ret))
def qf(P:Program)(iV:Nat):Prop:=∀(nn:Option Bool)(c:List Int),AF P iV [.ls nn 1 (c.map eU)] (.bxs (gm nn c 0 0))
def Qq(hm:Mx P)(hr:il P g=some (6,Gg,[.t 2])):qf P g:=by
 intro nn c;refine fY hr hm rfl fun hb=>?_;simp+contextual-implicitDefEqProofs only[Gg,gm,D.cells,D.size,D.fS,go_sem,Nat.reduceSub]
def pT(f1:Nat):RC:=(.s [.o (.zer 2 2 (.ag [(.sc (.int .i64 0)),(.sc (.int .i64 0))]))] (.s [.m 4 0,.o (.sH (some 5) f1 [.t 4,.ci 2]),.o (.bin 6 .add (.ci 1) (.t 5)),.m 7 0,.o (.sH (some 8) f1 [.t 7,.ci 2]),.o (.bin 9 .add (.ci 1) (.t 8)),.o (.bld 10 (.ag [(.sc (.int .i64 0)),(.sc (.int .i64 0))]) [(0,1,(.t 6)),(1,1,(.t 9))]),.o (.zer 3 2 (.ag [(.sc (.int .i64 0)),(.sc (.int .i64 0))])),.s 2 3 10] (.seq (.s [.m 11 0,.o (.sH (some 12) f1 [.t 11,.ci 12])] (.gX 0 (.s [.q 14 12 0,.m 13 14] (.cond (.t 13) (.r [.m 15 0,.o (.sH (some 16) f1 [.t 15,.ci 4]),.f 17 0 3,.s 1 17 16]) (.s [.q 19 12 1,.m 18 19] (.cond (.t 18) (.r [.m 20 0,.o (.sH (some 21) f1 [.t 20,.ci 5]),.f 22 1 3,.s 1 22 21]) .skip)))))) (.s [.L 23 2 3,.s 2 2 23] .ret))))
def tt(P:Program)(iV:Nat):Prop:=∀(nn:Option Bool)(c:List Int)(a sd:Int),nW c→0≤a→a≤400000000→∃a' Es g,a≤a'∧a'≤a+8∧oC g=true∧Lh P iV [uS nn c a sd] [.pw 3000000000 0 0] [uS nn c a' Es] (.own (eG g))
def He(hm:Mx P)(hr:il P g=some (24,pT f1,[.c 2 2 true]))(iS:lL P f1):tt P g:=by
 intro nn c a sd hc h0 hA;obtain⟨a1,SG,x1,p1,p2,p3,p4,p5,K9⟩:=iS nn c a sd 2 hc h0 (by omega);obtain⟨a2,sd2,x2,q1,q2,q3,q4,q5,Sk⟩:=iS nn c a1 SG 2 hc (by omega) (by omega);obtain⟨a3,GE,x3,r1,r2,r3,r4,r5,NE⟩:=iS nn c a2 sd2 12 hc (by omega) (by omega);have p5:=p5 (by omega);have q5:=q5 (by omega);have w1:=fQ (x:=1+x1) (by omega) (by omega);have w2:=fQ (x:=1+x2) (by omega) (by omega)
 by_cases h3:x3=0
 ·have h3b:(x3==0)=true:=by simp[h3]
  obtain⟨a4,BR,x4,s1,s2,s3,s4,s5,E0⟩:=iS nn c a3 GE 4 hc (by omega) (by omega);have s5:=s5 (by omega);refine⟨a4,BR,(x4,1+x2),by omega,by omega,by simp[oC,kJ];omega,?_⟩;refine gN (wv:=.no) hr hm rfl rfl rfl fun hb ha=>?_;simp+contextual-implicitDefEqProofs only[pT,uS,gm,D.size,D.fS,go_sem];refine gd [3000000000] [] (by rfl) (by rfl) (by rfl) K9 rfl (by simp[iv,ij,uS,gm,fO,D.gl,ii,AV.hZ,gU,ir,U.hZ,St.unit,lu]) ?_;simp+contextual-implicitDefEqProofs only[uS,gm,eI,w1,go_sem];refine gd [3000000000] [] (by rfl) (by rfl) (by rfl) Sk rfl (by simp[iv,ij,uS,gm,fO,D.gl,ii,AV.hZ,gU,ir,U.hZ,St.unit,lu]) ?_;simp+contextual-implicitDefEqProofs only[uS,gm,eI,w2,D.put,D.cells,D.size,D.fS,D.fX,fU,fO,go_sem,Nat.reduceSub];refine gd [3000000000] [] (by rfl) (by rfl) (by rfl) NE rfl (by simp[iv,ij,uS,gm,fO,D.gl,ii,AV.hZ,gU,ir,U.hZ,St.unit,lu]) ?_;simp+contextual-implicitDefEqProofs only[uS,gm,eI,eG,h3b,go_sem];refine gd [3000000000] [] (by rfl) (by rfl) (by rfl) E0 rfl (by simp[iv,ij,uS,gm,fO,D.gl,ii,AV.hZ,gU,ir,U.hZ,St.unit,lu]) ?_;simp+contextual-implicitDefEqProofs only[uS,gm,eI,D.put,D.cells,D.size,D.fS,D.fX,D.sub,fU,fO,go_sem]
 have h3b:(x3==0)=false:=by simp[h3]
 by_cases h4:x3=1
 ·have h4b:(x3==1)=true:=by simp[h4]
  obtain⟨a4,BR,x4,s1,s2,s3,s4,s5,E0⟩:=iS nn c a3 GE 5 hc (by omega) (by omega);have s5:=s5 (by omega);refine⟨a4,BR,(1+x1,x4),by omega,by omega,by simp[oC,kJ];omega,?_⟩;refine gN (wv:=.no) hr hm rfl rfl rfl fun hb ha=>?_;simp+contextual-implicitDefEqProofs only[pT,uS,gm,D.size,D.fS,go_sem];refine gd [3000000000] [] (by rfl) (by rfl) (by rfl) K9 rfl (by simp[iv,ij,uS,gm,fO,D.gl,ii,AV.hZ,gU,ir,U.hZ,St.unit,lu]) ?_;simp+contextual-implicitDefEqProofs only[uS,gm,eI,w1,go_sem];refine gd [3000000000] [] (by rfl) (by rfl) (by rfl) Sk rfl (by simp[iv,ij,uS,gm,fO,D.gl,ii,AV.hZ,gU,ir,U.hZ,St.unit,lu]) ?_;simp+contextual-implicitDefEqProofs only[uS,gm,eI,w2,D.put,D.cells,D.size,D.fS,D.fX,fU,fO,go_sem,Nat.reduceSub];refine gd [3000000000] [] (by rfl) (by rfl) (by rfl) NE rfl (by simp[iv,ij,uS,gm,fO,D.gl,ii,AV.hZ,gU,ir,U.hZ,St.unit,lu]) ?_;simp+contextual-implicitDefEqProofs only[uS,gm,eI,eG,h3b,h4b,go_sem];refine gd [3000000000] [] (by rfl) (by rfl) (by rfl) E0 rfl (by simp[iv,ij,uS,gm,fO,D.gl,ii,AV.hZ,gU,ir,U.hZ,St.unit,lu]) ?_;simp+contextual-implicitDefEqProofs only[uS,gm,eI,D.put,D.cells,D.size,D.fS,D.fX,D.sub,fU,fO,go_sem]
 have h4b:(x3==1)=false:=by simp[h4]
 refine⟨a3,GE,(1+x1,1+x2),by omega,by omega,by simp[oC,kJ];omega,?_⟩;refine gN (wv:=.no) hr hm rfl rfl rfl fun hb ha=>?_;simp+contextual-implicitDefEqProofs only[pT,uS,gm,D.size,D.fS,go_sem];refine gd [3000000000] [] (by rfl) (by rfl) (by rfl) K9 rfl (by simp[iv,ij,uS,gm,fO,D.gl,ii,AV.hZ,gU,ir,U.hZ,St.unit,lu]) ?_;simp+contextual-implicitDefEqProofs only[uS,gm,eI,w1,go_sem];refine gd [3000000000] [] (by rfl) (by rfl) (by rfl) Sk rfl (by simp[iv,ij,uS,gm,fO,D.gl,ii,AV.hZ,gU,ir,U.hZ,St.unit,lu]) ?_;simp+contextual-implicitDefEqProofs only[uS,gm,eI,w2,D.put,D.cells,D.size,D.fS,D.fX,fU,fO,go_sem,Nat.reduceSub];refine gd [3000000000] [] (by rfl) (by rfl) (by rfl) NE rfl (by simp[iv,ij,uS,gm,fO,D.gl,ii,AV.hZ,gU,ir,U.hZ,St.unit,lu]) ?_;simp+contextual-implicitDefEqProofs only[uS,gm,eI,eG,h3b,h4b,D.put,D.size,D.fS,D.fX,D.sub,fU,fO,go_sem]
def Ot(f1 f2:Nat):RC:=(.s [.o (.zer 2 2 (.ag [(.sc (.int .i64 0)),(.sc (.int .i64 0))]))] (.s [.m 3 0,.c 4 f1 [.t 3],.o (.sH (some 5) f2 [.t 4]),.s 2 2 5] .ret))
def OF(P:Program)(iV:Nat):Prop:=∀(nn:Option Bool)(c:List Int),nW c→∃g,oC g=true∧AF P iV [.ls nn 1 (c.map eU)] (.own (eG g))
def aaQ(hm:Mx P)(hr:il P g=some (6,Ot f1 f2,[.c 2 2 true]))(iS:qf P f1)(jw:tt P f2):OF P g:=by
 intro nn c hc;obtain⟨a',Es,g,p1,p2,p3,hP⟩:=jw nn c 0 0 hc (by omega) (by omega);refine⟨g,p3,?_⟩;refine fY hr hm rfl fun hb=>?_;simp+contextual-implicitDefEqProofs only[Ot,eG,D.size,D.fS,go_sem,eI];refine fL ?_ (iS nn c) ?_;exact rfl;simp+contextual-implicitDefEqProofs only[gm,D.size,D.fS,go_sem];refine gd [4] [] (by rfl) (by rfl) (by rfl) hP rfl (by simp[iv,ij,uS,gm,fO,D.gl,ii,AV.hZ,gU,ir,U.hZ,St.unit,lu]) ?_;simp+contextual-implicitDefEqProofs only[uS,gm,eG,D.put,D.size,D.fS,D.fX,D.sub,fU,fO,go_sem,eI]
end Go.Ax
