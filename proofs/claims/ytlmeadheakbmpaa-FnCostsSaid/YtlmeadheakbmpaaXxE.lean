/- Contracts of functions of the seat, proved over the engine. No condition. -/
import Derived.Test.YtlmeadheakbmpaaXxC
import Derived.Test.YtlmeadheakbmpaaXxD
import Derived.Test.YtlmeadheakbmpaaXxB
import Derived.Test.YtlmeadheakbmpaaEnI
import Derived.Test.YtlmeadheakbmpaaXxA
set_option linter.all false
namespace Go.Ax
set_option maxRecDepth 20000
set_option maxHeartbeats 4000000
def iOf(a:SL (SL Int))(x y:Nat):Int:=(a.2.getD x (none,[])).2.getD y 0
structure SqI (n:Nat) (a:SL (SL Int)):Prop where
 len:a.2.length=n
 row:∀r∈a.2,r.2.length=n
variable {n:Nat}{a:SL (SL Int)}
def SqI.rows{x:Nat}(h:SqI n a)(hx:x<n):(a.2.getD x (none,[])).2.length=n:=h.row _ (ji (by rw[h.len];exact hx))
def SqI.at{x:Nat}(h:SqI n a)(hx:x<n):D.at (a.2.map (eS 1 eI)) x=.ls (a.2.getD x (none,[])).1 1 ((a.2.getD x (none,[])).2.map eI):=lz (by rw[h.len];exact hx)
def SqI.ND{x y:Nat}(h:SqI n a)(hx:x<n)(hy:y<n):D.at ((a.2.getD x (none,[])).2.map eI) y=.sc (.int .i64 (iOf a x y)):=lz (by rw[h.rows hx];exact hy)
structure ajM (c:Co) (n:Nat):Prop where
 Cf:c.2.1=(n:Int)
 n1:1≤n
 n8:n≤8
 tl:c.2.2.1.2.length≤1000
 tr:∀r∈c.2.2.1.2,r.2.length=n
 al:c.2.2.2.2.length≤1000
 asq:∀a∈c.2.2.2.2,SqI n a
def OE{c:Co}(h:pE c=true):∃n,ajM c n:=by
 simp only[pE,iU,w6,BB,j8,oC,bA,aM,it,aU,jz]at h;obtain⟨⟨hg,hp,ht,htr⟩,ha,Sj⟩:=h;exact⟨c.2.1.toNat,by omega,by omega,by omega,by omega,fun r hr=>by have:=htr r hr;omega,by omega,fun a hx=>⟨by have:=(Sj a hx).1;omega,fun r hr=>by have:=((Sj a hx).2 r hr).1;omega⟩⟩
def Bv(a:SL (SL Int)):my:=fun x y=>iOf a x y != -1
def Ha(r:SL Bool):D:=.ls (some false) 1 (r.2.map eB)
def Kb(n:Nat)(a:SL (SL Int)):D:=.ls (some false) 1 (rD n (Bv a))
def j5(c:Co)(n:Nat):Mo:=(c.1,n,(wj c.2.2.1.2,c.2.2.1.2.map fun r=>(some false,r.2)),(wj c.2.2.2.2,c.2.2.2.2.map fun a=>mK n (Bv a)))
def Dk:Mo:=((0,0),0,(some true,[]),(some true,[]))
def qW(c:Co):Mo×Int:=if pE c=true then(j5 c c.2.1.toNat,0)else(Dk,1)
def OH{c:Co}:eM (j5 c n)=.ag [.sc (.int .i64 c.1.1),.sc (.int .i64 c.1.2),.sc (.int .i64 n),.ls (wj c.2.2.1.2) 1 (c.2.2.1.2.map Ha),.ls (wj c.2.2.2.2) 1 (c.2.2.2.2.map (Kb n))]:=by
 simp only[eM,j5,eI];unfold Kb;simp only[eS,cR,bF,mK,rD,xa,mj,eB]
 rfl
def aej:∀{l:List Bool},fO (l.map eB)=true
 | []=>rfl
 |b::l=>by simp only[lC,fO,aej (l:=l),eB,D.gl,bi]
def acb{b:Bool}{l:List Bool}:∀e∈D.sc (.bool b)::l.map eB,e.size=1:=by
 intro e he;rcases ab.1 he with rfl|he
 rfl
 obtain⟨x,_,rfl⟩:=aB.1 he;rfl
def Hn:RC:=(.s [.o (.mv 2 (.c (.ls (some true) 1 [])))] (.seq (.s [.m 3 0,.o (.snil 4 false (.t 3) (.c (.ls (some true) 1 [])))] (.cond (.t 4) (.s [.o (.mv 2 (.c (.ls (some true) 1 [])))] .ret) .skip)) (.s [.o (.bs 5 1 (.sc (.bool false)) 0 []),.m 6 0,.o (.app 7 1 1 (.t 5) (.t 6)),.m 2 7] .ret)))
def Hr(P:Program)(iV:Nat):Prop:=∀(r:SL Bool)(h:r.1=some false)(hl:r.2.length≤1000),AF P iV [eS 1 eB r] (.own (.ls (some false) 1 (r.2.map eB)))
variable {g:Nat}{P:Program}
def YE(hm:Mx P)(hr:il P g=some (8,Hn,[.t 2])):Hr P g:=by
 intro r h hl;obtain⟨nn,l⟩:=r;obtain rfl:nn=some false:=h;refine fY hr hm rfl fun hb=>?_;cases l with
 |nil=>
  simp+contextual-implicitDefEqProofs only[Hn,lN,lZ,eS,bE,bU,fU,fO,go_sem,Nat.reduceMul];exact⟨by unfold gz;omega,by simp⟩
 |cons b l=>
  simp+contextual-implicitDefEqProofs only[Hn,aej,lC,lK,eS,eB,bE,bU,fU,fO,lM,go_sem];simp only[lK]at hl;exact⟨by omega,by unfold gz;omega,acb⟩
def Dj:RC:=(.s [.v 5 .cf] (.s [.l 6 1 2,.m 7 0,.o (.ia 8 1 (.t 6) (.t 7)),.l 9 1 8,.m 10 1,.o (.ia 11 1 (.t 9) (.t 10)),.l 12 1 11,.o (.bin 13 .neq (.t 12) (.c (.sc (.int .i64 (-1))))),.m 5 13] .ret))
def xh(P:Program)(iV:Nat):Prop:=∀(n:Nat)(a:SL (SL Int))(x y:Nat)(sq:SqI n a)(hx:x<n)(hy:y<n),AF P iV [eI x,eI y,.pt (eS 1 (eS 1 eI) a) 0] (.own (eB (Bv a x y)))
def LY(hm:Mx P)(hr:il P g=some (14,Dj,[.t 5])):xh P g:=by
 intro n a x y sq hx hy;have b1:=sq.at hx;have b2:=sq.ND hx hy;have b3:=sq.rows hx;have b4:=sq.len;refine fY hr hm rfl fun hb=>?_;simp+contextual-implicitDefEqProofs only[Dj,b1,b2,b3,b4,hx,hy,eS,eI,eB,D.size,D.sub,D.fX,bne,go_sem,iL,lM,iN];exact D.Le.refl _
def wK(f1 f2:Nat):RC:=(.s [.b 1 5 0,.o (.zer 2 5 (.ag [(.sc (.int .i64 0)),(.sc (.int .i64 0)),(.sc (.int .i64 0)),(.ls (some true) 1 []),(.ls (some true) 1 [])])),.v 3 (.ci 0)] (.seq (.s [.c 10 f1 [.t 1],.o (.un 11 .not (.t 10))] (.cond (.t 11) (.s [.o (.bld 12 (.ag [(.sc (.int .i64 0)),(.sc (.int .i64 0)),(.sc (.int .i64 0)),(.ls (some true) 1 []),(.ls (some true) 1 [])]) []),.s 5 2 12,.v 3 (.ci 1)] .ret) .skip)) (.s [.f 13 0 1,.L 14 2 13,.f 15 2 1,.l 16 1 15,.o (.bld 17 (.ag [(.sc (.int .i64 0)),(.sc (.int .i64 0)),(.sc (.int .i64 0)),(.ls (some true) 1 []),(.ls (some true) 1 [])]) [(0,2,(.t 14)),(2,1,(.t 16))]),.o (.zer 4 5 (.ag [(.sc (.int .i64 0)),(.sc (.int .i64 0)),(.sc (.int .i64 0)),(.ls (some true) 1 []),(.ls (some true) 1 [])])),.s 5 4 17] (.seq (.s [.v 5 (.ci 0)] (.gX 0 (.loop (.seq (.s [.m 18 5,.f 19 3 1,.l 20 1 19,.o (.len 21 (.t 20)),.o (.bin 22 .lss (.t 18) (.t 21))] (.cond (.t 22) .skip (.exit 0))) (.seq (.gX 1 (.KN [.f 25 3 4,.l 26 1 25,.o (.bs 27 1 (.sc (.bool false)) 0 []),.f 28 3 1,.l 29 1 28,.m 30 5,.o (.ia 31 1 (.t 29) (.t 30)),.l 32 1 31] (.br [(.ld 26 false 1 (.t 25))] [(.o (.app 33 1 1 (.t 27) (.t 32)),(.br [(.ld 26 false 1 (.t 25))] [(.o (.bs 34 1 (.ls (some true) 1 []) 1 [(0,(.t 33))]),(.br [(.ld 26 false 1 (.t 25))] [(.o (.app 35 1 24 (.t 26) (.t 34)),(.br [] [(.f 36 3 4,(.br [] [(.s 1 36 35,(.br [] []))]))]))]))]))]))) (.r [.m 23 5,.o (.bin 24 .add (.t 23) (.ci 1)),.m 5 24])))))) (.seq (.s [.v 6 (.ci 0)] (.gX 2 (.loop (.seq (.s [.m 37 6,.f 38 4 1,.l 39 1 38,.o (.len 40 (.t 39)),.o (.bin 41 .lss (.t 37) (.t 40))] (.cond (.t 41) .skip (.exit 2))) (.seq (.gX 3 (.s [.f 44 2 1,.l 45 1 44,.c 46 f2 [.t 45],.m 7 46] (.seq (.s [.v 8 (.ci 0)] (.gX 4 (.loop (.seq (.s [.m 47 8,.m 48 7,.o (.len 49 (.t 48)),.o (.bin 50 .lss (.t 47) (.t 49))] (.cond (.t 50) .skip (.exit 4))) (.seq (.gX 5 (.s [.v 9 (.ci 0)] (.gX 6 (.loop (.seq (.s [.m 53 9,.m 54 7,.o (.len 55 (.t 54)),.o (.bin 56 .lss (.t 53) (.t 55))] (.cond (.t 56) .skip (.exit 6))) (.seq (.gX 7 (.jI true [.m 59 7,.m 60 8,.o (.ia 61 1 (.t 59) (.t 60)),.l 62 1 61,.m 63 9,.f 64 4 1,.l 65 1 64,.m 66 6,.o (.ia 67 1 (.t 65) (.t 66)),.l 68 1 67,.m 69 8,.o (.ia 70 1 (.t 68) (.t 69)),.l 71 1 70,.m 72 9,.o (.ia 73 1 (.t 71) (.t 72)),.l 74 1 73,.o (.bin 75 .neq (.t 74) (.c (.sc (.int .i64 (-1))))),.o (.ia 76 1 (.t 62) (.t 63)),.s 1 76 75])) (.r [.m 57 9,.o (.bin 58 .add (.t 57) (.ci 1)),.m 9 58]))))))) (.r [.m 51 8,.o (.bin 52 .add (.t 51) (.ci 1)),.m 8 52])))))) (.r [.f 77 4 4,.l 78 1 77,.m 79 7,.o (.bs 80 1 (.ls (some true) 1 []) 1 [(0,(.t 79))]),.o (.app 81 1 24 (.t 78) (.t 80)),.f 82 4 4,.s 1 82 81])))) (.r [.m 42 6,.o (.bin 43 .add (.t 42) (.ci 1)),.m 6 43])))))) (.s [.L 83 5 4,.s 5 2 83,.v 3 (.ci 0)] .ret))))))
def wx(P:Program)(iV:Nat):Prop:=∀(m:Co)(H0:∀r∈m.2.2.1.2,r.1=some false),AF P iV [pc m] (.lf ([.own (eM (qW m).1),.own (eI (qW m).2)]))
variable {f1 f2:Nat}
def EN(hm:Mx P)(hr:il P g=some (84,wK f1 f2,[.c 2 5 true,.t 3]))(iS:qb P f1)(jw:vw P f2):wx P g:=by
 intro m H0;obtain⟨gs,p,T,A⟩:=m;refine fY hr hm rfl fun hb=>?_;simp+contextual-implicitDefEqProofs only[wK,D.size,D.fS,pc,eM,eS,eI,bE,bne,bN,bU,go_sem];refine fL (ds:=[.pt (pc (gs,p,T,A)) 0]) (by rfl) (iS (gs,p,T,A)) ?_;cases ho:pE (gs,p,T,A)
 ·rw[show qW (gs,p,T,A)=(Dk,1)by simp[qW,ho]];simp+contextual-implicitDefEqProofs only[Dk,qU,D.put,D.cells,D.size,D.fS,D.fX,fU,fO,eB,D.sub,bE,bne,bN,bU,bJ,bP,aL,go_sem]
 obtain⟨n,hC⟩:=OE ho;obtain rfl:p=n:=hC.Cf;have n8:=hC.n8;have n1:=hC.n1;have tl:=hC.tl;have al:=hC.al;simp only at tl al;rw[show qW (gs,(n:Int),T,A)=(j5 (gs,(n:Int),T,A) n,0)by simp[qW,ho]];have hS:=OH (c:=(gs,(n:Int),T,A)) (n:=n);simp only[eM,eS,eI]at hS;simp+contextual-implicitDefEqProofs only[qU,D.put,D.cells,D.size,D.fS,D.fX,fU,fO,eB,D.sub,bE,bne,bT,bN,bU,bP,aL,go_sem,Nat.reduceSub];refine gL (α:=Nat) [5,18,19,20,21,22,23,24,25,26,27,28,29,30,31,32,33,34,35,36] (fun i=>[(5,.im none (.sc (.int .i64 i)))]) (fun i=>[(4,.ar true (some false) 5 [.ag [.sc (.int .i64 gs.1),.sc (.int .i64 gs.2),.sc (.int .i64 n),.ls (wj (T.2.take i)) 1 ((T.2.take i).map Ha),.ls (some true) 1 []]]),(2,.ar true (some false) 5 [.ag [.sc (.int .i64 0),.sc (.int .i64 0),.sc (.int .i64 0),.ls (some true) 1 [],.ls (some true) 1 []]]),(1,.ar false (some false) 5 [.ag [.sc (.int .i64 gs.1),.sc (.int .i64 gs.2),.sc (.int .i64 n),.ls T.1 1 (T.2.map (eS 1 eB)),.ls A.1 1 (A.2.map (eS 1 (eS 1 eI)))]])]) (fun i=>i≤T.2.length) (fun i=>T.2.length-i) 0 (gO.to [] (by simp only[go_sem];rfl) rfl (by simp[wj]) (by rfl) (by simp only[fR,go_sem,iD,iP]<;>simp)) (aq _) ?_;intro i wd
 by_cases hi:i<T.2.length
 ·have e1:=ie (f:=eS 1 eB) hi;have vu:=hC.tr _ (aF hi);have ab3:=H0 _ (aF hi);rcases hTi:T.2[i]with⟨rn,_|⟨b,l⟩⟩;rw[hTi]at vu;simp at vu;omega;rw[hTi]at e1 vu ab3;simp+contextual-implicitDefEqProofs only[hi,e1,qU,aej,lC,lK,D.put,D.cells,D.size,D.fX,fU,fO,lM,eS,eB,D.sub,bE,bne,bN,bG,bU,bJ,bP,aL,go_sem,Nat.reduceMul,iL,iN];simp only[lK]at vu;refine⟨⟨by omega,by unfold gz;omega,acb⟩,rfl,?_⟩;have hsm:=tl;refine⟨⟨by(try simp);omega,by unfold gz;(try simp);omega,by simp[D.size]⟩,i+1,by omega,by omega,?_⟩;rw[fQ (by omega) (by omega)];exact gO.to [] (by simp only[go_sem];rfl) rfl (by simp[uv hi,qG hi,Ha,hTi,eB]) (by rfl) (by simp only[fR,go_sem]<;>simp)
 rw[b9 (show T.2.length≤i by omega)];simp+contextual-implicitDefEqProofs only[hi,qU,D.fX,lM,D.sub,go_sem,iL];refine gL (α:=Nat) [6,7,8,9,37,38,39,40,41,42,43,44,45,46,47,48,49,50,51,52,53,54,55,56,57,58,59,60,61,62,63,64,65,66,67,68,69,70,71,72,73,74,75,76,77,78,79,80,81,82] (fun i=>[(6,.im none (.sc (.int .i64 i)))]) (fun i=>[(4,.ar true (some false) 5 [.ag [.sc (.int .i64 gs.1),.sc (.int .i64 gs.2),.sc (.int .i64 n),.ls (wj (T.2)) 1 ((T.2).map Ha),.ls (wj (A.2.take i)) 1 ((A.2.take i).map (Kb n))]]),(2,.ar true (some false) 5 [.ag [.sc (.int .i64 0),.sc (.int .i64 0),.sc (.int .i64 0),.ls (some true) 1 [],.ls (some true) 1 []]]),(1,.ar false (some false) 5 [.ag [.sc (.int .i64 gs.1),.sc (.int .i64 gs.2),.sc (.int .i64 n),.ls T.1 1 (T.2.map (eS 1 eB)),.ls A.1 1 (A.2.map (eS 1 (eS 1 eI)))]])]) (fun i=>i≤A.2.length) (fun i=>A.2.length-i) 0 (gO.to [] (by simp only[go_sem];rfl) rfl (by simp[wj]) (by rfl) (by simp only[fR,go_sem,iD,iP]<;>simp)) (aq _) ?_;intro i wd
 by_cases hi:i<A.2.length
 ·have e1:=ie (f:=eS 1 (eS 1 eI)) hi;have sq:=hC.asq _ (aF hi);simp+contextual-implicitDefEqProofs only[hi,qU,D.fX,lM,D.sub,go_sem,iL];refine fL (ds:=[eI n]) (by rfl) (jw n (by omega)) ?_;simp+contextual-implicitDefEqProofs only[pG,bne,bN,bU,go_sem];refine gL (α:=Nat) [8,9,47,48,49,50,51,52,53,54,55,56,57,58,59,60,61,62,63,64,65,66,67,68,69,70,71,72,73,74,75,76] (fun x=>[(8,.im none (.sc (.int .i64 x)))]) (fun x=>[(46,.ar true (some false) 1 (rD n (G5 (Bv A.2[i]) x))),(4,.ar true (some false) 5 [.ag [.sc (.int .i64 gs.1),.sc (.int .i64 gs.2),.sc (.int .i64 n),.ls (wj (T.2)) 1 ((T.2).map Ha),.ls (wj (A.2.take i)) 1 ((A.2.take i).map (Kb n))]]),(2,.ar true (some false) 5 [.ag [.sc (.int .i64 0),.sc (.int .i64 0),.sc (.int .i64 0),.ls (some true) 1 [],.ls (some true) 1 []]]),(1,.ar false (some false) 5 [.ag [.sc (.int .i64 gs.1),.sc (.int .i64 gs.2),.sc (.int .i64 n),.ls T.1 1 (T.2.map (eS 1 eB)),.ls A.1 1 (A.2.map (eS 1 (eS 1 eI)))]])]) (fun x=>x≤n) (fun x=>n-x) 0 (gO.to [] (by simp only[go_sem];rfl) rfl (by simp[PE,Uy]) (by rfl) (by simp only[fR,go_sem,iD,iP]<;>simp)) (aq _) ?_;intro x XB
  by_cases hx:x<n
  ·simp+contextual-implicitDefEqProofs only[hx,go_sem,iL];refine gL (α:=Nat) [9,53,54,55,56,57,58,59,60,61,62,63,64,65,66,67,68,69,70,71,72,73,74,75,76] (fun y=>[(9,.im none (.sc (.int .i64 y)))]) (fun y=>[(46,.ar true (some false) 1 (rD n (wE (Bv A.2[i]) x y))),(4,.ar true (some false) 5 [.ag [.sc (.int .i64 gs.1),.sc (.int .i64 gs.2),.sc (.int .i64 n),.ls (wj (T.2)) 1 ((T.2).map Ha),.ls (wj (A.2.take i)) 1 ((A.2.take i).map (Kb n))]]),(2,.ar true (some false) 5 [.ag [.sc (.int .i64 0),.sc (.int .i64 0),.sc (.int .i64 0),.ls (some true) 1 [],.ls (some true) 1 []]]),(1,.ar false (some false) 5 [.ag [.sc (.int .i64 gs.1),.sc (.int .i64 gs.2),.sc (.int .i64 n),.ls T.1 1 (T.2.map (eS 1 eB)),.ls A.1 1 (A.2.map (eS 1 (eS 1 eI)))]])]) (fun y=>y≤n) (fun y=>n-y) 0 (gO.to [] (by simp only[go_sem];rfl) rfl (by simp[LX]) (by rfl) (by simp only[fR,go_sem,iD,iP]<;>simp)) (aq _) ?_;intro y hy0
   by_cases hy:y<n
   ·have a1:=Cx (R:=wE (Bv A.2[i]) x y) hx;have a2:=vC (f:=wE (Bv A.2[i]) x y x) hy;have ju:=Mw (R:=(Bv A.2[i])) (i:=x) (y:=y);have b1:=sq.at hx;have b2:=sq.ND hx hy;have b3:=sq.rows hx;have b4:=sq.len;have b5:(!(iOf A.2[i] x y== -1))=Bv A.2[i] x y:=rfl;rw[←b5]at ju;simp+contextual-implicitDefEqProofs only[hi,e1,qU,hx,hy,pG,ph,a1,a2,b1,b2,b3,b4,D.put,D.size,D.fX,lM,eS,D.sub,bE,bne,aL,lj,S6,go_sem,iL,iN];rw[fQ (by omega) (by omega),ju];exact⟨y+1,by omega,by omega,gO.to [] (by simp only[go_sem];rfl) rfl (by simp) (by rfl) (by simp only[fR,go_sem]<;>simp)⟩
   obtain rfl:y=n:=by omega
   simp+contextual-implicitDefEqProofs only[hy,go_sem,iL];rw[fQ (by omega) (by omega)];exact⟨x+1,by omega,by omega,gO.to [] (by simp only[go_sem];rfl) rfl (by simp[L9]) (by rfl) (by simp only[fR,go_sem]<;>simp)⟩
  obtain rfl:x=n:=by omega
  simp+contextual-implicitDefEqProofs only[hx,pG,qU,D.put,D.cells,D.size,D.fX,fU,fO,lM,D.sub,bE,bne,bN,bI,bG,bU,bP,aL,go_sem,Nat.reduceMul,iL];have hsm:=al;refine⟨rfl,⟨by(try simp);omega,by unfold gz;(try simp);omega,by simp[D.size]⟩,i+1,by omega,by omega,?_⟩;rw[fQ (by omega) (by omega)];exact gO.to [] (by simp only[go_sem];rfl) rfl (by simp[uv hi,qG hi,Kb,PG]) (by rfl) (by simp only[fR,go_sem]<;>simp)
 obtain rfl:i=A.2.length:=by omega
 rw[cO];simp+contextual-implicitDefEqProofs only[hi,qU,D.put,D.size,D.fS,D.fX,fU,fO,lM,D.sub,bE,bI,bU,bJ,aL,go_sem,iL];exact D.Le.of_eq hS.symm
def wH(f1 f2 f3 f4:Nat):RC:=(.s [.b 1 5 0,.o (.zer 2 5 (.ag [(.sc (.int .i64 0)),(.sc (.int .i64 0)),(.sc (.int .i64 0)),(.ls (some true) 1 []),(.ls (some true) 1 [])])),.v 3 (.ci 0)] (.seq (.s [.L 9 5 1,.c 10 f1 [.t 9],.o (.un 11 .not (.t 10))] (.cond (.t 11) (.s [.o (.bld 12 (.ag [(.sc (.int .i64 0)),(.sc (.int .i64 0)),(.sc (.int .i64 0)),(.ls (some true) 1 []),(.ls (some true) 1 [])]) []),.s 5 2 12,.v 3 (.ci 1)] .ret) .skip)) (.s [.f 13 0 1,.L 14 2 13,.f 15 2 1,.l 16 1 15,.o (.bld 17 (.ag [(.sc (.int .i64 0)),(.sc (.int .i64 0)),(.sc (.int .i64 0)),(.ls (some true) 1 []),(.ls (some true) 1 [])]) [(0,2,(.t 14)),(2,1,(.t 16))]),.o (.zer 4 5 (.ag [(.sc (.int .i64 0)),(.sc (.int .i64 0)),(.sc (.int .i64 0)),(.ls (some true) 1 []),(.ls (some true) 1 [])])),.s 5 4 17] (.seq (.s [.f 18 3 1,.l 19 1 18,.o (.len 20 (.t 19)),.v 21 (.ci 0)] (.gX 0 (.loop (.s [.o (.bin 22 .lss (.t 21) (.t 20))] (.seq (.cond (.t 22) .skip (.exit 0)) (.seq (.gX 1 (.s [.o (.ia 23 1 (.t 19) (.t 21)),.l 24 1 23,.m 6 24] (.jI true [.f 25 3 4,.l 26 1 25,.m 27 6,.c 28 f2 [.t 27],.o (.bs 29 1 (.ls (some true) 1 []) 1 [(0,(.t 28))]),.o (.app 30 1 24 (.t 26) (.t 29)),.f 31 3 4,.s 1 31 30]))) (.r [.o (.bin 32 .add (.t 21) (.ci 1)),.m 21 32]))))))) (.seq (.s [.f 33 4 1,.l 34 1 33,.o (.len 35 (.t 34)),.v 36 (.ci 0)] (.gX 2 (.loop (.s [.o (.bin 37 .lss (.t 36) (.t 35))] (.seq (.cond (.t 37) .skip (.exit 2)) (.seq (.gX 3 (.s [.o (.ia 38 1 (.t 34) (.t 36)),.l 39 1 38,.o (.zer 8 1 (.ls (some true) 1 [])),.s 1 8 39] (.jI true [.f 40 4 4,.l 41 1 40,.f 42 2 1,.l 43 1 42,.o (.mkf 44 f4 [.t 8]),.c 45 f3 [.t 43,.t 44],.o (.bs 46 1 (.ls (some true) 1 []) 1 [(0,(.t 45))]),.o (.app 47 1 24 (.t 41) (.t 46)),.f 48 4 4,.s 1 48 47]))) (.r [.o (.bin 49 .add (.t 36) (.ci 1)),.m 36 49]))))))) (.s [.L 50 5 4,.s 5 2 50,.v 3 (.ci 0)] .ret))))))
def wB(P:Program)(iV:Nat):Prop:=∀(m:Co)(H0:∀r∈m.2.2.1.2,r.1=some false),AF P iV [pc m] (.lf ([.own (eM (qW m).1),.own (eI (qW m).2)]))
variable {f3 f4:Nat}
def EO(hm:Mx P)(hr:il P g=some (51,wH f1 f2 f3 f4,[.c 2 5 true,.t 3]))(iS:od P f1)(jw:Hr P f2)(pd:u6 P f3)(zd:xh P f4):wB P g:=by
 intro m H0;obtain⟨gs,p,T,A⟩:=m;refine fY hr hm rfl fun hb=>?_;simp+contextual-implicitDefEqProofs only[wH,qU,D.size,D.fS,D.fX,pc,eM,eS,eI,D.sub,bE,bne,bN,bU,go_sem];refine fL (ds:=[pc (gs,p,T,A)]) (by rfl) (iS (gs,p,T,A)) ?_;cases ho:pE (gs,p,T,A)
 ·rw[show qW (gs,p,T,A)=(Dk,1)by simp[qW,ho]];simp+contextual-implicitDefEqProofs only[Dk,qU,D.put,D.cells,D.size,D.fS,D.fX,fU,fO,eB,D.sub,bE,bne,bN,bU,bJ,bP,aL,go_sem]
 obtain⟨n,hC⟩:=OE ho;obtain rfl:p=n:=hC.Cf;have n8:=hC.n8;have n1:=hC.n1;have tl:=hC.tl;have al:=hC.al;simp only at tl al;rw[show qW (gs,(n:Int),T,A)=(j5 (gs,(n:Int),T,A) n,0)by simp[qW,ho]];have hS:=OH (c:=(gs,(n:Int),T,A)) (n:=n);simp only[eM,eS,eI]at hS;simp+contextual-implicitDefEqProofs only[qU,D.put,D.cells,D.size,D.fS,D.fX,fU,fO,lM,eB,D.sub,bE,bne,bT,bN,bU,bP,aL,go_sem,Nat.reduceSub];refine gL (α:=Nat) [6,21,22,23,24,25,26,27,28,29,30,31,32] (fun i=>[(21,.im none (.sc (.int .i64 i)))]) (fun i=>[(4,.ar true (some false) 5 [.ag [.sc (.int .i64 gs.1),.sc (.int .i64 gs.2),.sc (.int .i64 n),.ls (wj (T.2.take i)) 1 ((T.2.take i).map Ha),.ls (some true) 1 []]]),(2,.ar true (some false) 5 [.ag [.sc (.int .i64 0),.sc (.int .i64 0),.sc (.int .i64 0),.ls (some true) 1 [],.ls (some true) 1 []]]),(1,.ar false (some false) 5 [.ag [.sc (.int .i64 gs.1),.sc (.int .i64 gs.2),.sc (.int .i64 n),.ls T.1 1 (T.2.map (eS 1 eB)),.ls A.1 1 (A.2.map (eS 1 (eS 1 eI)))]])]) (fun i=>i≤T.2.length) (fun i=>T.2.length-i) 0 (gO.to [] (by simp only[go_sem];rfl) rfl (by simp[wj]) (by rfl) (by simp only[fR,go_sem,iD,iP]<;>simp)) (aq _) ?_;intro i wd
 by_cases hi:i<T.2.length
 ·have e1:=ie (f:=eS 1 eB) hi;have vu:=hC.tr _ (aF hi);have ab3:=H0 _ (aF hi);rcases hTi:T.2[i]with⟨rn,_|⟨b,l⟩⟩;rw[hTi]at vu;simp at vu;omega;rw[hTi]at e1 vu ab3;simp+contextual-implicitDefEqProofs only[hi,e1,qU,lC,D.size,D.fX,lM,eS,eB,D.sub,go_sem,iL,iN];refine fL (ds:=[eS 1 eB (rn,b::l)]) (by rfl) (jw (rn,b::l) ab3 (by simp only[lK]at vu⊢;omega)) ?_;simp+contextual-implicitDefEqProofs only[qU,D.put,D.cells,D.size,D.fX,fU,fO,lM,eB,D.sub,bE,bne,bN,bG,bU,bJ,bP,aL,go_sem,Nat.reduceMul];have hsm:=tl;refine⟨rfl,⟨by(try simp);omega,by unfold gz;(try simp);omega,by simp[D.size]⟩,i+1,by omega,by omega,?_⟩;rw[fQ (by omega) (by omega)];exact gO.to [] (by simp only[go_sem];rfl) rfl (by simp[uv hi,qG hi,Ha,hTi,eB]) (by rfl) (by simp only[fR,go_sem]<;>simp)
 rw[b9 (show T.2.length≤i by omega)];simp+contextual-implicitDefEqProofs only[hi,qU,D.fX,lM,D.sub,go_sem,iL];refine gL (α:=Nat) [8,36,37,38,39,40,41,42,43,44,45,46,47,48,49] (fun i=>[(36,.im none (.sc (.int .i64 i)))]) (fun i=>[(4,.ar true (some false) 5 [.ag [.sc (.int .i64 gs.1),.sc (.int .i64 gs.2),.sc (.int .i64 n),.ls (wj (T.2)) 1 ((T.2).map Ha),.ls (wj (A.2.take i)) 1 ((A.2.take i).map (Kb n))]]),(2,.ar true (some false) 5 [.ag [.sc (.int .i64 0),.sc (.int .i64 0),.sc (.int .i64 0),.ls (some true) 1 [],.ls (some true) 1 []]]),(1,.ar false (some false) 5 [.ag [.sc (.int .i64 gs.1),.sc (.int .i64 gs.2),.sc (.int .i64 n),.ls T.1 1 (T.2.map (eS 1 eB)),.ls A.1 1 (A.2.map (eS 1 (eS 1 eI)))]])]) (fun i=>i≤A.2.length) (fun i=>A.2.length-i) 0 (gO.to [] (by simp only[go_sem];rfl) rfl (by simp[wj]) (by rfl) (by simp only[fR,go_sem,iD,iP]<;>simp)) (aq _) ?_;intro i wd
 by_cases hi:i<A.2.length
 ·have e1:=ie (f:=eS 1 (eS 1 eI)) hi;have sq:=hC.asq _ (aF hi);simp+contextual-implicitDefEqProofs only[hi,e1,qU,D.put,D.size,D.fX,fU,fO,lM,eS,D.sub,bE,bne,bN,bU,aL,go_sem,iL,iN];refine fL (ds:=[eI n,.fn f4 [.pt (eS 1 (eS 1 eI) A.2[i]) 0]]) (by rfl) (pd n f4 _ (Bv A.2[i]) (by omega) (fun x y hx hy=>zd n A.2[i] x y sq hx hy)) ?_;rw[show((some false,g7 n fun x=>(some false,g7 n ((Bv A.2[i]) x))):SL (SL Bool))=mK n (Bv A.2[i])from rfl,rf];simp+contextual-implicitDefEqProofs only[qU,D.put,D.cells,D.size,D.fX,fU,fO,lM,D.sub,bE,bne,bN,bI,bG,bU,bP,aL,go_sem,Nat.reduceMul];have hsm:=al;refine⟨rfl,⟨by(try simp);omega,by unfold gz;(try simp);omega,by simp[D.size]⟩,i+1,by omega,by omega,?_⟩;rw[fQ (by omega) (by omega)];exact gO.to [8] (by simp only[go_sem];rfl) rfl (by simp[uv hi,qG hi,Kb]) (by rfl) (by simp only[fR,go_sem]<;>simp)
 obtain rfl:i=A.2.length:=by omega
 rw[cO];simp+contextual-implicitDefEqProofs only[hi,qU,D.put,D.size,D.fS,D.fX,fU,fO,D.sub,bE,bI,bU,bJ,aL,go_sem,iL];exact D.Le.of_eq hS.symm
def Iu:RC:=(.s [.o (.mv 4 (.c (.ls (some true) 1 [])))] (.s [.o (.bs 9 1 (.ls (some true) 1 []) 0 []),.m 5 9] (.seq (.s [.m 10 0,.v 11 (.ci 0)] (.gX 0 (.loop (.s [.o (.bin 12 .lss (.t 11) (.t 10))] (.seq (.cond (.t 12) .skip (.exit 0)) (.seq (.gX 1 (.s [.m 13 11,.m 6 13] (.s [.o (.bs 14 1 (.sc (.int .i64 0)) 0 []),.m 7 14] (.seq (.s [.m 15 0,.v 16 (.ci 0)] (.gX 2 (.loop (.s [.o (.bin 17 .lss (.t 16) (.t 15))] (.seq (.cond (.t 17) .skip (.exit 2)) (.seq (.gX 3 (.s [.m 18 16,.m 8 18] (.r [.m 19 7,.m 20 1,.m 21 6,.m 22 8,.o (.calv (some 23) (.t 20) [.t 21,.t 22]),.o (.bs 24 1 (.sc (.int .i64 0)) 1 [(0,(.t 23))]),.o (.app 25 1 8 (.t 19) (.t 24)),.m 7 25]))) (.r [.o (.bin 26 .add (.t 16) (.ci 1)),.m 16 26]))))))) (.r [.m 27 5,.m 28 7,.o (.bs 29 1 (.ls (some true) 1 []) 1 [(0,(.t 28))]),.o (.app 30 1 24 (.t 27) (.t 29)),.m 5 30]))))) (.r [.o (.bin 31 .add (.t 11) (.ci 1)),.m 11 31]))))))) (.s [.m 32 5,.m 4 32] .ret))))
def xX(P:Program)(iV:Nat):Prop:=∀(n f:Nat)(Ic:List D)(g:Nat→Nat→Int)(hn:n≤1000)(hf:∀x y:Nat,x<n→y<n→AF P f (eI x::eI y::Ic) (.own (eI (g x y)))),AF P iV [eI n,.fn f Ic] (.own (eS 1 (eS 1 eI) (some false,g7 n fun x=>(some false,g7 n (g x)))))
def WP(hm:Mx P)(hr:il P g=some (33,Iu,[.t 4])):xX P g:=by
 intro n f Ic g hn hf;refine fY hr hm rfl fun hb=>?_;simp+contextual-implicitDefEqProofs only[Iu,go_sem,eI];refine gL (α:=Nat) [5,6,7,8,9,11,12,13,14,15,16,17,18,19,20,21,22,23,24,25,26,27,28,29,30,31] (fun i=>[(11,.im none (.sc (.int .i64 i))),(5,.sm 9 0 i)]) (fun i=>[(9,.ar true (some false) 1 (g7 i fun x=>eS 1 eI (some false,g7 n (g x))))]) (fun i=>i≤n) (fun i=>n-i) 0 (gO.to [] (by simp only[go_sem];rfl) rfl (by simp[su]) (by rfl) (by simp only[fR,go_sem,iD,iP]<;>simp)) (aq _) ?_;intro i wd
 by_cases hi:i<n
 ·simp+contextual-implicitDefEqProofs only[hi,go_sem,iL];refine gL (α:=Nat) [7,8,14,16,17,18,19,20,21,22,23,24,25,26] (fun j=>[(16,.im none (.sc (.int .i64 j))),(7,.sm 14 0 j)]) (fun j=>[(14,.ar true (some false) 1 (g7 j fun y=>eI (g i y))),(9,.ar true (some false) 1 (g7 i fun x=>eS 1 eI (some false,g7 n (g x))))]) (fun j=>j≤n) (fun j=>n-j) 0 (gO.to [] (by simp only[go_sem];rfl) rfl (by simp[su]) (by rfl) (by simp only[fR,go_sem,iD,iP]<;>simp)) (aq _) ?_;intro j Sg
  by_cases hj:j<n
  ·simp+contextual-implicitDefEqProofs only[hj,go_sem,eI,iL];refine fL (ds:=eI i::eI j::Ic) (by simp only[kI,AV.arg,xF];rfl) (hf i j hi hj) ?_;simp+contextual-implicitDefEqProofs only[g8,go_sem,eI,Nat.reduceMul];refine⟨rfl,⟨by omega,by unfold gz;omega,by simp[D.size]⟩,j+1,by omega,by omega,?_⟩;rw[fQ (by omega) (by omega)];exact gO.Eq (by simp only[lI]) (by simp only[fR,go_sem]<;>simp)
  obtain rfl:j=n:=by omega
  simp+contextual-implicitDefEqProofs only[hj,g8,go_sem,eI,Nat.reduceMul,iL];refine⟨rfl,⟨by omega,by unfold gz;omega,by simp[D.size]⟩,i+1,by omega,by omega,?_⟩;rw[fQ (by omega) (by omega)];exact gO.Eq (by simp only[lI,eS,mj,eI]) (by simp only[fR,go_sem]<;>simp)
 obtain rfl:i=n:=by omega
 simp+contextual-implicitDefEqProofs only[hi,g8,go_sem,iL];exact D.Le.of_eq (by simp only[eS,mj])
def Ds(f1 f2:Nat):RC:=(.s [.v 6 (.ci 0)] (.s [.o (.mv 7 (.c (.sc (.int .i64 (-1)))))] (.seq (.s [.l 9 1 2,.o (.len 10 (.t 9)),.v 11 (.ci 0)] (.gX 0 (.loop (.s [.o (.bin 12 .lss (.t 11) (.t 10))] (.seq (.cond (.t 12) .skip (.exit 0)) (.seq (.gX 1 (.s [.m 13 11,.m 8 13] (.jI true [.m 14 7,.l 15 1 3,.m 16 0,.o (.ia 17 1 (.t 15) (.t 16)),.l 18 1 17,.m 19 8,.o (.ia 20 1 (.t 18) (.t 19)),.l 21 1 20,.l 22 1 2,.m 23 8,.o (.ia 24 1 (.t 22) (.t 23)),.l 25 1 24,.m 26 1,.o (.ia 27 1 (.t 25) (.t 26)),.l 28 1 27,.c 29 f1 [.t 21,.t 28],.c 30 f2 [.t 14,.t 29],.m 7 30]))) (.r [.o (.bin 31 .add (.t 11) (.ci 1)),.m 11 31]))))))) (.s [.m 32 7,.m 6 32] .ret))))
def xt(P:Program)(iV:Nat):Prop:=∀(n:Nat)(a b:SL (SL Int))(x y:Nat)(hn:n≤1000)(ha:Sm n a)(qM:Sm n b)(oa:ng n (gB a))(ob:ng n (gB b))(hx:x<n)(hy:y<n),AF P iV [eI x,eI y,.pt (eS 1 (eS 1 eI) b) 0,.pt (eS 1 (eS 1 eI) a) 0] (.own (eI (lT n (gB a) (gB b) x y)))
def MU(hm:Mx P)(hr:il P g=some (33,Ds f1 f2,[.t 6]))(iS:wW P f1)(jw:vE P f2):xt P g:=by
 intro n a b x y hn ha qM oa ob hx hy;refine fY hr hm rfl fun hb=>?_;have la:=ha.len;have lb:=qM.len;have ax:=ha.at hx;have rx:=ha.rows hx;simp+contextual-implicitDefEqProofs only[Ds,eS,lb,go_sem,eI,lM];refine gL (α:=Nat) [7,8,11,12,13,14,15,16,17,18,19,20,21,22,23,24,25,26,27,28,29,30,31] (fun z=>[(11,.im none (.sc (.int .i64 z))),(7,.im none (.sc (.int .i64 (pr (gB a) (gB b) z x y))))]) (fun z=>[]) (fun z=>z≤n) (fun z=>n-z) 0 (gO.to [] (by simp only[go_sem];rfl) rfl (by simp) (by rfl) (by simp only[fR,go_sem,iD,iP]<;>simp[pr])) (aq _) ?_;intro z HV
 by_cases hz:z<n
 ·have az:=ha.ND hx hz;have bz:=qM.at hz;have by_:=qM.ND hz hy;have rz:=qM.rows hz;simp+contextual-implicitDefEqProofs only[ax,az,bz,by_,hz,hx,hy,la,lb,rx,rz,D.size,D.sub,go_sem,iL,lM,iN];refine fL (ds:=[eI ((gB a) x z),eI ((gB b) z y)]) (by rfl) (iS _ _ (oa x z hx hz) (ob z y hz hy)) ?_;simp+contextual-implicitDefEqProofs only[eI,go_sem];refine fL (ds:=[eI (pr (gB a) (gB b) z x y),eI (tg ((gB a) x z) ((gB b) z y))]) (by rfl) (jw _ _) ?_;simp+contextual-implicitDefEqProofs only[eI,go_sem];rw[fQ (by omega) (by omega)];exact⟨z+1,by omega,by omega,gO.to [] (by simp only[go_sem];rfl) rfl (by simp) (by rfl) (by simp only[fR,go_sem]<;>simp[pr])⟩
 obtain rfl:z=n:=by omega
 simp+contextual-implicitDefEqProofs only[hz,go_sem,iL];exact D.Le.refl _
def E5(f1 f2:Nat):RC:=(.s [.b 2 1 0,.b 3 1 1,.o (.mv 4 (.c (.ls (some true) 1 [])))] (.s [.l 5 1 2,.o (.len 6 (.t 5)),.o (.mkf 7 f2 [.t 3,.t 2]),.c 8 f1 [.t 6,.t 7],.m 4 8] .ret))
def vF(P:Program)(iV:Nat):Prop:=∀(n:Nat)(a b:SL (SL Int))(hn:n≤1000)(ha:Sm n a)(qM:Sm n b)(oa:ng n (gB a))(ob:ng n (gB b)),AF P iV [eS 1 (eS 1 eI) a,eS 1 (eS 1 eI) b] (.own (eS 1 (eS 1 eI) (oY n (lT n (gB a) (gB b)))))
def RI(hm:Mx P)(hr:il P g=some (9,E5 f1 f2,[.t 4]))(iS:xX P f1)(jw:xt P f2):vF P g:=by
 intro n a b hn ha qM oa ob;refine fY hr hm rfl fun hb=>?_;have la:=ha.len;simp+contextual-implicitDefEqProofs only[E5,eS,D.at,D.sub,la,go_sem,lM];refine fL (ds:=[eI n,.fn f2 [.pt (eS 1 (eS 1 eI) b) 0,.pt (eS 1 (eS 1 eI) a) 0]]) (by rfl) (iS n f2 _ (lT n (gB a) (gB b)) hn (fun x y hx hy=>jw n a b x y hn ha qM oa ob hx hy)) ?_;simp+contextual-implicitDefEqProofs only[eS,oY,go_sem]
def N0{f:Nat}(h:vF P f){A B:lA}(hn:n≤1000)(oA:ng n A)(oB:ng n B):AF P f [.ls (some false) 1 (mD n A),.ls (some false) 1 (mD n B)] (.own (.ls (some false) 1 (mD n (lT n A B)))):=by
 have:=h n (oY n A) (oY n B) hn yp yp (xU oA) (xU oB);rw[sx,sx,sx]at this;rw[Jr]at this;exact this
def rQ(n:Nat)(rs:List lA):D:=.ls (some false) 1 (rs.map fun R=>.ls (some false) 1 (mD n R))
def xd{R:lA}:eS 1 (eS 1 eI) (some false,g7 n fun x=>(some false,g7 n (R x)))=.ls (some false) 1 (mD n R):=sx
def J9:RC:=(.s [.v 6 (.ci 0)] (.s [.f 7 4 2,.l 8 1 7,.f 9 1 3,.l 10 1 9,.o (.ia 11 1 (.t 8) (.t 10)),.l 12 1 11,.m 13 0,.o (.ia 14 1 (.t 12) (.t 13)),.l 15 1 14,.m 16 1,.o (.ia 17 1 (.t 15) (.t 16)),.l 18 1 17,.m 6 18] .ret))
def Ch(P:Program)(iV:Nat):Prop:=∀(m:Co)(n:Nat)(k v:Int)(nn:Option Bool)(ks:List Ex)(x y:Nat)(hC:xP m n)(hx:x<n)(hy:y<n)(h0:0≤v)(h1:v.toNat<m.2.2.2.2.length),AF P iV [eI x,eI y,.pt (pc m) 0,.pt (eE (.mk k v nn ks)) 0] (.own (eI (gB (oX m v) x y)))
def TG(hm:Mx P)(hr:il P g=some (19,J9,[.t 6])):Ch P g:=by
 intro m n k v nn ks x y hC hx hy h0 h1;obtain⟨gs,p,T,A⟩:=m;obtain rfl:p=n:=hC.Cf;have xR:=oR h0 h1;have t1:=lz (f:=eS 1 (eS 1 eI)) (d:=(none,[])) h1;have t2:=hC.asq _ (ji (d:=(none,[])) h1);have t3:=t2.at hx;have t4:=t2.ND hx hy;have t5:=t2.len;have t6:=t2.rows hx;simp only at h1 xR t1 t2 t3 t4 t5 t6;rw[gM];refine fY hr hm rfl fun hb=>?_;simp+contextual-implicitDefEqProofs only[J9,t1,t3,t4,t5,t6,h0,xR,hx,hy,pc,eS,eI,D.size,D.fS,D.sub,D.fX,go_sem,iL,lM,iN];exact D.Le.refl _
def CU:RC:=(.s [.v 5 (.ci 0)] (.seq (.s [.m 6 0,.m 7 1,.o (.bin 8 .eql (.t 6) (.t 7))] (.cond (.t 8) (.s [.v 5 (.ci 0)] .ret) .skip)) (.s [.l 9 1 2,.i 10 1 9 0,.l 11 1 10,.m 12 0,.o (.ia 13 1 (.t 11) (.t 12)),.l 14 1 13,.m 15 1,.o (.ia 16 1 (.t 14) (.t 15)),.l 17 1 16,.m 5 17] .ret)))
def DN(P:Program)(iV:Nat):Prop:=∀(n:Nat)(R:lA)(x y:Nat)(hx:x<n)(hy:y<n),AF P iV [eI x,eI y,.pt (rQ n [R]) 0] (.own (eI (Kt R x y)))
def UO(hm:Mx P)(hr:il P g=some (18,CU,[.t 5])):DN P g:=by
 intro n R x y hx hy;have b1:=mP (R:=R) hx;have b2:=kh (f:=R x) hy;refine fY hr hm rfl fun hb=>?_;cases hv:(x==y)
 ·rw[show Kt R x y=R x y by simp[Kt,show ¬x=y by simpa using hv]];simp+contextual-implicitDefEqProofs only[CU,rQ,qU,b1,b2,hx,hy,n9,hv,iG,iO,eI,D.size,D.sub,aG,Int.reduceLT,aV,D.fX,lN,lC,lK,lZ,go_sem,iL,iN]
 rw[show Kt R x y=0 by simp[Kt,show x=y by simpa using hv]];simp+contextual-implicitDefEqProofs only[CU,rQ,n9,hv,eI,lN,lC,go_sem]
def qF(f1:Nat):RC:=(.s [.v 7 (.ci 0)] (.s [.v 8 .cf] (.seq (.s [.f 9 0 2,.l 10 1 9] (.gX 0 (.s [.q 12 10 6,.m 11 12] (.cond (.t 11) (.seq (.jI true [.l 13 1 3,.i 14 1 13 0,.l 15 1 14,.m 16 0,.o (.ia 17 1 (.t 15) (.t 16)),.l 18 1 17,.m 19 1,.o (.ia 20 1 (.t 18) (.t 19)),.l 21 1 20,.l 22 1 3,.i 23 1 22 1,.l 24 1 23,.m 25 0,.o (.ia 26 1 (.t 24) (.t 25)),.l 27 1 26,.m 28 1,.o (.ia 29 1 (.t 27) (.t 28)),.l 30 1 29,.c 31 f1 [.t 21,.t 30],.m 7 31]) .ret) (.s [.q 33 10 2,.m 32 33] (.cond (.t 32) (.r [.m 34 0,.m 35 1,.o (.bin 36 .eql (.t 34) (.t 35)),.m 8 36]) (.s [.q 38 10 3,.m 37 38] (.cond (.t 37) (.r [.m 39 0,.m 40 1,.o (.bin 41 .eql (.t 39) (.t 40)),.m 42 41,.w 42 (.fa 43 3 (.t 4)),.w 42 (.ld 44 false 1 (.t 43)),.w 42 (.fa 45 1 (.t 2)),.w 42 (.ld 46 false 1 (.t 45)),.w 42 (.ia 47 1 (.t 44) (.t 46)),.w 42 (.ld 48 false 1 (.t 47)),.wm 42 49 0,.w 42 (.ia 50 1 (.t 48) (.t 49)),.w 42 (.ld 51 false 1 (.t 50)),.k 52 42 51,.m 8 52]) (.s [.q 54 10 5,.m 53 54] (.cond (.t 53) (.r [.m 55 0,.m 56 1,.o (.bin 57 .eql (.t 55) (.t 56)),.m 58 57,.w 58 (.ld 59 false 1 (.t 3)),.w 58 (.ia 60 1 (.t 59) (.ci 0)),.w 58 (.ld 61 false 1 (.t 60)),.wm 58 62 0,.w 58 (.ia 63 1 (.t 61) (.t 62)),.w 58 (.ld 64 false 1 (.t 63)),.wm 58 65 1,.w 58 (.ia 66 1 (.t 64) (.t 65)),.w 58 (.ld 67 false 1 (.t 66)),.w 58 (.bin 68 .eql (.t 67) (.c (.sc (.int .i64 (-1))))),.k 69 58 68,.m 8 69]) .skip)))))))))) (.seq (.s [.m 70 8] (.cond (.t 70) (.s [.v 7 (.ci 0)] .ret) .skip)) (.s [.o (.mv 7 (.c (.sc (.int .i64 (-1)))))] .ret)))))
def DH(P:Program)(iV:Nat):Prop:=∀(m:Co)(n:Nat)(k v:Int)(nn:Option Bool)(ks:List Ex)(x y:Nat)(hC:xP m n)(rs:List lA)(hx:x<n)(hy:y<n)(hl:rs.length=ks.length)(hK:D9 (EF m n) k v ks)(Lb:k≠4∧k≠7∧k≠8),AF P iV [eI x,eI y,.pt (eE (.mk k v nn ks)) 0,.pt (rQ n rs) 0,.pt (pc m) 0] (.own (eI (gZ m k v rs x y)))
def Ub(hm:Mx P)(hr:il P g=some (71,qF f1,[.t 7]))(iS:vE P f1):DH P g:=by
 intro m n k v nn ks x y hC rs hx hy hl hK Lb;obtain⟨gs,p,T,A⟩:=m;obtain rfl:p=n:=hC.Cf;rw[gM];refine fY hr hm rfl fun hb=>?_;cases hv:(x==y)
 all_goals
 cases hK with
 |zero hk ky=>
  subst hk ky;rw[show gZ (gs,(n:Int),T,A) 1 v rs x y= -1 by simp[gZ,pf]];simp+contextual-implicitDefEqProofs only[qF,pc,eS,eI,D.size,D.fS,D.sub,Int.reduceBEq,D.fX,lN,go_sem]
 |one hk ky=>
  subst hk ky;rw[show gZ (gs,(n:Int),T,A) 2 v rs x y=(if(x==y)=true then 0 else -1)by simp[gZ,po],hv];simp+contextual-implicitDefEqProofs only[qF,n9,hv,pc,eS,eI,D.size,D.fS,D.sub,Int.reduceBEq,bE,D.fX,lN,go_sem]
 |test hk ky h0 h1=>
  subst hk ky;have h1:v.toNat<T.2.length:=h1;have xR:=oR h0 h1;have t1:=lz (f:=eS 1 eB) (d:=(none,[])) h1;have t2:=hC.tr _ (ji (d:=(none,[])) h1);simp only at h1 xR t1 t2;have t5:x<(T.2.getD v.toNat (none,[])).2.length:=by omega
  have t3:=lz (f:=eB) (d:=false) t5;have t4:(T.2.getD v.toNat (none,[])).2.getD x false=EK (gs,(n:Int),T,A) v x:=rfl;rw[t4]at t3;rw[show gZ (gs,(n:Int),T,A) 3 v rs x y=(if(x==y)=true then yy (gs,(n:Int),T,A) v x else -1)by simp[gZ,po],hv];cases ht:EK (gs,(n:Int),T,A) v x
  all_goals
   rw[ht]at t3;simp only[yy,ht,ay,mI,aA];simp+contextual-implicitDefEqProofs only[qF,n9,hv,t1,t2,t3,h0,xR,hx,eB,pc,eS,eI,D.size,D.fS,D.sub,Int.reduceBEq,bE,D.fX,lN,go_sem,iL,lM,iN]
 |nt hk a ky=>
  subst hk ky;obtain⟨R0,rfl⟩:∃R0,rs=[R0]:=by
   match rs,hl with
   | [a],_=>exact⟨a,rfl⟩
  have b1:=mP (R:=R0) hx;have b2:=kh (f:=R0 x) hy;rw[show gZ (gs,(n:Int),T,A) 5 v [R0] x y=(if(x==y)=true then(if R0 x y= -1 then 0 else -1)else -1)by(by_cases e:x=y;(subst e;simp[gZ,po,Av]);(simp[gZ,po,e])),hv]
  by_cases hw:R0 x y= -1
  ·have EA:(R0 x y== -1)=true:=by simpa using hw
   simp only[ay,mI,aA,af hw];simp+contextual-implicitDefEqProofs only[qF,rQ,qU,n9,hv,b1,b2,hx,hy,EA,iG,iO,pc,eS,eI,D.size,D.fS,D.sub,aG,Int.reduceLT,aV,Int.reduceBEq,bE,D.fX,lN,lC,lK,lZ,go_sem,iL,iN]
  have EA:(R0 x y== -1)=false:=by simpa using hw
  simp only[ay,mI,aA,ae hw];simp+contextual-implicitDefEqProofs only[qF,rQ,qU,n9,hv,b1,b2,hx,hy,EA,iG,iO,pc,eS,eI,D.size,D.fS,D.sub,aG,Int.reduceLT,aV,Int.reduceBEq,bE,D.fX,lN,lC,lK,lZ,go_sem,iL,iN]
 |sum hk a b ky=>
  subst hk ky;obtain⟨R0,R1,rfl⟩:∃R0 R1,rs=[R0,R1]:=by
   match rs,hl with
   | [a,b],_=>exact⟨a,b,rfl⟩
  have b1:=mP (R:=R0) hx;have b2:=kh (f:=R0 x) hy;have b3:=mP (R:=R1) hx;have b4:=kh (f:=R1 x) hy;rw[show gZ (gs,(n:Int),T,A) 6 v [R0,R1] x y=ch (R0 x y) (R1 x y)by simp[gZ,ER]];simp+contextual-implicitDefEqProofs only[qF,rQ,qU,at1,b1,b2,b3,b4,hx,hy,iG,iO,pc,eS,eI,D.size,D.fS,D.sub,aG,Int.reduceLT,Int.reduceLE,aV,bE,Int.reduceToNat,D.fX,lN,lC,lK,lZ,go_sem,iL,iN];refine fL (ds:=[eI (R0 x y),eI (R1 x y)]) (by rfl) (iS _ _) ?_;simp+contextual-implicitDefEqProofs only[eI,go_sem]
 |act hk=>exact absurd hk Lb.1
 |dot hk=>exact absurd hk Lb.2.1
 |star hk=>exact absurd hk Lb.2.2
def Oz(g f1 f2 f3 f4 f5:Nat):RC:=(.s [.b 2 5 0,.b 3 3 1,.o (.mv 4 (.c (.ls (some true) 1 [])))] (.s [.o (.bs 9 1 (.ls (some true) 1 []) 0 []),.o (.zer 5 1 (.ls (some true) 1 [])),.s 1 5 9] (.seq (.s [.f 10 2 3,.l 11 1 10,.o (.len 12 (.t 11)),.v 13 (.ci 0)] (.gX 0 (.loop (.s [.o (.bin 14 .lss (.t 13) (.t 12))] (.seq (.cond (.t 14) .skip (.exit 0)) (.seq (.gX 1 (.s [.o (.ia 15 3 (.t 11) (.t 13)),.L 16 3 15,.o (.zer 7 3 .ze),.s 3 7 16] (.jI true [.l 17 1 5,.L 18 5 2,.L 19 3 7,.c 20 g [.t 18,.t 19],.o (.bs 21 1 (.ls (some true) 1 []) 1 [(0,(.t 20))]),.o (.app 22 1 24 (.t 17) (.t 21)),.s 1 5 22]))) (.r [.o (.bin 23 .add (.t 13) (.ci 1)),.m 13 23]))))))) (.seq (.s [.f 24 0 3,.l 25 1 24] (.gX 2 (.s [.q 27 25 4,.m 26 27] (.cond (.t 26) (.s [.f 28 2 2,.l 29 1 28,.o (.mkf 30 f3 [.t 2,.t 3]),.c 31 f1 [.t 29,.t 30],.m 4 31] .ret) (.s [.q 33 25 7,.m 32 33] (.cond (.t 32) (.seq (.jI true [.l 34 1 5,.i 35 1 34 0,.l 36 1 35,.l 37 1 5,.i 38 1 37 1,.l 39 1 38,.c 40 f2 [.t 36,.t 39],.m 4 40]) .ret) (.s [.q 42 25 8,.m 41 42] (.cond (.t 41) (.s [.f 43 2 2,.l 44 1 43,.o (.mkf 45 f4 [.t 5]),.c 46 f1 [.t 44,.t 45],.m 8 46] (.seq (.s [.f 47 2 2,.l 48 1 47,.v 49 (.ci 0)] (.gX 3 (.loop (.s [.o (.bin 50 .lss (.t 49) (.t 48))] (.seq (.cond (.t 50) .skip (.exit 3)) (.seq (.gX 4 (.r [.m 51 8,.m 52 8,.c 53 f2 [.t 51,.t 52],.m 8 53])) (.r [.o (.bin 54 .add (.t 49) (.ci 1)),.m 49 54]))))))) (.s [.m 55 8,.m 4 55] .ret))) .skip)))))))) (.s [.f 56 2 2,.l 57 1 56,.o (.mkf 58 f5 [.t 3,.t 5,.t 2]),.c 59 f1 [.t 57,.t 58],.m 4 59] .ret)))))
def HE(P:Program)(iV:Nat):Prop:=∀(m:Co)(n:Nat)(e:Ex)(hC:xP m n)(hT:f8 m.1 e=true),AF P iV [pc m,eE e] (.own (.ls (some false) 1 (mD n (fW m e))))
def aar(hm:Mx P){f5:Nat}(hr:il P g=some (60,Oz g f1 f2 f3 f4 f5,[.t 4]))(iS:xX P f1)(jw:vF P f2)(pd:Ch P f3)(zd:DN P f4)(GF:DH P f5):HE P g:=by
 intro m n e hC hT;obtain⟨gs,p,T,A⟩:=m;obtain rfl:p=n:=hC.Cf;refine Ex.ind (p:=fun e=>f8 gs e=true→AF P g [pc (gs,(n:Int),T,A),eE e] (.own (.ls (some false) 1 (mD n (fW (gs,(n:Int),T,A) e))))) (fun k v nn ks ih hT=>?_) e hT;rw[ja,bA,aM]at hT;have n1:=hC.n1;have n8:=hC.n8;have hK:=x5 hC.sur hT.1;rw[gM,kv];refine fY hr hm rfl fun hb=>?_;have hkl:ks.length≤2:=KJ hK;simp+contextual-implicitDefEqProofs only[Oz,qU,pc,eS,eI,D.size,D.fS,D.sub,bE,D.fX,lN,lK,lZ,D.put,fU,fO,lM,go_sem];refine gL (α:=Nat) [7,13,14,15,16,17,18,19,20,21,22,23] (fun i=>[(13,.im none (.sc (.int .i64 i)))]) (fun i=>[(5,.ar true (some false) 1 [.ls (some false) 1 ((ks.take i).map fun e=>.ls (some false) 1 (mD n (fW (gs,(n:Int),T,A) e)))]),(3,.ar false (some false) 3 [.ag [.sc (.int .i64 k),.sc (.int .i64 v),.ls nn 3 (ks.map eE)]]),(2,.ar false (some false) 5 [.ag [.sc (.int .i64 gs.1),.sc (.int .i64 gs.2),.sc (.int .i64 n),.ls T.1 1 (T.2.map (eS 1 eB)),.ls A.1 1 (A.2.map (eS 1 (eS 1 eI)))]])]) (fun i=>i≤ks.length) (fun i=>ks.length-i) 0 (gO.to [] (by simp only[go_sem];rfl) rfl (by simp) (by rfl) (by simp only[fR,go_sem,iD,iP]<;>simp)) (aq _) ?_;intro i wd
 by_cases hi:i<ks.length
 ·have e1:=ie (f:=eE) hi;have hx:=aF hi;have ihx:=ih ks[i] hx (hT.2 _ hx);obtain⟨ek,en,enn,eks,H1⟩:=Ex.ex ks[i];rw[H1,gM]at e1 ihx;simp+contextual-implicitDefEqProofs only[hi,e1,D.put,D.size,D.fS,D.fX,fU,fO,lM,D.sub,bE,lN,lC,lK,lZ,go_sem,iL,iN];refine fL (ds:=[pc (gs,(n:Int),T,A),.ag [.sc (.int .i64 ek),.sc (.int .i64 en),.ls enn 3 (eks.map eE)]]) (by rfl) ihx ?_;simp+contextual-implicitDefEqProofs only[D.put,D.size,D.fX,fU,fO,lM,D.sub,bE,lN,lC,lK,lZ,go_sem,Nat.reduceMul];refine⟨rfl,⟨by(try simp);omega,by unfold gz;(try simp);omega,by simp[D.size]⟩,i+1,by omega,by omega,?_⟩;rw[fQ (by omega) (by omega)];exact gO.to [7] (by simp only[go_sem];rfl) rfl (by simp[qG hi,H1]) (by rfl) (by simp only[fR,go_sem]<;>simp)
 obtain rfl:i=ks.length:=by omega
 rw[cO];cases hK with
 |act hk ky h0 h1=>
  subst hk ky;have h1:v.toNat<A.2.length:=by simpa[EF]using h1
  rw[show gZ (gs,(n:Int),T,A) 4 v ([].map (fW (gs,(n:Int),T,A)))=gB (oX (gs,(n:Int),T,A) v)by simp[gZ]];simp+contextual-implicitDefEqProofs only[D.sub,aG,Int.reduceLT,bE,D.fX,lN,lC,lZ,go_sem];refine fL (ds:=[eI n,.fn f3 [.pt (pc (gs,(n:Int),T,A)) 0,.pt (eE (.mk 4 v nn [])) 0]]) (by rw[gM];rfl) (iS n f3 _ (gB (oX (gs,(n:Int),T,A) v)) (by omega) (fun x y hx hy=>pd (gs,(n:Int),T,A) n 4 v nn [] x y hC hx hy h0 h1)) ?_;rw[xd];simp+contextual-implicitDefEqProofs only[go_sem]
 |dot hk a b ky=>
  subst hk ky;have oa:=gP hC a (hT.2 a (by simp));have ob:=gP hC b (hT.2 b (by simp));rw[show gZ (gs,(n:Int),T,A) 7 v ([a,b].map (fW (gs,(n:Int),T,A)))=lT n (fW (gs,(n:Int),T,A) a) (fW (gs,(n:Int),T,A) b)by simp[gZ]];simp+contextual-implicitDefEqProofs only[qU,at1,D.sub,aG,Int.reduceLT,Int.reduceLE,aV,Int.reduceBEq,bE,Int.reduceToNat,D.fX,lN,lC,lK,lZ,go_sem];refine fL (ds:=[.ls (some false) 1 (mD n (fW (gs,(n:Int),T,A) a)),.ls (some false) 1 (mD n (fW (gs,(n:Int),T,A) b))]) (by rfl) (N0 jw (by omega) oa ob) ?_;simp+contextual-implicitDefEqProofs only[go_sem]
 |star hk a ky=>
  subst hk ky;have oa:=gP hC a (hT.2 a (by simp));rw[show gZ (gs,(n:Int),T,A) 8 v ([a].map (fW (gs,(n:Int),T,A)))=kB n (fW (gs,(n:Int),T,A) a)by simp[gZ]];simp+contextual-implicitDefEqProofs only[qU,D.sub,aG,Int.reduceLT,Int.reduceBEq,bE,D.fX,lN,lC,lK,lZ,go_sem];refine fL (ds:=[eI n,.fn f4 [.pt (rQ n [(fW (gs,(n:Int),T,A) a)]) 0]]) (by rfl) (iS n f4 _ (Fw n (fW (gs,(n:Int),T,A) a) 0) (by omega) (fun x y hx hy=>zd n (fW (gs,(n:Int),T,A) a) x y hx hy)) ?_;rw[xd];simp+contextual-implicitDefEqProofs only[D.sub,D.fX,go_sem];refine gL (α:=Nat) [8,46,49,50,51,52,53,54] (fun i=>[(49,.im none (.sc (.int .i64 i))),(8,.tr 46)]) (fun i=>[(46,.own (.ls (some false) 1 (mD n (Fw n (fW (gs,(n:Int),T,A) a) i)))),(5,.ar true (some false) 1 [.ls (some false) 1 [.ls (some false) 1 (mD n (fW (gs,(n:Int),T,A) a))]]),(3,.ar false (some false) 3 [.ag [.sc (.int .i64 8),.sc (.int .i64 v),.ls nn 3 [eE a]]]),(2,.ar false (some false) 5 [.ag [.sc (.int .i64 gs.1),.sc (.int .i64 gs.2),.sc (.int .i64 n),.ls T.1 1 (T.2.map (eS 1 eB)),.ls A.1 1 (A.2.map (eS 1 (eS 1 eI)))]])]) (fun i=>i≤n) (fun i=>n-i) 0 (gO.to [] (by simp only[go_sem];rfl) rfl (by simp) (by rfl) (by simp only[fR,go_sem,iD,iP]<;>simp)) (aq _) ?_;intro i wd
  by_cases nK:i<n
  ·simp+contextual-implicitDefEqProofs only[nK,lN,lC,go_sem,iL];refine fL (ds:=[.ls (some false) 1 (mD n (Fw n (fW (gs,(n:Int),T,A) a) i)),.ls (some false) 1 (mD n (Fw n (fW (gs,(n:Int),T,A) a) i))]) (by rfl) (N0 jw (by omega) (ul oa) (ul oa)) ?_;simp+contextual-implicitDefEqProofs only[go_sem];refine⟨i+1,by omega,by omega,?_⟩;rw[fQ (by omega) (by omega)];refine gO.trans (gO.del _ 46) (gO.trans (gO.ren _ 53 46 [8] (.ls (some false) 1 (mD n (Fw n (fW (gs,(n:Int),T,A) a) (i+1)))) (by rfl) (by rfl) (by simp;rfl)) ?_);exact gO.to [] (by simp only[go_sem,lC,lN];rfl) rfl (by simp) (by rfl) (by simp only[fR,go_sem]<;>simp)
  obtain rfl:i=n:=by omega
  simp+contextual-implicitDefEqProofs only[nK,bE,go_sem,iL];rw[RM oa];exact D.Le.refl _
 |zero hk ky=>
  subst hk ky;simp+contextual-implicitDefEqProofs only[qU,D.sub,aG,Int.reduceLT,Int.reduceBEq,D.fX,lN,lC,lZ,go_sem];refine fL (ds:=[eI n,.fn f5 [.pt (eE (.mk 1 v nn [])) 0,.pt (rQ n []) 0,.pt (pc (gs,(n:Int),T,A)) 0]]) (by rw[gM];rfl) (iS n f5 _ (gZ (gs,(n:Int),T,A) 1 v []) (by omega) (fun x y hx hy=>GF (gs,(n:Int),T,A) n 1 v nn [] x y hC [] hx hy rfl (.zero rfl rfl) (by decide))) ?_;rw[xd];simp+contextual-implicitDefEqProofs only[go_sem]
 |one hk ky=>
  subst hk ky;simp+contextual-implicitDefEqProofs only[qU,D.sub,aG,Int.reduceLT,Int.reduceBEq,D.fX,lN,lC,lZ,go_sem];refine fL (ds:=[eI n,.fn f5 [.pt (eE (.mk 2 v nn [])) 0,.pt (rQ n []) 0,.pt (pc (gs,(n:Int),T,A)) 0]]) (by rw[gM];rfl) (iS n f5 _ (gZ (gs,(n:Int),T,A) 2 v []) (by omega) (fun x y hx hy=>GF (gs,(n:Int),T,A) n 2 v nn [] x y hC [] hx hy rfl (.one rfl rfl) (by decide))) ?_;rw[xd];simp+contextual-implicitDefEqProofs only[go_sem]
 |test hk ky h0 h1=>
  subst hk ky;simp+contextual-implicitDefEqProofs only[qU,D.sub,aG,Int.reduceLT,Int.reduceBEq,D.fX,lN,lC,lZ,go_sem];refine fL (ds:=[eI n,.fn f5 [.pt (eE (.mk 3 v nn [])) 0,.pt (rQ n []) 0,.pt (pc (gs,(n:Int),T,A)) 0]]) (by rw[gM];rfl) (iS n f5 _ (gZ (gs,(n:Int),T,A) 3 v []) (by omega) (fun x y hx hy=>GF (gs,(n:Int),T,A) n 3 v nn [] x y hC [] hx hy rfl (.test rfl rfl h0 h1) (by decide))) ?_;rw[xd];simp+contextual-implicitDefEqProofs only[go_sem]
 |nt hk a ky=>
  subst hk ky;simp+contextual-implicitDefEqProofs only[qU,D.sub,aG,Int.reduceLT,Int.reduceBEq,D.fX,lN,lC,lK,lZ,go_sem];refine fL (ds:=[eI n,.fn f5 [.pt (eE (.mk 5 v nn [a])) 0,.pt (rQ n [(fW (gs,(n:Int),T,A) a)]) 0,.pt (pc (gs,(n:Int),T,A)) 0]]) (by rw[gM];rfl) (iS n f5 _ (gZ (gs,(n:Int),T,A) 5 v [(fW (gs,(n:Int),T,A) a)]) (by omega) (fun x y hx hy=>GF (gs,(n:Int),T,A) n 5 v nn [a] x y hC [(fW (gs,(n:Int),T,A) a)] hx hy rfl (.nt rfl a rfl) (by decide))) ?_;rw[xd];simp+contextual-implicitDefEqProofs only[go_sem]
 |sum hk a b ky=>
  subst hk ky;simp+contextual-implicitDefEqProofs only[qU,D.sub,aG,Int.reduceLT,Int.reduceBEq,D.fX,lN,lC,lK,lZ,go_sem];refine fL (ds:=[eI n,.fn f5 [.pt (eE (.mk 6 v nn [a,b])) 0,.pt (rQ n [(fW (gs,(n:Int),T,A) a),(fW (gs,(n:Int),T,A) b)]) 0,.pt (pc (gs,(n:Int),T,A)) 0]]) (by rw[gM];rfl) (iS n f5 _ (gZ (gs,(n:Int),T,A) 6 v [(fW (gs,(n:Int),T,A) a),(fW (gs,(n:Int),T,A) b)]) (by omega) (fun x y hx hy=>GF (gs,(n:Int),T,A) n 6 v nn [a,b] x y hC [(fW (gs,(n:Int),T,A) a),(fW (gs,(n:Int),T,A) b)] hx hy rfl (.sum rfl a b rfl) (by decide))) ?_;rw[xd];simp+contextual-implicitDefEqProofs only[go_sem]
set_option maxHeartbeats 1000000
set_option maxHeartbeats 4000000
abbrev adC(x y:SL Bool):Bool:=tX (fun x y=>x==y) x.2 y.2
def EI(f1:Nat):RC:=(.s [.v 4 .cf] (.seq (.s [.m 6 0,.o (.len 7 (.t 6)),.m 8 1,.o (.len 9 (.t 8)),.o (.bin 10 .neq (.t 7) (.t 9))] (.cond (.t 10) (.s [.v 4 .cf] .ret) .skip)) (.seq (.s [.v 5 (.ci 0)] (.gX 0 (.loop (.seq (.s [.m 11 5,.m 12 0,.o (.len 13 (.t 12)),.o (.bin 14 .lss (.t 11) (.t 13))] (.cond (.t 14) .skip (.exit 0))) (.seq (.gX 1 (.seq (.jI true [.m 17 0,.m 18 5,.o (.ia 19 1 (.t 17) (.t 18)),.l 20 1 19,.m 21 1,.m 22 5,.o (.ia 23 1 (.t 21) (.t 22)),.l 24 1 23,.c 25 f1 [.t 20,.t 24],.o (.un 26 .not (.t 25))]) (.cond (.t 26) (.s [.v 4 .cf] .ret) .skip))) (.r [.m 15 5,.o (.bin 16 .add (.t 15) (.ci 1)),.m 5 16])))))) (.s [.v 4 .ct] .ret))))
def rv(P:Program)(iV:Nat):Prop:=∀(a b:SL (SL Bool)),AF P iV [eS 1 (eS 1 eB) a,eS 1 (eS 1 eB) b] (.own (eB (tX adC a.2 b.2)))
def EG(hm:Mx P)(hr:il P g=some (27,EI f1,[.t 4]))(iS:il P f1=some (26,aee,[.t 4])):rv P g:=by
 intro a b;exact aec hm (ajC eB 1) (show il P g=some (27,adt f1 1 false,[.t 4])from hr) adC a b fun x _ y _=>ac9 hm iS x y
def Cg{α:Type}{q:α→α→Bool}(h:∀x,q x x=true):∀l:List α,tX q l l=true
 | []=>rfl
 |x::l=>by simp only[tX,h x,Cg h l,bi]
def FP(x:SL (SL Bool)):tX adC x.2 x.2=true:=Cg (fun y=>Cg (fun z=>by simp) y.2) x.2
def wy(f1:Nat):RC:=(.s [.b 2 5 0,.b 3 5 1,.v 4 .cf] (.seq (.s [.f 6 0 2,.L 7 2 6,.f 8 0 3,.L 9 2 8,.o (.ceq 10 true 2 (.t 7) (.t 9)),.m 11 10,.u 11 (.fa 12 2 (.t 2)),.u 11 (.ld 13 false 1 (.t 12)),.u 11 (.fa 14 2 (.t 3)),.u 11 (.ld 15 false 1 (.t 14)),.u 11 (.bin 16 .neq (.t 13) (.t 15)),.o (.pick 17 (.t 11) .ct (.t 16)),.m 18 17,.u 18 (.fa 19 3 (.t 2)),.u 18 (.ld 20 false 1 (.t 19)),.u 18 (.fa 21 3 (.t 3)),.u 18 (.ld 22 false 1 (.t 21)),.u 18 (.call (some 23) f1 [.t 20,.t 22]),.u 18 (.un 24 .not (.t 23)),.o (.pick 25 (.t 18) .ct (.t 24)),.m 26 25,.u 26 (.fa 27 4 (.t 2)),.u 26 (.ld 28 false 1 (.t 27)),.u 26 (.len 29 (.t 28)),.u 26 (.fa 30 4 (.t 3)),.u 26 (.ld 31 false 1 (.t 30)),.u 26 (.len 32 (.t 31)),.u 26 (.bin 33 .neq (.t 29) (.t 32)),.o (.pick 34 (.t 26) .ct (.t 33))] (.cond (.t 34) (.s [.v 4 .cf] .ret) .skip)) (.seq (.s [.v 5 (.ci 0)] (.gX 0 (.loop (.seq (.s [.m 35 5,.f 36 4 2,.l 37 1 36,.o (.len 38 (.t 37)),.o (.bin 39 .lss (.t 35) (.t 38))] (.cond (.t 39) .skip (.exit 0))) (.seq (.gX 1 (.seq (.jI true [.f 42 4 2,.l 43 1 42,.m 44 5,.o (.ia 45 1 (.t 43) (.t 44)),.l 46 1 45,.f 47 4 3,.l 48 1 47,.m 49 5,.o (.ia 50 1 (.t 48) (.t 49)),.l 51 1 50,.c 52 f1 [.t 46,.t 51],.o (.un 53 .not (.t 52))]) (.cond (.t 53) (.s [.v 4 .cf] .ret) .skip))) (.r [.m 40 5,.o (.bin 41 .add (.t 40) (.ci 1)),.m 5 41])))))) (.s [.v 4 .ct] .ret))))
def wA(P:Program)(iV:Nat):Prop:=∀(m:Mo),AF P iV [eM m,eM m] (.own (eB true))
def EH(hm:Mx P)(hr:il P g=some (54,wy f1,[.t 4]))(iS:rv P f1):wA P g:=by
 intro m;obtain⟨⟨g1,g2⟩,p,T,A⟩:=m;refine fY hr hm rfl fun hb=>?_;have hl:A.2.length≤9223372036854775807:=by
  have h:=hb.1;simp only[eM,eS,D.bd,D.ub,lM,gz]at h;omega
 have hT:=iS T T;rw[FP]at hT;simp+contextual-implicitDefEqProofs only[wy,bne,eM,eS,eI,eB,D.size,D.fS,D.sub,bE,D.fX,lN,lC,lK,lZ,bT,bN,bI,bU,go_sem];refine fL ?_ hT ?_;exact rfl;simp+contextual-implicitDefEqProofs only[bne,eB,D.sub,bE,D.fX,bT,go_sem,lM];refine gL (α:=Nat) [4,5,35,36,37,38,39,40,41,42,43,44,45,46,47,48,49,50,51,52,53] (fun i=>[(5,.im none (.sc (.int .i64 i)))]) (fun i=>[(3,.ar false (some false) 5 [.ag [.sc (.int .i64 g1),.sc (.int .i64 g2),.sc (.int .i64 p),.ls T.1 1 (T.2.map (eS 1 eB)),.ls A.1 1 (A.2.map (eS 1 (eS 1 eB)))]]),(2,.ar false (some false) 5 [.ag [.sc (.int .i64 g1),.sc (.int .i64 g2),.sc (.int .i64 p),.ls T.1 1 (T.2.map (eS 1 eB)),.ls A.1 1 (A.2.map (eS 1 (eS 1 eB)))]])]) (fun i=>i≤A.2.length) (fun i=>A.2.length-i) 0 (gO.to [] (by simp only[go_sem];rfl) rfl (by simp[]) (by rfl) (by simp only[fR,go_sem,iD,iP]<;>simp)) (aq _) ?_;intro i wd
 by_cases hi:i<A.2.length
 ·have e1:=lz (f:=eS 1 (eS 1 eB)) (d:=(none,[])) hi;have hA:=iS (A.2.getD i (none,[])) (A.2.getD i (none,[]));rw[FP]at hA;simp+contextual-implicitDefEqProofs only[hi,e1,aS,iL,lM,eS,D.size,D.sub,D.fX,lN,lC,go_sem,iN];refine fL ?_ hA ?_;exact rfl;simp+contextual-implicitDefEqProofs only[eB,bT,go_sem];rw[fQ (by omega) (by omega)];exact⟨i+1,by omega,by omega,gO.to [] (by simp only[go_sem];rfl) rfl (by simp) (by rfl) (by simp only[fR,go_sem]<;>simp)⟩
 simp+contextual-implicitDefEqProofs only[hi,iL,lM,D.sub,D.fX,go_sem]
mutual
def iH:Ex→List Ex→List Ex
 |.mk k n nn ks,acc=>if k=1 then acc else if k=6 then lU ks acc else if acc.any (fun x=>qE x (.mk k n nn ks))=true then acc else acc++[.mk k n nn ks]
def lU:List Ex→List Ex→List Ex
 | [],acc=>acc
 |e::es,acc=>lU es (iH e acc)
end
mutual
def vY:∀(e:Ex)(acc:List Ex),(iH e acc).length≤acc.length+fZ e
 |.mk k n nn ks,acc=>by
  rw[gw,iH];have:=Cj ks acc
  split<;>(try split)<;>(try split)<;>(try rw[lP,lK,lZ])<;>omega
def Cj:∀(es:List Ex)(acc:List Ex),(lU es acc).length≤acc.length+gq es
 | [],acc=>by simp[lU]
 |e::es,acc=>by
  have h1:=vY e acc;have h2:=Cj es (iH e acc);simp only[lU,gq];omega
end
variable {k:Int}{ks:List Ex}{nn:Option Bool}
def ik{g0:Int×Int}{n:Int}(hk:k=6∨k=7)(h:f8 g0 (.mk k n nn ks)=true):∃a b,ks=[a,b]∧f8 g0 a=true∧f8 g0 b=true:=by
 rw[ja,bA,gE,bA]at h;obtain⟨⟨h1,_⟩,h2⟩:=h;have h3:ks.length=2:=by rcases hk with rfl|rfl<;>simp[jU]at h1<;>omega
 match ks,h3 with
 | [a,b],_=>
  simp only[cJ,List.all_nil,bU,bA]at h2;exact⟨a,b,rfl,h2.1,h2.2⟩
def pj(g f1:Nat):RC:=(.seq (.s [.m 5 0,.n 6 5,.f 7 0 6,.l 8 1 7] (.gX 0 (.s [.q 10 8 1,.m 9 10] (.cond (.t 9) .ret (.s [.q 12 8 6,.m 11 12] (.cond (.t 11) (.s [.m 13 0,.n 14 13,.f 15 2 14,.l 16 1 15,.i 17 3 16 0,.m 18 1,.o (.Ll (some 19) g [.t 17,.t 18])] (.s [.m 20 0,.n 21 20,.f 22 2 21,.l 23 1 22,.i 24 3 23 1,.m 25 1,.o (.Ll (some 26) g [.t 24,.t 25])] .ret)) .skip)))))) (.seq (.s [.v 4 (.ci 0)] (.gX 1 (.loop (.seq (.s [.m 27 4,.m 28 1,.n 29 28,.l 30 1 29,.o (.len 31 (.t 30)),.o (.bin 32 .lss (.t 27) (.t 31))] (.cond (.t 32) .skip (.exit 1))) (.seq (.gX 2 (.s [.m 35 1,.n 36 35,.l 37 1 36,.m 38 4,.o (.ia 39 3 (.t 37) (.t 38)),.m 40 0,.c 41 f1 [.t 39,.t 40]] (.cond (.t 41) .ret .skip))) (.r [.m 33 4,.o (.bin 34 .add (.t 33) (.ci 1)),.m 4 34])))))) (.KN [.m 42 1,.n 43 42,.l 44 1 43,.m 45 0,.n 46 45,.L 47 3 46,.o (.len 48 (.t 44)),.o (.bs 49 3 .ze 1 [(0,(.c .ze))])] (.br [] [(.o (.Lk 50 3 40 (.t 44) (.t 49)),(.br [] [(.o (.ia 51 3 (.t 50) (.t 48)),(.br [] [(.o (.wO 3 (.t 51) (.t 47)),(.br [] [(.n 52 42,(.br [] [(.o (.wO 1 (.t 52) (.t 50)),(.br [] []))]))])),(.n 52 42,(.br [] [(.o (.wO 3 (.t 51) (.t 47)),(.br [] [(.o (.wO 1 (.t 52) (.t 50)),(.br [] []))])),(.o (.wO 1 (.t 52) (.t 50)),(.br [] [(.o (.wO 3 (.t 51) (.t 47)),(.br [] []))]))]))])),(.n 52 42,(.br [] [(.o (.ia 51 3 (.t 50) (.t 48)),(.br [] [(.o (.wO 3 (.t 51) (.t 47)),(.br [] [(.o (.wO 1 (.t 52) (.t 50)),(.br [] []))])),(.o (.wO 1 (.t 52) (.t 50)),(.br [] [(.o (.wO 3 (.t 51) (.t 47)),(.br [] []))]))])),(.o (.wO 1 (.t 52) (.t 50)),(.br [] [(.o (.ia 51 3 (.t 50) (.t 48)),(.br [] [(.o (.wO 3 (.t 51) (.t 47)),(.br [] []))]))]))]))]))]))))
def uw(P:Program)(iV:Nat):Prop:=∀(g0:Int×Int)(e:Ex),f8 g0 e=true→∀acc:List Ex,acc.length+fZ e≤1000000→Yu P iV false 3 [.pt (eE e) 0] (acc.map eE) ((iH e acc).map eE)
def IQ(hm:Mx P)(hr:mX P .sh g=some (53,pj g f1,[]))(iS:vV P f1):uw P g:=by
 intro g0 e;have key:∀N:Nat,∀e:Ex,fZ e≤N→f8 g0 e=true→∀acc:List Ex,acc.length+fZ e≤1000000→Yu P g false 3 [.pt (eE e) 0] (acc.map eE) ((iH e acc).map eE):=by
  intro N
  induction N with
  |zero=>intro e hz;obtain⟨k,n,nn,ks,rfl⟩:=Ex.ex e;rw[gw]at hz;omega
  |succ N ih=>
   intro e hz hT acc hl;obtain⟨k,n,nn,ks,rfl⟩:=Ex.ex e;refine wX hr hm rfl fun _ _ _=>?_
   by_cases h1:k=1;subst h1;simp+contextual-implicitDefEqProofs only[pj,gM,lC,lN,aa,ah,bE,D.size,D.fS,gr,fV,aj,lM,go_sem];rw[iH,af rfl];exact px 3000000001 (by simp[lu]) (by rfl)
   by_cases h6:k=6
   ·subst h6;obtain⟨a,b,rfl,XF,X2⟩:=ik (.inl rfl) hT;rw[gw]at hz hl;simp only[gq]at hz hl;have hla:=vY a acc;simp+contextual-implicitDefEqProofs only[pj,gM,lC,lN,aa,ah,lK,lZ,aG,Int.reduceLT,aV,Int.reduceBEq,bE,D.size,D.fS,gr,fV,aj,ak,lM,go_sem];have OT:(List.map eE (iH a acc)).length=(iH a acc).length:=cH _;refine I3 [.im none (.pt (eE a) 0)] 3000000000 3000000001 (by rfl) (by rfl) (by rfl) ⟨by decide,(cH _).symm,.inl rfl⟩ (by rfl) (by rfl) (ih a (by omega) XF acc (by omega)) ?_;simp+contextual-implicitDefEqProofs only[OT,aL,aK,aa,ah,lK,lZ,aG,Int.reduceLT,Int.reduceLE,bE,Int.reduceToNat,D.size,D.fS,gr,fV,aj,ak,go_sem];refine I3 [.im none (.pt (eE b) 0)] 3000000000 3000000001 (by rfl) (by rfl) (by rfl) ⟨by decide,(cH _).symm,.inl rfl⟩ (by rfl) (by rfl) (ih b (by omega) X2 (iH a acc) (by omega)) ?_;simp+contextual-implicitDefEqProofs only[aL,aK,bE,lM,go_sem];rw[iH,ae (by decide),af rfl];simp only[lU];exact px 3000000001 (by simp[lu]) (by rfl)
   have b1:(k==1)=false:=aW h1;have b6:(k==6)=false:=aW h6;rw[iH,ae h1,ae h6];generalize he:Ex.mk k n nn ks=e at*;have heE:eE e=.ag [eI k,eI n,.ls nn 3 (ks.map eE)]:=by rw[←he,gM];rfl
   simp only[Wc,lC,lN,heE];simp+contextual-implicitDefEqProofs only[pj,b1,b6,eI,aa,ah,D.size,D.fS,gr,fV,aj,lM,go_sem];refine gL (α:=Nat) [4,27,28,29,30,31,32,33,34,35,36,37,38,39,40,41] (fun i=>[(4,.im none (.sc (.int .i64 i)))]) (fun i=>[(3000000000,.bx 1 [.sm 3000000001 0 acc.length]),(3000000001,.ar false (some false) 3 (acc.map eE))]) (fun i=>i≤acc.length∧∀j (h:j<acc.length),j<i→qE acc[j] e=false) (fun i=>acc.length-i) 0 (gO.to [] (by simp only[go_sem];rfl) rfl (by simp) (by rfl) (by simp only[fR,go_sem,iD,iP]<;>simp)) ⟨aq _,fun j _ h=>absurd h (Nat.not_lt_zero j)⟩ ?_;rintro i ⟨wd,Sg⟩
   by_cases hi:i<acc.length
   ·have ai:D.at (acc.map eE) i=eE acc[i]:=ie hi;simp+contextual-implicitDefEqProofs only[hi,lC,lN,aS,aa,go_sem,iL,iN];refine fL (ds:=[.pt (eE acc[i]) 0,.pt (eE e) 0]) (by show some [D.pt (D.at (acc.map eE) i) 0,D.pt (D.ag [eI k,eI n,.ls nn 3 (ks.map eE)]) 0]=_;rw[ai,heE]) (iS acc[i] e) ?_;cases hq:qE acc[i] e with
    |true=>
     have NC:acc.any (fun x=>qE x e)=true:=dw.2 ⟨_,aF hi,hq⟩;rw[af NC];simp+contextual-implicitDefEqProofs only[eB,go_sem];exact px 3000000001 (by simp[lu]) (by rfl)
    |false=>
     simp+contextual-implicitDefEqProofs only[eB,go_sem];refine⟨i+1,⟨by omega,fun j h hj=>?_⟩,by omega,?_⟩
     ·by_cases e1:j=i
      subst e1;exact hq;exact Sg j h (by omega)
     rw[fQ (by omega) (by omega)];exact gO.to [] (by simp only[go_sem];rfl) rfl (by simp) (by rfl) (by simp only[fR,go_sem]<;>simp)
   obtain rfl:i=acc.length:=by omega
   have NC:acc.any (fun x=>qE x e)=false:=by
    rw[List.any_eq_false];intro x hx;obtain⟨j,h,rfl⟩:=dE hx;rw[Sg j h h];simp
   rw[NC];simp+contextual-implicitDefEqProofs only[bR,cd,ce,aK,D.put,lC,lN,aS,aa,ah,lK,lZ,bE,D.size,D.fS,gY,fV,aJ,aP,aO,fU,lM,go_sem,Nat.reduceMul,iL,iN];have Ns:∀z:D,(List.map eE acc++[z]).set acc.length (.ag [eI k,eI n,.ls nn 3 (ks.map eE)])=List.map eE (acc++[e]):=by
    intro z;rw[bQ,lC,lN,heE,List.set_append_right _ _ (by simp)];simp
   simp only[eI]at Ns;refine⟨rfl,⟨by omega,by unfold gz;omega,by simp[D.size,D.fS]⟩,?_⟩
   repeat' apply And.intro
   all_goals first
    |exact px 3000000001 (by simp[lu]) (by simp only[lu,Nat.reduceEqDiff,↓reduceIte,Ns])
    |(rw[lP,lM];exact Nat.lt_succ_self _)
    |omega
 exact fun hT acc hl=>key _ e (aw _) hT acc hl
def ltT(a b:Ex):Bool:=Op.bytesLess (iM a).toList (iM b).toList
def tW(x:Ex):List Ex→List Ex
 | []=>[x]
 |y::ys=>if ltT y x=true then y::tW x ys else x::y::ys
def wl(x:Ex):List Ex→Nat
 | []=>0
 |y::ys=>if ltT y x=true then wl x ys+1 else 0
def Oy{x:Ex}:∀{l:List Ex},wl x l≤l.length
 | []=>by simp[wl]
 |y::ys=>by
  have:=Oy (x:=x) (l:=ys);simp only[wl]
  split<;>simp<;>omega
variable {x:Ex}
def yt:∀{l:List Ex},tW x l=l.take (wl x l)++[x]++l.drop (wl x l)
 | []=>by simp[tW]
 |y::ys=>by
  simp only[tW,wl]
  split;rw[yt];simp;simp
def GT:∀{l:List Ex} {p:Nat},p≤l.length→(∀j (h:j<l.length),j<p→ltT l[j] x=true)→(∀h:p<l.length,ltT l[p] x=false)→wl x l=p
 | [],p,h,_,_=>by simp at h;simp[wl,h]
 |y::ys,0,_,_,h3=>by
  have:=h3 (by simp);simp only[fE]at this;simp[wl,this]
 |y::ys,p+1,h1,h2,h3=>by
  have h0:=h2 0 (by simp) (by omega);simp only[fE]at h0;rw[wl,af h0,GT (l:=ys) (p:=p) (by simpa using h1) (fun j h hj=>by have:=h2 (j+1) (by simpa using h) (by omega);simpa using this) (fun h=>by have:=h3 (by simpa using h);simpa using this)]
def ma(l:List Ex):List Ex:=l.foldl (fun acc x=>tW x acc) []
def TV{x:Ex}{l:List Ex}:(tW x l).length=l.length+1:=by
 have:=Oy (x:=x) (l:=l);rw[yt];simp;omega
variable {l:List Ex}{i:Nat}
def MX(h:i<l.length):ma (l.take (i+1))=tW l[i] (ma (l.take i)):=by
 rw[dr h,ma,fk]
 rfl
def Fd:(ma l).length=l.length:=by
 have:∀(l acc:List Ex),(l.foldl (fun acc x=>tW x acc) acc).length=acc.length+l.length:=by
  intro l
  induction l with
  |nil=>simp
  |cons x l ih=>intro acc;rw[de,ih,TV];simp;omega
 rw[ma,this];simp
def BZ(l:List Ex):List D:=l.map fun e=>eT (iM e)
def wG(l:List Ex):List D:=l.map eE
def vK:(BZ l).length=l.length:=by simp[BZ]
def nT:(wG l).length=l.length:=by simp[wG]
def aau:BZ (tW x l)=(BZ l).take (wl x l)++[eT (iM x)]++(BZ l).drop (wl x l):=by rw[yt];simp[BZ]
def ZB:wG (tW x l)=(wG l).take (wl x l)++[eE x]++(wG l).drop (wl x l):=by rw[yt];simp[wG]
def V4(h:i<l.length):D.at (BZ l) i=eT (iM l[i]):=ie h
def LT(h:i<l.length):D.at (wG l) i=eE l[i]:=ie h
def yg:∀e∈BZ l,e.size=1:=by intro e he;obtain⟨x,_,rfl⟩:=aB.1 he;rfl
def yN:∀e∈wG l,e.size=3:=by intro e he;obtain⟨x,_,rfl⟩:=aB.1 he;exact gf x
def Ay(f1:Nat):RC:=(.s [.o (.mv 2 (.c (.ls (some true) 3 [])))] (.s [⟨none,.bs 10 1 (.sc (.string ⟨#[]⟩)) 0 []⟩,.m 3 10] (.s [.o (.bs 11 3 .ze 0 []),.m 4 11] (.seq (.s [.v 5 (.ci 0)] (.gX 0 (.loop (.seq (.s [.m 12 5,.m 13 0,.o (.len 14 (.t 13)),.o (.bin 15 .lss (.t 12) (.t 14))] (.cond (.t 15) .skip (.exit 0))) (.seq (.gX 1 (.s [.m 18 0,.m 19 5,.o (.ia 20 3 (.t 18) (.t 19)),.c 21 f1 [.t 20],.m 6 21] (.s [.v 7 (.ci 0)] (.seq (.gX 2 (.loop (.seq (.s [.m 22 7,.m 23 3,.o (.len 24 (.t 23)),.o (.bin 25 .lss (.t 22) (.t 24)),.m 26 25,.wm 26 27 3,.wm 26 28 7,.w 26 (.ia 29 1 (.t 27) (.t 28)),.w 26 (.ld 30 false 1 (.t 29)),.wm 26 31 6,.w 26 (.bin 32 .lss (.t 30) (.t 31)),.k 33 26 32] (.cond (.t 33) .skip (.exit 2))) (.gX 3 (.r [.m 34 7,.o (.bin 35 .add (.t 34) (.ci 1)),.m 7 35]))))) (.s [⟨none,.bs 36 1 (.sc (.string ⟨#[]⟩)) 0 []⟩,.m 37 3,.m 38 7,.o (.slc 39 1 (.t 37) (some (.t 38)) none),.o (.Lk 40 1 16 (.t 36) (.t 39)),.m 8 40] (.s [.o (.bs 41 3 .ze 0 []),.m 42 4,.m 43 7,.o (.slc 44 3 (.t 42) (some (.t 43)) none),.o (.Lk 45 3 40 (.t 41) (.t 44)),.m 9 45] (.s [.m 46 3,.m 47 7,.o (.slc 48 1 (.t 46) none (some (.t 47))),.m 49 6,⟨none,.bs 50 1 (.sc (.string ⟨#[]⟩)) 1 [(0,(.t 49))]⟩,.o (.Lk 51 1 16 (.t 48) (.t 50)),.m 52 8,.o (.Lk 53 1 16 (.t 51) (.t 52)),.m 3 53] (.jI true [.m 54 4,.m 55 7,.o (.slc 56 3 (.t 54) none (some (.t 55))),.m 57 0,.m 58 5,.o (.ia 59 3 (.t 57) (.t 58)),.L 60 3 59,.o (.bs 61 3 .ze 1 [(0,(.t 60))]),.m 63 9,.o (.Lk 62 3 40 (.t 56) (.t 61)),.o (.Lk 64 3 40 (.t 62) (.t 63)),.m 4 64])))))))) (.r [.m 16 5,.o (.bin 17 .add (.t 16) (.ci 1)),.m 5 17])))))) (.s [.m 65 4,.m 2 65] .ret)))))
def zD(P:Program)(iV:Nat):Prop:=∀(g0:Int×Int)(_:oC g0=true)(nn:Option Bool)(l:List Ex)(_:∀e∈l,f8 g0 e=true∧(iM e).size≤1000000000),l.length≤1000000→AF P iV [.ls nn 3 (wG l)] (.sh (.ls (some false) 3 (wG (ma l))))
def RG(hm:Mx P)(hr:mX P .sh g=some (66,Ay f1,[.t 2]))(iS:zS P f1):zD P g:=by
 intro g0 hg nn l hT hl;refine De hr hm rfl fun hb=>?_;simp(maxSteps:=5000000)+contextual-implicitDefEqProofs only[Ay,lN,aa,aI,go_sem];refine gL (α:=Nat) [3,4,5,6,7,8,9,10,11,12,13,14,15,16,17,18,19,20,21,22,23,24,25,26,27,28,29,30,31,32,33,34,35,36,37,38,39,41,42,43,44,46,47,48,49,50,52,54,55,56,57,58,59,60,61,63] (fun i=>[(5,.im none (.sc (.int .i64 i))),(3,.sm 10 0 i),(4,.sm 11 0 i)]) (fun i=>[(10,.ar false (some false) 1 (BZ (ma (l.take i)))),(11,.ar false (some false) 3 (wG (ma (l.take i))))]) (fun i=>i≤l.length) (fun i=>l.length-i) 0 (gO.trans (gO.sha _ 10 (by rfl)) (gO.trans (gO.sha _ 11 (by rfl)) (gO.to [] (by simp only[go_sem];rfl) rfl (by simp[ma,BZ,wG]) (by rfl) (by simp only[fR,go_sem,iD,iP]<;>simp)))) (aq _) ?_;intro i wd;have SI:(ma (l.take i)).length=i:=by rw[Fd,a8];omega
 by_cases hi:i<l.length
 ·have ai:D.at (wG l) i=eE l[i]:=LT hi;obtain⟨BP,EB⟩:=hT l[i] (aF hi);have Sc:=MX hi;generalize l[i]=x at ai BP EB Sc;generalize Ld:ma (l.take i)=acc at SI Sc⊢;simp(maxSteps:=5000000)+contextual-implicitDefEqProofs only[hi,ai,nT,lC,lN,aS,go_sem,iL,iN];refine fL (ds:=[.pt (eE x) 0]) (by rfl) (iS g0 hg x BP EB) ?_;simp(maxSteps:=5000000)+contextual-implicitDefEqProofs only[eT,go_sem];refine gL (α:=Nat) [7,22,23,24,25,26,27,28,29,30,31,32,33,34,35] (fun p=>[(7,.im none (.sc (.int .i64 p)))]) (fun p=>[(10,.ar false (some false) 1 (BZ acc)),(11,.ar false (some false) 3 (wG acc))]) (fun p=>p≤i∧∀j (h:j<acc.length),j<p→ltT acc[j] x=true) (fun p=>i-p) 0 (gO.to [] (by simp only[go_sem];rfl) rfl (by simp) (by rfl) (by simp only[fR,go_sem,iD,iP]<;>simp)) ⟨aq _,fun j _ h=>absurd h (Nat.not_lt_zero j)⟩ ?_;rintro p ⟨hp0,hp1⟩;have Lf:(∃hp:p<acc.length,ltT acc[p] x=true)∨(wl x acc=p∧∀hp:p<acc.length,ltT acc[p] x=false):=by
   by_cases hp:p<acc.length
   ·cases hq:ltT acc[p] x with
    |true=>exact .inl ⟨hp,hq⟩
    |false=>exact .inr ⟨GT (by omega) hp1 fun _=>hq,fun _=>hq⟩
   exact .inr ⟨GT (by omega) hp1 fun h=>absurd h hp,fun h=>absurd h hp⟩
  rcases Lf with⟨hp,iq⟩|⟨BH,iq⟩
  ·have ap:D.at (BZ acc) p=eT (iM acc[p]):=V4 hp;have hpi:p<i:=by omega
   have Ez:Op.bytesLess (iM acc[p]).toList (iM x).toList=true:=iq;simp(maxSteps:=5000000)+contextual-implicitDefEqProofs only[hpi,ap,Ez,SI,eT,aS,aa,n7,l9,go_sem,iL,iN];refine⟨p+1,⟨by omega,fun j h hj=>?_⟩,by omega,?_⟩
   ·by_cases e1:j=p
    subst e1;exact iq;exact hp1 j (by omega) (by omega)
   rw[fQ (by omega) (by omega)];exact gO.to [] (by simp only[go_sem];rfl) rfl (by simp) (by rfl) (by simp only[fR,go_sem]<;>simp)
  obtain⟨xk,xn,xnn,xks,hxe⟩:=Ex.ex x;have hX:eE x=.ag [eI xk,eI xn,.ls xnn 3 (xks.map eE)]:=by rw[hxe,gM];rfl
  have e1:List.take (i-p) (List.drop p (BZ acc))=List.drop p (BZ acc):=b9 (by rw[ca,vK];omega);have e2:List.take (i-p) (List.drop p (wG acc))=List.drop p (wG acc):=b9 (by rw[ca,nT];omega);have l1:(List.drop p (BZ acc)).length=i-p:=by rw[ca,vK];omega
  have l2:(List.drop p (wG acc)).length=i-p:=by rw[ca,nT];omega
  have c1:(if p=i then BZ acc else List.take p (BZ acc))=List.take p (BZ acc):=by
   split;exact(b9 (by rw[vK];omega)).symm;rfl
  have c2:(if p=i then wG acc else List.take p (wG acc))=List.take p (wG acc):=by
   split;exact(b9 (by rw[nT];omega)).symm;rfl
  have l3:∀d:D,(List.take p (BZ acc)++[d]).length=p+1:=fun d=>by rw[lP,a8,vK];simp;omega
  have l4:∀d:D,(List.take p (wG acc)++[d]).length=p+1:=fun d=>by rw[lP,a8,nT];simp;omega
  have R9:(p:Int)≤(i:Int):=by omega
  have hq1:BZ (ma (l.take (i+1)))=List.take p (BZ acc)++[eT (iM x)]++List.drop p (BZ acc):=by rw[Sc,aau,BH]
  have OW:wG (ma (l.take (i+1)))=List.take p (wG acc)++[eE x]++List.drop p (wG acc):=by rw[Sc,ZB,BH]
  rw[hX]at OW;simp only[eT,eI]at hq1 OW;have n1:gT (some false) (List.drop p (BZ acc))=some false:=zY;have n2:gT (some false) (List.drop p (wG acc))=some false:=zY;unfold gT at n1 n2
  by_cases hpi:p<i
  ·have hp:p<acc.length:=by omega
   have ap:D.at (BZ acc) p=eT (iM acc[p]):=V4 hp;have Ez:Op.bytesLess (iM acc[p]).toList (iM x).toList=false:=iq hp;simp(maxSteps:=5000000)+contextual-implicitDefEqProofs only[e1,e2,l1,l2,l3,l4,c1,c2,R9,ite_self,ai,hX,cd,ce,n1,n2,hpi,ap,Ez,vK,nT,SI,aL,aK,eI,eT,lC,lN,aS,aa,ah,lK,lZ,aV,bE,D.size,D.fS,gY,n7,fV,l9,aJ,aP,aO,go_sem,Nat.reduceMul,iL,iN];refine⟨⟨by omega,by unfold gz;omega,fun e he=>yg e (bt he)⟩,⟨by omega,by unfold gz;omega,fun e he=>yN e (bt he)⟩,rfl,⟨by omega,by unfold gz;omega,by simp[D.size]⟩,
    ⟨by omega,by unfold gz;omega,fun e he=>yg e (bt he)⟩,hi,rfl,⟨by omega,by unfold gz;omega,by simp[D.size,D.fS]⟩,⟨by omega,by unfold gz;omega,fun e he=>yN e (bt he)⟩,i+1,by omega,by omega,?_⟩
   rw[fQ (by omega) (by omega),hq1,OW,show p+1+(i-p)=i+1 by omega];exact gO.to [36,41] (by simp only[go_sem];rfl) rfl (by simp) (by rfl) (by simp only[fR,go_sem]<;>simp)
  have hpe:p=i:=by omega
  have c3:(if p=i then True else False)=True:=by simp[hpe]
  simp(maxSteps:=5000000)+contextual-implicitDefEqProofs only[c3,e1,e2,l1,l2,l3,l4,c1,c2,R9,ai,hX,cd,ce,n1,n2,hpi,vK,nT,SI,aL,aK,eI,lC,lN,aS,aa,ah,lK,lZ,aV,bE,D.size,D.fS,gY,fV,aJ,aP,aO,go_sem,Nat.reduceMul,iL,iN];refine⟨⟨by omega,by unfold gz;omega,fun e he=>yg e (bt he)⟩,⟨by omega,by unfold gz;omega,fun e he=>yN e (bt he)⟩,rfl,⟨by omega,by unfold gz;omega,by simp[D.size]⟩,
   ⟨by omega,by unfold gz;omega,fun e he=>yg e (bt he)⟩,hi,rfl,⟨by omega,by unfold gz;omega,by simp[D.size,D.fS]⟩,⟨by omega,by unfold gz;omega,fun e he=>yN e (bt he)⟩,i+1,by omega,by omega,?_⟩
  rw[fQ (by omega) (by omega),hq1,OW,show p+1+(i-p)=i+1 by omega];exact gO.to [36,41] (by simp only[go_sem];rfl) rfl (by simp) (by rfl) (by simp only[fR,go_sem]<;>simp)
 obtain rfl:i=l.length:=by omega
 rw[cO]at SI⊢;generalize ma l=acc at SI⊢;simp(maxSteps:=5000000)+contextual-implicitDefEqProofs only[bR,nT,go_sem];refine⟨_,gO.XD _ 11 (u:=.ar false (some false) 3 (wG acc)) (by rfl) rfl,?_⟩;simp(maxSteps:=5000000)+contextual-implicitDefEqProofs only[nT,SI,go_sem]
def iF{g:Int×Int}{n:Int}(h:f8 g (.mk k n nn ks)=true):∀x∈ks,f8 g x=true:=by
 rw[ja,bA]at h;exact aM.1 h.2
def jo{g:Int×Int}{n:Int}(h:f8 g (.mk k n nn ks)=true):gE g k n ks=true:=by
 rw[ja,bA]at h;exact h.1
def uK{g:Int×Int}(hg:oC g=true)(e:Ex):f8 g e=true→By e:=by
 refine Ex.ind (p:=fun e=>f8 g e=true→By e) (fun k n nn ks ih h=>?_) e;have hk:=iF h;rw[vA];refine⟨?_,fun x hx=>ih x hx (hk x hx)⟩;rcases DZ hg (jo h)with⟨_,rfl⟩|⟨_,rfl⟩|⟨_,rfl,_⟩|⟨_,rfl,_⟩|⟨_,a,rfl⟩|⟨_,a,b,rfl⟩|⟨_,a,b,rfl⟩|⟨_,a,rfl⟩<;>simp
def Pv{g:Int×Int}(hg:oC g=true)(e:Ex):f8 g e=true→(iM e).size≤6*fZ e:=by
 refine Ex.ind (p:=fun e=>f8 g e=true→(iM e).size≤6*fZ e) (fun k n nn ks ih h=>?_) e;have hk:=iF h;rw[JF,gw];have s1:∀a:UInt8,(⟨#[a]⟩:ByteArray).size=1:=fun _=>rfl;have s3:∀a b c:UInt8,(⟨#[a,b,c]⟩:ByteArray).size=3:=fun _ _ _=>rfl;rcases DZ hg (jo h)with⟨rfl,rfl⟩|⟨rfl,rfl⟩|⟨rfl,rfl,m,rfl,_⟩|⟨rfl,rfl,m,rfl,_⟩|⟨rfl,a,rfl⟩|⟨rfl,a,b,rfl⟩|⟨rfl,a,b,rfl⟩|⟨rfl,a,rfl⟩
 ·rw[show iX 1 n ([].map iM)=⟨#[48]⟩by simp[iX],s1];omega
 ·rw[show iX 2 n ([].map iM)=⟨#[49]⟩by simp[iX],s1];omega
 ·rw[show iX 3 m ([].map iM)=⟨#[116]⟩++xV m by simp[iX],cX,s1];have:=vG (n:=m);omega
 ·rw[show iX 4 m ([].map iM)=⟨#[97]⟩++xV m by simp[iX],cX,s1];have:=vG (n:=m);omega
 ·rw[show iX 5 n ([a].map iM)=⟨#[126]⟩++iM a by simp[iX],cX,s1];have:=ih a (by simp) (hk a (by simp));simp only[gq];omega
 ·rw[show iX 6 n ([a,b].map iM)=⟨#[40]⟩++iM a++⟨#[32,43,32]⟩++iM b++⟨#[41]⟩by simp[iX]];have h1:=ih a (by simp) (hk a (by simp));have h2:=ih b (by simp) (hk b (by simp));simp only[cX,s1,s3,gq];omega
 ·rw[show iX 7 n ([a,b].map iM)=⟨#[40]⟩++iM a++⟨#[32]⟩++iM b++⟨#[41]⟩by simp[iX]];have h1:=ih a (by simp) (hk a (by simp));have h2:=ih b (by simp) (hk b (by simp));simp only[cX,s1,gq];omega
 rw[show iX 8 n ([a].map iM)=iM a++⟨#[42]⟩by simp[iX],cX,s1];have:=ih a (by simp) (hk a (by simp));simp only[gq];omega
mutual
def rW{g:Int×Int}:∀(e:Ex)(acc:List Ex),f8 g e=true→∀x∈iH e acc,x∈acc∨(f8 g x=true∧fZ x≤fZ e)
 |.mk k n nn ks,acc,h,x,hx=>by
  rw[iH]at hx
  split at hx;exact .inl hx
  split at hx
  ·rcases Dp ks acc (iF h) x hx with h1|h1
   exact .inl h1;rw[gw];exact .inr ⟨h1.1,by omega⟩
  split at hx
  exact .inl hx;rcases an.1 hx with h1|h1
  exact .inl h1;rw[au]at h1;subst h1;exact .inr ⟨h,aw _⟩
def Dp{g:Int×Int}:∀(es:List Ex)(acc:List Ex),(∀e∈es,f8 g e=true)→∀x∈lU es acc,x∈acc∨(f8 g x=true∧fZ x≤gq es)
 | [],acc,_,x,hx=>.inl (by simpa[lU]using hx)
 |e::es,acc,h,x,hx=>by
  rw[lU]at hx;simp only[gq];rcases Dp es (iH e acc) (fun y hy=>h y (by simp[hy])) x hx with h1|h1
  ·rcases rW e acc (h e (by simp)) x h1 with h2|h2
   exact .inl h2;exact .inr ⟨h2.1,by omega⟩
  exact .inr ⟨h1.1,by omega⟩
end
def IL{y:Ex}:∀{l:List Ex},y∈tW x l↔y=x∨y∈l
 | []=>by simp[tW]
 |z::l=>by
  rw[tW]
  split
  ·rw[ab,IL (l:=l),ab];constructor
   ·rintro(h|h|h)<;>simp[h]
   rintro(h|h|h)<;>simp[h]
  simp
def vD{y:Ex}:y∈ma l↔y∈l:=by
 have:∀(l acc:List Ex),y∈l.foldl (fun acc x=>tW x acc) acc↔y∈acc∨y∈l:=by
  intro l
  induction l with
  |nil=>simp
  |cons x l ih=>
   intro acc;rw[de,ih,IL,ab];constructor
   ·rintro((h|h)|h)<;>simp[h]
   rintro(h|h|h)<;>simp[h]
 rw[ma,this];simp
def mS:List Ex→Ex
 | []=>.mk 1 0 (some true) []
 |x::xs=>xs.foldl (fun acc y=>.mk 6 0 (some false) [acc,rK y]) (rK x)
def Kq(a b:Ex):Ex:=mS (ma (iH b (iH a [])))
def MF(h0:1≤i)(h:i<l.length):mS (l.take (i+1))=.mk 6 0 (some false) [mS (l.take i),rK l[i]]:=by
 rw[dr h];cases l with
 |nil=>simp at h
 |cons x xs=>
  obtain⟨j,rfl⟩:∃j,i=j+1:=⟨i-1,by omega⟩;have hj:j<xs.length:=by simpa using h
  simp only[aP,bf,mS,List.getElem_cons_succ,fk,de,List.foldl_nil]
def Bg{a b:Ex}:eE (.mk k 0 (some false) [a,b])=.ag [.sc (.int .i64 k),.sc (.int .i64 0),.ls (some false) 3 [eE a,eE b]]:=by rw[gM];rfl
def CK(f1 f2 f3 f4 f5:Nat):RC:=(.s [.o (.zer 4 3 .ze)] (.s [.o (.bs 8 3 .ze 0 []),.o (.zer 5 1 (.ls (some true) 3 [])),.o (.wO 1 (.t 5) (.t 8))] (.s [.m 9 0,.o (.Ll (some 10) f1 [.t 9,.t 5])] (.s [.m 11 1,.o (.Ll (some 12) f1 [.t 11,.t 5])] (.s [.l 13 1 5,.o (.Ll (some 14) f2 [.t 13]),.o (.wO 1 (.t 5) (.t 14))] (.seq (.s [.l 15 1 5,.o (.len 16 (.t 15)),.q 17 16 0] (.cond (.t 17) (.s [.c 18 f3 [],.o (.wO 3 (.t 4) (.t 18))] .ret) .skip)) (.s [.l 19 1 5,.i 20 3 19 0,.c 21 f4 [.t 20],.o (.zer 6 3 .ze),.o (.wO 3 (.t 6) (.t 21))] (.seq (.s [.v 7 (.ci 1)] (.gX 0 (.loop (.seq (.s [.m 22 7,.l 23 1 5,.o (.len 24 (.t 23)),.o (.bin 25 .lss (.t 22) (.t 24))] (.cond (.t 25) .skip (.exit 0))) (.seq (.gX 1 (.jI true [.L 28 3 6,.l 29 1 5,.m 30 7,.o (.ia 31 3 (.t 29) (.t 30)),.c 32 f4 [.t 31],.c 33 f5 [.ci 6,.t 28,.t 32],.o (.wO 3 (.t 6) (.t 33))])) (.r [.m 26 7,.o (.bin 27 .add (.t 26) (.ci 1)),.m 7 27])))))) (.s [.L 34 3 6,.o (.wO 3 (.t 4) (.t 34))] .ret)))))))))
def CJ(P:Program)(iV:Nat):Prop:=∀(g0:Int×Int)(_:oC g0=true)(a b:Ex),f8 g0 a=true→f8 g0 b=true→fZ a+fZ b≤100000→AF P iV [.pt (eE a) 0,.pt (eE b) 0] (.own (eE (Kq a b)))
def VS(hm:Mx P){f5:Nat}(hr:mX P .sh g=some (35,CK f1 f2 f3 f4 f5,[.c 4 3 true]))(iS:uw P f1)(jw:zD P f2)(pd:sj P f3)(zd:rY P f4)(GF:nj P f5):CJ P g:=by
 intro g0 hg a b XF X2 jP;have hA:=iS g0 a XF [] (by simp;omega);have OT:=vY a [];have hB:=iS g0 b X2 (iH a []) (by simp at OT;omega);have Ek:=vY b (iH a []);have yX:∀x∈iH b (iH a []),f8 g0 x=true∧fZ x≤1000000:=by
  intro x hx;rcases rW b _ X2 x hx with h|h
  ·rcases rW a _ XF x h with h|h
   cases h;exact⟨h.1,by omega⟩
  exact⟨h.1,by omega⟩
 have hS:=jw g0 hg (some false) (iH b (iH a [])) (fun x hx=>⟨(yX x hx).1,by have:=Pv hg x (yX x hx).1;have:=(yX x hx).2;omega⟩) (by simp at OT;omega);unfold Kq;have hmL:∀x∈ma (iH b (iH a [])),By x:=fun x hx=>uK hg x (yX x (vD.1 hx)).1;have hlL:(ma (iH b (iH a []))).length≤1000000:=by rw[Fd];simp at OT;omega
 generalize ma (iH b (iH a []))=L at hS hmL hlL⊢;refine w4 hr hm rfl fun hb=>?_;simp+contextual-implicitDefEqProofs only[CK,AV.lV,lN,aa,ah,aI,bE,D.size,D.fS,go_sem];have la:(List.map eE (iH a [])).length=(iH a []).length:=cH _;have lb:(List.map eE (iH b (iH a []))).length=(iH b (iH a [])).length:=cH _;refine WK (gO.sha _ 8 (by rfl)) [.im none (.pt (eE a) 0)] 5 8 (by rfl) (by rfl) (by rfl) ⟨by decide,rfl,.inl rfl⟩ (by rfl) (by rfl) hA ?_;simp+contextual-implicitDefEqProofs only[la,aL,aK,bE,go_sem];refine I3 [.im none (.pt (eE b) 0)] 5 8 (by rfl) (by rfl) (by rfl) ⟨by decide,la.symm,.inl rfl⟩ (by rfl) (by rfl) hB ?_;simp+contextual-implicitDefEqProofs only[lb,aL,aK,AN,jW,AV.lV,bE,go_sem];refine acm _ (gO.XD _ 8 (u:=.ar false (some false) 3 (wG (iH b (iH a [])))) (by rfl) rfl) ?_;simp+contextual-implicitDefEqProofs only[nT,lC,lN,bE,go_sem];refine fL (ds:=[.ls (some false) 3 (wG (iH b (iH a [])))]) (by rfl) hS ?_;simp+contextual-implicitDefEqProofs only[AN,jW,AV.lV,JT,lC,lN,aV,bE,D.size,lB,go_sem];have hl0:(wG L).length=L.length:=nT
 by_cases hL:L=[]
 ·subst hL;have hk0:(((0:Nat):Int)==0)=true:=rfl;simp+contextual-implicitDefEqProofs only[hl0,lZ,aG,Int.reduceLT,bE,go_sem];refine fL (ds:=[]) (by rfl) (pd ()) ?_;rw[mS,gM];simp+contextual-implicitDefEqProofs only[D.put,lN,aa,ah,lK,lZ,bE,D.size,D.fS,gY,fV,aJ,aP,aO,fU,fO,go_sem]
 have hLp:0<L.length:=dY.2 hL;have hk0:((L.length:Int)==0)=false:=by simp;omega
 have a0:D.at (wG L) 0=eE L[0]:=LT hLp;have abX:∀(j:Nat)(h:j<L.length),By L[j]:=fun j h=>hmL _ (aF h);have ht1:mS (L.take 1)=rK L[0]:=by cases L with
  |nil=>exact absurd rfl hL
  |cons x xs=>rfl
 simp+contextual-implicitDefEqProofs only[hl0,hk0,a0,go_sem];refine⟨by omega,fL (ds:=[.pt (eE L[0]) 0]) (by rfl) (zd L[0] (abX 0 hLp)) ?_⟩;simp+contextual-implicitDefEqProofs only[D.put,gf,aa,ah,lK,lZ,bE,D.size,D.fS,fV,fU,fO,go_sem];refine gL (α:=Nat) [7,22,23,24,25,26,27,28,29,30,31,32,33] (fun i=>[(7,.im none (.sc (.int .i64 i)))]) (fun i=>[(6,.ar true (some false) 3 [eE (mS (L.take i))]),(5,.bx 1 [.im none (.ls (some false) 3 (wG L))]),(4,.ar true (some false) 3 [.ag [.sc (.int .i64 0),.sc (.int .i64 0),.ls (some true) 3 []]])]) (fun i=>1≤i∧i≤L.length) (fun i=>L.length-i) 1 (gO.to [] (by simp only[go_sem];rfl) rfl (by simp[ht1]) (by rfl) (by simp only[fR,go_sem,iD,iP]<;>simp)) ⟨aw _,hLp⟩ ?_;rintro i ⟨OU,wd⟩
 by_cases hi:i<L.length
 ·have ai:D.at (wG L) i=eE L[i]:=LT hi;simp+contextual-implicitDefEqProofs only[hi,hl0,ai,AN,jW,AV.lV,lC,lN,j6.sub,gA,aS,aa,bE,D.size,lB,go_sem,iL,iN];refine fL (ds:=[.pt (eE L[i]) 0]) (by rfl) (zd L[i] (abX i hi)) ?_;simp+contextual-implicitDefEqProofs only[lC,lN,go_sem];refine kW rfl GF (by simp only[AV.mw,ig,go_sem,bE,bi]<;>rfl) (by simp only[AV.mw,ig,gA,gf,go_sem,bE,bi]<;>rfl) ?_;simp+contextual-implicitDefEqProofs only[aL,aK,D.put,D.cells,lC,lN,j6.sub,gA,aa,ah,aI,lK,lZ,bE,D.size,D.fS,fV,fU,fO,go_sem];have ju:=MF OU hi;have alT:eE (mS (L.take (i+1)))=.ag [.sc (.int .i64 6),.sc (.int .i64 0),.ls (some false) 3 [eE (mS (L.take i)),eE (rK L[i])]]:=by rw[ju,Bg]
  refine⟨by simp[gf],i+1,⟨by omega,by omega⟩,by omega,?_⟩;rw[fQ (by omega) (by omega)];exact gO.to [] (by simp only[go_sem];rfl) rfl (by simp[alT]) (by rfl) (by simp only[fR,go_sem]<;>simp)
 obtain rfl:i=L.length:=by omega
 rw[cO];simp+contextual-implicitDefEqProofs only[hl0,bR,D.put,AN,jW,AV.lV,j6.sub,gf,gA,aa,lK,lZ,bE,D.size,fV,lB,fU,fO,go_sem]
end Go.Ax
