/- Contracts of functions of the seat, proved over the engine. No condition. -/
import Derived.Test.YtlmeadheakbmpaaXxF
import Derived.Test.YtlmeadheakbmpaaXxB
import Derived.Test.YtlmeadheakbmpaaXxD
set_option linter.all false
namespace Go.Ax
set_option maxRecDepth 20000
set_option maxHeartbeats 4000000
def sr:∀l:List Int,fO (l.map eI)=true
 | []=>rfl
 |x::l=>by simp only[lC,fO,sr l,eI,D.gl,bi]
def xA(r:List Bool):D:=.ls (some false) 1 (r.map eB)
def DP(g:Int×Int)(A:SL (List Bool))(N:List (List (List Int))):D:=.ag [eI g.1,eI g.2,.ls A.1 1 (A.2.map xA),.ls (some false) 1 (N.map mZ)]
def rj(m:Nat)(x:Ex):List Bool:=(List.range m).map fun(a:Nat)=>lR a x
def acQ:D:=.ag [.sc (.int .i64 0),.sc (.int .i64 0),.ls (some true) 1 [],.ls (some true) 1 []]
def TL(g:Int×Int)(e:Ex):D:=if(ru e (iY g).toNat g.2.toNat).2=0 then DP g (wj (ru e (iY g).toNat g.2.toNat).1.1,(ru e (iY g).toNat g.2.toNat).1.1.map (rj (iY g).toNat)) (ru e (iY g).toNat g.2.toNat).1.2 else acQ
def Fu:RC:=(.s [.o (.mv 2 (.c (.ls (some true) 1 [])))] (.s [.o (.bs 3 1 (.sc (.int .i64 0)) 0 []),.m 4 0,.o (.app 5 1 8 (.t 3) (.t 4)),.m 2 5] .ret))
def zH(P:Program)(iV:Nat):Prop:=∀(nn:Option Bool)(l:List Int),l.length≤1000000→AF P iV [.ls nn 1 (l.map eI)] (.arr 1 (l.map eI))
variable {g:Nat}{P:Program}
def Qt(hm:Mx P)(hr:il P g=some (6,Fu,[.t 2])):zH P g:=by
 intro nn l hl;refine fY hr hm rfl fun _=>?_;simp+contextual-implicitDefEqProofs only[Fu,lN,aa,aI,lZ,bE,fU,fO,lM,go_sem];have Lm:fO (List.map eI l)=true:=sr l;have hng:gT (some false) (List.map eI l)=some false:=by cases l<;>rfl
 unfold gT at hng;refine⟨⟨by omega,by unfold gz;omega,by simp[eI,D.size]⟩,?_⟩;rw[Lm,hng];simp[L7]
def Fg(f1 f2 f3:Nat):RC:=(.s [.b 2 2 0,.o (.zer 4 4 (.ag [(.sc (.int .i64 0)),(.sc (.int .i64 0)),(.ls (some true) 1 []),(.ls (some true) 1 [])])),.v 5 (.ci 0)] (.s [.L 14 2 2,.m 15 1,.c 16 f1 [.t 14,.t 15],.m 13 16,.o (.ext 17 (.t 13) 0),.o (.ext 18 (.t 13) 1),.o (.ext 19 (.t 13) 2),.m 6 17,.m 7 18,.m 8 19] (.seq (.s [.m 20 8,.o (.bin 21 .neq (.t 20) (.ci 0))] (.cond (.t 21) (.s [.o (.bld 22 (.ag [(.sc (.int .i64 0)),(.sc (.int .i64 0)),(.ls (some true) 1 []),(.ls (some true) 1 [])]) []),.m 23 8,.s 4 4 22,.m 5 23] .ret) .skip)) (.s [.L 24 2 2,.m 25 7,.o (.bld 26 (.ag [(.sc (.int .i64 0)),(.sc (.int .i64 0)),(.ls (some true) 1 []),(.ls (some true) 1 [])]) [(0,2,(.t 24)),(3,1,(.t 25))]),.o (.zer 9 4 (.ag [(.sc (.int .i64 0)),(.sc (.int .i64 0)),(.ls (some true) 1 []),(.ls (some true) 1 [])])),.s 4 9 26] (.seq (.s [.v 10 (.ci 0)] (.gX 0 (.loop (.seq (.s [.m 27 10,.m 28 6,.o (.len 29 (.t 28)),.o (.bin 30 .lss (.t 27) (.t 29))] (.cond (.t 30) .skip (.exit 0))) (.seq (.gX 1 (.s [.o (.bs 33 1 (.sc (.bool false)) 0 []),.m 11 33] (.seq (.s [.v 12 (.ci 0)] (.gX 2 (.loop (.seq (.s [.m 34 12,.L 35 2 2,.c 36 f2 [.t 35],.o (.bin 37 .lss (.t 34) (.t 36))] (.cond (.t 37) .skip (.exit 2))) (.seq (.gX 3 (.r [.m 40 11,.m 41 6,.m 42 10,.o (.ia 43 3 (.t 41) (.t 42)),.m 44 12,.c 45 f3 [.t 43,.t 44],.o (.bs 46 1 (.sc (.bool false)) 1 [(0,(.t 45))]),.o (.app 47 1 1 (.t 40) (.t 46)),.m 11 47])) (.r [.m 38 12,.o (.bin 39 .add (.t 38) (.ci 1)),.m 12 39])))))) (.r [.f 48 2 9,.l 49 1 48,.m 50 11,.o (.bs 51 1 (.ls (some true) 1 []) 1 [(0,(.t 50))]),.o (.app 52 1 24 (.t 49) (.t 51)),.f 53 2 9,.s 1 53 52])))) (.r [.m 31 10,.o (.bin 32 .add (.t 31) (.ci 1)),.m 10 32])))))) (.s [.L 54 4 9,.s 4 4 54,.v 5 (.ci 0)] .ret))))))
def Az(P:Program)(iV:Nat):Prop:=∀(g0:Int×Int)(_:oC g0=true)(e:Ex),f8 g0 e=true→fZ e≤800→AF P iV [eG g0,.pt (eE e) 0] (.lf [.own (TL g0 e),.own (eI (ru e (iY g0).toNat g0.2.toNat).2)])
variable {f1 f2:Nat}
def Q2(hm:Mx P){f3:Nat}(hr:il P g=some (55,Fg f1 f2 f3,[.c 4 4 true,.t 5]))(iS:uP P f1)(jw:qA P f2)(pd:sV P f3):Az P g:=by
 intro g0 hg e hT jP;obtain⟨g1,g2⟩:=g0;have hgi:=lh hg;simp only at hgi;have BO:=Dm hg;obtain⟨C,rfl⟩:∃C:Nat,g2=C:=⟨g2.toNat,by omega⟩;obtain⟨M,hM⟩:∃M:Nat,iY (g1,(C:Int))=M:=⟨(iY (g1,(C:Int))).toNat,by omega⟩;have Sl:=jw (g1,(C:Int)) hg;have hS:=iS (g1,(C:Int)) hg e hT jP;unfold TL;rw[hM]at Sl BO hS⊢;simp only[aS]at hS⊢;have afU:∀p,oU e M C 61=some p→_:=fun p hp=>vT hT jP hp;refine fY hr hm rfl fun hb=>?_;simp+contextual-implicitDefEqProofs only[Fg,eG,eI,lC,lN,aa,ah,aI,bE,D.size,D.fS,gY,fV,aJ,aP,aO,go_sem];refine fL (ds:=[eG (g1,(C:Int)),.pt (eE e) 0]) (by rfl) hS ?_;cases ju:oU e M C 61 with
 |none=>
  rw[qk ju];simp only[];simp+contextual-implicitDefEqProofs only[bne,bN,bU,bJ,acQ,aK,eI,D.put,D.cells,lC,lN,aa,ah,aI,lK,lZ,Int.reduceBEq,Int.reduceEq,bE,D.size,D.fS,gY,fV,aj,ak,aJ,aP,aO,fU,fO,go_sem]
 |some p=>
  obtain⟨L,N⟩:=p;obtain⟨hk,_⟩:=afU _ ju;rw[rS ju];simp only[]at hk⊢;have afV:=hk.len;simp+contextual-implicitDefEqProofs only[bne,bT,bN,bG,bU,bJ,bP,aL,aK,eI,D.put,D.cells,lC,lN,aa,ah,aI,lK,lZ,bE,D.size,D.fS,gY,fV,aj,ak,aJ,aP,aO,dz,fU,fO,go_sem,Nat.reduceSub];refine gL (α:=Nat) [10,11,12,27,28,29,30,31,32,33,34,35,36,37,38,39,40,41,42,43,44,45,46,47,48,49,50,51,52,53] (fun i=>[(10,.im none (.sc (.int .i64 i)))]) (fun i=>[(2,.ar false (some false) 2 [.ag [.sc (.int .i64 g1),.sc (.int .i64 C)]]),(4,.ar true (some false) 4 [.ag [.sc (.int .i64 0),.sc (.int .i64 0),.ls (some true) 1 [],.ls (some true) 1 []]]),(9,.ar true (some false) 4 [.ag [.sc (.int .i64 g1),.sc (.int .i64 C),.ls (wj (L.take i)) 1 ((L.take i).map fun x=>xA (rj M x)),.ls (some false) 1 (N.map mZ)]])]) (fun i=>i≤L.length) (fun i=>L.length-i) 0 (gO.to [] (by simp only[go_sem];rfl) rfl (by simp[wj,aO]) (by rfl) (by simp only[fR,go_sem,iD,iP]<;>simp)) (aq _) ?_;intro i wd
  by_cases hi:i<L.length
  ·have hx:=hk.ok (L.getD i zE) (by rw[aE,bb hi];exact aF hi);have ai:D.at (L.map eE) i=eE (L.getD i zE):=jJ hi;have Sc:=dr hi;have hgx:L.getD i zE=L[i]:=by rw[aE,bb hi];rfl
   rw[hgx]at hx ai;generalize L[i]=x at*;have H0:wj (List.take i L++[x])=some false:=NN (by simp);simp+contextual-implicitDefEqProofs only[hi,lN,lM,go_sem,iL];refine gL (α:=Nat) [11,12,33,34,35,36,37,38,39,40,41,42,43,44,45,46,47] (fun a=>[(12,.im none (.sc (.int .i64 a))),(11,.sm 33 0 a)]) (fun a=>[(2,.ar false (some false) 2 [.ag [.sc (.int .i64 g1),.sc (.int .i64 C)]]),(4,.ar true (some false) 4 [.ag [.sc (.int .i64 0),.sc (.int .i64 0),.ls (some true) 1 [],.ls (some true) 1 []]]),(9,.ar true (some false) 4 [.ag [.sc (.int .i64 g1),.sc (.int .i64 C),.ls (wj (L.take i)) 1 ((L.take i).map fun x=>xA (rj M x)),.ls (some false) 1 (N.map mZ)]]),(33,.ar true (some false) 1 ((List.range a).map fun(b:Nat)=>eB (lR b x)))]) (fun a=>a≤M) (fun a=>M-a) 0 (gO.to [] (by simp only[go_sem];rfl) rfl (by simp) (by rfl) (by simp only[fR,go_sem,iD,iP]<;>simp)) (aq _) ?_;intro a O1
   by_cases ha:a<M
   ·have vo:(a:Int)<(M:Int):=by omega
    simp+contextual-implicitDefEqProofs only[eB,lC,lN,aa,gY,fV,aJ,aP,aO,go_sem];refine fL (ds:=[eG (g1,(C:Int))]) (by rfl) Sl ?_;simp+contextual-implicitDefEqProofs only[vo,hi,eI,lC,lN,aS,lM,go_sem,iL,iN];rw[ai];refine fL (ds:=[.pt (eE x) 0,.sc (.int .i64 a)]) (by rfl) (pd (g1,(C:Int)) hg a (by omega) (by omega) x hx.1) ?_;simp+contextual-implicitDefEqProofs only[eb,cG,au,cd,ce,aK,eB,lC,lN,aa,lK,lZ,bE,D.size,fU,fO,lM,go_sem,Nat.reduceMul];refine⟨⟨by omega,by unfold gz;omega⟩,a+1,by omega,by omega,?_⟩;rw[fQ (by omega) (by omega)];exact gO.to [] (by simp only[go_sem];rfl) rfl (by simp[fj,bQ]) (by rfl) (by simp only[fR,go_sem]<;>simp)
   obtain rfl:a=M:=by omega
   simp+contextual-implicitDefEqProofs only[eB,lC,lN,aa,gY,fV,aJ,aP,aO,go_sem];refine fL (ds:=[eG (g1,(C:Int))]) (by rfl) Sl ?_;simp+contextual-implicitDefEqProofs only[eb,bR,cG,au,cd,ce,aL,aK,eI,D.put,D.cells,lC,lN,aa,lK,lZ,bE,D.size,gr,fV,aj,ak,aJ,aP,aO,dz,fU,fO,lM,go_sem,Nat.reduceMul];refine⟨⟨by rw[a8];omega,by rw[a8];unfold gz;omega⟩,i+1,by omega,by omega,?_⟩;rw[fQ (by omega) (by omega)];exact gO.to [] (by simp only[go_sem];rfl) rfl (by simp[Sc,H0,bQ,xA,rj,eB]) (by rfl) (by simp only[fR,go_sem]<;>simp)
  obtain rfl:i=L.length:=by omega
  have hL:L≠[]:=fun h=>by have:=hk.hd;rw[h]at this;cases this
  simp+contextual-implicitDefEqProofs only[bR,D.put,aa,ah,lK,lZ,bE,D.size,D.fS,gY,fV,aJ,aP,aO,fU,fO,lM,go_sem];rw[cO];unfold DP;rw[cR];exact D.Le.refl _
def HO(prev:List Int)(acc to:Int):Int:=if 0≤to then IntKind.i64.wrap (acc+prev.getD to.toNat 0)else acc
def Bd(n:Nat)(prev:List Int)(acc:Int)(b:Bool)(row:List Int):Int:=if n=0 then(if b=true then IntKind.i64.wrap (acc+1)else acc)else row.foldl (HO prev) acc
def Bj(n:Nat)(prev:List Int)(bs:List Bool)(rows:List (List Int)):Nat→Int
 |0=>0
 |k+1=>Bd n prev (Bj n prev bs rows k) (bs.getD k false) (rows.getD k [])
def cS(A:List (List Bool))(N:List (List (List Int)))(n:Nat)(prev:List Int)(s:Nat):Int:=Bj n prev (A.getD s []) (N.getD s []) (A.getD s []).length
def pm(A:List (List Bool))(N:List (List (List Int))):Nat→List (List Int)
 |0=>[]
 |n+1=>pm A N n++[(List.range A.length).map (cS A N n ((pm A N n).getD (n-1) []))]
variable {N:List (List (List Int))}{A:List (List Bool)}
def qy:∀{n:Nat},(pm A N n).length=n
 |0=>rfl
 |n+1=>by simp only[pm,lP,qy (n:=n)];rfl
def D2:∀{n i:Nat},i<n→((pm A N n).getD i []).length=A.length
 |0,i,h=>by omega
 |n+1,i,h=>by
  simp only[pm]
  by_cases hi:i<n
  ·rw[aE,bL (by rw[qy];exact hi),←aE];exact D2 hi
  obtain rfl:i=n:=by omega
  rw[aE,dA (by rw[qy];exact aw _),qy];simp
structure Ud (M C:Nat) (A:List (List Bool)) (N:List (List (List Int))):Prop where
 al:A.length≤60
 nl:N.length=A.length
 am:∀s,s<A.length→(A.getD s []).length=M
 nm:∀s,s<A.length→(N.getD s []).length=M
 nc:∀s k,s<A.length→k<M→((N.getD s []).getD k []).length=C
 to:∀s k c,s<A.length→k<M→c<C→((N.getD s []).getD k []).getD c 0<(A.length:Int)
def Bm:RC:=(.s [.o (.mv 4 (.c (.ls (some true) 1 [])))] (.s [.o (.bs 13 1 (.ls (some true) 1 []) 0 []),.m 5 13] (.seq (.s [.v 6 (.ci 0)] (.gX 0 (.loop (.seq (.s [.m 14 6,.m 15 1,.o (.bin 16 .leq (.t 14) (.t 15))] (.cond (.t 16) .skip (.exit 0))) (.seq (.gX 1 (.s [.o (.bs 19 1 (.sc (.int .i64 0)) 0 []),.m 7 19] (.seq (.s [.v 8 (.ci 0)] (.gX 2 (.loop (.seq (.s [.m 20 8,.m 21 0,.n 22 21,.f 23 2 22,.l 24 1 23,.o (.len 25 (.t 24)),.o (.bin 26 .lss (.t 20) (.t 25))] (.cond (.t 26) .skip (.exit 2))) (.seq (.gX 3 (.s [.v 9 (.ci 0)] (.seq (.s [.v 10 (.ci 0)] (.gX 4 (.loop (.seq (.s [.m 29 10,.m 30 0,.n 31 30,.f 32 2 31,.l 33 1 32,.m 34 8,.o (.ia 35 1 (.t 33) (.t 34)),.l 36 1 35,.o (.len 37 (.t 36)),.o (.bin 38 .lss (.t 29) (.t 37))] (.cond (.t 38) .skip (.exit 4))) (.seq (.gX 5 (.seq (.s [.m 41 6,.q 42 41 0,.m 43 42,.wm 43 44 0,.w 43 (.nck 45 (.t 44)),.w 43 (.fa 46 2 (.t 45)),.w 43 (.ld 47 false 1 (.t 46)),.wm 43 48 8,.w 43 (.ia 49 1 (.t 47) (.t 48)),.w 43 (.ld 50 false 1 (.t 49)),.wm 43 51 10,.w 43 (.ia 52 1 (.t 50) (.t 51)),.w 43 (.ld 53 false 1 (.t 52)),.k 54 43 53] (.cond (.t 54) (.r [.m 55 9,.o (.bin 56 .add (.t 55) (.ci 1)),.m 9 56]) .skip)) (.s [.v 11 (.ci 0)] (.gX 6 (.loop (.seq (.s [.m 57 6,.o (.bin 58 .gtr (.t 57) (.ci 0)),.m 59 58,.wm 59 60 11,.wm 59 61 0,.w 59 (.nck 62 (.t 61)),.w 59 (.fa 63 3 (.t 62)),.w 59 (.ld 64 false 1 (.t 63)),.wm 59 65 8,.w 59 (.ia 66 1 (.t 64) (.t 65)),.w 59 (.ld 67 false 1 (.t 66)),.wm 59 68 10,.w 59 (.ia 69 1 (.t 67) (.t 68)),.w 59 (.ld 70 false 1 (.t 69)),.w 59 (.len 71 (.t 70)),.w 59 (.bin 72 .lss (.t 60) (.t 71)),.k 73 59 72] (.cond (.t 73) .skip (.exit 6))) (.seq (.gX 7 (.s [.m 76 0,.n 77 76,.f 78 3 77,.l 79 1 78,.m 80 8,.o (.ia 81 1 (.t 79) (.t 80)),.l 82 1 81,.m 83 10,.o (.ia 84 1 (.t 82) (.t 83)),.l 85 1 84,.m 86 11,.o (.ia 87 1 (.t 85) (.t 86)),.l 88 1 87,.m 12 88] (.s [.m 89 12,.o (.bin 90 .geq (.t 89) (.ci 0))] (.cond (.t 90) (.r [.m 91 9,.m 92 5,.m 93 6,.o (.bin 94 .sub (.t 93) (.ci 1)),.o (.ia 95 1 (.t 92) (.t 94)),.l 96 1 95,.m 97 12,.o (.ia 98 1 (.t 96) (.t 97)),.l 99 1 98,.o (.bin 100 .add (.t 91) (.t 99)),.m 9 100]) .skip)))) (.r [.m 74 11,.o (.bin 75 .add (.t 74) (.ci 1)),.m 11 75])))))))) (.r [.m 39 10,.o (.bin 40 .add (.t 39) (.ci 1)),.m 10 40])))))) (.r [.m 101 7,.m 102 9,.o (.bs 103 1 (.sc (.int .i64 0)) 1 [(0,(.t 102))]),.o (.app 104 1 8 (.t 101) (.t 103)),.m 7 104])))) (.r [.m 27 8,.o (.bin 28 .add (.t 27) (.ci 1)),.m 8 28])))))) (.r [.m 105 5,.m 106 7,.o (.bs 107 1 (.ls (some true) 1 []) 1 [(0,(.t 106))]),.o (.app 108 1 24 (.t 105) (.t 107)),.m 5 108])))) (.r [.m 17 6,.o (.bin 18 .add (.t 17) (.ci 1)),.m 6 18])))))) (.s [.m 109 5,.m 4 109] .ret))))
def uA(P:Program)(iV:Nat):Prop:=∀(g:Int×Int)(nn:Option Bool)(A:List (List Bool))(N:List (List (List Int)))(ℓ M C:Nat),Ud M C A N→ℓ≤10→M≤8→C≤4→AF P iV [.pt (DP g (nn,A) N) 0,.sc (.int .i64 ℓ)] (.own (.ls (some false) 1 ((pm A N (ℓ+1)).map np)))
def JX(hm:Mx P)(hr:il P g=some (110,Bm,[.t 4])):uA P g:=by
 intro g nn A N ℓ M C kA hℓ hM hC;have SI:=kA.al;refine fY hr hm rfl fun hb=>?_;simp+contextual-implicitDefEqProofs only[Bm,DP,eI,lN,aa,aI,go_sem];refine gL (α:=Nat) [5,6,7,8,9,10,11,12,13,14,15,16,17,18,19,20,21,22,23,24,25,26,27,28,29,30,31,32,33,34,35,36,37,38,39,40,41,42,43,44,45,46,47,48,49,50,51,52,53,54,55,56,57,58,59,60,61,62,63,64,65,66,67,68,69,70,71,72,73,74,75,76,77,78,79,80,81,82,83,84,85,86,87,88,89,90,91,92,93,94,95,96,97,98,99,100,101,102,103,104,105,106,107,108] (fun n=>[(6,.im none (.sc (.int .i64 n))),(5,.sm 13 0 n)]) (fun n=>[(13,.ar true (some false) 1 ((pm A N n).map np))]) (fun n=>n≤ℓ+1) (fun n=>ℓ+1-n) 0 (gO.to [] (by simp only[go_sem];rfl) rfl (by simp[pm]) (by rfl) (by simp only[fR,go_sem,iD,iP]<;>simp)) (aq _) ?_;intro n hn0;have rh:(pm A N n).length=n:=qy
 by_cases hn:n≤ℓ
 ·have Ey:(n:Int)≤(ℓ:Int):=by omega
  generalize hpv:(pm A N n).getD (n-1) []=pv;simp+contextual-implicitDefEqProofs only[Ey,lN,go_sem];refine gL (α:=Nat) [7,8,9,10,11,12,19,20,21,22,23,24,25,26,27,28,29,30,31,32,33,34,35,36,37,38,39,40,41,42,43,44,45,46,47,48,49,50,51,52,53,54,55,56,57,58,59,60,61,62,63,64,65,66,67,68,69,70,71,72,73,74,75,76,77,78,79,80,81,82,83,84,85,86,87,88,89,90,91,92,93,94,95,96,97,98,99,100,101,102,103,104] (fun s=>[(8,.im none (.sc (.int .i64 s))),(7,.sm 19 0 s)]) (fun s=>[(13,.ar true (some false) 1 ((pm A N n).map np)),(19,.ar true (some false) 1 ((List.range s).map fun(t:Nat)=>(.sc (.int .i64 (cS A N n pv t)):D)))]) (fun s=>s≤A.length) (fun s=>A.length-s) 0 (gO.to [] (by simp only[go_sem];rfl) rfl (by simp) (by rfl) (by simp only[fR,go_sem,iD,iP]<;>simp)) (aq _) ?_;intro s lW
  by_cases hs:s<A.length
  ·have e1:D.at (A.map xA) s=xA (A.getD s []):=jJ hs;have e2:D.at (N.map mZ) s=mZ (N.getD s []):=jJ (by rw[kA.nl];exact hs);have am:=kA.am s hs;have nm:=kA.nm s hs;have nc:=kA.nc s;have hto:=kA.to s;have sC:cS A N n pv s=Bj n pv (A.getD s []) (N.getD s []) (A.getD s []).length:=rfl;generalize A.getD s []=bs at*;generalize N.getD s []=rows at*;simp+contextual-implicitDefEqProofs only[hs,aa,ah,D.size,D.fS,gr,fV,aj,ak,lM,go_sem,iL];refine gL (α:=Nat) [9,10,11,12,29,30,31,32,33,34,35,36,37,38,39,40,41,42,43,44,45,46,47,48,49,50,51,52,53,54,55,56,57,58,59,60,61,62,63,64,65,66,67,68,69,70,71,72,73,74,75,76,77,78,79,80,81,82,83,84,85,86,87,88,89,90,91,92,93,94,95,96,97,98,99,100] (fun k=>[(10,.im none (.sc (.int .i64 k))),(9,.im none (.sc (.int .i64 (Bj n pv bs rows k))))]) (fun k=>[(13,.ar true (some false) 1 ((pm A N n).map np)),(19,.ar true (some false) 1 ((List.range s).map fun(t:Nat)=>(.sc (.int .i64 (cS A N n pv t)):D)))]) (fun k=>k≤M) (fun k=>M-k) 0 (gO.to [] (by simp only[go_sem];rfl) rfl (by simp) (by rfl) (by simp only[fR,go_sem,iD,iP]<;>simp[Bj])) (aq _) ?_;intro k hk0
   by_cases hk:k<M
   ·have mM:(k:Int)<(M:Int):=by omega
    have e3:D.at (bs.map eB) k=eB (bs.getD k false):=jJ (by omega);have e4:D.at (rows.map np) k=np (rows.getD k []):=jJ (by omega);have In:=nc k hs hk;have Sc:=hto k;have X1:Bj n pv bs rows (k+1)=Bd n pv (Bj n pv bs rows k) (bs.getD k false) (rows.getD k []):=rfl;generalize Bj n pv bs rows k=acc at*;generalize bs.getD k false=b at*;generalize rows.getD k []=row at*
    by_cases h0:n=0
    ·subst h0;have z0:((0:Nat):Int)=0:=rfl;cases b with
     |true=>
      have hv:Bd 0 pv acc true row=IntKind.i64.wrap (acc+1):=by simp[Bd]
      simp+contextual-implicitDefEqProofs only[z0,hs,e1,xA,am,hk,e3,eB,aS,aa,ah,bE,D.size,D.fS,gr,n7,pF,fV,l9,lB,aj,ak,lM,go_sem,iL,iN];refine gL (α:=Nat) [9,11,12,57,58,59,60,61,62,63,64,65,66,67,68,69,70,71,72,73,74,75,76,77,78,79,80,81,82,83,84,85,86,87,88,89,90,91,92,93,94,95,96,97,98,99,100] (fun j=>[(11,.im none (.sc (.int .i64 j))),(9,.im none (.sc (.int .i64 (IntKind.i64.wrap (acc+1)))))]) (fun j=>[(13,.ar true (some false) 1 ((pm A N 0).map np)),(19,.ar true (some false) 1 ((List.range s).map fun(t:Nat)=>(.sc (.int .i64 (cS A N 0 pv t)):D)))]) (fun j=>j=0) (fun j=>0) 0 (gO.to [] (by simp only[go_sem];rfl) rfl (by simp) (by rfl) (by simp only[fR,go_sem,iD,iP]<;>simp)) rfl ?_;intro j hj;subst hj;simp+contextual-implicitDefEqProofs only[z0,gt_iff_lt,bR,go_sem];refine⟨k+1,by omega,by omega,?_⟩;rw[fQ (by omega) (by omega)];exact gO.to [] (by simp only[go_sem];rfl) rfl (by simp) (by rfl) (by simp only[fR,go_sem]<;>simp[X1,hv])
     |false=>
      have hv:Bd 0 pv acc false row=acc:=by simp[Bd]
      simp+contextual-implicitDefEqProofs only[z0,hs,e1,xA,am,hk,e3,eB,aS,aa,ah,bE,D.size,D.fS,gr,n7,pF,fV,l9,lB,aj,ak,lM,go_sem,iL,iN];refine gL (α:=Nat) [9,11,12,57,58,59,60,61,62,63,64,65,66,67,68,69,70,71,72,73,74,75,76,77,78,79,80,81,82,83,84,85,86,87,88,89,90,91,92,93,94,95,96,97,98,99,100] (fun j=>[(11,.im none (.sc (.int .i64 j))),(9,.im none (.sc (.int .i64 acc)))]) (fun j=>[(13,.ar true (some false) 1 ((pm A N 0).map np)),(19,.ar true (some false) 1 ((List.range s).map fun(t:Nat)=>(.sc (.int .i64 (cS A N 0 pv t)):D)))]) (fun j=>j=0) (fun j=>0) 0 (gO.to [] (by simp only[go_sem];rfl) rfl (by simp) (by rfl) (by simp only[fR,go_sem,iD,iP]<;>simp)) rfl ?_;intro j hj;subst hj;simp+contextual-implicitDefEqProofs only[z0,gt_iff_lt,bR,go_sem];refine⟨k+1,by omega,by omega,?_⟩;rw[fQ (by omega) (by omega)];exact gO.to [] (by simp only[go_sem];rfl) rfl (by simp) (by rfl) (by simp only[fR,go_sem]<;>simp[X1,hv])
    have Lm:(0:Int)<(n:Int):=by omega
    have b0:((n:Int)==0)=false:=by simp;omega
    have hv:Bd n pv acc b row=row.foldl (HO pv) acc:=by simp[Bd,h0]
    have R9:pv.length=A.length:=by rw[←hpv];exact D2 (by omega)
    have e6:D.at ((pm A N n).map np) (n-1)=np pv:=by rw[←hpv];exact jJ (by omega)
    have hsN:s<N.length:=by rw[kA.nl];exact hs
    have hw1:((n-1:Nat):Int)<(n:Int):=by omega
    have hw:IntKind.i64.wrap ((n:Int)-1)=((n-1:Nat):Int):=by rw[fQ (by omega) (by omega)];omega
    simp+contextual-implicitDefEqProofs only[hs,e1,xA,am,hk,b0,aS,aa,ah,D.size,D.fS,gr,pF,fV,lB,aj,ak,lM,go_sem,iL,iN];refine gL (α:=Nat) [9,11,12,57,58,59,60,61,62,63,64,65,66,67,68,69,70,71,72,73,74,75,76,77,78,79,80,81,82,83,84,85,86,87,88,89,90,91,92,93,94,95,96,97,98,99,100] (fun j=>[(11,.im none (.sc (.int .i64 j))),(9,.im none (.sc (.int .i64 ((row.take j).foldl (HO pv) acc))))]) (fun j=>[(13,.ar true (some false) 1 ((pm A N n).map np)),(19,.ar true (some false) 1 ((List.range s).map fun(t:Nat)=>(.sc (.int .i64 (cS A N n pv t)):D)))]) (fun j=>j≤C) (fun j=>C-j) 0 (gO.to [] (by simp only[go_sem];rfl) rfl (by simp) (by rfl) (by simp only[fR,go_sem,iD,iP]<;>simp)) (aq _) ?_;intro j Sg
    by_cases hj:j<C
    ·have e5:D.at (row.map eI) j=eI (row.getD j 0):=jJ (by omega);have htl:=Sc j hs hk hj;have XG:=dr (l:=row) (i:=j) (by omega);have hgr:row[j]'(by omega)=row.getD j 0:=by rw[aE,bb (by omega)];rfl
     rw[hgr]at XG;have hj':(j:Int)<(row.length:Int):=by omega
     have hjr:j<row.length:=by omega
     have hwj:IntKind.i64.wrap ((j:Int)+1)=(j:Int)+1:=fQ (by omega) (by omega);generalize row.getD j 0=t at*
     by_cases ht0:0≤t
     ·have e7:D.at (pv.map eI) t.toNat=eI (pv.getD t.toNat 0):=jJ (by omega);simp+contextual-implicitDefEqProofs only[e2,mZ,np,nm,hk,e4,e5,hj',Lm,ht0,hsN,hw,hw1,aS,e6,e7,R9,htl,eI,aa,ah,D.size,D.fS,gr,n7,pF,fV,l9,lB,aj,ak,lM,go_sem,iL,iN];have hfd:(row.take (j+1)).foldl (HO pv) acc=IntKind.i64.wrap ((row.take j).foldl (HO pv) acc+pv.getD t.toNat 0):=by rw[XG,fk];simp[HO,ht0]
      refine⟨by omega,j+1,by omega,by omega,?_⟩;rw[hwj];exact gO.to [] (by simp only[go_sem];rfl) rfl (by simp) (by rfl) (by simp only[fR,go_sem]<;>simp[hfd])
     have ht0':¬(t≥0):=by omega
     simp+contextual-implicitDefEqProofs only[e2,mZ,np,nm,hk,e4,e5,hj',Lm,ht0,hsN,eI,aS,aa,ah,D.size,D.fS,gr,n7,pF,fV,l9,lB,aj,ak,lM,go_sem,iL,iN];have hfd:(row.take (j+1)).foldl (HO pv) acc=(row.take j).foldl (HO pv) acc:=by rw[XG,fk];simp[HO,ht0]
     refine⟨j+1,by omega,by omega,?_⟩;rw[hwj];exact gO.to [] (by simp only[go_sem];rfl) rfl (by simp) (by rfl) (by simp only[fR,go_sem]<;>simp[hfd])
    obtain hjC:j=row.length:=by omega
    subst hjC;simp+contextual-implicitDefEqProofs only[e2,mZ,np,nm,hk,e4,Lm,hsN,bR,aS,aa,ah,D.size,D.fS,gr,pF,fV,lB,aj,ak,lM,go_sem,iL,iN];refine⟨k+1,by omega,by omega,?_⟩;rw[fQ (by omega) (by omega)];exact gO.to [] (by simp only[go_sem];rfl) rfl (by simp) (by rfl) (by simp only[fR,go_sem]<;>simp[X1,hv])
   obtain hkM:k=M:=by omega
   subst hkM;simp+contextual-implicitDefEqProofs only[hs,e1,xA,am,bR,cG,eb,au,cd,ce,aK,lC,lN,aS,aa,ah,lK,lZ,bE,D.size,D.fS,gr,pF,fV,lB,aj,ak,fU,fO,lM,go_sem,Nat.reduceMul,iL,iN];refine⟨⟨by omega,by unfold gz;omega⟩,s+1,by omega,by omega,?_⟩;rw[fQ (by omega) (by omega)];exact gO.to [] (by simp only[go_sem];rfl) rfl (by simp[fj,bQ,sC,am]) (by rfl) (by simp only[fR,go_sem]<;>simp)
  obtain rfl:s=A.length:=by omega
  simp+contextual-implicitDefEqProofs only[rh,bR,cG,eb,au,cd,ce,aL,aK,lC,lN,aa,ah,lK,lZ,bE,D.size,D.fS,gr,fV,aj,ak,fU,fO,lM,go_sem,Nat.reduceMul];have XA:pm A N (n+1)=pm A N n++[(List.range A.length).map (cS A N n pv)]:=by rw[←hpv];rfl
  refine⟨⟨by omega,by unfold gz;omega⟩,n+1,by omega,by omega,?_⟩;rw[fQ (by omega) (by omega)];exact gO.to [] (by simp only[go_sem];rfl) rfl (by simp[XA,np,eI,bF]) (by rfl) (by simp only[fR,go_sem]<;>simp)
 obtain rfl:n=ℓ+1:=by omega
 have Ey:¬((ℓ+1:Nat):Int)≤(ℓ:Int):=by omega
 simp+contextual-implicitDefEqProofs only[Ey,rh,bE,lM,go_sem]
 try exact D.Le.refl _
def QC(b:Wo)(a:Nat):Wo:=((some false,b.1.2++[(a:Int)]),(some false,b.2.2))
def pu(b:Wo)(a c:Nat):Wo:=((some false,b.1.2++[(a:Int)]),(some false,b.2.2++[(c:Int)]))
def B9(bs:List Bool)(b:Wo):Nat→List Wo→List Wo
 |0,out=>out
 |a+1,out=>if(B9 bs b a out).length≤2000 then(if bs.getD a false=true then B9 bs b a out++[QC b a]else B9 bs b a out)else B9 bs b a out
def sZ(rec:Nat→Wo→List Wo→List Wo)(row cr:List Int)(b:Wo)(a:Nat):Nat→List Wo→List Wo
 |0,out=>out
 |c+1,out=>if row.getD c 0<0 then sZ rec row cr b a c out else if cr.getD (row.getD c 0).toNat 0=0 then sZ rec row cr b a c out else rec (row.getD c 0).toNat (pu b a c) (sZ rec row cr b a c out)
def Eu(rec:Nat→Wo→List Wo→List Wo)(rows:List (List Int))(cr:List Int)(C:Nat)(b:Wo):Nat→List Wo→List Wo
 |0,out=>out
 |a+1,out=>if(Eu rec rows cr C b a out).length≤2000 then sZ rec (rows.getD a []) cr b a C (Eu rec rows cr C b a out)else Eu rec rows cr C b a out
def Ji{rec:Nat→Wo→List Wo→List Wo}{rows:List (List Int)}{cr:List Int}{C:Nat}{b:Wo}{a:Nat}{out:List Wo}(h:2000<(Eu rec rows cr C b a out).length):∀{a':Nat},a≤a'→Eu rec rows cr C b a' out=Eu rec rows cr C b a out
 |0,h'=>by
  obtain rfl:a=0:=by omega
  rfl
 |k+1,h'=>by
  by_cases e:a=k+1
  ·rw[e]
  have:=Ji h (show a≤k by omega);simp only[Eu];rw[this,ae (by omega)]
def pi(A:List (List Bool))(N:List (List (List Int)))(cnt:List (List Int))(M C:Nat):Nat→Nat→Wo→List Wo→List Wo
 |0,s,b,out=>B9 (A.getD s []) b M out
 |k+1,s,b,out=>Eu (pi A N cnt M C k) (N.getD s []) (cnt.getD k []) C b M out
def GQ{bs:List Bool}{b:Wo}:∀{a:Nat} {out:List Wo},out.length≤2001→(B9 bs b a out).length≤2001
 |0,out,h=>h
 |a+1,out,h=>by
  have ih:=GQ (bs:=bs) (b:=b) (a:=a) h;simp only[B9]
  split
  ·split
   rw[lP];simp;omega;exact ih
  exact ih
def JA{bs:List Bool}{b:Wo}{a:Nat}{out:List Wo}(h:2000<(B9 bs b a out).length):∀{a':Nat},a≤a'→B9 bs b a' out=B9 bs b a out
 |0,h'=>by
  obtain rfl:a=0:=by omega
  rfl
 |k+1,h'=>by
  by_cases e:a=k+1
  ·rw[e]
  have:=JA h (show a≤k by omega);simp only[B9];rw[this,ae (by omega)]
def C4{rec:Nat→Wo→List Wo→List Wo}(hr:∀s b out,out.length≤2001→(rec s b out).length≤2001){row cr:List Int}{b:Wo}{a:Nat}:∀{c:Nat} {out:List Wo},out.length≤2001→(sZ rec row cr b a c out).length≤2001
 |0,out,h=>h
 |c+1,out,h=>by
  have ih:=C4 hr (row:=row) (cr:=cr) (b:=b) (a:=a) (c:=c) h;simp only[sZ]
  split;exact ih
  split
  exact ih;exact hr _ _ _ ih
def HR{rec:Nat→Wo→List Wo→List Wo}(hr:∀s b out,out.length≤2001→(rec s b out).length≤2001){rows:List (List Int)}{cr:List Int}{C:Nat}{b:Wo}:∀{a:Nat} {out:List Wo},out.length≤2001→(Eu rec rows cr C b a out).length≤2001
 |0,out,h=>h
 |a+1,out,h=>by
  have ih:=HR hr (rows:=rows) (cr:=cr) (C:=C) (b:=b) (a:=a) h;simp only[Eu]
  split;exact C4 hr ih;exact ih
variable {C M:Nat}
def zu{cnt:List (List Int)}:∀{k s:Nat} {b:Wo} {out:List Wo},out.length≤2001→(pi A N cnt M C k s b out).length≤2001
 |0,s,b,out,h=>GQ h
 |k+1,s,b,out,h=>HR (fun s b out h=>zu h) h
def th(g f1 f2:Nat):RC:=(.s [.b 9 2 3] (.s [.v 12 (.ci 0)] (.gX 0 (.loop (.seq (.s [.m 16 12,.m 17 0,.n 18 17,.f 19 0 18,.L 20 2 19,.c 21 f1 [.t 20],.o (.bin 22 .lss (.t 16) (.t 21)),.m 23 22,.wm 23 24 5,.w 23 (.nck 25 (.t 24)),.w 23 (.ld 26 false 1 (.t 25)),.w 23 (.len 27 (.t 26)),.w 23 (.bin 28 .leq (.t 27) (.ci 2000)),.k 29 23 28] (.cond (.t 29) .skip (.exit 0))) (.seq (.gX 1 (.seq (.s [.m 32 4,.q 33 32 0] (.cond (.t 33) (.seq (.s [.m 34 0,.n 35 34,.f 36 2 35,.l 37 1 36,.m 38 2,.o (.ia 39 1 (.t 37) (.t 38)),.l 40 1 39,.m 41 12,.o (.ia 42 1 (.t 40) (.t 41)),.l 43 1 42] (.cond (.t 43) (.KN [.m 44 5,.m 45 5,.n 46 45,.l 47 1 46,.f 48 0 9,.l 49 1 48,.c 50 f2 [.t 49],.m 51 12,.o (.bs 52 1 (.sc (.int .i64 0)) 1 [(0,(.t 51))]),.f 54 1 9,.l 55 1 54] (.br [(.ld 47 false 1 (.t 46)),(.ld 55 false 1 (.t 54))] [(.o (.app 53 1 8 (.t 50) (.t 52)),(.br [(.ld 47 false 1 (.t 46)),(.ld 55 false 1 (.t 54))] [(.c 56 f2 [.t 55],(.br [(.ld 47 false 1 (.t 46))] [(.o (.bld 57 (.ag [(.ls (some true) 1 []),(.ls (some true) 1 [])]) [(0,1,(.t 53)),(1,1,(.t 56))]),(.br [(.ld 47 false 1 (.t 46))] [(.o (.bs 58 2 (.ag [(.ls (some true) 1 []),(.ls (some true) 1 [])]) 1 [(0,(.t 57))]),(.br [(.ld 47 false 1 (.t 46))] [(.o (.app 59 2 48 (.t 47) (.t 58)),(.br [] [(.n 60 44,(.br [] [(.o (.wO 1 (.t 60) (.t 59)),(.br [] []))]))]))]))]))]))]))])) .skip)) (.exit 1)) .skip)) (.s [.v 13 (.ci 0)] (.gX 2 (.loop (.seq (.s [.m 61 13,.m 62 0,.n 63 62,.f 64 0 63,.f 65 1 64,.l 66 1 65,.o (.bin 67 .lss (.t 61) (.t 66))] (.cond (.t 67) .skip (.exit 2))) (.seq (.gX 3 (.s [.m 70 0,.n 71 70,.f 72 3 71,.l 73 1 72,.m 74 2,.o (.ia 75 1 (.t 73) (.t 74)),.l 76 1 75,.m 77 12,.o (.ia 78 1 (.t 76) (.t 77)),.l 79 1 78,.m 80 13,.o (.ia 81 1 (.t 79) (.t 80)),.l 82 1 81,.m 14 82] (.seq (.s [.m 83 14,.o (.bin 84 .lss (.t 83) (.ci 0)),.m 85 84,.u 85 (.mv 86 (.t 1)),.u 85 (.mv 87 (.t 4)),.u 85 (.bin 88 .sub (.t 87) (.ci 1)),.u 85 (.ia 89 1 (.t 86) (.t 88)),.u 85 (.ld 90 false 1 (.t 89)),.u 85 (.mv 91 (.t 14)),.u 85 (.ia 92 1 (.t 90) (.t 91)),.u 85 (.ld 93 false 1 (.t 92)),.u 85 (.bin 94 .eql (.t 93) (.ci 0)),.o (.pick 95 (.t 85) .ct (.t 94))] (.cond (.t 95) (.exit 3) .skip)) (.seq (.abU [.q (.f 96 0 9),.q (.l 97 1 96),.q (.c 98 f2 [.t 97]),.q (.m 99 12),.q (.o (.bs 100 1 (.sc (.int .i64 0)) 1 [(0,(.t 99))])),.a 101 1 8 98 100,.q (.f 102 1 9),.q (.l 103 1 102),.q (.c 104 f2 [.t 103]),.q (.m 105 13),.q (.o (.bs 106 1 (.sc (.int .i64 0)) 1 [(0,(.t 105))])),.a 107 1 8 104 106,.q (.o (.bld 108 (.ag [(.ls (some true) 1 []),(.ls (some true) 1 [])]) [(0,1,(.t 101)),(1,1,(.t 107))])),.q (.o (.zer 15 2 (.ag [(.ls (some true) 1 []),(.ls (some true) 1 [])])))] [.o (.wO 2 (.t 15) (.t 108))]) (.r [.m 109 0,.m 110 1,.m 111 14,.L 112 2 15,.m 113 4,.o (.bin 114 .sub (.t 113) (.ci 1)),.m 115 5,.o (.Ll (some 116) g [.t 109,.t 110,.t 111,.t 112,.t 114,.t 115])]))))) (.r [.m 68 13,.o (.bin 69 .add (.t 68) (.ci 1)),.m 13 69])))))))) (.r [.m 30 12,.o (.bin 31 .add (.t 30) (.ci 1)),.m 12 31])))))))
def xf(P:Program)(iV:Nat):Prop:=∀(g:Int×Int)(nn:Option Bool)(A:List (List Bool))(N:List (List (List Int)))(cnt:List (List Int))(M C:Nat),oC g=true→iY g=M→g.2=C→Ud M C A N→M≤8→C≤4→(∀i,i<cnt.length→(cnt.getD i []).length=A.length)→∀(k s:Nat)(b:Wo)(out:List Wo),k≤cnt.length→k≤10→s<A.length→b.1.2.length+k≤100→b.2.2.length+k≤100→out.length≤2001→Yu P iV true 2 [.pt (DP g (nn,A) N) 0,.ls (some false) 1 (cnt.map np),.sc (.int .i64 s),xw b,.sc (.int .i64 k)] (out.map xw) ((pi A N cnt M C k s b out).map xw)
def MC(hm:Mx P)(hr:mX P .sb g=some (117,th g f1 f2,[]))(iS:qA P f1)(jw:zH P f2):xf P g:=by
 intro gg nn A N cnt M C hg hM hC kA hm8 zd rh;have Sl:=iS gg hg;rw[hM]at Sl;obtain⟨g1,g2⟩:=gg;simp only at hC;subst hC;have key:∀k s:Nat,∀b:Wo,∀out:List Wo,k≤cnt.length→k≤10→s<A.length→b.1.2.length≤100→b.2.2.length+k≤100→b.1.2.length+k≤100→out.length≤2001→
   Yu P g true 2 [.pt (DP (g1,(C:Int)) (nn,A) N) 0,.ls (some false) 1 (cnt.map np),.sc (.int .i64 s),xw b,.sc (.int .i64 k)] (out.map xw) ((pi A N cnt M C k s b out).map xw):=by
  intro k
  induction k with
  |zero=>
   intro s b out _ _ hs Ez qM hb3 Il;obtain⟨⟨n1,b1⟩,n2,b2⟩:=b;simp only at Ez qM hb3;rw[pi];refine wX hr hm rfl fun _ _ _=>?_;have e1:D.at (A.map xA) s=xA (A.getD s []):=jJ hs;have am:=kA.am s hs;generalize A.getD s []=bs at*;have hsA:s<A.length:=hs;simp+contextual-implicitDefEqProofs only[th,xw,eS,DP,eI,lC,lN,aa,ah,aG,D.size,D.fS,lM,go_sem];refine gL (α:=Nat) [12,13,14,15,16,17,18,19,20,21,22,23,24,25,26,27,28,29,30,31,32,33,34,35,36,37,38,39,40,41,42,43,44,45,46,47,48,49,50,51,52,53,54,55,56,57,58,59,60,61,62,63,64,65,66,67,68,69,70,71,72,73,74,75,76,77,78,79,80,81,82,83,84,85,86,87,88,89,90,91,92,93,94,95,96,97,98,99,100,102,103,104,105,106,108,109,110,111,112,113,114,115] (fun a=>[(12,.im none (.sc (.int .i64 a)))]) (fun a=>[(3000000000,.bx 1 [.sm 3000000001 0 (B9 bs ((n1,b1),n2,b2) a out).length]),(3000000001,.ar true (some false) 2 ((B9 bs ((n1,b1),n2,b2) a out).map xw)),(9,.ar false (some false) 2 [.ag [.ls n1 1 (b1.map eI),.ls n2 1 (b2.map eI)]])]) (fun a=>a≤M) (fun a=>M-a) 0 (gO.to [] (by simp only[go_sem];rfl) rfl (by simp[B9]) (by rfl) (by simp only[fR,go_sem,iD,iP]<;>simp)) (aq _) ?_;intro a O1;have aie:=GQ (bs:=bs) (b:=((n1,b1),n2,b2)) (a:=a) Il;have hwa:IntKind.i64.wrap ((a:Int)+1)=(a:Int)+1:=fQ (by omega) (by omega);have Ep:B9 bs ((n1,b1),n2,b2) (a+1) out=if(B9 bs ((n1,b1),n2,b2) a out).length≤2000 then(if bs.getD a false=true then B9 bs ((n1,b1),n2,b2) a out++[QC ((n1,b1),n2,b2) a]else B9 bs ((n1,b1),n2,b2) a out)else B9 bs ((n1,b1),n2,b2) a out:=rfl
   have Lf:=@JA bs ((n1,b1),n2,b2) a out;generalize hog:B9 bs ((n1,b1),n2,b2) a out=o at*;have hlm:(List.map xw o).length=o.length:=cH _
   by_cases ha:a<M
   ·have vo:(a:Int)<(M:Int):=by omega
    have e3:D.at (bs.map eB) a=eB (bs.getD a false):=jJ (by omega);simp+contextual-implicitDefEqProofs only[lC,lN,aa,ah,D.size,D.fS,gY,fV,aJ,aP,aO,go_sem];refine fL (ds:=[eG (g1,(C:Int))]) (by rfl) Sl ?_
    by_cases R3:o.length≤2000
    ·have tF:(o.length:Int)≤2000:=by omega
     rw[af R3]at Ep;simp+contextual-implicitDefEqProofs only[tF,vo,e1,xA,am,hsA,e3,eI,eB,AN,jW,AV.lV,lC,lN,aS,aa,ah,bE,D.size,D.fS,gr,n7,pF,fV,l9,lB,aj,ak,lM,go_sem,iL,iN];cases hbv:bs.getD a false with
     |true=>
      rw[hbv,af rfl]at Ep;rw[hbv]at e3
      try simp only[go_sem]
      have np1:=sr b1;have np2:=sr b2;refine fL (ds:=[.ls n1 1 (b1.map eI)]) (by rfl) (jw n1 b1 (by omega)) ?_;simp+contextual-implicitDefEqProofs only[np1,cG,au,cd,ce,aK,AN,jW,AV.lV,lC,lN,aa,lK,lZ,bE,D.size,gr,fV,aj,ak,fU,fO,lM,go_sem,Nat.reduceMul];refine⟨⟨by omega,by unfold gz;omega⟩,fL (ds:=[.ls n2 1 (b2.map eI)]) (by rfl) (jw n2 b2 (by omega)) ?_⟩;simp+contextual-implicitDefEqProofs only[hlm,cG,au,cd,ce,aL,aK,D.cells,AN,jW,AV.lV,JT,lC,lN,aa,ah,aI,lK,lZ,bE,D.size,D.fS,aJ,aO,dz,fU,fO,lM,go_sem,Nat.reduceMul,Nat.reduceSub];refine⟨rfl,by first|rfl|simp[],⟨by omega,by unfold gz;omega⟩,a+1,by omega,by omega,?_⟩;rw[hwa];exact gO.to [] (by simp only[go_sem];rfl) rfl (by simp[Ep,QC,xw,eS,eI]) (by rfl) (by simp only[fR,go_sem]<;>simp[])
     |false=>
      rw[hbv]at Ep e3;simp only[mI,aA]at Ep
      try simp only[go_sem]
      refine⟨a+1,by omega,by omega,?_⟩;rw[hwa];exact gO.to [] (by simp only[go_sem];rfl) rfl (by simp[Ep]) (by rfl) (by simp only[fR,go_sem]<;>simp[])
    have tF:¬((o.length:Int)≤2000):=by omega
    have wq:=Lf (by omega) (show a≤M from O1);simp+contextual-implicitDefEqProofs only[tF,vo,eI,AN,jW,AV.lV,go_sem];rw[wq];exact px 3000000001 (by simp[lu]) (by rfl)
   obtain haM:a=M:=by omega
   subst haM;rw[hog];simp+contextual-implicitDefEqProofs only[lC,lN,aa,ah,D.size,D.fS,gY,fV,aJ,aP,aO,go_sem];refine fL (ds:=[eG (g1,(C:Int))]) (by rfl) Sl ?_;simp+contextual-implicitDefEqProofs only[bR,eI,go_sem];exact px 3000000001 (by simp[lu]) (by rfl)
  |succ k ih=>
   intro s b out hkc hk10 hs Ez qM hb3 Il;obtain⟨⟨n1,b1⟩,n2,b2⟩:=b;simp only at Ez qM hb3;rw[pi];refine wX hr hm rfl fun _ _ _=>?_;have hsN:s<N.length:=by rw[kA.nl];exact hs
   have e1:D.at (N.map mZ) s=mZ (N.getD s []):=jJ hsN;have nm:=kA.nm s hs;have nc:=kA.nc s;have hto:=kA.to s;have e6:D.at (cnt.map np) k=np (cnt.getD k []):=jJ (by omega);have hcr:=rh k (by omega);have hlen:∀s b out,out.length≤2001→(pi A N cnt M C k s b out).length≤2001:=fun s b out h=>zu h;generalize N.getD s []=rows at*;generalize cnt.getD k []=cr at*;have AG:∀s b out,s<A.length→b.1.2.length≤100→b.2.2.length+k≤100→b.1.2.length+k≤100→out.length≤2001→Yu P g true 2 [.pt (DP (g1,(C:Int)) (nn,A) N) 0,.ls (some false) 1 (cnt.map np),.sc (.int .i64 s),xw b,.sc (.int .i64 k)] (out.map xw) ((pi A N cnt M C k s b out).map xw):=fun s b out h1 h2 h3 h4 h5=>ih s b out (by omega) (by omega) h1 h2 h3 h4 h5;generalize hrg:pi A N cnt M C k=rec at*;simp+contextual-implicitDefEqProofs only[th,xw,eS,DP,eI,lC,lN,aa,ah,D.size,D.fS,lM,go_sem];refine gL (α:=Nat) [12,13,14,15,16,17,18,19,20,21,22,23,24,25,26,27,28,29,30,31,32,33,34,35,36,37,38,39,40,41,42,43,44,45,46,47,48,49,50,51,52,53,54,55,56,57,58,59,60,61,62,63,64,65,66,67,68,69,70,71,72,73,74,75,76,77,78,79,80,81,82,83,84,85,86,87,88,89,90,91,92,93,94,95,96,97,98,99,100,102,103,104,105,106,108,109,110,111,112,113,114,115] (fun a=>[(12,.im none (.sc (.int .i64 a)))]) (fun a=>[(3000000000,.bx 1 [.sm 3000000001 0 (Eu rec rows cr C ((n1,b1),n2,b2) a out).length]),(3000000001,.ar true (some false) 2 ((Eu rec rows cr C ((n1,b1),n2,b2) a out).map xw)),(9,.ar false (some false) 2 [.ag [.ls n1 1 (b1.map eI),.ls n2 1 (b2.map eI)]])]) (fun a=>a≤M) (fun a=>M-a) 0 (gO.to [] (by simp only[go_sem];rfl) rfl (by simp[Eu]) (by rfl) (by simp only[fR,go_sem,iD,iP]<;>simp)) (aq _) ?_
   intro a O1;have aie:=HR hlen (rows:=rows) (cr:=cr) (C:=C) (b:=((n1,b1),n2,b2)) (a:=a) Il;have hwa:IntKind.i64.wrap ((a:Int)+1)=(a:Int)+1:=fQ (by omega) (by omega);have Ep:Eu rec rows cr C ((n1,b1),n2,b2) (a+1) out=if(Eu rec rows cr C ((n1,b1),n2,b2) a out).length≤2000 then sZ rec (rows.getD a []) cr ((n1,b1),n2,b2) a C (Eu rec rows cr C ((n1,b1),n2,b2) a out)else Eu rec rows cr C ((n1,b1),n2,b2) a out:=rfl
   have Lf:=@Ji rec rows cr C ((n1,b1),n2,b2) a out;generalize hog:Eu rec rows cr C ((n1,b1),n2,b2) a out=o at*;have hlm:(List.map xw o).length=o.length:=cH _
   by_cases ha:a<M
   ·have vo:(a:Int)<(M:Int):=by omega
    have e3:D.at (rows.map np) a=np (rows.getD a []):=jJ (by omega);have In:=nc a hs ha;have tE:=hto a;generalize rows.getD a []=row at*;simp+contextual-implicitDefEqProofs only[lC,lN,aa,ah,D.size,D.fS,gY,fV,aJ,aP,aO,go_sem];refine fL (ds:=[eG (g1,(C:Int))]) (by rfl) Sl ?_
    by_cases R3:o.length≤2000
    ·have tF:(o.length:Int)≤2000:=by omega
     rw[af R3]at Ep;have bk:(((k+1:Nat):Int)==0)=false:=by simp;omega
     simp+contextual-implicitDefEqProofs only[bk,tF,vo,eI,AN,jW,AV.lV,go_sem];refine gL (α:=Nat) [13,14,15,26,61,62,63,64,65,66,67,68,69,70,71,72,73,74,75,76,77,78,79,80,81,82,83,84,85,86,87,88,89,90,91,92,93,94,95,96,97,98,99,100,102,103,104,105,106,108,109,110,111,112,113,114,115] (fun q=>[(13,.im none (.sc (.int .i64 q)))]) (fun q=>[(3000000000,.bx 1 [.sm 3000000001 0 (sZ rec row cr ((n1,b1),n2,b2) a q o).length]),(3000000001,.ar true (some false) 2 ((sZ rec row cr ((n1,b1),n2,b2) a q o).map xw)),(9,.ar false (some false) 2 [.ag [.ls n1 1 (b1.map eI),.ls n2 1 (b2.map eI)]])]) (fun q=>q≤C) (fun q=>C-q) 0 (gO.to [] (by simp only[go_sem];rfl) rfl (by simp[sZ]) (by rfl) (by simp only[fR,go_sem,iD,iP]<;>simp)) (aq _) ?_;intro q hq0;have alY:=C4 hlen (row:=row) (cr:=cr) (b:=((n1,b1),n2,b2)) (a:=a) (c:=q) aie;have hwq:IntKind.i64.wrap ((q:Int)+1)=(q:Int)+1:=fQ (by omega) (by omega);have hqx:sZ rec row cr ((n1,b1),n2,b2) a (q+1) o=if row.getD q 0<0 then sZ rec row cr ((n1,b1),n2,b2) a q o else if cr.getD (row.getD q 0).toNat 0=0 then sZ rec row cr ((n1,b1),n2,b2) a q o else rec (row.getD q 0).toNat (pu ((n1,b1),n2,b2) a q) (sZ rec row cr ((n1,b1),n2,b2) a q o):=rfl
     generalize hpg:sZ rec row cr ((n1,b1),n2,b2) a q o=p at*;have hlp:(List.map xw p).length=p.length:=cH _
     by_cases hq:q<C
     ·have tS:(q:Int)<(C:Int):=by omega
      have e5:D.at (row.map eI) q=eI (row.getD q 0):=jJ (by omega);have htl:=tE q hs ha hq;have hqr:q<row.length:=by omega
      have Sj:a<rows.length:=by omega
      generalize row.getD q 0=t at*
      by_cases ht:t<0
      ·rw[af ht]at hqx;simp+contextual-implicitDefEqProofs only[tS,hsN,e1,e3,e5,mZ,np,Sj,hqr,ht,eI,aS,aa,ah,D.size,D.fS,gr,n7,pF,fV,l9,lB,aj,ak,lM,go_sem,iL,iN];refine⟨q+1,by omega,by omega,?_⟩;rw[hwq];exact gO.to [] (by simp only[go_sem];rfl) rfl (by simp[hqx]) (by rfl) (by simp only[fR,go_sem]<;>simp[])
      rw[ae ht]at hqx;have e7:D.at (cr.map eI) t.toNat=eI (cr.getD t.toNat 0):=jJ (by omega);have htc:t.toNat<cr.length:=by omega
      have ht0:0≤t:=by omega
      have hwk:IntKind.i64.wrap (((k+1:Nat):Int)-1)=(k:Int):=by rw[fQ (by omega) (by omega)];omega
      have hkl:k<cnt.length:=by omega
      by_cases hz:cr.getD t.toNat 0=0
      ·have bz:(cr.getD t.toNat 0==0)=true:=by simp only[hz];rfl
       rw[af hz]at hqx;simp+contextual-implicitDefEqProofs only[tS,hsN,e1,e3,e5,e6,e7,mZ,np,Sj,hqr,ht,ht0,hwk,hkl,bz,eI,aS,aa,ah,D.size,D.fS,gr,n7,pF,fV,l9,lB,aj,ak,lM,go_sem,iL,iN];refine⟨by omega,q+1,by omega,by omega,?_⟩;rw[hwq];exact gO.to [] (by simp only[go_sem];rfl) rfl (by simp[hqx]) (by rfl) (by simp only[fR,go_sem]<;>simp[])
      have bz:(cr.getD t.toNat 0==0)=false:=aW hz;rw[ae hz]at hqx;simp(maxSteps:=5000000)+contextual-implicitDefEqProofs only[tS,hsN,e1,e3,e5,e6,e7,mZ,np,Sj,hqr,ht,ht0,hwk,hkl,bz,cG,cd,ce,aL,eI,lC,lN,aS,aa,ah,lK,lZ,bE,D.size,D.fS,gr,n7,pF,fV,l9,lB,aj,ak,aJ,aO,dz,lM,go_sem,Nat.reduceMul,Nat.reduceSub,iL,iN];have np1:=sr b1;have np2:=sr b2;refine⟨by omega,fL (ds:=[.ls n1 1 (b1.map eI)]) (by rfl) (jw n1 b1 (by omega)).Ib ?_⟩;simp(maxSteps:=5000000)+contextual-implicitDefEqProofs only[D.flat,aa,bE,D.size,gr,fV,aj,ak,lM,go_sem];refine⟨⟨by decide,by omega,by unfold gz;omega⟩,fL (ds:=[.ls n2 1 (b2.map eI)]) (by rfl) (jw n2 b2 (by omega)).Ib ?_⟩;have hR:=AG t.toNat (pu ((n1,b1),n2,b2) a q) p (by omega) (by simp[pu];omega) (by simp[pu];omega) (by simp[pu];omega) alY;have hW:xw (pu ((n1,b1),n2,b2) a q)=.ag [.ls (some false) 1 (b1.map eI++[.sc (.int .i64 a)]),.ls (some false) 1 (b2.map eI++[.sc (.int .i64 q)])]:=by simp[xw,eS,pu,eI]
      rw[hW,show((t.toNat:Nat):Int)=t by omega]at hR;simp(maxSteps:=5000000)+contextual-implicitDefEqProofs only[hwk,D.flat,aL,aK,D.put,D.cells,lC,lN,aa,ah,aI,lK,lZ,bE,D.size,D.fS,gY,fV,aJ,aP,aO,fU,fO,lM,go_sem];refine⟨⟨by decide,by omega,by unfold gz;omega⟩,I3 [.im none (.pt (.ag [.sc (.int .i64 g1),.sc (.int .i64 C),.ls nn 1 (A.map xA),.ls (some false) 1 (N.map mZ)]) 0),.im none (.ls (some false) 1 (cnt.map np)),.im none (.sc (.int .i64 t)),.cw 15 0 0 2 true,.im none (.sc (.int .i64 k))] 3000000000 3000000001 (by rfl) (by rfl) (by rfl) ⟨by decide,hlp.symm,.inl rfl⟩ (by rfl) (by rfl) hR ?_⟩;simp+contextual-implicitDefEqProofs only[aL,aK,bE,lM,go_sem];refine⟨q+1,by omega,by omega,?_⟩;rw[hwq];exact gO.to [15,98,100,104,106] (by simp only[go_sem];rfl) rfl (by simp[hqx]) (by rfl) (by simp only[fR,go_sem]<;>simp[])
     obtain hqC:q=C:=by omega
     subst hqC;rw[hpg]at Ep;simp+contextual-implicitDefEqProofs only[bR,aa,ah,D.size,D.fS,gr,fV,aj,ak,go_sem];refine⟨a+1,by omega,by omega,?_⟩;rw[hwa];exact gO.to [] (by simp only[go_sem];rfl) rfl (by simp[Ep]) (by rfl) (by simp only[fR,go_sem]<;>simp[])
    have tF:¬((o.length:Int)≤2000):=by omega
    have wq:=Lf (by omega) (show a≤M from O1);simp+contextual-implicitDefEqProofs only[tF,vo,eI,AN,jW,AV.lV,go_sem];rw[wq];exact px 3000000001 (by simp[lu]) (by rfl)
   obtain haM:a=M:=by omega
   subst haM;rw[hog];simp+contextual-implicitDefEqProofs only[lC,lN,aa,ah,D.size,D.fS,gY,fV,aJ,aP,aO,go_sem];refine fL (ds:=[eG (g1,(C:Int))]) (by rfl) Sl ?_;simp+contextual-implicitDefEqProofs only[bR,eI,go_sem];exact px 3000000001 (by simp[lu]) (by rfl)
 exact fun k s b out h1 h2 h3 h4 h5 h6=>key k s b out h1 h2 h3 (by omega) h5 h4 h6
def VL{x:Ex}:(rj M x).length=M:=by simp[rj]
def vd{α β:Type}{f:α→β}{l:List α}{i:Nat}{d:β}{z:α}(h:i<l.length):(l.map f).getD i d=f (l.getD i z):=by
 rw[aE,fH,bb h,aE,bb h];rfl
def getD_some{α:Type}{l:List α}{i:Nat}{d:α}(h:i<l.length):l[i]?=some (l.getD i d):=by
 rw[aE,bb h];rfl
def aei{g:Int×Int}{e:Ex}{L:List Ex}(h:LH g e M C L N)(hn:N.length=L.length):Ud M C (L.map (rj M)) N:=by
 have hr:∀s,s<L.length→(N.getD s []).length=M∧pK (L.getD s zE) L C (N.getD s []):=fun s hs=>h.rows s _ (getD_some (by omega));refine⟨by rw[lM];exact h.len,by rw[lM];exact hn,fun s hs=>?_,fun s hs=>?_,fun s k hs hk=>?_,fun s k c hs hk hc=>?_⟩;rw[lM]at hs;rw[vd (z:=zE) hs];exact VL;rw[lM]at hs;exact(hr s hs).1;rw[lM]at hs;have:=hr s hs;exact(this.2 k _ (getD_some (by omega))).1;rw[lM]at hs⊢;have h1:=hr s hs;have h2:=h1.2 k _ (getD_some (d:=[]) (by omega));rcases h2.2 c _ (getD_some (d:=0) (by omega))with h3|⟨_,h3,_⟩
 rw[h3];omega;exact h3
abbrev Hm:Wo:=((some true,[]),(some true,[]))
def nR(A:List (List Bool))(N:List (List (List Int)))(cnt:List (List Int))(M C:Nat):Nat→List Wo
 |0=>[]
 |n+1=>pi A N cnt M C n 0 Hm (nR A N cnt M C n)
def CW{A:List (List Bool)}{N:List (List (List Int))}{cnt:List (List Int)}{M C:Nat}:∀{n:Nat},(nR A N cnt M C n).length≤2001
 |0=>by simp[nR]
 |n+1=>zu CW
def LM(L:List Ex)(N:List (List (List Int)))(M C ℓ:Nat):List Wo:=nR (L.map (rj M)) N (pm (L.map (rj M)) N (ℓ+1)) M C (ℓ+1)
def rF(e:Ex)(M C ℓ:Nat):List Wo×Int:=if(ru e M C).2=0 then(if(LM (ru e M C).1.1 (ru e M C).1.2 M C ℓ).length≤2000 then(LM (ru e M C).1.1 (ru e M C).1.2 M C ℓ,0)else([],3))else([],(ru e M C).2)
def tn(f1 f2 f3 f4 f5:Nat):RC:=(.s [.b 3 2 0,.b 4 3 1,.o (.mv 6 (.c (.ls (some true) 2 []))),.v 7 (.ci 0)] (.seq (.s [.L 13 2 3,.c 14 f1 [.t 13,.t 4],.o (.un 15 .not (.t 14))] (.cond (.t 15) (.s [.o (.bs 16 2 (.ag [(.ls (some true) 1 []),(.ls (some true) 1 [])]) 0 []),.m 6 16,.v 7 (.ci 1)] .ret) .skip)) (.seq (.s [.m 17 2,.c 18 f2 [.t 17,.ci 0,.ci 10],.o (.un 19 .not (.t 18))] (.cond (.t 19) (.s [.o (.bs 20 2 (.ag [(.ls (some true) 1 []),(.ls (some true) 1 [])]) 0 []),.m 6 20,.v 7 (.ci 2)] .ret) .skip)) (.s [.L 22 2 3,.c 23 f3 [.t 22,.t 4],.m 21 23,.o (.ext 24 (.t 21) 0),.o (.ext 25 (.t 21) 1),.o (.zer 8 4 (.ag [(.sc (.int .i64 0)),(.sc (.int .i64 0)),(.ls (some true) 1 []),(.ls (some true) 1 [])])),.o (.wO 4 (.t 8) (.t 24)),.m 9 25] (.seq (.s [.m 26 9,.o (.bin 27 .neq (.t 26) (.ci 0))] (.cond (.t 27) (.s [.o (.bs 28 2 (.ag [(.ls (some true) 1 []),(.ls (some true) 1 [])]) 0 []),.m 29 9,.m 6 28,.m 7 29] .ret) .skip)) (.s [.m 30 2,.c 31 f4 [.t 8,.t 30],.m 10 31] (.s [.o (.bs 32 2 (.ag [(.ls (some true) 1 []),(.ls (some true) 1 [])]) 0 []),.o (.zer 11 1 (.ls (some true) 2 [])),.o (.wO 1 (.t 11) (.t 32))] (.seq (.s [.v 12 (.ci 0)] (.gX 0 (.loop (.seq (.s [.m 33 12,.m 34 2,.o (.bin 35 .leq (.t 33) (.t 34))] (.cond (.t 35) .skip (.exit 0))) (.seq (.gX 1 (.r [.m 38 10,.o (.bld 39 (.ag [(.ls (some true) 1 []),(.ls (some true) 1 [])]) []),.m 40 12,.o (.Ll (some 41) f5 [.t 8,.t 38,.ci 0,.t 39,.t 40,.t 11])])) (.r [.m 36 12,.o (.bin 37 .add (.t 36) (.ci 1)),.m 12 37])))))) (.seq (.s [.l 42 1 11,.o (.len 43 (.t 42)),.o (.bin 44 .gtr (.t 43) (.ci 2000))] (.cond (.t 44) (.s [.o (.bs 45 2 (.ag [(.ls (some true) 1 []),(.ls (some true) 1 [])]) 0 []),.m 6 45,.v 7 (.ci 3)] .ret) .skip)) (.s [.l 46 1 11,.m 6 46,.v 7 (.ci 0)] .ret))))))))))
def yz(P:Program)(iV:Nat):Prop:=∀(g0:Int×Int)(_:oC g0=true)(e:Ex)(_:BA g0 e=true)(ℓ:Nat)(_:ℓ≤10),AF P iV [eG g0,eE e,.sc (.int .i64 ℓ)] (.lf [.sh (.ls (some false) 2 ((rF e (iY g0).toNat g0.2.toNat ℓ).1.map xw)),.own (eI (rF e (iY g0).toNat g0.2.toNat ℓ).2)])
def G0(hm:Mx P){f3 f4 f5:Nat}(hr:mX P .sb g=some (47,tn f1 f2 f3 f4 f5,[.t 6,.t 7]))(iS:BY P f1)(jw:rg P f2)(pd:Az P f3)(zd:uA P f4)(GF:xf P f5):yz P g:=by
 intro g0 hg e he ℓ hℓ;have hT:f8 g0 e=true:=by simp only[BA,bA]at he;exact he.2.2
 have jP:fZ e≤800:=by simp only[BA,bA,a7]at he;omega
 obtain⟨g1,g2⟩:=g0;have hgi:=lh hg;simp only at hgi;have BO:=Dm hg;obtain⟨C,rfl⟩:∃C:Nat,g2=C:=⟨g2.toNat,by omega⟩;obtain⟨M,hM⟩:∃M:Nat,iY (g1,(C:Int))=M:=⟨(iY (g1,(C:Int))).toNat,by omega⟩;have hMd:=pd (g1,(C:Int)) hg e hT jP;have hOk:=iS (g1,(C:Int)) e;rw[hg,he]at hOk;unfold TL at hMd;rw[hM]at hMd BO⊢;simp only[aS,bi]at hMd hOk⊢;have afU:∀p,oU e M C 61=some p→_:=fun p hp=>vT hT jP hp;refine w4 hr hm rfl fun hb=>?_;simp+contextual-implicitDefEqProofs only[tn,eG,eI,lC,lN,gf,aa,ah,aI,D.size,D.fS,gY,fV,aJ,aP,aO,go_sem];refine fL (ds:=[eG (g1,(C:Int)),.pt (eE e) 0]) (by rfl) hOk ?_;simp+contextual-implicitDefEqProofs only[bT,eB,lC,lN,go_sem];have nK:kJ (ℓ:Int) 0 10=true:=by rw[jz];omega
 have hIn:=jw (ℓ:Int) 0 10;rw[nK]at hIn;refine fL (ds:=[eI ℓ,eI 0,eI 10]) (by rfl) hIn ?_;simp+contextual-implicitDefEqProofs only[bT,eB,lC,lN,aa,gY,fV,aJ,aP,aO,go_sem];refine fL (ds:=[eG (g1,(C:Int)),.pt (eE e) 0]) (by rfl) hMd ?_;unfold rF;cases ju:oU e M C 61 with
 |none=>
  rw[qk ju];simp only[show ¬((3:Int)=0)by decide,aA];simp+contextual-implicitDefEqProofs only[bne,bN,bU,bJ,aL,acQ,aK,eI,D.put,lC,lN,aa,ah,aI,lK,lZ,Int.reduceBEq,bE,D.size,D.fS,fV,aj,ak,fU,fO,go_sem]
 |some p=>
  obtain⟨L,N⟩:=p;obtain⟨hk,tR⟩:=afU _ ju;rw[rS ju];simp only[ay]at hk tR⊢;have afV:=hk.len;have EW:N.length=L.length:=by have:=hk.le;omega
  have kA:=aei hk EW;have hL:L≠[]:=fun h=>by have:=hk.hd;rw[h]at this;cases this
  have hLp:0<L.length:=dY.2 hL;have hAl:(L.map (rj M)).length=L.length:=cH _;unfold LM;generalize L.map (rj M)=A at kA hAl⊢;have hCt:=zd (g1,(C:Int)) (wj L) A N ℓ M C kA hℓ (by omega) (by omega);have rh:∀i,i<(pm A N (ℓ+1)).length→((pm A N (ℓ+1)).getD i []).length=A.length:=fun i hi=>D2 (by rw[qy]at hi;exact hi);have hcn:(pm A N (ℓ+1)).length=ℓ+1:=qy;generalize pm A N (ℓ+1)=cnt at hCt rh hcn⊢;have hLs:=GF (g1,(C:Int)) (wj L) A N cnt M C hg hM rfl kA (by omega) (by omega) rh;simp+contextual-implicitDefEqProofs only[bne,bT,bN,bG,bU,bJ,aL,DP,aK,eI,D.put,lC,lN,aa,ah,aI,lK,lZ,bE,D.size,D.fS,fV,aj,ak,fU,fO,go_sem];refine fL (ds:=[.pt (DP (g1,(C:Int)) (wj L,A) N) 0,.sc (.int .i64 ℓ)]) (by rfl) hCt ?_;simp+contextual-implicitDefEqProofs only[bne,bN,bU,AV.lV,lN,bE,D.size,go_sem];refine gL (α:=Nat) [12,32,33,34,35,36,37,38,39,40] (fun n=>[(12,.im none (.sc (.int .i64 n)))]) (fun n=>[(11,.bx 1 [.sm 32 0 (nR A N cnt M C n).length]),(32,.ar true (some false) 2 ((nR A N cnt M C n).map xw)),(31,.own (.ls (some false) 1 (cnt.map np))),(8,.ar true (some false) 4 [.ag [.sc (.int .i64 g1),.sc (.int .i64 C),.ls (wj L) 1 (A.map xA),.ls (some false) 1 (N.map mZ)]]),(4,.ar false (some false) 3 [eE e]),(3,.ar false (some false) 2 [.ag [.sc (.int .i64 g1),.sc (.int .i64 C)]])]) (fun n=>n≤ℓ+1) (fun n=>ℓ+1-n) 0 (gO.to [] (by simp only[go_sem];rfl) rfl (by simp[nR]) (by rfl) (by simp only[fR,go_sem,iD,iP]<;>simp)) (aq _) ?_
  intro n hn0;have hwl:=@CW A N cnt M C n;have Ep:nR A N cnt M C (n+1)=pi A N cnt M C n 0 Hm (nR A N cnt M C n):=rfl;have hwn:IntKind.i64.wrap ((n:Int)+1)=(n:Int)+1:=fQ (by omega) (by omega);generalize hwg:nR A N cnt M C n=W at*;have hlm:(List.map xw W).length=W.length:=cH _
  by_cases hn:n≤ℓ
  ·have Ey:(n:Int)≤(ℓ:Int):=by omega
   have hW:=hLs n 0 Hm W (by omega) (by omega) (by omega) (by simp;omega) (by simp;omega) hwl;simp+contextual-implicitDefEqProofs only[Ey,lC,lN,aa,lK,lZ,bE,aJ,go_sem];refine I3 [.pw 8 0 0,.tr 31,.im none (.sc (.int .i64 0)),.sg [.im (some 4000000000) (.ls (some true) 1 []),.im (some 4000000000) (.ls (some true) 1 [])],.im none (.sc (.int .i64 n))] 11 32 (by rfl) (by rfl) (by rfl) ⟨by decide,hlm.symm,.inl rfl⟩ (by rfl) (by rfl) hW ?_;simp+contextual-implicitDefEqProofs only[aL,aK,bE,lM,go_sem];refine⟨n+1,by omega,by omega,?_⟩;rw[hwn];exact gO.to [] (by simp only[go_sem];rfl) rfl (by simp[Ep]) (by rfl) (by simp only[fR,go_sem]<;>simp[])
  obtain rfl:n=ℓ+1:=by omega
  have Ey:¬((ℓ+1:Nat):Int)≤(ℓ:Int):=by omega
  rw[hwg]
  by_cases hw:W.length≤2000
  ·have EA:¬((2000:Int)<(W.length:Int)):=by omega
   rw[af hw];simp+contextual-implicitDefEqProofs only[Ey,EA,hlm,AN,jW,AV.lV,bE,go_sem]
  have EA:(2000:Int)<(W.length:Int):=by omega
  rw[ae hw];simp+contextual-implicitDefEqProofs only[Ey,EA,AN,jW,AV.lV,lN,lZ,bE,go_sem]
def KF(f1 f2:Nat):RC:=(.s [.v 4 (.ci 0)] (.s [.m 5 0,.c 6 f1 [.t 5],.m 7 1,.o (.sH (some 8) f2 [.t 6,.t 7]),.m 4 8] .ret))
def Kk(P:Program)(iV:Nat):Prop:=∀(nn:Option Bool)(c:List Int)(n:Int),nW c→1≤n→∃x:Int,0≤x∧x<n∧AF P iV [.ls nn 1 (c.map eU),eI n] (.own (eI x))
def TJ(hm:Mx P)(hr:il P g=some (9,KF f1 f2,[.t 4]))(iS:qf P f1)(jw:lL P f2):Kk P g:=by
 intro nn c n hc hn;obtain⟨a',Es,x,h1,h2,h3,h4,h5,hE⟩:=jw nn c 0 0 n hc (by omega) (by omega);refine⟨x,h3,by by_cases e:n≤1;(have:=h4 e;omega);exact h5 (by omega),?_⟩;refine fY hr hm rfl fun hb=>?_;simp+contextual-implicitDefEqProofs only[KF,eI,go_sem];refine fL ?_ (iS nn c) ?_;exact rfl;simp+contextual-implicitDefEqProofs only[gm,D.size,D.fS,bU,go_sem];refine gd [6] [] (by rfl) (by rfl) (by rfl) hE rfl (by simp[iv,ij,uS,gm,fO,D.gl,ii,AV.hZ,gU,ir,U.hZ,St.unit,lu]) ?_;simp+contextual-implicitDefEqProofs only[uS,gm,eI,aL,go_sem]
def EM(a:Int)(i:Nat):Ex:=if JS a i=true then .mk 3 i (some true) []else .mk 5 0 (some false) [.mk 3 i (some true) []]
def mc(a:Int):Nat→Ex
 |0=>.mk 2 0 (some true) []
 |i+1=>if i=0 then EM a 0 else .mk 7 0 (some false) [mc a i,EM a i]
def UV{n:Int}{b:Nat}(h0:0≤n)(h1:n<9223372036854775808):(IntKind.i64.wrap ((BitVec.ofInt 64 (n.fdiv (2 ^ b))&&&BitVec.ofInt 64 1).toNat:Nat)==0)=!(JS n b):=by
 have:=@Oq n h0 b;rw[NW this.1 (by omega)];unfold JS;rcases Int.emod_two_eq (n.fdiv (2 ^ b))with h|h<;>rw[h]<;>rfl
def wC(f1 f2:Nat):RC:=(.s [.b 2 2 0,.o (.zer 4 3 .ze)] (.s [.c 8 f1 [],.o (.zer 5 3 .ze),.s 3 5 8] (.seq (.s [.v 6 (.ci 0)] (.gX 0 (.loop (.seq (.s [.m 9 6,.f 10 0 2,.l 11 1 10,.o (.bin 12 .lss (.t 9) (.t 11))] (.cond (.t 12) .skip (.exit 0))) (.seq (.gX 1 (.s [.m 15 6,.o (.bld 16 .ze [(0,1,(.ci 3)),(1,1,(.t 15))]),.o (.zer 7 3 .ze),.s 3 7 16] (.seq (.s [.m 17 1,.m 18 6,.o (.cvt 19 .u64 (.t 18)),.o (.bin 20 .shr (.t 17) (.t 19)),.o (.bin 21 .and (.t 20) (.ci 1)),.q 22 21 0] (.cond (.t 22) (.r [.L 23 3 7,.o (.bs 24 3 .ze 1 [(0,(.t 23))]),.o (.bld 25 .ze [(0,1,(.ci 5)),(2,1,(.t 24))]),.s 3 7 25]) .skip)) (.s [.m 26 6,.q 27 26 0] (.cond (.t 27) (.r [.L 28 3 7,.s 3 5 28]) (.r [.L 29 3 5,.L 30 3 7,.c 31 f2 [.ci 7,.t 29,.t 30],.s 3 5 31])))))) (.r [.m 13 6,.o (.bin 14 .add (.t 13) (.ci 1)),.m 6 14])))))) (.s [.L 32 3 5,.s 3 4 32] .ret))))
def rm(P:Program)(iV:Nat):Prop:=∀(T:Nat)(g2 a:Int),T≤3→0≤a→a≤7→AF P iV [eG ((T:Int),g2),.sc (.int .i64 a)] (.own (eE (mc a T)))
def ED(hm:Mx P)(hr:il P g=some (33,wC f1 f2,[.c 4 3 true]))(iS:vh P f1)(jw:nj P f2):rm P g:=by
 intro T g2 a hT O1 ha1;refine fY hr hm rfl fun hb=>?_;simp+contextual-implicitDefEqProofs only[wC,eG,eI,lN,aa,ah,aI,bE,D.size,D.fS,go_sem];refine fL (ds:=[]) (by rfl) (iS ()) ?_;rw[show eE (.mk 2 0 (some true) [])=.ag [.sc (.int .i64 2),.sc (.int .i64 0),.ls (some true) 3 []]by rw[gM];rfl];simp+contextual-implicitDefEqProofs only[D.put,aa,ah,lK,lZ,bE,D.size,D.fS,fV,fU,fO,go_sem];refine gL (α:=Nat) [6,7,9,10,11,12,13,14,15,16,17,18,19,20,21,22,23,24,25,26,27,28,29,30,31] (fun i=>[(6,.im none (.sc (.int .i64 i)))]) (fun i=>[(5,.ar true (some false) 3 [eE (mc a i)]),(4,.ar true (some false) 3 [.ag [.sc (.int .i64 0),.sc (.int .i64 0),.ls (some true) 3 []]]),(2,.ar false (some false) 2 [.ag [.sc (.int .i64 T),.sc (.int .i64 g2)]])]) (fun i=>i≤T) (fun i=>T-i) 0 (gO.to [] (by simp only[go_sem];rfl) rfl (by simp[mc,gM]) (by rfl) (by simp only[fR,go_sem,iD,iP]<;>simp)) (aq _) ?_;intro i wd
 by_cases hi:i<T
 ·have hi':(i:Int)<(T:Int):=by omega
  have abZ:min (IntKind.u64.wrap (i:Int)).toNat 64=i:=by rw[Ja (by omega) (by omega)];omega
  have hbz:=UV (b:=i) O1 (by omega:a<9223372036854775808);have hwi:IntKind.i64.wrap ((i:Int)+1)=(i:Int)+1:=fQ (by omega) (by omega);simp+contextual-implicitDefEqProofs only[hi',abZ,bne,bN,bU,bJ,bP,aL,cd,ce,aK,D.put,D.cells,lC,lN,j6.sub,gA,aa,ah,aI,lK,lZ,bE,D.size,D.fS,gY,gr,fV,aj,aJ,aP,aO,dz,fU,fO,go_sem,Nat.reduceMul,Nat.reduceSub];refine⟨fun h=>?_,fun h=>?_⟩
  ·have hb:JS a i=false:=by have:=h.symm.trans hbz;simpa using this.symm
   have XH:eE (EM a i)=.ag [.sc (.int .i64 5),.sc (.int .i64 0),.ls (some false) 3 [.ag [.sc (.int .i64 3),.sc (.int .i64 i),.ls (some true) 3 []]]]:=by unfold EM;rw[hb];simp[gM]
   refine⟨rfl,by simp[D.size,D.fS],fun h0=>?_,fun h0=>?_⟩
   ·have NF:i=0:=by simpa using h0
    have hx:eE (mc a (i+1))=.ag [.sc (.int .i64 5),.sc (.int .i64 0),.ls (some false) 3 [.ag [.sc (.int .i64 3),.sc (.int .i64 i),.ls (some true) 3 []]]]:=by rw[←XH,NF];rfl
    refine⟨i+1,by omega,by omega,?_⟩;rw[hwi];exact gO.to [7] (by simp only[go_sem];rfl) rfl (by simp[hx]) (by rfl) (by simp only[fR,go_sem]<;>simp)
   have NF:i≠0:=by intro e;rw[e]at h0;simp at h0
   have hx:eE (mc a (i+1))=.ag [.sc (.int .i64 7),.sc (.int .i64 0),.ls (some false) 3 [eE (mc a i),.ag [.sc (.int .i64 5),.sc (.int .i64 0),.ls (some false) 3 [.ag [.sc (.int .i64 3),.sc (.int .i64 i),.ls (some true) 3 []]]]]]:=by rw[←XH];simp only[mc,ae NF];rw[gM];rfl
   refine kW rfl jw (by simp only[AV.mw,ig,go_sem,bE,bi]<;>rfl) (by simp only[AV.mw,ig,go_sem,bE,bi]<;>rfl) ?_;simp+contextual-implicitDefEqProofs only[aL,aK,D.put,D.cells,lC,lN,j6.sub,gA,aa,ah,aI,lK,lZ,bE,D.size,D.fS,gY,fV,aJ,aP,aO,fU,fO,go_sem];refine⟨by intro d hd;simp at hd;rcases hd with rfl|rfl<;>simp[gf,D.size,D.fS],i+1,by omega,by omega,?_⟩;rw[hwi];exact gO.to [7] (by simp only[go_sem];rfl) rfl (by simp[hx]) (by rfl) (by simp only[fR,go_sem]<;>simp)
  have hb:JS a i=true:=by have:=h.symm.trans hbz;simpa using this.symm
  have XH:eE (EM a i)=.ag [.sc (.int .i64 3),.sc (.int .i64 i),.ls (some true) 3 []]:=by unfold EM;rw[hb];simp[gM]
  refine⟨fun h0=>?_,fun h0=>?_⟩
  ·have NF:i=0:=by simpa using h0
   have hx:eE (mc a (i+1))=.ag [.sc (.int .i64 3),.sc (.int .i64 i),.ls (some true) 3 []]:=by rw[←XH,NF];rfl
   refine⟨i+1,by omega,by omega,?_⟩;rw[hwi];exact gO.to [7] (by simp only[go_sem];rfl) rfl (by simp[hx]) (by rfl) (by simp only[fR,go_sem]<;>simp)
  have NF:i≠0:=by intro e;rw[e]at h0;simp at h0
  have hx:eE (mc a (i+1))=.ag [.sc (.int .i64 7),.sc (.int .i64 0),.ls (some false) 3 [eE (mc a i),.ag [.sc (.int .i64 3),.sc (.int .i64 i),.ls (some true) 3 []]]]:=by rw[←XH];simp only[mc,ae NF];rw[gM];rfl
  refine kW rfl jw (by simp only[AV.mw,ig,go_sem,bE,bi]<;>rfl) (by simp only[AV.mw,ig,go_sem,bE,bi]<;>rfl) ?_;simp+contextual-implicitDefEqProofs only[aL,aK,D.put,D.cells,lC,lN,j6.sub,gA,aa,ah,aI,lK,lZ,bE,D.size,D.fS,gY,fV,aJ,aP,aO,fU,fO,go_sem];refine⟨by intro d hd;simp at hd;rcases hd with rfl|rfl<;>simp[gf,D.size,D.fS],i+1,by omega,by omega,?_⟩;rw[hwi];exact gO.to [7] (by simp only[go_sem];rfl) rfl (by simp[hx]) (by rfl) (by simp only[fR,go_sem]<;>simp)
 obtain rfl:i=T:=by omega
 simp+contextual-implicitDefEqProofs only[bR,D.put,j6.sub,gf,gA,aa,ah,lK,lZ,bE,gr,fV,aj,fU,fO,go_sem]
 try exact D.Le.refl _
def mU(T:Nat)(as cs:List Int):Nat→Ex
 |0=>mc (as.getD 0 0) T
 |i+1=>.mk 7 0 (some false) [.mk 7 0 (some false) [mU T as cs i,.mk 4 (cs.getD i 0) (some true) []],mc (as.getD (i+1) 0) T]
def yT(f1 f2:Nat):RC:=(.s [.b 2 2 0,.b 3 2 1,.o (.zer 4 3 .ze)] (.seq (.jI true [.L 8 2 2,.f 9 0 3,.l 10 1 9,.i 11 1 10 0,.l 12 1 11,.c 13 f1 [.t 8,.t 12],.o (.zer 5 3 .ze),.s 3 5 13]) (.seq (.s [.v 6 (.ci 0)] (.gX 0 (.loop (.seq (.s [.m 14 6,.f 15 1 3,.l 16 1 15,.o (.len 17 (.t 16)),.o (.bin 18 .lss (.t 14) (.t 17))] (.cond (.t 18) .skip (.exit 0))) (.seq (.gX 1 (.s [.f 21 1 3,.l 22 1 21,.m 23 6,.o (.ia 24 1 (.t 22) (.t 23)),.l 25 1 24,.o (.bld 26 .ze [(0,1,(.ci 4)),(1,1,(.t 25))]),.o (.zer 7 3 .ze),.s 3 7 26] (.jI true [.L 27 3 5,.L 28 3 7,.c 29 f2 [.ci 7,.t 27,.t 28],.L 30 2 2,.f 31 0 3,.l 32 1 31,.m 33 6,.o (.bin 34 .add (.t 33) (.ci 1)),.o (.ia 35 1 (.t 32) (.t 34)),.l 36 1 35,.c 37 f1 [.t 30,.t 36],.c 38 f2 [.ci 7,.t 29,.t 37],.s 3 5 38]))) (.r [.m 19 6,.o (.bin 20 .add (.t 19) (.ci 1)),.m 6 20])))))) (.s [.L 39 3 5,.s 3 4 39] .ret))))
def yH(P:Program)(iV:Nat):Prop:=∀(T:Nat)(g2:Int)(n1:Option Bool)(as:List Int)(n2:Option Bool)(cs:List Int),T≤3→as.length=cs.length+1→(∀a∈as,0≤a∧a≤7)→cs.length≤1000→AF P iV [eG ((T:Int),g2),xw ((n1,as),(n2,cs))] (.own (eE (mU T as cs cs.length)))
def HD(hm:Mx P)(hr:il P g=some (40,yT f1 f2,[.c 4 3 true]))(iS:rm P f1)(jw:nj P f2):yH P g:=by
 intro T g2 n1 as n2 cs hT hl has sC;have hA:∀i,i<as.length→AF P f1 [eG ((T:Int),g2),.sc (.int .i64 (as.getD i 0))] (.own (eE (mc (as.getD i 0) T))):=fun i hi=>by
  have:=has (as.getD i 0) (ji hi);exact iS T g2 (as.getD i 0) hT this.1 this.2
 refine fY hr hm rfl fun hb=>?_;have e0:D.at (as.map eI) 0=eI (as.getD 0 0):=jJ (by omega);have O1:0<as.length:=by omega
 have alZ:(0:Int)<(as.length:Int):=by omega
 simp+contextual-implicitDefEqProofs only[yT,eG,xw,eS,e0,alZ,eI,lC,lN,aa,ah,aI,aV,bE,D.size,D.fS,gY,gr,n7,fV,l9,aj,aJ,aP,aO,lM,go_sem];refine fL (ds:=[eG ((T:Int),g2),.sc (.int .i64 (as.getD 0 0))]) (by rfl) (hA 0 O1) ?_;simp+contextual-implicitDefEqProofs only[D.put,gf,aa,ah,lK,lZ,bE,D.size,D.fS,fV,fU,fO,go_sem];refine gL (α:=Nat) [6,7,14,15,16,17,18,19,20,21,22,23,24,25,26,27,28,29,30,31,32,33,34,35,36,37,38] (fun i=>[(6,.im none (.sc (.int .i64 i)))]) (fun i=>[(5,.ar true (some false) 3 [eE (mU T as cs i)]),(4,.ar true (some false) 3 [.ag [.sc (.int .i64 0),.sc (.int .i64 0),.ls (some true) 3 []]]),(3,.ar false (some false) 2 [.ag [.ls n1 1 (as.map eI),.ls n2 1 (cs.map eI)]]),(2,.ar false (some false) 2 [.ag [.sc (.int .i64 T),.sc (.int .i64 g2)]])]) (fun i=>i≤cs.length) (fun i=>cs.length-i) 0 (gO.to [] (by simp only[go_sem];rfl) rfl (by simp[mU]) (by rfl) (by simp only[fR,go_sem,iD,iP]<;>simp)) (aq _) ?_;intro i wd
 by_cases hi:i<cs.length
 ·have hi':(i:Int)<(cs.length:Int):=by omega
  have hwi:IntKind.i64.wrap ((i:Int)+1)=((i+1:Nat):Int):=by rw[fQ (by omega) (by omega)];rfl
  have e1:D.at (cs.map eI) i=eI (cs.getD i 0):=jJ hi;have e2:D.at (as.map eI) (i+1)=eI (as.getD (i+1) 0):=jJ (by omega);have SE:((i+1:Nat):Int)<(as.length:Int):=by omega
  have al0:i+1<as.length:=by omega
  have hx:eE (mU T as cs (i+1))=.ag [.sc (.int .i64 7),.sc (.int .i64 0),.ls (some false) 3 [.ag [.sc (.int .i64 7),.sc (.int .i64 0),.ls (some false) 3 [eE (mU T as cs i),.ag [.sc (.int .i64 4),.sc (.int .i64 (cs.getD i 0)),.ls (some true) 3 []]]],eE (mc (as.getD (i+1) 0) T)]]:=by
   simp only[mU,gM,lC,lN]
  simp+contextual-implicitDefEqProofs only[hi',e1,aK,eI,D.put,D.cells,lC,lN,j6.sub,gA,aS,aa,ah,aI,lK,lZ,bE,D.size,D.fS,gY,gr,n7,fV,l9,aj,ak,aJ,aP,aO,dz,fU,fO,lM,go_sem,Nat.reduceSub,iN];refine kW rfl jw (by simp only[AV.mw,ig,go_sem,bE,bi]<;>rfl) (by simp only[AV.mw,ig,go_sem,bE,bi]<;>rfl) ?_;simp+contextual-implicitDefEqProofs only[e2,hwi,SE,eI,lC,lN,aS,aa,ah,D.size,gY,gr,n7,fV,l9,aj,aJ,aP,aO,lM,go_sem,iN];refine fL (ds:=[eG ((T:Int),g2),.sc (.int .i64 (as.getD (i+1) 0))]) (by rfl) (hA (i+1) al0) ?_;simp+contextual-implicitDefEqProofs only[lC,lN,go_sem];refine kW rfl jw (by simp only[AV.mw,ig,AV.size,D.size,go_sem,bne,bi,bN]<;>rfl) (by simp only[AV.mw,ig,gA,gf,go_sem,bE,bi]<;>rfl) ?_;simp+contextual-implicitDefEqProofs only[hwi,aL,aK,D.put,D.cells,lC,lN,j6.sub,gA,aa,ah,aI,lK,lZ,bE,D.size,D.fS,gY,fV,aJ,aP,aO,fU,fO,go_sem];refine⟨by intro d hd;simp at hd;rcases hd with rfl|rfl<;>simp[gf,D.size,D.fS],by intro d hd;simp at hd;rcases hd with rfl|rfl<;>simp[gf,D.size,D.fS],i+1,by omega,by omega,?_⟩;exact gO.to [7] (by simp only[go_sem];rfl) rfl (by simp[hx]) (by rfl) (by simp only[fR,go_sem]<;>simp)
 obtain rfl:i=cs.length:=by omega
 simp+contextual-implicitDefEqProofs only[bR,D.put,j6.sub,gf,gA,aa,lK,lZ,bE,gr,fV,aj,ak,fU,fO,lM,go_sem]
 try exact D.Le.refl _
set_option maxHeartbeats 1000000
section
variable {m:Mo}
variable {v:Int}{ks:List Ex}{x y:Nat}{nn:Option Bool}
def Dl:gS m (.mk 1 v nn ks) x y=false:=by rw[mE];simp[jg,rZ]
def Aj:gS m (.mk 2 v nn ks) x y=(x==y):=by rw[mE];simp[jg,tK]
def T4:gS m (.mk 3 v nn ks) x y=(x==y&&xb m v x):=by rw[mE];simp[jg,tK]
def TE:gS m (.mk 4 v nn ks) x y=kD (tN m v) x y:=by rw[mE];simp[jg]
variable {a:Ex}
def V0:gS m (.mk 5 v nn [a]) x y=(x==y&& !(gS m a x x)):=by rw[mE];simp[jg,tK]
variable {b:Ex}
def tu:gS m (.mk 6 v nn [a,b]) x y=(gS m a x y||gS m b x y):=by rw[mE];simp[jg]
def sX:gS m (.mk 7 v nn [a,b])=rP m.2.1.toNat (gS m a) (gS m b):=by rw[mE];simp[jg]
def DW:gS m (.mk 8 v nn [a])=sn m.2.1.toNat (gS m a):=by rw[mE];simp[jg]
def tp(e:Ex):gS m (rK e)=gS m e:=by
 refine Ex.ind (p:=fun e=>gS m (rK e)=gS m e) (fun k n nn ks ih=>?_) e;rw[Af,mE,mE,cR];congr 1;exact cA fun x hx=>ih x hx
def age:∀(a b:Ex),qE a b=true→gS m a=gS m b:=by
 refine Ex.ind (p:=fun a=>∀b,qE a b=true→gS m a=gS m b) fun k n nn ks ih b h=>?_;obtain⟨k',n',jR,GD,rfl⟩:=Ex.ex b;rw[On,bA,bA,aU,aU]at h;obtain⟨rfl,rfl,h⟩:=h;have:∀(as bs:List Ex),(∀x∈as,∀b,qE x b=true→gS m x=gS m b)→tX qE as bs=true→as.map (gS m)=bs.map (gS m):=by
  intro as
  induction as with
  |nil=>intro bs _ h;cases bs with
   |nil=>rfl
   |cons _ _=>simp[tX]at h
  |cons x as iha=>
   intro bs hx h;cases bs with
   |nil=>simp[tX]at h
   |cons y bs=>
    simp only[tX,bA]at h;rw[lC,lC,hx x (by simp) y h.1,iha bs (fun z hz=>hx z (by simp[hz])) h.2]
 rw[mE,mE,this ks GD ih h]
variable {n:Nat}
def FO{A A' B B':my}(hA:∀z,z<n→A x z=true→A' x z=true)(hB:∀z,z<n→B z y=true→B' z y=true)(h:rP n A B x y=true):rP n A' B' x y=true:=by
 obtain⟨z,hz,h1,h2⟩:=iJ.1 h;exact iJ.2 ⟨z,hz,hA z hz h1,hB z hz h2⟩
def yc{A B:my}(h:∀x y,x<n→y<n→A x y=true→B x y=true):∀{k x y:Nat},k≤n→x<n→y<n→mT A k x y=true→mT B k x y=true
 |0,x,y,_,hx,hy,hw=>by
  simp only[mT,ba]at hw⊢;exact hw.imp (h x y hx hy) fun h=>h
 |k+1,x,y,hk,hx,hy,hw=>by
  simp only[mT,ba,bA]at hw⊢;rcases hw with hw|⟨h1,h2⟩
  exact .inl (yc h (by omega) hx hy hw);exact .inr ⟨yc h (by omega) hx (by omega) h1,yc h (by omega) (by omega) hy h2⟩
variable {g:Int×Int}
mutual
def Do:∀(e:Ex)(acc:List Ex),f8 g e=true→∀x∈iH e acc,x∈acc∨∀a b,gS m x a b=true→gS m e a b=true
 |.mk k n nn ks,acc,h,x,hx=>by
  rw[iH]at hx
  split at hx;exact .inl hx
  split at hx
  ·rename_i h6
   obtain⟨p,q,rfl,_,_⟩:=ik (.inl h6) h;subst h6;rcases Gm [p,q] acc (iF h) x hx with h1|⟨z,hz,h1⟩
   exact .inl h1;refine .inr fun a b hr=>?_;rw[tu];have:=h1 a b hr;simp only[ab,cF,cI]at hz;rcases hz with rfl|rfl<;>simp[this]
  split at hx
  exact .inl hx;rcases an.1 hx with h1|h1
  exact .inl h1;rw[au]at h1;subst h1;exact .inr fun _ _ h=>h
def Gm:∀(es:List Ex)(acc:List Ex),(∀e∈es,f8 g e=true)→∀x∈lU es acc,x∈acc∨∃e∈es,∀a b,gS m x a b=true→gS m e a b=true
 | [],acc,_,x,hx=>.inl (by simpa[lU]using hx)
 |e::es,acc,h,x,hx=>by
  rw[lU]at hx;rcases Gm es (iH e acc) (fun y hy=>h y (by simp[hy])) x hx with h1|⟨z,hz,h1⟩
  ·rcases Do e acc (h e (by simp)) x h1 with h2|h2
   exact .inl h2;exact .inr ⟨e,by simp,h2⟩
  exact .inr ⟨z,by simp[hz],h1⟩
end
def RF{l:List Ex}(h:gS m (mS l) x y=true):∃z∈l,gS m z x y=true:=by
 cases l with
 |nil=>rw[mS,Dl]at h;cases h
 |cons a l=>
  have:∀(l:List Ex)(acc:Ex),gS m (l.foldl (fun acc y=>.mk 6 0 (some false) [acc,rK y]) acc) x y=true→gS m acc x y=true∨∃z∈l,gS m z x y=true:=by
   intro l
   induction l with
   |nil=>intro acc h;exact .inl h
   |cons b l ih=>
    intro acc h;rw[de]at h;rcases ih _ h with h|⟨z,hz,h⟩
    ·rw[tu,ba,tp]at h;rcases h with h|h
     exact .inl h;exact .inr ⟨b,by simp,h⟩
    exact .inr ⟨z,by simp[hz],h⟩
  rw[mS]at h;rcases this l _ h with h|⟨z,hz,h⟩
  ·rw[tp]at h;exact⟨a,by simp,h⟩
  exact⟨z,by simp[hz],h⟩
def WX(ha:f8 g a=true)(hb:f8 g b=true)(h:gS m (Kq a b) x y=true):gS m a x y=true∨gS m b x y=true:=by
 obtain⟨z,hz,h⟩:=RF h;rcases Do b _ hb z (vD.1 hz)with h1|h1
 ·rcases Do a [] ha z h1 with h2|h2
  cases h2;exact .inl (h2 _ _ h)
 exact .inr (h1 _ _ h)
def chR(n:Nat):List my→my→my
 | [],B=>B
 |A::r,B=>rP n A (chR n r B)
mutual
def KB(hn:m.2.1.toNat=n):∀(a b:Ex),f8 g a=true→∀x y,x<n→y<n→gS m (Ar a b) x y=true→rP n (gS m a) (gS m b) x y=true
 |.mk k v nn ks,b,ha,x,y,hx,hy,h=>by
  rw[Ar]at h
  split at h;rw[Dl]at h;cases h
  split at h
  ·rename_i h2
   subst h2;rw[tp]at h;exact iJ.2 ⟨x,hx,by rw[Aj];simp,h⟩
  split at h
  ·rename_i h2
   rw[tp]at h;obtain⟨bk,bn,bnn,bks,rfl⟩:=Ex.ex b;have:bk=2:=h2;subst this;exact iJ.2 ⟨y,hy,h,by rw[Aj];simp⟩
  split at h
  ·rename_i h7
   obtain⟨p,q,rfl,_,_⟩:=ik (.inr h7) ha;subst h7;have:=Gi hn [p,q] b (iF ha) x y hx hy h;simp only[lC,lN,chR]at this;obtain⟨z,hz,h1,h2⟩:=iJ.1 this;obtain⟨w,hw,h3,h4⟩:=iJ.1 h2;rw[sX,hn];exact iJ.2 ⟨w,hw,iJ.2 ⟨z,hz,h1,h3⟩,h4⟩
  rw[sX,hn,tp,tp]at h;exact h
def Gi(hn:m.2.1.toNat=n):∀(as:List Ex)(b:Ex),(∀a∈as,f8 g a=true)→∀x y,x<n→y<n→gS m (pO as b) x y=true→chR n (as.map (gS m)) (gS m b) x y=true
 | [],b,_,x,y,_,_,h=>by simpa[pO,chR]using h
 |a::as,b,ha,x,y,hx,hy,h=>by
  simp only[pO]at h;have h1:=KB hn a (pO as b) (ha a (by simp)) x y hx hy h;simp only[lC,chR];exact FO (fun _ _ h=>h) (fun z hz h=>Gi hn as b (fun c hc=>ha c (by simp[hc])) z y hz hy h) h1
end
def O9(hn:m.2.1.toNat=n)(h:gS m (ww a) x y=true):sn n (gS m a) x y=true:=by
 unfold ww at h
 split at h;rw[Aj,aU]at h;subst h;exact zV
 split at h
 rw[tp]at h;exact Jp h;rw[DW,hn,tp]at h;exact h
def IA(hn:m.2.1.toNat=n)(e:Ex):f8 g e=true→∀x y,x<n→y<n→gS m (jM e) x y=true→gS m e x y=true:=by
 refine Ex.ind (p:=fun e=>f8 g e=true→∀x y,x<n→y<n→gS m (jM e) x y=true→gS m e x y=true) (fun k v nn ks ih hT x y hx hy h=>?_) e;rw[jM]at h
 split at h
 ·rename_i h6
  obtain⟨p,q,rfl,hp,hq⟩:=ik (.inl h6) hT;subst h6;simp only[kH,aj,ak]at h;rw[tu,ba];exact(WX (jO p hp).1 (jO q hq).1 h).imp (ih p (by simp) hp x y hx hy) (ih q (by simp) hq x y hx hy)
 split at h
 ·rename_i h7
  obtain⟨p,q,rfl,hp,hq⟩:=ik (.inr h7) hT;subst h7;simp only[kH,aj,ak]at h;rw[sX,hn];exact FO (fun z hz=>ih p (by simp) hp x z hx hz) (fun z hz=>ih q (by simp) hq z y hz hy) (KB hn _ _ (jO p hp).1 x y hx hy h)
 split at h
 ·rename_i h8
  subst h8;obtain⟨p,rfl⟩:=pn (jo hT);simp only[kH,aj]at h;rw[DW,hn];exact yc (fun a b ha hb=>ih p (by simp) (iF hT p (by simp)) a b ha hb) (aw _) hx hy (O9 hn h)
 rw[tp]at h;exact h
def Fm{rows:List (SL Bool)}{i:Nat}(hl:rows.length≤3)(hi:i<rows.length):JS (pJ rows x rows.length) i=(rows.getD i (none,[])).2.getD x false:=by
 have BJ:(default:SL Bool)=(none,[]):=rfl
 match rows,hl,hi with
 | [],_,hi=>simp at hi
 | [r0],_,hi=>
  obtain rfl:i=0:=by simp at hi;omega
  simp only[lK,lZ,pJ,aj];cases r0.2.getD x false<;>decide
 | [r0,r1],_,hi=>
  have:i=0∨i=1:=by simp at hi;omega
  rcases this with rfl|rfl<;>simp only[lK,lZ,pJ,aj,ak]<;>cases r0.2.getD x false<;>cases r1.2.getD x false<;>decide
 | [r0,r1,r2],_,hi=>
  have:i=0∨i=1∨i=2:=by simp at hi;omega
  rcases this with rfl|rfl|rfl<;>simp only[lK,lZ,pJ,aj,ak]<;>cases r0.2.getD x false<;>cases r1.2.getD x false<;>cases r2.2.getD x false<;>decide
 |_::_::_::_::_,hl,_=>simp at hl
def Ty(hM:we m n)(e:Ex):f8 m.1 e=true→jA e=true→∀x y,x<n→y<n→gS m e x y=(x==y&&nH (Et m x) e):=by
 refine Ex.ind (p:=fun e=>f8 m.1 e=true→jA e=true→∀x y,x<n→y<n→gS m e x y=(x==y&&nH (Et m x) e)) (fun k v nn ks ih hT hC x y hx hy=>?_) e;have hf:=jo hT;have hk:=iF hT;have hn:m.2.1.toNat=n:=by have:=hM.Cf;omega
 have hC0:=hC;rw[kM,bA,aM]at hC;rw[nH];rcases DZ hM.g hf with⟨rfl,rfl⟩|⟨rfl,rfl⟩|⟨rfl,rfl,w,rfl,_⟩|⟨rfl,rfl,w,rfl,_⟩|⟨rfl,a,rfl⟩|⟨rfl,a,b,rfl⟩|⟨rfl,a,b,rfl⟩|⟨rfl,a,rfl⟩
 rw[Dl];simp;rw[Aj];simp
 ·obtain⟨j,hj,_⟩:=Dt hM.g hf;obtain rfl:w=j:=by omega
  have hg:=lh hM.g;have htl:=hM.tl;have hjl:w<m.2.2.1.2.length:=by
   simp only[gE,bA,ay,jz]at hf;have h2:=hf.2;rw[fQ (by omega) (by omega)]at h2;omega
  have hb:=Fm (x:=x) (show m.2.2.1.2.length≤3 by omega) hjl;rw[T4,ae (by decide),ae (by decide),af rfl];unfold Et xb;rw[aS,hb]
 exact absurd hC.1 (by decide);rw[V0,ae (by decide),ae (by decide),ae (by decide),af rfl];simp only[nu,aj];rw[ih a (by simp) (hk a (by simp)) (hC.2 a (by simp)) x x hx hx];simp
 ·rw[tu,ae (by decide),ae (by decide),ae (by decide),ae (by decide),af rfl];simp only[nu,aj,ak];rw[ih a (by simp) (hk a (by simp)) (hC.2 a (by simp)) x y hx hy,ih b (by simp) (hk b (by simp)) (hC.2 b (by simp)) x y hx hy];cases (x==y)<;>simp
 ·rw[ae (by decide),ae (by decide),ae (by decide),ae (by decide),ae (by decide),sX,hn];simp only[nu,aj,ak];have ia:=ih a (by simp) (hk a (by simp)) (hC.2 a (by simp));have ib:=ih b (by simp) (hk b (by simp)) (hC.2 b (by simp));rw[dx,iJ];constructor
  ·rintro⟨z,hz,h1,h2⟩;rw[ia x z hx hz,bA,aU]at h1;obtain⟨rfl,h1⟩:=h1;rw[ib x y hx hy,bA]at h2;rw[h2.1,h1,h2.2];rfl
  intro h;simp only[bA,aU]at h;obtain⟨rfl,h1,h2⟩:=h;exact⟨x,hx,by rw[ia x x hx hx,h1];simp,by rw[ib x x hx hx,h2];simp⟩
 exact absurd hC.1 (by decide)
def FJ(hM:we m n)(e:Ex):f8 m.1 e=true→∀x,x<n→lR (Et m x) e=true→gS m e x x=true:=by
 refine Ex.ind (p:=fun e=>f8 m.1 e=true→∀x,x<n→lR (Et m x) e=true→gS m e x x=true) (fun k v nn ks ih hT x hx h=>?_) e;have hf:=jo hT;have hn:m.2.1.toNat=n:=by have:=hM.Cf;omega
 rw[lR]at h
 by_cases c4:k=4;rw[af c4]at h;cases h
 rw[ae c4]at h
 by_cases c6:k=6;subst c6;obtain⟨a,b,rfl,ha,hb⟩:=ik (.inl rfl) hT;simp only[ay,nN,aj,ak,ba]at h;rw[tu,ba];exact h.imp (ih a (by simp) ha x hx) (ih b (by simp) hb x hx)
 rw[ae c6]at h
 by_cases c7:k=7;subst c7;obtain⟨a,b,rfl,ha,hb⟩:=ik (.inr rfl) hT;simp only[ay,nN,aj,ak,bA]at h;rw[sX,hn];exact iJ.2 ⟨x,hx,ih a (by simp) ha x hx h.1,ih b (by simp) hb x hx h.2⟩
 rw[ae c7]at h
 by_cases c8:k=8;subst c8;obtain⟨a,rfl⟩:=pn hf;rw[DW];exact zV
 rw[ae c8]at h;rw[Ty hM _ hT (zq hM.g hf c4 c6 c7 c8) x x hx hx,h];simp
def B7(hn:m.2.1.toNat=n){r:Ex}(hr:f8 g r=true)(hx:x<n)(hy:y<n)(h:gS m (ug r).1 x y=true):gS m r x y=true:=by
 unfold ug at h
 split at h;exact IA hn r hr x y hx hy h;exact h
def SV(hM:we m n){c:Int}{z:Nat}(hx:x<n)(hz:z<n)(hc:kD (tN m c) x z=true)(e:Ex):f8 m.1 e=true→∀y,y<n→gS m (iI (Et m x) c e).1 z y=true→gS m e x y=true:=by
 refine Ex.ind (p:=fun e=>f8 m.1 e=true→∀y,y<n→gS m (iI (Et m x) c e).1 z y=true→gS m e x y=true) (fun k v nn ks ih hT y hy h=>?_) e;have hf:=jo hT;have hn:m.2.1.toNat=n:=by have:=hM.Cf;omega
 have no:∀{P:Prop},gS m zE z y=true→P:=fun h=>by rw[Dl]at h;cases h
 rw[iI]at h
 by_cases c4:k=4
 ·subst c4;rw[af rfl]at h
  split at h
  ·rename_i hv
   subst hv;rw[Aj,aU]at h;subst h;rw[TE];exact hc
  exact no h
 rw[ae c4]at h
 by_cases c6:k=6
 ·subst c6;rw[af rfl]at h;obtain⟨a,b,rfl,ha,hb⟩:=ik (.inl rfl) hT;have oa:=jE (a:=Et m x) (c:=c) a ha;have ob:=jE (a:=Et m x) (c:=c) b hb;simp only[mL,JQ]at h
  split at h
  ·split at h
   ·have:=B7 hn (by rw[lg (.inl rfl),oa.1,ob.1];rfl) hz hy h;rw[tu,ba]at this;rw[tu,ba];exact this.imp (ih a (by simp) ha y hy) (ih b (by simp) hb y hy)
   exact no h
  exact no h
 rw[ae c6]at h
 by_cases c7:k=7
 ·subst c7;rw[af rfl]at h;obtain⟨a,b,rfl,ha,hb⟩:=ik (.inr rfl) hT;have oa:=jE (a:=Et m x) (c:=c) a ha;have ob:=jE (a:=Et m x) (c:=c) b hb;have h7T:f8 m.1 (mz 7 (iI (Et m x) c a).1 b)=true:=by rw[lg (.inr rfl),oa.1,hb];rfl
  have h7:gS m (mz 7 (iI (Et m x) c a).1 b) z y=true→gS m (.mk 7 v nn [a,b]) x y=true:=fun h=>by
   rw[sX,hn]at h⊢;obtain⟨w,hw,h1,h2⟩:=iJ.1 h;exact iJ.2 ⟨w,hw,ih a (by simp) ha w hw h1,h2⟩
  simp only[mL,JK]at h
  split at h
  ·split at h
   ·rename_i X3
    split at h
    ·have:=B7 hn (by rw[lg (.inl rfl),h7T,ob.1];rfl) hz hy h;rw[tu,ba]at this;rcases this with h1|h1
     exact h7 h1;rw[sX,hn];exact iJ.2 ⟨x,hx,FJ hM a ha x hx X3,ih b (by simp) hb y hy h1⟩
    exact h7 h
   exact h7 (B7 hn h7T hz hy h)
  exact no h
 rw[ae c7]at h
 by_cases c8:k=8
 ·subst c8;rw[af rfl]at h;obtain⟨a,rfl⟩:=pn hf;have ha:=iF hT a (by simp);have oa:=jE (a:=Et m x) (c:=c) a ha;simp only[mL,CA]at h
  split at h
  ·have:=B7 hn (by rw[lg (.inr rfl),oa.1,hT];rfl) hz hy h;rw[sX,hn]at this;obtain⟨w,hw,h1,h2⟩:=iJ.1 this;rw[DW,hn]at h2⊢;exact LJ hw (Jp (ih a (by simp) ha w hw h1)) h2
  exact no h
 rw[ae c8]at h;exact no h
end
end Go.Ax
