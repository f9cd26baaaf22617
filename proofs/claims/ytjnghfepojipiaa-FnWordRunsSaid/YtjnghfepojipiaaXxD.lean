/- Contracts of functions of the seat, proved over the engine. No condition. -/
import Derived.Test.YtjnghfepojipiaaXxC
import Derived.Test.YtjnghfepojipiaaXxA
import Derived.Test.YtjnghfepojipiaaXxB
set_option linter.unusedSimpArgs false
set_option linter.unusedVariables false
set_option linter.unnecessarySimpa false
set_option linter.unusedSectionVars false
namespace Go.Ax
set_option maxRecDepth 20000
set_option maxHeartbeats 4000000

def xD(z:Option Bool)(m:Mo)(e:Ex):SL (SL Bool)×Int:=if iP m=true∧uj m.1 e=true then(dZ m.2.1.toNat (a7 m e),0)else((z,[]),1)
theorem vT{z:Option Bool}{m:Mo}{n:Nat}{e:Ex}(h1:iP m=true)(h2:uj m.1 e=true)(hM:jh m n):xD z m e=(dZ n (a7 m e),0):=by
 have hn:m.2.1.toNat=n:=by rw[hM.pts];rfl
 simp[xD,h1,h2,hn]
theorem te{n:Nat}{R:de}:(dZ n R).1=some false:=rfl
theorem sL{n:Nat}{R:de}:(dZ n R).2.map (eS 1 eB)=rD n R:=(D.ls.inj (gu (n:=n) (R:=R))).2.2
theorem Dx{g:Int×Int}{e:Ex}(h:uj g e=true):aD g e=true:=by
 simp only[uj,bA]at h;exact h.2.2

def ic(f1 f2 f3:Nat):RC:=(.seq (.r [.b 2 5 0,.b 3 3 1,.o (.mv 4 (.c (.ls (some true) 1 []))),.v 5 (.ci 0)]) (.seq (.seq (.r [.L 6 5 2,.c 7 f1 [.t 6],.o (.un 8 .not (.t 7)),.m 9 8,.u 9 (.fa 10 0 (.t 2)),.u 9 (.ld 11 true 2 (.t 10)),.u 9 (.ld 12 true 3 (.t 3)),.u 9 (.call (some 13) f2 [.t 11,.t 12]),.u 9 (.un 14 .not (.t 13)),.o (.pick 15 (.t 9) .ct (.t 14))]) (.cond (.t 15) (.seq (.r [.o (.mv 4 (.c (.ls (some true) 1 []))),.v 5 (.ci 1)]) .ret) .skip)) (.seq (.r [.L 16 5 2,.L 17 3 3,.c 18 f3 [.t 16,.t 17],.m 4 18,.v 5 (.ci 0)]) .ret)))
def lA(P:Program)(fno:Nat):Prop:=∀(m:Mo)(e:Ex),AF P fno [eM m,eE e] (.tup ([.own (eS 1 (eS 1 eB) (xD (some true) m e).1),.own (eI (xD (some true) m e).2)]))
theorem sr{P:Program}(hm:P.follows .mixedOrders=true){g f1 f2 f3:Nat}(hr:aP P g=some (19,ic f1 f2 f3,[.t 4,.t 5]))(hc1:gN P f1)(hc2:sA P f2)(hc3:nG P f3):lA P g:=by
 intro m e;obtain⟨k,v,nn,ks,rfl⟩:=Ex.ex e;rw[bc];refine aw hr hm rfl fun hb=>?_;simp+contextual-implicitDefEqProofs only[ic,eM,eS,eI,D.at,D.size,D.sizeL,D.sub,D.isAg,lN,lC,bne,bN,bU,go_sem];refine aa (ds:=[eM m]) (by rfl) (hc1 m) ?_;cases ho:iP m
 ·rw[show xD (some true) m (.mk k v nn ks)=(((some true),[]),1)by simp[xD,ho]];simp+contextual-implicitDefEqProofs only[eB,bE,lN,bN,bU,go_sem]
 obtain⟨n,hM⟩:=rT ho;have hg:=hM.g;have hx:=hc2 m.1 (.mk k v nn ks);rw[bc]at hx;simp+contextual-implicitDefEqProofs only[eB,D.at,D.sub,D.isAg,lN,lC,bT,go_sem];refine aa (ds:=[eG m.1,.ag [.sc (.int .i64 k),.sc (.int .i64 v),.ls nn 3 (ks.map eE)]]) (by rfl) hx ?_;cases hq:uj m.1 (.mk k v nn ks)
 ·rw[show xD (some true) m (.mk k v nn ks)=(((some true),[]),1)by simp[xD,hq]];simp+contextual-implicitDefEqProofs only[eB,bE,lN,bN,bU,go_sem]
 rw[vT ho hq hM];have hr0:=hc3 m n (.mk k v nn ks) hM (Dx hq);rw[bc]at hr0;simp+contextual-implicitDefEqProofs only[eB,D.at,D.sub,D.isAg,lN,lC,bT,te,sL,go_sem];refine aa (ds:=[eM m,.ag [.sc (.int .i64 k),.sc (.int .i64 v),.ls nn 3 (ks.map eE)]]) (by rfl) hr0 ?_;simp+contextual-implicitDefEqProofs only[bE,bne,bN,bU,go_sem]

def ql(f1 f2:Nat):RC:=(.seq (.r [.b 3 2 1,.o (.zer 4 5 (.ag [(.sc (.int .i64 0)),(.sc (.int .i64 0)),(.sc (.int .i64 0)),(.ls (some true) 1 []),(.ls (some true) 1 [])]))]) (.seq (.reg true [.m 5 0,.c 6 f1 [.t 5],.L 7 2 3,.o (.wcl (some 8) f2 [.t 6,.t 7,.ci 4]),.s 5 4 8]) .ret))
def vI(P:Program)(fno:Nat):Prop:=∀(nn:Option Bool)(c:List Int)(g:Int×Int),fZ c→fH g=true→∃mo,mo.1=g∧iP mo=true∧mo.2.1≤4∧1≤mo.2.1∧AF P fno [.ls nn 1 (c.map eU),eG g] (.own (eM mo))
theorem BY{P:Program}(hm:P.follows .mixedOrders=true){g f1 f2:Nat}(hr:aP P g=some (9,ql f1 f2,[.c 4 5 true]))(hc1:g8 P f1)(hc2:pE P f2):vI P g:=by
 intro nn c g hc hg;obtain⟨a1,sd1,mo,s1,s2,s3,s4,s5,s6,_,hE⟩:=hc2 nn c 0 0 g 4 hc hg (by omega) (by omega) (by omega) (by omega);refine⟨mo,s3,s4,s5,s6,?_⟩;refine aw hr hm rfl fun hb=>?_;simp+contextual-implicitDefEqProofs only[ql,eI,eG,eM,eS,D.size,D.sizeL,bne,bN,bU,go_sem];refine aa ?_ (hc1 nn c) ?_
 ·exact rfl
 simp+contextual-implicitDefEqProofs only[aG,D.size,D.sizeL,D.isAg,D.sub,bne,bN,bU,go_sem];refine aB [6] [] (by rfl) (by rfl) (by rfl) hE rfl (by simp[bH,bp,uS,aG,af,D.noPtr,bm,AV.shW,bb,bC,U.shW,St.unit,lu]) ?_;simp+contextual-implicitDefEqProofs only[uS,aG,eI,eM,eS,D.put,D.size,D.sizeL,D.isAg,D.sub,aq,af,bne,bN,bI,bU,bJ,Bool.or_false,go_sem]
theorem Co{α:Type}{l:List α}{i:Nat}{d:α}(h:i<l.length):l.take (i+1)=l.take i++[l.getD i d]:=by
 rw[List.take_succ_eq_append_getElem h];simp[h]

theorem Ef{α:Type}{p:α→Bool}{l:List α}{i:Nat}{d:α}(h:i<l.length):(l.take (i+1)).all p=((l.take i).all p&&p (l.getD i d)):=by
 rw[Co (d:=d) h,List.all_append];simp
theorem BO{α:Type}{p:α→Bool}{l:List α}{i:Nat}(h:(l.take i).all p=false):l.all p=false:=by
 rw[←List.take_append_drop i l,List.all_append,h,bG]

def jW:RC:=(.seq (.r [.v 4 .cf]) (.seq (.seq (.r [.m 6 0,.o (.len 7 (.t 6)),.m 8 1,.o (.bin 9 .neq (.t 7) (.t 8))]) (.cond (.t 9) (.seq (.r [.v 4 .cf]) .ret) .skip)) (.seq (.seq (.r [.v 5 (.ci 0)]) (.blk 0 (.loop (.seq (.seq (.r [.m 10 5,.m 11 0,.o (.len 12 (.t 11)),.o (.bin 13 .lss (.t 10) (.t 12))]) (.cond (.t 13) .skip (.exit 0))) (.seq (.blk 1 (.seq (.r [.m 16 0,.m 17 5,.o (.ia 18 1 (.t 16) (.t 17)),.l 19 1 18,.o (.len 20 (.t 19)),.m 21 1,.o (.bin 22 .neq (.t 20) (.t 21))]) (.cond (.t 22) (.seq (.r [.v 4 .cf]) .ret) .skip))) (.r [.m 14 5,.o (.bin 15 .add (.t 14) (.ci 1)),.m 5 15])))))) (.seq (.r [.v 4 .ct]) .ret))))
def t7(P:Program)(fno:Nat):Prop:=∀(t:SL (SL Bool))(n:Int),AF P fno [eS 1 (eS 1 eB) t,eI n] (.own (eB (dG n n t)))
theorem zC{P:Program}(hm:P.follows .mixedOrders=true){g:Nat}(hr:aP P g=some (23,jW,[.t 4])):t7 P g:=by
 intro t n;refine aw hr hm rfl fun hb=>?_;have hl:=sY hb.1;simp only[lM]at hl
 by_cases hlen:(t.2.length:Int)=n
 case neg=>
  have h1:((t.2.length:Int)==n)=false:=by simpa using hlen
  rw[show dG n n t=false by simp[dG,bM,h1]];simp+contextual-implicitDefEqProofs only[jW,eS,h1,bne,bN,lM,go_sem,eI,eB]
 have h1:((t.2.length:Int)==n)=true:=by simpa using hlen
 rw[show dG n n t=t.2.all (bM n)by simp[dG,bM,h1]];simp+contextual-implicitDefEqProofs only[jW,eS,eB,h1,bne,bT,lM,go_sem,eI];refine bB (α:=Nat) [4,5,10,11,12,13,14,15,16,17,18,19,20,21,22] (fun i=>[(5,.im none (.sc (.int .i64 i)))]) (fun i=>[]) (fun i=>i≤t.2.length∧(t.2.take i).all (bM n)=true) (fun i=>t.2.length-i) 0 (bf.to [] (by simp only[go_sem];rfl) rfl (by simp) (by rfl) (by simp only[an,go_sem,keep,cH]<;>simp)) ⟨Nat.zero_le _,rfl⟩ ?_;rintro i ⟨hi0,hi1⟩
 by_cases hi:i<t.2.length
 ·have e1:=fM (f:=eS 1 eB) (d:=(none,[])) hi;have e2:=Ef (p:=bM n) (d:=(none,[])) hi;rw[hi1,bI]at e2;cases hp:bM n (t.2.getD i (none,[]))
  ·have hp':((((t.2.getD i (none,[])).2.length:Nat):Int)==n)=false:=hp;rw[BO (e2.trans hp)];simp+contextual-implicitDefEqProofs only[hi,e1,eS,Int.toNat_natCast,hp',bne,bN,iL,lM,go_sem,iN]
  ·have hp':((((t.2.getD i (none,[])).2.length:Nat):Int)==n)=true:=hp;simp+contextual-implicitDefEqProofs only[hi,e1,eS,Int.toNat_natCast,hp',bne,bT,iL,lM,go_sem,iN];rw[aj (by omega) (by omega)];exact⟨i+1,⟨by omega,e2.trans hp⟩,by omega,bf.to [] (by simp only[go_sem];rfl) rfl (by simp) (by rfl) (by simp only[an,go_sem]<;>simp)⟩
 ·obtain rfl:i=t.2.length:=by omega
  rw[List.take_length]at hi1;rw[hi1];simp+contextual-implicitDefEqProofs only[hi,iL,lM,go_sem]

def wr:RC:=(.seq (.r [.v 2 .cf]) (.seq (.r [.m 3 0,.o (.len 4 (.t 3)),.o (.bin 5 .gtr (.t 4) (.ci 4096)),.m 2 5]) .ret))
def Bj(P:Program)(fno:Nat):Prop:=∀(nn:Option Bool)(c:List Int),AF P fno [.ls nn 1 (c.map eU)] (.own (eB (decide ((c.length:Int)>4096))))
theorem Gk{P:Program}(hm:P.follows .mixedOrders=true){g:Nat}(hr:aP P g=some (6,wr,[.t 2])):Bj P g:=by
 intro nn c;refine aw hr hm rfl fun hb=>?_;simp+contextual-implicitDefEqProofs only[wr,eB,lM,go_sem]
theorem FX{g:Int×Int}{e:Ex}{s:Int}(h:wG g false s 7 e)(hs:s≤200):uj g e=true:=by
 obtain⟨h1,_,_,_,h5,h6⟩:=h;simp only[uj,bA,decide_eq_true_eq];exact⟨by omega,by omega,h1⟩
set_option maxHeartbeats 1000000

section
variable {m m2 : Mo} {n n2 : Nat} {φ : Nat → Nat} {A A2 B B2 : de}
theorem x9{x y:Nat}(h:A x y=true):kA n A x y=true:=BJ (Nat.zero_le n) (by simp[gA,h])
theorem AL{x z y:Nat}(hz:z<n)(h:kA n A x z=true)(h':kA n A z y=true):kA n A x y=true:=iw hz h h'
end
end Go.Ax
namespace Go.Ax
set_option maxRecDepth 20000
set_option maxHeartbeats 4000000

def qa(f1 f2 f3:Nat):RC:=(.seq (.r [.b 2 2 0,.v 4 .cf]) (.seq (.seq (.reg true [.L 7 2 2,.c 8 f1 [.t 7],.o (.un 9 .not (.t 8)),.m 10 9,.u 10 (.mv 11 (.t 1)),.u 10 (.nck 12 (.t 11)),.u 10 (.fa 13 1 (.t 12)),.u 10 (.ld 14 false 1 (.t 13)),.u 10 (.len 15 (.t 14)),.u 10 (.bin 16 .gtr (.t 15) (.ci 10)),.o (.pick 17 (.t 10) .ct (.t 16)),.m 18 17,.u 18 (.mv 19 (.t 1)),.u 18 (.nck 20 (.t 19)),.u 18 (.fa 21 0 (.t 20)),.u 18 (.ld 22 false 1 (.t 21)),.u 18 (.len 23 (.t 22)),.u 18 (.mv 24 (.t 1)),.u 18 (.nck 25 (.t 24)),.u 18 (.fa 26 1 (.t 25)),.u 18 (.ld 27 false 1 (.t 26)),.u 18 (.len 28 (.t 27)),.u 18 (.bin 29 .add (.t 28) (.ci 1)),.u 18 (.bin 30 .neq (.t 23) (.t 29)),.o (.pick 31 (.t 18) .ct (.t 30))]) (.cond (.t 31) (.seq (.r [.v 4 .cf]) .ret) .skip)) (.seq (.seq (.r [.v 5 (.ci 0)]) (.blk 0 (.loop (.seq (.seq (.r [.m 32 5,.m 33 1,.n 34 33,.f 35 0 34,.l 36 1 35,.o (.len 37 (.t 36)),.o (.bin 38 .lss (.t 32) (.t 37))]) (.cond (.t 38) .skip (.exit 0))) (.seq (.blk 1 (.seq (.reg true [.m 41 1,.n 42 41,.f 43 0 42,.l 44 1 43,.m 45 5,.o (.ia 46 1 (.t 44) (.t 45)),.l 47 1 46,.L 48 2 2,.c 49 f2 [.t 48],.o (.bin 50 .sub (.t 49) (.ci 1)),.c 51 f3 [.t 47,.ci 0,.t 50],.o (.un 52 .not (.t 51))]) (.cond (.t 52) (.seq (.r [.v 4 .cf]) .ret) .skip))) (.r [.m 39 5,.o (.bin 40 .add (.t 39) (.ci 1)),.m 5 40])))))) (.seq (.seq (.r [.v 6 (.ci 0)]) (.blk 2 (.loop (.seq (.seq (.r [.m 53 6,.m 54 1,.n 55 54,.f 56 1 55,.l 57 1 56,.o (.len 58 (.t 57)),.o (.bin 59 .lss (.t 53) (.t 58))]) (.cond (.t 59) .skip (.exit 2))) (.seq (.blk 3 (.seq (.reg true [.m 62 1,.n 63 62,.f 64 1 63,.l 65 1 64,.m 66 6,.o (.ia 67 1 (.t 65) (.t 66)),.l 68 1 67,.f 69 1 2,.l 70 1 69,.o (.bin 71 .sub (.t 70) (.ci 1)),.c 72 f3 [.t 68,.ci 0,.t 71],.o (.un 73 .not (.t 72))]) (.cond (.t 73) (.seq (.r [.v 4 .cf]) .ret) .skip))) (.r [.m 60 6,.o (.bin 61 .add (.t 60) (.ci 1)),.m 6 61])))))) (.seq (.r [.v 4 .ct]) .ret)))))
def pz(P:Program)(f:Nat):Prop:=∀(g:Int×Int)(v:Wo),AF P f [eG g,.pt (gJ v) 0] (.own (eB (fH g&&km g v)))
theorem CE{P:Program}(hm:P.follows .mixedOrders=true){g f1 f2 f3:Nat}(hr:aP P g=some (74,qa f1 f2 f3,[.t 4]))(hc1:lx P f1)(hc2:gf P f2)(hc3:iC P f3):pz P g:=by
 intro g v;refine aw hr hm rfl fun hb=>?_;have hb2:=hb.2.1;simp only[gJ,eS,D.bd,D.bdL,lM,aT]at hb2;have hl:=hb2.1.1;have hl2:=hb2.2.1.1;simp+contextual-implicitDefEqProofs only[qa,eG,gJ,eS,go_sem,eI,eB];refine aa ?_ (hc1 g) ?_
 ·exact rfl
 cases hg:fH g
 ·simp+contextual-implicitDefEqProofs only[bN,bG,go_sem,eB]
 have hg':=dB hg;have hp:=kN hg
 by_cases h1:(v.2.2.length:Int)≤10
 ·have h1':¬(v.2.2.length:Int)>10:=by omega
  have hw:=aj (x:=(v.2.2.length:Int)+1) (by omega) (by omega);cases h2:bM (v.2.2.length+1) v.1
  ·have h2':=h2;simp only[bM]at h2';simp+contextual-implicitDefEqProofs only[km,gn,h1,h2,h1',hw,h2',lM,bne,bT,bN,bG,bJ,go_sem,eB]
  have h2':=h2;simp only[bM]at h2';simp+contextual-implicitDefEqProofs only[h1',hw,h2',lM,bne,bT,bI,go_sem,eB];refine eD (α:=Nat) [4,5,32,33,34,35,36,37,38,39,40,41,42,43,44,45,46,47,48,49,50,51,52] (fun i=>[(5,.im none (.sc (.int .i64 i)))]) (fun i=>i≤v.1.2.length∧(v.1.2.take i).all ((fun x=>dj x 0 (bu g-1)))=true) (fun i=>v.1.2.length-i) 0 (by simp only[an,go_sem];simp) ⟨Nat.zero_le _,rfl⟩ ?_;rintro i ⟨j1,j2⟩
  by_cases hi:i<v.1.2.length
  ·have e1:=bP (f:=eI) hi;simp+contextual-implicitDefEqProofs only[e1,hi,iL,lM,iN,go_sem,eI];refine aa ?_ (hc2 g hg) ?_
   ·exact rfl
   simp+contextual-implicitDefEqProofs only[go_sem,eI];rw[aj (by omega) (by omega)];refine aa ?_ (hc3 v.1.2[i] 0 (bu g-1)) ?_
   ·exact rfl
   cases hx:dj v.1.2[i] 0 (bu g-1)
   ·simp+contextual-implicitDefEqProofs only[bN,go_sem,eB];have hr2:=dI (p:=(fun x=>dj x 0 (bu g-1))) hi hx;exact D.Le.sc_eq (by simp only[km,gn,jt,h1,h2,hr2,bJ,bG])
   ·simp+contextual-implicitDefEqProofs only[bT,go_sem,eB];rw[aj (by omega) (by omega)];exact⟨i+1,⟨by omega,bR hi j2 hx⟩,by omega,bf.env (by simp only[an,go_sem];simp)⟩
  ·simp+contextual-implicitDefEqProofs only[hi,iL,lM,go_sem];have hr1:=cB hi j2;refine eD (α:=Nat) [4,6,53,54,55,56,57,58,59,60,61,62,63,64,65,66,67,68,69,70,71,72,73] (fun i=>[(6,.im none (.sc (.int .i64 i)))]) (fun i=>i≤v.2.2.length∧(v.2.2.take i).all ((fun x=>dj x 0 (g.2-1)))=true) (fun i=>v.2.2.length-i) 0 (by simp only[an,go_sem];simp) ⟨Nat.zero_le _,rfl⟩ ?_;rintro i ⟨j1,j2⟩
   by_cases hi:i<v.2.2.length
   ·have e1:=bP (f:=eI) hi;simp+contextual-implicitDefEqProofs only[e1,hi,iL,lM,iN,go_sem,eI];rw[aj (by omega) (by omega)];refine aa ?_ (hc3 v.2.2[i] 0 (g.2-1)) ?_
    ·exact rfl
    cases hx:dj v.2.2[i] 0 (g.2-1)
    ·simp+contextual-implicitDefEqProofs only[bN,go_sem,eB];have hr2:=dI (p:=(fun x=>dj x 0 (g.2-1))) hi hx;exact D.Le.sc_eq (by simp only[km,gn,jt,h1,h2,hr2,bJ])
    ·simp+contextual-implicitDefEqProofs only[bT,go_sem,eB];rw[aj (by omega) (by omega)];exact⟨i+1,⟨by omega,bR hi j2 hx⟩,by omega,bf.env (by simp only[an,go_sem];simp)⟩
   ·simp+contextual-implicitDefEqProofs only[hi,iL,lM,go_sem];have hr2:=cB hi j2;exact D.Le.sc_eq (by simp only[km,gn,jt,h1,h2,hr1,hr2,Bool.and_self,decide_true])
 ·have h1':(v.2.2.length:Int)>10:=by omega
  simp+contextual-implicitDefEqProofs only[km,h1,h1',lM,bT,bG,bJ,go_sem,eB]
theorem cO{α:Type}{f:α→D}{l:List α}{i:Nat}{d:α}(h:i<l.length):D.at (l.map f) i=f (l.getD i d):=by
 simp[D.at,h]

def kb(m:Mo)(x:Nat):Int:=cT m.2.2.1.2 x m.2.2.1.2.length
def w6(m:Mo)(v:Int):de:=fL fun x=>kb m x==v
def i9(w:Wo)(i:Nat):Int:=w.1.2.getD i 0
def nM(m:Mo)(w:Wo)(i:Nat):SL (SL Bool):=mF m (w.2.2.getD i 0)

def dQ(m:Mo)(n:Nat)(w:Wo):Nat→de
 |0=>w6 m (i9 w 0)
 |k+1=>fun x y=>dF n (dQ m n w k) (bt (nM m w k)) x y&&(kb m y==i9 w (k+1))
def nR(z:Option Bool)(m:Mo)(w:Wo):SL (SL Bool)×Int:=if iP m=true∧km m.1 w=true then(dZ m.2.1.toNat (dQ m m.2.1.toNat w w.2.2.length),0)else((z,[]),1)
theorem ID{n:Nat}{m:Mo}{v:Int}{R:de}:rD n (dF n R (w6 m v))=rD n (fun x y=>R x y&&(kb m y==v)):=eX fun x y _ hy=>by
 cases h:(R x y&&(kb m y==v))with
 |true=>
  simp only[bA]at h;exact bh.2 ⟨y,hy,h.1,by simp[w6,fL,h.2]⟩
 |false=>
  cases h2:dF n R (w6 m v) x y with
  |false=>rfl
  |true=>
   obtain⟨z,_,h3,h4⟩:=bh.1 h2;simp only[w6,fL,bA,beq_iff_eq]at h4;obtain⟨rfl,h5⟩:=h4;simp[h3,h5]at h
structure U5 (m:Mo) (w:Wo):Prop where
 small:w.2.2.length≤10
 len:w.1.2.length=w.2.2.length+1
 act:∀i,i<w.2.2.length→0≤w.2.2.getD i 0∧(w.2.2.getD i 0).toNat<m.2.2.2.2.length
theorem Bo{m:Mo}{n:Nat}{w:Wo}(hM:jh m n)(h:km m.1 w=true):U5 m w:=by
 have hg:=hM.g;have al:=hM.al;simp only[fH,bA,cP]at hg;simp only[km,gn,bM,jt,bA,decide_eq_true_eq,beq_iff_eq,List.all_eq_true,cP]at h;refine⟨by omega,by omega,fun i hi=>?_⟩;have:=h.2.2.2 _ (fe (d:=0) hi);omega
theorem D6{m:Mo}{n k:Nat}{w:Wo}:rD n (dF n (dF n (dQ m n w k) (bt (nM m w k))) (w6 m (i9 w (k+1))))=rD n (dQ m n w (k+1)):=ID
theorem wP{z:Option Bool}{m:Mo}{n:Nat}{w:Wo}(h1:iP m=true)(h2:km m.1 w=true)(hM:jh m n):nR z m w=(dZ n (dQ m n w w.2.2.length),0):=by
 have hn:m.2.1.toNat=n:=by rw[hM.pts];rfl
 simp[nR,h1,h2,hn]
theorem HJ{P:Program}{f:Nat}(h:gi P f){n:Nat}{A:de}{b:SL (SL Bool)}(hn:n≤1000)(hb:Sq n b):AF P f [.ls (some false) 1 (rD n A),eS 1 (eS 1 eB) b] (.own (.ls (some false) 1 (rD n (dF n A (bt b))))):=by
 have:=h n (dZ n A) b hn rR hb;rw[gu,gu]at this;rw[show rD n (dF n (bt (dZ n A)) (bt b))=rD n (dF n A (bt b))from eX fun _ _ hx _=>nB (fun _ hk=>lU hx hk) (fun _ _=>rfl)]at this;exact this
theorem OB{P:Program}{f:Nat}(h:oz P f){n:Nat}{A:de}{b:SL (SL Bool)}(hn:n≤1000)(hb:Sq n b):AF P f [.ls (some false) 1 (rD n A),eS 1 (eS 1 eB) b] (.arr 1 (rD n (dF n A (bt b)))):=by
 have:=h n (dZ n A) b hn rR hb;rw[gu]at this;rw[show rD n (dF n (bt (dZ n A)) (bt b))=rD n (dF n A (bt b))from eX fun _ _ hx _=>nB (fun _ hk=>lU hx hk) (fun _ _=>rfl)]at this;exact this
theorem wK{m:Mo}{n x:Nat}(hM:jh m n)(hx:x<n):∀r∈m.2.2.1.2,((x:Nat):Int)<(r.2.length:Int):=fun r hr=>by have:=hM.tr r hr;omega

def jB(f1:Nat):RC:=(.seq (.r [.v 7 .cf]) (.seq (.reg true [.m 8 0,.m 9 1,.o (.bin 10 .eql (.t 8) (.t 9)),.m 11 10,.w 11 (.ld 12 true 5 (.t 2)),.wm 11 13 0,.w 11 (.call (some 14) f1 [.t 12,.t 13]),.w 11 (.fa 15 0 (.t 3)),.w 11 (.ld 16 false 1 (.t 15)),.w 11 (.ld 17 false 1 (.t 4)),.w 11 (.ia 18 1 (.t 16) (.t 17)),.w 11 (.ld 19 false 1 (.t 18)),.w 11 (.bin 20 .eql (.t 14) (.t 19)),.k 21 11 20,.m 7 21]) .ret))
def nH(P:Program)(fno:Nat):Prop:=∀(m:Mo)(n:Nat)(w:Wo)(i x y:Nat)(hM:jh m n)(hx:x<n)(hi:i<w.1.2.length),AF P fno [eI x,eI y,.pt (eM m) 0,.pt (gJ w) 0,.pt (eI i) 0] (.own (eB (w6 m (i9 w i) x y)))
theorem zi{P:Program}(hm:P.follows .mixedOrders=true){g f1:Nat}(hr:aP P g=some (22,jB f1,[.t 7]))(hc1:sD P f1):nH P g:=by
 intro m n w i x y hM hx hi;have hpre:=wK hM hx;have hat:=hc1 m (x:Int) (by omega) hpre;have e1:=fM (f:=eI) (d:=0) hi;refine aw hr hm rfl fun hb=>?_;cases hv:(x==y)
 ·rw[show w6 m (i9 w i) x y=false by simp[w6,fL,hv]];simp+contextual-implicitDefEqProofs only[jB,gJ,jS,hv,eM,eS,eI,eB,go_sem]
 ·rw[show w6 m (i9 w i) x y=(kb m x==i9 w i)by simp[w6,fL,hv]];simp+contextual-implicitDefEqProofs only[jB,gJ,jS,hv,eM,eS,eI,eB,D.size,D.sizeL,D.sub,D.isAg,lN,lC,go_sem];refine aa (ds:=[eM m,eI x]) (by rfl) hat ?_;simp+contextual-implicitDefEqProofs only[e1,hi,eI,D.size,D.sizeL,D.sub,D.isAg,go_sem,iL,lM,iN];exact D.Le.refl _

def pM(f1 f2:Nat):RC:=(.seq (.r [.b 3 1 0,.o (.mv 4 (.c (.ls (some true) 1 [])))]) (.seq (.r [.f 5 2 1,.l 6 1 5,.o (.mkf 7 f2 [.t 1,.t 2,.t 3]),.c 8 f1 [.t 6,.t 7],.m 4 8]) .ret))
def qu(P:Program)(fno:Nat):Prop:=∀(m:Mo)(n:Nat)(w:Wo)(i:Nat)(hM:jh m n)(hi:i<w.1.2.length),AF P fno [eI i,.pt (eM m) 0,.pt (gJ w) 0] (.own (.ls (some false) 1 (rD n (w6 m (i9 w i)))))
theorem B5{P:Program}(hm:P.follows .mixedOrders=true){g f1 f2:Nat}(hr:aP P g=some (9,pM f1 f2,[.t 4]))(hc1:kG P f1)(hc2:nH P f2):qu P g:=by
 intro m n w i hM hi;obtain⟨gs,p,T,A⟩:=m;obtain rfl:p=n:=hM.pts;have n8:=hM.n8;refine aw hr hm rfl fun hb=>?_;simp+contextual-implicitDefEqProofs only[pM,eM,eS,eI,D.size,D.sizeL,D.sub,D.isAg,lN,lC,bU,go_sem];refine aa (ds:=[eI n,.fn f2 [.pt (eM (gs,(n:Int),T,A)) 0,.pt (gJ w) 0,.pt (eI i) 0]]) (by rfl) (hc1 n f2 _ (w6 (gs,(n:Int),T,A) (i9 w i)) (by omega) (fun x y hx _=>hc2 (gs,(n:Int),T,A) n w i x y hM hx hi)) ?_;rw[show((some false,bS n fun x=>(some false,bS n (w6 (gs,(n:Int),T,A) (i9 w i) x))):SL (SL Bool))=dZ n (w6 (gs,(n:Int),T,A) (i9 w i))from rfl,gu];simp+contextual-implicitDefEqProofs only[go_sem]

def ni(f1 f2 f3 f4:Nat):RC:=(.seq (.r [.b 2 5 0,.b 3 2 1,.o (.mv 4 (.c (.ls (some true) 1 []))),.v 5 (.ci 0)]) (.seq (.seq (.r [.L 10 5 2,.c 11 f1 [.t 10],.o (.un 12 .not (.t 11)),.m 13 12,.u 13 (.fa 14 0 (.t 2)),.u 13 (.ld 15 true 2 (.t 14)),.u 13 (.ld 16 true 2 (.t 3)),.u 13 (.call (some 17) f2 [.t 15,.t 16]),.u 13 (.un 18 .not (.t 17)),.o (.pick 19 (.t 13) .ct (.t 18))]) (.cond (.t 19) (.seq (.r [.o (.mv 4 (.c (.ls (some true) 1 []))),.v 5 (.ci 1)]) .ret) .skip)) (.seq (.r [.o (.mkf 20 f4 [.t 2,.t 3]),.m 6 20]) (.seq (.r [.m 21 6,.o (.calv (some 22) (.t 21) [.ci 0]),.m 7 22]) (.seq (.seq (.r [.f 23 1 3,.l 24 1 23,.o (.len 25 (.t 24)),.v 26 (.ci 0)]) (.blk 0 (.loop (.seq (.r [.o (.bin 27 .lss (.t 26) (.t 25))]) (.seq (.cond (.t 27) .skip (.exit 0)) (.seq (.blk 1 (.seq (.r [.m 28 26,.o (.ia 29 1 (.t 24) (.t 26)),.l 30 1 29,.m 8 28,.m 9 30]) (.r [.m 31 7,.f 32 4 2,.l 33 1 32,.m 34 9,.o (.ia 35 1 (.t 33) (.t 34)),.l 36 1 35,.c 37 f3 [.t 31,.t 36],.m 38 6,.m 39 8,.o (.bin 40 .add (.t 39) (.ci 1)),.o (.calv (some 41) (.t 38) [.t 40]),.c 42 f3 [.t 37,.t 41],.m 7 42]))) (.r [.o (.bin 43 .add (.t 26) (.ci 1)),.m 26 43]))))))) (.seq (.r [.m 44 7,.m 4 44,.v 5 (.ci 0)]) .ret))))))
def sT(P:Program)(fno:Nat):Prop:=∀(m:Mo)(w:Wo),AF P fno [eM m,gJ w] (.tup ([.own (eS 1 (eS 1 eB) (nR (some true) m w).1),.own (eI (nR (some true) m w).2)]))
theorem zr{P:Program}(hm:P.follows .mixedOrders=true){g f1 f2 f3 f4:Nat}(hr:aP P g=some (45,ni f1 f2 f3 f4,[.t 4,.t 5]))(hc1:gN P f1)(hc2:tu P f2)(hc3:gi P f3)(hc4:qu P f4):sT P g:=by
 intro m w;refine aw hr hm rfl fun hb=>?_;simp+contextual-implicitDefEqProofs only[ni,gJ,o6,eM,eS,eI,D.size,D.sizeL,D.sub,D.isAg,lN,lC,bne,bN,bU,go_sem];refine aa (ds:=[eM m]) (by rfl) (hc1 m) ?_;cases ho:iP m
 ·rw[show nR (some true) m w=(((some true),[]),1)by simp[nR,ho]];simp+contextual-implicitDefEqProofs only[eB,bE,lN,bN,bU,go_sem]
 obtain⟨n,hM⟩:=rT ho;have hg:=hM.g;have n8:=hM.n8;have n1:=hM.n1;have hp:=hM.pts;simp+contextual-implicitDefEqProofs only[o6,eB,D.sub,D.isAg,lN,lC,bT,go_sem];refine aa (ds:=[eG m.1,gJ w]) (by rfl) (hc2 m.1 w hg) ?_;cases hq:km m.1 w
 ·rw[show nR (some true) m w=(((some true),[]),1)by simp[nR,hq]];simp+contextual-implicitDefEqProofs only[eB,bE,lN,bN,bU,go_sem]
 have hW:=Bo hM hq;have wl:=hW.len;have ws:=hW.small;rw[wP ho hq hM];simp+contextual-implicitDefEqProofs only[eB,lN,lC,bT,te,sL,go_sem];refine aa (ds:=[eI (0:Nat),.pt (eM m) 0,.pt (gJ w) 0]) (by rfl) (hc4 m n w 0 hM (by omega)) ?_;simp+contextual-implicitDefEqProofs only[o6,D.sub,D.isAg,bne,bN,bU,go_sem,lM];refine bB (α:=Nat) [7,8,9,22,26,27,28,29,30,31,32,33,34,35,36,37,38,39,40,41,42,43] (fun i=>[(26,.im none (.sc (.int .i64 i))),(7,.tr 22)]) (fun i=>[(22,.own (.ls (some false) 1 (rD n (dQ m n w i)))),(3,.ar false (some false) 2 [.ag [.ls w.1.1 1 (w.1.2.map eI),.ls w.2.1 1 (w.2.2.map eI)]]),(2,.ar false (some false) 5 [.ag [.sc (.int .i64 m.1.1),.sc (.int .i64 m.1.2),.sc (.int .i64 m.2.1),.ls m.2.2.1.1 1 (m.2.2.1.2.map (eS 1 eB)),.ls m.2.2.2.1 1 (m.2.2.2.2.map (eS 1 (eS 1 eB)))]])]) (fun i=>i≤w.2.2.length) (fun i=>w.2.2.length-i) 0 (bf.to [] (by simp only[go_sem];rfl) rfl (by simp[dQ]) (by rfl) (by simp only[an,go_sem,keep,cH]<;>simp)) (Nat.zero_le _) ?_;intro i hi0
 by_cases hi:i<w.2.2.length
 ·have e1:=fM (f:=eI) (d:=0) hi;obtain⟨a0,a1⟩:=hW.act i hi;have a2:=jC a0 a1;have e2:=fM (f:=eS 1 (eS 1 eB)) (d:=(none,[])) a1;have sq:=hM.asq _ (fe (d:=(none,[])) a1);have hw1:IntKind.i64.wrap ((i:Int)+1)=((i+1:Nat):Int):=by rw[aj (by omega) (by omega)];omega
  simp+contextual-implicitDefEqProofs only[hi,e1,e2,a0,a2,o6,eS,eI,D.size,D.sub,D.isAg,lN,lC,go_sem,iL,lM,iN];refine aa (ds:=[.ls (some false) 1 (rD n (dQ m n w i)),eS 1 (eS 1 eB) (nM m w i)]) (by rfl) (HJ hc3 (by omega) sq) ?_;simp+contextual-implicitDefEqProofs only[hw1,lN,lC,bne,bN,bU,go_sem];refine aa (ds:=[eI (i+1:Nat),.pt (eM m) 0,.pt (gJ w) 0]) (by rfl) (hc4 m n w (i+1) hM (by omega)) ?_;simp+contextual-implicitDefEqProofs only[lN,lC,bne,bN,bU,go_sem];refine aa (ds:=[.ls (some false) 1 (rD n (dF n (dQ m n w i) (bt (nM m w i)))),.ls (some false) 1 (rD n (w6 m (i9 w (i+1))))]) (by rfl) (za hc3 (by omega)) ?_;rw[D6];simp+contextual-implicitDefEqProofs only[hw1,bne,bN,bU,go_sem];refine⟨i+1,by omega,by omega,?_⟩;refine bf.trans (bf.dels [22,37,41] _) (bf.trans (bf.ren _ 42 22 [7] (.ls (some false) 1 (rD n (dQ m n w (i+1)))) (by rfl) (by rfl) (by simp;rfl)) ?_);exact bf.to [] (by simp only[go_sem,lC,lN];rfl) rfl (by simp) (by rfl) (by simp only[an,go_sem]<;>simp)
 ·obtain rfl:i=w.2.2.length:=by omega
  simp+contextual-implicitDefEqProofs only[hi,bE,Bool.or_false,go_sem,iL]
def ul(G H:de)(i:Nat):de:=fun a b=>if a<i then H a b else G a b
def oR(G H:de)(i y:Nat):de:=fun a b=>if a=i∧b<y then H a b else ul G H i a b
theorem BZ{G H:de}:ul G H 0=G:=by funext a b;simp[ul]
theorem CF{n:Nat}{G H:de}:rD n (ul G H n)=rD n H:=eX fun a b ha _=>by simp[ul,ha]
theorem B8{G H:de}{i:Nat}:oR G H i 0=ul G H i:=by funext a b;simp[oR]
theorem FC{G H:de}{i y:Nat}:oR G H i y i y=G i y:=by simp[oR,ul]
theorem BP{n:Nat}{G H:de}{i:Nat}:rD n (oR G H i n)=rD n (ul G H (i+1)):=eX fun a b _ hb=>by
 unfold oR ul
 by_cases ha:a=i
 ·subst ha;simp[hb]
 ·by_cases h2:a<i
  ·simp[ha,h2,show a<i+1 by omega]
  ·simp[ha,h2,show ¬a<i+1 by omega]
theorem Cm{G H:de}{i y:Nat}:rI (oR G H i y) i y (H i y)=oR G H i (y+1):=by
 funext a b;unfold rI oR
 by_cases ha:a=i
 ·subst ha
  by_cases hb:b=y
  ·subst hb;simp
  ·by_cases hb2:b<y
   ·simp[hb,hb2,show b<y+1 by omega]
   ·simp[hb,hb2,show ¬b<y+1 by omega]
 ·simp[ha]
theorem DY{m:Mo}{v:Int}:w6 m v=fL fun x=>kb m x==v:=rfl

def mU(f1 f2 f3 f4 f5:Nat):RC:=(.seq (.r [.b 2 5 0,.b 3 2 1,.o (.mv 4 (.c (.ls (some true) 1 []))),.v 5 (.ci 0)]) (.seq (.seq (.r [.c 11 f1 [.t 2],.o (.un 12 .not (.t 11)),.m 13 12,.u 13 (.fa 14 0 (.t 2)),.u 13 (.ld 15 true 2 (.t 14)),.u 13 (.call (some 16) f2 [.t 15,.t 3]),.u 13 (.un 17 .not (.t 16)),.o (.pick 18 (.t 13) .ct (.t 17))]) (.cond (.t 18) (.seq (.r [.o (.bs 19 1 (.ls (some true) 1 []) 0 []),.m 4 19,.v 5 (.ci 1)]) .ret) .skip)) (.seq (.r [.f 20 2 2,.l 21 1 20,.c 22 f3 [.t 21],.m 6 22]) (.seq (.seq (.r [.v 7 (.ci 0)]) (.blk 0 (.loop (.seq (.seq (.r [.m 23 7,.f 24 2 2,.l 25 1 24,.o (.bin 26 .lss (.t 23) (.t 25))]) (.cond (.t 26) .skip (.exit 0))) (.seq (.blk 1 (.reg true [.m 29 6,.m 30 7,.o (.ia 31 1 (.t 29) (.t 30)),.l 32 1 31,.m 33 7,.f 34 3 2,.l 35 1 34,.m 36 7,.c 37 f4 [.t 35,.t 36],.f 38 0 3,.l 39 1 38,.i 40 1 39 0,.l 41 1 40,.o (.bin 42 .eql (.t 37) (.t 41)),.o (.ia 43 1 (.t 32) (.t 33)),.s 1 43 42])) (.r [.m 27 7,.o (.bin 28 .add (.t 27) (.ci 1)),.m 7 28])))))) (.seq (.seq (.r [.v 8 (.ci 0)]) (.blk 2 (.loop (.seq (.seq (.r [.m 44 8,.f 45 1 3,.l 46 1 45,.o (.len 47 (.t 46)),.o (.bin 48 .lss (.t 44) (.t 47))]) (.cond (.t 48) .skip (.exit 2))) (.seq (.blk 3 (.seq (.reg true [.m 51 6,.f 52 4 2,.l 53 1 52,.f 54 1 3,.l 55 1 54,.m 56 8,.o (.ia 57 1 (.t 55) (.t 56)),.l 58 1 57,.o (.ia 59 1 (.t 53) (.t 58)),.l 60 1 59,.c 61 f5 [.t 51,.t 60],.m 6 61]) (.seq (.r [.v 9 (.ci 0)]) (.blk 4 (.loop (.seq (.seq (.r [.m 62 9,.f 63 2 2,.l 64 1 63,.o (.bin 65 .lss (.t 62) (.t 64))]) (.cond (.t 65) .skip (.exit 4))) (.seq (.blk 5 (.seq (.r [.v 10 (.ci 0)]) (.blk 6 (.loop (.seq (.seq (.r [.m 68 10,.f 69 2 2,.l 70 1 69,.o (.bin 71 .lss (.t 68) (.t 70))]) (.cond (.t 71) .skip (.exit 6))) (.seq (.blk 7 (.reg true [.m 74 6,.m 75 9,.o (.ia 76 1 (.t 74) (.t 75)),.l 77 1 76,.m 78 10,.m 79 6,.m 80 9,.o (.ia 81 1 (.t 79) (.t 80)),.l 82 1 81,.m 83 10,.o (.ia 84 1 (.t 82) (.t 83)),.l 85 1 84,.m 86 85,.w 86 (.fa 87 3 (.t 2)),.w 86 (.ld 88 false 1 (.t 87)),.wm 86 89 10,.w 86 (.call (some 90) f4 [.t 88,.t 89]),.w 86 (.fa 91 0 (.t 3)),.w 86 (.ld 92 false 1 (.t 91)),.wm 86 93 8,.w 86 (.bin 94 .add (.t 93) (.ci 1)),.w 86 (.ia 95 1 (.t 92) (.t 94)),.w 86 (.ld 96 false 1 (.t 95)),.w 86 (.bin 97 .eql (.t 90) (.t 96)),.k 98 86 97,.o (.ia 99 1 (.t 77) (.t 78)),.s 1 99 98])) (.r [.m 72 10,.o (.bin 73 .add (.t 72) (.ci 1)),.m 10 73]))))))) (.r [.m 66 9,.o (.bin 67 .add (.t 66) (.ci 1)),.m 9 67])))))))) (.r [.m 49 8,.o (.bin 50 .add (.t 49) (.ci 1)),.m 8 50])))))) (.seq (.r [.m 100 6,.m 4 100,.v 5 (.ci 0)]) .ret))))))
def sa(P:Program)(fno:Nat):Prop:=∀(m:Mo)(w:Wo),AF P fno [eM m,gJ w] (.tup ([.own (eS 1 (eS 1 eB) (nR (some false) m w).1),.own (eI (nR (some false) m w).2)]))
theorem zu{P:Program}(hm:P.follows .mixedOrders=true){g f1 f2 f3 f4 f5:Nat}(hr:aP P g=some (101,mU f1 f2 f3 f4 f5,[.t 4,.t 5]))(hc1:ww P f1)(hc2:pz P f2)(hc3:js P f3)(hc4:qw P f4)(hc5:oz P f5):sa P g:=by
 intro m w;refine aw hr hm rfl fun hb=>?_;simp+contextual-implicitDefEqProofs only[mU,gJ,eM,eS,eI,D.size,D.sizeL,lN,lC,bne,bN,bU,go_sem];refine aa (ds:=[.pt (eM m) 0]) (by rfl) (hc1 m) ?_;cases ho:iP m
 ·rw[show nR (some false) m w=(((some false),[]),1)by simp[nR,ho]];simp+contextual-implicitDefEqProofs only[eB,bE,lN,lZ,bne,bN,bU,go_sem]
 obtain⟨n,hM⟩:=rT ho;have hg:=hM.g;have n8:=hM.n8;have n1:=hM.n1;have hp:=hM.pts;simp+contextual-implicitDefEqProofs only[o6,eB,D.sub,D.isAg,lN,lC,bT,go_sem];refine aa (ds:=[eG m.1,.pt (gJ w) 0]) (by rfl) (hc2 m.1 w) ?_;cases hq:km m.1 w
 ·rw[show nR (some false) m w=(((some false),[]),1)by simp[nR,hq]];simp+contextual-implicitDefEqProofs only[eB,bE,lN,lZ,bne,bN,bU,bJ,hg,go_sem]
 have hW:=Bo hM hq;have wl:=hW.len;have ws:=hW.small;rw[wP ho hq hM];simp+contextual-implicitDefEqProofs only[o6,eB,D.sub,D.isAg,lN,lC,bT,bU,te,sL,hg,go_sem];refine aa (ds:=[eI n]) (by rw[←hp];rfl) (hc3 n (by omega)) ?_;simp+contextual-implicitDefEqProofs only[dJ,bne,bN,bU,go_sem];refine bB (α:=Nat) [7,23,24,25,26,27,28,29,30,31,32,33,34,35,36,37,38,39,40,41,42,43] (fun i=>[(7,.im none (.sc (.int .i64 i)))]) (fun i=>[(22,.ar true (some false) 1 (rD n (kg (fun x=>kb m x==i9 w 0) i))),(3,.ar false (some false) 2 [.ag [.ls w.1.1 1 (w.1.2.map eI),.ls w.2.1 1 (w.2.2.map eI)]]),(2,.ar false (some false) 5 [.ag [.sc (.int .i64 m.1.1),.sc (.int .i64 m.1.2),.sc (.int .i64 m.2.1),.ls m.2.2.1.1 1 (m.2.2.1.2.map (eS 1 eB)),.ls m.2.2.2.1 1 (m.2.2.2.2.map (eS 1 (eS 1 eB)))]])]) (fun i=>i≤n) (fun i=>n-i) 0 (bf.to [] (by simp only[go_sem];rfl) rfl (by simp[Aj,Dq]) (by rfl) (by simp only[an,go_sem,keep,cH]<;>simp)) (Nat.zero_le _) ?_;intro i hi0
 by_cases hi:i<n
 ·have a1:=lm (R:=kg (fun x=>kb m x==i9 w 0) i) hi;have a2:=gm (f:=kg (fun x=>kb m x==i9 w 0) i i) hi;have hst:rI (kg (fun x=>kb m x==i9 w 0) i) i i (cT m.2.2.1.2 i m.2.2.1.2.length==w.1.2.getD 0 0)=kg (fun x=>kb m x==i9 w 0) (i+1):=AC;have e1:=fM (f:=eI) (d:=0) (show 0<w.1.2.length by omega);have w0:(0:Int)<w.1.2.length:=by omega
  simp+contextual-implicitDefEqProofs only[hi,hp,a1,o6,D.sub,D.isAg,lN,lC,go_sem,iL,iN];refine aa (ds:=[eS 1 (eS 1 eB) m.2.2.1,eI i]) (by rfl) (hc4 m.2.2.1 (i:Int) (by omega) (wK hM hi)) ?_;simp+contextual-implicitDefEqProofs only[hi,a1,a2,e1,w0,o6,eI,D.size,D.sub,Int.le_refl,bE,D.isAg,D.put,gL,sP,dJ,eC,go_sem,iL,lM,iN];rw[aj (by omega) (by omega),hst];exact⟨i+1,by omega,by omega,bf.to [] (by simp only[go_sem];rfl) rfl (by simp[]) (by rfl) (by simp only[an,go_sem]<;>simp)⟩
 ·obtain rfl:i=n:=by omega
  simp+contextual-implicitDefEqProofs only[hi,hp,o6,D.sub,D.isAg,go_sem,iL];refine bB (α:=Nat) [6,8,9,10,22,44,45,46,47,48,49,50,51,52,53,54,55,56,57,58,59,60,61,62,63,64,65,66,67,68,69,70,71,72,73,74,75,76,77,78,79,80,81,82,83,84,85,86,87,88,89,90,91,92,93,94,95,96,97,98,99] (fun k=>[(8,.im none (.sc (.int .i64 k))),(6,.sm 22 0 i)]) (fun k=>[(22,.ar true (some false) 1 (rD i (dQ m i w k))),(3,.ar false (some false) 2 [.ag [.ls w.1.1 1 (w.1.2.map eI),.ls w.2.1 1 (w.2.2.map eI)]]),(2,.ar false (some false) 5 [.ag [.sc (.int .i64 m.1.1),.sc (.int .i64 m.1.2),.sc (.int .i64 m.2.1),.ls m.2.2.1.1 1 (m.2.2.1.2.map (eS 1 eB)),.ls m.2.2.2.1 1 (m.2.2.2.2.map (eS 1 (eS 1 eB)))]])]) (fun k=>k≤w.2.2.length) (fun k=>w.2.2.length-k) 0 (bf.to [] (by simp only[go_sem];rfl) rfl (by simp[zU,dQ,DY,hp]) (by rfl) (by simp only[an,go_sem,keep,cH]<;>simp)) (Nat.zero_le _) ?_;intro k hk0
  by_cases hk:k<w.2.2.length
  ·have e1:=fM (f:=eI) (d:=0) hk;obtain⟨a0,a1⟩:=hW.act k hk;have a2:=jC a0 a1;have e2:=fM (f:=eS 1 (eS 1 eB)) (d:=(none,[])) a1;have sq:=hM.asq _ (fe (d:=(none,[])) a1);simp+contextual-implicitDefEqProofs only[hk,e1,e2,a0,a2,o6,eS,eI,D.size,D.sub,D.isAg,lN,lC,go_sem,iL,lM,iN];refine aa (ds:=[.ls (some false) 1 (rD i (dQ m i w k)),eS 1 (eS 1 eB) (nM m w k)]) (by simp only[dm,AV.arg,go_sem,List.drop_zero,List.take_of_length_le (Nat.le_of_eq dJ),dJ];rfl) (OB hc5 (by omega) sq) ?_;simp+contextual-implicitDefEqProofs only[dJ,bne,bN,bU,go_sem];refine bB (α:=Nat) [9,10,62,63,64,65,66,67,68,69,70,71,72,73,74,75,76,77,78,79,80,81,82,83,84,85,86,87,88,89,90,91,92,93,94,95,96,97,98,99] (fun x=>[(9,.im none (.sc (.int .i64 x)))]) (fun x=>[(61,.ar true (some false) 1 (rD i (ul (dF i (dQ m i w k) (bt (nM m w k))) (dQ m i w (k+1)) x))),(22,.ar true (some false) 1 (rD i (dQ m i w k))),(3,.ar false (some false) 2 [.ag [.ls w.1.1 1 (w.1.2.map eI),.ls w.2.1 1 (w.2.2.map eI)]]),(2,.ar false (some false) 5 [.ag [.sc (.int .i64 m.1.1),.sc (.int .i64 m.1.2),.sc (.int .i64 m.2.1),.ls m.2.2.1.1 1 (m.2.2.1.2.map (eS 1 eB)),.ls m.2.2.2.1 1 (m.2.2.2.2.map (eS 1 (eS 1 eB)))]])]) (fun x=>x≤i) (fun x=>i-x) 0 (bf.to [] (by simp only[go_sem];rfl) rfl (by simp[BZ,hp]) (by rfl) (by simp only[an,go_sem,keep,cH]<;>simp)) (Nat.zero_le _) ?_
   intro x hx0
   by_cases hx:x<i
   ·simp+contextual-implicitDefEqProofs only[hx,hp,o6,D.sub,D.isAg,go_sem,iL];refine bB (α:=Nat) [10,68,69,70,71,72,73,74,75,76,77,78,79,80,81,82,83,84,85,86,87,88,89,90,91,92,93,94,95,96,97,98,99] (fun y=>[(10,.im none (.sc (.int .i64 y)))]) (fun y=>[(61,.ar true (some false) 1 (rD i (oR (dF i (dQ m i w k) (bt (nM m w k))) (dQ m i w (k+1)) x y))),(22,.ar true (some false) 1 (rD i (dQ m i w k))),(3,.ar false (some false) 2 [.ag [.ls w.1.1 1 (w.1.2.map eI),.ls w.2.1 1 (w.2.2.map eI)]]),(2,.ar false (some false) 5 [.ag [.sc (.int .i64 m.1.1),.sc (.int .i64 m.1.2),.sc (.int .i64 m.2.1),.ls m.2.2.1.1 1 (m.2.2.1.2.map (eS 1 eB)),.ls m.2.2.2.1 1 (m.2.2.2.2.map (eS 1 (eS 1 eB)))]])]) (fun y=>y≤i) (fun y=>i-y) 0 (bf.to [] (by simp only[go_sem];rfl) rfl (by simp[B8,hp]) (by rfl) (by simp only[an,go_sem,keep,cH]<;>simp)) (Nat.zero_le _) ?_;intro y hy0
    by_cases hy:y<i
    ·have b1:=lm (R:=oR (dF i (dQ m i w k) (bt (nM m w k))) (dQ m i w (k+1)) x y) hx;have b2:=gm (f:=oR (dF i (dQ m i w k) (bt (nM m w k))) (dQ m i w (k+1)) x y x) hy;have hst:rI (oR (dF i (dQ m i w k) (bt (nM m w k))) (dQ m i w (k+1)) x y) x y ((dF i (dQ m i w k) (bt (nM m w k))) x y&&(cT m.2.2.1.2 y m.2.2.1.2.length==w.1.2.getD (k+1) 0))=oR (dF i (dQ m i w k) (bt (nM m w k))) (dQ m i w (k+1)) x (y+1):=Cm;have e3:=fM (f:=eI) (d:=0) (show k+1<w.1.2.length by omega);have hw1:IntKind.i64.wrap ((k:Int)+1)=((k+1:Nat):Int):=by rw[aj (by omega) (by omega)];omega
     have hk1:k+1<w.1.2.length:=by omega
     rw[FC]at b2;cases hv:(dF i (dQ m i w k) (bt (nM m w k))) x y
     ·rw[hv]at b2 hst;rw[bG]at hst;simp+contextual-implicitDefEqProofs only[hx,hy,hp,b1,b2,o6,D.size,D.sub,bE,D.isAg,D.put,gL,sP,dJ,eC,go_sem,iL,iN];rw[aj (by omega) (by omega),hst];exact⟨y+1,by omega,by omega,bf.to [] (by simp only[go_sem];rfl) rfl (by simp[]) (by rfl) (by simp only[an,go_sem]<;>simp)⟩
     ·rw[hv]at b2 hst;rw[bI]at hst;simp+contextual-implicitDefEqProofs only[hx,hy,hp,b1,b2,o6,D.sub,D.isAg,lN,lC,eC,go_sem,iL,iN];refine aa (ds:=[eS 1 (eS 1 eB) m.2.2.1,eI y]) (by rfl) (hc4 m.2.2.1 (y:Int) (by omega) (wK hM hy)) ?_;simp+contextual-implicitDefEqProofs only[hx,hy,b1,b2,hw1,e3,hk1,o6,eI,D.size,D.sub,bE,D.isAg,D.put,gL,sP,dJ,eC,go_sem,iL,lM,iN];rw[aj (by omega) (by omega),hst];exact⟨y+1,by omega,by omega,bf.to [] (by simp only[go_sem];rfl) rfl (by simp[]) (by rfl) (by simp only[an,go_sem]<;>simp)⟩
    ·obtain rfl:y=i:=by omega
     simp+contextual-implicitDefEqProofs only[hy,hp,o6,D.sub,D.isAg,go_sem,iL];rw[aj (by omega) (by omega)];exact⟨x+1,by omega,by omega,bf.to [] (by simp only[go_sem];rfl) rfl (by simp[BP]) (by rfl) (by simp only[an,go_sem]<;>simp)⟩
   ·obtain rfl:x=i:=by omega
    simp+contextual-implicitDefEqProofs only[hx,hp,o6,D.sub,D.isAg,go_sem,iL];rw[aj (by omega) (by omega)];refine⟨k+1,by omega,by omega,?_⟩;refine bf.trans (bf.del _ 22) (bf.trans (bf.renA _ 61 22 [6] (l:=x) (by rfl) (by rfl) (by simp;rfl)) ?_);exact bf.to [] (by simp only[go_sem,lC,lN];rfl) rfl (by simp[CF]) (by rfl) (by simp only[an,go_sem]<;>simp)
  ·obtain rfl:k=w.2.2.length:=by omega
   simp+contextual-implicitDefEqProofs only[hk,o6,D.sub,bE,D.isAg,go_sem,iL,lM];exact dJ.symm
mutual

def bO:Ex→List Ex→List Ex
 |.mk k n nn ks,acc=>if k=1 then acc else if k=6 then fj ks acc else if acc.any (fun x=>qE x (.mk k n nn ks))=true then acc else acc++[.mk k n nn ks]
def fj:List Ex→List Ex→List Ex
 | [],acc=>acc
 |e::es,acc=>fj es (bO e acc)
end
mutual
theorem mn:∀(e:Ex)(acc:List Ex),(bO e acc).length≤acc.length+au e
 |.mk k n nn ks,acc=>by
  rw[aM,bO];have:=tE ks acc
  split<;>(try split)<;>(try split)<;>(try rw[lP,lK,lZ])<;>omega
theorem tE:∀(es:List Ex)(acc:List Ex),(fj es acc).length≤acc.length+aJ es
 | [],acc=>by simp[fj]
 |e::es,acc=>by
  have h1:=mn e acc;have h2:=tE es (bO e acc);simp only[fj,aJ];omega
end
theorem bQ{g0:Int×Int}{n:Int}{nn:Option Bool}{ks:List Ex}{k:Int}(hk:k=6∨k=7)(h:aD g0 (.mk k n nn ks)=true):∃a b,ks=[a,b]∧aD g0 a=true∧aD g0 b=true:=by
 rw[cx,bA,aR,bA]at h;obtain⟨⟨h1,_⟩,h2⟩:=h;have h3:ks.length=2:=by rcases hk with rfl|rfl<;>simp[cN]at h1<;>omega
 match ks,h3 with
 | [a,b],_=>
  simp only[List.all_cons,List.all_nil,bU,bA]at h2;exact⟨a,b,rfl,h2.1,h2.2⟩

def gw(g f1:Nat):RC:=(.seq (.seq (.r [.m 5 0,.n 6 5,.f 7 0 6,.l 8 1 7]) (.blk 0 (.seq (.r [.q 10 8 1,.m 9 10]) (.cond (.t 9) .ret (.seq (.r [.q 12 8 6,.m 11 12]) (.cond (.t 11) (.seq (.r [.m 13 0,.n 14 13,.f 15 2 14,.l 16 1 15,.i 17 3 16 0,.m 18 1,.o (.lcl (some 19) g [.t 17,.t 18])]) (.seq (.r [.m 20 0,.n 21 20,.f 22 2 21,.l 23 1 22,.i 24 3 23 1,.m 25 1,.o (.lcl (some 26) g [.t 24,.t 25])]) .ret)) .skip)))))) (.seq (.seq (.r [.v 4 (.ci 0)]) (.blk 1 (.loop (.seq (.seq (.r [.m 27 4,.m 28 1,.n 29 28,.l 30 1 29,.o (.len 31 (.t 30)),.o (.bin 32 .lss (.t 27) (.t 31))]) (.cond (.t 32) .skip (.exit 1))) (.seq (.blk 2 (.seq (.r [.m 35 1,.n 36 35,.l 37 1 36,.m 38 4,.o (.ia 39 3 (.t 37) (.t 38)),.m 40 0,.c 41 f1 [.t 39,.t 40]]) (.cond (.t 41) .ret .skip))) (.r [.m 33 4,.o (.bin 34 .add (.t 33) (.ci 1)),.m 4 34])))))) (.regT [.m 42 1,.n 43 42,.l 44 1 43,.m 45 0,.n 46 45,.L 47 3 46,.o (.len 48 (.t 44)),.o (.bs 49 3 .ze 1 [(0,(.c .ze))])] (.br [] [(.o (.aps 50 3 40 (.t 44) (.t 49)),(.br [] [(.o (.ia 51 3 (.t 50) (.t 48)),(.br [] [(.o (.stp 3 (.t 51) (.t 47)),(.br [] [(.n 52 42,(.br [] [(.o (.stp 1 (.t 52) (.t 50)),(.br [] []))]))])),(.n 52 42,(.br [] [(.o (.stp 3 (.t 51) (.t 47)),(.br [] [(.o (.stp 1 (.t 52) (.t 50)),(.br [] []))])),(.o (.stp 1 (.t 52) (.t 50)),(.br [] [(.o (.stp 3 (.t 51) (.t 47)),(.br [] []))]))]))])),(.n 52 42,(.br [] [(.o (.ia 51 3 (.t 50) (.t 48)),(.br [] [(.o (.stp 3 (.t 51) (.t 47)),(.br [] [(.o (.stp 1 (.t 52) (.t 50)),(.br [] []))])),(.o (.stp 1 (.t 52) (.t 50)),(.br [] [(.o (.stp 3 (.t 51) (.t 47)),(.br [] []))]))])),(.o (.stp 1 (.t 52) (.t 50)),(.br [] [(.o (.ia 51 3 (.t 50) (.t 48)),(.br [] [(.o (.stp 3 (.t 51) (.t 47)),(.br [] []))]))]))]))]))]))))
def kQ(P:Program)(fno:Nat):Prop:=∀(g0:Int×Int)(e:Ex),aD g0 e=true→∀acc:List Ex,acc.length+au e≤1000000→Fj P fno false 3 [.pt (eE e) 0] (acc.map eE) ((bO e acc).map eE)
theorem xu{P:Program}(hm:P.follows .mixedOrders=true){g f1:Nat}(hr:fc P .sh g=some (53,gw g f1,[]))(hc1:lL P f1):kQ P g:=by
 intro g0 e;have key:∀N:Nat,∀e:Ex,au e≤N→aD g0 e=true→∀acc:List Ex,acc.length+au e≤1000000→Fj P g false 3 [.pt (eE e) 0] (acc.map eE) ((bO e acc).map eE):=by
  intro N
  induction N with
  |zero=>intro e hz;obtain⟨k,n,nn,ks,rfl⟩:=Ex.ex e;rw[aM]at hz;omega
  |succ N ih=>
   intro e hz hT acc hl;obtain⟨k,n,nn,ks,rfl⟩:=Ex.ex e;refine nC hr hm rfl fun _ _ _=>?_
   by_cases h1:k=1
   ·subst h1;simp+contextual-implicitDefEqProofs only[gw,bc,lC,lN,Nat.zero_add,Nat.add_zero,bE,D.size,D.sizeL,aI,ak,List.getD_cons_zero,lM,go_sem];rw[bO,if_pos rfl];exact gq 3000000001 (by simp[lu]) (by rfl)
   by_cases h6:k=6
   ·subst h6;obtain⟨a,b,rfl,hTa,hTb⟩:=bQ (.inl rfl) hT;rw[aM]at hz hl;simp only[aJ]at hz hl;have hla:=mn a acc;simp+contextual-implicitDefEqProofs only[gw,bc,lC,lN,Nat.zero_add,Nat.add_zero,lK,lZ,Int.cast_ofNat_Int,Int.reduceLT,Int.le_refl,Int.reduceBEq,bE,D.size,D.sizeL,aI,ak,List.getD_cons_zero,List.getD_cons_succ,lM,go_sem];have hl1:(List.map eE (bO a acc)).length=(bO a acc).length:=List.length_map _;refine yT [.im none (.pt (eE a) 0)] 3000000000 3000000001 (by rfl) (by rfl) (by rfl) ⟨by decide,(List.length_map _).symm,.inl rfl⟩ (by rfl) (by rfl) (ih a (by omega) hTa acc (by omega)) ?_;simp+contextual-implicitDefEqProofs only[hl1,Bool.or_false,Bool.or_self,Nat.zero_add,Nat.add_zero,lK,lZ,Int.cast_ofNat_Int,Int.reduceLT,Int.reduceLE,bE,Int.reduceToNat,D.size,D.sizeL,aI,ak,List.getD_cons_zero,List.getD_cons_succ,go_sem];refine yT [.im none (.pt (eE b) 0)] 3000000000 3000000001 (by rfl) (by rfl) (by rfl) ⟨by decide,(List.length_map _).symm,.inl rfl⟩ (by rfl) (by rfl) (ih b (by omega) hTb (bO a acc) (by omega)) ?_;simp+contextual-implicitDefEqProofs only[Bool.or_false,Bool.or_self,bE,lM,go_sem];rw[bO,if_neg (by decide),if_pos rfl];simp only[fj];exact gq 3000000001 (by simp[lu]) (by rfl)
   have b1:(k==1)=false:=beq_false_of_ne h1;have b6:(k==6)=false:=beq_false_of_ne h6;rw[bO,if_neg h1,if_neg h6];generalize he:Ex.mk k n nn ks=e at*;have heE:eE e=.ag [eI k,eI n,.ls nn 3 (ks.map eE)]:=by rw[←he,bc];rfl
   simp only[Hs,lC,lN,heE];simp+contextual-implicitDefEqProofs only[gw,b1,b6,eI,Nat.zero_add,Nat.add_zero,D.size,D.sizeL,aI,ak,List.getD_cons_zero,lM,go_sem];refine bB (α:=Nat) [4,27,28,29,30,31,32,33,34,35,36,37,38,39,40,41] (fun i=>[(4,.im none (.sc (.int .i64 i)))]) (fun i=>[(3000000000,.bx 1 [.sm 3000000001 0 acc.length]),(3000000001,.ar false (some false) 3 (acc.map eE))]) (fun i=>i≤acc.length∧∀j (h:j<acc.length),j<i→qE acc[j] e=false) (fun i=>acc.length-i) 0 (bf.to [] (by simp only[go_sem];rfl) rfl (by simp) (by rfl) (by simp only[an,go_sem,keep,cH]<;>simp)) ⟨Nat.zero_le _,fun j _ h=>absurd h (Nat.not_lt_zero j)⟩ ?_;rintro i ⟨hi0,hj0⟩
   by_cases hi:i<acc.length
   ·have ai:D.at (acc.map eE) i=eE acc[i]:=bP hi;simp+contextual-implicitDefEqProofs only[hi,lC,lN,Int.toNat_natCast,Nat.zero_add,go_sem,iL,iN];refine aa (ds:=[.pt (eE acc[i]) 0,.pt (eE e) 0]) (by show some [D.pt (D.at (acc.map eE) i) 0,D.pt (D.ag [eI k,eI n,.ls nn 3 (ks.map eE)]) 0]=_;rw[ai,heE]) (hc1 acc[i] e) ?_;cases hq:qE acc[i] e with
    |true=>
     have hany:acc.any (fun x=>qE x e)=true:=List.any_eq_true.2 ⟨_,List.getElem_mem hi,hq⟩;rw[if_pos hany];simp+contextual-implicitDefEqProofs only[eB,go_sem];exact gq 3000000001 (by simp[lu]) (by rfl)
    |false=>
     simp+contextual-implicitDefEqProofs only[eB,go_sem];refine⟨i+1,⟨by omega,fun j h hj=>?_⟩,by omega,?_⟩
     ·by_cases e1:j=i
      ·subst e1;exact hq
      ·exact hj0 j h (by omega)
     rw[aj (by omega) (by omega)];exact bf.to [] (by simp only[go_sem];rfl) rfl (by simp) (by rfl) (by simp only[an,go_sem]<;>simp)
   ·obtain rfl:i=acc.length:=by omega
    have hany:acc.any (fun x=>qE x e)=false:=by
     rw[List.any_eq_false];intro x hx;obtain⟨j,h,rfl⟩:=List.getElem_of_mem hx;rw[hj0 j h h];simp
    rw[hany];simp+contextual-implicitDefEqProofs only[Int.lt_irrefl,List.any_cons,List.any_nil,Bool.or_self,D.put,lC,lN,Int.toNat_natCast,Nat.zero_add,Nat.add_zero,lK,lZ,bE,D.size,D.sizeL,bg,ak,List.drop_zero,List.take_succ_cons,List.take_zero,aq,lM,go_sem,Nat.reduceMul,iL,iN];have hset:∀z:D,(List.map eE acc++[z]).set acc.length (.ag [eI k,eI n,.ls nn 3 (ks.map eE)])=List.map eE (acc++[e]):=by
     intro z;rw[List.map_append,lC,lN,heE,List.set_append_right _ _ (by simp)];simp
    simp only[eI]at hset;refine⟨rfl,⟨by omega,by unfold aT;omega,by simp[D.size,D.sizeL]⟩,?_⟩
    repeat' apply And.intro
    all_goals first
     |exact gq 3000000001 (by simp[lu]) (by simp only[lu,Nat.reduceEqDiff,↓reduceIte,hset])
     |(rw[lP,lM];exact Nat.lt_succ_self _)
     |omega
 exact fun hT acc hl=>key _ e (Nat.le_refl _) hT acc hl

def GW(a b:Ex):Bool:=Op.bytesLess (bK a).toList (bK b).toList
def ko(x:Ex):List Ex→List Ex
 | []=>[x]
 |y::ys=>if GW y x=true then y::ko x ys else x::y::ys

def mu(x:Ex):List Ex→Nat
 | []=>0
 |y::ys=>if GW y x=true then mu x ys+1 else 0
theorem Bg{x:Ex}:∀{l:List Ex},mu x l≤l.length
 | []=>by simp[mu]
 |y::ys=>by
  have:=Bg (x:=x) (l:=ys);simp only[mu]
  split<;>simp<;>omega
theorem oo{x:Ex}:∀{l:List Ex},ko x l=l.take (mu x l)++[x]++l.drop (mu x l)
 | []=>by simp[ko]
 |y::ys=>by
  simp only[ko,mu]
  split
  ·rw[oo];simp
  ·simp
theorem wb{x:Ex}:∀{l:List Ex} {p:Nat},p≤l.length→(∀j (h:j<l.length),j<p→GW l[j] x=true)→(∀h:p<l.length,GW l[p] x=false)→mu x l=p
 | [],p,h,_,_=>by simp at h;simp[mu,h]
 |y::ys,0,_,_,h3=>by
  have:=h3 (by simp);simp only[List.getElem_cons_zero]at this;simp[mu,this]
 |y::ys,p+1,h1,h2,h3=>by
  have h0:=h2 0 (by simp) (by omega);simp only[List.getElem_cons_zero]at h0;rw[mu,if_pos h0,wb (l:=ys) (p:=p) (by simpa using h1) (fun j h hj=>by have:=h2 (j+1) (by simpa using h) (by omega);simpa using this) (fun h=>by have:=h3 (by simpa using h);simpa using this)]
def d9(l:List Ex):List Ex:=l.foldl (fun acc x=>ko x acc) []
theorem Eh{x:Ex}{l:List Ex}:(ko x l).length=l.length+1:=by
 have:=Bg (x:=x) (l:=l);rw[oo];simp;omega
theorem zM{l:List Ex}{i:Nat}(h:i<l.length):d9 (l.take (i+1))=ko l[i] (d9 (l.take i)):=by
 rw[List.take_succ_eq_append_getElem h,d9,List.foldl_append]
 rfl
theorem uG{l:List Ex}:(d9 l).length=l.length:=by
 have:∀(l acc:List Ex),(l.foldl (fun acc x=>ko x acc) acc).length=acc.length+l.length:=by
  intro l
  induction l with
  |nil=>simp
  |cons x l ih=>intro acc;rw[List.foldl_cons,ih,Eh];simp;omega
 rw[d9,this];simp
def rP(l:List Ex):List D:=l.map fun e=>eT (bK e)
def mB(l:List Ex):List D:=l.map eE
theorem lX{l:List Ex}:(rP l).length=l.length:=by simp[rP]
theorem fU{l:List Ex}:(mB l).length=l.length:=by simp[mB]
theorem Gu{x:Ex}{l:List Ex}:rP (ko x l)=(rP l).take (mu x l)++[eT (bK x)]++(rP l).drop (mu x l):=by rw[oo];simp[rP]
theorem Gn{x:Ex}{l:List Ex}:mB (ko x l)=(mB l).take (mu x l)++[eE x]++(mB l).drop (mu x l):=by rw[oo];simp[mB]
theorem Dh{l:List Ex}{i:Nat}(h:i<l.length):D.at (rP l) i=eT (bK l[i]):=bP h
theorem Ao{l:List Ex}{i:Nat}(h:i<l.length):D.at (mB l) i=eE l[i]:=bP h
theorem oJ{l:List Ex}:∀e∈rP l,e.size=1:=by intro e he;obtain⟨x,_,rfl⟩:=List.mem_map.1 he;rfl
theorem nU{l:List Ex}:∀e∈mB l,e.size=3:=by intro e he;obtain⟨x,_,rfl⟩:=List.mem_map.1 he;exact aC x

def qf(f1:Nat):RC:=(.seq (.r [.o (.mv 2 (.c (.ls (some true) 3 [])))]) (.seq (.r [⟨none,.bs 10 1 (.sc (.string ⟨#[]⟩)) 0 []⟩,.m 3 10]) (.seq (.r [.o (.bs 11 3 .ze 0 []),.m 4 11]) (.seq (.seq (.r [.v 5 (.ci 0)]) (.blk 0 (.loop (.seq (.seq (.r [.m 12 5,.m 13 0,.o (.len 14 (.t 13)),.o (.bin 15 .lss (.t 12) (.t 14))]) (.cond (.t 15) .skip (.exit 0))) (.seq (.blk 1 (.seq (.r [.m 18 0,.m 19 5,.o (.ia 20 3 (.t 18) (.t 19)),.c 21 f1 [.t 20],.m 6 21]) (.seq (.r [.v 7 (.ci 0)]) (.seq (.blk 2 (.loop (.seq (.seq (.r [.m 22 7,.m 23 3,.o (.len 24 (.t 23)),.o (.bin 25 .lss (.t 22) (.t 24)),.m 26 25,.wm 26 27 3,.wm 26 28 7,.w 26 (.ia 29 1 (.t 27) (.t 28)),.w 26 (.ld 30 false 1 (.t 29)),.wm 26 31 6,.w 26 (.bin 32 .lss (.t 30) (.t 31)),.k 33 26 32]) (.cond (.t 33) .skip (.exit 2))) (.blk 3 (.r [.m 34 7,.o (.bin 35 .add (.t 34) (.ci 1)),.m 7 35]))))) (.seq (.r [⟨none,.bs 36 1 (.sc (.string ⟨#[]⟩)) 0 []⟩,.m 37 3,.m 38 7,.o (.slc 39 1 (.t 37) (some (.t 38)) none),.o (.aps 40 1 16 (.t 36) (.t 39)),.m 8 40]) (.seq (.r [.o (.bs 41 3 .ze 0 []),.m 42 4,.m 43 7,.o (.slc 44 3 (.t 42) (some (.t 43)) none),.o (.aps 45 3 40 (.t 41) (.t 44)),.m 9 45]) (.seq (.r [.m 46 3,.m 47 7,.o (.slc 48 1 (.t 46) none (some (.t 47))),.m 49 6,⟨none,.bs 50 1 (.sc (.string ⟨#[]⟩)) 1 [(0,(.t 49))]⟩,.o (.aps 51 1 16 (.t 48) (.t 50)),.m 52 8,.o (.aps 53 1 16 (.t 51) (.t 52)),.m 3 53]) (.reg true [.m 54 4,.m 55 7,.o (.slc 56 3 (.t 54) none (some (.t 55))),.m 57 0,.m 58 5,.o (.ia 59 3 (.t 57) (.t 58)),.L 60 3 59,.o (.bs 61 3 .ze 1 [(0,(.t 60))]),.m 63 9,.o (.aps 62 3 40 (.t 56) (.t 61)),.o (.aps 64 3 40 (.t 62) (.t 63)),.m 4 64])))))))) (.r [.m 16 5,.o (.bin 17 .add (.t 16) (.ci 1)),.m 5 17])))))) (.seq (.r [.m 65 4,.m 2 65]) .ret)))))
def qk(P:Program)(fno:Nat):Prop:=∀(g0:Int×Int)(_:fH g0=true)(nn:Option Bool)(l:List Ex)(_:∀e∈l,aD g0 e=true∧(bK e).size≤1000000000),l.length≤1000000→AF P fno [.ls nn 3 (mB l)] (.sh (.ls (some false) 3 (mB (d9 l))))
theorem B9{P:Program}(hm:P.follows .mixedOrders=true){g f1:Nat}(hr:fc P .sh g=some (66,qf f1,[.t 2]))(hc1:qj P f1):qk P g:=by
 intro g0 hg nn l hT hl;refine uc hr hm rfl fun hb=>?_;simp(maxSteps:=5000000)+contextual-implicitDefEqProofs only[qf,lN,Nat.zero_add,List.append_nil,go_sem];refine bB (α:=Nat) [3,4,5,6,7,8,9,10,11,12,13,14,15,16,17,18,19,20,21,22,23,24,25,26,27,28,29,30,31,32,33,34,35,36,37,38,39,41,42,43,44,46,47,48,49,50,52,54,55,56,57,58,59,60,61,63] (fun i=>[(5,.im none (.sc (.int .i64 i))),(3,.sm 10 0 i),(4,.sm 11 0 i)]) (fun i=>[(10,.ar false (some false) 1 (rP (d9 (l.take i)))),(11,.ar false (some false) 3 (mB (d9 (l.take i))))]) (fun i=>i≤l.length) (fun i=>l.length-i) 0 (bf.trans (bf.sha _ 10 (by rfl)) (bf.trans (bf.sha _ 11 (by rfl)) (bf.to [] (by simp only[go_sem];rfl) rfl (by simp[d9,rP,mB]) (by rfl) (by simp only[an,go_sem,keep,cH]<;>simp)))) (Nat.zero_le _) ?_;intro i hi0;have hal:(d9 (l.take i)).length=i:=by rw[uG,List.length_take];omega
 by_cases hi:i<l.length
 ·have ai:D.at (mB l) i=eE l[i]:=Ao hi;obtain⟨hx1,hx2⟩:=hT l[i] (List.getElem_mem hi);have htk:=zM hi;generalize l[i]=x at ai hx1 hx2 htk;generalize hacc:d9 (l.take i)=acc at hal htk⊢;simp(maxSteps:=5000000)+contextual-implicitDefEqProofs only[hi,ai,fU,lC,lN,Int.toNat_natCast,go_sem,iL,iN];refine aa (ds:=[.pt (eE x) 0]) (by rfl) (hc1 g0 hg x hx1 hx2) ?_;simp(maxSteps:=5000000)+contextual-implicitDefEqProofs only[eT,go_sem];refine bB (α:=Nat) [7,22,23,24,25,26,27,28,29,30,31,32,33,34,35] (fun p=>[(7,.im none (.sc (.int .i64 p)))]) (fun p=>[(10,.ar false (some false) 1 (rP acc)),(11,.ar false (some false) 3 (mB acc))]) (fun p=>p≤i∧∀j (h:j<acc.length),j<p→GW acc[j] x=true) (fun p=>i-p) 0 (bf.to [] (by simp only[go_sem];rfl) rfl (by simp) (by rfl) (by simp only[an,go_sem,keep,cH]<;>simp)) ⟨Nat.zero_le _,fun j _ h=>absurd h (Nat.not_lt_zero j)⟩ ?_;rintro p ⟨hp0,hp1⟩;have hstop:(∃hp:p<acc.length,GW acc[p] x=true)∨(mu x acc=p∧∀hp:p<acc.length,GW acc[p] x=false):=by
   by_cases hp:p<acc.length
   ·cases hq:GW acc[p] x with
    |true=>exact .inl ⟨hp,hq⟩
    |false=>exact .inr ⟨wb (by omega) hp1 fun _=>hq,fun _=>hq⟩
   ·exact .inr ⟨wb (by omega) hp1 fun h=>absurd h hp,fun h=>absurd h hp⟩
  rcases hstop with⟨hp,hlt⟩|⟨hpos,hlt⟩
  ·have ap:D.at (rP acc) p=eT (bK acc[p]):=Dh hp;have hpi:p<i:=by omega
   have hb1:Op.bytesLess (bK acc[p]).toList (bK x).toList=true:=hlt;simp(maxSteps:=5000000)+contextual-implicitDefEqProofs only[hpi,ap,hb1,hal,eT,Int.toNat_natCast,Nat.zero_add,f9,eJ,go_sem,iL,iN];refine⟨p+1,⟨by omega,fun j h hj=>?_⟩,by omega,?_⟩
   ·by_cases e1:j=p
    ·subst e1;exact hlt
    ·exact hp1 j (by omega) (by omega)
   rw[aj (by omega) (by omega)];exact bf.to [] (by simp only[go_sem];rfl) rfl (by simp) (by rfl) (by simp only[an,go_sem]<;>simp)
  ·obtain⟨xk,xn,xnn,xks,hxe⟩:=Ex.ex x;have hX:eE x=.ag [eI xk,eI xn,.ls xnn 3 (xks.map eE)]:=by rw[hxe,bc];rfl
   have e1:List.take (i-p) (List.drop p (rP acc))=List.drop p (rP acc):=List.take_of_length_le (by rw[List.length_drop,lX];omega);have e2:List.take (i-p) (List.drop p (mB acc))=List.drop p (mB acc):=List.take_of_length_le (by rw[List.length_drop,fU];omega);have l1:(List.drop p (rP acc)).length=i-p:=by rw[List.length_drop,lX];omega
   have l2:(List.drop p (mB acc)).length=i-p:=by rw[List.length_drop,fU];omega
   have c1:(if p=i then rP acc else List.take p (rP acc))=List.take p (rP acc):=by
    split
    ·exact(List.take_of_length_le (by rw[lX];omega)).symm
    ·rfl
   have c2:(if p=i then mB acc else List.take p (mB acc))=List.take p (mB acc):=by
    split
    ·exact(List.take_of_length_le (by rw[fU];omega)).symm
    ·rfl
   have l3:∀d:D,(List.take p (rP acc)++[d]).length=p+1:=fun d=>by rw[lP,List.length_take,lX];simp;omega
   have l4:∀d:D,(List.take p (mB acc)++[d]).length=p+1:=fun d=>by rw[lP,List.length_take,fU];simp;omega
   have hpl:(p:Int)≤(i:Int):=by omega
   have hq1:rP (d9 (l.take (i+1)))=List.take p (rP acc)++[eT (bK x)]++List.drop p (rP acc):=by rw[htk,Gu,hpos]
   have hq2:mB (d9 (l.take (i+1)))=List.take p (mB acc)++[eE x]++List.drop p (mB acc):=by rw[htk,Gn,hpos]
   rw[hX]at hq2;simp only[eT,eI]at hq1 hq2;have n1:ba (some false) (List.drop p (rP acc))=some false:=vn;have n2:ba (some false) (List.drop p (mB acc))=some false:=vn;unfold ba at n1 n2
   by_cases hpi:p<i
   ·have hp:p<acc.length:=by omega
    have ap:D.at (rP acc) p=eT (bK acc[p]):=Dh hp;have hb1:Op.bytesLess (bK acc[p]).toList (bK x).toList=false:=hlt hp;simp(maxSteps:=5000000)+contextual-implicitDefEqProofs only[e1,e2,l1,l2,l3,l4,c1,c2,hpl,ite_self,ai,hX,List.any_cons,List.any_nil,n1,n2,hpi,ap,hb1,lX,fU,hal,Bool.or_false,Bool.or_self,eI,eT,lC,lN,Int.toNat_natCast,Nat.zero_add,Nat.add_zero,lK,lZ,Int.le_refl,bE,D.size,D.sizeL,bg,f9,ak,eJ,List.drop_zero,List.take_succ_cons,List.take_zero,go_sem,Nat.reduceMul,iL,iN];refine⟨⟨by omega,by unfold aT;omega,fun e he=>oJ e (List.mem_of_mem_drop he)⟩,⟨by omega,by unfold aT;omega,fun e he=>nU e (List.mem_of_mem_drop he)⟩,rfl,⟨by omega,by unfold aT;omega,by simp[D.size]⟩,
     ⟨by omega,by unfold aT;omega,fun e he=>oJ e (List.mem_of_mem_drop he)⟩,hi,rfl,⟨by omega,by unfold aT;omega,by simp[D.size,D.sizeL]⟩,⟨by omega,by unfold aT;omega,fun e he=>nU e (List.mem_of_mem_drop he)⟩,i+1,by omega,by omega,?_⟩
    rw[aj (by omega) (by omega),hq1,hq2,show p+1+(i-p)=i+1 by omega];exact bf.to [36,41] (by simp only[go_sem];rfl) rfl (by simp) (by rfl) (by simp only[an,go_sem]<;>simp)
   ·have hpe:p=i:=by omega
    have c3:(if p=i then True else False)=True:=by simp[hpe]
    simp(maxSteps:=5000000)+contextual-implicitDefEqProofs only[c3,e1,e2,l1,l2,l3,l4,c1,c2,hpl,ai,hX,List.any_cons,List.any_nil,n1,n2,hpi,lX,fU,hal,Bool.or_false,Bool.or_self,eI,lC,lN,Int.toNat_natCast,Nat.zero_add,Nat.add_zero,lK,lZ,Int.le_refl,bE,D.size,D.sizeL,bg,ak,List.drop_zero,List.take_succ_cons,List.take_zero,go_sem,Nat.reduceMul,iL,iN];refine⟨⟨by omega,by unfold aT;omega,fun e he=>oJ e (List.mem_of_mem_drop he)⟩,⟨by omega,by unfold aT;omega,fun e he=>nU e (List.mem_of_mem_drop he)⟩,rfl,⟨by omega,by unfold aT;omega,by simp[D.size]⟩,
     ⟨by omega,by unfold aT;omega,fun e he=>oJ e (List.mem_of_mem_drop he)⟩,hi,rfl,⟨by omega,by unfold aT;omega,by simp[D.size,D.sizeL]⟩,⟨by omega,by unfold aT;omega,fun e he=>nU e (List.mem_of_mem_drop he)⟩,i+1,by omega,by omega,?_⟩
    rw[aj (by omega) (by omega),hq1,hq2,show p+1+(i-p)=i+1 by omega];exact bf.to [36,41] (by simp only[go_sem];rfl) rfl (by simp) (by rfl) (by simp only[an,go_sem]<;>simp)
 ·obtain rfl:i=l.length:=by omega
  rw[List.take_length]at hal⊢;generalize d9 l=acc at hal⊢;simp(maxSteps:=5000000)+contextual-implicitDefEqProofs only[Int.lt_irrefl,fU,go_sem];refine⟨_,bf.frz _ 11 (u:=.ar false (some false) 3 (mB acc)) (by rfl) rfl,?_⟩;simp(maxSteps:=5000000)+contextual-implicitDefEqProofs only[fU,hal,go_sem]
theorem cA{g:Int×Int}{k n:Int}{nn:Option Bool}{ks:List Ex}(h:aD g (.mk k n nn ks)=true):∀x∈ks,aD g x=true:=by
 rw[cx,bA]at h;exact List.all_eq_true.1 h.2
theorem dt{g:Int×Int}{k n:Int}{nn:Option Bool}{ks:List Ex}(h:aD g (.mk k n nn ks)=true):aR g k n ks=true:=by
 rw[cx,bA]at h;exact h.1
theorem lq{g:Int×Int}(hg:fH g=true)(e:Ex):aD g e=true→rH e:=by
 refine Ex.ind (p:=fun e=>aD g e=true→rH e) (fun k n nn ks ih h=>?_) e;have hk:=cA h;rw[mh];refine⟨?_,fun x hx=>ih x hx (hk x hx)⟩;rcases x5 hg (dt h)with⟨_,rfl⟩|⟨_,rfl⟩|⟨_,rfl,_⟩|⟨_,rfl,_⟩|⟨_,a,rfl⟩|⟨_,a,b,rfl⟩|⟨_,a,b,rfl⟩|⟨_,a,rfl⟩<;>simp
theorem Cb{g:Int×Int}(hg:fH g=true)(e:Ex):aD g e=true→(bK e).size≤6*au e:=by
 refine Ex.ind (p:=fun e=>aD g e=true→(bK e).size≤6*au e) (fun k n nn ks ih h=>?_) e;have hk:=cA h;rw[xF,aM];have s1:∀a:UInt8,(⟨#[a]⟩:ByteArray).size=1:=fun _=>rfl;have s3:∀a b c:UInt8,(⟨#[a,b,c]⟩:ByteArray).size=3:=fun _ _ _=>rfl;rcases x5 hg (dt h)with⟨rfl,rfl⟩|⟨rfl,rfl⟩|⟨rfl,rfl,m,rfl,_⟩|⟨rfl,rfl,m,rfl,_⟩|⟨rfl,a,rfl⟩|⟨rfl,a,b,rfl⟩|⟨rfl,a,b,rfl⟩|⟨rfl,a,rfl⟩
 ·rw[show bV 1 n ([].map bK)=⟨#[48]⟩by simp[bV],s1];omega
 ·rw[show bV 2 n ([].map bK)=⟨#[49]⟩by simp[bV],s1];omega
 ·rw[show bV 3 m ([].map bK)=⟨#[116]⟩++nZ m by simp[bV],ByteArray.size_append,s1];have:=mi (n:=m);omega
 ·rw[show bV 4 m ([].map bK)=⟨#[97]⟩++nZ m by simp[bV],ByteArray.size_append,s1];have:=mi (n:=m);omega
 ·rw[show bV 5 n ([a].map bK)=⟨#[126]⟩++bK a by simp[bV],ByteArray.size_append,s1];have:=ih a (by simp) (hk a (by simp));simp only[aJ];omega
 ·rw[show bV 6 n ([a,b].map bK)=⟨#[40]⟩++bK a++⟨#[32,43,32]⟩++bK b++⟨#[41]⟩by simp[bV]];have h1:=ih a (by simp) (hk a (by simp));have h2:=ih b (by simp) (hk b (by simp));simp only[ByteArray.size_append,s1,s3,aJ];omega
 ·rw[show bV 7 n ([a,b].map bK)=⟨#[40]⟩++bK a++⟨#[32]⟩++bK b++⟨#[41]⟩by simp[bV]];have h1:=ih a (by simp) (hk a (by simp));have h2:=ih b (by simp) (hk b (by simp));simp only[ByteArray.size_append,s1,aJ];omega
 ·rw[show bV 8 n ([a].map bK)=bK a++⟨#[42]⟩by simp[bV],ByteArray.size_append,s1];have:=ih a (by simp) (hk a (by simp));simp only[aJ];omega
mutual
theorem iV{g:Int×Int}:∀(e:Ex)(acc:List Ex),aD g e=true→∀x∈bO e acc,x∈acc∨(aD g x=true∧au x≤au e)
 |.mk k n nn ks,acc,h,x,hx=>by
  rw[bO]at hx
  split at hx
  ·exact .inl hx
  ·split at hx
   ·rcases tz ks acc (cA h) x hx with h1|h1
    ·exact .inl h1
    ·rw[aM];exact .inr ⟨h1.1,by omega⟩
   ·split at hx
    ·exact .inl hx
    ·rcases List.mem_append.1 hx with h1|h1
     ·exact .inl h1
     ·rw[List.mem_singleton]at h1;subst h1;exact .inr ⟨h,Nat.le_refl _⟩
theorem tz{g:Int×Int}:∀(es:List Ex)(acc:List Ex),(∀e∈es,aD g e=true)→∀x∈fj es acc,x∈acc∨(aD g x=true∧au x≤aJ es)
 | [],acc,_,x,hx=>.inl (by simpa[fj]using hx)
 |e::es,acc,h,x,hx=>by
  rw[fj]at hx;simp only[aJ];rcases tz es (bO e acc) (fun y hy=>h y (by simp[hy])) x hx with h1|h1
  ·rcases iV e acc (h e (by simp)) x h1 with h2|h2
   ·exact .inl h2
   ·exact .inr ⟨h2.1,by omega⟩
  ·exact .inr ⟨h1.1,by omega⟩
end
theorem yS{x y:Ex}:∀{l:List Ex},y∈ko x l↔y=x∨y∈l
 | []=>by simp[ko]
 |z::l=>by
  rw[ko]
  split
  ·rw[List.mem_cons,yS (l:=l),List.mem_cons];constructor
   ·rintro(h|h|h)<;>simp[h]
   ·rintro(h|h|h)<;>simp[h]
  ·simp
theorem qh{y:Ex}{l:List Ex}:y∈d9 l↔y∈l:=by
 have:∀(l acc:List Ex),y∈l.foldl (fun acc x=>ko x acc) acc↔y∈acc∨y∈l:=by
  intro l
  induction l with
  |nil=>simp
  |cons x l ih=>
   intro acc;rw[List.foldl_cons,ih,yS,List.mem_cons];constructor
   ·rintro((h|h)|h)<;>simp[h]
   ·rintro(h|h|h)<;>simp[h]
 rw[d9,this];simp

def fY:List Ex→Ex
 | []=>.mk 1 0 (some true) []
 |x::xs=>xs.foldl (fun acc y=>.mk 6 0 (some false) [acc,jw y]) (jw x)
def zo(a b:Ex):Ex:=fY (d9 (bO b (bO a [])))
theorem AG{l:List Ex}{i:Nat}(h0:1≤i)(h:i<l.length):fY (l.take (i+1))=.mk 6 0 (some false) [fY (l.take i),jw l[i]]:=by
 rw[List.take_succ_eq_append_getElem h];cases l with
 |nil=>simp at h
 |cons x xs=>
  obtain⟨j,rfl⟩:∃j,i=j+1:=⟨i-1,by omega⟩;have hj:j<xs.length:=by simpa using h
  simp only[List.take_succ_cons,List.cons_append,fY,List.getElem_cons_succ,List.foldl_append,List.foldl_cons,List.foldl_nil]
theorem qR{k:Int}{a b:Ex}:eE (.mk k 0 (some false) [a,b])=.ag [.sc (.int .i64 k),.sc (.int .i64 0),.ls (some false) 3 [eE a,eE b]]:=by rw[bc];rfl

def tt(f1 f2 f3 f4 f5:Nat):RC:=(.seq (.r [.o (.zer 4 3 .ze)]) (.seq (.r [.o (.bs 8 3 .ze 0 []),.o (.zer 5 1 (.ls (some true) 3 [])),.o (.stp 1 (.t 5) (.t 8))]) (.seq (.r [.m 9 0,.o (.lcl (some 10) f1 [.t 9,.t 5])]) (.seq (.r [.m 11 1,.o (.lcl (some 12) f1 [.t 11,.t 5])]) (.seq (.r [.l 13 1 5,.o (.lcl (some 14) f2 [.t 13]),.o (.stp 1 (.t 5) (.t 14))]) (.seq (.seq (.r [.l 15 1 5,.o (.len 16 (.t 15)),.q 17 16 0]) (.cond (.t 17) (.seq (.r [.c 18 f3 [],.o (.stp 3 (.t 4) (.t 18))]) .ret) .skip)) (.seq (.r [.l 19 1 5,.i 20 3 19 0,.c 21 f4 [.t 20],.o (.zer 6 3 .ze),.o (.stp 3 (.t 6) (.t 21))]) (.seq (.seq (.r [.v 7 (.ci 1)]) (.blk 0 (.loop (.seq (.seq (.r [.m 22 7,.l 23 1 5,.o (.len 24 (.t 23)),.o (.bin 25 .lss (.t 22) (.t 24))]) (.cond (.t 25) .skip (.exit 0))) (.seq (.blk 1 (.reg true [.L 28 3 6,.l 29 1 5,.m 30 7,.o (.ia 31 3 (.t 29) (.t 30)),.c 32 f4 [.t 31],.c 33 f5 [.ci 6,.t 28,.t 32],.o (.stp 3 (.t 6) (.t 33))])) (.r [.m 26 7,.o (.bin 27 .add (.t 26) (.ci 1)),.m 7 27])))))) (.seq (.r [.L 34 3 6,.o (.stp 3 (.t 4) (.t 34))]) .ret)))))))))
def tQ(P:Program)(fno:Nat):Prop:=∀(g0:Int×Int)(_:fH g0=true)(a b:Ex),aD g0 a=true→aD g0 b=true→au a+au b≤100000→AF P fno [.pt (eE a) 0,.pt (eE b) 0] (.own (eE (zo a b)))
theorem Dg{P:Program}(hm:P.follows .mixedOrders=true){g f1 f2 f3 f4 f5:Nat}(hr:fc P .sh g=some (35,tt f1 f2 f3 f4 f5,[.c 4 3 true]))(hc1:kQ P f1)(hc2:qk P f2)(hc3:iW P f3)(hc4:iX P f4)(hc5:ft P f5):tQ P g:=by
 intro g0 hg a b hTa hTb hsz;have hA:=hc1 g0 a hTa [] (by simp;omega);have hl1:=mn a [];have hB:=hc1 g0 b hTb (bO a []) (by simp at hl1;omega);have hl2:=mn b (bO a []);have hmem:∀x∈bO b (bO a []),aD g0 x=true∧au x≤1000000:=by
  intro x hx;rcases iV b _ hTb x hx with h|h
  ·rcases iV a _ hTa x h with h|h
   ·cases h
   ·exact⟨h.1,by omega⟩
  ·exact⟨h.1,by omega⟩
 have hS:=hc2 g0 hg (some false) (bO b (bO a [])) (fun x hx=>⟨(hmem x hx).1,by have:=Cb hg x (hmem x hx).1;have:=(hmem x hx).2;omega⟩) (by simp at hl1;omega);unfold zo;have hmL:∀x∈d9 (bO b (bO a [])),rH x:=fun x hx=>lq hg x (hmem x (qh.1 hx)).1;have hlL:(d9 (bO b (bO a []))).length≤1000000:=by rw[uG];simp at hl1;omega
 generalize d9 (bO b (bO a []))=L at hS hmL hlL⊢;refine mV hr hm rfl fun hb=>?_;simp+contextual-implicitDefEqProofs only[tt,AV.one0,lN,Nat.zero_add,Nat.add_zero,List.append_nil,bE,D.size,D.sizeL,go_sem];have la:(List.map eE (bO a [])).length=(bO a []).length:=List.length_map _;have lb:(List.map eE (bO b (bO a []))).length=(bO b (bO a [])).length:=List.length_map _;refine Er (bf.sha _ 8 (by rfl)) [.im none (.pt (eE a) 0)] 5 8 (by rfl) (by rfl) (by rfl) ⟨by decide,rfl,.inl rfl⟩ (by rfl) (by rfl) hA ?_;simp+contextual-implicitDefEqProofs only[la,Bool.or_false,Bool.or_self,bE,go_sem];refine yT [.im none (.pt (eE b) 0)] 5 8 (by rfl) (by rfl) (by rfl) ⟨by decide,la.symm,.inl rfl⟩ (by rfl) (by rfl) hB ?_;simp+contextual-implicitDefEqProofs only[lb,Bool.or_false,Bool.or_self,rb,cL,AV.one0,bE,go_sem];refine Hm _ (bf.frz _ 8 (u:=.ar false (some false) 3 (mB (bO b (bO a [])))) (by rfl) rfl) ?_;simp+contextual-implicitDefEqProofs only[fU,lC,lN,bE,go_sem];refine aa (ds:=[.ls (some false) 3 (mB (bO b (bO a [])))]) (by rfl) hS ?_;simp+contextual-implicitDefEqProofs only[rb,cL,AV.one0,xN,lC,lN,Int.le_refl,bE,D.size,ed,go_sem];have hl0:(mB L).length=L.length:=fU
 by_cases hL:L=[]
 ·subst hL;have hk0:(((0:Nat):Int)==0)=true:=rfl;simp+contextual-implicitDefEqProofs only[hl0,lZ,Int.cast_ofNat_Int,Int.reduceLT,bE,go_sem];refine aa (ds:=[]) (by rfl) (hc3 ()) ?_;rw[fY,bc];simp+contextual-implicitDefEqProofs only[D.put,lN,Nat.zero_add,Nat.add_zero,lK,lZ,bE,D.size,D.sizeL,bg,ak,List.drop_zero,List.take_succ_cons,List.take_zero,aq,af,go_sem]
 have hLp:0<L.length:=List.length_pos_iff.2 hL;have hk0:((L.length:Int)==0)=false:=by simp;omega
 have a0:D.at (mB L) 0=eE L[0]:=Ao hLp;have hfit:∀(j:Nat)(h:j<L.length),rH L[j]:=fun j h=>hmL _ (List.getElem_mem h);have ht1:fY (L.take 1)=jw L[0]:=by cases L with
  |nil=>exact absurd rfl hL
  |cons x xs=>rfl
 simp+contextual-implicitDefEqProofs only[hl0,hk0,a0,go_sem];refine⟨by omega,aa (ds:=[.pt (eE L[0]) 0]) (by rfl) (hc4 L[0] (hfit 0 hLp)) ?_⟩;simp+contextual-implicitDefEqProofs only[D.put,aC,Nat.zero_add,Nat.add_zero,lK,lZ,bE,D.size,D.sizeL,ak,aq,af,go_sem];refine bB (α:=Nat) [7,22,23,24,25,26,27,28,29,30,31,32,33] (fun i=>[(7,.im none (.sc (.int .i64 i)))]) (fun i=>[(6,.ar true (some false) 3 [eE (fY (L.take i))]),(5,.bx 1 [.im none (.ls (some false) 3 (mB L))]),(4,.ar true (some false) 3 [.ag [.sc (.int .i64 0),.sc (.int .i64 0),.ls (some true) 3 []]])]) (fun i=>1≤i∧i≤L.length) (fun i=>L.length-i) 1 (bf.to [] (by simp only[go_sem];rfl) rfl (by simp[ht1]) (by rfl) (by simp only[an,go_sem,keep,cH]<;>simp)) ⟨Nat.le_refl _,hLp⟩ ?_;rintro i ⟨hi1,hi0⟩
 by_cases hi:i<L.length
 ·have ai:D.at (mB L) i=eE L[i]:=Ao hi;simp+contextual-implicitDefEqProofs only[hi,hl0,ai,rb,cL,AV.one0,lC,lN,cU.sub,aO,Int.toNat_natCast,Nat.zero_add,bE,D.size,ed,go_sem,iL,iN];refine aa (ds:=[.pt (eE L[i]) 0]) (by rfl) (hc4 L[i] (hfit i hi)) ?_;simp+contextual-implicitDefEqProofs only[lC,lN,go_sem];refine dC rfl hc5 (by simp only[AV.aggV,bi,go_sem,bE,Bool.and_self]<;>rfl) (by simp only[AV.aggV,bi,aO,aC,go_sem,bE,Bool.and_self]<;>rfl) ?_;simp+contextual-implicitDefEqProofs only[Bool.or_false,Bool.or_self,D.put,D.cells,lC,lN,cU.sub,aO,Nat.zero_add,Nat.add_zero,List.append_nil,lK,lZ,bE,D.size,D.sizeL,ak,aq,af,go_sem];have hst:=AG hi1 hi;have hst2:eE (fY (L.take (i+1)))=.ag [.sc (.int .i64 6),.sc (.int .i64 0),.ls (some false) 3 [eE (fY (L.take i)),eE (jw L[i])]]:=by rw[hst,qR]
  refine⟨by simp[aC],i+1,⟨by omega,by omega⟩,by omega,?_⟩;rw[aj (by omega) (by omega)];exact bf.to [] (by simp only[go_sem];rfl) rfl (by simp[hst2]) (by rfl) (by simp only[an,go_sem]<;>simp)
 ·obtain rfl:i=L.length:=by omega
  rw[List.take_length];simp+contextual-implicitDefEqProofs only[hl0,Int.lt_irrefl,D.put,rb,cL,AV.one0,cU.sub,aC,aO,Nat.zero_add,lK,lZ,bE,D.size,ak,ed,aq,af,go_sem]
end Go.Ax
