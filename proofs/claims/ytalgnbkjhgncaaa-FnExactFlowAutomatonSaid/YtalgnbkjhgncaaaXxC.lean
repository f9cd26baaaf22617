/- Contracts of functions of the seat, proved over the engine. No condition. -/
import Derived.Test.YtalgnbkjhgncaaaXxB
import Derived.Test.YtalgnbkjhgncaaaXxA
set_option linter.all false
namespace Go.Ax
def LO{α:Type}{sA:α→Int→Int}{cnt:α→Nat}:∀{r:List α} {l:Int},(∀x∈r,∀l,0≤l→l≤1048576→-1≤sA x l∧sA x l≤l)→(∀x∈r,∀l,0≤l→l≤1048576→0≤sA x l→(cnt x:Int)≤8*(l-sA x l))→l≤1048576→0≤vQ sA r l→(gi cnt r:Int)≤8*(l-vQ sA r l)
 | [],l,_,_,_,_=>by simp[gi,vQ]
 |x::r,l,h,hc,hl,h0=>by
  by_cases hn:l<0;rw[mA hn]at h0;omega
  simp only[vQ,al hn]at h0⊢;have hx:=h x (by simp) l (by omega) hl;have ih:=LO (r:=r) (l:=sA x l) (fun y hy=>h y (by simp[hy])) (fun y hy=>hc y (by simp[hy])) (by omega) h0;have hp:0≤sA x l:=by
   by_cases hn:sA x l<0;rw[mA hn]at h0;omega;omega
  have h1:=hc x (by simp) l (by omega) hl hp;simp only[gi];omega
def WS{α:Type}{sA:α→Int→Int}{cnt:α→Nat}{x:SL α}{l:Int}(h:∀y∈x.2,∀l,0≤l→l≤1048576→-1≤sA y l∧sA y l≤l)(hc:∀y∈x.2,∀l,0≤l→l≤1048576→0≤sA y l→(cnt y:Int)≤8*(l-sA y l))(h1:0≤l)(h2:l≤1048576)(h0:0≤AD sA x l):(gi cnt x.2:Int)≤8*(l-AD sA x l):=by
 unfold AD at h0⊢;have kr:uA (l-x.2.length)≤l:=BF (by omega) (by omega);have:=LO (cnt:=cnt) h hc (by omega) h0;omega
structure zg (P:Program) {α:Type} (f:α→D) (s:α→Int→Int) (t:α→α) (mF hF:Nat) where
 H3:α→Int→α
 cnt:α→Nat
 yU:∀x l,0≤l→l≤1048576→0≤s x l→(cnt x:Int)≤8*(l-s x l)
 yV:∀x,cnt (t x)=cnt x
 V5:∀x k,0≤k→k+cnt x≤kL→Cr P mF (f x) k (f (H3 x k)) (k+cnt x)
 V6:∀x k,0≤k→k+cnt x≤kL→AF P hF [f (H3 x k),eI k] (.own (eI (k+cnt x)))
def mG{α:Type}(xs:List α):gi (one (α:=α)) xs=xs.length:=by
 induction xs with
 |nil=>rfl
 |cons x xs ih=>simp only[gi,ih,one,lK];omega
section
variable {P:Program}(hm:P.follows .mixedOrders = true)
def NN{n:Nat}{l:Int}(h0:0≤uA (l-n)):(n:Int)≤8*(l-uA (l-n)):=by
 have:=nT h0;omega
def D8{α:Type}{cnt:α→Nat}{t:α→α}(h:∀x,cnt (t x)=cnt x):∀l:List α,gi cnt (l.map t)=gi cnt l
 | []=>rfl
 |x::r=>by simp only[lC,gi,h,D8 h r]
variable {hF mF:Nat}
def hfI{s:SL Int→Int→Int}{t:SL Int→SL Int}(hs:∀x l,s x l=uA (l-x.2.length))(ht:∀x,t x=(some false,x.2))(rm:gq P mF=some (19,Q3,[.t 4]))(rh:gq P hF=some (21,QS,[.t 4])):zg P (eS 1 eI) s t mF hF where
 H3 x k:=(x.1,pU Xk one x.2 k)
 cnt x:=x.2.length
 yU x l _ _ h:=by rw[hs]at h⊢;exact NN h
 yV x:=by rw[ht]
 V5 x k h0 h1:=by have:=Wa rm x.1 x.2 k h0 (by rw[mG];exact h1);rw[mG]at this;exact this
 V6 x k h0 h1:=by have:=Zw hm rh x.1 x.2 k h0 (by rw[mG];exact h1);rw[mG]at this;exact this
def hfB{s:SL Bool→Int→Int}{t:SL Bool→SL Bool}(hs:∀x l,s x l=uA (l-x.2.length))(ht:∀x,t x=(some false,x.2))(rm:gq P mF=some (21,Qt,[.t 4]))(rh:gq P hF=some (23,TV,[.t 4])):zg P (eS 1 eB) s t mF hF where
 H3 x k:=(x.1,pU XS one x.2 k)
 cnt x:=x.2.length
 yU x l _ _ h:=by rw[hs]at h⊢;exact NN h
 yV x:=by rw[ht]
 V5 x k h0 h1:=by have:=Yh rm x.1 x.2 k h0 (by rw[mG];exact h1);rw[mG]at this;exact this
 V6 x k h0 h1:=by have:=Zn hm rh x.1 x.2 k h0 (by rw[mG];exact h1);rw[mG]at this;exact this
def hfC{α:Type}{f:α→D}{mF' P4 sF tF qF:Nat}(fam:Gr P f sF tF qF)(e:FA f 1 false)(k:zg P f fam.s fam.t mF hF){t':SL α→SL α}(ht:∀x,t' x=(some false,x.2.map fam.t))(rm:gq P mF'=some (19,Ir mF,[.t 4]))(rh:gq P P4=some (21,IK hF,[.t 4])):zg P (eS 1 f) (AD fam.s) t' mF' P4 where
 H3 x i:=(x.1,pU k.H3 k.cnt x.2 i)
 cnt x:=gi k.cnt x.2
 yU x l h1 h2 h:=WS (fun y _=>fam.oh y) (fun y _=>k.yU y) h1 h2 h
 yV x:=by rw[ht];exact D8 k.yV _
 V5 x i h0 h1:=Zy rm e x.1 x.2 i (fun y _=>k.V5 y) h0 h1
 V6 x i h0 h1:=Zm hm rh e x.1 x.2 i (fun y _=>k.V6 y) h0 h1
end
section
variable {P:Program}(hm:P.follows .mixedOrders = true)
end
def sW{α β:Type}{f:α→Nat}{g:β→Nat}{h:α→β}:∀{l:List α},(∀x∈l,g (h x)=f x)→gi g (l.map h)=gi f l
 | [],_=>rfl
 |x::l,hx=>by simp only[lC,gi,hx x (by simp),sW (l:=l) fun y hy=>hx y (by simp[hy])]
def A8(e:Ex):iT e=2+qa e:=by obtain⟨k,n,nn,ks,rfl⟩:=Ex.ex e;rw[wX,t4]
def RP:∀e:Ex,iT (tE e)=iT e:=
 Ex.ind fun k n nn ks ih=>by rw[ya,wX,wX,sW ih]
def Sb:∀(e:Ex)(l:Int),0≤l→l≤1048576→0≤wH e l→(qa e:Int)=2*(l-wH e l):=
 Ex.ind fun k n nn ks ih l h1 h2 h=>by
  have key:∀(ks:List Ex),(∀e∈ks,∀l:Int,0≤l→l≤1048576→0≤wH e l→(qa e:Int)=2*(l-wH e l))→∀m:Int,0≤m→m≤1048576→0≤vQ wH ks m→(gi iT ks:Int)=2*(m-vQ wH ks m)+2*ks.length:=by
   intro ks
   induction ks with
   |nil=>intro _ m _ _ _;simp[gi,vQ]
   |cons x ks ihk=>
    intro hx m m1 m2 m3;have hm:¬m<0:=by omega
    simp only[vQ,al hm]at m3⊢;have l9:=vv x m m1 m2;have h0:0≤wH x m:=by
     refine cN fun hn=>?_;rw[mA (by omega)]at m3;omega
    have e1:=hx x (by simp) m m1 m2 h0;have e2:=ihk (fun e he=>hx e (by simp[he])) (wH x m) h0 (by omega) m3;simp only[gi,A8,lK]
    push_cast
    omega
  rw[Bs]at h⊢;obtain⟨p1,p2⟩:=pL h;simp only[AD]at h p1⊢;have hc:0≤uA (l-ks.length):=by
   refine cN fun hn=>?_;rw[mA (by omega)]at p1;omega
  obtain⟨c1,c2⟩:=nT hc;have:=key ks ih (uA (l-ks.length)) hc (by omega) p1;rw[mV (by omega),t4,this];omega
def Ow(e:Ex):qa (tE e)=qa e:=by
 have:=RP e;rw[A8,A8]at this;omega
set_option maxRecDepth 20000
set_option maxHeartbeats 4000000
variable {n:Int}{g:Int×Int}{ks:List Ex}
def Aw{k:Int}{nn:Option Bool}(h:js g (.mk k n nn ks)=true):∀x∈ks,js g x=true:=by
 rw[qJ,bA]at h;exact aY.1 h.2
def As{k:Int}{nn:Option Bool}(h:js g (.mk k n nn ks)=true):gL g k n ks=true:=by
 rw[qJ,bA]at h;exact h.1
def acQ:List Ex→Ex
 | []=>.mk 1 0 (some true) []
 |x::xs=>xs.foldl (fun acc y=>.mk 6 0 (some false) [acc,PV y]) (PV x)
def agH(a b:Ex):Ex:=acQ (abd (Ll b (Ll a [])))
mutual
def acB:Ex→Ex→Ex
 |.mk k n nn ks,b=>if k=1∨b.k=1 then .mk 1 0 (some true) []else if k=2 then PV b else if b.k=2 then PV (.mk k n nn ks)else if k=7 then Vi ks b else .mk 7 0 (some false) [PV (.mk k n nn ks),PV b]
def Vi:List Ex→Ex→Ex
 | [],b=>b
 |x::xs,b=>acB x (Vi xs b)
end
def adg(a:Ex):Ex:=if j5 a=true then .mk 2 0 (some true) []else if a.k=8 then PV a else .mk 8 0 (some false) [PV a]
mutual
def N9:Ex→Ex
 |.mk k n nn ks=>if k=6 then agH ((u6 ks).getD 0 default) ((u6 ks).getD 1 default)else if k=7 then acB ((u6 ks).getD 0 default) ((u6 ks).getD 1 default)else if k=8 then adg ((u6 ks).getD 0 default)else PV (.mk k n nn ks)
def u6:List Ex→List Ex
 | []=>[]
 |e::es=>N9 e::u6 es
end
variable {i:Nat}
def rn{α:Type}{f:α→D}{l:List α}{d:α}(h:i<l.length):D.at (l.map f) i=f (l.getD i d):=by
 simp[D.at,h]
def acw(n:Int)(b:Nat):Bool:=n.fdiv (2 ^ b) % 2==1
def TR{m:Int}(h0:0≤m)(h1:m<9223372036854775808):IntKind.i64.wrap ((BitVec.ofInt 64 m&&&BitVec.ofInt 64 1).toNat:Nat)=m % 2:=by
 obtain⟨k,rfl⟩:∃k:Nat,m=k:=⟨m.toNat,by omega⟩;have e:(BitVec.ofInt 64 (k:Int)&&&BitVec.ofInt 64 1).toNat=k % 2:=by
  rw[BitVec.toNat_and];have h2:(BitVec.ofInt 64 (k:Int)).toNat=k:=by
   rw[BitVec.ofInt_natCast,BitVec.toNat_ofNat,Nat.mod_eq_of_lt (by omega)]
  have h3:(BitVec.ofInt 64 1).toNat=1:=by decide
  rw[h2,h3,Nat.and_one_is_mod]
 rw[e,fF (by omega) (by omega)];omega
def SO{n:Int}(h0:0≤n){b:Nat}:0≤n.fdiv (2 ^ b)∧n.fdiv (2 ^ b)≤n:=by
 have hp:(0:Int)<2 ^ b:=Int.pow_pos (by decide);rw[Int.fdiv_eq_ediv_of_nonneg _ (by omega)];exact⟨Int.ediv_nonneg h0 (by omega),Int.ediv_le_self _ h0⟩
def MX{b:Nat}(h0:0≤n)(h1:n<9223372036854775808):(IntKind.i64.wrap ((BitVec.ofInt 64 (n.fdiv (2 ^ b))&&&BitVec.ofInt 64 1).toNat:Nat)==1)=acw n b:=by
 have:=@SO n h0 b;rw[TR this.1 (by omega)]
 rfl
mutual
def nO(a:Int):Ex→Bool
 |.mk k n _ ks=>if k=1 then false else if k=2 then true else if k=3 then acw a n.toNat else if k=5 then !((mW a ks).getD 0 false)else if k=6 then(mW a ks).getD 0 false||(mW a ks).getD 1 false else(mW a ks).getD 0 false&&(mW a ks).getD 1 false
def mW(a:Int):List Ex→List Bool
 | []=>[]
 |e::es=>nO a e::mW a es
end
mutual
def Ol(a:Int):Ex→Bool
 |.mk k n nn ks=>if k=4 then false else if k=6 then(tq a ks).getD 0 false||(tq a ks).getD 1 false else if k=7 then(tq a ks).getD 0 false&&(tq a ks).getD 1 false else if k=8 then true else nO a (.mk k n nn ks)
def tq(a:Int):List Ex→List Bool
 | []=>[]
 |e::es=>Ol a e::tq a es
end
def Dd{g0:Int×Int}(hg:xF g0=true)(h:gL g0 3 n ks=true):∃m:Nat,n=m∧m<3:=by
 obtain⟨g1,g2⟩:=pS hg;simp only[gL,bA,aK,IG]at h;have h2:=h.2;rw[fF (by omega) (by omega)]at h2;exact⟨n.toNat,by omega,by omega⟩
def Hw{g0:Int×Int}(h:gL g0 5 n ks=true):∃x,ks=[x]:=by
 simp only[gL,bA]at h;have h1:=h.1;have h3:ks.length=1:=by simp[nP]at h1;omega
 match ks,h3 with
 | [x],_=>exact⟨x,rfl⟩
def mn(g:Nat):RC:=(.s [.v 4 .cf] (.seq (.s [.m 5 0,.n 6 5,.f 7 0 6,.l 8 1 7] (.iV 0 (.s [.q 10 8 1,.m 9 10] (.cond (.t 9) (.s [.v 4 .cf] .ret) (.s [.q 12 8 2,.m 11 12] (.cond (.t 11) (.s [.v 4 .ct] .ret) (.s [.q 14 8 3,.m 13 14] (.cond (.t 13) (.s [.m 15 1,.m 16 0,.n 17 16,.f 18 1 17,.l 19 1 18,.o (.cvt 20 .u64 (.t 19)),.o (.bin 21 .shr (.t 15) (.t 20)),.o (.bin 22 .and (.t 21) (.ci 1)),.q 23 22 1,.m 4 23] .ret) (.s [.q 25 8 5,.m 24 25] (.cond (.t 24) (.s [.m 26 0,.n 27 26,.f 28 2 27,.l 29 1 28,.i 30 3 29 0,.m 31 1,.c 32 g [.t 30,.t 31],.o (.un 33 .not (.t 32)),.m 4 33] .ret) (.s [.q 35 8 6,.m 34 35] (.cond (.t 34) (.s [.m 36 0,.n 37 36,.f 38 2 37,.l 39 1 38,.i 40 3 39 0,.m 41 1,.c 42 g [.t 40,.t 41],.m 43 42,.u 43 (.mv 44 (.t 0)),.u 43 (.nck 45 (.t 44)),.u 43 (.fa 46 2 (.t 45)),.u 43 (.ld 47 false 1 (.t 46)),.u 43 (.ia 48 3 (.t 47) (.ci 1)),.u 43 (.mv 49 (.t 1)),.u 43 (.call (some 50) g [.t 48,.t 49]),.o (.pick 51 (.t 43) .ct (.t 50)),.m 4 51] .ret) .skip)))))))))))) (.s [.m 52 0,.n 53 52,.f 54 2 53,.l 55 1 54,.i 56 3 55 0,.m 57 1,.c 58 g [.t 56,.t 57],.m 59 58,.wm 59 60 0,.w 59 (.nck 61 (.t 60)),.w 59 (.fa 62 2 (.t 61)),.w 59 (.ld 63 false 1 (.t 62)),.w 59 (.ia 64 3 (.t 63) (.ci 1)),.wm 59 65 1,.w 59 (.call (some 66) g [.t 64,.t 65]),.k 67 59 66,.m 4 67] .ret)))
def vB(P:Program)(rR:Nat):Prop:=∀(g0:Int×Int)(_:xF g0=true)(a:Int),0≤a→a≤7→∀e:Ex,js g0 e=true→j5 e=true→AF P rR [.pt (eE e) 0,.sc (.int .i64 a)] (.own (eB (nO a e)))
variable {P:Program}
def Ja(hm:Mx P){g:Nat}(hr:gq P g=some (68,mn g,[.t 4])):vB P g:=by
 intro g0 hg a ha0 ha1;have key:∀N:Nat,∀e:Ex,iW e≤N→js g0 e=true→j5 e=true→AF P g [.pt (eE e) 0,.sc (.int .i64 a)] (.own (eB (nO a e))):=by
  intro N
  induction N with
  |zero=>intro e hz;have:=kc e;omega
  |succ N ih=>
   intro e hz UY hC;obtain⟨k,n,nn,ks,rfl⟩:=Ex.ex e;have VP:=As UY;have hkT:=Aw UY;rw[tO,bA,aY]at hC;rw[nO];refine fH hr hm rfl fun _=>?_;simp only[Gu,qT,sU,kQ]
   by_cases c1:k=1
   ·subst c1;simp+contextual-implicitDefEqProofs only[mn,aL,aM,ab,ay,eI,eB,D.put,D.cells,lC,lN,gN.sub,fJ,fN,aE,aw,aC,aB,lK,lZ,aO,Int.reduceLT,Int.reduceLE,aI,Int.reduceBEq,Int.reduceEq,bE,Int.reduceToNat,D.size,D.f6,fX,fW,f9,gd,fV,fU,fT,aD,aF,az,aG,aA,aJ,fO,fC,lM,go_sem,Nat.reduceMul,Nat.reduceSub,iL,iN]
    try exact D.Le.refl _
   have d1:(k==1)=false:=ca c1;rw[al c1]
   by_cases c2:k=2
   ·subst c2;simp+contextual-implicitDefEqProofs only[mn,aL,aM,ab,ay,eI,eB,D.put,D.cells,lC,lN,gN.sub,fJ,fN,aE,aw,aC,aB,lK,lZ,aO,Int.reduceLT,Int.reduceLE,aI,Int.reduceBEq,Int.reduceEq,bE,Int.reduceToNat,D.size,D.f6,fX,fW,f9,gd,fV,fU,fT,aD,aF,az,aG,aA,aJ,fO,fC,lM,go_sem,Nat.reduceMul,Nat.reduceSub,iL,iN]
    try exact D.Le.refl _
   have d2:(k==2)=false:=ca c2;rw[al c2]
   by_cases c3:k=3
   ·subst c3;obtain⟨m,rfl,h30⟩:=Dd hg VP;simp+contextual-implicitDefEqProofs only[mn,aL,aM,ab,ay,eI,eB,D.put,D.cells,lC,lN,gN.sub,fJ,fN,aE,aw,aC,aB,lK,lZ,aO,Int.reduceLT,Int.reduceLE,aI,Int.reduceBEq,Int.reduceEq,bE,Int.reduceToNat,D.size,D.f6,fX,fW,f9,gd,fV,fU,fT,aD,aF,az,aG,aA,aJ,fO,fC,lM,go_sem,Nat.reduceMul,Nat.reduceSub,iL,iN];rw[show(min (IntKind.u64.wrap (m:Int)).toNat 64)=m by rw[CH (by omega) (by omega)];omega]
    erw [MX ha0 (by omega)]
    exact D.Le.refl _
   have d3:(k==3)=false:=ca c3;rw[al c3]
   by_cases c5:k=5
   ·subst c5;obtain⟨x,rfl⟩:=Hw VP;have hx:=hkT x (by simp);have hs:1+iW x≤N+1:=by rw[kD]at hz;simpa[jq]using hz
    simp only[mW,aD];simp+contextual-implicitDefEqProofs only[mn,aL,aM,ab,ay,eI,eB,D.put,D.cells,lC,lN,gN.sub,fJ,fN,aE,aw,aC,aB,lK,lZ,aO,Int.reduceLT,Int.reduceLE,aI,Int.reduceBEq,Int.reduceEq,bE,Int.reduceToNat,D.size,D.f6,fX,fW,f9,gd,fV,fU,fT,aD,aF,az,aG,aA,aJ,fO,fC,lM,go_sem,Nat.reduceMul,Nat.reduceSub,iL,iN];refine fy (ds:=[.pt (eE x) 0,.sc (.int .i64 a)]) (by rfl) (ih x (by omega) hx (hC.2 x (by simp))) ?_;simp+contextual-implicitDefEqProofs only[aL,aM,ab,ay,eI,eB,D.put,D.cells,lC,lN,gN.sub,fJ,fN,aE,aw,aC,aB,lK,lZ,aO,Int.reduceLT,Int.reduceLE,aI,Int.reduceBEq,Int.reduceEq,bE,Int.reduceToNat,D.size,D.f6,fX,fW,f9,gd,fV,fU,fT,aD,aF,az,aG,aA,aJ,fO,fC,lM,go_sem,Nat.reduceMul,Nat.reduceSub,iL,iN]
    try exact D.Le.refl _
   have d5:(k==5)=false:=ca c5;rw[al c5]
   by_cases c6:k=6
   ·subst c6;obtain⟨x,y,rfl,hx,hy⟩:=tZ (.inl rfl) UY;have hs:1+(iW x+iW y)≤N+1:=by rw[kD]at hz;simpa[jq]using hz
    have hxp:=kc x;have hyp:=kc y;simp only[mW,aD,aF];simp+contextual-implicitDefEqProofs only[mn,aL,aM,ab,ay,eI,eB,D.put,D.cells,lC,lN,gN.sub,fJ,fN,aE,aw,aC,aB,lK,lZ,aO,Int.reduceLT,Int.reduceLE,aI,Int.reduceBEq,Int.reduceEq,bE,Int.reduceToNat,D.size,D.f6,fX,fW,f9,gd,fV,fU,fT,aD,aF,az,aG,aA,aJ,fO,fC,lM,go_sem,Nat.reduceMul,Nat.reduceSub,iL,iN];refine fy (ds:=[.pt (eE x) 0,.sc (.int .i64 a)]) (by rfl) (ih x (by omega) hx (hC.2 x (by simp))) ?_;cases hv:nO a x with
    |true=>
     simp+contextual-implicitDefEqProofs only[hv,bne,bT,bN,bI,bG,bU,bJ,ah,ae,af,ab,aL,aM,ay,eI,eB,D.put,D.cells,lC,lN,gN.sub,fJ,fN,aE,aw,aC,aB,lK,lZ,aO,Int.reduceLT,Int.reduceLE,aI,Int.reduceBEq,Int.reduceEq,bE,Int.reduceToNat,D.size,D.f6,fX,fW,f9,gd,fV,fU,fT,aD,aF,az,aG,aA,aJ,fO,fC,lM,go_sem,Nat.reduceMul,Nat.reduceSub,iL,iN]
     try exact D.Le.refl _
    |false=>
     simp+contextual-implicitDefEqProofs only[hv,bne,bT,bN,bI,bG,bU,bJ,ah,ae,af,ab,aL,aM,ay,eI,eB,D.put,D.cells,lC,lN,gN.sub,fJ,fN,aE,aw,aC,aB,lK,lZ,aO,Int.reduceLT,Int.reduceLE,aI,Int.reduceBEq,Int.reduceEq,bE,Int.reduceToNat,D.size,D.f6,fX,fW,f9,gd,fV,fU,fT,aD,aF,az,aG,aA,aJ,fO,fC,lM,go_sem,Nat.reduceMul,Nat.reduceSub,iL,iN];refine fy (ds:=[.pt (eE y) 0,.sc (.int .i64 a)]) (by rfl) (ih y (by omega) hy (hC.2 y (by simp))) ?_;simp+contextual-implicitDefEqProofs only[bne,bT,bN,bI,bG,bU,bJ,ah,ae,af,ab,aL,aM,ay,eI,eB,D.put,D.cells,lC,lN,gN.sub,fJ,fN,aE,aw,aC,aB,lK,lZ,aO,Int.reduceLT,Int.reduceLE,aI,Int.reduceBEq,Int.reduceEq,bE,Int.reduceToNat,D.size,D.f6,fX,fW,f9,gd,fV,fU,fT,aD,aF,az,aG,aA,aJ,fO,fC,lM,go_sem,Nat.reduceMul,Nat.reduceSub,iL,iN]
     try exact D.Le.refl _
   have d6:(k==6)=false:=ca c6;rw[al c6];have c7:k=7:=by
    have h:=hC.1;unfold nu at h;rw[ca c1,ca c2,ca c3,ca c5,ca c6]at h;simpa using h
   subst c7;obtain⟨x,y,rfl,hx,hy⟩:=tZ (.inr rfl) UY;have hs:1+(iW x+iW y)≤N+1:=by rw[kD]at hz;simpa[jq]using hz
   have hxp:=kc x;have hyp:=kc y;simp only[mW,aD,aF];simp+contextual-implicitDefEqProofs only[mn,aL,aM,ab,ay,eI,eB,D.put,D.cells,lC,lN,gN.sub,fJ,fN,aE,aw,aC,aB,lK,lZ,aO,Int.reduceLT,Int.reduceLE,aI,Int.reduceBEq,Int.reduceEq,bE,Int.reduceToNat,D.size,D.f6,fX,fW,f9,gd,fV,fU,fT,aD,aF,az,aG,aA,aJ,fO,fC,lM,go_sem,Nat.reduceMul,Nat.reduceSub,iL,iN];refine fy (ds:=[.pt (eE x) 0,.sc (.int .i64 a)]) (by rfl) (ih x (by omega) hx (hC.2 x (by simp))) ?_;cases hv:nO a x with
   |true=>
    simp+contextual-implicitDefEqProofs only[hv,bne,bT,bN,bI,bG,bU,bJ,ah,ae,af,ab,aL,aM,ay,eI,eB,D.put,D.cells,lC,lN,gN.sub,fJ,fN,aE,aw,aC,aB,lK,lZ,aO,Int.reduceLT,Int.reduceLE,aI,Int.reduceBEq,Int.reduceEq,bE,Int.reduceToNat,D.size,D.f6,fX,fW,f9,gd,fV,fU,fT,aD,aF,az,aG,aA,aJ,fO,fC,lM,go_sem,Nat.reduceMul,Nat.reduceSub,iL,iN];refine fy (ds:=[.pt (eE y) 0,.sc (.int .i64 a)]) (by rfl) (ih y (by omega) hy (hC.2 y (by simp))) ?_;simp+contextual-implicitDefEqProofs only[bne,bT,bN,bI,bG,bU,bJ,ah,ae,af,ab,aL,aM,ay,eI,eB,D.put,D.cells,lC,lN,gN.sub,fJ,fN,aE,aw,aC,aB,lK,lZ,aO,Int.reduceLT,Int.reduceLE,aI,Int.reduceBEq,Int.reduceEq,bE,Int.reduceToNat,D.size,D.f6,fX,fW,f9,gd,fV,fU,fT,aD,aF,az,aG,aA,aJ,fO,fC,lM,go_sem,Nat.reduceMul,Nat.reduceSub,iL,iN]
    try exact D.Le.refl _
   |false=>
    simp+contextual-implicitDefEqProofs only[hv,bne,bT,bN,bI,bG,bU,bJ,ah,ae,af,ab,aL,aM,ay,eI,eB,D.put,D.cells,lC,lN,gN.sub,fJ,fN,aE,aw,aC,aB,lK,lZ,aO,Int.reduceLT,Int.reduceLE,aI,Int.reduceBEq,Int.reduceEq,bE,Int.reduceToNat,D.size,D.f6,fX,fW,f9,gd,fV,fU,fT,aD,aF,az,aG,aA,aJ,fO,fC,lM,go_sem,Nat.reduceMul,Nat.reduceSub,iL,iN]
    try exact D.Le.refl _
 exact fun e hT hC=>key _ e (aU _) hT hC
def UZ(l:List Ex)(e:Ex):Int:=match l.findIdx? (fun x=>qE x e)with|some i=>(i:Int)|none=> -1
def fI(p:Int→Bool)(l:List Int):Nat→Int
 |0=> -1
 |k+1=>if p (l.getD (l.length-(k+1)) 0)=true then((l.length-(k+1):Nat):Int)else fI p l k
variable {p:Int→Bool}{l:List Int}
def HA(h:i<l.length):fI p l (l.length-i)=if p (l.getD i 0)=true then(i:Int)else fI p l (l.length-(i+1)):=by
 rw[show l.length-i=(l.length-(i+1))+1 by omega];simp only[fI];rw[show l.length-(l.length-(i+1)+1)=i by omega]
def NQ{p:Int→Bool}{l:List Int}:∀{k:Nat},k≤l.length→decide (fI p l k≥0)=(l.drop (l.length-k)).any p
 |0,_=>by simp[fI]
 |k+1,h=>by
  have hi:l.length-(k+1)<l.length:=by omega
  rw[cy hi];have e1:l.getD (l.length-(k+1)) 0=l[l.length-(k+1)]:=by simp[hi]
  have ih:=NQ (p:=p) (l:=l) (k:=k) (by omega);simp only[fI,e1,aL];rw[show l.length-(k+1)+1=l.length-k by omega,←ih]
  by_cases hp:p l[l.length-(k+1)]=true;rw[an hp,hp,ah];exact decide_eq_true (by omega)
  rw[al hp,Bool.eq_false_iff.2 hp,ae]
def W4:decide (fI p l l.length≥0)=l.any p:=by rw[NQ (aU _),dO,az]
def Wr:fI p l (l.length-l.length)= -1:=by rw[dO];rfl
def DX:RC:=(.s [.v 4 (.ci 0)] (.seq (.s [.m 6 0,.o (.len 7 (.t 6)),.v 8 (.ci 0)] (.iV 0 (.loop (.s [.o (.bin 9 .lss (.t 8) (.t 7))] (.seq (.cond (.t 9) .skip (.exit 0)) (.seq (.iV 1 (.s [.m 10 8,.m 5 10] (.s [.m 11 1,.m 12 0,.m 13 5,.o (.ia 14 1 (.t 12) (.t 13)),.l 15 1 14,.o (.bin 16 .eql (.t 11) (.t 15))] (.cond (.t 16) (.s [.m 17 5,.m 4 17] .ret) .skip)))) (.r [.o (.bin 18 .add (.t 8) (.ci 1)),.m 8 18]))))))) (.s [.o (.mv 4 (.c (.sc (.int .i64 (-1)))))] .ret)))
def xz(P:Program)(rR:Nat):Prop:=∀(s:SL Int)(v:Int),AF P rR [eS 1 eI s,eI v] (.own (eI (fI (fun x=>v==x) s.2 s.2.length)))
def N3(hm:Mx P){g:Nat}(hr:gq P g=some (19,DX,[.t 4])):xz P g:=by
 intro s v;refine fH hr hm rfl fun hb=>?_;have hl:=adk hb.1;simp only[lM]at hl;simp+contextual-implicitDefEqProofs only[DX,eS,go_sem,eI,eB,Nat.reduceMul,Nat.reduceSub,iL,lM,iN];refine qR (α:=Nat) [4,5,8,9,10,11,12,13,14,15,16,17,18] (fun i=>[(8,.im none (.sc (.int .i64 i)))]) (fun i=>[]) (fun i=>i≤s.2.length∧fI (fun x=>v==x) s.2 s.2.length=fI (fun x=>v==x) s.2 (s.2.length-i)) (fun i=>s.2.length-i) 0 (iC.to [] (by simp only[go_sem];rfl) rfl (by simp) (by rfl) (by simp only[f7,go_sem,jQ,kW,ab,ae,ay]<;>simp)) ⟨bu _,rfl⟩ ?_;rintro i ⟨PS,EI⟩
 by_cases hi:i<s.2.length
 ·rw[HA hi]at EI;have e1:=Qi (f:=eI) (d:=0) hi;simp+contextual-implicitDefEqProofs only[hi,e1,eI,aE,go_sem,eB,Nat.reduceMul,Nat.reduceSub,iL,lM,iN]
  by_cases hp:v=s.2.getD i 0
  ·rw[an (by simpa using hp)]at EI;have UD:(v==s.2.getD i 0)=true:=by simpa using hp
   simp+contextual-implicitDefEqProofs only[UD,EI,go_sem,eI,eB,Nat.reduceMul,Nat.reduceSub,iL,lM,iN]
  rw[al (by simpa using hp)]at EI;have UD:(v==s.2.getD i 0)=false:=by simpa using hp
  simp+contextual-implicitDefEqProofs only[UD,go_sem,eI,eB,Nat.reduceMul,Nat.reduceSub,iL,lM,iN];rw[fF (by omega) (by omega)];exact⟨i+1,⟨by omega,EI⟩,by omega,iC.to [] (by simp only[go_sem];rfl) rfl (by simp) (by rfl) (by simp only[f7,go_sem,jQ,kW,ab,ae,ay]<;>simp)⟩
 obtain rfl:i=s.2.length:=by omega
 rw[Wr]at EI;simp+contextual-implicitDefEqProofs only[hi,EI,go_sem,eI,eB,Nat.reduceMul,Nat.reduceSub,iL,lM,iN]
def iX:Sp:=(0,0,E00,0,0)
where E00:Ex:=.mk 0 0 none []
def iH(xs:List Sp)(t:Int):Nat→Nat→Int
 |0,_=> -1
 |k+1,i=>if(xs.getD i iX).1=2 then iH xs t k (if nO t (xs.getD i iX).2.2.1=true then(xs.getD i iX).2.2.2.1.toNat else(xs.getD i iX).2.2.2.2.toNat)else(i:Int)
def kB(xs:List Sp)(C:Nat)(i:Nat)(st:List Int)(t:Nat):List Int×Bool×List Int:=
 if 0≤iH xs t (xs.length+1) i then
  if(xs.getD (iH xs t (xs.length+1) i).toNat iX).1=1 then
   if fI (fun x=>(xs.getD (iH xs t (xs.length+1) i).toNat iX).2.2.2.1==x) st st.length<0 then
    (st++[(xs.getD (iH xs t (xs.length+1) i).toNat iX).2.2.2.1],false,(List.replicate C (-1)).set (xs.getD (iH xs t (xs.length+1) i).toNat iX).2.1.toNat st.length)
   else(st,false,(List.replicate C (-1)).set (xs.getD (iH xs t (xs.length+1) i).toNat iX).2.1.toNat (fI (fun x=>(xs.getD (iH xs t (xs.length+1) i).toNat iX).2.2.2.1==x) st st.length))
  else(st,(xs.getD (iH xs t (xs.length+1) i).toNat iX).1==3,List.replicate C (-1))
 else(st,false,List.replicate C (-1))
def ib(xs:List Sp)(C i:Nat)(st:List Int):Nat→List Int×List Bool×List (List Int)
 |0=>(st,[],[])
 |t+1=>((kB xs C i (ib xs C i st t).1 t).1,(ib xs C i st t).2.1++[(kB xs C i (ib xs C i st t).1 t).2.1],(ib xs C i st t).2.2++[(kB xs C i (ib xs C i st t).1 t).2.2])
def mH(xs:List Sp)(M C:Nat):Nat→Nat→List Int→List (List Bool)→List (List (List Int))→List (List Bool)×List (List (List Int))
 |0,_,_,A,N=>(A,N)
 | k + 1, i, st, A, N => if i < st.length then
   mH xs M C k (i+1) (ib xs C (st.getD i 0).toNat st M).1 (A++[(ib xs C (st.getD i 0).toNat st M).2.1]) (N++[(ib xs C (st.getD i 0).toNat st M).2.2])
  else(A,N)
structure HD (g:Int×Int) (xs:List Sp):Prop where
 ok:xF g=true
 len:xs.length≤60
 act:∀i,i<xs.length→(xs.getD i iX).1=1→0≤(xs.getD i iX).2.1∧(xs.getD i iX).2.1<g.2∧0≤(xs.getD i iX).2.2.2.1∧(xs.getD i iX).2.2.2.1<xs.length
 test:∀i,i<xs.length→(xs.getD i iX).1=2→FJ g (xs.getD i iX).2.2.1=true∧j5 (xs.getD i iX).2.2.1=true∧0≤(xs.getD i iX).2.2.2.1∧(xs.getD i iX).2.2.2.1<xs.length∧
  0≤(xs.getD i iX).2.2.2.2∧(xs.getD i iX).2.2.2.2<xs.length
def ph{f:Fl}(h:ot g f=true):HD g f.2.2∧0≤f.1∧f.1<f.2.2.length∧1≤f.2.2.length:=by
 simp only[ot,bA,iR,bn,aY]at h;obtain⟨h1,⟨h2,h3⟩,⟨h4,h5⟩,h6⟩:=h;refine⟨⟨h1,by omega,fun i hi hk=>?_,fun i hi hk=>?_⟩,h4,by omega,by omega⟩
 ·have:=h6 (f.2.2.getD i iX) (by rw[bi,bR hi];exact aZ hi);unfold lT at this;rw[an hk]at this;simp only[bA,iR,bn]at this;obtain⟨_,_,⟨a,b⟩,c,d⟩:=this;exact⟨a,by omega,c,by omega⟩
 have:=h6 (f.2.2.getD i iX) (by rw[bi,bR hi];exact aZ hi);unfold lT at this;rw[al (by omega),an hk]at this;simp only[bA,iR,bn,kV]at this;obtain⟨_,⟨a,b⟩,⟨c,d⟩,e,f⟩:=this;exact⟨a,b,c,by omega,e,by omega⟩
variable {xs:List Sp}
def rI(h:HD g xs){t:Int}:∀{k i:Nat},i<xs.length→iH xs t k i<xs.length∧-1≤iH xs t k i
 |0,_,_=>by simp only[iH];omega
 |k+1,i,hi=>by
  simp only[iH]
  split
  ·next hk=>
   obtain⟨_,_,a,b,c,d⟩:=h.test i hi hk;exact rI h (by split<;>omega)
  omega
def sf(n:Nat)(st:List Int):Prop:=st.Nodup∧∀x∈st,0≤x∧x<n
def sf.len:∀{n:Nat} {st:List Int},sf n st→st.length≤n
 |0,st,h=>by
  cases st with
  |nil=>simp
  |cons x r=>have:=h.2 x (by simp);omega
 |n+1,st,h=>by
  by_cases hm:(n:Int)∈st
  ·have h1:sf n (st.erase n):=⟨h.1.erase _,fun x hx=>by
    have h2:=(List.Nodup.mem_erase_iff h.1).1 hx;have:=h.2 x h2.2;have:=h2.1;omega⟩
   have:=h1.len;rw[List.length_erase_of_mem hm]at this;omega
  have h1:sf n st:=⟨h.1,fun x hx=>by
   have:=h.2 x hx;have:x≠n:=fun e=>hm (e▸hx);omega⟩
  have:=h1.len;omega
def Xy{p:Int→Bool}{l:List Int}(h:fI p l l.length<0):∀x∈l,p x=false:=by
 have:=W4 (p:=p) (l:=l);have h0:decide (fI p l l.length≥0)=false:=by simp;omega
 rw[h0]at this;have:=List.any_eq_false.1 this.symm;intro x hx;simpa using this x hx
variable {st:List Int}{C:Nat}
def JQ(h:HD g xs){t:Nat}(hi:i<xs.length)(hs:sf xs.length st):sf xs.length (kB xs C i st t).1:=by
 unfold kB;have hc:=rI h (t:=t) (k:=xs.length+1) hi
 split
 ·split
  ·next h0 hk=>
   obtain⟨_,_,a,b⟩:=h.act _ (by omega) hk
   split
   ·next hf=>
    have hn:=Xy hf;refine⟨?_,?_⟩
    ·rw[aT];refine⟨hs.1,by simp,fun x hx y hy=>?_⟩;rw[am]at hy;subst hy;intro e;have:=hn x hx;rw[e]at this;simp at this
    intro x hx;rcases ax.1 hx with hx|hx
    exact hs.2 x hx;rw[am]at hx;subst hx;exact⟨a,b⟩
   exact hs
  exact hs
 exact hs
def tl(h:HD g xs)(hi:i<xs.length)(hs:sf xs.length st):∀t,sf xs.length (ib xs C i st t).1
 |0=>hs
 |t+1=>JQ h hi (tl h hi hs t)
def oZ:∀t,(ib xs C i st t).2.1.length=t∧(ib xs C i st t).2.2.length=t
 |0=>⟨rfl,rfl⟩
 |t+1=>by simp[ib,oZ t]
def xu(f1:Nat):RC:=(.s [.v 6 (.ci 0)] (.seq (.s [.v 7 (.ci 0)] (.iV 0 (.loop (.seq (.s [.m 9 7,.m 10 0,.n 11 10,.f 12 1 11,.l 13 1 12,.o (.len 14 (.t 13)),.o (.bin 15 .leq (.t 9) (.t 14))] (.cond (.t 15) .skip (.exit 0))) (.seq (.iV 1 (.s [.m 18 0,.n 19 18,.f 20 1 19,.l 21 1 20,.m 22 1,.o (.ia 23 7 (.t 21) (.t 22)),.m 8 23] (.seq (.s [.m 24 8,.n 25 24,.f 26 0 25,.l 27 1 26,.o (.bin 28 .neq (.t 27) (.ci 2))] (.cond (.t 28) (.s [.m 29 1,.m 6 29] .ret) .skip)) (.s [.m 30 8,.n 31 30,.f 32 2 31,.m 33 2,.c 34 f1 [.t 32,.t 33]] (.cond (.t 34) (.r [.m 35 8,.n 36 35,.f 37 5 36,.l 38 1 37,.m 1 38]) (.r [.m 39 8,.n 40 39,.f 41 6 40,.l 42 1 41,.m 1 42])))))) (.r [.m 16 7,.o (.bin 17 .add (.t 16) (.ci 1)),.m 7 17])))))) (.s [.o (.mv 6 (.c (.sc (.int .i64 (-1)))))] .ret)))
def sS(P:Program)(rR:Nat):Prop:=∀(g:Int×Int)(f:Fl)(i0:Nat)(t:Int),ot g f=true→i0<f.2.2.length→0≤t→t≤7→AF P rR [.pt (jz f) 0,.sc (.int .i64 i0),.sc (.int .i64 t)] (.own (eI (iH f.2.2 t (f.2.2.length+1) i0)))
def FS(hm:Mx P){g f1:Nat}(hr:gq P g=some (43,xu f1,[.t 6]))(kr:vB P f1):sS P g:=by
 intro g f i0 t i9 PS t0 t7;obtain⟨hS,_,_,zb⟩:=ph i9;obtain⟨s,nn,xs⟩:=f;simp only at PS hS zb⊢;have aax:=hS.len;generalize hR0:iH xs t (xs.length+1) i0=R;refine fH hr hm rfl fun hb=>?_;simp+contextual-implicitDefEqProofs only[xu,jz,eS,jg,eI,eB,D.size,D.f6,D.fK,D.sub,D.cells,D.put,fO,iL,go_sem,Nat.reduceMul,Nat.reduceSub,lM,iN];refine mJ (α:=Nat×Nat) [1,6,7,8,9,10,11,12,13,14,15,16,17,18,19,20,21,22,23,24,25,26,27,28,29,30,31,32,33,34,35,36,37,38,39,40,41,42] (fun x=>[(7,.im none (.sc (.int .i64 x.1))),(1,.im none (.sc (.int .i64 x.2)))]) (fun x=>x.2<xs.length∧x.1≤xs.length+1∧iH xs t (xs.length+1-x.1) x.2=R) (fun x=>xs.length+1-x.1) (0,i0) (by simp only[f7,go_sem];simp) ⟨PS,bu _,by simpa using hR0⟩ ?_;rintro⟨k,i⟩ ⟨hi,hk0,hc⟩;simp only at hi hk0 hc⊢
 by_cases hk:(k:Int)≤(xs.length:Int)
 ·have ai:D.at (xs.map jg) i=jg (xs.getD i iX):=rn hi;have hT:=hS.test i hi;rw[show xs.length+1-k=(xs.length-k)+1 by omega]at hc;simp only[iH]at hc;generalize xs.getD i iX=x at ai hT hc;obtain⟨xk,xn,xe,xt,xl⟩:=x;simp only at hT hc
  by_cases h2:xk=2
  ·subst h2;obtain⟨he,P8,a1,a2,a3,a4⟩:=hT rfl;rw[an rfl]at hc;obtain⟨xt,rfl⟩:=dk a1;obtain⟨xl,rfl⟩:=dk a3;simp only[aE]at hc;have heT:js g xe=true:=by simp only[FJ,bA]at he;exact he.2.2
   simp+contextual-implicitDefEqProofs only[hk,ai,hi,jg,eI,eB,D.size,D.f6,D.fK,D.sub,D.cells,D.put,fO,iL,go_sem,Nat.reduceMul,Nat.reduceSub,lM,iN];refine tM (es:=[.pt (eE xe) 0,.sc (.int .i64 t)]) rfl ⟨D.GD.sub (sz:=3) (by simp[D.size,D.f6,eI]) rfl (by omega) (by rw[gV];rfl),D.GD.refl _,trivial⟩ (kr g hS.ok t t0 t7 xe heT P8) ?_;cases ht:nO t xe
   ·rw[ht]at hc;simp only[kY,↓reduceIte]at hc;simp+contextual-implicitDefEqProofs only[hk,ai,hi,jg,eI,eB,D.size,D.f6,D.fK,D.sub,D.cells,D.put,fO,iL,go_sem,Nat.reduceMul,Nat.reduceSub,lM,iN];rw[fF (by omega) (by omega)];refine⟨(k+1,xl),⟨?_,by omega,?_⟩,by omega,iC.env (by simp only[f7,go_sem,lM];simp)⟩;simp only[];omega;simp only[];rw[←hc];congr 1;omega
   rw[ht]at hc;simp only[↓reduceIte]at hc;simp+contextual-implicitDefEqProofs only[hk,ai,hi,jg,eI,eB,D.size,D.f6,D.fK,D.sub,D.cells,D.put,fO,iL,go_sem,Nat.reduceMul,Nat.reduceSub,lM,iN];rw[fF (by omega) (by omega)];refine⟨(k+1,xt),⟨?_,by omega,?_⟩,by omega,iC.env (by simp only[f7,go_sem,lM];simp)⟩;simp only[];omega;simp only[];rw[←hc];congr 1;omega
  rw[al h2]at hc;have Pj:(xk !=2)=true:=by simp[h2]
  simp+contextual-implicitDefEqProofs only[hk,ai,hi,h2,Pj,Bool.true_eq_false,jg,eI,eB,D.size,D.f6,D.fK,D.sub,D.cells,D.put,fO,iL,go_sem,Nat.reduceMul,Nat.reduceSub,lM,iN];rw[←hc];exact D.Le.refl _
 obtain rfl:k=xs.length+1:=by omega
 simp only[dO,iH]at hc;simp+contextual-implicitDefEqProofs only[hk,jg,eI,eB,D.size,D.f6,D.fK,D.sub,D.cells,D.put,fO,iL,go_sem,Nat.reduceMul,Nat.reduceSub,lM,iN];rw[←hc];exact D.Le.refl _
def xU:RC:=(.s [.v 4 (.ci 0)] (.seq (.s [.v 5 (.ci 0)] (.iV 0 (.loop (.seq (.s [.m 6 5,.m 7 0,.o (.len 8 (.t 7)),.o (.bin 9 .lss (.t 6) (.t 8))] (.cond (.t 9) .skip (.exit 0))) (.seq (.iV 1 (.s [.m 12 0,.m 13 5,.o (.ia 14 1 (.t 12) (.t 13)),.l 15 1 14,.m 16 1,.o (.bin 17 .eql (.t 15) (.t 16))] (.cond (.t 17) (.s [.m 18 5,.m 4 18] .ret) .skip))) (.r [.m 10 5,.o (.bin 11 .add (.t 10) (.ci 1)),.m 5 11])))))) (.s [.o (.mv 4 (.c (.sc (.int .i64 (-1)))))] .ret)))
def sR(P:Program)(rR:Nat):Prop:=∀(nn:Option Bool)(l:List Int)(v:Int),l.length≤1000000→AF P rR [.ls nn 1 (l.map eI),.sc (.int .i64 v)] (.own (eI (fI (fun y=>v==y) l l.length)))
def Fh(hm:Mx P){g:Nat}(hr:gq P g=some (19,xU,[.t 4])):sR P g:=by
 intro nn l v hl;refine fH hr hm rfl fun hb=>?_;simp+contextual-implicitDefEqProofs only[xU,jg,eI,eB,D.size,D.f6,D.fK,D.sub,D.cells,D.put,fO,iL,go_sem,Nat.reduceMul,Nat.reduceSub,lM,iN];refine mJ (α:=Nat) [4,5,6,7,8,9,10,11,12,13,14,15,16,17,18] (fun x=>[(5,.im none (.sc (.int .i64 x)))]) (fun x=>x≤l.length∧fI (fun y=>v==y) l (l.length-x)=fI (fun y=>v==y) l l.length) (fun x=>l.length-x) 0 (by simp only[f7,go_sem];simp) ⟨bu _,by simp⟩ ?_;rintro i ⟨PS,hc⟩
 by_cases hi:i<l.length
 ·have ai:D.at (l.map eI) i=eI (l.getD i 0):=rn hi;rw[HA hi]at hc;generalize l.getD i 0=x at ai hc
  by_cases hx:v=x;subst hx;simp only[bE,↓reduceIte]at hc;simp+contextual-implicitDefEqProofs only[hi,ai,jg,eI,eB,D.size,D.f6,D.fK,D.sub,D.cells,D.put,fO,iL,go_sem,Nat.reduceMul,Nat.reduceSub,lM,iN];rw[←hc];exact D.Le.refl _
  have EG:¬x=v:=fun e=>hx e.symm;have rU:(v==x)=false:=by simp[hx]
  have Pj:(x==v)=false:=by simp[EG]
  rw[rU]at hc;simp only[kY,↓reduceIte]at hc;simp+contextual-implicitDefEqProofs only[hi,ai,Pj,jg,eI,eB,D.size,D.f6,D.fK,D.sub,D.cells,D.put,fO,iL,go_sem,Nat.reduceMul,Nat.reduceSub,lM,iN];rw[fF (by omega) (by omega)];exact⟨i+1,⟨by omega,hc⟩,by omega,iC.env (by simp only[f7,go_sem,lM];simp)⟩
 obtain rfl:i=l.length:=by omega
 simp only[dO,fI]at hc;simp+contextual-implicitDefEqProofs only[hi,cu,dB,jg,eI,eB,D.size,D.f6,D.fK,D.sub,D.cells,D.put,fO,iL,go_sem,Nat.reduceMul,Nat.reduceSub,lM,iN];rw[←hc];exact D.Le.refl _
abbrev zE:Ex:=.mk 1 0 (some true) []
abbrev oE:Ex:=.mk 2 0 (some true) []
abbrev prE(k:Int)(a b:Ex):Ex:=.mk k 0 (some false) [a,b]
def Ut(r:Ex):Ex×Bool:=if iW r≤800 then(N9 r,true)else(r,false)
def aa8:List (Ex×Bool)→Ex×Bool
 | [x,y]=>if x.2=true then(if y.2=true then Ut (prE 6 x.1 y.1)else(zE,false))else(zE,false)
 |_=>(zE,true)
def aaW(a:Int):List Ex→List (Ex×Bool)→Ex×Bool
 | [p,q],[x,y]=>if x.2=true then(if Ol a p=true then(if y.2=true then Ut (prE 6 (prE 7 x.1 q) y.1)else(prE 7 x.1 q,false))else Ut (prE 7 x.1 q))else(zE,false)
 |_,_=>(zE,true)
def Zt(e:Ex):List (Ex×Bool)→Ex×Bool
 | [x]=>if x.2=true then Ut (prE 7 x.1 e)else(zE,false)
 |_=>(zE,true)
mutual
def AC(a c:Int):Ex→Ex×Bool
 |.mk k n nn ks=>if k=4 then(if n=c then(oE,true)else(zE,true))else if k=6 then aa8 (Ba a c ks)else if k=7 then aaW a ks (Ba a c ks)else if k=8 then Zt (.mk k n nn ks) (Ba a c ks)else(zE,true)
def Ba(a c:Int):List Ex→List (Ex×Bool)
 | []=>[]
 |e::es=>AC a c e::Ba a c es
end
def aht(a:Int)(x:Ex)(j:Nat)(L:List Ex)(row:List Int):Option (List Ex×List Int):=
  if(AC a j x).2=true then
    (if (AC a j x).1.k = 1 then some (L, row ++ [-1])
     else if UZ L (AC a j x).1<0 then some (L++[(AC a j x).1],row++[(L.length:Int)])else some (L,row++[UZ L (AC a j x).1]))
  else none
def Vq(a:Int)(x:Ex)(L:List Ex):Nat→Option (List Ex×List Int)
 |0=>some (L,[])
 |j+1=>match Vq a x L j with
  |some p=>aht a x j p.1 p.2
  |none=>none
def af4(x:Ex)(c k:Nat)(rows:List (List Int))(L:List Ex):Option (List Ex×List (List Int)):=
 match Vq k x L c with
 |some p=>some (p.1,rows++[p.2])
 |none=>none
def Vb(x:Ex)(L:List Ex)(c:Nat):Nat→Option (List Ex×List (List Int))
 |0=>some (L,[])
 |k+1=>match Vb x L c k with
  |some p=>af4 x c k p.2 p.1
  |none=>none
def stF(m c i:Nat)(L:List Ex)(N:List (List (List Int))):Option (List Ex×List (List (List Int))):=
 if i<L.length then(match Vb (L.getD i zE) L c m with
  |some p=>if p.1.length≤60 then some (p.1,N++[p.2])else none
  |none=>none)else some (L,N)
def acW(e:Ex)(m c:Nat):Nat→Option (List Ex×List (List (List Int)))
 |0=>some ([N9 e],[])
 |i+1=>match acW e m c i with
  |some p=>stF m c i p.1 p.2
  |none=>none
attribute [irreducible] acW
def wC(r:List Int):D:=.ls (some false) 1 (r.map eI)
def qV(r:List (List Int)):D:=.ls (some false) 1 (r.map wC)
def zq(r:List Bool):D:=.ls (some false) 1 (r.map eB)
def iC.aec(st:St)(k:Nat)(ts:List Nat)(x:Int)(hu:lu st.us k=some (.bx 1 [.im none (.sc (.int .i64 x))]))(hk:o9 k (st.del k).us=true)(ht:∀t∈ts,lk st.env t=.vb k 1):
  iC st ⟨st.n,ts.map (fun t=>(t,.tr k))++(st.del k).env,(k,.own (.ls (some false) 1 [.sc (.int .i64 x)]))::(st.del k).us⟩:=by
 intro n0 S0 M0 w0 a w hs;obtain⟨g,Cz,hv⟩:=hs.gh;have hm:=fB hu;obtain⟨hU,hK⟩:=Cz.del k;have py:=Cz.each _ hm;simp only[hP,fA]at py;obtain⟨yO,b,c,e,vs,rest,h1,h2,h3,⟨v,r,rfl,uu,rfl⟩,jm,lY⟩:=py;have hvx:=gU uu;subst hvx;have hc:c.toList=.int .i64 x::rest:=by simpa[Value.cells]using lY
 have hcz:1≤c.size:=by have:=congrArg List.length hc;simp at this;omega
 have hφ:∀b∈g.φ k,b∈fp g st.us:=fun b hb=>fL.2 ⟨_,hm,hb⟩;have kZ:∀b∈g.φ k,b∉fp (g.drop k) (fQ k (AV.refs k) st.us):=by
  intro b hb Pj;obtain⟨x,hx,mE⟩:=fL.1 Pj;obtain⟨gw,u,za,_⟩:=gf hx;have aaw:b∈g.φ x.1:=by simpa[Gh.drop,gw]using mE
  exact gw (gK Cz.keys Cz.nodup za hm aaw hb)
 have iF:f8 w.heap (.ls (some false) 1 [.sc (.int .i64 x)]) [b] [.slice (some ⟨b,0,none⟩) 1 1]:=by
  unfold f8;refine .inr ⟨b,0,1,c,e,(0,0),[],rfl,rfl,by simp,by simp,by simp[gp],h2,by omega,by simp[D.size],?_⟩;rw[hc];simp only[fR,f8,Value.oneCell',bm];simp;exact⟨[],[],⟨rfl,rfl⟩,[.int .i64 x],[],rfl,⟨rfl,rfl⟩,rfl,rfl⟩
 obtain⟨hA,hV⟩:=hU.Ph (u:=.own (.ls (some false) 1 [.sc (.int .i64 x)])) (β:=none) (cap:=0) (F:=g.φ k) (v:=.slice (some ⟨b,0,none⟩) 1 1) (n:=k) (ir hk) (fun y hy=>Cz.lt y (hφ y hy)) (gO Cz hm) (fun b hb gI=>Cz.low b (hφ b hb) gI) kZ
  (fun b hb hS=>(Cz.sh b hS).2.2 (hφ b hb)) (fun b hb=>Cz.fz b (hφ b hb)) (by simp only[hP,Gh.add,aK];rw[h3];exact⟨trivial,by simpa[Value.cells]using iF,by simp[D.fits,Value.oneCell']⟩)
 refine⟨hs.ms,hs.mS,hs.tm,hs.base,hs.os,hs.tape,hs.output,hs.size,hs.iD,_,hA,fun t=>?_⟩;simp only[F6]
 split
 ·next yD=>
  have:=hv t;rw[ht t yD]at this;simp only[fx]at this⊢;obtain⟨gv,g9,b',y1,y2,y3,y4⟩:=this;rw[h1]at y3;obtain rfl:=aQ y3;exact⟨⟨.ls (some false) 1 [.sc (.int .i64 x)],by simp⟩,by simp[Gh.add,y4]⟩
 exact hV _ _ (gT (fun av v hf hr=>fx.iq hK hf hr) (hv t))
def Ff{t:Nat}:∃s,(kB xs C i st t).1=st++s:=by
 unfold kB
 split
 ·split
  ·split
   exact⟨_,rfl⟩;exact⟨[],by simp⟩
  exact⟨[],by simp⟩
 exact⟨[],by simp⟩
def vq{xs:List Sp}{C i:Nat}{st:List Int}:∀t,∃s,(ib xs C i st t).1=st++s
 |0=>⟨[],by simp[ib]⟩
 |t+1=>by
  obtain⟨s,h⟩:=vq (xs:=xs) (C:=C) (i:=i) (st:=st) t;obtain⟨s2,h2⟩:=Ff (xs:=xs) (C:=C) (i:=i) (t:=t) (st:=(ib xs C i st t).1);exact⟨s++s2,by simp only[ib];rw[h2,h,bz]⟩
def xR(g:Int×Int)(A:List (List Bool))(N:List (List (List Int))):D:=.ag [eI g.1,eI g.2,.ls (vT A) 1 (A.map zq),.ls (vT N) 1 (N.map qV)]
def Hl(g:Int×Int)(f:Fl):List (List Bool)×List (List (List Int)):=mH f.2.2 (kO g).toNat g.2.toNat f.2.2.length 0 [f.1] [] []
def Ar{M k:Nat}{A:List (List Bool)}{N:List (List (List Int))}:mH xs M C k st.length st A N=(A,N):=by
 cases k<;>simp[mH]
def MR{j:Nat}:List.replicate (j+1) (-1:Int)=List.replicate j (-1)++[-1]:=List.replicate_succ'
def t8(f1 f2 f3:Nat):RC:=(.s [.b 2 2 0,.o (.zer 4 4 (.ag [(.sc (.int .i64 0)),(.sc (.int .i64 0)),(.ls (some true) 1 []),(.ls (some true) 1 [])]))] (.s [.m 15 1,.n 16 15,.f 17 0 16,.l 18 1 17,.o (.bs 19 1 (.sc (.int .i64 0)) 1 [(0,(.t 18))]),.m 5 19] (.s [.L 20 2 2,.o (.bld 21 (.ag [(.sc (.int .i64 0)),(.sc (.int .i64 0)),(.ls (some true) 1 []),(.ls (some true) 1 [])]) [(0,2,(.t 20))]),.o (.zer 6 4 (.ag [(.sc (.int .i64 0)),(.sc (.int .i64 0)),(.ls (some true) 1 []),(.ls (some true) 1 [])])),.s 4 6 21] (.seq (.s [.v 7 (.ci 0)] (.iV 0 (.loop (.seq (.s [.m 22 7,.m 23 5,.o (.len 24 (.t 23)),.o (.bin 25 .lss (.t 22) (.t 24))] (.cond (.t 25) .skip (.exit 0))) (.seq (.iV 1 (.s [.o (.bs 28 1 (.sc (.bool false)) 0 []),.m 8 28] (.s [.o (.bs 29 1 (.ls (some true) 1 []) 0 []),.m 9 29] (.seq (.s [.v 10 (.ci 0)] (.iV 2 (.loop (.seq (.s [.m 30 10,.L 31 2 2,.c 32 f1 [.t 31],.o (.bin 33 .lss (.t 30) (.t 32))] (.cond (.t 33) .skip (.exit 2))) (.seq (.iV 3 (.s [.o (.bs 36 1 (.sc (.int .i64 0)) 0 []),.m 11 36] (.seq (.s [.v 12 (.ci 0)] (.iV 4 (.loop (.seq (.s [.m 37 12,.f 38 1 2,.l 39 1 38,.o (.bin 40 .lss (.t 37) (.t 39))] (.cond (.t 40) .skip (.exit 4))) (.seq (.iV 5 (.r [.m 43 11,.o (.bs 44 1 (.sc (.int .i64 0)) 1 [(0,(.c (.sc (.int .i64 (-1)))))]),.o (.app 45 1 8 (.t 43) (.t 44)),.m 11 45])) (.r [.m 41 12,.o (.bin 42 .add (.t 41) (.ci 1)),.m 12 42])))))) (.s [.m 46 1,.m 47 5,.m 48 7,.o (.ia 49 1 (.t 47) (.t 48)),.l 50 1 49,.m 51 10,.c 52 f2 [.t 46,.t 50,.t 51],.m 13 52] (.s [.m 53 8,.m 54 13,.o (.bin 55 .geq (.t 54) (.ci 0)),.m 56 55,.wm 56 57 1,.w 56 (.nck 58 (.t 57)),.w 56 (.fa 59 1 (.t 58)),.w 56 (.ld 60 false 1 (.t 59)),.wm 56 61 13,.w 56 (.ia 62 7 (.t 60) (.t 61)),.w 56 (.fa 63 0 (.t 62)),.w 56 (.ld 64 false 1 (.t 63)),.w 56 (.bin 65 .eql (.t 64) (.ci 3)),.k 66 56 65,.o (.bs 67 1 (.sc (.bool false)) 1 [(0,(.t 66))]),.o (.app 68 1 1 (.t 53) (.t 67)),.m 8 68] (.seq (.s [.m 69 13,.o (.bin 70 .geq (.t 69) (.ci 0)),.m 71 70,.wm 71 72 1,.w 71 (.nck 73 (.t 72)),.w 71 (.fa 74 1 (.t 73)),.w 71 (.ld 75 false 1 (.t 74)),.wm 71 76 13,.w 71 (.ia 77 7 (.t 75) (.t 76)),.w 71 (.fa 78 0 (.t 77)),.w 71 (.ld 79 false 1 (.t 78)),.w 71 (.bin 80 .eql (.t 79) (.ci 1)),.k 81 71 80] (.cond (.t 81) (.s [.m 82 5,.m 83 1,.n 84 83,.f 85 1 84,.l 86 1 85,.m 87 13,.o (.ia 88 7 (.t 86) (.t 87)),.f 89 5 88,.l 90 1 89,.c 91 f3 [.t 82,.t 90],.m 14 91] (.seq (.s [.m 92 14,.o (.bin 93 .lss (.t 92) (.ci 0))] (.cond (.t 93) (.s [.m 94 5,.o (.len 95 (.t 94)),.m 14 95] (.r [.m 96 5,.m 97 1,.n 98 97,.f 99 1 98,.l 100 1 99,.m 101 13,.o (.ia 102 7 (.t 100) (.t 101)),.f 103 5 102,.l 104 1 103,.o (.bs 105 1 (.sc (.int .i64 0)) 1 [(0,(.t 104))]),.o (.app 106 1 8 (.t 96) (.t 105)),.m 5 106])) .skip)) (.r [.m 107 11,.m 108 1,.n 109 108,.f 110 1 109,.l 111 1 110,.m 112 13,.o (.ia 113 7 (.t 111) (.t 112)),.f 114 1 113,.l 115 1 114,.m 116 14,.o (.ia 117 1 (.t 107) (.t 115)),.s 1 117 116]))) .skip)) (.r [.m 118 9,.m 119 11,.o (.bs 120 1 (.ls (some true) 1 []) 1 [(0,(.t 119))]),.o (.app 121 1 24 (.t 118) (.t 120)),.m 9 121]))))))) (.r [.m 34 10,.o (.bin 35 .add (.t 34) (.ci 1)),.m 10 35])))))) (.s [.f 122 2 6,.l 123 1 122,.m 124 8,.o (.bs 125 1 (.ls (some true) 1 []) 1 [(0,(.t 124))]),.o (.app 126 1 24 (.t 123) (.t 125)),.f 127 2 6,.s 1 127 126] (.r [.f 128 3 6,.l 129 1 128,.m 130 9,.o (.bs 131 1 (.ls (some true) 1 []) 1 [(0,(.t 130))]),.o (.app 132 1 24 (.t 129) (.t 131)),.f 133 3 6,.s 1 133 132])))))) (.r [.m 26 7,.o (.bin 27 .add (.t 26) (.ci 1)),.m 7 27])))))) (.s [.L 134 4 6,.s 4 4 134] .ret)))))
def pE(P:Program)(rR:Nat):Prop:=∀(g0:Int×Int)(f:Fl),ot g0 f=true→AF P rR [eG g0,.pt (jz f) 0] (.own (xR g0 (Hl g0 f).1 (Hl g0 f).2))
def Be(hm:Mx P){g f1 f2 f3:Nat}(hr:gq P g=some (135,t8 f1 f2 f3,[.c 4 4 true]))(kr:sP P f1)(kx:sS P f2)(AY:sR P f3):pE P g:=by
 intro g0 f i9;obtain⟨hS,jD,ou,zb⟩:=ph i9;have hg:=hS.ok;have hCm:=kx g0 f;unfold Hl;obtain⟨g1,g2⟩:=g0;obtain⟨s0,nn,xs⟩:=f;have hgi:=pS hg;simp only at hgi jD ou zb hS hCm⊢;have nl:=xX hg;have aax:=hS.len;obtain⟨C,rfl⟩:∃C:Nat,g2=C:=⟨g2.toNat,by omega⟩;obtain⟨M,hM⟩:∃M:Nat,kO (g1,(C:Int))=M:=⟨(kO (g1,(C:Int))).toNat,by omega⟩;have hAt:=kr (g1,(C:Int)) hg;rw[hM]at hAt nl⊢;simp only[aE]at hCm⊢;generalize hR:mH xs M C xs.length 0 [s0] [] []=R;refine fH hr hm rfl fun hb=>?_;simp+contextual-implicitDefEqProofs only[t8,eG,jz,eS,bo,bg,am,bj,aL,aM,ab,ay,eI,eB,D.put,D.cells,k9,gj,AV.gY,iG,lC,lN,gN.sub,fJ,fN,aE,aw,aC,aB,lK,lZ,aO,Int.reduceLT,Int.reduceLE,aI,Int.reduceBEq,Int.reduceEq,bE,Int.reduceToNat,D.size,D.f6,fX,fW,f9,gd,fV,fU,fT,aD,aF,az,aG,aA,aJ,fO,fC,lM,go_sem,Nat.reduceMul,Nat.reduceSub,iL,iN];refine qR (α:=Nat×List Int×List (List Bool)×List (List (List Int))) [5,7,8,9,10,11,12,13,14,19,22,23,24,25,26,27,28,29,30,31,32,33,34,35,36,37,38,39,40,41,42,43,44,45,46,47,48,49,50,51,52,53,54,55,56,57,58,59,60,61,62,63,64,65,66,67,68,69,70,71,72,73,74,75,76,77,78,79,80,81,82,83,84,85,86,87,88,89,90,91,92,93,94,95,96,97,98,99,100,101,102,103,104,105,106,107,108,109,110,111,112,113,114,115,116,117,118,119,120,121,122,123,124,125,126,127,128,129,130,131,132,133] (fun p=>[(7,.im none (.sc (.int .i64 p.1))),(5,.tr 19)]) (fun p=>[(2,.ar false (some false) 2 [.ag [.sc (.int .i64 g1),.sc (.int .i64 C)]]),(4,.ar true (some false) 4 [.ag [.sc (.int .i64 0),.sc (.int .i64 0),.ls (some true) 1 [],.ls (some true) 1 []]]),(6,.ar true (some false) 4 [.ag [.sc (.int .i64 g1),.sc (.int .i64 C),.ls (vT p.2.2.1) 1 (p.2.2.1.map zq),.ls (vT p.2.2.2) 1 (p.2.2.2.map qV)]]),(19,.own (.ls (some false) 1 (p.2.1.map eI)))]) (fun p=>p.1≤p.2.1.length∧sf xs.length p.2.1∧p.2.2.1.length=p.1∧p.2.2.2.length=p.1∧mH xs M C (xs.length-p.1) p.1 p.2.1 p.2.2.1 p.2.2.2=R) (fun p=>61-p.1) (0,[s0],[],[]) (iC.trans (iC.aec _ 19 [5] s0 (by rfl) (by rfl) (by simp[lk])) (iC.to [] (by simp only[go_sem];rfl) rfl (by simp[vT,eI]) (by rfl) (by simp only[f7,go_sem,jQ,kW,ab,ae,ay]<;>simp))) ⟨bu _,⟨by simp,by simpa using⟨jD,ou⟩⟩,rfl,rfl,hR⟩ ?_
 rintro⟨i,st,A,N⟩ ⟨PS,rO,hA,hN,yI⟩;simp only at PS rO hA hN yI⊢;have ah4:=rO.len
 by_cases hi:i<st.length
 ·rw[show xs.length-i=(xs.length-(i+1))+1 by omega]at yI;simp only[mH,an hi]at yI;have hsa:=rO.2 (st.getD i 0) (by rw[bi,bR hi];exact aZ hi);obtain⟨a,ha⟩:=dk hsa.1;rw[ha]at yI hsa;simp only[aE]at yI;have V8:a<xs.length:=by omega
  simp+contextual-implicitDefEqProofs only[hi,bo,bg,am,bj,aL,aM,ab,ay,eI,eB,D.put,D.cells,k9,gj,AV.gY,iG,lC,lN,gN.sub,fJ,fN,aE,aw,aC,aB,lK,lZ,aO,Int.reduceLT,Int.reduceLE,aI,Int.reduceBEq,Int.reduceEq,bE,Int.reduceToNat,D.size,D.f6,fX,fW,f9,gd,fV,fU,fT,aD,aF,az,aG,aA,aJ,fO,fC,lM,go_sem,Nat.reduceMul,Nat.reduceSub,iL,iN];refine qR (α:=Nat×List Int×List Bool×List (List Int)) [5,8,9,10,11,12,13,14,19,23,28,29,30,31,32,33,34,35,36,37,38,39,40,41,42,43,44,45,46,47,48,49,50,51,52,53,54,55,56,57,58,59,60,61,62,63,64,65,66,67,68,69,70,71,72,73,74,75,76,77,78,79,80,81,82,83,84,85,86,87,88,89,90,91,92,93,94,95,96,97,98,99,100,101,102,103,104,105,106,107,108,109,110,111,112,113,114,115,116,117,118,119,120,121] (fun q=>[(10,.im none (.sc (.int .i64 q.1))),(5,.tr 19),(8,.sm 28 0 q.1),(9,.sm 29 0 q.1)]) (fun q=>[(2,.ar false (some false) 2 [.ag [.sc (.int .i64 g1),.sc (.int .i64 C)]]),(4,.ar true (some false) 4 [.ag [.sc (.int .i64 0),.sc (.int .i64 0),.ls (some true) 1 [],.ls (some true) 1 []]]),(6,.ar true (some false) 4 [.ag [.sc (.int .i64 g1),.sc (.int .i64 C),.ls (vT A) 1 (A.map zq),.ls (vT N) 1 (N.map qV)]]),(19,.own (.ls (some false) 1 (q.2.1.map eI))),(28,.ar true (some false) 1 (q.2.2.1.map eB)),(29,.ar true (some false) 1 (q.2.2.2.map wC))]) (fun q=>q.1≤M∧q.2=ib xs C a st q.1) (fun q=>M-q.1) (0,st,[],[]) (iC.to [] (by simp only[go_sem];rfl) rfl (by simp) (by rfl) (by simp only[f7,go_sem,jQ,kW,ab,ae,ay]<;>simp)) ⟨bu _,rfl⟩ ?_
  rintro⟨t,q⟩ ⟨ht0,hqe⟩;simp only at ht0 hqe⊢;subst hqe;have Eo:=tl hS V8 rO (C:=C) t;obtain⟨sx,pZ⟩:=vq (xs:=xs) (C:=C) (i:=a) (st:=st) t;obtain⟨hq2,Ez⟩:=oZ (xs:=xs) (C:=C) (i:=a) (st:=st) t;have gD:ib xs C a st (t+1)=((kB xs C a (ib xs C a st t).1 t).1,(ib xs C a st t).2.1++[(kB xs C a (ib xs C a st t).1 t).2.1],(ib xs C a st t).2.2++[(kB xs C a (ib xs C a st t).1 t).2.2]):=rfl;generalize hq:ib xs C a st t=q at Eo pZ hq2 Ez gD⊢;obtain⟨nj,ac,V9⟩:=q;simp only at Eo pZ hq2 Ez gD⊢;have wO:=Eo.len;have EI:i<nj.length:=by rw[pZ,lP];omega
  have ai:D.at (nj.map eI) i=eI a:=by rw[rn (d:=0) EI,pZ,bi,da hi,←bi,ha]
  by_cases ht:t<M
  ·have ht':(t:Int)<(M:Int):=by omega
   simp+contextual-implicitDefEqProofs only[ht',bo,bg,am,bj,aL,aM,ab,ay,eI,eB,D.put,D.cells,k9,gj,AV.gY,iG,lC,lN,gN.sub,fJ,fN,aE,aw,aC,aB,lK,lZ,aO,Int.reduceLT,Int.reduceLE,aI,Int.reduceBEq,Int.reduceEq,bE,Int.reduceToNat,D.size,D.f6,fX,fW,f9,gd,fV,fU,fT,aD,aF,az,aG,aA,aJ,fO,fC,lM,go_sem,Nat.reduceMul,Nat.reduceSub,iL,iN];refine fy (ds:=[eG (g1,(C:Int))]) (by rfl) hAt ?_;simp+contextual-implicitDefEqProofs only[ht,ht',bo,bg,am,bj,aL,aM,ab,ay,eI,eB,D.put,D.cells,k9,gj,AV.gY,iG,lC,lN,gN.sub,fJ,fN,aE,aw,aC,aB,lK,lZ,aO,Int.reduceLT,Int.reduceLE,aI,Int.reduceBEq,Int.reduceEq,bE,Int.reduceToNat,D.size,D.f6,fX,fW,f9,gd,fV,fU,fT,aD,aF,az,aG,aA,aJ,fO,fC,lM,go_sem,Nat.reduceMul,Nat.reduceSub,iL,iN];refine qR (α:=Nat) [11,12,36,37,38,39,40,41,42,43,44,45] (fun j=>[(12,.im none (.sc (.int .i64 j))),(11,.sm 36 0 j)]) (fun j=>[(2,.ar false (some false) 2 [.ag [.sc (.int .i64 g1),.sc (.int .i64 C)]]),(4,.ar true (some false) 4 [.ag [.sc (.int .i64 0),.sc (.int .i64 0),.ls (some true) 1 [],.ls (some true) 1 []]]),(6,.ar true (some false) 4 [.ag [.sc (.int .i64 g1),.sc (.int .i64 C),.ls (vT A) 1 (A.map zq),.ls (vT N) 1 (N.map qV)]]),(19,.own (.ls (some false) 1 (nj.map eI))),(28,.ar true (some false) 1 (ac.map eB)),(29,.ar true (some false) 1 (V9.map wC)),(36,.ar true (some false) 1 ((List.replicate j (-1:Int)).map eI))]) (fun j=>j≤C) (fun j=>C-j) 0 (iC.to [] (by simp only[go_sem];rfl) rfl (by simp) (by rfl) (by simp only[f7,go_sem,jQ,kW,ab,ae,ay]<;>simp)) (bu _) ?_
   intro j hj0
   by_cases hj:j<C
   ·have hj':(j:Int)<(C:Int):=by omega
    simp+contextual-implicitDefEqProofs only[hj',cW,bo,bg,am,bj,aL,aM,ab,ay,eI,eB,D.put,D.cells,k9,gj,AV.gY,iG,lC,lN,gN.sub,fJ,fN,aE,aw,aC,aB,lK,lZ,aO,Int.reduceLT,Int.reduceLE,aI,Int.reduceBEq,Int.reduceEq,bE,Int.reduceToNat,D.size,D.f6,fX,fW,f9,gd,fV,fU,fT,aD,aF,az,aG,aA,aJ,fO,fC,lM,go_sem,Nat.reduceMul,Nat.reduceSub,iL,iN];refine⟨⟨by omega,by unfold gp;omega⟩,j+1,by omega,by omega,?_⟩;rw[fF (by omega) (by omega)];exact iC.to [] (by simp only[go_sem];rfl) rfl (by simp[MR,bH,eI]) (by rfl) (by simp only[f7,go_sem,jQ,kW,ab,ae,ay]<;>simp)
   obtain rfl:C=j:=by omega
   simp+contextual-implicitDefEqProofs only[cu,dB,cW,EI,ai,bo,bg,am,bj,aL,aM,ab,ay,eI,eB,D.put,D.cells,k9,gj,AV.gY,iG,lC,lN,gN.sub,fJ,fN,aE,aw,aC,aB,lK,lZ,aO,Int.reduceLT,Int.reduceLE,aI,Int.reduceBEq,Int.reduceEq,bE,Int.reduceToNat,D.size,D.f6,fX,fW,f9,gd,fV,fU,fT,aD,aF,az,aG,aA,aJ,fO,fC,lM,go_sem,Nat.reduceMul,Nat.reduceSub,iL,iN];refine fy (ds:=[.pt (jz (s0,nn,xs)) 0,.sc (.int .i64 a),.sc (.int .i64 t)]) (by rfl) (hCm a t i9 V8 (by omega) (by omega)) ?_;have lh:=rI hS (t:=t) (k:=xs.length+1) V8;unfold kB at gD;generalize iH xs t (xs.length+1) a=to at gD lh⊢
   by_cases h0:0≤to
   ·obtain⟨k,rfl⟩:=dk h0;have hk:k<xs.length:=by omega
    have ak:D.at (xs.map jg) k=jg (xs.getD k iX):=rn hk;have GV:=hS.act k hk;simp only[an h0,aE]at gD;generalize xs.getD k iX=x at ak GV gD;obtain⟨xk,xn,xe,xt,xl⟩:=x;simp only at GV gD
    by_cases h1:xk=1
    ·subst h1;obtain⟨b1,b2,b3,b4⟩:=GV rfl;obtain⟨xn,rfl⟩:=dk b1;simp only[an,↓reduceIte,aE]at gD;simp+contextual-implicitDefEqProofs only[h0,hk,ak,hq2,jg,bo,bg,am,bj,aL,aM,ab,ay,eI,eB,D.put,D.cells,k9,gj,AV.gY,iG,lC,lN,gN.sub,fJ,fN,aE,aw,aC,aB,lK,lZ,aO,Int.reduceLT,Int.reduceLE,aI,Int.reduceBEq,Int.reduceEq,bE,Int.reduceToNat,D.size,D.f6,fX,fW,f9,gd,fV,fU,fT,aD,aF,az,aG,aA,aJ,fO,fC,lM,go_sem,Nat.reduceMul,Nat.reduceSub,iL,iN];refine⟨⟨by omega,by unfold gp;omega⟩,?_⟩;refine fy (ds:=[.ls (some false) 1 (nj.map eI),.sc (.int .i64 xt)]) (by rfl) (AY (some false) nj xt (by omega)) ?_;have hxC:xn<C:=by omega
     by_cases hf:fI (fun y=>xt==y) nj nj.length<0
     ·rw[an hf]at gD;simp+contextual-implicitDefEqProofs only[hf,h0,hk,ak,Ez,hxC,cW,jg,bo,bg,am,bj,aL,aM,ab,ay,eI,eB,D.put,D.cells,k9,gj,AV.gY,iG,lC,lN,gN.sub,fJ,fN,aE,aw,aC,aB,lK,lZ,aO,Int.reduceLT,Int.reduceLE,aI,Int.reduceBEq,Int.reduceEq,bE,Int.reduceToNat,D.size,D.f6,fX,fW,f9,gd,fV,fU,fT,aD,aF,az,aG,aA,aJ,fO,fC,lM,go_sem,Nat.reduceMul,Nat.reduceSub,iL,iN];refine⟨⟨by omega,by unfold gp;omega⟩,by simp,⟨by omega,by unfold gp;omega⟩,(t+1,ib xs C a st (t+1)),⟨by omega,rfl⟩,by omega,?_⟩;rw[fF (by omega) (by omega),gD];refine iC.trans (iC.ren _ 106 19 [5] (.ls (some false) 1 (nj.map eI++[.sc (.int .i64 xt)])) (by rfl) (by rfl) (by simp;rfl)) ?_;exact iC.to [] (by simp only[go_sem];rfl) rfl (by simp[bH,dA,wC,eI,eB]) (by rfl) (by simp only[f7,go_sem,jQ,kW,ab,ae,ay]<;>simp)
     rw[al hf]at gD;simp+contextual-implicitDefEqProofs only[hf,h0,hk,ak,Ez,hxC,cW,jg,bo,bg,am,bj,aL,aM,ab,ay,eI,eB,D.put,D.cells,k9,gj,AV.gY,iG,lC,lN,gN.sub,fJ,fN,aE,aw,aC,aB,lK,lZ,aO,Int.reduceLT,Int.reduceLE,aI,Int.reduceBEq,Int.reduceEq,bE,Int.reduceToNat,D.size,D.f6,fX,fW,f9,gd,fV,fU,fT,aD,aF,az,aG,aA,aJ,fO,fC,lM,go_sem,Nat.reduceMul,Nat.reduceSub,iL,iN];refine⟨by simp,⟨by omega,by unfold gp;omega⟩,(t+1,ib xs C a st (t+1)),⟨by omega,rfl⟩,by omega,?_⟩;rw[fF (by omega) (by omega),gD];exact iC.to [] (by simp only[go_sem];rfl) rfl (by simp[bH,dA,wC,eI,eB]) (by rfl) (by simp only[f7,go_sem,jQ,kW,ab,ae,ay]<;>simp)
    have vL:(xk==1)=false:=by simp[h1]
    rw[al h1]at gD;simp+contextual-implicitDefEqProofs only[h0,hk,ak,vL,hq2,Ez,cW,jg,bo,bg,am,bj,aL,aM,ab,ay,eI,eB,D.put,D.cells,k9,gj,AV.gY,iG,lC,lN,gN.sub,fJ,fN,aE,aw,aC,aB,lK,lZ,aO,Int.reduceLT,Int.reduceLE,aI,Int.reduceBEq,Int.reduceEq,bE,Int.reduceToNat,D.size,D.f6,fX,fW,f9,gd,fV,fU,fT,aD,aF,az,aG,aA,aJ,fO,fC,lM,go_sem,Nat.reduceMul,Nat.reduceSub,iL,iN];refine⟨⟨by omega,by unfold gp;omega⟩,⟨by omega,by unfold gp;omega⟩,(t+1,ib xs C a st (t+1)),⟨by omega,rfl⟩,by omega,?_⟩;rw[fF (by omega) (by omega),gD];exact iC.to [] (by simp only[go_sem];rfl) rfl (by simp[bH,dA,wC,eI,eB]) (by rfl) (by simp only[f7,go_sem,jQ,kW,ab,ae,ay]<;>simp)
   have th:decide (0≤to)=false:=by simp[h0]
   rw[al h0]at gD;simp+contextual-implicitDefEqProofs only[h0,th,hq2,Ez,cW,bo,bg,am,bj,aL,aM,ab,ay,eI,eB,D.put,D.cells,k9,gj,AV.gY,iG,lC,lN,gN.sub,fJ,fN,aE,aw,aC,aB,lK,lZ,aO,Int.reduceLT,Int.reduceLE,aI,Int.reduceBEq,Int.reduceEq,bE,Int.reduceToNat,D.size,D.f6,fX,fW,f9,gd,fV,fU,fT,aD,aF,az,aG,aA,aJ,fO,fC,lM,go_sem,Nat.reduceMul,Nat.reduceSub,iL,iN];refine⟨⟨by omega,by unfold gp;omega⟩,⟨by omega,by unfold gp;omega⟩,(t+1,ib xs C a st (t+1)),⟨by omega,rfl⟩,by omega,?_⟩;rw[fF (by omega) (by omega),gD];exact iC.to [] (by simp only[go_sem];rfl) rfl (by simp[bH,dA,wC,eI,eB]) (by rfl) (by simp only[f7,go_sem,jQ,kW,ab,ae,ay]<;>simp)
  obtain rfl:M=t:=by omega
  simp+contextual-implicitDefEqProofs only[cu,dB,bo,bg,am,bj,aL,aM,ab,ay,eI,eB,D.put,D.cells,k9,gj,AV.gY,iG,lC,lN,gN.sub,fJ,fN,aE,aw,aC,aB,lK,lZ,aO,Int.reduceLT,Int.reduceLE,aI,Int.reduceBEq,Int.reduceEq,bE,Int.reduceToNat,D.size,D.f6,fX,fW,f9,gd,fV,fU,fT,aD,aF,az,aG,aA,aJ,fO,fC,lM,go_sem,Nat.reduceMul,Nat.reduceSub,iL,iN];refine fy (ds:=[eG (g1,(C:Int))]) (by rfl) hAt ?_;rw[hq]at yI;simp only at yI;have hnA:vT (A++[ac])=some false:=wW (by simp);have hnN:vT (N++[V9])=some false:=wW (by simp);simp+contextual-implicitDefEqProofs only[cu,dB,hq2,Ez,hA,hN,bo,bg,am,bj,aL,aM,ab,ay,eI,eB,D.put,D.cells,k9,gj,AV.gY,iG,lC,lN,gN.sub,fJ,fN,aE,aw,aC,aB,lK,lZ,aO,Int.reduceLT,Int.reduceLE,aI,Int.reduceBEq,Int.reduceEq,bE,Int.reduceToNat,D.size,D.f6,fX,fW,f9,gd,fV,fU,fT,aD,aF,az,aG,aA,aJ,fO,fC,lM,go_sem,Nat.reduceMul,Nat.reduceSub,iL,iN]
  refine⟨⟨by omega,by unfold gp;omega⟩,⟨by omega,by unfold gp;omega⟩,(i+1,nj,A++[ac],N++[V9]),⟨by show i+1≤nj.length;omega,Eo,by simp[hA],by simp[hN],yI⟩,by show 61-(i+1)<61-i;omega,?_⟩;rw[fF (by omega) (by omega)];exact iC.to [] (by simp only[go_sem];rfl) rfl (by simp[hnA,hnN,bH,zq,qV]) (by rfl) (by simp only[f7,go_sem,jQ,kW,ab,ae,ay]<;>simp)
 obtain rfl:i=st.length:=by omega
 simp+contextual-implicitDefEqProofs only[cu,dB,bo,bg,am,bj,aL,aM,ab,ay,eI,eB,D.put,D.cells,k9,gj,AV.gY,iG,lC,lN,gN.sub,fJ,fN,aE,aw,aC,aB,lK,lZ,aO,Int.reduceLT,Int.reduceLE,aI,Int.reduceBEq,Int.reduceEq,bE,Int.reduceToNat,D.size,D.f6,fX,fW,f9,gd,fV,fU,fT,aD,aF,az,aG,aA,aJ,fO,fC,lM,go_sem,Nat.reduceMul,Nat.reduceSub,iL,iN];rw[Ar]at yI;subst yI;unfold xR;exact D.Le.refl _
def KD{x y:D}:D.at [x,y] 1=y:=rfl
def pJ(g:Nat):RC:=(.s [.b 2 3 0,.v 4 .cf] (.seq (.s [.f 5 0 2,.l 6 1 5] (.iV 0 (.s [.q 8 6 2,.m 7 8] (.cond (.t 7) (.s [.v 4 .ct] .ret) (.s [.q 10 6 3,.m 9 10] (.cond (.t 9) (.s [.m 11 1,.f 12 1 2,.l 13 1 12,.o (.bin 14 .shr (.t 11) (.t 13)),.o (.bin 15 .and (.t 14) (.ci 1)),.q 16 15 1,.m 4 16] .ret) (.s [.q 18 6 5,.m 17 18] (.cond (.t 17) (.s [.f 19 2 2,.l 20 1 19,.i 21 3 20 0,.L 22 3 21,.m 23 1,.c 24 g [.t 22,.t 23],.o (.un 25 .not (.t 24)),.m 4 25] .ret) (.s [.q 27 6 6,.m 26 27] (.cond (.t 26) (.s [.f 28 2 2,.l 29 1 28,.i 30 3 29 0,.L 31 3 30,.m 32 1,.c 33 g [.t 31,.t 32],.m 34 33,.u 34 (.fa 35 2 (.t 2)),.u 34 (.ld 36 false 1 (.t 35)),.u 34 (.ia 37 3 (.t 36) (.ci 1)),.u 34 (.ld 38 true 3 (.t 37)),.u 34 (.mv 39 (.t 1)),.u 34 (.call (some 40) g [.t 38,.t 39]),.o (.pick 41 (.t 34) .ct (.t 40)),.m 4 41] .ret) (.s [.q 43 6 7,.m 42 43] (.cond (.t 42) (.s [.f 44 2 2,.l 45 1 44,.i 46 3 45 0,.L 47 3 46,.m 48 1,.c 49 g [.t 47,.t 48],.m 50 49,.w 50 (.fa 51 2 (.t 2)),.w 50 (.ld 52 false 1 (.t 51)),.w 50 (.ia 53 3 (.t 52) (.ci 1)),.w 50 (.ld 54 true 3 (.t 53)),.wm 50 55 1,.w 50 (.call (some 56) g [.t 54,.t 55]),.k 57 50 56,.m 4 57] .ret) .skip)))))))))))) (.s [.v 4 .cf] .ret)))
def BA(P:Program)(rR:Nat):Prop:=∀(g0:Int×Int)(_:xF g0=true)(a:Int),0≤a→a≤7→∀e:Ex,js g0 e=true→j5 e=true→AF P rR [eE e,.sc (.int .i64 a)] (.own (eB (nO a e)))
def Sy(hm:Mx P){g:Nat}(hr:gq P g=some (58,pJ g,[.t 4])):BA P g:=by
 intro g0 hg a ha0 ha1;have key:∀N:Nat,∀e:Ex,iW e≤N→js g0 e=true→j5 e=true→AF P g [eE e,.sc (.int .i64 a)] (.own (eB (nO a e))):=by
  intro N
  induction N with
  |zero=>intro e hz;have:=kc e;omega
  |succ N ih=>
   intro e hz UY hC;obtain⟨k,n,nn,ks,rfl⟩:=Ex.ex e;have VP:=As UY;have hkT:=Aw UY;rw[tO,bA,aY]at hC;rw[nO];refine fH hr hm rfl fun _=>?_;simp only[Gu,qT,sU,kQ]
   by_cases c1:k=1
   ·subst c1;simp+contextual-implicitDefEqProofs only[pJ,fJ,fN,gN.sub,KD,aU,aL,aM,ab,ay,eI,eB,D.put,D.cells,lC,lN,aE,aw,aC,aB,lK,lZ,aO,Int.reduceLT,Int.reduceLE,aI,Int.reduceBEq,Int.reduceEq,bE,Int.reduceToNat,D.size,D.f6,fX,fW,f9,gd,fV,fU,fT,aD,aF,az,aG,aA,aJ,fO,fC,lM,go_sem,Nat.reduceMul,Nat.reduceSub,iL,iN]
    try exact D.Le.refl _
   have d1:(k==1)=false:=ca c1;rw[al c1]
   by_cases c2:k=2
   ·subst c2;simp+contextual-implicitDefEqProofs only[pJ,fJ,fN,gN.sub,KD,aU,aL,aM,ab,ay,eI,eB,D.put,D.cells,lC,lN,aE,aw,aC,aB,lK,lZ,aO,Int.reduceLT,Int.reduceLE,aI,Int.reduceBEq,Int.reduceEq,bE,Int.reduceToNat,D.size,D.f6,fX,fW,f9,gd,fV,fU,fT,aD,aF,az,aG,aA,aJ,fO,fC,lM,go_sem,Nat.reduceMul,Nat.reduceSub,iL,iN]
    try exact D.Le.refl _
   have d2:(k==2)=false:=ca c2;rw[al c2]
   by_cases c3:k=3
   ·subst c3;obtain⟨m,rfl,h30⟩:=Dd hg VP;simp+contextual-implicitDefEqProofs only[pJ,fJ,fN,gN.sub,KD,aU,aL,aM,ab,ay,eI,eB,D.put,D.cells,lC,lN,aE,aw,aC,aB,lK,lZ,aO,Int.reduceLT,Int.reduceLE,aI,Int.reduceBEq,Int.reduceEq,bE,Int.reduceToNat,D.size,D.f6,fX,fW,f9,gd,fV,fU,fT,aD,aF,az,aG,aA,aJ,fO,fC,lM,go_sem,Nat.reduceMul,Nat.reduceSub,iL,iN];have e64:min m 64=m:=by omega
    erw [e64]
    erw [MX ha0 (by omega)]
    exact D.Le.refl _
   have d3:(k==3)=false:=ca c3;rw[al c3]
   by_cases c5:k=5
   ·subst c5;obtain⟨x,rfl⟩:=Hw VP;have hx:=hkT x (by simp);have hs:1+iW x≤N+1:=by rw[kD]at hz;simpa[jq]using hz
    simp only[mW,aD];simp+contextual-implicitDefEqProofs only[pJ,fJ,fN,gN.sub,KD,aU,aL,aM,ab,ay,eI,eB,D.put,D.cells,lC,lN,aE,aw,aC,aB,lK,lZ,aO,Int.reduceLT,Int.reduceLE,aI,Int.reduceBEq,Int.reduceEq,bE,Int.reduceToNat,D.size,D.f6,fX,fW,f9,gd,fV,fU,fT,aD,aF,az,aG,aA,aJ,fO,fC,lM,go_sem,Nat.reduceMul,Nat.reduceSub,iL,iN];refine fy (ds:=[eE x,.sc (.int .i64 a)]) (by rfl) (ih x (by omega) hx (hC.2 x (by simp))) ?_;simp+contextual-implicitDefEqProofs only[fJ,fN,gN.sub,KD,aU,aL,aM,ab,ay,eI,eB,D.put,D.cells,lC,lN,aE,aw,aC,aB,lK,lZ,aO,Int.reduceLT,Int.reduceLE,aI,Int.reduceBEq,Int.reduceEq,bE,Int.reduceToNat,D.size,D.f6,fX,fW,f9,gd,fV,fU,fT,aD,aF,az,aG,aA,aJ,fO,fC,lM,go_sem,Nat.reduceMul,Nat.reduceSub,iL,iN]
    try exact D.Le.refl _
   have d5:(k==5)=false:=ca c5;rw[al c5]
   by_cases c6:k=6
   ·subst c6;obtain⟨x,y,rfl,hx,hy⟩:=tZ (.inl rfl) UY;have hs:1+(iW x+iW y)≤N+1:=by rw[kD]at hz;simpa[jq]using hz
    have hxp:=kc x;have hyp:=kc y;simp only[mW,aD,aF];simp+contextual-implicitDefEqProofs only[pJ,fJ,fN,gN.sub,KD,aU,aL,aM,ab,ay,eI,eB,D.put,D.cells,lC,lN,aE,aw,aC,aB,lK,lZ,aO,Int.reduceLT,Int.reduceLE,aI,Int.reduceBEq,Int.reduceEq,bE,Int.reduceToNat,D.size,D.f6,fX,fW,f9,gd,fV,fU,fT,aD,aF,az,aG,aA,aJ,fO,fC,lM,go_sem,Nat.reduceMul,Nat.reduceSub,iL,iN];refine fy (ds:=[eE x,.sc (.int .i64 a)]) (by rfl) (ih x (by omega) hx (hC.2 x (by simp))) ?_;cases hv:nO a x with
    |true=>
     simp+contextual-implicitDefEqProofs only[hv,bne,bT,bN,bI,bG,bU,bJ,ah,ae,af,ab,fJ,fN,gN.sub,KD,aU,aL,aM,ay,eI,eB,D.put,D.cells,lC,lN,aE,aw,aC,aB,lK,lZ,aO,Int.reduceLT,Int.reduceLE,aI,Int.reduceBEq,Int.reduceEq,bE,Int.reduceToNat,D.size,D.f6,fX,fW,f9,gd,fV,fU,fT,aD,aF,az,aG,aA,aJ,fO,fC,lM,go_sem,Nat.reduceMul,Nat.reduceSub,iL,iN]
     try exact D.Le.refl _
    |false=>
     simp+contextual-implicitDefEqProofs only[hv,bne,bT,bN,bI,bG,bU,bJ,ah,ae,af,ab,fJ,fN,gN.sub,KD,aU,aL,aM,ay,eI,eB,D.put,D.cells,lC,lN,aE,aw,aC,aB,lK,lZ,aO,Int.reduceLT,Int.reduceLE,aI,Int.reduceBEq,Int.reduceEq,bE,Int.reduceToNat,D.size,D.f6,fX,fW,f9,gd,fV,fU,fT,aD,aF,az,aG,aA,aJ,fO,fC,lM,go_sem,Nat.reduceMul,Nat.reduceSub,iL,iN];refine fy (ds:=[eE y,.sc (.int .i64 a)]) (by rfl) (ih y (by omega) hy (hC.2 y (by simp))) ?_;simp+contextual-implicitDefEqProofs only[bne,bT,bN,bI,bG,bU,bJ,ah,ae,af,ab,fJ,fN,gN.sub,KD,aU,aL,aM,ay,eI,eB,D.put,D.cells,lC,lN,aE,aw,aC,aB,lK,lZ,aO,Int.reduceLT,Int.reduceLE,aI,Int.reduceBEq,Int.reduceEq,bE,Int.reduceToNat,D.size,D.f6,fX,fW,f9,gd,fV,fU,fT,aD,aF,az,aG,aA,aJ,fO,fC,lM,go_sem,Nat.reduceMul,Nat.reduceSub,iL,iN]
     try exact D.Le.refl _
   have d6:(k==6)=false:=ca c6;rw[al c6];have c7:k=7:=by
    have h:=hC.1;unfold nu at h;rw[ca c1,ca c2,ca c3,ca c5,ca c6]at h;simpa using h
   subst c7;obtain⟨x,y,rfl,hx,hy⟩:=tZ (.inr rfl) UY;have hs:1+(iW x+iW y)≤N+1:=by rw[kD]at hz;simpa[jq]using hz
   have hxp:=kc x;have hyp:=kc y;simp only[mW,aD,aF];simp+contextual-implicitDefEqProofs only[pJ,fJ,fN,gN.sub,KD,aU,aL,aM,ab,ay,eI,eB,D.put,D.cells,lC,lN,aE,aw,aC,aB,lK,lZ,aO,Int.reduceLT,Int.reduceLE,aI,Int.reduceBEq,Int.reduceEq,bE,Int.reduceToNat,D.size,D.f6,fX,fW,f9,gd,fV,fU,fT,aD,aF,az,aG,aA,aJ,fO,fC,lM,go_sem,Nat.reduceMul,Nat.reduceSub,iL,iN];refine fy (ds:=[eE x,.sc (.int .i64 a)]) (by rfl) (ih x (by omega) hx (hC.2 x (by simp))) ?_;cases hv:nO a x with
   |true=>
    simp+contextual-implicitDefEqProofs only[hv,bne,bT,bN,bI,bG,bU,bJ,ah,ae,af,ab,fJ,fN,gN.sub,KD,aU,aL,aM,ay,eI,eB,D.put,D.cells,lC,lN,aE,aw,aC,aB,lK,lZ,aO,Int.reduceLT,Int.reduceLE,aI,Int.reduceBEq,Int.reduceEq,bE,Int.reduceToNat,D.size,D.f6,fX,fW,f9,gd,fV,fU,fT,aD,aF,az,aG,aA,aJ,fO,fC,lM,go_sem,Nat.reduceMul,Nat.reduceSub,iL,iN];refine fy (ds:=[eE y,.sc (.int .i64 a)]) (by rfl) (ih y (by omega) hy (hC.2 y (by simp))) ?_;simp+contextual-implicitDefEqProofs only[bne,bT,bN,bI,bG,bU,bJ,ah,ae,af,ab,fJ,fN,gN.sub,KD,aU,aL,aM,ay,eI,eB,D.put,D.cells,lC,lN,aE,aw,aC,aB,lK,lZ,aO,Int.reduceLT,Int.reduceLE,aI,Int.reduceBEq,Int.reduceEq,bE,Int.reduceToNat,D.size,D.f6,fX,fW,f9,gd,fV,fU,fT,aD,aF,az,aG,aA,aJ,fO,fC,lM,go_sem,Nat.reduceMul,Nat.reduceSub,iL,iN]
    try exact D.Le.refl _
   |false=>
    simp+contextual-implicitDefEqProofs only[hv,bne,bT,bN,bI,bG,bU,bJ,ah,ae,af,ab,fJ,fN,gN.sub,KD,aU,aL,aM,ay,eI,eB,D.put,D.cells,lC,lN,aE,aw,aC,aB,lK,lZ,aO,Int.reduceLT,Int.reduceLE,aI,Int.reduceBEq,Int.reduceEq,bE,Int.reduceToNat,D.size,D.f6,fX,fW,f9,gd,fV,fU,fT,aD,aF,az,aG,aA,aJ,fO,fC,lM,go_sem,Nat.reduceMul,Nat.reduceSub,iL,iN]
    try exact D.Le.refl _
 exact fun e hT hC=>key _ e (aU _) hT hC
end Go.Ax
