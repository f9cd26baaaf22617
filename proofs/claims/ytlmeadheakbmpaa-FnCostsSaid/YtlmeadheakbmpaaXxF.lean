/- Contracts of functions of the seat, proved over the engine. No condition. -/
import Derived.Test.YtlmeadheakbmpaaXxE
import Derived.Test.YtlmeadheakbmpaaXxD
set_option linter.all false
namespace Go.Ax
set_option maxRecDepth 20000
set_option maxHeartbeats 4000000
mutual
def Ar:Ex→Ex→Ex
 |.mk k n nn ks,b=>if k=1∨b.k=1 then .mk 1 0 (some true) []else if k=2 then rK b else if b.k=2 then rK (.mk k n nn ks)else if k=7 then pO ks b else .mk 7 0 (some false) [rK (.mk k n nn ks),rK b]
def pO:List Ex→Ex→Ex
 | [],b=>b
 |x::xs,b=>Ar x (pO xs b)
end
def ww(a:Ex):Ex:=if jA a=true then .mk 2 0 (some true) []else if a.k=8 then rK a else .mk 8 0 (some false) [rK a]
mutual
def jM:Ex→Ex
 |.mk k n nn ks=>if k=6 then Kq ((kH ks).getD 0 default) ((kH ks).getD 1 default)else if k=7 then Ar ((kH ks).getD 0 default) ((kH ks).getD 1 default)else if k=8 then ww ((kH ks).getD 0 default)else rK (.mk k n nn ks)
def kH:List Ex→List Ex
 | []=>[]
 |e::es=>jM e::kH es
end
def Hl{α:Type}{f g:α→Bool}:∀{l:List α},(∀x∈l,f x=g x)→l.all f=l.all g
 | [],_=>rfl
 |x::l,h=>by rw[cJ,cJ,h x (by simp),Hl fun y hy=>h y (by simp[hy])]
def pg(e:Ex):fZ (rK e)=fZ e:=by
 refine Ex.ind (p:=fun e=>fZ (rK e)=fZ e) (fun k n nn ks ih=>?_) e;rw[Af,gw,gw];have:∀l:List Ex,(∀x∈l,fZ (rK x)=fZ x)→gq (l.map rK)=gq l:=by
  intro l
  induction l with
  |nil=>intro _;rfl
  |cons x l ih=>intro h;simp only[lC,gq,h x (by simp),ih fun y hy=>h y (by simp[hy])]
 rw[this ks ih]
def TC(e:Ex):jA (rK e)=jA e:=by
 refine Ex.ind (p:=fun e=>jA (rK e)=jA e) (fun k n nn ks ih=>?_) e;rw[Af,kM,kM];congr 1;rw[List.all_map];exact Hl fun x hx=>ih x hx
variable {g:Int×Int}
def nZ(e:Ex):f8 g (rK e)=f8 g e:=by
 refine Ex.ind (p:=fun e=>f8 g (rK e)=f8 g e) (fun k n nn ks ih=>?_) e;rw[Af,ja,ja];have h1:gE g k n (ks.map rK)=gE g k n ks:=by
  unfold gE;rw[lM];cases ks with
  |nil=>rfl
  |cons x xs=>simp only[lC,Ge,TC]
 rw[h1];congr 1;rw[List.all_map];exact Hl fun x hx=>ih x hx
variable {a b:Ex}{k:Int}{nn:Option Bool}
def sy(hk:k=6∨k=7):f8 g (.mk k 0 nn [a,b])=(f8 g a&&f8 g b):=by
 rw[ja];rcases hk with rfl|rfl<;>simp[gE,jU]
def Un:f8 g (.mk 8 0 nn [a])=f8 g a:=by
 rw[ja];simp[gE,jU]
def qg(hk:k=1∨k=2):f8 g (.mk k 0 nn [])=true:=by
 rw[ja];rcases hk with rfl|rfl<;>simp[gE,jU]
mutual
def HM:∀(a b:Ex),f8 g a=true→f8 g b=true→f8 g (Ar a b)=true∧fZ (Ar a b)≤fZ a+fZ b+1
 |.mk k n nn ks,b,ha,hb=>by
  have hp:=iu b;rw[Ar]
  split
  ·refine⟨qg (.inl rfl),by rw[gw];simp only[gq];omega⟩
  split
  ·rw[nZ,pg];exact⟨hb,by omega⟩
  split
  ·rw[nZ,pg];exact⟨ha,by omega⟩
  split
  ·have h1:=DG ks b (iF ha) hb;have h2:gq ks+fZ b+ks.length≤fZ (.mk k n nn ks)+fZ b+1:=by
    rename_i h7
    obtain⟨x,y,rfl,_,_⟩:=ik (.inr h7) ha;rw[gw];simp only[gq,lK,lZ];omega
   exact⟨h1.1,by omega⟩
  refine⟨by rw[sy (.inr rfl),nZ,nZ,ha,hb];rfl,?_⟩;rw[gw (k:=7)];simp only[gq,pg];omega
def DG:∀(xs:List Ex)(b:Ex),(∀x∈xs,f8 g x=true)→f8 g b=true→f8 g (pO xs b)=true∧fZ (pO xs b)≤gq xs+fZ b+xs.length
 | [],b,_,hb=>by simp only[pO,gq,lZ];exact⟨hb,by omega⟩
 |x::xs,b,hx,hb=>by
  have h1:=DG xs b (fun y hy=>hx y (by simp[hy])) hb;have h2:=HM x (pO xs b) (hx x (by simp)) h1.1;simp only[pO,gq,lK];exact⟨h2.1,by omega⟩
end
def UQ(ha:f8 g a=true):f8 g (ww a)=true∧fZ (ww a)≤fZ a+1:=by
 unfold ww
 split
 ·exact⟨qg (.inr rfl),by rw[gw];simp only[gq];omega⟩
 split
 ·rw[nZ,pg];exact⟨ha,by omega⟩
 rw[Un,nZ];refine⟨ha,?_⟩;rw[gw];simp only[gq,pg];omega
def wL:List Ex→Nat
 | []=>0
 |x::xs=>fZ x+1+wL xs
def Vl:∀{a b:List Ex},wL (a++b)=wL a+wL b
 | [],b=>by simp[wL]
 |x::a,b=>by simp only[bf,wL,Vl (a:=a)];omega
variable {x:Ex}
def V3:∀{l:List Ex},wL (tW x l)=wL l+fZ x+1
 | []=>by simp[tW,wL]
 |y::ys=>by
  rw[tW]
  split;simp only[wL,V3 (l:=ys)];omega;simp only[wL];omega
variable {l:List Ex}
def aaA:wL (ma l)=wL l:=by
 have:∀(l acc:List Ex),wL (l.foldl (fun acc x=>tW x acc) acc)=wL acc+wL l:=by
  intro l
  induction l with
  |nil=>intro acc;simp[wL]
  |cons x l ih=>intro acc;rw[de,ih,V3];simp only[wL];omega
 rw[ma,this];simp[wL]
mutual
def Hz:∀(e:Ex)(acc:List Ex),f8 g e=true→wL (iH e acc)≤wL acc+fZ e+1
 |.mk k n nn ks,acc,h=>by
  rw[iH]
  split;omega
  split
  ·rename_i h6
   have h1:=KH ks acc (iF h);obtain⟨x,y,rfl,_,_⟩:=ik (.inl h6) h;rw[gw];simp only[lK,lZ]at h1;omega
  split
  omega;rw[Vl];simp only[wL];omega
def KH:∀(es:List Ex)(acc:List Ex),(∀e∈es,f8 g e=true)→wL (lU es acc)≤wL acc+gq es+es.length
 | [],acc,_=>by simp[lU]
 |e::es,acc,h=>by
  have h1:=Hz e acc (h e (by simp));have h2:=KH es (iH e acc) (fun y hy=>h y (by simp[hy]));simp only[lU,gq,lK];omega
end
def V1(h:∀x∈l,f8 g x=true):f8 g (mS l)=true∧fZ (mS l)≤wL l+1∧(l≠[]→fZ (mS l)+1≤wL l):=by
 cases l with
 |nil=>exact⟨qg (.inl rfl),by simp[mS,gw,gq],by simp⟩
 |cons x xs=>
  have:∀(xs:List Ex)(acc:Ex),(∀y∈xs,f8 g y=true)→f8 g acc=true→f8 g (xs.foldl (fun acc y=>.mk 6 0 (some false) [acc,rK y]) acc)=true∧fZ (xs.foldl (fun acc y=>.mk 6 0 (some false) [acc,rK y]) acc)≤fZ acc+wL xs:=by
   intro xs
   induction xs with
   |nil=>intro acc _ ha;exact⟨ha,by simp[wL]⟩
   |cons y ys ih=>
    intro acc hy ha;have:=ih (.mk 6 0 (some false) [acc,rK y]) (fun z hz=>hy z (by simp[hz])) (by rw[sy (.inl rfl),nZ,ha,hy y (by simp)];rfl);rw[de];refine⟨this.1,?_⟩;have h2:=this.2;rw[gw (k:=6)]at h2;simp only[gq,pg,wL]at h2⊢;omega
  have h1:=this xs (rK x) (fun y hy=>h y (by simp[hy])) (by rw[nZ];exact h x (by simp));rw[pg]at h1;simp only[mS,wL];exact⟨h1.1,by omega,fun _=>by omega⟩
def aaW(ha:f8 g a=true)(hb:f8 g b=true):f8 g (Kq a b)=true∧fZ (Kq a b)≤fZ a+fZ b+1:=by
 have hm:∀x∈ma (iH b (iH a [])),f8 g x=true:=by
  intro x hx;rcases rW b _ hb x (vD.1 hx)with h|h
  ·rcases rW a _ ha x h with h|h
   cases h;exact h.1
  exact h.1
 have h1:=Hz a [] ha;have h2:=Hz b (iH a []) hb;have h3:=V1 hm;have hp:=iu a;rw[aaA]at h3;simp only[wL]at h1;unfold Kq;refine⟨h3.1,?_⟩
 by_cases he:ma (iH b (iH a []))=[];rw[he];simp[mS,gw,gq];have:=h3.2.2 he;omega
mutual
def jO:∀e:Ex,f8 g e=true→f8 g (jM e)=true∧fZ (jM e)≤fZ e
 |.mk k n nn ks,h=>by
  have hk:=Fc ks (iF h);rw[jM]
  split
  ·rename_i h6
   obtain⟨x,y,rfl,hx,hy⟩:=ik (.inl h6) h;simp only[kH,ab,cF,cI]at hk⊢;have h1:=hk.1 (jM x) (.inl rfl);have h2:=hk.1 (jM y) (.inr rfl);have h3:=aaW h1 h2;have h4:=hk.2;simp only[gq]at h4;rw[gw];simp only[gq,aj,ak];exact⟨h3.1,by omega⟩
  split
  ·rename_i h7
   obtain⟨x,y,rfl,hx,hy⟩:=ik (.inr h7) h;simp only[kH,ab,cF,cI]at hk⊢;have h1:=hk.1 (jM x) (.inl rfl);have h2:=hk.1 (jM y) (.inr rfl);have h3:=HM _ _ h1 h2;have h4:=hk.2;simp only[gq]at h4;rw[gw];simp only[gq,aj,ak];exact⟨h3.1,by omega⟩
  split
  ·rename_i h8
   have hf:=jo h;subst h8
   match ks,hf with
   | [x],_=>
    simp only[kH,ab,cF,cI]at hk⊢;have h1:=hk.1 (jM x) rfl;have h3:=UQ h1;have h4:=hk.2;simp only[gq]at h4;rw[gw];simp only[gq,aj];exact⟨h3.1,by omega⟩
   | [],hf=>simp[gE,jU]at hf
   |_::_::_,hf=>simp[gE,jU]at hf;omega
  rw[nZ,pg];exact⟨h,aw _⟩
def Fc:∀es:List Ex,(∀e∈es,f8 g e=true)→(∀x∈kH es,f8 g x=true)∧gq (kH es)≤gq es
 | [],_=>by simp[kH,gq]
 |e::es,h=>by
  have h1:=jO e (h e (by simp));have h2:=Fc es (fun y hy=>h y (by simp[hy]));simp only[kH,gq];refine⟨fun x hx=>?_,by omega⟩;rcases ab.1 hx with rfl|hx
  exact h1.1;exact h2.1 x hx
end
def qq(g f1 f2 f3:Nat):RC:=(.s [.o (.zer 4 3 .ze)] (.seq (.gX 0 (.s [.m 7 0,.n 8 7,.f 9 0 8,.l 10 1 9,.q 11 10 1,.m 12 11,.u 12 (.mv 13 (.t 1)),.u 12 (.nck 14 (.t 13)),.u 12 (.fa 15 0 (.t 14)),.u 12 (.ld 16 false 1 (.t 15)),.u 12 (.bin 17 .eql (.t 16) (.ci 1)),.o (.pick 18 (.t 12) .ct (.t 17)),.m 6 18] (.cond (.t 6) (.s [.c 19 f1 [],.s 3 4 19] .ret) (.s [.m 21 0,.n 22 21,.f 23 0 22,.l 24 1 23,.q 25 24 2,.m 20 25] (.cond (.t 20) (.s [.m 26 1,.c 27 f2 [.t 26],.s 3 4 27] .ret) (.s [.m 29 1,.n 30 29,.f 31 0 30,.l 32 1 31,.q 33 32 2,.m 28 33] (.cond (.t 28) (.s [.m 34 0,.c 35 f2 [.t 34],.s 3 4 35] .ret) (.s [.m 37 0,.n 38 37,.f 39 0 38,.l 40 1 39,.q 41 40 7,.m 36 41] (.cond (.t 36) (.s [.m 42 0,.n 43 42,.f 44 2 43,.l 45 1 44,.i 46 3 45 1,.m 47 1,.c 48 g [.t 46,.t 47],.o (.zer 5 3 .ze),.s 3 5 48] (.s [.m 49 0,.n 50 49,.f 51 2 50,.l 52 1 51,.i 53 3 52 0,.c 54 g [.t 53,.t 5],.s 3 4 54] .ret)) .skip))))))))) (.s [.m 55 0,.c 56 f2 [.t 55],.m 57 1,.c 58 f2 [.t 57],.c 59 f3 [.ci 7,.t 56,.t 58],.s 3 4 59] .ret)))
def C9(P:Program)(iV:Nat):Prop:=∀(g0:Int×Int)(_:oC g0=true)(a:Ex),f8 g0 a=true→∀b:Ex,f8 g0 b=true→AF P iV [.pt (eE a) 0,.pt (eE b) 0] (.own (eE (Ar a b)))
variable {f1 f2 f3:Nat}{P:Program}
def Ui(hm:Mx P){g:Nat}(hr:il P g=some (60,qq g f1 f2 f3,[.c 4 3 true]))(iS:sj P f1)(jw:rY P f2)(pd:nj P f3):C9 P g:=by
 intro g0 hg a;have key:∀N:Nat,∀a:Ex,fZ a≤N→f8 g0 a=true→∀b:Ex,f8 g0 b=true→AF P g [.pt (eE a) 0,.pt (eE b) 0] (.own (eE (Ar a b))):=by
  intro N
  induction N with
  |zero=>intro e hz;have:=iu e;omega
  |succ N ih=>
   intro a hz XF b X2;have hfa:=uK hg a XF;have hfb:=uK hg b X2;obtain⟨k,n,nn,ks,rfl⟩:=Ex.ex a;obtain⟨k',n',jR,GD,rfl⟩:=Ex.ex b;rw[Ar];generalize ha:Ex.mk k n nn ks=a at*;generalize xI:Ex.mk k' n' jR GD=b at*;have hA:eE a=.ag [eI k,eI n,.ls nn 3 (ks.map eE)]:=by rw[←ha,gM];rfl
   have hB:eE b=.ag [eI k',eI n',.ls jR 3 (GD.map eE)]:=by rw[←xI,gM];rfl
   have R6:b.k=k':=by rw[←xI];rfl
   rw[R6];refine fY hr hm rfl fun _=>?_;simp only[xl,mm,nr,hA,hB]
   by_cases c1:k=1
   ·have d1:(k==1)=true:=by simp[c1]
    rw[af (.inl c1)];simp+contextual-implicitDefEqProofs only[qq,d1,eI,lN,aa,ah,aI,bE,D.size,D.fS,gr,fV,aj,go_sem];refine fL (ds:=[]) (by rfl) (iS ()) ?_;simp+contextual-implicitDefEqProofs only[D.put,j6.sub,gf,gA,aa,lK,lZ,bE,fV,fU,fO,go_sem]
    try exact D.Le.refl _
   have d1:(k==1)=false:=aW c1
   by_cases c2:k'=1
   ·have d2:(k'==1)=true:=by simp[c2]
    rw[af (.inr c2)];simp+contextual-implicitDefEqProofs only[qq,d1,d2,eI,lN,aa,ah,aI,bE,D.size,D.fS,gr,fV,aj,go_sem];refine fL (ds:=[]) (by rfl) (iS ()) ?_;simp+contextual-implicitDefEqProofs only[D.put,j6.sub,gf,gA,aa,lK,lZ,bE,fV,fU,fO,go_sem]
    try exact D.Le.refl _
   have d2:(k'==1)=false:=aW c2;rw[ae (fun h=>h.elim c1 c2)]
   by_cases c3:k=2
   ·have d3:(k==2)=true:=by simp[c3]
    rw[af c3];simp+contextual-implicitDefEqProofs only[qq,d1,d2,d3,eI,lC,lN,aa,ah,aI,bE,D.size,D.fS,gr,fV,aj,go_sem];refine fL (ds:=[.pt (eE b) 0]) (by rw[hB];rfl) (jw b hfb) ?_;simp+contextual-implicitDefEqProofs only[D.put,j6.sub,gf,gA,aa,lK,lZ,bE,fV,fU,fO,go_sem]
    try exact D.Le.refl _
   have d3:(k==2)=false:=aW c3;rw[ae c3]
   by_cases c4:k'=2
   ·have d4:(k'==2)=true:=by simp[c4]
    rw[af c4];simp+contextual-implicitDefEqProofs only[qq,d1,d2,d3,d4,eI,lC,lN,aa,ah,aI,bE,D.size,D.fS,gr,fV,aj,go_sem];refine fL (ds:=[.pt (eE a) 0]) (by rw[hA];rfl) (jw a hfa) ?_;simp+contextual-implicitDefEqProofs only[D.put,j6.sub,gf,gA,aa,lK,lZ,bE,fV,fU,fO,go_sem]
    try exact D.Le.refl _
   have d4:(k'==2)=false:=aW c4;rw[ae c4]
   by_cases c5:k=7
   ·have d5:(k==7)=true:=by simp[c5]
    rw[af c5];have aid:=XF;rw[←ha]at aid;obtain⟨x,y,rfl,hx,hy⟩:=ik (.inr c5) aid;simp only[pO];have hs:fZ x+fZ y+1≤N+1:=by rw[←ha,gw]at hz;simp only[gq]at hz;omega
    have hxp:=iu x;have hyp:=iu y;have XP:=(HM y b hy X2).1;simp+contextual-implicitDefEqProofs only[qq,d1,d2,d3,d4,d5,eI,lC,lN,aa,ah,aI,lK,lZ,aG,Int.reduceLT,Int.reduceLE,bE,Int.reduceToNat,D.size,D.fS,gr,fV,aj,ak,go_sem];refine fL (ds:=[.pt (eE y) 0,.pt (eE b) 0]) (by rw[hB];rfl) (ih y (by omega) hy b X2) ?_;generalize Ar y b=r at XP⊢;obtain⟨rk,rn,rnn,rks,hre⟩:=Ex.ex r;have hR:eE r=.ag [eI rk,eI rn,.ls rnn 3 (rks.map eE)]:=by rw[hre,gM];rfl
    rw[hR];simp+contextual-implicitDefEqProofs only[eI,D.put,lC,lN,aa,ah,lK,lZ,aG,Int.reduceLT,aV,bE,D.size,D.fS,gr,fV,aj,ak,fU,fO,go_sem];refine fL (ds:=[.pt (eE x) 0,.pt (eE r) 0]) (by rw[hR];rfl) (ih x (by omega) hx r XP) ?_;simp+contextual-implicitDefEqProofs only[D.put,j6.sub,gf,gA,aa,lK,lZ,bE,fV,fU,fO,go_sem]
    try exact D.Le.refl _
   have d5:(k==7)=false:=aW c5;rw[ae c5];simp+contextual-implicitDefEqProofs only[qq,d1,d2,d3,d4,d5,eI,lC,lN,aa,ah,aI,bE,D.size,D.fS,gr,fV,aj,go_sem];refine fL (ds:=[.pt (eE a) 0]) (by rw[hA];rfl) (jw a hfa) ?_;simp+contextual-implicitDefEqProofs only[lC,lN,go_sem];refine fL (ds:=[.pt (eE b) 0]) (by rw[hB];rfl) (jw b hfb) ?_;simp+contextual-implicitDefEqProofs only[lC,lN,go_sem];refine kW rfl pd (by simp only[AV.mw,ig,gA,gf,go_sem,bE,bi]<;>rfl) (by simp only[AV.mw,ig,gA,gf,go_sem,bE,bi]<;>rfl) ?_;rw[Bg];simp+contextual-implicitDefEqProofs only[aL,aK,D.put,D.cells,lC,lN,aa,ah,aI,lK,lZ,bE,D.size,D.fS,gY,fV,aJ,aP,aO,fU,fO,go_sem];simp[gf]
 exact fun XF b X2=>key _ a (aw _) XF b X2
def Fa(f1 f2 f3:Nat):RC:=(.s [.o (.zer 2 3 .ze)] (.seq (.s [.m 3 0,.c 4 f1 [.t 3]] (.cond (.t 4) (.s [.c 5 f2 [],.s 3 2 5] .ret) .skip)) (.seq (.s [.m 6 0,.n 7 6,.f 8 0 7,.l 9 1 8,.q 10 9 8] (.cond (.t 10) (.s [.m 11 0,.c 12 f3 [.t 11],.s 3 2 12] .ret) .skip)) (.s [.m 13 0,.c 14 f3 [.t 13],.o (.bs 15 3 .ze 1 [(0,(.t 14))]),.o (.bld 16 .ze [(0,1,(.ci 8)),(2,1,(.t 15))]),.s 3 2 16] .ret))))
def zT(P:Program)(iV:Nat):Prop:=∀(g0:Int×Int)(_:oC g0=true)(a:Ex),f8 g0 a=true→AF P iV [.pt (eE a) 0] (.own (eE (ww a)))
def Qy(hm:Mx P){g:Nat}(hr:il P g=some (17,Fa f1 f2 f3,[.c 2 3 true]))(iS:oo P f1)(jw:vh P f2)(pd:rY P f3):zT P g:=by
 intro g0 hg a XF;have hfa:=uK hg a XF;unfold ww;refine fY hr hm rfl fun _=>?_;simp+contextual-implicitDefEqProofs only[Fa,lC,lN,aa,ah,aI,bE,D.size,D.fS,go_sem];refine fL (ds:=[.pt (eE a) 0]) (by rfl) (iS a) ?_;cases hc:jA a with
 |true=>
  simp+contextual-implicitDefEqProofs only[eB,lN,go_sem];refine fL (ds:=[]) (by rfl) (jw ()) ?_;simp+contextual-implicitDefEqProofs only[D.put,j6.sub,gf,gA,aa,lK,lZ,bE,fV,fU,fO,go_sem]
  try exact D.Le.refl _
 |false=>
  obtain⟨k,n,nn,ks,ha⟩:=Ex.ex a;have hA:eE a=.ag [eI k,eI n,.ls nn 3 (ks.map eE)]:=by rw[ha,gM];rfl
  have hak:a.k=k:=by rw[ha];rfl
  rw[hak];simp only[hA]
  by_cases c1:k=8
  ·have d1:(k==8)=true:=by simp[c1]
   rw[af c1];simp+contextual-implicitDefEqProofs only[d1,eI,eB,lC,lN,aa,ah,D.size,D.fS,gr,fV,aj,go_sem];refine fL (ds:=[.pt (eE a) 0]) (by rw[hA];rfl) (pd a hfa) ?_;simp+contextual-implicitDefEqProofs only[D.put,j6.sub,gf,gA,aa,lK,lZ,bE,fV,fU,fO,go_sem]
   try exact D.Le.refl _
  have d1:(k==8)=false:=aW c1;rw[ae c1];simp+contextual-implicitDefEqProofs only[d1,eI,eB,lC,lN,aa,ah,D.size,D.fS,gr,fV,aj,go_sem];refine fL (ds:=[.pt (eE a) 0]) (by rw[hA];rfl) (pd a hfa) ?_;rw[show eE (.mk 8 0 (some false) [rK a])=.ag [.sc (.int .i64 8),.sc (.int .i64 0),.ls (some false) 3 [eE (rK a)]]by rw[gM];rfl];simp+contextual-implicitDefEqProofs only[cd,ce,aL,aK,D.put,D.cells,lC,lN,gf,aa,ah,aI,lK,lZ,bE,D.size,D.fS,gY,fV,aJ,aP,aO,dz,fU,fO,go_sem,Nat.reduceMul,Nat.reduceSub];exact⟨rfl,by simp[gf]⟩
def rM(g f1 f2 f3 f4:Nat):RC:=(.s [.o (.zer 2 3 .ze)] (.seq (.s [.m 6 0,.n 7 6,.f 8 0 7,.l 9 1 8] (.gX 0 (.seq (.s [.q 11 9 6,.m 10 11] (.cond (.t 10) .skip (.r [.q 12 9 7,.m 10 12]))) (.cond (.t 10) (.s [.m 13 0,.n 14 13,.f 15 2 14,.l 16 1 15,.i 17 3 16 0,.c 18 g [.t 17],.o (.zer 3 3 .ze),.s 3 3 18] (.s [.m 19 0,.n 20 19,.f 21 2 20,.l 22 1 21,.i 23 3 22 1,.c 24 g [.t 23],.o (.zer 4 3 .ze),.s 3 4 24] (.seq (.s [.m 25 0,.n 26 25,.f 27 0 26,.l 28 1 27,.q 29 28 6] (.cond (.t 29) (.s [.c 30 f1 [.t 3,.t 4],.s 3 2 30] .ret) .skip)) (.s [.c 31 f2 [.t 3,.t 4],.s 3 2 31] .ret)))) (.s [.q 33 9 8,.m 32 33] (.cond (.t 32) (.s [.m 34 0,.n 35 34,.f 36 2 35,.l 37 1 36,.i 38 3 37 0,.c 39 g [.t 38],.o (.zer 5 3 .ze),.s 3 5 39] (.s [.c 40 f3 [.t 5],.s 3 2 40] .ret)) .skip)))))) (.s [.m 41 0,.c 42 f4 [.t 41],.s 3 2 42] .ret)))
def vS(P:Program)(iV:Nat):Prop:=∀(g0:Int×Int)(_:oC g0=true)(e:Ex),f8 g0 e=true→fZ e≤50000→AF P iV [.pt (eE e) 0] (.own (eE (jM e)))
variable {f4:Nat}
def Qz(hm:Mx P){g:Nat}(hr:il P g=some (43,rM g f1 f2 f3 f4,[.c 2 3 true]))(iS:CJ P f1)(jw:C9 P f2)(pd:zT P f3)(zd:rY P f4):vS P g:=by
 intro g0 hg;have key:∀N:Nat,∀e:Ex,fZ e≤N→f8 g0 e=true→fZ e≤50000→AF P g [.pt (eE e) 0] (.own (eE (jM e))):=by
  intro N
  induction N with
  |zero=>intro e hz;have:=iu e;omega
  |succ N ih=>
   intro e hz E2 hle;have hfe:=uK hg e E2;obtain⟨k,n,nn,ks,rfl⟩:=Ex.ex e;rw[jM];generalize he:Ex.mk k n nn ks=e at*;have hE:eE e=.ag [eI k,eI n,.ls nn 3 (ks.map eE)]:=by rw[←he,gM];rfl
   refine fY hr hm rfl fun _=>?_;simp only[xl,mm,nr,hE]
   by_cases c6:k=6
   ·have d6:(k==6)=true:=by simp[c6]
    rw[af c6];have hT':=E2;rw[←he]at hT';obtain⟨x,y,rfl,hx,hy⟩:=ik (.inl c6) hT';have hs:1+(fZ x+fZ y)=fZ e:=by rw[←he,gw];simp[gq]
    obtain⟨BP,EB⟩:=jO x hx;obtain⟨hy1,hy2⟩:=jO y hy;have hxp:=iu x;have hyp:=iu y;simp only[kH,aj,ak];simp+contextual-implicitDefEqProofs only[rM,d6,eI,lC,lN,aa,ah,aI,lK,lZ,aG,Int.reduceLT,aV,bE,D.size,D.fS,gr,fV,aj,ak,go_sem];refine fL (ds:=[.pt (eE x) 0]) (by rfl) (ih x (by omega) hx (by omega)) ?_;simp+contextual-implicitDefEqProofs only[D.put,lC,lN,gf,aa,ah,lK,lZ,aG,Int.reduceLT,Int.reduceLE,bE,Int.reduceToNat,D.size,D.fS,gr,fV,aj,ak,fU,fO,go_sem];refine fL (ds:=[.pt (eE y) 0]) (by rfl) (ih y (by omega) hy (by omega)) ?_;simp+contextual-implicitDefEqProofs only[d6,D.put,lC,lN,gf,aa,ah,lK,lZ,bE,D.size,D.fS,gr,fV,aj,fU,fO,go_sem];refine fL (ds:=[.pt (eE (jM x)) 0,.pt (eE (jM y)) 0]) (by rfl) (iS g0 hg (jM x) (jM y) BP hy1 (by omega)) ?_;simp+contextual-implicitDefEqProofs only[D.put,j6.sub,gf,gA,aa,lK,lZ,bE,fV,fU,fO,go_sem]
    try exact D.Le.refl _
   have d6:(k==6)=false:=aW c6;rw[ae c6]
   by_cases c7:k=7
   ·have d7:(k==7)=true:=by simp[c7]
    rw[af c7];have hT':=E2;rw[←he]at hT';obtain⟨x,y,rfl,hx,hy⟩:=ik (.inr c7) hT';have hs:1+(fZ x+fZ y)=fZ e:=by rw[←he,gw];simp[gq]
    obtain⟨BP,EB⟩:=jO x hx;obtain⟨hy1,hy2⟩:=jO y hy;have hxp:=iu x;have hyp:=iu y;simp only[kH,aj,ak];simp+contextual-implicitDefEqProofs only[rM,d6,d7,eI,lC,lN,aa,ah,aI,lK,lZ,aG,Int.reduceLT,aV,bE,D.size,D.fS,gr,fV,aj,ak,go_sem];refine fL (ds:=[.pt (eE x) 0]) (by rfl) (ih x (by omega) hx (by omega)) ?_;simp+contextual-implicitDefEqProofs only[D.put,lC,lN,gf,aa,ah,lK,lZ,aG,Int.reduceLT,Int.reduceLE,bE,Int.reduceToNat,D.size,D.fS,gr,fV,aj,ak,fU,fO,go_sem];refine fL (ds:=[.pt (eE y) 0]) (by rfl) (ih y (by omega) hy (by omega)) ?_;simp+contextual-implicitDefEqProofs only[d6,D.put,lC,lN,gf,aa,ah,lK,lZ,bE,D.size,D.fS,gr,fV,aj,fU,fO,go_sem];refine fL (ds:=[.pt (eE (jM x)) 0,.pt (eE (jM y)) 0]) (by rfl) (jw g0 hg (jM x) BP (jM y) hy1) ?_;simp+contextual-implicitDefEqProofs only[D.put,j6.sub,gf,gA,aa,lK,lZ,bE,fV,fU,fO,go_sem]
    try exact D.Le.refl _
   have d7:(k==7)=false:=aW c7;rw[ae c7]
   by_cases c8:k=8
   ·have d8:(k==8)=true:=by simp[c8]
    rw[af c8];have hT':=E2;rw[←he]at hT';obtain⟨x,rfl,hx⟩:∃x,ks=[x]∧f8 g0 x=true:=by
     have hf:=jo hT';have hk:=iF hT';rw[c8]at hf
     match ks,hf,hk with
     | [x],_,hk=>exact⟨x,rfl,hk x (by simp)⟩
     | [],hf,_=>simp[gE,jU]at hf
     |_::_::_,hf,_=>simp[gE,jU]at hf;omega
    have hs:1+fZ x=fZ e:=by rw[←he,gw];simp[gq]
    obtain⟨BP,EB⟩:=jO x hx;simp only[kH,aj];simp+contextual-implicitDefEqProofs only[rM,d6,d7,d8,eI,lC,lN,aa,ah,aI,lK,lZ,aG,Int.reduceLT,aV,bE,D.size,D.fS,gr,fV,aj,ak,go_sem];refine fL (ds:=[.pt (eE x) 0]) (by rfl) (ih x (by omega) hx (by omega)) ?_;simp+contextual-implicitDefEqProofs only[D.put,lC,lN,gf,aa,ah,lK,lZ,bE,D.size,D.fS,fV,fU,fO,go_sem];refine fL (ds:=[.pt (eE (jM x)) 0]) (by rfl) (pd g0 hg (jM x) BP) ?_;simp+contextual-implicitDefEqProofs only[D.put,j6.sub,gf,gA,aa,lK,lZ,bE,fV,fU,fO,go_sem]
    try exact D.Le.refl _
   have d8:(k==8)=false:=aW c8;rw[ae c8];simp+contextual-implicitDefEqProofs only[rM,d6,d7,d8,eI,lC,lN,aa,ah,aI,bE,D.size,D.fS,gr,fV,aj,go_sem];refine fL (ds:=[.pt (eE e) 0]) (by rw[hE];rfl) (zd e hfe) ?_;simp+contextual-implicitDefEqProofs only[D.put,j6.sub,gf,gA,aa,lK,lZ,bE,fV,fU,fO,go_sem]
   try exact D.Le.refl _
 exact fun e hT hl=>key _ e (aw _) hT hl
def JS(n:Int)(b:Nat):Bool:=n.fdiv (2 ^ b) % 2==1
def NW{m:Int}(h0:0≤m)(h1:m<9223372036854775808):IntKind.i64.wrap ((BitVec.ofInt 64 m&&&BitVec.ofInt 64 1).toNat:Nat)=m % 2:=by
 obtain⟨k,rfl⟩:∃k:Nat,m=k:=⟨m.toNat,by omega⟩;have e:(BitVec.ofInt 64 (k:Int)&&&BitVec.ofInt 64 1).toNat=k % 2:=by
  rw[BitVec.toNat_and];have h2:(BitVec.ofInt 64 (k:Int)).toNat=k:=by
   rw[BitVec.ofInt_natCast,BitVec.toNat_ofNat,Nat.mod_eq_of_lt (by omega)]
  have h3:(BitVec.ofInt 64 1).toNat=1:=by decide
  rw[h2,h3,Nat.and_one_is_mod]
 rw[e,fQ (by omega) (by omega)];omega
def Oq{n:Int}(h0:0≤n){b:Nat}:0≤n.fdiv (2 ^ b)∧n.fdiv (2 ^ b)≤n:=by
 have hp:(0:Int)<2 ^ b:=Int.pow_pos (by decide);rw[Int.fdiv_eq_ediv_of_nonneg _ (by omega)];exact⟨Int.ediv_nonneg h0 (by omega),Int.ediv_le_self _ h0⟩
variable {n:Int}
def ac4{b:Nat}(h0:0≤n)(h1:n<9223372036854775808):(IntKind.i64.wrap ((BitVec.ofInt 64 (n.fdiv (2 ^ b))&&&BitVec.ofInt 64 1).toNat:Nat)==1)=JS n b:=by
 have:=@Oq n h0 b;rw[NW this.1 (by omega)]
 rfl
mutual
def nH(a:Int):Ex→Bool
 |.mk k n _ ks=>if k=1 then false else if k=2 then true else if k=3 then JS a n.toNat else if k=5 then !((nu a ks).getD 0 false)else if k=6 then(nu a ks).getD 0 false||(nu a ks).getD 1 false else(nu a ks).getD 0 false&&(nu a ks).getD 1 false
def nu(a:Int):List Ex→List Bool
 | []=>[]
 |e::es=>nH a e::nu a es
end
mutual
def lR(a:Int):Ex→Bool
 |.mk k n nn ks=>if k=4 then false else if k=6 then(nN a ks).getD 0 false||(nN a ks).getD 1 false else if k=7 then(nN a ks).getD 0 false&&(nN a ks).getD 1 false else if k=8 then true else nH a (.mk k n nn ks)
def nN(a:Int):List Ex→List Bool
 | []=>[]
 |e::es=>lR a e::nN a es
end
variable {g0:Int×Int}{ks:List Ex}
def Dt(hg:oC g0=true)(h:gE g0 3 n ks=true):∃m:Nat,n=m∧m<3:=by
 obtain⟨g1,g2⟩:=lh hg;simp only[gE,bA,ay,jz]at h;have h2:=h.2;rw[fQ (by omega) (by omega)]at h2;exact⟨n.toNat,by omega,by omega⟩
def aav(h:gE g0 5 n ks=true):∃x,ks=[x]:=by
 simp only[gE,bA]at h;have h1:=h.1;have h3:ks.length=1:=by simp[jU]at h1;omega
 match ks,h3 with
 | [x],_=>exact⟨x,rfl⟩
def oN(g:Nat):RC:=(.s [.v 4 .cf] (.seq (.s [.m 5 0,.n 6 5,.f 7 0 6,.l 8 1 7] (.gX 0 (.s [.q 10 8 1,.m 9 10] (.cond (.t 9) (.s [.v 4 .cf] .ret) (.s [.q 12 8 2,.m 11 12] (.cond (.t 11) (.s [.v 4 .ct] .ret) (.s [.q 14 8 3,.m 13 14] (.cond (.t 13) (.s [.m 15 1,.m 16 0,.n 17 16,.f 18 1 17,.l 19 1 18,.o (.cvt 20 .u64 (.t 19)),.o (.bin 21 .shr (.t 15) (.t 20)),.o (.bin 22 .and (.t 21) (.ci 1)),.q 23 22 1,.m 4 23] .ret) (.s [.q 25 8 5,.m 24 25] (.cond (.t 24) (.s [.m 26 0,.n 27 26,.f 28 2 27,.l 29 1 28,.i 30 3 29 0,.m 31 1,.c 32 g [.t 30,.t 31],.o (.un 33 .not (.t 32)),.m 4 33] .ret) (.s [.q 35 8 6,.m 34 35] (.cond (.t 34) (.s [.m 36 0,.n 37 36,.f 38 2 37,.l 39 1 38,.i 40 3 39 0,.m 41 1,.c 42 g [.t 40,.t 41],.m 43 42,.u 43 (.mv 44 (.t 0)),.u 43 (.nck 45 (.t 44)),.u 43 (.fa 46 2 (.t 45)),.u 43 (.ld 47 false 1 (.t 46)),.u 43 (.ia 48 3 (.t 47) (.ci 1)),.u 43 (.mv 49 (.t 1)),.u 43 (.call (some 50) g [.t 48,.t 49]),.o (.pick 51 (.t 43) .ct (.t 50)),.m 4 51] .ret) .skip)))))))))))) (.s [.m 52 0,.n 53 52,.f 54 2 53,.l 55 1 54,.i 56 3 55 0,.m 57 1,.c 58 g [.t 56,.t 57],.m 59 58,.wm 59 60 0,.w 59 (.nck 61 (.t 60)),.w 59 (.fa 62 2 (.t 61)),.w 59 (.ld 63 false 1 (.t 62)),.w 59 (.ia 64 3 (.t 63) (.ci 1)),.wm 59 65 1,.w 59 (.call (some 66) g [.t 64,.t 65]),.k 67 59 66,.m 4 67] .ret)))
def zU(P:Program)(iV:Nat):Prop:=∀(g0:Int×Int)(_:oC g0=true)(a:Int),0≤a→a≤7→∀e:Ex,f8 g0 e=true→jA e=true→AF P iV [.pt (eE e) 0,.sc (.int .i64 a)] (.own (eB (nH a e)))
def Pp(hm:Mx P){g:Nat}(hr:il P g=some (68,oN g,[.t 4])):zU P g:=by
 intro g0 hg a O1 ha1;have key:∀N:Nat,∀e:Ex,fZ e≤N→f8 g0 e=true→jA e=true→AF P g [.pt (eE e) 0,.sc (.int .i64 a)] (.own (eB (nH a e))):=by
  intro N
  induction N with
  |zero=>intro e hz;have:=iu e;omega
  |succ N ih=>
   intro e hz E2 hC;obtain⟨k,n,nn,ks,rfl⟩:=Ex.ex e;have hfo:=jo E2;have hkT:=iF E2;rw[kM,bA,aM]at hC;rw[nH];refine fY hr hm rfl fun _=>?_;simp only[xl,mm,nr,gM]
   by_cases c1:k=1
   ·subst c1;simp+contextual-implicitDefEqProofs only[oN,eB,aa,ah,bE,D.size,D.fS,gr,fV,aj,go_sem]
    try exact D.Le.refl _
   have d1:(k==1)=false:=aW c1;rw[ae c1]
   by_cases c2:k=2
   ·subst c2;simp+contextual-implicitDefEqProofs only[oN,eB,aa,ah,Int.reduceBEq,bE,D.size,D.fS,gr,fV,aj,go_sem]
    try exact D.Le.refl _
   have d2:(k==2)=false:=aW c2;rw[ae c2]
   by_cases c3:k=3
   ·subst c3;obtain⟨m,rfl,h30⟩:=Dt hg hfo;simp+contextual-implicitDefEqProofs only[oN,eB,aS,aa,ah,Int.reduceBEq,bE,D.size,D.fS,gr,fV,aj,ak,go_sem];rw[show(min (IntKind.u64.wrap (m:Int)).toNat 64)=m by rw[Ja (by omega) (by omega)];omega]
    erw [ac4 O1 (by omega)]
    exact D.Le.refl _
   have d3:(k==3)=false:=aW c3;rw[ae c3]
   by_cases c5:k=5
   ·subst c5;obtain⟨x,rfl⟩:=aav hfo;have hx:=hkT x (by simp);have hs:1+fZ x≤N+1:=by rw[gw]at hz;simpa[gq]using hz
    simp only[nu,aj];simp+contextual-implicitDefEqProofs only[oN,eB,lC,lN,aa,ah,lK,lZ,aG,Int.reduceLT,aV,Int.reduceBEq,bE,D.size,D.fS,gr,fV,aj,ak,go_sem];refine fL (ds:=[.pt (eE x) 0,.sc (.int .i64 a)]) (by rfl) (ih x (by omega) hx (hC.2 x (by simp))) ?_;simp+contextual-implicitDefEqProofs only[eB,go_sem]
    try exact D.Le.refl _
   have d5:(k==5)=false:=aW c5;rw[ae c5]
   by_cases c6:k=6
   ·subst c6;obtain⟨x,y,rfl,hx,hy⟩:=ik (.inl rfl) E2;have hs:1+(fZ x+fZ y)≤N+1:=by rw[gw]at hz;simpa[gq]using hz
    have hxp:=iu x;have hyp:=iu y;simp only[nu,aj,ak];simp+contextual-implicitDefEqProofs only[oN,eB,lC,lN,aa,ah,lK,lZ,aG,Int.reduceLT,aV,Int.reduceBEq,bE,D.size,D.fS,gr,fV,aj,ak,go_sem];refine fL (ds:=[.pt (eE x) 0,.sc (.int .i64 a)]) (by rfl) (ih x (by omega) hx (hC.2 x (by simp))) ?_;cases hv:nH a x with
    |true=>
     simp+contextual-implicitDefEqProofs only[eO,eB,go_sem]
     try exact D.Le.refl _
    |false=>
     simp+contextual-implicitDefEqProofs only[cY,eB,lC,lN,aa,ah,lK,lZ,aG,Int.reduceLT,Int.reduceLE,Int.reduceToNat,D.size,D.fS,gr,fV,aj,ak,go_sem];refine fL (ds:=[.pt (eE y) 0,.sc (.int .i64 a)]) (by rfl) (ih y (by omega) hy (hC.2 y (by simp))) ?_;simp+contextual-implicitDefEqProofs only[eB,go_sem]
     try exact D.Le.refl _
   have d6:(k==6)=false:=aW c6;rw[ae c6];have c7:k=7:=by
    have h:=hC.1;unfold kO at h;rw[aW c1,aW c2,aW c3,aW c5,aW c6]at h;simpa using h
   subst c7;obtain⟨x,y,rfl,hx,hy⟩:=ik (.inr rfl) E2;have hs:1+(fZ x+fZ y)≤N+1:=by rw[gw]at hz;simpa[gq]using hz
   have hxp:=iu x;have hyp:=iu y;simp only[nu,aj,ak];simp+contextual-implicitDefEqProofs only[oN,eB,lC,lN,aa,ah,lK,lZ,aG,Int.reduceLT,aV,Int.reduceBEq,D.size,D.fS,gr,fV,aj,ak,go_sem];refine fL (ds:=[.pt (eE x) 0,.sc (.int .i64 a)]) (by rfl) (ih x (by omega) hx (hC.2 x (by simp))) ?_;cases hv:nH a x with
   |true=>
    simp+contextual-implicitDefEqProofs only[bI,eB,lC,lN,aa,ah,lK,lZ,aG,Int.reduceLT,Int.reduceLE,Int.reduceToNat,D.size,D.fS,gr,fV,aj,ak,go_sem];refine fL (ds:=[.pt (eE y) 0,.sc (.int .i64 a)]) (by rfl) (ih y (by omega) hy (hC.2 y (by simp))) ?_;simp+contextual-implicitDefEqProofs only[eB,go_sem]
    try exact D.Le.refl _
   |false=>
    simp+contextual-implicitDefEqProofs only[bG,eB,go_sem]
    try exact D.Le.refl _
 exact fun e hT hC=>key _ e (aw _) hT hC
def zq(hg:oC g0=true)(h:gE g0 k n ks=true)(h4:k≠4)(h6:k≠6)(h7:k≠7)(h8:k≠8):jA (.mk k n nn ks)=true:=by
 rw[kM];rcases DZ hg h with⟨rfl,rfl⟩|⟨rfl,rfl⟩|⟨rfl,rfl,m,rfl,_⟩|⟨e,_⟩|⟨rfl,a,rfl⟩|⟨e,_⟩|⟨e,_⟩|⟨e,_⟩
 rfl
 rfl
 rfl
 exact absurd e h4;simp[gE,Ge]at h;simp[kO,h];exact absurd e h6;exact absurd e h7;exact absurd e h8
def oW(g f1:Nat):RC:=(.s [.v 4 .cf] (.seq (.s [.m 5 0,.n 6 5,.f 7 0 6,.l 8 1 7] (.gX 0 (.s [.q 10 8 4,.m 9 10] (.cond (.t 9) (.s [.v 4 .cf] .ret) (.s [.q 12 8 6,.m 11 12] (.cond (.t 11) (.s [.m 13 0,.n 14 13,.f 15 2 14,.l 16 1 15,.i 17 3 16 0,.m 18 1,.c 19 g [.t 17,.t 18],.m 20 19,.u 20 (.mv 21 (.t 0)),.u 20 (.nck 22 (.t 21)),.u 20 (.fa 23 2 (.t 22)),.u 20 (.ld 24 false 1 (.t 23)),.u 20 (.ia 25 3 (.t 24) (.ci 1)),.u 20 (.mv 26 (.t 1)),.u 20 (.call (some 27) g [.t 25,.t 26]),.o (.pick 28 (.t 20) .ct (.t 27)),.m 4 28] .ret) (.s [.q 30 8 7,.m 29 30] (.cond (.t 29) (.s [.m 31 0,.n 32 31,.f 33 2 32,.l 34 1 33,.i 35 3 34 0,.m 36 1,.c 37 g [.t 35,.t 36],.m 38 37,.wm 38 39 0,.w 38 (.nck 40 (.t 39)),.w 38 (.fa 41 2 (.t 40)),.w 38 (.ld 42 false 1 (.t 41)),.w 38 (.ia 43 3 (.t 42) (.ci 1)),.wm 38 44 1,.w 38 (.call (some 45) g [.t 43,.t 44]),.k 46 38 45,.m 4 46] .ret) (.s [.q 48 8 8,.m 47 48] (.cond (.t 47) (.s [.v 4 .ct] .ret) .skip)))))))))) (.s [.m 49 0,.m 50 1,.c 51 f1 [.t 49,.t 50],.m 4 51] .ret)))
def sV(P:Program)(iV:Nat):Prop:=∀(g0:Int×Int)(_:oC g0=true)(a:Int),0≤a→a≤7→∀e:Ex,f8 g0 e=true→AF P iV [.pt (eE e) 0,.sc (.int .i64 a)] (.own (eB (lR a e)))
def Mr(hm:Mx P){g:Nat}(hr:il P g=some (52,oW g f1,[.t 4]))(iS:zU P f1):sV P g:=by
 intro g0 hg a O1 ha1;have key:∀N:Nat,∀e:Ex,fZ e≤N→f8 g0 e=true→AF P g [.pt (eE e) 0,.sc (.int .i64 a)] (.own (eB (lR a e))):=by
  intro N
  induction N with
  |zero=>intro e hz;have:=iu e;omega
  |succ N ih=>
   intro e hz E2;obtain⟨k,n,nn,ks,rfl⟩:=Ex.ex e;have hfo:=jo E2;have hkT:=iF E2;rw[lR]
   by_cases c4:k=4
   ·subst c4;rw[gM];refine fY hr hm rfl fun _=>?_;simp+contextual-implicitDefEqProofs only[oW,eB,aa,ah,bE,D.size,D.fS,gr,fV,aj,go_sem]
    try exact D.Le.refl _
   have d4:(k==4)=false:=aW c4;rw[ae c4]
   by_cases c6:k=6
   ·subst c6;rw[gM];refine fY hr hm rfl fun _=>?_;obtain⟨x,y,rfl,hx,hy⟩:=ik (.inl rfl) E2;have hs:1+(fZ x+fZ y)≤N+1:=by rw[gw]at hz;simpa[gq]using hz
    have hxp:=iu x;have hyp:=iu y;simp only[nN,aj,ak];simp+contextual-implicitDefEqProofs only[oW,eB,lC,lN,aa,ah,lK,lZ,aG,Int.reduceLT,aV,Int.reduceBEq,bE,D.size,D.fS,gr,fV,aj,ak,go_sem];refine fL (ds:=[.pt (eE x) 0,.sc (.int .i64 a)]) (by rfl) (ih x (by omega) hx) ?_;cases hv:lR a x with
    |true=>
     simp+contextual-implicitDefEqProofs only[eO,eB,go_sem]
     try exact D.Le.refl _
    |false=>
     simp+contextual-implicitDefEqProofs only[cY,eB,lC,lN,aa,ah,lK,lZ,aG,Int.reduceLT,Int.reduceLE,Int.reduceToNat,D.size,D.fS,gr,fV,aj,ak,go_sem];refine fL (ds:=[.pt (eE y) 0,.sc (.int .i64 a)]) (by rfl) (ih y (by omega) hy) ?_;simp+contextual-implicitDefEqProofs only[eB,go_sem]
     try exact D.Le.refl _
   have d6:(k==6)=false:=aW c6;rw[ae c6]
   by_cases c7:k=7
   ·subst c7;rw[gM];refine fY hr hm rfl fun _=>?_;obtain⟨x,y,rfl,hx,hy⟩:=ik (.inr rfl) E2;have hs:1+(fZ x+fZ y)≤N+1:=by rw[gw]at hz;simpa[gq]using hz
    have hxp:=iu x;have hyp:=iu y;simp only[nN,aj,ak];simp+contextual-implicitDefEqProofs only[oW,eB,lC,lN,aa,ah,lK,lZ,aG,Int.reduceLT,aV,Int.reduceBEq,bE,D.size,D.fS,gr,fV,aj,ak,go_sem];refine fL (ds:=[.pt (eE x) 0,.sc (.int .i64 a)]) (by rfl) (ih x (by omega) hx) ?_;cases hv:lR a x with
    |true=>
     simp+contextual-implicitDefEqProofs only[bI,eB,lC,lN,aa,ah,lK,lZ,aG,Int.reduceLT,Int.reduceLE,Int.reduceToNat,D.size,D.fS,gr,fV,aj,ak,go_sem];refine fL (ds:=[.pt (eE y) 0,.sc (.int .i64 a)]) (by rfl) (ih y (by omega) hy) ?_;simp+contextual-implicitDefEqProofs only[eB,go_sem]
     try exact D.Le.refl _
    |false=>
     simp+contextual-implicitDefEqProofs only[bG,eB,go_sem]
     try exact D.Le.refl _
   have d7:(k==7)=false:=aW c7;rw[ae c7]
   by_cases c8:k=8
   ·subst c8;rw[gM];refine fY hr hm rfl fun _=>?_;simp+contextual-implicitDefEqProofs only[oW,eB,aa,ah,Int.reduceBEq,bE,D.size,D.fS,gr,fV,aj,go_sem]
    try exact D.Le.refl _
   have d8:(k==8)=false:=aW c8;rw[ae c8];have hC:=zq (nn:=nn) hg hfo c4 c6 c7 c8;have alU:=E2;generalize he:Ex.mk k n nn ks=e at*;have hE:eE e=.ag [eI k,eI n,.ls nn 3 (ks.map eE)]:=by rw[←he,gM];rfl
   refine fY hr hm rfl fun _=>?_;simp only[xl,mm,nr,hE];simp+contextual-implicitDefEqProofs only[oW,d4,d6,d7,d8,eI,eB,lC,lN,aa,ah,D.size,D.fS,gr,fV,aj,go_sem];refine fL (ds:=[.pt (eE e) 0,.sc (.int .i64 a)]) (by rw[hE];rfl) (iS g0 hg a O1 ha1 e alU hC) ?_;simp+contextual-implicitDefEqProofs only[eB,go_sem]
   try exact D.Le.refl _
 exact fun e hT=>key _ e (aw _) hT
def rE:∀{a b:List Ex},gq (a++b)=gq a+gq b
 | [],b=>by simp[gq]
 |x::a,b=>by simp only[bf,gq,rE (a:=a)];omega
variable {i:Nat}
def Kr(h:i<l.length):gq (l.take (i+1))=gq (l.take i)+fZ l[i]:=by
 rw[dr h,rE];simp[gq]
def JJ:gq (l.take i)≤gq l:=by
 conv=>rhs;rw[←bu i l,rE]
 omega
def DO(g:Nat):RC:=(.s [.v 2 (.ci 0)] (.s [.v 3 (.ci 1)] (.seq (.s [.v 4 (.ci 0)] (.gX 0 (.loop (.seq (.s [.m 5 4,.m 6 0,.n 7 6,.f 8 2 7,.l 9 1 8,.o (.len 10 (.t 9)),.o (.bin 11 .lss (.t 5) (.t 10))] (.cond (.t 11) .skip (.exit 0))) (.seq (.gX 1 (.r [.m 14 3,.m 15 0,.n 16 15,.f 17 2 16,.l 18 1 17,.m 19 4,.o (.ia 20 3 (.t 18) (.t 19)),.c 21 g [.t 20],.o (.bin 22 .add (.t 14) (.t 21)),.m 3 22])) (.r [.m 12 4,.o (.bin 13 .add (.t 12) (.ci 1)),.m 4 13])))))) (.s [.m 23 3,.m 2 23] .ret))))
def xo(P:Program)(iV:Nat):Prop:=∀e:Ex,fZ e≤1000000000→AF P iV [.pt (eE e) 0] (.own (eI (fZ e)))
def L6(hm:Mx P){g:Nat}(hr:il P g=some (24,DO g,[.t 2])):xo P g:=by
 intro e hz;refine Ex.ind (p:=fun e=>fZ e≤1000000000→AF P g [.pt (eE e) 0] (.own (eI (fZ e)))) (fun k n nn ks ih hz=>?_) e hz;rw[gw]at hz;rw[gM,gw];refine fY hr hm rfl fun hb=>?_;have hl:ks.length≤9223372036854775807:=by
  have:=hb.1;simp only[D.bd,D.ub,lM,gz]at this;exact this.2.2.1.1
 simp+contextual-implicitDefEqProofs only[DO,eI,aa,go_sem];refine gL (α:=Nat) [3,4,5,6,7,8,9,10,11,12,13,14,15,16,17,18,19,20,21,22] (fun i=>[(4,.im none (.sc (.int .i64 i))),(3,.im none (.sc (.int .i64 (1+(gq (ks.take i):Int)))))]) (fun i=>[]) (fun i=>i≤ks.length) (fun i=>ks.length-i) 0 (gO.to [] (by simp only[go_sem];rfl) rfl (by simp[]) (by rfl) (by simp only[fR,go_sem,iD,iP]<;>simp[gq])) (aq _) ?_;intro i j1
 by_cases hi:i<ks.length
 ·have e1:D.at (ks.map eE) i=eE ks[i]:=ie hi;have hm1:=zP (aF hi);have hs:=Kr hi;have ht:=JJ (l:=ks) (i:=i+1);simp+contextual-implicitDefEqProofs only[hi,e1,lC,lN,aS,aa,ah,D.size,D.fS,gr,fV,aj,ak,lM,go_sem,iL,iN];refine fL (ds:=[.pt (eE ks[i]) 0]) (by rfl) (ih ks[i] (aF _) (by omega)) ?_;simp+contextual-implicitDefEqProofs only[eI,go_sem];rw[fQ (by omega) (by omega),fQ (by omega) (by omega)];have hk:(1+(gq (ks.take i):Int)+fZ ks[i])=1+gq (ks.take (i+1)):=by rw[hs];push_cast;omega
  rw[hk];exact⟨i+1,by omega,by omega,gO.to [] (by simp only[go_sem];rfl) rfl (by simp) (by rfl) (by simp only[fR,go_sem]<;>simp)⟩
 obtain rfl:i=ks.length:=by omega
 simp+contextual-implicitDefEqProofs only[bR,aa,ah,D.size,D.fS,gr,fV,aj,ak,lM,go_sem];rw[cO];exact D.Le.gH (by push_cast;rfl)
def wF(l:List Ex)(e:Ex):Int:=match l.findIdx? (fun x=>qE x e)with|some i=>(i:Int)|none=> -1
def Gv(f1:Nat):RC:=(.s [.v 4 (.ci 0)] (.seq (.s [.v 5 (.ci 0)] (.gX 0 (.loop (.seq (.s [.m 6 5,.m 7 0,.o (.len 8 (.t 7)),.o (.bin 9 .lss (.t 6) (.t 8))] (.cond (.t 9) .skip (.exit 0))) (.seq (.gX 1 (.s [.m 12 0,.m 13 5,.o (.ia 14 3 (.t 12) (.t 13)),.m 15 1,.c 16 f1 [.t 14,.t 15]] (.cond (.t 16) (.s [.m 17 5,.m 4 17] .ret) .skip))) (.r [.m 10 5,.o (.bin 11 .add (.t 10) (.ci 1)),.m 5 11])))))) (.s [.o (.mv 4 (.c (.sc (.int .i64 (-1)))))] .ret)))
def zj(P:Program)(iV:Nat):Prop:=∀(nn:Option Bool)(l:List Ex)(e:Ex),l.length≤1000000→AF P iV [.ls nn 3 (l.map eE),.pt (eE e) 0] (.own (eI (wF l e)))
def PX(hm:Mx P){g:Nat}(hr:il P g=some (18,Gv f1,[.t 4]))(iS:vV P f1):zj P g:=by
 intro nn l e hl;refine fY hr hm rfl fun hb=>?_;obtain⟨k,n,jR,ks,he⟩:=Ex.ex e;have hE:eE e=.ag [eI k,eI n,.ls jR 3 (ks.map eE)]:=by rw[he,gM];rfl
 simp only[xl,mm,nr,hE];simp+contextual-implicitDefEqProofs only[Gv,eI,aa,go_sem];refine gL (α:=Nat) [4,5,6,7,8,9,10,11,12,13,14,15,16,17] (fun i=>[(5,.im none (.sc (.int .i64 i)))]) (fun i=>[]) (fun i=>i≤l.length∧∀j (h:j<l.length),j<i→qE l[j] e=false) (fun i=>l.length-i) 0 (gO.to [] (by simp only[go_sem];rfl) rfl (by simp) (by rfl) (by simp only[fR,go_sem,iD,iP]<;>simp)) ⟨aq _,fun j _ h=>absurd h (Nat.not_lt_zero j)⟩ ?_;rintro i ⟨wd,Sg⟩
 by_cases hi:i<l.length
 ·have ai:D.at (l.map eE) i=eE l[i]:=ie hi;simp+contextual-implicitDefEqProofs only[hi,ai,lC,lN,aS,lM,go_sem,iL,iN];refine fL (ds:=[.pt (eE l[i]) 0,.pt (eE e) 0]) (by rw[hE];rfl) (iS l[i] e) ?_;cases hq:qE l[i] e with
  |true=>
   have hf:wF l e=i:=by
    unfold wF;rw[fK.2 ⟨hi,hq,fun j hj=>by rw[Sg j (by omega) hj];simp⟩]
   rw[hf];simp+contextual-implicitDefEqProofs only[eB,go_sem]
   try exact D.Le.refl _
  |false=>
   simp+contextual-implicitDefEqProofs only[eB,go_sem];refine⟨i+1,⟨by omega,fun j h hj=>?_⟩,by omega,?_⟩
   ·by_cases e1:j=i
    subst e1;exact hq;exact Sg j h (by omega)
   rw[fQ (by omega) (by omega)];exact gO.to [] (by simp only[go_sem];rfl) rfl (by simp) (by rfl) (by simp only[fR,go_sem]<;>simp)
 obtain rfl:i=l.length:=by omega
 have hf:wF l e= -1:=by
  unfold wF;rw[List.findIdx?_eq_none_iff.2 fun x hx=>by
   obtain⟨j,h,rfl⟩:=dE hx;rw[Sg j h h]]
 rw[hf];simp+contextual-implicitDefEqProofs only[bR,lM,go_sem]
 try exact D.Le.refl _
abbrev zE:Ex:=.mk 1 0 (some true) []
abbrev oE:Ex:=.mk 2 0 (some true) []
abbrev mz(k:Int)(a b:Ex):Ex:=.mk k 0 (some false) [a,b]
def ug(r:Ex):Ex×Bool:=if fZ r≤800 then(jM r,true)else(r,false)
def JQ:List (Ex×Bool)→Ex×Bool
 | [x,y]=>if x.2=true then(if y.2=true then ug (mz 6 x.1 y.1)else(zE,false))else(zE,false)
 |_=>(zE,true)
def JK(a:Int):List Ex→List (Ex×Bool)→Ex×Bool
 | [p,q],[x,y]=>if x.2=true then(if lR a p=true then(if y.2=true then ug (mz 6 (mz 7 x.1 q) y.1)else(mz 7 x.1 q,false))else ug (mz 7 x.1 q))else(zE,false)
 |_,_=>(zE,true)
def CA(e:Ex):List (Ex×Bool)→Ex×Bool
 | [x]=>if x.2=true then ug (mz 7 x.1 e)else(zE,false)
 |_=>(zE,true)
mutual
def iI(a c:Int):Ex→Ex×Bool
 |.mk k n nn ks=>if k=4 then(if n=c then(oE,true)else(zE,true))else if k=6 then JQ (mL a c ks)else if k=7 then JK a ks (mL a c ks)else if k=8 then CA (.mk k n nn ks) (mL a c ks)else(zE,true)
def mL(a c:Int):List Ex→List (Ex×Bool)
 | []=>[]
 |e::es=>iI a c e::mL a c es
end
def LI:eE zE=.ag [.sc (.int .i64 1),.sc (.int .i64 0),.ls (some true) 3 []]:=by rw[gM];rfl
def BS{r:Ex}(h:f8 g r=true):f8 g (ug r).1=true∧((ug r).2=true→fZ (ug r).1≤800):=by
 unfold ug;have:=jO r h
 split
 ·exact⟨this.1,fun _=>by simp only;omega⟩
 exact⟨h,fun h=>by cases h⟩
def pn(h:gE g0 8 n ks=true):∃x,ks=[x]:=by
 simp only[gE,bA]at h;have h1:=h.1;have h3:ks.length=1:=by simp[jU]at h1;omega
 match ks,h3 with
 | [x],_=>exact⟨x,rfl⟩
def lg(hk:k=6∨k=7):f8 g (mz k a b)=(f8 g a&&f8 g b):=sy hk
def VX:f8 g zE=true:=qg (.inl rfl)
def acK:f8 g oE=true:=qg (.inr rfl)
def ac0:fZ zE=1:=by rw[gw];rfl
def ael:fZ oE=1:=by rw[gw];rfl
def jE{a c:Int}(e:Ex):f8 g e=true→f8 g (iI a c e).1=true∧((iI a c e).2=true→fZ (iI a c e).1≤800):=by
 refine Ex.ind (p:=fun e=>f8 g e=true→f8 g (iI a c e).1=true∧((iI a c e).2=true→fZ (iI a c e).1≤800)) (fun k n nn ks ih h=>?_) e;have hz:f8 g zE=true∧((true:Bool)=true→fZ zE≤800):=⟨VX,fun _=>by rw[ac0];omega⟩;have ho:f8 g oE=true∧((true:Bool)=true→fZ oE≤800):=⟨acK,fun _=>by rw[ael];omega⟩;have hf:f8 g zE=true∧((false:Bool)=true→fZ zE≤800):=⟨VX,fun h=>by cases h⟩;have hk:=iF h;rw[iI]
 split
 ·split
  exact ho;exact hz
 split
 ·rename_i h6
  obtain⟨x,y,rfl,hx,hy⟩:=ik (.inl h6) h;have i1:=ih x (by simp) hx;have i2:=ih y (by simp) hy;simp only[mL,JQ]
  split
  ·split
   ·exact BS (by rw[lg (.inl rfl),i1.1,i2.1];rfl)
   exact hf
  exact hf
 split
 ·rename_i h7
  obtain⟨x,y,rfl,hx,hy⟩:=ik (.inr h7) h;have i1:=ih x (by simp) hx;have i2:=ih y (by simp) hy;simp only[mL,JK];have h7:f8 g (mz 7 (iI a c x).1 y)=true:=by rw[lg (.inr rfl),i1.1,hy];rfl
  split
  ·split
   ·split
    ·exact BS (by rw[lg (.inl rfl),h7,i2.1];rfl)
    exact⟨h7,fun h=>by cases h⟩
   exact BS h7
  exact hf
 split
 ·rename_i h8
  subst h8;obtain⟨x,rfl⟩:=pn (jo h);have i1:=ih x (by simp) (hk x (by simp));simp only[mL,CA]
  split
  ·exact BS (by rw[lg (.inr rfl),i1.1,h];rfl)
  exact hf
 exact hz
def Gn(g f1 f2 f3 f4 f5 f6:Nat):RC:=(.s [.o (.zer 6 3 .ze),.v 7 .cf] (.s [.c 19 f1 [],.o (.zer 8 3 .ze),.s 3 8 19] (.seq (.s [.m 20 0,.n 21 20,.f 22 0 21,.l 23 1 22] (.gX 0 (.s [.q 26 23 4,.m 25 26] (.cond (.t 25) (.seq (.s [.m 27 0,.n 28 27,.f 29 1 28,.l 30 1 29,.m 31 2,.o (.bin 32 .eql (.t 30) (.t 31))] (.cond (.t 32) (.s [.c 33 f2 [],.s 3 6 33,.v 7 .ct] .ret) .skip)) (.s [.L 34 3 8,.s 3 6 34,.v 7 .ct] .ret)) (.s [.q 36 23 6,.m 35 36] (.cond (.t 35) (.s [.m 38 0,.n 39 38,.f 40 2 39,.l 41 1 40,.i 42 3 41 0,.m 43 1,.m 44 2,.c 45 g [.t 42,.t 43,.t 44],.m 37 45,.o (.ext 46 (.t 37) 0),.o (.ext 47 (.t 37) 1),.o (.zer 9 3 .ze),.s 3 9 46,.m 10 47] (.s [.m 49 0,.n 50 49,.f 51 2 50,.l 52 1 51,.i 53 3 52 1,.m 54 1,.m 55 2,.c 56 g [.t 53,.t 54,.t 55],.m 48 56,.o (.ext 57 (.t 48) 0),.o (.ext 58 (.t 48) 1),.o (.zer 11 3 .ze),.s 3 11 57,.m 12 58] (.seq (.s [.m 59 10,.o (.un 60 .not (.t 59)),.m 61 60,.u 61 (.mv 62 (.t 12)),.u 61 (.un 63 .not (.t 62)),.o (.pick 64 (.t 61) .ct (.t 63))] (.cond (.t 64) (.s [.L 65 3 8,.s 3 6 65,.v 7 .cf] .ret) .skip)) (.r [.L 66 3 9,.L 67 3 11,.c 68 f3 [.ci 6,.t 66,.t 67],.s 3 8 68])))) (.s [.q 70 23 7,.m 69 70] (.cond (.t 69) (.s [.m 72 0,.n 73 72,.f 74 2 73,.l 75 1 74,.i 76 3 75 0,.m 77 1,.m 78 2,.c 79 g [.t 76,.t 77,.t 78],.m 71 79,.o (.ext 80 (.t 71) 0),.o (.ext 81 (.t 71) 1),.o (.zer 13 3 .ze),.s 3 13 80,.m 14 81] (.seq (.s [.m 82 14,.o (.un 83 .not (.t 82))] (.cond (.t 83) (.s [.L 84 3 8,.s 3 6 84,.v 7 .cf] .ret) .skip)) (.seq (.jI true [.L 85 3 13,.m 86 0,.n 87 86,.f 88 2 87,.l 89 1 88,.i 90 3 89 1,.L 91 3 90,.c 92 f3 [.ci 7,.t 85,.t 91],.s 3 8 92]) (.s [.m 93 0,.n 94 93,.f 95 2 94,.l 96 1 95,.i 97 3 96 0,.m 98 1,.c 99 f4 [.t 97,.t 98]] (.cond (.t 99) (.s [.m 101 0,.n 102 101,.f 103 2 102,.l 104 1 103,.i 105 3 104 1,.m 106 1,.m 107 2,.c 108 g [.t 105,.t 106,.t 107],.m 100 108,.o (.ext 109 (.t 100) 0),.o (.ext 110 (.t 100) 1),.o (.zer 15 3 .ze),.s 3 15 109,.m 16 110] (.seq (.s [.m 111 16,.o (.un 112 .not (.t 111))] (.cond (.t 112) (.s [.L 113 3 8,.s 3 6 113,.v 7 .cf] .ret) .skip)) (.r [.L 114 3 8,.L 115 3 15,.c 116 f3 [.ci 6,.t 114,.t 115],.s 3 8 116]))) .skip))))) (.s [.q 118 23 8,.m 117 118] (.cond (.t 117) (.s [.m 120 0,.n 121 120,.f 122 2 121,.l 123 1 122,.i 124 3 123 0,.m 125 1,.m 126 2,.c 127 g [.t 124,.t 125,.t 126],.m 119 127,.o (.ext 128 (.t 119) 0),.o (.ext 129 (.t 119) 1),.o (.zer 17 3 .ze),.s 3 17 128,.m 18 129] (.seq (.s [.m 130 18,.o (.un 131 .not (.t 130))] (.cond (.t 131) (.s [.L 132 3 8,.s 3 6 132,.v 7 .cf] .ret) .skip)) (.jI true [.L 133 3 17,.m 134 0,.n 135 134,.L 136 3 135,.c 137 f3 [.ci 7,.t 133,.t 136],.s 3 8 137]))) (.s [.L 24 3 8,.s 3 6 24,.v 7 .ct] .ret))))))))))) (.seq (.s [.c 138 f5 [.t 8],.o (.bin 139 .gtr (.t 138) (.ci 800))] (.cond (.t 139) (.s [.L 140 3 8,.s 3 6 140,.v 7 .cf] .ret) .skip)) (.s [.c 141 f6 [.t 8],.s 3 6 141,.v 7 .ct] .ret)))))
def zn(P:Program)(iV:Nat):Prop:=∀(g0:Int×Int)(_:oC g0=true)(a c:Int),0≤a→a≤7→∀e:Ex,f8 g0 e=true→fZ e≤1000→AF P iV [.pt (eE e) 0,.sc (.int .i64 a),.sc (.int .i64 c)] (.lf [.sh (eE (iI a c e).1),.own (eB (iI a c e).2)])
def Rg(hm:Mx P){g f5 f6:Nat}(hr:il P g=some (142,Gn g f1 f2 f3 f4 f5 f6,[.c 6 3 true,.t 7]))(iS:sj P f1)(jw:vh P f2)(pd:nj P f3)(zd:sV P f4)(GF:xo P f5)(hc6:vS P f6):zn P g:=by
 intro g0 hg a c O1 ha1;have key:∀N:Nat,∀e:Ex,fZ e≤N→f8 g0 e=true→fZ e≤1000→AF P g [.pt (eE e) 0,.sc (.int .i64 a),.sc (.int .i64 c)] (.lf [.sh (eE (iI a c e).1),.own (eB (iI a c e).2)]):=by
  intro N
  induction N with
  |zero=>intro e hz;have:=iu e;omega
  |succ N ih=>
   intro e hz hT hle;obtain⟨k,n,nn,ks,he⟩:=Ex.ex e;have E2:=hT;rw[he]at E2;have hE:eE e=.ag [eI k,eI n,.ls nn 3 (ks.map eE)]:=by rw[he,gM];rfl
   have ju:iI a c e=iI a c (.mk k n nn ks):=by rw[he]
   rw[iI]at ju;refine fY hr hm rfl fun _=>?_;simp only[xl,mm,nr,hE];simp+contextual-implicitDefEqProofs only[Gn,eI,eB,lN,aa,ah,aI,bE,D.size,D.fS,go_sem];refine fL (ds:=[]) (by rfl) (iS ()) ?_;rw[LI]
   by_cases c4:k=4
   ·subst c4;rw[af rfl]at ju
    by_cases cn:n=c
    ·subst cn;rw[af rfl]at ju;rw[ju];simp+contextual-implicitDefEqProofs only[D.put,lN,aa,ah,lK,lZ,bE,D.size,D.fS,gr,fV,aj,ak,fU,fO,go_sem];refine fL (ds:=[]) (by rfl) (jw ()) ?_;simp+contextual-implicitDefEqProofs only[D.put,j6.sub,gf,gA,aa,lK,lZ,bE,fV,fU,fO,go_sem]
     all_goals (try exact D.Le.refl _)
    have dn:(n==c)=false:=aW cn;rw[ae cn]at ju;rw[ju,LI];simp+contextual-implicitDefEqProofs only[dn,D.put,aa,ah,lK,lZ,bE,D.size,D.fS,gY,gr,fV,aj,ak,aJ,aP,aO,fU,fO,go_sem]
    all_goals (try exact D.Le.refl _)
   have d4:(k==4)=false:=aW c4;rw[ae c4]at ju
   by_cases c6:k=6
   ·subst c6;rw[af rfl]at ju;obtain⟨x,y,rfl,hx,hy⟩:=ik (.inl rfl) E2;have hs:1+(fZ x+fZ y)=fZ e:=by rw[he,gw];simp[gq]
    have hxp:=iu x;have hyp:=iu y;have ox:=jE (g:=g0) (a:=a) (c:=c) x hx;have oy:=jE (g:=g0) (a:=a) (c:=c) y hy;simp only[mL,JQ]at ju;simp+contextual-implicitDefEqProofs only[d4,D.put,lC,lN,aa,ah,lK,lZ,aG,Int.reduceLT,aV,bE,D.size,D.fS,gr,fV,aj,ak,fU,fO,go_sem];refine fL (ds:=[.pt (eE x) 0,.sc (.int .i64 a),.sc (.int .i64 c)]) (by rfl) (ih x (by omega) hx (by omega)) ?_;rcases hxx:iI a c x with⟨rx,bx⟩;rw[hxx]at ox ju;simp only at ox ju;simp+contextual-implicitDefEqProofs only[aK,eB,D.put,lC,lN,gf,aa,ah,aI,lK,lZ,aG,Int.reduceLT,Int.reduceLE,bE,Int.reduceToNat,D.size,D.fS,gr,fV,aj,ak,fU,fO,go_sem];refine fL (ds:=[.pt (eE y) 0,.sc (.int .i64 a),.sc (.int .i64 c)]) (by rfl) (ih y (by omega) hy (by omega)) ?_;rcases hyy:iI a c y with⟨ry,bq⟩;rw[hyy]at oy ju;simp only at oy ju;cases bx with
    |false=>
     simp only[mI,aA]at ju;rw[ju,LI];simp+contextual-implicitDefEqProofs only[bne,bN,bU,bJ,aK,eB,D.put,lC,lN,gf,aa,ah,aI,lK,lZ,bE,D.size,D.fS,gY,fV,aj,ak,aJ,aP,aO,fU,fO,go_sem]
     all_goals (try exact D.Le.refl _)
    |true=>
     cases bq with
     |false=>
      simp only[mI,aA,ay]at ju;rw[ju,LI];simp+contextual-implicitDefEqProofs only[bne,bT,bN,bU,bJ,aK,eB,D.put,lC,lN,gf,aa,ah,aI,lK,lZ,bE,D.size,D.fS,gY,fV,aj,ak,aJ,aP,aO,fU,fO,go_sem]
      all_goals (try exact D.Le.refl _)
     |true=>
      simp only[ay]at ju;rw[ju];simp+contextual-implicitDefEqProofs only[bne,bT,bN,bU,aK,eB,D.put,lC,lN,j6.sub,gf,gA,aa,ah,aI,lK,lZ,bE,D.size,D.fS,fV,aj,ak,fU,fO,go_sem];refine fL (ds:=[.sc (.int .i64 6),eE rx,eE ry]) (by rfl) (AFP.sh pd 6 (gA _) (gf _) (gA _) (gf _)) ?_;simp+contextual-implicitDefEqProofs only[aK,D.put,lC,lN,aa,ah,lK,lZ,bE,D.size,D.fS,fV,fU,fO,go_sem];have hrT:f8 g0 (mz 6 rx ry)=true:=by rw[lg (.inl rfl),ox.1,oy.1];rfl
      have hrS:fZ (mz 6 rx ry)≤5000:=by rw[gw];simp only[gq];have:=ox.2 rfl;have:=oy.2 rfl;omega
      have hR:eE (mz 6 rx ry)=.ag [.sc (.int .i64 6),.sc (.int .i64 0),.ls (some false) 3 [eE rx,eE ry]]:=by rw[Bg]
      refine fL (ds:=[.pt (eE (mz 6 rx ry)) 0]) (by rw[hR];rfl) (GF (mz 6 rx ry) (by omega)) ?_;unfold ug
      by_cases jP:fZ (mz 6 rx ry)≤800
      ·have Io:¬((800:Int)<(fZ (mz 6 rx ry):Int)):=by omega
       rw[af jP];simp+contextual-implicitDefEqProofs only[Io,eI,lC,lN,go_sem];refine fL (ds:=[.pt (eE (mz 6 rx ry)) 0]) (by rw[hR];rfl) (hc6 g0 hg (mz 6 rx ry) hrT (by omega)) ?_;simp+contextual-implicitDefEqProofs only[aK,D.put,j6.sub,gf,gA,aa,lK,lZ,bE,fV,fU,fO,go_sem]
       all_goals (try exact D.Le.refl _)
      have Io:(800:Int)<(fZ (mz 6 rx ry):Int):=by omega
      rw[ae jP,hR];simp+contextual-implicitDefEqProofs only[Io,aK,eI,D.put,aa,ah,lK,lZ,bE,D.size,D.fS,gY,fV,aJ,aP,aO,fU,fO,go_sem]
      all_goals (try exact D.Le.refl _)
   have d6:(k==6)=false:=aW c6;rw[ae c6]at ju
   by_cases c7:k=7
   ·subst c7;rw[af rfl]at ju;obtain⟨x,y,rfl,hx,hy⟩:=ik (.inr rfl) E2;have hs:1+(fZ x+fZ y)=fZ e:=by rw[he,gw];simp[gq]
    have hxp:=iu x;have hyp:=iu y;have ox:=jE (g:=g0) (a:=a) (c:=c) x hx;have oy:=jE (g:=g0) (a:=a) (c:=c) y hy;simp only[mL,JK]at ju;simp+contextual-implicitDefEqProofs only[d4,D.put,lC,lN,aa,ah,lK,lZ,aG,Int.reduceLT,aV,Int.reduceBEq,bE,D.size,D.fS,gr,fV,aj,ak,fU,fO,go_sem];refine fL (ds:=[.pt (eE x) 0,.sc (.int .i64 a),.sc (.int .i64 c)]) (by rfl) (ih x (by omega) hx (by omega)) ?_;rcases hxx:iI a c x with⟨rx,bx⟩;rw[hxx]at ox ju;simp only at ox ju;cases bx with
    |false=>
     simp only[mI,aA]at ju;rw[ju,LI];simp+contextual-implicitDefEqProofs only[bne,bN,bU,bJ,aK,eB,D.put,lC,lN,gf,aa,ah,aI,lK,lZ,bE,D.size,D.fS,gY,fV,aj,ak,aJ,aP,aO,fU,fO,go_sem]
     all_goals (try exact D.Le.refl _)
    |true=>
     have oxs:=ox.2 rfl;simp only[ay]at ju;have a1:D.at [eE x,eE y] 1=eE y:=rfl;simp+contextual-implicitDefEqProofs only[a1,aw,bne,bT,bN,bU,aK,eB,D.put,lC,lN,j6.sub,gf,gA,aa,ah,aI,lK,lZ,aG,Int.reduceLT,Int.reduceLE,bE,Int.reduceToNat,D.size,D.fS,gr,fV,aj,ak,fU,fO,go_sem];refine fL (ds:=[.sc (.int .i64 7),eE rx,eE y]) (by rfl) (AFP.sh pd 7 (gA _) (gf _) (gA _) (gf _)) ?_;simp+contextual-implicitDefEqProofs only[aK,D.put,lC,lN,aa,ah,lK,lZ,aG,Int.reduceLT,aV,bE,D.size,D.fS,gr,fV,aj,ak,fU,fO,go_sem];refine fL (ds:=[.pt (eE x) 0,.sc (.int .i64 a)]) (by rfl) (zd g0 hg a O1 ha1 x hx) ?_;have h7T:f8 g0 (mz 7 rx y)=true:=by rw[lg (.inr rfl),ox.1,hy];rfl
     have h7S:fZ (mz 7 rx y)≤1801:=by rw[gw];simp only[gq];omega
     cases X3:lR a x with
     |true=>
      rw[X3]at ju;simp only[ay]at ju;simp+contextual-implicitDefEqProofs only[eB,lC,lN,aa,ah,lK,lZ,aG,Int.reduceLT,Int.reduceLE,Int.reduceToNat,D.size,D.fS,gr,fV,aj,ak,go_sem];refine fL (ds:=[.pt (eE y) 0,.sc (.int .i64 a),.sc (.int .i64 c)]) (by rfl) (ih y (by omega) hy (by omega)) ?_;rcases hyy:iI a c y with⟨ry,bq⟩;rw[hyy]at oy ju;simp only at oy ju;cases bq with
      |false=>
       simp only[mI,aA]at ju;rw[ju,Bg];simp+contextual-implicitDefEqProofs only[bne,bN,bU,bJ,aK,eB,D.put,lC,lN,gf,aa,ah,aI,lK,lZ,bE,D.size,D.fS,gY,fV,aj,ak,aJ,aP,aO,fU,fO,go_sem]
       all_goals (try exact D.Le.refl _)
      |true=>
       have oys:=oy.2 rfl;simp only[ay]at ju;rw[ju];simp+contextual-implicitDefEqProofs only[bne,bT,bN,bU,aK,eB,D.put,lC,lN,j6.sub,gf,gA,aa,ah,aI,lK,lZ,bE,D.size,D.fS,gY,fV,aj,ak,aJ,aP,aO,fU,fO,go_sem];refine fL (ds:=[.sc (.int .i64 6),.ag [.sc (.int .i64 7),.sc (.int .i64 0),.ls (some false) 3 [eE rx,eE y]],eE ry]) (by rfl) (AFP.sh pd 6 rfl rfl (gA _) (gf _)) ?_;simp+contextual-implicitDefEqProofs only[aK,D.put,lC,lN,aa,ah,lK,lZ,D.size,D.fS,fV,fU,fO,go_sem];have hrT:f8 g0 (mz 6 (mz 7 rx y) ry)=true:=by rw[lg (.inl rfl),h7T,oy.1];rfl
       have hrS:fZ (mz 6 (mz 7 rx y) ry)≤5000:=by rw[gw];simp only[gq];omega
       have hR:eE (mz 6 (mz 7 rx y) ry)=.ag [.sc (.int .i64 6),.sc (.int .i64 0),.ls (some false) 3 [.ag [.sc (.int .i64 7),.sc (.int .i64 0),.ls (some false) 3 [eE rx,eE y]],eE ry]]:=by rw[Bg,Bg]
       refine fL (ds:=[.pt (eE (mz 6 (mz 7 rx y) ry)) 0]) (by rw[hR];rfl) (GF (mz 6 (mz 7 rx y) ry) (by omega)) ?_;unfold ug
       by_cases jP:fZ (mz 6 (mz 7 rx y) ry)≤800
       ·have Io:¬((800:Int)<(fZ (mz 6 (mz 7 rx y) ry):Int)):=by omega
        rw[af jP];simp+contextual-implicitDefEqProofs only[Io,eI,lC,lN,go_sem];refine fL (ds:=[.pt (eE (mz 6 (mz 7 rx y) ry)) 0]) (by rw[hR];rfl) (hc6 g0 hg (mz 6 (mz 7 rx y) ry) hrT (by omega)) ?_;simp+contextual-implicitDefEqProofs only[aK,D.put,j6.sub,gf,gA,aa,lK,lZ,bE,fV,fU,fO,go_sem]
        all_goals (try exact D.Le.refl _)
       have Io:(800:Int)<(fZ (mz 6 (mz 7 rx y) ry):Int):=by omega
       rw[ae jP,hR];simp+contextual-implicitDefEqProofs only[Io,aK,eI,D.put,aa,ah,lK,lZ,bE,D.size,D.fS,gY,fV,aJ,aP,aO,fU,fO,go_sem]
       all_goals (try exact D.Le.refl _)
     |false=>
      rw[X3]at ju;simp only[mI,aA]at ju;rw[ju];simp+contextual-implicitDefEqProofs only[eB,lC,lN,go_sem];have hrT:f8 g0 (mz 7 rx y)=true:=h7T;have hrS:fZ (mz 7 rx y)≤5000:=by omega
      have hR:eE (mz 7 rx y)=.ag [.sc (.int .i64 7),.sc (.int .i64 0),.ls (some false) 3 [eE rx,eE y]]:=by rw[Bg]
      refine fL (ds:=[.pt (eE (mz 7 rx y)) 0]) (by rw[hR];rfl) (GF (mz 7 rx y) (by omega)) ?_;unfold ug
      by_cases jP:fZ (mz 7 rx y)≤800
      ·have Io:¬((800:Int)<(fZ (mz 7 rx y):Int)):=by omega
       rw[af jP];simp+contextual-implicitDefEqProofs only[Io,eI,lC,lN,go_sem];refine fL (ds:=[.pt (eE (mz 7 rx y)) 0]) (by rw[hR];rfl) (hc6 g0 hg (mz 7 rx y) hrT (by omega)) ?_;simp+contextual-implicitDefEqProofs only[aK,D.put,j6.sub,gf,gA,aa,lK,lZ,bE,fV,fU,fO,go_sem]
       all_goals (try exact D.Le.refl _)
      have Io:(800:Int)<(fZ (mz 7 rx y):Int):=by omega
      rw[ae jP,hR];simp+contextual-implicitDefEqProofs only[Io,aK,eI,D.put,aa,ah,lK,lZ,bE,D.size,D.fS,gY,fV,aJ,aP,aO,fU,fO,go_sem]
      all_goals (try exact D.Le.refl _)
   have d7:(k==7)=false:=aW c7;rw[ae c7]at ju
   by_cases c8:k=8
   ·subst c8;rw[af rfl]at ju;obtain⟨x,rfl⟩:=pn (jo E2);have hx:=iF E2 x (by simp);have hs:1+fZ x=fZ e:=by rw[he,gw];simp[gq]
    have ox:=jE (g:=g0) (a:=a) (c:=c) x hx;simp only[mL,CA]at ju;rw[←he]at ju;simp+contextual-implicitDefEqProofs only[d4,d6,d7,D.put,lC,lN,aa,ah,lK,lZ,aG,Int.reduceLT,aV,bE,D.size,D.fS,gr,fV,aj,ak,fU,fO,go_sem];refine fL (ds:=[.pt (eE x) 0,.sc (.int .i64 a),.sc (.int .i64 c)]) (by rfl) (ih x (by omega) hx (by omega)) ?_;rcases hxx:iI a c x with⟨rx,bx⟩;rw[hxx]at ox ju;simp only at ox ju;cases bx with
    |false=>
     simp only[mI,aA]at ju;rw[ju,LI];simp+contextual-implicitDefEqProofs only[bne,bN,bU,bJ,aK,eB,D.put,lC,lN,gf,aa,ah,aI,lK,lZ,bE,D.size,D.fS,gY,fV,aj,ak,aJ,aP,aO,fU,fO,go_sem]
     all_goals (try exact D.Le.refl _)
    |true=>
     have oxs:=ox.2 rfl;simp only[ay]at ju;rw[ju];simp+contextual-implicitDefEqProofs only[bne,bT,bN,bU,aK,eB,D.put,lC,lN,j6.sub,gf,gA,aa,ah,aI,lK,lZ,bE,D.size,D.fS,gY,fV,aj,ak,aJ,aP,aO,fU,fO,go_sem];refine fL (ds:=[.sc (.int .i64 7),eE rx,eE e]) (by rw[hE];rfl) (AFP.sh pd 7 (gA _) (gf _) (gA _) (gf _)) ?_;simp+contextual-implicitDefEqProofs only[aK,D.put,lC,lN,aa,ah,lK,lZ,bE,D.size,D.fS,fV,fU,fO,go_sem];have hrT:f8 g0 (mz 7 rx e)=true:=by rw[lg (.inr rfl),ox.1,hT];rfl
     have hrS:fZ (mz 7 rx e)≤5000:=by rw[gw];simp only[gq];omega
     have hR:eE (mz 7 rx e)=.ag [.sc (.int .i64 7),.sc (.int .i64 0),.ls (some false) 3 [eE rx,eE e]]:=by rw[Bg]
     refine fL (ds:=[.pt (eE (mz 7 rx e)) 0]) (by rw[hR];rfl) (GF (mz 7 rx e) (by omega)) ?_;unfold ug
     by_cases jP:fZ (mz 7 rx e)≤800
     ·have Io:¬((800:Int)<(fZ (mz 7 rx e):Int)):=by omega
      rw[af jP];simp+contextual-implicitDefEqProofs only[Io,eI,lC,lN,go_sem];refine fL (ds:=[.pt (eE (mz 7 rx e)) 0]) (by rw[hR];rfl) (hc6 g0 hg (mz 7 rx e) hrT (by omega)) ?_;simp+contextual-implicitDefEqProofs only[aK,D.put,j6.sub,gf,gA,aa,lK,lZ,bE,fV,fU,fO,go_sem]
      all_goals (try exact D.Le.refl _)
     have Io:(800:Int)<(fZ (mz 7 rx e):Int):=by omega
     rw[ae jP,hR];simp+contextual-implicitDefEqProofs only[Io,aK,eI,D.put,aa,ah,lK,lZ,bE,D.size,D.fS,gY,fV,aJ,aP,aO,fU,fO,go_sem]
     all_goals (try exact D.Le.refl _)
   have d8:(k==8)=false:=aW c8;rw[ae c8]at ju;rw[ju,LI];simp+contextual-implicitDefEqProofs only[d4,d6,d7,d8,D.put,aa,ah,lK,lZ,bE,D.size,D.fS,gY,gr,fV,aj,aJ,aP,aO,fU,fO,go_sem]
   all_goals (try exact D.Le.refl _)
 exact fun e hT hle=>key _ e (aw _) hT hle
def Tf(a:Int)(x:Ex)(j:Nat)(L:List Ex)(row:List Int):Option (List Ex×List Int):=
  if(iI a j x).2=true then
    (if (iI a j x).1.k = 1 then some (L, row ++ [-1])
     else if wF L (iI a j x).1<0 then some (L++[(iI a j x).1],row++[(L.length:Int)])else some (L,row++[wF L (iI a j x).1]))
  else none
def uh(a:Int)(x:Ex)(L:List Ex):Nat→Option (List Ex×List Int)
 |0=>some (L,[])
 |j+1=>match uh a x L j with
  |some p=>Tf a x j p.1 p.2
  |none=>none
def YG(x:Ex)(c k:Nat)(rows:List (List Int))(L:List Ex):Option (List Ex×List (List Int)):=
 match uh k x L c with
 |some p=>some (p.1,rows++[p.2])
 |none=>none
def rV(x:Ex)(L:List Ex)(c:Nat):Nat→Option (List Ex×List (List Int))
 |0=>some (L,[])
 |k+1=>match rV x L c k with
  |some p=>YG x c k p.2 p.1
  |none=>none
def stF(m c i:Nat)(L:List Ex)(N:List (List (List Int))):Option (List Ex×List (List (List Int))):=
 if i<L.length then(match rV (L.getD i zE) L c m with
  |some p=>if p.1.length≤60 then some (p.1,N++[p.2])else none
  |none=>none)else some (L,N)
def oU(e:Ex)(m c:Nat):Nat→Option (List Ex×List (List (List Int)))
 |0=>some ([jM e],[])
 |i+1=>match oU e m c i with
  |some p=>stF m c i p.1 p.2
  |none=>none
def ru(e:Ex)(m c:Nat):(List Ex×List (List (List Int)))×Int:=
 match oU e m c 61 with
 |some p=>(p,0)
 |none=>(([],[]),3)
def L3(g:Int×Int)(x:Ex):Prop:=f8 g x=true∧fZ x≤800
variable {L:List Ex}
def Ys{g:Int×Int}{a:Int}{j:Nat}{L':List Ex}{row afT:List Int}(hx:f8 g x=true)(hL:∀y∈L,L3 g y)(h:Tf a x j L row=some (L',afT)):
  (∀y∈L',L3 g y)∧(∃t,L'=L++t∧t.length≤1)∧∃v:Int,afT=row++[v]∧(v= -1∨(0≤v∧v<L'.length∧qE (L'.getD v.toNat zE) (iI a j x).1=true)):=by
 have hs:=jE (g:=g) (a:=a) (c:=(j:Int)) x hx;unfold Tf at h
 split at h
 ·rename_i h2
  have Eb:=hs.2 h2
  split at h
  ·obtain⟨rfl,rfl⟩:=Prod.mk.inj (aD h);exact⟨hL,⟨[],by simp,by simp⟩,_,rfl,.inl rfl⟩
  split at h
  ·obtain⟨rfl,rfl⟩:=Prod.mk.inj (aD h);refine⟨fun y hy=>?_,⟨[_],rfl,by simp⟩,_,rfl,.inr ⟨by omega,by simp;omega,?_⟩⟩
   ·rcases an.1 hy with hy|hy
    exact hL y hy;rw[au]at hy;subst hy;exact⟨hs.1,Eb⟩
   rw[aE];simp[Ye]
  rename_i hf
  obtain⟨rfl,rfl⟩:=Prod.mk.inj (aD h);refine⟨hL,⟨[],by simp,by simp⟩,_,rfl,.inr ⟨by omega,?_⟩⟩;unfold wF at hf⊢;cases hq:L.findIdx? (fun x_1=>qE x_1 (iI a j x).1)with
  |none=>rw[hq]at hf;simp at hf
  |some i=>
   obtain⟨hi,h1,_⟩:=fK.1 hq;simp only;refine⟨by omega,?_⟩;rw[aS,aE,bb hi];exact h1
 cases h
def Df{a:Int}(hx:f8 g x=true)(hL:∀y∈L,L3 g y):∀{j:Nat} {p:List Ex×List Int},uh a x L j=some p→
  (∀y∈p.1,L3 g y)∧(∃t,p.1=L++t∧t.length≤j)∧p.2.length=j∧∀(i:Nat)(v:Int),p.2[i]?=some v→v= -1∨(0≤v∧v<p.1.length∧qE (p.1.getD v.toNat zE) (iI a i x).1=true)
 |0,p,h=>by
  obtain rfl:=aD h;exact⟨hL,⟨[],by simp,by simp⟩,rfl,fun i v h=>by simp at h⟩
 |j+1,p,h=>by
  simp only[uh]at h
  split at h
  ·rename_i p0 h0
   obtain⟨h1,⟨t,h2,h3⟩,h4,h5⟩:=Df hx hL h0;obtain⟨L',afT⟩:=p;obtain⟨i1,⟨t',i2,i3⟩,v,i4,i5⟩:=Ys hx h1 h;simp only;refine⟨i1,⟨t++t',by rw[i2,h2,bC],by rw[lP];omega⟩,by rw[i4,lP,h4];rfl,fun i w hw=>?_⟩;rw[i4]at hw
   by_cases hi:i<p0.2.length
   ·rw[bL hi]at hw;rcases h5 i w hw with h|⟨h6,h7,h8⟩
    exact .inl h;refine .inr ⟨h6,by rw[i2,lP];omega,?_⟩;rw[i2,aE,bL (by omega),←aE];exact h8
   rw[dA (by omega)]at hw;have:i=j:=by
    have:=(bj.1 hw).1;simp at this;omega
   subst this;rw[h4,e8]at hw;simp at hw;subst hw;exact i5
  cases h
def pK(x:Ex)(L:List Ex)(c:Nat)(rows:List (List Int)):Prop:=∀(k:Nat)(r:List Int),rows[k]?=some r→r.length=c∧∀(i:Nat)(v:Int),r[i]?=some v→v= -1∨(0≤v∧v<L.length∧qE (L.getD v.toNat zE) (iI (k:Int) i x).1=true)
variable {c:Nat}
def pK.app{t:List Ex}{rows:List (List Int)}(h:pK x L c rows):pK x (L++t) c rows:=fun k r hr=>by
 refine⟨(h k r hr).1,fun i v hv=>?_⟩;rcases(h k r hr).2 i v hv with h|⟨h6,h7,h8⟩
 exact .inl h;refine .inr ⟨h6,by rw[lP];omega,?_⟩;rw[aE,bL (by omega),←aE];exact h8
def Dv(hx:f8 g x=true)(hL:∀y∈L,L3 g y):∀{k:Nat} {p:List Ex×List (List Int)},rV x L c k=some p→
  (∀y∈p.1,L3 g y)∧(∃t,p.1=L++t∧t.length≤k*c)∧p.2.length=k∧pK x p.1 c p.2
 |0,p,h=>by
  obtain rfl:=aD h;exact⟨hL,⟨[],by simp,by simp⟩,rfl,fun i v h=>by simp at h⟩
 |k+1,p,h=>by
  simp only[rV]at h
  split at h
  ·rename_i p0 h0
   obtain⟨h1,⟨t,h2,h3⟩,h4,h5⟩:=Dv hx hL h0;unfold YG at h
   split at h
   ·rename_i q hq
    obtain rfl:=aD h;obtain⟨i1,⟨t',i2,i3⟩,i4,i5⟩:=Df hx h1 hq;simp only;refine⟨i1,⟨t++t',by rw[i2,h2,bC],by rw[lP,aT];omega⟩,by rw[lP,h4];rfl,fun i r hr=>?_⟩
    by_cases hi:i<p0.2.length
    ·rw[bL hi]at hr;have:=(h5.app (t:=t')) i r hr;rw[←i2]at this;exact this
    rw[dA (by omega)]at hr;have:i=k:=by
     have:=(bj.1 hr).1;simp at this;omega
    subst this;rw[h4,e8]at hr;simp at hr;subst hr;exact⟨i4,i5⟩
   cases h
  cases h
structure LH (g:Int×Int) (e:Ex) (m c:Nat) (L:List Ex) (N:List (List (List Int))):Prop where
 ok:∀y∈L,L3 g y
 hd:L.head?=some (jM e)
 len:L.length≤60
 le:N.length≤L.length
 rows:∀(i:Nat)(rs:List (List Int)),N[i]?=some rs→rs.length=m∧pK (L.getD i zE) L c rs
variable {e:Ex}{m:Nat}
def vT(he:f8 g e=true)(hs:fZ e≤800):∀{i:Nat} {p:List Ex×List (List (List Int))},oU e m c i=some p→LH g e m c p.1 p.2∧(p.2.length=i∨(p.2.length<i∧p.2.length=p.1.length))
 |0,p,h=>by
  obtain rfl:=aD h;have:=jO e he;refine⟨⟨fun y hy=>?_,rfl,by simp,by simp,fun i rs h=>by simp at h⟩,.inl rfl⟩;rw[au]at hy;subst hy;exact⟨this.1,by omega⟩
 |i+1,p,h=>by
  simp only[oU]at h
  split at h
  ·rename_i p0 h0
   obtain⟨h1,h2⟩:=vT he hs h0;unfold stF at h
   split at h
   ·rename_i hi
    have hN:p0.2.length=i:=by rcases h2 with h2|⟨h2,h3⟩<;>omega
    split at h
    ·rename_i q hq
     split at h
     ·rename_i h60
      obtain rfl:=aD h;have hxx:=h1.ok (p0.1.getD i zE) (by rw[aE,bb hi];exact aF hi);obtain⟨i1,⟨t,i2,i3⟩,i4,i5⟩:=Dv hxx.1 h1.ok hq;have hg:∀k,k<p0.1.length→q.1.getD k zE=p0.1.getD k zE:=fun k hk=>by rw[i2,aE,bL hk,←aE]
      have hh:=h1.hd;simp only;refine⟨⟨i1,?_,h60,by rw[lP,i2,lP];simp;omega,fun k rs hr=>?_⟩,.inl (by rw[lP,hN];rfl)⟩
      ·rw[i2];cases hp:p0.1 with
       |nil=>rw[hp]at hi;simp at hi
       |cons z zs=>rw[hp]at hh;simpa using hh
      by_cases hk:k<p0.2.length
      ·rw[bL hk]at hr;have:=h1.rows k rs hr;rw[hg k (by omega),i2];exact⟨this.1,this.2.app⟩
      rw[dA (by omega)]at hr;have:k=i:=by
       have:=(bj.1 hr).1;simp at this;omega
      subst this;rw[hN,e8]at hr;simp at hr;subst hr;rw[hg k hi];exact⟨i4,i5⟩
     cases h
    cases h
   rename_i hi
   obtain rfl:=aD h;have:=h1.le;refine⟨h1,.inr ?_⟩;simp only;rcases h2 with h2|⟨h2,h3⟩<;>omega
  cases h
def DL{a:Int}(h:uh a x L i=none):∀{k:Nat},i≤k→uh a x L k=none
 |0,hk=>by
  obtain rfl:i=0:=by omega
  exact h
 |k+1,hk=>by
  by_cases e1:i=k+1;rw[←e1];exact h;simp only[uh,DL h (show i≤k by omega)]
def Dh(h:rV x L c i=none):∀{k:Nat},i≤k→rV x L c k=none
 |0,hk=>by
  obtain rfl:i=0:=by omega
  exact h
 |k+1,hk=>by
  by_cases e1:i=k+1;rw[←e1];exact h;simp only[rV,Dh h (show i≤k by omega)]
def Ag(h:oU e m c i=none):∀{k:Nat},i≤k→oU e m c k=none
 |0,hk=>by
  obtain rfl:i=0:=by omega
  exact h
 |k+1,hk=>by
  by_cases e1:i=k+1;rw[←e1];exact h;simp only[oU,Ag h (show i≤k by omega)]
variable {p:List Ex×List (List (List Int))}
def FR(h:oU e m c i=some p)(hi:p.1.length≤i):∀{k:Nat},i≤k→oU e m c k=some p
 |0,hk=>by
  obtain rfl:i=0:=by omega
  exact h
 |k+1,hk=>by
  by_cases e1:i=k+1;rw[←e1];exact h
  simp only[oU,FR h hi (show i≤k by omega)];unfold stF;rw[ae (by omega)]
def qk(h:oU e m c 61=none):ru e m c=(([],[]),3):=by unfold ru;rw[h]
def rS(h:oU e m c 61=some p):ru e m c=(p,0):=by unfold ru;rw[h]
def zR(h:oU e m c i=some p):oU e m c (i+1)=stF m c i p.1 p.2:=by simp only[oU,h]
def RH:oU e m c 0=some ([jM e],[]):=rfl
attribute [irreducible] oU
def np(r:List Int):D:=.ls (some false) 1 (r.map eI)
def mZ(r:List (List Int)):D:=.ls (some false) 1 (r.map np)
def uV(f1 f2 f3 f4:Nat):RC:=(.s [.b 2 2 0,.o (.mv 4 (.c (.ls (some true) 3 []))),.o (.mv 5 (.c (.ls (some true) 1 []))),.v 6 (.ci 0)] (.s [.m 18 1,.c 19 f1 [.t 18],.o (.W2 20 3 1 [(0,(.t 19))]),.m 7 20] (.s [.o (.bs 21 1 (.ls (some true) 1 []) 0 []),.m 8 21] (.seq (.s [.v 9 (.ci 0)] (.gX 0 (.loop (.seq (.s [.m 22 9,.m 23 7,.o (.len 24 (.t 23)),.o (.bin 25 .lss (.t 22) (.t 24))] (.cond (.t 25) .skip (.exit 0))) (.seq (.gX 1 (.s [.o (.bs 28 1 (.ls (some true) 1 []) 0 []),.m 10 28] (.seq (.s [.v 11 (.ci 0)] (.gX 2 (.loop (.seq (.s [.m 29 11,.L 30 2 2,.c 31 f2 [.t 30],.o (.bin 32 .lss (.t 29) (.t 31))] (.cond (.t 32) .skip (.exit 2))) (.seq (.gX 3 (.s [.o (.bs 35 1 (.sc (.int .i64 0)) 0 []),.m 12 35] (.seq (.s [.v 13 (.ci 0)] (.gX 4 (.loop (.seq (.s [.m 36 13,.f 37 1 2,.l 38 1 37,.o (.bin 39 .lss (.t 36) (.t 38))] (.cond (.t 39) .skip (.exit 4))) (.seq (.gX 5 (.s [.m 42 7,.m 43 9,.o (.ia 44 3 (.t 42) (.t 43)),.L 45 3 44,.o (.zer 14 3 .ze),.o (.wO 3 (.t 14) (.t 45))] (.s [.m 47 11,.m 48 13,.o (.Ll (some 49) f3 [.t 14,.t 47,.t 48]),.m 46 49,.o (.ext 50 (.t 46) 0),.o (.ext 51 (.t 46) 1),.o (.zer 15 3 .ze),.o (.wO 3 (.t 15) (.t 50)),.m 16 51] (.s [.o (.mv 17 (.c (.sc (.int .i64 (-1)))))] (.seq (.s [.m 52 16,.o (.un 53 .not (.t 52))] (.cond (.t 53) (.s [.o (.W2 54 3 0 []),.o (.bs 55 1 (.ls (some true) 1 []) 0 []),.m 4 54,.m 5 55,.v 6 (.ci 3)] .ret) .skip)) (.seq (.s [.f 56 0 15,.l 57 1 56,.o (.bin 58 .neq (.t 57) (.ci 1))] (.cond (.t 58) (.s [.m 59 7,.c 60 f4 [.t 59,.t 15],.m 17 60] (.s [.m 61 17,.o (.bin 62 .lss (.t 61) (.ci 0))] (.cond (.t 62) (.s [.m 63 7,.o (.len 64 (.t 63)),.m 17 64] (.r [.m 65 7,.L 66 3 15,.o (.W2 67 3 1 [(0,(.t 66))]),.o (.Lk 68 3 40 (.t 65) (.t 67)),.m 7 68])) .skip))) .skip)) (.r [.m 69 12,.m 70 17,.o (.bs 71 1 (.sc (.int .i64 0)) 1 [(0,(.t 70))]),.o (.app 72 1 8 (.t 69) (.t 71)),.m 12 72]))))))) (.r [.m 40 13,.o (.bin 41 .add (.t 40) (.ci 1)),.m 13 41])))))) (.r [.m 73 10,.m 74 12,.o (.bs 75 1 (.ls (some true) 1 []) 1 [(0,(.t 74))]),.o (.app 76 1 24 (.t 73) (.t 75)),.m 10 76])))) (.r [.m 33 11,.o (.bin 34 .add (.t 33) (.ci 1)),.m 11 34])))))) (.s [.m 77 8,.m 78 10,.o (.bs 79 1 (.ls (some true) 1 []) 1 [(0,(.t 78))]),.o (.app 80 1 24 (.t 77) (.t 79)),.m 8 80] (.s [.m 81 7,.o (.len 82 (.t 81)),.o (.bin 83 .gtr (.t 82) (.ci 60))] (.cond (.t 83) (.s [.o (.W2 84 3 0 []),.o (.bs 85 1 (.ls (some true) 1 []) 0 []),.m 4 84,.m 5 85,.v 6 (.ci 3)] .ret) .skip)))))) (.r [.m 26 9,.o (.bin 27 .add (.t 26) (.ci 1)),.m 9 27])))))) (.s [.m 86 7,.m 87 8,.m 4 86,.m 5 87,.v 6 (.ci 0)] .ret)))))
def uP(P:Program)(iV:Nat):Prop:=∀(g0:Int×Int)(_:oC g0=true)(e:Ex),f8 g0 e=true→fZ e≤800→AF P iV [eG g0,.pt (eE e) 0] (.lf [.sh (.ls (some false) 3 ((ru e (iY g0).toNat g0.2.toNat).1.1.map eE)),.own (.ls (some false) 1 ((ru e (iY g0).toNat g0.2.toNat).1.2.map mZ)),.own (eI (ru e (iY g0).toNat g0.2.toNat).2)])
def Jx(hm:Mx P){g:Nat}(hr:mX P .sb g=some (88,uV f1 f2 f3 f4,[.t 4,.t 5,.t 6]))(iS:vS P f1)(jw:qA P f2)(pd:zn P f3)(zd:zj P f4):uP P g:=by
 intro g0 hg e hT jP;obtain⟨g1,g2⟩:=g0;have hgi:=lh hg;simp only at hgi;have BO:=Dm hg;obtain⟨C,rfl⟩:∃C:Nat,g2=C:=⟨g2.toNat,by omega⟩;obtain⟨M,hM⟩:∃M:Nat,iY (g1,(C:Int))=M:=⟨(iY (g1,(C:Int))).toNat,by omega⟩;have Sl:=jw (g1,(C:Int)) hg;rw[hM]at Sl BO⊢;simp only[aS];have hT0:=jO e hT;refine De hr hm rfl fun hb=>?_;simp+contextual-implicitDefEqProofs only[uV,eG,eI,lC,lN,aa,ah,aI,D.size,D.fS,go_sem];refine fL (ds:=[.pt (eE e) 0]) (by rfl) (iS (g1,(C:Int)) hg e hT (by omega)) ?_;simp+contextual-implicitDefEqProofs only[cG,au,lC,lN,gf,bE,go_sem,Nat.reduceMul];refine gL (α:=Nat×List Ex×List (List (List Int))) [4,5,6,7,8,9,10,11,12,13,14,15,16,17,20,21,22,23,24,25,26,27,28,29,30,31,32,33,34,35,36,37,38,39,40,41,42,43,44,45,46,47,48,50,51,52,53,55,56,57,58,59,60,61,62,63,64,65,66,69,70,71,72,73,74,75,76,77,78,79,80,81,82,83,85] (fun p=>[(9,.im none (.sc (.int .i64 p.1))),(7,.sm 20 0 p.2.1.length),(8,.sm 21 0 p.2.2.length)]) (fun p=>[(2,.ar false (some false) 2 [.ag [.sc (.int .i64 g1),.sc (.int .i64 C)]]),(20,.ar false (some false) 3 (p.2.1.map eE)),(21,.ar true (some false) 1 (p.2.2.map mZ))]) (fun p=>p.1≤p.2.1.length∧p.2.2.length=p.1∧oU e M C p.1=some (p.2.1,p.2.2)) (fun p=>61-p.1) (0,[jM e],[]) (gO.to [] (by simp only[go_sem];rfl) rfl (by simp) (by rfl) (by simp only[fR,go_sem,iD,iP]<;>simp)) ⟨aq _,rfl,RH⟩ ?_
 rintro⟨i,L,N⟩ ⟨wd,hN,ju⟩;simp only at wd hN ju⊢;have hk:=vT hT jP ju;have alV:=hk.1.len;simp only at alV
 by_cases hi:i<L.length
 ·have XB:f8 (g1,(C:Int)) (L.getD i zE)=true:=(hk.1.ok _ (by rw[aE,bb hi];exact aF hi)).1;simp+contextual-implicitDefEqProofs only[hi,lN,go_sem,iL];refine gL (α:=Nat×List Ex×List (List Int)) [4,5,6,7,10,11,12,13,14,15,16,17,23,28,29,30,31,32,33,34,35,36,37,38,39,40,41,42,43,44,45,46,47,48,50,51,52,53,55,56,57,58,59,60,61,62,63,64,65,66,69,70,71,72,73,74,75,76] (fun q=>[(11,.im none (.sc (.int .i64 q.1))),(7,.sm 20 0 q.2.1.length),(10,.sm 28 0 q.2.2.length)]) (fun q=>[(2,.ar false (some false) 2 [.ag [.sc (.int .i64 g1),.sc (.int .i64 C)]]),(20,.ar false (some false) 3 (q.2.1.map eE)),(21,.ar true (some false) 1 (N.map mZ)),(28,.ar true (some false) 1 (q.2.2.map np))]) (fun q=>q.1≤M∧q.2.2.length=q.1∧rV (L.getD i zE) L C q.1=some (q.2.1,q.2.2)) (fun q=>M-q.1) (0,L,[]) (gO.to [] (by simp only[go_sem];rfl) rfl (by simp) (by rfl) (by simp only[fR,go_sem,iD,iP]<;>simp)) ⟨aq _,rfl,rfl⟩ ?_;rintro⟨k,L1,R⟩ ⟨hk0,hR,hro⟩;simp only at hk0 hR hro⊢;have o1:=Dv XB hk.1.ok hro;simp only at o1;have hkC:k*C≤32:=cB (Nat.mul_le_mul (show k≤8 by omega) (show C≤4 by omega)) (by decide)
  by_cases hkM:k<M
  ·have alW:(k:Int)<(M:Int):=by omega
   simp+contextual-implicitDefEqProofs only[lC,lN,aa,gY,fV,aJ,aP,aO,go_sem];refine fL (ds:=[eG (g1,(C:Int))]) (by rfl) Sl ?_;simp+contextual-implicitDefEqProofs only[alW,eI,lN,go_sem];refine gL (α:=Nat×List Ex×List Int) [4,5,6,7,12,13,14,15,16,17,35,36,37,38,39,40,41,42,43,44,45,46,47,48,50,51,52,53,55,56,57,58,59,60,61,62,63,64,65,66,69,70,71,72] (fun r=>[(13,.im none (.sc (.int .i64 r.1))),(7,.sm 20 0 r.2.1.length),(12,.sm 35 0 r.2.2.length)]) (fun r=>[(2,.ar false (some false) 2 [.ag [.sc (.int .i64 g1),.sc (.int .i64 C)]]),(20,.ar false (some false) 3 (r.2.1.map eE)),(21,.ar true (some false) 1 (N.map mZ)),(28,.ar true (some false) 1 (R.map np)),(35,.ar true (some false) 1 (r.2.2.map eI))]) (fun r=>r.1≤C∧r.2.2.length=r.1∧uh k (L.getD i zE) L1 r.1=some (r.2.1,r.2.2)) (fun r=>C-r.1) (0,L1,[]) (gO.to [] (by simp only[go_sem];rfl) rfl (by simp) (by rfl) (by simp only[fR,go_sem,iD,iP]<;>simp)) ⟨aq _,rfl,rfl⟩ ?_;rintro⟨j,L2,row⟩ ⟨Sg,vu,hac⟩;simp only at Sg vu hac⊢;have o2:=Df XB o1.1 hac;simp only at o2;have Ek:L.length≤L2.length∧L2.length≤96:=by
    obtain⟨_,⟨t1,e1,l1⟩,_⟩:=o1;obtain⟨_,⟨t2,e2,l2⟩,_⟩:=o2;rw[e2,e1,lP,lP];omega
   have hgx:L2.getD i zE=L.getD i zE:=by
    obtain⟨_,⟨t1,e1,l1⟩,_⟩:=o1;obtain⟨_,⟨t2,e2,l2⟩,_⟩:=o2;rw[e2,e1,bC,aE,bL hi,←aE]
   have AC:i<L2.length:=by omega
   have ai:D.at (L2.map eE) i=eE (L.getD i zE):=by rw[←hgx];exact jJ AC
   have zf:fZ (L.getD i zE)≤800:=(hk.1.ok _ (by rw[aE,bb hi];exact aF hi)).2
   by_cases hjC:j<C
   ·have alX:(j:Int)<(C:Int):=by omega
    simp+contextual-implicitDefEqProofs only[alX,AC,ai,D.put,j6.sub,gf,gA,aS,aa,ah,lK,lZ,bE,D.size,D.fS,gr,fV,aj,ak,fU,fO,go_sem,iL,iN];have hka:=pd (g1,(C:Int)) hg (k:Int) (j:Int) (by omega) (by omega) (L.getD i zE) XB (by omega);have O2:∀v,Tf k (L.getD i zE) j L2 row=v→uh k (L.getD i zE) L1 (j+1)=v:=fun v hv=>by simp only[uh,hac,hv]
    unfold Tf at O2;have NA:=jE (g:=(g1,(C:Int))) (a:=(k:Int)) (c:=(j:Int)) _ XB;generalize hxg:L.getD i zE=x at*;rcases hsx:iI k j x with⟨d,ok⟩;rw[hsx]at hka O2 NA;simp only at hka O2 NA;refine acm _ (gO.XD _ 14 (u:=.ar false (some false) 3 [eE x]) (by rfl) rfl) ?_;simp+contextual-implicitDefEqProofs only[lC,lN,go_sem];refine fL (ds:=[.pt (eE x) 0,.sc (.int .i64 k),.sc (.int .i64 j)]) (by rfl) hka ?_;cases ok with
    |false=>
     simp only[mI,aA]at O2;have h1:=O2 _ rfl;have K2:oU e M C (i+1)=none:=by
      have a1:uh k x L1 C=none:=DL h1 (by omega);have a2:rV x L C (k+1)=none:=by simp only[rV,hro,YG,a1]
      have a3:rV x L C M=none:=Dh a2 (by omega);rw[zR ju];simp only[stF,af hi,hxg,a3]
     have hR:ru e M C=(([],[]),3):=qk (Ag K2 (by omega));rw[hR];simp+contextual-implicitDefEqProofs only[bne,bN,bU,cG,cF,aK,eB,D.put,lC,lN,gf,aa,ah,aI,lK,lZ,bE,D.size,D.fS,fV,aj,ak,fU,fO,go_sem,Nat.reduceMul];refine⟨_,gO.XD _ 54 (u:=.ar false (some false) 3 []) (by rfl) rfl,?_⟩;simp+contextual-implicitDefEqProofs only[bU,aK,lZ,bE,go_sem]
    |true=>
     simp only[ay]at O2;have hso2:=NA.2 rfl;obtain⟨dk,dn,dnn,dks,hd⟩:=Ex.ex d;have hD:eE d=.ag [eI dk,eI dn,.ls dnn 3 (dks.map eE)]:=by rw[hd,gM];rfl
     have hdk:d.k=dk:=by rw[hd];rfl
     rw[hdk]at O2;rw[hD];have Sc:List.take L2.length (List.map eE L2)=List.map eE L2:=b9 (by rw[lM];exact aw _)
     by_cases e1:dk=1
     ·have b1:(dk==1)=true:=by simp[e1]
      rw[af e1]at O2;have h1:=O2 _ rfl;simp+contextual-implicitDefEqProofs only[b1,bne,bT,bN,bI,bU,bJ,cG,au,cd,ce,aK,eI,eB,D.put,lC,lN,aa,ah,aI,lK,lZ,bE,D.size,D.fS,gr,fV,aj,ak,fU,fO,lM,go_sem,Nat.reduceMul];refine⟨⟨by omega,by unfold gz;omega⟩,(j+1,L2,row++[-1]),⟨by omega,by rw[lP,vu];rfl,h1⟩,by omega,?_⟩;rw[fQ (by omega) (by omega)];exact gO.to [15,71] (by simp only[go_sem];rfl) rfl (by simp[eI]) (by rfl) (by simp only[fR,go_sem]<;>simp)
     have b1:(dk==1)=false:=aW e1;rw[ae e1]at O2;simp+contextual-implicitDefEqProofs only[b1,bne,bT,bN,bI,bU,bJ,aK,eI,eB,D.put,lC,lN,aa,ah,aI,lK,lZ,bE,D.size,D.fS,gr,fV,aj,ak,fU,fO,go_sem];refine fL (ds:=[.ls (some false) 3 (L2.map eE),.pt (eE d) 0]) (by rw[hD];simp only[St.unit,kI,AV.arg,go_sem,lM,Sc,eI]) (zd (some false) L2 d (by omega)) ?_
     by_cases hf:wF L2 d<0
     ·rw[af hf]at O2;have h1:=O2 _ rfl;simp+contextual-implicitDefEqProofs only[hf,bne,bT,bN,bI,bU,cG,au,cd,ce,aK,eI,lC,lN,aa,ah,lK,lZ,bE,D.size,D.fS,gY,fV,aJ,aP,aO,fU,fO,lM,go_sem,Nat.reduceMul];have hL:List.map eE (L2++[d])=List.map eE L2++[.ag [eI dk,eI dn,.ls dnn 3 (dks.map eE)]]:=by rw[bQ,lC,lN,hD]
      refine⟨⟨by omega,by unfold gz;omega⟩,⟨by omega,by unfold gz;omega⟩,(j+1,L2++[d],row++[(L2.length:Int)]),⟨by omega,by rw[lP,vu];rfl,h1⟩,by omega,?_⟩;rw[fQ (by omega) (by omega)];exact gO.to [15,67,71] (by simp only[go_sem];rfl) rfl (by simp[eI,hD]) (by rfl) (by simp only[fR,go_sem]<;>simp)
     rw[ae hf]at O2;have h1:=O2 _ rfl;simp+contextual-implicitDefEqProofs only[hf,bne,bT,bN,bU,cG,au,cd,ce,aK,eI,lC,lN,aa,lK,lZ,bE,D.size,fU,fO,lM,go_sem,Nat.reduceMul];refine⟨⟨by omega,by unfold gz;omega⟩,(j+1,L2,row++[wF L2 d]),⟨by omega,by rw[lP,vu];rfl,h1⟩,by omega,?_⟩;rw[fQ (by omega) (by omega)];exact gO.to [15,71] (by simp only[go_sem];rfl) rfl (by simp[eI]) (by rfl) (by simp only[fR,go_sem]<;>simp)
   obtain rfl:j=C:=by omega
   have h1:rV (L.getD i zE) L j (k+1)=some (L2,R++[row]):=by simp only[rV,hro,YG,hac]
   simp+contextual-implicitDefEqProofs only[vu,bR,cG,au,cd,ce,aL,aK,lC,lN,aa,lK,lZ,bE,D.size,gr,fV,aj,ak,fU,fO,lM,go_sem,Nat.reduceMul];refine⟨⟨by omega,by unfold gz;omega⟩,(k+1,L2,R++[row]),⟨by omega,by rw[lP,hR];rfl,h1⟩,by omega,?_⟩;rw[fQ (by omega) (by omega)];exact gO.to [75] (by simp only[go_sem];rfl) rfl (by simp[np]) (by rfl) (by simp only[fR,go_sem]<;>simp)
  obtain rfl:k=M:=by omega
  simp+contextual-implicitDefEqProofs only[lC,lN,aa,gY,fV,aJ,aP,aO,go_sem];refine fL (ds:=[eG (g1,(C:Int))]) (by rfl) Sl ?_;simp+contextual-implicitDefEqProofs only[bR,cG,cF,au,cd,ce,aL,aK,eI,lC,lN,aa,lK,lZ,bE,D.size,fU,fO,lM,go_sem,Nat.reduceMul];have OT:L.length≤L1.length:=by
   obtain⟨_,⟨t1,e1,l1⟩,_⟩:=o1;rw[e1,lP];omega
  refine⟨⟨by omega,by unfold gz;omega⟩,fun Io=>?_,fun hle=>?_⟩
  ·have K2:oU e k C (i+1)=none:=by
    rw[zR ju];simp only[stF,af hi,hro];rw[ae (by omega)]
   have hRR:ru e k C=(([],[]),3):=qk (Ag K2 (by omega));rw[hRR];refine⟨_,gO.XD _ 84 (u:=.ar false (some false) 3 []) (by rfl) rfl,?_⟩;simp+contextual-implicitDefEqProofs only[lN,lZ,bE,go_sem]
  have h1:oU e k C (i+1)=some (L1,N++[R]):=by
   rw[zR ju];simp only[stF,af hi,hro];rw[af (by omega)]
  refine⟨(i+1,L1,N++[R]),⟨by simp only;omega,by rw[lP,hN];rfl,h1⟩,by simp only;omega,?_⟩;rw[fQ (by omega) (by omega)];exact gO.to [79] (by simp only[go_sem];rfl) rfl (by simp[mZ]) (by rfl) (by simp only[fR,go_sem]<;>simp)
 obtain rfl:i=L.length:=by omega
 have hR:ru e M C=((L,N),0):=rS (FR ju (aw _) (by omega));rw[hR];simp+contextual-implicitDefEqProofs only[bR,go_sem];refine⟨_,gO.XD _ 20 (u:=.ar false (some false) 3 (L.map eE)) (by rfl) rfl,?_⟩;have ll:(List.map eE L).length=L.length:=cH _;have ln:(List.map mZ N).length=N.length:=cH _;simp+contextual-implicitDefEqProofs only[ll,ln,bE,go_sem]
end Go.Ax
