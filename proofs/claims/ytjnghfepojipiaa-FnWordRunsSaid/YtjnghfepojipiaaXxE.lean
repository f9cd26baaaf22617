/- Contracts of functions of the seat, proved over the engine. No condition. -/
import Derived.Test.YtjnghfepojipiaaXxD
set_option linter.unusedSimpArgs false
set_option linter.unusedVariables false
set_option linter.unnecessarySimpa false
set_option linter.unusedSectionVars false
namespace Go.Ax
set_option maxRecDepth 20000
set_option maxHeartbeats 4000000
mutual

def s0:Ex→Ex→Ex
 |.mk k n nn ks,b=>if k=1∨b.k=1 then .mk 1 0 (some true) []else if k=2 then jw b else if b.k=2 then jw (.mk k n nn ks)else if k=7 then ka ks b else .mk 7 0 (some false) [jw (.mk k n nn ks),jw b]
def ka:List Ex→Ex→Ex
 | [],b=>b
 |x::xs,b=>s0 x (ka xs b)
end
def rf(a:Ex):Ex:=if cG a=true then .mk 2 0 (some true) []else if a.k=8 then jw a else .mk 8 0 (some false) [jw a]
mutual
def df:Ex→Ex
 |.mk k n nn ks=>if k=6 then zo ((dO ks).getD 0 default) ((dO ks).getD 1 default)else if k=7 then s0 ((dO ks).getD 0 default) ((dO ks).getD 1 default)else if k=8 then rf ((dO ks).getD 0 default)else jw (.mk k n nn ks)
def dO:List Ex→List Ex
 | []=>[]
 |e::es=>df e::dO es
end
theorem wd{α:Type}{f g:α→Bool}:∀{l:List α},(∀x∈l,f x=g x)→l.all f=l.all g
 | [],_=>rfl
 |x::l,h=>by rw[List.all_cons,List.all_cons,h x (by simp),wd fun y hy=>h y (by simp[hy])]
theorem gv(e:Ex):au (jw e)=au e:=by
 refine Ex.ind (p:=fun e=>au (jw e)=au e) (fun k n nn ks ih=>?_) e;rw[tv,aM,aM];have:∀l:List Ex,(∀x∈l,au (jw x)=au x)→aJ (l.map jw)=aJ l:=by
  intro l
  induction l with
  |nil=>intro _;rfl
  |cons x l ih=>intro h;simp only[lC,aJ,h x (by simp),ih fun y hy=>h y (by simp[hy])]
 rw[this ks ih]
theorem Db(e:Ex):cG (jw e)=cG e:=by
 refine Ex.ind (p:=fun e=>cG (jw e)=cG e) (fun k n nn ks ih=>?_) e;rw[tv,dN,dN];congr 1;rw[List.all_map];exact wd fun x hx=>ih x hx
theorem fN{g:Int×Int}(e:Ex):aD g (jw e)=aD g e:=by
 refine Ex.ind (p:=fun e=>aD g (jw e)=aD g e) (fun k n nn ks ih=>?_) e;rw[tv,cx,cx];have h1:aR g k n (ks.map jw)=aR g k n ks:=by
  unfold aR;rw[lM];cases ks with
  |nil=>rfl
  |cons x xs=>simp only[lC,uN,Db]
 rw[h1];congr 1;rw[List.all_map];exact wd fun x hx=>ih x hx
theorem jg{g:Int×Int}{k:Int}{a b:Ex}(hk:k=6∨k=7){nn:Option Bool}:aD g (.mk k 0 nn [a,b])=(aD g a&&aD g b):=by
 rw[cx];rcases hk with rfl|rfl<;>simp[aR,cN]
theorem Ep{g:Int×Int}{a:Ex}{nn:Option Bool}:aD g (.mk 8 0 nn [a])=aD g a:=by
 rw[cx];simp[aR,cN]
theorem g7{g:Int×Int}{k:Int}(hk:k=1∨k=2){nn:Option Bool}:aD g (.mk k 0 nn [])=true:=by
 rw[cx];rcases hk with rfl|rfl<;>simp[aR,cN]
mutual
theorem v7{g:Int×Int}:∀(a b:Ex),aD g a=true→aD g b=true→aD g (s0 a b)=true∧au (s0 a b)≤au a+au b+1
 |.mk k n nn ks,b,ha,hb=>by
  have hp:=bw b;rw[s0]
  split
  ·refine⟨g7 (.inl rfl),by rw[aM];simp only[aJ];omega⟩
  ·split
   ·rw[fN,gv];exact⟨hb,by omega⟩
   ·split
    ·rw[fN,gv];exact⟨ha,by omega⟩
    ·split
     ·have h1:=xM ks b (cA ha) hb;have h2:aJ ks+au b+ks.length≤au (.mk k n nn ks)+au b+1:=by
       rename_i h7
       obtain⟨x,y,rfl,_,_⟩:=bQ (.inr h7) ha;rw[aM];simp only[aJ,lK,lZ];omega
      exact⟨h1.1,by omega⟩
     ·refine⟨by rw[jg (.inr rfl),fN,fN,ha,hb];rfl,?_⟩;rw[aM (k:=7)];simp only[aJ,gv];omega
theorem xM{g:Int×Int}:∀(xs:List Ex)(b:Ex),(∀x∈xs,aD g x=true)→aD g b=true→aD g (ka xs b)=true∧au (ka xs b)≤aJ xs+au b+xs.length
 | [],b,_,hb=>by simp only[ka,aJ,lZ];exact⟨hb,by omega⟩
 |x::xs,b,hx,hb=>by
  have h1:=xM xs b (fun y hy=>hx y (by simp[hy])) hb;have h2:=v7 x (ka xs b) (hx x (by simp)) h1.1;simp only[ka,aJ,lK];exact⟨h2.1,by omega⟩
end
theorem DQ{g:Int×Int}{a:Ex}(ha:aD g a=true):aD g (rf a)=true∧au (rf a)≤au a+1:=by
 unfold rf
 split
 ·exact⟨g7 (.inr rfl),by rw[aM];simp only[aJ];omega⟩
 ·split
  ·rw[fN,gv];exact⟨ha,by omega⟩
  ·rw[Ep,fN];refine⟨ha,?_⟩;rw[aM];simp only[aJ,gv];omega

def wL:List Ex→Nat
 | []=>0
 |x::xs=>au x+1+wL xs
theorem Eq:∀{a b:List Ex},wL (a++b)=wL a+wL b
 | [],b=>by simp[wL]
 |x::a,b=>by simp only[List.cons_append,wL,Eq (a:=a)];omega
theorem Eu{x:Ex}:∀{l:List Ex},wL (ko x l)=wL l+au x+1
 | []=>by simp[ko,wL]
 |y::ys=>by
  rw[ko]
  split
  ·simp only[wL,Eu (l:=ys)];omega
  ·simp only[wL];omega
theorem F6{l:List Ex}:wL (d9 l)=wL l:=by
 have:∀(l acc:List Ex),wL (l.foldl (fun acc x=>ko x acc) acc)=wL acc+wL l:=by
  intro l
  induction l with
  |nil=>intro acc;simp[wL]
  |cons x l ih=>intro acc;rw[List.foldl_cons,ih,Eu];simp only[wL];omega
 rw[d9,this];simp[wL]
mutual
theorem wo{g:Int×Int}:∀(e:Ex)(acc:List Ex),aD g e=true→wL (bO e acc)≤wL acc+au e+1
 |.mk k n nn ks,acc,h=>by
  rw[bO]
  split
  ·omega
  ·split
   ·rename_i h6
    have h1:=yl ks acc (cA h);obtain⟨x,y,rfl,_,_⟩:=bQ (.inl h6) h;rw[aM];simp only[lK,lZ]at h1;omega
   ·split
    ·omega
    ·rw[Eq];simp only[wL];omega
theorem yl{g:Int×Int}:∀(es:List Ex)(acc:List Ex),(∀e∈es,aD g e=true)→wL (fj es acc)≤wL acc+aJ es+es.length
 | [],acc,_=>by simp[fj]
 |e::es,acc,h=>by
  have h1:=wo e acc (h e (by simp));have h2:=yl es (bO e acc) (fun y hy=>h y (by simp[hy]));simp only[fj,aJ,lK];omega
end
theorem Dr{g:Int×Int}{l:List Ex}(h:∀x∈l,aD g x=true):aD g (fY l)=true∧au (fY l)≤wL l+1∧(l≠[]→au (fY l)+1≤wL l):=by
 cases l with
 |nil=>exact⟨g7 (.inl rfl),by simp[fY,aM,aJ],by simp⟩
 |cons x xs=>
  have:∀(xs:List Ex)(acc:Ex),(∀y∈xs,aD g y=true)→aD g acc=true→aD g (xs.foldl (fun acc y=>.mk 6 0 (some false) [acc,jw y]) acc)=true∧au (xs.foldl (fun acc y=>.mk 6 0 (some false) [acc,jw y]) acc)≤au acc+wL xs:=by
   intro xs
   induction xs with
   |nil=>intro acc _ ha;exact⟨ha,by simp[wL]⟩
   |cons y ys ih=>
    intro acc hy ha;have:=ih (.mk 6 0 (some false) [acc,jw y]) (fun z hz=>hy z (by simp[hz])) (by rw[jg (.inl rfl),fN,ha,hy y (by simp)];rfl);rw[List.foldl_cons];refine⟨this.1,?_⟩;have h2:=this.2;rw[aM (k:=6)]at h2;simp only[aJ,gv,wL]at h2⊢;omega
  have h1:=this xs (jw x) (fun y hy=>h y (by simp[hy])) (by rw[fN];exact h x (by simp));rw[gv]at h1;simp only[fY,wL];exact⟨h1.1,by omega,fun _=>by omega⟩
theorem Gx{g:Int×Int}{a b:Ex}(ha:aD g a=true)(hb:aD g b=true):aD g (zo a b)=true∧au (zo a b)≤au a+au b+1:=by
 have hm:∀x∈d9 (bO b (bO a [])),aD g x=true:=by
  intro x hx;rcases iV b _ hb x (qh.1 hx)with h|h
  ·rcases iV a _ ha x h with h|h
   ·cases h
   ·exact h.1
  ·exact h.1
 have h1:=wo a [] ha;have h2:=wo b (bO a []) hb;have h3:=Dr hm;have hp:=bw a;rw[F6]at h3;simp only[wL]at h1;unfold zo;refine⟨h3.1,?_⟩
 by_cases he:d9 (bO b (bO a []))=[]
 ·rw[he];simp[fY,aM,aJ]
 ·have:=h3.2.2 he;omega
mutual
theorem dT{g:Int×Int}:∀e:Ex,aD g e=true→aD g (df e)=true∧au (df e)≤au e
 |.mk k n nn ks,h=>by
  have hk:=uu ks (cA h);rw[df]
  split
  ·rename_i h6
   obtain⟨x,y,rfl,hx,hy⟩:=bQ (.inl h6) h;simp only[dO,List.mem_cons,List.not_mem_nil,or_false]at hk⊢;have h1:=hk.1 (df x) (.inl rfl);have h2:=hk.1 (df y) (.inr rfl);have h3:=Gx h1 h2;have h4:=hk.2;simp only[aJ]at h4;rw[aM];simp only[aJ,List.getD_cons_zero,List.getD_cons_succ];exact⟨h3.1,by omega⟩
  ·split
   ·rename_i h7
    obtain⟨x,y,rfl,hx,hy⟩:=bQ (.inr h7) h;simp only[dO,List.mem_cons,List.not_mem_nil,or_false]at hk⊢;have h1:=hk.1 (df x) (.inl rfl);have h2:=hk.1 (df y) (.inr rfl);have h3:=v7 _ _ h1 h2;have h4:=hk.2;simp only[aJ]at h4;rw[aM];simp only[aJ,List.getD_cons_zero,List.getD_cons_succ];exact⟨h3.1,by omega⟩
   ·split
    ·rename_i h8
     have hf:=dt h;subst h8
     match ks,hf with
     | [x],_=>
      simp only[dO,List.mem_cons,List.not_mem_nil,or_false]at hk⊢;have h1:=hk.1 (df x) rfl;have h3:=DQ h1;have h4:=hk.2;simp only[aJ]at h4;rw[aM];simp only[aJ,List.getD_cons_zero];exact⟨h3.1,by omega⟩
     | [],hf=>simp[aR,cN]at hf
     |_::_::_,hf=>simp[aR,cN]at hf;omega
    ·rw[fN,gv];exact⟨h,Nat.le_refl _⟩
theorem uu{g:Int×Int}:∀es:List Ex,(∀e∈es,aD g e=true)→(∀x∈dO es,aD g x=true)∧aJ (dO es)≤aJ es
 | [],_=>by simp[dO,aJ]
 |e::es,h=>by
  have h1:=dT e (h e (by simp));have h2:=uu es (fun y hy=>h y (by simp[hy]));simp only[dO,aJ];refine⟨fun x hx=>?_,by omega⟩;rcases List.mem_cons.1 hx with rfl|hx
  ·exact h1.1
  ·exact h2.1 x hx
end

def gB(g f1 f2 f3:Nat):RC:=(.seq (.r [.o (.zer 4 3 .ze)]) (.seq (.blk 0 (.seq (.r [.m 7 0,.n 8 7,.f 9 0 8,.l 10 1 9,.q 11 10 1,.m 12 11,.u 12 (.mv 13 (.t 1)),.u 12 (.nck 14 (.t 13)),.u 12 (.fa 15 0 (.t 14)),.u 12 (.ld 16 false 1 (.t 15)),.u 12 (.bin 17 .eql (.t 16) (.ci 1)),.o (.pick 18 (.t 12) .ct (.t 17)),.m 6 18]) (.cond (.t 6) (.seq (.r [.c 19 f1 [],.s 3 4 19]) .ret) (.seq (.r [.m 21 0,.n 22 21,.f 23 0 22,.l 24 1 23,.q 25 24 2,.m 20 25]) (.cond (.t 20) (.seq (.r [.m 26 1,.c 27 f2 [.t 26],.s 3 4 27]) .ret) (.seq (.r [.m 29 1,.n 30 29,.f 31 0 30,.l 32 1 31,.q 33 32 2,.m 28 33]) (.cond (.t 28) (.seq (.r [.m 34 0,.c 35 f2 [.t 34],.s 3 4 35]) .ret) (.seq (.r [.m 37 0,.n 38 37,.f 39 0 38,.l 40 1 39,.q 41 40 7,.m 36 41]) (.cond (.t 36) (.seq (.r [.m 42 0,.n 43 42,.f 44 2 43,.l 45 1 44,.i 46 3 45 1,.m 47 1,.c 48 g [.t 46,.t 47],.o (.zer 5 3 .ze),.s 3 5 48]) (.seq (.r [.m 49 0,.n 50 49,.f 51 2 50,.l 52 1 51,.i 53 3 52 0,.c 54 g [.t 53,.t 5],.s 3 4 54]) .ret)) .skip))))))))) (.seq (.r [.m 55 0,.c 56 f2 [.t 55],.m 57 1,.c 58 f2 [.t 57],.c 59 f3 [.ci 7,.t 56,.t 58],.s 3 4 59]) .ret)))
def tI(P:Program)(fno:Nat):Prop:=∀(g0:Int×Int)(_:fH g0=true)(a:Ex),aD g0 a=true→∀b:Ex,aD g0 b=true→AF P fno [.pt (eE a) 0,.pt (eE b) 0] (.own (eE (s0 a b)))
theorem DZ{P:Program}(hm:P.follows .mixedOrders=true){g f1 f2 f3:Nat}(hr:aP P g=some (60,gB g f1 f2 f3,[.c 4 3 true]))(hc1:iW P f1)(hc2:iX P f2)(hc3:ft P f3):tI P g:=by
 intro g0 hg a;have key:∀N:Nat,∀a:Ex,au a≤N→aD g0 a=true→∀b:Ex,aD g0 b=true→AF P g [.pt (eE a) 0,.pt (eE b) 0] (.own (eE (s0 a b))):=by
  intro N
  induction N with
  |zero=>intro e hz;have:=bw e;omega
  |succ N ih=>
   intro a hz hTa b hTb;have hfa:=lq hg a hTa;have hfb:=lq hg b hTb;obtain⟨k,n,nn,ks,rfl⟩:=Ex.ex a;obtain⟨k',n',nn',ks',rfl⟩:=Ex.ex b;rw[s0];generalize ha:Ex.mk k n nn ks=a at*;generalize hb':Ex.mk k' n' nn' ks'=b at*;have hA:eE a=.ag [eI k,eI n,.ls nn 3 (ks.map eE)]:=by rw[←ha,bc];rfl
   have hB:eE b=.ag [eI k',eI n',.ls nn' 3 (ks'.map eE)]:=by rw[←hb',bc];rfl
   have hbk:b.k=k':=by rw[←hb'];rfl
   rw[hbk];refine aw hr hm rfl fun _=>?_;simp only[qy,fG,f8,hA,hB]
   by_cases c1:k=1
   ·have d1:(k==1)=true:=by simp[c1]
    rw[if_pos (.inl c1)];simp+contextual-implicitDefEqProofs only[gB,d1,eI,lN,Nat.zero_add,Nat.add_zero,List.append_nil,bE,D.size,D.sizeL,aI,ak,List.getD_cons_zero,go_sem];refine aa (ds:=[]) (by rfl) (hc1 ()) ?_;simp+contextual-implicitDefEqProofs only[D.put,cU.sub,aC,aO,Nat.zero_add,lK,lZ,bE,ak,aq,af,go_sem]
    try exact D.Le.refl _
   have d1:(k==1)=false:=beq_false_of_ne c1
   by_cases c2:k'=1
   ·have d2:(k'==1)=true:=by simp[c2]
    rw[if_pos (.inr c2)];simp+contextual-implicitDefEqProofs only[gB,d1,d2,eI,lN,Nat.zero_add,Nat.add_zero,List.append_nil,bE,D.size,D.sizeL,aI,ak,List.getD_cons_zero,go_sem];refine aa (ds:=[]) (by rfl) (hc1 ()) ?_;simp+contextual-implicitDefEqProofs only[D.put,cU.sub,aC,aO,Nat.zero_add,lK,lZ,bE,ak,aq,af,go_sem]
    try exact D.Le.refl _
   have d2:(k'==1)=false:=beq_false_of_ne c2;rw[if_neg (fun h=>h.elim c1 c2)]
   by_cases c3:k=2
   ·have d3:(k==2)=true:=by simp[c3]
    rw[if_pos c3];simp+contextual-implicitDefEqProofs only[gB,d1,d2,d3,eI,lC,lN,Nat.zero_add,Nat.add_zero,List.append_nil,bE,D.size,D.sizeL,aI,ak,List.getD_cons_zero,go_sem];refine aa (ds:=[.pt (eE b) 0]) (by rw[hB];rfl) (hc2 b hfb) ?_;simp+contextual-implicitDefEqProofs only[D.put,cU.sub,aC,aO,Nat.zero_add,lK,lZ,bE,ak,aq,af,go_sem]
    try exact D.Le.refl _
   have d3:(k==2)=false:=beq_false_of_ne c3;rw[if_neg c3]
   by_cases c4:k'=2
   ·have d4:(k'==2)=true:=by simp[c4]
    rw[if_pos c4];simp+contextual-implicitDefEqProofs only[gB,d1,d2,d3,d4,eI,lC,lN,Nat.zero_add,Nat.add_zero,List.append_nil,bE,D.size,D.sizeL,aI,ak,List.getD_cons_zero,go_sem];refine aa (ds:=[.pt (eE a) 0]) (by rw[hA];rfl) (hc2 a hfa) ?_;simp+contextual-implicitDefEqProofs only[D.put,cU.sub,aC,aO,Nat.zero_add,lK,lZ,bE,ak,aq,af,go_sem]
    try exact D.Le.refl _
   have d4:(k'==2)=false:=beq_false_of_ne c4;rw[if_neg c4]
   by_cases c5:k=7
   ·have d5:(k==7)=true:=by simp[c5]
    rw[if_pos c5];have hTa':=hTa;rw[←ha]at hTa';obtain⟨x,y,rfl,hx,hy⟩:=bQ (.inr c5) hTa';simp only[ka];have hs:au x+au y+1≤N+1:=by rw[←ha,aM]at hz;simp only[aJ]at hz;omega
    have hxp:=bw x;have hyp:=bw y;have hr1:=(v7 y b hy hTb).1;simp+contextual-implicitDefEqProofs only[gB,d1,d2,d3,d4,d5,eI,lC,lN,Nat.zero_add,Nat.add_zero,List.append_nil,lK,lZ,Int.cast_ofNat_Int,Int.reduceLT,Int.reduceLE,bE,Int.reduceToNat,D.size,D.sizeL,aI,ak,List.getD_cons_zero,List.getD_cons_succ,go_sem];refine aa (ds:=[.pt (eE y) 0,.pt (eE b) 0]) (by rw[hB];rfl) (ih y (by omega) hy b hTb) ?_;generalize s0 y b=r at hr1⊢;obtain⟨rk,rn,rnn,rks,hre⟩:=Ex.ex r;have hR:eE r=.ag [eI rk,eI rn,.ls rnn 3 (rks.map eE)]:=by rw[hre,bc];rfl
    rw[hR];simp+contextual-implicitDefEqProofs only[eI,D.put,lC,lN,Nat.zero_add,Nat.add_zero,lK,lZ,Int.cast_ofNat_Int,Int.reduceLT,Int.le_refl,bE,D.size,D.sizeL,aI,ak,List.getD_cons_zero,List.getD_cons_succ,aq,af,go_sem];refine aa (ds:=[.pt (eE x) 0,.pt (eE r) 0]) (by rw[hR];rfl) (ih x (by omega) hx r hr1) ?_;simp+contextual-implicitDefEqProofs only[D.put,cU.sub,aC,aO,Nat.zero_add,lK,lZ,bE,ak,aq,af,go_sem]
    try exact D.Le.refl _
   have d5:(k==7)=false:=beq_false_of_ne c5;rw[if_neg c5];simp+contextual-implicitDefEqProofs only[gB,d1,d2,d3,d4,d5,eI,lC,lN,Nat.zero_add,Nat.add_zero,List.append_nil,bE,D.size,D.sizeL,aI,ak,List.getD_cons_zero,go_sem];refine aa (ds:=[.pt (eE a) 0]) (by rw[hA];rfl) (hc2 a hfa) ?_;simp+contextual-implicitDefEqProofs only[lC,lN,go_sem];refine aa (ds:=[.pt (eE b) 0]) (by rw[hB];rfl) (hc2 b hfb) ?_;simp+contextual-implicitDefEqProofs only[lC,lN,go_sem];refine dC rfl hc3 (by simp only[AV.aggV,bi,aO,aC,go_sem,bE,Bool.and_self]<;>rfl) (by simp only[AV.aggV,bi,aO,aC,go_sem,bE,Bool.and_self]<;>rfl) ?_;rw[qR];simp+contextual-implicitDefEqProofs only[Bool.or_false,Bool.or_self,D.put,D.cells,lC,lN,Nat.zero_add,Nat.add_zero,List.append_nil,lK,lZ,bE,D.size,D.sizeL,bg,ak,List.drop_zero,List.take_succ_cons,List.take_zero,aq,af,go_sem];simp[aC]
 exact fun hTa b hTb=>key _ a (Nat.le_refl _) hTa b hTb

def qC(f1 f2 f3:Nat):RC:=(.seq (.r [.o (.zer 2 3 .ze)]) (.seq (.seq (.r [.m 3 0,.c 4 f1 [.t 3]]) (.cond (.t 4) (.seq (.r [.c 5 f2 [],.s 3 2 5]) .ret) .skip)) (.seq (.seq (.r [.m 6 0,.n 7 6,.f 8 0 7,.l 9 1 8,.q 10 9 8]) (.cond (.t 10) (.seq (.r [.m 11 0,.c 12 f3 [.t 11],.s 3 2 12]) .ret) .skip)) (.seq (.r [.m 13 0,.c 14 f3 [.t 13],.o (.bs 15 3 .ze 1 [(0,(.t 14))]),.o (.bld 16 .ze [(0,1,(.ci 8)),(2,1,(.t 15))]),.s 3 2 16]) .ret))))
def pI(P:Program)(fno:Nat):Prop:=∀(g0:Int×Int)(_:fH g0=true)(a:Ex),aD g0 a=true→AF P fno [.pt (eE a) 0] (.own (eE (rf a)))
theorem BR{P:Program}(hm:P.follows .mixedOrders=true){g f1 f2 f3:Nat}(hr:aP P g=some (17,qC f1 f2 f3,[.c 2 3 true]))(hc1:fS P f1)(hc2:kI P f2)(hc3:iX P f3):pI P g:=by
 intro g0 hg a hTa;have hfa:=lq hg a hTa;unfold rf;refine aw hr hm rfl fun _=>?_;simp+contextual-implicitDefEqProofs only[qC,lC,lN,Nat.zero_add,Nat.add_zero,List.append_nil,bE,D.size,D.sizeL,go_sem];refine aa (ds:=[.pt (eE a) 0]) (by rfl) (hc1 a) ?_;cases hc:cG a with
 |true=>
  simp+contextual-implicitDefEqProofs only[eB,lN,go_sem];refine aa (ds:=[]) (by rfl) (hc2 ()) ?_;simp+contextual-implicitDefEqProofs only[D.put,cU.sub,aC,aO,Nat.zero_add,lK,lZ,bE,ak,aq,af,go_sem]
  try exact D.Le.refl _
 |false=>
  obtain⟨k,n,nn,ks,ha⟩:=Ex.ex a;have hA:eE a=.ag [eI k,eI n,.ls nn 3 (ks.map eE)]:=by rw[ha,bc];rfl
  have hak:a.k=k:=by rw[ha];rfl
  rw[hak];simp only[hA]
  by_cases c1:k=8
  ·have d1:(k==8)=true:=by simp[c1]
   rw[if_pos c1];simp+contextual-implicitDefEqProofs only[d1,eI,eB,lC,lN,Nat.zero_add,Nat.add_zero,D.size,D.sizeL,aI,ak,List.getD_cons_zero,go_sem];refine aa (ds:=[.pt (eE a) 0]) (by rw[hA];rfl) (hc3 a hfa) ?_;simp+contextual-implicitDefEqProofs only[D.put,cU.sub,aC,aO,Nat.zero_add,lK,lZ,bE,ak,aq,af,go_sem]
   try exact D.Le.refl _
  have d1:(k==8)=false:=beq_false_of_ne c1;rw[if_neg c1];simp+contextual-implicitDefEqProofs only[d1,eI,eB,lC,lN,Nat.zero_add,Nat.add_zero,D.size,D.sizeL,aI,ak,List.getD_cons_zero,go_sem];refine aa (ds:=[.pt (eE a) 0]) (by rw[hA];rfl) (hc3 a hfa) ?_;rw[show eE (.mk 8 0 (some false) [jw a])=.ag [.sc (.int .i64 8),.sc (.int .i64 0),.ls (some false) 3 [eE (jw a)]]by rw[bc];rfl];simp+contextual-implicitDefEqProofs only[List.any_cons,List.any_nil,Bool.or_false,Bool.or_self,D.put,D.cells,lC,lN,aC,Nat.zero_add,Nat.add_zero,List.append_nil,lK,lZ,bE,D.size,D.sizeL,bg,ak,List.drop_zero,List.take_succ_cons,List.take_zero,List.drop_succ_cons,aq,af,go_sem,Nat.reduceMul,Nat.reduceSub];exact⟨rfl,by simp[aC]⟩

def gW(g f1 f2 f3 f4:Nat):RC:=(.seq (.r [.o (.zer 2 3 .ze)]) (.seq (.seq (.r [.m 6 0,.n 7 6,.f 8 0 7,.l 9 1 8]) (.blk 0 (.seq (.seq (.r [.q 11 9 6,.m 10 11]) (.cond (.t 10) .skip (.r [.q 12 9 7,.m 10 12]))) (.cond (.t 10) (.seq (.r [.m 13 0,.n 14 13,.f 15 2 14,.l 16 1 15,.i 17 3 16 0,.c 18 g [.t 17],.o (.zer 3 3 .ze),.s 3 3 18]) (.seq (.r [.m 19 0,.n 20 19,.f 21 2 20,.l 22 1 21,.i 23 3 22 1,.c 24 g [.t 23],.o (.zer 4 3 .ze),.s 3 4 24]) (.seq (.seq (.r [.m 25 0,.n 26 25,.f 27 0 26,.l 28 1 27,.q 29 28 6]) (.cond (.t 29) (.seq (.r [.c 30 f1 [.t 3,.t 4],.s 3 2 30]) .ret) .skip)) (.seq (.r [.c 31 f2 [.t 3,.t 4],.s 3 2 31]) .ret)))) (.seq (.r [.q 33 9 8,.m 32 33]) (.cond (.t 32) (.seq (.r [.m 34 0,.n 35 34,.f 36 2 35,.l 37 1 36,.i 38 3 37 0,.c 39 g [.t 38],.o (.zer 5 3 .ze),.s 3 5 39]) (.seq (.r [.c 40 f3 [.t 5],.s 3 2 40]) .ret)) .skip)))))) (.seq (.r [.m 41 0,.c 42 f4 [.t 41],.s 3 2 42]) .ret)))
def mg(P:Program)(fno:Nat):Prop:=∀(g0:Int×Int)(_:fH g0=true)(e:Ex),aD g0 e=true→au e≤50000→AF P fno [.pt (eE e) 0] (.own (eE (df e)))
theorem Ch{P:Program}(hm:P.follows .mixedOrders=true){g f1 f2 f3 f4:Nat}(hr:aP P g=some (43,gW g f1 f2 f3 f4,[.c 2 3 true]))(hc1:tQ P f1)(hc2:tI P f2)(hc3:pI P f3)(hc4:iX P f4):mg P g:=by
 intro g0 hg;have key:∀N:Nat,∀e:Ex,au e≤N→aD g0 e=true→au e≤50000→AF P g [.pt (eE e) 0] (.own (eE (df e))):=by
  intro N
  induction N with
  |zero=>intro e hz;have:=bw e;omega
  |succ N ih=>
   intro e hz hTe hle;have hfe:=lq hg e hTe;obtain⟨k,n,nn,ks,rfl⟩:=Ex.ex e;rw[df];generalize he:Ex.mk k n nn ks=e at*;have hE:eE e=.ag [eI k,eI n,.ls nn 3 (ks.map eE)]:=by rw[←he,bc];rfl
   refine aw hr hm rfl fun _=>?_;simp only[qy,fG,f8,hE]
   by_cases c6:k=6
   ·have d6:(k==6)=true:=by simp[c6]
    rw[if_pos c6];have hT':=hTe;rw[←he]at hT';obtain⟨x,y,rfl,hx,hy⟩:=bQ (.inl c6) hT';have hs:1+(au x+au y)=au e:=by rw[←he,aM];simp[aJ]
    obtain⟨hx1,hx2⟩:=dT x hx;obtain⟨hy1,hy2⟩:=dT y hy;have hxp:=bw x;have hyp:=bw y;simp only[dO,List.getD_cons_zero,List.getD_cons_succ];simp+contextual-implicitDefEqProofs only[gW,d6,eI,lC,lN,Nat.zero_add,Nat.add_zero,List.append_nil,lK,lZ,Int.cast_ofNat_Int,Int.reduceLT,Int.le_refl,bE,D.size,D.sizeL,aI,ak,List.getD_cons_zero,List.getD_cons_succ,go_sem];refine aa (ds:=[.pt (eE x) 0]) (by rfl) (ih x (by omega) hx (by omega)) ?_;simp+contextual-implicitDefEqProofs only[D.put,lC,lN,aC,Nat.zero_add,Nat.add_zero,lK,lZ,Int.cast_ofNat_Int,Int.reduceLT,Int.reduceLE,bE,Int.reduceToNat,D.size,D.sizeL,aI,ak,List.getD_cons_zero,List.getD_cons_succ,aq,af,go_sem];refine aa (ds:=[.pt (eE y) 0]) (by rfl) (ih y (by omega) hy (by omega)) ?_;simp+contextual-implicitDefEqProofs only[d6,D.put,lC,lN,aC,Nat.zero_add,Nat.add_zero,lK,lZ,bE,D.size,D.sizeL,aI,ak,List.getD_cons_zero,aq,af,go_sem];refine aa (ds:=[.pt (eE (df x)) 0,.pt (eE (df y)) 0]) (by rfl) (hc1 g0 hg (df x) (df y) hx1 hy1 (by omega)) ?_;simp+contextual-implicitDefEqProofs only[D.put,cU.sub,aC,aO,Nat.zero_add,lK,lZ,bE,ak,aq,af,go_sem]
    try exact D.Le.refl _
   have d6:(k==6)=false:=beq_false_of_ne c6;rw[if_neg c6]
   by_cases c7:k=7
   ·have d7:(k==7)=true:=by simp[c7]
    rw[if_pos c7];have hT':=hTe;rw[←he]at hT';obtain⟨x,y,rfl,hx,hy⟩:=bQ (.inr c7) hT';have hs:1+(au x+au y)=au e:=by rw[←he,aM];simp[aJ]
    obtain⟨hx1,hx2⟩:=dT x hx;obtain⟨hy1,hy2⟩:=dT y hy;have hxp:=bw x;have hyp:=bw y;simp only[dO,List.getD_cons_zero,List.getD_cons_succ];simp+contextual-implicitDefEqProofs only[gW,d6,d7,eI,lC,lN,Nat.zero_add,Nat.add_zero,List.append_nil,lK,lZ,Int.cast_ofNat_Int,Int.reduceLT,Int.le_refl,bE,D.size,D.sizeL,aI,ak,List.getD_cons_zero,List.getD_cons_succ,go_sem];refine aa (ds:=[.pt (eE x) 0]) (by rfl) (ih x (by omega) hx (by omega)) ?_;simp+contextual-implicitDefEqProofs only[D.put,lC,lN,aC,Nat.zero_add,Nat.add_zero,lK,lZ,Int.cast_ofNat_Int,Int.reduceLT,Int.reduceLE,bE,Int.reduceToNat,D.size,D.sizeL,aI,ak,List.getD_cons_zero,List.getD_cons_succ,aq,af,go_sem];refine aa (ds:=[.pt (eE y) 0]) (by rfl) (ih y (by omega) hy (by omega)) ?_;simp+contextual-implicitDefEqProofs only[d6,D.put,lC,lN,aC,Nat.zero_add,Nat.add_zero,lK,lZ,bE,D.size,D.sizeL,aI,ak,List.getD_cons_zero,aq,af,go_sem];refine aa (ds:=[.pt (eE (df x)) 0,.pt (eE (df y)) 0]) (by rfl) (hc2 g0 hg (df x) hx1 (df y) hy1) ?_;simp+contextual-implicitDefEqProofs only[D.put,cU.sub,aC,aO,Nat.zero_add,lK,lZ,bE,ak,aq,af,go_sem]
    try exact D.Le.refl _
   have d7:(k==7)=false:=beq_false_of_ne c7;rw[if_neg c7]
   by_cases c8:k=8
   ·have d8:(k==8)=true:=by simp[c8]
    rw[if_pos c8];have hT':=hTe;rw[←he]at hT';obtain⟨x,rfl,hx⟩:∃x,ks=[x]∧aD g0 x=true:=by
     have hf:=dt hT';have hk:=cA hT';rw[c8]at hf
     match ks,hf,hk with
     | [x],_,hk=>exact⟨x,rfl,hk x (by simp)⟩
     | [],hf,_=>simp[aR,cN]at hf
     |_::_::_,hf,_=>simp[aR,cN]at hf;omega
    have hs:1+au x=au e:=by rw[←he,aM];simp[aJ]
    obtain⟨hx1,hx2⟩:=dT x hx;simp only[dO,List.getD_cons_zero];simp+contextual-implicitDefEqProofs only[gW,d6,d7,d8,eI,lC,lN,Nat.zero_add,Nat.add_zero,List.append_nil,lK,lZ,Int.cast_ofNat_Int,Int.reduceLT,Int.le_refl,bE,D.size,D.sizeL,aI,ak,List.getD_cons_zero,List.getD_cons_succ,go_sem];refine aa (ds:=[.pt (eE x) 0]) (by rfl) (ih x (by omega) hx (by omega)) ?_;simp+contextual-implicitDefEqProofs only[D.put,lC,lN,aC,Nat.zero_add,Nat.add_zero,lK,lZ,bE,D.size,D.sizeL,ak,aq,af,go_sem];refine aa (ds:=[.pt (eE (df x)) 0]) (by rfl) (hc3 g0 hg (df x) hx1) ?_;simp+contextual-implicitDefEqProofs only[D.put,cU.sub,aC,aO,Nat.zero_add,lK,lZ,bE,ak,aq,af,go_sem]
    try exact D.Le.refl _
   have d8:(k==8)=false:=beq_false_of_ne c8;rw[if_neg c8];simp+contextual-implicitDefEqProofs only[gW,d6,d7,d8,eI,lC,lN,Nat.zero_add,Nat.add_zero,List.append_nil,bE,D.size,D.sizeL,aI,ak,List.getD_cons_zero,go_sem];refine aa (ds:=[.pt (eE e) 0]) (by rw[hE];rfl) (hc4 e hfe) ?_;simp+contextual-implicitDefEqProofs only[D.put,cU.sub,aC,aO,Nat.zero_add,lK,lZ,bE,ak,aq,af,go_sem]
   try exact D.Le.refl _
 exact fun e hT hl=>key _ e (Nat.le_refl _) hT hl
def xq(n:Int)(b:Nat):Bool:=n.fdiv (2 ^ b) % 2==1
theorem Bw{m:Int}(h0:0≤m)(h1:m<9223372036854775808):IntKind.i64.wrap ((BitVec.ofInt 64 m&&&BitVec.ofInt 64 1).toNat:Nat)=m % 2:=by
 obtain⟨k,rfl⟩:∃k:Nat,m=k:=⟨m.toNat,by omega⟩;have e:(BitVec.ofInt 64 (k:Int)&&&BitVec.ofInt 64 1).toNat=k % 2:=by
  rw[BitVec.toNat_and];have h2:(BitVec.ofInt 64 (k:Int)).toNat=k:=by
   rw[BitVec.ofInt_natCast,BitVec.toNat_ofNat,Nat.mod_eq_of_lt (by omega)]
  have h3:(BitVec.ofInt 64 1).toNat=1:=by decide
  rw[h2,h3,Nat.and_one_is_mod]
 rw[e,aj (by omega) (by omega)];omega
theorem BD{n:Int}(h0:0≤n){b:Nat}:0≤n.fdiv (2 ^ b)∧n.fdiv (2 ^ b)≤n:=by
 have hp:(0:Int)<2 ^ b:=Int.pow_pos (by decide);rw[Int.fdiv_eq_ediv_of_nonneg _ (by omega)];exact⟨Int.ediv_nonneg h0 (by omega),Int.ediv_le_self _ h0⟩
theorem Jg{n:Int}{b:Nat}(h0:0≤n)(h1:n<9223372036854775808):(IntKind.i64.wrap ((BitVec.ofInt 64 (n.fdiv (2 ^ b))&&&BitVec.ofInt 64 1).toNat:Nat)==1)=xq n b:=by
 have:=@BD n h0 b;rw[Bw this.1 (by omega)]
 rfl
mutual

def lz(a:Int):Ex→Bool
 |.mk k n _ ks=>if k=1 then false else if k=2 then true else if k=3 then xq a n.toNat else if k=5 then !((gF a ks).getD 0 false)else if k=6 then(gF a ks).getD 0 false||(gF a ks).getD 1 false else(gF a ks).getD 0 false&&(gF a ks).getD 1 false
def gF(a:Int):List Ex→List Bool
 | []=>[]
 |e::es=>lz a e::gF a es
end
mutual

def fO(a:Int):Ex→Bool
 |.mk k n nn ks=>if k=4 then false else if k=6 then(gQ a ks).getD 0 false||(gQ a ks).getD 1 false else if k=7 then(gQ a ks).getD 0 false&&(gQ a ks).getD 1 false else if k=8 then true else lz a (.mk k n nn ks)
def gQ(a:Int):List Ex→List Bool
 | []=>[]
 |e::es=>fO a e::gQ a es
end
theorem xl{g0:Int×Int}(hg:fH g0=true){n:Int}{ks:List Ex}(h:aR g0 3 n ks=true):∃m:Nat,n=m∧m<3:=by
 obtain⟨g1,g2⟩:=dB hg;simp only[aR,bA,if_true,cP]at h;have h2:=h.2;rw[aj (by omega) (by omega)]at h2;exact⟨n.toNat,by omega,by omega⟩
theorem Fg{g0:Int×Int}{n:Int}{ks:List Ex}(h:aR g0 5 n ks=true):∃x,ks=[x]:=by
 simp only[aR,bA]at h;have h1:=h.1;have h3:ks.length=1:=by simp[cN]at h1;omega
 match ks,h3 with
 | [x],_=>exact⟨x,rfl⟩

def fD(g:Nat):RC:=(.seq (.r [.v 4 .cf]) (.seq (.seq (.r [.m 5 0,.n 6 5,.f 7 0 6,.l 8 1 7]) (.blk 0 (.seq (.r [.q 10 8 1,.m 9 10]) (.cond (.t 9) (.seq (.r [.v 4 .cf]) .ret) (.seq (.r [.q 12 8 2,.m 11 12]) (.cond (.t 11) (.seq (.r [.v 4 .ct]) .ret) (.seq (.r [.q 14 8 3,.m 13 14]) (.cond (.t 13) (.seq (.r [.m 15 1,.m 16 0,.n 17 16,.f 18 1 17,.l 19 1 18,.o (.cvt 20 .u64 (.t 19)),.o (.bin 21 .shr (.t 15) (.t 20)),.o (.bin 22 .and (.t 21) (.ci 1)),.q 23 22 1,.m 4 23]) .ret) (.seq (.r [.q 25 8 5,.m 24 25]) (.cond (.t 24) (.seq (.r [.m 26 0,.n 27 26,.f 28 2 27,.l 29 1 28,.i 30 3 29 0,.m 31 1,.c 32 g [.t 30,.t 31],.o (.un 33 .not (.t 32)),.m 4 33]) .ret) (.seq (.r [.q 35 8 6,.m 34 35]) (.cond (.t 34) (.seq (.r [.m 36 0,.n 37 36,.f 38 2 37,.l 39 1 38,.i 40 3 39 0,.m 41 1,.c 42 g [.t 40,.t 41],.m 43 42,.u 43 (.mv 44 (.t 0)),.u 43 (.nck 45 (.t 44)),.u 43 (.fa 46 2 (.t 45)),.u 43 (.ld 47 false 1 (.t 46)),.u 43 (.ia 48 3 (.t 47) (.ci 1)),.u 43 (.mv 49 (.t 1)),.u 43 (.call (some 50) g [.t 48,.t 49]),.o (.pick 51 (.t 43) .ct (.t 50)),.m 4 51]) .ret) .skip)))))))))))) (.seq (.r [.m 52 0,.n 53 52,.f 54 2 53,.l 55 1 54,.i 56 3 55 0,.m 57 1,.c 58 g [.t 56,.t 57],.m 59 58,.wm 59 60 0,.w 59 (.nck 61 (.t 60)),.w 59 (.fa 62 2 (.t 61)),.w 59 (.ld 63 false 1 (.t 62)),.w 59 (.ia 64 3 (.t 63) (.ci 1)),.wm 59 65 1,.w 59 (.call (some 66) g [.t 64,.t 65]),.k 67 59 66,.m 4 67]) .ret)))
def qg(P:Program)(fno:Nat):Prop:=∀(g0:Int×Int)(_:fH g0=true)(a:Int),0≤a→a≤7→∀e:Ex,aD g0 e=true→cG e=true→AF P fno [.pt (eE e) 0,.sc (.int .i64 a)] (.own (eB (lz a e)))
theorem Cq{P:Program}(hm:P.follows .mixedOrders=true){g:Nat}(hr:aP P g=some (68,fD g,[.t 4])):qg P g:=by
 intro g0 hg a ha0 ha1;have key:∀N:Nat,∀e:Ex,au e≤N→aD g0 e=true→cG e=true→AF P g [.pt (eE e) 0,.sc (.int .i64 a)] (.own (eB (lz a e))):=by
  intro N
  induction N with
  |zero=>intro e hz;have:=bw e;omega
  |succ N ih=>
   intro e hz hTe hC;obtain⟨k,n,nn,ks,rfl⟩:=Ex.ex e;have hfo:=dt hTe;have hkT:=cA hTe;rw[dN,bA,List.all_eq_true]at hC;rw[lz];refine aw hr hm rfl fun _=>?_;simp only[qy,fG,f8,bc]
   by_cases c1:k=1
   ·subst c1;simp+contextual-implicitDefEqProofs only[fD,eB,Nat.zero_add,Nat.add_zero,bE,D.size,D.sizeL,aI,ak,List.getD_cons_zero,go_sem]
    try exact D.Le.refl _
   have d1:(k==1)=false:=beq_false_of_ne c1;rw[if_neg c1]
   by_cases c2:k=2
   ·subst c2;simp+contextual-implicitDefEqProofs only[fD,eB,Nat.zero_add,Nat.add_zero,Int.reduceBEq,bE,D.size,D.sizeL,aI,ak,List.getD_cons_zero,go_sem]
    try exact D.Le.refl _
   have d2:(k==2)=false:=beq_false_of_ne c2;rw[if_neg c2]
   by_cases c3:k=3
   ·subst c3;obtain⟨m,rfl,h30⟩:=xl hg hfo;simp+contextual-implicitDefEqProofs only[fD,eB,Int.toNat_natCast,Nat.zero_add,Nat.add_zero,Int.reduceBEq,bE,D.size,D.sizeL,aI,ak,List.getD_cons_zero,List.getD_cons_succ,go_sem];rw[show(min (IntKind.u64.wrap (m:Int)).toNat 64)=m by rw[td (by omega) (by omega)];omega]
    erw [Jg ha0 (by omega)]
    exact D.Le.refl _
   have d3:(k==3)=false:=beq_false_of_ne c3;rw[if_neg c3]
   by_cases c5:k=5
   ·subst c5;obtain⟨x,rfl⟩:=Fg hfo;have hx:=hkT x (by simp);have hs:1+au x≤N+1:=by rw[aM]at hz;simpa[aJ]using hz
    simp only[gF,List.getD_cons_zero];simp+contextual-implicitDefEqProofs only[fD,eB,lC,lN,Nat.zero_add,Nat.add_zero,lK,lZ,Int.cast_ofNat_Int,Int.reduceLT,Int.le_refl,Int.reduceBEq,bE,D.size,D.sizeL,aI,ak,List.getD_cons_zero,List.getD_cons_succ,go_sem];refine aa (ds:=[.pt (eE x) 0,.sc (.int .i64 a)]) (by rfl) (ih x (by omega) hx (hC.2 x (by simp))) ?_;simp+contextual-implicitDefEqProofs only[eB,go_sem]
    try exact D.Le.refl _
   have d5:(k==5)=false:=beq_false_of_ne c5;rw[if_neg c5]
   by_cases c6:k=6
   ·subst c6;obtain⟨x,y,rfl,hx,hy⟩:=bQ (.inl rfl) hTe;have hs:1+(au x+au y)≤N+1:=by rw[aM]at hz;simpa[aJ]using hz
    have hxp:=bw x;have hyp:=bw y;simp only[gF,List.getD_cons_zero,List.getD_cons_succ];simp+contextual-implicitDefEqProofs only[fD,eB,lC,lN,Nat.zero_add,Nat.add_zero,lK,lZ,Int.cast_ofNat_Int,Int.reduceLT,Int.le_refl,Int.reduceBEq,bE,D.size,D.sizeL,aI,ak,List.getD_cons_zero,List.getD_cons_succ,go_sem];refine aa (ds:=[.pt (eE x) 0,.sc (.int .i64 a)]) (by rfl) (ih x (by omega) hx (hC.2 x (by simp))) ?_;cases hv:lz a x with
    |true=>
     simp+contextual-implicitDefEqProofs only[Bool.true_or,eB,go_sem]
     try exact D.Le.refl _
    |false=>
     simp+contextual-implicitDefEqProofs only[Bool.false_or,eB,lC,lN,Nat.zero_add,Nat.add_zero,lK,lZ,Int.cast_ofNat_Int,Int.reduceLT,Int.reduceLE,Int.reduceToNat,D.size,D.sizeL,aI,ak,List.getD_cons_zero,List.getD_cons_succ,go_sem];refine aa (ds:=[.pt (eE y) 0,.sc (.int .i64 a)]) (by rfl) (ih y (by omega) hy (hC.2 y (by simp))) ?_;simp+contextual-implicitDefEqProofs only[eB,go_sem]
     try exact D.Le.refl _
   have d6:(k==6)=false:=beq_false_of_ne c6;rw[if_neg c6];have c7:k=7:=by
    have h:=hC.1;unfold dw at h;rw[beq_false_of_ne c1,beq_false_of_ne c2,beq_false_of_ne c3,beq_false_of_ne c5,beq_false_of_ne c6]at h;simpa using h
   subst c7;obtain⟨x,y,rfl,hx,hy⟩:=bQ (.inr rfl) hTe;have hs:1+(au x+au y)≤N+1:=by rw[aM]at hz;simpa[aJ]using hz
   have hxp:=bw x;have hyp:=bw y;simp only[gF,List.getD_cons_zero,List.getD_cons_succ];simp+contextual-implicitDefEqProofs only[fD,eB,lC,lN,Nat.zero_add,Nat.add_zero,lK,lZ,Int.cast_ofNat_Int,Int.reduceLT,Int.le_refl,Int.reduceBEq,D.size,D.sizeL,aI,ak,List.getD_cons_zero,List.getD_cons_succ,go_sem];refine aa (ds:=[.pt (eE x) 0,.sc (.int .i64 a)]) (by rfl) (ih x (by omega) hx (hC.2 x (by simp))) ?_;cases hv:lz a x with
   |true=>
    simp+contextual-implicitDefEqProofs only[bI,eB,lC,lN,Nat.zero_add,Nat.add_zero,lK,lZ,Int.cast_ofNat_Int,Int.reduceLT,Int.reduceLE,Int.reduceToNat,D.size,D.sizeL,aI,ak,List.getD_cons_zero,List.getD_cons_succ,go_sem];refine aa (ds:=[.pt (eE y) 0,.sc (.int .i64 a)]) (by rfl) (ih y (by omega) hy (hC.2 y (by simp))) ?_;simp+contextual-implicitDefEqProofs only[eB,go_sem]
    try exact D.Le.refl _
   |false=>
    simp+contextual-implicitDefEqProofs only[bG,eB,go_sem]
    try exact D.Le.refl _
 exact fun e hT hC=>key _ e (Nat.le_refl _) hT hC
theorem vh{g0:Int×Int}(hg:fH g0=true){k n:Int}{nn:Option Bool}{ks:List Ex}(h:aR g0 k n ks=true)(h4:k≠4)(h6:k≠6)(h7:k≠7)(h8:k≠8):cG (.mk k n nn ks)=true:=by
 rw[dN];rcases x5 hg h with⟨rfl,rfl⟩|⟨rfl,rfl⟩|⟨rfl,rfl,m,rfl,_⟩|⟨e,_⟩|⟨rfl,a,rfl⟩|⟨e,_⟩|⟨e,_⟩|⟨e,_⟩
 ·rfl
 ·rfl
 ·rfl
 ·exact absurd e h4
 ·simp[aR,uN]at h;simp[dw,h]
 ·exact absurd e h6
 ·exact absurd e h7
 ·exact absurd e h8

def fh(g f1:Nat):RC:=(.seq (.r [.v 4 .cf]) (.seq (.seq (.r [.m 5 0,.n 6 5,.f 7 0 6,.l 8 1 7]) (.blk 0 (.seq (.r [.q 10 8 4,.m 9 10]) (.cond (.t 9) (.seq (.r [.v 4 .cf]) .ret) (.seq (.r [.q 12 8 6,.m 11 12]) (.cond (.t 11) (.seq (.r [.m 13 0,.n 14 13,.f 15 2 14,.l 16 1 15,.i 17 3 16 0,.m 18 1,.c 19 g [.t 17,.t 18],.m 20 19,.u 20 (.mv 21 (.t 0)),.u 20 (.nck 22 (.t 21)),.u 20 (.fa 23 2 (.t 22)),.u 20 (.ld 24 false 1 (.t 23)),.u 20 (.ia 25 3 (.t 24) (.ci 1)),.u 20 (.mv 26 (.t 1)),.u 20 (.call (some 27) g [.t 25,.t 26]),.o (.pick 28 (.t 20) .ct (.t 27)),.m 4 28]) .ret) (.seq (.r [.q 30 8 7,.m 29 30]) (.cond (.t 29) (.seq (.r [.m 31 0,.n 32 31,.f 33 2 32,.l 34 1 33,.i 35 3 34 0,.m 36 1,.c 37 g [.t 35,.t 36],.m 38 37,.wm 38 39 0,.w 38 (.nck 40 (.t 39)),.w 38 (.fa 41 2 (.t 40)),.w 38 (.ld 42 false 1 (.t 41)),.w 38 (.ia 43 3 (.t 42) (.ci 1)),.wm 38 44 1,.w 38 (.call (some 45) g [.t 43,.t 44]),.k 46 38 45,.m 4 46]) .ret) (.seq (.r [.q 48 8 8,.m 47 48]) (.cond (.t 47) (.seq (.r [.v 4 .ct]) .ret) .skip)))))))))) (.seq (.r [.m 49 0,.m 50 1,.c 51 f1 [.t 49,.t 50],.m 4 51]) .ret)))
def jY(P:Program)(fno:Nat):Prop:=∀(g0:Int×Int)(_:fH g0=true)(a:Int),0≤a→a≤7→∀e:Ex,aD g0 e=true→AF P fno [.pt (eE e) 0,.sc (.int .i64 a)] (.own (eB (fO a e)))
theorem Au{P:Program}(hm:P.follows .mixedOrders=true){g f1:Nat}(hr:aP P g=some (52,fh g f1,[.t 4]))(hc1:qg P f1):jY P g:=by
 intro g0 hg a ha0 ha1;have key:∀N:Nat,∀e:Ex,au e≤N→aD g0 e=true→AF P g [.pt (eE e) 0,.sc (.int .i64 a)] (.own (eB (fO a e))):=by
  intro N
  induction N with
  |zero=>intro e hz;have:=bw e;omega
  |succ N ih=>
   intro e hz hTe;obtain⟨k,n,nn,ks,rfl⟩:=Ex.ex e;have hfo:=dt hTe;have hkT:=cA hTe;rw[fO]
   by_cases c4:k=4
   ·subst c4;rw[bc];refine aw hr hm rfl fun _=>?_;simp+contextual-implicitDefEqProofs only[fh,eB,Nat.zero_add,Nat.add_zero,bE,D.size,D.sizeL,aI,ak,List.getD_cons_zero,go_sem]
    try exact D.Le.refl _
   have d4:(k==4)=false:=beq_false_of_ne c4;rw[if_neg c4]
   by_cases c6:k=6
   ·subst c6;rw[bc];refine aw hr hm rfl fun _=>?_;obtain⟨x,y,rfl,hx,hy⟩:=bQ (.inl rfl) hTe;have hs:1+(au x+au y)≤N+1:=by rw[aM]at hz;simpa[aJ]using hz
    have hxp:=bw x;have hyp:=bw y;simp only[gQ,List.getD_cons_zero,List.getD_cons_succ];simp+contextual-implicitDefEqProofs only[fh,eB,lC,lN,Nat.zero_add,Nat.add_zero,lK,lZ,Int.cast_ofNat_Int,Int.reduceLT,Int.le_refl,Int.reduceBEq,bE,D.size,D.sizeL,aI,ak,List.getD_cons_zero,List.getD_cons_succ,go_sem];refine aa (ds:=[.pt (eE x) 0,.sc (.int .i64 a)]) (by rfl) (ih x (by omega) hx) ?_;cases hv:fO a x with
    |true=>
     simp+contextual-implicitDefEqProofs only[Bool.true_or,eB,go_sem]
     try exact D.Le.refl _
    |false=>
     simp+contextual-implicitDefEqProofs only[Bool.false_or,eB,lC,lN,Nat.zero_add,Nat.add_zero,lK,lZ,Int.cast_ofNat_Int,Int.reduceLT,Int.reduceLE,Int.reduceToNat,D.size,D.sizeL,aI,ak,List.getD_cons_zero,List.getD_cons_succ,go_sem];refine aa (ds:=[.pt (eE y) 0,.sc (.int .i64 a)]) (by rfl) (ih y (by omega) hy) ?_;simp+contextual-implicitDefEqProofs only[eB,go_sem]
     try exact D.Le.refl _
   have d6:(k==6)=false:=beq_false_of_ne c6;rw[if_neg c6]
   by_cases c7:k=7
   ·subst c7;rw[bc];refine aw hr hm rfl fun _=>?_;obtain⟨x,y,rfl,hx,hy⟩:=bQ (.inr rfl) hTe;have hs:1+(au x+au y)≤N+1:=by rw[aM]at hz;simpa[aJ]using hz
    have hxp:=bw x;have hyp:=bw y;simp only[gQ,List.getD_cons_zero,List.getD_cons_succ];simp+contextual-implicitDefEqProofs only[fh,eB,lC,lN,Nat.zero_add,Nat.add_zero,lK,lZ,Int.cast_ofNat_Int,Int.reduceLT,Int.le_refl,Int.reduceBEq,bE,D.size,D.sizeL,aI,ak,List.getD_cons_zero,List.getD_cons_succ,go_sem];refine aa (ds:=[.pt (eE x) 0,.sc (.int .i64 a)]) (by rfl) (ih x (by omega) hx) ?_;cases hv:fO a x with
    |true=>
     simp+contextual-implicitDefEqProofs only[bI,eB,lC,lN,Nat.zero_add,Nat.add_zero,lK,lZ,Int.cast_ofNat_Int,Int.reduceLT,Int.reduceLE,Int.reduceToNat,D.size,D.sizeL,aI,ak,List.getD_cons_zero,List.getD_cons_succ,go_sem];refine aa (ds:=[.pt (eE y) 0,.sc (.int .i64 a)]) (by rfl) (ih y (by omega) hy) ?_;simp+contextual-implicitDefEqProofs only[eB,go_sem]
     try exact D.Le.refl _
    |false=>
     simp+contextual-implicitDefEqProofs only[bG,eB,go_sem]
     try exact D.Le.refl _
   have d7:(k==7)=false:=beq_false_of_ne c7;rw[if_neg c7]
   by_cases c8:k=8
   ·subst c8;rw[bc];refine aw hr hm rfl fun _=>?_;simp+contextual-implicitDefEqProofs only[fh,eB,Nat.zero_add,Nat.add_zero,Int.reduceBEq,bE,D.size,D.sizeL,aI,ak,List.getD_cons_zero,go_sem]
    try exact D.Le.refl _
   have d8:(k==8)=false:=beq_false_of_ne c8;rw[if_neg c8];have hC:=vh (nn:=nn) hg hfo c4 c6 c7 c8;have hTe':=hTe;generalize he:Ex.mk k n nn ks=e at*;have hE:eE e=.ag [eI k,eI n,.ls nn 3 (ks.map eE)]:=by rw[←he,bc];rfl
   refine aw hr hm rfl fun _=>?_;simp only[qy,fG,f8,hE];simp+contextual-implicitDefEqProofs only[fh,d4,d6,d7,d8,eI,eB,lC,lN,Nat.zero_add,Nat.add_zero,D.size,D.sizeL,aI,ak,List.getD_cons_zero,go_sem];refine aa (ds:=[.pt (eE e) 0,.sc (.int .i64 a)]) (by rw[hE];rfl) (hc1 g0 hg a ha0 ha1 e hTe' hC) ?_;simp+contextual-implicitDefEqProofs only[eB,go_sem]
   try exact D.Le.refl _
 exact fun e hT=>key _ e (Nat.le_refl _) hT
theorem iK:∀{a b:List Ex},aJ (a++b)=aJ a+aJ b
 | [],b=>by simp[aJ]
 |x::a,b=>by simp only[List.cons_append,aJ,iK (a:=a)];omega
theorem xP{l:List Ex}{i:Nat}(h:i<l.length):aJ (l.take (i+1))=aJ (l.take i)+au l[i]:=by
 rw[List.take_succ_eq_append_getElem h,iK];simp[aJ]
theorem yx{l:List Ex}{i:Nat}:aJ (l.take i)≤aJ l:=by
 conv=>rhs;rw[←List.take_append_drop i l,iK]
 omega

def nu(g:Nat):RC:=(.seq (.r [.v 2 (.ci 0)]) (.seq (.r [.v 3 (.ci 1)]) (.seq (.seq (.r [.v 4 (.ci 0)]) (.blk 0 (.loop (.seq (.seq (.r [.m 5 4,.m 6 0,.n 7 6,.f 8 2 7,.l 9 1 8,.o (.len 10 (.t 9)),.o (.bin 11 .lss (.t 5) (.t 10))]) (.cond (.t 11) .skip (.exit 0))) (.seq (.blk 1 (.r [.m 14 3,.m 15 0,.n 16 15,.f 17 2 16,.l 18 1 17,.m 19 4,.o (.ia 20 3 (.t 18) (.t 19)),.c 21 g [.t 20],.o (.bin 22 .add (.t 14) (.t 21)),.m 3 22])) (.r [.m 12 4,.o (.bin 13 .add (.t 12) (.ci 1)),.m 4 13])))))) (.seq (.r [.m 23 3,.m 2 23]) .ret))))
def mM(P:Program)(fno:Nat):Prop:=∀e:Ex,au e≤1000000000→AF P fno [.pt (eE e) 0] (.own (eI (au e)))
theorem zD{P:Program}(hm:P.follows .mixedOrders=true){g:Nat}(hr:aP P g=some (24,nu g,[.t 2])):mM P g:=by
 intro e hz;refine Ex.ind (p:=fun e=>au e≤1000000000→AF P g [.pt (eE e) 0] (.own (eI (au e)))) (fun k n nn ks ih hz=>?_) e hz;rw[aM]at hz;rw[bc,aM];refine aw hr hm rfl fun hb=>?_;have hl:ks.length≤9223372036854775807:=by
  have:=hb.1;simp only[D.bd,D.bdL,lM,aT]at this;exact this.2.2.1.1
 simp+contextual-implicitDefEqProofs only[nu,eI,Nat.zero_add,go_sem];refine bB (α:=Nat) [3,4,5,6,7,8,9,10,11,12,13,14,15,16,17,18,19,20,21,22] (fun i=>[(4,.im none (.sc (.int .i64 i))),(3,.im none (.sc (.int .i64 (1+(aJ (ks.take i):Int)))))]) (fun i=>[]) (fun i=>i≤ks.length) (fun i=>ks.length-i) 0 (bf.to [] (by simp only[go_sem];rfl) rfl (by simp[]) (by rfl) (by simp only[an,go_sem,keep,cH]<;>simp[aJ])) (Nat.zero_le _) ?_;intro i j1
 by_cases hi:i<ks.length
 ·have e1:D.at (ks.map eE) i=eE ks[i]:=bP hi;have hm1:=pZ (List.getElem_mem hi);have hs:=xP hi;have ht:=yx (l:=ks) (i:=i+1);simp+contextual-implicitDefEqProofs only[hi,e1,lC,lN,Int.toNat_natCast,Nat.zero_add,Nat.add_zero,D.size,D.sizeL,aI,ak,List.getD_cons_zero,List.getD_cons_succ,lM,go_sem,iL,iN];refine aa (ds:=[.pt (eE ks[i]) 0]) (by rfl) (ih ks[i] (List.getElem_mem _) (by omega)) ?_;simp+contextual-implicitDefEqProofs only[eI,go_sem];rw[aj (by omega) (by omega),aj (by omega) (by omega)];have hk:(1+(aJ (ks.take i):Int)+au ks[i])=1+aJ (ks.take (i+1)):=by rw[hs];push_cast;omega
  rw[hk];exact⟨i+1,by omega,by omega,bf.to [] (by simp only[go_sem];rfl) rfl (by simp) (by rfl) (by simp only[an,go_sem]<;>simp)⟩
 ·obtain rfl:i=ks.length:=by omega
  simp+contextual-implicitDefEqProofs only[Int.lt_irrefl,Nat.zero_add,Nat.add_zero,D.size,D.sizeL,aI,ak,List.getD_cons_zero,List.getD_cons_succ,lM,go_sem];rw[List.take_length];exact D.Le.sc_eq (by push_cast;rfl)

def mH(l:List Ex)(e:Ex):Int:=match l.findIdx? (fun x=>qE x e)with|some i=>(i:Int)|none=> -1

def pU(f1:Nat):RC:=(.seq (.r [.v 4 (.ci 0)]) (.seq (.seq (.r [.v 5 (.ci 0)]) (.blk 0 (.loop (.seq (.seq (.r [.m 6 5,.m 7 0,.o (.len 8 (.t 7)),.o (.bin 9 .lss (.t 6) (.t 8))]) (.cond (.t 9) .skip (.exit 0))) (.seq (.blk 1 (.seq (.r [.m 12 0,.m 13 5,.o (.ia 14 3 (.t 12) (.t 13)),.m 15 1,.c 16 f1 [.t 14,.t 15]]) (.cond (.t 16) (.seq (.r [.m 17 5,.m 4 17]) .ret) .skip))) (.r [.m 10 5,.o (.bin 11 .add (.t 10) (.ci 1)),.m 5 11])))))) (.seq (.r [.o (.mv 4 (.c (.sc (.int .i64 (-1)))))]) .ret)))
def px(P:Program)(fno:Nat):Prop:=∀(nn:Option Bool)(l:List Ex)(e:Ex),l.length≤1000000→AF P fno [.ls nn 3 (l.map eE),.pt (eE e) 0] (.own (eI (mH l e)))
theorem CU{P:Program}(hm:P.follows .mixedOrders=true){g f1:Nat}(hr:aP P g=some (18,pU f1,[.t 4]))(hc1:lL P f1):px P g:=by
 intro nn l e hl;refine aw hr hm rfl fun hb=>?_;obtain⟨k,n,nn',ks,he⟩:=Ex.ex e;have hE:eE e=.ag [eI k,eI n,.ls nn' 3 (ks.map eE)]:=by rw[he,bc];rfl
 simp only[qy,fG,f8,hE];simp+contextual-implicitDefEqProofs only[pU,eI,Nat.zero_add,go_sem];refine bB (α:=Nat) [4,5,6,7,8,9,10,11,12,13,14,15,16,17] (fun i=>[(5,.im none (.sc (.int .i64 i)))]) (fun i=>[]) (fun i=>i≤l.length∧∀j (h:j<l.length),j<i→qE l[j] e=false) (fun i=>l.length-i) 0 (bf.to [] (by simp only[go_sem];rfl) rfl (by simp) (by rfl) (by simp only[an,go_sem,keep,cH]<;>simp)) ⟨Nat.zero_le _,fun j _ h=>absurd h (Nat.not_lt_zero j)⟩ ?_;rintro i ⟨hi0,hj0⟩
 by_cases hi:i<l.length
 ·have ai:D.at (l.map eE) i=eE l[i]:=bP hi;simp+contextual-implicitDefEqProofs only[hi,ai,lC,lN,Int.toNat_natCast,lM,go_sem,iL,iN];refine aa (ds:=[.pt (eE l[i]) 0,.pt (eE e) 0]) (by rw[hE];rfl) (hc1 l[i] e) ?_;cases hq:qE l[i] e with
  |true=>
   have hf:mH l e=i:=by
    unfold mH;rw[List.findIdx?_eq_some_iff_getElem.2 ⟨hi,hq,fun j hj=>by rw[hj0 j (by omega) hj];simp⟩]
   rw[hf];simp+contextual-implicitDefEqProofs only[eB,go_sem]
   try exact D.Le.refl _
  |false=>
   simp+contextual-implicitDefEqProofs only[eB,go_sem];refine⟨i+1,⟨by omega,fun j h hj=>?_⟩,by omega,?_⟩
   ·by_cases e1:j=i
    ·subst e1;exact hq
    ·exact hj0 j h (by omega)
   rw[aj (by omega) (by omega)];exact bf.to [] (by simp only[go_sem];rfl) rfl (by simp) (by rfl) (by simp only[an,go_sem]<;>simp)
 ·obtain rfl:i=l.length:=by omega
  have hf:mH l e= -1:=by
   unfold mH;rw[List.findIdx?_eq_none_iff.2 fun x hx=>by
    obtain⟨j,h,rfl⟩:=List.getElem_of_mem hx;rw[hj0 j h h]]
  rw[hf];simp+contextual-implicitDefEqProofs only[Int.lt_irrefl,lM,go_sem]
  try exact D.Le.refl _
abbrev zE:Ex:=.mk 1 0 (some true) []
abbrev oE:Ex:=.mk 2 0 (some true) []
abbrev fE(k:Int)(a b:Ex):Ex:=.mk k 0 (some false) [a,b]

def nV(r:Ex):Ex×Bool:=if au r≤800 then(df r,true)else(r,false)
def Be:List (Ex×Bool)→Ex×Bool
 | [x,y]=>if x.2=true then(if y.2=true then nV (fE 6 x.1 y.1)else(zE,false))else(zE,false)
 |_=>(zE,true)
def By(a:Int):List Ex→List (Ex×Bool)→Ex×Bool
 | [p,q],[x,y]=>if x.2=true then(if fO a p=true then(if y.2=true then nV (fE 6 (fE 7 x.1 q) y.1)else(fE 7 x.1 q,false))else nV (fE 7 x.1 q))else(zE,false)
 |_,_=>(zE,true)
def wH(e:Ex):List (Ex×Bool)→Ex×Bool
 | [x]=>if x.2=true then nV (fE 7 x.1 e)else(zE,false)
 |_=>(zE,true)
mutual

def cF(a c:Int):Ex→Ex×Bool
 |.mk k n nn ks=>if k=4 then(if n=c then(oE,true)else(zE,true))else if k=6 then Be (gj a c ks)else if k=7 then By a ks (gj a c ks)else if k=8 then wH (.mk k n nn ks) (gj a c ks)else(zE,true)
def gj(a c:Int):List Ex→List (Ex×Bool)
 | []=>[]
 |e::es=>cF a c e::gj a c es
end
theorem zW:eE zE=.ag [.sc (.int .i64 1),.sc (.int .i64 0),.ls (some true) 3 []]:=by rw[bc];rfl
theorem rN{g:Int×Int}{r:Ex}(h:aD g r=true):aD g (nV r).1=true∧((nV r).2=true→au (nV r).1≤800):=by
 unfold nV;have:=dT r h
 split
 ·exact⟨this.1,fun _=>by simp only;omega⟩
 ·exact⟨h,fun h=>by cases h⟩
theorem kU{g0:Int×Int}{n:Int}{ks:List Ex}(h:aR g0 8 n ks=true):∃x,ks=[x]:=by
 simp only[aR,bA]at h;have h1:=h.1;have h3:ks.length=1:=by simp[cN]at h1;omega
 match ks,h3 with
 | [x],_=>exact⟨x,rfl⟩
theorem fg{g:Int×Int}{k:Int}(hk:k=6∨k=7){a b:Ex}:aD g (fE k a b)=(aD g a&&aD g b):=jg hk
theorem EC{g:Int×Int}:aD g zE=true:=g7 (.inl rfl)
theorem IU{g:Int×Int}:aD g oE=true:=g7 (.inr rfl)
theorem HV:au zE=1:=by rw[aM];rfl
theorem Jd:au oE=1:=by rw[aM];rfl
theorem dS{g:Int×Int}{a c:Int}(e:Ex):aD g e=true→aD g (cF a c e).1=true∧((cF a c e).2=true→au (cF a c e).1≤800):=by
 refine Ex.ind (p:=fun e=>aD g e=true→aD g (cF a c e).1=true∧((cF a c e).2=true→au (cF a c e).1≤800)) (fun k n nn ks ih h=>?_) e;have hz:aD g zE=true∧((true:Bool)=true→au zE≤800):=⟨EC,fun _=>by rw[HV];omega⟩;have ho:aD g oE=true∧((true:Bool)=true→au oE≤800):=⟨IU,fun _=>by rw[Jd];omega⟩;have hf:aD g zE=true∧((false:Bool)=true→au zE≤800):=⟨EC,fun h=>by cases h⟩;have hk:=cA h;rw[cF]
 split
 ·split
  ·exact ho
  ·exact hz
 ·split
  ·rename_i h6
   obtain⟨x,y,rfl,hx,hy⟩:=bQ (.inl h6) h;have i1:=ih x (by simp) hx;have i2:=ih y (by simp) hy;simp only[gj,Be]
   split
   ·split
    ·exact rN (by rw[fg (.inl rfl),i1.1,i2.1];rfl)
    ·exact hf
   ·exact hf
  ·split
   ·rename_i h7
    obtain⟨x,y,rfl,hx,hy⟩:=bQ (.inr h7) h;have i1:=ih x (by simp) hx;have i2:=ih y (by simp) hy;simp only[gj,By];have h7:aD g (fE 7 (cF a c x).1 y)=true:=by rw[fg (.inr rfl),i1.1,hy];rfl
    split
    ·split
     ·split
      ·exact rN (by rw[fg (.inl rfl),h7,i2.1];rfl)
      ·exact⟨h7,fun h=>by cases h⟩
     ·exact rN h7
    ·exact hf
   ·split
    ·rename_i h8
     subst h8;obtain⟨x,rfl⟩:=kU (dt h);have i1:=ih x (by simp) (hk x (by simp));simp only[gj,wH]
     split
     ·exact rN (by rw[fg (.inr rfl),i1.1,h];rfl)
     ·exact hf
    ·exact hz

def pj(g f1 f2 f3 f4 f5 f6:Nat):RC:=(.seq (.r [.o (.zer 6 3 .ze),.v 7 .cf]) (.seq (.r [.c 19 f1 [],.o (.zer 8 3 .ze),.s 3 8 19]) (.seq (.seq (.r [.m 20 0,.n 21 20,.f 22 0 21,.l 23 1 22]) (.blk 0 (.seq (.r [.q 26 23 4,.m 25 26]) (.cond (.t 25) (.seq (.seq (.r [.m 27 0,.n 28 27,.f 29 1 28,.l 30 1 29,.m 31 2,.o (.bin 32 .eql (.t 30) (.t 31))]) (.cond (.t 32) (.seq (.r [.c 33 f2 [],.s 3 6 33,.v 7 .ct]) .ret) .skip)) (.seq (.r [.L 34 3 8,.s 3 6 34,.v 7 .ct]) .ret)) (.seq (.r [.q 36 23 6,.m 35 36]) (.cond (.t 35) (.seq (.r [.m 38 0,.n 39 38,.f 40 2 39,.l 41 1 40,.i 42 3 41 0,.m 43 1,.m 44 2,.c 45 g [.t 42,.t 43,.t 44],.m 37 45,.o (.ext 46 (.t 37) 0),.o (.ext 47 (.t 37) 1),.o (.zer 9 3 .ze),.s 3 9 46,.m 10 47]) (.seq (.r [.m 49 0,.n 50 49,.f 51 2 50,.l 52 1 51,.i 53 3 52 1,.m 54 1,.m 55 2,.c 56 g [.t 53,.t 54,.t 55],.m 48 56,.o (.ext 57 (.t 48) 0),.o (.ext 58 (.t 48) 1),.o (.zer 11 3 .ze),.s 3 11 57,.m 12 58]) (.seq (.seq (.r [.m 59 10,.o (.un 60 .not (.t 59)),.m 61 60,.u 61 (.mv 62 (.t 12)),.u 61 (.un 63 .not (.t 62)),.o (.pick 64 (.t 61) .ct (.t 63))]) (.cond (.t 64) (.seq (.r [.L 65 3 8,.s 3 6 65,.v 7 .cf]) .ret) .skip)) (.r [.L 66 3 9,.L 67 3 11,.c 68 f3 [.ci 6,.t 66,.t 67],.s 3 8 68])))) (.seq (.r [.q 70 23 7,.m 69 70]) (.cond (.t 69) (.seq (.r [.m 72 0,.n 73 72,.f 74 2 73,.l 75 1 74,.i 76 3 75 0,.m 77 1,.m 78 2,.c 79 g [.t 76,.t 77,.t 78],.m 71 79,.o (.ext 80 (.t 71) 0),.o (.ext 81 (.t 71) 1),.o (.zer 13 3 .ze),.s 3 13 80,.m 14 81]) (.seq (.seq (.r [.m 82 14,.o (.un 83 .not (.t 82))]) (.cond (.t 83) (.seq (.r [.L 84 3 8,.s 3 6 84,.v 7 .cf]) .ret) .skip)) (.seq (.reg true [.L 85 3 13,.m 86 0,.n 87 86,.f 88 2 87,.l 89 1 88,.i 90 3 89 1,.L 91 3 90,.c 92 f3 [.ci 7,.t 85,.t 91],.s 3 8 92]) (.seq (.r [.m 93 0,.n 94 93,.f 95 2 94,.l 96 1 95,.i 97 3 96 0,.m 98 1,.c 99 f4 [.t 97,.t 98]]) (.cond (.t 99) (.seq (.r [.m 101 0,.n 102 101,.f 103 2 102,.l 104 1 103,.i 105 3 104 1,.m 106 1,.m 107 2,.c 108 g [.t 105,.t 106,.t 107],.m 100 108,.o (.ext 109 (.t 100) 0),.o (.ext 110 (.t 100) 1),.o (.zer 15 3 .ze),.s 3 15 109,.m 16 110]) (.seq (.seq (.r [.m 111 16,.o (.un 112 .not (.t 111))]) (.cond (.t 112) (.seq (.r [.L 113 3 8,.s 3 6 113,.v 7 .cf]) .ret) .skip)) (.r [.L 114 3 8,.L 115 3 15,.c 116 f3 [.ci 6,.t 114,.t 115],.s 3 8 116]))) .skip))))) (.seq (.r [.q 118 23 8,.m 117 118]) (.cond (.t 117) (.seq (.r [.m 120 0,.n 121 120,.f 122 2 121,.l 123 1 122,.i 124 3 123 0,.m 125 1,.m 126 2,.c 127 g [.t 124,.t 125,.t 126],.m 119 127,.o (.ext 128 (.t 119) 0),.o (.ext 129 (.t 119) 1),.o (.zer 17 3 .ze),.s 3 17 128,.m 18 129]) (.seq (.seq (.r [.m 130 18,.o (.un 131 .not (.t 130))]) (.cond (.t 131) (.seq (.r [.L 132 3 8,.s 3 6 132,.v 7 .cf]) .ret) .skip)) (.reg true [.L 133 3 17,.m 134 0,.n 135 134,.L 136 3 135,.c 137 f3 [.ci 7,.t 133,.t 136],.s 3 8 137]))) (.seq (.r [.L 24 3 8,.s 3 6 24,.v 7 .ct]) .ret))))))))))) (.seq (.seq (.r [.c 138 f5 [.t 8],.o (.bin 139 .gtr (.t 138) (.ci 800))]) (.cond (.t 139) (.seq (.r [.L 140 3 8,.s 3 6 140,.v 7 .cf]) .ret) .skip)) (.seq (.r [.c 141 f6 [.t 8],.s 3 6 141,.v 7 .ct]) .ret)))))
def pH(P:Program)(fno:Nat):Prop:=∀(g0:Int×Int)(_:fH g0=true)(a c:Int),0≤a→a≤7→∀e:Ex,aD g0 e=true→au e≤1000→AF P fno [.pt (eE e) 0,.sc (.int .i64 a),.sc (.int .i64 c)] (.tup [.sh (eE (cF a c e).1),.own (eB (cF a c e).2)])
theorem Cp{P:Program}(hm:P.follows .mixedOrders=true){g f1 f2 f3 f4 f5 f6:Nat}(hr:aP P g=some (142,pj g f1 f2 f3 f4 f5 f6,[.c 6 3 true,.t 7]))(hc1:iW P f1)(hc2:kI P f2)(hc3:ft P f3)(hc4:jY P f4)(hc5:mM P f5)(hc6:mg P f6):pH P g:=by
 intro g0 hg a c ha0 ha1;have key:∀N:Nat,∀e:Ex,au e≤N→aD g0 e=true→au e≤1000→AF P g [.pt (eE e) 0,.sc (.int .i64 a),.sc (.int .i64 c)] (.tup [.sh (eE (cF a c e).1),.own (eB (cF a c e).2)]):=by
  intro N
  induction N with
  |zero=>intro e hz;have:=bw e;omega
  |succ N ih=>
   intro e hz hT hle;obtain⟨k,n,nn,ks,he⟩:=Ex.ex e;have hTe:=hT;rw[he]at hTe;have hE:eE e=.ag [eI k,eI n,.ls nn 3 (ks.map eE)]:=by rw[he,bc];rfl
   have hst:cF a c e=cF a c (.mk k n nn ks):=by rw[he]
   rw[cF]at hst;refine aw hr hm rfl fun _=>?_;simp only[qy,fG,f8,hE];simp+contextual-implicitDefEqProofs only[pj,eI,eB,lN,Nat.zero_add,Nat.add_zero,List.append_nil,bE,D.size,D.sizeL,go_sem];refine aa (ds:=[]) (by rfl) (hc1 ()) ?_;rw[zW]
   by_cases c4:k=4
   ·subst c4;rw[if_pos rfl]at hst
    by_cases cn:n=c
    ·subst cn;rw[if_pos rfl]at hst;rw[hst];simp+contextual-implicitDefEqProofs only[D.put,lN,Nat.zero_add,Nat.add_zero,lK,lZ,bE,D.size,D.sizeL,aI,ak,List.getD_cons_zero,List.getD_cons_succ,aq,af,go_sem];refine aa (ds:=[]) (by rfl) (hc2 ()) ?_;simp+contextual-implicitDefEqProofs only[D.put,cU.sub,aC,aO,Nat.zero_add,lK,lZ,bE,ak,aq,af,go_sem]
     all_goals (try exact D.Le.refl _)
    ·have dn:(n==c)=false:=beq_false_of_ne cn;rw[if_neg cn]at hst;rw[hst,zW];simp+contextual-implicitDefEqProofs only[dn,D.put,Nat.zero_add,Nat.add_zero,lK,lZ,bE,D.size,D.sizeL,bg,aI,ak,List.getD_cons_zero,List.getD_cons_succ,List.drop_zero,List.take_succ_cons,List.take_zero,aq,af,go_sem]
     all_goals (try exact D.Le.refl _)
   have d4:(k==4)=false:=beq_false_of_ne c4;rw[if_neg c4]at hst
   by_cases c6:k=6
   ·subst c6;rw[if_pos rfl]at hst;obtain⟨x,y,rfl,hx,hy⟩:=bQ (.inl rfl) hTe;have hs:1+(au x+au y)=au e:=by rw[he,aM];simp[aJ]
    have hxp:=bw x;have hyp:=bw y;have ox:=dS (g:=g0) (a:=a) (c:=c) x hx;have oy:=dS (g:=g0) (a:=a) (c:=c) y hy;simp only[gj,Be]at hst;simp+contextual-implicitDefEqProofs only[d4,D.put,lC,lN,Nat.zero_add,Nat.add_zero,lK,lZ,Int.cast_ofNat_Int,Int.reduceLT,Int.le_refl,bE,D.size,D.sizeL,aI,ak,List.getD_cons_zero,List.getD_cons_succ,aq,af,go_sem];refine aa (ds:=[.pt (eE x) 0,.sc (.int .i64 a),.sc (.int .i64 c)]) (by rfl) (ih x (by omega) hx (by omega)) ?_;rcases hxx:cF a c x with⟨rx,bx⟩;rw[hxx]at ox hst;simp only at ox hst;simp+contextual-implicitDefEqProofs only[Bool.or_self,eB,D.put,lC,lN,aC,Nat.zero_add,Nat.add_zero,List.append_nil,lK,lZ,Int.cast_ofNat_Int,Int.reduceLT,Int.reduceLE,bE,Int.reduceToNat,D.size,D.sizeL,aI,ak,List.getD_cons_zero,List.getD_cons_succ,aq,af,go_sem];refine aa (ds:=[.pt (eE y) 0,.sc (.int .i64 a),.sc (.int .i64 c)]) (by rfl) (ih y (by omega) hy (by omega)) ?_;rcases hyy:cF a c y with⟨ry,bq⟩;rw[hyy]at oy hst;simp only at oy hst;cases bx with
    |false=>
     simp only[fq,if_false]at hst;rw[hst,zW];simp+contextual-implicitDefEqProofs only[bne,bN,bU,bJ,Bool.or_self,eB,D.put,lC,lN,aC,Nat.zero_add,Nat.add_zero,List.append_nil,lK,lZ,bE,D.size,D.sizeL,bg,ak,List.getD_cons_zero,List.getD_cons_succ,List.drop_zero,List.take_succ_cons,List.take_zero,aq,af,go_sem]
     all_goals (try exact D.Le.refl _)
    |true=>
     cases bq with
     |false=>
      simp only[fq,if_false,if_true]at hst;rw[hst,zW];simp+contextual-implicitDefEqProofs only[bne,bT,bN,bU,bJ,Bool.or_self,eB,D.put,lC,lN,aC,Nat.zero_add,Nat.add_zero,List.append_nil,lK,lZ,bE,D.size,D.sizeL,bg,ak,List.getD_cons_zero,List.getD_cons_succ,List.drop_zero,List.take_succ_cons,List.take_zero,aq,af,go_sem]
      all_goals (try exact D.Le.refl _)
     |true=>
      simp only[if_true]at hst;rw[hst];simp+contextual-implicitDefEqProofs only[bne,bT,bN,bU,Bool.or_self,eB,D.put,lC,lN,cU.sub,aC,aO,Nat.zero_add,Nat.add_zero,List.append_nil,lK,lZ,bE,D.size,D.sizeL,ak,List.getD_cons_zero,List.getD_cons_succ,aq,af,go_sem];refine aa (ds:=[.sc (.int .i64 6),eE rx,eE ry]) (by rfl) (Gz.sh hc3 6 (aO _) (aC _) (aO _) (aC _)) ?_;simp+contextual-implicitDefEqProofs only[Bool.or_self,D.put,lC,lN,Nat.zero_add,Nat.add_zero,lK,lZ,bE,D.size,D.sizeL,ak,aq,af,go_sem];have hrT:aD g0 (fE 6 rx ry)=true:=by rw[fg (.inl rfl),ox.1,oy.1];rfl
      have hrS:au (fE 6 rx ry)≤5000:=by rw[aM];simp only[aJ];have:=ox.2 rfl;have:=oy.2 rfl;omega
      have hR:eE (fE 6 rx ry)=.ag [.sc (.int .i64 6),.sc (.int .i64 0),.ls (some false) 3 [eE rx,eE ry]]:=by rw[qR]
      refine aa (ds:=[.pt (eE (fE 6 rx ry)) 0]) (by rw[hR];rfl) (hc5 (fE 6 rx ry) (by omega)) ?_;unfold nV
      by_cases hsz:au (fE 6 rx ry)≤800
      ·have hgt:¬((800:Int)<(au (fE 6 rx ry):Int)):=by omega
       rw[if_pos hsz];simp+contextual-implicitDefEqProofs only[hgt,eI,lC,lN,go_sem];refine aa (ds:=[.pt (eE (fE 6 rx ry)) 0]) (by rw[hR];rfl) (hc6 g0 hg (fE 6 rx ry) hrT (by omega)) ?_;simp+contextual-implicitDefEqProofs only[Bool.or_self,D.put,cU.sub,aC,aO,Nat.zero_add,lK,lZ,bE,ak,aq,af,go_sem]
       all_goals (try exact D.Le.refl _)
      ·have hgt:(800:Int)<(au (fE 6 rx ry):Int):=by omega
       rw[if_neg hsz,hR];simp+contextual-implicitDefEqProofs only[hgt,Bool.or_self,eI,D.put,Nat.zero_add,Nat.add_zero,lK,lZ,bE,D.size,D.sizeL,bg,ak,List.drop_zero,List.take_succ_cons,List.take_zero,aq,af,go_sem]
       all_goals (try exact D.Le.refl _)
   have d6:(k==6)=false:=beq_false_of_ne c6;rw[if_neg c6]at hst
   by_cases c7:k=7
   ·subst c7;rw[if_pos rfl]at hst;obtain⟨x,y,rfl,hx,hy⟩:=bQ (.inr rfl) hTe;have hs:1+(au x+au y)=au e:=by rw[he,aM];simp[aJ]
    have hxp:=bw x;have hyp:=bw y;have ox:=dS (g:=g0) (a:=a) (c:=c) x hx;have oy:=dS (g:=g0) (a:=a) (c:=c) y hy;simp only[gj,By]at hst;simp+contextual-implicitDefEqProofs only[d4,D.put,lC,lN,Nat.zero_add,Nat.add_zero,lK,lZ,Int.cast_ofNat_Int,Int.reduceLT,Int.le_refl,Int.reduceBEq,bE,D.size,D.sizeL,aI,ak,List.getD_cons_zero,List.getD_cons_succ,aq,af,go_sem];refine aa (ds:=[.pt (eE x) 0,.sc (.int .i64 a),.sc (.int .i64 c)]) (by rfl) (ih x (by omega) hx (by omega)) ?_;rcases hxx:cF a c x with⟨rx,bx⟩;rw[hxx]at ox hst;simp only at ox hst;cases bx with
    |false=>
     simp only[fq,if_false]at hst;rw[hst,zW];simp+contextual-implicitDefEqProofs only[bne,bN,bU,bJ,Bool.or_self,eB,D.put,lC,lN,aC,Nat.zero_add,Nat.add_zero,List.append_nil,lK,lZ,bE,D.size,D.sizeL,bg,ak,List.getD_cons_zero,List.getD_cons_succ,List.drop_zero,List.take_succ_cons,List.take_zero,aq,af,go_sem]
     all_goals (try exact D.Le.refl _)
    |true=>
     have oxs:=ox.2 rfl;simp only[if_true]at hst;have a1:D.at [eE x,eE y] 1=eE y:=rfl;simp+contextual-implicitDefEqProofs only[a1,Nat.le_refl,bne,bT,bN,bU,Bool.or_self,eB,D.put,lC,lN,cU.sub,aC,aO,Nat.zero_add,Nat.add_zero,List.append_nil,lK,lZ,Int.cast_ofNat_Int,Int.reduceLT,Int.reduceLE,bE,Int.reduceToNat,D.size,D.sizeL,aI,ak,List.getD_cons_zero,List.getD_cons_succ,aq,af,go_sem];refine aa (ds:=[.sc (.int .i64 7),eE rx,eE y]) (by rfl) (Gz.sh hc3 7 (aO _) (aC _) (aO _) (aC _)) ?_;simp+contextual-implicitDefEqProofs only[Bool.or_self,D.put,lC,lN,Nat.zero_add,Nat.add_zero,lK,lZ,Int.cast_ofNat_Int,Int.reduceLT,Int.le_refl,bE,D.size,D.sizeL,aI,ak,List.getD_cons_zero,List.getD_cons_succ,aq,af,go_sem];refine aa (ds:=[.pt (eE x) 0,.sc (.int .i64 a)]) (by rfl) (hc4 g0 hg a ha0 ha1 x hx) ?_;have h7T:aD g0 (fE 7 rx y)=true:=by rw[fg (.inr rfl),ox.1,hy];rfl
     have h7S:au (fE 7 rx y)≤1801:=by rw[aM];simp only[aJ];omega
     cases hem:fO a x with
     |true=>
      rw[hem]at hst;simp only[if_true]at hst;simp+contextual-implicitDefEqProofs only[eB,lC,lN,Nat.zero_add,Nat.add_zero,lK,lZ,Int.cast_ofNat_Int,Int.reduceLT,Int.reduceLE,Int.reduceToNat,D.size,D.sizeL,aI,ak,List.getD_cons_zero,List.getD_cons_succ,go_sem];refine aa (ds:=[.pt (eE y) 0,.sc (.int .i64 a),.sc (.int .i64 c)]) (by rfl) (ih y (by omega) hy (by omega)) ?_;rcases hyy:cF a c y with⟨ry,bq⟩;rw[hyy]at oy hst;simp only at oy hst;cases bq with
      |false=>
       simp only[fq,if_false]at hst;rw[hst,qR];simp+contextual-implicitDefEqProofs only[bne,bN,bU,bJ,Bool.or_self,eB,D.put,lC,lN,aC,Nat.zero_add,Nat.add_zero,List.append_nil,lK,lZ,bE,D.size,D.sizeL,bg,ak,List.getD_cons_zero,List.getD_cons_succ,List.drop_zero,List.take_succ_cons,List.take_zero,aq,af,go_sem]
       all_goals (try exact D.Le.refl _)
      |true=>
       have oys:=oy.2 rfl;simp only[if_true]at hst;rw[hst];simp+contextual-implicitDefEqProofs only[bne,bT,bN,bU,Bool.or_self,eB,D.put,lC,lN,cU.sub,aC,aO,Nat.zero_add,Nat.add_zero,List.append_nil,lK,lZ,bE,D.size,D.sizeL,bg,ak,List.getD_cons_zero,List.getD_cons_succ,List.drop_zero,List.take_succ_cons,List.take_zero,aq,af,go_sem];refine aa (ds:=[.sc (.int .i64 6),.ag [.sc (.int .i64 7),.sc (.int .i64 0),.ls (some false) 3 [eE rx,eE y]],eE ry]) (by rfl) (Gz.sh hc3 6 rfl rfl (aO _) (aC _)) ?_;simp+contextual-implicitDefEqProofs only[Bool.or_self,D.put,lC,lN,Nat.zero_add,Nat.add_zero,lK,lZ,D.size,D.sizeL,ak,aq,af,go_sem];have hrT:aD g0 (fE 6 (fE 7 rx y) ry)=true:=by rw[fg (.inl rfl),h7T,oy.1];rfl
       have hrS:au (fE 6 (fE 7 rx y) ry)≤5000:=by rw[aM];simp only[aJ];omega
       have hR:eE (fE 6 (fE 7 rx y) ry)=.ag [.sc (.int .i64 6),.sc (.int .i64 0),.ls (some false) 3 [.ag [.sc (.int .i64 7),.sc (.int .i64 0),.ls (some false) 3 [eE rx,eE y]],eE ry]]:=by rw[qR,qR]
       refine aa (ds:=[.pt (eE (fE 6 (fE 7 rx y) ry)) 0]) (by rw[hR];rfl) (hc5 (fE 6 (fE 7 rx y) ry) (by omega)) ?_;unfold nV
       by_cases hsz:au (fE 6 (fE 7 rx y) ry)≤800
       ·have hgt:¬((800:Int)<(au (fE 6 (fE 7 rx y) ry):Int)):=by omega
        rw[if_pos hsz];simp+contextual-implicitDefEqProofs only[hgt,eI,lC,lN,go_sem];refine aa (ds:=[.pt (eE (fE 6 (fE 7 rx y) ry)) 0]) (by rw[hR];rfl) (hc6 g0 hg (fE 6 (fE 7 rx y) ry) hrT (by omega)) ?_;simp+contextual-implicitDefEqProofs only[Bool.or_self,D.put,cU.sub,aC,aO,Nat.zero_add,lK,lZ,bE,ak,aq,af,go_sem]
        all_goals (try exact D.Le.refl _)
       ·have hgt:(800:Int)<(au (fE 6 (fE 7 rx y) ry):Int):=by omega
        rw[if_neg hsz,hR];simp+contextual-implicitDefEqProofs only[hgt,Bool.or_self,eI,D.put,Nat.zero_add,Nat.add_zero,lK,lZ,bE,D.size,D.sizeL,bg,ak,List.drop_zero,List.take_succ_cons,List.take_zero,aq,af,go_sem]
        all_goals (try exact D.Le.refl _)
     |false=>
      rw[hem]at hst;simp only[fq,if_false]at hst;rw[hst];simp+contextual-implicitDefEqProofs only[eB,lC,lN,go_sem];have hrT:aD g0 (fE 7 rx y)=true:=h7T;have hrS:au (fE 7 rx y)≤5000:=by omega
      have hR:eE (fE 7 rx y)=.ag [.sc (.int .i64 7),.sc (.int .i64 0),.ls (some false) 3 [eE rx,eE y]]:=by rw[qR]
      refine aa (ds:=[.pt (eE (fE 7 rx y)) 0]) (by rw[hR];rfl) (hc5 (fE 7 rx y) (by omega)) ?_;unfold nV
      by_cases hsz:au (fE 7 rx y)≤800
      ·have hgt:¬((800:Int)<(au (fE 7 rx y):Int)):=by omega
       rw[if_pos hsz];simp+contextual-implicitDefEqProofs only[hgt,eI,lC,lN,go_sem];refine aa (ds:=[.pt (eE (fE 7 rx y)) 0]) (by rw[hR];rfl) (hc6 g0 hg (fE 7 rx y) hrT (by omega)) ?_;simp+contextual-implicitDefEqProofs only[Bool.or_self,D.put,cU.sub,aC,aO,Nat.zero_add,lK,lZ,bE,ak,aq,af,go_sem]
       all_goals (try exact D.Le.refl _)
      ·have hgt:(800:Int)<(au (fE 7 rx y):Int):=by omega
       rw[if_neg hsz,hR];simp+contextual-implicitDefEqProofs only[hgt,Bool.or_self,eI,D.put,Nat.zero_add,Nat.add_zero,lK,lZ,bE,D.size,D.sizeL,bg,ak,List.drop_zero,List.take_succ_cons,List.take_zero,aq,af,go_sem]
       all_goals (try exact D.Le.refl _)
   have d7:(k==7)=false:=beq_false_of_ne c7;rw[if_neg c7]at hst
   by_cases c8:k=8
   ·subst c8;rw[if_pos rfl]at hst;obtain⟨x,rfl⟩:=kU (dt hTe);have hx:=cA hTe x (by simp);have hs:1+au x=au e:=by rw[he,aM];simp[aJ]
    have ox:=dS (g:=g0) (a:=a) (c:=c) x hx;simp only[gj,wH]at hst;rw[←he]at hst;simp+contextual-implicitDefEqProofs only[d4,d6,d7,D.put,lC,lN,Nat.zero_add,Nat.add_zero,lK,lZ,Int.cast_ofNat_Int,Int.reduceLT,Int.le_refl,bE,D.size,D.sizeL,aI,ak,List.getD_cons_zero,List.getD_cons_succ,aq,af,go_sem];refine aa (ds:=[.pt (eE x) 0,.sc (.int .i64 a),.sc (.int .i64 c)]) (by rfl) (ih x (by omega) hx (by omega)) ?_;rcases hxx:cF a c x with⟨rx,bx⟩;rw[hxx]at ox hst;simp only at ox hst;cases bx with
    |false=>
     simp only[fq,if_false]at hst;rw[hst,zW];simp+contextual-implicitDefEqProofs only[bne,bN,bU,bJ,Bool.or_self,eB,D.put,lC,lN,aC,Nat.zero_add,Nat.add_zero,List.append_nil,lK,lZ,bE,D.size,D.sizeL,bg,ak,List.getD_cons_zero,List.getD_cons_succ,List.drop_zero,List.take_succ_cons,List.take_zero,aq,af,go_sem]
     all_goals (try exact D.Le.refl _)
    |true=>
     have oxs:=ox.2 rfl;simp only[if_true]at hst;rw[hst];simp+contextual-implicitDefEqProofs only[bne,bT,bN,bU,Bool.or_self,eB,D.put,lC,lN,cU.sub,aC,aO,Nat.zero_add,Nat.add_zero,List.append_nil,lK,lZ,bE,D.size,D.sizeL,bg,ak,List.getD_cons_zero,List.getD_cons_succ,List.drop_zero,List.take_succ_cons,List.take_zero,aq,af,go_sem];refine aa (ds:=[.sc (.int .i64 7),eE rx,eE e]) (by rw[hE];rfl) (Gz.sh hc3 7 (aO _) (aC _) (aO _) (aC _)) ?_;simp+contextual-implicitDefEqProofs only[Bool.or_self,D.put,lC,lN,Nat.zero_add,Nat.add_zero,lK,lZ,bE,D.size,D.sizeL,ak,aq,af,go_sem];have hrT:aD g0 (fE 7 rx e)=true:=by rw[fg (.inr rfl),ox.1,hT];rfl
     have hrS:au (fE 7 rx e)≤5000:=by rw[aM];simp only[aJ];omega
     have hR:eE (fE 7 rx e)=.ag [.sc (.int .i64 7),.sc (.int .i64 0),.ls (some false) 3 [eE rx,eE e]]:=by rw[qR]
     refine aa (ds:=[.pt (eE (fE 7 rx e)) 0]) (by rw[hR];rfl) (hc5 (fE 7 rx e) (by omega)) ?_;unfold nV
     by_cases hsz:au (fE 7 rx e)≤800
     ·have hgt:¬((800:Int)<(au (fE 7 rx e):Int)):=by omega
      rw[if_pos hsz];simp+contextual-implicitDefEqProofs only[hgt,eI,lC,lN,go_sem];refine aa (ds:=[.pt (eE (fE 7 rx e)) 0]) (by rw[hR];rfl) (hc6 g0 hg (fE 7 rx e) hrT (by omega)) ?_;simp+contextual-implicitDefEqProofs only[Bool.or_self,D.put,cU.sub,aC,aO,Nat.zero_add,lK,lZ,bE,ak,aq,af,go_sem]
      all_goals (try exact D.Le.refl _)
     ·have hgt:(800:Int)<(au (fE 7 rx e):Int):=by omega
      rw[if_neg hsz,hR];simp+contextual-implicitDefEqProofs only[hgt,Bool.or_self,eI,D.put,Nat.zero_add,Nat.add_zero,lK,lZ,bE,D.size,D.sizeL,bg,ak,List.drop_zero,List.take_succ_cons,List.take_zero,aq,af,go_sem]
      all_goals (try exact D.Le.refl _)
   have d8:(k==8)=false:=beq_false_of_ne c8;rw[if_neg c8]at hst;rw[hst,zW];simp+contextual-implicitDefEqProofs only[d4,d6,d7,d8,D.put,Nat.zero_add,Nat.add_zero,lK,lZ,bE,D.size,D.sizeL,bg,aI,ak,List.getD_cons_zero,List.drop_zero,List.take_succ_cons,List.take_zero,aq,af,go_sem]
   all_goals (try exact D.Le.refl _)
 exact fun e hT hle=>key _ e (Nat.le_refl _) hT hle

def Dm(a:Int)(x:Ex)(j:Nat)(L:List Ex)(row:List Int):Option (List Ex×List Int):=
  if(cF a j x).2=true then
    (if (cF a j x).1.k = 1 then some (L, row ++ [-1])
     else if mH L (cF a j x).1<0 then some (L++[(cF a j x).1],row++[(L.length:Int)])else some (L,row++[mH L (cF a j x).1]))
  else none
def lh(a:Int)(x:Ex)(L:List Ex):Nat→Option (List Ex×List Int)
 |0=>some (L,[])
 |j+1=>match lh a x L j with
  |some p=>Dm a x j p.1 p.2
  |none=>none
def Gy(x:Ex)(c k:Nat)(rows:List (List Int))(L:List Ex):Option (List Ex×List (List Int)):=
 match lh k x L c with
 |some p=>some (p.1,rows++[p.2])
 |none=>none
def jq(x:Ex)(L:List Ex)(c:Nat):Nat→Option (List Ex×List (List Int))
 |0=>some (L,[])
 |k+1=>match jq x L c k with
  |some p=>Gy x c k p.2 p.1
  |none=>none
def IK(m c i:Nat)(L:List Ex)(N:List (List (List Int))):Option (List Ex×List (List (List Int))):=
 if i<L.length then(match jq (L.getD i zE) L c m with
  |some p=>if p.1.length≤60 then some (p.1,N++[p.2])else none
  |none=>none)else some (L,N)
def gr(e:Ex)(m c:Nat):Nat→Option (List Ex×List (List (List Int)))
 |0=>some ([df e],[])
 |i+1=>match gr e m c i with
  |some p=>IK m c i p.1 p.2
  |none=>none
def iO(e:Ex)(m c:Nat):(List Ex×List (List (List Int)))×Int:=
 match gr e m c 61 with
 |some p=>(p,0)
 |none=>(([],[]),3)
def Dy(g:Int×Int)(x:Ex):Prop:=aD g x=true∧au x≤800
theorem FR{g:Int×Int}{a:Int}{x:Ex}{j:Nat}{L L':List Ex}{row row':List Int}(hx:aD g x=true)(hL:∀y∈L,Dy g y)(h:Dm a x j L row=some (L',row')):
  (∀y∈L',Dy g y)∧(∃t,L'=L++t∧t.length≤1)∧∃v:Int,row'=row++[v]∧(v= -1∨(0≤v∧v<L'.length∧qE (L'.getD v.toNat zE) (cF a j x).1=true)):=by
 have hs:=dS (g:=g) (a:=a) (c:=(j:Int)) x hx;unfold Dm at h
 split at h
 ·rename_i h2
  have hs2:=hs.2 h2
  split at h
  ·obtain⟨rfl,rfl⟩:=Prod.mk.inj (Option.some.inj h);exact⟨hL,⟨[],by simp,by simp⟩,_,rfl,.inl rfl⟩
  ·split at h
   ·obtain⟨rfl,rfl⟩:=Prod.mk.inj (Option.some.inj h);refine⟨fun y hy=>?_,⟨[_],rfl,by simp⟩,_,rfl,.inr ⟨by omega,by simp;omega,?_⟩⟩
    ·rcases List.mem_append.1 hy with hy|hy
     ·exact hL y hy
     ·rw[List.mem_singleton]at hy;subst hy;exact⟨hs.1,hs2⟩
    ·rw[List.getD_eq_getElem?_getD];simp[E6]
   ·rename_i hf
    obtain⟨rfl,rfl⟩:=Prod.mk.inj (Option.some.inj h);refine⟨hL,⟨[],by simp,by simp⟩,_,rfl,.inr ⟨by omega,?_⟩⟩;unfold mH at hf⊢;cases hq:L.findIdx? (fun x_1=>qE x_1 (cF a j x).1)with
    |none=>rw[hq]at hf;simp at hf
    |some i=>
     obtain⟨hi,h1,_⟩:=List.findIdx?_eq_some_iff_getElem.1 hq;simp only;refine⟨by omega,?_⟩;rw[Int.toNat_natCast,List.getD_eq_getElem?_getD,List.getElem?_eq_getElem hi];exact h1
 ·cases h
theorem sj{g:Int×Int}{a:Int}{x:Ex}{L:List Ex}(hx:aD g x=true)(hL:∀y∈L,Dy g y):∀{j:Nat} {p:List Ex×List Int},lh a x L j=some p→
  (∀y∈p.1,Dy g y)∧(∃t,p.1=L++t∧t.length≤j)∧p.2.length=j∧∀(i:Nat)(v:Int),p.2[i]?=some v→v= -1∨(0≤v∧v<p.1.length∧qE (p.1.getD v.toNat zE) (cF a i x).1=true)
 |0,p,h=>by
  obtain rfl:=Option.some.inj h;exact⟨hL,⟨[],by simp,by simp⟩,rfl,fun i v h=>by simp at h⟩
 |j+1,p,h=>by
  simp only[lh]at h
  split at h
  ·rename_i p0 h0
   obtain⟨h1,⟨t,h2,h3⟩,h4,h5⟩:=sj hx hL h0;obtain⟨L',row'⟩:=p;obtain⟨i1,⟨t',i2,i3⟩,v,i4,i5⟩:=FR hx h1 h;simp only;refine⟨i1,⟨t++t',by rw[i2,h2,List.append_assoc],by rw[lP];omega⟩,by rw[i4,lP,h4];rfl,fun i w hw=>?_⟩;rw[i4]at hw
   by_cases hi:i<p0.2.length
   ·rw[List.getElem?_append_left hi]at hw;rcases h5 i w hw with h|⟨h6,h7,h8⟩
    ·exact .inl h
    ·refine .inr ⟨h6,by rw[i2,lP];omega,?_⟩;rw[i2,List.getD_eq_getElem?_getD,List.getElem?_append_left (by omega),←List.getD_eq_getElem?_getD];exact h8
   ·rw[List.getElem?_append_right (by omega)]at hw;have:i=j:=by
     have:=(List.getElem?_eq_some_iff.1 hw).1;simp at this;omega
    subst this;rw[h4,Nat.sub_self]at hw;simp at hw;subst hw;exact i5
  ·cases h

def jy(x:Ex)(L:List Ex)(c:Nat)(rows:List (List Int)):Prop:=∀(k:Nat)(r:List Int),rows[k]?=some r→r.length=c∧∀(i:Nat)(v:Int),r[i]?=some v→v= -1∨(0≤v∧v<L.length∧qE (L.getD v.toNat zE) (cF (k:Int) i x).1=true)
theorem jy.app{x:Ex}{L t:List Ex}{c:Nat}{rows:List (List Int)}(h:jy x L c rows):jy x (L++t) c rows:=fun k r hr=>by
 refine⟨(h k r hr).1,fun i v hv=>?_⟩;rcases(h k r hr).2 i v hv with h|⟨h6,h7,h8⟩
 ·exact .inl h
 ·refine .inr ⟨h6,by rw[lP];omega,?_⟩;rw[List.getD_eq_getElem?_getD,List.getElem?_append_left (by omega),←List.getD_eq_getElem?_getD];exact h8
theorem ti{g:Int×Int}{x:Ex}{L:List Ex}{c:Nat}(hx:aD g x=true)(hL:∀y∈L,Dy g y):∀{k:Nat} {p:List Ex×List (List Int)},jq x L c k=some p→
  (∀y∈p.1,Dy g y)∧(∃t,p.1=L++t∧t.length≤k*c)∧p.2.length=k∧jy x p.1 c p.2
 |0,p,h=>by
  obtain rfl:=Option.some.inj h;exact⟨hL,⟨[],by simp,by simp⟩,rfl,fun i v h=>by simp at h⟩
 |k+1,p,h=>by
  simp only[jq]at h
  split at h
  ·rename_i p0 h0
   obtain⟨h1,⟨t,h2,h3⟩,h4,h5⟩:=ti hx hL h0;unfold Gy at h
   split at h
   ·rename_i q hq
    obtain rfl:=Option.some.inj h;obtain⟨i1,⟨t',i2,i3⟩,i4,i5⟩:=sj hx h1 hq;simp only;refine⟨i1,⟨t++t',by rw[i2,h2,List.append_assoc],by rw[lP,Nat.add_mul];omega⟩,by rw[lP,h4];rfl,fun i r hr=>?_⟩
    by_cases hi:i<p0.2.length
    ·rw[List.getElem?_append_left hi]at hr;have:=(h5.app (t:=t')) i r hr;rw[←i2]at this;exact this
    ·rw[List.getElem?_append_right (by omega)]at hr;have:i=k:=by
      have:=(List.getElem?_eq_some_iff.1 hr).1;simp at this;omega
     subst this;rw[h4,Nat.sub_self]at hr;simp at hr;subst hr;exact⟨i4,i5⟩
   ·cases h
  ·cases h

structure FJ (g:Int×Int) (e:Ex) (m c:Nat) (L:List Ex) (N:List (List (List Int))):Prop where
 ok:∀y∈L,Dy g y
 hd:L.head?=some (df e)
 len:L.length≤60
 le:N.length≤L.length
 rows:∀(i:Nat)(rs:List (List Int)),N[i]?=some rs→rs.length=m∧jy (L.getD i zE) L c rs
theorem oV{g:Int×Int}{e:Ex}{m c:Nat}(he:aD g e=true)(hs:au e≤800):∀{i:Nat} {p:List Ex×List (List (List Int))},gr e m c i=some p→FJ g e m c p.1 p.2∧(p.2.length=i∨(p.2.length<i∧p.2.length=p.1.length))
 |0,p,h=>by
  obtain rfl:=Option.some.inj h;have:=dT e he;refine⟨⟨fun y hy=>?_,rfl,by simp,by simp,fun i rs h=>by simp at h⟩,.inl rfl⟩;rw[List.mem_singleton]at hy;subst hy;exact⟨this.1,by omega⟩
 |i+1,p,h=>by
  simp only[gr]at h
  split at h
  ·rename_i p0 h0
   obtain⟨h1,h2⟩:=oV he hs h0;unfold IK at h
   split at h
   ·rename_i hi
    have hN:p0.2.length=i:=by rcases h2 with h2|⟨h2,h3⟩<;>omega
    split at h
    ·rename_i q hq
     split at h
     ·rename_i h60
      obtain rfl:=Option.some.inj h;have hxx:=h1.ok (p0.1.getD i zE) (by rw[List.getD_eq_getElem?_getD,List.getElem?_eq_getElem hi];exact List.getElem_mem hi);obtain⟨i1,⟨t,i2,i3⟩,i4,i5⟩:=ti hxx.1 h1.ok hq;have hg:∀k,k<p0.1.length→q.1.getD k zE=p0.1.getD k zE:=fun k hk=>by rw[i2,List.getD_eq_getElem?_getD,List.getElem?_append_left hk,←List.getD_eq_getElem?_getD]
      have hh:=h1.hd;simp only;refine⟨⟨i1,?_,h60,by rw[lP,i2,lP];simp;omega,fun k rs hr=>?_⟩,.inl (by rw[lP,hN];rfl)⟩
      ·rw[i2];cases hp:p0.1 with
       |nil=>rw[hp]at hi;simp at hi
       |cons z zs=>rw[hp]at hh;simpa using hh
      ·by_cases hk:k<p0.2.length
       ·rw[List.getElem?_append_left hk]at hr;have:=h1.rows k rs hr;rw[hg k (by omega),i2];exact⟨this.1,this.2.app⟩
       ·rw[List.getElem?_append_right (by omega)]at hr;have:k=i:=by
         have:=(List.getElem?_eq_some_iff.1 hr).1;simp at this;omega
        subst this;rw[hN,Nat.sub_self]at hr;simp at hr;subst hr;rw[hg k hi];exact⟨i4,i5⟩
     ·cases h
    ·cases h
   ·rename_i hi
    obtain rfl:=Option.some.inj h;have:=h1.le;refine⟨h1,.inr ?_⟩;simp only;rcases h2 with h2|⟨h2,h3⟩<;>omega
  ·cases h
theorem sV{a:Int}{x:Ex}{L:List Ex}{i:Nat}(h:lh a x L i=none):∀{k:Nat},i≤k→lh a x L k=none
 |0,hk=>by
  obtain rfl:i=0:=by omega
  exact h
 |k+1,hk=>by
  by_cases e1:i=k+1
  ·rw[←e1];exact h
  ·simp only[lh,sV h (show i≤k by omega)]
theorem tf{x:Ex}{L:List Ex}{c i:Nat}(h:jq x L c i=none):∀{k:Nat},i≤k→jq x L c k=none
 |0,hk=>by
  obtain rfl:i=0:=by omega
  exact h
 |k+1,hk=>by
  by_cases e1:i=k+1
  ·rw[←e1];exact h
  ·simp only[jq,tf h (show i≤k by omega)]
theorem qD{e:Ex}{m c i:Nat}(h:gr e m c i=none):∀{k:Nat},i≤k→gr e m c k=none
 |0,hk=>by
  obtain rfl:i=0:=by omega
  exact h
 |k+1,hk=>by
  by_cases e1:i=k+1
  ·rw[←e1];exact h
  ·simp only[gr,qD h (show i≤k by omega)]
theorem vf{e:Ex}{m c i:Nat}{p:List Ex×List (List (List Int))}(h:gr e m c i=some p)(hi:p.1.length≤i):∀{k:Nat},i≤k→gr e m c k=some p
 |0,hk=>by
  obtain rfl:i=0:=by omega
  exact h
 |k+1,hk=>by
  by_cases e1:i=k+1
  ·rw[←e1];exact h
  ·simp only[gr,vf h hi (show i≤k by omega)];unfold IK;rw[if_neg (by omega)]
theorem je{e:Ex}{m c:Nat}(h:gr e m c 61=none):iO e m c=(([],[]),3):=by unfold iO;rw[h]
theorem lR{e:Ex}{m c:Nat}{p:List Ex×List (List (List Int))}(h:gr e m c 61=some p):iO e m c=(p,0):=by unfold iO;rw[h]
theorem pF{e:Ex}{m c i:Nat}{p:List Ex×List (List (List Int))}(h:gr e m c i=some p):gr e m c (i+1)=IK m c i p.1 p.2:=by simp only[gr,h]
theorem BN{e:Ex}{m c:Nat}:gr e m c 0=some ([df e],[]):=rfl
attribute [irreducible] gr
def fm(r:List Int):D:=.ls (some false) 1 (r.map eI)
def eY(r:List (List Int)):D:=.ls (some false) 1 (r.map fm)

def lr(f1 f2 f3 f4:Nat):RC:=(.seq (.r [.b 2 2 0,.o (.mv 4 (.c (.ls (some true) 3 []))),.o (.mv 5 (.c (.ls (some true) 1 []))),.v 6 (.ci 0)]) (.seq (.r [.m 18 1,.c 19 f1 [.t 18],.o (.bss 20 3 1 [(0,(.t 19))]),.m 7 20]) (.seq (.r [.o (.bs 21 1 (.ls (some true) 1 []) 0 []),.m 8 21]) (.seq (.seq (.r [.v 9 (.ci 0)]) (.blk 0 (.loop (.seq (.seq (.r [.m 22 9,.m 23 7,.o (.len 24 (.t 23)),.o (.bin 25 .lss (.t 22) (.t 24))]) (.cond (.t 25) .skip (.exit 0))) (.seq (.blk 1 (.seq (.r [.o (.bs 28 1 (.ls (some true) 1 []) 0 []),.m 10 28]) (.seq (.seq (.r [.v 11 (.ci 0)]) (.blk 2 (.loop (.seq (.seq (.r [.m 29 11,.L 30 2 2,.c 31 f2 [.t 30],.o (.bin 32 .lss (.t 29) (.t 31))]) (.cond (.t 32) .skip (.exit 2))) (.seq (.blk 3 (.seq (.r [.o (.bs 35 1 (.sc (.int .i64 0)) 0 []),.m 12 35]) (.seq (.seq (.r [.v 13 (.ci 0)]) (.blk 4 (.loop (.seq (.seq (.r [.m 36 13,.f 37 1 2,.l 38 1 37,.o (.bin 39 .lss (.t 36) (.t 38))]) (.cond (.t 39) .skip (.exit 4))) (.seq (.blk 5 (.seq (.r [.m 42 7,.m 43 9,.o (.ia 44 3 (.t 42) (.t 43)),.L 45 3 44,.o (.zer 14 3 .ze),.o (.stp 3 (.t 14) (.t 45))]) (.seq (.r [.m 47 11,.m 48 13,.o (.lcl (some 49) f3 [.t 14,.t 47,.t 48]),.m 46 49,.o (.ext 50 (.t 46) 0),.o (.ext 51 (.t 46) 1),.o (.zer 15 3 .ze),.o (.stp 3 (.t 15) (.t 50)),.m 16 51]) (.seq (.r [.o (.mv 17 (.c (.sc (.int .i64 (-1)))))]) (.seq (.seq (.r [.m 52 16,.o (.un 53 .not (.t 52))]) (.cond (.t 53) (.seq (.r [.o (.bss 54 3 0 []),.o (.bs 55 1 (.ls (some true) 1 []) 0 []),.m 4 54,.m 5 55,.v 6 (.ci 3)]) .ret) .skip)) (.seq (.seq (.r [.f 56 0 15,.l 57 1 56,.o (.bin 58 .neq (.t 57) (.ci 1))]) (.cond (.t 58) (.seq (.r [.m 59 7,.c 60 f4 [.t 59,.t 15],.m 17 60]) (.seq (.r [.m 61 17,.o (.bin 62 .lss (.t 61) (.ci 0))]) (.cond (.t 62) (.seq (.r [.m 63 7,.o (.len 64 (.t 63)),.m 17 64]) (.r [.m 65 7,.L 66 3 15,.o (.bss 67 3 1 [(0,(.t 66))]),.o (.aps 68 3 40 (.t 65) (.t 67)),.m 7 68])) .skip))) .skip)) (.r [.m 69 12,.m 70 17,.o (.bs 71 1 (.sc (.int .i64 0)) 1 [(0,(.t 70))]),.o (.app 72 1 8 (.t 69) (.t 71)),.m 12 72]))))))) (.r [.m 40 13,.o (.bin 41 .add (.t 40) (.ci 1)),.m 13 41])))))) (.r [.m 73 10,.m 74 12,.o (.bs 75 1 (.ls (some true) 1 []) 1 [(0,(.t 74))]),.o (.app 76 1 24 (.t 73) (.t 75)),.m 10 76])))) (.r [.m 33 11,.o (.bin 34 .add (.t 33) (.ci 1)),.m 11 34])))))) (.seq (.r [.m 77 8,.m 78 10,.o (.bs 79 1 (.ls (some true) 1 []) 1 [(0,(.t 78))]),.o (.app 80 1 24 (.t 77) (.t 79)),.m 8 80]) (.seq (.r [.m 81 7,.o (.len 82 (.t 81)),.o (.bin 83 .gtr (.t 82) (.ci 60))]) (.cond (.t 83) (.seq (.r [.o (.bss 84 3 0 []),.o (.bs 85 1 (.ls (some true) 1 []) 0 []),.m 4 84,.m 5 85,.v 6 (.ci 3)]) .ret) .skip)))))) (.r [.m 26 9,.o (.bin 27 .add (.t 26) (.ci 1)),.m 9 27])))))) (.seq (.r [.m 86 7,.m 87 8,.m 4 86,.m 5 87,.v 6 (.ci 0)]) .ret)))))
def kL(P:Program)(fno:Nat):Prop:=∀(g0:Int×Int)(_:fH g0=true)(e:Ex),aD g0 e=true→au e≤800→AF P fno [eG g0,.pt (eE e) 0] (.tup [.sh (.ls (some false) 3 ((iO e (bu g0).toNat g0.2.toNat).1.1.map eE)),.own (.ls (some false) 1 ((iO e (bu g0).toNat g0.2.toNat).1.2.map eY)),.own (eI (iO e (bu g0).toNat g0.2.toNat).2)])
theorem xJ{P:Program}(hm:P.follows .mixedOrders=true){g f1 f2 f3 f4:Nat}(hr:fc P .sb g=some (88,lr f1 f2 f3 f4,[.t 4,.t 5,.t 6]))(hc1:mg P f1)(hc2:gf P f2)(hc3:pH P f3)(hc4:px P f4):kL P g:=by
 intro g0 hg e hT hsz;obtain⟨g1,g2⟩:=g0;have hgi:=dB hg;simp only at hgi;have hat:=kN hg;obtain⟨C,rfl⟩:∃C:Nat,g2=C:=⟨g2.toNat,by omega⟩;obtain⟨M,hM⟩:∃M:Nat,bu (g1,(C:Int))=M:=⟨(bu (g1,(C:Int))).toNat,by omega⟩;have hAt:=hc2 (g1,(C:Int)) hg;rw[hM]at hAt hat⊢;simp only[Int.toNat_natCast];have hT0:=dT e hT;refine uc hr hm rfl fun hb=>?_;simp+contextual-implicitDefEqProofs only[lr,eG,eI,lC,lN,Nat.zero_add,Nat.add_zero,List.append_nil,D.size,D.sizeL,go_sem];refine aa (ds:=[.pt (eE e) 0]) (by rfl) (hc1 (g1,(C:Int)) hg e hT (by omega)) ?_;simp+contextual-implicitDefEqProofs only[List.range_zero,List.mem_singleton,lC,lN,aC,bE,go_sem,Nat.reduceMul];refine bB (α:=Nat×List Ex×List (List (List Int))) [4,5,6,7,8,9,10,11,12,13,14,15,16,17,20,21,22,23,24,25,26,27,28,29,30,31,32,33,34,35,36,37,38,39,40,41,42,43,44,45,46,47,48,50,51,52,53,55,56,57,58,59,60,61,62,63,64,65,66,69,70,71,72,73,74,75,76,77,78,79,80,81,82,83,85] (fun p=>[(9,.im none (.sc (.int .i64 p.1))),(7,.sm 20 0 p.2.1.length),(8,.sm 21 0 p.2.2.length)]) (fun p=>[(2,.ar false (some false) 2 [.ag [.sc (.int .i64 g1),.sc (.int .i64 C)]]),(20,.ar false (some false) 3 (p.2.1.map eE)),(21,.ar true (some false) 1 (p.2.2.map eY))]) (fun p=>p.1≤p.2.1.length∧p.2.2.length=p.1∧gr e M C p.1=some (p.2.1,p.2.2)) (fun p=>61-p.1) (0,[df e],[]) (bf.to [] (by simp only[go_sem];rfl) rfl (by simp) (by rfl) (by simp only[an,go_sem,keep,cH]<;>simp)) ⟨Nat.zero_le _,rfl,BN⟩ ?_
 rintro⟨i,L,N⟩ ⟨hi0,hN,hst⟩;simp only at hi0 hN hst⊢;have hk:=oV hT hsz hst;have hk60:=hk.1.len;simp only at hk60
 by_cases hi:i<L.length
 ·have hx0:aD (g1,(C:Int)) (L.getD i zE)=true:=(hk.1.ok _ (by rw[List.getD_eq_getElem?_getD,List.getElem?_eq_getElem hi];exact List.getElem_mem hi)).1;simp+contextual-implicitDefEqProofs only[hi,lN,go_sem,iL];refine bB (α:=Nat×List Ex×List (List Int)) [4,5,6,7,10,11,12,13,14,15,16,17,23,28,29,30,31,32,33,34,35,36,37,38,39,40,41,42,43,44,45,46,47,48,50,51,52,53,55,56,57,58,59,60,61,62,63,64,65,66,69,70,71,72,73,74,75,76] (fun q=>[(11,.im none (.sc (.int .i64 q.1))),(7,.sm 20 0 q.2.1.length),(10,.sm 28 0 q.2.2.length)]) (fun q=>[(2,.ar false (some false) 2 [.ag [.sc (.int .i64 g1),.sc (.int .i64 C)]]),(20,.ar false (some false) 3 (q.2.1.map eE)),(21,.ar true (some false) 1 (N.map eY)),(28,.ar true (some false) 1 (q.2.2.map fm))]) (fun q=>q.1≤M∧q.2.2.length=q.1∧jq (L.getD i zE) L C q.1=some (q.2.1,q.2.2)) (fun q=>M-q.1) (0,L,[]) (bf.to [] (by simp only[go_sem];rfl) rfl (by simp) (by rfl) (by simp only[an,go_sem,keep,cH]<;>simp)) ⟨Nat.zero_le _,rfl,rfl⟩ ?_;rintro⟨k,L1,R⟩ ⟨hk0,hR,hro⟩;simp only at hk0 hR hro⊢;have o1:=ti hx0 hk.1.ok hro;simp only at o1;have hkC:k*C≤32:=Nat.le_trans (Nat.mul_le_mul (show k≤8 by omega) (show C≤4 by omega)) (by decide)
  by_cases hkM:k<M
  ·have hkM':(k:Int)<(M:Int):=by omega
   simp+contextual-implicitDefEqProofs only[lC,lN,Nat.zero_add,bg,ak,List.drop_zero,List.take_succ_cons,List.take_zero,go_sem];refine aa (ds:=[eG (g1,(C:Int))]) (by rfl) hAt ?_;simp+contextual-implicitDefEqProofs only[hkM',eI,lN,go_sem];refine bB (α:=Nat×List Ex×List Int) [4,5,6,7,12,13,14,15,16,17,35,36,37,38,39,40,41,42,43,44,45,46,47,48,50,51,52,53,55,56,57,58,59,60,61,62,63,64,65,66,69,70,71,72] (fun r=>[(13,.im none (.sc (.int .i64 r.1))),(7,.sm 20 0 r.2.1.length),(12,.sm 35 0 r.2.2.length)]) (fun r=>[(2,.ar false (some false) 2 [.ag [.sc (.int .i64 g1),.sc (.int .i64 C)]]),(20,.ar false (some false) 3 (r.2.1.map eE)),(21,.ar true (some false) 1 (N.map eY)),(28,.ar true (some false) 1 (R.map fm)),(35,.ar true (some false) 1 (r.2.2.map eI))]) (fun r=>r.1≤C∧r.2.2.length=r.1∧lh k (L.getD i zE) L1 r.1=some (r.2.1,r.2.2)) (fun r=>C-r.1) (0,L1,[]) (bf.to [] (by simp only[go_sem];rfl) rfl (by simp) (by rfl) (by simp only[an,go_sem,keep,cH]<;>simp)) ⟨Nat.zero_le _,rfl,rfl⟩ ?_;rintro⟨j,L2,row⟩ ⟨hj0,hrow,hac⟩;simp only at hj0 hrow hac⊢;have o2:=sj hx0 o1.1 hac;simp only at o2;have hl2:L.length≤L2.length∧L2.length≤96:=by
    obtain⟨_,⟨t1,e1,l1⟩,_⟩:=o1;obtain⟨_,⟨t2,e2,l2⟩,_⟩:=o2;rw[e2,e1,lP,lP];omega
   have hgx:L2.getD i zE=L.getD i zE:=by
    obtain⟨_,⟨t1,e1,l1⟩,_⟩:=o1;obtain⟨_,⟨t2,e2,l2⟩,_⟩:=o2;rw[e2,e1,List.append_assoc,List.getD_eq_getElem?_getD,List.getElem?_append_left hi,←List.getD_eq_getElem?_getD]
   have hi2:i<L2.length:=by omega
   have ai:D.at (L2.map eE) i=eE (L.getD i zE):=by rw[←hgx];exact cO hi2
   have hxs:au (L.getD i zE)≤800:=(hk.1.ok _ (by rw[List.getD_eq_getElem?_getD,List.getElem?_eq_getElem hi];exact List.getElem_mem hi)).2
   by_cases hjC:j<C
   ·have hjC':(j:Int)<(C:Int):=by omega
    simp+contextual-implicitDefEqProofs only[hjC',hi2,ai,D.put,cU.sub,aC,aO,Int.toNat_natCast,Nat.zero_add,Nat.add_zero,lK,lZ,bE,D.size,D.sizeL,aI,ak,List.getD_cons_zero,List.getD_cons_succ,aq,af,go_sem,iL,iN];have hka:=hc3 (g1,(C:Int)) hg (k:Int) (j:Int) (by omega) (by omega) (L.getD i zE) hx0 (by omega);have haF:∀v,Dm k (L.getD i zE) j L2 row=v→lh k (L.getD i zE) L1 (j+1)=v:=fun v hv=>by simp only[lh,hac,hv]
    unfold Dm at haF;have hso:=dS (g:=(g1,(C:Int))) (a:=(k:Int)) (c:=(j:Int)) _ hx0;generalize hxg:L.getD i zE=x at*;rcases hsx:cF k j x with⟨d,ok⟩;rw[hsx]at hka haF hso;simp only at hka haF hso;refine Hm _ (bf.frz _ 14 (u:=.ar false (some false) 3 [eE x]) (by rfl) rfl) ?_;simp+contextual-implicitDefEqProofs only[lC,lN,go_sem];refine aa (ds:=[.pt (eE x) 0,.sc (.int .i64 k),.sc (.int .i64 j)]) (by rfl) hka ?_;cases ok with
    |false=>
     simp only[fq,if_false]at haF;have h1:=haF _ rfl;have hnone:gr e M C (i+1)=none:=by
      have a1:lh k x L1 C=none:=sV h1 (by omega);have a2:jq x L C (k+1)=none:=by simp only[jq,hro,Gy,a1]
      have a3:jq x L C M=none:=tf a2 (by omega);rw[pF hst];simp only[IK,if_pos hi,hxg,a3]
     have hR:iO e M C=(([],[]),3):=je (qD hnone (by omega));rw[hR];simp+contextual-implicitDefEqProofs only[bne,bN,bU,List.range_zero,List.not_mem_nil,Bool.or_self,eB,D.put,lC,lN,aC,Nat.zero_add,Nat.add_zero,List.append_nil,lK,lZ,bE,D.size,D.sizeL,ak,List.getD_cons_zero,List.getD_cons_succ,aq,af,go_sem,Nat.reduceMul];refine⟨_,bf.frz _ 54 (u:=.ar false (some false) 3 []) (by rfl) rfl,?_⟩;simp+contextual-implicitDefEqProofs only[bU,Bool.or_self,lZ,bE,go_sem]
    |true=>
     simp only[if_true]at haF;have hso2:=hso.2 rfl;obtain⟨dk,dn,dnn,dks,hd⟩:=Ex.ex d;have hD:eE d=.ag [eI dk,eI dn,.ls dnn 3 (dks.map eE)]:=by rw[hd,bc];rfl
     have hdk:d.k=dk:=by rw[hd];rfl
     rw[hdk]at haF;rw[hD];have htk:List.take L2.length (List.map eE L2)=List.map eE L2:=List.take_of_length_le (by rw[lM];exact Nat.le_refl _)
     by_cases e1:dk=1
     ·have b1:(dk==1)=true:=by simp[e1]
      rw[if_pos e1]at haF;have h1:=haF _ rfl;simp+contextual-implicitDefEqProofs only[b1,bne,bT,bN,bI,bU,bJ,List.range_zero,List.mem_singleton,List.any_cons,List.any_nil,Bool.or_self,eI,eB,D.put,lC,lN,Nat.zero_add,Nat.add_zero,List.append_nil,lK,lZ,bE,D.size,D.sizeL,aI,ak,List.getD_cons_zero,List.getD_cons_succ,aq,af,lM,go_sem,Nat.reduceMul];refine⟨⟨by omega,by unfold aT;omega⟩,(j+1,L2,row++[-1]),⟨by omega,by rw[lP,hrow];rfl,h1⟩,by omega,?_⟩;rw[aj (by omega) (by omega)];exact bf.to [15,71] (by simp only[go_sem];rfl) rfl (by simp[eI]) (by rfl) (by simp only[an,go_sem]<;>simp)
     ·have b1:(dk==1)=false:=beq_false_of_ne e1;rw[if_neg e1]at haF;simp+contextual-implicitDefEqProofs only[b1,bne,bT,bN,bI,bU,bJ,Bool.or_self,eI,eB,D.put,lC,lN,Nat.zero_add,Nat.add_zero,List.append_nil,lK,lZ,bE,D.size,D.sizeL,aI,ak,List.getD_cons_zero,List.getD_cons_succ,aq,af,go_sem];refine aa (ds:=[.ls (some false) 3 (L2.map eE),.pt (eE d) 0]) (by rw[hD];simp only[St.unit,dm,AV.arg,go_sem,lM,htk,eI]) (hc4 (some false) L2 d (by omega)) ?_
      by_cases hf:mH L2 d<0
      ·rw[if_pos hf]at haF;have h1:=haF _ rfl;simp+contextual-implicitDefEqProofs only[hf,bne,bT,bN,bI,bU,List.range_zero,List.mem_singleton,List.any_cons,List.any_nil,Bool.or_self,eI,lC,lN,Nat.zero_add,Nat.add_zero,lK,lZ,bE,D.size,D.sizeL,bg,ak,List.drop_zero,List.take_succ_cons,List.take_zero,aq,af,lM,go_sem,Nat.reduceMul];have hL:List.map eE (L2++[d])=List.map eE L2++[.ag [eI dk,eI dn,.ls dnn 3 (dks.map eE)]]:=by rw[List.map_append,lC,lN,hD]
       refine⟨⟨by omega,by unfold aT;omega⟩,⟨by omega,by unfold aT;omega⟩,(j+1,L2++[d],row++[(L2.length:Int)]),⟨by omega,by rw[lP,hrow];rfl,h1⟩,by omega,?_⟩;rw[aj (by omega) (by omega)];exact bf.to [15,67,71] (by simp only[go_sem];rfl) rfl (by simp[eI,hD]) (by rfl) (by simp only[an,go_sem]<;>simp)
      ·rw[if_neg hf]at haF;have h1:=haF _ rfl;simp+contextual-implicitDefEqProofs only[hf,bne,bT,bN,bU,List.range_zero,List.mem_singleton,List.any_cons,List.any_nil,Bool.or_self,eI,lC,lN,Nat.zero_add,lK,lZ,bE,D.size,aq,af,lM,go_sem,Nat.reduceMul];refine⟨⟨by omega,by unfold aT;omega⟩,(j+1,L2,row++[mH L2 d]),⟨by omega,by rw[lP,hrow];rfl,h1⟩,by omega,?_⟩;rw[aj (by omega) (by omega)];exact bf.to [15,71] (by simp only[go_sem];rfl) rfl (by simp[eI]) (by rfl) (by simp only[an,go_sem]<;>simp)
   ·obtain rfl:j=C:=by omega
    have h1:jq (L.getD i zE) L j (k+1)=some (L2,R++[row]):=by simp only[jq,hro,Gy,hac]
    simp+contextual-implicitDefEqProofs only[hrow,Int.lt_irrefl,List.range_zero,List.mem_singleton,List.any_cons,List.any_nil,Bool.or_false,Bool.or_self,lC,lN,Nat.zero_add,lK,lZ,bE,D.size,aI,ak,List.getD_cons_zero,List.getD_cons_succ,aq,af,lM,go_sem,Nat.reduceMul];refine⟨⟨by omega,by unfold aT;omega⟩,(k+1,L2,R++[row]),⟨by omega,by rw[lP,hR];rfl,h1⟩,by omega,?_⟩;rw[aj (by omega) (by omega)];exact bf.to [75] (by simp only[go_sem];rfl) rfl (by simp[fm]) (by rfl) (by simp only[an,go_sem]<;>simp)
  ·obtain rfl:k=M:=by omega
   simp+contextual-implicitDefEqProofs only[lC,lN,Nat.zero_add,bg,ak,List.drop_zero,List.take_succ_cons,List.take_zero,go_sem];refine aa (ds:=[eG (g1,(C:Int))]) (by rfl) hAt ?_;simp+contextual-implicitDefEqProofs only[Int.lt_irrefl,List.range_zero,List.not_mem_nil,List.mem_singleton,List.any_cons,List.any_nil,Bool.or_false,Bool.or_self,eI,lC,lN,Nat.zero_add,lK,lZ,bE,D.size,aq,af,lM,go_sem,Nat.reduceMul];have hl1:L.length≤L1.length:=by
    obtain⟨_,⟨t1,e1,l1⟩,_⟩:=o1;rw[e1,lP];omega
   refine⟨⟨by omega,by unfold aT;omega⟩,fun hgt=>?_,fun hle=>?_⟩
   ·have hnone:gr e k C (i+1)=none:=by
     rw[pF hst];simp only[IK,if_pos hi,hro];rw[if_neg (by omega)]
    have hRR:iO e k C=(([],[]),3):=je (qD hnone (by omega));rw[hRR];refine⟨_,bf.frz _ 84 (u:=.ar false (some false) 3 []) (by rfl) rfl,?_⟩;simp+contextual-implicitDefEqProofs only[lN,lZ,bE,go_sem]
   ·have h1:gr e k C (i+1)=some (L1,N++[R]):=by
     rw[pF hst];simp only[IK,if_pos hi,hro];rw[if_pos (by omega)]
    refine⟨(i+1,L1,N++[R]),⟨by simp only;omega,by rw[lP,hN];rfl,h1⟩,by simp only;omega,?_⟩;rw[aj (by omega) (by omega)];exact bf.to [79] (by simp only[go_sem];rfl) rfl (by simp[eY]) (by rfl) (by simp only[an,go_sem]<;>simp)
 ·obtain rfl:i=L.length:=by omega
  have hR:iO e M C=((L,N),0):=lR (vf hst (Nat.le_refl _) (by omega));rw[hR];simp+contextual-implicitDefEqProofs only[Int.lt_irrefl,go_sem];refine⟨_,bf.frz _ 20 (u:=.ar false (some false) 3 (L.map eE)) (by rfl) rfl,?_⟩;have ll:(List.map eE L).length=L.length:=List.length_map _;have ln:(List.map eY N).length=N.length:=List.length_map _;simp+contextual-implicitDefEqProofs only[ll,ln,bE,go_sem]
end Go.Ax
