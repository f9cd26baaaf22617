/- Contracts of functions of the seat, proved over the engine. No condition. -/
import Derived.Test.YtjnghfepojipiaaXxF
set_option linter.unusedSimpArgs false
set_option linter.unusedVariables false
set_option linter.unnecessarySimpa false
set_option linter.unusedSectionVars false
namespace Go.Ax
set_option maxRecDepth 100000
set_option maxHeartbeats 4000000

section
variable {m : Mo} {n : Nat}

def rG(m:Mo)(n:Nat)(as cs:List Int):Nat→de
 |0=>fun x z=>x==z
 |k+1=>dF n (fun x u=>rG m n as cs k x u&&(kb m u==as.getD k 0)) (bt (mF m (cs.getD k 0)))
theorem t9{as cs as' cs':List Int}:∀{k:Nat},k≤as.length→k≤cs.length→rG m n (as++as') (cs++cs') k=rG m n as cs k
 |0,_,_=>rfl
 |k+1,h1,h2=>by
  simp only[rG];rw[t9 (by omega) (by omega),List.getD_eq_getElem?_getD,List.getElem?_append_left (by omega),List.getD_eq_getElem?_getD,List.getElem?_append_left (by omega),←List.getD_eq_getElem?_getD,←List.getD_eq_getElem?_getD]
theorem sw{w:Wo}:∀{k x y:Nat},x<n→dQ m n w k x y=(rG m n w.1.2 w.2.2 k x y&&(kb m y==w.1.2.getD k 0))
 |0,x,y,_=>by
  simp only[dQ,rG,w6,fL,i9]
  by_cases h:x=y
  ·subst h;rfl
  ·have e:(x==y)=false:=by simpa using h
   rw[e];rfl
 |k+1,x,y,hx=>by
  simp only[dQ,rG,i9,nM];congr 1;rw[Bool.eq_iff_iff,bh,bh];constructor
  ·rintro⟨u,hu,h1,h2⟩;exact⟨u,hu,by rw[sw hx]at h1;exact h1,h2⟩
  ·rintro⟨u,hu,h1,h2⟩;exact⟨u,hu,by rw[sw hx];exact h1,h2⟩

structure oH (g:Int×Int) (M C:Nat) (L:List Ex) (b:Wo) (s:Nat):Prop where
 sl:s<L.length
 len:b.1.2.length=b.2.2.length
 at_:∀a∈b.1.2,0≤a∧a<(M:Int)
 ac:∀c∈b.2.2,0≤c∧c<(C:Int)
 rel:∀(m:Mo)(n:Nat),jh m n→m.1=g→∀x z y,x<n→z<n→y<n→rG m n b.1.2 b.2.2 b.2.2.length x z=true→a7 m (L.getD s zE) z y=true→a7 m (L.getD 0 zE) x y=true
structure iY (g:Int×Int) (M C ℓ:Nat) (L:List Ex) (w:Wo):Prop where
 len:w.1.2.length=w.2.2.length+1
 le:w.2.2.length≤ℓ
 at_:∀a∈w.1.2,0≤a∧a<(M:Int)
 ac:∀c∈w.2.2,0≤c∧c<(C:Int)
 rel:∀(m:Mo)(n:Nat),jh m n→m.1=g→∀x y,x<n→y<n→dQ m n w w.2.2.length x y=true→a7 m (L.getD 0 zE) x y=true
theorem qd{l:List Int}{a:Int}{k:Nat}(h:k=l.length):(l++[a]).getD k 0=a:=by
 subst h;rw[List.getD_eq_getElem?_getD,List.getElem?_append_right (Nat.le_refl _)];simp
theorem xx{g:Int×Int}{M C ℓ s:Nat}{L:List Ex}{b:Wo}(hL:∀y∈L,Dy g y)(hb:oH g M C L b s)(hbl:b.2.2.length≤ℓ):∀{a:Nat} {out:List Wo},a≤M→(∀w∈out,iY g M C ℓ L w)→∀w∈ug (mq M (L.getD s zE)) b a out,iY g M C ℓ L w
 |0,out,_,h=>h
 |a+1,out,ha,h=>by
  have ih:=xx hL hb hbl (a:=a) (by omega) h;intro w hw;simp only[ug]at hw
  split at hw
  ·split at hw
   ·rename_i hacc
    rcases List.mem_append.1 hw with hw|hw
    ·exact ih w hw
    ·rw[List.mem_singleton]at hw;subst hw;have hem:fO a (L.getD s zE)=true:=by
      rw[mq,sM (z:=0) (by rw[List.length_range];omega)]at hacc;rw[List.getD_eq_getElem?_getD,List.getElem?_range (by omega)]at hacc;exact hacc
     have hsT:=(hL (L.getD s zE) (by rw[List.getD_eq_getElem?_getD,List.getElem?_eq_getElem hb.sl];exact List.getElem_mem hb.sl)).1;refine⟨by simp only[Cg,lP,hb.len];rfl,hbl,fun v hv=>?_,hb.ac,fun m n hM hg x y hx hy hr=>?_⟩
     ·simp only[Cg]at hv;rcases List.mem_append.1 hv with hv|hv
      ·exact hb.at_ v hv
      ·rw[List.mem_singleton]at hv;omega
     ·rw[sw hx,bA,beq_iff_eq]at hr;simp only[Cg]at hr;rw[qd hb.len.symm]at hr;have hp:=hr.1;have e:rG m n (b.1.2++[(a:Int)]) b.2.2 b.2.2.length=rG m n b.1.2 b.2.2 b.2.2.length:=by
       have:=t9 (m:=m) (n:=n) (as:=b.1.2) (cs:=b.2.2) (as':=[(a:Int)]) (cs':=[]) (k:=b.2.2.length) (by rw[hb.len];exact Nat.le_refl _) (Nat.le_refl _)
       rwa [List.append_nil]at this
      rw[e]at hp;refine hb.rel m n hM hg x y y hx hy hy hp (vN hM _ (by rw[hg];exact hsT) y hy ?_);rw[hr.2];exact hem
   ·exact ih w hw
  ·exact ih w hw
theorem CQ{g:Int×Int}{M C s:Nat}{L:List Ex}{rows:List (List Int)}{b:Wo}(hL:∀y∈L,Dy g y)(hb:oH g M C L b s)(hr:jy (L.getD s zE) L C rows)(hrl:rows.length=M){a c:Nat}(ha:a<M)(hc:c<C)(ht:¬((rows.getD a []).getD c 0<0)):
  oH g M C L (iI b a c) ((rows.getD a []).getD c 0).toNat:=by
 obtain⟨h1,h2⟩:=hr a _ (getD_some (d:=[]) (by omega));rcases h2 c _ (getD_some (d:=0) (by omega))with h3|⟨h3,h4,h5⟩
 ·omega
 generalize (rows.getD a []).getD c 0=t at*;refine⟨by omega,by simp only[iI,lP,hb.len];rfl,fun v hv=>?_,fun v hv=>?_,fun m n hM hg x z y hx hz hy hp hr2=>?_⟩
 ·simp only[iI]at hv;rcases List.mem_append.1 hv with hv|hv
  ·exact hb.at_ v hv
  ·rw[List.mem_singleton]at hv;omega
 ·simp only[iI]at hv;rcases List.mem_append.1 hv with hv|hv
  ·exact hb.ac v hv
  ·rw[List.mem_singleton]at hv;omega
 ·simp only[iI,lP,lK,lZ,rG]at hp;obtain⟨u,hu,h6,h7⟩:=bh.1 hp;rw[bA,beq_iff_eq,qd hb.len.symm,t9 (by rw[hb.len];exact Nat.le_refl _) (Nat.le_refl _)]at h6;rw[qd rfl]at h7;have hsT:=(hL (L.getD s zE) (by rw[List.getD_eq_getElem?_getD,List.getElem?_eq_getElem hb.sl];exact List.getElem_mem hb.sl)).1;rw[LC _ _ h5,←h6.2]at hr2;exact hb.rel m n hM hg x u y hx hu hy h6.1 (El hM hu hz h7 _ (by rw[hg];exact hsT) y hy hr2)
theorem uK{g:Int×Int}{M C ℓ s k:Nat}{L:List Ex}{rec:Nat→Wo→List Wo→List Wo}{rows:List (List Int)}{cr:List Int}{b:Wo}(hL:∀y∈L,Dy g y)(hb:oH g M C L b s)(hbl:b.2.2.length+(k+1)≤ℓ)
  (hr:jy (L.getD s zE) L C rows) (hrl:rows.length=M) (hrec:∀s b out,oH g M C L b s→b.2.2.length+k≤ℓ→(∀w∈out,iY g M C ℓ L w)→∀w∈rec s b out,iY g M C ℓ L w) {a:Nat} (ha:a<M):∀{c:Nat} {out:List Wo},c≤C→(∀w∈out,iY g M C ℓ L w)→∀w∈lj rec (rows.getD a []) cr b a c out,iY g M C ℓ L w
 |0,out,_,h=>h
 |c+1,out,hc,h=>by
  have ih:=uK hL hb hbl hr hrl hrec ha (cr:=cr) (c:=c) (by omega) h;intro w hw;simp only[lj]at hw
  split at hw
  ·exact ih w hw
  ·rename_i ht
   split at hw
   ·exact ih w hw
   ·exact hrec _ _ _ (CQ hL hb hr hrl ha (by omega) ht) (by simp only[iI,lP,lK,lZ];omega) ih w hw
theorem xC{g:Int×Int}{M C ℓ s k:Nat}{L:List Ex}{rec:Nat→Wo→List Wo→List Wo}{rows:List (List Int)}{cr:List Int}{b:Wo}(hL:∀y∈L,Dy g y)(hb:oH g M C L b s)(hbl:b.2.2.length+(k+1)≤ℓ)
  (hr:jy (L.getD s zE) L C rows) (hrl:rows.length=M) (hrec:∀s b out,oH g M C L b s→b.2.2.length+k≤ℓ→(∀w∈out,iY g M C ℓ L w)→∀w∈rec s b out,iY g M C ℓ L w):∀{a:Nat} {out:List Wo},a≤M→(∀w∈out,iY g M C ℓ L w)→∀w∈uF rec rows cr C b a out,iY g M C ℓ L w
 |0,out,_,h=>h
 |a+1,out,ha,h=>by
  have ih:=xC hL hb hbl hr hrl hrec (cr:=cr) (a:=a) (by omega) h;intro w hw;simp only[uF]at hw
  split at hw
  ·exact uK hL hb hbl hr hrl hrec (by omega) (Nat.le_refl _) ih w hw
  ·exact ih w hw
theorem tS{g:Int×Int}{e:Ex}{M C ℓ:Nat}{L:List Ex}{N:List (List (List Int))}{cnt:List (List Int)}(hk:FJ g e M C L N)(hn:N.length=L.length):∀{k s:Nat} {b:Wo} {out:List Wo},oH g M C L b s→b.2.2.length+k≤ℓ→(∀w∈out,iY g M C ℓ L w)→∀w∈iF (L.map (mq M)) N cnt M C k s b out,iY g M C ℓ L w
 |0,s,b,out,hb,hl,h=>by
  rw[iF,sM (z:=zE) hb.sl];exact xx hk.ok hb hl (Nat.le_refl _) h
 |k+1,s,b,out,hb,hl,h=>by
  rw[iF];have hr:=hk.rows s _ (getD_some (d:=[]) (by rw[hn];exact hb.sl));exact xC (k:=k) hk.ok hb hl hr.2 hr.1 (fun s b out h1 h2 h3=>tS hk hn h1 h2 h3) (Nat.le_refl _) h
theorem Ea{g:Int×Int}{M C:Nat}{L:List Ex}(hL:0<L.length):oH g M C L AJ 0:=by
 refine⟨hL,rfl,fun a h=>(by cases h),fun a h=>(by cases h),fun m n hM hg x z y hx hz hy hp hr=>?_⟩;simp only[lZ,rG,beq_iff_eq]at hp;subst hp;exact hr
theorem qQ{g:Int×Int}{e:Ex}{M C ℓ:Nat}{L:List Ex}{N:List (List (List Int))}{cnt:List (List Int)}(hk:FJ g e M C L N)(hn:N.length=L.length)(hL:0<L.length):∀{k:Nat},k≤ℓ+1→∀w∈gD (L.map (mq M)) N cnt M C k,iY g M C ℓ L w
 |0,_,w,h=>by cases h
 |k+1,h,w,hw=>by
  rw[gD]at hw;exact tS hk hn (Ea hL) (by simp;omega) (qQ hk hn hL (by omega)) w hw

theorem xK{g:Int×Int}{e:Ex}{M C ℓ:Nat}(he:aD g e=true)(hs:au e≤800)(hz:(mY e M C ℓ).2=0):∀w∈(mY e M C ℓ).1,w.1.2.length=w.2.2.length+1∧w.2.2.length≤ℓ∧(∀a∈w.1.2,0≤a∧a<(M:Int))∧(∀c∈w.2.2,0≤c∧c<(C:Int))∧
  ∀(m:Mo)(n:Nat),jh m n→m.1=g→∀x y,x<n→y<n→dQ m n w w.2.2.length x y=true→a7 m e x y=true:=by
 intro w hw;unfold mY at hz hw;cases hst:gr e M C 61 with
 |none=>rw[je hst]at hz;simp at hz
 |some p=>
  rw[lR hst]at hz hw;obtain⟨L,N⟩:=p;obtain⟨hk,hk2⟩:=oV (g:=g) he hs hst;simp only[if_true]at hk hk2 hz hw
  split at hw
  ·have hl60:=hk.len;have hnl:N.length=L.length:=by have:=hk.le;omega
   have hL:L≠[]:=fun h=>by have:=hk.hd;rw[h]at this;cases this
   have hG:=qQ (ℓ:=ℓ) (cnt:=gG (L.map (mq M)) N (ℓ+1)) hk hnl (List.length_pos_iff.2 hL) (Nat.le_refl _) w hw;refine⟨hG.len,hG.le,hG.at_,hG.ac,fun m n hM hg x y hx hy hr=>?_⟩;have h0:L.getD 0 zE=df e:=by
    have:=hk.hd;cases L with
    |nil=>exact absurd rfl hL
    |cons a l=>simpa using this
   have:=hG.rel m n hM hg x y hx hy hr;rw[h0]at this;exact yu (by have:=hM.pts;omega) e he x y hx hy this
  ·cases hw

theorem Fn:∀T:Nat,T<4→∀a:Nat,a<2 ^ T→∀b:Nat,b<2 ^ T→lz (b:Int) (ef (a:Int) T)=(b==a):=by decide
theorem Jp{g:Int×Int}(hg:fH g=true){a:Int}{i:Nat}(hi:(i:Int)<g.1):aD g (uh a i)=true∧cG (uh a i)=true∧au (uh a i)≤2:=by
 obtain⟨g1,g2⟩:=dB hg;have h3:∀nn,aD g (.mk 3 i nn [])=true:=fun nn=>by
  rw[cx];have:dj (i:Int) 0 (IntKind.i64.wrap (g.1-1))=true:=by rw[cP,aj (by omega) (by omega)];omega
  simp[aR,cN,this]
 unfold uh
 split
 ·exact⟨h3 _,by rw[dN];rfl,by rw[aM];simp[aJ]⟩
 ·refine⟨?_,?_,by rw[aM];simp[aJ,aM]⟩
  ·rw[cx];simp[aR,cN,uN,dN,dw,h3]
  ·rw[dN];simp[dw,dN]
theorem rQ{g:Int×Int}(hg:fH g=true){a:Int}:∀{i:Nat},(i:Int)≤g.1→aD g (ef a i)=true∧cG (ef a i)=true∧au (ef a i)≤3*i+1
 |0,_=>⟨g7 (.inr rfl),by rw[ef,dN];rfl,by rw[ef,aM];simp[aJ]⟩
 |i+1,h=>by
  have ih:=rQ hg (a:=a) (i:=i) (by omega);have hl:=Jp hg (a:=a) (i:=i) (by omega);simp only[ef]
  split
  ·rename_i h0
   subst h0;exact⟨hl.1,hl.2.1,by omega⟩
  ·refine⟨by rw[jg (.inr rfl),ih.1,hl.1];rfl,?_,?_⟩
   ·rw[dN];simp[dw,ih.2.1,hl.2.1]
   ·rw[aM];simp only[aJ];omega
theorem sx(hM:jh m n){a:Int}(h0:0≤a)(h1:a<2 ^ m.1.1.toNat)(hat:∀x,x<n→0≤kb m x∧kb m x<2 ^ m.1.1.toNat){x y:Nat}(hx:x<n)(hy:y<n):a7 m (ef a m.1.1.toNat) x y=(x==y&&(kb m x==a)):=by
 have hg:=dB hM.g;have ha:=rQ hM.g (a:=a) (i:=m.1.1.toNat) (by omega);rw[yw hM _ ha.1 ha.2.1 x y hx hy];obtain⟨b0,b1⟩:=hat x hx;have hpow:∀k:Nat,((2 ^ k:Nat):Int)=2 ^ k:=fun k=>by simp
 have:=Fn m.1.1.toNat (by omega) a.toNat (by have:=hpow m.1.1.toNat;omega) (kb m x).toNat (by have:=hpow m.1.1.toNat;omega);rw[show((a.toNat:Nat):Int)=a by omega,show(((kb m x).toNat:Nat):Int)=kb m x by omega]at this;rw[this];congr 1;rw[Bool.eq_iff_iff,beq_iff_eq,beq_iff_eq];omega
theorem tn(hM:jh m n)(hat:∀x,x<n→0≤kb m x∧kb m x<2 ^ m.1.1.toNat){w:Wo}(hl:w.1.2.length=w.2.2.length+1)(ha:∀a∈w.1.2,0≤a∧a<2 ^ m.1.1.toNat):∀{k:Nat},k≤w.2.2.length→∀{x y:Nat},x<n→y<n→a7 m (eW m.1.1.toNat w.1.2 w.2.2 k) x y=dQ m n w k x y
 |0,_,x,y,hx,hy=>by
  have h:=ha _ (fe (d:=0) (show 0<w.1.2.length by omega));rw[eW,sx hM h.1 h.2 hat hx hy]
  rfl
 |k+1,hk,x,y,hx,hy=>by
  have h:=ha _ (fe (d:=0) (show k+1<w.1.2.length by omega));have hn:m.2.1.toNat=n:=by have:=hM.pts;omega
  rw[eW,iR,iR,hn];simp only[dQ,i9,nM];rw[Bool.eq_iff_iff,bh,bA];constructor
  ·rintro⟨z,hz,h1,h2⟩;rw[sx hM h.1 h.2 hat hz hy,bA,beq_iff_eq]at h2;obtain⟨rfl,h2⟩:=h2;refine⟨?_,h2⟩;obtain⟨u,hu,h3,h4⟩:=bh.1 h1;rw[tn hM hat hl ha (by omega) hx hu]at h3;rw[zc]at h4;exact bh.2 ⟨u,hu,h3,h4⟩
  ·rintro⟨h1,h2⟩;refine⟨y,hy,?_,by rw[sx hM h.1 h.2 hat hy hy,h2];simp⟩;obtain⟨u,hu,h3,h4⟩:=bh.1 h1;exact bh.2 ⟨u,hu,by rw[tn hM hat hl ha (by omega) hx hu];exact h3,by rw[zc];exact h4⟩
theorem Dp(e:Ex):dq e≤au e:=by
 refine Ex.ind (p:=fun e=>dq e≤au e) (fun k v nn ks ih=>?_) e;rw[fF,aM];have:∀l:List Ex,(∀x∈l,dq x≤au x)→cd l≤aJ l:=by
  intro l
  induction l with
  |nil=>intro _;simp[cd,aJ]
  |cons x l ih2=>
   intro h;have h1:=h x (by simp);have h2:=ih2 fun y hy=>h y (by simp[hy]);simp only[cd,aJ];omega
 have:=this ks ih;omega
theorem uZ{g:Int×Int}(hg:fH g=true){as cs:List Int}(hc:∀c∈cs,0≤c∧c<g.2):∀{k:Nat},k≤cs.length→aD g (eW g.1.toNat as cs k)=true∧au (eW g.1.toNat as cs k)≤10+13*k
 |0,_=>by
  have hgg:=dB hg;have h:=rQ hg (a:=as.getD 0 0) (i:=g.1.toNat) (by omega);rw[eW];exact⟨h.1,by omega⟩
 |k+1,hk=>by
  have hgg:=dB hg;have ih:=uZ hg (as:=as) hc (k:=k) (by omega);have h:=rQ hg (a:=as.getD (k+1) 0) (i:=g.1.toNat) (by omega);have hck:=hc _ (fe (d:=0) (show k<cs.length by omega));have h4:aD g (.mk 4 (cs.getD k 0) (some true) [])=true:=by
   rw[cx];have:dj (cs.getD k 0) 0 (IntKind.i64.wrap (g.2-1))=true:=by rw[cP,aj (by omega) (by omega)];omega
   simp only[aR,this]
   rfl
  rw[eW,jg (.inr rfl),jg (.inr rfl),ih.1,h4,h.1,aM];refine⟨rfl,?_⟩;simp only[aJ,aM];omega
theorem Dn{g:Int×Int}(hg:fH g=true){as cs:List Int}(hc:∀c∈cs,0≤c∧c<g.2)(hl:cs.length≤2):uj g (eW g.1.toNat as cs cs.length)=true:=by
 have h:=uZ hg (as:=as) hc (Nat.le_refl cs.length);have h2:=Dp (eW g.1.toNat as cs cs.length);simp only[uj,bA,decide_eq_true_eq];exact⟨by omega,by omega,h.1⟩
theorem vd(hM:jh m n)(x:Nat):0≤kb m x∧kb m x<2 ^ m.1.1.toNat:=by
 have hg:=dB hM.g;have htl:=hM.tl;have hlt:m.2.2.1.2.length≤3:=by omega
 have e:m.1.1.toNat=m.2.2.1.2.length:=by omega
 rw[e];unfold kb;generalize m.2.2.1.2=rows at hlt
 match rows,hlt with
 | [],_=>simp[cT]
 | [r0],_=>
  simp only[lK,lZ,cT,List.getD_cons_zero];cases r0.2.getD x false<;>decide
 | [r0,r1],_=>
  simp only[lK,lZ,cT,List.getD_cons_zero,List.getD_cons_succ];cases r0.2.getD x false<;>cases r1.2.getD x false<;>decide
 | [r0,r1,r2],_=>
  simp only[lK,lZ,cT,List.getD_cons_zero,List.getD_cons_succ];cases r0.2.getD x false<;>cases r1.2.getD x false<;>cases r2.2.getD x false<;>decide
 |_::_::_::_::_,h=>simp at h
theorem Cc{g:Int×Int}{w:Wo}(hl:w.1.2.length=w.2.2.length+1)(h2:w.2.2.length≤2)(ha:∀a∈w.1.2,0≤a∧a<bu g)(hc:∀c∈w.2.2,0≤c∧c<g.2):km g w=true:=by
 simp only[km,gn,bM,jt,bA,decide_eq_true_eq,beq_iff_eq,List.all_eq_true,cP];refine⟨by omega,by rw[hl];push_cast;rfl,fun a h=>?_,fun c h=>?_⟩
 ·have:=ha a h;omega
 ·have:=hc c h;omega
end
end Go.Ax
