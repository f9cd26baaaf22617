/- Contracts of functions of the seat, proved over the engine. No condition. -/
import Derived.Test.YtlmeadheakbmpaaXxG
import Derived.Test.YtlmeadheakbmpaaXxD
import Derived.Test.YtlmeadheakbmpaaXxE
set_option linter.all false
namespace Go.Ax
set_option maxRecDepth 100000
set_option maxHeartbeats 4000000
section
variable {m:Mo}{n:Nat}
def BE(m:Mo)(n:Nat)(as cs:List Int):Nat→my
 |0=>fun x z=>x==z
 |k+1=>rP n (fun x u=>BE m n as cs k x u&&(Et m u==as.getD k 0)) (kD (tN m (cs.getD k 0)))
variable {as cs:List Int}
def D3{as' cs':List Int}:∀{k:Nat},k≤as.length→k≤cs.length→BE m n (as++as') (cs++cs') k=BE m n as cs k
 |0,_,_=>rfl
 |k+1,h1,h2=>by
  simp only[BE];rw[D3 (by omega) (by omega),aE,bL (by omega),aE,bL (by omega),←aE,←aE]
def DE{w:Wo}:∀{k x y:Nat},x<n→PA m n w k x y=(BE m n w.1.2 w.2.2 k x y&&(Et m y==w.1.2.getD k 0))
 |0,x,y,_=>by
  simp only[PA,BE,atR,tK,abg]
  by_cases h:x=y;subst h;rfl
  have e:(x==y)=false:=by simpa using h
  rw[e];rfl
 |k+1,x,y,hx=>by
  simp only[PA,BE,abg,agv];congr 1;rw[dx,iJ,iJ];constructor
  ·rintro⟨u,hu,h1,h2⟩;exact⟨u,hu,by rw[DE hx]at h1;exact h1,h2⟩
  rintro⟨u,hu,h1,h2⟩;exact⟨u,hu,by rw[DE hx];exact h1,h2⟩
structure yM (g:Int×Int) (M C:Nat) (L:List Ex) (b:Wo) (s:Nat):Prop where
 sl:s<L.length
 len:b.1.2.length=b.2.2.length
 at_:∀a∈b.1.2,0≤a∧a<(M:Int)
 ac:∀c∈b.2.2,0≤c∧c<(C:Int)
 rel:∀(m:Mo)(n:Nat),we m n→m.1=g→∀x z y,x<n→z<n→y<n→BE m n b.1.2 b.2.2 b.2.2.length x z=true→gS m (L.getD s zE) z y=true→gS m (L.getD 0 zE) x y=true
structure se (g:Int×Int) (M C ℓ:Nat) (L:List Ex) (w:Wo):Prop where
 len:w.1.2.length=w.2.2.length+1
 le:w.2.2.length≤ℓ
 at_:∀a∈w.1.2,0≤a∧a<(M:Int)
 ac:∀c∈w.2.2,0≤c∧c<(C:Int)
 rel:∀(m:Mo)(n:Nat),we m n→m.1=g→∀x y,x<n→y<n→PA m n w w.2.2.length x y=true→gS m (L.getD 0 zE) x y=true
variable {a:Int}{k:Nat}
def qh{l:List Int}(h:k=l.length):(l++[a]).getD k 0=a:=by
 subst h;rw[aE,dA (aw _)];simp
variable {g:Int×Int}{L:List Ex}{C M s ℓ:Nat}{b:Wo}
def IU(hL:∀y∈L,L3 g y)(hb:yM g M C L b s)(Gx:b.2.2.length≤ℓ):∀{a:Nat} {out:List Wo},a≤M→(∀w∈out,se g M C ℓ L w)→∀w∈B9 (rj M (L.getD s zE)) b a out,se g M C ℓ L w
 |0,out,_,h=>h
 |a+1,out,ha,h=>by
  have ih:=IU hL hb Gx (a:=a) (by omega) h;intro w hw;simp only[B9]at hw
  split at hw
  ·split at hw
   ·rename_i Ld
    rcases an.1 hw with hw|hw
    exact ih w hw;rw[au]at hw;subst hw;have X3:lR a (L.getD s zE)=true:=by
     rw[rj,vd (z:=0) (by rw[eb];omega)]at Ld;rw[aE,List.getElem?_range (by omega)]at Ld;exact Ld
    have hsT:=(hL (L.getD s zE) (by rw[aE,bb hb.sl];exact aF hb.sl)).1;refine⟨by simp only[QC,lP,hb.len];rfl,Gx,fun v hv=>?_,hb.ac,fun m n hM hg x y hx hy hr=>?_⟩
    ·simp only[QC]at hv;rcases an.1 hv with hv|hv
     exact hb.at_ v hv;rw[au]at hv;omega
    rw[DE hx,bA,aU]at hr;simp only[QC]at hr;rw[qh hb.len.symm]at hr;have hp:=hr.1;have e:BE m n (b.1.2++[(a:Int)]) b.2.2 b.2.2.length=BE m n b.1.2 b.2.2 b.2.2.length:=by
     have:=D3 (m:=m) (n:=n) (as:=b.1.2) (cs:=b.2.2) (as':=[(a:Int)]) (cs':=[]) (k:=b.2.2.length) (by rw[hb.len];exact aw _) (aw _)
     rwa [aI]at this
    rw[e]at hp;refine hb.rel m n hM hg x y y hx hy hy hp (FJ hM _ (by rw[hg];exact hsT) y hy ?_);rw[hr.2];exact X3
   exact ih w hw
  exact ih w hw
variable {rows:List (List Int)}
def Pa(hL:∀y∈L,L3 g y)(hb:yM g M C L b s)(hr:pK (L.getD s zE) L C rows)(In:rows.length=M){a c:Nat}(ha:a<M)(hc:c<C)(ht:¬((rows.getD a []).getD c 0<0)):
  yM g M C L (pu b a c) ((rows.getD a []).getD c 0).toNat:=by
 obtain⟨h1,h2⟩:=hr a _ (getD_some (d:=[]) (by omega));rcases h2 c _ (getD_some (d:=0) (by omega))with h3|⟨h3,h4,h5⟩
 omega;generalize (rows.getD a []).getD c 0=t at*;refine⟨by omega,by simp only[pu,lP,hb.len];rfl,fun v hv=>?_,fun v hv=>?_,fun m n hM hg x z y hx hz hy hp hr2=>?_⟩
 ·simp only[pu]at hv;rcases an.1 hv with hv|hv
  exact hb.at_ v hv;rw[au]at hv;omega
 ·simp only[pu]at hv;rcases an.1 hv with hv|hv
  exact hb.ac v hv;rw[au]at hv;omega
 simp only[pu,lP,lK,lZ,BE]at hp;obtain⟨u,hu,h6,h7⟩:=iJ.1 hp;rw[bA,aU,qh hb.len.symm,D3 (by rw[hb.len];exact aw _) (aw _)]at h6;rw[qh rfl]at h7;have hsT:=(hL (L.getD s zE) (by rw[aE,bb hb.sl];exact aF hb.sl)).1;rw[age _ _ h5,←h6.2]at hr2;exact hb.rel m n hM hg x u y hx hu hy h6.1 (SV hM hu hz h7 _ (by rw[hg];exact hsT) y hy hr2)
def E7{rec:Nat→Wo→List Wo→List Wo}{rows:List (List Int)}{cr:List Int}(hL:∀y∈L,L3 g y)(hb:yM g M C L b s)(Gx:b.2.2.length+(k+1)≤ℓ)
  (hr:pK (L.getD s zE) L C rows) (In:rows.length=M) (AG:∀s b out,yM g M C L b s→b.2.2.length+k≤ℓ→(∀w∈out,se g M C ℓ L w)→∀w∈rec s b out,se g M C ℓ L w) {a:Nat} (ha:a<M):∀{c:Nat} {out:List Wo},c≤C→(∀w∈out,se g M C ℓ L w)→∀w∈sZ rec (rows.getD a []) cr b a c out,se g M C ℓ L w
 |0,out,_,h=>h
 |c+1,out,hc,h=>by
  have ih:=E7 hL hb Gx hr In AG ha (cr:=cr) (c:=c) (by omega) h;intro w hw;simp only[sZ]at hw
  split at hw;exact ih w hw
  rename_i ht
  split at hw;exact ih w hw;exact AG _ _ _ (Pa hL hb hr In ha (by omega) ht) (by simp only[pu,lP,lK,lZ];omega) ih w hw
def KE{rec:Nat→Wo→List Wo→List Wo}{rows:List (List Int)}{cr:List Int}(hL:∀y∈L,L3 g y)(hb:yM g M C L b s)(Gx:b.2.2.length+(k+1)≤ℓ)
  (hr:pK (L.getD s zE) L C rows) (In:rows.length=M) (AG:∀s b out,yM g M C L b s→b.2.2.length+k≤ℓ→(∀w∈out,se g M C ℓ L w)→∀w∈rec s b out,se g M C ℓ L w):∀{a:Nat} {out:List Wo},a≤M→(∀w∈out,se g M C ℓ L w)→∀w∈Eu rec rows cr C b a out,se g M C ℓ L w
 |0,out,_,h=>h
 |a+1,out,ha,h=>by
  have ih:=KE hL hb Gx hr In AG (cr:=cr) (a:=a) (by omega) h;intro w hw;simp only[Eu]at hw
  split at hw;exact E7 hL hb Gx hr In AG (by omega) (aw _) ih w hw;exact ih w hw
variable {e:Ex}
def D6{N:List (List (List Int))}{cnt:List (List Int)}(hk:LH g e M C L N)(hn:N.length=L.length):∀{k s:Nat} {b:Wo} {out:List Wo},yM g M C L b s→b.2.2.length+k≤ℓ→(∀w∈out,se g M C ℓ L w)→∀w∈pi (L.map (rj M)) N cnt M C k s b out,se g M C ℓ L w
 |0,s,b,out,hb,hl,h=>by
  rw[pi,vd (z:=zE) hb.sl];exact IU hk.ok hb hl (aw _) h
 |k+1,s,b,out,hb,hl,h=>by
  rw[pi];have hr:=hk.rows s _ (getD_some (d:=[]) (by rw[hn];exact hb.sl));exact KE (k:=k) hk.ok hb hl hr.2 hr.1 (fun s b out h1 h2 h3=>D6 hk hn h1 h2 h3) (aw _) h
def Wk(hL:0<L.length):yM g M C L Hm 0:=by
 refine⟨hL,rfl,fun a h=>(by cases h),fun a h=>(by cases h),fun m n hM hg x z y hx hz hy hp hr=>?_⟩;simp only[lZ,BE,aU]at hp;subst hp;exact hr
def AI{N:List (List (List Int))}{cnt:List (List Int)}(hk:LH g e M C L N)(hn:N.length=L.length)(hL:0<L.length):∀{k:Nat},k≤ℓ+1→∀w∈nR (L.map (rj M)) N cnt M C k,se g M C ℓ L w
 |0,_,w,h=>by cases h
 |k+1,h,w,hw=>by
  rw[nR]at hw;exact D6 hk hn (Wk hL) (by simp;omega) (AI hk hn hL (by omega)) w hw
def JD{g:Int×Int}{ℓ:Nat}(he:f8 g e=true)(hs:fZ e≤800)(hz:(rF e M C ℓ).2=0):∀w∈(rF e M C ℓ).1,w.1.2.length=w.2.2.length+1∧w.2.2.length≤ℓ∧(∀a∈w.1.2,0≤a∧a<(M:Int))∧(∀c∈w.2.2,0≤c∧c<(C:Int))∧
  ∀(m:Mo)(n:Nat),we m n→m.1=g→∀x y,x<n→y<n→PA m n w w.2.2.length x y=true→gS m e x y=true:=by
 intro w hw;unfold rF at hz hw;cases ju:oU e M C 61 with
 |none=>rw[qk ju]at hz;simp at hz
 |some p=>
  rw[rS ju]at hz hw;obtain⟨L,N⟩:=p;obtain⟨hk,tR⟩:=vT (g:=g) he hs ju;simp only[ay]at hk tR hz hw
  split at hw
  ·have afV:=hk.len;have EW:N.length=L.length:=by have:=hk.le;omega
   have hL:L≠[]:=fun h=>by have:=hk.hd;rw[h]at this;cases this
   have hG:=AI (ℓ:=ℓ) (cnt:=pm (L.map (rj M)) N (ℓ+1)) hk EW (dY.2 hL) (aw _) w hw;refine⟨hG.len,hG.le,hG.at_,hG.ac,fun m n hM hg x y hx hy hr=>?_⟩;have h0:L.getD 0 zE=jM e:=by
    have:=hk.hd;cases L with
    |nil=>exact absurd rfl hL
    |cons a l=>simpa using this
   have:=hG.rel m n hM hg x y hx hy hr;rw[h0]at this;exact IA (by have:=hM.Cf;omega) e he x y hx hy this
  cases hw
def ZL:∀T:Nat,T<4→∀a:Nat,a<2 ^ T→∀b:Nat,b<2 ^ T→nH (b:Int) (mc (a:Int) T)=(b==a):=by decide
def afh(hg:oC g=true){i:Nat}(hi:(i:Int)<g.1):f8 g (EM a i)=true∧jA (EM a i)=true∧fZ (EM a i)≤2:=by
 obtain⟨g1,g2⟩:=lh hg;have h3:∀nn,f8 g (.mk 3 i nn [])=true:=fun nn=>by
  rw[ja];have:kJ (i:Int) 0 (IntKind.i64.wrap (g.1-1))=true:=by rw[jz,fQ (by omega) (by omega)];omega
  simp[gE,jU,this]
 unfold EM
 split
 ·exact⟨h3 _,by rw[kM];rfl,by rw[gw];simp[gq]⟩
 refine⟨?_,?_,by rw[gw];simp[gq,gw]⟩;rw[ja];simp[gE,jU,Ge,kM,kO,h3];rw[kM];simp[kO,kM]
def BT(hg:oC g=true){a:Int}:∀{i:Nat},(i:Int)≤g.1→f8 g (mc a i)=true∧jA (mc a i)=true∧fZ (mc a i)≤3*i+1
 |0,_=>⟨qg (.inr rfl),by rw[mc,kM];rfl,by rw[mc,gw];simp[gq]⟩
 |i+1,h=>by
  have ih:=BT hg (a:=a) (i:=i) (by omega);have hl:=afh hg (a:=a) (i:=i) (by omega);simp only[mc]
  split
  ·rename_i h0
   subst h0;exact⟨hl.1,hl.2.1,by omega⟩
  refine⟨by rw[sy (.inr rfl),ih.1,hl.1];rfl,?_,?_⟩;rw[kM];simp[kO,ih.2.1,hl.2.1];rw[gw];simp only[gq];omega
def Vo(e:Ex):ip e≤fZ e:=by
 refine Ex.ind (p:=fun e=>ip e≤fZ e) (fun k v nn ks ih=>?_) e;rw[mB,gw];have:∀l:List Ex,(∀x∈l,ip x≤fZ x)→iQ l≤gq l:=by
  intro l
  induction l with
  |nil=>intro _;simp[iQ,gq]
  |cons x l ih2=>
   intro h;have h1:=h x (by simp);have h2:=ih2 fun y hy=>h y (by simp[hy]);simp only[iQ,gq];omega
 have:=this ks ih;omega
def Gr(hg:oC g=true){as:List Int}(hc:∀c∈cs,0≤c∧c<g.2):∀{k:Nat},k≤cs.length→f8 g (mU g.1.toNat as cs k)=true∧fZ (mU g.1.toNat as cs k)≤10+13*k
 |0,_=>by
  have hgg:=lh hg;have h:=BT hg (a:=as.getD 0 0) (i:=g.1.toNat) (by omega);rw[mU];exact⟨h.1,by omega⟩
 |k+1,hk=>by
  have hgg:=lh hg;have ih:=Gr hg (as:=as) hc (k:=k) (by omega);have h:=BT hg (a:=as.getD (k+1) 0) (i:=g.1.toNat) (by omega);have X1:=hc _ (ji (d:=0) (show k<cs.length by omega));have h4:f8 g (.mk 4 (cs.getD k 0) (some true) [])=true:=by
   rw[ja];have:kJ (cs.getD k 0) 0 (IntKind.i64.wrap (g.2-1))=true:=by rw[jz,fQ (by omega) (by omega)];omega
   simp only[gE,this]
   rfl
  rw[mU,sy (.inr rfl),sy (.inr rfl),ih.1,h4,h.1,gw];refine⟨rfl,?_⟩;simp only[gq,gw];omega
def WO(hg:oC g=true){as:List Int}(hc:∀c∈cs,0≤c∧c<g.2)(hl:cs.length≤2):BA g (mU g.1.toNat as cs cs.length)=true:=by
 have h:=Gr hg (as:=as) hc (aw cs.length);have h2:=Vo (mU g.1.toNat as cs cs.length);simp only[BA,bA,a7];exact⟨by omega,by omega,h.1⟩
def QQ(hM:we m n)(x:Nat):0≤Et m x∧Et m x<2 ^ m.1.1.toNat:=by
 have hg:=lh hM.g;have htl:=hM.tl;have iq:m.2.2.1.2.length≤3:=by omega
 have e:m.1.1.toNat=m.2.2.1.2.length:=by omega
 rw[e];unfold Et;generalize m.2.2.1.2=rows at iq
 match rows,iq with
 | [],_=>simp[pJ]
 | [r0],_=>
  simp only[lK,lZ,pJ,aj];cases r0.2.getD x false<;>decide
 | [r0,r1],_=>
  simp only[lK,lZ,pJ,aj,ak];cases r0.2.getD x false<;>cases r1.2.getD x false<;>decide
 | [r0,r1,r2],_=>
  simp only[lK,lZ,pJ,aj,ak];cases r0.2.getD x false<;>cases r1.2.getD x false<;>cases r2.2.getD x false<;>decide
 |_::_::_::_::_,h=>simp at h
end
variable {a:Int}
def rp:tg a (-1)= -1:=by unfold tg;simp
def w3:tg (-1) a= -1:=by unfold tg;simp
def Vd{v b:Int}(h1:lw v a)(h2:lw v b):lw v (ch a b):=by rcases tI a b with e|e<;>rw[e]<;>assumption
def Og{b c d:Int}(h1:lw a c)(h2:lw b d):lw (ch a b) (ch c d):=Vd (gK uG h1) (gK uH h2)
def J0{A B:lA}{x y:Nat}:∀{k:Nat},pr A B k x y= -1∨∃z,z<k∧pr A B k x y=tg (A x z) (B z y)
 |0=>.inl rfl
 |k+1=>by
  rcases tI (pr A B k x y) (tg (A x k) (B k y))with e|e
  ·rcases J0 (A:=A) (B:=B) (x:=x) (y:=y) (k:=k)with h|⟨z,hz,h⟩
   ·exact .inl (by rw[show pr A B (k+1) x y=_ from e];exact h)
   exact .inr ⟨z,by omega,by rw[show pr A B (k+1) x y=_ from e];exact h⟩
  exact .inr ⟨k,by omega,e⟩
variable {A B:lA}{n x y:Nat}
def mW:lT n A B x y= -1∨∃z,z<n∧lT n A B x y=tg (A x z) (B z y):=J0
def nM{z:Nat}(h:z<n):lw (lT n A B x y) (tg (A x z) (B z y)):=x8 h
def FX{n:Nat}{A A' B B':lA}{x y:Nat}(hA:∀z,z<n→lw (A x z) (A' x z))(hB:∀z,z<n→lw (B z y) (B' z y))(oA:∀z,z<n→pW (A x z))(oB:∀z,z<n→pW (B z y)):lw (lT n A B x y) (lT n A' B' x y):=by
 rcases mW (n:=n) (A:=A') (B:=B') (x:=x) (y:=y)with h|⟨z,hz,h⟩
 rw[h];exact kg;rw[h];exact gK (nM hz) (ly (hA z hz) (hB z hz) (oA z hz) (oB z hz))
def Hc{n:Nat}{P Q B:lA}(oP:ng n P)(oQ:ng n Q)(oB:ng n B){x y:Nat}(hx:x<n)(hy:y<n):lw (lT n (lT n P Q) B x y) (lT n P (lT n Q B) x y):=by
 rcases mW (n:=n) (A:=P) (B:=lT n Q B) (x:=x) (y:=y)with h|⟨z,hz,h⟩
 rw[h];exact kg;rw[h];rcases mW (n:=n) (A:=Q) (B:=B) (x:=z) (y:=y)with h2|⟨w,hw,h2⟩
 rw[h2,rp];exact kg;rw[h2,←sv (oP x z hx hz) (oQ z w hz hw) (oB w y hw hy)];exact gK (nM hw) (ly (nM hz) iB (yV oP oQ x w hx hw) (oB w y hw hy))
def x9(oA:ng n A)(h:∀x y,x<n→y<n→lw (A x y) (B x y)):∀{k x y:Nat},k≤n→x<n→y<n→lw (iK A k x y) (iK B k x y)
 |0,x,y,_,hx,hy=>by
  simp only[iK,Kt]
  split;exact iB;exact h x y hx hy
 |k+1,x,y,hk,hx,hy=>by
  simp only[iK];exact Og (x9 oA h (by omega) hx hy) (ly (x9 oA h (by omega) hx (by omega)) (x9 oA h (by omega) (by omega) hy) (kS oA (by omega) x k hx (by omega)) (kS oA (by omega) k y (by omega) hy))
def zk(o:ng n A)(hx:x<n)(hy:y<n):lw (kB n A x y) (A x y):=by
 refine gK (GV (aq n)) ?_;simp only[iK,Kt]
 split;have:=o x y hx hy;unfold pW at this;unfold lw;omega;exact iB
section
variable {c:Co}{n:Nat}
variable {v:Int}{ks:List Ex}{x y:Nat}{nn:Option Bool}
def FQ:fW c (.mk 1 v nn ks) x y= -1:=by rw[kv];simp[gZ,pf]
def CQ:fW c (.mk 2 v nn ks) x y=if x=y then 0 else -1:=by rw[kv];simp[gZ,po]
def T0:fW c (.mk 3 v nn ks) x y=if x=y then(if EK c v x=true then 0 else -1)else -1:=by rw[kv];simp[gZ,po,yy]
def Of:fW c (.mk 4 v nn ks)=gB (oX c v):=by rw[kv];simp[gZ]
variable {a:Ex}
def S3:fW c (.mk 5 v nn [a]) x y=if x=y then(if fW c a x x= -1 then 0 else -1)else -1:=by rw[kv];simp[gZ,po,Av]
variable {b:Ex}
def wM:fW c (.mk 6 v nn [a,b]) x y=ch (fW c a x y) (fW c b x y):=by rw[kv];simp[gZ,ER]
def si:fW c (.mk 7 v nn [a,b])=lT c.2.1.toNat (fW c a) (fW c b):=by rw[kv];simp[gZ]
def Gs:fW c (.mk 8 v nn [a])=kB c.2.1.toNat (fW c a):=by rw[kv];simp[gZ]
def xP.nat(hC:xP c n):c.2.1.toNat=n:=by rw[hC.Cf];rfl
def sO(e:Ex):fW c (rK e)=fW c e:=by
 refine Ex.ind (p:=fun e=>fW c (rK e)=fW c e) (fun k n nn ks ih=>?_) e;rw[Af,kv,kv,cR];congr 1;exact cA fun x hx=>ih x hx
def ahi:∀(a b:Ex),qE a b=true→fW c a=fW c b:=by
 refine Ex.ind (p:=fun a=>∀b,qE a b=true→fW c a=fW c b) fun k n nn ks ih b h=>?_;obtain⟨k',n',jR,GD,rfl⟩:=Ex.ex b;rw[On,bA,bA,aU,aU]at h;obtain⟨rfl,rfl,h⟩:=h;have:∀(as bs:List Ex),(∀x∈as,∀b,qE x b=true→fW c x=fW c b)→tX qE as bs=true→as.map (fW c)=bs.map (fW c):=by
  intro as
  induction as with
  |nil=>intro bs _ h;cases bs with
   |nil=>rfl
   |cons _ _=>simp[tX]at h
  |cons x as iha=>
   intro bs hx h;cases bs with
   |nil=>simp[tX]at h
   |cons y bs=>
    simp only[tX,bA]at h;rw[lC,lC,hx x (by simp) y h.1,iha bs (fun z hz=>hx z (by simp[hz])) h.2]
 rw[kv,kv,this ks GD ih h]
variable {g:Int×Int}
mutual
def CI:∀(e:Ex)(acc:List Ex),f8 g e=true→∀x∈iH e acc,x∈acc∨∀a b,lw (fW c e a b) (fW c x a b)
 |.mk k n nn ks,acc,h,x,hx=>by
  rw[iH]at hx
  split at hx;exact .inl hx
  split at hx
  ·rename_i h6
   obtain⟨p,q,rfl,_,_⟩:=ik (.inl h6) h;subst h6;rcases F7 [p,q] acc (iF h) x hx with h1|⟨z,hz,h1⟩
   exact .inl h1;refine .inr fun a b=>?_;rw[wM];have:=h1 a b;simp only[ab,cF,cI]at hz;rcases hz with rfl|rfl
   exact gK uG this;exact gK uH this
  split at hx
  exact .inl hx;rcases an.1 hx with h1|h1
  exact .inl h1;rw[au]at h1;subst h1;exact .inr fun _ _=>iB
def F7:∀(es:List Ex)(acc:List Ex),(∀e∈es,f8 g e=true)→∀x∈lU es acc,x∈acc∨∃e∈es,∀a b,lw (fW c e a b) (fW c x a b)
 | [],acc,_,x,hx=>.inl (by simpa[lU]using hx)
 |e::es,acc,h,x,hx=>by
  rw[lU]at hx;rcases F7 es (iH e acc) (fun y hy=>h y (by simp[hy])) x hx with h1|⟨z,hz,h1⟩
  ·rcases CI e acc (h e (by simp)) x h1 with h2|h2
   exact .inl h2;exact .inr ⟨e,by simp,h2⟩
  exact .inr ⟨z,by simp[hz],h1⟩
end
def Qd{l:List Ex}(h:∀z∈l,lw v (fW c z x y)):lw v (fW c (mS l) x y):=by
 cases l with
 |nil=>rw[mS,FQ];exact kg
 |cons a l=>
  have:∀(l:List Ex)(acc:Ex),lw v (fW c acc x y)→(∀z∈l,lw v (fW c z x y))→lw v (fW c (l.foldl (fun acc y=>.mk 6 0 (some false) [acc,rK y]) acc) x y):=by
   intro l
   induction l with
   |nil=>intro acc h _;exact h
   |cons b l ih=>
    intro acc h hl;rw[de];exact ih _ (by rw[wM,sO];exact Vd h (hl b (by simp))) fun z hz=>hl z (by simp[hz])
  rw[mS];exact this l _ (by rw[sO];exact h a (by simp)) fun z hz=>h z (by simp[hz])
def Vg(ha:f8 g a=true)(hb:f8 g b=true):lw (ch (fW c a x y) (fW c b x y)) (fW c (Kq a b) x y):=by
 refine Qd fun z hz=>?_;rcases CI b _ hb z (vD.1 hz)with h1|h1
 ·rcases CI a [] ha z h1 with h2|h2
  cases h2;exact gK uG (h2 _ _)
 exact gK uH (h1 _ _)
def chM(n:Nat):List lA→lA→lA
 | [],B=>B
 |A::r,B=>lT n A (chM n r B)
def TD{B:lA}(oB:ng n B):∀{l:List lA},(∀A∈l,ng n A)→ng n (chM n l B)
 | [],_=>oB
 |A::r,h=>yV (h A (by simp)) (TD oB fun A hA=>h A (by simp[hA]))
mutual
def IX(hC:xP c n):∀(a b:Ex),f8 c.1 a=true→f8 c.1 b=true→∀x y,x<n→y<n→lw (lT n (fW c a) (fW c b) x y) (fW c (Ar a b) x y)
 |.mk k v nn ks,b,ha,hb,x,y,hx,hy=>by
  have hn:=hC.nat;rw[Ar]
  split;rw[FQ];exact kg
  split
  ·rename_i h2
   subst h2;rw[sO];have:=nM (A:=fW c (.mk 2 v nn ks)) (B:=fW c b) (x:=x) (y:=y) (z:=x) hx;rw[CQ,af rfl,FD (gP hC b hb x y hx hy)]at this;exact this
  split
  ·rename_i h2
   rw[sO];obtain⟨bk,bn,bnn,bks,rfl⟩:=Ex.ex b;have:bk=2:=h2;subst this;have:=nM (A:=fW c (.mk k v nn ks)) (B:=fW c (.mk 2 bn bnn bks)) (x:=x) (y:=y) (z:=y) hy;rw[CQ,af rfl,Ck (gP hC _ ha x y hx hy)]at this;exact this
  split
  ·rename_i h7
   obtain⟨p,q,rfl,hp,hq⟩:=ik (.inr h7) ha;subst h7;refine gK ?_ (FI hC [p,q] b (iF ha) hb x y hx hy);simp only[lC,lN,chM];rw[si,hn];exact Hc (gP hC p hp) (gP hC q hq) (gP hC b hb) hx hy
  rw[si,hn,sO,sO];exact iB
def FI(hC:xP c n):∀(as:List Ex)(b:Ex),(∀a∈as,f8 c.1 a=true)→f8 c.1 b=true→∀x y,x<n→y<n→lw (chM n (as.map (fW c)) (fW c b) x y) (fW c (pO as b) x y)
 | [],b,_,_,x,y,_,_=>by simp only[pO,lN,chM];exact iB
 |a::as,b,ha,hb,x,y,hx,hy=>by
  simp only[pO,lC,chM];have hT:∀c'∈as,f8 c.1 c'=true:=fun d hd=>ha d (by simp[hd]);refine gK ?_ (IX hC a (pO as b) (ha a (by simp)) (DG as b hT hb).1 x y hx hy);exact FX (fun _ _=>iB) (fun z hz=>FI hC as b hT hb z y hz hy) (fun z hz=>gP hC a (ha a (by simp)) x z hx hz)
   (fun z hz=>TD (gP hC b hb) (fun A hA=>by obtain⟨d,hd,rfl⟩:=aB.1 hA;exact gP hC d (hT d hd)) z y hz hy)
end
def Py(hC:xP c n)(ha:f8 c.1 a=true)(hx:x<n)(hy:y<n):lw (kB n (fW c a) x y) (fW c (ww a) x y):=by
 have o:=gP hC a ha;have hn:=hC.nat;unfold ww
 split
 ·rw[CQ]
  split
  ·rename_i h
   subst h;rw[show kB n (fW c a) x x=0 from qm o (aw n) hx];exact iB
  exact kg
 split
 rw[sO];exact zk o hx hy;rw[Gs,hn,sO];exact iB
def Ix(hC:xP c n)(e:Ex):f8 c.1 e=true→∀x y,x<n→y<n→lw (fW c e x y) (fW c (jM e) x y):=by
 refine Ex.ind (p:=fun e=>f8 c.1 e=true→∀x y,x<n→y<n→lw (fW c e x y) (fW c (jM e) x y)) (fun k v nn ks ih hT x y hx hy=>?_) e;have hn:=hC.nat;rw[jM]
 split
 ·rename_i h6
  obtain⟨p,q,rfl,hp,hq⟩:=ik (.inl h6) hT;subst h6;simp only[kH,aj,ak];rw[wM];exact gK (Og (ih p (by simp) hp x y hx hy) (ih q (by simp) hq x y hx hy)) (Vg (jO p hp).1 (jO q hq).1)
 split
 ·rename_i h7
  obtain⟨p,q,rfl,hp,hq⟩:=ik (.inr h7) hT;subst h7;simp only[kH,aj,ak];rw[si,hn];exact gK (FX (fun z hz=>ih p (by simp) hp x z hx hz) (fun z hz=>ih q (by simp) hq z y hz hy) (fun z hz=>gP hC p hp x z hx hz) (fun z hz=>gP hC q hq z y hz hy))
   (IX hC _ _ (jO p hp).1 (jO q hq).1 x y hx hy)
 split
 ·rename_i h8
  subst h8;obtain⟨p,rfl⟩:=pn (jo hT);have hp:=iF hT p (by simp);simp only[kH,aj];rw[Gs,hn];exact gK (x9 (gP hC p hp) (fun a b ha hb=>ih p (by simp) hp a b ha hb) (aw _) hx hy) (Py hC (jO p hp).1 hx hy)
 rw[sO];exact iB
def kG(c:Co)(x:Nat):Int:=pJ c.2.2.1.2 x c.2.2.1.2.length
def SK:Et (EF c n) x=kG c x:=rfl
def I8(hC:xP c n)(e:Ex):f8 c.1 e=true→jA e=true→∀x y,x<n→y<n→fW c e x y=if x=y∧nH (kG c x) e=true then 0 else -1:=by
 refine Ex.ind (p:=fun e=>f8 c.1 e=true→jA e=true→∀x y,x<n→y<n→fW c e x y=if x=y∧nH (kG c x) e=true then 0 else -1) (fun k v nn ks ih hT hc x y hx hy=>?_) e;have hf:=jo hT;have hk:=iF hT;have hn:=hC.nat;have hC0:=hc;rw[kM,bA,aM]at hc;rw[nH];rcases DZ hC.g hf with⟨rfl,rfl⟩|⟨rfl,rfl⟩|⟨rfl,rfl,w,rfl,_⟩|⟨rfl,rfl,w,rfl,_⟩|⟨rfl,a,rfl⟩|⟨rfl,a,b,rfl⟩|⟨rfl,a,b,rfl⟩|⟨rfl,a,rfl⟩
 rw[FQ];simp;rw[CQ];simp
 ·obtain⟨j,hj,_⟩:=Dt hC.g hf;obtain rfl:w=j:=by omega
  have hg:=lh hC.g;have htl:=hC.tl;have hjl:w<c.2.2.1.2.length:=by
   simp only[gE,bA,ay,jz]at hf;have h2:=hf.2;rw[fQ (by omega) (by omega)]at h2;omega
  have hb:=Fm (x:=x) (show c.2.2.1.2.length≤3 by omega) hjl;rw[T0];simp only[Int.reduceEq,↓reduceIte];unfold kG EK;rw[aS,hb]
  by_cases h:x=y<;>simp[h]
 exact absurd hc.1 (by decide)
 ·rw[S3];simp only[Int.reduceEq,↓reduceIte,nu,aj];rw[ih a (by simp) (hk a (by simp)) (hc.2 a (by simp)) x x hx hx]
  by_cases h:x=y<;>cases nH (kG c x) a<;>simp[h]
 ·rw[wM];simp only[Int.reduceEq,↓reduceIte,nu,aj,ak];rw[ih a (by simp) (hk a (by simp)) (hc.2 a (by simp)) x y hx hy,ih b (by simp) (hk b (by simp)) (hc.2 b (by simp)) x y hx hy]
  by_cases h:x=y<;>cases nH (kG c x) a<;>cases nH (kG c x) b<;>simp[h,ch]
 ·simp only[Int.reduceEq,↓reduceIte,nu,aj,ak];have ia:=ih a (by simp) (hk a (by simp)) (hc.2 a (by simp));have ib:=ih b (by simp) (hk b (by simp)) (hc.2 b (by simp));have ok:=gP hC _ hT x y hx hy;rw[si,hn]at ok⊢
  by_cases h:x=y∧(nH (kG c x) a&&nH (kG c x) b)=true;rw[af h];obtain⟨rfl,h⟩:=h;rw[bA]at h;have:=nM (A:=fW c a) (B:=fW c b) (x:=x) (y:=x) hx;rw[ia x x hx hx,ib x x hx hx,af ⟨rfl,h.1⟩,af ⟨rfl,h.2⟩,FD om]at this;unfold lw at this;unfold pW at ok;omega
  rw[ae h];rcases mW (n:=n) (A:=fW c a) (B:=fW c b) (x:=x) (y:=y)with e|⟨z,hz,e⟩
  exact e;rw[e,ia x z hx hz,ib z y hz hy]
  by_cases h1:x=z∧nH (kG c x) a=true
  ·obtain⟨rfl,h1⟩:=h1;rw[af ⟨rfl,h1⟩,ae (fun h2=>h ⟨h2.1,by rw[h1,h2.2];rfl⟩),rp]
  rw[ae h1,w3]
 exact absurd hc.1 (by decide)
def FZ(hC:xP c n)(e:Ex):f8 c.1 e=true→∀x,x<n→lR (kG c x) e=true→lw (fW c e x x) 0:=by
 refine Ex.ind (p:=fun e=>f8 c.1 e=true→∀x,x<n→lR (kG c x) e=true→lw (fW c e x x) 0) (fun k v nn ks ih hT x hx h=>?_) e;have hf:=jo hT;have hn:=hC.nat;rw[lR]at h
 by_cases c4:k=4;rw[af c4]at h;cases h
 rw[ae c4]at h
 by_cases c6:k=6
 ·subst c6;obtain⟨a,b,rfl,ha,hb⟩:=ik (.inl rfl) hT;simp only[ay,nN,aj,ak,ba]at h;rw[wM];rcases h with h|h
  exact gK uG (ih a (by simp) ha x hx h);exact gK uH (ih b (by simp) hb x hx h)
 rw[ae c6]at h
 by_cases c7:k=7;subst c7;obtain⟨a,b,rfl,ha,hb⟩:=ik (.inr rfl) hT;simp only[ay,nN,aj,ak,bA]at h;rw[si,hn];have:=ly (ih a (by simp) ha x hx h.1) (ih b (by simp) hb x hx h.2) (gP hC a ha x x hx hx) (gP hC b hb x x hx hx);rw[FD om]at this;exact gK (nM hx) this
 rw[ae c7]at h
 by_cases c8:k=8
 ·subst c8;obtain⟨a,rfl⟩:=pn hf;have ha:=iF hT a (by simp);rw[Gs,hn,show kB n (fW c a) x x=0 from qm (gP hC a ha) (aw n) hx];exact iB
 rw[ae c8]at h;rw[I8 hC _ hT (zq hC.g hf c4 c6 c7 c8) x x hx hx,af ⟨rfl,h⟩];exact iB
def Yh(hC:xP c n){r:Ex}(hr:f8 c.1 r=true)(hx:x<n)(hy:y<n):lw (fW c r x y) (fW c (ug r).1 x y):=by
 unfold ug
 split;exact Ix hC r hr x y hx hy;exact iB
def HG(hC:xP c n){a:Int}:ng n (gB (oX c a)):=by
 unfold oX
 by_cases h:a.toNat<c.2.2.2.2.length;exact hC.aok _ (ji h)
 intro x y _ _;rw[show c.2.2.2.2.getD a.toNat (none,[])=(none,[])by rw[aE,ed (by omega)];rfl];simp only[gB,List.getD_nil];exact om
def Wz(hC:xP c n){a:Int}{x z:Nat}(hx:x<n)(hz:z<n)(e:Ex):f8 c.1 e=true→∀y,y<n→lw (fW c e x y) (tg (gB (oX c a) x z) (fW c (iI (kG c x) a e).1 z y)):=by
 refine Ex.ind (p:=fun e=>f8 c.1 e=true→∀y,y<n→lw (fW c e x y) (tg (gB (oX c a) x z) (fW c (iI (kG c x) a e).1 z y))) (fun k v nn ks ih hT y hy=>?_) e;have hf:=jo hT;have hn:=hC.nat;have oA:pW (gB (oX c a) x z):=HG hC x z hx hz;have no:∀{q:Int},lw q (tg (gB (oX c a) x z) (fW c zE z y)):=fun {q}=>by rw[show fW c zE z y= -1 from FQ,rp];exact kg
 have fin:∀{q:Int} {r:Ex},f8 c.1 r=true→lw q (tg (gB (oX c a) x z) (fW c r z y))→lw q (tg (gB (oX c a) x z) (fW c (ug r).1 z y)):=fun hr h=>gK h (ly iB (Yh hC hr hz hy) oA (gP hC _ hr z y hz hy));rw[iI]
 by_cases c4:k=4
 ·subst c4;rw[af rfl]
  split
  ·rename_i hv
   subst hv;rw[Of]
   show lw _ (tg _ (fW c oE z y))
   rw[show fW c oE z y=if z=y then 0 else -1 from CQ]
   split
   ·rename_i h
    subst h;rw[Ck oA];exact iB
   rw[rp];exact kg
  exact no
 rw[ae c4]
 by_cases c6:k=6
 ·subst c6;rw[af rfl];obtain⟨p,q,rfl,ha,hb⟩:=ik (.inl rfl) hT;have oa:=jE (a:=kG c x) (c:=a) p ha;have ob:=jE (a:=kG c x) (c:=a) q hb;simp only[mL,JQ]
  split
  ·split
   ·refine fin (by rw[lg (.inl rfl),oa.1,ob.1];rfl) ?_;rw[wM];rw[show fW c (mz 6 (iI (kG c x) a p).1 (iI (kG c x) a q).1) z y=ch _ _ from wM];rcases tI (fW c (iI (kG c x) a p).1 z y) (fW c (iI (kG c x) a q).1 z y)with e|e<;>rw[e]
    exact gK uG (ih p (by simp) ha y hy);exact gK uH (ih q (by simp) hb y hy)
   exact no
  exact no
 rw[ae c6]
 by_cases c7:k=7
 ·subst c7;rw[af rfl];obtain⟨p,q,rfl,ha,hb⟩:=ik (.inr rfl) hT;have oa:=jE (a:=kG c x) (c:=a) p ha;have ob:=jE (a:=kG c x) (c:=a) q hb;have h7T:f8 c.1 (mz 7 (iI (kG c x) a p).1 q)=true:=by rw[lg (.inr rfl),oa.1,hb];rfl
  have h7:lw (fW c (.mk 7 v nn [p,q]) x y) (tg (gB (oX c a) x z) (fW c (mz 7 (iI (kG c x) a p).1 q) z y)):=by
   rw[si,hn,show fW c (mz 7 (iI (kG c x) a p).1 q)=lT c.2.1.toNat _ _ from si,hn];rcases mW (n:=n) (A:=fW c (iI (kG c x) a p).1) (B:=fW c q) (x:=z) (y:=y)with e|⟨w,hw,e⟩
   rw[e,rp];exact kg;rw[e,←sv oA (gP hC _ oa.1 z w hz hw) (gP hC q hb w y hw hy)];exact gK (nM hw) (ly (ih p (by simp) ha w hw) iB (gP hC p ha x w hx hw) (gP hC q hb w y hw hy))
  simp only[mL,JK]
  split
  ·split
   ·rename_i X3
    split
    ·refine fin (by rw[lg (.inl rfl),h7T,ob.1];rfl) ?_;rw[show fW c (mz 6 (mz 7 (iI (kG c x) a p).1 q) (iI (kG c x) a q).1) z y=ch _ _ from wM];rcases tI (fW c (mz 7 (iI (kG c x) a p).1 q) z y) (fW c (iI (kG c x) a q).1 z y)with e|e<;>rw[e]
     exact h7;rw[si,hn];refine gK (nM hx) ?_;refine gK (ly (FZ hC p ha x hx X3) (ih q (by simp) hb y hy) (gP hC p ha x x hx hx) (gP hC q hb x y hx hy)) ?_;rw[FD (OG oA (gP hC _ ob.1 z y hz hy))];exact iB
    exact h7
   exact fin h7T h7
  exact no
 rw[ae c7]
 by_cases c8:k=8
 ·subst c8;rw[af rfl];obtain⟨p,rfl⟩:=pn hf;have ha:=iF hT p (by simp);have oa:=jE (a:=kG c x) (c:=a) p ha;have oP:=gP hC p ha;simp only[mL,CA]
  split
  ·refine fin (by rw[lg (.inr rfl),oa.1,hT];rfl) ?_;rw[show fW c (mz 7 (iI (kG c x) a p).1 (.mk 8 v nn [p]))=lT c.2.1.toNat _ _ from si,hn,Gs,hn];rcases mW (n:=n) (A:=fW c (iI (kG c x) a p).1) (B:=kB n (fW c p)) (x:=z) (y:=y)with e|⟨w,hw,e⟩
   rw[e,rp];exact kg;have oS:ng n (kB n (fW c p)):=kS oP (aw n);rw[e,←sv oA (gP hC _ oa.1 z w hz hw) (oS w y hw hy)];refine gK (yG oP (aw n) hw hx hy) ?_;exact ly (gK (zk oP hx hw) (ih p (by simp) ha w hw)) iB (oS x w hx hw) (oS w y hw hy)
  exact no
 rw[ae c8];exact no
end
def rI(c:Co)(n:Nat)(as cs:List Int):Nat→lA
 |0=>fun x z=>if x=z then 0 else -1
 |k+1=>lT n (fun x u=>if kG c u=as.getD k 0 then rI c n as cs k x u else -1) (gB (oX c (cs.getD k 0)))
def Mp(c:Co)(n:Nat)(as cs:List Int)(k:Nat):lA:=fun x y=>if kG c y=as.getD k 0 then rI c n as cs k x y else -1
section
variable {c:Co}{n:Nat}
variable {as cs:List Int}
def Cw{as' cs':List Int}:∀{k:Nat},k≤as.length→k≤cs.length→rI c n (as++as') (cs++cs') k=rI c n as cs k
 |0,_,_=>rfl
 |k+1,h1,h2=>by
  simp only[rI];rw[Cw (by omega) (by omega),aE,bL (by omega),aE,bL (by omega),←aE,←aE]
def abj{k:Nat}(h:ng n (rI c n as cs k)):ng n (Mp c n as cs k):=fun x y hx hy=>by
 unfold Mp
 split;exact h x y hx hy;exact pX
def B8(hC:xP c n):∀{k:Nat},ng n (rI c n as cs k)
 |0,x,y,_,_=>by
  simp only[rI]
  split;exact om;exact pX
 |k+1,x,y,hx,hy=>yV (abj (B8 hC (k:=k))) (HG hC) x y hx hy
structure sW (g:Int×Int) (L:List Ex) (b:Wo) (s:Nat):Prop where
 sl:s<L.length
 len:b.1.2.length=b.2.2.length
 rel:∀(c:Co)(n:Nat),xP c n→c.1=g→∀x z y,x<n→z<n→y<n→lw (fW c (L.getD 0 zE) x y) (tg (rI c n b.1.2 b.2.2 b.2.2.length x z) (fW c (L.getD s zE) z y))
def oO(g:Int×Int)(L:List Ex)(w:Wo):Prop:=∀(c:Co)(n:Nat),xP c n→c.1=g→∀x y,x<n→y<n→lw (fW c (L.getD 0 zE) x y) (Mp c n w.1.2 w.2.2 w.2.2.length x y)
variable {g:Int×Int}{L:List Ex}{s:Nat}{b:Wo}
def Fi{M:Nat}(hL:∀y∈L,L3 g y)(hb:sW g L b s):∀{a:Nat} {out:List Wo},a≤M→(∀w∈out,oO g L w)→∀w∈B9 (rj M (L.getD s zE)) b a out,oO g L w
 |0,out,_,h=>h
 |a+1,out,ha,h=>by
  have ih:=Fi hL hb (a:=a) (M:=M) (by omega) h;intro w hw;simp only[B9]at hw
  split at hw
  ·split at hw
   ·rename_i Ld
    rcases an.1 hw with hw|hw
    exact ih w hw;rw[au]at hw;subst hw;have X3:lR a (L.getD s zE)=true:=by
     rw[rj,vd (z:=0) (by rw[eb];omega)]at Ld;rw[aE,List.getElem?_range (by omega)]at Ld;exact Ld
    have hsT:=(hL (L.getD s zE) (by rw[aE,bb hb.sl];exact aF hb.sl)).1;intro c n hC hg x y hx hy
    show lw _ (if kG c y=(b.1.2++[(a:Int)]).getD b.2.2.length 0 then rI c n (b.1.2++[(a:Int)]) b.2.2 b.2.2.length x y else -1)
    simp only[qh hb.len.symm]
    split
    ·rename_i he
     have e:rI c n (b.1.2++[(a:Int)]) b.2.2 b.2.2.length=rI c n b.1.2 b.2.2 b.2.2.length:=by
      have:=Cw (c:=c) (n:=n) (as:=b.1.2) (cs:=b.2.2) (as':=[(a:Int)]) (cs':=[]) (k:=b.2.2.length) (by rw[hb.len];exact aw _) (aw _)
      rwa [aI]at this
     rw[e];have Sn:f8 c.1 (L.getD s zE)=true:=by rw[hg];exact hsT
     have oP:pW (rI c n b.1.2 b.2.2 b.2.2.length x y):=B8 hC x y hx hy;have h1:=hb.rel c n hC hg x y y hx hy hy;have h2:=ly (iB (a:=rI c n b.1.2 b.2.2 b.2.2.length x y)) (FZ hC _ Sn y hy (by rw[he];exact X3)) oP (gP hC _ Sn y y hy hy);rw[Ck oP]at h2;exact gK h1 h2
    exact kg
   exact ih w hw
  exact ih w hw
variable {rows:List (List Int)}{C M:Nat}
def Nd(hL:∀y∈L,L3 g y)(hb:sW g L b s)(hr:pK (L.getD s zE) L C rows)(In:rows.length=M){a i:Nat}(ha:a<M)(hc:i<C)(ht:¬((rows.getD a []).getD i 0<0)):
  sW g L (pu b a i) ((rows.getD a []).getD i 0).toNat:=by
 obtain⟨h1,h2⟩:=hr a _ (getD_some (d:=[]) (by omega));rcases h2 i _ (getD_some (d:=0) (by omega))with h3|⟨h3,h4,h5⟩
 omega;generalize (rows.getD a []).getD i 0=t at*;refine⟨by omega,by simp only[pu,lP,hb.len];rfl,fun c n hC hg x z y hx hz hy=>?_⟩;have hsT:=(hL (L.getD s zE) (by rw[aE,bb hb.sl];exact aF hb.sl)).1;have Sn:f8 c.1 (L.getD s zE)=true:=by rw[hg];exact hsT
 simp only[pu,lP,lK,lZ,rI];rw[ahi _ _ h5];rcases mW (n:=n) (A:=fun x u=>if kG c u=(b.1.2++[(a:Int)]).getD b.2.2.length 0 then rI c n (b.1.2++[(a:Int)]) (b.2.2++[(i:Int)]) b.2.2.length x u else -1) (B:=gB (oX c ((b.2.2++[(i:Int)]).getD b.2.2.length 0))) (x:=x) (y:=z)with e|⟨u,hu,e⟩
 rw[e,w3];exact kg;rw[e];clear e;rw[qh hb.len.symm,qh rfl,Cw (by rw[hb.len];exact aw _) (aw _)]
 split
 ·rename_i he
  rw[←he];have oS:=(jE (a:=kG c u) (c:=(i:Int)) _ Sn).1;have oP:pW (rI c n b.1.2 b.2.2 b.2.2.length x u):=B8 hC x u hx hu;rw[sv oP (HG hC u z hu hz) (gP hC _ oS z y hz hy)];exact gK (hb.rel c n hC hg x u y hx hu hy) (ly iB (Wz hC hu hz _ Sn y hy) oP (gP hC _ Sn u y hu hy))
 rw[w3,w3];exact kg
def Dd{M C:Nat}{rec:Nat→Wo→List Wo→List Wo}{rows:List (List Int)}{cr:List Int}(hL:∀y∈L,L3 g y)(hb:sW g L b s)
  (hr:pK (L.getD s zE) L C rows) (In:rows.length=M) (AG:∀s b out,sW g L b s→(∀w∈out,oO g L w)→∀w∈rec s b out,oO g L w) {a:Nat} (ha:a<M):∀{i:Nat} {out:List Wo},i≤C→(∀w∈out,oO g L w)→∀w∈sZ rec (rows.getD a []) cr b a i out,oO g L w
 |0,out,_,h=>h
 |i+1,out,hc,h=>by
  have ih:=Dd hL hb hr In AG ha (cr:=cr) (i:=i) (by omega) h;intro w hw;simp only[sZ]at hw
  split at hw;exact ih w hw
  rename_i ht
  split at hw;exact ih w hw;exact AG _ _ _ (Nd hL hb hr In ha (by omega) ht) ih w hw
def FE{M C:Nat}{rec:Nat→Wo→List Wo→List Wo}{rows:List (List Int)}{cr:List Int}(hL:∀y∈L,L3 g y)(hb:sW g L b s)
  (hr:pK (L.getD s zE) L C rows) (In:rows.length=M) (AG:∀s b out,sW g L b s→(∀w∈out,oO g L w)→∀w∈rec s b out,oO g L w):∀{a:Nat} {out:List Wo},a≤M→(∀w∈out,oO g L w)→∀w∈Eu rec rows cr C b a out,oO g L w
 |0,out,_,h=>h
 |a+1,out,ha,h=>by
  have ih:=FE hL hb hr In AG (cr:=cr) (a:=a) (by omega) h;intro w hw;simp only[Eu]at hw
  split at hw;exact Dd hL hb hr In AG (by omega) (aw _) ih w hw;exact ih w hw
variable {e:Ex}{N:List (List (List Int))}
def AZ{cnt:List (List Int)}(hk:LH g e M C L N)(hn:N.length=L.length):∀{k s:Nat} {b:Wo} {out:List Wo},sW g L b s→(∀w∈out,oO g L w)→∀w∈pi (L.map (rj M)) N cnt M C k s b out,oO g L w
 |0,s,b,out,hb,h=>by
  rw[pi,vd (z:=zE) hb.sl];exact Fi hk.ok hb (aw _) h
 |k+1,s,b,out,hb,h=>by
  rw[pi];have hr:=hk.rows s _ (getD_some (d:=[]) (by rw[hn];exact hb.sl));exact FE hk.ok hb hr.2 hr.1 (fun s b out h1 h3=>AZ hk hn h1 h3) (aw _) h
def RJ(hk:LH g e M C L N)(hL:0<L.length):sW g L Hm 0:=by
 refine⟨hL,rfl,fun c n hC hg x z y hx hz hy=>?_⟩;simp only[lZ,rI]
 split
 ·rename_i h
  subst h;have hT:=(hk.ok (L.getD 0 zE) (by rw[aE,bb hL];exact aF hL)).1;rw[FD (gP hC _ (by rw[hg];exact hT) x y hx hy)];exact iB
 rw[w3];exact kg
def yk{cnt:List (List Int)}(hk:LH g e M C L N)(hn:N.length=L.length)(hL:0<L.length):∀{k:Nat},∀w∈nR (L.map (rj M)) N cnt M C k,oO g L w
 |0,w,h=>by cases h
 |k+1,w,hw=>by
  rw[nR]at hw;exact AZ hk hn (RJ hk hL) (yk hk hn hL) w hw
def Hv{g:Int×Int}{ℓ:Nat}(he:f8 g e=true)(hs:fZ e≤800)(hz:(rF e M C ℓ).2=0):∀w∈(rF e M C ℓ).1,
  ∀(c:Co)(n:Nat),xP c n→c.1=g→∀x y,x<n→y<n→lw (fW c e x y) (Mp c n w.1.2 w.2.2 w.2.2.length x y):=by
 intro w hw;unfold rF at hz hw;cases ju:oU e M C 61 with
 |none=>rw[qk ju]at hz;simp at hz
 |some p=>
  rw[rS ju]at hz hw;obtain⟨L,N⟩:=p;obtain⟨hk,tR⟩:=vT (g:=g) he hs ju;simp only[ay]at hk tR hz hw
  split at hw
  ·have afV:=hk.len;have EW:N.length=L.length:=by have:=hk.le;omega
   have hL:L≠[]:=fun h=>by have:=hk.hd;rw[h]at this;cases this
   have hG:=yk (cnt:=pm (L.map (rj M)) N (ℓ+1)) hk EW (dY.2 hL) w hw;intro c n hC hg x y hx hy;have h0:L.getD 0 zE=jM e:=by
    have:=hk.hd;cases L with
    |nil=>exact absurd rfl hL
    |cons a l=>simpa using this
   have:=hG c n hC hg x y hx hy;rw[h0]at this;exact gK (Ix hC e (by rw[hg];exact he) x y hx hy) this
  cases hw
def IB(hC:xP c n){a:Int}(h0:0≤a)(h1:a<2 ^ c.1.1.toNat){x y:Nat}(hx:x<n)(hy:y<n):fW c (mc a c.1.1.toNat) x y=if x=y then(if kG c x=a then 0 else -1)else -1:=by
 have hg:=lh hC.g;have ha:=BT hC.g (a:=a) (i:=c.1.1.toNat) (by omega);rw[I8 hC _ ha.1 ha.2.1 x y hx hy];obtain⟨b0,b1⟩:=QQ hC.sur x;rw[SK]at b0 b1;have e1:(EF c n).1.1=c.1.1:=rfl;rw[e1]at b1;have aif:∀k:Nat,((2 ^ k:Nat):Int)=2 ^ k:=fun k=>by simp
 have:=ZL c.1.1.toNat (by omega) a.toNat (by have:=aif c.1.1.toNat;omega) (kG c x).toNat (by have:=aif c.1.1.toNat;omega);rw[show((a.toNat:Nat):Int)=a by omega,show(((kG c x).toNat:Nat):Int)=kG c x by omega]at this;rw[this]
 by_cases h:x=y
 ·by_cases h2:kG c x=a
  simp[h,←h2];have:((kG c x).toNat==a.toNat)=false:=by simp;omega
  rw[this];simp[h2]
 simp[h]
def Vq{A D':lA}{p:Nat→Prop}[DecidablePred p](oA:ng n A)(hD:∀z y,z<n→y<n→D' z y=if z=y then(if p z then 0 else -1)else -1){x y:Nat}(hx:x<n)(hy:y<n):lT n A D' x y=if p y then A x y else -1:=by
 have oD:ng n D':=fun z y hz hy=>by
  rw[hD z y hz hy]
  split
  ·split
   exact om;exact pX
  exact pX
 refine Iv ?_ ?_
 ·split
  ·rename_i hp
   have:=nM (A:=A) (B:=D') (x:=x) (y:=y) hy;rw[hD y y hy hy,af rfl,af hp,Ck (oA x y hx hy)]at this;exact this
  exact kg
 rcases mW (n:=n) (A:=A) (B:=D') (x:=x) (y:=y)with e|⟨z,hz,e⟩
 rw[e];exact kg;rw[e,hD z y hz hy]
 by_cases h:z=y
 ·subst h
  by_cases hp:p z;rw[af rfl,af hp,af hp,Ck (oA x z hx hz)];exact iB;rw[af rfl,ae hp,ae hp,rp];exact kg
 rw[ae h,rp];exact kg
def Js(hC:xP c n){w:Wo}(hl:w.1.2.length=w.2.2.length+1)(ha:∀a∈w.1.2,0≤a∧a<2 ^ c.1.1.toNat):∀{k:Nat},k≤w.2.2.length→∀{x y:Nat},x<n→y<n→fW c (mU c.1.1.toNat w.1.2 w.2.2 k) x y=Mp c n w.1.2 w.2.2 k x y
 |0,_,x,y,hx,hy=>by
  have h:=ha _ (ji (d:=0) (show 0<w.1.2.length by omega));rw[mU,IB hC h.1 h.2 hx hy];simp only[Mp,rI]
  by_cases e:x=y;subst e;simp;simp[e]
 |k+1,hk,x,y,hx,hy=>by
  have h:=ha _ (ji (d:=0) (show k+1<w.1.2.length by omega));have hn:=hC.nat;rw[mU,si,si,hn,Of];have e1:∀x y,x<n→y<n→lT n (fW c (mU c.1.1.toNat w.1.2 w.2.2 k)) (gB (oX c (w.2.2.getD k 0))) x y=rI c n w.1.2 w.2.2 (k+1) x y:=fun x y hx hy=>by
   simp only[rI];exact wY (fun u hu=>Js hC hl ha (by omega) hx hu) (fun _ _=>rfl)
  have oA:ng n (lT n (fW c (mU c.1.1.toNat w.1.2 w.2.2 k)) (gB (oX c (w.2.2.getD k 0)))):=fun x y hx hy=>by
   rw[e1 x y hx hy];exact B8 hC x y hx hy
  rw[Vq (p:=fun z=>kG c z=w.1.2.getD (k+1) 0) oA (fun z y hz hy=>IB hC h.1 h.2 hz hy) hx hy,e1 x y hx hy]
  rfl
end
def S7:∀(n:Nat)(p:Nat→Nat),(∀i,i≤n→p i<n)→∃i j,i<j∧j≤n∧p i=p j
 |0,p,h=>absurd (h 0 (aw 0)) (by omega)
 |n+1,p,h=>by
  by_cases h1:∃i,i≤n∧p i=p (n+1)
  ·obtain⟨i,hi,e⟩:=h1;exact⟨i,n+1,by omega,by omega,e⟩
  have h2:∀i,i≤n→p i≠p (n+1):=fun i hi e=>h1 ⟨i,hi,e⟩;obtain⟨i,j,hij,hj,e⟩:=S7 n (fun i=>if p i=n then p (n+1)else p i) fun i hi=>by
   have a1:=h2 i hi;have a2:=h i (by omega);have a3:=h (n+1) (by omega)
   show(if p i=n then p (n+1)else p i)<n
   split<;>omega
  have b1:=h2 i (by omega);have b2:=h2 j hj
  change (if p i=n then p (n+1)else p i)=(if p j=n then p (n+1)else p j)at e
  refine⟨i,j,hij,by omega,?_⟩
  split at e<;>split at e<;>omega
def XJ(R:my)(n l x y:Nat):Prop:=∃p:Nat→Nat,p 0=x∧p l=y∧(∀i,i<l→R (p i) (p (i+1))=true)∧∀i,i≤l→p i<n
variable {n:Nat}{R:my}
def XJ.short:∀(k l x y:Nat),l≤k→XJ R n l x y→∃l',l'<n∧XJ R n l' x y
 |0,l,x,y,hl,h=>by
  obtain⟨p,h0,h1,h2,h3⟩:=h;have:=h3 0 (by omega);exact⟨l,by omega,p,h0,h1,h2,h3⟩
 |k+1,l,x,y,hl,h=>by
  by_cases hn:l<n;exact⟨l,hn,h⟩
  obtain⟨p,h0,h1,h2,h3⟩:=h;obtain⟨i,j,hij,hj,e⟩:=S7 n p fun i hi=>h3 i (by omega);refine XJ.short k (l-(j-i)) x y (by omega) ⟨fun t=>if t≤i then p t else p (t+(j-i)),?_,?_,fun t ht=>?_,fun t ht=>?_⟩;simp only[aq,ay];exact h0
  ·simp only
   split
   ·rename_i h4
    have e1:l-(j-i)=i:=by omega
    have e2:l=j:=by omega
    rw[e1,e,←e2];exact h1
   rw[show l-(j-i)+(j-i)=l by omega];exact h1
  ·simp only
   split<;>split;exact h2 t (by omega)
   ·have e1:t=i:=by omega
    subst e1;rw[e,show t+1+(j-t)=j+1 by omega];exact h2 j (by omega)
   omega;rw[show t+1+(j-i)=t+(j-i)+1 by omega];exact h2 _ (by omega)
  simp only
  split;exact h3 t (by omega);exact h3 _ (by omega)
def XJ.app{a b x y z:Nat}(h:XJ R n a x y)(h':XJ R n b y z):XJ R n (a+b) x z:=by
 obtain⟨p,p0,p1,p2,p3⟩:=h;obtain⟨q,q0,q1,q2,q3⟩:=h';refine⟨fun t=>if t≤a then p t else q (t-a),by simpa using p0,?_,fun t ht=>?_,fun t ht=>?_⟩
 ·simp only
  split
  ·rename_i h
   obtain rfl:b=0:=by omega
   rw[ah,p1,←q0];exact q1
  rw[show a+b-a=b by omega];exact q1
 ·simp only
  split<;>split;exact p2 t (by omega)
  ·obtain rfl:t=a:=by omega
   rw[show t+1-t=0+1 by omega,p1,←q0];exact q2 0 (by omega)
  omega;rw[show t+1-a=t-a+1 by omega];exact q2 _ (by omega)
 simp only
 split;exact p3 t (by omega);exact q3 _ (by omega)
def B5:∀{k x y:Nat},k≤n→x<n→y<n→mT R k x y=true→∃l,XJ R n l x y
 |0,x,y,_,hx,hy,h=>by
  simp only[mT,ba]at h;rcases h with h|h
  ·refine⟨1,fun t=>if t=0 then x else y,by simp,by simp,fun i hi=>?_,fun i hi=>?_⟩
   ·obtain rfl:i=0:=by omega
    simpa using h
   simp only;split<;>assumption
  have:x=y:=by simpa using h
  subst this;exact⟨0,fun _=>x,rfl,rfl,fun i hi=>by omega,fun i hi=>hx⟩
 |k+1,x,y,hk,hx,hy,h=>by
  simp only[mT,ba,bA]at h;rcases h with h|⟨h1,h2⟩
  exact B5 (by omega) hx hy h;obtain⟨a,ha⟩:=B5 (by omega) hx (by omega) h1;obtain⟨b,hb⟩:=B5 (by omega) (by omega) hy h2;exact⟨_,ha.app hb⟩
def Gl{A:lA}(o:ng n A){B:Int}(hB0:0≤B){p:Nat→Nat}:∀{l:Nat},(l:Int)*B≤1000000→(∀i,i≤l→p i<n)→(∀i,i<l→A (p i) (p (i+1))≠-1∧A (p i) (p (i+1))≤B)→kB n A (p 0) (p l)≠-1∧kB n A (p 0) (p l)≤l*B
 |0,_,h1,_=>by
  rw[show kB n A (p 0) (p 0)=0 from qm o (aw n) (h1 0 (aw 0))];exact⟨by omega,by simp⟩
 |l+1,hl,h1,h2=>by
  have e:((l+1:Nat):Int)*B=l*B+B:=by rw[Int.natCast_add,Int.add_mul];simp
  rw[e]at hl⊢;have ih:=Gl o hB0 (p:=p) (l:=l) (by omega) (fun i hi=>h1 i (by omega)) (fun i hi=>h2 i (by omega));have hs:=h2 l (by omega);have oS:ng n (kB n A):=kS o (aw n);have b0:=h1 0 (by omega);have bl:=h1 l (by omega);have bm:=h1 (l+1) (by omega);have t1:lw (kB n A (p 0) (p (l+1))) (tg (kB n A (p 0) (p l)) (kB n A (p l) (p (l+1)))):=yG o (aw n) bl b0 bm;have t2:=gK t1 (ly (iB (a:=kB n A (p 0) (p l))) (zk o bl bm) (oS _ _ b0 bl) (oS _ _ bl bm));have ov:=o _ _ bl bm;have ou:=oS _ _ b0 bl;unfold pW at ov ou;generalize kB n A (p 0) (p (l+1))=s at*;generalize kB n A (p 0) (p l)=u at*;generalize A (p l) (p (l+1))=v at*;unfold lw tg at t2
  split at t2<;>omega
def yU{A:lA}(hR:∀x y,x<n→y<n→A x y≠-1→R x y=true):∀{k x y:Nat},k≤n→x<n→y<n→iK A k x y≠-1→mT R k x y=true
 |0,x,y,_,hx,hy,h=>by
  simp only[iK,Kt]at h;simp only[mT,ba]
  split at h
  ·rename_i e;right;simpa using e
  exact .inl (hR x y hx hy h)
 |k+1,x,y,hk,hx,hy,h=>by
  simp only[iK]at h;simp only[mT,ba,bA];rcases tI (iK A k x y) (tg (iK A k x k) (iK A k k y))with e|e<;>rw[e]at h
  exact .inl (yU hR (by omega) hx hy h);refine .inr ⟨yU hR (by omega) hx (by omega) fun e=>?_,yU hR (by omega) (by omega) hy fun e=>?_⟩;rw[e,w3]at h;exact h rfl;rw[e,rp]at h;exact h rfl
section
variable {c:Co}{n:Nat}
def Qj{v:Int}{x:Nat}:xb (j5 c n) v x=EK c v x:=by
 unfold xb EK j5;simp only[aE,fH];cases c.2.2.1.2[v.toNat]?<;>rfl
def SN{v:Int}(h:v.toNat<c.2.2.2.2.length){x y:Nat}(hx:x<n)(hy:y<n):kD (tN (j5 c n) v) x y=(gB (oX c v) x y != -1):=by
 unfold tN oX j5;simp only[aE,fH];rw[bb h];simp only[dJ,dy];rw[Aw hx hy]
 rfl
def I0{a b:Nat}:20*3 ^ a+20*3 ^ b≤20*3 ^ (max a b+1):=by
 have h1:3 ^ a≤3 ^ max a b:=fI (by omega) (by omega);have h2:3 ^ b≤3 ^ max a b:=fI (by omega) (by omega);rw[Nat.pow_succ];omega
def HQ{a:Nat}(h:a≤7):3 ^ a≤2187:=cB (fI (by omega) h) (by decide)
def Ya(hC:xP c n)(hn4:n≤4)(hB:∀a∈c.2.2.2.2,∀x y,x<n→y<n→gB a x y≤20)(e:Ex):f8 c.1 e=true→ip e≤7→
  (∀x y,x<n→y<n→fW c e x y≤((20*3 ^ ip e:Nat):Int))∧∀x y,x<n→y<n→gS (j5 c n) e x y=(fW c e x y != -1):=by
 refine Ex.ind (p:=fun e=>f8 c.1 e=true→ip e≤7→(∀x y,x<n→y<n→fW c e x y≤((20*3 ^ ip e:Nat):Int))∧∀x y,x<n→y<n→gS (j5 c n) e x y=(fW c e x y != -1)) (fun k v nn ks ih hT hs=>?_) e;have hf:=jo hT;have hk:=iF hT;have hn:=hC.nat;have hm:(j5 c n).2.1.toNat=n:=by simp[j5]
 have p0:∀a:Nat,0<3 ^ a:=fun a=>Nat.pos_of_ne_zero (by intro h;have:=Nat.pow_eq_zero.1 h;omega);have hv:k=4→v.toNat<c.2.2.2.2.length:=fun h4=>by
  have hK:=x5 hC.sur hf;cases hK with
  |act _ _ _ h1=>simpa[EF]using h1
  |zero h=>omega
  |one h=>omega
  |test h=>omega
  |nt h=>omega
  |sum h=>omega
  |dot h=>omega
  |star h=>omega
 rw[mB]at hs⊢;rcases DZ hC.g hf with⟨rfl,rfl⟩|⟨rfl,rfl⟩|⟨rfl,rfl,w,rfl,_⟩|⟨rfl,rfl,w,rfl,_⟩|⟨rfl,a,rfl⟩|⟨rfl,a,b,rfl⟩|⟨rfl,a,b,rfl⟩|⟨rfl,a,rfl⟩
 ·exact⟨fun x y _ _=>by rw[FQ];omega,fun x y _ _=>by rw[FQ,Dl];rfl⟩
 ·refine⟨fun x y _ _=>by rw[CQ];split<;>omega,fun x y _ _=>?_⟩;rw[CQ,Aj]
  by_cases h:x=y<;>simp[h]
 ·refine⟨fun x y _ _=>by rw[T0];split<;>(try split)<;>omega,fun x y _ _=>?_⟩;rw[T0,T4,Qj]
  by_cases h:x=y<;>cases EK c (w:Int) x<;>simp[h]
 ·refine⟨fun x y hx hy=>?_,fun x y hx hy=>?_⟩;rw[Of];have:=hB _ (ji (d:=(none,[])) (hv rfl)) x y hx hy;have q:=p0 (1+iQ []);unfold oX;omega;rw[Of,TE,SN (hv rfl) hx hy]
 ·have hi:=ih a (by simp) (hk a (by simp)) (by simp only[iQ]at hs;omega);refine⟨fun x y _ _=>by rw[S3];split<;>(try split)<;>omega,fun x y hx hy=>?_⟩;rw[S3,V0,hi.2 x x hx hx]
  by_cases h:x=y<;>by_cases h2:fW c a x x= -1<;>simp[h,h2];subst h;simp[h2];subst h;simp[h2]
 ·simp only[iQ]at hs⊢;have ha:=ih a (by simp) (hk a (by simp)) (by omega);have hb:=ih b (by simp) (hk b (by simp)) (by omega);have ps:=I0 (a:=ip a) (b:=ip b);rw[show 1+max (ip a) (max (ip b) 0)=max (ip a) (ip b)+1 by omega];refine⟨fun x y hx hy=>?_,fun x y hx hy=>?_⟩
  ·rw[wM];have h1:=ha.1 x y hx hy;have h2:=hb.1 x y hx hy;rcases tI (fW c a x y) (fW c b x y)with e|e<;>rw[e]<;>omega
  rw[wM,tu,ha.2 x y hx hy,hb.2 x y hx hy]
  by_cases h1:fW c a x y= -1;rw[h1,adm];simp
  by_cases h2:fW c b x y= -1
  rw[h2];simp[ch,h1];rcases tI (fW c a x y) (fW c b x y)with e|e<;>rw[e]<;>simp[h1,h2]
 ·simp only[iQ]at hs⊢;have ha:=ih a (by simp) (hk a (by simp)) (by omega);have hb:=ih b (by simp) (hk b (by simp)) (by omega);have ps:=I0 (a:=ip a) (b:=ip b);have q1:=HQ (a:=ip a) (by omega);have q2:=HQ (a:=ip b) (by omega);rw[show 1+max (ip a) (max (ip b) 0)=max (ip a) (ip b)+1 by omega];have key:∀x y z,x<n→y<n→z<n→fW c a x z≠-1→fW c b z y≠-1→tg (fW c a x z) (fW c b z y)=fW c a x z+fW c b z y∧fW c a x z+fW c b z y≠-1:=fun x y z hx hy hz h1 h2=>by
   have o1:=gP hC a (hk a (by simp)) x z hx hz;have o2:=gP hC b (hk b (by simp)) z y hz hy;have b1:=ha.1 x z hx hz;have b2:=hb.1 z y hz hy;unfold pW at o1 o2;unfold tg;rw[ae (by omega)];omega
  refine⟨fun x y hx hy=>?_,fun x y hx hy=>?_⟩
  ·rw[si,hn];rcases mW (n:=n) (A:=fW c a) (B:=fW c b) (x:=x) (y:=y)with e|⟨z,hz,e⟩
   rw[e];omega;rw[e];have b1:=ha.1 x z hx hz;have b2:=hb.1 z y hz hy;unfold tg
   split<;>omega
  rw[si,sX,hn,hm,dx,iJ,cy];constructor
  ·rintro⟨z,hz,h1,h2⟩;rw[ha.2 x z hx hz,cy]at h1;rw[hb.2 z y hz hy,cy]at h2;have mM:=key x y z hx hy hz h1 h2;have hl:=nM (A:=fW c a) (B:=fW c b) (x:=x) (y:=y) hz;unfold lw at hl;omega
  intro h;rcases mW (n:=n) (A:=fW c a) (B:=fW c b) (x:=x) (y:=y)with e|⟨z,hz,e⟩
  exact absurd e h;rw[e]at h;refine⟨z,hz,?_,?_⟩;rw[ha.2 x z hx hz,cy];intro h1;rw[h1,w3]at h;exact h rfl;rw[hb.2 z y hz hy,cy];intro h1;rw[h1,rp]at h;exact h rfl
 simp only[iQ]at hs⊢;have ha:=ih a (by simp) (hk a (by simp)) (by omega);have o:=gP hC a (hk a (by simp));have q1:=HQ (a:=ip a) (by omega);rw[show 1+max (ip a) 0=ip a+1 by omega];have key:∀x y,x<n→y<n→sn n (gS (j5 c n) a) x y=true→kB n (fW c a) x y≠-1∧kB n (fW c a) x y≤((20*3 ^ (ip a+1):Nat):Int):=fun x y hx hy h=>by
  obtain⟨l,hl⟩:=B5 (aw n) hx hy h;obtain⟨l,hln,p,h0,h1,h2,h3⟩:=XJ.short l l x y (aw l) hl;have hl3:(l:Int)*((20*3 ^ ip a:Nat):Int)≤3*((20*3 ^ ip a:Nat):Int):=Int.mul_le_mul_of_nonneg_right (by omega) (by omega);have:=Gl o (B:=((20*3 ^ ip a:Nat):Int)) (by omega) (p:=p) (l:=l) (by omega) h3 fun i hi=>⟨by
   have:=h2 i hi;rw[ha.2 _ _ (h3 i (by omega)) (h3 (i+1) (by omega)),cy]at this;exact this,ha.1 _ _ (h3 i (by omega)) (h3 (i+1) (by omega))⟩
  rw[h0,h1]at this;refine⟨this.1,?_⟩;rw[Nat.pow_succ];omega
 have back:∀x y,x<n→y<n→kB n (fW c a) x y≠-1→sn n (gS (j5 c n) a) x y=true:=fun x y hx hy h=>
  yU (fun x y hx hy h=>by rw[ha.2 x y hx hy,cy];exact h) (aw n) hx hy h
 refine⟨fun x y hx hy=>?_,fun x y hx hy=>?_⟩
 ·rw[Gs,hn]
  by_cases h:kB n (fW c a) x y= -1;rw[h];omega;exact(key x y hx hy (back x y hx hy h)).2
 rw[Gs,DW,hn,hm,dx,cy];exact⟨fun h=>(key x y hx hy h).1,back x y hx hy⟩
end
set_option maxRecDepth 20000
def cC(G:Int→Int→Int→Int×Int×Int)(R:my)(x:Nat):Nat→lA×Int×Int→lA×Int×Int
 |0,r=>r
 |y+1,r=>if R x y=true then(wk (cC G R x y r).1 x y (G 20 (cC G R x y r).2.1 (cC G R x y r).2.2).1,(G 20 (cC G R x y r).2.1 (cC G R x y r).2.2).2)else cC G R x y r
def rC(G:Int→Int→Int→Int×Int×Int)(R:my)(p:Nat):Nat→Int×Int→lA×Int×Int
 |0,s=>(fun _ _=> -1,s)
 |x+1,s=>cC G R x p (rC G R p x s)
def aC(G:Int→Int→Int→Int×Int×Int)(Rs:Nat→my)(p:Nat):Nat→Int×Int→Int×Int
 |0,s=>s
 |i+1,s=>(rC G (Rs i) p p (aC G Rs p i s)).2
section
variable {P:Program}{f1:Nat}{nn:Option Bool}{c:List Int}{G:Int→Int→Int→Int×Int×Int}
def Ou(hG:vg P f1 nn c G){R:my}{x:Nat}:∀(y:Nat)(r:lA×Int×Int),0≤r.2.1→r.2.1+2*y≤400000000→r.2.1≤(cC G R x y r).2.1∧(cC G R x y r).2.1≤r.2.1+2*y
 |0,r,h0,h1=>by simp[cC]
 |y+1,r,h0,h1=>by
  obtain⟨i1,i2⟩:=Ou (R:=R) (x:=x) hG y r h0 (by omega);obtain⟨p1,p2,_⟩:=hG 20 (cC G R x y r).2.1 (cC G R x y r).2.2 (by omega) (by omega);simp only[cC];push_cast
  split
  ·exact⟨by simp only;omega,by simp only;omega⟩
  exact⟨by omega,by omega⟩
def ab4(hG:vg P f1 nn c G){R:my}{x:Nat}:∀(y:Nat)(r:lA×Int×Int),0≤r.2.1→r.2.1+2*y≤400000000→(∀a b,-1≤r.1 a b∧r.1 a b≤20)→∀a b,-1≤(cC G R x y r).1 a b∧(cC G R x y r).1 a b≤20
 |0,r,h0,h1,h=>by simpa[cC]using h
 |y+1,r,h0,h1,h=>by
  have ih:=ab4 (R:=R) (x:=x) hG y r h0 (by omega) h;obtain⟨i1,i2⟩:=Ou (R:=R) (x:=x) hG y r h0 (by omega);obtain⟨_,_,p3,_,p5,_⟩:=hG 20 (cC G R x y r).2.1 (cC G R x y r).2.2 (by omega) (by omega);have p5:=p5 (by omega);intro a b;simp only[cC]
  split
  ·simp only[wk]
   split;omega;exact ih a b
  exact ih a b
variable {p:Nat}
def NI(hG:vg P f1 nn c G){R:my}(hp:p≤8):∀(x:Nat)(s:Int×Int),0≤s.1→s.1+16*x≤300000000→s.1≤(rC G R p x s).2.1∧(rC G R p x s).2.1≤s.1+16*x
 |0,s,h0,h1=>by simp[rC]
 |x+1,s,h0,h1=>by
  obtain⟨i1,i2⟩:=NI (R:=R) hG hp x s h0 (by omega);obtain⟨p1,p2⟩:=Ou hG (R:=R) (x:=x) p (rC G R p x s) (by omega) (by omega);simp only[rC];push_cast;exact⟨by omega,by omega⟩
def acj(hG:vg P f1 nn c G){R:my}(hp:p≤8):∀(x:Nat)(s:Int×Int),0≤s.1→s.1+16*x≤300000000→∀a b,-1≤(rC G R p x s).1 a b∧(rC G R p x s).1 a b≤20
 |0,s,h0,h1=>fun a b=>by simp[rC]
 |x+1,s,h0,h1=>by
  obtain⟨i1,i2⟩:=NI (R:=R) hG hp x s h0 (by omega);simp only[rC];exact ab4 hG p _ (by omega) (by omega) (acj hG hp x s h0 (by omega))
def NJ(hG:vg P f1 nn c G){Rs:Nat→my}(hp:p≤8):∀(i:Nat)(s:Int×Int),0≤s.1→s.1+128*i≤200000000→s.1≤(aC G Rs p i s).1∧(aC G Rs p i s).1≤s.1+128*i
 |0,s,h0,h1=>by simp[aC]
 |i+1,s,h0,h1=>by
  obtain⟨i1,i2⟩:=NJ (Rs:=Rs) hG hp i s h0 (by omega);obtain⟨p1,p2⟩:=NI hG (R:=Rs i) hp p (aC G Rs p i s) (by omega) (by omega);simp only[aC];push_cast;exact⟨by omega,by omega⟩
end
def coF(G:Int→Int→Int→Int×Int×Int)(Rs:Nat→my)(mo:Mo)(p:Nat)(s:Int×Int):Co:=
 (mo.1,mo.2.1,mo.2.2.1,(CM mo.2.2.2.2.length,g7 mo.2.2.2.2.length fun i=>oY p (rC G (Rs i) p p (aC G Rs p i s)).1))
variable {R:lA}{n:Nat}
def U0{r:SL Int}(h:r∈(oY n R).2):∃x,x<n∧r=(some false,g7 n (R x)):=by
 unfold oY at h;obtain⟨x,hx,e⟩:=pl h;exact⟨x,hx,e.symm⟩
variable {f1:Nat}{P:Program}
def ad2{nn:Option Bool}{c:List Int}{G:Int→Int→Int→Int×Int×Int}(hG:vg P f1 nn c G){Rs:Nat→my}{mo:Mo}{p:Nat}{s:Int×Int}(XS:wh mo=true)(hM:we mo p)(h0:0≤s.1)(hb:s.1≤100000000):
  pE (coF G Rs mo p s)=true∧∀a∈(coF G Rs mo p s).2.2.2.2,∀x y,x<p→y<p→gB a x y≤20:=by
 have hg:=lh hM.g;have SI:=hM.al;have SH:=hM.n8;have zc:∀i,i<mo.2.2.2.2.length→∀a b,-1≤(rC G (Rs i) p p (aC G Rs p i s)).1 a b∧(rC G (Rs i) p p (aC G Rs p i s)).1 a b≤20:=fun i hi=>by
  obtain⟨b1,b2⟩:=NJ hG (Rs:=Rs) SH i s h0 (by omega);exact acj hG SH p _ (by omega) (by omega)
 constructor
 ·simp only[wh,bA]at XS;have XI:mo.2.1=(p:Int):=hM.Cf;simp only[pE,coF,bA,XS.1,it,g8,cT,aU,aM];refine⟨SI,fun a ha=>?_⟩;obtain⟨i,hi,rfl⟩:=pl ha;simp only[w6,it,bA,aU,aM];refine⟨by rw[XI];simp[oY,g8],fun r hr=>?_⟩;obtain⟨x,hx,rfl⟩:=U0 hr;simp only[BB,it,qT,bA,aU,aM,jz];refine⟨by rw[XI,g8],fun v hv=>?_⟩;obtain⟨y,hy,rfl⟩:=pl hv;have:=zc i hi x y;omega
 intro a ha x y hx hy;obtain⟨i,hi,rfl⟩:=pl ha;rw[so hx hy];exact(zc i hi x y).2
def aff{G:Int→Int→Int→Int×Int×Int}{Rs:Nat→my}{g1 g2 pI:Int}{Tn An:Option Bool}{Ts:List (SL Bool)}{As:List (SL (SL Bool))}{p:Nat}{s:Int×Int}:pc (coF G Rs ((g1,g2),pI,(Tn,Ts),(An,As)) p s)=
  .ag [.sc (.int .i64 g1),.sc (.int .i64 g2),.sc (.int .i64 pI),.ls Tn 1 (Ts.map (eS 1 eB)),.ls (CM As.length) 1 (g7 As.length fun i=>.ls (some false) 1 (mD p (rC G (Rs i) p p (aC G Rs p i s)).1))]:=by
 have h:∀g:Nat→lA,(g7 As.length fun i=>oY p (g i)).map (eS 1 (eS 1 eI))=g7 As.length fun i=>.ls (some false) 1 (mD p (g i)):=fun g=>by rw[mj];unfold g7;exact cA fun i _=>sx
 rw[←h]
 rfl
def uf(f1 f2 f3:Nat):RC:=(.s [.b 4 2 1,.o (.zer 6 5 (.ag [(.sc (.int .i64 0)),(.sc (.int .i64 0)),(.sc (.int .i64 0)),(.ls (some true) 1 []),(.ls (some true) 1 [])]))] (.s [.m 13 0,.L 14 2 4,.o (.sH (some 15) f1 [.t 13,.t 14,.ci 4]),.o (.zer 7 5 (.ag [(.sc (.int .i64 0)),(.sc (.int .i64 0)),(.sc (.int .i64 0)),(.ls (some true) 1 []),(.ls (some true) 1 [])])),.s 5 7 15] (.s [.L 16 2 4,.f 17 2 7,.l 18 1 17,.f 19 3 7,.l 20 1 19,.o (.bld 21 (.ag [(.sc (.int .i64 0)),(.sc (.int .i64 0)),(.sc (.int .i64 0)),(.ls (some true) 1 []),(.ls (some true) 1 [])]) [(0,2,(.t 16)),(2,1,(.t 18)),(3,1,(.t 20))]),.o (.zer 8 5 (.ag [(.sc (.int .i64 0)),(.sc (.int .i64 0)),(.sc (.int .i64 0)),(.ls (some true) 1 []),(.ls (some true) 1 [])])),.s 5 8 21] (.seq (.s [.v 9 (.ci 0)] (.gX 0 (.loop (.seq (.s [.m 22 9,.f 23 4 7,.l 24 1 23,.o (.len 25 (.t 24)),.o (.bin 26 .lss (.t 22) (.t 25))] (.cond (.t 26) .skip (.exit 0))) (.seq (.gX 1 (.s [.f 29 2 7,.l 30 1 29,.c 31 f2 [.t 30],.m 10 31] (.seq (.s [.v 11 (.ci 0)] (.gX 2 (.loop (.seq (.s [.m 32 11,.m 33 10,.o (.len 34 (.t 33)),.o (.bin 35 .lss (.t 32) (.t 34))] (.cond (.t 35) .skip (.exit 2))) (.seq (.gX 3 (.s [.v 12 (.ci 0)] (.gX 4 (.loop (.seq (.s [.m 38 12,.m 39 10,.o (.len 40 (.t 39)),.o (.bin 41 .lss (.t 38) (.t 40))] (.cond (.t 41) .skip (.exit 4))) (.seq (.gX 5 (.s [.f 44 4 7,.l 45 1 44,.m 46 9,.o (.ia 47 1 (.t 45) (.t 46)),.l 48 1 47,.m 49 11,.o (.ia 50 1 (.t 48) (.t 49)),.l 51 1 50,.m 52 12,.o (.ia 53 1 (.t 51) (.t 52)),.l 54 1 53] (.cond (.t 54) (.KN [.m 55 10,.m 56 11,.o (.ia 57 1 (.t 55) (.t 56)),.l 58 1 57,.m 59 12,.m 60 0,.m 61 2] (.br [(.ia 57 1 (.t 55) (.t 56)),(.ld 58 false 1 (.t 57))] [(.o (.sH (some 62) f3 [.t 60,.t 61]),(.br [(.ia 57 1 (.t 55) (.t 56)),(.ld 58 false 1 (.t 57))] [(.o (.ia 63 1 (.t 58) (.t 59)),(.br [] [(.s 1 63 62,(.br [] []))]))]))])) .skip))) (.r [.m 42 12,.o (.bin 43 .add (.t 42) (.ci 1)),.m 12 43]))))))) (.r [.m 36 11,.o (.bin 37 .add (.t 36) (.ci 1)),.m 11 37])))))) (.r [.f 64 4 8,.l 65 1 64,.m 66 10,.o (.bs 67 1 (.ls (some true) 1 []) 1 [(0,(.t 66))]),.o (.app 68 1 24 (.t 65) (.t 67)),.f 69 4 8,.s 1 69 68])))) (.r [.m 27 9,.o (.bin 28 .add (.t 27) (.ci 1)),.m 9 28])))))) (.s [.L 70 5 8,.s 5 6 70] .ret)))))
def qu(P:Program)(iV:Nat):Prop:=∀(nn:Option Bool)(c:List Int)(a sd:Int)(g:Int×Int),nW c→oC g=true→0≤a→a≤10000000→∃a' Es co,a≤a'∧a'≤a+3000∧co.1=g∧pE co=true∧co.2.1≤4∧1≤co.2.1∧(∀r∈co.2.2.1.2,r.1=some false)∧∃p:Nat,co.2.1=p∧(∀M∈co.2.2.2.2,∀x y,x<p→y<p→gB M x y≤20)∧Lh P iV [uS nn c a sd] [.pw 3000000000 0 0,.im none (eG g),.im none (eI 20)] [uS nn c a' Es] (.own (pc co))
variable {f2 f3 g:Nat}
def Cu(hm:Mx P)(hr:il P g=some (71,uf f1 f2 f3,[.c 6 5 true]))(iS:Ap P f1)(jw:nD P f2)(pd:lL P f3):qu P g:=by
 intro nn c a sd g hc hg h0 hA;obtain⟨a0,sd0,mo,s1,s2,s3,s4,s5,s6,s7,hE⟩:=iS nn c a sd g 4 hc hg h0 (by omega) (by omega) (by omega);obtain⟨G,hG⟩:=IM pd nn hc;obtain⟨p,hM⟩:=G9 s4;have XI:=hM.Cf;have SH:=hM.n8;have SI:=hM.al;have hgg:=lh hM.g;obtain⟨s,xH,Eb⟩:∃s:Int×Int,a0=s.1∧sd0=s.2:=⟨(a0,sd0),rfl,rfl⟩;subst xH Eb;obtain⟨Rs,hRs⟩:∃Rs:Nat→my,∀i,Rs i=kD (mo.2.2.2.2.getD i (none,[])):=⟨_,fun _=>rfl⟩;have XA:=ad2 (Rs:=Rs) (s:=s) hG s4 hM (by omega) (by omega);obtain⟨⟨g1,g2⟩,pI,⟨Tn,Ts⟩,An,As⟩:=mo;simp only at s3 s5 s6 s7 XI SI hgg hRs;subst s3 XI;obtain⟨t3,t4⟩:=NJ hG (Rs:=Rs) SH As.length s (by omega) (by omega);refine⟨(aC G Rs p As.length s).1,(aC G Rs p As.length s).2,coF G Rs ((g1,g2),(p:Int),(Tn,Ts),(An,As)) p s,by omega,by omega,rfl,XA.1,s5,s6,s7,p,rfl,XA.2,?_⟩;rw[aff];refine gN (wv:=.no) hr hm rfl rfl rfl fun hb ha=>?_;simp+contextual-implicitDefEqProofs only[uf,uS,gm,eI,eG,D.size,D.fS,D.fX,D.sub,bne,bN,bU,go_sem];refine gd [3000000000] [] (by rfl) (by rfl) (by rfl) hE rfl (by simp[iv,ij,uS,gm,fO,D.gl,ii,AV.hZ,gU,ir,U.hZ,St.unit,lu]) ?_;simp+contextual-implicitDefEqProofs only[uS,gm,eI,eM,eS,D.put,D.cells,D.size,D.fS,D.fX,D.sub,fU,fO,bne,bN,bI,bU,bJ,eO,bP,aL,go_sem,Nat.reduceSub];refine gL (α:=Nat) [9,10,11,12,22,23,24,25,26,27,28,29,30,31,32,33,34,35,36,37,38,39,40,41,42,43,44,45,46,47,48,49,50,51,52,53,54,55,56,57,58,59,60,61,62,63,64,65,66,67,68,69] (fun i=>[(9,.im none (.sc (.int .i64 i)))]) (fun i=>[(8,.ar true (some false) 5 [.ag [.sc (.int .i64 g1),.sc (.int .i64 g2),.sc (.int .i64 p),.ls Tn 1 (Ts.map (eS 1 eB)),.ls (CM i) 1 (g7 i fun(q:Nat)=>.ls (some false) 1 (mD p (rC G (Rs q) p p (aC G Rs p q s)).1))]]),(7,.ar true (some false) 5 [.ag [.sc (.int .i64 g1),.sc (.int .i64 g2),.sc (.int .i64 p),.jk,.ls An 1 (As.map (eS 1 (eS 1 eB)))]]),(6,.ar true (some false) 5 [.ag [.sc (.int .i64 0),.sc (.int .i64 0),.sc (.int .i64 0),.ls (some true) 1 [],.ls (some true) 1 []]]),(4,.ar false (some false) 2 [.ag [.sc (.int .i64 g1),.sc (.int .i64 g2)]]),(3000000000,.ar false none 3 [.ag [.ls nn 1 (c.map eU),.sc (.int .i64 ((aC G Rs p i s)).1),.sc (.int .u64 ((aC G Rs p i s)).2)]])]) (fun i=>i≤As.length) (fun i=>As.length-i) 0 (gO.to [] (by simp only[go_sem];rfl) rfl (by simp[CM,Ad,aC]) (by rfl) (by simp only[fR,go_sem,iD,iP]<;>simp)) (aq _) ?_;intro i wd;obtain⟨ai1,ai2⟩:=NJ hG (Rs:=Rs) SH i s (by omega) (by omega)
 by_cases hi:i<As.length
 ·have hA4:As.length≤4:=by omega
  have e1:D.at (As.map (eS 1 (eS 1 eB))) i=eS 1 (eS 1 eB) (As.getD i (none,[])):=jJ hi;have hSq:=hM.asq _ (ji (d:=(none,[])) hi);have hRi:=hRs i;generalize hAi:As.getD i (none,[])=Ai at e1 hSq hRi;obtain⟨Ain,Ail⟩:=Ai;have hlen:=hSq.len;simp only at hlen;simp+contextual-implicitDefEqProofs only[hi,iL,D.fX,D.sub,lM,go_sem];refine fL (ds:=[eI p]) (by rfl) (jw p (by omega)) ?_;simp+contextual-implicitDefEqProofs only[iG,bne,bN,bU,go_sem];refine gL (α:=Nat) [11,12,32,33,34,35,36,37,38,39,40,41,42,43,44,45,46,47,48,49,50,51,52,53,54,55,56,57,58,59,60,61,62,63] (fun x=>[(11,.im none (.sc (.int .i64 x)))]) (fun x=>[(31,.ar true (some false) 1 (mD p (rC G (Rs i) p x (aC G Rs p i s)).1)),(8,.ar true (some false) 5 [.ag [.sc (.int .i64 g1),.sc (.int .i64 g2),.sc (.int .i64 p),.ls Tn 1 (Ts.map (eS 1 eB)),.ls (CM i) 1 (g7 i fun(q:Nat)=>.ls (some false) 1 (mD p (rC G (Rs q) p p (aC G Rs p q s)).1))]]),(7,.ar true (some false) 5 [.ag [.sc (.int .i64 g1),.sc (.int .i64 g2),.sc (.int .i64 p),.jk,.ls An 1 (As.map (eS 1 (eS 1 eB)))]]),(6,.ar true (some false) 5 [.ag [.sc (.int .i64 0),.sc (.int .i64 0),.sc (.int .i64 0),.ls (some true) 1 [],.ls (some true) 1 []]]),(4,.ar false (some false) 2 [.ag [.sc (.int .i64 g1),.sc (.int .i64 g2)]]),(3000000000,.ar false none 3 [.ag [.ls nn 1 (c.map eU),.sc (.int .i64 ((rC G (Rs i) p x (aC G Rs p i s)).2).1),.sc (.int .u64 ((rC G (Rs i) p x (aC G Rs p i s)).2).2)]])]) (fun x=>x≤p) (fun x=>p-x) 0 (gO.to [] (by simp only[go_sem];rfl) rfl (by simp[rC]) (by rfl) (by simp only[fR,go_sem,iD,iP]<;>simp)) (aq _) ?_
  intro x XB;obtain⟨xi1,xi2⟩:=NI hG (R:=Rs i) SH x (aC G Rs p i s) (by omega) (by omega)
  by_cases hx:x<p
  ·simp+contextual-implicitDefEqProofs only[hx,iL,go_sem];refine gL (α:=Nat) [12,38,39,40,41,42,43,44,45,46,47,48,49,50,51,52,53,54,55,56,57,58,59,60,61,62,63] (fun y=>[(12,.im none (.sc (.int .i64 y)))]) (fun y=>[(31,.ar true (some false) 1 (mD p (cC G (Rs i) x y (rC G (Rs i) p x (aC G Rs p i s))).1)),(8,.ar true (some false) 5 [.ag [.sc (.int .i64 g1),.sc (.int .i64 g2),.sc (.int .i64 p),.ls Tn 1 (Ts.map (eS 1 eB)),.ls (CM i) 1 (g7 i fun(q:Nat)=>.ls (some false) 1 (mD p (rC G (Rs q) p p (aC G Rs p q s)).1))]]),(7,.ar true (some false) 5 [.ag [.sc (.int .i64 g1),.sc (.int .i64 g2),.sc (.int .i64 p),.jk,.ls An 1 (As.map (eS 1 (eS 1 eB)))]]),(6,.ar true (some false) 5 [.ag [.sc (.int .i64 0),.sc (.int .i64 0),.sc (.int .i64 0),.ls (some true) 1 [],.ls (some true) 1 []]]),(4,.ar false (some false) 2 [.ag [.sc (.int .i64 g1),.sc (.int .i64 g2)]]),(3000000000,.ar false none 3 [.ag [.ls nn 1 (c.map eU),.sc (.int .i64 ((cC G (Rs i) x y (rC G (Rs i) p x (aC G Rs p i s))).2).1),.sc (.int .u64 ((cC G (Rs i) x y (rC G (Rs i) p x (aC G Rs p i s))).2).2)]])]) (fun y=>y≤p) (fun y=>p-y) 0 (gO.to [] (by simp only[go_sem];rfl) rfl (by simp[cC]) (by rfl) (by simp only[fR,go_sem,iD,iP]<;>simp)) (aq _) ?_;intro y hy0;obtain⟨yi1,yi2⟩:=Ou hG (R:=Rs i) (x:=x) y (rC G (Rs i) p x (aC G Rs p i s)) (by omega) (by omega);have Ep:cC G (Rs i) x (y+1) (rC G (Rs i) p x (aC G Rs p i s))=if Rs i x y=true then(wk (cC G (Rs i) x y (rC G (Rs i) p x (aC G Rs p i s))).1 x y (G 20 (cC G (Rs i) x y (rC G (Rs i) p x (aC G Rs p i s))).2.1 (cC G (Rs i) x y (rC G (Rs i) p x (aC G Rs p i s))).2.2).1,(G 20 (cC G (Rs i) x y (rC G (Rs i) p x (aC G Rs p i s))).2.1 (cC G (Rs i) x y (rC G (Rs i) p x (aC G Rs p i s))).2.2).2)else(cC G (Rs i) x y (rC G (Rs i) p x (aC G Rs p i s))):=rfl
   generalize hrr:(cC G (Rs i) x y (rC G (Rs i) p x (aC G Rs p i s)))=rr at*
   by_cases hy:y<p
   ·have e2:=hSq.at hx;have e3:=hSq.ND hx hy;have In:=hSq.rows hx;rw[←hRi]at e3;simp only at e2 e3 In;have hxl:x<Ail.length:=by omega
    have hyl:y<(Ail.getD x (none,[])).2.length:=by omega
    cases hb:Rs i x y with
    |true=>
     rw[hb]at e3 Ep;simp only[ay]at Ep;obtain⟨y1,y2,y3,y4,y5,hY⟩:=hG 20 rr.2.1 rr.2.2 (by omega) (by omega);have y6:=y5 (by omega);have e4:=mP (R:=rr.1) hx;simp+contextual-implicitDefEqProofs only[eS,hi,hx,hy,e1,e2,e3,hxl,hyl,e4,iL,D.size,D.fX,D.sub,lM,go_sem,iN];refine gd [3000000000] [] (by rfl) (by rfl) (by rfl) hY rfl (by simp[iv,ij,uS,gm,fO,D.gl,ii,AV.hZ,gU,ir,U.hZ,St.unit,lu]) ?_;simp+contextual-implicitDefEqProofs only[uS,gm,eI,hx,hy,e4,iG,iO,lj,u9,D.put,D.size,D.fX,D.sub,aL,go_sem,iL,iN];refine⟨y+1,by omega,by omega,?_⟩;rw[fQ (by omega) (by omega)];exact gO.to [] (by simp only[go_sem];rfl) rfl (by simp[Ep]) (by rfl) (by simp only[fR,go_sem]<;>simp[])
    |false=>
     rw[hb]at e3 Ep;simp only[mI,aA]at Ep;simp+contextual-implicitDefEqProofs only[eS,hi,hy,e1,e2,e3,hxl,hyl,iL,D.size,D.fX,D.sub,lM,go_sem,iN];refine⟨y+1,by omega,by omega,?_⟩;rw[fQ (by omega) (by omega)];exact gO.to [] (by simp only[go_sem];rfl) rfl (by simp[Ep]) (by rfl) (by simp only[fR,go_sem]<;>simp[])
   obtain rfl:p=y:=by omega
   simp+contextual-implicitDefEqProofs only[hy,iL,go_sem];refine⟨x+1,by omega,by omega,?_⟩;rw[fQ (by omega) (by omega),←hrr];exact gO.to [] (by simp only[go_sem];rfl) rfl (by simp[rC]) (by rfl) (by simp only[fR,go_sem]<;>simp)
  obtain rfl:p=x:=by omega
  simp+contextual-implicitDefEqProofs only[hx,iL,iG,D.put,D.cells,D.size,D.fX,D.sub,fU,fO,bne,bN,bI,bG,bU,bP,aL,go_sem,Nat.reduceMul];refine⟨rfl,⟨by rw[g8];omega,by rw[g8];unfold gz;omega,by simp[D.size]⟩,i+1,by omega,by omega,?_⟩;rw[fQ (by omega) (by omega)];exact gO.to [] (by simp only[go_sem];rfl) rfl (by simp[CM,lI,aC]) (by rfl) (by simp only[fR,go_sem]<;>simp)
 obtain rfl:As.length=i:=by omega
 simp+contextual-implicitDefEqProofs only[hi,iL,D.put,D.size,D.fS,D.fX,D.sub,fU,fO,lM,bI,bU,bJ,go_sem]
def Gk(f1 f2:Nat):RC:=(.s [.b 3 2 1,.o (.zer 4 5 (.ag [(.sc (.int .i64 0)),(.sc (.int .i64 0)),(.sc (.int .i64 0)),(.ls (some true) 1 []),(.ls (some true) 1 [])]))] (.seq (.jI true [.m 5 0,.c 6 f1 [.t 5],.L 7 2 3,.o (.sH (some 8) f2 [.t 6,.t 7,.ci 20]),.s 5 4 8]) .ret))
def E3(P:Program)(iV:Nat):Prop:=∀(nn:Option Bool)(c:List Int)(g:Int×Int),nW c→oC g=true→∃co,co.1=g∧pE co=true∧co.2.1≤4∧1≤co.2.1∧(∀r∈co.2.2.1.2,r.1=some false)∧(∃p:Nat,co.2.1=p∧∀M∈co.2.2.2.2,∀x y,x<p→y<p→gB M x y≤20)∧AF P iV [.ls nn 1 (c.map eU),eG g] (.own (pc co))
def PM(hm:Mx P)(hr:il P g=some (9,Gk f1 f2,[.c 4 5 true]))(iS:qf P f1)(jw:qu P f2):E3 P g:=by
 intro nn c g hc hg;obtain⟨a1,SG,co,s1,s2,s3,s4,s5,s6,s9,p,s7,s8,hE⟩:=jw nn c 0 0 g hc hg (by omega) (by omega);refine⟨co,s3,s4,s5,s6,s9,⟨p,s7,s8⟩,?_⟩;refine fY hr hm rfl fun hb=>?_;simp+contextual-implicitDefEqProofs only[Gk,eI,eG,D.size,D.fS,bne,bN,bU,go_sem];refine fL ?_ (iS nn c) ?_;exact rfl;simp+contextual-implicitDefEqProofs only[gm,D.size,D.fS,D.fX,D.sub,bne,bN,bU,go_sem];refine gd [6] [] (by rfl) (by rfl) (by rfl) hE rfl (by simp[iv,ij,uS,gm,fO,D.gl,ii,AV.hZ,gU,ir,U.hZ,St.unit,lu]) ?_;simp+contextual-implicitDefEqProofs only[uS,gm,eI,eS,pc,D.put,D.size,D.fS,D.fX,D.sub,fU,fO,bne,bN,bI,bU,bJ,aL,go_sem]
def qS(z:Option Bool)(m:Co)(e:Ex):SL (SL Int)×Int:=if pE m=true∧BA m.1 e=true then(oY m.2.1.toNat (fW m e),0)else((z,[]),1)
def yC{z:Option Bool}{m:Co}{e:Ex}(h1:pE m=true)(h2:BA m.1 e=true)(hM:xP m n):qS z m e=(oY n (fW m e),0):=by
 have hn:m.2.1.toNat=n:=by rw[hM.Cf];rfl
 simp[qS,h1,h2,hn]
def Jh:(oY n R).1=some false:=rfl
def Jc{n:Nat}{R:lA}:(oY n R).2.map (eS 1 eI)=mD n R:=(D.ls.inj (sx (n:=n) (R:=R))).2.2
def Bb(f1 f2 f3:Nat):RC:=(.s [.b 2 5 0,.b 3 3 1,.o (.mv 4 (.c (.ls (some true) 1 []))),.v 5 (.ci 0)] (.seq (.s [.c 6 f1 [.t 2],.o (.un 7 .not (.t 6)),.m 8 7,.u 8 (.fa 9 0 (.t 2)),.u 8 (.ld 10 true 2 (.t 9)),.u 8 (.call (some 11) f2 [.t 10,.t 3]),.u 8 (.un 12 .not (.t 11)),.o (.pick 13 (.t 8) .ct (.t 12))] (.cond (.t 13) (.s [.o (.bs 14 1 (.ls (some true) 1 []) 0 []),.m 4 14,.v 5 (.ci 1)] .ret) .skip)) (.s [.c 15 f3 [.t 2,.t 3],.m 4 15,.v 5 (.ci 0)] .ret)))
def Bn(P:Program)(iV:Nat):Prop:=∀(m:Co)(e:Ex),AF P iV [pc m,eE e] (.lf ([.own (eS 1 (eS 1 eI) (qS (some false) m e).1),.own (eI (qS (some false) m e).2)]))
def Ir(hm:Mx P)(hr:il P g=some (16,Bb f1 f2 f3,[.t 4,.t 5]))(iS:qb P f1)(jw:BY P f2)(pd:zh P f3):Bn P g:=by
 intro m e;obtain⟨k,v,nn,ks,rfl⟩:=Ex.ex e;rw[gM];refine fY hr hm rfl fun hb=>?_;simp+contextual-implicitDefEqProofs only[Bb,pc,eS,eI,D.size,D.fS,lN,lC,bne,bN,bU,go_sem];refine fL (ds:=[.pt (pc m) 0]) (by rfl) (iS m) ?_;cases ho:pE m
 ·rw[show qS (some false) m (.mk k v nn ks)=(((some false),[]),1)by simp[qS,ho]];simp+contextual-implicitDefEqProofs only[eB,bE,lN,lZ,bne,bN,bU,go_sem]
 obtain⟨n,hM⟩:=Mj ho;have hg:=hM.g;have hx:=jw m.1 (.mk k v nn ks);rw[gM]at hx;simp+contextual-implicitDefEqProofs only[eB,qU,D.sub,D.fX,lN,lC,bT,go_sem];refine fL (ds:=[eG m.1,.pt (.ag [.sc (.int .i64 k),.sc (.int .i64 v),.ls nn 3 (ks.map eE)]) 0]) (by rfl) hx ?_;cases hq:BA m.1 (.mk k v nn ks)
 ·rw[show qS (some false) m (.mk k v nn ks)=(((some false),[]),1)by simp[qS,hq]];simp+contextual-implicitDefEqProofs only[eB,bE,lN,lZ,bne,bN,bU,bJ,hg,go_sem]
 rw[yC ho hq hM];have Ee:=pd m n (.mk k v nn ks) hM (CZ hq);rw[gM]at Ee;simp+contextual-implicitDefEqProofs only[eB,lN,lC,bT,bU,Jh,Jc,hg,go_sem];refine fL (ds:=[.pt (pc m) 0,.pt (.ag [.sc (.int .i64 k),.sc (.int .i64 v),.ls nn 3 (ks.map eE)]) 0]) (by rfl) Ee ?_;simp+contextual-implicitDefEqProofs only[bE,bne,bN,bU,go_sem]
def AX(f1 f2 f3:Nat):RC:=(.s [.b 2 5 0,.b 3 3 1,.o (.mv 4 (.c (.ls (some true) 1 []))),.v 5 (.ci 0)] (.seq (.s [.L 6 5 2,.c 7 f1 [.t 6],.o (.un 8 .not (.t 7)),.m 9 8,.u 9 (.fa 10 0 (.t 2)),.u 9 (.ld 11 true 2 (.t 10)),.u 9 (.ld 12 true 3 (.t 3)),.u 9 (.call (some 13) f2 [.t 11,.t 12]),.u 9 (.un 14 .not (.t 13)),.o (.pick 15 (.t 9) .ct (.t 14))] (.cond (.t 15) (.s [.o (.mv 4 (.c (.ls (some true) 1 []))),.v 5 (.ci 1)] .ret) .skip)) (.s [.L 16 5 2,.L 17 3 3,.c 18 f3 [.t 16,.t 17],.m 4 18,.v 5 (.ci 0)] .ret)))
def AP(P:Program)(iV:Nat):Prop:=∀(m:Co)(e:Ex),AF P iV [pc m,eE e] (.lf ([.own (eS 1 (eS 1 eI) (qS (some true) m e).1),.own (eI (qS (some true) m e).2)]))
def Jk(hm:Mx P)(hr:il P g=some (19,AX f1 f2 f3,[.t 4,.t 5]))(iS:od P f1)(jw:yq P f2)(pd:HE P f3):AP P g:=by
 intro m e;obtain⟨k,v,nn,ks,rfl⟩:=Ex.ex e;rw[gM];refine fY hr hm rfl fun hb=>?_;simp+contextual-implicitDefEqProofs only[AX,pc,eS,eI,qU,D.size,D.fS,D.sub,D.fX,lN,lC,bne,bN,bU,go_sem];refine fL (ds:=[pc m]) (by rfl) (iS m) ?_;cases ho:pE m
 ·rw[show qS (some true) m (.mk k v nn ks)=(((some true),[]),1)by simp[qS,ho]];simp+contextual-implicitDefEqProofs only[eB,bE,lN,bN,bU,go_sem]
 obtain⟨n,hM⟩:=Mj ho;have hg:=hM.g;have hx:=jw m.1 (.mk k v nn ks);rw[gM]at hx;simp+contextual-implicitDefEqProofs only[eB,qU,D.sub,D.fX,lN,lC,bT,go_sem];refine fL (ds:=[eG m.1,.ag [.sc (.int .i64 k),.sc (.int .i64 v),.ls nn 3 (ks.map eE)]]) (by rfl) hx ?_;cases hq:BA m.1 (.mk k v nn ks)
 ·rw[show qS (some true) m (.mk k v nn ks)=(((some true),[]),1)by simp[qS,hq]];simp+contextual-implicitDefEqProofs only[eB,bE,lN,bN,bU,go_sem]
 rw[yC ho hq hM];have Ee:=pd m n (.mk k v nn ks) hM (CZ hq);rw[gM]at Ee;simp+contextual-implicitDefEqProofs only[eB,qU,D.sub,D.fX,lN,lC,bT,Jh,Jc,go_sem];refine fL (ds:=[pc m,.ag [.sc (.int .i64 k),.sc (.int .i64 v),.ls nn 3 (ks.map eE)]]) (by rfl) Ee ?_;simp+contextual-implicitDefEqProofs only[bE,bne,bN,bU,go_sem]
end Go.Ax
