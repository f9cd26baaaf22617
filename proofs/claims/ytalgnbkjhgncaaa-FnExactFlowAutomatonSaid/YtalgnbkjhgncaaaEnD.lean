/- THE ENGINE, PART 4: a generator of conditions over the register code, and its soundness. No condition. -/
import Derived.Test.YtalgnbkjhgncaaaEnC
import Derived.Great.BuildSlice
import Derived.Laws.StructEq
set_option linter.all false
namespace Go.Ax
variable {P:Program}{n0:Nat}{S0 M0:Nat→Prop}{w0:World}
variable {st:St}{o:Oper}{a:Act}{w:World}{k:KQ}{Q':Exit→Act→World→Prop}{g:Gh}
variable {g':Gh}
def iM{k:Nat}{f:AV→Bool}{g:Gh}(hφ:∀i,i≠k→g'.φ i=g.φ i):∀{us:List (Nat×U)},(fp g' (fQ k f us)).Sublist (fp g us)
 | []=>by simp[fQ,fp]
 |(j,v)::r=>by
  have ih:=iM (f:=f) hφ (us:=r);simp only[fQ]
  split;simp only[fp,cp];exact List.Sublist.trans ih (ew _ _)
  next gw=>
  simp only[fp,cp,hφ j gw];exact ez (dw _) ih
variable {h h':ij}{us us':List (Nat×U)}{i:Nat}{u:U}
def hP.iq{k:Nat}{g:Gh}{f:AV→Bool}(H:Keep k f h h' us us' g g')(hf:∀av,f av=false→av.refs k=false∨∀v,fx h us g av v→fx h' us' g' av v)(hm:(i,u)∈us)(gw:i≠k)(hφ:g'.φ i=g.φ i)
  (KS:∀b∈g.φ i,h'[b]?=h[b]?) (hS:∀b,g.Sh b→g'.Sh b∧h'[b]?=h[b]?) (ho:hP h us g i u):hP h' us' g' i (u.kill f):=by
 obtain⟨e1,e2,e3⟩:=H.β i gw;cases u with
 |own d=>
  simp only[hP,U.kill]at ho⊢;rw[e1,e2,hφ];exact⟨ho.1,ho.2.1.frame fun b hb=>KS b hb,ho.2.2⟩
 |ar ow nn sz es=>
  simp only[hP,U.kill]at ho⊢;rw[e1,e3,hφ];obtain⟨h1,h2,h3⟩:=ho;refine⟨h1,h2,?_⟩;rcases h3 with h3|⟨b,c,e,G,cs,rest,k1,k2,k3,k4,k5,k6,k7,k8⟩
  exact .inl h3;have hb:b∈g.φ i:=by cases ow<;>simp_all
  refine .inr ⟨b,c,e,G,cs,rest,k1,by rw[KS b hb];exact k2,k3,k4,k5,?_,k7,?_⟩
  ·refine k6.frame fun x hx=>?_;cases ow;simp only[kY,aH]at k8;exact(hS x (k8.2 x hx)).2;simp only[aK]at k8;exact KS x (by rw[k8];simp[hx])
  cases ow
  ·simp only[kY,aH]at k8⊢;exact⟨k8.1,fun x hx=>(hS x (k8.2 x hx)).1⟩
  simpa using k8
 |bx sz items=>
  simp only[hP,U.kill]at ho⊢;rw[e1,hφ];obtain⟨h1,b,c,e,vs,rest,k1,k2,k3,k4,k5⟩:=ho;refine⟨by rw[kN];exact h1,b,c,e,vs,rest,k1,by rw[KS b (by rw[k3];simp)];exact k2,k3,vt (fun av v yI hr=>?_) k4,k5⟩;rcases hf av yI with h|h
  exact fx.iq H h hr;exact h v hr
 |sb T E s=>
  simp only[hP,U.kill]at ho⊢;rw[e1,hφ];obtain⟨b,F,k1,k2,k3⟩:=ho;exact⟨b,F,k1,k2,k3.frame fun x hx=>KS x (by rw[k2];exact hx)⟩
 |mp es=>
  simp only[hP,U.kill]at ho⊢;rw[e1,hφ];obtain⟨b,k1,k2,k3⟩:=ho;exact⟨b,k1,k2,k3.frame (KS b (by rw[k2];simp))⟩
def Gh.drop(g:Gh)(k:Nat):Gh:={g with φ:=fun i=>if i=k then[]else g.φ i}
def gr.del{us:List (Nat×U)}(hu:gr h n0 S0 M0 us g)(k:Nat):gr h n0 S0 M0 (fQ k (AV.refs k) us) (g.drop k)∧Keep k (AV.refs k) h h us (fQ k (AV.refs k) us) g (g.drop k):=by
 have hφ:∀i,i≠k→(g.drop k).φ i=g.φ i:=fun i hi=>by simp[Gh.drop,hi]
 have H:Keep k (AV.refs k) h h us (fQ k (AV.refs k) us) g (g.drop k):=by
  refine⟨fun i u h1 h2=>iY h1 h2,fun i hi=>⟨rfl,rfl,rfl⟩,fun _ _ _ _ _ _=>rfl,?_⟩;intro t d F cs ht hr i9;refine⟨hr,fun b hb=>?_⟩;rcases i9 b hb with h1|⟨i,rfl,h1,h2⟩
  exact .inl h1;exact .inr ⟨i,rfl,by rw[hφ i (by rintro rfl;exact ht rfl)];exact h1,h2⟩
 have hH:=iM (f:=AV.refs k) hφ (us:=us);refine⟨⟨?_,hH.nodup hu.nodup,fun b hb=>hu.lt b (hH.subset hb),fun b hb=>hu.low b (hH.subset hb),?_,?_,?_,fun b hb=>hu.fz b (hH.subset hb),hu.ww.kill fun _ _=>⟨rfl,rfl⟩⟩,H⟩;rw[gn];exact hu.keys.filter _
 ·intro i hi;rw[gn]at hi
  by_cases e:i=k;simp[Gh.drop,e]
  rw[hφ i e];exact hu.dead i fun hm=>hi (by simp[aX,hm,e])
 ·intro b hb;obtain⟨q1,q2,q3⟩:=hu.sh b hb;exact⟨q1,q2,fun hm=>q3 (hH.subset hm)⟩
 intro x hx;obtain⟨gw,u,h1,h2⟩:=gf hx;rw[h2];exact(hu.each _ h1).iq H (fun av hf=>.inl hf) h1 gw (hφ _ gw) (fun _ _=>rfl) (fun b hb=>⟨hb,rfl⟩)
def Gh.lp(g:Gh)(k:Nat)(φ:List Nat):Gh:={g with φ:=fun i=>if i=k then φ else g.φ i}
variable {ow:Bool}{es:List D}{b sz:Nat}
def gr.mc{h':ij}{us:List (Nat×U)}(hu:gr h n0 S0 M0 us g){k:Nat}{nn:Option Bool}(hm:(k,U.ar ow nn sz es)∈us)(hb:g.β k=some b)
  {c:Array Value} {e:TypeId} (h0:h'[b]?=some (.cells c e (0,0))) (jm:h'.size=h.size) (hh:∀x,x≠b→h'[x]?=h[x]?) (hc:c.size=g.cap k*sz)
  {ow':Bool} {es':List D} (hl:es'.length=es.length) (hs:∀d∈es',d.size=sz) {G cs rest} (lY:c.toList=cs++rest) (hr:fR h es' G cs)
  (py:ow'=true→(b::G).Nodup∧(∀x∈G,(x<n0→M0 x)∧¬g.Sh x∧∀y∈us,y.1≠k→x∉g.φ y.1)) (lw:ow'=false→∀x∈G,g.Sh x) (hzG:ow'=true→∀x∈G,mO h x):
  ∃φ,φ=(if ow'=true then b::G else[b])∧gr h' n0 S0 M0 ((k,.ar ow' nn sz es')::fQ k (AV.soft k) us) (g.lp k φ)∧CD k (AV.soft k) h h' us ((k,.ar ow' nn sz es')::fQ k (AV.soft k) us) g (g.lp k φ):=by
 have ED:=(hu.each _ hm).iZ hb;have lH:b∈fp g us:=fL.2 ⟨_,hm,ED⟩;have Z2:b∉G:=by
  cases ow' with
  |true=>exact(aP.1 (py rfl).1).1
  |false=>exact fun hx=>(hu.sh b (lw rfl b hx)).2.2 lH
 refine⟨_,rfl,?_⟩;generalize GJ:(if ow'=true then b::G else[b])=φ;have hφ:∀i,i≠k→(g.lp k φ).φ i=g.φ i:=fun i hi=>by simp[Gh.lp,hi]
 have P0:(g.lp k φ).φ k=φ:=by simp[Gh.lp]
 have Cu:∀x,g.Sh x→x≠b:=fun x hx e=>(hu.sh x hx).2.2 (e▸lH);have kJ:∀i u,(i,u)∈us→i≠k→∀x∈g.φ i,x≠b:=by
  rintro i u h1 h2 x hx rfl;exact h2 (gK hu.keys hu.nodup h1 hm hx ED)
 have H:CD k (AV.soft k) h h' us ((k,.ar ow' nn sz es')::fQ k (AV.soft k) us) g (g.lp k φ):=by
  refine {mem:=fun i u h1 h2=>bt _ (iY h1 h2),β:=fun i hi=>⟨rfl,rfl,rfl⟩,iV:=?_,im:=?_,own:=⟨ow,nn,sz,es,ow',nn,es',hm,fun u rN=>hu.uniq rN hm,by simp,hl⟩,same:=⟨rfl,rfl⟩};intro i u x h1 h2 h3;exact hh x (kJ i u h1 h2 x ((hu.each _ h1).iZ h3));intro t d F cs ht hr i9;refine⟨hr.frame fun x hx=>hh x (hu.VF (i9 x hx) hm hb),fun x hx=>?_⟩;rcases i9 x hx with h1|⟨i,rfl,h1,h2⟩
  exact .inl h1;exact .inr ⟨i,rfl,by rw[hφ i (by rintro rfl;exact ht rfl)];exact h1,h2⟩
 have hH:=iM (f:=AV.soft k) hφ (us:=us);have jb:fp (g.lp k φ) ((k,.ar ow' nn sz es')::fQ k (AV.soft k) us)=φ++fp (g.lp k φ) (fQ k (AV.soft k) us):=by
  simp only[fp,cp,P0]
 have Z3:∀x∈φ,x<h.size:=by
  intro x hx;rw[←GJ]at hx;cases ow' with
  |true=>
   simp only[aK]at hx;rcases aj.1 hx with rfl|hx
   exact hu.lt _ lH;exact hr.lt x hx
  |false=>
   simp only[kY,aH,am]at hx;subst hx;exact hu.lt _ lH
 have GK:∀x∈φ,∀y∈us,y.1≠k→x∉g.φ y.1:=by
  intro x hx y hy gw jM;rw[←GJ]at hx;have mE:x≠b:=kJ y.1 y.2 hy gw x jM;cases ow' with
  |true=>
   simp only[aK]at hx;rcases aj.1 hx with rfl|hx
   exact mE rfl;exact((py rfl).2 x hx).2.2 y hy gw jM
  |false=>
   simp only[kY,aH,am]at hx;exact mE hx
 have wN:∀x∈fp (g.lp k φ) (fQ k (AV.soft k) us),∃y∈us,y.1≠k∧x∈g.φ y.1:=by
  intro x hx;obtain⟨y,hy,jM⟩:=fL.1 hx;obtain⟨gw,u,h1,h2⟩:=gf hy;exact⟨_,h1,gw,by rw[hφ _ gw]at jM;exact jM⟩
 refine⟨⟨?_,?_,?_,?_,?_,?_,?_,?_,hu.ww.Ek hm (fun _=>⟨rfl,rfl⟩) fun e=>U.lg.2 (U.lg.1 e)⟩,H⟩
 ·simp only[lC,aP,gn];exact⟨by simp[aX],hu.keys.filter _⟩
 ·rw[jb,aT];refine⟨?_,hH.nodup hu.nodup,?_⟩
  ·rw[←GJ];cases ow' with
   |true=>simp only[aK];exact(py rfl).1
   |false=>simp
  rintro x hx y hy rfl;obtain⟨z,hz,gw,ra⟩:=wN x hy;exact GK x hx z hz gw ra
 ·intro x hx;rw[jb]at hx;rw[jm];rcases ax.1 hx with hx|hx
  exact Z3 x hx;exact hu.lt x (hH.subset hx)
 ·intro x hx gI;rw[jb]at hx;rcases ax.1 hx with hx|hx
  ·rw[←GJ]at hx;cases ow' with
   |true=>
    simp only[aK]at hx;rcases aj.1 hx with rfl|hx
    exact hu.low _ lH gI;exact((py rfl).2 x hx).1 gI
   |false=>
    simp only[kY,aH,am]at hx;subst hx;exact hu.low _ lH gI
  exact hu.low x (hH.subset hx) gI
 ·intro i hi;simp only[lC,aj,cA,gn]at hi;rw[hφ i hi.1];exact hu.dead i fun EE=>hi.2 (by simp[aX,EE,hi.1])
 ·intro x hx;have hx:g.Sh x:=hx;obtain⟨q1,q2,q3⟩:=hu.sh x hx;refine⟨by omega,q2,?_⟩;rw[jb,ax];rintro(h1|h1)
  ·rw[←GJ]at h1;cases ow' with
   |true=>
    simp only[aK]at h1;rcases aj.1 h1 with rfl|h1
    exact q3 lH;exact((py rfl).2 x h1).2.1 hx
   |false=>
    simp only[kY,aH,am]at h1;subst h1;exact q3 lH
  exact q3 (hH.subset h1)
 ·intro x hx;rcases aj.1 hx with rfl|hx
  ·have ho:=hu.each _ hm;simp only[hP]at ho⊢;obtain⟨p1,p2,p3⟩:=ho;refine⟨by omega,hs,.inr ⟨b,c,e,G,cs,rest,hb,h0,lY,hc,?_,hr.frame fun x hx=>hh x (by rintro rfl;exact Z2 hx),?_,?_⟩⟩
   ·rcases p3 with⟨q,_⟩|⟨_,_,_,_,_,_,_,_,_,_,q,_⟩
    rw[hb]at q;cases q;rw[hl];exact q
   ·rcases p3 with⟨q,_⟩|⟨_,_,_,_,_,_,_,_,_,_,_,_,q,_⟩
    rw[hb]at q;cases q;exact q
   rw[P0,←GJ];cases ow' with
   |true=>simp
   |false=>simp only[kY,aH,cj];exact lw rfl
  obtain⟨gw,u,h1,h2⟩:=gf hx;rw[h2];exact(hu.each _ h1).iq H.toKeep (fun av hf=>.inr fun v hr=>fx.sr H hf hr) h1 gw (hφ _ gw) (fun x hx=>hh x (kJ _ _ h1 gw x hx)) (fun x hx=>⟨hx,hh x (Cu x hx)⟩)
 intro x hx;rw[jb]at hx
 by_cases AS:x=b;subst AS;exact .inl ⟨c,e,h0⟩
 have iD:∀{x},x≠b→mO h x→mO h' x:=fun gw hu=>hu.eq (hh _ gw);rcases ax.1 hx with hx|hx
 ·rw[←GJ]at hx;cases ow' with
  |true=>
   simp only[aK]at hx;rcases aj.1 hx with rfl|hx
   exact absurd rfl AS;exact iD AS (hzG rfl x hx)
  |false=>
   simp only[kY,aH,am]at hx;exact absurd hx AS
 exact iD AS (hu.fz x (hH.subset hx))
def gr.KH{h':ij}{us:List (Nat×U)}(hu:gr h n0 S0 M0 us g){k:Nat}{nn:Option Bool}(hm:(k,U.ar ow nn sz es)∈us)(hb:g.β k=some b)
  {c:Array Value} {e:TypeId} (h0:h'[b]?=some (.cells c e (0,0))) (jm:h'.size=h.size) (hh:∀x,x≠b→h'[x]?=h[x]?) (hc:c.size=g.cap k*sz)
  {ow':Bool} {es':List D} (hl:es'.length=es.length) (hs:∀d∈es',d.size=sz) {G cs rest} (lY:c.toList=cs++rest) (hr:fR h es' G cs)
  (py:ow'=true→(b::G).Nodup∧(∀x∈G,(x<n0→M0 x)∧¬g.Sh x∧∀y∈us,y.1≠k→x∉g.φ y.1)) (lw:ow'=false→∀x∈G,g.Sh x) (hzG:ow'=true→∀x∈G,mO h x) (el:Option Nat) (how:ow'=true) (hhb:h'[b]?=h[b]?) (s8:∀ic,el≠some ic→(D.at es' ic).fK=(D.at es ic).fK):
  ∃φ,φ=(if ow'=true then b::G else[b])∧gr h' n0 S0 M0 ((k,.ar ow' nn sz es')::fQ k (AV.lX k el) us) (g.lp k φ)∧∀av v,AV.lX k el av=false→fx h us g av v→fx h' ((k,.ar ow' nn sz es')::fQ k (AV.lX k el) us) (g.lp k φ) av v:=by
 have ED:=(hu.each _ hm).iZ hb;have lH:b∈fp g us:=fL.2 ⟨_,hm,ED⟩;have Z2:b∉G:=by
  cases ow' with
  |true=>exact(aP.1 (py rfl).1).1
  |false=>exact fun hx=>(hu.sh b (lw rfl b hx)).2.2 lH
 refine⟨_,rfl,?_⟩;generalize GJ:(if ow'=true then b::G else[b])=φ;have hφ:∀i,i≠k→(g.lp k φ).φ i=g.φ i:=fun i hi=>by simp[Gh.lp,hi]
 have P0:(g.lp k φ).φ k=φ:=by simp[Gh.lp]
 have Cu:∀x,g.Sh x→x≠b:=fun x hx e=>(hu.sh x hx).2.2 (e▸lH);have kJ:∀i u,(i,u)∈us→i≠k→∀x∈g.φ i,x≠b:=by
  rintro i u h1 h2 x hx rfl;exact h2 (gK hu.keys hu.nodup h1 hm hx ED)
 have H:CD k (AV.lX k el) h h' us ((k,.ar ow' nn sz es')::fQ k (AV.lX k el) us) g (g.lp k φ):=by
  refine {mem:=fun i u h1 h2=>bt _ (iY h1 h2),β:=fun i hi=>⟨rfl,rfl,rfl⟩,iV:=?_,im:=?_,own:=⟨ow,nn,sz,es,ow',nn,es',hm,fun u rN=>hu.uniq rN hm,by simp,hl⟩,same:=⟨rfl,rfl⟩};intro i u x h1 h2 h3;exact hh x (kJ i u h1 h2 x ((hu.each _ h1).iZ h3));intro t d F cs ht hr i9;refine⟨hr.frame fun x hx=>hh x (hu.VF (i9 x hx) hm hb),fun x hx=>?_⟩;rcases i9 x hx with h1|⟨i,rfl,h1,h2⟩
  exact .inl h1;exact .inr ⟨i,rfl,by rw[hφ i (by rintro rfl;exact ht rfl)];exact h1,h2⟩
 have HK:∀av v,AV.lX k el av=false→fx h us g av v→fx h' ((k,.ar ow' nn sz es')::fQ k (AV.lX k el) us) (g.lp k φ) av v:=by
  intro av v hf hr
  by_cases hs:av.soft k=false;exact fx.sr H hs hr
  cases av with
  |cw i ic j gv agg=>
   simp only[AV.soft,Bool.not_eq_false,bB]at hs;subst hs;have hf:el≠some ic:=by
    rintro rfl;simp[AV.lX]at hf
   simp only[fx]at hr⊢;obtain⟨wM,usz,qh,b1,c1,e1,q1,q2,q3,q4,q5,q6,q7,q8,q9⟩:=hr;have hq:=hu.uniq q1 hm;injection hq with z1 z2 z3 z4;subst z1;subst z2;subst z3;subst z4;rw[hb]at q4;obtain rfl:=aQ q4;subst how;exact⟨_,_,es',b,c1,e1,bP,by omega,q3,hb,by rw[hhb];exact q5,fun ha=>by rw[s8 _ hf];exact q6 ha,q7,q8,q9⟩
  |_=>simp_all [AV.lX,AV.soft]
 have hH:=iM (f:=AV.lX k el) hφ (us:=us);have jb:fp (g.lp k φ) ((k,.ar ow' nn sz es')::fQ k (AV.lX k el) us)=φ++fp (g.lp k φ) (fQ k (AV.lX k el) us):=by
  simp only[fp,cp,P0]
 have Z3:∀x∈φ,x<h.size:=by
  intro x hx;rw[←GJ]at hx;cases ow' with
  |true=>
   simp only[aK]at hx;rcases aj.1 hx with rfl|hx
   exact hu.lt _ lH;exact hr.lt x hx
  |false=>
   simp only[kY,aH,am]at hx;subst hx;exact hu.lt _ lH
 have GK:∀x∈φ,∀y∈us,y.1≠k→x∉g.φ y.1:=by
  intro x hx y hy gw jM;rw[←GJ]at hx;have mE:x≠b:=kJ y.1 y.2 hy gw x jM;cases ow' with
  |true=>
   simp only[aK]at hx;rcases aj.1 hx with rfl|hx
   exact mE rfl;exact((py rfl).2 x hx).2.2 y hy gw jM
  |false=>
   simp only[kY,aH,am]at hx;exact mE hx
 have wN:∀x∈fp (g.lp k φ) (fQ k (AV.lX k el) us),∃y∈us,y.1≠k∧x∈g.φ y.1:=by
  intro x hx;obtain⟨y,hy,jM⟩:=fL.1 hx;obtain⟨gw,u,h1,h2⟩:=gf hy;exact⟨_,h1,gw,by rw[hφ _ gw]at jM;exact jM⟩
 refine⟨⟨?_,?_,?_,?_,?_,?_,?_,?_,hu.ww.Ek hm (fun _=>⟨rfl,rfl⟩) fun e=>U.lg.2 (U.lg.1 e)⟩,HK⟩
 ·simp only[lC,aP,gn];exact⟨by simp[aX],hu.keys.filter _⟩
 ·rw[jb,aT];refine⟨?_,hH.nodup hu.nodup,?_⟩
  ·rw[←GJ];cases ow' with
   |true=>simp only[aK];exact(py rfl).1
   |false=>simp
  rintro x hx y hy rfl;obtain⟨z,hz,gw,ra⟩:=wN x hy;exact GK x hx z hz gw ra
 ·intro x hx;rw[jb]at hx;rw[jm];rcases ax.1 hx with hx|hx
  exact Z3 x hx;exact hu.lt x (hH.subset hx)
 ·intro x hx gI;rw[jb]at hx;rcases ax.1 hx with hx|hx
  ·rw[←GJ]at hx;cases ow' with
   |true=>
    simp only[aK]at hx;rcases aj.1 hx with rfl|hx
    exact hu.low _ lH gI;exact((py rfl).2 x hx).1 gI
   |false=>
    simp only[kY,aH,am]at hx;subst hx;exact hu.low _ lH gI
  exact hu.low x (hH.subset hx) gI
 ·intro i hi;simp only[lC,aj,cA,gn]at hi;rw[hφ i hi.1];exact hu.dead i fun EE=>hi.2 (by simp[aX,EE,hi.1])
 ·intro x hx;have hx:g.Sh x:=hx;obtain⟨q1,q2,q3⟩:=hu.sh x hx;refine⟨by omega,q2,?_⟩;rw[jb,ax];rintro(h1|h1)
  ·rw[←GJ]at h1;cases ow' with
   |true=>
    simp only[aK]at h1;rcases aj.1 h1 with rfl|h1
    exact q3 lH;exact((py rfl).2 x h1).2.1 hx
   |false=>
    simp only[kY,aH,am]at h1;subst h1;exact q3 lH
  exact q3 (hH.subset h1)
 ·intro x hx;rcases aj.1 hx with rfl|hx
  ·have ho:=hu.each _ hm;simp only[hP]at ho⊢;obtain⟨p1,p2,p3⟩:=ho;refine⟨by omega,hs,.inr ⟨b,c,e,G,cs,rest,hb,h0,lY,hc,?_,hr.frame fun x hx=>hh x (by rintro rfl;exact Z2 hx),?_,?_⟩⟩
   ·rcases p3 with⟨q,_⟩|⟨_,_,_,_,_,_,_,_,_,_,q,_⟩
    rw[hb]at q;cases q;rw[hl];exact q
   ·rcases p3 with⟨q,_⟩|⟨_,_,_,_,_,_,_,_,_,_,_,_,q,_⟩
    rw[hb]at q;cases q;exact q
   rw[P0,←GJ];cases ow' with
   |true=>simp
   |false=>simp only[kY,aH,cj];exact lw rfl
  obtain⟨gw,u,h1,h2⟩:=gf hx;rw[h2];exact(hu.each _ h1).iq H.toKeep (fun av hf=>.inr fun v hr=>HK av v hf hr) h1 gw (hφ _ gw) (fun x hx=>hh x (kJ _ _ h1 gw x hx)) (fun x hx=>⟨hx,hh x (Cu x hx)⟩)
 intro x hx;rw[jb]at hx
 by_cases AS:x=b;subst AS;exact .inl ⟨c,e,h0⟩
 have iD:∀{x},x≠b→mO h x→mO h' x:=fun gw hu=>hu.eq (hh _ gw);rcases ax.1 hx with hx|hx
 ·rw[←GJ]at hx;cases ow' with
  |true=>
   simp only[aK]at hx;rcases aj.1 hx with rfl|hx
   exact absurd rfl AS;exact iD AS (hzG rfl x hx)
  |false=>
   simp only[kY,aH,am]at hx;exact absurd hx AS
 exact iD AS (hu.fz x (hH.subset hx))
variable {d:D}
def DT:D.f6 d.cells=d.size:=by cases d<;>simp[D.cells,D.size,D.f6]
variable {F G:List Nat}{cs:List Value}
def RI{e:D}{vc:List Value}(he:f8 h e G cs)(hd:f8 h d F vc){usz j:Nat}(hu:e.size=usz)(hs:d.size=sz)(hj:j+sz≤usz)(hw:j=0∧sz=usz∨e.fK=true):
  ∃A B C,G=A++(B++C)∧f8 h (D.put usz e j sz d) (A++(F++C)) (cs.take j++(vc++cs.drop (j+sz)))∧(D.put usz e j sz d).size=usz∧
   ∀agg,(agg=true→e.fK=true)→(agg=false→sz=1)→f8 h (D.sub e j sz agg) B ((cs.drop j).take sz):=by
 have hl:=he.length;have hv:=hd.length
 by_cases tg:j=0∧sz=usz
 ·obtain⟨rfl,rfl⟩:=tg;refine⟨[],G,[],by simp,?_,by simp[D.put,hs],?_⟩;have:cs.drop (0+sz)=[]:=bQ (by omega);rw[this];simpa[D.put]using hd;intro agg ha h1;rw[az,bZ (by omega)]
  by_cases s8:e.fK=true
  ·cases e with
   |ag ds=>
    have he':=he;simp only[f8]at he;simp only[D.size,D.ja he.1]at hu;cases agg with
    |true=>
     simp only[D.sub,aK,az];rw[bZ (by omega)];exact he'
    |false=>
     have:=h1 rfl
     match ds,he,hu with
     | [x],he,_=>
      simp only[D.sub,kY,aH,aD];obtain⟨F1,F2,c1,c2,rfl,rfl,q1,q2⟩:=ig.1 he.2;obtain⟨rfl,rfl⟩:=lS.1 q2;simpa using q1
     | [],_,hu=>simp at hu;omega
     |x::y::r,_,hu=>simp at hu;omega
   |_=>simp[D.fK]at s8
  have O9:agg=false:=by cases agg<;>simp_all
  subst O9;obtain rfl:=h1 rfl;rw[Iy (by simpa using s8)];exact he
 have s8:=hw.resolve_left tg;cases e with
 |ag ds=>
  simp only[f8]at he;obtain⟨h1,he⟩:=he;simp only[D.size,D.ja h1]at hu;have e1:ds=ds.take j++((ds.drop j).take sz++(ds.drop j).drop sz):=by rw[bw,bw]
  have he':fR h (ds.take j++((ds.drop j).take sz++(ds.drop j).drop sz)) G cs:=by rw[←e1];exact he
  obtain⟨A,BC,c1,ZW,rfl,rfl,s1,KN⟩:=he'.split;obtain⟨B,C,c2,c3,rfl,rfl,s2,s3⟩:=KN.split;have l1:c1.length=j:=by rw[s1.length,D.ja fun d hd=>h1 d (bf hd)];simp;omega
  have AT:∀d∈(ds.drop j).take sz,d.size=1∧d.fK=false:=fun d hd=>h1 d (cd (bf hd));have l2:c2.length=sz:=by rw[s2.length,D.ja AT];simp;omega
  obtain⟨q1,q2⟩:=u5 hd;refine⟨A,B,C,rfl,?_,?_,?_⟩
  ·have t1:(c1++(c2++c3)).take j=c1:=by rw[←l1];simp
   have t2:(c1++(c2++c3)).drop (j+sz)=c3:=by rw[←l1,←l2,←bz,←lP];simp
   rw[t1,t2];simp only[D.put,tg,aH,f8];refine⟨?_,?_⟩
   ·intro x hx;simp only[bz,ax]at hx;rcases hx with hx|hx|hx
    exact h1 x (bf hx);exact q2 x hx;exact h1 x (cd hx)
   rw[bz];refine s1.append (q1.append ?_);rw[←ch];exact s3
  ·simp only[D.put,tg,aH,D.size];rw[D.uk,D.uk,DT,hs,D.ja fun d hd=>h1 d (bf hd),D.ja fun d hd=>h1 d (cd hd)];simp;omega
  intro agg ha h2;have t3:((c1++(c2++c3)).drop j).take sz=c2:=by rw[←l1,←l2];simp
  rw[t3];cases agg with
  |true=>simp only[D.sub,aK,f8];exact⟨AT,s2⟩
  |false=>
   obtain rfl:=h2 rfl;have gI:j<ds.length:=by omega
   have e2:(ds.drop j).take 1=[ds[j]]:=by
    rw[cy gI];simp only[aG,aA]
   rw[e2,ig]at s2;obtain⟨G1,G2,e1,e3,rfl,rfl,z1,z2⟩:=s2;obtain⟨rfl,rfl⟩:=lS.1 z2;have:ds.getD j default=ds[j]:=by simp[List.getD,bR gI]
   simp only[D.sub,kY,aH,this];simpa using z1
 |_=>simp[D.fK]at s8
def kF{vc:List Value}(he:fR h es G cs)(hd:f8 h d F vc){usz el j sz:Nat}(hu:∀e∈es,e.size=usz)(mD:el<es.length)(hs:d.size=sz)(hj:j+sz≤usz)
  (hw:j=0∧sz=usz∨(D.at es el).fK=true):
  ∃A B C,G=A++(B++C)∧fR h (es.set el (D.put usz (D.at es el) j sz d)) (A++(F++C)) (cs.take (el*usz+j)++(vc++cs.drop (el*usz+j+sz)))∧
   (∀e∈es.set el (D.put usz (D.at es el) j sz d),e.size=usz)∧
   ∀agg,(agg=true→(D.at es el).fK=true)→(agg=false→sz=1)→f8 h (D.sub (D.at es el) j sz agg) B ((cs.drop (el*usz+j)).take sz):=by
 rw[D.j7 mD]at hw⊢;obtain⟨F1,F2,F3,c1,c2,c3,rfl,rfl,r1,r2,r3⟩:=he.pick mD;have jm:=hu _ (aZ mD);obtain⟨A,B,C,rfl,p1,p2,p3⟩:=RI r2 hd jm hs hj hw;have l1:c1.length=el*usz:=by
  rw[r1.length,D.fG (sz:=usz) fun d hd=>hu d (bf hd),bk,bl (db mD)]
 have l2:c2.length=usz:=by rw[r2.length,jm]
 refine⟨F1++A,B,C++F3,by simp,?_,?_,?_⟩
 ·have e1:(c1++(c2++c3)).take (el*usz+j)=c1++c2.take j:=by
   rw[fc,←l1,bZ (by omega)];congr 1;rw[du (by omega)];congr 1;omega
  have e2:(c1++(c2++c3)).drop (el*usz+j+sz)=c2.drop (j+sz)++c3:=by
   rw[eC,←l1,bQ (by omega),be,dt (by omega)];congr 2;omega
  rw[e1,e2,eR,an mD];have:=r1.append (ig.2 ⟨_,_,_,_,rfl,rfl,p1,r3⟩);simpa[bz]using this
 ·intro e he;rcases List.mem_or_eq_of_mem_set he with he|rfl
  exact hu e he;exact p2
 intro agg ha h1;have:=p3 agg ha h1;have e3:((c1++(c2++c3)).drop (el*usz+j)).take sz=(c2.drop j).take sz:=by
  rw[eC,←l1,bQ (by omega),be,Nat.add_sub_cancel_left,dt (by omega),du (by simp;omega)]
 rw[e3];exact this
def U.s9:U→U→Prop
 |.own d,.own e=>d=e
 |.ar _ _ sz es,.ar _ _ gv es'=>sz=gv∧es.length=es'.length
 |.bx sz l,.bx gv l'=>sz=gv∧l.length=l'.length
 |.sb T E s,.sb T' E' s'=>T=T'∧E=E'∧s=s'
 |.mp es,.mp es'=>es=es'
 |_,_=>False
def U.KU(u:U):u.s9 u:=by cases u<;>simp[U.s9]
def U.ta{v x:U}(h:u.s9 v)(h':v.s9 x):u.s9 x:=by
 cases u<;>cases v<;>cases x<;>simp_all [U.s9]
def U.AU(u:U)(f:AV→Bool):u.s9 (u.kill f):=by cases u<;>simp[U.s9,U.kill,kN]
structure iU (h:ij) (n0:Nat) (S0 M0:Nat→Prop) (gR st:St) (tm:Nat→Value) (g0 g:Gh):Prop where
 us:gr h n0 S0 M0 st.us g
 rep:∀t,fx h st.us g (lk st.env t) (tm t)
 n:st.n=gR.n
 mem:∀i u,(i,u)∈st.us→∃u0,(i,u0)∈gR.us∧u0.s9 u
 gh:∀i u,(i,u)∈st.us→g.β i=g0.β i∧g.root i=g0.root i∧g.cap i=g0.cap i
 sh:∀b,g0.Sh b→g.Sh b
 fp:∀b,b∈fp g st.us→b∈fp g0 gR.us
variable {tm:Nat→Value}
def iU.refl{st:St}(hu:gr h n0 S0 M0 st.us g)(hr:∀t,fx h st.us g (lk st.env t) (tm t)):iU h n0 S0 M0 st st tm g g:=
 ⟨hu,hr,rfl,fun i u hm=>⟨u,hm,u.KU⟩,fun _ _ _=>⟨rfl,rfl,rfl⟩,fun _ hb=>hb,fun _ hb=>hb⟩
variable {g0:Gh}
def iU.del{gR st:St}{g:Gh}(T:iU h n0 S0 M0 gR st tm g0 g)(k:Nat):iU h n0 S0 M0 gR (st.del k) tm g0 (g.drop k):=by
 obtain⟨hU,hK⟩:=T.us.del k;refine⟨hU,fun t=>gT (fun av v hf hr=>fx.iq hK hf hr) (T.rep t),T.n,?_,?_,T.sh,?_⟩;intro i u hm;obtain⟨gw,u',h1,h2⟩:=gf hm;obtain⟨u0,h3,h4⟩:=T.mem _ _ h1;simp only at h2;rw[h2];exact⟨u0,h3,U.ta h4 (u'.AU _)⟩;intro i u hm;obtain⟨gw,u',h1,h2⟩:=gf hm;exact T.gh _ _ h1;intro b hb;exact T.fp b ((iM (g:=g) (g':=g.drop k) (fun i hi=>by simp[Gh.drop,hi])).subset hb)
def np{g:Gh}(hu:gr h n0 S0 M0 us g){k:Nat}(hm:(k,u)∈us):∀b∈g.φ k,b∉fp (g.drop k) (fQ k (AV.refs k) us):=by
 intro b hb rU;obtain⟨y,hy,lF⟩:=fL.1 rU;obtain⟨gw,u',h1,_⟩:=gf hy;simp only[Gh.drop,gw,aH]at lF;exact gw (gK hu.keys hu.nodup h1 hm lF hb)
def gO{g:Gh}(hu:gr h n0 S0 M0 us g){k:Nat}(hm:(k,u)∈us):(g.φ k).Nodup:=by
 have:=hu.nodup;clear hu
 induction us with
 |nil=>cases hm
 |cons y ys ih=>
  simp only[Ax.fp,cp,aT]at this;rcases aj.1 hm with rfl|hm
  exact this.1;exact ih hm this.2.1
def Cs(n0:Nat)(M0:Nat→Prop)(own:Bool)(gb ga:Gh)(usb usa:List (Nat×U))(F:List Nat):Prop:=
 (own=true→F.Nodup∧∀b∈F,(b<n0→M0 b)∧¬ga.Sh b∧b∉fp ga usa∧b∈fp gb usb)∧(own=false→∀b∈F,ga.Sh b)
def BO(h:ij)(sz:Nat)(agg:Bool)(h1:agg=false→sz=1)(vs:List Value)(hl:vs.length=sz)(ho:∀v∈vs,v.oneCell'=true):f8 h (rZ sz agg) [] vs∧(rZ sz agg).size=sz:=by
 cases agg with
 |true=>
  subst hl;have key:∀vs:List Value,(∀v∈vs,v.oneCell'=true)→fR h (List.replicate vs.length D.jk) [] vs:=by
   intro vs
   induction vs with
   |nil=>intro _;simp[fR]
   |cons v vs ih=>
    intro ho;simp only[lK,dM,ig];exact⟨[],[],[v],vs,rfl,rfl,by simp[f8,ho v (by simp)],ih fun x hx=>ho x (by simp[hx])⟩
  refine⟨?_,?_⟩
  ·simp only[rZ,aK,f8];exact⟨fun d hd=>by rw[e9 hd];simp[D.size,D.fK],key vs ho⟩
  simp only[rZ,aK,D.size];rw[D.ja fun d hd=>by rw[e9 hd];simp[D.size,D.fK]];simp
 |false=>
  obtain rfl:=h1 rfl
  match vs,hl with
  | [v],_=>
   refine⟨?_,by simp[rZ,D.size]⟩;simp only[rZ,kY,aH];unfold f8;exact⟨rfl,v,rfl,ho v (by simp)⟩
variable {own:Bool}
def Cs.ahy{gb gb' ga:Gh}{usb ady usa:List (Nat×U)}(h:Cs n0 M0 own gb ga usb usa F)(hs:∀b,b∈fp gb usb→b∈fp gb' ady):Cs n0 M0 own gb' ga ady usa F:=
 ⟨fun e=>⟨(h.1 e).1,fun b hb=>⟨((h.1 e).2 b hb).1,((h.1 e).2 b hb).2.1,((h.1 e).2 b hb).2.2.1,hs b ((h.1 e).2 b hb).2.2.2⟩⟩,h.2⟩
def Cs.nil{gb ga:Gh}{usb usa:List (Nat×U)}:Cs n0 M0 own gb ga usb usa []:=⟨fun _=>⟨bC,by simp⟩,fun _=>by simp⟩
def pT:∀{ds:List D} {Fs cs},fR h ds Fs cs→fR h (ds.map D.cells).flatten Fs cs∧∀x∈(ds.map D.cells).flatten,x.size=1∧x.fK=false
 | [],_,_,hr=>by simpa using hr
 |d::ds,_,_,hr=>by
  rw[ig]at hr;obtain⟨F1,F2,c1,c2,rfl,rfl,h1,h2⟩:=hr;obtain⟨q1,q2⟩:=u5 h1;obtain⟨q3,q4⟩:=pT h2;simp only[lC,cb];exact⟨q1.append q3,fun x hx=>(ax.1 hx).elim (q2 x) (q4 x)⟩
def jE:∀{ds:List D} {F cs},fC ds=true→fR h ds F cs→F=[]
 | [],_,_,_,hr=>by simp only[fR]at hr;exact hr.1
 |d::ds,_,_,hn,hr=>by
  simp only[fR]at hr;simp only[fC,bA]at hn;obtain⟨F1,F2,c1,c2,rfl,rfl,h1,h2⟩:=hr;rw[iB hn.1 h1,jE hn.2 h2]
  rfl
mutual
def lL{gR:St}(h0:gr h n0 S0 M0 gR.us g0):∀{av:AV} {v:Value} {st:St} {g:Gh} {k:KT},iU h n0 S0 M0 gR st tm g0 g→fx h gR.us g0 av v→gH st av k→
  ∃own d fS g' F,k own d fS∧iU h n0 S0 M0 gR fS tm g0 g'∧f8 h d F v.cells.toList∧d.fits v∧Cs n0 M0 own g g' st.us fS.us F∧(∀b,g'.Sh b↔g.Sh b)∧(∀b,b∈fp g' fS.us→b∈fp g st.us)
 |.im none d,v,st,g,k,T,hr,hk=>by
  simp only[gH]at hk;simp only[fx]at hr;obtain⟨F,r1,r2,r3⟩:=hr;refine⟨d.gJ,d,st,g,F,hk,T,r1,r2,⟨fun hp=>?_,fun _ b hb=>T.sh b (lr (r3 b hb))⟩,fun _=>bL,fun _ hb=>hb⟩;have:=iB hp r1;subst this;exact⟨bC,by simp⟩
 |.im (some i) d,v,st,g,k,T,hr,hk=>by
  simp only[gH]at hk;simp only[fx]at hr;obtain⟨F,r1,r2,r3⟩:=hr;have:=iB hk.1 r1;subst this;exact⟨true,d,st,g,[],hk.2,T,r1,r2,Cs.nil,fun _=>bL,fun _ hb=>hb⟩
 |.tr i,v,st,g,k,T,hr,hk=>by
  simp only[gH,sv]at hk
  split at hk
  ·next d gZ=>
   simp only[fx]at hr;obtain⟨_,rfl⟩:=hr;have hm:=fB gZ;have ho:=T.us.each _ hm;simp only[hP]at ho;have T':=T.del i;refine⟨true,d,st.del i,g.drop i,g.φ i,hk,T',by rw[←(T.gh _ _ hm).2.1];exact ho.2.1,by rw[←(T.gh _ _ hm).2.1];exact ho.2.2,⟨fun _=>⟨gO T.us hm,fun b hb=>?_⟩,by simp⟩,fun _=>bL,?_⟩
   ·have jb:b∈fp g st.us:=fL.2 ⟨_,hm,hb⟩;exact⟨T.us.low b jb,fun hs=>(T.us.sh b hs).2.2 jb,np T.us hm b hb,jb⟩
   exact fun b hb=>(iM (g:=g) (g':=g.drop i) (fun j hj=>by simp[Gh.drop,hj])).subset hb
  exact hk.elim
 |.sm i off len,v,st,g,k,T,hr,hk=>by
  simp only[gH,uM]at hk
  split at hk
  ·next nn sz es gZ=>
   obtain⟨⟨rfl,rfl⟩,hk⟩:=hk;have hm:=fB gZ;have ho:=T.us.each _ hm;obtain⟨u0,EF,jP⟩:=T.mem _ _ hm;simp only[fx]at hr;obtain⟨ow0,KO,vK,EC,q1,q2,q3⟩:=hr;have:=h0.uniq EF q1;subst this;simp only[U.s9]at jP;obtain⟨rfl,hlen⟩:=jP;obtain⟨gb,_,gc⟩:=T.gh _ _ hm;have T':=T.del i;have ahz:∀b∈g.φ i,(b<n0→M0 b)∧¬(g.drop i).Sh b∧b∉fp (g.drop i) (st.del i).us∧b∈fp g st.us:=fun b hb=>by
    have jb:b∈fp g st.us:=fL.2 ⟨_,hm,hb⟩;exact⟨T.us.low b jb,fun hs=>(T.us.sh b hs).2.2 jb,np T.us hm b hb,jb⟩
   have hH:∀b,b∈fp (g.drop i) (st.del i).us→b∈fp g st.us:=fun b hb=>(iM (g:=g) (g':=g.drop i) (fun j hj=>by simp[Gh.drop,hj])).subset hb;simp only[hP]at ho;obtain⟨kw,hs,ho⟩:=ho;rcases ho with⟨p1,rfl,p3,p4⟩|⟨b,c,e,G,cs,rest,k1,k2,k3,k4,k5,k6,k7,k8⟩
   ·have hv:v=.slice none 0 0:=by
     rcases q3 with⟨b,q3,_⟩|⟨_,_,_,q3⟩
     rw[←gb,p1]at q3;cases q3;exact q3
    subst hv;refine⟨true,_,st.del i,g.drop i,[],hk,T',?_,rfl,Cs.nil,fun _=>bL,hH⟩;unfold f8;exact .inl ⟨none,by simp[Value.cells],rfl,rfl,fun _=>p4,by simp⟩
   have hv:v=.slice (some ⟨b,0,none⟩) es.length (g.cap i):=by
    rcases q3 with⟨b',q3,q4⟩|⟨q3,_⟩
    rw[←gb,k1]at q3;obtain rfl:=aQ q3;simpa[gc]using q4;rw[←gb,k1]at q3;cases q3
   subst hv;simp only[aK]at k8;refine⟨true,_,st.del i,g.drop i,b::G,hk,T',?_,rfl,⟨fun _=>⟨by rw[←k8];exact gO T.us hm,fun x hx=>ahz x (by rw[k8];exact hx)⟩,by simp⟩,fun _=>bL,hH⟩;unfold f8;refine .inr ⟨b,0,g.cap i,c,e,(0,0),G,by simp[Value.cells],rfl,k7,k5,kw,k2,by omega,hs,?_⟩;have l1:=k6.length;rw[D.fG hs]at l1;rw[k3,az,←l1];simpa using k6
  exact hk.elim
 |.cw i el j sz agg,v,st,g,k,T,hr,hk=>by
  simp only[gH,uE]at hk
  split at hk
  ·next nn usz es gZ=>
   obtain⟨s8,hk⟩:=hk;have hm:=fB gZ;have ho:=T.us.each _ hm;obtain⟨u0,EF,jP⟩:=T.mem _ _ hm;simp only[fx]at hr;obtain⟨KO,vK,EC,b,c,e,q1,q2,q3,q4,q5,q6,q7,q8,q9⟩:=hr;have:=h0.uniq EF q1;subst this;simp only[U.s9]at jP;obtain⟨rfl,hlen⟩:=jP;obtain⟨gb,_,gc⟩:=T.gh _ _ hm;have q4':g.β i=some b:=by rw[gb];exact q4
   have mD:el<es.length:=by omega
   obtain⟨c',e',F2,c2,p1,p2,p3,p4,p5,p6,p7⟩:=pg (agg:=agg) T.us hm mD q4' q3 s8 q7;rw[q5]at p1;injection p1 with p1;injection p1 with p1 p1';subst p1;have uB:v.cells.toList=c2:=by rw[q8];exact vD p3 p2
   simp only[hP]at ho;obtain⟨kw,hs,ho⟩:=ho;rcases ho with⟨z1,_⟩|⟨b',c',e',G,cs,rest,k1,k2,k3,k4,k5,k6,k7,k8⟩
   rw[q4']at z1;cases z1;rw[q4']at k1;obtain rfl:=aQ k1;rw[q5]at k2;injection k2 with k2;injection k2 with k2 k2';subst k2;simp only[aK]at k8;have qq:∀x∈c2,x.oneCell'=true:=p4.one;obtain⟨j1,j2⟩:=BO h sz agg q7 c2 p3 qq;have hw:j=0∧sz=vK∨(D.at es el).fK=true:=by
    by_cases hA:(D.at es el).fK=true;exact .inr hA
    have Z4:(D.at es el).size=1:=by cases hD:D.at es el<;>simp_all [D.size,D.fK]
    have:(D.at es el).size=vK:=by rw[D.j7 mD];exact hs _ (aZ mD)
    have Z5:agg=false:=by cases agg<;>simp_all
    have:=q7 Z5
    left;omega
   obtain⟨A,B,C,rfl,y1,y2,y3⟩:=kF k6 j1 hs mD j2 q3 hw;have y3:=y3 agg s8 q7;have lY:(cs.drop (el*vK+j)).take sz=c2:=by
    have h1:(c.toList.drop (el*vK+j)).take sz=c2:=vD p3 p2;have l6:=k6.length;rw[D.fG hs]at l6;have hle:el*vK+vK≤es.length*vK:=by
     have:=ba vK (show el+1≤es.length by omega);rw[a9]at this;omega
    rw[←h1,k3,dt (by omega),du (by simp;omega)]
   have yJ:cs.take (el*vK+j)++(c2++cs.drop (el*vK+j+sz))=cs:=by
    have e1:cs.drop (el*vK+j+sz)=(cs.drop (el*vK+j)).drop sz:=by rw[ch]
    rw[←lY,e1,bw,bw]
   rw[yJ]at y1;rw[lY]at y3;have ii:=gO T.us hm;rw[k8]at ii;have KV:∀x∈g.φ i,x∈fp g st.us:=fun x hx=>fL.2 ⟨_,hm,hx⟩;have HT:∀x∈A++([]++C),x∈g.φ i:=fun x hx=>by
    rw[k8];simp only[be,ax,aj]at hx⊢;rcases hx with hx|hx
    exact .inr (.inl hx);exact .inr (.inr (.inr hx))
   have ahA:(b::(A++([]++C))).Nodup:=by
    refine eT ?_ ii;simp only[be];exact List.Sublist.cons_cons _ (ez (dw _) (ew _ _))
   obtain⟨φ,hφ,hU,hK⟩:=T.us.KH (h':=h) hm q4' q5 rfl (fun _ _=>rfl) k4 (ow':=true) (es':=es.set el (D.put vK (D.at es el) j sz (rZ sz agg))) (by simp) y2 k3 y1
    (fun _ => ⟨ahA, fun x hx => by
     have h1:=KV x (HT x hx);exact⟨T.us.low x h1,fun hsx=>(T.us.sh x hsx).2.2 h1,fun y hy gw jM=>gw (gK T.us.keys T.us.nodup hy hm jM (HT x hx))⟩⟩) (by simp) (fun _ x hx=>T.us.fz x (KV x (HT x hx))) (if j=0∧sz=vK then some el else none) rfl rfl (fun ic gw=>by
     by_cases he:ic=el
     ·subst he;have hnw:¬(j=0∧sz=vK):=fun hc=>gw (by simp[hc]);have e1:D.at (es.set ic (D.put vK (D.at es ic) j sz (rZ sz agg))) ic=D.put vK (D.at es ic) j sz (rZ sz agg):=by simp[D.at,mD]
      rw[e1];unfold D.put;rw[al hnw]
      split<;>simp_all [D.fK]
     simp[D.at,bi,List.getElem?_set,di he])
   simp only[aK]at hφ;have yH:∀x,x∈fp (g.lp i φ) ((i,U.ar true nn vK (es.set el (D.put vK (D.at es el) j sz (rZ sz agg))))::fQ i (AV.lX i (if j=0∧sz=vK then some el else none)) st.us)→x∈fp g st.us∧x∉B:=by
    intro x hx;obtain⟨y,hy,jM⟩:=fL.1 hx;rcases aj.1 hy with rfl|hy
    ·simp only[Gh.lp,aK]at jM;rw[hφ]at jM;have hxi:x∈g.φ i:=by
      rcases aj.1 jM with rfl|jM
      rw[k8];simp;exact HT x jM
     refine⟨KV x hxi,fun hxB=>?_⟩;rw[aP,aT,aT]at ii;rcases aj.1 jM with rfl|jM
     exact ii.1 (by simp[hxB]);simp only[be,ax]at jM;rcases jM with jM|jM
     exact ii.2.2.2 x jM x (by simp[hxB]) rfl;exact ii.2.2.1.2.2 x hxB x jM rfl
    obtain⟨gw,u',h1,h2⟩:=gf hy;simp only[Gh.lp,gw,aH]at jM;refine⟨fL.2 ⟨_,h1,jM⟩,fun hxB=>gw (gK T.us.keys T.us.nodup h1 hm jM ?_)⟩;rw[k8];simp[hxB]
   have T':iU h n0 S0 M0 gR (st.KH i (if j=0∧sz=vK then some el else none) (.ar true nn vK (es.set el (D.put vK (D.at es el) j sz (rZ sz agg))))) tm g0 (g.lp i φ):=by
    refine⟨hU,fun t=>gT (fun av v hf hr=>hK av v hf hr) (T.rep t),T.n,?_,?_,T.sh,fun x hx=>T.fp x (yH x hx).1⟩
    ·intro i' u su;rcases aj.1 su with e1|su
     ·injection e1 with e1 e2;subst e1;subst e2;exact⟨_,EF,by simp[U.s9,hlen]⟩
     obtain⟨gw,u',h1,h2⟩:=gf su;obtain⟨u0,h3,h4⟩:=T.mem _ _ h1;simp only at h2;rw[h2];exact⟨u0,h3,U.ta h4 (u'.AU _)⟩
    intro i' u su;rcases aj.1 su with e1|su
    ·injection e1 with e1 e2;subst e1;exact T.gh _ _ hm
    obtain⟨gw,u',h1,h2⟩:=gf su;exact T.gh _ _ h1
   have hB:∀x∈B,x∈g.φ i:=fun x hx=>by rw[k8];simp[hx]
   refine⟨true,_,_,_,B,hk,T',by rw[uB];exact y3,?_,⟨fun _=>⟨?_,fun x hx=>⟨T.us.low x (KV x (hB x hx)),fun nB=>(T.us.sh x nB).2.2 (KV x (hB x hx)),fun EG=>(yH x EG).2 hx,KV x (hB x hx)⟩⟩,by simp⟩,fun _=>bL,fun x hx=>(yH x hx).1⟩
   ·cases agg with
    |true=>simp only[aK]at q9;rw[q9];exact pu p5
    |false=>exact jV p5 (by simpa using q9)
   rw[aP,aT,aT]at ii;exact ii.2.2.1.1
  exact hk.elim
 |.sg vs,v,st,g,k,T,hr,hk=>by
  simp only[gH]at hk;simp only[fx]at hr;obtain⟨xs,r1,rfl⟩:=hr;obtain⟨own,ds,fS,g',F,p1,p2,p3,p4,p5,p6⟩:=Ed h0 T r1 hk;refine⟨own,_,fS,g',F,p1,p2,?_,⟨_,rfl⟩,p4,p5,p6⟩;obtain⟨q1,q2⟩:=pT p3;unfold f8;exact⟨q2,by simpa[Value.cells]using q1⟩
 |.pw _ _ _,_,_,_,_,_,_,hk=>by simp[gH]at hk
 |.vb _ _,_,_,_,_,_,_,hk=>by simp[gH]at hk
 |.pb _ _,_,_,_,_,_,_,hk=>by simp[gH]at hk
 |.ps _,_,_,_,_,_,_,hk=>by simp[gH]at hk
 |.mv _,_,_,_,_,_,_,hk=>by simp[gH]at hk
 |.jS _,_,_,_,_,_,_,hk=>by simp[gH]at hk
 |.any,_,_,_,_,_,_,hk=>by simp[gH]at hk
 |.cl _ _,_,_,_,_,_,_,hk=>by simp[gH]at hk
 |.pq _ _ _ _ _ _,_,_,_,_,_,_,hk=>by simp[gH]at hk
 |.qs _ _ _ _ _ _,_,_,_,_,_,_,hk=>by simp[gH]at hk
 |.ss _ _ _,_,_,_,_,_,_,hk=>by simp[gH]at hk
 |.z0 _ _,_,_,_,_,_,_,hk=>by simp[gH]at hk
def Ed{gR:St}(h0:gr h n0 S0 M0 gR.us g0):∀{avs:List AV} {vs:List Value} {st:St} {g:Gh} {k:KL},iU h n0 S0 M0 gR st tm g0 g→fA h gR.us g0 avs vs→oG st avs k→
  ∃own ds fS g' F,k own ds fS∧iU h n0 S0 M0 gR fS tm g0 g'∧fR h ds F (vs.map (·.cells.toList)).flatten∧Cs n0 M0 own g g' st.us fS.us F∧(∀b,g'.Sh b↔g.Sh b)∧(∀b,b∈fp g' fS.us→b∈fp g st.us)
 | [],vs,st,g,k,T,hr,hk=>by
  simp only[oG]at hk;simp only[fA]at hr;subst hr;exact⟨true,[],st,g,[],hk,T,by simp[fR],Cs.nil,fun _=>bL,fun _ hb=>hb⟩
 |av::avs,vs,st,g,k,T,hr,hk=>by
  simp only[oG]at hk;simp only[fA]at hr;obtain⟨v,r,rfl,r1,r2⟩:=hr;obtain⟨b,d,nj,g1,F1,k1,T1,p1,p2,o1,s1,f1⟩:=lL h0 T r1 hk;obtain⟨c,ds,KW,g2,F2,k2,T2,p3,o2,s2,f2⟩:=Ed h0 T1 r2 k1;obtain⟨q1,q2,tb⟩:=k2;refine⟨_,d::ds,KW,g2,F1++F2,tb,T2,?_,?_,fun x=>(s2 x).trans (s1 x),fun x hx=>f1 x (f2 x hx)⟩;simp only[lC,cb,ig];exact⟨F1,F2,_,_,rfl,rfl,p1,p3⟩;refine⟨fun e=>?_,fun e=>?_⟩
  ·simp only[C5,bA,cm]at e;have e1:F1=[]∨b=true:=by
    rcases e.1 with h1|h1
    exact .inr h1;exact .inl (iB h1 p1)
   have e2:F2=[]∨c=true:=by
    rcases e.2 with h1|h1
    exact .inr h1;exact .inl (jE h1 p3)
   have w1:F1.Nodup∧∀x∈F1,(x<n0→M0 x)∧¬g1.Sh x∧x∉fp g1 nj.us∧x∈fp g st.us:=by
    rcases e1 with rfl|h1
    ·exact⟨bC,by simp⟩
    exact o1.1 h1
   have w2:F2.Nodup∧∀x∈F2,(x<n0→M0 x)∧¬g2.Sh x∧x∉fp g2 KW.us∧x∈fp g1 nj.us:=by
    rcases e2 with rfl|h1
    ·exact⟨bC,by simp⟩
    exact o2.1 h1
   refine⟨aT.2 ⟨w1.1,w2.1,fun x hx y hy exy=>(w1.2 x hx).2.2.1 (exy▸(w2.2 y hy).2.2.2)⟩,fun x hx=>?_⟩;rcases ax.1 hx with hx|hx
   ·obtain⟨z1,z2,z3,z4⟩:=w1.2 x hx;exact⟨z1,fun hs=>z2 ((s2 x).1 hs),fun hf=>z3 (f2 x hf),z4⟩
   obtain⟨z1,z2,z3,z4⟩:=w2.2 x hx;exact⟨z1,z2,z3,f1 x z4⟩
  simp only[C5,eU,cD]at e;intro x hx;rcases ax.1 hx with hx|hx
  ·cases hb:b with
   |false=>exact(s2 x).2 (o1.2 hb x hx)
   |true=>
    rcases e with e|e
    rw[hb]at e;cases e.1;rcases q2 with h1|h1|h1
    rw[h1]at e;cases e.1;rw[hb]at h1;cases h1;rw[iB h1 p1]at hx;cases hx
  cases hc:c with
  |false=>exact o2.2 hc x hx
  |true=>
   rcases e with e|e
   ·rcases q1 with h1|h1|h1
    rw[h1]at e;cases e.1;rw[hc]at h1;cases h1;rw[jE h1 p3]at hx;cases hx
   rw[hc]at e;cases e.1
end
def Bp(f:St→AV→KT→Prop):Prop:=∀{h:ij} {gR:St} {tm:Nat→Value} {g0:Gh},gr h n0 S0 M0 gR.us g0→∀{av:AV} {v:Value} {st:St} {g:Gh} {k:KT},iU h n0 S0 M0 gR st tm g0 g→fx h gR.us g0 av v→f st av k→
  ∃own d fS g' F,k own d fS∧iU h n0 S0 M0 gR fS tm g0 g'∧f8 h d F v.cells.toList∧d.fits v∧Cs n0 M0 own g g' st.us fS.us F∧(∀b,g'.Sh b↔g.Sh b)∧(∀b,b∈fp g' fS.us→b∈fp g st.us)
def rM{f:St→AV→KT→Prop}(hf:Bp (n0:=n0) (S0:=S0) (M0:=M0) f){h:ij}{gR:St}{tm:Nat→Value}{g0:Gh}(h0:gr h n0 S0 M0 gR.us g0):∀{avs:List AV} {vs:List Value} {st:St} {g:Gh} {k:KL},iU h n0 S0 M0 gR st tm g0 g→fA h gR.us g0 avs vs→kA f st avs k→
  ∃own ds fS g' F,k own ds fS∧iU h n0 S0 M0 gR fS tm g0 g'∧fR h ds F (vs.map (·.cells.toList)).flatten∧Cs n0 M0 own g g' st.us fS.us F∧(∀b,g'.Sh b↔g.Sh b)∧(∀b,b∈fp g' fS.us→b∈fp g st.us)
 | [],vs,st,g,k,T,hr,hk=>by
  simp only[kA]at hk;simp only[fA]at hr;subst hr;exact⟨true,[],st,g,[],hk,T,by simp[fR],Cs.nil,fun _=>bL,fun _ hb=>hb⟩
 |av::avs,vs,st,g,k,T,hr,hk=>by
  simp only[kA]at hk;simp only[fA]at hr;obtain⟨v,r,rfl,r1,r2⟩:=hr;obtain⟨b,d,nj,g1,F1,k1,T1,p1,p2,o1,s1,f1⟩:=hf h0 T r1 hk;obtain⟨c,ds,KW,g2,F2,k2,T2,p3,o2,s2,f2⟩:=rM hf h0 T1 r2 k1;obtain⟨q1,q2,tb⟩:=k2;refine⟨_,d::ds,KW,g2,F1++F2,tb,T2,?_,?_,fun x=>(s2 x).trans (s1 x),fun x hx=>f1 x (f2 x hx)⟩;simp only[lC,cb,ig];exact⟨F1,F2,_,_,rfl,rfl,p1,p3⟩;refine⟨fun e=>?_,fun e=>?_⟩
  ·simp only[C5,bA,cm]at e;have e1:F1=[]∨b=true:=by
    rcases e.1 with h1|h1
    exact .inr h1;exact .inl (iB h1 p1)
   have e2:F2=[]∨c=true:=by
    rcases e.2 with h1|h1
    exact .inr h1;exact .inl (jE h1 p3)
   have w1:F1.Nodup∧∀x∈F1,(x<n0→M0 x)∧¬g1.Sh x∧x∉fp g1 nj.us∧x∈fp g st.us:=by
    rcases e1 with rfl|h1
    ·exact⟨bC,by simp⟩
    exact o1.1 h1
   have w2:F2.Nodup∧∀x∈F2,(x<n0→M0 x)∧¬g2.Sh x∧x∉fp g2 KW.us∧x∈fp g1 nj.us:=by
    rcases e2 with rfl|h1
    ·exact⟨bC,by simp⟩
    exact o2.1 h1
   refine⟨aT.2 ⟨w1.1,w2.1,fun x hx y hy exy=>(w1.2 x hx).2.2.1 (exy▸(w2.2 y hy).2.2.2)⟩,fun x hx=>?_⟩;rcases ax.1 hx with hx|hx
   ·obtain⟨z1,z2,z3,z4⟩:=w1.2 x hx;exact⟨z1,fun hs=>z2 ((s2 x).1 hs),fun hf=>z3 (f2 x hf),z4⟩
   obtain⟨z1,z2,z3,z4⟩:=w2.2 x hx;exact⟨z1,z2,z3,f1 x z4⟩
  simp only[C5,eU,cD]at e;intro x hx;rcases ax.1 hx with hx|hx
  ·cases hb:b with
   |false=>exact(s2 x).2 (o1.2 hb x hx)
   |true=>
    rcases e with e|e
    rw[hb]at e;cases e.1;rcases q2 with h1|h1|h1
    rw[h1]at e;cases e.1;rw[hb]at h1;cases h1;rw[iB h1 p1]at hx;cases hx
  cases hc:c with
  |false=>exact o2.2 hc x hx
  |true=>
   rcases e with e|e
   ·rcases q1 with h1|h1|h1
    rw[h1]at e;cases e.1;rw[hc]at h1;cases h1;rw[jE h1 p3]at hx;cases hx
   rw[hc]at e;cases e.1
def iU.trans{gR st fS:St}{g:Gh}(A:iU h n0 S0 M0 gR st tm g0 g)(B:iU h n0 S0 M0 st fS tm g g'):iU h n0 S0 M0 gR fS tm g0 g':=by
 refine⟨B.us,B.rep,B.n.trans A.n,?_,?_,fun b hb=>B.sh b (A.sh b hb),fun b hb=>A.fp b (B.fp b hb)⟩;intro i u hm;obtain⟨u1,h1,l1⟩:=B.mem i u hm;obtain⟨u0,h2,l2⟩:=A.mem i u1 h1;exact⟨u0,h2,U.ta l2 l1⟩;intro i u hm;obtain⟨u1,h1,_⟩:=B.mem i u hm;obtain⟨b1,b2,b3⟩:=B.gh i u hm;obtain⟨a1,a2,a3⟩:=A.gh i u1 h1;exact⟨b1.trans a1,b2.trans a2,b3.trans a3⟩
def I9{f:St→AV→KT→Prop}(hf:Bp (n0:=n0) (S0:=S0) (M0:=M0) f){h:ij}{gR:St}{tm:Nat→Value}{g0:Gh}(h0:gr h n0 S0 M0 gR.us g0){i len:Nat}{v:Value}{st:St}{g:Gh}{k:KT}
  (T:iU h n0 S0 M0 gR st tm g0 g) (hr:fx h gR.us g0 (.vb i len) v) (hk:sC f (st.unit i) i len st k):
  ∃own d fS g' F,k own d fS∧iU h n0 S0 M0 gR fS tm g0 g'∧f8 h d F v.cells.toList∧d.fits v∧Cs n0 M0 own g g' st.us fS.us F∧(∀b,g'.Sh b↔g.Sh b)∧(∀b,b∈fp g' fS.us→b∈fp g st.us):=by
 unfold sC at hk
 split at hk
 ·next sz items gZ=>
  obtain⟨hlen,hk⟩:=hk;have hm:=fB gZ;have ho:=T.us.each _ hm;obtain⟨u0,EF,jP⟩:=T.mem _ _ hm;simp only[fx]at hr;obtain⟨vK,ahB,b,r1,r2,r3,rfl⟩:=hr;obtain⟨gb,_,_⟩:=T.gh _ _ hm;simp only[hP]at ho;obtain⟨kw,b',c,e,vs,rest,k1,k2,k3,k4,k5,k6⟩:=ho;rw[gb,r3]at k1;obtain rfl:=aQ k1;have T1:iU h n0 S0 M0 st (st.del i) tm g (g.drop i):=(iU.refl T.us T.rep).del i;obtain⟨own,ds,fS,g',F,p1,T2,p3,p4,p5,p6⟩:=rM hf T.us T1 k4 hk;obtain⟨⟨B3,rfl,jm⟩,p1⟩:=p1;have hH:∀x,x∈fp (g.drop i) (st.del i).us→x∈fp g st.us:=fun x hx=>(iM (g:=g) (g':=g.drop i) (fun j hj=>by simp[Gh.drop,hj])).subset hx;have rW:b∈g.φ i:=by rw[k3];simp
  have lH:b∈fp g st.us:=fL.2 ⟨_,hm,rW⟩;have VM:b∉fp (g.drop i) (st.del i).us:=np T.us hm b rW;have l1:=p3.length;rw[D.fG jm]at l1;have l2:(vs.map (·.cells.toList)).flatten.length=vs.length*sz:=by
   have:∀vs:List Value,(∀v∈vs,v.cells.size=sz)→(vs.map (·.cells.toList)).flatten.length=vs.length*sz:=by
    intro vs
    induction vs with
    |nil=>simp
    |cons x vs ih=>
     intro hx;simp only[lC,cb,lP,cX,lK,hx x (by simp),ih fun y hy=>hx y (by simp[hy]),a9];omega
   exact this vs (k5 B3)
  have l3:∀{as:List AV} {vs:List Value},fA h st.us g as vs→vs.length=as.length:=by
   intro as
   induction as with
   |nil=>intro vs hr;simp only[fA]at hr;simp[hr]
   |cons a as ih=>
    intro vs hr;simp only[fA]at hr;obtain⟨v,r,rfl,_,h2⟩:=hr;simp[ih h2]
  have l4:=l3 k4;refine⟨true,_,fS,g',b::F,p1,T.trans T2,?_,by simp[D.fits,Value.oneCell'],⟨fun _=>⟨?_,?_⟩,by simp⟩,p5,fun x hx=>hH x (p6 x hx)⟩
  ·unfold f8;have oO:ds.length=len:=by
    rw[hlen,←l4];exact fe B3 (l1.symm.trans l2)
   refine .inr ⟨b,0,len,c,e,(0,0),F,by simp[Value.cells,oO],rfl,by simp,by omega,by omega,k2,?_,jm,?_⟩;have:c.toList.length=_:=congrArg List.length k6;rw[lP,l2,l4,←hlen]at this;simp at this;omega;rw[k6,az,oO];rw[bV (by rw[l2,l4,hlen])];exact p3
  ·exact aP.2 ⟨fun hb=>VM ((p4.1 rfl).2 b hb).2.2.2,(p4.1 rfl).1⟩
  intro x hx;rcases aj.1 hx with rfl|hx
  ·exact⟨T.us.low x lH,fun hs=>(T.us.sh x ((p5 x).1 hs)).2.2 lH,fun hf=>VM (p6 x hf),lH⟩
  obtain⟨z1,z2,z3,z4⟩:=(p4.1 rfl).2 x hx;exact⟨z1,z2,z3,hH x z4⟩
 exact hk.elim
variable {v:Value}
def Hz{gR:St}{st:St}{g:Gh}{k:KT}(T:iU h n0 S0 M0 gR st tm g0 g)(hr:fx h gR.us g0 (.im none d) v)(hk:k d.flat d st):
  ∃own d' fS g' F,k own d' fS∧iU h n0 S0 M0 gR fS tm g0 g'∧f8 h d' F v.cells.toList∧d'.fits v∧Cs n0 M0 own g g' st.us fS.us F∧(∀b,g'.Sh b↔g.Sh b)∧(∀b,b∈fp g' fS.us→b∈fp g st.us):=by
 simp only[fx]at hr;obtain⟨F,r1,r2,r3⟩:=hr;refine⟨d.flat,d,st,g,F,hk,T,r1,r2,⟨fun hp=>?_,fun _ b hb=>T.sh b (lr (r3 b hb))⟩,fun _=>bL,fun _ hb=>hb⟩;have:=iB (D.kH hp) r1;subst this;exact⟨bC,by simp⟩
def nJ:∀n:Nat,Bp (n0:=n0) (S0:=S0) (M0:=M0) (it n)
 |0=>by
  intro h0 av _ _ _ _ T hr hk;cases av with
  |im t d=>
   cases t with
   |none=>exact Hz T hr (by simpa only[it]using hk)
   |some i=>exact lL h0 T hr (by simpa only[it]using hk)
  |_=>exact lL h0 T hr (by simpa only[it]using hk)
 |n+1=>by
  intro h0 av _ _ _ _ T hr hk;cases av with
  |im t d=>
   cases t with
   |none=>exact Hz T hr (by simpa only[it]using hk)
   |some i=>exact lL h0 T hr (by simpa only[it]using hk)
  |vb i len=>exact I9 (nJ n) h0 T hr (by simpa only[it]using hk)
  |sg vs=>
   simp only[it]at hk;simp only[fx]at hr;obtain⟨xs,r1,rfl⟩:=hr;obtain⟨own,ds,fS,g',F,p1,p2,p3,p4,p5,p6⟩:=rM (nJ n) h0 T r1 hk;refine⟨own,_,fS,g',F,p1,p2,?_,⟨_,rfl⟩,p4,p5,p6⟩;obtain⟨q1,q2⟩:=pT p3;unfold f8;exact⟨q2,by simpa[Value.cells]using q1⟩
  |_=>exact lL h0 T hr (by simpa only[it]using hk)
def ip(n0:Nat)(S0 M0:Nat→Prop)(w0:World)(n:Nat)(f:St→Prop)(a':Act)(w':World):Prop:=∃fS,fS.n=n∧f fS∧ju n0 S0 M0 w0 fS a' w'
variable {e t:TypeId}
def sQ(hz:io P t=some sz){off:Nat}(hv:v.cells.size=sz){c:Array Value}(hb:w.heap[b]?=some (.cells c e (0,0)))(hl:off+sz≤c.size)
  (h1:∀x∈v.cells.toList,x.oneCell'=true):(Instr.storeAt t (.pointer (some ⟨b,off,none⟩)) v).run P w=.ok () (w.setRow b (c.toList.take off++v.cells.toList++c.toList.drop (off+sz)).toArray):=by
 have:=ff P b off e v.cells.toList 0 c w hb (by simp;omega) h1;have hs:v.cells.toList.length=sz:=by simpa using hv
 simp only[aC,hs]at this;simp[Instr.storeAt,Instr.sureAddr,storeVar,lW hz,hv,this]
def xg{fl eq dn:Bool}(hf:fl=true→F=[])(hd:dn=true→F=[])(hG:eq=true→G=[])(hc:own=ow∨dn=true∨eq=true):
  (fO own ow fl eq=true→(F=[]∨own=true)∧(G=[]∨ow=true))∧(fO own ow fl eq=false→(F=[]∨own=false)∧(G=[]∨ow=false)):=by
 unfold fO;cases fl<;>cases eq<;>cases dn<;>cases own<;>cases ow<;>simp_all
variable {x:Operand}{u1:TypeId}
def acT(h:At n0 S0 M0 w0 st o a w g){u2:TypeId}{sz:Nat}{p:Operand}{A X:Ax.X}{f:St→Prop}(gw:∀id el j gQ ic j',st.ev A≠.pq id el j gQ ic j')(ho:o.op=.store t p x)(hd:o.dst=none)(hp:fY P u1 p=some A)(hx:fY P u2 x=some X)
  (hz:io P t=some sz) (hq:TL (st.ev A) (st.ev X) st sz f):o.wp P a w (ip n0 S0 M0 w0 st.n f) Q':=by
 have ep:=h.ev_ hp;have ex:=h.ev_ hx;unfold TL at hq
 split at hq
 ·next id el j e1=>
  rw[e1]at ep;simp only[fx]at ep;obtain⟨ow0,KO,j8,EC,b,r1,r2,r3,r4,hv⟩:=ep;obtain⟨own,d,fS,g',F,hk,T,p1,p2,p3,p4,p5⟩:=nJ 12 h.us (iU.refl h.us h.rep) ex hq;simp only[YJ,stU]at hk
  split at hk
  ·next ow nn usz es gZ=>
   obtain⟨⟨q1,q2,q3,q4,q5⟩,hf⟩:=hk;have hm:=fB gZ;obtain⟨u0,EF,jP⟩:=T.mem _ _ hm;have:=h.us.uniq EF r1;subst this;simp only[U.s9]at jP;obtain⟨rfl,hlen⟩:=jP;obtain⟨gb,_,gc⟩:=T.gh _ _ hm;have hβ:g'.β id=some b:=by rw[gb];exact r4
   have hU:=T.us.each _ hm;simp only[hP]at hU;obtain⟨kw,hs,hU⟩:=hU;rcases hU with⟨z1,_⟩|⟨b',c,e,G,cs,rest,k1,k2,k3,k4,k5,k6,k7,k8⟩
   rw[hβ]at z1;cases z1;rw[hβ]at k1;obtain rfl:=aQ k1;have uB:(a.eval x).cells.size=sz:=by
    have:=p1.length;simp at this;omega
   have hle:el*j8+j8≤es.length*j8:=by
    have:=ba j8 (show el+1≤es.length by omega);rw[a9]at this;omega
   have Z6:es.length*j8≤g'.cap id*j8:=ba _ k5;have lh:=k6.length;rw[D.fG hs]at lh;have gk:=sQ (P:=P) (w:=w) hz (off:=el*j8+j) uB k2 (by omega) p1.one;obtain⟨A1,B1,C1,rfl,y1,y2,_⟩:=kF k6 p1 hs q3 q1 q2 q4;have yG:(c.toList.take (el*j8+j)++(a.eval x).cells.toList++c.toList.drop (el*j8+j+sz)).toArray.toList=
     (cs.take (el*j8+j)++((a.eval x).cells.toList++cs.drop (el*j8+j+sz)))++rest:=by
    simp only[k3];rw[du (by omega),dt (by omega)];simp
   have Pc:(c.toList.take (el*j8+j)++(a.eval x).cells.toList++c.toList.drop (el*j8+j+sz)).toArray.size=g'.cap id*j8:=by
    have:c.toList.length=g'.cap id*j8:=by simpa using k4
    simp only[dN,lP,bk,cK,cX,uB];simp at this;omega
   have lH:b∈g'.φ id:=by
    cases ow;simp only[kY,aH]at k8;rw[k8.1];simp;simp only[aK]at k8;rw[k8];simp
   have rb:∀y∈g'.φ id,y∈fp g' fS.us:=fun y hy=>fL.2 ⟨_,hm,hy⟩;obtain⟨mt,mf⟩:=xg (own:=own) (ow:=ow) (fl:=d.flat) (eq:=fC es) (dn:=d.gJ) (F:=F) (G:=A1++(B1++C1)) (fun h=>iB (D.kH h) p1) (fun h=>iB h p1) (fun h=>jE h k6) q5;have Pk:fO own ow d.flat (fC es)=true→(F=[]∨own=true)∧((ow=true∧g'.φ id=b::(A1++(B1++C1)))∨(A1=[]∧C1=[])):=by
    intro Z7;obtain⟨h1,h2⟩:=mt Z7;refine⟨h1,?_⟩;rcases h2 with h2|h2
    ·right;simp at h2;exact⟨h2.1,h2.2.2⟩
    left;rw[h2]at k8;exact⟨h2,by simpa using k8⟩
   have adz:fO own ow d.flat (fC es)=true→(b::(A1++(F++C1))).Nodup∧∀y∈A1++(F++C1),(y<n0→M0 y)∧¬g'.Sh y∧∀z∈fS.us,z.1≠id→y∉g'.φ z.1:=by
    intro Z7;obtain⟨hF,El⟩:=Pk Z7;have zw:F.Nodup∧∀y∈F,(y<n0→M0 y)∧¬g'.Sh y∧y∉fp g' fS.us:=by
     rcases hF with rfl|e
     ·exact⟨bC,by simp⟩
     exact⟨(p3.1 e).1,fun y hy=>⟨((p3.1 e).2 y hy).1,((p3.1 e).2 y hy).2.1,((p3.1 e).2 y hy).2.2.1⟩⟩
    rcases El with⟨_,hφ⟩|⟨rfl,rfl⟩
    ·have ii:=gO T.us hm;rw[hφ]at ii;have adA:∀y∈A1,y∈g'.φ id:=fun y hy=>by rw[hφ];simp[hy]
     have adB:∀y∈C1,y∈g'.φ id:=fun y hy=>by rw[hφ];simp[hy]
     rw[aP,aT,aT]at ii;refine⟨?_,?_⟩
     ·rw[aP,aT,aT];refine⟨?_,ii.2.1,⟨zw.1,ii.2.2.1.2.1,?_⟩,?_⟩
      ·simp only[ax,cA];refine⟨fun hy=>ii.1 (by simp[hy]),fun hy=>(zw.2 b hy).2.2 (rb b lH),fun hy=>ii.1 (by simp[hy])⟩
      ·rintro y hy z hz rfl;exact(zw.2 y hy).2.2 (rb y (adB y hz))
      rintro y hy z hz rfl;rcases ax.1 hz with hz|hz
      exact(zw.2 y hz).2.2 (rb y (adA y hy));exact ii.2.2.2 y hy y (by simp[hz]) rfl
     intro y hy;have jv:y∈g'.φ id∨y∈F:=by
      simp only[ax]at hy;rcases hy with hy|hy|hy
      exact .inl (adA y hy);exact .inr hy;exact .inl (adB y hy)
     rcases jv with hy|hy
     ·have h1:=rb y hy;exact⟨T.us.low y h1,fun hsx=>(T.us.sh y hsx).2.2 h1,fun z hz gw Z8=>gw (gK T.us.keys T.us.nodup hz hm Z8 hy)⟩
     obtain⟨z1,z2,z3⟩:=zw.2 y hy;exact⟨z1,z2,fun z hz gw Z8=>z3 (fL.2 ⟨z,hz,Z8⟩)⟩
    simp only[be,aB];refine⟨aP.2 ⟨fun hy=>(zw.2 b hy).2.2 (rb b lH),zw.1⟩,fun y hy=>?_⟩;obtain⟨z1,z2,z3⟩:=zw.2 y hy;exact⟨z1,z2,fun z hz gw Z8=>z3 (fL.2 ⟨z,hz,Z8⟩)⟩
   have hzC:fO own ow d.flat (fC es)=true→∀y∈A1++(F++C1),mO w.heap y:=by
    intro Z7 y hy;obtain⟨hF,El⟩:=Pk Z7;have adC:y∈A1∨y∈C1→y∈g'.φ id:=by
     rcases El with⟨_,hφ⟩|⟨rfl,rfl⟩
     ·rw[hφ];rintro(h|h)<;>simp[h]
     simp
    simp only[ax]at hy;rcases hy with hy|hy|hy
    exact T.us.fz y (rb y (adC (.inl hy)))
    ·rcases hF with rfl|e
     cases hy;exact h.us.fz y ((p3.1 e).2 y hy).2.2.2
    exact T.us.fz y (rb y (adC (.inr hy)))
   have ahC:fO own ow d.flat (fC es)=false→∀y∈A1++(F++C1),g'.Sh y:=by
    intro Z7;obtain⟨hF,h2⟩:=mf Z7;have El:(∀y∈A1,g'.Sh y)∧∀y∈C1,g'.Sh y:=by
     rcases h2 with h2|h2
     simp at h2;rw[h2.1,h2.2.2];simp;rw[h2]at k8;simp only[kY,aH]at k8;exact⟨fun y hy=>k8.2 y (by simp[hy]),fun y hy=>k8.2 y (by simp[hy])⟩
    intro y hy;simp only[ax]at hy;rcases hy with hy|hy|hy
    exact El.1 y hy
    ·rcases hF with rfl|e
     cases hy;exact p3.2 e y hy
    exact El.2 y hy
   obtain⟨φ,hφ,s7,hK⟩:=T.us.mc (h':=(w.setRow b (c.toList.take (el*j8+j)++(a.eval x).cells.toList++c.toList.drop (el*j8+j+sz)).toArray).heap) hm hβ (cY w b c _ e _ k2) (bS _ _ _)
    (fun y hy=>co w b y _ hy) Pc (ow':=fO own ow d.flat (fC es)) (es':=es.set el (D.put j8 (D.at es el) j sz d)) (by simp) y2 yG y1 adz ahC hzC
   unfold Oper.wp;have j9:(execOp a.eval o).run P w=.ok .skip (w.setRow b (c.toList.take (el*j8+j)++(a.eval x).cells.toList++c.toList.drop (el*j8+j+sz)).toArray):=by
    simp[execOp,ho,hv,gk]
   rw[j9,dE,hd];have jD:=h.sat;refine⟨fS.mc id (.ar (fO own ow d.flat (fC es)) nn j8 (es.set el (D.put j8 (D.at es el) j sz d))),T.n,hf,jD.ms,jD.mS,?_,jD.base,jD.os,jD.tape,jD.output,?_,?_,g'.lp id φ,s7,fun t=>gT (fun av v hf hr=>fx.sr hK hf hr) (T.rep t)⟩
   ·show a.tmps.size=_
    rw[jD.tm];exact T.n.symm
   rw[bS];exact jD.size;intro y hy xa;have:y≠b:=by
    rintro rfl;exact xa (T.us.low y (rb y lH) hy)
   rw[co w b y _ this];exact jD.iD y hy xa
  exact hk.elim
 ·next id el j gQ ic j' e1=>exact absurd e1 (gw _ _ _ _ _ _)
 exact hq.elim
def abb(h:At n0 S0 M0 w0 st o a w g){u1 u2 u3:TypeId}{X:Ax.X}{lo hi:Option Operand}{Lo Hi:Option Ax.X}(ho:o.op=.slice t x lo hi none)(ht:P.underlying t=some .string)
  (hx:fY P u1 x=some X) (Pe:∀y,lo=some y→∃Y,Lo=some Y∧fY P u2 y=some Y) (vI:lo=none→Lo=none)
  (hhi:∀y,hi=some y→∃Y,Hi=some Y∧fY P u3 y=some Y) (Pf:hi=none→Hi=none)
  (hq:Bw (st.ev X) st.ev Lo Hi k):o.wp P a w (hO n0 S0 M0 w0 st o.dst k) Q':=by
 have ex:=h.ev_ hx;unfold Bw at hq
 split at hq
 ·next t1 s e1=>
  rw[e1]at ex;have hv:=gU ex;unfold E0 at hq
  split at hq
  ·next t2 k2 l t3 k3 hh e2 e3=>
   obtain⟨⟨q1,q2,q3⟩,hk⟩:=hq;have GI:lo.map a.eval=none∧l=0∨∃kk,lo.map a.eval=some (.int kk l):=by
    cases lo with
    |none=>
     rw[vI rfl]at e2;simp only[dm,cT,AV.im.injEq,D.sc.injEq,eO]at e2;exact .inl ⟨rfl,e2.2.2.symm⟩
    |some y=>
     obtain⟨Y,rfl,hY⟩:=Pe y rfl;have:=h.ev_ hY;simp only[dC,cS]at e2;rw[e2]at this;exact .inr ⟨k2,by simp[gU this]⟩
   have PZ:hi.map a.eval=none∧hh=s.size∨∃kk,hi.map a.eval=some (.int kk hh):=by
    cases hi with
    |none=>
     rw[Pf rfl]at e3;simp only[dm,cT,AV.im.injEq,D.sc.injEq,eO]at e3;exact .inl ⟨rfl,e3.2.2.symm⟩
    |some y=>
     obtain⟨Y,rfl,hY⟩:=hhi y rfl;have:=h.ev_ hY;simp only[dC,cS]at e3;rw[e3]at this;exact .inr ⟨k3,by simp[gU this]⟩
   have ZY:(Instr.sliceBounds false s.size s.size (lo.map a.eval) (hi.map a.eval) none).run P w=.ok (l.toNat,hh.toNat,s.size) w:=by
    have c1:0≤hh∧hh≤(s.size:Int):=⟨by omega,by omega⟩;have c2:0≤l∧l≤((hh.toNat:Nat):Int):=⟨by omega,by omega⟩;rcases GI with⟨b1,rfl⟩|⟨kk,b1⟩<;>rcases PZ with⟨b2,rfl⟩|⟨kk',b2⟩<;>rw[b1,b2]
    simp[Instr.sliceBounds];simp[Instr.sliceBounds,Instr.sliceBound,asIntOf,c1.1,c1.2]
    ·have c3:l≤(s.size:Int):=by omega
     simp[Instr.sliceBounds,Instr.sliceBound,asIntOf,c2.1,c3]
    have hm:max hh 0=hh:=by omega
    simp[Instr.sliceBounds,Instr.sliceBound,asIntOf,c1.1,c1.2,c2.1,hm,q2]
   refine h.pure_ (v:=.string (s.extract l.toNat hh.toNat)) ?_ (g8 rfl) hk;simp only[execOp,ho,Instr.sliceAt,bK,aW ht,Instr.slice,hv,dh,dm,dx,kY,aH];simp[ZY]
  exact hq.elim
 exact hq.elim
def sd(z:List Value):Nat→List (Nat×List Value)→List Value
 |o,[]=>z.drop o
 |o,(p,c)::r=>(z.drop o).take (p-o)++c++sd z (p+c.length) r
def Nq(off:Nat):∀(l:List Value)(k:Nat)(cs:Array Value),off+k+l.length≤cs.size→
  ((l.zipIdx k).foldl (fun cs x=>cs.setIfInBounds (off+x.2) x.1) cs).toList=cs.toList.take (off+k)++l++cs.toList.drop (off+k+l.length)
 | [],k,cs,h=>by simp
 |c::l,k,cs,h=>by
  simp only[lK]at h;rw[eV,List.foldl_cons,Nq off l (k+1) _ (by simp;omega)];simp only[Array.toList_setIfInBounds,lK];have h1:off+k<cs.toList.length:=by simp;omega
  rw[show off+(k+1)=off+k+1 by omega,eD (by simpa using h1)];rw[List.getElem_set_self,List.take_set_of_le (by omega),List.drop_set_of_lt (by omega)];rw[show off+k+1+l.length=off+k+(l.length+1)by omega];simp
def ue{pg:Nat→Option (Nat×Nat)}{z:List Value}{off:Nat→Nat}:∀(ps:List (Nat×Value))(o:Nat)(cs:Array Value)(pre:List Value),
  cs.toList=pre++z.drop o→pre.length=o→o≤z.length→(∀p∈ps,pg p.1=some (off p.1,p.2.cells.size))→
  pW z.length o (ps.map fun p=>(off p.1,p.2.cells.size))=true→
  ∃nb,Instr.fill pg cs ps=some nb∧nb.toList=pre++sd z o (ps.map fun p=>(off p.1,p.2.cells.toList))
 | [],o,cs,pre,h1,h2,h3,_,_=>⟨cs,rfl,by simp[sd,h1]⟩
 |(i,v)::ps,o,cs,pre,h1,h2,h3,hp,hs=>by
  simp only[lC,pW,bA,bn]at hs;obtain⟨⟨s1,s2⟩,s3⟩:=hs;have jm:cs.size=z.length:=by
   have:=congrArg List.length h1;simp at this;omega
  have uq:=Nq (off i) v.cells.toList 0 cs (by simp;omega);have yJ:(v.cells.zipIdx.foldl (fun cs x=>cs.setIfInBounds (off i+x.2) x.1) cs).toList=(pre++(z.drop o).take (off i-o)++v.cells.toList)++z.drop (off i+v.cells.size):=by
   rw[←Array.foldl_toList,Array.toList_zipIdx,uq,h1];simp only[aC,cX];rw[fc,eC,h2,bZ (show pre.length≤off i by omega),bQ (show pre.length≤off i+v.cells.size by omega)];simp[show o+(off i+v.cells.size-o)=off i+v.cells.size by omega]
  obtain⟨nb,f1,f2⟩:=ue ps (off i+v.cells.size) _ _ yJ (by simp;omega) (by omega) (fun p UD=>hp p (by simp[UD])) s3;refine⟨nb,?_,?_⟩;simp only[Instr.fill,hp (i,v) (by simp)];rw[al (by simp;omega)];exact f1;rw[f2];simp[sd]
def wZ(hu:gr h n0 S0 M0 us g){av:AV}{s:Nat}(hr:fx h us g av v)(hs:AV.size (lu us) av=s)(h0:s≠0):v.cells.size=s:=by
 cases av with
 |im t d=>
  simp only[fx]at hr;obtain⟨F,r1,_⟩:=hr;have:=r1.length;simp only[AV.size]at hs;simpa[hs]using this
 |tr i=>
  simp only[AV.size]at hs
  split at hs
  ·next d hd=>
   simp only[fx]at hr;obtain⟨_,rfl⟩:=hr;have ho:=hu.each _ (fB hd);simp only[hP]at ho;have:=ho.2.1.length;simpa[hs]using this
  exact absurd hs.symm h0
 |pw id el j=>
  simp only[fx]at hr;obtain⟨_,_,_,_,_,_,_,_,_,rfl⟩:=hr;simp only[AV.size]at hs;simp[Value.cells,hs]
 |cw id el j sz agg=>
  simp only[fx]at hr;obtain⟨nn,usz,es,b,c,e,r1,r2,r3,r4,r5,r6,r7,r8,r9⟩:=hr;simp only[AV.size]at hs;subst hs;have ho:=hu.each _ r1;simp only[hP]at ho;rcases ho.2.2 with⟨q1,_⟩|⟨b',c',e',G,cs,rest,q1,q2,q3,q4,q5,_⟩
  rw[r4]at q1;cases q1;rw[r4]at q1;obtain rfl:=aQ q1;rw[r5]at q2;injection aQ q2 with q2 _ _;subst q2;have hle:(el+1)*usz≤g.cap id*usz:=ba _ (by omega);rw[a9,eu]at hle;have:=congrArg List.length r8;simp at this;omega
 |sm id off len=>
  simp only[fx]at hr;obtain⟨_,_,_,_,_,_,h1⟩:=hr;simp only[AV.size]at hs;rcases h1 with⟨b,_,rfl⟩|⟨_,_,_,rfl⟩<;>simp[Value.cells,hs]
 |vb id len=>
  simp only[fx]at hr;obtain⟨_,_,_,_,_,_,rfl⟩:=hr;simp only[AV.size]at hs;simp[Value.cells,hs]
 |ps id=>
  simp only[fx]at hr;obtain⟨_,_,_,_,_,_,rfl⟩:=hr;simp only[AV.size]at hs;simp[Value.cells,hs]
 |mv id=>
  simp only[fx]at hr;obtain⟨_,_,_,_,rfl⟩:=hr;simp only[AV.size]at hs;simp[Value.cells,hs]
 |pb id j=>
  simp only[fx]at hr;obtain⟨_,_,_,_,_,rfl⟩:=hr;simp only[AV.size]at hs;simp[Value.cells,hs]
 |sg vs=>exact absurd hs.symm h0
 |jS vs=>exact absurd hs.symm h0
 |any=>exact absurd hs.symm h0
 |cl f vs=>
  simp only[fx]at hr;obtain⟨_,_,rfl⟩:=hr;simp only[AV.size]at hs;simp[Value.cells,hs]
 |pq id el j gQ ic j'=>
  simp only[fx]at hr;obtain⟨_,_,_,_,_,_,_,_,_,_,_,_,_,_,_,_,_,rfl⟩:=hr;simp only[AV.size]at hs;simp[Value.cells,hs]
 |qs id el j gQ off len=>
  simp only[fx]at hr;obtain⟨_,_,_,_,_,_,_,_,_,_,_,_,_,_,_,_,_,_,rfl⟩:=hr;simp only[AV.size]at hs;simp[Value.cells,hs]
 |ss id off len=>
  simp only[fx]at hr;simp only[AV.size]at hs;obtain⟨_,_,_,_,_,_,⟨_,_,_,_,rfl⟩|⟨_,_,rfl⟩⟩:=hr<;>simp[Value.cells,hs]
 |z0 nn sz=>
  simp only[fx]at hr;obtain⟨_,rfl,_⟩:=hr;simp only[AV.size]at hs;simp[Value.cells,hs]
def uF:∀{as bs:List AV} {xs ys:List Value},fA h us g as xs→fA h us g bs ys→fA h us g (as++bs) (xs++ys)
 | [],_,_,_,h1,h2=>by
  simp only[fA]at h1;subst h1;exact h2
 |a::as,bs,xs,ys,h1,h2=>by
  simp only[fA]at h1;obtain⟨v,r,rfl,h3,h4⟩:=h1;simp only[bp,fA];exact⟨v,r++ys,rfl,h3,uF h4 h2⟩
def yf(hr:f8 h d F cs)(h1:d.size=1∧d.fK=false):∃c,cs=[c]∧c.oneCell'=true:=by
 have hl:=hr.length;rw[h1.1]at hl
 match cs,hl with
 | [c],_=>
  refine⟨c,rfl,?_⟩;cases d with
  |ag ds=>simp[D.fK]at h1
  |sc v=>simp only[f8]at hr;obtain⟨_,hr,h2⟩:=hr;injection hr with hr;subst hr;exact h2
  |jk=>simp only[f8]at hr;obtain⟨_,v,hr,h2⟩:=hr;injection hr with hr;subst hr;exact h2
  |ls nn sz ds=>
   simp only[f8]at hr;rcases hr with⟨p,hr,_⟩|⟨b,off,cap,c',e,fr,F',hr,_⟩<;>(injection hr with hr;subst hr;rfl)
  |pt d j=>
   simp only[f8]at hr;obtain⟨b,off,c',e,fr,F',hr,_⟩:=hr;injection hr with hr;subst hr
   rfl
  |lc b o d=>exact hr.one _ (by simp)
  |fn f ds=>
   simp only[f8]at hr;obtain⟨vs,hr,_⟩:=hr;injection hr with hr;subst hr
   rfl
def XQ{us:List (Nat×U)}:∀{zs:List D} {zl:List Value},fR h zs [] zl→(∀d∈zs,d.size=1∧d.fK=false)→
  fA h us g (zs.map pi) zl∧(zl.map (·.cells.toList)).flatten=zl
 | [],zl,hr,_=>by
  simp only[fR]at hr;simp[fA,hr.2]
 |d::zs,zl,hr,h1=>by
  simp only[fR]at hr;obtain⟨F1,F2,c1,c2,e1,rfl,r1,r2⟩:=hr;have e1:=e1.symm;simp only[eF]at e1;obtain⟨rfl,rfl⟩:=e1;obtain⟨c,rfl,hc⟩:=yf r1 (h1 d (by simp));obtain⟨i1,i2⟩:=XQ (us:=us) r2 fun x hx=>h1 x (by simp[hx]);have VN:=fP hc;refine⟨?_,?_⟩
  ·simp only[lC,fA];refine⟨c,c2,rfl,?_,i1⟩;unfold pi
   split<;>
   simp only[fx]<;>
   exact⟨[],by rw[VN];exact r1,jV (h1 d (by simp)).2 hc,by simp⟩
  simp[VN,i2]
def uW:∀{zs:List D} {zl:List Value} (n:Nat),fR h zs [] zl→(∀d∈zs,d.size=1∧d.fK=false)→fR h (zs.drop n) [] (zl.drop n)
 |_,_,0,hr,_=>by simpa using hr
 | [],zl,n+1,hr,_=>by simp only[fR]at hr;simp[fR,hr.2]
 |d::zs,zl,n+1,hr,h1=>by
  simp only[fR]at hr;obtain⟨F1,F2,c1,c2,e1,rfl,r1,r2⟩:=hr;have e1:=e1.symm;simp only[eF]at e1;obtain⟨rfl,rfl⟩:=e1;obtain⟨c,rfl,hc⟩:=yf r1 (h1 d (by simp));simpa using uW n r2 fun x hx=>h1 x (by simp[hx])
def AA:∀{zs:List D} {zl:List Value} (n:Nat),fR h zs [] zl→(∀d∈zs,d.size=1∧d.fK=false)→fR h (zs.take n) [] (zl.take n)
 |_,_,0,hr,_=>by simp[fR]
 | [],zl,n+1,hr,_=>by simp only[fR]at hr;simp[fR,hr.2]
 |d::zs,zl,n+1,hr,h1=>by
  simp only[fR]at hr;obtain⟨F1,F2,c1,c2,e1,rfl,r1,r2⟩:=hr;have e1:=e1.symm;simp only[eF]at e1;obtain⟨rfl,rfl⟩:=e1;obtain⟨c,rfl,hc⟩:=yf r1 (h1 d (by simp));simp only[aG,fR,bp,be];exact⟨[],[],[c],_,rfl,rfl,r1,AA n r2 fun x hx=>h1 x (by simp[hx])⟩
def xI{us:List (Nat×U)}{zs:List D}{zl:List Value}(hz:fR h zs [] zl)(Pl:∀d∈zs,d.size=1∧d.fK=false):
  ∀(ps:List (Nat×Nat×AV))(vs:List Value)(o:Nat),fA h us g (ps.map (·.2.2)) vs→ps.map (·.2.1)=vs.map (·.cells.size)→
   ∃xs,fA h us g (xi zs o ps) xs∧(xs.map (·.cells.toList)).flatten=sd zl o (List.zipWith (fun p v=>(p.1,v.cells.toList)) ps vs)
 | [],vs,o,_,_=>by
  obtain⟨i1,i2⟩:=XQ (us:=us) (g:=g) (uW o hz Pl) fun d hd=>Pl d (cd hd);exact⟨_,i1,by simpa only[sd,List.zipWith_nil_left]using i2⟩
 |(p,s,av)::ps,vs,o,hv,hs=>by
  simp only[lC,fA]at hv;obtain⟨v,r,rfl,h1,h2⟩:=hv;simp only[lC,bO]at hs;obtain⟨rfl,hs⟩:=hs;obtain⟨i1,i2⟩:=XQ (us:=us) (g:=g) (AA (p-o) (uW o hz Pl) fun d hd=>Pl d (cd hd)) fun d hd=>Pl d (cd (bf hd));obtain⟨xs,j1,j2⟩:=xI hz Pl ps r (p+v.cells.size) h2 hs;refine⟨(zl.drop o).take (p-o)++v::xs,?_,?_⟩
  ·simp only[xi];refine uF i1 ?_;simp only[fA];exact⟨v,xs,rfl,h1,j1⟩
  simp only[sd,dW,bH,List.flatten_append,i2,lC,cb,j2,cX,bz]
def HJ{α β:Type}{f:α→Option β}:∀{l:List α} {m:List β},l.mapM f=some m→∀(i:Nat)(a:α),l[i]?=some a→∃b,m[i]?=some b∧f a=some b
 | [],m,_,i,a,h=>by simp at h
 |x::l,m,hm,i,a,h=>by
  simp only[cB,oD,oB,oP,oS]at hm;obtain⟨b,hb,m',su,rfl⟩:=hm;cases i with
  |zero=>simp only[fg,oS]at h;subst h;exact⟨b,by simp,hb⟩
  |succ i=>simpa using HJ su i a (by simpa using h)
variable {fs:Array Field}
def wk(h:At n0 S0 M0 w0 st o a w g){mw:List (Nat×Nat)}(VO:fs.toList.mapM (fun f=>(P.info? f.type).map fun i=>(f.offset,i.size))=some mw):
  ∀(ps:List (Nat×Operand))(L:List (Nat×Nat×X)),
   ps.mapM (fun(i,x)=>do let f←fs[i]?;pure (f.offset,←io P f.type,←fY P f.type x))=some L→
   (L.map fun p=>(p.1,p.2.1,st.ev p.2.2)).all (fun p=>p.2.2.size st.unit==p.2.1&&p.2.1 !=0)=true→
   fA w.heap st.us g (L.map fun p=>st.ev p.2.2) (ps.map fun p=>a.eval p.2)∧
   (∀q∈ps.map (fun p=>(p.1,a.eval p.2)),mw.toArray[q.1]?=some ((mw.toArray.getD q.1 (0,0)).1,q.2.cells.size))∧
   ((ps.map (fun p=>(p.1,a.eval p.2))).map fun q=>((mw.toArray.getD q.1 (0,0)).1,q.2.cells.size))=(L.map fun p=>(p.1,p.2.1))∧
   ((ps.map (fun p=>(p.1,a.eval p.2))).map fun q=>((mw.toArray.getD q.1 (0,0)).1,q.2.cells.toList))=List.zipWith (fun p v=>(p.1,v.cells.toList)) (L.map fun p=>(p.1,p.2.1,st.ev p.2.2)) (ps.map fun p=>a.eval p.2)∧
   (L.map fun p=>(p.1,p.2.1,st.ev p.2.2)).map (·.2.1)=(ps.map fun p=>a.eval p.2).map (·.cells.size)
 | [],L,hL,_=>by
  simp at hL;subst hL;simp[fA]
 |(i,x)::ps,L,hL,hs=>by
  simp only[cB,oD,oB,oP,oS]at hL;obtain⟨p,⟨f,hf,s,jm,X,hX,rfl⟩,L',Z9,rfl⟩:=hL;simp only[lC,cE,bA,bB,dD]at hs;obtain⟨⟨s1,s2⟩,s3⟩:=hs;obtain⟨i1,i2,i3,i4,i5⟩:=wk h VO ps L' (by simpa using Z9) (by simpa using s3);have ev:=h.ev_ hX;have hc:(a.eval x).cells.size=s:=wZ h.us ev s1 s2;have hp:mw[i]?=some (f.offset,s):=by
   obtain⟨y,hy1,hy2⟩:=HJ VO i f (by simpa using hf);rw[hy1,←hy2];simp only[io]at jm;cases od:P.info? f.type with
   |none=>simp[od]at jm
   |some inf=>simp only[od,dC,oS]at jm⊢;rw[jm]
  have hg:(mw.toArray.getD i (0,0))=(f.offset,s):=by simp[hp]
  refine⟨?_,?_,?_,?_,?_⟩;simp only[lC,fA];exact⟨_,_,rfl,ev,i1⟩
  ·intro q hq;rcases aj.1 hq with rfl|hq
   simp only[hg,hc];simpa using hp;exact i2 q hq
  simp only[lC,hg,hc,i3];simp only[lC,dW,hg,i4];simp only[lC,hc,i5]
def ab4(h:At n0 S0 M0 w0 st o a w g){ps:Array (Nat×Operand)}{z:D}{L:List (Nat×Nat×X)}{mw:List (Nat×Nat)}(ho:o.op=.build t ps)(ht:P.underlying t=some (.struct fs))
  (VO:fs.toList.mapM (fun f=>(P.info? f.type).map fun i=>(f.offset,i.size))=some mw) (hz:iI P t=some z)
  (hL:ps.toList.mapM (fun(i,x)=>do let f←fs[i]?;pure (f.offset,←io P f.type,←fY P f.type x))=some L)
  (hq:xG (L.map fun p=>(p.1,p.2.1,st.ev p.2.2)) st.unit z k):o.wp P a w (hO n0 S0 M0 w0 st o.dst k) Q':=by
 unfold xG at hq
 split at hq
 ·next zs=>
  obtain⟨⟨q1,q2,q3⟩,hk⟩:=hq;obtain⟨b1,b2,b3,b4,b5⟩:=wk h VO ps.toList L hL q1;unfold iI at hz
  split at hz
  ·next inf od=>
   split at hz
   ·next zv B7=>
    split at hz
    ·next lY=>
     obtain⟨r1,r2,r3⟩:=mh hz w.heap;simp only[f8]at r1;have hzl:zs.length=zv.cells.toList.length:=by
      have hl:=r1.2.length;have:∀l:List D,(∀d∈l,d.size=1∧d.fK=false)→D.f6 l=l.length:=by
       intro l
       induction l with
       |nil=>intro _;rfl
       |cons d l ih=>intro hd;simp only[D.f6,(hd d (by simp)).1,ih fun x hx=>hd x (by simp[hx]),e6];omega
      rw[hl,this zs r1.1]
     obtain⟨nb,f1,f2⟩:=ue (pg:=(mw.toArray[·]?)) (z:=zv.cells.toList) (off:=fun i=>(mw.toArray.getD i (0,0)).1) (ps.toList.map fun p=>(p.1,a.eval p.2)) 0 zv.cells [] (by simp) rfl (by simp) b2
      (by rw[b3,←hzl];simpa[bY]using q2)
     obtain⟨xs,x1,x2⟩:=xI (us:=st.us) (g:=g) r1.2 r1.1 (L.map fun p=>(p.1,p.2.1,st.ev p.2.2)) (ps.toList.map fun p=>a.eval p.2) 0 (by simpa[bY]using b1) b5;refine h.pure_ (v:=.agg nb) ?_ (xC x1 (by rw[f2,x2,b4];rfl)) hk;have hb:P.built t ((ps.map fun p=>(p.1,a.eval p.2)).toList)=some nb:=by
      simp only[Program.built,od,ht,B7,VO,dZ];exact f1
     simp only[execOp,ho,bK,run_build w t _ nb hb]
     rfl
    cases hz
   cases hz
  cases hz
 exact hq.elim
def rK(hu:gr h n0 S0 M0 us g){av:AV}(hr:fx h us g av v)(ho:iP (lu us) sz av=true)(h0:0<sz):v.cells.size=sz:=by
 by_cases hsg:∃vs,av=.sg vs
 ·obtain⟨vs,rfl⟩:=hsg;simp only[iP,bA,bB]at ho;obtain⟨h1,h2⟩:=ho;simp only[fx]at hr;obtain⟨xs,r1,rfl⟩:=hr;have key:∀{vs:List AV} {xs:List Value},fA h us g vs xs→vs.all (fun a=>AV.size (lu us) a !=0)=true→(xs.map (·.cells.toList)).flatten.length=(vs.map (AV.size (lu us))).sum:=by
   intro vs
   induction vs with
   |nil=>intro xs hr _;simp only[fA]at hr;simp[hr]
   |cons a as ih=>
    intro xs hr ha;simp only[fA]at hr;obtain⟨v,r,rfl,q1,q2⟩:=hr;simp only[cE,bA,dD,ne_eq]at ha;have e1:=wZ hu q1 rfl ha.1;simp only[lC,cb,lP,cX,List.sum_cons,e1,ih q2 ha.2]
  have:=key r1 h1;rw[h2]at this;simpa[Value.cells]using this
 refine wZ hu hr ?_ (by omega);unfold iP at ho
 split at ho<;>simp_all [AV.size]
 split at ho<;>simp_all
def Gi{z:List Value}:∀(vs:List Value)(i0:Nat),(∀v∈vs,v.cells.size=sz)→
  sd z (i0*sz) ((vs.zipIdx i0).map fun x=>(x.2*sz,x.1.cells.toList))=(vs.map (·.cells.toList)).flatten++z.drop ((i0+vs.length)*sz)
 | [],i0,_=>by simp[sd]
 |v::vs,i0,h=>by
  have h1:=h v (by simp);have ih:=Gi (z:=z) vs (i0+1) fun x hx=>h x (by simp[hx]);simp only[eV,lC,sd,dO,aA,be,cX,h1];rw[show i0*sz+sz=(i0+1)*sz by rw[a9,eu],ih];simp[bW,dY 1]
def oY{n:Nat}:∀(vs:List Value)(i0:Nat),(∀v∈vs,v.cells.size=sz)→(i0+vs.length)*sz≤n→
  pW n (i0*sz) ((vs.zipIdx i0).map fun x=>(x.2*sz,x.1.cells.size))=true
 | [],i0,_,_=>rfl
 |v::vs,i0,h,hn=>by
  have h1:=h v (by simp);have yK:(i0+1+vs.length)*sz≤n:=by rw[show i0+1+vs.length=i0+(v::vs).length by simp;omega];exact hn
  have ih:=oY (n:=n) vs (i0+1) (fun x hx=>h x (by simp[hx])) yK;have e:i0*sz+sz=(i0+1)*sz:=by rw[a9,eu]
  have hle:(i0+1)*sz≤(i0+1+vs.length)*sz:=ba _ (by omega);simp only[eV,lC,pW,h1,e,ih,bU,bA,bn];omega
def tN(h:At n0 S0 M0 w0 st o a w g):∀(ps:List (Nat×Operand))(L:List (Nat×X)),ps.mapM (fun(i,x)=>do pure (i,←fY P e x))=some L→
  fA w.heap st.us g (L.map fun p=>st.ev p.2) (ps.map fun p=>a.eval p.2)∧L.map (·.1)=ps.map (·.1)
 | [],L,hL=>by
  simp at hL;subst hL;simp[fA]
 |(i,x)::ps,L,hL=>by
  simp only[cB,oD,oB,oP,oS]at hL;obtain⟨p,⟨X,hX,rfl⟩,L',Z9,rfl⟩:=hL;obtain⟨i1,i2⟩:=tN h ps L' (by simpa using Z9);refine⟨?_,by simp[i2]⟩;simp only[lC,fA];exact⟨_,_,rfl,h.ev_ hX,i1⟩
def uL{α:Type}:∀(l:List (Nat×α))(i0:Nat),l.map (·.1)=(List.range' i0 l.length)→l=((l.map (·.2)).zipIdx i0).map fun x=>(x.2,x.1)
 | [],_,_=>rfl
 |(i,x)::l,i0,h=>by
  simp only[lC,lK,fh,bO]at h;obtain⟨rfl,h⟩:=h;have:=uL l (i+1) h;simp only[lC,eV];rw[←this]
def xL{nus:List (Nat×U)}{g g':Gh}(hu:gr h n0 S0 M0 us g)(hh:∀b,b<h.size→h'[b]?=h[b]?)
  (hβ:∀x∈us,g'.β x.1=g.β x.1∧g'.root x.1=g.root x.1∧g'.cap x.1=g.cap x.1) (hφ:∀x∈us,g'.φ x.1=g.φ x.1)
  (hS:∀b,g.Sh b→g'.Sh b):∀{as:List AV} {vs:List Value},fA h us g as vs→fA h' (nus++us) g' as vs
 | [],_,hr=>by simpa[fA]using hr
 |a::as,vs,hr=>by
  simp only[fA]at hr⊢;obtain⟨v,r,h1,h2,h3⟩:=hr;exact⟨v,r,h1,h2.grow hu hh hβ hφ hS,xL hu hh hβ hφ hS h3⟩
def vR(hu:gr h n0 S0 M0 us g)(h0:0<sz):∀{as:List AV} {vs:List Value},fA h us g as vs→as.all (iP (lu us) sz)=true→as.length=vs.length∧∀v∈vs,v.cells.size=sz
 | [],vs,hr,_=>by simp only[fA]at hr;subst hr;simp
 |a::as,vs,hr,ha=>by
  simp only[fA]at hr;obtain⟨v,r,rfl,h2,h3⟩:=hr;simp only[cE,bA]at ha;obtain⟨i1,i2⟩:=vR hu h0 h3 ha.2;refine⟨by simp[i1],?_⟩;intro x hx;rcases aj.1 hx with rfl|hx
  exact rK hu h2 ha.1 h0;exact i2 x hx
def BN{g:Gh}:∀{items:List AV} {vs:List Value} {ds:List D},fA h us g items vs→sJ sz items=some ds→
  ∃F,fR h ds F (vs.map (·.cells.toList)).flatten∧(∀d∈ds,d.size=sz)∧ds.length=items.length∧∀b∈F,g.Sh b
 | [],vs,ds,hr,hd=>by
  simp only[fA]at hr;simp only[sJ,oS]at hd;subst hr hd;exact⟨[],by simp[fR],by simp,rfl,by simp⟩
 |av::items,vs,ds,hr,hd=>by
  simp only[fA]at hr;obtain⟨v,r,rfl,h1,h2⟩:=hr;unfold sJ at hd
  split at hd
  ·next heq=>cases heq
  ·next d r' heq=>
   injection heq with e1 e2;subst e1 e2
   split at hd
   ·next hs=>
    split at hd
    ·next ds' kf=>
     injection hd with hd;subst hd;obtain⟨F,i1,i2,i3,i4⟩:=BN h2 kf;simp only[fx]at h1;obtain⟨F1,q1,_,q3⟩:=h1;refine⟨F1++F,?_,by simp;exact⟨hs,i2⟩,by simp[i3],fun b hb=>?_⟩;simp only[lC,cb,fR];exact⟨F1,F,_,_,rfl,rfl,q1,i1⟩;rcases ax.1 hb with hb|hb
     exact lr (q3 b hb);exact i4 b hb
    cases hd
   cases hd
  cases hd
def xB{un:Nat→Option U}:∀{items:List AV} {ds:List D},sJ sz items=some ds→items.all (iP un sz)=true
 | [],_,_=>rfl
 |av::items,ds,hd=>by
  unfold sJ at hd
  split at hd
  ·next heq=>cases heq
  ·next d r' heq=>
   injection heq with e1 e2;subst e1 e2
   split at hd
   ·next hs=>
    split at hd
    ·next ds' kf=>
     simp only[cE,bA,iP,bB];exact⟨hs,xB kf⟩
    cases hd
   cases hd
  cases hd
def LG{as:List AV}{ds:List D}(h:bsS sz as=some ds):sJ sz as=some ds:=by
 unfold bsS at h
 split at h;exact h;cases h
def ahf(h:At n0 S0 M0 w0 st o a w g){e:TypeId}{len d sz:Nat}{ps:Array (Nat×Operand)}{z:D}{L:List (Nat×X)}(ho:o.op=.buildSlice t len ps)(ht:P.underlying t=some (.slice e))
  (hs:io P e=some sz) (hz:iI P e=some z) (hL:ps.toList.mapM (fun(i,x)=>do pure (i,←fY P e x))=some L)
  (hq:TQ (L.map fun p=>(p.1,st.ev p.2)) st.unit d sz len k):o.wp P a w (hO n0 S0 M0 w0 st o.dst k) Q':=by
 obtain⟨b1,b2⟩:=tN h ps.toList L hL;unfold io at hs;cases od:P.info? e with
 |none=>simp[od]at hs
 |some inf=>
  simp only[od,dC,oS]at hs;unfold iI at hz;rw[od]at hz
  dsimp only at hz
  split at hz
  ·next zv B7=>
   unfold TQ at hq
   split at hq
   ·next h0=>
    subst h0;obtain⟨⟨q1,q2⟩,hk⟩:=hq;have Cv:ps= #[]:=by
     have:L=[]:=by simpa using q2
     rw[this]at b2;have:ps.toList=[]:=by simpa using b2.symm
     apply aS
     simpa using this
    refine lq h (c:= #[]) (e:=e) (v:=.slice (some ⟨w.heap.size,0,none⟩) 0 0) [w.heap.size] 0 ?_ rfl ?_ ?_ hk
    ·subst Cv;simp[execOp,ho,Instr.buildSlice,aW ht,sizeOf,typeInfo,od,newRow,Instr.fill];congr 2
     try (apply aS;simp)
    ·intro _;simp only[hP,hZ];exact⟨by simp,by simp,.inr ⟨w.heap.size,#[],e,[],[],[],rfl,jB _ _,by simp,by simp,by simp,by simp[fR],by simp,by simp⟩⟩
    intro _;simp only[fx];exact⟨_,_,_,_,bP,by simp,.inl ⟨w.heap.size,by simp[hZ],by simp[hZ]⟩⟩
   next h0=>
   obtain⟨q1,q0,q2,q3⟩:(L.map fun p=>(p.1,st.ev p.2)).map (·.1)=List.range len∧0<sz∧len*sz≤16777216∧((L.map fun p=>(p.1,st.ev p.2)).map (·.2)).all (iP st.unit sz)=true:=by
    split at hq
    ·next ds kf=>exact⟨hq.1.1,hq.1.2.1,hq.1.2.2,xB (LG kf)⟩
    exact⟨hq.1.2.1,hq.1.2.2.1,hq.1.2.2.2.1,hq.1.2.2.2.2⟩
   have q3':((L.map fun p=>(p.1,st.ev p.2)).map (·.2)).all (iP (lu st.us) sz)=true:=q3;obtain⟨v1,v2⟩:=vR h.us q0 (by simpa[bY]using b1) (by simpa[bY]using q3');have hlen:ps.toList.length=len:=by
    have:=congrArg List.length q1;have h2:=congrArg List.length b2;simp at this h2;simp[←h2,this]
   have aaa:ps.toList.map (·.1)=List.range' 0 ps.toList.length:=by
    rw[←b2,hlen,←eW,←q1];simp[bY]
   generalize w8:(ps.toList.map fun p=>a.eval p.2)=vs at v1 v2 b1;have K7:vs.length=len:=by rw[←w8];simpa using hlen
   have Cb:(ps.toList.map fun p=>(p.1,a.eval p.2))=(vs.zipIdx 0).map fun x=>(x.2,x.1):=by
    have:=uL (ps.toList.map fun p=>(p.1,a.eval p.2)) 0 (by simpa[bY]using aaa);rw[←w8];simpa[bY]using this
   subst hs;have Em:((Array.range (len*inf.size)).map (zv.cells[· % zv.cells.size]!)).toList.length=len*inf.size:=by simp
   obtain⟨nb,f1,f2⟩:=ue (pg:=fun i=>some (i*inf.size,inf.size)) (z:=((Array.range (len*inf.size)).map (zv.cells[· % zv.cells.size]!)).toList) (off:=fun i=>i*inf.size)
    ((vs.zipIdx 0).map fun x=>(x.2,x.1)) 0 ((Array.range (len*inf.size)).map (zv.cells[· % zv.cells.size]!)) [] (by simp) rfl (by omega)
    (by
     intro p hp;obtain⟨x,hx,rfl⟩:=aR.1 hp;have:x.1∈vs:=by
      have:=List.mem_zipIdx' hx;rw[this.2];exact aZ _
     simp only[v2 _ this])
    (by
     rw[Em];have:=oY (n:=len*inf.size) vs 0 v2 (by rw[K7];simp);simpa[bY]using this)
   have lY:nb.toList=(vs.map (·.cells.toList)).flatten:=by
    have:=Gi (z:=((Array.range (len*inf.size)).map (zv.cells[· % zv.cells.size]!)).toList) vs 0 v2;rw[d7]at this;rw[f2];simp only[be,df,bY];rw[this,bQ (by rw[Em,K7,aw];exact aU _),aB]
   have B3:¬len*inf.size=0:=by
    intro h';rcases Nat.mul_eq_zero.1 h' with h'|h'<;>omega
   split at hq
   ·next ds kf=>
    obtain⟨_,hk⟩:=hq;obtain⟨F,s1,s2,s3,s4⟩:=BN (by simpa[bY]using b1) (by simpa[bY]using LG kf);have jD:=h.sat;have th:n0≤w.heap.size:=by rw[jD.base];exact jD.size
    have j9:(execOp a.eval o).run P w=.ok (.value (.slice (some ⟨w.heap.size,0,none⟩) len len)) (w.alloc (.cells nb e)):=by
     have gk:=run_buildSlice (P:=P) w t e len (ps.map fun p=>(p.1,a.eval p.2)) nb inf zv ht od B7 (by omega) B3 (by rw[dZ,Cb];exact f1);simp only[execOp,ho,bK,gk]
     rfl
    obtain⟨hU,hV⟩:=h.us.wide (h':=w.heap.push (.cells nb e (0,0))) (by simp) (fun b hb=>jI hb) th [w.heap.size] (by intro b hb;simp only[am]at hb;subst hb;right;simp);unfold Oper.wp;rw[j9];refine⟨_,[],hk,fun _=>?_⟩;rw[jC];have hS:ju n0 S0 M0 w0 st a (w.alloc (.cells nb e)):=by
     refine⟨jD.ms,jD.mS,jD.tm,jD.base,jD.os,jD.tape,jD.output,?_,?_,_,hU,fun t=>hV _ _ (h.rep t)⟩
     ·have:=jD.size
      show _≤(w.heap.push _).size
      simp;omega
     intro b hb hm;have:(w.heap.push (.cells nb e (0,0)))[b]?=w.heap[b]?:=jI (by omega);exact this.trans (jD.iD b hb hm)
    refine gW hS hU (fun t=>hV _ _ (h.rep t)) (fun i hi=>h.dst i hi) ?_;simp only[fx];have oO:ds.length=len:=by
     rw[s3];have:=congrArg List.length q1;simpa using this
    refine⟨w.heap.size::F,?_,by simp[D.fits,Value.oneCell'],?_⟩
    ·have hl:=s1.length;rw[D.fG s2]at hl;have hlm:len≤len*inf.size:=fi _ q0;unfold f8;refine .inr ⟨w.heap.size,0,len,nb,e,(0,0),F,by simp[Value.cells,oO],rfl,by simp,by omega,by simp[gp];omega,jB _ _,?_,s2,?_⟩
     ·have:nb.size=nb.toList.length:=by simp
      rw[this,lY,hl];simp[oO,Nat.mul_comm]
     have e3:(nb.toList.drop 0).take (ds.length*inf.size)=(vs.map (·.cells.toList)).flatten:=by
      rw[az,lY,←hl,List.take_length]
     rw[e3];exact s1.frame fun b hb=>jI (s1.lt b hb)
    intro b hb;rcases aj.1 hb with rfl|hb
    exact .inl (.inr (by simp));exact .inl (.inl (s4 b hb))
   obtain⟨⟨ahD,_⟩,hk⟩:=hq;refine lq h (c:=nb) (e:=e) (v:=.slice (some ⟨w.heap.size,0,none⟩) len len) [w.heap.size] 0 ?_ rfl ?_ ?_ hk (fun _=>ahD)
   ·have gk:=run_buildSlice (P:=P) w t e len (ps.map fun p=>(p.1,a.eval p.2)) nb inf zv ht od B7 (by omega) B3 (by rw[dZ,Cb];exact f1);simp only[execOp,ho,bK,gk]
    rfl
   ·intro kZ;have yF:=ir kZ;have gw:∀x∈st.us,x.1≠d:=fun x hx e=>yF (aR.2 ⟨x,hx,e⟩);simp only[hP,hZ];refine⟨?_,w.heap.size,nb,e,vs,[],rfl,jB _ _,rfl,?_,fun _=>v2,by rw[lY,aB]⟩
    ·have:L.length=len:=by have:=congrArg List.length q1;simpa using this
     have hlm:len≤len*inf.size:=fi _ q0;simp[this,gp];omega
    have:=xL (nus:=[(d,U.bx inf.size ((L.map fun p=>(p.1,st.ev p.2)).map (·.2)))]) (g':=g.add d (some w.heap.size) [w.heap.size] (.slice (some ⟨w.heap.size,0,none⟩) len len) 0) (h':=w.heap.push (.cells nb e (0,0))) h.us (fun b hb=>jI hb) (fun x hx=>by simp[Gh.add,gw x hx]) (fun x hx=>by simp[Gh.add,gw x hx]) (fun b hb=>hb) b1;simpa[bY]using this
   intro _;simp only[fx];exact⟨_,_,_,bP,by simp[←K7,←v1],by simp[hZ],rfl⟩
  cases hz
def Df:∀{ds es:List D} {f:Bool→Prop},tv ds es f→∃r,f r∧∀f':Bool→Prop,f' r→tv ds es f'
 | [],[],f,h=>⟨true,h,fun _ h=>h⟩
 |d::ds,e::es,f,h=>by
  unfold tv at h
  split at h
  ·next h1 _=>cases h1
  ·next h1 h2=>
   injection h1 with h1 Uz;injection h2 with h2 rX;subst h1 Uz h2 rX;obtain⟨rfl,h⟩:=h;obtain⟨r,h1,h2⟩:=Df h;exact⟨_,h1,fun f' hf=>⟨rfl,h2 _ hf⟩⟩
  exact h.elim
 | [],_::_,_,h=>by simp[tv]at h
 |_::_,[],_,h=>by simp[tv]at h
def CI(hg:mL P t=some false){cs:Array Value}(hv:cs[i]?=some v)(w:World):(part t cs i).run P w=.ok v w:=by
 simp[part,rx hg,hv]
def HP{h:ij}{xs ys:Array Value}(dep:Nat)(w:World):∀(fs:List Field)(i:Nat)(ds es:List D)(F G:List Nat)(f:Bool→Prop),tB P i fs=true→ds.length=fs.length→
  fR h ds F (xs.toList.drop i)→fR h es G (ys.toList.drop i)→tv ds es f→∃r,(Op.eqFields (dep+1) xs ys fs).run P w=.ok r w∧f r
 | [],i,ds,es,F,G,f,_,hl,_,_,hc=>by
  match ds,es,hl,hc with
  | [],[],_,hc=>exact⟨true,rfl,hc⟩
 |fd::fs,i,ds,es,F,G,f,hi,hl,h1,h2,hc=>by
  match ds,es,hl,hc with
  |d::ds,[],_,hc=>simp[tv]at hc
  |d::ds,e::es,hl,hc=>
   unfold tv at hc
   split at hc
   ·next h1 _=>cases h1
   ·next k1 m ds' k2 q es' e1 e2 _=>
    injection e1 with e1 e1';injection e2 with e2 e2';subst e1 e1' e2 e2';obtain⟨rfl,hc⟩:=hc;simp only[tB,bA,dD,bB]at hi;obtain⟨⟨⟨⟨⟨n1,n2⟩,n3⟩,n4⟩,n5⟩,n6⟩:=hi;simp only[fR,f8]at h1 h2;obtain⟨F1,F2,c1,c2,_,x1,⟨_,rfl,_⟩,r1⟩:=h1;obtain⟨G1,G2,b1,b2,_,y1,⟨_,rfl,_⟩,r2⟩:=h2;have hx:xs[i]?=some (.int k1 m):=by
     have:=congrArg (·[0]?) x1;simpa using this
    have hy:ys[i]?=some (.int k1 q):=by
     have:=congrArg (·[0]?) y1;simpa using this
    have d1:xs.toList.drop (i+1)=c2:=by
     rw[←ch,x1];rfl
    have d2:ys.toList.drop (i+1)=b2:=by
     rw[←ch,y1];rfl
    obtain⟨r,hr,hf⟩:=HP dep w fs (i+1) ds es F2 G2 _ n6 (by simpa using hl) (by rw[d1];exact r1) (by rw[d2];exact r2) hc;have gZ:∃kk,P.underlying fd.type=some (.int kk):=by
     cases hu:P.underlying fd.type with
     |none=>simp[hu]at n5
     |some u=>cases u<;>simp[hu]at n5⊢
    obtain⟨kk,hu⟩:=gZ;refine⟨_,?_,hf⟩;unfold Op.eqFields;rw[an n1,bK,n2,CI n4 hx,dh,bK,CI n4 hy,dh,bK,run_equalIn_int w dep fd.type k1 kk m q hu,dh];cases hb:(m==q);simp;simp[hr]
   exact hc.elim
def Vr(h:At n0 S0 M0 w0 st o a w g){op:BinOp}{neg:Bool}{u:TypeId}{fs:Array Field}{y:Operand}{X Y:Ax.X}(ho:o.op=.binOp op t x y u)(hx:fY P t x=some X)(hy:fY P u y=some Y)
  (ht:P.underlying t=some (.struct fs)) (i9:G3 P t fs=true) (hn:op=.eql∧neg=false∨op=.neq∧neg=true)
  (hq:Dw neg (st.ev X) (st.ev Y) fs.size k):o.wp P a w (hO n0 S0 M0 w0 st o.dst k) Q':=by
 have ex:=h.ev_ hx;have ey:=h.ev_ hy;unfold Dw at hq
 split at hq
 ·next t1 ds t2 es e1 e2=>
  rw[e1]at ex;rw[e2]at ey;obtain⟨c1,F,v1,r1,_⟩:=Bh ex rfl;obtain⟨c2,G,v2,r2,_⟩:=Bh ey rfl;simp only[f8]at r1 r2;simp only[G3,bA,ce]at i9;obtain⟨⟨k1,k2⟩,k3⟩:=i9;obtain⟨r,hr,hk⟩:=HP 9998 w fs.toList 0 ds es F G _ k3 (by simpa using hq.1) (by simpa using r1.2) (by simpa using r2.2) hq.2;have VP:P.fieldsOf t=fs:=by simp[Program.fieldsOf,ht]
  have l9:=run_equalIn_struct (P:=P) w 9999 t c1 c2 (by rw[VP];exact ht) k1;rw[VP,hr]at l9;refine h.pure_ (v:=.bool (if neg then !r else r)) ?_ (g8 rfl) hk;rcases hn with⟨rfl,rfl⟩|⟨rfl,rfl⟩
  ·simp only[execOp,ho,v1,v2,bK,run_eqGuard_agg w .eql t x y c1 c2 k2,dh,run_eql_struct,l9]
   rfl
  simp only[execOp,ho,v1,v2,bK,run_eqGuard_agg w .neq t x y c1 c2 k2,dh,run_neq_struct,l9]
  rfl
 exact hq.elim
def wg:∀{vs:List AV} {xs:List Value},fA h us g vs xs→∃ys,fA h us g (jx vs) ys∧(ys.map (·.cells.toList)).flatten=(xs.map (·.cells.toList)).flatten
 | [],xs,hr=>by simp only[fA]at hr;subst hr;exact⟨[],by simp[jx,fA],rfl⟩
 |v::vs,xs,hr=>by
  simp only[fA]at hr;obtain⟨x,r,rfl,h1,h2⟩:=hr;obtain⟨ys,i1,i2⟩:=wg h2;have yL:jx (v::vs)=v::jx vs→∃ys,fA h us g (jx (v::vs)) ys∧(ys.map (·.cells.toList)).flatten=((x::r).map (·.cells.toList)).flatten:=by
   intro e;rw[e];exact⟨x::ys,by simp only[fA];exact⟨x,ys,rfl,h1,i1⟩,by simp[i2]⟩
  cases v with
  |im t d=>
   cases d with
   |ag ds=>
    simp only[fx]at h1;obtain⟨F,r1,r2,r3⟩:=h1;simp only[f8]at r1;obtain⟨q1,q2⟩:=r1;have key:∀{ds:List D} {F:List Nat} {cs:List Value},(∀d∈ds,d.size=1∧d.fK=false)→fR h ds F cs→(∀b∈F,g.ok t b)→fA h us g (ds.map (.im t)) cs∧(cs.map (·.cells.toList)).flatten=cs:=by
     intro ds
     induction ds with
     |nil=>intro F cs _ hr _;simp only[fR]at hr;simp[hr.2,fA]
     |cons d ds ih=>
      intro F cs hs hr hF;simp only[fR]at hr;obtain⟨F1,F2,c1,c2,rfl,rfl,p1,p2⟩:=hr;obtain⟨j1,j2⟩:=ih (fun e he=>hs e (by simp[he])) p2 (fun b hb=>hF b (by simp[hb]));obtain⟨c,rfl,hc⟩:∃c,c1=[c]∧c.oneCell'=true:=by
       have:=p1.length;rw[(hs d (by simp)).1]at this
       match c1,this with
       | [c],_=>exact⟨c,rfl,p1.one c (by simp)⟩
      refine⟨?_,by simp[fP hc,j2]⟩;simp only[lC,bp,be,fA];refine⟨c,c2,rfl,?_,j1⟩;simp only[fx];refine⟨F1,by rw[fP hc];exact p1,?_,fun b hb=>hF b (by simp[hb])⟩;have:=(hs d (by simp)).2;cases d<;>simp_all [D.fits,D.fK]
    obtain⟨j1,j2⟩:=key q1 q2 r3;refine⟨x.cells.toList++ys,?_,?_⟩;simp only[jx];exact uF j1 i1;simp[j2,i2]
   |_=>exact yL rfl
  |_=>exact yL rfl
def xw{x:AV}(hr:fx h us g x v):fx h us g (jY x) v:=by
 cases x with
 |sg vs=>
  simp only[jY,fx]at hr⊢;obtain⟨xs,h1,rfl⟩:=hr;obtain⟨ys,i1,i2⟩:=wg h1;exact⟨ys,i1,by rw[i2]⟩
 |_=>exact hr
def ac1(h:At n0 S0 M0 w0 st o a w g){e:TypeId}{d sz:Nat}{X:Ax.X}(ho:o.op=.box e x)(hx:fY P u1 x=some X)
  (hq:uR (st.ev X) st.unit d sz k):o.wp P a w (hO n0 S0 M0 w0 st o.dst k) Q':=by
 have ex:=h.ev_ hx;unfold uR at hq
 split at hq
 ·next q e1=>
  rw[e1]at ex;simp only[fx]at ex;obtain⟨F,r1,r2,r3⟩:=ex;obtain⟨⟨q1,q2⟩,hk⟩:=hq;have hl:=r1.length;refine lq h (c:=(a.eval x).cells) (e:=e) (v:=.pointer (some ⟨w.heap.size,0,none⟩)) [w.heap.size] 1 ?_ rfl ?_ ?_ hk;simp[execOp,ho,Instr.box,newVar,newRow]
  ·intro _;simp only[hP,hZ];refine⟨by simp[gp],by simp[q2],.inr ⟨w.heap.size,(a.eval x).cells,e,F,(a.eval x).cells.toList,[],rfl,jB _ _,by simp,?_,by simp,?_,by simp,?_⟩⟩
   ·have:(a.eval x).cells.toList.length=(a.eval x).cells.size:=by simp
    omega
   ·rw[ig];exact⟨F,[],_,[],by simp,by simp,r1.frame fun b hb=>jI (r1.lt b hb),lS.2 ⟨rfl,rfl⟩⟩
   simp only[kY,aH,cj];intro y hy;rcases r3 y hy with h1|⟨i,hi,_⟩
   exact h1;cases hi
  intro _;simp only[fx];exact⟨_,_,_,_,w.heap.size,bP,by simp,q1,by simp[hZ],by simp⟩
 next q gw=>
 obtain⟨⟨q0,q1,q2⟩,hk⟩:=hq;have ex:=xw ex;have hs:=rK h.us ex q2 q1;refine lq h (c:=(a.eval x).cells) (e:=e) (v:=.pointer (some ⟨w.heap.size,0,none⟩)) [w.heap.size] 1 ?_ rfl ?_ ?_ hk (fun _=>q0);simp[execOp,ho,Instr.box,newVar,newRow]
 ·intro kZ;have yF:=ir kZ;have gw:∀x∈st.us,x.1≠d:=fun x hx e=>yF (aR.2 ⟨x,hx,e⟩);simp only[hP,hZ];refine⟨by simp[gp],w.heap.size,(a.eval x).cells,e,[a.eval x],[],rfl,jB _ _,rfl,?_,by simpa using fun _=>hs,by simp⟩;simp only[fA];exact⟨_,_,rfl,fx.grow (nus:=[(d,U.bx sz [jY (st.ev X)])]) (g':=g.add d (some w.heap.size) [w.heap.size] (.pointer (some ⟨w.heap.size,0,none⟩)) 1) (h':=w.heap.push (.cells (a.eval x).cells e (0,0))) h.us (fun b hb=>jI hb) (fun x hx=>by simp[Gh.add,gw x hx]) (fun x hx=>by simp[Gh.add,gw x hx]) (fun b hb=>hb) ex,rfl⟩
 intro _;simp only[fx];exact⟨_,_,w.heap.size,bP,by simp[hZ],by simp⟩
mutual
def fx.fr{g g':Gh}(hu:∀x∈us,x∈us')(hb:∀x∈us,∀b,g.β x.1=some b→h'[b]?=h[b]?)
  (hβ:∀x∈us,g'.β x.1=g.β x.1∧g'.root x.1=g.root x.1∧g'.cap x.1=g.cap x.1) (zx:∀t d F cs,f8 h d F cs→(∀b∈F,g.ok t b)→f8 h' d F cs∧∀b∈F,g'.ok t b):
  ∀{a:AV} {v:Value},fx h us g a v→fx h' us' g' a v
 |.im t d,v,hr=>by
  simp only[fx]at hr⊢;obtain⟨F,h1,h2,h3⟩:=hr;obtain⟨q1,q2⟩:=zx t d F _ h1 h3;exact⟨F,q1,h2,q2⟩
 |.tr k,v,hr=>by
  simp only[fx]at hr⊢;obtain⟨⟨d,hd⟩,hv⟩:=hr;exact⟨⟨d,hu _ hd⟩,by rw[(hβ _ hd).2.1];exact hv⟩
 |.pw id el j,v,hr=>by
  simp only[fx]at hr⊢;obtain⟨ow,nn,sz,es,b,h1,h2,h3,h4,h5⟩:=hr;exact⟨ow,nn,sz,es,b,hu _ h1,h2,h3,by rw[(hβ _ h1).1];exact h4,h5⟩
 |.cw id el j sz agg,v,hr=>by
  simp only[fx]at hr⊢;obtain⟨nn,usz,es,b,c,e,h1,h2,h3,h4,h5,h6⟩:=hr;exact⟨nn,usz,es,b,c,e,hu _ h1,h2,h3,by rw[(hβ _ h1).1];exact h4,by rw[hb _ h1 b h4];exact h5,h6⟩
 |.sm id off len,v,hr=>by
  simp only[fx]at hr⊢;obtain⟨ow,nn,sz,es,h1,h2,h3⟩:=hr;refine⟨ow,nn,sz,es,hu _ h1,h2,?_⟩;rw[(hβ _ h1).1,(hβ _ h1).2.2];exact h3
 |.pb id j,v,hr=>by
  simp only[fx]at hr⊢;obtain⟨sz,items,b,h1,h3,h4⟩:=hr;exact⟨sz,items,b,hu _ h1,by rw[(hβ _ h1).1];exact h3,h4⟩
 |.ps id,v,hr=>by
  simp only[fx]at hr⊢;obtain⟨T,E,s,b,h1,h3,h4⟩:=hr;exact⟨T,E,s,b,hu _ h1,by rw[(hβ _ h1).1];exact h3,h4⟩
 |.mv id,v,hr=>by
  simp only[fx]at hr⊢;obtain⟨es,b,h1,h3,h4⟩:=hr;exact⟨es,b,hu _ h1,by rw[(hβ _ h1).1];exact h3,h4⟩
 |.vb id len,v,hr=>by
  simp only[fx]at hr⊢;obtain⟨sz,items,b,h1,h2,h3,h4⟩:=hr;exact⟨sz,items,b,hu _ h1,h2,by rw[(hβ _ h1).1];exact h3,h4⟩
 |.sg vs,v,hr=>by
  simp only[fx]at hr⊢;obtain⟨xs,h1,h2⟩:=hr;exact⟨xs,fA.fr hu hb hβ zx h1,h2⟩
 |.jS vs,v,hr=>by
  simp only[fx]at hr⊢;obtain⟨xs,h1,h2⟩:=hr;exact⟨xs,h1,fA.fr hu hb hβ zx h2⟩
 |.any,_,_=>by simp[fx]
 |.cl f vs,v,hr=>by
  simp only[fx]at hr⊢;obtain⟨xs,h1,h2⟩:=hr;exact⟨xs,fA.fr hu hb hβ zx h1,h2⟩
 |.pq id el j gQ ic j',v,hr=>by
  simp only[fx]at hr⊢;obtain⟨ow,nn,usz,es,b,c,e,b',off',len',cap',h1,h2,h3,h4,h5,h6⟩:=hr;exact⟨ow,nn,usz,es,b,c,e,b',off',len',cap',hu _ h1,h2,h3,by rw[(hβ _ h1).1];exact h4,by rw[hb _ h1 b h4];exact h5,h6⟩
 |.qs id el j gQ off len,v,hr=>by
  simp only[fx]at hr⊢;obtain⟨ow,nn,usz,es,b,c,e,p,len',cap',h1,h2,h3,h4,h5,h6⟩:=hr;exact⟨ow,nn,usz,es,b,c,e,p,len',cap',hu _ h1,h2,h3,by rw[(hβ _ h1).1];exact h4,by rw[hb _ h1 b h4];exact h5,h6⟩
 |.ss id off len,v,hr=>by
  simp only[fx]at hr⊢;obtain⟨ow,nn,sz,es,h1,h2,h3⟩:=hr;refine⟨ow,nn,sz,es,hu _ h1,h2,?_⟩;rw[(hβ _ h1).1,(hβ _ h1).2.2];exact h3
 |.z0 nn _,v,hr=>by simpa[fx]using hr
def fA.fr{g g':Gh}(hu:∀x∈us,x∈us')(hb:∀x∈us,∀b,g.β x.1=some b→h'[b]?=h[b]?)
  (hβ:∀x∈us,g'.β x.1=g.β x.1∧g'.root x.1=g.root x.1∧g'.cap x.1=g.cap x.1) (zx:∀t d F cs,f8 h d F cs→(∀b∈F,g.ok t b)→f8 h' d F cs∧∀b∈F,g'.ok t b):
  ∀{as:List AV} {vs:List Value},fA h us g as vs→fA h' us' g' as vs
 | [],_,hr=>by simpa[fA]using hr
 |a::as,vs,hr=>by
  simp only[fA]at hr⊢;obtain⟨v,r,h1,h2,h3⟩:=hr;exact⟨v,r,h1,fx.fr hu hb hβ zx h2,fA.fr hu hb hβ zx h3⟩
end
def hP.fr{g g':Gh}{id:Nat}(hm:(id,u)∈us)(hu:∀x∈us,x∈us')(hb:∀x∈us,∀b,g.β x.1=some b→h'[b]?=h[b]?)
  (hβ:∀x∈us,g'.β x.1=g.β x.1∧g'.root x.1=g.root x.1∧g'.cap x.1=g.cap x.1) (zx:∀t d F cs,f8 h d F cs→(∀b∈F,g.ok t b)→f8 h' d F cs∧∀b∈F,g'.ok t b)
  (hφ:g'.φ id=g.φ id) (GI:∀b∈g.φ id,h'[b]?=h[b]?) (hS:∀b,g.Sh b→g'.Sh b∧h'[b]?=h[b]?) (ho:hP h us g id u):hP h' us' g' id u:=by
 obtain⟨e1,e2,e3⟩:=hβ _ hm;simp only at e1 e2 e3;cases u with
 |own d=>
  simp only[hP]at ho⊢;obtain⟨h1,h2,h3⟩:=ho;rw[e1,e2,hφ];exact⟨h1,h2.frame GI,h3⟩
 |ar ow nn sz es=>
  simp only[hP]at ho⊢;rw[e1,e3,hφ];obtain⟨h1,h2,h3⟩:=ho;refine⟨h1,h2,?_⟩;rcases h3 with h3|⟨b,c,e,G,cs,rest,k1,k2,k3,k4,k5,k6,k7,k8⟩
  exact .inl h3;refine .inr ⟨b,c,e,G,cs,rest,k1,by rw[hb _ hm b k1];exact k2,k3,k4,k5,?_,k7,?_⟩
  ·refine k6.frame fun x hx=>?_;cases ow;simp only[kY,aH]at k8;exact(hS x (k8.2 x hx)).2;simp only[aK]at k8;exact GI x (by rw[k8];simp[hx])
  cases ow
  ·simp only[kY,aH]at k8⊢;exact⟨k8.1,fun x hx=>(hS x (k8.2 x hx)).1⟩
  simpa using k8
 |bx sz items=>
  simp only[hP]at ho⊢;rw[e1,hφ];obtain⟨h1,b,c,e,vs,rest,k1,k2,k3,k4,k5⟩:=ho;exact⟨h1,b,c,e,vs,rest,k1,by rw[hb _ hm b k1];exact k2,k3,fA.fr hu hb hβ zx k4,k5⟩
 |sb T E s=>
  simp only[hP]at ho⊢;rw[e1,hφ];obtain⟨b,F,k1,k2,k3⟩:=ho;exact⟨b,F,k1,k2,k3.frame fun x hx=>GI x (by rw[k2];exact hx)⟩
 |mp es=>
  simp only[hP]at ho⊢;rw[e1,hφ];obtain⟨b,k1,k2,k3⟩:=ho;exact⟨b,k1,k2,k3.frame (GI b (by rw[k2];simp))⟩
def gr.Pm{h':ij}{g:Gh}(hu:gr h n0 S0 M0 us g){n:Nat}(hn:n∉us.map (·.1)){u:U}{β:Option Nat}{φ:List Nat}{root:Value}{cap:Nat}
  (jm:h.size≤h'.size) (hh:∀b,(b∈fp g us∨g.Sh b)→h'[b]?=h[b]?) (ii:φ.Nodup) (hφ:∀b∈φ,b<h'.size∧(b<n0→M0 b)∧¬g.Sh b∧b∉fp g us∧mO h' b)
  (ho : (∀ av x, fx h us g av x → fx h' ((n, u) :: us) (g.add n β φ root cap) av x) → hP h' ((n, u) :: us) (g.add n β φ root cap) n u) (wy : u.jL = true → qf n0 M0 n β cap := by simp [U.jL]) : gr h' n0 S0 M0 ((n, u) :: us) (g.add n β φ root cap) ∧
   ∀av x,fx h us g av x→fx h' ((n,u)::us) (g.add n β φ root cap) av x:=by
 have gw:∀x∈us,x.1≠n:=fun x hx e=>hn (aR.2 ⟨x,hx,e⟩);have yH:fp (g.add n β φ root cap) us=fp g us:=by
  unfold fp;have rV:=gw;clear hu hn hh hφ ho gw
  induction us with
  |nil=>rfl
  |cons x us ih=>
   simp only[cp];rw[ih (fun y hy=>rV y (by simp[hy]))];simp[Gh.add,rV x (by simp)]
 have Z0:(g.add n β φ root cap).φ n=φ:=by simp[Gh.add]
 have En:fp (g.add n β φ root cap) ((n,u)::us)=φ++fp g us:=by
  show((g.add n β φ root cap).φ n)++fp (g.add n β φ root cap) us=_
  rw[Z0,yH]
 have hβ:∀x∈us,(g.add n β φ root cap).β x.1=g.β x.1∧(g.add n β φ root cap).root x.1=g.root x.1∧(g.add n β φ root cap).cap x.1=g.cap x.1:=by
  intro x hx;simp[Gh.add,gw x hx]
 have hm:∀x∈us,x∈(n,u)::us:=fun y hy=>bt _ hy;have hb:∀x∈us,∀b,g.β x.1=some b→h'[b]?=h[b]?:=fun x hx b AS=>hh b (.inl (fL.2 ⟨x,hx,(hu.each x hx).iZ AS⟩));have i9:∀t b,g.ok t b→(g.add n β φ root cap).ok t b∧(b∈fp g us∨g.Sh b):=by
  intro t b hb;rcases hb with hb|⟨i,hi,h1,h2⟩
  exact⟨.inl hb,.inr hb⟩;obtain⟨u',su⟩:=hu.live h1;have:i≠n:=gw _ su;exact⟨.inr ⟨i,hi,by simpa[Gh.add,this]using h1,by simpa[Gh.add,this]using h2⟩,.inl (fL.2 ⟨_,su,h1⟩)⟩
 have zx:∀t d F cs,f8 h d F cs→(∀b∈F,g.ok t b)→f8 h' d F cs∧∀b∈F,(g.add n β φ root cap).ok t b:=fun t d F cs hr hF=>
  ⟨hr.frame fun b hb=>hh b (i9 t b (hF b hb)).2,fun b hb=>(i9 t b (hF b hb)).1⟩
 have hV:∀av x,fx h us g av x→fx h' ((n,u)::us) (g.add n β φ root cap) av x:=fun av x hr=>hr.fr hm hb hβ zx;refine⟨⟨?_,?_,?_,?_,?_,?_,?_,?_,hu.ww.cons hn (fun i hi=>by simp[Gh.add,hi]) (by simpa[Gh.add]using wy)⟩,hV⟩;simp only[lC,aP];exact⟨hn,hu.keys⟩
 ·rw[En,aT];exact⟨ii,hu.nodup,fun x hx y hy e=>(hφ x hx).2.2.2.1 (e▸hy)⟩
 ·intro b hb;rw[En]at hb;rcases ax.1 hb with hb|hb
  exact(hφ b hb).1;exact fj (hu.lt b hb) jm
 ·intro b hb gI;rw[En]at hb;rcases ax.1 hb with hb|hb
  exact(hφ b hb).2.1 gI;exact hu.low b hb gI
 intro i hi;simp only[lC,aj,cA]at hi;simp only[Gh.add,hi.1,aH];exact hu.dead i hi.2
 ·intro b hb;obtain⟨q1,q2,q3⟩:=hu.sh b hb;refine⟨by omega,q2,?_⟩;rw[En,ax];rintro(h1|h1);exact(hφ b h1).2.2.1 hb;exact q3 h1
 ·intro x hx;rcases aj.1 hx with rfl|hx
  exact ho hV;exact(hu.each x hx).fr hx hm hb hβ zx (by simp[Gh.add,gw x hx]) (fun b hb=>hh b (.inl (fL.2 ⟨x,hx,hb⟩))) (fun b hb=>⟨hb,hh b (.inr hb)⟩)
 intro b hb;rw[En]at hb;rcases ax.1 hb with hb|hb
 exact(hφ b hb).2.2.2.2;exact(hu.fz b hb).eq (hh b (.inl hb))
def Src(h:ij)(sz:Nat)(ao:Option Addr)(n cap:Nat)(olds:List Value):Prop:=
 (n=0∧cap=0∧olds=[])∨∃b off c e,ao=some ⟨b,off,none⟩∧n≤cap∧h[b]?=some (.cells c e (0,0))∧off+cap*sz≤c.size∧olds=(c.toList.drop off).take (n*sz)
def Zu(w:World)(sz:Nat)(v:Value)(m:Nat)(news:List Value):Prop:=
 ∃xp xc,v=.slice xp m xc∧news.length=m*sz∧(0<m→∃a,xp=some a∧∀j u,news[j]?=some u→w.cell? (a.add j)=some u)
def Bn{ty:TypeId}{i:TypeInfo}{z:Value}(ht:P.underlying t=some (.slice e))(hi:P.info? e=some i)(hz:i.zero=some z)(B8:z.cells.size=i.size)
    {ao:Option Addr} {n cap:Nat} {olds:List Value} (hs:Src w.heap i.size ao n cap olds) {v:Value} {m:Nat} {news:List Value} (hx:Zu w i.size v m news) (h1:∀u∈news,u.oneCell'=true)
    (h63:n+m≤gp) (lF:(n+m)*i.bytes≤140737488355328):
    ∃v' w',(Builtin.append_ #[t,t] ty #[.slice ao n cap,v]).run P w=.ok v' w'∧w'.os=w.os∧w'.tape=w.tape∧w'.output=w.output∧
      ((m = 0 ∧ v' = .slice ao n cap ∧ w' = w) ∨
       (∃b off c e0,0<m∧ao=some ⟨b,off,none⟩∧n+m≤cap∧v'=.slice ao (n+m) cap∧w.heap[b]?=some (.cells c e0 (0,0))∧off+cap*i.size≤c.size∧olds=(c.toList.drop off).take (n*i.size)∧
          w'=w.setRow b (c.toList.take (off+n*i.size)++news++c.toList.drop (off+n*i.size+news.length)).toArray)∨
       (∃cap' c' rest,0<m∧v'=.slice (some ⟨w.heap.size,0,none⟩) (n+m) cap'∧n+m≤cap'∧c'.size=cap'*i.size∧c'.toList=(olds++news)++rest∧w'.heap=w.heap.push (.cells c' e (0,0)))):=by
  obtain⟨xp,xc,rfl,GL,hxc⟩:=hx;have hnc:n≤cap:=by rcases hs with⟨rfl,rfl,_⟩|⟨_,_,_,_,_,h,_⟩<;>omega
  have HU:olds.length=n*i.size:=by
    rcases hs with⟨rfl,_,rfl⟩|⟨b,off,c,e0,rfl,q1,q2,q3,rfl⟩
    · simp
    · have := ba i.size q1
      simp only[bk,cK,cX];omega
  rcases Nat.eq_zero_or_pos m with rfl|hm
  · have hn0 : news = [] := dv (by simpa using GL)
    subst hn0;refine⟨.slice ao n cap,w,?_,rfl,rfl,rfl,.inl ⟨rfl,rfl,rfl⟩⟩;cases xp<;>cases ao<;>simp[Builtin.append_,aW ht,sizeOf,typeInfo,hi,Builtin.lenOf,Builtin.firstCells,loadCells,loadCellsFrom,storeCells,hnc]
  · obtain ⟨ad, rfl, mg⟩ := hxc hm
    have ahE:n+m≤9223372036854775807:=h63;have grown:∀(v':Value)(w':World),v'=.slice (some ⟨w.heap.size,0,none⟩) (n+m) (grownCap w (n+m) cap e)→
        w'=(w.drew.alloc (.cells (olds.toArray++news.toArray++Builtin.zeroCells z.cells (grownCap w (n+m) cap e-(n+m))) e))→
        w'.os=w.os∧w'.tape=w.tape∧w'.output=w.output∧∃cap' c' rest,0<m∧v'=.slice (some ⟨w.heap.size,0,none⟩) (n+m) cap'∧n+m≤cap'∧c'.size=cap'*i.size∧c'.toList=(olds++news)++rest∧w'.heap=w.heap.push (.cells c' e (0,0)):=by
      rintro v' w' rfl rfl;refine⟨rfl,rfl,rfl,_,_,(Builtin.zeroCells z.cells (grownCap w (n+m) cap e-(n+m))).toList,hm,rfl,grownCap_ge w (n+m) cap e,?_,by simp,rfl⟩;have B5:=grownCap_ge w (n+m) cap e;simp only[Array.size_append,dN,size_zeroCells,B8,HU,GL,←a9];congr 1;omega
    rcases hs with⟨rfl,rfl,rfl⟩|⟨b,off,c,e0,rfl,q1,q2,q3,rfl⟩
    · cases ao with
      | none =>
        have hr:=run_append_nil (P:=P) w t ty e i z ht hi hz ad m xc news GL mg hm (by omega) (by have hb:=lF;simp only[aw]at hb;omega);obtain⟨g1,g2,g3,g4⟩:=grown _ _ rfl rfl;refine⟨_,_,?_,g1,g2,g3,.inr (.inr g4)⟩;simpa using hr
      | some b =>
        have hr:=run_append_grow (P:=P) w t ty e i z ht hi hz b 0 0 [] (by simp) (by simp) ad m xc news GL mg (by omega) (by omega) (growslice_fits (by omega) lF);obtain⟨g1,g2,g3,g4⟩:=grown _ _ rfl rfl;exact⟨_,_,hr,g1,g2,g3,.inr (.inr g4)⟩
    · by_cases Pn : n + m ≤ cap
      · have hf := run_firstCells_some (P := P) w i.size m ad m xc news GL mg
        have hle:=ba i.size Pn;rw[a9]at hle;have rO:=ff P b (off+n*i.size) e0 news 0 c w q2 (by omega) h1;simp only[aC]at rO;refine⟨_,_,?_,?_,?_,?_,.inr (.inl ⟨b,off,c,e0,hm,rfl,Pn,rfl,q2,q3,rfl,rfl⟩)⟩
        · simp[Builtin.append_,aW ht,sizeOf,typeInfo,hi,Builtin.lenOf,Pn,hf,dF,rO]
        all_goals rfl
      · have holds:∀j u,((c.toList.drop off).take (n*i.size))[j]?=some u→w.cell? ((⟨b,off,none⟩:Addr).add j)=some u:=by
          intro j u hj;rw[dF,dP w b _ c e0 (0,0) q2];rw[dp]at hj
          split at hj
          · simpa using hj
          · cases hj
        have hr:=run_append_grow (P:=P) w t ty e i z ht hi hz ⟨b,off,none⟩ n cap _ HU holds ad m xc news GL mg (by omega) (by omega) (growslice_fits (by omega) lF);obtain⟨g1,g2,g3,g4⟩:=grown _ _ rfl rfl;exact⟨_,_,hr,g1,g2,g3,.inr (.inr g4)⟩
end Go.Ax
