/- THE ENGINE, PART 6: a generator of conditions over the register code, and its soundness. No condition. -/
import Derived.Test.YtalgnbkjhgncaaaEnE
import Derived.Laws.BytesString
set_option linter.all false
namespace Go.Ax
variable {P:Program}{n0:Nat}{S0 M0:Nat→Prop}{w0:World}
variable {st:St}{o:Oper}{a:Act}{w:World}{k:KQ}{Q':Exit→Act→World→Prop}{g:Gh}
def nG:∀{ids:List Nat} {n k q:Nat},lb ids n k=some q→n≤q∧ids[q-n]?=some k
 | [],_,_,_,h=>by cases h
 |i::r,n,k,q,h=>by
  simp only[lb]at h
  split at h
  ·next e=>injection h with h;subst h e;simp
  obtain⟨h1,h2⟩:=nG h;refine⟨by omega,?_⟩;rw[show q-n=(q-(n+1))+1 by omega];simpa using h2
def kb:∀{ids:List Nat} {n k:Nat},lb ids n k=none↔k∉ids
 | [],_,_=>by simp[lb]
 |i::r,n,k=>by
  simp only[lb]
  split
  ·next e=>subst e;simp
  next e=>rw[kb];simp[di e]
def qO:∀{ids:List Nat} {n q k:Nat},ids.Nodup→ids[q]?=some k→lb ids n k=some (n+q)
 | [],_,_,_,_,h=>by simp at h
 |i::r,n,q,k,hn,h=>by
  rw[aP]at hn;cases q with
  |zero=>simp at h;subst h;simp[lb]
  |succ q=>
   simp at h;have:i≠k:=by rintro rfl;exact hn.1 (d8 h)
   simp only[lb,al this];rw[qO hn.2 h];congr 1;omega
def wo:∀{l:List Nat},Bz l=true→l.Nodup
 | [],_=>bC
 |x::l,h=>by
  simp only[Bz,bA,ce,bM,cI]at h;exact aP.2 ⟨h.1,wo h.2⟩
def jJ:∀{us:List U} {n:Nat} {x:Nat×U},x∈jh n us↔∃i u,us[i]?=some u∧x=(3000000000+(n+i),u)
 | [],n,x=>by simp[jh]
 |v::r,n,x=>by
  simp only[jh,aj,jJ];constructor
  ·rintro(rfl|⟨i,u,h1,h2⟩);exact⟨0,_,rfl,rfl⟩;exact⟨i+1,u,by simpa using h1,by rw[h2];congr 1;omega⟩
  rintro⟨i,u,h1,h2⟩;cases i with
  |zero=>simp at h1;subst h1;exact .inl h2
  |succ i=>exact .inr ⟨i,u,by simpa using h1,by rw[h2];congr 1;omega⟩
def zD{us:List U}{n k:Nat}:k∈(jh n us).map (·.1)↔∃i,i<us.length∧k=3000000000+(n+i):=by
 simp only[aR];constructor
 ·rintro⟨x,hx,rfl⟩;obtain⟨i,u,h1,rfl⟩:=jJ.1 hx;exact⟨i,(bF.1 h1).1,rfl⟩
 rintro⟨i,h1,rfl⟩;exact⟨_,jJ.2 ⟨i,us[i],by simp[h1],rfl⟩,rfl⟩
def sH:∀{us:List U} {n:Nat},((jh n us).map (·.1)).Nodup
 | [],_=>by simp[jh]
 |v::r,n=>by
  simp only[jh,lC,aP];refine⟨fun h=>?_,sH⟩;obtain⟨i,_,h2⟩:=zD.1 h;omega
def jZ(ids:List Nat)(un:Nat→Option U)(u x:U):Prop:=
 match u,x with
 |.ar ow nn sz es,.ar ow' jc gv es'=>ow'=ow∧jc=none∧gv=sz∧es'=es∧(nn=some false∨es≠[])
 |.own d,.own d'=>d'=d
 |.bx sz items,.bx gv g9=>gv=sz∧qg ids un items=some g9
 |_,_=>False
variable {ids:List Nat}{un:Nat→Option U}
def Y8{u:Option U}{x:U}(h:wU ids un u=some x):∃v,u=some v∧jZ ids un v x:=by
 unfold wU at h
 split at h
 ·next ow nn sz es=>
  split at h
  ·next hc=>injection h with h;subst h;exact⟨_,rfl,rfl,rfl,rfl,rfl,by simpa using hc⟩
  cases h
 ·injection h with h;subst h;exact⟨_,rfl,rfl⟩
 ·split at h
  ·next as has=>injection h with h;subst h;exact⟨_,rfl,rfl,has⟩
  cases h
 cases h;cases h;cases h
def nS{adU:List Nat}:∀{ids:List Nat} {us:List U},U8 adU un ids=some us→us.length=ids.length∧∀(i id:Nat),ids[i]?=some id→∃x v,us[i]?=some x∧un id=some v∧jZ adU un v x
 | [],us,h=>by simp only[U8,oS]at h;subst h;simp
 |j::ids,us,h=>by
  simp only[U8]at h
  split at h
  ·next u r h1 h2=>
   injection h with h;subst h;obtain⟨e1,e2⟩:=nS h2;refine⟨by simp[e1],fun i id hi=>?_⟩;cases i with
   |zero=>
    simp at hi;subst hi;obtain⟨v,q1,q2⟩:=Y8 h1;exact⟨u,v,rfl,q1,q2⟩
   |succ i=>
    obtain⟨x,v,q1,q2,q3⟩:=e2 i id (by simpa using hi);exact⟨x,v,by simpa using q1,q2,q3⟩
  cases h
variable {m:Nat}
def Ay{b:Bool}:∀{us us':List U},JL m b us us'→us'.length≤us.length∧∀(i:Nat)(u u':U),us[i]?=some u→us'[i]?=some u'→qn m b u u'
 |us,[],h=>by simp
 | [],_::_,h=>h.elim
 |u::r,u'::r',h=>by
  obtain⟨h1,h2⟩:=Ay h.2;refine⟨by simp[h1],fun i v v' e1 e2=>?_⟩;cases i with
  |zero=>simp at e1 e2;subst e1 e2;exact h.1
  |succ i=>exact h2 i v v' (by simpa using e1) (by simpa using e2)
def wa:∀{ids:List Nat} {av:AV},we ids av=false→∀k∈ids,av.soft k=false
 | [],_,_,k,hk=>by cases hk
 |i::r,av,h,k,hk=>by
  simp only[we,cD]at h;rcases aj.1 hk with rfl|hk
  exact h.1;exact wa h.2 k hk
def v5:∀{ids:List Nat} {av:AV},v9 ids av=false→∀k∈ids,av.refs k=false
 | [],_,_,k,hk=>by cases hk
 |i::r,av,h,k,hk=>by
  simp only[v9,cD]at h;rcases aj.1 hk with rfl|hk
  exact h.1;exact v5 h.2 k hk
def lB(u u':U):Prop:=
 match u,u' with
 |.ar _ _ sz es,.ar _ _ gv es'=>gv=sz∧es'.length=es.length
 |.bx sz items,.bx gv g9=>gv=sz∧g9.length=items.length
 |_,_=>False
structure me (k1 k2:List Nat) (f:AV→Bool) (h h':ij) (us us':List (Nat×U)) (g g':Gh):Prop where
 hf:∀av,f av=false→(∀k∈k1,av.soft k=false)∧(∀k∈k2,av.refs k=false)
 mem:∀i u,(i,u)∈us→i∉k1→i∉k2→(i,u.kill f)∈us'
 β:∀i,i∉k2→g'.β i=g.β i∧g'.root i=g.root i∧g'.cap i=g.cap i
 iV:∀i u b,(i,u)∈us→i∉k1→i∉k2→g.β i=some b→h'[b]?=h[b]?
 im:∀t d F cs,(∀k∈k1,t≠some k)→(∀k∈k2,t≠some k)→f8 h d F cs→(∀b∈F,g.ok t b)→f8 h' d F cs∧∀b∈F,g'.ok t b
 ar:∀i∈k1,∃u u',(∀v,(i,v)∈us→v=u)∧(i,u')∈us'∧lB u u'
variable {f:AV→Bool}{g':Gh}{h h':ij}{us us':List (Nat×U)}{k1 k2:List Nat}{i sz:Nat}
def me.arr{g:Gh}(H:me k1 k2 f h h' us us' g g'){ow:Bool}{nn:Option Bool}{es:List D}(hm:(i,U.ar ow nn sz es)∈us)(h2:i∉k2):
  ∃ow' jc es',(i,U.ar ow' jc sz es')∈us'∧es'.length=es.length:=by
 by_cases e:i∈k1
 ·obtain⟨u,u',q1,q2,q3⟩:=H.ar i e;have:=q1 _ hm;subst this;cases u' with
  |ar ow' jc gv es'=>simp only[lB]at q3;obtain⟨rfl,q3⟩:=q3;exact⟨_,_,_,q2,q3⟩
  |_=>simp[lB]at q3
 exact⟨_,_,_,H.mem _ _ hm e h2,rfl⟩
def me.box{g:Gh}(H:me k1 k2 f h h' us us' g g'){items:List AV}(hm:(i,U.bx sz items)∈us)(h2:i∉k2):
  ∃g9,(i,U.bx sz g9)∈us'∧g9.length=items.length:=by
 by_cases e:i∈k1
 ·obtain⟨u,u',q1,q2,q3⟩:=H.ar i e;have:=q1 _ hm;subst this;cases u' with
  |bx gv g9=>simp only[lB]at q3;obtain⟨rfl,q3⟩:=q3;exact⟨_,q2,q3⟩
  |_=>simp[lB]at q3
 exact⟨_,H.mem _ _ hm e h2,kN⟩
def me.mpu{g:Gh}(H:me k1 k2 f h h' us us' g g'){es:List (MK×Value)}(hm:(i,U.mp es)∈us)(h2:i∉k2):
  (i,U.mp es)∈us':=by
 by_cases e:i∈k1
 ·obtain⟨u,u',q1,q2,q3⟩:=H.ar i e;have:=q1 _ hm;subst this;cases u'<;>simp[lB]at q3
 exact H.mem _ _ hm e h2
def me.sbu{g:Gh}(H:me k1 k2 f h h' us us' g g'){T E:Nat}{s:ByteArray}(hm:(i,U.sb T E s)∈us)(h2:i∉k2):
  (i,U.sb T E s)∈us':=by
 by_cases e:i∈k1
 ·obtain⟨u,u',q1,q2,q3⟩:=H.ar i e;have:=q1 _ hm;subst this;cases u'<;>simp[lB]at q3
 exact H.mem _ _ hm e h2
mutual
def fx.oQ{g:Gh}(H:me k1 k2 f h h' us us' g g'):∀{av:AV} {v:Value},(∀k∈k1,av.soft k=false)→(∀k∈k2,av.refs k=false)→fx h us g av v→fx h' us' g' av v
 |.im t d,v,hf,pz,hr=>by
  simp only[AV.soft,cC]at hf;simp only[AV.refs,cC]at pz;simp only[fx]at hr⊢;obtain⟨F,h1,h2,h3⟩:=hr;obtain⟨q1,q2⟩:=H.im t d F _ hf pz h1 h3;exact⟨F,q1,h2,q2⟩
 |.tr i,v,hf,pz,hr=>by
  have h2:i∉k2:=fun e=>by have:=pz i e;simp[AV.refs]at this
  simp only[fx]at hr⊢;obtain⟨⟨d,hd⟩,hv⟩:=hr
  by_cases e:i∈k1;obtain⟨u,u',q1,_,q3⟩:=H.ar i e;rw[←q1 _ hd]at q3;simp[lB]at q3
  exact⟨⟨d,H.mem _ _ hd e h2⟩,by rw[(H.β i h2).2.1];exact hv⟩
 |.pw i el j,v,hf,pz,hr=>by
  have h2:i∉k2:=fun e=>by have:=pz i e;simp[AV.refs]at this
  simp only[fx]at hr⊢;obtain⟨ow,nn,sz,es,b,r1,r2,r3,r4,r5⟩:=hr;obtain⟨ow',jc,es',q1,q2⟩:=H.arr r1 h2;exact⟨ow',jc,sz,es',b,q1,by omega,r3,by rw[(H.β i h2).1];exact r4,r5⟩
 |.cw i el j sz agg,v,hf,pz,hr=>by
  have h1:i∉k1:=fun e=>by have:=hf i e;simp[AV.soft]at this
  have h2:i∉k2:=fun e=>by have:=pz i e;simp[AV.refs]at this
  simp only[fx]at hr⊢;obtain⟨nn,usz,es,b,c,e,r1,r2,r3,r4,r5,r6⟩:=hr;exact⟨nn,usz,es,b,c,e,H.mem _ _ r1 h1 h2,r2,r3,by rw[(H.β i h2).1];exact r4,by rw[H.iV i _ b r1 h1 h2 r4];exact r5,r6⟩
 |.sm i off len,v,hf,pz,hr=>by
  have h2:i∉k2:=fun e=>by have:=pz i e;simp[AV.refs]at this
  simp only[fx]at hr⊢;obtain⟨ow,nn,sz,es,r1,r2,r3⟩:=hr;rw[←(H.β i h2).1,←(H.β i h2).2.2]at r3;obtain⟨ow',jc,es',q1,q2⟩:=H.arr r1 h2;exact⟨ow',jc,sz,es',q1,by omega,r3⟩
 |.vb i len,v,hf,pz,hr=>by
  have h2:i∉k2:=fun e=>by have:=pz i e;simp[AV.refs]at this
  simp only[fx]at hr⊢;obtain⟨sz,items,b,r1,r2,r3,r4⟩:=hr;obtain⟨g9,q1,q2⟩:=H.box r1 h2;exact⟨sz,g9,b,q1,by omega,by rw[(H.β i h2).1];exact r3,r4⟩
 |.sg vs,v,hf,pz,hr=>by
  simp only[AV.soft]at hf;simp only[AV.refs]at pz;simp only[fx]at hr⊢;obtain⟨xs,h1,h2⟩:=hr;exact⟨xs,fA.oQ H hf pz h1,h2⟩
 |.jS vs,v,hf,pz,hr=>by
  simp only[AV.soft]at hf;simp only[AV.refs]at pz;simp only[fx]at hr⊢;obtain⟨xs,h1,h2⟩:=hr;exact⟨xs,h1,fA.oQ H hf pz h2⟩
 |.any,_,_,_,_=>by simp[fx]
 |.cl f vs,v,hf,pz,hr=>by
  simp only[AV.soft]at hf;simp only[AV.refs]at pz;simp only[fx]at hr⊢;obtain⟨xs,h1,h2⟩:=hr;exact⟨xs,fA.oQ H hf pz h1,h2⟩
 |.pq i el j gQ ic j',v,hf,pz,hr=>by
  have h1:i∉k1:=fun e=>by have:=hf i e;simp[AV.soft]at this
  have h2:i∉k2:=fun e=>by have:=pz i e;simp[AV.refs]at this
  simp only[fx]at hr⊢;obtain⟨ow,nn,usz,es,b,c,e,b',off',len',cap',r1,r2,r3,r4,r5,r6⟩:=hr;exact⟨ow,nn,usz,es,b,c,e,b',off',len',cap',H.mem _ _ r1 h1 h2,r2,r3,by rw[(H.β i h2).1];exact r4,by rw[H.iV i _ b r1 h1 h2 r4];exact r5,r6⟩
 |.qs i el j gQ off len,v,hf,pz,hr=>by
  have h1:i∉k1:=fun e=>by have:=hf i e;simp[AV.soft]at this
  have h2:i∉k2:=fun e=>by have:=pz i e;simp[AV.refs]at this
  simp only[fx]at hr⊢;obtain⟨ow,nn,usz,es,b,c,e,p,len',cap',r1,r2,r3,r4,r5,r6⟩:=hr;exact⟨ow,nn,usz,es,b,c,e,p,len',cap',H.mem _ _ r1 h1 h2,r2,r3,by rw[(H.β i h2).1];exact r4,by rw[H.iV i _ b r1 h1 h2 r4];exact r5,r6⟩
 |.ss i off len,v,hf,pz,hr=>by
  have h2:i∉k2:=fun e=>by have:=pz i e;simp[AV.refs]at this
  simp only[fx]at hr⊢;obtain⟨ow,nn,sz,es,r1,r2,r3⟩:=hr;rw[←(H.β i h2).1,←(H.β i h2).2.2]at r3;obtain⟨ow',jc,es',q1,q2⟩:=H.arr r1 h2;exact⟨ow',jc,sz,es',q1,by omega,r3⟩
 |.z0 _ _,v,_,_,hr=>by simpa[fx]using hr
 |.pb i j,v,hf,pz,hr=>by
  have h2:i∉k2:=fun e=>by have:=pz i e;simp[AV.refs]at this
  simp only[fx]at hr⊢;obtain⟨sz,items,b,r1,r2,r3⟩:=hr;obtain⟨g9,q1,q2⟩:=H.box r1 h2;exact⟨sz,g9,b,q1,by rw[(H.β i h2).1];exact r2,r3⟩
 |.ps i,v,hf,pz,hr=>by
  have h2:i∉k2:=fun e=>by have:=pz i e;simp[AV.refs]at this
  simp only[fx]at hr⊢;obtain⟨T,E,s,b,r1,r2,r3⟩:=hr;exact⟨T,E,s,b,H.sbu r1 h2,by rw[(H.β i h2).1];exact r2,r3⟩
 |.mv i,v,hf,pz,hr=>by
  have h2:i∉k2:=fun e=>by have:=pz i e;simp[AV.refs]at this
  simp only[fx]at hr⊢;obtain⟨es,b,r1,r2,r3⟩:=hr;exact⟨es,b,H.mpu r1 h2,by rw[(H.β i h2).1];exact r2,r3⟩
def fA.oQ{g:Gh}(H:me k1 k2 f h h' us us' g g'):∀{as:List AV} {vs:List Value},(∀k∈k1,AV.mP k as=false)→(∀k∈k2,AV.kI k as=false)→fA h us g as vs→fA h' us' g' as vs
 | [],_,_,_,hr=>by simpa[fA]using hr
 |a::as,vs,hf,pz,hr=>by
  simp only[AV.mP,cD]at hf;simp only[AV.kI,cD]at pz;simp only[fA]at hr⊢;obtain⟨v,r,h1,h2,h3⟩:=hr;exact⟨v,r,h1,fx.oQ H (fun k hk=>(hf k hk).1) (fun k hk=>(pz k hk).1) h2,fA.oQ H (fun k hk=>(hf k hk).2) (fun k hk=>(pz k hk).2) h3⟩
end
def me.rep{g:Gh}(H:me k1 k2 f h h' us us' g g')(av:AV)(v:Value)(hf:f av=false)(hr:fx h us g av v):fx h' us' g' av v:=
 fx.oQ H (H.hf av hf).1 (H.hf av hf).2 hr
def mq{g:Gh}:∀{us:List (Nat×U)},(us.map (·.1)).Nodup→(∀x∈us,(g.φ x.1).Nodup)→(∀x∈us,∀y∈us,∀b,b∈g.φ x.1→b∈g.φ y.1→x.1=y.1)→(fp g us).Nodup
 | [],_,_,_=>by simp[fp]
 |x::us,hk,h1,h2=>by
  simp only[lC,aP]at hk;simp only[fp,cp,aT];refine⟨h1 x (by simp),mq hk.2 (fun y hy=>h1 y (by simp[hy])) (fun y hy z hz=>h2 y (by simp[hy]) z (by simp[hz])),?_⟩;rintro b hb c hc rfl;obtain⟨y,hy,lF⟩:=fL.1 hc;exact hk.1 (aR.2 ⟨y,hy,(h2 x (by simp) y (by simp[hy]) b hb lF).symm⟩)
def hP.oQ{g:Gh}(H:me k1 k2 f h h' us us' g g'){u:U}(hm:(i,u)∈us)(EI:i∉k1)(Ei:i∉k2)(hφ:g'.φ i=g.φ i)(hF:∀x∈g.φ i,h'[x]?=h[x]?)
  (hS:∀x,g.Sh x→g'.Sh x∧h'[x]?=h[x]?) (ho:hP h us g i u):hP h' us' g' i (u.kill f):=by
 obtain⟨e1,e2,e3⟩:=H.β i Ei;cases u with
 |own d=>
  simp only[hP,U.kill]at ho⊢;obtain⟨h1,h2,h3⟩:=ho;rw[e1,e2,hφ];exact⟨h1,h2.frame hF,h3⟩
 |ar ow nn sz es=>
  simp only[hP,U.kill]at ho⊢;rw[e1,e3,hφ];obtain⟨h1,h2,h3⟩:=ho;refine⟨h1,h2,?_⟩;rcases h3 with h3|⟨b,c,e,G,cs,rest,k1,k2,k3,k4,k5,k6,k7,k8⟩
  exact .inl h3;refine .inr ⟨b,c,e,G,cs,rest,k1,by rw[H.iV i _ b hm EI Ei k1];exact k2,k3,k4,k5,k6.frame fun x hx=>?_,k7,?_⟩
  ·cases ow with
   |true=>simp only[aK]at k8;exact hF x (by rw[k8];simp[hx])
   |false=>simp only[kY,aH]at k8;exact(hS x (k8.2 x hx)).2
  cases ow with
  |true=>simpa using k8
  |false=>simp only[kY,aH]at k8⊢;exact⟨k8.1,fun x hx=>(hS x (k8.2 x hx)).1⟩
 |bx sz items=>
  simp only[hP,U.kill]at ho⊢;rw[e1,hφ];obtain⟨h1,b,c,e,vs,rest,k1,k2,k3,k4,k5⟩:=ho;exact⟨by rw[kN];exact h1,b,c,e,vs,rest,k1,by rw[H.iV i _ b hm EI Ei k1];exact k2,k3,vt H.rep k4,k5⟩
 |sb T E s=>
  simp only[hP,U.kill]at ho⊢;rw[e1,hφ];obtain⟨b,F,k1,k2,k3⟩:=ho;exact⟨b,F,k1,k2,k3.frame fun x hx=>hF x (by rw[k2];exact hx)⟩
 |mp es=>
  simp only[hP,U.kill]at ho⊢;rw[e1,hφ];obtain⟨b,k1,k2,k3⟩:=ho;exact⟨b,k1,k2,k3.frame (hF b (by rw[k2];simp))⟩
variable {av:AV}{v:Value}
def Fe(hu:gr h n0 S0 M0 us g)(hr:fx h us g av v){t:Option Nat}{d:D}(hd:av.rd (lu us)=some (t,d)):
  ∃F,f8 h d F v.cells.toList∧d.fits v∧∀b∈F,g.Sh b∨∃k,t=some k∧b∈g.φ k:=by
 have den:av.den (lu us)=some (t,d)→∃F,f8 h d F v.cells.toList∧d.fits v∧∀b∈F,g.Sh b∨∃k,t=some k∧b∈g.φ k:=by
  intro hd;have:=nv hu hr hd;simp only[fx]at this;obtain⟨F,r1,r2,r3⟩:=this;exact⟨F,r1,r2,fun b hb=>(r3 b hb).imp id fun⟨k,h1,h2,_⟩=>⟨k,h1,h2⟩⟩
 unfold AV.rd at hd
 split at hd
 ·next id el j=>
  unfold Xc at hd
  split at hd
  ·next ow nn usz es gZ=>
   injection hd with hd;injection hd with e1 e2;subst e1 e2;simp only[fx]at hr;obtain⟨ow',jc,kv,es',b,r1,r2,r3,r4,rfl⟩:=hr;have:=hu.uniq r1 (fB gZ);injection this with e1 e2 e3 e4;subst e1;subst e2;subst e3;subst e4;have ho:=hu.each _ r1;simp only[hP]at ho;obtain⟨_,hs,ho⟩:=ho;rcases ho with⟨h0,_⟩|⟨b',c,e,G,cs,rest,k1,k2,k3,k4,k5,k6,k7,k8⟩
   rw[r4]at h0;cases h0;rw[r4]at k1;obtain rfl:=aQ k1;obtain⟨F1,F2,F3,c1,c2,c3,g1,g2,p1,p2,p3⟩:=k6.pick r2;have jm:(es'[el]).size=kv:=hs _ (aZ r2);have l1:c1.length=el*kv:=by
    rw[p1.length,D.fG (sz:=kv) fun d hd=>hs d (bf hd),bk,bl (db r2)]
   have l2:=p2.length;rw[D.j7 r2];refine⟨b::F2,?_,by simp[D.fits,Value.oneCell'],?_⟩
   ·unfold f8;have hlen:c.toList.length=c.size:=by simp
    refine⟨b,el*kv,c,e,(0,0),F2,by simp[Value.cells],rfl,by omega,k2,?_,?_⟩;rw[k3,g2]at hlen;simp only[lP,l1,l2]at hlen;omega;have:(c.toList.drop (el*kv)).take ((es'[el]).size)=c2:=by
     rw[k3,g2,←l1,←l2];simp
    rw[this];exact p2
   intro x hx;cases ow' with
   |true=>
    simp only[aK]at k8;refine .inr ⟨id,rfl,?_⟩;rw[k8];rcases aj.1 hx with rfl|hx
    simp;rw[g1];simp[hx]
   |false=>
    simp only[kY,aH]at k8;rcases aj.1 hx with rfl|hx
    ·exact .inr ⟨id,rfl,by rw[k8.1];simp⟩
    exact .inl (k8.2 x (by rw[g1];simp[hx]))
  cases hd
 ·next id off len=>
  unfold Yw at hd
  split at hd
  ·next ow nn usz es gZ=>
   injection hd with hd;injection hd with e1 e2;subst e1 e2;simp only[fx]at hr;obtain⟨ow',jc,kv,es',r1,r2,r3⟩:=hr;have:=hu.uniq r1 (fB gZ);injection this with e1 e2 e3 e4;subst e1;subst e2;subst e3;subst e4;have ho:=hu.each _ r1;simp only[hP]at ho;obtain⟨kw,hs,ho⟩:=ho;have hlen:((es'.drop off).take len).length=len:=by simp;omega
   rcases r3 with⟨b,r3,rfl⟩|⟨r3,rfl,rfl,rfl⟩
   ·rcases ho with⟨h0,_⟩|⟨b',c,e,G,cs,rest,k1,k2,k3,k4,k5,k6,k7,k8⟩
    rw[r3]at h0;cases h0;rw[r3]at k1;obtain rfl:=aQ k1;have qp:es'=es'.take off++((es'.drop off).take len++(es'.drop off).drop len):=by rw[bw,bw]
    have k6':fR h (es'.take off++((es'.drop off).take len++(es'.drop off).drop len)) G cs:=by rw[←qp];exact k6
    obtain⟨F1,F23,c1,ZW,g1,g2,s1,KN⟩:=k6'.split;obtain⟨F2,F3,c2,c3,rfl,rfl,s2,s3⟩:=KN.split;have hm:∀d∈(es'.drop off).take len,d.size=kv:=fun d hd=>hs d (cd (bf hd));have l1:c1.length=off*kv:=by
     rw[s1.length,D.fG (sz:=kv) fun d hd=>hs d (bf hd),bk,bl (by omega)]
    have l2:c2.length=len*kv:=by rw[s2.length,D.fG hm,hlen]
    refine⟨b::F2,?_,rfl,?_⟩
    ·unfold f8;refine .inr ⟨b,off*kv,g.cap id-off,c,e,(0,0),F2,by simp[Value.cells,hlen],rfl,?_,by rw[hlen];omega,by rw[hlen];omega,k2,?_,hm,?_⟩
     ·split
      exact k7;simp
     rw[k4,←a9];exact ba _ (by omega);rw[hlen,k3,g2,←l1,←l2];simpa using s2
    intro x hx;cases ow' with
    |true=>
     simp only[aK]at k8;refine .inr ⟨id,rfl,?_⟩;rw[k8];rcases aj.1 hx with rfl|hx
     simp;rw[g1];simp[hx]
    |false=>
     simp only[kY,aH]at k8;rcases aj.1 hx with rfl|hx
     ·exact .inr ⟨id,rfl,by rw[k8.1];simp⟩
     exact .inl (k8.2 x (by rw[g1];simp[hx]))
   rcases ho with⟨_,rfl,h3,h4⟩|⟨b',c,e,G,cs,rest,k1,_⟩
   ·refine⟨[],?_,rfl,by simp⟩;unfold f8;refine .inl ⟨none,by simp[Value.cells],by simp,rfl,fun _=>?_,by simp⟩
    split;exact h4;simp
   rw[r3]at k1;cases k1
  cases hd
 ·next id len=>
  unfold abY at hd
  split at hd
  ·next sz items gZ=>
   split at hd
   ·next ds kf=>
    split at hd
    ·next hlen=>
     obtain⟨hlen,il⟩:=hlen;injection hd with hd;injection hd with e1 e2;subst e1 e2;simp only[fx]at hr;obtain⟨gv,g9,b,r1,r2,r3,rfl⟩:=hr;have:=hu.uniq r1 (fB gZ);injection this with e1 e2;subst e1;subst e2;have ho:=hu.each _ r1;simp only[hP]at ho;obtain⟨kw,b',c,e,vs,rest,k1,k2,k3,k4,k5,k6⟩:=ho;rw[r3]at k1;obtain rfl:=aQ k1;obtain⟨F,p1,p2,p3⟩:=xm k4 kf;have hl:=p1.length;rw[D.fG p2]at hl;have hFn:F=[]:=by
      have:∀{ds:List D},D.nf ds=true→fC ds=true:=by
       intro ds
       induction ds with
       |nil=>intro _;rfl
       |cons d ds ih=>intro h;simp only[D.nf,bA]at h;simp only[fC,h.1,ih h.2,eM]
      exact jE (this (D.qY il)) p1
     subst hFn;have lY:ds.length*gv≤c.size:=by
      have:c.toList.length=c.size:=by simp
      rw[k6,lP]at this;omega
     refine⟨[b],?_,rfl,?_⟩
     ·unfold f8;refine .inr ⟨b,0,len,c,e,(0,0),[],by simp[Value.cells,p3,hlen],rfl,by simp,by omega,by omega,k2,by rw[p3,←hlen]at lY;omega,p2,?_⟩;rw[k6];simp only[az];rw[bV hl];exact p1
     intro x hx;rw[am]at hx;subst hx;exact .inr ⟨id,rfl,by rw[k3];simp⟩
    cases hd
   cases hd
  cases hd
 ·next nn sz=>
  injection hd with hd;injection hd with e1 e2;subst e1 e2;simp only[fx]at hr;obtain⟨p,rfl,h1,h2⟩:=hr;refine⟨[],?_,rfl,by simp⟩;unfold f8;exact .inl ⟨p,by simp[Value.cells],rfl,rfl,h1,h2⟩
 exact den hd
def sI{st:St}{d:Option Nat}{f:St→Prop}(hk:kq f st d av us):(us=[]∨st.fresh us=true)∧f ((st.iQ us).kl d av):=by
 cases us with
 |nil=>exact⟨.inl rfl,hk⟩
 |cons x us=>exact⟨.inr hk.1,hk.2⟩
def wc{g:Gh}:∀{us:List (Nat×U)},(fp g us).Nodup→∀x∈us,(g.φ x.1).Nodup
 | [],_,x,hx=>by cases hx
 |y::us,h,x,hx=>by
  simp only[fp,cp,aT]at h;rcases aj.1 hx with rfl|hx
  exact h.1;exact wc h.2.1 x hx
def pR(ids:List Nat)(k:Nat):Option Nat:=if 3000000000≤k then ids[k-3000000000]? else none
def Gh.callee(g:Gh)(ids:List Nat)(sh:Nat→Prop):Gh:=
  ⟨fun k=>(pR ids k).bind g.β,fun k=>match pR ids k with|some i=>g.φ i|none=>[],fun k=>match pR ids k with|some i=>g.root i|none=>undef,
   fun k=>match pR ids k with|some i=>g.cap i|none=>0,sh⟩
def E5{q:Nat}:pR ids (3000000000+(0+q))=ids[q]?:=by
 unfold pR;rw[an (by omega),show 3000000000+(0+q)-3000000000=q by omega]
variable {sh:Nat→Prop}
def gX{g:Gh}{ids:List Nat}{q id:Nat}(h:ids[q]?=some id):(g.callee ids sh).β (3000000000+(0+q))=g.β id∧(g.callee ids sh).φ (3000000000+(0+q))=g.φ id∧(g.callee ids sh).cap (3000000000+(0+q))=g.cap id∧
  (g.callee ids sh).root (3000000000+(0+q))=g.root id:=by
 have:=(E5 (ids:=ids) (q:=q)).trans h;refine⟨?_,?_,?_,?_⟩<;>simp only[Gh.callee,this,fk]
variable {b:Nat}
def ve{g:Gh}{us:List U}(hl:us.length=ids.length):b∈fp (g.callee ids sh) (jh 0 us)↔∃id∈ids,b∈g.φ id:=by
 rw[fL];constructor
 ·rintro⟨x,hx,hb⟩;obtain⟨i,u,h1,rfl⟩:=jJ.1 hx;have hi:i<ids.length:=by rw[←hl];exact(bF.1 h1).1
  have e:ids[i]?=some ids[i]:=by simp[hi]
  rw[(gX e).2.1]at hb;exact⟨_,aZ hi,hb⟩
 rintro⟨id,ku,hb⟩;obtain⟨i,hi,rfl⟩:=dQ ku;have e:ids[i]?=some ids[i]:=by simp[hi]
 exact⟨_,jJ.2 ⟨i,us[i]'(by omega),by simp[hl,hi],rfl⟩,by rw[(gX e).2.1];exact hb⟩
def T8{t:Option Nat}{d:D}(hr:av.rd (lu us)=some (t,d))(hs:av.pA ids=true)(hp:∀id el j,av≠.pw id el j)(VL:∀id el j,av≠.sm id el j)(hp3:∀id,av≠.tr id):t=none∨d.gJ=true:=by
 cases av with
 |im t' d'=>
  simp only[AV.rd,AV.den]at hr;injection hr with hr;injection hr with e1 e2;subst e1 e2;cases t' with
  |none=>exact .inl rfl
  |some t'=>exact .inr (by simpa[AV.pA]using hs)
 |pw id el j=>exact absurd rfl (hp id el j)
 |sm id el j=>exact absurd rfl (VL id el j)
 |tr id=>exact absurd rfl (hp3 id)
 |cl f vs=>simp[AV.rd,AV.den]at hr
 |sg vs=>simp[AV.rd,AV.den]at hr
 |pb i j=>simp[AV.rd,AV.den]at hr
 |ps i=>simp[AV.rd,AV.den]at hr
 |_=>simp[AV.pA]at hs
def kn(hu:gr h n0 S0 M0 us g){ids:List Nat}{ws:List U}(h1:∀b,g.Sh b→sh b){av:AV}{v:Value}{a':AV}
  (hk:(∀k b,k∉ids→b∈g.φ k→sh b)∨(av.pA ids=true∧(∀id el j,av≠.pw id el j)∧(∀id el j,av≠.sm id el j)∧(∀id,av≠.tr id))) (hr:fx h us g av v) (ha:Ia ids (av.rd (lu us))=some a'):fx h (jh 0 ws) (g.callee ids sh) a' v:=by
 unfold Ia at ha
 split at ha
 ·next t d Cd=>
  split at ha
  ·next htk=>
   injection ha with ha;subst ha;obtain⟨F,r1,r2,r3⟩:=Fe hu hr Cd;simp only[fx];rcases hk with hk|⟨hk,hp,VL,hp3⟩
   ·refine⟨F,r1,r2,fun b hb=>.inl ?_⟩;rcases r3 b hb with h3|⟨k,rfl,h3⟩
    exact h1 b h3;refine hk k b ?_ h3;simp only[abk,d9]at htk;exact kb.1 htk
   rcases T8 Cd hk hp VL hp3 with rfl|GG
   ·refine⟨F,r1,r2,fun b hb=>.inl ?_⟩;rcases r3 b hb with h3|⟨k,h3,_⟩
    exact h1 b h3;cases h3
   have:=iB GG r1;subst this;exact⟨[],r1,r2,by simp⟩
  cases ha
 cases ha
variable {ws:List U}
mutual
def NE(hu:gr h n0 S0 M0 us g)(hw:U8 ids (lu us) ids=some ws){sh:Nat→Prop}(h1:∀b,g.Sh b→sh b):
  ∀{av:AV} {v:Value} {a':AV},((∀k b,k∉ids→b∈g.φ k→sh b)∨av.pA ids=true)→fx h us g av v→av.pX ids (lu us)=some a'→fx h (jh 0 ws) (g.callee ids sh) a' v
 |.pw i0 el j,v,a',hk,hr,ha=>by
  obtain⟨hl,vM⟩:=nS hw;simp only[AV.pX]at ha;unfold pwW at ha
  split at ha
  ·next q hq=>
   injection ha with ha;subst ha;obtain⟨_,ku⟩:=nG hq;simp only[eH]at ku;obtain⟨x,u,q1,q2,q3⟩:=vM _ _ ku;simp only[fx]at hr⊢;obtain⟨ow',jc,gv,es',b,r1,r2,r3,r4,r5⟩:=hr;have:=hu.uniq r1 (fB q2);subst this;cases x with
   |ar ow2 VZ Ep UC=>
    simp only[jZ]at q3;obtain⟨rfl,rfl,rfl,rfl,_⟩:=q3;refine⟨_,none,_,_,b,jJ.2 ⟨q,_,q1,by rw[aw]⟩,r2,r3,?_,r5⟩;have:=(gX (g:=g) (sh:=sh) ku).1;rw[aw]at this;rw[this];exact r4
   |_=>simp[jZ]at q3
  next hq=>
  refine kn hu h1 (hk.imp (fun h=>h) fun hs=>?_) hr ha;simp[AV.pA,hq]at hs
 |.sm i0 off len,v,a',hk,hr,ha=>by
  obtain⟨hl,vM⟩:=nS hw;simp only[AV.pX]at ha;unfold smW at ha
  split at ha
  ·next q hq=>
   injection ha with ha;subst ha;obtain⟨_,ku⟩:=nG hq;simp only[eH]at ku;obtain⟨x,u,q1,q2,q3⟩:=vM _ _ ku;simp only[fx]at hr⊢;obtain⟨ow',jc,gv,es',r1,r2,r3⟩:=hr;have:=hu.uniq r1 (fB q2);subst this;cases x with
   |ar ow2 VZ Ep UC=>
    simp only[jZ]at q3;obtain⟨rfl,rfl,rfl,rfl,_⟩:=q3;refine⟨_,none,_,_,jJ.2 ⟨q,_,q1,by rw[aw]⟩,r2,?_⟩;have:=gX (g:=g) (sh:=sh) ku;rw[aw]at this;rw[this.1,this.2.2.1];exact r3
   |_=>simp[jZ]at q3
  next hq=>
  refine kn hu h1 (hk.imp (fun h=>h) fun hs=>?_) hr ha;simp[AV.pA,hq]at hs
 |.tr i0,v,a',hk,hr,ha=>by
  obtain⟨hl,vM⟩:=nS hw;simp only[AV.pX]at ha;unfold trW at ha
  split at ha
  ·next q hq=>
   injection ha with ha;subst ha;obtain⟨_,ku⟩:=nG hq;simp only[eH]at ku;obtain⟨x,u,q1,q2,q3⟩:=vM _ _ ku;simp only[fx]at hr⊢;obtain⟨⟨d,r1⟩,r2⟩:=hr;have:=hu.uniq r1 (fB q2);subst this;cases x with
   |own d2=>
    simp only[jZ]at q3;subst q3;have:=gX (g:=g) (sh:=sh) ku;rw[aw]at this;exact⟨⟨_,jJ.2 ⟨q,_,q1,by rw[aw]⟩⟩,by rw[this.2.2.2];exact r2⟩
   |_=>simp[jZ]at q3
  next hq=>
  refine kn hu h1 (hk.imp (fun h=>h) fun hs=>?_) hr ha;simp[AV.pA,hq]at hs
 |.pb i0 j,v,a',hk,hr,ha=>by
  obtain⟨hl,vM⟩:=nS hw;simp only[AV.pX]at ha;unfold pbW at ha
  split at ha
  ·next q hq=>
   injection ha with ha;subst ha;obtain⟨_,ku⟩:=nG hq;simp only[eH]at ku;obtain⟨x,u,q1,q2,q3⟩:=vM _ _ ku;simp only[fx]at hr⊢;obtain⟨sz,items,b,r1,r2,r3⟩:=hr;have:=hu.uniq r1 (fB q2);subst this;cases x with
   |bx Ep Ce=>
    simp only[jZ]at q3;obtain⟨rfl,_⟩:=q3;have:=gX (g:=g) (sh:=sh) ku;rw[aw]at this;exact⟨_,_,b,jJ.2 ⟨q,_,q1,by rw[aw]⟩,by rw[this.1];exact r2,r3⟩
   |_=>simp[jZ]at q3
  cases ha
 |.cl f vs,v,a',hk,hr,ha=>by
  simp only[AV.pX]at ha
  split at ha
  ·next as has=>
   injection ha with ha;subst ha;simp only[fx]at hr⊢;obtain⟨xs,r1,r2⟩:=hr;exact⟨xs,pm hu hw h1 (hk.imp (fun h=>h) fun hs=>by simpa[AV.pA]using hs) r1 has,r2⟩
  cases ha
 |.sg vs,v,a',hk,hr,ha=>by
  simp only[AV.pX]at ha
  split at ha
  ·next as has=>
   injection ha with ha;subst ha;simp only[fx]at hr⊢;obtain⟨xs,r1,r2⟩:=hr;exact⟨xs,pm hu hw h1 (hk.imp (fun h=>h) fun hs=>by simpa[AV.pA]using hs) r1 has,r2⟩
  cases ha
 |.im t d,v,a',hk,hr,ha=>by
  simp only[AV.pX]at ha;exact kn hu h1 (hk.imp (fun h=>h) fun hs=>⟨hs,by simp,by simp,by simp⟩) hr ha
 |.cw i0 el j sz agg,v,a',hk,hr,ha=>by
  simp only[AV.pX]at ha;exact kn hu h1 (hk.imp (fun h=>h) fun hs=>⟨hs,by simp,by simp,by simp⟩) hr ha
 |.vb i0 len,v,a',hk,hr,ha=>by
  simp only[AV.pX]at ha;exact kn hu h1 (hk.imp (fun h=>h) fun hs=>⟨hs,by simp,by simp,by simp⟩) hr ha
 |.jS vs,v,a',hk,hr,ha=>by
  simp only[AV.pX]at ha;exact kn hu h1 (hk.imp (fun h=>h) fun hs=>⟨hs,by simp,by simp,by simp⟩) hr ha
 |.mv i0,v,a',hk,hr,ha=>by
  simp only[AV.pX]at ha;exact kn hu h1 (hk.imp (fun h=>h) fun hs=>⟨hs,by simp,by simp,by simp⟩) hr ha
 |.ps i0,v,a',hk,hr,ha=>by
  simp only[AV.pX]at ha;exact kn hu h1 (hk.imp (fun h=>h) fun hs=>⟨hs,by simp,by simp,by simp⟩) hr ha
 |.any,v,a',hk,hr,ha=>by
  simp only[AV.pX]at ha;exact kn hu h1 (hk.imp (fun h=>h) fun hs=>⟨hs,by simp,by simp,by simp⟩) hr ha
 |.pq i0 el j gQ ic j',v,a',hk,hr,ha=>by
  simp only[AV.pX]at ha;exact kn hu h1 (hk.imp (fun h=>h) fun hs=>⟨hs,by simp,by simp,by simp⟩) hr ha
 |.qs i0 el j gQ off len,v,a',hk,hr,ha=>by
  simp only[AV.pX]at ha;exact kn hu h1 (hk.imp (fun h=>h) fun hs=>⟨hs,by simp,by simp,by simp⟩) hr ha
 |.ss i0 off len,v,a',hk,hr,ha=>by
  simp only[AV.pX]at ha;exact kn hu h1 (hk.imp (fun h=>h) fun hs=>⟨hs,by simp,by simp,by simp⟩) hr ha
 |.z0 nn sz,v,a',hk,hr,ha=>by
  simp only[AV.pX]at ha;exact kn hu h1 (hk.imp (fun h=>h) fun hs=>⟨hs,by simp,by simp,by simp⟩) hr ha
def pm(hu:gr h n0 S0 M0 us g)(hw:U8 ids (lu us) ids=some ws){sh:Nat→Prop}(h1:∀b,g.Sh b→sh b):
  ∀{avs:List AV} {vs:List Value} {as:List AV},((∀k b,k∉ids→b∈g.φ k→sh b)∨qm ids avs=true)→fA h us g avs vs→qg ids (lu us) avs=some as→fA h (jh 0 ws) (g.callee ids sh) as vs
 | [],vs,as,hk,hr,ha=>by
  simp only[qg,oS]at ha;subst ha;simpa[fA]using hr
 |av::avs,vs,as,hk,hr,ha=>by
  simp only[fA]at hr;obtain⟨v,r,rfl,r1,r2⟩:=hr;simp only[qg]at ha
  split at ha
  ·next b bs e1 e2=>
   injection ha with ha;subst ha;have qr:(∀k b,k∉ids→b∈g.φ k→sh b)∨(av.pA ids=true∧qm ids avs=true):=hk.imp (fun h=>h) fun hs=>by simpa[qm]using hs
   simp only[fA];exact⟨v,r,rfl,NE hu hw h1 (qr.imp (fun h=>h) And.left) r1 e1,pm hu hw h1 (qr.imp (fun h=>h) And.right) r2 e2⟩
  cases ha
end
def Eb:∀{l:List Nat},zn ids un l=true→∀i∈l,U.pA ids (un i)=true
 | [],_,i,hi=>by cases hi
 |j::l,h,i,hi=>by
  simp only[zn,bA]at h;rcases aj.1 hi with rfl|hi
  exact h.1;exact Eb h.2 i hi
def Fu(hu:gr h n0 S0 M0 us g)(hw:U8 ids (lu us) ids=some ws)(hn:ids.Nodup)(h1:∀b,g.Sh b→sh b)(h2:∀b,sh b→b<h.size∧∀id∈ids,b∉g.φ id)
  (hk:(∀k b,k∉ids→b∈g.φ k→sh b)∨zn ids (lu us) ids=true):Sk h sh ws (g.callee ids sh):=by
 obtain⟨hl,vM⟩:=nS hw;have wQ:∀x∈jh 0 ws,∃i id,ids[i]?=some id∧∃u v,ws[i]?=some u∧x=(3000000000+(0+i),u)∧lu us id=some v∧jZ ids (lu us) v u:=by
  intro x hx;obtain⟨i,u,e1,rfl⟩:=jJ.1 hx;have hi:i<ids.length:=by rw[←hl];exact(bF.1 e1).1
  have e:ids[i]?=some ids[i]:=by simp[hi]
  obtain⟨u',v,q1,q2,q3⟩:=vM i _ e;rw[e1]at q1;cases q1;exact⟨i,_,e,u,v,e1,rfl,q2,q3⟩
 have adV:∀b,b∈fp (g.callee ids sh) (jh 0 ws)→b∈fp g us:=by
  intro b hb;obtain⟨id,ku,hb⟩:=(ve hl).1 hb;obtain⟨i,hi,rfl⟩:=dQ ku;obtain⟨u,v,_,q2,_⟩:=vM i ids[i] (by simp[hi]);exact fL.2 ⟨_,fB q2,hb⟩
 refine⟨mq sH ?_ ?_,fun b hb=>hu.lt b (adV b hb),fun b hb=>hu.fz b (adV b hb),?_,fun b hb=>⟨(h2 b hb).1,hb,fun hf=>?_⟩,?_,?_⟩;intro x hx;obtain⟨i,id,e,u,v,e1,rfl,q2,_⟩:=wQ x hx;rw[(gX e).2.1];exact gO hu (fB q2);intro x hx y hy b mE lF;obtain⟨i,id,e,u,v,e1,rfl,q2,_⟩:=wQ x hx;obtain⟨i',id',e',u',v',e1',rfl,q2',_⟩:=wQ y hy;rw[(gX e).2.1]at mE;rw[(gX e').2.1]at lF;have:=gK hu.keys hu.nodup (fB q2) (fB q2') mE lF;simp only at this;subst this;have p1:=qO (n:=0) hn e;have p2:=qO (n:=0) hn e';rw[p1]at p2;simp only[oS]at p2;simp only;omega
 ·intro k hk;simp only[Gh.callee]
  split
  ·next i hi=>
   exfalso;unfold pR at hi
   split at hi
   ·next hle=>
    have gI:=(bF.1 hi).1;exact hk (zD.2 ⟨k-3000000000,by omega,by omega⟩)
   cases hi
  rfl
 obtain⟨id,ku,rU⟩:=(ve hl).1 hf;exact(h2 b hb).2 id ku rU
 ·intro x hx;obtain⟨i,id,e,u,v,e1,rfl,q2,q3⟩:=wQ x hx;have ho:=hu.each _ (fB q2);cases v with
  |ar ow nn sz es=>
   cases u with
   |ar ow2 VZ Ep UC=>
    simp only[jZ]at q3;obtain⟨rfl,rfl,rfl,rfl,_⟩:=q3;simp only[hP]at ho⊢;rw[(gX e).1,(gX e).2.1,(gX e).2.2.1];obtain⟨o1,o2,o3⟩:=ho;refine⟨o1,o2,?_⟩;rcases o3 with⟨p1,p2,p3,p4⟩|⟨b,c,ty,G,cs,rest,k1,k2,k3,k4,k5,k6,k7,k8⟩
    ·exact .inl ⟨p1,p2,p3,by simp⟩
    refine .inr ⟨b,c,ty,G,cs,rest,k1,k2,k3,k4,k5,k6,by simp,?_⟩
    split
    ·next hw=>rw[an hw]at k8;exact k8
    next hw=>rw[al hw]at k8;exact⟨k8.1,fun x hx=>h1 x (k8.2 x hx)⟩
   |_=>simp[jZ]at q3
  |own d=>
   cases u with
   |own d2=>
    simp only[jZ]at q3;subst q3;simp only[hP]at ho⊢;rw[(gX e).1,(gX e).2.1,(gX e).2.2.2];exact ho
   |_=>simp[jZ]at q3
  |bx sz items=>
   cases u with
   |bx Ep Ce=>
    simp only[jZ]at q3;obtain⟨rfl,q3⟩:=q3;simp only[hP]at ho⊢;rw[(gX e).1,(gX e).2.1];obtain⟨o1,b,c,ty,vs,rest,k1,k2,k3,k4,k5,k6⟩:=ho;have iF:=pm hu hw h1 (hk.imp (fun h=>h) fun hs=>by have:=Eb hs id (d8 e);rw[q2]at this;exact this) k4 q3;refine⟨?_,b,c,ty,vs,rest,k1,k2,k3,iF,k5,k6⟩;rw[←mo iF,mo k4];exact o1
   |_=>simp[jZ]at q3
  |sb T E s=>cases u<;>simp[jZ]at q3
  |mp es=>cases u<;>simp[jZ]at q3
 intro x hx hp;obtain⟨i,id,e,u,v,e1,rfl,q2,q3⟩:=wQ x hx;rw[(gX e).1];intro hb;have ho:=hu.each _ (fB q2);cases v with
 |ar ow nn sz es=>
  cases u with
  |ar ow2 VZ Ep UC=>
   simp only[jZ]at q3;obtain⟨_,_,_,_,q3⟩:=q3;simp only[hP]at ho;rcases ho.2.2 with⟨p1,p2,p3,p4⟩|⟨b,c,ty,G,cs,rest,k1,_⟩
   exact q3.elim p4 (fun h=>h p2);rw[hb]at k1;cases k1
  |_=>simp[jZ]at q3
 |own d=>
  cases u with
  |own d2=>cases hp
  |_=>simp[jZ]at q3
 |bx sz items=>
  simp only[hP]at ho;obtain⟨_,b,c,ty,vs,rest,k1,_⟩:=ho;rw[hb]at k1;cases k1
 |sb T E s=>cases u<;>simp[jZ]at q3
 |mp es=>cases u<;>simp[jZ]at q3
mutual
def Qp{h:ij}{rQ:List U}{g2:Gh}(hA:∀k,3000000000≤k→k<3000000000+m→∀u,(k,u)∈jh 0 rQ→∃u2,(ids.getD (k-3000000000) 0,u2)∈us'∧lB u u2∧g2.β (ids.getD (k-3000000000) 0)=g'.β k):
  ∀{av:AV} {v:Value},av.okW m=true→fx h (jh 0 rQ) g' av v→fx h us' g2 (av.Ct ids) v
 |.im none d,v,ho,hr=>by
  simp only[AV.okW]at ho;simp only[AV.Ct,fx]at hr⊢;obtain⟨F,r1,r2,r3⟩:=hr;have:=iB (D.kH ho) r1;subst this;exact⟨[],r1,r2,by simp⟩
 |.im (some t) d,v,ho,hr=>by simp[AV.okW]at ho
 |.pw k el j,v,ho,hr=>by
  simp only[AV.okW,bA,bn]at ho;simp only[AV.Ct,fx]at hr⊢;obtain⟨ow,nn,sz,es,b,r1,r2,r3,r4,r5⟩:=hr;obtain⟨u2,q1,q2,q3⟩:=hA k ho.1 ho.2 _ r1;cases u2 with
  |ar ow2 VZ Ep UC=>simp only[lB]at q2;obtain⟨rfl,q2⟩:=q2;exact⟨_,_,_,_,b,q1,by omega,r3,by rw[q3];exact r4,r5⟩
  |_=>simp[lB]at q2
 |.pb k j,v,ho,hr=>by
  simp only[AV.okW,bA,bn]at ho;simp only[AV.Ct,fx]at hr⊢;obtain⟨sz,items,b,r1,r2,r3⟩:=hr;obtain⟨u2,q1,q2,q3⟩:=hA k ho.1 ho.2 _ r1;cases u2 with
  |bx Ep Ce=>simp only[lB]at q2;obtain⟨rfl,q2⟩:=q2;exact⟨_,_,b,q1,by rw[q3];exact r2,r3⟩
  |_=>simp[lB]at q2
 |.cl f vs,v,ho,hr=>by
  simp only[AV.okW]at ho;simp only[AV.Ct,fx]at hr⊢;obtain⟨xs,r1,r2⟩:=hr;exact⟨xs,tC hA ho r1,r2⟩
 |.sg vs,v,ho,hr=>by
  simp only[AV.okW]at ho;simp only[AV.Ct,fx]at hr⊢;obtain⟨xs,r1,r2⟩:=hr;exact⟨xs,tC hA ho r1,r2⟩
 |.tr _,v,ho,hr=>by simp[AV.okW]at ho
 |.cw _ _ _ _ _,v,ho,hr=>by simp[AV.okW]at ho
 |.sm _ _ _,v,ho,hr=>by simp[AV.okW]at ho
 |.vb _ _,v,ho,hr=>by simp[AV.okW]at ho
 |.jS _,v,ho,hr=>by simp[AV.okW]at ho
 |.any,v,ho,hr=>by simp[AV.okW]at ho
 |.ps _,v,ho,hr=>by simp[AV.okW]at ho
 |.mv _,v,ho,hr=>by simp[AV.okW]at ho
 |.pq _ _ _ _ _ _,v,ho,hr=>by simp[AV.okW]at ho
 |.qs _ _ _ _ _ _,v,ho,hr=>by simp[AV.okW]at ho
 |.ss _ _ _,v,ho,hr=>by simp[AV.okW]at ho
 |.z0 _ _,v,ho,hr=>by simp[AV.okW]at ho
def tC{h:ij}{rQ:List U}{g2:Gh}(hA:∀k,3000000000≤k→k<3000000000+m→∀u,(k,u)∈jh 0 rQ→∃u2,(ids.getD (k-3000000000) 0,u2)∈us'∧lB u u2∧g2.β (ids.getD (k-3000000000) 0)=g'.β k):
  ∀{avs:List AV} {vs:List Value},tJ m avs=true→fA h (jh 0 rQ) g' avs vs→fA h us' g2 (qj ids avs) vs
 | [],vs,_,hr=>by simpa[fA,qj]using hr
 |a::as,vs,ho,hr=>by
  simp only[tJ,bA]at ho;simp only[fA,qj]at hr⊢;obtain⟨v,r,rfl,h1,h2⟩:=hr;exact⟨v,r,rfl,Qp hA ho.1 h1,tC hA ho.2 h2⟩
end
def tL:∀{avs:List AV},(qj ids avs).length=avs.length
 | []=>by simp[qj]
 |a::as=>by simp[qj,tL (avs:=as)]
def qy{us':List U}:∀{us:List (Nat×U)} {x:Nat×U},x∈mM ids k1 k2 us' us↔x.1∉k2∧∃u,(x.1,u)∈us∧x.2=tj (lb k1 0 x.1) ids k1 k2 us' u
 | [],x=>by simp[mM]
 |(i,u)::r,(j,v)=>by
  simp only[mM]
  split
  ·next hs=>
   rw[qy (us:=r)];simp only[aj,cM];have hk:i∈k2:=by
    rcases Classical.em (i∈k2)with h|h
    exact h;rw[kb.2 h]at hs;cases hs
   constructor
   ·rintro⟨h1,u',h2,h3⟩;exact⟨h1,u',.inr h2,h3⟩
   rintro⟨h1,u',⟨rfl,rfl⟩|h2,h3⟩;exact absurd hk h1;exact⟨h1,u',h2,h3⟩
  next hs=>
  have hk:i∉k2:=by
   intro h;cases hp:lb k2 0 i with
   |none=>exact kb.1 hp h
   |some q=>rw[hp]at hs;simp at hs
  simp only[aj,qy (us:=r),cM];constructor
  ·rintro(⟨rfl,rfl⟩|⟨h0,u',h1,h2⟩);exact⟨hk,u,.inl ⟨rfl,rfl⟩,rfl⟩;exact⟨h0,u',.inr h1,h2⟩
  rintro⟨h0,u',⟨rfl,rfl⟩|h1,h2⟩;exact .inl ⟨rfl,h2⟩;exact .inr ⟨h0,u',h1,h2⟩
def rL{us':List U}:∀{us:List (Nat×U)},((mM ids k1 k2 us' us).map (·.1)).Sublist (us.map (·.1))
 | []=>by simp[mM]
 |(i,u)::r=>by
  simp only[mM]
  split;exact List.Sublist.cons _ rL;simp only[lC];exact List.Sublist.cons_cons _ rL
def zL:∀{l:List AV} {as:List AV},qg ids un l=some as→as.length=l.length
 | [],as,h=>by simp only[qg,oS]at h;subst h;rfl
 |a::l,as,h=>by
  simp only[qg]at h
  split at h
  ·next b bs e1 e2=>injection h with h;subst h;simp[zL e2]
  cases h
def uT{v x u':U}{b:Bool}(h1:jZ ids un v x)(h2:qn m b x u'):lB v (vd ids v u')∧lB u' (vd ids v u')∧((vd ids v u').jL=true→v.jL=true):=by
 cases v with
 |ar ow nn sz es=>
  cases x with
  |ar ow2 VZ Ep UC=>
   cases u' with
   |ar ow3 nn3 sz3 es3=>
    simp only[jZ]at h1;simp only[qn]at h2;obtain⟨rfl,rfl,rfl,rfl,_⟩:=h1;obtain⟨rfl,rfl,h2,_⟩:=h2;exact⟨⟨rfl,h2⟩,⟨rfl,rfl⟩,fun e=>U.lg.2 (U.lg.1 e)⟩
   |_=>simp[qn]at h2
  |_=>simp[jZ]at h1
 |own d=>
  cases x with
  |own d2=>simp[qn]at h2
  |_=>simp[jZ]at h1
 |bx sz items=>
  cases x with
  |bx Ep Ce=>
   cases u' with
   |bx sz3 aak=>
    simp only[jZ]at h1;simp only[qn]at h2;obtain⟨rfl,h1⟩:=h1;obtain⟨rfl,h2,_⟩:=h2;have:=zL h1;exact⟨⟨rfl,by rw[tL,h2,this]⟩,⟨rfl,tL⟩,fun _=>rfl⟩
   |_=>simp[qn]at h2
  |_=>simp[jZ]at h1
 |sb T E s=>cases x<;>simp[jZ]at h1
 |mp es=>cases x<;>simp[jZ]at h1
def Ea(h:At n0 S0 M0 w0 st o a w g){f:Nat}{avs:List AV}{vs:List Value}{kk:St→Prop}(gk:jf P f→(execOp a.eval o).run P w=.ok (.enter f vs.toArray) w)(hr:fA w.heap st.us g avs vs)
  (hq:D9 P o.dst f avs st kk):o.wp P a w (ip n0 S0 M0 w0 st.n kk) Q':=by
 obtain⟨k1,k2,ws,as,rQ,r,ii,hw,has,⟨lh,_,hA⟩,hm,aal,hk⟩:=hq;have hn:=wo ii;generalize Pz:k1++k2=ids at hw has hn aal hk;generalize gF:(qm ids avs&&zn ids st.unit ids)=gP at aal;have PA:k1.Nodup:=by rw[←Pz]at hn;exact(aT.1 hn).1
 have UK:∀k,k∈k1→k∉k2:=by
  rw[←Pz]at hn;intro k h1 h2;exact(aT.1 hn).2.2 k h1 k h2 rfl
 have l9:∀k,k∈ids↔k∈k1∨k∈k2:=fun k=>by rw[←Pz];exact ax
 obtain⟨hl,vM⟩:=nS hw;obtain⟨_,UA⟩:=Ay aal;have hs:=h.sat;have hu:=h.us;have up:n0≤w.heap.size:=by rw[hs.base];exact hs.size
 have PB:∀id∈ids,∃u,(id,u)∈st.us:=by
  intro id ku;obtain⟨i,hi,rfl⟩:=dQ ku;obtain⟨x,v,_,q2,_⟩:=vM i ids[i] (by simp[hi]);exact⟨_,fB q2⟩
 let sh:Nat→Prop:=fun b=>if gP=true then g.Sh b else b<w.heap.size∧∀id∈ids,b∉g.φ id
 have h1:∀b,g.Sh b→sh b:=by
  intro b hb;simp only[sh]
  split;exact hb
  refine⟨(hu.sh b hb).1,fun id ku rU=>?_⟩;obtain⟨u,rN⟩:=PB id ku;exact(hu.sh b hb).2.2 (fL.2 ⟨_,rN,rU⟩)
 have h2:∀b,sh b→b<w.heap.size∧∀id∈ids,b∉g.φ id:=by
  intro b hb;simp only[sh]at hb
  split at hb
  ·refine⟨(hu.sh b hb).1,fun id ku rU=>?_⟩;obtain⟨u,rN⟩:=PB id ku;exact(hu.sh b hb).2.2 (fL.2 ⟨_,rN,rU⟩)
  exact hb
 have Cd:(∀k b,k∉ids→b∈g.φ k→sh b)∨(qm ids avs=true∧zn ids st.unit ids=true):=by
  cases ha:gP with
  |true=>rw[ha]at gF;exact .inr (by simpa using gF)
  |false=>
   refine .inl fun k b hki hb=>?_;simp only[sh,ha,kY,aH];obtain⟨u,rN⟩:=hu.live hb;refine⟨hu.lt b (fL.2 ⟨_,rN,hb⟩),fun id ku rU=>hki ?_⟩;obtain⟨u2,EJ⟩:=PB id ku;have:=gK hu.keys hu.nodup rN EJ hb rU;simp only at this;rw[this];exact ku
 have hW:=Fu hu hw hn h1 h2 (Cd.imp (fun h=>h) And.right);have oc:fA w.heap (jh 0 ws) (g.callee ids sh) as vs:=pm hu hw h1 (Cd.imp (fun h=>h) And.left) hr has;unfold Oper.wp;rw[gk lh,cL];refine(hA w vs sh _ hW oc).mono ?_;rintro e w' ⟨v,F,g',rfl,e1,e2,e3,jm,te,hE,hR⟩;have S:∀b,b∈fp (g.callee ids sh) (jh 0 ws)↔∃id∈ids,b∈g.φ id:=fun b=>ve hl;have Sin:∀b,(∃id∈ids,b∈g.φ id)→b∈fp g st.us:=by
  rintro b ⟨id,ku,hb⟩;obtain⟨u,rN⟩:=PB id ku;exact fL.2 ⟨_,rN,hb⟩
 have PC:∀y u,(y,u)∈st.us→y∉ids→∀b,b∈g.φ y→¬∃id∈ids,b∈g.φ id:=by
  rintro y u hy P3 b hb ⟨id,ku,rU⟩;obtain⟨u2,EJ⟩:=PB id ku;have:=gK hu.keys hu.nodup hy EJ hb rU;simp only at this;rw[this]at P3;exact P3 ku
 have fr:∀b,b<w.heap.size→(¬∃id∈ids,b∈g.φ id)→w'.heap[b]?=w.heap[b]?:=fun b hb hS=>te b hb fun hf=>hS ((S b).1 hf);have frS:∀b,g.Sh b→w'.heap[b]?=w.heap[b]?:=fun b hb=>fr b (hu.sh b hb).1 fun hS=>(hu.sh b hb).2.2 (Sin b hS);have UN:∀y u,(y,u)∈st.us→y∉ids→∀b,b∈g.φ y→w'.heap[b]?=w.heap[b]?:=fun y u hy P3 b hb=>fr b (hu.lt b (fL.2 ⟨_,hy,hb⟩)) (PC y u hy P3 b hb)
 let g2:Gh:=⟨g.β,fun k=>match lb k1 0 k with|some q=>g'.φ (3000000000+(0+q))|none=>(match lb k2 0 k with|some _=>[]|none=>g.φ k),g.root,g.cap,fun b=>g.Sh b∨(gP=true∧b<w'.heap.size∧g'.Sh b)⟩
 have φi:∀{i id:Nat},k1[i]?=some id→g2.φ id=g'.φ (3000000000+(0+i)):=by
  intro i id hi;have:=qO (n:=0) PA hi;simp only[g2,this,aw]
 have φo:∀{k:Nat},k∉ids→g2.φ k=g.φ k:=by
  intro k hk;rw[l9]at hk;simp only[g2,kb.2 (fun h=>hk (.inl h)),kb.2 (fun h=>hk (.inr h))]
 have φd:∀{k:Nat},k∈k2→g2.φ k=[]:=by
  intro k hk;have La:k∉k1:=fun h=>UK k h hk;simp only[g2,kb.2 La]
  split;rfl
  next hp=>exact absurd hk (kb.1 hp)
 have kept:∀(i id:Nat),k1[i]?=some id→ids[i]?=some id∧∃x v u',ws[i]?=some x∧rQ[i]?=some u'∧(id,v)∈st.us∧jZ ids (lu st.us) v x∧qn k1.length gP x u'∧(3000000000+(0+i),u')∈jh 0 rQ:=by
  intro i id hi;have gI:=(bF.1 hi).1;have e:ids[i]?=some id:=by rw[←Pz,da gI];exact hi
  obtain⟨x,v,q1,q2,q3⟩:=vM i id e;have zu:i<rQ.length:=by omega
  have e':rQ[i]?=some rQ[i]:=by simp[zu]
  exact⟨e,x,v,rQ[i],q1,e',fB q2,q3,UA i _ _ q1 e',jJ.2 ⟨i,_,e',rfl⟩⟩
 have φin:∀(i id:Nat),k1[i]?=some id→∀b,b∈g'.φ (3000000000+(0+i))→b∈fp g' (jh 0 rQ):=by
  intro i id hi b hb;obtain⟨_,_,_,_,_,_,_,_,_,hm⟩:=kept i id hi;exact fL.2 ⟨_,hm,hb⟩
 have hnF:=aT.1 hE.nodup;have GP:∀b,b∈fp g' (jh 0 rQ)→b<w'.heap.size∧mO w'.heap b∧(b<w.heap.size→∃id∈ids,b∈g.φ id)∧¬g'.Sh b:=by
  intro b hb;obtain⟨p1,p2,p3,p4⟩:=hE.all b (dG _ hb);exact⟨p1,p2,fun gI=>(S b).1 (p3 gI),p4⟩
 have aam:∀(i id:Nat)(v u':U),k1[i]?=some id→rQ[i]?=some u'→(id,v)∈st.us→(id,vd ids v u')∈mM ids k1 k2 rQ st.us:=by
  intro i id v u' hi e' hv;refine qy.2 ⟨UK id (d8 hi),v,hv,?_⟩;have:=qO (n:=0) PA hi;have hd:rQ.getD i default=u':=by simp[List.getD,e']
  simp only[this,tj,aw,hd]
 have K:me k1 k2 (oA k1 k2) w.heap w'.heap st.us (mM ids k1 k2 rQ st.us) g g2:=by
  refine⟨?_,?_,fun _ _=>⟨rfl,rfl,rfl⟩,?_,?_,?_⟩;intro av hf;simp only[oA,cD]at hf;exact⟨wa hf.1,v5 hf.2⟩
  ·intro i u hi PA hn2;exact qy.2 ⟨hn2,u,hi,by simp only[kb.2 PA];rfl⟩
  ·intro i u b hi ahM ahN hb;exact UN i u hi (fun h=>((l9 i).1 h).elim ahM ahN) b ((hu.each _ hi).iZ hb)
  ·intro t d F' cs ht1 ht2 hrp i9;have hx:∀x∈F',w'.heap[x]?=w.heap[x]?:=by
    intro x hx;rcases i9 x hx with q|⟨i,rfl,q,_⟩
    exact frS x q;obtain⟨u,rN⟩:=hu.live q;exact UN i u rN (fun hi=>((l9 i).1 hi).elim (fun h=>ht1 i h rfl) (fun h=>ht2 i h rfl)) x q
   refine⟨hrp.frame hx,fun x hx=>?_⟩;rcases i9 x hx with q|⟨i,rfl,q,q'⟩
   exact .inl (.inl q);exact .inr ⟨i,rfl,by rw[φo fun hi=>((l9 i).1 hi).elim (fun h=>ht1 i h rfl) (fun h=>ht2 i h rfl)];exact q,q'⟩
  intro id ku;obtain⟨i,hi,rfl⟩:=dQ ku;have e:k1[i]?=some k1[i]:=by simp[hi]
  obtain⟨_,x,v,u',q1,EH,q2,q3,q4,_⟩:=kept i _ e;exact⟨v,vd ids v u',fun y hy=>hu.uniq hy q2,aam i _ v u' e EH q2,(uT q3 q4).1⟩
 have wQ:∀x∈mM ids k1 k2 rQ st.us,(∃(i id:Nat) (y v u':U),x=(id,vd ids v u')∧k1[i]?=some id∧rQ[i]?=some u'∧(id,v)∈st.us∧jZ ids (lu st.us) v y∧qn k1.length gP y u'∧ids[i]?=some id)∨(x.1∉ids∧∃u,(x.1,u)∈st.us∧x.2=u.kill (oA k1 k2)):=by
  intro x hx;obtain⟨p0,u,p1,p2⟩:=qy.1 hx;cases hp:lb k1 0 x.1 with
  |none=>exact .inr ⟨fun h=>((l9 _).1 h).elim (kb.1 hp) p0,u,p1,by rw[p2,hp];rfl⟩
  |some q=>
   obtain⟨_,ku⟩:=nG hp;simp only[eH]at ku;obtain⟨ee,y,v,u',q1,EH,q2,q3,q4,_⟩:=kept q _ ku;have:=hu.uniq p1 q2;subst this;have hd:rQ.getD q default=u':=by simp[List.getD,EH]
   exact .inl ⟨q,x.1,y,u,u',by rw[hp]at p2;simp only[tj,hd]at p2;rw[←p2],ku,EH,q2,q3,q4,ee⟩
 have Lb:∀b,b∈fp g2 (mM ids k1 k2 rQ st.us)→b∈fp g' (jh 0 rQ)∨∃y u,(y,u)∈st.us∧y∉ids∧b∈g.φ y:=by
  intro b hb;obtain⟨x,hx,mE⟩:=fL.1 hb;rcases wQ x hx with⟨i,id,y,v,u',rfl,e,EH,q2,q3,q4,_⟩|⟨Cf,u,KZ,_⟩
  rw[φi e]at mE;exact .inl (φin i id e b mE);rw[φo Cf]at mE;exact .inr ⟨x.1,u,KZ,Cf,mE⟩
 have hAw:∀k,3000000000≤k→k<3000000000+k1.length→∀u,(k,u)∈jh 0 rQ→∃u2,(ids.getD (k-3000000000) 0,u2)∈mM ids k1 k2 rQ st.us∧lB u u2∧g2.β (ids.getD (k-3000000000) 0)=g'.β k:=by
  intro k La tb u hku;have hi:k-3000000000<k1.length:=by omega
  generalize hq:k-3000000000=i at hi;have hk:k=3000000000+(0+i):=by omega
  subst hk;have e:k1[i]?=some k1[i]:=by simp[hi]
  obtain⟨ee,x,v,u',q1,EH,q2,q3,q4,q5⟩:=kept i _ e;have hgd:ids.getD i 0=k1[i]:=by simp[List.getD,ee]
  rw[hgd];have huu:u=u':=by
   obtain⟨j,y,p1,p2⟩:=jJ.1 hku;rw[cM]at p2;obtain⟨p2,p3⟩:=p2;have:j=i:=by omega
   subst this;rw[EH]at p1;cases p1;exact p3
  subst huu;refine⟨vd ids v u,aam i _ v u e EH q2,(uT q3 q4).2.1,?_⟩;have hp:=(hE.ww _ q5).1;simp only at hp;rw[hp,(gX ee).1]
 have hV:∀av x,oA k1 k2 av=false→fx w.heap st.us g av x→fx w'.heap (mM ids k1 k2 rQ st.us) g2 av x:=fun av x hf hr=>K.rep av x hf hr;have hU:gr w'.heap n0 S0 M0 (mM ids k1 k2 rQ st.us) g2:=by
  refine⟨hu.keys.sublist rL,mq (hu.keys.sublist rL) ?_ ?_,?_,?_,?_,?_,?_,?_,?_⟩
  ·intro x hx;rcases wQ x hx with⟨i,id,y,v,u',rfl,e,EH,q2,q3,q4,_⟩|⟨Cf,u,KZ,_⟩
   rw[φi e];obtain⟨_,_,_,_,_,_,_,_,_,hm⟩:=kept i id e;exact wc hnF.2.1 _ hm;rw[φo Cf];exact gO hu KZ
  ·intro x hx y hy b mE lF;rcases wQ x hx with⟨i,id,x0,v,u',rfl,e,EH,q2,q3,q4,_⟩|⟨Cf,u,KZ,_⟩<;>rcases wQ y hy with⟨j,jd,y0,v1,v1',rfl,f,r1',r2,r3,r4,_⟩|⟨hnj,v1,KX,_⟩
   ·rw[φi e]at mE;rw[φi f]at lF;obtain⟨_,_,_,_,_,_,_,_,_,V0⟩:=kept i id e;obtain⟨_,_,_,_,_,_,_,_,_,AT⟩:=kept j jd f;have:=gK sH hnF.2.1 V0 AT mE lF;simp only at this;have:i=j:=by omega
    subst this;rw[e]at f;exact aQ f
   rw[φi e]at mE;rw[φo hnj]at lF;have gI:=hu.lt b (fL.2 ⟨_,KX,lF⟩);exact absurd ((GP b (φin i id e b mE)).2.2.1 gI) (PC _ _ KX hnj b lF);rw[φi f]at lF;rw[φo Cf]at mE;have gI:=hu.lt b (fL.2 ⟨_,KZ,mE⟩);exact absurd ((GP b (φin j jd f b lF)).2.2.1 gI) (PC _ _ KZ Cf b mE);rw[φo Cf]at mE;rw[φo hnj]at lF;exact gK (x:=(x.1,u)) (y:=(y.1,v1)) hu.keys hu.nodup KZ KX mE lF
  ·intro b hb;rcases Lb b hb with h|⟨y,u,hy,_,lF⟩
   exact(GP b h).1;have:=hu.lt b (fL.2 ⟨_,hy,lF⟩);omega
  ·intro b hb gI;rcases Lb b hb with h|⟨y,u,hy,_,lF⟩
   exact hu.low b (Sin b ((GP b h).2.2.1 (by omega))) gI;exact hu.low b (fL.2 ⟨_,hy,lF⟩) gI
  ·intro k hk
   by_cases tb:k∈k2;exact φd tb
   have hki:k∉ids:=fun hi=>by
    rcases(l9 k).1 hi with La|h
    ·obtain⟨i,hi',rfl⟩:=dQ La;have e:k1[i]?=some k1[i]:=by simp[hi']
     obtain⟨_,x,v,u',q1,EH,q2,q3,q4,_⟩:=kept i _ e;exact hk (aR.2 ⟨_,aam i _ v u' e EH q2,rfl⟩)
    exact tb h
   rw[φo hki];refine hu.dead k fun hm=>hk ?_;obtain⟨x,hx,rfl⟩:=aR.1 hm;exact aR.2 ⟨_,K.mem x.1 x.2 hx (fun h=>hki ((l9 _).2 (.inl h))) tb,rfl⟩
  ·intro b hb;rcases hb with hb|⟨Pq,gI,hb⟩
   ·obtain⟨p1,p2,p3⟩:=hu.sh b hb;refine⟨by omega,p2,fun hf=>?_⟩;rcases Lb b hf with h|⟨y,u,hy,_,lF⟩
    exact p3 (Sin b ((GP b h).2.2.1 p1));exact p3 (fL.2 ⟨_,hy,lF⟩)
   have lw:=(hE.sh b hb).2;have hold:b<w.heap.size→g.Sh b∨∃id∈ids,b∈g.φ id:=fun gI=>(lw gI).imp (fun h=>by simpa only[sh,an Pq]using h) (S b).1;refine⟨gI,fun aan=>?_,fun hf=>?_⟩
   ·rcases hold (by omega)with h|h
    exact(hu.sh b h).2.1 aan;exact hs.ms b aan (hu.low b (Sin b h) aan)
   rcases Lb b hf with h|⟨y,u,hy,P3,lF⟩
   exact(GP b h).2.2.2 hb;have zu:=hu.lt b (fL.2 ⟨_,hy,lF⟩);rcases hold zu with h|h
   exact(hu.sh b h).2.2 (fL.2 ⟨_,hy,lF⟩);exact PC y u hy P3 b lF h
  ·intro x hx;rcases wQ x hx with⟨i,id,y,v,u',rfl,e,EH,q2,q3,q4,ee⟩|⟨Cf,u,KZ,Cw⟩
   ·obtain⟨_,_,_,_,_,_,_,_,_,hm⟩:=kept i id e;have hmu:(3000000000+(0+i),u')∈jh 0 rQ:=jJ.2 ⟨i,u',EH,rfl⟩;have ho:=hE.each _ hmu;have hp:=hE.ww _ hmu;simp only at hp;rw[(gX ee).1,(gX ee).2.2.1]at hp;have hold:=hu.each _ q2;simp only;cases v with
    |ar ow nn sz es=>
     cases y with
     |ar ow2 VZ Ep UC=>
      cases u' with
      |ar ow3 nn3 sz3 es3=>
       simp only[qn]at q4;obtain⟨rfl,_,_,o3⟩:=q4;simp only[vd,hP]at ho hold⊢;rw[φi e];rw[hp.1,hp.2]at ho;obtain⟨z1,z2,z3⟩:=ho;refine⟨z1,z2,?_⟩;have wM:g.β id=none→nn≠some false:=by
        intro hb;rcases hold.2.2 with⟨_,_,_,p⟩|⟨b,_,_,_,_,_,p,_⟩
        exact p;rw[hb]at p;cases p
       have VZ:∀b,g.β id=some b→nn≠some true:=by
        intro b hb;rcases hold.2.2 with⟨p,_⟩|⟨b',_,_,_,_,_,_,_,_,_,_,_,p,_⟩
        rw[hb]at p;cases p;exact p
       rcases z3 with⟨p1,p2,p3,p4⟩|⟨b,c,ty,G,cs,rest,k1,k2,k3,k4,k5,k6,k7,k8⟩
       exact .inl ⟨p1,p2,p3,wM p1⟩;refine .inr ⟨b,c,ty,G,cs,rest,k1,k2,k3,k4,k5,k6,VZ b k1,?_⟩
       split
       ·next hw=>rw[an hw]at k8;exact k8
       next hw=>
       rw[al hw]at k8;refine⟨k8.1,fun y hy=>?_⟩;rcases o3 with o3|o3|o3
       exact .inr ⟨o3,k6.lt y hy,k8.2 y hy⟩;exact absurd o3 hw;rw[jE o3 k6]at hy;cases hy
      |_=>simp[qn]at q4
     |_=>simp[jZ]at q3
    |own d=>
     cases y with
     |own d2=>simp[qn]at q4
     |_=>simp[jZ]at q3
    |bx sz items=>
     cases y with
     |bx Ep Ce=>
      cases u' with
      |bx sz3 aak=>
       simp only[qn]at q4;obtain⟨rfl,_,o3⟩:=q4;simp only[vd,hP]at ho⊢;rw[φi e];rw[hp.1]at ho;obtain⟨z1,b,c,ty,xs,rest,z2,z3,z4,z5,z6,z7⟩:=ho;exact⟨by rw[tL];exact z1,b,c,ty,xs,rest,z2,z3,z4,tC hAw o3 z5,z6,z7⟩
      |_=>simp[qn]at q4
     |_=>simp[jZ]at q3
    |sb T E s=>cases y<;>simp[jZ]at q3
    |mp es=>cases y<;>simp[jZ]at q3
   rw[Cw];exact(hu.each _ KZ).oQ K KZ (fun h=>Cf ((l9 _).2 (.inl h))) (fun h=>Cf ((l9 _).2 (.inr h))) (φo Cf) (fun b hb=>UN _ _ KZ Cf b hb) (fun b hb=>⟨.inl hb,frS b hb⟩)
  ·intro b hb;rcases Lb b hb with h|⟨y,u,hy,P3,lF⟩
   exact(GP b h).2.1;exact(hu.fz b (fL.2 ⟨_,hy,lF⟩)).eq (UN y u hy P3 b lF)
  refine hu.ww.mono fun i u hm wy=>⟨?_,rfl,rfl⟩;rcases wQ _ hm with⟨i1,id,y,v,u',e0,e,EH,q2,q3,q4,_⟩|⟨Cf,u0,KZ,Cw⟩
  ·injection e0 with e0 e0';subst e0 e0';exact⟨v,q2,(uT q3 q4).2.2 wy⟩
  simp only at Cw;rw[Cw,U.qZ]at wy;exact⟨u0,KZ,wy⟩
 have iF:∀t,fx w'.heap (mM ids k1 k2 rQ st.us) g2 (lk (iy (oA k1 k2) st.env) t) (a.tmps.getD t undef):=fun t=>gT hV (h.rep t);have hSt:st.ZV k1 k2 rQ=⟨st.n,iy (oA k1 k2) st.env,mM ids k1 k2 rQ st.us⟩:=by rw[←Pz];rfl
 rw[hSt]at hk;have hS:ju n0 S0 M0 w0 ⟨st.n,iy (oA k1 k2) st.env,mM ids k1 k2 rQ st.us⟩ a w':=by
  refine⟨hs.ms,hs.mS,hs.tm,hs.base,e1.trans hs.os,e2.trans hs.tape,e3.trans hs.output,bX hs.size jm,?_,g2,hU,iF⟩;intro b hb hM;rw[fr b (by omega) fun hSb=>hM (hu.low b (Sin b hSb) hb)];exact hs.iD b hb hM
 obtain⟨hf,tb⟩:=sI hk;obtain⟨g3,hU3,UM,hV3⟩:=xT (st:=⟨st.n,iy (oA k1 k2) st.env,mM ids k1 k2 rQ st.us⟩) hU (n:=o.dst.getD 0) hR hnF.1
  (fun b hb gI=>hu.low b (Sin b ((S b).1 ((hE.all b (dz _ hb)).2.2.1 (by omega)))) gI)
  (fun b hb jb => by
   rcases Lb b jb with h|⟨y,u,hy,P3,lF⟩
   exact hnF.2.2 b hb b h rfl;exact PC y u hy P3 b lF ((S b).1 ((hE.all b (dz _ hb)).2.2.1 (hu.lt b (fL.2 ⟨_,hy,lF⟩)))))
  (fun b hb lw => by
   rcases lw with lw|⟨_,_,lw⟩
   exact(hu.sh b lw).2.2 (Sin b ((S b).1 ((hE.all b (dz _ hb)).2.2.1 (hu.sh b lw).1)));exact(hE.all b (dz _ hb)).2.2.2 lw)
  (fun b hb=>(hE.all b (dz _ hb)).2.1) false (by simp) hf
 have hS3:ju n0 S0 M0 w0 (St.iQ ⟨st.n,iy (oA k1 k2) st.env,mM ids k1 k2 rQ st.us⟩ (gS (o.dst.getD 0) false r).2) a w':=
  ⟨hs.ms,hs.mS,hs.tm,hs.base,e1.trans hs.os,e2.trans hs.tape,e3.trans hs.output,bX hs.size jm,hS.iD,g3,hU3,fun t=>hV3 _ _ (iF t)⟩
 exact⟨_,by cases o.dst<;>rfl,tb,gW hS3 hU3 (fun t=>hV3 _ _ (iF t)) h.dst UM⟩
variable {c:Call}
def Vo(h:At n0 S0 M0 w0 st o a w g){f:Nat}{Xs:List X}{kk:St→Prop}(ho:o.op=.call c)(hc:c.callee=.value (.func f))(hl:c.args.size=c.argTypes.size)
  (hx:(c.args.toList.zip c.argTypes.toList).mapM (fun p=>fY P p.2 p.1)=some Xs) (hq:D9 P o.dst f (Xs.map st.ev) st kk):o.wp P a w (ip n0 S0 M0 w0 st.n kk) Q':=by
 refine Ea h (vs:=c.args.toList.map a.eval) ?_ (mu h.rep (by simpa using hl) hx) hq;rintro⟨fn,h1,h2,h3⟩;have rX:¬fn.body=none:=by cases hb:fn.body<;>simp_all
 have um : ¬ fn.name = "runtime.NumGoroutine" := by simpa using h3
 have ea:(List.map a.eval c.args.toList).toArray=Array.map a.eval c.args:=by apply aS;simp
 rw[ea];simp[execOp,ho,resolve,hc,Act.eval,Deferred.ofValue,invoke,callFunc,h1,rX,um]
variable {x:Operand}
def Xp(h:At n0 S0 M0 w0 st o a w g){u:TypeId}{X:Ax.X}{Xs:List Ax.X}{kk:St→Prop}(ho:o.op=.call c)(hc:c.callee=.value x)(hX:fY P u x=some X)(hl:c.args.size=c.argTypes.size)
  (hx:(c.args.toList.zip c.argTypes.toList).mapM (fun p=>fY P p.2 p.1)=some Xs) (hq:C0 (st.ev X) P o.dst (Xs.map st.ev) st kk):o.wp P a w (ip n0 S0 M0 w0 st.n kk) Q':=by
 rcases hq with hq|⟨f,avs,e1,hq⟩
 ·refine cZ ?_ (xO (Q':=Q') h ho hc hX hl hx hq);rintro a' w' ⟨av,us,hk,hS⟩;obtain⟨h3,h4⟩:=sI hk;exact⟨_,by cases o.dst<;>rfl,h4,hS h3⟩
 have ex:=h.ev_ hX;rw[e1]at ex;simp only[fx]at ex;obtain⟨vs,q2,hv⟩:=ex;refine Ea h (vs:=c.args.toList.map a.eval++vs) ?_ (pD (mu h.rep (by simpa using hl) hx) q2) hq;rintro⟨fn,h1,h2,h3⟩;have rX:¬fn.body=none:=by cases hb:fn.body<;>simp_all
 have um : ¬ fn.name = "runtime.NumGoroutine" := by simpa using h3
 have ea:(List.map a.eval c.args.toList++vs).toArray=Array.map a.eval c.args++⟨vs⟩:=by apply aS;simp
 rw[ea];simp[execOp,ho,resolve,hc,hv,Deferred.ofValue,invoke,callFunc,h1,rX,um]
def gr.sbu{h':ij}{us:List (Nat×U)}(hu:gr h n0 S0 M0 us g){k T E:Nat}{s s':ByteArray}(hm:(k,U.sb T E s)∈us){F F':List Nat}(hb:g.β k=some b)(hφ0:g.φ k=b::F)
  (jm:h.size≤h'.size) (hh:∀x,x<h.size→x∉b::F→h'[x]?=h[x]?) (hs:wD h' T E s' b F') (HS:b∉F') (hF:∀x∈F',x∈F∨h.size≤x) (hn0:n0≤h.size):
  gr h' n0 S0 M0 ((k,.sb T E s')::fQ k (AV.soft k) us) (g.lp k (b::F'))∧∀av v,av.soft k=false→fx h us g av v→fx h' ((k,.sb T E s')::fQ k (AV.soft k) us) (g.lp k (b::F')) av v:=by
 have Pu:∀i,i≠k→(g.lp k (b::F')).φ i=g.φ i:=fun i hi=>by simp[Gh.lp,hi]
 have P0:(g.lp k (b::F')).φ k=b::F':=by simp[Gh.lp]
 have rg:∀x∈g.φ k,x∈fp g us:=fun x hx=>fL.2 ⟨_,hm,hx⟩;have kJ:∀i v,(i,v)∈us→i≠k→∀x∈g.φ i,h'[x]?=h[x]?:=by
  intro i v h1 h2 x hx;exact hh x (hu.lt x (fL.2 ⟨_,h1,hx⟩)) fun AX=>h2 (gK hu.keys hu.nodup h1 hm hx (by rw[hφ0];exact AX))
 have Cu:∀x,g.Sh x→h'[x]?=h[x]?:=fun x hx=>hh x (hu.sh x hx).1 fun AX=>(hu.sh x hx).2.2 (rg x (by rw[hφ0];exact AX));have vJ:∀x∈b::F',x∈g.φ k∨h.size≤x:=by
  intro x hx;rw[hφ0];rcases aj.1 hx with rfl|hx
  exact .inl (by simp);rcases hF x hx with h1|h1
  exact .inl (by simp[h1]);exact .inr h1
 have H:C8 k (AV.soft k) h h' us ((k,.sb T E s')::fQ k (AV.soft k) us) g (g.lp k (b::F')):=by
  refine {mem:=fun i u h1 h2=>bt _ (iY h1 h2),β:=fun i hi=>⟨rfl,rfl,rfl⟩,iV:=?_,im:=?_,own:=?_,ar:=?_,bx:=?_,sb:=?_,mp:=?_,same:=⟨rfl,rfl,rfl⟩};intro i u x h1 h2 h3;exact kJ i u h1 h2 x ((hu.each _ h1).iZ h3)
  ·intro t d F cs ht hr i9;have hx:∀x∈F,h'[x]?=h[x]?:=by
    intro x hx;rcases i9 x hx with h1|⟨i,rfl,h1,_⟩
    exact Cu x h1;obtain⟨v,hv⟩:=hu.live h1;exact kJ i v hv (by rintro rfl;exact ht rfl) x h1
   refine⟨hr.frame hx,fun x hx=>?_⟩;rcases i9 x hx with h1|⟨i,rfl,h1,h2⟩
   exact .inl h1;exact .inr ⟨i,rfl,by rw[Pu i (by rintro rfl;exact ht rfl)];exact h1,h2⟩
  intro d hd;have:=hu.uniq hm hd;cases this;intro ow nn sz es hd;have:=hu.uniq hm hd;cases this;intro sz items hd;have:=hu.uniq hm hd;cases this
  ·intro T1 E1 s1 hd;have:=hu.uniq hm hd;injection this with z1 z2 z3;subst z1 z2 z3;exact⟨s',by simp⟩
  intro es hd;have:=hu.uniq hm hd;cases this
 have hV:∀av v,av.soft k=false→fx h us g av v→fx h' ((k,.sb T E s')::fQ k (AV.soft k) us) (g.lp k (b::F')) av v:=fun av v hf hr=>fx.ut H hf hr;have hH:=iM (f:=AV.soft k) Pu (us:=us);have jb:fp (g.lp k (b::F')) ((k,.sb T E s')::fQ k (AV.soft k) us)=(b::F')++fp (g.lp k (b::F')) (fQ k (AV.soft k) us):=by
  simp only[fp,cp,P0]
 have wN:∀x∈fp (g.lp k (b::F')) (fQ k (AV.soft k) us),∃y∈us,y.1≠k∧x∈g.φ y.1:=by
  intro x hx;obtain⟨y,hy,jM⟩:=fL.1 hx;obtain⟨gw,u,h1,h2⟩:=gf hy;exact⟨_,h1,gw,by rw[Pu _ gw]at jM;exact jM⟩
 have gF:∀x∈fp (g.lp k (b::F')) ((k,.sb T E s')::fQ k (AV.soft k) us),x∈fp g us∨h.size≤x:=by
  intro x hx;rw[jb]at hx;rcases ax.1 hx with hx|hx
  exact(vJ x hx).imp (rg x) id;exact .inl (hH.subset hx)
 have zu:=hs.lt;refine⟨⟨?_,?_,?_,?_,?_,?_,?_,?_,hu.ww.Ek hm (fun _=>⟨rfl,rfl⟩) (fun _=>rfl)⟩,hV⟩
 ·simp only[lC,aP,gn];exact⟨by simp[aX],hu.keys.filter _⟩
 ·rw[jb,aT];refine⟨aP.2 ⟨HS,hs.nd⟩,hH.nodup hu.nodup,?_⟩;rintro x hx y hy rfl;obtain⟨z,hz,gw,ra⟩:=wN x hy;rcases vJ x hx with h1|h1
  exact gw (gK hu.keys hu.nodup hz hm ra h1);have:=hu.lt x (fL.2 ⟨z,hz,ra⟩);omega
 ·intro x hx;rw[jb]at hx;rcases ax.1 hx with hx|hx
  exact zu x hx;have:=hu.lt x (hH.subset hx);omega
 ·intro x hx gI;rcases gF x hx with h1|h1
  exact hu.low x h1 gI;omega
 ·intro i hi;simp only[lC,aj,cA,gn]at hi;rw[Pu i hi.1];exact hu.dead i fun EE=>hi.2 (by simp[aX,EE,hi.1])
 ·intro x hx;have hx:g.Sh x:=hx;obtain⟨q1,q2,q3⟩:=hu.sh x hx;exact⟨by omega,q2,fun h1=>(gF x h1).elim q3 (by omega)⟩
 ·intro x hx;rcases aj.1 hx with rfl|hx
  simp only[hP];exact⟨b,F',hb,P0,hs⟩;obtain⟨gw,u,h1,h2⟩:=gf hx;rw[h2];exact(hu.each _ h1).iq H.toKeep (fun av hf=>.inr fun v hr=>hV av v hf hr) h1 gw (Pu _ gw) (fun x hx=>kJ _ _ h1 gw x hx) (fun x hx=>⟨hx,Cu x hx⟩)
 intro x hx;rw[jb]at hx;rcases ax.1 hx with hx|hx
 ·obtain⟨ad,bv,h1,_,h3⟩:=hs;rcases aj.1 hx with rfl|hx
  exact .inl ⟨_,_,h1⟩;rcases h3 with⟨_,_,rfl⟩|⟨gb,cap,cur,_,rfl,h4,_⟩
  cases hx;simp only[am]at hx;subst hx;exact .inl ⟨_,_,h4⟩
 obtain⟨z,hz,gw,ra⟩:=wN x hx;exact(hu.fz x (fL.2 ⟨z,hz,ra⟩)).eq (kJ z.1 z.2 hz gw x ra)
variable {A:Ax.X}{p:Operand}{t u1 u2:TypeId}
def abp(h:At n0 S0 M0 w0 st o a w g){sz:Nat}{X:Ax.X}{f:St→Prop}(ho:o.op=.store t p x)(hd:o.dst=none)(hp:fY P u1 p=some A)(hx:fY P u2 x=some X)
  (hz:io P t=some sz) {id:Nat} (eA:st.ev A=.ps id) (hq:ZA (st.unit id) id sz (st.ev X) st f):o.wp P a w (ip n0 S0 M0 w0 st.n f) Q':=by
 have ep:=h.ev_ hp;have ex:=h.ev_ hx;have hs:=h.sat;have th:n0≤w.heap.size:=by rw[hs.base];exact hs.size
 rw[eA]at ep;unfold ZA at hq
 split at hq
 ·next T E s gZ=>
  obtain⟨⟨rfl,hzx⟩,hk⟩:=hq;have hm:=fB gZ;have hU:=h.us.each _ hm;simp only[hP]at hU;obtain⟨b,F,k1,k2,k3⟩:=hU;simp only[fx]at ep;obtain⟨T',E',s',b',x1,x2,hv⟩:=ep;rw[k1]at x2;obtain rfl:=aQ x2;have lY:(a.eval x).cells.toList=[.pointer none,.slice none 0 0]:=by
   unfold A7 at hzx
   split at hzx
   ·next t1 t2 q e1=>
    rw[e1]at ex;simp only[fx,fA]at ex;obtain⟨xs,⟨v1,r1,rfl,q1,v2,r2,rfl,q2,rfl⟩,w9⟩:=ex;obtain⟨F1,g1,g2,_⟩:=q1;obtain⟨F2,g3,g4,_⟩:=q2;simp only[f8]at g1;have e3:v2.cells.toList=[.slice none 0 0]:=by
     unfold f8 at g3;rcases g3 with⟨p,z1,_,_,_,z2⟩|⟨_,_,_,_,_,_,_,_,_,z3,_⟩
     ·cases p with
      |none=>exact z1
      |some p=>exact absurd rfl (z2 rfl)
     exact absurd rfl z3
    rw[w9];simp[Value.cells]at g1 e3⊢;rw[g1.2.1,e3]
    rfl
   cases hzx
  obtain⟨ad,bv,y1,y2,y3⟩:=k3;have rg:∀x∈b::F,x∈fp g st.us:=fun x hx=>fL.2 ⟨_,hm,by rw[k2];exact hx⟩;have gk:=sQ (P:=P) (w:=w) hz (b:=b) (off:=0) (v:=a.eval x) (by have:=congrArg List.length lY;simpa using this) y1 (by simp) (by rw[lY];simp[Value.oneCell']);have yG:((#[ad,bv]:Array Value).toList.take 0++(a.eval x).cells.toList++(#[ad,bv]:Array Value).toList.drop (0+2)).toArray= #[.pointer none,.slice none 0 0]:=by rw[lY];rfl
  rw[yG]at gk;have Z1:=cY w b #[ad,bv] #[.pointer none,.slice none 0 0] T (0,0) y1;obtain⟨s7,yZ⟩:=h.us.sbu (h':=(w.setRow b #[.pointer none,.slice none 0 0]).heap) (s':=⟨#[]⟩) (F':=[]) hm k1 k2 (by rw[bS];exact aU _) (fun x _ HX=>co w b x _ (fun e=>HX (by simp[e])))
   ⟨.pointer none,.slice none 0 0,Z1,.inl rfl,.inl ⟨rfl,rfl,rfl⟩⟩ (by simp) (by simp) th
  unfold Oper.wp;have j9:(execOp a.eval o).run P w=.ok .skip (w.setRow b #[.pointer none,.slice none 0 0]):=by
   simp[execOp,ho,hv,gk]
  rw[j9,dE,hd];refine⟨st.mc id (.sb T E ⟨#[]⟩),rfl,hk,hs.ms,hs.mS,hs.tm,hs.base,hs.os,hs.tape,hs.output,?_,?_,_,s7,fun t=>gT (fun av v hf hr=>yZ av v hf hr) (h.rep t)⟩;rw[bS];exact hs.size;intro y hy xa;rw[co w b y _ (fun e=>xa (by subst e;exact h.us.low y (rg y (by simp)) hy))];exact hs.iD y hy xa
 exact hq.elim
mutual
def AJ{k:Nat}:∀{av:AV},av.refs k=false→av.soft k=false
 |.im _ _,h=>by simpa[AV.refs,AV.soft]using h
 |.cw _ _ _ _ _,h=>by simpa[AV.refs,AV.soft]using h
 |.sg _,h=>by simp only[AV.refs]at h;simp only[AV.soft];exact pC h
 |.jS _,h=>by simp only[AV.refs]at h;simp only[AV.soft];exact pC h
 |.cl _ _,h=>by simp only[AV.refs]at h;simp only[AV.soft];exact pC h
 |.pq _ _ _ _ _ _,h=>by simpa[AV.refs,AV.soft]using h
 |.qs _ _ _ _ _ _,h=>by simpa[AV.refs,AV.soft]using h
 |.tr _,_=>by simp[AV.soft]
 |.pw _ _ _,_=>by simp[AV.soft]
 |.sm _ _ _,_=>by simp[AV.soft]
 |.vb _ _,_=>by simp[AV.soft]
 |.any,_=>by simp[AV.soft]
 |.ss _ _ _,_=>by simp[AV.soft]
 |.z0 _ _,_=>by simp[AV.soft]
 |.pb _ _,_=>by simp[AV.soft]
 |.ps _,_=>by simp[AV.soft]
 |.mv _,_=>by simp[AV.soft]
def pC{k:Nat}:∀{vs:List AV},AV.kI k vs=false→AV.mP k vs=false
 | [],_=>by simp[AV.mP]
 |v::vs,h=>by
  simp only[AV.kI,cD]at h;simp only[AV.mP,AJ h.1,pC h.2,ay]
end
def zN{x:AV}(hr:fx h us g x v)(ho:oy x=true):∀c∈v.cells.toList,c.oneCell'=true:=by
 have yL:x.gY=true→∀c∈v.cells.toList,c.oneCell'=true:=by
  intro h1 c hc;have:=qx hr h1;rw[fP this]at hc;simp at hc;subst hc;exact this
 cases x with
 |sg vs=>
  simp only[oy]at ho;simp only[fx]at hr;obtain⟨xs,h1,rfl⟩:=hr;have il:=lx h1 ho;intro c hc;rw[il]at hc;simp only[Value.cells,List.toList_toArray]at hc;have key:∀{vs:List AV} {xs:List Value},fA h us g vs xs→vs.all AV.gY=true→∀c∈xs,c.oneCell'=true:=by
   intro vs
   induction vs with
   |nil=>intro xs hr _ c hc;simp only[fA]at hr;subst hr;cases hc
   |cons v vs ih=>
    intro xs hr ho c hc;simp only[fA]at hr;obtain⟨x,r,rfl,p1,p2⟩:=hr;simp only[cE,bA]at ho;rcases aj.1 hc with rfl|hc
    exact qx p1 ho.1;exact ih p2 ho.2 c hc
  exact key h1 ho c hc
 |_=>exact yL (by simpa[oy]using ho)
variable {e:TypeId}
def gr.cell(hu:gr h n0 S0 M0 us g){id:Nat}{u:U}(hm:(id,u)∈us)(hb:g.β id=some b)(hφ:g.φ id=[b]){c:Array Value}(h0:h'[b]?=some (.cells c e (0,0)))
  (jm:h'.size=h.size) (hh:∀x,x≠b→h'[x]?=h[x]?) {f:AV→Bool} {k1 k2:List Nat} (hk:∀i,i∈k1∨i∈k2→i=id) (qr:id∈k1∨id∈k2) (hf:∀av,f av=false→(∀k∈k1,av.soft k=false)∧(∀k∈k2,av.refs k=false))
  {sz:Nat} {z:AV} {vz:Value} (jP:id∈k1→lB u (.bx sz [z])) (hz:fx h us g z vz) (hzr:z.refs id=false) (B8:vz.cells.size=sz) {rest:List Value} (hc:c.toList=vz.cells.toList++rest) (ahO:qf n0 M0 id (g.β id) (g.cap id)):
  gr h' n0 S0 M0 ((id,.bx sz [z])::fQ id f us) g∧me k1 k2 f h h' us ((id,.bx sz [z])::fQ id f us) g g:=by
 have lH:b∈fp g us:=fL.2 ⟨_,hm,by rw[hφ];simp⟩;have kJ:∀i v,(i,v)∈us→i≠id→∀x∈g.φ i,x≠b:=by
  rintro i v h1 h2 x hx rfl;exact h2 (gK hu.keys hu.nodup h1 hm hx (by rw[hφ];simp))
 have Cu:∀x,g.Sh x→x≠b:=fun x hx e=>(hu.sh x hx).2.2 (e▸lH);have K:me k1 k2 f h h' us ((id,.bx sz [z])::fQ id f us) g g:=by
  refine⟨hf,?_,fun _ _=>⟨rfl,rfl,rfl⟩,?_,?_,?_⟩
  ·intro i v hi h1 h2;have gw:i≠id:=by
    rintro rfl;exact qr.elim h1 h2
   exact bt _ (iY hi gw)
  ·intro i v x hi h1 h2 hx;have gw:i≠id:=by
    rintro rfl;exact qr.elim h1 h2
   exact hh x (kJ i v hi gw x ((hu.each _ hi).iZ hx))
  ·intro t d F cs h1 h2 hr i9;have gw:t≠some id:=by
    rintro rfl;exact qr.elim (fun h=>h1 id h rfl) (fun h=>h2 id h rfl)
   have hx:∀x∈F,h'[x]?=h[x]?:=by
    intro x hx;refine hh x ?_;rcases i9 x hx with q|⟨i,rfl,q,_⟩
    exact Cu x q;obtain⟨v,hv⟩:=hu.live q;exact kJ i v hv (fun e=>gw (by rw[e])) x q
   exact⟨hr.frame hx,i9⟩
  intro i hi;have:=hk i (.inl hi);subst this;exact⟨u,_,fun v hv=>hu.uniq hv hm,bP,jP hi⟩
 have hzn:fx h' ((id,.bx sz [z])::fQ id f us) g z vz:=by
  refine fx.oQ K ?_ ?_ hz;intro k La;have:=hk k (.inl La);subst this;exact AJ hzr;intro k La;have:=hk k (.inr La);subst this;exact hzr
 have mem:∀x∈((id,U.bx sz [z])::fQ id f us),∃v,(x.1,v)∈us:=by
  intro x hx;rcases aj.1 hx with rfl|hx
  exact⟨u,hm⟩;obtain⟨_,v,h2,_⟩:=gf hx;exact⟨v,h2⟩
 have UO:∀x,x∈fp g ((id,U.bx sz [z])::fQ id f us)→x∈fp g us:=by
  intro x hx;obtain⟨y,hy,jM⟩:=fL.1 hx;obtain⟨v,hv⟩:=mem y hy;exact fL.2 ⟨_,hv,jM⟩
 have oR:(((id,U.bx sz [z])::fQ id f us).map (·.1)).Nodup:=by
  simp only[lC,aP,gn];exact⟨by simp[aX],hu.keys.filter _⟩
 refine⟨⟨oR,mq oR ?_ ?_,?_,fun x hx=>hu.low x (UO x hx),?_,?_,?_,?_,hu.ww.jQ (fun _=>⟨rfl,rfl⟩) fun _=>ahO⟩,K⟩;intro x hx;obtain⟨v,hv⟩:=mem x hx;exact gO hu hv;intro x hx y hy b' mE lF;obtain⟨v,hv⟩:=mem x hx;obtain⟨v',UF⟩:=mem y hy;exact gK (x:=(x.1,v)) (y:=(y.1,v')) hu.keys hu.nodup hv UF mE lF;intro x hx;rw[jm];exact hu.lt x (UO x hx)
 ·intro i hi;refine hu.dead i fun EE=>hi ?_;simp only[lC,aj,gn,aX]
  by_cases e:i=id;exact .inl e
  exact .inr ⟨EE,by simpa using e⟩
 ·intro x hx;obtain⟨q1,q2,q3⟩:=hu.sh x hx;exact⟨by rw[jm];exact q1,q2,fun hf=>q3 (UO x hf)⟩
 ·intro x hx;rcases aj.1 hx with rfl|hx
  ·simp only[hP];refine⟨by simp[gp],b,c,e,[vz],rest,hb,h0,hφ,?_,by simpa using fun _=>B8,by simpa using hc⟩;simp only[fA];exact⟨_,_,rfl,hzn,rfl⟩
  obtain⟨gw,v,h1,h2⟩:=gf hx;rw[h2];have n1:x.1∉k1:=fun h=>gw (hk _ (.inl h));have n2:x.1∉k2:=fun h=>gw (hk _ (.inr h));exact(hu.each _ h1).oQ K h1 n1 n2 rfl (fun y hy=>hh y (kJ _ _ h1 gw y hy)) (fun y hy=>⟨hy,hh y (Cu y hy)⟩)
 intro x hx
 by_cases e':x=b;subst e';exact .inl ⟨c,e,h0⟩;exact(hu.fz x (UO x hx)).eq (hh x e')
def CJ{g:Gh}{id:Nat}(H:∀av v,av.refs id=false→fx h us g av v→fx h' us' g' av v)(Hp:∀j v,fx h us g (.pw id 0 j) v→fx h' us' g' (.pb id j) v){t:Nat}:∀{env:List (Nat×AV)},
  fx h us g (lk env t) v→fx h' us' g' (lk (Du id env) t) v
 | [],_=>by simp[Du,lk,fx]
 |(k,av)::r,hr=>by
  simp only[Du,lk]at hr⊢
  split
  ·next e=>
   rw[an e]at hr;unfold uI
   split
   ·next i el j=>
    split
    ·next e2=>
     subst e2
     split
     ·next e3=>subst e3;exact Hp _ _ hr
     simp[fx]
    next e2=>exact H _ _ (by simpa[AV.refs]using e2) hr
   split
   simp[fx]
   next e2=>exact H _ _ (by simpa using e2) hr
  next e=>rw[al e]at hr;exact CJ H Hp hr
def Vk(h:At n0 S0 M0 w0 st o a w g){sz:Nat}{X:Ax.X}{f:St→Prop}(ho:o.op=.store t p x)(hd:o.dst=none)(hp:fY P u1 p=some A)(hx:fY P u2 x=some X)
  (hz:io P t=some sz) {id el j:Nat} (eA:st.ev A=.pw id el j) (hq:Ru (st.unit id) id el j sz (st.ev X) st f):o.wp P a w (ip n0 S0 M0 w0 st.n f) Q':=by
 have ep:=h.ev_ hp;have ex:=h.ev_ hx;have hs:=h.sat;unfold Ru at hq
 split at hq
 ·next ow nn usz d gZ=>
  obtain⟨⟨q1,q2,rfl,rfl,rfl,q6,q7,q8,q9⟩,hf⟩:=hq;have hm:=fB gZ;rw[eA]at ep;simp only[fx]at ep;obtain⟨ow',jc,gv,es',b,r1,r2,r3,r4,hv⟩:=ep;have:=h.us.uniq r1 hm;injection this with e1 e2 e3 e4;subst e1 e2 e3 e4;have hU:=h.us.each _ hm;simp only[hP]at hU;obtain⟨_,ur,hU⟩:=hU;rcases hU with⟨z1,_⟩|⟨b',c,e,G,cs,rest,k1,k2,k3,k4,k5,k6,k7,k8⟩
  rw[r4]at z1;cases z1;rw[r4]at k1;obtain rfl:=aQ k1;simp only[fR]at k6;obtain⟨F1,F2,c1,c2,rfl,rfl,k6,hF2,kx⟩:=k6;subst hF2 kx;have hF1:=iB q6 k6;subst hF1;have hφ:g.φ id=[b]:=by
   split at k8;simpa using k8;exact k8.1
  have UE:=xw ex;have adW:=rK h.us UE q7 q2;have zb:=k6.length;have kf:d.size=gv:=ur d (by simp);have lh:c.toList.length=c.size:=by simp
  have B4:gv≤c.size:=by
   rw[k3]at lh;simp only[aB,lP,zb]at lh;omega
  have gk:=sQ (P:=P) (w:=w) hz (b:=b) (off:=0*gv+0) (v:=a.eval x) adW k2 (by omega) (zN UE q8);have vJ:(c.toList.take (0*gv+0)++(a.eval x).cells.toList++c.toList.drop (0*gv+0+gv)).toArray.toList=(a.eval x).cells.toList++c.toList.drop (0*gv+0+gv):=by simp
  obtain⟨hU',K⟩:=h.us.cell (h':=(w.setRow b (c.toList.take (0*gv+0)++(a.eval x).cells.toList++c.toList.drop (0*gv+0+gv)).toArray).heap) hm r4 hφ (cY w b c _ e _ k2) (bS _ _ _) (fun y hy=>co w b y _ hy)
   (f:=AV.refs id) (k1:=[]) (k2:=[id]) (by simp) (by simp) (fun av hf=>⟨by simp,by simpa using hf⟩) (sz:=gv) (z:=jY (st.ev X)) (by simp) UE q9 adW vJ
   (by
    rcases q1 with rfl|q1
    exact h.us.ww.at hm rfl;exact qf.low q1)
  have iF:∀t,fx (w.setRow b (c.toList.take (0*gv+0)++(a.eval x).cells.toList++c.toList.drop (0*gv+0+gv)).toArray).heap ((id,U.bx gv [jY (st.ev X)])::fQ id (AV.refs id) st.us) g (lk (Du id st.env) t) (a.tmps.getD t undef):=fun t=>CJ (fun av v hf hr=>fx.oQ K (by simp) (by simpa using hf) hr) (fun j v hr=>by
   simp only[fx]at hr⊢;obtain⟨_,_,_,_,b2,p1,_,_,p4,p5⟩:=hr;exact⟨_,_,b2,bP,p4,by simpa using p5⟩) (h.rep t)
  unfold Oper.wp;have j9:(execOp a.eval o).run P w=.ok .skip (w.setRow b (c.toList.take (0*gv+0)++(a.eval x).cells.toList++c.toList.drop (0*gv+0+gv)).toArray):=by
   have hr2:=gk;simp only[d7,aC,aw,aA,be]at hr2;simp[execOp,ho,hv,hr2]
  rw[j9,dE,hd];refine⟨st.cvt id (.bx gv [jY (st.ev X)]),rfl,hf,hs.ms,hs.mS,hs.tm,hs.base,hs.os,hs.tape,hs.output,?_,?_,g,hU',iF⟩;rw[bS];exact hs.size;intro y hy xa;have:y≠b:=by
   rintro rfl;exact xa (h.us.low y (fL.2 ⟨_,hm,by rw[hφ];simp⟩) hy)
  rw[co w b y _ this];exact hs.iD y hy xa
 exact hq.elim
def U5(h:At n0 S0 M0 w0 st o a w g){sz:Nat}{X:Ax.X}{f:St→Prop}(ho:o.op=.store t p x)(hd:o.dst=none)(hp:fY P u1 p=some A)(hx:fY P u2 x=some X)
  (hz:io P t=some sz) {id j:Nat} (eA:st.ev A=.pb id j) (hq:R7 (st.unit id) id j sz (st.ev X) st f):o.wp P a w (ip n0 S0 M0 w0 st.n f) Q':=by
 have ep:=h.ev_ hp;have ex:=h.ev_ hx;have hs:=h.sat;unfold R7 at hq
 split at hq
 ·next usz y gZ=>
  obtain⟨⟨q0,q2,q7,q8,q9,q10⟩,hq⟩:=hq;have hm:=fB gZ;rw[eA]at ep;simp only[fx]at ep;obtain⟨gv,g9,b,r1,r4,hv⟩:=ep;have:=h.us.uniq r1 hm;injection this with e1 e2;subst e1 e2;have hU:=h.us.each _ hm;simp only[hP]at hU;obtain⟨_,b',c,e,vs,rest,k1,k2,hφ,k4,k5,k6⟩:=hU;rw[r4]at k1;obtain rfl:=aQ k1;simp only[fA]at k4;obtain⟨vy,r,rfl,hy,rfl⟩:=k4;have UL:=k5 q0 vy (by simp);have hc:c.toList=vy.cells.toList++rest:=by simpa using k6
  have uo:=rK h.us ex q7 q2;have lh:c.toList.length=c.size:=by simp
  have lY:c.size=gv+rest.length:=by rw[←lh,hc];simp[UL]
  have fin:∀(z:AV)(vz:Value),fx w.heap st.us g z vz→z.refs id=false→vz.cells.size=gv→j+sz≤gv→vz.cells.toList=vy.cells.toList.take j++(a.eval x).cells.toList++vy.cells.toList.drop (j+sz)→f (st.mc id (.bx gv [z]))→o.wp P a w (ip n0 S0 M0 w0 st.n f) Q':=by
   intro z vz Pl hz2 hz3 hj hz4 hf;have gk:=sQ (P:=P) (w:=w) hz (b:=b) (off:=j) (v:=a.eval x) uo k2 (by omega) (zN ex q8);have vJ:(c.toList.take j++(a.eval x).cells.toList++c.toList.drop (j+sz)).toArray.toList=vz.cells.toList++rest:=by
    have l1:vy.cells.toList.length=gv:=by simpa using UL
    simp only[hz4,hc];rw[du (by omega),dt (by omega)];simp
   obtain⟨hU',K⟩:=h.us.cell (h':=(w.setRow b (c.toList.take j++(a.eval x).cells.toList++c.toList.drop (j+sz)).toArray).heap) hm r4 hφ (cY w b c _ e _ k2) (bS _ _ _) (fun y hy=>co w b y _ hy)
    (f:=AV.soft id) (k1:=[id]) (k2:=[]) (by simp) (by simp) (fun av hf=>⟨by simpa using hf,by simp⟩) (sz:=gv) (z:=z) (fun _=>by simp[lB]) Pl hz2 hz3 vJ (h.us.ww.at hm rfl)
   unfold Oper.wp;have j9:(execOp a.eval o).run P w=.ok .skip (w.setRow b (c.toList.take j++(a.eval x).cells.toList++c.toList.drop (j+sz)).toArray):=by
    simp[execOp,ho,hv,gk]
   rw[j9,dE,hd];refine⟨st.mc id (.bx gv [z]),rfl,hf,hs.ms,hs.mS,hs.tm,hs.base,hs.os,hs.tape,hs.output,?_,?_,g,hU',fun t=>gT K.rep (h.rep t)⟩;rw[bS];exact hs.size;intro y hy xa;have:y≠b:=by
    rintro rfl;exact xa (h.us.low y (fL.2 ⟨_,hm,by rw[hφ];simp⟩) hy)
   rw[co w b y _ this];exact hs.iD y hy xa
  unfold iG at hq
  split at hq
  ·next kr=>
   obtain⟨rfl,rfl⟩:=kr;refine fin (st.ev X) (a.eval x) ex q9 uo (by omega) ?_ hq;have:vy.cells.toList.drop (0+sz)=[]:=bQ (by simp[UL]);rw[this];simp
  split at hq
  ·rename_i ys _
   obtain⟨⟨p1,p2,rfl,p4⟩,hf⟩:=hq;simp only[fx]at hy;obtain⟨xs,UP,rfl⟩:=hy;have il:=lx UP p1;have hl:=mo UP;have qq:=qx ex p4;have uq:∀{vs:List AV} {xs:List Value} {j:Nat},fA w.heap st.us g vs xs→fA w.heap st.us g (vs.set j (st.ev X)) (xs.set j (a.eval x)):=by
    intro vs
    induction vs with
    |nil=>intro xs j hr;simp only[fA]at hr;subst hr;simp[fA]
    |cons v vs ih=>
     intro xs j hr;simp only[fA]at hr;obtain⟨x0,r,rfl,a1,a2⟩:=hr;cases j with
     |zero=>simp only[ej,fA];exact⟨_,_,rfl,ex,a2⟩
     |succ j=>simp only[e7,fA];exact⟨_,_,rfl,a1,ih a2⟩
   have adX:(ys.set j (st.ev X)).all AV.gY=true:=by
    rw[aY]at p1⊢;intro v hv;rcases List.mem_or_eq_of_mem_set hv with h|h
    exact p1 v h;rw[h];exact p4
   have adY:=lx (uq (j:=j) UP) adX;have hyr:AV.kI id (ys.set j (st.ev X))=false:=by
    have B9:AV.kI id ys=false:=by simpa[AV.refs]using q10
    have:∀{l:List AV} {j:Nat},AV.kI id l=false→AV.kI id (l.set j (st.ev X))=false:=by
     intro l
     induction l with
     |nil=>intro j h;simpa using h
     |cons v l ih=>
      intro j h;simp only[AV.kI,cD]at h;cases j with
      |zero=>simp only[ej,AV.kI,q9,h.2,ay]
      |succ j=>simp only[e7,AV.kI,h.1,ih h.2,ay]
    exact this B9
   have Z4:xs.length=gv:=by
    rw[il]at UL;simpa[Value.cells]using UL
   refine fin (.sg (ys.set j (st.ev X))) (.agg ((xs.set j (a.eval x)).map (·.cells.toList)).flatten.toArray) (by simp only[fx];exact⟨_,uq UP,rfl⟩) (by simpa[AV.refs]using hyr) (by rw[adY];simp[Value.cells,Z4]) (by omega) ?_ hf;have e3:∀l:List Value,(Value.agg l.toArray).cells.toList=l:=fun l=>by simp[Value.cells]
   have hcx:(a.eval x).cells.toList=[a.eval x]:=by rw[fP qq]
   rw[il,adY,e3,e3,hcx];rw[eR,an (by omega)];simp
  exact hq.elim
 exact hq.elim
def aaM(h:At n0 S0 M0 w0 st o a w g){sz:Nat}{X:Ax.X}{f:St→Prop}(ho:o.op=.store t p x)(hd:o.dst=none)(hp:fY P u1 p=some A)(hx:fY P u2 x=some X)
  (hz:io P t=some sz) (hq:CZ (st.ev A) (st.ev X) st sz f):o.wp P a w (ip n0 S0 M0 w0 st.n f) Q':=by
 unfold CZ at hq
 split at hq
 ·next id el j e1=>
  split at hq;exact Vk h ho hd hp hx hz e1 hq;exact U3 h ho hd hp hx hz (by rw[e1];exact hq)
 ·next e1=>exact U3 h ho hd hp hx hz (by rw[e1];exact hq)
 ·next id j e1=>exact U5 h ho hd hp hx hz e1 hq
 ·next id e1=>exact abp h ho hd hp hx hz e1 hq
 ·next tk b q e1=>
  obtain⟨id,hq⟩:=hq;exact aaY h ho hd hp hx hz e1 hq
 exact hq.elim
variable {z:D}{d:Nat}{wv:Wv}
def LE{l:Nat}{ps:List (Nat×X)}:(yc wv d sz z l ps).dst=some d:=by
 unfold yc
 split<;>rfl
def LF{l:Nat}{ps:List (Nat×X)}(h:¬(wv=.sb∧sz=3)):(yc wv d sz z l ps).sq=true:=by
 unfold yc
 split;rfl;exact absurd ⟨rfl,rfl⟩ h;rfl
def aco{wv:Wv}(h:At n0 S0 M0 w0 st o a w g){len d sz:Nat}{ps:Array (Nat×Operand)}{z:D}{L:List (Nat×X)}(ho:o.op=.buildSlice t len ps)(ht:P.underlying t=some (.slice e))
  (hs:io P e=some sz) (hz:iI P e=some z) (hL:ps.toList.mapM (fun(i,x)=>do pure (i,←fY P e x))=some L)
  (hq:yX P (yc wv d sz z len L) st.ev st.unit k):o.wp P a w (hO n0 S0 M0 w0 st o.dst k) Q':=by
 unfold yc at hq
 split at hq
 ·obtain⟨q1,hk⟩:=hq;have Cv:ps= #[]:=by
   obtain⟨_,b2⟩:=tN h ps.toList [] hL;have:ps.toList=[]:=by simpa using b2.symm
   apply aS
   simpa using this
  subst Cv;have jD:=h.sat;have th:n0≤w.heap.size:=by rw[jD.base];exact jD.size
  unfold io at hs;cases od:P.info? e with
  |none=>simp[od]at hs
  |some inf=>
   unfold iI at hz;rw[od]at hz
   dsimp only at hz
   split at hz
   ·next zv B7=>
    obtain⟨hU,hV⟩:=h.us.wide (h':=w.heap.push (.cells #[] e (0,0))) (by simp) (fun b hb=>jI hb) th [] (by simp);have gk:(execOp a.eval o).run P w=.ok (.value (.slice (some ⟨w.heap.size,0,none⟩) 0 0)) (w.alloc (.cells #[] e)):=by
     simp[execOp,ho,Instr.buildSlice,aW ht,sizeOf,typeInfo,od,newRow,Instr.fill];congr 2
     try (apply aS;simp)
    unfold Oper.wp;rw[gk];refine⟨_,[],hk,fun _=>?_⟩;rw[jC];have hS:ju n0 S0 M0 w0 st a (w.alloc (.cells #[] e)):=by
     refine⟨jD.ms,jD.mS,jD.tm,jD.base,jD.os,jD.tape,jD.output,?_,?_,_,hU,fun t=>hV _ _ (h.rep t)⟩
     ·have:=jD.size
      show _≤(w.heap.push _).size
      simp;omega
     intro b hb hm;have:(w.heap.push (.cells #[] e (0,0)))[b]?=w.heap[b]?:=jI (by omega);exact this.trans (jD.iD b hb hm)
    refine gW hS hU (fun t=>hV _ _ (h.rep t)) (fun i hi=>h.dst i hi) ?_;simp only[fx];exact⟨_,rfl,by simp,by simp⟩
   cases hz
 exact hq.elim;exact ahf h ho ht hs hz hL hq
def acY(h:At n0 S0 M0 w0 st o a w g){e:TypeId}{s:Operand}{i:TypeInfo}{z:D}{X Y:Ax.X}(ho:o.op=.call c)(hc:c.callee=.builtin .append)(ha:c.args= #[s,x])(nA:c.argTypes= #[t,t])
  (ht:P.underlying t=some (.slice e)) (hi:P.info? e=some i) (hz:iI P e=some z) (hX:fY P t s=some X) (hY:fY P t x=some Y)
  (hq:CE (st.ev X) (st.ev Y) i.size i.bytes k):o.wp P a w (hO n0 S0 M0 w0 st o.dst k) Q':=by
 have hs:=h.sat;have th:n0≤w.heap.size:=by rw[hs.base];exact hs.size
 obtain⟨zv,B7,B8⟩:∃zv,i.zero=some zv∧zv.cells.size=i.size:=by
  unfold iI at hz;rw[hi]at hz
  dsimp only at hz
  split at hz
  ·next z' UE=>
   split at hz
   ·next jm=>exact⟨z',UE,jm⟩
   cases hz
  cases hz
 have ex:=h.ev_ hX;have ey:=h.ev_ hY;unfold CE at hq
 split at hq
 ·next nn gv q O8 ds e1 e2=>
  obtain⟨⟨rfl,rfl,rfl,q0,q1,q2⟩,hk⟩:=hq;rw[e1]at ex;rw[e2]at ey;simp only[fx]at ex ey;obtain⟨p,hvx,KR,VL⟩:=ex;obtain⟨F,hr,hf,hF⟩:=ey;have lw:∀b∈F,g.Sh b:=fun b hb=>by
   rcases hF b hb with h1|⟨_,h1,_⟩
   exact h1;cases h1
  obtain⟨p',UD⟩:∃p',p=some p':=by
   cases p with
   |none=>exact absurd rfl (KR rfl)
   |some p'=>exact⟨p',rfl⟩
  obtain⟨F',news,n1,n2,n3,n4,n5⟩:∃F' news,fR w.heap ds F' news∧(∀b∈F',b∈F)∧Zu w i.size (a.eval x) ds.length news∧(∀d∈ds,d.size=i.size)∧True:=by
   have uB:=fP (by simpa[D.fits]using hf);rw[uB]at hr;unfold f8 at hr;rcases hr with⟨p,r1,rfl,rfl,_⟩|⟨b,off,cap,c0,e0,fr,F0,r1,rfl,r3,r4,r5,r6,r7,r8,r9⟩
   ·simp only[bO,bm]at r1;exact⟨[],[],by simp[fR],by simp,⟨p,0,r1,by simp,by simp⟩,by simp,trivial⟩
   simp only[bO,bm]at r1;have hl:=r9.length;rw[D.fG r8]at hl;refine⟨F0,_,r9,fun b hb=>by simp[hb],⟨some ⟨b,off,none⟩,cap,r1,hl,fun _=>⟨_,rfl,fun j u hj=>?_⟩⟩,r8,trivial⟩;rw[dF,dP w b _ c0 e0 fr r6];rw[dp]at hj
   split at hj;simpa using hj;cases hj
  obtain⟨v',w',gk,g1,g2,g3,jv⟩:=Bn (P:=P) (w:=w) (ty:=o.type) (n:=0) (cap:=0) (olds:=[]) (ao:=p) ht hi B7 B8 (.inl ⟨rfl,rfl,rfl⟩) n3 n1.one (by simpa using q2) (by simpa using q1);have j9:(execOp a.eval o).run P w=.ok (.value v') w':=by
   rw[←hvx]at gk;simp[execOp,ho,resolve,hc,ha,nA,invoke,builtin,gk,Result.andThen]
  unfold Oper.wp;rw[j9];refine⟨_,[],hk,fun _=>?_⟩;rw[jC];rcases jv with⟨z1,rfl,rfl⟩|⟨b,off,c0,e0,z1,_,z2,_⟩|⟨cap',c',rest,z1,rfl,z2,z3,z4,z5⟩
  ·have:ds=[]:=dv z1;subst this;refine gW hs h.us h.rep (fun i hi=>h.dst i hi) ?_;simp only[fx];refine⟨[],?_,by simp[D.fits,Value.oneCell'],by simp⟩;unfold f8;exact .inl ⟨p,by simp[Value.cells],rfl,rfl,KR,VL⟩
  omega;obtain⟨hU,hV⟩:=h.us.wide (h':=w'.heap) (by rw[z5];simp) (fun b hb=>by rw[z5];exact jI hb) th [w.heap.size] (by intro b hb;simp only[am]at hb;subst hb;right;rw[z5];simp);have hS:ju n0 S0 M0 w0 st a w':=by
   refine⟨hs.ms,hs.mS,hs.tm,hs.base,g1.trans hs.os,g2.trans hs.tape,g3.trans hs.output,?_,?_,_,hU,fun t=>hV _ _ (h.rep t)⟩;have:=hs.size;rw[z5];simp;omega;intro b hb hm;rw[z5,jI (by omega)];exact hs.iD b hb hm
  refine gW hS hU (fun t=>hV _ _ (h.rep t)) (fun i hi=>h.dst i hi) ?_;simp only[fx];refine⟨w.heap.size::F',?_,by simp[D.fits,Value.oneCell'],?_⟩
  ·unfold f8;refine .inr ⟨w.heap.size,0,cap',c',e,(0,0),F',by simp[Value.cells],rfl,by simp,by omega,q2,by rw[z5];exact jB _ _,by rw[z3];simp,n4,?_⟩;have hl:=n1.length;rw[D.fG n4]at hl;have e3:(c'.toList.drop 0).take (ds.length*i.size)=news:=by
    rw[az,z4,be,←hl,bV]
    rfl
   rw[e3];exact n1.frame fun b hb=>by rw[z5];exact jI (n1.lt b hb)
  intro b hb;rcases aj.1 hb with rfl|hb
  exact .inl (.inr (by simp));exact .inl (.inl (lw b (n2 b hb)))
 exact hq.elim
def yC{g:Gh}:∀{items:List AV} {bs:List UInt8} {vs:List Value},n8 items=some bs→fA h us g items vs→
  ∃ns:List Int,vs=ns.map (Value.int .u8)∧bs=ns.map fun n=>UInt8.ofNat n.toNat
 | [],bs,vs,hb,hv=>by
  simp only[n8,oS]at hb;simp only[fA]at hv;subst hb hv;exact⟨[],rfl,rfl⟩
 |x::r,bs,vs,hb,hv=>by
  simp only[fA]at hv;obtain⟨v,vr,rfl,h1,h2⟩:=hv;simp only[n8]at hb
  split at hb
  ·next b br e1 e2=>
   simp only[oS]at hb;subst hb;obtain⟨ns,rfl,rfl⟩:=yC e2 h2;unfold Mf at e1
   split at e1
   ·next t n=>
    simp only[oS]at e1;subst e1;have:=gU h1;exact⟨n::ns,by simp[this],by simp⟩
   cases e1
  cases hb
def Gc(ns:List Int):∀s:ByteArray,ns.foldl (fun r n=>r.push (UInt8.ofNat n.toNat)) s=⟨s.data++(ns.map fun n=>UInt8.ofNat n.toNat).toArray⟩:=by
 induction ns with
 |nil=>intro s;simp
 |cons n ns ih=>
  intro s;simp only[List.foldl_cons,ih,lC];congr 1
  apply aS
  simp[ByteArray.push]
def Hr:∀ns:List Int,((ns.map (Value.int .u8)).map (·.cells.toList)).flatten=ns.map (Value.int .u8)
 | []=>rfl
 |n::ns=>by
  have:=Hr ns;simp only[lC,cb,this]
  rfl
def abZ(h:At n0 S0 M0 w0 st o a w g){s:TypeId}{X:Ax.X}(ho:o.op=.convert s t x)(hx:fY P s x=some X)(hs:P.underlying s=some (.slice e))(ht:P.underlying t=some .string)(hu:OK P e=true)
  (hq:Bt (st.ev X) st.unit k):o.wp P a w (hO n0 S0 M0 w0 st o.dst k) Q':=by
 have ex:=h.ev_ hx;have he:P.underlying e=some (.int .u8):=by
  unfold OK at hu
  split at hu
  ·next k hk=>
   have:k=.u8:=by simpa using hu
   subst this;exact hk
  cases hu
 unfold Bt at hq
 split at hq
 ·next id len e1=>
  rw[e1]at ex;unfold Dq at hq
  split at hq
  ·next sz items gZ=>
   obtain⟨⟨rfl,rfl⟩,hk⟩:=hq;unfold FR at hk
   split at hk
   ·next bs hb=>
    have hm:=fB gZ;have hU:=h.us.each _ hm;simp only[hP]at hU;obtain⟨_,b,c,ty,vs,rest,r1,r2,r3,r4,r5,r6⟩:=hU;simp only[fx]at ex;obtain⟨gv,g9,b',x1,x2,x3,x4⟩:=ex;rw[r1]at x3;obtain rfl:=aQ x3;obtain⟨ns,rfl,rfl⟩:=yC hb r4;have hlen:items.length=ns.length:=by
     have:∀{items:List AV} {vs:List Value},fA w.heap st.us g items vs→vs.length=items.length:=by
      intro items
      induction items with
      |nil=>intro vs hv;simp only[fA]at hv;simp[hv]
      |cons y items ih=>intro vs hv;simp only[fA]at hv;obtain⟨v,r,rfl,_,h2⟩:=hv;simp[ih h2]
     have:=this r4;simpa using this.symm
    have il:=Hr ns;rw[il]at r6;have adZ:(loadCells ⟨b,0,none⟩ items.length).run P w=.ok (ns.map (Value.int .u8)).toArray w:=by
     have:=run_loadCells_list (P:=P) (w:=w) ⟨b,0,none⟩ (ns.map (Value.int .u8)) (fun j v hj=>by
      rw[dF,dP w b _ c ty (0,0) r2];have hj':c.toList[j]?=some v:=by
       rw[r6,da];exact hj;exact(bF.1 hj).1
      simpa using hj')
     simpa[hlen]using this
    have gk:(execOp a.eval o).run P w=.ok (.value (.string ⟨(ns.map fun n=>UInt8.ofNat n.toNat).toArray⟩)) w:=by
     have h1:=run_convert_bytes_string (P:=P) w s t e (some ⟨b,0,none⟩) items.length items.length hs he ht;have h2:=run_bytesToString (P:=P) w ⟨b,0,none⟩ items.length items.length ns adZ;rw[Gc]at h2;simp[execOp,ho,x4,h1,h2]
     try rfl
    exact h.pure_ gk (g8 rfl) hk
   exact hk.elim
  exact hq.elim
 exact hq.elim
def I2{r:lz}(h:sa P d e=some r):r.sq=true:=by
 unfold sa at h
 split at h
 ·injection h with h;subst h;rfl
 simp only[oD,oB,oP,oS]at h;obtain⟨s,hs,z,hz,rfl⟩:=h
 rfl
def TH{E:TypeId}(h:YI P e=some E):∃i,P.info? e=some i∧i.zero=some (.agg #[.pointer none,.slice none 0 0])∧P.underlying E=some (.int .u8):=by
 unfold YI at h
 split at h
 ·next fs i h1 h2=>
  split at h
  ·next f0 f1 h3=>
   split at h
   ·next t E' h4 h5=>
    split at h
    ·next hc=>
     injection h with h;subst h;simp only[bA]at hc;refine⟨i,h2,?_,?_⟩
     ·have hz:=hc.2;unfold Ak at hz
      split at hz
      ·next cs lY=>
       split at hz
       ·next l c hl=>
        simp only[bA,bB]at hz;obtain⟨rfl,rfl⟩:=hz;rw[lY];congr 2
        apply aS
        simpa using hl
       cases hz
      cases hz
     have hu:=hc.1.2;unfold OK at hu
     split at hu
     ·next k hk=>
      have:k=.u8:=by simpa using hu
      subst this;exact hk
     cases hu
    cases h
   cases h
  cases h
 cases h
def WW(h:At n0 S0 M0 w0 st o a w g){e:TypeId}{r:lz}(ho:o.op=.alloc e)(hr:sa P d e=some r)(hq:yX P r st.ev st.unit k):
  o.wp P a w (hO n0 S0 M0 w0 st o.dst k) Q'∧r.dst=some d:=by
 unfold sa at hr
 split at hr
 ·next E hE=>
  injection hr with hr;subst hr;obtain⟨Po,hk⟩:=hq;obtain⟨i,hi,hz,_⟩:=TH hE;refine⟨?_,rfl⟩;refine lq h (c:= #[.pointer none,.slice none 0 0]) (e:=e) (v:=.pointer (some ⟨w.heap.size,0,none⟩)) [w.heap.size] 1 ?_ rfl ?_ ?_ hk (fun _=>Po);simp[execOp,ho,Instr.alloc,zeroValue,typeInfo,hi,hz,newVar,newRow,Value.cells];intro _;simp only[hP,hZ];exact⟨w.heap.size,[],rfl,rfl,.pointer none,.slice none 0 0,jB _ _,.inl rfl,.inl ⟨rfl,rfl,rfl⟩⟩;intro _;simp only[fx];exact⟨_,_,_,w.heap.size,bP,by simp[hZ],rfl⟩
 simp only[oD,oB,oP,oS]at hr;obtain⟨s,hs,z,hz,rfl⟩:=hr;exact⟨adu h ho hz hq,rfl⟩
def ab0(h:At n0 S0 M0 w0 st o a w g){f:Nat}{X:Ax.X}{Xs:List Ax.X}{kk:St→Prop}(ho:o.op=.call c)(hc:c.callee=.value (.func f))(hl:c.args.size=c.argTypes.size)
  (hx:(c.args.toList.zip c.argTypes.toList).mapM (fun p=>fY P p.2 p.1)=some (X::Xs)) (hq:I1 (st.ev X) P o.dst f (Xs.map st.ev) st kk):o.wp P a w (ip n0 S0 M0 w0 st.n kk) Q':=by
 have wP:=mu (g:=g) h.rep (by simpa using hl) hx;simp only[lC,fA]at wP;obtain⟨v,r,w8,uu,w9⟩:=wP;have hs:=h.sat;have th:n0≤w.heap.size:=by rw[hs.base];exact hs.size
 unfold I1 at hq
 split at hq
 ·next id e1=>
  unfold abh at hq
  split at hq
  ·next T E s gZ=>
   obtain⟨lw,ds,es,t,hd,hle,⟨lh,hA⟩,jm,hk⟩:=hq;have hm:=fB gZ;have hU:=h.us.each _ hm;simp only[hP]at hU;obtain⟨b,F,k1,k2,k3⟩:=hU;rw[e1]at uu;simp only[fx]at uu;obtain⟨T',E',s',b',x1,x2,rfl⟩:=uu;rw[k1]at x2;obtain rfl:=aQ x2;have rg:∀x∈b::F,x∈fp g st.us:=fun x hx=>fL.2 ⟨_,hm,by rw[k2];exact hx⟩;have ii:(b::F).Nodup:=by rw[←k2];exact gO h.us hm
   have hold:gM w.heap g.Sh es r:=tu h.us g.Sh w9 hd hle
    (fun av Pw hf => by
     have:=aY.1 lw av Pw;rw[hf]at this;cases this) (fun _ _ _ hb=>hb)
   have gk:(execOp a.eval o).run P w=.ok (.enter f (.pointer (some ⟨b,0,none⟩)::r).toArray) w:=by
    obtain⟨fn,h1,h2,h3⟩:=lh;have rX:¬fn.body=none:=by cases hb:fn.body<;>simp_all
    have um : ¬ fn.name = "runtime.NumGoroutine" := by simpa using h3
    have ea:(.pointer (some ⟨b,0,none⟩)::r).toArray=Array.map a.eval c.args:=by
     rw[←w8];apply aS;simp
    rw[ea];simp[execOp,ho,resolve,hc,Act.eval,Deferred.ofValue,invoke,callFunc,h1,rX,um]
   unfold Oper.wp;rw[gk,cL];refine(hA w r g.Sh b s F jm k3 (aP.1 ii).1 (fun x hx=>h.us.fz x (rg x hx)) (fun x hx HX=>(h.us.sh x hx).2.2 (rg x HX)) hold).mono ?_;rintro e w' ⟨⟨v',rfl⟩,p1,p2,p3,p4,p5,F',p6,p7,p8⟩;obtain⟨s7,yZ⟩:=h.us.sbu (h':=w'.heap) hm k1 k2 p4 p5 p6 p7 p8 th;have KP:ju n0 S0 M0 w0 (st.mc id (.sb T E (s++t))) a w':=by
    refine⟨hs.ms,hs.mS,hs.tm,hs.base,p1.trans hs.os,p2.trans hs.tape,p3.trans hs.output,bX hs.size p4,?_,_,s7,fun t=>gT (fun av v hf hr=>yZ av v hf hr) (h.rep t)⟩;intro x hx yO;rw[←hs.iD x hx yO];exact p5 x (by omega) fun HX=>yO (h.us.low x (rg x HX) hx)
   refine⟨_,?_,hk,gW KP s7 (fun t=>gT (fun av v hf hr=>yZ av v hf hr) (h.rep t)) h.dst (by simp[fx])⟩;cases o.dst<;>rfl
  exact hq.elim
 exact hq.elim
def abq(h:At n0 S0 M0 w0 st o a w g){f d:Nat}{X:Ax.X}{kk:St→Prop}(ho:o.op=.call c)(hc:c.callee=.value (.func f))(hl:c.args.size=c.argTypes.size)
  (hx:(c.args.toList.zip c.argTypes.toList).mapM (fun p=>fY P p.2 p.1)=some [X]) (hd:o.dst=some d) (hq:Jx (st.ev X) P d f st kk):o.wp P a w (ip n0 S0 M0 w0 st.n kk) Q':=by
 have wP:=mu (g:=g) h.rep (by simpa using hl) hx;simp only[lC,lN,fA]at wP;obtain⟨v,r,w8,uu,rfl⟩:=wP;have hs:=h.sat;unfold Jx at hq
 split at hq
 ·next id e1=>
  unfold acU at hq
  split at hq
  ·next T E s gZ=>
   obtain⟨⟨lh,hA⟩,hk⟩:=hq;have hm:=fB gZ;have hU:=h.us.each _ hm;simp only[hP]at hU;obtain⟨b,F,k1,k2,k3⟩:=hU;rw[e1]at uu;simp only[fx]at uu;obtain⟨T',E',s',b',x1,x2,rfl⟩:=uu;rw[k1]at x2;obtain rfl:=aQ x2;have rg:∀x∈b::F,x∈fp g st.us:=fun x hx=>fL.2 ⟨_,hm,by rw[k2];exact hx⟩;have ii:(b::F).Nodup:=by rw[←k2];exact gO h.us hm
   have gk:(execOp a.eval o).run P w=.ok (.enter f #[.pointer (some ⟨b,0,none⟩)]) w:=by
    obtain⟨fn,h1,h2,h3⟩:=lh;have rX:¬fn.body=none:=by cases hb:fn.body<;>simp_all
    have um : ¬ fn.name = "runtime.NumGoroutine" := by simpa using h3
    have ea: #[.pointer (some ⟨b,0,none⟩)]=Array.map a.eval c.args:=by
     apply aS;simpa using w8.symm
    rw[ea];simp[execOp,ho,resolve,hc,Act.eval,Deferred.ofValue,invoke,callFunc,h1,rX,um]
   unfold Oper.wp;rw[gk,cL];refine(hA w b s F k3 (aP.1 ii).1).mono ?_;rintro e w' ⟨rfl,p1,p2,p3,p4,p5⟩;obtain⟨GN,hK1⟩:=h.us.del id;have AW:=np h.us hm;have hH:∀x,x∈fp (g.drop id) (fQ id (AV.refs id) st.us)→x∈fp g st.us:=fun x hx=>(iM (g:=g) (g':=g.drop id) (fun j hj=>by simp[Gh.drop,hj])).subset hx;have te:∀x,x∈fp (g.drop id) (fQ id (AV.refs id) st.us)∨g.Sh x→w'.heap[x]?=w.heap[x]?:=by
    intro x hx;rcases hx with hx|hx
    ·exact p5 x (h.us.lt x (hH x hx)) fun HX=>AW x (by rw[k2];exact HX) hx
    exact p5 x (h.us.sh x hx).1 fun HX=>(h.us.sh x hx).2.2 (rg x HX)
   have s7:gr w'.heap n0 S0 M0 (fQ id (AV.refs id) st.us) (g.drop id)∧∀av x,fx w.heap (fQ id (AV.refs id) st.us) (g.drop id) av x→fx w'.heap (fQ id (AV.refs id) st.us) (g.drop id) av x:=by
    have hb:∀x∈fQ id (AV.refs id) st.us,∀b,(g.drop id).β x.1=some b→w'.heap[b]?=w.heap[b]?:=fun x hx b AS=>te b (.inl (fL.2 ⟨x,hx,(GN.each x hx).iZ AS⟩));have zx:∀t d F cs,f8 w.heap d F cs→(∀b∈F,(g.drop id).ok t b)→f8 w'.heap d F cs∧∀b∈F,(g.drop id).ok t b:=by
     intro t d F cs hr hF;refine⟨hr.frame fun x hx=>?_,hF⟩;rcases hF x hx with h1|⟨i,rfl,h1,_⟩
     exact te x (.inr h1);obtain⟨u,hu⟩:=GN.live h1;exact te x (.inl (fL.2 ⟨_,hu,h1⟩))
    refine⟨⟨GN.keys,GN.nodup,fun x hx=>fj (GN.lt x hx) p4,GN.low,GN.dead,fun x hx=>?_,fun x hx=>?_,fun x hx=>?_,GN.ww⟩,fun av x hr=>hr.fr (fun y hy=>hy) hb (fun _ _=>⟨rfl,rfl,rfl⟩) zx⟩;obtain⟨q1,q2,q3⟩:=GN.sh x hx;exact⟨fj q1 p4,q2,q3⟩
    ·exact(GN.each x hx).fr hx (fun y hy=>hy) hb (fun _ _=>⟨rfl,rfl,rfl⟩) zx rfl (fun b P2=>te b (.inl (fL.2 ⟨x,hx,P2⟩))) (fun b P2=>⟨P2,te b (.inr P2)⟩)
    exact(GN.fz x hx).eq (te x (.inl hx))
   have iF:∀t,fx w'.heap (st.del id).us (g.drop id) (lk (st.del id).env t) (a.tmps.getD t undef):=fun t=>
    gT (fun av v hf hr=>s7.2 _ _ (fx.iq hK1 hf hr)) (h.rep t)
   have KP:ju n0 S0 M0 w0 (st.del id) a w':=by
    refine⟨hs.ms,hs.mS,hs.tm,hs.base,p1.trans hs.os,p2.trans hs.tape,p3.trans hs.output,bX hs.size p4,?_,_,s7.1,iF⟩;intro x hx yO;rw[←hs.iD x hx yO];have th:n0≤w.heap.size:=by rw[hs.base];exact hs.size
    exact p5 x (by omega) fun HX=>yO (h.us.low x (rg x HX) hx)
   have:=gW KP s7.1 iF (d:=o.dst) (fun i hi=>h.dst i hi) (g8 (t:=none) (v:=.string s) rfl);rw[hd]at this⊢;exact⟨(st.del id).set d (.im none (.sc (.string s))),rfl,hk,this⟩
  exact hq.elim
 exact hq.elim
end Go.Ax
