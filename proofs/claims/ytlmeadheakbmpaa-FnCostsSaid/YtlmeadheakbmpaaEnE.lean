/- THE ENGINE, PART 5: a generator of conditions over the register code, and its soundness. No condition. -/
import Derived.Test.YtlmeadheakbmpaaEnD
set_option linter.all false
namespace Go.Ax
variable {P:Program}{n0:Nat}{S0 M0:Nat→Prop}{w0:World}
variable {st:St}{o:Oper}{a:Act}{w:World}{k:KQ}{Q':Exit→Act→World→Prop}{g:Gh}
structure NS (k:Nat) (f:AV→Bool) (h h':jv) (us us':List (Nat×U)) (g g':Gh):Prop extends Keep k f h h' us us' g g' where
 own:∀d,(k,U.own d)∈us→∃d',(k,U.own d')∈us'
 ar:∀ow nn sz es,(k,U.ar ow nn sz es)∈us→∃ow' jR es',(k,U.ar ow' jR sz es')∈us'∧es'.length=es.length
 bx:∀sz items,(k,U.bx sz items)∉us
 sb:∀T E s,(k,U.sb T E s)∈us→∃s',(k,U.sb T E s')∈us'
 same:g'.β k=g.β k∧g'.root k=g.root k∧g'.cap k=g.cap k
variable {f:AV→Bool}{g':Gh}{h h':jv}{us us':List (Nat×U)}
mutual
def fN.Bp{k:Nat}{g:Gh}(H:NS k f h h' us us' g g'):∀{av:AV} {v:Value},av.soft k=false→fN h us g av v→fN h' us' g' av v
 |.im t d,v,hf,hr=>fN.jB H.toKeep (by simpa[AV.refs,AV.soft]using hf) hr
 |.cw i el j sz agg,v,hf,hr=>fN.jB H.toKeep (by simpa[AV.refs,AV.soft]using hf) hr
 |.tr i,v,_,hr=>by
  by_cases e:i=k
  ·subst e;simp only[fN]at hr⊢;obtain⟨⟨d,hd⟩,hv⟩:=hr;exact⟨H.own d hd,by rw[H.same.2.1];exact hv⟩
  exact fN.jB H.toKeep (by simpa[AV.refs]using e) hr
 |.pw i el j,v,_,hr=>by
  by_cases e:i=k
  ·subst e;simp only[fN]at hr⊢;obtain⟨XO,Ed,ON,t9,b,q1,q2,q3,q4,q5⟩:=hr;obtain⟨ow',jR,es',h3,h4⟩:=H.ar _ _ _ _ q1;exact⟨ow',jR,_,es',b,h3,by omega,q3,by rw[H.same.1];exact q4,q5⟩
  exact fN.jB H.toKeep (by simpa[AV.refs]using e) hr
 |.sm i off len,v,_,hr=>by
  by_cases e:i=k
  ·subst e;simp only[fN]at hr⊢;obtain⟨XO,Ed,ON,t9,q1,q2,q3⟩:=hr;obtain⟨ow',jR,es',h3,h4⟩:=H.ar _ _ _ _ q1;refine⟨ow',jR,_,es',h3,by omega,?_⟩;rw[H.same.1,H.same.2.2];exact q3
  exact fN.jB H.toKeep (by simpa[AV.refs]using e) hr
 |.vb i len,v,_,hr=>by
  by_cases e:i=k;subst e;simp only[fN]at hr;obtain⟨ON,items,b,q1,_⟩:=hr;exact absurd q1 (H.bx _ _);exact fN.jB H.toKeep (by simpa[AV.refs]using e) hr
 |.sg vs,v,hf,hr=>by
  simp only[AV.soft]at hf;simp only[fN]at hr⊢;obtain⟨xs,h1,h2⟩:=hr;exact⟨xs,fT.Bp H hf h1,h2⟩
 |.lf vs,v,hf,hr=>by
  simp only[AV.soft]at hf;simp only[fN]at hr⊢;obtain⟨xs,h1,h2⟩:=hr;exact⟨xs,h1,fT.Bp H hf h2⟩
 |.any,_,_,_=>by simp[fN]
 |.cl f vs,v,hf,hr=>by
  simp only[AV.soft]at hf;simp only[fN]at hr⊢;obtain⟨xs,h1,h2⟩:=hr;exact⟨xs,fT.Bp H hf h1,h2⟩
 |.pq i el j iE jj j',v,hf,hr=>fN.jB H.toKeep (by simpa[AV.refs,AV.soft]using hf) hr
 |.qs i el j iE off len,v,hf,hr=>fN.jB H.toKeep (by simpa[AV.refs,AV.soft]using hf) hr
 |.ss i off len,v,_,hr=>by
  by_cases e:i=k
  ·subst e;simp only[fN]at hr⊢;obtain⟨XO,Ed,ON,t9,q1,q2,q3⟩:=hr;obtain⟨ow',jR,es',h3,h4⟩:=H.ar _ _ _ _ q1;refine⟨ow',jR,_,es',h3,by omega,?_⟩;rw[H.same.1,H.same.2.2];exact q3
  exact fN.jB H.toKeep (by simpa[AV.refs]using e) hr
 |.z0 _ _,v,_,hr=>by simpa[fN]using hr
 |.pb i j,v,_,hr=>by
  by_cases e:i=k;subst e;simp only[fN]at hr;obtain⟨ON,items,b,q1,_⟩:=hr;exact absurd q1 (H.bx _ _);exact fN.jB H.toKeep (by simpa[AV.refs]using e) hr
 |.ps i,v,_,hr=>by
  by_cases e:i=k
  ·subst e;simp only[fN]at hr⊢;obtain⟨T,E,s,b,q1,q2,q3⟩:=hr;obtain⟨s',h3⟩:=H.sb _ _ _ q1;exact⟨T,E,s',b,h3,by rw[H.same.1];exact q2,q3⟩
  exact fN.jB H.toKeep (by simpa[AV.refs]using e) hr
def fT.Bp{k:Nat}{g:Gh}(H:NS k f h h' us us' g g'):∀{as:List AV} {vs:List Value},AV.py k as=false→fT h us g as vs→fT h' us' g' as vs
 | [],_,_,hr=>by simpa[fT]using hr
 |a::as,vs,hf,hr=>by
  simp only[AV.py,ck]at hf;simp only[fT]at hr⊢;obtain⟨v,r,h1,h2,h3⟩:=hr;exact⟨v,r,h1,fN.Bp H hf.1 h2,fT.Bp H hf.2 h3⟩
end
variable {u:U}
def gQ.alu{us:List (Nat×U)}(hu:gQ h n0 S0 M0 us g){k:Nat}{u':U}(hm:(k,u)∈us)(jP:h.size≤h'.size)(hh:∀b,b<h.size→b∉g.φ k→h'[b]?=h[b]?)
  (lF:(∃d d',u=.own d∧u'=.own d')∨∃ow nn sz es ow' es',u=.ar ow nn sz es∧u'=.ar ow' nn sz es'∧es'.length=es.length)
  {φ:List Nat} (kn:φ.Nodup) (hφ:∀b∈φ,(b∈g.φ k∨(b<h'.size∧(b<n0→M0 b)∧¬g.Sh b∧b∉fp g us))∧t7 h' b) (ho:jn h' ((k,u')::gu k (AV.soft k) us) (g.oH k φ) k u'):
  gQ h' n0 S0 M0 ((k,u')::gu k (AV.soft k) us) (g.oH k φ)∧∀av v,av.soft k=false→fN h us g av v→fN h' ((k,u')::gu k (AV.soft k) us) (g.oH k φ) av v:=by
 have Xh:∀i,i≠k→(g.oH k φ).φ i=g.φ i:=fun i hi=>by simp[Gh.oH,hi]
 have XQ:(g.oH k φ).φ k=φ:=by simp[Gh.oH]
 have Nv:∀x∈g.φ k,x∈fp g us:=fun x hx=>gn.2 ⟨_,hm,hx⟩;have pA:∀i v,(i,v)∈us→i≠k→∀x∈g.φ i,h'[x]?=h[x]?:=by
  intro i v h1 h2 x hx;exact hh x (hu.lt x (gn.2 ⟨_,h1,hx⟩)) fun H1=>h2 (iA hu.keys hu.nodup h1 hm hx H1)
 have Nq:∀x,g.Sh x→h'[x]?=h[x]?:=fun x hx=>hh x (hu.sh x hx).1 fun H1=>(hu.sh x hx).2.2 (Nv x H1);have H:NS k (AV.soft k) h h' us ((k,u')::gu k (AV.soft k) us) g (g.oH k φ):=by
  refine {mem:=fun i u h1 h2=>bg _ (jT h1 h2),β:=fun i hi=>⟨rfl,rfl,rfl⟩,gX:=?_,im:=?_,own:=?_,ar:=?_,bx:=?_,sb:=?_,same:=⟨rfl,rfl,rfl⟩};intro i u x h1 h2 h3;exact pA i u h1 h2 x ((hu.each _ h1).kr h3)
  ·intro t d F cs ht hr kA;have hx:∀x∈F,h'[x]?=h[x]?:=by
    intro x hx;rcases kA x hx with h1|⟨i,rfl,h1,_⟩
    exact Nq x h1;obtain⟨v,hv⟩:=hu.live h1;exact pA i v hv (by rintro rfl;exact ht rfl) x h1
   refine⟨hr.frame hx,fun x hx=>?_⟩;rcases kA x hx with h1|⟨i,rfl,h1,h2⟩
   exact .inl h1;exact .inr ⟨i,rfl,by rw[Xh i (by rintro rfl;exact ht rfl)];exact h1,h2⟩
  ·intro d hd;rcases lF with⟨d1,d2,rfl,rfl⟩|⟨ow,nn,sz,es,ow',es',rfl,rfl,_⟩
   ·exact⟨d2,by simp⟩
   have:=hu.uniq hm hd;cases this
  ·intro ow nn sz es hd;rcases lF with⟨d1,d2,rfl,rfl⟩|⟨XO,Ed,ON,t9,ow',es',rfl,rfl,hl⟩
   have:=hu.uniq hm hd;cases this;have:=hu.uniq hm hd;injection this with z1 z2 z3 z4;subst z1 z2 z3 z4;exact⟨ow',Ed,es',by simp,hl⟩
  ·intro sz items hd;have:=hu.uniq hm hd;subst this;rcases lF with⟨d1,d2,e1,_⟩|⟨XO,Ed,ON,t9,ow',es',e1,_⟩<;>cases e1
  intro T E s hd;have:=hu.uniq hm hd;subst this;exfalso;rcases lF with⟨d1,d2,e1,_⟩|⟨XO,Ed,ON,t9,ow',es',e1,_⟩<;>cases e1
 have hV:∀av v,av.soft k=false→fN h us g av v→fN h' ((k,u')::gu k (AV.soft k) us) (g.oH k φ) av v:=fun av v hf hr=>fN.Bp H hf hr;have jS:=kw (f:=AV.soft k) Xh (us:=us);have j7:fp (g.oH k φ) ((k,u')::gu k (AV.soft k) us)=φ++fp (g.oH k φ) (gu k (AV.soft k) us):=by
  simp only[fp,bX,XQ]
 have HX:∀x∈fp (g.oH k φ) (gu k (AV.soft k) us),∃y∈us,y.1≠k∧x∈g.φ y.1:=by
  intro x hx;obtain⟨y,hy,kZ⟩:=gn.1 hx;obtain⟨g9,u,h1,h2⟩:=gF hy;exact⟨_,h1,g9,by rw[Xh _ g9]at kZ;exact kZ⟩
 have iy:∀x∈fp (g.oH k φ) ((k,u')::gu k (AV.soft k) us),x∈fp g us∨(x<h'.size∧(x<n0→M0 x)∧¬g.Sh x):=by
  intro x hx;rw[j7]at hx;rcases an.1 hx with hx|hx
  ·exact(hφ x hx).1.elim (fun h=>.inl (Nv x h)) (fun h=>.inr ⟨h.1,h.2.1,h.2.2.1⟩)
  exact .inl (jS.subset hx)
 have Ek:u'.kb=true→u.kb=true:=by
  intro e;rcases lF with⟨d1,d2,rfl,rfl⟩|⟨XO,Ed,ON,t9,ow',es',rfl,rfl,_⟩
  cases e;exact U.na.2 (U.na.1 e)
 refine⟨⟨?_,?_,?_,?_,?_,?_,?_,?_,hu.AB.OO hm (fun _=>⟨rfl,rfl⟩) Ek⟩,hV⟩
 ·simp only[lC,aH,gI];exact⟨by simp[aQ],hu.keys.filter _⟩
 ·rw[j7,aX];refine⟨kn,jS.nodup hu.nodup,?_⟩;rintro x hx y hy rfl;obtain⟨z,hz,g9,xS⟩:=HX x hy;rcases(hφ x hx).1 with h1|h1
  exact g9 (iA hu.keys hu.nodup hz hm xS h1);exact h1.2.2.2 (gn.2 ⟨z,hz,xS⟩)
 ·intro x hx;rcases iy x hx with h1|h1
  have:=hu.lt x h1;omega;exact h1.1
 ·intro x hx iq;rcases iy x hx with h1|h1
  exact hu.low x h1 iq;exact h1.2.1 iq
 ·intro i hi;simp only[lC,ab,cj,gI]at hi;rw[Xh i hi.1];exact hu.dead i fun XR=>hi.2 (by simp[aQ,XR,hi.1])
 ·intro x hx;have hx:g.Sh x:=hx;obtain⟨q1,q2,q3⟩:=hu.sh x hx;exact⟨by omega,q2,fun h1=>(iy x h1).elim q3 (fun h2=>h2.2.2 hx)⟩
 ·intro x hx;rcases ab.1 hx with rfl|hx
  exact ho;obtain⟨g9,u,h1,h2⟩:=gF hx;rw[h2];exact(hu.each _ h1).jB H.toKeep (fun av hf=>.inr fun v hr=>hV av v hf hr) h1 g9 (Xh _ g9) (fun x hx=>pA _ _ h1 g9 x hx) (fun x hx=>⟨hx,Nq x hx⟩)
 intro x hx;rw[j7]at hx;rcases an.1 hx with hx|hx
 exact(hφ x hx).2;obtain⟨z,hz,g9,xS⟩:=HX x hx;obtain⟨c,e,hc⟩:=hu.fz x (gn.2 ⟨z,hz,xS⟩);exact⟨c,e,by rw[pA z.1 z.2 hz g9 x xS];exact hc⟩
def gQ.mut(hu:gQ h n0 S0 M0 us g){k:Nat}{u':U}(hm:(k,u)∈us)(jP:h.size≤h'.size)(hh:∀b,b<h.size→b∉g.φ k→h'[b]?=h[b]?)
  (lF:(∃d d',u=.own d∧u'=.own d')∨∃ow nn sz es ow' es',u=.ar ow nn sz es∧u'=.ar ow' nn sz es'∧es'.length=es.length)
  {φ:List Nat} (kn:φ.Nodup) (hφ:∀b∈φ,b∈g.φ k∧t7 h' b) (ho:jn h' ((k,u')::gu k (AV.soft k) us) (g.oH k φ) k u'):
  gQ h' n0 S0 M0 ((k,u')::gu k (AV.soft k) us) (g.oH k φ)∧∀av v,av.soft k=false→fN h us g av v→fN h' ((k,u')::gu k (AV.soft k) us) (g.oH k φ) av v:=
 hu.alu hm jP hh lF kn (fun b hb=>⟨.inl (hφ b hb).1,(hφ b hb).2⟩) ho
def Gh.shr(g:Gh)(b:Nat):Gh:={g with Sh:=fun x=>g.Sh x∨x=b}
variable {b:Nat}
def gQ.shr{h:jv}{us:List (Nat×U)}{g:Gh}(hu:gQ h n0 S0 M0 us g)(hb:b<h.size)(hS:b<n0→S0 b)(hn:b∉fp g us):gQ h n0 S0 M0 us (g.shr b)∧
  ∀av x,fN h us g av x→fN h us (g.shr b) av x:=by
 have kA:∀t x,x<h.size→g.ok t x→(g.shr b).ok t x:=by
  intro t x _ hx;rcases hx with hx|hx
  exact .inl (.inl hx);exact .inr hx
 refine⟨⟨hu.keys,hu.nodup,hu.lt,hu.low,hu.dead,?_,?_,hu.fz,hu.AB⟩,fun av x hr=>fN.mono (h:=h) (h':=h) (us:=us) (us':=us) (g:=g) (g':=g.shr b) (fun _ h=>h) (fun _ _=>rfl) (fun _ _=>⟨rfl,rfl,rfl⟩) kA hr⟩
 ·intro x hx;rcases hx with hx|rfl
  exact hu.sh x hx;exact⟨hb,hS,hn⟩
 intro x hx;exact jn.mono (h:=h) (h':=h) (us:=us) (us':=us) (g:=g) (g':=g.shr b) hx (fun _ h=>h) (fun _ _=>rfl) (fun _ _=>⟨rfl,rfl,rfl⟩) rfl (fun _ _ h=>.inl h) kA (hu.each x hx)
variable {es:List D}
def Hd{el:Nat}{x:D}(h:el<es.length):D.at (es.set el x) el=x:=by
 simp[D.at,h]
variable {d e:D}{j usz:Nat}
def ZA{x:D}(hj:j+1≤usz)(hx:x.fX=false)(hu:e.size=usz)(hw:j=0∧usz=1∨e.fX=true)(Ei:e.fX=true→∀l,e=.ag l→l.length=usz):D.put usz (D.put usz e j 1 x) j 1 d=D.put usz e j 1 d:=by
 by_cases h0:j=0∧1=usz;simp[D.put,h0]
 have h1:¬(j=0∧usz=1):=fun h=>h0 ⟨h.1,h.2.symm⟩;have hA:=hw.resolve_left h1;cases e with
 |ag l=>
  have hl:=Ei rfl l rfl;have hc:x.cells=[x]:=by cases x<;>simp_all [D.cells,D.fX]
  have e1:(List.take j l++[x]).length=j+1:=by simp;omega
  simp only[D.put,h0,aA,hc];congr 1;congr 1
  ·rw[bC,dC (by simp;omega),c9,Nat.min_self]
  rw[←e1,List.drop_left]
 |_=>simp[D.fX]at hA
def TW{q:D}(hj:j+1≤usz)(hq:D.sub e j 1 false=q)(hqa:q.fX=false)(hw:j=0∧usz=1∧e.fX=false∨e.fX=true∧usz≠1)(Ei:∀l,e=.ag l→l.length=usz):D.put usz e j 1 q=e:=by
 cases e with
 |ag l=>
  have hl:=Ei l rfl;have iq:j<l.length:=by omega
  simp only[D.sub,mI,aA]at hq;have hg:l.getD j default=l[j]:=by simp[List.getD,bb iq]
  rw[hg]at hq;subst hq;have hc:(l[j]).cells=[l[j]]:=by
   generalize l[j]=x at hqa;cases x<;>simp_all [D.cells,D.fX]
  have h0:¬(j=0∧1=usz):=by
   rcases hw with⟨_,_,h⟩|⟨_,h⟩
   simp[D.fX]at h;exact fun h'=>h h'.2.symm
  simp only[D.put,h0,aA,hc];congr 1;rw[bC,List.singleton_append,List.getElem_cons_drop,bu]
 |_=>
  simp only[D.sub]at hq;subst hq;have h1:j=0∧1=usz:=by
   rcases hw with h|h
   exact⟨h.1,h.2.1.symm⟩;simp[D.fX]at h
  simp[D.put,h1]
variable {F:List Nat}
def SP{cs:List Value}(hr:gJ h e F cs)(hu:e.size=usz):∀l,e=.ag l→l.length=usz:=by
 rintro l rfl;simp only[gJ]at hr;rw[←hu,D.size,D.lr hr.1]
variable {nn:Option Bool}
def gQ.inner(hu:gQ h n0 S0 M0 us g){k el j iE:Nat}{jR:Option Bool}{ds:List D}(hm:(k,U.ar true nn usz es)∈us)(hb:g.β k=some b)
  (pz:el<es.length) (hj:j+1≤usz) (hw:j=0∧usz=1∧(D.at es el).fX=false∨(D.at es el).fX=true∧usz≠1) (hd:D.sub (D.at es el) j 1 false=.ls jR iE ds) {c:Array Value} {e:TypeId} (hc:h[b]?=some (.cells c e (0,0)))
  {b' off' len' cap':Nat} (W4:c[el*usz+j]?=some (.slice (some ⟨b',off',none⟩) len' cap')) (g9:ds≠[]):
  ∃c' e' F1,len'=ds.length∧h[b']?=some (.cells c' e' (0,0))∧b'≠b∧off'+cap'*iE≤c'.size∧ds.length≤cap'∧ds.length≤gz∧(∀d∈ds,d.size=iE)∧gt h ds F1 ((c'.toList.drop off').take (ds.length*iE))∧b'∈g.φ k∧
   ∀(h':jv)(c'':Array Value)(SC:List D)(F2:List Nat),h'.size=h.size→h'[b']?=some (.cells c'' e' (0,0))→(∀x,x≠b'→h'[x]?=h[x]?)→c''.size=c'.size→SC.length=ds.length→(∀d∈SC,d.size=iE)→F2.Sublist F1→
    gt h SC F2 ((c''.toList.drop off').take (ds.length*iE))→∃g',gQ h' n0 S0 M0 ((k,.ar true nn usz (lj es usz el j (.ls jR iE SC)))::gu k (AV.soft k) us) g'∧
     ∀av v,av.soft k=false→fN h us g av v→fN h' ((k,.ar true nn usz (lj es usz el j (.ls jR iE SC)))::gu k (AV.soft k) us) g' av v:=by
 have ho:=hu.each _ hm;simp only[jn]at ho;obtain⟨nJ,hs,ho⟩:=ho;rcases ho with⟨z1,_⟩|⟨b0,c0,e0,G,cs,rest,k1,k2,k3,k4,k5,k6,k7,k8⟩
 rw[hb]at z1;cases z1;rw[hb]at k1;obtain rfl:=aD k1;rw[hc]at k2;injection k2 with k2;injection k2 with k2 k2';subst k2 k2';simp only[ay]at k8;have jP:(D.at es el).size=usz:=by rw[D.qL pz];exact hs _ (aF pz)
 have EA:j=0∧1=usz∨(D.at es el).fX=true:=hw.elim (fun h=>.inl ⟨h.1,h.2.1.symm⟩) (fun h=>.inr h.1);have hle:el*usz+usz≤es.length*usz:=by
  have:=aZ usz (show el+1≤es.length by omega);rw[aT]at this;omega
 have rh:=k6.length;rw[D.gk hs]at rh;have afC:cs[el*usz+j]?=some (.slice (some ⟨b',off',none⟩) len' cap'):=by
  have h1:c.toList[el*usz+j]?=some (.slice (some ⟨b',off',none⟩) len' cap'):=by rw[cE];exact W4
  rw[k3,bL (by omega)]at h1;exact h1
 generalize pR:Value.slice (some ⟨b',off',none⟩) len' cap'=cell at W4 afC;have hjk:gJ h D.jk [] [cell]:=by
  simp only[gJ];exact⟨trivial,cell,rfl,by rw[←pR];rfl⟩
 obtain⟨A,B,C,rfl,y1,y2,y3⟩:=uo k6 hjk hs pz (sz:=1) (by simp[D.size]) hj EA;have y3:=y3 false (by simp) (by simp);have Xi:(cs.drop (el*usz+j)).take 1=[cell]:=by
  have iq:el*usz+j<cs.length:=(bj.1 afC).1;rw[cL iq];have:=(bj.1 afC).2;simp[this]
 have KW:cs.take (el*usz+j)++([cell]++cs.drop (el*usz+j+1))=cs:=by
  have e1:cs.drop (el*usz+j+1)=(cs.drop (el*usz+j)).drop 1:=by rw[cx]
  rw[←Xi,e1,bu,bu]
 rw[KW]at y1;rw[Xi,hd]at y3;simp only[gJ]at y3;rcases y3 with⟨p,q1,q2,_⟩|⟨b1,o1,EX,c',e',fr,F1,q1,rfl,q3,q4,q5,q6,q7,q8,q9⟩
 exact absurd q2 g9;rw[←pR]at q1;simp only[cu,dK,oS,Addr.mk.injEq,bY]at q1;obtain⟨⟨rfl,rfl⟩,rfl,rfl⟩:=q1;have kn:=iZ hu hm;rw[k8]at kn;have hφin:∀x∈b::(A++(b'::F1++C)),x∈fp g us:=fun x hx=>gn.2 ⟨_,hm,by rw[k8];exact hx⟩;have afD:b'∈g.φ k:=by rw[k8];simp
 obtain⟨cz,ez,hz⟩:=hu.fz b' (gn.2 ⟨_,hm,afD⟩);rw[q6]at hz;injection hz with hz;injection hz with OQ hz2 hz3;subst hz3;have hbb:b'≠b:=by
  rintro rfl;exact(aH.1 kn).1 (by simp)
 refine⟨c',e',F1,rfl,q6,hbb,q7,q4,q5,q8,q9,afD,?_⟩;intro h' c'' SC F2 hhs hhb hh sC Ek Eb jS hr2;have hAC:∀x∈A++([]++C),x≠b':=by
  rintro x hx rfl;rw[aH,aX,bf,aH]at kn;rcases an.1 hx with hx|hx
  exact kn.2.2.2 x hx x (by simp) rfl;exact kn.2.2.1.1 (by simp at hx;simp[hx])
 have alv:b'∉F1:=by
  intro hx;rw[aH,aX,bf,aH]at kn;exact kn.2.2.1.1 (by simp[hx])
 have y1':gt h' (es.set el (D.put usz (D.at es el) j 1 D.jk)) (A++([]++C)) cs:=y1.frame fun x hx=>hh x (hAC x hx);have Eg:gJ h' (.ls jR iE SC) (b'::F2) [cell]:=by
  simp only[gJ];refine .inr ⟨b',off',cap',c'',e',(0,0),F2,by rw[←pR,Ek],rfl,q3,by omega,by omega,hhb,by omega,Eb,?_⟩;rw[Ek];exact hr2.frame fun x hx=>hh x (fun e=>alv (e▸jS.subset hx))
 have alw:el<(es.set el (D.put usz (D.at es el) j 1 D.jk)).length:=by simpa using pz
 have ahP:∀l,D.at es el=.ag l→l.length=usz:=by
  have:=k6.pick pz;obtain⟨_,F2',_,_,c2,_,_,_,_,r2,_⟩:=this;rw[D.qL pz];rw[D.qL pz]at jP;exact SP r2 jP
 have hpp:D.put usz (D.put usz (D.at es el) j 1 D.jk) j 1 (.ls jR iE SC)=D.put usz (D.at es el) j 1 (.ls jR iE SC):=
  ZA hj rfl jP (hw.elim (fun h=>.inl ⟨h.1,h.2.1⟩) (fun h=>.inr h.1)) (fun _=>ahP)
 have hw2:j=0∧1=usz∨(D.at (es.set el (D.put usz (D.at es el) j 1 D.jk)) el).fX=true:=by
  rw[Hd pz];rcases hw with h1|h1
  exact .inl ⟨h1.1,h1.2.1.symm⟩
  right
  have h0:¬(j=0∧1=usz):=fun h=>h1.2 h.2.symm;cases hE:D.at es el with
  |ag l=>simp[D.put,h0,D.fX]
  |_=>rw[hE]at h1;simp[D.fX]at h1
 obtain⟨A2,B2,C2,ahQ,z1,z2,z3⟩:=uo y1' Eg y2 alw (sz:=1) (by simp[D.size]) hj hw2;have z3:=z3 false (by simp) (by simp);rw[Xi,Hd pz]at z3;have hB2:B2=[]:=by
  have:D.sub (D.put usz (D.at es el) j 1 D.jk) j 1 false=D.jk:=by
   by_cases h0:j=0∧1=usz;simp[D.put,h0,D.sub]
   have h1:=EA.resolve_left h0;cases hE:D.at es el with
   |ag l=>
    have hl:=ahP l hE;simp only[D.put,h0,aA,D.sub,mI,D.cells];rw[bC,aE,dA (by simp;omega)];simp;rw[show j-min j l.length=0 by omega]
    rfl
   |_=>rw[hE]at h1;simp[D.fX]at h1
  rw[this]at z3;simp only[gJ]at z3;exact z3.1
 subst hB2;rw[KW,Hd pz,hpp,List.set_set]at z1;rw[Hd pz,hpp,List.set_set]at z2;simp only[be]at ahQ;have acx:(A2++((b'::F2)++C2)).Perm ((b'::F2)++(A++C)):=by
  rw[ahQ];exact(List.perm_append_comm_assoc _ _ _)
 have afE:(b::(A2++((b'::F2)++C2))).Nodup:=by
  refine(List.Perm.cons b acx).nodup_iff.2 ?_;have hp1:(b::(A++(b'::F1++C))).Perm (b::((b'::F1)++(A++C))):=List.Perm.cons b (List.perm_append_comm_assoc _ _ _);have:=hp1.nodup_iff.1 kn;refine eX ?_ this;exact List.Sublist.cons_cons _ (ew (List.Sublist.cons_cons _ jS) (dq _))
 have ahR:∀x∈b::(A2++((b'::F2)++C2)),x∈g.φ k:=by
  intro x hx;rw[k8];rcases ab.1 hx with rfl|hx
  simp;have:=acx.subset hx;simp only[an,ab]at this⊢;rcases this with(h1|h1)|h1|h1
  exact .inr (.inr (.inl (.inl h1)));exact .inr (.inr (.inl (.inr (jS.subset h1))));exact .inr (.inl h1);exact .inr (.inr (.inr h1))
 have alx:∀x∈b::(A2++((b'::F2)++C2)),t7 h' x:=by
  intro x hx
  by_cases e:x=b';subst e;exact⟨_,_,hhb⟩
  obtain⟨c1,e1,h1⟩:=hu.fz x (gn.2 ⟨_,hm,ahR x hx⟩);exact⟨c1,e1,by rw[hh x e];exact h1⟩
 have kA:jn h' ((k,.ar true nn usz (lj es usz el j (.ls jR iE SC)))::gu k (AV.soft k) us) (g.oH k (b::(A2++((b'::F2)++C2)))) k (.ar true nn usz (lj es usz el j (.ls jR iE SC))):=by
  simp only[jn,Gh.oH,ay];refine⟨by simpa[lj]using nJ,z2,.inr ⟨b,c,e,_,cs,rest,hb,by rw[hh b (cU hbb)];exact hc,k3,k4,by simpa[lj]using k5,z1,k7,rfl⟩⟩
 obtain⟨m1,m2⟩:=hu.mut (h':=h') hm (by omega) (fun x _ hx=>hh x (fun e=>hx (e▸afD))) (.inr ⟨true,nn,usz,es,true,lj es usz el j (.ls jR iE SC),rfl,rfl,by simp[lj]⟩) afE (fun x hx=>⟨ahR x hx,alx x hx⟩) kA;exact⟨_,m1,m2⟩
variable {x:Operand}{t:TypeId}
def ab5(h:At n0 S0 M0 w0 st o a w g){u1 u2:TypeId}{sz:Nat}{p:Operand}{A X:Ax.X}{f:St→Prop}(ho:o.op=.store t p x)(hd:o.dst=none)(hp:gG P u1 p=some A)(hx:gG P u2 x=some X)
  (hz:kx P t=some sz) (hq:abG (st.ev A) (st.ev X) st sz f):o.wp P a w (km n0 S0 M0 w0 st.n f) Q':=by
 by_cases g9:∀id el j iE jj j',st.ev A≠.pq id el j iE jj j';exact agF h g9 ho hd hp hx hz hq
 have ep:=h.ev_ hp;have ex:=h.ev_ hx;unfold abG at hq
 split at hq
 ·next id el j e1=>exact absurd (fun _ _ _ _ _ _=>by rw[e1];simp) g9
 ·next id el j iE jj j' e1=>
  rw[e1]at ep;simp only[fN]at ep;obtain⟨ow0,Sx,lX,KR,b,c,ty,b',off',len',cap',r1,r2,r3,r4,r5,r6,hv⟩:=ep;obtain⟨own,d,gp,g',F,hk,T,p1,p2,p3,p4,p5⟩:=rR 12 h.us (jK.refl h.us h.rep) ex hq;simp only[stD,stQ]at hk
  split at hk
  ·next nn usz es jm=>
   unfold stI at hk
   split at hk
   ·next jR gV ds ot=>
    obtain⟨⟨rfl,q1,q2,q3,q4,q5,q6,q7,q8⟩,hf⟩:=hk;have hm:=f7 jm;obtain⟨u0,Gz,lF⟩:=T.mem _ _ hm;have:=h.us.uniq Gz r1;subst this;simp only[U.xK]at lF;obtain⟨rfl,hlen⟩:=lF;obtain⟨gb,_,gc⟩:=T.gh _ _ hm;have hβ:g'.β id=some b:=by rw[gb];exact r4
    obtain⟨c',e',F1,rfl,i1,i2,i3,i4,imax,i5,i6,i8,i7⟩:=T.us.inner hm hβ q4 r3 q6 ot r5 r6 (by rintro rfl;simp at q5);have hF:F=[]:=jC q8 p1;subst hF;have Sy:(a.eval x).cells.size=sz:=by
     have:=p1.length;simp at this;omega
    have hle:jj*gV+gV≤ds.length*gV:=by
     have:=aZ gV (show jj+1≤ds.length by omega);rw[aT]at this;omega
    have afw:ds.length*gV≤cap'*gV:=aZ _ i4;have hH:=CY (P:=P) (w:=w) hz (off:=off'+jj*gV+j') Sy i1 (by omega) p1.one;have hw6:j'=0∧sz=gV∨(D.at ds jj).fX=true:=q7;obtain⟨A1,B1,C1,rfl,y1,y2,_⟩:=uo i6 p1 i5 q5 q1 q3 hw6;have hl6:=i6.length;have rh:((c'.toList.drop off').take (ds.length*gV)).length=ds.length*gV:=by simp;omega
    generalize jw:(c'.toList.take (off'+jj*gV+j')++(a.eval x).cells.toList++c'.toList.drop (off'+jj*gV+j'+sz)).toArray=c2 at hH;have OR:(a.eval x).cells.toList.length=sz:=by simpa using Sy
    have abY:c'.toList.length=c'.size:=by simp
    have Xj:c2.size=c'.size:=by
     rw[←jw];simp only[bB,lP,a8,ca,OR,abY];omega
    have ahS:(c2.toList.drop off').take (ds.length*gV)=((c'.toList.drop off').take (ds.length*gV)).take (jj*gV+j')++((a.eval x).cells.toList++((c'.toList.drop off').take (ds.length*gV)).drop (jj*gV+j'+sz)):=by
     rw[←jw]
     apply eQ
     intro i;simp only[dS,cZ,List.getElem?_append,a8,lP,ca,OR,abY];have z1:min (off'+jj*gV+j') c'.size=off'+jj*gV+j':=by omega
     have z2:min (jj*gV+j') (min (ds.length*gV) (c'.size-off'))=jj*gV+j':=by omega
     rw[z1,z2]
     by_cases g1:i<ds.length*gV
     ·rw[af g1]
      by_cases g2:i<jj*gV+j'
      ·rw[af (by omega),af (by omega),af (by omega),af g2,af g2,af g1]
      by_cases g3:i<jj*gV+j'+sz
      rw[af (by omega),ae (by omega),ae g2,af (by omega)];congr 1;omega;rw[ae (by omega),ae g2,ae (by omega),af (by omega)];congr 1;omega
     rw[ae g1,ae (by omega),ae (by omega),ae (by omega)]
    obtain⟨g2,Nn,W8⟩:=i7 (w.setRow b' c2).heap c2 (ds.set jj (D.put gV (D.at ds jj) j' sz d)) (A1++([]++C1)) (bW _ _ _) (db w b' c' _ e' _ i1) (fun y hy=>cm w b' y _ hy) Xj (by simp) y2
     (by simp only[be];exact ew (dq _) (eu _ _)) (by rw[ahS];exact y1)
    have pB:(execOp a.eval o).run P w=.ok .skip (w.setRow b' c2):=by
     simp[execOp,ho,hv,hH]
    unfold Oper.wp;rw[pB,eC,hd];have lW:=h.sat;refine⟨gp.ue id (.ar true nn lX (lj es lX el j (.ls jR gV (ds.set jj (D.put gV (D.at ds jj) j' sz d))))),T.n,hf,lW.ms,lW.v8,?_,lW.base,lW.os,lW.tape,lW.output,?_,?_,g2,Nn,fun t=>kp (fun av v hf hr=>W8 _ _ hf hr) (T.rep t)⟩
    ·show a.tmps.size=_
     rw[lW.tm];exact T.n.symm
    rw[bW];exact lW.size;intro y hy Ij;have:y≠b':=by
     rintro rfl;exact Ij (T.us.low y (gn.2 ⟨_,hm,i8⟩) hy)
    rw[cm w b' y _ this];exact lW.jL y hy Ij
   exact hk.elim
  exact hk.elim
 exact hq.elim
def gt.Ev{X:List D}{G:List Nat}{cs vc:List Value}{sz off:Nat}(hr:gt h es G cs)(hs:∀d∈es,d.size=sz)(hx:gt h X [] vc)(hl:off+X.length≤es.length)(hv:vc.length=X.length*sz):
  ∃G2,gt h (es.take off++(X++es.drop (off+X.length))) G2 (cs.take (off*sz)++(vc++cs.drop (off*sz+X.length*sz)))∧G2.Sublist G:=by
 have e:es=es.take off++((es.drop off).take X.length++(es.drop off).drop X.length):=by rw[bu,bu]
 have Ig:gt h (es.take off++((es.drop off).take X.length++(es.drop off).drop X.length)) G cs:=by rw[←e];exact hr
 obtain⟨F1,F23,c1,c23,rfl,rfl,s1,R2⟩:=Ig.split;obtain⟨F2,F3,c2,c3,rfl,rfl,s2,s3⟩:=R2.split;have l1:c1.length=off*sz:=by
  rw[s1.length,D.gk (sz:=sz) fun d hd=>hs d (aY hd),a8,bh (by omega)]
 have l2:c2.length=X.length*sz:=by
  rw[s2.length,D.gk (sz:=sz) fun d hd=>hs d (bt (aY hd)),a8,ca,bh (by omega)]
 refine⟨F1++([]++F3),?_,?_⟩
 ·rw[←l1,←l2];have e2:(c1++(c2++c3)).drop (c1.length+c2.length)=c3:=by rw[←bC,←lP,List.drop_left]
  rw[List.take_left,e2,←cx];exact s1.append (hx.append s3)
 simp only[be];exact ew (dq _) (eu _ _)
def IH{u e:TypeId}{sz:Nat}(ht:P.underlying t=some (.slice e))(hz:kx P e=some sz){ty:TypeId}{dst src:Value}{ao:Option Addr}{dl dc:Nat}(zb:dst=.slice ao dl dc){nn:Option Bool}{ds:List D}{F:List Nat}
  (vn:gJ w.heap (.ls nn sz ds) F [src]) (Lm:fO ds=true):
  ∃nc,gt w.heap (ds.take (min dl ds.length)) [] nc∧nc.length=min dl ds.length*sz∧
   (min dl ds.length=0→(Builtin.copy_ #[t,u] ty #[dst,src]).run P w=.ok (.int .i64 (min dl ds.length:Nat)) w)∧
   (0 < min dl ds.length → ∀ b off c e', ao = some ⟨b, off, none⟩ → w.heap[b]? = some (.cells c e' (0, 0)) → off + min dl ds.length * sz ≤ c.size →
    (Builtin.copy_ #[t,u] ty #[dst,src]).run P w=.ok (.int .i64 (min dl ds.length:Nat)) (w.setRow b (c.toList.take off++nc++c.toList.drop (off+min dl ds.length*sz)).toArray)):=by
 obtain⟨j,hj,XU⟩:∃j,P.info? e=some j∧j.size=sz:=by
  unfold kx at hz;cases hj:P.info? e with
  |none=>rw[hj]at hz;simp at hz
  |some j=>rw[hj]at hz;simp at hz;exact⟨j,rfl,hz⟩
 subst zb;simp only[gJ]at vn;rcases vn with⟨p,q1,rfl,rfl,_⟩|⟨b0,o0,afF,c0,e0,fr0,F',q1,rfl,q3,q4,q5,q6,q7,q8,q9⟩
 ·simp only[cu,bY]at q1;subst q1;refine⟨[],by simp[gt],by simp,fun _=>?_,fun h=>by simp at h⟩;cases p with
  |none=>cases ao<;>simp[Builtin.copy_,bo ht,Builtin.lenOf,Builtin.firstCells,sizeOf,typeInfo,hj,storeCells,goInt]
  |some p=>cases ao<;>simp[Builtin.copy_,bo ht,Builtin.lenOf,Builtin.firstCells,sizeOf,typeInfo,hj,storeCells,goInt,loadCells,loadCellsFrom]
 simp only[cu,bY]at q1;subst q1;generalize hn:min dl ds.length=n;have EW:n≤ds.length:=by omega
 have hsp:ds=ds.take n++ds.drop n:=(bu _ _).symm;have q9':=q9;rw[hsp]at q9';obtain⟨F1,F2,nc,c2,h1,h2,s1,s2⟩:=q9'.split;have hF1:F1=[]:=by
  have aly:fO (ds.take n)=true:=by
   have key:∀(l:List D)(m:Nat),fO l=true→fO (l.take m)=true:=by
    intro l
    induction l with
    |nil=>intro m _;simp[fO]
    |cons x l ih=>
     intro m hm;simp only[fO,bA]at hm;cases m with
     |zero=>simp[fO]
     |succ m=>simp[fO,hm.1,ih m hm.2]
   exact key _ _ Lm
  exact kU aly s1
 subst hF1;have lnc:nc.length=n*sz:=by
  rw[s1.length,D.gk (sz:=sz) fun d hd=>q8 d (aY hd),a8,bh EW]
 refine⟨nc,s1,lnc,?_⟩;have hf:(Builtin.firstCells j.size n (.slice (some ⟨b0,o0,none⟩) ds.length afF)).run P w=.ok nc.toArray w:=by
  refine run_firstCells_some (P:=P) w j.size n ⟨b0,o0,none⟩ ds.length afF nc (by rw[XU];exact lnc) ?_;intro i v hv;have iq:i<nc.length:=(bj.1 hv).1;have h3:((c0.toList.drop o0).take (ds.length*sz))[i]?=some v:=by rw[←hsp]at h2;rw[h2,bL iq];exact hv
  have hle:n*sz≤ds.length*sz:=aZ _ EW;rw[dL (by omega),cZ,cE]at h3;rw[show(⟨b0,o0,none⟩:Addr).add i=⟨b0,o0+i,none⟩by simp[Addr.add],BW q6];exact h3
 have abZ:Nat.min ds.length dl=n:=by rw[←hn];exact Nat.min_comm _ _
 have base:∀(w':World),(storeCells (ao.getD default) nc).run P w=.ok () w'→(ao=none→w'=w)→(Builtin.copy_ #[t,u] ty #[.slice ao dl dc,.slice (some ⟨b0,o0,none⟩) ds.length afF]).run P w=.ok (.int .i64 n) w':=by
  intro w' ju K2;cases ao with
  |none=>
   obtain rfl:=K2 rfl;simp[Builtin.copy_,bo ht,Builtin.lenOf,abZ,sizeOf,typeInfo,hj,hf,goInt]
  |some a0=>
   simp only[dy]at ju;simp[Builtin.copy_,bo ht,Builtin.lenOf,abZ,sizeOf,typeInfo,hj,hf,ju,goInt]
 refine⟨fun h0=>base w ?_ (fun _=>rfl),fun _=>?_⟩
 ·have:nc=[]:=by
   have:nc.length=0:=by rw[lnc,h0];simp
   exact fb.1 this
  subst this;simp[storeCells]
 intro b off c e' hao hb hle;refine base _ ?_ (by rw[hao];simp);subst hao;have:=fy P b off e' nc 0 c w hb (by omega) s1.one;simpa[lnc]using this
def gQ.again(hu:gQ h n0 S0 M0 us g){k:Nat}(hm:(k,U.ar true nn usz es)∈us):
  ∃g',gQ h n0 S0 M0 ((k,.ar true nn usz es)::gu k (AV.soft k) us) g'∧∀av v,av.soft k=false→fN h us g av v→fN h ((k,.ar true nn usz es)::gu k (AV.soft k) us) g' av v:=by
 have ho:=hu.each _ hm;obtain⟨m1,m2⟩:=hu.mut (h':=h) hm (aw _) (fun _ _ _=>rfl) (.inr ⟨true,nn,usz,es,true,es,rfl,rfl,rfl⟩) (iZ hu hm) (fun x hx=>⟨hx,hu.fz x (gn.2 ⟨_,hm,hx⟩)⟩)
  (by simp only[jn,Gh.oH,ay]at ho⊢;exact ho)
 exact⟨_,m1,m2⟩
variable {m:Nat}
def MO{c nc:List Value}{off' L p:Nat}(h1:off'+L≤c.length)(h2:p+m≤L)(hn:nc.length=m):
  ((c.take (off'+p)++nc++c.drop (off'+p+m)).drop off').take L=((c.drop off').take L).take p++(nc++((c.drop off').take L).drop (p+m)):=by
 apply eQ
 intro i;simp only[dS,cZ,List.getElem?_append,a8,lP,ca,hn];have z1:min (off'+p) c.length=off'+p:=by omega
 have z2:min p (min L (c.length-off'))=p:=by omega
 rw[z1,z2]
 by_cases g1:i<L
 ·rw[af g1]
  by_cases g2:i<p
  ·rw[af (by omega),af (by omega),af (by omega),af g2,af g2,af g1]
  by_cases g3:i<p+m
  rw[af (by omega),ae (by omega),ae g2,af (by omega)];congr 1;omega;rw[ae (by omega),ae g2,ae (by omega),af (by omega)];congr 1;omega
 rw[ae g1,ae (by omega),ae (by omega),ae (by omega)]
def agX(h:At n0 S0 M0 w0 st o a w g){c:Call}{e:TypeId}{sz:Nat}{y:Operand}{X Y:Ax.X}{f:St→Prop}(ho:o.op=.call c)(hc:c.callee=.builtin .copy)(ha:c.args= #[x,y])(tE:c.argTypes= #[t,t])
  (ht:P.underlying t=some (.slice e)) (hz:kx P e=some sz) (hX:gG P t x=some X) (hY:gG P t y=some Y) (hq:Tm (st.ev X) (st.ev Y) o.dst sz st f):o.wp P a w (km n0 S0 M0 w0 st.n f) Q':=by
 have ex:=h.ev_ hX;have ey:=h.ev_ hY;have hs:=h.sat;unfold Tm Po at hq
 split at hq
 ·next nn gV ds hys=>
  obtain⟨⟨rfl,HV,Lm⟩,hq⟩:=hq;obtain⟨F,y1,y2,_⟩:=Ca h.us ey hys;rw[gD y2]at y1;have y1:gJ w.heap (.ls nn gV ds) F [a.eval y]:=y1;have fin:∀{id n:Nat} {u:U} {w':World},(Builtin.copy_ #[t,t] o.type #[a.eval x,a.eval y]).run P w=.ok (.int .i64 (n:Nat)) w'→w'.os=w.os→w'.tape=w.tape→w'.output=w.output→w.heap.size≤w'.heap.size→(∀b,b<n0→¬M0 b→w'.heap[b]?=w.heap[b]?)→
    (∃g',gQ w'.heap n0 S0 M0 ((id,u)::gu id (AV.soft id) st.us) g'∧∀av v,av.soft id=false→fN w.heap st.us g av v→fN w'.heap ((id,u)::gu id (AV.soft id) st.us) g' av v)→
    f ((st.ue id u).mu o.dst (.im none (.sc (.int .i64 n))))→o.wp P a w (km n0 S0 M0 w0 st.n f) Q':=by
   rintro id n u w' hH e1 e2 e3 jP hold ⟨g',hU,hV⟩ hf;unfold Oper.wp;have pB:(execOp a.eval o).run P w=.ok (.value (.int .i64 (n:Nat))) w':=by
    simp[execOp,ho,resolve,hc,ha,tE,invoke,builtin,hH,Result.andThen]
   rw[pB];have hS:k9 n0 S0 M0 w0 (st.ue id u) a w':=by
    refine⟨hs.ms,hs.v8,hs.tm,hs.base,e1.trans hs.os,e2.trans hs.tape,e3.trans hs.output,cB hs.size jP,?_,g',hU,fun t=>kp (fun av v hf hr=>hV av v hf hr) (h.rep t)⟩;intro b hb hm;rw[hold b hb hm];exact hs.jL b hb hm
   refine⟨(st.ue id u).mu o.dst (.im none (.sc (.int .i64 n))),?_,hf,?_⟩
   ·cases o.dst<;>rfl
   exact jY hS hU (fun t=>kp (fun av v hf hr=>hV av v hf hr) (h.rep t)) (d:=o.dst) (fun j hj=>h.dst j hj) (kt rfl)
  have hw0:∀{b:Nat} {r:Array Value},(w.setRow b r).os=w.os∧(w.setRow b r).tape=w.tape∧(w.setRow b r).output=w.output:=⟨rfl,rfl,rfl⟩;have wa:∀n:Nat,n≤ds.length→(ds.take n).length=n:=fun n hn=>by simp;omega
  have inn:∀{id el j off:Nat} {ln:Option Nat} {Ed jR:Option Bool} {usz:Nat} {es lQ:List D} {b:Nat} {c1:Array Value} {ty:TypeId} {p:Option Addr} {len' cap':Nat},(id,U.ar true Ed usz es)∈st.us→g.β id=some b→el<es.length→j+1≤usz→
    (j=0∧usz=1∧(D.at es el).fX=false∨(D.at es el).fX=true∧usz≠1)→D.sub (D.at es el) j 1 false=.ls jR gV lQ→w.heap[b]?=some (.cells c1 ty (0,0))→c1[el*usz+j]?=some (.slice p len' cap')→
    off+ln.getD lQ.length≤lQ.length→off≤cap'→a.eval x=.slice (p.map fun q=>q.add (if off=cap' then 0 else off*gV)) (ln.getD lQ.length) (cap'-off)→
    f ((st.ue id (.ar true Ed usz (lj es usz el j (.ls jR gV (Ax.Ev lQ off (min (ln.getD lQ.length) ds.length) ds))))).mu o.dst (.im none (.sc (.int .i64 (min (ln.getD lQ.length) ds.length:Nat)))))→o.wp P a w (km n0 S0 M0 w0 st.n f) Q':=by
   intro id el j off ln Ed jR usz es lQ b c1 ty p len' cap' hm hb pz hj hw hd hcc W4 Il hoc hv hf;obtain⟨nc,n1,n2,Ee,XP⟩:=IH (P:=P) (w:=w) (u:=t) (ty:=o.type) ht hz hv y1 Lm;generalize hn:min (ln.getD lQ.length) ds.length=n at*;have kn:n≤ds.length:=by omega
   have hn3:off+n≤lQ.length:=by omega
   have ahT:(Ax.Ev lQ off n ds).length=lQ.length:=by simp[Ax.Ev];omega
   by_cases h0:n=0
   ·have El:lj es usz el j (.ls jR gV (Ax.Ev lQ off n ds))=es:=by
     have e1:Ax.Ev lQ off n ds=lQ:=by subst h0;simp[Ax.Ev]
     rw[e1];have hU:=h.us.each _ hm;simp only[jn]at hU;obtain⟨nJ,Ce,hU⟩:=hU;rcases hU with⟨z1,_⟩|⟨b1,c2,e2,G,cs,rest,k1,k2,k3,k4,k5,k6,k7,k8⟩
     rw[hb]at z1;cases z1;obtain⟨_,_,_,_,_,_,_,_,_,r2,_⟩:=k6.pick pz;have jP:(es[el]).size=usz:=Ce _ (aF pz);have:=TW (usz:=usz) hj hd rfl hw (by rw[D.qL pz];exact SP r2 jP);unfold lj;rw[this,D.qL pz,List.set_getElem_self]
    rw[El]at hf;exact fin (Ee h0) rfl rfl rfl (aw _) (fun _ _ _=>rfl) (h.us.again hm) hf
   have g9:lQ≠[]:=by intro e;rw[e]at hn3;simp at hn3;omega
   have hp:∃b' off',p=some ⟨b',off',none⟩:=by
    obtain⟨F2,q1,_⟩:=GY h.us hm pz hj hb hcc W4;rw[hd]at q1;simp only[gJ]at q1;rcases q1 with⟨_,_,q2,_⟩|⟨b',off',_,_,_,_,_,q1,_⟩
    exact absurd q2 g9;simp only[cu,dK,bY]at q1;exact⟨b',off',q1.1⟩
   obtain⟨b',off',rfl⟩:=hp;obtain⟨c',e',F1,rfl,i1,i2,i3,i4,imax,i5,i6,i8,i7⟩:=h.us.inner hm hb pz hj hw hd hcc W4 g9;have hocl:off<cap':=by omega
   have acy:¬off=cap':=by omega
   simp only[dJ,acy,aA,Addr.add]at hv;have hle:off*gV+n*gV≤lQ.length*gV:=by rw[←aT];exact aZ _ (by omega)
   have afw:lQ.length*gV≤cap'*gV:=aZ _ i4;have hH:=XP (by omega) b' (off'+off*gV) c' e' (by simp[acy,Addr.add]) i1 (by omega);obtain⟨G2,s1,s2⟩:=i6.Ev i5 n1 (off:=off) (by rw[wa n kn];omega) (by rw[wa n kn];exact n2);rw[wa n kn]at s1;have abY:c'.toList.length=c'.size:=by simp
   generalize jw:(c'.toList.take (off'+off*gV)++nc++c'.toList.drop (off'+off*gV+n*gV)).toArray=c2 at hH;have Xj:c2.size=c'.size:=by
    rw[←jw];simp only[bB,lP,a8,ca,n2,abY];omega
   have Xi:=MO (c:=c'.toList) (nc:=nc) (off':=off') (L:=lQ.length*gV) (p:=off*gV) (m:=n*gV) (by omega) hle n2;obtain⟨g2,Nn,W8⟩:=i7 (w.setRow b' c2).heap c2 (Ax.Ev lQ off n ds) G2 (bW _ _ _) (db w b' c' _ e' _ i1) (fun y hy=>cm w b' y _ hy) Xj
    ahT (fun d hd=>by
     simp only[Ax.Ev,an]at hd;rcases hd with hd|hd|hd
     exact i5 d (aY hd)
     ·simp only[gJ]at y1;rcases y1 with⟨_,_,rfl,_⟩|⟨_,_,_,_,_,_,_,_,_,_,_,_,_,_,q8,_⟩
      simp at hd;exact q8 d (aY hd)
     exact i5 d (bt hd)) s2 (by rw[←jw];simp only[];rw[Xi];exact s1)
   refine fin hH rfl rfl rfl (by rw[bW];exact aw _) (fun y hy Ij=>?_) ⟨g2,Nn,W8⟩ hf;have:y≠b':=by
    rintro rfl;exact Ij (h.us.low y (gn.2 ⟨_,hm,i8⟩) hy)
   exact cm w b' y _ this
  unfold Kx at hq
  split at hq
  ·
   next id off len e1=>
   rw[e1]at ex;unfold PW at hq
   split at hq
   ·next Ed usz es jm=>
    obtain⟨⟨rfl,Il⟩,hf⟩:=hq;have hm:=f7 jm;simp only[fN]at ex;obtain⟨ow',jR,Lr,es',x1,x2,x3⟩:=ex;have:=h.us.uniq hm x1;injection this with z1 z2 z3 z4;subst z1 z2 z3 z4;have hU:=h.us.each _ hm;simp only[jn]at hU;obtain⟨nJ,Ce,hU⟩:=hU;obtain⟨ao,dc,hv⟩:∃ao dc,a.eval x=.slice ao len dc:=by
     rcases x3 with⟨b,_,hv⟩|⟨_,_,rfl,hv⟩
     exact⟨_,_,hv⟩;exact⟨_,_,hv⟩
    obtain⟨nc,n1,n2,Ee,XP⟩:=IH (P:=P) (w:=w) (u:=t) (ty:=o.type) ht hz hv y1 Lm;generalize hn:min len ds.length=n at*;have kn:n≤ds.length:=by omega
    by_cases h0:n=0
    ·have El:Ax.Ev es off n ds=es:=by rw[h0];simp[Ax.Ev]
     rw[El]at hf;exact fin (Ee h0) rfl rfl rfl (aw _) (fun _ _ _=>rfl) (h.us.again hm) hf
    rcases hU with⟨z1,rfl,_⟩|⟨b,c1,ee,G,cs,rest,k1,k2,k3,k4,k5,k6,k7,k8⟩
    simp at Il;omega;obtain⟨b',x3,Sb⟩|⟨x3,_⟩:=x3
    case inr=>rw[k1]at x3;cases x3
    rw[k1]at x3;obtain rfl:=aD x3;rw[hv]at Sb;simp only[dK,cT]at Sb;obtain⟨rfl,rfl⟩:=Sb;simp only[ay]at k8;have hle:off*usz+n*usz≤es.length*usz:=by rw[←aT];exact aZ _ (by omega)
    have afw:es.length*usz≤g.cap id*usz:=aZ _ k5;have hH:=XP (by omega) b (off*usz) c1 ee rfl k2 (by omega);obtain⟨G2,s1,s2⟩:=k6.Ev Ce n1 (off:=off) (by rw[wa n kn];omega) (by rw[wa n kn];exact n2);rw[wa n kn]at s1;have rh:=k6.length;rw[D.gk Ce]at rh;have alz:c1.toList.length=c1.size:=by simp
    generalize jw:(c1.toList.take (off*usz)++nc++c1.toList.drop (off*usz+n*usz)).toArray=c2 at hH;have Xj:c2.size=g.cap id*usz:=by
     rw[←jw];simp only[bB,lP,a8,ca,n2,alz];omega
    have KW:c2.toList=(cs.take (off*usz)++(nc++cs.drop (off*usz+n*usz)))++rest:=by
     rw[←jw,k3,dC (by omega),dB (by omega)];simp
    have ahU:=iZ h.us hm;rw[k8]at ahU;have nK:∀y∈b::G2,y∈g.φ id:=by
     intro y hy;rw[k8];rcases ab.1 hy with rfl|hy
     simp;simp[s2.subset hy]
    have j7:∀y∈g.φ id,y∈fp g st.us:=fun y hy=>gn.2 ⟨_,hm,hy⟩;have Cd:b∈g.φ id:=by rw[k8];simp
    obtain⟨φ,hφ,Nn,hK⟩:=h.us.ue (h':=(w.setRow b c2).heap) hm k1 (db w b c1 _ ee _ k2) (bW _ _ _) (fun y hy=>cm w b y _ hy) Xj (ow':=true) (es':=Ax.Ev es off n ds) (by simp[Ax.Ev];omega)
     (fun d hd => by
      simp only[Ax.Ev,an]at hd;rcases hd with hd|hd|hd
      exact Ce d (aY hd)
      ·simp only[gJ]at y1;rcases y1 with⟨_,_,rfl,_⟩|⟨_,_,_,_,_,_,_,_,_,_,_,_,_,_,q8,_⟩
       simp at hd;exact q8 d (aY hd)
      exact Ce d (bt hd)) KW s1
     (fun _ => ⟨eX (List.Sublist.cons_cons _ s2) ahU, fun y hy => by
      have h1:=j7 y (nK y (by simp[hy]));exact⟨h.us.low y h1,fun hsx=>(h.us.sh y hsx).2.2 h1,fun z hz g9 hyz=>g9 (iA h.us.keys h.us.nodup hz hm hyz (nK y (by simp[hy])))⟩⟩) (by simp) (fun _ y hy=>h.us.fz y (j7 y (nK y (by simp[hy]))))
    refine fin hH rfl rfl rfl (by rw[bW];exact aw _) (fun y hy Ij=>?_) ⟨_,Nn,fun av v hf hr=>fN.wP hK hf hr⟩ hf;have:y≠b:=by
     rintro rfl;exact Ij (h.us.low y (j7 y Cd) hy)
    exact cm w b y _ this
   exact hq.elim
  ·next id el j e1=>
   rw[e1]at ex;unfold Hw at hq
   split at hq
   ·next Ed usz es jm=>
    unfold MZ at hq
    split at hq
    ·next jR Lr lQ hd=>
     obtain⟨⟨rfl,pz,hw⟩,hf⟩:=hq;have hm:=f7 jm;have Ee:=Fl h.us ex jm;rw[hd]at Ee;obtain⟨p,len,cap,hv,hlen,hp1,_⟩:=uT Ee;simp only[fN]at ex;obtain⟨Sx,lX,KR,b,c1,ty,r1,r2,r3,r4,r5,r6,r7,r8,r9⟩:=ex;have:=h.us.uniq r1 hm;injection this with z1 z2 z3 z4;subst z2 z3 z4;refine inn (off:=0) (ln:=none) (p:=p) (len':=len) (cap':=cap) hm r4 r2 r3 hw hd r5 ?_ (by simp) (aq _) ?_ hf
     ·rw[hv]at r8;have h1:((c1.toList.drop (el*lX+j)).take 1)[0]?=some (.slice p len cap):=by rw[←r8];simp[Value.cells]
      rw[dL (by omega),cZ,ah,cE]at h1;exact h1
     rw[hv,hlen];cases p<;>simp[Addr.add]
    exact hq.elim
   exact hq.elim
  ·next id el j iE off len e1=>
   obtain⟨rfl,hq⟩:=hq;rw[e1]at ex;unfold Hw at hq
   split at hq
   ·next Ed usz es jm=>
    unfold MZ at hq
    split at hq
    ·next jR Lr lQ hd=>
     obtain⟨⟨rfl,pz,hw⟩,hf⟩:=hq;have hm:=f7 jm;simp only[fN]at ex;obtain⟨ow0,Sx,lX,KR,b,c1,ty,p,len',cap',r1,r2,r3,r4,r5,r6,r7,r8,r9⟩:=ex;have:=h.us.uniq r1 hm;injection this with z1 z2 z3 z4;subst z1 z2 z3 z4;obtain⟨F2,q1,_⟩:=GY h.us hm r2 r3 r4 r5 r6;rw[hd]at q1;obtain⟨OT,_,_⟩:=q1.part r7;refine inn (off:=off) (ln:=some len) (p:=p) (len':=len') (cap':=cap') hm r4 r2 r3 hw hd r5 r6 (by simp;omega) r8 ?_ hf;simpa using r9
    exact hq.elim
   exact hq.elim
  exact hq.elim
 exact hq.elim
variable {av:AV}{v:Value}
def NK(hu:gQ h n0 S0 M0 us g)(hr:fN h us g av v)(ho:AV.mw (lu us) av=true):∃c,v=.agg c:=by
 cases av with
 |im t d=>
  cases t with
  |some t=>simp[AV.mw]at ho
  |none=>
   simp only[AV.mw]at ho;simp only[fN]at hr;obtain⟨F,r1,r2,r3⟩:=hr;cases d<;>simp_all [D.fits,D.fX]
 |tr i=>
  simp only[AV.mw]at ho
  split at ho
  ·next d jm=>
   have hm:=f7 jm;simp only[fN]at hr;obtain⟨_,rfl⟩:=hr;have hU:=hu.each _ hm;simp only[jn]at hU;obtain⟨_,_,p3⟩:=hU;cases d<;>simp_all [D.fits,D.fX]
  cases ho
 |cw i el j sz agg=>
  simp only[AV.mw]at ho;subst ho;simp only[fN]at hr;obtain⟨_,_,_,_,_,_,_,_,_,_,_,_,_,_,q9⟩:=hr;exact⟨_,by simpa using q9⟩
 |sg vs=>
  simp only[fN]at hr;obtain⟨xs,_,rfl⟩:=hr;exact⟨_,rfl⟩
 |_=>simp[AV.mw]at ho
variable {avs:List AV}{vs:List Value}
def Nb(h:At n0 S0 M0 w0 st o a w g){f:Nat}(hH:mN P f→(execOp a.eval o).run P w=.ok (.enter f vs.toArray) w)(hr:fT w.heap st.us g avs vs)
  (hq:ach P o.dst f avs st.unit k):o.wp P a w (jV n0 S0 M0 w0 st o.dst k) Q':=by
 obtain⟨acz,t0,kk,B,C,rfl,⟨rh,hA⟩,hB1,hC1,hk⟩:=hq;simp only[fT]at hr;obtain⟨v1,r1,rfl,hv1,v2,r2,rfl,R5,v3,r3,rfl,hv3,rfl⟩:=hr;simp only[bA]at hB1 hC1;obtain⟨c2,rfl⟩:=NK h.us R5 hB1.1;obtain⟨c3,rfl⟩:=NK h.us hv3 hC1.1;have z2:=vU h.us R5 hB1.2 (by omega);have z3:=vU h.us hv3 hC1.2 (by omega);have e1:v1=.int .i64 kk:=by
  simp only[fN,gJ,D.fits]at hv1;obtain⟨F,⟨_,q1,_⟩,q2,_⟩:=hv1;rw[gD q2]at q1;simpa using q1
 subst e1;unfold Oper.wp;rw[hH rh,eV];refine(hA kk c2 c3 w (by simpa[Value.cells]using z2) (by simpa[Value.cells]using z3)).mono ?_;rintro e w' ⟨⟨x,t,rfl,hx,EB⟩,hB⟩;have hs:=h.sat;have hh:∀b,b<w.heap.size→w'.heap[b]?=w.heap[b]?:=fun b hb=>hB.block b hb;refine⟨_,_,hk,fun hf=>?_⟩;generalize hd:o.dst.getD 0=d at hf acz;have oK:tO d st.us=true:=by
  rcases hf with hf|hf
  cases hf;simp only[St.fresh,tO,bU]at hf;exact hf
 have KS:=jy oK;have alA:x<w'.heap.size:=(bc.1 EB).1;obtain⟨hU,hV⟩:=h.us.Xb (h':=w'.heap) (n:=d) KS (u:=.bx 3 [B,C]) (β:=some x) (φ:=[x]) (root:=undef) (cap:=0) hB.size
  (fun b hb => by
   refine hh b ?_;rcases hb with hb|hb
   exact h.us.lt b hb;exact(h.us.sh b hb).1)
  (by simp)
  (fun b hb => by
   simp only[au]at hb;subst hb;refine⟨alA,fun iq=>?_,fun hS=>?_,fun hF=>?_,_,_,EB⟩;have:=hs.base;have:=hs.size;omega;have:=(h.us.sh _ hS).1;omega;have:=h.us.lt _ hF;omega)
  (fun hg => by
   simp only[jn,jh];refine⟨by simp[gz],x,c2++c3,t,[.agg c2,.agg c3],[],rfl,EB,rfl,?_,?_,by simp[Value.cells]⟩;simp only[fT];exact⟨_,_,rfl,hg _ _ R5,_,_,rfl,hg _ _ hv3,rfl⟩;intro _ v hv;simp only[ab,cF,cI]at hv;rcases hv with rfl|rfl
   exact z2;exact z3) (fun _=>tM.low acz)
 have hS2:k9 n0 S0 M0 w0 (st.kc [(d,U.bx 3 [B,C])]) a w':=by
  refine⟨hs.ms,hs.v8,hs.tm,hs.base,hB.os.trans hs.os,hB.tape.trans hs.tape,hB.output.trans hs.output,cB hs.size hB.size,?_,_,hU,fun t=>hV _ _ (h.rep t)⟩;intro b hb hm;rw[←hs.jL b hb hm];exact hh b (by have:=hs.base;have:=hs.size;omega)
 refine jY hS2 hU (fun t=>hV _ _ (h.rep t)) h.dst ?_;simp only[fN,fT];refine⟨[.int .i64 kk,.int .i64 0,.slice (some ⟨x,0,none⟩) 2 2],⟨_,_,rfl,⟨[],?_,?_,by simp⟩,_,_,rfl,⟨[],?_,?_,by simp⟩,_,_,rfl,⟨3,[B,C],x,bD,rfl,by simp[jh],rfl⟩,rfl⟩,by simp[Value.cells]⟩
 all_goals simp[gJ,D.fits,Value.cells,Value.oneCell']
def v7(h:At n0 S0 M0 w0 st o a w g){f:Nat}(hH:mN P f→(execOp a.eval o).run P w=.ok (.enter f vs.toArray) w)(hr:fT w.heap st.us g avs vs)
  (hq:pP P o.dst f avs st.unit k):o.wp P a w (jV n0 S0 M0 w0 st o.dst k) Q':=
 hq.elim (LW h hH hr) (Nb h hH hr)
variable {c:Call}
def Vt(h:At n0 S0 M0 w0 st o a w g){f:Nat}{Xs:List X}(ho:o.op=.call c)(hc:c.callee=.value (.func f))(hl:c.args.size=c.argTypes.size)
  (hx:(c.args.toList.zip c.argTypes.toList).mapM (fun p=>gG P p.2 p.1)=some Xs) (hq:pP P o.dst f (Xs.map st.ev) st.unit k):o.wp P a w (jV n0 S0 M0 w0 st o.dst k) Q':=by
 refine v7 h (vs:=c.args.toList.map a.eval) ?_ (xD h.rep (by simpa using hl) hx) hq;rintro⟨fn,h1,h2,h3⟩;have EV:¬fn.body=none:=by cases hb:fn.body<;>simp_all
 have Ec : ¬ fn.name = "runtime.NumGoroutine" := by simpa using h3
 have ea:(List.map a.eval c.args.toList).toArray=Array.map a.eval c.args:=by apply aR;simp
 rw[ea];simp[execOp,ho,resolve,hc,Act.eval,Deferred.ofValue,invoke,callFunc,h1,EV,Ec]
def GZ(h:At n0 S0 M0 w0 st o a w g){u:TypeId}{X:Ax.X}{Xs:List Ax.X}(ho:o.op=.call c)(hc:c.callee=.value x)(hX:gG P u x=some X)(hl:c.args.size=c.argTypes.size)
  (hx:(c.args.toList.zip c.argTypes.toList).mapM (fun p=>gG P p.2 p.1)=some Xs) (hq:uu (st.ev X) P o.dst (Xs.map st.ev) st.unit k):o.wp P a w (jV n0 S0 M0 w0 st o.dst k) Q':=by
 have ex:=h.ev_ hX;unfold uu at hq
 split at hq
 ·next t f e1=>
  rw[e1]at ex;have hv:=kj ex;refine v7 h (vs:=c.args.toList.map a.eval) ?_ (xD h.rep (by simpa using hl) hx) hq;rintro⟨fn,h1,h2,h3⟩;have EV:¬fn.body=none:=by cases hb:fn.body<;>simp_all
  have Ec : ¬ fn.name = "runtime.NumGoroutine" := by simpa using h3
  have ea:(List.map a.eval c.args.toList).toArray=Array.map a.eval c.args:=by apply aR;simp
  rw[ea];simp[execOp,ho,resolve,hc,hv,Deferred.ofValue,invoke,callFunc,h1,EV,Ec]
 ·next t f ds e1=>
  rw[e1]at ex;simp only[fN,gJ,D.fits]at ex;obtain⟨F,⟨vs,q1,q2⟩,hf,kA⟩:=ex;rw[gD hf]at q1;have hv:a.eval x=.func (.func f) #[] ⟨vs⟩:=by simpa using q1
  refine v7 h (vs:=c.args.toList.map a.eval++vs) ?_ (xi (xD h.rep (by simpa using hl) hx) (Jj q2 kA)) hq;rintro⟨fn,h1,h2,h3⟩;have EV:¬fn.body=none:=by cases hb:fn.body<;>simp_all
  have Ec : ¬ fn.name = "runtime.NumGoroutine" := by simpa using h3
  have ea:(List.map a.eval c.args.toList++vs).toArray=Array.map a.eval c.args++⟨vs⟩:=by apply aR;simp
  rw[ea];simp[execOp,ho,resolve,hc,hv,Deferred.ofValue,invoke,callFunc,h1,EV,Ec]
 ·next f avs e1=>
  rw[e1]at ex;simp only[fN]at ex;obtain⟨vs,q2,hv⟩:=ex;refine v7 h (vs:=c.args.toList.map a.eval++vs) ?_ (xi (xD h.rep (by simpa using hl) hx) q2) hq;rintro⟨fn,h1,h2,h3⟩;have EV:¬fn.body=none:=by cases hb:fn.body<;>simp_all
  have Ec : ¬ fn.name = "runtime.NumGoroutine" := by simpa using h3
  have ea:(List.map a.eval c.args.toList++vs).toArray=Array.map a.eval c.args++⟨vs⟩:=by apply aR;simp
  rw[ea];simp[execOp,ho,resolve,hc,hv,Deferred.ofValue,invoke,callFunc,h1,EV,Ec]
 exact hq.elim
def qj:∀{ids:List Nat} {n k q:Nat},gU ids n k=some q→n≤q∧ids[q-n]?=some k
 | [],_,_,_,h=>by cases h
 |i::r,n,k,q,h=>by
  simp only[gU]at h
  split at h
  ·next e=>injection h with h;subst h e;simp
  obtain⟨h1,h2⟩:=qj h;refine⟨by omega,?_⟩;rw[show q-n=(q-(n+1))+1 by omega];simpa using h2
def lH:∀{ids:List Nat} {n k:Nat},gU ids n k=none↔k∉ids
 | [],_,_=>by simp[gU]
 |i::r,n,k=>by
  simp only[gU]
  split
  ·next e=>subst e;simp
  next e=>rw[lH];simp[cU e]
def uJ:∀{ids:List Nat} {n q k:Nat},ids.Nodup→ids[q]?=some k→gU ids n k=some (n+q)
 | [],_,_,_,_,h=>by simp at h
 |i::r,n,q,k,hn,h=>by
  rw[aH]at hn;cases q with
  |zero=>simp at h;subst h;simp[gU]
  |succ q=>
   simp at h;have:i≠k:=by rintro rfl;exact hn.1 (eF h)
   simp only[gU,ae this];rw[uJ hn.2 h];congr 1;omega
def A9:∀{l:List Nat},CT l=true→l.Nodup
 | [],_=>bp
 |x::l,h=>by
  simp only[CT,bA,cp,bH,cK]at h;exact aH.2 ⟨h.1,A9 h.2⟩
def jF:∀{us:List U} {n:Nat} {x:Nat×U},x∈jc n us↔∃i u,us[i]?=some u∧x=(3000000000+(n+i),u)
 | [],n,x=>by simp[jc]
 |v::r,n,x=>by
  simp only[jc,ab,jF];constructor
  ·rintro(rfl|⟨i,u,h1,h2⟩);exact⟨0,_,rfl,rfl⟩;exact⟨i+1,u,by simpa using h1,by rw[h2];congr 1;omega⟩
  rintro⟨i,u,h1,h2⟩;cases i with
  |zero=>simp at h1;subst h1;exact .inl h2
  |succ i=>exact .inr ⟨i,u,by simpa using h1,by rw[h2];congr 1;omega⟩
def Fq{us:List U}{n k:Nat}:k∈(jc n us).map (·.1)↔∃i,i<us.length∧k=3000000000+(n+i):=by
 simp only[aB];constructor
 ·rintro⟨x,hx,rfl⟩;obtain⟨i,u,h1,rfl⟩:=jF.1 hx;exact⟨i,(bj.1 h1).1,rfl⟩
 rintro⟨i,h1,rfl⟩;exact⟨_,jF.2 ⟨i,us[i],by simp[h1],rfl⟩,rfl⟩
def qH:∀{us:List U} {n:Nat},((jc n us).map (·.1)).Nodup
 | [],_=>by simp[jc]
 |v::r,n=>by
  simp only[jc,lC,aH];refine⟨fun h=>?_,qH⟩;obtain⟨i,_,h2⟩:=Fq.1 h;omega
def mn(ids:List Nat)(un:Nat→Option U)(u x:U):Prop:=
 match u,x with
 |.ar ow nn sz es,.ar ow' jR gV es'=>ow'=ow∧jR=none∧gV=sz∧es'=es∧(nn=some false∨es≠[])
 |.own d,.own d'=>d'=d
 |.bx sz items,.bx gV iT=>gV=sz∧rO ids un items=some iT
 |_,_=>False
variable {ids:List Nat}{un:Nat→Option U}
def aen{u:Option U}{x:U}(h:wU ids un u=some x):∃v,u=some v∧mn ids un v x:=by
 unfold wU at h
 split at h
 ·next ow nn sz es=>
  split at h
  ·next hc=>injection h with h;subst h;exact⟨_,rfl,rfl,rfl,rfl,rfl,by simpa using hc⟩
  cases h
 ·injection h with h;subst h;exact⟨_,rfl,rfl⟩
 ·split at h
  ·next as has=>injection h with h;subst h;exact⟨_,rfl,rfl,has⟩
  cases h
 cases h;cases h
def qI{ahV:List Nat}:∀{ids:List Nat} {us:List U},wUs ahV un ids=some us→us.length=ids.length∧∀(i id:Nat),ids[i]?=some id→∃x v,us[i]?=some x∧un id=some v∧mn ahV un v x
 | [],us,h=>by simp only[wUs,oS]at h;subst h;simp
 |j::ids,us,h=>by
  simp only[wUs]at h
  split at h
  ·next u r h1 h2=>
   injection h with h;subst h;obtain⟨e1,e2⟩:=qI h2;refine⟨by simp[e1],fun i id hi=>?_⟩;cases i with
   |zero=>
    simp at hi;subst hi;obtain⟨v,q1,q2⟩:=aen h1;exact⟨u,v,rfl,q1,q2⟩
   |succ i=>
    obtain⟨x,v,q1,q2,q3⟩:=e2 i id (by simpa using hi);exact⟨x,v,by simpa using q1,q2,q3⟩
  cases h
def FL{b:Bool}:∀{us us':List U},iv m b us us'→us'.length≤us.length∧∀(i:Nat)(u u':U),us[i]?=some u→us'[i]?=some u'→ij m b u u'
 |us,[],h=>by simp
 | [],_::_,h=>h.elim
 |u::r,u'::r',h=>by
  obtain⟨h1,h2⟩:=FL h.2;refine⟨by simp[h1],fun i v v' e1 e2=>?_⟩;cases i with
  |zero=>simp at e1 e2;subst e1 e2;exact h.1
  |succ i=>exact h2 i v v' (by simpa using e1) (by simpa using e2)
def AU:∀{ids:List Nat} {av:AV},Bk ids av=false→∀k∈ids,av.soft k=false
 | [],_,_,k,hk=>by cases hk
 |i::r,av,h,k,hk=>by
  simp only[Bk,ck]at h;rcases ab.1 hk with rfl|hk
  exact h.1;exact AU h.2 k hk
def AQ:∀{ids:List Nat} {av:AV},AY ids av=false→∀k∈ids,av.refs k=false
 | [],_,_,k,hk=>by cases hk
 |i::r,av,h,k,hk=>by
  simp only[AY,ck]at h;rcases ab.1 hk with rfl|hk
  exact h.1;exact AQ h.2 k hk
def nE(u u':U):Prop:=
 match u,u' with
 |.ar _ _ sz es,.ar _ _ gV es'=>gV=sz∧es'.length=es.length
 |.bx sz items,.bx gV iT=>gV=sz∧iT.length=items.length
 |_,_=>False
structure pe (k1 k2:List Nat) (f:AV→Bool) (h h':jv) (us us':List (Nat×U)) (g g':Gh):Prop where
 hf:∀av,f av=false→(∀k∈k1,av.soft k=false)∧(∀k∈k2,av.refs k=false)
 mem:∀i u,(i,u)∈us→i∉k1→i∉k2→(i,u.kill f)∈us'
 β:∀i,i∉k2→g'.β i=g.β i∧g'.root i=g.root i∧g'.cap i=g.cap i
 gX:∀i u b,(i,u)∈us→i∉k1→i∉k2→g.β i=some b→h'[b]?=h[b]?
 im:∀t d F cs,(∀k∈k1,t≠some k)→(∀k∈k2,t≠some k)→gJ h d F cs→(∀b∈F,g.ok t b)→gJ h' d F cs∧∀b∈F,g'.ok t b
 ar:∀i∈k1,∃u u',(∀v,(i,v)∈us→v=u)∧(i,u')∈us'∧nE u u'
variable {k1 k2:List Nat}{i sz:Nat}
def pe.arr{g:Gh}(H:pe k1 k2 f h h' us us' g g'){ow:Bool}(hm:(i,U.ar ow nn sz es)∈us)(h2:i∉k2):
  ∃ow' jR es',(i,U.ar ow' jR sz es')∈us'∧es'.length=es.length:=by
 by_cases e:i∈k1
 ·obtain⟨u,u',q1,q2,q3⟩:=H.ar i e;have:=q1 _ hm;subst this;cases u' with
  |ar ow' jR gV es'=>simp only[nE]at q3;obtain⟨rfl,q3⟩:=q3;exact⟨_,_,_,q2,q3⟩
  |_=>simp[nE]at q3
 exact⟨_,_,_,H.mem _ _ hm e h2,rfl⟩
def pe.box{g:Gh}(H:pe k1 k2 f h h' us us' g g'){items:List AV}(hm:(i,U.bx sz items)∈us)(h2:i∉k2):
  ∃iT,(i,U.bx sz iT)∈us'∧iT.length=items.length:=by
 by_cases e:i∈k1
 ·obtain⟨u,u',q1,q2,q3⟩:=H.ar i e;have:=q1 _ hm;subst this;cases u' with
  |bx gV iT=>simp only[nE]at q3;obtain⟨rfl,q3⟩:=q3;exact⟨_,q2,q3⟩
  |_=>simp[nE]at q3
 exact⟨_,H.mem _ _ hm e h2,mH⟩
def pe.sbu{g:Gh}(H:pe k1 k2 f h h' us us' g g'){T E:Nat}{s:ByteArray}(hm:(i,U.sb T E s)∈us)(h2:i∉k2):
  (i,U.sb T E s)∈us':=by
 by_cases e:i∈k1
 ·obtain⟨u,u',q1,q2,q3⟩:=H.ar i e;have:=q1 _ hm;subst this;cases u'<;>simp[nE]at q3
 exact H.mem _ _ hm e h2
mutual
def fN.qN{g:Gh}(H:pe k1 k2 f h h' us us' g g'):∀{av:AV} {v:Value},(∀k∈k1,av.soft k=false)→(∀k∈k2,av.refs k=false)→fN h us g av v→fN h' us' g' av v
 |.im t d,v,hf,ua,hr=>by
  simp only[AV.soft,cb]at hf;simp only[AV.refs,cb]at ua;simp only[fN]at hr⊢;obtain⟨F,h1,h2,h3⟩:=hr;obtain⟨q1,q2⟩:=H.im t d F _ hf ua h1 h3;exact⟨F,q1,h2,q2⟩
 |.tr i,v,hf,ua,hr=>by
  have h2:i∉k2:=fun e=>by have:=ua i e;simp[AV.refs]at this
  simp only[fN]at hr⊢;obtain⟨⟨d,hd⟩,hv⟩:=hr
  by_cases e:i∈k1;obtain⟨u,u',q1,_,q3⟩:=H.ar i e;rw[←q1 _ hd]at q3;simp[nE]at q3
  exact⟨⟨d,H.mem _ _ hd e h2⟩,by rw[(H.β i h2).2.1];exact hv⟩
 |.pw i el j,v,hf,ua,hr=>by
  have h2:i∉k2:=fun e=>by have:=ua i e;simp[AV.refs]at this
  simp only[fN]at hr⊢;obtain⟨ow,nn,sz,es,b,r1,r2,r3,r4,r5⟩:=hr;obtain⟨ow',jR,es',q1,q2⟩:=H.arr r1 h2;exact⟨ow',jR,sz,es',b,q1,by omega,r3,by rw[(H.β i h2).1];exact r4,r5⟩
 |.cw i el j sz agg,v,hf,ua,hr=>by
  have h1:i∉k1:=fun e=>by have:=hf i e;simp[AV.soft]at this
  have h2:i∉k2:=fun e=>by have:=ua i e;simp[AV.refs]at this
  simp only[fN]at hr⊢;obtain⟨nn,usz,es,b,c,e,r1,r2,r3,r4,r5,r6⟩:=hr;exact⟨nn,usz,es,b,c,e,H.mem _ _ r1 h1 h2,r2,r3,by rw[(H.β i h2).1];exact r4,by rw[H.gX i _ b r1 h1 h2 r4];exact r5,r6⟩
 |.sm i off len,v,hf,ua,hr=>by
  have h2:i∉k2:=fun e=>by have:=ua i e;simp[AV.refs]at this
  simp only[fN]at hr⊢;obtain⟨ow,nn,sz,es,r1,r2,r3⟩:=hr;rw[←(H.β i h2).1,←(H.β i h2).2.2]at r3;obtain⟨ow',jR,es',q1,q2⟩:=H.arr r1 h2;exact⟨ow',jR,sz,es',q1,by omega,r3⟩
 |.vb i len,v,hf,ua,hr=>by
  have h2:i∉k2:=fun e=>by have:=ua i e;simp[AV.refs]at this
  simp only[fN]at hr⊢;obtain⟨sz,items,b,r1,r2,r3,r4⟩:=hr;obtain⟨iT,q1,q2⟩:=H.box r1 h2;exact⟨sz,iT,b,q1,by omega,by rw[(H.β i h2).1];exact r3,r4⟩
 |.sg vs,v,hf,ua,hr=>by
  simp only[AV.soft]at hf;simp only[AV.refs]at ua;simp only[fN]at hr⊢;obtain⟨xs,h1,h2⟩:=hr;exact⟨xs,fT.qN H hf ua h1,h2⟩
 |.lf vs,v,hf,ua,hr=>by
  simp only[AV.soft]at hf;simp only[AV.refs]at ua;simp only[fN]at hr⊢;obtain⟨xs,h1,h2⟩:=hr;exact⟨xs,h1,fT.qN H hf ua h2⟩
 |.any,_,_,_,_=>by simp[fN]
 |.cl f vs,v,hf,ua,hr=>by
  simp only[AV.soft]at hf;simp only[AV.refs]at ua;simp only[fN]at hr⊢;obtain⟨xs,h1,h2⟩:=hr;exact⟨xs,fT.qN H hf ua h1,h2⟩
 |.pq i el j iE jj j',v,hf,ua,hr=>by
  have h1:i∉k1:=fun e=>by have:=hf i e;simp[AV.soft]at this
  have h2:i∉k2:=fun e=>by have:=ua i e;simp[AV.refs]at this
  simp only[fN]at hr⊢;obtain⟨ow,nn,usz,es,b,c,e,b',off',len',cap',r1,r2,r3,r4,r5,r6⟩:=hr;exact⟨ow,nn,usz,es,b,c,e,b',off',len',cap',H.mem _ _ r1 h1 h2,r2,r3,by rw[(H.β i h2).1];exact r4,by rw[H.gX i _ b r1 h1 h2 r4];exact r5,r6⟩
 |.qs i el j iE off len,v,hf,ua,hr=>by
  have h1:i∉k1:=fun e=>by have:=hf i e;simp[AV.soft]at this
  have h2:i∉k2:=fun e=>by have:=ua i e;simp[AV.refs]at this
  simp only[fN]at hr⊢;obtain⟨ow,nn,usz,es,b,c,e,p,len',cap',r1,r2,r3,r4,r5,r6⟩:=hr;exact⟨ow,nn,usz,es,b,c,e,p,len',cap',H.mem _ _ r1 h1 h2,r2,r3,by rw[(H.β i h2).1];exact r4,by rw[H.gX i _ b r1 h1 h2 r4];exact r5,r6⟩
 |.ss i off len,v,hf,ua,hr=>by
  have h2:i∉k2:=fun e=>by have:=ua i e;simp[AV.refs]at this
  simp only[fN]at hr⊢;obtain⟨ow,nn,sz,es,r1,r2,r3⟩:=hr;rw[←(H.β i h2).1,←(H.β i h2).2.2]at r3;obtain⟨ow',jR,es',q1,q2⟩:=H.arr r1 h2;exact⟨ow',jR,sz,es',q1,by omega,r3⟩
 |.z0 _ _,v,_,_,hr=>by simpa[fN]using hr
 |.pb i j,v,hf,ua,hr=>by
  have h2:i∉k2:=fun e=>by have:=ua i e;simp[AV.refs]at this
  simp only[fN]at hr⊢;obtain⟨sz,items,b,r1,r2,r3⟩:=hr;obtain⟨iT,q1,q2⟩:=H.box r1 h2;exact⟨sz,iT,b,q1,by rw[(H.β i h2).1];exact r2,r3⟩
 |.ps i,v,hf,ua,hr=>by
  have h2:i∉k2:=fun e=>by have:=ua i e;simp[AV.refs]at this
  simp only[fN]at hr⊢;obtain⟨T,E,s,b,r1,r2,r3⟩:=hr;exact⟨T,E,s,b,H.sbu r1 h2,by rw[(H.β i h2).1];exact r2,r3⟩
def fT.qN{g:Gh}(H:pe k1 k2 f h h' us us' g g'):∀{as:List AV} {vs:List Value},(∀k∈k1,AV.py k as=false)→(∀k∈k2,AV.mr k as=false)→fT h us g as vs→fT h' us' g' as vs
 | [],_,_,_,hr=>by simpa[fT]using hr
 |a::as,vs,hf,ua,hr=>by
  simp only[AV.py,ck]at hf;simp only[AV.mr,ck]at ua;simp only[fT]at hr⊢;obtain⟨v,r,h1,h2,h3⟩:=hr;exact⟨v,r,h1,fN.qN H (fun k hk=>(hf k hk).1) (fun k hk=>(ua k hk).1) h2,fT.qN H (fun k hk=>(hf k hk).2) (fun k hk=>(ua k hk).2) h3⟩
end
def pe.rep{g:Gh}(H:pe k1 k2 f h h' us us' g g')(av:AV)(v:Value)(hf:f av=false)(hr:fN h us g av v):fN h' us' g' av v:=
 fN.qN H (H.hf av hf).1 (H.hf av hf).2 hr
def nh{g:Gh}:∀{us:List (Nat×U)},(us.map (·.1)).Nodup→(∀x∈us,(g.φ x.1).Nodup)→(∀x∈us,∀y∈us,∀b,b∈g.φ x.1→b∈g.φ y.1→x.1=y.1)→(fp g us).Nodup
 | [],_,_,_=>by simp[fp]
 |x::us,hk,h1,h2=>by
  simp only[lC,aH]at hk;simp only[fp,bX,aX];refine⟨h1 x (by simp),nh hk.2 (fun y hy=>h1 y (by simp[hy])) (fun y hy z hz=>h2 y (by simp[hy]) z (by simp[hz])),?_⟩;rintro b hb c hc rfl;obtain⟨y,hy,oL⟩:=gn.1 hc;exact hk.1 (aB.2 ⟨y,hy,(h2 x (by simp) y (by simp[hy]) b hb oL).symm⟩)
def jn.qN{g:Gh}(H:pe k1 k2 f h h' us us' g g')(hm:(i,u)∈us)(OU:i∉k1)(AC:i∉k2)(hφ:g'.φ i=g.φ i)(hF:∀x∈g.φ i,h'[x]?=h[x]?)
  (hS:∀x,g.Sh x→g'.Sh x∧h'[x]?=h[x]?) (ho:jn h us g i u):jn h' us' g' i (u.kill f):=by
 obtain⟨e1,e2,e3⟩:=H.β i AC;cases u with
 |own d=>
  simp only[jn,U.kill]at ho⊢;obtain⟨h1,h2,h3⟩:=ho;rw[e1,e2,hφ];exact⟨h1,h2.frame hF,h3⟩
 |ar ow nn sz es=>
  simp only[jn,U.kill]at ho⊢;rw[e1,e3,hφ];obtain⟨h1,h2,h3⟩:=ho;refine⟨h1,h2,?_⟩;rcases h3 with h3|⟨b,c,e,G,cs,rest,k1,k2,k3,k4,k5,k6,k7,k8⟩
  exact .inl h3;refine .inr ⟨b,c,e,G,cs,rest,k1,by rw[H.gX i _ b hm OU AC k1];exact k2,k3,k4,k5,k6.frame fun x hx=>?_,k7,?_⟩
  ·cases ow with
   |true=>simp only[ay]at k8;exact hF x (by rw[k8];simp[hx])
   |false=>simp only[mI,aA]at k8;exact(hS x (k8.2 x hx)).2
  cases ow with
  |true=>simpa using k8
  |false=>simp only[mI,aA]at k8⊢;exact⟨k8.1,fun x hx=>(hS x (k8.2 x hx)).1⟩
 |bx sz items=>
  simp only[jn,U.kill]at ho⊢;rw[e1,hφ];obtain⟨h1,b,c,e,vs,rest,k1,k2,k3,k4,k5⟩:=ho;exact⟨by rw[mH];exact h1,b,c,e,vs,rest,k1,by rw[H.gX i _ b hm OU AC k1];exact k2,k3,Ak H.rep k4,k5⟩
 |sb T E s=>
  simp only[jn,U.kill]at ho⊢;rw[e1,hφ];obtain⟨b,F,k1,k2,k3⟩:=ho;exact⟨b,F,k1,k2,k3.frame fun x hx=>hF x (by rw[k2];exact hx)⟩
def M2(hu:gQ h n0 S0 M0 us g)(hr:fN h us g av v){t:Option Nat}(hd:av.rd (lu us)=some (t,d)):
  ∃F,gJ h d F v.cells.toList∧d.fits v∧∀b∈F,g.Sh b∨∃k,t=some k∧b∈g.φ k:=by
 have den:av.den (lu us)=some (t,d)→∃F,gJ h d F v.cells.toList∧d.fits v∧∀b∈F,g.Sh b∨∃k,t=some k∧b∈g.φ k:=by
  intro hd;have:=pU hu hr hd;simp only[fN]at this;obtain⟨F,r1,r2,r3⟩:=this;exact⟨F,r1,r2,fun b hb=>(r3 b hb).imp id fun⟨k,h1,h2,_⟩=>⟨k,h1,h2⟩⟩
 unfold AV.rd at hd
 split at hd
 ·next id el j=>
  unfold adw at hd
  split at hd
  ·next ow nn usz es jm=>
   injection hd with hd;injection hd with e1 e2;subst e1 e2;simp only[fN]at hr;obtain⟨ow',jR,nf,es',b,r1,r2,r3,r4,rfl⟩:=hr;have:=hu.uniq r1 (f7 jm);injection this with e1 e2 e3 e4;subst e1;subst e2;subst e3;subst e4;have ho:=hu.each _ r1;simp only[jn]at ho;obtain⟨_,hs,ho⟩:=ho;rcases ho with⟨h0,_⟩|⟨b',c,e,G,cs,rest,k1,k2,k3,k4,k5,k6,k7,k8⟩
   rw[r4]at h0;cases h0;rw[r4]at k1;obtain rfl:=aD k1;obtain⟨F1,F2,F3,c1,c2,c3,g1,g2,p1,p2,p3⟩:=k6.pick r2;have jP:(es'[el]).size=nf:=hs _ (aF r2);have l1:c1.length=el*nf:=by
    rw[p1.length,D.gk (sz:=nf) fun d hd=>hs d (aY hd),a8,bh (di r2)]
   have l2:=p2.length;rw[D.qL r2];refine⟨b::F2,?_,by simp[D.fits,Value.oneCell'],?_⟩
   ·unfold gJ;have hlen:c.toList.length=c.size:=by simp
    refine⟨b,el*nf,c,e,(0,0),F2,by simp[Value.cells],rfl,by omega,k2,?_,?_⟩;rw[k3,g2]at hlen;simp only[lP,l1,l2]at hlen;omega;have:(c.toList.drop (el*nf)).take ((es'[el]).size)=c2:=by
     rw[k3,g2,←l1,←l2];simp
    rw[this];exact p2
   intro x hx;cases ow' with
   |true=>
    simp only[ay]at k8;refine .inr ⟨id,rfl,?_⟩;rw[k8];rcases ab.1 hx with rfl|hx
    simp;rw[g1];simp[hx]
   |false=>
    simp only[mI,aA]at k8;rcases ab.1 hx with rfl|hx
    ·exact .inr ⟨id,rfl,by rw[k8.1];simp⟩
    exact .inl (k8.2 x (by rw[g1];simp[hx]))
  cases hd
 ·next id off len=>
  unfold aeU at hd
  split at hd
  ·next ow nn usz es jm=>
   injection hd with hd;injection hd with e1 e2;subst e1 e2;simp only[fN]at hr;obtain⟨ow',jR,nf,es',r1,r2,r3⟩:=hr;have:=hu.uniq r1 (f7 jm);injection this with e1 e2 e3 e4;subst e1;subst e2;subst e3;subst e4;have ho:=hu.each _ r1;simp only[jn]at ho;obtain⟨nJ,hs,ho⟩:=ho;have hlen:((es'.drop off).take len).length=len:=by simp;omega
   rcases r3 with⟨b,r3,rfl⟩|⟨r3,rfl,rfl,rfl⟩
   ·rcases ho with⟨h0,_⟩|⟨b',c,e,G,cs,rest,k1,k2,k3,k4,k5,k6,k7,k8⟩
    rw[r3]at h0;cases h0;rw[r3]at k1;obtain rfl:=aD k1;have Cc:es'=es'.take off++((es'.drop off).take len++(es'.drop off).drop len):=by rw[bu,bu]
    have k6':gt h (es'.take off++((es'.drop off).take len++(es'.drop off).drop len)) G cs:=by rw[←Cc];exact k6
    obtain⟨F1,F23,c1,c23,g1,g2,s1,R2⟩:=k6'.split;obtain⟨F2,F3,c2,c3,rfl,rfl,s2,s3⟩:=R2.split;have hm:∀d∈(es'.drop off).take len,d.size=nf:=fun d hd=>hs d (bt (aY hd));have l1:c1.length=off*nf:=by
     rw[s1.length,D.gk (sz:=nf) fun d hd=>hs d (aY hd),a8,bh (by omega)]
    have l2:c2.length=len*nf:=by rw[s2.length,D.gk hm,hlen]
    refine⟨b::F2,?_,rfl,?_⟩
    ·unfold gJ;refine .inr ⟨b,off*nf,g.cap id-off,c,e,(0,0),F2,by simp[Value.cells,hlen],rfl,?_,by rw[hlen];omega,by rw[hlen];omega,k2,?_,hm,?_⟩
     ·split
      exact k7;simp
     rw[k4,←aT];exact aZ _ (by omega);rw[hlen,k3,g2,←l1,←l2];simpa using s2
    intro x hx;cases ow' with
    |true=>
     simp only[ay]at k8;refine .inr ⟨id,rfl,?_⟩;rw[k8];rcases ab.1 hx with rfl|hx
     simp;rw[g1];simp[hx]
    |false=>
     simp only[mI,aA]at k8;rcases ab.1 hx with rfl|hx
     ·exact .inr ⟨id,rfl,by rw[k8.1];simp⟩
     exact .inl (k8.2 x (by rw[g1];simp[hx]))
   rcases ho with⟨_,rfl,h3,h4⟩|⟨b',c,e,G,cs,rest,k1,_⟩
   ·refine⟨[],?_,rfl,by simp⟩;unfold gJ;refine .inl ⟨none,by simp[Value.cells],by simp,rfl,fun _=>?_,by simp⟩
    split;exact h4;simp
   rw[r3]at k1;cases k1
  cases hd
 ·next id len=>
  unfold ag3 at hd
  split at hd
  ·next sz items jm=>
   split at hd
   ·next ds ot=>
    split at hd
    ·next hlen=>
     obtain⟨hlen,jH⟩:=hlen;injection hd with hd;injection hd with e1 e2;subst e1 e2;simp only[fN]at hr;obtain⟨gV,iT,b,r1,r2,r3,rfl⟩:=hr;have:=hu.uniq r1 (f7 jm);injection this with e1 e2;subst e1;subst e2;have ho:=hu.each _ r1;simp only[jn]at ho;obtain⟨nJ,b',c,e,vs,rest,k1,k2,k3,k4,k5,k6⟩:=ho;rw[r3]at k1;obtain rfl:=aD k1;obtain⟨F,p1,p2,p3⟩:=C8 k4 ot;have hl:=p1.length;rw[D.gk p2]at hl;have hFn:F=[]:=by
      have:∀{ds:List D},D.pL ds=true→fO ds=true:=by
       intro ds
       induction ds with
       |nil=>intro _;rfl
       |cons d ds ih=>intro h;simp only[D.pL,bA]at h;simp only[fO,h.1,ih h.2,bi]
      exact kU (this (D.vk jH)) p1
     subst hFn;have sC:ds.length*gV≤c.size:=by
      have:c.toList.length=c.size:=by simp
      rw[k6,lP]at this;omega
     refine⟨[b],?_,rfl,?_⟩
     ·unfold gJ;refine .inr ⟨b,0,len,c,e,(0,0),[],by simp[Value.cells,p3,hlen],rfl,by simp,by omega,by omega,k2,by rw[p3,←hlen]at sC;omega,p2,?_⟩;rw[k6];simp only[aJ];rw[bZ hl];exact p1
     intro x hx;rw[au]at hx;subst hx;exact .inr ⟨id,rfl,by rw[k3];simp⟩
    cases hd
   cases hd
  cases hd
 ·next nn sz=>
  injection hd with hd;injection hd with e1 e2;subst e1 e2;simp only[fN]at hr;obtain⟨p,rfl,h1,h2⟩:=hr;refine⟨[],?_,rfl,by simp⟩;unfold gJ;exact .inl ⟨p,by simp[Value.cells],rfl,rfl,h1,h2⟩
 exact den hd
def CO{st:St}{d:Option Nat}{f:St→Prop}(hk:kq f st d av us):(us=[]∨st.fresh us=true)∧f ((st.kc us).mu d av):=by
 cases us with
 |nil=>exact⟨.inl rfl,hk⟩
 |cons x us=>exact⟨.inr hk.1,hk.2⟩
def AL{g:Gh}:∀{us:List (Nat×U)},(fp g us).Nodup→∀x∈us,(g.φ x.1).Nodup
 | [],_,x,hx=>by cases hx
 |y::us,h,x,hx=>by
  simp only[fp,bX,aX]at h;rcases ab.1 hx with rfl|hx
  exact h.1;exact AL h.2.1 x hx
def tz(ids:List Nat)(k:Nat):Option Nat:=if 3000000000≤k then ids[k-3000000000]? else none
def Gh.callee(g:Gh)(ids:List Nat)(sh:Nat→Prop):Gh:=
  ⟨fun k=>(tz ids k).bind g.β,fun k=>match tz ids k with|some i=>g.φ i|none=>[],fun k=>match tz ids k with|some i=>g.root i|none=>undef,
   fun k=>match tz ids k with|some i=>g.cap i|none=>0,sh⟩
def L4{q:Nat}:tz ids (3000000000+(0+q))=ids[q]?:=by
 unfold tz;rw[af (by omega),show 3000000000+(0+q)-3000000000=q by omega]
variable {sh:Nat→Prop}
def iR{g:Gh}{ids:List Nat}{q id:Nat}(h:ids[q]?=some id):(g.callee ids sh).β (3000000000+(0+q))=g.β id∧(g.callee ids sh).φ (3000000000+(0+q))=g.φ id∧(g.callee ids sh).cap (3000000000+(0+q))=g.cap id∧
  (g.callee ids sh).root (3000000000+(0+q))=g.root id:=by
 have:=(L4 (ids:=ids) (q:=q)).trans h;refine⟨?_,?_,?_,?_⟩<;>simp only[Gh.callee,this,fC]
def zm{g:Gh}{us:List U}(hl:us.length=ids.length):b∈fp (g.callee ids sh) (jc 0 us)↔∃id∈ids,b∈g.φ id:=by
 rw[gn];constructor
 ·rintro⟨x,hx,hb⟩;obtain⟨i,u,h1,rfl⟩:=jF.1 hx;have hi:i<ids.length:=by rw[←hl];exact(bj.1 h1).1
  have e:ids[i]?=some ids[i]:=by simp[hi]
  rw[(iR e).2.1]at hb;exact⟨_,aF hi,hb⟩
 rintro⟨id,me,hb⟩;obtain⟨i,hi,rfl⟩:=dE me;have e:ids[i]?=some ids[i]:=by simp[hi]
 exact⟨_,jF.2 ⟨i,us[i]'(by omega),by simp[hl,hi],rfl⟩,by rw[(iR e).2.1];exact hb⟩
def Yk{t:Option Nat}(hr:av.rd (lu us)=some (t,d))(hs:av.hZ ids=true)(hp:∀id el j,av≠.pw id el j)(hp2:∀id el j,av≠.sm id el j)(hp3:∀id,av≠.tr id):t=none∨d.gl=true:=by
 cases av with
 |im t' d'=>
  simp only[AV.rd,AV.den]at hr;injection hr with hr;injection hr with e1 e2;subst e1 e2;cases t' with
  |none=>exact .inl rfl
  |some t'=>exact .inr (by simpa[AV.hZ]using hs)
 |pw id el j=>exact absurd rfl (hp id el j)
 |sm id el j=>exact absurd rfl (hp2 id el j)
 |tr id=>exact absurd rfl (hp3 id)
 |cl f vs=>simp[AV.rd,AV.den]at hr
 |sg vs=>simp[AV.rd,AV.den]at hr
 |pb i j=>simp[AV.rd,AV.den]at hr
 |ps i=>simp[AV.rd,AV.den]at hr
 |_=>simp[AV.hZ]at hs
def mF(hu:gQ h n0 S0 M0 us g){ids:List Nat}{ws:List U}(h1:∀b,g.Sh b→sh b){av:AV}{v:Value}{a':AV}
  (hk:(∀k b,k∉ids→b∈g.φ k→sh b)∨(av.hZ ids=true∧(∀id el j,av≠.pw id el j)∧(∀id el j,av≠.sm id el j)∧(∀id,av≠.tr id))) (hr:fN h us g av v) (ha:RS ids (av.rd (lu us))=some a'):fN h (jc 0 ws) (g.callee ids sh) a' v:=by
 unfold RS at ha
 split at ha
 ·next t d Ls=>
  split at ha
  ·next Sc=>
   injection ha with ha;subst ha;obtain⟨F,r1,r2,r3⟩:=M2 hu hr Ls;simp only[fN];rcases hk with hk|⟨hk,hp,hp2,hp3⟩
   ·refine⟨F,r1,r2,fun b hb=>.inl ?_⟩;rcases r3 b hb with h3|⟨k,rfl,h3⟩
    exact h1 b h3;refine hk k b ?_ h3;simp only[agm,eH]at Sc;exact lH.1 Sc
   rcases Yk Ls hk hp hp2 hp3 with rfl|Lm
   ·refine⟨F,r1,r2,fun b hb=>.inl ?_⟩;rcases r3 b hb with h3|⟨k,h3,_⟩
    exact h1 b h3;cases h3
   have:=jC Lm r1;subst this;exact⟨[],r1,r2,by simp⟩
  cases ha
 cases ha
variable {ws:List U}
mutual
def Vn(hu:gQ h n0 S0 M0 us g)(hw:wUs ids (lu us) ids=some ws){sh:Nat→Prop}(h1:∀b,g.Sh b→sh b):
  ∀{av:AV} {v:Value} {a':AV},((∀k b,k∉ids→b∈g.φ k→sh b)∨av.hZ ids=true)→fN h us g av v→av.t8 ids (lu us)=some a'→fN h (jc 0 ws) (g.callee ids sh) a' v
 |.pw i0 el j,v,a',hk,hr,ha=>by
  obtain⟨hl,AE⟩:=qI hw;simp only[AV.t8]at ha;unfold pwW at ha
  split at ha
  ·next q hq=>
   injection ha with ha;subst ha;obtain⟨_,me⟩:=qj hq;simp only[eJ]at me;obtain⟨x,u,q1,q2,q3⟩:=AE _ _ me;simp only[fN]at hr⊢;obtain⟨ow',jR,gV,es',b,r1,r2,r3,r4,r5⟩:=hr;have:=hu.uniq r1 (f7 q2);subst this;cases x with
   |ar ow2 nn2 Lr es2=>
    simp only[mn]at q3;obtain⟨rfl,rfl,rfl,rfl,_⟩:=q3;refine⟨_,none,_,_,b,jF.2 ⟨q,_,q1,by rw[aa]⟩,r2,r3,?_,r5⟩;have:=(iR (g:=g) (sh:=sh) me).1;rw[aa]at this;rw[this];exact r4
   |_=>simp[mn]at q3
  next hq=>
  refine mF hu h1 (hk.imp (fun h=>h) fun hs=>?_) hr ha;simp[AV.hZ,hq]at hs
 |.sm i0 off len,v,a',hk,hr,ha=>by
  obtain⟨hl,AE⟩:=qI hw;simp only[AV.t8]at ha;unfold smW at ha
  split at ha
  ·next q hq=>
   injection ha with ha;subst ha;obtain⟨_,me⟩:=qj hq;simp only[eJ]at me;obtain⟨x,u,q1,q2,q3⟩:=AE _ _ me;simp only[fN]at hr⊢;obtain⟨ow',jR,gV,es',r1,r2,r3⟩:=hr;have:=hu.uniq r1 (f7 q2);subst this;cases x with
   |ar ow2 nn2 Lr es2=>
    simp only[mn]at q3;obtain⟨rfl,rfl,rfl,rfl,_⟩:=q3;refine⟨_,none,_,_,jF.2 ⟨q,_,q1,by rw[aa]⟩,r2,?_⟩;have:=iR (g:=g) (sh:=sh) me;rw[aa]at this;rw[this.1,this.2.2.1];exact r3
   |_=>simp[mn]at q3
  next hq=>
  refine mF hu h1 (hk.imp (fun h=>h) fun hs=>?_) hr ha;simp[AV.hZ,hq]at hs
 |.tr i0,v,a',hk,hr,ha=>by
  obtain⟨hl,AE⟩:=qI hw;simp only[AV.t8]at ha;unfold trW at ha
  split at ha
  ·next q hq=>
   injection ha with ha;subst ha;obtain⟨_,me⟩:=qj hq;simp only[eJ]at me;obtain⟨x,u,q1,q2,q3⟩:=AE _ _ me;simp only[fN]at hr⊢;obtain⟨⟨d,r1⟩,r2⟩:=hr;have:=hu.uniq r1 (f7 q2);subst this;cases x with
   |own d2=>
    simp only[mn]at q3;subst q3;have:=iR (g:=g) (sh:=sh) me;rw[aa]at this;exact⟨⟨_,jF.2 ⟨q,_,q1,by rw[aa]⟩⟩,by rw[this.2.2.2];exact r2⟩
   |_=>simp[mn]at q3
  next hq=>
  refine mF hu h1 (hk.imp (fun h=>h) fun hs=>?_) hr ha;simp[AV.hZ,hq]at hs
 |.pb i0 j,v,a',hk,hr,ha=>by
  obtain⟨hl,AE⟩:=qI hw;simp only[AV.t8]at ha;unfold pbW at ha
  split at ha
  ·next q hq=>
   injection ha with ha;subst ha;obtain⟨_,me⟩:=qj hq;simp only[eJ]at me;obtain⟨x,u,q1,q2,q3⟩:=AE _ _ me;simp only[fN]at hr⊢;obtain⟨sz,items,b,r1,r2,r3⟩:=hr;have:=hu.uniq r1 (f7 q2);subst this;cases x with
   |bx Lr H2=>
    simp only[mn]at q3;obtain⟨rfl,_⟩:=q3;have:=iR (g:=g) (sh:=sh) me;rw[aa]at this;exact⟨_,_,b,jF.2 ⟨q,_,q1,by rw[aa]⟩,by rw[this.1];exact r2,r3⟩
   |_=>simp[mn]at q3
  cases ha
 |.cl f vs,v,a',hk,hr,ha=>by
  simp only[AV.t8]at ha
  split at ha
  ·next as has=>
   injection ha with ha;subst ha;simp only[fN]at hr⊢;obtain⟨xs,r1,r2⟩:=hr;exact⟨xs,rU hu hw h1 (hk.imp (fun h=>h) fun hs=>by simpa[AV.hZ]using hs) r1 has,r2⟩
  cases ha
 |.sg vs,v,a',hk,hr,ha=>by
  simp only[AV.t8]at ha
  split at ha
  ·next as has=>
   injection ha with ha;subst ha;simp only[fN]at hr⊢;obtain⟨xs,r1,r2⟩:=hr;exact⟨xs,rU hu hw h1 (hk.imp (fun h=>h) fun hs=>by simpa[AV.hZ]using hs) r1 has,r2⟩
  cases ha
 |.im t d,v,a',hk,hr,ha=>by
  simp only[AV.t8]at ha;exact mF hu h1 (hk.imp (fun h=>h) fun hs=>⟨hs,by simp,by simp,by simp⟩) hr ha
 |.cw i0 el j sz agg,v,a',hk,hr,ha=>by
  simp only[AV.t8]at ha;exact mF hu h1 (hk.imp (fun h=>h) fun hs=>⟨hs,by simp,by simp,by simp⟩) hr ha
 |.vb i0 len,v,a',hk,hr,ha=>by
  simp only[AV.t8]at ha;exact mF hu h1 (hk.imp (fun h=>h) fun hs=>⟨hs,by simp,by simp,by simp⟩) hr ha
 |.lf vs,v,a',hk,hr,ha=>by
  simp only[AV.t8]at ha;exact mF hu h1 (hk.imp (fun h=>h) fun hs=>⟨hs,by simp,by simp,by simp⟩) hr ha
 |.ps i0,v,a',hk,hr,ha=>by
  simp only[AV.t8]at ha;exact mF hu h1 (hk.imp (fun h=>h) fun hs=>⟨hs,by simp,by simp,by simp⟩) hr ha
 |.any,v,a',hk,hr,ha=>by
  simp only[AV.t8]at ha;exact mF hu h1 (hk.imp (fun h=>h) fun hs=>⟨hs,by simp,by simp,by simp⟩) hr ha
 |.pq i0 el j iE jj j',v,a',hk,hr,ha=>by
  simp only[AV.t8]at ha;exact mF hu h1 (hk.imp (fun h=>h) fun hs=>⟨hs,by simp,by simp,by simp⟩) hr ha
 |.qs i0 el j iE off len,v,a',hk,hr,ha=>by
  simp only[AV.t8]at ha;exact mF hu h1 (hk.imp (fun h=>h) fun hs=>⟨hs,by simp,by simp,by simp⟩) hr ha
 |.ss i0 off len,v,a',hk,hr,ha=>by
  simp only[AV.t8]at ha;exact mF hu h1 (hk.imp (fun h=>h) fun hs=>⟨hs,by simp,by simp,by simp⟩) hr ha
 |.z0 nn sz,v,a',hk,hr,ha=>by
  simp only[AV.t8]at ha;exact mF hu h1 (hk.imp (fun h=>h) fun hs=>⟨hs,by simp,by simp,by simp⟩) hr ha
def rU(hu:gQ h n0 S0 M0 us g)(hw:wUs ids (lu us) ids=some ws){sh:Nat→Prop}(h1:∀b,g.Sh b→sh b):
  ∀{avs:List AV} {vs:List Value} {as:List AV},((∀k b,k∉ids→b∈g.φ k→sh b)∨ii ids avs=true)→fT h us g avs vs→rO ids (lu us) avs=some as→fT h (jc 0 ws) (g.callee ids sh) as vs
 | [],vs,as,hk,hr,ha=>by
  simp only[rO,oS]at ha;subst ha;simpa[fT]using hr
 |av::avs,vs,as,hk,hr,ha=>by
  simp only[fT]at hr;obtain⟨v,r,rfl,r1,r2⟩:=hr;simp only[rO]at ha
  split at ha
  ·next b bs e1 e2=>
   injection ha with ha;subst ha;have mM:(∀k b,k∉ids→b∈g.φ k→sh b)∨(av.hZ ids=true∧ii ids avs=true):=hk.imp (fun h=>h) fun hs=>by simpa[ii]using hs
   simp only[fT];exact⟨v,r,rfl,Vn hu hw h1 (mM.imp (fun h=>h) And.left) r1 e1,rU hu hw h1 (mM.imp (fun h=>h) And.right) r2 e2⟩
  cases ha
end
def Kz:∀{l:List Nat},ir ids un l=true→∀i∈l,U.hZ ids (un i)=true
 | [],_,i,hi=>by cases hi
 |j::l,h,i,hi=>by
  simp only[ir,bA]at h;rcases ab.1 hi with rfl|hi
  exact h.1;exact Kz h.2 i hi
def Ml(hu:gQ h n0 S0 M0 us g)(hw:wUs ids (lu us) ids=some ws)(hn:ids.Nodup)(h1:∀b,g.Sh b→sh b)(h2:∀b,sh b→b<h.size∧∀id∈ids,b∉g.φ id)
  (hk:(∀k b,k∉ids→b∈g.φ k→sh b)∨ir ids (lu us) ids=true):QX h sh ws (g.callee ids sh):=by
 obtain⟨hl,AE⟩:=qI hw;have BK:∀x∈jc 0 ws,∃i id,ids[i]?=some id∧∃u v,ws[i]?=some u∧x=(3000000000+(0+i),u)∧lu us id=some v∧mn ids (lu us) v u:=by
  intro x hx;obtain⟨i,u,e1,rfl⟩:=jF.1 hx;have hi:i<ids.length:=by rw[←hl];exact(bj.1 e1).1
  have e:ids[i]?=some ids[i]:=by simp[hi]
  obtain⟨u',v,q1,q2,q3⟩:=AE i _ e;rw[e1]at q1;cases q1;exact⟨i,_,e,u,v,e1,rfl,q2,q3⟩
 have ahW:∀b,b∈fp (g.callee ids sh) (jc 0 ws)→b∈fp g us:=by
  intro b hb;obtain⟨id,me,hb⟩:=(zm hl).1 hb;obtain⟨i,hi,rfl⟩:=dE me;obtain⟨u,v,_,q2,_⟩:=AE i ids[i] (by simp[hi]);exact gn.2 ⟨_,f7 q2,hb⟩
 refine⟨nh qH ?_ ?_,fun b hb=>hu.lt b (ahW b hb),fun b hb=>hu.fz b (ahW b hb),?_,fun b hb=>⟨(h2 b hb).1,hb,fun hf=>?_⟩,?_,?_⟩;intro x hx;obtain⟨i,id,e,u,v,e1,rfl,q2,_⟩:=BK x hx;rw[(iR e).2.1];exact iZ hu (f7 q2);intro x hx y hy b xJ oL;obtain⟨i,id,e,u,v,e1,rfl,q2,_⟩:=BK x hx;obtain⟨i',id',e',u',v',e1',rfl,q2',_⟩:=BK y hy;rw[(iR e).2.1]at xJ;rw[(iR e').2.1]at oL;have:=iA hu.keys hu.nodup (f7 q2) (f7 q2') xJ oL;simp only at this;subst this;have p1:=uJ (n:=0) hn e;have p2:=uJ (n:=0) hn e';rw[p1]at p2;simp only[oS]at p2;simp only;omega
 ·intro k hk;simp only[Gh.callee]
  split
  ·next i hi=>
   exfalso;unfold tz at hi
   split at hi
   ·next hle=>
    have iq:=(bj.1 hi).1;exact hk (Fq.2 ⟨k-3000000000,by omega,by omega⟩)
   cases hi
  rfl
 obtain⟨id,me,xI⟩:=(zm hl).1 hf;exact(h2 b hb).2 id me xI
 ·intro x hx;obtain⟨i,id,e,u,v,e1,rfl,q2,q3⟩:=BK x hx;have ho:=hu.each _ (f7 q2);cases v with
  |ar ow nn sz es=>
   cases u with
   |ar ow2 nn2 Lr es2=>
    simp only[mn]at q3;obtain⟨rfl,rfl,rfl,rfl,_⟩:=q3;simp only[jn]at ho⊢;rw[(iR e).1,(iR e).2.1,(iR e).2.2.1];obtain⟨o1,o2,o3⟩:=ho;refine⟨o1,o2,?_⟩;rcases o3 with⟨p1,p2,p3,p4⟩|⟨b,c,ty,G,cs,rest,k1,k2,k3,k4,k5,k6,k7,k8⟩
    ·exact .inl ⟨p1,p2,p3,by simp⟩
    refine .inr ⟨b,c,ty,G,cs,rest,k1,k2,k3,k4,k5,k6,by simp,?_⟩
    split
    ·next hw=>rw[af hw]at k8;exact k8
    next hw=>rw[ae hw]at k8;exact⟨k8.1,fun x hx=>h1 x (k8.2 x hx)⟩
   |_=>simp[mn]at q3
  |own d=>
   cases u with
   |own d2=>
    simp only[mn]at q3;subst q3;simp only[jn]at ho⊢;rw[(iR e).1,(iR e).2.1,(iR e).2.2.2];exact ho
   |_=>simp[mn]at q3
  |bx sz items=>
   cases u with
   |bx Lr H2=>
    simp only[mn]at q3;obtain⟨rfl,q3⟩:=q3;simp only[jn]at ho⊢;rw[(iR e).1,(iR e).2.1];obtain⟨o1,b,c,ty,vs,rest,k1,k2,k3,k4,k5,k6⟩:=ho;have jQ:=rU hu hw h1 (hk.imp (fun h=>h) fun hs=>by have:=Kz hs id (eF e);rw[q2]at this;exact this) k4 q3;refine⟨?_,b,c,ty,vs,rest,k1,k2,k3,jQ,k5,k6⟩;rw[←oV jQ,oV k4];exact o1
   |_=>simp[mn]at q3
  |sb T E s=>cases u<;>simp[mn]at q3
 intro x hx hp;obtain⟨i,id,e,u,v,e1,rfl,q2,q3⟩:=BK x hx;rw[(iR e).1];intro hb;have ho:=hu.each _ (f7 q2);cases v with
 |ar ow nn sz es=>
  cases u with
  |ar ow2 nn2 Lr es2=>
   simp only[mn]at q3;obtain⟨_,_,_,_,q3⟩:=q3;simp only[jn]at ho;rcases ho.2.2 with⟨p1,p2,p3,p4⟩|⟨b,c,ty,G,cs,rest,k1,_⟩
   exact q3.elim p4 (fun h=>h p2);rw[hb]at k1;cases k1
  |_=>simp[mn]at q3
 |own d=>
  cases u with
  |own d2=>cases hp
  |_=>simp[mn]at q3
 |bx sz items=>
  simp only[jn]at ho;obtain⟨_,b,c,ty,vs,rest,k1,_⟩:=ho;rw[hb]at k1;cases k1
 |sb T E s=>cases u<;>simp[mn]at q3
mutual
def aax{h:jv}{wb:List U}{g2:Gh}(hA:∀k,3000000000≤k→k<3000000000+m→∀u,(k,u)∈jc 0 wb→∃u2,(ids.getD (k-3000000000) 0,u2)∈us'∧nE u u2∧g2.β (ids.getD (k-3000000000) 0)=g'.β k):
  ∀{av:AV} {v:Value},av.okW m=true→fN h (jc 0 wb) g' av v→fN h us' g2 (av.Ih ids) v
 |.im none d,v,ho,hr=>by
  simp only[AV.okW]at ho;simp only[AV.Ih,fN]at hr⊢;obtain⟨F,r1,r2,r3⟩:=hr;have:=jC (D.mq ho) r1;subst this;exact⟨[],r1,r2,by simp⟩
 |.im (some t) d,v,ho,hr=>by simp[AV.okW]at ho
 |.pw k el j,v,ho,hr=>by
  simp only[AV.okW,bA,a7]at ho;simp only[AV.Ih,fN]at hr⊢;obtain⟨ow,nn,sz,es,b,r1,r2,r3,r4,r5⟩:=hr;obtain⟨u2,q1,q2,q3⟩:=hA k ho.1 ho.2 _ r1;cases u2 with
  |ar ow2 nn2 Lr es2=>simp only[nE]at q2;obtain⟨rfl,q2⟩:=q2;exact⟨_,_,_,_,b,q1,by omega,r3,by rw[q3];exact r4,r5⟩
  |_=>simp[nE]at q2
 |.pb k j,v,ho,hr=>by
  simp only[AV.okW,bA,a7]at ho;simp only[AV.Ih,fN]at hr⊢;obtain⟨sz,items,b,r1,r2,r3⟩:=hr;obtain⟨u2,q1,q2,q3⟩:=hA k ho.1 ho.2 _ r1;cases u2 with
  |bx Lr H2=>simp only[nE]at q2;obtain⟨rfl,q2⟩:=q2;exact⟨_,_,b,q1,by rw[q3];exact r2,r3⟩
  |_=>simp[nE]at q2
 |.cl f vs,v,ho,hr=>by
  simp only[AV.okW]at ho;simp only[AV.Ih,fN]at hr⊢;obtain⟨xs,r1,r2⟩:=hr;exact⟨xs,yr hA ho r1,r2⟩
 |.sg vs,v,ho,hr=>by
  simp only[AV.okW]at ho;simp only[AV.Ih,fN]at hr⊢;obtain⟨xs,r1,r2⟩:=hr;exact⟨xs,yr hA ho r1,r2⟩
 |.tr _,v,ho,hr=>by simp[AV.okW]at ho
 |.cw _ _ _ _ _,v,ho,hr=>by simp[AV.okW]at ho
 |.sm _ _ _,v,ho,hr=>by simp[AV.okW]at ho
 |.vb _ _,v,ho,hr=>by simp[AV.okW]at ho
 |.lf _,v,ho,hr=>by simp[AV.okW]at ho
 |.any,v,ho,hr=>by simp[AV.okW]at ho
 |.ps _,v,ho,hr=>by simp[AV.okW]at ho
 |.pq _ _ _ _ _ _,v,ho,hr=>by simp[AV.okW]at ho
 |.qs _ _ _ _ _ _,v,ho,hr=>by simp[AV.okW]at ho
 |.ss _ _ _,v,ho,hr=>by simp[AV.okW]at ho
 |.z0 _ _,v,ho,hr=>by simp[AV.okW]at ho
def yr{h:jv}{wb:List U}{g2:Gh}(hA:∀k,3000000000≤k→k<3000000000+m→∀u,(k,u)∈jc 0 wb→∃u2,(ids.getD (k-3000000000) 0,u2)∈us'∧nE u u2∧g2.β (ids.getD (k-3000000000) 0)=g'.β k):
  ∀{avs:List AV} {vs:List Value},mG m avs=true→fT h (jc 0 wb) g' avs vs→fT h us' g2 (tV ids avs) vs
 | [],vs,_,hr=>by simpa[fT,tV]using hr
 |a::as,vs,ho,hr=>by
  simp only[mG,bA]at ho;simp only[fT,tV]at hr⊢;obtain⟨v,r,rfl,h1,h2⟩:=hr;exact⟨v,r,rfl,aax hA ho.1 h1,yr hA ho.2 h2⟩
end
def yj:∀{avs:List AV},(tV ids avs).length=avs.length
 | []=>by simp[tV]
 |a::as=>by simp[tV,yj (avs:=as)]
def ve{us':List U}:∀{us:List (Nat×U)} {x:Nat×U},x∈pk ids k1 k2 us' us↔x.1∉k2∧∃u,(x.1,u)∈us∧x.2=ye (gU k1 0 x.1) ids k1 k2 us' u
 | [],x=>by simp[pk]
 |(i,u)::r,(j,v)=>by
  simp only[pk]
  split
  ·next hs=>
   rw[ve (us:=r)];simp only[ab,cW];have hk:i∈k2:=by
    rcases Classical.em (i∈k2)with h|h
    exact h;rw[lH.2 h]at hs;cases hs
   constructor
   ·rintro⟨h1,u',h2,h3⟩;exact⟨h1,u',.inr h2,h3⟩
   rintro⟨h1,u',⟨rfl,rfl⟩|h2,h3⟩;exact absurd hk h1;exact⟨h1,u',h2,h3⟩
  next hs=>
  have hk:i∉k2:=by
   intro h;cases hp:gU k2 0 i with
   |none=>exact lH.1 hp h
   |some q=>rw[hp]at hs;simp at hs
  simp only[ab,ve (us:=r),cW];constructor
  ·rintro(⟨rfl,rfl⟩|⟨h0,u',h1,h2⟩);exact⟨hk,u,.inl ⟨rfl,rfl⟩,rfl⟩;exact⟨h0,u',.inr h1,h2⟩
  rintro⟨h0,u',⟨rfl,rfl⟩|h1,h2⟩;exact .inl ⟨rfl,h2⟩;exact .inr ⟨h0,u',h1,h2⟩
def vL{us':List U}:∀{us:List (Nat×U)},((pk ids k1 k2 us' us).map (·.1)).Sublist (us.map (·.1))
 | []=>by simp[pk]
 |(i,u)::r=>by
  simp only[pk]
  split;exact List.Sublist.cons _ vL;simp only[lC];exact List.Sublist.cons_cons _ vL
def Gt:∀{l:List AV} {as:List AV},rO ids un l=some as→as.length=l.length
 | [],as,h=>by simp only[rO,oS]at h;subst h;rfl
 |a::l,as,h=>by
  simp only[rO]at h
  split at h
  ·next b bs e1 e2=>injection h with h;subst h;simp[Gt e2]
  cases h
variable {u':U}
def zL{v x:U}{b:Bool}(h1:mn ids un v x)(h2:ij m b x u'):nE v (Ac ids v u')∧nE u' (Ac ids v u')∧((Ac ids v u').kb=true→v.kb=true):=by
 cases v with
 |ar ow nn sz es=>
  cases x with
  |ar ow2 nn2 Lr es2=>
   cases u' with
   |ar ow3 nn3 sz3 es3=>
    simp only[mn]at h1;simp only[ij]at h2;obtain⟨rfl,rfl,rfl,rfl,_⟩:=h1;obtain⟨rfl,rfl,h2,_⟩:=h2;exact⟨⟨rfl,h2⟩,⟨rfl,rfl⟩,fun e=>U.na.2 (U.na.1 e)⟩
   |_=>simp[ij]at h2
  |_=>simp[mn]at h1
 |own d=>
  cases x with
  |own d2=>simp[ij]at h2
  |_=>simp[mn]at h1
 |bx sz items=>
  cases x with
  |bx Lr H2=>
   cases u' with
   |bx sz3 afG=>
    simp only[mn]at h1;simp only[ij]at h2;obtain⟨rfl,h1⟩:=h1;obtain⟨rfl,h2,_⟩:=h2;have:=Gt h1;exact⟨⟨rfl,by rw[yj,h2,this]⟩,⟨rfl,yj⟩,fun _=>rfl⟩
   |_=>simp[ij]at h2
  |_=>simp[mn]at h1
 |sb T E s=>cases x<;>simp[mn]at h1
def Ti(h:At n0 S0 M0 w0 st o a w g){f:Nat}{kk:St→Prop}(hH:mN P f→(execOp a.eval o).run P w=.ok (.enter f vs.toArray) w)(hr:fT w.heap st.us g avs vs)
  (hq:Jb P o.dst f avs st kk):o.wp P a w (km n0 S0 M0 w0 st.n kk) Q':=by
 obtain⟨k1,k2,ws,as,wb,r,kn,hw,has,⟨rh,_,hA⟩,hm,afH,hk⟩:=hq;have hn:=A9 kn;generalize Xk:k1++k2=ids at hw has hn afH hk;generalize iy:(ii ids avs&&ir ids st.unit ids)=iC at afH;have Xl:k1.Nodup:=by rw[←Xk]at hn;exact(aX.1 hn).1
 have ahX:∀k,k∈k1→k∉k2:=by
  rw[←Xk]at hn;intro k h1 h2;exact(aX.1 hn).2.2 k h1 k h2 rfl
 have nK:∀k,k∈ids↔k∈k1∨k∈k2:=fun k=>by rw[←Xk];exact an
 obtain⟨hl,AE⟩:=qI hw;obtain⟨_,ho1⟩:=FL afH;have hs:=h.sat;have hu:=h.us;have W7:n0≤w.heap.size:=by rw[hs.base];exact hs.size
 have Xm:∀id∈ids,∃u,(id,u)∈st.us:=by
  intro id me;obtain⟨i,hi,rfl⟩:=dE me;obtain⟨x,v,_,q2,_⟩:=AE i ids[i] (by simp[hi]);exact⟨_,f7 q2⟩
 let sh:Nat→Prop:=fun b=>if iC=true then g.Sh b else b<w.heap.size∧∀id∈ids,b∉g.φ id
 have h1:∀b,g.Sh b→sh b:=by
  intro b hb;simp only[sh]
  split;exact hb
  refine⟨(hu.sh b hb).1,fun id me xI=>?_⟩;obtain⟨u,wN⟩:=Xm id me;exact(hu.sh b hb).2.2 (gn.2 ⟨_,wN,xI⟩)
 have h2:∀b,sh b→b<w.heap.size∧∀id∈ids,b∉g.φ id:=by
  intro b hb;simp only[sh]at hb
  split at hb
  ·refine⟨(hu.sh b hb).1,fun id me xI=>?_⟩;obtain⟨u,wN⟩:=Xm id me;exact(hu.sh b hb).2.2 (gn.2 ⟨_,wN,xI⟩)
  exact hb
 have Ls:(∀k b,k∉ids→b∈g.φ k→sh b)∨(ii ids avs=true∧ir ids st.unit ids=true):=by
  cases ha:iC with
  |true=>rw[ha]at iy;exact .inr (by simpa using iy)
  |false=>
   refine .inl fun k b hki hb=>?_;simp only[sh,ha,mI,aA];obtain⟨u,wN⟩:=hu.live hb;refine⟨hu.lt b (gn.2 ⟨_,wN,hb⟩),fun id me xI=>hki ?_⟩;obtain⟨u2,Bq⟩:=Xm id me;have:=iA hu.keys hu.nodup wN Bq hb xI;simp only at this;rw[this];exact me
 have hW:=Ml hu hw hn h1 h2 (Ls.imp (fun h=>h) And.right);have K3:fT w.heap (jc 0 ws) (g.callee ids sh) as vs:=rU hu hw h1 (Ls.imp (fun h=>h) And.left) hr has;unfold Oper.wp;rw[hH rh,eV];refine(hA w vs sh _ hW K3).mono ?_;rintro e w' ⟨v,F,g',rfl,e1,e2,e3,jP,Em,hE,hR⟩;have S:∀b,b∈fp (g.callee ids sh) (jc 0 ws)↔∃id∈ids,b∈g.φ id:=fun b=>zm hl;have Sin:∀b,(∃id∈ids,b∈g.φ id)→b∈fp g st.us:=by
  rintro b ⟨id,me,hb⟩;obtain⟨u,wN⟩:=Xm id me;exact gn.2 ⟨_,wN,hb⟩
 have Xn:∀y u,(y,u)∈st.us→y∉ids→∀b,b∈g.φ y→¬∃id∈ids,b∈g.φ id:=by
  rintro y u hy XV b hb ⟨id,me,xI⟩;obtain⟨u2,Bq⟩:=Xm id me;have:=iA hu.keys hu.nodup hy Bq hb xI;simp only at this;rw[this]at XV;exact XV me
 have fr:∀b,b<w.heap.size→(¬∃id∈ids,b∈g.φ id)→w'.heap[b]?=w.heap[b]?:=fun b hb hS=>Em b hb fun hf=>hS ((S b).1 hf);have frS:∀b,g.Sh b→w'.heap[b]?=w.heap[b]?:=fun b hb=>fr b (hu.sh b hb).1 fun hS=>(hu.sh b hb).2.2 (Sin b hS);have fro:∀y u,(y,u)∈st.us→y∉ids→∀b,b∈g.φ y→w'.heap[b]?=w.heap[b]?:=fun y u hy XV b hb=>fr b (hu.lt b (gn.2 ⟨_,hy,hb⟩)) (Xn y u hy XV b hb)
 let g2:Gh:=⟨g.β,fun k=>match gU k1 0 k with|some q=>g'.φ (3000000000+(0+q))|none=>(match gU k2 0 k with|some _=>[]|none=>g.φ k),g.root,g.cap,fun b=>g.Sh b∨(iC=true∧b<w'.heap.size∧g'.Sh b)⟩
 have φi:∀{i id:Nat},k1[i]?=some id→g2.φ id=g'.φ (3000000000+(0+i)):=by
  intro i id hi;have:=uJ (n:=0) Xl hi;simp only[g2,this,aa]
 have φo:∀{k:Nat},k∉ids→g2.φ k=g.φ k:=by
  intro k hk;rw[nK]at hk;simp only[g2,lH.2 (fun h=>hk (.inl h)),lH.2 (fun h=>hk (.inr h))]
 have φd:∀{k:Nat},k∈k2→g2.φ k=[]:=by
  intro k hk;have hk1:k∉k1:=fun h=>ahX k h hk;simp only[g2,lH.2 hk1]
  split;rfl
  next hp=>exact absurd hk (lH.1 hp)
 have kept:∀(i id:Nat),k1[i]?=some id→ids[i]?=some id∧∃x v u',ws[i]?=some x∧wb[i]?=some u'∧(id,v)∈st.us∧mn ids (lu st.us) v x∧ij k1.length iC x u'∧(3000000000+(0+i),u')∈jc 0 wb:=by
  intro i id hi;have iq:=(bj.1 hi).1;have e:ids[i]?=some id:=by rw[←Xk,bL iq];exact hi
  obtain⟨x,v,q1,q2,q3⟩:=AE i id e;have Nw:i<wb.length:=by omega
  have e':wb[i]?=some wb[i]:=by simp[Nw]
  exact⟨e,x,v,wb[i],q1,e',f7 q2,q3,ho1 i _ _ q1 e',jF.2 ⟨i,_,e',rfl⟩⟩
 have φin:∀(i id:Nat),k1[i]?=some id→∀b,b∈g'.φ (3000000000+(0+i))→b∈fp g' (jc 0 wb):=by
  intro i id hi b hb;obtain⟨_,_,_,_,_,_,_,_,_,hm⟩:=kept i id hi;exact gn.2 ⟨_,hm,hb⟩
 have hnF:=aX.1 hE.nodup;have Nx:∀b,b∈fp g' (jc 0 wb)→b<w'.heap.size∧t7 w'.heap b∧(b<w.heap.size→∃id∈ids,b∈g.φ id)∧¬g'.Sh b:=by
  intro b hb;obtain⟨p1,p2,p3,p4⟩:=hE.all b (dF _ hb);exact⟨p1,p2,fun iq=>(S b).1 (p3 iq),p4⟩
 have afI:∀(i id:Nat)(v u':U),k1[i]?=some id→wb[i]?=some u'→(id,v)∈st.us→(id,Ac ids v u')∈pk ids k1 k2 wb st.us:=by
  intro i id v u' hi e' hv;refine ve.2 ⟨ahX id (eF hi),v,hv,?_⟩;have:=uJ (n:=0) Xl hi;have hd:wb.getD i default=u':=by simp[List.getD,e']
  simp only[this,ye,aa,hd]
 have K:pe k1 k2 (re k1 k2) w.heap w'.heap st.us (pk ids k1 k2 wb st.us) g g2:=by
  refine⟨?_,?_,fun _ _=>⟨rfl,rfl,rfl⟩,?_,?_,?_⟩;intro av hf;simp only[re,ck]at hf;exact⟨AU hf.1,AQ hf.2⟩
  ·intro i u hi Xl hn2;exact ve.2 ⟨hn2,u,hi,by simp only[lH.2 Xl];rfl⟩
  ·intro i u b hi alB alC hb;exact fro i u hi (fun h=>((nK i).1 h).elim alB alC) b ((hu.each _ hi).kr hb)
  ·intro t d F' cs ht1 ht2 hrp kA;have hx:∀x∈F',w'.heap[x]?=w.heap[x]?:=by
    intro x hx;rcases kA x hx with q|⟨i,rfl,q,_⟩
    exact frS x q;obtain⟨u,wN⟩:=hu.live q;exact fro i u wN (fun hi=>((nK i).1 hi).elim (fun h=>ht1 i h rfl) (fun h=>ht2 i h rfl)) x q
   refine⟨hrp.frame hx,fun x hx=>?_⟩;rcases kA x hx with q|⟨i,rfl,q,q'⟩
   exact .inl (.inl q);exact .inr ⟨i,rfl,by rw[φo fun hi=>((nK i).1 hi).elim (fun h=>ht1 i h rfl) (fun h=>ht2 i h rfl)];exact q,q'⟩
  intro id me;obtain⟨i,hi,rfl⟩:=dE me;have e:k1[i]?=some k1[i]:=by simp[hi]
  obtain⟨_,x,v,u',q1,Lq,q2,q3,q4,_⟩:=kept i _ e;exact⟨v,Ac ids v u',fun y hy=>hu.uniq hy q2,afI i _ v u' e Lq q2,(zL q3 q4).1⟩
 have BK:∀x∈pk ids k1 k2 wb st.us,(∃(i id:Nat) (y v u':U),x=(id,Ac ids v u')∧k1[i]?=some id∧wb[i]?=some u'∧(id,v)∈st.us∧mn ids (lu st.us) v y∧ij k1.length iC y u'∧ids[i]?=some id)∨(x.1∉ids∧∃u,(x.1,u)∈st.us∧x.2=u.kill (re k1 k2)):=by
  intro x hx;obtain⟨p0,u,p1,p2⟩:=ve.1 hx;cases hp:gU k1 0 x.1 with
  |none=>exact .inr ⟨fun h=>((nK _).1 h).elim (lH.1 hp) p0,u,p1,by rw[p2,hp];rfl⟩
  |some q=>
   obtain⟨_,me⟩:=qj hp;simp only[eJ]at me;obtain⟨ee,y,v,u',q1,Lq,q2,q3,q4,_⟩:=kept q _ me;have:=hu.uniq p1 q2;subst this;have hd:wb.getD q default=u':=by simp[List.getD,Lq]
   exact .inl ⟨q,x.1,y,u,u',by rw[hp]at p2;simp only[ye,hd]at p2;rw[←p2],me,Lq,q2,q3,q4,ee⟩
 have SD:∀b,b∈fp g2 (pk ids k1 k2 wb st.us)→b∈fp g' (jc 0 wb)∨∃y u,(y,u)∈st.us∧y∉ids∧b∈g.φ y:=by
  intro b hb;obtain⟨x,hx,xJ⟩:=gn.1 hb;rcases BK x hx with⟨i,id,y,v,u',rfl,e,Lq,q2,q3,q4,_⟩|⟨H3,u,Sd,_⟩
  rw[φi e]at xJ;exact .inl (φin i id e b xJ);rw[φo H3]at xJ;exact .inr ⟨x.1,u,Sd,H3,xJ⟩
 have hAw:∀k,3000000000≤k→k<3000000000+k1.length→∀u,(k,u)∈jc 0 wb→∃u2,(ids.getD (k-3000000000) 0,u2)∈pk ids k1 k2 wb st.us∧nE u u2∧g2.β (ids.getD (k-3000000000) 0)=g'.β k:=by
  intro k hk1 tR u hku;have hi:k-3000000000<k1.length:=by omega
  generalize hq:k-3000000000=i at hi;have hk:k=3000000000+(0+i):=by omega
  subst hk;have e:k1[i]?=some k1[i]:=by simp[hi]
  obtain⟨ee,x,v,u',q1,Lq,q2,q3,q4,q5⟩:=kept i _ e;have hgd:ids.getD i 0=k1[i]:=by simp[List.getD,ee]
  rw[hgd];have huu:u=u':=by
   obtain⟨j,y,p1,p2⟩:=jF.1 hku;rw[cW]at p2;obtain⟨p2,p3⟩:=p2;have:j=i:=by omega
   subst this;rw[Lq]at p1;cases p1;exact p3
  subst huu;refine⟨Ac ids v u,afI i _ v u e Lq q2,(zL q3 q4).2.1,?_⟩;have hp:=(hE.AB _ q5).1;simp only at hp;rw[hp,(iR ee).1]
 have hV:∀av x,re k1 k2 av=false→fN w.heap st.us g av x→fN w'.heap (pk ids k1 k2 wb st.us) g2 av x:=fun av x hf hr=>K.rep av x hf hr;have hU:gQ w'.heap n0 S0 M0 (pk ids k1 k2 wb st.us) g2:=by
  refine⟨hu.keys.sublist vL,nh (hu.keys.sublist vL) ?_ ?_,?_,?_,?_,?_,?_,?_,?_⟩
  ·intro x hx;rcases BK x hx with⟨i,id,y,v,u',rfl,e,Lq,q2,q3,q4,_⟩|⟨H3,u,Sd,_⟩
   rw[φi e];obtain⟨_,_,_,_,_,_,_,_,_,hm⟩:=kept i id e;exact AL hnF.2.1 _ hm;rw[φo H3];exact iZ hu Sd
  ·intro x hx y hy b xJ oL;rcases BK x hx with⟨i,id,x0,v,u',rfl,e,Lq,q2,q3,q4,_⟩|⟨H3,u,Sd,_⟩<;>rcases BK y hy with⟨j,jd,y0,v1,v1',rfl,f,r1',r2,r3,r4,_⟩|⟨hnj,v1,hyv,_⟩
   ·rw[φi e]at xJ;rw[φi f]at oL;obtain⟨_,_,_,_,_,_,_,_,_,hm1⟩:=kept i id e;obtain⟨_,_,_,_,_,_,_,_,_,BI⟩:=kept j jd f;have:=iA qH hnF.2.1 hm1 BI xJ oL;simp only at this;have:i=j:=by omega
    subst this;rw[e]at f;exact aD f
   rw[φi e]at xJ;rw[φo hnj]at oL;have iq:=hu.lt b (gn.2 ⟨_,hyv,oL⟩);exact absurd ((Nx b (φin i id e b xJ)).2.2.1 iq) (Xn _ _ hyv hnj b oL);rw[φi f]at oL;rw[φo H3]at xJ;have iq:=hu.lt b (gn.2 ⟨_,Sd,xJ⟩);exact absurd ((Nx b (φin j jd f b oL)).2.2.1 iq) (Xn _ _ Sd H3 b xJ);rw[φo H3]at xJ;rw[φo hnj]at oL;exact iA (x:=(x.1,u)) (y:=(y.1,v1)) hu.keys hu.nodup Sd hyv xJ oL
  ·intro b hb;rcases SD b hb with h|⟨y,u,hy,_,oL⟩
   exact(Nx b h).1;have:=hu.lt b (gn.2 ⟨_,hy,oL⟩);omega
  ·intro b hb iq;rcases SD b hb with h|⟨y,u,hy,_,oL⟩
   exact hu.low b (Sin b ((Nx b h).2.2.1 (by omega))) iq;exact hu.low b (gn.2 ⟨_,hy,oL⟩) iq
  ·intro k hk
   by_cases tR:k∈k2;exact φd tR
   have hki:k∉ids:=fun hi=>by
    rcases(nK k).1 hi with hk1|h
    ·obtain⟨i,hi',rfl⟩:=dE hk1;have e:k1[i]?=some k1[i]:=by simp[hi']
     obtain⟨_,x,v,u',q1,Lq,q2,q3,q4,_⟩:=kept i _ e;exact hk (aB.2 ⟨_,afI i _ v u' e Lq q2,rfl⟩)
    exact tR h
   rw[φo hki];refine hu.dead k fun hm=>hk ?_;obtain⟨x,hx,rfl⟩:=aB.1 hm;exact aB.2 ⟨_,K.mem x.1 x.2 hx (fun h=>hki ((nK _).2 (.inl h))) tR,rfl⟩
  ·intro b hb;rcases hb with hb|⟨Xe,iq,hb⟩
   ·obtain⟨p1,p2,p3⟩:=hu.sh b hb;refine⟨by omega,p2,fun hf=>?_⟩;rcases SD b hf with h|⟨y,u,hy,_,oL⟩
    exact p3 (Sin b ((Nx b h).2.2.1 p1));exact p3 (gn.2 ⟨_,hy,oL⟩)
   have o4:=(hE.sh b hb).2;have hold:b<w.heap.size→g.Sh b∨∃id∈ids,b∈g.φ id:=fun iq=>(o4 iq).imp (fun h=>by simpa only[sh,af Xe]using h) (S b).1;refine⟨iq,fun afJ=>?_,fun hf=>?_⟩
   ·rcases hold (by omega)with h|h
    exact(hu.sh b h).2.1 afJ;exact hs.ms b afJ (hu.low b (Sin b h) afJ)
   rcases SD b hf with h|⟨y,u,hy,XV,oL⟩
   exact(Nx b h).2.2.2 hb;have Nw:=hu.lt b (gn.2 ⟨_,hy,oL⟩);rcases hold Nw with h|h
   exact(hu.sh b h).2.2 (gn.2 ⟨_,hy,oL⟩);exact Xn y u hy XV b oL h
  ·intro x hx;rcases BK x hx with⟨i,id,y,v,u',rfl,e,Lq,q2,q3,q4,ee⟩|⟨H3,u,Sd,EB⟩
   ·obtain⟨_,_,_,_,_,_,_,_,_,hm⟩:=kept i id e;have hmu:(3000000000+(0+i),u')∈jc 0 wb:=jF.2 ⟨i,u',Lq,rfl⟩;have ho:=hE.each _ hmu;have hp:=hE.AB _ hmu;simp only at hp;rw[(iR ee).1,(iR ee).2.2.1]at hp;have hold:=hu.each _ q2;simp only;cases v with
    |ar ow nn sz es=>
     cases y with
     |ar ow2 nn2 Lr es2=>
      cases u' with
      |ar ow3 nn3 sz3 es3=>
       simp only[ij]at q4;obtain⟨rfl,_,_,o3⟩:=q4;simp only[Ac,jn]at ho hold⊢;rw[φi e];rw[hp.1,hp.2]at ho;obtain⟨z1,z2,z3⟩:=ho;refine⟨z1,z2,?_⟩;have Ed:g.β id=none→nn≠some false:=by
        intro hb;rcases hold.2.2 with⟨_,_,_,p⟩|⟨b,_,_,_,_,_,p,_⟩
        exact p;rw[hb]at p;cases p
       have nn2:∀b,g.β id=some b→nn≠some true:=by
        intro b hb;rcases hold.2.2 with⟨p,_⟩|⟨b',_,_,_,_,_,_,_,_,_,_,_,p,_⟩
        rw[hb]at p;cases p;exact p
       rcases z3 with⟨p1,p2,p3,p4⟩|⟨b,c,ty,G,cs,rest,k1,k2,k3,k4,k5,k6,k7,k8⟩
       exact .inl ⟨p1,p2,p3,Ed p1⟩;refine .inr ⟨b,c,ty,G,cs,rest,k1,k2,k3,k4,k5,k6,nn2 b k1,?_⟩
       split
       ·next hw=>rw[af hw]at k8;exact k8
       next hw=>
       rw[ae hw]at k8;refine⟨k8.1,fun y hy=>?_⟩;rcases o3 with o3|o3|o3
       exact .inr ⟨o3,k6.lt y hy,k8.2 y hy⟩;exact absurd o3 hw;rw[kU o3 k6]at hy;cases hy
      |_=>simp[ij]at q4
     |_=>simp[mn]at q3
    |own d=>
     cases y with
     |own d2=>simp[ij]at q4
     |_=>simp[mn]at q3
    |bx sz items=>
     cases y with
     |bx Lr H2=>
      cases u' with
      |bx sz3 afG=>
       simp only[ij]at q4;obtain⟨rfl,_,o3⟩:=q4;simp only[Ac,jn]at ho⊢;rw[φi e];rw[hp.1]at ho;obtain⟨z1,b,c,ty,xs,rest,z2,z3,z4,z5,z6,z7⟩:=ho;exact⟨by rw[yj];exact z1,b,c,ty,xs,rest,z2,z3,z4,yr hAw o3 z5,z6,z7⟩
      |_=>simp[ij]at q4
     |_=>simp[mn]at q3
    |sb T E s=>cases y<;>simp[mn]at q3
   rw[EB];exact(hu.each _ Sd).qN K Sd (fun h=>H3 ((nK _).2 (.inl h))) (fun h=>H3 ((nK _).2 (.inr h))) (φo H3) (fun b hb=>fro _ _ Sd H3 b hb) (fun b hb=>⟨.inl hb,frS b hb⟩)
  ·intro b hb;rcases SD b hb with h|⟨y,u,hy,XV,oL⟩
   exact(Nx b h).2.1;obtain⟨c,ty,hc⟩:=hu.fz b (gn.2 ⟨_,hy,oL⟩);exact⟨c,ty,by rw[fro y u hy XV b oL];exact hc⟩
  refine hu.AB.mono fun i u hm yY=>⟨?_,rfl,rfl⟩;rcases BK _ hm with⟨i1,id,y,v,u',e0,e,Lq,q2,q3,q4,_⟩|⟨H3,u0,Sd,EB⟩
  ·injection e0 with e0 e0';subst e0 e0';exact⟨v,q2,(zL q3 q4).2.2 yY⟩
  simp only at EB;rw[EB,U.sD]at yY;exact⟨u0,Sd,yY⟩
 have jQ:∀t,fN w'.heap (pk ids k1 k2 wb st.us) g2 (lk (jp (re k1 k2) st.env) t) (a.tmps.getD t undef):=fun t=>kp hV (h.rep t);have hSt:st.abV k1 k2 wb=⟨st.n,jp (re k1 k2) st.env,pk ids k1 k2 wb st.us⟩:=by rw[←Xk];rfl
 rw[hSt]at hk;have hS:k9 n0 S0 M0 w0 ⟨st.n,jp (re k1 k2) st.env,pk ids k1 k2 wb st.us⟩ a w':=by
  refine⟨hs.ms,hs.v8,hs.tm,hs.base,e1.trans hs.os,e2.trans hs.tape,e3.trans hs.output,cB hs.size jP,?_,g2,hU,jQ⟩;intro b hb hM;rw[fr b (by omega) fun hSb=>hM (hu.low b (Sin b hSb) hb)];exact hs.jL b hb hM
 obtain⟨hf,tR⟩:=CO hk;obtain⟨g3,hU3,hv3,hV3⟩:=Jy (st:=⟨st.n,jp (re k1 k2) st.env,pk ids k1 k2 wb st.us⟩) hU (n:=o.dst.getD 0) hR hnF.1
  (fun b hb iq=>hu.low b (Sin b ((S b).1 ((hE.all b (du _ hb)).2.2.1 (by omega)))) iq)
  (fun b hb j7 => by
   rcases SD b j7 with h|⟨y,u,hy,XV,oL⟩
   exact hnF.2.2 b hb b h rfl;exact Xn y u hy XV b oL ((S b).1 ((hE.all b (du _ hb)).2.2.1 (hu.lt b (gn.2 ⟨_,hy,oL⟩)))))
  (fun b hb o4 => by
   rcases o4 with o4|⟨_,_,o4⟩
   exact(hu.sh b o4).2.2 (Sin b ((S b).1 ((hE.all b (du _ hb)).2.2.1 (hu.sh b o4).1)));exact(hE.all b (du _ hb)).2.2.2 o4)
  (fun b hb=>(hE.all b (du _ hb)).2.1) false (by simp) hf
 have hS3:k9 n0 S0 M0 w0 (St.kc ⟨st.n,jp (re k1 k2) st.env,pk ids k1 k2 wb st.us⟩ (jb (o.dst.getD 0) false r).2) a w':=
  ⟨hs.ms,hs.v8,hs.tm,hs.base,e1.trans hs.os,e2.trans hs.tape,e3.trans hs.output,cB hs.size jP,hS.jL,g3,hU3,fun t=>hV3 _ _ (jQ t)⟩
 exact⟨_,by cases o.dst<;>rfl,tR,jY hS3 hU3 (fun t=>hV3 _ _ (jQ t)) h.dst hv3⟩
def ack(h:At n0 S0 M0 w0 st o a w g){f:Nat}{Xs:List X}{kk:St→Prop}(ho:o.op=.call c)(hc:c.callee=.value (.func f))(hl:c.args.size=c.argTypes.size)
  (hx:(c.args.toList.zip c.argTypes.toList).mapM (fun p=>gG P p.2 p.1)=some Xs) (hq:Jb P o.dst f (Xs.map st.ev) st kk):o.wp P a w (km n0 S0 M0 w0 st.n kk) Q':=by
 refine Ti h (vs:=c.args.toList.map a.eval) ?_ (xD h.rep (by simpa using hl) hx) hq;rintro⟨fn,h1,h2,h3⟩;have EV:¬fn.body=none:=by cases hb:fn.body<;>simp_all
 have Ec : ¬ fn.name = "runtime.NumGoroutine" := by simpa using h3
 have ea:(List.map a.eval c.args.toList).toArray=Array.map a.eval c.args:=by apply aR;simp
 rw[ea];simp[execOp,ho,resolve,hc,Act.eval,Deferred.ofValue,invoke,callFunc,h1,EV,Ec]
def gQ.sbu{h':jv}{us:List (Nat×U)}(hu:gQ h n0 S0 M0 us g){k T E:Nat}{s s':ByteArray}(hm:(k,U.sb T E s)∈us){F':List Nat}(hb:g.β k=some b)(hφ0:g.φ k=b::F)
  (jP:h.size≤h'.size) (hh:∀x,x<h.size→x∉b::F→h'[x]?=h[x]?) (hs:G8 h' T E s' b F') (R4:b∉F') (hF:∀x∈F',x∈F∨h.size≤x) (hn0:n0≤h.size):
  gQ h' n0 S0 M0 ((k,.sb T E s')::gu k (AV.soft k) us) (g.oH k (b::F'))∧∀av v,av.soft k=false→fN h us g av v→fN h' ((k,.sb T E s')::gu k (AV.soft k) us) (g.oH k (b::F')) av v:=by
 have Xh:∀i,i≠k→(g.oH k (b::F')).φ i=g.φ i:=fun i hi=>by simp[Gh.oH,hi]
 have XQ:(g.oH k (b::F')).φ k=b::F':=by simp[Gh.oH]
 have Nv:∀x∈g.φ k,x∈fp g us:=fun x hx=>gn.2 ⟨_,hm,hx⟩;have pA:∀i v,(i,v)∈us→i≠k→∀x∈g.φ i,h'[x]?=h[x]?:=by
  intro i v h1 h2 x hx;exact hh x (hu.lt x (gn.2 ⟨_,h1,hx⟩)) fun H1=>h2 (iA hu.keys hu.nodup h1 hm hx (by rw[hφ0];exact H1))
 have Nq:∀x,g.Sh x→h'[x]?=h[x]?:=fun x hx=>hh x (hu.sh x hx).1 fun H1=>(hu.sh x hx).2.2 (Nv x (by rw[hφ0];exact H1));have Eg:∀x∈b::F',x∈g.φ k∨h.size≤x:=by
  intro x hx;rw[hφ0];rcases ab.1 hx with rfl|hx
  exact .inl (by simp);rcases hF x hx with h1|h1
  exact .inl (by simp[h1]);exact .inr h1
 have H:NS k (AV.soft k) h h' us ((k,.sb T E s')::gu k (AV.soft k) us) g (g.oH k (b::F')):=by
  refine {mem:=fun i u h1 h2=>bg _ (jT h1 h2),β:=fun i hi=>⟨rfl,rfl,rfl⟩,gX:=?_,im:=?_,own:=?_,ar:=?_,bx:=?_,sb:=?_,same:=⟨rfl,rfl,rfl⟩};intro i u x h1 h2 h3;exact pA i u h1 h2 x ((hu.each _ h1).kr h3)
  ·intro t d F cs ht hr kA;have hx:∀x∈F,h'[x]?=h[x]?:=by
    intro x hx;rcases kA x hx with h1|⟨i,rfl,h1,_⟩
    exact Nq x h1;obtain⟨v,hv⟩:=hu.live h1;exact pA i v hv (by rintro rfl;exact ht rfl) x h1
   refine⟨hr.frame hx,fun x hx=>?_⟩;rcases kA x hx with h1|⟨i,rfl,h1,h2⟩
   exact .inl h1;exact .inr ⟨i,rfl,by rw[Xh i (by rintro rfl;exact ht rfl)];exact h1,h2⟩
  intro d hd;have:=hu.uniq hm hd;cases this;intro ow nn sz es hd;have:=hu.uniq hm hd;cases this;intro sz items hd;have:=hu.uniq hm hd;cases this;intro T1 E1 s1 hd;have:=hu.uniq hm hd;injection this with z1 z2 z3;subst z1 z2 z3;exact⟨s',by simp⟩
 have hV:∀av v,av.soft k=false→fN h us g av v→fN h' ((k,.sb T E s')::gu k (AV.soft k) us) (g.oH k (b::F')) av v:=fun av v hf hr=>fN.Bp H hf hr;have jS:=kw (f:=AV.soft k) Xh (us:=us);have j7:fp (g.oH k (b::F')) ((k,.sb T E s')::gu k (AV.soft k) us)=(b::F')++fp (g.oH k (b::F')) (gu k (AV.soft k) us):=by
  simp only[fp,bX,XQ]
 have HX:∀x∈fp (g.oH k (b::F')) (gu k (AV.soft k) us),∃y∈us,y.1≠k∧x∈g.φ y.1:=by
  intro x hx;obtain⟨y,hy,kZ⟩:=gn.1 hx;obtain⟨g9,u,h1,h2⟩:=gF hy;exact⟨_,h1,g9,by rw[Xh _ g9]at kZ;exact kZ⟩
 have iy:∀x∈fp (g.oH k (b::F')) ((k,.sb T E s')::gu k (AV.soft k) us),x∈fp g us∨h.size≤x:=by
  intro x hx;rw[j7]at hx;rcases an.1 hx with hx|hx
  exact(Eg x hx).imp (Nv x) id;exact .inl (jS.subset hx)
 have Nw:=hs.lt;refine⟨⟨?_,?_,?_,?_,?_,?_,?_,?_,hu.AB.OO hm (fun _=>⟨rfl,rfl⟩) (fun _=>rfl)⟩,hV⟩
 ·simp only[lC,aH,gI];exact⟨by simp[aQ],hu.keys.filter _⟩
 ·rw[j7,aX];refine⟨aH.2 ⟨R4,hs.nd⟩,jS.nodup hu.nodup,?_⟩;rintro x hx y hy rfl;obtain⟨z,hz,g9,xS⟩:=HX x hy;rcases Eg x hx with h1|h1
  exact g9 (iA hu.keys hu.nodup hz hm xS h1);have:=hu.lt x (gn.2 ⟨z,hz,xS⟩);omega
 ·intro x hx;rw[j7]at hx;rcases an.1 hx with hx|hx
  exact Nw x hx;have:=hu.lt x (jS.subset hx);omega
 ·intro x hx iq;rcases iy x hx with h1|h1
  exact hu.low x h1 iq;omega
 ·intro i hi;simp only[lC,ab,cj,gI]at hi;rw[Xh i hi.1];exact hu.dead i fun XR=>hi.2 (by simp[aQ,XR,hi.1])
 ·intro x hx;have hx:g.Sh x:=hx;obtain⟨q1,q2,q3⟩:=hu.sh x hx;exact⟨by omega,q2,fun h1=>(iy x h1).elim q3 (by omega)⟩
 ·intro x hx;rcases ab.1 hx with rfl|hx
  simp only[jn];exact⟨b,F',hb,XQ,hs⟩;obtain⟨g9,u,h1,h2⟩:=gF hx;rw[h2];exact(hu.each _ h1).jB H.toKeep (fun av hf=>.inr fun v hr=>hV av v hf hr) h1 g9 (Xh _ g9) (fun x hx=>pA _ _ h1 g9 x hx) (fun x hx=>⟨hx,Nq x hx⟩)
 intro x hx;rw[j7]at hx;rcases an.1 hx with hx|hx
 ·obtain⟨ad,bv,h1,_,h3⟩:=hs;rcases ab.1 hx with rfl|hx
  exact⟨_,_,h1⟩;rcases h3 with⟨_,_,rfl⟩|⟨gb,cap,cur,_,rfl,h4,_⟩
  cases hx;simp only[au]at hx;subst hx;exact⟨_,_,h4⟩
 obtain⟨z,hz,g9,xS⟩:=HX x hx;obtain⟨c,e,hc⟩:=hu.fz x (gn.2 ⟨z,hz,xS⟩);exact⟨c,e,by rw[pA z.1 z.2 hz g9 x xS];exact hc⟩
def agI(h:At n0 S0 M0 w0 st o a w g){u1 u2:TypeId}{sz:Nat}{p:Operand}{A X:Ax.X}{f:St→Prop}(ho:o.op=.store t p x)(hd:o.dst=none)(hp:gG P u1 p=some A)(hx:gG P u2 x=some X)
  (hz:kx P t=some sz) {id:Nat} (eA:st.ev A=.ps id) (hq:stS (st.unit id) id sz (st.ev X) st f):o.wp P a w (km n0 S0 M0 w0 st.n f) Q':=by
 have ep:=h.ev_ hp;have ex:=h.ev_ hx;have hs:=h.sat;have HZ:n0≤w.heap.size:=by rw[hs.base];exact hs.size
 rw[eA]at ep;unfold stS at hq
 split at hq
 ·next T E s jm=>
  obtain⟨⟨rfl,hzx⟩,hk⟩:=hq;have hm:=f7 jm;have hU:=h.us.each _ hm;simp only[jn]at hU;obtain⟨b,F,k1,k2,k3⟩:=hU;simp only[fN]at ep;obtain⟨T',E',s',b',x1,x2,hv⟩:=ep;rw[k1]at x2;obtain rfl:=aD x2;have sC:(a.eval x).cells.toList=[.pointer none,.slice none 0 0]:=by
   unfold Ho at hzx
   split at hzx
   ·next t1 t2 q e1=>
    rw[e1]at ex;simp only[fN,fT]at ex;obtain⟨xs,⟨v1,r1,rfl,q1,v2,r2,rfl,q2,rfl⟩,R5⟩:=ex;obtain⟨F1,g1,g2,_⟩:=q1;obtain⟨F2,g3,g4,_⟩:=q2;simp only[gJ]at g1;have e3:v2.cells.toList=[.slice none 0 0]:=by
     unfold gJ at g3;rcases g3 with⟨p,z1,_,_,_,z2⟩|⟨_,_,_,_,_,_,_,_,_,z3,_⟩
     ·cases p with
      |none=>exact z1
      |some p=>exact absurd rfl (z2 rfl)
     exact absurd rfl z3
    rw[R5];simp[Value.cells]at g1 e3⊢;rw[g1.2.1,e3]
    rfl
   cases hzx
  obtain⟨ad,bv,y1,y2,y3⟩:=k3;have Nv:∀x∈b::F,x∈fp g st.us:=fun x hx=>gn.2 ⟨_,hm,by rw[k2];exact hx⟩;have hH:=CY (P:=P) (w:=w) hz (b:=b) (off:=0) (v:=a.eval x) (by have:=congrArg List.length sC;simpa using this) y1 (by simp) (by rw[sC];simp[Value.oneCell']);have Ef:((#[ad,bv]:Array Value).toList.take 0++(a.eval x).cells.toList++(#[ad,bv]:Array Value).toList.drop (0+2)).toArray= #[.pointer none,.slice none 0 0]:=by rw[sC];rfl
  rw[Ef]at hH;have XP:=db w b #[ad,bv] #[.pointer none,.slice none 0 0] T (0,0) y1;obtain⟨Nn,W8⟩:=h.us.sbu (h':=(w.setRow b #[.pointer none,.slice none 0 0]).heap) (s':=⟨#[]⟩) (F':=[]) hm k1 k2 (by rw[bW];exact aw _) (fun x _ hxF=>cm w b x _ (fun e=>hxF (by simp[e])))
   ⟨.pointer none,.slice none 0 0,XP,.inl rfl,.inl ⟨rfl,rfl,rfl⟩⟩ (by simp) (by simp) HZ
  unfold Oper.wp;have pB:(execOp a.eval o).run P w=.ok .skip (w.setRow b #[.pointer none,.slice none 0 0]):=by
   simp[execOp,ho,hv,hH]
  rw[pB,eC,hd];refine⟨st.ue id (.sb T E ⟨#[]⟩),rfl,hk,hs.ms,hs.v8,hs.tm,hs.base,hs.os,hs.tape,hs.output,?_,?_,_,Nn,fun t=>kp (fun av v hf hr=>W8 av v hf hr) (h.rep t)⟩;rw[bW];exact hs.size;intro y hy Ij;rw[cm w b y _ (fun e=>Ij (by subst e;exact h.us.low y (Nv y (by simp)) hy))];exact hs.jL y hy Ij
 exact hq.elim
end Go.Ax
