/- THE ENGINE, PART 4: a generator of conditions over the register code, and its soundness. No condition. -/
import Derived.Test.YtlmeadheakbmpaaEnC
import Derived.Great.BuildSlice
import Derived.Laws.StructEq
set_option linter.all false
namespace Go.Ax
variable {P:Program}{n0:Nat}{S0 M0:Nat→Prop}{w0:World}
variable {own:Bool}{F:List Nat}
def If.alj{gb gb' ga:Gh}{usb ahH usa:List (Nat×U)}(h:If n0 M0 own gb ga usb usa F)(hs:∀b,b∈fp gb usb→b∈fp gb' ahH):If n0 M0 own gb' ga ahH usa F:=
 ⟨fun e=>⟨(h.1 e).1,fun b hb=>⟨((h.1 e).2 b hb).1,((h.1 e).2 b hb).2.1,((h.1 e).2 b hb).2.2.1,hs b ((h.1 e).2 b hb).2.2.2⟩⟩,h.2⟩
def If.nil{gb ga:Gh}{usb usa:List (Nat×U)}:If n0 M0 own gb ga usb usa []:=⟨fun _=>⟨bp,by simp⟩,fun _=>by simp⟩
variable {h:jv}
def tf:∀{ds:List D} {Fs cs},gt h ds Fs cs→gt h (ds.map D.cells).flatten Fs cs∧∀x∈(ds.map D.cells).flatten,x.size=1∧x.fX=false
 | [],_,_,hr=>by simpa using hr
 |d::ds,_,_,hr=>by
  rw[jX]at hr;obtain⟨F1,F2,c1,c2,rfl,rfl,h1,h2⟩:=hr;obtain⟨q1,q2⟩:=Ao h1;obtain⟨q3,q4⟩:=tf h2;simp only[lC,bV];exact⟨q1.append q3,fun x hx=>(an.1 hx).elim (q2 x) (q4 x)⟩
def kU:∀{ds:List D} {F cs},fO ds=true→gt h ds F cs→F=[]
 | [],_,_,_,hr=>by simp only[gt]at hr;exact hr.1
 |d::ds,_,_,hn,hr=>by
  simp only[gt]at hr;simp only[fO,bA]at hn;obtain⟨F1,F2,c1,c2,rfl,rfl,h1,h2⟩:=hr;rw[jC hn.1 h1,kU hn.2 h2]
  rfl
variable {g0:Gh}{tm:Nat→Value}
mutual
def nP{iz:St}(h0:gQ h n0 S0 M0 iz.us g0):∀{av:AV} {v:Value} {st:St} {g:Gh} {k:KT},jK h n0 S0 M0 iz st tm g0 g→fN h iz.us g0 av v→io st av k→
  ∃own d gp g' F,k own d gp∧jK h n0 S0 M0 iz gp tm g0 g'∧gJ h d F v.cells.toList∧d.fits v∧If n0 M0 own g g' st.us gp.us F∧(∀b,g'.Sh b↔g.Sh b)∧(∀b,b∈fp g' gp.us→b∈fp g st.us)
 |.im none d,v,st,g,k,T,hr,hk=>by
  simp only[io]at hk;simp only[fN]at hr;obtain⟨F,r1,r2,r3⟩:=hr;refine⟨d.gl,d,st,g,F,hk,T,r1,r2,⟨fun hp=>?_,fun _ b hb=>T.sh b (ni (r3 b hb))⟩,fun _=>bw,fun _ hb=>hb⟩;have:=jC hp r1;subst this;exact⟨bp,by simp⟩
 |.im (some i) d,v,st,g,k,T,hr,hk=>by
  simp only[io]at hk;simp only[fN]at hr;obtain⟨F,r1,r2,r3⟩:=hr;have:=jC hk.1 r1;subst this;exact⟨true,d,st,g,[],hk.2,T,r1,r2,If.nil,fun _=>bw,fun _ hb=>hb⟩
 |.tr i,v,st,g,k,T,hr,hk=>by
  simp only[io,xz]at hk
  split at hk
  ·next d jm=>
   simp only[fN]at hr;obtain⟨_,rfl⟩:=hr;have hm:=f7 jm;have ho:=T.us.each _ hm;simp only[jn]at ho;have T':=T.del i;refine⟨true,d,st.del i,g.drop i,g.φ i,hk,T',by rw[←(T.gh _ _ hm).2.1];exact ho.2.1,by rw[←(T.gh _ _ hm).2.1];exact ho.2.2,⟨fun _=>⟨iZ T.us hm,fun b hb=>?_⟩,by simp⟩,fun _=>bw,?_⟩
   ·have j7:b∈fp g st.us:=gn.2 ⟨_,hm,hb⟩;exact⟨T.us.low b j7,fun hs=>(T.us.sh b hs).2.2 j7,sQ T.us hm b hb,j7⟩
   exact fun b hb=>(kw (g:=g) (g':=g.drop i) (fun j hj=>by simp[Gh.drop,hj])).subset hb
  exact hk.elim
 |.sm i off len,v,st,g,k,T,hr,hk=>by
  simp only[io,AA]at hk
  split at hk
  ·next nn sz es jm=>
   obtain⟨⟨rfl,rfl⟩,hk⟩:=hk;have hm:=f7 jm;have ho:=T.us.each _ hm;obtain⟨u0,Gz,lF⟩:=T.mem _ _ hm;simp only[fN]at hr;obtain⟨ow0,Sx,EU,KR,q1,q2,q3⟩:=hr;have:=h0.uniq Gz q1;subst this;simp only[U.xK]at lF;obtain⟨rfl,hlen⟩:=lF;obtain⟨gb,_,gc⟩:=T.gh _ _ hm;have T':=T.del i;have alk:∀b∈g.φ i,(b<n0→M0 b)∧¬(g.drop i).Sh b∧b∉fp (g.drop i) (st.del i).us∧b∈fp g st.us:=fun b hb=>by
    have j7:b∈fp g st.us:=gn.2 ⟨_,hm,hb⟩;exact⟨T.us.low b j7,fun hs=>(T.us.sh b hs).2.2 j7,sQ T.us hm b hb,j7⟩
   have jS:∀b,b∈fp (g.drop i) (st.del i).us→b∈fp g st.us:=fun b hb=>(kw (g:=g) (g':=g.drop i) (fun j hj=>by simp[Gh.drop,hj])).subset hb;simp only[jn]at ho;obtain⟨nJ,hs,ho⟩:=ho;rcases ho with⟨p1,rfl,p3,p4⟩|⟨b,c,e,G,cs,rest,k1,k2,k3,k4,k5,k6,k7,k8⟩
   ·have hv:v=.slice none 0 0:=by
     rcases q3 with⟨b,q3,_⟩|⟨_,_,_,q3⟩
     rw[←gb,p1]at q3;cases q3;exact q3
    subst hv;refine⟨true,_,st.del i,g.drop i,[],hk,T',?_,rfl,If.nil,fun _=>bw,jS⟩;unfold gJ;exact .inl ⟨none,by simp[Value.cells],rfl,rfl,fun _=>p4,by simp⟩
   have hv:v=.slice (some ⟨b,0,none⟩) es.length (g.cap i):=by
    rcases q3 with⟨b',q3,q4⟩|⟨q3,_⟩
    rw[←gb,k1]at q3;obtain rfl:=aD q3;simpa[gc]using q4;rw[←gb,k1]at q3;cases q3
   subst hv;simp only[ay]at k8;refine⟨true,_,st.del i,g.drop i,b::G,hk,T',?_,rfl,⟨fun _=>⟨by rw[←k8];exact iZ T.us hm,fun x hx=>alk x (by rw[k8];exact hx)⟩,by simp⟩,fun _=>bw,jS⟩;unfold gJ;refine .inr ⟨b,0,g.cap i,c,e,(0,0),G,by simp[Value.cells],rfl,k7,k5,nJ,k2,by omega,hs,?_⟩;have l1:=k6.length;rw[D.gk hs]at l1;rw[k3,aJ,←l1];simpa using k6
  exact hk.elim
 |.cw i el j sz agg,v,st,g,k,T,hr,hk=>by
  simp only[io,Au]at hk
  split at hk
  ·next nn usz es jm=>
   obtain⟨Ei,hk⟩:=hk;have hm:=f7 jm;have ho:=T.us.each _ hm;obtain⟨u0,Gz,lF⟩:=T.mem _ _ hm;simp only[fN]at hr;obtain⟨Sx,EU,KR,b,c,e,q1,q2,q3,q4,q5,q6,q7,q8,q9⟩:=hr;have:=h0.uniq Gz q1;subst this;simp only[U.xK]at lF;obtain⟨rfl,hlen⟩:=lF;obtain⟨gb,_,gc⟩:=T.gh _ _ hm;have q4':g.β i=some b:=by rw[gb];exact q4
   have pz:el<es.length:=by omega
   obtain⟨c',e',F2,c2,p1,p2,p3,p4,p5,p6,p7⟩:=uk (agg:=agg) T.us hm pz q4' q3 Ei q7;rw[q5]at p1;injection p1 with p1;injection p1 with p1 p1';subst p1;have Sy:v.cells.toList=c2:=by rw[q8];exact G7 p3 p2
   simp only[jn]at ho;obtain⟨nJ,hs,ho⟩:=ho;rcases ho with⟨z1,_⟩|⟨b',c',e',G,cs,rest,k1,k2,k3,k4,k5,k6,k7,k8⟩
   rw[q4']at z1;cases z1;rw[q4']at k1;obtain rfl:=aD k1;rw[q5]at k2;injection k2 with k2;injection k2 with k2 k2';subst k2;simp only[ay]at k8;have afv:∀x∈c2,x.oneCell'=true:=p4.one;obtain⟨j1,j2⟩:=abf h sz agg q7 c2 p3 afv;have hw:j=0∧sz=EU∨(D.at es el).fX=true:=by
    by_cases hA:(D.at es el).fX=true;exact .inr hA
    have ahI:(D.at es el).size=1:=by cases hD:D.at es el<;>simp_all [D.size,D.fX]
    have:(D.at es el).size=EU:=by rw[D.qL pz];exact hs _ (aF pz)
    have alm:agg=false:=by cases agg<;>simp_all
    have:=q7 alm
    left;omega
   obtain⟨A,B,C,rfl,y1,y2,y3⟩:=uo k6 j1 hs pz j2 q3 hw;have y3:=y3 agg Ei q7;have sC:(cs.drop (el*EU+j)).take sz=c2:=by
    have h1:(c.toList.drop (el*EU+j)).take sz=c2:=G7 p3 p2;have l6:=k6.length;rw[D.gk hs]at l6;have hle:el*EU+EU≤es.length*EU:=by
     have:=aZ EU (show el+1≤es.length by omega);rw[aT]at this;omega
    rw[←h1,k3,dB (by omega),dC (by simp;omega)]
   have KW:cs.take (el*EU+j)++(c2++cs.drop (el*EU+j+sz))=cs:=by
    have e1:cs.drop (el*EU+j+sz)=(cs.drop (el*EU+j)).drop sz:=by rw[cx]
    rw[←sC,e1,bu,bu]
   rw[KW]at y1;rw[sC]at y3;have kn:=iZ T.us hm;rw[k8]at kn;have R8:∀x∈g.φ i,x∈fp g st.us:=fun x hx=>gn.2 ⟨_,hm,hx⟩;have OP:∀x∈A++([]++C),x∈g.φ i:=fun x hx=>by
    rw[k8];simp only[be,an,ab]at hx⊢;rcases hx with hx|hx
    exact .inr (.inl hx);exact .inr (.inr (.inr hx))
   have aln:(b::(A++([]++C))).Nodup:=by
    refine eX ?_ kn;simp only[be];exact List.Sublist.cons_cons _ (ew (dq _) (eu _ _))
   obtain⟨φ,hφ,hU,hK⟩:=T.us.RY (h':=h) hm q4' q5 rfl (fun _ _=>rfl) k4 (ow':=true) (es':=es.set el (D.put EU (D.at es el) j sz (Su sz agg))) (by simp) y2 k3 y1
    (fun _ => ⟨aln, fun x hx => by
     have h1:=R8 x (OP x hx);exact⟨T.us.low x h1,fun hsx=>(T.us.sh x hsx).2.2 h1,fun y hy g9 kZ=>g9 (iA T.us.keys T.us.nodup hy hm kZ (OP x hx))⟩⟩) (by simp) (fun _ x hx=>T.us.fz x (R8 x (OP x hx))) el rfl rfl (fun jj g9=>by simp[D.at,aE,List.getElem?_set,cU g9])
   simp only[ay]at hφ;have Eh:∀x,x∈fp (g.oH i φ) ((i,U.ar true nn EU (es.set el (D.put EU (D.at es el) j sz (Su sz agg))))::gu i (AV.oq i el) st.us)→x∈fp g st.us∧x∉B:=by
    intro x hx;obtain⟨y,hy,kZ⟩:=gn.1 hx;rcases ab.1 hy with rfl|hy
    ·simp only[Gh.oH,ay]at kZ;rw[hφ]at kZ;have hxi:x∈g.φ i:=by
      rcases ab.1 kZ with rfl|kZ
      rw[k8];simp;exact OP x kZ
     refine⟨R8 x hxi,fun hxB=>?_⟩;rw[aH,aX,aX]at kn;rcases ab.1 kZ with rfl|kZ
     exact kn.1 (by simp[hxB]);simp only[be,an]at kZ;rcases kZ with kZ|kZ
     exact kn.2.2.2 x kZ x (by simp[hxB]) rfl;exact kn.2.2.1.2.2 x hxB x kZ rfl
    obtain⟨g9,u',h1,h2⟩:=gF hy;simp only[Gh.oH,g9,aA]at kZ;refine⟨gn.2 ⟨_,h1,kZ⟩,fun hxB=>g9 (iA T.us.keys T.us.nodup h1 hm kZ ?_)⟩;rw[k8];simp[hxB]
   have T':jK h n0 S0 M0 iz (st.RY i el (.ar true nn EU (es.set el (D.put EU (D.at es el) j sz (Su sz agg))))) tm g0 (g.oH i φ):=by
    refine⟨hU,fun t=>kp (fun av v hf hr=>hK av v hf hr) (T.rep t),T.n,?_,?_,T.sh,fun x hx=>T.fp x (Eh x hx).1⟩
    ·intro i' u v9;rcases ab.1 v9 with e1|v9
     ·injection e1 with e1 e2;subst e1;subst e2;exact⟨_,Gz,by simp[U.xK,hlen]⟩
     obtain⟨g9,u',h1,h2⟩:=gF v9;obtain⟨u0,h3,h4⟩:=T.mem _ _ h1;simp only at h2;rw[h2];exact⟨u0,h3,U.xL h4 (u'.Gy _)⟩
    intro i' u v9;rcases ab.1 v9 with e1|v9
    ·injection e1 with e1 e2;subst e1;exact T.gh _ _ hm
    obtain⟨g9,u',h1,h2⟩:=gF v9;exact T.gh _ _ h1
   have hB:∀x∈B,x∈g.φ i:=fun x hx=>by rw[k8];simp[hx]
   refine⟨true,_,_,_,B,hk,T',by rw[Sy];exact y3,?_,⟨fun _=>⟨?_,fun x hx=>⟨T.us.low x (R8 x (hB x hx)),fun nL=>(T.us.sh x nL).2.2 (R8 x (hB x hx)),fun qR=>(Eh x qR).2 hx,R8 x (hB x hx)⟩⟩,by simp⟩,fun _=>bw,fun x hx=>(Eh x hx).1⟩
   ·cases agg with
    |true=>simp only[ay]at q9;rw[q9];exact yK p5
    |false=>exact nA p5 (by simpa using q9)
   rw[aH,aX,aX]at kn;exact kn.2.2.1.1
  exact hk.elim
 |.sg vs,v,st,g,k,T,hr,hk=>by
  simp only[io]at hk;simp only[fN]at hr;obtain⟨xs,r1,rfl⟩:=hr;obtain⟨own,ds,gp,g',F,p1,p2,p3,p4,p5,p6⟩:=IW h0 T r1 hk;refine⟨own,_,gp,g',F,p1,p2,?_,⟨_,rfl⟩,p4,p5,p6⟩;obtain⟨q1,q2⟩:=tf p3;unfold gJ;exact⟨q2,by simpa[Value.cells]using q1⟩
 |.pw _ _ _,_,_,_,_,_,_,hk=>by simp[io]at hk
 |.vb _ _,_,_,_,_,_,_,hk=>by simp[io]at hk
 |.pb _ _,_,_,_,_,_,_,hk=>by simp[io]at hk
 |.ps _,_,_,_,_,_,_,hk=>by simp[io]at hk
 |.lf _,_,_,_,_,_,_,hk=>by simp[io]at hk
 |.any,_,_,_,_,_,_,hk=>by simp[io]at hk
 |.cl _ _,_,_,_,_,_,_,hk=>by simp[io]at hk
 |.pq _ _ _ _ _ _,_,_,_,_,_,_,hk=>by simp[io]at hk
 |.qs _ _ _ _ _ _,_,_,_,_,_,_,hk=>by simp[io]at hk
 |.ss _ _ _,_,_,_,_,_,_,hk=>by simp[io]at hk
 |.z0 _ _,_,_,_,_,_,_,hk=>by simp[io]at hk
def IW{iz:St}(h0:gQ h n0 S0 M0 iz.us g0):∀{avs:List AV} {vs:List Value} {st:St} {g:Gh} {k:KL},jK h n0 S0 M0 iz st tm g0 g→fT h iz.us g0 avs vs→qX st avs k→
  ∃own ds gp g' F,k own ds gp∧jK h n0 S0 M0 iz gp tm g0 g'∧gt h ds F (vs.map (·.cells.toList)).flatten∧If n0 M0 own g g' st.us gp.us F∧(∀b,g'.Sh b↔g.Sh b)∧(∀b,b∈fp g' gp.us→b∈fp g st.us)
 | [],vs,st,g,k,T,hr,hk=>by
  simp only[qX]at hk;simp only[fT]at hr;subst hr;exact⟨true,[],st,g,[],hk,T,by simp[gt],If.nil,fun _=>bw,fun _ hb=>hb⟩
 |av::avs,vs,st,g,k,T,hr,hk=>by
  simp only[qX]at hk;simp only[fT]at hr;obtain⟨v,r,rfl,r1,r2⟩:=hr;obtain⟨b,d,xM,g1,F1,k1,T1,p1,p2,o1,s1,f1⟩:=nP h0 T r1 hk;obtain⟨c,ds,KX,g2,F2,k2,T2,p3,o2,s2,f2⟩:=IW h0 T1 r2 k1;obtain⟨q1,q2,tR⟩:=k2;refine⟨_,d::ds,KX,g2,F1++F2,tR,T2,?_,?_,fun x=>(s2 x).trans (s1 x),fun x hx=>f1 x (f2 x hx)⟩;simp only[lC,bV,jX];exact⟨F1,F2,_,_,rfl,rfl,p1,p3⟩;refine⟨fun e=>?_,fun e=>?_⟩
  ·simp only[Kv,bA,ba]at e;have e1:F1=[]∨b=true:=by
    rcases e.1 with h1|h1
    exact .inr h1;exact .inl (jC h1 p1)
   have e2:F2=[]∨c=true:=by
    rcases e.2 with h1|h1
    exact .inr h1;exact .inl (kU h1 p3)
   have w1:F1.Nodup∧∀x∈F1,(x<n0→M0 x)∧¬g1.Sh x∧x∉fp g1 xM.us∧x∈fp g st.us:=by
    rcases e1 with rfl|h1
    ·exact⟨bp,by simp⟩
    exact o1.1 h1
   have w2:F2.Nodup∧∀x∈F2,(x<n0→M0 x)∧¬g2.Sh x∧x∉fp g2 KX.us∧x∈fp g1 xM.us:=by
    rcases e2 with rfl|h1
    ·exact⟨bp,by simp⟩
    exact o2.1 h1
   refine⟨aX.2 ⟨w1.1,w2.1,fun x hx y hy exy=>(w1.2 x hx).2.2.1 (exy▸(w2.2 y hy).2.2.2)⟩,fun x hx=>?_⟩;rcases an.1 hx with hx|hx
   ·obtain⟨z1,z2,z3,z4⟩:=w1.2 x hx;exact⟨z1,fun hs=>z2 ((s2 x).1 hs),fun hf=>z3 (f2 x hf),z4⟩
   obtain⟨z1,z2,z3,z4⟩:=w2.2 x hx;exact⟨z1,z2,z3,f1 x z4⟩
  simp only[Kv,eY,ck]at e;intro x hx;rcases an.1 hx with hx|hx
  ·cases hb:b with
   |false=>exact(s2 x).2 (o1.2 hb x hx)
   |true=>
    rcases e with e|e
    rw[hb]at e;cases e.1;rcases q2 with h1|h1|h1
    rw[h1]at e;cases e.1;rw[hb]at h1;cases h1;rw[jC h1 p1]at hx;cases hx
  cases hc:c with
  |false=>exact o2.2 hc x hx
  |true=>
   rcases e with e|e
   ·rcases q1 with h1|h1|h1
    rw[h1]at e;cases e.1;rw[hc]at h1;cases h1;rw[kU h1 p3]at hx;cases hx
   rw[hc]at e;cases e.1
end
def GK(f:St→AV→KT→Prop):Prop:=∀{h:jv} {iz:St} {tm:Nat→Value} {g0:Gh},gQ h n0 S0 M0 iz.us g0→∀{av:AV} {v:Value} {st:St} {g:Gh} {k:KT},jK h n0 S0 M0 iz st tm g0 g→fN h iz.us g0 av v→f st av k→
  ∃own d gp g' F,k own d gp∧jK h n0 S0 M0 iz gp tm g0 g'∧gJ h d F v.cells.toList∧d.fits v∧If n0 M0 own g g' st.us gp.us F∧(∀b,g'.Sh b↔g.Sh b)∧(∀b,b∈fp g' gp.us→b∈fp g st.us)
def vZ{f:St→AV→KT→Prop}(hf:GK (n0:=n0) (S0:=S0) (M0:=M0) f){h:jv}{iz:St}{tm:Nat→Value}{g0:Gh}(h0:gQ h n0 S0 M0 iz.us g0):∀{avs:List AV} {vs:List Value} {st:St} {g:Gh} {k:KL},jK h n0 S0 M0 iz st tm g0 g→fT h iz.us g0 avs vs→mp f st avs k→
  ∃own ds gp g' F,k own ds gp∧jK h n0 S0 M0 iz gp tm g0 g'∧gt h ds F (vs.map (·.cells.toList)).flatten∧If n0 M0 own g g' st.us gp.us F∧(∀b,g'.Sh b↔g.Sh b)∧(∀b,b∈fp g' gp.us→b∈fp g st.us)
 | [],vs,st,g,k,T,hr,hk=>by
  simp only[mp]at hk;simp only[fT]at hr;subst hr;exact⟨true,[],st,g,[],hk,T,by simp[gt],If.nil,fun _=>bw,fun _ hb=>hb⟩
 |av::avs,vs,st,g,k,T,hr,hk=>by
  simp only[mp]at hk;simp only[fT]at hr;obtain⟨v,r,rfl,r1,r2⟩:=hr;obtain⟨b,d,xM,g1,F1,k1,T1,p1,p2,o1,s1,f1⟩:=hf h0 T r1 hk;obtain⟨c,ds,KX,g2,F2,k2,T2,p3,o2,s2,f2⟩:=vZ hf h0 T1 r2 k1;obtain⟨q1,q2,tR⟩:=k2;refine⟨_,d::ds,KX,g2,F1++F2,tR,T2,?_,?_,fun x=>(s2 x).trans (s1 x),fun x hx=>f1 x (f2 x hx)⟩;simp only[lC,bV,jX];exact⟨F1,F2,_,_,rfl,rfl,p1,p3⟩;refine⟨fun e=>?_,fun e=>?_⟩
  ·simp only[Kv,bA,ba]at e;have e1:F1=[]∨b=true:=by
    rcases e.1 with h1|h1
    exact .inr h1;exact .inl (jC h1 p1)
   have e2:F2=[]∨c=true:=by
    rcases e.2 with h1|h1
    exact .inr h1;exact .inl (kU h1 p3)
   have w1:F1.Nodup∧∀x∈F1,(x<n0→M0 x)∧¬g1.Sh x∧x∉fp g1 xM.us∧x∈fp g st.us:=by
    rcases e1 with rfl|h1
    ·exact⟨bp,by simp⟩
    exact o1.1 h1
   have w2:F2.Nodup∧∀x∈F2,(x<n0→M0 x)∧¬g2.Sh x∧x∉fp g2 KX.us∧x∈fp g1 xM.us:=by
    rcases e2 with rfl|h1
    ·exact⟨bp,by simp⟩
    exact o2.1 h1
   refine⟨aX.2 ⟨w1.1,w2.1,fun x hx y hy exy=>(w1.2 x hx).2.2.1 (exy▸(w2.2 y hy).2.2.2)⟩,fun x hx=>?_⟩;rcases an.1 hx with hx|hx
   ·obtain⟨z1,z2,z3,z4⟩:=w1.2 x hx;exact⟨z1,fun hs=>z2 ((s2 x).1 hs),fun hf=>z3 (f2 x hf),z4⟩
   obtain⟨z1,z2,z3,z4⟩:=w2.2 x hx;exact⟨z1,z2,z3,f1 x z4⟩
  simp only[Kv,eY,ck]at e;intro x hx;rcases an.1 hx with hx|hx
  ·cases hb:b with
   |false=>exact(s2 x).2 (o1.2 hb x hx)
   |true=>
    rcases e with e|e
    rw[hb]at e;cases e.1;rcases q2 with h1|h1|h1
    rw[h1]at e;cases e.1;rw[hb]at h1;cases h1;rw[jC h1 p1]at hx;cases hx
  cases hc:c with
  |false=>exact o2.2 hc x hx
  |true=>
   rcases e with e|e
   ·rcases q1 with h1|h1|h1
    rw[h1]at e;cases e.1;rw[hc]at h1;cases h1;rw[kU h1 p3]at hx;cases hx
   rw[hc]at e;cases e.1
variable {g':Gh}
def jK.trans{iz st gp:St}{g:Gh}(A:jK h n0 S0 M0 iz st tm g0 g)(B:jK h n0 S0 M0 st gp tm g g'):jK h n0 S0 M0 iz gp tm g0 g':=by
 refine⟨B.us,B.rep,B.n.trans A.n,?_,?_,fun b hb=>B.sh b (A.sh b hb),fun b hb=>A.fp b (B.fp b hb)⟩;intro i u hm;obtain⟨u1,h1,l1⟩:=B.mem i u hm;obtain⟨u0,h2,l2⟩:=A.mem i u1 h1;exact⟨u0,h2,U.xL l2 l1⟩;intro i u hm;obtain⟨u1,h1,_⟩:=B.mem i u hm;obtain⟨b1,b2,b3⟩:=B.gh i u hm;obtain⟨a1,a2,a3⟩:=A.gh i u1 h1;exact⟨b1.trans a1,b2.trans a2,b3.trans a3⟩
def Rh{f:St→AV→KT→Prop}(hf:GK (n0:=n0) (S0:=S0) (M0:=M0) f){h:jv}{iz:St}{tm:Nat→Value}{g0:Gh}(h0:gQ h n0 S0 M0 iz.us g0){i len:Nat}{v:Value}{st:St}{g:Gh}{k:KT}
  (T:jK h n0 S0 M0 iz st tm g0 g) (hr:fN h iz.us g0 (.vb i len) v) (hk:xu f (st.unit i) i len st k):
  ∃own d gp g' F,k own d gp∧jK h n0 S0 M0 iz gp tm g0 g'∧gJ h d F v.cells.toList∧d.fits v∧If n0 M0 own g g' st.us gp.us F∧(∀b,g'.Sh b↔g.Sh b)∧(∀b,b∈fp g' gp.us→b∈fp g st.us):=by
 unfold xu at hk
 split at hk
 ·next sz items jm=>
  obtain⟨hlen,hk⟩:=hk;have hm:=f7 jm;have ho:=T.us.each _ hm;obtain⟨u0,Gz,lF⟩:=T.mem _ _ hm;simp only[fN]at hr;obtain⟨EU,alo,b,r1,r2,r3,rfl⟩:=hr;obtain⟨gb,_,_⟩:=T.gh _ _ hm;simp only[jn]at ho;obtain⟨nJ,b',c,e,vs,rest,k1,k2,k3,k4,k5,k6⟩:=ho;rw[gb,r3]at k1;obtain rfl:=aD k1;have T1:jK h n0 S0 M0 st (st.del i) tm g (g.drop i):=(jK.refl T.us T.rep).del i;obtain⟨own,ds,gp,g',F,p1,T2,p3,p4,p5,p6⟩:=vZ hf T.us T1 k4 hk;obtain⟨⟨BH,rfl,jP⟩,p1⟩:=p1;have jS:∀x,x∈fp (g.drop i) (st.del i).us→x∈fp g st.us:=fun x hx=>(kw (g:=g) (g':=g.drop i) (fun j hj=>by simp[Gh.drop,hj])).subset hx;have Cd:b∈g.φ i:=by rw[k3];simp
  have o5:b∈fp g st.us:=gn.2 ⟨_,hm,Cd⟩;have hbn:b∉fp (g.drop i) (st.del i).us:=sQ T.us hm b Cd;have l1:=p3.length;rw[D.gk jP]at l1;have l2:(vs.map (·.cells.toList)).flatten.length=vs.length*sz:=by
   have:∀vs:List Value,(∀v∈vs,v.cells.size=sz)→(vs.map (·.cells.toList)).flatten.length=vs.length*sz:=by
    intro vs
    induction vs with
    |nil=>simp
    |cons x vs ih=>
     intro hx;simp only[lC,bV,lP,cV,lK,hx x (by simp),ih fun y hy=>hx y (by simp[hy]),aT];omega
   exact this vs (k5 BH)
  have l3:∀{as:List AV} {vs:List Value},fT h st.us g as vs→vs.length=as.length:=by
   intro as
   induction as with
   |nil=>intro vs hr;simp only[fT]at hr;simp[hr]
   |cons a as ih=>
    intro vs hr;simp only[fT]at hr;obtain⟨v,r,rfl,_,h2⟩:=hr;simp[ih h2]
  have l4:=l3 k4;refine⟨true,_,gp,g',b::F,p1,T.trans T2,?_,by simp[D.fits,Value.oneCell'],⟨fun _=>⟨?_,?_⟩,by simp⟩,p5,fun x hx=>jS x (p6 x hx)⟩
  ·unfold gJ;have yZ:ds.length=len:=by
    rw[hlen,←l4];exact fx BH (l1.symm.trans l2)
   refine .inr ⟨b,0,len,c,e,(0,0),F,by simp[Value.cells,yZ],rfl,by simp,by omega,by omega,k2,?_,jP,?_⟩;have:c.toList.length=_:=congrArg List.length k6;rw[lP,l2,l4,←hlen]at this;simp at this;omega;rw[k6,aJ,yZ];rw[bZ (by rw[l2,l4,hlen])];exact p3
  ·exact aH.2 ⟨fun hb=>hbn ((p4.1 rfl).2 b hb).2.2.2,(p4.1 rfl).1⟩
  intro x hx;rcases ab.1 hx with rfl|hx
  ·exact⟨T.us.low x o5,fun hs=>(T.us.sh x ((p5 x).1 hs)).2.2 o5,fun hf=>hbn (p6 x hf),o5⟩
  obtain⟨z1,z2,z3,z4⟩:=(p4.1 rfl).2 x hx;exact⟨z1,z2,z3,jS x z4⟩
 exact hk.elim
variable {d:D}{v:Value}
def NM{iz:St}{st:St}{g:Gh}{k:KT}(T:jK h n0 S0 M0 iz st tm g0 g)(hr:fN h iz.us g0 (.im none d) v)(hk:k d.flat d st):
  ∃own d' gp g' F,k own d' gp∧jK h n0 S0 M0 iz gp tm g0 g'∧gJ h d' F v.cells.toList∧d'.fits v∧If n0 M0 own g g' st.us gp.us F∧(∀b,g'.Sh b↔g.Sh b)∧(∀b,b∈fp g' gp.us→b∈fp g st.us):=by
 simp only[fN]at hr;obtain⟨F,r1,r2,r3⟩:=hr;refine⟨d.flat,d,st,g,F,hk,T,r1,r2,⟨fun hp=>?_,fun _ b hb=>T.sh b (ni (r3 b hb))⟩,fun _=>bw,fun _ hb=>hb⟩;have:=jC (D.mq hp) r1;subst this;exact⟨bp,by simp⟩
def rR:∀n:Nat,GK (n0:=n0) (S0:=S0) (M0:=M0) (js n)
 |0=>by
  intro h0 av _ _ _ _ T hr hk;cases av with
  |im t d=>
   cases t with
   |none=>exact NM T hr (by simpa only[js]using hk)
   |some i=>exact nP h0 T hr (by simpa only[js]using hk)
  |_=>exact nP h0 T hr (by simpa only[js]using hk)
 |n+1=>by
  intro h0 av _ _ _ _ T hr hk;cases av with
  |im t d=>
   cases t with
   |none=>exact NM T hr (by simpa only[js]using hk)
   |some i=>exact nP h0 T hr (by simpa only[js]using hk)
  |vb i len=>exact Rh (rR n) h0 T hr (by simpa only[js]using hk)
  |sg vs=>
   simp only[js]at hk;simp only[fN]at hr;obtain⟨xs,r1,rfl⟩:=hr;obtain⟨own,ds,gp,g',F,p1,p2,p3,p4,p5,p6⟩:=vZ (rR n) h0 T r1 hk;refine⟨own,_,gp,g',F,p1,p2,?_,⟨_,rfl⟩,p4,p5,p6⟩;obtain⟨q1,q2⟩:=tf p3;unfold gJ;exact⟨q2,by simpa[Value.cells]using q1⟩
  |_=>exact nP h0 T hr (by simpa only[js]using hk)
variable {st:St}{o:Oper}{a:Act}{w:World}{k:KQ}{Q':Exit→Act→World→Prop}{g:Gh}
def km(n0:Nat)(S0 M0:Nat→Prop)(w0:World)(n:Nat)(f:St→Prop)(a':Act)(w':World):Prop:=∃gp,gp.n=n∧f gp∧k9 n0 S0 M0 w0 gp a' w'
variable {sz:Nat}{e t:TypeId}
def CY(hz:kx P t=some sz){b off:Nat}(hv:v.cells.size=sz){c:Array Value}(hb:w.heap[b]?=some (.cells c e (0,0)))(hl:off+sz≤c.size)
  (h1:∀x∈v.cells.toList,x.oneCell'=true):(Instr.storeAt t (.pointer (some ⟨b,off,none⟩)) v).run P w=.ok () (w.setRow b (c.toList.take off++v.cells.toList++c.toList.drop (off+sz)).toArray):=by
 have:=fy P b off e v.cells.toList 0 c w hb (by simp;omega) h1;have hs:v.cells.toList.length=sz:=by simpa using hv
 simp only[ah,hs]at this;simp[Instr.storeAt,Instr.sureAddr,storeVar,qz hz,hv,this]
variable {G:List Nat}
def DU{ow fl eq dn:Bool}(hf:fl=true→F=[])(hd:dn=true→F=[])(hG:eq=true→G=[])(hc:own=ow∨dn=true∨eq=true):
  (fU own ow fl eq=true→(F=[]∨own=true)∧(G=[]∨ow=true))∧(fU own ow fl eq=false→(F=[]∨own=false)∧(G=[]∨ow=false)):=by
 unfold fU;cases fl<;>cases eq<;>cases dn<;>cases own<;>cases ow<;>simp_all
variable {x:Operand}
def agF(h:At n0 S0 M0 w0 st o a w g){u1 u2:TypeId}{sz:Nat}{p:Operand}{A X:Ax.X}{f:St→Prop}(g9:∀id el j iE jj j',st.ev A≠.pq id el j iE jj j')(ho:o.op=.store t p x)(hd:o.dst=none)(hp:gG P u1 p=some A)(hx:gG P u2 x=some X)
  (hz:kx P t=some sz) (hq:abG (st.ev A) (st.ev X) st sz f):o.wp P a w (km n0 S0 M0 w0 st.n f) Q':=by
 have ep:=h.ev_ hp;have ex:=h.ev_ hx;unfold abG at hq
 split at hq
 ·next id el j e1=>
  rw[e1]at ep;simp only[fN]at ep;obtain⟨ow0,Sx,lX,KR,b,r1,r2,r3,r4,hv⟩:=ep;obtain⟨own,d,gp,g',F,hk,T,p1,p2,p3,p4,p5⟩:=rR 12 h.us (jK.refl h.us h.rep) ex hq;simp only[stC,stU]at hk
  split at hk
  ·next ow nn usz es jm=>
   obtain⟨⟨q1,q2,q3,q4,q5⟩,hf⟩:=hk;have hm:=f7 jm;obtain⟨u0,Gz,lF⟩:=T.mem _ _ hm;have:=h.us.uniq Gz r1;subst this;simp only[U.xK]at lF;obtain⟨rfl,hlen⟩:=lF;obtain⟨gb,_,gc⟩:=T.gh _ _ hm;have hβ:g'.β id=some b:=by rw[gb];exact r4
   have hU:=T.us.each _ hm;simp only[jn]at hU;obtain⟨nJ,hs,hU⟩:=hU;rcases hU with⟨z1,_⟩|⟨b',c,e,G,cs,rest,k1,k2,k3,k4,k5,k6,k7,k8⟩
   rw[hβ]at z1;cases z1;rw[hβ]at k1;obtain rfl:=aD k1;have Sy:(a.eval x).cells.size=sz:=by
    have:=p1.length;simp at this;omega
   have hle:el*lX+lX≤es.length*lX:=by
    have:=aZ lX (show el+1≤es.length by omega);rw[aT]at this;omega
   have afw:es.length*lX≤g'.cap id*lX:=aZ _ k5;have rh:=k6.length;rw[D.gk hs]at rh;have hH:=CY (P:=P) (w:=w) hz (off:=el*lX+j) Sy k2 (by omega) p1.one;obtain⟨A1,B1,C1,rfl,y1,y2,_⟩:=uo k6 p1 hs q3 q1 q2 q4;have Ef:(c.toList.take (el*lX+j)++(a.eval x).cells.toList++c.toList.drop (el*lX+j+sz)).toArray.toList=
     (cs.take (el*lX+j)++((a.eval x).cells.toList++cs.drop (el*lX+j+sz)))++rest:=by
    simp only[k3];rw[dC (by omega),dB (by omega)];simp
   have W5:(c.toList.take (el*lX+j)++(a.eval x).cells.toList++c.toList.drop (el*lX+j+sz)).toArray.size=g'.cap id*lX:=by
    have:c.toList.length=g'.cap id*lX:=by simpa using k4
    simp only[bB,lP,a8,ca,cV,Sy];simp at this;omega
   have o5:b∈g'.φ id:=by
    cases ow;simp only[mI,aA]at k8;rw[k8.1];simp;simp only[ay]at k8;rw[k8];simp
   have KY:∀y∈g'.φ id,y∈fp g' gp.us:=fun y hy=>gn.2 ⟨_,hm,hy⟩;obtain⟨mt,mf⟩:=DU (own:=own) (ow:=ow) (fl:=d.flat) (eq:=fO es) (dn:=d.gl) (F:=F) (G:=A1++(B1++C1)) (fun h=>jC (D.mq h) p1) (fun h=>jC h p1) (fun h=>kU h k6) q5;have Xa:fU own ow d.flat (fO es)=true→(F=[]∨own=true)∧((ow=true∧g'.φ id=b::(A1++(B1++C1)))∨(A1=[]∧C1=[])):=by
    intro XS;obtain⟨h1,h2⟩:=mt XS;refine⟨h1,?_⟩;rcases h2 with h2|h2
    ·right;simp at h2;exact⟨h2.1,h2.2.2⟩
    left;rw[h2]at k8;exact⟨h2,by simpa using k8⟩
   have ahJ:fU own ow d.flat (fO es)=true→(b::(A1++(F++C1))).Nodup∧∀y∈A1++(F++C1),(y<n0→M0 y)∧¬g'.Sh y∧∀z∈gp.us,z.1≠id→y∉g'.φ z.1:=by
    intro XS;obtain⟨hF,hAC⟩:=Xa XS;have Sz:F.Nodup∧∀y∈F,(y<n0→M0 y)∧¬g'.Sh y∧y∉fp g' gp.us:=by
     rcases hF with rfl|e
     ·exact⟨bp,by simp⟩
     exact⟨(p3.1 e).1,fun y hy=>⟨((p3.1 e).2 y hy).1,((p3.1 e).2 y hy).2.1,((p3.1 e).2 y hy).2.2.1⟩⟩
    rcases hAC with⟨_,hφ⟩|⟨rfl,rfl⟩
    ·have kn:=iZ T.us hm;rw[hφ]at kn;have ahK:∀y∈A1,y∈g'.φ id:=fun y hy=>by rw[hφ];simp[hy]
     have ahL:∀y∈C1,y∈g'.φ id:=fun y hy=>by rw[hφ];simp[hy]
     rw[aH,aX,aX]at kn;refine⟨?_,?_⟩
     ·rw[aH,aX,aX];refine⟨?_,kn.2.1,⟨Sz.1,kn.2.2.1.2.1,?_⟩,?_⟩
      ·simp only[an,cj];refine⟨fun hy=>kn.1 (by simp[hy]),fun hy=>(Sz.2 b hy).2.2 (KY b o5),fun hy=>kn.1 (by simp[hy])⟩
      ·rintro y hy z hz rfl;exact(Sz.2 y hy).2.2 (KY y (ahL y hz))
      rintro y hy z hz rfl;rcases an.1 hz with hz|hz
      exact(Sz.2 y hz).2.2 (KY y (ahK y hy));exact kn.2.2.2 y hy y (by simp[hz]) rfl
     intro y hy;have oz:y∈g'.φ id∨y∈F:=by
      simp only[an]at hy;rcases hy with hy|hy|hy
      exact .inl (ahK y hy);exact .inr hy;exact .inl (ahL y hy)
     rcases oz with hy|hy
     ·have h1:=KY y hy;exact⟨T.us.low y h1,fun hsx=>(T.us.sh y hsx).2.2 h1,fun z hz g9 hyz=>g9 (iA T.us.keys T.us.nodup hz hm hyz hy)⟩
     obtain⟨z1,z2,z3⟩:=Sz.2 y hy;exact⟨z1,z2,fun z hz g9 hyz=>z3 (gn.2 ⟨z,hz,hyz⟩)⟩
    simp only[be,aI];refine⟨aH.2 ⟨fun hy=>(Sz.2 b hy).2.2 (KY b o5),Sz.1⟩,fun y hy=>?_⟩;obtain⟨z1,z2,z3⟩:=Sz.2 y hy;exact⟨z1,z2,fun z hz g9 hyz=>z3 (gn.2 ⟨z,hz,hyz⟩)⟩
   have hzC:fU own ow d.flat (fO es)=true→∀y∈A1++(F++C1),t7 w.heap y:=by
    intro XS y hy;obtain⟨hF,hAC⟩:=Xa XS;have ahM:y∈A1∨y∈C1→y∈g'.φ id:=by
     rcases hAC with⟨_,hφ⟩|⟨rfl,rfl⟩
     ·rw[hφ];rintro(h|h)<;>simp[h]
     simp
    simp only[an]at hy;rcases hy with hy|hy|hy
    exact T.us.fz y (KY y (ahM (.inl hy)))
    ·rcases hF with rfl|e
     cases hy;exact h.us.fz y ((p3.1 e).2 y hy).2.2.2
    exact T.us.fz y (KY y (ahM (.inr hy)))
   have alp:fU own ow d.flat (fO es)=false→∀y∈A1++(F++C1),g'.Sh y:=by
    intro XS;obtain⟨hF,h2⟩:=mf XS;have hAC:(∀y∈A1,g'.Sh y)∧∀y∈C1,g'.Sh y:=by
     rcases h2 with h2|h2
     simp at h2;rw[h2.1,h2.2.2];simp;rw[h2]at k8;simp only[mI,aA]at k8;exact⟨fun y hy=>k8.2 y (by simp[hy]),fun y hy=>k8.2 y (by simp[hy])⟩
    intro y hy;simp only[an]at hy;rcases hy with hy|hy|hy
    exact hAC.1 y hy
    ·rcases hF with rfl|e
     cases hy;exact p3.2 e y hy
    exact hAC.2 y hy
   obtain⟨φ,hφ,Nn,hK⟩:=T.us.ue (h':=(w.setRow b (c.toList.take (el*lX+j)++(a.eval x).cells.toList++c.toList.drop (el*lX+j+sz)).toArray).heap) hm hβ (db w b c _ e _ k2) (bW _ _ _)
    (fun y hy=>cm w b y _ hy) W5 (ow':=fU own ow d.flat (fO es)) (es':=es.set el (D.put lX (D.at es el) j sz d)) (by simp) y2 Ef y1 ahJ alp hzC
   unfold Oper.wp;have pB:(execOp a.eval o).run P w=.ok .skip (w.setRow b (c.toList.take (el*lX+j)++(a.eval x).cells.toList++c.toList.drop (el*lX+j+sz)).toArray):=by
    simp[execOp,ho,hv,hH]
   rw[pB,eC,hd];have lW:=h.sat;refine⟨gp.ue id (.ar (fU own ow d.flat (fO es)) nn lX (es.set el (D.put lX (D.at es el) j sz d))),T.n,hf,lW.ms,lW.v8,?_,lW.base,lW.os,lW.tape,lW.output,?_,?_,g'.oH id φ,Nn,fun t=>kp (fun av v hf hr=>fN.wP hK hf hr) (T.rep t)⟩
   ·show a.tmps.size=_
    rw[lW.tm];exact T.n.symm
   rw[bW];exact lW.size;intro y hy Ij;have:y≠b:=by
    rintro rfl;exact Ij (T.us.low y (KY y o5) hy)
   rw[cm w b y _ this];exact lW.jL y hy Ij
  exact hk.elim
 ·next id el j iE jj j' e1=>exact absurd e1 (g9 _ _ _ _ _ _)
 exact hq.elim
def wJ(z:List Value):Nat→List (Nat×List Value)→List Value
 |o,[]=>z.drop o
 |o,(p,c)::r=>(z.drop o).take (p-o)++c++wJ z (p+c.length) r
def Wq(off:Nat):∀(l:List Value)(k:Nat)(cs:Array Value),off+k+l.length≤cs.size→
  ((l.zipIdx k).foldl (fun cs x=>cs.setIfInBounds (off+x.2) x.1) cs).toList=cs.toList.take (off+k)++l++cs.toList.drop (off+k+l.length)
 | [],k,cs,h=>by simp
 |c::l,k,cs,h=>by
  simp only[lK]at h;rw[eZ,de,Wq off l (k+1) _ (by simp;omega)];simp only[Array.toList_setIfInBounds,lK];have h1:off+k<cs.toList.length:=by simp;omega
  rw[show off+(k+1)=off+k+1 by omega,dr (by simpa using h1)];rw[List.getElem_set_self,List.take_set_of_le (by omega),List.drop_set_of_lt (by omega)];rw[show off+k+1+l.length=off+k+(l.length+1)by omega];simp
def B3{uk:Nat→Option (Nat×Nat)}{z:List Value}{off:Nat→Nat}:∀(ps:List (Nat×Value))(o:Nat)(cs:Array Value)(pre:List Value),
  cs.toList=pre++z.drop o→pre.length=o→o≤z.length→(∀p∈ps,uk p.1=some (off p.1,p.2.cells.size))→
  sS z.length o (ps.map fun p=>(off p.1,p.2.cells.size))=true→
  ∃cs',Instr.fill uk cs ps=some cs'∧cs'.toList=pre++wJ z o (ps.map fun p=>(off p.1,p.2.cells.toList))
 | [],o,cs,pre,h1,h2,h3,_,_=>⟨cs,rfl,by simp[wJ,h1]⟩
 |(i,v)::ps,o,cs,pre,h1,h2,h3,hp,hs=>by
  simp only[lC,sS,bA,a7]at hs;obtain⟨⟨s1,s2⟩,s3⟩:=hs;have jP:cs.size=z.length:=by
   have:=congrArg List.length h1;simp at this;omega
  have Ns:=Wq (off i) v.cells.toList 0 cs (by simp;omega);have KW:(v.cells.zipIdx.foldl (fun cs x=>cs.setIfInBounds (off i+x.2) x.1) cs).toList=(pre++(z.drop o).take (off i-o)++v.cells.toList)++z.drop (off i+v.cells.size):=by
   rw[←Array.foldl_toList,Array.toList_zipIdx,Ns,h1];simp only[ah,cV];rw[fw,eW,h2,b9 (show pre.length≤off i by omega),bO (show pre.length≤off i+v.cells.size by omega)];simp[show o+(off i+v.cells.size-o)=off i+v.cells.size by omega]
  obtain⟨cs',f1,f2⟩:=B3 ps (off i+v.cells.size) _ _ KW (by simp;omega) (by omega) (fun p SA=>hp p (by simp[SA])) s3;refine⟨cs',?_,?_⟩;simp only[Instr.fill,hp (i,v) (by simp)];rw[ae (by simp;omega)];exact f1;rw[f2];simp[wJ]
variable {av:AV}{us:List (Nat×U)}
def HJ(hu:gQ h n0 S0 M0 us g){s:Nat}(hr:fN h us g av v)(hs:AV.size (lu us) av=s)(h0:s≠0):v.cells.size=s:=by
 cases av with
 |im t d=>
  simp only[fN]at hr;obtain⟨F,r1,_⟩:=hr;have:=r1.length;simp only[AV.size]at hs;simpa[hs]using this
 |tr i=>
  simp only[AV.size]at hs
  split at hs
  ·next d hd=>
   simp only[fN]at hr;obtain⟨_,rfl⟩:=hr;have ho:=hu.each _ (f7 hd);simp only[jn]at ho;have:=ho.2.1.length;simpa[hs]using this
  exact absurd hs.symm h0
 |pw id el j=>
  simp only[fN]at hr;obtain⟨_,_,_,_,_,_,_,_,_,rfl⟩:=hr;simp only[AV.size]at hs;simp[Value.cells,hs]
 |cw id el j sz agg=>
  simp only[fN]at hr;obtain⟨nn,usz,es,b,c,e,r1,r2,r3,r4,r5,r6,r7,r8,r9⟩:=hr;simp only[AV.size]at hs;subst hs;have ho:=hu.each _ r1;simp only[jn]at ho;rcases ho.2.2 with⟨q1,_⟩|⟨b',c',e',G,cs,rest,q1,q2,q3,q4,q5,_⟩
  rw[r4]at q1;cases q1;rw[r4]at q1;obtain rfl:=aD q1;rw[r5]at q2;injection aD q2 with q2 _ _;subst q2;have hle:(el+1)*usz≤g.cap id*usz:=aZ _ (by omega);rw[aT,ej]at hle;have:=congrArg List.length r8;simp at this;omega
 |sm id off len=>
  simp only[fN]at hr;obtain⟨_,_,_,_,_,_,h1⟩:=hr;simp only[AV.size]at hs;rcases h1 with⟨b,_,rfl⟩|⟨_,_,_,rfl⟩<;>simp[Value.cells,hs]
 |vb id len=>
  simp only[fN]at hr;obtain⟨_,_,_,_,_,_,rfl⟩:=hr;simp only[AV.size]at hs;simp[Value.cells,hs]
 |ps id=>
  simp only[fN]at hr;obtain⟨_,_,_,_,_,_,rfl⟩:=hr;simp only[AV.size]at hs;simp[Value.cells,hs]
 |pb id j=>
  simp only[fN]at hr;obtain⟨_,_,_,_,_,rfl⟩:=hr;simp only[AV.size]at hs;simp[Value.cells,hs]
 |sg vs=>exact absurd hs.symm h0
 |lf vs=>exact absurd hs.symm h0
 |any=>exact absurd hs.symm h0
 |cl f vs=>
  simp only[fN]at hr;obtain⟨_,_,rfl⟩:=hr;simp only[AV.size]at hs;simp[Value.cells,hs]
 |pq id el j iE jj j'=>
  simp only[fN]at hr;obtain⟨_,_,_,_,_,_,_,_,_,_,_,_,_,_,_,_,_,rfl⟩:=hr;simp only[AV.size]at hs;simp[Value.cells,hs]
 |qs id el j iE off len=>
  simp only[fN]at hr;obtain⟨_,_,_,_,_,_,_,_,_,_,_,_,_,_,_,_,_,_,rfl⟩:=hr;simp only[AV.size]at hs;simp[Value.cells,hs]
 |ss id off len=>
  simp only[fN]at hr;simp only[AV.size]at hs;obtain⟨_,_,_,_,_,_,⟨_,_,_,_,rfl⟩|⟨_,_,rfl⟩⟩:=hr<;>simp[Value.cells,hs]
 |z0 nn sz=>
  simp only[fN]at hr;obtain⟨_,rfl,_⟩:=hr;simp only[AV.size]at hs;simp[Value.cells,hs]
def zQ:∀{as bs:List AV} {xs ys:List Value},fT h us g as xs→fT h us g bs ys→fT h us g (as++bs) (xs++ys)
 | [],_,_,_,h1,h2=>by
  simp only[fT]at h1;subst h1;exact h2
 |a::as,bs,xs,ys,h1,h2=>by
  simp only[fT]at h1;obtain⟨v,r,rfl,h3,h4⟩:=h1;simp only[bf,fT];exact⟨v,r++ys,rfl,h3,zQ h4 h2⟩
def Cv{cs:List Value}(hr:gJ h d F cs)(h1:d.size=1∧d.fX=false):∃c,cs=[c]∧c.oneCell'=true:=by
 have hl:=hr.length;rw[h1.1]at hl
 match cs,hl with
 | [c],_=>
  refine⟨c,rfl,?_⟩;cases d with
  |ag ds=>simp[D.fX]at h1
  |sc v=>simp only[gJ]at hr;obtain⟨_,hr,h2⟩:=hr;injection hr with hr;subst hr;exact h2
  |jk=>simp only[gJ]at hr;obtain⟨_,v,hr,h2⟩:=hr;injection hr with hr;subst hr;exact h2
  |ls nn sz ds=>
   simp only[gJ]at hr;rcases hr with⟨p,hr,_⟩|⟨b,off,cap,c',e,fr,F',hr,_⟩<;>(injection hr with hr;subst hr;rfl)
  |pt d j=>
   simp only[gJ]at hr;obtain⟨b,off,c',e,fr,F',hr,_⟩:=hr;injection hr with hr;subst hr
   rfl
  |lc b o d=>exact hr.one _ (by simp)
  |fn f ds=>
   simp only[gJ]at hr;obtain⟨vs,hr,_⟩:=hr;injection hr with hr;subst hr
   rfl
def acV{us:List (Nat×U)}:∀{zs:List D} {zl:List Value},gt h zs [] zl→(∀d∈zs,d.size=1∧d.fX=false)→
  fT h us g (zs.map rL) zl∧(zl.map (·.cells.toList)).flatten=zl
 | [],zl,hr,_=>by
  simp only[gt]at hr;simp[fT,hr.2]
 |d::zs,zl,hr,h1=>by
  simp only[gt]at hr;obtain⟨F1,F2,c1,c2,e1,rfl,r1,r2⟩:=hr;have e1:=e1.symm;simp only[eD]at e1;obtain⟨rfl,rfl⟩:=e1;obtain⟨c,rfl,hc⟩:=Cv r1 (h1 d (by simp));obtain⟨i1,i2⟩:=acV (us:=us) r2 fun x hx=>h1 x (by simp[hx]);have hcc:=gD hc;refine⟨?_,?_⟩
  ·simp only[lC,fT];refine⟨c,c2,rfl,?_,i1⟩;unfold rL
   split<;>
   simp only[fN]<;>
   exact⟨[],by rw[hcc];exact r1,nA (h1 d (by simp)).2 hc,by simp⟩
  simp[hcc,i2]
def zz:∀{zs:List D} {zl:List Value} (n:Nat),gt h zs [] zl→(∀d∈zs,d.size=1∧d.fX=false)→gt h (zs.drop n) [] (zl.drop n)
 |_,_,0,hr,_=>by simpa using hr
 | [],zl,n+1,hr,_=>by simp only[gt]at hr;simp[gt,hr.2]
 |d::zs,zl,n+1,hr,h1=>by
  simp only[gt]at hr;obtain⟨F1,F2,c1,c2,e1,rfl,r1,r2⟩:=hr;have e1:=e1.symm;simp only[eD]at e1;obtain⟨rfl,rfl⟩:=e1;obtain⟨c,rfl,hc⟩:=Cv r1 (h1 d (by simp));simpa using zz n r2 fun x hx=>h1 x (by simp[hx])
def Fn:∀{zs:List D} {zl:List Value} (n:Nat),gt h zs [] zl→(∀d∈zs,d.size=1∧d.fX=false)→gt h (zs.take n) [] (zl.take n)
 |_,_,0,hr,_=>by simp[gt]
 | [],zl,n+1,hr,_=>by simp only[gt]at hr;simp[gt,hr.2]
 |d::zs,zl,n+1,hr,h1=>by
  simp only[gt]at hr;obtain⟨F1,F2,c1,c2,e1,rfl,r1,r2⟩:=hr;have e1:=e1.symm;simp only[eD]at e1;obtain⟨rfl,rfl⟩:=e1;obtain⟨c,rfl,hc⟩:=Cv r1 (h1 d (by simp));simp only[aP,gt,bf,be];exact⟨[],[],[c],_,rfl,rfl,r1,Fn n r2 fun x hx=>h1 x (by simp[hx])⟩
def Ip{us:List (Nat×U)}{zs:List D}{zl:List Value}(hz:gt h zs [] zl)(OQ:∀d∈zs,d.size=1∧d.fX=false):
  ∀(ps:List (Nat×Nat×AV))(vs:List Value)(o:Nat),fT h us g (ps.map (·.2.2)) vs→ps.map (·.2.1)=vs.map (·.cells.size)→
   ∃xs,fT h us g (Dy zs o ps) xs∧(xs.map (·.cells.toList)).flatten=wJ zl o (List.zipWith (fun p v=>(p.1,v.cells.toList)) ps vs)
 | [],vs,o,_,_=>by
  obtain⟨i1,i2⟩:=acV (us:=us) (g:=g) (zz o hz OQ) fun d hd=>OQ d (bt hd);exact⟨_,i1,by simpa only[wJ,List.zipWith_nil_left]using i2⟩
 |(p,s,av)::ps,vs,o,hv,hs=>by
  simp only[lC,fT]at hv;obtain⟨v,r,rfl,h1,h2⟩:=hv;simp only[lC,cu]at hs;obtain⟨rfl,hs⟩:=hs;obtain⟨i1,i2⟩:=acV (us:=us) (g:=g) (Fn (p-o) (zz o hz OQ) fun d hd=>OQ d (bt hd)) fun d hd=>OQ d (bt (aY hd));obtain⟨xs,j1,j2⟩:=Ip hz OQ ps r (p+v.cells.size) h2 hs;refine⟨(zl.drop o).take (p-o)++v::xs,?_,?_⟩
  ·simp only[Dy];refine zQ i1 ?_;simp only[fT];exact⟨v,xs,rfl,h1,j1⟩
  simp only[wJ,ef,bQ,List.flatten_append,i2,lC,bV,j2,cV,bC]
def Ob{α β:Type}{f:α→Option β}:∀{l:List α} {m:List β},l.mapM f=some m→∀(i:Nat)(a:α),l[i]?=some a→∃b,m[i]?=some b∧f a=some b
 | [],m,_,i,a,h=>by simp at h
 |x::l,m,hm,i,a,h=>by
  simp only[da,oD,oB,oP,oS]at hm;obtain⟨b,hb,m',v9,rfl⟩:=hm;cases i with
  |zero=>simp only[List.getElem?_cons_zero,oS]at h;subst h;exact⟨b,by simp,hb⟩
  |succ i=>simpa using Ob v9 i a (by simpa using h)
variable {fs:Array Field}
def AR(h:At n0 S0 M0 w0 st o a w g){o6:List (Nat×Nat)}(R9:fs.toList.mapM (fun f=>(P.info? f.type).map fun i=>(f.offset,i.size))=some o6):
  ∀(ps:List (Nat×Operand))(L:List (Nat×Nat×X)),
   ps.mapM (fun(i,x)=>do let f←fs[i]?;pure (f.offset,←kx P f.type,←gG P f.type x))=some L→
   (L.map fun p=>(p.1,p.2.1,st.ev p.2.2)).all (fun p=>p.2.2.size st.unit==p.2.1&&p.2.1 !=0)=true→
   fT w.heap st.us g (L.map fun p=>st.ev p.2.2) (ps.map fun p=>a.eval p.2)∧
   (∀q∈ps.map (fun p=>(p.1,a.eval p.2)),o6.toArray[q.1]?=some ((o6.toArray.getD q.1 (0,0)).1,q.2.cells.size))∧
   ((ps.map (fun p=>(p.1,a.eval p.2))).map fun q=>((o6.toArray.getD q.1 (0,0)).1,q.2.cells.size))=(L.map fun p=>(p.1,p.2.1))∧
   ((ps.map (fun p=>(p.1,a.eval p.2))).map fun q=>((o6.toArray.getD q.1 (0,0)).1,q.2.cells.toList))=List.zipWith (fun p v=>(p.1,v.cells.toList)) (L.map fun p=>(p.1,p.2.1,st.ev p.2.2)) (ps.map fun p=>a.eval p.2)∧
   (L.map fun p=>(p.1,p.2.1,st.ev p.2.2)).map (·.2.1)=(ps.map fun p=>a.eval p.2).map (·.cells.size)
 | [],L,hL,_=>by
  simp at hL;subst hL;simp[fT]
 |(i,x)::ps,L,hL,hs=>by
  simp only[da,oD,oB,oP,oS]at hL;obtain⟨p,⟨f,hf,s,jP,X,hX,rfl⟩,L',hL',rfl⟩:=hL;simp only[lC,cJ,bA,aU,cy]at hs;obtain⟨⟨s1,s2⟩,s3⟩:=hs;obtain⟨i1,i2,i3,i4,i5⟩:=AR h R9 ps L' (by simpa using hL') (by simpa using s3);have ev:=h.ev_ hX;have hc:(a.eval x).cells.size=s:=HJ h.us ev s1 s2;have hp:o6[i]?=some (f.offset,s):=by
   obtain⟨y,hy1,hy2⟩:=Ob R9 i f (by simpa using hf);rw[hy1,←hy2];simp only[kx]at jP;cases rJ:P.info? f.type with
   |none=>simp[rJ]at jP
   |some inf=>simp only[rJ,dJ,oS]at jP⊢;rw[jP]
  have hg:(o6.toArray.getD i (0,0))=(f.offset,s):=by simp[hp]
  refine⟨?_,?_,?_,?_,?_⟩;simp only[lC,fT];exact⟨_,_,rfl,ev,i1⟩
  ·intro q hq;rcases ab.1 hq with rfl|hq
   simp only[hg,hc];simpa using hp;exact i2 q hq
  simp only[lC,hg,hc,i3];simp only[lC,ef,hg,i4];simp only[lC,hc,i5]
def aho(h:At n0 S0 M0 w0 st o a w g){ps:Array (Nat×Operand)}{z:D}{L:List (Nat×Nat×X)}{o6:List (Nat×Nat)}(ho:o.op=.build t ps)(ht:P.underlying t=some (.struct fs))
  (R9:fs.toList.mapM (fun f=>(P.info? f.type).map fun i=>(f.offset,i.size))=some o6) (hz:kY P t=some z)
  (hL:ps.toList.mapM (fun(i,x)=>do let f←fs[i]?;pure (f.offset,←kx P f.type,←gG P f.type x))=some L)
  (hq:GN (L.map fun p=>(p.1,p.2.1,st.ev p.2.2)) st.unit z k):o.wp P a w (jV n0 S0 M0 w0 st o.dst k) Q':=by
 unfold GN at hq
 split at hq
 ·next zs=>
  obtain⟨⟨q1,q2,q3⟩,hk⟩:=hq;obtain⟨b1,b2,b3,b4,b5⟩:=AR h R9 ps.toList L hL q1;unfold kY at hz
  split at hz
  ·next inf rJ=>
   split at hz
   ·next zv Nm=>
    split at hz
    ·next sC=>
     obtain⟨r1,r2,r3⟩:=sJ hz w.heap;simp only[gJ]at r1;have hzl:zs.length=zv.cells.toList.length:=by
      have hl:=r1.2.length;have:∀l:List D,(∀d∈l,d.size=1∧d.fX=false)→D.fS l=l.length:=by
       intro l
       induction l with
       |nil=>intro _;rfl
       |cons d l ih=>intro hd;simp only[D.fS,(hd d (by simp)).1,ih fun x hx=>hd x (by simp[hx]),fm];omega
      rw[hl,this zs r1.1]
     obtain⟨cs',f1,f2⟩:=B3 (uk:=(o6.toArray[·]?)) (z:=zv.cells.toList) (off:=fun i=>(o6.toArray.getD i (0,0)).1) (ps.toList.map fun p=>(p.1,a.eval p.2)) 0 zv.cells [] (by simp) rfl (by simp) b2
      (by rw[b3,←hzl];simpa[bF]using q2)
     obtain⟨xs,x1,x2⟩:=Ip (us:=st.us) (g:=g) r1.2 r1.1 (L.map fun p=>(p.1,p.2.1,st.ev p.2.2)) (ps.toList.map fun p=>a.eval p.2) 0 (by simpa[bF]using b1) b5;refine h.pure_ (v:=.agg cs') ?_ (II x1 (by rw[f2,x2,b4];rfl)) hk;have hb:P.built t ((ps.map fun p=>(p.1,a.eval p.2)).toList)=some cs':=by
      simp only[Program.built,rJ,ht,Nm,R9,er];exact f1
     simp only[execOp,ho,bS,run_build w t _ cs' hb]
     rfl
    cases hz
   cases hz
  cases hz
 exact hq.elim
def vU(hu:gQ h n0 S0 M0 us g)(hr:fN h us g av v)(ho:ig (lu us) sz av=true)(h0:0<sz):v.cells.size=sz:=by
 by_cases hsg:∃vs,av=.sg vs
 ·obtain⟨vs,rfl⟩:=hsg;simp only[ig,bA,aU]at ho;obtain⟨h1,h2⟩:=ho;simp only[fN]at hr;obtain⟨xs,r1,rfl⟩:=hr;have key:∀{vs:List AV} {xs:List Value},fT h us g vs xs→vs.all (fun a=>AV.size (lu us) a !=0)=true→(xs.map (·.cells.toList)).flatten.length=(vs.map (AV.size (lu us))).sum:=by
   intro vs
   induction vs with
   |nil=>intro xs hr _;simp only[fT]at hr;simp[hr]
   |cons a as ih=>
    intro xs hr ha;simp only[fT]at hr;obtain⟨v,r,rfl,q1,q2⟩:=hr;simp only[cJ,bA,cy,ne_eq]at ha;have e1:=HJ hu q1 rfl ha.1;simp only[lC,bV,lP,cV,List.sum_cons,e1,ih q2 ha.2]
  have:=key r1 h1;rw[h2]at this;simpa[Value.cells]using this
 refine HJ hu hr ?_ (by omega);unfold ig at ho
 split at ho<;>simp_all [AV.size]
 split at ho<;>simp_all
def M1{z:List Value}:∀(vs:List Value)(i0:Nat),(∀v∈vs,v.cells.size=sz)→
  wJ z (i0*sz) ((vs.zipIdx i0).map fun x=>(x.2*sz,x.1.cells.toList))=(vs.map (·.cells.toList)).flatten++z.drop ((i0+vs.length)*sz)
 | [],i0,_=>by simp[wJ]
 |v::vs,i0,h=>by
  have h1:=h v (by simp);have ih:=M1 (z:=z) vs (i0+1) fun x hx=>h x (by simp[hx]);simp only[eZ,lC,wJ,e8,aO,be,cV,h1];rw[show i0*sz+sz=(i0+1)*sz by rw[aT,ej],ih];simp[cN,eo 1]
def ro{n:Nat}:∀(vs:List Value)(i0:Nat),(∀v∈vs,v.cells.size=sz)→(i0+vs.length)*sz≤n→
  sS n (i0*sz) ((vs.zipIdx i0).map fun x=>(x.2*sz,x.1.cells.size))=true
 | [],i0,_,_=>rfl
 |v::vs,i0,h,hn=>by
  have h1:=h v (by simp);have Ey:(i0+1+vs.length)*sz≤n:=by rw[show i0+1+vs.length=i0+(v::vs).length by simp;omega];exact hn
  have ih:=ro (n:=n) vs (i0+1) (fun x hx=>h x (by simp[hx])) Ey;have e:i0*sz+sz=(i0+1)*sz:=by rw[aT,ej]
  have hle:(i0+1)*sz≤(i0+1+vs.length)*sz:=aZ _ (by omega);simp only[eZ,lC,sS,h1,e,ih,bU,bA,a7];omega
def yE(h:At n0 S0 M0 w0 st o a w g):∀(ps:List (Nat×Operand))(L:List (Nat×X)),ps.mapM (fun(i,x)=>do pure (i,←gG P e x))=some L→
  fT w.heap st.us g (L.map fun p=>st.ev p.2) (ps.map fun p=>a.eval p.2)∧L.map (·.1)=ps.map (·.1)
 | [],L,hL=>by
  simp at hL;subst hL;simp[fT]
 |(i,x)::ps,L,hL=>by
  simp only[da,oD,oB,oP,oS]at hL;obtain⟨p,⟨X,hX,rfl⟩,L',hL',rfl⟩:=hL;obtain⟨i1,i2⟩:=yE h ps L' (by simpa using hL');refine⟨?_,by simp[i2]⟩;simp only[lC,fT];exact⟨_,_,rfl,h.ev_ hX,i1⟩
def zx{α:Type}:∀(l:List (Nat×α))(i0:Nat),l.map (·.1)=(List.range' i0 l.length)→l=((l.map (·.2)).zipIdx i0).map fun x=>(x.2,x.1)
 | [],_,_=>rfl
 |(i,x)::l,i0,h=>by
  simp only[lC,lK,List.range'_succ,cu]at h;obtain⟨rfl,h⟩:=h;have:=zx l (i+1) h;simp only[lC,eZ];rw[←this]
variable {h':jv}
def Cr{nus:List (Nat×U)}{g g':Gh}(hu:gQ h n0 S0 M0 us g)(hh:∀b,b<h.size→h'[b]?=h[b]?)
  (hβ:∀x∈us,g'.β x.1=g.β x.1∧g'.root x.1=g.root x.1∧g'.cap x.1=g.cap x.1) (hφ:∀x∈us,g'.φ x.1=g.φ x.1)
  (hS:∀b,g.Sh b→g'.Sh b):∀{as:List AV} {vs:List Value},fT h us g as vs→fT h' (nus++us) g' as vs
 | [],_,hr=>by simpa[fT]using hr
 |a::as,vs,hr=>by
  simp only[fT]at hr⊢;obtain⟨v,r,h1,h2,h3⟩:=hr;exact⟨v,r,h1,h2.grow hu hh hβ hφ hS,Cr hu hh hβ hφ hS h3⟩
def Bo(hu:gQ h n0 S0 M0 us g)(h0:0<sz):∀{as:List AV} {vs:List Value},fT h us g as vs→as.all (ig (lu us) sz)=true→as.length=vs.length∧∀v∈vs,v.cells.size=sz
 | [],vs,hr,_=>by simp only[fT]at hr;subst hr;simp
 |a::as,vs,hr,ha=>by
  simp only[fT]at hr;obtain⟨v,r,rfl,h2,h3⟩:=hr;simp only[cJ,bA]at ha;obtain⟨i1,i2⟩:=Bo hu h0 h3 ha.2;refine⟨by simp[i1],?_⟩;intro x hx;rcases ab.1 hx with rfl|hx
  exact vU hu h2 ha.1 h0;exact i2 x hx
def Hj{g:Gh}:∀{items:List AV} {vs:List Value} {ds:List D},fT h us g items vs→w7 sz items=some ds→
  ∃F,gt h ds F (vs.map (·.cells.toList)).flatten∧(∀d∈ds,d.size=sz)∧ds.length=items.length∧∀b∈F,g.Sh b
 | [],vs,ds,hr,hd=>by
  simp only[fT]at hr;simp only[w7,oS]at hd;subst hr hd;exact⟨[],by simp[gt],by simp,rfl,by simp⟩
 |av::items,vs,ds,hr,hd=>by
  simp only[fT]at hr;obtain⟨v,r,rfl,h1,h2⟩:=hr;unfold w7 at hd
  split at hd
  ·next heq=>cases heq
  ·next d r' heq=>
   injection heq with e1 e2;subst e1 e2
   split at hd
   ·next hs=>
    split at hd
    ·next lQ ot=>
     injection hd with hd;subst hd;obtain⟨F,i1,i2,i3,i4⟩:=Hj h2 ot;simp only[fN]at h1;obtain⟨F1,q1,_,q3⟩:=h1;refine⟨F1++F,?_,by simp;exact⟨hs,i2⟩,by simp[i3],fun b hb=>?_⟩;simp only[lC,bV,gt];exact⟨F1,F,_,_,rfl,rfl,q1,i1⟩;rcases an.1 hb with hb|hb
     exact ni (q3 b hb);exact i4 b hb
    cases hd
   cases hd
  cases hd
def Du{un:Nat→Option U}:∀{items:List AV} {ds:List D},w7 sz items=some ds→items.all (ig un sz)=true
 | [],_,_=>rfl
 |av::items,ds,hd=>by
  unfold w7 at hd
  split at hd
  ·next heq=>cases heq
  ·next d r' heq=>
   injection heq with e1 e2;subst e1 e2
   split at hd
   ·next hs=>
    split at hd
    ·next lQ ot=>
     simp only[cJ,bA,ig,aU];exact⟨hs,Du ot⟩
    cases hd
   cases hd
  cases hd
variable {ds:List D}
def Wj{as:List AV}(h:bsS sz as=some ds):w7 sz as=some ds:=by
 unfold bsS at h
 split at h;exact h;cases h
variable {len:Nat}
def ako(h:At n0 S0 M0 w0 st o a w g){e:TypeId}{d sz:Nat}{ps:Array (Nat×Operand)}{z:D}{L:List (Nat×X)}(ho:o.op=.buildSlice t len ps)(ht:P.underlying t=some (.slice e))
  (hs:kx P e=some sz) (hz:kY P e=some z) (hL:ps.toList.mapM (fun(i,x)=>do pure (i,←gG P e x))=some L)
  (hq:bsK (L.map fun p=>(p.1,st.ev p.2)) st.unit d sz len k):o.wp P a w (jV n0 S0 M0 w0 st o.dst k) Q':=by
 obtain⟨b1,b2⟩:=yE h ps.toList L hL;unfold kx at hs;cases rJ:P.info? e with
 |none=>simp[rJ]at hs
 |some inf=>
  simp only[rJ,dJ,oS]at hs;unfold kY at hz;rw[rJ]at hz
  dsimp only at hz
  split at hz
  ·next zv Nm=>
   unfold bsK at hq
   split at hq
   ·next h0=>
    subst h0;obtain⟨⟨q1,q2⟩,hk⟩:=hq;have Ik:ps= #[]:=by
     have:L=[]:=by simpa using q2
     rw[this]at b2;have:ps.toList=[]:=by simpa using b2.symm
     apply aR
     simpa using this
    refine nx h (c:= #[]) (e:=e) (v:=.slice (some ⟨w.heap.size,0,none⟩) 0 0) [w.heap.size] 0 ?_ rfl ?_ ?_ hk
    ·subst Ik;simp[execOp,ho,Instr.buildSlice,bo ht,sizeOf,typeInfo,rJ,newRow,Instr.fill];congr 2
     try (apply aR;simp)
    ·intro _;simp only[jn,jh];exact⟨by simp,by simp,.inr ⟨w.heap.size,#[],e,[],[],[],rfl,lJ _ _,by simp,by simp,by simp,by simp[gt],by simp,by simp⟩⟩
    intro _;simp only[fN];exact⟨_,_,_,_,bD,by simp,.inl ⟨w.heap.size,by simp[jh],by simp[jh]⟩⟩
   next h0=>
   obtain⟨q1,q0,q2,q3⟩:(L.map fun p=>(p.1,st.ev p.2)).map (·.1)=List.range len∧0<sz∧len*sz≤16777216∧((L.map fun p=>(p.1,st.ev p.2)).map (·.2)).all (ig st.unit sz)=true:=by
    split at hq
    ·next ds ot=>exact⟨hq.1.1,hq.1.2.1,hq.1.2.2,Du (Wj ot)⟩
    exact⟨hq.1.2.1,hq.1.2.2.1,hq.1.2.2.2.1,hq.1.2.2.2.2⟩
   have q3':((L.map fun p=>(p.1,st.ev p.2)).map (·.2)).all (ig (lu st.us) sz)=true:=q3;obtain⟨v1,v2⟩:=Bo h.us q0 (by simpa[bF]using b1) (by simpa[bF]using q3');have hlen:ps.toList.length=len:=by
    have:=congrArg List.length q1;have h2:=congrArg List.length b2;simp at this h2;simp[←h2,this]
   have afx:ps.toList.map (·.1)=List.range' 0 ps.toList.length:=by
    rw[←b2,hlen,←fA,←q1];simp[bF]
   generalize Ln:(ps.toList.map fun p=>a.eval p.2)=vs at v1 v2 b1;have OR:vs.length=len:=by rw[←Ln];simpa using hlen
   have HY:(ps.toList.map fun p=>(p.1,a.eval p.2))=(vs.zipIdx 0).map fun x=>(x.2,x.1):=by
    have:=zx (ps.toList.map fun p=>(p.1,a.eval p.2)) 0 (by simpa[bF]using afx);rw[←Ln];simpa[bF]using this
   subst hs;have KZ:((Array.range (len*inf.size)).map (zv.cells[· % zv.cells.size]!)).toList.length=len*inf.size:=by simp
   obtain⟨cs',f1,f2⟩:=B3 (uk:=fun i=>some (i*inf.size,inf.size)) (z:=((Array.range (len*inf.size)).map (zv.cells[· % zv.cells.size]!)).toList) (off:=fun i=>i*inf.size)
    ((vs.zipIdx 0).map fun x=>(x.2,x.1)) 0 ((Array.range (len*inf.size)).map (zv.cells[· % zv.cells.size]!)) [] (by simp) rfl (by omega)
    (by
     intro p hp;obtain⟨x,hx,rfl⟩:=aB.1 hp;have:x.1∈vs:=by
      have:=List.mem_zipIdx' hx;rw[this.2];exact aF _
     simp only[v2 _ this])
    (by
     rw[KZ];have:=ro (n:=len*inf.size) vs 0 v2 (by rw[OR];simp);simpa[bF]using this)
   have sC:cs'.toList=(vs.map (·.cells.toList)).flatten:=by
    have:=M1 (z:=((Array.range (len*inf.size)).map (zv.cells[· % zv.cells.size]!)).toList) vs 0 v2;rw[et]at this;rw[f2];simp only[be,cR,bF];rw[this,bO (by rw[KZ,OR,aa];exact aw _),aI]
   have BH:¬len*inf.size=0:=by
    intro h';rcases Nat.mul_eq_zero.1 h' with h'|h'<;>omega
   split at hq
   ·next ds ot=>
    obtain⟨_,hk⟩:=hq;obtain⟨F,s1,s2,s3,s4⟩:=Hj (by simpa[bF]using b1) (by simpa[bF]using Wj ot);have lW:=h.sat;have HZ:n0≤w.heap.size:=by rw[lW.base];exact lW.size
    have pB:(execOp a.eval o).run P w=.ok (.value (.slice (some ⟨w.heap.size,0,none⟩) len len)) (w.alloc (.cells cs' e)):=by
     have hH:=run_buildSlice (P:=P) w t e len (ps.map fun p=>(p.1,a.eval p.2)) cs' inf zv ht rJ Nm (by omega) BH (by rw[er,HY];exact f1);simp only[execOp,ho,bS,hH]
     rfl
    obtain⟨hU,hV⟩:=h.us.wide (h':=w.heap.push (.cells cs' e (0,0))) (by simp) (fun b hb=>mh hb) HZ [w.heap.size] (by intro b hb;simp only[au]at hb;subst hb;right;simp);unfold Oper.wp;rw[pB];refine⟨_,[],hk,fun _=>?_⟩;rw[lp];have hS:k9 n0 S0 M0 w0 st a (w.alloc (.cells cs' e)):=by
     refine⟨lW.ms,lW.v8,lW.tm,lW.base,lW.os,lW.tape,lW.output,?_,?_,_,hU,fun t=>hV _ _ (h.rep t)⟩
     ·have:=lW.size
      show _≤(w.heap.push _).size
      simp;omega
     intro b hb hm;have:(w.heap.push (.cells cs' e (0,0)))[b]?=w.heap[b]?:=mh (by omega);exact this.trans (lW.jL b hb hm)
    refine jY hS hU (fun t=>hV _ _ (h.rep t)) (fun i hi=>h.dst i hi) ?_;simp only[fN];have yZ:ds.length=len:=by
     rw[s3];have:=congrArg List.length q1;simpa using this
    refine⟨w.heap.size::F,?_,by simp[D.fits,Value.oneCell'],?_⟩
    ·have hl:=s1.length;rw[D.gk s2]at hl;have hlm:len≤len*inf.size:=fB _ q0;unfold gJ;refine .inr ⟨w.heap.size,0,len,cs',e,(0,0),F,by simp[Value.cells,yZ],rfl,by simp,by omega,by simp[gz];omega,lJ _ _,?_,s2,?_⟩
     ·have:cs'.size=cs'.toList.length:=by simp
      rw[this,sC,hl];simp[yZ,Nat.mul_comm]
     have e3:(cs'.toList.drop 0).take (ds.length*inf.size)=(vs.map (·.cells.toList)).flatten:=by
      rw[aJ,sC,←hl,cO]
     rw[e3];exact s1.frame fun b hb=>mh (s1.lt b hb)
    intro b hb;rcases ab.1 hb with rfl|hb
    exact .inl (.inr (by simp));exact .inl (.inl (s4 b hb))
   obtain⟨⟨alq,_⟩,hk⟩:=hq;refine nx h (c:=cs') (e:=e) (v:=.slice (some ⟨w.heap.size,0,none⟩) len len) [w.heap.size] 0 ?_ rfl ?_ ?_ hk (fun _=>alq)
   ·have hH:=run_buildSlice (P:=P) w t e len (ps.map fun p=>(p.1,a.eval p.2)) cs' inf zv ht rJ Nm (by omega) BH (by rw[er,HY];exact f1);simp only[execOp,ho,bS,hH]
    rfl
   ·intro oK;have KS:=jy oK;have g9:∀x∈st.us,x.1≠d:=fun x hx e=>KS (aB.2 ⟨x,hx,e⟩);simp only[jn,jh];refine⟨?_,w.heap.size,cs',e,vs,[],rfl,lJ _ _,rfl,?_,fun _=>v2,by rw[sC,aI]⟩
    ·have:L.length=len:=by have:=congrArg List.length q1;simpa using this
     have hlm:len≤len*inf.size:=fB _ q0;simp[this,gz];omega
    have:=Cr (nus:=[(d,U.bx inf.size ((L.map fun p=>(p.1,st.ev p.2)).map (·.2)))]) (g':=g.add d (some w.heap.size) [w.heap.size] (.slice (some ⟨w.heap.size,0,none⟩) len len) 0) (h':=w.heap.push (.cells cs' e (0,0))) h.us (fun b hb=>mh hb) (fun x hx=>by simp[Gh.add,g9 x hx]) (fun x hx=>by simp[Gh.add,g9 x hx]) (fun b hb=>hb) b1;simpa[bF]using this
   intro _;simp only[fN];exact⟨_,_,_,bD,by simp[←OR,←v1],by simp[jh],rfl⟩
  cases hz
def Kw:∀{ds es:List D} {f:Bool→Prop},yP ds es f→∃r,f r∧∀f':Bool→Prop,f' r→yP ds es f'
 | [],[],f,h=>⟨true,h,fun _ h=>h⟩
 |d::ds,e::es,f,h=>by
  unfold yP at h
  split at h
  ·next h1 _=>cases h1
  ·next h1 h2=>
   injection h1 with h1 xR;injection h2 with h2 EV;subst h1 xR h2 EV;obtain⟨rfl,h⟩:=h;obtain⟨r,h1,h2⟩:=Kw h;exact⟨_,h1,fun f' hf=>⟨rfl,h2 _ hf⟩⟩
  exact h.elim
 | [],_::_,_,h=>by simp[yP]at h
 |_::_,[],_,h=>by simp[yP]at h
def Jf(hg:tQ P t=some false){cs:Array Value}{i:Nat}(hv:cs[i]?=some v)(w:World):(part t cs i).run P w=.ok v w:=by
 simp[part,GG hg,hv]
def N5{h:jv}{xs ys:Array Value}(dep:Nat)(w:World):∀(fs:List Field)(i:Nat)(ds es:List D)(F G:List Nat)(f:Bool→Prop),yF P i fs=true→ds.length=fs.length→
  gt h ds F (xs.toList.drop i)→gt h es G (ys.toList.drop i)→yP ds es f→∃r,(Op.eqFields (dep+1) xs ys fs).run P w=.ok r w∧f r
 | [],i,ds,es,F,G,f,_,hl,_,_,hc=>by
  match ds,es,hl,hc with
  | [],[],_,hc=>exact⟨true,rfl,hc⟩
 |fd::fs,i,ds,es,F,G,f,hi,hl,h1,h2,hc=>by
  match ds,es,hl,hc with
  |d::ds,[],_,hc=>simp[yP]at hc
  |d::ds,e::es,hl,hc=>
   unfold yP at hc
   split at hc
   ·next h1 _=>cases h1
   ·next k1 m lQ k2 q es' e1 e2 _=>
    injection e1 with e1 e1';injection e2 with e2 e2';subst e1 e1' e2 e2';obtain⟨rfl,hc⟩:=hc;simp only[yF,bA,cy,aU]at hi;obtain⟨⟨⟨⟨⟨n1,n2⟩,n3⟩,n4⟩,n5⟩,n6⟩:=hi;simp only[gt,gJ]at h1 h2;obtain⟨F1,F2,c1,c2,_,x1,⟨_,rfl,_⟩,r1⟩:=h1;obtain⟨G1,G2,b1,b2,_,y1,⟨_,rfl,_⟩,r2⟩:=h2;have hx:xs[i]?=some (.int k1 m):=by
     have:=congrArg (·[0]?) x1;simpa using this
    have hy:ys[i]?=some (.int k1 q):=by
     have:=congrArg (·[0]?) y1;simpa using this
    have d1:xs.toList.drop (i+1)=c2:=by
     rw[←cx,x1];rfl
    have d2:ys.toList.drop (i+1)=b2:=by
     rw[←cx,y1];rfl
    obtain⟨r,hr,hf⟩:=N5 dep w fs (i+1) ds es F2 G2 _ n6 (by simpa using hl) (by rw[d1];exact r1) (by rw[d2];exact r2) hc;have jm:∃kk,P.underlying fd.type=some (.int kk):=by
     cases hu:P.underlying fd.type with
     |none=>simp[hu]at n5
     |some u=>cases u<;>simp[hu]at n5⊢
    obtain⟨kk,hu⟩:=jm;refine⟨_,?_,hf⟩;unfold Op.eqFields;rw[af n1,bS,n2,Jf n4 hx,dm,bS,Jf n4 hy,dm,bS,run_equalIn_int w dep fd.type k1 kk m q hu,dm];cases hb:(m==q);simp;simp[hr]
   exact hc.elim
def acr(h:At n0 S0 M0 w0 st o a w g){op:BinOp}{neg:Bool}{u:TypeId}{fs:Array Field}{y:Operand}{X Y:Ax.X}(ho:o.op=.binOp op t x y u)(hx:gG P t x=some X)(hy:gG P u y=some Y)
  (ht:P.underlying t=some (.struct fs)) (kA:Oi P t fs=true) (hn:op=.eql∧neg=false∨op=.neq∧neg=true)
  (hq:Kp neg (st.ev X) (st.ev Y) fs.size k):o.wp P a w (jV n0 S0 M0 w0 st o.dst k) Q':=by
 have ex:=h.ev_ hx;have ey:=h.ev_ hy;unfold Kp at hq
 split at hq
 ·next t1 ds t2 es e1 e2=>
  rw[e1]at ex;rw[e2]at ey;obtain⟨c1,F,v1,r1,_⟩:=NV ex rfl;obtain⟨c2,G,v2,r2,_⟩:=NV ey rfl;simp only[gJ]at r1 r2;simp only[Oi,bA,cp]at kA;obtain⟨⟨k1,k2⟩,k3⟩:=kA;obtain⟨r,hr,hk⟩:=N5 9998 w fs.toList 0 ds es F G _ k3 (by simpa using hq.1) (by simpa using r1.2) (by simpa using r2.2) hq.2;have hfo:P.fieldsOf t=fs:=by simp[Program.fieldsOf,ht]
  have nK:=run_equalIn_struct (P:=P) w 9999 t c1 c2 (by rw[hfo];exact ht) k1;rw[hfo,hr]at nK;refine h.pure_ (v:=.bool (if neg then !r else r)) ?_ (kt rfl) hk;rcases hn with⟨rfl,rfl⟩|⟨rfl,rfl⟩
  ·simp only[execOp,ho,v1,v2,bS,run_eqGuard_agg w .eql t x y c1 c2 k2,dm,run_eql_struct,nK]
   rfl
  simp only[execOp,ho,v1,v2,bS,run_eqGuard_agg w .neq t x y c1 c2 k2,dm,run_neq_struct,nK]
  rfl
 exact hq.elim
def AW:∀{vs:List AV} {xs:List Value},fT h us g vs xs→∃ys,fT h us g (kz vs) ys∧(ys.map (·.cells.toList)).flatten=(xs.map (·.cells.toList)).flatten
 | [],xs,hr=>by simp only[fT]at hr;subst hr;exact⟨[],by simp[kz,fT],rfl⟩
 |v::vs,xs,hr=>by
  simp only[fT]at hr;obtain⟨x,r,rfl,h1,h2⟩:=hr;obtain⟨ys,i1,i2⟩:=AW h2;have BJ:kz (v::vs)=v::kz vs→∃ys,fT h us g (kz (v::vs)) ys∧(ys.map (·.cells.toList)).flatten=((x::r).map (·.cells.toList)).flatten:=by
   intro e;rw[e];exact⟨x::ys,by simp only[fT];exact⟨x,ys,rfl,h1,i1⟩,by simp[i2]⟩
  cases v with
  |im t d=>
   cases d with
   |ag ds=>
    simp only[fN]at h1;obtain⟨F,r1,r2,r3⟩:=h1;simp only[gJ]at r1;obtain⟨q1,q2⟩:=r1;have key:∀{ds:List D} {F:List Nat} {cs:List Value},(∀d∈ds,d.size=1∧d.fX=false)→gt h ds F cs→(∀b∈F,g.ok t b)→fT h us g (ds.map (.im t)) cs∧(cs.map (·.cells.toList)).flatten=cs:=by
     intro ds
     induction ds with
     |nil=>intro F cs _ hr _;simp only[gt]at hr;simp[hr.2,fT]
     |cons d ds ih=>
      intro F cs hs hr hF;simp only[gt]at hr;obtain⟨F1,F2,c1,c2,rfl,rfl,p1,p2⟩:=hr;obtain⟨j1,j2⟩:=ih (fun e he=>hs e (by simp[he])) p2 (fun b hb=>hF b (by simp[hb]));obtain⟨c,rfl,hc⟩:∃c,c1=[c]∧c.oneCell'=true:=by
       have:=p1.length;rw[(hs d (by simp)).1]at this
       match c1,this with
       | [c],_=>exact⟨c,rfl,p1.one c (by simp)⟩
      refine⟨?_,by simp[gD hc,j2]⟩;simp only[lC,bf,be,fT];refine⟨c,c2,rfl,?_,j1⟩;simp only[fN];refine⟨F1,by rw[gD hc];exact p1,?_,fun b hb=>hF b (by simp[hb])⟩;have:=(hs d (by simp)).2;cases d<;>simp_all [D.fits,D.fX]
    obtain⟨j1,j2⟩:=key q1 q2 r3;refine⟨x.cells.toList++ys,?_,?_⟩;simp only[kz];exact zQ j1 i1;simp[j2,i2]
   |_=>exact BJ rfl
  |_=>exact BJ rfl
def CH{x:AV}(hr:fN h us g x v):fN h us g (lx x) v:=by
 cases x with
 |sg vs=>
  simp only[lx,fN]at hr⊢;obtain⟨xs,h1,rfl⟩:=hr;obtain⟨ys,i1,i2⟩:=AW h1;exact⟨ys,i1,by rw[i2]⟩
 |_=>exact hr
def ahE(h:At n0 S0 M0 w0 st o a w g){e u1:TypeId}{d sz:Nat}{X:Ax.X}(ho:o.op=.box e x)(hx:gG P u1 x=some X)
  (hq:zr (st.ev X) st.unit d sz k):o.wp P a w (jV n0 S0 M0 w0 st o.dst k) Q':=by
 have ex:=h.ev_ hx;unfold zr at hq
 split at hq
 ·next q e1=>
  rw[e1]at ex;simp only[fN]at ex;obtain⟨F,r1,r2,r3⟩:=ex;obtain⟨⟨q1,q2⟩,hk⟩:=hq;have hl:=r1.length;refine nx h (c:=(a.eval x).cells) (e:=e) (v:=.pointer (some ⟨w.heap.size,0,none⟩)) [w.heap.size] 1 ?_ rfl ?_ ?_ hk;simp[execOp,ho,Instr.box,newVar,newRow]
  ·intro _;simp only[jn,jh];refine⟨by simp[gz],by simp[q2],.inr ⟨w.heap.size,(a.eval x).cells,e,F,(a.eval x).cells.toList,[],rfl,lJ _ _,by simp,?_,by simp,?_,by simp,?_⟩⟩
   ·have:(a.eval x).cells.toList.length=(a.eval x).cells.size:=by simp
    omega
   ·rw[jX];exact⟨F,[],_,[],by simp,by simp,r1.frame fun b hb=>mh (r1.lt b hb),sf.2 ⟨rfl,rfl⟩⟩
   simp only[mI,aA,cT];intro y hy;rcases r3 y hy with h1|⟨i,hi,_⟩
   exact h1;cases hi
  intro _;simp only[fN];exact⟨_,_,_,_,w.heap.size,bD,by simp,q1,by simp[jh],by simp⟩
 next q g9=>
 obtain⟨⟨q0,q1,q2⟩,hk⟩:=hq;have ex:=CH ex;have hs:=vU h.us ex q2 q1;refine nx h (c:=(a.eval x).cells) (e:=e) (v:=.pointer (some ⟨w.heap.size,0,none⟩)) [w.heap.size] 1 ?_ rfl ?_ ?_ hk (fun _=>q0);simp[execOp,ho,Instr.box,newVar,newRow]
 ·intro oK;have KS:=jy oK;have g9:∀x∈st.us,x.1≠d:=fun x hx e=>KS (aB.2 ⟨x,hx,e⟩);simp only[jn,jh];refine⟨by simp[gz],w.heap.size,(a.eval x).cells,e,[a.eval x],[],rfl,lJ _ _,rfl,?_,by simpa using fun _=>hs,by simp⟩;simp only[fT];exact⟨_,_,rfl,fN.grow (nus:=[(d,U.bx sz [lx (st.ev X)])]) (g':=g.add d (some w.heap.size) [w.heap.size] (.pointer (some ⟨w.heap.size,0,none⟩)) 1) (h':=w.heap.push (.cells (a.eval x).cells e (0,0))) h.us (fun b hb=>mh hb) (fun x hx=>by simp[Gh.add,g9 x hx]) (fun x hx=>by simp[Gh.add,g9 x hx]) (fun b hb=>hb) ex,rfl⟩
 intro _;simp only[fN];exact⟨_,_,w.heap.size,bD,by simp[jh],by simp⟩
variable {us':List (Nat×U)}
mutual
def fN.fr{g g':Gh}(hu:∀x∈us,x∈us')(hb:∀x∈us,∀b,g.β x.1=some b→h'[b]?=h[b]?)
  (hβ:∀x∈us,g'.β x.1=g.β x.1∧g'.root x.1=g.root x.1∧g'.cap x.1=g.cap x.1) (SB:∀t d F cs,gJ h d F cs→(∀b∈F,g.ok t b)→gJ h' d F cs∧∀b∈F,g'.ok t b):
  ∀{a:AV} {v:Value},fN h us g a v→fN h' us' g' a v
 |.im t d,v,hr=>by
  simp only[fN]at hr⊢;obtain⟨F,h1,h2,h3⟩:=hr;obtain⟨q1,q2⟩:=SB t d F _ h1 h3;exact⟨F,q1,h2,q2⟩
 |.tr k,v,hr=>by
  simp only[fN]at hr⊢;obtain⟨⟨d,hd⟩,hv⟩:=hr;exact⟨⟨d,hu _ hd⟩,by rw[(hβ _ hd).2.1];exact hv⟩
 |.pw id el j,v,hr=>by
  simp only[fN]at hr⊢;obtain⟨ow,nn,sz,es,b,h1,h2,h3,h4,h5⟩:=hr;exact⟨ow,nn,sz,es,b,hu _ h1,h2,h3,by rw[(hβ _ h1).1];exact h4,h5⟩
 |.cw id el j sz agg,v,hr=>by
  simp only[fN]at hr⊢;obtain⟨nn,usz,es,b,c,e,h1,h2,h3,h4,h5,h6⟩:=hr;exact⟨nn,usz,es,b,c,e,hu _ h1,h2,h3,by rw[(hβ _ h1).1];exact h4,by rw[hb _ h1 b h4];exact h5,h6⟩
 |.sm id off len,v,hr=>by
  simp only[fN]at hr⊢;obtain⟨ow,nn,sz,es,h1,h2,h3⟩:=hr;refine⟨ow,nn,sz,es,hu _ h1,h2,?_⟩;rw[(hβ _ h1).1,(hβ _ h1).2.2];exact h3
 |.pb id j,v,hr=>by
  simp only[fN]at hr⊢;obtain⟨sz,items,b,h1,h3,h4⟩:=hr;exact⟨sz,items,b,hu _ h1,by rw[(hβ _ h1).1];exact h3,h4⟩
 |.ps id,v,hr=>by
  simp only[fN]at hr⊢;obtain⟨T,E,s,b,h1,h3,h4⟩:=hr;exact⟨T,E,s,b,hu _ h1,by rw[(hβ _ h1).1];exact h3,h4⟩
 |.vb id len,v,hr=>by
  simp only[fN]at hr⊢;obtain⟨sz,items,b,h1,h2,h3,h4⟩:=hr;exact⟨sz,items,b,hu _ h1,h2,by rw[(hβ _ h1).1];exact h3,h4⟩
 |.sg vs,v,hr=>by
  simp only[fN]at hr⊢;obtain⟨xs,h1,h2⟩:=hr;exact⟨xs,fT.fr hu hb hβ SB h1,h2⟩
 |.lf vs,v,hr=>by
  simp only[fN]at hr⊢;obtain⟨xs,h1,h2⟩:=hr;exact⟨xs,h1,fT.fr hu hb hβ SB h2⟩
 |.any,_,_=>by simp[fN]
 |.cl f vs,v,hr=>by
  simp only[fN]at hr⊢;obtain⟨xs,h1,h2⟩:=hr;exact⟨xs,fT.fr hu hb hβ SB h1,h2⟩
 |.pq id el j iE jj j',v,hr=>by
  simp only[fN]at hr⊢;obtain⟨ow,nn,usz,es,b,c,e,b',off',len',cap',h1,h2,h3,h4,h5,h6⟩:=hr;exact⟨ow,nn,usz,es,b,c,e,b',off',len',cap',hu _ h1,h2,h3,by rw[(hβ _ h1).1];exact h4,by rw[hb _ h1 b h4];exact h5,h6⟩
 |.qs id el j iE off len,v,hr=>by
  simp only[fN]at hr⊢;obtain⟨ow,nn,usz,es,b,c,e,p,len',cap',h1,h2,h3,h4,h5,h6⟩:=hr;exact⟨ow,nn,usz,es,b,c,e,p,len',cap',hu _ h1,h2,h3,by rw[(hβ _ h1).1];exact h4,by rw[hb _ h1 b h4];exact h5,h6⟩
 |.ss id off len,v,hr=>by
  simp only[fN]at hr⊢;obtain⟨ow,nn,sz,es,h1,h2,h3⟩:=hr;refine⟨ow,nn,sz,es,hu _ h1,h2,?_⟩;rw[(hβ _ h1).1,(hβ _ h1).2.2];exact h3
 |.z0 nn _,v,hr=>by simpa[fN]using hr
def fT.fr{g g':Gh}(hu:∀x∈us,x∈us')(hb:∀x∈us,∀b,g.β x.1=some b→h'[b]?=h[b]?)
  (hβ:∀x∈us,g'.β x.1=g.β x.1∧g'.root x.1=g.root x.1∧g'.cap x.1=g.cap x.1) (SB:∀t d F cs,gJ h d F cs→(∀b∈F,g.ok t b)→gJ h' d F cs∧∀b∈F,g'.ok t b):
  ∀{as:List AV} {vs:List Value},fT h us g as vs→fT h' us' g' as vs
 | [],_,hr=>by simpa[fT]using hr
 |a::as,vs,hr=>by
  simp only[fT]at hr⊢;obtain⟨v,r,h1,h2,h3⟩:=hr;exact⟨v,r,h1,fN.fr hu hb hβ SB h2,fT.fr hu hb hβ SB h3⟩
end
def jn.fr{g g':Gh}{id:Nat}{u:U}(hm:(id,u)∈us)(hu:∀x∈us,x∈us')(hb:∀x∈us,∀b,g.β x.1=some b→h'[b]?=h[b]?)
  (hβ:∀x∈us,g'.β x.1=g.β x.1∧g'.root x.1=g.root x.1∧g'.cap x.1=g.cap x.1) (SB:∀t d F cs,gJ h d F cs→(∀b∈F,g.ok t b)→gJ h' d F cs∧∀b∈F,g'.ok t b)
  (hφ:g'.φ id=g.φ id) (Gx:∀b∈g.φ id,h'[b]?=h[b]?) (hS:∀b,g.Sh b→g'.Sh b∧h'[b]?=h[b]?) (ho:jn h us g id u):jn h' us' g' id u:=by
 obtain⟨e1,e2,e3⟩:=hβ _ hm;simp only at e1 e2 e3;cases u with
 |own d=>
  simp only[jn]at ho⊢;obtain⟨h1,h2,h3⟩:=ho;rw[e1,e2,hφ];exact⟨h1,h2.frame Gx,h3⟩
 |ar ow nn sz es=>
  simp only[jn]at ho⊢;rw[e1,e3,hφ];obtain⟨h1,h2,h3⟩:=ho;refine⟨h1,h2,?_⟩;rcases h3 with h3|⟨b,c,e,G,cs,rest,k1,k2,k3,k4,k5,k6,k7,k8⟩
  exact .inl h3;refine .inr ⟨b,c,e,G,cs,rest,k1,by rw[hb _ hm b k1];exact k2,k3,k4,k5,?_,k7,?_⟩
  ·refine k6.frame fun x hx=>?_;cases ow;simp only[mI,aA]at k8;exact(hS x (k8.2 x hx)).2;simp only[ay]at k8;exact Gx x (by rw[k8];simp[hx])
  cases ow
  ·simp only[mI,aA]at k8⊢;exact⟨k8.1,fun x hx=>(hS x (k8.2 x hx)).1⟩
  simpa using k8
 |bx sz items=>
  simp only[jn]at ho⊢;rw[e1,hφ];obtain⟨h1,b,c,e,vs,rest,k1,k2,k3,k4,k5⟩:=ho;exact⟨h1,b,c,e,vs,rest,k1,by rw[hb _ hm b k1];exact k2,k3,fT.fr hu hb hβ SB k4,k5⟩
 |sb T E s=>
  simp only[jn]at ho⊢;rw[e1,hφ];obtain⟨b,F,k1,k2,k3⟩:=ho;exact⟨b,F,k1,k2,k3.frame fun x hx=>Gx x (by rw[k2];exact hx)⟩
def gQ.Xb{h':jv}{g:Gh}(hu:gQ h n0 S0 M0 us g){n:Nat}(hn:n∉us.map (·.1)){u:U}{β:Option Nat}{φ:List Nat}{root:Value}{cap:Nat}
  (jP:h.size≤h'.size) (hh:∀b,(b∈fp g us∨g.Sh b)→h'[b]?=h[b]?) (kn:φ.Nodup) (hφ:∀b∈φ,b<h'.size∧(b<n0→M0 b)∧¬g.Sh b∧b∉fp g us∧t7 h' b)
  (ho : (∀ av x, fN h us g av x → fN h' ((n, u) :: us) (g.add n β φ root cap) av x) → jn h' ((n, u) :: us) (g.add n β φ root cap) n u) (yY : u.kb = true → tM n0 M0 n β cap := by simp [U.kb]) : gQ h' n0 S0 M0 ((n, u) :: us) (g.add n β φ root cap) ∧
   ∀av x,fN h us g av x→fN h' ((n,u)::us) (g.add n β φ root cap) av x:=by
 have g9:∀x∈us,x.1≠n:=fun x hx e=>hn (aB.2 ⟨x,hx,e⟩);have Eh:fp (g.add n β φ root cap) us=fp g us:=by
  unfold fp;have wo:=g9;clear hu hn hh hφ ho g9
  induction us with
  |nil=>rfl
  |cons x us ih=>
   simp only[bX];rw[ih (fun y hy=>wo y (by simp[hy]))];simp[Gh.add,wo x (by simp)]
 have hφn:(g.add n β φ root cap).φ n=φ:=by simp[Gh.add]
 have K0:fp (g.add n β φ root cap) ((n,u)::us)=φ++fp g us:=by
  show((g.add n β φ root cap).φ n)++fp (g.add n β φ root cap) us=_
  rw[hφn,Eh]
 have hβ:∀x∈us,(g.add n β φ root cap).β x.1=g.β x.1∧(g.add n β φ root cap).root x.1=g.root x.1∧(g.add n β φ root cap).cap x.1=g.cap x.1:=by
  intro x hx;simp[Gh.add,g9 x hx]
 have hm:∀x∈us,x∈(n,u)::us:=fun y hy=>bg _ hy;have hb:∀x∈us,∀b,g.β x.1=some b→h'[b]?=h[b]?:=fun x hx b Lp=>hh b (.inl (gn.2 ⟨x,hx,(hu.each x hx).kr Lp⟩));have kA:∀t b,g.ok t b→(g.add n β φ root cap).ok t b∧(b∈fp g us∨g.Sh b):=by
  intro t b hb;rcases hb with hb|⟨i,hi,h1,h2⟩
  exact⟨.inl hb,.inr hb⟩;obtain⟨u',v9⟩:=hu.live h1;have:i≠n:=g9 _ v9;exact⟨.inr ⟨i,hi,by simpa[Gh.add,this]using h1,by simpa[Gh.add,this]using h2⟩,.inl (gn.2 ⟨_,v9,h1⟩)⟩
 have SB:∀t d F cs,gJ h d F cs→(∀b∈F,g.ok t b)→gJ h' d F cs∧∀b∈F,(g.add n β φ root cap).ok t b:=fun t d F cs hr hF=>
  ⟨hr.frame fun b hb=>hh b (kA t b (hF b hb)).2,fun b hb=>(kA t b (hF b hb)).1⟩
 have hV:∀av x,fN h us g av x→fN h' ((n,u)::us) (g.add n β φ root cap) av x:=fun av x hr=>hr.fr hm hb hβ SB;refine⟨⟨?_,?_,?_,?_,?_,?_,?_,?_,hu.AB.cons hn (fun i hi=>by simp[Gh.add,hi]) (by simpa[Gh.add]using yY)⟩,hV⟩;simp only[lC,aH];exact⟨hn,hu.keys⟩
 ·rw[K0,aX];exact⟨kn,hu.nodup,fun x hx y hy e=>(hφ x hx).2.2.2.1 (e▸hy)⟩
 ·intro b hb;rw[K0]at hb;rcases an.1 hb with hb|hb
  exact(hφ b hb).1;exact Nat.lt_of_lt_of_le (hu.lt b hb) jP
 ·intro b hb iq;rw[K0]at hb;rcases an.1 hb with hb|hb
  exact(hφ b hb).2.1 iq;exact hu.low b hb iq
 intro i hi;simp only[lC,ab,cj]at hi;simp only[Gh.add,hi.1,aA];exact hu.dead i hi.2
 ·intro b hb;obtain⟨q1,q2,q3⟩:=hu.sh b hb;refine⟨by omega,q2,?_⟩;rw[K0,an];rintro(h1|h1);exact(hφ b h1).2.2.1 hb;exact q3 h1
 ·intro x hx;rcases ab.1 hx with rfl|hx
  exact ho hV;exact(hu.each x hx).fr hx hm hb hβ SB (by simp[Gh.add,g9 x hx]) (fun b hb=>hh b (.inl (gn.2 ⟨x,hx,hb⟩))) (fun b hb=>⟨hb,hh b (.inr hb)⟩)
 intro b hb;rw[K0]at hb;rcases an.1 hb with hb|hb
 exact(hφ b hb).2.2.2.2;obtain⟨c,e,hc⟩:=hu.fz b hb;exact⟨c,e,by rw[hh b (.inl hb)];exact hc⟩
def Src(h:jv)(sz:Nat)(ao:Option Addr)(n cap:Nat)(olds:List Value):Prop:=
 (n=0∧cap=0∧olds=[])∨∃b off c e,ao=some ⟨b,off,none⟩∧n≤cap∧h[b]?=some (.cells c e (0,0))∧off+cap*sz≤c.size∧olds=(c.toList.drop off).take (n*sz)
def Dat(w:World)(sz:Nat)(v:Value)(m:Nat)(news:List Value):Prop:=
 ∃xp xc,v=.slice xp m xc∧news.length=m*sz∧(0<m→∃a,xp=some a∧∀j u,news[j]?=some u→w.cell? (a.add j)=some u)
def OC{ty:TypeId}{i:TypeInfo}{z:Value}(ht:P.underlying t=some (.slice e))(hi:P.info? e=some i)(hz:i.zero=some z)(KU:z.cells.size=i.size)
    {ao:Option Addr} {n cap:Nat} {olds:List Value} (hs:Src w.heap i.size ao n cap olds) {v:Value} {m:Nat} {news:List Value} (hx:Dat w i.size v m news) (h1:∀u∈news,u.oneCell'=true)
    (h63:n+m≤gz) (oL:(n+m)*i.bytes≤140737488355328):
    ∃v' w',(Builtin.append_ #[t,t] ty #[.slice ao n cap,v]).run P w=.ok v' w'∧w'.os=w.os∧w'.tape=w.tape∧w'.output=w.output∧
      ((m = 0 ∧ v' = .slice ao n cap ∧ w' = w) ∨
       (∃b off c e0,0<m∧ao=some ⟨b,off,none⟩∧n+m≤cap∧v'=.slice ao (n+m) cap∧w.heap[b]?=some (.cells c e0 (0,0))∧off+cap*i.size≤c.size∧olds=(c.toList.drop off).take (n*i.size)∧
          w'=w.setRow b (c.toList.take (off+n*i.size)++news++c.toList.drop (off+n*i.size+news.length)).toArray)∨
       (∃cap' c' rest,0<m∧v'=.slice (some ⟨w.heap.size,0,none⟩) (n+m) cap'∧n+m≤cap'∧c'.size=cap'*i.size∧c'.toList=(olds++news)++rest∧w'.heap=w.heap.push (.cells c' e (0,0)))):=by
  obtain⟨xp,xc,rfl,EW,hxc⟩:=hx;have hnc:n≤cap:=by rcases hs with⟨rfl,rfl,_⟩|⟨_,_,_,_,_,h,_⟩<;>omega
  have Il:olds.length=n*i.size:=by
    rcases hs with⟨rfl,_,rfl⟩|⟨b,off,c,e0,rfl,q1,q2,q3,rfl⟩
    · simp
    · have := aZ i.size q1
      simp only[a8,ca,cV];omega
  rcases Nat.eq_zero_or_pos m with rfl|hm
  · have hn0 : news = [] := dp (by simpa using EW)
    subst hn0;refine⟨.slice ao n cap,w,?_,rfl,rfl,rfl,.inl ⟨rfl,rfl,rfl⟩⟩;cases xp<;>cases ao<;>simp[Builtin.append_,bo ht,sizeOf,typeInfo,hi,Builtin.lenOf,Builtin.firstCells,loadCells,loadCellsFrom,storeCells,hnc]
  · obtain ⟨ad, rfl, pR⟩ := hxc hm
    have alr:n+m≤9223372036854775807:=h63;have grown:∀(v':Value)(w':World),v'=.slice (some ⟨w.heap.size,0,none⟩) (n+m) (grownCap w (n+m) cap e)→
        w'=(w.drew.alloc (.cells (olds.toArray++news.toArray++Builtin.zeroCells z.cells (grownCap w (n+m) cap e-(n+m))) e))→
        w'.os=w.os∧w'.tape=w.tape∧w'.output=w.output∧∃cap' c' rest,0<m∧v'=.slice (some ⟨w.heap.size,0,none⟩) (n+m) cap'∧n+m≤cap'∧c'.size=cap'*i.size∧c'.toList=(olds++news)++rest∧w'.heap=w.heap.push (.cells c' e (0,0)):=by
      rintro v' w' rfl rfl;refine⟨rfl,rfl,rfl,_,_,(Builtin.zeroCells z.cells (grownCap w (n+m) cap e-(n+m))).toList,hm,rfl,grownCap_ge w (n+m) cap e,?_,by simp,rfl⟩;have HW:=grownCap_ge w (n+m) cap e;simp only[Array.size_append,bB,size_zeroCells,KU,Il,EW,←aT];congr 1;omega
    rcases hs with⟨rfl,rfl,rfl⟩|⟨b,off,c,e0,rfl,q1,q2,q3,rfl⟩
    · cases ao with
      | none =>
        have hr:=run_append_nil (P:=P) w t ty e i z ht hi hz ad m xc news EW pR hm (by omega) (by have hb:=oL;simp only[aa]at hb;omega);obtain⟨g1,g2,g3,g4⟩:=grown _ _ rfl rfl;refine⟨_,_,?_,g1,g2,g3,.inr (.inr g4)⟩;simpa using hr
      | some b =>
        have hr:=run_append_grow (P:=P) w t ty e i z ht hi hz b 0 0 [] (by simp) (by simp) ad m xc news EW pR (by omega) (by omega) (growslice_fits (by omega) oL);obtain⟨g1,g2,g3,g4⟩:=grown _ _ rfl rfl;exact⟨_,_,hr,g1,g2,g3,.inr (.inr g4)⟩
    · by_cases Xc : n + m ≤ cap
      · have hf := run_firstCells_some (P := P) w i.size m ad m xc news EW pR
        have hle:=aZ i.size Xc;rw[aT]at hle;have ju:=fy P b (off+n*i.size) e0 news 0 c w q2 (by omega) h1;simp only[ah]at ju;refine⟨_,_,?_,?_,?_,?_,.inr (.inl ⟨b,off,c,e0,hm,rfl,Xc,rfl,q2,q3,rfl,rfl⟩)⟩
        · simp[Builtin.append_,bo ht,sizeOf,typeInfo,hi,Builtin.lenOf,Xc,hf,dM,ju]
        all_goals rfl
      · have holds:∀j u,((c.toList.drop off).take (n*i.size))[j]?=some u→w.cell? ((⟨b,off,none⟩:Addr).add j)=some u:=by
          intro j u hj;rw[dM,dU w b _ c e0 (0,0) q2];rw[dS]at hj
          split at hj
          · simpa using hj
          · cases hj
        have hr:=run_append_grow (P:=P) w t ty e i z ht hi hz ⟨b,off,none⟩ n cap _ Il holds ad m xc news EW pR (by omega) (by omega) (growslice_fits (by omega) oL);obtain⟨g1,g2,g3,g4⟩:=grown _ _ rfl rfl;exact⟨_,_,hr,g1,g2,g3,.inr (.inr g4)⟩
variable {nn:Option Bool}
def Ae(hd:d=.ls nn sz ds)(hr:gJ w.heap d F v.cells.toList)(hf:d.fits v):
  ∃F' news,gt w.heap ds F' news∧(∀b∈F',b∈F)∧(F.Nodup→F'.Nodup)∧Dat w sz v ds.length news:=by
 subst hd;have hv:=gD (by simpa[D.fits]using hf);unfold gJ at hr;rcases hr with⟨p,h1,rfl,rfl,_⟩|⟨b,off,cap,c,e,fr,F',h1,rfl,h3,h4,h5,h6,h7,h8,h9⟩
 ·rw[hv]at h1;simp only[cu,bY]at h1;exact⟨[],[],by simp[gt],by simp,fun _=>bp,p,0,h1,by simp,by simp⟩
 rw[hv]at h1;simp only[cu,bY]at h1;refine⟨F',_,h9,fun b hb=>by simp[hb],fun h=>(aH.1 h).2,some ⟨b,off,none⟩,cap,h1,?_,fun _=>⟨_,rfl,?_⟩⟩
 ·rw[h9.length,D.gk h8]
 intro j u hj;rw[dM,dU w b _ c e fr h6];rw[dS]at hj
 split at hj;simpa using hj;cases hj
def TM(h0:gQ w.heap n0 S0 M0 st.us g)(jQ:∀t,fN w.heap st.us g (lk st.env t) (tm t)){k:KL}(hr:fN w.heap st.us g av v)(hk:ra st sz av k):
  ∃own ds gp g' F news,k own ds gp∧jK w.heap n0 S0 M0 st gp tm g g'∧gt w.heap ds F news∧If n0 M0 own g g' st.us gp.us F∧(∀b,g'.Sh b↔g.Sh b)∧(∀b,b∈fp g' gp.us→b∈fp g st.us)∧
   ((∀d∈ds,d.size=sz)→0<sz→Dat w sz v ds.length news):=by
 have T:=jK.refl h0 jQ;have BJ:wt (av.arg st.unit) sz st k→∃own ds gp g' F news,k own ds gp∧jK w.heap n0 S0 M0 st gp tm g g'∧gt w.heap ds F news∧If n0 M0 own g g' st.us gp.us F∧(∀b,g'.Sh b↔g.Sh b)∧(∀b,b∈fp g' gp.us→b∈fp g st.us)∧
   ((∀d∈ds,d.size=sz)→0<sz→Dat w sz v ds.length news):=by
  intro hk;unfold wt at hk
  split at hk
  ·next nn gV ds hd=>
   obtain⟨⟨rfl,hn⟩,hk⟩:=hk;obtain⟨F,r1,r2,_⟩:=Ca h0 hr hd;obtain⟨F',news,q1,q2,q3,q4⟩:=Ae rfl r1 r2;have:=kU hn q1;subst this;exact⟨true,ds,st,g,[],news,hk,T,q1,If.nil,fun _=>bw,fun _ hb=>hb,fun _ _=>q4⟩
  exact hk.elim
 unfold ra at hk
 split at hk
 ·next i len=>
  unfold C0 at hk
  split at hk
  ·next yR items jm=>
   obtain⟨⟨rfl,rfl⟩,hk⟩:=hk;have hm:=f7 jm;have ho:=h0.each _ hm;simp only[fN]at hr;obtain⟨als,iT,b,r1,r2,r3,rfl⟩:=hr;have:=h0.uniq hm r1;injection this with e1 e2;subst e1 e2;simp only[jn]at ho;obtain⟨nJ,b',c,e,vs,rest,k1,k2,k3,k4,k5,k6⟩:=ho;rw[r3]at k1;obtain rfl:=aD k1;obtain⟨own,ds,gp,g',F,p1,p2,p3,p4,p5,p6⟩:=vZ (rR 12) h0 (T.del i) k4 hk;have jS:∀b,b∈fp (g.drop i) (st.del i).us→b∈fp g st.us:=fun b hb=>(kw (g:=g) (g':=g.drop i) (fun j hj=>by simp[Gh.drop,hj])).subset hb;refine⟨own,ds,gp,g',F,_,p1,p2,p3,p4.alj jS,fun b=>p5 b,fun b hb=>jS b (p6 b hb),fun hs sF=>?_⟩;have l1:=p3.length;rw[D.gk hs]at l1;have l2:(vs.map (·.cells.toList)).flatten.length=vs.length*yR:=by
    have:∀vs:List Value,(∀v∈vs,v.cells.size=yR)→(vs.map (·.cells.toList)).flatten.length=vs.length*yR:=by
     intro vs
     induction vs with
     |nil=>simp
     |cons x vs ih=>
      intro hx;simp only[lC,bV,lP,cV,lK,hx x (by simp),ih fun y hy=>hx y (by simp[hy]),aT];omega
    exact this vs (k5 sF)
   have l3:vs.length=items.length:=by
    have:∀{as:List AV} {vs:List Value},fT w.heap st.us g as vs→vs.length=as.length:=by
     intro as
     induction as with
     |nil=>intro vs h;simp only[fT]at h;simp[h]
     |cons x as ih=>intro vs h;simp only[fT]at h;obtain⟨v,r,rfl,_,h3⟩:=h;simp[ih h3]
    exact this k4
   have l4:ds.length=items.length:=by
    rw[l2,l3]at l1;exact(fx sF l1).symm
   rw[l4];refine⟨_,_,rfl,by rw[l2,l3],fun _=>⟨_,rfl,fun j u hj=>?_⟩⟩;rw[dM,dU w b _ c e (0,0) k2,aa];rw[←cE,k6];rw[bL (bj.1 hj).1];exact hj
  exact hk.elim
 ·next nn gV ds=>
  obtain⟨rfl,hk⟩:=hk;simp only[fN]at hr;obtain⟨F,r1,r2,r3⟩:=hr;obtain⟨F',news,q1,q2,q3,q4⟩:=Ae rfl r1 r2;refine⟨fO ds,ds,st,g,F',news,hk,T,q1,⟨fun hp=>?_,fun _ b hb=>ni (r3 b (q2 b hb))⟩,fun _=>bw,fun _ hb=>hb,fun _ _=>q4⟩;have:=kU hp q1;subst this;exact⟨bp,by simp⟩
 exact BJ hk
def Di{g1:Gh}(hu:gQ w.heap n0 S0 M0 us g1)(HZ:n0≤w.heap.size){id:Nat}(me:id∉us.map (·.1))(h0:0<sz){es ds:List D}{G F:List Nat}{olds news:List Value}{rest:List Value}{nn:Option Bool}{ao:Option Addr}{cap:Nat}
    (Cc:gt w.heap es G olds) (Ce:∀d∈es,d.size=sz) (ot:gt w.heap ds F news) (XT:∀d∈ds,d.size=sz) (nJ:es.length+ds.length≤gz)
    (vn:(es=[]∧G=[]∧olds=[]∧cap=0∧ao=none∧nn≠some false)∨
      ∃b c e,ao=some ⟨b,0,none⟩∧w.heap[b]?=some (.cells c e (0,0))∧c.size=cap*sz∧c.toList=olds++rest∧es.length≤cap∧nn≠some true∧b∉fp g1 us∧¬g1.Sh b∧(b<n0→M0 b)∧b∉G++F)
    {ow:Bool} (vm:ow=true→(G++F).Nodup∧∀x∈G++F,(x<n0→M0 x)∧¬g1.Sh x∧x∉fp g1 us∧t7 w.heap x) (o4:ow=false→∀x∈G++F,g1.Sh x)
    (yY:nn=none→∀k v,k<8→id=3000000000+k→(M0 (n0+(16*v+k))→ao=some ⟨v,0,none⟩)∧(M0 (n0+(16*v+(8+k)))→ao≠none→cap=v))
    {e:TypeId} {v':Value} {w':World}
    (hH:(ds.length=0∧v'=.slice ao es.length cap∧w'=w)∨
       (∃b off c e0,0<ds.length∧ao=some ⟨b,off,none⟩∧es.length+ds.length≤cap∧v'=.slice ao (es.length+ds.length) cap∧w.heap[b]?=some (.cells c e0 (0,0))∧off+cap*sz≤c.size∧olds=(c.toList.drop off).take (es.length*sz)∧
          w'=w.setRow b (c.toList.take (off+es.length*sz)++news++c.toList.drop (off+es.length*sz+news.length)).toArray)∨
       (∃cap' c' rest,0<ds.length∧v'=.slice (some ⟨w.heap.size,0,none⟩) (es.length+ds.length) cap'∧es.length+ds.length≤cap'∧c'.size=cap'*sz∧c'.toList=(olds++news)++rest∧w'.heap=w.heap.push (.cells c' e (0,0)))):
    ∃g2,gQ w'.heap n0 S0 M0 ((id,.ar ow (gT nn ds) sz (es++ds))::us) g2∧(∀av x,fN w.heap us g1 av x→fN w'.heap ((id,.ar ow (gT nn ds) sz (es++ds))::us) g2 av x)∧
      fN w'.heap ((id,.ar ow (gT nn ds) sz (es++ds))::us) g2 (.sm id 0 (es.length+ds.length)) v'∧w.heap.size≤w'.heap.size∧(∀b,b<n0→¬M0 b→w'.heap[b]?=w.heap[b]?):=by
  have iy:gt w.heap (es++ds) (G++F) (olds++news):=Cc.append ot;have jP:∀d∈es++ds,d.size=sz:=fun d hd=>(an.1 hd).elim (Ce d) (XT d);have Il:=Cc.length;rw[D.gk Ce]at Il;have EW:=ot.length;rw[D.gk XT]at EW;have Nt:∀x∈G++F,x<w.heap.size:=iy.lt;have key:∀(b1:Nat)(c1:Array Value)(e1:TypeId)(EX:Nat)(Xd:List Value),b1∉fp g1 us→¬g1.Sh b1→(b1<n0→M0 b1)→b1∉G++F→b1<w'.heap.size→w.heap.size≤w'.heap.size→
      (∀b,b≠b1→b<w.heap.size→w'.heap[b]?=w.heap[b]?)→w'.heap[b1]?=some (.cells c1 e1 (0,0))→c1.size=EX*sz→c1.toList=(olds++news)++Xd→es.length+ds.length≤EX→gT nn ds≠some true→v'=.slice (some ⟨b1,0,none⟩) (es.length+ds.length) EX→(gT nn ds=none→tM n0 M0 id (some b1) EX)→
      ∃g2,gQ w'.heap n0 S0 M0 ((id,.ar ow (gT nn ds) sz (es++ds))::us) g2∧(∀av x,fN w.heap us g1 av x→fN w'.heap ((id,.ar ow (gT nn ds) sz (es++ds))::us) g2 av x)∧
        fN w'.heap ((id,.ar ow (gT nn ds) sz (es++ds))::us) g2 (.sm id 0 (es.length+ds.length)) v'∧w.heap.size≤w'.heap.size∧(∀b,b<n0→¬M0 b→w'.heap[b]?=w.heap[b]?):=by
    intro b1 c1 e1 EX Xd m1 m2 m3 m4 m5 m6 m7 m8 m9 m10 m11 m12 m13 m14;have hh:∀b,(b∈fp g1 us∨g1.Sh b)→w'.heap[b]?=w.heap[b]?:=by
      intro b hb;exact m7 b (by rintro rfl;exact hb.elim m1 m2) (hb.elim (hu.lt b) fun h=>(hu.sh b h).1)
    have Xe:gt w'.heap (es++ds) (G++F) (olds++news):=iy.frame fun b hb=>m7 b (by rintro rfl;exact m4 hb) (Nt b hb);have hA:(if ow=true then b1::(G++F)else[b1]).Nodup:=by
      split
      · next e=>exact aH.2 ⟨m4,(vm e).1⟩
      · simp
    have hB:∀b∈(if ow=true then b1::(G++F)else[b1]),b<w'.heap.size∧(b<n0→M0 b)∧¬g1.Sh b∧b∉fp g1 us∧t7 w'.heap b:=by
      intro b hb;have Ez:b=b1∨(ow=true∧b∈G++F):=by
        split at hb
        · next e =>
          rcases ab.1 hb with h|h
          · exact .inl h
          · exact .inr ⟨e,h⟩
        · exact .inl (by simpa using hb)
      rcases Ez with rfl|⟨ho,hb⟩
      · exact⟨m5,m3,m2,m1,c1,e1,m8⟩
      · obtain ⟨q1, q2, q3, c, e, q4⟩ := (vm ho).2 b hb
        have:=Nt b hb;have hbn:b≠b1:=fun e=>m4 (e▸hb);exact⟨by omega,q1,q2,q3,c,e,by rw[m7 b hbn this];exact q4⟩
    obtain⟨hU,hV⟩:=hu.Xb (h':=w'.heap) me (u:=.ar ow (gT nn ds) sz (es++ds)) (β:=some b1) (root:=undef) (cap:=EX) m6 hh hA hB (by
      intro _;simp only[jn];refine⟨by simpa using nJ,jP,.inr ⟨b1,c1,e1,G++F,olds++news,Xd,by simp[Gh.add],m8,m10,by simp[Gh.add,m9],by simp[Gh.add];exact m11,Xe,m12,?_⟩⟩;cases ow with
      |true=>simp[Gh.add]
      |false=>simp only[mI,aA,Gh.add,ay,cT];exact o4 rfl) (fun e=>m14 (U.na.1 e))
    refine⟨_,hU,hV,?_,m6,fun b hb hm=>m7 b (by rintro rfl;exact hm (m3 hb)) (by omega)⟩;simp only[fN];refine⟨_,_,_,_,bD,by simp,.inl ⟨b1,by simp[Gh.add],?_⟩⟩;rw[m13];simp[Gh.add]
  have afy:w.heap.size∉fp g1 us∧¬g1.Sh w.heap.size∧(w.heap.size<n0→M0 w.heap.size)∧w.heap.size∉G++F:=
    ⟨fun h=>dt _ (hu.lt _ h),fun h=>dt _ (hu.sh _ h).1,fun h=>by omega,fun h=>dt _ (Nt _ h)⟩
  have ahN:0<ds.length→∀b1 EX,gT nn ds=none→tM n0 M0 id (some b1) EX:=by
    intro h b1 EX e;cases ds with
    |nil=>simp at h
    |cons=>simp[gT]at e
  rcases hH with⟨r1,rfl,rfl⟩|⟨b,off,c,e0,r1,rfl,r2,rfl,r3,r4,r5,rfl⟩|⟨cap',c',K1,r1,rfl,r2,r3,r4,r5⟩
  · have hd0 : ds = [] := dp r1
    subst hd0;simp only[gt]at ot;obtain⟨rfl,rfl⟩:=ot;rcases vn with⟨rfl,rfl,rfl,rfl,rfl,q⟩|⟨b,c,e,rfl,q1,q2,q3,q4,q5,q6,q7,q8,q9⟩
    · obtain⟨hU,hV⟩:=hu.Xb (h':=w'.heap) me (u:=.ar ow (gT nn []) sz ([]++[])) (β:=none) (φ:=[]) (root:=undef) (cap:=0) (aw _) (fun _ _=>rfl) bp (by simp) (by
        intro _;simp only[jn];exact⟨by simp,by simp,.inl ⟨by simp[Gh.add],by simp,by simp[Gh.add],by simpa[gT]using q⟩⟩) (by
        intro e k v hk me;have e:=U.na.1 e;have:=yY (by simpa[gT]using e) k v hk me;exact⟨fun h=>by simpa using this.1 h,fun _ h=>absurd rfl h⟩)
      refine⟨_,hU,hV,?_,aw _,fun _ _ _=>rfl⟩;simp only[fN];exact⟨_,_,_,_,bD,by simp,.inr (by simp[Gh.add])⟩
    · exact key b c e cap rest q6 q7 q8 q9 (bc.1 q1).1 (aw _) (fun _ _ _=>rfl) q1 q2 (by simpa using q3) (by simpa using q4) (by simpa[gT]using q5) (by simp) (by
        intro e k v hk me;have:=yY (by simpa[gT]using e) k v hk me;exact⟨fun h=>by simpa using this.1 h,fun h _=>this.2 h (by simp)⟩)
  · rcases vn with ⟨_, _, _, _, h, _⟩ | ⟨b', c', e', h, q1, q2, q3, q4, q5, q6, q7, q8, q9⟩
    · cases h
    · injection h with h
      injection h with h1 h2;subst h1 h2;rw[r3]at q1;injection q1 with q1;injection q1 with q1 Lq;subst q1;have kn:gT nn ds≠some true:=by
        cases ds with
        |nil=>simp at r1
        |cons=>simp[gT]
      have hlc:c.toList.length=c.size:=by simp
      have hle:=aZ sz r2;rw[aT]at hle;have iS:(c.toList.take (0+es.length*sz)++news++c.toList.drop (0+es.length*sz+news.length)).toArray.toList=(olds++news)++rest.drop news.length:=by
        simp only[q3,aa,←Il];rw[bZ,eW,bO (by omega)]
        · simp
        · rfl
      refine key b _ e0 cap _ q6 q7 q8 q9 (by rw[bW];exact(bc.1 r3).1) (by rw[bW];exact aw _) (fun y hy _=>cm w b y _ hy) (db w b c _ e0 _ r3) ?_ iS r2 kn rfl (ahN r1 _ _);simp only[bB,lP,a8,ca,cV,aa];omega
  · have kn:gT nn ds≠some true:=by
      cases ds with
      |nil=>simp at r1
      |cons=>simp[gT]
    obtain⟨f1,f2,f3,f4⟩:=afy;exact key w.heap.size c' e cap' K1 f1 f2 f3 f4 (by rw[r5];simp) (by rw[r5];simp) (fun b _ hb=>by rw[r5,eh,ae (by omega)]) (by rw[r5];simp) r3 r4 r2 kn rfl (ahN r1 _ _)
def N8{g1:Gh}(hu:gQ w.heap n0 S0 M0 us g1)(HZ:n0≤w.heap.size){id:Nat}(me:id∉us.map (·.1))(h0:0<sz){es ds:List D}{F2 F:List Nat}{v:Value}{news:List Value}{nn:Option Bool}
    (hR:gJ w.heap (.ls nn sz es) F2 v.cells.toList) (abX:v.oneCell'=true) (ot:gt w.heap ds F news) (XT:∀d∈ds,d.size=sz) (nJ:es.length+ds.length≤gz)
    (kn:(F2++F).Nodup) (hF:∀x∈F2++F,(x<n0→M0 x)∧¬g1.Sh x∧x∉fp g1 us∧t7 w.heap x):
    ∃ao cap olds,v=.slice ao es.length cap∧Src w.heap sz ao es.length cap olds∧∀(e:TypeId)(v':Value)(w':World),
      ((ds.length = 0 ∧ v' = .slice ao es.length cap ∧ w' = w) ∨
       (∃b off c e0,0<ds.length∧ao=some ⟨b,off,none⟩∧es.length+ds.length≤cap∧v'=.slice ao (es.length+ds.length) cap∧w.heap[b]?=some (.cells c e0 (0,0))∧off+cap*sz≤c.size∧olds=(c.toList.drop off).take (es.length*sz)∧
          w'=w.setRow b (c.toList.take (off+es.length*sz)++news++c.toList.drop (off+es.length*sz+news.length)).toArray)∨
       (∃cap' c' rest,0<ds.length∧v'=.slice (some ⟨w.heap.size,0,none⟩) (es.length+ds.length) cap'∧es.length+ds.length≤cap'∧c'.size=cap'*sz∧c'.toList=(olds++news)++rest∧w'.heap=w.heap.push (.cells c' e (0,0))))→
      ∃g2,gQ w'.heap n0 S0 M0 ((id,.own (.ls (gT nn ds) sz (es++ds)))::us) g2∧(∀av x,fN w.heap us g1 av x→fN w'.heap ((id,.own (.ls (gT nn ds) sz (es++ds)))::us) g2 av x)∧
        fN w'.heap ((id,.own (.ls (gT nn ds) sz (es++ds)))::us) g2 (.tr id) v'∧w.heap.size≤w'.heap.size∧(∀b,b<n0→¬M0 b→w'.heap[b]?=w.heap[b]?):=by
  have Sy:=gD abX;have EW:=ot.length;rw[D.gk XT]at EW;have hlowF:∀x∈F,x<w.heap.size:=ot.lt;have afz:∀x∈F2,x<w.heap.size:=hR.lt;have key:∀(w':World)(v':Value)(φ:List Nat),w.heap.size≤w'.heap.size→(∀b,(b∈fp g1 us∨g1.Sh b)→w'.heap[b]?=w.heap[b]?)→(∀b,b<n0→¬M0 b→w'.heap[b]?=w.heap[b]?)→φ.Nodup→
      (∀b∈φ,b<w'.heap.size∧(b<n0→M0 b)∧¬g1.Sh b∧b∉fp g1 us∧t7 w'.heap b)→gJ w'.heap (.ls (gT nn ds) sz (es++ds)) φ v'.cells.toList→v'.oneCell'=true→
      ∃g2,gQ w'.heap n0 S0 M0 ((id,.own (.ls (gT nn ds) sz (es++ds)))::us) g2∧(∀av x,fN w.heap us g1 av x→fN w'.heap ((id,.own (.ls (gT nn ds) sz (es++ds)))::us) g2 av x)∧
        fN w'.heap ((id,.own (.ls (gT nn ds) sz (es++ds)))::us) g2 (.tr id) v'∧w.heap.size≤w'.heap.size∧(∀b,b<n0→¬M0 b→w'.heap[b]?=w.heap[b]?):=by
    intro w' v' φ m1 m2 m3 m4 m5 m6 m7;obtain⟨hU,hV⟩:=hu.Xb (h':=w'.heap) me (u:=.own (.ls (gT nn ds) sz (es++ds))) (β:=none) (φ:=φ) (root:=v') (cap:=0) m1 m2 m4 m5 (by
      intro _;simp only[jn];exact⟨by simp[Gh.add],by simpa[Gh.add]using m6,by simpa[Gh.add,D.fits]using m7⟩)
    refine⟨_,hU,hV,?_,m1,m3⟩;simp only[fN];exact⟨⟨_,bD⟩,by simp[Gh.add]⟩
  have H0:0<ds.length→gT nn ds≠some true:=by
    intro h;cases ds with
    |nil=>simp at h
    |cons=>simp[gT]
  have hR0:=hR;unfold gJ at hR;have fresh:∀(ao:Option Addr)(cap:Nat)(olds:List Value)(G:List Nat)(e:TypeId)(v':Value)(w':World),gt w.heap es G olds→(∀d∈es,d.size=sz)→(∀x∈G,x∈F2)→(G++F).Nodup→
      (∃cap' c' rest,0<ds.length∧v'=.slice (some ⟨w.heap.size,0,none⟩) (es.length+ds.length) cap'∧es.length+ds.length≤cap'∧c'.size=cap'*sz∧c'.toList=(olds++news)++rest∧w'.heap=w.heap.push (.cells c' e (0,0)))→
      ∃g2,gQ w'.heap n0 S0 M0 ((id,.own (.ls (gT nn ds) sz (es++ds)))::us) g2∧(∀av x,fN w.heap us g1 av x→fN w'.heap ((id,.own (.ls (gT nn ds) sz (es++ds)))::us) g2 av x)∧
        fN w'.heap ((id,.own (.ls (gT nn ds) sz (es++ds)))::us) g2 (.tr id) v'∧w.heap.size≤w'.heap.size∧(∀b,b<n0→¬M0 b→w'.heap[b]?=w.heap[b]?):=by
    rintro ao cap olds G e v' w' Cc Ce jS za ⟨cap',c',rest,r1,rfl,r2,r3,r4,r5⟩;have iy:=Cc.append ot;have Il:=Cc.length;rw[D.gk Ce]at Il;have hold:∀b,b<w.heap.size→w'.heap[b]?=w.heap[b]?:=fun b hb=>by rw[r5,eh,ae (by omega)]
    have nK:∀x∈G++F,x∈F2++F:=fun x hx=>by
      rcases an.1 hx with h|h
      · exact an.2 (.inl (jS x h))
      · exact an.2 (.inr h)
    refine key w' _ (w.heap.size::(G++F)) (by rw[r5];simp) (fun b hb=>hold b (hb.elim (hu.lt b) fun h=>(hu.sh b h).1)) (fun b hb _=>hold b (by omega)) ?_ ?_ ?_ rfl
    · exact aH.2 ⟨fun h=>dt _ (iy.lt _ h),za⟩
    · intro b hb
      rcases ab.1 hb with rfl|hb
      · exact⟨by rw[r5];simp,fun h=>by omega,fun h=>dt _ (hu.sh _ h).1,fun h=>dt _ (hu.lt _ h),c',e,by rw[r5];simp⟩
      · obtain ⟨q1, q2, q3, c, e, q4⟩ := hF b (nK b hb)
        have iq:=iy.lt b hb;exact⟨by rw[r5];simp;omega,q1,q2,q3,c,e,by rw[hold b iq];exact q4⟩
    · unfold gJ
      refine .inr ⟨w.heap.size,0,cap',c',e,(0,0),G++F,by simp[Value.cells],rfl,H0 r1,by simpa using r2,by simpa using nJ,by rw[r5];simp,by rw[r3];omega,?_,?_⟩
      · intro d hd
        exact(an.1 hd).elim (Ce d) (XT d)
      · rw [aJ, r4, bZ]
        · exact iy.frame fun b hb=>hold b (iy.lt b hb)
        · rw[lP,Il,EW,lP,aT]
  rcases hR with⟨p,h1,rfl,rfl,h4,h5⟩|⟨b,off,cap,c,e0,fr,F',h1,rfl,h3,h4,h5,h6,h7,h8,h9⟩
  · rw [Sy] at h1
    simp only[cu,bY]at h1;subst h1;refine⟨p,0,[],rfl,.inl ⟨rfl,rfl,rfl⟩,?_⟩;rintro e v' w' (⟨r1,rfl,rfl⟩|⟨b,off,c,e0,r1,_,r2,_⟩|hr)
    · have hd0 : ds = [] := dp r1
      subst hd0;simp only[gt]at ot;obtain⟨rfl,rfl⟩:=ot;refine key w' _ [] (aw _) (fun _ _=>rfl) (fun _ _ _=>rfl) bp (by simp) ?_ rfl;simpa[gT]using hR0
    · have r2:=r2;simp only[lZ]at r2;omega
    · exact fresh p 0 [] [] e v' w' (by simp[gt]) (by simp) (by simp) (by simpa using kn) hr
  · rw [Sy] at h1
    simp only[cu,bY]at h1;subst h1;obtain⟨q1,q2,q3,c',e',q4⟩:=hF b (by simp);rw[h6]at q4;injection q4 with q4;injection q4 with e1 e2 e3;subst e1 e2 e3;refine⟨some ⟨b,off,none⟩,cap,_,rfl,.inr ⟨b,off,c,e0,rfl,h4,h6,h7,rfl⟩,?_⟩;have za:=kn;rw[bf,aH]at za;rintro e v' w' (⟨r1,rfl,rfl⟩|⟨b',off',c',e1,r1,hao,r2,rfl,r3,r4,r5,rfl⟩|hr)
    · have hd0 : ds = [] := dp r1
      subst hd0;simp only[gt]at ot;obtain⟨rfl,rfl⟩:=ot;refine key w' _ (b::F') (aw _) (fun _ _=>rfl) (fun _ _ _=>rfl) (by simpa using kn) (fun x hx=>?_) ?_ rfl
      · obtain ⟨z1, z2, z3, z4⟩ := hF x (by simpa using hx)
        exact⟨afz x hx,z1,z2,z3,z4⟩
      · simpa[gT]using hR0
    · injection hao with hao
      injection hao with e2 e3;subst e2 e3;rw[h6]at r3;injection r3 with r3;injection r3 with r3 r3';subst r3 r3';have Il:=h9.length;rw[D.gk h8]at Il;have iy:=h9.append ot;have hlc:c.toList.length=c.size:=by simp
      have hle:=aZ sz r2;rw[aT]at hle;have pA:∀x,x≠b→(w.setRow b (c.toList.take (off+es.length*sz)++news++c.toList.drop (off+es.length*sz+news.length)).toArray).heap[x]?=w.heap[x]?:=fun x hx=>cm w b x _ hx;refine key _ _ (b::(F'++F)) (by rw[bW];exact aw _) (fun x hx=>pA x (by rintro rfl;exact hx.elim q3 q2)) (fun x hx hm=>pA x (by rintro rfl;exact hm (q1 hx))) (by simpa using kn) ?_ ?_ rfl
      · intro x hx
        obtain⟨z1,z2,z3,c2,e2,z4⟩:=hF x (by simpa using hx);have iq:x<w.heap.size:=(bc.1 z4).1;refine⟨by rw[bW];exact iq,z1,z2,z3,?_⟩
        by_cases Lp:x=b
        · subst Lp;exact⟨_,_,db w x c _ e0 _ h6⟩
        · exact⟨c2,e2,by rw[pA x Lp];exact z4⟩
      · unfold gJ
        refine .inr ⟨b,off,cap,_,e0,(0,0),F'++F,by simp[Value.cells],rfl,H0 r1,by simpa using r2,by simpa using nJ,db w b c _ e0 _ h6,?_,?_,?_⟩
        · simp only [bB, lP, a8, ca, cV]
          omega
        · intro d hd
          exact(an.1 hd).elim (h8 d) (XT d)
        · have e2:((c.toList.take (off+es.length*sz)++news++c.toList.drop (off+es.length*sz+news.length)).toArray.toList.drop off).take ((es++ds).length*sz)=(c.toList.drop off).take (es.length*sz)++news:=by
            have l1:(c.toList.take (off+es.length*sz)).length=off+es.length*sz:=by simp;omega
            have eA:(c.toList.take (off+es.length*sz)).drop off=(c.toList.drop off).take (es.length*sz):=by
              rw[dj];congr 1;omega
            simp only;rw[bC,dB (by rw[l1];omega),eA,←bC,bZ];rw[lP,Il,EW,lP,aT]
          rw[e2];exact iy.frame fun x hx=>pA x (by rintro rfl;exact za.1 hx)
    · exact fresh none cap _ F' e v' w' h9 h8 (fun x hx=>by simp[hx]) za.2 hr
variable {es:List D}{news:List Value}
def ym{ow:Bool}{olds:List Value}(hc:own=ow∨fO ds=true∨fO es=true)(Cc:gt h es G olds)(ot:gt h ds F news):
  (fU own ow (D.qJ ds) (fO es)=true→(F=[]∨own=true)∧(G=[]∨ow=true))∧(fU own ow (D.qJ ds) (fO es)=false→(F=[]∨own=false)∧(G=[]∨ow=false)):=by
 have key:∀ds:List D,D.qJ ds=true→fO ds=true:=by
  intro ds
  induction ds with
  |nil=>intro _;rfl
  |cons d ds ih=>
   intro h;simp only[D.qJ,bA]at h;simp only[fO,D.mq h.1,ih h.2,bi]
 exact DU (fun h=>kU (key _ h) ot) (fun h=>kU h ot) (fun h=>kU h Cc) hc
def JV(h:DY len es):(wi len es).length=len∧(∃zs,es=wi len es++zs)∧len≤es.length:=by
 unfold DY at h;unfold wi
 split at h
 ·next e=>subst e;rw[af rfl];exact⟨rfl,⟨[],by simp⟩,aw _⟩
 next e=>rw[ae e];exact⟨by simp;omega,⟨es.drop len,by simp⟩,by omega⟩
def Tu(h:At n0 S0 M0 w0 st o a w g){c:Call}{e:TypeId}{s:Operand}{i:TypeInfo}{z:D}{X Y:Ax.X}{d:Nat}{f:St→Prop}(ho:o.op=.call c)(hc:c.callee=.builtin .append)(ha:c.args= #[s,x])(tE:c.argTypes= #[t,t])
    (ht:P.underlying t=some (.slice e)) (hi:P.info? e=some i) (hz:kY P e=some z) (hX:gG P t s=some X) (hY:gG P t x=some Y) (hd:o.dst=some d)
    (hq:ra st i.size (st.ev Y) (IN X d i.size i.bytes f)):o.wp P a w (km n0 S0 M0 w0 st.n f) Q':=by
  have hs:=h.sat;have HZ:n0≤w.heap.size:=by rw[hs.base];exact hs.size
  obtain⟨zv,Nm,KU⟩:∃zv,i.zero=some zv∧zv.cells.size=i.size:=by
    unfold kY at hz;rw[hi]at hz
    dsimp only at hz
    split at hz
    · next z' Sa =>
      split at hz
      · next jP=>exact⟨z',Sa,jP⟩
      · cases hz
    · cases hz
  obtain⟨own,ds,gp,g',F,news,hk,T,p1,⟨p2,p2'⟩,p3,p4,p5⟩:=TM h.us h.rep (h.ev_ hY) hq;have ex:fN w.heap gp.us g' (gp.ev X) (a.eval s):=J1 T.rep hX;simp only[IN]at hk;have run:∀{ao:Option Addr} {n cap:Nat} {olds:List Value},a.eval s=.slice ao n cap→Src w.heap i.size ao n cap olds→(∀d∈ds,d.size=i.size)→0<i.size→n+ds.length≤gz→(n+ds.length)*i.bytes≤140737488355328→
      (∀(v':Value)(w':World),w'.os=w.os→w'.tape=w.tape→w'.output=w.output→
        ((ds.length=0∧v'=.slice ao n cap∧w'=w)∨
       (∃b off c e0,0<ds.length∧ao=some ⟨b,off,none⟩∧n+ds.length≤cap∧v'=.slice ao (n+ds.length) cap∧w.heap[b]?=some (.cells c e0 (0,0))∧off+cap*i.size≤c.size∧olds=(c.toList.drop off).take (n*i.size)∧
          w'=w.setRow b (c.toList.take (off+n*i.size)++news++c.toList.drop (off+n*i.size+news.length)).toArray)∨
       (∃ cap' c' rest, 0 < ds.length ∧ v' = .slice (some ⟨w.heap.size, 0, none⟩) (n + ds.length) cap' ∧ n + ds.length ≤ cap' ∧ c'.size = cap' * i.size ∧ c'.toList = (olds ++ news) ++ rest ∧ w'.heap = w.heap.push (.cells c' e (0, 0)))) →
        km n0 S0 M0 w0 st.n f (a.put o.dst v') w')→o.wp P a w (km n0 S0 M0 w0 st.n f) Q':=by
    intro ao n cap olds hv vn XT h0 nJ oL Xf;obtain⟨v',w',hH,e1,e2,e3,oz⟩:=OC (P:=P) (w:=w) (ty:=o.type) ht hi Nm KU vn (p5 XT h0) p1.one nJ oL;unfold Oper.wp;have pB:(execOp a.eval o).run P w=.ok (.value v') w':=by
      rw[←hv]at hH;simp[execOp,ho,resolve,hc,ha,tE,invoke,builtin,hH,Result.andThen]
    rw[pB];exact Xf v' w' e1 e2 e3 oz
  have fin:∀{env:List (Nat×AV)} {us:List (Nat×U)} {g1:Gh} {w':World} {v':Value} {id:Nat} {u:U} {av:AV},(∀t,fN w.heap us g1 (lk env t) (a.tmps.getD t undef))→w'.os=w.os→w'.tape=w.tape→w'.output=w.output→
      (∃g2,gQ w'.heap n0 S0 M0 ((id,u)::us) g2∧(∀av x,fN w.heap us g1 av x→fN w'.heap ((id,u)::us) g2 av x)∧fN w'.heap ((id,u)::us) g2 av v'∧w.heap.size≤w'.heap.size∧(∀b,b<n0→¬M0 b→w'.heap[b]?=w.heap[b]?))→
      f ((⟨st.n,env,(id,u)::us⟩:St).set d av)→km n0 S0 M0 w0 st.n f (a.put o.dst v') w':=by
    rintro env us g1 w' v' id u av hv e1 e2 e3 ⟨g2,hU,hV,hr,jP,hold⟩ hf;have hS:k9 n0 S0 M0 w0 ⟨st.n,env,(id,u)::us⟩ a w':=by
      refine⟨hs.ms,hs.v8,hs.tm,hs.base,e1.trans hs.os,e2.trans hs.tape,e3.trans hs.output,cB hs.size jP,?_,g2,hU,fun t=>hV _ _ (hv t)⟩;intro b hb hm;rw[hold b hb hm];exact hs.jL b hb hm
    refine⟨_,?_,hf,?_⟩
    · rfl
    · have := jY hS hU (fun t => hV _ _ (hv t)) (d := o.dst) (fun j hj => h.dst j hj) hr
      rw[hd]at this⊢;exact this
  have Ej:own=true→F.Nodup∧∀b∈F,(b<n0→M0 b)∧¬g'.Sh b∧b∉fp g' gp.us∧t7 w.heap b:=fun e=>
    ⟨(p2 e).1,fun b hb=>⟨((p2 e).2 b hb).1,((p2 e).2 b hb).2.1,((p2 e).2 b hb).2.2.1,h.us.fz b ((p2 e).2 b hb).2.2.2⟩⟩
  have hTn:gp.n=st.n:=T.n;unfold C6 at hk
  split at hk
  · next t' q e1 =>
    obtain⟨⟨q1,q2,q3,q4,q5⟩,hf⟩:=hk;rw[e1]at ex;simp only[fN]at ex;obtain⟨F0,r1,r2,_⟩:=ex;have Sy:=gD (by simpa[D.fits]using r2);unfold gJ at r1;rcases r1 with⟨p,r1,_,rfl,_,r5⟩|⟨_,_,_,_,_,_,_,_,_,r3,_⟩
    · rw [Sy] at r1
      simp only[cu,bY]at r1;have hp:p=none:=by
        cases p with
        |none=>rfl
        |some p=>exact absurd rfl (r5 rfl)
      subst hp;have oK:tO d gp.us=true:=by simpa[St.fresh,tO]using q5
      refine run (olds:=[]) r1 (.inl ⟨rfl,rfl,rfl⟩) q4 q3 (by simpa using q2) (by simpa using q1) fun v' w' e1 e2 e3 oz=>?_;have tG:=Di (w:=w) (rest:=[]) T.us HZ (jy oK) q3 (es:=[]) (G:=[]) (olds:=[]) (nn:=some true) (cap:=0) (by simp[gt]) (by simp) p1 q4 (by simpa using q2) (.inl ⟨rfl,rfl,rfl,rfl,rfl,by simp⟩) (ow:=own)
        (fun e=>by simpa using Ej e) (fun e=>by simpa using p2' e) (fun e=>by cases e) (e:=e) (v':=v') (w':=w') (by simpa using oz)
      refine fin T.rep e1 e2 e3 tG ?_;simp only[be,lZ,aa];have:(gp.kc [(d,U.ar own (gT (some true) ds) i.size ds)])=⟨st.n,gp.env,(d,U.ar own (gT (some true) ds) i.size ds)::gp.us⟩:=by simp[St.kc,hTn]
      rw[←this];exact hf
    · exact absurd rfl r3
  · next id off len e1 =>
    unfold QS at hk
    split at hk
    · next ow nn usz es jm =>
      obtain⟨⟨rfl,q0,rfl,afA,q1,q2,q3,q4⟩,hf⟩:=hk;obtain⟨xN,Nu⟩:=JV afA;generalize alt:wi len es=t9 at xN Nu q4 hf;have hm:=f7 jm;have hU:=T.us.each _ hm;rw[e1]at ex;simp only[fN]at ex;obtain⟨ow',jR,gV,es',x1,x2,x3⟩:=ex;have:=T.us.uniq hm x1;injection this with z1 z2 z3 z4;subst z1 z2 z3 z4;have T2:=T.del id;have oK:id∉(gp.del id).us.map (·.1):=by
        show id∉(gu id (AV.refs id) gp.us).map (·.1)
        rw[gI];simp[aQ]
      have j7:∀x∈g'.φ id,x∈fp g' gp.us:=fun x hx=>gn.2 ⟨_,hm,hx⟩;have OS:=sQ T.us hm;have jS:∀b,b∈fp (g'.drop id) (gp.del id).us→b∈fp g' gp.us:=fun b hb=>(kw (g:=g') (g':=g'.drop id) (fun j hj=>by simp[Gh.drop,hj])).subset hb;have KV:f ((⟨st.n,(gp.del id).env,(id,U.ar (fU own ow (D.qJ ds) (fO t9)) (gT nn ds) i.size (t9++ds))::(gp.del id).us⟩:St).set d (.sm id 0 (t9.length+ds.length))):=by
        rw[←hTn,xN];exact hf
      simp only[jn]at hU;obtain⟨nJ,Ce,hU⟩:=hU;rcases hU with⟨y1,rfl,y3,y4⟩|⟨b,cc,ee,G,cs,rest,y1,y2,y3,y4,y5,y6,y7,y8⟩
      · have afB:t9=[]:=by
          obtain⟨zs,hz⟩:=Nu.1;exact(eD.1 hz.symm).1
        subst afB;obtain rfl:len=0:=xN.symm;have hv:a.eval s=.slice none 0 0:=by
          rcases x3 with⟨b,x3,_⟩|⟨_,_,_,x3⟩
          · rw[y1]at x3;cases x3
          · exact x3
        refine run (olds:=[]) hv (.inl ⟨rfl,rfl,rfl⟩) q3 q0 (by simpa using q2) (by simpa using q1) fun v' w' e1 e2 e3 oz=>?_;obtain⟨mt,mf⟩:=ym (own:=own) (ow:=ow) q4 (h:=w.heap) (es:=[]) (G:=[]) (olds:=[]) (by simp[gt]) p1;have tG:=Di (w:=w) (rest:=[]) T2.us HZ oK q0 (es:=[]) (G:=[]) (olds:=[]) (nn:=nn) (cap:=0) (by simp[gt]) (by simp) p1 q3 (by simpa using q2) (.inl ⟨rfl,rfl,rfl,rfl,rfl,y4⟩) (ow:=fU own ow (D.qJ ds) (fO []))
          (fun e=>by
            rcases(mt e).1 with rfl|e'
            · simp
            · exact⟨by simpa using(Ej e').1,fun x hx=>by
                obtain⟨z1,z2,z3,z4⟩:=(Ej e').2 x (by simpa using hx);exact⟨z1,z2,fun h=>z3 (jS x h),z4⟩⟩)
          (fun e=>by
            rcases(mf e).1 with rfl|e'
            · simp
            · exact fun x hx => p2' e' x (by simpa using hx)) (fun e k v hk me => by
              subst e;obtain⟨z1,z2⟩:=T.us.AB k v hk ⟨_,me▸hm,rfl⟩;rw[←me,y1]at z1 z2;exact⟨fun h=>by simpa using z1 h,fun _ h=>absurd rfl h⟩) (e:=e) (v':=v') (w':=w') (by simpa using oz)
        refine fin T2.rep e1 e2 e3 tG ?_;exact KV
      · obtain ⟨zs, KU⟩ := Nu.1
        rw[KU]at y6;obtain⟨G1,G2,c1,c2,rfl,rfl,y6,_⟩:=gt.split y6;have Ce:∀d∈t9,d.size=i.size:=fun d hd=>Ce d (by rw[KU];simp[hd])
        have y5 : t9.length ≤ g'.cap id := by have : es.length = t9.length + zs.length := by rw [KU, lP]
                                              omega
        rw[bC]at y3;have hv:a.eval s=.slice (some ⟨b,0,none⟩) t9.length (g'.cap id):=by
          rw[xN];rcases x3 with⟨b',x3,x4⟩|⟨x3,_⟩
          · rw [y1] at x3
            obtain rfl:=aD x3;simpa using x4
          · rw[y1]at x3;cases x3
        have rh:=y6.length;rw[D.gk Ce]at rh;have hle:=aZ i.size y5;have vn:Src w.heap i.size (some ⟨b,0,none⟩) t9.length (g'.cap id) c1:=by
          refine .inr ⟨b,0,cc,ee,rfl,y5,y2,by omega,?_⟩;rw[aJ,y3,←rh,bZ]
          rfl
        have Cd:b∈g'.φ id:=by
          cases ow
          · simp only[mI,aA]at y8;rw[y8.1];simp
          · simp only[ay]at y8;rw[y8];simp
        refine run hv vn q3 q0 (by rw[xN];exact q2) (by rw[xN];exact q1) fun v' w' e1 e2 e3 oz=>?_;obtain⟨mt,mf⟩:=ym (own:=own) (ow:=ow) q4 y6 p1;have hbG:b∉G1:=by
          cases hw:ow with
          | true =>
            have:=iZ T.us hm;rw[hw]at y8;simp only[ay]at y8;rw[y8]at this;exact fun h=>(aH.1 this).1 (by simp[h])
          | false =>
            rw[hw]at y8;simp only[mI,aA]at y8;exact fun hb=>(T.us.sh b (y8.2 b (by simp[hb]))).2.2 (j7 b Cd)
        have R4:b∉F:=by
          cases ho:own with
          |true=>exact fun hb=>((Ej ho).2 b hb).2.2.1 (j7 b Cd)
          |false=>exact fun hb=>(T.us.sh b (p2' ho b hb)).2.2 (j7 b Cd)
        have ahO:ow=true→G1.Nodup∧∀x∈G1,x∈g'.φ id:=by
          intro hw;have:=iZ T.us hm;rw[hw]at y8;simp only[ay]at y8;rw[y8]at this⊢;exact⟨(aX.1 (aH.1 this).2).1,fun x hx=>by simp[hx]⟩
        have tG:=Di (w:=w) (rest:=c2++rest) T2.us HZ oK q0 (es:=t9) (G:=G1) (olds:=c1) (nn:=nn) (cap:=g'.cap id) y6 Ce p1 q3 (by rw[xN];exact q2)
          (.inr ⟨b,cc,ee,rfl,y2,y4,y3,y5,y7,OS b Cd,fun hb=>(T.us.sh b hb).2.2 (j7 b Cd),fun hb=>T.us.low b (j7 b Cd) hb,by rw[an];exact fun hb=>hb.elim hbG R4⟩) (ow:=fU own ow (D.qJ ds) (fO t9))
          (fun e=>by
            have hGG:G1.Nodup∧∀x∈G1,x∈g'.φ id:=by
              rcases(mt e).2 with rfl|e'
              · simp
              · exact ahO e'
            have Sz:F.Nodup∧∀x∈F,(x<n0→M0 x)∧¬g'.Sh x∧x∉fp g' gp.us∧t7 w.heap x:=by
              rcases(mt e).1 with rfl|e'
              · simp
              · exact Ej e'
            refine⟨aX.2 ⟨hGG.1,Sz.1,fun x hx y hy kZ=>(Sz.2 y hy).2.2.1 (kZ▸j7 x (hGG.2 x hx))⟩,fun x hx=>?_⟩;rcases an.1 hx with hx|hx
            · have h1 := j7 x (hGG.2 x hx)
              exact⟨T.us.low x h1,fun hb=>(T.us.sh x hb).2.2 h1,OS x (hGG.2 x hx),T.us.fz x h1⟩
            · obtain ⟨z1, z2, z3, z4⟩ := Sz.2 x hx
              exact⟨z1,z2,fun h=>z3 (jS x h),z4⟩)
          (fun e=>by
            intro x hx;rcases an.1 hx with hx|hx
            · rcases (mf e).2 with rfl | e'
              · cases hx
              · rw [e'] at y8
                simp only[mI,aA]at y8;exact y8.2 x (by simp[hx])
            · rcases (mf e).1 with rfl | e'
              · cases hx
              · exact p2' e' x hx) (fun e k v hk me=>by
              subst e;obtain⟨z1,z2⟩:=T.us.AB k v hk ⟨_,me▸hm,rfl⟩;rw[←me,y1]at z1 z2;exact⟨fun h=>by simpa using z1 h,fun h _=>z2 h (by simp)⟩) (e:=e) (v':=v') (w':=w') oz
        refine fin T2.rep e1 e2 e3 tG ?_;exact KV
    · exact hk.elim
  · next nn q e1 =>
    obtain⟨⟨q1,q2,q3,rfl,q4,q5⟩,hf⟩:=hk;rw[e1]at ex;simp only[fN]at ex;obtain⟨p,hv,x1,x2⟩:=ex;have r1:gJ w.heap (.ls nn i.size []) [] (a.eval s).cells.toList:=by
      unfold gJ;exact .inl ⟨p,by simp[hv,Value.cells],rfl,rfl,x1,x2⟩
    have oK:tO d gp.us=true:=by simpa[St.fresh,tO]using q5
    obtain⟨f1,f2⟩:=Ej rfl;obtain⟨ao,cap,olds,Sb,vn,Xg⟩:=N8 (w:=w) T.us HZ (jy oK) q3 r1 (by rw[hv];rfl) p1 q4 (by simpa using q2) (by simpa using f1) (by simpa using f2);refine run Sb vn q4 q3 (by simpa using q2) (by simpa using q1) fun v' w' e1 e2 e3 oz=>?_;refine fin T.rep e1 e2 e3 (Xg e v' w' oz) ?_;rw[←hTn];simpa[St.kc]using hf
  · obtain ⟨own2, d2, KX, g2, F2, tR, T2, r1, r2, ⟨r3, _⟩, r4, r5⟩ := nP T.us (jK.refl T.us T.rep) ex hk
    unfold Iw at tR
    split at tR
    · next nn gV es =>
      obtain⟨⟨rfl,rfl,rfl,q1,q2,q3,q4,q5⟩,hf⟩:=tR;have oK:tO d KX.us=true:=by simpa[St.fresh,tO]using q5
      have hn2:KX.n=st.n:=T2.n.trans hTn;obtain⟨f1,f2⟩:=Ej rfl;obtain⟨f3,f4⟩:=r3 rfl;have iy:∀x∈F2++F,(x<n0→M0 x)∧¬g2.Sh x∧x∉fp g2 KX.us∧t7 w.heap x:=by
        intro x hx;rcases an.1 hx with hx|hx
        · obtain ⟨z1, z2, z3, z4⟩ := f4 x hx
          exact⟨z1,z2,z3,T.us.fz x z4⟩
        · obtain ⟨z1, z2, z3, z4⟩ := f2 x hx
          exact⟨z1,fun hb=>z2 ((r4 x).1 hb),fun hb=>z3 (r5 x hb),z4⟩
      have kn:(F2++F).Nodup:=aX.2 ⟨f3,f1,fun x hx y hy kZ=>(f2 y hy).2.2.1 (kZ▸(f4 x hx).2.2.2)⟩;obtain⟨ao,cap,olds,hv,vn,Xg⟩:=N8 (w:=w) T2.us HZ (jy oK) q4 r1 (by simpa[D.fits]using r2) p1 q3 q2 kn iy;refine run hv vn q3 q4 q2 q1 fun v' w' e1 e2 e3 oz=>?_;refine fin T2.rep e1 e2 e3 (Xg e v' w' oz) ?_;rw[←hn2];simpa[St.kc]using hf
    · exact tR.elim
end Go.Ax
