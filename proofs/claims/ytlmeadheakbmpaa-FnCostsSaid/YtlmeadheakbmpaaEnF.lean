/- THE ENGINE, PART 6: a generator of conditions over the register code, and its soundness. No condition. -/
import Derived.Test.YtlmeadheakbmpaaEnE
import Derived.Laws.BytesString
set_option linter.all false
namespace Go.Ax
variable {P:Program}{n0:Nat}{S0 M0:Nat→Prop}{w0:World}
variable {st:St}{o:Oper}{a:Act}{w:World}{k:KQ}{Q':Exit→Act→World→Prop}{g:Gh}
mutual
def Fb{k:Nat}:∀{av:AV},av.refs k=false→av.soft k=false
 |.im _ _,h=>by simpa[AV.refs,AV.soft]using h
 |.cw _ _ _ _ _,h=>by simpa[AV.refs,AV.soft]using h
 |.sg _,h=>by simp only[AV.refs]at h;simp only[AV.soft];exact sP h
 |.lf _,h=>by simp only[AV.refs]at h;simp only[AV.soft];exact sP h
 |.cl _ _,h=>by simp only[AV.refs]at h;simp only[AV.soft];exact sP h
 |.pq _ _ _ _ _ _,h=>by simpa[AV.refs,AV.soft]using h
 |.qs _ _ _ _ _ _,h=>by simpa[AV.refs,AV.soft]using h
 |.tr _,_=>by simp[AV.soft]
 |.pw _ _ _,_=>by simp[AV.soft]
 |.sm _ _ _,_=>by simp[AV.soft]
 |.vb _ _,_=>by simp[AV.soft]
 |.any,_=>by simp[AV.soft]
 |.ss _ _ _,_=>by simp[AV.soft]
 |.z0 _ _,_=>by simp[AV.soft]
 |.pb _ _,_=>by simp[AV.soft]
 |.ps _,_=>by simp[AV.soft]
def sP{k:Nat}:∀{vs:List AV},AV.mr k vs=false→AV.py k vs=false
 | [],_=>by simp[AV.py]
 |v::vs,h=>by
  simp only[AV.mr,ck]at h;simp only[AV.py,Fb h.1,sP h.2,aK]
end
variable {h:jv}{us:List (Nat×U)}{v:Value}
def FU{x:AV}(hr:fN h us g x v)(ho:qV x=true):∀c∈v.cells.toList,c.oneCell'=true:=by
 have BJ:x.lV=true→∀c∈v.cells.toList,c.oneCell'=true:=by
  intro h1 c hc;have:=uD hr h1;rw[gD this]at hc;simp at hc;subst hc;exact this
 cases x with
 |sg vs=>
  simp only[qV]at ho;simp only[fN]at hr;obtain⟨xs,h1,rfl⟩:=hr;have jH:=ny h1 ho;intro c hc;rw[jH]at hc;simp only[Value.cells,List.toList_toArray]at hc;have key:∀{vs:List AV} {xs:List Value},fT h us g vs xs→vs.all AV.lV=true→∀c∈xs,c.oneCell'=true:=by
   intro vs
   induction vs with
   |nil=>intro xs hr _ c hc;simp only[fT]at hr;subst hr;cases hc
   |cons v vs ih=>
    intro xs hr ho c hc;simp only[fT]at hr;obtain⟨x,r,rfl,p1,p2⟩:=hr;simp only[cJ,bA]at ho;rcases ab.1 hc with rfl|hc
    exact uD p1 ho.1;exact ih p2 ho.2 c hc
  exact key h1 ho c hc
 |_=>exact BJ (by simpa[qV]using ho)
variable {e:TypeId}
def gQ.cell{h':jv}(hu:gQ h n0 S0 M0 us g){id:Nat}{u:U}(hm:(id,u)∈us){b:Nat}(hb:g.β id=some b)(hφ:g.φ id=[b]){c:Array Value}(h0:h'[b]?=some (.cells c e (0,0)))
  (jP:h'.size=h.size) (hh:∀x,x≠b→h'[x]?=h[x]?) {f:AV→Bool} {k1 k2:List Nat} (hk:∀i,i∈k1∨i∈k2→i=id) (mM:id∈k1∨id∈k2) (hf:∀av,f av=false→(∀k∈k1,av.soft k=false)∧(∀k∈k2,av.refs k=false))
  {sz:Nat} {z:AV} {vz:Value} (lF:id∈k1→nE u (.bx sz [z])) (hz:fN h us g z vz) (hzr:z.refs id=false) (KU:vz.cells.size=sz) {rest:List Value} (hc:c.toList=vz.cells.toList++rest) (ab0:tM n0 M0 id (g.β id) (g.cap id)):
  gQ h' n0 S0 M0 ((id,.bx sz [z])::gu id f us) g∧pe k1 k2 f h h' us ((id,.bx sz [z])::gu id f us) g g:=by
 have o5:b∈fp g us:=gn.2 ⟨_,hm,by rw[hφ];simp⟩;have pA:∀i v,(i,v)∈us→i≠id→∀x∈g.φ i,x≠b:=by
  rintro i v h1 h2 x hx rfl;exact h2 (iA hu.keys hu.nodup h1 hm hx (by rw[hφ];simp))
 have Nq:∀x,g.Sh x→x≠b:=fun x hx e=>(hu.sh x hx).2.2 (e▸o5);have K:pe k1 k2 f h h' us ((id,.bx sz [z])::gu id f us) g g:=by
  refine⟨hf,?_,fun _ _=>⟨rfl,rfl,rfl⟩,?_,?_,?_⟩
  ·intro i v hi h1 h2;have g9:i≠id:=by
    rintro rfl;exact mM.elim h1 h2
   exact bg _ (jT hi g9)
  ·intro i v x hi h1 h2 hx;have g9:i≠id:=by
    rintro rfl;exact mM.elim h1 h2
   exact hh x (pA i v hi g9 x ((hu.each _ hi).kr hx))
  ·intro t d F cs h1 h2 hr kA;have g9:t≠some id:=by
    rintro rfl;exact mM.elim (fun h=>h1 id h rfl) (fun h=>h2 id h rfl)
   have hx:∀x∈F,h'[x]?=h[x]?:=by
    intro x hx;refine hh x ?_;rcases kA x hx with q|⟨i,rfl,q,_⟩
    exact Nq x q;obtain⟨v,hv⟩:=hu.live q;exact pA i v hv (fun e=>g9 (by rw[e])) x q
   exact⟨hr.frame hx,kA⟩
  intro i hi;have:=hk i (.inl hi);subst this;exact⟨u,_,fun v hv=>hu.uniq hv hm,bD,lF hi⟩
 have hzn:fN h' ((id,.bx sz [z])::gu id f us) g z vz:=by
  refine fN.qN K ?_ ?_ hz;intro k hk1;have:=hk k (.inl hk1);subst this;exact Fb hzr;intro k hk1;have:=hk k (.inr hk1);subst this;exact hzr
 have mem:∀x∈((id,U.bx sz [z])::gu id f us),∃v,(x.1,v)∈us:=by
  intro x hx;rcases ab.1 hx with rfl|hx
  exact⟨u,hm⟩;obtain⟨_,v,h2,_⟩:=gF hx;exact⟨v,h2⟩
 have ab1:∀x,x∈fp g ((id,U.bx sz [z])::gu id f us)→x∈fp g us:=by
  intro x hx;obtain⟨y,hy,kZ⟩:=gn.1 hx;obtain⟨v,hv⟩:=mem y hy;exact gn.2 ⟨_,hv,kZ⟩
 have pS:(((id,U.bx sz [z])::gu id f us).map (·.1)).Nodup:=by
  simp only[lC,aH,gI];exact⟨by simp[aQ],hu.keys.filter _⟩
 refine⟨⟨pS,nh pS ?_ ?_,?_,fun x hx=>hu.low x (ab1 x hx),?_,?_,?_,?_,hu.AB.iD (fun _=>⟨rfl,rfl⟩) fun _=>ab0⟩,K⟩;intro x hx;obtain⟨v,hv⟩:=mem x hx;exact iZ hu hv;intro x hx y hy b' xJ oL;obtain⟨v,hv⟩:=mem x hx;obtain⟨v',Sb⟩:=mem y hy;exact iA (x:=(x.1,v)) (y:=(y.1,v')) hu.keys hu.nodup hv Sb xJ oL;intro x hx;rw[jP];exact hu.lt x (ab1 x hx)
 ·intro i hi;refine hu.dead i fun XR=>hi ?_;simp only[lC,ab,gI,aQ]
  by_cases e:i=id;exact .inl e
  exact .inr ⟨XR,by simpa using e⟩
 ·intro x hx;obtain⟨q1,q2,q3⟩:=hu.sh x hx;exact⟨by rw[jP];exact q1,q2,fun hf=>q3 (ab1 x hf)⟩
 ·intro x hx;rcases ab.1 hx with rfl|hx
  ·simp only[jn];refine⟨by simp[gz],b,c,e,[vz],rest,hb,h0,hφ,?_,by simpa using fun _=>KU,by simpa using hc⟩;simp only[fT];exact⟨_,_,rfl,hzn,rfl⟩
  obtain⟨g9,v,h1,h2⟩:=gF hx;rw[h2];have n1:x.1∉k1:=fun h=>g9 (hk _ (.inl h));have n2:x.1∉k2:=fun h=>g9 (hk _ (.inr h));exact(hu.each _ h1).qN K h1 n1 n2 rfl (fun y hy=>hh y (pA _ _ h1 g9 y hy)) (fun y hy=>⟨hy,hh y (Nq y hy)⟩)
 intro x hx
 by_cases e':x=b;subst e';exact⟨c,e,h0⟩
 obtain⟨c',ty,Ef⟩:=hu.fz x (ab1 x hx);exact⟨c',ty,by rw[hh x e'];exact Ef⟩
def JE{h':jv}{us':List (Nat×U)}{g g':Gh}{id:Nat}(H:∀av v,av.refs id=false→fN h us g av v→fN h' us' g' av v)(Hp:∀j v,fN h us g (.pw id 0 j) v→fN h' us' g' (.pb id j) v){t:Nat}:∀{env:List (Nat×AV)},
  fN h us g (lk env t) v→fN h' us' g' (lk (Iy id env) t) v
 | [],_=>by simp[Iy,lk,fN]
 |(k,av)::r,hr=>by
  simp only[Iy,lk]at hr⊢
  split
  ·next e=>
   rw[af e]at hr;unfold zO
   split
   ·next i el j=>
    split
    ·next e2=>
     subst e2
     split
     ·next e3=>subst e3;exact Hp _ _ hr
     simp[fN]
    next e2=>exact H _ _ (by simpa[AV.refs]using e2) hr
   split
   simp[fN]
   next e2=>exact H _ _ (by simpa using e2) hr
  next e=>rw[ae e]at hr;exact JE H Hp hr
variable {A:Ax.X}{p x:Operand}{t u1 u2:TypeId}
def acg(h:At n0 S0 M0 w0 st o a w g){sz:Nat}{X:Ax.X}{f:St→Prop}(ho:o.op=.store t p x)(hd:o.dst=none)(hp:gG P u1 p=some A)(hx:gG P u2 x=some X)
  (hz:kx P t=some sz) {id el j:Nat} (eA:st.ev A=.pw id el j) (hq:stN (st.unit id) id el j sz (st.ev X) st f):o.wp P a w (km n0 S0 M0 w0 st.n f) Q':=by
 have ep:=h.ev_ hp;have ex:=h.ev_ hx;have hs:=h.sat;unfold stN at hq
 split at hq
 ·next ow nn usz d jm=>
  obtain⟨⟨q1,q2,rfl,rfl,rfl,q6,q7,q8,q9⟩,hf⟩:=hq;have hm:=f7 jm;rw[eA]at ep;simp only[fN]at ep;obtain⟨ow',jR,gV,es',b,r1,r2,r3,r4,hv⟩:=ep;have:=h.us.uniq r1 hm;injection this with e1 e2 e3 e4;subst e1 e2 e3 e4;have hU:=h.us.each _ hm;simp only[jn]at hU;obtain⟨_,Ce,hU⟩:=hU;rcases hU with⟨z1,_⟩|⟨b',c,e,G,cs,rest,k1,k2,k3,k4,k5,k6,k7,k8⟩
  rw[r4]at z1;cases z1;rw[r4]at k1;obtain rfl:=aD k1;simp only[gt]at k6;obtain⟨F1,F2,c1,c2,rfl,rfl,k6,hF2,jw⟩:=k6;subst hF2 jw;have hF1:=jC q6 k6;subst hF1;have hφ:g.φ id=[b]:=by
   split at k8;simpa using k8;exact k8.1
  have Sa:=CH ex;have ahY:=vU h.us Sa q7 q2;have OT:=k6.length;have ot:d.size=gV:=Ce d (by simp);have rh:c.toList.length=c.size:=by simp
  have KP:gV≤c.size:=by
   rw[k3]at rh;simp only[aI,lP,OT]at rh;omega
  have hH:=CY (P:=P) (w:=w) hz (b:=b) (off:=0*gV+0) (v:=a.eval x) ahY k2 (by omega) (FU Sa q8);have Eg:(c.toList.take (0*gV+0)++(a.eval x).cells.toList++c.toList.drop (0*gV+0+gV)).toArray.toList=(a.eval x).cells.toList++c.toList.drop (0*gV+0+gV):=by simp
  obtain⟨hU',K⟩:=h.us.cell (h':=(w.setRow b (c.toList.take (0*gV+0)++(a.eval x).cells.toList++c.toList.drop (0*gV+0+gV)).toArray).heap) hm r4 hφ (db w b c _ e _ k2) (bW _ _ _) (fun y hy=>cm w b y _ hy)
   (f:=AV.refs id) (k1:=[]) (k2:=[id]) (by simp) (by simp) (fun av hf=>⟨by simp,by simpa using hf⟩) (sz:=gV) (z:=lx (st.ev X)) (by simp) Sa q9 ahY Eg
   (by
    rcases q1 with rfl|q1
    exact h.us.AB.at hm rfl;exact tM.low q1)
  have jQ:∀t,fN (w.setRow b (c.toList.take (0*gV+0)++(a.eval x).cells.toList++c.toList.drop (0*gV+0+gV)).toArray).heap ((id,U.bx gV [lx (st.ev X)])::gu id (AV.refs id) st.us) g (lk (Iy id st.env) t) (a.tmps.getD t undef):=fun t=>JE (fun av v hf hr=>fN.qN K (by simp) (by simpa using hf) hr) (fun j v hr=>by
   simp only[fN]at hr⊢;obtain⟨_,_,_,_,b2,p1,_,_,p4,p5⟩:=hr;exact⟨_,_,b2,bD,p4,by simpa using p5⟩) (h.rep t)
  unfold Oper.wp;have pB:(execOp a.eval o).run P w=.ok .skip (w.setRow b (c.toList.take (0*gV+0)++(a.eval x).cells.toList++c.toList.drop (0*gV+0+gV)).toArray):=by
   have hr2:=hH;simp only[et,ah,aa,aO,be]at hr2;simp[execOp,ho,hv,hr2]
  rw[pB,eC,hd];refine⟨st.cvt id (.bx gV [lx (st.ev X)]),rfl,hf,hs.ms,hs.v8,hs.tm,hs.base,hs.os,hs.tape,hs.output,?_,?_,g,hU',jQ⟩;rw[bW];exact hs.size;intro y hy Ij;have:y≠b:=by
   rintro rfl;exact Ij (h.us.low y (gn.2 ⟨_,hm,by rw[hφ];simp⟩) hy)
  rw[cm w b y _ this];exact hs.jL y hy Ij
 exact hq.elim
def ab7(h:At n0 S0 M0 w0 st o a w g){sz:Nat}{X:Ax.X}{f:St→Prop}(ho:o.op=.store t p x)(hd:o.dst=none)(hp:gG P u1 p=some A)(hx:gG P u2 x=some X)
  (hz:kx P t=some sz) {id j:Nat} (eA:st.ev A=.pb id j) (hq:stB (st.unit id) id j sz (st.ev X) st f):o.wp P a w (km n0 S0 M0 w0 st.n f) Q':=by
 have ep:=h.ev_ hp;have ex:=h.ev_ hx;have hs:=h.sat;unfold stB at hq
 split at hq
 ·next usz y jm=>
  obtain⟨⟨q0,q2,q7,q8,q9,q10⟩,hq⟩:=hq;have hm:=f7 jm;rw[eA]at ep;simp only[fN]at ep;obtain⟨gV,iT,b,r1,r4,hv⟩:=ep;have:=h.us.uniq r1 hm;injection this with e1 e2;subst e1 e2;have hU:=h.us.each _ hm;simp only[jn]at hU;obtain⟨_,b',c,e,vs,rest,k1,k2,hφ,k4,k5,k6⟩:=hU;rw[r4]at k1;obtain rfl:=aD k1;simp only[fT]at k4;obtain⟨vy,r,rfl,hy,rfl⟩:=k4;have hys:=k5 q0 vy (by simp);have hc:c.toList=vy.cells.toList++rest:=by simpa using k6
  have zf:=vU h.us ex q7 q2;have rh:c.toList.length=c.size:=by simp
  have sC:c.size=gV+rest.length:=by rw[←rh,hc];simp[hys]
  have fin:∀(z:AV)(vz:Value),fN w.heap st.us g z vz→z.refs id=false→vz.cells.size=gV→j+sz≤gV→vz.cells.toList=vy.cells.toList.take j++(a.eval x).cells.toList++vy.cells.toList.drop (j+sz)→f (st.ue id (.bx gV [z]))→o.wp P a w (km n0 S0 M0 w0 st.n f) Q':=by
   intro z vz OQ hz2 hz3 hj hz4 hf;have hH:=CY (P:=P) (w:=w) hz (b:=b) (off:=j) (v:=a.eval x) zf k2 (by omega) (FU ex q8);have Eg:(c.toList.take j++(a.eval x).cells.toList++c.toList.drop (j+sz)).toArray.toList=vz.cells.toList++rest:=by
    have l1:vy.cells.toList.length=gV:=by simpa using hys
    simp only[hz4,hc];rw[dC (by omega),dB (by omega)];simp
   obtain⟨hU',K⟩:=h.us.cell (h':=(w.setRow b (c.toList.take j++(a.eval x).cells.toList++c.toList.drop (j+sz)).toArray).heap) hm r4 hφ (db w b c _ e _ k2) (bW _ _ _) (fun y hy=>cm w b y _ hy)
    (f:=AV.soft id) (k1:=[id]) (k2:=[]) (by simp) (by simp) (fun av hf=>⟨by simpa using hf,by simp⟩) (sz:=gV) (z:=z) (fun _=>by simp[nE]) OQ hz2 hz3 Eg (h.us.AB.at hm rfl)
   unfold Oper.wp;have pB:(execOp a.eval o).run P w=.ok .skip (w.setRow b (c.toList.take j++(a.eval x).cells.toList++c.toList.drop (j+sz)).toArray):=by
    simp[execOp,ho,hv,hH]
   rw[pB,eC,hd];refine⟨st.ue id (.bx gV [z]),rfl,hf,hs.ms,hs.v8,hs.tm,hs.base,hs.os,hs.tape,hs.output,?_,?_,g,hU',fun t=>kp K.rep (h.rep t)⟩;rw[bW];exact hs.size;intro y hy Ij;have:y≠b:=by
    rintro rfl;exact Ij (h.us.low y (gn.2 ⟨_,hm,by rw[hφ];simp⟩) hy)
   rw[cm w b y _ this];exact hs.jL y hy Ij
  unfold JT at hq
  split at hq
  ·next iS=>
   obtain⟨rfl,rfl⟩:=iS;refine fin (st.ev X) (a.eval x) ex q9 zf (by omega) ?_ hq;have:vy.cells.toList.drop (0+sz)=[]:=bO (by simp[hys]);rw[this];simp
  split at hq
  ·rename_i ys _
   obtain⟨⟨p1,p2,rfl,p4⟩,hf⟩:=hq;simp only[fN]at hy;obtain⟨xs,ab2,rfl⟩:=hy;have jH:=ny ab2 p1;have hl:=oV ab2;have afv:=uD ex p4;have Ns:∀{vs:List AV} {xs:List Value} {j:Nat},fT w.heap st.us g vs xs→fT w.heap st.us g (vs.set j (st.ev X)) (xs.set j (a.eval x)):=by
    intro vs
    induction vs with
    |nil=>intro xs j hr;simp only[fT]at hr;subst hr;simp[fT]
    |cons v vs ih=>
     intro xs j hr;simp only[fT]at hr;obtain⟨x0,r,rfl,a1,a2⟩:=hr;cases j with
     |zero=>simp only[fq,fT];exact⟨_,_,rfl,ex,a2⟩
     |succ j=>simp only[ft,fT];exact⟨_,_,rfl,a1,ih a2⟩
   have ahZ:(ys.set j (st.ev X)).all AV.lV=true:=by
    rw[aM]at p1⊢;intro v hv;rcases List.mem_or_eq_of_mem_set hv with h|h
    exact p1 v h;rw[h];exact p4
   have ah0:=ny (Ns (j:=j) ab2) ahZ;have hyr:AV.mr id (ys.set j (st.ev X))=false:=by
    have Ee:AV.mr id ys=false:=by simpa[AV.refs]using q10
    have:∀{l:List AV} {j:Nat},AV.mr id l=false→AV.mr id (l.set j (st.ev X))=false:=by
     intro l
     induction l with
     |nil=>intro j h;simpa using h
     |cons v l ih=>
      intro j h;simp only[AV.mr,ck]at h;cases j with
      |zero=>simp only[fq,AV.mr,q9,h.2,aK]
      |succ j=>simp only[ft,AV.mr,h.1,ih h.2,aK]
    exact this Ee
   have ahI:xs.length=gV:=by
    rw[jH]at hys;simpa[Value.cells]using hys
   refine fin (.sg (ys.set j (st.ev X))) (.agg ((xs.set j (a.eval x)).map (·.cells.toList)).flatten.toArray) (by simp only[fN];exact⟨_,Ns ab2,rfl⟩) (by simpa[AV.refs]using hyr) (by rw[ah0];simp[Value.cells,ahI]) (by omega) ?_ hf;have e3:∀l:List Value,(Value.agg l.toArray).cells.toList=l:=fun l=>by simp[Value.cells]
   have hcx:(a.eval x).cells.toList=[a.eval x]:=by rw[gD afv]
   rw[jH,ah0,e3,e3,hcx];rw[fJ,af (by omega)];simp
  exact hq.elim
 exact hq.elim
def ahf(h:At n0 S0 M0 w0 st o a w g){sz:Nat}{X:Ax.X}{f:St→Prop}(ho:o.op=.store t p x)(hd:o.dst=none)(hp:gG P u1 p=some A)(hx:gG P u2 x=some X)
  (hz:kx P t=some sz) (hq:Li (st.ev A) (st.ev X) st sz f):o.wp P a w (km n0 S0 M0 w0 st.n f) Q':=by
 unfold Li at hq
 split at hq
 ·next id el j e1=>
  split at hq;exact acg h ho hd hp hx hz e1 hq;exact ab5 h ho hd hp hx hz (by rw[e1];exact hq)
 ·next e1=>exact ab5 h ho hd hp hx hz (by rw[e1];exact hq)
 ·next id j e1=>exact ab7 h ho hd hp hx hz e1 hq
 ·next id e1=>exact agI h ho hd hp hx hz e1 hq
 exact hq.elim
variable {z:D}{d sz:Nat}
def WZ{wv:Wv}{l:Nat}{ps:List (Nat×X)}:(CC wv d sz z l ps).dst=some d:=by
 unfold CC
 split<;>rfl
def S9{wv:Wv}{l:Nat}{ps:List (Nat×X)}(h:¬(wv=.sb∧sz=3)):(CC wv d sz z l ps).xQ=true:=by
 unfold CC
 split;rfl;exact absurd ⟨rfl,rfl⟩ h;rfl
variable {len:Nat}
def agl{wv:Wv}(h:At n0 S0 M0 w0 st o a w g){d sz:Nat}{ps:Array (Nat×Operand)}{z:D}{L:List (Nat×X)}(ho:o.op=.buildSlice t len ps)(ht:P.underlying t=some (.slice e))
  (hs:kx P e=some sz) (hz:kY P e=some z) (hL:ps.toList.mapM (fun(i,x)=>do pure (i,←gG P e x))=some L)
  (hq:ES P (CC wv d sz z len L) st.ev st.unit k):o.wp P a w (jV n0 S0 M0 w0 st o.dst k) Q':=by
 unfold CC at hq
 split at hq
 ·obtain⟨q1,hk⟩:=hq;have Ik:ps= #[]:=by
   obtain⟨_,b2⟩:=yE h ps.toList [] hL;have:ps.toList=[]:=by simpa using b2.symm
   apply aR
   simpa using this
  subst Ik;have lW:=h.sat;have HZ:n0≤w.heap.size:=by rw[lW.base];exact lW.size
  unfold kx at hs;cases rJ:P.info? e with
  |none=>simp[rJ]at hs
  |some inf=>
   unfold kY at hz;rw[rJ]at hz
   dsimp only at hz
   split at hz
   ·next zv Nm=>
    obtain⟨hU,hV⟩:=h.us.wide (h':=w.heap.push (.cells #[] e (0,0))) (by simp) (fun b hb=>mh hb) HZ [] (by simp);have hH:(execOp a.eval o).run P w=.ok (.value (.slice (some ⟨w.heap.size,0,none⟩) 0 0)) (w.alloc (.cells #[] e)):=by
     simp[execOp,ho,Instr.buildSlice,bo ht,sizeOf,typeInfo,rJ,newRow,Instr.fill];congr 2
     try (apply aR;simp)
    unfold Oper.wp;rw[hH];refine⟨_,[],hk,fun _=>?_⟩;rw[lp];have hS:k9 n0 S0 M0 w0 st a (w.alloc (.cells #[] e)):=by
     refine⟨lW.ms,lW.v8,lW.tm,lW.base,lW.os,lW.tape,lW.output,?_,?_,_,hU,fun t=>hV _ _ (h.rep t)⟩
     ·have:=lW.size
      show _≤(w.heap.push _).size
      simp;omega
     intro b hb hm;have:(w.heap.push (.cells #[] e (0,0)))[b]?=w.heap[b]?:=mh (by omega);exact this.trans (lW.jL b hb hm)
    refine jY hS hU (fun t=>hV _ _ (h.rep t)) (fun i hi=>h.dst i hi) ?_;simp only[fN];exact⟨_,rfl,by simp,by simp⟩
   cases hz
 exact hq.elim;exact ako h ho ht hs hz hL hq
def DB{g:Gh}:∀{items:List AV} {bs:List UInt8} {vs:List Value},qr items=some bs→fT h us g items vs→
  ∃ns:List Int,vs=ns.map (Value.int .u8)∧bs=ns.map fun n=>UInt8.ofNat n.toNat
 | [],bs,vs,hb,hv=>by
  simp only[qr,oS]at hb;simp only[fT]at hv;subst hb hv;exact⟨[],rfl,rfl⟩
 |x::r,bs,vs,hb,hv=>by
  simp only[fT]at hv;obtain⟨v,vr,rfl,h1,h2⟩:=hv;simp only[qr]at hb
  split at hb
  ·next b br e1 e2=>
   simp only[oS]at hb;subst hb;obtain⟨ns,rfl,rfl⟩:=DB e2 h2;unfold V9 at e1
   split at e1
   ·next t n=>
    simp only[oS]at e1;subst e1;have:=kj h1;exact⟨n::ns,by simp[this],by simp⟩
   cases e1
  cases hb
def Mi(ns:List Int):∀s:ByteArray,ns.foldl (fun r n=>r.push (UInt8.ofNat n.toNat)) s=⟨s.data++(ns.map fun n=>UInt8.ofNat n.toNat).toArray⟩:=by
 induction ns with
 |nil=>intro s;simp
 |cons n ns ih=>
  intro s;simp only[de,ih,lC];congr 1
  apply aR
  simp[ByteArray.push]
def OK:∀ns:List Int,((ns.map (Value.int .u8)).map (·.cells.toList)).flatten=ns.map (Value.int .u8)
 | []=>rfl
 |n::ns=>by
  have:=OK ns;simp only[lC,bV,this]
  rfl
def ahy(h:At n0 S0 M0 w0 st o a w g){s:TypeId}{X:Ax.X}(ho:o.op=.convert s t x)(hx:gG P s x=some X)(hs:P.underlying s=some (.slice e))(ht:P.underlying t=some .string)(hu:UR P e=true)
  (hq:GP (st.ev X) st.unit k):o.wp P a w (jV n0 S0 M0 w0 st o.dst k) Q':=by
 have ex:=h.ev_ hx;have he:P.underlying e=some (.int .u8):=by
  unfold UR at hu
  split at hu
  ·next k hk=>
   have:k=.u8:=by simpa using hu
   subst this;exact hk
  cases hu
 unfold GP at hq
 split at hq
 ·next id len e1=>
  rw[e1]at ex;unfold Kd at hq
  split at hq
  ·next sz items jm=>
   obtain⟨⟨rfl,rfl⟩,hk⟩:=hq;unfold MA at hk
   split at hk
   ·next bs hb=>
    have hm:=f7 jm;have hU:=h.us.each _ hm;simp only[jn]at hU;obtain⟨_,b,c,ty,vs,rest,r1,r2,r3,r4,r5,r6⟩:=hU;simp only[fN]at ex;obtain⟨gV,iT,b',x1,x2,x3,x4⟩:=ex;rw[r1]at x3;obtain rfl:=aD x3;obtain⟨ns,rfl,rfl⟩:=DB hb r4;have hlen:items.length=ns.length:=by
     have:∀{items:List AV} {vs:List Value},fT w.heap st.us g items vs→vs.length=items.length:=by
      intro items
      induction items with
      |nil=>intro vs hv;simp only[fT]at hv;simp[hv]
      |cons y items ih=>intro vs hv;simp only[fT]at hv;obtain⟨v,r,rfl,_,h2⟩:=hv;simp[ih h2]
     have:=this r4;simpa using this.symm
    have jH:=OK ns;rw[jH]at r6;have ah1:(loadCells ⟨b,0,none⟩ items.length).run P w=.ok (ns.map (Value.int .u8)).toArray w:=by
     have:=run_loadCells_list (P:=P) (w:=w) ⟨b,0,none⟩ (ns.map (Value.int .u8)) (fun j v hj=>by
      rw[dM,dU w b _ c ty (0,0) r2];have hj':c.toList[j]?=some v:=by
       rw[r6,bL];exact hj;exact(bj.1 hj).1
      simpa using hj')
     simpa[hlen]using this
    have hH:(execOp a.eval o).run P w=.ok (.value (.string ⟨(ns.map fun n=>UInt8.ofNat n.toNat).toArray⟩)) w:=by
     have h1:=run_convert_bytes_string (P:=P) w s t e (some ⟨b,0,none⟩) items.length items.length hs he ht;have h2:=run_bytesToString (P:=P) w ⟨b,0,none⟩ items.length items.length ns ah1;rw[Mi]at h2;simp[execOp,ho,x4,h1,h2]
     try rfl
    exact h.pure_ hH (kt rfl) hk
   exact hk.elim
  exact hq.elim
 exact hq.elim
variable {r:oT}
def QV(h:x6 P d e=some r):r.xQ=true:=by
 unfold x6 at h
 split at h
 ·injection h with h;subst h;rfl
 simp only[oD,oB,oP,oS]at h;obtain⟨s,hs,z,hz,rfl⟩:=h
 rfl
def Y3{E:TypeId}(h:aeD P e=some E):∃i,P.info? e=some i∧i.zero=some (.agg #[.pointer none,.slice none 0 0])∧P.underlying E=some (.int .u8):=by
 unfold aeD at h
 split at h
 ·next fs i h1 h2=>
  split at h
  ·next f0 f1 h3=>
   split at h
   ·next t E' h4 h5=>
    split at h
    ·next hc=>
     injection h with h;subst h;simp only[bA]at hc;refine⟨i,h2,?_,?_⟩
     ·have hz:=hc.2;unfold FF at hz
      split at hz
      ·next cs sC=>
       split at hz
       ·next l c hl=>
        simp only[bA,aU]at hz;obtain⟨rfl,rfl⟩:=hz;rw[sC];congr 2
        apply aR
        simpa using hl
       cases hz
      cases hz
     have hu:=hc.1.2;unfold UR at hu
     split at hu
     ·next k hk=>
      have:k=.u8:=by simpa using hu
      subst this;exact hk
     cases hu
    cases h
   cases h
  cases h
 cases h
def aes(h:At n0 S0 M0 w0 st o a w g){e:TypeId}(ho:o.op=.alloc e)(hr:x6 P d e=some r)(hq:ES P r st.ev st.unit k):
  o.wp P a w (jV n0 S0 M0 w0 st o.dst k) Q'∧r.dst=some d:=by
 unfold x6 at hr
 split at hr
 ·next E hE=>
  injection hr with hr;subst hr;obtain⟨Nt,hk⟩:=hq;obtain⟨i,hi,hz,_⟩:=Y3 hE;refine⟨?_,rfl⟩;refine nx h (c:= #[.pointer none,.slice none 0 0]) (e:=e) (v:=.pointer (some ⟨w.heap.size,0,none⟩)) [w.heap.size] 1 ?_ rfl ?_ ?_ hk (fun _=>Nt);simp[execOp,ho,Instr.alloc,zeroValue,typeInfo,hi,hz,newVar,newRow,Value.cells];intro _;simp only[jn,jh];exact⟨w.heap.size,[],rfl,rfl,.pointer none,.slice none 0 0,lJ _ _,.inl rfl,.inl ⟨rfl,rfl,rfl⟩⟩;intro _;simp only[fN];exact⟨_,_,_,w.heap.size,bD,by simp[jh],rfl⟩
 simp only[oD,oB,oP,oS]at hr;obtain⟨s,hs,z,hz,rfl⟩:=hr;exact⟨agq h ho hz hq,rfl⟩
def abC{es:List D}{G:List Nat}{cs:List Value}{sz off:Nat}(Cc:gt h es G cs)(hs:∀d∈es,d.size=sz)(hb:off+len≤es.length):
  ∃F2 c2,gt h ((es.drop off).take len) F2 c2∧(∀x∈F2,x∈G)∧c2.length=len*sz∧∃c1 c3,cs=c1++(c2++c3)∧c1.length=off*sz:=by
 have he:es=es.take off++((es.drop off).take len++(es.drop off).drop len):=by rw[bu,bu]
 have alD:gt h (es.take off++((es.drop off).take len++(es.drop off).drop len)) G cs:=by rw[←he];exact Cc
 obtain⟨F1,F23,c1,c23,g1,g2,s1,R2⟩:=alD.split;obtain⟨F2,F3,c2,c3,rfl,rfl,s2,s3⟩:=R2.split;refine⟨F2,c2,s2,fun x hx=>by rw[g1];simp[hx],?_,c1,c3,g2,?_⟩
 ·rw[s2.length,D.gk (sz:=sz) fun d hd=>hs d (bt (aY hd)),a8,ca,bh (by omega)]
 rw[s1.length,D.gk (sz:=sz) fun d hd=>hs d (aY hd),a8,bh (by omega)]
def gQ.more(hu:gQ h n0 S0 M0 us g){F:List Nat}(hF:∀b∈F,b<h.size∧(b<n0→S0 b)∧b∉fp g us):
  gQ h n0 S0 M0 us {g with Sh:=fun b=>g.Sh b∨b∈F}∧∀av v,fN h us g av v→fN h us {g with Sh:=fun b=>g.Sh b∨b∈F} av v:=by
 have kA:∀t b,b<h.size→g.ok t b→({g with Sh:=fun b=>g.Sh b∨b∈F}:Gh).ok t b:=fun t b _ hb=>hb.imp Or.inl id;refine⟨⟨hu.keys,hu.nodup,hu.lt,hu.low,hu.dead,?_,?_,hu.fz,hu.AB⟩,fun av v hr=>fN.mono (g:=g) (g':={g with Sh:=fun b=>g.Sh b∨b∈F}) (fun x hx=>hx) (fun _ _=>rfl) (fun _ _=>⟨rfl,rfl,rfl⟩) kA hr⟩
 ·intro b hb;rcases hb with hb|hb
  exact hu.sh b hb;exact hF b hb
 intro x hx;exact jn.mono (g:=g) (g':={g with Sh:=fun b=>g.Sh b∨b∈F}) hx (fun x hx=>hx) (fun _ _=>rfl) (fun _ _=>⟨rfl,rfl,rfl⟩) rfl (fun b _ hb=>Or.inl hb) kA (hu.each x hx)
def DK(g g':Gh)(us us':List (Nat×U))(F:List Nat):Prop:=∀b∈F,g.Sh b∨(b∈fp g us∧b∉fp g' us')
variable {av:AV}{g0:Gh}{tm:Nat→Value}
def L5{iz:St}(h0:gQ h n0 S0 M0 iz.us g0){st:St}{g:Gh}{k:D→St→Prop}(T:jK h n0 S0 M0 iz st tm g0 g)(hr:fN h iz.us g0 av v)(hk:io st av (XK k)):
  ∃d gp g' F,k d gp∧jK h n0 S0 M0 iz gp tm g0 g'∧gJ h d F v.cells.toList∧d.fits v∧DK g g' st.us gp.us F∧(∀b,g'.Sh b↔g.Sh b)∧∀b,b∈fp g' gp.us→b∈fp g st.us:=by
 obtain⟨own,d,gp,g',F,hk,T',r1,r2,⟨o1,o2⟩,o4,j7⟩:=nP h0 T hr hk;refine⟨d,gp,g',F,hk,T',r1,r2,fun b hb=>?_,o4,j7⟩;cases own with
 |true=>exact .inr ⟨((o1 rfl).2 b hb).2.2.2,((o1 rfl).2 b hb).2.2.1⟩
 |false=>exact .inl ((o4 b).1 (o2 rfl b hb))
mutual
def adu{iz:St}(h0:gQ h n0 S0 M0 iz.us g0):∀{av:AV} {v:Value} {st:St} {g:Gh} {k:D→St→Prop},jK h n0 S0 M0 iz st tm g0 g→fN h iz.us g0 av v→wS st av k→
  ∃d gp g' F,k d gp∧jK h n0 S0 M0 iz gp tm g0 g'∧gJ h d F v.cells.toList∧d.fits v∧DK g g' st.us gp.us F∧(∀b,g'.Sh b↔g.Sh b)∧∀b,b∈fp g' gp.us→b∈fp g st.us
 |.sm i off len,v,st,g,k,T,hr,hk=>by
  simp only[wS,QM]at hk
  split at hk
  ·next ow nn sz es jm=>
   obtain⟨⟨rfl,rfl⟩,hk⟩:=hk;have hm:=f7 jm;have ho:=T.us.each _ hm;obtain⟨u0,Gz,lF⟩:=T.mem _ _ hm;simp only[fN]at hr;obtain⟨ow0,Sx,EU,KR,q1,q2,q3⟩:=hr;have:=h0.uniq Gz q1;subst this;simp only[U.xK]at lF;obtain⟨rfl,hlen⟩:=lF;obtain⟨gb,_,gc⟩:=T.gh _ _ hm;have jS:∀b,b∈fp (g.drop i) (st.del i).us→b∈fp g st.us:=fun b hb=>(kw (g:=g) (g':=g.drop i) (fun j hj=>by simp[Gh.drop,hj])).subset hb;simp only[jn]at ho;obtain⟨nJ,hs,ho⟩:=ho;rcases ho with⟨p1,rfl,p3,p4⟩|⟨b,c,e,G,cs,rest,k1,k2,k3,k4,k5,k6,k7,k8⟩
   ·have hv:v=.slice none 0 0:=by
     rcases q3 with⟨b,q3,_⟩|⟨_,_,_,q3⟩
     rw[←gb,p1]at q3;cases q3;exact q3
    subst hv;refine⟨_,st.del i,g.drop i,[],hk,T.del i,?_,rfl,by simp[DK],fun _=>bw,jS⟩;unfold gJ;exact .inl ⟨none,by simp[Value.cells],rfl,rfl,fun _=>p4,by simp⟩
   have hv:v=.slice (some ⟨b,0,none⟩) es.length (g.cap i):=by
    rcases q3 with⟨b',q3,q4⟩|⟨q3,_⟩
    rw[←gb,k1]at q3;obtain rfl:=aD q3;rw[←gc]at q4;simpa using q4;rw[←gb,k1]at q3;cases q3
   subst hv;have rh:=k6.length;rw[D.gk hs]at rh;have hle:=aZ EU k5;refine⟨_,st.del i,g.drop i,b::G,hk,T.del i,?_,rfl,?_,fun _=>bw,jS⟩
   ·unfold gJ;refine .inr ⟨b,0,g.cap i,c,e,(0,0),G,by simp[Value.cells],rfl,k7,k5,nJ,k2,by rw[k4];omega,hs,?_⟩;rw[aJ,k3,←rh,bZ];exact k6;rfl
   have nK:∀x∈g.φ i,x∈fp g st.us∧x∉fp (g.drop i) (st.del i).us:=fun x hx=>⟨gn.2 ⟨_,hm,hx⟩,sQ T.us hm x hx⟩;intro x hx;cases ow with
   |true=>
    simp only[ay]at k8;exact .inr (nK x (by rw[k8];exact hx))
   |false=>
    simp only[mI,aA]at k8;rcases ab.1 hx with rfl|hx
    exact .inr (nK x (by rw[k8.1];simp));exact .inl (k8.2 x hx)
  exact hk.elim
 |.sg vs,v,st,g,k,T,hr,hk=>by
  simp only[wS]at hk;simp only[fN]at hr;obtain⟨xs,h1,rfl⟩:=hr;obtain⟨ds,gp,g',F,hk,T',r1,s1,q1,f1,_⟩:=BX h0 T h1 hk;simp only[tkG]at hk;refine⟨_,gp,g',F,hk,T',?_,⟨_,rfl⟩,s1,q1,f1⟩;obtain⟨z1,z2⟩:=tf r1;unfold gJ;exact⟨z2,by simpa[Value.cells]using z1⟩
 |.im t d,v,st,g,k,T,hr,hk=>L5 h0 T hr (by simpa only[wS]using hk)
 |.tr i,v,st,g,k,T,hr,hk=>L5 h0 T hr (by simpa only[wS]using hk)
 |.cw i el j sz agg,v,st,g,k,T,hr,hk=>L5 h0 T hr (by simpa only[wS]using hk)
 |.pw _ _ _,v,st,g,k,T,hr,hk=>by simp[wS]at hk
 |.vb _ _,v,st,g,k,T,hr,hk=>by simp[wS]at hk
 |.lf _,v,st,g,k,T,hr,hk=>by simp[wS]at hk
 |.any,v,st,g,k,T,hr,hk=>by simp[wS]at hk
 |.cl _ _,v,st,g,k,T,hr,hk=>by simp[wS]at hk
 |.pq _ _ _ _ _ _,v,st,g,k,T,hr,hk=>by simp[wS]at hk
 |.qs _ _ _ _ _ _,v,st,g,k,T,hr,hk=>by simp[wS]at hk
 |.ss _ _ _,v,st,g,k,T,hr,hk=>by simp[wS]at hk
 |.z0 _ _,v,st,g,k,T,hr,hk=>by simp[wS]at hk
 |.pb _ _,v,st,g,k,T,hr,hk=>by simp[wS]at hk
 |.ps _,v,st,g,k,T,hr,hk=>by simp[wS]at hk
def BX{iz:St}(h0:gQ h n0 S0 M0 iz.us g0):∀{avs:List AV} {vs:List Value} {st:St} {g:Gh} {k:List D→St→Prop},jK h n0 S0 M0 iz st tm g0 g→fT h iz.us g0 avs vs→tZ st avs k→
  ∃ds gp g' F,k ds gp∧jK h n0 S0 M0 iz gp tm g0 g'∧gt h ds F (vs.map (·.cells.toList)).flatten∧DK g g' st.us gp.us F∧(∀b,g'.Sh b↔g.Sh b)∧(∀b,b∈fp g' gp.us→b∈fp g st.us)∧vs.map (·.cells.size)=ds.map D.size
 | [],vs,st,g,k,T,hr,hk=>by
  simp only[fT]at hr;subst hr;simp only[tZ]at hk;exact⟨[],st,g,[],hk,T,by simp[gt],by simp[DK],fun _=>bw,fun _ hb=>hb,rfl⟩
 |av::avs,vs,st,g,k,T,hr,hk=>by
  simp only[fT]at hr;obtain⟨v,r,rfl,h1,h2⟩:=hr;simp only[tZ]at hk;obtain⟨d,sta,ga,F1,hk,Ta,r1,_,s1,q1,f1⟩:=adu h0 T h1 hk;obtain⟨ds,stb,gb,F2,hk,Tb,r2,s2,q2,f2,z2⟩:=BX h0 Ta h2 hk;simp only[tkD]at hk;refine⟨d::ds,stb,gb,F1++F2,hk,Tb,?_,fun b hb=>?_,fun b=>(q2 b).trans (q1 b),fun b hb=>f1 b (f2 b hb),by have:=r1.length;simp at this;simp[z2,this]⟩;simp only[lC,bV,jX];exact⟨F1,F2,_,_,rfl,rfl,r1,r2⟩;rcases an.1 hb with hb|hb
  ·rcases s1 b hb with h|⟨h,h'⟩
   exact .inl h;exact .inr ⟨h,fun h3=>h' (f2 b h3)⟩
  rcases s2 b hb with h|⟨h,h'⟩
  exact .inl ((q1 b).1 h);exact .inr ⟨f1 b h,h'⟩
end
def afa(hms:∀b,b<n0→M0 b→S0 b)(h0:gQ w.heap n0 S0 M0 st.us g)(jQ:∀t,fN w.heap st.us g (lk st.env t) (tm t)){k:List D→St→Prop}(hr:fN w.heap st.us g av v)(hk:Vh st sz av k):
  ∃ds gp g' F news,k ds gp∧jK w.heap n0 S0 M0 st gp tm g g'∧gt w.heap ds F news∧(∀b∈F,g'.Sh b)∧
   ((∀d∈ds,d.size=sz)→0<sz→Dat w sz v ds.length news):=by
 have T:=jK.refl h0 jQ;have part:∀{i off len:Nat} {ow:Bool} {nn:Option Bool} {usz:Nat} {es:List D},(i,U.ar ow nn usz es)∈st.us→off+len≤es.length→
   ((∃b o,g.β i=some b∧(0<len→o=off*usz)∧∃cap,v=.slice (some ⟨b,o,none⟩) len cap)∨(g.β i=none∧len=0∧∃cap,v=.slice none len cap))→Hg (lu st.us i) off len sz st k→
   ∃ds gp g' F news,k ds gp∧jK w.heap n0 S0 M0 st gp tm g g'∧gt w.heap ds F news∧(∀b∈F,g'.Sh b)∧((∀d∈ds,d.size=sz)→0<sz→Dat w sz v ds.length news):=by
  intro i off len ow nn usz es hm hlen hv hk;unfold Hg at hk
  split at hk
  ·next jR nf es' jm=>
   obtain⟨rfl,hk⟩:=hk;have:=h0.uniq hm (f7 jm);injection this with e1 e2 e3 e4;subst e1 e2 e3 e4;have ho:=h0.each _ hm;simp only[jn]at ho;obtain⟨nJ,hs,ho⟩:=ho;have hl:((es.drop off).take len).length=len:=by rw[a8,ca,bh (by omega)]
   rcases hv with⟨b,q,hb,hq,cap,rfl⟩|⟨hb,rfl,cap,rfl⟩
   ·rcases ho with⟨z,_⟩|⟨b',c,e,G,cs,rest,k1,k2,k3,k4,k5,k6,k7,k8⟩
    rw[hb]at z;cases z;rw[hb]at k1;obtain rfl:=aD k1;simp only[mI,aA]at k8;obtain⟨F2,c2,p1,p2,p3,c1,c3,p4,p5⟩:=abC k6 hs hlen;refine⟨_,st,g,F2,c2,hk,T,p1,fun x hx=>k8.2 x (p2 x hx),fun _ _=>?_⟩;rw[hl];refine⟨_,_,rfl,p3,fun h0=>⟨_,rfl,fun j u hj=>?_⟩⟩;rw[hq h0,dM,dU w b _ c e (0,0) k2];rw[←cE,k3,p4,bC,dA (by omega),p5,Nat.add_sub_cancel_left,bC,bL (bj.1 hj).1];exact hj
   refine⟨_,st,g,[],[],hk,T,by simp[gt],by simp,fun _ _=>?_⟩;rw[hl];exact⟨_,_,rfl,by simp,by simp⟩
  exact hk.elim
 unfold Vh at hk
 split at hk
 ·next i len=>
  unfold shV at hk
  split at hk
  ·next yR items jm=>
   obtain⟨⟨rfl,rfl⟩,hk⟩:=hk;have hm:=f7 jm;have ho:=h0.each _ hm;simp only[fN]at hr;obtain⟨als,iT,b,r1,r2,r3,rfl⟩:=hr;have:=h0.uniq hm r1;injection this with e1 e2;subst e1 e2;simp only[jn]at ho;obtain⟨nJ,b',c,e,vs,rest,k1,k2,k3,k4,k5,k6⟩:=ho;rw[r3]at k1;obtain rfl:=aD k1;obtain⟨ds,gp,g',F,hk,T',p1,p2,p3,p4,_⟩:=BX h0 (T.del i) k4 hk;have jS:∀b,b∈fp (g.drop i) (st.del i).us→b∈fp g st.us:=fun b hb=>(kw (g:=g) (g':=g.drop i) (fun j hj=>by simp[Gh.drop,hj])).subset hb;have hFl:=p1.lt;obtain⟨hU,hV⟩:=T'.us.more (F:=F.filter fun b=>!(fp g' gp.us).contains b) (fun b hb=>by
    obtain⟨hb,hn⟩:=aQ.1 hb;simp only[bH,cp,cK]at hn;refine⟨hFl b hb,fun iq=>?_,hn⟩;rcases p2 b hb with q|⟨q,_⟩
    exact(h0.sh b q).2.1 iq;exact hms b iq (h0.low b (jS b q) iq))
   refine⟨ds,gp,_,F,_,hk,⟨hU,fun t=>hV _ _ (T'.rep t),T'.n,T'.mem,T'.gh,fun b hb=>.inl (T'.sh b hb),T'.fp⟩,p1,fun b hb=>?_,fun hs sF=>?_⟩
   ·rcases p2 b hb with q|⟨_,q⟩
    exact .inl ((p3 b).2 q);exact .inr (aQ.2 ⟨hb,by simpa using q⟩)
   have l1:=p1.length;rw[D.gk hs]at l1;have l2:(vs.map (·.cells.toList)).flatten.length=vs.length*yR:=by
    have:∀vs:List Value,(∀v∈vs,v.cells.size=yR)→(vs.map (·.cells.toList)).flatten.length=vs.length*yR:=by
     intro vs
     induction vs with
     |nil=>simp
     |cons x vs ih=>
      intro hx;simp only[lC,bV,lP,cV,lK,hx x (by simp),ih fun y hy=>hx y (by simp[hy]),aT];omega
    exact this vs (k5 sF)
   have l3:=oV k4;have l4:ds.length=items.length:=by
    rw[l2,l3]at l1;exact(fx sF l1).symm
   rw[l4];refine⟨_,_,rfl,by rw[l2,l3],fun _=>⟨_,rfl,fun j u hj=>?_⟩⟩;rw[dM,dU w b _ c e (0,0) k2,aa];rw[←cE,k6];rw[bL (bj.1 hj).1];exact hj
  exact hk.elim
 ·next nn gV ds=>
  obtain⟨rfl,hk⟩:=hk;simp only[fN]at hr;obtain⟨F,r1,r2,r3⟩:=hr;obtain⟨F',news,q1,q2,q3,q4⟩:=Ae rfl r1 r2;exact⟨ds,st,g,F',news,hk,T,q1,fun b hb=>ni (r3 b (q2 b hb)),fun _ _=>q4⟩
 ·next i off len=>
  simp only[fN]at hr;obtain⟨ow,nn,usz,es,r1,r2,r3⟩:=hr;refine part r1 r2 ?_ hk;rcases r3 with⟨b,h1,h2⟩|⟨h1,_,h3,h4⟩
  ·exact .inl ⟨b,_,h1,fun _=>rfl,_,h2⟩
  exact .inr ⟨h1,h3,0,by rw[h4,h3]⟩
 ·next i off len=>
  simp only[fN]at hr;obtain⟨ow,nn,usz,es,r1,r2,r3⟩:=hr;refine part r1 r2 ?_ hk;rcases r3 with⟨b,q,h1,h2,h3⟩|⟨h1,h3,h4⟩
  ·refine .inl ⟨b,q,h1,fun hl=>h2 ?_,_,h3⟩;have ho:=h0.each _ r1;simp only[jn]at ho;rcases ho.2.2 with⟨z,_⟩|⟨b',c,e,G,cs,rest,k1,k2,k3,k4,k5,_⟩
   rw[h1]at z;cases z;omega
  exact .inr ⟨h1,h3,0,by rw[h4,h3]⟩
 exact hk.elim
def ab8(h:At n0 S0 M0 w0 st o a w g){c:Call}{e:TypeId}{s:Operand}{i:TypeInfo}{z:D}{X Y:Ax.X}{d:Nat}{f:St→Prop}(ho:o.op=.call c)(hc:c.callee=.builtin .append)(ha:c.args= #[s,x])(tE:c.argTypes= #[t,t])
    (ht:P.underlying t=some (.slice e)) (hi:P.info? e=some i) (hz:kY P e=some z) (hX:gG P t s=some X) (hY:gG P t x=some Y) (hd:o.dst=some d)
    (hq:Vh st i.size (st.ev Y) (ME X d i.size i.bytes f)):o.wp P a w (km n0 S0 M0 w0 st.n f) Q':=by
  have hs:=h.sat;have HZ:n0≤w.heap.size:=by rw[hs.base];exact hs.size
  obtain⟨zv,Nm,KU⟩:∃zv,i.zero=some zv∧zv.cells.size=i.size:=by
    unfold kY at hz;rw[hi]at hz
    dsimp only at hz
    split at hz
    · next z' Sa =>
      split at hz
      · next jP=>exact⟨z',Sa,jP⟩
      · cases hz
    · cases hz
  obtain⟨ds,gp,g',F,news,hk,T,p1,p2,p5⟩:=afa hs.ms h.us h.rep (h.ev_ hY) hq;have ex:fN w.heap gp.us g' (gp.ev X) (a.eval s):=J1 T.rep hX;simp only[ME]at hk;have run:∀{ao:Option Addr} {n cap:Nat} {olds:List Value},a.eval s=.slice ao n cap→Src w.heap i.size ao n cap olds→(∀d∈ds,d.size=i.size)→0<i.size→n+ds.length≤gz→(n+ds.length)*i.bytes≤140737488355328→
      (∀(v':Value)(w':World),w'.os=w.os→w'.tape=w.tape→w'.output=w.output→
        ((ds.length=0∧v'=.slice ao n cap∧w'=w)∨
       (∃b off c e0,0<ds.length∧ao=some ⟨b,off,none⟩∧n+ds.length≤cap∧v'=.slice ao (n+ds.length) cap∧w.heap[b]?=some (.cells c e0 (0,0))∧off+cap*i.size≤c.size∧olds=(c.toList.drop off).take (n*i.size)∧
          w'=w.setRow b (c.toList.take (off+n*i.size)++news++c.toList.drop (off+n*i.size+news.length)).toArray)∨
       (∃ cap' c' rest, 0 < ds.length ∧ v' = .slice (some ⟨w.heap.size, 0, none⟩) (n + ds.length) cap' ∧ n + ds.length ≤ cap' ∧ c'.size = cap' * i.size ∧ c'.toList = (olds ++ news) ++ rest ∧ w'.heap = w.heap.push (.cells c' e (0, 0)))) →
        km n0 S0 M0 w0 st.n f (a.put o.dst v') w')→o.wp P a w (km n0 S0 M0 w0 st.n f) Q':=by
    intro ao n cap olds hv vn XT h0 nJ oL Xf;obtain⟨v',w',hH,e1,e2,e3,oz⟩:=OC (P:=P) (w:=w) (ty:=o.type) ht hi Nm KU vn (p5 XT h0) p1.one nJ oL;unfold Oper.wp;have pB:(execOp a.eval o).run P w=.ok (.value v') w':=by
      rw[←hv]at hH;simp[execOp,ho,resolve,hc,ha,tE,invoke,builtin,hH,Result.andThen]
    rw[pB];exact Xf v' w' e1 e2 e3 oz
  have fin:∀{env:List (Nat×AV)} {us:List (Nat×U)} {g1:Gh} {w':World} {v':Value} {id:Nat} {u:U} {av:AV},(∀t,fN w.heap us g1 (lk env t) (a.tmps.getD t undef))→w'.os=w.os→w'.tape=w.tape→w'.output=w.output→
      (∃g2,gQ w'.heap n0 S0 M0 ((id,u)::us) g2∧(∀av x,fN w.heap us g1 av x→fN w'.heap ((id,u)::us) g2 av x)∧fN w'.heap ((id,u)::us) g2 av v'∧w.heap.size≤w'.heap.size∧(∀b,b<n0→¬M0 b→w'.heap[b]?=w.heap[b]?))→
      f ((⟨st.n,env,(id,u)::us⟩:St).set d av)→km n0 S0 M0 w0 st.n f (a.put o.dst v') w':=by
    rintro env us g1 w' v' id u av hv e1 e2 e3 ⟨g2,hU,hV,hr,jP,hold⟩ hf;have hS:k9 n0 S0 M0 w0 ⟨st.n,env,(id,u)::us⟩ a w':=by
      refine⟨hs.ms,hs.v8,hs.tm,hs.base,e1.trans hs.os,e2.trans hs.tape,e3.trans hs.output,cB hs.size jP,?_,g2,hU,fun t=>hV _ _ (hv t)⟩;intro b hb hm;rw[hold b hb hm];exact hs.jL b hb hm
    refine⟨_,?_,hf,?_⟩
    · rfl
    · have := jY hS hU (fun t => hV _ _ (hv t)) (d := o.dst) (fun j hj => h.dst j hj) hr
      rw[hd]at this⊢;exact this
  have hTn:gp.n=st.n:=T.n;unfold O6 at hk
  split at hk
  · next id off len e1 =>
    unfold Pr at hk
    split at hk
    · next ow nn usz es jm =>
      obtain⟨⟨rfl,q0,rfl,afA,q4,q1,q2,q3⟩,hf⟩:=hk;obtain⟨xN,Nu⟩:=JV afA;generalize alt:wi len es=t9 at xN Nu q4 hf;have hm:=f7 jm;have hU:=T.us.each _ hm;rw[e1]at ex;simp only[fN]at ex;obtain⟨ow',jR,gV,es',x1,x2,x3⟩:=ex;have:=T.us.uniq hm x1;injection this with z1 z2 z3 z4;subst z1 z2 z3 z4;have T2:=T.del id;have oK:id∉(gp.del id).us.map (·.1):=by
        show id∉(gu id (AV.refs id) gp.us).map (·.1)
        rw[gI];simp[aQ]
      have j7:∀x∈g'.φ id,x∈fp g' gp.us:=fun x hx=>gn.2 ⟨_,hm,hx⟩;have OS:=sQ T.us hm;have KV:f ((⟨st.n,(gp.del id).env,(id,U.ar false (gT nn ds) i.size (t9++ds))::(gp.del id).us⟩:St).set d (.sm id 0 (t9.length+ds.length))):=by
        rw[←hTn,xN];exact hf
      simp only[jn]at hU;obtain⟨nJ,Ce,hU⟩:=hU;rcases hU with⟨y1,rfl,y3,y4⟩|⟨b,cc,ee,G,cs,rest,y1,y2,y3,y4,y5,y6,y7,y8⟩
      · have afB:t9=[]:=by
          obtain⟨zs,hz⟩:=Nu.1;exact(eD.1 hz.symm).1
        subst afB;obtain rfl:len=0:=xN.symm;have hv:a.eval s=.slice none 0 0:=by
          rcases x3 with⟨b,x3,_⟩|⟨_,_,_,x3⟩
          · rw[y1]at x3;cases x3
          · exact x3
        refine run (olds:=[]) hv (.inl ⟨rfl,rfl,rfl⟩) q3 q0 (by simpa using q2) (by simpa using q1) fun v' w' e1 e2 e3 oz=>?_;have tG:=Di (w:=w) (rest:=[]) T2.us HZ oK q0 (es:=[]) (G:=[]) (olds:=[]) (nn:=nn) (cap:=0) (by simp[gt]) (by simp) p1 q3 (by simpa using q2) (.inl ⟨rfl,rfl,rfl,rfl,rfl,y4⟩) (ow:=false)
          (fun e=>by cases e) (fun _=>fun x hx=>p2 x (by simpa using hx)) (fun e k v hk me=>by
              subst e;obtain⟨z1,z2⟩:=T.us.AB k v hk ⟨_,me▸hm,rfl⟩;rw[←me,y1]at z1 z2;exact⟨fun h=>by simpa using z1 h,fun _ h=>absurd rfl h⟩) (e:=e) (v':=v') (w':=w') (by simpa using oz)
        refine fin T2.rep e1 e2 e3 tG ?_;exact KV
      · obtain ⟨zs, KU⟩ := Nu.1
        rw[KU]at y6;obtain⟨G1,G2,c1,c2,rfl,rfl,y6,_⟩:=gt.split y6;have Ce:∀d∈t9,d.size=i.size:=fun d hd=>Ce d (by rw[KU];simp[hd])
        have y5 : t9.length ≤ g'.cap id := by have : es.length = t9.length + zs.length := by rw [KU, lP]
                                              omega
        rw[bC]at y3;have hv:a.eval s=.slice (some ⟨b,0,none⟩) t9.length (g'.cap id):=by
          rw[xN];rcases x3 with⟨b',x3,x4⟩|⟨x3,_⟩
          · rw [y1] at x3
            obtain rfl:=aD x3;simpa using x4
          · rw[y1]at x3;cases x3
        have rh:=y6.length;rw[D.gk Ce]at rh;have hle:=aZ i.size y5;have vn:Src w.heap i.size (some ⟨b,0,none⟩) t9.length (g'.cap id) c1:=by
          refine .inr ⟨b,0,cc,ee,rfl,y5,y2,by omega,?_⟩;rw[aJ,y3,←rh,bZ]
          rfl
        have Cd:b∈g'.φ id:=by
          cases ow
          · simp only[mI,aA]at y8;rw[y8.1];simp
          · simp only[ay]at y8;rw[y8];simp
        have hG1:∀x∈G1,g'.Sh x:=by
          intro x hx;rcases q4 with rfl|rfl
          · simp only [mI, aA] at y8
            exact y8.2 x (by simp[hx])
          · simp only [gt] at y6
            rw[y6.1]at hx;cases hx
        refine run hv vn q3 q0 (by rw[xN];exact q2) (by rw[xN];exact q1) fun v' w' e1 e2 e3 oz=>?_;have hbG:b∉G1:=fun hb=>(T.us.sh b (hG1 b hb)).2.2 (j7 b Cd);have R4:b∉F:=fun hb=>(T.us.sh b (p2 b hb)).2.2 (j7 b Cd);have tG:=Di (w:=w) (rest:=c2++rest) T2.us HZ oK q0 (es:=t9) (G:=G1) (olds:=c1) (nn:=nn) (cap:=g'.cap id) y6 Ce p1 q3 (by rw[xN];exact q2)
          (.inr ⟨b,cc,ee,rfl,y2,y4,y3,y5,y7,OS b Cd,fun hb=>(T.us.sh b hb).2.2 (j7 b Cd),fun hb=>T.us.low b (j7 b Cd) hb,by rw[an];exact fun hb=>hb.elim hbG R4⟩) (ow:=false)
          (fun e=>by cases e)
          (fun _=>by
            intro x hx;rcases an.1 hx with hx|hx
            · exact hG1 x hx
            · exact p2 x hx) (fun e k v hk me => by
              subst e;obtain⟨z1,z2⟩:=T.us.AB k v hk ⟨_,me▸hm,rfl⟩;rw[←me,y1]at z1 z2;exact⟨fun h=>by simpa using z1 h,fun h _=>z2 h (by simp)⟩) (e:=e) (v':=v') (w':=w') oz
        refine fin T2.rep e1 e2 e3 tG ?_;exact KV
    · exact hk.elim
  · exact hk.elim
def aci(h:At n0 S0 M0 w0 st o a w g){sz:Nat}{X:Ax.X}{f:St→Prop}(ho:o.op=.store t p x)(hd:o.dst=none)(hp:gG P u1 p=some A)(hx:gG P u2 x=some X)
  (hz:kx P t=some sz) (hq:zF (st.ev A) (st.ev X) st sz f):o.wp P a w (km n0 S0 M0 w0 st.n f) Q':=by
 unfold zF at hq
 split at hq
 ·next i off len e1=>
  split at hq
  ·next id el j e2=>exact acg h ho hd hp hx hz e2 (by rw[e1];exact hq)
  ·next id j e2=>exact ab7 h ho hd hp hx hz e2 (by rw[e1];exact hq)
  exact hq.elim
 exact ahf h ho hd hp hx hz hq
def lY(hu:gQ h n0 S0 M0 us g){ts:List Nat}{d:D}(hr:fN h us g av v)(hd:(av.rd (lu us)).map (fun p=>(p.1.toList,p.2))=some (ts,d)):
  ∃F,gJ h d F v.cells.toList∧d.fits v∧∀b∈F,g.Sh b∨∃k∈ts,b∈g.φ k:=by
 rw[cM]at hd;obtain⟨⟨t,d'⟩,hd,e⟩:=hd;injection e with e1 e2;subst e1 e2;obtain⟨F,r1,r2,r3⟩:=M2 hu hr hd;exact⟨F,r1,r2,fun b hb=>(r3 b hb).imp id fun⟨k,h1,h2⟩=>⟨k,by simp[h1],h2⟩⟩
mutual
def ZM(hu:gQ h n0 S0 M0 us g):∀{av:AV} {v:Value} {ts:List Nat} {d:D},fN h us g av v→av.Ii (lu us)=some (ts,d)→
  ∃F,gJ h d F v.cells.toList∧d.fits v∧∀b∈F,g.Sh b∨∃k∈ts,b∈g.φ k
 |.sg vs,v,ts,d,hr,hd=>by
  simp only[AV.Ii]at hd
  split at hd
  ·next ts' ds ot=>
   rw[cM]at hd;obtain⟨d',hd,e⟩:=hd;injection e with e1 e2;subst e1 e2;unfold sgD at hd
   split at hd
   ·next iy=>
    obtain rfl:=aD hd;simp only[fN]at hr;obtain⟨xs,h1,rfl⟩:=hr;obtain⟨F,q1,q2⟩:=Dc hu h1 ot;refine⟨F,?_,by simp[D.fits,Value.cells],q2⟩;simp only[gJ];rw[aM]at iy;refine⟨fun d hd=>?_,by simpa[Value.cells]using C7 q1⟩;have:=iy d hd;simpa using this
   cases hd
  cases hd
 |.im t d',v,ts,d,hr,hd=>by
  simp only[AV.Ii,oS,cW]at hd;obtain⟨rfl,rfl⟩:=hd;simp only[fN]at hr;obtain⟨F,r1,r2,r3⟩:=hr
  split
  ·next hp=>
   have:=jC hp r1;subst this;exact⟨[],r1,r2,by simp⟩
  refine⟨F,r1,r2,fun b hb=>?_⟩;rcases r3 b hb with h3|⟨k,rfl,h3,_⟩
  exact .inl h3;exact .inr ⟨k,by simp,h3⟩
 |.tr i,v,ts,d,hr,hd=>lY hu hr (by simpa only[AV.Ii]using hd)
 |.pw i el j,v,ts,d,hr,hd=>lY hu hr (by simpa only[AV.Ii]using hd)
 |.cw i el j sz agg,v,ts,d,hr,hd=>lY hu hr (by simpa only[AV.Ii]using hd)
 |.sm i off len,v,ts,d,hr,hd=>lY hu hr (by simpa only[AV.Ii]using hd)
 |.vb i len,v,ts,d,hr,hd=>lY hu hr (by simpa only[AV.Ii]using hd)
 |.lf vs,v,ts,d,hr,hd=>lY hu hr (by simpa only[AV.Ii]using hd)
 |.any,v,ts,d,hr,hd=>lY hu hr (by simpa only[AV.Ii]using hd)
 |.cl f vs,v,ts,d,hr,hd=>lY hu hr (by simpa only[AV.Ii]using hd)
 |.pq i el j iE jj j',v,ts,d,hr,hd=>lY hu hr (by simpa only[AV.Ii]using hd)
 |.qs i el j iE off len,v,ts,d,hr,hd=>lY hu hr (by simpa only[AV.Ii]using hd)
 |.ss i off len,v,ts,d,hr,hd=>lY hu hr (by simpa only[AV.Ii]using hd)
 |.z0 nn sz,v,ts,d,hr,hd=>lY hu hr (by simpa only[AV.Ii]using hd)
 |.pb i j,v,ts,d,hr,hd=>lY hu hr (by simpa only[AV.Ii]using hd)
 |.ps i,v,ts,d,hr,hd=>lY hu hr (by simpa only[AV.Ii]using hd)
def Dc(hu:gQ h n0 S0 M0 us g):∀{avs:List AV} {vs:List Value} {ts:List Nat} {ds:List D},fT h us g avs vs→Jm (lu us) avs=some (ts,ds)→
  ∃F,nQ h ds F vs∧∀b∈F,g.Sh b∨∃k∈ts,b∈g.φ k
 | [],vs,ts,ds,hr,hd=>by
  simp only[Jm,oS,cW]at hd;obtain⟨rfl,rfl⟩:=hd;simp only[fT]at hr;subst hr;exact⟨[],by simp[nQ],by simp⟩
 |av::avs,vs,ts,ds,hr,hd=>by
  simp only[fT]at hr;obtain⟨v,r,rfl,r1,r2⟩:=hr;simp only[Jm]at hd
  split at hd
  ·next t d ts' lQ h1 h2=>
   simp only[oS,cW]at hd;obtain⟨rfl,rfl⟩:=hd;obtain⟨F1,p1,p2,p3⟩:=ZM hu r1 h1;obtain⟨F2,q1,q2⟩:=Dc hu r2 h2;refine⟨F1++F2,vB.2 ⟨F1,F2,v,r,rfl,rfl,p1,p2,q1⟩,fun b hb=>?_⟩;rcases an.1 hb with hb|hb
   ·exact(p3 b hb).imp id fun⟨k,h1,h2⟩=>⟨k,by simp[h1],h2⟩
   exact(q2 b hb).imp id fun⟨k,h1,h2⟩=>⟨k,by simp[h1],h2⟩
  cases hd
end
def xZ{jL:Nat→Prop}:∀{ds:List D} {F:List Nat} {vs:List Value},nQ h ds F vs→(∀b∈F,jL b)→je h jL ds vs
 | [],F,vs,hr,_=>by
  rw[JI]at hr;obtain⟨rfl,rfl⟩:=hr;simp[je]
 |d::ds,F,vs,hr,hF=>by
  rw[vB]at hr;obtain⟨F1,F2,v,r,rfl,rfl,h1,h2,h3⟩:=hr;simp only[je];exact⟨v,r,F1,rfl,h1,h2,fun b hb=>hF b (by simp[hb]),xZ h3 fun b hb=>hF b (by simp[hb])⟩
def CB{g:Gh}{y:AV}:∀{ys:List AV} {vs:List Value},fT h us g (ys++[y]) vs→∃xs v,vs=xs++[v]∧fT h us g ys xs∧fN h us g y v
 | [],vs,hr=>by
  simp only[be,fT]at hr;obtain⟨v,r,rfl,h1,rfl⟩:=hr;exact⟨[],v,rfl,by simp[fT],h1⟩
 |z::ys,vs,hr=>by
  simp only[bf,fT]at hr;obtain⟨v,r,rfl,h1,h2⟩:=hr;obtain⟨xs,x,rfl,h3,h4⟩:=CB h2;exact⟨v::xs,x,rfl,by simp only[fT];exact⟨v,xs,rfl,h1,h3⟩,h4⟩
def D7{f:AV→Bool}:∀{l:List AV},pQ f (pQ f l)=pQ f l
 | []=>rfl
 |v::r=>by
  simp only[pQ,D7 (l:=r)];congr 1;cases hf:f v<;>simp[hf]
def U.GA{f:AV→Bool}{u:U}:(u.kill f).kill f=u.kill f:=by
 cases u<;>simp[U.kill,D7]
def U1(h:At n0 S0 M0 w0 st o a w g){f:Nat}{avs ys:List AV}{vs:List Value}{id k:Nat}{kk:St→Prop}(hH:mN P f→(execOp a.eval o).run P w=.ok (.enter f vs.toArray) w)(hr:fT w.heap st.us g avs vs)
  (he:avs=ys++[.pb id 0]) (hq:aeT (st.unit id) (st.unit k) P o.dst f id k ys st kk):o.wp P a w (km n0 S0 M0 w0 st.n kk) Q':=by
 have hs:=h.sat;have hu:=h.us;have W7:n0≤w.heap.size:=by rw[hs.base];exact hs.size
 unfold aeT at hq
 split at hq
 ·next u v k' n ow nn sz es alE alF=>
  obtain⟨⟨rfl,g9,rfl,H0⟩,ts,ds,es',Ls,hts,⟨rh,hA⟩,hk⟩:=hq;have me:=f7 alE;have hkm:=f7 alF;subst he;obtain⟨vy,vp,rfl,hry,hrp⟩:=CB hr;have ho1:=hu.each _ me;have ho2:=hu.each _ hkm;simp only[jn]at ho1 ho2;obtain⟨_,b,c,e,vs0,rest,i1,i2,i3,i4,i5,i6⟩:=ho1;obtain⟨j1,j2,j3⟩:=ho2;rcases j3 with⟨_,z2,_,z4⟩|⟨b2,c2,e2,G,cs,r2,l1,l2,l3,l4,l5,l6,l7,l8⟩
  exact(H0.elim z4 fun hz=>hz z2).elim;simp only[fT]at i4;obtain⟨x,_,rfl,i4,rfl⟩:=i4;simp only[fN]at i4;obtain⟨ow',jR,gV,KR,m1,m2,m3⟩:=i4;have:=hu.uniq m1 hkm;injection this with q1 q2 q3 q4;subst q1 q2 q3 q4;have hx:x=.slice (some ⟨b2,0,none⟩) KR.length (g.cap k'):=by
   rcases m3 with⟨b3,m3,m4⟩|⟨m3,_⟩
   rw[l1]at m3;obtain rfl:=aD m3;simpa using m4;rw[l1]at m3;cases m3
  subst hx;simp only[fN]at hrp;obtain⟨_,_,b',_,p2,rfl⟩:=hrp;rw[i1]at p2;obtain rfl:=aD p2;have Cd:b∈g.φ id:=by rw[i3];simp
  have Se:∀x∈b::g.φ k',x∈fp g st.us:=by
   intro x hx;rcases ab.1 hx with rfl|hx
   exact gn.2 ⟨_,me,Cd⟩;exact gn.2 ⟨_,hkm,hx⟩
  have R6:b∉g.φ k':=fun hb=>g9 (iA hu.keys hu.nodup hkm me hb Cd);have kn:(b::g.φ k').Nodup:=aH.2 ⟨R6,iZ hu hkm⟩;have Lt:∀i v,(i,v)∈st.us→i≠id→i≠k'→∀x∈g.φ i,x∉b::g.φ k':=by
   intro i v hi h1 h2 x hx H1;rcases ab.1 H1 with rfl|H1
   exact h1 (iA hu.keys hu.nodup hi me hx Cd);exact h2 (iA hu.keys hu.nodup hi hkm hx H1)
  have Nq:∀x,g.Sh x→x∉b::g.φ k':=fun x hx H1=>(hu.sh x hx).2.2 (Se x H1)
  let jL:Nat→Prop:=fun x=>g.Sh x∨(ow'=true∧x<w.heap.size∧x∉b::g.φ k')
  have hL:Z8 w.heap jL ow' gV KR b (g.φ k'):=by
   refine⟨j1,j2,c,e,rest,b2,c2,e2,G,cs,r2,g.cap k',i2,by simpa[Value.cells]using i6,l2,l3,l4,l5,l6,?_⟩
   split
   ·next hw=>rw[af hw]at l8;exact l8
   next hw=>rw[ae hw]at l8;exact⟨l8.1,fun x hx=>.inl (l8.2 x hx)⟩
  have K3:je w.heap jL ds vy:=by
   obtain⟨FV,r1,r2⟩:=Dc hu hry Ls;refine xZ r1 fun x hx=>?_;rcases r2 x hx with r2|⟨t,ht,r2⟩
   exact .inl r2;simp only[ck,bH,cK,eY,Bool.not_eq_false',List.isEmpty_iff]at hts;obtain⟨⟨t1,t2⟩,t3⟩:=hts;have hw:ow'=true:=by
    rcases t3 with t3|t3
    exact t3;subst t3;cases ht
   obtain⟨v,hv⟩:=hu.live r2;exact .inr ⟨hw,hu.lt x (gn.2 ⟨_,hv,r2⟩),Lt t v hv (by rintro rfl;exact t2 ht) (by rintro rfl;exact t1 ht) x r2⟩
  unfold Oper.wp;rw[hH rh,eV];refine(hA w vy jL b (g.φ k') hL kn (fun x hx=>⟨hu.fz x (Se x hx),fun ho=>ho.elim (fun h1=>Nq x h1 hx) fun h1=>h1.2.2 hx⟩) K3).mono ?_;rintro e w' ⟨⟨v,rfl⟩,e1,e2,e3,jP,Em,F',sh',hL',za,hF',alG⟩;obtain⟨y1,y2,c',ty',K1,b2',c2',e2',G',cs',r2',cap',y3,y4,y5,y6,y7,y8,y9,Xo⟩:=hL';have fro:∀i u,(i,u)∈st.us→i≠id→i≠k'→∀x∈g.φ i,w'.heap[x]?=w.heap[x]?:=fun i u hi h1 h2 x hx=>Em x (hu.lt x (gn.2 ⟨_,hi,hx⟩)) (Lt i u hi h1 h2 x hx);have frS:∀x,g.Sh x→w'.heap[x]?=w.heap[x]?:=fun x hx=>Em x (hu.sh x hx).1 (Nq x hx)
  let g2:Gh:=⟨fun i=>if i=k' then some b2' else g.β i,fun i=>if i=k' then F' else g.φ i,g.root,fun i=>if i=k' then cap' else g.cap i,fun x=>g.Sh x∨(ow'=false∧sh' x)⟩
  have gβ:∀i,i≠k'→g2.β i=g.β i:=fun i hi=>by simp[g2,hi]
  have gφ:∀i,i≠k'→g2.φ i=g.φ i:=fun i hi=>by simp[g2,hi]
  have gc:∀i,i≠k'→g2.cap i=g.cap i:=fun i hi=>by simp[g2,hi]
  have gβk:g2.β k'=some b2':=by simp[g2]
  have gφk:g2.φ k'=F':=by simp[g2]
  have gck:g2.cap k'=cap':=by simp[g2]
  generalize H4:(id,U.bx 1 [.sm k' 0 es'.length])::(k',U.ar ow' (some false) gV es')::gu id (nq k' id) (gu k' (nq k' id) st.us)=BL;have wo:id≠k':=fun e=>g9 e.symm;have um1:(id,U.bx 1 [.sm k' 0 es'.length])∈BL:=by rw[←H4];exact bD
  have um2:(k',U.ar ow' (some false) gV es')∈BL:=by rw[←H4];exact bg _ bD
  have XW:∀y∈BL,(y=(id,U.bx 1 [.sm k' 0 es'.length]))∨y=(k',U.ar ow' (some false) gV es')∨(y.1≠id∧y.1≠k'∧∃u,(y.1,u)∈st.us∧y.2=u.kill (nq k' id)):=by
   intro y hy;rw[←H4]at hy;rcases ab.1 hy with hy|hy
   exact .inl hy;rcases ab.1 hy with hy|hy
   exact .inr (.inl hy);obtain⟨a1,u1,a2,a3⟩:=gF hy;obtain⟨a4,u2,a5,a6⟩:=gF a2;simp only at a4 a5 a6;exact .inr (.inr ⟨a1,a4,u2,a5,by rw[a3,a6,U.GA]⟩)
  have K:pe [id] [k'] (nq k' id) w.heap w'.heap st.us BL g g2:=by
   refine⟨?_,?_,fun i hi=>?_,?_,?_,?_⟩
   ·intro av hf;simp only[nq,ck]at hf;exact⟨by simpa using hf.2,by simpa using hf.1⟩
   intro i u hi h1 h2;simp only[au]at h1 h2;rw[←H4];have:=jT (f:=nq k' id) (jT (f:=nq k' id) hi h2) h1;rw[U.GA]at this;simp[this];simp only[au]at hi;exact⟨gβ i hi,rfl,gc i hi⟩;intro i u b0 hi h1 h2 HZ;simp only[au]at h1 h2;exact fro i u hi h1 h2 b0 ((hu.each _ hi).kr HZ)
   ·intro t d FV cs0 h1 h2 hrp kA;simp only[au,forall_eq]at h1 h2;have hx:∀x∈FV,w'.heap[x]?=w.heap[x]?:=by
     intro x hx;rcases kA x hx with q|⟨i,rfl,q,_⟩
     exact frS x q;obtain⟨u,wN⟩:=hu.live q;exact fro i u wN (fun e=>h1 (by rw[e])) (fun e=>h2 (by rw[e])) x q
    refine⟨hrp.frame hx,fun x hx=>?_⟩;rcases kA x hx with q|⟨i,rfl,q,q'⟩
    exact .inl (.inl q);have hik:i≠k':=fun e=>h2 (by rw[e]);exact .inr ⟨i,rfl,by rw[gφ i hik];exact q,by rw[gβ i hik];exact q'⟩
   intro i hi;simp only[au]at hi;subst hi;exact⟨_,_,fun v hv=>hu.uniq hv me,um1,by simp[nE]⟩
  have pS:(BL.map (·.1)).Nodup:=by
   rw[←H4];simp only[lC,aH,gI,ab,aQ];refine⟨by simp[wo],by simp,(hu.keys.filter _).filter _⟩
  have hF'f:∀x∈F',x<w.heap.size→x∈b::g.φ k':=fun x hx iq=>(hF' x (by simp[hx])).2.1 iq;have Nw:∀x∈b::F',x<w'.heap.size:=fun x hx=>by
   obtain⟨q,r,hq⟩:=(hF' x hx).1;exact(bc.1 hq).1
  have SD:∀x,x∈fp g2 BL→x∈b::F'∨∃i u,(i,u)∈st.us∧i≠id∧i≠k'∧x∈g.φ i:=by
   intro x hx;obtain⟨y,hy,kZ⟩:=gn.1 hx;rcases XW y hy with rfl|rfl|⟨n1,n2,u,AE,_⟩
   simp only[gφ id wo,i3]at kZ;exact .inl (by simp at kZ;simp[kZ]);simp only[gφk]at kZ;exact .inl (by simp[kZ]);rw[gφ _ n2]at kZ;exact .inr ⟨y.1,u,AE,n1,n2,kZ⟩
  have hU:gQ w'.heap n0 S0 M0 BL g2:=by
   refine⟨pS,nh pS ?_ ?_,?_,?_,?_,?_,?_,?_,?_⟩
   ·intro y hy;rcases XW y hy with rfl|rfl|⟨n1,n2,u,AE,_⟩
    simp only[gφ id wo,i3];simp;simp only[gφk];exact(aH.1 za).2;rw[gφ _ n2];exact iZ hu AE
   ·intro y hy z hz x kZ xS;have out:∀i u,(i,u)∈st.us→i≠id→i≠k'→x∈g.φ i→x∉b::F':=by
     intro i u hi n1 n2 hx hxf;have:=(hF' x hxf).2.1 (hu.lt x (gn.2 ⟨_,hi,hx⟩));exact Lt i u hi n1 n2 x hx this
    have R4:b∉F':=(aH.1 za).1;rcases XW y hy with rfl|rfl|⟨n1,n2,u,AE,_⟩<;>rcases XW z hz with rfl|rfl|⟨n3,n4,u',Bq,_⟩
    rfl
    simp only[gφ id wo,i3,au]at kZ;simp only[gφk]at xS;subst kZ;exact absurd xS R4;simp only[gφ id wo,i3,au]at kZ;rw[gφ _ n4]at xS;exact absurd (by simp[kZ]) (out _ _ Bq n3 n4 xS);simp only[gφ id wo,i3,au]at xS;simp only[gφk]at kZ;subst xS;exact absurd kZ R4;rfl;simp only[gφk]at kZ;rw[gφ _ n4]at xS;exact absurd (by simp[kZ]) (out _ _ Bq n3 n4 xS);simp only[gφ id wo,i3,au]at xS;rw[gφ _ n2]at kZ;exact absurd (by simp[xS]) (out _ _ AE n1 n2 kZ);simp only[gφk]at xS;rw[gφ _ n2]at kZ;exact absurd (by simp[xS]) (out _ _ AE n1 n2 kZ);rw[gφ _ n2]at kZ;rw[gφ _ n4]at xS;exact iA (x:=(y.1,u)) (y:=(z.1,u')) hu.keys hu.nodup AE Bq kZ xS
   ·intro x hx;rcases SD x hx with hx|⟨i,u,hi,_,_,hx⟩
    exact Nw x hx;have:=hu.lt x (gn.2 ⟨_,hi,hx⟩);omega
   ·intro x hx iq;rcases SD x hx with hx|⟨i,u,hi,_,_,hx⟩
    exact hu.low x (Se x ((hF' x hx).2.1 (by omega))) iq;exact hu.low x (gn.2 ⟨_,hi,hx⟩) iq
   ·intro i hi;have hik:i≠k':=fun e=>hi (aB.2 ⟨_,um2,e.symm⟩);have hii:i≠id:=fun e=>hi (aB.2 ⟨_,um1,e.symm⟩);rw[gφ i hik];refine hu.dead i fun hm=>hi ?_;obtain⟨y,hy,rfl⟩:=aB.1 hm;exact aB.2 ⟨_,K.mem y.1 y.2 hy (by simpa using hii) (by simpa using hik),rfl⟩
   ·intro x hx;rcases hx with hx|⟨hw,hx⟩
    ·obtain⟨q1,q2,q3⟩:=hu.sh x hx;refine⟨by omega,q2,fun hf=>?_⟩;rcases SD x hf with hf|⟨i,u,hi,_,_,hf⟩
     exact q3 (Se x ((hF' x hf).2.1 q1));exact q3 (gn.2 ⟨_,hi,hf⟩)
    obtain⟨q1,q2⟩:=alG x hx;have q2':x<w.heap.size→g.Sh x∨x∈b::g.φ k':=fun iq=>by
     rcases q2 iq with(q|⟨q,_⟩)|q
     exact .inl q;rw[hw]at q;cases q;exact .inr q
    refine⟨q1,fun iq=>?_,fun hf=>?_⟩
    ·rcases q2' (by omega)with q|q
     exact(hu.sh x q).2.1 iq;exact hs.ms x iq (hu.low x (Se x q) iq)
    rcases SD x hf with hf|⟨i,u,hi,n1,n2,hf⟩
    exact(hF' x hf).2.2 hx;rcases q2' (hu.lt x (gn.2 ⟨_,hi,hf⟩))with q|q
    exact(hu.sh x q).2.2 (gn.2 ⟨_,hi,hf⟩);exact Lt i u hi n1 n2 x hf q
   ·intro y hy;rcases XW y hy with rfl|rfl|⟨n1,n2,u,AE,hy2⟩
    ·simp only[jn];refine⟨by simp[gz],b,c',ty',[.slice (some ⟨b2',0,none⟩) es'.length cap'],K1,by rw[gβ id wo];exact i1,y3,by rw[gφ id wo];exact i3,?_,by simp[Value.cells],by simpa[Value.cells]using y4⟩;simp only[fT];refine⟨_,_,rfl,?_,rfl⟩;simp only[fN];exact⟨ow',some false,gV,es',um2,by omega,.inl ⟨b2',gβk,by rw[gck];simp⟩⟩
    ·simp only[jn];refine⟨y1,y2,.inr ⟨b2',c2',e2',G',cs',r2',gβk,y5,y6,by rw[gck];exact y7,by rw[gck];exact y8,y9,by simp,?_⟩⟩;rw[gφk]
     split
     ·next hw=>rw[af hw]at Xo;exact Xo
     next hw=>rw[ae hw]at Xo;exact⟨Xo.1,fun x hx=>.inr ⟨by simpa using hw,Xo.2 x hx⟩⟩
    rw[hy2];exact(hu.each _ AE).qN K AE (by simpa using n1) (by simpa using n2) (gφ _ n2) (fun x hx=>fro _ _ AE n1 n2 x hx) (fun x hx=>⟨.inl hx,frS x hx⟩)
   ·intro x hx;rcases SD x hx with hx|⟨i,u,hi,n1,n2,hx⟩
    exact(hF' x hx).1;obtain⟨q,r,hq⟩:=hu.fz x (gn.2 ⟨_,hi,hx⟩);exact⟨q,r,by rw[fro i u hi n1 n2 x hx];exact hq⟩
   refine hu.AB.mono fun i u hm yY=>?_;rcases XW _ hm with e0|e0|⟨n1,n2,u0,AE,hy2⟩
   ·injection e0 with e0 e0';subst e0;exact⟨⟨_,me,rfl⟩,gβ _ wo,gc _ wo⟩
   ·injection e0 with e0 e0';subst e0';simp[U.kb]at yY
   simp only at hy2 n2;rw[hy2,U.sD]at yY;exact⟨⟨_,AE,yY⟩,gβ _ n2,gc _ n2⟩
  have jQ:∀t,fN w'.heap BL g2 (lk (jp (nq k' id) st.env) t) (a.tmps.getD t undef):=fun t=>kp K.rep (h.rep t);have hS:k9 n0 S0 M0 w0 (st.HT id k' es' ow' gV) a w':=by
   refine⟨hs.ms,hs.v8,hs.tm,hs.base,e1.trans hs.os,e2.trans hs.tape,e3.trans hs.output,cB hs.size jP,?_,g2,?_,?_⟩
   ·intro x hx hM;rw[Em x (by omega) fun hxf=>hM (hu.low x (Se x hxf) hx)];exact hs.jL x hx hM
   simp only[St.HT];rw[H4];exact hU;simp only[St.HT];rw[H4];exact jQ
  refine⟨_,?_,hk,jY hS (g:=g2) ?_ ?_ h.dst (by simp[fN])⟩
  ·cases o.dst<;>rfl
  simp only[St.HT];rw[H4];exact hU;simp only[St.HT];rw[H4];exact jQ
 exact hq.elim
def ahw(h:At n0 S0 M0 w0 st o a w g){d sz:Nat}{ps:Array (Nat×Operand)}{z:D}{L:List (Nat×X)}{f:St→Prop}(ho:o.op=.buildSlice t len ps)(ht:P.underlying t=some (.slice e))
  (hs:kx P e=some sz) (hz:kY P e=some z) (hL:ps.toList.mapM (fun(i,x)=>do pure (i,←gG P e x))=some L) (hd:o.dst=some d)
  (hq:PV (L.map fun p=>(p.1,st.ev p.2)) st d sz len f):o.wp P a w (km n0 S0 M0 w0 st.n f) Q':=by
 obtain⟨b1,b2⟩:=yE h ps.toList L hL;have lW:=h.sat;have HZ:n0≤w.heap.size:=by rw[lW.base];exact lW.size
 obtain⟨⟨q1,q0,q2⟩,hq⟩:=hq;obtain⟨ds,gp,g',F,hk,T,s1,s2,s3,s4,s5⟩:=BX h.us (jK.refl h.us h.rep) (by simpa[bF]using b1) hq;obtain⟨⟨ot,Em⟩,hk⟩:=hk;unfold kx at hs;cases rJ:P.info? e with
 |none=>simp[rJ]at hs
 |some inf=>
  simp only[rJ,dJ,oS]at hs;unfold kY at hz;rw[rJ]at hz
  dsimp only at hz
  split at hz
  ·next zv Nm=>
   have hlen:ps.toList.length=len:=by
    have:=congrArg List.length q1;have h2:=congrArg List.length b2;simp at this h2;simp[←h2,this]
   have afx:ps.toList.map (·.1)=List.range' 0 ps.toList.length:=by
    rw[←b2,hlen,←fA,←q1];simp[bF]
   generalize Ln:(ps.toList.map fun p=>a.eval p.2)=vs at s1 s5 b1;have OR:vs.length=len:=by rw[←Ln];simpa using hlen
   have yZ:ds.length=len:=by
    have:=congrArg List.length s5;simp at this;omega
   have v2:∀v∈vs,v.cells.size=sz:=by
    intro v hv;have h1:v.cells.size∈vs.map (·.cells.size):=aB.2 ⟨v,hv,rfl⟩;rw[s5]at h1;obtain⟨x,hx,e1⟩:=aB.1 h1;rw[←e1];exact ot x hx
   have HY:(ps.toList.map fun p=>(p.1,a.eval p.2))=(vs.zipIdx 0).map fun x=>(x.2,x.1):=by
    have:=zx (ps.toList.map fun p=>(p.1,a.eval p.2)) 0 (by simpa[bF]using afx);rw[←Ln];simpa[bF]using this
   subst hs;have hH:∃cs':Array Value,(execOp a.eval o).run P w=.ok (.value (.slice (some ⟨w.heap.size,0,none⟩) len len)) (w.alloc (.cells cs' e))∧cs'.toList=(vs.map (·.cells.toList)).flatten:=by
    by_cases h0:len=0
    ·subst h0;have Ik:ps= #[]:=by apply aR;simpa using dp hlen
     have hv0:vs=[]:=dp OR;refine⟨#[],?_,by simp[hv0]⟩;subst Ik;simp[execOp,ho,Instr.buildSlice,bo ht,sizeOf,typeInfo,rJ,newRow,Instr.fill];congr 2
     try (apply aR;simp)
    have KZ:((Array.range (len*inf.size)).map (zv.cells[· % zv.cells.size]!)).toList.length=len*inf.size:=by simp
    obtain⟨cs',f1,f2⟩:=B3 (uk:=fun i=>some (i*inf.size,inf.size)) (z:=((Array.range (len*inf.size)).map (zv.cells[· % zv.cells.size]!)).toList) (off:=fun i=>i*inf.size)
     ((vs.zipIdx 0).map fun x=>(x.2,x.1)) 0 ((Array.range (len*inf.size)).map (zv.cells[· % zv.cells.size]!)) [] (by simp) rfl (by omega)
     (by
      intro p hp;obtain⟨x,hx,rfl⟩:=aB.1 hp;have:x.1∈vs:=by
       have:=List.mem_zipIdx' hx;rw[this.2];exact aF _
      simp only[v2 _ this])
     (by
      rw[KZ];have:=ro (n:=len*inf.size) vs 0 v2 (by rw[OR];simp);simpa[bF]using this)
    have sC:cs'.toList=(vs.map (·.cells.toList)).flatten:=by
     have:=M1 (z:=((Array.range (len*inf.size)).map (zv.cells[· % zv.cells.size]!)).toList) vs 0 v2;rw[et]at this;rw[f2];simp only[be,cR,bF];rw[this,bO (by rw[KZ,OR,aa];exact aw _),aI]
    have BH:¬len*inf.size=0:=by
     intro h';rcases Nat.mul_eq_zero.1 h' with h'|h'<;>omega
    have hH:=run_buildSlice (P:=P) w t e len (ps.map fun p=>(p.1,a.eval p.2)) cs' inf zv ht rJ Nm (by omega) BH (by rw[er,HY];exact f1);refine⟨cs',?_,sC⟩;simp only[execOp,ho,bS,hH]
    rfl
   obtain⟨cs',hH,sC⟩:=hH;have hFl:=s1.lt;obtain⟨hU,hV⟩:=T.us.more (F:=F.filter fun b=>!(fp g' gp.us).contains b) (fun b hb=>by
    obtain⟨hb,hn⟩:=aQ.1 hb;simp only[bH,cp,cK]at hn;refine⟨hFl b hb,fun iq=>?_,hn⟩;rcases s2 b hb with q|⟨q,_⟩
    exact(h.us.sh b q).2.1 iq;exact lW.ms b iq (h.us.low b q iq))
   have hFs:∀b∈F,g'.Sh b∨b∈F.filter fun b=>!(fp g' gp.us).contains b:=fun b hb=>by
    rcases s2 b hb with q|⟨_,q⟩
    exact .inl ((s3 b).2 q);exact .inr (aQ.2 ⟨hb,by simpa using q⟩)
   generalize hg1:({g' with Sh:=fun b=>g'.Sh b∨b∈F.filter fun b=>!(fp g' gp.us).contains b}:Gh)=g1 at hU hV;have alH:∀b∈F,g1.Sh b:=fun b hb=>by rw[←hg1];exact hFs b hb
   have oK:d∉gp.us.map (·.1):=jy (by simpa[St.fresh,tO]using Em);have hl:=s1.length;rw[D.gk ot]at hl;have alI:cs'.size=len*inf.size:=by
    have:cs'.size=cs'.toList.length:=by simp
    rw[this,sC,hl,yZ]
   obtain⟨Nn,W8⟩:=hU.Xb (h':=(w.alloc (.cells cs' e)).heap) oK (u:=.ar false (some false) inf.size ds) (β:=some w.heap.size) (φ:=[w.heap.size]) (root:=undef) (cap:=len)
    (by show _ ≤ (w.heap.push _).size; simp) (fun b hb => mh (hb.elim (hU.lt b) fun hb => (hU.sh b hb).1)) (by simp) (fun b hb => by
     rw[au]at hb;subst hb;exact⟨by show _<(w.heap.push _).size;simp,fun iq=>by omega,fun hb=>dt _ (hU.sh _ hb).1,fun hb=>dt _ (hU.lt _ hb),cs',e,lJ _ _⟩)
    (by
     intro _;simp only[jn,jh];have hlm:len≤len*inf.size:=fB _ q0;refine⟨by rw[yZ];simp[gz];omega,ot,.inr ⟨w.heap.size,cs',e,F,(vs.map (·.cells.toList)).flatten,[],rfl,lJ _ _,by rw[sC,aI],alI,by omega,by have:=s1.frame (h':=(w.alloc (.cells cs' e)).heap) fun b hb=>mh (hFl b hb);exact this,by simp,?_⟩⟩;simp only[mI,aA];exact⟨trivial,alH⟩) (by simp[U.kb])
   have hTn:gp.n=st.n:=T.n;unfold Oper.wp;rw[hH];have hold:∀b,b<n0→¬M0 b→(w.alloc (.cells cs' e)).heap[b]?=w0.heap[b]?:=fun b hb hm=>by
    have:(w.heap.push (.cells cs' e (0,0)))[b]?=w.heap[b]?:=mh (by omega);exact this.trans (lW.jL b hb hm)
   have hS:k9 n0 S0 M0 w0 ⟨st.n,gp.env,(d,.ar false (some false) inf.size ds)::gp.us⟩ a (w.alloc (.cells cs' e)):=by
    refine⟨lW.ms,lW.v8,lW.tm,lW.base,lW.os,lW.tape,lW.output,?_,hold,_,Nn,fun t=>W8 _ _ (hV _ _ (T.rep t))⟩;have:=lW.size
    show _≤(w.heap.push _).size
    simp;omega
   have mM:f ((⟨st.n,gp.env,(d,.ar false (some false) inf.size ds)::gp.us⟩:St).set d (.sm d 0 len)):=by
    rw[←hTn];simpa[St.kc]using hk
   refine⟨(⟨st.n,gp.env,(d,.ar false (some false) inf.size ds)::gp.us⟩:St).set d (.sm d 0 len),rfl,mM,?_⟩;have:=jY hS Nn (fun t=>W8 _ _ (hV _ _ (T.rep t))) (d:=o.dst) (fun j hj=>h.dst j hj) (av:=.sm d 0 len) (v:=.slice (some ⟨w.heap.size,0,none⟩) len len) (by
    simp only[fN];exact⟨false,some false,inf.size,ds,bD,by omega,.inl ⟨w.heap.size,by simp[jh],by simp[jh]⟩⟩)
   rw[hd]at this⊢;exact this
  cases hz
def acs(h:At n0 S0 M0 w0 st o a w g){f:Nat}{c:Call}{Xs:List X}{kk:St→Prop}(ho:o.op=.call c)(hc:c.callee=.value (.func f))(hl:c.args.size=c.argTypes.size)
  (hx:(c.args.toList.zip c.argTypes.toList).mapM (fun p=>gG P p.2 p.1)=some Xs) (hq:Kn P o.dst f Xs st kk):o.wp P a w (km n0 S0 M0 w0 st.n kk) Q':=by
 obtain⟨gp,hE,hq⟩:=hq;have hS:=hE _ _ _ _ _ _ h.sat;have hn:gp.n=st.n:=hS.tm.symm.trans h.sat.tm;obtain⟨g',hU,hR⟩:=hS.gh;have h':At n0 S0 M0 w0 gp o a w g':=⟨hS,hU,hR,by rw[hn];exact h.dst⟩;rw[←hn];rcases hq with hq|⟨ys,id,k,he,hq⟩|hq
 exact ack h' ho hc hl hx hq
 ·refine U1 h' (vs:=c.args.toList.map a.eval) ?_ (xD h'.rep (by simpa using hl) hx) he hq;rintro⟨fn,h1,h2,h3⟩;have EV:¬fn.body=none:=by cases hb:fn.body<;>simp_all
  have Ec : ¬ fn.name = "runtime.NumGoroutine" := by simpa using h3
  have ea:(List.map a.eval c.args.toList).toArray=Array.map a.eval c.args:=by apply aR;simp
  rw[ea];simp[execOp,ho,resolve,hc,Act.eval,Deferred.ofValue,invoke,callFunc,h1,EV,Ec]
 refine dv ?_ (Vt (Q':=Q') h' ho hc hl hx hq);rintro a' w' ⟨av,us,hk,hS⟩;obtain⟨h3,h4⟩:=CO hk;exact⟨_,by cases o.dst<;>rfl,h4,hS h3⟩
variable {P:Program}{wv:Wv}{n0:Nat}{S0 M0:Nat→Prop}{w0:World}
def fP{p:Prop}[Decidable p]{u:Unit}:(guard p:Option Unit)=some u↔p:=by
 unfold guard
 split<;>simp_all
def B0{n:Nat}(fM:tJ P wv n o=some r)(hQ:r.xQ=true)(hn:st.n=n)(h:At n0 S0 M0 w0 st o a w g)(hq:ES P r st.ev st.unit k):
  o.wp P a w (jV n0 S0 M0 w0 st o.dst k) Q'∧r.dst=o.dst:=by
 unfold tJ at fM
 split at fM
 ·next x ho=>
  simp only[oD,oB,oP,oS,fP]at fM;obtain⟨d,hd,_,_,X,hX,rfl⟩:=fM;exact⟨ag9 h (.inl ho) hX hq,hd.symm⟩
 ·next x ho=>
  simp only[oD,oB,oP,oS,fP]at fM;obtain⟨d,hd,_,_,X,hX,rfl⟩:=fM;exact⟨ag9 h (.inr ho) hX hq,hd.symm⟩
 ·next c x y ho=>
  simp only[oD,oB,oP,oS,fP]at fM;obtain⟨d,hd,_,_,C,hC,X,hX,Y,hY,rfl⟩:=fM;exact⟨acI h ho hC hX hY hq,hd.symm⟩
 ·next e x ho=>
  simp only[oD,oB,oP,oS,fP]at fM;obtain⟨d,hd,_,_,s,hs,X,hX,rfl⟩:=fM;exact⟨ahE h ho hX hq,hd.symm⟩
 ·next e ho=>
  simp only[oD,oB,oP,fP]at fM;obtain⟨d,hd,_,_,fM⟩:=fM;obtain⟨h1,h2⟩:=aes h ho fM hq;exact⟨h1,by rw[h2];exact hd.symm⟩
 ·next t x ho=>
  simp only[oD,oB,oP,oS,fP]at fM;obtain⟨d,hd,_,_,s,hs,ag,Ei,_,h1,X,hX,rfl⟩:=fM;exact⟨aj6 h ho hX hs Ei (fun e=>by subst e;simpa using h1) hq,hd.symm⟩
 ·next t p x ho=>
  simp only[oD,oB,oP,oS,fP]at fM;obtain⟨_,_,s,_,A,_,X,_,rfl⟩:=fM;cases wv<;>cases hQ
 ·next x ho=>
  simp only[oD,oB,oP,oS,fP]at fM;obtain⟨d,hd,_,_,X,hX,rfl⟩:=fM;exact⟨agu h ho hX hq,hd.symm⟩
 ·next op t x y u ho=>
  simp only[oD,oB,oP,fP]at fM;obtain⟨d,hd,_,_,fM⟩:=fM
  split at fM<;>(try simp only[oB,oS]at fM);obtain⟨X,hX,Y,hY,rfl⟩:=fM;exact⟨aco h ho hX hY hq,hd.symm⟩;obtain⟨X,hX,Y,hY,rfl⟩:=fM;exact⟨aco h ho hX hY hq,hd.symm⟩
  ·next ht _ _=>obtain⟨X,hX,Y,hY,rfl⟩:=fM;exact⟨acq h ho hX hY (by assumption) (.inl ⟨rfl,rfl⟩) hq,hd.symm⟩
  obtain⟨X,hX,Y,hY,rfl⟩:=fM;exact⟨acq h ho hX hY (by assumption) (.inr ⟨rfl,rfl⟩) hq,hd.symm⟩;obtain⟨X,hX,Y,hY,rfl⟩:=fM;exact⟨TU h ho hX hY (by assumption) (.inl ⟨rfl,rfl⟩) hq,hd.symm⟩;obtain⟨X,hX,Y,hY,rfl⟩:=fM;exact⟨TU h ho hX hY (by assumption) (.inr ⟨rfl,rfl⟩) hq,hd.symm⟩
  ·next fs ht=>
   split at fM<;>(try simp only[oB,oS]at fM)
   ·next kA=>obtain⟨X,hX,Y,hY,rfl⟩:=fM;exact⟨acr h ho hX hY ht kA (.inl ⟨rfl,rfl⟩) hq,hd.symm⟩
   subst fM;cases hQ
  ·next fs ht=>
   split at fM<;>(try simp only[oB,oS]at fM)
   ·next kA=>obtain⟨X,hX,Y,hY,rfl⟩:=fM;exact⟨acr h ho hX hY ht kA (.inr ⟨rfl,rfl⟩) hq,hd.symm⟩
   subst fM;cases hQ
  subst fM;cases hQ
 ·next op t x ho=>
  simp only[oD,oB,oP,oS,fP]at fM;obtain⟨d,hd,_,_,X,hX,rfl⟩:=fM;exact⟨alg h ho hX hq,hd.symm⟩
 ·next s t x ho=>
  simp only[oD,oB,oP,fP]at fM;obtain⟨d,hd,_,_,fM⟩:=fM
  split at fM<;>(try simp only[oB,oS]at fM);obtain⟨X,hX,rfl⟩:=fM;exact⟨ahj h ho hX (by assumption) (by assumption) hq,hd.symm⟩
  ·split at fM<;>simp only[oB,oS]at fM
   obtain⟨X,hX,rfl⟩:=fM;exact⟨ahy h ho hX (by assumption) (by assumption) (by assumption) hq,hd.symm⟩;subst fM;cases hQ
  subst fM;cases hQ
 ·next t l c ho=>
  simp only[oD,oB,oP,oS,fP]at fM;obtain⟨d,hd,_,_,e,he,i,hi,z,hz,L,hL,C,hC,rfl⟩:=fM;have ht:P.underlying t=some (.slice e):=by
   unfold ut at he
   split at he
   ·next e' h'=>injection he with he;subst he;exact h'
   cases he
  exact⟨akp h ho ht hi rfl rfl hz hL hC hq,hd.symm⟩
 ·next t x lo hi ho=>
  simp only[oD,oB,oP,fP]at fM;obtain⟨d,hd,_,_,Lo,Ew,Hi,Ny,fM⟩:=fM;have l1:∀y,lo=some y→∃Y,Lo=some Y∧gG P 0 y=some Y:=by
   rintro y rfl;simp only[cM]at Ew;obtain⟨Y,h1,rfl⟩:=Ew;exact⟨Y,rfl,h1⟩
  have l2:lo=none→Lo=none:=by rintro rfl;simpa using Ew.symm
  have l3:∀y,hi=some y→∃Y,Hi=some Y∧gG P 0 y=some Y:=by
   rintro y rfl;simp only[cM]at Ny;obtain⟨Y,h1,rfl⟩:=Ny;exact⟨Y,rfl,h1⟩
  have l4:hi=none→Hi=none:=by rintro rfl;simpa using Ny.symm
  split at fM<;>simp only[oB,oS]at fM;obtain⟨s,hs,X,hX,rfl⟩:=fM;exact⟨ahr h ho (by assumption) hs hX l1 l2 l3 l4 hq,hd.symm⟩;obtain⟨X,hX,rfl⟩:=fM;exact hq.elim;subst fM;cases hQ
 ·next t x lo hi mx ho=>
  simp only[oD,oB,oP,fP]at fM;obtain⟨d,hd,_,_,fM⟩:=fM
  split at fM
  ·next e ht=>
   split at fM
   ·next XX=>
    simp only[oB,oS]at fM;obtain⟨s,hs,X,hX,rfl⟩:=fM;simp only[bA]at XX;cases hi with
    |none=>simp at XX
    |some hi=>exact hq.elim
   simp only[oS]at fM;subst fM;cases hQ
  simp only[oS]at fM;subst fM;cases hQ
 ·next fn first captured ho=>
  simp only[oD,oB,oP,fP]at fM;obtain⟨d,hd,_,_,fM⟩:=fM
  split at fM
  ·next f hf=>
   simp only[oB,oS]at fM;obtain⟨Xs,H5,rfl⟩:=fM;have KV:first= #[]:=by apply aR;simpa using hf
   subst KV;exact⟨agS h ho H5 hq,hd.symm⟩
  simp only[oS]at fM;subst fM;cases hQ
 ·next t x i ho=>
  simp only[oD,oB,oP,fP]at fM;obtain⟨d,hd,_,_,fM⟩:=fM
  split at fM
  ·next fs ht=>
   simp only[oB,oS,fP]at fM;obtain⟨f,hf,z,hz,_,HV,X,hX,rfl⟩:=fM;exact⟨ajU h ho hX ht hf rfl hz (by simpa using HV) hq,hd.symm⟩
  cases fM
 ·next t x i ho=>
  simp only[oD,oB,oP,fP]at fM;obtain⟨d,hd,_,_,fM⟩:=fM
  split at fM
  ·next fs ht=>
   simp only[oB,oS,fP]at fM;obtain⟨f,hf,s,hs,ag,Ei,_,h1,X,hX,rfl⟩:=fM;exact hq.elim
  cases fM
 ·next t x i ho=>
  simp only[oD,oB,oP,fP]at fM;obtain⟨d,hd,_,_,fM⟩:=fM
  split at fM
  ·next e ht=>
   simp only[oB,oS]at fM;obtain⟨s,hs,X,hX,I,hI,rfl⟩:=fM;exact⟨aj3 h ho hX hI ht hs hq,hd.symm⟩
  simp only[oS]at fM;subst fM;cases hQ
 ·next t x i ho=>
  simp only[oD,oB,oP,fP]at fM;obtain⟨d,hd,_,_,fM⟩:=fM
  split at fM
  ·next ht=>
   simp only[oB,oS]at fM;obtain⟨X,hX,I,hI,rfl⟩:=fM;exact hq.elim
  simp only[oS]at fM;subst fM;cases hQ
 ·next x i ho=>
  simp only[oD,oB,oP,oS,fP]at fM;obtain⟨d,hd,_,_,X,hX,rfl⟩:=fM;exact⟨agN h ho hX hq,hd.symm⟩
 ·next t l ps ho=>
  simp only[oD,oB,oP,oS,fP]at fM;obtain⟨d,hd,_,_,e,he,s,hs,z,hz,L,hL,rfl⟩:=fM;have ht:P.underlying t=some (.slice e):=by
   unfold ut at he
   split at he
   ·next e' h'=>injection he with he;subst he;exact h'
   cases he
  exact⟨agl h ho ht hs hz hL hq,by rw[WZ];exact hd.symm⟩
 ·next t ps ho=>
  simp only[oD,oB,oP,fP]at fM;obtain⟨d,hd,_,_,fM⟩:=fM
  split at fM
  ·next fs ht=>
   simp only[oB,oS]at fM;obtain⟨o6,R9,z,hz,L,hL,rfl⟩:=fM;exact⟨aho h ho ht R9 hz hL hq,hd.symm⟩
  simp only[oS]at fM;subst fM;cases hQ
 ·next c ho=>
  split at fM
  ·next f hc=>
   simp only[oD,oB,fP]at fM;obtain⟨_,_,_,hl,Xs,H5,fM⟩:=fM
   split at fM
   ·split at fM
    simp only[oP,oS]at fM;subst fM;cases hQ;cases fM
   split at fM
   ·split at fM
    simp only[oP,oS]at fM;subst fM;cases hQ;cases fM
   split at fM
   ·split at fM
    simp only[oP,oS]at fM;subst fM;cases hQ;cases fM
   split at fM
   ·split at fM
    simp only[oP,oS]at fM;subst fM;cases hQ;cases fM
   split at fM
   ·simp only[oP,oS]at fM;subst fM;cases wv<;>cases hQ
   simp only[oP,oS]at fM;subst fM;exact⟨Vt h ho hc (by simpa using hl) H5 hq,rfl⟩
  ·next x _ hc=>
   simp only[oD,oB,oP,oS,fP]at fM;obtain⟨_,_,_,hl,X,hX,Xs,H5,rfl⟩:=fM;cases wv with
   |yes=>cases hQ
   |no=>exact⟨GZ h ho hc hX (by simpa using hl) H5 hq,rfl⟩
   |ap=>exact⟨GZ h ho hc hX (by simpa using hl) H5 hq,rfl⟩
   |sh=>exact⟨GZ h ho hc hX (by simpa using hl) H5 hq,rfl⟩
   |sb=>exact⟨GZ h ho hc hX (by simpa using hl) H5 hq,rfl⟩
  ·next hc=>
   simp only[oD,oB,fP]at fM;obtain⟨d,hd,_,_,fM⟩:=fM
   split at fM
   ·next x t ha tE=>
    have vo:c.args= #[x]:=by apply aR;simpa using ha
    have vq:c.argTypes= #[t]:=by apply aR;simpa using tE
    split at fM<;>simp only[oB,oP,oS]at fM;obtain⟨X,hX,rfl⟩:=fM;exact hq.elim;obtain⟨X,hX,rfl⟩:=fM;exact⟨ago h ho hc vo vq hX (by assumption) hq,hd.symm⟩;subst fM;cases hQ
   cases fM
  ·next hc=>
   simp only[oD,oB,fP]at fM;obtain⟨d,hd,_,_,fM⟩:=fM
   split at fM
   ·next x y t u ha tE=>
    have vo:c.args= #[x,y]:=by apply aR;simpa using ha
    simp only[oB,oP,oS]at fM;obtain⟨X,hX,Y,hY,rfl⟩:=fM;exact hq.elim
   cases fM
  ·next hc=>
   simp only[oD,oB,fP]at fM;obtain⟨d,hd,_,_,fM⟩:=fM
   split at fM
   ·next x y t u ha tE=>
    have vo:c.args= #[x,y]:=by apply aR;simpa using ha
    simp only[oB,oP,oS]at fM;obtain⟨X,hX,Y,hY,rfl⟩:=fM;exact hq.elim
   cases fM
  ·next hc=>
   simp only[oD,oB,fP]at fM;obtain⟨d,hd,_,_,fM⟩:=fM
   split at fM
   ·next x y t u ha tE=>
    split at fM<;>simp only[oB,oP,oS,fP]at fM
    ·next e _ ht _=>
     obtain⟨i,hi,_,Nz,z,hz,X,hX,Y,hY,rfl⟩:=fM;cases wv with
     |yes=>cases hQ
     |no=>cases hQ
     |sh=>cases hQ
     |sb=>
      by_cases h3:i.size=3;rw[yn,af h3]at hQ;cases hQ;rw[yn,ae h3]at hQ;cases hQ
     |ap=>
      have vo:c.args= #[x,y]:=by apply aR;simpa using ha
      have vq:c.argTypes= #[t,u]:=by apply aR;simpa using tE
      have Nz:t=u:=by simpa using Nz
      subst Nz;exact hq.elim
    subst fM;cases hQ
   cases fM
  ·next hc=>
   simp only[oD,oB,fP]at fM;obtain⟨_,_,fM⟩:=fM
   split at fM
   ·next x y t u ha tE=>
    have vo:c.args= #[x,y]:=by apply aR;simpa using ha
    have vq:c.argTypes= #[t,u]:=by apply aR;simpa using tE
    split at fM<;>simp only[oB,oP,oS,fP]at fM;obtain⟨s,hs,_,Nz,X,hX,Y,hY,rfl⟩:=fM;cases hQ;subst fM;cases hQ
   cases fM
  simp only[oP,oS]at fM;subst fM;cases hQ
 simp only[oP,oS]at fM;subst fM;cases hQ
variable {f:St→Prop}
def aaw{n:Nat}(fM:tJ P wv n o=some r)(hQ:r.xQ=false)(h:At n0 S0 M0 w0 st o a w g)(hq:abb P r st f):
  o.wp P a w (km n0 S0 M0 w0 st.n f) Q':=by
 unfold tJ at fM
 split at fM
 ·next x ho=>
  simp only[oD,oB,oP,oS,fP]at fM;obtain⟨d,hd,_,_,X,hX,rfl⟩:=fM;cases hQ
 ·next x ho=>
  simp only[oD,oB,oP,oS,fP]at fM;obtain⟨d,hd,_,_,X,hX,rfl⟩:=fM;cases hQ
 ·next c x y ho=>
  simp only[oD,oB,oP,oS,fP]at fM;obtain⟨d,hd,_,_,C,hC,X,hX,Y,hY,rfl⟩:=fM;cases hQ
 ·next e x ho=>
  simp only[oD,oB,oP,oS,fP]at fM;obtain⟨d,hd,_,_,s,hs,X,hX,rfl⟩:=fM;cases hQ
 ·next e ho=>
  simp only[oD,oB,oP,fP]at fM;obtain⟨d,hd,_,_,fM⟩:=fM;rw[QV fM]at hQ;cases hQ
 ·next t x ho=>
  simp only[oD,oB,oP,oS,fP]at fM;obtain⟨d,hd,_,_,s,hs,ag,Ei,_,h1,X,hX,rfl⟩:=fM;cases hQ
 ·next t p x ho=>
  simp only[oD,oB,oP,oS,fP]at fM;obtain⟨_,hd,s,hs,A,hA,X,hX,rfl⟩:=fM;cases wv with
  |sh=>exact aci h ho (by simpa using hd) hA hX hs hq
  |sb=>exact aci h ho (by simpa using hd) hA hX hs hq
  |_=>exact ahf h ho (by simpa using hd) hA hX hs hq
 ·next x ho=>
  simp only[oD,oB,oP,oS,fP]at fM;obtain⟨d,hd,_,_,X,hX,rfl⟩:=fM;cases hQ
 ·next op t x y u ho=>
  simp only[oD,oB,oP,fP]at fM;obtain⟨d,hd,_,_,fM⟩:=fM
  split at fM<;>(try simp only[oB,oS]at fM);obtain⟨X,hX,Y,hY,rfl⟩:=fM;cases hQ;obtain⟨X,hX,Y,hY,rfl⟩:=fM;cases hQ
  ·next ht _ _=>obtain⟨X,hX,Y,hY,rfl⟩:=fM;cases hQ
  obtain⟨X,hX,Y,hY,rfl⟩:=fM;cases hQ;obtain⟨X,hX,Y,hY,rfl⟩:=fM;cases hQ;obtain⟨X,hX,Y,hY,rfl⟩:=fM;cases hQ
  ·split at fM<;>(try simp only[oB,oS]at fM)
   obtain⟨X,hX,Y,hY,rfl⟩:=fM;cases hQ;subst fM;exact hq.elim
  ·split at fM<;>(try simp only[oB,oS]at fM)
   obtain⟨X,hX,Y,hY,rfl⟩:=fM;cases hQ;subst fM;exact hq.elim
  subst fM;exact hq.elim
 ·next op t x ho=>
  simp only[oD,oB,oP,oS,fP]at fM;obtain⟨d,hd,_,_,X,hX,rfl⟩:=fM;cases hQ
 ·next s t x ho=>
  simp only[oD,oB,oP,fP]at fM;obtain⟨d,hd,_,_,fM⟩:=fM
  split at fM<;>(try simp only[oB,oS]at fM);obtain⟨X,hX,rfl⟩:=fM;cases hQ
  ·split at fM<;>simp only[oB,oS]at fM
   obtain⟨X,hX,rfl⟩:=fM;cases hQ;subst fM;exact hq.elim
  subst fM;exact hq.elim
 ·next t l c ho=>
  simp only[oD,oB,oP,oS,fP]at fM;obtain⟨d,hd,_,_,e,he,i,hi,z,hz,L,hL,C,hC,rfl⟩:=fM;have ht:P.underlying t=some (.slice e):=by
   unfold ut at he
   split at he
   ·next e' h'=>injection he with he;subst he;exact h'
   cases he
  cases hQ
 ·next t x lo hi ho=>
  simp only[oD,oB,oP,fP]at fM;obtain⟨d,hd,_,_,Lo,Ew,Hi,Ny,fM⟩:=fM;have l1:∀y,lo=some y→∃Y,Lo=some Y∧gG P 0 y=some Y:=by
   rintro y rfl;simp only[cM]at Ew;obtain⟨Y,h1,rfl⟩:=Ew;exact⟨Y,rfl,h1⟩
  have l2:lo=none→Lo=none:=by rintro rfl;simpa using Ew.symm
  have l3:∀y,hi=some y→∃Y,Hi=some Y∧gG P 0 y=some Y:=by
   rintro y rfl;simp only[cM]at Ny;obtain⟨Y,h1,rfl⟩:=Ny;exact⟨Y,rfl,h1⟩
  have l4:hi=none→Hi=none:=by rintro rfl;simpa using Ny.symm
  split at fM<;>simp only[oB,oS]at fM;obtain⟨s,hs,X,hX,rfl⟩:=fM;cases hQ;obtain⟨X,hX,rfl⟩:=fM;cases hQ;subst fM;exact hq.elim
 ·next t x lo hi mx ho=>
  simp only[oD,oB,oP,fP]at fM;obtain⟨d,hd,_,_,fM⟩:=fM
  split at fM
  ·next e ht=>
   split at fM
   ·next XX=>
    simp only[oB,oS]at fM;obtain⟨s,hs,X,hX,rfl⟩:=fM;simp only[bA]at XX;cases hi with
    |none=>simp at XX
    |some hi=>cases hQ
   simp only[oS]at fM;subst fM;exact hq.elim
  simp only[oS]at fM;subst fM;exact hq.elim
 ·next fn first captured ho=>
  simp only[oD,oB,oP,fP]at fM;obtain⟨d,hd,_,_,fM⟩:=fM
  split at fM
  ·next f hf=>
   simp only[oB,oS]at fM;obtain⟨Xs,H5,rfl⟩:=fM;have KV:first= #[]:=by apply aR;simpa using hf
   subst KV;cases hQ
  simp only[oS]at fM;subst fM;exact hq.elim
 ·next t x i ho=>
  simp only[oD,oB,oP,fP]at fM;obtain⟨d,hd,_,_,fM⟩:=fM
  split at fM
  ·next fs ht=>
   simp only[oB,oS,fP]at fM;obtain⟨f,hf,z,hz,_,HV,X,hX,rfl⟩:=fM;cases hQ
  cases fM
 ·next t x i ho=>
  simp only[oD,oB,oP,fP]at fM;obtain⟨d,hd,_,_,fM⟩:=fM
  split at fM
  ·next fs ht=>
   simp only[oB,oS,fP]at fM;obtain⟨f,hf,s,hs,ag,Ei,_,h1,X,hX,rfl⟩:=fM;cases hQ
  cases fM
 ·next t x i ho=>
  simp only[oD,oB,oP,fP]at fM;obtain⟨d,hd,_,_,fM⟩:=fM
  split at fM
  ·next e ht=>
   simp only[oB,oS]at fM;obtain⟨s,hs,X,hX,I,hI,rfl⟩:=fM;cases hQ
  simp only[oS]at fM;subst fM;exact hq.elim
 ·next t x i ho=>
  simp only[oD,oB,oP,fP]at fM;obtain⟨d,hd,_,_,fM⟩:=fM
  split at fM
  ·next ht=>
   simp only[oB,oS]at fM;obtain⟨X,hX,I,hI,rfl⟩:=fM;cases hQ
  simp only[oS]at fM;subst fM;exact hq.elim
 ·next x i ho=>
  simp only[oD,oB,oP,oS,fP]at fM;obtain⟨d,hd,_,_,X,hX,rfl⟩:=fM;cases hQ
 ·next t l ps ho=>
  simp only[oD,oB,oP,oS,fP]at fM;obtain⟨d,hd,_,_,e,he,s,hs,z,hz,L,hL,rfl⟩:=fM
  by_cases hsb:wv=.sb∧s=3
  ·obtain⟨rfl,rfl⟩:=hsb;have ht:P.underlying t=some (.slice e):=by
    unfold ut at he
    split at he
    ·next e' h'=>injection he with he;subst he;exact h'
    cases he
   exact ahw h ho ht hs hz hL hd hq
  rw[S9 hsb]at hQ;cases hQ
 ·next t ps ho=>
  simp only[oD,oB,oP,fP]at fM;obtain⟨d,hd,_,_,fM⟩:=fM
  split at fM
  ·next fs ht=>
   simp only[oB,oS]at fM;obtain⟨_,_,z,hz,L,hL,rfl⟩:=fM;cases hQ
  simp only[oS]at fM;subst fM;exact hq.elim
 ·next c ho=>
  split at fM
  ·next f hc=>
   simp only[oD,oB,fP]at fM;obtain⟨_,_,_,hl,Xs,H5,fM⟩:=fM
   split at fM
   ·split at fM
    ·next d x y hd=>
     simp only[oP,oS]at fM;subst fM;exact hq.elim
    cases fM
   split at fM
   ·split at fM
    ·next d x y hd=>
     simp only[oP,oS]at fM;subst fM;exact hq.elim
    cases fM
   split at fM
   ·split at fM
    ·next x r=>
     simp only[oP,oS]at fM;subst fM;exact hq.elim
    cases fM
   split at fM
   ·split at fM
    ·next d x hd=>
     simp only[oP,oS]at fM;subst fM;exact hq.elim
    cases fM
   split at fM
   ·simp only[oP,oS]at fM;subst fM;cases wv with
    |sh=>exact acs h ho hc (by simpa using hl) H5 hq
    |sb=>exact acs h ho hc (by simpa using hl) H5 hq
    |_=>exact ack h ho hc (by simpa using hl) H5 hq
   simp only[oP,oS]at fM;subst fM;cases hQ
  ·next x _ hc=>
   simp only[oD,oB,oP,oS,fP]at fM;obtain⟨_,_,_,hl,X,hX,Xs,H5,rfl⟩:=fM;cases wv with
   |yes=>exact hq.elim
   |no=>cases hQ
   |ap=>cases hQ
   |sh=>cases hQ
   |sb=>cases hQ
  ·next hc=>
   simp only[oD,oB,fP]at fM;obtain⟨d,hd,_,_,fM⟩:=fM
   split at fM
   ·next x t ha tE=>
    have vo:c.args= #[x]:=by apply aR;simpa using ha
    have vq:c.argTypes= #[t]:=by apply aR;simpa using tE
    split at fM<;>simp only[oB,oP,oS]at fM;obtain⟨X,hX,rfl⟩:=fM;cases hQ;obtain⟨X,hX,rfl⟩:=fM;cases hQ;subst fM;exact hq.elim
   cases fM
  ·next hc=>
   simp only[oD,oB,fP]at fM;obtain⟨d,hd,_,_,fM⟩:=fM
   split at fM
   ·next x y t u ha tE=>
    have vo:c.args= #[x,y]:=by apply aR;simpa using ha
    simp only[oB,oP,oS]at fM;obtain⟨X,hX,Y,hY,rfl⟩:=fM;cases hQ
   cases fM
  ·next hc=>
   simp only[oD,oB,fP]at fM;obtain⟨d,hd,_,_,fM⟩:=fM
   split at fM
   ·next x y t u ha tE=>
    have vo:c.args= #[x,y]:=by apply aR;simpa using ha
    simp only[oB,oP,oS]at fM;obtain⟨X,hX,Y,hY,rfl⟩:=fM;cases hQ
   cases fM
  ·next hc=>
   simp only[oD,oB,fP]at fM;obtain⟨d,hd,_,_,fM⟩:=fM
   split at fM
   ·next s x t u ha tE=>
    have vo:c.args= #[s,x]:=by apply aR;simpa using ha
    have vq:c.argTypes= #[t,u]:=by apply aR;simpa using tE
    split at fM<;>simp only[oB,oP,oS,fP]at fM
    ·obtain⟨i,hi,_,Nz,z,hz,X,hX,Y,hY,rfl⟩:=fM;have Nz:t=u:=by simpa using Nz
     subst Nz;cases wv with
     |yes=>exact Tu h ho hc vo vq (by assumption) hi hz hX hY hd hq
     |no=>exact Tu h ho hc vo vq (by assumption) hi hz hX hY hd hq
     |ap=>cases hQ
     |sh=>exact ab8 h ho hc vo vq (by assumption) hi hz hX hY hd hq
     |sb=>
      by_cases h3:i.size=3;rw[yn,af h3]at hq;exact ab8 h ho hc vo vq (by assumption) hi hz hX hY hd hq;rw[yn,ae h3]at hq;exact Tu h ho hc vo vq (by assumption) hi hz hX hY hd hq
    subst fM;exact hq.elim
   cases fM
  ·next hc=>
   simp only[oD,oB,fP]at fM;obtain⟨_,_,fM⟩:=fM
   split at fM
   ·next x y t u ha tE=>
    have vo:c.args= #[x,y]:=by apply aR;simpa using ha
    have vq:c.argTypes= #[t,u]:=by apply aR;simpa using tE
    split at fM<;>simp only[oB,oP,oS,fP]at fM
    ·obtain⟨s,hs,_,Nz,X,hX,Y,hY,rfl⟩:=fM;have Nz:t=u:=by simpa using Nz
     subst Nz;exact agX h ho hc vo vq (by assumption) hs hX hY hq
    subst fM;exact hq.elim
   cases fM
  simp only[oP,oS]at fM;subst fM;exact hq.elim
 simp only[oP,oS]at fM;subst fM;exact hq.elim
def oG(n0:Nat)(S0 M0:Nat→Prop)(w0:World)(n:Nat)(K:Exit→St→Prop)(e:Exit)(a:Act)(w:World):Prop:=∃st,st.n=n∧K e st∧k9 n0 S0 M0 w0 st a w
def Gf{st:St}{d:Option Nat}(hk:kq f st d av us):(us=[]∨st.fresh us=true)∧f ((st.kc us).mu d av):=by
 cases us with
 |nil=>rw[lp];exact⟨.inl rfl,hk⟩
 |cons x us=>exact⟨.inr hk.1,hk.2⟩
def JU(fM:tJ P wv st.n o=some r)(hs:k9 n0 S0 M0 w0 st a w)(hd:∀i,o.dst=some i→i<st.n)(hq:tY P r st f):o.wp P a w (km n0 S0 M0 w0 st.n f) Q':=by
 obtain⟨g,hu,hv⟩:=hs.gh;have h:At n0 S0 M0 w0 st o a w g:=⟨hs,hu,hv,hd⟩;unfold tY at hq;cases hQ:r.xQ with
 |true=>
  rw[hQ,af rfl]at hq;obtain⟨h1,h2⟩:=B0 (Q':=Q') fM hQ rfl h hq;refine dv ?_ h1;rintro a' w' ⟨av,us,hk,hS⟩;obtain⟨h3,h4⟩:=Gf hk;rw[h2]at h4;exact⟨_,by cases o.dst<;>rfl,h4,hS h3⟩
 |false=>
  rw[hQ]at hq;exact aaw fM hQ h (by simpa using hq)
variable {ops:Array Oper}
def td{tm:Array Value}{j t:Nat}{p:Oper}{c:Bool}(hp:ops[j]?=some p)(hd:p.dst=some t)(hv:tm.getD t undef=.bool c):yielded ops tm j=some c:=by
 have:tm[t]?=some (.bool c):=by
  rw[bM]at hv;cases h:tm[t]? with
  |none=>rw[h]at hv;cases hv
  |some x=>rw[h]at hv;simpa using hv
 simp[yielded,hp,hd,this]
def ql{g:Gh}:fN h us g (.lf []) undef:=by
 simp only[fN];exact⟨#[],rfl,by simp[fT]⟩
def v5{g:Gh}(hr:fN h us g (.lf []) v):v=undef:=by
 simp only[fN]at hr;obtain⟨xs,rfl,h2⟩:=hr;simp only[fT]at h2;have:xs= #[]:=by apply aR;simpa using h2
 rw[this]
 rfl
def o8{tm:Array Value}{j t:Nat}{p:Oper}(hp:ops[j]?=some p)(hd:p.dst=some t)(hv:tm.getD t undef=undef):yielded ops tm j=none:=by
 unfold yielded;rw[hp,fC,hd,fC];cases h:tm[t]? with
 |none=>rfl
 |some v=>
  have:v=undef:=by rw[←hv,bM,h];rfl
  rw[this]
  rfl
def uF{ops:Array Oper}{R:RO}{f:St→Prop}{st:St}{o:Oper}{a:Act}{w:World}{Q':Exit→Act→World→Prop}(fM:kl P wv st.n ops o=some R)(hs:k9 n0 S0 M0 w0 st a w)
  (hq:match R.g with|none=>tY P R.op st f|some (t,b)=>qO (st.get t) b (tY P R.op st f) (f (st.mu R.op.dst (.lf [])))):
  (Region.wanted o (yielded ops a.tmps)=true→o.wp P a w (km n0 S0 M0 w0 st.n f) Q')∧(Region.wanted o (yielded ops a.tmps)=false→km n0 S0 M0 w0 st.n f (a.put o.dst undef) w):=by
 unfold kl at fM;simp only[oD,oB,fP]at fM;obtain⟨r,hr,_,h1,_,h2,fM⟩:=fM;have hd:∀i,o.dst=some i→i<st.n:=by
  intro i hi;rw[hi]at h2;simpa using h2
 split at fM
 ·next hg=>
  simp only[oP,oS]at fM;subst fM;simp only at hq;refine⟨fun _=>JU hr hs hd hq,fun hw=>?_⟩;simp[Region.wanted,hg]at hw
 next j b hg=>
 simp only[oB,oP,oS]at fM;obtain⟨p,hp,t,ht,rfl⟩:=fM;simp only at hq;unfold qO at hq
 split at hq
 ·next t1 c hc=>
  obtain⟨g,hu,hv⟩:=hs.gh;have En:=hv t;have Ef:lk st.env t=.im t1 (.sc (.bool c)):=hc;rw[Ef]at En;have zc:=kj En;have hy:=td (ops:=ops) hp ht zc;have hw:Region.wanted o (yielded ops a.tmps)=(some c==some b):=by simp[Region.wanted,hg,hy]
  rw[hw];refine⟨fun e=>JU hr hs hd (hq.1 (by simpa using e)),fun e=>?_⟩;have hcb:c=!b:=by cases c<;>cases b<;>simp_all
  have:=hq.2 hcb;rw[h1]at this;exact⟨_,by cases o.dst<;>rfl,this,jY hs hu hv hd ql⟩
 ·next hc=>
  obtain⟨g,hu,hv⟩:=hs.gh;have En:=hv t;have Ef:lk st.env t=.lf []:=hc;rw[Ef]at En;have hw:Region.wanted o (yielded ops a.tmps)=false:=by simp[Region.wanted,hg,o8 (ops:=ops) hp ht (v5 En)]
  rw[hw];refine⟨fun e=>(by cases e),fun _=>?_⟩;rw[h1]at hq;exact⟨_,by cases o.dst<;>rfl,hq,jY hs hu hv hd ql⟩
 exact hq.elim
def Bc{K:Exit→St→Prop}:∀(l:List Oper)(R:List RO)(i:Nat)(st:St)(a:Act)(w:World),(∀j,l[j]?=ops[i+j]?)→l.mapM (kl P wv st.n ops)=some R→k9 n0 S0 M0 w0 st a w→
  gR P R st K→wpOps P ops (oG n0 S0 M0 w0 st.n K) (List.range' i l.length) a w
 | [],R,i,st,a,w,_,hR,hs,hq=>by
  simp at hR;subst hR;exact⟨st,rfl,hq,hs⟩
 |o::l,R,i,st,a,w,hl,hR,hs,hq=>by
  simp only[da,oD,oB,oP,oS]at hR;obtain⟨r,hr,R',hR',rfl⟩:=hR;have h0:ops[i]?=some o:=by simpa using(hl 0).symm
  have hl':∀j,l[j]?=ops[i+1+j]?:=fun j=>by have:=hl (j+1);simpa[cN,eo 1 j]using this
  simp only[lK,List.range'_succ,wpOps,h0];have tS:match r.g with|none=>tY P r.op st (jZ P R' K)|some (t,b)=>qO (st.get t) b (tY P r.op st (jZ P R' K)) (jZ P R' K (st.mu r.op.dst (.lf []))):=by
   obtain⟨g,op⟩:=r;cases g with
   |none=>exact hq
   |some x=>exact hq
  have key:=uF (Q':=oG n0 S0 M0 w0 st.n K) hr hs tS;have hn:∀{a':Act} {w':World},km n0 S0 M0 w0 st.n (jZ P R' K) a' w'→wpOps P ops (oG n0 S0 M0 w0 st.n K) (List.range' (i+1) l.length) a' w':=by
   rintro a' w' ⟨gp,H0,hf,nL⟩;rw[←H0];exact Bc l R' (i+1) gp a' w' hl' (by rw[H0];exact hR') nL hf
  cases hw:Region.wanted o (yielded ops a.tmps)with
  |true=>
   simp only[ay];exact .inl (dv (fun a' w' h=>hn h) (key.1 hw))
  |false=>
   simp only[mI,aA];exact hn (key.2 hw)
variable {P:Program}
variable {un:Nat→Option U}
def Y4{ev:X→AV}{k:KQ}(h:ES P r ev un k):∃av us,k av us∧ES P r ev un (fun v u=>v=av∧u=us):=by
 cases r<;>simp only[ES]at h⊢
 case mv=>exact⟨_,_,h,rfl,rfl⟩
 case pick d c x y=>
  unfold sw at h⊢
  split at h
  ·next t b e=>
   simp only;cases b with
   |true=>exact⟨_,_,h.1 rfl,fun _=>⟨rfl,rfl⟩,by simp⟩
   |false=>exact⟨_,_,h.2 rfl,by simp,fun _=>⟨rfl,rfl⟩⟩
  exact h.elim
 case box=>unfold zr at h⊢;split at h<;>first|exact h.elim|exact⟨_,_,h.2,h.1,rfl,rfl⟩
 case zer=>exact⟨_,_,h.2,h.1,rfl,rfl⟩
 case ld=>
  unfold FM at h⊢
  split at h;exact⟨_,_,h.2,h.1,rfl,rfl⟩;exact⟨_,_,h.2,h.1,rfl,rfl⟩
  ·unfold ldW at h⊢
   split at h;exact⟨_,_,h.2,h.1,rfl,rfl⟩;exact h.elim
  ·unfold ldQ at h⊢
   split at h
   ·unfold Ma at h⊢
    split at h;exact⟨_,_,h.2,h.1,rfl,rfl⟩;exact h.elim
   exact h.elim
  ·unfold ldB at h⊢
   split at h
   ·obtain⟨h0,h⟩:=h;unfold AN at h⊢
    split at h
    ·next hc=>simp only[af hc];exact⟨_,_,h,h0,rfl,rfl⟩
    next hc=>
    simp only[ae hc];unfold So at h⊢
    split at h
    ·obtain⟨h1,h⟩:=h
     split at h
     ·next ha=>simp only[af ha];exact⟨_,_,h,h0,h1,rfl,rfl⟩
     next ha=>simp only[ae ha];exact⟨_,_,h,h0,h1,rfl,rfl⟩
    exact h.elim
   exact h.elim
  exact h.elim
 case nck=>unfold uj at h⊢;split at h<;>first|exact h.elim|exact⟨_,_,h,rfl,rfl⟩
 case bin=>
  unfold Ks Zs at h⊢
  split at h
  ·simp only;unfold IK at h⊢
   split at h
   ·simp only
    split at h<;>(try simp only)<;>first|exact⟨_,_,h.2.2,h.1,h.2.1,rfl,rfl⟩|exact⟨_,_,h.2,h.1,rfl,rfl⟩
   ·simp only
    split at h<;>(try simp only)<;>first|exact⟨_,_,h.2,h.1,rfl,rfl⟩|exact⟨_,_,h,rfl,rfl⟩|exact h.elim
   exact h.elim
  exact h.elim
 case beq=>unfold J4 at h⊢;split at h<;>first|exact h.elim|exact⟨_,_,h,rfl,rfl⟩
 case snil=>unfold A0 at h⊢;split at h<;>first|exact h.elim|exact⟨_,_,h,rfl,rfl⟩
 case ceq=>
  unfold Kp at h⊢
  split at h;obtain⟨r,h1,h2⟩:=Kw h.2;exact⟨_,_,h1,h.1,h2 _ ⟨rfl,rfl⟩⟩;exact h.elim
 case un=>unfold unK at h⊢;split at h<;>first|exact h.elim|exact⟨_,_,h,rfl,rfl⟩
 case cvt=>unfold Km at h⊢;split at h<;>first|exact h.elim|exact⟨_,_,h,rfl,rfl⟩
 case mk=>unfold mkK at h⊢;split at h<;>first|exact h.elim|exact⟨_,_,h.2,h.1,rfl,rfl⟩
 case slc=>
  unfold Cl at h⊢
  split at h
  ·obtain⟨h1,h⟩:=h;unfold MN at h⊢
   split at h;exact⟨_,_,h.2,h1,h.1,rfl,rfl⟩;exact h.elim
  ·unfold HI at h⊢
   split at h
   ·obtain⟨h1,h⟩:=h;unfold Bx at h⊢
    split at h;exact⟨_,_,h.2,h1,h.1,rfl,rfl⟩;exact h.elim
   exact h.elim
  ·unfold Iq at h⊢
   split at h
   ·unfold MD at h⊢
    split at h
    ·obtain⟨h1,h⟩:=h;unfold Bx at h⊢
     split at h;exact⟨_,_,h.2,h1,h.1,rfl,rfl⟩;exact h.elim
    exact h.elim
   exact h.elim
  exact h.elim
 case fa=>
  unfold Jw at h⊢
  split at h;exact⟨_,_,h.2,h.1,rfl,rfl⟩;exact⟨_,_,h.2,h.1,rfl,rfl⟩
  ·unfold Zk at h⊢
   split at h;exact⟨_,_,h.2,h.1,rfl,rfl⟩;exact h.elim
  exact⟨_,_,h.2,h.1,rfl,rfl⟩;exact⟨_,_,h,rfl,rfl⟩;exact h.elim
 case ia=>
  unfold Jg at h⊢
  split at h
  ·try simp only
   split at h
   ·obtain⟨h1,h⟩:=h;unfold Mb at h⊢
    split at h;exact⟨_,_,h.2,h1,h.1,rfl,rfl⟩;exact h.elim
   ·obtain⟨h1,h⟩:=h;unfold Mb at h⊢
    split at h;exact⟨_,_,h.2,h1,h.1,rfl,rfl⟩;exact h.elim
   ·unfold iaC at h⊢
    split at h
    ·unfold iaI at h⊢
     split at h;exact⟨_,_,h.2,h.1,rfl,rfl⟩;exact h.elim
    exact h.elim
   unfold Sr at h⊢
   split at h;exact⟨_,_,h.2,h.1,rfl,rfl⟩;exact⟨_,_,h.2,h.1,rfl,rfl⟩;exact h.elim
  exact h.elim
 case len=>
  unfold tv at h⊢
  split at h;exact⟨_,_,h,rfl,rfl⟩;exact⟨_,_,h,rfl,rfl⟩;exact⟨_,_,h,rfl,rfl⟩
  unfold Bt at h⊢
  split at h;exact⟨_,_,h,rfl,rfl⟩;exact⟨_,_,h,rfl,rfl⟩;exact h.elim
 case call=>
  rcases h with⟨ds,es,r,h1,h2,h3,h4⟩|⟨h0,t,kk,B,C,h1,h2,h3,h4,h5⟩
  exact⟨_,_,h4,.inl ⟨ds,es,r,h1,h2,h3,rfl,rfl⟩⟩;exact⟨_,_,h5,.inr ⟨h0,t,kk,B,C,h1,h2,h3,h4,rfl,rfl⟩⟩
 case calv=>
  unfold uu at h⊢
  split at h
  ·rcases h with⟨ds,es,r,h1,h2,h3,h4⟩|⟨h0,t,kk,B,C,h1,h2,h3,h4,h5⟩
   exact⟨_,_,h4,.inl ⟨ds,es,r,h1,h2,h3,rfl,rfl⟩⟩;exact⟨_,_,h5,.inr ⟨h0,t,kk,B,C,h1,h2,h3,h4,rfl,rfl⟩⟩
  ·rcases h with⟨ds,es,r,h1,h2,h3,h4⟩|⟨h0,t,kk,B,C,h1,h2,h3,h4,h5⟩
   exact⟨_,_,h4,.inl ⟨ds,es,r,h1,h2,h3,rfl,rfl⟩⟩;exact⟨_,_,h5,.inr ⟨h0,t,kk,B,C,h1,h2,h3,h4,rfl,rfl⟩⟩
  ·rcases h with⟨ds,es,r,h1,h2,h3,h4⟩|⟨h0,t,kk,B,C,h1,h2,h3,h4,h5⟩
   exact⟨_,_,h4,.inl ⟨ds,es,r,h1,h2,h3,rfl,rfl⟩⟩;exact⟨_,_,h5,.inr ⟨h0,t,kk,B,C,h1,h2,h3,h4,rfl,rfl⟩⟩
  exact h.elim
 case ext=>unfold BD at h⊢;split at h<;>first|exact h.elim|exact⟨_,_,h.2,h.1,rfl,rfl⟩
 case bs=>
  unfold bsK at h⊢
  split at h
  ·next e=>simp only[e,ay];exact⟨_,_,h.2,h.1,rfl,rfl⟩
  next e=>
  simp only[e,aA]
  split at h
  ·next e2=>exact⟨_,_,h.2,h.1,rfl,rfl⟩
  next e2=>exact⟨_,_,h.2,h.1,rfl,rfl⟩
 case bld=>unfold GN at h⊢;split at h<;>first|exact h.elim|exact⟨_,_,h.2,h.1,rfl,rfl⟩
 case mkf=>exact⟨_,_,h,rfl,rfl⟩
 case bse=>exact⟨_,_,h.2,h.1,rfl,rfl⟩
 case zsb=>exact⟨_,_,h.2,h.1,rfl,rfl⟩
 case cvs=>
  unfold GP at h⊢
  split at h
  ·unfold Kd at h⊢
   split at h
   ·obtain⟨h1,h2⟩:=h;unfold MA at h2⊢
    split at h2;exact⟨_,_,h2,h1,rfl,rfl⟩;exact h2.elim
   exact h.elim
  exact h.elim
mutual
def AV.ids:AV→List Nat
 |.tr k=>[k]
 |.pw i _ _=>[i]
 |.cw i _ _ _ _=>[i]
 |.sm i _ _=>[i]
 |.vb i _=>[i]
 |.pb i _=>[i]
 |.ps i=>[i]
 |.sg vs=>AV.oI vs
 |.cl _ vs=>AV.oI vs
 |.pq i _ _ _ _ _=>[i]
 |.qs i _ _ _ _ _=>[i]
 |.ss i _ _=>[i]
 |_=>[]
def AV.oI:List AV→List Nat
 | []=>[]
 |v::vs=>v.ids++AV.oI vs
end
variable {BM:Nat→Option U}
def Ng{a:AV}(hu:∀i u,i∈a.ids→un i=some u→BM i=some u)(h:AV.size un a≠0):AV.size BM a=AV.size un a:=by
 cases a with
 |tr k=>
  simp only[AV.size]at h⊢
  split at h
  ·next d hd=>rw[hu k _ (by simp[AV.ids]) hd]
  exact absurd rfl h
 |_=>rfl
def uU:∀{vs:List AV} {i:Nat},i∈AV.oI (kz vs)→i∈AV.oI vs
 | [],_,h=>h
 |v::vs,i,h=>by
  have BJ:kz (v::vs)=v::kz vs→i∈AV.oI (v::vs):=by
   intro e;rw[e]at h;simp only[AV.oI,an]at h⊢;exact h.imp id uU
  cases v with
  |im t d=>
   cases d with
   |ag ds=>
    simp only[kz]at h;have key:∀ds:List D,i∈AV.oI (ds.map (.im t)++kz vs)→i∈AV.oI (kz vs):=by
     intro ds
     induction ds with
     |nil=>exact id
     |cons d ds ih=>intro h;simp only[lC,bf,AV.oI,AV.ids,be]at h;exact ih h
    simp only[AV.oI,an];exact .inr (uU (key ds h))
   |_=>exact BJ rfl
  |_=>exact BJ rfl
def LV{a:AV}{i:Nat}(h:i∈(lx a).ids):i∈a.ids:=by
 cases a with
 |sg vs=>simp only[lx,AV.ids]at h⊢;exact uU h
 |_=>exact h
def tw{a:AV}(hu:∀i u,i∈a.ids→un i=some u→BM i=some u)(h:ig un sz a=true):ig BM sz a=true:=by
 cases a with
 |tr k=>
  simp only[ig]at h⊢
  split at h
  ·next d hd=>rw[hu k _ (by simp[AV.ids]) hd];exact h
  cases h
 |sg vs=>
  simp only[ig,bA]at h⊢;have key:∀{vs:List AV},(∀i u,i∈AV.oI vs→un i=some u→BM i=some u)→vs.all (fun a=>AV.size un a !=0)=true→vs.map (AV.size BM)=vs.map (AV.size un):=by
   intro vs
   induction vs with
   |nil=>intro _ _;rfl
   |cons a as ih=>
    intro hu ha;simp only[cJ,bA,cy,ne_eq]at ha;simp only[lC];rw[Ng (fun i u hi=>hu i u (by simp[AV.oI,hi])) ha.1,ih (fun i u hi=>hu i u (by simp[AV.oI,hi])) ha.2]
  have e:=key (fun i u hi=>hu i u (by simpa[AV.ids]using hi)) h.1;have e2:∀f:AV→Nat,vs.all (fun a=>f a !=0)=(vs.map f).all (fun n=>n !=0):=fun f=>by simp[List.all_map,bF]
  rw[e2,e,←e2];exact h
 |im t d=>cases t<;>exact h
 |_=>exact h
def Mq{a:AV}(hu:∀i u,i∈a.ids→un i=some u→BM i=some u)(h:AV.mw un a=true):AV.mw BM a=true:=by
 cases a with
 |tr k=>
  simp only[AV.mw]at h⊢
  split at h
  ·next d hd=>rw[hu k _ (by simp[AV.ids]) hd];exact h
  cases h
 |im t d=>cases t<;>exact h
 |_=>exact h
def vW{a:AV}(hu:∀i u,i∈a.ids→un i=some u→BM i=some u)(h:(AV.mw un a&&ig un 3 a)=true):(AV.mw BM a&&ig BM 3 a)=true:=by
 rw[bA]at h⊢;exact⟨Mq hu h.1,tw hu h.2⟩
def jx{a:AV}(g9:(∀f vs,a≠.cl f vs)∧∀vs,a≠.sg vs){d:D}(h1:a.arg un=some d)(hu0:∀i u,i∈a.ids→un i=some u→BM i=some u):a.arg BM=some d:=by
 unfold AV.arg at h1⊢
 split at h1<;>(try simp only[AV.ids,au]at hu0)<;>(try exact h1)<;>(try exact absurd rfl (g9.1 _ _))<;>(try exact absurd rfl (g9.2 _))<;>(try simp only)<;>
 ·split at h1
  ·next hh=>rw[hu0 _ _ rfl hh];exact h1
  cases h1
mutual
def QR:∀{a:AV} {d:D},a.arg un=some d→(∀i u,i∈a.ids→un i=some u→BM i=some u)→a.arg BM=some d
 |.cl f vs,d,h,hu=>by
  simp only[AV.arg]at h⊢
  split at h
  ·next ds ot=>rw[nS ot (fun i u hi=>hu i u (by simpa[AV.ids]using hi))];exact h
  cases h
 |.im _ _,_,h,hu=>jx (by simp) h hu
 |.tr _,_,h,hu=>jx (by simp) h hu
 |.pw _ _ _,_,h,hu=>jx (by simp) h hu
 |.cw _ _ _ _ _,_,h,hu=>jx (by simp) h hu
 |.sm _ _ _,_,h,hu=>jx (by simp) h hu
 |.vb _ _,_,h,hu=>jx (by simp) h hu
 |.pb _ _,_,h,hu=>jx (by simp) h hu
 |.ps _,_,h,hu=>jx (by simp) h hu
 |.sg vs,d,h,hu=>by
  simp only[AV.arg]at h⊢
  split at h
  ·next ds ot=>rw[nS ot (fun i u hi=>hu i u (by simpa[AV.ids]using hi))];exact h
  cases h
 |.lf _,_,h,hu=>jx (by simp) h hu
 |.any,_,h,hu=>jx (by simp) h hu
 |.pq _ _ _ _ _ _,_,h,hu=>jx (by simp) h hu
 |.qs _ _ _ _ _ _,_,h,hu=>jx (by simp) h hu
 |.ss _ _ _,_,h,hu=>jx (by simp) h hu
 |.z0 _ _,_,h,hu=>jx (by simp) h hu
def nS:∀{l:List AV} {ds:List D},kI un l=some ds→(∀i u,i∈AV.oI l→un i=some u→BM i=some u)→kI BM l=some ds
 | [],_,h,_=>by simpa[kI]using h
 |a::l,ds,h,hu=>by
  simp only[kI]at h⊢
  split at h
  ·next d lQ h1 h2=>
   rw[QR h1 (fun i u hi=>hu i u (by simp[AV.oI,hi])),nS h2 (fun i u hi=>hu i u (by simp[AV.oI,hi]))];exact h
  cases h
end
def yv{l:List AV}{i:Nat}:i∈AV.oI l↔∃a∈l,i∈a.ids:=by
 induction l with
 |nil=>simp[AV.oI]
 |cons a l ih=>simp[AV.oI,ih]
def vP{a:AV}{q:Option Nat×D}(h:a.den un=some q)(hu:∀i u,i∈a.ids→un i=some u→BM i=some u):a.den BM=some q:=by
 unfold AV.den at h⊢
 split at h<;>(try simp only[AV.ids,au]at hu)<;>(try exact h)<;>(try simp only)<;>
 ·split at h
  ·next hh=>rw[hu _ _ rfl hh];exact h
  cases h
def zM{ev ev':X→AV}{k:KQ}(h:ES P r ev un k)(he:∀x∈r.xs,ev' x=ev x)(hu:∀x∈r.xs,∀i u,i∈(ev x).ids→un i=some u→BM i=some u):ES P r ev' BM k:=by
 cases r<;>simp only[ES,oT.xs,ab,cF,cI,forall_eq,forall_eq_or_imp]at h he hu⊢
 case mv=>rw[he];exact h
 case pick=>rw[he.1,he.2.1,he.2.2];exact h
 case box=>
  rw[he];unfold zr at h⊢
  split at h;exact h
  exact⟨⟨h.1.1,h.1.2.1,tw (fun i u hi=>hu i u (LV hi)) h.1.2.2⟩,h.2⟩
 case zer=>exact h
 case ld=>
  rw[he];unfold FM at h⊢
  split at h;exact h;exact h
  ·next e=>
   simp only[e,AV.ids,au]at hu;unfold ldW at h⊢
   split at h
   ·next hh=>rw[hu _ _ rfl hh];exact h
   exact h.elim
  ·next e=>
   simp only[e,AV.ids,au]at hu;unfold ldQ at h⊢
   split at h
   ·next hh=>rw[hu _ _ rfl hh];exact h
   exact h.elim
  ·next e=>
   simp only[e,AV.ids,au]at hu;unfold ldB at h⊢
   split at h
   ·next hh=>rw[hu _ _ rfl hh];exact h
   exact h.elim
  exact h.elim
 case nck=>rw[he];exact h
 case bin=>rw[he.1,he.2];exact h
 case beq=>rw[he.1,he.2];exact h
 case snil=>rw[he.1,he.2];exact h
 case ceq=>rw[he.1,he.2];exact h
 case un=>rw[he];exact h
 case cvt=>rw[he];exact h
 case mk=>rw[he.1,he.2];exact h
 case slc d sz x lo hi=>
  have e1:lo.map ev'=lo.map ev:=by cases lo<;>simp_all
  have e2:hi.map ev'=hi.map ev:=by cases hi<;>simp_all
  unfold Cl at h⊢;rw[e1,e2,he.1]
  split at h;exact h
  ·next e=>
   simp only[e,AV.ids,au]at hu;unfold HI at h⊢
   split at h
   ·next hh=>rw[hu.1 _ _ rfl hh];exact h
   exact h.elim
  ·next e=>
   simp only[e,AV.ids,au]at hu;unfold Iq at h⊢
   split at h
   ·next hh=>rw[hu.1 _ _ rfl hh];exact h
   exact h.elim
  exact h.elim
 case fa=>
  rw[he];unfold Jw at h⊢
  split at h;exact h;exact h
  ·next e=>
   simp only[e,AV.ids,au]at hu;unfold Zk at h⊢
   split at h
   ·next hh=>rw[hu _ _ rfl hh];exact h
   exact h.elim
  exact h;exact h;exact h.elim
 case ia=>
  rw[he.1,he.2];unfold Jg at h⊢
  split at h
  ·try simp only
   split at h
   ·next e=>
    simp only[e,AV.ids,au]at hu;obtain⟨h1,h⟩:=h;refine⟨h1,?_⟩;unfold Mb at h⊢
    split at h
    ·next hh=>rw[hu.1 _ _ rfl hh];exact h
    exact h.elim
   ·next e=>
    simp only[e,AV.ids,au]at hu;obtain⟨h1,h⟩:=h;refine⟨h1,?_⟩;unfold Mb at h⊢
    split at h
    ·next hh=>rw[hu.1 _ _ rfl hh];exact h
    exact h.elim
   ·next e=>
    simp only[e,AV.ids,au]at hu;unfold iaC at h⊢
    split at h
    ·next hh=>rw[hu.1 _ _ rfl hh];exact h
    exact h.elim
   unfold Sr at h⊢
   split at h
   ·next hd=>rw[vP hd hu.1];exact h
   ·next hd=>rw[vP hd hu.1];exact h
   exact h.elim
  exact h.elim
 case len=>
  rw[he];unfold tv at h⊢
  split at h;exact h;exact h;exact h
  unfold Bt at h⊢
  split at h
  ·next hd=>rw[vP hd hu];exact h
  ·next hd=>rw[vP hd hu];exact h
  exact h.elim
 case call d f args=>
  have e1:args.map ev'=args.map ev:=cA he;rw[e1];rcases h with⟨ds,es,r,h1,h2,h3,h4⟩|⟨h0,t,kk,B,C,h1,h2,h3,h4,h5⟩
  ·refine .inl ⟨ds,es,r,nS h1 ?_,h2,h3,h4⟩;intro i u hi;obtain⟨a,ha,SE⟩:=yv.1 hi;obtain⟨x,hx,rfl⟩:=aB.1 ha;exact hu x hx i u SE
  have iy:∀a∈args.map ev,∀i u,i∈a.ids→un i=some u→BM i=some u:=by
   intro a ha i u SE;obtain⟨x,hx,rfl⟩:=aB.1 ha;exact hu x hx i u SE
  exact .inr ⟨h0,t,kk,B,C,h1,h2,vW (iy B (by simp[h1])) h3,vW (iy C (by simp[h1])) h4,h5⟩
 case calv d x args=>
  have e1:args.map ev'=args.map ev:=cA fun y hy=>he.2 y hy;rw[e1,he.1];have go:∀vs:List AV,(∀i u,i∈AV.oI vs→un i=some u→BM i=some u)→∀{g:Nat},pP P d g (args.map ev++vs) un k→pP P d g (args.map ev++vs) BM k:=by
   intro vs Ln g h;have iy:∀a∈args.map ev++vs,∀i u,i∈a.ids→un i=some u→BM i=some u:=by
    intro a ha i u SE;rcases an.1 ha with ha|ha
    obtain⟨x,hx,rfl⟩:=aB.1 ha;exact hu.2 x hx i u SE;exact Ln i u (yv.2 ⟨a,ha,SE⟩)
   rcases h with⟨ds,es,r,h1,h2,h3,h4⟩|⟨h0,t,kk,B,C,h1,h2,h3,h4,h5⟩
   ·refine .inl ⟨ds,es,r,nS h1 ?_,h2,h3,h4⟩;intro i u hi;obtain⟨a,ha,SE⟩:=yv.1 hi;exact iy a ha i u SE
   exact .inr ⟨h0,t,kk,B,C,h1,h2,vW (iy B (by simp[h1])) h3,vW (iy C (by simp[h1])) h4,h5⟩
  unfold uu at h⊢
  split at h;have:=go [] (by simp[AV.oI]) (by simpa using h);simpa using this
  ·next t f ds e=>
   refine go _ ?_ h;intro i u hi;obtain⟨a,ha,SE⟩:=yv.1 hi;obtain⟨d',_,rfl⟩:=aB.1 ha;simp[AV.ids]at SE
  ·next f vs e=>
   refine go _ ?_ h;intro i u hi;exact hu.1 i u (by rw[e];simpa[AV.ids]using hi)
  exact h.elim
 case ext=>rw[he];exact h
 case bs d sz z len ps=>
  have e1:(ps.map fun p=>(p.1,ev' p.2))=ps.map fun p=>(p.1,ev p.2):=cA fun p hp=>by rw[he p.2 (aB.2 ⟨p,hp,rfl⟩)]
  rw[e1];unfold bsK at h⊢
  split
  ·next e=>simpa[e]using h
  next e=>
  simp only[e,aA]at h
  split
  ·next e2=>rw[e2]at h;exact h
  next e2=>
  rw[e2]at h;refine⟨⟨h.1.1,h.1.2.1,h.1.2.2.1,h.1.2.2.2.1,?_⟩,h.2⟩;have h3:=h.1.2.2.2.2;rw[aM]at h3⊢;intro a ha;have:=h3 a ha;simp only[cR,aB,Function.comp]at ha;obtain⟨p,hp,rfl⟩:=ha;exact tw (hu p.2 (aB.2 ⟨p,hp,rfl⟩)) this
 case bld d z ps=>
  have e1:(ps.map fun p=>(p.1,p.2.1,ev' p.2.2))=ps.map fun p=>(p.1,p.2.1,ev p.2.2):=cA fun p hp=>by rw[he p.2.2 (aB.2 ⟨p,hp,rfl⟩)]
  rw[e1];unfold GN at h⊢
  split at h
  ·refine⟨⟨?_,h.1.2⟩,h.2⟩;have h3:=h.1.1;rw[aM]at h3⊢;intro a ha;have:=h3 a ha;simp only[aB]at ha;obtain⟨p,hp,rfl⟩:=ha;simp only[bA,aU,cy,ne_eq]at this⊢;refine⟨?_,this.2⟩;have h4:=this.1;have h5:=hu p.2.2 (aB.2 ⟨p,hp,rfl⟩);generalize ev p.2.2=av at h4 h5;unfold AV.size at h4⊢
   split at h4<;>(try exact h4)<;>(try simp only)
   split at h4
   ·next hh=>rw[h5 _ _ (by simp[AV.ids]) hh];exact h4
   exact absurd h4.symm this.2
  exact h.elim
 case mkf d f xs=>
  have e1:xs.map ev'=xs.map ev:=cA he;rw[e1];exact h
 case bse=>exact h
 case zsb=>exact h
 case cvs d x=>
  unfold GP at h⊢;rw[he]
  split at h
  ·next e=>
   simp only[e,AV.ids,au]at hu;unfold Kd at h⊢
   split at h
   ·next hh=>rw[hu _ _ rfl hh];exact h
   exact h.elim
  exact h.elim
end Go.Ax
