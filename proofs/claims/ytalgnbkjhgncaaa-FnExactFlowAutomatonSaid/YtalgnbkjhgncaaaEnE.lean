/- THE ENGINE, PART 5: a generator of conditions over the register code, and its soundness. No condition. -/
import Derived.Test.YtalgnbkjhgncaaaEnD
set_option linter.all false
namespace Go.Ax
variable {P:Program}{n0:Nat}{S0 M0:Nat→Prop}{w0:World}
variable {st:St}{o:Oper}{a:Act}{w:World}{k:KQ}{Q':Exit→Act→World→Prop}{g:Gh}
variable {h:ij}{b:Nat}
def mO.lt(hu:mO h b):b<h.size:=by
 rcases hu with⟨c,e,h1⟩|⟨es,k,h1⟩<;>exact(bh.1 h1).1
variable {e:TypeId}
def mO.cells{c:Array Value}{k:Nat×Nat}(hu:mO h b)(h1:h[b]?=some (.cells c e k)):k=(0,0):=by
 rcases hu with⟨c',e',h2⟩|⟨es,k',h2⟩<;>rw[h1]at h2<;>cases h2
 rfl
variable {ds:List D}{F:List Nat}{sz:Nat}{nn:Option Bool}{v:Value}
def uN{d:D}(hd:d=.ls nn sz ds)(hr:f8 w.heap d F v.cells.toList)(hf:d.fits v):
  ∃F' news,fR w.heap ds F' news∧(∀b∈F',b∈F)∧(F.Nodup→F'.Nodup)∧Zu w sz v ds.length news:=by
 subst hd;have hv:=fP (by simpa[D.fits]using hf);unfold f8 at hr;rcases hr with⟨p,h1,rfl,rfl,_⟩|⟨b,off,cap,c,e,fr,F',h1,rfl,h3,h4,h5,h6,h7,h8,h9⟩
 ·rw[hv]at h1;simp only[bO,bm]at h1;exact⟨[],[],by simp[fR],by simp,fun _=>bC,p,0,h1,by simp,by simp⟩
 rw[hv]at h1;simp only[bO,bm]at h1;refine⟨F',_,h9,fun b hb=>by simp[hb],fun h=>(aP.1 h).2,some ⟨b,off,none⟩,cap,h1,?_,fun _=>⟨_,rfl,?_⟩⟩
 ·rw[h9.length,D.fG h8]
 intro j u hj;rw[dF,dP w b _ c e fr h6];rw[dp]at hj
 split at hj;simpa using hj;cases hj
def Lt(h0:gr w.heap n0 S0 M0 st.us g){tm:Nat→Value}(iF:∀t,fx w.heap st.us g (lk st.env t) (tm t)){av:AV}{k:KL}(hr:fx w.heap st.us g av v)(hk:oK st sz av k):
  ∃own ds fS g' F news,k own ds fS∧iU w.heap n0 S0 M0 st fS tm g g'∧fR w.heap ds F news∧Cs n0 M0 own g g' st.us fS.us F∧(∀b,g'.Sh b↔g.Sh b)∧(∀b,b∈fp g' fS.us→b∈fp g st.us)∧
   ((∀d∈ds,d.size=sz)→0<sz→Zu w sz v ds.length news):=by
 have T:=iU.refl h0 iF;have yL:se (av.arg st.unit) sz st k→∃own ds fS g' F news,k own ds fS∧iU w.heap n0 S0 M0 st fS tm g g'∧fR w.heap ds F news∧Cs n0 M0 own g g' st.us fS.us F∧(∀b,g'.Sh b↔g.Sh b)∧(∀b,b∈fp g' fS.us→b∈fp g st.us)∧
   ((∀d∈ds,d.size=sz)→0<sz→Zu w sz v ds.length news):=by
  intro hk;unfold se at hk
  split at hk
  ·next nn gv ds hd=>
   obtain⟨⟨rfl,hn⟩,hk⟩:=hk;obtain⟨F,r1,r2,_⟩:=tn h0 hr hd;obtain⟨F',news,q1,q2,q3,q4⟩:=uN rfl r1 r2;have:=jE hn q1;subst this;exact⟨true,ds,st,g,[],news,hk,T,q1,Cs.nil,fun _=>bL,fun _ hb=>hb,fun _ _=>q4⟩
  exact hk.elim
 unfold oK at hk
 split at hk
 ·next i len=>
  unfold yz at hk
  split at hk
  ·next w6 items gZ=>
   obtain⟨⟨rfl,rfl⟩,hk⟩:=hk;have hm:=fB gZ;have ho:=h0.each _ hm;simp only[fx]at hr;obtain⟨ahF,g9,b,r1,r2,r3,rfl⟩:=hr;have:=h0.uniq hm r1;injection this with e1 e2;subst e1 e2;simp only[hP]at ho;obtain⟨kw,b',c,e,vs,rest,k1,k2,k3,k4,k5,k6⟩:=ho;rw[r3]at k1;obtain rfl:=aQ k1;obtain⟨own,ds,fS,g',F,p1,p2,p3,p4,p5,p6⟩:=rM (nJ 12) h0 (T.del i) k4 hk;have hH:∀b,b∈fp (g.drop i) (st.del i).us→b∈fp g st.us:=fun b hb=>(iM (g:=g) (g':=g.drop i) (fun j hj=>by simp[Gh.drop,hj])).subset hb;refine⟨own,ds,fS,g',F,_,p1,p2,p3,p4.ahy hH,fun b=>p5 b,fun b hb=>hH b (p6 b hb),fun hs h0'=>?_⟩;have l1:=p3.length;rw[D.fG hs]at l1;have l2:(vs.map (·.cells.toList)).flatten.length=vs.length*w6:=by
    have:∀vs:List Value,(∀v∈vs,v.cells.size=w6)→(vs.map (·.cells.toList)).flatten.length=vs.length*w6:=by
     intro vs
     induction vs with
     |nil=>simp
     |cons x vs ih=>
      intro hx;simp only[lC,cb,lP,cX,lK,hx x (by simp),ih fun y hy=>hx y (by simp[hy]),a9];omega
    exact this vs (k5 h0')
   have l3:vs.length=items.length:=by
    have:∀{as:List AV} {vs:List Value},fA w.heap st.us g as vs→vs.length=as.length:=by
     intro as
     induction as with
     |nil=>intro vs h;simp only[fA]at h;simp[h]
     |cons x as ih=>intro vs h;simp only[fA]at h;obtain⟨v,r,rfl,_,h3⟩:=h;simp[ih h3]
    exact this k4
   have l4:ds.length=items.length:=by
    rw[l2,l3]at l1;exact(fe h0' l1).symm
   rw[l4];refine⟨_,_,rfl,by rw[l2,l3],fun _=>⟨_,rfl,fun j u hj=>?_⟩⟩;rw[dF,dP w b _ c e (0,0) k2,aw];rw[←cr,k6];rw[da (bF.1 hj).1];exact hj
  exact hk.elim
 ·next nn gv ds=>
  obtain⟨rfl,hk⟩:=hk;simp only[fx]at hr;obtain⟨F,r1,r2,r3⟩:=hr;obtain⟨F',news,q1,q2,q3,q4⟩:=uN rfl r1 r2;refine⟨fC ds,ds,st,g,F',news,hk,T,q1,⟨fun hp=>?_,fun _ b hb=>lr (r3 b (q2 b hb))⟩,fun _=>bL,fun _ hb=>hb,fun _ _=>q4⟩;have:=jE hp q1;subst this;exact⟨bC,by simp⟩
 exact yL hk
variable {us:List (Nat×U)}
def xE{g1:Gh}(hu:gr w.heap n0 S0 M0 us g1)(th:n0≤w.heap.size){id:Nat}(ku:id∉us.map (·.1))(h0:0<sz){es ds:List D}{G F:List Nat}{olds news:List Value}{rest:List Value}{nn:Option Bool}{ao:Option Addr}{cap:Nat}
    (qp:fR w.heap es G olds) (ur:∀d∈es,d.size=sz) (kf:fR w.heap ds F news) (P1:∀d∈ds,d.size=sz) (kw:es.length+ds.length≤gp)
    (re:(es=[]∧G=[]∧olds=[]∧cap=0∧ao=none∧nn≠some false)∨
      ∃b c e,ao=some ⟨b,0,none⟩∧w.heap[b]?=some (.cells c e (0,0))∧c.size=cap*sz∧c.toList=olds++rest∧es.length≤cap∧nn≠some true∧b∉fp g1 us∧¬g1.Sh b∧(b<n0→M0 b)∧b∉G++F)
    {ow:Bool} (py:ow=true→(G++F).Nodup∧∀x∈G++F,(x<n0→M0 x)∧¬g1.Sh x∧x∉fp g1 us∧mO w.heap x) (lw:ow=false→∀x∈G++F,g1.Sh x)
    (wy:nn=none→∀k v,k<8→id=3000000000+k→(M0 (n0+(16*v+k))→ao=some ⟨v,0,none⟩)∧(M0 (n0+(16*v+(8+k)))→ao≠none→cap=v))
    {e:TypeId} {v':Value} {w':World}
    (gk:(ds.length=0∧v'=.slice ao es.length cap∧w'=w)∨
       (∃b off c e0,0<ds.length∧ao=some ⟨b,off,none⟩∧es.length+ds.length≤cap∧v'=.slice ao (es.length+ds.length) cap∧w.heap[b]?=some (.cells c e0 (0,0))∧off+cap*sz≤c.size∧olds=(c.toList.drop off).take (es.length*sz)∧
          w'=w.setRow b (c.toList.take (off+es.length*sz)++news++c.toList.drop (off+es.length*sz+news.length)).toArray)∨
       (∃cap' c' rest,0<ds.length∧v'=.slice (some ⟨w.heap.size,0,none⟩) (es.length+ds.length) cap'∧es.length+ds.length≤cap'∧c'.size=cap'*sz∧c'.toList=(olds++news)++rest∧w'.heap=w.heap.push (.cells c' e (0,0)))):
    ∃g2,gr w'.heap n0 S0 M0 ((id,.ar ow (gC nn ds) sz (es++ds))::us) g2∧(∀av x,fx w.heap us g1 av x→fx w'.heap ((id,.ar ow (gC nn ds) sz (es++ds))::us) g2 av x)∧
      fx w'.heap ((id,.ar ow (gC nn ds) sz (es++ds))::us) g2 (.sm id 0 (es.length+ds.length)) v'∧w.heap.size≤w'.heap.size∧(∀b,b<n0→¬M0 b→w'.heap[b]?=w.heap[b]?):=by
  have gF:fR w.heap (es++ds) (G++F) (olds++news):=qp.append kf;have jm:∀d∈es++ds,d.size=sz:=fun d hd=>(ax.1 hd).elim (ur d) (P1 d);have HU:=qp.length;rw[D.fG ur]at HU;have GL:=kf.length;rw[D.fG P1]at GL;have Po:∀x∈G++F,x<w.heap.size:=gF.lt;have key:∀(b1:Nat)(c1:Array Value)(e1:TypeId)(zy:Nat)(Pp:List Value),b1∉fp g1 us→¬g1.Sh b1→(b1<n0→M0 b1)→b1∉G++F→b1<w'.heap.size→w.heap.size≤w'.heap.size→
      (∀b,b≠b1→b<w.heap.size→w'.heap[b]?=w.heap[b]?)→w'.heap[b1]?=some (.cells c1 e1 (0,0))→c1.size=zy*sz→c1.toList=(olds++news)++Pp→es.length+ds.length≤zy→gC nn ds≠some true→v'=.slice (some ⟨b1,0,none⟩) (es.length+ds.length) zy→(gC nn ds=none→qf n0 M0 id (some b1) zy)→
      ∃g2,gr w'.heap n0 S0 M0 ((id,.ar ow (gC nn ds) sz (es++ds))::us) g2∧(∀av x,fx w.heap us g1 av x→fx w'.heap ((id,.ar ow (gC nn ds) sz (es++ds))::us) g2 av x)∧
        fx w'.heap ((id,.ar ow (gC nn ds) sz (es++ds))::us) g2 (.sm id 0 (es.length+ds.length)) v'∧w.heap.size≤w'.heap.size∧(∀b,b<n0→¬M0 b→w'.heap[b]?=w.heap[b]?):=by
    intro b1 c1 e1 zy Pp m1 m2 m3 m4 m5 m6 m7 m8 m9 m10 m11 m12 m13 m14;have hh:∀b,(b∈fp g1 us∨g1.Sh b)→w'.heap[b]?=w.heap[b]?:=by
      intro b hb;exact m7 b (by rintro rfl;exact hb.elim m1 m2) (hb.elim (hu.lt b) fun h=>(hu.sh b h).1)
    have Pq:fR w'.heap (es++ds) (G++F) (olds++news):=gF.frame fun b hb=>m7 b (by rintro rfl;exact m4 hb) (Po b hb);have hA:(if ow=true then b1::(G++F)else[b1]).Nodup:=by
      split
      · next e=>exact aP.2 ⟨m4,(py e).1⟩
      · simp
    have hB:∀b∈(if ow=true then b1::(G++F)else[b1]),b<w'.heap.size∧(b<n0→M0 b)∧¬g1.Sh b∧b∉fp g1 us∧mO w'.heap b:=by
      intro b hb;have vL:b=b1∨(ow=true∧b∈G++F):=by
        split at hb
        · next e =>
          rcases aj.1 hb with h|h
          · exact .inl h
          · exact .inr ⟨e,h⟩
        · exact .inl (by simpa using hb)
      rcases vL with rfl|⟨ho,hb⟩
      · exact⟨m5,m3,m2,m1,.inl ⟨c1,e1,m8⟩⟩
      · obtain ⟨q1, q2, q3, q4⟩ := (py ho).2 b hb
        have:=Po b hb;have VM:b≠b1:=fun e=>m4 (e▸hb);exact⟨by omega,q1,q2,q3,q4.eq (m7 b VM this)⟩
    obtain⟨hU,hV⟩:=hu.Pm (h':=w'.heap) ku (u:=.ar ow (gC nn ds) sz (es++ds)) (β:=some b1) (root:=undef) (cap:=zy) m6 hh hA hB (by
      intro _;simp only[hP];refine⟨by simpa using kw,jm,.inr ⟨b1,c1,e1,G++F,olds++news,Pp,by simp[Gh.add],m8,m10,by simp[Gh.add,m9],by simp[Gh.add];exact m11,Pq,m12,?_⟩⟩;cases ow with
      |true=>simp[Gh.add]
      |false=>simp only[kY,aH,Gh.add,aK,cj];exact lw rfl) (fun e=>m14 (U.lg.1 e))
    refine⟨_,hU,hV,?_,m6,fun b hb hm=>m7 b (by rintro rfl;exact hm (m3 hb)) (by omega)⟩;simp only[fx];refine⟨_,_,_,_,bP,by simp,.inl ⟨b1,by simp[Gh.add],?_⟩⟩;rw[m13];simp[Gh.add]
  have aab:w.heap.size∉fp g1 us∧¬g1.Sh w.heap.size∧(w.heap.size<n0→M0 w.heap.size)∧w.heap.size∉G++F:=
    ⟨fun h=>cu _ (hu.lt _ h),fun h=>cu _ (hu.sh _ h).1,fun h=>by omega,fun h=>cu _ (Po _ h)⟩
  have adD:0<ds.length→∀b1 zy,gC nn ds=none→qf n0 M0 id (some b1) zy:=by
    intro h b1 zy e;cases ds with
    |nil=>simp at h
    |cons=>simp[gC]at e
  rcases gk with⟨r1,rfl,rfl⟩|⟨b,off,c,e0,r1,rfl,r2,rfl,r3,r4,r5,rfl⟩|⟨cap',c',Pr,r1,rfl,r2,r3,r4,r5⟩
  · have hd0 : ds = [] := dv r1
    subst hd0;simp only[fR]at kf;obtain⟨rfl,rfl⟩:=kf;rcases re with⟨rfl,rfl,rfl,rfl,rfl,q⟩|⟨b,c,e,rfl,q1,q2,q3,q4,q5,q6,q7,q8,q9⟩
    · obtain⟨hU,hV⟩:=hu.Pm (h':=w'.heap) ku (u:=.ar ow (gC nn []) sz ([]++[])) (β:=none) (φ:=[]) (root:=undef) (cap:=0) (aU _) (fun _ _=>rfl) bC (by simp) (by
        intro _;simp only[hP];exact⟨by simp,by simp,.inl ⟨by simp[Gh.add],by simp,by simp[Gh.add],by simpa[gC]using q⟩⟩) (by
        intro e k v hk ku;have e:=U.lg.1 e;have:=wy (by simpa[gC]using e) k v hk ku;exact⟨fun h=>by simpa using this.1 h,fun _ h=>absurd rfl h⟩)
      refine⟨_,hU,hV,?_,aU _,fun _ _ _=>rfl⟩;simp only[fx];exact⟨_,_,_,_,bP,by simp,.inr (by simp[Gh.add])⟩
    · exact key b c e cap rest q6 q7 q8 q9 (bh.1 q1).1 (aU _) (fun _ _ _=>rfl) q1 q2 (by simpa using q3) (by simpa using q4) (by simpa[gC]using q5) (by simp) (by
        intro e k v hk ku;have:=wy (by simpa[gC]using e) k v hk ku;exact⟨fun h=>by simpa using this.1 h,fun h _=>this.2 h (by simp)⟩)
  · rcases re with ⟨_, _, _, _, h, _⟩ | ⟨b', c', e', h, q1, q2, q3, q4, q5, q6, q7, q8, q9⟩
    · cases h
    · injection h with h
      injection h with h1 h2;subst h1 h2;rw[r3]at q1;injection q1 with q1;injection q1 with q1 EH;subst q1;have ii:gC nn ds≠some true:=by
        cases ds with
        |nil=>simp at r1
        |cons=>simp[gC]
      have hlc:c.toList.length=c.size:=by simp
      have hle:=ba sz r2;rw[a9]at hle;have kr:(c.toList.take (0+es.length*sz)++news++c.toList.drop (0+es.length*sz+news.length)).toArray.toList=(olds++news)++rest.drop news.length:=by
        simp only[q3,aw,←HU];rw[bV,eC,bQ (by omega)]
        · simp
        · rfl
      refine key b _ e0 cap _ q6 q7 q8 q9 (by rw[bS];exact(bh.1 r3).1) (by rw[bS];exact aU _) (fun y hy _=>co w b y _ hy) (cY w b c _ e0 _ r3) ?_ kr r2 ii rfl (adD r1 _ _);simp only[dN,lP,bk,cK,cX,aw];omega
  · have ii:gC nn ds≠some true:=by
      cases ds with
      |nil=>simp at r1
      |cons=>simp[gC]
    obtain⟨f1,f2,f3,f4⟩:=aab;exact key w.heap.size c' e cap' Pr f1 f2 f3 f4 (by rw[r5];simp) (by rw[r5];simp) (fun b _ hb=>by rw[r5,dX,al (by omega)]) (by rw[r5];simp) r3 r4 r2 ii rfl (adD r1 _ _)
def HE{g1:Gh}(hu:gr w.heap n0 S0 M0 us g1)(th:n0≤w.heap.size){id:Nat}(ku:id∉us.map (·.1))(h0:0<sz){es ds:List D}{F2 F:List Nat}{v:Value}{news:List Value}{nn:Option Bool}
    (hR:f8 w.heap (.ls nn sz es) F2 v.cells.toList) (Ps:v.oneCell'=true) (kf:fR w.heap ds F news) (P1:∀d∈ds,d.size=sz) (kw:es.length+ds.length≤gp)
    (ii:(F2++F).Nodup) (hF:∀x∈F2++F,(x<n0→M0 x)∧¬g1.Sh x∧x∉fp g1 us∧mO w.heap x):
    ∃ao cap olds,v=.slice ao es.length cap∧Src w.heap sz ao es.length cap olds∧∀(e:TypeId)(v':Value)(w':World),
      ((ds.length = 0 ∧ v' = .slice ao es.length cap ∧ w' = w) ∨
       (∃b off c e0,0<ds.length∧ao=some ⟨b,off,none⟩∧es.length+ds.length≤cap∧v'=.slice ao (es.length+ds.length) cap∧w.heap[b]?=some (.cells c e0 (0,0))∧off+cap*sz≤c.size∧olds=(c.toList.drop off).take (es.length*sz)∧
          w'=w.setRow b (c.toList.take (off+es.length*sz)++news++c.toList.drop (off+es.length*sz+news.length)).toArray)∨
       (∃cap' c' rest,0<ds.length∧v'=.slice (some ⟨w.heap.size,0,none⟩) (es.length+ds.length) cap'∧es.length+ds.length≤cap'∧c'.size=cap'*sz∧c'.toList=(olds++news)++rest∧w'.heap=w.heap.push (.cells c' e (0,0))))→
      ∃g2,gr w'.heap n0 S0 M0 ((id,.own (.ls (gC nn ds) sz (es++ds)))::us) g2∧(∀av x,fx w.heap us g1 av x→fx w'.heap ((id,.own (.ls (gC nn ds) sz (es++ds)))::us) g2 av x)∧
        fx w'.heap ((id,.own (.ls (gC nn ds) sz (es++ds)))::us) g2 (.tr id) v'∧w.heap.size≤w'.heap.size∧(∀b,b<n0→¬M0 b→w'.heap[b]?=w.heap[b]?):=by
  have uB:=fP Ps;have GL:=kf.length;rw[D.fG P1]at GL;have hlowF:∀x∈F,x<w.heap.size:=kf.lt;have aac:∀x∈F2,x<w.heap.size:=hR.lt;have key:∀(w':World)(v':Value)(φ:List Nat),w.heap.size≤w'.heap.size→(∀b,(b∈fp g1 us∨g1.Sh b)→w'.heap[b]?=w.heap[b]?)→(∀b,b<n0→¬M0 b→w'.heap[b]?=w.heap[b]?)→φ.Nodup→
      (∀b∈φ,b<w'.heap.size∧(b<n0→M0 b)∧¬g1.Sh b∧b∉fp g1 us∧mO w'.heap b)→f8 w'.heap (.ls (gC nn ds) sz (es++ds)) φ v'.cells.toList→v'.oneCell'=true→
      ∃g2,gr w'.heap n0 S0 M0 ((id,.own (.ls (gC nn ds) sz (es++ds)))::us) g2∧(∀av x,fx w.heap us g1 av x→fx w'.heap ((id,.own (.ls (gC nn ds) sz (es++ds)))::us) g2 av x)∧
        fx w'.heap ((id,.own (.ls (gC nn ds) sz (es++ds)))::us) g2 (.tr id) v'∧w.heap.size≤w'.heap.size∧(∀b,b<n0→¬M0 b→w'.heap[b]?=w.heap[b]?):=by
    intro w' v' φ m1 m2 m3 m4 m5 m6 m7;obtain⟨hU,hV⟩:=hu.Pm (h':=w'.heap) ku (u:=.own (.ls (gC nn ds) sz (es++ds))) (β:=none) (φ:=φ) (root:=v') (cap:=0) m1 m2 m4 m5 (by
      intro _;simp only[hP];exact⟨by simp[Gh.add],by simpa[Gh.add]using m6,by simpa[Gh.add,D.fits]using m7⟩)
    refine⟨_,hU,hV,?_,m1,m3⟩;simp only[fx];exact⟨⟨_,bP⟩,by simp[Gh.add]⟩
  have hnn:0<ds.length→gC nn ds≠some true:=by
    intro h;cases ds with
    |nil=>simp at h
    |cons=>simp[gC]
  have hR0:=hR;unfold f8 at hR;have fresh:∀(ao:Option Addr)(cap:Nat)(olds:List Value)(G:List Nat)(e:TypeId)(v':Value)(w':World),fR w.heap es G olds→(∀d∈es,d.size=sz)→(∀x∈G,x∈F2)→(G++F).Nodup→
      (∃cap' c' rest,0<ds.length∧v'=.slice (some ⟨w.heap.size,0,none⟩) (es.length+ds.length) cap'∧es.length+ds.length≤cap'∧c'.size=cap'*sz∧c'.toList=(olds++news)++rest∧w'.heap=w.heap.push (.cells c' e (0,0)))→
      ∃g2,gr w'.heap n0 S0 M0 ((id,.own (.ls (gC nn ds) sz (es++ds)))::us) g2∧(∀av x,fx w.heap us g1 av x→fx w'.heap ((id,.own (.ls (gC nn ds) sz (es++ds)))::us) g2 av x)∧
        fx w'.heap ((id,.own (.ls (gC nn ds) sz (es++ds)))::us) g2 (.tr id) v'∧w.heap.size≤w'.heap.size∧(∀b,b<n0→¬M0 b→w'.heap[b]?=w.heap[b]?):=by
    rintro ao cap olds G e v' w' qp ur hH rf ⟨cap',c',rest,r1,rfl,r2,r3,r4,r5⟩;have gF:=qp.append kf;have HU:=qp.length;rw[D.fG ur]at HU;have hold:∀b,b<w.heap.size→w'.heap[b]?=w.heap[b]?:=fun b hb=>by rw[r5,dX,al (by omega)]
    have l9:∀x∈G++F,x∈F2++F:=fun x hx=>by
      rcases ax.1 hx with h|h
      · exact ax.2 (.inl (hH x h))
      · exact ax.2 (.inr h)
    refine key w' _ (w.heap.size::(G++F)) (by rw[r5];simp) (fun b hb=>hold b (hb.elim (hu.lt b) fun h=>(hu.sh b h).1)) (fun b hb _=>hold b (by omega)) ?_ ?_ ?_ rfl
    · exact aP.2 ⟨fun h=>cu _ (gF.lt _ h),rf⟩
    · intro b hb
      rcases aj.1 hb with rfl|hb
      · exact⟨by rw[r5];simp,fun h=>by omega,fun h=>cu _ (hu.sh _ h).1,fun h=>cu _ (hu.lt _ h),.inl ⟨c',e,by rw[r5];simp⟩⟩
      · obtain ⟨q1, q2, q3, q4⟩ := hF b (l9 b hb)
        have gI:=gF.lt b hb;exact⟨by rw[r5];simp;omega,q1,q2,q3,q4.eq (hold b gI)⟩
    · unfold f8
      refine .inr ⟨w.heap.size,0,cap',c',e,(0,0),G++F,by simp[Value.cells],rfl,hnn r1,by simpa using r2,by simpa using kw,by rw[r5];simp,by rw[r3];omega,?_,?_⟩
      · intro d hd
        exact(ax.1 hd).elim (ur d) (P1 d)
      · rw [az, r4, bV]
        · exact gF.frame fun b hb=>hold b (gF.lt b hb)
        · rw[lP,HU,GL,lP,a9]
  rcases hR with⟨p,h1,rfl,rfl,h4,h5⟩|⟨b,off,cap,c,e0,fr,F',h1,rfl,h3,h4,h5,h6,h7,h8,h9⟩
  · rw [uB] at h1
    simp only[bO,bm]at h1;subst h1;refine⟨p,0,[],rfl,.inl ⟨rfl,rfl,rfl⟩,?_⟩;rintro e v' w' (⟨r1,rfl,rfl⟩|⟨b,off,c,e0,r1,_,r2,_⟩|hr)
    · have hd0 : ds = [] := dv r1
      subst hd0;simp only[fR]at kf;obtain⟨rfl,rfl⟩:=kf;refine key w' _ [] (aU _) (fun _ _=>rfl) (fun _ _ _=>rfl) bC (by simp) ?_ rfl;simpa[gC]using hR0
    · have r2:=r2;simp only[lZ]at r2;omega
    · exact fresh p 0 [] [] e v' w' (by simp[fR]) (by simp) (by simp) (by simpa using ii) hr
  · rw [uB] at h1
    simp only[bO,bm]at h1;subst h1;obtain⟨q1,q2,q3,q4⟩:=hF b (by simp);have e3:=q4.cells h6;subst e3;refine⟨some ⟨b,off,none⟩,cap,_,rfl,.inr ⟨b,off,c,e0,rfl,h4,h6,h7,rfl⟩,?_⟩;have rf:=ii;rw[bp,aP]at rf;rintro e v' w' (⟨r1,rfl,rfl⟩|⟨b',off',c',e1,r1,hao,r2,rfl,r3,r4,r5,rfl⟩|hr)
    · have hd0 : ds = [] := dv r1
      subst hd0;simp only[fR]at kf;obtain⟨rfl,rfl⟩:=kf;refine key w' _ (b::F') (aU _) (fun _ _=>rfl) (fun _ _ _=>rfl) (by simpa using ii) (fun x hx=>?_) ?_ rfl
      · obtain ⟨z1, z2, z3, z4⟩ := hF x (by simpa using hx)
        exact⟨aac x hx,z1,z2,z3,z4⟩
      · simpa[gC]using hR0
    · injection hao with hao
      injection hao with e2 e3;subst e2 e3;rw[h6]at r3;injection r3 with r3;injection r3 with r3 r3';subst r3 r3';have HU:=h9.length;rw[D.fG h8]at HU;have gF:=h9.append kf;have hlc:c.toList.length=c.size:=by simp
      have hle:=ba sz r2;rw[a9]at hle;have kJ:∀x,x≠b→(w.setRow b (c.toList.take (off+es.length*sz)++news++c.toList.drop (off+es.length*sz+news.length)).toArray).heap[x]?=w.heap[x]?:=fun x hx=>co w b x _ hx;refine key _ _ (b::(F'++F)) (by rw[bS];exact aU _) (fun x hx=>kJ x (by rintro rfl;exact hx.elim q3 q2)) (fun x hx hm=>kJ x (by rintro rfl;exact hm (q1 hx))) (by simpa using ii) ?_ ?_ rfl
      · intro x hx
        obtain⟨z1,z2,z3,z4⟩:=hF x (by simpa using hx);have gI:x<w.heap.size:=z4.lt;refine⟨by rw[bS];exact gI,z1,z2,z3,?_⟩
        by_cases AS:x=b
        · subst AS;exact .inl ⟨_,_,cY w x c _ e0 _ h6⟩
        · exact z4.eq (kJ x AS)
      · unfold f8
        refine .inr ⟨b,off,cap,_,e0,(0,0),F'++F,by simp[Value.cells],rfl,hnn r1,by simpa using r2,by simpa using kw,cY w b c _ e0 _ h6,?_,?_,?_⟩
        · simp only [dN, lP, bk, cK, cX]
          omega
        · intro d hd
          exact(ax.1 hd).elim (h8 d) (P1 d)
        · have e2:((c.toList.take (off+es.length*sz)++news++c.toList.drop (off+es.length*sz+news.length)).toArray.toList.drop off).take ((es++ds).length*sz)=(c.toList.drop off).take (es.length*sz)++news:=by
            have l1:(c.toList.take (off+es.length*sz)).length=off+es.length*sz:=by simp;omega
            have eA:(c.toList.take (off+es.length*sz)).drop off=(c.toList.drop off).take (es.length*sz):=by
              rw[dq];congr 1;omega
            simp only;rw[bz,dt (by rw[l1];omega),eA,←bz,bV];rw[lP,HU,GL,lP,a9]
          rw[e2];exact gF.frame fun x hx=>kJ x (by rintro rfl;exact rf.1 hx)
    · exact fresh none cap _ F' e v' w' h9 h8 (fun x hx=>by simp[hx]) rf.2 hr
variable {es:List D}{G:List Nat}{news:List Value}
def ui{own ow:Bool}{olds:List Value}(hc:own=ow∨fC ds=true∨fC es=true)(qp:fR h es G olds)(kf:fR h ds F news):
  (fO own ow (D.n9 ds) (fC es)=true→(F=[]∨own=true)∧(G=[]∨ow=true))∧(fO own ow (D.n9 ds) (fC es)=false→(F=[]∨own=false)∧(G=[]∨ow=false)):=by
 have key:∀ds:List D,D.n9 ds=true→fC ds=true:=by
  intro ds
  induction ds with
  |nil=>intro _;rfl
  |cons d ds ih=>
   intro h;simp only[D.n9,bA]at h;simp only[fC,D.kH h.1,ih h.2,eM]
 exact xg (fun h=>jE (key _ h) kf) (fun h=>jE h kf) (fun h=>jE h qp) hc
def D1{len:Nat}(h:yk len es):(rT len es).length=len∧(∃zs,es=rT len es++zs)∧len≤es.length:=by
 unfold yk at h;unfold rT
 split at h
 ·next e=>subst e;rw[an rfl];exact⟨rfl,⟨[],by simp⟩,aU _⟩
 next e=>rw[al e];exact⟨by simp;omega,⟨es.drop len,by simp⟩,by omega⟩
variable {c:Call}{x:Operand}{t:TypeId}
def Oq(h:At n0 S0 M0 w0 st o a w g){e:TypeId}{s:Operand}{i:TypeInfo}{z:D}{X Y:Ax.X}{d:Nat}{f:St→Prop}(ho:o.op=.call c)(hc:c.callee=.builtin .append)(ha:c.args= #[s,x])(nA:c.argTypes= #[t,t])
    (ht:P.underlying t=some (.slice e)) (hi:P.info? e=some i) (hz:iI P e=some z) (hX:fY P t s=some X) (hY:fY P t x=some Y) (hd:o.dst=some d)
    (hq:oK st i.size (st.ev Y) (DM X d i.size i.bytes f)):o.wp P a w (ip n0 S0 M0 w0 st.n f) Q':=by
  have hs:=h.sat;have th:n0≤w.heap.size:=by rw[hs.base];exact hs.size
  obtain⟨zv,B7,B8⟩:∃zv,i.zero=some zv∧zv.cells.size=i.size:=by
    unfold iI at hz;rw[hi]at hz
    dsimp only at hz
    split at hz
    · next z' UE =>
      split at hz
      · next jm=>exact⟨z',UE,jm⟩
      · cases hz
    · cases hz
  obtain⟨own,ds,fS,g',F,news,hk,T,p1,⟨p2,p2'⟩,p3,p4,p5⟩:=Lt h.us h.rep (h.ev_ hY) hq;have ex:fx w.heap fS.us g' (fS.ev X) (a.eval s):=Aq T.rep hX;simp only[DM]at hk;have run:∀{ao:Option Addr} {n cap:Nat} {olds:List Value},a.eval s=.slice ao n cap→Src w.heap i.size ao n cap olds→(∀d∈ds,d.size=i.size)→0<i.size→n+ds.length≤gp→(n+ds.length)*i.bytes≤140737488355328→
      (∀(v':Value)(w':World),w'.os=w.os→w'.tape=w.tape→w'.output=w.output→
        ((ds.length=0∧v'=.slice ao n cap∧w'=w)∨
       (∃b off c e0,0<ds.length∧ao=some ⟨b,off,none⟩∧n+ds.length≤cap∧v'=.slice ao (n+ds.length) cap∧w.heap[b]?=some (.cells c e0 (0,0))∧off+cap*i.size≤c.size∧olds=(c.toList.drop off).take (n*i.size)∧
          w'=w.setRow b (c.toList.take (off+n*i.size)++news++c.toList.drop (off+n*i.size+news.length)).toArray)∨
       (∃ cap' c' rest, 0 < ds.length ∧ v' = .slice (some ⟨w.heap.size, 0, none⟩) (n + ds.length) cap' ∧ n + ds.length ≤ cap' ∧ c'.size = cap' * i.size ∧ c'.toList = (olds ++ news) ++ rest ∧ w'.heap = w.heap.push (.cells c' e (0, 0)))) →
        ip n0 S0 M0 w0 st.n f (a.put o.dst v') w')→o.wp P a w (ip n0 S0 M0 w0 st.n f) Q':=by
    intro ao n cap olds hv re P1 h0 kw lF Pt;obtain⟨v',w',gk,e1,e2,e3,jv⟩:=Bn (P:=P) (w:=w) (ty:=o.type) ht hi B7 B8 re (p5 P1 h0) p1.one kw lF;unfold Oper.wp;have j9:(execOp a.eval o).run P w=.ok (.value v') w':=by
      rw[←hv]at gk;simp[execOp,ho,resolve,hc,ha,nA,invoke,builtin,gk,Result.andThen]
    rw[j9];exact Pt v' w' e1 e2 e3 jv
  have fin:∀{env:List (Nat×AV)} {us:List (Nat×U)} {g1:Gh} {w':World} {v':Value} {id:Nat} {u:U} {av:AV},(∀t,fx w.heap us g1 (lk env t) (a.tmps.getD t undef))→w'.os=w.os→w'.tape=w.tape→w'.output=w.output→
      (∃g2,gr w'.heap n0 S0 M0 ((id,u)::us) g2∧(∀av x,fx w.heap us g1 av x→fx w'.heap ((id,u)::us) g2 av x)∧fx w'.heap ((id,u)::us) g2 av v'∧w.heap.size≤w'.heap.size∧(∀b,b<n0→¬M0 b→w'.heap[b]?=w.heap[b]?))→
      f ((⟨st.n,env,(id,u)::us⟩:St).set d av)→ip n0 S0 M0 w0 st.n f (a.put o.dst v') w':=by
    rintro env us g1 w' v' id u av hv e1 e2 e3 ⟨g2,hU,hV,hr,jm,hold⟩ hf;have hS:ju n0 S0 M0 w0 ⟨st.n,env,(id,u)::us⟩ a w':=by
      refine⟨hs.ms,hs.mS,hs.tm,hs.base,e1.trans hs.os,e2.trans hs.tape,e3.trans hs.output,bX hs.size jm,?_,g2,hU,fun t=>hV _ _ (hv t)⟩;intro b hb hm;rw[hold b hb hm];exact hs.iD b hb hm
    refine⟨_,?_,hf,?_⟩
    · rfl
    · have := gW hS hU (fun t => hV _ _ (hv t)) (d := o.dst) (fun j hj => h.dst j hj) hr
      rw[hd]at this⊢;exact this
  have yM:own=true→F.Nodup∧∀b∈F,(b<n0→M0 b)∧¬g'.Sh b∧b∉fp g' fS.us∧mO w.heap b:=fun e=>
    ⟨(p2 e).1,fun b hb=>⟨((p2 e).2 b hb).1,((p2 e).2 b hb).2.1,((p2 e).2 b hb).2.2.1,h.us.fz b ((p2 e).2 b hb).2.2.2⟩⟩
  have VQ:fS.n=st.n:=T.n;unfold yr at hk
  split at hk
  · next t' q e1 =>
    obtain⟨⟨q1,q2,q3,q4,q5⟩,hf⟩:=hk;rw[e1]at ex;simp only[fx]at ex;obtain⟨F0,r1,r2,_⟩:=ex;have uB:=fP (by simpa[D.fits]using r2);unfold f8 at r1;rcases r1 with⟨p,r1,_,rfl,_,r5⟩|⟨_,_,_,_,_,_,_,_,_,r3,_⟩
    · rw [uB] at r1
      simp only[bO,bm]at r1;have hp:p=none:=by
        cases p with
        |none=>rfl
        |some p=>exact absurd rfl (r5 rfl)
      subst hp;have kZ:o9 d fS.us=true:=by simpa[St.fresh,o9]using q5
      refine run (olds:=[]) r1 (.inl ⟨rfl,rfl,rfl⟩) q4 q3 (by simpa using q2) (by simpa using q1) fun v' w' e1 e2 e3 jv=>?_;have pY:=xE (w:=w) (rest:=[]) T.us th (ir kZ) q3 (es:=[]) (G:=[]) (olds:=[]) (nn:=some true) (cap:=0) (by simp[fR]) (by simp) p1 q4 (by simpa using q2) (.inl ⟨rfl,rfl,rfl,rfl,rfl,by simp⟩) (ow:=own)
        (fun e=>by simpa using yM e) (fun e=>by simpa using p2' e) (fun e=>by cases e) (e:=e) (v':=v') (w':=w') (by simpa using jv)
      refine fin T.rep e1 e2 e3 pY ?_;simp only[be,lZ,aw];have:(fS.iQ [(d,U.ar own (gC (some true) ds) i.size ds)])=⟨st.n,fS.env,(d,U.ar own (gC (some true) ds) i.size ds)::fS.us⟩:=by simp[St.iQ,VQ]
      rw[←this];exact hf
    · exact absurd rfl r3
  · next id off len e1 =>
    unfold Jl at hk
    split at hk
    · next ow nn usz es gZ =>
      obtain⟨⟨rfl,q0,rfl,aad,q1,q2,q3,q4⟩,hf⟩:=hk;obtain⟨tc,GM⟩:=D1 aad;generalize ahG:rT len es=qh at tc GM q4 hf;have hm:=fB gZ;have hU:=T.us.each _ hm;rw[e1]at ex;simp only[fx]at ex;obtain⟨ow',jc,gv,es',x1,x2,x3⟩:=ex;have:=T.us.uniq hm x1;injection this with z1 z2 z3 z4;subst z1 z2 z3 z4;have T2:=T.del id;have kZ:id∉(fS.del id).us.map (·.1):=by
        show id∉(fQ id (AV.refs id) fS.us).map (·.1)
        rw[gn];simp[aX]
      have jb:∀x∈g'.φ id,x∈fp g' fS.us:=fun x hx=>fL.2 ⟨_,hm,hx⟩;have AW:=np T.us hm;have hH:∀b,b∈fp (g'.drop id) (fS.del id).us→b∈fp g' fS.us:=fun b hb=>(iM (g:=g') (g':=g'.drop id) (fun j hj=>by simp[Gh.drop,hj])).subset hb;have Ca:f ((⟨st.n,(fS.del id).env,(id,U.ar (fO own ow (D.n9 ds) (fC qh)) (gC nn ds) i.size (qh++ds))::(fS.del id).us⟩:St).set d (.sm id 0 (qh.length+ds.length))):=by
        rw[←VQ,tc];exact hf
      simp only[hP]at hU;obtain⟨kw,ur,hU⟩:=hU;rcases hU with⟨y1,rfl,y3,y4⟩|⟨b,cc,ee,G,cs,rest,y1,y2,y3,y4,y5,y6,y7,y8⟩
      · have aae:qh=[]:=by
          obtain⟨zs,hz⟩:=GM.1;exact(eF.1 hz.symm).1
        subst aae;obtain rfl:len=0:=tc.symm;have hv:a.eval s=.slice none 0 0:=by
          rcases x3 with⟨b,x3,_⟩|⟨_,_,_,x3⟩
          · rw[y1]at x3;cases x3
          · exact x3
        refine run (olds:=[]) hv (.inl ⟨rfl,rfl,rfl⟩) q3 q0 (by simpa using q2) (by simpa using q1) fun v' w' e1 e2 e3 jv=>?_;obtain⟨mt,mf⟩:=ui (own:=own) (ow:=ow) q4 (h:=w.heap) (es:=[]) (G:=[]) (olds:=[]) (by simp[fR]) p1;have pY:=xE (w:=w) (rest:=[]) T2.us th kZ q0 (es:=[]) (G:=[]) (olds:=[]) (nn:=nn) (cap:=0) (by simp[fR]) (by simp) p1 q3 (by simpa using q2) (.inl ⟨rfl,rfl,rfl,rfl,rfl,y4⟩) (ow:=fO own ow (D.n9 ds) (fC []))
          (fun e=>by
            rcases(mt e).1 with rfl|e'
            · simp
            · exact⟨by simpa using(yM e').1,fun x hx=>by
                obtain⟨z1,z2,z3,z4⟩:=(yM e').2 x (by simpa using hx);exact⟨z1,z2,fun h=>z3 (hH x h),z4⟩⟩)
          (fun e=>by
            rcases(mf e).1 with rfl|e'
            · simp
            · exact fun x hx => p2' e' x (by simpa using hx)) (fun e k v hk ku => by
              subst e;obtain⟨z1,z2⟩:=T.us.ww k v hk ⟨_,ku▸hm,rfl⟩;rw[←ku,y1]at z1 z2;exact⟨fun h=>by simpa using z1 h,fun _ h=>absurd rfl h⟩) (e:=e) (v':=v') (w':=w') (by simpa using jv)
        refine fin T2.rep e1 e2 e3 pY ?_;exact Ca
      · obtain ⟨zs, B8⟩ := GM.1
        rw[B8]at y6;obtain⟨G1,G2,c1,c2,rfl,rfl,y6,_⟩:=fR.split y6;have ur:∀d∈qh,d.size=i.size:=fun d hd=>ur d (by rw[B8];simp[hd])
        have y5 : qh.length ≤ g'.cap id := by have : es.length = qh.length + zs.length := by rw [B8, lP]
                                              omega
        rw[bz]at y3;have hv:a.eval s=.slice (some ⟨b,0,none⟩) qh.length (g'.cap id):=by
          rw[tc];rcases x3 with⟨b',x3,x4⟩|⟨x3,_⟩
          · rw [y1] at x3
            obtain rfl:=aQ x3;simpa using x4
          · rw[y1]at x3;cases x3
        have lh:=y6.length;rw[D.fG ur]at lh;have hle:=ba i.size y5;have re:Src w.heap i.size (some ⟨b,0,none⟩) qh.length (g'.cap id) c1:=by
          refine .inr ⟨b,0,cc,ee,rfl,y5,y2,by omega,?_⟩;rw[az,y3,←lh,bV]
          rfl
        have rW:b∈g'.φ id:=by
          cases ow
          · simp only[kY,aH]at y8;rw[y8.1];simp
          · simp only[aK]at y8;rw[y8];simp
        refine run hv re q3 q0 (by rw[tc];exact q2) (by rw[tc];exact q1) fun v' w' e1 e2 e3 jv=>?_;obtain⟨mt,mf⟩:=ui (own:=own) (ow:=ow) q4 y6 p1;have Z2:b∉G1:=by
          cases hw:ow with
          | true =>
            have:=gO T.us hm;rw[hw]at y8;simp only[aK]at y8;rw[y8]at this;exact fun h=>(aP.1 this).1 (by simp[h])
          | false =>
            rw[hw]at y8;simp only[kY,aH]at y8;exact fun hb=>(T.us.sh b (y8.2 b (by simp[hb]))).2.2 (jb b rW)
        have HS:b∉F:=by
          cases ho:own with
          |true=>exact fun hb=>((yM ho).2 b hb).2.2.1 (jb b rW)
          |false=>exact fun hb=>(T.us.sh b (p2' ho b hb)).2.2 (jb b rW)
        have adE:ow=true→G1.Nodup∧∀x∈G1,x∈g'.φ id:=by
          intro hw;have:=gO T.us hm;rw[hw]at y8;simp only[aK]at y8;rw[y8]at this⊢;exact⟨(aT.1 (aP.1 this).2).1,fun x hx=>by simp[hx]⟩
        have pY:=xE (w:=w) (rest:=c2++rest) T2.us th kZ q0 (es:=qh) (G:=G1) (olds:=c1) (nn:=nn) (cap:=g'.cap id) y6 ur p1 q3 (by rw[tc];exact q2)
          (.inr ⟨b,cc,ee,rfl,y2,y4,y3,y5,y7,AW b rW,fun hb=>(T.us.sh b hb).2.2 (jb b rW),fun hb=>T.us.low b (jb b rW) hb,by rw[ax];exact fun hb=>hb.elim Z2 HS⟩) (ow:=fO own ow (D.n9 ds) (fC qh))
          (fun e=>by
            have hGG:G1.Nodup∧∀x∈G1,x∈g'.φ id:=by
              rcases(mt e).2 with rfl|e'
              · simp
              · exact adE e'
            have zw:F.Nodup∧∀x∈F,(x<n0→M0 x)∧¬g'.Sh x∧x∉fp g' fS.us∧mO w.heap x:=by
              rcases(mt e).1 with rfl|e'
              · simp
              · exact yM e'
            refine⟨aT.2 ⟨hGG.1,zw.1,fun x hx y hy jM=>(zw.2 y hy).2.2.1 (jM▸jb x (hGG.2 x hx))⟩,fun x hx=>?_⟩;rcases ax.1 hx with hx|hx
            · have h1 := jb x (hGG.2 x hx)
              exact⟨T.us.low x h1,fun hb=>(T.us.sh x hb).2.2 h1,AW x (hGG.2 x hx),T.us.fz x h1⟩
            · obtain ⟨z1, z2, z3, z4⟩ := zw.2 x hx
              exact⟨z1,z2,fun h=>z3 (hH x h),z4⟩)
          (fun e=>by
            intro x hx;rcases ax.1 hx with hx|hx
            · rcases (mf e).2 with rfl | e'
              · cases hx
              · rw [e'] at y8
                simp only[kY,aH]at y8;exact y8.2 x (by simp[hx])
            · rcases (mf e).1 with rfl | e'
              · cases hx
              · exact p2' e' x hx) (fun e k v hk ku=>by
              subst e;obtain⟨z1,z2⟩:=T.us.ww k v hk ⟨_,ku▸hm,rfl⟩;rw[←ku,y1]at z1 z2;exact⟨fun h=>by simpa using z1 h,fun h _=>z2 h (by simp)⟩) (e:=e) (v':=v') (w':=w') jv
        refine fin T2.rep e1 e2 e3 pY ?_;exact Ca
    · exact hk.elim
  · next nn q e1 =>
    obtain⟨⟨q1,q2,q3,rfl,q4,q5⟩,hf⟩:=hk;rw[e1]at ex;simp only[fx]at ex;obtain⟨p,hv,x1,x2⟩:=ex;have r1:f8 w.heap (.ls nn i.size []) [] (a.eval s).cells.toList:=by
      unfold f8;exact .inl ⟨p,by simp[hv,Value.cells],rfl,rfl,x1,x2⟩
    have kZ:o9 d fS.us=true:=by simpa[St.fresh,o9]using q5
    obtain⟨f1,f2⟩:=yM rfl;obtain⟨ao,cap,olds,UF,re,zz⟩:=HE (w:=w) T.us th (ir kZ) q3 r1 (by rw[hv];rfl) p1 q4 (by simpa using q2) (by simpa using f1) (by simpa using f2);refine run UF re q4 q3 (by simpa using q2) (by simpa using q1) fun v' w' e1 e2 e3 jv=>?_;refine fin T.rep e1 e2 e3 (zz e v' w' jv) ?_;rw[←VQ];simpa[St.iQ]using hf
  · obtain ⟨own2, d2, KW, g2, F2, tb, T2, r1, r2, ⟨r3, _⟩, r4, r5⟩ := lL T.us (iU.refl T.us T.rep) ex hk
    unfold D0 at tb
    split at tb
    · next nn gv es =>
      obtain⟨⟨rfl,rfl,rfl,q1,q2,q3,q4,q5⟩,hf⟩:=tb;have kZ:o9 d KW.us=true:=by simpa[St.fresh,o9]using q5
      have hn2:KW.n=st.n:=T2.n.trans VQ;obtain⟨f1,f2⟩:=yM rfl;obtain⟨f3,f4⟩:=r3 rfl;have gF:∀x∈F2++F,(x<n0→M0 x)∧¬g2.Sh x∧x∉fp g2 KW.us∧mO w.heap x:=by
        intro x hx;rcases ax.1 hx with hx|hx
        · obtain ⟨z1, z2, z3, z4⟩ := f4 x hx
          exact⟨z1,z2,z3,T.us.fz x z4⟩
        · obtain ⟨z1, z2, z3, z4⟩ := f2 x hx
          exact⟨z1,fun hb=>z2 ((r4 x).1 hb),fun hb=>z3 (r5 x hb),z4⟩
      have ii:(F2++F).Nodup:=aT.2 ⟨f3,f1,fun x hx y hy jM=>(f2 y hy).2.2.1 (jM▸(f4 x hx).2.2.2)⟩;obtain⟨ao,cap,olds,hv,re,zz⟩:=HE (w:=w) T2.us th (ir kZ) q4 r1 (by simpa[D.fits]using r2) p1 q3 q2 ii gF;refine run hv re q3 q4 q2 q1 fun v' w' e1 e2 e3 jv=>?_;refine fin T2.rep e1 e2 e3 (zz e v' w' jv) ?_;rw[←hn2];simpa[St.iQ]using hf
    · exact tb.elim
structure C8 (k:Nat) (f:AV→Bool) (h h':ij) (us us':List (Nat×U)) (g g':Gh):Prop extends Keep k f h h' us us' g g' where
 own:∀d,(k,U.own d)∈us→∃d',(k,U.own d')∈us'
 ar:∀ow nn sz es,(k,U.ar ow nn sz es)∈us→∃ow' jc es',(k,U.ar ow' jc sz es')∈us'∧es'.length=es.length
 bx:∀sz items,(k,U.bx sz items)∉us
 sb:∀T E s,(k,U.sb T E s)∈us→∃s',(k,U.sb T E s')∈us'
 mp:∀es,(k,U.mp es)∈us→∃es',(k,U.mp es')∈us'
 same:g'.β k=g.β k∧g'.root k=g.root k∧g'.cap k=g.cap k
variable {h':ij}
mutual
def fx.ut{k:Nat}{f:AV→Bool}{us':List (Nat×U)}{g g':Gh}(H:C8 k f h h' us us' g g'):∀{av:AV} {v:Value},av.soft k=false→fx h us g av v→fx h' us' g' av v
 |.im t d,v,hf,hr=>fx.iq H.toKeep (by simpa[AV.refs,AV.soft]using hf) hr
 |.cw i el j sz agg,v,hf,hr=>fx.iq H.toKeep (by simpa[AV.refs,AV.soft]using hf) hr
 |.tr i,v,_,hr=>by
  by_cases e:i=k
  ·subst e;simp only[fx]at hr⊢;obtain⟨⟨d,hd⟩,hv⟩:=hr;exact⟨H.own d hd,by rw[H.same.2.1];exact hv⟩
  exact fx.iq H.toKeep (by simpa[AV.refs]using e) hr
 |.pw i el j,v,_,hr=>by
  by_cases e:i=k
  ·subst e;simp only[fx]at hr⊢;obtain⟨Pb,wM,GH,qh,b,q1,q2,q3,q4,q5⟩:=hr;obtain⟨ow',jc,es',h3,h4⟩:=H.ar _ _ _ _ q1;exact⟨ow',jc,_,es',b,h3,by omega,q3,by rw[H.same.1];exact q4,q5⟩
  exact fx.iq H.toKeep (by simpa[AV.refs]using e) hr
 |.sm i off len,v,_,hr=>by
  by_cases e:i=k
  ·subst e;simp only[fx]at hr⊢;obtain⟨Pb,wM,GH,qh,q1,q2,q3⟩:=hr;obtain⟨ow',jc,es',h3,h4⟩:=H.ar _ _ _ _ q1;refine⟨ow',jc,_,es',h3,by omega,?_⟩;rw[H.same.1,H.same.2.2];exact q3
  exact fx.iq H.toKeep (by simpa[AV.refs]using e) hr
 |.vb i len,v,_,hr=>by
  by_cases e:i=k;subst e;simp only[fx]at hr;obtain⟨GH,items,b,q1,_⟩:=hr;exact absurd q1 (H.bx _ _);exact fx.iq H.toKeep (by simpa[AV.refs]using e) hr
 |.sg vs,v,hf,hr=>by
  simp only[AV.soft]at hf;simp only[fx]at hr⊢;obtain⟨xs,h1,h2⟩:=hr;exact⟨xs,fA.ut H hf h1,h2⟩
 |.jS vs,v,hf,hr=>by
  simp only[AV.soft]at hf;simp only[fx]at hr⊢;obtain⟨xs,h1,h2⟩:=hr;exact⟨xs,h1,fA.ut H hf h2⟩
 |.any,_,_,_=>by simp[fx]
 |.cl f vs,v,hf,hr=>by
  simp only[AV.soft]at hf;simp only[fx]at hr⊢;obtain⟨xs,h1,h2⟩:=hr;exact⟨xs,fA.ut H hf h1,h2⟩
 |.pq i el j gQ ic j',v,hf,hr=>fx.iq H.toKeep (by simpa[AV.refs,AV.soft]using hf) hr
 |.qs i el j gQ off len,v,hf,hr=>fx.iq H.toKeep (by simpa[AV.refs,AV.soft]using hf) hr
 |.ss i off len,v,_,hr=>by
  by_cases e:i=k
  ·subst e;simp only[fx]at hr⊢;obtain⟨Pb,wM,GH,qh,q1,q2,q3⟩:=hr;obtain⟨ow',jc,es',h3,h4⟩:=H.ar _ _ _ _ q1;refine⟨ow',jc,_,es',h3,by omega,?_⟩;rw[H.same.1,H.same.2.2];exact q3
  exact fx.iq H.toKeep (by simpa[AV.refs]using e) hr
 |.z0 _ _,v,_,hr=>by simpa[fx]using hr
 |.pb i j,v,_,hr=>by
  by_cases e:i=k;subst e;simp only[fx]at hr;obtain⟨GH,items,b,q1,_⟩:=hr;exact absurd q1 (H.bx _ _);exact fx.iq H.toKeep (by simpa[AV.refs]using e) hr
 |.ps i,v,_,hr=>by
  by_cases e:i=k
  ·subst e;simp only[fx]at hr⊢;obtain⟨T,E,s,b,q1,q2,q3⟩:=hr;obtain⟨s',h3⟩:=H.sb _ _ _ q1;exact⟨T,E,s',b,h3,by rw[H.same.1];exact q2,q3⟩
  exact fx.iq H.toKeep (by simpa[AV.refs]using e) hr
 |.mv i,v,_,hr=>by
  by_cases e:i=k
  ·subst e;simp only[fx]at hr⊢;obtain⟨es,b,q1,q2,q3⟩:=hr;obtain⟨s',h3⟩:=H.mp _ q1;exact⟨s',b,h3,by rw[H.same.1];exact q2,q3⟩
  exact fx.iq H.toKeep (by simpa[AV.refs]using e) hr
def fA.ut{k:Nat}{f:AV→Bool}{us':List (Nat×U)}{g g':Gh}(H:C8 k f h h' us us' g g'):∀{as:List AV} {vs:List Value},AV.mP k as=false→fA h us g as vs→fA h' us' g' as vs
 | [],_,_,hr=>by simpa[fA]using hr
 |a::as,vs,hf,hr=>by
  simp only[AV.mP,cD]at hf;simp only[fA]at hr⊢;obtain⟨v,r,h1,h2,h3⟩:=hr;exact⟨v,r,h1,fx.ut H hf.1 h2,fA.ut H hf.2 h3⟩
end
def gr.adF{us:List (Nat×U)}(hu:gr h n0 S0 M0 us g){k:Nat}{u u':U}(hm:(k,u)∈us)(jm:h.size≤h'.size)(hh:∀b,b<h.size→b∉g.φ k→h'[b]?=h[b]?)
  (jP:(∃d d',u=.own d∧u'=.own d')∨∃ow nn sz es ow' es',u=.ar ow nn sz es∧u'=.ar ow' nn sz es'∧es'.length=es.length)
  {φ:List Nat} (ii:φ.Nodup) (hφ:∀b∈φ,(b∈g.φ k∨(b<h'.size∧(b<n0→M0 b)∧¬g.Sh b∧b∉fp g us))∧mO h' b) (ho:hP h' ((k,u')::fQ k (AV.soft k) us) (g.lp k φ) k u'):
  gr h' n0 S0 M0 ((k,u')::fQ k (AV.soft k) us) (g.lp k φ)∧∀av v,av.soft k=false→fx h us g av v→fx h' ((k,u')::fQ k (AV.soft k) us) (g.lp k φ) av v:=by
 have Pu:∀i,i≠k→(g.lp k φ).φ i=g.φ i:=fun i hi=>by simp[Gh.lp,hi]
 have P0:(g.lp k φ).φ k=φ:=by simp[Gh.lp]
 have rg:∀x∈g.φ k,x∈fp g us:=fun x hx=>fL.2 ⟨_,hm,hx⟩;have kJ:∀i v,(i,v)∈us→i≠k→∀x∈g.φ i,h'[x]?=h[x]?:=by
  intro i v h1 h2 x hx;exact hh x (hu.lt x (fL.2 ⟨_,h1,hx⟩)) fun AX=>h2 (gK hu.keys hu.nodup h1 hm hx AX)
 have Cu:∀x,g.Sh x→h'[x]?=h[x]?:=fun x hx=>hh x (hu.sh x hx).1 fun AX=>(hu.sh x hx).2.2 (rg x AX);have H:C8 k (AV.soft k) h h' us ((k,u')::fQ k (AV.soft k) us) g (g.lp k φ):=by
  refine {mem:=fun i u h1 h2=>bt _ (iY h1 h2),β:=fun i hi=>⟨rfl,rfl,rfl⟩,iV:=?_,im:=?_,own:=?_,ar:=?_,bx:=?_,sb:=?_,mp:=?_,same:=⟨rfl,rfl,rfl⟩};intro i u x h1 h2 h3;exact kJ i u h1 h2 x ((hu.each _ h1).iZ h3)
  ·intro t d F cs ht hr i9;have hx:∀x∈F,h'[x]?=h[x]?:=by
    intro x hx;rcases i9 x hx with h1|⟨i,rfl,h1,_⟩
    exact Cu x h1;obtain⟨v,hv⟩:=hu.live h1;exact kJ i v hv (by rintro rfl;exact ht rfl) x h1
   refine⟨hr.frame hx,fun x hx=>?_⟩;rcases i9 x hx with h1|⟨i,rfl,h1,h2⟩
   exact .inl h1;exact .inr ⟨i,rfl,by rw[Pu i (by rintro rfl;exact ht rfl)];exact h1,h2⟩
  ·intro d hd;rcases jP with⟨d1,d2,rfl,rfl⟩|⟨ow,nn,sz,es,ow',es',rfl,rfl,_⟩
   ·exact⟨d2,by simp⟩
   have:=hu.uniq hm hd;cases this
  ·intro ow nn sz es hd;rcases jP with⟨d1,d2,rfl,rfl⟩|⟨Pb,wM,GH,qh,ow',es',rfl,rfl,hl⟩
   have:=hu.uniq hm hd;cases this;have:=hu.uniq hm hd;injection this with z1 z2 z3 z4;subst z1 z2 z3 z4;exact⟨ow',wM,es',by simp,hl⟩
  ·intro sz items hd;have:=hu.uniq hm hd;subst this;rcases jP with⟨d1,d2,e1,_⟩|⟨Pb,wM,GH,qh,ow',es',e1,_⟩<;>cases e1
  ·intro T E s hd;have:=hu.uniq hm hd;subst this;exfalso;rcases jP with⟨d1,d2,e1,_⟩|⟨Pb,wM,GH,qh,ow',es',e1,_⟩<;>cases e1
  intro es hd;have:=hu.uniq hm hd;subst this;exfalso;rcases jP with⟨d1,d2,e1,_⟩|⟨Pb,wM,GH,qh,ow',es',e1,_⟩<;>cases e1
 have hV:∀av v,av.soft k=false→fx h us g av v→fx h' ((k,u')::fQ k (AV.soft k) us) (g.lp k φ) av v:=fun av v hf hr=>fx.ut H hf hr;have hH:=iM (f:=AV.soft k) Pu (us:=us);have jb:fp (g.lp k φ) ((k,u')::fQ k (AV.soft k) us)=φ++fp (g.lp k φ) (fQ k (AV.soft k) us):=by
  simp only[fp,cp,P0]
 have wN:∀x∈fp (g.lp k φ) (fQ k (AV.soft k) us),∃y∈us,y.1≠k∧x∈g.φ y.1:=by
  intro x hx;obtain⟨y,hy,jM⟩:=fL.1 hx;obtain⟨gw,u,h1,h2⟩:=gf hy;exact⟨_,h1,gw,by rw[Pu _ gw]at jM;exact jM⟩
 have gF:∀x∈fp (g.lp k φ) ((k,u')::fQ k (AV.soft k) us),x∈fp g us∨(x<h'.size∧(x<n0→M0 x)∧¬g.Sh x):=by
  intro x hx;rw[jb]at hx;rcases ax.1 hx with hx|hx
  ·exact(hφ x hx).1.elim (fun h=>.inl (rg x h)) (fun h=>.inr ⟨h.1,h.2.1,h.2.2.1⟩)
  exact .inl (hH.subset hx)
 have wO:u'.jL=true→u.jL=true:=by
  intro e;rcases jP with⟨d1,d2,rfl,rfl⟩|⟨Pb,wM,GH,qh,ow',es',rfl,rfl,_⟩
  cases e;exact U.lg.2 (U.lg.1 e)
 refine⟨⟨?_,?_,?_,?_,?_,?_,?_,?_,hu.ww.Ek hm (fun _=>⟨rfl,rfl⟩) wO⟩,hV⟩
 ·simp only[lC,aP,gn];exact⟨by simp[aX],hu.keys.filter _⟩
 ·rw[jb,aT];refine⟨ii,hH.nodup hu.nodup,?_⟩;rintro x hx y hy rfl;obtain⟨z,hz,gw,ra⟩:=wN x hy;rcases(hφ x hx).1 with h1|h1
  exact gw (gK hu.keys hu.nodup hz hm ra h1);exact h1.2.2.2 (fL.2 ⟨z,hz,ra⟩)
 ·intro x hx;rcases gF x hx with h1|h1
  have:=hu.lt x h1;omega;exact h1.1
 ·intro x hx gI;rcases gF x hx with h1|h1
  exact hu.low x h1 gI;exact h1.2.1 gI
 ·intro i hi;simp only[lC,aj,cA,gn]at hi;rw[Pu i hi.1];exact hu.dead i fun EE=>hi.2 (by simp[aX,EE,hi.1])
 ·intro x hx;have hx:g.Sh x:=hx;obtain⟨q1,q2,q3⟩:=hu.sh x hx;exact⟨by omega,q2,fun h1=>(gF x h1).elim q3 (fun h2=>h2.2.2 hx)⟩
 ·intro x hx;rcases aj.1 hx with rfl|hx
  exact ho;obtain⟨gw,u,h1,h2⟩:=gf hx;rw[h2];exact(hu.each _ h1).iq H.toKeep (fun av hf=>.inr fun v hr=>hV av v hf hr) h1 gw (Pu _ gw) (fun x hx=>kJ _ _ h1 gw x hx) (fun x hx=>⟨hx,Cu x hx⟩)
 intro x hx;rw[jb]at hx;rcases ax.1 hx with hx|hx
 exact(hφ x hx).2;obtain⟨z,hz,gw,ra⟩:=wN x hx;exact(hu.fz x (fL.2 ⟨z,hz,ra⟩)).eq (kJ z.1 z.2 hz gw x ra)
def gr.mut(hu:gr h n0 S0 M0 us g){k:Nat}{u u':U}(hm:(k,u)∈us)(jm:h.size≤h'.size)(hh:∀b,b<h.size→b∉g.φ k→h'[b]?=h[b]?)
  (jP:(∃d d',u=.own d∧u'=.own d')∨∃ow nn sz es ow' es',u=.ar ow nn sz es∧u'=.ar ow' nn sz es'∧es'.length=es.length)
  {φ:List Nat} (ii:φ.Nodup) (hφ:∀b∈φ,b∈g.φ k∧mO h' b) (ho:hP h' ((k,u')::fQ k (AV.soft k) us) (g.lp k φ) k u'):
  gr h' n0 S0 M0 ((k,u')::fQ k (AV.soft k) us) (g.lp k φ)∧∀av v,av.soft k=false→fx h us g av v→fx h' ((k,u')::fQ k (AV.soft k) us) (g.lp k φ) av v:=
 hu.adF hm jm hh jP ii (fun b hb=>⟨.inl (hφ b hb).1,(hφ b hb).2⟩) ho
def Ku{d d':D}(h:d.fits v)(e:d'.fK=d.fK):d'.fits v:=by
 cases d<;>cases d'<;>simp_all [D.fits,D.fK]
variable {f:Nat}
def abW(h:At n0 S0 M0 w0 st o a w g){d:Nat}{X Y:Ax.X}{kk:St→Prop}(ho:o.op=.call c)(hc:c.callee=.value (.func f))(hl:c.args.size=c.argTypes.size)
  (hx:(c.args.toList.zip c.argTypes.toList).mapM (fun p=>fY P p.2 p.1)=some [X,Y]) (hd:o.dst=some d) (hq:Fn (st.ev X) (st.ev Y) P d f st kk):o.wp P a w (ip n0 S0 M0 w0 st.n kk) Q':=by
 have wP:=mu (g:=g) h.rep (by simpa using hl) hx;simp only[lC,lN,fA]at wP;obtain⟨v,r,w8,uu,y,r',rfl,w9,rfl⟩:=wP;have hs:=h.sat;unfold Fn at hq
 split at hq
 ·next t n hy=>
  rw[hy]at w9;have KX:=gU w9;subst KX;have oc:Array.map a.eval c.args= #[v,.int .i64 n]:=by apply aS;simpa using w8
  have enter:jf P f→(execOp a.eval o).run P w=.ok (.enter f #[v,.int .i64 n]) w:=by
   rintro⟨fn,h1,h2,h3⟩;have rX:¬fn.body=none:=by cases hb:fn.body<;>simp_all
   have um : ¬ fn.name = "runtime.NumGoroutine" := by simpa using h3
   rw[←oc];simp[execOp,ho,resolve,hc,Act.eval,Deferred.ofValue,invoke,callFunc,h1,rX,um]
  have unit:∀{k:Nat} {u u':U} {w':World} {n':Int} {φ:List Nat},(k,u)∈st.us→w'.os=w.os→w'.tape=w.tape→w'.output=w.output→w.heap.size≤w'.heap.size→(∀b,b<w.heap.size→b∉g.φ k→w'.heap[b]?=w.heap[b]?)→
    ((∃d d',u=.own d∧u'=.own d')∨∃ow nn sz es ow' es',u=.ar ow nn sz es∧u'=.ar ow' nn sz es'∧es'.length=es.length)→φ.Nodup→(∀b∈φ,b∈g.φ k∧mO w'.heap b)→
    hP w'.heap ((k,u')::fQ k (AV.soft k) st.us) (g.lp k φ) k u'→kk ((st.mc k u').set d (.im none (.sc (.int .i64 n'))))→ip n0 S0 M0 w0 st.n kk (a.put o.dst (.int .i64 n')) w':=by
   intro k u u' w' n' φ hm e1 e2 e3 jm hh jP ii hφ i9 hk;obtain⟨hU,hV⟩:=h.us.mut hm jm hh jP ii hφ i9;have hS:ju n0 S0 M0 w0 (st.mc k u') a w':=by
    refine⟨hs.ms,hs.mS,hs.tm,hs.base,e1.trans hs.os,e2.trans hs.tape,e3.trans hs.output,bX hs.size jm,?_,_,hU,fun t=>gT (fun av v hf hr=>hV av v hf hr) (h.rep t)⟩;intro b hb hM;have hbw:b<w.heap.size:=by have:=hs.size;rw[←hs.base]at this;omega
    rw[hh b hbw fun qr=>hM (h.us.low b (fL.2 ⟨_,hm,qr⟩) hb)];exact hs.iD b hb hM
   refine⟨(st.mc k u').set d (.im none (.sc (.int .i64 n'))),rfl,hk,?_⟩;have:=gW hS hU (fun t=>gT (fun av v hf hr=>hV av v hf hr) (h.rep t)) (d:=o.dst) (fun j hj=>h.dst j hj) (av:=.im none (.sc (.int .i64 n'))) (v:=.int .i64 n') (by simp only[fx,f8];exact⟨[],⟨rfl,by simp[Value.cells],by simp[Value.oneCell']⟩,by simp[D.fits,Value.oneCell'],by simp⟩);rw[hd]at this⊢;exact this
  unfold Fy at hq
  split at hq
  ·next i za=>
   unfold OJ at hq
   split at hq
   ·next e gZ=>
    obtain⟨e',n',⟨lh,hA⟩,s8,hk⟩:=hq;have hm:=fB gZ;rw[za]at uu;simp only[fx]at uu;obtain⟨_,rfl⟩:=uu;have hU:=h.us.each _ hm;simp only[hP]at hU;obtain⟨p1,p2,p3⟩:=hU;unfold Oper.wp;rw[enter lh,cL];refine(hA w _ (g.φ i) p2 p3 (gO h.us hm) (fun b hb=>h.us.fz b (fL.2 ⟨_,hm,hb⟩))).mono ?_;rintro e1 w' ⟨rfl,q1,q2,q3,q4,q5,F',q6,q7,q8⟩;refine unit hm q1 q2 q3 q4 q5 (.inl ⟨_,_,rfl,rfl⟩) q7 q8 ?_ hk;simp only[hP,Gh.lp,aK];exact⟨p1,q6,Ku p3 s8⟩
   exact hq.elim
  ·next i el j sz agg za=>
   unfold Me at hq
   split at hq
   ·next nn usz es gZ=>
    obtain⟨e',n',⟨lh,hA⟩,⟨ou,vG,hs3⟩,hk⟩:=hq;have hm:=fB gZ;rw[za]at uu;simp only[fx]at uu;obtain⟨KO,j8,EC,b,c1,e1,r1,r2,r3,r4,r5,r6,r7,r8,r9⟩:=uu;have:=h.us.uniq hm r1;injection this with z1 z2 z3 z4;subst z2 z3 z4;obtain⟨c2,e2,F2,cc,p1,p2,p3,p4,p5,p6,p7⟩:=pg (agg:=agg) h.us hm r2 r4 r3 vG r7;rw[r5]at p1;injection p1 with p1;injection p1 with p1 p1';subst p1 p1';have uB:v.cells.toList=cc:=by rw[r8];exact vD p3 p2
    have hU:=h.us.each _ hm;simp only[hP]at hU;obtain⟨kw,ur,hU⟩:=hU;rcases hU with⟨z1,_⟩|⟨b',c',e',G,cs,rest,k1,k2,k3,k4,k5,k6,k7,k8⟩
    rw[r4]at z1;cases z1;rw[r4]at k1;obtain rfl:=aQ k1;rw[r5]at k2;injection k2 with k2;injection k2 with k2 k2';subst k2 k2';simp only[aK]at k8;have hw:j=0∧sz=usz∨(D.at es el).fK=true:=by
     by_cases hA:(D.at es el).fK=true;exact .inr hA
     have Z4:(D.at es el).size=1:=by cases hD:D.at es el<;>simp_all [D.size,D.fK]
     have:(D.at es el).size=usz:=by rw[D.j7 r2];exact ur _ (aZ r2)
     have Z5:agg=false:=by cases agg<;>simp_all
     have:=r7 Z5
     left;omega
    have qq:∀x∈cc,x.oneCell'=true:=p4.one;obtain⟨j1,j2⟩:=BO w.heap sz agg r7 cc p3 qq;obtain⟨A,B,C,rfl,y1,y2,y3⟩:=kF k6 j1 ur r2 j2 r3 hw;have y3:=y3 agg vG r7;have lY:(cs.drop (el*usz+j)).take sz=cc:=by
     have h1:(c1.toList.drop (el*usz+j)).take sz=cc:=vD p3 p2;have l6:=k6.length;rw[D.fG ur]at l6;have hle:el*usz+usz≤es.length*usz:=by
      have:=ba usz (show el+1≤es.length by omega);rw[a9]at this;omega
     rw[←h1,k3,dt (by omega),du (by simp;omega)]
    have yJ:cs.take (el*usz+j)++(cc++cs.drop (el*usz+j+sz))=cs:=by
     have e1:cs.drop (el*usz+j+sz)=(cs.drop (el*usz+j)).drop sz:=by rw[ch]
     rw[←lY,e1,bw,bw]
    rw[yJ]at y1;rw[lY,←uB]at y3;have ii:=gO h.us hm;rw[k8]at ii;rw[aP,aT,aT]at ii;have adG:(D.sub (D.at es el) j sz agg).fits v:=by
     cases agg with
     |true=>simp only[aK]at r9;rw[r9];exact pu p5
     |false=>exact jV p5 (by simpa using r9)
    have hBφ:∀x∈B,x∈g.φ i:=fun x hx=>by rw[k8];simp[hx]
    unfold Oper.wp;rw[enter lh,cL];refine(hA w v B y3 adG ii.2.2.1.1 (fun x hx=>h.us.fz x (fL.2 ⟨_,hm,hBφ x hx⟩))).mono ?_;rintro e3 w' ⟨rfl,q1,q2,q3,q4,q5,F',q6,q7,q8⟩;have El:∀x∈A++([]++C),x∉B:=by
     intro x hx hB;simp only[be,ax]at hx;rcases hx with hx|hx
     exact ii.2.2.2 x hx x (by simp[hB]) rfl;exact ii.2.2.1.2.2 x hB x hx rfl
    have hbB:b∉B:=fun hB=>ii.1 (by simp[hB]);have y1':fR w'.heap (es.set el (D.put usz (D.at es el) j sz (rZ sz agg))) (A++([]++C)) cs:=y1.frame fun x hx=>q5 x (y1.lt x hx) (El x hx);have UG:b<w.heap.size:=(bh.1 r5).1;have rU:w'.heap[b]?=some (.cells c1 e1 (0,0)):=by rw[q5 b UG hbB];exact r5
    have zA:el<(es.set el (D.put usz (D.at es el) j sz (rZ sz agg))).length:=by simpa using r2
    have nl:D.at (es.set el (D.put usz (D.at es el) j sz (rZ sz agg))) el=D.put usz (D.at es el) j sz (rZ sz agg):=by
     rw[D.j7 zA];simp
    have UH:D.put usz (D.put usz (D.at es el) j sz (rZ sz agg)) j sz e'=D.put usz (D.at es el) j sz e':=by
     by_cases tg:j=0∧sz=usz;simp[D.put,tg]
     have hA:=hw.resolve_left tg;cases hD:D.at es el with
     |ag l=>
      have hlen:l.length=usz:=by
       have h1:(D.at es el).size=usz:=by rw[D.j7 r2];exact ur _ (aZ r2)
       obtain⟨F1,F3,FF,d1,d2,d3,_,_,_,Pv,_⟩:=k6.pick r2;have h2:f8 w.heap (.ag l) FF d2∨True:=.inr trivial;rw[hD]at h1;rw[D.j7 r2]at hD;rw[hD]at Pv;simp only[f8]at Pv;simp only[D.size,D.ja Pv.1]at h1;exact h1
      have hjl:(rZ sz agg).cells.length=sz:=by
       cases agg with
       |true=>simp[rZ,D.cells]
       |false=>have:=r7 rfl;simp[rZ,D.cells,this]
      simp only[D.put,tg,aH];have e1:(l.take j++(rZ sz agg).cells).length=j+sz:=by rw[lP,hjl,bk,bl (by omega)]
      have e2:(l.take j).length=j:=by rw[bk,bl (by omega)]
      rw[dd e1,bz (l.take j),bV e2]
     |_=>rw[hD]at hA;simp[D.fK]at hA
    have K8:j=0∧sz=usz∨(D.at (es.set el (D.put usz (D.at es el) j sz (rZ sz agg))) el).fK=true:=by
     rw[nl]
     by_cases tg:j=0∧sz=usz;exact .inl tg
     right
     have hA:=hw.resolve_left tg;cases hD:D.at es el with
     |ag l=>simp[D.put,tg,D.fK]
     |_=>rw[hD]at hA;simp[D.fK]at hA
    obtain⟨A2,B2,C2,hG,x1,x2,_⟩:=kF y1' q6 y2 zA ou r3 K8;rw[nl,UH,dy]at x1 x2;rw[uB,yJ]at x1;have hB2:B2=[]∨True:=.inr trivial;have UI:∀x∈F',x∈B:=fun x hx=>(q8 x hx).1;have KY:∀x∈A2++C2,x∈A++([]++C):=by
     intro x hx;rw[hG];rcases ax.1 hx with hx|hx<;>simp[hx]
    have HV:(A++([]++C)).Nodup:=by
     simp only[be];exact aT.2 ⟨ii.2.1,ii.2.2.1.2.1,fun x hx y hy e=>ii.2.2.2 x hx y (by simp[hy]) e⟩
    have adH:(A2++(F'++C2)).Nodup:=by
     rw[hG,aT,aT]at HV;refine aT.2 ⟨HV.1,aT.2 ⟨q7,HV.2.1.2.1,?_⟩,?_⟩
     ·rintro x hx y hy rfl;exact El x (KY x (by simp[hy])) (UI x hx)
     rintro x hx y hy rfl;rcases ax.1 hy with hy|hy
     exact El x (KY x (by simp[hx])) (UI x hy);exact HV.2.2 x hx x (by simp[hy]) rfl
    have adI:∀x∈A2++(F'++C2),x∈g.φ i∧mO w'.heap x:=by
     intro x hx;have jv:x∈A++([]++C)∨x∈F':=by
      simp only[ax]at hx;rcases hx with hx|hx|hx
      exact .inl (KY x (by simp[hx]));exact .inr hx;exact .inl (KY x (by simp[hx]))
     rcases jv with hx|hx
     ·have hxφ:x∈g.φ i:=by
       rw[k8];simp only[be,ax]at hx;rcases hx with hx|hx<;>simp[hx]
      have AY:=h.us.fz x (fL.2 ⟨_,hm,hxφ⟩);exact⟨hxφ,AY.eq (q5 x AY.lt (El x hx))⟩
     exact⟨hBφ x (UI x hx),(q8 x hx).2⟩
    have VM:b∉A2++(F'++C2):=by
     intro hb;simp only[ax]at hb;rcases hb with hb|hb|hb
     ·have:=KY b (by simp[hb]);simp only[be,ax]at this;exact ii.1 (by rcases this with h|h<;>simp[h])
     exact hbB (UI b hb);have:=KY b (by simp[hb]);simp only[be,ax]at this;exact ii.1 (by rcases this with h|h<;>simp[h])
    refine unit (φ:=b::(A2++(F'++C2))) hm q1 q2 q3 q4 ?_ (.inr ⟨_,_,_,_,_,_,rfl,rfl,by simp⟩) (aP.2 ⟨VM,adH⟩) ?_ ?_ hk
    ·intro x hx hxn;exact q5 x hx fun hB=>hxn (hBφ x hB)
    ·intro x hx;rcases aj.1 hx with rfl|hx
     ·exact⟨by rw[k8];simp,.inl ⟨c1,e1,rU⟩⟩
     exact adI x hx
    simp only[hP,Gh.lp,aK];exact⟨by simpa using kw,x2,.inr ⟨b,c1,e1,A2++(F'++C2),cs,rest,r4,rU,k3,k4,by simpa using k5,x1,k7,rfl⟩⟩
   exact hq.elim
  ·next t1 e za=>
   obtain⟨GG,e',n',⟨lh,hA⟩,hk⟩:=hq;rw[za]at uu;simp only[fx]at uu;obtain⟨F,r1,r2,r3⟩:=uu;have:=iB GG r1;subst this;unfold Oper.wp;rw[enter lh,cL];refine(hA w v [] r1 r2 bC (by simp)).mono ?_;rintro e1 w' ⟨rfl,q1,q2,q3,q4,q5,F',q6,q7,q8⟩;have hh:∀b,b<w.heap.size→w'.heap[b]?=w.heap[b]?:=fun b hb=>q5 b hb (by simp);obtain⟨hU,hV⟩:=h.us.wide q4 hh (by rw[hs.base];exact hs.size) [] (by simp);have hS:ju n0 S0 M0 w0 st a w':=by
    refine⟨hs.ms,hs.mS,hs.tm,hs.base,q1.trans hs.os,q2.trans hs.tape,q3.trans hs.output,bX hs.size q4,?_,_,hU,fun t=>hV _ _ (h.rep t)⟩;intro b hb hM;have hbw:b<w.heap.size:=by have:=hs.size;rw[←hs.base]at this;omega
    rw[hh b hbw];exact hs.iD b hb hM
   refine⟨st.set d (.im none (.sc (.int .i64 n'))),rfl,hk,?_⟩;have:=gW hS hU (fun t=>hV _ _ (h.rep t)) (d:=o.dst) (fun j hj=>h.dst j hj) (av:=.im none (.sc (.int .i64 n'))) (v:=.int .i64 n') (by simp only[fx,f8];exact⟨[],⟨rfl,by simp[Value.cells],by simp[Value.oneCell']⟩,by simp[D.fits,Value.oneCell'],by simp⟩);rw[hd]at this⊢;exact this
  exact hq.elim
 exact hq.elim
def Gh.shr(g:Gh)(b:Nat):Gh:={g with Sh:=fun x=>g.Sh x∨x=b}
def gr.shr{h:ij}{us:List (Nat×U)}{g:Gh}(hu:gr h n0 S0 M0 us g)(hb:b<h.size)(hS:b<n0→S0 b)(hn:b∉fp g us):gr h n0 S0 M0 us (g.shr b)∧
  ∀av x,fx h us g av x→fx h us (g.shr b) av x:=by
 have i9:∀t x,x<h.size→g.ok t x→(g.shr b).ok t x:=by
  intro t x _ hx;rcases hx with hx|hx
  exact .inl (.inl hx);exact .inr hx
 refine⟨⟨hu.keys,hu.nodup,hu.lt,hu.low,hu.dead,?_,?_,hu.fz,hu.ww⟩,fun av x hr=>fx.mono (h:=h) (h':=h) (us:=us) (us':=us) (g:=g) (g':=g.shr b) (fun _ h=>h) (fun _ _=>rfl) (fun _ _=>⟨rfl,rfl,rfl⟩) i9 hr⟩
 ·intro x hx;rcases hx with hx|rfl
  exact hu.sh x hx;exact⟨hb,hS,hn⟩
 intro x hx;exact hP.mono (h:=h) (h':=h) (us:=us) (us':=us) (g:=g) (g':=g.shr b) hx (fun _ h=>h) (fun _ _=>rfl) (fun _ _=>⟨rfl,rfl,rfl⟩) rfl (fun _ _ h=>.inl h) i9 (hu.each x hx)
variable {el j usz:Nat}
def YL(hu:gr h n0 S0 M0 us g){id:Nat}(hr:fx h us g (.pw id el j) v)(hm:(id,U.ar false nn usz es)∈us):
  ∃b F,g.β id=some b∧f8 h (.pt (D.at es el) j) F v.cells.toList∧(D.pt (D.at es el) j).fits v∧(∀x∈F,g.Sh x∨x=b):=by
 simp only[fx]at hr;obtain⟨ow',jc,kv,es',b,r1,r2,r3,r4,rfl⟩:=hr;have:=hu.uniq hm r1;injection this with e1 e2 e3 e4;subst e1;subst e2;subst e3;subst e4;have ho:=hu.each _ hm;simp only[hP]at ho;obtain⟨_,hs,ho⟩:=ho;rcases ho with⟨h0,_⟩|⟨b',c,e,G,cs,rest,k1,k2,k3,k4,k5,k6,k7,k8⟩
 rw[r4]at h0;cases h0;rw[r4]at k1;obtain rfl:=aQ k1;simp only[kY,aH]at k8;obtain⟨F1,F2,F3,c1,c2,c3,g1,g2,p1,p2,p3⟩:=k6.pick r2;have jm:(es[el]).size=usz:=hs _ (aZ r2);have l1:c1.length=el*usz:=by
  rw[p1.length,D.fG (sz:=usz) fun d hd=>hs d (bf hd),bk,bl (db r2)]
 have l2:=p2.length;rw[D.j7 r2];refine⟨b,b::F2,r4,?_,by simp[D.fits,Value.oneCell'],?_⟩
 ·unfold f8;have hlen:c.toList.length=c.size:=by simp
  refine⟨b,el*usz,c,e,(0,0),F2,by simp[Value.cells],rfl,by omega,k2,?_,?_⟩;rw[k3,g2]at hlen;simp only[lP,l1,l2]at hlen;omega;have:(c.toList.drop (el*usz)).take ((es[el]).size)=c2:=by
   rw[k3,g2,←l1,←l2];simp
  rw[this];exact p2
 intro x hx;rcases aj.1 hx with rfl|hx
 exact .inr rfl;exact .inl (k8.2 x (by rw[g1];simp[hx]))
def AL:∀(ds:List D),D.AQ ds ds
 | []=>trivial
 |d::ds=>⟨⟨fun _ F _ h=>⟨F,h,fun _ hb=>hb⟩,fun _ h=>h⟩,AL ds⟩
def ZD(h:At n0 S0 M0 w0 st o a w g){d:Nat}{X:Ax.X}{Ys:List Ax.X}{kk:St→Prop}(ho:o.op=.call c)(hc:c.callee=.value (.func f))(hl:c.args.size=c.argTypes.size)
  (hx:(c.args.toList.zip c.argTypes.toList).mapM (fun p=>fY P p.2 p.1)=some (X::Ys)) (hd:o.dst=some d) {i el j:Nat} (e1:st.ev X=.pw i el j) (hq:Fk (st.unit i) P d f i el j (Ys.map st.ev) st kk):o.wp P a w (ip n0 S0 M0 w0 st.n kk) Q':=by
 have wP:=mu (g:=g) h.rep (by simpa using hl) hx;have hs:=h.sat;unfold Fk at hq
 split at hq
 ·next nn usz d1 gZ=>
  obtain⟨⟨rfl,rfl,h0,gF⟩,ds,α,A,kf,⟨lY,hC⟩,hk⟩:=hq;have hm:=fB gZ;simp only[lC,fA]at wP;obtain⟨v,rest,w8,uu,w9⟩:=wP;rw[e1]at uu;simp only[fx]at uu;obtain⟨ow',jc,kv,es',b,r1,r2,r3,hβ,hv⟩:=uu;have:=h.us.uniq hm r1;injection this with z1 z2 z3 z4;subst z1 z2 z3 z4;simp only[d7,aC]at hv;have hU:=h.us.each _ hm;simp only[hP]at hU;obtain⟨kw,jm,hU⟩:=hU;rcases hU with⟨z0,_⟩|⟨b',c1,e,G,cs,rs,k1,k2,k3,k4,k5,k6,k7,k8⟩
  rw[hβ]at z0;cases z0;rw[hβ]at k1;obtain rfl:=aQ k1;simp only[aK]at k8;simp only[fR]at k6;obtain⟨F1,F2,x1,x2,rfl,rfl,k6,rfl,rfl⟩:=k6;simp only[aB]at k8 k3;have hd1:d1.size=usz:=jm d1 (by simp);obtain⟨aa,hA⟩:=hC _ _ _ k6;have hAs:(A aa).size=usz:=(lY aa).trans hd1;have rW:b∈g.φ i:=by rw[k8];simp
  have rb:∀y∈g.φ i,y∈fp g st.us:=fun y hy=>fL.2 ⟨_,hm,hy⟩;have UG:=h.us.lt b (rb b rW);have up:n0≤w.heap.size:=by rw[hs.base];exact hs.size
  have hlen:x1.length=usz:=by rw[hA.length,hAs]
  obtain⟨bb,oo,ee,p,q,root,⟨lh,hAF⟩,adJ,VR⟩:=hk aa b;have oc:gM w.heap (fun x=>g.Sh x∨x∈g.φ i) (.lc b 0 (.pt (A aa) 0)::ds) (c.args.toList.map a.eval):=by
   rw[w8];simp only[gM];refine⟨v,rest,b::F1,rfl,?_,by rw[hv];simp[D.fits,Value.oneCell'],fun x hx=>.inr (by rw[k8];exact hx),?_⟩
   ·rw[hv];have kr:c1.toList.length=c1.size:=by simp
    rw[k3,lP]at kr;simp only[f8];refine⟨.inr (by simp[Value.cells]),b,0,c1,e,(0,0),F1,by simp[Value.cells],rfl,by omega,k2,by omega,?_⟩;rw[k3,az,hAs,←hlen,List.take_left];exact hA
   refine tu h.us (fun x=>g.Sh x∨x∈g.φ i) w9 kf (AL _) ?_ (fun av Pw x hx=>.inl hx);intro av Pw lw;rw[aY.1 gF av Pw]at lw;cases lw
  have enter:(execOp a.eval o).run P w=.ok (.enter f (c.args.toList.map a.eval).toArray) w:=by
   obtain⟨fn,h1,h2,h3⟩:=lh;have rX:¬fn.body=none:=by cases hb:fn.body<;>simp_all
   have um : ¬ fn.name = "runtime.NumGoroutine" := by simpa using h3
   have ea:(List.map a.eval c.args.toList).toArray=Array.map a.eval c.args:=by apply aS;simp
   rw[ea];simp[execOp,ho,resolve,hc,Act.eval,Deferred.ofValue,invoke,callFunc,h1,rX,um]
  unfold Oper.wp;rw[enter,cL];refine(hAF w _ _ oc).mono ?_;rintro e2 w' ⟨v',F',G',rfl,hB,hR,ii,hF,hG⟩;have hh:∀b,b<w.heap.size→w'.heap[b]?=w.heap[b]?:=fun b hb=>hB.block b hb;have i9:hP w.heap ((i,.ar true nn usz [A aa])::fQ i (AV.soft i) st.us) (g.lp i (b::F1)) i (.ar true nn usz [A aa]):=by
   simp only[hP,Gh.lp,aK];refine⟨by simpa using kw,by simpa using hAs,.inr ⟨b,c1,e,F1,x1,rs,hβ,k2,k3,k4,by simpa using k5,?_,k7,rfl⟩⟩;simp only[fR];exact⟨F1,[],x1,[],by simp,by simp,hA,⟨rfl,rfl⟩⟩
  have adK:=gO h.us hm;rw[k8]at adK;obtain⟨GN,hV1⟩:=h.us.mut (h':=w.heap) hm (aU _) (fun _ _ _=>rfl) (.inr ⟨true,nn,usz,[d1],true,[A aa],rfl,rfl,rfl⟩) adK (fun x hx=>by
   have EG:x∈g.φ i:=by rw[k8];exact hx
   exact⟨EG,h.us.fz x (rb x EG)⟩) i9
  obtain⟨s7,yZ⟩:=GN.wide hB.size hh up [] (by simp);have hVt:∀t,fx w'.heap (st.mc i (.ar true nn usz [A aa])).us _ (lk (st.mc i (.ar true nn usz [A aa])).env t) (a.tmps.getD t undef):=fun t=>yZ _ _ (gT (fun av v hf hr=>hV1 _ _ hf hr) (h.rep t));have hS:ju n0 S0 M0 w0 (st.mc i (.ar true nn usz [A aa])) a w':=by
   refine⟨hs.ms,hs.mS,hs.tm,hs.base,hB.os.trans hs.os,hB.tape.trans hs.tape,hB.output.trans hs.output,bX hs.size hB.size,?_,_,s7,hVt⟩;intro x hx hM;rw[←hs.iD x hx hM];exact hh x (by omega)
  simp only[jl,jW]at hR;obtain⟨vs,rfl,X1,X2,Y1,Y2,v1,ws1,rfl,rfl,hw1,⟨rfl,⟨zb,wO⟩,hf1⟩,X3,X4,Y3,Y4,v2,ws2,rfl,rfl,rfl,⟨rfl,⟨rfl,KR,VL⟩,pz⟩,X5,X6,Y5,Y6,v3,ws3,rfl,rfl,rfl,⟨rfl,⟨rfl,Eo,hq2⟩,hf3⟩,rfl,rfl,rfl⟩:=hR;have adL:v1.oneCell'=true:=by simpa[D.fits]using hf1
  have VS:v2.oneCell'=true:=by simpa[D.fits]using pz
  have VT:v3.oneCell'=true:=by simpa[D.fits]using hf3
  rw[fP adL]at zb wO;rw[fP VS]at KR;rw[fP VT]at Eo;have KR:v2=p:=by simpa using KR
  have Eo:v3=q:=by simpa using Eo
  subst KR Eo;obtain⟨_,_,_,_,_,_,hpt,_⟩:=wO;have hpt:v1=.pointer (some ⟨bb,oo,none⟩):=by
   rcases zb with⟨_,_,zb⟩|zb
   simp at hpt zb;rw[hpt]at zb;cases zb;simpa using zb
  refine⟨_,?_,VR,?_⟩;rfl;have:=gW hS s7 hVt (d:=o.dst) (fun j hj=>h.dst j hj) (av:=.jS [if root=true then .pw i 0 0 else .im none (.sc (.pointer (some ⟨bb,oo,none⟩))),.im none (.sc v2),.im none (.sc v3)]) (v:=.tuple vs) ?_;rw[hd]at this⊢;exact this;simp only[fx,fA];refine⟨vs,rfl,v1,_,hw1,?_,v2,_,rfl,g8 (us:=(st.mc i (.ar true nn usz [A aa])).us) VS,v3,_,rfl,g8 (us:=(st.mc i (.ar true nn usz [A aa])).us) VT,rfl⟩;cases aaf:root with
  |true=>
   obtain⟨rfl,rfl⟩:=adJ aaf;simp only[aK,fx];exact⟨true,nn,usz,[A aa],bb,by simp[St.mc],by simp,h0,hβ,by rw[hpt];simp⟩
  |false=>
   simp only[kY,aH];rw[hpt];exact g8 (us:=(st.mc i (.ar true nn usz [A aa])).us) rfl
 exact hq.elim
def aaP(h:At n0 S0 M0 w0 st o a w g){d:Nat}{X:Ax.X}{Ys:List Ax.X}{kk:St→Prop}(ho:o.op=.call c)(hc:c.callee=.value (.func f))(hl:c.args.size=c.argTypes.size)
  (hx:(c.args.toList.zip c.argTypes.toList).mapM (fun p=>fY P p.2 p.1)=some (X::Ys)) (hd:o.dst=some d) (hq:Gb (st.ev X) P d f (Ys.map st.ev) st kk):o.wp P a w (ip n0 S0 M0 w0 st.n kk) Q':=by
 have wP:=mu (g:=g) h.rep (by simpa using hl) hx;have hs:=h.sat;unfold Gb at hq
 split at hq
 ·next i el j e1=>
  rcases hq with hq|hq
  case inr=>exact ZD h ho hc hl hx hd e1 hq
  unfold Ie at hq
  split at hq
  ·next nn usz es gZ=>
   obtain⟨gF,ds,fs,r,kf,hle,⟨lh,hA⟩,hk⟩:=hq
   dsimp only at hk
   have hm:=fB gZ;simp only[lC,fA]at wP;obtain⟨v,rest,w8,uu,w9⟩:=wP;rw[e1]at uu;obtain⟨b,F,hβ,p1,p2,p3⟩:=YL h.us uu hm;have rW:b∈g.φ i:=(h.us.each _ hm).iZ hβ;have lH:b∈fp g st.us:=fL.2 ⟨_,hm,rW⟩;have UG:=h.us.lt b lH;have up:n0≤w.heap.size:=by rw[hs.base];exact hs.size
   have oc:gM w.heap (fun x=>g.Sh x∨x=b) fs (c.args.toList.map a.eval):=by
    rw[w8];cases fs with
    |nil=>simp[D.AQ]at hle
    |cons e fs=>
     simp only[D.AQ]at hle;obtain⟨F',q1,q2⟩:=hle.1.1 _ _ _ p1;simp only[gM];refine⟨v,rest,F',rfl,q1,hle.1.2 _ p2,fun x hx=>p3 x (q2 x hx),?_⟩;refine tu h.us (fun x=>g.Sh x∨x=b) w9 kf hle.2 ?_ (fun av Pw x hx=>.inl hx);intro av Pw lw;rw[aY.1 gF av Pw]at lw;cases lw
   have enter:(execOp a.eval o).run P w=.ok (.enter f (c.args.toList.map a.eval).toArray) w:=by
    obtain⟨fn,h1,h2,h3⟩:=lh;have rX:¬fn.body=none:=by cases hb:fn.body<;>simp_all
    have um : ¬ fn.name = "runtime.NumGoroutine" := by simpa using h3
    have ea:(List.map a.eval c.args.toList).toArray=Array.map a.eval c.args:=by apply aS;simp
    rw[ea];simp[execOp,ho,resolve,hc,Act.eval,Deferred.ofValue,invoke,callFunc,h1,rX,um]
   unfold Oper.wp;rw[enter,cL];refine(hA w _ _ oc).mono ?_;rintro e2 w' ⟨v',F',G,rfl,hB,hR,ii,hF,hG⟩;have hh:∀b,b<w.heap.size→w'.heap[b]?=w.heap[b]?:=fun b hb=>hB.block b hb;obtain⟨GN,hK1⟩:=h.us.del i;have vL:b∉fp (g.drop i) (st.del i).us:=np h.us hm b rW;obtain⟨s7,yZ⟩:=GN.shr UG (fun gI=>hs.ms b gI (h.us.low b lH gI)) vL;obtain⟨hU3,hV3⟩:=s7.wide hB.size hh up G (fun x hx=>by
    rcases hG x hx with h1|h1
    exact .inr h1;exact .inl h1)
   have hH:∀x,x∈fp (g.drop i) (st.del i).us→x∈fp g st.us:=fun x hx=>(iM (g:=g) (g':=g.drop i) (fun j hj=>by simp[Gh.drop,hj])).subset hx;have hVt:∀t,fx w'.heap (st.del i).us _ (lk (st.del i).env t) (a.tmps.getD t undef):=fun t=>hV3 _ _ (yZ _ _ (gT (fun av v hf hr=>fx.iq hK1 hf hr) (h.rep t)));have hkq:∃(hf:(gS d true r).2=[]∨(st.del i).fresh (gS d true r).2=true),kk (((st.del i).iQ (gS d true r).2).kl (some d) (gS d true r).1):=by
    generalize (gS d true r).1=av at hk;generalize (gS d true r).2=us at hk;cases us with
    |nil=>exact⟨.inl rfl,hk⟩
    |cons x us=>exact⟨.inr hk.1,hk.2⟩
   obtain⟨hf,VR⟩:=hkq;obtain⟨g4,hU4,hv4,hV4⟩:=xT (st:=st.del i) hU3 (n:=d) hR ii (fun x hx gI=>by have:=(hF x hx).1;omega)
    (fun x hx jb => by
     have h1:=(hF x hx).1;have:=h.us.lt x (hH x jb);omega)
    (fun x hx lw => by
     have h1:=hF x hx;rcases lw with(h2|h2)|h2
     have:=(h.us.sh x h2).1;omega;subst h2;omega;exact h1.2.1 h2)
    (fun x hx=>(hF x hx).2.2) true (fun _ x hx=>.inr hx) hf
   have hS:ju n0 S0 M0 w0 ((st.del i).iQ (gS d true r).2) a w':=by
    refine⟨hs.ms,hs.mS,hs.tm,hs.base,hB.os.trans hs.os,hB.tape.trans hs.tape,hB.output.trans hs.output,bX hs.size hB.size,?_,g4,hU4,fun t=>hV4 _ _ (hVt t)⟩;intro x hx hM;rw[←hs.iD x hx hM];exact hh x (by omega)
   refine⟨_,?_,VR,?_⟩;rfl;have:=gW hS (g:=g4) hU4 (fun t=>hV4 _ _ (hVt t)) (d:=o.dst) (fun j hj=>h.dst j hj) hv4;rw[hd]at this⊢;exact this
  exact hq.elim
 exact hq.elim
def qX{x:D}(h:el<es.length):D.at (es.set el x) el=x:=by
 simp[D.at,h]
def Qg{e x d:D}(hj:j+1≤usz)(hx:x.fK=false)(hu:e.size=usz)(hw:j=0∧usz=1∨e.fK=true)(s8:e.fK=true→∀l,e=.ag l→l.length=usz):D.put usz (D.put usz e j 1 x) j 1 d=D.put usz e j 1 d:=by
 by_cases h0:j=0∧1=usz;simp[D.put,h0]
 have h1:¬(j=0∧usz=1):=fun h=>h0 ⟨h.1,h.2.symm⟩;have hA:=hw.resolve_left h1;cases e with
 |ag l=>
  have hl:=s8 rfl l rfl;have hc:x.cells=[x]:=by cases x<;>simp_all [D.cells,D.fK]
  have e1:(List.take j l++[x]).length=j+1:=by simp;omega
  simp only[D.put,h0,aH,hc];congr 1;congr 1
  ·rw[bz,du (by simp;omega),de,Nat.min_self]
  rw[←e1,List.drop_left]
 |_=>simp[D.fK]at hA
def OT{e q:D}(hj:j+1≤usz)(hq:D.sub e j 1 false=q)(hqa:q.fK=false)(hw:j=0∧usz=1∧e.fK=false∨e.fK=true∧usz≠1)(s8:∀l,e=.ag l→l.length=usz):D.put usz e j 1 q=e:=by
 cases e with
 |ag l=>
  have hl:=s8 l rfl;have gI:j<l.length:=by omega
  simp only[D.sub,kY,aH]at hq;have hg:l.getD j default=l[j]:=by simp[List.getD,bR gI]
  rw[hg]at hq;subst hq;have hc:(l[j]).cells=[l[j]]:=by
   generalize l[j]=x at hqa;cases x<;>simp_all [D.cells,D.fK]
  have h0:¬(j=0∧1=usz):=by
   rcases hw with⟨_,_,h⟩|⟨_,h⟩
   simp[D.fK]at h;exact fun h'=>h h'.2.symm
  simp only[D.put,h0,aH,hc];congr 1;rw[bz,List.singleton_append,List.getElem_cons_drop,bw]
 |_=>
  simp only[D.sub]at hq;subst hq;have h1:j=0∧1=usz:=by
   rcases hw with h|h
   exact⟨h.1,h.2.1.symm⟩;simp[D.fK]at h
  simp[D.put,h1]
def Lf{e:D}{cs:List Value}(hr:f8 h e F cs)(hu:e.size=usz):∀l,e=.ag l→l.length=usz:=by
 rintro l rfl;simp only[f8]at hr;rw[←hu,D.size,D.ja hr.1]
def gr.inner(hu:gr h n0 S0 M0 us g){k el j gQ:Nat}{jc:Option Bool}{ds:List D}(hm:(k,U.ar true nn usz es)∈us)(hb:g.β k=some b)
  (mD:el<es.length) (hj:j+1≤usz) (hw:j=0∧usz=1∧(D.at es el).fK=false∨(D.at es el).fK=true∧usz≠1) (hd:D.sub (D.at es el) j 1 false=.ls jc gQ ds) {c:Array Value} {e:TypeId} (hc:h[b]?=some (.cells c e (0,0)))
  {b' off' len' cap':Nat} (Pa:c[el*usz+j]?=some (.slice (some ⟨b',off',none⟩) len' cap')) (gw:ds≠[]):
  ∃c' e' F1,len'=ds.length∧h[b']?=some (.cells c' e' (0,0))∧b'≠b∧off'+cap'*gQ≤c'.size∧ds.length≤cap'∧ds.length≤gp∧(∀d∈ds,d.size=gQ)∧fR h ds F1 ((c'.toList.drop off').take (ds.length*gQ))∧b'∈g.φ k∧
   ∀(h':ij)(c'':Array Value)(K9:List D)(F2:List Nat),h'.size=h.size→h'[b']?=some (.cells c'' e' (0,0))→(∀x,x≠b'→h'[x]?=h[x]?)→c''.size=c'.size→K9.length=ds.length→(∀d∈K9,d.size=gQ)→F2.Sublist F1→
    fR h K9 F2 ((c''.toList.drop off').take (ds.length*gQ))→∃g',gr h' n0 S0 M0 ((k,.ar true nn usz (ni es usz el j (.ls jc gQ K9)))::fQ k (AV.soft k) us) g'∧
     ∀av v,av.soft k=false→fx h us g av v→fx h' ((k,.ar true nn usz (ni es usz el j (.ls jc gQ K9)))::fQ k (AV.soft k) us) g' av v:=by
 have ho:=hu.each _ hm;simp only[hP]at ho;obtain⟨kw,hs,ho⟩:=ho;rcases ho with⟨z1,_⟩|⟨b0,c0,e0,G,cs,rest,k1,k2,k3,k4,k5,k6,k7,k8⟩
 rw[hb]at z1;cases z1;rw[hb]at k1;obtain rfl:=aQ k1;rw[hc]at k2;injection k2 with k2;injection k2 with k2 k2';subst k2 k2';simp only[aK]at k8;have jm:(D.at es el).size=usz:=by rw[D.j7 mD];exact hs _ (aZ mD)
 have VU:j=0∧1=usz∨(D.at es el).fK=true:=hw.elim (fun h=>.inl ⟨h.1,h.2.1.symm⟩) (fun h=>.inr h.1);have hle:el*usz+usz≤es.length*usz:=by
  have:=ba usz (show el+1≤es.length by omega);rw[a9]at this;omega
 have lh:=k6.length;rw[D.fG hs]at lh;have aag:cs[el*usz+j]?=some (.slice (some ⟨b',off',none⟩) len' cap'):=by
  have h1:c.toList[el*usz+j]?=some (.slice (some ⟨b',off',none⟩) len' cap'):=by rw[cr];exact Pa
  rw[k3,da (by omega)]at h1;exact h1
 generalize mg:Value.slice (some ⟨b',off',none⟩) len' cap'=cell at Pa aag;have hjk:f8 h D.jk [] [cell]:=by
  simp only[f8];exact⟨trivial,cell,rfl,by rw[←mg];rfl⟩
 obtain⟨A,B,C,rfl,y1,y2,y3⟩:=kF k6 hjk hs mD (sz:=1) (by simp[D.size]) hj VU;have y3:=y3 false (by simp) (by simp);have Px:(cs.drop (el*usz+j)).take 1=[cell]:=by
  have gI:el*usz+j<cs.length:=(bF.1 aag).1;rw[cy gI];have:=(bF.1 aag).2;simp[this]
 have yJ:cs.take (el*usz+j)++([cell]++cs.drop (el*usz+j+1))=cs:=by
  have e1:cs.drop (el*usz+j+1)=(cs.drop (el*usz+j)).drop 1:=by rw[ch]
  rw[←Px,e1,bw,bw]
 rw[yJ]at y1;rw[Px,hd]at y3;simp only[f8]at y3;rcases y3 with⟨p,q1,q2,_⟩|⟨b1,o1,zy,c',e',fr,F1,q1,rfl,q3,q4,q5,q6,q7,q8,q9⟩
 exact absurd q2 gw;rw[←mg]at q1;simp only[bO,dL,oS,Addr.mk.injEq,bm]at q1;obtain⟨⟨rfl,rfl⟩,rfl,rfl⟩:=q1;have ii:=gO hu hm;rw[k8]at ii;have hφin:∀x∈b::(A++(b'::F1++C)),x∈fp g us:=fun x hx=>fL.2 ⟨_,hm,by rw[k8];exact hx⟩;have aah:b'∈g.φ k:=by rw[k8];simp
 have hz3:=(hu.fz b' (fL.2 ⟨_,hm,aah⟩)).cells q6;subst hz3;have P2:b'≠b:=by
  rintro rfl;exact(aP.1 ii).1 (by simp)
 refine⟨c',e',F1,rfl,q6,P2,q7,q4,q5,q8,q9,aah,?_⟩;intro h' c'' K9 F2 hhs hhb hh lY wO vG hH hr2;have El:∀x∈A++([]++C),x≠b':=by
  rintro x hx rfl;rw[aP,aT,bp,aP]at ii;rcases ax.1 hx with hx|hx
  exact ii.2.2.2 x hx x (by simp) rfl;exact ii.2.2.1.1 (by simp at hx;simp[hx])
 have ahH:b'∉F1:=by
  intro hx;rw[aP,aT,bp,aP]at ii;exact ii.2.2.1.1 (by simp[hx])
 have y1':fR h' (es.set el (D.put usz (D.at es el) j 1 D.jk)) (A++([]++C)) cs:=y1.frame fun x hx=>hh x (El x hx);have vJ:f8 h' (.ls jc gQ K9) (b'::F2) [cell]:=by
  simp only[f8];refine .inr ⟨b',off',cap',c'',e',(0,0),F2,by rw[←mg,wO],rfl,q3,by omega,by omega,hhb,by omega,vG,?_⟩;rw[wO];exact hr2.frame fun x hx=>hh x (fun e=>ahH (e▸hH.subset hx))
 have zA:el<(es.set el (D.put usz (D.at es el) j 1 D.jk)).length:=by simpa using mD
 have adM:∀l,D.at es el=.ag l→l.length=usz:=by
  have:=k6.pick mD;obtain⟨_,F2',_,_,c2,_,_,_,_,r2,_⟩:=this;rw[D.j7 mD];rw[D.j7 mD]at jm;exact Lf r2 jm
 have VV:D.put usz (D.put usz (D.at es el) j 1 D.jk) j 1 (.ls jc gQ K9)=D.put usz (D.at es el) j 1 (.ls jc gQ K9):=
  Qg hj rfl jm (hw.elim (fun h=>.inl ⟨h.1,h.2.1⟩) (fun h=>.inr h.1)) (fun _=>adM)
 have K8:j=0∧1=usz∨(D.at (es.set el (D.put usz (D.at es el) j 1 D.jk)) el).fK=true:=by
  rw[qX mD];rcases hw with h1|h1
  exact .inl ⟨h1.1,h1.2.1.symm⟩
  right
  have h0:¬(j=0∧1=usz):=fun h=>h1.2 h.2.symm;cases hE:D.at es el with
  |ag l=>simp[D.put,h0,D.fK]
  |_=>rw[hE]at h1;simp[D.fK]at h1
 obtain⟨A2,B2,C2,adN,z1,z2,z3⟩:=kF y1' vJ y2 zA (sz:=1) (by simp[D.size]) hj K8;have z3:=z3 false (by simp) (by simp);rw[Px,qX mD]at z3;have hB2:B2=[]:=by
  have:D.sub (D.put usz (D.at es el) j 1 D.jk) j 1 false=D.jk:=by
   by_cases h0:j=0∧1=usz;simp[D.put,h0,D.sub]
   have h1:=VU.resolve_left h0;cases hE:D.at es el with
   |ag l=>
    have hl:=adM l hE;simp only[D.put,h0,aH,D.sub,kY,D.cells];rw[bz,bi,eo (by simp;omega)];simp;rw[show j-min j l.length=0 by omega]
    rfl
   |_=>rw[hE]at h1;simp[D.fK]at h1
  rw[this]at z3;simp only[f8]at z3;exact z3.1
 subst hB2;rw[yJ,qX mD,VV,dy]at z1;rw[qX mD,VV,dy]at z2;simp only[be]at adN;have VW:(A2++((b'::F2)++C2)).Perm ((b'::F2)++(A++C)):=by
  rw[adN];exact(List.perm_append_comm_assoc _ _ _)
 have td:(b::(A2++((b'::F2)++C2))).Nodup:=by
  refine(List.Perm.cons b VW).nodup_iff.2 ?_;have KR:(b::(A++(b'::F1++C))).Perm (b::((b'::F1)++(A++C))):=List.Perm.cons b (List.perm_append_comm_assoc _ _ _);have:=KR.nodup_iff.1 ii;refine eT ?_ this;exact List.Sublist.cons_cons _ (ez (List.Sublist.cons_cons _ hH) (dw _))
 have adO:∀x∈b::(A2++((b'::F2)++C2)),x∈g.φ k:=by
  intro x hx;rw[k8];rcases aj.1 hx with rfl|hx
  simp;have:=VW.subset hx;simp only[ax,aj]at this⊢;rcases this with(h1|h1)|h1|h1
  exact .inr (.inr (.inl (.inl h1)));exact .inr (.inr (.inl (.inr (hH.subset h1))));exact .inr (.inl h1);exact .inr (.inr (.inr h1))
 have aai:∀x∈b::(A2++((b'::F2)++C2)),mO h' x:=by
  intro x hx
  by_cases e:x=b';subst e;exact .inl ⟨_,_,hhb⟩;exact(hu.fz x (fL.2 ⟨_,hm,adO x hx⟩)).eq (hh x e)
 have i9:hP h' ((k,.ar true nn usz (ni es usz el j (.ls jc gQ K9)))::fQ k (AV.soft k) us) (g.lp k (b::(A2++((b'::F2)++C2)))) k (.ar true nn usz (ni es usz el j (.ls jc gQ K9))):=by
  simp only[hP,Gh.lp,aK];refine⟨by simpa[ni]using kw,z2,.inr ⟨b,c,e,_,cs,rest,hb,by rw[hh b (di P2)];exact hc,k3,k4,by simpa[ni]using k5,z1,k7,rfl⟩⟩
 obtain⟨m1,m2⟩:=hu.mut (h':=h') hm (by omega) (fun x _ hx=>hh x (fun e=>hx (e▸aah))) (.inr ⟨true,nn,usz,es,true,ni es usz el j (.ls jc gQ K9),rfl,rfl,by simp[ni]⟩) td (fun x hx=>⟨adO x hx,aai x hx⟩) i9;exact⟨_,m1,m2⟩
def U3(h:At n0 S0 M0 w0 st o a w g){u1 u2:TypeId}{sz:Nat}{p:Operand}{A X:Ax.X}{f:St→Prop}(ho:o.op=.store t p x)(hd:o.dst=none)(hp:fY P u1 p=some A)(hx:fY P u2 x=some X)
  (hz:io P t=some sz) (hq:TL (st.ev A) (st.ev X) st sz f):o.wp P a w (ip n0 S0 M0 w0 st.n f) Q':=by
 by_cases gw:∀id el j gQ ic j',st.ev A≠.pq id el j gQ ic j';exact acT h gw ho hd hp hx hz hq
 have ep:=h.ev_ hp;have ex:=h.ev_ hx;unfold TL at hq
 split at hq
 ·next id el j e1=>exact absurd (fun _ _ _ _ _ _=>by rw[e1];simp) gw
 ·next id el j gQ ic j' e1=>
  rw[e1]at ep;simp only[fx]at ep;obtain⟨ow0,KO,j8,EC,b,c,ty,b',off',len',cap',r1,r2,r3,r4,r5,r6,hv⟩:=ep;obtain⟨own,d,fS,g',F,hk,T,p1,p2,p3,p4,p5⟩:=nJ 12 h.us (iU.refl h.us h.rep) ex hq;simp only[WT,stQ]at hk
  split at hk
  ·next nn usz es gZ=>
   unfold stI at hk
   split at hk
   ·next jc gv ds kf=>
    obtain⟨⟨rfl,q1,q2,q3,q4,q5,q6,q7,q8⟩,hf⟩:=hk;have hm:=fB gZ;obtain⟨u0,EF,jP⟩:=T.mem _ _ hm;have:=h.us.uniq EF r1;subst this;simp only[U.s9]at jP;obtain⟨rfl,hlen⟩:=jP;obtain⟨gb,_,gc⟩:=T.gh _ _ hm;have hβ:g'.β id=some b:=by rw[gb];exact r4
    obtain⟨c',e',F1,rfl,i1,i2,i3,i4,imax,i5,i6,i8,i7⟩:=T.us.inner hm hβ q4 r3 q6 kf r5 r6 (by rintro rfl;simp at q5);have hF:F=[]:=iB q8 p1;subst hF;have uB:(a.eval x).cells.size=sz:=by
     have:=p1.length;simp at this;omega
    have hle:ic*gv+gv≤ds.length*gv:=by
     have:=ba gv (show ic+1≤ds.length by omega);rw[a9]at this;omega
    have Z6:ds.length*gv≤cap'*gv:=ba _ i4;have gk:=sQ (P:=P) (w:=w) hz (off:=off'+ic*gv+j') uB i1 (by omega) p1.one;have hw6:j'=0∧sz=gv∨(D.at ds ic).fK=true:=q7;obtain⟨A1,B1,C1,rfl,y1,y2,_⟩:=kF i6 p1 i5 q5 q1 q3 hw6;have hl6:=i6.length;have lh:((c'.toList.drop off').take (ds.length*gv)).length=ds.length*gv:=by simp;omega
    generalize kx:(c'.toList.take (off'+ic*gv+j')++(a.eval x).cells.toList++c'.toList.drop (off'+ic*gv+j'+sz)).toArray=c2 at gk;have K7:(a.eval x).cells.toList.length=sz:=by simpa using uB
    have UJ:c'.toList.length=c'.size:=by simp
    have Py:c2.size=c'.size:=by
     rw[←kx];simp only[dN,lP,bk,cK,K7,UJ];omega
    have adP:(c2.toList.drop off').take (ds.length*gv)=((c'.toList.drop off').take (ds.length*gv)).take (ic*gv+j')++((a.eval x).cells.toList++((c'.toList.drop off').take (ds.length*gv)).drop (ic*gv+j'+sz)):=by
     rw[←kx]
     apply et
     intro i;simp only[dp,cJ,List.getElem?_append,bk,lP,cK,K7,UJ];have z1:min (off'+ic*gv+j') c'.size=off'+ic*gv+j':=by omega
     have z2:min (ic*gv+j') (min (ds.length*gv) (c'.size-off'))=ic*gv+j':=by omega
     rw[z1,z2]
     by_cases g1:i<ds.length*gv
     ·rw[an g1]
      by_cases g2:i<ic*gv+j'
      ·rw[an (by omega),an (by omega),an (by omega),an g2,an g2,an g1]
      by_cases g3:i<ic*gv+j'+sz
      rw[an (by omega),al (by omega),al g2,an (by omega)];congr 1;omega;rw[al (by omega),al g2,al (by omega),an (by omega)];congr 1;omega
     rw[al g1,al (by omega),al (by omega),al (by omega)]
    obtain⟨g2,s7,yZ⟩:=i7 (w.setRow b' c2).heap c2 (ds.set ic (D.put gv (D.at ds ic) j' sz d)) (A1++([]++C1)) (bS _ _ _) (cY w b' c' _ e' _ i1) (fun y hy=>co w b' y _ hy) Py (by simp) y2
     (by simp only[be];exact ez (dw _) (ew _ _)) (by rw[adP];exact y1)
    have j9:(execOp a.eval o).run P w=.ok .skip (w.setRow b' c2):=by
     simp[execOp,ho,hv,gk]
    unfold Oper.wp;rw[j9,dE,hd];have jD:=h.sat;refine⟨fS.mc id (.ar true nn j8 (ni es j8 el j (.ls jc gv (ds.set ic (D.put gv (D.at ds ic) j' sz d))))),T.n,hf,jD.ms,jD.mS,?_,jD.base,jD.os,jD.tape,jD.output,?_,?_,g2,s7,fun t=>gT (fun av v hf hr=>yZ _ _ hf hr) (T.rep t)⟩
    ·show a.tmps.size=_
     rw[jD.tm];exact T.n.symm
    rw[bS];exact jD.size;intro y hy xa;have:y≠b':=by
     rintro rfl;exact xa (T.us.low y (fL.2 ⟨_,hm,i8⟩) hy)
    rw[co w b' y _ this];exact jD.iD y hy xa
   exact hk.elim
  exact hk.elim
 exact hq.elim
def aaY(h:At n0 S0 M0 w0 st o a w g){u1 u2:TypeId}{sz:Nat}{p:Operand}{A X:Ax.X}{f:St→Prop}{tk:Option Nat}{b q id:Nat}(ho:o.op=.store t p x)(hd:o.dst=none)(hp:fY P u1 p=some A)(hx:fY P u2 x=some X)
  (hz:io P t=some sz) (e1:st.ev A=.im tk (.sc (.pointer (some ⟨b,q,none⟩)))) (hq:it 12 st (st.ev X) (Ya id b q sz f)):o.wp P a w (ip n0 S0 M0 w0 st.n f) Q':=by
 have ep:=h.ev_ hp;rw[e1]at ep;have hv:=gU ep;have ex:=h.ev_ hx;obtain⟨own,d,fS,g',F,hk,T,p1,p2,p3,p4,p5⟩:=nJ 12 h.us (iU.refl h.us h.rep) ex hq;simp only[Ya,O6]at hk
 split at hk
 ·next nn usz d1 gZ=>
  obtain⟨rfl,d2,⟨q1,q2,q3⟩,hf⟩:=hk;have hm:=fB gZ;have hU:=T.us.each _ hm;simp only[hP]at hU;obtain⟨kw,hs,hU⟩:=hU;rcases hU with⟨_,z1,_⟩|⟨b1,c1,e2,G,cs,rest,k1,k2,k3,k4,k5,k6,k7,k8⟩
  cases z1;simp only[aK]at k8;simp only[fR]at k6;obtain⟨F1,F2,x1,x2,rfl,rfl,k6,rfl,rfl⟩:=k6;simp only[aB]at k8 k3;have ii:=gO T.us hm;rw[k8]at ii;have zw:=p3.1 rfl;have rb:∀y∈g'.φ id,y∈fp g' fS.us:=fun y hy=>fL.2 ⟨_,hm,hy⟩;have UK:∀y∈F1,y∉F:=fun y hy hyF=>(zw.2 y hyF).2.2.1 (rb y (by rw[k8];simp[hy]));obtain⟨c,e,fr,m1,m2,m3,m4⟩:=q3 w.heap F1 F x1 (a.eval x).cells.toList k6 (aP.1 ii).2 p1 zw.1 UK;have rW:b∈g'.φ id:=by rw[k8];simp[m1]
  have hz3:=(T.us.fz b (rb b rW)).cells m2;subst hz3;have uB:(a.eval x).cells.size=sz:=by
   have:=p1.length;simp at this;omega
  have gk:=sQ (P:=P) (w:=w) hz (off:=q) uB m2 m3 p1.one;generalize vJ:(c.toList.take q++(a.eval x).cells.toList++c.toList.drop (q+sz)).toArray=new at gk;have Cc:∀y,y≠b→(w.setRow b new).heap[y]?=w.heap[y]?:=fun y hy=>co w b y _ hy;have P2:(w.setRow b new).heap[b]?=some (.cells new e (0,0)):=cY w b c _ e _ m2;obtain⟨F',n1,n2,n3⟩:=m4 (w.setRow b new).heap new Cc P2 (by rw[←vJ];simp);have ahI:b1≠b:=fun e=>(aP.1 ii).1 (e▸m1);have vL:b1∈g'.φ id:=by rw[k8];simp
  have i9:hP (w.setRow b new).heap ((id,.ar true nn usz [d2])::fQ id (AV.soft id) fS.us) (g'.lp id (b1::F')) id (.ar true nn usz [d2]):=by
   simp only[hP,Gh.lp,aK];refine⟨by simpa using kw,?_,.inr ⟨b1,c1,e2,F',x1,rest,k1,by rw[Cc b1 ahI];exact k2,k3,k4,by simpa using k5,?_,k7,rfl⟩⟩;have:=hs d1 (by simp);simp[q1,this];simp only[fR];exact⟨F',[],x1,[],by simp,by simp,n1,⟨rfl,rfl⟩⟩
  have aai:∀y,(y∈g'.φ id∨y∈F)→mO (w.setRow b new).heap y:=by
   intro y hy
   by_cases ey:y=b;subst ey;exact .inl ⟨_,_,P2⟩
   have:mO w.heap y:=hy.elim (fun hy=>T.us.fz y (rb y hy)) (fun hy=>h.us.fz y (zw.2 y hy).2.2.2);exact this.eq (Cc y ey)
  have l9:∀y∈b1::F',y∈g'.φ id∨y∈F:=by
   intro y hy;rcases aj.1 hy with rfl|hy
   exact .inl vL;rcases n3 y hy with hy|hy
   exact .inl (by rw[k8];simp[hy]);exact .inr hy
  have td:(b1::F').Nodup:=by
   refine aP.2 ⟨fun hy=>?_,n2⟩;rcases n3 b1 hy with hy|hy
   exact(aP.1 ii).1 hy;exact(zw.2 b1 hy).2.2.1 (rb b1 vL)
  obtain⟨s7,yZ⟩:=T.us.adF (h':=(w.setRow b new).heap) hm (by rw[bS];exact aU _) (fun y _ hy=>Cc y (fun e=>hy (e▸rW))) (.inr ⟨true,nn,usz,[d1],true,[d2],rfl,rfl,rfl⟩) td
   (fun y hy=>⟨(l9 y hy).elim .inl fun hy=>.inr ⟨by rw[bS];exact h.us.lt y (zw.2 y hy).2.2.2,(zw.2 y hy).1,(zw.2 y hy).2.1,(zw.2 y hy).2.2.1⟩,aai y (l9 y hy)⟩) i9
  have j9:(execOp a.eval o).run P w=.ok .skip (w.setRow b new):=by
   simp[execOp,ho,hv,gk]
  unfold Oper.wp;rw[j9,dE,hd];have jD:=h.sat;refine⟨fS.mc id (.ar true nn usz [d2]),T.n,hf,jD.ms,jD.mS,?_,jD.base,jD.os,jD.tape,jD.output,?_,?_,_,s7,fun t=>gT (fun av v hf hr=>yZ _ _ hf hr) (T.rep t)⟩
  ·show a.tmps.size=_
   rw[jD.tm];exact T.n.symm
  rw[bS];exact jD.size;intro y hy xa;have:y≠b:=by
   rintro rfl;exact xa (T.us.low y (rb y rW) hy)
  rw[co w b y _ this];exact jD.iD y hy xa
 exact hk.elim
def fR.wx{X:List D}{cs vc:List Value}{sz off:Nat}(hr:fR h es G cs)(hs:∀d∈es,d.size=sz)(hx:fR h X [] vc)(hl:off+X.length≤es.length)(hv:vc.length=X.length*sz):
  ∃G2,fR h (es.take off++(X++es.drop (off+X.length))) G2 (cs.take (off*sz)++(vc++cs.drop (off*sz+X.length*sz)))∧G2.Sublist G:=by
 have e:es=es.take off++((es.drop off).take X.length++(es.drop off).drop X.length):=by rw[bw,bw]
 have wL:fR h (es.take off++((es.drop off).take X.length++(es.drop off).drop X.length)) G cs:=by rw[←e];exact hr
 obtain⟨F1,F23,c1,ZW,rfl,rfl,s1,KN⟩:=wL.split;obtain⟨F2,F3,c2,c3,rfl,rfl,s2,s3⟩:=KN.split;have l1:c1.length=off*sz:=by
  rw[s1.length,D.fG (sz:=sz) fun d hd=>hs d (bf hd),bk,bl (by omega)]
 have l2:c2.length=X.length*sz:=by
  rw[s2.length,D.fG (sz:=sz) fun d hd=>hs d (cd (bf hd)),bk,cK,bl (by omega)]
 refine⟨F1++([]++F3),?_,?_⟩
 ·rw[←l1,←l2];have e2:(c1++(c2++c3)).drop (c1.length+c2.length)=c3:=by rw[←bz,←lP,List.drop_left]
  rw[List.take_left,e2,←ch];exact s1.append (hx.append s3)
 simp only[be];exact ez (dw _) (ew _ _)
def DG{u:TypeId}{sz:Nat}(ht:P.underlying t=some (.slice e))(hz:io P e=some sz){ty:TypeId}{dst src:Value}{ao:Option Addr}{dl dc:Nat}(uv:dst=.slice ao dl dc){nn:Option Bool}{ds:List D}{F:List Nat}
  (re:f8 w.heap (.ls nn sz ds) F [src]) (GG:fC ds=true):
  ∃nc,fR w.heap (ds.take (min dl ds.length)) [] nc∧nc.length=min dl ds.length*sz∧
   (min dl ds.length=0→(Builtin.copy_ #[t,u] ty #[dst,src]).run P w=.ok (.int .i64 (min dl ds.length:Nat)) w)∧
   (0 < min dl ds.length → ∀ b off c e', ao = some ⟨b, off, none⟩ → w.heap[b]? = some (.cells c e' (0, 0)) → off + min dl ds.length * sz ≤ c.size →
    (Builtin.copy_ #[t,u] ty #[dst,src]).run P w=.ok (.int .i64 (min dl ds.length:Nat)) (w.setRow b (c.toList.take off++nc++c.toList.drop (off+min dl ds.length*sz)).toArray)):=by
 obtain⟨j,hj,GO⟩:∃j,P.info? e=some j∧j.size=sz:=by
  unfold io at hz;cases hj:P.info? e with
  |none=>rw[hj]at hz;simp at hz
  |some j=>rw[hj]at hz;simp at hz;exact⟨j,rfl,hz⟩
 subst uv;simp only[f8]at re;rcases re with⟨p,q1,rfl,rfl,_⟩|⟨b0,o0,aaj,c0,e0,fr0,F',q1,rfl,q3,q4,q5,q6,q7,q8,q9⟩
 ·simp only[bO,bm]at q1;subst q1;refine⟨[],by simp[fR],by simp,fun _=>?_,fun h=>by simp at h⟩;cases p with
  |none=>cases ao<;>simp[Builtin.copy_,aW ht,Builtin.lenOf,Builtin.firstCells,sizeOf,typeInfo,hj,storeCells,goInt]
  |some p=>cases ao<;>simp[Builtin.copy_,aW ht,Builtin.lenOf,Builtin.firstCells,sizeOf,typeInfo,hj,storeCells,goInt,loadCells,loadCellsFrom]
 simp only[bO,bm]at q1;subst q1;generalize hn:min dl ds.length=n;have GL:n≤ds.length:=by omega
 have HW:ds=ds.take n++ds.drop n:=(bw _ _).symm;have q9':=q9;rw[HW]at q9';obtain⟨F1,F2,nc,c2,h1,h2,s1,s2⟩:=q9'.split;have hF1:F1=[]:=by
  have ahJ:fC (ds.take n)=true:=by
   have key:∀(l:List D)(m:Nat),fC l=true→fC (l.take m)=true:=by
    intro l
    induction l with
    |nil=>intro m _;simp[fC]
    |cons x l ih=>
     intro m hm;simp only[fC,bA]at hm;cases m with
     |zero=>simp[fC]
     |succ m=>simp[fC,hm.1,ih m hm.2]
   exact key _ _ GG
  exact jE ahJ s1
 subst hF1;have lnc:nc.length=n*sz:=by
  rw[s1.length,D.fG (sz:=sz) fun d hd=>q8 d (bf hd),bk,bl GL]
 refine⟨nc,s1,lnc,?_⟩;have hf:(Builtin.firstCells j.size n (.slice (some ⟨b0,o0,none⟩) ds.length aaj)).run P w=.ok nc.toArray w:=by
  refine run_firstCells_some (P:=P) w j.size n ⟨b0,o0,none⟩ ds.length aaj nc (by rw[GO];exact lnc) ?_;intro i v hv;have gI:i<nc.length:=(bF.1 hv).1;have h3:((c0.toList.drop o0).take (ds.length*sz))[i]?=some v:=by rw[←HW]at h2;rw[h2,da gI];exact hv
  have hle:n*sz≤ds.length*sz:=ba _ GL;rw[dr (by omega),cJ,cr]at h3;rw[show(⟨b0,o0,none⟩:Addr).add i=⟨b0,o0+i,none⟩by simp[Addr.add],rG q6];exact h3
 have adQ:Nat.min ds.length dl=n:=by rw[←hn];exact Nat.min_comm _ _
 have base:∀(w':World),(storeCells (ao.getD default) nc).run P w=.ok () w'→(ao=none→w'=w)→(Builtin.copy_ #[t,u] ty #[.slice ao dl dc,.slice (some ⟨b0,o0,none⟩) ds.length aaj]).run P w=.ok (.int .i64 n) w':=by
  intro w' rO adR;cases ao with
  |none=>
   obtain rfl:=adR rfl;simp[Builtin.copy_,aW ht,Builtin.lenOf,adQ,sizeOf,typeInfo,hj,hf,goInt]
  |some a0=>
   simp only[cS]at rO;simp[Builtin.copy_,aW ht,Builtin.lenOf,adQ,sizeOf,typeInfo,hj,hf,rO,goInt]
 refine⟨fun h0=>base w ?_ (fun _=>rfl),fun _=>?_⟩
 ·have:nc=[]:=by
   have:nc.length=0:=by rw[lnc,h0];simp
   exact eX.1 this
  subst this;simp[storeCells]
 intro b off c e' hao hb hle;refine base _ ?_ (by rw[hao];simp);subst hao;have:=ff P b off e' nc 0 c w hb (by omega) s1.one;simpa[lnc]using this
def gr.again(hu:gr h n0 S0 M0 us g){k:Nat}(hm:(k,U.ar true nn usz es)∈us):
  ∃g',gr h n0 S0 M0 ((k,.ar true nn usz es)::fQ k (AV.soft k) us) g'∧∀av v,av.soft k=false→fx h us g av v→fx h ((k,.ar true nn usz es)::fQ k (AV.soft k) us) g' av v:=by
 have ho:=hu.each _ hm;obtain⟨m1,m2⟩:=hu.mut (h':=h) hm (aU _) (fun _ _ _=>rfl) (.inr ⟨true,nn,usz,es,true,es,rfl,rfl,rfl⟩) (gO hu hm) (fun x hx=>⟨hx,hu.fz x (fL.2 ⟨_,hm,hx⟩)⟩)
  (by simp only[hP,Gh.lp,aK]at ho⊢;exact ho)
 exact⟨_,m1,m2⟩
def EV{c nc:List Value}{off' L p m:Nat}(h1:off'+L≤c.length)(h2:p+m≤L)(hn:nc.length=m):
  ((c.take (off'+p)++nc++c.drop (off'+p+m)).drop off').take L=((c.drop off').take L).take p++(nc++((c.drop off').take L).drop (p+m)):=by
 apply et
 intro i;simp only[dp,cJ,List.getElem?_append,bk,lP,cK,hn];have z1:min (off'+p) c.length=off'+p:=by omega
 have z2:min p (min L (c.length-off'))=p:=by omega
 rw[z1,z2]
 by_cases g1:i<L
 ·rw[an g1]
  by_cases g2:i<p
  ·rw[an (by omega),an (by omega),an (by omega),an g2,an g2,an g1]
  by_cases g3:i<p+m
  rw[an (by omega),al (by omega),al g2,an (by omega)];congr 1;omega;rw[al (by omega),al g2,al (by omega),an (by omega)];congr 1;omega
 rw[al g1,al (by omega),al (by omega),al (by omega)]
def abB(h:At n0 S0 M0 w0 st o a w g){c:Call}{e:TypeId}{sz:Nat}{y:Operand}{X Y:Ax.X}{f:St→Prop}(ho:o.op=.call c)(hc:c.callee=.builtin .copy)(ha:c.args= #[x,y])(nA:c.argTypes= #[t,t])
  (ht:P.underlying t=some (.slice e)) (hz:io P e=some sz) (hX:fY P t x=some X) (hY:fY P t y=some Y) (hq:LK (st.ev X) (st.ev Y) o.dst sz st f):o.wp P a w (ip n0 S0 M0 w0 st.n f) Q':=by
 have ex:=h.ev_ hX;have ey:=h.ev_ hY;have hs:=h.sat;unfold LK Im at hq
 split at hq
 ·next nn gv ds UL=>
  obtain⟨⟨rfl,Ej,GG⟩,hq⟩:=hq;obtain⟨F,y1,y2,_⟩:=tn h.us ey UL;rw[fP y2]at y1;have y1:f8 w.heap (.ls nn gv ds) F [a.eval y]:=y1;have fin:∀{id n:Nat} {u:U} {w':World},(Builtin.copy_ #[t,t] o.type #[a.eval x,a.eval y]).run P w=.ok (.int .i64 (n:Nat)) w'→w'.os=w.os→w'.tape=w.tape→w'.output=w.output→w.heap.size≤w'.heap.size→(∀b,b<n0→¬M0 b→w'.heap[b]?=w.heap[b]?)→
    (∃g',gr w'.heap n0 S0 M0 ((id,u)::fQ id (AV.soft id) st.us) g'∧∀av v,av.soft id=false→fx w.heap st.us g av v→fx w'.heap ((id,u)::fQ id (AV.soft id) st.us) g' av v)→
    f ((st.mc id u).kl o.dst (.im none (.sc (.int .i64 n))))→o.wp P a w (ip n0 S0 M0 w0 st.n f) Q':=by
   rintro id n u w' gk e1 e2 e3 jm hold ⟨g',hU,hV⟩ hf;unfold Oper.wp;have j9:(execOp a.eval o).run P w=.ok (.value (.int .i64 (n:Nat))) w':=by
    simp[execOp,ho,resolve,hc,ha,nA,invoke,builtin,gk,Result.andThen]
   rw[j9];have hS:ju n0 S0 M0 w0 (st.mc id u) a w':=by
    refine⟨hs.ms,hs.mS,hs.tm,hs.base,e1.trans hs.os,e2.trans hs.tape,e3.trans hs.output,bX hs.size jm,?_,g',hU,fun t=>gT (fun av v hf hr=>hV av v hf hr) (h.rep t)⟩;intro b hb hm;rw[hold b hb hm];exact hs.iD b hb hm
   refine⟨(st.mc id u).kl o.dst (.im none (.sc (.int .i64 n))),?_,hf,?_⟩
   ·cases o.dst<;>rfl
   exact gW hS hU (fun t=>gT (fun av v hf hr=>hV av v hf hr) (h.rep t)) (d:=o.dst) (fun j hj=>h.dst j hj) (g8 rfl)
  have hw0:∀{b:Nat} {r:Array Value},(w.setRow b r).os=w.os∧(w.setRow b r).tape=w.tape∧(w.setRow b r).output=w.output:=⟨rfl,rfl,rfl⟩;have rP:∀n:Nat,n≤ds.length→(ds.take n).length=n:=fun n hn=>by simp;omega
  have inn:∀{id el j off:Nat} {ln:Option Nat} {wM jc:Option Bool} {usz:Nat} {es ds':List D} {b:Nat} {c1:Array Value} {ty:TypeId} {p:Option Addr} {len' cap':Nat},(id,U.ar true wM usz es)∈st.us→g.β id=some b→el<es.length→j+1≤usz→
    (j=0∧usz=1∧(D.at es el).fK=false∨(D.at es el).fK=true∧usz≠1)→D.sub (D.at es el) j 1 false=.ls jc gv ds'→w.heap[b]?=some (.cells c1 ty (0,0))→c1[el*usz+j]?=some (.slice p len' cap')→
    off+ln.getD ds'.length≤ds'.length→off≤cap'→a.eval x=.slice (p.map fun q=>q.add (if off=cap' then 0 else off*gv)) (ln.getD ds'.length) (cap'-off)→
    f ((st.mc id (.ar true wM usz (ni es usz el j (.ls jc gv (Ax.wx ds' off (min (ln.getD ds'.length) ds.length) ds))))).kl o.dst (.im none (.sc (.int .i64 (min (ln.getD ds'.length) ds.length:Nat)))))→o.wp P a w (ip n0 S0 M0 w0 st.n f) Q':=by
   intro id el j off ln wM jc usz es ds' b c1 ty p len' cap' hm hb mD hj hw hd VN Pa HU hoc hv hf;obtain⟨nc,n1,n2,B9,Z1⟩:=DG (P:=P) (w:=w) (u:=t) (ty:=o.type) ht hz hv y1 GG;generalize hn:min (ln.getD ds'.length) ds.length=n at*;have ii:n≤ds.length:=by omega
   have hn3:off+n≤ds'.length:=by omega
   have adS:(Ax.wx ds' off n ds).length=ds'.length:=by simp[Ax.wx];omega
   by_cases h0:n=0
   ·have yN:ni es usz el j (.ls jc gv (Ax.wx ds' off n ds))=es:=by
     have e1:Ax.wx ds' off n ds=ds':=by subst h0;simp[Ax.wx]
     rw[e1];have hU:=h.us.each _ hm;simp only[hP]at hU;obtain⟨kw,ur,hU⟩:=hU;rcases hU with⟨z1,_⟩|⟨b1,c2,e2,G,cs,rest,k1,k2,k3,k4,k5,k6,k7,k8⟩
     rw[hb]at z1;cases z1;obtain⟨_,_,_,_,_,_,_,_,_,r2,_⟩:=k6.pick mD;have jm:(es[el]).size=usz:=ur _ (aZ mD);have:=OT (usz:=usz) hj hd rfl hw (by rw[D.j7 mD];exact Lf r2 jm);unfold ni;rw[this,D.j7 mD,List.set_getElem_self]
    rw[yN]at hf;exact fin (B9 h0) rfl rfl rfl (aU _) (fun _ _ _=>rfl) (h.us.again hm) hf
   have gw:ds'≠[]:=by intro e;rw[e]at hn3;simp at hn3;omega
   have hp:∃b' off',p=some ⟨b',off',none⟩:=by
    obtain⟨F2,q1,_⟩:=Bu h.us hm mD hj hb VN Pa;rw[hd]at q1;simp only[f8]at q1;rcases q1 with⟨_,_,q2,_⟩|⟨b',off',_,_,_,_,_,q1,_⟩
    exact absurd q2 gw;simp only[bO,dL,bm]at q1;exact⟨b',off',q1.1⟩
   obtain⟨b',off',rfl⟩:=hp;obtain⟨c',e',F1,rfl,i1,i2,i3,i4,imax,i5,i6,i8,i7⟩:=h.us.inner hm hb mD hj hw hd VN Pa gw;have hocl:off<cap':=by omega
   have VX:¬off=cap':=by omega
   simp only[dC,VX,aH,Addr.add]at hv;have hle:off*gv+n*gv≤ds'.length*gv:=by rw[←a9];exact ba _ (by omega)
   have Z6:ds'.length*gv≤cap'*gv:=ba _ i4;have gk:=Z1 (by omega) b' (off'+off*gv) c' e' (by simp[VX,Addr.add]) i1 (by omega);obtain⟨G2,s1,s2⟩:=i6.wx i5 n1 (off:=off) (by rw[rP n ii];omega) (by rw[rP n ii];exact n2);rw[rP n ii]at s1;have UJ:c'.toList.length=c'.size:=by simp
   generalize kx:(c'.toList.take (off'+off*gv)++nc++c'.toList.drop (off'+off*gv+n*gv)).toArray=c2 at gk;have Py:c2.size=c'.size:=by
    rw[←kx];simp only[dN,lP,bk,cK,n2,UJ];omega
   have Px:=EV (c:=c'.toList) (nc:=nc) (off':=off') (L:=ds'.length*gv) (p:=off*gv) (m:=n*gv) (by omega) hle n2;obtain⟨g2,s7,yZ⟩:=i7 (w.setRow b' c2).heap c2 (Ax.wx ds' off n ds) G2 (bS _ _ _) (cY w b' c' _ e' _ i1) (fun y hy=>co w b' y _ hy) Py
    adS (fun d hd=>by
     simp only[Ax.wx,ax]at hd;rcases hd with hd|hd|hd
     exact i5 d (bf hd)
     ·simp only[f8]at y1;rcases y1 with⟨_,_,rfl,_⟩|⟨_,_,_,_,_,_,_,_,_,_,_,_,_,_,q8,_⟩
      simp at hd;exact q8 d (bf hd)
     exact i5 d (cd hd)) s2 (by rw[←kx];simp only[];rw[Px];exact s1)
   refine fin gk rfl rfl rfl (by rw[bS];exact aU _) (fun y hy xa=>?_) ⟨g2,s7,yZ⟩ hf;have:y≠b':=by
    rintro rfl;exact xa (h.us.low y (fL.2 ⟨_,hm,i8⟩) hy)
   exact co w b' y _ this
  have smc:∀id off len,fx w.heap st.us g (.sm id off len) (a.eval x)→Ge (st.unit id) id off len gv ds st (fun n fS=>f (fS.kl o.dst (.im none (.sc (.int .i64 n)))))→o.wp P a w (ip n0 S0 M0 w0 st.n f) Q':=by
   intro id off len ex hq;unfold Ge at hq
   split at hq
   ·next wM usz es gZ=>
    obtain⟨⟨rfl,HU⟩,hf⟩:=hq;have hm:=fB gZ;simp only[fx]at ex;obtain⟨ow',jc,Ep,es',x1,x2,x3⟩:=ex;have:=h.us.uniq hm x1;injection this with z1 z2 z3 z4;subst z1 z2 z3 z4;have hU:=h.us.each _ hm;simp only[hP]at hU;obtain⟨kw,ur,hU⟩:=hU;obtain⟨ao,dc,hv⟩:∃ao dc,a.eval x=.slice ao len dc:=by
     rcases x3 with⟨b,_,hv⟩|⟨_,_,rfl,hv⟩
     exact⟨_,_,hv⟩;exact⟨_,_,hv⟩
    obtain⟨nc,n1,n2,B9,Z1⟩:=DG (P:=P) (w:=w) (u:=t) (ty:=o.type) ht hz hv y1 GG;generalize hn:min len ds.length=n at*;have ii:n≤ds.length:=by omega
    by_cases h0:n=0
    ·have yN:Ax.wx es off n ds=es:=by rw[h0];simp[Ax.wx]
     rw[yN]at hf;exact fin (B9 h0) rfl rfl rfl (aU _) (fun _ _ _=>rfl) (h.us.again hm) hf
    rcases hU with⟨z1,rfl,_⟩|⟨b,c1,ee,G,cs,rest,k1,k2,k3,k4,k5,k6,k7,k8⟩
    simp at HU;omega;obtain⟨b',x3,UF⟩|⟨x3,_⟩:=x3
    case inr=>rw[k1]at x3;cases x3
    rw[k1]at x3;obtain rfl:=aQ x3;rw[hv]at UF;simp only[dL,cj]at UF;obtain⟨rfl,rfl⟩:=UF;simp only[aK]at k8;have hle:off*usz+n*usz≤es.length*usz:=by rw[←a9];exact ba _ (by omega)
    have Z6:es.length*usz≤g.cap id*usz:=ba _ k5;have gk:=Z1 (by omega) b (off*usz) c1 ee rfl k2 (by omega);obtain⟨G2,s1,s2⟩:=k6.wx ur n1 (off:=off) (by rw[rP n ii];omega) (by rw[rP n ii];exact n2);rw[rP n ii]at s1;have lh:=k6.length;rw[D.fG ur]at lh;have ahK:c1.toList.length=c1.size:=by simp
    generalize kx:(c1.toList.take (off*usz)++nc++c1.toList.drop (off*usz+n*usz)).toArray=c2 at gk;have Py:c2.size=g.cap id*usz:=by
     rw[←kx];simp only[dN,lP,bk,cK,n2,ahK];omega
    have yJ:c2.toList=(cs.take (off*usz)++(nc++cs.drop (off*usz+n*usz)))++rest:=by
     rw[←kx,k3,du (by omega),dt (by omega)];simp
    have adT:=gO h.us hm;rw[k8]at adT;have l9:∀y∈b::G2,y∈g.φ id:=by
     intro y hy;rw[k8];rcases aj.1 hy with rfl|hy
     simp;simp[s2.subset hy]
    have jb:∀y∈g.φ id,y∈fp g st.us:=fun y hy=>fL.2 ⟨_,hm,hy⟩;have rW:b∈g.φ id:=by rw[k8];simp
    obtain⟨φ,hφ,s7,hK⟩:=h.us.mc (h':=(w.setRow b c2).heap) hm k1 (cY w b c1 _ ee _ k2) (bS _ _ _) (fun y hy=>co w b y _ hy) Py (ow':=true) (es':=Ax.wx es off n ds) (by simp[Ax.wx];omega)
     (fun d hd => by
      simp only[Ax.wx,ax]at hd;rcases hd with hd|hd|hd
      exact ur d (bf hd)
      ·simp only[f8]at y1;rcases y1 with⟨_,_,rfl,_⟩|⟨_,_,_,_,_,_,_,_,_,_,_,_,_,_,q8,_⟩
       simp at hd;exact q8 d (bf hd)
      exact ur d (cd hd)) yJ s1
     (fun _ => ⟨eT (List.Sublist.cons_cons _ s2) adT, fun y hy => by
      have h1:=jb y (l9 y (by simp[hy]));exact⟨h.us.low y h1,fun hsx=>(h.us.sh y hsx).2.2 h1,fun z hz gw Z8=>gw (gK h.us.keys h.us.nodup hz hm Z8 (l9 y (by simp[hy])))⟩⟩) (by simp) (fun _ y hy=>h.us.fz y (jb y (l9 y (by simp[hy]))))
    refine fin gk rfl rfl rfl (by rw[bS];exact aU _) (fun y hy xa=>?_) ⟨_,s7,fun av v hf hr=>fx.sr hK hf hr⟩ hf;have:y≠b:=by
     rintro rfl;exact xa (h.us.low y (jb y rW) hy)
    exact co w b y _ this
   exact hq.elim
  unfold BM at hq
  split at hq
  ·next id off len e1=>
   rw[e1]at ex;exact smc id off len ex hq
  ·next id el j e1=>
   rw[e1]at ex;unfold BL at hq
   split at hq
   ·next wM usz es gZ=>
    unfold EZ at hq
    split at hq
    ·next jc Ep ds' hd=>
     obtain⟨⟨rfl,mD,hw⟩,hf⟩:=hq;have hm:=fB gZ;have B9:=zP h.us ex gZ;rw[hd]at B9;obtain⟨p,len,cap,hv,hlen,KR,_⟩:=pF B9;simp only[fx]at ex;obtain⟨KO,j8,EC,b,c1,ty,r1,r2,r3,r4,r5,r6,r7,r8,r9⟩:=ex;have:=h.us.uniq r1 hm;injection this with z1 z2 z3 z4;subst z2 z3 z4;refine inn (off:=0) (ln:=none) (p:=p) (len':=len) (cap':=cap) hm r4 r2 r3 hw hd r5 ?_ (by simp) (bu _) ?_ hf
     ·rw[hv]at r8;have h1:((c1.toList.drop (el*j8+j)).take 1)[0]?=some (.slice p len cap):=by rw[←r8];simp[Value.cells]
      rw[dr (by omega),cJ,aC,cr]at h1;exact h1
     rw[hv,hlen];cases p<;>simp[Addr.add]
    exact hq.elim
   exact hq.elim
  ·next id el j gQ off len e1=>
   obtain⟨rfl,hq⟩:=hq;rw[e1]at ex;unfold BL at hq
   split at hq
   ·next wM usz es gZ=>
    unfold EZ at hq
    split at hq
    ·next jc Ep ds' hd=>
     obtain⟨⟨rfl,mD,hw⟩,hf⟩:=hq;have hm:=fB gZ;simp only[fx]at ex;obtain⟨ow0,KO,j8,EC,b,c1,ty,p,len',cap',r1,r2,r3,r4,r5,r6,r7,r8,r9⟩:=ex;have:=h.us.uniq r1 hm;injection this with z1 z2 z3 z4;subst z1 z2 z3 z4;obtain⟨F2,q1,_⟩:=Bu h.us hm r2 r3 r4 r5 r6;rw[hd]at q1;obtain⟨zb,_,_⟩:=q1.part r7;refine inn (off:=off) (ln:=some len) (p:=p) (len':=len') (cap':=cap') hm r4 r2 r3 hw hd r5 r6 (by simp;omega) r8 ?_ hf;simpa using r9
    exact hq.elim
   exact hq.elim
  ·next id off len e1=>
   unfold JJ at hq
   split at hq
   ·next wM usz es gZ=>
    obtain⟨⟨h0,h1,h2⟩,hf⟩:=hq;rw[e1]at ex;have hm:=fB gZ;refine smc id off len ?_ (by rw[gZ];exact⟨⟨h1,h2⟩,hf⟩);have hU:=h.us.each _ hm;simp only[hP]at hU;obtain⟨_,_,hU⟩:=hU;simp only[fx]at ex⊢;obtain⟨ow',jc,Ep,es',x1,x2,x3⟩:=ex;have:=h.us.uniq hm x1;injection this with z1 z2 z3 z4;subst z1 z2 z3 z4;rcases x3 with⟨b,o',x3,x4,x5⟩|⟨_,rfl,_⟩
    ·have B4:es.length≤g.cap id:=by
      rcases hU with⟨hb,_⟩|⟨_,_,_,_,_,_,_,_,_,_,hc,_⟩
      rw[hb]at x3;cases x3;exact hc
     obtain rfl:=x4 (by omega);exact⟨_,_,_,_,x1,x2,.inl ⟨b,x3,x5⟩⟩
    omega
   exact hq.elim
  exact hq.elim
 exact hq.elim
def He{av:AV}(hu:gr h n0 S0 M0 us g)(hr:fx h us g av v)(ho:AV.vE (lu us) av=true):∃c,v=.agg c:=by
 cases av with
 |im t d=>
  cases t with
  |some t=>simp[AV.vE]at ho
  |none=>
   simp only[AV.vE]at ho;simp only[fx]at hr;obtain⟨F,r1,r2,r3⟩:=hr;cases d<;>simp_all [D.fits,D.fK]
 |tr i=>
  simp only[AV.vE]at ho
  split at ho
  ·next d gZ=>
   have hm:=fB gZ;simp only[fx]at hr;obtain⟨_,rfl⟩:=hr;have hU:=hu.each _ hm;simp only[hP]at hU;obtain⟨_,_,p3⟩:=hU;cases d<;>simp_all [D.fits,D.fK]
  cases ho
 |cw i el j sz agg=>
  simp only[AV.vE]at ho;subst ho;simp only[fx]at hr;obtain⟨_,_,_,_,_,_,_,_,_,_,_,_,_,_,q9⟩:=hr;exact⟨_,by simpa using q9⟩
 |sg vs=>
  simp only[fx]at hr;obtain⟨xs,_,rfl⟩:=hr;exact⟨_,rfl⟩
 |_=>simp[AV.vE]at ho
def Fa(h:At n0 S0 M0 w0 st o a w g){avs:List AV}{vs:List Value}(gk:jf P f→(execOp a.eval o).run P w=.ok (.enter f vs.toArray) w)(hr:fA w.heap st.us g avs vs)
  (hq:Vj P o.dst f avs st.unit k):o.wp P a w (hO n0 S0 M0 w0 st o.dst k) Q':=by
 obtain⟨VY,t0,kk,B,C,rfl,⟨lh,hA⟩,hB1,hC1,hk⟩:=hq;simp only[fA]at hr;obtain⟨v1,r1,rfl,uu,v2,r2,rfl,w9,v3,r3,rfl,UM,rfl⟩:=hr;simp only[bA]at hB1 hC1;obtain⟨c2,rfl⟩:=He h.us w9 hB1.1;obtain⟨c3,rfl⟩:=He h.us UM hC1.1;have z2:=rK h.us w9 hB1.2 (by omega);have z3:=rK h.us UM hC1.2 (by omega);have e1:v1=.int .i64 kk:=by
  simp only[fx,f8,D.fits]at uu;obtain⟨F,⟨_,q1,_⟩,q2,_⟩:=uu;rw[fP q2]at q1;simpa using q1
 subst e1;unfold Oper.wp;rw[gk lh,cL];refine(hA kk c2 c3 w (by simpa[Value.cells]using z2) (by simpa[Value.cells]using z3)).mono ?_;rintro e w' ⟨⟨x,t,rfl,hx,Cw⟩,hB⟩;have hs:=h.sat;have hh:∀b,b<w.heap.size→w'.heap[b]?=w.heap[b]?:=fun b hb=>hB.block b hb;refine⟨_,_,hk,fun hf=>?_⟩;generalize hd:o.dst.getD 0=d at hf VY;have kZ:o9 d st.us=true:=by
  rcases hf with hf|hf
  cases hf;simp only[St.fresh,o9,bU]at hf;exact hf
 have yF:=ir kZ;have ahL:x<w'.heap.size:=(bh.1 Cw).1;obtain⟨hU,hV⟩:=h.us.Pm (h':=w'.heap) (n:=d) yF (u:=.bx 3 [B,C]) (β:=some x) (φ:=[x]) (root:=undef) (cap:=0) hB.size
  (fun b hb => by
   refine hh b ?_;rcases hb with hb|hb
   exact h.us.lt b hb;exact(h.us.sh b hb).1)
  (by simp)
  (fun b hb => by
   simp only[am]at hb;subst hb;refine⟨ahL,fun gI=>?_,fun hS=>?_,fun hF=>?_,.inl ⟨_,_,Cw⟩⟩;have:=hs.base;have:=hs.size;omega;have:=(h.us.sh _ hS).1;omega;have:=h.us.lt _ hF;omega)
  (fun hg => by
   simp only[hP,hZ];refine⟨by simp[gp],x,c2++c3,t,[.agg c2,.agg c3],[],rfl,Cw,rfl,?_,?_,by simp[Value.cells]⟩;simp only[fA];exact⟨_,_,rfl,hg _ _ w9,_,_,rfl,hg _ _ UM,rfl⟩;intro _ v hv;simp only[aj,bg,or_false]at hv;rcases hv with rfl|rfl
   exact z2;exact z3) (fun _=>qf.low VY)
 have KP:ju n0 S0 M0 w0 (st.iQ [(d,U.bx 3 [B,C])]) a w':=by
  refine⟨hs.ms,hs.mS,hs.tm,hs.base,hB.os.trans hs.os,hB.tape.trans hs.tape,hB.output.trans hs.output,bX hs.size hB.size,?_,_,hU,fun t=>hV _ _ (h.rep t)⟩;intro b hb hm;rw[←hs.iD b hb hm];exact hh b (by have:=hs.base;have:=hs.size;omega)
 refine gW KP hU (fun t=>hV _ _ (h.rep t)) h.dst ?_;simp only[fx,fA];refine⟨[.int .i64 kk,.int .i64 0,.slice (some ⟨x,0,none⟩) 2 2],⟨_,_,rfl,⟨[],?_,?_,by simp⟩,_,_,rfl,⟨[],?_,?_,by simp⟩,_,_,rfl,⟨3,[B,C],x,bP,rfl,by simp[hZ],rfl⟩,rfl⟩,by simp[Value.cells]⟩
 all_goals simp[f8,D.fits,Value.cells,Value.oneCell']
def rv(h:At n0 S0 M0 w0 st o a w g){avs:List AV}{vs:List Value}(gk:jf P f→(execOp a.eval o).run P w=.ok (.enter f vs.toArray) w)(hr:fA w.heap st.us g avs vs)
  (hq:nU P o.dst f avs st.unit k):o.wp P a w (hO n0 S0 M0 w0 st o.dst k) Q':=
 hq.elim (EM h gk hr) fun hq=>hq.elim (FW h gk hr) (Fa h gk hr)
def LX(h:At n0 S0 M0 w0 st o a w g){Xs:List X}(ho:o.op=.call c)(hc:c.callee=.value (.func f))(hl:c.args.size=c.argTypes.size)
  (hx:(c.args.toList.zip c.argTypes.toList).mapM (fun p=>fY P p.2 p.1)=some Xs) (hq:nU P o.dst f (Xs.map st.ev) st.unit k):o.wp P a w (hO n0 S0 M0 w0 st o.dst k) Q':=by
 refine rv h (vs:=c.args.toList.map a.eval) ?_ (mu h.rep (by simpa using hl) hx) hq;rintro⟨fn,h1,h2,h3⟩;have rX:¬fn.body=none:=by cases hb:fn.body<;>simp_all
 have um : ¬ fn.name = "runtime.NumGoroutine" := by simpa using h3
 have ea:(List.map a.eval c.args.toList).toArray=Array.map a.eval c.args:=by apply aS;simp
 rw[ea];simp[execOp,ho,resolve,hc,Act.eval,Deferred.ofValue,invoke,callFunc,h1,rX,um]
def xO(h:At n0 S0 M0 w0 st o a w g){u:TypeId}{X:Ax.X}{Xs:List Ax.X}(ho:o.op=.call c)(hc:c.callee=.value x)(hX:fY P u x=some X)(hl:c.args.size=c.argTypes.size)
  (hx:(c.args.toList.zip c.argTypes.toList).mapM (fun p=>fY P p.2 p.1)=some Xs) (hq:qe (st.ev X) P o.dst (Xs.map st.ev) st.unit k):o.wp P a w (hO n0 S0 M0 w0 st o.dst k) Q':=by
 have ex:=h.ev_ hX;unfold qe at hq
 split at hq
 ·next t f e1=>
  rw[e1]at ex;have hv:=gU ex;refine rv h (vs:=c.args.toList.map a.eval) ?_ (mu h.rep (by simpa using hl) hx) hq;rintro⟨fn,h1,h2,h3⟩;have rX:¬fn.body=none:=by cases hb:fn.body<;>simp_all
  have um : ¬ fn.name = "runtime.NumGoroutine" := by simpa using h3
  have ea:(List.map a.eval c.args.toList).toArray=Array.map a.eval c.args:=by apply aS;simp
  rw[ea];simp[execOp,ho,resolve,hc,hv,Deferred.ofValue,invoke,callFunc,h1,rX,um]
 ·next t f ds e1=>
  rw[e1]at ex;simp only[fx,f8,D.fits]at ex;obtain⟨F,⟨vs,q1,q2⟩,hf,i9⟩:=ex;rw[fP hf]at q1;have hv:a.eval x=.func (.func f) #[] ⟨vs⟩:=by simpa using q1
  refine rv h (vs:=c.args.toList.map a.eval++vs) ?_ (pD (mu h.rep (by simpa using hl) hx) (CB q2 i9)) hq;rintro⟨fn,h1,h2,h3⟩;have rX:¬fn.body=none:=by cases hb:fn.body<;>simp_all
  have um : ¬ fn.name = "runtime.NumGoroutine" := by simpa using h3
  have ea:(List.map a.eval c.args.toList++vs).toArray=Array.map a.eval c.args++⟨vs⟩:=by apply aS;simp
  rw[ea];simp[execOp,ho,resolve,hc,hv,Deferred.ofValue,invoke,callFunc,h1,rX,um]
 ·next f avs e1=>
  rw[e1]at ex;simp only[fx]at ex;obtain⟨vs,q2,hv⟩:=ex;refine rv h (vs:=c.args.toList.map a.eval++vs) ?_ (pD (mu h.rep (by simpa using hl) hx) q2) hq;rintro⟨fn,h1,h2,h3⟩;have rX:¬fn.body=none:=by cases hb:fn.body<;>simp_all
  have um : ¬ fn.name = "runtime.NumGoroutine" := by simpa using h3
  have ea:(List.map a.eval c.args.toList++vs).toArray=Array.map a.eval c.args++⟨vs⟩:=by apply aS;simp
  rw[ea];simp[execOp,ho,resolve,hc,hv,Deferred.ofValue,invoke,callFunc,h1,rX,um]
 exact hq.elim
end Go.Ax
