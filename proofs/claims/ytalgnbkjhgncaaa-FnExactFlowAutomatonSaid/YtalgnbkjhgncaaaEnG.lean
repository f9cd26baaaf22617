/- THE ENGINE, PART 7: a generator of conditions over the register code, and its soundness. No condition. -/
import Derived.Test.YtalgnbkjhgncaaaEnF
import Derived.MapKept
set_option linter.all false
namespace Go.Ax
variable {P:Program}{n0:Nat}{S0 M0:Nat→Prop}{w0:World}
variable {st:St}{o:Oper}{a:Act}{w:World}{k:KQ}{Q':Exit→Act→World→Prop}{g:Gh}
variable {h:ij}
def SW{es:List D}{G:List Nat}{cs:List Value}{sz off len:Nat}(qp:fR h es G cs)(hs:∀d∈es,d.size=sz)(hb:off+len≤es.length):
  ∃F2 c2,fR h ((es.drop off).take len) F2 c2∧(∀x∈F2,x∈G)∧c2.length=len*sz∧∃c1 c3,cs=c1++(c2++c3)∧c1.length=off*sz:=by
 have he:es=es.take off++((es.drop off).take len++(es.drop off).drop len):=by rw[bw,bw]
 have ahP:fR h (es.take off++((es.drop off).take len++(es.drop off).drop len)) G cs:=by rw[←he];exact qp
 obtain⟨F1,F23,c1,ZW,g1,g2,s1,KN⟩:=ahP.split;obtain⟨F2,F3,c2,c3,rfl,rfl,s2,s3⟩:=KN.split;refine⟨F2,c2,s2,fun x hx=>by rw[g1];simp[hx],?_,c1,c3,g2,?_⟩
 ·rw[s2.length,D.fG (sz:=sz) fun d hd=>hs d (cd (bf hd)),bk,cK,bl (by omega)]
 rw[s1.length,D.fG (sz:=sz) fun d hd=>hs d (bf hd),bk,bl (by omega)]
variable {us:List (Nat×U)}
def gr.more(hu:gr h n0 S0 M0 us g){F:List Nat}(hF:∀b∈F,b<h.size∧(b<n0→S0 b)∧b∉fp g us):
  gr h n0 S0 M0 us {g with Sh:=fun b=>g.Sh b∨b∈F}∧∀av v,fx h us g av v→fx h us {g with Sh:=fun b=>g.Sh b∨b∈F} av v:=by
 have i9:∀t b,b<h.size→g.ok t b→({g with Sh:=fun b=>g.Sh b∨b∈F}:Gh).ok t b:=fun t b _ hb=>hb.imp Or.inl id;refine⟨⟨hu.keys,hu.nodup,hu.lt,hu.low,hu.dead,?_,?_,hu.fz,hu.ww⟩,fun av v hr=>fx.mono (g:=g) (g':={g with Sh:=fun b=>g.Sh b∨b∈F}) (fun x hx=>hx) (fun _ _=>rfl) (fun _ _=>⟨rfl,rfl,rfl⟩) i9 hr⟩
 ·intro b hb;rcases hb with hb|hb
  exact hu.sh b hb;exact hF b hb
 intro x hx;exact hP.mono (g:=g) (g':={g with Sh:=fun b=>g.Sh b∨b∈F}) hx (fun x hx=>hx) (fun _ _=>rfl) (fun _ _=>⟨rfl,rfl,rfl⟩) rfl (fun b _ hb=>Or.inl hb) i9 (hu.each x hx)
def xA(g g':Gh)(us us':List (Nat×U))(F:List Nat):Prop:=∀b∈F,g.Sh b∨(b∈fp g us∧b∉fp g' us')
variable {av:AV}{g0:Gh}{tm:Nat→Value}{v:Value}
def Ft{gR:St}(h0:gr h n0 S0 M0 gR.us g0){st:St}{g:Gh}{k:D→St→Prop}(T:iU h n0 S0 M0 gR st tm g0 g)(hr:fx h gR.us g0 av v)(hk:gH st av (PT k)):
  ∃d fS g' F,k d fS∧iU h n0 S0 M0 gR fS tm g0 g'∧f8 h d F v.cells.toList∧d.fits v∧xA g g' st.us fS.us F∧(∀b,g'.Sh b↔g.Sh b)∧∀b,b∈fp g' fS.us→b∈fp g st.us:=by
 obtain⟨own,d,fS,g',F,hk,T',r1,r2,⟨o1,o2⟩,lw,jb⟩:=lL h0 T hr hk;refine⟨d,fS,g',F,hk,T',r1,r2,fun b hb=>?_,lw,jb⟩;cases own with
 |true=>exact .inr ⟨((o1 rfl).2 b hb).2.2.2,((o1 rfl).2 b hb).2.2.1⟩
 |false=>exact .inl ((lw b).1 (o2 rfl b hb))
mutual
def We{gR:St}(h0:gr h n0 S0 M0 gR.us g0):∀{av:AV} {v:Value} {st:St} {g:Gh} {k:D→St→Prop},iU h n0 S0 M0 gR st tm g0 g→fx h gR.us g0 av v→sj st av k→
  ∃d fS g' F,k d fS∧iU h n0 S0 M0 gR fS tm g0 g'∧f8 h d F v.cells.toList∧d.fits v∧xA g g' st.us fS.us F∧(∀b,g'.Sh b↔g.Sh b)∧∀b,b∈fp g' fS.us→b∈fp g st.us
 |.sm i off len,v,st,g,k,T,hr,hk=>by
  simp only[sj,Jd]at hk
  split at hk
  ·next ow nn sz es gZ=>
   obtain⟨⟨rfl,rfl⟩,hk⟩:=hk;have hm:=fB gZ;have ho:=T.us.each _ hm;obtain⟨u0,EF,jP⟩:=T.mem _ _ hm;simp only[fx]at hr;obtain⟨ow0,KO,vK,EC,q1,q2,q3⟩:=hr;have:=h0.uniq EF q1;subst this;simp only[U.s9]at jP;obtain⟨rfl,hlen⟩:=jP;obtain⟨gb,_,gc⟩:=T.gh _ _ hm;have hH:∀b,b∈fp (g.drop i) (st.del i).us→b∈fp g st.us:=fun b hb=>(iM (g:=g) (g':=g.drop i) (fun j hj=>by simp[Gh.drop,hj])).subset hb;simp only[hP]at ho;obtain⟨kw,hs,ho⟩:=ho;rcases ho with⟨p1,rfl,p3,p4⟩|⟨b,c,e,G,cs,rest,k1,k2,k3,k4,k5,k6,k7,k8⟩
   ·have hv:v=.slice none 0 0:=by
     rcases q3 with⟨b,q3,_⟩|⟨_,_,_,q3⟩
     rw[←gb,p1]at q3;cases q3;exact q3
    subst hv;refine⟨_,st.del i,g.drop i,[],hk,T.del i,?_,rfl,by simp[xA],fun _=>bL,hH⟩;unfold f8;exact .inl ⟨none,by simp[Value.cells],rfl,rfl,fun _=>p4,by simp⟩
   have hv:v=.slice (some ⟨b,0,none⟩) es.length (g.cap i):=by
    rcases q3 with⟨b',q3,q4⟩|⟨q3,_⟩
    rw[←gb,k1]at q3;obtain rfl:=aQ q3;rw[←gc]at q4;simpa using q4;rw[←gb,k1]at q3;cases q3
   subst hv;have lh:=k6.length;rw[D.fG hs]at lh;have hle:=ba vK k5;refine⟨_,st.del i,g.drop i,b::G,hk,T.del i,?_,rfl,?_,fun _=>bL,hH⟩
   ·unfold f8;refine .inr ⟨b,0,g.cap i,c,e,(0,0),G,by simp[Value.cells],rfl,k7,k5,kw,k2,by rw[k4];omega,hs,?_⟩;rw[az,k3,←lh,bV];exact k6;rfl
   have l9:∀x∈g.φ i,x∈fp g st.us∧x∉fp (g.drop i) (st.del i).us:=fun x hx=>⟨fL.2 ⟨_,hm,hx⟩,np T.us hm x hx⟩;intro x hx;cases ow with
   |true=>
    simp only[aK]at k8;exact .inr (l9 x (by rw[k8];exact hx))
   |false=>
    simp only[kY,aH]at k8;rcases aj.1 hx with rfl|hx
    exact .inr (l9 x (by rw[k8.1];simp));exact .inl (k8.2 x hx)
  exact hk.elim
 |.sg vs,v,st,g,k,T,hr,hk=>by
  simp only[sj]at hk;simp only[fx]at hr;obtain⟨xs,h1,rfl⟩:=hr;obtain⟨ds,fS,g',F,hk,T',r1,s1,q1,f1,_⟩:=wY h0 T h1 hk;simp only[tkG]at hk;refine⟨_,fS,g',F,hk,T',?_,⟨_,rfl⟩,s1,q1,f1⟩;obtain⟨z1,z2⟩:=pT r1;unfold f8;exact⟨z2,by simpa[Value.cells]using z1⟩
 |.im t d,v,st,g,k,T,hr,hk=>Ft h0 T hr (by simpa only[sj]using hk)
 |.tr i,v,st,g,k,T,hr,hk=>Ft h0 T hr (by simpa only[sj]using hk)
 |.cw i el j sz agg,v,st,g,k,T,hr,hk=>Ft h0 T hr (by simpa only[sj]using hk)
 |.pw _ _ _,v,st,g,k,T,hr,hk=>by simp[sj]at hk
 |.vb _ _,v,st,g,k,T,hr,hk=>by simp[sj]at hk
 |.jS _,v,st,g,k,T,hr,hk=>by simp[sj]at hk
 |.any,v,st,g,k,T,hr,hk=>by simp[sj]at hk
 |.cl _ _,v,st,g,k,T,hr,hk=>by simp[sj]at hk
 |.pq _ _ _ _ _ _,v,st,g,k,T,hr,hk=>by simp[sj]at hk
 |.qs _ _ _ _ _ _,v,st,g,k,T,hr,hk=>by simp[sj]at hk
 |.ss _ _ _,v,st,g,k,T,hr,hk=>by simp[sj]at hk
 |.z0 _ _,v,st,g,k,T,hr,hk=>by simp[sj]at hk
 |.pb _ _,v,st,g,k,T,hr,hk=>by simp[sj]at hk
 |.ps _,v,st,g,k,T,hr,hk=>by simp[sj]at hk
 |.mv _,v,st,g,k,T,hr,hk=>by simp[sj]at hk
def wY{gR:St}(h0:gr h n0 S0 M0 gR.us g0):∀{avs:List AV} {vs:List Value} {st:St} {g:Gh} {k:List D→St→Prop},iU h n0 S0 M0 gR st tm g0 g→fA h gR.us g0 avs vs→qo st avs k→
  ∃ds fS g' F,k ds fS∧iU h n0 S0 M0 gR fS tm g0 g'∧fR h ds F (vs.map (·.cells.toList)).flatten∧xA g g' st.us fS.us F∧(∀b,g'.Sh b↔g.Sh b)∧(∀b,b∈fp g' fS.us→b∈fp g st.us)∧vs.map (·.cells.size)=ds.map D.size
 | [],vs,st,g,k,T,hr,hk=>by
  simp only[fA]at hr;subst hr;simp only[qo]at hk;exact⟨[],st,g,[],hk,T,by simp[fR],by simp[xA],fun _=>bL,fun _ hb=>hb,rfl⟩
 |av::avs,vs,st,g,k,T,hr,hk=>by
  simp only[fA]at hr;obtain⟨v,r,rfl,h1,h2⟩:=hr;simp only[qo]at hk;obtain⟨d,sta,ga,F1,hk,Ta,r1,_,s1,q1,f1⟩:=We h0 T h1 hk;obtain⟨ds,stb,gb,F2,hk,Tb,r2,s2,q2,f2,z2⟩:=wY h0 Ta h2 hk;simp only[Ym]at hk;refine⟨d::ds,stb,gb,F1++F2,hk,Tb,?_,fun b hb=>?_,fun b=>(q2 b).trans (q1 b),fun b hb=>f1 b (f2 b hb),by have:=r1.length;simp at this;simp[z2,this]⟩;simp only[lC,cb,ig];exact⟨F1,F2,_,_,rfl,rfl,r1,r2⟩;rcases ax.1 hb with hb|hb
  ·rcases s1 b hb with h|⟨h,h'⟩
   exact .inl h;exact .inr ⟨h,fun h3=>h' (f2 b h3)⟩
  rcases s2 b hb with h|⟨h,h'⟩
  exact .inl ((q1 b).1 h);exact .inr ⟨f1 b h,h'⟩
end
variable {sz:Nat}
def Wo(hms:∀b,b<n0→M0 b→S0 b)(h0:gr w.heap n0 S0 M0 st.us g)(iF:∀t,fx w.heap st.us g (lk st.env t) (tm t)){k:List D→St→Prop}(hr:fx w.heap st.us g av v)(hk:OA st sz av k):
  ∃ds fS g' F news,k ds fS∧iU w.heap n0 S0 M0 st fS tm g g'∧fR w.heap ds F news∧(∀b∈F,g'.Sh b)∧
   ((∀d∈ds,d.size=sz)→0<sz→Zu w sz v ds.length news):=by
 have T:=iU.refl h0 iF;have part:∀{i off len:Nat} {ow:Bool} {nn:Option Bool} {usz:Nat} {es:List D},(i,U.ar ow nn usz es)∈st.us→off+len≤es.length→
   ((∃b o,g.β i=some b∧(0<len→o=off*usz)∧∃cap,v=.slice (some ⟨b,o,none⟩) len cap)∨(g.β i=none∧len=0∧∃cap,v=.slice none len cap))→Bl (lu st.us i) off len sz st k→
   ∃ds fS g' F news,k ds fS∧iU w.heap n0 S0 M0 st fS tm g g'∧fR w.heap ds F news∧(∀b∈F,g'.Sh b)∧((∀d∈ds,d.size=sz)→0<sz→Zu w sz v ds.length news):=by
  intro i off len ow nn usz es hm hlen hv hk;unfold Bl at hk
  split at hk
  ·next jc kv es' gZ=>
   obtain⟨rfl,hk⟩:=hk;have:=h0.uniq hm (fB gZ);injection this with e1 e2 e3 e4;subst e1 e2 e3 e4;have ho:=h0.each _ hm;simp only[hP]at ho;obtain⟨kw,hs,ho⟩:=ho;have hl:((es.drop off).take len).length=len:=by rw[bk,cK,bl (by omega)]
   rcases hv with⟨b,q,hb,hq,cap,rfl⟩|⟨hb,rfl,cap,rfl⟩
   ·rcases ho with⟨z,_⟩|⟨b',c,e,G,cs,rest,k1,k2,k3,k4,k5,k6,k7,k8⟩
    rw[hb]at z;cases z;rw[hb]at k1;obtain rfl:=aQ k1;simp only[kY,aH]at k8;obtain⟨F2,c2,p1,p2,p3,c1,c3,p4,p5⟩:=SW k6 hs hlen;refine⟨_,st,g,F2,c2,hk,T,p1,fun x hx=>k8.2 x (p2 x hx),fun _ _=>?_⟩;rw[hl];refine⟨_,_,rfl,p3,fun h0=>⟨_,rfl,fun j u hj=>?_⟩⟩;rw[hq h0,dF,dP w b _ c e (0,0) k2];rw[←cr,k3,p4,bz,eo (by omega),p5,Nat.add_sub_cancel_left,bz,da (bF.1 hj).1];exact hj
   refine⟨_,st,g,[],[],hk,T,by simp[fR],by simp,fun _ _=>?_⟩;rw[hl];exact⟨_,_,rfl,by simp,by simp⟩
  exact hk.elim
 unfold OA at hk
 split at hk
 ·next i len=>
  unfold shV at hk
  split at hk
  ·next w6 items gZ=>
   obtain⟨⟨rfl,rfl⟩,hk⟩:=hk;have hm:=fB gZ;have ho:=h0.each _ hm;simp only[fx]at hr;obtain⟨ahF,g9,b,r1,r2,r3,rfl⟩:=hr;have:=h0.uniq hm r1;injection this with e1 e2;subst e1 e2;simp only[hP]at ho;obtain⟨kw,b',c,e,vs,rest,k1,k2,k3,k4,k5,k6⟩:=ho;rw[r3]at k1;obtain rfl:=aQ k1;obtain⟨ds,fS,g',F,hk,T',p1,p2,p3,p4,_⟩:=wY h0 (T.del i) k4 hk;have hH:∀b,b∈fp (g.drop i) (st.del i).us→b∈fp g st.us:=fun b hb=>(iM (g:=g) (g':=g.drop i) (fun j hj=>by simp[Gh.drop,hj])).subset hb;have hFl:=p1.lt;obtain⟨hU,hV⟩:=T'.us.more (F:=F.filter fun b=>!(fp g' fS.us).contains b) (fun b hb=>by
    obtain⟨hb,hn⟩:=aX.1 hb;simp only[bM,ce,cI]at hn;refine⟨hFl b hb,fun gI=>?_,hn⟩;rcases p2 b hb with q|⟨q,_⟩
    exact(h0.sh b q).2.1 gI;exact hms b gI (h0.low b (hH b q) gI))
   refine⟨ds,fS,_,F,_,hk,⟨hU,fun t=>hV _ _ (T'.rep t),T'.n,T'.mem,T'.gh,fun b hb=>.inl (T'.sh b hb),T'.fp⟩,p1,fun b hb=>?_,fun hs h0'=>?_⟩
   ·rcases p2 b hb with q|⟨_,q⟩
    exact .inl ((p3 b).2 q);exact .inr (aX.2 ⟨hb,by simpa using q⟩)
   have l1:=p1.length;rw[D.fG hs]at l1;have l2:(vs.map (·.cells.toList)).flatten.length=vs.length*w6:=by
    have:∀vs:List Value,(∀v∈vs,v.cells.size=w6)→(vs.map (·.cells.toList)).flatten.length=vs.length*w6:=by
     intro vs
     induction vs with
     |nil=>simp
     |cons x vs ih=>
      intro hx;simp only[lC,cb,lP,cX,lK,hx x (by simp),ih fun y hy=>hx y (by simp[hy]),a9];omega
    exact this vs (k5 h0')
   have l3:=mo k4;have l4:ds.length=items.length:=by
    rw[l2,l3]at l1;exact(fe h0' l1).symm
   rw[l4];refine⟨_,_,rfl,by rw[l2,l3],fun _=>⟨_,rfl,fun j u hj=>?_⟩⟩;rw[dF,dP w b _ c e (0,0) k2,aw];rw[←cr,k6];rw[da (bF.1 hj).1];exact hj
  exact hk.elim
 ·next nn gv ds=>
  obtain⟨rfl,hk⟩:=hk;simp only[fx]at hr;obtain⟨F,r1,r2,r3⟩:=hr;obtain⟨F',news,q1,q2,q3,q4⟩:=uN rfl r1 r2;exact⟨ds,st,g,F',news,hk,T,q1,fun b hb=>lr (r3 b (q2 b hb)),fun _ _=>q4⟩
 ·next i off len=>
  simp only[fx]at hr;obtain⟨ow,nn,usz,es,r1,r2,r3⟩:=hr;refine part r1 r2 ?_ hk;rcases r3 with⟨b,h1,h2⟩|⟨h1,_,h3,h4⟩
  ·exact .inl ⟨b,_,h1,fun _=>rfl,_,h2⟩
  exact .inr ⟨h1,h3,0,by rw[h4,h3]⟩
 ·next i off len=>
  simp only[fx]at hr;obtain⟨ow,nn,usz,es,r1,r2,r3⟩:=hr;refine part r1 r2 ?_ hk;rcases r3 with⟨b,q,h1,h2,h3⟩|⟨h1,h3,h4⟩
  ·refine .inl ⟨b,q,h1,fun hl=>h2 ?_,_,h3⟩;have ho:=h0.each _ r1;simp only[hP]at ho;rcases ho.2.2 with⟨z,_⟩|⟨b',c,e,G,cs,rest,k1,k2,k3,k4,k5,_⟩
   rw[h1]at z;cases z;omega
  exact .inr ⟨h1,h3,0,by rw[h4,h3]⟩
 exact hk.elim
variable {c:Call}{x:Operand}{t:TypeId}
def U4(h:At n0 S0 M0 w0 st o a w g){e:TypeId}{s:Operand}{i:TypeInfo}{z:D}{X Y:Ax.X}{d:Nat}{f:St→Prop}(ho:o.op=.call c)(hc:c.callee=.builtin .append)(ha:c.args= #[s,x])(nA:c.argTypes= #[t,t])
    (ht:P.underlying t=some (.slice e)) (hi:P.info? e=some i) (hz:iI P e=some z) (hX:fY P t s=some X) (hY:fY P t x=some Y) (hd:o.dst=some d)
    (hq:OA st i.size (st.ev Y) (FL X d i.size i.bytes f)):o.wp P a w (ip n0 S0 M0 w0 st.n f) Q':=by
  have hs:=h.sat;have th:n0≤w.heap.size:=by rw[hs.base];exact hs.size
  obtain⟨zv,B7,B8⟩:∃zv,i.zero=some zv∧zv.cells.size=i.size:=by
    unfold iI at hz;rw[hi]at hz
    dsimp only at hz
    split at hz
    · next z' UE =>
      split at hz
      · next jm=>exact⟨z',UE,jm⟩
      · cases hz
    · cases hz
  obtain⟨ds,fS,g',F,news,hk,T,p1,p2,p5⟩:=Wo hs.ms h.us h.rep (h.ev_ hY) hq;have ex:fx w.heap fS.us g' (fS.ev X) (a.eval s):=Aq T.rep hX;simp only[FL]at hk;have run:∀{ao:Option Addr} {n cap:Nat} {olds:List Value},a.eval s=.slice ao n cap→Src w.heap i.size ao n cap olds→(∀d∈ds,d.size=i.size)→0<i.size→n+ds.length≤gp→(n+ds.length)*i.bytes≤140737488355328→
      (∀(v':Value)(w':World),w'.os=w.os→w'.tape=w.tape→w'.output=w.output→
        ((ds.length=0∧v'=.slice ao n cap∧w'=w)∨
       (∃b off c e0,0<ds.length∧ao=some ⟨b,off,none⟩∧n+ds.length≤cap∧v'=.slice ao (n+ds.length) cap∧w.heap[b]?=some (.cells c e0 (0,0))∧off+cap*i.size≤c.size∧olds=(c.toList.drop off).take (n*i.size)∧
          w'=w.setRow b (c.toList.take (off+n*i.size)++news++c.toList.drop (off+n*i.size+news.length)).toArray)∨
       (∃ cap' c' rest, 0 < ds.length ∧ v' = .slice (some ⟨w.heap.size, 0, none⟩) (n + ds.length) cap' ∧ n + ds.length ≤ cap' ∧ c'.size = cap' * i.size ∧ c'.toList = (olds ++ news) ++ rest ∧ w'.heap = w.heap.push (.cells c' e (0, 0)))) →
        ip n0 S0 M0 w0 st.n f (a.put o.dst v') w')→o.wp P a w (ip n0 S0 M0 w0 st.n f) Q':=by
    intro ao n cap olds hv re P1 h0 kw lF Pt;obtain⟨v',w',gk,e1,e2,e3,jv⟩:=Bn (P:=P) (w:=w) (ty:=o.type) ht hi B7 B8 re (p5 P1 h0) p1.one kw lF;unfold Oper.wp;have j9:(execOp a.eval o).run P w=.ok (.value v') w':=by
      rw[←hv]at gk;simp[execOp,ho,resolve,hc,ha,nA,invoke,builtin,gk,Result.andThen]
    rw[j9];exact Pt v' w' e1 e2 e3 jv
  have fin:∀{env:List (Nat×AV)} {us:List (Nat×U)} {g1:Gh} {w':World} {v':Value} {id:Nat} {u:U} {av:AV},(∀t,fx w.heap us g1 (lk env t) (a.tmps.getD t undef))→w'.os=w.os→w'.tape=w.tape→w'.output=w.output→
      (∃g2,gr w'.heap n0 S0 M0 ((id,u)::us) g2∧(∀av x,fx w.heap us g1 av x→fx w'.heap ((id,u)::us) g2 av x)∧fx w'.heap ((id,u)::us) g2 av v'∧w.heap.size≤w'.heap.size∧(∀b,b<n0→¬M0 b→w'.heap[b]?=w.heap[b]?))→
      f ((⟨st.n,env,(id,u)::us⟩:St).set d av)→ip n0 S0 M0 w0 st.n f (a.put o.dst v') w':=by
    rintro env us g1 w' v' id u av hv e1 e2 e3 ⟨g2,hU,hV,hr,jm,hold⟩ hf;have hS:ju n0 S0 M0 w0 ⟨st.n,env,(id,u)::us⟩ a w':=by
      refine⟨hs.ms,hs.mS,hs.tm,hs.base,e1.trans hs.os,e2.trans hs.tape,e3.trans hs.output,bX hs.size jm,?_,g2,hU,fun t=>hV _ _ (hv t)⟩;intro b hb hm;rw[hold b hb hm];exact hs.iD b hb hm
    refine⟨_,?_,hf,?_⟩
    · rfl
    · have := gW hS hU (fun t => hV _ _ (hv t)) (d := o.dst) (fun j hj => h.dst j hj) hr
      rw[hd]at this⊢;exact this
  have VQ:fS.n=st.n:=T.n;unfold IQ at hk
  split at hk
  · next id off len e1 =>
    unfold Jk at hk
    split at hk
    · next ow nn usz es gZ =>
      obtain⟨⟨rfl,q0,rfl,aad,q4,q1,q2,q3⟩,hf⟩:=hk;obtain⟨tc,GM⟩:=D1 aad;generalize ahG:rT len es=qh at tc GM q4 hf;have hm:=fB gZ;have hU:=T.us.each _ hm;rw[e1]at ex;simp only[fx]at ex;obtain⟨ow',jc,gv,es',x1,x2,x3⟩:=ex;have:=T.us.uniq hm x1;injection this with z1 z2 z3 z4;subst z1 z2 z3 z4;have T2:=T.del id;have kZ:id∉(fS.del id).us.map (·.1):=by
        show id∉(fQ id (AV.refs id) fS.us).map (·.1)
        rw[gn];simp[aX]
      have jb:∀x∈g'.φ id,x∈fp g' fS.us:=fun x hx=>fL.2 ⟨_,hm,hx⟩;have AW:=np T.us hm;have Ca:f ((⟨st.n,(fS.del id).env,(id,U.ar false (gC nn ds) i.size (qh++ds))::(fS.del id).us⟩:St).set d (.sm id 0 (qh.length+ds.length))):=by
        rw[←VQ,tc];exact hf
      simp only[hP]at hU;obtain⟨kw,ur,hU⟩:=hU;rcases hU with⟨y1,rfl,y3,y4⟩|⟨b,cc,ee,G,cs,rest,y1,y2,y3,y4,y5,y6,y7,y8⟩
      · have aae:qh=[]:=by
          obtain⟨zs,hz⟩:=GM.1;exact(eF.1 hz.symm).1
        subst aae;obtain rfl:len=0:=tc.symm;have hv:a.eval s=.slice none 0 0:=by
          rcases x3 with⟨b,x3,_⟩|⟨_,_,_,x3⟩
          · rw[y1]at x3;cases x3
          · exact x3
        refine run (olds:=[]) hv (.inl ⟨rfl,rfl,rfl⟩) q3 q0 (by simpa using q2) (by simpa using q1) fun v' w' e1 e2 e3 jv=>?_;have pY:=xE (w:=w) (rest:=[]) T2.us th kZ q0 (es:=[]) (G:=[]) (olds:=[]) (nn:=nn) (cap:=0) (by simp[fR]) (by simp) p1 q3 (by simpa using q2) (.inl ⟨rfl,rfl,rfl,rfl,rfl,y4⟩) (ow:=false)
          (fun e=>by cases e) (fun _=>fun x hx=>p2 x (by simpa using hx)) (fun e k v hk ku=>by
              subst e;obtain⟨z1,z2⟩:=T.us.ww k v hk ⟨_,ku▸hm,rfl⟩;rw[←ku,y1]at z1 z2;exact⟨fun h=>by simpa using z1 h,fun _ h=>absurd rfl h⟩) (e:=e) (v':=v') (w':=w') (by simpa using jv)
        refine fin T2.rep e1 e2 e3 pY ?_;exact Ca
      · obtain ⟨zs, B8⟩ := GM.1
        rw[B8]at y6;obtain⟨G1,G2,c1,c2,rfl,rfl,y6,_⟩:=fR.split y6;have ur:∀d∈qh,d.size=i.size:=fun d hd=>ur d (by rw[B8];simp[hd])
        have y5 : qh.length ≤ g'.cap id := by have : es.length = qh.length + zs.length := by rw [B8, lP]
                                              omega
        rw[bz]at y3;have hv:a.eval s=.slice (some ⟨b,0,none⟩) qh.length (g'.cap id):=by
          rw[tc];rcases x3 with⟨b',x3,x4⟩|⟨x3,_⟩
          · rw [y1] at x3
            obtain rfl:=aQ x3;simpa using x4
          · rw[y1]at x3;cases x3
        have lh:=y6.length;rw[D.fG ur]at lh;have hle:=ba i.size y5;have re:Src w.heap i.size (some ⟨b,0,none⟩) qh.length (g'.cap id) c1:=by
          refine .inr ⟨b,0,cc,ee,rfl,y5,y2,by omega,?_⟩;rw[az,y3,←lh,bV]
          rfl
        have rW:b∈g'.φ id:=by
          cases ow
          · simp only[kY,aH]at y8;rw[y8.1];simp
          · simp only[aK]at y8;rw[y8];simp
        have hG1:∀x∈G1,g'.Sh x:=by
          intro x hx;rcases q4 with rfl|rfl
          · simp only [kY, aH] at y8
            exact y8.2 x (by simp[hx])
          · simp only [fR] at y6
            rw[y6.1]at hx;cases hx
        refine run hv re q3 q0 (by rw[tc];exact q2) (by rw[tc];exact q1) fun v' w' e1 e2 e3 jv=>?_;have Z2:b∉G1:=fun hb=>(T.us.sh b (hG1 b hb)).2.2 (jb b rW);have HS:b∉F:=fun hb=>(T.us.sh b (p2 b hb)).2.2 (jb b rW);have pY:=xE (w:=w) (rest:=c2++rest) T2.us th kZ q0 (es:=qh) (G:=G1) (olds:=c1) (nn:=nn) (cap:=g'.cap id) y6 ur p1 q3 (by rw[tc];exact q2)
          (.inr ⟨b,cc,ee,rfl,y2,y4,y3,y5,y7,AW b rW,fun hb=>(T.us.sh b hb).2.2 (jb b rW),fun hb=>T.us.low b (jb b rW) hb,by rw[ax];exact fun hb=>hb.elim Z2 HS⟩) (ow:=false)
          (fun e=>by cases e)
          (fun _=>by
            intro x hx;rcases ax.1 hx with hx|hx
            · exact hG1 x hx
            · exact p2 x hx) (fun e k v hk ku => by
              subst e;obtain⟨z1,z2⟩:=T.us.ww k v hk ⟨_,ku▸hm,rfl⟩;rw[←ku,y1]at z1 z2;exact⟨fun h=>by simpa using z1 h,fun h _=>z2 h (by simp)⟩) (e:=e) (v':=v') (w':=w') jv
        refine fin T2.rep e1 e2 e3 pY ?_;exact Ca
    · exact hk.elim
  · exact hk.elim
variable {u1:TypeId}
def Vd(h:At n0 S0 M0 w0 st o a w g){u2:TypeId}{sz:Nat}{p:Operand}{A X:Ax.X}{f:St→Prop}(ho:o.op=.store t p x)(hd:o.dst=none)(hp:fY P u1 p=some A)(hx:fY P u2 x=some X)
  (hz:io P t=some sz) (hq:uQ (st.ev A) (st.ev X) st sz f):o.wp P a w (ip n0 S0 M0 w0 st.n f) Q':=by
 unfold uQ at hq
 split at hq
 ·next i off len e1=>
  split at hq
  ·next id el j e2=>exact Vk h ho hd hp hx hz e2 (by rw[e1];exact hq)
  ·next id j e2=>exact U5 h ho hd hp hx hz e2 (by rw[e1];exact hq)
  exact hq.elim
 exact aaM h ho hd hp hx hz hq
def jX(hu:gr h n0 S0 M0 us g){ts:List Nat}{d:D}(hr:fx h us g av v)(hd:(av.rd (lu us)).map (fun p=>(p.1.toList,p.2))=some (ts,d)):
  ∃F,f8 h d F v.cells.toList∧d.fits v∧∀b∈F,g.Sh b∨∃k∈ts,b∈g.φ k:=by
 rw[cF]at hd;obtain⟨⟨t,d'⟩,hd,e⟩:=hd;injection e with e1 e2;subst e1 e2;obtain⟨F,r1,r2,r3⟩:=Fe hu hr hd;exact⟨F,r1,r2,fun b hb=>(r3 b hb).imp id fun⟨k,h1,h2⟩=>⟨k,by simp[h1],h2⟩⟩
mutual
def TE(hu:gr h n0 S0 M0 us g):∀{av:AV} {v:Value} {ts:List Nat} {d:D},fx h us g av v→av.BZ (lu us)=some (ts,d)→
  ∃F,f8 h d F v.cells.toList∧d.fits v∧∀b∈F,g.Sh b∨∃k∈ts,b∈g.φ k
 |.sg vs,v,ts,d,hr,hd=>by
  simp only[AV.BZ]at hd
  split at hd
  ·next ts' ds kf=>
   rw[cF]at hd;obtain⟨d',hd,e⟩:=hd;injection e with e1 e2;subst e1 e2;unfold Vl at hd
   split at hd
   ·next gF=>
    obtain rfl:=aQ hd;simp only[fx]at hr;obtain⟨xs,h1,rfl⟩:=hr;obtain⟨F,q1,q2⟩:=yi hu h1 kf;refine⟨F,?_,by simp[D.fits,Value.cells],q2⟩;simp only[f8];rw[aY]at gF;refine⟨fun d hd=>?_,by simpa[Value.cells]using xb q1⟩;have:=gF d hd;simpa using this
   cases hd
  cases hd
 |.im t d',v,ts,d,hr,hd=>by
  simp only[AV.BZ,oS,cM]at hd;obtain⟨rfl,rfl⟩:=hd;simp only[fx]at hr;obtain⟨F,r1,r2,r3⟩:=hr
  split
  ·next hp=>
   have:=iB hp r1;subst this;exact⟨[],r1,r2,by simp⟩
  refine⟨F,r1,r2,fun b hb=>?_⟩;rcases r3 b hb with h3|⟨k,rfl,h3,_⟩
  exact .inl h3;exact .inr ⟨k,by simp,h3⟩
 |.tr i,v,ts,d,hr,hd=>jX hu hr (by simpa only[AV.BZ]using hd)
 |.pw i el j,v,ts,d,hr,hd=>jX hu hr (by simpa only[AV.BZ]using hd)
 |.cw i el j sz agg,v,ts,d,hr,hd=>jX hu hr (by simpa only[AV.BZ]using hd)
 |.sm i off len,v,ts,d,hr,hd=>jX hu hr (by simpa only[AV.BZ]using hd)
 |.vb i len,v,ts,d,hr,hd=>jX hu hr (by simpa only[AV.BZ]using hd)
 |.jS vs,v,ts,d,hr,hd=>jX hu hr (by simpa only[AV.BZ]using hd)
 |.any,v,ts,d,hr,hd=>jX hu hr (by simpa only[AV.BZ]using hd)
 |.cl f vs,v,ts,d,hr,hd=>jX hu hr (by simpa only[AV.BZ]using hd)
 |.pq i el j gQ ic j',v,ts,d,hr,hd=>jX hu hr (by simpa only[AV.BZ]using hd)
 |.qs i el j gQ off len,v,ts,d,hr,hd=>jX hu hr (by simpa only[AV.BZ]using hd)
 |.ss i off len,v,ts,d,hr,hd=>jX hu hr (by simpa only[AV.BZ]using hd)
 |.z0 nn sz,v,ts,d,hr,hd=>jX hu hr (by simpa only[AV.BZ]using hd)
 |.pb i j,v,ts,d,hr,hd=>jX hu hr (by simpa only[AV.BZ]using hd)
 |.ps i,v,ts,d,hr,hd=>jX hu hr (by simpa only[AV.BZ]using hd)
 |.mv i,v,ts,d,hr,hd=>jX hu hr (by simpa only[AV.BZ]using hd)
def yi(hu:gr h n0 S0 M0 us g):∀{avs:List AV} {vs:List Value} {ts:List Nat} {ds:List D},fA h us g avs vs→JE (lu us) avs=some (ts,ds)→
  ∃F,lO h ds F vs∧∀b∈F,g.Sh b∨∃k∈ts,b∈g.φ k
 | [],vs,ts,ds,hr,hd=>by
  simp only[JE,oS,cM]at hd;obtain⟨rfl,rfl⟩:=hd;simp only[fA]at hr;subst hr;exact⟨[],by simp[lO],by simp⟩
 |av::avs,vs,ts,ds,hr,hd=>by
  simp only[fA]at hr;obtain⟨v,r,rfl,r1,r2⟩:=hr;simp only[JE]at hd
  split at hd
  ·next t d ts' ds' h1 h2=>
   simp only[oS,cM]at hd;obtain⟨rfl,rfl⟩:=hd;obtain⟨F1,p1,p2,p3⟩:=TE hu r1 h1;obtain⟨F2,q1,q2⟩:=yi hu r2 h2;refine⟨F1++F2,rH.2 ⟨F1,F2,v,r,rfl,rfl,p1,p2,q1⟩,fun b hb=>?_⟩;rcases ax.1 hb with hb|hb
   ·exact(p3 b hb).imp id fun⟨k,h1,h2⟩=>⟨k,by simp[h1],h2⟩
   exact(q2 b hb).imp id fun⟨k,h1,h2⟩=>⟨k,by simp[h1],h2⟩
  cases hd
end
def uc{iD:Nat→Prop}:∀{ds:List D} {F:List Nat} {vs:List Value},lO h ds F vs→(∀b∈F,iD b)→gM h iD ds vs
 | [],F,vs,hr,_=>by
  rw[D3]at hr;obtain⟨rfl,rfl⟩:=hr;simp[gM]
 |d::ds,F,vs,hr,hF=>by
  rw[rH]at hr;obtain⟨F1,F2,v,r,rfl,rfl,h1,h2,h3⟩:=hr;simp only[gM];exact⟨v,r,F1,rfl,h1,h2,fun b hb=>hF b (by simp[hb]),uc h3 fun b hb=>hF b (by simp[hb])⟩
def xy{g:Gh}{y:AV}:∀{ys:List AV} {vs:List Value},fA h us g (ys++[y]) vs→∃xs v,vs=xs++[v]∧fA h us g ys xs∧fx h us g y v
 | [],vs,hr=>by
  simp only[be,fA]at hr;obtain⟨v,r,rfl,h1,rfl⟩:=hr;exact⟨[],v,rfl,by simp[fA],h1⟩
 |z::ys,vs,hr=>by
  simp only[bp,fA]at hr;obtain⟨v,r,rfl,h1,h2⟩:=hr;obtain⟨xs,x,rfl,h3,h4⟩:=xy h2;exact⟨v::xs,x,rfl,by simp only[fA];exact⟨v,xs,rfl,h1,h3⟩,h4⟩
def xf{f:AV→Bool}:∀{l:List AV},kS f (kS f l)=kS f l
 | []=>rfl
 |v::r=>by
  simp only[kS,xf (l:=r)];congr 1;cases hf:f v<;>simp[hf]
def U.AZ{f:AV→Bool}{u:U}:(u.kill f).kill f=u.kill f:=by
 cases u<;>simp[U.kill,xf]
def LB(h:At n0 S0 M0 w0 st o a w g){f:Nat}{avs ys:List AV}{vs:List Value}{id k:Nat}{kk:St→Prop}(gk:jf P f→(execOp a.eval o).run P w=.ok (.enter f vs.toArray) w)(hr:fA w.heap st.us g avs vs)
  (he:avs=ys++[.pb id 0]) (hq:Xf (st.unit id) (st.unit k) P o.dst f id k ys st kk):o.wp P a w (ip n0 S0 M0 w0 st.n kk) Q':=by
 have hs:=h.sat;have hu:=h.us;have up:n0≤w.heap.size:=by rw[hs.base];exact hs.size
 unfold Xf at hq
 split at hq
 ·next u v k' n ow nn sz es ahQ ahR=>
  obtain⟨⟨rfl,gw,rfl,hnn⟩,ts,ds,es',Cd,hts,⟨lh,hA⟩,hk⟩:=hq;have ku:=fB ahQ;have hkm:=fB ahR;subst he;obtain⟨vy,vp,rfl,hry,hrp⟩:=xy hr;have UA:=hu.each _ ku;have ho2:=hu.each _ hkm;simp only[hP]at UA ho2;obtain⟨_,b,c,e,vs0,rest,i1,i2,i3,i4,i5,i6⟩:=UA;obtain⟨j1,j2,j3⟩:=ho2;rcases j3 with⟨_,z2,_,z4⟩|⟨b2,c2,e2,G,cs,r2,l1,l2,l3,l4,l5,l6,l7,l8⟩
  exact(hnn.elim z4 fun hz=>hz z2).elim;simp only[fA]at i4;obtain⟨x,_,rfl,i4,rfl⟩:=i4;simp only[fx]at i4;obtain⟨ow',jc,gv,EC,m1,m2,m3⟩:=i4;have:=hu.uniq m1 hkm;injection this with q1 q2 q3 q4;subst q1 q2 q3 q4;have hx:x=.slice (some ⟨b2,0,none⟩) EC.length (g.cap k'):=by
   rcases m3 with⟨b3,m3,m4⟩|⟨m3,_⟩
   rw[l1]at m3;obtain rfl:=aQ m3;simpa using m4;rw[l1]at m3;cases m3
  subst hx;simp only[fx]at hrp;obtain⟨_,_,b',_,p2,rfl⟩:=hrp;rw[i1]at p2;obtain rfl:=aQ p2;have rW:b∈g.φ id:=by rw[i3];simp
  have K0:∀x∈b::g.φ k',x∈fp g st.us:=by
   intro x hx;rcases aj.1 hx with rfl|hx
   exact fL.2 ⟨_,ku,rW⟩;exact fL.2 ⟨_,hkm,hx⟩
  have ED:b∉g.φ k':=fun hb=>gw (gK hu.keys hu.nodup hkm ku hb rW);have ii:(b::g.φ k').Nodup:=aP.2 ⟨ED,gO hu hkm⟩;have Cx:∀i v,(i,v)∈st.us→i≠id→i≠k'→∀x∈g.φ i,x∉b::g.φ k':=by
   intro i v hi h1 h2 x hx AX;rcases aj.1 AX with rfl|AX
   exact h1 (gK hu.keys hu.nodup hi ku hx rW);exact h2 (gK hu.keys hu.nodup hi hkm hx AX)
  have Cu:∀x,g.Sh x→x∉b::g.φ k':=fun x hx AX=>(hu.sh x hx).2.2 (K0 x AX)
  let iD:Nat→Prop:=fun x=>g.Sh x∨(ow'=true∧x<w.heap.size∧x∉b::g.φ k')
  have hL:ZB w.heap iD ow' gv EC b (g.φ k'):=by
   refine⟨j1,j2,c,e,rest,b2,c2,e2,G,cs,r2,g.cap k',i2,by simpa[Value.cells]using i6,l2,l3,l4,l5,l6,?_⟩
   split
   ·next hw=>rw[an hw]at l8;exact l8
   next hw=>rw[al hw]at l8;exact⟨l8.1,fun x hx=>.inl (l8.2 x hx)⟩
  have oc:gM w.heap iD ds vy:=by
   obtain⟨FV,r1,r2⟩:=yi hu hry Cd;refine uc r1 fun x hx=>?_;rcases r2 x hx with r2|⟨t,ht,r2⟩
   exact .inl r2;simp only[cD,bM,cI,eU,Bool.not_eq_false',List.isEmpty_iff]at hts;obtain⟨⟨t1,t2⟩,t3⟩:=hts;have hw:ow'=true:=by
    rcases t3 with t3|t3
    exact t3;subst t3;cases ht
   obtain⟨v,hv⟩:=hu.live r2;exact .inr ⟨hw,hu.lt x (fL.2 ⟨_,hv,r2⟩),Cx t v hv (by rintro rfl;exact t2 ht) (by rintro rfl;exact t1 ht) x r2⟩
  unfold Oper.wp;rw[gk lh,cL];refine(hA w vy iD b (g.φ k') hL ii (fun x hx=>⟨hu.fz x (K0 x hx),fun ho=>ho.elim (fun h1=>Cu x h1 hx) fun h1=>h1.2.2 hx⟩) oc).mono ?_;rintro e w' ⟨⟨v,rfl⟩,e1,e2,e3,jm,te,F',sh',Z9,rf,P4,ahS⟩;obtain⟨y1,y2,c',ty',Pr,b2',c2',e2',G',nb,r2',cap',y3,y4,y5,y6,y7,y8,y9,y10⟩:=Z9;have UN:∀i u,(i,u)∈st.us→i≠id→i≠k'→∀x∈g.φ i,w'.heap[x]?=w.heap[x]?:=fun i u hi h1 h2 x hx=>te x (hu.lt x (fL.2 ⟨_,hi,hx⟩)) (Cx i u hi h1 h2 x hx);have frS:∀x,g.Sh x→w'.heap[x]?=w.heap[x]?:=fun x hx=>te x (hu.sh x hx).1 (Cu x hx)
  let g2:Gh:=⟨fun i=>if i=k' then some b2' else g.β i,fun i=>if i=k' then F' else g.φ i,g.root,fun i=>if i=k' then cap' else g.cap i,fun x=>g.Sh x∨(ow'=false∧sh' x)⟩
  have gβ:∀i,i≠k'→g2.β i=g.β i:=fun i hi=>by simp[g2,hi]
  have gφ:∀i,i≠k'→g2.φ i=g.φ i:=fun i hi=>by simp[g2,hi]
  have gc:∀i,i≠k'→g2.cap i=g.cap i:=fun i hi=>by simp[g2,hi]
  have gβk:g2.β k'=some b2':=by simp[g2]
  have gφk:g2.φ k'=F':=by simp[g2]
  have gck:g2.cap k'=cap':=by simp[g2]
  generalize Cg:(id,U.bx 1 [.sm k' 0 es'.length])::(k',U.ar ow' (some false) gv es')::fQ id (lv k' id) (fQ k' (lv k' id) st.us)=Ch;have rV:id≠k':=fun e=>gw e.symm;have um1:(id,U.bx 1 [.sm k' 0 es'.length])∈Ch:=by rw[←Cg];exact bP
  have um2:(k',U.ar ow' (some false) gv es')∈Ch:=by rw[←Cg];exact bt _ bP
  have of2:∀y∈Ch,(y=(id,U.bx 1 [.sm k' 0 es'.length]))∨y=(k',U.ar ow' (some false) gv es')∨(y.1≠id∧y.1≠k'∧∃u,(y.1,u)∈st.us∧y.2=u.kill (lv k' id)):=by
   intro y hy;rw[←Cg]at hy;rcases aj.1 hy with hy|hy
   exact .inl hy;rcases aj.1 hy with hy|hy
   exact .inr (.inl hy);obtain⟨a1,u1,a2,a3⟩:=gf hy;obtain⟨a4,u2,a5,a6⟩:=gf a2;simp only at a4 a5 a6;exact .inr (.inr ⟨a1,a4,u2,a5,by rw[a3,a6,U.AZ]⟩)
  have K:me [id] [k'] (lv k' id) w.heap w'.heap st.us Ch g g2:=by
   refine⟨?_,?_,fun i hi=>?_,?_,?_,?_⟩
   ·intro av hf;simp only[lv,cD]at hf;exact⟨by simpa using hf.2,by simpa using hf.1⟩
   intro i u hi h1 h2;simp only[am]at h1 h2;rw[←Cg];have:=iY (f:=lv k' id) (iY (f:=lv k' id) hi h2) h1;rw[U.AZ]at this;simp[this];simp only[am]at hi;exact⟨gβ i hi,rfl,gc i hi⟩;intro i u b0 hi h1 h2 th;simp only[am]at h1 h2;exact UN i u hi h1 h2 b0 ((hu.each _ hi).iZ th)
   ·intro t d FV cs0 h1 h2 hrp i9;simp only[am,bj]at h1 h2;have hx:∀x∈FV,w'.heap[x]?=w.heap[x]?:=by
     intro x hx;rcases i9 x hx with q|⟨i,rfl,q,_⟩
     exact frS x q;obtain⟨u,rN⟩:=hu.live q;exact UN i u rN (fun e=>h1 (by rw[e])) (fun e=>h2 (by rw[e])) x q
    refine⟨hrp.frame hx,fun x hx=>?_⟩;rcases i9 x hx with q|⟨i,rfl,q,q'⟩
    exact .inl (.inl q);have hik:i≠k':=fun e=>h2 (by rw[e]);exact .inr ⟨i,rfl,by rw[gφ i hik];exact q,by rw[gβ i hik];exact q'⟩
   intro i hi;simp only[am]at hi;subst hi;exact⟨_,_,fun v hv=>hu.uniq hv ku,um1,by simp[lB]⟩
  have oR:(Ch.map (·.1)).Nodup:=by
   rw[←Cg];simp only[lC,aP,gn,aj,aX];refine⟨by simp[rV],by simp,(hu.keys.filter _).filter _⟩
  have hF'f:∀x∈F',x<w.heap.size→x∈b::g.φ k':=fun x hx gI=>(P4 x (by simp[hx])).2.1 gI;have zu:∀x∈b::F',x<w'.heap.size:=fun x hx=>mO.lt (P4 x hx).1;have Lb:∀x,x∈fp g2 Ch→x∈b::F'∨∃i u,(i,u)∈st.us∧i≠id∧i≠k'∧x∈g.φ i:=by
   intro x hx;obtain⟨y,hy,jM⟩:=fL.1 hx;rcases of2 y hy with rfl|rfl|⟨n1,n2,u,vM,_⟩
   simp only[gφ id rV,i3]at jM;exact .inl (by simp at jM;simp[jM]);simp only[gφk]at jM;exact .inl (by simp[jM]);rw[gφ _ n2]at jM;exact .inr ⟨y.1,u,vM,n1,n2,jM⟩
  have hU:gr w'.heap n0 S0 M0 Ch g2:=by
   refine⟨oR,mq oR ?_ ?_,?_,?_,?_,?_,?_,?_,?_⟩
   ·intro y hy;rcases of2 y hy with rfl|rfl|⟨n1,n2,u,vM,_⟩
    simp only[gφ id rV,i3];simp;simp only[gφk];exact(aP.1 rf).2;rw[gφ _ n2];exact gO hu vM
   ·intro y hy z hz x jM ra;have out:∀i u,(i,u)∈st.us→i≠id→i≠k'→x∈g.φ i→x∉b::F':=by
     intro i u hi n1 n2 hx hxf;have:=(P4 x hxf).2.1 (hu.lt x (fL.2 ⟨_,hi,hx⟩));exact Cx i u hi n1 n2 x hx this
    have HS:b∉F':=(aP.1 rf).1;rcases of2 y hy with rfl|rfl|⟨n1,n2,u,vM,_⟩<;>rcases of2 z hz with rfl|rfl|⟨n3,n4,u',EJ,_⟩
    rfl
    simp only[gφ id rV,i3,am]at jM;simp only[gφk]at ra;subst jM;exact absurd ra HS;simp only[gφ id rV,i3,am]at jM;rw[gφ _ n4]at ra;exact absurd (by simp[jM]) (out _ _ EJ n3 n4 ra);simp only[gφ id rV,i3,am]at ra;simp only[gφk]at jM;subst ra;exact absurd jM HS;rfl;simp only[gφk]at jM;rw[gφ _ n4]at ra;exact absurd (by simp[jM]) (out _ _ EJ n3 n4 ra);simp only[gφ id rV,i3,am]at ra;rw[gφ _ n2]at jM;exact absurd (by simp[ra]) (out _ _ vM n1 n2 jM);simp only[gφk]at ra;rw[gφ _ n2]at jM;exact absurd (by simp[ra]) (out _ _ vM n1 n2 jM);rw[gφ _ n2]at jM;rw[gφ _ n4]at ra;exact gK (x:=(y.1,u)) (y:=(z.1,u')) hu.keys hu.nodup vM EJ jM ra
   ·intro x hx;rcases Lb x hx with hx|⟨i,u,hi,_,_,hx⟩
    exact zu x hx;have:=hu.lt x (fL.2 ⟨_,hi,hx⟩);omega
   ·intro x hx gI;rcases Lb x hx with hx|⟨i,u,hi,_,_,hx⟩
    exact hu.low x (K0 x ((P4 x hx).2.1 (by omega))) gI;exact hu.low x (fL.2 ⟨_,hi,hx⟩) gI
   ·intro i hi;have hik:i≠k':=fun e=>hi (aR.2 ⟨_,um2,e.symm⟩);have hii:i≠id:=fun e=>hi (aR.2 ⟨_,um1,e.symm⟩);rw[gφ i hik];refine hu.dead i fun hm=>hi ?_;obtain⟨y,hy,rfl⟩:=aR.1 hm;exact aR.2 ⟨_,K.mem y.1 y.2 hy (by simpa using hii) (by simpa using hik),rfl⟩
   ·intro x hx;rcases hx with hx|⟨hw,hx⟩
    ·obtain⟨q1,q2,q3⟩:=hu.sh x hx;refine⟨by omega,q2,fun hf=>?_⟩;rcases Lb x hf with hf|⟨i,u,hi,_,_,hf⟩
     exact q3 (K0 x ((P4 x hf).2.1 q1));exact q3 (fL.2 ⟨_,hi,hf⟩)
    obtain⟨q1,q2⟩:=ahS x hx;have q2':x<w.heap.size→g.Sh x∨x∈b::g.φ k':=fun gI=>by
     rcases q2 gI with(q|⟨q,_⟩)|q
     exact .inl q;rw[hw]at q;cases q;exact .inr q
    refine⟨q1,fun gI=>?_,fun hf=>?_⟩
    ·rcases q2' (by omega)with q|q
     exact(hu.sh x q).2.1 gI;exact hs.ms x gI (hu.low x (K0 x q) gI)
    rcases Lb x hf with hf|⟨i,u,hi,n1,n2,hf⟩
    exact(P4 x hf).2.2 hx;rcases q2' (hu.lt x (fL.2 ⟨_,hi,hf⟩))with q|q
    exact(hu.sh x q).2.2 (fL.2 ⟨_,hi,hf⟩);exact Cx i u hi n1 n2 x hf q
   ·intro y hy;rcases of2 y hy with rfl|rfl|⟨n1,n2,u,vM,hy2⟩
    ·simp only[hP];refine⟨by simp[gp],b,c',ty',[.slice (some ⟨b2',0,none⟩) es'.length cap'],Pr,by rw[gβ id rV];exact i1,y3,by rw[gφ id rV];exact i3,?_,by simp[Value.cells],by simpa[Value.cells]using y4⟩;simp only[fA];refine⟨_,_,rfl,?_,rfl⟩;simp only[fx];exact⟨ow',some false,gv,es',um2,by omega,.inl ⟨b2',gβk,by rw[gck];simp⟩⟩
    ·simp only[hP];refine⟨y1,y2,.inr ⟨b2',c2',e2',G',nb,r2',gβk,y5,y6,by rw[gck];exact y7,by rw[gck];exact y8,y9,by simp,?_⟩⟩;rw[gφk]
     split
     ·next hw=>rw[an hw]at y10;exact y10
     next hw=>rw[al hw]at y10;exact⟨y10.1,fun x hx=>.inr ⟨by simpa using hw,y10.2 x hx⟩⟩
    rw[hy2];exact(hu.each _ vM).oQ K vM (by simpa using n1) (by simpa using n2) (gφ _ n2) (fun x hx=>UN _ _ vM n1 n2 x hx) (fun x hx=>⟨.inl hx,frS x hx⟩)
   ·intro x hx;rcases Lb x hx with hx|⟨i,u,hi,n1,n2,hx⟩
    exact(P4 x hx).1;exact(hu.fz x (fL.2 ⟨_,hi,hx⟩)).eq (UN i u hi n1 n2 x hx)
   refine hu.ww.mono fun i u hm wy=>?_;rcases of2 _ hm with e0|e0|⟨n1,n2,u0,vM,hy2⟩
   ·injection e0 with e0 e0';subst e0;exact⟨⟨_,ku,rfl⟩,gβ _ rV,gc _ rV⟩
   ·injection e0 with e0 e0';subst e0';simp[U.jL]at wy
   simp only at hy2 n2;rw[hy2,U.qZ]at wy;exact⟨⟨_,vM,wy⟩,gβ _ n2,gc _ n2⟩
  have iF:∀t,fx w'.heap Ch g2 (lk (iy (lv k' id) st.env) t) (a.tmps.getD t undef):=fun t=>gT K.rep (h.rep t);have hS:ju n0 S0 M0 w0 (st.GE id k' es' ow' gv) a w':=by
   refine⟨hs.ms,hs.mS,hs.tm,hs.base,e1.trans hs.os,e2.trans hs.tape,e3.trans hs.output,bX hs.size jm,?_,g2,?_,?_⟩
   ·intro x hx hM;rw[te x (by omega) fun hxf=>hM (hu.low x (K0 x hxf) hx)];exact hs.iD x hx hM
   simp only[St.GE];rw[Cg];exact hU;simp only[St.GE];rw[Cg];exact iF
  refine⟨_,?_,hk,gW hS (g:=g2) ?_ ?_ h.dst (by simp[fx])⟩
  ·cases o.dst<;>rfl
  simp only[St.GE];rw[Cg];exact hU;simp only[St.GE];rw[Cg];exact iF
 exact hq.elim
variable {e:TypeId}
def aaU(h:At n0 S0 M0 w0 st o a w g){len d sz:Nat}{ps:Array (Nat×Operand)}{z:D}{L:List (Nat×X)}{f:St→Prop}(ho:o.op=.buildSlice t len ps)(ht:P.underlying t=some (.slice e))
  (hs:io P e=some sz) (hz:iI P e=some z) (hL:ps.toList.mapM (fun(i,x)=>do pure (i,←fY P e x))=some L) (hd:o.dst=some d)
  (hq:JN (L.map fun p=>(p.1,st.ev p.2)) st d sz len f):o.wp P a w (ip n0 S0 M0 w0 st.n f) Q':=by
 obtain⟨b1,b2⟩:=tN h ps.toList L hL;have jD:=h.sat;have th:n0≤w.heap.size:=by rw[jD.base];exact jD.size
 obtain⟨⟨q1,q0,q2⟩,hq⟩:=hq;obtain⟨ds,fS,g',F,hk,T,s1,s2,s3,s4,s5⟩:=wY h.us (iU.refl h.us h.rep) (by simpa[bY]using b1) hq;obtain⟨⟨kf,te⟩,hk⟩:=hk;unfold io at hs;cases od:P.info? e with
 |none=>simp[od]at hs
 |some inf=>
  simp only[od,dC,oS]at hs;unfold iI at hz;rw[od]at hz
  dsimp only at hz
  split at hz
  ·next zv B7=>
   have hlen:ps.toList.length=len:=by
    have:=congrArg List.length q1;have h2:=congrArg List.length b2;simp at this h2;simp[←h2,this]
   have aaa:ps.toList.map (·.1)=List.range' 0 ps.toList.length:=by
    rw[←b2,hlen,←eW,←q1];simp[bY]
   generalize w8:(ps.toList.map fun p=>a.eval p.2)=vs at s1 s5 b1;have K7:vs.length=len:=by rw[←w8];simpa using hlen
   have oO:ds.length=len:=by
    have:=congrArg List.length s5;simp at this;omega
   have v2:∀v∈vs,v.cells.size=sz:=by
    intro v hv;have h1:v.cells.size∈vs.map (·.cells.size):=aR.2 ⟨v,hv,rfl⟩;rw[s5]at h1;obtain⟨x,hx,e1⟩:=aR.1 h1;rw[←e1];exact kf x hx
   have Cb:(ps.toList.map fun p=>(p.1,a.eval p.2))=(vs.zipIdx 0).map fun x=>(x.2,x.1):=by
    have:=uL (ps.toList.map fun p=>(p.1,a.eval p.2)) 0 (by simpa[bY]using aaa);rw[←w8];simpa[bY]using this
   subst hs;have gk:∃nb:Array Value,(execOp a.eval o).run P w=.ok (.value (.slice (some ⟨w.heap.size,0,none⟩) len len)) (w.alloc (.cells nb e))∧nb.toList=(vs.map (·.cells.toList)).flatten:=by
    by_cases h0:len=0
    ·subst h0;have Cv:ps= #[]:=by apply aS;simpa using dv hlen
     have hv0:vs=[]:=dv K7;refine⟨#[],?_,by simp[hv0]⟩;subst Cv;simp[execOp,ho,Instr.buildSlice,aW ht,sizeOf,typeInfo,od,newRow,Instr.fill];congr 2
     try (apply aS;simp)
    have Em:((Array.range (len*inf.size)).map (zv.cells[· % zv.cells.size]!)).toList.length=len*inf.size:=by simp
    obtain⟨nb,f1,f2⟩:=ue (pg:=fun i=>some (i*inf.size,inf.size)) (z:=((Array.range (len*inf.size)).map (zv.cells[· % zv.cells.size]!)).toList) (off:=fun i=>i*inf.size)
     ((vs.zipIdx 0).map fun x=>(x.2,x.1)) 0 ((Array.range (len*inf.size)).map (zv.cells[· % zv.cells.size]!)) [] (by simp) rfl (by omega)
     (by
      intro p hp;obtain⟨x,hx,rfl⟩:=aR.1 hp;have:x.1∈vs:=by
       have:=List.mem_zipIdx' hx;rw[this.2];exact aZ _
      simp only[v2 _ this])
     (by
      rw[Em];have:=oY (n:=len*inf.size) vs 0 v2 (by rw[K7];simp);simpa[bY]using this)
    have lY:nb.toList=(vs.map (·.cells.toList)).flatten:=by
     have:=Gi (z:=((Array.range (len*inf.size)).map (zv.cells[· % zv.cells.size]!)).toList) vs 0 v2;rw[d7]at this;rw[f2];simp only[be,df,bY];rw[this,bQ (by rw[Em,K7,aw];exact aU _),aB]
    have B3:¬len*inf.size=0:=by
     intro h';rcases Nat.mul_eq_zero.1 h' with h'|h'<;>omega
    have gk:=run_buildSlice (P:=P) w t e len (ps.map fun p=>(p.1,a.eval p.2)) nb inf zv ht od B7 (by omega) B3 (by rw[dZ,Cb];exact f1);refine⟨nb,?_,lY⟩;simp only[execOp,ho,bK,gk]
    rfl
   obtain⟨nb,gk,lY⟩:=gk;have hFl:=s1.lt;obtain⟨hU,hV⟩:=T.us.more (F:=F.filter fun b=>!(fp g' fS.us).contains b) (fun b hb=>by
    obtain⟨hb,hn⟩:=aX.1 hb;simp only[bM,ce,cI]at hn;refine⟨hFl b hb,fun gI=>?_,hn⟩;rcases s2 b hb with q|⟨q,_⟩
    exact(h.us.sh b q).2.1 gI;exact jD.ms b gI (h.us.low b q gI))
   have hFs:∀b∈F,g'.Sh b∨b∈F.filter fun b=>!(fp g' fS.us).contains b:=fun b hb=>by
    rcases s2 b hb with q|⟨_,q⟩
    exact .inl ((s3 b).2 q);exact .inr (aX.2 ⟨hb,by simpa using q⟩)
   generalize hg1:({g' with Sh:=fun b=>g'.Sh b∨b∈F.filter fun b=>!(fp g' fS.us).contains b}:Gh)=g1 at hU hV;have ahT:∀b∈F,g1.Sh b:=fun b hb=>by rw[←hg1];exact hFs b hb
   have kZ:d∉fS.us.map (·.1):=ir (by simpa[St.fresh,o9]using te);have hl:=s1.length;rw[D.fG kf]at hl;have UQ:nb.size=len*inf.size:=by
    have:nb.size=nb.toList.length:=by simp
    rw[this,lY,hl,oO]
   obtain⟨s7,yZ⟩:=hU.Pm (h':=(w.alloc (.cells nb e)).heap) kZ (u:=.ar false (some false) inf.size ds) (β:=some w.heap.size) (φ:=[w.heap.size]) (root:=undef) (cap:=len)
    (by show _ ≤ (w.heap.push _).size; simp) (fun b hb => jI (hb.elim (hU.lt b) fun hb => (hU.sh b hb).1)) (by simp) (fun b hb => by
     rw[am]at hb;subst hb;exact⟨by show _<(w.heap.push _).size;simp,fun gI=>by omega,fun hb=>cu _ (hU.sh _ hb).1,fun hb=>cu _ (hU.lt _ hb),.inl ⟨nb,e,jB _ _⟩⟩)
    (by
     intro _;simp only[hP,hZ];have hlm:len≤len*inf.size:=fi _ q0;refine⟨by rw[oO];simp[gp];omega,kf,.inr ⟨w.heap.size,nb,e,F,(vs.map (·.cells.toList)).flatten,[],rfl,jB _ _,by rw[lY,aB],UQ,by omega,by have:=s1.frame (h':=(w.alloc (.cells nb e)).heap) fun b hb=>jI (hFl b hb);exact this,by simp,?_⟩⟩;simp only[kY,aH];exact⟨trivial,ahT⟩) (by simp[U.jL])
   have VQ:fS.n=st.n:=T.n;unfold Oper.wp;rw[gk];have hold:∀b,b<n0→¬M0 b→(w.alloc (.cells nb e)).heap[b]?=w0.heap[b]?:=fun b hb hm=>by
    have:(w.heap.push (.cells nb e (0,0)))[b]?=w.heap[b]?:=jI (by omega);exact this.trans (jD.iD b hb hm)
   have hS:ju n0 S0 M0 w0 ⟨st.n,fS.env,(d,.ar false (some false) inf.size ds)::fS.us⟩ a (w.alloc (.cells nb e)):=by
    refine⟨jD.ms,jD.mS,jD.tm,jD.base,jD.os,jD.tape,jD.output,?_,hold,_,s7,fun t=>yZ _ _ (hV _ _ (T.rep t))⟩;have:=jD.size
    show _≤(w.heap.push _).size
    simp;omega
   have qr:f ((⟨st.n,fS.env,(d,.ar false (some false) inf.size ds)::fS.us⟩:St).set d (.sm d 0 len)):=by
    rw[←VQ];simpa[St.iQ]using hk
   refine⟨(⟨st.n,fS.env,(d,.ar false (some false) inf.size ds)::fS.us⟩:St).set d (.sm d 0 len),rfl,qr,?_⟩;have:=gW hS s7 (fun t=>yZ _ _ (hV _ _ (T.rep t))) (d:=o.dst) (fun j hj=>h.dst j hj) (av:=.sm d 0 len) (v:=.slice (some ⟨w.heap.size,0,none⟩) len len) (by
    simp only[fx];exact⟨false,some false,inf.size,ds,bP,by omega,.inl ⟨w.heap.size,by simp[hZ],by simp[hZ]⟩⟩)
   rw[hd]at this⊢;exact this
  cases hz
def U0(h:At n0 S0 M0 w0 st o a w g){f:Nat}{Xs:List X}{kk:St→Prop}(ho:o.op=.call c)(hc:c.callee=.value (.func f))(hl:c.args.size=c.argTypes.size)
  (hx:(c.args.toList.zip c.argTypes.toList).mapM (fun p=>fY P p.2 p.1)=some Xs) (hq:NK P o.dst f Xs st kk):o.wp P a w (ip n0 S0 M0 w0 st.n kk) Q':=by
 obtain⟨fS,hE,hq⟩:=hq;have hS:=hE _ _ _ _ _ _ h.sat;have hn:fS.n=st.n:=hS.tm.symm.trans h.sat.tm;obtain⟨g',hU,hR⟩:=hS.gh;have h':At n0 S0 M0 w0 fS o a w g':=⟨hS,hU,hR,by rw[hn];exact h.dst⟩;rw[←hn];rcases hq with hq|⟨ys,id,k,he,hq⟩|hq
 exact Vo h' ho hc hl hx hq
 ·refine LB h' (vs:=c.args.toList.map a.eval) ?_ (mu h'.rep (by simpa using hl) hx) he hq;rintro⟨fn,h1,h2,h3⟩;have rX:¬fn.body=none:=by cases hb:fn.body<;>simp_all
  have um : ¬ fn.name = "runtime.NumGoroutine" := by simpa using h3
  have ea:(List.map a.eval c.args.toList).toArray=Array.map a.eval c.args:=by apply aS;simp
  rw[ea];simp[execOp,ho,resolve,hc,Act.eval,Deferred.ofValue,invoke,callFunc,h1,rX,um]
 refine cZ ?_ (LX (Q':=Q') h' ho hc hl hx hq);rintro a' w' ⟨av,us,hk,hS⟩;obtain⟨h3,h4⟩:=sI hk;exact⟨_,by cases o.dst<;>rfl,h4,hS h3⟩
def O1(a b:ByteArray):(a==b)=decide (a=b):=by
 show ByteArray.beq a b=_
 unfold ByteArray.beq;rw[eb];simp[ByteArray.ext_iff]
def xq{α:Type}{f:α→α}{x:α}{r:List α}:∀{l:List α},(l++x::r).modify l.length f=l++f x::r
 | []=>rfl
 |y::l=>by simp[xq (l:=l)]
def Hv{hp:ij}{t:Option Nat}{d:D}{x:MK}(hr:fx hp us g (.im t d) v)(hk:BE d=some x):v=x.val:=by
 unfold BE at hk
 split at hk
 ·injection hk with hk;subst hk;exact gU hr
 ·injection hk with hk;subst hk;exact gU hr
 ·injection hk with hk;subst hk;simp only[fx,f8,ig,lS,D.fits]at hr;obtain⟨F,⟨_,F1,F2,c1,c2,rfl,hc,⟨_,rfl,_⟩,F3,F4,c3,c4,rfl,rfl,⟨_,rfl,_⟩,rfl,rfl⟩,⟨c,rfl⟩,_⟩:=hr;simp only[Value.cells]at hc;simp only[MK.val,Value.agg.injEq]
  apply aS
  simpa using hc
 cases hk
variable {kk:Nat}{K:TypeId}
def C7(h:ny P K=some kk):(kk=0∧P.underlying K=some (.int .i64))∨(kk=1∧P.underlying K=some .string)∨
    (kk=2∧∃e,P.underlying K=some (.array 2 e)∧io P e=some 1∧P.underlying e=some (.int .i64)):=by
  unfold ny at h
  split at h
  · next q hq =>
    split at h
    · next hc => injection h with h; subst h; obtain rfl : q = .i64 := by simpa using hc
                 exact .inl ⟨rfl,hq⟩
    · cases h
  · next hq=>injection h with h;subst h;exact .inr (.inl ⟨rfl,hq⟩)
  · next n e hq =>
    cases he:P.underlying e with
    |none=>rw[he]at h;simp at h
    | some d =>
      rw[he]at h;cases d with
      | int q =>
        dsimp only at h
        split at h
        · next hc =>
          injection h with h;subst h;simp only[bA,bB]at hc;obtain⟨⟨rfl,h2⟩,rfl⟩:=hc;exact .inr (.inr ⟨rfl,e,hq,h2,he⟩)
        · cases h
      |_=>simp at h
  · cases h
variable {s:Nat}
def pc(h:io P e=some s):(sizeOf e).run P w=.ok s w:=by
 unfold io at h;cases hi:P.info? e with
 |none=>simp[hi]at h
 |some i=>
  rw[hi]at h;injection h with h;simp[sizeOf,typeInfo,hi,h]
def AH(h2:io P e=some 1)(h3:P.underlying e=some (.int .i64)){xs:Array Value}{i:Nat}(hx:xs[i]?=some v):(part e xs i).run P w=.ok v w:=by
 have hg:mL P e=some false:=by simp[mL,h3]
 simp[part,rx hg,hx]
def RB(h3:P.underlying e=some (.int .i64))(d:Nat)(a b:Int):(Op.equalIn (d+1) e (.int .i64 a) (.int .i64 b)).run P w=.ok (a==b) w:=by
 simp[Op.equalIn,aW h3]
def SK(h1:P.underlying K=some (.array 2 e))(h2:io P e=some 1)(h3:P.underlying e=some (.int .i64))(d:Nat)(x1 x2 y1 y2:Int):
  (Op.equalIn (d+1+1) K (.agg #[.int .i64 x1,.int .i64 x2]) (.agg #[.int .i64 y1,.int .i64 y2])).run P w=.ok (decide (x1=y1∧x2=y2)) w:=by
 have p1:∀{xs:Array Value} {i:Nat} {v:Value},xs[i]?=some v→(part e xs i).run P w=.ok v w:=fun hx=>AH h2 h3 hx;rw[Op.equalIn];simp only[bK,aW h1,Result.andThen,pc h2]
 by_cases q1:x1=y1<;>by_cases q2:x2=y2<;>
  simp[p1,RB h3,q1,q2,List.range',fu,Std.Legacy.Range.size,Result.andThen]
def Sc(h1:P.underlying K=some (.array 2 e))(h2:io P e=some 1)(h3:P.underlying e=some (.int .i64))(x1 x2 y1 y2:Int):
  (Op.equal K (.agg #[.int .i64 x1,.int .i64 x2]) (.agg #[.int .i64 y1,.int .i64 y2])).run P w=.ok (decide (x1=y1∧x2=y2)) w:=SK h1 h2 h3 9998 x1 x2 y1 y2
def Ml(h:ny P K=some kk)(em:Bool)(n:Nat)(x:MK)(hx:mb x=kk):(Instr.checkKey em (n+1+1) K x.val).run P w=.ok () w:=by
 rcases C7 h with⟨rfl,h1⟩|⟨rfl,h1⟩|⟨rfl,e,h1,h2,h3⟩
 ·cases x<;>simp[mb]at hx;simp[Instr.checkKey,aW h1,MK.val]
 ·cases x<;>simp[mb]at hx;simp[Instr.checkKey,aW h1,MK.val]
 cases x<;>simp[mb]at hx
 next a b=>
 have p1:∀{xs:Array Value} {i:Nat} {v:Value},xs[i]?=some v→(part e xs i).run P w=.ok v w:=fun hx=>AH h2 h3 hx;have c1:∀c:Int,(Instr.checkKey em (n+1) e (.int .i64 c)).run P w=.ok () w:=fun c=>by simp[Instr.checkKey,aW h3]
 rw[Instr.checkKey];simp only[bK,aW h1,Result.andThen,MK.val];simp[p1,c1,pc h2,List.range',fu,Std.Legacy.Range.size,Result.andThen]
def HL(h:ny P K=some kk)(em:Bool)(x:MK)(hx:mb x=kk):(Instr.checkKey em 10000 K x.val).run P w=.ok () w:=Ml h em 9998 x hx
def nN:List (MK×Value)→MK→Nat→Option (Nat×Value)
 | [],_,_=>none
 |(k,v)::r,x,i=>if x=k then some (i,v)else nN r x (i+1)
def Ah{x:MK}:∀{es:List (MK×Value)} {i:Nat},qi es x=(nN es x i).map (·.2)
 | [],_=>rfl
 |(k,v)::r,i=>by
  simp only[qi,nN]
  split;rfl;exact Ah
def sw{x:MK}:∀{es:List (MK×Value)} {i:Nat},nN es x i=none→zm es x v=es++[(x,v)]
 | [],_,_=>rfl
 |(k,u)::r,i,h=>by
  simp only[nN]at h
  split at h;cases h
  next hn=>simp only[zm,al hn,bp,sw h]
def xV{x:MK}{v u:Value}:∀{es:List (MK×Value)} {i j:Nat},nN es x i=some (j,u)→∃l r,es=l++(x,u)::r∧j=i+l.length∧zm es x v=l++(x,v)::r
 | [],_,_,h=>by cases h
 |(k,u')::r,i,j,h=>by
  simp only[nN]at h
  split at h
  ·next hk=>
   subst hk;injection h with h;injection h with h1 h2;subst h1;subst h2;exact⟨[],r,rfl,by simp,by simp[zm]⟩
  next hn=>
  obtain⟨l,r',rfl,rfl,h3⟩:=xV (v:=v) h;exact⟨(k,u')::l,r',rfl,by simp;omega,by simp only[zm,al hn,h3,bp]⟩
def yw(h:kk=0∧P.underlying K=some (.int .i64)∨kk=1∧P.underlying K=some .string)(x:MK)(hx:mb x=kk):∀(arr:List MapEntry)(es:List (MK×Value))(i:Nat),
  arr.map (fun e=>(e.key,e.val))=es.map (fun x=>(x.1.val,x.2))→es.all (fun e=>mb e.1==kk)=true→∃d,P.underlying K=some d∧Instr.findNow d x.val arr i=some (nN es x i)
 | [],[],i,_,_=>by rcases h with⟨_,h⟩|⟨_,h⟩<;>exact⟨_,h,rfl⟩
 | [],_::_,_,h,_=>by cases h
 |_::_,[],_,h,_=>by cases h
 |m::arr,(k,v)::es,i,hm,qp=>by
  simp only[lC,bO,cM]at hm;obtain⟨⟨hk,hv⟩,hm⟩:=hm;simp only[cE,bA,bB]at qp;obtain⟨d,hd,ih⟩:=yw h x hx arr es (i+1) hm qp.2;refine⟨d,hd,?_⟩;have hs:Instr.sameNow d x.val m.key=some (decide (x=k)):=by
   rw[hk];rcases h with⟨rfl,h1⟩|⟨rfl,h1⟩
   ·rw[h1]at hd;obtain rfl:=aQ hd;cases x<;>simp[mb]at hx;cases k<;>simp[mb]at qp;simp[Instr.sameNow,MK.val]
    rfl
   rw[h1]at hd;obtain rfl:=aQ hd;cases x<;>simp[mb]at hx;cases k<;>simp[mb]at qp;simp[Instr.sameNow,MK.val,O1]
  simp only[Instr.findNow,hs,nN]
  by_cases AX:x=k;simp[AX,hv];simp[AX,ih]
def Dn(h1:P.underlying K=some (.array 2 e))(h2:io P e=some 1)(h3:P.underlying e=some (.int .i64))(x:MK)(hx:mb x=2):∀(arr:List MapEntry)(es:List (MK×Value))(i:Nat),
  arr.map (fun e=>(e.key,e.val))=es.map (fun x=>(x.1.val,x.2))→es.all (fun e=>mb e.1==2)=true→(Instr.findAsking K x.val arr i).run P w=.ok (nN es x i) w
 | [],[],i,_,_=>by simp[Instr.findAsking,nN]
 | [],_::_,_,h,_=>by cases h
 |_::_,[],_,h,_=>by cases h
 |m::arr,(k,v)::es,i,hm,qp=>by
  simp only[lC,bO,cM]at hm;obtain⟨⟨hk,hv⟩,hm⟩:=hm;simp only[cE,bA,bB]at qp;have ih:=Dn h1 h2 h3 x hx arr es (i+1) hm qp.2;cases x<;>simp[mb]at hx;cases k<;>simp[mb]at qp
  next a b c d=>
  have he:=Sc (w:=w) h1 h2 h3 a b c d;simp only[Instr.findAsking,hk,MK.val,nN,MK.p.injEq];simp only[MK.val]at ih
  by_cases hq:a=c∧b=d;obtain⟨rfl,rfl⟩:=hq;simp[he,hv];simp[he,hq,ih]
def GX(h:ny P K=some kk)(x:MK)(hx:mb x=kk)(arr:List MapEntry)(es:List (MK×Value))(he:arr.map (fun e=>(e.key,e.val))=es.map (fun x=>(x.1.val,x.2)))
  (qp:es.all (fun e=>mb e.1==kk)=true):(Instr.findKey K x.val arr).run P w=.ok (nN es x 0) w:=by
 rcases C7 h with h1|h1|⟨rfl,e,h1,h2,h3⟩
 obtain⟨d,hd,hf⟩:=yw (.inl h1) x hx arr es 0 he qp;simp[Instr.findKey,aW hd,hf];obtain⟨d,hd,hf⟩:=yw (.inr h1) x hx arr es 0 he qp;simp[Instr.findKey,aW hd,hf];have:=Dn (w:=w) h1 h2 h3 x hx arr es 0 he qp;rw[←this];cases arr with
 |nil=>simp[Instr.findKey,aW h1,Instr.findNow,Instr.findAsking]
 |cons m arr=>simp[Instr.findKey,aW h1,Instr.findNow,Instr.sameNow]
variable {E:TypeId}
def JP{z:Value}(h:DR P E=some z):(zeroValue E).run P w=.ok z w∧z.oneCell'=true:=by
 unfold DR at h
 split at h
 ·next v hv=>
  split at h
  ·next ho=>
   injection h with h;subst h;unfold iI at hv
   split at hv
   ·next i hi=>
    split at hv
    ·next zv hz=>
     split at hv
     ·obtain⟨r1,r2,_⟩:=mh hv #[];simp only[D.fits]at r2;rw[fP r2]at r1;simp only[f8]at r1;have:zv=v:=by simpa using r1.2.1
      subst this;exact⟨by simp[zeroValue,typeInfo,hi,hz],ho⟩
     cases hv
    cases hv
   cases hv
  cases h
 cases h
def M1(h:At n0 S0 M0 w0 st o a w g){id:Nat}{es:List (MK×Value)}(hv:fx w.heap st.us g (.mv id) v)(hu:st.unit id=some (.mp es)):
  ∃b arr clock,v=.map (some b)∧g.β id=some b∧w.heap[b]?=some (.map arr clock)∧arr.toList.map (fun e=>(e.key,e.val))=es.map (fun x=>(x.1.val,x.2))∧∀x∈es,x.2.oneCell'=true:=by
 have hm:=fB hu;have hU:=h.us.each _ hm;simp only[hP]at hU;obtain⟨b,k1,k2,arr,clock,k3,k4,k5⟩:=hU;simp only[fx]at hv;obtain⟨es',b',x1,x2,rfl⟩:=hv;rw[k1]at x2;obtain rfl:=aQ x2;exact⟨b,arr,clock,rfl,k1,k3,k4,k5⟩
def DH{x:MK}:∀{es:List (MK×Value)} {v:Value},(∀x∈es,x.2.oneCell'=true)→qi es x=some v→v.oneCell'=true
 | [],_,_,h=>by cases h
 |(k,u)::r,v,h1,h=>by
  simp only[qi]at h
  split at h
  ·injection h with h;subst h;exact h1 _ bP
  exact DH (fun x hx=>h1 x (bt _ hx)) h
def acN(h:At n0 S0 M0 w0 st o a w g){u:TypeId}{z:Value}{i:Operand}{X I:Ax.X}{ok:Bool}(ho:o.op=.lookup t x i ok)(ht:P.underlying t=some (.map K E))(hk:ny P K=some kk)
  (hz:DR P E=some z) (hx:fY P u x=some X) (hi:fY P K i=some I) (hq:BK (st.ev X) (st.ev I) st.unit kk ok z k):o.wp P a w (hO n0 S0 M0 w0 st o.dst k) Q':=by
 have ex:=h.ev_ hx;have ei:=h.ev_ hi;obtain⟨z1,z2⟩:=JP (w:=w) hz;unfold BK at hq
 split at hq
 ·next id t2 d e1 e2=>
  unfold Dg at hq
  split at hq
  ·next es q hu hd=>
   obtain⟨⟨q1,q2⟩,q3⟩:=hq;rw[e1]at ex;rw[e2]at ei;have hkv:=Hv ei hd;obtain⟨b,arr,clock,hv,_,hb,he,h1⟩:=M1 h ex hu;have hf:=GX (w:=w) hk q q1 arr.toList es he q2;have hc:=HL (w:=w) hk arr.isEmpty q q1;have qq:((qi es q).getD z).oneCell'=true:=by
    cases hg:qi es q with
    |none=>exact z2
    |some v=>exact DH h1 hg
   have gk:(Instr.lookup t (.map (some b)) q.val ok).run P w=.ok (if ok then .tuple #[(qi es q).getD z,.bool (qi es q).isSome]else(qi es q).getD z) w:=by
    rw[Ah (i:=0)];cases hm:nN es q 0 with
    |none=>rw[hm]at hf;simp[Instr.lookup,aW ht,eJ hb,hc,hf,z1]
    |some p=>rw[hm]at hf;obtain⟨j,v⟩:=p;simp[Instr.lookup,aW ht,eJ hb,hc,hf]
   refine h.pure_ (av:=Id ok z (qi es q)) (v:=if ok then .tuple #[(qi es q).getD z,.bool (qi es q).isSome]else(qi es q).getD z) ?_ ?_ q3;simp[execOp,ho,hv,hkv,gk];cases ok with
   |false=>exact g8 qq
   |true=>
    have a1:fx w.heap st.us g (.im none (.sc ((qi es q).getD z))) _:=g8 qq;have a2:fx w.heap st.us g (.im none (.sc (.bool (qi es q).isSome))) _:=g8 rfl;simp only[Id,↓reduceIte,fx,fA]at a1 a2⊢;exact⟨_,rfl,_,_,rfl,a1,_,_,rfl,a2,rfl⟩
  exact hq.elim
 exact hq.elim
def aaX(h:At n0 S0 M0 w0 st o a w g){K E:TypeId}{X:Ax.X}(ho:o.op=.call c)(hc:c.callee=.builtin .len)(ha:c.args= #[x])(nA:c.argTypes= #[t])(hx:fY P u1 x=some X)
  (ht:P.underlying t=some (.map K E)) (hq:Bm (st.ev X) st.unit k):o.wp P a w (hO n0 S0 M0 w0 st o.dst k) Q':=by
 have ex:=h.ev_ hx;unfold Bm at hq
 split at hq
 ·next id e1=>
  unfold C6 at hq
  split at hq
  ·next es hu=>
   rw[e1]at ex;obtain⟨b,arr,clock,hv,_,hb,he,h1⟩:=M1 h ex hu;have hl:arr.size=es.length:=by have:=congrArg List.length he;simpa using this
   exact h.pure_ (v:=.int .i64 es.length) (by simp[execOp,ho,resolve,hc,ha,nA,hv,invoke,builtin,Builtin.len_,aW ht,eJ hb,goInt,hl]) (g8 rfl) hq
  exact hq.elim
 exact hq.elim
variable {d:Nat}
def aa4(h:At n0 S0 M0 w0 st o a w g)(ho:o.op=.makeMap t none)(hq:d<3000000000∧k (.mv d) [(d,.mp [])]):o.wp P a w (hO n0 S0 M0 w0 st o.dst k) Q':=by
 obtain⟨hd3,hk⟩:=hq;have gk:(execOp a.eval o).run P w=.ok (.value (.map (some w.heap.size))) {w with heap:=w.heap.push (.map #[] 0)}:=by
  have hm:(Instr.makeMap t none).run P w=.ok (.map (some w.heap.size)) (w.alloc (.map #[] 0)):=rfl;simp[execOp,ho,hm]
 unfold Oper.wp;rw[gk];refine⟨_,_,hk,fun hf=>?_⟩;have kZ:o9 d st.us=true:=by
  rcases hf with hf|hf
  cases hf;simp only[St.fresh,o9,bU]at hf;exact hf
 have yF:=ir kZ;generalize B6:g.add d (some w.heap.size) [w.heap.size] (.map (some w.heap.size)) 0=g';have gw:∀x∈st.us,x.1≠d:=fun x hx e=>yF (aR.2 ⟨x,hx,e⟩);have hβ:∀x∈st.us,g'.β x.1=g.β x.1∧g'.root x.1=g.root x.1∧g'.cap x.1=g.cap x.1:=by
  intro x hx;subst B6;simp[Gh.add,gw x hx]
 have hφ':∀x∈st.us,g'.φ x.1=g.φ x.1:=by
  intro x hx;subst B6;simp[Gh.add,gw x hx]
 have hh:∀b,b<w.heap.size→(w.heap.push (.map #[] 0))[b]?=w.heap[b]?:=by
  intro b hb;rw[dX,al (by omega)]
 have hS:∀b,g.Sh b→g'.Sh b:=by subst B6;exact fun b hb=>hb
 have jb:fp g' [(d,.mp [])]=[w.heap.size]:=by subst B6;simp[fp,Gh.add]
 have hU:gr (w.heap.push (.map #[] 0)) n0 S0 M0 ([(d,.mp [])]++st.us) g':=by
  refine h.us.grow (by simp) hh ?_ hβ hφ' hS ?_ ?_ ?_ (by rw[h.sat.base];exact h.sat.size) ?_ ?_ (by rw[jb];intro b hb;rw[am]at hb;subst hb;exact .inr ⟨#[],0,by simp⟩) (by intro x hx hp;rw[am]at hx;subst hx;exact hd3);simp only[bp,be,lC,aP];exact⟨yF,h.us.keys⟩;intro b hb;subst B6;exact .inl hb;rw[jb];simp;rw[jb];simp;intro i hi;simp only[bp,be,lC,aj,cA]at hi;subst B6;simp only[Gh.add,hi.1,aH];exact h.us.dead i hi.2;intro x hx;simp only[am]at hx;subst hx;subst B6;simp only[hP,hZ];exact⟨_,rfl,rfl,#[],0,jB _ _,by simp,by simp⟩
 have hV:∀t,fx (w.heap.push (.map #[] 0)) ([(d,.mp [])]++st.us) g' (lk st.env t) (a.tmps.getD t undef):=fun t=>(h.rep t).grow h.us hh hβ hφ' hS;have hs:=h.sat;have KP:ju n0 S0 M0 w0 (st.iQ [(d,.mp [])]) a {w with heap:=w.heap.push (.map #[] 0)}:=by
  refine⟨hs.ms,hs.mS,hs.tm,hs.base,hs.os,hs.tape,hs.output,?_,?_,g',hU,hV⟩;have:=hs.size;simp;omega;intro b hb hm;rw[←hs.iD b hb hm];exact hh b (by have:=hs.size;have:=hs.base;omega)
 refine gW KP (g:=g') hU hV h.dst ?_;simp only[fx];exact⟨[],w.heap.size,bP,by subst B6;simp[hZ],rfl⟩
def gr.mpu{h':ij}{us:List (Nat×U)}(hu:gr h n0 S0 M0 us g){k:Nat}{s s':List (MK×Value)}(hm:(k,U.mp s)∈us){b:Nat}(hb:g.β k=some b)(hφ0:g.φ k=[b])
  (jm:h.size≤h'.size) (hh:∀x,x<h.size→x≠b→h'[x]?=h[x]?) (hs:Dj h' s' b) (hn0:n0≤h.size):
  gr h' n0 S0 M0 ((k,.mp s')::fQ k (AV.soft k) us) g∧∀av v,av.soft k=false→fx h us g av v→fx h' ((k,.mp s')::fQ k (AV.soft k) us) g av v:=by
 have rg:∀x∈g.φ k,x∈fp g us:=fun x hx=>fL.2 ⟨_,hm,hx⟩;have ED:b∈g.φ k:=by rw[hφ0];simp
 have kJ:∀i v,(i,v)∈us→i≠k→∀x∈g.φ i,h'[x]?=h[x]?:=by
  intro i v h1 h2 x hx;exact hh x (hu.lt x (fL.2 ⟨_,h1,hx⟩)) fun AX=>h2 (gK hu.keys hu.nodup h1 hm hx (by rw[AX];exact ED))
 have Cu:∀x,g.Sh x→h'[x]?=h[x]?:=fun x hx=>hh x (hu.sh x hx).1 fun AX=>(hu.sh x hx).2.2 (rg x (by rw[AX];exact ED));have H:C8 k (AV.soft k) h h' us ((k,.mp s')::fQ k (AV.soft k) us) g g:=by
  refine {mem:=fun i u h1 h2=>bt _ (iY h1 h2),β:=fun i hi=>⟨rfl,rfl,rfl⟩,iV:=?_,im:=?_,own:=?_,ar:=?_,bx:=?_,sb:=?_,mp:=?_,same:=⟨rfl,rfl,rfl⟩};intro i u x h1 h2 h3;exact kJ i u h1 h2 x ((hu.each _ h1).iZ h3)
  ·intro t d F cs ht hr i9;have hx:∀x∈F,h'[x]?=h[x]?:=by
    intro x hx;rcases i9 x hx with h1|⟨i,rfl,h1,_⟩
    exact Cu x h1;obtain⟨v,hv⟩:=hu.live h1;exact kJ i v hv (by rintro rfl;exact ht rfl) x h1
   exact⟨hr.frame hx,i9⟩
  intro d hd;have:=hu.uniq hm hd;cases this;intro ow nn sz es hd;have:=hu.uniq hm hd;cases this;intro sz items hd;have:=hu.uniq hm hd;cases this;intro T1 E1 s1 hd;have:=hu.uniq hm hd;cases this;intro es hd;exact⟨s',by simp⟩
 have hV:∀av v,av.soft k=false→fx h us g av v→fx h' ((k,.mp s')::fQ k (AV.soft k) us) g av v:=fun av v hf hr=>fx.ut H hf hr;have hH:=iM (g':=g) (f:=AV.soft k) (k:=k) (fun i hi=>rfl) (us:=us);have jb:fp g ((k,.mp s')::fQ k (AV.soft k) us)=[b]++fp g (fQ k (AV.soft k) us):=by
  simp only[fp,cp,hφ0]
 have wN:∀x∈fp g (fQ k (AV.soft k) us),∃y∈us,y.1≠k∧x∈g.φ y.1:=by
  intro x hx;obtain⟨y,hy,jM⟩:=fL.1 hx;obtain⟨gw,u,h1,h2⟩:=gf hy;exact⟨_,h1,gw,jM⟩
 have gF:∀x∈fp g ((k,.mp s')::fQ k (AV.soft k) us),x∈fp g us:=by
  intro x hx;rw[jb]at hx;rcases ax.1 hx with hx|hx
  rw[am]at hx;subst hx;exact rg _ ED;exact hH.subset hx
 refine⟨⟨?_,?_,?_,?_,?_,?_,?_,?_,hu.ww.Ek hm (fun _=>⟨rfl,rfl⟩) (fun h=>by cases h)⟩,hV⟩
 ·simp only[lC,aP,gn];exact⟨by simp[aX],hu.keys.filter _⟩
 ·rw[jb,aT];refine⟨by simp,hH.nodup hu.nodup,?_⟩;rintro x hx y hy rfl;rw[am]at hx;subst hx;obtain⟨z,hz,gw,ra⟩:=wN _ hy;exact gw (gK hu.keys hu.nodup hz hm ra ED)
 intro x hx;have:=hu.lt x (gF x hx);omega;intro x hx gI;exact hu.low x (gF x hx) gI
 ·intro i hi;simp only[lC,aj,cA,gn]at hi;exact hu.dead i fun EE=>hi.2 (by simp[aX,EE,hi.1])
 ·intro x hx;obtain⟨q1,q2,q3⟩:=hu.sh x hx;exact⟨by omega,q2,fun h1=>q3 (gF x h1)⟩
 ·intro x hx;rcases aj.1 hx with rfl|hx
  simp only[hP];exact⟨b,hb,hφ0,hs⟩;obtain⟨gw,u,h1,h2⟩:=gf hx;rw[h2];exact(hu.each _ h1).iq H.toKeep (fun av hf=>.inr fun v hr=>hV av v hf hr) h1 gw rfl (fun x hx=>kJ _ _ h1 gw x hx) (fun x hx=>⟨hx,Cu x hx⟩)
 intro x hx;rw[jb]at hx;rcases ax.1 hx with hx|hx
 rw[am]at hx;subst hx;obtain⟨arr,c,h1,_⟩:=hs;exact .inr ⟨_,_,h1⟩;obtain⟨z,hz,gw,ra⟩:=wN x hx;exact(hu.fz x (fL.2 ⟨z,hz,ra⟩)).eq (kJ z.1 z.2 hz gw x ra)
def Rq(x:MK):Instr.sameBits 10000 x.val x.val=true:=by
 cases x<;>simp[MK.val,Instr.sameBits,O1]
def Vy(h:At n0 S0 M0 w0 st o a w g){K E u1 u2:TypeId}{kk:Nat}{m y:Operand}{M X Y:Ax.X}{f:St→Prop}(ho:o.op=.mapUpdate t m x y∨o.op=.insert t m x y)(hd:o.dst=none)
  (ht:P.underlying t=some (.map K E)) (hk:ny P K=some kk) (hm:fY P u1 m=some M) (hx:fY P K x=some X) (hy:fY P u2 y=some Y) (hq:GA (st.ev M) (st.ev X) (st.ev Y) kk st f):
  o.wp P a w (ip n0 S0 M0 w0 st.n f) Q':=by
 have em:=h.ev_ hm;have ex:=h.ev_ hx;have ey:=h.ev_ hy;have hs:=h.sat;have th:n0≤w.heap.size:=by rw[hs.base];exact hs.size
 unfold GA at hq
 split at hq
 ·next id t1 d t2 v e1 e2 e3=>
  unfold Jb at hq
  split at hq
  ·next es q hu hdq=>
   obtain⟨⟨q1,q2,_⟩,q3⟩:=hq;rw[e1]at em;rw[e2]at ex;rw[e3]at ey;have hkv:=Hv ex hdq;have KX:=gU ey;have hyo:v.oneCell'=true:=by
    simp only[fx,f8]at ey;obtain⟨_,⟨_,_,h3⟩,_⟩:=ey;exact h3
   have EE:=fB hu;obtain⟨b,arr,clock,hv,k1,hb,he,h1⟩:=M1 h em hu;have hf:=GX (w:=w) hk q q1 arr.toList es he q2;have hc:=HL (w:=w) hk false q q1;have hφ:g.φ id=[b]:=by
    have hU:=h.us.each _ EE;simp only[hP]at hU;obtain⟨b',z1,z2,_⟩:=hU;rw[k1]at z1;obtain rfl:=aQ z1;exact z2
   have hbm:b∈fp g st.us:=fL.2 ⟨_,EE,by rw[hφ];simp⟩;obtain⟨ob,gk,hMp⟩:∃ob,(Instr.mapUpdate t (.map (some b)) q.val v).run P w=.ok () {w with heap:=w.heap.setIfInBounds b ob}∧Dj (w.heap.setIfInBounds b ob) (zm es q v) b:=by
    cases hmf:nN es q 0 with
    |none=>
     rw[hmf]at hf;refine⟨_,by simp[Instr.mapUpdate,aW ht,eJ hb,hc,hf,MapKept.run_setObj_map _ hb];rfl,_,_,(eY hb).1,?_,?_⟩;rw[sw hmf];simp[he];rw[sw hmf];intro z hz;rcases ax.1 hz with hz|hz
     exact h1 z hz;rw[am]at hz;subst hz;exact hyo
    |some p=>
     obtain⟨j,u⟩:=p;rw[hmf]at hf;obtain⟨l,r,rfl,rfl,hp⟩:=xV (v:=v) hmf;rw[hp];simp only[bH,lC]at he;obtain⟨l',r0,ha,KM,B9⟩:=List.map_eq_append_iff.1 he;obtain⟨mm,r',rfl,hmk,wL⟩:=List.map_eq_cons_iff.1 B9;simp only[cM]at hmk;have hlen:l'.length=l.length:=by simpa using congrArg List.length KM
     have hj:arr[0+l.length]?=some mm:=by
      rw[←cr,ha,aw,←hlen];simp
     refine⟨_,by simp[Instr.mapUpdate,aW ht,eJ hb,hc,hf,by simpa using hj,hmk.1,Instr.keyThatStays,Rq,MapKept.run_setObj_map _ hb];rfl,_,_,(eY hb).1,?_,?_⟩;rw[Array.toList_modify,ha,←hlen,xq];simp[KM,wL];intro z hz;rcases ax.1 hz with hz|hz
     exact h1 z (by simp[hz]);rcases aj.1 hz with rfl|hz
     exact hyo;exact h1 z (by simp[hz])
   obtain⟨s7,yZ⟩:=h.us.mpu (h':=w.heap.setIfInBounds b ob) EE k1 hφ (by simp) (fun x _ AS=>(eY hb).2 x AS) hMp th;unfold Oper.wp;have j9:(execOp a.eval o).run P w=.ok .skip {w with heap:=w.heap.setIfInBounds b ob}:=by
    rcases ho with ho|ho<;>simp[execOp,ho,hv,hkv,KX,gk]
   rw[j9,dE,hd];refine⟨st.mc id (.mp (zm es q v)),rfl,q3,hs.ms,hs.mS,hs.tm,hs.base,hs.os,hs.tape,hs.output,?_,?_,_,s7,fun t=>gT (fun av v hf hr=>yZ av v hf hr) (h.rep t)⟩;simpa using hs.size;intro y hy xa;rw[(eY hb).2 y (fun e=>xa (by subst e;exact h.us.low _ hbm hy))];exact hs.iD y hy xa
  exact hq.elim
 exact hq.elim
def adq(h:At n0 S0 M0 w0 st o a w g){e u:TypeId}{n kz s:Nat}{i:Operand}{X:Ax.X}(ho:o.op=.indexAddr t x i)(hx:fY P u x=some X)
  (ht:P.underlying t=some (.array n e)) (hi:sX i=some kz) (hn:kz<n) (hz:io P e=some s)
  (hq:yY (st.ev X) st.unit (kz*s) k):o.wp P a w (hO n0 S0 M0 w0 st o.dst k) Q':=by
 have ex:=h.ev_ hx;have hiv:a.eval i=.int .i64 kz:=by
  unfold sX at hi
  split at hi
  ·split at hi
   ·next h0=>injection hi with hi;subst hi;simp[Act.eval];omega
   cases hi
  cases hi
 generalize yE:kz*s=off at hq;have gk:∀(b p:Nat),a.eval x=.pointer (some ⟨b,p,none⟩)→(execOp a.eval o).run P w=.ok (.value (.pointer (some ⟨b,p+off,none⟩))) w:=by
  intro b p hv;subst yE;simp[execOp,ho,hv,hiv,Instr.indexAt,asIntOf,aW ht,Instr.sureAddr,pc hz,lm,hn]
 unfold yY at hq
 split at hq
 ·next t1 d j e1=>
  rw[e1]at ex;obtain⟨b,p,hv,hr⟩:=mZ ex;exact h.pure_ (gk _ _ hv) (by rw[bW];exact hr _ hq.1) hq.2
 ·next t1 b0 o0 d j e1=>
  rw[e1]at ex;obtain⟨UB,hl⟩:=qN ex rfl;obtain⟨b,p,hv,hr⟩:=mZ UB;rw[hv]at hl;simp at hl;obtain⟨rfl,rfl⟩:=hl;exact h.pure_ (gk _ _ hv) (zZ (by rw[bW];exact hr _ hq.1) rfl) hq.2
 ·next id el j e1=>
  rw[e1]at ex;simp only[fx]at ex;obtain⟨ow,nn,usz,es,b,r1,r2,r3,r4,hv⟩:=ex;unfold OC at hq
  split at hq
  ·next ow' jc kv es' gZ=>
   have:=h.us.uniq r1 (fB gZ);injection this with e1 e2 e3 e4;subst e1;subst e2;subst e3;subst e4;refine h.pure_ (gk _ _ hv) ?_ hq.2;simp only[fx];exact⟨ow,nn,usz,es,b,r1,r2,hq.1,r4,by rw[bW]⟩
  exact hq.elim
 ·next id el j gQ ic j' e1=>
  rw[e1]at ex;simp only[fx]at ex;obtain⟨ow,nn,usz,es,b,c,ty,b',off',len',cap',r1,r2,r3,r4,r5,r6,hv⟩:=ex;refine h.pure_ (gk _ _ hv) ?_ hq.2;simp only[fx];exact⟨ow,nn,usz,es,b,c,ty,b',off',len',cap',r1,r2,r3,r4,r5,r6,by rw[bW]⟩
 ·next id j e1=>
  rw[e1]at ex;simp only[fx]at ex;obtain⟨sz,items,b,r1,r2,hv⟩:=ex;refine h.pure_ (gk _ _ hv) ?_ hq;simp only[fx];exact⟨sz,items,b,r1,r2,rfl⟩
 exact hq.elim
def ud(h:At n0 S0 M0 w0 st o a w g){e:TypeId}{s:Nat}:
  ∀(ps:List (Nat×Operand))(L:List (Nat×Nat×X)),
   ps.mapM (fun(i,x)=>do pure (i*s,s,←fY P e x))=some L→
   (L.map fun p=>(p.1,p.2.1,st.ev p.2.2)).all (fun p=>p.2.2.size st.unit==p.2.1&&p.2.1 !=0)=true→
   fA w.heap st.us g (L.map fun p=>st.ev p.2.2) (ps.map fun p=>a.eval p.2)∧
   (∀q∈ps.map (fun p=>(p.1,a.eval p.2)),some (q.1*s,s)=some (q.1*s,q.2.cells.size))∧
   ((ps.map (fun p=>(p.1,a.eval p.2))).map fun q=>(q.1*s,q.2.cells.size))=(L.map fun p=>(p.1,p.2.1))∧
   ((ps.map (fun p=>(p.1,a.eval p.2))).map fun q=>(q.1*s,q.2.cells.toList))=List.zipWith (fun p v=>(p.1,v.cells.toList)) (L.map fun p=>(p.1,p.2.1,st.ev p.2.2)) (ps.map fun p=>a.eval p.2)∧
   (L.map fun p=>(p.1,p.2.1,st.ev p.2.2)).map (·.2.1)=(ps.map fun p=>a.eval p.2).map (·.cells.size)
 | [],L,hL,_=>by
  simp at hL;subst hL;simp[fA]
 |(i,x)::ps,L,hL,hs=>by
  simp only[cB,oD,oB,oP,oS]at hL;obtain⟨p,⟨X,hX,rfl⟩,L',Z9,rfl⟩:=hL;simp only[lC,cE,bA,bB,dD]at hs;obtain⟨⟨s1,s2⟩,s3⟩:=hs;obtain⟨i1,i2,i3,i4,i5⟩:=ud h ps L' (by simpa using Z9) (by simpa using s3);have ev:=h.ev_ hX;have hc:(a.eval x).cells.size=s:=wZ h.us ev s1 s2;refine⟨?_,?_,?_,?_,?_⟩;simp only[lC,fA];exact⟨_,_,rfl,ev,i1⟩
  ·intro q hq;rcases aj.1 hq with rfl|hq
   simp only[hc];exact i2 q hq
  simp only[lC,hc,i3];simp only[lC,dW,i4];simp only[lC,hc,i5]
variable {n:Nat}
def Yj(h:At n0 S0 M0 w0 st o a w g){ps:Array (Nat×Operand)}{z:D}{L:List (Nat×Nat×X)}(ho:o.op=.build t ps)(ht:P.underlying t=some (.array n e))(hs:io P e=some s)
  (hz:iI P t=some z)
  (hL:ps.toList.mapM (fun(i,x)=>do pure (i*s,s,←fY P e x))=some L)
  (hq:xG (L.map fun p=>(p.1,p.2.1,st.ev p.2.2)) st.unit z k):o.wp P a w (hO n0 S0 M0 w0 st o.dst k) Q':=by
 unfold xG at hq
 split at hq
 ·next zs=>
  obtain⟨⟨q1,q2,q3⟩,hk⟩:=hq;obtain⟨b1,b2,b3,b4,b5⟩:=ud h ps.toList L hL q1;unfold iI at hz
  split at hz
  ·next inf od=>
   split at hz
   ·next zv B7=>
    split at hz
    ·next lY=>
     obtain⟨r1,r2,r3⟩:=mh hz w.heap;simp only[f8]at r1;have hzl:zs.length=zv.cells.toList.length:=by
      have hl:=r1.2.length;have:∀l:List D,(∀d∈l,d.size=1∧d.fK=false)→D.f6 l=l.length:=by
       intro l
       induction l with
       |nil=>intro _;rfl
       |cons d l ih=>intro hd;simp only[D.f6,(hd d (by simp)).1,ih fun x hx=>hd x (by simp[hx]),e6];omega
      rw[hl,this zs r1.1]
     obtain⟨nb,f1,f2⟩:=ue (pg:=fun i=>some (i*s,s)) (z:=zv.cells.toList) (off:=fun i=>i*s) (ps.toList.map fun p=>(p.1,a.eval p.2)) 0 zv.cells [] (by simp) rfl (by simp) b2
      (by rw[b3,←hzl];simpa[bY]using q2)
     obtain⟨xs,x1,x2⟩:=xI (us:=st.us) (g:=g) r1.2 r1.1 (L.map fun p=>(p.1,p.2.1,st.ev p.2.2)) (ps.toList.map fun p=>a.eval p.2) 0 (by simpa[bY]using b1) b5;refine h.pure_ (v:=.agg nb) ?_ (xC x1 (by rw[f2,x2,b4];rfl)) hk;have hb:P.built t ((ps.map fun p=>(p.1,a.eval p.2)).toList)=some nb:=by
      unfold io at hs;cases UR:P.info? e with
      |none=>simp[UR]at hs
      |some ie=>
       rw[UR]at hs;injection hs with hs;subst hs;simp only[Program.built,od,ht,B7,UR,dZ];exact f1
     simp only[execOp,ho,bK,run_build w t _ nb hb]
     rfl
    cases hz
   cases hz
  cases hz
 exact hq.elim
variable {P:Program}{wv:Wv}{n0:Nat}{S0 M0:Nat→Prop}{w0:World}
def fw{p:Prop}[Decidable p]{u:Unit}:(guard p:Option Unit)=some u↔p:=by
 unfold guard
 split<;>simp_all
variable {r:lz}
def w5(fv:oI P wv n o=some r)(hQ:r.sq=true)(hn:st.n=n)(h:At n0 S0 M0 w0 st o a w g)(hq:yX P r st.ev st.unit k):
  o.wp P a w (hO n0 S0 M0 w0 st o.dst k) Q'∧r.dst=o.dst:=by
 unfold oI at fv
 split at fv
 ·next x ho=>
  simp only[oD,oB,oP,oS,fw]at fv;obtain⟨d,hd,_,_,X,hX,rfl⟩:=fv;exact⟨ab1 h (.inl ho) hX hq,hd.symm⟩
 ·next x ho=>
  simp only[oD,oB,oP,oS,fw]at fv;obtain⟨d,hd,_,_,X,hX,rfl⟩:=fv;exact⟨ab1 h (.inr ho) hX hq,hd.symm⟩
 ·next c x y ho=>
  simp only[oD,oB,oP,oS,fw]at fv;obtain⟨d,hd,_,_,C,hC,X,hX,Y,hY,rfl⟩:=fv;exact⟨YN h ho hC hX hY hq,hd.symm⟩
 ·next e x ho=>
  simp only[oD,oB,oP,oS,fw]at fv;obtain⟨d,hd,_,_,s,hs,X,hX,rfl⟩:=fv;exact⟨ac1 h ho hX hq,hd.symm⟩
 ·next e ho=>
  simp only[oD,oB,oP,fw]at fv;obtain⟨d,hd,_,_,fv⟩:=fv;obtain⟨h1,h2⟩:=WW h ho fv hq;exact⟨h1,by rw[h2];exact hd.symm⟩
 ·next t x ho=>
  simp only[oD,oB,oP,oS,fw]at fv;obtain⟨d,hd,_,_,s,hs,ag,s8,_,h1,X,hX,rfl⟩:=fv;exact⟨afL h ho hX hs s8 (fun e=>by subst e;simpa using h1) hq,hd.symm⟩
 ·next t p x ho=>
  simp only[oD,oB,oP,oS,fw]at fv;obtain⟨_,_,s,_,A,_,X,_,rfl⟩:=fv;cases wv<;>cases hQ
 ·next x ho=>
  simp only[oD,oB,oP,oS,fw]at fv;obtain⟨d,hd,_,_,X,hX,rfl⟩:=fv;exact⟨abK h ho hX hq,hd.symm⟩
 ·next op t x y u ho=>
  simp only[oD,oB,oP,fw]at fv;obtain⟨d,hd,_,_,fv⟩:=fv
  split at fv<;>(try simp only[oB,oS]at fv);obtain⟨X,hX,Y,hY,rfl⟩:=fv;exact⟨Vv h ho hX hY hq,hd.symm⟩;obtain⟨X,hX,Y,hY,rfl⟩:=fv;exact⟨Vv h ho hX hY hq,hd.symm⟩
  ·next ht _ _=>obtain⟨X,hX,Y,hY,rfl⟩:=fv;exact⟨Vf h ho hX hY (by assumption) (.inl ⟨rfl,rfl⟩) hq,hd.symm⟩
  obtain⟨X,hX,Y,hY,rfl⟩:=fv;exact⟨Vf h ho hX hY (by assumption) (.inr ⟨rfl,rfl⟩) hq,hd.symm⟩;obtain⟨X,hX,Y,hY,rfl⟩:=fv;exact⟨MM h ho hX hY (by assumption) (.inl ⟨rfl,rfl⟩) hq,hd.symm⟩;obtain⟨X,hX,Y,hY,rfl⟩:=fv;exact⟨MM h ho hX hY (by assumption) (.inr ⟨rfl,rfl⟩) hq,hd.symm⟩
  ·next fs ht=>
   split at fv<;>(try simp only[oB,oS]at fv)
   ·next i9=>obtain⟨X,hX,Y,hY,rfl⟩:=fv;exact⟨Vr h ho hX hY ht i9 (.inl ⟨rfl,rfl⟩) hq,hd.symm⟩
   subst fv;cases hQ
  ·next fs ht=>
   split at fv<;>(try simp only[oB,oS]at fv)
   ·next i9=>obtain⟨X,hX,Y,hY,rfl⟩:=fv;exact⟨Vr h ho hX hY ht i9 (.inr ⟨rfl,rfl⟩) hq,hd.symm⟩
   subst fv;cases hQ
  subst fv;cases hQ
 ·next op t x ho=>
  simp only[oD,oB,oP,oS,fw]at fv;obtain⟨d,hd,_,_,X,hX,rfl⟩:=fv;exact⟨afU h ho hX hq,hd.symm⟩
 ·next s t x ho=>
  simp only[oD,oB,oP,fw]at fv;obtain⟨d,hd,_,_,fv⟩:=fv
  split at fv<;>(try simp only[oB,oS]at fv);obtain⟨X,hX,rfl⟩:=fv;exact⟨acu h ho hX (by assumption) (by assumption) hq,hd.symm⟩
  ·split at fv<;>simp only[oB,oS]at fv
   obtain⟨X,hX,rfl⟩:=fv;exact⟨abZ h ho hX (by assumption) (by assumption) (by assumption) hq,hd.symm⟩;subst fv;cases hQ
  subst fv;cases hQ
 ·next t l c ho=>
  simp only[oD,oB,oP,oS,fw]at fv;obtain⟨d,hd,_,_,e,he,i,hi,z,hz,L,hL,C,hC,rfl⟩:=fv;have ht:P.underlying t=some (.slice e):=by
   unfold pN at he
   split at he
   ·next e' h'=>injection he with he;subst he;exact h'
   cases he
  exact⟨afY h ho ht hi rfl rfl hz hL hC hq,hd.symm⟩
 ·next t x lo hi ho=>
  simp only[oD,oB,oP,fw]at fv;obtain⟨d,hd,_,_,Lo,wz,Hi,Ci,fv⟩:=fv;have l1:∀y,lo=some y→∃Y,Lo=some Y∧fY P 0 y=some Y:=by
   rintro y rfl;simp only[cF]at wz;obtain⟨Y,h1,rfl⟩:=wz;exact⟨Y,rfl,h1⟩
  have l2:lo=none→Lo=none:=by rintro rfl;simpa using wz.symm
  have l3:∀y,hi=some y→∃Y,Hi=some Y∧fY P 0 y=some Y:=by
   rintro y rfl;simp only[cF]at Ci;obtain⟨Y,h1,rfl⟩:=Ci;exact⟨Y,rfl,h1⟩
  have l4:hi=none→Hi=none:=by rintro rfl;simpa using Ci.symm
  split at fv<;>simp only[oB,oS]at fv;obtain⟨s,hs,X,hX,rfl⟩:=fv;exact⟨abD h ho (by assumption) hs hX l1 l2 l3 l4 hq,hd.symm⟩;obtain⟨X,hX,rfl⟩:=fv;exact⟨abb h ho (by assumption) hX l1 l2 l3 l4 hq,hd.symm⟩;subst fv;cases hQ
 ·next t x lo hi mx ho=>
  simp only[oD,oB,oP,fw]at fv;obtain⟨d,hd,_,_,fv⟩:=fv
  split at fv
  ·next e ht=>
   split at fv
   ·next Eq=>
    simp only[oB,oS]at fv;obtain⟨s,hs,X,hX,rfl⟩:=fv;simp only[bA]at Eq;cases hi with
    |none=>simp at Eq
    |some hi=>exact⟨acS h ho ht hs hX (by simpa using Eq.1) Eq.2 hq,hd.symm⟩
   simp only[oS]at fv;subst fv;cases hQ
  simp only[oS]at fv;subst fv;cases hQ
 ·next fn first captured ho=>
  simp only[oD,oB,oP,fw]at fv;obtain⟨d,hd,_,_,fv⟩:=fv
  split at fv
  ·next f hf=>
   simp only[oB,oS]at fv;obtain⟨Xs,uC,rfl⟩:=fv;have Ca:first= #[]:=by apply aS;simpa using hf
   subst Ca;exact⟨abr h ho uC hq,hd.symm⟩
  simp only[oS]at fv;subst fv;cases hQ
 ·next t x i ho=>
  simp only[oD,oB,oP,fw]at fv;obtain⟨d,hd,_,_,fv⟩:=fv
  split at fv
  ·next fs ht=>
   simp only[oB,oS,fw]at fv;obtain⟨f,hf,z,hz,_,Ej,X,hX,rfl⟩:=fv;exact⟨agd h ho hX ht hf rfl hz (by simpa using Ej) hq,hd.symm⟩
  cases fv
 ·next t x i ho=>
  simp only[oD,oB,oP,fw]at fv;obtain⟨d,hd,_,_,fv⟩:=fv
  split at fv
  ·next fs ht=>
   simp only[oB,oS,fw]at fv;obtain⟨f,hf,s,hs,ag,s8,_,h1,X,hX,rfl⟩:=fv;exact⟨ahw h ho hX ht hf rfl hs s8 (fun e=>by subst e;simpa using h1) hq,hd.symm⟩
  cases fv
 ·next t x i ho=>
  simp only[oD,oB,oP,fw]at fv;obtain⟨d,hd,_,_,fv⟩:=fv
  split at fv
  ·next e ht=>
   simp only[oB,oS]at fv;obtain⟨s,hs,X,hX,I,hI,rfl⟩:=fv;exact⟨agN h ho hX hI ht hs hq,hd.symm⟩
  ·next n' e ht=>
   split at fv
   ·next kz zB=>
    split at fv
    ·next gI=>
     simp only[oB,oS,fw]at fv;obtain⟨s,hs,_,jD,X,hX,rfl⟩:=fv;exact⟨adq h ho hX ht zB gI hs hq,hd.symm⟩
    simp only[oS]at fv;subst fv;cases hQ
   simp only[oS]at fv;subst fv;cases hQ
  simp only[oS]at fv;subst fv;cases hQ
 ·next t x i ho=>
  simp only[oD,oB,oP,fw]at fv;obtain⟨d,hd,_,_,fv⟩:=fv
  split at fv
  ·next ht=>
   simp only[oB,oS]at fv;obtain⟨X,hX,I,hI,rfl⟩:=fv;exact⟨agm h ho hX hI ht hq,hd.symm⟩
  simp only[oS]at fv;subst fv;cases hQ
 ·next x i ho=>
  simp only[oD,oB,oP,oS,fw]at fv;obtain⟨d,hd,_,_,X,hX,rfl⟩:=fv;exact⟨aaL h ho hX hq,hd.symm⟩
 ·next t l ps ho=>
  simp only[oD,oB,oP,oS,fw]at fv;obtain⟨d,hd,_,_,e,he,s,hs,z,hz,L,hL,rfl⟩:=fv;have ht:P.underlying t=some (.slice e):=by
   unfold pN at he
   split at he
   ·next e' h'=>injection he with he;subst he;exact h'
   cases he
  exact⟨aco h ho ht hs hz hL hq,by rw[LE];exact hd.symm⟩
 ·next t ps ho=>
  simp only[oD,oB,oP,fw]at fv;obtain⟨d,hd,_,_,fv⟩:=fv
  split at fv
  ·next fs ht=>
   simp only[oB,oS]at fv;obtain⟨mw,VO,z,hz,L,hL,rfl⟩:=fv;exact⟨ab4 h ho ht VO hz hL hq,hd.symm⟩
  ·next n' e ht=>
   simp only[oB,oS,fw]at fv;obtain⟨s,hs,_,_,z,hz,L,hL,rfl⟩:=fv;exact⟨Yj h ho ht hs hz hL hq,hd.symm⟩
  simp only[oS]at fv;subst fv;cases hQ
 ·next t ho=>
  simp only[oD,oB,oP,fw]at fv;obtain⟨d,hd,_,_,fv⟩:=fv
  split at fv;simp only[oS]at fv;subst fv;exact⟨aa4 h ho hq,hd.symm⟩;simp only[oS]at fv;subst fv;cases hQ
 ·next t x i ok ho=>
  simp only[oD,oB,oP,fw]at fv;obtain⟨d,hd,_,_,fv⟩:=fv
  split at fv
  ·next K E ht=>
   split at fv
   ·next kk z hk hz=>
    simp only[oB,oS]at fv;obtain⟨X,hX,I,hI,rfl⟩:=fv;exact⟨acN h ho ht hk hz hX hI hq,hd.symm⟩
   simp only[oS]at fv;subst fv;cases hQ
  simp only[oS]at fv;subst fv;cases hQ
 ·next t m k v ho=>
  simp only[oD,oB,oP,fw]at fv;obtain⟨_,_,fv⟩:=fv
  split at fv
  ·split at fv
   simp only[oB,oS]at fv;obtain⟨_,_,_,_,_,_,rfl⟩:=fv;cases hQ;simp only[oS]at fv;subst fv;cases hQ
  simp only[oS]at fv;subst fv;cases hQ
 ·next t m k v ho=>
  simp only[oD,oB,oP,fw]at fv;obtain⟨_,_,fv⟩:=fv
  split at fv
  ·split at fv
   simp only[oB,oS]at fv;obtain⟨_,_,_,_,_,_,rfl⟩:=fv;cases hQ;simp only[oS]at fv;subst fv;cases hQ
  simp only[oS]at fv;subst fv;cases hQ
 ·next c ho=>
  split at fv
  ·next f hc=>
   simp only[oD,oB,fw]at fv;obtain⟨_,_,_,hl,Xs,uC,fv⟩:=fv
   split at fv
   ·split at fv
    simp only[oP,oS]at fv;subst fv;cases hQ;cases fv
   split at fv
   ·split at fv
    simp only[oP,oS]at fv;subst fv;cases hQ;cases fv
   split at fv
   ·split at fv
    simp only[oP,oS]at fv;subst fv;cases hQ;cases fv
   split at fv
   ·split at fv
    simp only[oP,oS]at fv;subst fv;cases hQ;cases fv
   split at fv
   ·simp only[oP,oS]at fv;subst fv;cases wv<;>cases hQ
   simp only[oP,oS]at fv;subst fv;exact⟨LX h ho hc (by simpa using hl) uC hq,rfl⟩
  ·next x _ hc=>
   simp only[oD,oB,oP,oS,fw]at fv;obtain⟨_,_,_,hl,X,hX,Xs,uC,rfl⟩:=fv;cases wv with
   |yes=>cases hQ
   |no=>exact⟨xO h ho hc hX (by simpa using hl) uC hq,rfl⟩
   |ap=>exact⟨xO h ho hc hX (by simpa using hl) uC hq,rfl⟩
   |sh=>exact⟨xO h ho hc hX (by simpa using hl) uC hq,rfl⟩
   |sb=>exact⟨xO h ho hc hX (by simpa using hl) uC hq,rfl⟩
  ·next hc=>
   simp only[oD,oB,fw]at fv;obtain⟨d,hd,_,_,fv⟩:=fv
   split at fv
   ·next x t ha nA=>
    have ri:c.args= #[x]:=by apply aS;simpa using ha
    have og:c.argTypes= #[t]:=by apply aS;simpa using nA
    split at fv<;>simp only[oB,oP,oS]at fv;obtain⟨X,hX,rfl⟩:=fv;exact⟨WP h ho hc ri og hX (by assumption) hq,hd.symm⟩;obtain⟨X,hX,rfl⟩:=fv;exact⟨acf h ho hc ri og hX (by assumption) hq,hd.symm⟩;obtain⟨X,hX,rfl⟩:=fv;exact⟨aaX h ho hc ri og hX (by assumption) hq,hd.symm⟩;subst fv;cases hQ
   cases fv
  ·next hc=>
   simp only[oD,oB,fw]at fv;obtain⟨d,hd,_,_,fv⟩:=fv
   split at fv
   ·next x y t u ha nA=>
    have ri:c.args= #[x,y]:=by apply aS;simpa using ha
    simp only[oB,oP,oS]at fv;obtain⟨X,hX,Y,hY,rfl⟩:=fv;exact⟨abi (mx:=true) h ho hc ri hX hY hq,hd.symm⟩
   cases fv
  ·next hc=>
   simp only[oD,oB,fw]at fv;obtain⟨d,hd,_,_,fv⟩:=fv
   split at fv
   ·next x y t u ha nA=>
    have ri:c.args= #[x,y]:=by apply aS;simpa using ha
    simp only[oB,oP,oS]at fv;obtain⟨X,hX,Y,hY,rfl⟩:=fv;exact⟨abi (mx:=false) h ho hc ri hX hY hq,hd.symm⟩
   cases fv
  ·next hc=>
   simp only[oD,oB,fw]at fv;obtain⟨d,hd,_,_,fv⟩:=fv
   split at fv
   ·next x y t u ha nA=>
    split at fv<;>simp only[oB,oP,oS,fw]at fv
    ·next e _ ht _=>
     obtain⟨i,hi,_,A0,z,hz,X,hX,Y,hY,rfl⟩:=fv;cases wv with
     |yes=>cases hQ
     |no=>cases hQ
     |sh=>cases hQ
     |sb=>
      by_cases h3:i.size=3;rw[t6,an h3]at hQ;cases hQ;rw[t6,al h3]at hQ;cases hQ
     |ap=>
      have ri:c.args= #[x,y]:=by apply aS;simpa using ha
      have og:c.argTypes= #[t,u]:=by apply aS;simpa using nA
      have A0:t=u:=by simpa using A0
      subst A0;exact⟨acY h ho hc ri og ht hi hz hX hY hq,hd.symm⟩
    subst fv;cases hQ
   cases fv
  ·next hc=>
   simp only[oD,oB,fw]at fv;obtain⟨_,_,fv⟩:=fv
   split at fv
   ·next x y t u ha nA=>
    have ri:c.args= #[x,y]:=by apply aS;simpa using ha
    have og:c.argTypes= #[t,u]:=by apply aS;simpa using nA
    split at fv<;>simp only[oB,oP,oS,fw]at fv;obtain⟨s,hs,_,A0,X,hX,Y,hY,rfl⟩:=fv;cases hQ;subst fv;cases hQ
   cases fv
  simp only[oP,oS]at fv;subst fv;cases hQ
 simp only[oP,oS]at fv;subst fv;cases hQ
variable {f:St→Prop}
def Rc(fv:oI P wv n o=some r)(hQ:r.sq=false)(h:At n0 S0 M0 w0 st o a w g)(hq:Tu P r st f):
  o.wp P a w (ip n0 S0 M0 w0 st.n f) Q':=by
 unfold oI at fv
 split at fv
 ·next x ho=>
  simp only[oD,oB,oP,oS,fw]at fv;obtain⟨d,hd,_,_,X,hX,rfl⟩:=fv;cases hQ
 ·next x ho=>
  simp only[oD,oB,oP,oS,fw]at fv;obtain⟨d,hd,_,_,X,hX,rfl⟩:=fv;cases hQ
 ·next c x y ho=>
  simp only[oD,oB,oP,oS,fw]at fv;obtain⟨d,hd,_,_,C,hC,X,hX,Y,hY,rfl⟩:=fv;cases hQ
 ·next e x ho=>
  simp only[oD,oB,oP,oS,fw]at fv;obtain⟨d,hd,_,_,s,hs,X,hX,rfl⟩:=fv;cases hQ
 ·next e ho=>
  simp only[oD,oB,oP,fw]at fv;obtain⟨d,hd,_,_,fv⟩:=fv;rw[I2 fv]at hQ;cases hQ
 ·next t x ho=>
  simp only[oD,oB,oP,oS,fw]at fv;obtain⟨d,hd,_,_,s,hs,ag,s8,_,h1,X,hX,rfl⟩:=fv;cases hQ
 ·next t p x ho=>
  simp only[oD,oB,oP,oS,fw]at fv;obtain⟨_,hd,s,hs,A,hA,X,hX,rfl⟩:=fv;cases wv with
  |sh=>exact Vd h ho (by simpa using hd) hA hX hs hq
  |sb=>exact Vd h ho (by simpa using hd) hA hX hs hq
  |_=>exact aaM h ho (by simpa using hd) hA hX hs hq
 ·next x ho=>
  simp only[oD,oB,oP,oS,fw]at fv;obtain⟨d,hd,_,_,X,hX,rfl⟩:=fv;cases hQ
 ·next op t x y u ho=>
  simp only[oD,oB,oP,fw]at fv;obtain⟨d,hd,_,_,fv⟩:=fv
  split at fv<;>(try simp only[oB,oS]at fv);obtain⟨X,hX,Y,hY,rfl⟩:=fv;cases hQ;obtain⟨X,hX,Y,hY,rfl⟩:=fv;cases hQ
  ·next ht _ _=>obtain⟨X,hX,Y,hY,rfl⟩:=fv;cases hQ
  obtain⟨X,hX,Y,hY,rfl⟩:=fv;cases hQ;obtain⟨X,hX,Y,hY,rfl⟩:=fv;cases hQ;obtain⟨X,hX,Y,hY,rfl⟩:=fv;cases hQ
  ·split at fv<;>(try simp only[oB,oS]at fv)
   obtain⟨X,hX,Y,hY,rfl⟩:=fv;cases hQ;subst fv;exact hq.elim
  ·split at fv<;>(try simp only[oB,oS]at fv)
   obtain⟨X,hX,Y,hY,rfl⟩:=fv;cases hQ;subst fv;exact hq.elim
  subst fv;exact hq.elim
 ·next op t x ho=>
  simp only[oD,oB,oP,oS,fw]at fv;obtain⟨d,hd,_,_,X,hX,rfl⟩:=fv;cases hQ
 ·next s t x ho=>
  simp only[oD,oB,oP,fw]at fv;obtain⟨d,hd,_,_,fv⟩:=fv
  split at fv<;>(try simp only[oB,oS]at fv);obtain⟨X,hX,rfl⟩:=fv;cases hQ
  ·split at fv<;>simp only[oB,oS]at fv
   obtain⟨X,hX,rfl⟩:=fv;cases hQ;subst fv;exact hq.elim
  subst fv;exact hq.elim
 ·next t l c ho=>
  simp only[oD,oB,oP,oS,fw]at fv;obtain⟨d,hd,_,_,e,he,i,hi,z,hz,L,hL,C,hC,rfl⟩:=fv;have ht:P.underlying t=some (.slice e):=by
   unfold pN at he
   split at he
   ·next e' h'=>injection he with he;subst he;exact h'
   cases he
  cases hQ
 ·next t x lo hi ho=>
  simp only[oD,oB,oP,fw]at fv;obtain⟨d,hd,_,_,Lo,wz,Hi,Ci,fv⟩:=fv;have l1:∀y,lo=some y→∃Y,Lo=some Y∧fY P 0 y=some Y:=by
   rintro y rfl;simp only[cF]at wz;obtain⟨Y,h1,rfl⟩:=wz;exact⟨Y,rfl,h1⟩
  have l2:lo=none→Lo=none:=by rintro rfl;simpa using wz.symm
  have l3:∀y,hi=some y→∃Y,Hi=some Y∧fY P 0 y=some Y:=by
   rintro y rfl;simp only[cF]at Ci;obtain⟨Y,h1,rfl⟩:=Ci;exact⟨Y,rfl,h1⟩
  have l4:hi=none→Hi=none:=by rintro rfl;simpa using Ci.symm
  split at fv<;>simp only[oB,oS]at fv;obtain⟨s,hs,X,hX,rfl⟩:=fv;cases hQ;obtain⟨X,hX,rfl⟩:=fv;cases hQ;subst fv;exact hq.elim
 ·next t x lo hi mx ho=>
  simp only[oD,oB,oP,fw]at fv;obtain⟨d,hd,_,_,fv⟩:=fv
  split at fv
  ·next e ht=>
   split at fv
   ·next Eq=>
    simp only[oB,oS]at fv;obtain⟨s,hs,X,hX,rfl⟩:=fv;simp only[bA]at Eq;cases hi with
    |none=>simp at Eq
    |some hi=>cases hQ
   simp only[oS]at fv;subst fv;exact hq.elim
  simp only[oS]at fv;subst fv;exact hq.elim
 ·next fn first captured ho=>
  simp only[oD,oB,oP,fw]at fv;obtain⟨d,hd,_,_,fv⟩:=fv
  split at fv
  ·next f hf=>
   simp only[oB,oS]at fv;obtain⟨Xs,uC,rfl⟩:=fv;have Ca:first= #[]:=by apply aS;simpa using hf
   subst Ca;cases hQ
  simp only[oS]at fv;subst fv;exact hq.elim
 ·next t x i ho=>
  simp only[oD,oB,oP,fw]at fv;obtain⟨d,hd,_,_,fv⟩:=fv
  split at fv
  ·next fs ht=>
   simp only[oB,oS,fw]at fv;obtain⟨f,hf,z,hz,_,Ej,X,hX,rfl⟩:=fv;cases hQ
  cases fv
 ·next t x i ho=>
  simp only[oD,oB,oP,fw]at fv;obtain⟨d,hd,_,_,fv⟩:=fv
  split at fv
  ·next fs ht=>
   simp only[oB,oS,fw]at fv;obtain⟨f,hf,s,hs,ag,s8,_,h1,X,hX,rfl⟩:=fv;cases hQ
  cases fv
 ·next t x i ho=>
  simp only[oD,oB,oP,fw]at fv;obtain⟨d,hd,_,_,fv⟩:=fv
  split at fv
  ·next e ht=>
   simp only[oB,oS]at fv;obtain⟨s,hs,X,hX,I,hI,rfl⟩:=fv;cases hQ
  ·split at fv
   ·split at fv
    simp only[oB,oS,fw]at fv;obtain⟨_,_,_,_,_,_,rfl⟩:=fv;cases hQ;simp only[oS]at fv;subst fv;exact hq.elim
   simp only[oS]at fv;subst fv;exact hq.elim
  simp only[oS]at fv;subst fv;exact hq.elim
 ·next t x i ho=>
  simp only[oD,oB,oP,fw]at fv;obtain⟨d,hd,_,_,fv⟩:=fv
  split at fv
  ·next ht=>
   simp only[oB,oS]at fv;obtain⟨X,hX,I,hI,rfl⟩:=fv;cases hQ
  simp only[oS]at fv;subst fv;exact hq.elim
 ·next x i ho=>
  simp only[oD,oB,oP,oS,fw]at fv;obtain⟨d,hd,_,_,X,hX,rfl⟩:=fv;cases hQ
 ·next t l ps ho=>
  simp only[oD,oB,oP,oS,fw]at fv;obtain⟨d,hd,_,_,e,he,s,hs,z,hz,L,hL,rfl⟩:=fv
  by_cases ZY:wv=.sb∧s=3
  ·obtain⟨rfl,rfl⟩:=ZY;have ht:P.underlying t=some (.slice e):=by
    unfold pN at he
    split at he
    ·next e' h'=>injection he with he;subst he;exact h'
    cases he
   exact aaU h ho ht hs hz hL hd hq
  rw[LF ZY]at hQ;cases hQ
 ·next t ps ho=>
  simp only[oD,oB,oP,fw]at fv;obtain⟨d,hd,_,_,fv⟩:=fv
  split at fv
  ·next fs ht=>
   simp only[oB,oS]at fv;obtain⟨_,_,z,hz,L,hL,rfl⟩:=fv;cases hQ
  simp only[oB,oS,fw]at fv;obtain⟨s,hs,_,_,z,hz,L,hL,rfl⟩:=fv;cases hQ;simp only[oS]at fv;subst fv;exact hq.elim
 ·next t ho=>
  simp only[oD,oB,oP,fw]at fv;obtain⟨d,hd,_,_,fv⟩:=fv
  split at fv;simp only[oS]at fv;subst fv;cases hQ;simp only[oS]at fv;subst fv;exact hq.elim
 ·next t x i ok ho=>
  simp only[oD,oB,oP,fw]at fv;obtain⟨d,hd,_,_,fv⟩:=fv
  split at fv
  ·split at fv
   simp only[oB,oS]at fv;obtain⟨X,hX,I,hI,rfl⟩:=fv;cases hQ;simp only[oS]at fv;subst fv;exact hq.elim
  simp only[oS]at fv;subst fv;exact hq.elim
 ·next t m k v ho=>
  simp only[oD,oB,oP,fw]at fv;obtain⟨_,hd,fv⟩:=fv
  split at fv
  ·next K E ht=>
   split at fv
   ·next kk z hk hz=>
    simp only[oB,oS]at fv;obtain⟨M,hM,X,hX,Y,hY,rfl⟩:=fv;exact Vy h (.inl ho) (by simpa using hd) ht hk hM hX hY hq
   simp only[oS]at fv;subst fv;exact hq.elim
  simp only[oS]at fv;subst fv;exact hq.elim
 ·next t m k v ho=>
  simp only[oD,oB,oP,fw]at fv;obtain⟨_,hd,fv⟩:=fv
  split at fv
  ·next K E ht=>
   split at fv
   ·next kk z hk hz=>
    simp only[oB,oS]at fv;obtain⟨M,hM,X,hX,Y,hY,rfl⟩:=fv;exact Vy h (.inr ho) (by simpa using hd) ht hk hM hX hY hq
   simp only[oS]at fv;subst fv;exact hq.elim
  simp only[oS]at fv;subst fv;exact hq.elim
 ·next c ho=>
  split at fv
  ·next f hc=>
   simp only[oD,oB,fw]at fv;obtain⟨_,_,_,hl,Xs,uC,fv⟩:=fv
   split at fv
   ·split at fv
    ·next d x y hd=>
     simp only[oP,oS]at fv;subst fv;exact abW h ho hc (by simpa using hl) uC hd hq
    cases fv
   split at fv
   ·split at fv
    ·next d x y hd=>
     simp only[oP,oS]at fv;subst fv;exact aaP h ho hc (by simpa using hl) uC hd hq
    cases fv
   split at fv
   ·split at fv
    ·next x r=>
     simp only[oP,oS]at fv;subst fv;exact ab0 h ho hc (by simpa using hl) uC hq
    cases fv
   split at fv
   ·split at fv
    ·next d x hd=>
     simp only[oP,oS]at fv;subst fv;exact abq h ho hc (by simpa using hl) uC hd hq
    cases fv
   split at fv
   ·simp only[oP,oS]at fv;subst fv;cases wv with
    |sh=>exact U0 h ho hc (by simpa using hl) uC hq
    |sb=>exact U0 h ho hc (by simpa using hl) uC hq
    |_=>exact Vo h ho hc (by simpa using hl) uC hq
   simp only[oP,oS]at fv;subst fv;cases hQ
  ·next x _ hc=>
   simp only[oD,oB,oP,oS,fw]at fv;obtain⟨_,_,_,hl,X,hX,Xs,uC,rfl⟩:=fv;cases wv with
   |yes=>exact Xp h ho hc hX (by simpa using hl) uC hq
   |no=>cases hQ
   |ap=>cases hQ
   |sh=>cases hQ
   |sb=>cases hQ
  ·next hc=>
   simp only[oD,oB,fw]at fv;obtain⟨d,hd,_,_,fv⟩:=fv
   split at fv
   ·next x t ha nA=>
    have ri:c.args= #[x]:=by apply aS;simpa using ha
    have og:c.argTypes= #[t]:=by apply aS;simpa using nA
    split at fv<;>simp only[oB,oP,oS]at fv;obtain⟨X,hX,rfl⟩:=fv;cases hQ;obtain⟨X,hX,rfl⟩:=fv;cases hQ;obtain⟨X,hX,rfl⟩:=fv;cases hQ;subst fv;exact hq.elim
   cases fv
  ·next hc=>
   simp only[oD,oB,fw]at fv;obtain⟨d,hd,_,_,fv⟩:=fv
   split at fv
   ·next x y t u ha nA=>
    have ri:c.args= #[x,y]:=by apply aS;simpa using ha
    simp only[oB,oP,oS]at fv;obtain⟨X,hX,Y,hY,rfl⟩:=fv;cases hQ
   cases fv
  ·next hc=>
   simp only[oD,oB,fw]at fv;obtain⟨d,hd,_,_,fv⟩:=fv
   split at fv
   ·next x y t u ha nA=>
    have ri:c.args= #[x,y]:=by apply aS;simpa using ha
    simp only[oB,oP,oS]at fv;obtain⟨X,hX,Y,hY,rfl⟩:=fv;cases hQ
   cases fv
  ·next hc=>
   simp only[oD,oB,fw]at fv;obtain⟨d,hd,_,_,fv⟩:=fv
   split at fv
   ·next s x t u ha nA=>
    have ri:c.args= #[s,x]:=by apply aS;simpa using ha
    have og:c.argTypes= #[t,u]:=by apply aS;simpa using nA
    split at fv<;>simp only[oB,oP,oS,fw]at fv
    ·obtain⟨i,hi,_,A0,z,hz,X,hX,Y,hY,rfl⟩:=fv;have A0:t=u:=by simpa using A0
     subst A0;cases wv with
     |yes=>exact Oq h ho hc ri og (by assumption) hi hz hX hY hd hq
     |no=>exact Oq h ho hc ri og (by assumption) hi hz hX hY hd hq
     |ap=>cases hQ
     |sh=>exact U4 h ho hc ri og (by assumption) hi hz hX hY hd hq
     |sb=>
      by_cases h3:i.size=3;rw[t6,an h3]at hq;exact U4 h ho hc ri og (by assumption) hi hz hX hY hd hq;rw[t6,al h3]at hq;exact Oq h ho hc ri og (by assumption) hi hz hX hY hd hq
    subst fv;exact hq.elim
   cases fv
  ·next hc=>
   simp only[oD,oB,fw]at fv;obtain⟨_,_,fv⟩:=fv
   split at fv
   ·next x y t u ha nA=>
    have ri:c.args= #[x,y]:=by apply aS;simpa using ha
    have og:c.argTypes= #[t,u]:=by apply aS;simpa using nA
    split at fv<;>simp only[oB,oP,oS,fw]at fv
    ·obtain⟨s,hs,_,A0,X,hX,Y,hY,rfl⟩:=fv;have A0:t=u:=by simpa using A0
     subst A0;exact abB h ho hc ri og (by assumption) hs hX hY hq
    subst fv;exact hq.elim
   cases fv
  simp only[oP,oS]at fv;subst fv;exact hq.elim
 simp only[oP,oS]at fv;subst fv;exact hq.elim
def kU(n0:Nat)(S0 M0:Nat→Prop)(w0:World)(n:Nat)(K:Exit→St→Prop)(e:Exit)(a:Act)(w:World):Prop:=∃st,st.n=n∧K e st∧ju n0 S0 M0 w0 st a w
def Av{st:St}{d:Option Nat}(hk:kq f st d av us):(us=[]∨st.fresh us=true)∧f ((st.iQ us).kl d av):=by
 cases us with
 |nil=>rw[jC];exact⟨.inl rfl,hk⟩
 |cons x us=>exact⟨.inr hk.1,hk.2⟩
def CN(fv:oI P wv st.n o=some r)(hs:ju n0 S0 M0 w0 st a w)(hd:∀i,o.dst=some i→i<st.n)(hq:oq P r st f):o.wp P a w (ip n0 S0 M0 w0 st.n f) Q':=by
 obtain⟨g,hu,hv⟩:=hs.gh;have h:At n0 S0 M0 w0 st o a w g:=⟨hs,hu,hv,hd⟩;unfold oq at hq;cases hQ:r.sq with
 |true=>
  rw[hQ,an rfl]at hq;obtain⟨h1,h2⟩:=w5 (Q':=Q') fv hQ rfl h hq;refine cZ ?_ h1;rintro a' w' ⟨av,us,hk,hS⟩;obtain⟨h3,h4⟩:=Av hk;rw[h2]at h4;exact⟨_,by cases o.dst<;>rfl,h4,hS h3⟩
 |false=>
  rw[hQ]at hq;exact Rc fv hQ h (by simpa using hq)
variable {ops:Array Oper}
def pG{tm:Array Value}{j t:Nat}{p:Oper}{c:Bool}(hp:ops[j]?=some p)(hd:p.dst=some t)(hv:tm.getD t undef=.bool c):yielded ops tm j=some c:=by
 have:tm[t]?=some (.bool c):=by
  rw[bD]at hv;cases h:tm[t]? with
  |none=>rw[h]at hv;cases hv
  |some x=>rw[h]at hv;simpa using hv
 simp[yielded,hp,hd,this]
def nH{g:Gh}:fx h us g (.jS []) undef:=by
 simp only[fx];exact⟨#[],rfl,by simp[fA]⟩
def rz{g:Gh}(hr:fx h us g (.jS []) v):v=undef:=by
 simp only[fx]at hr;obtain⟨xs,rfl,h2⟩:=hr;simp only[fA]at h2;have:xs= #[]:=by apply aS;simpa using h2
 rw[this]
 rfl
def mC{tm:Array Value}{j t:Nat}{p:Oper}(hp:ops[j]?=some p)(hd:p.dst=some t)(hv:tm.getD t undef=undef):yielded ops tm j=none:=by
 unfold yielded;rw[hp,fk,hd,fk];cases h:tm[t]? with
 |none=>rfl
 |some v=>
  have:v=undef:=by rw[←hv,bD,h];rfl
  rw[this]
  rfl
def nM{ops:Array Oper}{R:RO}{f:St→Prop}{st:St}{o:Oper}{a:Act}{w:World}{Q':Exit→Act→World→Prop}(fv:iO P wv st.n ops o=some R)(hs:ju n0 S0 M0 w0 st a w)
  (hq:match R.g with|none=>oq P R.op st f|some (t,b)=>nK (st.get t) b (oq P R.op st f) (f (st.kl R.op.dst (.jS [])))):
  (Region.wanted o (yielded ops a.tmps)=true→o.wp P a w (ip n0 S0 M0 w0 st.n f) Q')∧(Region.wanted o (yielded ops a.tmps)=false→ip n0 S0 M0 w0 st.n f (a.put o.dst undef) w):=by
 unfold iO at fv;simp only[oD,oB,fw]at fv;obtain⟨r,hr,_,h1,_,h2,fv⟩:=fv;have hd:∀i,o.dst=some i→i<st.n:=by
  intro i hi;rw[hi]at h2;simpa using h2
 split at fv
 ·next hg=>
  simp only[oP,oS]at fv;subst fv;simp only at hq;refine⟨fun _=>CN hr hs hd hq,fun hw=>?_⟩;simp[Region.wanted,hg]at hw
 next j b hg=>
 simp only[oB,oP,oS]at fv;obtain⟨p,hp,t,ht,rfl⟩:=fv;simp only at hq;unfold nK at hq
 split at hq
 ·next t1 c hc=>
  obtain⟨g,hu,hv⟩:=hs.gh;have yP:=hv t;have yG:lk st.env t=.im t1 (.sc (.bool c)):=hc;rw[yG]at yP;have yQ:=gU yP;have hy:=pG (ops:=ops) hp ht yQ;have hw:Region.wanted o (yielded ops a.tmps)=(some c==some b):=by simp[Region.wanted,hg,hy]
  rw[hw];refine⟨fun e=>CN hr hs hd (hq.1 (by simpa using e)),fun e=>?_⟩;have hcb:c=!b:=by cases c<;>cases b<;>simp_all
  have:=hq.2 hcb;rw[h1]at this;exact⟨_,by cases o.dst<;>rfl,this,gW hs hu hv hd nH⟩
 ·next hc=>
  obtain⟨g,hu,hv⟩:=hs.gh;have yP:=hv t;have yG:lk st.env t=.jS []:=hc;rw[yG]at yP;have hw:Region.wanted o (yielded ops a.tmps)=false:=by simp[Region.wanted,hg,mC (ops:=ops) hp ht (rz yP)]
  rw[hw];refine⟨fun e=>(by cases e),fun _=>?_⟩;rw[h1]at hq;exact⟨_,by cases o.dst<;>rfl,hq,gW hs hu hv hd nH⟩
 exact hq.elim
def wt{K:Exit→St→Prop}:∀(l:List Oper)(R:List RO)(i:Nat)(st:St)(a:Act)(w:World),(∀j,l[j]?=ops[i+j]?)→l.mapM (iO P wv st.n ops)=some R→ju n0 S0 M0 w0 st a w→
  gl P R st K→wpOps P ops (kU n0 S0 M0 w0 st.n K) (List.range' i l.length) a w
 | [],R,i,st,a,w,_,hR,hs,hq=>by
  simp at hR;subst hR;exact⟨st,rfl,hq,hs⟩
 |o::l,R,i,st,a,w,hl,hR,hs,hq=>by
  simp only[cB,oD,oB,oP,oS]at hR;obtain⟨r,hr,R',hR',rfl⟩:=hR;have h0:ops[i]?=some o:=by simpa using(hl 0).symm
  have KM:∀j,l[j]?=ops[i+1+j]?:=fun j=>by have:=hl (j+1);simpa[bW,dY 1 j]using this
  simp only[lK,fh,wpOps,h0];have ov:match r.g with|none=>oq P r.op st (g7 P R' K)|some (t,b)=>nK (st.get t) b (oq P r.op st (g7 P R' K)) (g7 P R' K (st.kl r.op.dst (.jS []))):=by
   obtain⟨g,op⟩:=r;cases g with
   |none=>exact hq
   |some x=>exact hq
  have key:=nM (Q':=kU n0 S0 M0 w0 st.n K) hr hs ov;have hn:∀{a':Act} {w':World},ip n0 S0 M0 w0 st.n (g7 P R' K) a' w'→wpOps P ops (kU n0 S0 M0 w0 st.n K) (List.range' (i+1) l.length) a' w':=by
   rintro a' w' ⟨fS,hnn,hf,nB⟩;rw[←hnn];exact wt l R' (i+1) fS a' w' KM (by rw[hnn];exact hR') nB hf
  cases hw:Region.wanted o (yielded ops a.tmps)with
  |true=>
   simp only[aK];exact .inl (cZ (fun a' w' h=>hn h) (key.1 hw))
  |false=>
   simp only[kY,aH];exact hn (key.2 hw)
end Go.Ax
