/- THE ENGINE, PART 9: a generator of conditions over the register code, and its soundness. No condition. -/
import Derived.Test.YtalgnbkjhgncaaaEnH
import Derived.OrdersHeld
set_option linter.all false
namespace Go.Ax
variable {P:Program}{wv:Wv}{n0:Nat}{S0 M0:Nat→Prop}{w0:World}
variable {st:St}{o:Oper}{a:Act}{w:World}{k:KQ}{g:Gh}
def qd(P:Program)(o:Oper)(a:Act)(w:World)(st:St)(g:Gh)(k:KQ):Prop:=∃av v,(execOp a.eval o).run P w=.ok (.value v) w∧fx w.heap st.us g av v∧k av []
variable {v:Value}
def At.still(h:At n0 S0 M0 w0 st o a w g){av:AV}(gk:(execOp a.eval o).run P w=.ok (.value v) w)(hr:fx w.heap st.us g av v)(hk:k av []):qd P o a w st g k:=⟨av,v,gk,hr,hk⟩
variable {x:Operand}{t:TypeId}
def abf(h:At n0 S0 M0 w0 st o a w g){X:Ax.X}(ho:o.op=.move x∨o.op=.assign x)(hx:fY P t x=some X)(hq:k (st.ev X) []):
  qd P o a w st g k:=by
 refine h.still (v:=a.eval x) ?_ (h.ev_ hx) hq;rcases ho with ho|ho<;>simp[execOp,ho]
def acv(h:At n0 S0 M0 w0 st o a w g){X:Ax.X}(ho:o.op=.nilCheck x)(hx:fY P t x=some X)(hq:qA (st.ev X) k):
  qd P o a w st g k:=by
 have e:=h.ev_ hx;unfold qA at hq
 split at hq
 ·next t' d j hv=>
  rw[hv]at e;have e':=e;simp only[fx,f8,D.fits]at e';obtain⟨F,⟨b,off,c,el,fr,F',h1,_⟩,h2,_⟩:=e';rw[fP h2]at h1;have h3:a.eval x=.pointer (some ⟨b,off+j,none⟩):=by simpa using h1
  exact h.still (v:=a.eval x) (by simp[execOp,ho,h3]) e hq
 ·next t' b0 o0 d j hv=>
  rw[hv]at e;have e':=e;simp only[fx,f8,D.fits]at e';obtain⟨F,⟨_,b,off,c,el,fr,F',h1,_⟩,h2,_⟩:=e';rw[fP h2]at h1;have h3:a.eval x=.pointer (some ⟨b,off+j,none⟩):=by simpa using h1
  exact h.still (v:=a.eval x) (by simp[execOp,ho,h3]) e hq
 ·next t' p0 hv=>
  rw[hv]at e;have h3:=gU e;exact h.still (v:=a.eval x) (by simp[execOp,ho,h3]) e hq
 ·next id el j hv=>
  rw[hv]at e;have e':=e;simp only[fx]at e';obtain⟨ow,nn,sz,es,b,_,_,_,_,h3⟩:=e';exact h.still (v:=a.eval x) (by simp[execOp,ho,h3]) e hq
 ·next id el j gQ ic j' hv=>
  rw[hv]at e;have e':=e;simp only[fx]at e';obtain⟨ow,nn,usz,es,b,c,ty,b',off',len',cap',_,_,_,_,_,_,h3⟩:=e';exact h.still (v:=a.eval x) (by simp[execOp,ho,h3]) e hq
 ·next id j hv=>
  rw[hv]at e;have e':=e;simp only[fx]at e';obtain⟨_,_,b,_,_,h3⟩:=e';exact h.still (v:=a.eval x) (by simp[execOp,ho,h3]) e hq
 exact hq.elim
variable {i:Nat}
def ac4(h:At n0 S0 M0 w0 st o a w g){X:Ax.X}(ho:o.op=.extract x i)(hx:fY P t x=some X)
  (hq:wE (st.ev X) i k):qd P o a w st g k:=by
 have ex:=h.ev_ hx;unfold wE at hq
 split at hq
 ·next vs e1=>
  rw[e1]at ex;simp only[fx]at ex;obtain⟨xs,hv,hl⟩:=ex;obtain⟨hi,hk⟩:=hq;have:∀(vs:List AV)(xs:List Value)(i:Nat),fA w.heap st.us g vs xs→i<vs.length→∃v,xs[i]?=some v∧fx w.heap st.us g (vs.getD i .any) v:=by
   intro vs
   induction vs with
   |nil=>intro xs i _ hi;simp at hi
   |cons y vs ih=>
    intro xs i hl hi;simp only[fA]at hl;obtain⟨v,r,rfl,h1,h2⟩:=hl;cases i with
    |zero=>exact⟨v,rfl,h1⟩
    |succ i=>obtain⟨v',h3,h4⟩:=ih r i h2 (by simpa using hi);exact⟨v',by simpa using h3,by simpa using h4⟩
  obtain⟨v,h1,h2⟩:=this vs xs.toList i hl hi;refine h.still (v:=v) ?_ h2 hk;have Uz:xs[i]?=some v:=by simpa using h1
  simp[execOp,ho,hv,Instr.extract,Uz]
 exact hq.elim
variable {u:TypeId}
def ahh(h:At n0 S0 M0 w0 st o a w g){agg:Bool}{sz:Nat}{X:Ax.X}(ho:o.op=.load t x)(hx:fY P u x=some X)
  (hz:io P t=some sz) (hg:mL P t=some agg) (h1:agg=false→sz=1)
  (hq:zX (st.ev X) st.unit agg sz k):qd P o a w st g k:=by
 obtain⟨av,v,h2,h3,h4⟩:=BG (P:=P) h.us hz hg h1 (h.ev_ hx) hq;exact h.still (v:=v) (by simp[execOp,ho,h2]) h3 h4
def agc(h:At n0 S0 M0 w0 st o a w g){off:Nat}{X:Ax.X}{fs:Array Field}{f:Field}(ho:o.op=.fieldAddr t x i)(hx:fY P u x=some X)
  (ht:P.underlying t=some (.struct fs)) (hf:fs[i]?=some f) (yE:f.offset=off) {z:Nat} (hz:io P f.type=some z) (Ej:z≠0)
  (hq:yY (st.ev X) st.unit off k):qd P o a w st g k:=by
 have ex:=h.ev_ hx;have gk:∀(b p:Nat),a.eval x=.pointer (some ⟨b,p,none⟩)→(execOp a.eval o).run P w=.ok (.value (.pointer (some ⟨b,p+off,none⟩))) w:=by
  intro b p hv;subst yE;simp[execOp,ho,hv,Instr.fieldAt,aW ht,hf,Instr.sureAddr,fieldPlace,lW hz,Ej,lm]
 unfold yY at hq
 split at hq
 ·next t1 d j e1=>
  rw[e1]at ex;obtain⟨b,p,hv,hr⟩:=mZ ex;exact h.still (gk _ _ hv) (by rw[bW];exact hr _ hq.1) hq.2
 ·next t1 b0 o0 d j e1=>
  rw[e1]at ex;obtain⟨UB,hl⟩:=qN ex rfl;obtain⟨b,p,hv,hr⟩:=mZ UB;rw[hv]at hl;simp at hl;obtain⟨rfl,rfl⟩:=hl;exact h.still (gk _ _ hv) (zZ (by rw[bW];exact hr _ hq.1) rfl) hq.2
 ·next id el j e1=>
  rw[e1]at ex;simp only[fx]at ex;obtain⟨ow,nn,usz,es,b,r1,r2,r3,r4,hv⟩:=ex;unfold OC at hq
  split at hq
  ·next ow' jc kv es' gZ=>
   have:=h.us.uniq r1 (fB gZ);injection this with e1 e2 e3 e4;subst e1;subst e2;subst e3;subst e4;refine h.still (gk _ _ hv) ?_ hq.2;simp only[fx];exact⟨ow,nn,usz,es,b,r1,r2,hq.1,r4,by rw[bW]⟩
  exact hq.elim
 ·next id el j gQ ic j' e1=>
  rw[e1]at ex;simp only[fx]at ex;obtain⟨ow,nn,usz,es,b,c,ty,b',off',len',cap',r1,r2,r3,r4,r5,r6,hv⟩:=ex;refine h.still (gk _ _ hv) ?_ hq.2;simp only[fx];exact⟨ow,nn,usz,es,b,c,ty,b',off',len',cap',r1,r2,r3,r4,r5,r6,by rw[bW]⟩
 ·next id j e1=>
  rw[e1]at ex;simp only[fx]at ex;obtain⟨sz,items,b,r1,r2,hv⟩:=ex;refine h.still (gk _ _ hv) ?_ hq;simp only[fx];exact⟨sz,items,b,r1,r2,rfl⟩
 exact hq.elim
def ahi(h:At n0 S0 M0 w0 st o a w g){off sz:Nat}{agg:Bool}{X:Ax.X}{fs:Array Field}{f:Field}(ho:o.op=.field t x i)(hx:fY P u x=some X)
  (ht:P.underlying t=some (.struct fs)) (hf:fs[i]?=some f) (yE:f.offset=off) (hz:io P f.type=some sz) (hg:mL P f.type=some agg) (h1:agg=false→sz=1)
  (hq:Jo (st.ev X) st.unit off sz agg k):qd P o a w st g k:=by
 have ex:=h.ev_ hx;subst yE;have key:∀t d,fx w.heap st.us g (.im t d) (a.eval x)→d.fK=true→f.offset+sz≤d.size→k (.im t (D.sub d f.offset sz agg)) []→qd P o a w st g k:=by
  intro t d hr hd hj hk;obtain⟨cs,v',hv,hp,wL⟩:=CP (P:=P) hr hd hz hg h1 hj w;exact h.still (by simp[execOp,ho,hv,Instr.field,aW ht,hf,asAgg,hp]) wL hk
 unfold Jo at hq
 split at hq
 ·next t1 d e1=>
  rw[e1]at ex;exact key _ _ ex hq.1.1 hq.1.2 hq.2
 ·next i e1=>
  rw[e1]at ex;unfold R4 at hq
  split at hq
  ·next d gZ=>exact key _ _ (G8 h.us ex gZ) hq.1.1 hq.1.2 hq.2
  exact hq.elim
 exact hq.elim
def ahu(h:At n0 S0 M0 w0 st o a w g){e u1 u2:TypeId}{sz:Nat}{i:Operand}{X I:Ax.X}(ho:o.op=.indexAddr t x i)(hx:fY P u1 x=some X)(hi:fY P u2 i=some I)
  (ht:P.underlying t=some (.slice e)) (hz:io P e=some sz) (hq:D6 (st.ev X) (st.ev I) st.unit sz k):qd P o a w st g k:=by
 have ex:=h.ev_ hx;have ei:=h.ev_ hi;unfold D6 at hq
 split at hq
 ·next t1 kd n e1=>
  rw[e1]at ei;have vi:=gU ei
  split at hq
  ·next id off len e2=>
   rw[e2]at ex;simp only[fx]at ex;obtain⟨ow,nn,usz,es,r1,r2,r3⟩:=ex;obtain⟨⟨q1,q2⟩,hq⟩:=hq;unfold Gd at hq
   split at hq
   ·next ow' jc kv es' gZ=>
    have:=h.us.uniq r1 (fB gZ);injection this with e1 e2 e3 e4;subst e1;subst e2;subst e3;subst e4;obtain⟨⟨rfl,jD⟩,hk⟩:=hq;rcases r3 with⟨b,r3,r4⟩|⟨_,_,rfl,_⟩
    ·refine h.still (v:=.pointer (some ⟨b,off*sz+n.toNat*sz,none⟩)) ?_ ?_ hk;have:=jT (P:=P) ht hz (b:=b) (off:=off*sz) (len:=len) (cap:=g.cap id-off) (kd:=kd) q1 q2 w;simp[execOp,ho,vi,r4,this];simp only[fx];refine⟨ow,nn,sz,es,b,r1,by omega,jD,r3,by rw[a9];rfl⟩
    omega
   exact hq.elim
  ·next id off len e2=>
   rw[e2]at ex;simp only[fx]at ex;obtain⟨ow,nn,usz,es,r1,r2,r0⟩:=ex;obtain⟨⟨q1,q2⟩,hq⟩:=hq;rcases r0 with⟨b,o,r3,r4,r5⟩|⟨_,rfl,_⟩
   case inr=>omega
   unfold Gd at hq
   split at hq
   ·next ow' jc kv es' gZ=>
    have:=h.us.uniq r1 (fB gZ);injection this with e1 e2 e3 e4;subst e1;subst e2;subst e3;subst e4;obtain⟨⟨rfl,jD⟩,hk⟩:=hq;have B4:es.length≤g.cap id:=by
     have ho:=h.us.each _ r1;simp only[hP]at ho;rcases ho.2.2 with⟨h0,_⟩|⟨_,_,_,_,_,_,_,_,_,_,hc,_⟩
     rw[r3]at h0;cases h0;exact hc
    obtain rfl:=r4 (by omega);refine h.still (v:=.pointer (some ⟨b,off*sz+n.toNat*sz,none⟩)) ?_ ?_ hk;have:=jT (P:=P) ht hz (b:=b) (off:=off*sz) (len:=len) (cap:=g.cap id-off) (kd:=kd) q1 q2 w;simp[execOp,ho,vi,r5,this];simp only[fx];refine⟨ow,nn,sz,es,b,r1,by omega,jD,r3,by rw[a9];rfl⟩
   exact hq.elim
  ·next id el j e2=>
   rw[e2]at ex;unfold Qj at hq
   split at hq
   ·next nn usz es gZ=>
    unfold Vh at hq
    split at hq
    ·next jc gv ds hd=>
     obtain⟨⟨rfl,jD,q1,q2⟩,hk⟩:=hq;have hr:=zP h.us ex gZ;rw[hd]at hr;simp only[fx,f8,D.fits]at hr;obtain⟨F,iF,hf,i9⟩:=hr;rw[fP hf]at iF;rcases iF with⟨_,_,rfl,_⟩|⟨b',off',cap',c',ic,fr,F',p1,p2,p3,p4,p5,p6,p7,p8,p9⟩
     simp at q2;omega;have hv:a.eval x=.slice (some ⟨b',off',none⟩) ds.length cap':=by simpa using p1
     simp only[fx]at ex;obtain⟨KO,j8,EC,b,c,ty,r1,r2,r3,r4,r5,r6,r7,r8,r9⟩:=ex;have:=h.us.uniq r1 (fB gZ);injection this with z1 z2 z3 z4;subst z2 z3 z4;refine h.still (v:=.pointer (some ⟨b',off'+n.toNat*sz,none⟩)) ?_ ?_ hk;have:=jT (P:=P) ht hz (b:=b') (off:=off') (len:=ds.length) (cap:=cap') (kd:=kd) q1 q2 w;simp[execOp,ho,vi,hv,this];simp only[fx];refine⟨true,KO,j8,EC,b,c,ty,b',off',ds.length,cap',r1,r2,r3,r4,r5,?_,by simp⟩;rw[fP hf]at r8;have h1:((c.toList.drop (el*j8+j)).take 1)[0]?=some (a.eval x):=by rw[←r8];simp
     rw[dr (by omega),cJ,aC,cr]at h1;rw[h1,hv]
    exact hq.elim
   exact hq.elim
  unfold K4 at hq
  split at hq
  ·next t2 nn gv ds hd=>
   have hr:=nv h.us ex hd;obtain⟨⟨rfl,jD,q1,q2⟩,hk⟩:=hq;have wL:=hr;simp only[fx,f8,D.fits]at hr;obtain⟨F,iF,hf,i9⟩:=hr;rw[fP hf]at iF;rcases iF with⟨_,_,rfl,_⟩|⟨b,off,cap,c,el,fr,F',p1,p2,p3,p4,p5,p6,p7,p8,p9⟩
   simp at q2;omega;have hv:a.eval x=.slice (some ⟨b,off,none⟩) ds.length cap:=by simpa using p1
   have gI:n.toNat<ds.length:=by omega
   obtain⟨F1,F2,F3,c1,c2,c3,g1,g2,g3,g4,g5⟩:=p9.pick gI;have jm:=p8 _ (aZ gI);have l1:c1.length=n.toNat*sz:=by
    rw[g3.length,D.fG (sz:=sz) fun d hd=>p8 d (bf hd),bk,bl (db gI)]
   have hmul:n.toNat*sz+sz≤ds.length*sz:=by
    have:=ba sz (show n.toNat+1≤ds.length by omega);rw[a9]at this;omega
   have HR:ds.length*sz≤cap*sz:=ba sz p4;refine h.still (v:=.pointer (some ⟨b,off+n.toNat*sz,none⟩)) ?_ ?_ hk;have:=jT (P:=P) ht hz (b:=b) (off:=off) (len:=ds.length) (cap:=cap) (kd:=kd) q1 q2 w;simp[execOp,ho,vi,hv,this];rw[D.j7 gI];simp only[fx];refine⟨b::F2,?_,by simp[D.fits,Value.oneCell'],?_⟩
   ·unfold f8;refine⟨b,off+n.toNat*sz,c,el,fr,F2,by simp[Value.cells],rfl,by omega,p6,by omega,?_⟩;have:(c.toList.drop (off+n.toNat*sz)).take ((ds[n.toNat]).size)=c2:=by
     have e1:=congrArg (fun l=>(l.drop c1.length).take c2.length) g2;simp only[dd,bV,dq,ch,de]at e1;rw[l1]at e1;have l2:=g4.length;rw[jm]at l2;rw[l2,bl (by omega)]at e1;rw[jm];exact e1
    rw[this];exact g4
   intro y hy
   apply i9
   rw[p2,g1];rcases aj.1 hy with rfl|hy
   simp;simp[hy]
  ·next t2 b0 o0 nn gv ds hd=>
   obtain⟨hr,hl⟩:=qN (nv h.us ex hd) rfl;obtain⟨⟨rfl,jD,q1,q2⟩,hk⟩:=hq;have wL:=hr;simp only[fx,f8,D.fits]at hr;obtain⟨F,iF,hf,i9⟩:=hr;rw[fP hf]at iF;rcases iF with⟨_,_,rfl,_⟩|⟨b,off,cap,c,el,fr,F',p1,p2,p3,p4,p5,p6,p7,p8,p9⟩
   simp at q2;omega;have hv:a.eval x=.slice (some ⟨b,off,none⟩) ds.length cap:=by simpa using p1
   rw[hv]at hl;simp at hl;obtain⟨rfl,rfl⟩:=hl;have gI:n.toNat<ds.length:=by omega
   obtain⟨F1,F2,F3,c1,c2,c3,g1,g2,g3,g4,g5⟩:=p9.pick gI;have jm:=p8 _ (aZ gI);have l1:c1.length=n.toNat*sz:=by
    rw[g3.length,D.fG (sz:=sz) fun d hd=>p8 d (bf hd),bk,bl (db gI)]
   have hmul:n.toNat*sz+sz≤ds.length*sz:=by
    have:=ba sz (show n.toNat+1≤ds.length by omega);rw[a9]at this;omega
   have HR:ds.length*sz≤cap*sz:=ba sz p4;refine h.still (v:=.pointer (some ⟨b,off+n.toNat*sz,none⟩)) ?_ ?_ hk;have:=jT (P:=P) ht hz (b:=b) (off:=off) (len:=ds.length) (cap:=cap) (kd:=kd) q1 q2 w;simp[execOp,ho,vi,hv,this];refine zZ ?_ rfl;rw[D.j7 gI];simp only[fx];refine⟨b::F2,?_,by simp[D.fits,Value.oneCell'],?_⟩
   ·unfold f8;refine⟨b,off+n.toNat*sz,c,el,fr,F2,by simp[Value.cells],rfl,by omega,p6,by omega,?_⟩;have:(c.toList.drop (off+n.toNat*sz)).take ((ds[n.toNat]).size)=c2:=by
     have e1:=congrArg (fun l=>(l.drop c1.length).take c2.length) g2;simp only[dd,bV,dq,ch,de]at e1;rw[l1]at e1;have l2:=g4.length;rw[jm]at l2;rw[l2,bl (by omega)]at e1;rw[jm];exact e1
    rw[this];exact g4
   intro y hy
   apply i9
   rw[p2,g1];rcases aj.1 hy with rfl|hy
   simp;simp[hy]
  exact hq.elim
 exact hq.elim
def acK(h:At n0 S0 M0 w0 st o a w g){u1 e:TypeId}{c:Call}{X:Ax.X}(ho:o.op=.call c)(hc:c.callee=.builtin .len)(ha:c.args= #[x])(nA:c.argTypes= #[t])(hx:fY P u1 x=some X)
  (ht:P.underlying t=some (.slice e)) (hq:pO (st.ev X) st.unit k):qd P o a w st g k:=by
 have ex:=h.ev_ hx;have gk:∀p len cap,a.eval x=.slice p len cap→(execOp a.eval o).run P w=.ok (.value (.int .i64 len)) w:=by
  intro p len cap hv;simp[execOp,ho,resolve,hc,ha,nA,hv,invoke,builtin,Builtin.len_,aW ht,goInt]
 unfold pO at hq
 split at hq
 ·next id off len e2=>
  rw[e2]at ex;simp only[fx]at ex;obtain⟨ow,nn,usz,es,r1,r2,r3⟩:=ex;rcases r3 with⟨b,r3,r4⟩|⟨_,_,rfl,r4⟩
  exact h.still (gk _ _ _ r4) (g8 rfl) hq;exact h.still (gk _ _ _ r4) (g8 rfl) hq
 ·next id off len e2=>
  rw[e2]at ex;simp only[fx]at ex;obtain⟨ow,nn,usz,es,r1,r2,⟨b,o,r3,r4,r5⟩|⟨_,rfl,r5⟩⟩:=ex;exact h.still (gk _ _ _ r5) (g8 rfl) hq;exact h.still (gk _ _ _ r5) (g8 rfl) hq
 ·next nn sz e2=>
  rw[e2]at ex;simp only[fx]at ex;obtain⟨p,r5,_⟩:=ex;exact h.still (gk _ _ _ r5) (g8 rfl) hq
 unfold wJ at hq
 split at hq
 ·next t2 nn gv ds hd=>
  have hr:=nv h.us ex hd;obtain⟨p,len,cap,hv,rfl,_,_⟩:=pF hr;exact h.still (gk _ _ _ hv) (g8 rfl) hq
 ·next t2 b0 o0 nn gv ds hd=>
  obtain⟨hr,_⟩:=qN (nv h.us ex hd) rfl;obtain⟨p,len,cap,hv,rfl,_,_⟩:=pF hr;exact h.still (gk _ _ _ hv) (g8 rfl) hq
 exact hq.elim
def acH(h:At n0 S0 M0 w0 st o a w g){e:TypeId}{n kz s:Nat}{i:Operand}{X:Ax.X}(ho:o.op=.indexAddr t x i)(hx:fY P u x=some X)
  (ht:P.underlying t=some (.array n e)) (hi:sX i=some kz) (hn:kz<n) (hz:io P e=some s)
  (hq:yY (st.ev X) st.unit (kz*s) k):qd P o a w st g k:=by
 have ex:=h.ev_ hx;have hiv:a.eval i=.int .i64 kz:=by
  unfold sX at hi
  split at hi
  ·split at hi
   ·next h0=>injection hi with hi;subst hi;simp[Act.eval];omega
   cases hi
  cases hi
 generalize yE:kz*s=off at hq;have gk:∀(b p:Nat),a.eval x=.pointer (some ⟨b,p,none⟩)→(execOp a.eval o).run P w=.ok (.value (.pointer (some ⟨b,p+off,none⟩))) w:=by
  intro b p hv;subst yE;simp[execOp,ho,hv,hiv,Instr.indexAt,asIntOf,aW ht,Instr.sureAddr,pc hz,lm,hn]
 unfold yY at hq
 split at hq
 ·next t1 d j e1=>
  rw[e1]at ex;obtain⟨b,p,hv,hr⟩:=mZ ex;exact h.still (gk _ _ hv) (by rw[bW];exact hr _ hq.1) hq.2
 ·next t1 b0 o0 d j e1=>
  rw[e1]at ex;obtain⟨UB,hl⟩:=qN ex rfl;obtain⟨b,p,hv,hr⟩:=mZ UB;rw[hv]at hl;simp at hl;obtain⟨rfl,rfl⟩:=hl;exact h.still (gk _ _ hv) (zZ (by rw[bW];exact hr _ hq.1) rfl) hq.2
 ·next id el j e1=>
  rw[e1]at ex;simp only[fx]at ex;obtain⟨ow,nn,usz,es,b,r1,r2,r3,r4,hv⟩:=ex;unfold OC at hq
  split at hq
  ·next ow' jc kv es' gZ=>
   have:=h.us.uniq r1 (fB gZ);injection this with e1 e2 e3 e4;subst e1;subst e2;subst e3;subst e4;refine h.still (gk _ _ hv) ?_ hq.2;simp only[fx];exact⟨ow,nn,usz,es,b,r1,r2,hq.1,r4,by rw[bW]⟩
  exact hq.elim
 ·next id el j gQ ic j' e1=>
  rw[e1]at ex;simp only[fx]at ex;obtain⟨ow,nn,usz,es,b,c,ty,b',off',len',cap',r1,r2,r3,r4,r5,r6,hv⟩:=ex;refine h.still (gk _ _ hv) ?_ hq.2;simp only[fx];exact⟨ow,nn,usz,es,b,c,ty,b',off',len',cap',r1,r2,r3,r4,r5,r6,by rw[bW]⟩
 ·next id j e1=>
  rw[e1]at ex;simp only[fx]at ex;obtain⟨sz,items,b,r1,r2,hv⟩:=ex;refine h.still (gk _ _ hv) ?_ hq;simp only[fx];exact⟨sz,items,b,r1,r2,rfl⟩
 exact hq.elim
def lz.GR:lz→Bool
 |.mv .. |.ld .. |.fa .. |.fl .. |.ia .. |.len .. |.nck .. |.ext .. =>true
 |_=>false
variable {r:lz}{e:TypeId}
def ON{d:Nat}(h:sa P d e=some r):r.GR=false:=by
 unfold sa at h
 split at h
 ·injection h with h;subst h;rfl
 simp only[oD,oB,oP,oS]at h;obtain⟨s,hs,z,hz,rfl⟩:=h
 rfl
variable {sz:Nat}
def Q9{wv:Wv}{d:Nat}{z:D}{l:Nat}{ps:List (Nat×X)}:(yc wv d sz z l ps).GR=false:=by
 unfold yc
 split<;>rfl
variable {n:Nat}
def wh(fv:oI P wv n o=some r)(hQ:r.GR=true)(h:At n0 S0 M0 w0 st o a w g)(hq:yX P r st.ev st.unit k):qd P o a w st g k:=by
 unfold oI at fv
 split at fv
 ·next x ho=>
  simp only[oD,oB,oP,oS,fw]at fv;obtain⟨d,hd,_,_,X,hX,rfl⟩:=fv;exact abf h (.inl ho) hX hq
 ·next x ho=>
  simp only[oD,oB,oP,oS,fw]at fv;obtain⟨d,hd,_,_,X,hX,rfl⟩:=fv;exact abf h (.inr ho) hX hq
 ·next c x y ho=>
  simp only[oD,oB,oP,oS,fw]at fv;obtain⟨d,hd,_,_,C,hC,X,hX,Y,hY,rfl⟩:=fv;cases hQ
 ·next e x ho=>
  simp only[oD,oB,oP,oS,fw]at fv;obtain⟨d,hd,_,_,s,hs,X,hX,rfl⟩:=fv;cases hQ
 ·next e ho=>
  simp only[oD,oB,oP,fw]at fv;obtain⟨d,hd,_,_,fv⟩:=fv;rw[ON fv]at hQ;cases hQ
 ·next t x ho=>
  simp only[oD,oB,oP,oS,fw]at fv;obtain⟨d,hd,_,_,s,hs,ag,s8,_,h1,X,hX,rfl⟩:=fv;exact ahh h ho hX hs s8 (fun e=>by subst e;simpa using h1) hq
 ·next t p x ho=>
  simp only[oD,oB,oP,oS,fw]at fv;obtain⟨_,_,s,_,A,_,X,_,rfl⟩:=fv;cases wv<;>cases hQ
 ·next x ho=>
  simp only[oD,oB,oP,oS,fw]at fv;obtain⟨d,hd,_,_,X,hX,rfl⟩:=fv;exact acv h ho hX hq
 ·next op t x y u ho=>
  simp only[oD,oB,oP,fw]at fv;obtain⟨d,hd,_,_,fv⟩:=fv
  split at fv<;>(try simp only[oB,oS]at fv);obtain⟨X,hX,Y,hY,rfl⟩:=fv;cases hQ;obtain⟨X,hX,Y,hY,rfl⟩:=fv;cases hQ
  ·next ht _ _=>obtain⟨X,hX,Y,hY,rfl⟩:=fv;cases hQ
  obtain⟨X,hX,Y,hY,rfl⟩:=fv;cases hQ;obtain⟨X,hX,Y,hY,rfl⟩:=fv;cases hQ;obtain⟨X,hX,Y,hY,rfl⟩:=fv;cases hQ
  ·next fs ht=>
   split at fv<;>(try simp only[oB,oS]at fv)
   ·next i9=>obtain⟨X,hX,Y,hY,rfl⟩:=fv;cases hQ
   subst fv;cases hQ
  ·next fs ht=>
   split at fv<;>(try simp only[oB,oS]at fv)
   ·next i9=>obtain⟨X,hX,Y,hY,rfl⟩:=fv;cases hQ
   subst fv;cases hQ
  subst fv;cases hQ
 ·next op t x ho=>
  simp only[oD,oB,oP,oS,fw]at fv;obtain⟨d,hd,_,_,X,hX,rfl⟩:=fv;cases hQ
 ·next s t x ho=>
  simp only[oD,oB,oP,fw]at fv;obtain⟨d,hd,_,_,fv⟩:=fv
  split at fv<;>(try simp only[oB,oS]at fv);obtain⟨X,hX,rfl⟩:=fv;cases hQ
  ·split at fv<;>simp only[oB,oS]at fv
   obtain⟨X,hX,rfl⟩:=fv;cases hQ;subst fv;cases hQ
  subst fv;cases hQ
 ·next t l c ho=>
  simp only[oD,oB,oP,oS,fw]at fv;obtain⟨d,hd,_,_,e,he,i,hi,z,hz,L,hL,C,hC,rfl⟩:=fv;have ht:P.underlying t=some (.slice e):=by
   unfold pN at he
   split at he
   ·next e' h'=>injection he with he;subst he;exact h'
   cases he
  cases hQ
 ·next t x lo hi ho=>
  simp only[oD,oB,oP,fw]at fv;obtain⟨d,hd,_,_,Lo,wz,Hi,Ci,fv⟩:=fv;have l1:∀y,lo=some y→∃Y,Lo=some Y∧fY P 0 y=some Y:=by
   rintro y rfl;simp only[cF]at wz;obtain⟨Y,h1,rfl⟩:=wz;exact⟨Y,rfl,h1⟩
  have l2:lo=none→Lo=none:=by rintro rfl;simpa using wz.symm
  have l3:∀y,hi=some y→∃Y,Hi=some Y∧fY P 0 y=some Y:=by
   rintro y rfl;simp only[cF]at Ci;obtain⟨Y,h1,rfl⟩:=Ci;exact⟨Y,rfl,h1⟩
  have l4:hi=none→Hi=none:=by rintro rfl;simpa using Ci.symm
  split at fv<;>simp only[oB,oS]at fv;obtain⟨s,hs,X,hX,rfl⟩:=fv;cases hQ;obtain⟨X,hX,rfl⟩:=fv;cases hQ;subst fv;cases hQ
 ·next t x lo hi mx ho=>
  simp only[oD,oB,oP,fw]at fv;obtain⟨d,hd,_,_,fv⟩:=fv
  split at fv
  ·next e ht=>
   split at fv
   ·next Eq=>
    simp only[oB,oS]at fv;obtain⟨s,hs,X,hX,rfl⟩:=fv;simp only[bA]at Eq;cases hi with
    |none=>simp at Eq
    |some hi=>cases hQ
   simp only[oS]at fv;subst fv;cases hQ
  simp only[oS]at fv;subst fv;cases hQ
 ·next fn first captured ho=>
  simp only[oD,oB,oP,fw]at fv;obtain⟨d,hd,_,_,fv⟩:=fv
  split at fv
  ·next f hf=>
   simp only[oB,oS]at fv;obtain⟨Xs,uC,rfl⟩:=fv;have Ca:first= #[]:=by apply aS;simpa using hf
   subst Ca;cases hQ
  simp only[oS]at fv;subst fv;cases hQ
 ·next t x i ho=>
  simp only[oD,oB,oP,fw]at fv;obtain⟨d,hd,_,_,fv⟩:=fv
  split at fv
  ·next fs ht=>
   simp only[oB,oS,fw]at fv;obtain⟨f,hf,z,hz,_,Ej,X,hX,rfl⟩:=fv;exact agc h ho hX ht hf rfl hz (by simpa using Ej) hq
  cases fv
 ·next t x i ho=>
  simp only[oD,oB,oP,fw]at fv;obtain⟨d,hd,_,_,fv⟩:=fv
  split at fv
  ·next fs ht=>
   simp only[oB,oS,fw]at fv;obtain⟨f,hf,s,hs,ag,s8,_,h1,X,hX,rfl⟩:=fv;exact ahi h ho hX ht hf rfl hs s8 (fun e=>by subst e;simpa using h1) hq
  cases fv
 ·next t x i ho=>
  simp only[oD,oB,oP,fw]at fv;obtain⟨d,hd,_,_,fv⟩:=fv
  split at fv
  ·next e ht=>
   simp only[oB,oS]at fv;obtain⟨s,hs,X,hX,I,hI,rfl⟩:=fv;exact ahu h ho hX hI ht hs hq
  ·next n' e ht=>
   split at fv
   ·next kz zB=>
    split at fv
    ·next gI=>
     simp only[oB,oS,fw]at fv;obtain⟨s,hs,_,jD,X,hX,rfl⟩:=fv;exact acH h ho hX ht zB gI hs hq
    simp only[oS]at fv;subst fv;cases hQ
   simp only[oS]at fv;subst fv;cases hQ
  simp only[oS]at fv;subst fv;cases hQ
 ·next t x i ho=>
  simp only[oD,oB,oP,fw]at fv;obtain⟨d,hd,_,_,fv⟩:=fv
  split at fv
  ·next ht=>
   simp only[oB,oS]at fv;obtain⟨X,hX,I,hI,rfl⟩:=fv;cases hQ
  simp only[oS]at fv;subst fv;cases hQ
 ·next x i ho=>
  simp only[oD,oB,oP,oS,fw]at fv;obtain⟨d,hd,_,_,X,hX,rfl⟩:=fv;exact ac4 h ho hX hq
 ·next t l ps ho=>
  simp only[oD,oB,oP,oS,fw]at fv;obtain⟨d,hd,_,_,e,he,s,hs,z,hz,L,hL,rfl⟩:=fv;rw[Q9]at hQ;cases hQ
 ·next t ps ho=>
  simp only[oD,oB,oP,fw]at fv;obtain⟨d,hd,_,_,fv⟩:=fv
  split at fv
  ·next fs ht=>
   simp only[oB,oS]at fv;obtain⟨mw,VO,z,hz,L,hL,rfl⟩:=fv;cases hQ
  simp only[oB,oS,fw]at fv;obtain⟨s,hs,_,_,z,hz,L,hL,rfl⟩:=fv;cases hQ;simp only[oS]at fv;subst fv;cases hQ
 ·next t ho=>
  simp only[oD,oB,oP,fw]at fv;obtain⟨d,hd,_,_,fv⟩:=fv
  split at fv;simp only[oS]at fv;subst fv;cases hQ;simp only[oS]at fv;subst fv;cases hQ
 ·next t x i ok ho=>
  simp only[oD,oB,oP,fw]at fv;obtain⟨d,hd,_,_,fv⟩:=fv
  split at fv
  ·split at fv
   simp only[oB,oS]at fv;obtain⟨X,hX,I,hI,rfl⟩:=fv;cases hQ;simp only[oS]at fv;subst fv;cases hQ
  simp only[oS]at fv;subst fv;cases hQ
 ·next t m k v ho=>
  simp only[oD,oB,oP,fw]at fv;obtain⟨_,hd,fv⟩:=fv
  split at fv
  ·split at fv
   simp only[oB,oS]at fv;obtain⟨M,hM,X,hX,Y,hY,rfl⟩:=fv;cases hQ;simp only[oS]at fv;subst fv;cases hQ
  simp only[oS]at fv;subst fv;cases hQ
 ·next t m k v ho=>
  simp only[oD,oB,oP,fw]at fv;obtain⟨_,hd,fv⟩:=fv
  split at fv
  ·split at fv
   simp only[oB,oS]at fv;obtain⟨M,hM,X,hX,Y,hY,rfl⟩:=fv;cases hQ;simp only[oS]at fv;subst fv;cases hQ
  simp only[oS]at fv;subst fv;cases hQ
 ·next c ho=>
  split at fv
  ·next f hc=>
   simp only[oD,oB,fw]at fv;obtain⟨_,_,_,hl,Xs,uC,fv⟩:=fv
   split at fv
   ·split at fv
    simp only[oP,oS]at fv;subst fv;cases hQ;cases fv
   split at fv
   ·split at fv
    simp only[oP,oS]at fv;subst fv;cases hQ;cases fv
   split at fv
   ·split at fv
    simp only[oP,oS]at fv;subst fv;cases hQ;cases fv
   split at fv
   ·split at fv
    simp only[oP,oS]at fv;subst fv;cases hQ;cases fv
   split at fv
   ·simp only[oP,oS]at fv;subst fv;cases wv<;>cases hQ
   simp only[oP,oS]at fv;subst fv;cases hQ
  ·next x _ hc=>
   simp only[oD,oB,oP,oS,fw]at fv;obtain⟨_,_,_,hl,X,hX,Xs,uC,rfl⟩:=fv;cases wv<;>cases hQ
  ·next hc=>
   simp only[oD,oB,fw]at fv;obtain⟨d,hd,_,_,fv⟩:=fv
   split at fv
   ·next x t ha nA=>
    have ri:c.args= #[x]:=by apply aS;simpa using ha
    have og:c.argTypes= #[t]:=by apply aS;simpa using nA
    split at fv<;>simp only[oB,oP,oS]at fv;obtain⟨X,hX,rfl⟩:=fv;cases hQ;obtain⟨X,hX,rfl⟩:=fv;exact acK h ho hc ri og hX (by assumption) hq;obtain⟨X,hX,rfl⟩:=fv;cases hQ;subst fv;cases hQ
   cases fv
  ·next hc=>
   simp only[oD,oB,fw]at fv;obtain⟨d,hd,_,_,fv⟩:=fv
   split at fv
   ·next x y t u ha nA=>
    have ri:c.args= #[x,y]:=by apply aS;simpa using ha
    simp only[oB,oP,oS]at fv;obtain⟨X,hX,Y,hY,rfl⟩:=fv;cases hQ
   cases fv
  ·next hc=>
   simp only[oD,oB,fw]at fv;obtain⟨d,hd,_,_,fv⟩:=fv
   split at fv
   ·next x y t u ha nA=>
    have ri:c.args= #[x,y]:=by apply aS;simpa using ha
    simp only[oB,oP,oS]at fv;obtain⟨X,hX,Y,hY,rfl⟩:=fv;cases hQ
   cases fv
  ·next hc=>
   simp only[oD,oB,fw]at fv;obtain⟨d,hd,_,_,fv⟩:=fv
   split at fv
   ·split at fv<;>simp only[oB,oP,oS]at fv
    ·obtain⟨i,hi,_,_,z,hz,X,hX,Y,hY,rfl⟩:=fv;cases wv<;>first|cases hQ|(by_cases h3:i.size=3;(rw[t6,an h3]at hQ;cases hQ);(rw[t6,al h3]at hQ;cases hQ))
    subst fv;cases hQ
   cases fv
  ·next hc=>
   simp only[oD,oB,fw]at fv;obtain⟨_,_,fv⟩:=fv
   split at fv
   ·next x y t u ha nA=>
    have ri:c.args= #[x,y]:=by apply aS;simpa using ha
    have og:c.argTypes= #[t,u]:=by apply aS;simpa using nA
    split at fv<;>simp only[oB,oP,oS,fw]at fv;obtain⟨s,hs,_,A0,X,hX,Y,hY,rfl⟩:=fv;cases hQ;subst fv;cases hQ
   cases fv
  simp only[oP,oS]at fv;subst fv;cases hQ
 simp only[oP,oS]at fv;subst fv;cases hQ
variable {ops:Array Oper}{R:List RO}
def FU{s:St}{cs:List lz}:ml P cs s→∀c∈cs,pk P c s:=by
 induction cs with
 |nil=>intro _ c hc;cases hc
 |cons c cs ih=>
  intro h x hx;simp only[ml]at h;obtain⟨h1,h2⟩:=h;rcases aj.1 hx with e|hx
  rw[e];exact h1;exact ih h2 x hx
def j6(ops:Array Oper)(i:Nat):Option Nat:=(ops[i]?).bind (·.dst)
def mX(ops:Array Oper)(val:Nat→Value):List Nat→Act→Act
 | [],a=>a
 |i::L,a=>(mX ops val L a).put (j6 ops i) (val i)
def wG(ops:Array Oper)(e:Nat):List Nat:=(List.range e).reverse.foldl (fun acc i=>if(e::acc).any (fun k=>(fM ops k).contains i)then i::acc else acc) []
def LN{a:Act}{d:Option Nat}{u:Value}:(a.put d u).put d v=a.put d v:=by
 cases d with
 |none=>rfl
 |some d=>simp[Act.put]
variable {val:Nat→Value}
def Db{d:Option Nat}:∀{L:List Nat} {a:Act},(∀j∈L,∀t,d=some t→j6 ops j≠some t)→mX ops val L (a.put d v)=(mX ops val L a).put d v
 | [],_,_=>rfl
 |i::L,a,h=>by
  simp only[mX];rw[Db (fun j hj=>h j (by simp[hj]))];exact Act.put_comm _ v (val i) fun t ht=>h i (by simp) t ht
def Dh{val:Nat→Value}{v:Value}:∀{L:List Nat} {a:Act},L.Nodup→i∈L→(∀j∈L,j≠i→∀t,j6 ops i=some t→j6 ops j≠some t)→
  (mX ops val L a).put (j6 ops i) v=mX ops val (L.erase i) (a.put (j6 ops i) v)
 |j::L,a,hn,hi,h=>by
  rw[aP]at hn
  by_cases e:j=i
  ·subst e;simp only[mX,List.erase_cons_head];rw[LN,Db];intro k hk t ht;exact h k (by simp[hk]) (fun e=>hn.1 (e▸hk)) t ht
  have hi':i∈L:=by rcases aj.1 hi with h|h;exact absurd h.symm e;exact h
  rw[List.erase_cons_tail (by simpa using e)];simp only[mX];rw[←Dh hn.2 hi' (fun k hk=>h k (by simp[hk]))];exact(Act.put_comm _ v (val j) fun t ht=>h j (by simp) e t ht).symm
def zK{o:Oper}(hs:∀cs b,o.op≠.select cs b):∀{L:List Nat} {a:Act},(∀j∈L,∀d,j6 ops j=some d→d∉o.looksAt ops)→execOp (mX ops val L a).eval o=execOp a.eval o
 | [],_,_=>rfl
 |i::L,a,h=>by
  simp only[mX];rw[execOp_put (ops:=ops) o hs _ _ _ (h i (by simp))];exact zK hs fun j hj=>h j (by simp[hj])
def Ad{Q:Exit→Act→World→Prop}{val:Nat→Value}{j:Nat}{oj:Oper}(yS:Region.noSelect ops=true)(hj:ops[j]?=some oj)(hQ:∀c a w,¬Q (.panic c) a w){w:World}:∀{L:List Nat} {a:Act} {K:Act→World→Prop},
  (∀l∈L,∃ol,ops[l]?=some ol∧ol.apart ops oj=true∧ol.guard=none)→wpOp P ops Q j K (mX ops val L a) w→wpOp P ops Q j (fun a' w'=>K (mX ops val L a') w') a w
 | [],_,_,_,h=>h
 |i::L,a,K,hL,h=>by
  obtain⟨ol,h1,h2,h3⟩:=hL i (by simp);simp only[mX]at h⊢;have hd:j6 ops i=ol.dst:=by simp[j6,h1]
  rw[hd]at h⊢;have:=wpOp_putIf (S:=fun _=>False) (oi:=ol) hj h2 (fun cs b=>dV yS i ol cs b h1) (fun cs b=>dV yS j oj cs b hj) (fun c a w hq=>absurd hq (hQ _ _ _)) (.inl ⟨by simp[Region.wanted,h3],fun _ hf=>hf.elim⟩) h;exact dT (fun a' w' hk=>hk.2) (Ad yS hj hQ (fun l hl=>hL l (by simp[hl])) this)
def TD{X:List Nat}{e:Nat}(hc:∀i∈X,∀j∈fM ops i,j∈X)(hw:∀j∈fM ops e,j∈X):∀i∈wG ops e,i∈X:=by
 have key:∀(l acc:List Nat),(∀i∈acc,i∈X)→∀i∈l.foldl (fun acc i=>if(e::acc).any (fun k=>(fM ops k).contains i)then i::acc else acc) acc,i∈X:=by
  intro l
  induction l with
  |nil=>intro acc h;exact h
  |cons x l ih=>
   intro acc h;simp only[List.foldl_cons];refine ih _ ?_
   split
   ·next hx=>
    rw[eh]at hx;obtain⟨k,hk,tb⟩:=hx;rw[bM,bn]at tb;intro i hi;rcases aj.1 hi with rfl|hi
    ·rcases aj.1 hk with rfl|hk
     exact hw _ tb;exact hc k (h k hk) _ tb
    exact h i hi
   exact h
 exact key _ [] (by simp)
def kj.ready{X:List Nat}{fE:Array Bool}(h:kj P ops R X fE)(hi:i<ops.size)(hm:i∉X)(hw:∀j∈fM ops i,j∈X):i∈Region.ready .any ops fE:=by
 rw[dH];refine⟨?_,ops[i],by simp[hi],fun x hx hb=>?_⟩
 ·cases hc:fE.getD i true with
  |false=>rfl
  |true=>exact absurd ((h.li i hi).1 hc) hm
 have VU:x.on∈fM ops i:=by
  simp only[fM,c9 hi,mT];exact aR.2 ⟨x,aX.2 ⟨by simpa using hx,hb⟩,rfl⟩
 have l9:=hw _ VU;have:=(h.li x.on (h.lt _ l9)).2 l9;rw[bD]at this⊢;have hs:x.on<fE.size:=by rw[h.size];exact h.lt _ l9
 rw[c9 hs]at this⊢;exact this
structure BS (ops:Array Oper) (R:List RO) (L:List Nat):Prop where
 op:∀l∈L,∃ol r,ops[l]?=some ol∧R[l]?=some r∧ol.guard=none∧r.g=none∧r.op.GR=true
 look:∀l∈L,∀ol,ops[l]?=some ol→∀j∈L,j∈fM ops l∨∀d,j6 ops j=some d→d∉ol.looksAt ops
 inj:∀i∈L,∀j∈L,j≠i→∀t,j6 ops i=some t→j6 ops j≠some t
def Om(h:r.GR=true):∃d,r.dst=some d:=by cases r<;>first|exact⟨_,rfl⟩|cases h
def wI(ops:Array Oper)(R:List RO):Nat→List Nat→List Nat→KA
 |0,Lc,_=>.br (Lc.map fun i=>(R.getD i default).op) []
 |m+1,Lc,es=>.br (Lc.map fun i=>(R.getD i default).op) ((es.filter fun e=>es.all fun x=>!(fM ops e).contains x).map fun e=>(R.getD e default,wI ops R m (Lc.filter fun l=>!(wG ops e).contains l) (es.erase e)))
variable {K:Exit→St→Prop}
def zY{s:St}{q:Prop}{f:Nat→RO×KA}:∀{l:List Nat},qb P (l.map f) s K q→∀i∈l,gl P [(f i).1] s (fun _ s'=>pn P (f i).2 s' K)
 | [],_,i,hi=>by cases hi
 |x::l,h,i,hi=>by
  simp only[lC]at h;rw[show f x=((f x).1,(f x).2)from rfl]at h;simp only[qb]at h;rcases aj.1 hi with rfl|hi
  exact h.1;exact zY h.2 i hi
def FY{K:Exit→St→Prop}{L:List Nat}(hR:∀(i:Nat) (o:Oper),ops[i]?=some o→∃r,R[i]?=some r∧iO P wv n ops o=some r)
  (lj:∀i,∀j∈fM ops i,j<i) (yS:Region.noSelect ops=true) (hL:BS ops R L):∀(fuel:Nat)(es:List Nat)(Pd Lc X:List Nat)(val:Nat→Value)(fE:Array Bool)(s:St)(a:Act)(w:World),
  kj P ops R X fE→fuel+X.length=ops.size→(∀j,j<ops.size→(j∉X↔j∈es∨j∈Pd))→es.Nodup→(∀e∈es,e<ops.size∧e∉Pd)→Pd.Nodup→(∀i∈Pd,i∈Lc)→(∀i∈Lc,i∈L)→
  (∀l∈Lc,∃e∈es,l∈wG ops e)→(∀l∈L,∀e∈es,l∈fM ops e∨∀ol oe,ops[l]?=some ol→ops[e]?=some oe→ol.apart ops oe=true)→
  ju n0 S0 M0 w0 s (mX ops val Pd a) w→s.n=n→pn P (wI ops R es.length Lc es) s K→wpAny P .any ops (fun e a w=>e=.normal∧kU n0 S0 M0 w0 n K e a w) fuel fE a w
 |fuel,[],Pd,Lc,X,val,fE,s,a,w,hc,hf,wV,_,_,_,P7,_,wT,_,hs,hn,hq=>by
  have hLc:Lc=[]:=dS.2 fun i hi=>by obtain⟨e,he,_⟩:=wT i hi;cases he
  have hPd:Pd=[]:=dS.2 fun i hi=>by have:=P7 i hi;rw[hLc]at this;cases this
  subst hPd;simp only[lZ,wI,pn,qb,cH]at hq;refine wpAny_done ?_ ⟨rfl,s,hn,hq.2,hs⟩ fuel;rw[dS];intro i hi;obtain⟨_,h2,o,ho,_⟩:=hc.next hi;have:=(wV i (bh.1 ho).1).1 h2;simp at this
 |0,e::es,Pd,Lc,X,val,fE,s,a,w,hc,hf,wV,_,qp,_,_,_,_,_,_,_,_=>by
  have he:=(qp e (by simp)).1;have h1:=ky hc.nd hc.lt (by omega) e he;exact absurd h1 ((wV e he).2 (.inl (by simp)))
 |fuel+1,e::es,Pd,Lc,X,val,fE,s,a,w,hc,hf,wV,zC,qp,ii,P7,hLL,wT,Cx,hs,hn,hq=>by
  have Ck:=(qp e (by simp)).1;simp only[lK,wI,pn]at hq;refine⟨fun h0=>?_,fun i hi=>?_⟩
  ·exfalso;have gF:∀i,i<ops.size→i∈X:=by
    intro i
    induction i using Nat.strongRecOn with
    |ind i ih=>
     intro hi;refine cN fun gw=>?_;have:=hc.ready hi gw fun j hj=>ih j (lj i j hj) (by have:=lj i j hj;omega);rw[h0]at this;cases this
   exact(wV e Ck).2 (.inl (by simp)) (gF e Ck)
  obtain⟨h1,h2,o,ho,h3⟩:=hc.next hi;have his:=(bh.1 ho).1;obtain⟨r,hr,fv⟩:=hR i o ho;have fZ:=fv;unfold iO at fZ;simp only[oD,oB,fw]at fZ;obtain⟨op,wR,_,uv,_,hdn,fZ⟩:=fZ;have my:r.op=op:=by
   split at fZ
   ·simp only[oP,oS]at fZ;rw[←fZ]
   simp only[oB,oP,oS]at fZ;obtain⟨_,_,_,_,fZ⟩:=fZ;rw[←fZ]
  have hdo:j6 ops i=o.dst:=by simp[j6,ho]
  by_cases hiP:i∈Pd
  ·
   have H1:=hLL i (P7 i hiP);obtain⟨ol,r',e1,e2,hgd,hg,rO⟩:=hL.op i H1;rw[ho]at e1;injection e1 with e1;subst e1;rw[hr]at e2;injection e2 with e2;subst e2;have hck:pk P r.op s:=by
    have:=FU hq.1 r.op (aR.2 ⟨i,P7 i hiP,by simp[bi,hr]⟩);exact this
   rw[my]at hck rO;obtain⟨d,hd⟩:=Om rO;unfold pk at hck;rw[hd]at hck;simp only at hck;have hod:o.dst=some d:=by rw[←uv];exact hd
   obtain⟨g,hu,hv⟩:=hs.gh;have oO:∀t,o.dst=some t→t<s.n:=by
    intro t ht;rw[hn];rw[ht]at hdn;simpa using hdn
   obtain⟨av,v,gk,iF,⟨Pw,_⟩⟩:=wh wR rO ⟨hs,hu,hv,oO⟩ hck;have ahU:∀cs b,o.op≠.select cs b:=fun cs b=>dV yS i o cs b ho;have hex:execOp (mX ops val Pd a).eval o=execOp a.eval o:=zK ahU fun j hj t ht=>by
    rcases hL.look i H1 o ho j (hLL j (P7 j hj))with h4|h4
    have hjX:=h3 j h4;exact absurd hjX ((wV j (hc.lt j hjX)).2 (.inr hj));exact h4 t ht
   rw[hex]at gk;have nB:ju n0 S0 M0 w0 s (mX ops val (Pd.erase i) (a.put o.dst v)) w:=by
    have x:=gW hs hu hv oO iF;rw[←hdo,Dh ii hiP (fun j hj gw t ht=>hL.inj i H1 j (hLL j (P7 j hj)) gw t ht),hdo]at x;rw[hod]at x;rw[hod];refine x.eqv rfl ?_ (List.Perm.refl _);intro t;simp only[St.kl,St.set,lk]
    split
    ·next h=>subst h;exact Pw.symm
    rfl
   unfold wpOp;rw[ho];simp only;rw[an (by simp[Region.wanted,hgd])];refine .inl ?_;unfold Oper.wp;rw[gk];refine FY hR lj yS hL fuel (e::es) (Pd.erase i) Lc (i::X) val _ s _ w h1 (by simp only[lK];omega) ?_ zC (fun x hx=>⟨(qp x hx).1,fun hm=>(qp x hx).2 (List.mem_of_mem_erase hm)⟩) (ii.erase i) (fun j hj=>P7 j (List.mem_of_mem_erase hj)) hLL wT Cx nB hn (by simp only[lK,wI,pn];exact hq);intro j hj;rw[ii.mem_erase_iff];have:=wV j hj;constructor
   ·intro hx;rcases this.1 (fun h=>hx (bt _ h))with h4|h4
    exact .inl h4;exact .inr ⟨fun e=>hx (by simp[e]),h4⟩
   rintro(h4|⟨h4,h5⟩) hx
   ·rcases aj.1 hx with rfl|hx
    exact(qp _ h4).2 hiP;exact this.2 (.inl h4) hx
   rcases aj.1 hx with rfl|hx
   exact h4 rfl;exact this.2 (.inr h5) hx
  ·
   have UR:i∈e::es:=((wV i his).1 h2).elim (fun h=>h) fun h4=>absurd h4 hiP;have ll:R.getD i default=r:=by simp[bi,hr]
   have hq2:=zY (f:=fun e'=>(R.getD e' default,wI ops R es.length (Lc.filter fun l=>!(wG ops e').contains l) ((e::es).erase e'))) hq.2 i (aX.2 ⟨UR,by
    rw[aY];intro x hx;simp only[ce,bM,cI];intro hm;have hxX:=h3 x hm;exact(wV x (hc.lt x hxX)).2 (.inl hx) hxX⟩)
   simp only[ll]at hq2;have ov:match r.g with|none=>oq P r.op s (fun s'=>pn P (wI ops R es.length (Lc.filter fun l=>!(wG ops i).contains l) ((e::es).erase i)) s' K)|some (t,b)=>nK (s.get t) b (oq P r.op s (fun s'=>pn P (wI ops R es.length (Lc.filter fun l=>!(wG ops i).contains l) ((e::es).erase i)) s' K)) (pn P (wI ops R es.length (Lc.filter fun l=>!(wG ops i).contains l) ((e::es).erase i)) (s.kl r.op.dst (.jS [])) K):=by
    obtain⟨gg,op'⟩:=r;cases gg with
    |none=>exact hq2
    |some x=>exact hq2
   rw[←hn]at fv;have yR:=nM (Q':=fun e a w=>e=.normal∧kU n0 S0 M0 w0 n K e a w) fv hs ov;have ahV:∀l∈Pd,∃ol,ops[l]?=some ol∧ol.apart ops o=true∧ol.guard=none:=by
    intro l hl;obtain⟨ol,rl,e1,_,hgd,_,_⟩:=hL.op l (hLL l (P7 l hl));rcases Cx l (hLL l (P7 l hl)) i UR with h4|h4
    have hx:=h3 l h4;exact absurd hx ((wV l (hc.lt l hx)).2 (.inr hl));exact⟨ol,e1,h4 ol o e1 ho,hgd⟩
   have step:wpOp P ops (fun e a w=>e=.normal∧kU n0 S0 M0 w0 n K e a w) i (ip n0 S0 M0 w0 s.n (fun s'=>pn P (wI ops R es.length (Lc.filter fun l=>!(wG ops i).contains l) ((e::es).erase i)) s' K)) (mX ops val Pd a) w:=by
    unfold wpOp;rw[ho];simp only
    split
    ·next hw=>exact .inl (yR.1 hw)
    next hw=>exact yR.2 (by simpa using hw)
   refine dT ?_ (Ad yS ho (fun c a w h=>by simp at h) ahV step);rintro a' w' ⟨s',yK,Ca,nB⟩;have td:((e::es).erase i).Nodup:=zC.erase i;have hmE:∀j,j∈(e::es).erase i↔j≠i∧j∈e::es:=fun j=>zC.mem_erase_iff;have hlen:es.length=((e::es).erase i).length:=by rw[List.length_erase_of_mem UR];rfl
   refine FY hR lj yS hL fuel ((e::es).erase i) Pd _ (i::X) val _ s' a' w' h1 (by simp only[lK];omega) ?_ td (fun x hx=>qp x ((hmE x).1 hx).2) ii ?_ (fun j hj=>hLL j (aX.1 hj).1) ?_ (fun l hl x hx=>Cx l hl x ((hmE x).1 hx).2) nB (yK.trans hn) (by rw[←hlen];exact Ca)
   ·intro j hj;have:=wV j hj;rw[hmE];constructor
    ·intro hx;rcases this.1 (fun h=>hx (bt _ h))with h4|h4
     ·exact .inl ⟨fun e=>hx (by simp[e]),h4⟩
     exact .inr h4
    rintro h4 hx;rcases aj.1 hx with rfl|hx
    ·rcases h4 with h4|h4
     exact h4.1 rfl;exact hiP h4
    exact this.2 (h4.imp (fun h=>h.2) id) hx
   ·intro j hj;refine aX.2 ⟨P7 j hj,?_⟩;simp only[ce,bM,cI];intro hm;have hx:=TD hc.closed h3 j hm;exact(wV j (hc.lt j hx)).2 (.inr hj) hx
   intro l hl;obtain⟨zb,wO⟩:=aX.1 hl;simp only[ce,bM,cI]at wO;obtain⟨e',he',hle⟩:=wT l zb;exact⟨e',(hmE e').2 ⟨fun h=>wO (h▸hle),he'⟩,hle⟩
def Uh{X:List Nat}(h1:X.Nodup)(h2:∀i∈X,i<ops.size)(h3:∀i∈X,∀j∈fM ops i,j∈X):∃fE,kj P ops R X fE:=
 ⟨Array.ofFn (n:=ops.size) (fun i=>decide (i.1∈X)),h1,h2,h3,by simp,fun j hj=>by simp[bD,hj]⟩
def wr{p:Nat}:∀{L:List Nat} {a:Act},mX ops val (L++[p]) a=mX ops val L (a.put (j6 ops p) (val p))
 | [],_=>rfl
 |i::L,a=>by simp only[bp,mX];rw[wr]
def xh{val':Nat→Value}:∀{L:List Nat} {a:Act},(∀i∈L,val i=val' i)→mX ops val L a=mX ops val' L a
 | [],_,_=>rfl
 |i::L,a,h=>by simp only[mX];rw[xh fun j hj=>h j (by simp[hj]),h i (by simp)]
variable {L:List Nat}
def Ve{st:St}{V:Nat→Rs}{S N:List Nat}(hd:qD P wv ops R st V S N)(hL:BS ops R L):∀(ps X:List Nat)(a:Act)(w:World),X.Nodup→(∀i∈X,i∈N)→(∀i∈X,∀j∈fM ops i,j∈X)→ps.Pairwise (· <·)→
  (∀i∈ps,i∈N∧i∈L∧i∉X)→(∀i∈ps,∀j∈fM ops i,j∈X∨j∈ps)→ju n0 S0 M0 w0 (fD st (gz R) V X) a w→∃val,ju n0 S0 M0 w0 (fD st (gz R) V (ps.reverse++X)) (mX ops val ps.reverse a) w
 | [],X,a,w,_,_,_,_,_,_,hs=>⟨fun _=>undef,hs⟩
 |p::ps,X,a,w,ii,hXN,lh,PE,Cv,hpw,hs=>by
  obtain⟨hpN,hpL,hpX⟩:=Cv p (by simp);rw[ef]at PE;have gI:∀i∈X,i<ops.size:=fun i hi=>by rw[←hd.len];exact((hd.mem i).1 (hXN i hi)).1
  obtain⟨fE,ad4⟩:=Uh (P:=P) (R:=R) ii gI lh;obtain⟨o,r,ho,hr,hgd,hg,rO⟩:=hL.op p hpL;obtain⟨r',wL,fv⟩:=hd.res p o ho;rw[hr]at wL;injection wL with wL;subst wL;have hw:∀j∈fM ops p,j∈X:=by
   intro j hj;have h1:=hd.lj p j hj;rcases hpw p (by simp) j hj with h2|h2
   exact h2;rcases aj.1 h2 with h3|h3
   omega;have:=PE.1 j h3;omega
  obtain⟨op,wR,my,hQ,uv,oO,⟨g,nl⟩,ll,Er⟩:=ry hd ad4 hXN hpN hr fv hw hpX hs;have gD:=hd.step p r hpN hr;unfold ji at gD;rw[hg]at gD;have ov:=Er gD;rw[my]at ov rO;obtain⟨av,v,gk,iF,Pw,hu0⟩:=wh wR rO nl ov;have hdR:gz R p=op.dst:=by simp[gz,hr,my]
  have hdo:j6 ops p=o.dst:=by simp[j6,ho]
  have ou:ju n0 S0 M0 w0 (fD st (gz R) V (p::X)) (a.put (j6 ops p) v) w:=by
   have x:=gW nl.sat nl.us nl.rep nl.dst iF;have e:fD st (gz R) V (p::X)=jA (fD st (gz R) V X) op.dst (V p):=by simp only[fD];rw[hdR]
   rw[e,hdo,uv];unfold jA;rw[←hu0,jC,←Pw];exact x
  obtain⟨val,hv⟩:=Ve hd hL ps (p::X) (a.put (j6 ops p) v) w (aP.2 ⟨hpX,ii⟩) (fun i hi=>(aj.1 hi).elim (fun e=>e▸hpN) (hXN i))
   (fun i hi j hj=>(aj.1 hi).elim (fun e=>bt _ (hw j (e▸hj))) (fun h=>bt _ (lh i h j hj))) PE.2
   (fun i hi=>⟨(Cv i (by simp[hi])).1,(Cv i (by simp[hi])).2.1,fun h=>(aj.1 h).elim (fun e=>by have:=PE.1 i hi;omega) (Cv i (by simp[hi])).2.2⟩)
   (fun i hi j hj=>(hpw i (by simp[hi]) j hj).elim (fun h=>.inl (bt _ h)) (fun h=>(aj.1 h).elim (fun e=>.inl (by simp[e])) .inr)) ou
  refine⟨fun i=>if i=p then v else val i,?_⟩;have VV:∀i∈ps.reverse,i≠p:=fun i hi=>by have:=PE.1 i (dj.1 hi);omega
  simp only[List.reverse_cons,bz,List.singleton_append];rw[wr,an rfl,xh (val':=val) (fun i hi=>by simp[VV i hi])];exact hv
def Fq{st:St}{V:Nat→Rs}{K:Exit→St→Prop}{S L:List Nat}{e:Nat}{es:List Nat}(hd:qD P wv ops R st V S (NL S R))(hE:EL S R=e::es)(zC:∀x∈es,∃y∈e::es,y∈fM ops x)(yS:Region.noSelect ops=true)
  (hL:BS ops R L) (hLN:∀l∈L,l∈NL S R) (P8:∀l∈L,∃x∈e::es,l∈wG ops x) (Cx:∀l∈L,∀x∈e::es,l∈fM ops x∨∀ol oe,ops[l]?=some ol→ops[x]?=some oe→ol.apart ops oe=true)
  (hup:∀i∈NL S R,i∉L→∀j∈fM ops i,j∉L)
  (PG:∀i∈NL S R,i∉L→lG ops R i=true∨i∈fM ops e∨∃k∈NL S R,k∉L∧i<k∧lG ops R k=false∧i∈fM ops k)
  (wT:pn P (wI ops R (e::es).length L (e::es)) (fD st (gz R) V (NL S R).reverse) K):∀(fuel:Nat)(X:List Nat)(fE:Array Bool)(a:Act)(w:World),
  kj P ops R X fE→(∀i∈X,i∈NL S R)→fuel+X.length=ops.size→ju n0 S0 M0 w0 (fD st (gz R) V X) a w→wpAny P .any ops (fun e a w=>e=.normal∧kU n0 S0 M0 w0 st.n K e a w) fuel fE a w:=by
 have mD:e<ops.size:=by
  have:e∈EL S R:=by rw[hE];simp
  rw[←hd.len];exact(jN.1 this).1
 have heN:e∉NL S R:=by
  have:e∈EL S R:=by rw[hE];simp
  intro h;have h1:=(jN.1 this).2;have h2:=(gG.1 h).2;rw[h1]at h2;cases h2
 have qp:∀x∈e::es,x<ops.size∧x∉NL S R:=by
  intro x hx;rw[←hE]at hx;obtain⟨h1,h2⟩:=jN.1 hx;exact⟨by rw[←hd.len];exact h1,fun h=>by have:=(gG.1 h).2;rw[h2]at this;cases this⟩
 have fin:∀(fuel:Nat)(X:List Nat)(fE:Array Bool)(a:Act)(w:World),kj P ops R X fE→(∀i∈X,i∈NL S R)→fuel+X.length=ops.size→ju n0 S0 M0 w0 (fD st (gz R) V X) a w→(∀i∈NL S R,i∉L→i∈X)→
   wpAny P .any ops (fun e a w=>e=.normal∧kU n0 S0 M0 w0 st.n K e a w) fuel fE a w:=by
  intro fuel X fE a w h hX hl hs gF;have Cv:((NL S R).filter fun i=>decide (i∉X)).Pairwise (· <·):=List.Pairwise.filter _ (lD S R);have UT:∀i,i∈((NL S R).filter fun i=>decide (i∉X))↔i∈NL S R∧i∉X:=fun i=>by simp
  generalize hpe:((NL S R).filter fun i=>decide (i∉X))=ps at Cv UT;obtain⟨val,hv⟩:=Ve hd hL ps X a w h.nd hX h.closed Cv (fun i hi=>by
    obtain⟨h1,h2⟩:=(UT i).1 hi;exact⟨h1,cN fun h3=>h2 (gF i h1 h3),h2⟩)
   (fun i hi j hj => by
    by_cases hx:j∈X;exact .inl hx;exact .inr ((UT j).2 ⟨hd.nw i ((UT i).1 hi).1 j hj,hx⟩)) hs
  have wy:=nr Cv;have ii:(ps.reverse++X).Nodup:=by
   rw[aT];refine⟨(dI _).nodup_iff.2 wy,h.nd,fun x hx y hy e=>?_⟩;subst e;exact((UT x).1 (dj.1 hx)).2 hy
  have hp:(ps.reverse++X).Perm (NL S R).reverse:=(dR ii ((dI _).nodup_iff.2 hd.Cy)).2 fun i=>by
   rw[ax,dj,dj,UT];constructor
   ·rintro(h1|h1);exact h1.1;exact hX i h1
   intro h1
   by_cases hx:i∈X;exact .inr hx;exact .inl ⟨h1,hx⟩
  have nB:ju n0 S0 M0 w0 (fD st (gz R) V (NL S R).reverse) (mX ops val ps.reverse a) w:=by
   refine hv.eqv (by rw[iv,iv]) ?_ ?_
   ·intro t;have x:=je (gR:=st) (V:=V) hd.inj (L:=ps.reverse++X) (t:=t);have y:=je (gR:=st) (V:=V) hd.inj (L:=(NL S R).reverse) (t:=t)
    by_cases he:∃j,j∈ps.reverse++X∧gz R j=some t
    ·obtain⟨j,h1,h2⟩:=he;rw[x.1 j h1 h2,y.1 j (hp.mem_iff.1 h1) h2]
    rw[x.2 fun k hk e=>he ⟨k,hk,e⟩,y.2 fun k hk e=>he ⟨k,hp.mem_iff.2 hk,e⟩]
   rw[iu,iu];exact((hp.flatMap_right _).append_right _).symm
  refine FY hd.res hd.lj yS hL fuel (e::es) ps.reverse L X val fE _ a w h hl ?_ (by rw[←hE];exact(eT fm List.nodup_range)) ?_ ((dI _).nodup_iff.2 wy) ?_ (fun i hi=>hi) P8 Cx nB iv wT
  ·intro j hj;have V1:j<R.length:=by rw[hd.len];exact hj
   rw[←hE,dj,UT];constructor
   ·intro hx;cases hq:S.contains j with
    |true=>exact .inr ⟨gG.2 ⟨V1,hq⟩,hx⟩
    |false=>exact .inl (jN.2 ⟨V1,hq⟩)
   rintro(h1|h1) hx;have h2:=(jN.1 h1).2;have h3:=(gG.1 (hX j hx)).2;rw[h2]at h3;cases h3;exact h1.2 hx
  ·intro x hx;exact⟨(qp x hx).1,fun hm=>(qp x hx).2 ((UT x).1 (dj.1 hm)).1⟩
  intro i hi;obtain⟨h1,h2⟩:=(UT i).1 (dj.1 hi);exact cN fun h3=>h2 (gF i h1 h3)
 intro fuel
 induction fuel with
 |zero=>
  intro X fE a w h hX hl hs;have:=ky h.nd h.lt (by omega) e mD;exact absurd (hX e this) heN
 |succ fuel ih=>
  intro X fE a w h hX hl hs
  by_cases gF:∀i∈NL S R,i∉L→i∈X;exact fin (fuel+1) X fE a w h hX hl hs gF
  have mQ:∀i,i<ops.size→i∉X→(∀j∈fM ops i,j∈X)→i∈Region.ready .any ops fE:=fun i hi hm hw=>h.ready hi hm hw
  by_cases hF:∃f∈NL S R,f∉X∧lG ops R f=true∧∀j∈fM ops f,j∈X
  ·obtain⟨f,Es,K1,il,Et⟩:=hF;have hfs:f<ops.size:=by rw[←hd.len];exact(gG.1 Es).1
   have Cd:=mQ f hfs K1 Et;obtain⟨h1,h2,o,ho,h3⟩:=h.next Cd;obtain⟨r,hr,fv⟩:=hd.res f o ho;unfold lG at il;rw[ho,hr]at il;simp only[bA,d9,aY,b9]at il;obtain⟨⟨H0,il⟩,Cx⟩:=il;obtain⟨op,wR,my,hQ,uv,oO,⟨g,nl⟩,ll,Er⟩:=ry hd h hX Es hr fv Et K1 hs;have gD:=hd.step f r Es hr;unfold ji at gD;rw[H0]at gD;have ov:=Er gD;rw[my]at ov il;obtain⟨v,hv⟩:=nz wR il nl ov;have zz:o.guard=none:=by
    have fZ:=fv;unfold iO at fZ;simp only[oD,oB,fw]at fZ;obtain⟨_,_,_,_,_,_,fZ⟩:=fZ
    split at fZ
    ·assumption
    simp only[oB,oP,oS]at fZ;obtain⟨_,_,_,_,fZ⟩:=fZ;rw[←fZ]at H0;cases H0
   have wS:Region.wanted o (yielded ops a.tmps)=true:=by simp[Region.wanted,zz]
   have nm:ju n0 S0 M0 w0 (fD st (gz R) V (f::X)) (a.put o.dst v) w:=by
    have:=pH (Q:=fun _ _ _=>False) hd h hX Es ho hr fv Et K1 hs;unfold wpOp at this;rw[ho]at this;simp only[wS,aK]at this;rcases this with h4|⟨_,a',w',h4⟩
    unfold Oper.wp at h4;rw[hv w]at h4;exact h4;exact h4.elim
   refine wpAny_first ho (dV yS) (fun c a w hh=>absurd hh.1 (by simp)) fuel fE a w ?_ Cd (.inl ⟨wS,hv⟩) (ih (f::X) _ _ w h1 (fun i hi=>(aj.1 hi).elim (fun e=>e▸Es) (hX i)) (by simp only[lK];omega) nm);intro j oj hj gw gZ kZ;have GO:=(bh.1 hj).1;have:=Cx j GO;rw[hj]at this;simp only[cm,bB,gw,dK,bM,bn]at this;rcases this with h4|h4|h4
   exact absurd ((h.li j GO).2 (Et j h4)) (by rw[gZ];simp);simp only[fM,hj,mT]at h4;obtain⟨x,hx,hxe⟩:=aR.1 h4;obtain⟨za,Cw⟩:=aX.1 hx;exact absurd hxe (kZ x (by simpa using za) Cw);exact h4
  have yT:(∀j∈fM ops e,j∈X)→False:=by
   intro hw;have hnf:∀m i,i∈NL S R→i∉L→R.length-i≤m→lG ops R i=false→i∈X:=by
    intro m
    induction m with
    |zero=>intro i hi _ hm _;have:=(gG.1 hi).1;omega
    |succ m ihm=>
     intro i hi H1 hm il;rcases PG i hi H1 with h1|h1|⟨k,hk,hkL,h1,h2,h3⟩
     rw[il]at h1;cases h1;exact hw i h1;exact h.closed k (ihm k hk hkL (by omega) h2) i h3
   refine gF ?_;intro i
   induction i using Nat.strongRecOn with
   |ind i PI=>
    intro hi H1;cases il:lG ops R i with
    |false=>exact hnf _ i hi H1 (aU _) il
    |true=>
     refine cN fun gw=>hF ⟨i,hi,gw,il,fun j hj=>PI j (hd.lj i j hj) (hd.nw i hi j hj) (hup i hi H1 j hj)⟩
  refine⟨fun h0=>?_,fun i hi=>?_⟩
  ·exfalso;refine gF ?_;intro i
   induction i using Nat.strongRecOn with
   |ind i PI=>
    intro hi H1;refine cN fun gw=>?_;have:=mQ i (by rw[←hd.len];exact(gG.1 hi).1) gw fun j hj=>PI j (hd.lj i j hj) (hd.nw i hi j hj) (hup i hi H1 j hj);rw[h0]at this;cases this
  obtain⟨h1,h2,o,ho,h3⟩:=h.next hi;have his:=(bh.1 ho).1;have P6:i∈NL S R:=by
   have Ld:i<R.length:=by rw[hd.len];exact his
   refine gG.2 ⟨Ld,?_⟩;cases hq:S.contains i with
   |true=>rfl
   |false=>
    exfalso;have hm:i∈e::es:=by rw[←hE];exact jN.2 ⟨Ld,hq⟩
    rcases aj.1 hm with rfl|hm
    exact yT h3;obtain⟨y,hy,hyw⟩:=zC i hm;have pZ:y∈EL S R:=by rw[hE];exact hy
    have h4:=(gG.1 (hX _ (h3 _ hyw))).2;rw[(jN.1 pZ).2]at h4;cases h4
  obtain⟨r,hr,fv⟩:=hd.res i o ho;refine dT ?_ (pH hd h hX P6 ho hr fv h3 h2 hs);intro a' w' nB;exact ih (i::X) _ a' w' h1 (fun j hj=>(aj.1 hj).elim (fun e=>e▸P6) (hX j)) (by simp only[lK];omega) nB
def OX(ops:Array Oper)(R:List RO)(S:List Nat)(e:Nat):List Nat:=
 let A:=wG ops e
 let B:=(List.range R.length).foldl (fun acc i=>if A.contains i||(lG ops R i&&(fM ops i).all (fun j=>acc.contains j))then i::acc else acc) []
 (NL S R).filter fun i=>!B.contains i
def HF(ops:Array Oper)(R:List RO)(L es:List Nat)(l:Nat)(ol:Oper)(r:RO):Bool:=
 ol.guard.isNone&&r.g.isNone&&r.op.GR&&
  (L.all fun j=>(fM ops l).contains j||(match j6 ops j with|some d=>!(ol.looksAt ops).contains d|none=>true))&&
  (L.all fun j=>j==l||(match j6 ops l with|some d=>j6 ops j !=some d|none=>true))&&
  (es.all fun x=>(fM ops x).contains l||(match ops[x]? with|some ox=>ol.apart ops ox|none=>true))
def GY(ops:Array Oper)(R:List RO)(S L es:List Nat):Bool:=
 L.all fun l=>S.contains l&&decide (l<R.length)&&(match ops[l]?,R[l]? with
  |some ol,some r=>HF ops R L es l ol r
  |_,_=>false)
def Wy(ops:Array Oper)(R:List RO):List RO:=(NL (BU ops R) R).map fun i=>R.getD i default
def BB(ops:Array Oper)(R:List RO):Bool:=
 let S:=BU ops R
 yy (R.filterMap (·.op.dst))&&(R.length==ops.size)&&Region.noSelect ops&&
 match EL S R with
 | []=>false
 |e::es=>
  let L:=OX ops R S e
  (es.all fun x => (e :: es).any fun y => (fM ops x).contains y) && (L.all fun l => (e :: es).any fun x => (wG ops x).contains l) && GY ops R S L (e :: es) && (List.range R.length).all fun i =>
   (fM ops i).all (· < i) && (!S.contains i || (s6 R i && (fM ops i).all (fun j => S.contains j) && (match R[i]? with | some r => r.jU.all (nI ops R i) | none => true) &&
    (L.contains i||((fM ops i).all (fun j=>!L.contains j)&&(lG ops R i||(fM ops e).contains i||(List.range R.length).any fun k=>decide (i<k)&&S.contains k&& !L.contains k&& !lG ops R k&&(fM ops k).contains i)))))
def W6(ops:Array Oper)(R:List RO):KA:=
 match EL (BU ops R) R with
 | []=>.br [] []
 |e::es=>wI ops R (e::es).length (OX ops R (BU ops R) e) (e::es)
def DU{st:St}{K:Exit→St→Prop}{id:Nat}{a:Act}{w:World}(hm:Mx P)(hd:BB ops R=true)
  (hR:ops.toList.mapM (iO P wv st.n ops)=some R) (hs:ju n0 S0 M0 w0 st a w) (hq:gl P (Wy ops R) st (fun _ s=>pn P (W6 ops R) s K)):(Code.region id ops true).wp P (kU n0 S0 M0 w0 st.n K) a w:=by
 refine cG (Q:=fun e a w=>e=.normal∧kU n0 S0 M0 w0 st.n K e a w) (ed hm ?_) (fun e a w h=>h.2);unfold BB at hd;unfold Wy W6 at hq;generalize BU ops R=S at hd hq;simp only[bA,bB]at hd;obtain⟨⟨⟨d1,d2⟩,d3⟩,hd⟩:=hd;cases hE:EL S R with
 |nil=>rw[hE]at hd;cases hd
 |cons e es=>
  rw[hE]at hd hq;simp only at hd hq;generalize OX ops R S e=L at hd hq;simp only[bA,aY,b9,bn]at hd;obtain⟨⟨⟨ahW,ahX⟩,Pe⟩,gF⟩:=hd;have zC:∀x∈es,∃y∈e::es,y∈fM ops x:=fun x hx=>by
   have:=ahW x hx;rw[eh]at this;obtain⟨y,h1,h2⟩:=this;exact⟨y,h1,by simpa using h2⟩
  have P8:∀l∈L,∃x∈e::es,l∈wG ops x:=fun x hx=>by
   have:=ahX x hx;rw[eh]at this;obtain⟨y,h1,h2⟩:=this;exact⟨y,h1,by simpa using h2⟩
  have hNQ:∀r∈(NL S R).map (fun i=>R.getD i default),r.op.sq=true:=by
   intro r hr;obtain⟨i,hi,rfl⟩:=aR.1 hr;obtain⟨h1,h2⟩:=gG.1 hi;have h3:=(gF i h1).2;rw[h2]at h3;simp only[bT,ae,bA]at h3;have h4:=h3.1.1.1;simpa[s6,bi,h1]using h4
  obtain⟨rl,s',hx,hK,hl⟩:=ly hNQ hq;obtain⟨g,hu,hv⟩:=hs.gh;have ii:=nr (lD S R);have hV:(NL S R).map (fun i=>rl.getD ((NL S R).idxOf i) (.any,[]))=rl:=by
   apply eN
   simp at hl;simp[hl];intro p h1 h2;have hp:p<(NL S R).length:=by simpa using h1
   simp[bi,fo ii p hp,h2]
  generalize hVd:(fun i=>rl.getD ((NL S R).idxOf i) ((.any,[]):Rs))=V at hV;have hD:∀i∈NL S R,gz R i=(R.getD i default).op.dst:=by
   intro i hi;have gI:=(gG.1 hi).1;simp[gz,bi,gI]
  obtain⟨e1,rO⟩:=W1 (D:=gz R) (V:=V) (gR:=st) (L:=[]) hD hx rfl hV;simp only[aB]at e1 rO;have rj:∀{i:Nat} {r:RO},R[i]?=some r→i<R.length:=fun h=>(bF.1 h).1;have wA:∀i,∀j∈fM ops i,j<i:=by
   intro i j hj
   by_cases hi:i<R.length;exact(gF i hi).1 j hj
   have:ops[i]?=none:=by simp;omega
   simp[fM,this]at hj
  have hN:∀i∈NL S R,((s6 R i=true∧(fM ops i).all (fun j=>S.contains j)=true)∧(match R[i]? with|some r=>r.jU.all (nI ops R i)|none=>true)=true)∧
    (L.contains i||((fM ops i).all (fun j=>!L.contains j)&&(lG ops R i||(fM ops e).contains i||(List.range R.length).any fun k=>decide (i<k)&&S.contains k&& !L.contains k&& !lG ops R k&&(fM ops k).contains i)))=true:=by
   intro i hi;obtain⟨h1,h2⟩:=gG.1 hi;have:=(gF i h1).2;rw[h2]at this;simpa only[bT,ae,bA]using this
  have hDE:qD P wv ops R st V S (NL S R):=by
   refine⟨d2,?_,ug (nL d1),wA,fun i=>gG,fun i hi=>(hN i hi).1.1.1,ii,?_,?_,?_,?_⟩;intro i o ho;exact mN hR i o (by simpa using ho)
   ·intro i hi j hj;have h1:=(hN i hi).1.1.2;rw[aY]at h1;have h2:=wA i j hj;have h3:=(gG.1 hi).1;exact gG.2 ⟨by omega,h1 j hj⟩
   intro i r t hi hr ht j hj;have h2:=(hN i hi).1.2;rw[hr]at h2;simp only[aY]at h2;have hs:=h2 t ht;unfold nI at hs;simp only[aY,b9]at hs;simp only[gz,oB]at hj;obtain⟨x,hx,hd⟩:=hj;have:=hs j (rj hx);rw[hx]at this;simpa[hd]using this
   ·intro i r hi hr;obtain⟨p,hp,rfl⟩:=dU.1 hi;have:=rO p hp;rw[x6 (lD S R) p hp]at this;rw[bi,hr]at this;exact this
   rw[←e1];exact vC hx hu.keys
  have vI:∀l∈L,l∈NL S R∧∃ol r,ops[l]?=some ol∧R[l]?=some r∧ol.guard=none∧r.g=none∧r.op.GR=true∧(∀j∈L,j∈fM ops l∨∀d,j6 ops j=some d→d∉ol.looksAt ops)∧
    (∀j∈L,j≠l→∀t,j6 ops l=some t→j6 ops j≠some t)∧(∀x∈e::es,l∈fM ops x∨∀ox,ops[x]?=some ox→ol.apart ops ox=true):=by
   intro l hl;unfold GY at Pe;rw[aY]at Pe;have h:=Pe l hl;simp only[bA,bn]at h;obtain⟨⟨h1,h2⟩,h3⟩:=h;refine⟨gG.2 ⟨h2,h1⟩,?_⟩
   split at h3
   ·next ol r ho hr=>
    unfold HF at h3;simp only[bA,aY,d9]at h3;obtain⟨⟨⟨⟨⟨h4,h5⟩,h6⟩,h7⟩,h8⟩,h9⟩:=h3;refine⟨ol,r,ho,hr,h4,h5,h6,?_,?_,?_⟩
    ·intro j hj;have:=h7 j hj;rw[cm]at this;rcases this with h|h
     exact .inl (by simpa using h);refine .inr fun d hd=>?_;rw[hd]at h;simpa using h
    ·intro j hj gw t ht;have:=h8 j hj;rw[cm]at this;rcases this with h|h
     exact absurd (by simpa using h) gw;rw[ht]at h;simpa using h
    intro x hx;have:=h9 x hx;rw[cm]at this;rcases this with h|h
    exact .inl (by simpa using h);refine .inr fun ox hox=>?_;rw[hox]at h;exact h
   cases h3
  have hLO:BS ops R L:=by
   refine⟨fun l hl=>?_,fun l hl ol ho j hj=>?_,fun i hi j hj gw t ht=>?_⟩;obtain⟨_,ol,r,h1,h2,h3,h4,h5,_⟩:=vI l hl;exact⟨ol,r,h1,h2,h3,h4,h5⟩;obtain⟨_,ol',r,h1,_,_,_,_,h6,_⟩:=vI l hl;rw[ho]at h1;injection h1 with h1;subst h1;exact h6 j hj;obtain⟨_,ol',r,h1,_,_,_,_,_,h7,_⟩:=vI i hi;exact h7 j hj gw t ht
  have hc:kj P ops R [] (Array.replicate ops.size false):=⟨bC,by simp,by simp,by simp,fun j hj=>by simp[bD,hj]⟩;refine Fq hDE hE zC d3 hLO (fun l hl=>(vI l hl).1) P8 ?_ ?_ ?_ (by rw[←e1];exact hK) ops.size [] _ a _ hc (by simp) (by simp) ⟨hs.ms,hs.mS,hs.tm,hs.base,hs.os,hs.tape,hs.output,hs.size,hs.iD,hs.gh⟩
  ·intro l hl x hx;obtain⟨_,ol',r,h1,_,_,_,_,_,_,h8⟩:=vI l hl;refine(h8 x hx).imp (fun h=>h) fun h ol oe ho hoe=>?_;rw[ho]at h1;injection h1 with h1;subst h1;exact h oe hoe
  intro i hi H1 j hj;have:=(hN i hi).2;simp only[cm,bM,bn,H1,dK,bA,aY]at this;have:=this.1 j hj;simpa using this;intro i hi H1;have:=(hN i hi).2;simp only[cm,bM,bn,H1,dK,bA]at this;have:=this.2;simp only[eh,b9,bA,bn,ce,cI]at this;rcases this with(h1|h1)|⟨k,hk,⟨⟨⟨h1,h2⟩,h3⟩,h4⟩,h5⟩
  exact .inl h1;exact .inr (.inl h1);exact .inr (.inr ⟨k,gG.2 ⟨hk,by simpa using h2⟩,h3,h1,h4,h5⟩)
def tt{L:List RO}{st:St}{K:St→Prop}{q:Prop}{f:Nat→Tr}:∀{l:List Nat},uV P L (l.map fun i=>(i,f i)) st K q→∀i∈l,gl P [L.getD i default] st (fun _ s=>wb P L (f i) s K)
 | [],_,i,hi=>by cases hi
 |x::l,h,i,hi=>by
  simp only[lC,uV]at h;rcases aj.1 hi with rfl|hi
  exact h.1;exact tt h.2 i hi
def L8{ops:Array Oper}{R:List RO}{K:St→Prop}(hlen:R.length=ops.size)(hR:∀(i:Nat) (o:Oper),ops[i]?=some o→∃r,R[i]?=some r∧iO P wv n ops o=some r)
  (lj:∀i,∀j∈fM ops i,j<i):∀(m:Nat)(X:List Nat)(fE:Array Bool)(s:St)(a:Act)(w:World),kj P ops R X fE→m+X.length=ops.size→
  ju n0 S0 M0 w0 s a w→s.n=n→wb P R (Ng (fM ops) R.length m X) s K→wpAny P .any ops (fun e a w=>e=.normal∧kU n0 S0 M0 w0 n (fun _=>K) e a w) m fE a w
 |0,X,fE,s,a,w,hc,hl,hs,hn,hq=>by
  have PJ:=ky hc.nd hc.lt (by omega);refine wpAny_done ?_ ⟨rfl,s,hn,by simpa[Ng,wb,uV]using hq,hs⟩ 0;rw[dS];intro i hi;obtain⟨_,h2,o,ho,_⟩:=hc.next hi;exact h2 (PJ i (bh.1 ho).1)
 |m+1,X,fE,s,a,w,hc,hl,hs,hn,hq=>by
  refine⟨fun h0=>?_,fun i hi=>?_⟩
  ·exfalso;have gF:=hc.full lj h0;have hp:=(rD hc.nd hc.lt).length_eq;have:(iw ops.size).filter (fun i=>decide (i∈X))=iw ops.size:=List.filter_eq_self.2 fun i hi=>by simpa using gF i (kM.1 hi)
   rw[this,rA]at hp;omega
  obtain⟨h1,h2,o,ho,h3⟩:=hc.next hi;obtain⟨r,hr,fv⟩:=hR i o ho;have Ld:i<R.length:=(bF.1 hr).1;have ll:R.getD i default=r:=by simp[bi,hr]
  simp only[Ng,wb]at hq;have hq:=tt (f:=fun i=>Ng (fM ops) R.length m (i::X)) hq i (aX.2 ⟨b9.2 Ld,by
   simp only[bA,ce,aY,bM,bn,cI];exact⟨h2,h3⟩⟩)
  rw[ll]at hq;have ov:match r.g with|none=>oq P r.op s (g7 P [] (fun _ s=>wb P R (Ng (fM ops) R.length m (i::X)) s K))|some (t,b)=>nK (s.get t) b (oq P r.op s (g7 P [] (fun _ s=>wb P R (Ng (fM ops) R.length m (i::X)) s K))) (g7 P [] (fun _ s=>wb P R (Ng (fM ops) R.length m (i::X)) s K) (s.kl r.op.dst (.jS []))):=by
   obtain⟨g,op⟩:=r;cases g with
   |none=>exact hq
   |some x=>exact hq
  rw[←hn]at fv;have yR:=nM (Q':=fun e a w=>e=.normal∧kU n0 S0 M0 w0 n (fun _=>K) e a w) fv hs ov;have next:∀{a':Act} {w':World},ip n0 S0 M0 w0 s.n (g7 P [] (fun _ s=>wb P R (Ng (fM ops) R.length m (i::X)) s K)) a' w'→wpAny P .any ops (fun e a w=>e=.normal∧kU n0 S0 M0 w0 n (fun _=>K) e a w) m (fE.setIfInBounds i true) a' w':=by
   rintro a' w' ⟨s',yK,hf,nB⟩;exact L8 hlen hR lj m (i::X) _ s' a' w' h1 (by simp only[lK];omega) nB (yK.trans hn) hf
  unfold wpOp;rw[ho];simp only
  split
  ·next hw=>exact .inl (cZ (fun a' w' h=>next h) (yR.1 hw))
  next hw=>exact next (yR.2 (by simpa using hw))
def Bg(ops:Array Oper)(R:List RO):Bool:=decide (R.length≤8)&&(R.length==ops.size)&&(List.range R.length).all fun i=>(fM ops i).all (· <i)
def DQ{ops:Array Oper}{R:List RO}{st:St}{K:Exit→St→Prop}{id:Nat}{a:Act}{w:World}(hm:Mx P)(hd:Bg ops R=true)
  (hR:ops.toList.mapM (iO P wv st.n ops)=some R) (hs:ju n0 S0 M0 w0 st a w) (hq:vcA P R (Ng (fM ops) R.length R.length []) st (K .normal)):(Code.region id ops true).wp P (kU n0 S0 M0 w0 st.n K) a w:=by
 obtain⟨fS,hq,hk⟩:=hq;unfold Bg at hd;simp only[bA,bB,aY,b9,bn]at hd;obtain⟨⟨_,d2⟩,d3⟩:=hd;have lj:∀i,∀j∈fM ops i,j<i:=by
  intro i j hj
  by_cases hi:i<R.length;exact d3 i hi j hj
  have:ops[i]?=none:=by simp;omega
  simp[fM,this]at hj
 refine cG (Q:=fun e a w=>e=.normal∧kU n0 S0 M0 w0 st.n (fun _ s=>iC s fS) e a w) (ed hm ?_) (fun e a w h=>?_)
 ·have hc:kj P ops R [] (Array.replicate ops.size false):=by
   refine⟨bC,by simp,by simp,by simp,fun j hj=>?_⟩;simp[bD,hj]
  have:=L8 (P:=P) (wv:=wv) (w0:=w0) (n0:=n0) (S0:=S0) (M0:=M0) (n:=st.n) (K:=fun s=>iC s fS) d2 (fun i o ho=>mN hR i o (by simpa using ho)) lj ops.size [] (Array.replicate ops.size false) st a {w with drawn:=w.drawn+1} hc (by simp) ⟨hs.ms,hs.mS,hs.tm,hs.base,hs.os,hs.tape,hs.output,hs.size,hs.iD,hs.gh⟩ rfl (by rw[←d2];rw[←d2]at*;exact hq);exact this
 obtain⟨rfl,s,h1,h2,h3⟩:=h;have h4:=h2 _ _ _ _ _ _ h3;exact⟨fS,h4.tm.symm.trans (h3.tm.trans h1),hk,h4⟩
def Ui(ops:Array Oper)(R:List RO)(X:List Nat):List Nat:=(List.range R.length).filter fun i=>!X.contains i&&(fM ops i).all X.contains
def E2(ops:Array Oper)(R:List RO):Nat→List Nat→Tr
 |0,_=>.br []
 |n+1,X=>
  match (Ui ops R X).find? (lG ops R)with
  |some f=>.br ([f].map fun i=>(i,E2 ops R n (i::X)))
  |none=>.br ((Ui ops R X).map fun i=>(i,E2 ops R n (i::X)))
def N1(h:r.GQ=true):r.sq=true:=by cases r<;>simp_all [lz.GQ,lz.sq]
def BD{ops:Array Oper}{R:List RO}{K:St→Prop}(hlen:R.length=ops.size)(hR:∀(i:Nat) (o:Oper),ops[i]?=some o→∃r,R[i]?=some r∧iO P wv n ops o=some r)
  (lj:∀i,∀j∈fM ops i,j<i) (yS:Region.noSelect ops=true):∀(m:Nat)(X:List Nat)(fE:Array Bool)(s:St)(a:Act)(w:World),kj P ops R X fE→m+X.length=ops.size→
  ju n0 S0 M0 w0 s a w→s.n=n→wb P R (E2 ops R m X) s K→wpAny P .any ops (fun e a w=>e=.normal∧kU n0 S0 M0 w0 n (fun _=>K) e a w) m fE a w
 |0,X,fE,s,a,w,hc,hl,hs,hn,hq=>by
  have PJ:=ky hc.nd hc.lt (by omega);refine wpAny_done ?_ ⟨rfl,s,hn,by simpa[E2,wb,uV]using hq,hs⟩ 0;rw[dS];intro i hi;obtain⟨_,h2,o,ho,_⟩:=hc.next hi;exact h2 (PJ i (bh.1 ho).1)
 |m+1,X,fE,s,a,w,hc,hl,hs,hn,hq=>by
  have hrm:∀i,i∈Ui ops R X↔i<R.length∧i∉X∧∀j∈fM ops i,j∈X:=by
   intro i;simp only[Ui,aX,b9,bA,ce,aY,bM,bn,cI]
  simp only[E2]at hq
  split at hq
  ·next f hf=>
   obtain⟨hfR,K1,Et⟩:=(hrm f).1 (List.mem_of_find?_eq_some hf);have il:=List.find?_some hf;have hfs:f<ops.size:=by rw[←hlen];exact hfR
   have Cd:f∈Region.ready .any ops fE:=hc.ready hfs K1 Et;obtain⟨h1,h2,o,ho,h3⟩:=hc.next Cd;obtain⟨r,hr,fv⟩:=hR f o ho;have ll:R.getD f default=r:=by simp[bi,hr]
   simp only[wb]at hq;have hq:=tt (f:=fun i=>E2 ops R m (i::X)) (l:=[f]) hq f (by simp);rw[ll]at hq;unfold lG at il;rw[ho,hr]at il;simp only[bA,d9,aY,b9]at il;obtain⟨⟨H0,il⟩,Cx⟩:=il;obtain⟨gg,op⟩:=r;simp only at H0 il;subst H0;have ov:oq P op s (g7 P [] (fun _ s=>wb P R (E2 ops R m (f::X)) s K)):=hq;rw[←hn]at fv;have fZ:=fv;unfold iO at fZ;simp only[oD,oB,fw]at fZ;obtain⟨r0,wR,_,g1,_,g2,fZ⟩:=fZ;have hd:∀i,o.dst=some i→i<s.n:=by
    intro i hi;rw[hi]at g2;simpa using g2
   have zz:o.guard=none∧r0=op:=by
    split at fZ
    ·next hg=>
     simp only[oP,oS,RO.mk.injEq]at fZ;exact⟨hg,fZ.2⟩
    simp only[oB,oP,oS]at fZ;obtain⟨_,_,_,_,fZ⟩:=fZ;cases fZ
   obtain⟨zz,rfl⟩:=zz;obtain⟨g,hu,hv⟩:=hs.gh;have nl:At n0 S0 M0 w0 s o a w g:=⟨hs,hu,hv,hd⟩;have V2:Region.wanted o (yielded ops a.tmps)=true:=by simp[Region.wanted,zz]
   have hQ:=N1 il;have Er:=ov;unfold oq at Er;rw[an hQ]at Er;obtain⟨v,KX⟩:=nz wR il nl Er;have nm:=(nM (Q':=fun _ _ _=>False) fv hs ov).1 V2;unfold Oper.wp at nm;rw[KX w]at nm;obtain⟨s',yK,Ca,nB⟩:ip n0 S0 M0 w0 s.n (g7 P [] (fun _ s=>wb P R (E2 ops R m (f::X)) s K)) (a.put o.dst v) w:=nm;refine wpAny_first ho (dV yS) (fun c a w hh=>absurd hh.1 (by simp)) m fE a w ?_ Cd (.inl ⟨V2,KX⟩) (BD hlen hR lj yS m (f::X) _ s' _ w h1 (by simp only[lK];omega) nB (yK.trans hn) Ca);intro j oj hj gw gZ kZ;have GO:=(bh.1 hj).1;have:=Cx j GO;rw[hj]at this;simp only[cm,bB,gw,dK,bM,bn]at this;rcases this with h4|h4|h4
   exact absurd ((hc.li j GO).2 (Et j h4)) (by rw[gZ];simp);simp only[fM,hj,mT]at h4;obtain⟨x,hx,hxe⟩:=aR.1 h4;obtain⟨za,Cw⟩:=aX.1 hx;exact absurd hxe (kZ x (by simpa using za) Cw);exact h4
  refine⟨fun h0=>?_,fun i hi=>?_⟩
  ·exfalso;have gF:=hc.full lj h0;have hp:=(rD hc.nd hc.lt).length_eq;have:(iw ops.size).filter (fun i=>decide (i∈X))=iw ops.size:=List.filter_eq_self.2 fun i hi=>by simpa using gF i (kM.1 hi)
   rw[this,rA]at hp;omega
  obtain⟨h1,h2,o,ho,h3⟩:=hc.next hi;obtain⟨r,hr,fv⟩:=hR i o ho;have Ld:i<R.length:=(bF.1 hr).1;have ll:R.getD i default=r:=by simp[bi,hr]
  simp only[wb]at hq;have hq:=tt (f:=fun i=>E2 ops R m (i::X)) hq i ((hrm i).2 ⟨Ld,h2,h3⟩);rw[ll]at hq;have ov:match r.g with|none=>oq P r.op s (g7 P [] (fun _ s=>wb P R (E2 ops R m (i::X)) s K))|some (t,b)=>nK (s.get t) b (oq P r.op s (g7 P [] (fun _ s=>wb P R (E2 ops R m (i::X)) s K))) (g7 P [] (fun _ s=>wb P R (E2 ops R m (i::X)) s K) (s.kl r.op.dst (.jS []))):=by
   obtain⟨g,op⟩:=r;cases g with
   |none=>exact hq
   |some x=>exact hq
  rw[←hn]at fv;have yR:=nM (Q':=fun e a w=>e=.normal∧kU n0 S0 M0 w0 n (fun _=>K) e a w) fv hs ov;have next:∀{a':Act} {w':World},ip n0 S0 M0 w0 s.n (g7 P [] (fun _ s=>wb P R (E2 ops R m (i::X)) s K)) a' w'→wpAny P .any ops (fun e a w=>e=.normal∧kU n0 S0 M0 w0 n (fun _=>K) e a w) m (fE.setIfInBounds i true) a' w':=by
   rintro a' w' ⟨s',yK,hf,nB⟩;exact BD hlen hR lj yS m (i::X) _ s' a' w' h1 (by simp only[lK];omega) nB (yK.trans hn) hf
  unfold wpOp;rw[ho];simp only
  split
  ·next hw=>exact .inl (cZ (fun a' w' h=>next h) (yR.1 hw))
  next hw=>exact next (yR.2 (by simpa using hw))
def Ws(r:RO):Bool:=match r.op with|.app .. =>true|_=>false
def Bf(ops:Array Oper)(R:List RO):Bool:=decide (2≤(R.filter Ws).length)&&decide (((List.range R.length).filter fun i=>!lG ops R i).length≤10)&&(R.length==ops.size)&&Region.noSelect ops&&(List.range R.length).all fun i=>(fM ops i).all (· <i)
def CL{ops:Array Oper}{R:List RO}{st:St}{K:Exit→St→Prop}{id:Nat}{a:Act}{w:World}(hm:Mx P)(hd:Bf ops R=true)
  (hR:ops.toList.mapM (iO P wv st.n ops)=some R) (hs:ju n0 S0 M0 w0 st a w) (hq:vcA P R (E2 ops R R.length []) st (K .normal)):(Code.region id ops true).wp P (kU n0 S0 M0 w0 st.n K) a w:=by
 obtain⟨fS,hq,hk⟩:=hq;unfold Bf at hd;simp only[bA,bB,aY,b9,bn]at hd;obtain⟨⟨⟨⟨_,_⟩,d2⟩,dns⟩,d3⟩:=hd;have lj:∀i,∀j∈fM ops i,j<i:=by
  intro i j hj
  by_cases hi:i<R.length;exact d3 i hi j hj
  have:ops[i]?=none:=by simp;omega
  simp[fM,this]at hj
 refine cG (Q:=fun e a w=>e=.normal∧kU n0 S0 M0 w0 st.n (fun _ s=>iC s fS) e a w) (ed hm ?_) (fun e a w h=>?_)
 ·have hc:kj P ops R [] (Array.replicate ops.size false):=by
   refine⟨bC,by simp,by simp,by simp,fun j hj=>?_⟩;simp[bD,hj]
  have:=BD (P:=P) (wv:=wv) (w0:=w0) (n0:=n0) (S0:=S0) (M0:=M0) (n:=st.n) (K:=fun s=>iC s fS) d2 (fun i o ho=>mN hR i o (by simpa using ho)) lj dns ops.size [] (Array.replicate ops.size false) st a {w with drawn:=w.drawn+1} hc (by simp) ⟨hs.ms,hs.mS,hs.tm,hs.base,hs.os,hs.tape,hs.output,hs.size,hs.iD,hs.gh⟩ rfl (by rw[←d2];exact hq);exact this
 obtain⟨rfl,s,h1,h2,h3⟩:=h;have h4:=h2 _ _ _ _ _ _ h3;exact⟨fS,h4.tm.symm.trans (h3.tm.trans h1),hk,h4⟩
end Go.Ax
