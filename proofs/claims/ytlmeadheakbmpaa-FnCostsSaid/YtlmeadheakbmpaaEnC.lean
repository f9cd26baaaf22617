/- THE ENGINE, PART 3: a generator of conditions over the register code, and its soundness. No condition. -/
import Derived.Test.YtlmeadheakbmpaaEnB
set_option linter.all false
namespace Go.Ax
variable {P:Program}{n0:Nat}{S0 M0:Nat→Prop}{w0:World}
variable {st:St}{o:Oper}{a:Act}{w:World}{k:KQ}{Q':Exit→Act→World→Prop}{g:Gh}
variable {d:D}{h:jv}{us:List (Nat×U)}{j:Nat}{v:Value}
def zN{g:Gh}{t:Option Nat}(hr:fN h us g (.im t (.pt d j)) v):
  ∃b off,v=.pointer (some ⟨b,off+j,none⟩)∧∀i,i<d.size→fN h us g (.im t (.pt d i)) (.pointer (some ⟨b,off+i,none⟩)):=by
 simp only[fN,gJ]at hr;obtain⟨F,⟨b,off,c,e,fr,F',r1,r2,r3,r4,r5,r6⟩,f1,f2⟩:=hr;rw[gD (by simpa[D.fits]using f1)]at r1;refine⟨b,off,by simpa using r1,fun i hi=>?_⟩;simp only[fN,gJ];exact⟨F,⟨b,off,c,e,fr,F',by simp[Value.cells],r2,hi,r4,r5,r6⟩,by simp[D.fits,Value.oneCell'],f2⟩
variable {i:Nat}{x:Operand}{t:TypeId}
def ajU(h:At n0 S0 M0 w0 st o a w g){u:TypeId}{off:Nat}{X:Ax.X}{fs:Array Field}{f:Field}(ho:o.op=.fieldAddr t x i)(hx:gG P u x=some X)
  (ht:P.underlying t=some (.struct fs)) (hf:fs[i]?=some f) (afs:f.offset=off) {z:Nat} (hz:kx P f.type=some z) (HV:z≠0)
  (hq:Jw (st.ev X) st.unit off k):o.wp P a w (jV n0 S0 M0 w0 st o.dst k) Q':=by
 have ex:=h.ev_ hx;have hH:∀(b p:Nat),a.eval x=.pointer (some ⟨b,p,none⟩)→(execOp a.eval o).run P w=.ok (.value (.pointer (some ⟨b,p+off,none⟩))) w:=by
  intro b p hv;subst afs;simp[execOp,ho,hv,Instr.fieldAt,bo ht,hf,Instr.sureAddr,fieldPlace,qz hz,HV,te]
 unfold Jw at hq
 split at hq
 ·next t1 d j e1=>
  rw[e1]at ex;obtain⟨b,p,hv,hr⟩:=zN ex;exact h.pure_ (hH _ _ hv) (by rw[cN];exact hr _ hq.1) hq.2
 ·next t1 b0 o0 d j e1=>
  rw[e1]at ex;obtain⟨ex',hl⟩:=A4 ex rfl;obtain⟨b,p,hv,hr⟩:=zN ex';rw[hv]at hl;simp at hl;obtain⟨rfl,rfl⟩:=hl;exact h.pure_ (hH _ _ hv) (Om (by rw[cN];exact hr _ hq.1) rfl) hq.2
 ·next id el j e1=>
  rw[e1]at ex;simp only[fN]at ex;obtain⟨ow,nn,usz,es,b,r1,r2,r3,r4,hv⟩:=ex;unfold Zk at hq
  split at hq
  ·next ow' jR nf es' jm=>
   have:=h.us.uniq r1 (f7 jm);injection this with e1 e2 e3 e4;subst e1;subst e2;subst e3;subst e4;refine h.pure_ (hH _ _ hv) ?_ hq.2;simp only[fN];exact⟨ow,nn,usz,es,b,r1,r2,hq.1,r4,by rw[cN]⟩
  exact hq.elim
 ·next id el j iE jj j' e1=>
  rw[e1]at ex;simp only[fN]at ex;obtain⟨ow,nn,usz,es,b,c,ty,b',off',len',cap',r1,r2,r3,r4,r5,r6,hv⟩:=ex;refine h.pure_ (hH _ _ hv) ?_ hq.2;simp only[fN];exact⟨ow,nn,usz,es,b,c,ty,b',off',len',cap',r1,r2,r3,r4,r5,r6,by rw[cN]⟩
 ·next id j e1=>
  rw[e1]at ex;simp only[fN]at ex;obtain⟨sz,items,b,r1,r2,hv⟩:=ex;refine h.pure_ (hH _ _ hv) ?_ hq;simp only[fN];exact⟨sz,items,b,r1,r2,rfl⟩
 exact hq.elim
def NV{g:Gh}{t:Option Nat}(hr:fN h us g (.im t d) v)(hd:d.fX=true):
  ∃cs F,v=.agg cs∧gJ h d F cs.toList∧∀b∈F,g.ok t b:=by
 simp only[fN]at hr;obtain⟨F,h1,h2,h3⟩:=hr;cases d with
 |ag ds=>obtain⟨c,rfl⟩:=h2;exact⟨c,F,rfl,by simpa[Value.cells]using h1,h3⟩
 |_=>simp[D.fX]at hd
def acl{S0 M0:Nat→Prop}{n0:Nat}(hu:gQ h n0 S0 M0 us g)(hr:fN h us g (.tr i) v)(jm:lu us i=some (.own d)):
  fN h us g (.im (some i) d) v:=by
 simp only[fN]at hr;obtain⟨_,rfl⟩:=hr;have ho:=hu.each _ (f7 jm);simp only[jn]at ho;simp only[fN];exact⟨g.φ i,ho.2.1,ho.2.2,fun b hb=>.inr ⟨i,rfl,hb,by rw[ho.1];simp⟩⟩
def P4(hd:d.fX=false):D.sub d j 1 false=d:=by cases d<;>simp_all [D.sub,D.fX]
def Fl{S0 M0:Nat→Prop}{n0:Nat}(hu:gQ h n0 S0 M0 us g){id el j sz:Nat}{agg:Bool}{v:Value}{nn:Option Bool}{usz:Nat}{es:List D}
  (hr:fN h us g (.cw id el j sz agg) v) (jm:lu us id=some (.ar true nn usz es)):fN h us g (.im (some id) (D.sub (D.at es el) j sz agg)) v:=by
 simp only[fN]at hr;obtain⟨jR,gV,es',b,c,e,r1,r2,r3,r4,r5,r6,r7,r8,r9⟩:=hr;have:=hu.uniq r1 (f7 jm);injection this with e1 e2 e3 e4;subst e2;subst e3;subst e4;obtain⟨c',e',F2,c2,p1,p2,p3,p4,p5,p6,p7⟩:=uk (agg:=agg) (j:=j) (sz:=sz) hu r1 r2 r4 r3 r6 r7;rw[r5]at p1;injection p1 with p1;injection p1 with p1 p1';subst p1;have hc:v.cells.toList=c2:=by
  rw[r8];exact G7 p3 p2
 simp only[fN];refine⟨F2,by rw[hc];exact p4,?_,fun x hx=>.inr ⟨id,rfl,by simpa using p7 x hx⟩⟩;cases agg with
 |true=>simp only[ay]at r9;rw[r9];exact yK p5
 |false=>exact nA p5 (by simpa using r9)
variable {F:List Nat}{cs:List Value}{len off:Nat}
def gt.ahF{ds:List D}{sz:Nat}(hr:gt h ds F cs)(hs:∀d∈ds,d.size=sz)(hl:off+len≤ds.length):
  ∃F2,gt h ((ds.drop off).take len) F2 ((cs.drop (off*sz)).take (len*sz))∧∀x∈F2,x∈F:=by
 have e:ds=ds.take off++((ds.drop off).take len++(ds.drop off).drop len):=by rw[bu,bu]
 have Ig:gt h (ds.take off++((ds.drop off).take len++(ds.drop off).drop len)) F cs:=by rw[←e];exact hr
 obtain⟨F1,F23,c1,c23,rfl,rfl,s1,R2⟩:=Ig.split;obtain⟨F2,F3,c2,c3,rfl,rfl,s2,s3⟩:=R2.split;have l1:c1.length=off*sz:=by
  rw[s1.length,D.gk (sz:=sz) fun d hd=>hs d (aY hd),a8,bh (by omega)]
 have l2:c2.length=len*sz:=by
  rw[s2.length,D.gk (sz:=sz) fun d hd=>hs d (bt (aY hd)),a8,ca,bh (by omega)]
 refine⟨F2,?_,fun x hx=>by simp[hx]⟩;rw[←l1,←l2];simpa using s2
variable {sz:Nat}{nn:Option Bool}
def gJ.part{ds:List D}{p:Option Addr}{len' cap':Nat}(hr:gJ h (.ls nn sz ds) F [.slice p len' cap'])(hl:off+len≤len'):
  len'=ds.length∧off≤cap'∧∃F2,gJ h (.ls (if off=0∧len=ds.length then nn else none) sz ((ds.drop off).take len)) F2 [.slice (p.map fun a=>a.add (if off=cap' then 0 else off*sz)) len (cap'-off)]∧∀x∈F2,x∈F:=by
 simp only[gJ]at hr;rcases hr with⟨q,q1,rfl,rfl,q3,q4⟩|⟨b,o,cap,c,e,fr,F',q1,rfl,q3,q4,q5,q6,q7,q8,q9⟩
 ·simp only[cu,dK,bY]at q1;obtain⟨rfl,rfl,rfl⟩:=q1;have h1:off=0:=by omega
  have h2:len=0:=by omega
  subst h1 h2;refine⟨rfl,aw _,[],?_,by simp⟩;simp only[gJ];refine .inl ⟨_,by simp;rfl,by simp,trivial,?_,?_⟩
  ·cases p<;>simp_all
  cases p<;>simp_all
 simp only[cu,dK,bY]at q1;obtain⟨rfl,rfl,rfl⟩:=q1;obtain⟨F2,s1,s2⟩:=q9.ahF q8 hl;have hlen:((ds.drop off).take len).length=len:=by simp;omega
 refine⟨rfl,by omega,?_⟩
 by_cases hc:off=cap'
 ·subst hc;have h2:len=0:=by omega
  subst h2;refine⟨[],?_,by simp⟩;simp only[gJ];refine .inl ⟨some ⟨b,o,none⟩,by simp[Addr.add],by simp,trivial,by simp,fun _=>?_⟩
  split;exact q3;simp
 refine⟨b::F2,?_,?_⟩
 ·simp only[gJ];have hm:(cap'-off)*sz+off*sz=cap'*sz:=by rw[←aT];congr 1;omega
  refine .inr ⟨b,o+off*sz,cap'-off,c,e,fr,F2,by simp[hlen,Addr.add,hc],rfl,?_,by rw[hlen];omega,by rw[hlen];omega,q6,by omega,fun d hd=>q8 d (bt (aY hd)),?_⟩
  ·split
   exact q3;simp
  rw[hlen];have hle:off*sz+len*sz≤ds.length*sz:=by rw[←aT];exact aZ _ hl
  have e2:(((c.toList.drop o).take (ds.length*sz)).drop (off*sz)).take (len*sz)=(c.toList.drop (o+off*sz)).take (len*sz):=by
   rw[dj,cx,c9,bh (by omega)]
  rw[←e2];exact s1
 intro x hx;rcases ab.1 hx with rfl|hx
 simp;simp[s2 x hx]
variable {es:List D}{el usz:Nat}
def GY{S0 M0:Nat→Prop}{n0:Nat}(hu:gQ h n0 S0 M0 us g){id b:Nat}(hm:(id,U.ar true nn usz es)∈us)(pz:el<es.length)(hj:j+1≤usz)
  (hb:g.β id=some b) {c:Array Value} {e:TypeId} (hc:h[b]?=some (.cells c e (0,0))) {cv:Value} (W4:c[el*usz+j]?=some cv):
  ∃F,gJ h (D.sub (D.at es el) j 1 false) F [cv]∧∀x∈F,g.ok (some id) x:=by
 obtain⟨c1,e1,F2,c2,p1,p2,p3,p4,p5,p6,p7⟩:=uk (agg:=false) (sz:=1) hu hm pz hb hj (by simp) (by simp);rw[hc]at p1;injection p1 with p1;injection p1 with p1 p1';subst p1
 match c2,p3 with
 | [v],_=>
  have h0:=p2 0 v rfl;rw[ah,W4]at h0;obtain rfl:=aD h0;exact⟨F2,p4,fun x hx=>.inr ⟨id,rfl,by simpa using p7 x hx⟩⟩
def ace{S0 M0:Nat→Prop}{n0:Nat}(hu:gQ h n0 S0 M0 us g){id iE:Nat}{nn:Option Bool}{usz:Nat}{es:List D}{d:D}(hr:fN h us g (.qs id el j iE off len) v)
  (jm:lu us id=some (.ar true nn usz es)) (hd:Db off len iE (D.sub (D.at es el) j 1 false)=some d):fN h us g (.im (some id) d) v:=by
 simp only[fN]at hr;obtain⟨ow,Ed,HU,t9,b,c,e,p,len',cap',r1,r2,r3,r4,r5,r6,r7,r8,rfl⟩:=hr;have:=hu.uniq r1 (f7 jm);injection this with e1 e2 e3 e4;subst e1 e2 e3 e4;obtain⟨F,q1,q2⟩:=GY hu r1 r2 r3 r4 r5 r6;unfold Db at hd
 split at hd
 ·next jR sz ds ot=>
  rw[ot]at q1
  split at hd
  ·next hz=>
   subst hz;obtain rfl:=aD hd;obtain⟨_,_,F2,s1,s2⟩:=q1.part r7;simp only[fN];exact⟨F2,by simpa[Value.cells]using s1,by simp[D.fits,Value.oneCell'],fun x hx=>q2 x (s2 x hx)⟩
  cases hd
 cases hd
def ahD{S0 M0:Nat→Prop}{n0:Nat}(hu:gQ h n0 S0 M0 us g){id:Nat}{ow:Bool}{nn:Option Bool}{usz:Nat}{es:List D}(hr:fN h us g (.ss id off len) v)
  (jm:lu us id=some (.ar ow nn usz es)):∃F,gJ h (.ls none usz ((es.drop off).take len)) F v.cells.toList:=by
 simp only[fN]at hr;obtain⟨XO,Ed,HU,t9,r1,r2,r0⟩:=hr;have:=hu.uniq r1 (f7 jm);injection this with e1 e2 e3 e4;subst e1 e2 e3 e4;have ho:=hu.each _ r1;simp only[jn]at ho;obtain⟨nJ,hs,ho⟩:=ho;rcases r0 with⟨b,o,r3,r4,rfl⟩|⟨_,rfl,rfl⟩
 case inr=>
  refine⟨[],?_⟩;simp only[gJ];exact .inl ⟨none,by simp[Value.cells],by simp,trivial,by simp,by simp⟩
 rcases ho with⟨h0,_⟩|⟨b',c,e,G,cs,rest,k1,k2,k3,k4,k5,k6,k7,k8⟩
 rw[r3]at h0;cases h0;rw[r3]at k1;obtain rfl:=aD k1;obtain⟨F2,s1,s2⟩:=k6.ahF hs r2;have hlen:((t9.drop off).take len).length=len:=by simp;omega
 have lc:=k6.length;rw[D.gk hs]at lc
 by_cases hc:off<g.cap id
 ·obtain rfl:=r4 hc;refine⟨b::F2,?_⟩;simp only[gJ];have hm:(g.cap id-off)*HU+off*HU=g.cap id*HU:=by rw[←aT];congr 1;omega
  refine .inr ⟨b,off*HU,g.cap id-off,c,e,(0,0),F2,by simp[Value.cells,hlen],rfl,by simp,by rw[hlen];omega,by rw[hlen];omega,k2,by omega,fun d hd=>hs d (bt (aY hd)),?_⟩;rw[hlen,k3];have hle:off*HU+len*HU≤t9.length*HU:=by rw[←aT];exact aZ _ r2
  rw[dB (by omega),dC (by simp;omega)];exact s1
 have h1:len=0:=by omega
 subst h1;refine⟨[],?_⟩;simp only[gJ];exact .inl ⟨some ⟨b,o,none⟩,by simp[Value.cells];omega,by simp,trivial,by simp,by simp⟩
variable {av:AV}
def pU{S0 M0:Nat→Prop}{n0:Nat}(hu:gQ h n0 S0 M0 us g)(hr:fN h us g av v){t:Option Nat}{d:D}
  (hd:av.den (lu us)=some (t,d)):fN h us g (.im t d) v:=by
 unfold AV.den at hd
 split at hd
 ·injection hd with hd;injection hd with e1 e2;subst e1;subst e2;exact hr
 ·next i=>
  split at hd
  ·next d' jm=>injection hd with hd;injection hd with e1 e2;subst e1;subst e2;exact acl hu hr jm
  cases hd
 ·next id el j sz agg=>
  split at hd
  ·next nn usz es jm=>injection hd with hd;injection hd with e1 e2;subst e1;subst e2;exact Fl hu hr jm
  cases hd
 ·next id el j iE off len=>
  split at hd
  ·next nn usz es jm=>
   simp only[cM]at hd;obtain⟨d',hd,hd'⟩:=hd;injection hd' with e1 e2;subst e1 e2;exact ace hu hr jm hd
  cases hd
 cases hd
variable {e:TypeId}
def lO(ht:P.underlying t=some (.slice e))(hz:kx P e=some sz){b off cap:Nat}{kd:IntKind}{n:Int}(h0:0≤n)(hn:n<len)(w:World):
  (Instr.indexAt t (.slice (some ⟨b,off,none⟩) len cap) (.int kd n)).run P w=.ok (.pointer (some ⟨b,off+n.toNat*sz,none⟩)) w:=by
 have h2:0≤n∧n<(len:Int):=⟨h0,hn⟩;simp[Instr.indexAt,asIntOf,bo ht,h0,hn,qz hz,te]
variable {u1 u2:TypeId}
def aj3(h:At n0 S0 M0 w0 st o a w g){e:TypeId}{sz:Nat}{i:Operand}{X I:Ax.X}(ho:o.op=.indexAddr t x i)(hx:gG P u1 x=some X)(hi:gG P u2 i=some I)
  (ht:P.underlying t=some (.slice e)) (hz:kx P e=some sz) (hq:Jg (st.ev X) (st.ev I) st.unit sz k):o.wp P a w (jV n0 S0 M0 w0 st o.dst k) Q':=by
 have ex:=h.ev_ hx;have ei:=h.ev_ hi;unfold Jg at hq
 split at hq
 ·next t1 kd n e1=>
  rw[e1]at ei;have vi:=kj ei
  split at hq
  ·next id off len e2=>
   rw[e2]at ex;simp only[fN]at ex;obtain⟨ow,nn,usz,es,r1,r2,r3⟩:=ex;obtain⟨⟨q1,q2⟩,hq⟩:=hq;unfold Mb at hq
   split at hq
   ·next ow' jR nf es' jm=>
    have:=h.us.uniq r1 (f7 jm);injection this with e1 e2 e3 e4;subst e1;subst e2;subst e3;subst e4;obtain⟨⟨rfl,lW⟩,hk⟩:=hq;rcases r3 with⟨b,r3,r4⟩|⟨_,_,rfl,_⟩
    ·refine h.pure_ (v:=.pointer (some ⟨b,off*sz+n.toNat*sz,none⟩)) ?_ ?_ hk;have:=lO (P:=P) ht hz (b:=b) (off:=off*sz) (len:=len) (cap:=g.cap id-off) (kd:=kd) q1 q2 w;simp[execOp,ho,vi,r4,this];simp only[fN];refine⟨ow,nn,sz,es,b,r1,by omega,lW,r3,by rw[aT];rfl⟩
    omega
   exact hq.elim
  ·next id off len e2=>
   rw[e2]at ex;simp only[fN]at ex;obtain⟨ow,nn,usz,es,r1,r2,r0⟩:=ex;obtain⟨⟨q1,q2⟩,hq⟩:=hq;rcases r0 with⟨b,o,r3,r4,r5⟩|⟨_,rfl,_⟩
   case inr=>omega
   unfold Mb at hq
   split at hq
   ·next ow' jR nf es' jm=>
    have:=h.us.uniq r1 (f7 jm);injection this with e1 e2 e3 e4;subst e1;subst e2;subst e3;subst e4;obtain⟨⟨rfl,lW⟩,hk⟩:=hq;have KP:es.length≤g.cap id:=by
     have ho:=h.us.each _ r1;simp only[jn]at ho;rcases ho.2.2 with⟨h0,_⟩|⟨_,_,_,_,_,_,_,_,_,_,hc,_⟩
     rw[r3]at h0;cases h0;exact hc
    obtain rfl:=r4 (by omega);refine h.pure_ (v:=.pointer (some ⟨b,off*sz+n.toNat*sz,none⟩)) ?_ ?_ hk;have:=lO (P:=P) ht hz (b:=b) (off:=off*sz) (len:=len) (cap:=g.cap id-off) (kd:=kd) q1 q2 w;simp[execOp,ho,vi,r5,this];simp only[fN];refine⟨ow,nn,sz,es,b,r1,by omega,lW,r3,by rw[aT];rfl⟩
   exact hq.elim
  ·next id el j e2=>
   rw[e2]at ex;unfold iaC at hq
   split at hq
   ·next nn usz es jm=>
    unfold iaI at hq
    split at hq
    ·next jR gV ds hd=>
     obtain⟨⟨rfl,lW,q1,q2⟩,hk⟩:=hq;have hr:=Fl h.us ex jm;rw[hd]at hr;simp only[fN,gJ,D.fits]at hr;obtain⟨F,jQ,hf,kA⟩:=hr;rw[gD hf]at jQ;rcases jQ with⟨_,_,rfl,_⟩|⟨b',off',cap',c',jj,fr,F',p1,p2,p3,p4,p5,p6,p7,p8,p9⟩
     simp at q2;omega;have hv:a.eval x=.slice (some ⟨b',off',none⟩) ds.length cap':=by simpa using p1
     simp only[fN]at ex;obtain⟨Sx,lX,KR,b,c,ty,r1,r2,r3,r4,r5,r6,r7,r8,r9⟩:=ex;have:=h.us.uniq r1 (f7 jm);injection this with z1 z2 z3 z4;subst z2 z3 z4;refine h.pure_ (v:=.pointer (some ⟨b',off'+n.toNat*sz,none⟩)) ?_ ?_ hk;have:=lO (P:=P) ht hz (b:=b') (off:=off') (len:=ds.length) (cap:=cap') (kd:=kd) q1 q2 w;simp[execOp,ho,vi,hv,this];simp only[fN];refine⟨true,Sx,lX,KR,b,c,ty,b',off',ds.length,cap',r1,r2,r3,r4,r5,?_,by simp⟩;rw[gD hf]at r8;have h1:((c.toList.drop (el*lX+j)).take 1)[0]?=some (a.eval x):=by rw[←r8];simp
     rw[dL (by omega),cZ,ah,cE]at h1;rw[h1,hv]
    exact hq.elim
   exact hq.elim
  unfold Sr at hq
  split at hq
  ·next t2 nn gV ds hd=>
   have hr:=pU h.us ex hd;obtain⟨⟨rfl,lW,q1,q2⟩,hk⟩:=hq;have Ig:=hr;simp only[fN,gJ,D.fits]at hr;obtain⟨F,jQ,hf,kA⟩:=hr;rw[gD hf]at jQ;rcases jQ with⟨_,_,rfl,_⟩|⟨b,off,cap,c,el,fr,F',p1,p2,p3,p4,p5,p6,p7,p8,p9⟩
   simp at q2;omega;have hv:a.eval x=.slice (some ⟨b,off,none⟩) ds.length cap:=by simpa using p1
   have iq:n.toNat<ds.length:=by omega
   obtain⟨F1,F2,F3,c1,c2,c3,g1,g2,g3,g4,g5⟩:=p9.pick iq;have jP:=p8 _ (aF iq);have l1:c1.length=n.toNat*sz:=by
    rw[g3.length,D.gk (sz:=sz) fun d hd=>p8 d (aY hd),a8,bh (di iq)]
   have hmul:n.toNat*sz+sz≤ds.length*sz:=by
    have:=aZ sz (show n.toNat+1≤ds.length by omega);rw[aT]at this;omega
   have OM:ds.length*sz≤cap*sz:=aZ sz p4;refine h.pure_ (v:=.pointer (some ⟨b,off+n.toNat*sz,none⟩)) ?_ ?_ hk;have:=lO (P:=P) ht hz (b:=b) (off:=off) (len:=ds.length) (cap:=cap) (kd:=kd) q1 q2 w;simp[execOp,ho,vi,hv,this];rw[D.qL iq];simp only[fN];refine⟨b::F2,?_,by simp[D.fits,Value.oneCell'],?_⟩
   ·unfold gJ;refine⟨b,off+n.toNat*sz,c,el,fr,F2,by simp[Value.cells],rfl,by omega,p6,by omega,?_⟩;have:(c.toList.drop (off+n.toNat*sz)).take ((ds[n.toNat]).size)=c2:=by
     have e1:=congrArg (fun l=>(l.drop c1.length).take c2.length) g2;simp only[dT,bZ,dj,cx,c9]at e1;rw[l1]at e1;have l2:=g4.length;rw[jP]at l2;rw[l2,bh (by omega)]at e1;rw[jP];exact e1
    rw[this];exact g4
   intro y hy
   apply kA
   rw[p2,g1];rcases ab.1 hy with rfl|hy
   simp;simp[hy]
  ·next t2 b0 o0 nn gV ds hd=>
   obtain⟨hr,hl⟩:=A4 (pU h.us ex hd) rfl;obtain⟨⟨rfl,lW,q1,q2⟩,hk⟩:=hq;have Ig:=hr;simp only[fN,gJ,D.fits]at hr;obtain⟨F,jQ,hf,kA⟩:=hr;rw[gD hf]at jQ;rcases jQ with⟨_,_,rfl,_⟩|⟨b,off,cap,c,el,fr,F',p1,p2,p3,p4,p5,p6,p7,p8,p9⟩
   simp at q2;omega;have hv:a.eval x=.slice (some ⟨b,off,none⟩) ds.length cap:=by simpa using p1
   rw[hv]at hl;simp at hl;obtain⟨rfl,rfl⟩:=hl;have iq:n.toNat<ds.length:=by omega
   obtain⟨F1,F2,F3,c1,c2,c3,g1,g2,g3,g4,g5⟩:=p9.pick iq;have jP:=p8 _ (aF iq);have l1:c1.length=n.toNat*sz:=by
    rw[g3.length,D.gk (sz:=sz) fun d hd=>p8 d (aY hd),a8,bh (di iq)]
   have hmul:n.toNat*sz+sz≤ds.length*sz:=by
    have:=aZ sz (show n.toNat+1≤ds.length by omega);rw[aT]at this;omega
   have OM:ds.length*sz≤cap*sz:=aZ sz p4;refine h.pure_ (v:=.pointer (some ⟨b,off+n.toNat*sz,none⟩)) ?_ ?_ hk;have:=lO (P:=P) ht hz (b:=b) (off:=off) (len:=ds.length) (cap:=cap) (kd:=kd) q1 q2 w;simp[execOp,ho,vi,hv,this];refine Om ?_ rfl;rw[D.qL iq];simp only[fN];refine⟨b::F2,?_,by simp[D.fits,Value.oneCell'],?_⟩
   ·unfold gJ;refine⟨b,off+n.toNat*sz,c,el,fr,F2,by simp[Value.cells],rfl,by omega,p6,by omega,?_⟩;have:(c.toList.drop (off+n.toNat*sz)).take ((ds[n.toNat]).size)=c2:=by
     have e1:=congrArg (fun l=>(l.drop c1.length).take c2.length) g2;simp only[dT,bZ,dj,cx,c9]at e1;rw[l1]at e1;have l2:=g4.length;rw[jP]at l2;rw[l2,bh (by omega)]at e1;rw[jP];exact e1
    rw[this];exact g4
   intro y hy
   apply kA
   rw[p2,g1];rcases ab.1 hy with rfl|hy
   simp;simp[hy]
  exact hq.elim
 exact hq.elim
def ago(h:At n0 S0 M0 w0 st o a w g){e:TypeId}{c:Call}{X:Ax.X}(ho:o.op=.call c)(hc:c.callee=.builtin .len)(ha:c.args= #[x])(tE:c.argTypes= #[t])(hx:gG P u1 x=some X)
  (ht:P.underlying t=some (.slice e)) (hq:tv (st.ev X) st.unit k):o.wp P a w (jV n0 S0 M0 w0 st o.dst k) Q':=by
 have ex:=h.ev_ hx;have hH:∀p len cap,a.eval x=.slice p len cap→(execOp a.eval o).run P w=.ok (.value (.int .i64 len)) w:=by
  intro p len cap hv;simp[execOp,ho,resolve,hc,ha,tE,hv,invoke,builtin,Builtin.len_,bo ht,goInt]
 unfold tv at hq
 split at hq
 ·next id off len e2=>
  rw[e2]at ex;simp only[fN]at ex;obtain⟨ow,nn,usz,es,r1,r2,r3⟩:=ex;rcases r3 with⟨b,r3,r4⟩|⟨_,_,rfl,r4⟩
  exact h.pure_ (hH _ _ _ r4) (kt rfl) hq;exact h.pure_ (hH _ _ _ r4) (kt rfl) hq
 ·next id off len e2=>
  rw[e2]at ex;simp only[fN]at ex;obtain⟨ow,nn,usz,es,r1,r2,⟨b,o,r3,r4,r5⟩|⟨_,rfl,r5⟩⟩:=ex;exact h.pure_ (hH _ _ _ r5) (kt rfl) hq;exact h.pure_ (hH _ _ _ r5) (kt rfl) hq
 ·next nn sz e2=>
  rw[e2]at ex;simp only[fN]at ex;obtain⟨p,r5,_⟩:=ex;exact h.pure_ (hH _ _ _ r5) (kt rfl) hq
 unfold Bt at hq
 split at hq
 ·next t2 nn gV ds hd=>
  have hr:=pU h.us ex hd;obtain⟨p,len,cap,hv,rfl,_,_⟩:=uT hr;exact h.pure_ (hH _ _ _ hv) (kt rfl) hq
 ·next t2 b0 o0 nn gV ds hd=>
  obtain⟨hr,_⟩:=A4 (pU h.us ex hd) rfl;obtain⟨p,len,cap,hv,rfl,_,_⟩:=uT hr;exact h.pure_ (hH _ _ _ hv) (kt rfl) hq
 exact hq.elim
def jy{k:Nat}:∀{us:List (Nat×U)},tO k us=true→k∉us.map (·.1)
 | [],_=>by simp
 |(i,u)::r,h=>by
  simp only[tO,bA,cy]at h;have ih:=jy h.2;simp only[lC,ab,cj];exact⟨fun e=>h.1 e.symm,ih⟩
def qi{g:Gh}{a b:List (Nat×U)}:fp g (a++b)=fp g a++fp g b:=by simp[fp]
variable {h':jv}
def gQ.grow{nus:List (Nat×U)}{g g':Gh}(hu:gQ h n0 S0 M0 us g)(jP:h.size≤h'.size)(hh:∀b,b<h.size→h'[b]?=h[b]?)
  (hk:((nus++us).map (·.1)).Nodup) (hβ:∀x∈us,g'.β x.1=g.β x.1∧g'.root x.1=g.root x.1∧g'.cap x.1=g.cap x.1) (hφ:∀x∈us,g'.φ x.1=g.φ x.1)
  (hS:∀b,g.Sh b→g'.Sh b) (hS':∀b,g'.Sh b→g.Sh b∨(h.size≤b∧b<h'.size∧b∉fp g' nus)) (hn:(fp g' nus).Nodup) (HW:∀b∈fp g' nus,h.size≤b∧b<h'.size) (hb:n0≤h.size)
  (hd:∀k,k∉(nus++us).map (·.1)→g'.φ k=[]) (ho:∀x∈nus,jn h' (nus++us) g' x.1 x.2) (hz:∀b∈fp g' nus,t7 h' b) (yY:∀x∈nus,x.2.kb=true→x.1<3000000000):gQ h' n0 S0 M0 (nus++us) g':=by
 have j7:fp g' us=fp g us:=by
  unfold fp;clear hu ho hd hk hβ
  induction us with
  |nil=>rfl
  |cons x us ih=>simp only[bX];rw[hφ x (by simp),ih fun y hy=>hφ y (by simp[hy])]
 have kA:∀t b,b<h.size→g.ok t b→g'.ok t b:=by
  intro t b _ hb;rcases hb with hb|⟨i,hi,h1,h2⟩
  exact .inl (hS b hb);obtain⟨u,hm⟩:=hu.live h1;exact .inr ⟨i,hi,by rw[hφ _ hm];exact h1,by rw[(hβ _ hm).1];exact h2⟩
 refine⟨hk,?_,?_,?_,hd,?_,?_,?_,hu.AB.app yY fun x hx=>⟨(hβ x hx).1,(hβ x hx).2.2⟩⟩
 ·rw[qi,j7,aX];refine⟨hn,hu.nodup,?_⟩;rintro x hx y hy rfl;have:=(HW x hx).1;have:=hu.lt x hy;omega
 ·intro b xI;rw[qi,j7]at xI;rcases an.1 xI with h1|h1
  exact(HW b h1).2;have:=hu.lt b h1;omega
 ·intro b xI iq;rw[qi,j7]at xI;rcases an.1 xI with h1|h1
  have:=(HW b h1).1;omega;exact hu.low b h1 iq
 ·intro b xI;rcases hS' b xI with h1|⟨h1,h2,h3⟩
  ·obtain⟨q1,q2,q3⟩:=hu.sh b h1;refine⟨by omega,q2,?_⟩;rw[qi,j7,an];rintro(h4|h4);have:=(HW b h4).1;omega;exact q3 h4
  refine⟨h2,fun h4=>by omega,?_⟩;rw[qi,j7,an];rintro(h4|h4);exact h3 h4;have:=hu.lt b h4;omega
 ·intro x hx;rcases an.1 hx with h1|h1
  exact ho x h1;exact(hu.each x h1).mono h1 (fun y hy=>an.2 (.inr hy)) hh hβ (hφ x h1) (fun b _ hb=>hS b hb) kA
 intro b xI;rw[qi,j7]at xI;rcases an.1 xI with h1|h1
 exact hz b h1;obtain⟨c,e,h2⟩:=hu.fz b h1;exact⟨c,e,by rw[hh b (hu.lt b h1)];exact h2⟩
def fN.grow{nus:List (Nat×U)}{g g':Gh}(hu:gQ h n0 S0 M0 us g)(hh:∀b,b<h.size→h'[b]?=h[b]?)
  (hβ:∀x∈us,g'.β x.1=g.β x.1∧g'.root x.1=g.root x.1∧g'.cap x.1=g.cap x.1) (hφ:∀x∈us,g'.φ x.1=g.φ x.1)
  (hS:∀b,g.Sh b→g'.Sh b) {av:AV} {v:Value} (hr:fN h us g av v):fN h' (nus++us) g' av v:=by
 refine hr.mono (fun y hy=>an.2 (.inr hy)) hh hβ ?_;intro t b _ hb;rcases hb with hb|⟨i,hi,h1,h2⟩
 exact .inl (hS b hb);obtain⟨u,hm⟩:=hu.live h1;exact .inr ⟨i,hi,by rw[hφ _ hm];exact h1,by rw[(hβ _ hm).1];exact h2⟩
def Gh.add(g:Gh)(d:Nat)(β:Option Nat)(φ:List Nat)(root:Value)(cap:Nat):Gh:=
 {β:=fun i=>if i=d then β else g.β i,φ:=fun i=>if i=d then φ else g.φ i,root:=fun i=>if i=d then root else g.root i,
  cap:=fun i=>if i=d then cap else g.cap i,Sh:=g.Sh}
def nx(h:At n0 S0 M0 w0 st o a w g){c:Array Value}{e:TypeId}{v:Value}{av:AV}{d:Nat}{u:U}(φ:List Nat)(cap:Nat)
  (hH:(execOp a.eval o).run P w=.ok (.value v) {w with heap:=w.heap.push (.cells c e (0,0))})
  (hφ:φ=[w.heap.size])
  (hu:tO d st.us=true→jn (w.heap.push (.cells c e (0,0))) ((d,u)::st.us) (g.add d (some w.heap.size) φ v cap) d u)
  (hr:tO d st.us=true→fN (w.heap.push (.cells c e (0,0))) ((d,u)::st.us) (g.add d (some w.heap.size) φ v cap) av v)
  (hk:k av [(d,u)]) (yY:u.kb=true→d<3000000000:=by simp[U.kb]):o.wp P a w (jV n0 S0 M0 w0 st o.dst k) Q':=by
 unfold Oper.wp;rw[hH];refine⟨av,[(d,u)],hk,fun hf=>?_⟩;have oK:tO d st.us=true:=by
  rcases hf with hf|hf
  cases hf;simp only[St.fresh,tO,bU]at hf;exact hf
 have KS:=jy oK;generalize hg':g.add d (some w.heap.size) φ v cap=g' at hu hr;have g9:∀x∈st.us,x.1≠d:=fun x hx e=>KS (aB.2 ⟨x,hx,e⟩);have hβ:∀x∈st.us,g'.β x.1=g.β x.1∧g'.root x.1=g.root x.1∧g'.cap x.1=g.cap x.1:=by
  intro x hx;subst hg';simp[Gh.add,g9 x hx]
 have hφ':∀x∈st.us,g'.φ x.1=g.φ x.1:=by
  intro x hx;subst hg';simp[Gh.add,g9 x hx]
 have hh:∀b,b<w.heap.size→(w.heap.push (.cells c e (0,0)))[b]?=w.heap[b]?:=by
  intro b hb;rw[eh,ae (by omega)]
 have hS:∀b,g.Sh b→g'.Sh b:=by subst hg';exact fun b hb=>hb
 have j7:fp g' [(d,u)]=[w.heap.size]:=by subst hg';simp[fp,Gh.add,hφ]
 have hU:gQ (w.heap.push (.cells c e (0,0))) n0 S0 M0 ([(d,u)]++st.us) g':=by
  refine h.us.grow (by simp) hh ?_ hβ hφ' hS ?_ ?_ ?_ (by rw[h.sat.base];exact h.sat.size) ?_ ?_ (by rw[j7];intro b hb;rw[au]at hb;subst hb;exact⟨c,e,by simp⟩) (by intro x hx hp;rw[au]at hx;subst hx;exact yY hp);simp only[bf,be,lC,aH];exact⟨KS,h.us.keys⟩;intro b hb;subst hg';exact .inl hb;rw[j7];simp;rw[j7];simp;intro i hi;simp only[bf,be,lC,ab,cj]at hi;subst hg';simp only[Gh.add,hi.1,aA];exact h.us.dead i hi.2;intro x hx;simp only[au]at hx;subst hx;exact hu oK
 have hV:∀t,fN (w.heap.push (.cells c e (0,0))) ([(d,u)]++st.us) g' (lk st.env t) (a.tmps.getD t undef):=fun t=>(h.rep t).grow h.us hh hβ hφ' hS;have hs:=h.sat;have hS2:k9 n0 S0 M0 w0 (st.kc [(d,u)]) a {w with heap:=w.heap.push (.cells c e (0,0))}:=by
  refine⟨hs.ms,hs.v8,hs.tm,hs.base,hs.os,hs.tape,hs.output,?_,?_,g',hU,hV⟩;have:=hs.size;simp;omega;intro b hb hm;rw[←hs.jL b hb hm];exact hh b (by have:=hs.size;have:=hs.base;omega)
 exact jY hS2 (g:=g') hU hV h.dst (hr oK)
variable {cap:Nat}
def jh{g:Gh}{d:Nat}{β:Option Nat}{φ:List Nat}{root:Value}:(g.add d β φ root cap).β d=β∧(g.add d β φ root cap).φ d=φ∧(g.add d β φ root cap).root d=root∧
  (g.add d β φ root cap).cap d=cap∧(g.add d β φ root cap).Sh=g.Sh:=by simp[Gh.add]
def lJ(h:jv)(x:Obj):(h.push x)[h.size]?=some x:=by simp
variable {b:Nat}
def mh{x:Obj}(hb:b<h.size):(h.push x)[b]?=h[b]?:=by rw[eh,ae (by omega)]
variable {z:D}
def agq(h:At n0 S0 M0 w0 st o a w g){e:TypeId}{d sz:Nat}(ho:o.op=.alloc e)(hz:kY P e=some z)
  (hq:(0<sz∧z.size=sz∧z.gl=true)∧k (.pw d 0 0) [(d,.ar true (some false) sz [z])]):o.wp P a w (jV n0 S0 M0 w0 st o.dst k) Q':=by
 obtain⟨⟨q1,q2,q3⟩,hk⟩:=hq;unfold kY at hz
 split at hz
 ·next i hi=>
  split at hz
  ·next zv Nm=>
   split at hz
   ·next sC=>
    obtain⟨r1,r2,r3⟩:=sJ hz (w.heap.push (.cells zv.cells e (0,0)));have hl:=r1.length;refine nx h (c:=zv.cells) (e:=e) (v:=.pointer (some ⟨w.heap.size,0,none⟩)) [w.heap.size] 1 ?_ rfl ?_ ?_ hk;simp[execOp,ho,Instr.alloc,zeroValue,typeInfo,hi,Nm,newVar,newRow]
    ·intro _;simp only[jn,jh];refine⟨by simp[gz],by simp[q2],.inr ⟨w.heap.size,zv.cells,e,[],zv.cells.toList,[],rfl,lJ _ _,by simp,?_,by simp,?_,by simp,by simp⟩⟩
     ·have:zv.cells.toList.length=zv.cells.size:=by simp
      omega
     rw[jX];exact⟨[],[],_,[],by simp,by simp,r1,sf.2 ⟨rfl,rfl⟩⟩
    intro _;simp only[fN];exact⟨_,_,_,_,w.heap.size,bD,by simp,q1,by simp[jh],by simp⟩
   cases hz
  cases hz
 cases hz
def Fz(zl:List Value)(sz:Nat)(hz:zl.length=sz)(h0:0<sz):∀c,(List.range (c*sz)).map (fun i=>zl.toArray[i % sz]!)=(List.replicate c zl).flatten
 |0=>by simp
 |c+1=>by
  have ih:=Fz zl sz hz h0 c;rw[aT,ej,eo (c*sz) sz,List.range_add,bQ,fu,bV,←ih];congr 1
  ·apply dD
   simp[hz];intro i h1 h2;have hi:i<sz:=by simpa using h1
   simp[Nat.mod_eq_of_lt hi,h2]
  rw[cR]
  apply cA
  intro i _;simp[Nat.add_mod_left]
def Ko{zl:List Value}(hr:gJ h z [] zl):∀m,gt h (List.replicate m z) [] (List.replicate m zl).flatten
 |0=>by simp[gt]
 |m+1=>by
  simp only[fu,gt,bV];exact⟨[],[],_,_,rfl,rfl,hr,Ko hr m⟩
def akp(h:At n0 S0 M0 w0 st o a w g){e u1 u2:TypeId}{i:TypeInfo}{d sz bytes:Nat}{z:D}{l c:Operand}{L C:Ax.X}(ho:o.op=.makeSlice t l c)(ht:P.underlying t=some (.slice e))
  (hi:P.info? e=some i) (jP:i.size=sz) (oL:i.bytes=bytes) (hz:kY P e=some z) (hl:gG P u1 l=some L) (hc:gG P u2 c=some C)
  (hq:mkK (st.ev L) (st.ev C) d sz bytes z k):o.wp P a w (jV n0 S0 M0 w0 st o.dst k) Q':=by
 have el:=h.ev_ hl;have ec:=h.ev_ hc;unfold mkK at hq
 split at hq
 ·next t1 k1 m t2 k2 q e1 e2=>
  rw[e1]at el;rw[e2]at ec;have vl:=kj el;have vc:=kj ec;obtain⟨⟨p1,p2,p3,p4,p5,p6,p7⟩,hk⟩:=hq;unfold kY at hz;rw[hi]at hz
  dsimp only at hz
  split at hz
  ·next zv Nm=>
   split at hz
   ·next sC=>
    have hH:=run_make (P:=P) w t e i zv ht hi Nm k1 k2 m q p1 p2 (by rw[oL];omega) (by omega);obtain⟨r1,r2,r3⟩:=sJ hz (w.heap.push (.cells (madeCells zv.cells (q.toNat*i.size)) e (0,0)));have hlen:=r1.length;have KU:zv.cells.toList.length=sz:=by rw[hlen,p6]
    have ahG:(madeCells zv.cells (q.toNat*i.size)).toList=(List.replicate q.toNat zv.cells.toList).flatten:=by
     have:=Fz zv.cells.toList sz KU p5 q.toNat;rw[←this,jP];simp only[madeCells,er,Array.toList_range]
     apply cA
     intro y _;have:zv.cells.size=sz:=by rw[sC,jP]
     simp[this]
    have W5:(madeCells zv.cells (q.toNat*i.size)).size=q.toNat*sz:=by rw[size_madeCells,jP]
    refine nx h (c:=madeCells zv.cells (q.toNat*i.size)) (e:=e) (v:=.slice (some ⟨w.heap.size,0,none⟩) m.toNat q.toNat) [w.heap.size] q.toNat ?_ rfl ?_ ?_ hk
    ·simp only[execOp,ho,vl,vc,bS,hH]
     rfl
    ·intro _;simp only[jn,jh,List.length_replicate];refine⟨by simp[gz];omega,?_,.inr ⟨w.heap.size,_,e,[],(List.replicate m.toNat zv.cells.toList).flatten,(List.replicate (q.toNat-m.toNat) zv.cells.toList).flatten,rfl,lJ _ _,?_,W5,by omega,Ko r1 _,by simp,by simp⟩⟩
     ·intro x hx;rw[fv hx,p6]
     rw[ahG,←List.flatten_append,List.replicate_append_replicate];congr 2;omega
    intro _;simp only[fN];refine⟨_,_,_,_,bD,by simp,.inl ⟨w.heap.size,by simp[jh],by simp[jh]⟩⟩
   cases hz
  cases hz
 exact hq.elim
variable {lo:Option Operand}
def At.AD(h:At n0 S0 M0 w0 st o a w g){Lo:Option Ax.X}(R3:∀y,lo=some y→∃Y,Lo=some Y∧gG P u2 y=some Y)(tF:lo=none→Lo=none){d l:Int}{t2:Option Nat}{k2:IntKind}
  (e2:(Lo.map st.ev).getD (.im none (.sc (.int .i64 d)))=.im t2 (.sc (.int k2 l))):lo.map a.eval=none∧l=d∨∃kk,lo.map a.eval=some (.int kk l):=by
 cases lo with
 |none=>
  rw[tF rfl]at e2;simp only[dQ,dh,AV.im.injEq,D.sc.injEq,Value.int.injEq]at e2;exact .inl ⟨rfl,e2.2.2.symm⟩
 |some y=>
  obtain⟨Y,rfl,hY⟩:=R3 y rfl;have:=h.ev_ hY;simp only[dJ,dy]at e2;rw[e2]at this;exact .inr ⟨k2,by simp[kj this]⟩
def sY{hi:Option Operand}{l hh:Int}{cap:Nat}(Gx:lo.map a.eval=none∧l=0∨∃kk,lo.map a.eval=some (.int kk l))(hbh:hi.map a.eval=none∧hh=len∨∃kk,hi.map a.eval=some (.int kk hh))
  (q1:0≤l) (q2:l≤hh) (q3:hh≤len) (KP:len≤cap):(Instr.sliceBounds true len cap (lo.map a.eval) (hi.map a.eval) none).run P w=.ok (l.toNat,hh.toNat,cap) w:=by
 have c1:0≤hh∧hh≤(cap:Int):=⟨by omega,by omega⟩;have c2:0≤l∧l≤((hh.toNat:Nat):Int):=⟨by omega,by omega⟩;rcases Gx with⟨b1,rfl⟩|⟨kk,b1⟩<;>rcases hbh with⟨b2,rfl⟩|⟨kk',b2⟩<;>rw[b1,b2]
 simp[Instr.sliceBounds];simp[Instr.sliceBounds,Instr.sliceBound,asIntOf,c1.1,c1.2]
 ·have c3:l≤(len:Int):=by omega
  simp[Instr.sliceBounds,Instr.sliceBound,asIntOf,c2.1,c3]
 have hm:max hh 0=hh:=by omega
 simp[Instr.sliceBounds,Instr.sliceBound,asIntOf,c1.1,c1.2,c2.1,hm,q2]
def ahr(h:At n0 S0 M0 w0 st o a w g){u1 u2 u3:TypeId}{sz:Nat}{X:Ax.X}{hi:Option Operand}{Lo Hi:Option Ax.X}(ho:o.op=.slice t x lo hi none)(ht:P.underlying t=some (.slice e))
  (hz:kx P e=some sz) (hx:gG P u1 x=some X) (R3:∀y,lo=some y→∃Y,Lo=some Y∧gG P u2 y=some Y) (tF:lo=none→Lo=none)
  (hhi:∀y,hi=some y→∃Y,Hi=some Y∧gG P u3 y=some Y) (aft:hi=none→Hi=none)
  (hq:Cl (st.ev X) st.ev st.unit sz Lo Hi k):o.wp P a w (jV n0 S0 M0 w0 st o.dst k) Q':=by
 have ex:=h.ev_ hx;unfold Cl at hq
 split at hq
 ·next t1 nn gV ds e1=>
  rw[e1]at ex;obtain⟨rfl,hq⟩:=hq;have ex':=ex;simp only[fN,D.fits]at ex;obtain⟨F,r1,r2,r3⟩:=ex;rw[gD r2]at r1;unfold MN at hq
  split at hq
  ·next t2 k2 l t3 k3 hh e2 e3=>
   obtain⟨⟨q1,q2,q3⟩,hk⟩:=hq;have Gx:=h.AD R3 tF e2;have hbh:=h.AD hhi aft e3;have hsb:∀cap,ds.length≤cap→(Instr.sliceBounds true ds.length cap (lo.map a.eval) (hi.map a.eval) none).run P w=.ok (l.toNat,hh.toNat,cap) w:=fun cap KP=>sY Gx hbh q1 q2 q3 KP;have hlen:((ds.take hh.toNat).drop l.toNat).length=hh.toNat-l.toNat:=by simp;omega
   rcases r1 with⟨pp,p1,rfl,rfl,p4⟩|⟨b,off,cap,c,el,fr,F',p1,p2,p3,p4,p5,p6,p7,p8,p9⟩
   ·have hv:a.eval x=.slice pp 0 0:=by simpa using p1
    have l0:l=0:=by simp at q3;omega
    have h0:hh=0:=by simp at q3;omega
    subst l0;subst h0;have:=hsb 0 (by simp);refine h.pure_ (v:=.slice pp 0 0) ?_ ?_ hk;simp[execOp,ho,Instr.sliceAt,bo ht,Instr.slice,hv]at this⊢;simp[this,qz hz];simp only[fN,gJ,D.fits];exact⟨[],.inl ⟨pp,by simp[Value.cells],by simp,rfl,p4⟩,rfl,by simp⟩
   have hv:a.eval x=.slice (some ⟨b,off,none⟩) ds.length cap:=by simpa using p1
   have hsl:=hsb cap p4;have hr:(execOp a.eval o).run P w=.ok (.value (.slice (some (if cap=l.toNat then⟨b,off,none⟩else⟨b,off+l.toNat*sz,none⟩)) (hh.toNat-l.toNat) (cap-l.toNat))) w:=by
    simp only[execOp,ho,Instr.sliceAt,bS,bo ht,Instr.slice,hv,dm,qz hz,eR]
    split<;>simp_all [te]
   refine h.pure_ hr ?_ hk;have pM:ds=ds.take l.toNat++((ds.take hh.toNat).drop l.toNat++ds.drop hh.toNat):=by
    rw[←bC];have e1:ds.take l.toNat=(ds.take hh.toNat).take l.toNat:=by rw[c9,bh (by omega)]
    rw[e1,bu,bu]
   have p9':gt w.heap (ds.take l.toNat++((ds.take hh.toNat).drop l.toNat++ds.drop hh.toNat)) F' ((c.toList.drop off).take (ds.length*sz)):=by rw[←pM];exact p9
   obtain⟨F1,F23,c1,c23,g1,g2,s1,R2⟩:=p9'.split;obtain⟨F2,F3,c2,c3,rfl,rfl,s2,s3⟩:=R2.split;have yX:∀x∈(ds.take hh.toNat).drop l.toNat,x.size=sz:=fun x hx=>p8 x (aY (bt hx));have l1:c1.length=l.toNat*sz:=by
    rw[s1.length,D.gk (sz:=sz) fun d hd=>p8 d (aY hd),a8,bh (by omega)]
   have l2:c2.length=(hh.toNat-l.toNat)*sz:=by
    rw[s2.length,D.gk (sz:=sz) yX,hlen]
   simp only[fN,D.fits];refine⟨b::F2,?_,rfl,?_⟩
   ·unfold gJ;refine .inr ⟨b,if cap=l.toNat then off else off+l.toNat*sz,cap-l.toNat,c,el,fr,F2,?_,rfl,p3,by omega,?_,p6,?_,yX,?_⟩
    ·rw[hlen]
     split<;>simp[Value.cells]
    rw[hlen];simp[gz]at p5⊢;omega
    ·have hm:(cap-l.toNat)*sz+l.toNat*sz=cap*sz:=by rw[←aT];congr 1;omega
     split
     ·next rh=>rw[rh]at p7⊢;simp;omega
     omega
    rw[hlen];have e1:=congrArg (fun l=>(l.drop c1.length).take c2.length) g2;simp only[dT,bZ,dj,cx,c9]at e1;have hle:(hh.toNat-l.toNat)*sz+l.toNat*sz≤ds.length*sz:=by rw[←aT];exact aZ _ (by omega)
    rw[bh (by omega),l1,l2]at e1
    split
    ·next rh=>
     have:hh.toNat-l.toNat=0:=by omega
     rw[this]at l2⊢;simp only[et,aO];have:c2=[]:=dp (by omega);rw[←this];exact s2
    rw[e1];exact s2
   intro y hy
   apply r3
   rw[p2,g1];rcases ab.1 hy with rfl|hy
   simp;simp[hy]
  exact hq.elim
 ·next id off len e1=>
  rw[e1]at ex;simp only[fN]at ex;obtain⟨ow,nn,usz,es,r1,r2,r3⟩:=ex;unfold HI at hq
  split at hq
  ·next ow' jR nf es' jm=>
   have:=h.us.uniq r1 (f7 jm);injection this with z1 z2 z3 z4;subst z1 z2 z3 z4;obtain⟨rfl,hq⟩:=hq;unfold Bx at hq
   split at hq
   ·next t2 k2 l t3 k3 hh e2 e3=>
    obtain⟨⟨q1,q2,q3⟩,hk⟩:=hq;have Gx:=h.AD R3 tF e2;have hbh:=h.AD hhi aft e3;have hl0:Lo=none→l=0:=by
     rintro rfl;simp only[dQ,dh,AV.im.injEq,D.sc.injEq,Value.int.injEq]at e2;exact e2.2.2.symm
    have fin:∀(av:AV)(v:Value),(execOp a.eval o).run P w=.ok (.value v) w→fN w.heap st.us g av v→k av []→o.wp P a w (jV n0 S0 M0 w0 st o.dst k) Q':=fun av v h1 h2 h3=>h.pure_ h1 h2 h3;have KP:∀b,g.β id=some b→es.length≤g.cap id:=by
     intro b hb;have ho:=h.us.each _ r1;simp only[jn]at ho;rcases ho.2.2 with⟨h0,_⟩|⟨_,_,_,_,_,_,_,_,_,_,hc,_⟩
     rw[hb]at h0;cases h0;exact hc
    rcases r3 with⟨b,r3,r4⟩|⟨r3,rfl,rfl,r4⟩
    ·have hcb:=KP b r3;have hsl:=sY (P:=P) (w:=w) (a:=a) Gx hbh q1 q2 q3 (cap:=g.cap id-off) (by omega);have hr:(execOp a.eval o).run P w=.ok (.value (.slice (some (if g.cap id-off=l.toNat then⟨b,off*usz,none⟩else⟨b,off*usz+l.toNat*usz,none⟩)) (hh.toNat-l.toNat) (g.cap id-off-l.toNat))) w:=by
      simp only[execOp,ho,Instr.sliceAt,bS,bo ht,Instr.slice,r4,dQ,hsl,dm,qz hz,eR]
      split<;>simp_all [te]
     cases Ew:Lo with
     |none=>
      rw[Ew]at hk;have:=hl0 Ew;subst this;refine fin (.sm id off hh.toNat) _ hr ?_ (by simpa using hk);simp only[fN];refine⟨ow,nn,usz,es,r1,by omega,.inl ⟨b,r3,?_⟩⟩;simp
     |some LL=>
      rw[Ew]at hk;refine fin (.ss id (off+l.toNat) (hh.toNat-l.toNat)) _ hr ?_ (by simpa using hk);simp only[fN];refine⟨ow,nn,usz,es,r1,by omega,.inl ⟨b,if g.cap id-off=l.toNat then off*usz else off*usz+l.toNat*usz,r3,?_,?_⟩⟩
      ·intro iq;rw[ae (by omega),aT]
      rw[show g.cap id-(off+l.toNat)=g.cap id-off-l.toNat by omega]
      split<;>rfl
    have h0:hh=0:=by omega
    have h1:l=0:=by omega
    subst h0 h1;have hsl:(Instr.sliceBounds true 0 0 (lo.map a.eval) (hi.map a.eval) none).run P w=.ok (0,0,0) w:=sY (P:=P) (w:=w) (a:=a) Gx hbh q1 q2 q3 (cap:=0) (by omega);have hr:(execOp a.eval o).run P w=.ok (.value (.slice none 0 0)) w:=by
     simp only[execOp,ho,Instr.sliceAt,bS,bo ht,Instr.slice,r4,dQ,hsl,dm,qz hz,eR];simp
    cases Ew:Lo with
    |none=>
     rw[Ew]at hk;refine fin (.sm id 0 0) _ hr ?_ (by simpa using hk);simp only[fN];exact⟨ow,nn,usz,es,r1,by simp,.inr ⟨r3,trivial,trivial,trivial⟩⟩
    |some LL=>
     rw[Ew]at hk;refine fin (.ss id 0 0) _ hr ?_ (by simpa using hk);simp only[fN];exact⟨ow,nn,usz,es,r1,by simp,.inr ⟨r3,trivial,trivial⟩⟩
   exact hq.elim
  exact hq.elim
 ·next id el j e1=>
  rw[e1]at ex;unfold Iq at hq
  split at hq
  ·next nn usz es jm=>
   unfold MD at hq
   split at hq
   ·next jR iE ds hd=>
    obtain⟨rfl,hq⟩:=hq;unfold Bx at hq
    split at hq
    ·next t2 k2 l t3 k3 hh e2 e3=>
     obtain⟨⟨q1,q2,q3⟩,hk⟩:=hq;have Gx:=h.AD R3 tF e2;have hbh:=h.AD hhi aft e3;have Ee:=Fl h.us ex jm;rw[hd]at Ee;obtain⟨p,len,cap,hv,hlen,hp1,_⟩:=uT Ee;have KP:len≤cap:=by
      simp only[fN,gJ,D.fits]at Ee;obtain⟨F,jQ,hf,_⟩:=Ee;rw[gD hf,hv]at jQ;rcases jQ with⟨_,y1,rfl,_⟩|⟨_,_,_,_,_,_,_,y1,_,_,y4,_⟩
      simp at hlen;omega;simp only[cu,dK,bY]at y1;omega
     have hsl:=sY (P:=P) (w:=w) (a:=a) Gx hbh q1 q2 q3 (cap:=cap) (by omega);rw[←hlen]at hsl;have hr:(execOp a.eval o).run P w=.ok (.value (.slice (p.map fun x=>x.add (if l.toNat=cap then 0 else l.toNat*iE)) (hh.toNat-l.toNat) (cap-l.toNat))) w:=by
      simp only[execOp,ho,Instr.sliceAt,bS,bo ht,Instr.slice,hv,dQ,hsl,dm,qz hz,eR]
      by_cases hc:cap=l.toNat
      ·simp only[hc,ay];cases p<;>simp[Addr.add]
      have Ef:¬l.toNat=cap:=fun e=>hc e.symm;simp only[hc,Ef,aA]
     refine h.pure_ hr ?_ hk;have ex':=ex;simp only[fN]at ex;obtain⟨Sx,lX,KR,b,c,ty,r1,r2,r3,r4,r5,r6,r7,r8,r9⟩:=ex;simp only[fN];refine⟨true,Sx,lX,KR,b,c,ty,p,len,cap,r1,r2,r3,r4,r5,?_,by omega,by omega,rfl⟩;rw[hv]at r8;have h1:((c.toList.drop (el*lX+j)).take 1)[0]?=some (.slice p len cap):=by rw[←r8];simp[Value.cells]
     rw[dL (by omega),cZ,ah,cE]at h1;exact h1
    exact hq.elim
   exact hq.elim
  exact hq.elim
 exact hq.elim
variable {n:Nat}
def gQ.abW{g:Gh}(hu:gQ h n0 S0 M0 us g)(hn:n∉us.map (·.1)){u:U}{β:Option Nat}{cap:Nat}{v:Value}(iq:∀b∈F,b<h.size)
  (kn : F.Nodup) (HW : ∀ b ∈ F, b < n0 → M0 b) (j7 : ∀ b ∈ F, b ∉ fp g us) (o4 : ∀ b ∈ F, ¬ g.Sh b) (hz : ∀ b ∈ F, t7 h b) (Eg : jn h ((n, u) :: us) (g.add n β F v cap) n u) (yY : u.kb = true → tM n0 M0 n β cap := by simp [U.kb]) : gQ h n0 S0 M0 ((n, u) :: us) (g.add n β F v cap) ∧
   ∀av x,fN h us g av x→fN h ((n,u)::us) (g.add n β F v cap) av x:=by
 have g9:∀x∈us,x.1≠n:=fun x hx e=>hn (aB.2 ⟨x,hx,e⟩);have Eh:fp (g.add n β F v cap) us=fp g us:=by
  unfold fp;have wo:=g9;clear hu hn j7 Eg
  induction us with
  |nil=>rfl
  |cons x us ih=>
   simp only[bX];rw[ih (fun y hy=>g9 y (by simp[hy])) (fun y hy=>wo y (by simp[hy]))];simp[Gh.add,g9 x (by simp)]
 have hφn:(g.add n β F v cap).φ n=F:=by simp[Gh.add]
 have hβ:∀x∈us,(g.add n β F v cap).β x.1=g.β x.1∧(g.add n β F v cap).root x.1=g.root x.1∧(g.add n β F v cap).cap x.1=g.cap x.1:=by
  intro x hx;simp[Gh.add,g9 x hx]
 have kA:∀t b,b<h.size→g.ok t b→(g.add n β F v cap).ok t b:=by
  intro t b _ hb;rcases hb with hb|⟨i,hi,h1,h2⟩
  exact .inl hb;obtain⟨u,hm⟩:=hu.live h1;have:i≠n:=g9 _ hm;exact .inr ⟨i,hi,by simpa[Gh.add,this]using h1,by simpa[Gh.add,this]using h2⟩
 have hV:∀av x,fN h us g av x→fN h ((n,u)::us) (g.add n β F v cap) av x:=fun av x hr=>
  hr.mono (fun y hy=>bg _ hy) (fun _ _=>rfl) hβ kA
 refine⟨⟨?_,?_,?_,?_,?_,?_,?_,?_,hu.AB.cons hn (fun i hi=>by simp[Gh.add,hi]) (by simpa[Gh.add]using yY)⟩,hV⟩;simp only[lC,aH];exact⟨hn,hu.keys⟩
 ·show(((g.add n β F v cap).φ n)++fp (g.add n β F v cap) us).Nodup
  rw[hφn,Eh,aX];exact⟨kn,hu.nodup,fun x hx y hy e=>j7 x hx (e▸hy)⟩
 ·intro b hb;have hb:b∈((g.add n β F v cap).φ n)++fp (g.add n β F v cap) us:=hb;rw[hφn,Eh]at hb;rcases an.1 hb with hb|hb
  exact iq b hb;exact hu.lt b hb
 ·intro b hb iq;have hb:b∈((g.add n β F v cap).φ n)++fp (g.add n β F v cap) us:=hb;rw[hφn,Eh]at hb;rcases an.1 hb with hb|hb
  exact HW b hb iq;exact hu.low b hb iq
 intro i hi;simp only[lC,ab,cj]at hi;simp only[Gh.add,hi.1,aA];exact hu.dead i hi.2
 ·intro b hb;obtain⟨q1,q2,q3⟩:=hu.sh b hb;refine⟨q1,q2,?_⟩
  show b∉((g.add n β F v cap).φ n)++fp (g.add n β F v cap) us
  rw[hφn,Eh,an];rintro(h1|h1);exact o4 b h1 hb;exact q3 h1
 ·intro x hx;rcases ab.1 hx with rfl|hx
  exact Eg;refine(hu.each x hx).mono hx (fun y hy=>bg _ hy) (fun _ _=>rfl) hβ (by simp[Gh.add,g9 x hx]) (fun b _ hb=>hb) kA
 intro b hb;have hb:b∈((g.add n β F v cap).φ n)++fp (g.add n β F v cap) us:=hb;rw[hφn,Eh]at hb;rcases an.1 hb with hb|hb
 exact hz b hb;exact hu.fz b hb
def gQ.W6{g:Gh}(hu:gQ h n0 S0 M0 us g)(hn:n∉us.map (·.1))(hr:gJ h d F v.cells.toList)(hf:d.fits v)
  (kn : F.Nodup) (HW : ∀ b ∈ F, b < n0 → M0 b) (j7 : ∀ b ∈ F, b ∉ fp g us) (o4 : ∀ b ∈ F, ¬ g.Sh b) (hz : ∀ b ∈ F, t7 h b) : gQ h n0 S0 M0 ((n, .own d) :: us) (g.add n none F v 0) ∧
   ∀av x,fN h us g av x→fN h ((n,.own d)::us) (g.add n none F v 0) av x:=
 hu.abW hn (fun b hb=>hr.lt b hb) kn HW j7 o4 hz (by simp only[jn,Gh.add,ay];exact⟨trivial,hr,hf⟩)
def gQ.wide{h':jv}{g:Gh}(hu:gQ h n0 S0 M0 us g)(jP:h.size≤h'.size)(hh:∀b,b<h.size→h'[b]?=h[b]?)(hb:n0≤h.size)(G:List Nat)
  (hG : ∀ b ∈ G, g.Sh b ∨ (h.size ≤ b ∧ b < h'.size)) : gQ h' n0 S0 M0 us { g with Sh := fun b => g.Sh b ∨ b ∈ G } ∧
   ∀av x,fN h us g av x→fN h' us {g with Sh:=fun b=>g.Sh b∨b∈G} av x:=by
 have hU:=hu.grow (h':=h') (nus:=[]) (g':={g with Sh:=fun b=>g.Sh b∨b∈G}) jP hh (by simpa using hu.keys) (fun x _=>⟨rfl,rfl,rfl⟩) (fun x _=>rfl) (fun b hb=>Or.inl hb) ?_ (by simp[fp]) (by simp[fp]) hb
  (fun k hk=>hu.dead k (by simpa using hk)) (by simp) (by simp[fp]) (by simp)
 ·exact⟨hU,fun av x hr=>hr.grow (nus:=[]) (g':={g with Sh:=fun b=>g.Sh b∨b∈G}) hu hh (fun x _=>⟨rfl,rfl,rfl⟩) (fun x _=>rfl) (fun b hb=>Or.inl hb)⟩
 intro b hb;rcases hb with hb|hb
 exact .inl hb;rcases hG b hb with h1|h1
 exact .inl h1;exact .inr ⟨h1.1,h1.2,by simp[fp]⟩
variable {G:List Nat}{r:ud}
def Is{g:Gh}(hu:gQ h n0 S0 M0 us g){n:Nat}{v:Value}(hr:jr h r F G v)(XP:∀rs,r≠.lf rs)(kn:F.Nodup)
  (HW:∀b∈F,b<n0→M0 b) (j7:∀b∈F,b∉fp g us) (o4:∀b∈F,¬g.Sh b) (hz:∀b∈F,t7 h b) (iC:Bool) (hG:iC=true→∀b∈G,g.Sh b)
  (hf:∀x∈(jb n iC r).2,tO x.1 us=true):
  ∃g',gQ h n0 S0 M0 ((jb n iC r).2++us) g'∧fN h ((jb n iC r).2++us) g' (jb n iC r).1 v∧(∀av x,fN h us g av x→fN h ((jb n iC r).2++us) g' av x)∧
   (∀b,g'.Sh b↔g.Sh b)∧(∀b,b∈fp g' ((jb n iC r).2++us)→b∈F∨b∈fp g us):=by
 cases r with
 |own d=>
  simp only[jr]at hr;obtain⟨rfl,r1,r2⟩:=hr;simp only[jb]at hf⊢;cases hp:d.flat with
  |true=>
   have:=jC (D.mq hp) r1;subst this;simp only[ay,be];refine⟨g,hu,?_,fun av x hr=>hr,fun b=>bw,fun b hb=>.inr hb⟩;simp only[fN];exact⟨[],r1,r2,by simp⟩
  |false=>
   simp only[hp,mI,aA]at hf⊢;have hn:=jy (hf (n,.own d) (by simp));obtain⟨hU,hV⟩:=hu.W6 hn r1 r2 kn HW j7 o4 hz;refine⟨_,hU,?_,hV,fun b=>bw,?_⟩
   ·simp only[bf,be,fN];exact⟨⟨d,by simp⟩,by simp[Gh.add]⟩
   intro b hb;have g9:∀x∈us,x.1≠n:=fun x hx e=>hn (aB.2 ⟨x,hx,e⟩);simp only[bf,be,gn,ab]at hb;obtain⟨x,hx,hb⟩:=hb;rcases hx with rfl|hx
   simp only[Gh.add,ay]at hb;exact .inl hb;simp only[Gh.add,g9 x hx,aA]at hb;exact .inr (gn.2 ⟨x,hx,hb⟩)
 |sh d=>
  simp only[jr]at hr;obtain⟨rfl,r1,r2⟩:=hr;simp only[jb,be];refine⟨g,hu,?_,fun av x hr=>hr,fun b=>bw,fun b hb=>.inr hb⟩;cases iC with
  |true=>
   simp only[ay,fN];exact⟨G,r1,r2,fun b hb=>.inl (hG rfl b hb)⟩
  |false=>simp[fN]
 |lf rs=>exact absurd rfl (XP rs)
 |arr sz es=>
  simp only[jr]at hr;obtain⟨rfl,r1,r2,b,c,e,F',cs,rest,cap,rfl,rfl,r3,r4,r5,r6,r7⟩:=hr;simp only[jb]at hf⊢;have hn:=jy (hf (n,.ar true (some false) sz es) (by simp));have iq:∀x∈b::F',x<h.size:=by
   intro x hx;rcases ab.1 hx with rfl|hx
   exact(bc.1 r3).1;exact gt.lt r7 x hx
  obtain⟨hU,hV⟩:=hu.abW (u:=.ar true (some false) sz es) (β:=some b) (cap:=cap) (v:=.slice (some ⟨b,0,none⟩) es.length cap) hn iq kn HW j7 o4 hz (by
   simp only[jn,Gh.add,ay];exact⟨r1,r2,.inr ⟨b,c,e,F',cs,rest,rfl,r3,r4,r5,r6,r7,by simp,rfl⟩⟩)
  refine⟨_,hU,?_,hV,fun b=>bw,?_⟩
  ·simp only[bf,be,fN];exact⟨_,_,_,_,bD,by simp,.inl ⟨b,by simp[Gh.add],by simp[Gh.add]⟩⟩
  intro x hb;have g9:∀x∈us,x.1≠n:=fun x hx e=>hn (aB.2 ⟨x,hx,e⟩);simp only[bf,be,gn,ab]at hb;obtain⟨y,hx,hb⟩:=hb;rcases hx with rfl|hx
  simp only[Gh.add,ay]at hb;exact .inl hb;simp only[Gh.add,g9 y hx,aA]at hb;exact .inr (gn.2 ⟨y,hx,hb⟩)
 |bxs d=>
  simp only[jr]at hr;obtain⟨h0,b,c,e,cs,rest,cap,rfl,rfl,r3,r4,r5,r6,r7⟩:=hr;simp only[jb]at hf⊢;cases iC with
  |false=>
   simp only[mI,aA,be];exact⟨g,hu,by simp[fN],fun av x hr=>hr,fun b=>bw,fun b hb=>.inr hb⟩
  |true=>
   simp only[ay]at hf⊢;have hn:=jy (hf (n,.ar false (some false) d.size [d]) (by simp));have iq:∀x∈[b],x<h.size:=by
    intro x hx;rw[au.1 hx];exact(bc.1 r3).1
   obtain⟨hU,hV⟩:=hu.abW (u:=.ar false (some false) d.size [d]) (β:=some b) (cap:=cap) (v:=.pointer (some ⟨b,0,none⟩)) hn iq kn HW j7 o4 hz (by
    simp only[jn,Gh.add,ay];refine⟨by simp[gz],by simp,.inr ⟨b,c,e,G,cs,rest,rfl,r3,r4,r5,by simpa using r6,?_,by simp,?_⟩⟩
    ·simp only[gt];exact⟨G,[],cs,[],by simp,by simp,r7,⟨rfl,rfl⟩⟩
    simp only[mI,aA];exact⟨trivial,fun x hx=>hG rfl x hx⟩)
   refine⟨_,hU,?_,hV,fun b=>bw,?_⟩
   ·simp only[bf,be,fN];exact⟨_,_,_,_,b,bD,by simp,h0,by simp[Gh.add],by simp⟩
   intro x hb;have g9:∀x∈us,x.1≠n:=fun x hx e=>hn (aB.2 ⟨x,hx,e⟩);simp only[bf,be,gn,ab]at hb;obtain⟨y,hx,hb⟩:=hb;rcases hx with rfl|hx
   simp only[Gh.add,ay]at hb;exact .inl hb;simp only[Gh.add,g9 y hx,aA]at hb;exact .inr (gn.2 ⟨y,hx,hb⟩)
def xr{k:Nat}:∀{a b:List (Nat×U)},tO k (a++b)=(tO k a&&tO k b)
 | [],_=>by simp[tO]
 |(i,u)::r,b=>by simp only[bf,tO,xr,Bool.and_assoc]
def yf{st:St}:∀{a b:List (Nat×U)},st.fresh (a++b)=true→st.fresh a=true∧st.fresh b=true∧∀x∈a,tO x.1 b=true
 | [],b,h=>by simpa[St.fresh]using h
 |x::r,b,h=>by
  simp only[bf,St.fresh,bA,xr]at h;obtain⟨⟨h1,h2,h3⟩,h4⟩:=h;obtain⟨q1,q2,q3⟩:=yf h4;refine⟨by simp[St.fresh,h1,h2,q1],q2,?_⟩;intro y hy;rcases ab.1 hy with rfl|hy
  exact h3;exact q3 y hy
def Al{st:St}:∀{a:List (Nat×U)},st.fresh a=true→∀x∈a,tO x.1 st.us=true
 | [],_=>by simp
 |x::r,h=>by
  simp only[St.fresh,bA]at h;intro y hy;rcases ab.1 hy with rfl|hy
  exact h.1.1;exact Al h.2 y hy
def ad4(n:Nat)(iC:Bool)(r:ud):AV×List (Nat×U):=
 match r with
 |.own d=>if d.flat then(.im none d,[])else(.tr n,[(n,.own d)])
 |.sh d=>(if iC then .im none d else .any,[])
 |.arr sz es=>(.sm n 0 es.length,[(n,.ar true (some false) sz es)])
 |.bxs d=>if iC then(.pw n 0 0,[(n,.ar false (some false) d.size [d])])else(.any,[])
 |.lf _=>(.any,[])
def Ms{iC:Bool}{rs:List ud}:jb.qK iC n (r::rs)=ad4 n iC r::jb.qK iC (n+1000) rs:=rfl
def FG{iC:Bool}{st:St}:∀{rs:List ud} {n:Nat} {F G:List Nat} {vs:List Value} {g:Gh},gQ h n0 S0 M0 st.us g→ke h rs F G vs→F.Nodup→
  (∀b∈F,b<n0→M0 b)→(∀b∈F,b∉fp g st.us)→(∀b∈F,¬g.Sh b)→(∀b∈F,t7 h b)→(iC=true→∀b∈G,g.Sh b)→st.fresh ((jb.qK iC n rs).map (·.2)).flatten=true→
  ∃g',gQ h n0 S0 M0 (((jb.qK iC n rs).map (·.2)).flatten++st.us) g'∧fT h (((jb.qK iC n rs).map (·.2)).flatten++st.us) g' ((jb.qK iC n rs).map (·.1)) vs∧
   (∀av x,fN h st.us g av x→fN h (((jb.qK iC n rs).map (·.2)).flatten++st.us) g' av x)∧(∀b,g'.Sh b↔g.Sh b)∧
   (∀b,b∈fp g' (((jb.qK iC n rs).map (·.2)).flatten++st.us)→b∈F∨b∈fp g st.us)
 | [],n,F,G,vs,g,hu,hr,_,_,_,_,_,_,_=>by
  simp only[ke]at hr;simp only[jb.qK,lN,List.flatten_nil,be,fT];exact⟨g,hu,hr.2.2,fun _ _ h=>h,fun _=>bw,fun b hb=>.inr hb⟩
 |r::rs,n,F,G,vs,g,hu,hr,kn,HW,j7,o4,hz,hG,hf=>by
  simp only[ke]at hr;obtain⟨F1,F2,G1,G2,v,ws,rfl,rfl,rfl,r1,r2⟩:=hr;rw[aX]at kn;rw[Ms]at hf⊢;simp only[lC,bV]at hf⊢;obtain⟨f1,f2,f3⟩:=yf hf;obtain⟨g1,u1,v1,m1,s1,p1⟩:=FG hu r2 kn.2.1 (fun b hb=>HW b (by simp[hb])) (fun b hb=>j7 b (by simp[hb])) (fun b hb=>o4 b (by simp[hb])) (fun b hb=>hz b (by simp[hb])) (fun e b hb=>hG e b (by simp[hb])) f2;have hF1:∀b∈F1,b∉fp g1 (((jb.qK iC (n+1000) rs).map (·.2)).flatten++st.us):=by
   intro b hb qM;rcases p1 b qM with h1|h1
   exact kn.2.2 b hb b h1 rfl;exact j7 b (by simp[hb]) h1
  by_cases ht:∃q,r=.lf q
  ·obtain⟨q,rfl⟩:=ht;simp only[ad4,be];refine⟨g1,u1,?_,m1,s1,fun b hb=>(p1 b hb).imp (fun h=>by simp[h]) id⟩;simp only[fT];exact⟨v,ws,rfl,by simp[fN],v1⟩
  have e:ad4 n iC r=jb n iC r:=by cases r<;>first|rfl|exact absurd ⟨_,rfl⟩ ht
  rw[e]at f1 f3⊢;obtain⟨g2,u2,v2,m2,s2,p2⟩:=Is (n:=n) u1 r1 (fun q hq=>ht ⟨q,hq⟩) kn.1 (fun b hb=>HW b (by simp[hb])) hF1 (fun b hb=>by rw[s1];exact o4 b (by simp[hb])) (fun b hb=>hz b (by simp[hb])) iC
   (fun e b hb=>by rw[s1];exact hG e b (by simp[hb])) (fun x hx=>by rw[xr,f3 x hx,Al f1 x hx];rfl)
  rw[bC];refine⟨g2,u2,?_,fun av x h=>m2 _ _ (m1 _ _ h),fun b=>(s2 b).trans (s1 b),?_⟩
  ·simp only[fT];refine⟨v,ws,rfl,v2,?_⟩;have:∀{as:List AV} {xs:List Value},fT h (((jb.qK iC (n+1000) rs).map (·.2)).flatten++st.us) g1 as xs→fT h ((jb n iC r).2++(((jb.qK iC (n+1000) rs).map (·.2)).flatten++st.us)) g2 as xs:=by
    intro as
    induction as with
    |nil=>intro xs h;simpa[fT]using h
    |cons a as ih=>
     intro xs h;simp only[fT]at h⊢;obtain⟨v,r,h1,h2,h3⟩:=h;exact⟨v,r,h1,m2 _ _ h2,ih h3⟩
   exact this v1
  intro b hb;rcases p2 b hb with h1|h1
  exact .inl (by simp[h1]);exact(p1 b h1).imp (fun h=>by simp[h]) id
def Jy{st:St}{g:Gh}(hu:gQ h n0 S0 M0 st.us g){n:Nat}(hr:jr h r F G v)(kn:F.Nodup)
  (HW:∀b∈F,b<n0→M0 b) (j7:∀b∈F,b∉fp g st.us) (o4:∀b∈F,¬g.Sh b) (hz:∀b∈F,t7 h b) (iC:Bool) (hG:iC=true→∀b∈G,g.Sh b)
  (hf:(jb n iC r).2=[]∨st.fresh (jb n iC r).2=true):
  ∃g',gQ h n0 S0 M0 ((jb n iC r).2++st.us) g'∧fN h ((jb n iC r).2++st.us) g' (jb n iC r).1 v∧(∀av x,fN h st.us g av x→fN h ((jb n iC r).2++st.us) g' av x):=by
 have KV:st.fresh (jb n iC r).2=true:=by
  rcases hf with h|h
  rw[h];rfl;exact h
 by_cases ht:∃q,r=.lf q
 ·obtain⟨q,rfl⟩:=ht;simp only[jr]at hr;obtain⟨vs,rfl,hr⟩:=hr;simp only[jb]at KV⊢;obtain⟨g',h1,h2,h3,_,_⟩:=FG hu hr kn HW j7 o4 hz hG KV;exact⟨g',h1,by simp only[fN];exact⟨vs,rfl,h2⟩,h3⟩
 obtain⟨g',h1,h2,h3,_,_⟩:=Is hu hr (fun q hq=>ht ⟨q,hq⟩) kn HW j7 o4 hz iC hG (fun x hx=>Al KV x hx);exact⟨g',h1,h2,h3⟩
def ni{g:Gh}(h:g.ok none b):g.Sh b:=by
 rcases h with h|⟨i,hi,_⟩
 exact h;cases hi
def C8:∀{items:List AV} {vs:List Value} {ds:List D},fT h us g items vs→w7 sz items=some ds→
  ∃F,gt h ds F (vs.map (·.cells.toList)).flatten∧(∀d∈ds,d.size=sz)∧ds.length=items.length
 | [],vs,ds,hr,hd=>by
  simp only[fT]at hr;simp only[w7,oS]at hd;subst hr hd;exact⟨[],by simp[gt],by simp,rfl⟩
 |av::items,vs,ds,hr,hd=>by
  simp only[fT]at hr;obtain⟨v,r,rfl,h1,h2⟩:=hr;unfold w7 at hd
  split at hd
  ·next heq=>cases heq
  ·next d r' heq=>
   injection heq with e1 e2;subst e1 e2
   split at hd
   ·next hs=>
    split at hd
    ·next lQ ot=>
     injection hd with hd;subst hd;obtain⟨F,i1,i2,i3⟩:=C8 h2 ot;simp only[fN]at h1;obtain⟨F1,q1,_,_⟩:=h1;refine⟨F1++F,?_,by simp;exact⟨hs,i2⟩,by simp[i3]⟩;simp only[lC,bV,gt];exact⟨F1,F,_,_,rfl,rfl,q1,i1⟩
    cases hd
   cases hd
  cases hd
def kN(hu:gQ h n0 S0 M0 us g)(g9:(∀f vs,av≠.cl f vs)∧∀vs,av≠.sg vs)(hr:fN h us g av v)(hd:av.arg (lu us)=some d):
  ∃F,gJ h d F v.cells.toList∧d.fits v∧(av.shared=true→∀b∈F,g.Sh b):=by
 unfold AV.arg at hd
 split at hd
 ·next t e=>
  obtain rfl:=aD hd;simp only[fN]at hr;obtain⟨F,r1,r2,r3⟩:=hr;refine⟨F,r1,r2,fun hs b hb=>?_⟩;cases t with
  |none=>exact ni (r3 b hb)
  |some i=>
   simp only[AV.shared,bA]at hs;rw[jC hs.2 r1]at hb;cases hb
 ·next i=>
  split at hd
  ·next d' jm=>
   obtain rfl:=aD hd;have:=acl hu hr jm;simp only[fN]at this;obtain⟨F,r1,r2,r3⟩:=this;exact⟨F,r1,r2,by simp[AV.shared]⟩
  cases hd
 ·next id el j sz agg=>
  split at hd
  ·next nn usz es jm=>
   obtain rfl:=aD hd;have:=Fl hu hr jm;simp only[fN]at this;obtain⟨F,r1,r2,r3⟩:=this;exact⟨F,r1,r2,by simp[AV.shared]⟩
  cases hd
 ·next id el j=>
  split at hd
  ·next ow nn usz es jm=>
   obtain rfl:=aD hd;simp only[fN]at hr;obtain⟨ow',jR,nf,es',b,r1,r2,r3,r4,rfl⟩:=hr;have:=hu.uniq r1 (f7 jm);injection this with e1 e2 e3 e4;subst e1;subst e2;subst e3;subst e4;have ho:=hu.each _ r1;simp only[jn]at ho;obtain⟨_,hs,ho⟩:=ho;rcases ho with⟨h0,_⟩|⟨b',c,e,G,cs,rest,k1,k2,k3,k4,k5,k6,k7,k8⟩
   rw[r4]at h0;cases h0;rw[r4]at k1;obtain rfl:=aD k1;obtain⟨F1,F2,F3,c1,c2,c3,g1,g2,p1,p2,p3⟩:=k6.pick r2;have jP:(es'[el]).size=nf:=hs _ (aF r2);have l1:c1.length=el*nf:=by
    rw[p1.length,D.gk (sz:=nf) fun d hd=>hs d (aY hd),a8,bh (di r2)]
   have l2:=p2.length;rw[D.qL r2];refine⟨b::F2,?_,by simp[D.fits,Value.oneCell'],by simp[AV.shared]⟩;unfold gJ;have hlen:c.toList.length=c.size:=by simp
   refine⟨b,el*nf,c,e,(0,0),F2,by simp[Value.cells],rfl,by omega,k2,?_,?_⟩;rw[k3,g2]at hlen;simp only[lP,l1,l2]at hlen;omega;have:(c.toList.drop (el*nf)).take ((es'[el]).size)=c2:=by
    rw[k3,g2,←l1,←l2];simp
   rw[this];exact p2
  cases hd
 ·next id off len=>
  split at hd
  ·next ow nn usz es jm=>
   obtain rfl:=aD hd;simp only[fN]at hr;obtain⟨ow',jR,nf,es',r1,r2,r3⟩:=hr;have:=hu.uniq r1 (f7 jm);injection this with e1 e2 e3 e4;subst e1;subst e2;subst e3;subst e4;have ho:=hu.each _ r1;simp only[jn]at ho;obtain⟨nJ,hs,ho⟩:=ho;have hlen:((es'.drop off).take len).length=len:=by simp;omega
   rcases r3 with⟨b,r3,rfl⟩|⟨r3,rfl,rfl,rfl⟩
   ·rcases ho with⟨h0,_⟩|⟨b',c,e,G,cs,rest,k1,k2,k3,k4,k5,k6,k7,k8⟩
    rw[r3]at h0;cases h0;rw[r3]at k1;obtain rfl:=aD k1;have Cc:es'=es'.take off++((es'.drop off).take len++(es'.drop off).drop len):=by rw[bu,bu]
    have k6':gt h (es'.take off++((es'.drop off).take len++(es'.drop off).drop len)) G cs:=by rw[←Cc];exact k6
    obtain⟨F1,F23,c1,c23,g1,g2,s1,R2⟩:=k6'.split;obtain⟨F2,F3,c2,c3,rfl,rfl,s2,s3⟩:=R2.split;have hm:∀d∈(es'.drop off).take len,d.size=nf:=fun d hd=>hs d (bt (aY hd));have l1:c1.length=off*nf:=by
     rw[s1.length,D.gk (sz:=nf) fun d hd=>hs d (aY hd),a8,bh (by omega)]
    have l2:c2.length=len*nf:=by rw[s2.length,D.gk hm,hlen]
    refine⟨b::F2,?_,rfl,by simp[AV.shared]⟩;unfold gJ;refine .inr ⟨b,off*nf,g.cap id-off,c,e,(0,0),F2,by simp[Value.cells,hlen],rfl,?_,by rw[hlen];omega,by rw[hlen];omega,k2,?_,hm,?_⟩
    ·split
     exact k7;simp
    rw[k4,←aT];exact aZ _ (by omega);rw[hlen,k3,g2,←l1,←l2];simpa using s2
   rcases ho with⟨_,rfl,h3,h4⟩|⟨b',c,e,G,cs,rest,k1,_⟩
   ·refine⟨[],?_,rfl,by simp⟩;unfold gJ;refine .inl ⟨none,by simp[Value.cells],by simp,rfl,fun _=>?_,by simp⟩
    split;exact h4;simp
   rw[r3]at k1;cases k1
  cases hd
 ·next id off len=>
  split at hd
  ·next ow nn usz es jm=>
   obtain rfl:=aD hd;obtain⟨F,r1⟩:=ahD hu hr jm;refine⟨F,r1,?_,by simp[AV.shared]⟩;simp only[fN]at hr;obtain⟨_,_,_,_,_,_,⟨_,_,_,_,rfl⟩|⟨_,_,rfl⟩⟩:=hr<;>rfl
  cases hd
 ·next id len=>
  split at hd
  ·next sz items jm=>
   split at hd
   ·next hlen=>
    split at hd
    ·next ds ot=>
     obtain rfl:=aD hd;simp only[fN]at hr;obtain⟨gV,iT,b,r1,r2,r3,rfl⟩:=hr;have:=hu.uniq r1 (f7 jm);injection this with e1 e2;subst e1;subst e2;have ho:=hu.each _ r1;simp only[jn]at ho;obtain⟨nJ,b',c,e,vs,rest,k1,k2,k3,k4,k5,k6⟩:=ho;rw[r3]at k1;obtain rfl:=aD k1;obtain⟨F,p1,p2,p3⟩:=C8 k4 ot;have hl:=p1.length;rw[D.gk p2]at hl;refine⟨b::F,?_,rfl,by simp[AV.shared]⟩;unfold gJ;have sC:ds.length*gV≤c.size:=by
      have:c.toList.length=c.size:=by simp
      rw[k6,lP]at this;omega
     refine .inr ⟨b,0,len,c,e,(0,0),F,by simp[Value.cells,p3,hlen],rfl,by simp,by omega,by omega,k2,by rw[p3,←hlen]at sC;omega,p2,?_⟩;rw[aJ,k6,bZ hl];exact p1
    cases hd
   cases hd
  cases hd
 ·next id el j iE off len=>
  split at hd
  ·next nn usz es jm=>
   have:=ace hu hr jm hd;simp only[fN]at this;obtain⟨F,r1,r2,r3⟩:=this;exact⟨F,r1,r2,by simp[AV.shared]⟩
  cases hd
 ·next id el j iE jj j'=>
  split at hd
  ·next nn usz es jm=>
   unfold agt at hd
   split at hd
   ·next jR sz ds ot=>
    split at hd
    ·next hz=>
     obtain⟨rfl,h1,h2⟩:=hz;obtain rfl:=aD hd;obtain⟨this,_⟩:=aca hu hr jm ot h1 h2;simp only[fN]at this;obtain⟨F,r1,r2,r3⟩:=this;exact⟨F,r1,r2,by simp[AV.shared]⟩
    cases hd
   cases hd
  cases hd
 ·next f vs=>exact absurd rfl (g9.1 f vs)
 ·next nn sz=>
  obtain rfl:=aD hd;simp only[fN]at hr;obtain⟨p,rfl,r1,r2⟩:=hr;refine⟨[],?_,by simp[D.fits,Value.oneCell'],by simp⟩;unfold gJ;exact .inl ⟨p,by simp[Value.cells],rfl,rfl,r1,r2⟩
 ·next vs=>exact absurd rfl (g9.2 vs)
 cases hd;cases hd;cases hd;cases hd
def C7:∀{ds:List D} {F:List Nat} {vs:List Value},nQ h ds F vs→gt h ds F (vs.map (·.cells.toList)).flatten
 | [],F,vs,hr=>by
  rw[JI]at hr;obtain⟨rfl,rfl⟩:=hr;simp[gt]
 |d::ds,F,vs,hr=>by
  rw[vB]at hr;obtain⟨F1,F2,v,r,rfl,rfl,h1,_,h2⟩:=hr;rw[jX];exact⟨F1,F2,_,_,rfl,by simp only[lC,bV],h1,C7 h2⟩
mutual
def Ca(hu:gQ h n0 S0 M0 us g):∀{av:AV} {v:Value} {d:D},fN h us g av v→av.arg (lu us)=some d→
  ∃F,gJ h d F v.cells.toList∧d.fits v∧(av.shared=true→∀b∈F,g.Sh b)
 |.cl f vs,v,d,hr,hd=>by
  simp only[AV.arg]at hd
  split at hd
  ·next ds ot=>
   obtain rfl:=aD hd;simp only[fN]at hr;obtain⟨xs,h1,rfl⟩:=hr;obtain⟨F,q1,q2⟩:=z9 hu h1 ot;refine⟨F,?_,by simp[D.fits,Value.oneCell'],fun hs=>q2 (by simpa[AV.shared]using hs)⟩;simp only[gJ];exact⟨xs,by simp[Value.cells],q1⟩
  cases hd
 |.im _ _,_,_,hr,hd=>kN hu (by simp) hr hd
 |.tr _,_,_,hr,hd=>kN hu (by simp) hr hd
 |.pw _ _ _,_,_,hr,hd=>kN hu (by simp) hr hd
 |.cw _ _ _ _ _,_,_,hr,hd=>kN hu (by simp) hr hd
 |.sm _ _ _,_,_,hr,hd=>kN hu (by simp) hr hd
 |.vb _ _,_,_,hr,hd=>kN hu (by simp) hr hd
 |.pb _ _,_,_,hr,hd=>kN hu (by simp) hr hd
 |.ps _,_,_,hr,hd=>kN hu (by simp) hr hd
 |.sg vs,v,d,hr,hd=>by
  simp only[AV.arg]at hd
  split at hd
  ·next ds ot=>
   unfold sgD at hd
   split at hd
   ·next iy=>
    obtain rfl:=aD hd;simp only[fN]at hr;obtain⟨xs,h1,rfl⟩:=hr;obtain⟨F,q1,q2⟩:=z9 hu h1 ot;refine⟨F,?_,by simp[D.fits,Value.cells],fun hs=>by simp[AV.shared]at hs⟩;simp only[gJ];rw[aM]at iy;refine⟨fun d hd=>?_,by simpa[Value.cells]using C7 q1⟩;have:=iy d hd;simpa using this
   cases hd
  cases hd
 |.lf _,_,_,hr,hd=>kN hu (by simp) hr hd
 |.any,_,_,hr,hd=>kN hu (by simp) hr hd
 |.pq _ _ _ _ _ _,_,_,hr,hd=>kN hu (by simp) hr hd
 |.qs _ _ _ _ _ _,_,_,hr,hd=>kN hu (by simp) hr hd
 |.ss _ _ _,_,_,hr,hd=>kN hu (by simp) hr hd
 |.z0 _ _,_,_,hr,hd=>kN hu (by simp) hr hd
def z9(hu:gQ h n0 S0 M0 us g):∀{avs:List AV} {vs:List Value} {ds:List D},fT h us g avs vs→kI (lu us) avs=some ds→
  ∃F,nQ h ds F vs∧(AV.Cb avs=true→∀b∈F,g.Sh b)
 | [],vs,ds,hr,hd=>by
  simp only[kI,oS]at hd;subst hd;simp only[fT]at hr;subst hr;exact⟨[],by simp[nQ],by simp⟩
 |av::avs,vs,ds,hr,hd=>by
  simp only[fT]at hr;obtain⟨v,r,rfl,r1,r2⟩:=hr;simp only[kI]at hd
  split at hd
  ·next d lQ h1 h2=>
   obtain rfl:=aD hd;obtain⟨F1,p1,p2,p3⟩:=Ca hu r1 h1;obtain⟨F2,q1,q2⟩:=z9 hu r2 h2;refine⟨F1++F2,vB.2 ⟨F1,F2,v,r,rfl,rfl,p1,p2,q1⟩,fun hs b hb=>?_⟩;simp only[AV.Cb,bA]at hs;rcases an.1 hb with hb|hb
   exact p3 hs.1 b hb;exact q2 hs.2 b hb
  cases hd
end
def xD{st:St}{a:Act}{g:Gh}(hv:∀t,fN h us g (lk st.env t) (a.tmps.getD t undef)):∀{xs:List Operand} {ts:List TypeId} {Xs:List X},
  xs.length=ts.length→(xs.zip ts).mapM (fun p=>gG P p.2 p.1)=some Xs→fT h us g (Xs.map st.ev) (xs.map a.eval)
 | [],ts,Xs,_,hx=>by
  simp at hx;subst hx;simp[fT]
 |x::xs,[],Xs,hl,_=>by simp at hl
 |x::xs,t::ts,Xs,hl,hx=>by
  simp only[List.zip_cons_cons,da,oD,oB,oP,oS]at hx;obtain⟨X,h1,Xs',h2,rfl⟩:=hx;simp only[lC,fT];exact⟨_,_,rfl,J1 hv h1,xD hv (by simpa using hl) h2⟩
def FW(hu:gQ h n0 S0 M0 us g)(jL:Nat→Prop):∀{avs:List AV} {vs:List Value} {ds es:List D},fT h us g avs vs→kI (lu us) avs=some ds→D.XN ds es→
  (LA avs ds=false→∀b,b<h.size→jL b)→(∀b,g.Sh b→jL b)→je h jL es vs
 | [],vs,ds,es,hr,hd,hl,_,_=>by
  simp only[kI,oS]at hd;subst hd;cases es with
  |nil=>simpa[fT,je]using hr
  |cons e es=>simp[D.XN]at hl
 |av::avs,vs,ds,es,hr,hd,hl,ho,ho'=>by
  simp only[fT]at hr;obtain⟨v,r,rfl,r1,r2⟩:=hr;simp only[kI]at hd
  split at hd
  ·next d lQ h1 h2=>
   obtain rfl:=aD hd;cases es with
   |nil=>simp[D.XN]at hl
   |cons e es=>
    simp only[D.XN]at hl;obtain⟨F,p1,p2,p3⟩:=Ca hu r1 h1;simp only[je];obtain⟨F',q1,q2⟩:=hl.1.1 _ _ _ p1;refine⟨v,r,F',rfl,q1,hl.1.2 _ p2,?_,FW hu jL r2 h2 hl.2 (fun hs=>ho (by simp[LA,hs])) ho'⟩;intro b hb;have R4:=q2 b hb;cases hs:av.OL d with
    |true=>
     unfold AV.OL at hs
     split at hs;have:=jC hs p1;subst this;cases R4;have:=jC hs p1;subst this;cases R4;exact ho' b (p3 hs b R4)
    |false=>exact ho (by simp[LA,hs]) b (p1.lt b R4)
  cases hd
def LW(h:At n0 S0 M0 w0 st o a w g){f:Nat}{avs:List AV}{vs:List Value}(hH:mN P f→(execOp a.eval o).run P w=.ok (.enter f vs.toArray) w)(hr:fT w.heap st.us g avs vs)
  (hq:acf P o.dst f avs st.unit k):o.wp P a w (jV n0 S0 M0 w0 st o.dst k) Q':=by
 obtain⟨ds,es,r,hd,hl,⟨rh,hA⟩,hk⟩:=hq
 dsimp only at hk
 unfold Oper.wp;rw[hH rh,eV];have hs:=h.sat;have W7:n0≤w.heap.size:=by rw[hs.base];exact hs.size
 let jL:Nat→Prop:=fun b=>if LA avs ds=true then g.Sh b else b<w.heap.size
 have hold:je w.heap jL es vs:=by
  refine FW h.us jL hr hd hl (fun hf b hb=>?_) (fun b hb=>?_);simp only[jL,hf,mI,aA];exact hb;simp only[jL]
  split;exact hb;exact(h.us.sh b hb).1
 refine(hA w vs jL hold).mono ?_;rintro e w' ⟨v,F,G,rfl,hB,hR,kn,hF,hG⟩;have hh:∀b,b<w.heap.size→w'.heap[b]?=w.heap[b]?:=fun b hb=>hB.block b hb;refine⟨_,_,hk,fun hf=>?_⟩;have key:∀G':List Nat,(∀b∈G',b∈G)→(∀b∈G',g.Sh b∨(w.heap.size≤b∧b<w'.heap.size))→(LA avs ds=true→∀b∈G,b∈G')→
   k9 n0 S0 M0 w0 ((st.kc (jb (o.dst.getD 0) (LA avs ds) r).2).mu o.dst (jb (o.dst.getD 0) (LA avs ds) r).1) (a.put o.dst v) w':=by
  intro G' jS hG' iy;obtain⟨hU,hV⟩:=h.us.wide hB.size hh W7 G' hG';obtain⟨g2,Nn,R5,W8⟩:=Jy (st:=st) hU (n:=o.dst.getD 0) hR kn (fun b hb iq=>by have:=(hF b hb).1;omega)
   (fun b hb j7 => by
    have h1:=(hF b hb).1;have h2:b∈fp g st.us:=j7;have:=h.us.lt b h2;omega)
   (fun b hb o4 => by
    have h1:=hF b hb;rcases o4 with h2|h2
    have:=(h.us.sh b h2).1;omega;exact h1.2.1 (jS b h2))
   (fun b hb=>(hF b hb).2.2)
   (LA avs ds) (fun e b hb=>.inr (iy e b hb)) hf
  have hS2:k9 n0 S0 M0 w0 (st.kc (jb (o.dst.getD 0) (LA avs ds) r).2) a w':=by
   refine⟨hs.ms,hs.v8,hs.tm,hs.base,hB.os.trans hs.os,hB.tape.trans hs.tape,hB.output.trans hs.output,cB hs.size hB.size,?_,g2,Nn,fun t=>W8 _ _ (hV _ _ (h.rep t))⟩;intro b hb hm;rw[←hs.jL b hb hm];exact hh b (by omega)
  exact jY hS2 (g:=g2) Nn (fun t=>W8 _ _ (hV _ _ (h.rep t))) h.dst R5
 cases iy:LA avs ds with
 |true=>
  rw[←iy];refine key G (fun b hb=>hb) (fun b hb=>?_) (fun _ b hb=>hb);rcases hG b hb with h1|h1
  exact .inr h1
  left;simpa[jL,iy]using h1
 |false=>
  rw[←iy];exact key [] (by simp) (by simp) (by rw[iy];simp)
def yQ{α β:Type}{f:α→Option β}:∀{l:List α} {r:List β},l.mapM f=some r→r.length=l.length
 | [],r,h=>by simp at h;subst h;rfl
 |x::l,r,h=>by
  simp only[da,oD,oB,oP,oS]at h;obtain⟨y,_,ys,h2,rfl⟩:=h;simp[yQ h2]
def xi:∀{as bs:List AV} {xs ys:List Value},fT h us g as xs→fT h us g bs ys→fT h us g (as++bs) (xs++ys)
 | [],bs,xs,ys,h1,h2=>by simp only[fT]at h1;subst h1;simpa using h2
 |a::as,bs,xs,ys,h1,h2=>by
  simp only[fT]at h1;obtain⟨v,r,rfl,q1,q2⟩:=h1;simp only[bf,fT];exact⟨v,_,rfl,q1,xi q2 h2⟩
def Jj{t:Option Nat}:∀{ds:List D} {F:List Nat} {vs:List Value},nQ h ds F vs→(∀b∈F,g.ok t b)→fT h us g (ds.map (.im t)) vs
 | [],_,_,hr,_=>by simp only[nQ]at hr;simp[fT,hr.2]
 |d::ds,_,_,hr,hk=>by
  simp only[nQ]at hr;obtain⟨F1,F2,v,r,rfl,rfl,h1,h2,h3⟩:=hr;simp only[lC,fT];refine⟨v,r,rfl,?_,Jj h3 fun b hb=>hk b (by simp[hb])⟩;simp only[fN];exact⟨F1,h1,h2,fun b hb=>hk b (by simp[hb])⟩
def agS(h:At n0 S0 M0 w0 st o a w g){f:Nat}{cap:Array Operand}{Xs:List Ax.X}(ho:o.op=.makeFunc (.func f) #[] cap)(hx:cap.toList.mapM (fun x=>gG P 0 x)=some Xs)
  (hq:k (.cl f (Xs.map st.ev)) []):o.wp P a w (jV n0 S0 M0 w0 st o.dst k) Q':=by
 refine h.pure_ (v:=.func (.func f) #[] (cap.map a.eval)) (by simp[execOp,ho,Instr.makeFunc]) ?_ hq;simp only[fN];have key:∀{l:List Operand} {Xs:List Ax.X},l.mapM (fun x=>gG P 0 x)=some Xs→fT w.heap st.us g (Xs.map st.ev) (l.map a.eval):=by
  intro l
  induction l with
  |nil=>intro Xs hx;simp at hx;subst hx;simp[fT]
  |cons x l ih=>
   intro Xs hx;simp only[da,oD,oB,oP,oS]at hx;obtain⟨X,h1,Xs',h2,rfl⟩:=hx;simp only[lC,fT];exact⟨_,_,rfl,h.ev_ h1,ih h2⟩
 exact⟨cap.toList.map a.eval,key hx,by congr 1;apply aR;simp⟩
variable {f:AV→Bool}
def jT{k:Nat}:∀{us:List (Nat×U)} {i:Nat} {u:U},(i,u)∈us→i≠k→(i,u.kill f)∈gu k f us
 |(j,v)::r,i,u,h,g9=>by
  simp only[gu];rcases ab.1 h with e|h
  ·injection e with e1 e2;subst e1;subst e2;rw[ae g9];simp
  split
  exact jT h g9;exact bg _ (jT h g9)
def gF{k:Nat}:∀{us:List (Nat×U)} {x:Nat×U},x∈gu k f us→x.1≠k∧∃u,(x.1,u)∈us∧x.2=u.kill f
 | [],x,h=>by simp[gu]at h
 |(j,v)::r,x,h=>by
  simp only[gu]at h
  split at h;obtain⟨h1,u,h2,h3⟩:=gF h;exact⟨h1,u,bg _ h2,h3⟩
  next g9=>
  rcases ab.1 h with rfl|h
  ·exact⟨g9,v,by simp,rfl⟩
  obtain⟨h1,u,h2,h3⟩:=gF h;exact⟨h1,u,bg _ h2,h3⟩
def gI{k:Nat}:∀{us:List (Nat×U)},(gu k f us).map (·.1)=(us.map (·.1)).filter (fun i=>decide (i≠k))
 | []=>rfl
 |(j,v)::r=>by
  simp only[gu]
  split
  ·next h=>simp[h,gI (us:=r)]
  next h=>simp[h,gI (us:=r)]
variable {u:U}
def U.sD:(u.kill f).kb=u.kb:=by
 cases u with
 |ar ow nn sz es=>cases nn<;>rfl
 |_=>rfl
variable {g':Gh}
def mV.kill{g:Gh}{k:Nat}(h:mV n0 M0 us g)(hg:∀i,i≠k→g'.β i=g.β i∧g'.cap i=g.cap i):mV n0 M0 (gu k f us) g':=
 h.mono fun i u hm hp=>by
  obtain⟨h1,u,h2,h3⟩:=gF hm;simp only at h1 h3;rw[h3,U.sD]at hp;exact⟨⟨_,h2,hp⟩,hg i h1⟩
def mV.iD{g:Gh}{k:Nat}{f:AV→Bool}{u':U}(h:mV n0 M0 us g)(hg:∀i,g'.β i=g.β i∧g'.cap i=g.cap i)
  (hl:u'.kb=true→tM n0 M0 k (g.β k) (g.cap k)):mV n0 M0 ((k,u')::gu k f us) g':=by
 rintro i v hi ⟨u,hm,hp⟩;rw[(hg _).1,(hg _).2];rcases ab.1 hm with e|hm
 ·injection e with e1 e2;have:=hl (e2▸hp) i v hi e1.symm;rw[←e1]at this;exact this
 obtain⟨h1,u',h2,h3⟩:=gF hm;simp only at h1 h3;rw[h3,U.sD]at hp;exact h i v hi ⟨_,h2,hp⟩
def mV.OO{g:Gh}{k:Nat}{f:AV→Bool}{u':U}(h:mV n0 M0 us g)(hm:(k,u)∈us)(hg:∀i,g'.β i=g.β i∧g'.cap i=g.cap i)
  (hl:u'.kb=true→u.kb=true):mV n0 M0 ((k,u')::gu k f us) g':=h.iD hg fun e=>h.at hm (hl e)
def mH:∀{l:List AV},(pQ f l).length=l.length
 | []=>rfl
 |v::r=>by simp[pQ,mH (l:=r)]
structure Keep (k:Nat) (f:AV→Bool) (h h':jv) (us us':List (Nat×U)) (g g':Gh):Prop where
 mem:∀i u,(i,u)∈us→i≠k→(i,u.kill f)∈us'
 β:∀i,i≠k→g'.β i=g.β i∧g'.root i=g.root i∧g'.cap i=g.cap i
 gX:∀i u b,(i,u)∈us→i≠k→g.β i=some b→h'[b]?=h[b]?
 im:∀t d F cs,t≠some k→gJ h d F cs→(∀b∈F,g.ok t b)→gJ h' d F cs∧∀b∈F,g'.ok t b
variable {us':List (Nat×U)}
mutual
def fN.jB{k:Nat}{g:Gh}(H:Keep k f h h' us us' g g'):∀{av:AV} {v:Value},av.refs k=false→fN h us g av v→fN h' us' g' av v
 |.im t d,v,hf,hr=>by
  simp only[AV.refs,cb]at hf;simp only[fN]at hr⊢;obtain⟨F,h1,h2,h3⟩:=hr;obtain⟨q1,q2⟩:=H.im t d F _ hf h1 h3;exact⟨F,q1,h2,q2⟩
 |.tr i,v,hf,hr=>by
  simp only[AV.refs,cb]at hf;simp only[fN]at hr⊢;obtain⟨⟨d,hd⟩,hv⟩:=hr;exact⟨⟨d,H.mem _ _ hd hf⟩,by rw[(H.β i hf).2.1];exact hv⟩
 |.pw i el j,v,hf,hr=>by
  simp only[AV.refs,cb]at hf;simp only[fN]at hr⊢;obtain⟨ow,nn,sz,es,b,h1,h2,h3,h4,h5⟩:=hr;exact⟨ow,nn,sz,es,b,H.mem _ _ h1 hf,h2,h3,by rw[(H.β i hf).1];exact h4,h5⟩
 |.cw i el j sz agg,v,hf,hr=>by
  simp only[AV.refs,cb]at hf;simp only[fN]at hr⊢;obtain⟨nn,usz,es,b,c,e,h1,h2,h3,h4,h5,h6⟩:=hr;exact⟨nn,usz,es,b,c,e,H.mem _ _ h1 hf,h2,h3,by rw[(H.β i hf).1];exact h4,by rw[H.gX i _ b h1 hf h4];exact h5,h6⟩
 |.sm i off len,v,hf,hr=>by
  simp only[AV.refs,cb]at hf;simp only[fN]at hr⊢;obtain⟨ow,nn,sz,es,h1,h2,h3⟩:=hr;refine⟨ow,nn,sz,es,H.mem _ _ h1 hf,h2,?_⟩;rw[(H.β i hf).1,(H.β i hf).2.2];exact h3
 |.vb i len,v,hf,hr=>by
  simp only[AV.refs,cb]at hf;simp only[fN]at hr⊢;obtain⟨sz,items,b,h1,h2,h3,h4⟩:=hr;exact⟨sz,pQ f items,b,H.mem _ _ h1 hf,by rw[mH];exact h2,by rw[(H.β i hf).1];exact h3,h4⟩
 |.sg vs,v,hf,hr=>by
  simp only[AV.refs]at hf;simp only[fN]at hr⊢;obtain⟨xs,h1,h2⟩:=hr;exact⟨xs,fT.jB H hf h1,h2⟩
 |.lf vs,v,hf,hr=>by
  simp only[AV.refs]at hf;simp only[fN]at hr⊢;obtain⟨xs,h1,h2⟩:=hr;exact⟨xs,h1,fT.jB H hf h2⟩
 |.any,_,_,_=>by simp[fN]
 |.cl f vs,v,hf,hr=>by
  simp only[AV.refs]at hf;simp only[fN]at hr⊢;obtain⟨xs,h1,h2⟩:=hr;exact⟨xs,fT.jB H hf h1,h2⟩
 |.pq i el j iE jj j',v,hf,hr=>by
  simp only[AV.refs,cb]at hf;simp only[fN]at hr⊢;obtain⟨ow,nn,usz,es,b,c,e,b',off',len',cap',h1,h2,h3,h4,h5,h6⟩:=hr;exact⟨ow,nn,usz,es,b,c,e,b',off',len',cap',H.mem _ _ h1 hf,h2,h3,by rw[(H.β i hf).1];exact h4,by rw[H.gX i _ b h1 hf h4];exact h5,h6⟩
 |.qs i el j iE off len,v,hf,hr=>by
  simp only[AV.refs,cb]at hf;simp only[fN]at hr⊢;obtain⟨ow,nn,usz,es,b,c,e,p,len',cap',h1,h2,h3,h4,h5,h6⟩:=hr;exact⟨ow,nn,usz,es,b,c,e,p,len',cap',H.mem _ _ h1 hf,h2,h3,by rw[(H.β i hf).1];exact h4,by rw[H.gX i _ b h1 hf h4];exact h5,h6⟩
 |.ss i off len,v,hf,hr=>by
  simp only[AV.refs,cb]at hf;simp only[fN]at hr⊢;obtain⟨ow,nn,sz,es,h1,h2,h3⟩:=hr;refine⟨ow,nn,sz,es,H.mem _ _ h1 hf,h2,?_⟩;rw[(H.β i hf).1,(H.β i hf).2.2];exact h3
 |.z0 _ _,v,_,hr=>by simpa[fN]using hr
 |.pb i j,v,hf,hr=>by
  simp only[AV.refs,cb]at hf;simp only[fN]at hr⊢;obtain⟨sz,items,b,h1,h3,h4⟩:=hr;exact⟨sz,pQ f items,b,H.mem _ _ h1 hf,by rw[(H.β i hf).1];exact h3,h4⟩
 |.ps i,v,hf,hr=>by
  simp only[AV.refs,cb]at hf;simp only[fN]at hr⊢;obtain⟨T,E,s,b,h1,h3,h4⟩:=hr;exact⟨T,E,s,b,H.mem _ _ h1 hf,by rw[(H.β i hf).1];exact h3,h4⟩
def fT.jB{k:Nat}{g:Gh}(H:Keep k f h h' us us' g g'):∀{as:List AV} {vs:List Value},AV.mr k as=false→fT h us g as vs→fT h' us' g' as vs
 | [],_,_,hr=>by simpa[fT]using hr
 |a::as,vs,hf,hr=>by
  simp only[AV.mr,ck]at hf;simp only[fT]at hr⊢;obtain⟨v,r,h1,h2,h3⟩:=hr;exact⟨v,r,h1,fN.jB H hf.1 h2,fT.jB H hf.2 h3⟩
end
structure JH (k:Nat) (f:AV→Bool) (h h':jv) (us us':List (Nat×U)) (g g':Gh):Prop extends Keep k f h h' us us' g g' where
 own:∃ow nn sz es ow' jR es',(k,.ar ow nn sz es)∈us∧(∀u,(k,u)∈us→u=.ar ow nn sz es)∧(k,.ar ow' jR sz es')∈us'∧es'.length=es.length
 same:g'.β k=g.β k∧g'.cap k=g.cap k
mutual
def fN.wP{k:Nat}{g:Gh}(H:JH k f h h' us us' g g'):∀{av:AV} {v:Value},av.soft k=false→fN h us g av v→fN h' us' g' av v
 |.im t d,v,hf,hr=>fN.jB H.toKeep (by simpa[AV.refs,AV.soft]using hf) hr
 |.cw i el j sz agg,v,hf,hr=>fN.jB H.toKeep (by simpa[AV.refs,AV.soft]using hf) hr
 |.tr i,v,_,hr=>by
  by_cases e:i=k;subst e;obtain⟨ow,nn,sz,es,_,_,_,h1,h2,_⟩:=H.own;simp only[fN]at hr;obtain⟨⟨d,hd⟩,_⟩:=hr;cases h2 _ hd;exact fN.jB H.toKeep (by simpa[AV.refs]using e) hr
 |.pw i el j,v,_,hr=>by
  by_cases e:i=k
  ·subst e;obtain⟨ow,nn,sz,es,ow',jR,es',h1,h2,h3,h4⟩:=H.own;simp only[fN]at hr⊢;obtain⟨XO,Ed,ON,t9,b,q1,q2,q3,q4,q5⟩:=hr;have:=h2 _ q1;injection this with e1 e2 e3 e4;subst e1;subst e2;subst e3;subst e4;exact⟨ow',jR,_,es',b,h3,by omega,q3,by rw[H.same.1];exact q4,q5⟩
  exact fN.jB H.toKeep (by simpa[AV.refs]using e) hr
 |.sm i off len,v,_,hr=>by
  by_cases e:i=k
  ·subst e;obtain⟨ow,nn,sz,es,ow',jR,es',h1,h2,h3,h4⟩:=H.own;simp only[fN]at hr⊢;obtain⟨XO,Ed,ON,t9,q1,q2,q3⟩:=hr;have:=h2 _ q1;injection this with e1 e2 e3 e4;subst e1;subst e2;subst e3;subst e4;refine⟨ow',jR,_,es',h3,by omega,?_⟩;rw[H.same.1,H.same.2];exact q3
  exact fN.jB H.toKeep (by simpa[AV.refs]using e) hr
 |.vb i len,v,_,hr=>by
  by_cases e:i=k;subst e;obtain⟨ow,nn,sz,es,_,_,_,h1,h2,_⟩:=H.own;simp only[fN]at hr;obtain⟨ON,items,b,q1,_⟩:=hr;cases h2 _ q1;exact fN.jB H.toKeep (by simpa[AV.refs]using e) hr
 |.sg vs,v,hf,hr=>by
  simp only[AV.soft]at hf;simp only[fN]at hr⊢;obtain⟨xs,h1,h2⟩:=hr;exact⟨xs,fT.wP H hf h1,h2⟩
 |.lf vs,v,hf,hr=>by
  simp only[AV.soft]at hf;simp only[fN]at hr⊢;obtain⟨xs,h1,h2⟩:=hr;exact⟨xs,h1,fT.wP H hf h2⟩
 |.any,_,_,_=>by simp[fN]
 |.cl f vs,v,hf,hr=>by
  simp only[AV.soft]at hf;simp only[fN]at hr⊢;obtain⟨xs,h1,h2⟩:=hr;exact⟨xs,fT.wP H hf h1,h2⟩
 |.pq i el j iE jj j',v,hf,hr=>fN.jB H.toKeep (by simpa[AV.refs,AV.soft]using hf) hr
 |.qs i el j iE off len,v,hf,hr=>fN.jB H.toKeep (by simpa[AV.refs,AV.soft]using hf) hr
 |.ss i off len,v,_,hr=>by
  by_cases e:i=k
  ·subst e;obtain⟨ow,nn,sz,es,ow',jR,es',h1,h2,h3,h4⟩:=H.own;simp only[fN]at hr⊢;obtain⟨XO,Ed,ON,t9,q1,q2,q3⟩:=hr;have:=h2 _ q1;injection this with e1 e2 e3 e4;subst e1;subst e2;subst e3;subst e4;refine⟨ow',jR,_,es',h3,by omega,?_⟩;rw[H.same.1,H.same.2];exact q3
  exact fN.jB H.toKeep (by simpa[AV.refs]using e) hr
 |.z0 _ _,v,_,hr=>by simpa[fN]using hr
 |.pb i j,v,_,hr=>by
  by_cases e:i=k;subst e;obtain⟨ow,nn,sz,es,_,_,_,h1,h2,_⟩:=H.own;simp only[fN]at hr;obtain⟨ON,items,b,q1,_⟩:=hr;cases h2 _ q1;exact fN.jB H.toKeep (by simpa[AV.refs]using e) hr
 |.ps i,v,_,hr=>by
  by_cases e:i=k;subst e;obtain⟨ow,nn,sz,es,_,_,_,h1,h2,_⟩:=H.own;simp only[fN]at hr;obtain⟨T,E,s,b,q1,_⟩:=hr;cases h2 _ q1;exact fN.jB H.toKeep (by simpa[AV.refs]using e) hr
def fT.wP{k:Nat}{g:Gh}(H:JH k f h h' us us' g g'):∀{as:List AV} {vs:List Value},AV.py k as=false→fT h us g as vs→fT h' us' g' as vs
 | [],_,_,hr=>by simpa[fT]using hr
 |a::as,vs,hf,hr=>by
  simp only[AV.py,ck]at hf;simp only[fT]at hr⊢;obtain⟨v,r,h1,h2,h3⟩:=hr;exact⟨v,r,h1,fN.wP H hf.1 h2,fT.wP H hf.2 h3⟩
end
def Ak{g:Gh}(H:∀av v,f av=false→fN h us g av v→fN h' us' g' av v):∀{as:List AV} {vs:List Value},fT h us g as vs→fT h' us' g' (pQ f as) vs
 | [],_,hr=>by simpa[fT,pQ]using hr
 |a::as,vs,hr=>by
  simp only[fT,pQ]at hr⊢;obtain⟨v,r,h1,h2,h3⟩:=hr;refine⟨v,r,h1,?_,Ak H h3⟩;cases hf:f a with
  |true=>simp[fN]
  |false=>simpa using H a v hf h2
def kp{g:Gh}(H:∀av v,f av=false→fN h us g av v→fN h' us' g' av v){env:List (Nat×AV)}{t:Nat}
  (hr:fN h us g (lk env t) v):fN h' us' g' (lk (jp f env) t) v:=by
 have key:∀env,lk (jp f env) t=.any∨(lk (jp f env) t=lk env t∧f (lk env t)=false)∨(lk (jp f env) t=lk env t∧lk env t=.any):=by
  intro env
  induction env with
  |nil=>exact .inl rfl
  |cons x r ih=>
   obtain⟨i,u⟩:=x;simp only[jp,lk]
   split
   ·cases hf:f u with
    |true=>left;simp
    |false=>right;left;simp
   exact ih
 rcases key env with h1|⟨h1,h2⟩|⟨h1,h2⟩
 rw[h1];simp[fN];rw[h1];exact H _ _ h2 hr;rw[h1,h2];simp[fN]
def kw{k:Nat}{f:AV→Bool}{g:Gh}(hφ:∀i,i≠k→g'.φ i=g.φ i):∀{us:List (Nat×U)},(fp g' (gu k f us)).Sublist (fp g us)
 | []=>by simp[gu,fp]
 |(j,v)::r=>by
  have ih:=kw (f:=f) hφ (us:=r);simp only[gu]
  split;simp only[fp,bX];exact List.Sublist.trans ih (eu _ _)
  next g9=>
  simp only[fp,bX,hφ j g9];exact ew (dq _) ih
def jn.jB{k:Nat}{g:Gh}(H:Keep k f h h' us us' g g')(hf:∀av,f av=false→av.refs k=false∨∀v,fN h us g av v→fN h' us' g' av v)(hm:(i,u)∈us)(g9:i≠k)(hφ:g'.φ i=g.φ i)
  (W9:∀b∈g.φ i,h'[b]?=h[b]?) (hS:∀b,g.Sh b→g'.Sh b∧h'[b]?=h[b]?) (ho:jn h us g i u):jn h' us' g' i (u.kill f):=by
 obtain⟨e1,e2,e3⟩:=H.β i g9;cases u with
 |own d=>
  simp only[jn,U.kill]at ho⊢;rw[e1,e2,hφ];exact⟨ho.1,ho.2.1.frame fun b hb=>W9 b hb,ho.2.2⟩
 |ar ow nn sz es=>
  simp only[jn,U.kill]at ho⊢;rw[e1,e3,hφ];obtain⟨h1,h2,h3⟩:=ho;refine⟨h1,h2,?_⟩;rcases h3 with h3|⟨b,c,e,G,cs,rest,k1,k2,k3,k4,k5,k6,k7,k8⟩
  exact .inl h3;have hb:b∈g.φ i:=by cases ow<;>simp_all
  refine .inr ⟨b,c,e,G,cs,rest,k1,by rw[W9 b hb];exact k2,k3,k4,k5,?_,k7,?_⟩
  ·refine k6.frame fun x hx=>?_;cases ow;simp only[mI,aA]at k8;exact(hS x (k8.2 x hx)).2;simp only[ay]at k8;exact W9 x (by rw[k8];simp[hx])
  cases ow
  ·simp only[mI,aA]at k8⊢;exact⟨k8.1,fun x hx=>(hS x (k8.2 x hx)).1⟩
  simpa using k8
 |bx sz items=>
  simp only[jn,U.kill]at ho⊢;rw[e1,hφ];obtain⟨h1,b,c,e,vs,rest,k1,k2,k3,k4,k5⟩:=ho;refine⟨by rw[mH];exact h1,b,c,e,vs,rest,k1,by rw[W9 b (by rw[k3];simp)];exact k2,k3,Ak (fun av v hfa hr=>?_) k4,k5⟩;rcases hf av hfa with h|h
  exact fN.jB H h hr;exact h v hr
 |sb T E s=>
  simp only[jn,U.kill]at ho⊢;rw[e1,hφ];obtain⟨b,F,k1,k2,k3⟩:=ho;exact⟨b,F,k1,k2,k3.frame fun x hx=>W9 x (by rw[k2];exact hx)⟩
def Gh.drop(g:Gh)(k:Nat):Gh:={g with φ:=fun i=>if i=k then[]else g.φ i}
def gQ.del{us:List (Nat×U)}(hu:gQ h n0 S0 M0 us g)(k:Nat):gQ h n0 S0 M0 (gu k (AV.refs k) us) (g.drop k)∧Keep k (AV.refs k) h h us (gu k (AV.refs k) us) g (g.drop k):=by
 have hφ:∀i,i≠k→(g.drop k).φ i=g.φ i:=fun i hi=>by simp[Gh.drop,hi]
 have H:Keep k (AV.refs k) h h us (gu k (AV.refs k) us) g (g.drop k):=by
  refine⟨fun i u h1 h2=>jT h1 h2,fun i hi=>⟨rfl,rfl,rfl⟩,fun _ _ _ _ _ _=>rfl,?_⟩;intro t d F cs ht hr kA;refine⟨hr,fun b hb=>?_⟩;rcases kA b hb with h1|⟨i,rfl,h1,h2⟩
  exact .inl h1;exact .inr ⟨i,rfl,by rw[hφ i (by rintro rfl;exact ht rfl)];exact h1,h2⟩
 have jS:=kw (f:=AV.refs k) hφ (us:=us);refine⟨⟨?_,jS.nodup hu.nodup,fun b hb=>hu.lt b (jS.subset hb),fun b hb=>hu.low b (jS.subset hb),?_,?_,?_,fun b hb=>hu.fz b (jS.subset hb),hu.AB.kill fun _ _=>⟨rfl,rfl⟩⟩,H⟩;rw[gI];exact hu.keys.filter _
 ·intro i hi;rw[gI]at hi
  by_cases e:i=k;simp[Gh.drop,e]
  rw[hφ i e];exact hu.dead i fun hm=>hi (by simp[aQ,hm,e])
 ·intro b hb;obtain⟨q1,q2,q3⟩:=hu.sh b hb;exact⟨q1,q2,fun hm=>q3 (jS.subset hm)⟩
 intro x hx;obtain⟨g9,u,h1,h2⟩:=gF hx;rw[h2];exact(hu.each _ h1).jB H (fun av hf=>.inl hf) h1 g9 (hφ _ g9) (fun _ _=>rfl) (fun b hb=>⟨hb,rfl⟩)
def Gh.oH(g:Gh)(k:Nat)(φ:List Nat):Gh:={g with φ:=fun i=>if i=k then φ else g.φ i}
variable {ow:Bool}
def gQ.ue{h':jv}{us:List (Nat×U)}(hu:gQ h n0 S0 M0 us g){k:Nat}(hm:(k,U.ar ow nn sz es)∈us)(hb:g.β k=some b)
  {c:Array Value} {e:TypeId} (h0:h'[b]?=some (.cells c e (0,0))) (jP:h'.size=h.size) (hh:∀x,x≠b→h'[x]?=h[x]?) (hc:c.size=g.cap k*sz)
  {ow':Bool} {es':List D} (hl:es'.length=es.length) (hs:∀d∈es',d.size=sz) {G cs rest} (sC:c.toList=cs++rest) (hr:gt h es' G cs)
  (vm:ow'=true→(b::G).Nodup∧(∀x∈G,(x<n0→M0 x)∧¬g.Sh x∧∀y∈us,y.1≠k→x∉g.φ y.1)) (o4:ow'=false→∀x∈G,g.Sh x) (hzG:ow'=true→∀x∈G,t7 h x):
  ∃φ,φ=(if ow'=true then b::G else[b])∧gQ h' n0 S0 M0 ((k,.ar ow' nn sz es')::gu k (AV.soft k) us) (g.oH k φ)∧JH k (AV.soft k) h h' us ((k,.ar ow' nn sz es')::gu k (AV.soft k) us) g (g.oH k φ):=by
 have R6:=(hu.each _ hm).kr hb;have o5:b∈fp g us:=gn.2 ⟨_,hm,R6⟩;have hbG:b∉G:=by
  cases ow' with
  |true=>exact(aH.1 (vm rfl).1).1
  |false=>exact fun hx=>(hu.sh b (o4 rfl b hx)).2.2 o5
 refine⟨_,rfl,?_⟩;generalize Np:(if ow'=true then b::G else[b])=φ;have hφ:∀i,i≠k→(g.oH k φ).φ i=g.φ i:=fun i hi=>by simp[Gh.oH,hi]
 have XQ:(g.oH k φ).φ k=φ:=by simp[Gh.oH]
 have Nq:∀x,g.Sh x→x≠b:=fun x hx e=>(hu.sh x hx).2.2 (e▸o5);have pA:∀i u,(i,u)∈us→i≠k→∀x∈g.φ i,x≠b:=by
  rintro i u h1 h2 x hx rfl;exact h2 (iA hu.keys hu.nodup h1 hm hx R6)
 have H:JH k (AV.soft k) h h' us ((k,.ar ow' nn sz es')::gu k (AV.soft k) us) g (g.oH k φ):=by
  refine {mem:=fun i u h1 h2=>bg _ (jT h1 h2),β:=fun i hi=>⟨rfl,rfl,rfl⟩,gX:=?_,im:=?_,own:=⟨ow,nn,sz,es,ow',nn,es',hm,fun u wN=>hu.uniq wN hm,by simp,hl⟩,same:=⟨rfl,rfl⟩};intro i u x h1 h2 h3;exact hh x (pA i u h1 h2 x ((hu.each _ h1).kr h3));intro t d F cs ht hr kA;refine⟨hr.frame fun x hx=>hh x (hu.acu (kA x hx) hm hb),fun x hx=>?_⟩;rcases kA x hx with h1|⟨i,rfl,h1,h2⟩
  exact .inl h1;exact .inr ⟨i,rfl,by rw[hφ i (by rintro rfl;exact ht rfl)];exact h1,h2⟩
 have jS:=kw (f:=AV.soft k) hφ (us:=us);have j7:fp (g.oH k φ) ((k,.ar ow' nn sz es')::gu k (AV.soft k) us)=φ++fp (g.oH k φ) (gu k (AV.soft k) us):=by
  simp only[fp,bX,XQ]
 have afu:∀x∈φ,x<h.size:=by
  intro x hx;rw[←Np]at hx;cases ow' with
  |true=>
   simp only[ay]at hx;rcases ab.1 hx with rfl|hx
   exact hu.lt _ o5;exact hr.lt x hx
  |false=>
   simp only[mI,aA,au]at hx;subst hx;exact hu.lt _ o5
 have Nr:∀x∈φ,∀y∈us,y.1≠k→x∉g.φ y.1:=by
  intro x hx y hy g9 kZ;rw[←Np]at hx;have xJ:x≠b:=pA y.1 y.2 hy g9 x kZ;cases ow' with
  |true=>
   simp only[ay]at hx;rcases ab.1 hx with rfl|hx
   exact xJ rfl;exact((vm rfl).2 x hx).2.2 y hy g9 kZ
  |false=>
   simp only[mI,aA,au]at hx;exact xJ hx
 have HX:∀x∈fp (g.oH k φ) (gu k (AV.soft k) us),∃y∈us,y.1≠k∧x∈g.φ y.1:=by
  intro x hx;obtain⟨y,hy,kZ⟩:=gn.1 hx;obtain⟨g9,u,h1,h2⟩:=gF hy;exact⟨_,h1,g9,by rw[hφ _ g9]at kZ;exact kZ⟩
 refine⟨⟨?_,?_,?_,?_,?_,?_,?_,?_,hu.AB.OO hm (fun _=>⟨rfl,rfl⟩) fun e=>U.na.2 (U.na.1 e)⟩,H⟩
 ·simp only[lC,aH,gI];exact⟨by simp[aQ],hu.keys.filter _⟩
 ·rw[j7,aX];refine⟨?_,jS.nodup hu.nodup,?_⟩
  ·rw[←Np];cases ow' with
   |true=>simp only[ay];exact(vm rfl).1
   |false=>simp
  rintro x hx y hy rfl;obtain⟨z,hz,g9,xS⟩:=HX x hy;exact Nr x hx z hz g9 xS
 ·intro x hx;rw[j7]at hx;rw[jP];rcases an.1 hx with hx|hx
  exact afu x hx;exact hu.lt x (jS.subset hx)
 ·intro x hx iq;rw[j7]at hx;rcases an.1 hx with hx|hx
  ·rw[←Np]at hx;cases ow' with
   |true=>
    simp only[ay]at hx;rcases ab.1 hx with rfl|hx
    exact hu.low _ o5 iq;exact((vm rfl).2 x hx).1 iq
   |false=>
    simp only[mI,aA,au]at hx;subst hx;exact hu.low _ o5 iq
  exact hu.low x (jS.subset hx) iq
 ·intro i hi;simp only[lC,ab,cj,gI]at hi;rw[hφ i hi.1];exact hu.dead i fun XR=>hi.2 (by simp[aQ,XR,hi.1])
 ·intro x hx;have hx:g.Sh x:=hx;obtain⟨q1,q2,q3⟩:=hu.sh x hx;refine⟨by omega,q2,?_⟩;rw[j7,an];rintro(h1|h1)
  ·rw[←Np]at h1;cases ow' with
   |true=>
    simp only[ay]at h1;rcases ab.1 h1 with rfl|h1
    exact q3 o5;exact((vm rfl).2 x h1).2.1 hx
   |false=>
    simp only[mI,aA,au]at h1;subst h1;exact q3 o5
  exact q3 (jS.subset h1)
 ·intro x hx;rcases ab.1 hx with rfl|hx
  ·have ho:=hu.each _ hm;simp only[jn]at ho⊢;obtain⟨p1,p2,p3⟩:=ho;refine⟨by omega,hs,.inr ⟨b,c,e,G,cs,rest,hb,h0,sC,hc,?_,hr.frame fun x hx=>hh x (by rintro rfl;exact hbG hx),?_,?_⟩⟩
   ·rcases p3 with⟨q,_⟩|⟨_,_,_,_,_,_,_,_,_,_,q,_⟩
    rw[hb]at q;cases q;rw[hl];exact q
   ·rcases p3 with⟨q,_⟩|⟨_,_,_,_,_,_,_,_,_,_,_,_,q,_⟩
    rw[hb]at q;cases q;exact q
   rw[XQ,←Np];cases ow' with
   |true=>simp
   |false=>simp only[mI,aA,cT];exact o4 rfl
  obtain⟨g9,u,h1,h2⟩:=gF hx;rw[h2];exact(hu.each _ h1).jB H.toKeep (fun av hf=>.inr fun v hr=>fN.wP H hf hr) h1 g9 (hφ _ g9) (fun x hx=>hh x (pA _ _ h1 g9 x hx)) (fun x hx=>⟨hx,hh x (Nq x hx)⟩)
 intro x hx;rw[j7]at hx
 by_cases Lp:x=b;subst Lp;exact⟨c,e,h0⟩
 have jL:∀{x},x≠b→t7 h x→t7 h' x:=fun g9 ⟨c,e,hc⟩=>⟨c,e,by rw[hh _ g9];exact hc⟩;rcases an.1 hx with hx|hx
 ·rw[←Np]at hx;cases ow' with
  |true=>
   simp only[ay]at hx;rcases ab.1 hx with rfl|hx
   exact absurd rfl Lp;exact jL Lp (hzG rfl x hx)
  |false=>
   simp only[mI,aA,au]at hx;exact absurd hx Lp
 exact jL Lp (hu.fz x (jS.subset hx))
def gQ.RY{h':jv}{us:List (Nat×U)}(hu:gQ h n0 S0 M0 us g){k:Nat}(hm:(k,U.ar ow nn sz es)∈us)(hb:g.β k=some b)
  {c:Array Value} {e:TypeId} (h0:h'[b]?=some (.cells c e (0,0))) (jP:h'.size=h.size) (hh:∀x,x≠b→h'[x]?=h[x]?) (hc:c.size=g.cap k*sz)
  {ow':Bool} {es':List D} (hl:es'.length=es.length) (hs:∀d∈es',d.size=sz) {G cs rest} (sC:c.toList=cs++rest) (hr:gt h es' G cs)
  (vm:ow'=true→(b::G).Nodup∧(∀x∈G,(x<n0→M0 x)∧¬g.Sh x∧∀y∈us,y.1≠k→x∉g.φ y.1)) (o4:ow'=false→∀x∈G,g.Sh x) (hzG:ow'=true→∀x∈G,t7 h x) (el:Nat) (how:ow'=true) (hhb:h'[b]?=h[b]?) (Ei:∀jj,jj≠el→(D.at es' jj).fX=(D.at es jj).fX):
  ∃φ,φ=(if ow'=true then b::G else[b])∧gQ h' n0 S0 M0 ((k,.ar ow' nn sz es')::gu k (AV.oq k el) us) (g.oH k φ)∧∀av v,AV.oq k el av=false→fN h us g av v→fN h' ((k,.ar ow' nn sz es')::gu k (AV.oq k el) us) (g.oH k φ) av v:=by
 have R6:=(hu.each _ hm).kr hb;have o5:b∈fp g us:=gn.2 ⟨_,hm,R6⟩;have hbG:b∉G:=by
  cases ow' with
  |true=>exact(aH.1 (vm rfl).1).1
  |false=>exact fun hx=>(hu.sh b (o4 rfl b hx)).2.2 o5
 refine⟨_,rfl,?_⟩;generalize Np:(if ow'=true then b::G else[b])=φ;have hφ:∀i,i≠k→(g.oH k φ).φ i=g.φ i:=fun i hi=>by simp[Gh.oH,hi]
 have XQ:(g.oH k φ).φ k=φ:=by simp[Gh.oH]
 have Nq:∀x,g.Sh x→x≠b:=fun x hx e=>(hu.sh x hx).2.2 (e▸o5);have pA:∀i u,(i,u)∈us→i≠k→∀x∈g.φ i,x≠b:=by
  rintro i u h1 h2 x hx rfl;exact h2 (iA hu.keys hu.nodup h1 hm hx R6)
 have H:JH k (AV.oq k el) h h' us ((k,.ar ow' nn sz es')::gu k (AV.oq k el) us) g (g.oH k φ):=by
  refine {mem:=fun i u h1 h2=>bg _ (jT h1 h2),β:=fun i hi=>⟨rfl,rfl,rfl⟩,gX:=?_,im:=?_,own:=⟨ow,nn,sz,es,ow',nn,es',hm,fun u wN=>hu.uniq wN hm,by simp,hl⟩,same:=⟨rfl,rfl⟩};intro i u x h1 h2 h3;exact hh x (pA i u h1 h2 x ((hu.each _ h1).kr h3));intro t d F cs ht hr kA;refine⟨hr.frame fun x hx=>hh x (hu.acu (kA x hx) hm hb),fun x hx=>?_⟩;rcases kA x hx with h1|⟨i,rfl,h1,h2⟩
  exact .inl h1;exact .inr ⟨i,rfl,by rw[hφ i (by rintro rfl;exact ht rfl)];exact h1,h2⟩
 have HK:∀av v,AV.oq k el av=false→fN h us g av v→fN h' ((k,.ar ow' nn sz es')::gu k (AV.oq k el) us) (g.oH k φ) av v:=by
  intro av v hf hr
  by_cases hs:av.soft k=false;exact fN.wP H hs hr
  cases av with
  |cw i jj j gV agg=>
   simp only[AV.soft,Bool.not_eq_false,aU]at hs;subst hs;simp only[AV.oq,bE,bI,cb,ne_eq]at hf;simp only[fN]at hr⊢;obtain⟨Ed,usz,t9,b1,c1,e1,q1,q2,q3,q4,q5,q6,q7,q8,q9⟩:=hr;have hq:=hu.uniq q1 hm;injection hq with z1 z2 z3 z4;subst z1;subst z2;subst z3;subst z4;rw[hb]at q4;obtain rfl:=aD q4;subst how;exact⟨_,_,es',b,c1,e1,bD,by omega,q3,hb,by rw[hhb];exact q5,fun ha=>by rw[Ei _ hf];exact q6 ha,q7,q8,q9⟩
  |_=>simp_all [AV.oq,AV.soft]
 have jS:=kw (f:=AV.oq k el) hφ (us:=us);have j7:fp (g.oH k φ) ((k,.ar ow' nn sz es')::gu k (AV.oq k el) us)=φ++fp (g.oH k φ) (gu k (AV.oq k el) us):=by
  simp only[fp,bX,XQ]
 have afu:∀x∈φ,x<h.size:=by
  intro x hx;rw[←Np]at hx;cases ow' with
  |true=>
   simp only[ay]at hx;rcases ab.1 hx with rfl|hx
   exact hu.lt _ o5;exact hr.lt x hx
  |false=>
   simp only[mI,aA,au]at hx;subst hx;exact hu.lt _ o5
 have Nr:∀x∈φ,∀y∈us,y.1≠k→x∉g.φ y.1:=by
  intro x hx y hy g9 kZ;rw[←Np]at hx;have xJ:x≠b:=pA y.1 y.2 hy g9 x kZ;cases ow' with
  |true=>
   simp only[ay]at hx;rcases ab.1 hx with rfl|hx
   exact xJ rfl;exact((vm rfl).2 x hx).2.2 y hy g9 kZ
  |false=>
   simp only[mI,aA,au]at hx;exact xJ hx
 have HX:∀x∈fp (g.oH k φ) (gu k (AV.oq k el) us),∃y∈us,y.1≠k∧x∈g.φ y.1:=by
  intro x hx;obtain⟨y,hy,kZ⟩:=gn.1 hx;obtain⟨g9,u,h1,h2⟩:=gF hy;exact⟨_,h1,g9,by rw[hφ _ g9]at kZ;exact kZ⟩
 refine⟨⟨?_,?_,?_,?_,?_,?_,?_,?_,hu.AB.OO hm (fun _=>⟨rfl,rfl⟩) fun e=>U.na.2 (U.na.1 e)⟩,HK⟩
 ·simp only[lC,aH,gI];exact⟨by simp[aQ],hu.keys.filter _⟩
 ·rw[j7,aX];refine⟨?_,jS.nodup hu.nodup,?_⟩
  ·rw[←Np];cases ow' with
   |true=>simp only[ay];exact(vm rfl).1
   |false=>simp
  rintro x hx y hy rfl;obtain⟨z,hz,g9,xS⟩:=HX x hy;exact Nr x hx z hz g9 xS
 ·intro x hx;rw[j7]at hx;rw[jP];rcases an.1 hx with hx|hx
  exact afu x hx;exact hu.lt x (jS.subset hx)
 ·intro x hx iq;rw[j7]at hx;rcases an.1 hx with hx|hx
  ·rw[←Np]at hx;cases ow' with
   |true=>
    simp only[ay]at hx;rcases ab.1 hx with rfl|hx
    exact hu.low _ o5 iq;exact((vm rfl).2 x hx).1 iq
   |false=>
    simp only[mI,aA,au]at hx;subst hx;exact hu.low _ o5 iq
  exact hu.low x (jS.subset hx) iq
 ·intro i hi;simp only[lC,ab,cj,gI]at hi;rw[hφ i hi.1];exact hu.dead i fun XR=>hi.2 (by simp[aQ,XR,hi.1])
 ·intro x hx;have hx:g.Sh x:=hx;obtain⟨q1,q2,q3⟩:=hu.sh x hx;refine⟨by omega,q2,?_⟩;rw[j7,an];rintro(h1|h1)
  ·rw[←Np]at h1;cases ow' with
   |true=>
    simp only[ay]at h1;rcases ab.1 h1 with rfl|h1
    exact q3 o5;exact((vm rfl).2 x h1).2.1 hx
   |false=>
    simp only[mI,aA,au]at h1;subst h1;exact q3 o5
  exact q3 (jS.subset h1)
 ·intro x hx;rcases ab.1 hx with rfl|hx
  ·have ho:=hu.each _ hm;simp only[jn]at ho⊢;obtain⟨p1,p2,p3⟩:=ho;refine⟨by omega,hs,.inr ⟨b,c,e,G,cs,rest,hb,h0,sC,hc,?_,hr.frame fun x hx=>hh x (by rintro rfl;exact hbG hx),?_,?_⟩⟩
   ·rcases p3 with⟨q,_⟩|⟨_,_,_,_,_,_,_,_,_,_,q,_⟩
    rw[hb]at q;cases q;rw[hl];exact q
   ·rcases p3 with⟨q,_⟩|⟨_,_,_,_,_,_,_,_,_,_,_,_,q,_⟩
    rw[hb]at q;cases q;exact q
   rw[XQ,←Np];cases ow' with
   |true=>simp
   |false=>simp only[mI,aA,cT];exact o4 rfl
  obtain⟨g9,u,h1,h2⟩:=gF hx;rw[h2];exact(hu.each _ h1).jB H.toKeep (fun av hf=>.inr fun v hr=>HK av v hf hr) h1 g9 (hφ _ g9) (fun x hx=>hh x (pA _ _ h1 g9 x hx)) (fun x hx=>⟨hx,hh x (Nq x hx)⟩)
 intro x hx;rw[j7]at hx
 by_cases Lp:x=b;subst Lp;exact⟨c,e,h0⟩
 have jL:∀{x},x≠b→t7 h x→t7 h' x:=fun g9 ⟨c,e,hc⟩=>⟨c,e,by rw[hh _ g9];exact hc⟩;rcases an.1 hx with hx|hx
 ·rw[←Np]at hx;cases ow' with
  |true=>
   simp only[ay]at hx;rcases ab.1 hx with rfl|hx
   exact absurd rfl Lp;exact jL Lp (hzG rfl x hx)
  |false=>
   simp only[mI,aA,au]at hx;exact absurd hx Lp
 exact jL Lp (hu.fz x (jS.subset hx))
def I5:D.fS d.cells=d.size:=by cases d<;>simp[D.cells,D.size,D.fS]
def YQ{e:D}{vc:List Value}(he:gJ h e G cs)(hd:gJ h d F vc)(hu:e.size=usz)(hs:d.size=sz)(hj:j+sz≤usz)(hw:j=0∧sz=usz∨e.fX=true):
  ∃A B C,G=A++(B++C)∧gJ h (D.put usz e j sz d) (A++(F++C)) (cs.take j++(vc++cs.drop (j+sz)))∧(D.put usz e j sz d).size=usz∧
   ∀agg,(agg=true→e.fX=true)→(agg=false→sz=1)→gJ h (D.sub e j sz agg) B ((cs.drop j).take sz):=by
 have hl:=he.length;have hv:=hd.length
 by_cases hwh:j=0∧sz=usz
 ·obtain⟨rfl,rfl⟩:=hwh;refine⟨[],G,[],by simp,?_,by simp[D.put,hs],?_⟩;have:cs.drop (0+sz)=[]:=bO (by omega);rw[this];simpa[D.put]using hd;intro agg ha h1;rw[aJ,b9 (by omega)]
  by_cases Ei:e.fX=true
  ·cases e with
   |ag ds=>
    have he':=he;simp only[gJ]at he;simp only[D.size,D.lr he.1]at hu;cases agg with
    |true=>
     simp only[D.sub,ay,aJ];rw[b9 (by omega)];exact he'
    |false=>
     have:=h1 rfl
     match ds,he,hu with
     | [x],he,_=>
      simp only[D.sub,mI,aA,aj];obtain⟨F1,F2,c1,c2,rfl,rfl,q1,q2⟩:=jX.1 he.2;obtain⟨rfl,rfl⟩:=sf.1 q2;simpa using q1
     | [],_,hu=>simp at hu;omega
     |x::y::r,_,hu=>simp at hu;omega
   |_=>simp[D.fX]at Ei
  have W3:agg=false:=by cases agg<;>simp_all
  subst W3;obtain rfl:=h1 rfl;rw[P4 (by simpa using Ei)];exact he
 have Ei:=hw.resolve_left hwh;cases e with
 |ag ds=>
  simp only[gJ]at he;obtain⟨h1,he⟩:=he;simp only[D.size,D.lr h1]at hu;have e1:ds=ds.take j++((ds.drop j).take sz++(ds.drop j).drop sz):=by rw[bu,bu]
  have he':gt h (ds.take j++((ds.drop j).take sz++(ds.drop j).drop sz)) G cs:=by rw[←e1];exact he
  obtain⟨A,BC,c1,c23,rfl,rfl,s1,R2⟩:=he'.split;obtain⟨B,C,c2,c3,rfl,rfl,s2,s3⟩:=R2.split;have l1:c1.length=j:=by rw[s1.length,D.lr fun d hd=>h1 d (aY hd)];simp;omega
  have BI:∀d∈(ds.drop j).take sz,d.size=1∧d.fX=false:=fun d hd=>h1 d (bt (aY hd));have l2:c2.length=sz:=by rw[s2.length,D.lr BI];simp;omega
  obtain⟨q1,q2⟩:=Ao hd;refine⟨A,B,C,rfl,?_,?_,?_⟩
  ·have t1:(c1++(c2++c3)).take j=c1:=by rw[←l1];simp
   have t2:(c1++(c2++c3)).drop (j+sz)=c3:=by rw[←l1,←l2,←bC,←lP];simp
   rw[t1,t2];simp only[D.put,hwh,aA,gJ];refine⟨?_,?_⟩
   ·intro x hx;simp only[bC,an]at hx;rcases hx with hx|hx|hx
    exact h1 x (aY hx);exact q2 x hx;exact h1 x (bt hx)
   rw[bC];refine s1.append (q1.append ?_);rw[←cx];exact s3
  ·simp only[D.put,hwh,aA,D.size];rw[D.yW,D.yW,I5,hs,D.lr fun d hd=>h1 d (aY hd),D.lr fun d hd=>h1 d (bt hd)];simp;omega
  intro agg ha h2;have t3:((c1++(c2++c3)).drop j).take sz=c2:=by rw[←l1,←l2];simp
  rw[t3];cases agg with
  |true=>simp only[D.sub,ay,gJ];exact⟨BI,s2⟩
  |false=>
   obtain rfl:=h2 rfl;have iq:j<ds.length:=by omega
   have e2:(ds.drop j).take 1=[ds[j]]:=by
    rw[cL iq];simp only[aP,aO]
   rw[e2,jX]at s2;obtain⟨G1,G2,e1,e3,rfl,rfl,z1,z2⟩:=s2;obtain⟨rfl,rfl⟩:=sf.1 z2;have:ds.getD j default=ds[j]:=by simp[List.getD,bb iq]
   simp only[D.sub,mI,aA,this];simpa using z1
 |_=>simp[D.fX]at Ei
def uo{vc:List Value}(he:gt h es G cs)(hd:gJ h d F vc){sz:Nat}(hu:∀e∈es,e.size=usz)(pz:el<es.length)(hs:d.size=sz)(hj:j+sz≤usz)
  (hw:j=0∧sz=usz∨(D.at es el).fX=true):
  ∃A B C,G=A++(B++C)∧gt h (es.set el (D.put usz (D.at es el) j sz d)) (A++(F++C)) (cs.take (el*usz+j)++(vc++cs.drop (el*usz+j+sz)))∧
   (∀e∈es.set el (D.put usz (D.at es el) j sz d),e.size=usz)∧
   ∀agg,(agg=true→(D.at es el).fX=true)→(agg=false→sz=1)→gJ h (D.sub (D.at es el) j sz agg) B ((cs.drop (el*usz+j)).take sz):=by
 rw[D.qL pz]at hw⊢;obtain⟨F1,F2,F3,c1,c2,c3,rfl,rfl,r1,r2,r3⟩:=he.pick pz;have jP:=hu _ (aF pz);obtain⟨A,B,C,rfl,p1,p2,p3⟩:=YQ r2 hd jP hs hj hw;have l1:c1.length=el*usz:=by
  rw[r1.length,D.gk (sz:=usz) fun d hd=>hu d (aY hd),a8,bh (di pz)]
 have l2:c2.length=usz:=by rw[r2.length,jP]
 refine⟨F1++A,B,C++F3,by simp,?_,?_,?_⟩
 ·have e1:(c1++(c2++c3)).take (el*usz+j)=c1++c2.take j:=by
   rw[fw,←l1,b9 (by omega)];congr 1;rw[dC (by omega)];congr 1;omega
  have e2:(c1++(c2++c3)).drop (el*usz+j+sz)=c2.drop (j+sz)++c3:=by
   rw[eW,←l1,bO (by omega),be,dB (by omega)];congr 2;omega
  rw[e1,e2,fJ,af pz];have:=r1.append (jX.2 ⟨_,_,_,_,rfl,rfl,p1,r3⟩);simpa[bC]using this
 ·intro e he;rcases List.mem_or_eq_of_mem_set he with he|rfl
  exact hu e he;exact p2
 intro agg ha h1;have:=p3 agg ha h1;have e3:((c1++(c2++c3)).drop (el*usz+j)).take sz=(c2.drop j).take sz:=by
  rw[eW,←l1,bO (by omega),be,Nat.add_sub_cancel_left,dB (by omega),dC (by simp;omega)]
 rw[e3];exact this
def U.xK:U→U→Prop
 |.own d,.own e=>d=e
 |.ar _ _ sz es,.ar _ _ gV es'=>sz=gV∧es.length=es'.length
 |.bx sz l,.bx gV l'=>sz=gV∧l.length=l'.length
 |.sb T E s,.sb T' E' s'=>T=T'∧E=E'∧s=s'
 |_,_=>False
def U.R7(u:U):u.xK u:=by cases u<;>simp[U.xK]
def U.xL{v x:U}(h:u.xK v)(h':v.xK x):u.xK x:=by
 cases u<;>cases v<;>cases x<;>simp_all [U.xK]
def U.Gy(u:U)(f:AV→Bool):u.xK (u.kill f):=by cases u<;>simp[U.xK,U.kill,mH]
structure jK (h:jv) (n0:Nat) (S0 M0:Nat→Prop) (iz st:St) (tm:Nat→Value) (g0 g:Gh):Prop where
 us:gQ h n0 S0 M0 st.us g
 rep:∀t,fN h st.us g (lk st.env t) (tm t)
 n:st.n=iz.n
 mem:∀i u,(i,u)∈st.us→∃u0,(i,u0)∈iz.us∧u0.xK u
 gh:∀i u,(i,u)∈st.us→g.β i=g0.β i∧g.root i=g0.root i∧g.cap i=g0.cap i
 sh:∀b,g0.Sh b→g.Sh b
 fp:∀b,b∈fp g st.us→b∈fp g0 iz.us
def jK.refl{st:St}{tm:Nat→Value}(hu:gQ h n0 S0 M0 st.us g)(hr:∀t,fN h st.us g (lk st.env t) (tm t)):jK h n0 S0 M0 st st tm g g:=
 ⟨hu,hr,rfl,fun i u hm=>⟨u,hm,u.R7⟩,fun _ _ _=>⟨rfl,rfl,rfl⟩,fun _ hb=>hb,fun _ hb=>hb⟩
def jK.del{iz st:St}{tm:Nat→Value}{g0 g:Gh}(T:jK h n0 S0 M0 iz st tm g0 g)(k:Nat):jK h n0 S0 M0 iz (st.del k) tm g0 (g.drop k):=by
 obtain⟨hU,hK⟩:=T.us.del k;refine⟨hU,fun t=>kp (fun av v hf hr=>fN.jB hK hf hr) (T.rep t),T.n,?_,?_,T.sh,?_⟩;intro i u hm;obtain⟨g9,u',h1,h2⟩:=gF hm;obtain⟨u0,h3,h4⟩:=T.mem _ _ h1;simp only at h2;rw[h2];exact⟨u0,h3,U.xL h4 (u'.Gy _)⟩;intro i u hm;obtain⟨g9,u',h1,h2⟩:=gF hm;exact T.gh _ _ h1;intro b hb;exact T.fp b ((kw (g:=g) (g':=g.drop k) (fun i hi=>by simp[Gh.drop,hi])).subset hb)
def sQ{g:Gh}(hu:gQ h n0 S0 M0 us g){k:Nat}(hm:(k,u)∈us):∀b∈g.φ k,b∉fp (g.drop k) (gu k (AV.refs k) us):=by
 intro b hb xI;obtain⟨y,hy,oL⟩:=gn.1 xI;obtain⟨g9,u',h1,_⟩:=gF hy;simp only[Gh.drop,g9,aA]at oL;exact g9 (iA hu.keys hu.nodup h1 hm oL hb)
def iZ{g:Gh}(hu:gQ h n0 S0 M0 us g){k:Nat}(hm:(k,u)∈us):(g.φ k).Nodup:=by
 have:=hu.nodup;clear hu
 induction us with
 |nil=>cases hm
 |cons y ys ih=>
  simp only[Ax.fp,bX,aX]at this;rcases ab.1 hm with rfl|hm
  exact this.1;exact ih hm this.2.1
def If(n0:Nat)(M0:Nat→Prop)(own:Bool)(gb ga:Gh)(usb usa:List (Nat×U))(F:List Nat):Prop:=
 (own=true→F.Nodup∧∀b∈F,(b<n0→M0 b)∧¬ga.Sh b∧b∉fp ga usa∧b∈fp gb usb)∧(own=false→∀b∈F,ga.Sh b)
def abf(h:jv)(sz:Nat)(agg:Bool)(h1:agg=false→sz=1)(vs:List Value)(hl:vs.length=sz)(ho:∀v∈vs,v.oneCell'=true):gJ h (Su sz agg) [] vs∧(Su sz agg).size=sz:=by
 cases agg with
 |true=>
  subst hl;have key:∀vs:List Value,(∀v∈vs,v.oneCell'=true)→gt h (List.replicate vs.length D.jk) [] vs:=by
   intro vs
   induction vs with
   |nil=>intro _;simp[gt]
   |cons v vs ih=>
    intro ho;simp only[lK,fu,jX];exact⟨[],[],[v],vs,rfl,rfl,by simp[gJ,ho v (by simp)],ih fun x hx=>ho x (by simp[hx])⟩
  refine⟨?_,?_⟩
  ·simp only[Su,ay,gJ];exact⟨fun d hd=>by rw[fv hd];simp[D.size,D.fX],key vs ho⟩
  simp only[Su,ay,D.size];rw[D.lr fun d hd=>by rw[fv hd];simp[D.size,D.fX]];simp
 |false=>
  obtain rfl:=h1 rfl
  match vs,hl with
  | [v],_=>
   refine⟨?_,by simp[Su,D.size]⟩;simp only[Su,mI,aA];unfold gJ;exact⟨rfl,v,rfl,ho v (by simp)⟩
end Go.Ax
