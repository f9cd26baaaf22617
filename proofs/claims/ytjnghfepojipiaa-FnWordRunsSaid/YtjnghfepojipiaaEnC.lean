/- THE ENGINE, PART 3: a generator of conditions over the register code, and its soundness. No condition. -/
import Derived.Test.YtjnghfepojipiaaEnB
set_option linter.unusedSimpArgs false
set_option linter.unusedVariables false
set_option linter.unnecessarySimpa false
set_option linter.unusedSectionVars false
namespace Go.Ax

variable {P : Program} {n0 : Nat} {S0 M0 : Nat → Prop} {w0 : World}
variable {st : St} {o : Oper} {a : Act} {w : World} {k : KQ} {Q' : Exit → Act → World → Prop} {g : Gh}

theorem pX{h:aE}{us:List (Nat×U)}{g:Gh}{t:Option Nat}{d:D}{j:Nat}{v:Value}(hr:ab h us g (.im t (.pt d j)) v):
  ∃b off,v=.pointer (some ⟨b,off+j,none⟩)∧∀i,i<d.size→ab h us g (.im t (.pt d i)) (.pointer (some ⟨b,off+i,none⟩)):=by
 simp only[ab,aW]at hr;obtain⟨F,⟨b,off,c,e,fr,F',r1,r2,r3,r4,r5,r6⟩,f1,f2⟩:=hr;rw[aS (by simpa[D.fits]using f1)]at r1;refine⟨b,off,by simpa using r1,fun i hi=>?_⟩;simp only[ab,aW];exact⟨F,⟨b,off,c,e,fr,F',by simp[Value.cells],r2,hi,r4,r5,r6⟩,by simp[D.fits,Value.oneCell'],f2⟩

theorem V8(h:At n0 S0 M0 w0 st o a w g){t u:TypeId}{i off:Nat}{x:Operand}{X:Ax.X}{fs:Array Field}{f:Field}(ho:o.op=.fieldAddr t x i)(hx:aU P u x=some X)
  (ht:P.underlying t=some (.struct fs)) (hf:fs[i]?=some f) (hoff:f.offset=off) {z:Nat} (hz:dv P f.type=some z) (hz0:z≠0)
  (hq:yL (st.ev X) st.unit off k):o.wp P a w (cQ n0 S0 M0 w0 st o.dst k) Q':=by
 have ex:=h.ev_ hx;have hrun:∀(b p:Nat),a.eval x=.pointer (some ⟨b,p,none⟩)→(execOp a.eval o).run P w=.ok (.value (.pointer (some ⟨b,p+off,none⟩))) w:=by
  intro b p hv;subst hoff;simp[execOp,ho,hv,Instr.fieldAt,run_underlying ht,hf,Instr.sureAddr,fieldPlace,hZ hz,hz0,jG]
 unfold yL at hq
 split at hq
 ·next t1 d j e1=>
  rw[e1]at ex;obtain⟨b,p,hv,hr⟩:=pX ex;exact h.pure_ (hrun _ _ hv) (by rw[Nat.add_assoc];exact hr _ hq.1) hq.2
 ·next t1 b0 o0 d j e1=>
  rw[e1]at ex;obtain⟨ex',hl⟩:=qS ex rfl;obtain⟨b,p,hv,hr⟩:=pX ex';rw[hv]at hl;simp at hl;obtain⟨rfl,rfl⟩:=hl;exact h.pure_ (hrun _ _ hv) (AN (by rw[Nat.add_assoc];exact hr _ hq.1) rfl) hq.2
 ·next id el j e1=>
  rw[e1]at ex;simp only[ab]at ex;obtain⟨ow,nn,usz,es,b,r1,r2,r3,r4,hv⟩:=ex;unfold FH at hq
  split at hq
  ·next ow' nn' usz' es' hun=>
   have:=h.us.uniq r1 (ay hun);injection this with e1 e2 e3 e4;subst e1;subst e2;subst e3;subst e4;refine h.pure_ (hrun _ _ hv) ?_ hq.2;simp only[ab];exact⟨ow,nn,usz,es,b,r1,r2,hq.1,r4,by rw[Nat.add_assoc]⟩
  ·exact hq.elim
 ·next id el j isz el' j' e1=>
  rw[e1]at ex;simp only[ab]at ex;obtain⟨ow,nn,usz,es,b,c,ty,b',off',len',cap',r1,r2,r3,r4,r5,r6,hv⟩:=ex;refine h.pure_ (hrun _ _ hv) ?_ hq.2;simp only[ab];exact⟨ow,nn,usz,es,b,c,ty,b',off',len',cap',r1,r2,r3,r4,r5,r6,by rw[Nat.add_assoc]⟩
 ·next id j e1=>
  rw[e1]at ex;simp only[ab]at ex;obtain⟨sz,items,b,r1,r2,hv⟩:=ex;refine h.pure_ (hrun _ _ hv) ?_ hq;simp only[ab];exact⟨sz,items,b,r1,r2,rfl⟩
 ·exact hq.elim

theorem A5{h:aE}{us:List (Nat×U)}{g:Gh}{t:Option Nat}{d:D}{v:Value}(hr:ab h us g (.im t d) v)(hd:d.isAg=true):
  ∃cs F,v=.agg cs∧aW h d F cs.toList∧∀b∈F,g.ok t b:=by
 simp only[ab]at hr;obtain⟨F,h1,h2,h3⟩:=hr;cases d with
 |ag ds=>obtain⟨c,rfl⟩:=h2;exact⟨c,F,rfl,by simpa[Value.cells]using h1,h3⟩
 |_=>simp[D.isAg]at hd

theorem GQ{h:aE}{us:List (Nat×U)}{S0 M0:Nat→Prop}{n0:Nat}(hu:aZ h n0 S0 M0 us g){i:Nat}{d:D}{v:Value}(hr:ab h us g (.tr i) v)(hun:lu us i=some (.own d)):
  ab h us g (.im (some i) d) v:=by
 simp only[ab]at hr;obtain⟨_,rfl⟩:=hr;have ho:=hu.each _ (ay hun);simp only[cm]at ho;simp only[ab];exact⟨g.φ i,ho.2.1,ho.2.2,fun b hb=>.inr ⟨i,rfl,hb,by rw[ho.1];simp⟩⟩

theorem CO{d:D}{j:Nat}(hd:d.isAg=false):D.sub d j 1 false=d:=by cases d<;>simp_all [D.sub,D.isAg]

theorem w8{h:aE}{us:List (Nat×U)}{S0 M0:Nat→Prop}{n0:Nat}(hu:aZ h n0 S0 M0 us g){id el j sz:Nat}{agg:Bool}{v:Value}{nn:Option Bool}{usz:Nat}{es:List D}
  (hr:ab h us g (.cw id el j sz agg) v) (hun:lu us id=some (.ar true nn usz es)):ab h us g (.im (some id) (D.sub (D.at es el) j sz agg)) v:=by
 simp only[ab]at hr;obtain⟨nn',sz',es',b,c,e,r1,r2,r3,r4,r5,r6,r7,r8,r9⟩:=hr;have:=hu.uniq r1 (ay hun);injection this with e1 e2 e3 e4;subst e2;subst e3;subst e4;obtain⟨c',e',F2,c2,p1,p2,p3,p4,p5,p6,p7⟩:=lp (agg:=agg) (j:=j) (sz:=sz) hu r1 r2 r4 r3 r6 r7;rw[r5]at p1;injection p1 with p1;injection p1 with p1 p1';subst p1;have hc:v.cells.toList=c2:=by
  rw[r8];exact w3 p3 p2
 simp only[ab];refine⟨F2,by rw[hc];exact p4,?_,fun x hx=>.inr ⟨id,rfl,by simpa using p7 x hx⟩⟩;cases agg with
 |true=>simp only[if_true]at r9;rw[r9];exact oX p5
 |false=>exact fx p5 (by simpa using r9)

theorem aK.subl{h:aE}{ds:List D}{F:List Nat}{cs:List Value}{sz off len:Nat}(hr:aK h ds F cs)(hs:∀d∈ds,d.size=sz)(hl:off+len≤ds.length):
  ∃F2,aK h ((ds.drop off).take len) F2 ((cs.drop (off*sz)).take (len*sz))∧∀x∈F2,x∈F:=by
 have e:ds=ds.take off++((ds.drop off).take len++(ds.drop off).drop len):=by rw[List.take_append_drop,List.take_append_drop]
 have hr':aK h (ds.take off++((ds.drop off).take len++(ds.drop off).drop len)) F cs:=by rw[←e];exact hr
 obtain⟨F1,F23,c1,c23,rfl,rfl,s1,s23⟩:=hr'.split;obtain⟨F2,F3,c2,c3,rfl,rfl,s2,s3⟩:=s23.split;have l1:c1.length=off*sz:=by
  rw[s1.length,D.sizeL_const (sz:=sz) fun d hd=>hs d (List.mem_of_mem_take hd),List.length_take,Nat.min_eq_left (by omega)]
 have l2:c2.length=len*sz:=by
  rw[s2.length,D.sizeL_const (sz:=sz) fun d hd=>hs d (List.mem_of_mem_drop (List.mem_of_mem_take hd)),List.length_take,List.length_drop,Nat.min_eq_left (by omega)]
 refine⟨F2,?_,fun x hx=>by simp[hx]⟩;rw[←l1,←l2];simpa using s2

theorem aW.part{h:aE}{nn:Option Bool}{sz:Nat}{ds:List D}{F:List Nat}{p:Option Addr}{len' cap' off len:Nat}(hr:aW h (.ls nn sz ds) F [.slice p len' cap'])(hl:off+len≤len'):
  len'=ds.length∧off≤cap'∧∃F2,aW h (.ls (if off=0∧len=ds.length then nn else none) sz ((ds.drop off).take len)) F2 [.slice (p.map fun a=>a.add (if off=cap' then 0 else off*sz)) len (cap'-off)]∧∀x∈F2,x∈F:=by
 simp only[aW]at hr;rcases hr with⟨q,q1,rfl,rfl,q3,q4⟩|⟨b,o,cap,c,e,fr,F',q1,rfl,q3,q4,q5,q6,q7,q8,q9⟩
 ·simp only[List.cons.injEq,Value.slice.injEq,and_true]at q1;obtain⟨rfl,rfl,rfl⟩:=q1;have h1:off=0:=by omega
  have h2:len=0:=by omega
  subst h1 h2;refine⟨rfl,Nat.le_refl _,[],?_,by simp⟩;simp only[aW];refine .inl ⟨_,by simp;rfl,by simp,trivial,?_,?_⟩
  ·cases p<;>simp_all
  ·cases p<;>simp_all
 ·simp only[List.cons.injEq,Value.slice.injEq,and_true]at q1;obtain⟨rfl,rfl,rfl⟩:=q1;obtain⟨F2,s1,s2⟩:=q9.subl q8 hl;have hlen:((ds.drop off).take len).length=len:=by simp;omega
  refine⟨rfl,by omega,?_⟩
  by_cases hc:off=cap'
  ·subst hc;have h2:len=0:=by omega
   subst h2;refine⟨[],?_,by simp⟩;simp only[aW];refine .inl ⟨some ⟨b,o,none⟩,by simp[Addr.add],by simp,trivial,by simp,fun _=>?_⟩
   split
   ·exact q3
   ·simp
  ·refine⟨b::F2,?_,?_⟩
   ·simp only[aW];have hm:(cap'-off)*sz+off*sz=cap'*sz:=by rw[←Nat.add_mul];congr 1;omega
    refine .inr ⟨b,o+off*sz,cap'-off,c,e,fr,F2,by simp[hlen,Addr.add,hc],rfl,?_,by rw[hlen];omega,by rw[hlen];omega,q6,by omega,fun d hd=>q8 d (List.mem_of_mem_drop (List.mem_of_mem_take hd)),?_⟩
    ·split
     ·exact q3
     ·simp
    ·rw[hlen];have hle:off*sz+len*sz≤ds.length*sz:=by rw[←Nat.add_mul];exact Nat.mul_le_mul_right _ hl
     have e2:(((c.toList.drop o).take (ds.length*sz)).drop (off*sz)).take (len*sz)=(c.toList.drop (o+off*sz)).take (len*sz):=by
      rw[List.drop_take,List.drop_drop,List.take_take,Nat.min_eq_left (by omega)]
     rw[←e2];exact s1
   ·intro x hx;rcases List.mem_cons.1 hx with rfl|hx
    ·simp
    ·simp[s2 x hx]

theorem E9{h:aE}{us:List (Nat×U)}{S0 M0:Nat→Prop}{n0:Nat}(hu:aZ h n0 S0 M0 us g){id el j b:Nat}{nn:Option Bool}{usz:Nat}{es:List D}(hm:(id,U.ar true nn usz es)∈us)(hel:el<es.length)(hj:j+1≤usz)
  (hb:g.β id=some b) {c:Array Value} {e:TypeId} (hc:h[b]?=some (.cells c e (0,0))) {cv:Value} (hcv:c[el*usz+j]?=some cv):
  ∃F,aW h (D.sub (D.at es el) j 1 false) F [cv]∧∀x∈F,g.ok (some id) x:=by
 obtain⟨c1,e1,F2,c2,p1,p2,p3,p4,p5,p6,p7⟩:=lp (agg:=false) (sz:=1) hu hm hel hb hj (by simp) (by simp);rw[hc]at p1;injection p1 with p1;injection p1 with p1 p1';subst p1
 match c2,p3 with
 | [v],_=>
  have h0:=p2 0 v rfl;rw[Nat.add_zero,hcv]at h0;obtain rfl:=Option.some.inj h0;exact⟨F2,p4,fun x hx=>.inr ⟨id,rfl,by simpa using p7 x hx⟩⟩

theorem GJ{h:aE}{us:List (Nat×U)}{S0 M0:Nat→Prop}{n0:Nat}(hu:aZ h n0 S0 M0 us g){id el j isz off len:Nat}{v:Value}{nn:Option Bool}{usz:Nat}{es:List D}{d:D}(hr:ab h us g (.qs id el j isz off len) v)
  (hun:lu us id=some (.ar true nn usz es)) (hd:tA off len isz (D.sub (D.at es el) j 1 false)=some d):ab h us g (.im (some id) d) v:=by
 simp only[ab]at hr;obtain⟨ow,nn1,usz1,es1,b,c,e,p,len',cap',r1,r2,r3,r4,r5,r6,r7,r8,rfl⟩:=hr;have:=hu.uniq r1 (ay hun);injection this with e1 e2 e3 e4;subst e1 e2 e3 e4;obtain⟨F,q1,q2⟩:=E9 hu r1 r2 r3 r4 r5 r6;unfold tA at hd
 split at hd
 ·next nn' sz ds hds=>
  rw[hds]at q1
  split at hd
  ·next hz=>
   subst hz;obtain rfl:=Option.some.inj hd;obtain⟨_,_,F2,s1,s2⟩:=q1.part r7;simp only[ab];exact⟨F2,by simpa[Value.cells]using s1,by simp[D.fits,Value.oneCell'],fun x hx=>q2 x (s2 x hx)⟩
  ·cases hd
 ·cases hd

theorem N0{h:aE}{us:List (Nat×U)}{S0 M0:Nat→Prop}{n0:Nat}(hu:aZ h n0 S0 M0 us g){id off len:Nat}{v:Value}{ow:Bool}{nn:Option Bool}{usz:Nat}{es:List D}(hr:ab h us g (.ss id off len) v)
  (hun:lu us id=some (.ar ow nn usz es)):∃F,aW h (.ls none usz ((es.drop off).take len)) F v.cells.toList:=by
 simp only[ab]at hr;obtain⟨ow1,nn1,usz1,es1,r1,r2,r0⟩:=hr;have:=hu.uniq r1 (ay hun);injection this with e1 e2 e3 e4;subst e1 e2 e3 e4;have ho:=hu.each _ r1;simp only[cm]at ho;obtain⟨hmax,hs,ho⟩:=ho;rcases r0 with⟨b,o,r3,r4,rfl⟩|⟨_,rfl,rfl⟩
 case inr=>
  refine⟨[],?_⟩;simp only[aW];exact .inl ⟨none,by simp[Value.cells],by simp,trivial,by simp,by simp⟩
 rcases ho with⟨h0,_⟩|⟨b',c,e,G,cs,rest,k1,k2,k3,k4,k5,k6,k7,k8⟩
 ·rw[r3]at h0;cases h0
 rw[r3]at k1;obtain rfl:=Option.some.inj k1;obtain⟨F2,s1,s2⟩:=k6.subl hs r2;have hlen:((es1.drop off).take len).length=len:=by simp;omega
 have lc:=k6.length;rw[D.sizeL_const hs]at lc
 by_cases hc:off<g.cap id
 ·obtain rfl:=r4 hc;refine⟨b::F2,?_⟩;simp only[aW];have hm:(g.cap id-off)*usz1+off*usz1=g.cap id*usz1:=by rw[←Nat.add_mul];congr 1;omega
  refine .inr ⟨b,off*usz1,g.cap id-off,c,e,(0,0),F2,by simp[Value.cells,hlen],rfl,by simp,by rw[hlen];omega,by rw[hlen];omega,k2,by omega,fun d hd=>hs d (List.mem_of_mem_drop (List.mem_of_mem_take hd)),?_⟩;rw[hlen,k3];have hle:off*usz1+len*usz1≤es1.length*usz1:=by rw[←Nat.add_mul];exact Nat.mul_le_mul_right _ r2
  rw[List.drop_append_of_le_length (by omega),List.take_append_of_le_length (by simp;omega)];exact s1
 ·have h1:len=0:=by omega
  subst h1;refine⟨[],?_⟩;simp only[aW];exact .inl ⟨some ⟨b,o,none⟩,by simp[Value.cells];omega,by simp,trivial,by simp,by simp⟩

theorem gT{h:aE}{us:List (Nat×U)}{S0 M0:Nat→Prop}{n0:Nat}(hu:aZ h n0 S0 M0 us g){av:AV}{v:Value}(hr:ab h us g av v){t:Option Nat}{d:D}
  (hd:av.den (lu us)=some (t,d)):ab h us g (.im t d) v:=by
 unfold AV.den at hd
 split at hd
 ·injection hd with hd;injection hd with e1 e2;subst e1;subst e2;exact hr
 ·next i=>
  split at hd
  ·next d' hun=>injection hd with hd;injection hd with e1 e2;subst e1;subst e2;exact GQ hu hr hun
  ·cases hd
 ·next id el j sz agg=>
  split at hd
  ·next nn usz es hun=>injection hd with hd;injection hd with e1 e2;subst e1;subst e2;exact w8 hu hr hun
  ·cases hd
 ·next id el j isz off len=>
  split at hd
  ·next nn usz es hun=>
   simp only[Option.map_eq_some_iff]at hd;obtain⟨d',hd,hd'⟩:=hd;injection hd' with e1 e2;subst e1 e2;exact GJ hu hr hun hd
  ·cases hd
 ·cases hd

theorem dX{t e:TypeId}{sz:Nat}(ht:P.underlying t=some (.slice e))(hz:dv P e=some sz){b off len cap:Nat}{kd:IntKind}{n:Int}(h0:0≤n)(hn:n<len)(w:World):
  (Instr.indexAt t (.slice (some ⟨b,off,none⟩) len cap) (.int kd n)).run P w=.ok (.pointer (some ⟨b,off+n.toNat*sz,none⟩)) w:=by
 have h2:0≤n∧n<(len:Int):=⟨h0,hn⟩;simp[Instr.indexAt,asIntOf,run_underlying ht,h0,hn,hZ hz,jG]

theorem UC(h:At n0 S0 M0 w0 st o a w g){t e u1 u2:TypeId}{sz:Nat}{x i:Operand}{X I:Ax.X}(ho:o.op=.indexAddr t x i)(hx:aU P u1 x=some X)(hi:aU P u2 i=some I)
  (ht:P.underlying t=some (.slice e)) (hz:dv P e=some sz) (hq:xf (st.ev X) (st.ev I) st.unit sz k):o.wp P a w (cQ n0 S0 M0 w0 st o.dst k) Q':=by
 have ex:=h.ev_ hx;have ei:=h.ev_ hi;unfold xf at hq
 split at hq
 ·next t1 kd n e1=>
  rw[e1]at ei;have vi:=c9 ei
  split at hq
  ·next id off len e2=>
   rw[e2]at ex;simp only[ab]at ex;obtain⟨ow,nn,usz,es,r1,r2,r3⟩:=ex;obtain⟨⟨q1,q2⟩,hq⟩:=hq;unfold zJ at hq
   split at hq
   ·next ow' nn' usz' es' hun=>
    have:=h.us.uniq r1 (ay hun);injection this with e1 e2 e3 e4;subst e1;subst e2;subst e3;subst e4;obtain⟨⟨rfl,hs0⟩,hk⟩:=hq;rcases r3 with⟨b,r3,r4⟩|⟨_,_,rfl,_⟩
    ·refine h.pure_ (v:=.pointer (some ⟨b,off*sz+n.toNat*sz,none⟩)) ?_ ?_ hk
     ·have:=dX (P:=P) ht hz (b:=b) (off:=off*sz) (len:=len) (cap:=g.cap id-off) (kd:=kd) q1 q2 w;simp[execOp,ho,vi,r4,this]
     ·simp only[ab];refine⟨ow,nn,sz,es,b,r1,by omega,hs0,r3,by rw[Nat.add_mul];rfl⟩
    ·omega
   ·exact hq.elim
  ·next id off len e2=>
   rw[e2]at ex;simp only[ab]at ex;obtain⟨ow,nn,usz,es,r1,r2,r0⟩:=ex;obtain⟨⟨q1,q2⟩,hq⟩:=hq;rcases r0 with⟨b,o,r3,r4,r5⟩|⟨_,rfl,_⟩
   case inr=>omega
   unfold zJ at hq
   split at hq
   ·next ow' nn' usz' es' hun=>
    have:=h.us.uniq r1 (ay hun);injection this with e1 e2 e3 e4;subst e1;subst e2;subst e3;subst e4;obtain⟨⟨rfl,hs0⟩,hk⟩:=hq;have hcap:es.length≤g.cap id:=by
     have ho:=h.us.each _ r1;simp only[cm]at ho;rcases ho.2.2 with⟨h0,_⟩|⟨_,_,_,_,_,_,_,_,_,_,hc,_⟩
     ·rw[r3]at h0;cases h0
     ·exact hc
    obtain rfl:=r4 (by omega);refine h.pure_ (v:=.pointer (some ⟨b,off*sz+n.toNat*sz,none⟩)) ?_ ?_ hk
    ·have:=dX (P:=P) ht hz (b:=b) (off:=off*sz) (len:=len) (cap:=g.cap id-off) (kd:=kd) q1 q2 w;simp[execOp,ho,vi,r5,this]
    ·simp only[ab];refine⟨ow,nn,sz,es,b,r1,by omega,hs0,r3,by rw[Nat.add_mul];rfl⟩
   ·exact hq.elim
  ·next id el j e2=>
   rw[e2]at ex;unfold Gj at hq
   split at hq
   ·next nn usz es hun=>
    unfold GB at hq
    split at hq
    ·next nn' sz' ds hd=>
     obtain⟨⟨rfl,hs0,q1,q2⟩,hk⟩:=hq;have hr:=w8 h.us ex hun;rw[hd]at hr;simp only[ab,aW,D.fits]at hr;obtain⟨F,hrep,hf,hok⟩:=hr;rw[aS hf]at hrep;rcases hrep with⟨_,_,rfl,_⟩|⟨b',off',cap',c',el',fr,F',p1,p2,p3,p4,p5,p6,p7,p8,p9⟩
     ·simp at q2;omega
     ·have hv:a.eval x=.slice (some ⟨b',off',none⟩) ds.length cap':=by simpa using p1
      simp only[ab]at ex;obtain⟨nn0,usz0,es0,b,c,ty,r1,r2,r3,r4,r5,r6,r7,r8,r9⟩:=ex;have:=h.us.uniq r1 (ay hun);injection this with z1 z2 z3 z4;subst z2 z3 z4;refine h.pure_ (v:=.pointer (some ⟨b',off'+n.toNat*sz,none⟩)) ?_ ?_ hk
      ·have:=dX (P:=P) ht hz (b:=b') (off:=off') (len:=ds.length) (cap:=cap') (kd:=kd) q1 q2 w;simp[execOp,ho,vi,hv,this]
      ·simp only[ab];refine⟨true,nn0,usz0,es0,b,c,ty,b',off',ds.length,cap',r1,r2,r3,r4,r5,?_,by simp⟩;rw[aS hf]at r8;have h1:((c.toList.drop (el*usz0+j)).take 1)[0]?=some (a.eval x):=by rw[←r8];simp
       rw[List.getElem?_take_of_lt (by omega),List.getElem?_drop,Nat.add_zero,Array.getElem?_toList]at h1;rw[h1,hv]
    ·exact hq.elim
   ·exact hq.elim
  ·unfold C4 at hq
   split at hq
   ·next t2 nn sz' ds hd=>
    have hr:=gT h.us ex hd;obtain⟨⟨rfl,hs0,q1,q2⟩,hk⟩:=hq;have hr':=hr;simp only[ab,aW,D.fits]at hr;obtain⟨F,hrep,hf,hok⟩:=hr;rw[aS hf]at hrep;rcases hrep with⟨_,_,rfl,_⟩|⟨b,off,cap,c,el,fr,F',p1,p2,p3,p4,p5,p6,p7,p8,p9⟩
    ·simp at q2;omega
    ·have hv:a.eval x=.slice (some ⟨b,off,none⟩) ds.length cap:=by simpa using p1
     have hlt:n.toNat<ds.length:=by omega
     obtain⟨F1,F2,F3,c1,c2,c3,g1,g2,g3,g4,g5⟩:=p9.pick hlt;have hsz:=p8 _ (List.getElem_mem hlt);have l1:c1.length=n.toNat*sz:=by
      rw[g3.length,D.sizeL_const (sz:=sz) fun d hd=>p8 d (List.mem_of_mem_take hd),List.length_take,Nat.min_eq_left (Nat.le_of_lt hlt)]
     have hmul:n.toNat*sz+sz≤ds.length*sz:=by
      have:=Nat.mul_le_mul_right sz (show n.toNat+1≤ds.length by omega);rw[Nat.add_mul]at this;omega
     have hmul2:ds.length*sz≤cap*sz:=Nat.mul_le_mul_right sz p4;refine h.pure_ (v:=.pointer (some ⟨b,off+n.toNat*sz,none⟩)) ?_ ?_ hk
     ·have:=dX (P:=P) ht hz (b:=b) (off:=off) (len:=ds.length) (cap:=cap) (kd:=kd) q1 q2 w;simp[execOp,ho,vi,hv,this]
     ·rw[D.at_eq hlt];simp only[ab];refine⟨b::F2,?_,by simp[D.fits,Value.oneCell'],?_⟩
      ·unfold aW;refine⟨b,off+n.toNat*sz,c,el,fr,F2,by simp[Value.cells],rfl,by omega,p6,by omega,?_⟩;have:(c.toList.drop (off+n.toNat*sz)).take ((ds[n.toNat]).size)=c2:=by
        have e1:=congrArg (fun l=>(l.drop c1.length).take c2.length) g2;simp only[List.drop_left',List.take_left',List.drop_take,List.drop_drop,List.take_take]at e1;rw[l1]at e1;have l2:=g4.length;rw[hsz]at l2;rw[l2,Nat.min_eq_left (by omega)]at e1;rw[hsz];exact e1
       rw[this];exact g4
      ·intro y hy
       apply hok
       rw[p2,g1];rcases List.mem_cons.1 hy with rfl|hy
       ·simp
       ·simp[hy]
   ·next t2 b0 o0 nn sz' ds hd=>
    obtain⟨hr,hl⟩:=qS (gT h.us ex hd) rfl;obtain⟨⟨rfl,hs0,q1,q2⟩,hk⟩:=hq;have hr':=hr;simp only[ab,aW,D.fits]at hr;obtain⟨F,hrep,hf,hok⟩:=hr;rw[aS hf]at hrep;rcases hrep with⟨_,_,rfl,_⟩|⟨b,off,cap,c,el,fr,F',p1,p2,p3,p4,p5,p6,p7,p8,p9⟩
    ·simp at q2;omega
    ·have hv:a.eval x=.slice (some ⟨b,off,none⟩) ds.length cap:=by simpa using p1
     rw[hv]at hl;simp at hl;obtain⟨rfl,rfl⟩:=hl;have hlt:n.toNat<ds.length:=by omega
     obtain⟨F1,F2,F3,c1,c2,c3,g1,g2,g3,g4,g5⟩:=p9.pick hlt;have hsz:=p8 _ (List.getElem_mem hlt);have l1:c1.length=n.toNat*sz:=by
      rw[g3.length,D.sizeL_const (sz:=sz) fun d hd=>p8 d (List.mem_of_mem_take hd),List.length_take,Nat.min_eq_left (Nat.le_of_lt hlt)]
     have hmul:n.toNat*sz+sz≤ds.length*sz:=by
      have:=Nat.mul_le_mul_right sz (show n.toNat+1≤ds.length by omega);rw[Nat.add_mul]at this;omega
     have hmul2:ds.length*sz≤cap*sz:=Nat.mul_le_mul_right sz p4;refine h.pure_ (v:=.pointer (some ⟨b,off+n.toNat*sz,none⟩)) ?_ ?_ hk
     ·have:=dX (P:=P) ht hz (b:=b) (off:=off) (len:=ds.length) (cap:=cap) (kd:=kd) q1 q2 w;simp[execOp,ho,vi,hv,this]
     ·refine AN ?_ rfl;rw[D.at_eq hlt];simp only[ab];refine⟨b::F2,?_,by simp[D.fits,Value.oneCell'],?_⟩
      ·unfold aW;refine⟨b,off+n.toNat*sz,c,el,fr,F2,by simp[Value.cells],rfl,by omega,p6,by omega,?_⟩;have:(c.toList.drop (off+n.toNat*sz)).take ((ds[n.toNat]).size)=c2:=by
        have e1:=congrArg (fun l=>(l.drop c1.length).take c2.length) g2;simp only[List.drop_left',List.take_left',List.drop_take,List.drop_drop,List.take_take]at e1;rw[l1]at e1;have l2:=g4.length;rw[hsz]at l2;rw[l2,Nat.min_eq_left (by omega)]at e1;rw[hsz];exact e1
       rw[this];exact g4
      ·intro y hy
       apply hok
       rw[p2,g1];rcases List.mem_cons.1 hy with rfl|hy
       ·simp
       ·simp[hy]
   ·exact hq.elim
 ·exact hq.elim

theorem MH(h:At n0 S0 M0 w0 st o a w g){t u1 e:TypeId}{c:Call}{x:Operand}{X:Ax.X}(ho:o.op=.call c)(hc:c.callee=.builtin .len)(ha:c.args= #[x])(hta:c.argTypes= #[t])(hx:aU P u1 x=some X)
  (ht:P.underlying t=some (.slice e)) (hq:jP (st.ev X) st.unit k):o.wp P a w (cQ n0 S0 M0 w0 st o.dst k) Q':=by
 have ex:=h.ev_ hx;have hrun:∀p len cap,a.eval x=.slice p len cap→(execOp a.eval o).run P w=.ok (.value (.int .i64 len)) w:=by
  intro p len cap hv;simp[execOp,ho,resolve,hc,ha,hta,hv,invoke,builtin,Builtin.len_,run_underlying ht,goInt]
 unfold jP at hq
 split at hq
 ·next id off len e2=>
  rw[e2]at ex;simp only[ab]at ex;obtain⟨ow,nn,usz,es,r1,r2,r3⟩:=ex;rcases r3 with⟨b,r3,r4⟩|⟨_,_,rfl,r4⟩
  ·exact h.pure_ (hrun _ _ _ r4) (dl rfl) hq
  ·exact h.pure_ (hrun _ _ _ r4) (dl rfl) hq
 ·next id off len e2=>
  rw[e2]at ex;simp only[ab]at ex;obtain⟨ow,nn,usz,es,r1,r2,⟨b,o,r3,r4,r5⟩|⟨_,rfl,r5⟩⟩:=ex
  ·exact h.pure_ (hrun _ _ _ r5) (dl rfl) hq
  ·exact h.pure_ (hrun _ _ _ r5) (dl rfl) hq
 ·next nn sz e2=>
  rw[e2]at ex;simp only[ab]at ex;obtain⟨p,r5,_⟩:=ex;exact h.pure_ (hrun _ _ _ r5) (dl rfl) hq
 ·unfold rB at hq
  split at hq
  ·next t2 nn sz' ds hd=>
   have hr:=gT h.us ex hd;obtain⟨p,len,cap,hv,rfl,_,_⟩:=na hr;exact h.pure_ (hrun _ _ _ hv) (dl rfl) hq
  ·next t2 b0 o0 nn sz' ds hd=>
   obtain⟨hr,_⟩:=qS (gT h.us ex hd) rfl;obtain⟨p,len,cap,hv,rfl,_,_⟩:=na hr;exact h.pure_ (hrun _ _ _ hv) (dl rfl) hq
  ·exact hq.elim

end Go.Ax
namespace Go.Ax

variable {P : Program} {n0 : Nat} {S0 M0 : Nat → Prop} {w0 : World}
variable {st : St} {o : Oper} {a : Act} {w : World} {k : KQ} {Q' : Exit → Act → World → Prop} {g : Gh}

theorem cj{k:Nat}:∀{us:List (Nat×U)},jJ k us=true→k∉us.map (·.1)
 | [],_=>by simp
 |(i,u)::r,h=>by
  simp only[jJ,bA,bne_iff_ne]at h;have ih:=cj h.2;simp only[lC,List.mem_cons,not_or];exact⟨fun e=>h.1 e.symm,ih⟩

theorem gZ{g:Gh}{a b:List (Nat×U)}:fp g (a++b)=fp g a++fp g b:=by simp[fp]

theorem aZ.grow{h h':aE}{us nus:List (Nat×U)}{g g':Gh}(hu:aZ h n0 S0 M0 us g)(hsz:h.size≤h'.size)(hh:∀b,b<h.size→h'[b]?=h[b]?)
  (hk:((nus++us).map (·.1)).Nodup) (hβ:∀x∈us,g'.β x.1=g.β x.1∧g'.root x.1=g.root x.1∧g'.cap x.1=g.cap x.1) (hφ:∀x∈us,g'.φ x.1=g.φ x.1)
  (hS:∀b,g.Sh b→g'.Sh b) (hS':∀b,g'.Sh b→g.Sh b∨(h.size≤b∧b<h'.size∧b∉fp g' nus)) (hn:(fp g' nus).Nodup) (hge:∀b∈fp g' nus,h.size≤b∧b<h'.size) (hb:n0≤h.size)
  (hd:∀k,k∉(nus++us).map (·.1)→g'.φ k=[]) (ho:∀x∈nus,cm h' (nus++us) g' x.1 x.2) (hz:∀b∈fp g' nus,kp h' b) (hpn:∀x∈nus,x.2.isPin=true→x.1<3000000000):aZ h' n0 S0 M0 (nus++us) g':=by
 have hfp:fp g' us=fp g us:=by
  unfold fp;clear hu ho hd hk hβ
  induction us with
  |nil=>rfl
  |cons x us ih=>simp only[List.flatMap_cons];rw[hφ x (by simp),ih fun y hy=>hφ y (by simp[hy])]
 have hok:∀t b,b<h.size→g.ok t b→g'.ok t b:=by
  intro t b _ hb;rcases hb with hb|⟨i,hi,h1,h2⟩
  ·exact .inl (hS b hb)
  ·obtain⟨u,hm⟩:=hu.live h1;exact .inr ⟨i,hi,by rw[hφ _ hm];exact h1,by rw[(hβ _ hm).1];exact h2⟩
 refine⟨hk,?_,?_,?_,hd,?_,?_,?_,hu.pin.app hpn fun x hx=>⟨(hβ x hx).1,(hβ x hx).2.2⟩⟩
 ·rw[gZ,hfp,List.nodup_append];refine⟨hn,hu.nodup,?_⟩;rintro x hx y hy rfl;have:=(hge x hx).1;have:=hu.lt x hy;omega
 ·intro b hb';rw[gZ,hfp]at hb';rcases List.mem_append.1 hb' with h1|h1
  ·exact(hge b h1).2
  ·have:=hu.lt b h1;omega
 ·intro b hb' hlt;rw[gZ,hfp]at hb';rcases List.mem_append.1 hb' with h1|h1
  ·have:=(hge b h1).1;omega
  ·exact hu.low b h1 hlt
 ·intro b hb';rcases hS' b hb' with h1|⟨h1,h2,h3⟩
  ·obtain⟨q1,q2,q3⟩:=hu.sh b h1;refine⟨by omega,q2,?_⟩;rw[gZ,hfp,List.mem_append];rintro(h4|h4)
   ·have:=(hge b h4).1;omega
   ·exact q3 h4
  ·refine⟨h2,fun h4=>by omega,?_⟩;rw[gZ,hfp,List.mem_append];rintro(h4|h4)
   ·exact h3 h4
   ·have:=hu.lt b h4;omega
 ·intro x hx;rcases List.mem_append.1 hx with h1|h1
  ·exact ho x h1
  ·exact(hu.each x h1).mono h1 (fun y hy=>List.mem_append.2 (.inr hy)) hh hβ (hφ x h1) (fun b _ hb=>hS b hb) hok
 ·intro b hb';rw[gZ,hfp]at hb';rcases List.mem_append.1 hb' with h1|h1
  ·exact hz b h1
  ·obtain⟨c,e,h2⟩:=hu.fz b h1;exact⟨c,e,by rw[hh b (hu.lt b h1)];exact h2⟩

theorem ab.grow{h h':aE}{us nus:List (Nat×U)}{g g':Gh}(hu:aZ h n0 S0 M0 us g)(hh:∀b,b<h.size→h'[b]?=h[b]?)
  (hβ:∀x∈us,g'.β x.1=g.β x.1∧g'.root x.1=g.root x.1∧g'.cap x.1=g.cap x.1) (hφ:∀x∈us,g'.φ x.1=g.φ x.1)
  (hS:∀b,g.Sh b→g'.Sh b) {av:AV} {v:Value} (hr:ab h us g av v):ab h' (nus++us) g' av v:=by
 refine hr.mono (fun y hy=>List.mem_append.2 (.inr hy)) hh hβ ?_;intro t b _ hb;rcases hb with hb|⟨i,hi,h1,h2⟩
 ·exact .inl (hS b hb)
 ·obtain⟨u,hm⟩:=hu.live h1;exact .inr ⟨i,hi,by rw[hφ _ hm];exact h1,by rw[(hβ _ hm).1];exact h2⟩

def Gh.add(g:Gh)(d:Nat)(β:Option Nat)(φ:List Nat)(root:Value)(cap:Nat):Gh:=
 {β:=fun i=>if i=d then β else g.β i,φ:=fun i=>if i=d then φ else g.φ i,root:=fun i=>if i=d then root else g.root i,
  cap:=fun i=>if i=d then cap else g.cap i,Sh:=g.Sh}

theorem fi(h:At n0 S0 M0 w0 st o a w g){c:Array Value}{e:TypeId}{v:Value}{av:AV}{d:Nat}{u:U}(φ:List Nat)(cap:Nat)
  (hrun:(execOp a.eval o).run P w=.ok (.value v) {w with heap:=w.heap.push (.cells c e (0,0))})
  (hφ:φ=[w.heap.size])
  (hu:jJ d st.us=true→cm (w.heap.push (.cells c e (0,0))) ((d,u)::st.us) (g.add d (some w.heap.size) φ v cap) d u)
  (hr:jJ d st.us=true→ab (w.heap.push (.cells c e (0,0))) ((d,u)::st.us) (g.add d (some w.heap.size) φ v cap) av v)
  (hk:k av [(d,u)]) (hpn:u.isPin=true→d<3000000000:=by simp[U.isPin]):o.wp P a w (cQ n0 S0 M0 w0 st o.dst k) Q':=by
 unfold Oper.wp;rw[hrun];refine⟨av,[(d,u)],hk,fun hf=>?_⟩;have hno:jJ d st.us=true:=by
  rcases hf with hf|hf
  ·cases hf
  ·simp only[St.fresh,jJ,bU]at hf;exact hf
 have hno':=cj hno;generalize hg':g.add d (some w.heap.size) φ v cap=g' at hu hr;have hne:∀x∈st.us,x.1≠d:=fun x hx e=>hno' (List.mem_map.2 ⟨x,hx,e⟩);have hβ:∀x∈st.us,g'.β x.1=g.β x.1∧g'.root x.1=g.root x.1∧g'.cap x.1=g.cap x.1:=by
  intro x hx;subst hg';simp[Gh.add,hne x hx]
 have hφ':∀x∈st.us,g'.φ x.1=g.φ x.1:=by
  intro x hx;subst hg';simp[Gh.add,hne x hx]
 have hh:∀b,b<w.heap.size→(w.heap.push (.cells c e (0,0)))[b]?=w.heap[b]?:=by
  intro b hb;rw[Array.getElem?_push,if_neg (by omega)]
 have hS:∀b,g.Sh b→g'.Sh b:=by subst hg';exact fun b hb=>hb
 have hfp:fp g' [(d,u)]=[w.heap.size]:=by subst hg';simp[fp,Gh.add,hφ]
 have hU:aZ (w.heap.push (.cells c e (0,0))) n0 S0 M0 ([(d,u)]++st.us) g':=by
  refine h.us.grow (by simp) hh ?_ hβ hφ' hS ?_ ?_ ?_ (by rw[h.sat.base];exact h.sat.size) ?_ ?_ (by rw[hfp];intro b hb;rw[List.mem_singleton]at hb;subst hb;exact⟨c,e,by simp⟩) (by intro x hx hp;rw[List.mem_singleton]at hx;subst hx;exact hpn hp)
  ·simp only[List.cons_append,List.nil_append,lC,List.nodup_cons];exact⟨hno',h.us.keys⟩
  ·intro b hb;subst hg';exact .inl hb
  ·rw[hfp];simp
  ·rw[hfp];simp
  ·intro i hi;simp only[List.cons_append,List.nil_append,lC,List.mem_cons,not_or]at hi;subst hg';simp only[Gh.add,hi.1,if_false];exact h.us.dead i hi.2
  ·intro x hx;simp only[List.mem_singleton]at hx;subst hx;exact hu hno
 have hV:∀t,ab (w.heap.push (.cells c e (0,0))) ([(d,u)]++st.us) g' (lk st.env t) (a.tmps.getD t undef):=fun t=>(h.rep t).grow h.us hh hβ hφ' hS;have hs:=h.sat;have hS2:dH n0 S0 M0 w0 (st.addUs [(d,u)]) a {w with heap:=w.heap.push (.cells c e (0,0))}:=by
  refine⟨hs.ms,hs.dfr,hs.tm,hs.base,hs.os,hs.tape,hs.output,?_,?_,g',hU,hV⟩
  ·have:=hs.size;simp;omega
  ·intro b hb hm;rw[←hs.old b hb hm];exact hh b (by have:=hs.size;have:=hs.base;omega)
 exact cY hS2 (g:=g') hU hV h.dst (hr hno)

theorem b9{g:Gh}{d:Nat}{β:Option Nat}{φ:List Nat}{root:Value}{cap:Nat}:(g.add d β φ root cap).β d=β∧(g.add d β φ root cap).φ d=φ∧(g.add d β φ root cap).root d=root∧
  (g.add d β φ root cap).cap d=cap∧(g.add d β φ root cap).Sh=g.Sh:=by simp[Gh.add]

theorem dW(h:aE)(x:Obj):(h.push x)[h.size]?=some x:=by simp

theorem eu{h:aE}{x:Obj}{b:Nat}(hb:b<h.size):(h.push x)[b]?=h[b]?:=by rw[Array.getElem?_push,if_neg (by omega)]

theorem Nh(h:At n0 S0 M0 w0 st o a w g){e:TypeId}{d sz:Nat}{z:D}(ho:o.op=.alloc e)(hz:dE P e=some z)
  (hq:(0<sz∧z.size=sz∧z.noPtr=true)∧k (.pw d 0 0) [(d,.ar true (some false) sz [z])]):o.wp P a w (cQ n0 S0 M0 w0 st o.dst k) Q':=by
 obtain⟨⟨q1,q2,q3⟩,hk⟩:=hq;unfold dE at hz
 split at hz
 ·next i hi=>
  split at hz
  ·next zv hzv=>
   split at hz
   ·next hcs=>
    obtain⟨r1,r2,r3⟩:=jZ hz (w.heap.push (.cells zv.cells e (0,0)));have hl:=r1.length;refine fi h (c:=zv.cells) (e:=e) (v:=.pointer (some ⟨w.heap.size,0,none⟩)) [w.heap.size] 1 ?_ rfl ?_ ?_ hk
    ·simp[execOp,ho,Instr.alloc,zeroValue,typeInfo,hi,hzv,newVar,newRow]
    ·intro _;simp only[cm,b9];refine⟨by simp[aT],by simp[q2],.inr ⟨w.heap.size,zv.cells,e,[],zv.cells.toList,[],rfl,dW _ _,by simp,?_,by simp,?_,by simp,by simp⟩⟩
     ·have:zv.cells.toList.length=zv.cells.size:=by simp
      omega
     ·rw[cR];exact⟨[],[],_,[],by simp,by simp,r1,jl.2 ⟨rfl,rfl⟩⟩
    ·intro _;simp only[ab];exact⟨_,_,_,_,w.heap.size,List.mem_cons_self,by simp,q1,by simp[b9],by simp⟩
   ·cases hz
  ·cases hz
 ·cases hz

end Go.Ax
namespace Go.Ax

variable {P : Program} {n0 : Nat} {S0 M0 : Nat → Prop} {w0 : World}
variable {st : St} {o : Oper} {a : Act} {w : World} {k : KQ} {Q' : Exit → Act → World → Prop} {g : Gh}

theorem vo(zl:List Value)(sz:Nat)(hz:zl.length=sz)(h0:0<sz):∀c,(List.range (c*sz)).map (fun i=>zl.toArray[i % sz]!)=(List.replicate c zl).flatten
 |0=>by simp
 |c+1=>by
  have ih:=vo zl sz hz h0 c;rw[Nat.add_mul,Nat.one_mul,Nat.add_comm (c*sz) sz,List.range_add,List.map_append,List.replicate_succ,List.flatten_cons,←ih];congr 1
  ·apply List.ext_getElem
   ·simp[hz]
   ·intro i h1 h2;have hi:i<sz:=by simpa using h1
    simp[Nat.mod_eq_of_lt hi,h2]
  ·rw[List.map_map]
   apply List.map_congr_left
   intro i _;simp[Nat.add_mod_left]

theorem yH{h:aE}{z:D}{zl:List Value}(hr:aW h z [] zl):∀m,aK h (List.replicate m z) [] (List.replicate m zl).flatten
 |0=>by simp[aK]
 |m+1=>by
  simp only[List.replicate_succ,aK,List.flatten_cons];exact⟨[],[],_,_,rfl,rfl,hr,yH hr m⟩

theorem UE(h:At n0 S0 M0 w0 st o a w g){t e u1 u2:TypeId}{i:TypeInfo}{d sz bytes:Nat}{z:D}{l c:Operand}{L C:Ax.X}(ho:o.op=.makeSlice t l c)(ht:P.underlying t=some (.slice e))
  (hi:P.info? e=some i) (hsz:i.size=sz) (hby:i.bytes=bytes) (hz:dE P e=some z) (hl:aU P u1 l=some L) (hc:aU P u2 c=some C)
  (hq:G8 (st.ev L) (st.ev C) d sz bytes z k):o.wp P a w (cQ n0 S0 M0 w0 st o.dst k) Q':=by
 have el:=h.ev_ hl;have ec:=h.ev_ hc;unfold G8 at hq
 split at hq
 ·next t1 k1 m t2 k2 q e1 e2=>
  rw[e1]at el;rw[e2]at ec;have vl:=c9 el;have vc:=c9 ec;obtain⟨⟨p1,p2,p3,p4,p5,p6,p7⟩,hk⟩:=hq;unfold dE at hz;rw[hi]at hz
  dsimp only at hz
  split at hz
  ·next zv hzv=>
   split at hz
   ·next hcs=>
    have hrun:=run_make (P:=P) w t e i zv ht hi hzv k1 k2 m q p1 p2 (by rw[hby];omega) (by omega);obtain⟨r1,r2,r3⟩:=jZ hz (w.heap.push (.cells (madeCells zv.cells (q.toNat*i.size)) e (0,0)));have hlen:=r1.length;have hzs:zv.cells.toList.length=sz:=by rw[hlen,p6]
    have hmade:(madeCells zv.cells (q.toNat*i.size)).toList=(List.replicate q.toNat zv.cells.toList).flatten:=by
     have:=vo zv.cells.toList sz hzs p5 q.toNat;rw[←this,hsz];simp only[madeCells,Array.toList_map,Array.toList_range]
     apply List.map_congr_left
     intro y _;have:zv.cells.size=sz:=by rw[hcs,hsz]
     simp[this]
    have hsize:(madeCells zv.cells (q.toNat*i.size)).size=q.toNat*sz:=by rw[size_madeCells,hsz]
    refine fi h (c:=madeCells zv.cells (q.toNat*i.size)) (e:=e) (v:=.slice (some ⟨w.heap.size,0,none⟩) m.toNat q.toNat) [w.heap.size] q.toNat ?_ rfl ?_ ?_ hk
    ·simp only[execOp,ho,vl,vc,Sem.run_bind,hrun]
     rfl
    ·intro _;simp only[cm,b9,List.length_replicate];refine⟨by simp[aT];omega,?_,.inr ⟨w.heap.size,_,e,[],(List.replicate m.toNat zv.cells.toList).flatten,(List.replicate (q.toNat-m.toNat) zv.cells.toList).flatten,rfl,dW _ _,?_,hsize,by omega,yH r1 _,by simp,by simp⟩⟩
     ·intro x hx;rw[List.eq_of_mem_replicate hx,p6]
     ·rw[hmade,←List.flatten_append,List.replicate_append_replicate];congr 2;omega
    ·intro _;simp only[ab];refine⟨_,_,_,_,List.mem_cons_self,by simp,.inl ⟨w.heap.size,by simp[b9],by simp[b9]⟩⟩
   ·cases hz
  ·cases hz
 ·exact hq.elim

theorem At.bnd_lo(h:At n0 S0 M0 w0 st o a w g){lo:Option Operand}{Lo:Option Ax.X}{u2:TypeId}(hlo:∀y,lo=some y→∃Y,Lo=some Y∧aU P u2 y=some Y)(hlo':lo=none→Lo=none){d l:Int}{t2:Option Nat}{k2:IntKind}
  (e2:(Lo.map st.ev).getD (.im none (.sc (.int .i64 d)))=.im t2 (.sc (.int k2 l))):lo.map a.eval=none∧l=d∨∃kk,lo.map a.eval=some (.int kk l):=by
 cases lo with
 |none=>
  rw[hlo' rfl]at e2;simp only[Option.map_none,Option.getD_none,AV.im.injEq,D.sc.injEq,Value.int.injEq]at e2;exact .inl ⟨rfl,e2.2.2.symm⟩
 |some y=>
  obtain⟨Y,rfl,hY⟩:=hlo y rfl;have:=h.ev_ hY;simp only[Option.map_some,Option.getD_some]at e2;rw[e2]at this;exact .inr ⟨k2,by simp[c9 this]⟩

theorem jF{lo hi:Option Operand}{l hh:Int}{len cap:Nat}(hbl:lo.map a.eval=none∧l=0∨∃kk,lo.map a.eval=some (.int kk l))(hbh:hi.map a.eval=none∧hh=len∨∃kk,hi.map a.eval=some (.int kk hh))
  (q1:0≤l) (q2:l≤hh) (q3:hh≤len) (hcap:len≤cap):(Instr.sliceBounds true len cap (lo.map a.eval) (hi.map a.eval) none).run P w=.ok (l.toNat,hh.toNat,cap) w:=by
 have c1:0≤hh∧hh≤(cap:Int):=⟨by omega,by omega⟩;have c2:0≤l∧l≤((hh.toNat:Nat):Int):=⟨by omega,by omega⟩;rcases hbl with⟨b1,rfl⟩|⟨kk,b1⟩<;>rcases hbh with⟨b2,rfl⟩|⟨kk',b2⟩<;>rw[b1,b2]
 ·simp[Instr.sliceBounds]
 ·simp[Instr.sliceBounds,Instr.sliceBound,asIntOf,c1.1,c1.2]
 ·have c3:l≤(len:Int):=by omega
  simp[Instr.sliceBounds,Instr.sliceBound,asIntOf,c2.1,c3]
 ·have hm:max hh 0=hh:=by omega
  simp[Instr.sliceBounds,Instr.sliceBound,asIntOf,c1.1,c1.2,c2.1,hm,q2]

theorem Mz(h:At n0 S0 M0 w0 st o a w g){t e u1 u2 u3:TypeId}{sz:Nat}{x:Operand}{X:Ax.X}{lo hi:Option Operand}{Lo Hi:Option Ax.X}(ho:o.op=.slice t x lo hi none)(ht:P.underlying t=some (.slice e))
  (hz:dv P e=some sz) (hx:aU P u1 x=some X) (hlo:∀y,lo=some y→∃Y,Lo=some Y∧aU P u2 y=some Y) (hlo':lo=none→Lo=none)
  (hhi:∀y,hi=some y→∃Y,Hi=some Y∧aU P u3 y=some Y) (hhi':hi=none→Hi=none)
  (hq:sZ (st.ev X) st.ev st.unit sz Lo Hi k):o.wp P a w (cQ n0 S0 M0 w0 st o.dst k) Q':=by
 have ex:=h.ev_ hx;unfold sZ at hq
 split at hq
 ·next t1 nn sz' ds e1=>
  rw[e1]at ex;obtain⟨rfl,hq⟩:=hq;have ex':=ex;simp only[ab,D.fits]at ex;obtain⟨F,r1,r2,r3⟩:=ex;rw[aS r2]at r1;unfold AA at hq
  split at hq
  ·next t2 k2 l t3 k3 hh e2 e3=>
   obtain⟨⟨q1,q2,q3⟩,hk⟩:=hq;have hbl:=h.bnd_lo hlo hlo' e2;have hbh:=h.bnd_lo hhi hhi' e3;have hsb:∀cap,ds.length≤cap→(Instr.sliceBounds true ds.length cap (lo.map a.eval) (hi.map a.eval) none).run P w=.ok (l.toNat,hh.toNat,cap) w:=fun cap hcap=>jF hbl hbh q1 q2 q3 hcap;have hlen:((ds.take hh.toNat).drop l.toNat).length=hh.toNat-l.toNat:=by simp;omega
   rcases r1 with⟨pp,p1,rfl,rfl,p4⟩|⟨b,off,cap,c,el,fr,F',p1,p2,p3,p4,p5,p6,p7,p8,p9⟩
   ·have hv:a.eval x=.slice pp 0 0:=by simpa using p1
    have l0:l=0:=by simp at q3;omega
    have h0:hh=0:=by simp at q3;omega
    subst l0;subst h0;have:=hsb 0 (by simp);refine h.pure_ (v:=.slice pp 0 0) ?_ ?_ hk
    ·simp[execOp,ho,Instr.sliceAt,run_underlying ht,Instr.slice,hv]at this⊢;simp[this,hZ hz]
    ·simp only[ab,aW,D.fits];exact⟨[],.inl ⟨pp,by simp[Value.cells],by simp,rfl,p4⟩,rfl,by simp⟩
   ·have hv:a.eval x=.slice (some ⟨b,off,none⟩) ds.length cap:=by simpa using p1
    have hsl:=hsb cap p4;have hr:(execOp a.eval o).run P w=.ok (.value (.slice (some (if cap=l.toNat then⟨b,off,none⟩else⟨b,off+l.toNat*sz,none⟩)) (hh.toNat-l.toNat) (cap-l.toNat))) w:=by
     simp only[execOp,ho,Instr.sliceAt,Sem.run_bind,run_underlying ht,Instr.slice,hv,Result.andThen_ok,hZ hz,Sem.run_pure]
     split<;>simp_all [jG]
    refine h.pure_ hr ?_ hk

    have hsplit:ds=ds.take l.toNat++((ds.take hh.toNat).drop l.toNat++ds.drop hh.toNat):=by
     rw[←List.append_assoc];have e1:ds.take l.toNat=(ds.take hh.toNat).take l.toNat:=by rw[List.take_take,Nat.min_eq_left (by omega)]
     rw[e1,List.take_append_drop,List.take_append_drop]
    have p9':aK w.heap (ds.take l.toNat++((ds.take hh.toNat).drop l.toNat++ds.drop hh.toNat)) F' ((c.toList.drop off).take (ds.length*sz)):=by rw[←hsplit];exact p9
    obtain⟨F1,F23,c1,c23,g1,g2,s1,s23⟩:=p9'.split;obtain⟨F2,F3,c2,c3,rfl,rfl,s2,s3⟩:=s23.split;have hmem:∀x∈(ds.take hh.toNat).drop l.toNat,x.size=sz:=fun x hx=>p8 x (List.mem_of_mem_take (List.mem_of_mem_drop hx));have l1:c1.length=l.toNat*sz:=by
     rw[s1.length,D.sizeL_const (sz:=sz) fun d hd=>p8 d (List.mem_of_mem_take hd),List.length_take,Nat.min_eq_left (by omega)]
    have l2:c2.length=(hh.toNat-l.toNat)*sz:=by
     rw[s2.length,D.sizeL_const (sz:=sz) hmem,hlen]
    simp only[ab,D.fits];refine⟨b::F2,?_,rfl,?_⟩
    ·unfold aW;refine .inr ⟨b,if cap=l.toNat then off else off+l.toNat*sz,cap-l.toNat,c,el,fr,F2,?_,rfl,p3,by omega,?_,p6,?_,hmem,?_⟩
     ·rw[hlen]
      split<;>simp[Value.cells]
     ·rw[hlen];simp[aT]at p5⊢;omega
     ·have hm:(cap-l.toNat)*sz+l.toNat*sz=cap*sz:=by rw[←Nat.add_mul];congr 1;omega
      split
      ·next hcl=>rw[hcl]at p7⊢;simp;omega
      ·omega
     ·rw[hlen];have e1:=congrArg (fun l=>(l.drop c1.length).take c2.length) g2;simp only[List.drop_left',List.take_left',List.drop_take,List.drop_drop,List.take_take]at e1;have hle:(hh.toNat-l.toNat)*sz+l.toNat*sz≤ds.length*sz:=by rw[←Nat.add_mul];exact Nat.mul_le_mul_right _ (by omega)
      rw[Nat.min_eq_left (by omega),l1,l2]at e1
      split
      ·next hcl=>
       have:hh.toNat-l.toNat=0:=by omega
       rw[this]at l2⊢;simp only[Nat.zero_mul,List.take_zero];have:c2=[]:=List.eq_nil_of_length_eq_zero (by omega);rw[←this];exact s2
      ·rw[e1];exact s2
    ·intro y hy
     apply r3
     rw[p2,g1];rcases List.mem_cons.1 hy with rfl|hy
     ·simp
     ·simp[hy]
  ·exact hq.elim
 ·next id off len e1=>
  rw[e1]at ex;simp only[ab]at ex;obtain⟨ow,nn,usz,es,r1,r2,r3⟩:=ex;unfold wO at hq
  split at hq
  ·next ow' nn' usz' es' hun=>
   have:=h.us.uniq r1 (ay hun);injection this with z1 z2 z3 z4;subst z1 z2 z3 z4;obtain⟨rfl,hq⟩:=hq;unfold rC at hq
   split at hq
   ·next t2 k2 l t3 k3 hh e2 e3=>
    obtain⟨⟨q1,q2,q3⟩,hk⟩:=hq;have hbl:=h.bnd_lo hlo hlo' e2;have hbh:=h.bnd_lo hhi hhi' e3;have hl0:Lo=none→l=0:=by
     rintro rfl;simp only[Option.map_none,Option.getD_none,AV.im.injEq,D.sc.injEq,Value.int.injEq]at e2;exact e2.2.2.symm
    have fin:∀(av:AV)(v:Value),(execOp a.eval o).run P w=.ok (.value v) w→ab w.heap st.us g av v→k av []→o.wp P a w (cQ n0 S0 M0 w0 st o.dst k) Q':=fun av v h1 h2 h3=>h.pure_ h1 h2 h3;have hcap:∀b,g.β id=some b→es.length≤g.cap id:=by
     intro b hb;have ho:=h.us.each _ r1;simp only[cm]at ho;rcases ho.2.2 with⟨h0,_⟩|⟨_,_,_,_,_,_,_,_,_,_,hc,_⟩
     ·rw[hb]at h0;cases h0
     ·exact hc
    rcases r3 with⟨b,r3,r4⟩|⟨r3,rfl,rfl,r4⟩
    ·have hcb:=hcap b r3;have hsl:=jF (P:=P) (w:=w) (a:=a) hbl hbh q1 q2 q3 (cap:=g.cap id-off) (by omega);have hr:(execOp a.eval o).run P w=.ok (.value (.slice (some (if g.cap id-off=l.toNat then⟨b,off*usz,none⟩else⟨b,off*usz+l.toNat*usz,none⟩)) (hh.toNat-l.toNat) (g.cap id-off-l.toNat))) w:=by
      simp only[execOp,ho,Instr.sliceAt,Sem.run_bind,run_underlying ht,Instr.slice,r4,Option.map_none,hsl,Result.andThen_ok,hZ hz,Sem.run_pure]
      split<;>simp_all [jG]
     cases hLo:Lo with
     |none=>
      rw[hLo]at hk;have:=hl0 hLo;subst this;refine fin (.sm id off hh.toNat) _ hr ?_ (by simpa using hk);simp only[ab];refine⟨ow,nn,usz,es,r1,by omega,.inl ⟨b,r3,?_⟩⟩;simp
     |some LL=>
      rw[hLo]at hk;refine fin (.ss id (off+l.toNat) (hh.toNat-l.toNat)) _ hr ?_ (by simpa using hk);simp only[ab];refine⟨ow,nn,usz,es,r1,by omega,.inl ⟨b,if g.cap id-off=l.toNat then off*usz else off*usz+l.toNat*usz,r3,?_,?_⟩⟩
      ·intro hlt;rw[if_neg (by omega),Nat.add_mul]
      ·rw[show g.cap id-(off+l.toNat)=g.cap id-off-l.toNat by omega]
       split<;>rfl
    ·have h0:hh=0:=by omega
     have h1:l=0:=by omega
     subst h0 h1;have hsl:(Instr.sliceBounds true 0 0 (lo.map a.eval) (hi.map a.eval) none).run P w=.ok (0,0,0) w:=jF (P:=P) (w:=w) (a:=a) hbl hbh q1 q2 q3 (cap:=0) (by omega);have hr:(execOp a.eval o).run P w=.ok (.value (.slice none 0 0)) w:=by
      simp only[execOp,ho,Instr.sliceAt,Sem.run_bind,run_underlying ht,Instr.slice,r4,Option.map_none,hsl,Result.andThen_ok,hZ hz,Sem.run_pure];simp
     cases hLo:Lo with
     |none=>
      rw[hLo]at hk;refine fin (.sm id 0 0) _ hr ?_ (by simpa using hk);simp only[ab];exact⟨ow,nn,usz,es,r1,by simp,.inr ⟨r3,trivial,trivial,trivial⟩⟩
     |some LL=>
      rw[hLo]at hk;refine fin (.ss id 0 0) _ hr ?_ (by simpa using hk);simp only[ab];exact⟨ow,nn,usz,es,r1,by simp,.inr ⟨r3,trivial,trivial⟩⟩
   ·exact hq.elim
  ·exact hq.elim
 ·next id el j e1=>
  rw[e1]at ex;unfold xb at hq
  split at hq
  ·next nn usz es hun=>
   unfold zh at hq
   split at hq
   ·next nn' isz ds hd=>
    obtain⟨rfl,hq⟩:=hq;unfold rC at hq
    split at hq
    ·next t2 k2 l t3 k3 hh e2 e3=>
     obtain⟨⟨q1,q2,q3⟩,hk⟩:=hq;have hbl:=h.bnd_lo hlo hlo' e2;have hbh:=h.bnd_lo hhi hhi' e3;have hr0:=w8 h.us ex hun;rw[hd]at hr0;obtain⟨p,len,cap,hv,hlen,hp1,_⟩:=na hr0;have hcap:len≤cap:=by
      simp only[ab,aW,D.fits]at hr0;obtain⟨F,hrep,hf,_⟩:=hr0;rw[aS hf,hv]at hrep;rcases hrep with⟨_,y1,rfl,_⟩|⟨_,_,_,_,_,_,_,y1,_,_,y4,_⟩
      ·simp at hlen;omega
      ·simp only[List.cons.injEq,Value.slice.injEq,and_true]at y1;omega
     have hsl:=jF (P:=P) (w:=w) (a:=a) hbl hbh q1 q2 q3 (cap:=cap) (by omega);rw[←hlen]at hsl;have hr:(execOp a.eval o).run P w=.ok (.value (.slice (p.map fun x=>x.add (if l.toNat=cap then 0 else l.toNat*isz)) (hh.toNat-l.toNat) (cap-l.toNat))) w:=by
      simp only[execOp,ho,Instr.sliceAt,Sem.run_bind,run_underlying ht,Instr.slice,hv,Option.map_none,hsl,Result.andThen_ok,hZ hz,Sem.run_pure]
      by_cases hc:cap=l.toNat
      ·simp only[hc,if_true];cases p<;>simp[Addr.add]
      ·have hc':¬l.toNat=cap:=fun e=>hc e.symm;simp only[hc,hc',if_false]
     refine h.pure_ hr ?_ hk;have ex':=ex;simp only[ab]at ex;obtain⟨nn0,usz0,es0,b,c,ty,r1,r2,r3,r4,r5,r6,r7,r8,r9⟩:=ex;simp only[ab];refine⟨true,nn0,usz0,es0,b,c,ty,p,len,cap,r1,r2,r3,r4,r5,?_,by omega,by omega,rfl⟩;rw[hv]at r8;have h1:((c.toList.drop (el*usz0+j)).take 1)[0]?=some (.slice p len cap):=by rw[←r8];simp[Value.cells]
     rw[List.getElem?_take_of_lt (by omega),List.getElem?_drop,Nat.add_zero,Array.getElem?_toList]at h1;exact h1
    ·exact hq.elim
   ·exact hq.elim
  ·exact hq.elim
 ·exact hq.elim

end Go.Ax
namespace Go.Ax

variable {P : Program} {n0 : Nat} {S0 M0 : Nat → Prop} {w0 : World}
variable {st : St} {o : Oper} {a : Act} {w : World} {k : KQ} {Q' : Exit → Act → World → Prop} {g : Gh}

theorem aZ.addG{h:aE}{us:List (Nat×U)}{g:Gh}(hu:aZ h n0 S0 M0 us g){n:Nat}(hn:n∉us.map (·.1)){u:U}{β:Option Nat}{cap:Nat}{F:List Nat}{v:Value}(hlt:∀b∈F,b<h.size)
  (hnd : F.Nodup) (hge : ∀ b ∈ F, b < n0 → M0 b) (hfp : ∀ b ∈ F, b ∉ fp g us) (hsh : ∀ b ∈ F, ¬ g.Sh b) (hz : ∀ b ∈ F, kp h b) (hnew : cm h ((n, u) :: us) (g.add n β F v cap) n u) (hpn : u.isPin = true → kl n0 M0 n β cap := by simp [U.isPin]) : aZ h n0 S0 M0 ((n, u) :: us) (g.add n β F v cap) ∧
   ∀av x,ab h us g av x→ab h ((n,u)::us) (g.add n β F v cap) av x:=by
 have hne:∀x∈us,x.1≠n:=fun x hx e=>hn (List.mem_map.2 ⟨x,hx,e⟩);have hfp':fp (g.add n β F v cap) us=fp g us:=by
  unfold fp;have hne':=hne;clear hu hn hfp hnew
  induction us with
  |nil=>rfl
  |cons x us ih=>
   simp only[List.flatMap_cons];rw[ih (fun y hy=>hne y (by simp[hy])) (fun y hy=>hne' y (by simp[hy]))];simp[Gh.add,hne x (by simp)]
 have hφn:(g.add n β F v cap).φ n=F:=by simp[Gh.add]
 have hβ:∀x∈us,(g.add n β F v cap).β x.1=g.β x.1∧(g.add n β F v cap).root x.1=g.root x.1∧(g.add n β F v cap).cap x.1=g.cap x.1:=by
  intro x hx;simp[Gh.add,hne x hx]
 have hok:∀t b,b<h.size→g.ok t b→(g.add n β F v cap).ok t b:=by
  intro t b _ hb;rcases hb with hb|⟨i,hi,h1,h2⟩
  ·exact .inl hb
  ·obtain⟨u,hm⟩:=hu.live h1;have:i≠n:=hne _ hm;exact .inr ⟨i,hi,by simpa[Gh.add,this]using h1,by simpa[Gh.add,this]using h2⟩
 have hV:∀av x,ab h us g av x→ab h ((n,u)::us) (g.add n β F v cap) av x:=fun av x hr=>
  hr.mono (fun y hy=>List.mem_cons_of_mem _ hy) (fun _ _=>rfl) hβ hok
 refine⟨⟨?_,?_,?_,?_,?_,?_,?_,?_,hu.pin.cons hn (fun i hi=>by simp[Gh.add,hi]) (by simpa[Gh.add]using hpn)⟩,hV⟩
 ·simp only[lC,List.nodup_cons];exact⟨hn,hu.keys⟩
 ·show(((g.add n β F v cap).φ n)++fp (g.add n β F v cap) us).Nodup
  rw[hφn,hfp',List.nodup_append];exact⟨hnd,hu.nodup,fun x hx y hy e=>hfp x hx (e▸hy)⟩
 ·intro b hb;have hb:b∈((g.add n β F v cap).φ n)++fp (g.add n β F v cap) us:=hb;rw[hφn,hfp']at hb;rcases List.mem_append.1 hb with hb|hb
  ·exact hlt b hb
  ·exact hu.lt b hb
 ·intro b hb hlt;have hb:b∈((g.add n β F v cap).φ n)++fp (g.add n β F v cap) us:=hb;rw[hφn,hfp']at hb;rcases List.mem_append.1 hb with hb|hb
  ·exact hge b hb hlt
  ·exact hu.low b hb hlt
 ·intro i hi;simp only[lC,List.mem_cons,not_or]at hi;simp only[Gh.add,hi.1,if_false];exact hu.dead i hi.2
 ·intro b hb;obtain⟨q1,q2,q3⟩:=hu.sh b hb;refine⟨q1,q2,?_⟩
  show b∉((g.add n β F v cap).φ n)++fp (g.add n β F v cap) us
  rw[hφn,hfp',List.mem_append];rintro(h1|h1)
  ·exact hsh b h1 hb
  ·exact q3 h1
 ·intro x hx;rcases List.mem_cons.1 hx with rfl|hx
  ·exact hnew
  ·refine(hu.each x hx).mono hx (fun y hy=>List.mem_cons_of_mem _ hy) (fun _ _=>rfl) hβ (by simp[Gh.add,hne x hx]) (fun b _ hb=>hb) hok
 ·intro b hb;have hb:b∈((g.add n β F v cap).φ n)++fp (g.add n β F v cap) us:=hb;rw[hφn,hfp']at hb;rcases List.mem_append.1 hb with hb|hb
  ·exact hz b hb
  ·exact hu.fz b hb

theorem aZ.addOwn{h:aE}{us:List (Nat×U)}{g:Gh}(hu:aZ h n0 S0 M0 us g){n:Nat}(hn:n∉us.map (·.1)){d:D}{F:List Nat}{v:Value}(hr:aW h d F v.cells.toList)(hf:d.fits v)
  (hnd : F.Nodup) (hge : ∀ b ∈ F, b < n0 → M0 b) (hfp : ∀ b ∈ F, b ∉ fp g us) (hsh : ∀ b ∈ F, ¬ g.Sh b) (hz : ∀ b ∈ F, kp h b) : aZ h n0 S0 M0 ((n, .own d) :: us) (g.add n none F v 0) ∧
   ∀av x,ab h us g av x→ab h ((n,.own d)::us) (g.add n none F v 0) av x:=
 hu.addG hn (fun b hb=>hr.lt b hb) hnd hge hfp hsh hz (by simp only[cm,Gh.add,if_true];exact⟨trivial,hr,hf⟩)

theorem aZ.wide{h h':aE}{us:List (Nat×U)}{g:Gh}(hu:aZ h n0 S0 M0 us g)(hsz:h.size≤h'.size)(hh:∀b,b<h.size→h'[b]?=h[b]?)(hb:n0≤h.size)(G:List Nat)
  (hG : ∀ b ∈ G, g.Sh b ∨ (h.size ≤ b ∧ b < h'.size)) : aZ h' n0 S0 M0 us { g with Sh := fun b => g.Sh b ∨ b ∈ G } ∧
   ∀av x,ab h us g av x→ab h' us {g with Sh:=fun b=>g.Sh b∨b∈G} av x:=by
 have hU:=hu.grow (h':=h') (nus:=[]) (g':={g with Sh:=fun b=>g.Sh b∨b∈G}) hsz hh (by simpa using hu.keys) (fun x _=>⟨rfl,rfl,rfl⟩) (fun x _=>rfl) (fun b hb=>Or.inl hb) ?_ (by simp[fp]) (by simp[fp]) hb
  (fun k hk=>hu.dead k (by simpa using hk)) (by simp) (by simp[fp]) (by simp)
 ·exact⟨hU,fun av x hr=>hr.grow (nus:=[]) (g':={g with Sh:=fun b=>g.Sh b∨b∈G}) hu hh (fun x _=>⟨rfl,rfl,rfl⟩) (fun x _=>rfl) (fun b hb=>Or.inl hb)⟩
 ·intro b hb;rcases hb with hb|hb
  ·exact .inl hb
  ·rcases hG b hb with h1|h1
   ·exact .inl h1
   ·exact .inr ⟨h1.1,h1.2,by simp[fp]⟩

theorem yU{h:aE}{us:List (Nat×U)}{g:Gh}(hu:aZ h n0 S0 M0 us g){n:Nat}{r:gz}{F G:List Nat}{v:Value}(hr:co h r F G v)(hr1:∀rs,r≠.tup rs)(hnd:F.Nodup)
  (hge:∀b∈F,b<n0→M0 b) (hfp:∀b∈F,b∉fp g us) (hsh:∀b∈F,¬g.Sh b) (hz:∀b∈F,kp h b) (allsh:Bool) (hG:allsh=true→∀b∈G,g.Sh b)
  (hf:∀x∈(bW n allsh r).2,jJ x.1 us=true):
  ∃g',aZ h n0 S0 M0 ((bW n allsh r).2++us) g'∧ab h ((bW n allsh r).2++us) g' (bW n allsh r).1 v∧(∀av x,ab h us g av x→ab h ((bW n allsh r).2++us) g' av x)∧
   (∀b,g'.Sh b↔g.Sh b)∧(∀b,b∈fp g' ((bW n allsh r).2++us)→b∈F∨b∈fp g us):=by
 cases r with
 |own d=>
  simp only[co]at hr;obtain⟨rfl,r1,r2⟩:=hr;simp only[bW]at hf⊢;cases hp:d.flat with
  |true=>
   have:=cC (D.flat_noPtr hp) r1;subst this;simp only[if_true,List.nil_append];refine⟨g,hu,?_,fun av x hr=>hr,fun b=>Iff.rfl,fun b hb=>.inr hb⟩;simp only[ab];exact⟨[],r1,r2,by simp⟩
  |false=>
   simp only[hp,fq,if_false]at hf⊢;have hn:=cj (hf (n,.own d) (by simp));obtain⟨hU,hV⟩:=hu.addOwn hn r1 r2 hnd hge hfp hsh hz;refine⟨_,hU,?_,hV,fun b=>Iff.rfl,?_⟩
   ·simp only[List.cons_append,List.nil_append,ab];exact⟨⟨d,by simp⟩,by simp[Gh.add]⟩
   ·intro b hb;have hne:∀x∈us,x.1≠n:=fun x hx e=>hn (List.mem_map.2 ⟨x,hx,e⟩);simp only[List.cons_append,List.nil_append,aH,List.mem_cons]at hb;obtain⟨x,hx,hb⟩:=hb;rcases hx with rfl|hx
    ·simp only[Gh.add,if_true]at hb;exact .inl hb
    ·simp only[Gh.add,hne x hx,if_false]at hb;exact .inr (aH.2 ⟨x,hx,hb⟩)
 |sh d=>
  simp only[co]at hr;obtain⟨rfl,r1,r2⟩:=hr;simp only[bW,List.nil_append];refine⟨g,hu,?_,fun av x hr=>hr,fun b=>Iff.rfl,fun b hb=>.inr hb⟩;cases allsh with
  |true=>
   simp only[if_true,ab];exact⟨G,r1,r2,fun b hb=>.inl (hG rfl b hb)⟩
  |false=>simp[ab]
 |tup rs=>exact absurd rfl (hr1 rs)
 |arr sz es=>
  simp only[co]at hr;obtain⟨rfl,r1,r2,b,c,e,F',cs,rest,cap,rfl,rfl,r3,r4,r5,r6,r7⟩:=hr;simp only[bW]at hf⊢;have hn:=cj (hf (n,.ar true (some false) sz es) (by simp));have hlt:∀x∈b::F',x<h.size:=by
   intro x hx;rcases List.mem_cons.1 hx with rfl|hx
   ·exact(Array.getElem?_eq_some_iff.1 r3).1
   ·exact aK.lt r7 x hx
  obtain⟨hU,hV⟩:=hu.addG (u:=.ar true (some false) sz es) (β:=some b) (cap:=cap) (v:=.slice (some ⟨b,0,none⟩) es.length cap) hn hlt hnd hge hfp hsh hz (by
   simp only[cm,Gh.add,if_true];exact⟨r1,r2,.inr ⟨b,c,e,F',cs,rest,rfl,r3,r4,r5,r6,r7,by simp,rfl⟩⟩)
  refine⟨_,hU,?_,hV,fun b=>Iff.rfl,?_⟩
  ·simp only[List.cons_append,List.nil_append,ab];exact⟨_,_,_,_,List.mem_cons_self,by simp,.inl ⟨b,by simp[Gh.add],by simp[Gh.add]⟩⟩
  ·intro x hb;have hne:∀x∈us,x.1≠n:=fun x hx e=>hn (List.mem_map.2 ⟨x,hx,e⟩);simp only[List.cons_append,List.nil_append,aH,List.mem_cons]at hb;obtain⟨y,hx,hb⟩:=hb;rcases hx with rfl|hx
   ·simp only[Gh.add,if_true]at hb;exact .inl hb
   ·simp only[Gh.add,hne y hx,if_false]at hb;exact .inr (aH.2 ⟨y,hx,hb⟩)
 |bxs d=>
  simp only[co]at hr;obtain⟨h0,b,c,e,cs,rest,cap,rfl,rfl,r3,r4,r5,r6,r7⟩:=hr;simp only[bW]at hf⊢;cases allsh with
  |false=>
   simp only[fq,if_false,List.nil_append];exact⟨g,hu,by simp[ab],fun av x hr=>hr,fun b=>Iff.rfl,fun b hb=>.inr hb⟩
  |true=>
   simp only[if_true]at hf⊢;have hn:=cj (hf (n,.ar false (some false) d.size [d]) (by simp));have hlt:∀x∈[b],x<h.size:=by
    intro x hx;rw[List.mem_singleton.1 hx];exact(Array.getElem?_eq_some_iff.1 r3).1
   obtain⟨hU,hV⟩:=hu.addG (u:=.ar false (some false) d.size [d]) (β:=some b) (cap:=cap) (v:=.pointer (some ⟨b,0,none⟩)) hn hlt hnd hge hfp hsh hz (by
    simp only[cm,Gh.add,if_true];refine⟨by simp[aT],by simp,.inr ⟨b,c,e,G,cs,rest,rfl,r3,r4,r5,by simpa using r6,?_,by simp,?_⟩⟩
    ·simp only[aK];exact⟨G,[],cs,[],by simp,by simp,r7,⟨rfl,rfl⟩⟩
    ·simp only[fq,if_false];exact⟨trivial,fun x hx=>hG rfl x hx⟩)
   refine⟨_,hU,?_,hV,fun b=>Iff.rfl,?_⟩
   ·simp only[List.cons_append,List.nil_append,ab];exact⟨_,_,_,_,b,List.mem_cons_self,by simp,h0,by simp[Gh.add],by simp⟩
   ·intro x hb;have hne:∀x∈us,x.1≠n:=fun x hx e=>hn (List.mem_map.2 ⟨x,hx,e⟩);simp only[List.cons_append,List.nil_append,aH,List.mem_cons]at hb;obtain⟨y,hx,hb⟩:=hb;rcases hx with rfl|hx
    ·simp only[Gh.add,if_true]at hb;exact .inl hb
    ·simp only[Gh.add,hne y hx,if_false]at hb;exact .inr (aH.2 ⟨y,hx,hb⟩)

theorem nf{k:Nat}:∀{a b:List (Nat×U)},jJ k (a++b)=(jJ k a&&jJ k b)
 | [],_=>by simp[jJ]
 |(i,u)::r,b=>by simp only[List.cons_append,jJ,nf,Bool.and_assoc]

theorem oO{st:St}:∀{a b:List (Nat×U)},st.fresh (a++b)=true→st.fresh a=true∧st.fresh b=true∧∀x∈a,jJ x.1 b=true
 | [],b,h=>by simpa[St.fresh]using h
 |x::r,b,h=>by
  simp only[List.cons_append,St.fresh,bA,nf]at h;obtain⟨⟨h1,h2,h3⟩,h4⟩:=h;obtain⟨q1,q2,q3⟩:=oO h4;refine⟨by simp[St.fresh,h1,h2,q1],q2,?_⟩;intro y hy;rcases List.mem_cons.1 hy with rfl|hy
  ·exact h3
  ·exact q3 y hy

theorem pc{st:St}:∀{a:List (Nat×U)},st.fresh a=true→∀x∈a,jJ x.1 st.us=true
 | [],_=>by simp
 |x::r,h=>by
  simp only[St.fresh,bA]at h;intro y hy;rcases List.mem_cons.1 hy with rfl|hy
  ·exact h.1.1
  ·exact pc h.2 y hy

def HI(n:Nat)(allsh:Bool)(r:gz):AV×List (Nat×U):=
 match r with
 |.own d=>if d.flat then(.im none d,[])else(.tr n,[(n,.own d)])
 |.sh d=>(if allsh then .im none d else .any,[])
 |.arr sz es=>(.sm n 0 es.length,[(n,.ar true (some false) sz es)])
 |.bxs d=>if allsh then(.pw n 0 0,[(n,.ar false (some false) d.size [d])])else(.any,[])
 |.tup _=>(.any,[])

theorem zb{allsh:Bool}{n:Nat}{r:gz}{rs:List gz}:bW.bindL allsh n (r::rs)=HI n allsh r::bW.bindL allsh (n+1000) rs:=rfl

theorem u9{h:aE}{allsh:Bool}{st:St}:∀{rs:List gz} {n:Nat} {F G:List Nat} {vs:List Value} {g:Gh},aZ h n0 S0 M0 st.us g→da h rs F G vs→F.Nodup→
  (∀b∈F,b<n0→M0 b)→(∀b∈F,b∉fp g st.us)→(∀b∈F,¬g.Sh b)→(∀b∈F,kp h b)→(allsh=true→∀b∈G,g.Sh b)→st.fresh ((bW.bindL allsh n rs).map (·.2)).flatten=true→
  ∃g',aZ h n0 S0 M0 (((bW.bindL allsh n rs).map (·.2)).flatten++st.us) g'∧ah h (((bW.bindL allsh n rs).map (·.2)).flatten++st.us) g' ((bW.bindL allsh n rs).map (·.1)) vs∧
   (∀av x,ab h st.us g av x→ab h (((bW.bindL allsh n rs).map (·.2)).flatten++st.us) g' av x)∧(∀b,g'.Sh b↔g.Sh b)∧
   (∀b,b∈fp g' (((bW.bindL allsh n rs).map (·.2)).flatten++st.us)→b∈F∨b∈fp g st.us)
 | [],n,F,G,vs,g,hu,hr,_,_,_,_,_,_,_=>by
  simp only[da]at hr;simp only[bW.bindL,lN,List.flatten_nil,List.nil_append,ah];exact⟨g,hu,hr.2.2,fun _ _ h=>h,fun _=>Iff.rfl,fun b hb=>.inr hb⟩
 |r::rs,n,F,G,vs,g,hu,hr,hnd,hge,hfp,hsh,hz,hG,hf=>by
  simp only[da]at hr;obtain⟨F1,F2,G1,G2,v,ws,rfl,rfl,rfl,r1,r2⟩:=hr;rw[List.nodup_append]at hnd;rw[zb]at hf⊢;simp only[lC,List.flatten_cons]at hf⊢;obtain⟨f1,f2,f3⟩:=oO hf;obtain⟨g1,u1,v1,m1,s1,p1⟩:=u9 hu r2 hnd.2.1 (fun b hb=>hge b (by simp[hb])) (fun b hb=>hfp b (by simp[hb])) (fun b hb=>hsh b (by simp[hb])) (fun b hb=>hz b (by simp[hb])) (fun e b hb=>hG e b (by simp[hb])) f2;have hF1:∀b∈F1,b∉fp g1 (((bW.bindL allsh (n+1000) rs).map (·.2)).flatten++st.us):=by
   intro b hb hb2;rcases p1 b hb2 with h1|h1
   ·exact hnd.2.2 b hb b h1 rfl
   ·exact hfp b (by simp[hb]) h1
  by_cases ht:∃q,r=.tup q
  ·obtain⟨q,rfl⟩:=ht;simp only[HI,List.nil_append];refine⟨g1,u1,?_,m1,s1,fun b hb=>(p1 b hb).imp (fun h=>by simp[h]) id⟩;simp only[ah];exact⟨v,ws,rfl,by simp[ab],v1⟩
  ·have e:HI n allsh r=bW n allsh r:=by cases r<;>first|rfl|exact absurd ⟨_,rfl⟩ ht
   rw[e]at f1 f3⊢;obtain⟨g2,u2,v2,m2,s2,p2⟩:=yU (n:=n) u1 r1 (fun q hq=>ht ⟨q,hq⟩) hnd.1 (fun b hb=>hge b (by simp[hb])) hF1 (fun b hb=>by rw[s1];exact hsh b (by simp[hb])) (fun b hb=>hz b (by simp[hb])) allsh
    (fun e b hb=>by rw[s1];exact hG e b (by simp[hb])) (fun x hx=>by rw[nf,f3 x hx,pc f1 x hx];rfl)
   rw[List.append_assoc];refine⟨g2,u2,?_,fun av x h=>m2 _ _ (m1 _ _ h),fun b=>(s2 b).trans (s1 b),?_⟩
   ·simp only[ah];refine⟨v,ws,rfl,v2,?_⟩;have:∀{as:List AV} {xs:List Value},ah h (((bW.bindL allsh (n+1000) rs).map (·.2)).flatten++st.us) g1 as xs→ah h ((bW n allsh r).2++(((bW.bindL allsh (n+1000) rs).map (·.2)).flatten++st.us)) g2 as xs:=by
     intro as
     induction as with
     |nil=>intro xs h;simpa[ah]using h
     |cons a as ih=>
      intro xs h;simp only[ah]at h⊢;obtain⟨v,r,h1,h2,h3⟩:=h;exact⟨v,r,h1,m2 _ _ h2,ih h3⟩
    exact this v1
   ·intro b hb;rcases p2 b hb with h1|h1
    ·exact .inl (by simp[h1])
    ·exact(p1 b h1).imp (fun h=>by simp[h]) id

theorem yh{h:aE}{st:St}{g:Gh}(hu:aZ h n0 S0 M0 st.us g){n:Nat}{r:gz}{F G:List Nat}{v:Value}(hr:co h r F G v)(hnd:F.Nodup)
  (hge:∀b∈F,b<n0→M0 b) (hfp:∀b∈F,b∉fp g st.us) (hsh:∀b∈F,¬g.Sh b) (hz:∀b∈F,kp h b) (allsh:Bool) (hG:allsh=true→∀b∈G,g.Sh b)
  (hf:(bW n allsh r).2=[]∨st.fresh (bW n allsh r).2=true):
  ∃g',aZ h n0 S0 M0 ((bW n allsh r).2++st.us) g'∧ab h ((bW n allsh r).2++st.us) g' (bW n allsh r).1 v∧(∀av x,ab h st.us g av x→ab h ((bW n allsh r).2++st.us) g' av x):=by
 have hf':st.fresh (bW n allsh r).2=true:=by
  rcases hf with h|h
  ·rw[h];rfl
  ·exact h
 by_cases ht:∃q,r=.tup q
 ·obtain⟨q,rfl⟩:=ht;simp only[co]at hr;obtain⟨vs,rfl,hr⟩:=hr;simp only[bW]at hf'⊢;obtain⟨g',h1,h2,h3,_,_⟩:=u9 hu hr hnd hge hfp hsh hz hG hf';exact⟨g',h1,by simp only[ab];exact⟨vs,rfl,h2⟩,h3⟩
 ·obtain⟨g',h1,h2,h3,_,_⟩:=yU hu hr (fun q hq=>ht ⟨q,hq⟩) hnd hge hfp hsh hz allsh hG (fun x hx=>pc hf' x hx);exact⟨g',h1,h2,h3⟩

end Go.Ax
namespace Go.Ax

variable {P : Program} {n0 : Nat} {S0 M0 : Nat → Prop} {w0 : World}
variable {st : St} {o : Oper} {a : Act} {w : World} {k : KQ} {Q' : Exit → Act → World → Prop} {g : Gh}

theorem fk{g:Gh}{b:Nat}(h:g.ok none b):g.Sh b:=by
 rcases h with h|⟨i,hi,_⟩
 ·exact h
 ·cases hi

theorem sO{h:aE}{us:List (Nat×U)}{sz:Nat}:∀{items:List AV} {vs:List Value} {ds:List D},ah h us g items vs→nj sz items=some ds→
  ∃F,aK h ds F (vs.map (·.cells.toList)).flatten∧(∀d∈ds,d.size=sz)∧ds.length=items.length
 | [],vs,ds,hr,hd=>by
  simp only[ah]at hr;simp only[nj,oS]at hd;subst hr hd;exact⟨[],by simp[aK],by simp,rfl⟩
 |av::items,vs,ds,hr,hd=>by
  simp only[ah]at hr;obtain⟨v,r,rfl,h1,h2⟩:=hr;unfold nj at hd
  split at hd
  ·next heq=>cases heq
  ·next d r' heq=>
   injection heq with e1 e2;subst e1 e2
   split at hd
   ·next hs=>
    split at hd
    ·next ds' hds=>
     injection hd with hd;subst hd;obtain⟨F,i1,i2,i3⟩:=sO h2 hds;simp only[ab]at h1;obtain⟨F1,q1,_,_⟩:=h1;refine⟨F1++F,?_,by simp;exact⟨hs,i2⟩,by simp[i3]⟩;simp only[lC,List.flatten_cons,aK];exact⟨F1,F,_,_,rfl,rfl,q1,i1⟩
    ·cases hd
   ·cases hd
  ·cases hd

theorem dA{h:aE}{us:List (Nat×U)}(hu:aZ h n0 S0 M0 us g){av:AV}(hne:(∀f vs,av≠.cl f vs)∧∀vs,av≠.sg vs){v:Value}(hr:ab h us g av v){d:D}(hd:av.arg (lu us)=some d):
  ∃F,aW h d F v.cells.toList∧d.fits v∧(av.shared=true→∀b∈F,g.Sh b):=by
 unfold AV.arg at hd
 split at hd
 ·next t e=>
  obtain rfl:=Option.some.inj hd;simp only[ab]at hr;obtain⟨F,r1,r2,r3⟩:=hr;refine⟨F,r1,r2,fun hs b hb=>?_⟩;cases t with
  |none=>exact fk (r3 b hb)
  |some i=>
   simp only[AV.shared,bA]at hs;rw[cC hs.2 r1]at hb;cases hb
 ·next i=>
  split at hd
  ·next d' hun=>
   obtain rfl:=Option.some.inj hd;have:=GQ hu hr hun;simp only[ab]at this;obtain⟨F,r1,r2,r3⟩:=this;exact⟨F,r1,r2,by simp[AV.shared]⟩
  ·cases hd
 ·next id el j sz agg=>
  split at hd
  ·next nn usz es hun=>
   obtain rfl:=Option.some.inj hd;have:=w8 hu hr hun;simp only[ab]at this;obtain⟨F,r1,r2,r3⟩:=this;exact⟨F,r1,r2,by simp[AV.shared]⟩
  ·cases hd
 ·next id el j=>
  split at hd
  ·next ow nn usz es hun=>
   obtain rfl:=Option.some.inj hd;simp only[ab]at hr;obtain⟨ow',nn',usz',es',b,r1,r2,r3,r4,rfl⟩:=hr;have:=hu.uniq r1 (ay hun);injection this with e1 e2 e3 e4;subst e1;subst e2;subst e3;subst e4;have ho:=hu.each _ r1;simp only[cm]at ho;obtain⟨_,hs,ho⟩:=ho;rcases ho with⟨h0,_⟩|⟨b',c,e,G,cs,rest,k1,k2,k3,k4,k5,k6,k7,k8⟩
   ·rw[r4]at h0;cases h0
   rw[r4]at k1;obtain rfl:=Option.some.inj k1;obtain⟨F1,F2,F3,c1,c2,c3,g1,g2,p1,p2,p3⟩:=k6.pick r2;have hsz:(es'[el]).size=usz':=hs _ (List.getElem_mem r2);have l1:c1.length=el*usz':=by
    rw[p1.length,D.sizeL_const (sz:=usz') fun d hd=>hs d (List.mem_of_mem_take hd),List.length_take,Nat.min_eq_left (Nat.le_of_lt r2)]
   have l2:=p2.length;rw[D.at_eq r2];refine⟨b::F2,?_,by simp[D.fits,Value.oneCell'],by simp[AV.shared]⟩;unfold aW;have hlen:c.toList.length=c.size:=by simp
   refine⟨b,el*usz',c,e,(0,0),F2,by simp[Value.cells],rfl,by omega,k2,?_,?_⟩
   ·rw[k3,g2]at hlen;simp only[lP,l1,l2]at hlen;omega
   ·have:(c.toList.drop (el*usz')).take ((es'[el]).size)=c2:=by
     rw[k3,g2,←l1,←l2];simp
    rw[this];exact p2
  ·cases hd
 ·next id off len=>
  split at hd
  ·next ow nn usz es hun=>
   obtain rfl:=Option.some.inj hd;simp only[ab]at hr;obtain⟨ow',nn',usz',es',r1,r2,r3⟩:=hr;have:=hu.uniq r1 (ay hun);injection this with e1 e2 e3 e4;subst e1;subst e2;subst e3;subst e4;have ho:=hu.each _ r1;simp only[cm]at ho;obtain⟨hmax,hs,ho⟩:=ho;have hlen:((es'.drop off).take len).length=len:=by simp;omega
   rcases r3 with⟨b,r3,rfl⟩|⟨r3,rfl,rfl,rfl⟩
   ·rcases ho with⟨h0,_⟩|⟨b',c,e,G,cs,rest,k1,k2,k3,k4,k5,k6,k7,k8⟩
    ·rw[r3]at h0;cases h0
    rw[r3]at k1;obtain rfl:=Option.some.inj k1;have hes:es'=es'.take off++((es'.drop off).take len++(es'.drop off).drop len):=by rw[List.take_append_drop,List.take_append_drop]
    have k6':aK h (es'.take off++((es'.drop off).take len++(es'.drop off).drop len)) G cs:=by rw[←hes];exact k6
    obtain⟨F1,F23,c1,c23,g1,g2,s1,s23⟩:=k6'.split;obtain⟨F2,F3,c2,c3,rfl,rfl,s2,s3⟩:=s23.split;have hm:∀d∈(es'.drop off).take len,d.size=usz':=fun d hd=>hs d (List.mem_of_mem_drop (List.mem_of_mem_take hd));have l1:c1.length=off*usz':=by
     rw[s1.length,D.sizeL_const (sz:=usz') fun d hd=>hs d (List.mem_of_mem_take hd),List.length_take,Nat.min_eq_left (by omega)]
    have l2:c2.length=len*usz':=by rw[s2.length,D.sizeL_const hm,hlen]
    refine⟨b::F2,?_,rfl,by simp[AV.shared]⟩;unfold aW;refine .inr ⟨b,off*usz',g.cap id-off,c,e,(0,0),F2,by simp[Value.cells,hlen],rfl,?_,by rw[hlen];omega,by rw[hlen];omega,k2,?_,hm,?_⟩
    ·split
     ·exact k7
     ·simp
    ·rw[k4,←Nat.add_mul];exact Nat.mul_le_mul_right _ (by omega)
    ·rw[hlen,k3,g2,←l1,←l2];simpa using s2
   ·rcases ho with⟨_,rfl,h3,h4⟩|⟨b',c,e,G,cs,rest,k1,_⟩
    ·refine⟨[],?_,rfl,by simp⟩;unfold aW;refine .inl ⟨none,by simp[Value.cells],by simp,rfl,fun _=>?_,by simp⟩
     split
     ·exact h4
     ·simp
    ·rw[r3]at k1;cases k1
  ·cases hd
 ·next id off len=>
  split at hd
  ·next ow nn usz es hun=>
   obtain rfl:=Option.some.inj hd;obtain⟨F,r1⟩:=N0 hu hr hun;refine⟨F,r1,?_,by simp[AV.shared]⟩;simp only[ab]at hr;obtain⟨_,_,_,_,_,_,⟨_,_,_,_,rfl⟩|⟨_,_,rfl⟩⟩:=hr<;>rfl
  ·cases hd
 ·next id len=>
  split at hd
  ·next sz items hun=>
   split at hd
   ·next hlen=>
    split at hd
    ·next ds hds=>
     obtain rfl:=Option.some.inj hd;simp only[ab]at hr;obtain⟨sz',items',b,r1,r2,r3,rfl⟩:=hr;have:=hu.uniq r1 (ay hun);injection this with e1 e2;subst e1;subst e2;have ho:=hu.each _ r1;simp only[cm]at ho;obtain⟨hmax,b',c,e,vs,rest,k1,k2,k3,k4,k5,k6⟩:=ho;rw[r3]at k1;obtain rfl:=Option.some.inj k1;obtain⟨F,p1,p2,p3⟩:=sO k4 hds;have hl:=p1.length;rw[D.sizeL_const p2]at hl;refine⟨b::F,?_,rfl,by simp[AV.shared]⟩;unfold aW;have hcs:ds.length*sz'≤c.size:=by
      have:c.toList.length=c.size:=by simp
      rw[k6,lP]at this;omega
     refine .inr ⟨b,0,len,c,e,(0,0),F,by simp[Value.cells,p3,hlen],rfl,by simp,by omega,by omega,k2,by rw[p3,←hlen]at hcs;omega,p2,?_⟩;rw[List.drop_zero,k6,List.take_left' hl];exact p1
    ·cases hd
   ·cases hd
  ·cases hd
 ·next id el j isz off len=>
  split at hd
  ·next nn usz es hun=>
   have:=GJ hu hr hun hd;simp only[ab]at this;obtain⟨F,r1,r2,r3⟩:=this;exact⟨F,r1,r2,by simp[AV.shared]⟩
  ·cases hd
 ·next id el j isz el' j'=>
  split at hd
  ·next nn usz es hun=>
   unfold Px at hd
   split at hd
   ·next nn' sz ds hds=>
    split at hd
    ·next hz=>
     obtain⟨rfl,h1,h2⟩:=hz;obtain rfl:=Option.some.inj hd;obtain⟨this,_⟩:=G6 hu hr hun hds h1 h2;simp only[ab]at this;obtain⟨F,r1,r2,r3⟩:=this;exact⟨F,r1,r2,by simp[AV.shared]⟩
    ·cases hd
   ·cases hd
  ·cases hd
 ·next f vs=>exact absurd rfl (hne.1 f vs)
 ·next nn sz=>
  obtain rfl:=Option.some.inj hd;simp only[ab]at hr;obtain⟨p,rfl,r1,r2⟩:=hr;refine⟨[],?_,by simp[D.fits,Value.oneCell'],by simp⟩;unfold aW;exact .inl ⟨p,by simp[Value.cells],rfl,rfl,r1,r2⟩
 ·next vs=>exact absurd rfl (hne.2 vs)
 ·cases hd
 ·cases hd
 ·cases hd
 ·cases hd

theorem ud{h:aE}:∀{ds:List D} {F:List Nat} {vs:List Value},fT h ds F vs→aK h ds F (vs.map (·.cells.toList)).flatten
 | [],F,vs,hr=>by
  rw[yp]at hr;obtain⟨rfl,rfl⟩:=hr;simp[aK]
 |d::ds,F,vs,hr=>by
  rw[l9]at hr;obtain⟨F1,F2,v,r,rfl,rfl,h1,_,h2⟩:=hr;rw[cR];exact⟨F1,F2,_,_,rfl,by simp only[lC,List.flatten_cons],h1,ud h2⟩
mutual
theorem wq{h:aE}{us:List (Nat×U)}(hu:aZ h n0 S0 M0 us g):∀{av:AV} {v:Value} {d:D},ab h us g av v→av.arg (lu us)=some d→
  ∃F,aW h d F v.cells.toList∧d.fits v∧(av.shared=true→∀b∈F,g.Sh b)
 |.cl f vs,v,d,hr,hd=>by
  simp only[AV.arg]at hd
  split at hd
  ·next ds hds=>
   obtain rfl:=Option.some.inj hd;simp only[ab]at hr;obtain⟨xs,h1,rfl⟩:=hr;obtain⟨F,q1,q2⟩:=qI hu h1 hds;refine⟨F,?_,by simp[D.fits,Value.oneCell'],fun hs=>q2 (by simpa[AV.shared]using hs)⟩;simp only[aW];exact⟨xs,by simp[Value.cells],q1⟩
  ·cases hd
 |.im _ _,_,_,hr,hd=>dA hu (by simp) hr hd
 |.tr _,_,_,hr,hd=>dA hu (by simp) hr hd
 |.pw _ _ _,_,_,hr,hd=>dA hu (by simp) hr hd
 |.cw _ _ _ _ _,_,_,hr,hd=>dA hu (by simp) hr hd
 |.sm _ _ _,_,_,hr,hd=>dA hu (by simp) hr hd
 |.vb _ _,_,_,hr,hd=>dA hu (by simp) hr hd
 |.pb _ _,_,_,hr,hd=>dA hu (by simp) hr hd
 |.ps _,_,_,hr,hd=>dA hu (by simp) hr hd
 |.sg vs,v,d,hr,hd=>by
  simp only[AV.arg]at hd
  split at hd
  ·next ds hds=>
   unfold GH at hd
   split at hd
   ·next hall=>
    obtain rfl:=Option.some.inj hd;simp only[ab]at hr;obtain⟨xs,h1,rfl⟩:=hr;obtain⟨F,q1,q2⟩:=qI hu h1 hds;refine⟨F,?_,by simp[D.fits,Value.cells],fun hs=>by simp[AV.shared]at hs⟩;simp only[aW];rw[List.all_eq_true]at hall;refine⟨fun d hd=>?_,by simpa[Value.cells]using ud q1⟩;have:=hall d hd;simpa using this
   ·cases hd
  ·cases hd
 |.tup _,_,_,hr,hd=>dA hu (by simp) hr hd
 |.any,_,_,hr,hd=>dA hu (by simp) hr hd
 |.pq _ _ _ _ _ _,_,_,hr,hd=>dA hu (by simp) hr hd
 |.qs _ _ _ _ _ _,_,_,hr,hd=>dA hu (by simp) hr hd
 |.ss _ _ _,_,_,hr,hd=>dA hu (by simp) hr hd
 |.z0 _ _,_,_,hr,hd=>dA hu (by simp) hr hd
theorem qI{h:aE}{us:List (Nat×U)}(hu:aZ h n0 S0 M0 us g):∀{avs:List AV} {vs:List Value} {ds:List D},ah h us g avs vs→dm (lu us) avs=some ds→
  ∃F,fT h ds F vs∧(AV.sharedL avs=true→∀b∈F,g.Sh b)
 | [],vs,ds,hr,hd=>by
  simp only[dm,oS]at hd;subst hd;simp only[ah]at hr;subst hr;exact⟨[],by simp[fT],by simp⟩
 |av::avs,vs,ds,hr,hd=>by
  simp only[ah]at hr;obtain⟨v,r,rfl,r1,r2⟩:=hr;simp only[dm]at hd
  split at hd
  ·next d ds' h1 h2=>
   obtain rfl:=Option.some.inj hd;obtain⟨F1,p1,p2,p3⟩:=wq hu r1 h1;obtain⟨F2,q1,q2⟩:=qI hu r2 h2;refine⟨F1++F2,l9.2 ⟨F1,F2,v,r,rfl,rfl,p1,p2,q1⟩,fun hs b hb=>?_⟩;simp only[AV.sharedL,bA]at hs;rcases List.mem_append.1 hb with hb|hb
   ·exact p3 hs.1 b hb
   ·exact q2 hs.2 b hb
  ·cases hd
end

theorem nE{st:St}{a:Act}{h:aE}{us:List (Nat×U)}{g:Gh}(hv:∀t,ab h us g (lk st.env t) (a.tmps.getD t undef)):∀{xs:List Operand} {ts:List TypeId} {Xs:List X},
  xs.length=ts.length→(xs.zip ts).mapM (fun p=>aU P p.2 p.1)=some Xs→ah h us g (Xs.map st.ev) (xs.map a.eval)
 | [],ts,Xs,_,hx=>by
  simp at hx;subst hx;simp[ah]
 |x::xs,[],Xs,hl,_=>by simp at hl
 |x::xs,t::ts,Xs,hl,hx=>by
  simp only[List.zip_cons_cons,List.mapM_cons,oD,oB,oP,oS]at hx;obtain⟨X,h1,Xs',h2,rfl⟩:=hx;simp only[lC,ah];exact⟨_,_,rfl,xv hv h1,nE hv (by simpa using hl) h2⟩

theorem uz{h:aE}{us:List (Nat×U)}(hu:aZ h n0 S0 M0 us g)(old:Nat→Prop):∀{avs:List AV} {vs:List Value} {ds es:List D},ah h us g avs vs→dm (lu us) avs=some ds→D.LeL ds es→
  (As avs ds=false→∀b,b<h.size→old b)→(∀b,g.Sh b→old b)→bY h old es vs
 | [],vs,ds,es,hr,hd,hl,_,_=>by
  simp only[dm,oS]at hd;subst hd;cases es with
  |nil=>simpa[ah,bY]using hr
  |cons e es=>simp[D.LeL]at hl
 |av::avs,vs,ds,es,hr,hd,hl,ho,ho'=>by
  simp only[ah]at hr;obtain⟨v,r,rfl,r1,r2⟩:=hr;simp only[dm]at hd
  split at hd
  ·next d ds' h1 h2=>
   obtain rfl:=Option.some.inj hd;cases es with
   |nil=>simp[D.LeL]at hl
   |cons e es=>
    simp only[D.LeL]at hl;obtain⟨F,p1,p2,p3⟩:=wq hu r1 h1;simp only[bY];obtain⟨F',q1,q2⟩:=hl.1.1 _ _ _ p1;refine⟨v,r,F',rfl,q1,hl.1.2 _ p2,?_,uz hu old r2 h2 hl.2 (fun hs=>ho (by simp[As,hs])) ho'⟩;intro b hb;have hbF:=q2 b hb;cases hs:av.sh1 d with
    |true=>
     unfold AV.sh1 at hs
     split at hs
     ·have:=cC hs p1;subst this;cases hbF
     ·have:=cC hs p1;subst this;cases hbF
     ·exact ho' b (p3 hs b hbF)
    |false=>exact ho (by simp[As,hs]) b (p1.lt b hbF)
  ·cases hd

theorem zg(h:At n0 S0 M0 w0 st o a w g){f:Nat}{avs:List AV}{vs:List Value}(hrun:eZ P f→(execOp a.eval o).run P w=.ok (.enter f vs.toArray) w)(hr:ah w.heap st.us g avs vs)
  (hq:GI P o.dst f avs st.unit k):o.wp P a w (cQ n0 S0 M0 w0 st o.dst k) Q':=by
 obtain⟨ds,es,r,hd,hl,⟨hcl,hA⟩,hk⟩:=hq
 dsimp only at hk
 unfold Oper.wp;rw[hrun hcl,Oper.upon_enter];have hs:=h.sat;have hbase:n0≤w.heap.size:=by rw[hs.base];exact hs.size

 let old:Nat→Prop:=fun b=>if As avs ds=true then g.Sh b else b<w.heap.size
 have hold:bY w.heap old es vs:=by
  refine uz h.us old hr hd hl (fun hf b hb=>?_) (fun b hb=>?_)
  ·simp only[old,hf,fq,if_false];exact hb
  ·simp only[old]
   split
   ·exact hb
   ·exact(h.us.sh b hb).1
 refine(hA w vs old hold).mono ?_;rintro e w' ⟨v,F,G,rfl,hB,hR,hnd,hF,hG⟩;have hh:∀b,b<w.heap.size→w'.heap[b]?=w.heap[b]?:=fun b hb=>hB.block b hb;refine⟨_,_,hk,fun hf=>?_⟩;have key:∀G':List Nat,(∀b∈G',b∈G)→(∀b∈G',g.Sh b∨(w.heap.size≤b∧b<w'.heap.size))→(As avs ds=true→∀b∈G,b∈G')→
   dH n0 S0 M0 w0 ((st.addUs (bW (o.dst.getD 0) (As avs ds) r).2).setO o.dst (bW (o.dst.getD 0) (As avs ds) r).1) (a.put o.dst v) w':=by
  intro G' hsub hG' hall;obtain⟨hU,hV⟩:=h.us.wide hB.size hh hbase G' hG';obtain⟨g2,hU2,hv2,hV2⟩:=yh (st:=st) hU (n:=o.dst.getD 0) hR hnd (fun b hb hlt=>by have:=(hF b hb).1;omega)
   (fun b hb hfp => by
    have h1:=(hF b hb).1;have h2:b∈fp g st.us:=hfp;have:=h.us.lt b h2;omega)
   (fun b hb hsh => by
    have h1:=hF b hb;rcases hsh with h2|h2
    ·have:=(h.us.sh b h2).1;omega
    ·exact h1.2.1 (hsub b h2))
   (fun b hb=>(hF b hb).2.2)
   (As avs ds) (fun e b hb=>.inr (hall e b hb)) hf
  have hS2:dH n0 S0 M0 w0 (st.addUs (bW (o.dst.getD 0) (As avs ds) r).2) a w':=by
   refine⟨hs.ms,hs.dfr,hs.tm,hs.base,hB.os.trans hs.os,hB.tape.trans hs.tape,hB.output.trans hs.output,Nat.le_trans hs.size hB.size,?_,g2,hU2,fun t=>hV2 _ _ (hV _ _ (h.rep t))⟩;intro b hb hm;rw[←hs.old b hb hm];exact hh b (by omega)
  exact cY hS2 (g:=g2) hU2 (fun t=>hV2 _ _ (hV _ _ (h.rep t))) h.dst hv2
 cases hall:As avs ds with
 |true=>
  rw[←hall];refine key G (fun b hb=>hb) (fun b hb=>?_) (fun _ b hb=>hb);rcases hG b hb with h1|h1
  ·exact .inr h1
  ·left;simpa[old,hall]using h1
 |false=>
  rw[←hall];exact key [] (by simp) (by simp) (by rw[hall];simp)

theorem n7{α β:Type}{f:α→Option β}:∀{l:List α} {r:List β},l.mapM f=some r→r.length=l.length
 | [],r,h=>by simp at h;subst h;rfl
 |x::l,r,h=>by
  simp only[List.mapM_cons,oD,oB,oP,oS]at h;obtain⟨y,_,ys,h2,rfl⟩:=h;simp[n7 h2]

theorem nK{h:aE}{us:List (Nat×U)}:∀{as bs:List AV} {xs ys:List Value},ah h us g as xs→ah h us g bs ys→ah h us g (as++bs) (xs++ys)
 | [],bs,xs,ys,h1,h2=>by simp only[ah]at h1;subst h1;simpa using h2
 |a::as,bs,xs,ys,h1,h2=>by
  simp only[ah]at h1;obtain⟨v,r,rfl,q1,q2⟩:=h1;simp only[List.cons_append,ah];exact⟨v,_,rfl,q1,nK q2 h2⟩

theorem xm{h:aE}{us:List (Nat×U)}{t:Option Nat}:∀{ds:List D} {F:List Nat} {vs:List Value},fT h ds F vs→(∀b∈F,g.ok t b)→ah h us g (ds.map (.im t)) vs
 | [],_,_,hr,_=>by simp only[fT]at hr;simp[ah,hr.2]
 |d::ds,_,_,hr,hk=>by
  simp only[fT]at hr;obtain⟨F1,F2,v,r,rfl,rfl,h1,h2,h3⟩:=hr;simp only[lC,ah];refine⟨v,r,rfl,?_,xm h3 fun b hb=>hk b (by simp[hb])⟩;simp only[ab];exact⟨F1,h1,h2,fun b hb=>hk b (by simp[hb])⟩

theorem LZ(h:At n0 S0 M0 w0 st o a w g){f:Nat}{cap:Array Operand}{Xs:List Ax.X}(ho:o.op=.makeFunc (.func f) #[] cap)(hx:cap.toList.mapM (fun x=>aU P 0 x)=some Xs)
  (hq:k (.cl f (Xs.map st.ev)) []):o.wp P a w (cQ n0 S0 M0 w0 st o.dst k) Q':=by
 refine h.pure_ (v:=.func (.func f) #[] (cap.map a.eval)) (by simp[execOp,ho,Instr.makeFunc]) ?_ hq;simp only[ab];have key:∀{l:List Operand} {Xs:List Ax.X},l.mapM (fun x=>aU P 0 x)=some Xs→ah w.heap st.us g (Xs.map st.ev) (l.map a.eval):=by
  intro l
  induction l with
  |nil=>intro Xs hx;simp at hx;subst hx;simp[ah]
  |cons x l ih=>
   intro Xs hx;simp only[List.mapM_cons,oD,oB,oP,oS]at hx;obtain⟨X,h1,Xs',h2,rfl⟩:=hx;simp only[lC,ah];exact⟨_,_,rfl,h.ev_ h1,ih h2⟩
 exact⟨cap.toList.map a.eval,key hx,by congr 1;apply Array.ext';simp⟩

end Go.Ax
namespace Go.Ax

variable {P : Program} {n0 : Nat} {S0 M0 : Nat → Prop} {w0 : World}
variable {st : St} {o : Oper} {a : Act} {w : World} {k : KQ} {Q' : Exit → Act → World → Prop} {g : Gh}

theorem cM{k:Nat}{f:AV→Bool}:∀{us:List (Nat×U)} {i:Nat} {u:U},(i,u)∈us→i≠k→(i,u.kill f)∈aL k f us
 |(j,v)::r,i,u,h,hne=>by
  simp only[aL];rcases List.mem_cons.1 h with e|h
  ·injection e with e1 e2;subst e1;subst e2;rw[if_neg hne];simp
  ·split
   ·exact cM h hne
   ·exact List.mem_cons_of_mem _ (cM h hne)

theorem aQ{k:Nat}{f:AV→Bool}:∀{us:List (Nat×U)} {x:Nat×U},x∈aL k f us→x.1≠k∧∃u,(x.1,u)∈us∧x.2=u.kill f
 | [],x,h=>by simp[aL]at h
 |(j,v)::r,x,h=>by
  simp only[aL]at h
  split at h
  ·obtain⟨h1,u,h2,h3⟩:=aQ h;exact⟨h1,u,List.mem_cons_of_mem _ h2,h3⟩
  ·next hne=>
   rcases List.mem_cons.1 h with rfl|h
   ·exact⟨hne,v,by simp,rfl⟩
   ·obtain⟨h1,u,h2,h3⟩:=aQ h;exact⟨h1,u,List.mem_cons_of_mem _ h2,h3⟩

theorem aV{k:Nat}{f:AV→Bool}:∀{us:List (Nat×U)},(aL k f us).map (·.1)=(us.map (·.1)).filter (fun i=>decide (i≠k))
 | []=>rfl
 |(j,v)::r=>by
  simp only[aL]
  split
  ·next h=>simp[h,aV (us:=r)]
  ·next h=>simp[h,aV (us:=r)]

theorem U.kill_pin{f:AV→Bool}{u:U}:(u.kill f).isPin=u.isPin:=by
 cases u with
 |ar ow nn sz es=>cases nn<;>rfl
 |_=>rfl
theorem e8.kill{us:List (Nat×U)}{g g':Gh}{k:Nat}{f:AV→Bool}(h:e8 n0 M0 us g)(hg:∀i,i≠k→g'.β i=g.β i∧g'.cap i=g.cap i):e8 n0 M0 (aL k f us) g':=
 h.mono fun i u hm hp=>by
  obtain⟨h1,u,h2,h3⟩:=aQ hm;simp only at h1 h3;rw[h3,U.kill_pin]at hp;exact⟨⟨_,h2,hp⟩,hg i h1⟩

theorem e8.keep{us:List (Nat×U)}{g g':Gh}{k:Nat}{f:AV→Bool}{u':U}(h:e8 n0 M0 us g)(hg:∀i,g'.β i=g.β i∧g'.cap i=g.cap i)
  (hl:u'.isPin=true→kl n0 M0 k (g.β k) (g.cap k)):e8 n0 M0 ((k,u')::aL k f us) g':=by
 rintro i v hi ⟨u,hm,hp⟩;rw[(hg _).1,(hg _).2];rcases List.mem_cons.1 hm with e|hm
 ·injection e with e1 e2;have:=hl (e2▸hp) i v hi e1.symm;rw[←e1]at this;exact this
 ·obtain⟨h1,u',h2,h3⟩:=aQ hm;simp only at h1 h3;rw[h3,U.kill_pin]at hp;exact h i v hi ⟨_,h2,hp⟩
theorem e8.keepU{us:List (Nat×U)}{g g':Gh}{k:Nat}{f:AV→Bool}{u u':U}(h:e8 n0 M0 us g)(hm:(k,u)∈us)(hg:∀i,g'.β i=g.β i∧g'.cap i=g.cap i)
  (hl:u'.isPin=true→u.isPin=true):e8 n0 M0 ((k,u')::aL k f us) g':=h.keep hg fun e=>h.at hm (hl e)

theorem eK{f:AV→Bool}:∀{l:List AV},(gI f l).length=l.length
 | []=>rfl
 |v::r=>by simp[gI,eK (l:=r)]

structure Keep (k:Nat) (f:AV→Bool) (h h':aE) (us us':List (Nat×U)) (g g':Gh):Prop where
 mem:∀i u,(i,u)∈us→i≠k→(i,u.kill f)∈us'
 β:∀i,i≠k→g'.β i=g.β i∧g'.root i=g.root i∧g'.cap i=g.cap i
 blk:∀i u b,(i,u)∈us→i≠k→g.β i=some b→h'[b]?=h[b]?
 im:∀t d F cs,t≠some k→aW h d F cs→(∀b∈F,g.ok t b)→aW h' d F cs∧∀b∈F,g'.ok t b

mutual
theorem ab.keepR{k:Nat}{f:AV→Bool}{h h':aE}{us us':List (Nat×U)}{g g':Gh}(H:Keep k f h h' us us' g g'):∀{av:AV} {v:Value},av.refs k=false→ab h us g av v→ab h' us' g' av v
 |.im t d,v,hf,hr=>by
  simp only[AV.refs,beq_eq_false_iff_ne]at hf;simp only[ab]at hr⊢;obtain⟨F,h1,h2,h3⟩:=hr;obtain⟨q1,q2⟩:=H.im t d F _ hf h1 h3;exact⟨F,q1,h2,q2⟩
 |.tr i,v,hf,hr=>by
  simp only[AV.refs,beq_eq_false_iff_ne]at hf;simp only[ab]at hr⊢;obtain⟨⟨d,hd⟩,hv⟩:=hr;exact⟨⟨d,H.mem _ _ hd hf⟩,by rw[(H.β i hf).2.1];exact hv⟩
 |.pw i el j,v,hf,hr=>by
  simp only[AV.refs,beq_eq_false_iff_ne]at hf;simp only[ab]at hr⊢;obtain⟨ow,nn,sz,es,b,h1,h2,h3,h4,h5⟩:=hr;exact⟨ow,nn,sz,es,b,H.mem _ _ h1 hf,h2,h3,by rw[(H.β i hf).1];exact h4,h5⟩
 |.cw i el j sz agg,v,hf,hr=>by
  simp only[AV.refs,beq_eq_false_iff_ne]at hf;simp only[ab]at hr⊢;obtain⟨nn,usz,es,b,c,e,h1,h2,h3,h4,h5,h6⟩:=hr;exact⟨nn,usz,es,b,c,e,H.mem _ _ h1 hf,h2,h3,by rw[(H.β i hf).1];exact h4,by rw[H.blk i _ b h1 hf h4];exact h5,h6⟩
 |.sm i off len,v,hf,hr=>by
  simp only[AV.refs,beq_eq_false_iff_ne]at hf;simp only[ab]at hr⊢;obtain⟨ow,nn,sz,es,h1,h2,h3⟩:=hr;refine⟨ow,nn,sz,es,H.mem _ _ h1 hf,h2,?_⟩;rw[(H.β i hf).1,(H.β i hf).2.2];exact h3
 |.vb i len,v,hf,hr=>by
  simp only[AV.refs,beq_eq_false_iff_ne]at hf;simp only[ab]at hr⊢;obtain⟨sz,items,b,h1,h2,h3,h4⟩:=hr;exact⟨sz,gI f items,b,H.mem _ _ h1 hf,by rw[eK];exact h2,by rw[(H.β i hf).1];exact h3,h4⟩
 |.sg vs,v,hf,hr=>by
  simp only[AV.refs]at hf;simp only[ab]at hr⊢;obtain⟨xs,h1,h2⟩:=hr;exact⟨xs,ah.keepR H hf h1,h2⟩
 |.tup vs,v,hf,hr=>by
  simp only[AV.refs]at hf;simp only[ab]at hr⊢;obtain⟨xs,h1,h2⟩:=hr;exact⟨xs,h1,ah.keepR H hf h2⟩
 |.any,_,_,_=>by simp[ab]
 |.cl f vs,v,hf,hr=>by
  simp only[AV.refs]at hf;simp only[ab]at hr⊢;obtain⟨xs,h1,h2⟩:=hr;exact⟨xs,ah.keepR H hf h1,h2⟩
 |.pq i el j isz el' j',v,hf,hr=>by
  simp only[AV.refs,beq_eq_false_iff_ne]at hf;simp only[ab]at hr⊢;obtain⟨ow,nn,usz,es,b,c,e,b',off',len',cap',h1,h2,h3,h4,h5,h6⟩:=hr;exact⟨ow,nn,usz,es,b,c,e,b',off',len',cap',H.mem _ _ h1 hf,h2,h3,by rw[(H.β i hf).1];exact h4,by rw[H.blk i _ b h1 hf h4];exact h5,h6⟩
 |.qs i el j isz off len,v,hf,hr=>by
  simp only[AV.refs,beq_eq_false_iff_ne]at hf;simp only[ab]at hr⊢;obtain⟨ow,nn,usz,es,b,c,e,p,len',cap',h1,h2,h3,h4,h5,h6⟩:=hr;exact⟨ow,nn,usz,es,b,c,e,p,len',cap',H.mem _ _ h1 hf,h2,h3,by rw[(H.β i hf).1];exact h4,by rw[H.blk i _ b h1 hf h4];exact h5,h6⟩
 |.ss i off len,v,hf,hr=>by
  simp only[AV.refs,beq_eq_false_iff_ne]at hf;simp only[ab]at hr⊢;obtain⟨ow,nn,sz,es,h1,h2,h3⟩:=hr;refine⟨ow,nn,sz,es,H.mem _ _ h1 hf,h2,?_⟩;rw[(H.β i hf).1,(H.β i hf).2.2];exact h3
 |.z0 _ _,v,_,hr=>by simpa[ab]using hr
 |.pb i j,v,hf,hr=>by
  simp only[AV.refs,beq_eq_false_iff_ne]at hf;simp only[ab]at hr⊢;obtain⟨sz,items,b,h1,h3,h4⟩:=hr;exact⟨sz,gI f items,b,H.mem _ _ h1 hf,by rw[(H.β i hf).1];exact h3,h4⟩
 |.ps i,v,hf,hr=>by
  simp only[AV.refs,beq_eq_false_iff_ne]at hf;simp only[ab]at hr⊢;obtain⟨T,E,s,b,h1,h3,h4⟩:=hr;exact⟨T,E,s,b,H.mem _ _ h1 hf,by rw[(H.β i hf).1];exact h3,h4⟩
theorem ah.keepR{k:Nat}{f:AV→Bool}{h h':aE}{us us':List (Nat×U)}{g g':Gh}(H:Keep k f h h' us us' g g'):∀{as:List AV} {vs:List Value},AV.refsL k as=false→ah h us g as vs→ah h' us' g' as vs
 | [],_,_,hr=>by simpa[ah]using hr
 |a::as,vs,hf,hr=>by
  simp only[AV.refsL,Bool.or_eq_false_iff]at hf;simp only[ah]at hr⊢;obtain⟨v,r,h1,h2,h3⟩:=hr;exact⟨v,r,h1,ab.keepR H hf.1 h2,ah.keepR H hf.2 h3⟩
end

structure yv (k:Nat) (f:AV→Bool) (h h':aE) (us us':List (Nat×U)) (g g':Gh):Prop extends Keep k f h h' us us' g g' where
 own:∃ow nn sz es ow' nn' es',(k,.ar ow nn sz es)∈us∧(∀u,(k,u)∈us→u=.ar ow nn sz es)∧(k,.ar ow' nn' sz es')∈us'∧es'.length=es.length
 same:g'.β k=g.β k∧g'.cap k=g.cap k

mutual
theorem ab.keepS{k:Nat}{f:AV→Bool}{h h':aE}{us us':List (Nat×U)}{g g':Gh}(H:yv k f h h' us us' g g'):∀{av:AV} {v:Value},av.soft k=false→ab h us g av v→ab h' us' g' av v
 |.im t d,v,hf,hr=>ab.keepR H.toKeep (by simpa[AV.refs,AV.soft]using hf) hr
 |.cw i el j sz agg,v,hf,hr=>ab.keepR H.toKeep (by simpa[AV.refs,AV.soft]using hf) hr
 |.tr i,v,_,hr=>by
  by_cases e:i=k
  ·subst e;obtain⟨ow,nn,sz,es,_,_,_,h1,h2,_⟩:=H.own;simp only[ab]at hr;obtain⟨⟨d,hd⟩,_⟩:=hr;cases h2 _ hd
  ·exact ab.keepR H.toKeep (by simpa[AV.refs]using e) hr
 |.pw i el j,v,_,hr=>by
  by_cases e:i=k
  ·subst e;obtain⟨ow,nn,sz,es,ow',nn',es',h1,h2,h3,h4⟩:=H.own;simp only[ab]at hr⊢;obtain⟨ow1,nn1,sz1,es1,b,q1,q2,q3,q4,q5⟩:=hr;have:=h2 _ q1;injection this with e1 e2 e3 e4;subst e1;subst e2;subst e3;subst e4;exact⟨ow',nn',_,es',b,h3,by omega,q3,by rw[H.same.1];exact q4,q5⟩
  ·exact ab.keepR H.toKeep (by simpa[AV.refs]using e) hr
 |.sm i off len,v,_,hr=>by
  by_cases e:i=k
  ·subst e;obtain⟨ow,nn,sz,es,ow',nn',es',h1,h2,h3,h4⟩:=H.own;simp only[ab]at hr⊢;obtain⟨ow1,nn1,sz1,es1,q1,q2,q3⟩:=hr;have:=h2 _ q1;injection this with e1 e2 e3 e4;subst e1;subst e2;subst e3;subst e4;refine⟨ow',nn',_,es',h3,by omega,?_⟩;rw[H.same.1,H.same.2];exact q3
  ·exact ab.keepR H.toKeep (by simpa[AV.refs]using e) hr
 |.vb i len,v,_,hr=>by
  by_cases e:i=k
  ·subst e;obtain⟨ow,nn,sz,es,_,_,_,h1,h2,_⟩:=H.own;simp only[ab]at hr;obtain⟨sz1,items,b,q1,_⟩:=hr;cases h2 _ q1
  ·exact ab.keepR H.toKeep (by simpa[AV.refs]using e) hr
 |.sg vs,v,hf,hr=>by
  simp only[AV.soft]at hf;simp only[ab]at hr⊢;obtain⟨xs,h1,h2⟩:=hr;exact⟨xs,ah.keepS H hf h1,h2⟩
 |.tup vs,v,hf,hr=>by
  simp only[AV.soft]at hf;simp only[ab]at hr⊢;obtain⟨xs,h1,h2⟩:=hr;exact⟨xs,h1,ah.keepS H hf h2⟩
 |.any,_,_,_=>by simp[ab]
 |.cl f vs,v,hf,hr=>by
  simp only[AV.soft]at hf;simp only[ab]at hr⊢;obtain⟨xs,h1,h2⟩:=hr;exact⟨xs,ah.keepS H hf h1,h2⟩
 |.pq i el j isz el' j',v,hf,hr=>ab.keepR H.toKeep (by simpa[AV.refs,AV.soft]using hf) hr
 |.qs i el j isz off len,v,hf,hr=>ab.keepR H.toKeep (by simpa[AV.refs,AV.soft]using hf) hr
 |.ss i off len,v,_,hr=>by
  by_cases e:i=k
  ·subst e;obtain⟨ow,nn,sz,es,ow',nn',es',h1,h2,h3,h4⟩:=H.own;simp only[ab]at hr⊢;obtain⟨ow1,nn1,sz1,es1,q1,q2,q3⟩:=hr;have:=h2 _ q1;injection this with e1 e2 e3 e4;subst e1;subst e2;subst e3;subst e4;refine⟨ow',nn',_,es',h3,by omega,?_⟩;rw[H.same.1,H.same.2];exact q3
  ·exact ab.keepR H.toKeep (by simpa[AV.refs]using e) hr
 |.z0 _ _,v,_,hr=>by simpa[ab]using hr
 |.pb i j,v,_,hr=>by
  by_cases e:i=k
  ·subst e;obtain⟨ow,nn,sz,es,_,_,_,h1,h2,_⟩:=H.own;simp only[ab]at hr;obtain⟨sz1,items,b,q1,_⟩:=hr;cases h2 _ q1
  ·exact ab.keepR H.toKeep (by simpa[AV.refs]using e) hr
 |.ps i,v,_,hr=>by
  by_cases e:i=k
  ·subst e;obtain⟨ow,nn,sz,es,_,_,_,h1,h2,_⟩:=H.own;simp only[ab]at hr;obtain⟨T,E,s,b,q1,_⟩:=hr;cases h2 _ q1
  ·exact ab.keepR H.toKeep (by simpa[AV.refs]using e) hr
theorem ah.keepS{k:Nat}{f:AV→Bool}{h h':aE}{us us':List (Nat×U)}{g g':Gh}(H:yv k f h h' us us' g g'):∀{as:List AV} {vs:List Value},AV.softL k as=false→ah h us g as vs→ah h' us' g' as vs
 | [],_,_,hr=>by simpa[ah]using hr
 |a::as,vs,hf,hr=>by
  simp only[AV.softL,Bool.or_eq_false_iff]at hf;simp only[ah]at hr⊢;obtain⟨v,r,h1,h2,h3⟩:=hr;exact⟨v,r,h1,ab.keepS H hf.1 h2,ah.keepS H hf.2 h3⟩
end

theorem pS{f:AV→Bool}{h h':aE}{us us':List (Nat×U)}{g g':Gh}(H:∀av v,f av=false→ab h us g av v→ab h' us' g' av v):∀{as:List AV} {vs:List Value},ah h us g as vs→ah h' us' g' (gI f as) vs
 | [],_,hr=>by simpa[ah,gI]using hr
 |a::as,vs,hr=>by
  simp only[ah,gI]at hr⊢;obtain⟨v,r,h1,h2,h3⟩:=hr;refine⟨v,r,h1,?_,pS H h3⟩;cases hf:f a with
  |true=>simp[ab]
  |false=>simpa using H a v hf h2

theorem du{f:AV→Bool}{h h':aE}{us us':List (Nat×U)}{g g':Gh}(H:∀av v,f av=false→ab h us g av v→ab h' us' g' av v){env:List (Nat×AV)}{t:Nat}{v:Value}
  (hr:ab h us g (lk env t) v):ab h' us' g' (lk (ch f env) t) v:=by
 have key:∀env,lk (ch f env) t=.any∨(lk (ch f env) t=lk env t∧f (lk env t)=false)∨(lk (ch f env) t=lk env t∧lk env t=.any):=by
  intro env
  induction env with
  |nil=>exact .inl rfl
  |cons x r ih=>
   obtain⟨i,u⟩:=x;simp only[ch,lk]
   split
   ·cases hf:f u with
    |true=>left;simp
    |false=>right;left;simp
   ·exact ih
 rcases key env with h1|⟨h1,h2⟩|⟨h1,h2⟩
 ·rw[h1];simp[ab]
 ·rw[h1];exact H _ _ h2 hr
 ·rw[h1,h2];simp[ab]

end Go.Ax
namespace Go.Ax

variable {P : Program} {n0 : Nat} {S0 M0 : Nat → Prop} {w0 : World}
variable {st : St} {o : Oper} {a : Act} {w : World} {k : KQ} {Q' : Exit → Act → World → Prop} {g : Gh}

theorem dg{k:Nat}{f:AV→Bool}{g g':Gh}(hφ:∀i,i≠k→g'.φ i=g.φ i):∀{us:List (Nat×U)},(fp g' (aL k f us)).Sublist (fp g us)
 | []=>by simp[aL,fp]
 |(j,v)::r=>by
  have ih:=dg (f:=f) hφ (us:=r);simp only[aL]
  split
  ·simp only[fp,List.flatMap_cons];exact List.Sublist.trans ih (List.sublist_append_right _ _)
  ·next hne=>
   simp only[fp,List.flatMap_cons,hφ j hne];exact List.Sublist.append (List.Sublist.refl _) ih

theorem cm.keepR{k:Nat}{h h':aE}{us us':List (Nat×U)}{g g':Gh}{f:AV→Bool}(H:Keep k f h h' us us' g g')(hf:∀av,f av=false→av.refs k=false∨∀v,ab h us g av v→ab h' us' g' av v){i:Nat}{u:U}(hm:(i,u)∈us)(hne:i≠k)(hφ:g'.φ i=g.φ i)
  (hblk:∀b∈g.φ i,h'[b]?=h[b]?) (hS:∀b,g.Sh b→g'.Sh b∧h'[b]?=h[b]?) (ho:cm h us g i u):cm h' us' g' i (u.kill f):=by
 obtain⟨e1,e2,e3⟩:=H.β i hne;cases u with
 |own d=>
  simp only[cm,U.kill]at ho⊢;rw[e1,e2,hφ];exact⟨ho.1,ho.2.1.frame fun b hb=>hblk b hb,ho.2.2⟩
 |ar ow nn sz es=>
  simp only[cm,U.kill]at ho⊢;rw[e1,e3,hφ];obtain⟨h1,h2,h3⟩:=ho;refine⟨h1,h2,?_⟩;rcases h3 with h3|⟨b,c,e,G,cs,rest,k1,k2,k3,k4,k5,k6,k7,k8⟩
  ·exact .inl h3
  ·have hb:b∈g.φ i:=by cases ow<;>simp_all
   refine .inr ⟨b,c,e,G,cs,rest,k1,by rw[hblk b hb];exact k2,k3,k4,k5,?_,k7,?_⟩
   ·refine k6.frame fun x hx=>?_;cases ow
    ·simp only[fq,if_false]at k8;exact(hS x (k8.2 x hx)).2
    ·simp only[if_true]at k8;exact hblk x (by rw[k8];simp[hx])
   ·cases ow
    ·simp only[fq,if_false]at k8⊢;exact⟨k8.1,fun x hx=>(hS x (k8.2 x hx)).1⟩
    ·simpa using k8
 |bx sz items=>
  simp only[cm,U.kill]at ho⊢;rw[e1,hφ];obtain⟨h1,b,c,e,vs,rest,k1,k2,k3,k4,k5⟩:=ho;refine⟨by rw[eK];exact h1,b,c,e,vs,rest,k1,by rw[hblk b (by rw[k3];simp)];exact k2,k3,pS (fun av v hfa hr=>?_) k4,k5⟩;rcases hf av hfa with h|h
  ·exact ab.keepR H h hr
  ·exact h v hr
 |sb T E s=>
  simp only[cm,U.kill]at ho⊢;rw[e1,hφ];obtain⟨b,F,k1,k2,k3⟩:=ho;exact⟨b,F,k1,k2,k3.frame fun x hx=>hblk x (by rw[k2];exact hx)⟩

def Gh.drop(g:Gh)(k:Nat):Gh:={g with φ:=fun i=>if i=k then[]else g.φ i}

theorem aZ.del{h:aE}{us:List (Nat×U)}(hu:aZ h n0 S0 M0 us g)(k:Nat):aZ h n0 S0 M0 (aL k (AV.refs k) us) (g.drop k)∧Keep k (AV.refs k) h h us (aL k (AV.refs k) us) g (g.drop k):=by
 have hφ:∀i,i≠k→(g.drop k).φ i=g.φ i:=fun i hi=>by simp[Gh.drop,hi]
 have H:Keep k (AV.refs k) h h us (aL k (AV.refs k) us) g (g.drop k):=by
  refine⟨fun i u h1 h2=>cM h1 h2,fun i hi=>⟨rfl,rfl,rfl⟩,fun _ _ _ _ _ _=>rfl,?_⟩;intro t d F cs ht hr hok;refine⟨hr,fun b hb=>?_⟩;rcases hok b hb with h1|⟨i,rfl,h1,h2⟩
  ·exact .inl h1
  ·exact .inr ⟨i,rfl,by rw[hφ i (by rintro rfl;exact ht rfl)];exact h1,h2⟩
 have hsub:=dg (f:=AV.refs k) hφ (us:=us);refine⟨⟨?_,hsub.nodup hu.nodup,fun b hb=>hu.lt b (hsub.subset hb),fun b hb=>hu.low b (hsub.subset hb),?_,?_,?_,fun b hb=>hu.fz b (hsub.subset hb),hu.pin.kill fun _ _=>⟨rfl,rfl⟩⟩,H⟩
 ·rw[aV];exact hu.keys.filter _
 ·intro i hi;rw[aV]at hi
  by_cases e:i=k
  ·simp[Gh.drop,e]
  ·rw[hφ i e];exact hu.dead i fun hm=>hi (by simp[List.mem_filter,hm,e])
 ·intro b hb;obtain⟨q1,q2,q3⟩:=hu.sh b hb;exact⟨q1,q2,fun hm=>q3 (hsub.subset hm)⟩
 ·intro x hx;obtain⟨hne,u,h1,h2⟩:=aQ hx;rw[h2];exact(hu.each _ h1).keepR H (fun av hf=>.inl hf) h1 hne (hφ _ hne) (fun _ _=>rfl) (fun b hb=>⟨hb,rfl⟩)

def Gh.fp1(g:Gh)(k:Nat)(φ:List Nat):Gh:={g with φ:=fun i=>if i=k then φ else g.φ i}

theorem aZ.upd{h h':aE}{us:List (Nat×U)}(hu:aZ h n0 S0 M0 us g){k:Nat}{ow:Bool}{nn:Option Bool}{sz:Nat}{es:List D}(hm:(k,U.ar ow nn sz es)∈us){b:Nat}(hb:g.β k=some b)
  {c:Array Value} {e:TypeId} (h0:h'[b]?=some (.cells c e (0,0))) (hsz:h'.size=h.size) (hh:∀x,x≠b→h'[x]?=h[x]?) (hc:c.size=g.cap k*sz)
  {ow':Bool} {es':List D} (hl:es'.length=es.length) (hs:∀d∈es',d.size=sz) {G cs rest} (hcs:c.toList=cs++rest) (hr:aK h es' G cs)
  (hown:ow'=true→(b::G).Nodup∧(∀x∈G,(x<n0→M0 x)∧¬g.Sh x∧∀y∈us,y.1≠k→x∉g.φ y.1)) (hsh:ow'=false→∀x∈G,g.Sh x) (hzG:ow'=true→∀x∈G,kp h x):
  ∃φ,φ=(if ow'=true then b::G else[b])∧aZ h' n0 S0 M0 ((k,.ar ow' nn sz es')::aL k (AV.soft k) us) (g.fp1 k φ)∧yv k (AV.soft k) h h' us ((k,.ar ow' nn sz es')::aL k (AV.soft k) us) g (g.fp1 k φ):=by
 have hbk:=(hu.each _ hm).block_mem hb;have hbfp:b∈fp g us:=aH.2 ⟨_,hm,hbk⟩;have hbG:b∉G:=by
  cases ow' with
  |true=>exact(List.nodup_cons.1 (hown rfl).1).1
  |false=>exact fun hx=>(hu.sh b (hsh rfl b hx)).2.2 hbfp
 refine⟨_,rfl,?_⟩;generalize hφd:(if ow'=true then b::G else[b])=φ;have hφ:∀i,i≠k→(g.fp1 k φ).φ i=g.φ i:=fun i hi=>by simp[Gh.fp1,hi]
 have hφk:(g.fp1 k φ).φ k=φ:=by simp[Gh.fp1]

 have hSh:∀x,g.Sh x→x≠b:=fun x hx e=>(hu.sh x hx).2.2 (e▸hbfp);have hoth:∀i u,(i,u)∈us→i≠k→∀x∈g.φ i,x≠b:=by
  rintro i u h1 h2 x hx rfl;exact h2 (bF hu.keys hu.nodup h1 hm hx hbk)
 have H:yv k (AV.soft k) h h' us ((k,.ar ow' nn sz es')::aL k (AV.soft k) us) g (g.fp1 k φ):=by
  refine {mem:=fun i u h1 h2=>List.mem_cons_of_mem _ (cM h1 h2),β:=fun i hi=>⟨rfl,rfl,rfl⟩,blk:=?_,im:=?_,own:=⟨ow,nn,sz,es,ow',nn,es',hm,fun u hu'=>hu.uniq hu' hm,by simp,hl⟩,same:=⟨rfl,rfl⟩}
  ·intro i u x h1 h2 h3;exact hh x (hoth i u h1 h2 x ((hu.each _ h1).block_mem h3))
  ·intro t d F cs ht hr hok;refine⟨hr.frame fun x hx=>hh x (hu.ok_ne (hok x hx) hm hb),fun x hx=>?_⟩;rcases hok x hx with h1|⟨i,rfl,h1,h2⟩
   ·exact .inl h1
   ·exact .inr ⟨i,rfl,by rw[hφ i (by rintro rfl;exact ht rfl)];exact h1,h2⟩
 have hsub:=dg (f:=AV.soft k) hφ (us:=us);have hfp:fp (g.fp1 k φ) ((k,.ar ow' nn sz es')::aL k (AV.soft k) us)=φ++fp (g.fp1 k φ) (aL k (AV.soft k) us):=by
  simp only[fp,List.flatMap_cons,hφk]
 have hφlt:∀x∈φ,x<h.size:=by
  intro x hx;rw[←hφd]at hx;cases ow' with
  |true=>
   simp only[if_true]at hx;rcases List.mem_cons.1 hx with rfl|hx
   ·exact hu.lt _ hbfp
   ·exact hr.lt x hx
  |false=>
   simp only[fq,if_false,List.mem_singleton]at hx;subst hx;exact hu.lt _ hbfp
 have hnotin:∀x∈φ,∀y∈us,y.1≠k→x∉g.φ y.1:=by
  intro x hx y hy hne hxy;rw[←hφd]at hx;have hbx:x≠b:=hoth y.1 y.2 hy hne x hxy;cases ow' with
  |true=>
   simp only[if_true]at hx;rcases List.mem_cons.1 hx with rfl|hx
   ·exact hbx rfl
   ·exact((hown rfl).2 x hx).2.2 y hy hne hxy
  |false=>
   simp only[fq,if_false,List.mem_singleton]at hx;exact hbx hx
 have hfpk:∀x∈fp (g.fp1 k φ) (aL k (AV.soft k) us),∃y∈us,y.1≠k∧x∈g.φ y.1:=by
  intro x hx;obtain⟨y,hy,hxy⟩:=aH.1 hx;obtain⟨hne,u,h1,h2⟩:=aQ hy;exact⟨_,h1,hne,by rw[hφ _ hne]at hxy;exact hxy⟩
 refine⟨⟨?_,?_,?_,?_,?_,?_,?_,?_,hu.pin.keepU hm (fun _=>⟨rfl,rfl⟩) fun e=>U.isPin_ar.2 (U.isPin_ar.1 e)⟩,H⟩
 ·simp only[lC,List.nodup_cons,aV];exact⟨by simp[List.mem_filter],hu.keys.filter _⟩
 ·rw[hfp,List.nodup_append];refine⟨?_,hsub.nodup hu.nodup,?_⟩
  ·rw[←hφd];cases ow' with
   |true=>simp only[if_true];exact(hown rfl).1
   |false=>simp
  ·rintro x hx y hy rfl;obtain⟨z,hz,hne,hxz⟩:=hfpk x hy;exact hnotin x hx z hz hne hxz
 ·intro x hx;rw[hfp]at hx;rw[hsz];rcases List.mem_append.1 hx with hx|hx
  ·exact hφlt x hx
  ·exact hu.lt x (hsub.subset hx)
 ·intro x hx hlt;rw[hfp]at hx;rcases List.mem_append.1 hx with hx|hx
  ·rw[←hφd]at hx;cases ow' with
   |true=>
    simp only[if_true]at hx;rcases List.mem_cons.1 hx with rfl|hx
    ·exact hu.low _ hbfp hlt
    ·exact((hown rfl).2 x hx).1 hlt
   |false=>
    simp only[fq,if_false,List.mem_singleton]at hx;subst hx;exact hu.low _ hbfp hlt
  ·exact hu.low x (hsub.subset hx) hlt
 ·intro i hi;simp only[lC,List.mem_cons,not_or,aV]at hi;rw[hφ i hi.1];exact hu.dead i fun hmm=>hi.2 (by simp[List.mem_filter,hmm,hi.1])
 ·intro x hx;have hx:g.Sh x:=hx;obtain⟨q1,q2,q3⟩:=hu.sh x hx;refine⟨by omega,q2,?_⟩;rw[hfp,List.mem_append];rintro(h1|h1)
  ·rw[←hφd]at h1;cases ow' with
   |true=>
    simp only[if_true]at h1;rcases List.mem_cons.1 h1 with rfl|h1
    ·exact q3 hbfp
    ·exact((hown rfl).2 x h1).2.1 hx
   |false=>
    simp only[fq,if_false,List.mem_singleton]at h1;subst h1;exact q3 hbfp
  ·exact q3 (hsub.subset h1)
 ·intro x hx;rcases List.mem_cons.1 hx with rfl|hx
  ·have ho:=hu.each _ hm;simp only[cm]at ho⊢;obtain⟨p1,p2,p3⟩:=ho;refine⟨by omega,hs,.inr ⟨b,c,e,G,cs,rest,hb,h0,hcs,hc,?_,hr.frame fun x hx=>hh x (by rintro rfl;exact hbG hx),?_,?_⟩⟩
   ·rcases p3 with⟨q,_⟩|⟨_,_,_,_,_,_,_,_,_,_,q,_⟩
    ·rw[hb]at q;cases q
    ·rw[hl];exact q
   ·rcases p3 with⟨q,_⟩|⟨_,_,_,_,_,_,_,_,_,_,_,_,q,_⟩
    ·rw[hb]at q;cases q
    ·exact q
   ·rw[hφk,←hφd];cases ow' with
    |true=>simp
    |false=>simp only[fq,if_false,true_and];exact hsh rfl
  ·obtain⟨hne,u,h1,h2⟩:=aQ hx;rw[h2];exact(hu.each _ h1).keepR H.toKeep (fun av hf=>.inr fun v hr=>ab.keepS H hf hr) h1 hne (hφ _ hne) (fun x hx=>hh x (hoth _ _ h1 hne x hx)) (fun x hx=>⟨hx,hh x (hSh x hx)⟩)
 ·intro x hx;rw[hfp]at hx
  by_cases hxb:x=b
  ·subst hxb;exact⟨c,e,h0⟩
  have old:∀{x},x≠b→kp h x→kp h' x:=fun hne ⟨c,e,hc⟩=>⟨c,e,by rw[hh _ hne];exact hc⟩;rcases List.mem_append.1 hx with hx|hx
  ·rw[←hφd]at hx;cases ow' with
   |true=>
    simp only[if_true]at hx;rcases List.mem_cons.1 hx with rfl|hx
    ·exact absurd rfl hxb
    ·exact old hxb (hzG rfl x hx)
   |false=>
    simp only[fq,if_false,List.mem_singleton]at hx;exact absurd hx hxb
  ·exact old hxb (hu.fz x (hsub.subset hx))

theorem aZ.updC{h h':aE}{us:List (Nat×U)}(hu:aZ h n0 S0 M0 us g){k:Nat}{ow:Bool}{nn:Option Bool}{sz:Nat}{es:List D}(hm:(k,U.ar ow nn sz es)∈us){b:Nat}(hb:g.β k=some b)
  {c:Array Value} {e:TypeId} (h0:h'[b]?=some (.cells c e (0,0))) (hsz:h'.size=h.size) (hh:∀x,x≠b→h'[x]?=h[x]?) (hc:c.size=g.cap k*sz)
  {ow':Bool} {es':List D} (hl:es'.length=es.length) (hs:∀d∈es',d.size=sz) {G cs rest} (hcs:c.toList=cs++rest) (hr:aK h es' G cs)
  (hown:ow'=true→(b::G).Nodup∧(∀x∈G,(x<n0→M0 x)∧¬g.Sh x∧∀y∈us,y.1≠k→x∉g.φ y.1)) (hsh:ow'=false→∀x∈G,g.Sh x) (hzG:ow'=true→∀x∈G,kp h x) (el:Nat) (how:ow'=true) (hhb:h'[b]?=h[b]?) (hag:∀el',el'≠el→(D.at es' el').isAg=(D.at es el').isAg):
  ∃φ,φ=(if ow'=true then b::G else[b])∧aZ h' n0 S0 M0 ((k,.ar ow' nn sz es')::aL k (AV.softC k el) us) (g.fp1 k φ)∧∀av v,AV.softC k el av=false→ab h us g av v→ab h' ((k,.ar ow' nn sz es')::aL k (AV.softC k el) us) (g.fp1 k φ) av v:=by
 have hbk:=(hu.each _ hm).block_mem hb;have hbfp:b∈fp g us:=aH.2 ⟨_,hm,hbk⟩;have hbG:b∉G:=by
  cases ow' with
  |true=>exact(List.nodup_cons.1 (hown rfl).1).1
  |false=>exact fun hx=>(hu.sh b (hsh rfl b hx)).2.2 hbfp
 refine⟨_,rfl,?_⟩;generalize hφd:(if ow'=true then b::G else[b])=φ;have hφ:∀i,i≠k→(g.fp1 k φ).φ i=g.φ i:=fun i hi=>by simp[Gh.fp1,hi]
 have hφk:(g.fp1 k φ).φ k=φ:=by simp[Gh.fp1]

 have hSh:∀x,g.Sh x→x≠b:=fun x hx e=>(hu.sh x hx).2.2 (e▸hbfp);have hoth:∀i u,(i,u)∈us→i≠k→∀x∈g.φ i,x≠b:=by
  rintro i u h1 h2 x hx rfl;exact h2 (bF hu.keys hu.nodup h1 hm hx hbk)
 have H:yv k (AV.softC k el) h h' us ((k,.ar ow' nn sz es')::aL k (AV.softC k el) us) g (g.fp1 k φ):=by
  refine {mem:=fun i u h1 h2=>List.mem_cons_of_mem _ (cM h1 h2),β:=fun i hi=>⟨rfl,rfl,rfl⟩,blk:=?_,im:=?_,own:=⟨ow,nn,sz,es,ow',nn,es',hm,fun u hu'=>hu.uniq hu' hm,by simp,hl⟩,same:=⟨rfl,rfl⟩}
  ·intro i u x h1 h2 h3;exact hh x (hoth i u h1 h2 x ((hu.each _ h1).block_mem h3))
  ·intro t d F cs ht hr hok;refine⟨hr.frame fun x hx=>hh x (hu.ok_ne (hok x hx) hm hb),fun x hx=>?_⟩;rcases hok x hx with h1|⟨i,rfl,h1,h2⟩
   ·exact .inl h1
   ·exact .inr ⟨i,rfl,by rw[hφ i (by rintro rfl;exact ht rfl)];exact h1,h2⟩
 have HK:∀av v,AV.softC k el av=false→ab h us g av v→ab h' ((k,.ar ow' nn sz es')::aL k (AV.softC k el) us) (g.fp1 k φ) av v:=by
  intro av v hf hr
  by_cases hs:av.soft k=false
  ·exact ab.keepS H hs hr
  ·cases av with
   |cw i el' j sz' agg=>
    simp only[AV.soft,Bool.not_eq_false,beq_iff_eq]at hs;subst hs;simp only[AV.softC,bE,bI,beq_eq_false_iff_ne,ne_eq]at hf;simp only[ab]at hr⊢;obtain⟨nn1,usz,es1,b1,c1,e1,q1,q2,q3,q4,q5,q6,q7,q8,q9⟩:=hr;have hq:=hu.uniq q1 hm;injection hq with z1 z2 z3 z4;subst z1;subst z2;subst z3;subst z4;rw[hb]at q4;obtain rfl:=Option.some.inj q4;subst how;exact⟨_,_,es',b,c1,e1,List.mem_cons_self,by omega,q3,hb,by rw[hhb];exact q5,fun ha=>by rw[hag _ hf];exact q6 ha,q7,q8,q9⟩
   |_=>simp_all [AV.softC,AV.soft]
 have hsub:=dg (f:=AV.softC k el) hφ (us:=us);have hfp:fp (g.fp1 k φ) ((k,.ar ow' nn sz es')::aL k (AV.softC k el) us)=φ++fp (g.fp1 k φ) (aL k (AV.softC k el) us):=by
  simp only[fp,List.flatMap_cons,hφk]
 have hφlt:∀x∈φ,x<h.size:=by
  intro x hx;rw[←hφd]at hx;cases ow' with
  |true=>
   simp only[if_true]at hx;rcases List.mem_cons.1 hx with rfl|hx
   ·exact hu.lt _ hbfp
   ·exact hr.lt x hx
  |false=>
   simp only[fq,if_false,List.mem_singleton]at hx;subst hx;exact hu.lt _ hbfp
 have hnotin:∀x∈φ,∀y∈us,y.1≠k→x∉g.φ y.1:=by
  intro x hx y hy hne hxy;rw[←hφd]at hx;have hbx:x≠b:=hoth y.1 y.2 hy hne x hxy;cases ow' with
  |true=>
   simp only[if_true]at hx;rcases List.mem_cons.1 hx with rfl|hx
   ·exact hbx rfl
   ·exact((hown rfl).2 x hx).2.2 y hy hne hxy
  |false=>
   simp only[fq,if_false,List.mem_singleton]at hx;exact hbx hx
 have hfpk:∀x∈fp (g.fp1 k φ) (aL k (AV.softC k el) us),∃y∈us,y.1≠k∧x∈g.φ y.1:=by
  intro x hx;obtain⟨y,hy,hxy⟩:=aH.1 hx;obtain⟨hne,u,h1,h2⟩:=aQ hy;exact⟨_,h1,hne,by rw[hφ _ hne]at hxy;exact hxy⟩
 refine⟨⟨?_,?_,?_,?_,?_,?_,?_,?_,hu.pin.keepU hm (fun _=>⟨rfl,rfl⟩) fun e=>U.isPin_ar.2 (U.isPin_ar.1 e)⟩,HK⟩
 ·simp only[lC,List.nodup_cons,aV];exact⟨by simp[List.mem_filter],hu.keys.filter _⟩
 ·rw[hfp,List.nodup_append];refine⟨?_,hsub.nodup hu.nodup,?_⟩
  ·rw[←hφd];cases ow' with
   |true=>simp only[if_true];exact(hown rfl).1
   |false=>simp
  ·rintro x hx y hy rfl;obtain⟨z,hz,hne,hxz⟩:=hfpk x hy;exact hnotin x hx z hz hne hxz
 ·intro x hx;rw[hfp]at hx;rw[hsz];rcases List.mem_append.1 hx with hx|hx
  ·exact hφlt x hx
  ·exact hu.lt x (hsub.subset hx)
 ·intro x hx hlt;rw[hfp]at hx;rcases List.mem_append.1 hx with hx|hx
  ·rw[←hφd]at hx;cases ow' with
   |true=>
    simp only[if_true]at hx;rcases List.mem_cons.1 hx with rfl|hx
    ·exact hu.low _ hbfp hlt
    ·exact((hown rfl).2 x hx).1 hlt
   |false=>
    simp only[fq,if_false,List.mem_singleton]at hx;subst hx;exact hu.low _ hbfp hlt
  ·exact hu.low x (hsub.subset hx) hlt
 ·intro i hi;simp only[lC,List.mem_cons,not_or,aV]at hi;rw[hφ i hi.1];exact hu.dead i fun hmm=>hi.2 (by simp[List.mem_filter,hmm,hi.1])
 ·intro x hx;have hx:g.Sh x:=hx;obtain⟨q1,q2,q3⟩:=hu.sh x hx;refine⟨by omega,q2,?_⟩;rw[hfp,List.mem_append];rintro(h1|h1)
  ·rw[←hφd]at h1;cases ow' with
   |true=>
    simp only[if_true]at h1;rcases List.mem_cons.1 h1 with rfl|h1
    ·exact q3 hbfp
    ·exact((hown rfl).2 x h1).2.1 hx
   |false=>
    simp only[fq,if_false,List.mem_singleton]at h1;subst h1;exact q3 hbfp
  ·exact q3 (hsub.subset h1)
 ·intro x hx;rcases List.mem_cons.1 hx with rfl|hx
  ·have ho:=hu.each _ hm;simp only[cm]at ho⊢;obtain⟨p1,p2,p3⟩:=ho;refine⟨by omega,hs,.inr ⟨b,c,e,G,cs,rest,hb,h0,hcs,hc,?_,hr.frame fun x hx=>hh x (by rintro rfl;exact hbG hx),?_,?_⟩⟩
   ·rcases p3 with⟨q,_⟩|⟨_,_,_,_,_,_,_,_,_,_,q,_⟩
    ·rw[hb]at q;cases q
    ·rw[hl];exact q
   ·rcases p3 with⟨q,_⟩|⟨_,_,_,_,_,_,_,_,_,_,_,_,q,_⟩
    ·rw[hb]at q;cases q
    ·exact q
   ·rw[hφk,←hφd];cases ow' with
    |true=>simp
    |false=>simp only[fq,if_false,true_and];exact hsh rfl
  ·obtain⟨hne,u,h1,h2⟩:=aQ hx;rw[h2];exact(hu.each _ h1).keepR H.toKeep (fun av hf=>.inr fun v hr=>HK av v hf hr) h1 hne (hφ _ hne) (fun x hx=>hh x (hoth _ _ h1 hne x hx)) (fun x hx=>⟨hx,hh x (hSh x hx)⟩)
 ·intro x hx;rw[hfp]at hx
  by_cases hxb:x=b
  ·subst hxb;exact⟨c,e,h0⟩
  have old:∀{x},x≠b→kp h x→kp h' x:=fun hne ⟨c,e,hc⟩=>⟨c,e,by rw[hh _ hne];exact hc⟩;rcases List.mem_append.1 hx with hx|hx
  ·rw[←hφd]at hx;cases ow' with
   |true=>
    simp only[if_true]at hx;rcases List.mem_cons.1 hx with rfl|hx
    ·exact absurd rfl hxb
    ·exact old hxb (hzG rfl x hx)
   |false=>
    simp only[fq,if_false,List.mem_singleton]at hx;exact absurd hx hxb
  ·exact old hxb (hu.fz x (hsub.subset hx))

end Go.Ax
namespace Go.Ax

variable {P : Program} {n0 : Nat} {S0 M0 : Nat → Prop} {w0 : World}
variable {st : St} {o : Oper} {a : Act} {w : World} {k : KQ} {Q' : Exit → Act → World → Prop} {g : Gh}

theorem xQ{d:D}:D.sizeL d.cells=d.size:=by cases d<;>simp[D.cells,D.size,D.sizeL]

theorem Fy{h:aE}{e d:D}{G F:List Nat}{cs vc:List Value}(he:aW h e G cs)(hd:aW h d F vc){usz j sz:Nat}(hu:e.size=usz)(hs:d.size=sz)(hj:j+sz≤usz)(hw:j=0∧sz=usz∨e.isAg=true):
  ∃A B C,G=A++(B++C)∧aW h (D.put usz e j sz d) (A++(F++C)) (cs.take j++(vc++cs.drop (j+sz)))∧(D.put usz e j sz d).size=usz∧
   ∀agg,(agg=true→e.isAg=true)→(agg=false→sz=1)→aW h (D.sub e j sz agg) B ((cs.drop j).take sz):=by
 have hl:=he.length;have hv:=hd.length
 by_cases hwh:j=0∧sz=usz
 ·obtain⟨rfl,rfl⟩:=hwh;refine⟨[],G,[],by simp,?_,by simp[D.put,hs],?_⟩
  ·have:cs.drop (0+sz)=[]:=List.drop_eq_nil_of_le (by omega);rw[this];simpa[D.put]using hd
  ·intro agg ha h1;rw[List.drop_zero,List.take_of_length_le (by omega)]
   by_cases hag:e.isAg=true
   ·cases e with
    |ag ds=>
     have he':=he;simp only[aW]at he;simp only[D.size,D.sizeL_one he.1]at hu;cases agg with
     |true=>
      simp only[D.sub,if_true,List.drop_zero];rw[List.take_of_length_le (by omega)];exact he'
     |false=>
      have:=h1 rfl
      match ds,he,hu with
      | [x],he,_=>
       simp only[D.sub,fq,if_false,List.getD_cons_zero];obtain⟨F1,F2,c1,c2,rfl,rfl,q1,q2⟩:=cR.1 he.2;obtain⟨rfl,rfl⟩:=jl.1 q2;simpa using q1
      | [],_,hu=>simp at hu;omega
      |x::y::r,_,hu=>simp at hu;omega
    |_=>simp[D.isAg]at hag
   ·have hagg:agg=false:=by cases agg<;>simp_all
    subst hagg;obtain rfl:=h1 rfl;rw[CO (by simpa using hag)];exact he
 ·have hag:=hw.resolve_left hwh;cases e with
  |ag ds=>
   simp only[aW]at he;obtain⟨h1,he⟩:=he;simp only[D.size,D.sizeL_one h1]at hu;have e1:ds=ds.take j++((ds.drop j).take sz++(ds.drop j).drop sz):=by rw[List.take_append_drop,List.take_append_drop]
   have he':aK h (ds.take j++((ds.drop j).take sz++(ds.drop j).drop sz)) G cs:=by rw[←e1];exact he
   obtain⟨A,BC,c1,c23,rfl,rfl,s1,s23⟩:=he'.split;obtain⟨B,C,c2,c3,rfl,rfl,s2,s3⟩:=s23.split;have l1:c1.length=j:=by rw[s1.length,D.sizeL_one fun d hd=>h1 d (List.mem_of_mem_take hd)];simp;omega
   have hm2:∀d∈(ds.drop j).take sz,d.size=1∧d.isAg=false:=fun d hd=>h1 d (List.mem_of_mem_drop (List.mem_of_mem_take hd));have l2:c2.length=sz:=by rw[s2.length,D.sizeL_one hm2];simp;omega
   obtain⟨q1,q2⟩:=pD hd;refine⟨A,B,C,rfl,?_,?_,?_⟩
   ·have t1:(c1++(c2++c3)).take j=c1:=by rw[←l1];simp
    have t2:(c1++(c2++c3)).drop (j+sz)=c3:=by rw[←l1,←l2,←List.append_assoc,←lP];simp
    rw[t1,t2];simp only[D.put,hwh,if_false,aW];refine⟨?_,?_⟩
    ·intro x hx;simp only[List.append_assoc,List.mem_append]at hx;rcases hx with hx|hx|hx
     ·exact h1 x (List.mem_of_mem_take hx)
     ·exact q2 x hx
     ·exact h1 x (List.mem_of_mem_drop hx)
    ·rw[List.append_assoc];refine s1.append (q1.append ?_);rw[←List.drop_drop];exact s3
   ·simp only[D.put,hwh,if_false,D.size];rw[D.sizeL_append,D.sizeL_append,xQ,hs,D.sizeL_one fun d hd=>h1 d (List.mem_of_mem_take hd),D.sizeL_one fun d hd=>h1 d (List.mem_of_mem_drop hd)];simp;omega
   ·intro agg ha h2;have t3:((c1++(c2++c3)).drop j).take sz=c2:=by rw[←l1,←l2];simp
    rw[t3];cases agg with
    |true=>simp only[D.sub,if_true,aW];exact⟨hm2,s2⟩
    |false=>
     obtain rfl:=h2 rfl;have hlt:j<ds.length:=by omega
     have e2:(ds.drop j).take 1=[ds[j]]:=by
      rw[List.drop_eq_getElem_cons hlt];simp only[List.take_succ_cons,List.take_zero]
     rw[e2,cR]at s2;obtain⟨G1,G2,e1,e3,rfl,rfl,z1,z2⟩:=s2;obtain⟨rfl,rfl⟩:=jl.1 z2;have:ds.getD j default=ds[j]:=by simp[List.getD,List.getElem?_eq_getElem hlt]
     simp only[D.sub,fq,if_false,this];simpa using z1
  |_=>simp[D.isAg]at hag

theorem kB{h:aE}{es:List D}{d:D}{G F:List Nat}{cs vc:List Value}(he:aK h es G cs)(hd:aW h d F vc){usz el j sz:Nat}(hu:∀e∈es,e.size=usz)(hel:el<es.length)(hs:d.size=sz)(hj:j+sz≤usz)
  (hw:j=0∧sz=usz∨(D.at es el).isAg=true):
  ∃A B C,G=A++(B++C)∧aK h (es.set el (D.put usz (D.at es el) j sz d)) (A++(F++C)) (cs.take (el*usz+j)++(vc++cs.drop (el*usz+j+sz)))∧
   (∀e∈es.set el (D.put usz (D.at es el) j sz d),e.size=usz)∧
   ∀agg,(agg=true→(D.at es el).isAg=true)→(agg=false→sz=1)→aW h (D.sub (D.at es el) j sz agg) B ((cs.drop (el*usz+j)).take sz):=by
 rw[D.at_eq hel]at hw⊢;obtain⟨F1,F2,F3,c1,c2,c3,rfl,rfl,r1,r2,r3⟩:=he.pick hel;have hsz:=hu _ (List.getElem_mem hel);obtain⟨A,B,C,rfl,p1,p2,p3⟩:=Fy r2 hd hsz hs hj hw;have l1:c1.length=el*usz:=by
  rw[r1.length,D.sizeL_const (sz:=usz) fun d hd=>hu d (List.mem_of_mem_take hd),List.length_take,Nat.min_eq_left (Nat.le_of_lt hel)]
 have l2:c2.length=usz:=by rw[r2.length,hsz]
 refine⟨F1++A,B,C++F3,by simp,?_,?_,?_⟩
 ·have e1:(c1++(c2++c3)).take (el*usz+j)=c1++c2.take j:=by
   rw[List.take_append,←l1,List.take_of_length_le (by omega)];congr 1;rw[List.take_append_of_le_length (by omega)];congr 1;omega
  have e2:(c1++(c2++c3)).drop (el*usz+j+sz)=c2.drop (j+sz)++c3:=by
   rw[List.drop_append,←l1,List.drop_eq_nil_of_le (by omega),List.nil_append,List.drop_append_of_le_length (by omega)];congr 2;omega
  rw[e1,e2,List.set_eq_take_append_cons_drop,if_pos hel];have:=r1.append (cR.2 ⟨_,_,_,_,rfl,rfl,p1,r3⟩);simpa[List.append_assoc]using this
 ·intro e he;rcases List.mem_or_eq_of_mem_set he with he|rfl
  ·exact hu e he
  ·exact p2
 ·intro agg ha h1;have:=p3 agg ha h1;have e3:((c1++(c2++c3)).drop (el*usz+j)).take sz=(c2.drop j).take sz:=by
   rw[List.drop_append,←l1,List.drop_eq_nil_of_le (by omega),List.nil_append,Nat.add_sub_cancel_left,List.drop_append_of_le_length (by omega),List.take_append_of_le_length (by simp;omega)]
  rw[e3];exact this

def U.like:U→U→Prop
 |.own d,.own e=>d=e
 |.ar _ _ sz es,.ar _ _ sz' es'=>sz=sz'∧es.length=es'.length
 |.bx sz l,.bx sz' l'=>sz=sz'∧l.length=l'.length
 |.sb T E s,.sb T' E' s'=>T=T'∧E=E'∧s=s'
 |_,_=>False

theorem U.like_refl(u:U):u.like u:=by cases u<;>simp[U.like]
theorem U.like_trans{u v x:U}(h:u.like v)(h':v.like x):u.like x:=by
 cases u<;>cases v<;>cases x<;>simp_all [U.like]
theorem U.like_kill(u:U)(f:AV→Bool):u.like (u.kill f):=by cases u<;>simp[U.like,U.kill,eK]

structure cI (h:aE) (n0:Nat) (S0 M0:Nat→Prop) (bD st:St) (tm:Nat→Value) (g0 g:Gh):Prop where
 us:aZ h n0 S0 M0 st.us g
 rep:∀t,ab h st.us g (lk st.env t) (tm t)
 n:st.n=bD.n
 mem:∀i u,(i,u)∈st.us→∃u0,(i,u0)∈bD.us∧u0.like u
 gh:∀i u,(i,u)∈st.us→g.β i=g0.β i∧g.root i=g0.root i∧g.cap i=g0.cap i
 sh:∀b,g0.Sh b→g.Sh b
 fp:∀b,b∈fp g st.us→b∈fp g0 bD.us

theorem cI.refl{h:aE}{st:St}{tm:Nat→Value}(hu:aZ h n0 S0 M0 st.us g)(hr:∀t,ab h st.us g (lk st.env t) (tm t)):cI h n0 S0 M0 st st tm g g:=
 ⟨hu,hr,rfl,fun i u hm=>⟨u,hm,u.like_refl⟩,fun _ _ _=>⟨rfl,rfl,rfl⟩,fun _ hb=>hb,fun _ hb=>hb⟩

theorem cI.del{h:aE}{bD st:St}{tm:Nat→Value}{g0 g:Gh}(T:cI h n0 S0 M0 bD st tm g0 g)(k:Nat):cI h n0 S0 M0 bD (st.del k) tm g0 (g.drop k):=by
 obtain⟨hU,hK⟩:=T.us.del k;refine⟨hU,fun t=>du (fun av v hf hr=>ab.keepR hK hf hr) (T.rep t),T.n,?_,?_,T.sh,?_⟩
 ·intro i u hm;obtain⟨hne,u',h1,h2⟩:=aQ hm;obtain⟨u0,h3,h4⟩:=T.mem _ _ h1;simp only at h2;rw[h2];exact⟨u0,h3,U.like_trans h4 (u'.like_kill _)⟩
 ·intro i u hm;obtain⟨hne,u',h1,h2⟩:=aQ hm;exact T.gh _ _ h1
 ·intro b hb;exact T.fp b ((dg (g:=g) (g':=g.drop k) (fun i hi=>by simp[Gh.drop,hi])).subset hb)

theorem jX{h:aE}{us:List (Nat×U)}{g:Gh}(hu:aZ h n0 S0 M0 us g){k:Nat}{u:U}(hm:(k,u)∈us):∀b∈g.φ k,b∉fp (g.drop k) (aL k (AV.refs k) us):=by
 intro b hb hb';obtain⟨y,hy,hby⟩:=aH.1 hb';obtain⟨hne,u',h1,_⟩:=aQ hy;simp only[Gh.drop,hne,if_false]at hby;exact hne (bF hu.keys hu.nodup h1 hm hby hb)

theorem bZ{h:aE}{us:List (Nat×U)}{g:Gh}(hu:aZ h n0 S0 M0 us g){k:Nat}{u:U}(hm:(k,u)∈us):(g.φ k).Nodup:=by
 have:=hu.nodup;clear hu
 induction us with
 |nil=>cases hm
 |cons y ys ih=>
  simp only[Ax.fp,List.flatMap_cons,List.nodup_append]at this;rcases List.mem_cons.1 hm with rfl|hm
  ·exact this.1
  ·exact ih hm this.2.1

def w5(n0:Nat)(M0:Nat→Prop)(own:Bool)(gb ga:Gh)(usb usa:List (Nat×U))(F:List Nat):Prop:=
 (own=true→F.Nodup∧∀b∈F,(b<n0→M0 b)∧¬ga.Sh b∧b∉fp ga usa∧b∈fp gb usb)∧(own=false→∀b∈F,ga.Sh b)

theorem Ga(h:aE)(sz:Nat)(agg:Bool)(h1:agg=false→sz=1)(vs:List Value)(hl:vs.length=sz)(ho:∀v∈vs,v.oneCell'=true):aW h (CZ sz agg) [] vs∧(CZ sz agg).size=sz:=by
 cases agg with
 |true=>
  subst hl;have key:∀vs:List Value,(∀v∈vs,v.oneCell'=true)→aK h (List.replicate vs.length D.jk) [] vs:=by
   intro vs
   induction vs with
   |nil=>intro _;simp[aK]
   |cons v vs ih=>
    intro ho;simp only[lK,List.replicate_succ,cR];exact⟨[],[],[v],vs,rfl,rfl,by simp[aW,ho v (by simp)],ih fun x hx=>ho x (by simp[hx])⟩
  refine⟨?_,?_⟩
  ·simp only[CZ,if_true,aW];exact⟨fun d hd=>by rw[List.eq_of_mem_replicate hd];simp[D.size,D.isAg],key vs ho⟩
  ·simp only[CZ,if_true,D.size];rw[D.sizeL_one fun d hd=>by rw[List.eq_of_mem_replicate hd];simp[D.size,D.isAg]];simp
 |false=>
  obtain rfl:=h1 rfl
  match vs,hl with
  | [v],_=>
   refine⟨?_,by simp[CZ,D.size]⟩;simp only[CZ,fq,if_false];unfold aW;exact⟨rfl,v,rfl,ho v (by simp)⟩

end Go.Ax
