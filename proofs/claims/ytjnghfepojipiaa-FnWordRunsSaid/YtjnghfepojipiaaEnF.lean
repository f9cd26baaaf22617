/- THE ENGINE, PART 6: a generator of conditions over the register code, and its soundness. No condition. -/
import Derived.Test.YtjnghfepojipiaaEnE
set_option linter.unusedSimpArgs false
set_option linter.unusedVariables false
set_option linter.unnecessarySimpa false
set_option linter.unusedSectionVars false
namespace Go.Ax

variable {P : Program} {n0 : Nat} {S0 M0 : Nat → Prop} {w0 : World}
variable {st : St} {o : Oper} {a : Act} {w : World} {k : KQ} {Q' : Exit → Act → World → Prop} {g : Gh}

theorem FE{h:aE}{es:List D}{G:List Nat}{cs:List Value}{sz off len:Nat}(hes:aK h es G cs)(hs:∀d∈es,d.size=sz)(hb:off+len≤es.length):
  ∃F2 c2,aK h ((es.drop off).take len) F2 c2∧(∀x∈F2,x∈G)∧c2.length=len*sz∧∃c1 c3,cs=c1++(c2++c3)∧c1.length=off*sz:=by
 have he:es=es.take off++((es.drop off).take len++(es.drop off).drop len):=by rw[List.take_append_drop,List.take_append_drop]
 have hes':aK h (es.take off++((es.drop off).take len++(es.drop off).drop len)) G cs:=by rw[←he];exact hes
 obtain⟨F1,F23,c1,c23,g1,g2,s1,s23⟩:=hes'.split;obtain⟨F2,F3,c2,c3,rfl,rfl,s2,s3⟩:=s23.split;refine⟨F2,c2,s2,fun x hx=>by rw[g1];simp[hx],?_,c1,c3,g2,?_⟩
 ·rw[s2.length,D.sizeL_const (sz:=sz) fun d hd=>hs d (List.mem_of_mem_drop (List.mem_of_mem_take hd)),List.length_take,List.length_drop,Nat.min_eq_left (by omega)]
 ·rw[s1.length,D.sizeL_const (sz:=sz) fun d hd=>hs d (List.mem_of_mem_take hd),List.length_take,Nat.min_eq_left (by omega)]

theorem aZ.more{h:aE}{us:List (Nat×U)}(hu:aZ h n0 S0 M0 us g){F:List Nat}(hF:∀b∈F,b<h.size∧(b<n0→S0 b)∧b∉fp g us):
  aZ h n0 S0 M0 us {g with Sh:=fun b=>g.Sh b∨b∈F}∧∀av v,ab h us g av v→ab h us {g with Sh:=fun b=>g.Sh b∨b∈F} av v:=by
 have hok:∀t b,b<h.size→g.ok t b→({g with Sh:=fun b=>g.Sh b∨b∈F}:Gh).ok t b:=fun t b _ hb=>hb.imp Or.inl id;refine⟨⟨hu.keys,hu.nodup,hu.lt,hu.low,hu.dead,?_,?_,hu.fz,hu.pin⟩,fun av v hr=>ab.mono (g:=g) (g':={g with Sh:=fun b=>g.Sh b∨b∈F}) (fun x hx=>hx) (fun _ _=>rfl) (fun _ _=>⟨rfl,rfl,rfl⟩) hok hr⟩
 ·intro b hb;rcases hb with hb|hb
  ·exact hu.sh b hb
  ·exact hF b hb
 ·intro x hx;exact cm.mono (g:=g) (g':={g with Sh:=fun b=>g.Sh b∨b∈F}) hx (fun x hx=>hx) (fun _ _=>rfl) (fun _ _=>⟨rfl,rfl,rfl⟩) rfl (fun b _ hb=>Or.inl hb) hok (hu.each x hx)
def rY(g g':Gh)(us us':List (Nat×U))(F:List Nat):Prop:=∀b∈F,g.Sh b∨(b∈fp g us∧b∉fp g' us')
theorem zz{h:aE}{bD:St}{tm:Nat→Value}{g0:Gh}(h0:aZ h n0 S0 M0 bD.us g0){av:AV}{v:Value}{st:St}{g:Gh}{k:D→St→Prop}(T:cI h n0 S0 M0 bD st tm g0 g)(hr:ab h bD.us g0 av v)(hk:bo st av (E2 k)):
  ∃d st' g' F,k d st'∧cI h n0 S0 M0 bD st' tm g0 g'∧aW h d F v.cells.toList∧d.fits v∧rY g g' st.us st'.us F∧(∀b,g'.Sh b↔g.Sh b)∧∀b,b∈fp g' st'.us→b∈fp g st.us:=by
 obtain⟨own,d,st',g',F,hk,T',r1,r2,⟨o1,o2⟩,hsh,hfp⟩:=fR h0 T hr hk;refine⟨d,st',g',F,hk,T',r1,r2,fun b hb=>?_,hsh,hfp⟩;cases own with
 |true=>exact .inr ⟨((o1 rfl).2 b hb).2.2.2,((o1 rfl).2 b hb).2.2.1⟩
 |false=>exact .inl ((hsh b).1 (o2 rfl b hb))
mutual
theorem I3{h:aE}{bD:St}{tm:Nat→Value}{g0:Gh}(h0:aZ h n0 S0 M0 bD.us g0):∀{av:AV} {v:Value} {st:St} {g:Gh} {k:D→St→Prop},cI h n0 S0 M0 bD st tm g0 g→ab h bD.us g0 av v→nx st av k→
  ∃d st' g' F,k d st'∧cI h n0 S0 M0 bD st' tm g0 g'∧aW h d F v.cells.toList∧d.fits v∧rY g g' st.us st'.us F∧(∀b,g'.Sh b↔g.Sh b)∧∀b,b∈fp g' st'.us→b∈fp g st.us
 |.sm i off len,v,st,g,k,T,hr,hk=>by
  simp only[nx,CX]at hk
  split at hk
  ·next ow nn sz es hun=>
   obtain⟨⟨rfl,rfl⟩,hk⟩:=hk;have hm:=ay hun;have ho:=T.us.each _ hm;obtain⟨u0,hm0,hlike⟩:=T.mem _ _ hm;simp only[ab]at hr;obtain⟨ow0,nn0,sz0,es0,q1,q2,q3⟩:=hr;have:=h0.uniq hm0 q1;subst this;simp only[U.like]at hlike;obtain⟨rfl,hlen⟩:=hlike;obtain⟨gb,_,gc⟩:=T.gh _ _ hm;have hsub:∀b,b∈fp (g.drop i) (st.del i).us→b∈fp g st.us:=fun b hb=>(dg (g:=g) (g':=g.drop i) (fun j hj=>by simp[Gh.drop,hj])).subset hb;simp only[cm]at ho;obtain⟨hmax,hs,ho⟩:=ho;rcases ho with⟨p1,rfl,p3,p4⟩|⟨b,c,e,G,cs,rest,k1,k2,k3,k4,k5,k6,k7,k8⟩
   ·have hv:v=.slice none 0 0:=by
     rcases q3 with⟨b,q3,_⟩|⟨_,_,_,q3⟩
     ·rw[←gb,p1]at q3;cases q3
     ·exact q3
    subst hv;refine⟨_,st.del i,g.drop i,[],hk,T.del i,?_,rfl,by simp[rY],fun _=>Iff.rfl,hsub⟩;unfold aW;exact .inl ⟨none,by simp[Value.cells],rfl,rfl,fun _=>p4,by simp⟩
   ·have hv:v=.slice (some ⟨b,0,none⟩) es.length (g.cap i):=by
     rcases q3 with⟨b',q3,q4⟩|⟨q3,_⟩
     ·rw[←gb,k1]at q3;obtain rfl:=Option.some.inj q3;rw[←gc]at q4;simpa using q4
     ·rw[←gb,k1]at q3;cases q3
    subst hv;have hcl:=k6.length;rw[D.sizeL_const hs]at hcl;have hle:=Nat.mul_le_mul_right sz0 k5;refine⟨_,st.del i,g.drop i,b::G,hk,T.del i,?_,rfl,?_,fun _=>Iff.rfl,hsub⟩
    ·unfold aW;refine .inr ⟨b,0,g.cap i,c,e,(0,0),G,by simp[Value.cells],rfl,k7,k5,hmax,k2,by rw[k4];omega,hs,?_⟩;rw[List.drop_zero,k3,←hcl,List.take_left']
     ·exact k6
     ·rfl
    ·have hin:∀x∈g.φ i,x∈fp g st.us∧x∉fp (g.drop i) (st.del i).us:=fun x hx=>⟨aH.2 ⟨_,hm,hx⟩,jX T.us hm x hx⟩;intro x hx;cases ow with
     |true=>
      simp only[if_true]at k8;exact .inr (hin x (by rw[k8];exact hx))
     |false=>
      simp only[fq,if_false]at k8;rcases List.mem_cons.1 hx with rfl|hx
      ·exact .inr (hin x (by rw[k8.1];simp))
      ·exact .inl (k8.2 x hx)
  ·exact hk.elim
 |.sg vs,v,st,g,k,T,hr,hk=>by
  simp only[nx]at hk;simp only[ab]at hr;obtain⟨xs,h1,rfl⟩:=hr;obtain⟨ds,st',g',F,hk,T',r1,s1,q1,f1,_⟩:=rU h0 T h1 hk;simp only[J0]at hk;refine⟨_,st',g',F,hk,T',?_,⟨_,rfl⟩,s1,q1,f1⟩;obtain⟨z1,z2⟩:=jK r1;unfold aW;exact⟨z2,by simpa[Value.cells]using z1⟩
 |.im t d,v,st,g,k,T,hr,hk=>zz h0 T hr (by simpa only[nx]using hk)
 |.tr i,v,st,g,k,T,hr,hk=>zz h0 T hr (by simpa only[nx]using hk)
 |.cw i el j sz agg,v,st,g,k,T,hr,hk=>zz h0 T hr (by simpa only[nx]using hk)
 |.pw _ _ _,v,st,g,k,T,hr,hk=>by simp[nx]at hk
 |.vb _ _,v,st,g,k,T,hr,hk=>by simp[nx]at hk
 |.tup _,v,st,g,k,T,hr,hk=>by simp[nx]at hk
 |.any,v,st,g,k,T,hr,hk=>by simp[nx]at hk
 |.cl _ _,v,st,g,k,T,hr,hk=>by simp[nx]at hk
 |.pq _ _ _ _ _ _,v,st,g,k,T,hr,hk=>by simp[nx]at hk
 |.qs _ _ _ _ _ _,v,st,g,k,T,hr,hk=>by simp[nx]at hk
 |.ss _ _ _,v,st,g,k,T,hr,hk=>by simp[nx]at hk
 |.z0 _ _,v,st,g,k,T,hr,hk=>by simp[nx]at hk
 |.pb _ _,v,st,g,k,T,hr,hk=>by simp[nx]at hk
 |.ps _,v,st,g,k,T,hr,hk=>by simp[nx]at hk
theorem rU{h:aE}{bD:St}{tm:Nat→Value}{g0:Gh}(h0:aZ h n0 S0 M0 bD.us g0):∀{avs:List AV} {vs:List Value} {st:St} {g:Gh} {k:List D→St→Prop},cI h n0 S0 M0 bD st tm g0 g→ah h bD.us g0 avs vs→kt st avs k→
  ∃ds st' g' F,k ds st'∧cI h n0 S0 M0 bD st' tm g0 g'∧aK h ds F (vs.map (·.cells.toList)).flatten∧rY g g' st.us st'.us F∧(∀b,g'.Sh b↔g.Sh b)∧(∀b,b∈fp g' st'.us→b∈fp g st.us)∧vs.map (·.cells.size)=ds.map D.size
 | [],vs,st,g,k,T,hr,hk=>by
  simp only[ah]at hr;subst hr;simp only[kt]at hk;exact⟨[],st,g,[],hk,T,by simp[aK],by simp[rY],fun _=>Iff.rfl,fun _ hb=>hb,rfl⟩
 |av::avs,vs,st,g,k,T,hr,hk=>by
  simp only[ah]at hr;obtain⟨v,r,rfl,h1,h2⟩:=hr;simp only[kt]at hk;obtain⟨d,sta,ga,F1,hk,Ta,r1,_,s1,q1,f1⟩:=I3 h0 T h1 hk;obtain⟨ds,stb,gb,F2,hk,Tb,r2,s2,q2,f2,z2⟩:=rU h0 Ta h2 hk;simp only[JF]at hk;refine⟨d::ds,stb,gb,F1++F2,hk,Tb,?_,fun b hb=>?_,fun b=>(q2 b).trans (q1 b),fun b hb=>f1 b (f2 b hb),by have:=r1.length;simp at this;simp[z2,this]⟩
  ·simp only[lC,List.flatten_cons,cR];exact⟨F1,F2,_,_,rfl,rfl,r1,r2⟩
  ·rcases List.mem_append.1 hb with hb|hb
   ·rcases s1 b hb with h|⟨h,h'⟩
    ·exact .inl h
    ·exact .inr ⟨h,fun h3=>h' (f2 b h3)⟩
   ·rcases s2 b hb with h|⟨h,h'⟩
    ·exact .inl ((q1 b).1 h)
    ·exact .inr ⟨f1 b h,h'⟩
end
theorem H7{sz:Nat}(hms:∀b,b<n0→M0 b→S0 b)(h0:aZ w.heap n0 S0 M0 st.us g){tm:Nat→Value}(hrep:∀t,ab w.heap st.us g (lk st.env t) (tm t)){av:AV}{v:Value}{k:List D→St→Prop}(hr:ab w.heap st.us g av v)(hk:D1 st sz av k):
  ∃ds st' g' F news,k ds st'∧cI w.heap n0 S0 M0 st st' tm g g'∧aK w.heap ds F news∧(∀b∈F,g'.Sh b)∧
   ((∀d∈ds,d.size=sz)→0<sz→KZ w sz v ds.length news):=by
 have T:=cI.refl h0 hrep

 have part:∀{i off len:Nat} {ow:Bool} {nn:Option Bool} {usz:Nat} {es:List D},(i,U.ar ow nn usz es)∈st.us→off+len≤es.length→
   ((∃b o,g.β i=some b∧(0<len→o=off*usz)∧∃cap,v=.slice (some ⟨b,o,none⟩) len cap)∨(g.β i=none∧len=0∧∃cap,v=.slice none len cap))→vQ (lu st.us i) off len sz st k→
   ∃ds st' g' F news,k ds st'∧cI w.heap n0 S0 M0 st st' tm g g'∧aK w.heap ds F news∧(∀b∈F,g'.Sh b)∧((∀d∈ds,d.size=sz)→0<sz→KZ w sz v ds.length news):=by
  intro i off len ow nn usz es hm hlen hv hk;unfold vQ at hk
  split at hk
  ·next nn' usz' es' hun=>
   obtain⟨rfl,hk⟩:=hk;have:=h0.uniq hm (ay hun);injection this with e1 e2 e3 e4;subst e1 e2 e3 e4;have ho:=h0.each _ hm;simp only[cm]at ho;obtain⟨hmax,hs,ho⟩:=ho;have hl:((es.drop off).take len).length=len:=by rw[List.length_take,List.length_drop,Nat.min_eq_left (by omega)]
   rcases hv with⟨b,q,hb,hq,cap,rfl⟩|⟨hb,rfl,cap,rfl⟩
   ·rcases ho with⟨z,_⟩|⟨b',c,e,G,cs,rest,k1,k2,k3,k4,k5,k6,k7,k8⟩
    ·rw[hb]at z;cases z
    rw[hb]at k1;obtain rfl:=Option.some.inj k1;simp only[fq,if_false]at k8;obtain⟨F2,c2,p1,p2,p3,c1,c3,p4,p5⟩:=FE k6 hs hlen;refine⟨_,st,g,F2,c2,hk,T,p1,fun x hx=>k8.2 x (p2 x hx),fun _ _=>?_⟩;rw[hl];refine⟨_,_,rfl,p3,fun h0=>⟨_,rfl,fun j u hj=>?_⟩⟩;rw[hq h0,Addr.add_lit,cell_of_row w b _ c e (0,0) k2];rw[←Array.getElem?_toList,k3,p4,List.append_assoc,List.getElem?_append_right (by omega),p5,Nat.add_sub_cancel_left,List.append_assoc,List.getElem?_append_left (List.getElem?_eq_some_iff.1 hj).1];exact hj
   ·refine⟨_,st,g,[],[],hk,T,by simp[aK],by simp,fun _ _=>?_⟩;rw[hl];exact⟨_,_,rfl,by simp,by simp⟩
  ·exact hk.elim
 unfold D1 at hk
 split at hk
 ·next i len=>
  unfold Kb at hk
  split at hk
  ·next oC items hun=>
   obtain⟨⟨rfl,rfl⟩,hk⟩:=hk;have hm:=ay hun;have ho:=h0.each _ hm;simp only[ab]at hr;obtain⟨bsz',items',b,r1,r2,r3,rfl⟩:=hr;have:=h0.uniq hm r1;injection this with e1 e2;subst e1 e2;simp only[cm]at ho;obtain⟨hmax,b',c,e,vs,rest,k1,k2,k3,k4,k5,k6⟩:=ho;rw[r3]at k1;obtain rfl:=Option.some.inj k1;obtain⟨ds,st',g',F,hk,T',p1,p2,p3,p4,_⟩:=rU h0 (T.del i) k4 hk;have hsub:∀b,b∈fp (g.drop i) (st.del i).us→b∈fp g st.us:=fun b hb=>(dg (g:=g) (g':=g.drop i) (fun j hj=>by simp[Gh.drop,hj])).subset hb;have hFl:=p1.lt;obtain⟨hU,hV⟩:=T'.us.more (F:=F.filter fun b=>!(fp g' st'.us).contains b) (fun b hb=>by
    obtain⟨hb,hn⟩:=List.mem_filter.1 hb;simp only[List.contains_eq_mem,Bool.not_eq_true',decide_eq_false_iff_not]at hn;refine⟨hFl b hb,fun hlt=>?_,hn⟩;rcases p2 b hb with q|⟨q,_⟩
    ·exact(h0.sh b q).2.1 hlt
    ·exact hms b hlt (h0.low b (hsub b q) hlt))
   refine⟨ds,st',_,F,_,hk,⟨hU,fun t=>hV _ _ (T'.rep t),T'.n,T'.mem,T'.gh,fun b hb=>.inl (T'.sh b hb),T'.fp⟩,p1,fun b hb=>?_,fun hs h0'=>?_⟩
   ·rcases p2 b hb with q|⟨_,q⟩
    ·exact .inl ((p3 b).2 q)
    ·exact .inr (List.mem_filter.2 ⟨hb,by simpa using q⟩)
   have l1:=p1.length;rw[D.sizeL_const hs]at l1;have l2:(vs.map (·.cells.toList)).flatten.length=vs.length*oC:=by
    have:∀vs:List Value,(∀v∈vs,v.cells.size=oC)→(vs.map (·.cells.toList)).flatten.length=vs.length*oC:=by
     intro vs
     induction vs with
     |nil=>simp
     |cons x vs ih=>
      intro hx;simp only[lC,List.flatten_cons,lP,Array.length_toList,lK,hx x (by simp),ih fun y hy=>hx y (by simp[hy]),Nat.add_mul];omega
    exact this vs (k5 h0')
   have l3:=f7 k4;have l4:ds.length=items.length:=by
    rw[l2,l3]at l1;exact(Nat.eq_of_mul_eq_mul_right h0' l1).symm
   rw[l4];refine⟨_,_,rfl,by rw[l2,l3],fun _=>⟨_,rfl,fun j u hj=>?_⟩⟩;rw[Addr.add_lit,cell_of_row w b _ c e (0,0) k2,Nat.zero_add];rw[←Array.getElem?_toList,k6];rw[List.getElem?_append_left (List.getElem?_eq_some_iff.1 hj).1];exact hj
  ·exact hk.elim
 ·next nn sz' ds=>
  obtain⟨rfl,hk⟩:=hk;simp only[ab]at hr;obtain⟨F,r1,r2,r3⟩:=hr;obtain⟨F',news,q1,q2,q3,q4⟩:=o9 rfl r1 r2;exact⟨ds,st,g,F',news,hk,T,q1,fun b hb=>fk (r3 b (q2 b hb)),fun _ _=>q4⟩
 ·next i off len=>
  simp only[ab]at hr;obtain⟨ow,nn,usz,es,r1,r2,r3⟩:=hr;refine part r1 r2 ?_ hk;rcases r3 with⟨b,h1,h2⟩|⟨h1,_,h3,h4⟩
  ·exact .inl ⟨b,_,h1,fun _=>rfl,_,h2⟩
  ·exact .inr ⟨h1,h3,0,by rw[h4,h3]⟩
 ·next i off len=>
  simp only[ab]at hr;obtain⟨ow,nn,usz,es,r1,r2,r3⟩:=hr;refine part r1 r2 ?_ hk;rcases r3 with⟨b,q,h1,h2,h3⟩|⟨h1,h3,h4⟩
  ·refine .inl ⟨b,q,h1,fun hl=>h2 ?_,_,h3⟩;have ho:=h0.each _ r1;simp only[cm]at ho;rcases ho.2.2 with⟨z,_⟩|⟨b',c,e,G,cs,rest,k1,k2,k3,k4,k5,_⟩
   ·rw[h1]at z;cases z
   ·omega
  ·exact .inr ⟨h1,h3,0,by rw[h4,h3]⟩
 ·exact hk.elim

theorem GX(h:At n0 S0 M0 w0 st o a w g){c:Call}{t e:TypeId}{s x:Operand}{i:TypeInfo}{z:D}{X Y:Ax.X}{d:Nat}{f:St→Prop}(ho:o.op=.call c)(hc:c.callee=.builtin .append)(ha:c.args= #[s,x])(hta:c.argTypes= #[t,t])
    (ht:P.underlying t=some (.slice e)) (hi:P.info? e=some i) (hz:dE P e=some z) (hX:aU P t s=some X) (hY:aU P t x=some Y) (hd:o.dst=some d)
    (hq:D1 st i.size (st.ev Y) (zm X d i.size i.bytes f)):o.wp P a w (dz n0 S0 M0 w0 st.n f) Q':=by
  have hs:=h.sat;have hb0:n0≤w.heap.size:=by rw[hs.base];exact hs.size
  obtain⟨zv,hzv,hzs⟩:∃zv,i.zero=some zv∧zv.cells.size=i.size:=by
    unfold dE at hz;rw[hi]at hz
    dsimp only at hz
    split at hz
    · next z' hz' =>
      split at hz
      · next hsz=>exact⟨z',hz',hsz⟩
      · cases hz
    · cases hz
  obtain⟨ds,st',g',F,news,hk,T,p1,p2,p5⟩:=H7 hs.ms h.us h.rep (h.ev_ hY) hq;have ex:ab w.heap st'.us g' (st'.ev X) (a.eval s):=xv T.rep hX;simp only[zm]at hk

  have run:∀{ao:Option Addr} {n cap:Nat} {olds:List Value},a.eval s=.slice ao n cap→K2 w.heap i.size ao n cap olds→(∀d∈ds,d.size=i.size)→0<i.size→n+ds.length≤aT→(n+ds.length)*i.bytes≤140737488355328→
      (∀(v':Value)(w':World),w'.os=w.os→w'.tape=w.tape→w'.output=w.output→
        ((ds.length=0∧v'=.slice ao n cap∧w'=w)∨
       (∃b off c e0,0<ds.length∧ao=some ⟨b,off,none⟩∧n+ds.length≤cap∧v'=.slice ao (n+ds.length) cap∧w.heap[b]?=some (.cells c e0 (0,0))∧off+cap*i.size≤c.size∧olds=(c.toList.drop off).take (n*i.size)∧
          w'=w.setRow b (c.toList.take (off+n*i.size)++news++c.toList.drop (off+n*i.size+news.length)).toArray)∨
       (∃ cap' c' rest, 0 < ds.length ∧ v' = .slice (some ⟨w.heap.size, 0, none⟩) (n + ds.length) cap' ∧ n + ds.length ≤ cap' ∧ c'.size = cap' * i.size ∧ c'.toList = (olds ++ news) ++ rest ∧ w'.heap = w.heap.push (.cells c' e (0, 0)))) →
        dz n0 S0 M0 w0 st.n f (a.put o.dst v') w')→o.wp P a w (dz n0 S0 M0 w0 st.n f) Q':=by
    intro ao n cap olds hv hsrc hsd h0 hmax hby hpost;obtain⟨v',w',hrun,e1,e2,e3,hcase⟩:=BH (P:=P) (w:=w) (ty:=o.type) ht hi hzv hzs hsrc (p5 hsd h0) p1.one hmax hby;unfold Oper.wp;have hrun':(execOp a.eval o).run P w=.ok (.value v') w':=by
      rw[←hv]at hrun;simp[execOp,ho,resolve,hc,ha,hta,invoke,builtin,hrun,Result.andThen]
    rw[hrun'];exact hpost v' w' e1 e2 e3 hcase

  have fin:∀{env:List (Nat×AV)} {us:List (Nat×U)} {g1:Gh} {w':World} {v':Value} {id:Nat} {u:U} {av:AV},(∀t,ab w.heap us g1 (lk env t) (a.tmps.getD t undef))→w'.os=w.os→w'.tape=w.tape→w'.output=w.output→
      (∃g2,aZ w'.heap n0 S0 M0 ((id,u)::us) g2∧(∀av x,ab w.heap us g1 av x→ab w'.heap ((id,u)::us) g2 av x)∧ab w'.heap ((id,u)::us) g2 av v'∧w.heap.size≤w'.heap.size∧(∀b,b<n0→¬M0 b→w'.heap[b]?=w.heap[b]?))→
      f ((⟨st.n,env,(id,u)::us⟩:St).set d av)→dz n0 S0 M0 w0 st.n f (a.put o.dst v') w':=by
    rintro env us g1 w' v' id u av hv e1 e2 e3 ⟨g2,hU,hV,hr,hsz,hold⟩ hf;have hS:dH n0 S0 M0 w0 ⟨st.n,env,(id,u)::us⟩ a w':=by
      refine⟨hs.ms,hs.dfr,hs.tm,hs.base,e1.trans hs.os,e2.trans hs.tape,e3.trans hs.output,Nat.le_trans hs.size hsz,?_,g2,hU,fun t=>hV _ _ (hv t)⟩;intro b hb hm;rw[hold b hb hm];exact hs.old b hb hm
    refine⟨_,?_,hf,?_⟩
    · rfl
    · have := cY hS hU (fun t => hV _ _ (hv t)) (d := o.dst) (fun j hj => h.dst j hj) hr
      rw[hd]at this⊢;exact this
  have hTn:st'.n=st.n:=T.n;unfold Cv at hk
  split at hk
  · next id off len e1 =>
    unfold Ct at hk
    split at hk
    · next ow nn usz es hun =>
      obtain⟨⟨rfl,q0,rfl,hcut,q4,q1,q2,q3⟩,hf⟩:=hk;obtain⟨hcl1,hcl2⟩:=ye hcut;generalize hes1:mr len es=es1 at hcl1 hcl2 q4 hf;have hm:=ay hun;have hU:=T.us.each _ hm;rw[e1]at ex;simp only[ab]at ex;obtain⟨ow',nn',sz',es',x1,x2,x3⟩:=ex;have:=T.us.uniq hm x1;injection this with z1 z2 z3 z4;subst z1 z2 z3 z4;have T2:=T.del id;have hno:id∉(st'.del id).us.map (·.1):=by
        show id∉(aL id (AV.refs id) st'.us).map (·.1)
        rw[aV];simp[List.mem_filter]
      have hfp:∀x∈g'.φ id,x∈fp g' st'.us:=fun x hx=>aH.2 ⟨_,hm,hx⟩;have hdrop:=jX T.us hm;have hf':f ((⟨st.n,(st'.del id).env,(id,U.ar false (ba nn ds) i.size (es1++ds))::(st'.del id).us⟩:St).set d (.sm id 0 (es1.length+ds.length))):=by
        rw[←hTn,hcl1];exact hf
      simp only[cm]at hU;obtain⟨hmax,hse,hU⟩:=hU;rcases hU with⟨y1,rfl,y3,y4⟩|⟨b,cc,ee,G,cs,rest,y1,y2,y3,y4,y5,y6,y7,y8⟩
      · have hes0:es1=[]:=by
          obtain⟨zs,hz⟩:=hcl2.1;exact(List.append_eq_nil_iff.1 hz.symm).1
        subst hes0;obtain rfl:len=0:=hcl1.symm;have hv:a.eval s=.slice none 0 0:=by
          rcases x3 with⟨b,x3,_⟩|⟨_,_,_,x3⟩
          · rw[y1]at x3;cases x3
          · exact x3
        refine run (olds:=[]) hv (.inl ⟨rfl,rfl,rfl⟩) q3 q0 (by simpa using q2) (by simpa using q1) fun v' w' e1 e2 e3 hcase=>?_;have hcase':=tg (w:=w) (rest:=[]) T2.us hb0 hno q0 (es:=[]) (G:=[]) (olds:=[]) (nn:=nn) (cap:=0) (by simp[aK]) (by simp) p1 q3 (by simpa using q2) (.inl ⟨rfl,rfl,rfl,rfl,rfl,y4⟩) (ow:=false)
          (fun e=>by cases e) (fun _=>fun x hx=>p2 x (by simpa using hx)) (fun e k v hk hid=>by
              subst e;obtain⟨z1,z2⟩:=T.us.pin k v hk ⟨_,hid▸hm,rfl⟩;rw[←hid,y1]at z1 z2;exact⟨fun h=>by simpa using z1 h,fun _ h=>absurd rfl h⟩) (e:=e) (v':=v') (w':=w') (by simpa using hcase)
        refine fin T2.rep e1 e2 e3 hcase' ?_;exact hf'
      · obtain ⟨zs, hzs⟩ := hcl2.1
        rw[hzs]at y6;obtain⟨G1,G2,c1,c2,rfl,rfl,y6,_⟩:=aK.split y6;have hse:∀d∈es1,d.size=i.size:=fun d hd=>hse d (by rw[hzs];simp[hd])
        have y5 : es1.length ≤ g'.cap id := by have : es.length = es1.length + zs.length := by rw [hzs, lP]
                                               omega
        rw[List.append_assoc]at y3;have hv:a.eval s=.slice (some ⟨b,0,none⟩) es1.length (g'.cap id):=by
          rw[hcl1];rcases x3 with⟨b',x3,x4⟩|⟨x3,_⟩
          · rw [y1] at x3
            obtain rfl:=Option.some.inj x3;simpa using x4
          · rw[y1]at x3;cases x3
        have hcl:=y6.length;rw[D.sizeL_const hse]at hcl;have hle:=Nat.mul_le_mul_right i.size y5;have hsrc:K2 w.heap i.size (some ⟨b,0,none⟩) es1.length (g'.cap id) c1:=by
          refine .inr ⟨b,0,cc,ee,rfl,y5,y2,by omega,?_⟩;rw[List.drop_zero,y3,←hcl,List.take_left']
          rfl
        have hbφ:b∈g'.φ id:=by
          cases ow
          · simp only[fq,if_false]at y8;rw[y8.1];simp
          · simp only[if_true]at y8;rw[y8];simp
        have hG1:∀x∈G1,g'.Sh x:=by
          intro x hx;rcases q4 with rfl|rfl
          · simp only [fq, if_false] at y8
            exact y8.2 x (by simp[hx])
          · simp only [aK] at y6
            rw[y6.1]at hx;cases hx
        refine run hv hsrc q3 q0 (by rw[hcl1];exact q2) (by rw[hcl1];exact q1) fun v' w' e1 e2 e3 hcase=>?_;have hbG:b∉G1:=fun hb=>(T.us.sh b (hG1 b hb)).2.2 (hfp b hbφ);have hbF:b∉F:=fun hb=>(T.us.sh b (p2 b hb)).2.2 (hfp b hbφ);have hcase':=tg (w:=w) (rest:=c2++rest) T2.us hb0 hno q0 (es:=es1) (G:=G1) (olds:=c1) (nn:=nn) (cap:=g'.cap id) y6 hse p1 q3 (by rw[hcl1];exact q2)
          (.inr ⟨b,cc,ee,rfl,y2,y4,y3,y5,y7,hdrop b hbφ,fun hb=>(T.us.sh b hb).2.2 (hfp b hbφ),fun hb=>T.us.low b (hfp b hbφ) hb,by rw[List.mem_append];exact fun hb=>hb.elim hbG hbF⟩) (ow:=false)
          (fun e=>by cases e)
          (fun _=>by
            intro x hx;rcases List.mem_append.1 hx with hx|hx
            · exact hG1 x hx
            · exact p2 x hx) (fun e k v hk hid => by
              subst e;obtain⟨z1,z2⟩:=T.us.pin k v hk ⟨_,hid▸hm,rfl⟩;rw[←hid,y1]at z1 z2;exact⟨fun h=>by simpa using z1 h,fun h _=>z2 h (by simp)⟩) (e:=e) (v':=v') (w':=w') hcase
        refine fin T2.rep e1 e2 e3 hcase' ?_;exact hf'
    · exact hk.elim
  · exact hk.elim

theorem GL(h:At n0 S0 M0 w0 st o a w g){t u1 u2:TypeId}{sz:Nat}{p x:Operand}{A X:Ax.X}{f:St→Prop}(ho:o.op=.store t p x)(hd:o.dst=none)(hp:aU P u1 p=some A)(hx:aU P u2 x=some X)
  (hz:dv P t=some sz) (hq:qi (st.ev A) (st.ev X) st sz f):o.wp P a w (dz n0 S0 M0 w0 st.n f) Q':=by
 unfold qi at hq
 split at hq
 ·next i off len e1=>
  split at hq
  ·next id el j e2=>exact GM h ho hd hp hx hz e2 (by rw[e1];exact hq)
  ·next id j e2=>exact GT h ho hd hp hx hz e2 (by rw[e1];exact hq)
  ·exact hq.elim
 ·exact OZ h ho hd hp hx hz hq

theorem eb{h:aE}{us:List (Nat×U)}(hu:aZ h n0 S0 M0 us g){av:AV}{v:Value}{ts:List Nat}{d:D}(hr:ab h us g av v)(hd:(av.rd (lu us)).map (fun p=>(p.1.toList,p.2))=some (ts,d)):
  ∃F,aW h d F v.cells.toList∧d.fits v∧∀b∈F,g.Sh b∨∃k∈ts,b∈g.φ k:=by
 rw[Option.map_eq_some_iff]at hd;obtain⟨⟨t,d'⟩,hd,e⟩:=hd;injection e with e1 e2;subst e1 e2;obtain⟨F,r1,r2,r3⟩:=Av hu hr hd;exact⟨F,r1,r2,fun b hb=>(r3 b hb).imp id fun⟨k,h1,h2⟩=>⟨k,by simp[h1],h2⟩⟩
mutual
theorem FO{h:aE}{us:List (Nat×U)}(hu:aZ h n0 S0 M0 us g):∀{av:AV} {v:Value} {ts:List Nat} {d:D},ab h us g av v→av.rds (lu us)=some (ts,d)→
  ∃F,aW h d F v.cells.toList∧d.fits v∧∀b∈F,g.Sh b∨∃k∈ts,b∈g.φ k
 |.sg vs,v,ts,d,hr,hd=>by
  simp only[AV.rds]at hd
  split at hd
  ·next ts' ds hds=>
   rw[Option.map_eq_some_iff]at hd;obtain⟨d',hd,e⟩:=hd;injection e with e1 e2;subst e1 e2;unfold GH at hd
   split at hd
   ·next hall=>
    obtain rfl:=Option.some.inj hd;simp only[ab]at hr;obtain⟨xs,h1,rfl⟩:=hr;obtain⟨F,q1,q2⟩:=sK hu h1 hds;refine⟨F,?_,by simp[D.fits,Value.cells],q2⟩;simp only[aW];rw[List.all_eq_true]at hall;refine⟨fun d hd=>?_,by simpa[Value.cells]using ud q1⟩;have:=hall d hd;simpa using this
   ·cases hd
  ·cases hd
 |.im t d',v,ts,d,hr,hd=>by
  simp only[AV.rds,oS,Prod.mk.injEq]at hd;obtain⟨rfl,rfl⟩:=hd;simp only[ab]at hr;obtain⟨F,r1,r2,r3⟩:=hr
  split
  ·next hp=>
   have:=cC hp r1;subst this;exact⟨[],r1,r2,by simp⟩
  ·refine⟨F,r1,r2,fun b hb=>?_⟩;rcases r3 b hb with h3|⟨k,rfl,h3,_⟩
   ·exact .inl h3
   ·exact .inr ⟨k,by simp,h3⟩
 |.tr i,v,ts,d,hr,hd=>eb hu hr (by simpa only[AV.rds]using hd)
 |.pw i el j,v,ts,d,hr,hd=>eb hu hr (by simpa only[AV.rds]using hd)
 |.cw i el j sz agg,v,ts,d,hr,hd=>eb hu hr (by simpa only[AV.rds]using hd)
 |.sm i off len,v,ts,d,hr,hd=>eb hu hr (by simpa only[AV.rds]using hd)
 |.vb i len,v,ts,d,hr,hd=>eb hu hr (by simpa only[AV.rds]using hd)
 |.tup vs,v,ts,d,hr,hd=>eb hu hr (by simpa only[AV.rds]using hd)
 |.any,v,ts,d,hr,hd=>eb hu hr (by simpa only[AV.rds]using hd)
 |.cl f vs,v,ts,d,hr,hd=>eb hu hr (by simpa only[AV.rds]using hd)
 |.pq i el j isz el' j',v,ts,d,hr,hd=>eb hu hr (by simpa only[AV.rds]using hd)
 |.qs i el j isz off len,v,ts,d,hr,hd=>eb hu hr (by simpa only[AV.rds]using hd)
 |.ss i off len,v,ts,d,hr,hd=>eb hu hr (by simpa only[AV.rds]using hd)
 |.z0 nn sz,v,ts,d,hr,hd=>eb hu hr (by simpa only[AV.rds]using hd)
 |.pb i j,v,ts,d,hr,hd=>eb hu hr (by simpa only[AV.rds]using hd)
 |.ps i,v,ts,d,hr,hd=>eb hu hr (by simpa only[AV.rds]using hd)
theorem sK{h:aE}{us:List (Nat×U)}(hu:aZ h n0 S0 M0 us g):∀{avs:List AV} {vs:List Value} {ts:List Nat} {ds:List D},ah h us g avs vs→yO (lu us) avs=some (ts,ds)→
  ∃F,fT h ds F vs∧∀b∈F,g.Sh b∨∃k∈ts,b∈g.φ k
 | [],vs,ts,ds,hr,hd=>by
  simp only[yO,oS,Prod.mk.injEq]at hd;obtain⟨rfl,rfl⟩:=hd;simp only[ah]at hr;subst hr;exact⟨[],by simp[fT],by simp⟩
 |av::avs,vs,ts,ds,hr,hd=>by
  simp only[ah]at hr;obtain⟨v,r,rfl,r1,r2⟩:=hr;simp only[yO]at hd
  split at hd
  ·next t d ts' ds' h1 h2=>
   simp only[oS,Prod.mk.injEq]at hd;obtain⟨rfl,rfl⟩:=hd;obtain⟨F1,p1,p2,p3⟩:=FO hu r1 h1;obtain⟨F2,q1,q2⟩:=sK hu r2 h2;refine⟨F1++F2,l9.2 ⟨F1,F2,v,r,rfl,rfl,p1,p2,q1⟩,fun b hb=>?_⟩;rcases List.mem_append.1 hb with hb|hb
   ·exact(p3 b hb).imp id fun⟨k,h1,h2⟩=>⟨k,by simp[h1],h2⟩
   ·exact(q2 b hb).imp id fun⟨k,h1,h2⟩=>⟨k,by simp[h1],h2⟩
  ·cases hd
end

end Go.Ax
namespace Go.Ax

variable {P : Program} {n0 : Nat} {S0 M0 : Nat → Prop} {w0 : World}
variable {st : St} {o : Oper} {a : Act} {w : World} {k : KQ} {Q' : Exit → Act → World → Prop} {g : Gh}

theorem nT{h:aE}{old:Nat→Prop}:∀{ds:List D} {F:List Nat} {vs:List Value},fT h ds F vs→(∀b∈F,old b)→bY h old ds vs
 | [],F,vs,hr,_=>by
  rw[yp]at hr;obtain⟨rfl,rfl⟩:=hr;simp[bY]
 |d::ds,F,vs,hr,hF=>by
  rw[l9]at hr;obtain⟨F1,F2,v,r,rfl,rfl,h1,h2,h3⟩:=hr;simp only[bY];exact⟨v,r,F1,rfl,h1,h2,fun b hb=>hF b (by simp[hb]),nT h3 fun b hb=>hF b (by simp[hb])⟩
theorem sS{h:aE}{us:List (Nat×U)}{g:Gh}{y:AV}:∀{ys:List AV} {vs:List Value},ah h us g (ys++[y]) vs→∃xs v,vs=xs++[v]∧ah h us g ys xs∧ab h us g y v
 | [],vs,hr=>by
  simp only[List.nil_append,ah]at hr;obtain⟨v,r,rfl,h1,rfl⟩:=hr;exact⟨[],v,rfl,by simp[ah],h1⟩
 |z::ys,vs,hr=>by
  simp only[List.cons_append,ah]at hr;obtain⟨v,r,rfl,h1,h2⟩:=hr;obtain⟨xs,x,rfl,h3,h4⟩:=sS h2;exact⟨v::xs,x,rfl,by simp only[ah];exact⟨v,xs,rfl,h1,h3⟩,h4⟩
theorem si{f:AV→Bool}:∀{l:List AV},gI f (gI f l)=gI f l
 | []=>rfl
 |v::r=>by
  simp only[gI,si (l:=r)];congr 1;cases hf:f v<;>simp[hf]
theorem U.kill_idem{f:AV→Bool}{u:U}:(u.kill f).kill f=u.kill f:=by
 cases u<;>simp[U.kill,si]

theorem ES(h:At n0 S0 M0 w0 st o a w g){f:Nat}{avs ys:List AV}{vs:List Value}{id k:Nat}{kk:St→Prop}(hrun:eZ P f→(execOp a.eval o).run P w=.ok (.enter f vs.toArray) w)(hr:ah w.heap st.us g avs vs)
  (he:avs=ys++[.pb id 0]) (hq:Hz (st.unit id) (st.unit k) P o.dst f id k ys st kk):o.wp P a w (dz n0 S0 M0 w0 st.n kk) Q':=by
 have hs:=h.sat;have hu:=h.us;have hbase:n0≤w.heap.size:=by rw[hs.base];exact hs.size
 unfold Hz at hq
 split at hq
 ·next u v k' n ow nn sz es hun1 hun2=>
  obtain⟨⟨rfl,hne,rfl,hnn⟩,ts,ds,es',hrd,hts,⟨hcl,hA⟩,hk⟩:=hq;have hid:=ay hun1;have hkm:=ay hun2;subst he;obtain⟨vy,vp,rfl,hry,hrp⟩:=sS hr;have ho1:=hu.each _ hid;have ho2:=hu.each _ hkm;simp only[cm]at ho1 ho2;obtain⟨_,b,c,e,vs0,rest,i1,i2,i3,i4,i5,i6⟩:=ho1;obtain⟨j1,j2,j3⟩:=ho2;rcases j3 with⟨_,z2,_,z4⟩|⟨b2,c2,e2,G,cs,r2,l1,l2,l3,l4,l5,l6,l7,l8⟩
  ·exact(hnn.elim z4 fun hz=>hz z2).elim
  simp only[ah]at i4;obtain⟨x,_,rfl,i4,rfl⟩:=i4;simp only[ab]at i4;obtain⟨ow',nn',sz',es0,m1,m2,m3⟩:=i4;have:=hu.uniq m1 hkm;injection this with q1 q2 q3 q4;subst q1 q2 q3 q4;have hx:x=.slice (some ⟨b2,0,none⟩) es0.length (g.cap k'):=by
   rcases m3 with⟨b3,m3,m4⟩|⟨m3,_⟩
   ·rw[l1]at m3;obtain rfl:=Option.some.inj m3;simpa using m4
   ·rw[l1]at m3;cases m3
  subst hx;simp only[ab]at hrp;obtain⟨_,_,b',_,p2,rfl⟩:=hrp;rw[i1]at p2;obtain rfl:=Option.some.inj p2;have hbφ:b∈g.φ id:=by rw[i3];simp
  have hfpi:∀x∈b::g.φ k',x∈fp g st.us:=by
   intro x hx;rcases List.mem_cons.1 hx with rfl|hx
   ·exact aH.2 ⟨_,hid,hbφ⟩
   ·exact aH.2 ⟨_,hkm,hx⟩
  have hbk:b∉g.φ k':=fun hb=>hne (bF hu.keys hu.nodup hkm hid hb hbφ);have hnd:(b::g.φ k').Nodup:=List.nodup_cons.2 ⟨hbk,bZ hu hkm⟩;have hap:∀i v,(i,v)∈st.us→i≠id→i≠k'→∀x∈g.φ i,x∉b::g.φ k':=by
   intro i v hi h1 h2 x hx hxk;rcases List.mem_cons.1 hxk with rfl|hxk
   ·exact h1 (bF hu.keys hu.nodup hi hid hx hbφ)
   ·exact h2 (bF hu.keys hu.nodup hi hkm hx hxk)
  have hSh:∀x,g.Sh x→x∉b::g.φ k':=fun x hx hxk=>(hu.sh x hx).2.2 (hfpi x hxk)
  let old:Nat→Prop:=fun x=>g.Sh x∨(ow'=true∧x<w.heap.size∧x∉b::g.φ k')
  have hL:Gm w.heap old ow' sz' es0 b (g.φ k'):=by
   refine⟨j1,j2,c,e,rest,b2,c2,e2,G,cs,r2,g.cap k',i2,by simpa[Value.cells]using i6,l2,l3,l4,l5,l6,?_⟩
   split
   ·next hw=>rw[if_pos hw]at l8;exact l8
   ·next hw=>rw[if_neg hw]at l8;exact⟨l8.1,fun x hx=>.inl (l8.2 x hx)⟩
  have hargs:bY w.heap old ds vy:=by
   obtain⟨FV,r1,r2⟩:=sK hu hry hrd;refine nT r1 fun x hx=>?_;rcases r2 x hx with r2|⟨t,ht,r2⟩
   ·exact .inl r2
   ·simp only[Bool.or_eq_false_iff,List.contains_eq_mem,decide_eq_false_iff_not,Bool.and_eq_false_iff,Bool.not_eq_false',List.isEmpty_iff]at hts;obtain⟨⟨t1,t2⟩,t3⟩:=hts;have hw:ow'=true:=by
     rcases t3 with t3|t3
     ·exact t3
     ·subst t3;cases ht
    obtain⟨v,hv⟩:=hu.live r2;exact .inr ⟨hw,hu.lt x (aH.2 ⟨_,hv,r2⟩),hap t v hv (by rintro rfl;exact t2 ht) (by rintro rfl;exact t1 ht) x r2⟩
  unfold Oper.wp;rw[hrun hcl,Oper.upon_enter];refine(hA w vy old b (g.φ k') hL hnd (fun x hx=>⟨hu.fz x (hfpi x hx),fun ho=>ho.elim (fun h1=>hSh x h1 hx) fun h1=>h1.2.2 hx⟩) hargs).mono ?_;rintro e w' ⟨⟨v,rfl⟩,e1,e2,e3,hsz,hfr,F',sh',hL',hnd',hF',hsh'⟩;obtain⟨y1,y2,c',ty',rest',b2',c2',e2',G',cs',r2',cap',y3,y4,y5,y6,y7,y8,y9,y10⟩:=hL';have fro:∀i u,(i,u)∈st.us→i≠id→i≠k'→∀x∈g.φ i,w'.heap[x]?=w.heap[x]?:=fun i u hi h1 h2 x hx=>hfr x (hu.lt x (aH.2 ⟨_,hi,hx⟩)) (hap i u hi h1 h2 x hx);have frS:∀x,g.Sh x→w'.heap[x]?=w.heap[x]?:=fun x hx=>hfr x (hu.sh x hx).1 (hSh x hx)
  let g2:Gh:=⟨fun i=>if i=k' then some b2' else g.β i,fun i=>if i=k' then F' else g.φ i,g.root,fun i=>if i=k' then cap' else g.cap i,fun x=>g.Sh x∨(ow'=false∧sh' x)⟩
  have gβ:∀i,i≠k'→g2.β i=g.β i:=fun i hi=>by simp[g2,hi]
  have gφ:∀i,i≠k'→g2.φ i=g.φ i:=fun i hi=>by simp[g2,hi]
  have gc:∀i,i≠k'→g2.cap i=g.cap i:=fun i hi=>by simp[g2,hi]
  have gβk:g2.β k'=some b2':=by simp[g2]
  have gφk:g2.φ k'=F':=by simp[g2]
  have gck:g2.cap k'=cap':=by simp[g2]
  generalize hus2:(id,U.bx 1 [.sm k' 0 es'.length])::(k',U.ar ow' (some false) sz' es')::aL id (fu k' id) (aL k' (fu k' id) st.us)=us2;have hne':id≠k':=fun e=>hne e.symm;have um1:(id,U.bx 1 [.sm k' 0 es'.length])∈us2:=by rw[←hus2];exact List.mem_cons_self
  have um2:(k',U.ar ow' (some false) sz' es')∈us2:=by rw[←hus2];exact List.mem_cons_of_mem _ List.mem_cons_self
  have of2:∀y∈us2,(y=(id,U.bx 1 [.sm k' 0 es'.length]))∨y=(k',U.ar ow' (some false) sz' es')∨(y.1≠id∧y.1≠k'∧∃u,(y.1,u)∈st.us∧y.2=u.kill (fu k' id)):=by
   intro y hy;rw[←hus2]at hy;rcases List.mem_cons.1 hy with hy|hy
   ·exact .inl hy
   ·rcases List.mem_cons.1 hy with hy|hy
    ·exact .inr (.inl hy)
    ·obtain⟨a1,u1,a2,a3⟩:=aQ hy;obtain⟨a4,u2,a5,a6⟩:=aQ a2;simp only at a4 a5 a6;exact .inr (.inr ⟨a1,a4,u2,a5,by rw[a3,a6,U.kill_idem]⟩)
  have K:gC [id] [k'] (fu k' id) w.heap w'.heap st.us us2 g g2:=by
   refine⟨?_,?_,fun i hi=>?_,?_,?_,?_⟩
   ·intro av hf;simp only[fu,Bool.or_eq_false_iff]at hf;exact⟨by simpa using hf.2,by simpa using hf.1⟩
   ·intro i u hi h1 h2;simp only[List.mem_singleton]at h1 h2;rw[←hus2];have:=cM (f:=fu k' id) (cM (f:=fu k' id) hi h2) h1;rw[U.kill_idem]at this;simp[this]
   ·simp only[List.mem_singleton]at hi;exact⟨gβ i hi,rfl,gc i hi⟩
   ·intro i u b0 hi h1 h2 hb0;simp only[List.mem_singleton]at h1 h2;exact fro i u hi h1 h2 b0 ((hu.each _ hi).block_mem hb0)
   ·intro t d FV cs0 h1 h2 hrp hok;simp only[List.mem_singleton,forall_eq]at h1 h2;have hx:∀x∈FV,w'.heap[x]?=w.heap[x]?:=by
     intro x hx;rcases hok x hx with q|⟨i,rfl,q,_⟩
     ·exact frS x q
     ·obtain⟨u,hu'⟩:=hu.live q;exact fro i u hu' (fun e=>h1 (by rw[e])) (fun e=>h2 (by rw[e])) x q
    refine⟨hrp.frame hx,fun x hx=>?_⟩;rcases hok x hx with q|⟨i,rfl,q,q'⟩
    ·exact .inl (.inl q)
    ·have hik:i≠k':=fun e=>h2 (by rw[e]);exact .inr ⟨i,rfl,by rw[gφ i hik];exact q,by rw[gβ i hik];exact q'⟩
   ·intro i hi;simp only[List.mem_singleton]at hi;subst hi;exact⟨_,_,fun v hv=>hu.uniq hv hid,um1,by simp[fA]⟩
  have hkeys:(us2.map (·.1)).Nodup:=by
   rw[←hus2];simp only[lC,List.nodup_cons,aV,List.mem_cons,List.mem_filter];refine⟨by simp[hne'],by simp,(hu.keys.filter _).filter _⟩
  have hF'f:∀x∈F',x<w.heap.size→x∈b::g.φ k':=fun x hx hlt=>(hF' x (by simp[hx])).2.1 hlt;have hlt':∀x∈b::F',x<w'.heap.size:=fun x hx=>by
   obtain⟨q,r,hq⟩:=(hF' x hx).1;exact(Array.getElem?_eq_some_iff.1 hq).1
  have fpc:∀x,x∈fp g2 us2→x∈b::F'∨∃i u,(i,u)∈st.us∧i≠id∧i≠k'∧x∈g.φ i:=by
   intro x hx;obtain⟨y,hy,hxy⟩:=aH.1 hx;rcases of2 y hy with rfl|rfl|⟨n1,n2,u,hu1,_⟩
   ·simp only[gφ id hne',i3]at hxy;exact .inl (by simp at hxy;simp[hxy])
   ·simp only[gφk]at hxy;exact .inl (by simp[hxy])
   ·rw[gφ _ n2]at hxy;exact .inr ⟨y.1,u,hu1,n1,n2,hxy⟩
  have hU:aZ w'.heap n0 S0 M0 us2 g2:=by
   refine⟨hkeys,fo hkeys ?_ ?_,?_,?_,?_,?_,?_,?_,?_⟩
   ·intro y hy;rcases of2 y hy with rfl|rfl|⟨n1,n2,u,hu1,_⟩
    ·simp only[gφ id hne',i3];simp
    ·simp only[gφk];exact(List.nodup_cons.1 hnd').2
    ·rw[gφ _ n2];exact bZ hu hu1
   ·intro y hy z hz x hxy hxz;have out:∀i u,(i,u)∈st.us→i≠id→i≠k'→x∈g.φ i→x∉b::F':=by
     intro i u hi n1 n2 hx hxf;have:=(hF' x hxf).2.1 (hu.lt x (aH.2 ⟨_,hi,hx⟩));exact hap i u hi n1 n2 x hx this
    have hbF:b∉F':=(List.nodup_cons.1 hnd').1;rcases of2 y hy with rfl|rfl|⟨n1,n2,u,hu1,_⟩<;>rcases of2 z hz with rfl|rfl|⟨n3,n4,u',hu2,_⟩
    ·rfl
    ·simp only[gφ id hne',i3,List.mem_singleton]at hxy;simp only[gφk]at hxz;subst hxy;exact absurd hxz hbF
    ·simp only[gφ id hne',i3,List.mem_singleton]at hxy;rw[gφ _ n4]at hxz;exact absurd (by simp[hxy]) (out _ _ hu2 n3 n4 hxz)
    ·simp only[gφ id hne',i3,List.mem_singleton]at hxz;simp only[gφk]at hxy;subst hxz;exact absurd hxy hbF
    ·rfl
    ·simp only[gφk]at hxy;rw[gφ _ n4]at hxz;exact absurd (by simp[hxy]) (out _ _ hu2 n3 n4 hxz)
    ·simp only[gφ id hne',i3,List.mem_singleton]at hxz;rw[gφ _ n2]at hxy;exact absurd (by simp[hxz]) (out _ _ hu1 n1 n2 hxy)
    ·simp only[gφk]at hxz;rw[gφ _ n2]at hxy;exact absurd (by simp[hxz]) (out _ _ hu1 n1 n2 hxy)
    ·rw[gφ _ n2]at hxy;rw[gφ _ n4]at hxz;exact bF (x:=(y.1,u)) (y:=(z.1,u')) hu.keys hu.nodup hu1 hu2 hxy hxz
   ·intro x hx;rcases fpc x hx with hx|⟨i,u,hi,_,_,hx⟩
    ·exact hlt' x hx
    ·have:=hu.lt x (aH.2 ⟨_,hi,hx⟩);omega
   ·intro x hx hlt;rcases fpc x hx with hx|⟨i,u,hi,_,_,hx⟩
    ·exact hu.low x (hfpi x ((hF' x hx).2.1 (by omega))) hlt
    ·exact hu.low x (aH.2 ⟨_,hi,hx⟩) hlt
   ·intro i hi;have hik:i≠k':=fun e=>hi (List.mem_map.2 ⟨_,um2,e.symm⟩);have hii:i≠id:=fun e=>hi (List.mem_map.2 ⟨_,um1,e.symm⟩);rw[gφ i hik];refine hu.dead i fun hm=>hi ?_;obtain⟨y,hy,rfl⟩:=List.mem_map.1 hm;exact List.mem_map.2 ⟨_,K.mem y.1 y.2 hy (by simpa using hii) (by simpa using hik),rfl⟩
   ·intro x hx;rcases hx with hx|⟨hw,hx⟩
    ·obtain⟨q1,q2,q3⟩:=hu.sh x hx;refine⟨by omega,q2,fun hf=>?_⟩;rcases fpc x hf with hf|⟨i,u,hi,_,_,hf⟩
     ·exact q3 (hfpi x ((hF' x hf).2.1 q1))
     ·exact q3 (aH.2 ⟨_,hi,hf⟩)
    ·obtain⟨q1,q2⟩:=hsh' x hx;have q2':x<w.heap.size→g.Sh x∨x∈b::g.φ k':=fun hlt=>by
      rcases q2 hlt with(q|⟨q,_⟩)|q
      ·exact .inl q
      ·rw[hw]at q;cases q
      ·exact .inr q
     refine⟨q1,fun hlt=>?_,fun hf=>?_⟩
     ·rcases q2' (by omega)with q|q
      ·exact(hu.sh x q).2.1 hlt
      ·exact hs.ms x hlt (hu.low x (hfpi x q) hlt)
     ·rcases fpc x hf with hf|⟨i,u,hi,n1,n2,hf⟩
      ·exact(hF' x hf).2.2 hx
      ·rcases q2' (hu.lt x (aH.2 ⟨_,hi,hf⟩))with q|q
       ·exact(hu.sh x q).2.2 (aH.2 ⟨_,hi,hf⟩)
       ·exact hap i u hi n1 n2 x hf q
   ·intro y hy;rcases of2 y hy with rfl|rfl|⟨n1,n2,u,hu1,hy2⟩
    ·simp only[cm];refine⟨by simp[aT],b,c',ty',[.slice (some ⟨b2',0,none⟩) es'.length cap'],rest',by rw[gβ id hne'];exact i1,y3,by rw[gφ id hne'];exact i3,?_,by simp[Value.cells],by simpa[Value.cells]using y4⟩;simp only[ah];refine⟨_,_,rfl,?_,rfl⟩;simp only[ab];exact⟨ow',some false,sz',es',um2,by omega,.inl ⟨b2',gβk,by rw[gck];simp⟩⟩
    ·simp only[cm];refine⟨y1,y2,.inr ⟨b2',c2',e2',G',cs',r2',gβk,y5,y6,by rw[gck];exact y7,by rw[gck];exact y8,y9,by simp,?_⟩⟩;rw[gφk]
     split
     ·next hw=>rw[if_pos hw]at y10;exact y10
     ·next hw=>rw[if_neg hw]at y10;exact⟨y10.1,fun x hx=>.inr ⟨by simpa using hw,y10.2 x hx⟩⟩
    ·rw[hy2];exact(hu.each _ hu1).keepW K hu1 (by simpa using n1) (by simpa using n2) (gφ _ n2) (fun x hx=>fro _ _ hu1 n1 n2 x hx) (fun x hx=>⟨.inl hx,frS x hx⟩)
   ·intro x hx;rcases fpc x hx with hx|⟨i,u,hi,n1,n2,hx⟩
    ·exact(hF' x hx).1
    ·obtain⟨q,r,hq⟩:=hu.fz x (aH.2 ⟨_,hi,hx⟩);exact⟨q,r,by rw[fro i u hi n1 n2 x hx];exact hq⟩
   ·refine hu.pin.mono fun i u hm hpn=>?_;rcases of2 _ hm with e0|e0|⟨n1,n2,u0,hu1,hy2⟩
    ·injection e0 with e0 e0';subst e0;exact⟨⟨_,hid,rfl⟩,gβ _ hne',gc _ hne'⟩
    ·injection e0 with e0 e0';subst e0';simp[U.isPin]at hpn
    ·simp only at hy2 n2;rw[hy2,U.kill_pin]at hpn;exact⟨⟨_,hu1,hpn⟩,gβ _ n2,gc _ n2⟩
  have hrep:∀t,ab w'.heap us2 g2 (lk (ch (fu k' id) st.env) t) (a.tmps.getD t undef):=fun t=>du K.rep (h.rep t);have hS:dH n0 S0 M0 w0 (st.updL id k' es' ow' sz') a w':=by
   refine⟨hs.ms,hs.dfr,hs.tm,hs.base,e1.trans hs.os,e2.trans hs.tape,e3.trans hs.output,Nat.le_trans hs.size hsz,?_,g2,?_,?_⟩
   ·intro x hx hM;rw[hfr x (by omega) fun hxf=>hM (hu.low x (hfpi x hxf) hx)];exact hs.old x hx hM
   ·simp only[St.updL];rw[hus2];exact hU
   ·simp only[St.updL];rw[hus2];exact hrep
  refine⟨_,?_,hk,cY hS (g:=g2) ?_ ?_ h.dst (by simp[ab])⟩
  ·cases o.dst<;>rfl
  ·simp only[St.updL];rw[hus2];exact hU
  ·simp only[St.updL];rw[hus2];exact hrep
 ·exact hq.elim

theorem Np(h:At n0 S0 M0 w0 st o a w g){t e:TypeId}{len d sz:Nat}{ps:Array (Nat×Operand)}{z:D}{L:List (Nat×X)}{f:St→Prop}(ho:o.op=.buildSlice t len ps)(ht:P.underlying t=some (.slice e))
  (hs:dv P e=some sz) (hz:dE P e=some z) (hL:ps.toList.mapM (fun(i,x)=>do pure (i,←aU P e x))=some L) (hd:o.dst=some d)
  (hq:CN (L.map fun p=>(p.1,st.ev p.2)) st d sz len f):o.wp P a w (dz n0 S0 M0 w0 st.n f) Q':=by
 obtain⟨b1,b2⟩:=ov h ps.toList L hL;have hs0:=h.sat;have hb0:n0≤w.heap.size:=by rw[hs0.base];exact hs0.size
 obtain⟨⟨q1,q0,q2⟩,hq⟩:=hq;obtain⟨ds,st',g',F,hk,T,s1,s2,s3,s4,s5⟩:=rU h.us (cI.refl h.us h.rep) (by simpa[Function.comp_def]using b1) hq;obtain⟨⟨hds,hfr⟩,hk⟩:=hk;unfold dv at hs;cases hinf:P.info? e with
 |none=>simp[hinf]at hs
 |some inf=>
  simp only[hinf,Option.map_some,oS]at hs;unfold dE at hz;rw[hinf]at hz
  dsimp only at hz
  split at hz
  ·next zv hzv=>
   have hlen:ps.toList.length=len:=by
    have:=congrArg List.length q1;have h2:=congrArg List.length b2;simp at this h2;simp[←h2,this]
   have hidx:ps.toList.map (·.1)=List.range' 0 ps.toList.length:=by
    rw[←b2,hlen,←List.range_eq_range',←q1];simp[Function.comp_def]
   generalize hvs:(ps.toList.map fun p=>a.eval p.2)=vs at s1 s5 b1;have hvl:vs.length=len:=by rw[←hvs];simpa using hlen
   have hdl:ds.length=len:=by
    have:=congrArg List.length s5;simp at this;omega
   have v2:∀v∈vs,v.cells.size=sz:=by
    intro v hv;have h1:v.cells.size∈vs.map (·.cells.size):=List.mem_map.2 ⟨v,hv,rfl⟩;rw[s5]at h1;obtain⟨x,hx,e1⟩:=List.mem_map.1 h1;rw[←e1];exact hds x hx
   have hparts:(ps.toList.map fun p=>(p.1,a.eval p.2))=(vs.zipIdx 0).map fun x=>(x.2,x.1):=by
    have:=qx (ps.toList.map fun p=>(p.1,a.eval p.2)) 0 (by simpa[Function.comp_def]using hidx);rw[←hvs];simpa[Function.comp_def]using this
   subst hs;have hrun:∃cs':Array Value,(execOp a.eval o).run P w=.ok (.value (.slice (some ⟨w.heap.size,0,none⟩) len len)) (w.alloc (.cells cs' e))∧cs'.toList=(vs.map (·.cells.toList)).flatten:=by
    by_cases h0:len=0
    ·subst h0;have hps:ps= #[]:=by apply Array.ext';simpa using List.eq_nil_of_length_eq_zero hlen
     have hv0:vs=[]:=List.eq_nil_of_length_eq_zero hvl;refine⟨#[],?_,by simp[hv0]⟩;subst hps;simp[execOp,ho,Instr.buildSlice,run_underlying ht,sizeOf,typeInfo,hinf,newRow,Instr.fill];congr 2
     try (apply Array.ext';simp)
    ·have hzlen:((Array.range (len*inf.size)).map (zv.cells[· % zv.cells.size]!)).toList.length=len*inf.size:=by simp
     obtain⟨cs',f1,f2⟩:=rL (lp:=fun i=>some (i*inf.size,inf.size)) (z:=((Array.range (len*inf.size)).map (zv.cells[· % zv.cells.size]!)).toList) (off:=fun i=>i*inf.size)
      ((vs.zipIdx 0).map fun x=>(x.2,x.1)) 0 ((Array.range (len*inf.size)).map (zv.cells[· % zv.cells.size]!)) [] (by simp) rfl (by omega)
      (by
       intro p hp;obtain⟨x,hx,rfl⟩:=List.mem_map.1 hp;have:x.1∈vs:=by
        have:=List.mem_zipIdx' hx;rw[this.2];exact List.getElem_mem _
       simp only[v2 _ this])
      (by
       rw[hzlen];have:=iT (n:=len*inf.size) vs 0 v2 (by rw[hvl];simp);simpa[Function.comp_def]using this)
     have hcs:cs'.toList=(vs.map (·.cells.toList)).flatten:=by
      have:=Ae (z:=((Array.range (len*inf.size)).map (zv.cells[· % zv.cells.size]!)).toList) vs 0 v2;rw[Nat.zero_mul]at this;rw[f2];simp only[List.nil_append,List.map_map,Function.comp_def];rw[this,List.drop_eq_nil_of_le (by rw[hzlen,hvl,Nat.zero_add];exact Nat.le_refl _),List.append_nil]
     have hpos:¬len*inf.size=0:=by
      intro h';rcases Nat.mul_eq_zero.1 h' with h'|h'<;>omega
     have hrun:=run_buildSlice (P:=P) w t e len (ps.map fun p=>(p.1,a.eval p.2)) cs' inf zv ht hinf hzv (by omega) hpos (by rw[Array.toList_map,hparts];exact f1);refine⟨cs',?_,hcs⟩;simp only[execOp,ho,Sem.run_bind,hrun]
     rfl
   obtain⟨cs',hrun,hcs⟩:=hrun;have hFl:=s1.lt;obtain⟨hU,hV⟩:=T.us.more (F:=F.filter fun b=>!(fp g' st'.us).contains b) (fun b hb=>by
    obtain⟨hb,hn⟩:=List.mem_filter.1 hb;simp only[List.contains_eq_mem,Bool.not_eq_true',decide_eq_false_iff_not]at hn;refine⟨hFl b hb,fun hlt=>?_,hn⟩;rcases s2 b hb with q|⟨q,_⟩
    ·exact(h.us.sh b q).2.1 hlt
    ·exact hs0.ms b hlt (h.us.low b q hlt))
   have hFs:∀b∈F,g'.Sh b∨b∈F.filter fun b=>!(fp g' st'.us).contains b:=fun b hb=>by
    rcases s2 b hb with q|⟨_,q⟩
    ·exact .inl ((s3 b).2 q)
    ·exact .inr (List.mem_filter.2 ⟨hb,by simpa using q⟩)
   generalize hg1:({g' with Sh:=fun b=>g'.Sh b∨b∈F.filter fun b=>!(fp g' st'.us).contains b}:Gh)=g1 at hU hV;have hFs':∀b∈F,g1.Sh b:=fun b hb=>by rw[←hg1];exact hFs b hb
   have hno:d∉st'.us.map (·.1):=cj (by simpa[St.fresh,jJ]using hfr);have hl:=s1.length;rw[D.sizeL_const hds]at hl;have hcsz:cs'.size=len*inf.size:=by
    have:cs'.size=cs'.toList.length:=by simp
    rw[this,hcs,hl,hdl]
   obtain⟨hU2,hV2⟩:=hU.addU (h':=(w.alloc (.cells cs' e)).heap) hno (u:=.ar false (some false) inf.size ds) (β:=some w.heap.size) (φ:=[w.heap.size]) (root:=undef) (cap:=len)
    (by show _ ≤ (w.heap.push _).size; simp) (fun b hb => eu (hb.elim (hU.lt b) fun hb => (hU.sh b hb).1)) (by simp) (fun b hb => by
     rw[List.mem_singleton]at hb;subst hb;exact⟨by show _<(w.heap.push _).size;simp,fun hlt=>by omega,fun hb=>Nat.lt_irrefl _ (hU.sh _ hb).1,fun hb=>Nat.lt_irrefl _ (hU.lt _ hb),cs',e,dW _ _⟩)
    (by
     intro _;simp only[cm,b9];have hlm:len≤len*inf.size:=Nat.le_mul_of_pos_right _ q0;refine⟨by rw[hdl];simp[aT];omega,hds,.inr ⟨w.heap.size,cs',e,F,(vs.map (·.cells.toList)).flatten,[],rfl,dW _ _,by rw[hcs,List.append_nil],hcsz,by omega,by have:=s1.frame (h':=(w.alloc (.cells cs' e)).heap) fun b hb=>eu (hFl b hb);exact this,by simp,?_⟩⟩;simp only[fq,if_false];exact⟨trivial,hFs'⟩) (by simp[U.isPin])
   have hTn:st'.n=st.n:=T.n;unfold Oper.wp;rw[hrun];have hold:∀b,b<n0→¬M0 b→(w.alloc (.cells cs' e)).heap[b]?=w0.heap[b]?:=fun b hb hm=>by
    have:(w.heap.push (.cells cs' e (0,0)))[b]?=w.heap[b]?:=eu (by omega);exact this.trans (hs0.old b hb hm)
   have hS:dH n0 S0 M0 w0 ⟨st.n,st'.env,(d,.ar false (some false) inf.size ds)::st'.us⟩ a (w.alloc (.cells cs' e)):=by
    refine⟨hs0.ms,hs0.dfr,hs0.tm,hs0.base,hs0.os,hs0.tape,hs0.output,?_,hold,_,hU2,fun t=>hV2 _ _ (hV _ _ (T.rep t))⟩;have:=hs0.size
    show _≤(w.heap.push _).size
    simp;omega
   have hk':f ((⟨st.n,st'.env,(d,.ar false (some false) inf.size ds)::st'.us⟩:St).set d (.sm d 0 len)):=by
    rw[←hTn];simpa[St.addUs]using hk
   refine⟨(⟨st.n,st'.env,(d,.ar false (some false) inf.size ds)::st'.us⟩:St).set d (.sm d 0 len),rfl,hk',?_⟩;have:=cY hS hU2 (fun t=>hV2 _ _ (hV _ _ (T.rep t))) (d:=o.dst) (fun j hj=>h.dst j hj) (av:=.sm d 0 len) (v:=.slice (some ⟨w.heap.size,0,none⟩) len len) (by
    simp only[ab];exact⟨false,some false,inf.size,ds,List.mem_cons_self,by omega,.inl ⟨w.heap.size,by simp[b9],by simp[b9]⟩⟩)
   rw[hd]at this⊢;exact this
  ·cases hz

theorem Hb(h:At n0 S0 M0 w0 st o a w g){f:Nat}{c:Call}{Xs:List X}{kk:St→Prop}(ho:o.op=.call c)(hc:c.callee=.value (.func f))(hl:c.args.size=c.argTypes.size)
  (hx:(c.args.toList.zip c.argTypes.toList).mapM (fun p=>aU P p.2 p.1)=some Xs) (hq:yC P o.dst f Xs st kk):o.wp P a w (dz n0 S0 M0 w0 st.n kk) Q':=by
 obtain⟨st',hE,hq⟩:=hq;have hS:=hE _ _ _ _ _ _ h.sat;have hn:st'.n=st.n:=hS.tm.symm.trans h.sat.tm;obtain⟨g',hU,hR⟩:=hS.gh;have h':At n0 S0 M0 w0 st' o a w g':=⟨hS,hU,hR,by rw[hn];exact h.dst⟩;rw[←hn];rcases hq with hq|⟨ys,id,k,he,hq⟩|hq
 ·exact G9 h' ho hc hl hx hq
 ·refine ES h' (vs:=c.args.toList.map a.eval) ?_ (nE h'.rep (by simpa using hl) hx) he hq;rintro⟨fn,h1,h2,h3⟩;have h2':¬fn.body=none:=by cases hb:fn.body<;>simp_all
  have h3' : ¬ fn.name = "runtime.NumGoroutine" := by simpa using h3
  have ea:(List.map a.eval c.args.toList).toArray=Array.map a.eval c.args:=by apply Array.ext';simp
  rw[ea];simp[execOp,ho,resolve,hc,Act.eval,Deferred.ofValue,invoke,callFunc,h1,h2',h3']
 ·refine Oper.wp_mono ?_ (DM (Q':=Q') h' ho hc hl hx hq);rintro a' w' ⟨av,us,hk,hS⟩;obtain⟨h3,h4⟩:=rV hk;exact⟨_,by cases o.dst<;>rfl,h4,hS h3⟩

end Go.Ax
namespace Go.Ax

variable {P : Program} {wv : Wv} {n0 : Nat} {S0 M0 : Nat → Prop} {w0 : World}
variable {st : St} {o : Oper} {a : Act} {w : World} {k : KQ} {Q' : Exit → Act → World → Prop} {g : Gh}

theorem ae{p:Prop}[Decidable p]{u:Unit}:(guard p:Option Unit)=some u↔p:=by
 unfold guard
 split<;>simp_all

theorem rO{n:Nat}{r:ff}(hres:kc P wv n o=some r)(hQ:r.isQ=true)(hn:st.n=n)(h:At n0 S0 M0 w0 st o a w g)(hq:uo P r st.ev st.unit k):
  o.wp P a w (cQ n0 S0 M0 w0 st o.dst k) Q'∧r.dst=o.dst:=by
 unfold kc at hres
 split at hres
 ·next x ho=>
  simp only[oD,oB,oP,oS,ae]at hres;obtain⟨d,hd,_,_,X,hX,rfl⟩:=hres;exact⟨Ls h (.inl ho) hX hq,hd.symm⟩
 ·next x ho=>
  simp only[oD,oB,oP,oS,ae]at hres;obtain⟨d,hd,_,_,X,hX,rfl⟩:=hres;exact⟨Ls h (.inr ho) hX hq,hd.symm⟩
 ·next c x y ho=>
  simp only[oD,oB,oP,oS,ae]at hres;obtain⟨d,hd,_,_,C,hC,X,hX,Y,hY,rfl⟩:=hres;exact⟨HC h ho hC hX hY hq,hd.symm⟩
 ·next e x ho=>
  simp only[oD,oB,oP,oS,ae]at hres;obtain⟨d,hd,_,_,s,hs,X,hX,rfl⟩:=hres;exact⟨NK h ho hX hq,hd.symm⟩
 ·next e ho=>
  simp only[oD,oB,oP,ae]at hres;obtain⟨d,hd,_,_,hres⟩:=hres;obtain⟨h1,h2⟩:=Iy h ho hres hq;exact⟨h1,by rw[h2];exact hd.symm⟩
 ·next t x ho=>
  simp only[oD,oB,oP,oS,ae]at hres;obtain⟨d,hd,_,_,s,hs,ag,hag,_,h1,X,hX,rfl⟩:=hres;exact⟨Vl h ho hX hs hag (fun e=>by subst e;simpa using h1) hq,hd.symm⟩
 ·next t p x ho=>
  simp only[oD,oB,oP,oS,ae]at hres;obtain⟨_,_,s,_,A,_,X,_,rfl⟩:=hres;cases wv<;>cases hQ
 ·next x ho=>
  simp only[oD,oB,oP,oS,ae]at hres;obtain⟨d,hd,_,_,X,hX,rfl⟩:=hres;exact⟨Nw h ho hX hq,hd.symm⟩
 ·next op t x y u ho=>
  simp only[oD,oB,oP,ae]at hres;obtain⟨d,hd,_,_,hres⟩:=hres
  split at hres<;>(try simp only[oB,oS]at hres)
  ·obtain⟨X,hX,Y,hY,rfl⟩:=hres;exact⟨GY h ho hX hY hq,hd.symm⟩
  ·obtain⟨X,hX,Y,hY,rfl⟩:=hres;exact⟨GY h ho hX hY hq,hd.symm⟩
  ·next ht _ _=>obtain⟨X,hX,Y,hY,rfl⟩:=hres;exact⟨GA h ho hX hY (by assumption) (.inl ⟨rfl,rfl⟩) hq,hd.symm⟩
  ·obtain⟨X,hX,Y,hY,rfl⟩:=hres;exact⟨GA h ho hX hY (by assumption) (.inr ⟨rfl,rfl⟩) hq,hd.symm⟩
  ·obtain⟨X,hX,Y,hY,rfl⟩:=hres;exact⟨D5 h ho hX hY (by assumption) (.inl ⟨rfl,rfl⟩) hq,hd.symm⟩
  ·obtain⟨X,hX,Y,hY,rfl⟩:=hres;exact⟨D5 h ho hX hY (by assumption) (.inr ⟨rfl,rfl⟩) hq,hd.symm⟩
  ·next fs ht=>
   split at hres<;>(try simp only[oB,oS]at hres)
   ·next hok=>obtain⟨X,hX,Y,hY,rfl⟩:=hres;exact⟨He h ho hX hY ht hok (.inl ⟨rfl,rfl⟩) hq,hd.symm⟩
   ·subst hres;cases hQ
  ·next fs ht=>
   split at hres<;>(try simp only[oB,oS]at hres)
   ·next hok=>obtain⟨X,hX,Y,hY,rfl⟩:=hres;exact⟨He h ho hX hY ht hok (.inr ⟨rfl,rfl⟩) hq,hd.symm⟩
   ·subst hres;cases hQ
  ·subst hres;cases hQ
 ·next op t x ho=>
  simp only[oD,oB,oP,oS,ae]at hres;obtain⟨d,hd,_,_,X,hX,rfl⟩:=hres;exact⟨UG h ho hX hq,hd.symm⟩
 ·next s t x ho=>
  simp only[oD,oB,oP,ae]at hres;obtain⟨d,hd,_,_,hres⟩:=hres
  split at hres<;>(try simp only[oB,oS]at hres)
  ·obtain⟨X,hX,rfl⟩:=hres;exact⟨Lv h ho hX (by assumption) (by assumption) hq,hd.symm⟩
  ·split at hres<;>simp only[oB,oS]at hres
   ·obtain⟨X,hX,rfl⟩:=hres;exact⟨Pq h ho hX (by assumption) (by assumption) (by assumption) hq,hd.symm⟩
   ·subst hres;cases hQ
  ·subst hres;cases hQ
 ·next t l c ho=>
  simp only[oD,oB,oP,oS,ae]at hres;obtain⟨d,hd,_,_,e,he,i,hi,z,hz,L,hL,C,hC,rfl⟩:=hres;have ht:P.underlying t=some (.slice e):=by
   unfold ky at he
   split at he
   ·next e' h'=>injection he with he;subst he;exact h'
   ·cases he
  exact⟨UE h ho ht hi rfl rfl hz hL hC hq,hd.symm⟩
 ·next t x lo hi ho=>
  simp only[oD,oB,oP,ae]at hres;obtain⟨d,hd,_,_,Lo,hLo,Hi,hHi,hres⟩:=hres;have l1:∀y,lo=some y→∃Y,Lo=some Y∧aU P 0 y=some Y:=by
   rintro y rfl;simp only[Option.map_eq_some_iff]at hLo;obtain⟨Y,h1,rfl⟩:=hLo;exact⟨Y,rfl,h1⟩
  have l2:lo=none→Lo=none:=by rintro rfl;simpa using hLo.symm
  have l3:∀y,hi=some y→∃Y,Hi=some Y∧aU P 0 y=some Y:=by
   rintro y rfl;simp only[Option.map_eq_some_iff]at hHi;obtain⟨Y,h1,rfl⟩:=hHi;exact⟨Y,rfl,h1⟩
  have l4:hi=none→Hi=none:=by rintro rfl;simpa using hHi.symm
  split at hres<;>simp only[oB,oS]at hres
  ·obtain⟨s,hs,X,hX,rfl⟩:=hres;exact⟨Mz h ho (by assumption) hs hX l1 l2 l3 l4 hq,hd.symm⟩
  ·obtain⟨X,hX,rfl⟩:=hres;exact hq.elim
  ·subst hres;cases hQ
 ·next t x lo hi mx ho=>
  simp only[oD,oB,oP,ae]at hres;obtain⟨d,hd,_,_,hres⟩:=hres
  split at hres
  ·next e ht=>
   split at hres
   ·next hc0=>
    simp only[oB,oS]at hres;obtain⟨s,hs,X,hX,rfl⟩:=hres;simp only[bA]at hc0;cases hi with
    |none=>simp at hc0
    |some hi=>exact hq.elim
   ·simp only[oS]at hres;subst hres;cases hQ
  ·simp only[oS]at hres;subst hres;cases hQ
 ·next fn first captured ho=>
  simp only[oD,oB,oP,ae]at hres;obtain⟨d,hd,_,_,hres⟩:=hres
  split at hres
  ·next f hf=>
   simp only[oB,oS]at hres;obtain⟨Xs,hXs,rfl⟩:=hres;have hf':first= #[]:=by apply Array.ext';simpa using hf
   subst hf';exact⟨LZ h ho hXs hq,hd.symm⟩
  ·simp only[oS]at hres;subst hres;cases hQ
 ·next t x i ho=>
  simp only[oD,oB,oP,ae]at hres;obtain⟨d,hd,_,_,hres⟩:=hres
  split at hres
  ·next fs ht=>
   simp only[oB,oS,ae]at hres;obtain⟨f,hf,z,hz,_,hz0,X,hX,rfl⟩:=hres;exact⟨V8 h ho hX ht hf rfl hz (by simpa using hz0) hq,hd.symm⟩
  ·cases hres
 ·next t x i ho=>
  simp only[oD,oB,oP,ae]at hres;obtain⟨d,hd,_,_,hres⟩:=hres
  split at hres
  ·next fs ht=>
   simp only[oB,oS,ae]at hres;obtain⟨f,hf,s,hs,ag,hag,_,h1,X,hX,rfl⟩:=hres;exact hq.elim
  ·cases hres
 ·next t x i ho=>
  simp only[oD,oB,oP,ae]at hres;obtain⟨d,hd,_,_,hres⟩:=hres
  split at hres
  ·next e ht=>
   simp only[oB,oS]at hres;obtain⟨s,hs,X,hX,I,hI,rfl⟩:=hres;exact⟨UC h ho hX hI ht hs hq,hd.symm⟩
  ·simp only[oS]at hres;subst hres;cases hQ
 ·next t x i ho=>
  simp only[oD,oB,oP,ae]at hres;obtain⟨d,hd,_,_,hres⟩:=hres
  split at hres
  ·next ht=>
   simp only[oB,oS]at hres;obtain⟨X,hX,I,hI,rfl⟩:=hres;exact hq.elim
  ·simp only[oS]at hres;subst hres;cases hQ
 ·next x i ho=>
  simp only[oD,oB,oP,oS,ae]at hres;obtain⟨d,hd,_,_,X,hX,rfl⟩:=hres;exact⟨NI h ho hX hq,hd.symm⟩
 ·next t l ps ho=>
  simp only[oD,oB,oP,oS,ae]at hres;obtain⟨d,hd,_,_,e,he,s,hs,z,hz,L,hL,rfl⟩:=hres;have ht:P.underlying t=some (.slice e):=by
   unfold ky at he
   split at he
   ·next e' h'=>injection he with he;subst he;exact h'
   ·cases he
  exact⟨NB h ho ht hs hz hL hq,by rw[DA];exact hd.symm⟩
 ·next t ps ho=>
  simp only[oD,oB,oP,ae]at hres;obtain⟨d,hd,_,_,hres⟩:=hres
  split at hres
  ·next fs ht=>
   simp only[oB,oS]at hres;obtain⟨places,hpl,z,hz,L,hL,rfl⟩:=hres;exact⟨OE h ho ht hpl hz hL hq,hd.symm⟩
  ·simp only[oS]at hres;subst hres;cases hQ
 ·next c ho=>
  split at hres
  ·next f hc=>
   simp only[oD,oB,ae]at hres;obtain⟨_,_,_,hl,Xs,hXs,hres⟩:=hres
   split at hres
   ·split at hres
    ·simp only[oP,oS]at hres;subst hres;cases hQ
    ·cases hres
   split at hres
   ·split at hres
    ·simp only[oP,oS]at hres;subst hres;cases hQ
    ·cases hres
   split at hres
   ·split at hres
    ·simp only[oP,oS]at hres;subst hres;cases hQ
    ·cases hres
   split at hres
   ·split at hres
    ·simp only[oP,oS]at hres;subst hres;cases hQ
    ·cases hres
   split at hres
   ·simp only[oP,oS]at hres;subst hres;cases wv<;>cases hQ
   ·simp only[oP,oS]at hres;subst hres;exact⟨DM h ho hc (by simpa using hl) hXs hq,rfl⟩
  ·next x _ hc=>
   simp only[oD,oB,oP,oS,ae]at hres;obtain⟨_,_,_,hl,X,hX,Xs,hXs,rfl⟩:=hres;cases wv with
   |yes=>cases hQ
   |no=>exact⟨vZ h ho hc hX (by simpa using hl) hXs hq,rfl⟩
   |ap=>exact⟨vZ h ho hc hX (by simpa using hl) hXs hq,rfl⟩
   |sh=>exact⟨vZ h ho hc hX (by simpa using hl) hXs hq,rfl⟩
   |sb=>exact⟨vZ h ho hc hX (by simpa using hl) hXs hq,rfl⟩
  ·next hc=>
   simp only[oD,oB,ae]at hres;obtain⟨d,hd,_,_,hres⟩:=hres
   split at hres
   ·next x t ha hta=>
    have ha':c.args= #[x]:=by apply Array.ext';simpa using ha
    have hta':c.argTypes= #[t]:=by apply Array.ext';simpa using hta
    split at hres<;>simp only[oB,oP,oS]at hres
    ·obtain⟨X,hX,rfl⟩:=hres;exact hq.elim
    ·obtain⟨X,hX,rfl⟩:=hres;exact⟨MH h ho hc ha' hta' hX (by assumption) hq,hd.symm⟩
    ·subst hres;cases hQ
   ·cases hres
  ·next hc=>
   simp only[oD,oB,ae]at hres;obtain⟨d,hd,_,_,hres⟩:=hres
   split at hres
   ·next x y t u ha hta=>
    have ha':c.args= #[x,y]:=by apply Array.ext';simpa using ha
    simp only[oB,oP,oS]at hres;obtain⟨X,hX,Y,hY,rfl⟩:=hres;exact hq.elim
   ·cases hres
  ·next hc=>
   simp only[oD,oB,ae]at hres;obtain⟨d,hd,_,_,hres⟩:=hres
   split at hres
   ·next x y t u ha hta=>
    have ha':c.args= #[x,y]:=by apply Array.ext';simpa using ha
    simp only[oB,oP,oS]at hres;obtain⟨X,hX,Y,hY,rfl⟩:=hres;exact hq.elim
   ·cases hres
  ·next hc=>
   simp only[oD,oB,ae]at hres;obtain⟨d,hd,_,_,hres⟩:=hres
   split at hres
   ·next x y t u ha hta=>
    split at hres<;>simp only[oB,oP,oS,ae]at hres
    ·next e _ ht _=>
     obtain⟨i,hi,_,htu,z,hz,X,hX,Y,hY,rfl⟩:=hres;cases wv with
     |yes=>cases hQ
     |no=>cases hQ
     |sh=>cases hQ
     |sb=>
      by_cases h3:i.size=3
      ·rw[n9,if_pos h3]at hQ;cases hQ
      ·rw[n9,if_neg h3]at hQ;cases hQ
     |ap=>
      have ha':c.args= #[x,y]:=by apply Array.ext';simpa using ha
      have hta':c.argTypes= #[t,u]:=by apply Array.ext';simpa using hta
      have htu:t=u:=by simpa using htu
      subst htu;exact hq.elim
    ·subst hres;cases hQ
   ·cases hres
  ·next hc=>
   simp only[oD,oB,ae]at hres;obtain⟨_,_,hres⟩:=hres
   split at hres
   ·next x y t u ha hta=>
    have ha':c.args= #[x,y]:=by apply Array.ext';simpa using ha
    have hta':c.argTypes= #[t,u]:=by apply Array.ext';simpa using hta
    split at hres<;>simp only[oB,oP,oS,ae]at hres
    ·obtain⟨s,hs,_,htu,X,hX,Y,hY,rfl⟩:=hres;cases hQ
    ·subst hres;cases hQ
   ·cases hres
  ·simp only[oP,oS]at hres;subst hres;cases hQ
 ·simp only[oP,oS]at hres;subst hres;cases hQ

end Go.Ax
namespace Go.Ax

variable {P : Program} {wv : Wv} {n0 : Nat} {S0 M0 : Nat → Prop} {w0 : World}
variable {st : St} {o : Oper} {a : Act} {w : World} {k : KQ} {Q' : Exit → Act → World → Prop} {g : Gh}

theorem Fo{n:Nat}{r:ff}(hres:kc P wv n o=some r)(hQ:r.isQ=false)(h:At n0 S0 M0 w0 st o a w g){f:St→Prop}(hq:Ff P r st f):
  o.wp P a w (dz n0 S0 M0 w0 st.n f) Q':=by
 unfold kc at hres
 split at hres
 ·next x ho=>
  simp only[oD,oB,oP,oS,ae]at hres;obtain⟨d,hd,_,_,X,hX,rfl⟩:=hres;cases hQ
 ·next x ho=>
  simp only[oD,oB,oP,oS,ae]at hres;obtain⟨d,hd,_,_,X,hX,rfl⟩:=hres;cases hQ
 ·next c x y ho=>
  simp only[oD,oB,oP,oS,ae]at hres;obtain⟨d,hd,_,_,C,hC,X,hX,Y,hY,rfl⟩:=hres;cases hQ
 ·next e x ho=>
  simp only[oD,oB,oP,oS,ae]at hres;obtain⟨d,hd,_,_,s,hs,X,hX,rfl⟩:=hres;cases hQ
 ·next e ho=>
  simp only[oD,oB,oP,ae]at hres;obtain⟨d,hd,_,_,hres⟩:=hres;rw[Cr hres]at hQ;cases hQ
 ·next t x ho=>
  simp only[oD,oB,oP,oS,ae]at hres;obtain⟨d,hd,_,_,s,hs,ag,hag,_,h1,X,hX,rfl⟩:=hres;cases hQ
 ·next t p x ho=>
  simp only[oD,oB,oP,oS,ae]at hres;obtain⟨_,hd,s,hs,A,hA,X,hX,rfl⟩:=hres;cases wv with
  |sh=>exact GL h ho (by simpa using hd) hA hX hs hq
  |sb=>exact GL h ho (by simpa using hd) hA hX hs hq
  |_=>exact OZ h ho (by simpa using hd) hA hX hs hq
 ·next x ho=>
  simp only[oD,oB,oP,oS,ae]at hres;obtain⟨d,hd,_,_,X,hX,rfl⟩:=hres;cases hQ
 ·next op t x y u ho=>
  simp only[oD,oB,oP,ae]at hres;obtain⟨d,hd,_,_,hres⟩:=hres
  split at hres<;>(try simp only[oB,oS]at hres)
  ·obtain⟨X,hX,Y,hY,rfl⟩:=hres;cases hQ
  ·obtain⟨X,hX,Y,hY,rfl⟩:=hres;cases hQ
  ·next ht _ _=>obtain⟨X,hX,Y,hY,rfl⟩:=hres;cases hQ
  ·obtain⟨X,hX,Y,hY,rfl⟩:=hres;cases hQ
  ·obtain⟨X,hX,Y,hY,rfl⟩:=hres;cases hQ
  ·obtain⟨X,hX,Y,hY,rfl⟩:=hres;cases hQ
  ·split at hres<;>(try simp only[oB,oS]at hres)
   ·obtain⟨X,hX,Y,hY,rfl⟩:=hres;cases hQ
   ·subst hres;exact hq.elim
  ·split at hres<;>(try simp only[oB,oS]at hres)
   ·obtain⟨X,hX,Y,hY,rfl⟩:=hres;cases hQ
   ·subst hres;exact hq.elim
  ·subst hres;exact hq.elim
 ·next op t x ho=>
  simp only[oD,oB,oP,oS,ae]at hres;obtain⟨d,hd,_,_,X,hX,rfl⟩:=hres;cases hQ
 ·next s t x ho=>
  simp only[oD,oB,oP,ae]at hres;obtain⟨d,hd,_,_,hres⟩:=hres
  split at hres<;>(try simp only[oB,oS]at hres)
  ·obtain⟨X,hX,rfl⟩:=hres;cases hQ
  ·split at hres<;>simp only[oB,oS]at hres
   ·obtain⟨X,hX,rfl⟩:=hres;cases hQ
   ·subst hres;exact hq.elim
  ·subst hres;exact hq.elim
 ·next t l c ho=>
  simp only[oD,oB,oP,oS,ae]at hres;obtain⟨d,hd,_,_,e,he,i,hi,z,hz,L,hL,C,hC,rfl⟩:=hres;have ht:P.underlying t=some (.slice e):=by
   unfold ky at he
   split at he
   ·next e' h'=>injection he with he;subst he;exact h'
   ·cases he
  cases hQ
 ·next t x lo hi ho=>
  simp only[oD,oB,oP,ae]at hres;obtain⟨d,hd,_,_,Lo,hLo,Hi,hHi,hres⟩:=hres;have l1:∀y,lo=some y→∃Y,Lo=some Y∧aU P 0 y=some Y:=by
   rintro y rfl;simp only[Option.map_eq_some_iff]at hLo;obtain⟨Y,h1,rfl⟩:=hLo;exact⟨Y,rfl,h1⟩
  have l2:lo=none→Lo=none:=by rintro rfl;simpa using hLo.symm
  have l3:∀y,hi=some y→∃Y,Hi=some Y∧aU P 0 y=some Y:=by
   rintro y rfl;simp only[Option.map_eq_some_iff]at hHi;obtain⟨Y,h1,rfl⟩:=hHi;exact⟨Y,rfl,h1⟩
  have l4:hi=none→Hi=none:=by rintro rfl;simpa using hHi.symm
  split at hres<;>simp only[oB,oS]at hres
  ·obtain⟨s,hs,X,hX,rfl⟩:=hres;cases hQ
  ·obtain⟨X,hX,rfl⟩:=hres;cases hQ
  ·subst hres;exact hq.elim
 ·next t x lo hi mx ho=>
  simp only[oD,oB,oP,ae]at hres;obtain⟨d,hd,_,_,hres⟩:=hres
  split at hres
  ·next e ht=>
   split at hres
   ·next hc0=>
    simp only[oB,oS]at hres;obtain⟨s,hs,X,hX,rfl⟩:=hres;simp only[bA]at hc0;cases hi with
    |none=>simp at hc0
    |some hi=>cases hQ
   ·simp only[oS]at hres;subst hres;exact hq.elim
  ·simp only[oS]at hres;subst hres;exact hq.elim
 ·next fn first captured ho=>
  simp only[oD,oB,oP,ae]at hres;obtain⟨d,hd,_,_,hres⟩:=hres
  split at hres
  ·next f hf=>
   simp only[oB,oS]at hres;obtain⟨Xs,hXs,rfl⟩:=hres;have hf':first= #[]:=by apply Array.ext';simpa using hf
   subst hf';cases hQ
  ·simp only[oS]at hres;subst hres;exact hq.elim
 ·next t x i ho=>
  simp only[oD,oB,oP,ae]at hres;obtain⟨d,hd,_,_,hres⟩:=hres
  split at hres
  ·next fs ht=>
   simp only[oB,oS,ae]at hres;obtain⟨f,hf,z,hz,_,hz0,X,hX,rfl⟩:=hres;cases hQ
  ·cases hres
 ·next t x i ho=>
  simp only[oD,oB,oP,ae]at hres;obtain⟨d,hd,_,_,hres⟩:=hres
  split at hres
  ·next fs ht=>
   simp only[oB,oS,ae]at hres;obtain⟨f,hf,s,hs,ag,hag,_,h1,X,hX,rfl⟩:=hres;cases hQ
  ·cases hres
 ·next t x i ho=>
  simp only[oD,oB,oP,ae]at hres;obtain⟨d,hd,_,_,hres⟩:=hres
  split at hres
  ·next e ht=>
   simp only[oB,oS]at hres;obtain⟨s,hs,X,hX,I,hI,rfl⟩:=hres;cases hQ
  ·simp only[oS]at hres;subst hres;exact hq.elim
 ·next t x i ho=>
  simp only[oD,oB,oP,ae]at hres;obtain⟨d,hd,_,_,hres⟩:=hres
  split at hres
  ·next ht=>
   simp only[oB,oS]at hres;obtain⟨X,hX,I,hI,rfl⟩:=hres;cases hQ
  ·simp only[oS]at hres;subst hres;exact hq.elim
 ·next x i ho=>
  simp only[oD,oB,oP,oS,ae]at hres;obtain⟨d,hd,_,_,X,hX,rfl⟩:=hres;cases hQ
 ·next t l ps ho=>
  simp only[oD,oB,oP,oS,ae]at hres;obtain⟨d,hd,_,_,e,he,s,hs,z,hz,L,hL,rfl⟩:=hres
  by_cases hsb:wv=.sb∧s=3
  ·obtain⟨rfl,rfl⟩:=hsb;have ht:P.underlying t=some (.slice e):=by
    unfold ky at he
    split at he
    ·next e' h'=>injection he with he;subst he;exact h'
    ·cases he
   exact Np h ho ht hs hz hL hd hq
  ·rw[Da hsb]at hQ;cases hQ
 ·next t ps ho=>
  simp only[oD,oB,oP,ae]at hres;obtain⟨d,hd,_,_,hres⟩:=hres
  split at hres
  ·next fs ht=>
   simp only[oB,oS]at hres;obtain⟨_,_,z,hz,L,hL,rfl⟩:=hres;cases hQ
  ·simp only[oS]at hres;subst hres;exact hq.elim
 ·next c ho=>
  split at hres
  ·next f hc=>
   simp only[oD,oB,ae]at hres;obtain⟨_,_,_,hl,Xs,hXs,hres⟩:=hres
   split at hres
   ·split at hres
    ·next d x y hd=>
     simp only[oP,oS]at hres;subst hres;exact hq.elim
    ·cases hres
   split at hres
   ·split at hres
    ·next d x y hd=>
     simp only[oP,oS]at hres;subst hres;exact hq.elim
    ·cases hres
   split at hres
   ·split at hres
    ·next x r=>
     simp only[oP,oS]at hres;subst hres;exact hq.elim
    ·cases hres
   split at hres
   ·split at hres
    ·next d x hd=>
     simp only[oP,oS]at hres;subst hres;exact hq.elim
    ·cases hres
   split at hres
   ·simp only[oP,oS]at hres;subst hres;cases wv with
    |sh=>exact Hb h ho hc (by simpa using hl) hXs hq
    |sb=>exact Hb h ho hc (by simpa using hl) hXs hq
    |_=>exact G9 h ho hc (by simpa using hl) hXs hq
   ·simp only[oP,oS]at hres;subst hres;cases hQ
  ·next x _ hc=>
   simp only[oD,oB,oP,oS,ae]at hres;obtain⟨_,_,_,hl,X,hX,Xs,hXs,rfl⟩:=hres;cases wv with
   |yes=>exact hq.elim
   |no=>cases hQ
   |ap=>cases hQ
   |sh=>cases hQ
   |sb=>cases hQ
  ·next hc=>
   simp only[oD,oB,ae]at hres;obtain⟨d,hd,_,_,hres⟩:=hres
   split at hres
   ·next x t ha hta=>
    have ha':c.args= #[x]:=by apply Array.ext';simpa using ha
    have hta':c.argTypes= #[t]:=by apply Array.ext';simpa using hta
    split at hres<;>simp only[oB,oP,oS]at hres
    ·obtain⟨X,hX,rfl⟩:=hres;cases hQ
    ·obtain⟨X,hX,rfl⟩:=hres;cases hQ
    ·subst hres;exact hq.elim
   ·cases hres
  ·next hc=>
   simp only[oD,oB,ae]at hres;obtain⟨d,hd,_,_,hres⟩:=hres
   split at hres
   ·next x y t u ha hta=>
    have ha':c.args= #[x,y]:=by apply Array.ext';simpa using ha
    simp only[oB,oP,oS]at hres;obtain⟨X,hX,Y,hY,rfl⟩:=hres;cases hQ
   ·cases hres
  ·next hc=>
   simp only[oD,oB,ae]at hres;obtain⟨d,hd,_,_,hres⟩:=hres
   split at hres
   ·next x y t u ha hta=>
    have ha':c.args= #[x,y]:=by apply Array.ext';simpa using ha
    simp only[oB,oP,oS]at hres;obtain⟨X,hX,Y,hY,rfl⟩:=hres;cases hQ
   ·cases hres
  ·next hc=>
   simp only[oD,oB,ae]at hres;obtain⟨d,hd,_,_,hres⟩:=hres
   split at hres
   ·next s x t u ha hta=>
    have ha':c.args= #[s,x]:=by apply Array.ext';simpa using ha
    have hta':c.argTypes= #[t,u]:=by apply Array.ext';simpa using hta
    split at hres<;>simp only[oB,oP,oS,ae]at hres
    ·obtain⟨i,hi,_,htu,z,hz,X,hX,Y,hY,rfl⟩:=hres;have htu:t=u:=by simpa using htu
     subst htu;cases wv with
     |yes=>exact EY h ho hc ha' hta' (by assumption) hi hz hX hY hd hq
     |no=>exact EY h ho hc ha' hta' (by assumption) hi hz hX hY hd hq
     |ap=>cases hQ
     |sh=>exact GX h ho hc ha' hta' (by assumption) hi hz hX hY hd hq
     |sb=>
      by_cases h3:i.size=3
      ·rw[n9,if_pos h3]at hq;exact GX h ho hc ha' hta' (by assumption) hi hz hX hY hd hq
      ·rw[n9,if_neg h3]at hq;exact EY h ho hc ha' hta' (by assumption) hi hz hX hY hd hq
    ·subst hres;exact hq.elim
   ·cases hres
  ·next hc=>
   simp only[oD,oB,ae]at hres;obtain⟨_,_,hres⟩:=hres
   split at hres
   ·next x y t u ha hta=>
    have ha':c.args= #[x,y]:=by apply Array.ext';simpa using ha
    have hta':c.argTypes= #[t,u]:=by apply Array.ext';simpa using hta
    split at hres<;>simp only[oB,oP,oS,ae]at hres
    ·obtain⟨s,hs,_,htu,X,hX,Y,hY,rfl⟩:=hres;have htu:t=u:=by simpa using htu
     subst htu;exact hq.elim
    ·subst hres;exact hq.elim
   ·cases hres
  ·simp only[oP,oS]at hres;subst hres;exact hq.elim
 ·simp only[oP,oS]at hres;subst hres;exact hq.elim

def fX(n0:Nat)(S0 M0:Nat→Prop)(w0:World)(n:Nat)(K:Exit→St→Prop)(e:Exit)(a:Act)(w:World):Prop:=∃st,st.n=n∧K e st∧dH n0 S0 M0 w0 st a w

theorem uY{st:St}{us:List (Nat×U)}{d:Option Nat}{av:AV}{f:St→Prop}(hk:kq f st d av us):(us=[]∨st.fresh us=true)∧f ((st.addUs us).setO d av):=by
 cases us with
 |nil=>rw[dL];exact⟨.inl rfl,hk⟩
 |cons x us=>exact⟨.inr hk.1,hk.2⟩

theorem xw{r:ff}{f:St→Prop}(hres:kc P wv st.n o=some r)(hs:dH n0 S0 M0 w0 st a w)(hd:∀i,o.dst=some i→i<st.n)(hq:kr P r st f):o.wp P a w (dz n0 S0 M0 w0 st.n f) Q':=by
 obtain⟨g,hu,hv⟩:=hs.gh;have h:At n0 S0 M0 w0 st o a w g:=⟨hs,hu,hv,hd⟩;unfold kr at hq;cases hQ:r.isQ with
 |true=>
  rw[hQ,if_pos rfl]at hq;obtain⟨h1,h2⟩:=rO (Q':=Q') hres hQ rfl h hq;refine Oper.wp_mono ?_ h1;rintro a' w' ⟨av,us,hk,hS⟩;obtain⟨h3,h4⟩:=uY hk;rw[h2]at h4;exact⟨_,by cases o.dst<;>rfl,h4,hS h3⟩
 |false=>
  rw[hQ]at hq;exact Fo hres hQ h (by simpa using hq)

theorem jL{ops:Array Oper}{tm:Array Value}{j t:Nat}{p:Oper}{c:Bool}(hp:ops[j]?=some p)(hd:p.dst=some t)(hv:tm.getD t undef=.bool c):yielded ops tm j=some c:=by
 have:tm[t]?=some (.bool c):=by
  rw[Array.getD_eq_getD_getElem?]at hv;cases h:tm[t]? with
  |none=>rw[h]at hv;cases hv
  |some x=>rw[h]at hv;simpa using hv
 simp[yielded,hp,hd,this]

theorem gX{h:aE}{us:List (Nat×U)}{g:Gh}:ab h us g (.tup []) undef:=by
 simp only[ab];exact⟨#[],rfl,by simp[ah]⟩
theorem ma{h:aE}{us:List (Nat×U)}{g:Gh}{v:Value}(hr:ab h us g (.tup []) v):v=undef:=by
 simp only[ab]at hr;obtain⟨xs,rfl,h2⟩:=hr;simp only[ah]at h2;have:xs= #[]:=by apply Array.ext';simpa using h2
 rw[this]
 rfl
theorem gl{ops:Array Oper}{tm:Array Value}{j t:Nat}{p:Oper}(hp:ops[j]?=some p)(hd:p.dst=some t)(hv:tm.getD t undef=undef):yielded ops tm j=none:=by
 unfold yielded;rw[hp,Option.bind_some,hd,Option.bind_some];cases h:tm[t]? with
 |none=>rfl
 |some v=>
  have:v=undef:=by rw[←hv,Array.getD_eq_getD_getElem?,h];rfl
  rw[this]
  rfl

theorem kW{ops:Array Oper}{R:RO}{f:St→Prop}{st:St}{o:Oper}{a:Act}{w:World}{Q':Exit→Act→World→Prop}(hres:db P wv st.n ops o=some R)(hs:dH n0 S0 M0 w0 st a w)
  (hq:match R.g with|none=>kr P R.op st f|some (t,b)=>iy (st.get t) b (kr P R.op st f) (f (st.setO R.op.dst (.tup [])))):
  (Region.wanted o (yielded ops a.tmps)=true→o.wp P a w (dz n0 S0 M0 w0 st.n f) Q')∧(Region.wanted o (yielded ops a.tmps)=false→dz n0 S0 M0 w0 st.n f (a.put o.dst undef) w):=by
 unfold db at hres;simp only[oD,oB,ae]at hres;obtain⟨r,hr,_,h1,_,h2,hres⟩:=hres;have hd:∀i,o.dst=some i→i<st.n:=by
  intro i hi;rw[hi]at h2;simpa using h2
 split at hres
 ·next hg=>
  simp only[oP,oS]at hres;subst hres;simp only at hq;refine⟨fun _=>xw hr hs hd hq,fun hw=>?_⟩;simp[Region.wanted,hg]at hw
 ·next j b hg=>
  simp only[oB,oP,oS]at hres;obtain⟨p,hp,t,ht,rfl⟩:=hres;simp only at hq;unfold iy at hq
  split at hq
  ·next t1 c hc=>
   obtain⟨g,hu,hv⟩:=hs.gh;have hvt:=hv t;have hc':lk st.env t=.im t1 (.sc (.bool c)):=hc;rw[hc']at hvt;have hval:=c9 hvt;have hy:=jL (ops:=ops) hp ht hval;have hw:Region.wanted o (yielded ops a.tmps)=(some c==some b):=by simp[Region.wanted,hg,hy]
   rw[hw];refine⟨fun e=>xw hr hs hd (hq.1 (by simpa using e)),fun e=>?_⟩;have hcb:c=!b:=by cases c<;>cases b<;>simp_all
   have:=hq.2 hcb;rw[h1]at this;exact⟨_,by cases o.dst<;>rfl,this,cY hs hu hv hd gX⟩
  ·next hc=>
   obtain⟨g,hu,hv⟩:=hs.gh;have hvt:=hv t;have hc':lk st.env t=.tup []:=hc;rw[hc']at hvt;have hw:Region.wanted o (yielded ops a.tmps)=false:=by simp[Region.wanted,hg,gl (ops:=ops) hp ht (ma hvt)]
   rw[hw];refine⟨fun e=>(by cases e),fun _=>?_⟩;rw[h1]at hq;exact⟨_,by cases o.dst<;>rfl,hq,cY hs hu hv hd gX⟩
  ·exact hq.elim

theorem qW{ops:Array Oper}{K:Exit→St→Prop}:∀(l:List Oper)(R:List RO)(i:Nat)(st:St)(a:Act)(w:World),(∀j,l[j]?=ops[i+j]?)→l.mapM (db P wv st.n ops)=some R→dH n0 S0 M0 w0 st a w→
  a8 P R st K→wpOps P ops (fX n0 S0 M0 w0 st.n K) (List.range' i l.length) a w
 | [],R,i,st,a,w,_,hR,hs,hq=>by
  simp at hR;subst hR;exact⟨st,rfl,hq,hs⟩
 |o::l,R,i,st,a,w,hl,hR,hs,hq=>by
  simp only[List.mapM_cons,oD,oB,oP,oS]at hR;obtain⟨r,hr,R',hR',rfl⟩:=hR;have h0:ops[i]?=some o:=by simpa using(hl 0).symm
  have hl':∀j,l[j]?=ops[i+1+j]?:=fun j=>by have:=hl (j+1);simpa[Nat.add_assoc,Nat.add_comm 1 j]using this
  simp only[lK,List.range'_succ,wpOps,h0];have hq':match r.g with|none=>kr P r.op st (cV P R' K)|some (t,b)=>iy (st.get t) b (kr P r.op st (cV P R' K)) (cV P R' K (st.setO r.op.dst (.tup []))):=by
   obtain⟨g,op⟩:=r;cases g with
   |none=>exact hq
   |some x=>exact hq
  have key:=kW (Q':=fX n0 S0 M0 w0 st.n K) hr hs hq';have hn:∀{a':Act} {w':World},dz n0 S0 M0 w0 st.n (cV P R' K) a' w'→wpOps P ops (fX n0 S0 M0 w0 st.n K) (List.range' (i+1) l.length) a' w':=by
   rintro a' w' ⟨st',hnn,hf,hs'⟩;rw[←hnn];exact qW l R' (i+1) st' a' w' hl' (by rw[hnn];exact hR') hs' hf
  cases hw:Region.wanted o (yielded ops a.tmps)with
  |true=>
   simp only[if_true];exact .inl (Oper.wp_mono (fun a' w' h=>hn h) (key.1 hw))
  |false=>
   simp only[fq,if_false];exact hn (key.2 hw)

end Go.Ax
namespace Go.Ax

variable {P : Program}

theorem Ft{r:ff}{ev:X→AV}{un:Nat→Option U}{k:KQ}(h:uo P r ev un k):∃av us,k av us∧uo P r ev un (fun v u=>v=av∧u=us):=by
 cases r<;>simp only[uo]at h⊢
 case mv=>exact⟨_,_,h,rfl,rfl⟩
 case pick d c x y=>
  unfold jn at h⊢
  split at h
  ·next t b e=>
   simp only;cases b with
   |true=>exact⟨_,_,h.1 rfl,fun _=>⟨rfl,rfl⟩,by simp⟩
   |false=>exact⟨_,_,h.2 rfl,by simp,fun _=>⟨rfl,rfl⟩⟩
  ·exact h.elim
 case box=>unfold pJ at h⊢;split at h<;>first|exact h.elim|exact⟨_,_,h.2,h.1,rfl,rfl⟩
 case zer=>exact⟨_,_,h.2,h.1,rfl,rfl⟩
 case ld=>
  unfold vF at h⊢
  split at h
  ·exact⟨_,_,h.2,h.1,rfl,rfl⟩
  ·exact⟨_,_,h.2,h.1,rfl,rfl⟩
  ·unfold G7 at h⊢
   split at h
   ·exact⟨_,_,h.2,h.1,rfl,rfl⟩
   ·exact h.elim
  ·unfold Hc at h⊢
   split at h
   ·unfold zQ at h⊢
    split at h
    ·exact⟨_,_,h.2,h.1,rfl,rfl⟩
    ·exact h.elim
   ·exact h.elim
  ·unfold Hd at h⊢
   split at h
   ·obtain⟨h0,h⟩:=h;unfold rb at h⊢
    split at h
    ·next hc=>simp only[if_pos hc];exact⟨_,_,h,h0,rfl,rfl⟩
    ·next hc=>
     simp only[if_neg hc];unfold C0 at h⊢
     split at h
     ·obtain⟨h1,h⟩:=h
      split at h
      ·next ha=>simp only[if_pos ha];exact⟨_,_,h,h0,h1,rfl,rfl⟩
      ·next ha=>simp only[if_neg ha];exact⟨_,_,h,h0,h1,rfl,rfl⟩
     ·exact h.elim
   ·exact h.elim
  ·exact h.elim
 case nck=>unfold kZ at h⊢;split at h<;>first|exact h.elim|exact⟨_,_,h,rfl,rfl⟩
 case bin=>
  unfold xT Fi at h⊢
  split at h
  ·simp only;unfold xU at h⊢
   split at h
   ·simp only
    split at h<;>(try simp only)<;>first|exact⟨_,_,h.2.2,h.1,h.2.1,rfl,rfl⟩|exact⟨_,_,h.2,h.1,rfl,rfl⟩
   ·simp only
    split at h<;>(try simp only)<;>first|exact⟨_,_,h.2,h.1,rfl,rfl⟩|exact⟨_,_,h,rfl,rfl⟩|exact h.elim
   ·exact h.elim
  ·exact h.elim
 case beq=>unfold xI at h⊢;split at h<;>first|exact h.elim|exact⟨_,_,h,rfl,rfl⟩
 case snil=>unfold qU at h⊢;split at h<;>first|exact h.elim|exact⟨_,_,h,rfl,rfl⟩
 case ceq=>
  unfold xO at h⊢
  split at h
  ·obtain⟨r,h1,h2⟩:=yB h.2;exact⟨_,_,h1,h.1,h2 _ ⟨rfl,rfl⟩⟩
  ·exact h.elim
 case un=>unfold Fl at h⊢;split at h<;>first|exact h.elim|exact⟨_,_,h,rfl,rfl⟩
 case cvt=>unfold xz at h⊢;split at h<;>first|exact h.elim|exact⟨_,_,h,rfl,rfl⟩
 case mk=>unfold G8 at h⊢;split at h<;>first|exact h.elim|exact⟨_,_,h.2,h.1,rfl,rfl⟩
 case slc=>
  unfold sZ at h⊢
  split at h
  ·obtain⟨h1,h⟩:=h;unfold AA at h⊢
   split at h
   ·exact⟨_,_,h.2,h1,h.1,rfl,rfl⟩
   ·exact h.elim
  ·unfold wO at h⊢
   split at h
   ·obtain⟨h1,h⟩:=h;unfold rC at h⊢
    split at h
    ·exact⟨_,_,h.2,h1,h.1,rfl,rfl⟩
    ·exact h.elim
   ·exact h.elim
  ·unfold xb at h⊢
   split at h
   ·unfold zh at h⊢
    split at h
    ·obtain⟨h1,h⟩:=h;unfold rC at h⊢
     split at h
     ·exact⟨_,_,h.2,h1,h.1,rfl,rfl⟩
     ·exact h.elim
    ·exact h.elim
   ·exact h.elim
  ·exact h.elim
 case fa=>
  unfold yL at h⊢
  split at h
  ·exact⟨_,_,h.2,h.1,rfl,rfl⟩
  ·exact⟨_,_,h.2,h.1,rfl,rfl⟩
  ·unfold FH at h⊢
   split at h
   ·exact⟨_,_,h.2,h.1,rfl,rfl⟩
   ·exact h.elim
  ·exact⟨_,_,h.2,h.1,rfl,rfl⟩
  ·exact⟨_,_,h,rfl,rfl⟩
  ·exact h.elim
 case ia=>
  unfold xf at h⊢
  split at h
  ·try simp only
   split at h
   ·obtain⟨h1,h⟩:=h;unfold zJ at h⊢
    split at h
    ·exact⟨_,_,h.2,h1,h.1,rfl,rfl⟩
    ·exact h.elim
   ·obtain⟨h1,h⟩:=h;unfold zJ at h⊢
    split at h
    ·exact⟨_,_,h.2,h1,h.1,rfl,rfl⟩
    ·exact h.elim
   ·unfold Gj at h⊢
    split at h
    ·unfold GB at h⊢
     split at h
     ·exact⟨_,_,h.2,h.1,rfl,rfl⟩
     ·exact h.elim
    ·exact h.elim
   ·unfold C4 at h⊢
    split at h
    ·exact⟨_,_,h.2,h.1,rfl,rfl⟩
    ·exact⟨_,_,h.2,h.1,rfl,rfl⟩
    ·exact h.elim
  ·exact h.elim
 case len=>
  unfold jP at h⊢
  split at h
  ·exact⟨_,_,h,rfl,rfl⟩
  ·exact⟨_,_,h,rfl,rfl⟩
  ·exact⟨_,_,h,rfl,rfl⟩
  ·unfold rB at h⊢
   split at h
   ·exact⟨_,_,h,rfl,rfl⟩
   ·exact⟨_,_,h,rfl,rfl⟩
   ·exact h.elim
 case call=>
  rcases h with⟨ds,es,r,h1,h2,h3,h4⟩|⟨h0,t,kk,B,C,h1,h2,h3,h4,h5⟩
  ·exact⟨_,_,h4,.inl ⟨ds,es,r,h1,h2,h3,rfl,rfl⟩⟩
  ·exact⟨_,_,h5,.inr ⟨h0,t,kk,B,C,h1,h2,h3,h4,rfl,rfl⟩⟩
 case calv=>
  unfold kD at h⊢
  split at h
  ·rcases h with⟨ds,es,r,h1,h2,h3,h4⟩|⟨h0,t,kk,B,C,h1,h2,h3,h4,h5⟩
   ·exact⟨_,_,h4,.inl ⟨ds,es,r,h1,h2,h3,rfl,rfl⟩⟩
   ·exact⟨_,_,h5,.inr ⟨h0,t,kk,B,C,h1,h2,h3,h4,rfl,rfl⟩⟩
  ·rcases h with⟨ds,es,r,h1,h2,h3,h4⟩|⟨h0,t,kk,B,C,h1,h2,h3,h4,h5⟩
   ·exact⟨_,_,h4,.inl ⟨ds,es,r,h1,h2,h3,rfl,rfl⟩⟩
   ·exact⟨_,_,h5,.inr ⟨h0,t,kk,B,C,h1,h2,h3,h4,rfl,rfl⟩⟩
  ·rcases h with⟨ds,es,r,h1,h2,h3,h4⟩|⟨h0,t,kk,B,C,h1,h2,h3,h4,h5⟩
   ·exact⟨_,_,h4,.inl ⟨ds,es,r,h1,h2,h3,rfl,rfl⟩⟩
   ·exact⟨_,_,h5,.inr ⟨h0,t,kk,B,C,h1,h2,h3,h4,rfl,rfl⟩⟩
  ·exact h.elim
 case ext=>unfold rv at h⊢;split at h<;>first|exact h.elim|exact⟨_,_,h.2,h.1,rfl,rfl⟩
 case bs=>
  unfold Gv at h⊢
  split at h
  ·next e=>simp only[e,if_true];exact⟨_,_,h.2,h.1,rfl,rfl⟩
  ·next e=>
   simp only[e,if_false]
   split at h
   ·next e2=>exact⟨_,_,h.2,h.1,rfl,rfl⟩
   ·next e2=>exact⟨_,_,h.2,h.1,rfl,rfl⟩
 case bld=>unfold vR at h⊢;split at h<;>first|exact h.elim|exact⟨_,_,h.2,h.1,rfl,rfl⟩
 case mkf=>exact⟨_,_,h,rfl,rfl⟩
 case bse=>exact⟨_,_,h.2,h.1,rfl,rfl⟩
 case zsb=>exact⟨_,_,h.2,h.1,rfl,rfl⟩
 case cvs=>
  unfold vU at h⊢
  split at h
  ·unfold yb at h⊢
   split at h
   ·obtain⟨h1,h2⟩:=h;unfold Ar at h2⊢
    split at h2
    ·exact⟨_,_,h2,h1,rfl,rfl⟩
    ·exact h2.elim
   ·exact h.elim
  ·exact h.elim

mutual
def AV.ids:AV→List Nat
 |.tr k=>[k]
 |.pw i _ _=>[i]
 |.cw i _ _ _ _=>[i]
 |.sm i _ _=>[i]
 |.vb i _=>[i]
 |.pb i _=>[i]
 |.ps i=>[i]
 |.sg vs=>AV.idsL vs
 |.cl _ vs=>AV.idsL vs
 |.pq i _ _ _ _ _=>[i]
 |.qs i _ _ _ _ _=>[i]
 |.ss i _ _=>[i]
 |_=>[]
def AV.idsL:List AV→List Nat
 | []=>[]
 |v::vs=>v.ids++AV.idsL vs
end

theorem zV{un un':Nat→Option U}{a:AV}(hu:∀i u,i∈a.ids→un i=some u→un' i=some u)(h:AV.size un a≠0):AV.size un' a=AV.size un a:=by
 cases a with
 |tr k=>
  simp only[AV.size]at h⊢
  split at h
  ·next d hd=>rw[hu k _ (by simp[AV.ids]) hd]
  ·exact absurd rfl h
 |_=>rfl
theorem lH:∀{vs:List AV} {i:Nat},i∈AV.idsL (di vs)→i∈AV.idsL vs
 | [],_,h=>h
 |v::vs,i,h=>by
  have dflt:di (v::vs)=v::di vs→i∈AV.idsL (v::vs):=by
   intro e;rw[e]at h;simp only[AV.idsL,List.mem_append]at h⊢;exact h.imp id lH
  cases v with
  |im t d=>
   cases d with
   |ag ds=>
    simp only[di]at h;have key:∀ds:List D,i∈AV.idsL (ds.map (.im t)++di vs)→i∈AV.idsL (di vs):=by
     intro ds
     induction ds with
     |nil=>exact id
     |cons d ds ih=>intro h;simp only[lC,List.cons_append,AV.idsL,AV.ids,List.nil_append]at h;exact ih h
    simp only[AV.idsL,List.mem_append];exact .inr (lH (key ds h))
   |_=>exact dflt rfl
  |_=>exact dflt rfl
theorem Ah{a:AV}{i:Nat}(h:i∈(dP a).ids):i∈a.ids:=by
 cases a with
 |sg vs=>simp only[dP,AV.ids]at h⊢;exact lH h
 |_=>exact h
theorem jM{un un':Nat→Option U}{sz:Nat}{a:AV}(hu:∀i u,i∈a.ids→un i=some u→un' i=some u)(h:bi un sz a=true):bi un' sz a=true:=by
 cases a with
 |tr k=>
  simp only[bi]at h⊢
  split at h
  ·next d hd=>rw[hu k _ (by simp[AV.ids]) hd];exact h
  ·cases h
 |sg vs=>
  simp only[bi,bA]at h⊢;have key:∀{vs:List AV},(∀i u,i∈AV.idsL vs→un i=some u→un' i=some u)→vs.all (fun a=>AV.size un a !=0)=true→vs.map (AV.size un')=vs.map (AV.size un):=by
   intro vs
   induction vs with
   |nil=>intro _ _;rfl
   |cons a as ih=>
    intro hu ha;simp only[List.all_cons,bA,bne_iff_ne,ne_eq]at ha;simp only[lC];rw[zV (fun i u hi=>hu i u (by simp[AV.idsL,hi])) ha.1,ih (fun i u hi=>hu i u (by simp[AV.idsL,hi])) ha.2]
  have e:=key (fun i u hi=>hu i u (by simpa[AV.ids]using hi)) h.1;have e2:∀f:AV→Nat,vs.all (fun a=>f a !=0)=(vs.map f).all (fun n=>n !=0):=fun f=>by simp[List.all_map,Function.comp_def]
  rw[e2,e,←e2];exact h
 |im t d=>cases t<;>exact h
 |_=>exact h
theorem zx{un un':Nat→Option U}{a:AV}(hu:∀i u,i∈a.ids→un i=some u→un' i=some u)(h:AV.aggV un a=true):AV.aggV un' a=true:=by
 cases a with
 |tr k=>
  simp only[AV.aggV]at h⊢
  split at h
  ·next d hd=>rw[hu k _ (by simp[AV.ids]) hd];exact h
  ·cases h
 |im t d=>cases t<;>exact h
 |_=>exact h
theorem lT{un un':Nat→Option U}{a:AV}(hu:∀i u,i∈a.ids→un i=some u→un' i=some u)(h:(AV.aggV un a&&bi un 3 a)=true):(AV.aggV un' a&&bi un' 3 a)=true:=by
 rw[bA]at h⊢;exact⟨zx hu h.1,jM hu h.2⟩
theorem cy{un un':Nat→Option U}{a:AV}(hne:(∀f vs,a≠.cl f vs)∧∀vs,a≠.sg vs){d:D}(h1:a.arg un=some d)(hu0:∀i u,i∈a.ids→un i=some u→un' i=some u):a.arg un'=some d:=by
 unfold AV.arg at h1⊢
 split at h1<;>(try simp only[AV.ids,List.mem_singleton]at hu0)<;>(try exact h1)<;>(try exact absurd rfl (hne.1 _ _))<;>(try exact absurd rfl (hne.2 _))<;>(try simp only)<;>
 ·split at h1
  ·next hh=>rw[hu0 _ _ rfl hh];exact h1
  ·cases h1
mutual
theorem Cy{un un':Nat→Option U}:∀{a:AV} {d:D},a.arg un=some d→(∀i u,i∈a.ids→un i=some u→un' i=some u)→a.arg un'=some d
 |.cl f vs,d,h,hu=>by
  simp only[AV.arg]at h⊢
  split at h
  ·next ds hds=>rw[fQ hds (fun i u hi=>hu i u (by simpa[AV.ids]using hi))];exact h
  ·cases h
 |.im _ _,_,h,hu=>cy (by simp) h hu
 |.tr _,_,h,hu=>cy (by simp) h hu
 |.pw _ _ _,_,h,hu=>cy (by simp) h hu
 |.cw _ _ _ _ _,_,h,hu=>cy (by simp) h hu
 |.sm _ _ _,_,h,hu=>cy (by simp) h hu
 |.vb _ _,_,h,hu=>cy (by simp) h hu
 |.pb _ _,_,h,hu=>cy (by simp) h hu
 |.ps _,_,h,hu=>cy (by simp) h hu
 |.sg vs,d,h,hu=>by
  simp only[AV.arg]at h⊢
  split at h
  ·next ds hds=>rw[fQ hds (fun i u hi=>hu i u (by simpa[AV.ids]using hi))];exact h
  ·cases h
 |.tup _,_,h,hu=>cy (by simp) h hu
 |.any,_,h,hu=>cy (by simp) h hu
 |.pq _ _ _ _ _ _,_,h,hu=>cy (by simp) h hu
 |.qs _ _ _ _ _ _,_,h,hu=>cy (by simp) h hu
 |.ss _ _ _,_,h,hu=>cy (by simp) h hu
 |.z0 _ _,_,h,hu=>cy (by simp) h hu
theorem fQ{un un':Nat→Option U}:∀{l:List AV} {ds:List D},dm un l=some ds→(∀i u,i∈AV.idsL l→un i=some u→un' i=some u)→dm un' l=some ds
 | [],_,h,_=>by simpa[dm]using h
 |a::l,ds,h,hu=>by
  simp only[dm]at h⊢
  split at h
  ·next d ds' h1 h2=>
   rw[Cy h1 (fun i u hi=>hu i u (by simp[AV.idsL,hi])),fQ h2 (fun i u hi=>hu i u (by simp[AV.idsL,hi]))];exact h
  ·cases h
end
theorem oF{l:List AV}{i:Nat}:i∈AV.idsL l↔∃a∈l,i∈a.ids:=by
 induction l with
 |nil=>simp[AV.idsL]
 |cons a l ih=>simp[AV.idsL,ih]

theorem lQ{un un':Nat→Option U}{a:AV}{q:Option Nat×D}(h:a.den un=some q)(hu:∀i u,i∈a.ids→un i=some u→un' i=some u):a.den un'=some q:=by
 unfold AV.den at h⊢
 split at h<;>(try simp only[AV.ids,List.mem_singleton]at hu)<;>(try exact h)<;>(try simp only)<;>
 ·split at h
  ·next hh=>rw[hu _ _ rfl hh];exact h
  ·cases h

theorem qb{r:ff}{ev ev':X→AV}{un un':Nat→Option U}{k:KQ}(h:uo P r ev un k)(he:∀x∈r.xs,ev' x=ev x)(hu:∀x∈r.xs,∀i u,i∈(ev x).ids→un i=some u→un' i=some u):uo P r ev' un' k:=by
 cases r<;>simp only[uo,ff.xs,List.mem_cons,List.not_mem_nil,or_false,forall_eq,forall_eq_or_imp]at h he hu⊢
 case mv=>rw[he];exact h
 case pick=>rw[he.1,he.2.1,he.2.2];exact h
 case box=>
  rw[he];unfold pJ at h⊢
  split at h
  ·exact h
  ·exact⟨⟨h.1.1,h.1.2.1,jM (fun i u hi=>hu i u (Ah hi)) h.1.2.2⟩,h.2⟩
 case zer=>exact h
 case ld=>
  rw[he];unfold vF at h⊢
  split at h
  ·exact h
  ·exact h
  ·next e=>
   simp only[e,AV.ids,List.mem_singleton]at hu;unfold G7 at h⊢
   split at h
   ·next hh=>rw[hu _ _ rfl hh];exact h
   ·exact h.elim
  ·next e=>
   simp only[e,AV.ids,List.mem_singleton]at hu;unfold Hc at h⊢
   split at h
   ·next hh=>rw[hu _ _ rfl hh];exact h
   ·exact h.elim
  ·next e=>
   simp only[e,AV.ids,List.mem_singleton]at hu;unfold Hd at h⊢
   split at h
   ·next hh=>rw[hu _ _ rfl hh];exact h
   ·exact h.elim
  ·exact h.elim
 case nck=>rw[he];exact h
 case bin=>rw[he.1,he.2];exact h
 case beq=>rw[he.1,he.2];exact h
 case snil=>rw[he.1,he.2];exact h
 case ceq=>rw[he.1,he.2];exact h
 case un=>rw[he];exact h
 case cvt=>rw[he];exact h
 case mk=>rw[he.1,he.2];exact h
 case slc d sz x lo hi=>
  have e1:lo.map ev'=lo.map ev:=by cases lo<;>simp_all
  have e2:hi.map ev'=hi.map ev:=by cases hi<;>simp_all
  unfold sZ at h⊢;rw[e1,e2,he.1]
  split at h
  ·exact h
  ·next e=>
   simp only[e,AV.ids,List.mem_singleton]at hu;unfold wO at h⊢
   split at h
   ·next hh=>rw[hu.1 _ _ rfl hh];exact h
   ·exact h.elim
  ·next e=>
   simp only[e,AV.ids,List.mem_singleton]at hu;unfold xb at h⊢
   split at h
   ·next hh=>rw[hu.1 _ _ rfl hh];exact h
   ·exact h.elim
  ·exact h.elim
 case fa=>
  rw[he];unfold yL at h⊢
  split at h
  ·exact h
  ·exact h
  ·next e=>
   simp only[e,AV.ids,List.mem_singleton]at hu;unfold FH at h⊢
   split at h
   ·next hh=>rw[hu _ _ rfl hh];exact h
   ·exact h.elim
  ·exact h
  ·exact h
  ·exact h.elim
 case ia=>
  rw[he.1,he.2];unfold xf at h⊢
  split at h
  ·try simp only
   split at h
   ·next e=>
    simp only[e,AV.ids,List.mem_singleton]at hu;obtain⟨h1,h⟩:=h;refine⟨h1,?_⟩;unfold zJ at h⊢
    split at h
    ·next hh=>rw[hu.1 _ _ rfl hh];exact h
    ·exact h.elim
   ·next e=>
    simp only[e,AV.ids,List.mem_singleton]at hu;obtain⟨h1,h⟩:=h;refine⟨h1,?_⟩;unfold zJ at h⊢
    split at h
    ·next hh=>rw[hu.1 _ _ rfl hh];exact h
    ·exact h.elim
   ·next e=>
    simp only[e,AV.ids,List.mem_singleton]at hu;unfold Gj at h⊢
    split at h
    ·next hh=>rw[hu.1 _ _ rfl hh];exact h
    ·exact h.elim
   ·unfold C4 at h⊢
    split at h
    ·next hd=>rw[lQ hd hu.1];exact h
    ·next hd=>rw[lQ hd hu.1];exact h
    ·exact h.elim
  ·exact h.elim
 case len=>
  rw[he];unfold jP at h⊢
  split at h
  ·exact h
  ·exact h
  ·exact h
  ·unfold rB at h⊢
   split at h
   ·next hd=>rw[lQ hd hu];exact h
   ·next hd=>rw[lQ hd hu];exact h
   ·exact h.elim
 case call d f args=>
  have e1:args.map ev'=args.map ev:=List.map_congr_left he;rw[e1];rcases h with⟨ds,es,r,h1,h2,h3,h4⟩|⟨h0,t,kk,B,C,h1,h2,h3,h4,h5⟩
  ·refine .inl ⟨ds,es,r,fQ h1 ?_,h2,h3,h4⟩;intro i u hi;obtain⟨a,ha,hia⟩:=oF.1 hi;obtain⟨x,hx,rfl⟩:=List.mem_map.1 ha;exact hu x hx i u hia
  ·have hall:∀a∈args.map ev,∀i u,i∈a.ids→un i=some u→un' i=some u:=by
    intro a ha i u hia;obtain⟨x,hx,rfl⟩:=List.mem_map.1 ha;exact hu x hx i u hia
   exact .inr ⟨h0,t,kk,B,C,h1,h2,lT (hall B (by simp[h1])) h3,lT (hall C (by simp[h1])) h4,h5⟩
 case calv d x args=>
  have e1:args.map ev'=args.map ev:=List.map_congr_left fun y hy=>he.2 y hy;rw[e1,he.1];have go:∀vs:List AV,(∀i u,i∈AV.idsL vs→un i=some u→un' i=some u)→∀{g:Nat},gK P d g (args.map ev++vs) un k→gK P d g (args.map ev++vs) un' k:=by
   intro vs hvs g h;have hall:∀a∈args.map ev++vs,∀i u,i∈a.ids→un i=some u→un' i=some u:=by
    intro a ha i u hia;rcases List.mem_append.1 ha with ha|ha
    ·obtain⟨x,hx,rfl⟩:=List.mem_map.1 ha;exact hu.2 x hx i u hia
    ·exact hvs i u (oF.2 ⟨a,ha,hia⟩)
   rcases h with⟨ds,es,r,h1,h2,h3,h4⟩|⟨h0,t,kk,B,C,h1,h2,h3,h4,h5⟩
   ·refine .inl ⟨ds,es,r,fQ h1 ?_,h2,h3,h4⟩;intro i u hi;obtain⟨a,ha,hia⟩:=oF.1 hi;exact hall a ha i u hia
   ·exact .inr ⟨h0,t,kk,B,C,h1,h2,lT (hall B (by simp[h1])) h3,lT (hall C (by simp[h1])) h4,h5⟩
  unfold kD at h⊢
  split at h
  ·have:=go [] (by simp[AV.idsL]) (by simpa using h);simpa using this
  ·next t f ds e=>
   refine go _ ?_ h;intro i u hi;obtain⟨a,ha,hia⟩:=oF.1 hi;obtain⟨d',_,rfl⟩:=List.mem_map.1 ha;simp[AV.ids]at hia
  ·next f vs e=>
   refine go _ ?_ h;intro i u hi;exact hu.1 i u (by rw[e];simpa[AV.ids]using hi)
  ·exact h.elim
 case ext=>rw[he];exact h
 case bs d sz z len ps=>
  have e1:(ps.map fun p=>(p.1,ev' p.2))=ps.map fun p=>(p.1,ev p.2):=List.map_congr_left fun p hp=>by rw[he p.2 (List.mem_map.2 ⟨p,hp,rfl⟩)]
  rw[e1];unfold Gv at h⊢
  split
  ·next e=>simpa[e]using h
  ·next e=>
   simp only[e,if_false]at h
   split
   ·next e2=>rw[e2]at h;exact h
   ·next e2=>
    rw[e2]at h;refine⟨⟨h.1.1,h.1.2.1,h.1.2.2.1,h.1.2.2.2.1,?_⟩,h.2⟩;have h3:=h.1.2.2.2.2;rw[List.all_eq_true]at h3⊢;intro a ha;have:=h3 a ha;simp only[List.map_map,List.mem_map,Function.comp]at ha;obtain⟨p,hp,rfl⟩:=ha;exact jM (hu p.2 (List.mem_map.2 ⟨p,hp,rfl⟩)) this
 case bld d z ps=>
  have e1:(ps.map fun p=>(p.1,p.2.1,ev' p.2.2))=ps.map fun p=>(p.1,p.2.1,ev p.2.2):=List.map_congr_left fun p hp=>by rw[he p.2.2 (List.mem_map.2 ⟨p,hp,rfl⟩)]
  rw[e1];unfold vR at h⊢
  split at h
  ·refine⟨⟨?_,h.1.2⟩,h.2⟩;have h3:=h.1.1;rw[List.all_eq_true]at h3⊢;intro a ha;have:=h3 a ha;simp only[List.mem_map]at ha;obtain⟨p,hp,rfl⟩:=ha;simp only[bA,beq_iff_eq,bne_iff_ne,ne_eq]at this⊢;refine⟨?_,this.2⟩;have h4:=this.1;have h5:=hu p.2.2 (List.mem_map.2 ⟨p,hp,rfl⟩);generalize ev p.2.2=av at h4 h5;unfold AV.size at h4⊢
   split at h4<;>(try exact h4)<;>(try simp only)
   split at h4
   ·next hh=>rw[h5 _ _ (by simp[AV.ids]) hh];exact h4
   ·exact absurd h4.symm this.2
  ·exact h.elim

 case mkf d f xs=>
  have e1:xs.map ev'=xs.map ev:=List.map_congr_left he;rw[e1];exact h
 case bse=>exact h
 case zsb=>exact h
 case cvs d x=>
  unfold vU at h⊢;rw[he]
  split at h
  ·next e=>
   simp only[e,AV.ids,List.mem_singleton]at hu;unfold yb at h⊢
   split at h
   ·next hh=>rw[hu _ _ rfl hh];exact h
   ·exact h.elim
  ·exact h.elim

end Go.Ax
namespace Go.Ax

variable {P : Program} {n0 : Nat} {S0 M0 : Nat → Prop} {w0 : World}

abbrev Rs:=AV×List (Nat×U)
def dp(st:St)(d:Option Nat)(r:Rs):St:=(st.addUs r.2).setO d r.1

def QD(P:Program)(op:ff)(st:St)(r:Rs):Prop:=uo P op st.ev st.unit (fun v u=>v=r.1∧u=r.2)∧(r.2=[]∨st.fresh r.2=true)
def cZ(P:Program)(R:RO)(st:St)(r:Rs):Prop:=
 match R.g with
 |none=>QD P R.op st r
 |some (t,b)=>(∃tk c,st.get t=.im tk (.sc (.bool c))∧(c=b→QD P R.op st r)∧(c=!b→r=(.tup [],[])))∨(st.get t=.tup []∧r=(.tup [],[]))

def xL(P:Program):List RO→List Rs→St→St→Prop
 | [],[],s,s'=>s=s'
 |R::Rl,r::rl,s,s'=>cZ P R s r∧xL P Rl rl (dp s R.op.dst r) s'
 |_,_,_,_=>False

theorem fC{K:Exit→St→Prop}:∀{Rl:List RO} {st:St},(∀R∈Rl,R.op.isQ=true)→a8 P Rl st K→∃rl s',xL P Rl rl st s'∧K .normal s'∧rl.length=Rl.length
 | [],st,_,h=>⟨[],st,rfl,h,rfl⟩
 |R::Rl,st,hQ,h=>by
  have hq:=hQ R (by simp);have hQ':∀R∈Rl,R.op.isQ=true:=fun R hR=>hQ R (by simp[hR]);have one:kr P R.op st (cV P Rl K)→∃r,QD P R.op st r∧a8 P Rl (dp st R.op.dst r) K:=by
   intro h;unfold kr at h;rw[hq,if_pos rfl]at h;obtain⟨av,us,hk,hd⟩:=Ft h;obtain⟨h1,h2⟩:=uY hk;exact⟨(av,us),⟨hd,h1⟩,h2⟩
  obtain⟨g,op⟩:=R;cases g with
  |none=>
   obtain⟨r,h1,h2⟩:=one h;obtain⟨rl,s',h3,h4,h5⟩:=fC hQ' h2;exact⟨r::rl,s',⟨h1,h3⟩,h4,by simp[h5]⟩
  |some x=>
   obtain⟨t,b⟩:=x;have h:iy (st.get t) b (kr P op st (cV P Rl K)) (a8 P Rl (st.setO op.dst (.tup [])) K):=h;unfold iy at h
   split at h
   ·next tk c hc=>
    by_cases e:c=b
    ·obtain⟨r,h1,h2⟩:=one (h.1 e);obtain⟨rl,s',h3,h4,h5⟩:=fC hQ' h2;exact⟨r::rl,s',⟨.inl ⟨tk,c,hc,fun _=>h1,fun e'=>by subst e;cases c<;>cases e'⟩,h3⟩,h4,by simp[h5]⟩
    ·have e':c=!b:=by cases c<;>cases b<;>simp_all
     have h2:a8 P Rl (dp st op.dst (.tup [],[])) K:=by unfold dp;rw[dL];exact h.2 e'
     obtain⟨rl,s',h3,h4,h5⟩:=fC hQ' h2;exact⟨(.tup [],[])::rl,s',⟨.inl ⟨tk,c,hc,fun h=>absurd h e,fun _=>rfl⟩,h3⟩,h4,by simp[h5]⟩
   ·next hc=>
    have h2:a8 P Rl (dp st op.dst (.tup [],[])) K:=by unfold dp;rw[dL];exact h
    obtain⟨rl,s',h3,h4,h5⟩:=fC hQ' h2;exact⟨(.tup [],[])::rl,s',⟨.inr ⟨hc,rfl⟩,h3⟩,h4,by simp[h5]⟩
   ·exact h.elim

def aA(bD:St)(D:Nat→Option Nat)(V:Nat→Rs):List Nat→St
 | []=>bD
 |i::L=>dp (aA bD D V L) (D i) (V i)

theorem ce{bD:St}{D:Nat→Option Nat}{V:Nat→Rs}:∀{L:List Nat},(aA bD D V L).n=bD.n
 | []=>rfl
 |i::L=>by
  have:=ce (bD:=bD) (D:=D) (V:=V) (L:=L);simp only[aA,dp];cases D i<;>exact this

theorem cb{bD:St}{D:Nat→Option Nat}{V:Nat→Rs}:∀{L:List Nat},(aA bD D V L).us=L.flatMap (fun i=>(V i).2)++bD.us
 | []=>rfl
 |i::L=>by
  have:=cb (bD:=bD) (D:=D) (V:=V) (L:=L);simp only[aA,dp,List.flatMap_cons,List.append_assoc];cases D i<;>simp[St.setO,St.set,St.addUs,this]

theorem cW{bD:St}{D:Nat→Option Nat}{V:Nat→Rs}(hD:∀i j t,D i=some t→D j=some t→i=j):∀{L:List Nat} {t:Nat},
  (∀i,i∈L→D i=some t→lk (aA bD D V L).env t=(V i).1)∧((∀i∈L,D i≠some t)→lk (aA bD D V L).env t=lk bD.env t)
 | [],t=>⟨by simp,fun _=>rfl⟩
 |j::L,t=>by
  obtain⟨h1,h2⟩:=cW (bD:=bD) (V:=V) hD (L:=L) (t:=t);have hstep:lk (aA bD D V (j::L)).env t=if D j=some t then(V j).1 else lk (aA bD D V L).env t:=by
   simp only[aA,dp];cases hj:D j with
   |none=>simp[St.setO,St.addUs]
   |some d=>simp[St.setO,St.set,St.addUs,lk]
  rw[hstep];refine⟨fun i hi hd=>?_,fun hno=>?_⟩
  ·split
   ·next e=>rw[hD i j t hd e]
   ·next e=>
    rcases List.mem_cons.1 hi with rfl|hi
    ·exact absurd hd e
    ·exact h1 i hi hd
  ·rw[if_neg (hno j (by simp))];exact h2 fun i hi=>hno i (by simp[hi])

def cu:Nat→List Nat
 |0=>[]
 |n+1=>n::cu n
theorem fB{n i:Nat}:i∈cu n↔i<n:=by
 induction n with
 |zero=>simp[cu]
 |succ n ih=>simp[cu,ih];omega

theorem Ec{Rl:List RO}{rl:List Rs}:∀{st s':St} {k:Nat} {bD:St} {D:Nat→Option Nat} {V:Nat→Rs},xL P Rl rl st s'→st=aA bD D V (cu k)→
  (∀i,i<Rl.length→D (k+i)=(Rl.getD i default).op.dst)→(∀i,i<Rl.length→V (k+i)=rl.getD i (.any,[]))→
  s'=aA bD D V (cu (k+Rl.length))∧∀i,i<Rl.length→cZ P (Rl.getD i default) (aA bD D V (cu (k+i))) (V (k+i)):=by
 induction Rl generalizing rl with
 |nil=>
  intro st s' k bD D V h e _ _;cases rl with
  |nil=>simp only[xL]at h;subst h;exact⟨e,by simp⟩
  |cons=>simp[xL]at h
 |cons R Rl ih=>
  intro st s' k bD D V h e hD hV;cases rl with
  |nil=>simp[xL]at h
  |cons r rl=>
   simp only[xL]at h;have d0:=hD 0 (by simp);have v0:=hV 0 (by simp);simp only[Nat.add_zero,List.getD_cons_zero]at d0 v0;have e2:dp st R.op.dst r=aA bD D V (cu (k+1)):=by
    simp only[cu,aA];rw[e,d0,v0]
   obtain⟨h1,h2⟩:=ih h.2 e2 (fun i hi=>by have:=hD (i+1) (by simp;omega);simpa[Nat.add_assoc,Nat.add_comm 1 i]using this) (fun i hi=>by have:=hV (i+1) (by simp;omega);simpa[Nat.add_assoc,Nat.add_comm 1 i]using this);refine⟨by rw[h1];congr 2;simp;omega,?_⟩;intro i hi;cases i with
   |zero=>simp only[Nat.add_zero,List.getD_cons_zero];rw[v0,←e];exact h.1
   |succ i=>
    have:=h2 i (by simpa using hi);rw[show k+(i+1)=k+1+i by omega];simpa using this

theorem qF{k:Nat}:∀{us:List (Nat×U)},k∉us.map (·.1)→jJ k us=true
 | [],_=>rfl
 |(i,u)::r,h=>by
  simp only[lC,List.mem_cons,not_or]at h;simp only[jJ,bA,bne_iff_ne];exact⟨fun e=>h.1 e.symm,qF h.2⟩

theorem oc{st:St}:∀{us:List (Nat×U)},((us++st.us).map (·.1)).Nodup→st.fresh us=true
 | [],_=>rfl
 |x::r,h=>by
  simp only[List.cons_append,lC,List.nodup_cons,List.map_append,List.mem_append,not_or]at h;simp only[St.fresh,bA];exact⟨⟨qF h.1.2,qF h.1.1⟩,oc (by simpa using h.2)⟩

theorem fP{st:St}(hk:(st.us.map (·.1)).Nodup):∀{us:List (Nat×U)},(us=[]∨st.fresh us=true)→((us++st.us).map (·.1)).Nodup
 | [],_=>hk
 |x::r,h=>by
  have h:=h.resolve_left (by simp);simp only[St.fresh,bA]at h;simp only[List.cons_append,lC,List.nodup_cons,List.map_append,List.mem_append,not_or];exact⟨⟨cj h.1.2,cj h.1.1⟩,by have:=fP hk (us:=r) (.inr h.2);simpa using this⟩

theorem ck{us:List (Nat×U)}(hk:(us.map (·.1)).Nodup){k:Nat}{u:U}(hm:(k,u)∈us):lu us k=some u:=by
 induction us with
 |nil=>cases hm
 |cons x us ih=>
  obtain⟨i,v⟩:=x;simp only[lC,List.nodup_cons]at hk;simp only[lu];rcases List.mem_cons.1 hm with e|hm
  ·injection e with e1 e2;subst e1;subst e2;simp
  ·have:i≠k:=fun e=>hk.1 (List.mem_map.2 ⟨_,hm,e.symm⟩);rw[if_neg this];exact ih hk.2 hm

mutual
theorem oM{h:aE}{us:List (Nat×U)}{g:Gh}:∀{av:AV} {v:Value},ab h us g av v→∀i∈av.ids,∃u,(i,u)∈us
 |.tr k,v,hr,i,hi=>by
  simp only[AV.ids,List.mem_singleton]at hi;subst hi;simp only[ab]at hr;obtain⟨⟨d,hd⟩,_⟩:=hr;exact⟨_,hd⟩
 |.pw k _ _,v,hr,i,hi=>by
  simp only[AV.ids,List.mem_singleton]at hi;subst hi;simp only[ab]at hr;obtain⟨_,_,_,_,_,h1,_⟩:=hr;exact⟨_,h1⟩
 |.cw k _ _ _ _,v,hr,i,hi=>by
  simp only[AV.ids,List.mem_singleton]at hi;subst hi;simp only[ab]at hr;obtain⟨_,_,_,_,_,_,h1,_⟩:=hr;exact⟨_,h1⟩
 |.sm k _ _,v,hr,i,hi=>by
  simp only[AV.ids,List.mem_singleton]at hi;subst hi;simp only[ab]at hr;obtain⟨_,_,_,_,h1,_⟩:=hr;exact⟨_,h1⟩
 |.pb k _,v,hr,i,hi=>by
  simp only[AV.ids,List.mem_singleton]at hi;subst hi;simp only[ab]at hr;obtain⟨_,_,_,h1,_⟩:=hr;exact⟨_,h1⟩
 |.ps k,v,hr,i,hi=>by
  simp only[AV.ids,List.mem_singleton]at hi;subst hi;simp only[ab]at hr;obtain⟨_,_,_,_,h1,_⟩:=hr;exact⟨_,h1⟩
 |.vb k _,v,hr,i,hi=>by
  simp only[AV.ids,List.mem_singleton]at hi;subst hi;simp only[ab]at hr;obtain⟨_,_,_,h1,_⟩:=hr;exact⟨_,h1⟩
 |.sg vs,v,hr,i,hi=>by
  simp only[AV.ids]at hi;simp only[ab]at hr;obtain⟨xs,h1,_⟩:=hr;exact po h1 i hi
 |.im _ _,v,hr,i,hi=>by simp[AV.ids]at hi
 |.tup _,v,hr,i,hi=>by simp[AV.ids]at hi
 |.any,v,hr,i,hi=>by simp[AV.ids]at hi
 |.cl f vs,v,hr,i,hi=>by
  simp only[AV.ids]at hi;simp only[ab]at hr;obtain⟨xs,h1,_⟩:=hr;exact po h1 i hi
 |.pq k _ _ _ _ _,v,hr,i,hi=>by
  simp only[AV.ids,List.mem_singleton]at hi;subst hi;simp only[ab]at hr;obtain⟨_,_,_,_,_,_,_,_,_,_,_,h1,_⟩:=hr;exact⟨_,h1⟩
 |.qs k _ _ _ _ _,v,hr,i,hi=>by
  simp only[AV.ids,List.mem_singleton]at hi;subst hi;simp only[ab]at hr;obtain⟨_,_,_,_,_,_,_,_,_,_,h1,_⟩:=hr;exact⟨_,h1⟩
 |.ss k _ _,v,hr,i,hi=>by
  simp only[AV.ids,List.mem_singleton]at hi;subst hi;simp only[ab]at hr;obtain⟨_,_,_,_,h1,_⟩:=hr;exact⟨_,h1⟩
 |.z0 _ _,v,hr,i,hi=>by simp[AV.ids]at hi
theorem po{h:aE}{us:List (Nat×U)}{g:Gh}:∀{avs:List AV} {vs:List Value},ah h us g avs vs→∀i∈AV.idsL avs,∃u,(i,u)∈us
 | [],vs,hr,i,hi=>by simp[AV.idsL]at hi
 |a::as,vs,hr,i,hi=>by
  simp only[ah]at hr;obtain⟨v,r,rfl,h1,h2⟩:=hr;simp only[AV.idsL,List.mem_append]at hi;rcases hi with hi|hi
  ·exact oM h1 i hi
  ·exact po h2 i hi
end

theorem dH.eqv{st st':St}{a:Act}{w:World}(hs:dH n0 S0 M0 w0 st a w)(hn:st'.n=st.n)(he:∀t,lk st'.env t=lk st.env t)(hp:st'.us.Perm st.us):dH n0 S0 M0 w0 st' a w:=by
 obtain⟨g,hu,hv⟩:=hs.gh;have hfp:(fp g st'.us).Perm (fp g st.us):=hp.flatMap_right _;have hm:∀x∈st.us,x∈st'.us:=fun x hx=>hp.mem_iff.2 hx;refine⟨hs.ms,hs.dfr,hs.tm.trans hn.symm,hs.base,hs.os,hs.tape,hs.output,hs.size,hs.old,g,⟨?_,hfp.nodup_iff.2 hu.nodup,fun b hb=>hu.lt b (hfp.mem_iff.1 hb),fun b hb=>hu.low b (hfp.mem_iff.1 hb),?_,?_,?_,fun b hb=>hu.fz b (hfp.mem_iff.1 hb),hu.pin.mono fun i u hm hq=>⟨⟨_,hp.mem_iff.1 hm,hq⟩,rfl,rfl⟩⟩,fun t=>?_⟩
 ·exact(hp.map _).nodup_iff.2 hu.keys
 ·intro k hk;exact hu.dead k fun h=>hk ((hp.map _).mem_iff.2 h)
 ·intro b hb;obtain⟨h1,h2,h3⟩:=hu.sh b hb;exact⟨h1,h2,fun h=>h3 (hfp.mem_iff.1 h)⟩
 ·intro x hx;have hx':=hp.mem_iff.1 hx;exact(hu.each x hx').mono hx' hm (fun _ _=>rfl) (fun _ _=>⟨rfl,rfl,rfl⟩) rfl (fun _ _ h=>h) (fun _ _ _ h=>h)
 ·rw[he];exact(hv t).mono hm (fun _ _=>rfl) (fun _ _=>⟨rfl,rfl,rfl⟩) (fun _ _ _ h=>h)

end Go.Ax
namespace Go.Ax

variable {P : Program} {wv : Wv} {n0 : Nat} {S0 M0 : Nat → Prop} {w0 : World}

theorem ii:∀{l:List Nat},ua l=true→l.Nodup
 | [],_=>List.nodup_nil
 |x::l,h=>by
  simp only[ua,bA,Bool.not_eq_true',List.contains_eq_mem,decide_eq_false_iff_not]at h;exact List.nodup_cons.2 ⟨h.1,ii h.2⟩

def be(R:List RO)(i:Nat):Option Nat:=R[i]?.bind (·.op.dst)
def SZ(rl:List Rs)(i:Nat):Rs:=rl.getD i (.any,[])

theorem oL:∀{R:List RO},(R.filterMap (·.op.dst)).Nodup→∀i j t,be R i=some t→be R j=some t→i=j
 | [],_,i,j,t,h,_=>by simp[be]at h
 |r::R,hn,i,j,t,hi,hj=>by
  have mem:∀k,be R k=some t→t∈R.filterMap (·.op.dst):=by
   intro k hk;simp only[be,oB]at hk;obtain⟨x,hx,hd⟩:=hk;exact List.mem_filterMap.2 ⟨x,List.mem_of_getElem? hx,hd⟩
  have hn':(R.filterMap (·.op.dst)).Nodup:=by
   simp only[List.filterMap_cons]at hn
   split at hn
   ·exact hn
   ·exact(List.nodup_cons.1 hn).2
  have h0:∀k,r.op.dst=some t→be R k=some t→False:=by
   intro k h1 h2;simp only[List.filterMap_cons,h1]at hn;exact(List.nodup_cons.1 hn).1 (mem k h2)
  cases i with
  |zero=>
   cases j with
   |zero=>rfl
   |succ j=>exact(h0 j (by simpa[be]using hi) (by simpa[be]using hj)).elim
  |succ i=>
   cases j with
   |zero=>exact(h0 i (by simpa[be]using hj) (by simpa[be]using hi)).elim
   |succ j=>rw[oL hn' i j t (by simpa[be]using hi) (by simpa[be]using hj)]

theorem iB:∀{n:Nat},(cu n).Nodup
 |0=>List.nodup_nil
 |n+1=>List.nodup_cons.2 ⟨by rw[fB];omega,iB⟩

theorem qc:∀{n:Nat},(cu n).length=n
 |0=>rfl
 |n+1=>by simp[cu,qc]

theorem qz{n:Nat}{X:List Nat}(hn:X.Nodup)(hl:∀i∈X,i<n):X.Perm ((cu n).filter (fun i=>decide (i∈X))):=
 (List.perm_ext_iff_of_nodup hn (iB.filter _)).2 fun a => by
  simp only[List.mem_filter,fB,decide_eq_true_eq];exact⟨fun h=>⟨hl a h,h⟩,fun h=>h.2⟩

theorem fw{n:Nat}{X:List Nat}(hn:X.Nodup)(hl:∀i∈X,i<n)(h:X.length=n):∀i,i<n→i∈X:=by
 have:=(qz hn hl).length_eq;have h2:((cu n).filter (fun i=>decide (i∈X))).length=(cu n).length:=by rw[←this,h,qc]
 intro i hi;have:=List.length_filter_eq_length_iff.1 h2 i (fB.2 hi);simpa using this

theorem og{α β:Type}{f:α→List β}:∀{l m:List α},l.Sublist m→(l.flatMap f).Sublist (m.flatMap f)
 |_,_,.slnil=>List.Sublist.refl _
 |_,_,.cons a h=>by
  simp only[List.flatMap_cons];exact(og h).trans (List.sublist_append_right _ _)
 |_,_,.cons_cons a h=>by
  simp only[List.flatMap_cons];exact(List.Sublist.refl _).append (og h)

theorem pm{bD:St}{D:Nat→Option Nat}{V:Nat→Rs}{n:Nat}(hf:((aA bD D V (cu n)).us.map (·.1)).Nodup){X:List Nat}(hn:X.Nodup)(hl:∀i∈X,i<n):
  ((aA bD D V X).us.map (·.1)).Nodup∧∀x∈(aA bD D V X).us,x∈(aA bD D V (cu n)).us:=by
 rw[cb]at hf;simp only[cb];have hp:=qz hn hl;have h1:((X.flatMap fun i=>(V i).2)++bD.us).Perm ((((cu n).filter (fun i=>decide (i∈X))).flatMap fun i=>(V i).2)++bD.us):=(hp.flatMap_right _).append_right _;have h2:((((cu n).filter (fun i=>decide (i∈X))).flatMap fun i=>(V i).2)++bD.us).Sublist (((cu n).flatMap fun i=>(V i).2)++bD.us):=(og List.filter_sublist).append (List.Sublist.refl _);exact⟨(h1.map _).nodup_iff.2 ((h2.map _).nodup hf),fun x hx=>h2.subset (h1.mem_iff.1 hx)⟩

theorem ro{bD:St}{D:Nat→Option Nat}{V:Nat→Rs}{R:List RO}(h0:(bD.us.map (·.1)).Nodup):∀n,n≤R.length→(∀i,i<R.length→cZ P (R.getD i default) (aA bD D V (cu i)) (V i))→
  ((aA bD D V (cu n)).us.map (·.1)).Nodup
 |0,_,_=>h0
 |n+1,hn,h=>by
  have ih:=ro h0 n (by omega) h;have hs:=h n (by omega);have:(V n).2=[]∨(aA bD D V (cu n)).fresh (V n).2=true:=by
   unfold cZ at hs
   split at hs
   ·exact hs.2
   ·next t b _=>
    rcases hs with⟨tk,c,_,h1,h2⟩|⟨_,h2⟩
    ·by_cases e:c=b
     ·exact(h1 e).2
     ·exact .inl (by rw[h2 (by cases c<;>cases b<;>simp_all)])
    ·exact .inl (by rw[h2])
  have:=fP ih this;have e:(aA bD D V (cu (n+1))).us=(V n).2++(aA bD D V (cu n)).us:=by simp[cb,cu]
  rw[e];exact this

structure Bv (P:Program) (wv:Wv) (ops:Array Oper) (R:List RO) (bD:St) (V:Nat→Rs):Prop where
 len:R.length=ops.size
 res:∀(i:Nat)(o:Oper),ops[i]?=some o→∃r,R[i]?=some r∧db P wv bD.n ops o=some r
 inj:∀i j t,be R i=some t→be R j=some t→i=j
 acyc:∀i,∀j∈aF ops i,j<i
 isQ:∀(i:Nat)(r:RO),R[i]?=some r→r.op.isQ=true
 slot:∀(i:Nat)(r:RO)(t:Nat),R[i]?=some r→t∈r.slots→∀j,be R j=some t→(j<i∧j∈aF ops i)∨(i<j∧i∈aF ops j)
 step:∀(i:Nat)(r:RO),R[i]?=some r→cZ P r (aA bD (be R) V (cu i)) (V i)
 keys:((aA bD (be R) V (cu R.length)).us.map (·.1)).Nodup

theorem AB{ops:Array Oper}{R:List RO}(h:mN ops R=true):R.length=ops.size:=by
 unfold mN at h;simp only[bA,beq_iff_eq]at h;exact h.1.2

theorem io{α β:Type}{f:α→Option β}:∀{l:List α} {m:List β},l.mapM f=some m→∀(i:Nat)(a:α),l[i]?=some a→∃b,m[i]?=some b∧f a=some b
 | [],m,_,i,a,h=>by simp at h
 |x::l,m,hm,i,a,h=>by
  simp only[List.mapM_cons,oD,oB,oP,oS]at hm;obtain⟨b,hb,m',hm',rfl⟩:=hm;cases i with
  |zero=>simp only[List.getElem?_cons_zero,oS]at h;subst h;exact⟨b,by simp,hb⟩
  |succ i=>simpa using io hm' i a (by simpa using h)

theorem EM{ops:Array Oper}{R:List RO}{st s':St}{rl:List Rs}(hd:mN ops R=true)(hR:ops.toList.mapM (db P wv st.n ops)=some R)(hk:(st.us.map (·.1)).Nodup)
  (hx:xL P R rl st s'):Bv P wv ops R st (SZ rl)∧s'=aA st (be R) (SZ rl) (cu R.length):=by
 have hx':=Ec (k:=0) (bD:=st) (D:=be R) (V:=SZ rl) hx rfl (fun i hi=>by
  simp only[be,Nat.zero_add];rw[List.getD_eq_getElem?_getD,List.getElem?_eq_getElem hi]
  rfl) (fun i hi=>by simp[SZ])
 simp only[Nat.zero_add]at hx';obtain⟨e,hstep⟩:=hx';have hlen:=AB hd;unfold mN at hd;simp only[bA,beq_iff_eq,List.all_eq_true,List.mem_range]at hd;obtain⟨⟨h1,_⟩,h2⟩:=hd;have lt_of:∀{i:Nat} {r:RO},R[i]?=some r→i<R.length:=fun h=>(List.getElem?_eq_some_iff.1 h).1;refine⟨⟨hlen,?_,oL (ii h1),?_,?_,?_,?_,ro hk _ (Nat.le_refl _) hstep⟩,e⟩
 ·intro i o ho;exact io hR i o (by simpa using ho)
 ·intro i j hj
  by_cases hi:i<R.length
  ·have:=(h2 i hi).1 j hj;simpa using this
  ·have:ops[i]?=none:=by simp;omega
   simp[aF,this]at hj
 ·intro i r hr;have:=(h2 i (lt_of hr)).2;rw[hr]at this;simp only[bA]at this;exact this.1
 ·intro i r t hr ht j hj;have:=(h2 i (lt_of hr)).2;rw[hr]at this;simp only[bA,List.all_eq_true]at this;have hs:=this.2 t ht;unfold ir at hs;simp only[List.all_eq_true,List.mem_range]at hs;simp only[be,oB]at hj;obtain⟨x,hx,hd⟩:=hj;have:=hs j (lt_of hx);rw[hx]at this;simpa[hd]using this
 ·intro i r hr;have:=hstep i (lt_of hr);rw[List.getD_eq_getElem?_getD,hr]at this;exact this

structure eo (P:Program) (ops:Array Oper) (R:List RO) (X:List Nat) (listed:Array Bool):Prop where
 nd:X.Nodup
 lt:∀i∈X,i<ops.size
 closed:∀i∈X,∀j∈aF ops i,j∈X
 size:listed.size=ops.size
 li:∀j,j<ops.size→(listed.getD j true=true↔j∈X)

theorem eo.li'{ops:Array Oper}{R:List RO}{X:List Nat}{listed:Array Bool}(h:eo P ops R X listed){j:Nat}(hj:listed.getD j false=true):j∈X:=by
 by_cases hlt:j<ops.size
 ·refine(h.li j hlt).1 ?_;rw[Array.getD_eq_getD_getElem?]at hj⊢;rw[←h.size]at hlt;rw[Array.getElem?_eq_getElem hlt]at hj⊢;exact hj
 ·rw[Array.getD_eq_getD_getElem?,Array.getElem?_eq_none (by rw[h.size];omega)]at hj;cases hj

theorem eo.full{ops:Array Oper}{R:List RO}{X:List Nat}{listed:Array Bool}(h:eo P ops R X listed)(ha:∀i,∀j∈aF ops i,j<i)(hr:Region.ready .any ops listed=[]):∀i,i<ops.size→i∈X:=by
 intro i
 induction i using Nat.strongRecOn with
 |ind i ih=>
  intro hi
  by_cases hm:i∈X
  ·exact hm
  ·exfalso;have:i∈Region.ready .any ops listed:=by
    rw[mem_ready];refine⟨?_,ops[i],by simp[hi],fun e he hb=>?_⟩
    ·cases hc:listed.getD i true with
     |false=>rfl
     |true=>exact absurd ((h.li i hi).1 hc) hm
    ·have hw:e.on∈aF ops i:=by
      simp only[aF,Array.getElem?_eq_getElem hi,ik];exact List.mem_map.2 ⟨e,List.mem_filter.2 ⟨by simpa using he,hb⟩,rfl⟩
     have hlt:=ha i _ hw;have hin:=ih _ hlt (by omega);have:=(h.li e.on (by omega)).2 hin;rw[Array.getD_eq_getD_getElem?]at this⊢;have hs:e.on<listed.size:=by rw[h.size];omega
     rw[Array.getElem?_eq_getElem hs]at this⊢;exact this
   rw[hr]at this;cases this

theorem eo.next{ops:Array Oper}{R:List RO}{X:List Nat}{listed:Array Bool}(h:eo P ops R X listed){i:Nat}(hi:i∈Region.ready .any ops listed):
  eo P ops R (i::X) (listed.setIfInBounds i true)∧i∉X∧∃o,ops[i]?=some o∧∀j∈aF ops i,j∈X:=by
 obtain⟨h1,o,ho,h2⟩:=mem_ready.1 hi;have hlt:i<ops.size:=(Array.getElem?_eq_some_iff.1 ho).1;have hni:i∉X:=fun hx=>by rw[(h.li i hlt).2 hx]at h1;cases h1
 have hw:∀j∈aF ops i,j∈X:=by
  intro j hj;simp only[aF,ho,ik]at hj;obtain⟨e,he,rfl⟩:=List.mem_map.1 hj;obtain⟨he1,he2⟩:=List.mem_filter.1 he;exact h.li' (h2 e (by simpa using he1) he2)
 refine⟨⟨List.nodup_cons.2 ⟨hni,h.nd⟩,?_,?_,by simpa using h.size,?_⟩,hni,o,ho,hw⟩
 ·intro j hj;rcases List.mem_cons.1 hj with rfl|hj
  ·exact hlt
  ·exact h.lt j hj
 ·intro j hj k hk;rcases List.mem_cons.1 hj with rfl|hj
  ·exact List.mem_cons_of_mem _ (hw k hk)
  ·exact List.mem_cons_of_mem _ (h.closed j hj k hk)
 ·intro j hj
  by_cases e:i=j
  ·subst e;have hs:i<listed.size:=by rw[h.size];exact hlt
   simp[Array.getD_eq_getD_getElem?,hs]
  ·rw[getD_set_ne _ e,h.li j hj];simp[Ne.symm e]

theorem AH{ops:Array Oper}{R:List RO}{st:St}{V:Nat→Rs}{X:List Nat}{listed:Array Bool}{i t:Nat}{r:RO}(hd:Bv P wv ops R st V)(h:eo P ops R X listed)(hr:R[i]?=some r)
  (hw:∀j∈aF ops i,j∈X) (hn:i∉X) (ht:t∈r.slots):lk (aA st (be R) V X).env t=lk (aA st (be R) V (cu i)).env t:=by
 have a:=cW (bD:=st) (V:=V) hd.inj (L:=X) (t:=t);have b:=cW (bD:=st) (V:=V) hd.inj (L:=cu i) (t:=t)
 by_cases he:∃j,be R j=some t
 ·obtain⟨j,hj⟩:=he;rcases hd.slot i r t hr ht j hj with⟨h1,h2⟩|⟨h1,h2⟩
  ·rw[a.1 j (hw j h2) hj,b.1 j (fB.2 h1) hj]
  ·have hx:j∉X:=fun hx=>hn (h.closed j hx i h2);rw[a.2 fun k hk e=>hx (hd.inj k j t e hj▸hk),b.2 fun k hk e=>by
    have:=hd.inj k j t e hj;have:=fB.1 hk;omega]
 ·rw[a.2 fun k _ e=>he ⟨k,e⟩,b.2 fun k _ e=>he ⟨k,e⟩]

end Go.Ax
