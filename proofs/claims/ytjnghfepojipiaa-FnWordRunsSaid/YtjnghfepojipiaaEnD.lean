/- THE ENGINE, PART 4: a generator of conditions over the register code, and its soundness. No condition. -/
import Derived.Test.YtjnghfepojipiaaEnC
import Derived.Great.BuildSlice
import Derived.Laws.StructEq
set_option linter.unusedSimpArgs false
set_option linter.unusedVariables false
set_option linter.unnecessarySimpa false
set_option linter.unusedSectionVars false
namespace Go.Ax

variable {P : Program} {n0 : Nat} {S0 M0 : Nat → Prop} {w0 : World}

theorem w5.weak{gb gb' ga:Gh}{usb usb' usa:List (Nat×U)}{own:Bool}{F:List Nat}(h:w5 n0 M0 own gb ga usb usa F)(hs:∀b,b∈fp gb usb→b∈fp gb' usb'):w5 n0 M0 own gb' ga usb' usa F:=
 ⟨fun e=>⟨(h.1 e).1,fun b hb=>⟨((h.1 e).2 b hb).1,((h.1 e).2 b hb).2.1,((h.1 e).2 b hb).2.2.1,hs b ((h.1 e).2 b hb).2.2.2⟩⟩,h.2⟩

theorem w5.nil{gb ga:Gh}{usb usa:List (Nat×U)}{own:Bool}:w5 n0 M0 own gb ga usb usa []:=⟨fun _=>⟨List.nodup_nil,by simp⟩,fun _=>by simp⟩

theorem jK{h:aE}:∀{ds:List D} {Fs cs},aK h ds Fs cs→aK h (ds.map D.cells).flatten Fs cs∧∀x∈(ds.map D.cells).flatten,x.size=1∧x.isAg=false
 | [],_,_,hr=>by simpa using hr
 |d::ds,_,_,hr=>by
  rw[cR]at hr;obtain⟨F1,F2,c1,c2,rfl,rfl,h1,h2⟩:=hr;obtain⟨q1,q2⟩:=pD h1;obtain⟨q3,q4⟩:=jK h2;simp only[lC,List.flatten_cons];exact⟨q1.append q3,fun x hx=>(List.mem_append.1 hx).elim (q2 x) (q4 x)⟩

theorem dK{h:aE}:∀{ds:List D} {F cs},af ds=true→aK h ds F cs→F=[]
 | [],_,_,_,hr=>by simp only[aK]at hr;exact hr.1
 |d::ds,_,_,hn,hr=>by
  simp only[aK]at hr;simp only[af,bA]at hn;obtain⟨F1,F2,c1,c2,rfl,rfl,h1,h2⟩:=hr;rw[cC hn.1 h1,dK hn.2 h2]
  rfl

mutual

theorem fR{h:aE}{bD:St}{tm:Nat→Value}{g0:Gh}(h0:aZ h n0 S0 M0 bD.us g0):∀{av:AV} {v:Value} {st:St} {g:Gh} {k:KT},cI h n0 S0 M0 bD st tm g0 g→ab h bD.us g0 av v→bo st av k→
  ∃own d st' g' F,k own d st'∧cI h n0 S0 M0 bD st' tm g0 g'∧aW h d F v.cells.toList∧d.fits v∧w5 n0 M0 own g g' st.us st'.us F∧(∀b,g'.Sh b↔g.Sh b)∧(∀b,b∈fp g' st'.us→b∈fp g st.us)
 |.im none d,v,st,g,k,T,hr,hk=>by
  simp only[bo]at hk;simp only[ab]at hr;obtain⟨F,r1,r2,r3⟩:=hr;refine⟨d.noPtr,d,st,g,F,hk,T,r1,r2,⟨fun hp=>?_,fun _ b hb=>T.sh b (fk (r3 b hb))⟩,fun _=>Iff.rfl,fun _ hb=>hb⟩;have:=cC hp r1;subst this;exact⟨List.nodup_nil,by simp⟩
 |.im (some i) d,v,st,g,k,T,hr,hk=>by
  simp only[bo]at hk;simp only[ab]at hr;obtain⟨F,r1,r2,r3⟩:=hr;have:=cC hk.1 r1;subst this;exact⟨true,d,st,g,[],hk.2,T,r1,r2,w5.nil,fun _=>Iff.rfl,fun _ hb=>hb⟩
 |.tr i,v,st,g,k,T,hr,hk=>by
  simp only[bo,mP]at hk
  split at hk
  ·next d hun=>
   simp only[ab]at hr;obtain⟨_,rfl⟩:=hr;have hm:=ay hun;have ho:=T.us.each _ hm;simp only[cm]at ho;have T':=T.del i;refine⟨true,d,st.del i,g.drop i,g.φ i,hk,T',by rw[←(T.gh _ _ hm).2.1];exact ho.2.1,by rw[←(T.gh _ _ hm).2.1];exact ho.2.2,⟨fun _=>⟨bZ T.us hm,fun b hb=>?_⟩,by simp⟩,fun _=>Iff.rfl,?_⟩
   ·have hfp:b∈fp g st.us:=aH.2 ⟨_,hm,hb⟩;exact⟨T.us.low b hfp,fun hs=>(T.us.sh b hs).2.2 hfp,jX T.us hm b hb,hfp⟩
   ·exact fun b hb=>(dg (g:=g) (g':=g.drop i) (fun j hj=>by simp[Gh.drop,hj])).subset hb
  ·exact hk.elim
 |.sm i off len,v,st,g,k,T,hr,hk=>by
  simp only[bo,pn]at hk
  split at hk
  ·next nn sz es hun=>
   obtain⟨⟨rfl,rfl⟩,hk⟩:=hk;have hm:=ay hun;have ho:=T.us.each _ hm;obtain⟨u0,hm0,hlike⟩:=T.mem _ _ hm;simp only[ab]at hr;obtain⟨ow0,nn0,sz0,es0,q1,q2,q3⟩:=hr;have:=h0.uniq hm0 q1;subst this;simp only[U.like]at hlike;obtain⟨rfl,hlen⟩:=hlike;obtain⟨gb,_,gc⟩:=T.gh _ _ hm;have T':=T.del i;have hfpφ:∀b∈g.φ i,(b<n0→M0 b)∧¬(g.drop i).Sh b∧b∉fp (g.drop i) (st.del i).us∧b∈fp g st.us:=fun b hb=>by
    have hfp:b∈fp g st.us:=aH.2 ⟨_,hm,hb⟩;exact⟨T.us.low b hfp,fun hs=>(T.us.sh b hs).2.2 hfp,jX T.us hm b hb,hfp⟩
   have hsub:∀b,b∈fp (g.drop i) (st.del i).us→b∈fp g st.us:=fun b hb=>(dg (g:=g) (g':=g.drop i) (fun j hj=>by simp[Gh.drop,hj])).subset hb;simp only[cm]at ho;obtain⟨hmax,hs,ho⟩:=ho;rcases ho with⟨p1,rfl,p3,p4⟩|⟨b,c,e,G,cs,rest,k1,k2,k3,k4,k5,k6,k7,k8⟩
   ·have hv:v=.slice none 0 0:=by
     rcases q3 with⟨b,q3,_⟩|⟨_,_,_,q3⟩
     ·rw[←gb,p1]at q3;cases q3
     ·exact q3
    subst hv;refine⟨true,_,st.del i,g.drop i,[],hk,T',?_,rfl,w5.nil,fun _=>Iff.rfl,hsub⟩;unfold aW;exact .inl ⟨none,by simp[Value.cells],rfl,rfl,fun _=>p4,by simp⟩
   ·have hv:v=.slice (some ⟨b,0,none⟩) es.length (g.cap i):=by
     rcases q3 with⟨b',q3,q4⟩|⟨q3,_⟩
     ·rw[←gb,k1]at q3;obtain rfl:=Option.some.inj q3;simpa[gc]using q4
     ·rw[←gb,k1]at q3;cases q3
    subst hv;simp only[if_true]at k8;refine⟨true,_,st.del i,g.drop i,b::G,hk,T',?_,rfl,⟨fun _=>⟨by rw[←k8];exact bZ T.us hm,fun x hx=>hfpφ x (by rw[k8];exact hx)⟩,by simp⟩,fun _=>Iff.rfl,hsub⟩;unfold aW;refine .inr ⟨b,0,g.cap i,c,e,(0,0),G,by simp[Value.cells],rfl,k7,k5,hmax,k2,by omega,hs,?_⟩;have l1:=k6.length;rw[D.sizeL_const hs]at l1;rw[k3,List.drop_zero,←l1];simpa using k6
  ·exact hk.elim
 |.cw i el j sz agg,v,st,g,k,T,hr,hk=>by
  simp only[bo,pC]at hk
  split at hk
  ·next nn usz es hun=>
   obtain⟨hag,hk⟩:=hk;have hm:=ay hun;have ho:=T.us.each _ hm;obtain⟨u0,hm0,hlike⟩:=T.mem _ _ hm;simp only[ab]at hr;obtain⟨nn0,sz0,es0,b,c,e,q1,q2,q3,q4,q5,q6,q7,q8,q9⟩:=hr;have:=h0.uniq hm0 q1;subst this;simp only[U.like]at hlike;obtain⟨rfl,hlen⟩:=hlike;obtain⟨gb,_,gc⟩:=T.gh _ _ hm;have q4':g.β i=some b:=by rw[gb];exact q4
   have hel:el<es.length:=by omega

   obtain⟨c',e',F2,c2,p1,p2,p3,p4,p5,p6,p7⟩:=lp (agg:=agg) T.us hm hel q4' q3 hag q7;rw[q5]at p1;injection p1 with p1;injection p1 with p1 p1';subst p1;have hvc:v.cells.toList=c2:=by rw[q8];exact w3 p3 p2
   simp only[cm]at ho;obtain⟨hmax,hs,ho⟩:=ho;rcases ho with⟨z1,_⟩|⟨b',c',e',G,cs,rest,k1,k2,k3,k4,k5,k6,k7,k8⟩
   ·rw[q4']at z1;cases z1
   rw[q4']at k1;obtain rfl:=Option.some.inj k1;rw[q5]at k2;injection k2 with k2;injection k2 with k2 k2';subst k2;simp only[if_true]at k8;have hone:∀x∈c2,x.oneCell'=true:=p4.one;obtain⟨j1,j2⟩:=Ga h sz agg q7 c2 p3 hone;have hw:j=0∧sz=sz0∨(D.at es el).isAg=true:=by
    by_cases hA:(D.at es el).isAg=true
    ·exact .inr hA
    ·have hsz1:(D.at es el).size=1:=by cases hD:D.at es el<;>simp_all [D.size,D.isAg]
     have:(D.at es el).size=sz0:=by rw[D.at_eq hel];exact hs _ (List.getElem_mem hel)
     have hagf:agg=false:=by cases agg<;>simp_all
     have:=q7 hagf
     left;omega
   obtain⟨A,B,C,rfl,y1,y2,y3⟩:=kB k6 j1 hs hel j2 q3 hw;have y3:=y3 agg hag q7;have hcs:(cs.drop (el*sz0+j)).take sz=c2:=by
    have h1:(c.toList.drop (el*sz0+j)).take sz=c2:=w3 p3 p2;have l6:=k6.length;rw[D.sizeL_const hs]at l6;have hle:el*sz0+sz0≤es.length*sz0:=by
     have:=Nat.mul_le_mul_right sz0 (show el+1≤es.length by omega);rw[Nat.add_mul]at this;omega
    rw[←h1,k3,List.drop_append_of_le_length (by omega),List.take_append_of_le_length (by simp;omega)]
   have hcs2:cs.take (el*sz0+j)++(c2++cs.drop (el*sz0+j+sz))=cs:=by
    have e1:cs.drop (el*sz0+j+sz)=(cs.drop (el*sz0+j)).drop sz:=by rw[List.drop_drop]
    rw[←hcs,e1,List.take_append_drop,List.take_append_drop]
   rw[hcs2]at y1;rw[hcs]at y3;have hnd:=bZ T.us hm;rw[k8]at hnd;have hfpA:∀x∈g.φ i,x∈fp g st.us:=fun x hx=>aH.2 ⟨_,hm,hx⟩;have hsubG:∀x∈A++([]++C),x∈g.φ i:=fun x hx=>by
    rw[k8];simp only[List.nil_append,List.mem_append,List.mem_cons]at hx⊢;rcases hx with hx|hx
    ·exact .inr (.inl hx)
    ·exact .inr (.inr (.inr hx))
   have hndG:(b::(A++([]++C))).Nodup:=by
    refine List.Sublist.nodup ?_ hnd;simp only[List.nil_append];exact List.Sublist.cons_cons _ (List.Sublist.append (List.Sublist.refl _) (List.sublist_append_right _ _))
   obtain⟨φ,hφ,hU,hK⟩:=T.us.updC (h':=h) hm q4' q5 rfl (fun _ _=>rfl) k4 (ow':=true) (es':=es.set el (D.put sz0 (D.at es el) j sz (CZ sz agg))) (by simp) y2 k3 y1
    (fun _ => ⟨hndG, fun x hx => by
     have h1:=hfpA x (hsubG x hx);exact⟨T.us.low x h1,fun hsx=>(T.us.sh x hsx).2.2 h1,fun y hy hne hxy=>hne (bF T.us.keys T.us.nodup hy hm hxy (hsubG x hx))⟩⟩) (by simp) (fun _ x hx=>T.us.fz x (hfpA x (hsubG x hx))) el rfl rfl (fun el' hne=>by simp[D.at,List.getD_eq_getElem?_getD,List.getElem?_set,Ne.symm hne])
   simp only[if_true]at hφ;have hfp':∀x,x∈fp (g.fp1 i φ) ((i,U.ar true nn sz0 (es.set el (D.put sz0 (D.at es el) j sz (CZ sz agg))))::aL i (AV.softC i el) st.us)→x∈fp g st.us∧x∉B:=by
    intro x hx;obtain⟨y,hy,hxy⟩:=aH.1 hx;rcases List.mem_cons.1 hy with rfl|hy
    ·simp only[Gh.fp1,if_true]at hxy;rw[hφ]at hxy;have hxi:x∈g.φ i:=by
      rcases List.mem_cons.1 hxy with rfl|hxy
      ·rw[k8];simp
      ·exact hsubG x hxy
     refine⟨hfpA x hxi,fun hxB=>?_⟩;rw[List.nodup_cons,List.nodup_append,List.nodup_append]at hnd;rcases List.mem_cons.1 hxy with rfl|hxy
     ·exact hnd.1 (by simp[hxB])
     ·simp only[List.nil_append,List.mem_append]at hxy;rcases hxy with hxy|hxy
      ·exact hnd.2.2.2 x hxy x (by simp[hxB]) rfl
      ·exact hnd.2.2.1.2.2 x hxB x hxy rfl
    ·obtain⟨hne,u',h1,h2⟩:=aQ hy;simp only[Gh.fp1,hne,if_false]at hxy;refine⟨aH.2 ⟨_,h1,hxy⟩,fun hxB=>hne (bF T.us.keys T.us.nodup h1 hm hxy ?_)⟩;rw[k8];simp[hxB]
   have T':cI h n0 S0 M0 bD (st.updC i el (.ar true nn sz0 (es.set el (D.put sz0 (D.at es el) j sz (CZ sz agg))))) tm g0 (g.fp1 i φ):=by
    refine⟨hU,fun t=>du (fun av v hf hr=>hK av v hf hr) (T.rep t),T.n,?_,?_,T.sh,fun x hx=>T.fp x (hfp' x hx).1⟩
    ·intro i' u hm';rcases List.mem_cons.1 hm' with e1|hm'
     ·injection e1 with e1 e2;subst e1;subst e2;exact⟨_,hm0,by simp[U.like,hlen]⟩
     ·obtain⟨hne,u',h1,h2⟩:=aQ hm';obtain⟨u0,h3,h4⟩:=T.mem _ _ h1;simp only at h2;rw[h2];exact⟨u0,h3,U.like_trans h4 (u'.like_kill _)⟩
    ·intro i' u hm';rcases List.mem_cons.1 hm' with e1|hm'
     ·injection e1 with e1 e2;subst e1;exact T.gh _ _ hm
     ·obtain⟨hne,u',h1,h2⟩:=aQ hm';exact T.gh _ _ h1
   have hB:∀x∈B,x∈g.φ i:=fun x hx=>by rw[k8];simp[hx]
   refine⟨true,_,_,_,B,hk,T',by rw[hvc];exact y3,?_,⟨fun _=>⟨?_,fun x hx=>⟨T.us.low x (hfpA x (hB x hx)),fun hs'=>(T.us.sh x hs').2.2 (hfpA x (hB x hx)),fun hx'=>(hfp' x hx').2 hx,hfpA x (hB x hx)⟩⟩,by simp⟩,fun _=>Iff.rfl,fun x hx=>(hfp' x hx).1⟩
   ·cases agg with
    |true=>simp only[if_true]at q9;rw[q9];exact oX p5
    |false=>exact fx p5 (by simpa using q9)
   ·rw[List.nodup_cons,List.nodup_append,List.nodup_append]at hnd;exact hnd.2.2.1.1
  ·exact hk.elim
 |.sg vs,v,st,g,k,T,hr,hk=>by
  simp only[bo]at hk;simp only[ab]at hr;obtain⟨xs,r1,rfl⟩:=hr;obtain⟨own,ds,st',g',F,p1,p2,p3,p4,p5,p6⟩:=xW h0 T r1 hk;refine⟨own,_,st',g',F,p1,p2,?_,⟨_,rfl⟩,p4,p5,p6⟩;obtain⟨q1,q2⟩:=jK p3;unfold aW;exact⟨q2,by simpa[Value.cells]using q1⟩
 |.pw _ _ _,_,_,_,_,_,_,hk=>by simp[bo]at hk
 |.vb _ _,_,_,_,_,_,_,hk=>by simp[bo]at hk
 |.pb _ _,_,_,_,_,_,_,hk=>by simp[bo]at hk
 |.ps _,_,_,_,_,_,_,hk=>by simp[bo]at hk
 |.tup _,_,_,_,_,_,_,hk=>by simp[bo]at hk
 |.any,_,_,_,_,_,_,hk=>by simp[bo]at hk
 |.cl _ _,_,_,_,_,_,_,hk=>by simp[bo]at hk
 |.pq _ _ _ _ _ _,_,_,_,_,_,_,hk=>by simp[bo]at hk
 |.qs _ _ _ _ _ _,_,_,_,_,_,_,hk=>by simp[bo]at hk
 |.ss _ _ _,_,_,_,_,_,_,hk=>by simp[bo]at hk
 |.z0 _ _,_,_,_,_,_,_,hk=>by simp[bo]at hk
theorem xW{h:aE}{bD:St}{tm:Nat→Value}{g0:Gh}(h0:aZ h n0 S0 M0 bD.us g0):∀{avs:List AV} {vs:List Value} {st:St} {g:Gh} {k:KL},cI h n0 S0 M0 bD st tm g0 g→ah h bD.us g0 avs vs→iH st avs k→
  ∃own ds st' g' F,k own ds st'∧cI h n0 S0 M0 bD st' tm g0 g'∧aK h ds F (vs.map (·.cells.toList)).flatten∧w5 n0 M0 own g g' st.us st'.us F∧(∀b,g'.Sh b↔g.Sh b)∧(∀b,b∈fp g' st'.us→b∈fp g st.us)
 | [],vs,st,g,k,T,hr,hk=>by
  simp only[iH]at hk;simp only[ah]at hr;subst hr;exact⟨true,[],st,g,[],hk,T,by simp[aK],w5.nil,fun _=>Iff.rfl,fun _ hb=>hb⟩
 |av::avs,vs,st,g,k,T,hr,hk=>by
  simp only[iH]at hk;simp only[ah]at hr;obtain⟨v,r,rfl,r1,r2⟩:=hr;obtain⟨b,d,st1,g1,F1,k1,T1,p1,p2,o1,s1,f1⟩:=fR h0 T r1 hk;obtain⟨c,ds,st2,g2,F2,k2,T2,p3,o2,s2,f2⟩:=xW h0 T1 r2 k1;obtain⟨q1,q2,hk2⟩:=k2;refine⟨_,d::ds,st2,g2,F1++F2,hk2,T2,?_,?_,fun x=>(s2 x).trans (s1 x),fun x hx=>f1 x (f2 x hx)⟩
  ·simp only[lC,List.flatten_cons,cR];exact⟨F1,F2,_,_,rfl,rfl,p1,p3⟩
  ·refine⟨fun e=>?_,fun e=>?_⟩
   ·simp only[xr,bA,Bool.or_eq_true]at e;have e1:F1=[]∨b=true:=by
     rcases e.1 with h1|h1
     ·exact .inr h1
     ·exact .inl (cC h1 p1)
    have e2:F2=[]∨c=true:=by
     rcases e.2 with h1|h1
     ·exact .inr h1
     ·exact .inl (dK h1 p3)
    have w1:F1.Nodup∧∀x∈F1,(x<n0→M0 x)∧¬g1.Sh x∧x∉fp g1 st1.us∧x∈fp g st.us:=by
     rcases e1 with rfl|h1
     ·exact⟨List.nodup_nil,by simp⟩
     ·exact o1.1 h1
    have w2:F2.Nodup∧∀x∈F2,(x<n0→M0 x)∧¬g2.Sh x∧x∉fp g2 st2.us∧x∈fp g1 st1.us:=by
     rcases e2 with rfl|h1
     ·exact⟨List.nodup_nil,by simp⟩
     ·exact o2.1 h1
    refine⟨List.nodup_append.2 ⟨w1.1,w2.1,fun x hx y hy exy=>(w1.2 x hx).2.2.1 (exy▸(w2.2 y hy).2.2.2)⟩,fun x hx=>?_⟩;rcases List.mem_append.1 hx with hx|hx
    ·obtain⟨z1,z2,z3,z4⟩:=w1.2 x hx;exact⟨z1,fun hs=>z2 ((s2 x).1 hs),fun hf=>z3 (f2 x hf),z4⟩
    ·obtain⟨z1,z2,z3,z4⟩:=w2.2 x hx;exact⟨z1,z2,z3,f1 x z4⟩
   ·simp only[xr,Bool.and_eq_false_iff,Bool.or_eq_false_iff]at e;intro x hx;rcases List.mem_append.1 hx with hx|hx
    ·cases hb:b with
     |false=>exact(s2 x).2 (o1.2 hb x hx)
     |true=>
      rcases e with e|e
      ·rw[hb]at e;cases e.1
      ·rcases q2 with h1|h1|h1
       ·rw[h1]at e;cases e.1
       ·rw[hb]at h1;cases h1
       ·rw[cC h1 p1]at hx;cases hx
    ·cases hc:c with
     |false=>exact o2.2 hc x hx
     |true=>
      rcases e with e|e
      ·rcases q1 with h1|h1|h1
       ·rw[h1]at e;cases e.1
       ·rw[hc]at h1;cases h1
       ·rw[dK h1 p3]at hx;cases hx
      ·rw[hc]at e;cases e.1
end

end Go.Ax
namespace Go.Ax

variable {P : Program} {n0 : Nat} {S0 M0 : Nat → Prop} {w0 : World}

def w4(f:St→AV→KT→Prop):Prop:=∀{h:aE} {bD:St} {tm:Nat→Value} {g0:Gh},aZ h n0 S0 M0 bD.us g0→∀{av:AV} {v:Value} {st:St} {g:Gh} {k:KT},cI h n0 S0 M0 bD st tm g0 g→ab h bD.us g0 av v→f st av k→
  ∃own d st' g' F,k own d st'∧cI h n0 S0 M0 bD st' tm g0 g'∧aW h d F v.cells.toList∧d.fits v∧w5 n0 M0 own g g' st.us st'.us F∧(∀b,g'.Sh b↔g.Sh b)∧(∀b,b∈fp g' st'.us→b∈fp g st.us)

theorem md{f:St→AV→KT→Prop}(hf:w4 (n0:=n0) (S0:=S0) (M0:=M0) f){h:aE}{bD:St}{tm:Nat→Value}{g0:Gh}(h0:aZ h n0 S0 M0 bD.us g0):∀{avs:List AV} {vs:List Value} {st:St} {g:Gh} {k:KL},cI h n0 S0 M0 bD st tm g0 g→ah h bD.us g0 avs vs→eF f st avs k→
  ∃own ds st' g' F,k own ds st'∧cI h n0 S0 M0 bD st' tm g0 g'∧aK h ds F (vs.map (·.cells.toList)).flatten∧w5 n0 M0 own g g' st.us st'.us F∧(∀b,g'.Sh b↔g.Sh b)∧(∀b,b∈fp g' st'.us→b∈fp g st.us)
 | [],vs,st,g,k,T,hr,hk=>by
  simp only[eF]at hk;simp only[ah]at hr;subst hr;exact⟨true,[],st,g,[],hk,T,by simp[aK],w5.nil,fun _=>Iff.rfl,fun _ hb=>hb⟩
 |av::avs,vs,st,g,k,T,hr,hk=>by
  simp only[eF]at hk;simp only[ah]at hr;obtain⟨v,r,rfl,r1,r2⟩:=hr;obtain⟨b,d,st1,g1,F1,k1,T1,p1,p2,o1,s1,f1⟩:=hf h0 T r1 hk;obtain⟨c,ds,st2,g2,F2,k2,T2,p3,o2,s2,f2⟩:=md hf h0 T1 r2 k1;obtain⟨q1,q2,hk2⟩:=k2;refine⟨_,d::ds,st2,g2,F1++F2,hk2,T2,?_,?_,fun x=>(s2 x).trans (s1 x),fun x hx=>f1 x (f2 x hx)⟩
  ·simp only[lC,List.flatten_cons,cR];exact⟨F1,F2,_,_,rfl,rfl,p1,p3⟩
  ·refine⟨fun e=>?_,fun e=>?_⟩
   ·simp only[xr,bA,Bool.or_eq_true]at e;have e1:F1=[]∨b=true:=by
     rcases e.1 with h1|h1
     ·exact .inr h1
     ·exact .inl (cC h1 p1)
    have e2:F2=[]∨c=true:=by
     rcases e.2 with h1|h1
     ·exact .inr h1
     ·exact .inl (dK h1 p3)
    have w1:F1.Nodup∧∀x∈F1,(x<n0→M0 x)∧¬g1.Sh x∧x∉fp g1 st1.us∧x∈fp g st.us:=by
     rcases e1 with rfl|h1
     ·exact⟨List.nodup_nil,by simp⟩
     ·exact o1.1 h1
    have w2:F2.Nodup∧∀x∈F2,(x<n0→M0 x)∧¬g2.Sh x∧x∉fp g2 st2.us∧x∈fp g1 st1.us:=by
     rcases e2 with rfl|h1
     ·exact⟨List.nodup_nil,by simp⟩
     ·exact o2.1 h1
    refine⟨List.nodup_append.2 ⟨w1.1,w2.1,fun x hx y hy exy=>(w1.2 x hx).2.2.1 (exy▸(w2.2 y hy).2.2.2)⟩,fun x hx=>?_⟩;rcases List.mem_append.1 hx with hx|hx
    ·obtain⟨z1,z2,z3,z4⟩:=w1.2 x hx;exact⟨z1,fun hs=>z2 ((s2 x).1 hs),fun hf=>z3 (f2 x hf),z4⟩
    ·obtain⟨z1,z2,z3,z4⟩:=w2.2 x hx;exact⟨z1,z2,z3,f1 x z4⟩
   ·simp only[xr,Bool.and_eq_false_iff,Bool.or_eq_false_iff]at e;intro x hx;rcases List.mem_append.1 hx with hx|hx
    ·cases hb:b with
     |false=>exact(s2 x).2 (o1.2 hb x hx)
     |true=>
      rcases e with e|e
      ·rw[hb]at e;cases e.1
      ·rcases q2 with h1|h1|h1
       ·rw[h1]at e;cases e.1
       ·rw[hb]at h1;cases h1
       ·rw[cC h1 p1]at hx;cases hx
    ·cases hc:c with
     |false=>exact o2.2 hc x hx
     |true=>
      rcases e with e|e
      ·rcases q1 with h1|h1|h1
       ·rw[h1]at e;cases e.1
       ·rw[hc]at h1;cases h1
       ·rw[dK h1 p3]at hx;cases hx
      ·rw[hc]at e;cases e.1

theorem cI.trans{h:aE}{bD st st':St}{tm:Nat→Value}{g0 g g':Gh}(A:cI h n0 S0 M0 bD st tm g0 g)(B:cI h n0 S0 M0 st st' tm g g'):cI h n0 S0 M0 bD st' tm g0 g':=by
 refine⟨B.us,B.rep,B.n.trans A.n,?_,?_,fun b hb=>B.sh b (A.sh b hb),fun b hb=>A.fp b (B.fp b hb)⟩
 ·intro i u hm;obtain⟨u1,h1,l1⟩:=B.mem i u hm;obtain⟨u0,h2,l2⟩:=A.mem i u1 h1;exact⟨u0,h2,U.like_trans l2 l1⟩
 ·intro i u hm;obtain⟨u1,h1,_⟩:=B.mem i u hm;obtain⟨b1,b2,b3⟩:=B.gh i u hm;obtain⟨a1,a2,a3⟩:=A.gh i u1 h1;exact⟨b1.trans a1,b2.trans a2,b3.trans a3⟩

theorem CB{f:St→AV→KT→Prop}(hf:w4 (n0:=n0) (S0:=S0) (M0:=M0) f){h:aE}{bD:St}{tm:Nat→Value}{g0:Gh}(h0:aZ h n0 S0 M0 bD.us g0){i len:Nat}{v:Value}{st:St}{g:Gh}{k:KT}
  (T:cI h n0 S0 M0 bD st tm g0 g) (hr:ab h bD.us g0 (.vb i len) v) (hk:nF f (st.unit i) i len st k):
  ∃own d st' g' F,k own d st'∧cI h n0 S0 M0 bD st' tm g0 g'∧aW h d F v.cells.toList∧d.fits v∧w5 n0 M0 own g g' st.us st'.us F∧(∀b,g'.Sh b↔g.Sh b)∧(∀b,b∈fp g' st'.us→b∈fp g st.us):=by
 unfold nF at hk
 split at hk
 ·next sz items hun=>
  obtain⟨hlen,hk⟩:=hk;have hm:=ay hun;have ho:=T.us.each _ hm;obtain⟨u0,hm0,hlike⟩:=T.mem _ _ hm;simp only[ab]at hr;obtain⟨sz0,items0,b,r1,r2,r3,rfl⟩:=hr;obtain⟨gb,_,_⟩:=T.gh _ _ hm;simp only[cm]at ho;obtain⟨hmax,b',c,e,vs,rest,k1,k2,k3,k4,k5,k6⟩:=ho;rw[gb,r3]at k1;obtain rfl:=Option.some.inj k1;have T1:cI h n0 S0 M0 st (st.del i) tm g (g.drop i):=(cI.refl T.us T.rep).del i;obtain⟨own,ds,st',g',F,p1,T2,p3,p4,p5,p6⟩:=md hf T.us T1 k4 hk;obtain⟨⟨hpos,rfl,hsz⟩,p1⟩:=p1;have hsub:∀x,x∈fp (g.drop i) (st.del i).us→x∈fp g st.us:=fun x hx=>(dg (g:=g) (g':=g.drop i) (fun j hj=>by simp[Gh.drop,hj])).subset hx;have hbφ:b∈g.φ i:=by rw[k3];simp
  have hbfp:b∈fp g st.us:=aH.2 ⟨_,hm,hbφ⟩;have hbn:b∉fp (g.drop i) (st.del i).us:=jX T.us hm b hbφ;have l1:=p3.length;rw[D.sizeL_const hsz]at l1;have l2:(vs.map (·.cells.toList)).flatten.length=vs.length*sz:=by
   have:∀vs:List Value,(∀v∈vs,v.cells.size=sz)→(vs.map (·.cells.toList)).flatten.length=vs.length*sz:=by
    intro vs
    induction vs with
    |nil=>simp
    |cons x vs ih=>
     intro hx;simp only[lC,List.flatten_cons,lP,Array.length_toList,lK,hx x (by simp),ih fun y hy=>hx y (by simp[hy]),Nat.add_mul];omega
   exact this vs (k5 hpos)
  have l3:∀{as:List AV} {vs:List Value},ah h st.us g as vs→vs.length=as.length:=by
   intro as
   induction as with
   |nil=>intro vs hr;simp only[ah]at hr;simp[hr]
   |cons a as ih=>
    intro vs hr;simp only[ah]at hr;obtain⟨v,r,rfl,_,h2⟩:=hr;simp[ih h2]
  have l4:=l3 k4;refine⟨true,_,st',g',b::F,p1,T.trans T2,?_,by simp[D.fits,Value.oneCell'],⟨fun _=>⟨?_,?_⟩,by simp⟩,p5,fun x hx=>hsub x (p6 x hx)⟩
  ·unfold aW;have hdl:ds.length=len:=by
    rw[hlen,←l4];exact Nat.eq_of_mul_eq_mul_right hpos (l1.symm.trans l2)
   refine .inr ⟨b,0,len,c,e,(0,0),F,by simp[Value.cells,hdl],rfl,by simp,by omega,by omega,k2,?_,hsz,?_⟩
   ·have:c.toList.length=_:=congrArg List.length k6;rw[lP,l2,l4,←hlen]at this;simp at this;omega
   ·rw[k6,List.drop_zero,hdl];rw[List.take_left' (by rw[l2,l4,hlen])];exact p3
  ·exact List.nodup_cons.2 ⟨fun hb=>hbn ((p4.1 rfl).2 b hb).2.2.2,(p4.1 rfl).1⟩
  ·intro x hx;rcases List.mem_cons.1 hx with rfl|hx
   ·exact⟨T.us.low x hbfp,fun hs=>(T.us.sh x ((p5 x).1 hs)).2.2 hbfp,fun hf=>hbn (p6 x hf),hbfp⟩
   ·obtain⟨z1,z2,z3,z4⟩:=(p4.1 rfl).2 x hx;exact⟨z1,z2,z3,hsub x z4⟩
 ·exact hk.elim

theorem Bd{h:aE}{bD:St}{tm:Nat→Value}{g0:Gh}{d:D}{v:Value}{st:St}{g:Gh}{k:KT}(T:cI h n0 S0 M0 bD st tm g0 g)(hr:ab h bD.us g0 (.im none d) v)(hk:k d.flat d st):
  ∃own d' st' g' F,k own d' st'∧cI h n0 S0 M0 bD st' tm g0 g'∧aW h d' F v.cells.toList∧d'.fits v∧w5 n0 M0 own g g' st.us st'.us F∧(∀b,g'.Sh b↔g.Sh b)∧(∀b,b∈fp g' st'.us→b∈fp g st.us):=by
 simp only[ab]at hr;obtain⟨F,r1,r2,r3⟩:=hr;refine⟨d.flat,d,st,g,F,hk,T,r1,r2,⟨fun hp=>?_,fun _ b hb=>T.sh b (fk (r3 b hb))⟩,fun _=>Iff.rfl,fun _ hb=>hb⟩;have:=cC (D.flat_noPtr hp) r1;subst this;exact⟨List.nodup_nil,by simp⟩
theorem ju:∀n:Nat,w4 (n0:=n0) (S0:=S0) (M0:=M0) (cp n)
 |0=>by
  intro h0 av _ _ _ _ T hr hk;cases av with
  |im t d=>
   cases t with
   |none=>exact Bd T hr (by simpa only[cp]using hk)
   |some i=>exact fR h0 T hr (by simpa only[cp]using hk)
  |_=>exact fR h0 T hr (by simpa only[cp]using hk)
 |n+1=>by
  intro h0 av _ _ _ _ T hr hk;cases av with
  |im t d=>
   cases t with
   |none=>exact Bd T hr (by simpa only[cp]using hk)
   |some i=>exact fR h0 T hr (by simpa only[cp]using hk)
  |vb i len=>exact CB (ju n) h0 T hr (by simpa only[cp]using hk)
  |sg vs=>
   simp only[cp]at hk;simp only[ab]at hr;obtain⟨xs,r1,rfl⟩:=hr;obtain⟨own,ds,st',g',F,p1,p2,p3,p4,p5,p6⟩:=md (ju n) h0 T r1 hk;refine⟨own,_,st',g',F,p1,p2,?_,⟨_,rfl⟩,p4,p5,p6⟩;obtain⟨q1,q2⟩:=jK p3;unfold aW;exact⟨q2,by simpa[Value.cells]using q1⟩
  |_=>exact fR h0 T hr (by simpa only[cp]using hk)

end Go.Ax
namespace Go.Ax

variable {P : Program} {n0 : Nat} {S0 M0 : Nat → Prop} {w0 : World}
variable {st : St} {o : Oper} {a : Act} {w : World} {k : KQ} {Q' : Exit → Act → World → Prop} {g : Gh}

def dz(n0:Nat)(S0 M0:Nat→Prop)(w0:World)(n:Nat)(f:St→Prop)(a':Act)(w':World):Prop:=∃st',st'.n=n∧f st'∧dH n0 S0 M0 w0 st' a' w'

theorem rX{t:TypeId}{sz:Nat}(hz:dv P t=some sz){b off:Nat}{v:Value}(hv:v.cells.size=sz){c:Array Value}{e:TypeId}(hb:w.heap[b]?=some (.cells c e (0,0)))(hl:off+sz≤c.size)
  (h1:∀x∈v.cells.toList,x.oneCell'=true):(Instr.storeAt t (.pointer (some ⟨b,off,none⟩)) v).run P w=.ok () (w.setRow b (c.toList.take off++v.cells.toList++c.toList.drop (off+sz)).toArray):=by
 have:=run_storeCells_at P b off e v.cells.toList 0 c w hb (by simp;omega) h1;have hs:v.cells.toList.length=sz:=by simpa using hv
 simp only[Nat.add_zero,hs]at this;simp[Instr.storeAt,Instr.sureAddr,storeVar,hZ hz,hv,this]

theorem sJ{own ow fl eq dn:Bool}{F G:List Nat}(hf:fl=true→F=[])(hd:dn=true→F=[])(hG:eq=true→G=[])(hc:own=ow∨dn=true∨eq=true):
  (aq own ow fl eq=true→(F=[]∨own=true)∧(G=[]∨ow=true))∧(aq own ow fl eq=false→(F=[]∨own=false)∧(G=[]∨ow=false)):=by
 unfold aq;cases fl<;>cases eq<;>cases dn<;>cases own<;>cases ow<;>simp_all

theorem O8(h:At n0 S0 M0 w0 st o a w g){t u1 u2:TypeId}{sz:Nat}{p x:Operand}{A X:Ax.X}{f:St→Prop}(hne:∀id el j isz el' j',st.ev A≠.pq id el j isz el' j')(ho:o.op=.store t p x)(hd:o.dst=none)(hp:aU P u1 p=some A)(hx:aU P u2 x=some X)
  (hz:dv P t=some sz) (hq:Fh (st.ev A) (st.ev X) st sz f):o.wp P a w (dz n0 S0 M0 w0 st.n f) Q':=by
 have ep:=h.ev_ hp;have ex:=h.ev_ hx;unfold Fh at hq
 split at hq
 ·next id el j e1=>
  rw[e1]at ep;simp only[ab]at ep;obtain⟨ow0,nn0,usz0,es0,b,r1,r2,r3,r4,hv⟩:=ep;obtain⟨own,d,st',g',F,hk,T,p1,p2,p3,p4,p5⟩:=ju 12 h.us (cI.refl h.us h.rep) ex hq;simp only[H2,K1]at hk
  split at hk
  ·next ow nn usz es hun=>
   obtain⟨⟨q1,q2,q3,q4,q5⟩,hf⟩:=hk;have hm:=ay hun;obtain⟨u0,hm0,hlike⟩:=T.mem _ _ hm;have:=h.us.uniq hm0 r1;subst this;simp only[U.like]at hlike;obtain⟨rfl,hlen⟩:=hlike;obtain⟨gb,_,gc⟩:=T.gh _ _ hm;have hβ:g'.β id=some b:=by rw[gb];exact r4
   have hU:=T.us.each _ hm;simp only[cm]at hU;obtain⟨hmax,hs,hU⟩:=hU;rcases hU with⟨z1,_⟩|⟨b',c,e,G,cs,rest,k1,k2,k3,k4,k5,k6,k7,k8⟩
   ·rw[hβ]at z1;cases z1
   rw[hβ]at k1;obtain rfl:=Option.some.inj k1;have hvc:(a.eval x).cells.size=sz:=by
    have:=p1.length;simp at this;omega
   have hle:el*usz0+usz0≤es.length*usz0:=by
    have:=Nat.mul_le_mul_right usz0 (show el+1≤es.length by omega);rw[Nat.add_mul]at this;omega
   have hle2:es.length*usz0≤g'.cap id*usz0:=Nat.mul_le_mul_right _ k5;have hcl:=k6.length;rw[D.sizeL_const hs]at hcl;have hrun:=rX (P:=P) (w:=w) hz (off:=el*usz0+j) hvc k2 (by omega) p1.one;obtain⟨A1,B1,C1,rfl,y1,y2,_⟩:=kB k6 p1 hs q3 q1 q2 q4;have hc':(c.toList.take (el*usz0+j)++(a.eval x).cells.toList++c.toList.drop (el*usz0+j+sz)).toArray.toList=
     (cs.take (el*usz0+j)++((a.eval x).cells.toList++cs.drop (el*usz0+j+sz)))++rest:=by
    simp only[k3];rw[List.take_append_of_le_length (by omega),List.drop_append_of_le_length (by omega)];simp
   have hsize:(c.toList.take (el*usz0+j)++(a.eval x).cells.toList++c.toList.drop (el*usz0+j+sz)).toArray.size=g'.cap id*usz0:=by
    have:c.toList.length=g'.cap id*usz0:=by simpa using k4
    simp only[List.size_toArray,lP,List.length_take,List.length_drop,Array.length_toList,hvc];simp at this;omega
   have hbfp:b∈g'.φ id:=by
    cases ow
    ·simp only[fq,if_false]at k8;rw[k8.1];simp
    ·simp only[if_true]at k8;rw[k8];simp
   have hφfp:∀y∈g'.φ id,y∈fp g' st'.us:=fun y hy=>aH.2 ⟨_,hm,hy⟩

   obtain⟨mt,mf⟩:=sJ (own:=own) (ow:=ow) (fl:=d.flat) (eq:=af es) (dn:=d.noPtr) (F:=F) (G:=A1++(B1++C1)) (fun h=>cC (D.flat_noPtr h) p1) (fun h=>cC h p1) (fun h=>dK h k6) q5;have hcases:aq own ow d.flat (af es)=true→(F=[]∨own=true)∧((ow=true∧g'.φ id=b::(A1++(B1++C1)))∨(A1=[]∧C1=[])):=by
    intro hmo;obtain⟨h1,h2⟩:=mt hmo;refine⟨h1,?_⟩;rcases h2 with h2|h2
    ·right;simp at h2;exact⟨h2.1,h2.2.2⟩
    ·left;rw[h2]at k8;exact⟨h2,by simpa using k8⟩
   have hownC:aq own ow d.flat (af es)=true→(b::(A1++(F++C1))).Nodup∧∀y∈A1++(F++C1),(y<n0→M0 y)∧¬g'.Sh y∧∀z∈st'.us,z.1≠id→y∉g'.φ z.1:=by
    intro hmo;obtain⟨hF,hAC⟩:=hcases hmo;have hFF:F.Nodup∧∀y∈F,(y<n0→M0 y)∧¬g'.Sh y∧y∉fp g' st'.us:=by
     rcases hF with rfl|e
     ·exact⟨List.nodup_nil,by simp⟩
     ·exact⟨(p3.1 e).1,fun y hy=>⟨((p3.1 e).2 y hy).1,((p3.1 e).2 y hy).2.1,((p3.1 e).2 y hy).2.2.1⟩⟩
    rcases hAC with⟨_,hφ⟩|⟨rfl,rfl⟩
    ·have hnd:=bZ T.us hm;rw[hφ]at hnd;have hAin:∀y∈A1,y∈g'.φ id:=fun y hy=>by rw[hφ];simp[hy]
     have hCin:∀y∈C1,y∈g'.φ id:=fun y hy=>by rw[hφ];simp[hy]
     rw[List.nodup_cons,List.nodup_append,List.nodup_append]at hnd;refine⟨?_,?_⟩
     ·rw[List.nodup_cons,List.nodup_append,List.nodup_append];refine⟨?_,hnd.2.1,⟨hFF.1,hnd.2.2.1.2.1,?_⟩,?_⟩
      ·simp only[List.mem_append,not_or];refine⟨fun hy=>hnd.1 (by simp[hy]),fun hy=>(hFF.2 b hy).2.2 (hφfp b hbfp),fun hy=>hnd.1 (by simp[hy])⟩
      ·rintro y hy z hz rfl;exact(hFF.2 y hy).2.2 (hφfp y (hCin y hz))
      ·rintro y hy z hz rfl;rcases List.mem_append.1 hz with hz|hz
       ·exact(hFF.2 y hz).2.2 (hφfp y (hAin y hy))
       ·exact hnd.2.2.2 y hy y (by simp[hz]) rfl
     ·intro y hy;have hcase:y∈g'.φ id∨y∈F:=by
       simp only[List.mem_append]at hy;rcases hy with hy|hy|hy
       ·exact .inl (hAin y hy)
       ·exact .inr hy
       ·exact .inl (hCin y hy)
      rcases hcase with hy|hy
      ·have h1:=hφfp y hy;exact⟨T.us.low y h1,fun hsx=>(T.us.sh y hsx).2.2 h1,fun z hz hne hyz=>hne (bF T.us.keys T.us.nodup hz hm hyz hy)⟩
      ·obtain⟨z1,z2,z3⟩:=hFF.2 y hy;exact⟨z1,z2,fun z hz hne hyz=>z3 (aH.2 ⟨z,hz,hyz⟩)⟩
    ·simp only[List.nil_append,List.append_nil];refine⟨List.nodup_cons.2 ⟨fun hy=>(hFF.2 b hy).2.2 (hφfp b hbfp),hFF.1⟩,fun y hy=>?_⟩;obtain⟨z1,z2,z3⟩:=hFF.2 y hy;exact⟨z1,z2,fun z hz hne hyz=>z3 (aH.2 ⟨z,hz,hyz⟩)⟩
   have hzC:aq own ow d.flat (af es)=true→∀y∈A1++(F++C1),kp w.heap y:=by
    intro hmo y hy;obtain⟨hF,hAC⟩:=hcases hmo;have hAC':y∈A1∨y∈C1→y∈g'.φ id:=by
     rcases hAC with⟨_,hφ⟩|⟨rfl,rfl⟩
     ·rw[hφ];rintro(h|h)<;>simp[h]
     ·simp
    simp only[List.mem_append]at hy;rcases hy with hy|hy|hy
    ·exact T.us.fz y (hφfp y (hAC' (.inl hy)))
    ·rcases hF with rfl|e
     ·cases hy
     ·exact h.us.fz y ((p3.1 e).2 y hy).2.2.2
    ·exact T.us.fz y (hφfp y (hAC' (.inr hy)))
   have hshC:aq own ow d.flat (af es)=false→∀y∈A1++(F++C1),g'.Sh y:=by
    intro hmo;obtain⟨hF,h2⟩:=mf hmo;have hAC:(∀y∈A1,g'.Sh y)∧∀y∈C1,g'.Sh y:=by
     rcases h2 with h2|h2
     ·simp at h2;rw[h2.1,h2.2.2];simp
     ·rw[h2]at k8;simp only[fq,if_false]at k8;exact⟨fun y hy=>k8.2 y (by simp[hy]),fun y hy=>k8.2 y (by simp[hy])⟩
    intro y hy;simp only[List.mem_append]at hy;rcases hy with hy|hy|hy
    ·exact hAC.1 y hy
    ·rcases hF with rfl|e
     ·cases hy
     ·exact p3.2 e y hy
    ·exact hAC.2 y hy
   obtain⟨φ,hφ,hU2,hK⟩:=T.us.upd (h':=(w.setRow b (c.toList.take (el*usz0+j)++(a.eval x).cells.toList++c.toList.drop (el*usz0+j+sz)).toArray).heap) hm hβ (setRow_heap w b c _ e _ k2) (setRow_size _ _ _)
    (fun y hy=>setRow_other w b y _ hy) hsize (ow':=aq own ow d.flat (af es)) (es':=es.set el (D.put usz0 (D.at es el) j sz d)) (by simp) y2 hc' y1 hownC hshC hzC
   unfold Oper.wp;have hrun':(execOp a.eval o).run P w=.ok .skip (w.setRow b (c.toList.take (el*usz0+j)++(a.eval x).cells.toList++c.toList.drop (el*usz0+j+sz)).toArray):=by
    simp[execOp,ho,hv,hrun]
   rw[hrun',Oper.upon_skip,hd];have hs0:=h.sat;refine⟨st'.upd id (.ar (aq own ow d.flat (af es)) nn usz0 (es.set el (D.put usz0 (D.at es el) j sz d))),T.n,hf,hs0.ms,hs0.dfr,?_,hs0.base,hs0.os,hs0.tape,hs0.output,?_,?_,g'.fp1 id φ,hU2,fun t=>du (fun av v hf hr=>ab.keepS hK hf hr) (T.rep t)⟩
   ·show a.tmps.size=_
    rw[hs0.tm];exact T.n.symm
   ·rw[setRow_size];exact hs0.size
   ·intro y hy hmy;have:y≠b:=by
     rintro rfl;exact hmy (T.us.low y (hφfp y hbfp) hy)
    rw[setRow_other w b y _ this];exact hs0.old y hy hmy
  ·exact hk.elim
 ·next id el j isz el' j' e1=>exact absurd e1 (hne _ _ _ _ _ _)
 ·exact hq.elim

end Go.Ax
namespace Go.Ax

variable {P : Program} {n0 : Nat} {S0 M0 : Nat → Prop} {w0 : World}
variable {st : St} {o : Oper} {a : Act} {w : World} {k : KQ} {Q' : Exit → Act → World → Prop} {g : Gh}

def mG(z:List Value):Nat→List (Nat×List Value)→List Value
 |o,[]=>z.drop o
 |o,(p,c)::r=>(z.drop o).take (p-o)++c++mG z (p+c.length) r

theorem DX(off:Nat):∀(l:List Value)(k:Nat)(cs:Array Value),off+k+l.length≤cs.size→
  ((l.zipIdx k).foldl (fun cs x=>cs.setIfInBounds (off+x.2) x.1) cs).toList=cs.toList.take (off+k)++l++cs.toList.drop (off+k+l.length)
 | [],k,cs,h=>by simp
 |c::l,k,cs,h=>by
  simp only[lK]at h;rw[List.zipIdx_cons,List.foldl_cons,DX off l (k+1) _ (by simp;omega)];simp only[Array.toList_setIfInBounds,lK];have h1:off+k<cs.toList.length:=by simp;omega
  rw[show off+(k+1)=off+k+1 by omega,List.take_succ_eq_append_getElem (by simpa using h1)];rw[List.getElem_set_self,List.take_set_of_le (by omega),List.drop_set_of_lt (by omega)];rw[show off+k+1+l.length=off+k+(l.length+1)by omega];simp

theorem rL{lp:Nat→Option (Nat×Nat)}{z:List Value}{off:Nat→Nat}:∀(ps:List (Nat×Value))(o:Nat)(cs:Array Value)(pre:List Value),
  cs.toList=pre++z.drop o→pre.length=o→o≤z.length→(∀p∈ps,lp p.1=some (off p.1,p.2.cells.size))→
  jx z.length o (ps.map fun p=>(off p.1,p.2.cells.size))=true→
  ∃cs',Instr.fill lp cs ps=some cs'∧cs'.toList=pre++mG z o (ps.map fun p=>(off p.1,p.2.cells.toList))
 | [],o,cs,pre,h1,h2,h3,_,_=>⟨cs,rfl,by simp[mG,h1]⟩
 |(i,v)::ps,o,cs,pre,h1,h2,h3,hp,hs=>by
  simp only[lC,jx,bA,decide_eq_true_eq]at hs;obtain⟨⟨s1,s2⟩,s3⟩:=hs;have hsz:cs.size=z.length:=by
   have:=congrArg List.length h1;simp at this;omega
  have hset:=DX (off i) v.cells.toList 0 cs (by simp;omega);have hcs2:(v.cells.zipIdx.foldl (fun cs x=>cs.setIfInBounds (off i+x.2) x.1) cs).toList=(pre++(z.drop o).take (off i-o)++v.cells.toList)++z.drop (off i+v.cells.size):=by
   rw[←Array.foldl_toList,Array.toList_zipIdx,hset,h1];simp only[Nat.add_zero,Array.length_toList];rw[List.take_append,List.drop_append,h2,List.take_of_length_le (show pre.length≤off i by omega),List.drop_eq_nil_of_le (show pre.length≤off i+v.cells.size by omega)];simp[show o+(off i+v.cells.size-o)=off i+v.cells.size by omega]
  obtain⟨cs',f1,f2⟩:=rL ps (off i+v.cells.size) _ _ hcs2 (by simp;omega) (by omega) (fun p hp'=>hp p (by simp[hp'])) s3;refine⟨cs',?_,?_⟩
  ·simp only[Instr.fill,hp (i,v) (by simp)];rw[if_neg (by simp;omega)];exact f1
  ·rw[f2];simp[mG]

theorem wA{h:aE}{us:List (Nat×U)}(hu:aZ h n0 S0 M0 us g){av:AV}{v:Value}{s:Nat}(hr:ab h us g av v)(hs:AV.size (lu us) av=s)(h0:s≠0):v.cells.size=s:=by
 cases av with
 |im t d=>
  simp only[ab]at hr;obtain⟨F,r1,_⟩:=hr;have:=r1.length;simp only[AV.size]at hs;simpa[hs]using this
 |tr i=>
  simp only[AV.size]at hs
  split at hs
  ·next d hd=>
   simp only[ab]at hr;obtain⟨_,rfl⟩:=hr;have ho:=hu.each _ (ay hd);simp only[cm]at ho;have:=ho.2.1.length;simpa[hs]using this
  ·exact absurd hs.symm h0
 |pw id el j=>
  simp only[ab]at hr;obtain⟨_,_,_,_,_,_,_,_,_,rfl⟩:=hr;simp only[AV.size]at hs;simp[Value.cells,hs]
 |cw id el j sz agg=>
  simp only[ab]at hr;obtain⟨nn,usz,es,b,c,e,r1,r2,r3,r4,r5,r6,r7,r8,r9⟩:=hr;simp only[AV.size]at hs;subst hs;have ho:=hu.each _ r1;simp only[cm]at ho;rcases ho.2.2 with⟨q1,_⟩|⟨b',c',e',G,cs,rest,q1,q2,q3,q4,q5,_⟩
  ·rw[r4]at q1;cases q1
  ·rw[r4]at q1;obtain rfl:=Option.some.inj q1;rw[r5]at q2;injection Option.some.inj q2 with q2 _ _;subst q2;have hle:(el+1)*usz≤g.cap id*usz:=Nat.mul_le_mul_right _ (by omega);rw[Nat.add_mul,Nat.one_mul]at hle;have:=congrArg List.length r8;simp at this;omega
 |sm id off len=>
  simp only[ab]at hr;obtain⟨_,_,_,_,_,_,h1⟩:=hr;simp only[AV.size]at hs;rcases h1 with⟨b,_,rfl⟩|⟨_,_,_,rfl⟩<;>simp[Value.cells,hs]
 |vb id len=>
  simp only[ab]at hr;obtain⟨_,_,_,_,_,_,rfl⟩:=hr;simp only[AV.size]at hs;simp[Value.cells,hs]
 |ps id=>
  simp only[ab]at hr;obtain⟨_,_,_,_,_,_,rfl⟩:=hr;simp only[AV.size]at hs;simp[Value.cells,hs]
 |pb id j=>
  simp only[ab]at hr;obtain⟨_,_,_,_,_,rfl⟩:=hr;simp only[AV.size]at hs;simp[Value.cells,hs]
 |sg vs=>exact absurd hs.symm h0
 |tup vs=>exact absurd hs.symm h0
 |any=>exact absurd hs.symm h0
 |cl f vs=>
  simp only[ab]at hr;obtain⟨_,_,rfl⟩:=hr;simp only[AV.size]at hs;simp[Value.cells,hs]
 |pq id el j isz el' j'=>
  simp only[ab]at hr;obtain⟨_,_,_,_,_,_,_,_,_,_,_,_,_,_,_,_,_,rfl⟩:=hr;simp only[AV.size]at hs;simp[Value.cells,hs]
 |qs id el j isz off len=>
  simp only[ab]at hr;obtain⟨_,_,_,_,_,_,_,_,_,_,_,_,_,_,_,_,_,_,rfl⟩:=hr;simp only[AV.size]at hs;simp[Value.cells,hs]
 |ss id off len=>
  simp only[ab]at hr;simp only[AV.size]at hs;obtain⟨_,_,_,_,_,_,⟨_,_,_,_,rfl⟩|⟨_,_,rfl⟩⟩:=hr<;>simp[Value.cells,hs]
 |z0 nn sz=>
  simp only[ab]at hr;obtain⟨_,rfl,_⟩:=hr;simp only[AV.size]at hs;simp[Value.cells,hs]

theorem pT{h:aE}{us:List (Nat×U)}:∀{as bs:List AV} {xs ys:List Value},ah h us g as xs→ah h us g bs ys→ah h us g (as++bs) (xs++ys)
 | [],_,_,_,h1,h2=>by
  simp only[ah]at h1;subst h1;exact h2
 |a::as,bs,xs,ys,h1,h2=>by
  simp only[ah]at h1;obtain⟨v,r,rfl,h3,h4⟩:=h1;simp only[List.cons_append,ah];exact⟨v,r++ys,rfl,h3,pT h4 h2⟩

theorem s9{h:aE}{d:D}{F:List Nat}{cs:List Value}(hr:aW h d F cs)(h1:d.size=1∧d.isAg=false):∃c,cs=[c]∧c.oneCell'=true:=by
 have hl:=hr.length;rw[h1.1]at hl
 match cs,hl with
 | [c],_=>
  refine⟨c,rfl,?_⟩;cases d with
  |ag ds=>simp[D.isAg]at h1
  |sc v=>simp only[aW]at hr;obtain⟨_,hr,h2⟩:=hr;injection hr with hr;subst hr;exact h2
  |jk=>simp only[aW]at hr;obtain⟨_,v,hr,h2⟩:=hr;injection hr with hr;subst hr;exact h2
  |ls nn sz ds=>
   simp only[aW]at hr;rcases hr with⟨p,hr,_⟩|⟨b,off,cap,c',e,fr,F',hr,_⟩<;>(injection hr with hr;subst hr;rfl)
  |pt d j=>
   simp only[aW]at hr;obtain⟨b,off,c',e,fr,F',hr,_⟩:=hr;injection hr with hr;subst hr
   rfl
  |lc b o d=>exact hr.one _ (by simp)
  |fn f ds=>
   simp only[aW]at hr;obtain⟨vs,hr,_⟩:=hr;injection hr with hr;subst hr
   rfl

theorem Jk{h:aE}{us:List (Nat×U)}:∀{zs:List D} {zl:List Value},aK h zs [] zl→(∀d∈zs,d.size=1∧d.isAg=false)→
  ah h us g (zs.map jc) zl∧(zl.map (·.cells.toList)).flatten=zl
 | [],zl,hr,_=>by
  simp only[aK]at hr;simp[ah,hr.2]
 |d::zs,zl,hr,h1=>by
  simp only[aK]at hr;obtain⟨F1,F2,c1,c2,e1,rfl,r1,r2⟩:=hr;have e1:=e1.symm;simp only[List.append_eq_nil_iff]at e1;obtain⟨rfl,rfl⟩:=e1;obtain⟨c,rfl,hc⟩:=s9 r1 (h1 d (by simp));obtain⟨i1,i2⟩:=Jk (us:=us) r2 fun x hx=>h1 x (by simp[hx]);have hcc:=aS hc;refine⟨?_,?_⟩
  ·simp only[lC,ah];refine⟨c,c2,rfl,?_,i1⟩;unfold jc
   split<;>
   simp only[ab]<;>
   exact⟨[],by rw[hcc];exact r1,fx (h1 d (by simp)).2 hc,by simp⟩
  ·simp[hcc,i2]

theorem qt{h:aE}:∀{zs:List D} {zl:List Value} (n:Nat),aK h zs [] zl→(∀d∈zs,d.size=1∧d.isAg=false)→aK h (zs.drop n) [] (zl.drop n)
 |_,_,0,hr,_=>by simpa using hr
 | [],zl,n+1,hr,_=>by simp only[aK]at hr;simp[aK,hr.2]
 |d::zs,zl,n+1,hr,h1=>by
  simp only[aK]at hr;obtain⟨F1,F2,c1,c2,e1,rfl,r1,r2⟩:=hr;have e1:=e1.symm;simp only[List.append_eq_nil_iff]at e1;obtain⟨rfl,rfl⟩:=e1;obtain⟨c,rfl,hc⟩:=s9 r1 (h1 d (by simp));simpa using qt n r2 fun x hx=>h1 x (by simp[hx])
theorem vt{h:aE}:∀{zs:List D} {zl:List Value} (n:Nat),aK h zs [] zl→(∀d∈zs,d.size=1∧d.isAg=false)→aK h (zs.take n) [] (zl.take n)
 |_,_,0,hr,_=>by simp[aK]
 | [],zl,n+1,hr,_=>by simp only[aK]at hr;simp[aK,hr.2]
 |d::zs,zl,n+1,hr,h1=>by
  simp only[aK]at hr;obtain⟨F1,F2,c1,c2,e1,rfl,r1,r2⟩:=hr;have e1:=e1.symm;simp only[List.append_eq_nil_iff]at e1;obtain⟨rfl,rfl⟩:=e1;obtain⟨c,rfl,hc⟩:=s9 r1 (h1 d (by simp));simp only[List.take_succ_cons,aK,List.cons_append,List.nil_append];exact⟨[],[],[c],_,rfl,rfl,r1,vt n r2 fun x hx=>h1 x (by simp[hx])⟩

theorem yA{h:aE}{us:List (Nat×U)}{zs:List D}{zl:List Value}(hz:aK h zs [] zl)(hz1:∀d∈zs,d.size=1∧d.isAg=false):
  ∀(ps:List (Nat×Nat×AV))(vs:List Value)(o:Nat),ah h us g (ps.map (·.2.2)) vs→ps.map (·.2.1)=vs.map (·.cells.size)→
   ∃xs,ah h us g (tp zs o ps) xs∧(xs.map (·.cells.toList)).flatten=mG zl o (List.zipWith (fun p v=>(p.1,v.cells.toList)) ps vs)
 | [],vs,o,_,_=>by
  obtain⟨i1,i2⟩:=Jk (us:=us) (g:=g) (qt o hz hz1) fun d hd=>hz1 d (List.mem_of_mem_drop hd);exact⟨_,i1,by simpa only[mG,List.zipWith_nil_left]using i2⟩
 |(p,s,av)::ps,vs,o,hv,hs=>by
  simp only[lC,ah]at hv;obtain⟨v,r,rfl,h1,h2⟩:=hv;simp only[lC,List.cons.injEq]at hs;obtain⟨rfl,hs⟩:=hs;obtain⟨i1,i2⟩:=Jk (us:=us) (g:=g) (vt (p-o) (qt o hz hz1) fun d hd=>hz1 d (List.mem_of_mem_drop hd)) fun d hd=>hz1 d (List.mem_of_mem_drop (List.mem_of_mem_take hd));obtain⟨xs,j1,j2⟩:=yA hz hz1 ps r (p+v.cells.size) h2 hs;refine⟨(zl.drop o).take (p-o)++v::xs,?_,?_⟩
  ·simp only[tp];refine pT i1 ?_;simp only[ah];exact⟨v,xs,rfl,h1,j1⟩
  ·simp only[mG,List.zipWith_cons_cons,List.map_append,List.flatten_append,i2,lC,List.flatten_cons,j2,Array.length_toList,List.append_assoc]

theorem A9{α β:Type}{f:α→Option β}:∀{l:List α} {m:List β},l.mapM f=some m→∀(i:Nat)(a:α),l[i]?=some a→∃b,m[i]?=some b∧f a=some b
 | [],m,_,i,a,h=>by simp at h
 |x::l,m,hm,i,a,h=>by
  simp only[List.mapM_cons,oD,oB,oP,oS]at hm;obtain⟨b,hb,m',hm',rfl⟩:=hm;cases i with
  |zero=>simp only[List.getElem?_cons_zero,oS]at h;subst h;exact⟨b,by simp,hb⟩
  |succ i=>simpa using A9 hm' i a (by simpa using h)

theorem qP(h:At n0 S0 M0 w0 st o a w g){fs:Array Field}{places:List (Nat×Nat)}(hpl:fs.toList.mapM (fun f=>(P.info? f.type).map fun i=>(f.offset,i.size))=some places):
  ∀(ps:List (Nat×Operand))(L:List (Nat×Nat×X)),
   ps.mapM (fun(i,x)=>do let f←fs[i]?;pure (f.offset,←dv P f.type,←aU P f.type x))=some L→
   (L.map fun p=>(p.1,p.2.1,st.ev p.2.2)).all (fun p=>p.2.2.size st.unit==p.2.1&&p.2.1 !=0)=true→
   ah w.heap st.us g (L.map fun p=>st.ev p.2.2) (ps.map fun p=>a.eval p.2)∧
   (∀q∈ps.map (fun p=>(p.1,a.eval p.2)),places.toArray[q.1]?=some ((places.toArray.getD q.1 (0,0)).1,q.2.cells.size))∧
   ((ps.map (fun p=>(p.1,a.eval p.2))).map fun q=>((places.toArray.getD q.1 (0,0)).1,q.2.cells.size))=(L.map fun p=>(p.1,p.2.1))∧
   ((ps.map (fun p=>(p.1,a.eval p.2))).map fun q=>((places.toArray.getD q.1 (0,0)).1,q.2.cells.toList))=List.zipWith (fun p v=>(p.1,v.cells.toList)) (L.map fun p=>(p.1,p.2.1,st.ev p.2.2)) (ps.map fun p=>a.eval p.2)∧
   (L.map fun p=>(p.1,p.2.1,st.ev p.2.2)).map (·.2.1)=(ps.map fun p=>a.eval p.2).map (·.cells.size)
 | [],L,hL,_=>by
  simp at hL;subst hL;simp[ah]
 |(i,x)::ps,L,hL,hs=>by
  simp only[List.mapM_cons,oD,oB,oP,oS]at hL;obtain⟨p,⟨f,hf,s,hsz,X,hX,rfl⟩,L',hL',rfl⟩:=hL;simp only[lC,List.all_cons,bA,beq_iff_eq,bne_iff_ne]at hs;obtain⟨⟨s1,s2⟩,s3⟩:=hs;obtain⟨i1,i2,i3,i4,i5⟩:=qP h hpl ps L' (by simpa using hL') (by simpa using s3);have ev:=h.ev_ hX;have hc:(a.eval x).cells.size=s:=wA h.us ev s1 s2;have hp:places[i]?=some (f.offset,s):=by
   obtain⟨y,hy1,hy2⟩:=A9 hpl i f (by simpa using hf);rw[hy1,←hy2];simp only[dv]at hsz;cases hinf:P.info? f.type with
   |none=>simp[hinf]at hsz
   |some inf=>simp only[hinf,Option.map_some,oS]at hsz⊢;rw[hsz]
  have hg:(places.toArray.getD i (0,0))=(f.offset,s):=by simp[hp]
  refine⟨?_,?_,?_,?_,?_⟩
  ·simp only[lC,ah];exact⟨_,_,rfl,ev,i1⟩
  ·intro q hq;rcases List.mem_cons.1 hq with rfl|hq
   ·simp only[hg,hc];simpa using hp
   ·exact i2 q hq
  ·simp only[lC,hg,hc,i3]
  ·simp only[lC,List.zipWith_cons_cons,hg,i4]
  ·simp only[lC,hc,i5]

theorem OE(h:At n0 S0 M0 w0 st o a w g){t:TypeId}{fs:Array Field}{ps:Array (Nat×Operand)}{z:D}{L:List (Nat×Nat×X)}{places:List (Nat×Nat)}(ho:o.op=.build t ps)(ht:P.underlying t=some (.struct fs))
  (hpl:fs.toList.mapM (fun f=>(P.info? f.type).map fun i=>(f.offset,i.size))=some places) (hz:dE P t=some z)
  (hL:ps.toList.mapM (fun(i,x)=>do let f←fs[i]?;pure (f.offset,←dv P f.type,←aU P f.type x))=some L)
  (hq:vR (L.map fun p=>(p.1,p.2.1,st.ev p.2.2)) st.unit z k):o.wp P a w (cQ n0 S0 M0 w0 st o.dst k) Q':=by
 unfold vR at hq
 split at hq
 ·next zs=>
  obtain⟨⟨q1,q2,q3⟩,hk⟩:=hq;obtain⟨b1,b2,b3,b4,b5⟩:=qP h hpl ps.toList L hL q1;unfold dE at hz
  split at hz
  ·next inf hinf=>
   split at hz
   ·next zv hzv=>
    split at hz
    ·next hcs=>
     obtain⟨r1,r2,r3⟩:=jZ hz w.heap;simp only[aW]at r1;have hzl:zs.length=zv.cells.toList.length:=by
      have hl:=r1.2.length;have:∀l:List D,(∀d∈l,d.size=1∧d.isAg=false)→D.sizeL l=l.length:=by
       intro l
       induction l with
       |nil=>intro _;rfl
       |cons d l ih=>intro hd;simp only[D.sizeL,(hd d (by simp)).1,ih fun x hx=>hd x (by simp[hx]),List.length_cons];omega
      rw[hl,this zs r1.1]
     obtain⟨cs',f1,f2⟩:=rL (lp:=(places.toArray[·]?)) (z:=zv.cells.toList) (off:=fun i=>(places.toArray.getD i (0,0)).1) (ps.toList.map fun p=>(p.1,a.eval p.2)) 0 zv.cells [] (by simp) rfl (by simp) b2
      (by rw[b3,←hzl];simpa[Function.comp_def]using q2)
     obtain⟨xs,x1,x2⟩:=yA (us:=st.us) (g:=g) r1.2 r1.1 (L.map fun p=>(p.1,p.2.1,st.ev p.2.2)) (ps.toList.map fun p=>a.eval p.2) 0 (by simpa[Function.comp_def]using b1) b5;refine h.pure_ (v:=.agg cs') ?_ (xE x1 (by rw[f2,x2,b4];rfl)) hk;have hb:P.built t ((ps.map fun p=>(p.1,a.eval p.2)).toList)=some cs':=by
      simp only[Program.built,hinf,ht,hzv,hpl,Array.toList_map];exact f1
     simp only[execOp,ho,Sem.run_bind,run_build w t _ cs' hb]
     rfl
    ·cases hz
   ·cases hz
  ·cases hz
 ·exact hq.elim
end Go.Ax
namespace Go.Ax

variable {P : Program} {n0 : Nat} {S0 M0 : Nat → Prop} {w0 : World}
variable {st : St} {o : Oper} {a : Act} {w : World} {k : KQ} {Q' : Exit → Act → World → Prop} {g : Gh}

theorem mj{h:aE}{us:List (Nat×U)}(hu:aZ h n0 S0 M0 us g){av:AV}{v:Value}{sz:Nat}(hr:ab h us g av v)(ho:bi (lu us) sz av=true)(h0:0<sz):v.cells.size=sz:=by
 by_cases hsg:∃vs,av=.sg vs
 ·obtain⟨vs,rfl⟩:=hsg;simp only[bi,bA,beq_iff_eq]at ho;obtain⟨h1,h2⟩:=ho;simp only[ab]at hr;obtain⟨xs,r1,rfl⟩:=hr;have key:∀{vs:List AV} {xs:List Value},ah h us g vs xs→vs.all (fun a=>AV.size (lu us) a !=0)=true→(xs.map (·.cells.toList)).flatten.length=(vs.map (AV.size (lu us))).sum:=by
   intro vs
   induction vs with
   |nil=>intro xs hr _;simp only[ah]at hr;simp[hr]
   |cons a as ih=>
    intro xs hr ha;simp only[ah]at hr;obtain⟨v,r,rfl,q1,q2⟩:=hr;simp only[List.all_cons,bA,bne_iff_ne,ne_eq]at ha;have e1:=wA hu q1 rfl ha.1;simp only[lC,List.flatten_cons,lP,Array.length_toList,List.sum_cons,e1,ih q2 ha.2]
  have:=key r1 h1;rw[h2]at this;simpa[Value.cells]using this
 ·refine wA hu hr ?_ (by omega);unfold bi at ho
  split at ho<;>simp_all [AV.size]
  split at ho<;>simp_all

theorem Ae{z:List Value}{sz:Nat}:∀(vs:List Value)(i0:Nat),(∀v∈vs,v.cells.size=sz)→
  mG z (i0*sz) ((vs.zipIdx i0).map fun x=>(x.2*sz,x.1.cells.toList))=(vs.map (·.cells.toList)).flatten++z.drop ((i0+vs.length)*sz)
 | [],i0,_=>by simp[mG]
 |v::vs,i0,h=>by
  have h1:=h v (by simp);have ih:=Ae (z:=z) vs (i0+1) fun x hx=>h x (by simp[hx]);simp only[List.zipIdx_cons,lC,mG,Nat.sub_self,List.take_zero,List.nil_append,Array.length_toList,h1];rw[show i0*sz+sz=(i0+1)*sz by rw[Nat.add_mul,Nat.one_mul],ih];simp[Nat.add_assoc,Nat.add_comm 1]

theorem iT{sz n:Nat}:∀(vs:List Value)(i0:Nat),(∀v∈vs,v.cells.size=sz)→(i0+vs.length)*sz≤n→
  jx n (i0*sz) ((vs.zipIdx i0).map fun x=>(x.2*sz,x.1.cells.size))=true
 | [],i0,_,_=>rfl
 |v::vs,i0,h,hn=>by
  have h1:=h v (by simp);have hn':(i0+1+vs.length)*sz≤n:=by rw[show i0+1+vs.length=i0+(v::vs).length by simp;omega];exact hn
  have ih:=iT (n:=n) vs (i0+1) (fun x hx=>h x (by simp[hx])) hn';have e:i0*sz+sz=(i0+1)*sz:=by rw[Nat.add_mul,Nat.one_mul]
  have hle:(i0+1)*sz≤(i0+1+vs.length)*sz:=Nat.mul_le_mul_right _ (by omega);simp only[List.zipIdx_cons,lC,jx,h1,e,ih,bU,bA,decide_eq_true_eq];omega

theorem ov(h:At n0 S0 M0 w0 st o a w g){e:TypeId}:∀(ps:List (Nat×Operand))(L:List (Nat×X)),ps.mapM (fun(i,x)=>do pure (i,←aU P e x))=some L→
  ah w.heap st.us g (L.map fun p=>st.ev p.2) (ps.map fun p=>a.eval p.2)∧L.map (·.1)=ps.map (·.1)
 | [],L,hL=>by
  simp at hL;subst hL;simp[ah]
 |(i,x)::ps,L,hL=>by
  simp only[List.mapM_cons,oD,oB,oP,oS]at hL;obtain⟨p,⟨X,hX,rfl⟩,L',hL',rfl⟩:=hL;obtain⟨i1,i2⟩:=ov h ps L' (by simpa using hL');refine⟨?_,by simp[i2]⟩;simp only[lC,ah];exact⟨_,_,rfl,h.ev_ hX,i1⟩

theorem qx{α:Type}:∀(l:List (Nat×α))(i0:Nat),l.map (·.1)=(List.range' i0 l.length)→l=((l.map (·.2)).zipIdx i0).map fun x=>(x.2,x.1)
 | [],_,_=>rfl
 |(i,x)::l,i0,h=>by
  simp only[lC,lK,List.range'_succ,List.cons.injEq]at h;obtain⟨rfl,h⟩:=h;have:=qx l (i+1) h;simp only[lC,List.zipIdx_cons];rw[←this]

theorem tx{h h':aE}{us nus:List (Nat×U)}{g g':Gh}(hu:aZ h n0 S0 M0 us g)(hh:∀b,b<h.size→h'[b]?=h[b]?)
  (hβ:∀x∈us,g'.β x.1=g.β x.1∧g'.root x.1=g.root x.1∧g'.cap x.1=g.cap x.1) (hφ:∀x∈us,g'.φ x.1=g.φ x.1)
  (hS:∀b,g.Sh b→g'.Sh b):∀{as:List AV} {vs:List Value},ah h us g as vs→ah h' (nus++us) g' as vs
 | [],_,hr=>by simpa[ah]using hr
 |a::as,vs,hr=>by
  simp only[ah]at hr⊢;obtain⟨v,r,h1,h2,h3⟩:=hr;exact⟨v,r,h1,h2.grow hu hh hβ hφ hS,tx hu hh hβ hφ hS h3⟩

theorem qN{h:aE}{us:List (Nat×U)}(hu:aZ h n0 S0 M0 us g){sz:Nat}(h0:0<sz):∀{as:List AV} {vs:List Value},ah h us g as vs→as.all (bi (lu us) sz)=true→as.length=vs.length∧∀v∈vs,v.cells.size=sz
 | [],vs,hr,_=>by simp only[ah]at hr;subst hr;simp
 |a::as,vs,hr,ha=>by
  simp only[ah]at hr;obtain⟨v,r,rfl,h2,h3⟩:=hr;simp only[List.all_cons,bA]at ha;obtain⟨i1,i2⟩:=qN hu h0 h3 ha.2;refine⟨by simp[i1],?_⟩;intro x hx;rcases List.mem_cons.1 hx with rfl|hx
  ·exact mj hu h2 ha.1 h0
  ·exact i2 x hx

theorem wE{h:aE}{us:List (Nat×U)}{g:Gh}{sz:Nat}:∀{items:List AV} {vs:List Value} {ds:List D},ah h us g items vs→nj sz items=some ds→
  ∃F,aK h ds F (vs.map (·.cells.toList)).flatten∧(∀d∈ds,d.size=sz)∧ds.length=items.length∧∀b∈F,g.Sh b
 | [],vs,ds,hr,hd=>by
  simp only[ah]at hr;simp only[nj,oS]at hd;subst hr hd;exact⟨[],by simp[aK],by simp,rfl,by simp⟩
 |av::items,vs,ds,hr,hd=>by
  simp only[ah]at hr;obtain⟨v,r,rfl,h1,h2⟩:=hr;unfold nj at hd
  split at hd
  ·next heq=>cases heq
  ·next d r' heq=>
   injection heq with e1 e2;subst e1 e2
   split at hd
   ·next hs=>
    split at hd
    ·next ds' hds=>
     injection hd with hd;subst hd;obtain⟨F,i1,i2,i3,i4⟩:=wE h2 hds;simp only[ab]at h1;obtain⟨F1,q1,_,q3⟩:=h1;refine⟨F1++F,?_,by simp;exact⟨hs,i2⟩,by simp[i3],fun b hb=>?_⟩
     ·simp only[lC,List.flatten_cons,aK];exact⟨F1,F,_,_,rfl,rfl,q1,i1⟩
     ·rcases List.mem_append.1 hb with hb|hb
      ·exact fk (q3 b hb)
      ·exact i4 b hb
    ·cases hd
   ·cases hd
  ·cases hd
theorem tH{un:Nat→Option U}{sz:Nat}:∀{items:List AV} {ds:List D},nj sz items=some ds→items.all (bi un sz)=true
 | [],_,_=>rfl
 |av::items,ds,hd=>by
  unfold nj at hd
  split at hd
  ·next heq=>cases heq
  ·next d r' heq=>
   injection heq with e1 e2;subst e1 e2
   split at hd
   ·next hs=>
    split at hd
    ·next ds' hds=>
     simp only[List.all_cons,bA,bi,beq_iff_eq];exact⟨hs,tH hds⟩
    ·cases hd
   ·cases hd
  ·cases hd
theorem Ev{sz:Nat}{as:List AV}{ds:List D}(h:Rk sz as=some ds):nj sz as=some ds:=by
 unfold Rk at h
 split at h
 ·exact h
 ·cases h

theorem V0(h:At n0 S0 M0 w0 st o a w g){t e:TypeId}{len d sz:Nat}{ps:Array (Nat×Operand)}{z:D}{L:List (Nat×X)}(ho:o.op=.buildSlice t len ps)(ht:P.underlying t=some (.slice e))
  (hs:dv P e=some sz) (hz:dE P e=some z) (hL:ps.toList.mapM (fun(i,x)=>do pure (i,←aU P e x))=some L)
  (hq:Gv (L.map fun p=>(p.1,st.ev p.2)) st.unit d sz len k):o.wp P a w (cQ n0 S0 M0 w0 st o.dst k) Q':=by
 obtain⟨b1,b2⟩:=ov h ps.toList L hL;unfold dv at hs;cases hinf:P.info? e with
 |none=>simp[hinf]at hs
 |some inf=>
  simp only[hinf,Option.map_some,oS]at hs;unfold dE at hz;rw[hinf]at hz
  dsimp only at hz
  split at hz
  ·next zv hzv=>
   unfold Gv at hq
   split at hq
   ·next h0=>
    subst h0;obtain⟨⟨q1,q2⟩,hk⟩:=hq;have hps:ps= #[]:=by
     have:L=[]:=by simpa using q2
     rw[this]at b2;have:ps.toList=[]:=by simpa using b2.symm
     apply Array.ext'
     simpa using this
    refine fi h (c:= #[]) (e:=e) (v:=.slice (some ⟨w.heap.size,0,none⟩) 0 0) [w.heap.size] 0 ?_ rfl ?_ ?_ hk
    ·subst hps;simp[execOp,ho,Instr.buildSlice,run_underlying ht,sizeOf,typeInfo,hinf,newRow,Instr.fill];congr 2
     try (apply Array.ext';simp)
    ·intro _;simp only[cm,b9];exact⟨by simp,by simp,.inr ⟨w.heap.size,#[],e,[],[],[],rfl,dW _ _,by simp,by simp,by simp,by simp[aK],by simp,by simp⟩⟩
    ·intro _;simp only[ab];exact⟨_,_,_,_,List.mem_cons_self,by simp,.inl ⟨w.heap.size,by simp[b9],by simp[b9]⟩⟩
   ·next h0=>
    obtain⟨q1,q0,q2,q3⟩:(L.map fun p=>(p.1,st.ev p.2)).map (·.1)=List.range len∧0<sz∧len*sz≤16777216∧((L.map fun p=>(p.1,st.ev p.2)).map (·.2)).all (bi st.unit sz)=true:=by
     split at hq
     ·next ds hds=>exact⟨hq.1.1,hq.1.2.1,hq.1.2.2,tH (Ev hds)⟩
     ·exact⟨hq.1.2.1,hq.1.2.2.1,hq.1.2.2.2.1,hq.1.2.2.2.2⟩
    have q3':((L.map fun p=>(p.1,st.ev p.2)).map (·.2)).all (bi (lu st.us) sz)=true:=q3;obtain⟨v1,v2⟩:=qN h.us q0 (by simpa[Function.comp_def]using b1) (by simpa[Function.comp_def]using q3');have hlen:ps.toList.length=len:=by
     have:=congrArg List.length q1;have h2:=congrArg List.length b2;simp at this h2;simp[←h2,this]
    have hidx:ps.toList.map (·.1)=List.range' 0 ps.toList.length:=by
     rw[←b2,hlen,←List.range_eq_range',←q1];simp[Function.comp_def]
    generalize hvs:(ps.toList.map fun p=>a.eval p.2)=vs at v1 v2 b1;have hvl:vs.length=len:=by rw[←hvs];simpa using hlen
    have hparts:(ps.toList.map fun p=>(p.1,a.eval p.2))=(vs.zipIdx 0).map fun x=>(x.2,x.1):=by
     have:=qx (ps.toList.map fun p=>(p.1,a.eval p.2)) 0 (by simpa[Function.comp_def]using hidx);rw[←hvs];simpa[Function.comp_def]using this
    subst hs;have hzlen:((Array.range (len*inf.size)).map (zv.cells[· % zv.cells.size]!)).toList.length=len*inf.size:=by simp
    obtain⟨cs',f1,f2⟩:=rL (lp:=fun i=>some (i*inf.size,inf.size)) (z:=((Array.range (len*inf.size)).map (zv.cells[· % zv.cells.size]!)).toList) (off:=fun i=>i*inf.size)
     ((vs.zipIdx 0).map fun x=>(x.2,x.1)) 0 ((Array.range (len*inf.size)).map (zv.cells[· % zv.cells.size]!)) [] (by simp) rfl (by omega)
     (by
      intro p hp;obtain⟨x,hx,rfl⟩:=List.mem_map.1 hp;have:x.1∈vs:=by
       have:=List.mem_zipIdx' hx;rw[this.2];exact List.getElem_mem _
      simp only[v2 _ this])
     (by
      rw[hzlen];have:=iT (n:=len*inf.size) vs 0 v2 (by rw[hvl];simp);simpa[Function.comp_def]using this)
    have hcs:cs'.toList=(vs.map (·.cells.toList)).flatten:=by
     have:=Ae (z:=((Array.range (len*inf.size)).map (zv.cells[· % zv.cells.size]!)).toList) vs 0 v2;rw[Nat.zero_mul]at this;rw[f2];simp only[List.nil_append,List.map_map,Function.comp_def];rw[this,List.drop_eq_nil_of_le (by rw[hzlen,hvl,Nat.zero_add];exact Nat.le_refl _),List.append_nil]
    have hpos:¬len*inf.size=0:=by
     intro h';rcases Nat.mul_eq_zero.1 h' with h'|h'<;>omega
    split at hq
    ·next ds hds=>
     obtain⟨_,hk⟩:=hq;obtain⟨F,s1,s2,s3,s4⟩:=wE (by simpa[Function.comp_def]using b1) (by simpa[Function.comp_def]using Ev hds);have hs0:=h.sat;have hb0:n0≤w.heap.size:=by rw[hs0.base];exact hs0.size
     have hrun':(execOp a.eval o).run P w=.ok (.value (.slice (some ⟨w.heap.size,0,none⟩) len len)) (w.alloc (.cells cs' e)):=by
      have hrun:=run_buildSlice (P:=P) w t e len (ps.map fun p=>(p.1,a.eval p.2)) cs' inf zv ht hinf hzv (by omega) hpos (by rw[Array.toList_map,hparts];exact f1);simp only[execOp,ho,Sem.run_bind,hrun]
      rfl
     obtain⟨hU,hV⟩:=h.us.wide (h':=w.heap.push (.cells cs' e (0,0))) (by simp) (fun b hb=>eu hb) hb0 [w.heap.size] (by intro b hb;simp only[List.mem_singleton]at hb;subst hb;right;simp);unfold Oper.wp;rw[hrun'];refine⟨_,[],hk,fun _=>?_⟩;rw[dL];have hS:dH n0 S0 M0 w0 st a (w.alloc (.cells cs' e)):=by
      refine⟨hs0.ms,hs0.dfr,hs0.tm,hs0.base,hs0.os,hs0.tape,hs0.output,?_,?_,_,hU,fun t=>hV _ _ (h.rep t)⟩
      ·have:=hs0.size
       show _≤(w.heap.push _).size
       simp;omega
      ·intro b hb hm;have:(w.heap.push (.cells cs' e (0,0)))[b]?=w.heap[b]?:=eu (by omega);exact this.trans (hs0.old b hb hm)
     refine cY hS hU (fun t=>hV _ _ (h.rep t)) (fun i hi=>h.dst i hi) ?_;simp only[ab];have hdl:ds.length=len:=by
      rw[s3];have:=congrArg List.length q1;simpa using this
     refine⟨w.heap.size::F,?_,by simp[D.fits,Value.oneCell'],?_⟩
     ·have hl:=s1.length;rw[D.sizeL_const s2]at hl;have hlm:len≤len*inf.size:=Nat.le_mul_of_pos_right _ q0;unfold aW;refine .inr ⟨w.heap.size,0,len,cs',e,(0,0),F,by simp[Value.cells,hdl],rfl,by simp,by omega,by simp[aT];omega,dW _ _,?_,s2,?_⟩
      ·have:cs'.size=cs'.toList.length:=by simp
       rw[this,hcs,hl];simp[hdl,Nat.mul_comm]
      ·have e3:(cs'.toList.drop 0).take (ds.length*inf.size)=(vs.map (·.cells.toList)).flatten:=by
        rw[List.drop_zero,hcs,←hl,List.take_length]
       rw[e3];exact s1.frame fun b hb=>eu (s1.lt b hb)
     ·intro b hb;rcases List.mem_cons.1 hb with rfl|hb
      ·exact .inl (.inr (by simp))
      ·exact .inl (.inl (s4 b hb))
    ·obtain⟨⟨qlow,_⟩,hk⟩:=hq;refine fi h (c:=cs') (e:=e) (v:=.slice (some ⟨w.heap.size,0,none⟩) len len) [w.heap.size] 0 ?_ rfl ?_ ?_ hk (fun _=>qlow)
     ·have hrun:=run_buildSlice (P:=P) w t e len (ps.map fun p=>(p.1,a.eval p.2)) cs' inf zv ht hinf hzv (by omega) hpos (by rw[Array.toList_map,hparts];exact f1);simp only[execOp,ho,Sem.run_bind,hrun]
      rfl
     ·intro hno;have hno':=cj hno;have hne:∀x∈st.us,x.1≠d:=fun x hx e=>hno' (List.mem_map.2 ⟨x,hx,e⟩);simp only[cm,b9];refine⟨?_,w.heap.size,cs',e,vs,[],rfl,dW _ _,rfl,?_,fun _=>v2,by rw[hcs,List.append_nil]⟩
      ·have:L.length=len:=by have:=congrArg List.length q1;simpa using this
       have hlm:len≤len*inf.size:=Nat.le_mul_of_pos_right _ q0;simp[this,aT];omega
      ·have:=tx (nus:=[(d,U.bx inf.size ((L.map fun p=>(p.1,st.ev p.2)).map (·.2)))]) (g':=g.add d (some w.heap.size) [w.heap.size] (.slice (some ⟨w.heap.size,0,none⟩) len len) 0) (h':=w.heap.push (.cells cs' e (0,0))) h.us (fun b hb=>eu hb) (fun x hx=>by simp[Gh.add,hne x hx]) (fun x hx=>by simp[Gh.add,hne x hx]) (fun b hb=>hb) b1;simpa[Function.comp_def]using this
     ·intro _;simp only[ab];exact⟨_,_,_,List.mem_cons_self,by simp[←hvl,←v1],by simp[b9],rfl⟩
  ·cases hz

theorem yB:∀{ds es:List D} {f:Bool→Prop},o4 ds es f→∃r,f r∧∀f':Bool→Prop,f' r→o4 ds es f'
 | [],[],f,h=>⟨true,h,fun _ h=>h⟩
 |d::ds,e::es,f,h=>by
  unfold o4 at h
  split at h
  ·next h1 _=>cases h1
  ·next h1 h2=>
   injection h1 with h1 h1';injection h2 with h2 h2';subst h1 h1' h2 h2';obtain⟨rfl,h⟩:=h;obtain⟨r,h1,h2⟩:=yB h;exact⟨_,h1,fun f' hf=>⟨rfl,h2 _ hf⟩⟩
  ·exact h.elim
 | [],_::_,_,h=>by simp[o4]at h
 |_::_,[],_,h=>by simp[o4]at h

theorem w9{t:TypeId}(hg:ke P t=some false){cs:Array Value}{i:Nat}{v:Value}(hv:cs[i]?=some v)(w:World):(part t cs i).run P w=.ok v w:=by
 simp[part,wW hg,hv]

theorem Bp{h:aE}{xs ys:Array Value}(dep:Nat)(w:World):∀(fs:List Field)(i:Nat)(ds es:List D)(F G:List Nat)(f:Bool→Prop),oQ P i fs=true→ds.length=fs.length→
  aK h ds F (xs.toList.drop i)→aK h es G (ys.toList.drop i)→o4 ds es f→∃r,(Op.eqFields (dep+1) xs ys fs).run P w=.ok r w∧f r
 | [],i,ds,es,F,G,f,_,hl,_,_,hc=>by
  match ds,es,hl,hc with
  | [],[],_,hc=>exact⟨true,rfl,hc⟩
 |fd::fs,i,ds,es,F,G,f,hi,hl,h1,h2,hc=>by
  match ds,es,hl,hc with
  |d::ds,[],_,hc=>simp[o4]at hc
  |d::ds,e::es,hl,hc=>
   unfold o4 at hc
   split at hc
   ·next h1 _=>cases h1
   ·next k1 m ds' k2 q es' e1 e2 _=>
    injection e1 with e1 e1';injection e2 with e2 e2';subst e1 e1' e2 e2';obtain⟨rfl,hc⟩:=hc;simp only[oQ,bA,bne_iff_ne,beq_iff_eq]at hi;obtain⟨⟨⟨⟨⟨n1,n2⟩,n3⟩,n4⟩,n5⟩,n6⟩:=hi;simp only[aK,aW]at h1 h2;obtain⟨F1,F2,c1,c2,_,x1,⟨_,rfl,_⟩,r1⟩:=h1;obtain⟨G1,G2,b1,b2,_,y1,⟨_,rfl,_⟩,r2⟩:=h2;have hx:xs[i]?=some (.int k1 m):=by
     have:=congrArg (·[0]?) x1;simpa using this
    have hy:ys[i]?=some (.int k1 q):=by
     have:=congrArg (·[0]?) y1;simpa using this
    have d1:xs.toList.drop (i+1)=c2:=by
     rw[←List.drop_drop,x1];rfl
    have d2:ys.toList.drop (i+1)=b2:=by
     rw[←List.drop_drop,y1];rfl
    obtain⟨r,hr,hf⟩:=Bp dep w fs (i+1) ds es F2 G2 _ n6 (by simpa using hl) (by rw[d1];exact r1) (by rw[d2];exact r2) hc;have hun:∃kk,P.underlying fd.type=some (.int kk):=by
     cases hu:P.underlying fd.type with
     |none=>simp[hu]at n5
     |some u=>cases u<;>simp[hu]at n5⊢
    obtain⟨kk,hu⟩:=hun;refine⟨_,?_,hf⟩;unfold Op.eqFields;rw[if_pos n1,Sem.run_bind,n2,w9 n4 hx,Result.andThen_ok,Sem.run_bind,w9 n4 hy,Result.andThen_ok,Sem.run_bind,run_equalIn_int w dep fd.type k1 kk m q hu,Result.andThen_ok];cases hb:(m==q)
    ·simp
    ·simp[hr]
   ·exact hc.elim

theorem He(h:At n0 S0 M0 w0 st o a w g){op:BinOp}{neg:Bool}{t u:TypeId}{fs:Array Field}{x y:Operand}{X Y:Ax.X}(ho:o.op=.binOp op t x y u)(hx:aU P t x=some X)(hy:aU P u y=some Y)
  (ht:P.underlying t=some (.struct fs)) (hok:Bn P t fs=true) (hn:op=.eql∧neg=false∨op=.neq∧neg=true)
  (hq:xO neg (st.ev X) (st.ev Y) fs.size k):o.wp P a w (cQ n0 S0 M0 w0 st o.dst k) Q':=by
 have ex:=h.ev_ hx;have ey:=h.ev_ hy;unfold xO at hq
 split at hq
 ·next t1 ds t2 es e1 e2=>
  rw[e1]at ex;rw[e2]at ey;obtain⟨c1,F,v1,r1,_⟩:=A5 ex rfl;obtain⟨c2,G,v2,r2,_⟩:=A5 ey rfl;simp only[aW]at r1 r2;simp only[Bn,bA,Bool.not_eq_true']at hok;obtain⟨⟨k1,k2⟩,k3⟩:=hok;obtain⟨r,hr,hk⟩:=Bp 9998 w fs.toList 0 ds es F G _ k3 (by simpa using hq.1) (by simpa using r1.2) (by simpa using r2.2) hq.2;have hfo:P.fieldsOf t=fs:=by simp[Program.fieldsOf,ht]
  have hin:=run_equalIn_struct (P:=P) w 9999 t c1 c2 (by rw[hfo];exact ht) k1;rw[hfo,hr]at hin;refine h.pure_ (v:=.bool (if neg then !r else r)) ?_ (dl rfl) hk;rcases hn with⟨rfl,rfl⟩|⟨rfl,rfl⟩
  ·simp only[execOp,ho,v1,v2,Sem.run_bind,run_eqGuard_agg w .eql t x y c1 c2 k2,Result.andThen_ok,run_eql_struct,hin]
   rfl
  ·simp only[execOp,ho,v1,v2,Sem.run_bind,run_eqGuard_agg w .neq t x y c1 c2 k2,Result.andThen_ok,run_neq_struct,hin]
   rfl
 ·exact hq.elim
theorem qV{h:aE}{us:List (Nat×U)}:∀{vs:List AV} {xs:List Value},ah h us g vs xs→∃ys,ah h us g (di vs) ys∧(ys.map (·.cells.toList)).flatten=(xs.map (·.cells.toList)).flatten
 | [],xs,hr=>by simp only[ah]at hr;subst hr;exact⟨[],by simp[di,ah],rfl⟩
 |v::vs,xs,hr=>by
  simp only[ah]at hr;obtain⟨x,r,rfl,h1,h2⟩:=hr;obtain⟨ys,i1,i2⟩:=qV h2;have dflt:di (v::vs)=v::di vs→∃ys,ah h us g (di (v::vs)) ys∧(ys.map (·.cells.toList)).flatten=((x::r).map (·.cells.toList)).flatten:=by
   intro e;rw[e];exact⟨x::ys,by simp only[ah];exact⟨x,ys,rfl,h1,i1⟩,by simp[i2]⟩
  cases v with
  |im t d=>
   cases d with
   |ag ds=>
    simp only[ab]at h1;obtain⟨F,r1,r2,r3⟩:=h1;simp only[aW]at r1;obtain⟨q1,q2⟩:=r1;have key:∀{ds:List D} {F:List Nat} {cs:List Value},(∀d∈ds,d.size=1∧d.isAg=false)→aK h ds F cs→(∀b∈F,g.ok t b)→ah h us g (ds.map (.im t)) cs∧(cs.map (·.cells.toList)).flatten=cs:=by
     intro ds
     induction ds with
     |nil=>intro F cs _ hr _;simp only[aK]at hr;simp[hr.2,ah]
     |cons d ds ih=>
      intro F cs hs hr hF;simp only[aK]at hr;obtain⟨F1,F2,c1,c2,rfl,rfl,p1,p2⟩:=hr;obtain⟨j1,j2⟩:=ih (fun e he=>hs e (by simp[he])) p2 (fun b hb=>hF b (by simp[hb]));obtain⟨c,rfl,hc⟩:∃c,c1=[c]∧c.oneCell'=true:=by
       have:=p1.length;rw[(hs d (by simp)).1]at this
       match c1,this with
       | [c],_=>exact⟨c,rfl,p1.one c (by simp)⟩
      refine⟨?_,by simp[aS hc,j2]⟩;simp only[lC,List.cons_append,List.nil_append,ah];refine⟨c,c2,rfl,?_,j1⟩;simp only[ab];refine⟨F1,by rw[aS hc];exact p1,?_,fun b hb=>hF b (by simp[hb])⟩;have:=(hs d (by simp)).2;cases d<;>simp_all [D.fits,D.isAg]
    obtain⟨j1,j2⟩:=key q1 q2 r3;refine⟨x.cells.toList++ys,?_,?_⟩
    ·simp only[di];exact pT j1 i1
    ·simp[j2,i2]
   |_=>exact dflt rfl
  |_=>exact dflt rfl
theorem sf{h:aE}{us:List (Nat×U)}{x:AV}{v:Value}(hr:ab h us g x v):ab h us g (dP x) v:=by
 cases x with
 |sg vs=>
  simp only[dP,ab]at hr⊢;obtain⟨xs,h1,rfl⟩:=hr;obtain⟨ys,i1,i2⟩:=qV h1;exact⟨ys,i1,by rw[i2]⟩
 |_=>exact hr
theorem NK(h:At n0 S0 M0 w0 st o a w g){e u1:TypeId}{d sz:Nat}{x:Operand}{X:Ax.X}(ho:o.op=.box e x)(hx:aU P u1 x=some X)
  (hq:pJ (st.ev X) st.unit d sz k):o.wp P a w (cQ n0 S0 M0 w0 st o.dst k) Q':=by
 have ex:=h.ev_ hx;unfold pJ at hq
 split at hq
 ·next q e1=>
  rw[e1]at ex;simp only[ab]at ex;obtain⟨F,r1,r2,r3⟩:=ex;obtain⟨⟨q1,q2⟩,hk⟩:=hq;have hl:=r1.length;refine fi h (c:=(a.eval x).cells) (e:=e) (v:=.pointer (some ⟨w.heap.size,0,none⟩)) [w.heap.size] 1 ?_ rfl ?_ ?_ hk
  ·simp[execOp,ho,Instr.box,newVar,newRow]
  ·intro _;simp only[cm,b9];refine⟨by simp[aT],by simp[q2],.inr ⟨w.heap.size,(a.eval x).cells,e,F,(a.eval x).cells.toList,[],rfl,dW _ _,by simp,?_,by simp,?_,by simp,?_⟩⟩
   ·have:(a.eval x).cells.toList.length=(a.eval x).cells.size:=by simp
    omega
   ·rw[cR];exact⟨F,[],_,[],by simp,by simp,r1.frame fun b hb=>eu (r1.lt b hb),jl.2 ⟨rfl,rfl⟩⟩
   ·simp only[fq,if_false,true_and];intro y hy;rcases r3 y hy with h1|⟨i,hi,_⟩
    ·exact h1
    ·cases hi
  ·intro _;simp only[ab];exact⟨_,_,_,_,w.heap.size,List.mem_cons_self,by simp,q1,by simp[b9],by simp⟩
 ·next q hne=>
  obtain⟨⟨q0,q1,q2⟩,hk⟩:=hq;have ex:=sf ex;have hs:=mj h.us ex q2 q1;refine fi h (c:=(a.eval x).cells) (e:=e) (v:=.pointer (some ⟨w.heap.size,0,none⟩)) [w.heap.size] 1 ?_ rfl ?_ ?_ hk (fun _=>q0)
  ·simp[execOp,ho,Instr.box,newVar,newRow]
  ·intro hno;have hno':=cj hno;have hne:∀x∈st.us,x.1≠d:=fun x hx e=>hno' (List.mem_map.2 ⟨x,hx,e⟩);simp only[cm,b9];refine⟨by simp[aT],w.heap.size,(a.eval x).cells,e,[a.eval x],[],rfl,dW _ _,rfl,?_,by simpa using fun _=>hs,by simp⟩;simp only[ah];exact⟨_,_,rfl,ab.grow (nus:=[(d,U.bx sz [dP (st.ev X)])]) (g':=g.add d (some w.heap.size) [w.heap.size] (.pointer (some ⟨w.heap.size,0,none⟩)) 1) (h':=w.heap.push (.cells (a.eval x).cells e (0,0))) h.us (fun b hb=>eu hb) (fun x hx=>by simp[Gh.add,hne x hx]) (fun x hx=>by simp[Gh.add,hne x hx]) (fun b hb=>hb) ex,rfl⟩
  ·intro _;simp only[ab];exact⟨_,_,w.heap.size,List.mem_cons_self,by simp[b9],by simp⟩

end Go.Ax
namespace Go.Ax

variable {P : Program} {n0 : Nat} {S0 M0 : Nat → Prop} {w0 : World}
variable {st : St} {o : Oper} {a : Act} {w : World} {k : KQ} {Q' : Exit → Act → World → Prop} {g : Gh}

mutual
theorem ab.fr{h h':aE}{us us':List (Nat×U)}{g g':Gh}(hu:∀x∈us,x∈us')(hb:∀x∈us,∀b,g.β x.1=some b→h'[b]?=h[b]?)
  (hβ:∀x∈us,g'.β x.1=g.β x.1∧g'.root x.1=g.root x.1∧g'.cap x.1=g.cap x.1) (him:∀t d F cs,aW h d F cs→(∀b∈F,g.ok t b)→aW h' d F cs∧∀b∈F,g'.ok t b):
  ∀{a:AV} {v:Value},ab h us g a v→ab h' us' g' a v
 |.im t d,v,hr=>by
  simp only[ab]at hr⊢;obtain⟨F,h1,h2,h3⟩:=hr;obtain⟨q1,q2⟩:=him t d F _ h1 h3;exact⟨F,q1,h2,q2⟩
 |.tr k,v,hr=>by
  simp only[ab]at hr⊢;obtain⟨⟨d,hd⟩,hv⟩:=hr;exact⟨⟨d,hu _ hd⟩,by rw[(hβ _ hd).2.1];exact hv⟩
 |.pw id el j,v,hr=>by
  simp only[ab]at hr⊢;obtain⟨ow,nn,sz,es,b,h1,h2,h3,h4,h5⟩:=hr;exact⟨ow,nn,sz,es,b,hu _ h1,h2,h3,by rw[(hβ _ h1).1];exact h4,h5⟩
 |.cw id el j sz agg,v,hr=>by
  simp only[ab]at hr⊢;obtain⟨nn,usz,es,b,c,e,h1,h2,h3,h4,h5,h6⟩:=hr;exact⟨nn,usz,es,b,c,e,hu _ h1,h2,h3,by rw[(hβ _ h1).1];exact h4,by rw[hb _ h1 b h4];exact h5,h6⟩
 |.sm id off len,v,hr=>by
  simp only[ab]at hr⊢;obtain⟨ow,nn,sz,es,h1,h2,h3⟩:=hr;refine⟨ow,nn,sz,es,hu _ h1,h2,?_⟩;rw[(hβ _ h1).1,(hβ _ h1).2.2];exact h3
 |.pb id j,v,hr=>by
  simp only[ab]at hr⊢;obtain⟨sz,items,b,h1,h3,h4⟩:=hr;exact⟨sz,items,b,hu _ h1,by rw[(hβ _ h1).1];exact h3,h4⟩
 |.ps id,v,hr=>by
  simp only[ab]at hr⊢;obtain⟨T,E,s,b,h1,h3,h4⟩:=hr;exact⟨T,E,s,b,hu _ h1,by rw[(hβ _ h1).1];exact h3,h4⟩
 |.vb id len,v,hr=>by
  simp only[ab]at hr⊢;obtain⟨sz,items,b,h1,h2,h3,h4⟩:=hr;exact⟨sz,items,b,hu _ h1,h2,by rw[(hβ _ h1).1];exact h3,h4⟩
 |.sg vs,v,hr=>by
  simp only[ab]at hr⊢;obtain⟨xs,h1,h2⟩:=hr;exact⟨xs,ah.fr hu hb hβ him h1,h2⟩
 |.tup vs,v,hr=>by
  simp only[ab]at hr⊢;obtain⟨xs,h1,h2⟩:=hr;exact⟨xs,h1,ah.fr hu hb hβ him h2⟩
 |.any,_,_=>by simp[ab]
 |.cl f vs,v,hr=>by
  simp only[ab]at hr⊢;obtain⟨xs,h1,h2⟩:=hr;exact⟨xs,ah.fr hu hb hβ him h1,h2⟩
 |.pq id el j isz el' j',v,hr=>by
  simp only[ab]at hr⊢;obtain⟨ow,nn,usz,es,b,c,e,b',off',len',cap',h1,h2,h3,h4,h5,h6⟩:=hr;exact⟨ow,nn,usz,es,b,c,e,b',off',len',cap',hu _ h1,h2,h3,by rw[(hβ _ h1).1];exact h4,by rw[hb _ h1 b h4];exact h5,h6⟩
 |.qs id el j isz off len,v,hr=>by
  simp only[ab]at hr⊢;obtain⟨ow,nn,usz,es,b,c,e,p,len',cap',h1,h2,h3,h4,h5,h6⟩:=hr;exact⟨ow,nn,usz,es,b,c,e,p,len',cap',hu _ h1,h2,h3,by rw[(hβ _ h1).1];exact h4,by rw[hb _ h1 b h4];exact h5,h6⟩
 |.ss id off len,v,hr=>by
  simp only[ab]at hr⊢;obtain⟨ow,nn,sz,es,h1,h2,h3⟩:=hr;refine⟨ow,nn,sz,es,hu _ h1,h2,?_⟩;rw[(hβ _ h1).1,(hβ _ h1).2.2];exact h3
 |.z0 nn _,v,hr=>by simpa[ab]using hr
theorem ah.fr{h h':aE}{us us':List (Nat×U)}{g g':Gh}(hu:∀x∈us,x∈us')(hb:∀x∈us,∀b,g.β x.1=some b→h'[b]?=h[b]?)
  (hβ:∀x∈us,g'.β x.1=g.β x.1∧g'.root x.1=g.root x.1∧g'.cap x.1=g.cap x.1) (him:∀t d F cs,aW h d F cs→(∀b∈F,g.ok t b)→aW h' d F cs∧∀b∈F,g'.ok t b):
  ∀{as:List AV} {vs:List Value},ah h us g as vs→ah h' us' g' as vs
 | [],_,hr=>by simpa[ah]using hr
 |a::as,vs,hr=>by
  simp only[ah]at hr⊢;obtain⟨v,r,h1,h2,h3⟩:=hr;exact⟨v,r,h1,ab.fr hu hb hβ him h2,ah.fr hu hb hβ him h3⟩
end

theorem cm.fr{h h':aE}{us us':List (Nat×U)}{g g':Gh}{id:Nat}{u:U}(hm:(id,u)∈us)(hu:∀x∈us,x∈us')(hb:∀x∈us,∀b,g.β x.1=some b→h'[b]?=h[b]?)
  (hβ:∀x∈us,g'.β x.1=g.β x.1∧g'.root x.1=g.root x.1∧g'.cap x.1=g.cap x.1) (him:∀t d F cs,aW h d F cs→(∀b∈F,g.ok t b)→aW h' d F cs∧∀b∈F,g'.ok t b)
  (hφ:g'.φ id=g.φ id) (hbl:∀b∈g.φ id,h'[b]?=h[b]?) (hS:∀b,g.Sh b→g'.Sh b∧h'[b]?=h[b]?) (ho:cm h us g id u):cm h' us' g' id u:=by
 obtain⟨e1,e2,e3⟩:=hβ _ hm;simp only at e1 e2 e3;cases u with
 |own d=>
  simp only[cm]at ho⊢;obtain⟨h1,h2,h3⟩:=ho;rw[e1,e2,hφ];exact⟨h1,h2.frame hbl,h3⟩
 |ar ow nn sz es=>
  simp only[cm]at ho⊢;rw[e1,e3,hφ];obtain⟨h1,h2,h3⟩:=ho;refine⟨h1,h2,?_⟩;rcases h3 with h3|⟨b,c,e,G,cs,rest,k1,k2,k3,k4,k5,k6,k7,k8⟩
  ·exact .inl h3
  ·refine .inr ⟨b,c,e,G,cs,rest,k1,by rw[hb _ hm b k1];exact k2,k3,k4,k5,?_,k7,?_⟩
   ·refine k6.frame fun x hx=>?_;cases ow
    ·simp only[fq,if_false]at k8;exact(hS x (k8.2 x hx)).2
    ·simp only[if_true]at k8;exact hbl x (by rw[k8];simp[hx])
   ·cases ow
    ·simp only[fq,if_false]at k8⊢;exact⟨k8.1,fun x hx=>(hS x (k8.2 x hx)).1⟩
    ·simpa using k8
 |bx sz items=>
  simp only[cm]at ho⊢;rw[e1,hφ];obtain⟨h1,b,c,e,vs,rest,k1,k2,k3,k4,k5⟩:=ho;exact⟨h1,b,c,e,vs,rest,k1,by rw[hb _ hm b k1];exact k2,k3,ah.fr hu hb hβ him k4,k5⟩
 |sb T E s=>
  simp only[cm]at ho⊢;rw[e1,hφ];obtain⟨b,F,k1,k2,k3⟩:=ho;exact⟨b,F,k1,k2,k3.frame fun x hx=>hbl x (by rw[k2];exact hx)⟩

theorem aZ.addU{h h':aE}{us:List (Nat×U)}{g:Gh}(hu:aZ h n0 S0 M0 us g){n:Nat}(hn:n∉us.map (·.1)){u:U}{β:Option Nat}{φ:List Nat}{root:Value}{cap:Nat}
  (hsz:h.size≤h'.size) (hh:∀b,(b∈fp g us∨g.Sh b)→h'[b]?=h[b]?) (hnd:φ.Nodup) (hφ:∀b∈φ,b<h'.size∧(b<n0→M0 b)∧¬g.Sh b∧b∉fp g us∧kp h' b)
  (ho : (∀ av x, ab h us g av x → ab h' ((n, u) :: us) (g.add n β φ root cap) av x) → cm h' ((n, u) :: us) (g.add n β φ root cap) n u) (hpn : u.isPin = true → kl n0 M0 n β cap := by simp [U.isPin]) : aZ h' n0 S0 M0 ((n, u) :: us) (g.add n β φ root cap) ∧
   ∀av x,ab h us g av x→ab h' ((n,u)::us) (g.add n β φ root cap) av x:=by
 have hne:∀x∈us,x.1≠n:=fun x hx e=>hn (List.mem_map.2 ⟨x,hx,e⟩);have hfp':fp (g.add n β φ root cap) us=fp g us:=by
  unfold fp;have hne':=hne;clear hu hn hh hφ ho hne
  induction us with
  |nil=>rfl
  |cons x us ih=>
   simp only[List.flatMap_cons];rw[ih (fun y hy=>hne' y (by simp[hy]))];simp[Gh.add,hne' x (by simp)]
 have hφn:(g.add n β φ root cap).φ n=φ:=by simp[Gh.add]
 have hcons:fp (g.add n β φ root cap) ((n,u)::us)=φ++fp g us:=by
  show((g.add n β φ root cap).φ n)++fp (g.add n β φ root cap) us=_
  rw[hφn,hfp']
 have hβ:∀x∈us,(g.add n β φ root cap).β x.1=g.β x.1∧(g.add n β φ root cap).root x.1=g.root x.1∧(g.add n β φ root cap).cap x.1=g.cap x.1:=by
  intro x hx;simp[Gh.add,hne x hx]
 have hm:∀x∈us,x∈(n,u)::us:=fun y hy=>List.mem_cons_of_mem _ hy;have hb:∀x∈us,∀b,g.β x.1=some b→h'[b]?=h[b]?:=fun x hx b hxb=>hh b (.inl (aH.2 ⟨x,hx,(hu.each x hx).block_mem hxb⟩));have hok:∀t b,g.ok t b→(g.add n β φ root cap).ok t b∧(b∈fp g us∨g.Sh b):=by
  intro t b hb;rcases hb with hb|⟨i,hi,h1,h2⟩
  ·exact⟨.inl hb,.inr hb⟩
  ·obtain⟨u',hm'⟩:=hu.live h1;have:i≠n:=hne _ hm';exact⟨.inr ⟨i,hi,by simpa[Gh.add,this]using h1,by simpa[Gh.add,this]using h2⟩,.inl (aH.2 ⟨_,hm',h1⟩)⟩
 have him:∀t d F cs,aW h d F cs→(∀b∈F,g.ok t b)→aW h' d F cs∧∀b∈F,(g.add n β φ root cap).ok t b:=fun t d F cs hr hF=>
  ⟨hr.frame fun b hb=>hh b (hok t b (hF b hb)).2,fun b hb=>(hok t b (hF b hb)).1⟩
 have hV:∀av x,ab h us g av x→ab h' ((n,u)::us) (g.add n β φ root cap) av x:=fun av x hr=>hr.fr hm hb hβ him;refine⟨⟨?_,?_,?_,?_,?_,?_,?_,?_,hu.pin.cons hn (fun i hi=>by simp[Gh.add,hi]) (by simpa[Gh.add]using hpn)⟩,hV⟩
 ·simp only[lC,List.nodup_cons];exact⟨hn,hu.keys⟩
 ·rw[hcons,List.nodup_append];exact⟨hnd,hu.nodup,fun x hx y hy e=>(hφ x hx).2.2.2.1 (e▸hy)⟩
 ·intro b hb;rw[hcons]at hb;rcases List.mem_append.1 hb with hb|hb
  ·exact(hφ b hb).1
  ·exact Nat.lt_of_lt_of_le (hu.lt b hb) hsz
 ·intro b hb hlt;rw[hcons]at hb;rcases List.mem_append.1 hb with hb|hb
  ·exact(hφ b hb).2.1 hlt
  ·exact hu.low b hb hlt
 ·intro i hi;simp only[lC,List.mem_cons,not_or]at hi;simp only[Gh.add,hi.1,if_false];exact hu.dead i hi.2
 ·intro b hb;obtain⟨q1,q2,q3⟩:=hu.sh b hb;refine⟨by omega,q2,?_⟩;rw[hcons,List.mem_append];rintro(h1|h1)
  ·exact(hφ b h1).2.2.1 hb
  ·exact q3 h1
 ·intro x hx;rcases List.mem_cons.1 hx with rfl|hx
  ·exact ho hV
  ·exact(hu.each x hx).fr hx hm hb hβ him (by simp[Gh.add,hne x hx]) (fun b hb=>hh b (.inl (aH.2 ⟨x,hx,hb⟩))) (fun b hb=>⟨hb,hh b (.inr hb)⟩)
 ·intro b hb;rw[hcons]at hb;rcases List.mem_append.1 hb with hb|hb
  ·exact(hφ b hb).2.2.2.2
  ·obtain⟨c,e,hc⟩:=hu.fz b hb;exact⟨c,e,by rw[hh b (.inl hb)];exact hc⟩

def K2(h:aE)(sz:Nat)(ao:Option Addr)(n cap:Nat)(olds:List Value):Prop:=
 (n=0∧cap=0∧olds=[])∨∃b off c e,ao=some ⟨b,off,none⟩∧n≤cap∧h[b]?=some (.cells c e (0,0))∧off+cap*sz≤c.size∧olds=(c.toList.drop off).take (n*sz)

def KZ(w:World)(sz:Nat)(v:Value)(m:Nat)(news:List Value):Prop:=
 ∃xp xc,v=.slice xp m xc∧news.length=m*sz∧(0<m→∃a,xp=some a∧∀j u,news[j]?=some u→w.cell? (a.add j)=some u)

theorem BH{t ty e:TypeId}{i:TypeInfo}{z:Value}(ht:P.underlying t=some (.slice e))(hi:P.info? e=some i)(hz:i.zero=some z)(hzs:z.cells.size=i.size)
    {ao:Option Addr} {n cap:Nat} {olds:List Value} (hs:K2 w.heap i.size ao n cap olds) {v:Value} {m:Nat} {news:List Value} (hx:KZ w i.size v m news) (h1:∀u∈news,u.oneCell'=true)
    (h63:n+m≤aT) (hby:(n+m)*i.bytes≤140737488355328):
    ∃v' w',(Builtin.append_ #[t,t] ty #[.slice ao n cap,v]).run P w=.ok v' w'∧w'.os=w.os∧w'.tape=w.tape∧w'.output=w.output∧
      ((m = 0 ∧ v' = .slice ao n cap ∧ w' = w) ∨
       (∃b off c e0,0<m∧ao=some ⟨b,off,none⟩∧n+m≤cap∧v'=.slice ao (n+m) cap∧w.heap[b]?=some (.cells c e0 (0,0))∧off+cap*i.size≤c.size∧olds=(c.toList.drop off).take (n*i.size)∧
          w'=w.setRow b (c.toList.take (off+n*i.size)++news++c.toList.drop (off+n*i.size+news.length)).toArray)∨
       (∃cap' c' rest,0<m∧v'=.slice (some ⟨w.heap.size,0,none⟩) (n+m) cap'∧n+m≤cap'∧c'.size=cap'*i.size∧c'.toList=(olds++news)++rest∧w'.heap=w.heap.push (.cells c' e (0,0)))):=by
  obtain⟨xp,xc,rfl,hnl,hxc⟩:=hx;have hnc:n≤cap:=by rcases hs with⟨rfl,rfl,_⟩|⟨_,_,_,_,_,h,_⟩<;>omega
  have hol:olds.length=n*i.size:=by
    rcases hs with⟨rfl,_,rfl⟩|⟨b,off,c,e0,rfl,q1,q2,q3,rfl⟩
    · simp
    · have := Nat.mul_le_mul_right i.size q1
      simp only[List.length_take,List.length_drop,Array.length_toList];omega
  rcases Nat.eq_zero_or_pos m with rfl|hm
  · have hn0 : news = [] := List.eq_nil_of_length_eq_zero (by simpa using hnl)
    subst hn0;refine⟨.slice ao n cap,w,?_,rfl,rfl,rfl,.inl ⟨rfl,rfl,rfl⟩⟩;cases xp<;>cases ao<;>simp[Builtin.append_,run_underlying ht,sizeOf,typeInfo,hi,Builtin.lenOf,Builtin.firstCells,loadCells,loadCellsFrom,storeCells,hnc]
  · obtain ⟨ad, rfl, hcell⟩ := hxc hm
    have hsmall:n+m≤9223372036854775807:=h63;have grown:∀(v':Value)(w':World),v'=.slice (some ⟨w.heap.size,0,none⟩) (n+m) (grownCap w (n+m) cap e)→
        w'=(w.drew.alloc (.cells (olds.toArray++news.toArray++Builtin.zeroCells z.cells (grownCap w (n+m) cap e-(n+m))) e))→
        w'.os=w.os∧w'.tape=w.tape∧w'.output=w.output∧∃cap' c' rest,0<m∧v'=.slice (some ⟨w.heap.size,0,none⟩) (n+m) cap'∧n+m≤cap'∧c'.size=cap'*i.size∧c'.toList=(olds++news)++rest∧w'.heap=w.heap.push (.cells c' e (0,0)):=by
      rintro v' w' rfl rfl;refine⟨rfl,rfl,rfl,_,_,(Builtin.zeroCells z.cells (grownCap w (n+m) cap e-(n+m))).toList,hm,rfl,grownCap_ge w (n+m) cap e,?_,by simp,rfl⟩;have hge:=grownCap_ge w (n+m) cap e;simp only[Array.size_append,List.size_toArray,size_zeroCells,hzs,hol,hnl,←Nat.add_mul];congr 1;omega
    rcases hs with⟨rfl,rfl,rfl⟩|⟨b,off,c,e0,rfl,q1,q2,q3,rfl⟩
    · cases ao with
      | none =>
        have hr:=run_append_nil (P:=P) w t ty e i z ht hi hz ad m xc news hnl hcell hm (by omega) (by have hb:=hby;simp only[Nat.zero_add]at hb;omega);obtain⟨g1,g2,g3,g4⟩:=grown _ _ rfl rfl;refine⟨_,_,?_,g1,g2,g3,.inr (.inr g4)⟩;simpa using hr
      | some b =>
        have hr:=run_append_grow (P:=P) w t ty e i z ht hi hz b 0 0 [] (by simp) (by simp) ad m xc news hnl hcell (by omega) (by omega) (growslice_fits (by omega) hby);obtain⟨g1,g2,g3,g4⟩:=grown _ _ rfl rfl;exact⟨_,_,hr,g1,g2,g3,.inr (.inr g4)⟩
    · by_cases hroom : n + m ≤ cap
      · have hf := run_firstCells_some (P := P) w i.size m ad m xc news hnl hcell
        have hle:=Nat.mul_le_mul_right i.size hroom;rw[Nat.add_mul]at hle;have hst:=run_storeCells_at P b (off+n*i.size) e0 news 0 c w q2 (by omega) h1;simp only[Nat.add_zero]at hst;refine⟨_,_,?_,?_,?_,?_,.inr (.inl ⟨b,off,c,e0,hm,rfl,hroom,rfl,q2,q3,rfl,rfl⟩)⟩
        · simp[Builtin.append_,run_underlying ht,sizeOf,typeInfo,hi,Builtin.lenOf,hroom,hf,Addr.add_lit,hst]
        all_goals rfl
      · have holds:∀j u,((c.toList.drop off).take (n*i.size))[j]?=some u→w.cell? ((⟨b,off,none⟩:Addr).add j)=some u:=by
          intro j u hj;rw[Addr.add_lit,cell_of_row w b _ c e0 (0,0) q2];rw[List.getElem?_take]at hj
          split at hj
          · simpa using hj
          · cases hj
        have hr:=run_append_grow (P:=P) w t ty e i z ht hi hz ⟨b,off,none⟩ n cap _ hol holds ad m xc news hnl hcell (by omega) (by omega) (growslice_fits (by omega) hby);obtain⟨g1,g2,g3,g4⟩:=grown _ _ rfl rfl;exact⟨_,_,hr,g1,g2,g3,.inr (.inr g4)⟩

end Go.Ax
namespace Go.Ax

variable {P : Program} {n0 : Nat} {S0 M0 : Nat → Prop} {w0 : World}
variable {st : St} {o : Oper} {a : Act} {w : World} {k : KQ} {Q' : Exit → Act → World → Prop} {g : Gh}

theorem o9{d:D}{nn:Option Bool}{sz:Nat}{ds:List D}{F:List Nat}{v:Value}(hd:d=.ls nn sz ds)(hr:aW w.heap d F v.cells.toList)(hf:d.fits v):
  ∃F' news,aK w.heap ds F' news∧(∀b∈F',b∈F)∧(F.Nodup→F'.Nodup)∧KZ w sz v ds.length news:=by
 subst hd;have hv:=aS (by simpa[D.fits]using hf);unfold aW at hr;rcases hr with⟨p,h1,rfl,rfl,_⟩|⟨b,off,cap,c,e,fr,F',h1,rfl,h3,h4,h5,h6,h7,h8,h9⟩
 ·rw[hv]at h1;simp only[List.cons.injEq,and_true]at h1;exact⟨[],[],by simp[aK],by simp,fun _=>List.nodup_nil,p,0,h1,by simp,by simp⟩
 ·rw[hv]at h1;simp only[List.cons.injEq,and_true]at h1;refine⟨F',_,h9,fun b hb=>by simp[hb],fun h=>(List.nodup_cons.1 h).2,some ⟨b,off,none⟩,cap,h1,?_,fun _=>⟨_,rfl,?_⟩⟩
  ·rw[h9.length,D.sizeL_const h8]
  ·intro j u hj;rw[Addr.add_lit,cell_of_row w b _ c e fr h6];rw[List.getElem?_take]at hj
   split at hj
   ·simpa using hj
   ·cases hj

theorem D7{sz:Nat}(h0:aZ w.heap n0 S0 M0 st.us g){tm:Nat→Value}(hrep:∀t,ab w.heap st.us g (lk st.env t) (tm t)){av:AV}{v:Value}{k:KL}(hr:ab w.heap st.us g av v)(hk:iE st sz av k):
  ∃own ds st' g' F news,k own ds st'∧cI w.heap n0 S0 M0 st st' tm g g'∧aK w.heap ds F news∧w5 n0 M0 own g g' st.us st'.us F∧(∀b,g'.Sh b↔g.Sh b)∧(∀b,b∈fp g' st'.us→b∈fp g st.us)∧
   ((∀d∈ds,d.size=sz)→0<sz→KZ w sz v ds.length news):=by
 have T:=cI.refl h0 hrep;have dflt:mC (av.arg st.unit) sz st k→∃own ds st' g' F news,k own ds st'∧cI w.heap n0 S0 M0 st st' tm g g'∧aK w.heap ds F news∧w5 n0 M0 own g g' st.us st'.us F∧(∀b,g'.Sh b↔g.Sh b)∧(∀b,b∈fp g' st'.us→b∈fp g st.us)∧
   ((∀d∈ds,d.size=sz)→0<sz→KZ w sz v ds.length news):=by
  intro hk;unfold mC at hk
  split at hk
  ·next nn sz' ds hd=>
   obtain⟨⟨rfl,hn⟩,hk⟩:=hk;obtain⟨F,r1,r2,_⟩:=wq h0 hr hd;obtain⟨F',news,q1,q2,q3,q4⟩:=o9 rfl r1 r2;have:=dK hn q1;subst this;exact⟨true,ds,st,g,[],news,hk,T,q1,w5.nil,fun _=>Iff.rfl,fun _ hb=>hb,fun _ _=>q4⟩
  ·exact hk.elim
 unfold iE at hk
 split at hk
 ·next i len=>
  unfold tc at hk
  split at hk
  ·next oC items hun=>
   obtain⟨⟨rfl,rfl⟩,hk⟩:=hk;have hm:=ay hun;have ho:=h0.each _ hm;simp only[ab]at hr;obtain⟨bsz',items',b,r1,r2,r3,rfl⟩:=hr;have:=h0.uniq hm r1;injection this with e1 e2;subst e1 e2;simp only[cm]at ho;obtain⟨hmax,b',c,e,vs,rest,k1,k2,k3,k4,k5,k6⟩:=ho;rw[r3]at k1;obtain rfl:=Option.some.inj k1;obtain⟨own,ds,st',g',F,p1,p2,p3,p4,p5,p6⟩:=md (ju 12) h0 (T.del i) k4 hk;have hsub:∀b,b∈fp (g.drop i) (st.del i).us→b∈fp g st.us:=fun b hb=>(dg (g:=g) (g':=g.drop i) (fun j hj=>by simp[Gh.drop,hj])).subset hb;refine⟨own,ds,st',g',F,_,p1,p2,p3,p4.weak hsub,fun b=>p5 b,fun b hb=>hsub b (p6 b hb),fun hs h0'=>?_⟩;have l1:=p3.length;rw[D.sizeL_const hs]at l1;have l2:(vs.map (·.cells.toList)).flatten.length=vs.length*oC:=by
    have:∀vs:List Value,(∀v∈vs,v.cells.size=oC)→(vs.map (·.cells.toList)).flatten.length=vs.length*oC:=by
     intro vs
     induction vs with
     |nil=>simp
     |cons x vs ih=>
      intro hx;simp only[lC,List.flatten_cons,lP,Array.length_toList,lK,hx x (by simp),ih fun y hy=>hx y (by simp[hy]),Nat.add_mul];omega
    exact this vs (k5 h0')
   have l3:vs.length=items.length:=by
    have:∀{as:List AV} {vs:List Value},ah w.heap st.us g as vs→vs.length=as.length:=by
     intro as
     induction as with
     |nil=>intro vs h;simp only[ah]at h;simp[h]
     |cons x as ih=>intro vs h;simp only[ah]at h;obtain⟨v,r,rfl,_,h3⟩:=h;simp[ih h3]
    exact this k4
   have l4:ds.length=items.length:=by
    rw[l2,l3]at l1;exact(Nat.eq_of_mul_eq_mul_right h0' l1).symm
   rw[l4];refine⟨_,_,rfl,by rw[l2,l3],fun _=>⟨_,rfl,fun j u hj=>?_⟩⟩;rw[Addr.add_lit,cell_of_row w b _ c e (0,0) k2,Nat.zero_add];rw[←Array.getElem?_toList,k6];rw[List.getElem?_append_left (List.getElem?_eq_some_iff.1 hj).1];exact hj
  ·exact hk.elim
 ·next nn sz' ds=>
  obtain⟨rfl,hk⟩:=hk;simp only[ab]at hr;obtain⟨F,r1,r2,r3⟩:=hr;obtain⟨F',news,q1,q2,q3,q4⟩:=o9 rfl r1 r2;refine⟨af ds,ds,st,g,F',news,hk,T,q1,⟨fun hp=>?_,fun _ b hb=>fk (r3 b (q2 b hb))⟩,fun _=>Iff.rfl,fun _ hb=>hb,fun _ _=>q4⟩;have:=dK hp q1;subst this;exact⟨List.nodup_nil,by simp⟩
 ·exact dflt hk

theorem tg{us:List (Nat×U)}{g1:Gh}(hu:aZ w.heap n0 S0 M0 us g1)(hb0:n0≤w.heap.size){id:Nat}(hid:id∉us.map (·.1)){sz:Nat}(h0:0<sz){es ds:List D}{G F:List Nat}{olds news:List Value}{rest:List Value}{nn:Option Bool}{ao:Option Addr}{cap:Nat}
    (hes:aK w.heap es G olds) (hse:∀d∈es,d.size=sz) (hds:aK w.heap ds F news) (hsd:∀d∈ds,d.size=sz) (hmax:es.length+ds.length≤aT)
    (hsrc:(es=[]∧G=[]∧olds=[]∧cap=0∧ao=none∧nn≠some false)∨
      ∃b c e,ao=some ⟨b,0,none⟩∧w.heap[b]?=some (.cells c e (0,0))∧c.size=cap*sz∧c.toList=olds++rest∧es.length≤cap∧nn≠some true∧b∉fp g1 us∧¬g1.Sh b∧(b<n0→M0 b)∧b∉G++F)
    {ow:Bool} (hown:ow=true→(G++F).Nodup∧∀x∈G++F,(x<n0→M0 x)∧¬g1.Sh x∧x∉fp g1 us∧kp w.heap x) (hsh:ow=false→∀x∈G++F,g1.Sh x)
    (hpn:nn=none→∀k v,k<8→id=3000000000+k→(M0 (n0+(16*v+k))→ao=some ⟨v,0,none⟩)∧(M0 (n0+(16*v+(8+k)))→ao≠none→cap=v))
    {e:TypeId} {v':Value} {w':World}
    (hrun:(ds.length=0∧v'=.slice ao es.length cap∧w'=w)∨
       (∃b off c e0,0<ds.length∧ao=some ⟨b,off,none⟩∧es.length+ds.length≤cap∧v'=.slice ao (es.length+ds.length) cap∧w.heap[b]?=some (.cells c e0 (0,0))∧off+cap*sz≤c.size∧olds=(c.toList.drop off).take (es.length*sz)∧
          w'=w.setRow b (c.toList.take (off+es.length*sz)++news++c.toList.drop (off+es.length*sz+news.length)).toArray)∨
       (∃cap' c' rest,0<ds.length∧v'=.slice (some ⟨w.heap.size,0,none⟩) (es.length+ds.length) cap'∧es.length+ds.length≤cap'∧c'.size=cap'*sz∧c'.toList=(olds++news)++rest∧w'.heap=w.heap.push (.cells c' e (0,0)))):
    ∃g2,aZ w'.heap n0 S0 M0 ((id,.ar ow (ba nn ds) sz (es++ds))::us) g2∧(∀av x,ab w.heap us g1 av x→ab w'.heap ((id,.ar ow (ba nn ds) sz (es++ds))::us) g2 av x)∧
      ab w'.heap ((id,.ar ow (ba nn ds) sz (es++ds))::us) g2 (.sm id 0 (es.length+ds.length)) v'∧w.heap.size≤w'.heap.size∧(∀b,b<n0→¬M0 b→w'.heap[b]?=w.heap[b]?):=by
  have hall:aK w.heap (es++ds) (G++F) (olds++news):=hes.append hds;have hsz:∀d∈es++ds,d.size=sz:=fun d hd=>(List.mem_append.1 hd).elim (hse d) (hsd d);have hol:=hes.length;rw[D.sizeL_const hse]at hol;have hnl:=hds.length;rw[D.sizeL_const hsd]at hnl;have hlow:∀x∈G++F,x<w.heap.size:=hall.lt

  have key:∀(b1:Nat)(c1:Array Value)(e1:TypeId)(cap1:Nat)(rest1:List Value),b1∉fp g1 us→¬g1.Sh b1→(b1<n0→M0 b1)→b1∉G++F→b1<w'.heap.size→w.heap.size≤w'.heap.size→
      (∀b,b≠b1→b<w.heap.size→w'.heap[b]?=w.heap[b]?)→w'.heap[b1]?=some (.cells c1 e1 (0,0))→c1.size=cap1*sz→c1.toList=(olds++news)++rest1→es.length+ds.length≤cap1→ba nn ds≠some true→v'=.slice (some ⟨b1,0,none⟩) (es.length+ds.length) cap1→(ba nn ds=none→kl n0 M0 id (some b1) cap1)→
      ∃g2,aZ w'.heap n0 S0 M0 ((id,.ar ow (ba nn ds) sz (es++ds))::us) g2∧(∀av x,ab w.heap us g1 av x→ab w'.heap ((id,.ar ow (ba nn ds) sz (es++ds))::us) g2 av x)∧
        ab w'.heap ((id,.ar ow (ba nn ds) sz (es++ds))::us) g2 (.sm id 0 (es.length+ds.length)) v'∧w.heap.size≤w'.heap.size∧(∀b,b<n0→¬M0 b→w'.heap[b]?=w.heap[b]?):=by
    intro b1 c1 e1 cap1 rest1 m1 m2 m3 m4 m5 m6 m7 m8 m9 m10 m11 m12 m13 m14;have hh:∀b,(b∈fp g1 us∨g1.Sh b)→w'.heap[b]?=w.heap[b]?:=by
      intro b hb;exact m7 b (by rintro rfl;exact hb.elim m1 m2) (hb.elim (hu.lt b) fun h=>(hu.sh b h).1)
    have hall':aK w'.heap (es++ds) (G++F) (olds++news):=hall.frame fun b hb=>m7 b (by rintro rfl;exact m4 hb) (hlow b hb);have hA:(if ow=true then b1::(G++F)else[b1]).Nodup:=by
      split
      · next e=>exact List.nodup_cons.2 ⟨m4,(hown e).1⟩
      · simp
    have hB:∀b∈(if ow=true then b1::(G++F)else[b1]),b<w'.heap.size∧(b<n0→M0 b)∧¬g1.Sh b∧b∉fp g1 us∧kp w'.heap b:=by
      intro b hb;have hb1:b=b1∨(ow=true∧b∈G++F):=by
        split at hb
        · next e =>
          rcases List.mem_cons.1 hb with h|h
          · exact .inl h
          · exact .inr ⟨e,h⟩
        · exact .inl (by simpa using hb)
      rcases hb1 with rfl|⟨ho,hb⟩
      · exact⟨m5,m3,m2,m1,c1,e1,m8⟩
      · obtain ⟨q1, q2, q3, c, e, q4⟩ := (hown ho).2 b hb
        have:=hlow b hb;have hbn:b≠b1:=fun e=>m4 (e▸hb);exact⟨by omega,q1,q2,q3,c,e,by rw[m7 b hbn this];exact q4⟩
    obtain⟨hU,hV⟩:=hu.addU (h':=w'.heap) hid (u:=.ar ow (ba nn ds) sz (es++ds)) (β:=some b1) (root:=undef) (cap:=cap1) m6 hh hA hB (by
      intro _;simp only[cm];refine⟨by simpa using hmax,hsz,.inr ⟨b1,c1,e1,G++F,olds++news,rest1,by simp[Gh.add],m8,m10,by simp[Gh.add,m9],by simp[Gh.add];exact m11,hall',m12,?_⟩⟩;cases ow with
      |true=>simp[Gh.add]
      |false=>simp only[fq,if_false,Gh.add,if_true,true_and];exact hsh rfl) (fun e=>m14 (U.isPin_ar.1 e))
    refine⟨_,hU,hV,?_,m6,fun b hb hm=>m7 b (by rintro rfl;exact hm (m3 hb)) (by omega)⟩;simp only[ab];refine⟨_,_,_,_,List.mem_cons_self,by simp,.inl ⟨b1,by simp[Gh.add],?_⟩⟩;rw[m13];simp[Gh.add]
  have hfresh:w.heap.size∉fp g1 us∧¬g1.Sh w.heap.size∧(w.heap.size<n0→M0 w.heap.size)∧w.heap.size∉G++F:=
    ⟨fun h=>Nat.lt_irrefl _ (hu.lt _ h),fun h=>Nat.lt_irrefl _ (hu.sh _ h).1,fun h=>by omega,fun h=>Nat.lt_irrefl _ (hlow _ h)⟩
  have hgr':0<ds.length→∀b1 cap1,ba nn ds=none→kl n0 M0 id (some b1) cap1:=by
    intro h b1 cap1 e;cases ds with
    |nil=>simp at h
    |cons=>simp[ba]at e
  rcases hrun with⟨r1,rfl,rfl⟩|⟨b,off,c,e0,r1,rfl,r2,rfl,r3,r4,r5,rfl⟩|⟨cap',c',rest',r1,rfl,r2,r3,r4,r5⟩
  · have hd0 : ds = [] := List.eq_nil_of_length_eq_zero r1
    subst hd0;simp only[aK]at hds;obtain⟨rfl,rfl⟩:=hds;rcases hsrc with⟨rfl,rfl,rfl,rfl,rfl,q⟩|⟨b,c,e,rfl,q1,q2,q3,q4,q5,q6,q7,q8,q9⟩
    · obtain⟨hU,hV⟩:=hu.addU (h':=w'.heap) hid (u:=.ar ow (ba nn []) sz ([]++[])) (β:=none) (φ:=[]) (root:=undef) (cap:=0) (Nat.le_refl _) (fun _ _=>rfl) List.nodup_nil (by simp) (by
        intro _;simp only[cm];exact⟨by simp,by simp,.inl ⟨by simp[Gh.add],by simp,by simp[Gh.add],by simpa[ba]using q⟩⟩) (by
        intro e k v hk hid;have e:=U.isPin_ar.1 e;have:=hpn (by simpa[ba]using e) k v hk hid;exact⟨fun h=>by simpa using this.1 h,fun _ h=>absurd rfl h⟩)
      refine⟨_,hU,hV,?_,Nat.le_refl _,fun _ _ _=>rfl⟩;simp only[ab];exact⟨_,_,_,_,List.mem_cons_self,by simp,.inr (by simp[Gh.add])⟩
    · exact key b c e cap rest q6 q7 q8 q9 (Array.getElem?_eq_some_iff.1 q1).1 (Nat.le_refl _) (fun _ _ _=>rfl) q1 q2 (by simpa using q3) (by simpa using q4) (by simpa[ba]using q5) (by simp) (by
        intro e k v hk hid;have:=hpn (by simpa[ba]using e) k v hk hid;exact⟨fun h=>by simpa using this.1 h,fun h _=>this.2 h (by simp)⟩)
  · rcases hsrc with ⟨_, _, _, _, h, _⟩ | ⟨b', c', e', h, q1, q2, q3, q4, q5, q6, q7, q8, q9⟩
    · cases h
    · injection h with h
      injection h with h1 h2;subst h1 h2;rw[r3]at q1;injection q1 with q1;injection q1 with q1 q1';subst q1;have hnd:ba nn ds≠some true:=by
        cases ds with
        |nil=>simp at r1
        |cons=>simp[ba]
      have hlc:c.toList.length=c.size:=by simp
      have hle:=Nat.mul_le_mul_right sz r2;rw[Nat.add_mul]at hle;have hc1:(c.toList.take (0+es.length*sz)++news++c.toList.drop (0+es.length*sz+news.length)).toArray.toList=(olds++news)++rest.drop news.length:=by
        simp only[q3,Nat.zero_add,←hol];rw[List.take_left',List.drop_append,List.drop_eq_nil_of_le (by omega)]
        · simp
        · rfl
      refine key b _ e0 cap _ q6 q7 q8 q9 (by rw[setRow_size];exact(Array.getElem?_eq_some_iff.1 r3).1) (by rw[setRow_size];exact Nat.le_refl _) (fun y hy _=>setRow_other w b y _ hy) (setRow_heap w b c _ e0 _ r3) ?_ hc1 r2 hnd rfl (hgr' r1 _ _);simp only[List.size_toArray,lP,List.length_take,List.length_drop,Array.length_toList,Nat.zero_add];omega
  · have hnd:ba nn ds≠some true:=by
      cases ds with
      |nil=>simp at r1
      |cons=>simp[ba]
    obtain⟨f1,f2,f3,f4⟩:=hfresh;exact key w.heap.size c' e cap' rest' f1 f2 f3 f4 (by rw[r5];simp) (by rw[r5];simp) (fun b _ hb=>by rw[r5,Array.getElem?_push,if_neg (by omega)]) (by rw[r5];simp) r3 r4 r2 hnd rfl (hgr' r1 _ _)

theorem A4{us:List (Nat×U)}{g1:Gh}(hu:aZ w.heap n0 S0 M0 us g1)(hb0:n0≤w.heap.size){id:Nat}(hid:id∉us.map (·.1)){sz:Nat}(h0:0<sz){es ds:List D}{F2 F:List Nat}{v:Value}{news:List Value}{nn:Option Bool}
    (hR:aW w.heap (.ls nn sz es) F2 v.cells.toList) (hfit:v.oneCell'=true) (hds:aK w.heap ds F news) (hsd:∀d∈ds,d.size=sz) (hmax:es.length+ds.length≤aT)
    (hnd:(F2++F).Nodup) (hF:∀x∈F2++F,(x<n0→M0 x)∧¬g1.Sh x∧x∉fp g1 us∧kp w.heap x):
    ∃ao cap olds,v=.slice ao es.length cap∧K2 w.heap sz ao es.length cap olds∧∀(e:TypeId)(v':Value)(w':World),
      ((ds.length = 0 ∧ v' = .slice ao es.length cap ∧ w' = w) ∨
       (∃b off c e0,0<ds.length∧ao=some ⟨b,off,none⟩∧es.length+ds.length≤cap∧v'=.slice ao (es.length+ds.length) cap∧w.heap[b]?=some (.cells c e0 (0,0))∧off+cap*sz≤c.size∧olds=(c.toList.drop off).take (es.length*sz)∧
          w'=w.setRow b (c.toList.take (off+es.length*sz)++news++c.toList.drop (off+es.length*sz+news.length)).toArray)∨
       (∃cap' c' rest,0<ds.length∧v'=.slice (some ⟨w.heap.size,0,none⟩) (es.length+ds.length) cap'∧es.length+ds.length≤cap'∧c'.size=cap'*sz∧c'.toList=(olds++news)++rest∧w'.heap=w.heap.push (.cells c' e (0,0))))→
      ∃g2,aZ w'.heap n0 S0 M0 ((id,.own (.ls (ba nn ds) sz (es++ds)))::us) g2∧(∀av x,ab w.heap us g1 av x→ab w'.heap ((id,.own (.ls (ba nn ds) sz (es++ds)))::us) g2 av x)∧
        ab w'.heap ((id,.own (.ls (ba nn ds) sz (es++ds)))::us) g2 (.tr id) v'∧w.heap.size≤w'.heap.size∧(∀b,b<n0→¬M0 b→w'.heap[b]?=w.heap[b]?):=by
  have hvc:=aS hfit;have hnl:=hds.length;rw[D.sizeL_const hsd]at hnl;have hlowF:∀x∈F,x<w.heap.size:=hds.lt;have hlowF2:∀x∈F2,x<w.heap.size:=hR.lt

  have key:∀(w':World)(v':Value)(φ:List Nat),w.heap.size≤w'.heap.size→(∀b,(b∈fp g1 us∨g1.Sh b)→w'.heap[b]?=w.heap[b]?)→(∀b,b<n0→¬M0 b→w'.heap[b]?=w.heap[b]?)→φ.Nodup→
      (∀b∈φ,b<w'.heap.size∧(b<n0→M0 b)∧¬g1.Sh b∧b∉fp g1 us∧kp w'.heap b)→aW w'.heap (.ls (ba nn ds) sz (es++ds)) φ v'.cells.toList→v'.oneCell'=true→
      ∃g2,aZ w'.heap n0 S0 M0 ((id,.own (.ls (ba nn ds) sz (es++ds)))::us) g2∧(∀av x,ab w.heap us g1 av x→ab w'.heap ((id,.own (.ls (ba nn ds) sz (es++ds)))::us) g2 av x)∧
        ab w'.heap ((id,.own (.ls (ba nn ds) sz (es++ds)))::us) g2 (.tr id) v'∧w.heap.size≤w'.heap.size∧(∀b,b<n0→¬M0 b→w'.heap[b]?=w.heap[b]?):=by
    intro w' v' φ m1 m2 m3 m4 m5 m6 m7;obtain⟨hU,hV⟩:=hu.addU (h':=w'.heap) hid (u:=.own (.ls (ba nn ds) sz (es++ds))) (β:=none) (φ:=φ) (root:=v') (cap:=0) m1 m2 m4 m5 (by
      intro _;simp only[cm];exact⟨by simp[Gh.add],by simpa[Gh.add]using m6,by simpa[Gh.add,D.fits]using m7⟩)
    refine⟨_,hU,hV,?_,m1,m3⟩;simp only[ab];exact⟨⟨_,List.mem_cons_self⟩,by simp[Gh.add]⟩
  have hnn:0<ds.length→ba nn ds≠some true:=by
    intro h;cases ds with
    |nil=>simp at h
    |cons=>simp[ba]
  have hR0:=hR;unfold aW at hR

  have fresh:∀(ao:Option Addr)(cap:Nat)(olds:List Value)(G:List Nat)(e:TypeId)(v':Value)(w':World),aK w.heap es G olds→(∀d∈es,d.size=sz)→(∀x∈G,x∈F2)→(G++F).Nodup→
      (∃cap' c' rest,0<ds.length∧v'=.slice (some ⟨w.heap.size,0,none⟩) (es.length+ds.length) cap'∧es.length+ds.length≤cap'∧c'.size=cap'*sz∧c'.toList=(olds++news)++rest∧w'.heap=w.heap.push (.cells c' e (0,0)))→
      ∃g2,aZ w'.heap n0 S0 M0 ((id,.own (.ls (ba nn ds) sz (es++ds)))::us) g2∧(∀av x,ab w.heap us g1 av x→ab w'.heap ((id,.own (.ls (ba nn ds) sz (es++ds)))::us) g2 av x)∧
        ab w'.heap ((id,.own (.ls (ba nn ds) sz (es++ds)))::us) g2 (.tr id) v'∧w.heap.size≤w'.heap.size∧(∀b,b<n0→¬M0 b→w'.heap[b]?=w.heap[b]?):=by
    rintro ao cap olds G e v' w' hes hse hsub hnd' ⟨cap',c',rest,r1,rfl,r2,r3,r4,r5⟩;have hall:=hes.append hds;have hol:=hes.length;rw[D.sizeL_const hse]at hol;have hold:∀b,b<w.heap.size→w'.heap[b]?=w.heap[b]?:=fun b hb=>by rw[r5,Array.getElem?_push,if_neg (by omega)]
    have hin:∀x∈G++F,x∈F2++F:=fun x hx=>by
      rcases List.mem_append.1 hx with h|h
      · exact List.mem_append.2 (.inl (hsub x h))
      · exact List.mem_append.2 (.inr h)
    refine key w' _ (w.heap.size::(G++F)) (by rw[r5];simp) (fun b hb=>hold b (hb.elim (hu.lt b) fun h=>(hu.sh b h).1)) (fun b hb _=>hold b (by omega)) ?_ ?_ ?_ rfl
    · exact List.nodup_cons.2 ⟨fun h=>Nat.lt_irrefl _ (hall.lt _ h),hnd'⟩
    · intro b hb
      rcases List.mem_cons.1 hb with rfl|hb
      · exact⟨by rw[r5];simp,fun h=>by omega,fun h=>Nat.lt_irrefl _ (hu.sh _ h).1,fun h=>Nat.lt_irrefl _ (hu.lt _ h),c',e,by rw[r5];simp⟩
      · obtain ⟨q1, q2, q3, c, e, q4⟩ := hF b (hin b hb)
        have hlt:=hall.lt b hb;exact⟨by rw[r5];simp;omega,q1,q2,q3,c,e,by rw[hold b hlt];exact q4⟩
    · unfold aW
      refine .inr ⟨w.heap.size,0,cap',c',e,(0,0),G++F,by simp[Value.cells],rfl,hnn r1,by simpa using r2,by simpa using hmax,by rw[r5];simp,by rw[r3];omega,?_,?_⟩
      · intro d hd
        exact(List.mem_append.1 hd).elim (hse d) (hsd d)
      · rw [List.drop_zero, r4, List.take_left']
        · exact hall.frame fun b hb=>hold b (hall.lt b hb)
        · rw[lP,hol,hnl,lP,Nat.add_mul]
  rcases hR with⟨p,h1,rfl,rfl,h4,h5⟩|⟨b,off,cap,c,e0,fr,F',h1,rfl,h3,h4,h5,h6,h7,h8,h9⟩
  · rw [hvc] at h1
    simp only[List.cons.injEq,and_true]at h1;subst h1;refine⟨p,0,[],rfl,.inl ⟨rfl,rfl,rfl⟩,?_⟩;rintro e v' w' (⟨r1,rfl,rfl⟩|⟨b,off,c,e0,r1,_,r2,_⟩|hr)
    · have hd0 : ds = [] := List.eq_nil_of_length_eq_zero r1
      subst hd0;simp only[aK]at hds;obtain⟨rfl,rfl⟩:=hds;refine key w' _ [] (Nat.le_refl _) (fun _ _=>rfl) (fun _ _ _=>rfl) List.nodup_nil (by simp) ?_ rfl;simpa[ba]using hR0
    · have r2:=r2;simp only[lZ]at r2;omega
    · exact fresh p 0 [] [] e v' w' (by simp[aK]) (by simp) (by simp) (by simpa using hnd) hr
  · rw [hvc] at h1
    simp only[List.cons.injEq,and_true]at h1;subst h1;obtain⟨q1,q2,q3,c',e',q4⟩:=hF b (by simp);rw[h6]at q4;injection q4 with q4;injection q4 with e1 e2 e3;subst e1 e2 e3;refine⟨some ⟨b,off,none⟩,cap,_,rfl,.inr ⟨b,off,c,e0,rfl,h4,h6,h7,rfl⟩,?_⟩;have hnd':=hnd;rw[List.cons_append,List.nodup_cons]at hnd';rintro e v' w' (⟨r1,rfl,rfl⟩|⟨b',off',c',e1,r1,hao,r2,rfl,r3,r4,r5,rfl⟩|hr)
    · have hd0 : ds = [] := List.eq_nil_of_length_eq_zero r1
      subst hd0;simp only[aK]at hds;obtain⟨rfl,rfl⟩:=hds;refine key w' _ (b::F') (Nat.le_refl _) (fun _ _=>rfl) (fun _ _ _=>rfl) (by simpa using hnd) (fun x hx=>?_) ?_ rfl
      · obtain ⟨z1, z2, z3, z4⟩ := hF x (by simpa using hx)
        exact⟨hlowF2 x hx,z1,z2,z3,z4⟩
      · simpa[ba]using hR0
    · injection hao with hao
      injection hao with e2 e3;subst e2 e3;rw[h6]at r3;injection r3 with r3;injection r3 with r3 r3';subst r3 r3';have hol:=h9.length;rw[D.sizeL_const h8]at hol;have hall:=h9.append hds;have hlc:c.toList.length=c.size:=by simp
      have hle:=Nat.mul_le_mul_right sz r2;rw[Nat.add_mul]at hle;have hoth:∀x,x≠b→(w.setRow b (c.toList.take (off+es.length*sz)++news++c.toList.drop (off+es.length*sz+news.length)).toArray).heap[x]?=w.heap[x]?:=fun x hx=>setRow_other w b x _ hx;refine key _ _ (b::(F'++F)) (by rw[setRow_size];exact Nat.le_refl _) (fun x hx=>hoth x (by rintro rfl;exact hx.elim q3 q2)) (fun x hx hm=>hoth x (by rintro rfl;exact hm (q1 hx))) (by simpa using hnd) ?_ ?_ rfl
      · intro x hx
        obtain⟨z1,z2,z3,c2,e2,z4⟩:=hF x (by simpa using hx);have hlt:x<w.heap.size:=(Array.getElem?_eq_some_iff.1 z4).1;refine⟨by rw[setRow_size];exact hlt,z1,z2,z3,?_⟩
        by_cases hxb:x=b
        · subst hxb;exact⟨_,_,setRow_heap w x c _ e0 _ h6⟩
        · exact⟨c2,e2,by rw[hoth x hxb];exact z4⟩
      · unfold aW
        refine .inr ⟨b,off,cap,_,e0,(0,0),F'++F,by simp[Value.cells],rfl,hnn r1,by simpa using r2,by simpa using hmax,setRow_heap w b c _ e0 _ h6,?_,?_,?_⟩
        · simp only [List.size_toArray, lP, List.length_take, List.length_drop, Array.length_toList]
          omega
        · intro d hd
          exact(List.mem_append.1 hd).elim (h8 d) (hsd d)
        · have e2:((c.toList.take (off+es.length*sz)++news++c.toList.drop (off+es.length*sz+news.length)).toArray.toList.drop off).take ((es++ds).length*sz)=(c.toList.drop off).take (es.length*sz)++news:=by
            have l1:(c.toList.take (off+es.length*sz)).length=off+es.length*sz:=by simp;omega
            have eA:(c.toList.take (off+es.length*sz)).drop off=(c.toList.drop off).take (es.length*sz):=by
              rw[List.drop_take];congr 1;omega
            simp only;rw[List.append_assoc,List.drop_append_of_le_length (by rw[l1];omega),eA,←List.append_assoc,List.take_left'];rw[lP,hol,hnl,lP,Nat.add_mul]
          rw[e2];exact hall.frame fun x hx=>hoth x (by rintro rfl;exact hnd'.1 hx)
    · exact fresh none cap _ F' e v' w' h9 h8 (fun x hx=>by simp[hx]) hnd'.2 hr

theorem nW{own ow:Bool}{ds es:List D}{G F:List Nat}{h:aE}{olds news:List Value}(hc:own=ow∨af ds=true∨af es=true)(hes:aK h es G olds)(hds:aK h ds F news):
  (aq own ow (D.flatL ds) (af es)=true→(F=[]∨own=true)∧(G=[]∨ow=true))∧(aq own ow (D.flatL ds) (af es)=false→(F=[]∨own=false)∧(G=[]∨ow=false)):=by
 have key:∀ds:List D,D.flatL ds=true→af ds=true:=by
  intro ds
  induction ds with
  |nil=>intro _;rfl
  |cons d ds ih=>
   intro h;simp only[D.flatL,bA]at h;simp only[af,D.flat_noPtr h.1,ih h.2,Bool.and_self]
 exact sJ (fun h=>dK (key _ h) hds) (fun h=>dK h hds) (fun h=>dK h hes) hc

theorem ye{len:Nat}{es:List D}(h:tP len es):(mr len es).length=len∧(∃zs,es=mr len es++zs)∧len≤es.length:=by
 unfold tP at h;unfold mr
 split at h
 ·next e=>subst e;rw[if_pos rfl];exact⟨rfl,⟨[],by simp⟩,Nat.le_refl _⟩
 ·next e=>rw[if_neg e];exact⟨by simp;omega,⟨es.drop len,by simp⟩,by omega⟩

theorem EY(h:At n0 S0 M0 w0 st o a w g){c:Call}{t e:TypeId}{s x:Operand}{i:TypeInfo}{z:D}{X Y:Ax.X}{d:Nat}{f:St→Prop}(ho:o.op=.call c)(hc:c.callee=.builtin .append)(ha:c.args= #[s,x])(hta:c.argTypes= #[t,t])
    (ht:P.underlying t=some (.slice e)) (hi:P.info? e=some i) (hz:dE P e=some z) (hX:aU P t s=some X) (hY:aU P t x=some Y) (hd:o.dst=some d)
    (hq:iE st i.size (st.ev Y) (xi X d i.size i.bytes f)):o.wp P a w (dz n0 S0 M0 w0 st.n f) Q':=by
  have hs:=h.sat;have hb0:n0≤w.heap.size:=by rw[hs.base];exact hs.size
  obtain⟨zv,hzv,hzs⟩:∃zv,i.zero=some zv∧zv.cells.size=i.size:=by
    unfold dE at hz;rw[hi]at hz
    dsimp only at hz
    split at hz
    · next z' hz' =>
      split at hz
      · next hsz=>exact⟨z',hz',hsz⟩
      · cases hz
    · cases hz
  obtain⟨own,ds,st',g',F,news,hk,T,p1,⟨p2,p2'⟩,p3,p4,p5⟩:=D7 h.us h.rep (h.ev_ hY) hq;have ex:ab w.heap st'.us g' (st'.ev X) (a.eval s):=xv T.rep hX;simp only[xi]at hk

  have run:∀{ao:Option Addr} {n cap:Nat} {olds:List Value},a.eval s=.slice ao n cap→K2 w.heap i.size ao n cap olds→(∀d∈ds,d.size=i.size)→0<i.size→n+ds.length≤aT→(n+ds.length)*i.bytes≤140737488355328→
      (∀(v':Value)(w':World),w'.os=w.os→w'.tape=w.tape→w'.output=w.output→
        ((ds.length=0∧v'=.slice ao n cap∧w'=w)∨
       (∃b off c e0,0<ds.length∧ao=some ⟨b,off,none⟩∧n+ds.length≤cap∧v'=.slice ao (n+ds.length) cap∧w.heap[b]?=some (.cells c e0 (0,0))∧off+cap*i.size≤c.size∧olds=(c.toList.drop off).take (n*i.size)∧
          w'=w.setRow b (c.toList.take (off+n*i.size)++news++c.toList.drop (off+n*i.size+news.length)).toArray)∨
       (∃ cap' c' rest, 0 < ds.length ∧ v' = .slice (some ⟨w.heap.size, 0, none⟩) (n + ds.length) cap' ∧ n + ds.length ≤ cap' ∧ c'.size = cap' * i.size ∧ c'.toList = (olds ++ news) ++ rest ∧ w'.heap = w.heap.push (.cells c' e (0, 0)))) →
        dz n0 S0 M0 w0 st.n f (a.put o.dst v') w')→o.wp P a w (dz n0 S0 M0 w0 st.n f) Q':=by
    intro ao n cap olds hv hsrc hsd h0 hmax hby hpost;obtain⟨v',w',hrun,e1,e2,e3,hcase⟩:=BH (P:=P) (w:=w) (ty:=o.type) ht hi hzv hzs hsrc (p5 hsd h0) p1.one hmax hby;unfold Oper.wp;have hrun':(execOp a.eval o).run P w=.ok (.value v') w':=by
      rw[←hv]at hrun;simp[execOp,ho,resolve,hc,ha,hta,invoke,builtin,hrun,Result.andThen]
    rw[hrun'];exact hpost v' w' e1 e2 e3 hcase

  have fin:∀{env:List (Nat×AV)} {us:List (Nat×U)} {g1:Gh} {w':World} {v':Value} {id:Nat} {u:U} {av:AV},(∀t,ab w.heap us g1 (lk env t) (a.tmps.getD t undef))→w'.os=w.os→w'.tape=w.tape→w'.output=w.output→
      (∃g2,aZ w'.heap n0 S0 M0 ((id,u)::us) g2∧(∀av x,ab w.heap us g1 av x→ab w'.heap ((id,u)::us) g2 av x)∧ab w'.heap ((id,u)::us) g2 av v'∧w.heap.size≤w'.heap.size∧(∀b,b<n0→¬M0 b→w'.heap[b]?=w.heap[b]?))→
      f ((⟨st.n,env,(id,u)::us⟩:St).set d av)→dz n0 S0 M0 w0 st.n f (a.put o.dst v') w':=by
    rintro env us g1 w' v' id u av hv e1 e2 e3 ⟨g2,hU,hV,hr,hsz,hold⟩ hf;have hS:dH n0 S0 M0 w0 ⟨st.n,env,(id,u)::us⟩ a w':=by
      refine⟨hs.ms,hs.dfr,hs.tm,hs.base,e1.trans hs.os,e2.trans hs.tape,e3.trans hs.output,Nat.le_trans hs.size hsz,?_,g2,hU,fun t=>hV _ _ (hv t)⟩;intro b hb hm;rw[hold b hb hm];exact hs.old b hb hm
    refine⟨_,?_,hf,?_⟩
    · rfl
    · have := cY hS hU (fun t => hV _ _ (hv t)) (d := o.dst) (fun j hj => h.dst j hj) hr
      rw[hd]at this⊢;exact this
  have hFown:own=true→F.Nodup∧∀b∈F,(b<n0→M0 b)∧¬g'.Sh b∧b∉fp g' st'.us∧kp w.heap b:=fun e=>
    ⟨(p2 e).1,fun b hb=>⟨((p2 e).2 b hb).1,((p2 e).2 b hb).2.1,((p2 e).2 b hb).2.2.1,h.us.fz b ((p2 e).2 b hb).2.2.2⟩⟩
  have hTn:st'.n=st.n:=T.n;unfold sI at hk
  split at hk
  · next t' q e1 =>
    obtain⟨⟨q1,q2,q3,q4,q5⟩,hf⟩:=hk;rw[e1]at ex;simp only[ab]at ex;obtain⟨F0,r1,r2,_⟩:=ex;have hvc:=aS (by simpa[D.fits]using r2);unfold aW at r1;rcases r1 with⟨p,r1,_,rfl,_,r5⟩|⟨_,_,_,_,_,_,_,_,_,r3,_⟩
    · rw [hvc] at r1
      simp only[List.cons.injEq,and_true]at r1;have hp:p=none:=by
        cases p with
        |none=>rfl
        |some p=>exact absurd rfl (r5 rfl)
      subst hp;have hno:jJ d st'.us=true:=by simpa[St.fresh,jJ]using q5
      refine run (olds:=[]) r1 (.inl ⟨rfl,rfl,rfl⟩) q4 q3 (by simpa using q2) (by simpa using q1) fun v' w' e1 e2 e3 hcase=>?_;have hcase':=tg (w:=w) (rest:=[]) T.us hb0 (cj hno) q3 (es:=[]) (G:=[]) (olds:=[]) (nn:=some true) (cap:=0) (by simp[aK]) (by simp) p1 q4 (by simpa using q2) (.inl ⟨rfl,rfl,rfl,rfl,rfl,by simp⟩) (ow:=own)
        (fun e=>by simpa using hFown e) (fun e=>by simpa using p2' e) (fun e=>by cases e) (e:=e) (v':=v') (w':=w') (by simpa using hcase)
      refine fin T.rep e1 e2 e3 hcase' ?_;simp only[List.nil_append,lZ,Nat.zero_add];have:(st'.addUs [(d,U.ar own (ba (some true) ds) i.size ds)])=⟨st.n,st'.env,(d,U.ar own (ba (some true) ds) i.size ds)::st'.us⟩:=by simp[St.addUs,hTn]
      rw[←this];exact hf
    · exact absurd rfl r3
  · next id off len e1 =>
    unfold CA at hk
    split at hk
    · next ow nn usz es hun =>
      obtain⟨⟨rfl,q0,rfl,hcut,q1,q2,q3,q4⟩,hf⟩:=hk;obtain⟨hcl1,hcl2⟩:=ye hcut;generalize hes1:mr len es=es1 at hcl1 hcl2 q4 hf;have hm:=ay hun;have hU:=T.us.each _ hm;rw[e1]at ex;simp only[ab]at ex;obtain⟨ow',nn',sz',es',x1,x2,x3⟩:=ex;have:=T.us.uniq hm x1;injection this with z1 z2 z3 z4;subst z1 z2 z3 z4;have T2:=T.del id;have hno:id∉(st'.del id).us.map (·.1):=by
        show id∉(aL id (AV.refs id) st'.us).map (·.1)
        rw[aV];simp[List.mem_filter]
      have hfp:∀x∈g'.φ id,x∈fp g' st'.us:=fun x hx=>aH.2 ⟨_,hm,hx⟩;have hdrop:=jX T.us hm;have hsub:∀b,b∈fp (g'.drop id) (st'.del id).us→b∈fp g' st'.us:=fun b hb=>(dg (g:=g') (g':=g'.drop id) (fun j hj=>by simp[Gh.drop,hj])).subset hb;have hf':f ((⟨st.n,(st'.del id).env,(id,U.ar (aq own ow (D.flatL ds) (af es1)) (ba nn ds) i.size (es1++ds))::(st'.del id).us⟩:St).set d (.sm id 0 (es1.length+ds.length))):=by
        rw[←hTn,hcl1];exact hf
      simp only[cm]at hU;obtain⟨hmax,hse,hU⟩:=hU;rcases hU with⟨y1,rfl,y3,y4⟩|⟨b,cc,ee,G,cs,rest,y1,y2,y3,y4,y5,y6,y7,y8⟩
      · have hes0:es1=[]:=by
          obtain⟨zs,hz⟩:=hcl2.1;exact(List.append_eq_nil_iff.1 hz.symm).1
        subst hes0;obtain rfl:len=0:=hcl1.symm;have hv:a.eval s=.slice none 0 0:=by
          rcases x3 with⟨b,x3,_⟩|⟨_,_,_,x3⟩
          · rw[y1]at x3;cases x3
          · exact x3
        refine run (olds:=[]) hv (.inl ⟨rfl,rfl,rfl⟩) q3 q0 (by simpa using q2) (by simpa using q1) fun v' w' e1 e2 e3 hcase=>?_;obtain⟨mt,mf⟩:=nW (own:=own) (ow:=ow) q4 (h:=w.heap) (es:=[]) (G:=[]) (olds:=[]) (by simp[aK]) p1;have hcase':=tg (w:=w) (rest:=[]) T2.us hb0 hno q0 (es:=[]) (G:=[]) (olds:=[]) (nn:=nn) (cap:=0) (by simp[aK]) (by simp) p1 q3 (by simpa using q2) (.inl ⟨rfl,rfl,rfl,rfl,rfl,y4⟩) (ow:=aq own ow (D.flatL ds) (af []))
          (fun e=>by
            rcases(mt e).1 with rfl|e'
            · simp
            · exact⟨by simpa using(hFown e').1,fun x hx=>by
                obtain⟨z1,z2,z3,z4⟩:=(hFown e').2 x (by simpa using hx);exact⟨z1,z2,fun h=>z3 (hsub x h),z4⟩⟩)
          (fun e=>by
            rcases(mf e).1 with rfl|e'
            · simp
            · exact fun x hx => p2' e' x (by simpa using hx)) (fun e k v hk hid => by
              subst e;obtain⟨z1,z2⟩:=T.us.pin k v hk ⟨_,hid▸hm,rfl⟩;rw[←hid,y1]at z1 z2;exact⟨fun h=>by simpa using z1 h,fun _ h=>absurd rfl h⟩) (e:=e) (v':=v') (w':=w') (by simpa using hcase)
        refine fin T2.rep e1 e2 e3 hcase' ?_;exact hf'
      · obtain ⟨zs, hzs⟩ := hcl2.1
        rw[hzs]at y6;obtain⟨G1,G2,c1,c2,rfl,rfl,y6,_⟩:=aK.split y6;have hse:∀d∈es1,d.size=i.size:=fun d hd=>hse d (by rw[hzs];simp[hd])
        have y5 : es1.length ≤ g'.cap id := by have : es.length = es1.length + zs.length := by rw [hzs, lP]
                                               omega
        rw[List.append_assoc]at y3;have hv:a.eval s=.slice (some ⟨b,0,none⟩) es1.length (g'.cap id):=by
          rw[hcl1];rcases x3 with⟨b',x3,x4⟩|⟨x3,_⟩
          · rw [y1] at x3
            obtain rfl:=Option.some.inj x3;simpa using x4
          · rw[y1]at x3;cases x3
        have hcl:=y6.length;rw[D.sizeL_const hse]at hcl;have hle:=Nat.mul_le_mul_right i.size y5;have hsrc:K2 w.heap i.size (some ⟨b,0,none⟩) es1.length (g'.cap id) c1:=by
          refine .inr ⟨b,0,cc,ee,rfl,y5,y2,by omega,?_⟩;rw[List.drop_zero,y3,←hcl,List.take_left']
          rfl
        have hbφ:b∈g'.φ id:=by
          cases ow
          · simp only[fq,if_false]at y8;rw[y8.1];simp
          · simp only[if_true]at y8;rw[y8];simp
        refine run hv hsrc q3 q0 (by rw[hcl1];exact q2) (by rw[hcl1];exact q1) fun v' w' e1 e2 e3 hcase=>?_;obtain⟨mt,mf⟩:=nW (own:=own) (ow:=ow) q4 y6 p1;have hbG:b∉G1:=by
          cases hw:ow with
          | true =>
            have:=bZ T.us hm;rw[hw]at y8;simp only[if_true]at y8;rw[y8]at this;exact fun h=>(List.nodup_cons.1 this).1 (by simp[h])
          | false =>
            rw[hw]at y8;simp only[fq,if_false]at y8;exact fun hb=>(T.us.sh b (y8.2 b (by simp[hb]))).2.2 (hfp b hbφ)
        have hbF:b∉F:=by
          cases ho:own with
          |true=>exact fun hb=>((hFown ho).2 b hb).2.2.1 (hfp b hbφ)
          |false=>exact fun hb=>(T.us.sh b (p2' ho b hb)).2.2 (hfp b hbφ)
        have hGown:ow=true→G1.Nodup∧∀x∈G1,x∈g'.φ id:=by
          intro hw;have:=bZ T.us hm;rw[hw]at y8;simp only[if_true]at y8;rw[y8]at this⊢;exact⟨(List.nodup_append.1 (List.nodup_cons.1 this).2).1,fun x hx=>by simp[hx]⟩
        have hcase':=tg (w:=w) (rest:=c2++rest) T2.us hb0 hno q0 (es:=es1) (G:=G1) (olds:=c1) (nn:=nn) (cap:=g'.cap id) y6 hse p1 q3 (by rw[hcl1];exact q2)
          (.inr ⟨b,cc,ee,rfl,y2,y4,y3,y5,y7,hdrop b hbφ,fun hb=>(T.us.sh b hb).2.2 (hfp b hbφ),fun hb=>T.us.low b (hfp b hbφ) hb,by rw[List.mem_append];exact fun hb=>hb.elim hbG hbF⟩) (ow:=aq own ow (D.flatL ds) (af es1))
          (fun e=>by
            have hGG:G1.Nodup∧∀x∈G1,x∈g'.φ id:=by
              rcases(mt e).2 with rfl|e'
              · simp
              · exact hGown e'
            have hFF:F.Nodup∧∀x∈F,(x<n0→M0 x)∧¬g'.Sh x∧x∉fp g' st'.us∧kp w.heap x:=by
              rcases(mt e).1 with rfl|e'
              · simp
              · exact hFown e'
            refine⟨List.nodup_append.2 ⟨hGG.1,hFF.1,fun x hx y hy hxy=>(hFF.2 y hy).2.2.1 (hxy▸hfp x (hGG.2 x hx))⟩,fun x hx=>?_⟩;rcases List.mem_append.1 hx with hx|hx
            · have h1 := hfp x (hGG.2 x hx)
              exact⟨T.us.low x h1,fun hb=>(T.us.sh x hb).2.2 h1,hdrop x (hGG.2 x hx),T.us.fz x h1⟩
            · obtain ⟨z1, z2, z3, z4⟩ := hFF.2 x hx
              exact⟨z1,z2,fun h=>z3 (hsub x h),z4⟩)
          (fun e=>by
            intro x hx;rcases List.mem_append.1 hx with hx|hx
            · rcases (mf e).2 with rfl | e'
              · cases hx
              · rw [e'] at y8
                simp only[fq,if_false]at y8;exact y8.2 x (by simp[hx])
            · rcases (mf e).1 with rfl | e'
              · cases hx
              · exact p2' e' x hx) (fun e k v hk hid=>by
              subst e;obtain⟨z1,z2⟩:=T.us.pin k v hk ⟨_,hid▸hm,rfl⟩;rw[←hid,y1]at z1 z2;exact⟨fun h=>by simpa using z1 h,fun h _=>z2 h (by simp)⟩) (e:=e) (v':=v') (w':=w') hcase
        refine fin T2.rep e1 e2 e3 hcase' ?_;exact hf'
    · exact hk.elim
  · next nn q e1 =>
    obtain⟨⟨q1,q2,q3,rfl,q4,q5⟩,hf⟩:=hk;rw[e1]at ex;simp only[ab]at ex;obtain⟨p,hv,x1,x2⟩:=ex;have r1:aW w.heap (.ls nn i.size []) [] (a.eval s).cells.toList:=by
      unfold aW;exact .inl ⟨p,by simp[hv,Value.cells],rfl,rfl,x1,x2⟩
    have hno:jJ d st'.us=true:=by simpa[St.fresh,jJ]using q5
    obtain⟨f1,f2⟩:=hFown rfl;obtain⟨ao,cap,olds,hv',hsrc,hgo⟩:=A4 (w:=w) T.us hb0 (cj hno) q3 r1 (by rw[hv];rfl) p1 q4 (by simpa using q2) (by simpa using f1) (by simpa using f2);refine run hv' hsrc q4 q3 (by simpa using q2) (by simpa using q1) fun v' w' e1 e2 e3 hcase=>?_;refine fin T.rep e1 e2 e3 (hgo e v' w' hcase) ?_;rw[←hTn];simpa[St.addUs]using hf
  · obtain ⟨own2, d2, st2, g2, F2, hk2, T2, r1, r2, ⟨r3, _⟩, r4, r5⟩ := fR T.us (cI.refl T.us T.rep) ex hk
    unfold ym at hk2
    split at hk2
    · next nn sz' es =>
      obtain⟨⟨rfl,rfl,rfl,q1,q2,q3,q4,q5⟩,hf⟩:=hk2;have hno:jJ d st2.us=true:=by simpa[St.fresh,jJ]using q5
      have hn2:st2.n=st.n:=T2.n.trans hTn;obtain⟨f1,f2⟩:=hFown rfl;obtain⟨f3,f4⟩:=r3 rfl;have hall:∀x∈F2++F,(x<n0→M0 x)∧¬g2.Sh x∧x∉fp g2 st2.us∧kp w.heap x:=by
        intro x hx;rcases List.mem_append.1 hx with hx|hx
        · obtain ⟨z1, z2, z3, z4⟩ := f4 x hx
          exact⟨z1,z2,z3,T.us.fz x z4⟩
        · obtain ⟨z1, z2, z3, z4⟩ := f2 x hx
          exact⟨z1,fun hb=>z2 ((r4 x).1 hb),fun hb=>z3 (r5 x hb),z4⟩
      have hnd:(F2++F).Nodup:=List.nodup_append.2 ⟨f3,f1,fun x hx y hy hxy=>(f2 y hy).2.2.1 (hxy▸(f4 x hx).2.2.2)⟩;obtain⟨ao,cap,olds,hv,hsrc,hgo⟩:=A4 (w:=w) T2.us hb0 (cj hno) q4 r1 (by simpa[D.fits]using r2) p1 q3 q2 hnd hall;refine run hv hsrc q3 q4 q2 q1 fun v' w' e1 e2 e3 hcase=>?_;refine fin T2.rep e1 e2 e3 (hgo e v' w' hcase) ?_;rw[←hn2];simpa[St.addUs]using hf
    · exact hk2.elim

end Go.Ax
