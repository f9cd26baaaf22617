/- THE ENGINE, PART 5: a generator of conditions over the register code, and its soundness. No condition. -/
import Derived.Test.YtjnghfepojipiaaEnD
import Derived.Laws.BytesString
set_option linter.unusedSimpArgs false
set_option linter.unusedVariables false
set_option linter.unnecessarySimpa false
set_option linter.unusedSectionVars false
namespace Go.Ax

variable {P : Program} {n0 : Nat} {S0 M0 : Nat → Prop} {w0 : World}
variable {st : St} {o : Oper} {a : Act} {w : World} {k : KQ} {Q' : Exit → Act → World → Prop} {g : Gh}

structure AT (k:Nat) (f:AV→Bool) (h h':aE) (us us':List (Nat×U)) (g g':Gh):Prop extends Keep k f h h' us us' g g' where
 own:∀d,(k,U.own d)∈us→∃d',(k,U.own d')∈us'
 ar:∀ow nn sz es,(k,U.ar ow nn sz es)∈us→∃ow' nn' es',(k,U.ar ow' nn' sz es')∈us'∧es'.length=es.length
 bx:∀sz items,(k,U.bx sz items)∉us
 sb:∀T E s,(k,U.sb T E s)∈us→∃s',(k,U.sb T E s')∈us'
 same:g'.β k=g.β k∧g'.root k=g.root k∧g'.cap k=g.cap k

mutual
theorem ab.keepM{k:Nat}{f:AV→Bool}{h h':aE}{us us':List (Nat×U)}{g g':Gh}(H:AT k f h h' us us' g g'):∀{av:AV} {v:Value},av.soft k=false→ab h us g av v→ab h' us' g' av v
 |.im t d,v,hf,hr=>ab.keepR H.toKeep (by simpa[AV.refs,AV.soft]using hf) hr
 |.cw i el j sz agg,v,hf,hr=>ab.keepR H.toKeep (by simpa[AV.refs,AV.soft]using hf) hr
 |.tr i,v,_,hr=>by
  by_cases e:i=k
  ·subst e;simp only[ab]at hr⊢;obtain⟨⟨d,hd⟩,hv⟩:=hr;exact⟨H.own d hd,by rw[H.same.2.1];exact hv⟩
  ·exact ab.keepR H.toKeep (by simpa[AV.refs]using e) hr
 |.pw i el j,v,_,hr=>by
  by_cases e:i=k
  ·subst e;simp only[ab]at hr⊢;obtain⟨ow1,nn1,sz1,es1,b,q1,q2,q3,q4,q5⟩:=hr;obtain⟨ow',nn',es',h3,h4⟩:=H.ar _ _ _ _ q1;exact⟨ow',nn',_,es',b,h3,by omega,q3,by rw[H.same.1];exact q4,q5⟩
  ·exact ab.keepR H.toKeep (by simpa[AV.refs]using e) hr
 |.sm i off len,v,_,hr=>by
  by_cases e:i=k
  ·subst e;simp only[ab]at hr⊢;obtain⟨ow1,nn1,sz1,es1,q1,q2,q3⟩:=hr;obtain⟨ow',nn',es',h3,h4⟩:=H.ar _ _ _ _ q1;refine⟨ow',nn',_,es',h3,by omega,?_⟩;rw[H.same.1,H.same.2.2];exact q3
  ·exact ab.keepR H.toKeep (by simpa[AV.refs]using e) hr
 |.vb i len,v,_,hr=>by
  by_cases e:i=k
  ·subst e;simp only[ab]at hr;obtain⟨sz1,items,b,q1,_⟩:=hr;exact absurd q1 (H.bx _ _)
  ·exact ab.keepR H.toKeep (by simpa[AV.refs]using e) hr
 |.sg vs,v,hf,hr=>by
  simp only[AV.soft]at hf;simp only[ab]at hr⊢;obtain⟨xs,h1,h2⟩:=hr;exact⟨xs,ah.keepM H hf h1,h2⟩
 |.tup vs,v,hf,hr=>by
  simp only[AV.soft]at hf;simp only[ab]at hr⊢;obtain⟨xs,h1,h2⟩:=hr;exact⟨xs,h1,ah.keepM H hf h2⟩
 |.any,_,_,_=>by simp[ab]
 |.cl f vs,v,hf,hr=>by
  simp only[AV.soft]at hf;simp only[ab]at hr⊢;obtain⟨xs,h1,h2⟩:=hr;exact⟨xs,ah.keepM H hf h1,h2⟩
 |.pq i el j isz el' j',v,hf,hr=>ab.keepR H.toKeep (by simpa[AV.refs,AV.soft]using hf) hr
 |.qs i el j isz off len,v,hf,hr=>ab.keepR H.toKeep (by simpa[AV.refs,AV.soft]using hf) hr
 |.ss i off len,v,_,hr=>by
  by_cases e:i=k
  ·subst e;simp only[ab]at hr⊢;obtain⟨ow1,nn1,sz1,es1,q1,q2,q3⟩:=hr;obtain⟨ow',nn',es',h3,h4⟩:=H.ar _ _ _ _ q1;refine⟨ow',nn',_,es',h3,by omega,?_⟩;rw[H.same.1,H.same.2.2];exact q3
  ·exact ab.keepR H.toKeep (by simpa[AV.refs]using e) hr
 |.z0 _ _,v,_,hr=>by simpa[ab]using hr
 |.pb i j,v,_,hr=>by
  by_cases e:i=k
  ·subst e;simp only[ab]at hr;obtain⟨sz1,items,b,q1,_⟩:=hr;exact absurd q1 (H.bx _ _)
  ·exact ab.keepR H.toKeep (by simpa[AV.refs]using e) hr
 |.ps i,v,_,hr=>by
  by_cases e:i=k
  ·subst e;simp only[ab]at hr⊢;obtain⟨T,E,s,b,q1,q2,q3⟩:=hr;obtain⟨s',h3⟩:=H.sb _ _ _ q1;exact⟨T,E,s',b,h3,by rw[H.same.1];exact q2,q3⟩
  ·exact ab.keepR H.toKeep (by simpa[AV.refs]using e) hr
theorem ah.keepM{k:Nat}{f:AV→Bool}{h h':aE}{us us':List (Nat×U)}{g g':Gh}(H:AT k f h h' us us' g g'):∀{as:List AV} {vs:List Value},AV.softL k as=false→ah h us g as vs→ah h' us' g' as vs
 | [],_,_,hr=>by simpa[ah]using hr
 |a::as,vs,hf,hr=>by
  simp only[AV.softL,Bool.or_eq_false_iff]at hf;simp only[ah]at hr⊢;obtain⟨v,r,h1,h2,h3⟩:=hr;exact⟨v,r,h1,ab.keepM H hf.1 h2,ah.keepM H hf.2 h3⟩
end

theorem aZ.mutG{h h':aE}{us:List (Nat×U)}(hu:aZ h n0 S0 M0 us g){k:Nat}{u u':U}(hm:(k,u)∈us)(hsz:h.size≤h'.size)(hh:∀b,b<h.size→b∉g.φ k→h'[b]?=h[b]?)
  (hlike:(∃d d',u=.own d∧u'=.own d')∨∃ow nn sz es ow' es',u=.ar ow nn sz es∧u'=.ar ow' nn sz es'∧es'.length=es.length)
  {φ:List Nat} (hnd:φ.Nodup) (hφ:∀b∈φ,(b∈g.φ k∨(b<h'.size∧(b<n0→M0 b)∧¬g.Sh b∧b∉fp g us))∧kp h' b) (ho:cm h' ((k,u')::aL k (AV.soft k) us) (g.fp1 k φ) k u'):
  aZ h' n0 S0 M0 ((k,u')::aL k (AV.soft k) us) (g.fp1 k φ)∧∀av v,av.soft k=false→ab h us g av v→ab h' ((k,u')::aL k (AV.soft k) us) (g.fp1 k φ) av v:=by
 have hφo:∀i,i≠k→(g.fp1 k φ).φ i=g.φ i:=fun i hi=>by simp[Gh.fp1,hi]
 have hφk:(g.fp1 k φ).φ k=φ:=by simp[Gh.fp1]
 have hkfp:∀x∈g.φ k,x∈fp g us:=fun x hx=>aH.2 ⟨_,hm,hx⟩;have hoth:∀i v,(i,v)∈us→i≠k→∀x∈g.φ i,h'[x]?=h[x]?:=by
  intro i v h1 h2 x hx;exact hh x (hu.lt x (aH.2 ⟨_,h1,hx⟩)) fun hxk=>h2 (bF hu.keys hu.nodup h1 hm hx hxk)
 have hSh:∀x,g.Sh x→h'[x]?=h[x]?:=fun x hx=>hh x (hu.sh x hx).1 fun hxk=>(hu.sh x hx).2.2 (hkfp x hxk);have H:AT k (AV.soft k) h h' us ((k,u')::aL k (AV.soft k) us) g (g.fp1 k φ):=by
  refine {mem:=fun i u h1 h2=>List.mem_cons_of_mem _ (cM h1 h2),β:=fun i hi=>⟨rfl,rfl,rfl⟩,blk:=?_,im:=?_,own:=?_,ar:=?_,bx:=?_,sb:=?_,same:=⟨rfl,rfl,rfl⟩}
  ·intro i u x h1 h2 h3;exact hoth i u h1 h2 x ((hu.each _ h1).block_mem h3)
  ·intro t d F cs ht hr hok;have hx:∀x∈F,h'[x]?=h[x]?:=by
    intro x hx;rcases hok x hx with h1|⟨i,rfl,h1,_⟩
    ·exact hSh x h1
    ·obtain⟨v,hv⟩:=hu.live h1;exact hoth i v hv (by rintro rfl;exact ht rfl) x h1
   refine⟨hr.frame hx,fun x hx=>?_⟩;rcases hok x hx with h1|⟨i,rfl,h1,h2⟩
   ·exact .inl h1
   ·exact .inr ⟨i,rfl,by rw[hφo i (by rintro rfl;exact ht rfl)];exact h1,h2⟩
  ·intro d hd;rcases hlike with⟨d1,d2,rfl,rfl⟩|⟨ow,nn,sz,es,ow',es',rfl,rfl,_⟩
   ·exact⟨d2,by simp⟩
   ·have:=hu.uniq hm hd;cases this
  ·intro ow nn sz es hd;rcases hlike with⟨d1,d2,rfl,rfl⟩|⟨ow1,nn1,sz1,es1,ow',es',rfl,rfl,hl⟩
   ·have:=hu.uniq hm hd;cases this
   ·have:=hu.uniq hm hd;injection this with z1 z2 z3 z4;subst z1 z2 z3 z4;exact⟨ow',nn1,es',by simp,hl⟩
  ·intro sz items hd;have:=hu.uniq hm hd;subst this;rcases hlike with⟨d1,d2,e1,_⟩|⟨ow1,nn1,sz1,es1,ow',es',e1,_⟩<;>cases e1
  ·intro T E s hd;have:=hu.uniq hm hd;subst this;exfalso;rcases hlike with⟨d1,d2,e1,_⟩|⟨ow1,nn1,sz1,es1,ow',es',e1,_⟩<;>cases e1
 have hV:∀av v,av.soft k=false→ab h us g av v→ab h' ((k,u')::aL k (AV.soft k) us) (g.fp1 k φ) av v:=fun av v hf hr=>ab.keepM H hf hr;have hsub:=dg (f:=AV.soft k) hφo (us:=us);have hfp:fp (g.fp1 k φ) ((k,u')::aL k (AV.soft k) us)=φ++fp (g.fp1 k φ) (aL k (AV.soft k) us):=by
  simp only[fp,List.flatMap_cons,hφk]
 have hfpk:∀x∈fp (g.fp1 k φ) (aL k (AV.soft k) us),∃y∈us,y.1≠k∧x∈g.φ y.1:=by
  intro x hx;obtain⟨y,hy,hxy⟩:=aH.1 hx;obtain⟨hne,u,h1,h2⟩:=aQ hy;exact⟨_,h1,hne,by rw[hφo _ hne]at hxy;exact hxy⟩
 have hall:∀x∈fp (g.fp1 k φ) ((k,u')::aL k (AV.soft k) us),x∈fp g us∨(x<h'.size∧(x<n0→M0 x)∧¬g.Sh x):=by
  intro x hx;rw[hfp]at hx;rcases List.mem_append.1 hx with hx|hx
  ·exact(hφ x hx).1.elim (fun h=>.inl (hkfp x h)) (fun h=>.inr ⟨h.1,h.2.1,h.2.2.1⟩)
  ·exact .inl (hsub.subset hx)
 have hl2:u'.isPin=true→u.isPin=true:=by
  intro e;rcases hlike with⟨d1,d2,rfl,rfl⟩|⟨ow1,nn1,sz1,es1,ow',es',rfl,rfl,_⟩
  ·cases e
  ·exact U.isPin_ar.2 (U.isPin_ar.1 e)
 refine⟨⟨?_,?_,?_,?_,?_,?_,?_,?_,hu.pin.keepU hm (fun _=>⟨rfl,rfl⟩) hl2⟩,hV⟩
 ·simp only[lC,List.nodup_cons,aV];exact⟨by simp[List.mem_filter],hu.keys.filter _⟩
 ·rw[hfp,List.nodup_append];refine⟨hnd,hsub.nodup hu.nodup,?_⟩;rintro x hx y hy rfl;obtain⟨z,hz,hne,hxz⟩:=hfpk x hy;rcases(hφ x hx).1 with h1|h1
  ·exact hne (bF hu.keys hu.nodup hz hm hxz h1)
  ·exact h1.2.2.2 (aH.2 ⟨z,hz,hxz⟩)
 ·intro x hx;rcases hall x hx with h1|h1
  ·have:=hu.lt x h1;omega
  ·exact h1.1
 ·intro x hx hlt;rcases hall x hx with h1|h1
  ·exact hu.low x h1 hlt
  ·exact h1.2.1 hlt
 ·intro i hi;simp only[lC,List.mem_cons,not_or,aV]at hi;rw[hφo i hi.1];exact hu.dead i fun hmm=>hi.2 (by simp[List.mem_filter,hmm,hi.1])
 ·intro x hx;have hx:g.Sh x:=hx;obtain⟨q1,q2,q3⟩:=hu.sh x hx;exact⟨by omega,q2,fun h1=>(hall x h1).elim q3 (fun h2=>h2.2.2 hx)⟩
 ·intro x hx;rcases List.mem_cons.1 hx with rfl|hx
  ·exact ho
  ·obtain⟨hne,u,h1,h2⟩:=aQ hx;rw[h2];exact(hu.each _ h1).keepR H.toKeep (fun av hf=>.inr fun v hr=>hV av v hf hr) h1 hne (hφo _ hne) (fun x hx=>hoth _ _ h1 hne x hx) (fun x hx=>⟨hx,hSh x hx⟩)
 ·intro x hx;rw[hfp]at hx;rcases List.mem_append.1 hx with hx|hx
  ·exact(hφ x hx).2
  ·obtain⟨z,hz,hne,hxz⟩:=hfpk x hx;obtain⟨c,e,hc⟩:=hu.fz x (aH.2 ⟨z,hz,hxz⟩);exact⟨c,e,by rw[hoth z.1 z.2 hz hne x hxz];exact hc⟩

theorem aZ.mut{h h':aE}{us:List (Nat×U)}(hu:aZ h n0 S0 M0 us g){k:Nat}{u u':U}(hm:(k,u)∈us)(hsz:h.size≤h'.size)(hh:∀b,b<h.size→b∉g.φ k→h'[b]?=h[b]?)
  (hlike:(∃d d',u=.own d∧u'=.own d')∨∃ow nn sz es ow' es',u=.ar ow nn sz es∧u'=.ar ow' nn sz es'∧es'.length=es.length)
  {φ:List Nat} (hnd:φ.Nodup) (hφ:∀b∈φ,b∈g.φ k∧kp h' b) (ho:cm h' ((k,u')::aL k (AV.soft k) us) (g.fp1 k φ) k u'):
  aZ h' n0 S0 M0 ((k,u')::aL k (AV.soft k) us) (g.fp1 k φ)∧∀av v,av.soft k=false→ab h us g av v→ab h' ((k,u')::aL k (AV.soft k) us) (g.fp1 k φ) av v:=
 hu.mutG hm hsz hh hlike hnd (fun b hb=>⟨.inl (hφ b hb).1,(hφ b hb).2⟩) ho

end Go.Ax
namespace Go.Ax

variable {P : Program} {n0 : Nat} {S0 M0 : Nat → Prop} {w0 : World}
variable {st : St} {o : Oper} {a : Act} {w : World} {k : KQ} {Q' : Exit → Act → World → Prop} {g : Gh}

def Gh.shr(g:Gh)(b:Nat):Gh:={g with Sh:=fun x=>g.Sh x∨x=b}

theorem aZ.shr{h:aE}{us:List (Nat×U)}{g:Gh}(hu:aZ h n0 S0 M0 us g){b:Nat}(hb:b<h.size)(hS:b<n0→S0 b)(hn:b∉fp g us):aZ h n0 S0 M0 us (g.shr b)∧
  ∀av x,ab h us g av x→ab h us (g.shr b) av x:=by
 have hok:∀t x,x<h.size→g.ok t x→(g.shr b).ok t x:=by
  intro t x _ hx;rcases hx with hx|hx
  ·exact .inl (.inl hx)
  ·exact .inr hx
 refine⟨⟨hu.keys,hu.nodup,hu.lt,hu.low,hu.dead,?_,?_,hu.fz,hu.pin⟩,fun av x hr=>ab.mono (h:=h) (h':=h) (us:=us) (us':=us) (g:=g) (g':=g.shr b) (fun _ h=>h) (fun _ _=>rfl) (fun _ _=>⟨rfl,rfl,rfl⟩) hok hr⟩
 ·intro x hx;rcases hx with hx|rfl
  ·exact hu.sh x hx
  ·exact⟨hb,hS,hn⟩
 ·intro x hx;exact cm.mono (h:=h) (h':=h) (us:=us) (us':=us) (g:=g) (g':=g.shr b) hx (fun _ h=>h) (fun _ _=>rfl) (fun _ _=>⟨rfl,rfl,rfl⟩) rfl (fun _ _ h=>.inl h) hok (hu.each x hx)

end Go.Ax
namespace Go.Ax

variable {P : Program} {n0 : Nat} {S0 M0 : Nat → Prop} {w0 : World}
variable {st : St} {o : Oper} {a : Act} {w : World} {k : KQ} {Q' : Exit → Act → World → Prop} {g : Gh}

theorem wJ{es:List D}{el:Nat}{x:D}(h:el<es.length):D.at (es.set el x) el=x:=by
 simp[D.at,h]

theorem Gt{e x d:D}{usz j:Nat}(hj:j+1≤usz)(hx:x.isAg=false)(hu:e.size=usz)(hw:j=0∧usz=1∨e.isAg=true)(hag:e.isAg=true→∀l,e=.ag l→l.length=usz):D.put usz (D.put usz e j 1 x) j 1 d=D.put usz e j 1 d:=by
 by_cases h0:j=0∧1=usz
 ·simp[D.put,h0]
 ·have h1:¬(j=0∧usz=1):=fun h=>h0 ⟨h.1,h.2.symm⟩;have hA:=hw.resolve_left h1;cases e with
  |ag l=>
   have hl:=hag rfl l rfl;have hc:x.cells=[x]:=by cases x<;>simp_all [D.cells,D.isAg]
   have e1:(List.take j l++[x]).length=j+1:=by simp;omega
   simp only[D.put,h0,if_false,hc];congr 1;congr 1
   ·rw[List.append_assoc,List.take_append_of_le_length (by simp;omega),List.take_take,Nat.min_self]
   ·rw[←e1,List.drop_left]
  |_=>simp[D.isAg]at hA

theorem Je{h:aE}{e:D}{F:List Nat}{cs:List Value}(hr:aW h e F cs){usz:Nat}(hu:e.size=usz):∀l,e=.ag l→l.length=usz:=by
 rintro l rfl;simp only[aW]at hr;rw[←hu,D.size,D.sizeL_one hr.1]

theorem aZ.inner{h:aE}{us:List (Nat×U)}(hu:aZ h n0 S0 M0 us g){k b el j isz:Nat}{nn nn':Option Bool}{usz:Nat}{es ds:List D}(hm:(k,U.ar true nn usz es)∈us)(hb:g.β k=some b)
  (hel:el<es.length) (hj:j+1≤usz) (hw:j=0∧usz=1∧(D.at es el).isAg=false∨(D.at es el).isAg=true∧usz≠1) (hd:D.sub (D.at es el) j 1 false=.ls nn' isz ds) {c:Array Value} {e:TypeId} (hc:h[b]?=some (.cells c e (0,0)))
  {b' off' len' cap':Nat} (hcv:c[el*usz+j]?=some (.slice (some ⟨b',off',none⟩) len' cap')) (hne:ds≠[]):
  ∃c' e' F1,len'=ds.length∧h[b']?=some (.cells c' e' (0,0))∧b'≠b∧off'+cap'*isz≤c'.size∧ds.length≤cap'∧ds.length≤aT∧(∀d∈ds,d.size=isz)∧aK h ds F1 ((c'.toList.drop off').take (ds.length*isz))∧b'∈g.φ k∧
   ∀(h':aE)(c'':Array Value)(ds2:List D)(F2:List Nat),h'.size=h.size→h'[b']?=some (.cells c'' e' (0,0))→(∀x,x≠b'→h'[x]?=h[x]?)→c''.size=c'.size→ds2.length=ds.length→(∀d∈ds2,d.size=isz)→F2.Sublist F1→
    aK h ds2 F2 ((c''.toList.drop off').take (ds.length*isz))→∃g',aZ h' n0 S0 M0 ((k,.ar true nn usz (gL es usz el j (.ls nn' isz ds2)))::aL k (AV.soft k) us) g'∧
     ∀av v,av.soft k=false→ab h us g av v→ab h' ((k,.ar true nn usz (gL es usz el j (.ls nn' isz ds2)))::aL k (AV.soft k) us) g' av v:=by
 have ho:=hu.each _ hm;simp only[cm]at ho;obtain⟨hmax,hs,ho⟩:=ho;rcases ho with⟨z1,_⟩|⟨b0,c0,e0,G,cs,rest,k1,k2,k3,k4,k5,k6,k7,k8⟩
 ·rw[hb]at z1;cases z1
 rw[hb]at k1;obtain rfl:=Option.some.inj k1;rw[hc]at k2;injection k2 with k2;injection k2 with k2 k2';subst k2 k2';simp only[if_true]at k8;have hsz:(D.at es el).size=usz:=by rw[D.at_eq hel];exact hs _ (List.getElem_mem hel)
 have hw':j=0∧1=usz∨(D.at es el).isAg=true:=hw.elim (fun h=>.inl ⟨h.1,h.2.1.symm⟩) (fun h=>.inr h.1);have hle:el*usz+usz≤es.length*usz:=by
  have:=Nat.mul_le_mul_right usz (show el+1≤es.length by omega);rw[Nat.add_mul]at this;omega
 have hcl:=k6.length;rw[D.sizeL_const hs]at hcl;have hcv2:cs[el*usz+j]?=some (.slice (some ⟨b',off',none⟩) len' cap'):=by
  have h1:c.toList[el*usz+j]?=some (.slice (some ⟨b',off',none⟩) len' cap'):=by rw[Array.getElem?_toList];exact hcv
  rw[k3,List.getElem?_append_left (by omega)]at h1;exact h1
 generalize hcell:Value.slice (some ⟨b',off',none⟩) len' cap'=cell at hcv hcv2;have hjk:aW h D.jk [] [cell]:=by
  simp only[aW];exact⟨trivial,cell,rfl,by rw[←hcell];rfl⟩
 obtain⟨A,B,C,rfl,y1,y2,y3⟩:=kB k6 hjk hs hel (sz:=1) (by simp[D.size]) hj hw';have y3:=y3 false (by simp) (by simp);have hseg:(cs.drop (el*usz+j)).take 1=[cell]:=by
  have hlt:el*usz+j<cs.length:=(List.getElem?_eq_some_iff.1 hcv2).1;rw[List.drop_eq_getElem_cons hlt];have:=(List.getElem?_eq_some_iff.1 hcv2).2;simp[this]
 have hcs2:cs.take (el*usz+j)++([cell]++cs.drop (el*usz+j+1))=cs:=by
  have e1:cs.drop (el*usz+j+1)=(cs.drop (el*usz+j)).drop 1:=by rw[List.drop_drop]
  rw[←hseg,e1,List.take_append_drop,List.take_append_drop]
 rw[hcs2]at y1;rw[hseg,hd]at y3;simp only[aW]at y3;rcases y3 with⟨p,q1,q2,_⟩|⟨b1,o1,cap1,c',e',fr,F1,q1,rfl,q3,q4,q5,q6,q7,q8,q9⟩
 ·exact absurd q2 hne
 rw[←hcell]at q1;simp only[List.cons.injEq,Value.slice.injEq,oS,Addr.mk.injEq,and_true]at q1;obtain⟨⟨rfl,rfl⟩,rfl,rfl⟩:=q1;have hnd:=bZ hu hm;rw[k8]at hnd;have hφin:∀x∈b::(A++(b'::F1++C)),x∈fp g us:=fun x hx=>aH.2 ⟨_,hm,by rw[k8];exact hx⟩;have hb'φ:b'∈g.φ k:=by rw[k8];simp
 obtain⟨cz,ez,hz⟩:=hu.fz b' (aH.2 ⟨_,hm,hb'φ⟩);rw[q6]at hz;injection hz with hz;injection hz with hz1 hz2 hz3;subst hz3;have hbb:b'≠b:=by
  rintro rfl;exact(List.nodup_cons.1 hnd).1 (by simp)
 refine⟨c',e',F1,rfl,q6,hbb,q7,q4,q5,q8,q9,hb'φ,?_⟩;intro h' c'' ds2 F2 hhs hhb hh hcs hl2 hs2 hsub hr2;have hAC:∀x∈A++([]++C),x≠b':=by
  rintro x hx rfl;rw[List.nodup_cons,List.nodup_append,List.cons_append,List.nodup_cons]at hnd;rcases List.mem_append.1 hx with hx|hx
  ·exact hnd.2.2.2 x hx x (by simp) rfl
  ·exact hnd.2.2.1.1 (by simp at hx;simp[hx])
 have hF1b:b'∉F1:=by
  intro hx;rw[List.nodup_cons,List.nodup_append,List.cons_append,List.nodup_cons]at hnd;exact hnd.2.2.1.1 (by simp[hx])
 have y1':aK h' (es.set el (D.put usz (D.at es el) j 1 D.jk)) (A++([]++C)) cs:=y1.frame fun x hx=>hh x (hAC x hx);have hnew:aW h' (.ls nn' isz ds2) (b'::F2) [cell]:=by
  simp only[aW];refine .inr ⟨b',off',cap',c'',e',(0,0),F2,by rw[←hcell,hl2],rfl,q3,by omega,by omega,hhb,by omega,hs2,?_⟩;rw[hl2];exact hr2.frame fun x hx=>hh x (fun e=>hF1b (e▸hsub.subset hx))
 have hel2:el<(es.set el (D.put usz (D.at es el) j 1 D.jk)).length:=by simpa using hel
 have hpag:∀l,D.at es el=.ag l→l.length=usz:=by
  have:=k6.pick hel;obtain⟨_,F2',_,_,c2,_,_,_,_,r2,_⟩:=this;rw[D.at_eq hel];rw[D.at_eq hel]at hsz;exact Je r2 hsz
 have hpp:D.put usz (D.put usz (D.at es el) j 1 D.jk) j 1 (.ls nn' isz ds2)=D.put usz (D.at es el) j 1 (.ls nn' isz ds2):=
  Gt hj rfl hsz (hw.elim (fun h=>.inl ⟨h.1,h.2.1⟩) (fun h=>.inr h.1)) (fun _=>hpag)
 have hw2:j=0∧1=usz∨(D.at (es.set el (D.put usz (D.at es el) j 1 D.jk)) el).isAg=true:=by
  rw[wJ hel];rcases hw with h1|h1
  ·exact .inl ⟨h1.1,h1.2.1.symm⟩
  ·right
   have h0:¬(j=0∧1=usz):=fun h=>h1.2 h.2.symm;cases hE:D.at es el with
   |ag l=>simp[D.put,h0,D.isAg]
   |_=>rw[hE]at h1;simp[D.isAg]at h1
 obtain⟨A2,B2,C2,hABC,z1,z2,z3⟩:=kB y1' hnew y2 hel2 (sz:=1) (by simp[D.size]) hj hw2;have z3:=z3 false (by simp) (by simp);rw[hseg,wJ hel]at z3;have hB2:B2=[]:=by
  have:D.sub (D.put usz (D.at es el) j 1 D.jk) j 1 false=D.jk:=by
   by_cases h0:j=0∧1=usz
   ·simp[D.put,h0,D.sub]
   ·have h1:=hw'.resolve_left h0;cases hE:D.at es el with
    |ag l=>
     have hl:=hpag l hE;simp only[D.put,h0,if_false,D.sub,fq,D.cells];rw[List.append_assoc,List.getD_eq_getElem?_getD,List.getElem?_append_right (by simp;omega)];simp;rw[show j-min j l.length=0 by omega]
     rfl
    |_=>rw[hE]at h1;simp[D.isAg]at h1
  rw[this]at z3;simp only[aW]at z3;exact z3.1
 subst hB2;rw[hcs2,wJ hel,hpp,List.set_set]at z1;rw[wJ hel,hpp,List.set_set]at z2;simp only[List.nil_append]at hABC;have hperm:(A2++((b'::F2)++C2)).Perm ((b'::F2)++(A++C)):=by
  rw[hABC];exact(List.perm_append_comm_assoc _ _ _)
 have hnd2:(b::(A2++((b'::F2)++C2))).Nodup:=by
  refine(List.Perm.cons b hperm).nodup_iff.2 ?_;have hp1:(b::(A++(b'::F1++C))).Perm (b::((b'::F1)++(A++C))):=List.Perm.cons b (List.perm_append_comm_assoc _ _ _);have:=hp1.nodup_iff.1 hnd;refine List.Sublist.nodup ?_ this;exact List.Sublist.cons_cons _ (List.Sublist.append (List.Sublist.cons_cons _ hsub) (List.Sublist.refl _))
 have hin2:∀x∈b::(A2++((b'::F2)++C2)),x∈g.φ k:=by
  intro x hx;rw[k8];rcases List.mem_cons.1 hx with rfl|hx
  ·simp
  ·have:=hperm.subset hx;simp only[List.mem_append,List.mem_cons]at this⊢;rcases this with(h1|h1)|h1|h1
   ·exact .inr (.inr (.inl (.inl h1)))
   ·exact .inr (.inr (.inl (.inr (hsub.subset h1))))
   ·exact .inr (.inl h1)
   ·exact .inr (.inr (.inr h1))
 have hunf:∀x∈b::(A2++((b'::F2)++C2)),kp h' x:=by
  intro x hx
  by_cases e:x=b'
  ·subst e;exact⟨_,_,hhb⟩
  ·obtain⟨c1,e1,h1⟩:=hu.fz x (aH.2 ⟨_,hm,hin2 x hx⟩);exact⟨c1,e1,by rw[hh x e];exact h1⟩
 have hok:cm h' ((k,.ar true nn usz (gL es usz el j (.ls nn' isz ds2)))::aL k (AV.soft k) us) (g.fp1 k (b::(A2++((b'::F2)++C2)))) k (.ar true nn usz (gL es usz el j (.ls nn' isz ds2))):=by
  simp only[cm,Gh.fp1,if_true];refine⟨by simpa[gL]using hmax,z2,.inr ⟨b,c,e,_,cs,rest,hb,by rw[hh b (Ne.symm hbb)];exact hc,k3,k4,by simpa[gL]using k5,z1,k7,rfl⟩⟩
 obtain⟨m1,m2⟩:=hu.mut (h':=h') hm (by omega) (fun x _ hx=>hh x (fun e=>hx (e▸hb'φ))) (.inr ⟨true,nn,usz,es,true,gL es usz el j (.ls nn' isz ds2),rfl,rfl,by simp[gL]⟩) hnd2 (fun x hx=>⟨hin2 x hx,hunf x hx⟩) hok;exact⟨_,m1,m2⟩

theorem Hl(h:At n0 S0 M0 w0 st o a w g){t u1 u2:TypeId}{sz:Nat}{p x:Operand}{A X:Ax.X}{f:St→Prop}(ho:o.op=.store t p x)(hd:o.dst=none)(hp:aU P u1 p=some A)(hx:aU P u2 x=some X)
  (hz:dv P t=some sz) (hq:Fh (st.ev A) (st.ev X) st sz f):o.wp P a w (dz n0 S0 M0 w0 st.n f) Q':=by
 by_cases hne:∀id el j isz el' j',st.ev A≠.pq id el j isz el' j'
 ·exact O8 h hne ho hd hp hx hz hq
 have ep:=h.ev_ hp;have ex:=h.ev_ hx;unfold Fh at hq
 split at hq
 ·next id el j e1=>exact absurd (fun _ _ _ _ _ _=>by rw[e1];simp) hne
 ·next id el j isz el' j' e1=>
  rw[e1]at ep;simp only[ab]at ep;obtain⟨ow0,nn0,usz0,es0,b,c,ty,b',off',len',cap',r1,r2,r3,r4,r5,r6,hv⟩:=ep;obtain⟨own,d,st',g',F,hk,T,p1,p2,p3,p4,p5⟩:=ju 12 h.us (cI.refl h.us h.rep) ex hq;simp only[HM,KE]at hk
  split at hk
  ·next nn usz es hun=>
   unfold K5 at hk
   split at hk
   ·next nn' sz' ds hds=>
    obtain⟨⟨rfl,q1,q2,q3,q4,q5,q6,q7,q8⟩,hf⟩:=hk;have hm:=ay hun;obtain⟨u0,hm0,hlike⟩:=T.mem _ _ hm;have:=h.us.uniq hm0 r1;subst this;simp only[U.like]at hlike;obtain⟨rfl,hlen⟩:=hlike;obtain⟨gb,_,gc⟩:=T.gh _ _ hm;have hβ:g'.β id=some b:=by rw[gb];exact r4
    obtain⟨c',e',F1,rfl,i1,i2,i3,i4,imax,i5,i6,i8,i7⟩:=T.us.inner hm hβ q4 r3 q6 hds r5 r6 (by rintro rfl;simp at q5);have hF:F=[]:=cC q8 p1;subst hF;have hvc:(a.eval x).cells.size=sz:=by
     have:=p1.length;simp at this;omega
    have hle:el'*sz'+sz'≤ds.length*sz':=by
     have:=Nat.mul_le_mul_right sz' (show el'+1≤ds.length by omega);rw[Nat.add_mul]at this;omega
    have hle2:ds.length*sz'≤cap'*sz':=Nat.mul_le_mul_right _ i4;have hrun:=rX (P:=P) (w:=w) hz (off:=off'+el'*sz'+j') hvc i1 (by omega) p1.one;have hw6:j'=0∧sz=sz'∨(D.at ds el').isAg=true:=q7;obtain⟨A1,B1,C1,rfl,y1,y2,_⟩:=kB i6 p1 i5 q5 q1 q3 hw6;have hl6:=i6.length;have hcl:((c'.toList.drop off').take (ds.length*sz')).length=ds.length*sz':=by simp;omega
    generalize hc2:(c'.toList.take (off'+el'*sz'+j')++(a.eval x).cells.toList++c'.toList.drop (off'+el'*sz'+j'+sz)).toArray=c2 at hrun;have hvl:(a.eval x).cells.toList.length=sz:=by simpa using hvc
    have hc'l:c'.toList.length=c'.size:=by simp
    have hsz2:c2.size=c'.size:=by
     rw[←hc2];simp only[List.size_toArray,lP,List.length_take,List.length_drop,hvl,hc'l];omega
    have hseg2:(c2.toList.drop off').take (ds.length*sz')=((c'.toList.drop off').take (ds.length*sz')).take (el'*sz'+j')++((a.eval x).cells.toList++((c'.toList.drop off').take (ds.length*sz')).drop (el'*sz'+j'+sz)):=by
     rw[←hc2]
     apply List.ext_getElem?
     intro i;simp only[List.getElem?_take,List.getElem?_drop,List.getElem?_append,List.length_take,lP,List.length_drop,hvl,hc'l];have z1:min (off'+el'*sz'+j') c'.size=off'+el'*sz'+j':=by omega
     have z2:min (el'*sz'+j') (min (ds.length*sz') (c'.size-off'))=el'*sz'+j':=by omega
     rw[z1,z2]
     by_cases g1:i<ds.length*sz'
     ·rw[if_pos g1]
      by_cases g2:i<el'*sz'+j'
      ·rw[if_pos (by omega),if_pos (by omega),if_pos (by omega),if_pos g2,if_pos g2,if_pos g1]
      ·by_cases g3:i<el'*sz'+j'+sz
       ·rw[if_pos (by omega),if_neg (by omega),if_neg g2,if_pos (by omega)];congr 1;omega
       ·rw[if_neg (by omega),if_neg g2,if_neg (by omega),if_pos (by omega)];congr 1;omega
     ·rw[if_neg g1,if_neg (by omega),if_neg (by omega),if_neg (by omega)]
    obtain⟨g2,hU2,hV2⟩:=i7 (w.setRow b' c2).heap c2 (ds.set el' (D.put sz' (D.at ds el') j' sz d)) (A1++([]++C1)) (setRow_size _ _ _) (setRow_heap w b' c' _ e' _ i1) (fun y hy=>setRow_other w b' y _ hy) hsz2 (by simp) y2
     (by simp only[List.nil_append];exact List.Sublist.append (List.Sublist.refl _) (List.sublist_append_right _ _)) (by rw[hseg2];exact y1)
    have hrun':(execOp a.eval o).run P w=.ok .skip (w.setRow b' c2):=by
     simp[execOp,ho,hv,hrun]
    unfold Oper.wp;rw[hrun',Oper.upon_skip,hd];have hs0:=h.sat;refine⟨st'.upd id (.ar true nn usz0 (gL es usz0 el j (.ls nn' sz' (ds.set el' (D.put sz' (D.at ds el') j' sz d))))),T.n,hf,hs0.ms,hs0.dfr,?_,hs0.base,hs0.os,hs0.tape,hs0.output,?_,?_,g2,hU2,fun t=>du (fun av v hf hr=>hV2 _ _ hf hr) (T.rep t)⟩
    ·show a.tmps.size=_
     rw[hs0.tm];exact T.n.symm
    ·rw[setRow_size];exact hs0.size
    ·intro y hy hmy;have:y≠b':=by
      rintro rfl;exact hmy (T.us.low y (aH.2 ⟨_,hm,i8⟩) hy)
     rw[setRow_other w b' y _ this];exact hs0.old y hy hmy
   ·exact hk.elim
  ·exact hk.elim
 ·exact hq.elim

end Go.Ax
namespace Go.Ax
variable {P : Program} {n0 : Nat} {S0 M0 : Nat → Prop} {w0 : World}
variable {st : St} {o : Oper} {a : Act} {w : World} {k : KQ} {Q' : Exit → Act → World → Prop} {g : Gh}
theorem BK{us:List (Nat×U)}{h:aE}{av:AV}{v:Value}(hu:aZ h n0 S0 M0 us g)(hr:ab h us g av v)(ho:AV.aggV (lu us) av=true):∃c,v=.agg c:=by
 cases av with
 |im t d=>
  cases t with
  |some t=>simp[AV.aggV]at ho
  |none=>
   simp only[AV.aggV]at ho;simp only[ab]at hr;obtain⟨F,r1,r2,r3⟩:=hr;cases d<;>simp_all [D.fits,D.isAg]
 |tr i=>
  simp only[AV.aggV]at ho
  split at ho
  ·next d hun=>
   have hm:=ay hun;simp only[ab]at hr;obtain⟨_,rfl⟩:=hr;have hU:=hu.each _ hm;simp only[cm]at hU;obtain⟨_,_,p3⟩:=hU;cases d<;>simp_all [D.fits,D.isAg]
  ·cases ho
 |cw i el j sz agg=>
  simp only[AV.aggV]at ho;subst ho;simp only[ab]at hr;obtain⟨_,_,_,_,_,_,_,_,_,_,_,_,_,_,q9⟩:=hr;exact⟨_,by simpa using q9⟩
 |sg vs=>
  simp only[ab]at hr;obtain⟨xs,_,rfl⟩:=hr;exact⟨_,rfl⟩
 |_=>simp[AV.aggV]at ho
theorem zN(h:At n0 S0 M0 w0 st o a w g){f:Nat}{avs:List AV}{vs:List Value}(hrun:eZ P f→(execOp a.eval o).run P w=.ok (.enter f vs.toArray) w)(hr:ah w.heap st.us g avs vs)
  (hq:GO P o.dst f avs st.unit k):o.wp P a w (cQ n0 S0 M0 w0 st o.dst k) Q':=by
 obtain⟨hdlow,t0,kk,B,C,rfl,⟨hcl,hA⟩,hB1,hC1,hk⟩:=hq;simp only[ah]at hr;obtain⟨v1,r1,rfl,hv1,v2,r2,rfl,hv2,v3,r3,rfl,hv3,rfl⟩:=hr;simp only[bA]at hB1 hC1;obtain⟨c2,rfl⟩:=BK h.us hv2 hB1.1;obtain⟨c3,rfl⟩:=BK h.us hv3 hC1.1;have z2:=mj h.us hv2 hB1.2 (by omega);have z3:=mj h.us hv3 hC1.2 (by omega);have e1:v1=.int .i64 kk:=by
  simp only[ab,aW,D.fits]at hv1;obtain⟨F,⟨_,q1,_⟩,q2,_⟩:=hv1;rw[aS q2]at q1;simpa using q1
 subst e1;unfold Oper.wp;rw[hrun hcl,Oper.upon_enter];refine(hA kk c2 c3 w (by simpa[Value.cells]using z2) (by simpa[Value.cells]using z3)).mono ?_;rintro e w' ⟨⟨x,t,rfl,hx,hx2⟩,hB⟩;have hs:=h.sat;have hh:∀b,b<w.heap.size→w'.heap[b]?=w.heap[b]?:=fun b hb=>hB.block b hb;refine⟨_,_,hk,fun hf=>?_⟩;generalize hd:o.dst.getD 0=d at hf hdlow;have hno:jJ d st.us=true:=by
  rcases hf with hf|hf
  ·cases hf
  ·simp only[St.fresh,jJ,bU]at hf;exact hf
 have hno':=cj hno;have hxlt:x<w'.heap.size:=(Array.getElem?_eq_some_iff.1 hx2).1;obtain⟨hU,hV⟩:=h.us.addU (h':=w'.heap) (n:=d) hno' (u:=.bx 3 [B,C]) (β:=some x) (φ:=[x]) (root:=undef) (cap:=0) hB.size
  (fun b hb => by
   refine hh b ?_;rcases hb with hb|hb
   ·exact h.us.lt b hb
   ·exact(h.us.sh b hb).1)
  (by simp)
  (fun b hb => by
   simp only[List.mem_singleton]at hb;subst hb;refine⟨hxlt,fun hlt=>?_,fun hS=>?_,fun hF=>?_,_,_,hx2⟩
   ·have:=hs.base;have:=hs.size;omega
   ·have:=(h.us.sh _ hS).1;omega
   ·have:=h.us.lt _ hF;omega)
  (fun hg => by
   simp only[cm,b9];refine⟨by simp[aT],x,c2++c3,t,[.agg c2,.agg c3],[],rfl,hx2,rfl,?_,?_,by simp[Value.cells]⟩
   ·simp only[ah];exact⟨_,_,rfl,hg _ _ hv2,_,_,rfl,hg _ _ hv3,rfl⟩
   ·intro _ v hv;simp only[List.mem_cons,List.not_mem_nil,or_false]at hv;rcases hv with rfl|rfl
    ·exact z2
    ·exact z3) (fun _=>kl.low hdlow)
 have hS2:dH n0 S0 M0 w0 (st.addUs [(d,U.bx 3 [B,C])]) a w':=by
  refine⟨hs.ms,hs.dfr,hs.tm,hs.base,hB.os.trans hs.os,hB.tape.trans hs.tape,hB.output.trans hs.output,Nat.le_trans hs.size hB.size,?_,_,hU,fun t=>hV _ _ (h.rep t)⟩;intro b hb hm;rw[←hs.old b hb hm];exact hh b (by have:=hs.base;have:=hs.size;omega)
 refine cY hS2 hU (fun t=>hV _ _ (h.rep t)) h.dst ?_;simp only[ab,ah];refine⟨[.int .i64 kk,.int .i64 0,.slice (some ⟨x,0,none⟩) 2 2],⟨_,_,rfl,⟨[],?_,?_,by simp⟩,_,_,rfl,⟨[],?_,?_,by simp⟩,_,_,rfl,⟨3,[B,C],x,List.mem_cons_self,rfl,by simp[b9],rfl⟩,rfl⟩,by simp[Value.cells]⟩
 all_goals simp[aW,D.fits,Value.cells,Value.oneCell']
theorem lV(h:At n0 S0 M0 w0 st o a w g){f:Nat}{avs:List AV}{vs:List Value}(hrun:eZ P f→(execOp a.eval o).run P w=.ok (.enter f vs.toArray) w)(hr:ah w.heap st.us g avs vs)
  (hq:gK P o.dst f avs st.unit k):o.wp P a w (cQ n0 S0 M0 w0 st o.dst k) Q':=
 hq.elim (zg h hrun hr) (zN h hrun hr)

theorem DM(h:At n0 S0 M0 w0 st o a w g){f:Nat}{c:Call}{Xs:List X}(ho:o.op=.call c)(hc:c.callee=.value (.func f))(hl:c.args.size=c.argTypes.size)
  (hx:(c.args.toList.zip c.argTypes.toList).mapM (fun p=>aU P p.2 p.1)=some Xs) (hq:gK P o.dst f (Xs.map st.ev) st.unit k):o.wp P a w (cQ n0 S0 M0 w0 st o.dst k) Q':=by
 refine lV h (vs:=c.args.toList.map a.eval) ?_ (nE h.rep (by simpa using hl) hx) hq;rintro⟨fn,h1,h2,h3⟩;have h2':¬fn.body=none:=by cases hb:fn.body<;>simp_all
 have h3' : ¬ fn.name = "runtime.NumGoroutine" := by simpa using h3
 have ea:(List.map a.eval c.args.toList).toArray=Array.map a.eval c.args:=by apply Array.ext';simp
 rw[ea];simp[execOp,ho,resolve,hc,Act.eval,Deferred.ofValue,invoke,callFunc,h1,h2',h3']

theorem vZ(h:At n0 S0 M0 w0 st o a w g){u:TypeId}{c:Call}{x:Operand}{X:Ax.X}{Xs:List Ax.X}(ho:o.op=.call c)(hc:c.callee=.value x)(hX:aU P u x=some X)(hl:c.args.size=c.argTypes.size)
  (hx:(c.args.toList.zip c.argTypes.toList).mapM (fun p=>aU P p.2 p.1)=some Xs) (hq:kD (st.ev X) P o.dst (Xs.map st.ev) st.unit k):o.wp P a w (cQ n0 S0 M0 w0 st o.dst k) Q':=by
 have ex:=h.ev_ hX;unfold kD at hq
 split at hq
 ·next t f e1=>
  rw[e1]at ex;have hv:=c9 ex;refine lV h (vs:=c.args.toList.map a.eval) ?_ (nE h.rep (by simpa using hl) hx) hq;rintro⟨fn,h1,h2,h3⟩;have h2':¬fn.body=none:=by cases hb:fn.body<;>simp_all
  have h3' : ¬ fn.name = "runtime.NumGoroutine" := by simpa using h3
  have ea:(List.map a.eval c.args.toList).toArray=Array.map a.eval c.args:=by apply Array.ext';simp
  rw[ea];simp[execOp,ho,resolve,hc,hv,Deferred.ofValue,invoke,callFunc,h1,h2',h3']
 ·next t f ds e1=>
  rw[e1]at ex;simp only[ab,aW,D.fits]at ex;obtain⟨F,⟨vs,q1,q2⟩,hf,hok⟩:=ex;rw[aS hf]at q1;have hv:a.eval x=.func (.func f) #[] ⟨vs⟩:=by simpa using q1
  refine lV h (vs:=c.args.toList.map a.eval++vs) ?_ (nK (nE h.rep (by simpa using hl) hx) (xm q2 hok)) hq;rintro⟨fn,h1,h2,h3⟩;have h2':¬fn.body=none:=by cases hb:fn.body<;>simp_all
  have h3' : ¬ fn.name = "runtime.NumGoroutine" := by simpa using h3
  have ea:(List.map a.eval c.args.toList++vs).toArray=Array.map a.eval c.args++⟨vs⟩:=by apply Array.ext';simp
  rw[ea];simp[execOp,ho,resolve,hc,hv,Deferred.ofValue,invoke,callFunc,h1,h2',h3']
 ·next f avs e1=>
  rw[e1]at ex;simp only[ab]at ex;obtain⟨vs,q2,hv⟩:=ex;refine lV h (vs:=c.args.toList.map a.eval++vs) ?_ (nK (nE h.rep (by simpa using hl) hx) q2) hq;rintro⟨fn,h1,h2,h3⟩;have h2':¬fn.body=none:=by cases hb:fn.body<;>simp_all
  have h3' : ¬ fn.name = "runtime.NumGoroutine" := by simpa using h3
  have ea:(List.map a.eval c.args.toList++vs).toArray=Array.map a.eval c.args++⟨vs⟩:=by apply Array.ext';simp
  rw[ea];simp[execOp,ho,resolve,hc,hv,Deferred.ofValue,invoke,callFunc,h1,h2',h3']
 ·exact hq.elim

end Go.Ax
namespace Go.Ax

variable {P : Program} {n0 : Nat} {S0 M0 : Nat → Prop} {w0 : World}
variable {st : St} {o : Oper} {a : Act} {w : World} {k : KQ} {Q' : Exit → Act → World → Prop} {g : Gh}

theorem gV:∀{ids:List Nat} {n k q:Nat},bb ids n k=some q→n≤q∧ids[q-n]?=some k
 | [],_,_,_,h=>by cases h
 |i::r,n,k,q,h=>by
  simp only[bb]at h
  split at h
  ·next e=>injection h with h;subst h e;simp
  ·obtain⟨h1,h2⟩:=gV h;refine⟨by omega,?_⟩;rw[show q-n=(q-(n+1))+1 by omega];simpa using h2
theorem dV:∀{ids:List Nat} {n k:Nat},bb ids n k=none↔k∉ids
 | [],_,_=>by simp[bb]
 |i::r,n,k=>by
  simp only[bb]
  split
  ·next e=>subst e;simp
  ·next e=>rw[dV];simp[Ne.symm e]
theorem k9:∀{ids:List Nat} {n q k:Nat},ids.Nodup→ids[q]?=some k→bb ids n k=some (n+q)
 | [],_,_,_,_,h=>by simp at h
 |i::r,n,q,k,hn,h=>by
  rw[List.nodup_cons]at hn;cases q with
  |zero=>simp at h;subst h;simp[bb]
  |succ q=>
   simp at h;have:i≠k:=by rintro rfl;exact hn.1 (List.mem_of_getElem? h)
   simp only[bb,if_neg this];rw[k9 hn.2 h];congr 1;omega
theorem rp:∀{l:List Nat},se l=true→l.Nodup
 | [],_=>List.nodup_nil
 |x::l,h=>by
  simp only[se,bA,Bool.not_eq_true',List.contains_eq_mem,decide_eq_false_iff_not]at h;exact List.nodup_cons.2 ⟨h.1,rp h.2⟩

theorem cE:∀{us:List U} {n:Nat} {x:Nat×U},x∈bX n us↔∃i u,us[i]?=some u∧x=(3000000000+(n+i),u)
 | [],n,x=>by simp[bX]
 |v::r,n,x=>by
  simp only[bX,List.mem_cons,cE];constructor
  ·rintro(rfl|⟨i,u,h1,h2⟩)
   ·exact⟨0,_,rfl,rfl⟩
   ·exact⟨i+1,u,by simpa using h1,by rw[h2];congr 1;omega⟩
  ·rintro⟨i,u,h1,h2⟩;cases i with
   |zero=>simp at h1;subst h1;exact .inl h2
   |succ i=>exact .inr ⟨i,u,by simpa using h1,by rw[h2];congr 1;omega⟩
theorem vC{us:List U}{n k:Nat}:k∈(bX n us).map (·.1)↔∃i,i<us.length∧k=3000000000+(n+i):=by
 simp only[List.mem_map];constructor
 ·rintro⟨x,hx,rfl⟩;obtain⟨i,u,h1,rfl⟩:=cE.1 hx;exact⟨i,(List.getElem?_eq_some_iff.1 h1).1,rfl⟩
 ·rintro⟨i,h1,rfl⟩;exact⟨_,cE.2 ⟨i,us[i],by simp[h1],rfl⟩,rfl⟩
theorem ij:∀{us:List U} {n:Nat},((bX n us).map (·.1)).Nodup
 | [],_=>by simp[bX]
 |v::r,n=>by
  simp only[bX,lC,List.nodup_cons];refine⟨fun h=>?_,ij⟩;obtain⟨i,_,h2⟩:=vC.1 h;omega

def ew(ids:List Nat)(un:Nat→Option U)(u x:U):Prop:=
 match u,x with
 |.ar ow nn sz es,.ar ow' nn' sz' es'=>ow'=ow∧nn'=none∧sz'=sz∧es'=es∧(nn=some false∨es≠[])
 |.own d,.own d'=>d'=d
 |.bx sz items,.bx sz' items'=>sz'=sz∧iZ ids un items=some items'
 |_,_=>False
theorem IB{ids:List Nat}{un:Nat→Option U}{u:Option U}{x:U}(h:wU ids un u=some x):∃v,u=some v∧ew ids un v x:=by
 unfold wU at h
 split at h
 ·next ow nn sz es=>
  split at h
  ·next hc=>injection h with h;subst h;exact⟨_,rfl,rfl,rfl,rfl,rfl,by simpa using hc⟩
  ·cases h
 ·injection h with h;subst h;exact⟨_,rfl,rfl⟩
 ·split at h
  ·next as has=>injection h with h;subst h;exact⟨_,rfl,rfl,has⟩
  ·cases h
 ·cases h
 ·cases h
theorem iq{idsA:List Nat}{un:Nat→Option U}:∀{ids:List Nat} {us:List U},Gs idsA un ids=some us→us.length=ids.length∧∀(i id:Nat),ids[i]?=some id→∃x v,us[i]?=some x∧un id=some v∧ew idsA un v x
 | [],us,h=>by simp only[Gs,oS]at h;subst h;simp
 |j::ids,us,h=>by
  simp only[Gs]at h
  split at h
  ·next u r h1 h2=>
   injection h with h;subst h;obtain⟨e1,e2⟩:=iq h2;refine⟨by simp[e1],fun i id hi=>?_⟩;cases i with
   |zero=>
    simp at hi;subst hi;obtain⟨v,q1,q2⟩:=IB h1;exact⟨u,v,rfl,q1,q2⟩
   |succ i=>
    obtain⟨x,v,q1,q2,q3⟩:=e2 i id (by simpa using hi);exact⟨x,v,by simpa using q1,q2,q3⟩
  ·cases h
theorem uA{m:Nat}{b:Bool}:∀{us us':List U},bH m b us us'→us'.length≤us.length∧∀(i:Nat)(u u':U),us[i]?=some u→us'[i]?=some u'→bp m b u u'
 |us,[],h=>by simp
 | [],_::_,h=>h.elim
 |u::r,u'::r',h=>by
  obtain⟨h1,h2⟩:=uA h.2;refine⟨by simp[h1],fun i v v' e1 e2=>?_⟩;cases i with
  |zero=>simp at e1 e2;subst e1 e2;exact h.1
  |succ i=>exact h2 i v v' (by simpa using e1) (by simpa using e2)

theorem rg:∀{ids:List Nat} {av:AV},re ids av=false→∀k∈ids,av.soft k=false
 | [],_,_,k,hk=>by cases hk
 |i::r,av,h,k,hk=>by
  simp only[re,Bool.or_eq_false_iff]at h;rcases List.mem_cons.1 hk with rfl|hk
  ·exact h.1
  ·exact rg h.2 k hk
theorem qK:∀{ids:List Nat} {av:AV},rm ids av=false→∀k∈ids,av.refs k=false
 | [],_,_,k,hk=>by cases hk
 |i::r,av,h,k,hk=>by
  simp only[rm,Bool.or_eq_false_iff]at h;rcases List.mem_cons.1 hk with rfl|hk
  ·exact h.1
  ·exact qK h.2 k hk

def fA(u u':U):Prop:=
 match u,u' with
 |.ar _ _ sz es,.ar _ _ sz' es'=>sz'=sz∧es'.length=es.length
 |.bx sz items,.bx sz' items'=>sz'=sz∧items'.length=items.length
 |_,_=>False

structure gC (k1 k2:List Nat) (f:AV→Bool) (h h':aE) (us us':List (Nat×U)) (g g':Gh):Prop where
 hf:∀av,f av=false→(∀k∈k1,av.soft k=false)∧(∀k∈k2,av.refs k=false)
 mem:∀i u,(i,u)∈us→i∉k1→i∉k2→(i,u.kill f)∈us'
 β:∀i,i∉k2→g'.β i=g.β i∧g'.root i=g.root i∧g'.cap i=g.cap i
 blk:∀i u b,(i,u)∈us→i∉k1→i∉k2→g.β i=some b→h'[b]?=h[b]?
 im:∀t d F cs,(∀k∈k1,t≠some k)→(∀k∈k2,t≠some k)→aW h d F cs→(∀b∈F,g.ok t b)→aW h' d F cs∧∀b∈F,g'.ok t b
 ar:∀i∈k1,∃u u',(∀v,(i,v)∈us→v=u)∧(i,u')∈us'∧fA u u'
theorem gC.arr{k1 k2:List Nat}{f:AV→Bool}{h h':aE}{us us':List (Nat×U)}{g g':Gh}(H:gC k1 k2 f h h' us us' g g'){i:Nat}{ow:Bool}{nn:Option Bool}{sz:Nat}{es:List D}(hm:(i,U.ar ow nn sz es)∈us)(h2:i∉k2):
  ∃ow' nn' es',(i,U.ar ow' nn' sz es')∈us'∧es'.length=es.length:=by
 by_cases e:i∈k1
 ·obtain⟨u,u',q1,q2,q3⟩:=H.ar i e;have:=q1 _ hm;subst this;cases u' with
  |ar ow' nn' sz' es'=>simp only[fA]at q3;obtain⟨rfl,q3⟩:=q3;exact⟨_,_,_,q2,q3⟩
  |_=>simp[fA]at q3
 ·exact⟨_,_,_,H.mem _ _ hm e h2,rfl⟩
theorem gC.box{k1 k2:List Nat}{f:AV→Bool}{h h':aE}{us us':List (Nat×U)}{g g':Gh}(H:gC k1 k2 f h h' us us' g g'){i:Nat}{sz:Nat}{items:List AV}(hm:(i,U.bx sz items)∈us)(h2:i∉k2):
  ∃items',(i,U.bx sz items')∈us'∧items'.length=items.length:=by
 by_cases e:i∈k1
 ·obtain⟨u,u',q1,q2,q3⟩:=H.ar i e;have:=q1 _ hm;subst this;cases u' with
  |bx sz' items'=>simp only[fA]at q3;obtain⟨rfl,q3⟩:=q3;exact⟨_,q2,q3⟩
  |_=>simp[fA]at q3
 ·exact⟨_,H.mem _ _ hm e h2,eK⟩
theorem gC.sbu{k1 k2:List Nat}{f:AV→Bool}{h h':aE}{us us':List (Nat×U)}{g g':Gh}(H:gC k1 k2 f h h' us us' g g'){i:Nat}{T E:Nat}{s:ByteArray}(hm:(i,U.sb T E s)∈us)(h2:i∉k2):
  (i,U.sb T E s)∈us':=by
 by_cases e:i∈k1
 ·obtain⟨u,u',q1,q2,q3⟩:=H.ar i e;have:=q1 _ hm;subst this;cases u'<;>simp[fA]at q3
 ·exact H.mem _ _ hm e h2

mutual
theorem ab.keepW{k1 k2:List Nat}{f:AV→Bool}{h h':aE}{us us':List (Nat×U)}{g g':Gh}(H:gC k1 k2 f h h' us us' g g'):∀{av:AV} {v:Value},(∀k∈k1,av.soft k=false)→(∀k∈k2,av.refs k=false)→ab h us g av v→ab h' us' g' av v
 |.im t d,v,hf,hf2,hr=>by
  simp only[AV.soft,beq_eq_false_iff_ne]at hf;simp only[AV.refs,beq_eq_false_iff_ne]at hf2;simp only[ab]at hr⊢;obtain⟨F,h1,h2,h3⟩:=hr;obtain⟨q1,q2⟩:=H.im t d F _ hf hf2 h1 h3;exact⟨F,q1,h2,q2⟩
 |.tr i,v,hf,hf2,hr=>by
  have h2:i∉k2:=fun e=>by have:=hf2 i e;simp[AV.refs]at this
  simp only[ab]at hr⊢;obtain⟨⟨d,hd⟩,hv⟩:=hr
  by_cases e:i∈k1
  ·obtain⟨u,u',q1,_,q3⟩:=H.ar i e;rw[←q1 _ hd]at q3;simp[fA]at q3
  ·exact⟨⟨d,H.mem _ _ hd e h2⟩,by rw[(H.β i h2).2.1];exact hv⟩
 |.pw i el j,v,hf,hf2,hr=>by
  have h2:i∉k2:=fun e=>by have:=hf2 i e;simp[AV.refs]at this
  simp only[ab]at hr⊢;obtain⟨ow,nn,sz,es,b,r1,r2,r3,r4,r5⟩:=hr;obtain⟨ow',nn',es',q1,q2⟩:=H.arr r1 h2;exact⟨ow',nn',sz,es',b,q1,by omega,r3,by rw[(H.β i h2).1];exact r4,r5⟩
 |.cw i el j sz agg,v,hf,hf2,hr=>by
  have h1:i∉k1:=fun e=>by have:=hf i e;simp[AV.soft]at this
  have h2:i∉k2:=fun e=>by have:=hf2 i e;simp[AV.refs]at this
  simp only[ab]at hr⊢;obtain⟨nn,usz,es,b,c,e,r1,r2,r3,r4,r5,r6⟩:=hr;exact⟨nn,usz,es,b,c,e,H.mem _ _ r1 h1 h2,r2,r3,by rw[(H.β i h2).1];exact r4,by rw[H.blk i _ b r1 h1 h2 r4];exact r5,r6⟩
 |.sm i off len,v,hf,hf2,hr=>by
  have h2:i∉k2:=fun e=>by have:=hf2 i e;simp[AV.refs]at this
  simp only[ab]at hr⊢;obtain⟨ow,nn,sz,es,r1,r2,r3⟩:=hr;rw[←(H.β i h2).1,←(H.β i h2).2.2]at r3;obtain⟨ow',nn',es',q1,q2⟩:=H.arr r1 h2;exact⟨ow',nn',sz,es',q1,by omega,r3⟩
 |.vb i len,v,hf,hf2,hr=>by
  have h2:i∉k2:=fun e=>by have:=hf2 i e;simp[AV.refs]at this
  simp only[ab]at hr⊢;obtain⟨sz,items,b,r1,r2,r3,r4⟩:=hr;obtain⟨items',q1,q2⟩:=H.box r1 h2;exact⟨sz,items',b,q1,by omega,by rw[(H.β i h2).1];exact r3,r4⟩
 |.sg vs,v,hf,hf2,hr=>by
  simp only[AV.soft]at hf;simp only[AV.refs]at hf2;simp only[ab]at hr⊢;obtain⟨xs,h1,h2⟩:=hr;exact⟨xs,ah.keepW H hf hf2 h1,h2⟩
 |.tup vs,v,hf,hf2,hr=>by
  simp only[AV.soft]at hf;simp only[AV.refs]at hf2;simp only[ab]at hr⊢;obtain⟨xs,h1,h2⟩:=hr;exact⟨xs,h1,ah.keepW H hf hf2 h2⟩
 |.any,_,_,_,_=>by simp[ab]
 |.cl f vs,v,hf,hf2,hr=>by
  simp only[AV.soft]at hf;simp only[AV.refs]at hf2;simp only[ab]at hr⊢;obtain⟨xs,h1,h2⟩:=hr;exact⟨xs,ah.keepW H hf hf2 h1,h2⟩
 |.pq i el j isz el' j',v,hf,hf2,hr=>by
  have h1:i∉k1:=fun e=>by have:=hf i e;simp[AV.soft]at this
  have h2:i∉k2:=fun e=>by have:=hf2 i e;simp[AV.refs]at this
  simp only[ab]at hr⊢;obtain⟨ow,nn,usz,es,b,c,e,b',off',len',cap',r1,r2,r3,r4,r5,r6⟩:=hr;exact⟨ow,nn,usz,es,b,c,e,b',off',len',cap',H.mem _ _ r1 h1 h2,r2,r3,by rw[(H.β i h2).1];exact r4,by rw[H.blk i _ b r1 h1 h2 r4];exact r5,r6⟩
 |.qs i el j isz off len,v,hf,hf2,hr=>by
  have h1:i∉k1:=fun e=>by have:=hf i e;simp[AV.soft]at this
  have h2:i∉k2:=fun e=>by have:=hf2 i e;simp[AV.refs]at this
  simp only[ab]at hr⊢;obtain⟨ow,nn,usz,es,b,c,e,p,len',cap',r1,r2,r3,r4,r5,r6⟩:=hr;exact⟨ow,nn,usz,es,b,c,e,p,len',cap',H.mem _ _ r1 h1 h2,r2,r3,by rw[(H.β i h2).1];exact r4,by rw[H.blk i _ b r1 h1 h2 r4];exact r5,r6⟩
 |.ss i off len,v,hf,hf2,hr=>by
  have h2:i∉k2:=fun e=>by have:=hf2 i e;simp[AV.refs]at this
  simp only[ab]at hr⊢;obtain⟨ow,nn,sz,es,r1,r2,r3⟩:=hr;rw[←(H.β i h2).1,←(H.β i h2).2.2]at r3;obtain⟨ow',nn',es',q1,q2⟩:=H.arr r1 h2;exact⟨ow',nn',sz,es',q1,by omega,r3⟩
 |.z0 _ _,v,_,_,hr=>by simpa[ab]using hr
 |.pb i j,v,hf,hf2,hr=>by
  have h2:i∉k2:=fun e=>by have:=hf2 i e;simp[AV.refs]at this
  simp only[ab]at hr⊢;obtain⟨sz,items,b,r1,r2,r3⟩:=hr;obtain⟨items',q1,q2⟩:=H.box r1 h2;exact⟨sz,items',b,q1,by rw[(H.β i h2).1];exact r2,r3⟩
 |.ps i,v,hf,hf2,hr=>by
  have h2:i∉k2:=fun e=>by have:=hf2 i e;simp[AV.refs]at this
  simp only[ab]at hr⊢;obtain⟨T,E,s,b,r1,r2,r3⟩:=hr;exact⟨T,E,s,b,H.sbu r1 h2,by rw[(H.β i h2).1];exact r2,r3⟩
theorem ah.keepW{k1 k2:List Nat}{f:AV→Bool}{h h':aE}{us us':List (Nat×U)}{g g':Gh}(H:gC k1 k2 f h h' us us' g g'):∀{as:List AV} {vs:List Value},(∀k∈k1,AV.softL k as=false)→(∀k∈k2,AV.refsL k as=false)→ah h us g as vs→ah h' us' g' as vs
 | [],_,_,_,hr=>by simpa[ah]using hr
 |a::as,vs,hf,hf2,hr=>by
  simp only[AV.softL,Bool.or_eq_false_iff]at hf;simp only[AV.refsL,Bool.or_eq_false_iff]at hf2;simp only[ah]at hr⊢;obtain⟨v,r,h1,h2,h3⟩:=hr;exact⟨v,r,h1,ab.keepW H (fun k hk=>(hf k hk).1) (fun k hk=>(hf2 k hk).1) h2,ah.keepW H (fun k hk=>(hf k hk).2) (fun k hk=>(hf2 k hk).2) h3⟩
end
theorem gC.rep{k1 k2:List Nat}{f:AV→Bool}{h h':aE}{us us':List (Nat×U)}{g g':Gh}(H:gC k1 k2 f h h' us us' g g')(av:AV)(v:Value)(hf:f av=false)(hr:ab h us g av v):ab h' us' g' av v:=
 ab.keepW H (H.hf av hf).1 (H.hf av hf).2 hr

theorem fo{g:Gh}:∀{us:List (Nat×U)},(us.map (·.1)).Nodup→(∀x∈us,(g.φ x.1).Nodup)→(∀x∈us,∀y∈us,∀b,b∈g.φ x.1→b∈g.φ y.1→x.1=y.1)→(fp g us).Nodup
 | [],_,_,_=>by simp[fp]
 |x::us,hk,h1,h2=>by
  simp only[lC,List.nodup_cons]at hk;simp only[fp,List.flatMap_cons,List.nodup_append];refine⟨h1 x (by simp),fo hk.2 (fun y hy=>h1 y (by simp[hy])) (fun y hy z hz=>h2 y (by simp[hy]) z (by simp[hz])),?_⟩;rintro b hb c hc rfl;obtain⟨y,hy,hby⟩:=aH.1 hc;exact hk.1 (List.mem_map.2 ⟨y,hy,(h2 x (by simp) y (by simp[hy]) b hb hby).symm⟩)

theorem cm.keepW{k1 k2:List Nat}{f:AV→Bool}{h h':aE}{us us':List (Nat×U)}{g g':Gh}(H:gC k1 k2 f h h' us us' g g'){i:Nat}{u:U}(hm:(i,u)∈us)(hi1:i∉k1)(hi2:i∉k2)(hφ:g'.φ i=g.φ i)(hF:∀x∈g.φ i,h'[x]?=h[x]?)
  (hS:∀x,g.Sh x→g'.Sh x∧h'[x]?=h[x]?) (ho:cm h us g i u):cm h' us' g' i (u.kill f):=by
 obtain⟨e1,e2,e3⟩:=H.β i hi2;cases u with
 |own d=>
  simp only[cm,U.kill]at ho⊢;obtain⟨h1,h2,h3⟩:=ho;rw[e1,e2,hφ];exact⟨h1,h2.frame hF,h3⟩
 |ar ow nn sz es=>
  simp only[cm,U.kill]at ho⊢;rw[e1,e3,hφ];obtain⟨h1,h2,h3⟩:=ho;refine⟨h1,h2,?_⟩;rcases h3 with h3|⟨b,c,e,G,cs,rest,k1,k2,k3,k4,k5,k6,k7,k8⟩
  ·exact .inl h3
  ·refine .inr ⟨b,c,e,G,cs,rest,k1,by rw[H.blk i _ b hm hi1 hi2 k1];exact k2,k3,k4,k5,k6.frame fun x hx=>?_,k7,?_⟩
   ·cases ow with
    |true=>simp only[if_true]at k8;exact hF x (by rw[k8];simp[hx])
    |false=>simp only[fq,if_false]at k8;exact(hS x (k8.2 x hx)).2
   ·cases ow with
    |true=>simpa using k8
    |false=>simp only[fq,if_false]at k8⊢;exact⟨k8.1,fun x hx=>(hS x (k8.2 x hx)).1⟩
 |bx sz items=>
  simp only[cm,U.kill]at ho⊢;rw[e1,hφ];obtain⟨h1,b,c,e,vs,rest,k1,k2,k3,k4,k5⟩:=ho;exact⟨by rw[eK];exact h1,b,c,e,vs,rest,k1,by rw[H.blk i _ b hm hi1 hi2 k1];exact k2,k3,pS H.rep k4,k5⟩
 |sb T E s=>
  simp only[cm,U.kill]at ho⊢;rw[e1,hφ];obtain⟨b,F,k1,k2,k3⟩:=ho;exact⟨b,F,k1,k2,k3.frame fun x hx=>hF x (by rw[k2];exact hx)⟩

theorem Av{h:aE}{us:List (Nat×U)}(hu:aZ h n0 S0 M0 us g){av:AV}{v:Value}(hr:ab h us g av v){t:Option Nat}{d:D}(hd:av.rd (lu us)=some (t,d)):
  ∃F,aW h d F v.cells.toList∧d.fits v∧∀b∈F,g.Sh b∨∃k,t=some k∧b∈g.φ k:=by
 have den:av.den (lu us)=some (t,d)→∃F,aW h d F v.cells.toList∧d.fits v∧∀b∈F,g.Sh b∨∃k,t=some k∧b∈g.φ k:=by
  intro hd;have:=gT hu hr hd;simp only[ab]at this;obtain⟨F,r1,r2,r3⟩:=this;exact⟨F,r1,r2,fun b hb=>(r3 b hb).imp id fun⟨k,h1,h2,_⟩=>⟨k,h1,h2⟩⟩
 unfold AV.rd at hd
 split at hd
 ·next id el j=>
  unfold If at hd
  split at hd
  ·next ow nn usz es hun=>
   injection hd with hd;injection hd with e1 e2;subst e1 e2;simp only[ab]at hr;obtain⟨ow',nn',usz',es',b,r1,r2,r3,r4,rfl⟩:=hr;have:=hu.uniq r1 (ay hun);injection this with e1 e2 e3 e4;subst e1;subst e2;subst e3;subst e4;have ho:=hu.each _ r1;simp only[cm]at ho;obtain⟨_,hs,ho⟩:=ho;rcases ho with⟨h0,_⟩|⟨b',c,e,G,cs,rest,k1,k2,k3,k4,k5,k6,k7,k8⟩
   ·rw[r4]at h0;cases h0
   rw[r4]at k1;obtain rfl:=Option.some.inj k1;obtain⟨F1,F2,F3,c1,c2,c3,g1,g2,p1,p2,p3⟩:=k6.pick r2;have hsz:(es'[el]).size=usz':=hs _ (List.getElem_mem r2);have l1:c1.length=el*usz':=by
    rw[p1.length,D.sizeL_const (sz:=usz') fun d hd=>hs d (List.mem_of_mem_take hd),List.length_take,Nat.min_eq_left (Nat.le_of_lt r2)]
   have l2:=p2.length;rw[D.at_eq r2];refine⟨b::F2,?_,by simp[D.fits,Value.oneCell'],?_⟩
   ·unfold aW;have hlen:c.toList.length=c.size:=by simp
    refine⟨b,el*usz',c,e,(0,0),F2,by simp[Value.cells],rfl,by omega,k2,?_,?_⟩
    ·rw[k3,g2]at hlen;simp only[lP,l1,l2]at hlen;omega
    ·have:(c.toList.drop (el*usz')).take ((es'[el]).size)=c2:=by
      rw[k3,g2,←l1,←l2];simp
     rw[this];exact p2
   ·intro x hx;cases ow' with
    |true=>
     simp only[if_true]at k8;refine .inr ⟨id,rfl,?_⟩;rw[k8];rcases List.mem_cons.1 hx with rfl|hx
     ·simp
     ·rw[g1];simp[hx]
    |false=>
     simp only[fq,if_false]at k8;rcases List.mem_cons.1 hx with rfl|hx
     ·exact .inr ⟨id,rfl,by rw[k8.1];simp⟩
     ·exact .inl (k8.2 x (by rw[g1];simp[hx]))
  ·cases hd
 ·next id off len=>
  unfold H4 at hd
  split at hd
  ·next ow nn usz es hun=>
   injection hd with hd;injection hd with e1 e2;subst e1 e2;simp only[ab]at hr;obtain⟨ow',nn',usz',es',r1,r2,r3⟩:=hr;have:=hu.uniq r1 (ay hun);injection this with e1 e2 e3 e4;subst e1;subst e2;subst e3;subst e4;have ho:=hu.each _ r1;simp only[cm]at ho;obtain⟨hmax,hs,ho⟩:=ho;have hlen:((es'.drop off).take len).length=len:=by simp;omega
   rcases r3 with⟨b,r3,rfl⟩|⟨r3,rfl,rfl,rfl⟩
   ·rcases ho with⟨h0,_⟩|⟨b',c,e,G,cs,rest,k1,k2,k3,k4,k5,k6,k7,k8⟩
    ·rw[r3]at h0;cases h0
    rw[r3]at k1;obtain rfl:=Option.some.inj k1;have hes:es'=es'.take off++((es'.drop off).take len++(es'.drop off).drop len):=by rw[List.take_append_drop,List.take_append_drop]
    have k6':aK h (es'.take off++((es'.drop off).take len++(es'.drop off).drop len)) G cs:=by rw[←hes];exact k6
    obtain⟨F1,F23,c1,c23,g1,g2,s1,s23⟩:=k6'.split;obtain⟨F2,F3,c2,c3,rfl,rfl,s2,s3⟩:=s23.split;have hm:∀d∈(es'.drop off).take len,d.size=usz':=fun d hd=>hs d (List.mem_of_mem_drop (List.mem_of_mem_take hd));have l1:c1.length=off*usz':=by
     rw[s1.length,D.sizeL_const (sz:=usz') fun d hd=>hs d (List.mem_of_mem_take hd),List.length_take,Nat.min_eq_left (by omega)]
    have l2:c2.length=len*usz':=by rw[s2.length,D.sizeL_const hm,hlen]
    refine⟨b::F2,?_,rfl,?_⟩
    ·unfold aW;refine .inr ⟨b,off*usz',g.cap id-off,c,e,(0,0),F2,by simp[Value.cells,hlen],rfl,?_,by rw[hlen];omega,by rw[hlen];omega,k2,?_,hm,?_⟩
     ·split
      ·exact k7
      ·simp
     ·rw[k4,←Nat.add_mul];exact Nat.mul_le_mul_right _ (by omega)
     ·rw[hlen,k3,g2,←l1,←l2];simpa using s2
    ·intro x hx;cases ow' with
     |true=>
      simp only[if_true]at k8;refine .inr ⟨id,rfl,?_⟩;rw[k8];rcases List.mem_cons.1 hx with rfl|hx
      ·simp
      ·rw[g1];simp[hx]
     |false=>
      simp only[fq,if_false]at k8;rcases List.mem_cons.1 hx with rfl|hx
      ·exact .inr ⟨id,rfl,by rw[k8.1];simp⟩
      ·exact .inl (k8.2 x (by rw[g1];simp[hx]))
   ·rcases ho with⟨_,rfl,h3,h4⟩|⟨b',c,e,G,cs,rest,k1,_⟩
    ·refine⟨[],?_,rfl,by simp⟩;unfold aW;refine .inl ⟨none,by simp[Value.cells],by simp,rfl,fun _=>?_,by simp⟩
     split
     ·exact h4
     ·simp
    ·rw[r3]at k1;cases k1
  ·cases hd
 ·next id len=>
  unfold LG at hd
  split at hd
  ·next sz items hun=>
   split at hd
   ·next ds hds=>
    split at hd
    ·next hlen=>
     obtain⟨hlen,hfl⟩:=hlen;injection hd with hd;injection hd with e1 e2;subst e1 e2;simp only[ab]at hr;obtain⟨sz',items',b,r1,r2,r3,rfl⟩:=hr;have:=hu.uniq r1 (ay hun);injection this with e1 e2;subst e1;subst e2;have ho:=hu.each _ r1;simp only[cm]at ho;obtain⟨hmax,b',c,e,vs,rest,k1,k2,k3,k4,k5,k6⟩:=ho;rw[r3]at k1;obtain rfl:=Option.some.inj k1;obtain⟨F,p1,p2,p3⟩:=sO k4 hds;have hl:=p1.length;rw[D.sizeL_const p2]at hl;have hFn:F=[]:=by
      have:∀{ds:List D},D.noPtrL ds=true→af ds=true:=by
       intro ds
       induction ds with
       |nil=>intro _;rfl
       |cons d ds ih=>intro h;simp only[D.noPtrL,bA]at h;simp only[af,h.1,ih h.2,Bool.and_self]
      exact dK (this (D.flatL_noPtr hfl)) p1
     subst hFn;have hcs:ds.length*sz'≤c.size:=by
      have:c.toList.length=c.size:=by simp
      rw[k6,lP]at this;omega
     refine⟨[b],?_,rfl,?_⟩
     ·unfold aW;refine .inr ⟨b,0,len,c,e,(0,0),[],by simp[Value.cells,p3,hlen],rfl,by simp,by omega,by omega,k2,by rw[p3,←hlen]at hcs;omega,p2,?_⟩;rw[k6];simp only[List.drop_zero];rw[List.take_left' hl];exact p1
     ·intro x hx;rw[List.mem_singleton]at hx;subst hx;exact .inr ⟨id,rfl,by rw[k3];simp⟩
    ·cases hd
   ·cases hd
  ·cases hd
 ·next nn sz=>
  injection hd with hd;injection hd with e1 e2;subst e1 e2;simp only[ab]at hr;obtain⟨p,rfl,h1,h2⟩:=hr;refine⟨[],?_,rfl,by simp⟩;unfold aW;exact .inl ⟨p,by simp[Value.cells],rfl,rfl,h1,h2⟩
 ·exact den hd

theorem rV{st:St}{us:List (Nat×U)}{d:Option Nat}{av:AV}{f:St→Prop}(hk:kq f st d av us):(us=[]∨st.fresh us=true)∧f ((st.addUs us).setO d av):=by
 cases us with
 |nil=>exact⟨.inl rfl,hk⟩
 |cons x us=>exact⟨.inr hk.1,hk.2⟩

theorem rh{g:Gh}:∀{us:List (Nat×U)},(fp g us).Nodup→∀x∈us,(g.φ x.1).Nodup
 | [],_,x,hx=>by cases hx
 |y::us,h,x,hx=>by
  simp only[fp,List.flatMap_cons,List.nodup_append]at h;rcases List.mem_cons.1 hx with rfl|hx
  ·exact h.1
  ·exact rh h.2.1 x hx

def jI(ids:List Nat)(k:Nat):Option Nat:=if 3000000000≤k then ids[k-3000000000]? else none
def Gh.callee(g:Gh)(ids:List Nat)(sh:Nat→Prop):Gh:=
  ⟨fun k=>(jI ids k).bind g.β,fun k=>match jI ids k with|some i=>g.φ i|none=>[],fun k=>match jI ids k with|some i=>g.root i|none=>undef,
   fun k=>match jI ids k with|some i=>g.cap i|none=>0,sh⟩
theorem zy{ids:List Nat}{q:Nat}:jI ids (3000000000+(0+q))=ids[q]?:=by
 unfold jI;rw[if_pos (by omega),show 3000000000+(0+q)-3000000000=q by omega]
theorem bL{g:Gh}{ids:List Nat}{sh:Nat→Prop}{q id:Nat}(h:ids[q]?=some id):(g.callee ids sh).β (3000000000+(0+q))=g.β id∧(g.callee ids sh).φ (3000000000+(0+q))=g.φ id∧(g.callee ids sh).cap (3000000000+(0+q))=g.cap id∧
  (g.callee ids sh).root (3000000000+(0+q))=g.root id:=by
 have:=(zy (ids:=ids) (q:=q)).trans h;refine⟨?_,?_,?_,?_⟩<;>simp only[Gh.callee,this,Option.bind_some]
theorem pl{g:Gh}{ids:List Nat}{sh:Nat→Prop}{us:List U}(hl:us.length=ids.length){b:Nat}:b∈fp (g.callee ids sh) (bX 0 us)↔∃id∈ids,b∈g.φ id:=by
 rw[aH];constructor
 ·rintro⟨x,hx,hb⟩;obtain⟨i,u,h1,rfl⟩:=cE.1 hx;have hi:i<ids.length:=by rw[←hl];exact(List.getElem?_eq_some_iff.1 h1).1
  have e:ids[i]?=some ids[i]:=by simp[hi]
  rw[(bL e).2.1]at hb;exact⟨_,List.getElem_mem hi,hb⟩
 ·rintro⟨id,hid,hb⟩;obtain⟨i,hi,rfl⟩:=List.getElem_of_mem hid;have e:ids[i]?=some ids[i]:=by simp[hi]
  exact⟨_,cE.2 ⟨i,us[i]'(by omega),by simp[hl,hi],rfl⟩,by rw[(bL e).2.1];exact hb⟩

theorem F7{us:List (Nat×U)}{ids:List Nat}{av:AV}{t:Option Nat}{d:D}(hr:av.rd (lu us)=some (t,d))(hs:av.shW ids=true)(hp:∀id el j,av≠.pw id el j)(hp2:∀id el j,av≠.sm id el j)(hp3:∀id,av≠.tr id):t=none∨d.noPtr=true:=by
 cases av with
 |im t' d'=>
  simp only[AV.rd,AV.den]at hr;injection hr with hr;injection hr with e1 e2;subst e1 e2;cases t' with
  |none=>exact .inl rfl
  |some t'=>exact .inr (by simpa[AV.shW]using hs)
 |pw id el j=>exact absurd rfl (hp id el j)
 |sm id el j=>exact absurd rfl (hp2 id el j)
 |tr id=>exact absurd rfl (hp3 id)
 |cl f vs=>simp[AV.rd,AV.den]at hr
 |sg vs=>simp[AV.rd,AV.den]at hr
 |pb i j=>simp[AV.rd,AV.den]at hr
 |ps i=>simp[AV.rd,AV.den]at hr
 |_=>simp[AV.shW]at hs

theorem eN{h:aE}{us:List (Nat×U)}(hu:aZ h n0 S0 M0 us g){ids:List Nat}{ws:List U}{sh:Nat→Prop}(h1:∀b,g.Sh b→sh b){av:AV}{v:Value}{a':AV}
  (hk:(∀k b,k∉ids→b∈g.φ k→sh b)∨(av.shW ids=true∧(∀id el j,av≠.pw id el j)∧(∀id el j,av≠.sm id el j)∧(∀id,av≠.tr id))) (hr:ab h us g av v) (ha:Cz ids (av.rd (lu us))=some a'):ab h (bX 0 ws) (g.callee ids sh) a' v:=by
 unfold Cz at ha
 split at ha
 ·next t d hrd=>
  split at ha
  ·next htk=>
   injection ha with ha;subst ha;obtain⟨F,r1,r2,r3⟩:=Av hu hr hrd;simp only[ab];rcases hk with hk|⟨hk,hp,hp2,hp3⟩
   ·refine⟨F,r1,r2,fun b hb=>.inl ?_⟩;rcases r3 b hb with h3|⟨k,rfl,h3⟩
    ·exact h1 b h3
    ·refine hk k b ?_ h3;simp only[Nm,Option.isNone_iff_eq_none]at htk;exact dV.1 htk
   ·rcases F7 hrd hk hp hp2 hp3 with rfl|hnp
    ·refine⟨F,r1,r2,fun b hb=>.inl ?_⟩;rcases r3 b hb with h3|⟨k,h3,_⟩
     ·exact h1 b h3
     ·cases h3
    ·have:=cC hnp r1;subst this;exact⟨[],r1,r2,by simp⟩
  ·cases ha
 ·cases ha

mutual
theorem DV{h:aE}{us:List (Nat×U)}(hu:aZ h n0 S0 M0 us g){ids:List Nat}{ws:List U}(hw:Gs ids (lu us) ids=some ws){sh:Nat→Prop}(h1:∀b,g.Sh b→sh b):
  ∀{av:AV} {v:Value} {a':AV},((∀k b,k∉ids→b∈g.φ k→sh b)∨av.shW ids=true)→ab h us g av v→av.argW ids (lu us)=some a'→ab h (bX 0 ws) (g.callee ids sh) a' v
 |.pw i0 el j,v,a',hk,hr,ha=>by
  obtain⟨hl,hu1⟩:=iq hw;simp only[AV.argW]at ha;unfold pwW at ha
  split at ha
  ·next q hq=>
   injection ha with ha;subst ha;obtain⟨_,hid⟩:=gV hq;simp only[Nat.sub_zero]at hid;obtain⟨x,u,q1,q2,q3⟩:=hu1 _ _ hid;simp only[ab]at hr⊢;obtain⟨ow',nn',sz',es',b,r1,r2,r3,r4,r5⟩:=hr;have:=hu.uniq r1 (ay q2);subst this;cases x with
   |ar ow2 nn2 sz2 es2=>
    simp only[ew]at q3;obtain⟨rfl,rfl,rfl,rfl,_⟩:=q3;refine⟨_,none,_,_,b,cE.2 ⟨q,_,q1,by rw[Nat.zero_add]⟩,r2,r3,?_,r5⟩;have:=(bL (g:=g) (sh:=sh) hid).1;rw[Nat.zero_add]at this;rw[this];exact r4
   |_=>simp[ew]at q3
  ·next hq=>
   refine eN hu h1 (hk.imp (fun h=>h) fun hs=>?_) hr ha;simp[AV.shW,hq]at hs
 |.sm i0 off len,v,a',hk,hr,ha=>by
  obtain⟨hl,hu1⟩:=iq hw;simp only[AV.argW]at ha;unfold smW at ha
  split at ha
  ·next q hq=>
   injection ha with ha;subst ha;obtain⟨_,hid⟩:=gV hq;simp only[Nat.sub_zero]at hid;obtain⟨x,u,q1,q2,q3⟩:=hu1 _ _ hid;simp only[ab]at hr⊢;obtain⟨ow',nn',sz',es',r1,r2,r3⟩:=hr;have:=hu.uniq r1 (ay q2);subst this;cases x with
   |ar ow2 nn2 sz2 es2=>
    simp only[ew]at q3;obtain⟨rfl,rfl,rfl,rfl,_⟩:=q3;refine⟨_,none,_,_,cE.2 ⟨q,_,q1,by rw[Nat.zero_add]⟩,r2,?_⟩;have:=bL (g:=g) (sh:=sh) hid;rw[Nat.zero_add]at this;rw[this.1,this.2.2.1];exact r3
   |_=>simp[ew]at q3
  ·next hq=>
   refine eN hu h1 (hk.imp (fun h=>h) fun hs=>?_) hr ha;simp[AV.shW,hq]at hs
 |.tr i0,v,a',hk,hr,ha=>by
  obtain⟨hl,hu1⟩:=iq hw;simp only[AV.argW]at ha;unfold trW at ha
  split at ha
  ·next q hq=>
   injection ha with ha;subst ha;obtain⟨_,hid⟩:=gV hq;simp only[Nat.sub_zero]at hid;obtain⟨x,u,q1,q2,q3⟩:=hu1 _ _ hid;simp only[ab]at hr⊢;obtain⟨⟨d,r1⟩,r2⟩:=hr;have:=hu.uniq r1 (ay q2);subst this;cases x with
   |own d2=>
    simp only[ew]at q3;subst q3;have:=bL (g:=g) (sh:=sh) hid;rw[Nat.zero_add]at this;exact⟨⟨_,cE.2 ⟨q,_,q1,by rw[Nat.zero_add]⟩⟩,by rw[this.2.2.2];exact r2⟩
   |_=>simp[ew]at q3
  ·next hq=>
   refine eN hu h1 (hk.imp (fun h=>h) fun hs=>?_) hr ha;simp[AV.shW,hq]at hs
 |.pb i0 j,v,a',hk,hr,ha=>by
  obtain⟨hl,hu1⟩:=iq hw;simp only[AV.argW]at ha;unfold pbW at ha
  split at ha
  ·next q hq=>
   injection ha with ha;subst ha;obtain⟨_,hid⟩:=gV hq;simp only[Nat.sub_zero]at hid;obtain⟨x,u,q1,q2,q3⟩:=hu1 _ _ hid;simp only[ab]at hr⊢;obtain⟨sz,items,b,r1,r2,r3⟩:=hr;have:=hu.uniq r1 (ay q2);subst this;cases x with
   |bx sz2 items2=>
    simp only[ew]at q3;obtain⟨rfl,_⟩:=q3;have:=bL (g:=g) (sh:=sh) hid;rw[Nat.zero_add]at this;exact⟨_,_,b,cE.2 ⟨q,_,q1,by rw[Nat.zero_add]⟩,by rw[this.1];exact r2,r3⟩
   |_=>simp[ew]at q3
  ·cases ha
 |.cl f vs,v,a',hk,hr,ha=>by
  simp only[AV.argW]at ha
  split at ha
  ·next as has=>
   injection ha with ha;subst ha;simp only[ab]at hr⊢;obtain⟨xs,r1,r2⟩:=hr;exact⟨xs,ji hu hw h1 (hk.imp (fun h=>h) fun hs=>by simpa[AV.shW]using hs) r1 has,r2⟩
  ·cases ha
 |.sg vs,v,a',hk,hr,ha=>by
  simp only[AV.argW]at ha
  split at ha
  ·next as has=>
   injection ha with ha;subst ha;simp only[ab]at hr⊢;obtain⟨xs,r1,r2⟩:=hr;exact⟨xs,ji hu hw h1 (hk.imp (fun h=>h) fun hs=>by simpa[AV.shW]using hs) r1 has,r2⟩
  ·cases ha
 |.im t d,v,a',hk,hr,ha=>by
  simp only[AV.argW]at ha;exact eN hu h1 (hk.imp (fun h=>h) fun hs=>⟨hs,by simp,by simp,by simp⟩) hr ha
 |.cw i0 el j sz agg,v,a',hk,hr,ha=>by
  simp only[AV.argW]at ha;exact eN hu h1 (hk.imp (fun h=>h) fun hs=>⟨hs,by simp,by simp,by simp⟩) hr ha
 |.vb i0 len,v,a',hk,hr,ha=>by
  simp only[AV.argW]at ha;exact eN hu h1 (hk.imp (fun h=>h) fun hs=>⟨hs,by simp,by simp,by simp⟩) hr ha
 |.tup vs,v,a',hk,hr,ha=>by
  simp only[AV.argW]at ha;exact eN hu h1 (hk.imp (fun h=>h) fun hs=>⟨hs,by simp,by simp,by simp⟩) hr ha
 |.ps i0,v,a',hk,hr,ha=>by
  simp only[AV.argW]at ha;exact eN hu h1 (hk.imp (fun h=>h) fun hs=>⟨hs,by simp,by simp,by simp⟩) hr ha
 |.any,v,a',hk,hr,ha=>by
  simp only[AV.argW]at ha;exact eN hu h1 (hk.imp (fun h=>h) fun hs=>⟨hs,by simp,by simp,by simp⟩) hr ha
 |.pq i0 el j isz el' j',v,a',hk,hr,ha=>by
  simp only[AV.argW]at ha;exact eN hu h1 (hk.imp (fun h=>h) fun hs=>⟨hs,by simp,by simp,by simp⟩) hr ha
 |.qs i0 el j isz off len,v,a',hk,hr,ha=>by
  simp only[AV.argW]at ha;exact eN hu h1 (hk.imp (fun h=>h) fun hs=>⟨hs,by simp,by simp,by simp⟩) hr ha
 |.ss i0 off len,v,a',hk,hr,ha=>by
  simp only[AV.argW]at ha;exact eN hu h1 (hk.imp (fun h=>h) fun hs=>⟨hs,by simp,by simp,by simp⟩) hr ha
 |.z0 nn sz,v,a',hk,hr,ha=>by
  simp only[AV.argW]at ha;exact eN hu h1 (hk.imp (fun h=>h) fun hs=>⟨hs,by simp,by simp,by simp⟩) hr ha
theorem ji{h:aE}{us:List (Nat×U)}(hu:aZ h n0 S0 M0 us g){ids:List Nat}{ws:List U}(hw:Gs ids (lu us) ids=some ws){sh:Nat→Prop}(h1:∀b,g.Sh b→sh b):
  ∀{avs:List AV} {vs:List Value} {as:List AV},((∀k b,k∉ids→b∈g.φ k→sh b)∨bm ids avs=true)→ah h us g avs vs→iZ ids (lu us) avs=some as→ah h (bX 0 ws) (g.callee ids sh) as vs
 | [],vs,as,hk,hr,ha=>by
  simp only[iZ,oS]at ha;subst ha;simpa[ah]using hr
 |av::avs,vs,as,hk,hr,ha=>by
  simp only[ah]at hr;obtain⟨v,r,rfl,r1,r2⟩:=hr;simp only[iZ]at ha
  split at ha
  ·next b bs e1 e2=>
   injection ha with ha;subst ha;have hk':(∀k b,k∉ids→b∈g.φ k→sh b)∨(av.shW ids=true∧bm ids avs=true):=hk.imp (fun h=>h) fun hs=>by simpa[bm]using hs
   simp only[ah];exact⟨v,r,rfl,DV hu hw h1 (hk'.imp (fun h=>h) And.left) r1 e1,ji hu hw h1 (hk'.imp (fun h=>h) And.right) r2 e2⟩
  ·cases ha
end

theorem yK{ids:List Nat}{un:Nat→Option U}:∀{l:List Nat},bC ids un l=true→∀i∈l,U.shW ids (un i)=true
 | [],_,i,hi=>by cases hi
 |j::l,h,i,hi=>by
  simp only[bC,bA]at h;rcases List.mem_cons.1 hi with rfl|hi
  ·exact h.1
  ·exact yK h.2 i hi

theorem zT{h:aE}{us:List (Nat×U)}(hu:aZ h n0 S0 M0 us g){ids:List Nat}{ws:List U}(hw:Gs ids (lu us) ids=some ws)(hn:ids.Nodup){sh:Nat→Prop}(h1:∀b,g.Sh b→sh b)(h2:∀b,sh b→b<h.size∧∀id∈ids,b∉g.φ id)
  (hk:(∀k b,k∉ids→b∈g.φ k→sh b)∨bC ids (lu us) ids=true):CS h sh ws (g.callee ids sh):=by
 obtain⟨hl,hu1⟩:=iq hw;have isid:∀x∈bX 0 ws,∃i id,ids[i]?=some id∧∃u v,ws[i]?=some u∧x=(3000000000+(0+i),u)∧lu us id=some v∧ew ids (lu us) v u:=by
  intro x hx;obtain⟨i,u,e1,rfl⟩:=cE.1 hx;have hi:i<ids.length:=by rw[←hl];exact(List.getElem?_eq_some_iff.1 e1).1
  have e:ids[i]?=some ids[i]:=by simp[hi]
  obtain⟨u',v,q1,q2,q3⟩:=hu1 i _ e;rw[e1]at q1;cases q1;exact⟨i,_,e,u,v,e1,rfl,q2,q3⟩
 have inus:∀b,b∈fp (g.callee ids sh) (bX 0 ws)→b∈fp g us:=by
  intro b hb;obtain⟨id,hid,hb⟩:=(pl hl).1 hb;obtain⟨i,hi,rfl⟩:=List.getElem_of_mem hid;obtain⟨u,v,_,q2,_⟩:=hu1 i ids[i] (by simp[hi]);exact aH.2 ⟨_,ay q2,hb⟩
 refine⟨fo ij ?_ ?_,fun b hb=>hu.lt b (inus b hb),fun b hb=>hu.fz b (inus b hb),?_,fun b hb=>⟨(h2 b hb).1,hb,fun hf=>?_⟩,?_,?_⟩
 ·intro x hx;obtain⟨i,id,e,u,v,e1,rfl,q2,_⟩:=isid x hx;rw[(bL e).2.1];exact bZ hu (ay q2)
 ·intro x hx y hy b hbx hby;obtain⟨i,id,e,u,v,e1,rfl,q2,_⟩:=isid x hx;obtain⟨i',id',e',u',v',e1',rfl,q2',_⟩:=isid y hy;rw[(bL e).2.1]at hbx;rw[(bL e').2.1]at hby;have:=bF hu.keys hu.nodup (ay q2) (ay q2') hbx hby;simp only at this;subst this;have p1:=k9 (n:=0) hn e;have p2:=k9 (n:=0) hn e';rw[p1]at p2;simp only[oS]at p2;simp only;omega
 ·intro k hk;simp only[Gh.callee]
  split
  ·next i hi=>
   exfalso;unfold jI at hi
   split at hi
   ·next hle=>
    have hlt:=(List.getElem?_eq_some_iff.1 hi).1;exact hk (vC.2 ⟨k-3000000000,by omega,by omega⟩)
   ·cases hi
  ·rfl
 ·obtain⟨id,hid,hb'⟩:=(pl hl).1 hf;exact(h2 b hb).2 id hid hb'
 ·intro x hx;obtain⟨i,id,e,u,v,e1,rfl,q2,q3⟩:=isid x hx;have ho:=hu.each _ (ay q2);cases v with
  |ar ow nn sz es=>
   cases u with
   |ar ow2 nn2 sz2 es2=>
    simp only[ew]at q3;obtain⟨rfl,rfl,rfl,rfl,_⟩:=q3;simp only[cm]at ho⊢;rw[(bL e).1,(bL e).2.1,(bL e).2.2.1];obtain⟨o1,o2,o3⟩:=ho;refine⟨o1,o2,?_⟩;rcases o3 with⟨p1,p2,p3,p4⟩|⟨b,c,ty,G,cs,rest,k1,k2,k3,k4,k5,k6,k7,k8⟩
    ·exact .inl ⟨p1,p2,p3,by simp⟩
    ·refine .inr ⟨b,c,ty,G,cs,rest,k1,k2,k3,k4,k5,k6,by simp,?_⟩
     split
     ·next hw=>rw[if_pos hw]at k8;exact k8
     ·next hw=>rw[if_neg hw]at k8;exact⟨k8.1,fun x hx=>h1 x (k8.2 x hx)⟩
   |_=>simp[ew]at q3
  |own d=>
   cases u with
   |own d2=>
    simp only[ew]at q3;subst q3;simp only[cm]at ho⊢;rw[(bL e).1,(bL e).2.1,(bL e).2.2.2];exact ho
   |_=>simp[ew]at q3
  |bx sz items=>
   cases u with
   |bx sz2 items2=>
    simp only[ew]at q3;obtain⟨rfl,q3⟩:=q3;simp only[cm]at ho⊢;rw[(bL e).1,(bL e).2.1];obtain⟨o1,b,c,ty,vs,rest,k1,k2,k3,k4,k5,k6⟩:=ho;have hrep:=ji hu hw h1 (hk.imp (fun h=>h) fun hs=>by have:=yK hs id (List.mem_of_getElem? e);rw[q2]at this;exact this) k4 q3;refine⟨?_,b,c,ty,vs,rest,k1,k2,k3,hrep,k5,k6⟩;rw[←f7 hrep,f7 k4];exact o1
   |_=>simp[ew]at q3
  |sb T E s=>cases u<;>simp[ew]at q3
 ·intro x hx hp;obtain⟨i,id,e,u,v,e1,rfl,q2,q3⟩:=isid x hx;rw[(bL e).1];intro hb;have ho:=hu.each _ (ay q2);cases v with
  |ar ow nn sz es=>
   cases u with
   |ar ow2 nn2 sz2 es2=>
    simp only[ew]at q3;obtain⟨_,_,_,_,q3⟩:=q3;simp only[cm]at ho;rcases ho.2.2 with⟨p1,p2,p3,p4⟩|⟨b,c,ty,G,cs,rest,k1,_⟩
    ·exact q3.elim p4 (fun h=>h p2)
    ·rw[hb]at k1;cases k1
   |_=>simp[ew]at q3
  |own d=>
   cases u with
   |own d2=>cases hp
   |_=>simp[ew]at q3
  |bx sz items=>
   simp only[cm]at ho;obtain⟨_,b,c,ty,vs,rest,k1,_⟩:=ho;rw[hb]at k1;cases k1
  |sb T E s=>cases u<;>simp[ew]at q3

mutual
theorem Ge{h:aE}{us':List (Nat×U)}{ws':List U}{g' g2:Gh}{ids:List Nat}{m:Nat}(hA:∀k,3000000000≤k→k<3000000000+m→∀u,(k,u)∈bX 0 ws'→∃u2,(ids.getD (k-3000000000) 0,u2)∈us'∧fA u u2∧g2.β (ids.getD (k-3000000000) 0)=g'.β k):
  ∀{av:AV} {v:Value},av.okW m=true→ab h (bX 0 ws') g' av v→ab h us' g2 (av.unW ids) v
 |.im none d,v,ho,hr=>by
  simp only[AV.okW]at ho;simp only[AV.unW,ab]at hr⊢;obtain⟨F,r1,r2,r3⟩:=hr;have:=cC (D.flat_noPtr ho) r1;subst this;exact⟨[],r1,r2,by simp⟩
 |.im (some t) d,v,ho,hr=>by simp[AV.okW]at ho
 |.pw k el j,v,ho,hr=>by
  simp only[AV.okW,bA,decide_eq_true_eq]at ho;simp only[AV.unW,ab]at hr⊢;obtain⟨ow,nn,sz,es,b,r1,r2,r3,r4,r5⟩:=hr;obtain⟨u2,q1,q2,q3⟩:=hA k ho.1 ho.2 _ r1;cases u2 with
  |ar ow2 nn2 sz2 es2=>simp only[fA]at q2;obtain⟨rfl,q2⟩:=q2;exact⟨_,_,_,_,b,q1,by omega,r3,by rw[q3];exact r4,r5⟩
  |_=>simp[fA]at q2
 |.pb k j,v,ho,hr=>by
  simp only[AV.okW,bA,decide_eq_true_eq]at ho;simp only[AV.unW,ab]at hr⊢;obtain⟨sz,items,b,r1,r2,r3⟩:=hr;obtain⟨u2,q1,q2,q3⟩:=hA k ho.1 ho.2 _ r1;cases u2 with
  |bx sz2 items2=>simp only[fA]at q2;obtain⟨rfl,q2⟩:=q2;exact⟨_,_,b,q1,by rw[q3];exact r2,r3⟩
  |_=>simp[fA]at q2
 |.cl f vs,v,ho,hr=>by
  simp only[AV.okW]at ho;simp only[AV.unW,ab]at hr⊢;obtain⟨xs,r1,r2⟩:=hr;exact⟨xs,oZ hA ho r1,r2⟩
 |.sg vs,v,ho,hr=>by
  simp only[AV.okW]at ho;simp only[AV.unW,ab]at hr⊢;obtain⟨xs,r1,r2⟩:=hr;exact⟨xs,oZ hA ho r1,r2⟩
 |.tr _,v,ho,hr=>by simp[AV.okW]at ho
 |.cw _ _ _ _ _,v,ho,hr=>by simp[AV.okW]at ho
 |.sm _ _ _,v,ho,hr=>by simp[AV.okW]at ho
 |.vb _ _,v,ho,hr=>by simp[AV.okW]at ho
 |.tup _,v,ho,hr=>by simp[AV.okW]at ho
 |.any,v,ho,hr=>by simp[AV.okW]at ho
 |.ps _,v,ho,hr=>by simp[AV.okW]at ho
 |.pq _ _ _ _ _ _,v,ho,hr=>by simp[AV.okW]at ho
 |.qs _ _ _ _ _ _,v,ho,hr=>by simp[AV.okW]at ho
 |.ss _ _ _,v,ho,hr=>by simp[AV.okW]at ho
 |.z0 _ _,v,ho,hr=>by simp[AV.okW]at ho
theorem oZ{h:aE}{us':List (Nat×U)}{ws':List U}{g' g2:Gh}{ids:List Nat}{m:Nat}(hA:∀k,3000000000≤k→k<3000000000+m→∀u,(k,u)∈bX 0 ws'→∃u2,(ids.getD (k-3000000000) 0,u2)∈us'∧fA u u2∧g2.β (ids.getD (k-3000000000) 0)=g'.β k):
  ∀{avs:List AV} {vs:List Value},eL m avs=true→ah h (bX 0 ws') g' avs vs→ah h us' g2 (ku ids avs) vs
 | [],vs,_,hr=>by simpa[ah,ku]using hr
 |a::as,vs,ho,hr=>by
  simp only[eL,bA]at ho;simp only[ah,ku]at hr⊢;obtain⟨v,r,rfl,h1,h2⟩:=hr;exact⟨v,r,rfl,Ge hA ho.1 h1,oZ hA ho.2 h2⟩
end
theorem oN{ids:List Nat}:∀{avs:List AV},(ku ids avs).length=avs.length
 | []=>by simp[ku]
 |a::as=>by simp[ku,oN (avs:=as)]

theorem lv{ids k1 k2:List Nat}{us':List U}:∀{us:List (Nat×U)} {x:Nat×U},x∈gt ids k1 k2 us' us↔x.1∉k2∧∃u,(x.1,u)∈us∧x.2=nP (bb k1 0 x.1) ids k1 k2 us' u
 | [],x=>by simp[gt]
 |(i,u)::r,(j,v)=>by
  simp only[gt]
  split
  ·next hs=>
   rw[lv (us:=r)];simp only[List.mem_cons,Prod.mk.injEq];have hk:i∈k2:=by
    rcases Classical.em (i∈k2)with h|h
    ·exact h
    ·rw[dV.2 h]at hs;cases hs
   constructor
   ·rintro⟨h1,u',h2,h3⟩;exact⟨h1,u',.inr h2,h3⟩
   ·rintro⟨h1,u',⟨rfl,rfl⟩|h2,h3⟩
    ·exact absurd hk h1
    ·exact⟨h1,u',h2,h3⟩
  ·next hs=>
   have hk:i∉k2:=by
    intro h;cases hp:bb k2 0 i with
    |none=>exact dV.1 hp h
    |some q=>rw[hp]at hs;simp at hs
   simp only[List.mem_cons,lv (us:=r),Prod.mk.injEq];constructor
   ·rintro(⟨rfl,rfl⟩|⟨h0,u',h1,h2⟩)
    ·exact⟨hk,u,.inl ⟨rfl,rfl⟩,rfl⟩
    ·exact⟨h0,u',.inr h1,h2⟩
   ·rintro⟨h0,u',⟨rfl,rfl⟩|h1,h2⟩
    ·exact .inl ⟨rfl,h2⟩
    ·exact .inr ⟨h0,u',h1,h2⟩
theorem mb{ids k1 k2:List Nat}{us':List U}:∀{us:List (Nat×U)},((gt ids k1 k2 us' us).map (·.1)).Sublist (us.map (·.1))
 | []=>by simp[gt]
 |(i,u)::r=>by
  simp only[gt]
  split
  ·exact List.Sublist.cons _ mb
  ·simp only[lC];exact List.Sublist.cons_cons _ mb

theorem vq{ids:List Nat}{un:Nat→Option U}:∀{l:List AV} {as:List AV},iZ ids un l=some as→as.length=l.length
 | [],as,h=>by simp only[iZ,oS]at h;subst h;rfl
 |a::l,as,h=>by
  simp only[iZ]at h
  split at h
  ·next b bs e1 e2=>injection h with h;subst h;simp[vq e2]
  ·cases h
theorem qB{ids:List Nat}{un:Nat→Option U}{v x u':U}{m:Nat}{b:Bool}(h1:ew ids un v x)(h2:bp m b x u'):fA v (o8 ids v u')∧fA u' (o8 ids v u')∧((o8 ids v u').isPin=true→v.isPin=true):=by
 cases v with
 |ar ow nn sz es=>
  cases x with
  |ar ow2 nn2 sz2 es2=>
   cases u' with
   |ar ow3 nn3 sz3 es3=>
    simp only[ew]at h1;simp only[bp]at h2;obtain⟨rfl,rfl,rfl,rfl,_⟩:=h1;obtain⟨rfl,rfl,h2,_⟩:=h2;exact⟨⟨rfl,h2⟩,⟨rfl,rfl⟩,fun e=>U.isPin_ar.2 (U.isPin_ar.1 e)⟩
   |_=>simp[bp]at h2
  |_=>simp[ew]at h1
 |own d=>
  cases x with
  |own d2=>simp[bp]at h2
  |_=>simp[ew]at h1
 |bx sz items=>
  cases x with
  |bx sz2 items2=>
   cases u' with
   |bx sz3 items3=>
    simp only[ew]at h1;simp only[bp]at h2;obtain⟨rfl,h1⟩:=h1;obtain⟨rfl,h2,_⟩:=h2;have:=vq h1;exact⟨⟨rfl,by rw[oN,h2,this]⟩,⟨rfl,oN⟩,fun _=>rfl⟩
   |_=>simp[bp]at h2
  |_=>simp[ew]at h1
 |sb T E s=>cases x<;>simp[ew]at h1

theorem DC(h:At n0 S0 M0 w0 st o a w g){f:Nat}{avs:List AV}{vs:List Value}{kk:St→Prop}(hrun:eZ P f→(execOp a.eval o).run P w=.ok (.enter f vs.toArray) w)(hr:ah w.heap st.us g avs vs)
  (hq:x8 P o.dst f avs st kk):o.wp P a w (dz n0 S0 M0 w0 st.n kk) Q':=by
 obtain⟨k1,k2,ws,as,ws',r,hnd,hw,has,⟨hcl,_,hA⟩,hm,hout,hk⟩:=hq;have hn:=rp hnd;generalize hids:k1++k2=ids at hw has hn hout hk;generalize hall:(bm ids avs&&bC ids st.unit ids)=allsh at hout;have hn1:k1.Nodup:=by rw[←hids]at hn;exact(List.nodup_append.1 hn).1
 have hdis:∀k,k∈k1→k∉k2:=by
  rw[←hids]at hn;intro k h1 h2;exact(List.nodup_append.1 hn).2.2 k h1 k h2 rfl
 have hin:∀k,k∈ids↔k∈k1∨k∈k2:=fun k=>by rw[←hids];exact List.mem_append
 obtain⟨hl,hu1⟩:=iq hw;obtain⟨_,ho1⟩:=uA hout;have hs:=h.sat;have hu:=h.us;have hbase:n0≤w.heap.size:=by rw[hs.base];exact hs.size
 have idus:∀id∈ids,∃u,(id,u)∈st.us:=by
  intro id hid;obtain⟨i,hi,rfl⟩:=List.getElem_of_mem hid;obtain⟨x,v,_,q2,_⟩:=hu1 i ids[i] (by simp[hi]);exact⟨_,ay q2⟩

 let sh:Nat→Prop:=fun b=>if allsh=true then g.Sh b else b<w.heap.size∧∀id∈ids,b∉g.φ id
 have h1:∀b,g.Sh b→sh b:=by
  intro b hb;simp only[sh]
  split
  ·exact hb
  ·refine⟨(hu.sh b hb).1,fun id hid hb'=>?_⟩;obtain⟨u,hu'⟩:=idus id hid;exact(hu.sh b hb).2.2 (aH.2 ⟨_,hu',hb'⟩)
 have h2:∀b,sh b→b<w.heap.size∧∀id∈ids,b∉g.φ id:=by
  intro b hb;simp only[sh]at hb
  split at hb
  ·refine⟨(hu.sh b hb).1,fun id hid hb'=>?_⟩;obtain⟨u,hu'⟩:=idus id hid;exact(hu.sh b hb).2.2 (aH.2 ⟨_,hu',hb'⟩)
  ·exact hb
 have hrd:(∀k b,k∉ids→b∈g.φ k→sh b)∨(bm ids avs=true∧bC ids st.unit ids=true):=by
  cases ha:allsh with
  |true=>rw[ha]at hall;exact .inr (by simpa using hall)
  |false=>
   refine .inl fun k b hki hb=>?_;simp only[sh,ha,fq,if_false];obtain⟨u,hu'⟩:=hu.live hb;refine⟨hu.lt b (aH.2 ⟨_,hu',hb⟩),fun id hid hb'=>hki ?_⟩;obtain⟨u2,hu2⟩:=idus id hid;have:=bF hu.keys hu.nodup hu' hu2 hb hb';simp only at this;rw[this];exact hid
 have hW:=zT hu hw hn h1 h2 (hrd.imp (fun h=>h) And.right);have hargs:ah w.heap (bX 0 ws) (g.callee ids sh) as vs:=ji hu hw h1 (hrd.imp (fun h=>h) And.left) hr has;unfold Oper.wp;rw[hrun hcl,Oper.upon_enter];refine(hA w vs sh _ hW hargs).mono ?_;rintro e w' ⟨v,F,g',rfl,e1,e2,e3,hsz,hfr,hE,hR⟩

 have S:∀b,b∈fp (g.callee ids sh) (bX 0 ws)↔∃id∈ids,b∈g.φ id:=fun b=>pl hl;have Sin:∀b,(∃id∈ids,b∈g.φ id)→b∈fp g st.us:=by
  rintro b ⟨id,hid,hb⟩;obtain⟨u,hu'⟩:=idus id hid;exact aH.2 ⟨_,hu',hb⟩
 have Sout:∀y u,(y,u)∈st.us→y∉ids→∀b,b∈g.φ y→¬∃id∈ids,b∈g.φ id:=by
  rintro y u hy hyn b hb ⟨id,hid,hb'⟩;obtain⟨u2,hu2⟩:=idus id hid;have:=bF hu.keys hu.nodup hy hu2 hb hb';simp only at this;rw[this]at hyn;exact hyn hid
 have fr:∀b,b<w.heap.size→(¬∃id∈ids,b∈g.φ id)→w'.heap[b]?=w.heap[b]?:=fun b hb hS=>hfr b hb fun hf=>hS ((S b).1 hf);have frS:∀b,g.Sh b→w'.heap[b]?=w.heap[b]?:=fun b hb=>fr b (hu.sh b hb).1 fun hS=>(hu.sh b hb).2.2 (Sin b hS);have fro:∀y u,(y,u)∈st.us→y∉ids→∀b,b∈g.φ y→w'.heap[b]?=w.heap[b]?:=fun y u hy hyn b hb=>fr b (hu.lt b (aH.2 ⟨_,hy,hb⟩)) (Sout y u hy hyn b hb)
 let g2:Gh:=⟨g.β,fun k=>match bb k1 0 k with|some q=>g'.φ (3000000000+(0+q))|none=>(match bb k2 0 k with|some _=>[]|none=>g.φ k),g.root,g.cap,fun b=>g.Sh b∨(allsh=true∧b<w'.heap.size∧g'.Sh b)⟩
 have φi:∀{i id:Nat},k1[i]?=some id→g2.φ id=g'.φ (3000000000+(0+i)):=by
  intro i id hi;have:=k9 (n:=0) hn1 hi;simp only[g2,this,Nat.zero_add]
 have φo:∀{k:Nat},k∉ids→g2.φ k=g.φ k:=by
  intro k hk;rw[hin]at hk;simp only[g2,dV.2 (fun h=>hk (.inl h)),dV.2 (fun h=>hk (.inr h))]
 have φd:∀{k:Nat},k∈k2→g2.φ k=[]:=by
  intro k hk;have hk1:k∉k1:=fun h=>hdis k h hk;simp only[g2,dV.2 hk1]
  split
  ·rfl
  ·next hp=>exact absurd hk (dV.1 hp)
 have kept:∀(i id:Nat),k1[i]?=some id→ids[i]?=some id∧∃x v u',ws[i]?=some x∧ws'[i]?=some u'∧(id,v)∈st.us∧ew ids (lu st.us) v x∧bp k1.length allsh x u'∧(3000000000+(0+i),u')∈bX 0 ws':=by
  intro i id hi;have hlt:=(List.getElem?_eq_some_iff.1 hi).1;have e:ids[i]?=some id:=by rw[←hids,List.getElem?_append_left hlt];exact hi
  obtain⟨x,v,q1,q2,q3⟩:=hu1 i id e;have hlt':i<ws'.length:=by omega
  have e':ws'[i]?=some ws'[i]:=by simp[hlt']
  exact⟨e,x,v,ws'[i],q1,e',ay q2,q3,ho1 i _ _ q1 e',cE.2 ⟨i,_,e',rfl⟩⟩
 have φin:∀(i id:Nat),k1[i]?=some id→∀b,b∈g'.φ (3000000000+(0+i))→b∈fp g' (bX 0 ws'):=by
  intro i id hi b hb;obtain⟨_,_,_,_,_,_,_,_,_,hm⟩:=kept i id hi;exact aH.2 ⟨_,hm,hb⟩
 have hnF:=List.nodup_append.1 hE.nodup;have all2:∀b,b∈fp g' (bX 0 ws')→b<w'.heap.size∧kp w'.heap b∧(b<w.heap.size→∃id∈ids,b∈g.φ id)∧¬g'.Sh b:=by
  intro b hb;obtain⟨p1,p2,p3,p4⟩:=hE.all b (List.mem_append_right _ hb);exact⟨p1,p2,fun hlt=>(S b).1 (p3 hlt),p4⟩
 have newm:∀(i id:Nat)(v u':U),k1[i]?=some id→ws'[i]?=some u'→(id,v)∈st.us→(id,o8 ids v u')∈gt ids k1 k2 ws' st.us:=by
  intro i id v u' hi e' hv;refine lv.2 ⟨hdis id (List.mem_of_getElem? hi),v,hv,?_⟩;have:=k9 (n:=0) hn1 hi;have hd:ws'.getD i default=u':=by simp[List.getD,e']
  simp only[this,nP,Nat.zero_add,hd]
 have K:gC k1 k2 (iD k1 k2) w.heap w'.heap st.us (gt ids k1 k2 ws' st.us) g g2:=by
  refine⟨?_,?_,fun _ _=>⟨rfl,rfl,rfl⟩,?_,?_,?_⟩
  ·intro av hf;simp only[iD,Bool.or_eq_false_iff]at hf;exact⟨rg hf.1,qK hf.2⟩
  ·intro i u hi hn1 hn2;exact lv.2 ⟨hn2,u,hi,by simp only[dV.2 hn1];rfl⟩
  ·intro i u b hi hni1 hni2 hb;exact fro i u hi (fun h=>((hin i).1 h).elim hni1 hni2) b ((hu.each _ hi).block_mem hb)
  ·intro t d F' cs ht1 ht2 hrp hok;have hx:∀x∈F',w'.heap[x]?=w.heap[x]?:=by
    intro x hx;rcases hok x hx with q|⟨i,rfl,q,_⟩
    ·exact frS x q
    ·obtain⟨u,hu'⟩:=hu.live q;exact fro i u hu' (fun hi=>((hin i).1 hi).elim (fun h=>ht1 i h rfl) (fun h=>ht2 i h rfl)) x q
   refine⟨hrp.frame hx,fun x hx=>?_⟩;rcases hok x hx with q|⟨i,rfl,q,q'⟩
   ·exact .inl (.inl q)
   ·exact .inr ⟨i,rfl,by rw[φo fun hi=>((hin i).1 hi).elim (fun h=>ht1 i h rfl) (fun h=>ht2 i h rfl)];exact q,q'⟩
  ·intro id hid;obtain⟨i,hi,rfl⟩:=List.getElem_of_mem hid;have e:k1[i]?=some k1[i]:=by simp[hi]
   obtain⟨_,x,v,u',q1,q1',q2,q3,q4,_⟩:=kept i _ e;exact⟨v,o8 ids v u',fun y hy=>hu.uniq hy q2,newm i _ v u' e q1' q2,(qB q3 q4).1⟩
 have isid:∀x∈gt ids k1 k2 ws' st.us,(∃(i id:Nat) (y v u':U),x=(id,o8 ids v u')∧k1[i]?=some id∧ws'[i]?=some u'∧(id,v)∈st.us∧ew ids (lu st.us) v y∧bp k1.length allsh y u'∧ids[i]?=some id)∨(x.1∉ids∧∃u,(x.1,u)∈st.us∧x.2=u.kill (iD k1 k2)):=by
  intro x hx;obtain⟨p0,u,p1,p2⟩:=lv.1 hx;cases hp:bb k1 0 x.1 with
  |none=>exact .inr ⟨fun h=>((hin _).1 h).elim (dV.1 hp) p0,u,p1,by rw[p2,hp];rfl⟩
  |some q=>
   obtain⟨_,hid⟩:=gV hp;simp only[Nat.sub_zero]at hid;obtain⟨ee,y,v,u',q1,q1',q2,q3,q4,_⟩:=kept q _ hid;have:=hu.uniq p1 q2;subst this;have hd:ws'.getD q default=u':=by simp[List.getD,q1']
   exact .inl ⟨q,x.1,y,u,u',by rw[hp]at p2;simp only[nP,hd]at p2;rw[←p2],hid,q1',q2,q3,q4,ee⟩
 have fpc:∀b,b∈fp g2 (gt ids k1 k2 ws' st.us)→b∈fp g' (bX 0 ws')∨∃y u,(y,u)∈st.us∧y∉ids∧b∈g.φ y:=by
  intro b hb;obtain⟨x,hx,hbx⟩:=aH.1 hb;rcases isid x hx with⟨i,id,y,v,u',rfl,e,q1',q2,q3,q4,_⟩|⟨hni,u,hxu,_⟩
  ·rw[φi e]at hbx;exact .inl (φin i id e b hbx)
  ·rw[φo hni]at hbx;exact .inr ⟨x.1,u,hxu,hni,hbx⟩
 have hAw:∀k,3000000000≤k→k<3000000000+k1.length→∀u,(k,u)∈bX 0 ws'→∃u2,(ids.getD (k-3000000000) 0,u2)∈gt ids k1 k2 ws' st.us∧fA u u2∧g2.β (ids.getD (k-3000000000) 0)=g'.β k:=by
  intro k hk1 hk2 u hku;have hi:k-3000000000<k1.length:=by omega
  generalize hq:k-3000000000=i at hi;have hk:k=3000000000+(0+i):=by omega
  subst hk;have e:k1[i]?=some k1[i]:=by simp[hi]
  obtain⟨ee,x,v,u',q1,q1',q2,q3,q4,q5⟩:=kept i _ e;have hgd:ids.getD i 0=k1[i]:=by simp[List.getD,ee]
  rw[hgd];have huu:u=u':=by
   obtain⟨j,y,p1,p2⟩:=cE.1 hku;rw[Prod.mk.injEq]at p2;obtain⟨p2,p3⟩:=p2;have:j=i:=by omega
   subst this;rw[q1']at p1;cases p1;exact p3
  subst huu;refine⟨o8 ids v u,newm i _ v u e q1' q2,(qB q3 q4).2.1,?_⟩;have hp:=(hE.pin _ q5).1;simp only at hp;rw[hp,(bL ee).1]
 have hV:∀av x,iD k1 k2 av=false→ab w.heap st.us g av x→ab w'.heap (gt ids k1 k2 ws' st.us) g2 av x:=fun av x hf hr=>K.rep av x hf hr;have hU:aZ w'.heap n0 S0 M0 (gt ids k1 k2 ws' st.us) g2:=by
  refine⟨hu.keys.sublist mb,fo (hu.keys.sublist mb) ?_ ?_,?_,?_,?_,?_,?_,?_,?_⟩
  ·intro x hx;rcases isid x hx with⟨i,id,y,v,u',rfl,e,q1',q2,q3,q4,_⟩|⟨hni,u,hxu,_⟩
   ·rw[φi e];obtain⟨_,_,_,_,_,_,_,_,_,hm⟩:=kept i id e;exact rh hnF.2.1 _ hm
   ·rw[φo hni];exact bZ hu hxu
  ·intro x hx y hy b hbx hby;rcases isid x hx with⟨i,id,x0,v,u',rfl,e,q1',q2,q3,q4,_⟩|⟨hni,u,hxu,_⟩<;>rcases isid y hy with⟨j,jd,y0,v1,v1',rfl,f,r1',r2,r3,r4,_⟩|⟨hnj,v1,hyv,_⟩
   ·rw[φi e]at hbx;rw[φi f]at hby;obtain⟨_,_,_,_,_,_,_,_,_,hm1⟩:=kept i id e;obtain⟨_,_,_,_,_,_,_,_,_,hm2⟩:=kept j jd f;have:=bF ij hnF.2.1 hm1 hm2 hbx hby;simp only at this;have:i=j:=by omega
    subst this;rw[e]at f;exact Option.some.inj f
   ·rw[φi e]at hbx;rw[φo hnj]at hby;have hlt:=hu.lt b (aH.2 ⟨_,hyv,hby⟩);exact absurd ((all2 b (φin i id e b hbx)).2.2.1 hlt) (Sout _ _ hyv hnj b hby)
   ·rw[φi f]at hby;rw[φo hni]at hbx;have hlt:=hu.lt b (aH.2 ⟨_,hxu,hbx⟩);exact absurd ((all2 b (φin j jd f b hby)).2.2.1 hlt) (Sout _ _ hxu hni b hbx)
   ·rw[φo hni]at hbx;rw[φo hnj]at hby;exact bF (x:=(x.1,u)) (y:=(y.1,v1)) hu.keys hu.nodup hxu hyv hbx hby
  ·intro b hb;rcases fpc b hb with h|⟨y,u,hy,_,hby⟩
   ·exact(all2 b h).1
   ·have:=hu.lt b (aH.2 ⟨_,hy,hby⟩);omega
  ·intro b hb hlt;rcases fpc b hb with h|⟨y,u,hy,_,hby⟩
   ·exact hu.low b (Sin b ((all2 b h).2.2.1 (by omega))) hlt
   ·exact hu.low b (aH.2 ⟨_,hy,hby⟩) hlt
  ·intro k hk
   by_cases hk2:k∈k2
   ·exact φd hk2
   have hki:k∉ids:=fun hi=>by
    rcases(hin k).1 hi with hk1|h
    ·obtain⟨i,hi',rfl⟩:=List.getElem_of_mem hk1;have e:k1[i]?=some k1[i]:=by simp[hi']
     obtain⟨_,x,v,u',q1,q1',q2,q3,q4,_⟩:=kept i _ e;exact hk (List.mem_map.2 ⟨_,newm i _ v u' e q1' q2,rfl⟩)
    ·exact hk2 h
   rw[φo hki];refine hu.dead k fun hm=>hk ?_;obtain⟨x,hx,rfl⟩:=List.mem_map.1 hm;exact List.mem_map.2 ⟨_,K.mem x.1 x.2 hx (fun h=>hki ((hin _).2 (.inl h))) hk2,rfl⟩
  ·intro b hb;rcases hb with hb|⟨hall',hlt,hb⟩
   ·obtain⟨p1,p2,p3⟩:=hu.sh b hb;refine⟨by omega,p2,fun hf=>?_⟩;rcases fpc b hf with h|⟨y,u,hy,_,hby⟩
    ·exact p3 (Sin b ((all2 b h).2.2.1 p1))
    ·exact p3 (aH.2 ⟨_,hy,hby⟩)
   ·have hsh:=(hE.sh b hb).2;have hold:b<w.heap.size→g.Sh b∨∃id∈ids,b∈g.φ id:=fun hlt=>(hsh hlt).imp (fun h=>by simpa only[sh,if_pos hall']using h) (S b).1;refine⟨hlt,fun hlt0=>?_,fun hf=>?_⟩
    ·rcases hold (by omega)with h|h
     ·exact(hu.sh b h).2.1 hlt0
     ·exact hs.ms b hlt0 (hu.low b (Sin b h) hlt0)
    ·rcases fpc b hf with h|⟨y,u,hy,hyn,hby⟩
     ·exact(all2 b h).2.2.2 hb
     ·have hlt':=hu.lt b (aH.2 ⟨_,hy,hby⟩);rcases hold hlt' with h|h
      ·exact(hu.sh b h).2.2 (aH.2 ⟨_,hy,hby⟩)
      ·exact Sout y u hy hyn b hby h
  ·intro x hx;rcases isid x hx with⟨i,id,y,v,u',rfl,e,q1',q2,q3,q4,ee⟩|⟨hni,u,hxu,hx2⟩
   ·obtain⟨_,_,_,_,_,_,_,_,_,hm⟩:=kept i id e;have hmu:(3000000000+(0+i),u')∈bX 0 ws':=cE.2 ⟨i,u',q1',rfl⟩;have ho:=hE.each _ hmu;have hp:=hE.pin _ hmu;simp only at hp;rw[(bL ee).1,(bL ee).2.2.1]at hp;have hold:=hu.each _ q2;simp only;cases v with
    |ar ow nn sz es=>
     cases y with
     |ar ow2 nn2 sz2 es2=>
      cases u' with
      |ar ow3 nn3 sz3 es3=>
       simp only[bp]at q4;obtain⟨rfl,_,_,o3⟩:=q4;simp only[o8,cm]at ho hold⊢;rw[φi e];rw[hp.1,hp.2]at ho;obtain⟨z1,z2,z3⟩:=ho;refine⟨z1,z2,?_⟩;have nn1:g.β id=none→nn≠some false:=by
        intro hb;rcases hold.2.2 with⟨_,_,_,p⟩|⟨b,_,_,_,_,_,p,_⟩
        ·exact p
        ·rw[hb]at p;cases p
       have nn2:∀b,g.β id=some b→nn≠some true:=by
        intro b hb;rcases hold.2.2 with⟨p,_⟩|⟨b',_,_,_,_,_,_,_,_,_,_,_,p,_⟩
        ·rw[hb]at p;cases p
        ·exact p
       rcases z3 with⟨p1,p2,p3,p4⟩|⟨b,c,ty,G,cs,rest,k1,k2,k3,k4,k5,k6,k7,k8⟩
       ·exact .inl ⟨p1,p2,p3,nn1 p1⟩
       ·refine .inr ⟨b,c,ty,G,cs,rest,k1,k2,k3,k4,k5,k6,nn2 b k1,?_⟩
        split
        ·next hw=>rw[if_pos hw]at k8;exact k8
        ·next hw=>
         rw[if_neg hw]at k8;refine⟨k8.1,fun y hy=>?_⟩;rcases o3 with o3|o3|o3
         ·exact .inr ⟨o3,k6.lt y hy,k8.2 y hy⟩
         ·exact absurd o3 hw
         ·rw[dK o3 k6]at hy;cases hy
      |_=>simp[bp]at q4
     |_=>simp[ew]at q3
    |own d=>
     cases y with
     |own d2=>simp[bp]at q4
     |_=>simp[ew]at q3
    |bx sz items=>
     cases y with
     |bx sz2 items2=>
      cases u' with
      |bx sz3 items3=>
       simp only[bp]at q4;obtain⟨rfl,_,o3⟩:=q4;simp only[o8,cm]at ho⊢;rw[φi e];rw[hp.1]at ho;obtain⟨z1,b,c,ty,xs,rest,z2,z3,z4,z5,z6,z7⟩:=ho;exact⟨by rw[oN];exact z1,b,c,ty,xs,rest,z2,z3,z4,oZ hAw o3 z5,z6,z7⟩
      |_=>simp[bp]at q4
     |_=>simp[ew]at q3
    |sb T E s=>cases y<;>simp[ew]at q3
   ·rw[hx2];exact(hu.each _ hxu).keepW K hxu (fun h=>hni ((hin _).2 (.inl h))) (fun h=>hni ((hin _).2 (.inr h))) (φo hni) (fun b hb=>fro _ _ hxu hni b hb) (fun b hb=>⟨.inl hb,frS b hb⟩)
  ·intro b hb;rcases fpc b hb with h|⟨y,u,hy,hyn,hby⟩
   ·exact(all2 b h).2.1
   ·obtain⟨c,ty,hc⟩:=hu.fz b (aH.2 ⟨_,hy,hby⟩);exact⟨c,ty,by rw[fro y u hy hyn b hby];exact hc⟩
  ·refine hu.pin.mono fun i u hm hpn=>⟨?_,rfl,rfl⟩;rcases isid _ hm with⟨i1,id,y,v,u',e0,e,q1',q2,q3,q4,_⟩|⟨hni,u0,hxu,hx2⟩
   ·injection e0 with e0 e0';subst e0 e0';exact⟨v,q2,(qB q3 q4).2.2 hpn⟩
   ·simp only at hx2;rw[hx2,U.kill_pin]at hpn;exact⟨u0,hxu,hpn⟩
 have hrep:∀t,ab w'.heap (gt ids k1 k2 ws' st.us) g2 (lk (ch (iD k1 k2) st.env) t) (a.tmps.getD t undef):=fun t=>du hV (h.rep t);have hSt:st.updW k1 k2 ws'=⟨st.n,ch (iD k1 k2) st.env,gt ids k1 k2 ws' st.us⟩:=by rw[←hids];rfl
 rw[hSt]at hk;have hS:dH n0 S0 M0 w0 ⟨st.n,ch (iD k1 k2) st.env,gt ids k1 k2 ws' st.us⟩ a w':=by
  refine⟨hs.ms,hs.dfr,hs.tm,hs.base,e1.trans hs.os,e2.trans hs.tape,e3.trans hs.output,Nat.le_trans hs.size hsz,?_,g2,hU,hrep⟩;intro b hb hM;rw[fr b (by omega) fun hSb=>hM (hu.low b (Sin b hSb) hb)];exact hs.old b hb hM
 obtain⟨hf,hk2⟩:=rV hk;obtain⟨g3,hU3,hv3,hV3⟩:=yh (st:=⟨st.n,ch (iD k1 k2) st.env,gt ids k1 k2 ws' st.us⟩) hU (n:=o.dst.getD 0) hR hnF.1
  (fun b hb hlt=>hu.low b (Sin b ((S b).1 ((hE.all b (List.mem_append_left _ hb)).2.2.1 (by omega)))) hlt)
  (fun b hb hfp => by
   rcases fpc b hfp with h|⟨y,u,hy,hyn,hby⟩
   ·exact hnF.2.2 b hb b h rfl
   ·exact Sout y u hy hyn b hby ((S b).1 ((hE.all b (List.mem_append_left _ hb)).2.2.1 (hu.lt b (aH.2 ⟨_,hy,hby⟩)))))
  (fun b hb hsh => by
   rcases hsh with hsh|⟨_,_,hsh⟩
   ·exact(hu.sh b hsh).2.2 (Sin b ((S b).1 ((hE.all b (List.mem_append_left _ hb)).2.2.1 (hu.sh b hsh).1)))
   ·exact(hE.all b (List.mem_append_left _ hb)).2.2.2 hsh)
  (fun b hb=>(hE.all b (List.mem_append_left _ hb)).2.1) false (by simp) hf
 have hS3:dH n0 S0 M0 w0 (St.addUs ⟨st.n,ch (iD k1 k2) st.env,gt ids k1 k2 ws' st.us⟩ (bW (o.dst.getD 0) false r).2) a w':=
  ⟨hs.ms,hs.dfr,hs.tm,hs.base,e1.trans hs.os,e2.trans hs.tape,e3.trans hs.output,Nat.le_trans hs.size hsz,hS.old,g3,hU3,fun t=>hV3 _ _ (hrep t)⟩
 exact⟨_,by cases o.dst<;>rfl,hk2,cY hS3 hU3 (fun t=>hV3 _ _ (hrep t)) h.dst hv3⟩

theorem G9(h:At n0 S0 M0 w0 st o a w g){f:Nat}{c:Call}{Xs:List X}{kk:St→Prop}(ho:o.op=.call c)(hc:c.callee=.value (.func f))(hl:c.args.size=c.argTypes.size)
  (hx:(c.args.toList.zip c.argTypes.toList).mapM (fun p=>aU P p.2 p.1)=some Xs) (hq:x8 P o.dst f (Xs.map st.ev) st kk):o.wp P a w (dz n0 S0 M0 w0 st.n kk) Q':=by
 refine DC h (vs:=c.args.toList.map a.eval) ?_ (nE h.rep (by simpa using hl) hx) hq;rintro⟨fn,h1,h2,h3⟩;have h2':¬fn.body=none:=by cases hb:fn.body<;>simp_all
 have h3' : ¬ fn.name = "runtime.NumGoroutine" := by simpa using h3
 have ea:(List.map a.eval c.args.toList).toArray=Array.map a.eval c.args:=by apply Array.ext';simp
 rw[ea];simp[execOp,ho,resolve,hc,Act.eval,Deferred.ofValue,invoke,callFunc,h1,h2',h3']

end Go.Ax
namespace Go.Ax

variable {P : Program} {n0 : Nat} {S0 M0 : Nat → Prop} {w0 : World}
variable {st : St} {o : Oper} {a : Act} {w : World} {k : KQ} {Q' : Exit → Act → World → Prop} {g : Gh}

theorem aZ.sbu{h h':aE}{us:List (Nat×U)}(hu:aZ h n0 S0 M0 us g){k T E:Nat}{s s':ByteArray}(hm:(k,U.sb T E s)∈us){b:Nat}{F F':List Nat}(hb:g.β k=some b)(hφ0:g.φ k=b::F)
  (hsz:h.size≤h'.size) (hh:∀x,x<h.size→x∉b::F→h'[x]?=h[x]?) (hs:wB h' T E s' b F') (hbF:b∉F') (hF:∀x∈F',x∈F∨h.size≤x) (hn0:n0≤h.size):
  aZ h' n0 S0 M0 ((k,.sb T E s')::aL k (AV.soft k) us) (g.fp1 k (b::F'))∧∀av v,av.soft k=false→ab h us g av v→ab h' ((k,.sb T E s')::aL k (AV.soft k) us) (g.fp1 k (b::F')) av v:=by
 have hφo:∀i,i≠k→(g.fp1 k (b::F')).φ i=g.φ i:=fun i hi=>by simp[Gh.fp1,hi]
 have hφk:(g.fp1 k (b::F')).φ k=b::F':=by simp[Gh.fp1]
 have hkfp:∀x∈g.φ k,x∈fp g us:=fun x hx=>aH.2 ⟨_,hm,hx⟩;have hoth:∀i v,(i,v)∈us→i≠k→∀x∈g.φ i,h'[x]?=h[x]?:=by
  intro i v h1 h2 x hx;exact hh x (hu.lt x (aH.2 ⟨_,h1,hx⟩)) fun hxk=>h2 (bF hu.keys hu.nodup h1 hm hx (by rw[hφ0];exact hxk))
 have hSh:∀x,g.Sh x→h'[x]?=h[x]?:=fun x hx=>hh x (hu.sh x hx).1 fun hxk=>(hu.sh x hx).2.2 (hkfp x (by rw[hφ0];exact hxk));have hnew:∀x∈b::F',x∈g.φ k∨h.size≤x:=by
  intro x hx;rw[hφ0];rcases List.mem_cons.1 hx with rfl|hx
  ·exact .inl (by simp)
  ·rcases hF x hx with h1|h1
   ·exact .inl (by simp[h1])
   ·exact .inr h1
 have H:AT k (AV.soft k) h h' us ((k,.sb T E s')::aL k (AV.soft k) us) g (g.fp1 k (b::F')):=by
  refine {mem:=fun i u h1 h2=>List.mem_cons_of_mem _ (cM h1 h2),β:=fun i hi=>⟨rfl,rfl,rfl⟩,blk:=?_,im:=?_,own:=?_,ar:=?_,bx:=?_,sb:=?_,same:=⟨rfl,rfl,rfl⟩}
  ·intro i u x h1 h2 h3;exact hoth i u h1 h2 x ((hu.each _ h1).block_mem h3)
  ·intro t d F cs ht hr hok;have hx:∀x∈F,h'[x]?=h[x]?:=by
    intro x hx;rcases hok x hx with h1|⟨i,rfl,h1,_⟩
    ·exact hSh x h1
    ·obtain⟨v,hv⟩:=hu.live h1;exact hoth i v hv (by rintro rfl;exact ht rfl) x h1
   refine⟨hr.frame hx,fun x hx=>?_⟩;rcases hok x hx with h1|⟨i,rfl,h1,h2⟩
   ·exact .inl h1
   ·exact .inr ⟨i,rfl,by rw[hφo i (by rintro rfl;exact ht rfl)];exact h1,h2⟩
  ·intro d hd;have:=hu.uniq hm hd;cases this
  ·intro ow nn sz es hd;have:=hu.uniq hm hd;cases this
  ·intro sz items hd;have:=hu.uniq hm hd;cases this
  ·intro T1 E1 s1 hd;have:=hu.uniq hm hd;injection this with z1 z2 z3;subst z1 z2 z3;exact⟨s',by simp⟩
 have hV:∀av v,av.soft k=false→ab h us g av v→ab h' ((k,.sb T E s')::aL k (AV.soft k) us) (g.fp1 k (b::F')) av v:=fun av v hf hr=>ab.keepM H hf hr;have hsub:=dg (f:=AV.soft k) hφo (us:=us);have hfp:fp (g.fp1 k (b::F')) ((k,.sb T E s')::aL k (AV.soft k) us)=(b::F')++fp (g.fp1 k (b::F')) (aL k (AV.soft k) us):=by
  simp only[fp,List.flatMap_cons,hφk]
 have hfpk:∀x∈fp (g.fp1 k (b::F')) (aL k (AV.soft k) us),∃y∈us,y.1≠k∧x∈g.φ y.1:=by
  intro x hx;obtain⟨y,hy,hxy⟩:=aH.1 hx;obtain⟨hne,u,h1,h2⟩:=aQ hy;exact⟨_,h1,hne,by rw[hφo _ hne]at hxy;exact hxy⟩
 have hall:∀x∈fp (g.fp1 k (b::F')) ((k,.sb T E s')::aL k (AV.soft k) us),x∈fp g us∨h.size≤x:=by
  intro x hx;rw[hfp]at hx;rcases List.mem_append.1 hx with hx|hx
  ·exact(hnew x hx).imp (hkfp x) id
  ·exact .inl (hsub.subset hx)
 have hlt':=hs.lt;refine⟨⟨?_,?_,?_,?_,?_,?_,?_,?_,hu.pin.keepU hm (fun _=>⟨rfl,rfl⟩) (fun _=>rfl)⟩,hV⟩
 ·simp only[lC,List.nodup_cons,aV];exact⟨by simp[List.mem_filter],hu.keys.filter _⟩
 ·rw[hfp,List.nodup_append];refine⟨List.nodup_cons.2 ⟨hbF,hs.nd⟩,hsub.nodup hu.nodup,?_⟩;rintro x hx y hy rfl;obtain⟨z,hz,hne,hxz⟩:=hfpk x hy;rcases hnew x hx with h1|h1
  ·exact hne (bF hu.keys hu.nodup hz hm hxz h1)
  ·have:=hu.lt x (aH.2 ⟨z,hz,hxz⟩);omega
 ·intro x hx;rw[hfp]at hx;rcases List.mem_append.1 hx with hx|hx
  ·exact hlt' x hx
  ·have:=hu.lt x (hsub.subset hx);omega
 ·intro x hx hlt;rcases hall x hx with h1|h1
  ·exact hu.low x h1 hlt
  ·omega
 ·intro i hi;simp only[lC,List.mem_cons,not_or,aV]at hi;rw[hφo i hi.1];exact hu.dead i fun hmm=>hi.2 (by simp[List.mem_filter,hmm,hi.1])
 ·intro x hx;have hx:g.Sh x:=hx;obtain⟨q1,q2,q3⟩:=hu.sh x hx;exact⟨by omega,q2,fun h1=>(hall x h1).elim q3 (by omega)⟩
 ·intro x hx;rcases List.mem_cons.1 hx with rfl|hx
  ·simp only[cm];exact⟨b,F',hb,hφk,hs⟩
  ·obtain⟨hne,u,h1,h2⟩:=aQ hx;rw[h2];exact(hu.each _ h1).keepR H.toKeep (fun av hf=>.inr fun v hr=>hV av v hf hr) h1 hne (hφo _ hne) (fun x hx=>hoth _ _ h1 hne x hx) (fun x hx=>⟨hx,hSh x hx⟩)
 ·intro x hx;rw[hfp]at hx;rcases List.mem_append.1 hx with hx|hx
  ·obtain⟨ad,bv,h1,_,h3⟩:=hs;rcases List.mem_cons.1 hx with rfl|hx
   ·exact⟨_,_,h1⟩
   ·rcases h3 with⟨_,_,rfl⟩|⟨gb,cap,cur,_,rfl,h4,_⟩
    ·cases hx
    ·simp only[List.mem_singleton]at hx;subst hx;exact⟨_,_,h4⟩
  ·obtain⟨z,hz,hne,hxz⟩:=hfpk x hx;obtain⟨c,e,hc⟩:=hu.fz x (aH.2 ⟨z,hz,hxz⟩);exact⟨c,e,by rw[hoth z.1 z.2 hz hne x hxz];exact hc⟩

theorem Nv(h:At n0 S0 M0 w0 st o a w g){t u1 u2:TypeId}{sz:Nat}{p x:Operand}{A X:Ax.X}{f:St→Prop}(ho:o.op=.store t p x)(hd:o.dst=none)(hp:aU P u1 p=some A)(hx:aU P u2 x=some X)
  (hz:dv P t=some sz) {id:Nat} (eA:st.ev A=.ps id) (hq:HB (st.unit id) id sz (st.ev X) st f):o.wp P a w (dz n0 S0 M0 w0 st.n f) Q':=by
 have ep:=h.ev_ hp;have ex:=h.ev_ hx;have hs:=h.sat;have hb0:n0≤w.heap.size:=by rw[hs.base];exact hs.size
 rw[eA]at ep;unfold HB at hq
 split at hq
 ·next T E s hun=>
  obtain⟨⟨rfl,hzx⟩,hk⟩:=hq;have hm:=ay hun;have hU:=h.us.each _ hm;simp only[cm]at hU;obtain⟨b,F,k1,k2,k3⟩:=hU;simp only[ab]at ep;obtain⟨T',E',s',b',x1,x2,hv⟩:=ep;rw[k1]at x2;obtain rfl:=Option.some.inj x2;have hcs:(a.eval x).cells.toList=[.pointer none,.slice none 0 0]:=by
   unfold wC at hzx
   split at hzx
   ·next t1 t2 q e1=>
    rw[e1]at ex;simp only[ab,ah]at ex;obtain⟨xs,⟨v1,r1,rfl,q1,v2,r2,rfl,q2,rfl⟩,hv2⟩:=ex;obtain⟨F1,g1,g2,_⟩:=q1;obtain⟨F2,g3,g4,_⟩:=q2;simp only[aW]at g1;have e3:v2.cells.toList=[.slice none 0 0]:=by
     unfold aW at g3;rcases g3 with⟨p,z1,_,_,_,z2⟩|⟨_,_,_,_,_,_,_,_,_,z3,_⟩
     ·cases p with
      |none=>exact z1
      |some p=>exact absurd rfl (z2 rfl)
     ·exact absurd rfl z3
    rw[hv2];simp[Value.cells]at g1 e3⊢;rw[g1.2.1,e3]
    rfl
   ·cases hzx
  obtain⟨ad,bv,y1,y2,y3⟩:=k3;have hkfp:∀x∈b::F,x∈fp g st.us:=fun x hx=>aH.2 ⟨_,hm,by rw[k2];exact hx⟩;have hrun:=rX (P:=P) (w:=w) hz (b:=b) (off:=0) (v:=a.eval x) (by have:=congrArg List.length hcs;simpa using this) y1 (by simp) (by rw[hcs];simp[Value.oneCell']);have hc':((#[ad,bv]:Array Value).toList.take 0++(a.eval x).cells.toList++(#[ad,bv]:Array Value).toList.drop (0+2)).toArray= #[.pointer none,.slice none 0 0]:=by rw[hcs];rfl
  rw[hc']at hrun;have hr1:=setRow_heap w b #[ad,bv] #[.pointer none,.slice none 0 0] T (0,0) y1;obtain⟨hU2,hV2⟩:=h.us.sbu (h':=(w.setRow b #[.pointer none,.slice none 0 0]).heap) (s':=⟨#[]⟩) (F':=[]) hm k1 k2 (by rw[setRow_size];exact Nat.le_refl _) (fun x _ hxF=>setRow_other w b x _ (fun e=>hxF (by simp[e])))
   ⟨.pointer none,.slice none 0 0,hr1,.inl rfl,.inl ⟨rfl,rfl,rfl⟩⟩ (by simp) (by simp) hb0
  unfold Oper.wp;have hrun':(execOp a.eval o).run P w=.ok .skip (w.setRow b #[.pointer none,.slice none 0 0]):=by
   simp[execOp,ho,hv,hrun]
  rw[hrun',Oper.upon_skip,hd];refine⟨st.upd id (.sb T E ⟨#[]⟩),rfl,hk,hs.ms,hs.dfr,hs.tm,hs.base,hs.os,hs.tape,hs.output,?_,?_,_,hU2,fun t=>du (fun av v hf hr=>hV2 av v hf hr) (h.rep t)⟩
  ·rw[setRow_size];exact hs.size
  ·intro y hy hmy;rw[setRow_other w b y _ (fun e=>hmy (by subst e;exact h.us.low y (hkfp y (by simp)) hy))];exact hs.old y hy hmy
 ·exact hq.elim

end Go.Ax
namespace Go.Ax

variable {P : Program} {n0 : Nat} {S0 M0 : Nat → Prop} {w0 : World}
variable {st : St} {o : Oper} {a : Act} {w : World} {k : KQ} {Q' : Exit → Act → World → Prop} {g : Gh}

mutual
theorem uI{k:Nat}:∀{av:AV},av.refs k=false→av.soft k=false
 |.im _ _,h=>by simpa[AV.refs,AV.soft]using h
 |.cw _ _ _ _ _,h=>by simpa[AV.refs,AV.soft]using h
 |.sg _,h=>by simp only[AV.refs]at h;simp only[AV.soft];exact j7 h
 |.tup _,h=>by simp only[AV.refs]at h;simp only[AV.soft];exact j7 h
 |.cl _ _,h=>by simp only[AV.refs]at h;simp only[AV.soft];exact j7 h
 |.pq _ _ _ _ _ _,h=>by simpa[AV.refs,AV.soft]using h
 |.qs _ _ _ _ _ _,h=>by simpa[AV.refs,AV.soft]using h
 |.tr _,_=>by simp[AV.soft]
 |.pw _ _ _,_=>by simp[AV.soft]
 |.sm _ _ _,_=>by simp[AV.soft]
 |.vb _ _,_=>by simp[AV.soft]
 |.any,_=>by simp[AV.soft]
 |.ss _ _ _,_=>by simp[AV.soft]
 |.z0 _ _,_=>by simp[AV.soft]
 |.pb _ _,_=>by simp[AV.soft]
 |.ps _,_=>by simp[AV.soft]
theorem j7{k:Nat}:∀{vs:List AV},AV.refsL k vs=false→AV.softL k vs=false
 | [],_=>by simp[AV.softL]
 |v::vs,h=>by
  simp only[AV.refsL,Bool.or_eq_false_iff]at h;simp only[AV.softL,uI h.1,j7 h.2,Bool.or_self]
end

theorem vL{h:aE}{us:List (Nat×U)}{x:AV}{v:Value}(hr:ab h us g x v)(ho:iA x=true):∀c∈v.cells.toList,c.oneCell'=true:=by
 have dflt:x.one0=true→∀c∈v.cells.toList,c.oneCell'=true:=by
  intro h1 c hc;have:=kS hr h1;rw[aS this]at hc;simp at hc;subst hc;exact this
 cases x with
 |sg vs=>
  simp only[iA]at ho;simp only[ab]at hr;obtain⟨xs,h1,rfl⟩:=hr;have hfl:=fy h1 ho;intro c hc;rw[hfl]at hc;simp only[Value.cells,List.toList_toArray]at hc;have key:∀{vs:List AV} {xs:List Value},ah h us g vs xs→vs.all AV.one0=true→∀c∈xs,c.oneCell'=true:=by
   intro vs
   induction vs with
   |nil=>intro xs hr _ c hc;simp only[ah]at hr;subst hr;cases hc
   |cons v vs ih=>
    intro xs hr ho c hc;simp only[ah]at hr;obtain⟨x,r,rfl,p1,p2⟩:=hr;simp only[List.all_cons,bA]at ho;rcases List.mem_cons.1 hc with rfl|hc
    ·exact kS p1 ho.1
    ·exact ih p2 ho.2 c hc
  exact key h1 ho c hc
 |_=>exact dflt (by simpa[iA]using ho)

theorem aZ.cell{h h':aE}{us:List (Nat×U)}(hu:aZ h n0 S0 M0 us g){id:Nat}{u:U}(hm:(id,u)∈us){b:Nat}(hb:g.β id=some b)(hφ:g.φ id=[b]){c:Array Value}{e:TypeId}(h0:h'[b]?=some (.cells c e (0,0)))
  (hsz:h'.size=h.size) (hh:∀x,x≠b→h'[x]?=h[x]?) {f:AV→Bool} {k1 k2:List Nat} (hk:∀i,i∈k1∨i∈k2→i=id) (hk':id∈k1∨id∈k2) (hf:∀av,f av=false→(∀k∈k1,av.soft k=false)∧(∀k∈k2,av.refs k=false))
  {sz:Nat} {z:AV} {vz:Value} (hlike:id∈k1→fA u (.bx sz [z])) (hz:ab h us g z vz) (hzr:z.refs id=false) (hzs:vz.cells.size=sz) {rest:List Value} (hc:c.toList=vz.cells.toList++rest) (hpin:kl n0 M0 id (g.β id) (g.cap id)):
  aZ h' n0 S0 M0 ((id,.bx sz [z])::aL id f us) g∧gC k1 k2 f h h' us ((id,.bx sz [z])::aL id f us) g g:=by
 have hbfp:b∈fp g us:=aH.2 ⟨_,hm,by rw[hφ];simp⟩;have hoth:∀i v,(i,v)∈us→i≠id→∀x∈g.φ i,x≠b:=by
  rintro i v h1 h2 x hx rfl;exact h2 (bF hu.keys hu.nodup h1 hm hx (by rw[hφ];simp))
 have hSh:∀x,g.Sh x→x≠b:=fun x hx e=>(hu.sh x hx).2.2 (e▸hbfp);have K:gC k1 k2 f h h' us ((id,.bx sz [z])::aL id f us) g g:=by
  refine⟨hf,?_,fun _ _=>⟨rfl,rfl,rfl⟩,?_,?_,?_⟩
  ·intro i v hi h1 h2;have hne:i≠id:=by
    rintro rfl;exact hk'.elim h1 h2
   exact List.mem_cons_of_mem _ (cM hi hne)
  ·intro i v x hi h1 h2 hx;have hne:i≠id:=by
    rintro rfl;exact hk'.elim h1 h2
   exact hh x (hoth i v hi hne x ((hu.each _ hi).block_mem hx))
  ·intro t d F cs h1 h2 hr hok;have hne:t≠some id:=by
    rintro rfl;exact hk'.elim (fun h=>h1 id h rfl) (fun h=>h2 id h rfl)
   have hx:∀x∈F,h'[x]?=h[x]?:=by
    intro x hx;refine hh x ?_;rcases hok x hx with q|⟨i,rfl,q,_⟩
    ·exact hSh x q
    ·obtain⟨v,hv⟩:=hu.live q;exact hoth i v hv (fun e=>hne (by rw[e])) x q
   exact⟨hr.frame hx,hok⟩
  ·intro i hi;have:=hk i (.inl hi);subst this;exact⟨u,_,fun v hv=>hu.uniq hv hm,List.mem_cons_self,hlike hi⟩
 have hzn:ab h' ((id,.bx sz [z])::aL id f us) g z vz:=by
  refine ab.keepW K ?_ ?_ hz
  ·intro k hk1;have:=hk k (.inl hk1);subst this;exact uI hzr
  ·intro k hk1;have:=hk k (.inr hk1);subst this;exact hzr
 have mem:∀x∈((id,U.bx sz [z])::aL id f us),∃v,(x.1,v)∈us:=by
  intro x hx;rcases List.mem_cons.1 hx with rfl|hx
  ·exact⟨u,hm⟩
  ·obtain⟨_,v,h2,_⟩:=aQ hx;exact⟨v,h2⟩
 have hfpm:∀x,x∈fp g ((id,U.bx sz [z])::aL id f us)→x∈fp g us:=by
  intro x hx;obtain⟨y,hy,hxy⟩:=aH.1 hx;obtain⟨v,hv⟩:=mem y hy;exact aH.2 ⟨_,hv,hxy⟩
 have hkeys:(((id,U.bx sz [z])::aL id f us).map (·.1)).Nodup:=by
  simp only[lC,List.nodup_cons,aV];exact⟨by simp[List.mem_filter],hu.keys.filter _⟩
 refine⟨⟨hkeys,fo hkeys ?_ ?_,?_,fun x hx=>hu.low x (hfpm x hx),?_,?_,?_,?_,hu.pin.keep (fun _=>⟨rfl,rfl⟩) fun _=>hpin⟩,K⟩
 ·intro x hx;obtain⟨v,hv⟩:=mem x hx;exact bZ hu hv
 ·intro x hx y hy b' hbx hby;obtain⟨v,hv⟩:=mem x hx;obtain⟨v',hv'⟩:=mem y hy;exact bF (x:=(x.1,v)) (y:=(y.1,v')) hu.keys hu.nodup hv hv' hbx hby
 ·intro x hx;rw[hsz];exact hu.lt x (hfpm x hx)
 ·intro i hi;refine hu.dead i fun hmm=>hi ?_;simp only[lC,List.mem_cons,aV,List.mem_filter]
  by_cases e:i=id
  ·exact .inl e
  ·exact .inr ⟨hmm,by simpa using e⟩
 ·intro x hx;obtain⟨q1,q2,q3⟩:=hu.sh x hx;exact⟨by rw[hsz];exact q1,q2,fun hf=>q3 (hfpm x hf)⟩
 ·intro x hx;rcases List.mem_cons.1 hx with rfl|hx
  ·simp only[cm];refine⟨by simp[aT],b,c,e,[vz],rest,hb,h0,hφ,?_,by simpa using fun _=>hzs,by simpa using hc⟩;simp only[ah];exact⟨_,_,rfl,hzn,rfl⟩
  ·obtain⟨hne,v,h1,h2⟩:=aQ hx;rw[h2];have n1:x.1∉k1:=fun h=>hne (hk _ (.inl h));have n2:x.1∉k2:=fun h=>hne (hk _ (.inr h));exact(hu.each _ h1).keepW K h1 n1 n2 rfl (fun y hy=>hh y (hoth _ _ h1 hne y hy)) (fun y hy=>⟨hy,hh y (hSh y hy)⟩)
 ·intro x hx
  by_cases e':x=b
  ·subst e';exact⟨c,e,h0⟩
  ·obtain⟨c',ty,hc'⟩:=hu.fz x (hfpm x hx);exact⟨c',ty,by rw[hh x e'];exact hc'⟩

theorem yq{h h':aE}{us us':List (Nat×U)}{g g':Gh}{id:Nat}(H:∀av v,av.refs id=false→ab h us g av v→ab h' us' g' av v)(Hp:∀j v,ab h us g (.pw id 0 j) v→ab h' us' g' (.pb id j) v){t:Nat}{v:Value}:∀{env:List (Nat×AV)},
  ab h us g (lk env t) v→ab h' us' g' (lk (yr id env) t) v
 | [],_=>by simp[yr,lk,ab]
 |(k,av)::r,hr=>by
  simp only[yr,lk]at hr⊢
  split
  ·next e=>
   rw[if_pos e]at hr;unfold qH
   split
   ·next i el j=>
    split
    ·next e2=>
     subst e2
     split
     ·next e3=>subst e3;exact Hp _ _ hr
     ·simp[ab]
    ·next e2=>exact H _ _ (by simpa[AV.refs]using e2) hr
   ·split
    ·simp[ab]
    ·next e2=>exact H _ _ (by simpa using e2) hr
  ·next e=>rw[if_neg e]at hr;exact yq H Hp hr

theorem GM(h:At n0 S0 M0 w0 st o a w g){t u1 u2:TypeId}{sz:Nat}{p x:Operand}{A X:Ax.X}{f:St→Prop}(ho:o.op=.store t p x)(hd:o.dst=none)(hp:aU P u1 p=some A)(hx:aU P u2 x=some X)
  (hz:dv P t=some sz) {id el j:Nat} (eA:st.ev A=.pw id el j) (hq:Fb (st.unit id) id el j sz (st.ev X) st f):o.wp P a w (dz n0 S0 M0 w0 st.n f) Q':=by
 have ep:=h.ev_ hp;have ex:=h.ev_ hx;have hs:=h.sat;unfold Fb at hq
 split at hq
 ·next ow nn usz d hun=>
  obtain⟨⟨q1,q2,rfl,rfl,rfl,q6,q7,q8,q9⟩,hf⟩:=hq;have hm:=ay hun;rw[eA]at ep;simp only[ab]at ep;obtain⟨ow',nn',sz',es',b,r1,r2,r3,r4,hv⟩:=ep;have:=h.us.uniq r1 hm;injection this with e1 e2 e3 e4;subst e1 e2 e3 e4;have hU:=h.us.each _ hm;simp only[cm]at hU;obtain⟨_,hse,hU⟩:=hU;rcases hU with⟨z1,_⟩|⟨b',c,e,G,cs,rest,k1,k2,k3,k4,k5,k6,k7,k8⟩
  ·rw[r4]at z1;cases z1
  rw[r4]at k1;obtain rfl:=Option.some.inj k1;simp only[aK]at k6;obtain⟨F1,F2,c1,c2,rfl,rfl,k6,hF2,hc2⟩:=k6;subst hF2 hc2;have hF1:=cC q6 k6;subst hF1;have hφ:g.φ id=[b]:=by
   split at k8
   ·simpa using k8
   ·exact k8.1
  have hz':=sf ex;have hsz':=mj h.us hz' q7 q2;have hl1:=k6.length;have hds:d.size=sz':=hse d (by simp);have hcl:c.toList.length=c.size:=by simp
  have hcap:sz'≤c.size:=by
   rw[k3]at hcl;simp only[List.append_nil,lP,hl1]at hcl;omega
  have hrun:=rX (P:=P) (w:=w) hz (b:=b) (off:=0*sz'+0) (v:=a.eval x) hsz' k2 (by omega) (vL hz' q8);have hnew:(c.toList.take (0*sz'+0)++(a.eval x).cells.toList++c.toList.drop (0*sz'+0+sz')).toArray.toList=(a.eval x).cells.toList++c.toList.drop (0*sz'+0+sz'):=by simp
  obtain⟨hU',K⟩:=h.us.cell (h':=(w.setRow b (c.toList.take (0*sz'+0)++(a.eval x).cells.toList++c.toList.drop (0*sz'+0+sz')).toArray).heap) hm r4 hφ (setRow_heap w b c _ e _ k2) (setRow_size _ _ _) (fun y hy=>setRow_other w b y _ hy)
   (f:=AV.refs id) (k1:=[]) (k2:=[id]) (by simp) (by simp) (fun av hf=>⟨by simp,by simpa using hf⟩) (sz:=sz') (z:=dP (st.ev X)) (by simp) hz' q9 hsz' hnew
   (by
    rcases q1 with rfl|q1
    ·exact h.us.pin.at hm rfl
    ·exact kl.low q1)
  have hrep:∀t,ab (w.setRow b (c.toList.take (0*sz'+0)++(a.eval x).cells.toList++c.toList.drop (0*sz'+0+sz')).toArray).heap ((id,U.bx sz' [dP (st.ev X)])::aL id (AV.refs id) st.us) g (lk (yr id st.env) t) (a.tmps.getD t undef):=fun t=>yq (fun av v hf hr=>ab.keepW K (by simp) (by simpa using hf) hr) (fun j v hr=>by
   simp only[ab]at hr⊢;obtain⟨_,_,_,_,b2,p1,_,_,p4,p5⟩:=hr;exact⟨_,_,b2,List.mem_cons_self,p4,by simpa using p5⟩) (h.rep t)
  unfold Oper.wp;have hrun':(execOp a.eval o).run P w=.ok .skip (w.setRow b (c.toList.take (0*sz'+0)++(a.eval x).cells.toList++c.toList.drop (0*sz'+0+sz')).toArray):=by
   have hr2:=hrun;simp only[Nat.zero_mul,Nat.add_zero,Nat.zero_add,List.take_zero,List.nil_append]at hr2;simp[execOp,ho,hv,hr2]
  rw[hrun',Oper.upon_skip,hd];refine⟨st.cvt id (.bx sz' [dP (st.ev X)]),rfl,hf,hs.ms,hs.dfr,hs.tm,hs.base,hs.os,hs.tape,hs.output,?_,?_,g,hU',hrep⟩
  ·rw[setRow_size];exact hs.size
  ·intro y hy hmy;have:y≠b:=by
    rintro rfl;exact hmy (h.us.low y (aH.2 ⟨_,hm,by rw[hφ];simp⟩) hy)
   rw[setRow_other w b y _ this];exact hs.old y hy hmy
 ·exact hq.elim

theorem GT(h:At n0 S0 M0 w0 st o a w g){t u1 u2:TypeId}{sz:Nat}{p x:Operand}{A X:Ax.X}{f:St→Prop}(ho:o.op=.store t p x)(hd:o.dst=none)(hp:aU P u1 p=some A)(hx:aU P u2 x=some X)
  (hz:dv P t=some sz) {id j:Nat} (eA:st.ev A=.pb id j) (hq:FT (st.unit id) id j sz (st.ev X) st f):o.wp P a w (dz n0 S0 M0 w0 st.n f) Q':=by
 have ep:=h.ev_ hp;have ex:=h.ev_ hx;have hs:=h.sat;unfold FT at hq
 split at hq
 ·next usz y hun=>
  obtain⟨⟨q0,q2,q7,q8,q9,q10⟩,hq⟩:=hq;have hm:=ay hun;rw[eA]at ep;simp only[ab]at ep;obtain⟨sz',items',b,r1,r4,hv⟩:=ep;have:=h.us.uniq r1 hm;injection this with e1 e2;subst e1 e2;have hU:=h.us.each _ hm;simp only[cm]at hU;obtain⟨_,b',c,e,vs,rest,k1,k2,hφ,k4,k5,k6⟩:=hU;rw[r4]at k1;obtain rfl:=Option.some.inj k1;simp only[ah]at k4;obtain⟨vy,r,rfl,hy,rfl⟩:=k4;have hys:=k5 q0 vy (by simp);have hc:c.toList=vy.cells.toList++rest:=by simpa using k6
  have hxs:=mj h.us ex q7 q2;have hcl:c.toList.length=c.size:=by simp
  have hcs:c.size=sz'+rest.length:=by rw[←hcl,hc];simp[hys]

  have fin:∀(z:AV)(vz:Value),ab w.heap st.us g z vz→z.refs id=false→vz.cells.size=sz'→j+sz≤sz'→vz.cells.toList=vy.cells.toList.take j++(a.eval x).cells.toList++vy.cells.toList.drop (j+sz)→f (st.upd id (.bx sz' [z]))→o.wp P a w (dz n0 S0 M0 w0 st.n f) Q':=by
   intro z vz hz1 hz2 hz3 hj hz4 hf;have hrun:=rX (P:=P) (w:=w) hz (b:=b) (off:=j) (v:=a.eval x) hxs k2 (by omega) (vL ex q8);have hnew:(c.toList.take j++(a.eval x).cells.toList++c.toList.drop (j+sz)).toArray.toList=vz.cells.toList++rest:=by
    have l1:vy.cells.toList.length=sz':=by simpa using hys
    simp only[hz4,hc];rw[List.take_append_of_le_length (by omega),List.drop_append_of_le_length (by omega)];simp
   obtain⟨hU',K⟩:=h.us.cell (h':=(w.setRow b (c.toList.take j++(a.eval x).cells.toList++c.toList.drop (j+sz)).toArray).heap) hm r4 hφ (setRow_heap w b c _ e _ k2) (setRow_size _ _ _) (fun y hy=>setRow_other w b y _ hy)
    (f:=AV.soft id) (k1:=[id]) (k2:=[]) (by simp) (by simp) (fun av hf=>⟨by simpa using hf,by simp⟩) (sz:=sz') (z:=z) (fun _=>by simp[fA]) hz1 hz2 hz3 hnew (h.us.pin.at hm rfl)
   unfold Oper.wp;have hrun':(execOp a.eval o).run P w=.ok .skip (w.setRow b (c.toList.take j++(a.eval x).cells.toList++c.toList.drop (j+sz)).toArray):=by
    simp[execOp,ho,hv,hrun]
   rw[hrun',Oper.upon_skip,hd];refine⟨st.upd id (.bx sz' [z]),rfl,hf,hs.ms,hs.dfr,hs.tm,hs.base,hs.os,hs.tape,hs.output,?_,?_,g,hU',fun t=>du K.rep (h.rep t)⟩
   ·rw[setRow_size];exact hs.size
   ·intro y hy hmy;have:y≠b:=by
     rintro rfl;exact hmy (h.us.low y (aH.2 ⟨_,hm,by rw[hφ];simp⟩) hy)
    rw[setRow_other w b y _ this];exact hs.old y hy hmy
  unfold xN at hq
  split at hq
  ·next hc1=>
   obtain⟨rfl,rfl⟩:=hc1;refine fin (st.ev X) (a.eval x) ex q9 hxs (by omega) ?_ hq;have:vy.cells.toList.drop (0+sz)=[]:=List.drop_eq_nil_of_le (by simp[hys]);rw[this];simp
  ·split at hq
   ·rename_i ys _
    obtain⟨⟨p1,p2,rfl,p4⟩,hf⟩:=hq;simp only[ab]at hy;obtain⟨xs,hxs',rfl⟩:=hy;have hfl:=fy hxs' p1;have hl:=f7 hxs';have hone:=kS ex p4;have hset:∀{vs:List AV} {xs:List Value} {j:Nat},ah w.heap st.us g vs xs→ah w.heap st.us g (vs.set j (st.ev X)) (xs.set j (a.eval x)):=by
     intro vs
     induction vs with
     |nil=>intro xs j hr;simp only[ah]at hr;subst hr;simp[ah]
     |cons v vs ih=>
      intro xs j hr;simp only[ah]at hr;obtain⟨x0,r,rfl,a1,a2⟩:=hr;cases j with
      |zero=>simp only[List.set_cons_zero,ah];exact⟨_,_,rfl,ex,a2⟩
      |succ j=>simp only[List.set_cons_succ,ah];exact⟨_,_,rfl,a1,ih a2⟩
    have hall2:(ys.set j (st.ev X)).all AV.one0=true:=by
     rw[List.all_eq_true]at p1⊢;intro v hv;rcases List.mem_or_eq_of_mem_set hv with h|h
     ·exact p1 v h
     ·rw[h];exact p4
    have hfl2:=fy (hset (j:=j) hxs') hall2;have hyr:AV.refsL id (ys.set j (st.ev X))=false:=by
     have hr0:AV.refsL id ys=false:=by simpa[AV.refs]using q10
     have:∀{l:List AV} {j:Nat},AV.refsL id l=false→AV.refsL id (l.set j (st.ev X))=false:=by
      intro l
      induction l with
      |nil=>intro j h;simpa using h
      |cons v l ih=>
       intro j h;simp only[AV.refsL,Bool.or_eq_false_iff]at h;cases j with
       |zero=>simp only[List.set_cons_zero,AV.refsL,q9,h.2,Bool.or_self]
       |succ j=>simp only[List.set_cons_succ,AV.refsL,h.1,ih h.2,Bool.or_self]
     exact this hr0
    have hsz1:xs.length=sz':=by
     rw[hfl]at hys;simpa[Value.cells]using hys
    refine fin (.sg (ys.set j (st.ev X))) (.agg ((xs.set j (a.eval x)).map (·.cells.toList)).flatten.toArray) (by simp only[ab];exact⟨_,hset hxs',rfl⟩) (by simpa[AV.refs]using hyr) (by rw[hfl2];simp[Value.cells,hsz1]) (by omega) ?_ hf;have e3:∀l:List Value,(Value.agg l.toArray).cells.toList=l:=fun l=>by simp[Value.cells]
    have hcx:(a.eval x).cells.toList=[a.eval x]:=by rw[aS hone]
    rw[hfl,hfl2,e3,e3,hcx];rw[List.set_eq_take_append_cons_drop,if_pos (by omega)];simp
   ·exact hq.elim
 ·exact hq.elim

theorem OZ(h:At n0 S0 M0 w0 st o a w g){t u1 u2:TypeId}{sz:Nat}{p x:Operand}{A X:Ax.X}{f:St→Prop}(ho:o.op=.store t p x)(hd:o.dst=none)(hp:aU P u1 p=some A)(hx:aU P u2 x=some X)
  (hz:dv P t=some sz) (hq:yW (st.ev A) (st.ev X) st sz f):o.wp P a w (dz n0 S0 M0 w0 st.n f) Q':=by
 unfold yW at hq
 split at hq
 ·next id el j e1=>
  split at hq
  ·exact GM h ho hd hp hx hz e1 hq
  ·exact Hl h ho hd hp hx hz (by rw[e1];exact hq)
 ·next e1=>exact Hl h ho hd hp hx hz (by rw[e1];exact hq)
 ·next id j e1=>exact GT h ho hd hp hx hz e1 hq
 ·next id e1=>exact Nv h ho hd hp hx hz e1 hq
 ·exact hq.elim

end Go.Ax
namespace Go.Ax

variable {P : Program} {n0 : Nat} {S0 M0 : Nat → Prop} {w0 : World}
variable {st : St} {o : Oper} {a : Act} {w : World} {k : KQ} {Q' : Exit → Act → World → Prop} {g : Gh}

theorem DA{wv:Wv}{d sz:Nat}{z:D}{l:Nat}{ps:List (Nat×X)}:(uf wv d sz z l ps).dst=some d:=by
 unfold uf
 split<;>rfl
theorem Da{wv:Wv}{d sz:Nat}{z:D}{l:Nat}{ps:List (Nat×X)}(h:¬(wv=.sb∧sz=3)):(uf wv d sz z l ps).isQ=true:=by
 unfold uf
 split
 ·rfl
 ·exact absurd ⟨rfl,rfl⟩ h
 ·rfl
theorem NB{wv:Wv}(h:At n0 S0 M0 w0 st o a w g){t e:TypeId}{len d sz:Nat}{ps:Array (Nat×Operand)}{z:D}{L:List (Nat×X)}(ho:o.op=.buildSlice t len ps)(ht:P.underlying t=some (.slice e))
  (hs:dv P e=some sz) (hz:dE P e=some z) (hL:ps.toList.mapM (fun(i,x)=>do pure (i,←aU P e x))=some L)
  (hq:uo P (uf wv d sz z len L) st.ev st.unit k):o.wp P a w (cQ n0 S0 M0 w0 st o.dst k) Q':=by
 unfold uf at hq
 split at hq
 ·obtain⟨q1,hk⟩:=hq;have hps:ps= #[]:=by
   obtain⟨_,b2⟩:=ov h ps.toList [] hL;have:ps.toList=[]:=by simpa using b2.symm
   apply Array.ext'
   simpa using this
  subst hps;have hs0:=h.sat;have hb0:n0≤w.heap.size:=by rw[hs0.base];exact hs0.size
  unfold dv at hs;cases hinf:P.info? e with
  |none=>simp[hinf]at hs
  |some inf=>
   unfold dE at hz;rw[hinf]at hz
   dsimp only at hz
   split at hz
   ·next zv hzv=>
    obtain⟨hU,hV⟩:=h.us.wide (h':=w.heap.push (.cells #[] e (0,0))) (by simp) (fun b hb=>eu hb) hb0 [] (by simp);have hrun:(execOp a.eval o).run P w=.ok (.value (.slice (some ⟨w.heap.size,0,none⟩) 0 0)) (w.alloc (.cells #[] e)):=by
     simp[execOp,ho,Instr.buildSlice,run_underlying ht,sizeOf,typeInfo,hinf,newRow,Instr.fill];congr 2
     try (apply Array.ext';simp)
    unfold Oper.wp;rw[hrun];refine⟨_,[],hk,fun _=>?_⟩;rw[dL];have hS:dH n0 S0 M0 w0 st a (w.alloc (.cells #[] e)):=by
     refine⟨hs0.ms,hs0.dfr,hs0.tm,hs0.base,hs0.os,hs0.tape,hs0.output,?_,?_,_,hU,fun t=>hV _ _ (h.rep t)⟩
     ·have:=hs0.size
      show _≤(w.heap.push _).size
      simp;omega
     ·intro b hb hm;have:(w.heap.push (.cells #[] e (0,0)))[b]?=w.heap[b]?:=eu (by omega);exact this.trans (hs0.old b hb hm)
    refine cY hS hU (fun t=>hV _ _ (h.rep t)) (fun i hi=>h.dst i hi) ?_;simp only[ab];exact⟨_,rfl,by simp,by simp⟩
   ·cases hz
 ·exact hq.elim
 ·exact V0 h ho ht hs hz hL hq

theorem sC{h:aE}{us:List (Nat×U)}{g:Gh}:∀{items:List AV} {bs:List UInt8} {vs:List Value},il items=some bs→ah h us g items vs→
  ∃ns:List Int,vs=ns.map (Value.int .u8)∧bs=ns.map fun n=>UInt8.ofNat n.toNat
 | [],bs,vs,hb,hv=>by
  simp only[il,oS]at hb;simp only[ah]at hv;subst hb hv;exact⟨[],rfl,rfl⟩
 |x::r,bs,vs,hb,hv=>by
  simp only[ah]at hv;obtain⟨v,vr,rfl,h1,h2⟩:=hv;simp only[il]at hb
  split at hb
  ·next b br e1 e2=>
   simp only[oS]at hb;subst hb;obtain⟨ns,rfl,rfl⟩:=sC e2 h2;unfold DJ at e1
   split at e1
   ·next t n=>
    simp only[oS]at e1;subst e1;have:=c9 h1;exact⟨n::ns,by simp[this],by simp⟩
   ·cases e1
  ·cases hb

theorem zK(ns:List Int):∀s:ByteArray,ns.foldl (fun r n=>r.push (UInt8.ofNat n.toNat)) s=⟨s.data++(ns.map fun n=>UInt8.ofNat n.toNat).toArray⟩:=by
 induction ns with
 |nil=>intro s;simp
 |cons n ns ih=>
  intro s;simp only[List.foldl_cons,ih,lC];congr 1
  apply Array.ext'
  simp[ByteArray.push]

theorem BB:∀ns:List Int,((ns.map (Value.int .u8)).map (·.cells.toList)).flatten=ns.map (Value.int .u8)
 | []=>rfl
 |n::ns=>by
  have:=BB ns;simp only[lC,List.flatten_cons,this]
  rfl

theorem Pq(h:At n0 S0 M0 w0 st o a w g){s t e:TypeId}{x:Operand}{X:Ax.X}(ho:o.op=.convert s t x)(hx:aU P s x=some X)(hs:P.underlying s=some (.slice e))(ht:P.underlying t=some .string)(hu:EK P e=true)
  (hq:vU (st.ev X) st.unit k):o.wp P a w (cQ n0 S0 M0 w0 st o.dst k) Q':=by
 have ex:=h.ev_ hx;have he:P.underlying e=some (.int .u8):=by
  unfold EK at hu
  split at hu
  ·next k hk=>
   have:k=.u8:=by simpa using hu
   subst this;exact hk
  ·cases hu
 unfold vU at hq
 split at hq
 ·next id len e1=>
  rw[e1]at ex;unfold yb at hq
  split at hq
  ·next sz items hun=>
   obtain⟨⟨rfl,rfl⟩,hk⟩:=hq;unfold Ar at hk
   split at hk
   ·next bs hb=>
    have hm:=ay hun;have hU:=h.us.each _ hm;simp only[cm]at hU;obtain⟨_,b,c,ty,vs,rest,r1,r2,r3,r4,r5,r6⟩:=hU;simp only[ab]at ex;obtain⟨sz',items',b',x1,x2,x3,x4⟩:=ex;rw[r1]at x3;obtain rfl:=Option.some.inj x3;obtain⟨ns,rfl,rfl⟩:=sC hb r4;have hlen:items.length=ns.length:=by
     have:∀{items:List AV} {vs:List Value},ah w.heap st.us g items vs→vs.length=items.length:=by
      intro items
      induction items with
      |nil=>intro vs hv;simp only[ah]at hv;simp[hv]
      |cons y items ih=>intro vs hv;simp only[ah]at hv;obtain⟨v,r,rfl,_,h2⟩:=hv;simp[ih h2]
     have:=this r4;simpa using this.symm
    have hfl:=BB ns;rw[hfl]at r6;have hload:(loadCells ⟨b,0,none⟩ items.length).run P w=.ok (ns.map (Value.int .u8)).toArray w:=by
     have:=run_loadCells_list (P:=P) (w:=w) ⟨b,0,none⟩ (ns.map (Value.int .u8)) (fun j v hj=>by
      rw[Addr.add_lit,cell_of_row w b _ c ty (0,0) r2];have hj':c.toList[j]?=some v:=by
       rw[r6,List.getElem?_append_left]
       ·exact hj
       ·exact(List.getElem?_eq_some_iff.1 hj).1
      simpa using hj')
     simpa[hlen]using this
    have hrun:(execOp a.eval o).run P w=.ok (.value (.string ⟨(ns.map fun n=>UInt8.ofNat n.toNat).toArray⟩)) w:=by
     have h1:=run_convert_bytes_string (P:=P) w s t e (some ⟨b,0,none⟩) items.length items.length hs he ht;have h2:=run_bytesToString (P:=P) w ⟨b,0,none⟩ items.length items.length ns hload;rw[zK]at h2;simp[execOp,ho,x4,h1,h2]
     try rfl
    exact h.pure_ hrun (dl rfl) hk
   ·exact hk.elim
  ·exact hq.elim
 ·exact hq.elim

end Go.Ax
namespace Go.Ax

variable {P : Program} {n0 : Nat} {S0 M0 : Nat → Prop} {w0 : World}
variable {st : St} {o : Oper} {a : Act} {w : World} {k : KQ} {Q' : Exit → Act → World → Prop} {g : Gh}

theorem Cr{d:Nat}{e:TypeId}{r:ff}(h:nQ P d e=some r):r.isQ=true:=by
 unfold nQ at h
 split at h
 ·injection h with h;subst h;rfl
 ·simp only[oD,oB,oP,oS]at h;obtain⟨s,hs,z,hz,rfl⟩:=h
  rfl

theorem FI{e E:TypeId}(h:Jt P e=some E):∃i,P.info? e=some i∧i.zero=some (.agg #[.pointer none,.slice none 0 0])∧P.underlying E=some (.int .u8):=by
 unfold Jt at h
 split at h
 ·next fs i h1 h2=>
  split at h
  ·next f0 f1 h3=>
   split at h
   ·next t E' h4 h5=>
    split at h
    ·next hc=>
     injection h with h;subst h;simp only[bA]at hc;refine⟨i,h2,?_,?_⟩
     ·have hz:=hc.2;unfold vu at hz
      split at hz
      ·next cs hcs=>
       split at hz
       ·next l c hl=>
        simp only[bA,beq_iff_eq]at hz;obtain⟨rfl,rfl⟩:=hz;rw[hcs];congr 2
        apply Array.ext'
        simpa using hl
       ·cases hz
      ·cases hz
     ·have hu:=hc.1.2;unfold EK at hu
      split at hu
      ·next k hk=>
       have:k=.u8:=by simpa using hu
       subst this;exact hk
      ·cases hu
    ·cases h
   ·cases h
  ·cases h
 ·cases h

theorem Iy(h:At n0 S0 M0 w0 st o a w g){e:TypeId}{d:Nat}{r:ff}(ho:o.op=.alloc e)(hr:nQ P d e=some r)(hq:uo P r st.ev st.unit k):
  o.wp P a w (cQ n0 S0 M0 w0 st o.dst k) Q'∧r.dst=some d:=by
 unfold nQ at hr
 split at hr
 ·next E hE=>
  injection hr with hr;subst hr;obtain⟨hlow,hk⟩:=hq;obtain⟨i,hi,hz,_⟩:=FI hE;refine⟨?_,rfl⟩;refine fi h (c:= #[.pointer none,.slice none 0 0]) (e:=e) (v:=.pointer (some ⟨w.heap.size,0,none⟩)) [w.heap.size] 1 ?_ rfl ?_ ?_ hk (fun _=>hlow)
  ·simp[execOp,ho,Instr.alloc,zeroValue,typeInfo,hi,hz,newVar,newRow,Value.cells]
  ·intro _;simp only[cm,b9];exact⟨w.heap.size,[],rfl,rfl,.pointer none,.slice none 0 0,dW _ _,.inl rfl,.inl ⟨rfl,rfl,rfl⟩⟩
  ·intro _;simp only[ab];exact⟨_,_,_,w.heap.size,List.mem_cons_self,by simp[b9],rfl⟩
 ·simp only[oD,oB,oP,oS]at hr;obtain⟨s,hs,z,hz,rfl⟩:=hr;exact⟨Nh h ho hz hq,rfl⟩

end Go.Ax
