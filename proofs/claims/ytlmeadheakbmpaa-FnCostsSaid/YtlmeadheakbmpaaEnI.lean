/- THE ENGINE, PART 9: a generator of conditions over the register code, and its soundness. No condition. -/
import Derived.Test.YtlmeadheakbmpaaEnH
import Derived.KernelRfl
import Derived.ProofKit
set_option linter.all false
namespace Go.Ax
variable {P:Program}{wv:Wv}{n0:Nat}{S0 M0:Nat→Prop}{w0:World}
def tc:Nat→List D→List (Nat×AV)
 |_,[]=>[]
 |i,d::ds=>(i,.im none d)::tc (i+1) ds
def iz(n:Nat)(ds:List D):St:=⟨n,tc 0 ds,[]⟩
mutual
def D.bd:D→Prop
 |.ag ds=>D.ub ds
 |.ls _ sz ds=>ds.length≤gz∧(∀d∈ds,d.size=sz)∧D.ub ds
 |.pt d _=>d.bd
 |.lc _ _ d=>d.bd
 |_=>True
def D.ub:List D→Prop
 | []=>True
 |d::ds=>d.bd∧D.ub ds
end
variable {h:jv}
mutual
def gJ.bd:∀{d F cs},gJ h d F cs→d.bd
 |.sc _,_,_,_=>by simp[D.bd]
 |.jk,_,_,_=>by simp[D.bd]
 |.fn _ _,_,_,_=>by simp[D.bd]
 |.ag ds,_,_,hr=>by simp only[gJ]at hr;simp only[D.bd];exact gt.bd hr.2
 |.ls _ _ ds,_,_,hr=>by
  simp only[gJ]at hr;simp only[D.bd];rcases hr with⟨_,_,rfl,_⟩|⟨b,off,cap,c,e,fr,F',_,_,_,_,h1,_,_,h2,h3⟩
  simp[D.ub];exact⟨h1,h2,gt.bd h3⟩
 |.pt _ _,_,_,hr=>by
  simp only[gJ]at hr;obtain⟨b,off,c,e,fr,F',_,_,_,_,_,h⟩:=hr;simp only[D.bd];exact gJ.bd h
 |.lc _ _ _,_,_,hr=>by
  simp only[gJ]at hr;simp only[D.bd];exact gJ.bd hr.2
def gt.bd:∀{ds F cs},gt h ds F cs→D.ub ds
 | [],_,_,_=>by simp[D.ub]
 |d::ds,_,_,hr=>by
  simp only[gt]at hr;obtain⟨F1,F2,c1,c2,rfl,rfl,h1,h2⟩:=hr;simp only[D.ub];exact⟨gJ.bd h1,gt.bd h2⟩
end
variable {jL:Nat→Prop}
def GM:∀{ds:List D} {vs:List Value},je h jL ds vs→D.ub ds
 | [],_,_=>by simp[D.ub]
 |d::ds,vs,hr=>by
  simp only[je]at hr;obtain⟨v,r,F,rfl,h1,_,_,h2⟩:=hr;simp only[D.ub];exact⟨h1.bd,GM h2⟩
def Kc:∀{ds:List D} {vs:List Value},je h jL ds vs→vs.length=ds.length
 | [],vs,hr=>by simp only[je]at hr;simp[hr]
 |d::ds,vs,hr=>by
  simp only[je]at hr;obtain⟨v,r,F,rfl,_,_,_,h2⟩:=hr;simp[Kc h2]
variable {g:Gh}
def JM{us:List (Nat×U)}(hg:∀b,b<h.size→jL b→g.Sh b):∀{ds:List D} {vs:List Value} (i:Nat),je h jL ds vs→∀t,
  (∀d,lk (tc i ds) t=d→d=.any∨∃v,vs[t-i]?=some v∧i≤t∧fN h us g d v)
 | [],_,i,_,t=>by intro d hd;simp[tc,lk]at hd;exact .inl hd.symm
 |d::ds,vs,i,hr,t=>by
  simp only[je]at hr;obtain⟨v,r,F,rfl,h1,h2,h3,h4⟩:=hr;intro e he;simp only[tc,lk]at he
  split at he
  ·next hi=>
   subst hi;subst he;exact .inr ⟨v,by simp,aw _,by simp only[fN];exact⟨F,h1,h2,fun b hb=>.inl (hg b (h1.lt b hb) (h3 b hb))⟩⟩
  next hi=>
  rcases JM hg (i+1) h4 t e he with h|⟨v',hv,hle,hr⟩
  exact .inl h;refine .inr ⟨v',?_,by omega,hr⟩;rw[show t-i=(t-(i+1))+1 by omega];simpa using hv
variable {ds:List D}{vs:List Value}{n:Nat}
def Pf{w:World}(ha:je w.heap jL ds vs)(hn:ds.length≤n):
  k9 w.heap.size jL (fun _=>False) w (iz n ds) {tmps:=vs.toArray++Array.replicate (n-vs.toArray.size) undef,defers:=[]} w:=by
 have hl:=Kc ha;refine⟨fun _ _ h=>h.elim,rfl,by simp[iz];omega,rfl,rfl,rfl,rfl,aw _,fun _ _ _=>rfl,?_⟩
 let g:Gh:=⟨fun _=>none,fun _=>[],fun _=>undef,fun _=>0,fun b=>b<w.heap.size∧jL b⟩
 refine⟨g,⟨by simp[iz],by simp[iz,fp],by simp[iz,fp],by simp[iz,fp],fun _ _=>rfl,fun b hb=>⟨hb.1,fun _=>hb.2,by simp[iz,fp]⟩,by simp[iz],by simp[iz,fp],by intro k v _ h;simp[iz]at h⟩,fun t=>?_⟩;rcases JM (us:=[]) (g:=g) (fun b h1 h2=>⟨h1,h2⟩) 0 ha t _ rfl with h|⟨v,hv,_,hr⟩
 simp only[iz];rw[h];simp[fN];have iq:t<vs.length:=(bj.1 hv).1;have e:(vs.toArray++Array.replicate (n-vs.toArray.size) undef).getD t undef=v:=by
  rw[bM,Array.getElem?_append_left (by simpa using iq)];simp at hv;simp[hv]
 rw[e];exact hr
inductive RV where
 |t (n:Nat)
 |c (n sz:Nat) (agg:Bool)
def CR(P:Program):ResultVar→Option RV
 |.tmp t=>some (.t t)
 |.cell a t=>do let s←kx P t;let g←tQ P t;guard ((g||s==1)=true);pure (.c a s g)
def rvK(st:St)(x:RV)(k:AV→Prop):Prop:=
 match x with
 |.t n=>k (st.get n)
 |.c n sz agg=>FM (st.get n) st.unit agg sz (fun av _=>k av)
def wR(st:St):List RV→(List AV→Prop)→Prop
 | [],k=>k []
 |x::xs,k=>rvK st x fun av=>wR st xs fun avs=>k (av::avs)
def SR(d:D)(k:St→Prop)(own:Bool)(d':D)(gp:St):Prop:=own=true∧d'.Le d∧k gp
def HA(d:D)(k:St→Prop)(_own:Bool)(d':D)(gp:St):Prop:=d'.Le d∧k gp
def oM(st:St)(v:AV)(k:KT):Prop:=
 match v with
 |.vb i len=>js 12 st (.vb i len) k
 |v=>io st v k
def FY:GK (n0:=n0) (S0:=S0) (M0:=M0) oM:=by
 intro _ _ _ _ h0 av _ _ _ _ T hr hk;cases av with
 |vb i len=>exact rR 12 h0 T hr hk
 |_=>exact nP h0 T hr hk
def OL(un:Nat→Option U):AV→Option D
 |.im none d=>some d
 |.im (some _) d=>if d.gl=true then some d else none
 |.vb id len=>match un id with|some (.bx sz items)=>if len=items.length then(match w7 sz items with|some ds=>some (.ls (some false) sz ds)|none=>none)else none|_=>none
 |_=>none
def AV.afN:AV→Bool
 |.vb _ _=>true
 |_=>false
def XL(q:Option D)(k:D→Prop):Prop:=match q with|some d=>k d|none=>False
def ui(st:St)(a:AV)(k:D→St→Prop):Prop:=
 match a with
 |.vb i len=>XL (OL st.unit (.vb i len)) fun d=>k d (st.del i)
 |a=>XL (OL st.unit a) fun d=>k d st
def yL(st:St):List AV→(List D→St→Prop)→Prop
 | [],k=>k [] st
 |a::r,k=>ui st a fun d xM=>yL xM r fun ds KX=>k (d::ds) KX
def J6(d:D)(k:St→Prop)(ds:List D)(st:St):Prop:=XL (sgD ds) fun d'=>d'.Le d∧k st
def yo(st:St)(av:AV)(d:D)(k:St→Prop):Prop:=
 match av with
 |.sg vs=>if vs.any AV.afN=true then yL st vs (J6 d k)else io st (.sg vs) (HA d k)
 |.vb i len=>ui st (.vb i len) fun d' gp=>d'.Le d∧k gp
 |av=>io st av (HA d k)
def WH(st:St)(av:AV)(r:ud)(k:St→Prop):Prop:=
 match r with
 |.own d=>oM st av (SR d k)
 |.sh d=>yo st av d k
 |_=>False
def uE:List AV→List ud→St→Prop
 | [],[],_=>True
 |av::avs,r::rs,st=>WH st av r (uE avs rs)
 |_,_,_=>False
def L7(u:Option U)(sz len:Nat)(es:List D):Prop:=match u with|some (.ar true nn gV es')=>nn=some false∧gV=sz∧es'=es∧len=es.length|_=>False
def Yv(un:Nat→Option U)(sz:Nat)(es:List D):List AV→Prop
 | [.sm id 0 len]=>L7 (un id) sz len es
 |_=>False
def Gc(u:Option U)(d:D):Prop:=match u with|some (.ar false _ _ es)=>es=[d]|_=>False
def aa3(un:Nat→Option U)(d:D):List AV→Prop
 | [.pw id 0 0]=>Gc (un id) d
 |_=>False
def zI(xs:List RV)(st:St)(r:ud)(avs:List AV):Prop:=
 match r with
 |.lf rs=>xs.length≠1∧uE avs rs st
 |.arr sz es=>xs.length=1∧Yv st.unit sz es avs
 |.bxs d=>xs.length=1∧aa3 st.unit d avs
 |r=>xs.length=1∧uE avs [r] st
def QP(xs:List RV)(r:ud)(st:St):Prop:=wR st xs (zI xs st r)
def Hy(xs:List RV)(r:ud)(e:Exit)(st:St):Prop:=
 match e with
 |.normal=>QP xs r st
 |.ret=>QP xs r st
 |_=>False
def D.Le.refl(d:D):d.Le d:=⟨fun _ _ _ h=>h,fun _ h=>h⟩
variable {av:AV}{d:D}{g0:Gh}{tm:Nat→Value}{st xM:St}{v:Value}
def ae3(T:jK h n0 S0 M0 xM st tm g0 g)(g9:∀i l,av≠.vb i l)(hr:fN h xM.us g0 av v)(hd:OL st.unit av=some d):
  ∃F,gJ h d F v.cells.toList∧d.fits v∧∀b∈F,g.Sh b:=by
 unfold OL at hd
 split at hd
 ·next d'=>
  obtain rfl:=aD hd;simp only[fN]at hr;obtain⟨F,r1,r2,r3⟩:=hr;exact⟨F,r1,r2,fun b hb=>T.sh b (ni (r3 b hb))⟩
 ·next i d'=>
  split at hd
  ·next hp=>
   obtain rfl:=aD hd;simp only[fN]at hr;obtain⟨F,r1,r2,r3⟩:=hr;have:=jC hp r1;subst this;exact⟨[],r1,r2,by simp⟩
  cases hd
 ·next id len=>exact absurd rfl (g9 id len)
 cases hd
variable {len:Nat}
def afg(T:jK h n0 S0 M0 xM st tm g0 g){id:Nat}(hr:fN h xM.us g0 (.vb id len) v)(hd:OL st.unit (.vb id len)=some d):
  ∃F,gJ h d F v.cells.toList∧d.fits v∧DK g (g.drop id) st.us (st.del id).us F:=by
 simp only[OL]at hd
 split at hd
 ·next sz items jm=>
  split at hd
  ·next hlen=>
   split at hd
   ·next ds ot=>
    obtain rfl:=aD hd;simp only[fN]at hr;obtain⟨gV,iT,b,r1,r2,r3,rfl⟩:=hr;have hm:=f7 jm;obtain⟨gb,_,_⟩:=T.gh _ _ hm;have ho:=T.us.each _ hm;simp only[jn]at ho;obtain⟨nJ,b',c,e,vs,rest,k1,k2,k3,k4,k5,k6⟩:=ho;rw[gb,r3]at k1;obtain rfl:=aD k1;obtain⟨F,p1,p2,p3,p4⟩:=Hj k4 ot;have hl:=p1.length;rw[D.gk p2]at hl;have Cd:b∈g.φ id:=by rw[k3];simp
    refine⟨b::F,?_,rfl,fun x hx=>?_⟩
    ·unfold gJ;have sC:ds.length*sz≤c.size:=by
      have:c.toList.length=c.size:=by simp
      rw[k6,lP]at this;omega
     refine .inr ⟨b,0,len,c,e,(0,0),F,by simp[Value.cells,p3,hlen],rfl,by simp,by omega,by omega,k2,by rw[p3,←hlen]at sC;omega,p2,?_⟩;rw[aJ,k6,bZ hl];exact p1
    rcases ab.1 hx with rfl|hx
    exact .inr ⟨gn.2 ⟨_,hm,Cd⟩,sQ T.us hm x Cd⟩;exact .inl (p4 x hx)
   cases hd
  cases hd
 cases hd
def Fx{g:Gh}(T:jK h n0 S0 M0 xM st tm g0 g){k:D→St→Prop}(hr:fN h xM.us g0 av v)(hk:ui st av k):
  ∃d gp g' F,k d gp∧jK h n0 S0 M0 xM gp tm g0 g'∧gJ h d F v.cells.toList∧d.fits v∧DK g g' st.us gp.us F∧(∀b,g'.Sh b↔g.Sh b)∧∀b,b∈fp g' gp.us→b∈fp g st.us:=by
 unfold ui at hk
 split at hk
 ·next i len=>
  unfold XL at hk
  split at hk
  ·next d hd=>
   obtain⟨F,r1,r2,r3⟩:=afg T hr hd;exact⟨d,st.del i,g.drop i,F,hk,T.del i,r1,r2,r3,fun _=>bw,fun b hb=>(kw (g:=g) (g':=g.drop i) (fun j hj=>by simp[Gh.drop,hj])).subset hb⟩
  exact hk.elim
 next g9=>
 unfold XL at hk
 split at hk
 ·next d hd=>
  obtain⟨F,r1,r2,r3⟩:=ae3 T (fun i l e=>g9 i l e) hr hd;exact⟨d,st,g,F,hk,T,r1,r2,fun b hb=>.inl (r3 b hb),fun _=>bw,fun _ hb=>hb⟩
 exact hk.elim
def I6:∀{avs:List AV} {vs:List Value} {st:St} {g:Gh} {k:List D→St→Prop},jK h n0 S0 M0 xM st tm g0 g→fT h xM.us g0 avs vs→yL st avs k→
  ∃ds gp g' F,k ds gp∧jK h n0 S0 M0 xM gp tm g0 g'∧gt h ds F (vs.map (·.cells.toList)).flatten∧DK g g' st.us gp.us F∧(∀b,g'.Sh b↔g.Sh b)∧∀b,b∈fp g' gp.us→b∈fp g st.us
 | [],vs,st,g,k,T,hr,hk=>by
  simp only[fT]at hr;subst hr;exact⟨[],st,g,[],hk,T,by simp[gt],by simp[DK],fun _=>bw,fun _ hb=>hb⟩
 |av::avs,vs,st,g,k,T,hr,hk=>by
  simp only[fT]at hr;obtain⟨v,r,rfl,h1,h2⟩:=hr;simp only[yL]at hk;obtain⟨d,sta,ga,F1,hk,Ta,r1,_,s1,q1,f1⟩:=Fx T h1 hk;obtain⟨ds,stb,gb,F2,hk,Tb,r2,s2,q2,f2⟩:=I6 Ta h2 hk;refine⟨d::ds,stb,gb,F1++F2,hk,Tb,?_,fun b hb=>?_,fun b=>(q2 b).trans (q1 b),fun b hb=>f1 b (f2 b hb)⟩;simp only[lC,bV,jX];exact⟨F1,F2,_,_,rfl,rfl,r1,r2⟩;rcases an.1 hb with hb|hb
  ·rcases s1 b hb with h|⟨h,h'⟩
   exact .inl h;exact .inr ⟨h,fun h3=>h' (f2 b h3)⟩
  rcases s2 b hb with h|⟨h,h'⟩
  exact .inl ((q1 b).1 h);exact .inr ⟨f1 b h,h'⟩
def abl(T:jK h n0 S0 M0 xM st tm g0 g){vs:List AV}{p:St→Prop}(hr:fN h xM.us g0 (.sg vs) v)(hk:yL st vs (J6 d p)):
  ∃gp g' F,p gp∧jK h n0 S0 M0 xM gp tm g0 g'∧gJ h d F v.cells.toList∧d.fits v∧DK g g' st.us gp.us F∧(∀b,g'.Sh b↔g.Sh b)∧∀b,b∈fp g' gp.us→b∈fp g st.us:=by
 simp only[fN]at hr;obtain⟨xs,h1,rfl⟩:=hr;obtain⟨ds,gp,g',F,hk,T',r1,s1,q1,f1⟩:=I6 T h1 hk;unfold J6 XL at hk
 split at hk
 ·next d' hd=>
  unfold sgD at hd
  split at hd
  ·next iy=>
   obtain rfl:=aD hd;have jQ:gJ h (.ag ds) F (Value.agg (xs.map (·.cells.toList)).flatten.toArray).cells.toList:=by
    simp only[gJ];rw[aM]at iy;refine⟨fun d hd=>?_,by simpa[Value.cells]using r1⟩;have:=iy d hd;simpa using this
   exact⟨gp,g',F,hk.2,T',hk.1.1 _ _ _ jQ,hk.1.2 _ (by simp[D.fits,Value.cells]),s1,q1,f1⟩
  cases hd
 exact hk.elim
def yb(h0:gQ h n0 S0 M0 xM.us g0):∀{avs:List AV} {vs:List Value} {rs:List ud} {st:St} {g:Gh},jK h n0 S0 M0 xM st tm g0 g→fT h xM.us g0 avs vs→uE avs rs st→
  ∃F G,ke h rs F G vs∧F.Nodup∧(∀b∈F,¬g.Sh b∧b∈fp g st.us∧b∉G)∧∀b∈G,g.Sh b∨b∈fp g st.us
 | [],vs,rs,st,g,T,hr,hk=>by
  simp only[fT]at hr;subst hr;cases rs with
  |nil=>exact⟨[],[],by simp[ke],bp,by simp,by simp⟩
  |cons=>simp[uE]at hk
 |av::avs,vs,rs,st,g,T,hr,hk=>by
  simp only[fT]at hr;obtain⟨v,BG,rfl,hv,Ln⟩:=hr;cases rs with
  |nil=>simp[uE]at hk
  |cons r rs=>
   simp only[uE]at hk;unfold WH at hk
   split at hk
   ·next d=>
    obtain⟨own,d',gp,g',F1,⟨rfl,hle,mM⟩,T',r1,r2,⟨o1,_⟩,o4,j7⟩:=FY h0 T hv hk;obtain⟨on,o2⟩:=o1 rfl;obtain⟨F2,G2,p1,p2,p3,p4⟩:=yb h0 T' Ln mM;refine⟨F1++F2,G2,?_,?_,?_,?_⟩
    ·simp only[ke];exact⟨F1,F2,[],G2,v,BG,rfl,rfl,rfl,by simp only[jr];exact⟨trivial,hle.1 _ _ _ r1,hle.2 _ r2⟩,p1⟩
    ·refine aX.2 ⟨on,p2,fun x hx y hy e=>?_⟩;subst e;exact(o2 x hx).2.2.1 (p3 x hy).2.1
    ·intro b hb;rcases an.1 hb with hb|hb
     ·obtain⟨_,q1,q2,q3⟩:=o2 b hb;refine⟨fun hs=>q1 ((o4 b).2 hs),q3,fun hg=>?_⟩;rcases p4 b hg with h|h
      exact q1 h;exact q2 h
     obtain⟨q1,q2,q3⟩:=p3 b hb;exact⟨fun hs=>q1 ((o4 b).2 hs),j7 b q2,q3⟩
    intro b hb;rcases p4 b hb with h|h
    exact .inl ((o4 b).1 h);exact .inr (j7 b h)
   ·next d=>
    have byX:(∃gp g' F,uE avs rs gp∧jK h n0 S0 M0 xM gp tm g0 g'∧gJ h d F v.cells.toList∧d.fits v∧DK g g' st.us gp.us F∧(∀b,g'.Sh b↔g.Sh b)∧∀b,b∈fp g' gp.us→b∈fp g st.us)→∃F G,ke h (.sh d::rs) F G (v::BG)∧F.Nodup∧(∀b∈F,¬g.Sh b∧b∈fp g st.us∧b∉G)∧∀b∈G,g.Sh b∨b∈fp g st.us:=by
     rintro⟨gp,g',F1,mM,T',r1,r2,o1,o4,j7⟩;obtain⟨F2,G2,p1,p2,p3,p4⟩:=yb h0 T' Ln mM;refine⟨F2,F1++G2,?_,p2,?_,?_⟩
     ·simp only[ke];exact⟨[],F2,F1,G2,v,BG,rfl,rfl,rfl,by simp only[jr];exact⟨trivial,r1,r2⟩,p1⟩
     ·intro b hb;obtain⟨q1,q2,q3⟩:=p3 b hb;refine⟨fun hs=>q1 ((o4 b).2 hs),j7 b q2,fun hm=>?_⟩;rcases an.1 hm with hm|hm
      ·rcases o1 b hm with h|⟨_,h⟩
       exact q1 ((o4 b).2 h);exact h q2
      exact q3 hm
     intro b hb;rcases an.1 hb with hb|hb
     ·rcases o1 b hb with h|⟨h,_⟩
      exact .inl h;exact .inr h
     rcases p4 b hb with h|h
     exact .inl ((o4 b).1 h);exact .inr (j7 b h)
    have byA:io st av (HA d (uE avs rs))→∃F G,ke h (.sh d::rs) F G (v::BG)∧F.Nodup∧(∀b∈F,¬g.Sh b∧b∈fp g st.us∧b∉G)∧∀b∈G,g.Sh b∨b∈fp g st.us:=by
     intro hk;obtain⟨own,d',gp,g',F1,⟨hle,mM⟩,T',r1,r2,⟨o1,o2⟩,o4,j7⟩:=nP h0 T hv hk;obtain⟨F2,G2,p1,p2,p3,p4⟩:=yb h0 T' Ln mM;refine⟨F2,F1++G2,?_,p2,?_,?_⟩
     ·simp only[ke];exact⟨[],F2,F1,G2,v,BG,rfl,rfl,rfl,by simp only[jr];exact⟨trivial,hle.1 _ _ _ r1,hle.2 _ r2⟩,p1⟩
     ·intro b hb;obtain⟨q1,q2,q3⟩:=p3 b hb;refine⟨fun hs=>q1 ((o4 b).2 hs),j7 b q2,fun hm=>?_⟩;rcases an.1 hm with hm|hm
      ·cases own with
       |true=>exact((o1 rfl).2 b hm).2.2.1 q2
       |false=>exact q1 (o2 rfl b hm)
      exact q3 hm
     intro b hb;rcases an.1 hb with hb|hb
     ·cases own with
      |true=>exact .inr ((o1 rfl).2 b hb).2.2.2
      |false=>exact .inl ((o4 b).1 (o2 rfl b hb))
     rcases p4 b hb with h|h
     exact .inl ((o4 b).1 h);exact .inr (j7 b h)
    unfold yo at hk
    split at hk
    ·split at hk
     exact byX (abl T hv hk);exact byA hk
    ·next i len=>
     obtain⟨d',gp,g',F,hk,T',r1,r2,o1,o4,j7⟩:=Fx T hv hk;exact byX ⟨gp,g',F,hk.2,T',hk.1.1 _ _ _ r1,hk.1.2 _ r2,o1,o4,j7⟩
    exact byA hk
   exact hk.elim
def KI(tmps:Array Value):ResultVar→Sem Value
 |.tmp t=>pure (tmps.getD t undef)
 |.cell a t=>do loadVar t (←asAddr (tmps.getD a undef))
def PQ{t:TypeId}{r:Value}{w:World}(h:(Instr.loadAt t v).run P w=.ok r w)(hp:∃a,v=.pointer (some a)):((asAddr v>>=fun a=>loadVar t a)).run P w=.ok r w:=by
 obtain⟨a,rfl⟩:=hp;simpa[Instr.loadAt,Instr.sureAddr,asAddr]using h
variable {agg:Bool}{us:List (Nat×U)}{sz:Nat}{un:Nat→Option U}
def Yi{k:KQ}(hr:fN h us g av v)(hq:FM av un agg sz k):∃a,v=.pointer (some a):=by
 unfold FM at hq
 split at hq
 ·simp only[fN,gJ]at hr;obtain⟨F,⟨b,off,c,e,fr,F',r1,_⟩,f1,_⟩:=hr;rw[gD (by simpa[D.fits]using f1)]at r1;exact⟨_,by simpa using r1⟩
 ·simp only[fN,gJ]at hr;obtain⟨F,⟨_,b,off,c,e,fr,F',r1,_⟩,f1,_⟩:=hr;rw[gD (by simpa[D.fits]using f1)]at r1;exact⟨_,by simpa using r1⟩
 simp only[fN]at hr;obtain⟨_,_,_,_,_,_,_,_,_,hv⟩:=hr;exact⟨_,hv⟩;simp only[fN]at hr;obtain⟨_,_,_,_,_,_,_,_,_,_,_,_,_,_,_,_,_,hv⟩:=hr;exact⟨_,hv⟩;simp only[fN]at hr;obtain⟨_,_,_,_,_,hv⟩:=hr;exact⟨_,hv⟩;exact hq.elim
def B6{w:World}{tmps:Array Value}(hu:gQ w.heap n0 S0 M0 st.us g)(hv:∀t,fN w.heap st.us g (lk st.env t) (tmps.getD t undef)):∀{l:List ResultVar} {xs:List RV} {k:List AV→Prop},
  l.mapM (CR P)=some xs→wR st xs k→∃avs vs,(l.mapM (KI tmps)).run P w=.ok vs w∧fT w.heap st.us g avs vs∧k avs∧vs.length=l.length
 | [],xs,k,hl,hk=>by
  simp at hl;subst hl;exact⟨[],[],by simp,by simp[fT],hk,rfl⟩
 |x::l,xs,k,hl,hk=>by
  simp only[da,oD,oB,oP,oS]at hl;obtain⟨x',hx,xs',zf,rfl⟩:=hl;simp only[wR]at hk;have one:∀{k:AV→Prop},rvK st x' k→∃av v,(KI tmps x).run P w=.ok v w∧fN w.heap st.us g av v∧k av:=by
   intro k hk;cases x with
   |tmp t=>
    simp only[CR,oS]at hx;subst hx;exact⟨_,_,by simp[KI],hv t,hk⟩
   |cell a t=>
    simp only[CR,oD,oB,oP,oS,fP]at hx;obtain⟨s,hs,agg,W3,_,h1,rfl⟩:=hx;simp only[rvK]at hk;obtain⟨av,v,h2,h3,h4⟩:=GX (P:=P) (w:=w) hu hs W3 (by intro e;simpa[e]using h1) (hv a) hk;exact⟨av,v,PQ h2 (Yi (hv a) hk),h3,h4⟩
  obtain⟨av,v,h1,h2,h3⟩:=one hk;obtain⟨avs,vs,h4,h5,h6,h7⟩:=B6 hu hv zf h3;refine⟨av::avs,v::vs,?_,?_,h6,by simp[h7]⟩;rw[da];simp[bS,h1,h4,Result.andThen];simp only[fT];exact⟨v,vs,rfl,h2,h5⟩
variable {fn:Func}
def w9{tmps:Array Value}{w:World}(h:(fn.results.toList.mapM (KI tmps)).run P w=.ok vs w):
  (results fn tmps).run P w=.ok (if h:vs.length=1 then vs[0]else .tuple vs.toArray) w:=by
 have e:results fn tmps=(do let vs←fn.results.mapM (KI tmps);pure (if h:vs.size=1 then vs[0]else .tuple vs)):=by
  unfold results;congr 1
 rw[e,Array.mapM_eq_mapM_toList];simp[bS,h,Result.andThen]
def vX:∀{us:List (Nat×U)} {k:Nat} {u:U},lu us k=some u→(k,u)∈us
 | [],_,_,h=>by cases h
 |(i,v)::r,k,u,h=>by
  simp only[lu]at h
  split at h
  ·next e=>subst e;cases h;exact bD
  exact bg _ (vX h)
variable {c:Code}{f:Nat}
def OD{xs:List RV}{ds:List D}{r:ud}(hf : P.funcs[f]? = some fn)(hb : fn.body = some c)(sG : (fn.name == "runtime.NumGoroutine") = false)
  (zf:fn.results.toList.mapM (CR P)=some xs) (hn:ds.length≤fn.ntmps)
  (hq:D.ub ds→∀(n0:Nat)(S0 M0:Nat→Prop)(w0:World)(a:Act)(w:World),k9 n0 S0 M0 w0 (iz fn.ntmps ds) a w→c.wp P (fun e a' w'=>∃st,Hy xs r e st∧k9 n0 S0 M0 w0 st a' w') a w):AF P f ds r:=by
 refine⟨⟨fn,hf,by simp[hb],sG⟩,fun w vs jL ha=>?_⟩;refine calls_of_wp hf hb ?_;have hs:=Pf ha hn;refine cQ (hq (GM ha) _ _ _ _ _ _ hs) ?_;rintro e a' w' ⟨st,hk,nL⟩;have hxl:xs.length=fn.results.toList.length:=(yQ zf);have key:QP xs r st→a'.defers=[]∧∃v,(results fn a'.tmps).run P w'=.ok v w'∧
   (∃v' F G,Ending.returned v=.returned v'∧Go.RowKit.Below w.heap.size w w'∧jr w'.heap r F G v'∧F.Nodup∧(∀b∈F,w.heap.size≤b∧b∉G∧t7 w'.heap b)∧∀b∈G,(w.heap.size≤b∧b<w'.heap.size)∨jL b):=by
  intro hk;refine⟨nL.v8,?_⟩;obtain⟨g,hu,hv⟩:=nL.gh;obtain⟨avs,BG,h1,h2,h3,h4⟩:=B6 (P:=P) hu hv zf hk;refine⟨_,w9 h1,?_⟩;have hB:Go.RowKit.Below w.heap.size w w':=⟨nL.os,nL.tape,nL.output,nL.size,fun k hk=>nL.jL k hk (by simp)⟩;have fin:∀{rs:List ud},uE avs rs st→∃F G,ke w'.heap rs F G BG∧F.Nodup∧(∀b∈F,w.heap.size≤b∧b∉G∧t7 w'.heap b)∧∀b∈G,(w.heap.size≤b∧b<w'.heap.size)∨jL b:=by
   intro rs hL;obtain⟨F,G,q1,q2,q3,q4⟩:=yb hu (jK.refl hu hv) h2 hL;have ge:∀b,b∈fp g st.us→w.heap.size≤b:=fun b hb=>fG fun iq=>hu.low b hb iq;refine⟨F,G,q1,q2,fun b hb=>⟨ge b (q3 b hb).2.1,(q3 b hb).2.2,hu.fz b (q3 b hb).2.1⟩,fun b hb=>?_⟩;rcases q4 b hb with h|h
   ·obtain⟨p1,p2,_⟩:=hu.sh b h
    by_cases iq:b<w.heap.size;exact .inr (p2 iq)
    exact .inl ⟨by omega,p1⟩
   exact .inl ⟨ge b h,hu.lt b h⟩
  have single:∀{r:ud},uE avs [r] st→xs.length=1→∃v' F G,Ending.returned (if h:BG.length=1 then BG[0]else .tuple BG.toArray)=.returned v'∧Go.RowKit.Below w.heap.size w w'∧jr w'.heap r F G v'∧F.Nodup∧(∀b∈F,w.heap.size≤b∧b∉G∧t7 w'.heap b)∧∀b∈G,(w.heap.size≤b∧b<w'.heap.size)∨jL b:=by
   intro r hL BP;obtain⟨F,G,q1,q2,q3,q4⟩:=fin hL;simp only[ke]at q1;obtain⟨F1,F2,G1,G2,v,ws,rfl,rfl,rfl,hr,hF2,hG2,hws⟩:=q1;subst hF2;subst hG2;subst hws;exact⟨v,F1,G1,by simp,hB,hr,by simpa using q2,by simpa using q3,by simpa using q4⟩
  unfold zI at h3
  split at h3
  ·next rs=>
   obtain⟨F,G,q1,q2,q3,q4⟩:=fin h3.2;refine⟨_,F,G,by rw[dif_neg (by rw[h4,←hxl];exact h3.1)],hB,?_,q2,q3,q4⟩;simp only[jr];exact⟨_,rfl,by simpa using q1⟩
  ·next sz es=>
   obtain⟨BP,hV⟩:=h3;unfold Yv at hV
   split at hV
   ·next id len=>
    unfold L7 at hV
    split at hV
    ·next nn gV es' jm=>
     obtain⟨rfl,rfl,rfl,rfl⟩:=hV;have hm:=vX jm;simp only[fT]at h2;obtain⟨v,r,rfl,R5,rfl⟩:=h2;obtain⟨q1,q2,q3⟩:=hu.each _ hm;rcases q3 with⟨_,_,_,Sf⟩|⟨b,c,e,G,cs,rest,p1,p2,p3,p4,p5,p6,p7,p8⟩
     exact absurd rfl Sf;simp only[ay]at p8;simp only[fN]at R5;obtain⟨ow,nn,Lr,es2,BI,hle,hv3⟩:=R5;have El:=hu.uniq hm BI;cases El;have nK:∀x∈b::G,x∈fp g st.us:=fun x hx=>gn.2 ⟨_,hm,by rw[p8];exact hx⟩;rcases hv3 with⟨b',xI,rfl⟩|⟨Sf,_⟩
     ·rw[p1]at xI;cases xI;refine⟨_,b::G,[],by simp;rfl,hB,?_,?_,fun x hx=>⟨fG fun iq=>hu.low x (nK x hx) iq,by simp,hu.fz x (nK x hx)⟩,by simp⟩
      ·simp only[jr];exact⟨trivial,q1,q2,b,c,e,G,cs,rest,g.cap id,by simp,rfl,p2,p3,p4,p5,p6⟩
      have hq:=hu.nodup;have:(g.φ id).Nodup:=iZ hu hm;rw[p8]at this;exact this
     rw[p1]at Sf;cases Sf
    exact hV.elim
   exact hV.elim
  ·next d _=>
   obtain⟨BP,hV⟩:=h3;unfold aa3 at hV
   split at hV
   ·next id=>
    unfold Gc at hV
    split at hV
    ·next nn gV es' jm=>
     subst hV;have hm:=vX jm;simp only[fT]at h2;obtain⟨v,r,rfl,R5,rfl⟩:=h2;obtain⟨q1,q2,q3⟩:=hu.each _ hm;rcases q3 with⟨_,Sf,_⟩|⟨b,c,e,G,cs,rest,p1,p2,p3,p4,p5,p6,p7,p8⟩
     cases Sf;simp only[mI,aA]at p8;simp only[fN]at R5;obtain⟨ow,nn,Lr,es2,b',BI,OT,Ek,xI,hv3⟩:=R5;have El:=hu.uniq hm BI;cases El;rw[p1]at xI;cases xI;have hd:d.size=gV:=q2 d (by simp);simp only[gt]at p6;obtain⟨F1,F2,x1,x2,rfl,rfl,p6,rfl,rfl⟩:=p6;have afO:b∈fp g st.us:=gn.2 ⟨_,hm,by rw[p8.1];simp⟩;refine⟨_,[b],F1,by simp;rfl,hB,?_,by simp,fun x hx=>?_,fun x hx=>?_⟩
     ·simp only[jr];exact⟨by omega,b,c,e,x1,rest,g.cap id,by rw[hv3];simp,rfl,p2,by simpa using p3,by rw[hd];exact p4,by simpa using p5,p6⟩
     ·rw[au.1 hx];exact⟨fG fun iq=>hu.low b afO iq,fun hx=>(hu.sh b (p8.2 b (by simp[hx]))).2.2 afO,hu.fz b afO⟩
     obtain⟨z1,z2,_⟩:=hu.sh x (p8.2 x (by simp[hx]))
     by_cases iq:x<w.heap.size;exact .inr (z2 iq)
     exact .inl ⟨by omega,z1⟩
    exact hV.elim
   exact hV.elim
  exact single h3.2 h3.1
 cases e with
 |normal=>exact key hk
 |ret=>exact key hk
 |exit i=>exact hk.elim
 |goto l=>exact hk.elim
 |panic c=>exact hk.elim
 |outgrown=>exact hk.elim
def ahk{rc:RC}{xs:List RV}{ds:List D}{r:ud}(hm : P.follows .mixedOrders = true)(hf : P.funcs[f]? = some fn)(hb : fn.body = some c)(sG : (fn.name == "runtime.NumGoroutine") = false)
  (fM:sM P wv fn.ntmps c=some rc) (zf:fn.results.toList.mapM (CR P)=some xs) (hn:ds.length≤fn.ntmps) (hq:D.ub ds→sN P rc (iz fn.ntmps ds) (Hy xs r)):AF P f ds r:=
 OD hf hb sG zf hn fun hd n0 S0 M0 w0 a w hs=>cQ (vI hm c rc (iz fn.ntmps ds) _ a w fM hs (hq hd)) fun _ _ _ ⟨st,_,hk,nL⟩=>⟨st,hk,nL⟩
def acY{rc:RC}{xs:List RV}{ds:List D}{r:ud}(hm : P.follows .mixedOrders = true)(hf : P.funcs[f]? = some fn)(hb : fn.body = some c)(sG : (fn.name == "runtime.NumGoroutine") = false)
  (fM:sM P wv fn.ntmps c=some rc) (zf:fn.results.toList.mapM (CR P)=some xs) (hn:ds.length≤fn.ntmps) (hq:D.ub ds→sN P rc (iz fn.ntmps ds) (fun e st=>∃gp,gO st gp∧Hy xs r e gp)):AF P f ds r:=
 OD hf hb sG zf hn fun hd n0 S0 M0 w0 a w hs=>cQ (vI hm c rc (iz fn.ntmps ds) _ a w fM hs (hq hd)) fun _ _ _ ⟨_,_,⟨gp,hE,hk⟩,nL⟩=>⟨gp,hk,hE _ _ _ _ _ _ nL⟩
def mX(P:Program)(wv:Wv)(f:Nat):Option (Nat×RC×List RV):=do
 let fn←P.funcs[f]?
 let c←fn.body
 guard (!(fn.name == "runtime.NumGoroutine") = true)
 let rc←sM P wv fn.ntmps c
 let xs←fn.results.toList.mapM (CR P)
 pure (fn.ntmps,rc,xs)
def il(P:Program)(f:Nat):Option (Nat×RC×List RV):=mX P .no f
variable {xs:List RV}{rc:RC}{r:ud}
def w4{P:Program}{wv:Wv}(h:mX P wv f=some (n,rc,xs))(hm:Mx P)(hn:decide (ds.length≤n)=true)(hq:D.ub ds→sN P rc (iz n ds) (Hy xs r)):AF P f ds r:=by
 unfold mX at h;simp only[oD,oB,oP,oS,fP,cW]at h;obtain⟨fn,hf,c,hb,_,sG,rc',fM,xs',zf,rfl,rfl,rfl⟩:=h;exact ahk hm hf hb (by simpa using sG) fM zf (by simpa using hn) hq
def fY{P:Program}(h:il P f=some (n,rc,xs))(hm:Mx P)(hn:decide (ds.length≤n)=true)(hq:D.ub ds→sN P rc (iz n ds) (Hy xs r)):AF P f ds r:=
 w4 h hm hn hq
def De{P:Program}{wv:Wv}(h:mX P wv f=some (n,rc,xs))(hm:Mx P){r:ud}(hn:decide (ds.length≤n)=true)
  (hq:D.ub ds→sN P rc (iz n ds) (fun e st=>∃gp,gO st gp∧Hy xs r e gp)):AF P f ds r:=by
 unfold mX at h;simp only[oD,oB,oP,oS,fP,cW]at h;obtain⟨fn,hf,c,hb,_,sG,rc',fM,xs',zf,rfl,rfl,rfl⟩:=h;exact acY hm hf hb (by simpa using sG) fM zf (by simpa using hn) hq
variable {i:Nat}
def nr:tc i []=[]:=rfl
def mm:tc i (d::ds)=(i,.im none d)::tc (i+1) ds:=rfl
def xl:iz n ds=⟨n,tc 0 ds,[]⟩:=rfl
def J5:Hy xs r .normal st=QP xs r st:=rfl
def Uo:Hy xs r .ret st=QP xs r st:=rfl
def QT:Hy xs r (.exit i) st=False:=rfl
def ZC:QP xs r st=wR st xs (zI xs st r):=rfl
def UL{k:List AV→Prop}:wR st [] k=k []:=rfl
attribute [go_sem] nr mm xl J5 Uo QT ZC UL
variable {x:RV}
def Q6{k:List AV→Prop}:wR st (x::xs) k=rvK st x fun av=>wR st xs fun avs=>k (av::avs):=rfl
def ahl{k:AV→Prop}:rvK st (.t n) k=k (st.get n):=rfl
def agW{k:AV→Prop}:rvK st (.c n sz agg) k=FM (st.get n) st.unit agg sz (fun av _=>k av):=rfl
attribute [go_sem] Q6 ahl agW
variable {avs:List AV}
def WJ:zI [x] st (.own d) avs=uE avs [.own d] st:=by simp[zI]
def YF:zI [x] st (.sh d) avs=uE avs [.sh d] st:=by simp[zI]
def VN:zI [x] st (.bxs d) avs=aa3 st.unit d avs:=by simp[zI]
def abA{id:Nat}:aa3 un d [.pw id 0 0]=Gc (un id) d:=rfl
attribute [go_sem] WJ YF VN abA
variable {u u':Option U}
@[congr] def ahn(h:u=u'):Gc u d=Gc u' d:=by rw[h]
variable {es:List D}{nn:Option Bool}
def Vj:Gc (some (.ar false nn sz es)) d=(es=[d]):=rfl
def Tg:zI [x] st (.arr sz es) avs=Yv st.unit sz es avs:=by simp[zI]
def Z0{id:Nat}:Yv un sz es [.sm id 0 len]=L7 (un id) sz len es:=rfl
@[congr] def aiY(h:u=u'):L7 u sz len es=L7 u' sz len es:=by rw[h]
attribute [go_sem] Vj Tg Z0
variable {gV:Nat}
def aaK{es':List D}:L7 (some (.ar true nn gV es')) sz len es=(nn=some false∧gV=sz∧es'=es∧len=es.length):=rfl
attribute [go_sem] aaK
variable {rs:List ud}
def UP{y:RV}:zI (x::y::xs) st (.lf rs) avs=uE avs rs st:=by simp[zI]
def U3:uE [] [] st=True:=rfl
def P9:uE (av::avs) (r::rs) st=WH st av r (uE avs rs):=rfl
def Vu{k:St→Prop}:WH st av (.own d) k=oM st av (SR d k):=rfl
attribute [go_sem] UP U3 P9 Vu
variable {gp:St}
@[congr] def af1{v v':AV}{k:KT}(h:st=gp)(h':v=v'):oM st v k=oM gp v' k:=by rw[h,h']
def Q3{k:KT}:oM st (.vb i len) k=js 12 st (.vb i len) k:=rfl
attribute [go_sem] Q3
variable {t:Option Nat}
def Q9{k:KT}:oM st (.im t d) k=io st (.im t d) k:=rfl
def P0{k:KT}:oM st (.tr i) k=io st (.tr i) k:=rfl
def Qw{off:Nat}{k:KT}:oM st (.sm i off len) k=io st (.sm i off len) k:=rfl
def RU{el j:Nat}{k:KT}:oM st (.cw i el j sz agg) k=io st (.cw i el j sz agg) k:=rfl
def Q0{vs:List AV}{k:KT}:oM st (.sg vs) k=io st (.sg vs) k:=rfl
def YU{k:St→Prop}:WH st av (.sh d) k=yo st av d k:=rfl
def WF{e:D}{k:St→Prop}:yo st (.im t e) d k=io st (.im t e) (HA d k):=rfl
def Tp{k:St→Prop}:yo st (.tr i) d k=io st (.tr i) (HA d k):=rfl
def TY{off:Nat}{k:St→Prop}:yo st (.sm i off len) d k=io st (.sm i off len) (HA d k):=rfl
def UB{el j:Nat}{k:St→Prop}:yo st (.cw i el j sz agg) d k=io st (.cw i el j sz agg) (HA d k):=rfl
def WU{k:St→Prop}:yo st (.vb i len) d k=ui st (.vb i len) fun d' gp=>d'.Le d∧k gp:=rfl
def U8{vs:List AV}{k:St→Prop}:yo st (.sg vs) d k=if vs.any AV.afN=true then yL st vs (J6 d k)else io st (.sg vs) (HA d k):=rfl
def P3{k:D→St→Prop}:ui st (.vb i len) k=XL (OL st.unit (.vb i len)) fun d=>k d (st.del i):=rfl
def PI{k:D→St→Prop}:ui st (.im t d) k=XL (OL st.unit (.im t d)) fun d=>k d st:=rfl
def Ww{k:D→Prop}:XL (some d) k=k d:=rfl
def Rf{k:List D→St→Prop}:yL st [] k=k [] st:=rfl
def Lu{a:AV}{r:List AV}{k:List D→St→Prop}:yL st (a::r) k=ui st a fun d xM=>yL xM r fun ds KX=>k (d::ds) KX:=rfl
def VB{k:St→Prop}:J6 d k ds st=XL (sgD ds) fun d'=>d'.Le d∧k st:=rfl
attribute [go_sem] Q9 P0 Qw RU Q0 YU WF Tp TY UB WU U8 P3 PI Ww Rf Lu VB
attribute [go_sem] OL AV.afN sgD
def Yr{k:St→Prop}{own:Bool}{d':D}:SR d k own d' gp=(own=true∧d'.Le d∧k gp):=rfl
def aak{k:St→Prop}{own:Bool}{d':D}:HA d k own d' gp=(d'.Le d∧k gp):=rfl
def LG:D.Le d d=True:=eq_true (D.Le.refl d)
attribute [go_sem] Yr aak LG
def D.Le.gH{a b:Value}(h:a=b):D.Le (.sc a) (.sc b):=h▸D.Le.refl _
def pV:Nat→List AV→List (Nat×AV)
 |_,[]=>[]
 |i,a::as=>(i,a)::pV (i+1) as
def stW(n:Nat)(us:List U)(as:List AV):St:=⟨n,pV 0 as,jc 0 us⟩
def FH:∀{as:List AV} {vs:List Value} (i:Nat),fT h us g as vs→∀t,
  (∀d,lk (pV i as) t=d→d=.any∨∃v,vs[t-i]?=some v∧i≤t∧fN h us g d v)
 | [],_,i,_,t=>by intro d hd;simp[pV,lk]at hd;exact .inl hd.symm
 |a::as,vs,i,hr,t=>by
  simp only[fT]at hr;obtain⟨v,r,rfl,h1,h4⟩:=hr;intro e he;simp only[pV,lk]at he
  split at he
  ·next hi=>
   subst hi;subst he;exact .inr ⟨v,by simp,aw _,h1⟩
  next hi=>
  rcases FH (i+1) h4 t e he with h|⟨v',hv,hle,hr⟩
  exact .inl h;refine .inr ⟨v',?_,by omega,hr⟩;rw[show t-i=(t-(i+1))+1 by omega];simpa using hv
def Ft:∀{as:List AV} {vs:List Value},fT h us g as vs→vs.length=as.length
 | [],vs,hr=>by simp only[fT]at hr;simp[hr]
 |a::as,vs,hr=>by
  simp only[fT]at hr;obtain⟨v,r,rfl,_,h2⟩:=hr;simp[Ft h2]
def adg(n0:Nat)(us:List U)(g:Gh)(b:Nat):Prop:=
 (b<n0∧b∈fp g (jc 0 us))∨(∃k v,k<us.length∧g.β (3000000000+k)=some v∧b=n0+(16*v+k))∨(∃k,k<us.length∧b=n0+(16*g.cap (3000000000+k)+(8+k)))
variable {as:List AV}
def DV{w:World}{us:List U}(hW:QX w.heap jL us g)(ha:fT w.heap (jc 0 us) g as vs)(hn:as.length≤n)(h8:us.length≤8):
  k9 w.heap.size (fun b=>jL b∨b∈fp g (jc 0 us)) (adg w.heap.size us g) w (stW n us as) {tmps:=vs.toArray++Array.replicate (n-vs.toArray.size) undef,defers:=[]} w:=by
 have hl:=Ft ha;refine⟨fun b hb hm=>?_,rfl,by simp[stW];omega,rfl,rfl,rfl,rfl,aw _,fun _ _ _=>rfl,g,⟨qH,hW.nodup,hW.lt,fun b hb iq=>.inl ⟨iq,hb⟩,hW.dead,fun b hb=>⟨(hW.sh b hb).1,fun _=>.inl (hW.sh b hb).2.1,(hW.sh b hb).2.2⟩,hW.each,hW.fz,?_⟩,fun t=>?_⟩
 ·rcases hm with⟨_,h⟩|⟨k,v,_,_,rfl⟩|⟨k,_,rfl⟩
  exact .inr h;omega;omega
 ·intro k v hk _;refine⟨fun hm=>?_,fun hm _=>?_⟩
  ·rcases hm with⟨h,_⟩|⟨k',v',mM,h,e⟩|⟨k',mM,e⟩
   omega
   ·have:k'=k:=by omega
    subst this;have:v'=v:=by omega
    subst this;exact h
   omega
  rcases hm with⟨h,_⟩|⟨k',v',mM,h,e⟩|⟨k',mM,e⟩
  omega;omega;have:k'=k:=by omega
  subst this;omega
 rcases FH 0 ha t _ rfl with h|⟨v,hv,_,hr⟩
 simp only[stW];rw[h];simp[fN];have iq:t<vs.length:=(bj.1 hv).1;have e:(vs.toArray++Array.replicate (n-vs.toArray.size) undef).getD t undef=v:=by
  rw[bM,Array.getElem?_append_left (by simpa using iq)];simp at hv;simp[hv]
 rw[e];exact hr
def bdU:U→Prop
 |.ar _ _ _ es=>D.ub es
 |.own d=>d.bd
 |.bx _ _=>True
 |.sb _ _ _=>True
def JY:List U→Prop
 | []=>True
 |u::r=>bdU u∧JY r
def bdA:AV→Prop
 |.im _ d=>d.bd
 |_=>True
def LU:List AV→Prop
 | []=>True
 |a::r=>bdA a∧LU r
def NQ:∀{as:List AV} {vs:List Value},fT h us g as vs→LU as
 | [],_,_=>by simp[LU]
 |a::as,vs,hr=>by
  simp only[fT]at hr;obtain⟨v,r,rfl,h1,h2⟩:=hr;refine⟨?_,NQ h2⟩;cases a with
  |im t d=>simp only[fN]at h1;obtain⟨F,q,_⟩:=h1;exact q.bd
  |_=>simp[bdA]
def Z3{us:List U}(H:∀u∈us,bdU u):JY us:=by
 induction us with
 |nil=>simp[JY]
 |cons u r ih=>exact⟨H u (by simp),ih fun v hv=>H v (by simp[hv])⟩
def QX.bd{us:List U}(hW:QX h jL us g):JY us:=by
 refine Z3 fun u hu=>?_;obtain⟨i,hi,rfl⟩:=dE hu;have hm:(3000000000+(0+i),us[i])∈jc 0 us:=jF.2 ⟨i,us[i],by simp[hi],rfl⟩;have ho:=hW.each _ hm;generalize us[i]=u at ho;cases u with
 |ar ow nn sz es=>
  simp only[jn]at ho;simp only[bdU];rcases ho.2.2 with⟨_,rfl,_⟩|⟨b,c,e,G,cs,rest,_,_,_,_,_,k6,_⟩
  simp[D.ub];exact k6.bd
 |own d=>
  simp only[jn]at ho;exact ho.2.1.bd
 |bx sz items=>simp[bdU]
 |sb T E s=>simp[bdU]
def NU(st:St)(av:AV)(r:ud)(k:St→Prop):Prop:=
 match r with
 |.own d=>oM st av (SR d k)
 |_=>False
def qB(k:St→Prop):List AV→List ud→St→Prop
 | [],[],st=>k st
 |av::avs,r::rs,st=>NU st av r (qB k avs rs)
 |_,_,_=>False
def LO(u:Option U)(x:U):Prop:=
 match u,x with
 |some (.ar ow nn sz es),.ar ow' jR gV es'=>ow=ow'∧nn=none∧jR=none∧sz=gV∧es=es'
 |some (.bx sz items),.bx gV iT=>sz=gV∧items=iT
 |some (.sb T E s),.sb T' E' s'=>T=T'∧E=E'∧s=s'
 |_,_=>False
def tH(st:St):Nat→List U→Prop
 |_,[]=>True
 |i,x::r=>LO (st.unit (3000000000+i)) x∧tH st (i+1) r
def yA(xs:List RV)(us':List U)(st:St)(r:ud)(avs:List AV):Prop:=
 match r with
 |.lf rs=>xs.length≠1∧qB (fun st=>tH st 0 us') avs rs st
 |r=>xs.length=1∧qB (fun st=>tH st 0 us') avs [r] st
def Gw(xs:List RV)(us':List U)(r:ud)(st:St):Prop:=wR st xs (yA xs us' st r)
def Ox(xs:List RV)(us':List U)(r:ud)(e:Exit)(st:St):Prop:=
 match e with
 |.normal=>Gw xs us' r st
 |.ret=>Gw xs us' r st
 |_=>False
def Rm(m:Nat):List U→Bool
 | []=>true
 |.bx _ items::r=>mG m items&&Rm m r
 |_::r=>Rm m r
variable {m:Nat}
def C5:∀{us:List U},Rm m us=true→∀sz items,U.bx sz items∈us→mG m items=true
 | [],_,_,_,h=>by cases h
 |u::r,h,sz,items,hm=>by
  cases u with
  |bx gV iT=>
   simp only[Rm,bA]at h;rcases ab.1 hm with e|hm
   cases e;exact h.1;exact C5 h.2 sz items hm
  |_=>
   simp only[Rm]at h;rcases ab.1 hm with e|hm
   cases e;exact C5 h sz items hm
def NO:List U→List U→Bool
 |_,[]=>true
 |u::r,_::r'=>u.kb&&NO r r'
 | [],_::_=>false
def D1:∀{us us':List U},NO us us'=true→us'.length≤us.length∧∀i (h:i<us'.length),∃u,us[i]?=some u∧u.kb=true
 |us,[],_=>by simp
 | [],_::_,h=>by cases h
 |u::r,u'::r',h=>by
  simp only[NO,bA]at h;obtain⟨h1,h2⟩:=D1 h.2;refine⟨by simp[h1],fun i hi=>?_⟩;cases i with
  |zero=>exact⟨u,rfl,h.1⟩
  |succ i=>
   obtain⟨v,q1,q2⟩:=h2 i (by simpa using hi);exact⟨v,by simpa using q1,q2⟩
mutual
def ZS{BL:List (Nat×U)}(hA:∀k,3000000000≤k→k<3000000000+m→∀u,(k,u)∈us→(k,u)∈BL):∀{av:AV} {v:Value},av.okW m=true→fN h us g av v→fN h BL g av v
 |.im none d,v,ho,hr=>by simpa only[fN]using hr
 |.im (some t) d,v,ho,hr=>by simp[AV.okW]at ho
 |.pw k el j,v,ho,hr=>by
  simp only[AV.okW,bA,a7]at ho;simp only[fN]at hr⊢;obtain⟨ow,nn,sz,es,b,r1,r2,r3,r4,r5⟩:=hr;exact⟨_,_,_,_,b,hA k ho.1 ho.2 _ r1,r2,r3,r4,r5⟩
 |.pb k j,v,ho,hr=>by
  simp only[AV.okW,bA,a7]at ho;simp only[fN]at hr⊢;obtain⟨sz,items,b,r1,r2,r3⟩:=hr;exact⟨_,_,b,hA k ho.1 ho.2 _ r1,r2,r3⟩
 |.cl f vs,v,ho,hr=>by
  simp only[AV.okW]at ho;simp only[fN]at hr⊢;obtain⟨xs,r1,r2⟩:=hr;exact⟨xs,yS hA ho r1,r2⟩
 |.sg vs,v,ho,hr=>by
  simp only[AV.okW]at ho;simp only[fN]at hr⊢;obtain⟨xs,r1,r2⟩:=hr;exact⟨xs,yS hA ho r1,r2⟩
 |.tr _,v,ho,hr=>by simp[AV.okW]at ho
 |.cw _ _ _ _ _,v,ho,hr=>by simp[AV.okW]at ho
 |.sm _ _ _,v,ho,hr=>by simp[AV.okW]at ho
 |.vb _ _,v,ho,hr=>by simp[AV.okW]at ho
 |.lf _,v,ho,hr=>by simp[AV.okW]at ho
 |.any,v,ho,hr=>by simp[AV.okW]at ho
 |.ps _,v,ho,hr=>by simp[AV.okW]at ho
 |.pq _ _ _ _ _ _,v,ho,hr=>by simp[AV.okW]at ho
 |.qs _ _ _ _ _ _,v,ho,hr=>by simp[AV.okW]at ho
 |.ss _ _ _,v,ho,hr=>by simp[AV.okW]at ho
 |.z0 _ _,v,ho,hr=>by simp[AV.okW]at ho
def yS{BL:List (Nat×U)}(hA:∀k,3000000000≤k→k<3000000000+m→∀u,(k,u)∈us→(k,u)∈BL):∀{avs:List AV} {vs:List Value},mG m avs=true→fT h us g avs vs→fT h BL g avs vs
 | [],vs,_,hr=>by simpa[fT]using hr
 |a::as,vs,ho,hr=>by
  simp only[mG,bA]at ho;simp only[fT]at hr⊢;obtain⟨v,r,rfl,h1,h2⟩:=hr;exact⟨v,r,rfl,ZS hA ho.1 h1,yS hA ho.2 h2⟩
end
def CL:∀{us':List U} {n:Nat},tH st n us'→∀x∈jc n us',x∈st.us∧x.2.kb=true
 | [],_,_,x,hx=>by simp[jc]at hx
 |u::r,n,h,x,hx=>by
  simp only[jc,ab]at hx;rcases hx with rfl|hx
  ·have:=h.1;unfold LO at this
   split at this
   ·next ow nn sz es ow' jR gV es' jm=>
    obtain⟨rfl,rfl,rfl,rfl,rfl⟩:=this;exact⟨vX jm,rfl⟩
   ·next sz items gV iT jm=>
    obtain⟨rfl,rfl⟩:=this;exact⟨vX jm,rfl⟩
   ·next T E s T' E' s' jm=>
    obtain⟨rfl,rfl,rfl⟩:=this;exact⟨vX jm,rfl⟩
   exact this.elim
  exact CL h.2 x hx
def E9{k:St→Prop}(h0:gQ h n0 S0 M0 xM.us g0):∀{avs:List AV} {vs:List Value} {rs:List ud} {st:St} {g:Gh},jK h n0 S0 M0 xM st tm g0 g→fT h xM.us g0 avs vs→qB k avs rs st→
  ∃F gp g',jK h n0 S0 M0 xM gp tm g0 g'∧k gp∧ke h rs F [] vs∧F.Nodup∧(∀b∈F,¬g.Sh b∧b∈fp g st.us∧b∉fp g' gp.us)∧(∀b,g'.Sh b↔g.Sh b)∧(∀b,b∈fp g' gp.us→b∈fp g st.us)
 | [],vs,rs,st,g,T,hr,hk=>by
  simp only[fT]at hr;subst hr;cases rs with
  |nil=>exact⟨[],st,g,T,hk,by simp[ke],bp,by simp,fun _=>bw,fun _ h=>h⟩
  |cons=>simp[qB]at hk
 |av::avs,vs,rs,st,g,T,hr,hk=>by
  simp only[fT]at hr;obtain⟨v,BG,rfl,hv,Ln⟩:=hr;cases rs with
  |nil=>simp[qB]at hk
  |cons r rs=>
   simp only[qB]at hk;unfold NU at hk
   split at hk
   ·next d=>
    obtain⟨own,d',gp,g',F1,⟨rfl,hle,mM⟩,T',r1,r2,⟨o1,_⟩,o4,j7⟩:=FY h0 T hv hk;obtain⟨on,o2⟩:=o1 rfl;obtain⟨F2,KX,g2,T2,tR,p1,p2,p3,p4,p5⟩:=E9 h0 T' Ln mM;refine⟨F1++F2,KX,g2,T2,tR,?_,?_,?_,fun b=>(p4 b).trans (o4 b),fun b hb=>j7 b (p5 b hb)⟩
    ·simp only[ke];exact⟨F1,F2,[],[],v,BG,rfl,rfl,rfl,by simp only[jr];exact⟨trivial,hle.1 _ _ _ r1,hle.2 _ r2⟩,p1⟩
    ·refine aX.2 ⟨on,p2,fun x hx y hy e=>?_⟩;subst e;exact(o2 x hx).2.2.1 (p3 x hy).2.1
    intro b hb;rcases an.1 hb with hb|hb
    ·obtain⟨_,q1,q2,q3⟩:=o2 b hb;exact⟨fun hs=>q1 ((o4 b).2 hs),q3,fun hf=>q2 (p5 b hf)⟩
    obtain⟨q1,q2,q3⟩:=p3 b hb;exact⟨fun hs=>q1 ((o4 b).2 hs),j7 b q2,q3⟩
   exact hk.elim
variable {us':List U}
def gN(h:mX P wv f=some (n,rc,xs))(hm:Mx P){us:List U}{r:ud}(hn:decide (as.length≤n)=true)(h8:decide (us.length≤8)=true)(hpu:(NO us us'&&Rm us'.length us')=true)
  (hq:JY us→LU as→sN P rc (stW n us as) (Ox xs us' r)):Lh P f us as us' r:=by
 have hn:as.length≤n:=by simpa using hn
 have h8:us.length≤8:=by simpa using h8
 rw[bA]at hpu;obtain⟨hl,hpi⟩:=D1 hpu.1;unfold mX at h;simp only[oD,oB,oP,oS,fP,cW]at h;obtain⟨fn,hf,c,hb,_,sG,rc',fM,xs',zf,rfl,rfl,rfl⟩:=h;refine⟨⟨fn,hf,by simp[hb],by simpa using sG⟩,h8,fun w vs jL g hW ha=>?_⟩;refine calls_of_wp hf hb ?_;have hs:=DV hW ha hn h8;have:=vI hm c rc' (stW fn.ntmps us as) _ _ w fM hs (hq hW.bd (NQ ha));refine cQ this ?_;rintro e a' w' ⟨st,alQ,hk,nL⟩;have hxl:xs'.length=fn.results.toList.length:=(yQ zf);have key:Gw xs' us' r st→a'.defers=[]∧∃v,(results fn a'.tmps).run P w'=.ok v w'∧
   (∃v' F g',Ending.returned v=.returned v'∧w'.os=w.os∧w'.tape=w.tape∧w'.output=w.output∧w.heap.size≤w'.heap.size∧
   (∀b,b<w.heap.size→b∉fp g (jc 0 us)→w'.heap[b]?=w.heap[b]?)∧aag w'.heap w.heap.size jL us us' g g' F∧jr w'.heap r F [] v'):=by
  intro hk;refine⟨nL.v8,?_⟩;obtain⟨g1,hu,hv⟩:=nL.gh;obtain⟨avs,BG,h1,h2,h3,h4⟩:=B6 (P:=P) hu hv zf hk;refine⟨_,w9 h1,?_⟩;have fin:∀{rs:List ud},qB (fun st=>tH st 0 us') avs rs st→∃F g',ke w'.heap rs F [] BG∧aag w'.heap w.heap.size jL us us' g g' F:=by
   intro rs hL;obtain⟨F,KX,g2,T,hE,q1,q2,q3,q4,q5⟩:=E9 hu (jK.refl hu hv) h2 hL;have nK:=CL hE;have Bq:=T.us;have inf:∀b,b∈fp g2 (jc 0 us')→b∈fp g2 KX.us:=fun b hb=>by
    obtain⟨x,hx,xJ⟩:=gn.1 hb;exact gn.2 ⟨x,(nK x hx).1,xJ⟩
   have low:∀b,b<w.heap.size→adg w.heap.size us g b→b∈fp g (jc 0 us):=by
    intro b hb hp;rcases hp with⟨_,h⟩|⟨_,_,_,_,rfl⟩|⟨_,_,rfl⟩
    exact h;omega;omega
   refine⟨F,g2,q1,⟨?_,?_,?_,?_,?_⟩⟩
   ·intro x hx;have ho:=Bq.each x (nK x hx).1;have hp:=(nK x hx).2;obtain⟨i,u,hi,rfl⟩:=jF.1 hx;cases u with
    |ar ow nn sz es=>simpa only[jn]using ho
    |own d=>cases hp
    |sb T E s=>simpa only[jn]using ho
    |bx sz items=>
     have yX:U.bx sz items∈us':=eF hi;have kA:=C5 hpu.2 _ _ yX;simp only[jn]at ho⊢;obtain⟨p1,b,c,e,xs,rest,p2,p3,p4,p5,p6⟩:=ho;refine⟨p1,b,c,e,xs,rest,p2,p3,p4,yS (fun k hk1 tR u wN=>?_) kA p5,p6⟩;have iq:k-3000000000<us'.length:=by omega
     have BI:(3000000000+(0+(k-3000000000)),us'[k-3000000000])∈jc 0 us':=jF.2 ⟨k-3000000000,_,by simp[iq],rfl⟩;have hk3:3000000000+(0+(k-3000000000))=k:=by omega
     rw[hk3]at BI;have:=Bq.uniq wN (nK _ BI).1;rw[this];exact BI
   ·intro x hx;obtain⟨i,u,hi,rfl⟩:=jF.1 hx;have hi':=(bj.1 hi).1;have hil:i<us.length:=by omega
    obtain⟨u0,hu0,hp0⟩:=hpi i hi';simp only[aa];obtain⟨Gz,ab0⟩:=nK _ hx;rw[aa]at Gz;obtain⟨b,hb⟩:∃b,g.β (3000000000+i)=some b:=by
     have:=hW.gX _ (jF.2 ⟨i,u0,hu0,rfl⟩) hp0;simp only[aa]at this;cases hb:g.β (3000000000+i)with
     |none=>exact absurd hb this
     |some b=>exact⟨b,rfl⟩
    have p1:=(Bq.AB i b (by omega) ⟨_,Gz,ab0⟩).1 (.inr (.inl ⟨i,b,hil,hb,rfl⟩));have p2:=(Bq.AB i (g.cap (3000000000+i)) (by omega) ⟨_,Gz,ab0⟩).2 (.inr (.inr ⟨i,hil,rfl⟩)) (by rw[p1];simp);exact⟨by rw[p1,hb],p2⟩
   ·refine aX.2 ⟨q2,nh qH (fun x hx=>iZ Bq (nK x hx).1) (fun x hx y hy b xJ oL=>iA Bq.keys Bq.nodup (nK x hx).1 (nK y hy).1 xJ oL),?_⟩;rintro x hx y hy rfl;exact(q3 x hx).2.2 (inf x hy)
   ·intro b hb;have Ez:b∈fp g1 st.us∧¬g1.Sh b:=by
     rcases an.1 hb with hb|hb
     exact⟨(q3 b hb).2.1,(q3 b hb).1⟩;have:=inf b hb;exact⟨q5 b this,fun hs=>(Bq.sh b ((q4 b).2 hs)).2.2 this⟩
    exact⟨hu.lt b Ez.1,hu.fz b Ez.1,fun iq=>low b iq (hu.low b Ez.1 iq),fun hs=>Ez.2 ((q4 b).1 hs)⟩
   intro b hb;obtain⟨p1,p2,_⟩:=Bq.sh b hb;exact⟨p1,p2⟩
  have Em:∀b,b<w.heap.size→b∉fp g (jc 0 us)→w'.heap[b]?=w.heap[b]?:=by
   intro b hb hn;refine nL.jL b hb fun hp=>hn ?_;rcases hp with⟨_,h⟩|⟨_,_,_,_,rfl⟩|⟨_,_,rfl⟩
   exact h;omega;omega
  have single:∀{r:ud},qB (fun st=>tH st 0 us') avs [r] st→xs'.length=1→∃v' F g',Ending.returned (if h:BG.length=1 then BG[0]else .tuple BG.toArray)=.returned v'∧w'.os=w.os∧w'.tape=w.tape∧w'.output=w.output∧w.heap.size≤w'.heap.size∧
   (∀b,b<w.heap.size→b∉fp g (jc 0 us)→w'.heap[b]?=w.heap[b]?)∧aag w'.heap w.heap.size jL us us' g g' F∧jr w'.heap r F [] v':=by
   intro r hL BP;obtain⟨F,g',q1,q2⟩:=fin hL;simp only[ke]at q1;obtain⟨F1,F2,G1,G2,v,ws,rfl,hG,rfl,hr,hF2,hG2,hws⟩:=q1;subst hF2;subst hG2;subst hws;simp only[aI]at hG q2;subst hG;exact⟨v,F1,g',by simp,nL.os,nL.tape,nL.output,nL.size,Em,q2,hr⟩
  unfold yA at h3
  split at h3
  ·next rs=>
   obtain⟨F,g',q1,q2⟩:=fin h3.2;refine⟨_,F,g',by rw[dif_neg (by rw[h4,←hxl];exact h3.1)],nL.os,nL.tape,nL.output,nL.size,Em,q2,?_⟩;simp only[jr];exact⟨_,rfl,by simpa using q1⟩
  exact single h3.2 h3.1
 cases e with
 |normal=>exact key hk
 |ret=>exact key hk
 |exit i=>exact hk.elim
 |goto l=>exact hk.elim
 |panic c=>exact hk.elim
 |outgrown=>exact hk.elim
attribute [go_sem] Option.isSome_none Option.isSome_some
def Kl:pV i []=[]:=rfl
def GL{a:AV}:pV i (a::as)=(i,a)::pV (i+1) as:=rfl
def Wc{us:List U}:stW n us as=⟨n,pV 0 as,jc 0 us⟩:=rfl
def Wl:jc i []=[]:=rfl
def Rn{u:U}{r:List U}:jc i (u::r)=(3000000000+i,u)::jc (i+1) r:=rfl
def GJ:Ox xs us' r .normal st=Gw xs us' r st:=rfl
def Qc:Ox xs us' r .ret st=Gw xs us' r st:=rfl
def L0:Ox xs us' r (.exit i) st=False:=rfl
def UU:Gw xs us' r st=wR st xs (yA xs us' st r):=rfl
def PT:yA [x] us' st (.own d) avs=qB (fun st=>tH st 0 us') avs [.own d] st:=by simp[yA]
def MB:yA [] us' st (.lf rs) avs=qB (fun st=>tH st 0 us') avs rs st:=by simp[yA]
def QB{y:RV}:yA (x::y::xs) us' st (.lf rs) avs=qB (fun st=>tH st 0 us') avs rs st:=by simp[yA]
def QY{k:St→Prop}:qB k [] [] st=k st:=rfl
def M8{k:St→Prop}:qB k (av::avs) (r::rs) st=NU st av r (qB k avs rs):=rfl
def P1{k:St→Prop}:NU st av (.own d) k=oM st av (SR d k):=rfl
def PC:tH st i []=True:=rfl
def Mt{x:U}{r:List U}:tH st i (x::r)=(LO (st.unit (3000000000+i)) x∧tH st (i+1) r):=rfl
@[congr] def ajj{x:U}(h:u=u'):LO u x=LO u' x:=by rw[h]
def Yc{ow:Bool}{ow':Bool}{jR:Option Bool}{es':List D}:LO (some (.ar ow nn sz es)) (.ar ow' jR gV es')=(ow=ow'∧nn=none∧jR=none∧sz=gV∧es=es'):=rfl
def aaH{items:List AV}{iT:List AV}:LO (some (.bx sz items)) (.bx gV iT)=(sz=gV∧items=iT):=rfl
def TP:JY []=True:=rfl
def QW{u:U}{r:List U}:JY (u::r)=(bdU u∧JY r):=rfl
def adP{ow:Bool}:bdU (.ar ow nn sz es)=D.ub es:=rfl
def Zm:bdU (.own d)=d.bd:=rfl
def adG{items:List AV}:bdU (.bx sz items)=True:=rfl
def UC:LU []=True:=rfl
def Qu{a:AV}{r:List AV}:LU (a::r)=(bdA a∧LU r):=rfl
def aeb:bdA (.im t d)=d.bd:=rfl
attribute [go_sem] Kl GL Wc Wl Rn GJ Qc L0 UU PT MB QB QY M8 P1 PC Mt Yc aaH TP QW adP Zm adG UC Qu aeb
inductive MV where
 |va (x:Value)
 |rt
 |pt (i j:Nat)
 |sb (i j:Nat)
 |sg (i j z:Nat)
 |any
 deriving Inhabited
def JP:List (Nat×MV)→Nat→MV
 | [],_=>.any
 |(k,v)::r,t=>if k=t then v else JP r t
structure MS where
 bx:Bool
 ds:List D
 env:List (Nat×MV)
def MS.set(s:MS)(d:Nat)(v:MV):MS:=⟨s.bx,s.ds,(d,v)::s.env⟩
def agA:MV→MV
 |.sb _ _=>.any
 |.sg _ _ _=>.any
 |.pt i j=>.pt i j
 |v=>v
def kil:List (Nat×MV)→List (Nat×MV)
 | []=>[]
 |(k,v)::r=>(k,agA v)::kil r
def PR:List (Nat×MV)→List (Nat×MV)
 | []=>[]
 |(k,.va x)::r=>(k,.va x)::PR r
 |(k,.rt)::r=>(k,.rt)::PR r
 |(k,_)::r=>(k,.any)::PR r
def xO(env:List (Nat×MV)):X→MV
 |.t n=>JP env n
 |.c (.sc x)=>.va x
 |.c _=>.any
def SX(x:MV)(sl:Bool)(d:Nat)(s:MS)(k:MS→Prop):Prop:=
 match x with
 |.rt=>sl=true∧k (s.set d (.va (.int .i64 s.ds.length)))
 |_=>False
def WB(x y:MV)(op:BinOp)(d:Nat)(s:MS)(k:MS→Prop):Prop:=
 match x,y with
 |.va a,.va b=>IK op a b fun v=>k (s.set d (.va v))
 |_,_=>False
def mIa(x i:MV)(sl:Bool)(sz z d:Nat)(s:MS)(k:MS→Prop):Prop:=
 match x,i with
 |.rt,.va (.int _ n)=>(sl=true∧s.bx=true∧z=sz∧0<sz∧0≤n∧n<s.ds.length)∧k (s.set d (.pt n.toNat 0))
 |_,_=>False
def mFa(x:MV)(sz off d:Nat)(s:MS)(k:MS→Prop):Prop:=
 match x with
 |.pt i j=>j+off<sz∧k (s.set d (.pt i (j+off)))
 |_=>False
def Ua(x:MV)(sl:Bool)(sz z d:Nat)(s:MS)(k:MS→Prop):Prop:=
 match x with
 |.rt=>(sl=false∧s.bx=false∧z=sz∧0<sz∧0<s.ds.length)∧k ⟨true,s.ds,(d,.pt 0 0)::PR s.env⟩
 |_=>False
def mLd(x:MV)(agg:Bool)(z d:Nat)(s:MS)(k:MS→Prop):Prop:=
 match x with
 |.pt i j=>((agg=false∧z=1)∧k (s.set d (.sb i j)))∨((agg=true∧j+z≤(D.at s.ds i).size∧(D.at s.ds i).fX=true)∧k (s.set d (.sg i j z)))
 |_=>False
def mSt(x y:MV)(sl:Bool)(sz z:Nat)(s:MS)(k:MS→Prop):Prop:=
 match x,y with
 | .pt i j, .va y => (sl = true ∧ z = 1 ∧ y.oneCell' = true ∧ (D.sub (D.at s.ds i) j 1 false).Nl = true ∧ (j = 0 ∧ 1 = sz ∨ (D.at s.ds i).fX = true)) ∧
   k ⟨s.bx,s.ds.set i (D.put sz (D.at s.ds i) j 1 (.sc y)),kil s.env⟩
 |_,_=>False
def Za(x y:MV)(P:Program)(sz d f:Nat)(s:MS)(k:MS→Prop):Prop:=
 match x,y with
 | .sb i j, .va (.int .i64 n) => ∃ e' n', AFM P f (D.sub (D.at s.ds i) j 1 false) n e' n' ∧ ((D.sub (D.at s.ds i) j 1 false).fX = false ∧ (j = 0 ∧ 1 = sz ∨ (D.at s.ds i).fX = true)) ∧
   k ⟨s.bx,s.ds.set i (D.put sz (D.at s.ds i) j 1 e'),(d,.va (.int .i64 n'))::s.env⟩
 | .sg i j z, .va (.int .i64 n) => ∃ e' n', AFM P f (D.sub (D.at s.ds i) j z true) n e' n' ∧ (D.at s.ds i).fX = true ∧
   k ⟨s.bx,s.ds.set i (D.put sz (D.at s.ds i) j z e'),(d,.va (.int .i64 n'))::s.env⟩
 |_,_=>False
def mOp(P:Program)(sl:Bool)(sz:Nat)(r:oT)(s:MS)(k:MS→Prop):Prop:=
 match r with
 |.mv d x=>k (s.set d (xO s.env x))
 |.len d x=>SX (xO s.env x) sl d s k
 |.bin d op x y=>WB (xO s.env x) (xO s.env y) op d s k
 |.ia d z x i=>mIa (xO s.env x) (xO s.env i) sl sz z d s k
 |.fa d off x=>mFa (xO s.env x) sz off d s k
 |.box d z x=>Ua (xO s.env x) sl sz z d s k
 |.ld d agg z x=>mLd (xO s.env x) agg z d s k
 |.st z x y=>mSt (xO s.env x) (xO s.env y) sl sz z s k
 |.mcl d f x y=>Za (xO s.env x) (xO s.env y) P sz d f s k
 |_=>False
def vf(P:Program)(sl:Bool)(sz:Nat):List RO→MS→(MS→Prop)→Prop
 | [],s,k=>k s
 |⟨none,r⟩::rest,s,k=>mOp P sl sz r s fun s=>vf P sl sz rest s k
 |⟨some _,_⟩::_,_,_=>False
def aa1(s s':MS):Prop:=s'.bx=s.bx∧s'.ds=s.ds∧∀t,JP s'.env t=.any∨JP s'.env t=JP s.env t
def Ka(f:MS→Prop)(K:Exit→MS→Prop)(e:Exit)(s:MS):Prop:=
 match e with
 |.normal=>f s
 |e=>K e s
def MQ(id:Nat)(K:Exit→MS→Prop)(e:Exit)(s:MS):Prop:=
 match e with
 |.exit i=>if i=id then K .normal s else K (.exit i) s
 |e=>K e s
def KC(c:MV)(p q:Prop):Prop:=
 match c with
 |.va (.bool t)=>(t=true→p)∧(t=false→q)
 |_=>False
def mR(P:Program)(sl:Bool)(sz:Nat):RC→MS→(Exit→MS→Prop)→Prop
 |.skip,s,K=>K .normal s
 |.jI false ops,s,K=>vf P sl sz ops s (K .normal)
 |.seq a b,s,K=>mR P sl sz a s (Ka (fun s=>mR P sl sz b s K) K)
 |.cond x a b,s,K=>KC (xO s.env x) (mR P sl sz a s K) (mR P sl sz b s K)
 |.gX id c,s,K=>mR P sl sz c s (MQ id K)
 |.loop c,s,K=>∃I:Nat→MS→Prop,(∃n s',aa1 s s'∧I n s')∧∀n s,I n s→mR P sl sz c s (Ka (fun s'=>∃n' Sv,aa1 s' Sv∧I n' Sv∧n'<n) K)
 |.exit id,s,K=>K (.exit id) s
 |.ret,s,K=>K .ret s
 |_,_,_=>False
structure aj1 where
 v:Value
 F0:List Nat
 w0:World
 sz:Nat
 sl:Bool
 n:Nat
 len:Nat
structure MG where
 F:List Nat
 cs:List Value
 b:Nat
 off:Nat
 cap:Nat
 c:Array Value
 e:TypeId
variable {P:Program}{X:aj1}
variable {s:MS}{a:Act}{w:World}{G:MG}{o:Oper}{k:MS→Prop}{Q':Exit→Act→World→Prop}
def ag1(r:Nat)(bx:Bool)(lQ:List D)(n':Int)(e:Exit)(s:MS):Prop:=
 match e with
 |.normal=>(bx=true→s.bx=true)∧s.ds=lQ∧JP s.env r=.va (.int .i64 n')
 |.ret=>(bx=true→s.bx=true)∧s.ds=lQ∧JP s.env r=.va (.int .i64 n')
 |_=>False
section
variable {sl:Bool}{sz:Nat}{s:MS}{K:Exit→MS→Prop}{bx:Bool}{ds:List D}{env:List (Nat×MV)}
def kmR(P:Program)(sl:Bool)(sz:Nat)(c:RC)(K:Exit→MS→Prop)(s:MS):Prop:=mR P sl sz c s K
def Ss(P:Program)(sl:Bool)(sz:Nat)(l:List RO)(k:MS→Prop)(s:MS):Prop:=vf P sl sz l s k
variable {s':MS}{c:RC}
@[congr] def mR_cg{s:MS}(h:s=s'):mR P sl sz c s K=mR P sl sz c s' K:=by rw[h]
@[congr] def ajq{s:MS}(h:s=s'):kmR P sl sz c K s=kmR P sl sz c K s':=by rw[h]
variable {l:List RO}{k:MS→Prop}
@[congr] def aii{s:MS}(h:s=s'):vf P sl sz l s k=vf P sl sz l s' k:=by rw[h]
@[congr] def akK{s:MS}(h:s=s'):Ss P sl sz l k s=Ss P sl sz l k s':=by rw[h]
variable {f:MS→Prop}
@[congr] def ajc{e e':Exit}{s:MS}(h:e=e')(h':s=s'):Ka f K e s=Ka f K e' s':=by rw[h,h']
variable {i:Nat}
@[congr] def aiO{e e':Exit}{s:MS}(h:e=e')(h':s=s'):MQ i K e s=MQ i K e' s':=by rw[h,h']
@[congr] def aht{c c':MV}{p q:Prop}(h:c=c'):KC c p q=KC c' p q:=by rw[h]
variable {x x':MV}{d:Nat}
@[congr] def aiZ(h:x=x'):SX x sl d s k=SX x' sl d s k:=by rw[h]
variable {y y':MV}
@[congr] def aiU{op:BinOp}(h:x=x')(h':y=y'):WB x y op d s k=WB x' y' op d s k:=by rw[h,h']
variable {z:Nat}
@[congr] def ajT(h:x=x')(h':y=y'):mIa x y sl sz z d s k=mIa x' y' sl sz z d s k:=by rw[h,h']
@[congr] def akC{off:Nat}(h:x=x'):mFa x sz off d s k=mFa x' sz off d s k:=by rw[h]
@[congr] def ai7(h:x=x'):Ua x sl sz z d s k=Ua x' sl sz z d s k:=by rw[h]
@[congr] def ajB{agg:Bool}(h:x=x'):mLd x agg z d s k=mLd x' agg z d s k:=by rw[h]
@[congr] def akB(h:x=x')(h':y=y'):mSt x y sl sz z s k=mSt x' y' sl sz z s k:=by rw[h,h']
@[congr] def aiP{f:Nat}(h:x=x')(h':y=y'):Za x y P sz d f s k=Za x' y' P sz d f s k:=by rw[h,h']
def ZG:mR P sl sz .skip s K=K .normal s:=rfl
def ads{ops:List RO}:mR P sl sz (.jI false ops) s K=vf P sl sz ops s (K .normal):=rfl
def aet{a b:RC}:mR P sl sz (.seq a b) s K=mR P sl sz a s (Ka (kmR P sl sz b K) K):=rfl
def abq{x:Ax.X}{a b:RC}:mR P sl sz (.cond x a b) s K=KC (xO s.env x) (mR P sl sz a s K) (mR P sl sz b s K):=rfl
def acT:mR P sl sz (.gX i c) s K=mR P sl sz c s (MQ i K):=rfl
def YH:mR P sl sz (.exit i) s K=K (.exit i) s:=rfl
def adO:mR P sl sz .ret s K=K .ret s:=rfl
def adl:kmR P sl sz c K s=mR P sl sz c s K:=rfl
def acG:Ss P sl sz l k s=vf P sl sz l s k:=rfl
def IR:Ka f K .normal s=f s:=rfl
def WD:Ka f K .ret s=K .ret s:=rfl
def Pc:Ka f K (.exit i) s=K (.exit i) s:=rfl
def Jz:MQ i K .normal s=K .normal s:=rfl
def W0:MQ i K .ret s=K .ret s:=rfl
def O7{j:Nat}:MQ i K (.exit j) s=if j=i then K .normal s else K (.exit j) s:=rfl
def aba{t:Bool}{p q:Prop}:KC (.va (.bool t)) p q=((t=true→p)∧(t=false→q)):=rfl
def VY:vf P sl sz [] s k=k s:=rfl
attribute [go_sem ↓] ZG ads aet abq acT YH adO adl acG IR WD Pc Jz W0 VY
attribute [go_sem] O7 aba
section
variable {l:List RO}{k:MS→Prop}
variable {x:Ax.X}{d:Nat}
def aaD:vf P sl sz (⟨none,.mv d x⟩::l) s k=Ss P sl sz l k (s.set d (xO s.env x)):=rfl
def VO:vf P sl sz (⟨none,.len d x⟩::l) s k=SX (xO s.env x) sl d s (Ss P sl sz l k):=rfl
attribute [go_sem ↓] aaD VO
variable {y:Ax.X}
def Tk{op:BinOp}:vf P sl sz (⟨none,.bin d op x y⟩::l) s k=WB (xO s.env x) (xO s.env y) op d s (Ss P sl sz l k):=rfl
attribute [go_sem ↓] Tk
variable {z:Nat}
def abQ:vf P sl sz (⟨none,.ia d z x y⟩::l) s k=mIa (xO s.env x) (xO s.env y) sl sz z d s (Ss P sl sz l k):=rfl
def aaa{off:Nat}:vf P sl sz (⟨none,.fa d off x⟩::l) s k=mFa (xO s.env x) sz off d s (Ss P sl sz l k):=rfl
def Vb:vf P sl sz (⟨none,.box d z x⟩::l) s k=Ua (xO s.env x) sl sz z d s (Ss P sl sz l k):=rfl
def Zx{agg:Bool}:vf P sl sz (⟨none,.ld d agg z x⟩::l) s k=mLd (xO s.env x) agg z d s (Ss P sl sz l k):=rfl
def Yg:vf P sl sz (⟨none,.st z x y⟩::l) s k=mSt (xO s.env x) (xO s.env y) sl sz z s (Ss P sl sz l k):=rfl
def Vz{f:Nat}:vf P sl sz (⟨none,.mcl d f x y⟩::l) s k=Za (xO s.env x) (xO s.env y) P sz d f s (Ss P sl sz l k):=rfl
def ZE:SX .rt sl d s k=(sl=true∧k (s.set d (.va (.int .i64 s.ds.length)))):=rfl
def aa7{a b:Value}{op:BinOp}:WB (.va a) (.va b) op d s k=IK op a b fun v=>k (s.set d (.va v)):=rfl
def adS{kd:IntKind}{n:Int}:mIa .rt (.va (.int kd n)) sl sz z d s k=((sl=true∧s.bx=true∧z=sz∧0<sz∧0≤n∧n<s.ds.length)∧k (s.set d (.pt n.toNat 0))):=rfl
attribute [go_sem ↓] abQ aaa Vb Zx Yg Vz
attribute [go_sem] ZE aa7 adS
variable {i j:Nat}
def ac3{off:Nat}:mFa (.pt i j) sz off d s k=(j+off<sz∧k (s.set d (.pt i (j+off)))):=rfl
def abO:Ua .rt sl sz z d s k=((sl=false∧s.bx=false∧z=sz∧0<sz∧0<s.ds.length)∧k ⟨true,s.ds,(d,.pt 0 0)::PR s.env⟩):=rfl
def ae0:mLd (.pt i j) false z d s k=(z=1∧k (s.set d (.sb i j))):=by simp[mLd]
def Zc:mLd (.pt i j) true z d s k=((j+z≤(D.at s.ds i).size∧(D.at s.ds i).fX=true)∧k (s.set d (.sg i j z))):=by simp[mLd]
def adp{y:Value}:mSt (.pt i j) (.va y) sl sz z s k=((sl=true∧z=1∧y.oneCell'=true∧(D.sub (D.at s.ds i) j 1 false).Nl=true∧(j=0∧1=sz∨(D.at s.ds i).fX=true))∧
   k ⟨s.bx,s.ds.set i (D.put sz (D.at s.ds i) j 1 (.sc y)),kil s.env⟩):=rfl
attribute [go_sem] ac3 abO ae0 Zc adp
end
def Qb{d:Nat}{v:MV}:(MS.mk bx ds env).set d v=⟨bx,ds,(d,v)::env⟩:=rfl
def Ve{k t:Nat}{v:MV}{r:List (Nat×MV)}:JP ((k,v)::r) t=if k=t then v else JP r t:=rfl
def ahv{n:Nat}:xO env (.t n)=JP env n:=rfl
def acB{x:Value}:xO env (.c (.sc x))=.va x:=rfl
def IC{r:Nat}{lQ:List D}{n':Int}{b0:Bool}:ag1 r b0 lQ n' .normal s=((b0=true→s.bx=true)∧s.ds=lQ∧JP s.env r=.va (.int .i64 n')):=rfl
def Vc{r:Nat}{lQ:List D}{n':Int}{b0:Bool}:ag1 r b0 lQ n' .ret s=((b0=true→s.bx=true)∧s.ds=lQ∧JP s.env r=.va (.int .i64 n')):=rfl
attribute [go_sem] Qb Ve ahv acB IC Vc
attribute [go_sem] kil agA PR Value.oneCell'
end
variable {P:Program}
def gO.refl(st:St):gO st st:=fun _ _ _ _ _ _ h=>h
def gO.trans{a b c:St}(h:gO a b)(k:gO b c):gO a c:=fun _ _ _ _ _ _ x=>k _ _ _ _ _ _ (h _ _ _ _ _ _ x)
def fR(e:List (Nat×AV)):List (Nat×AV)→Prop
 | []=>True
 |(k,v)::r=>lk e k=v∧fR e r
variable {e:List (Nat×AV)}
def zg:∀{e':List (Nat×AV)},fR e e'→∀t,lk e' t=.any∨lk e' t=lk e t
 | [],_,t=>.inl rfl
 |(k,v)::r,h,t=>by
  simp only[lk]
  split
  ·next hk=>subst hk;exact .inr h.1.symm
  exact zg h.2 t
variable {us:List (Nat×U)}{n:Nat}
def gO.env{e':List (Nat×AV)}(h:fR e e'):gO ⟨n,e,us⟩ ⟨n,e',us⟩:=by
 intro n0 S0 M0 w0 a w hs;obtain⟨g,hu,hv⟩:=hs.gh;refine⟨hs.ms,hs.v8,hs.tm,hs.base,hs.os,hs.tape,hs.output,hs.size,hs.jL,g,hu,fun t=>?_⟩;rcases zg h t with h|h
 simp only;rw[h];simp[fN];simp only;rw[h];exact hv t
def gO.del(st:St)(k:Nat):gO st (st.del k):=by
 intro n0 S0 M0 w0 a w hs;obtain⟨g,hu,hv⟩:=hs.gh;obtain⟨hU,hK⟩:=hu.del k;exact⟨hs.ms,hs.v8,hs.tm,hs.base,hs.os,hs.tape,hs.output,hs.size,hs.jL,_,hU,fun t=>kp (fun av v hf hr=>fN.jB hK hf hr) (hv t)⟩
def gO.perm{us':List (Nat×U)}(h:us'.Perm us):gO ⟨n,e,us⟩ ⟨n,e,us'⟩:=by
 intro n0 S0 M0 w0 a w hs;exact hs.eqv rfl (fun _=>rfl) h
def BU{c:RC}{st:St}{K:Exit→St→Prop}{α:Type}(F:α→St)(J:α→Prop)(μ:α→Nat)(x0:α)(h0:gO st (F x0))(hJ:J x0)
  (h:∀x,J x→sN P c (F x) (zt (fun s=>∃y,J y∧μ y<μ x∧gO s (F y)) K)):sN P (.loop c) st K:=by
 refine⟨fun n s=>∃x,J x∧μ x=n∧s=F x,⟨_,_,h0,x0,hJ,rfl,rfl⟩,?_⟩;rintro n s ⟨x,hx,rfl,rfl⟩;have:=h x hx;have e:(zt (fun s=>∃y,J y∧μ y<μ x∧gO s (F y)) K)=(zt (fun s'=>∃n' Sv,gO s' Sv∧(∃x,J x∧μ x=n'∧Sv=F x)∧n'<μ x) K):=by
  congr 1
  funext s
  apply propext
  constructor
  ·rintro⟨y,h1,h2,h3⟩;exact⟨_,_,h3,⟨y,h1,rfl,rfl⟩,h2⟩
  rintro⟨_,_,h3,⟨y,h1,rfl,rfl⟩,h2⟩;exact⟨y,h1,h2,h3⟩
 rw[e]at this;exact this
def D.LeA.refl(d:D):d.LeA d:=⟨fun _ F _ h=>⟨F,h,fun _ hb=>hb⟩,fun _ h=>h⟩
def D.LeA.eq{d e:D}(h:d=e):d.LeA e:=h▸D.LeA.refl d
def D.LeA.sub{d e:D}{j sz:Nat}(hj:j+sz≤d.size)(hd:d.fX=true)(h0:0<sz)(he:D.sub d j sz true=e):D.LeA (.pt d j) (.pt e 0):=by
 refine⟨fun h F cs hr=>?_,fun v hv=>hv⟩;simp only[gJ]at hr;obtain⟨b,off,c,el,fr,F',rfl,rfl,r1,r2,r3,r4⟩:=hr;obtain⟨F1,F2,F3,c1,c2,c3,g1,g2,g3,g4,g5,g6⟩:=r4.sub (agg:=true) hj (fun _=>hd) (by simp);subst he;have hs:(D.sub d j sz true).size=sz:=by rw[←g5.length,g4]
 refine⟨b::F2,?_,?_⟩
 ·simp only[gJ];refine⟨b,off+j,c,el,fr,F2,by simp,rfl,by omega,r2,by omega,?_⟩;rw[hs];have e1:(c.toList.drop (off+j)).take sz=c2:=by
   have h1:((c.toList.drop off).take d.size).drop j=c2++c3:=by rw[g2,←g3];simp
   have h2:(((c.toList.drop off).take d.size).drop j).take sz=c2:=by rw[h1,←g4];simp
   rw[←h2,dj,cx,c9,bh (by omega)]
  rw[e1];exact g5
 intro x hx;rcases ab.1 hx with rfl|hx
 simp;rw[g1];simp[hx]
def D.XN.refl:∀(ds:List D),D.XN ds ds
 | []=>trivial
 |d::ds=>⟨D.LeA.refl d,D.XN.refl ds⟩
variable {args:List AV}{f:Nat}
def fL{d:Option Nat}{un:Nat→Option U}{k:KQ}{ds:List D}{r:ud}(ha:kI un args=some ds)(h:AF P f ds r)
  (hk:k (jb (d.getD 0) (LA args ds) r).1 (jb (d.getD 0) (LA args ds) r).2):pP P d f args un k:=
 .inl ⟨ds,ds,r,ha,D.XN.refl ds,h,hk⟩
def kW{d:Option Nat}{un:Nat→Option U}{k:KQ}{t:Option Nat}{kk:Int}{B C:AV}(ha:args=[.im t (.sc (.int .i64 kk)),B,C])(h:AFP P f)(hB:(AV.mw un B&&ig un 3 B)=true)(hC:(AV.mw un C&&ig un 3 C)=true)
  (hk:k (.sg [.im none (.sc (.int .i64 kk)),.im none (.sc (.int .i64 0)),.vb (d.getD 0) 2]) [(d.getD 0,.bx 3 [B,C])]) (Nt:d.getD 0<3000000000:=by decide):pP P d f args un k:=.inr ⟨Nt,t,kk,B,C,ha,h,hB,hC,hk⟩
def gd{d:Option Nat}{f:Nat}{st:St}{kk:St→Prop}(k1 k2:List Nat){us us':List U}{as:List AV}{r:ud}(h1:CT (k1++k2)=true)(h2:wUs (k1++k2) st.unit (k1++k2)=some us)(h3:rO (k1++k2) st.unit args=some as)
  (hA:Lh P f us as us' r) (hl:us'.length=k1.length) (h4:iv k1.length (ii (k1++k2) args&&ir (k1++k2) st.unit (k1++k2)) us us') (h5:kq kk (st.abV k1 k2 us') d (jb (d.getD 0) false r).1 (jb (d.getD 0) false r).2):Jb P d f args st kk:=⟨k1,k2,us,as,us',r,h1,h2,h3,hA,hl,h4,h5⟩
def fQ{x:Int}(h1: -9223372036854775808≤x)(h2:x≤9223372036854775807):IntKind.i64.wrap x=x:=by
 simp[IntKind.wrap,IntKind.bits,IntKind.signed];omega
def ie{α:Type}{f:α→D}{l:List α}{i:Nat}(h:i<l.length):D.at (l.map f) i=f l[i]:=by
 simp[D.at,h]
def UF{k:Nat}:((none:Option Nat)==some k)=false:=rfl
def VZ{i k:Nat}:(some i==some k)=(i==k):=rfl
attribute [go_sem] UF VZ
attribute [go_sem] Bool.false_eq_true
def WS:((some false:Option Bool)==some true)=false:=rfl
def SU:((some true:Option Bool)==some true)=true:=rfl
def Wn:((none:Option Bool)==some true)=false:=rfl
attribute [go_sem] WS SU Wn
attribute [go_sem] Bool.false_and Bool.true_and Bool.and_false Bool.and_true
def OJ:List (Nat×AV)→Bool
 | []=>true
 |(_,.im none _)::r=>OJ r
 |_=>false
def J3:∀{e:List (Nat×AV)},OJ e=true→∀t,lk e t=.any∨∃d,lk e t=.im none d
 | [],_,t=>.inl rfl
 |(k,.im none d)::r,h,t=>by
  simp only[lk]
  split;exact .inr ⟨d,rfl⟩;exact J3 (by simpa[OJ]using h) t
def gO.clear{e':List (Nat×AV)}(h:fR e e')(hf:OJ e'=true):gO ⟨n,e,us⟩ ⟨n,e',[]⟩:=by
 intro n0 S0 M0 w0 a w hs;obtain⟨g,hu,hv⟩:=hs.gh;refine⟨hs.ms,hs.v8,hs.tm,hs.base,hs.os,hs.tape,hs.output,hs.size,hs.jL,{g with φ:=fun _=>[]},⟨by simp,by simp[fp],by simp[fp],by simp[fp],fun _ _=>rfl,fun b hb=>⟨(hu.sh b hb).1,(hu.sh b hb).2.1,by simp[fp]⟩,by simp,by simp[fp],by intro k v _ h;simp at h⟩,fun t=>?_⟩;simp only;rcases J3 hf t with h1|⟨d,h1⟩
 rw[h1];simp[fN];have h2:lk e t=.im none d:=by
  rcases zg h t with h2|h2
  rw[h1]at h2;cases h2;rw[←h2,h1]
 have:=hv t;simp only[h2]at this;rw[h1];simp only[fN]at this⊢;obtain⟨F,r1,r2,r3⟩:=this;refine⟨F,r1,r2,fun b hb=>?_⟩;rcases r3 b hb with h|⟨k,hk,_⟩
 exact .inl h;cases hk
def sU:∀{ds:List D},D.ub ds→∀d∈ds,d.bd
 | [],_,d,h=>by cases h
 |x::ds,hb,d,h=>by
  simp only[D.ub]at hb;rcases ab.1 h with rfl|h
  exact hb.1;exact sU hb.2 d h
def aee:RC:=
 (.seq
  (.jI false [⟨none,.mv 4 (.c (.sc (.bool false)))⟩])
  ((.seq
   ((.seq
    (.jI false [⟨none,.mv 6 (.t 0)⟩,
      ⟨none,.len 7 (.t 6)⟩,
      ⟨none,.mv 8 (.t 1)⟩,
      ⟨none,.len 9 (.t 8)⟩,
      ⟨none,.bin 10 .neq (.t 7) (.t 9)⟩])
    (.cond (.t 10)
     ((.seq
      (.jI false [⟨none,.mv 4 (.c (.sc (.bool false)))⟩])
      (.ret)))
     (.skip))))
   ((.seq
    ((.seq
     (.jI false [⟨none,.mv 5 (.c (.sc (.int .i64 0)))⟩])
     (.gX 0
      (.loop
       ((.seq
        ((.seq
         (.jI false [⟨none,.mv 11 (.t 5)⟩,
           ⟨none,.mv 12 (.t 0)⟩,
           ⟨none,.len 13 (.t 12)⟩,
           ⟨none,.bin 14 .lss (.t 11) (.t 13)⟩])
         (.cond (.t 14)
          (.skip)
          (.exit 0))))
        ((.seq
         (.gX 1
          ((.seq
           (.jI true [⟨none,.mv 17 (.t 0)⟩,
             ⟨none,.mv 18 (.t 5)⟩,
             ⟨none,.ia 19 1 (.t 17) (.t 18)⟩,
             ⟨none,.ld 20 false 1 (.t 19)⟩,
             ⟨none,.mv 21 (.t 1)⟩,
             ⟨none,.mv 22 (.t 5)⟩,
             ⟨none,.ia 23 1 (.t 21) (.t 22)⟩,
             ⟨none,.ld 24 false 1 (.t 23)⟩,
             ⟨none,.beq 25 true (.t 20) (.t 24)⟩])
           (.cond (.t 25)
            ((.seq
             (.jI false [⟨none,.mv 4 (.c (.sc (.bool false)))⟩])
             (.ret)))
            (.skip)))))
         (.jI false [⟨none,.mv 15 (.t 5)⟩,
           ⟨none,.bin 16 .add (.t 15) (.c (.sc (.int .i64 1)))⟩,
           ⟨none,.mv 5 (.t 16)⟩])))))))))
    ((.seq
     (.jI false [⟨none,.mv 4 (.c (.sc (.bool true)))⟩])
     (.ret))))))))
def adt(f sz:Nat)(agg:Bool):RC:=
 (.seq
  (.jI false [⟨none,.mv 4 (.c (.sc (.bool false)))⟩])
  ((.seq
   ((.seq
    (.jI false [⟨none,.mv 6 (.t 0)⟩,
      ⟨none,.len 7 (.t 6)⟩,
      ⟨none,.mv 8 (.t 1)⟩,
      ⟨none,.len 9 (.t 8)⟩,
      ⟨none,.bin 10 .neq (.t 7) (.t 9)⟩])
    (.cond (.t 10)
     ((.seq
      (.jI false [⟨none,.mv 4 (.c (.sc (.bool false)))⟩])
      (.ret)))
     (.skip))))
   ((.seq
    ((.seq
     (.jI false [⟨none,.mv 5 (.c (.sc (.int .i64 0)))⟩])
     (.gX 0
      (.loop
       ((.seq
        ((.seq
         (.jI false [⟨none,.mv 11 (.t 5)⟩,
           ⟨none,.mv 12 (.t 0)⟩,
           ⟨none,.len 13 (.t 12)⟩,
           ⟨none,.bin 14 .lss (.t 11) (.t 13)⟩])
         (.cond (.t 14)
          (.skip)
          (.exit 0))))
        ((.seq
         (.gX 1
          ((.seq
           (.jI true [⟨none,.mv 17 (.t 0)⟩,
             ⟨none,.mv 18 (.t 5)⟩,
             ⟨none,.ia 19 sz (.t 17) (.t 18)⟩,
             ⟨none,.ld 20 agg sz (.t 19)⟩,
             ⟨none,.mv 21 (.t 1)⟩,
             ⟨none,.mv 22 (.t 5)⟩,
             ⟨none,.ia 23 sz (.t 21) (.t 22)⟩,
             ⟨none,.ld 24 agg sz (.t 23)⟩,
             ⟨none,.call (some 25) f [(.t 20),(.t 24)]⟩,
             ⟨none,.un 26 .not (.t 25)⟩])
           (.cond (.t 26)
            ((.seq
             (.jI false [⟨none,.mv 4 (.c (.sc (.bool false)))⟩])
             (.ret)))
            (.skip)))))
         (.jI false [⟨none,.mv 15 (.t 5)⟩,
           ⟨none,.bin 16 .add (.t 15) (.c (.sc (.int .i64 1)))⟩,
           ⟨none,.mv 5 (.t 16)⟩])))))))))
    ((.seq
     (.jI false [⟨none,.mv 4 (.c (.sc (.bool true)))⟩])
     (.ret))))))))
abbrev SL(α:Type):=Option Bool×List α
def eI(n:Int):D:=.sc (.int .i64 n)
def eB(b:Bool):D:=.sc (.bool b)
def eS{α:Type}(sz:Nat)(f:α→D)(s:SL α):D:=.ls s.1 sz (s.2.map f)
structure Enc {α:Type} (f:α→D) (sz:Nat) (agg:Bool):Prop where
 pos:0<sz
 size:∀x,(f x).size=sz
 fX:∀x,(f x).fX=agg
 sub:∀x,D.sub (f x) 0 sz agg=f x
def vM{nn:Option Bool}{sz:Nat}{ds:List D}{r:List D}(h:D.ub (.ls nn sz ds::r)):ds.length≤gz:=by simp only[D.ub,D.bd]at h;exact h.1.1
def tX{α:Type}(q:α→α→Bool):List α→List α→Bool
 | [],[]=>true
 |x::a,y::b=>q x y&&tX q a b
 |_,_=>false
def BV{α:Type}{q:α→α→Bool}:∀{a b:List α},a.length≠b.length→tX q a b=false
 | [],[],h=>(h rfl).elim
 | [],_::_,_=>rfl
 |_::_,[],_=>rfl
 |x::a,y::b,h=>by simp only[tX,BV (a:=a) (b:=b) (by simpa using h),bJ]
section
variable {P:Program}(hm:P.follows .mixedOrders = true)
include hm
def aec{α:Type}{f:α→D}{sz:Nat}{agg:Bool}(e:Enc f sz agg){g h:Nat}(hr:il P g=some (27,adt h sz agg,[.t 4]))(q:α→α→Bool)(a b:SL α)
  (hc:∀x∈a.2,∀y∈b.2,AF P h [f x,f y] (.own (eB (q x y)))):
  AF P g [eS sz f a,eS sz f b] (.own (eB (tX q a.2 b.2))):=by
 refine fY hr hm rfl fun hb=>?_;have hl:=vM hb;have Ek:=vM hb.2;unfold gz at hl Ek;simp only[lM]at hl Ek;have hp:=e.pos;simp-implicitDefEqProofs only[adt,eS,go_sem,eI,eB,↓reduceIte,Nat.reduceEqDiff,Nat.reduceAdd,Nat.reduceLeDiff,Nat.reduceMul,Nat.reduceBEq,Nat.reduceBneDiff,lM];refine⟨fun h=>D.Le.gH ?_,fun h=>?_⟩
 ·rw[BV (by simp at h;omega)]
 have hlen:a.2.length=b.2.length:=by simp at h;omega
 refine BU (α:=Nat) (fun i=>⟨27,[(0,.im none (.ls a.1 sz (a.2.map f))),(1,.im none (.ls b.1 sz (b.2.map f))),(5,.im none (.sc (.int .i64 i)))],[]⟩)
  (fun i=>i≤a.2.length∧tX q (a.2.drop i) (b.2.drop i)=tX q a.2 b.2) (fun i=>a.2.length-i) 0
  (gO.env (by simp only[fR,go_sem,↓reduceIte,Nat.reduceEqDiff];simp)) ⟨by simp,by simp⟩ ?_
 rintro i ⟨j1,j4⟩
 by_cases hi:i<a.2.length
 ·have AC:i<b.2.length:=by omega
  have e1:=ie (f:=f) hi;have e2:=ie (f:=f) AC;have a1:=hc a.2[i] (aF _) b.2[i] (aF _);simp-implicitDefEqProofs only[go_sem,eI,eB,↓reduceIte,Nat.reduceEqDiff,Nat.reduceAdd,Nat.reduceLeDiff,Nat.reduceMul,Nat.reduceBEq,Nat.reduceBneDiff,e1,e2,e.sub,e.size,e.fX,hp,AC,iL,hi,lM,iN,cD,and_self,cT,bY,fc,fe,dI,eN,aa,aw,ff];refine⟨id,id,fL ?_ a1 ?_⟩;exact rfl;simp-implicitDefEqProofs only[go_sem,eI,eB,↓reduceIte,Nat.reduceEqDiff,Nat.reduceAdd,Nat.reduceLeDiff,Nat.reduceMul,Nat.reduceBEq,Nat.reduceBneDiff];rw[cL hi,cL AC]at j4;simp only[tX]at j4;refine⟨fun h=>D.Le.gH ?_,fun h=>?_⟩;rw[←j4];simp at h;simp[h];rw[fQ (by omega) (by omega)];refine⟨i+1,⟨by omega,?_⟩,by omega,gO.env (by simp only[fR,go_sem,↓reduceIte,Nat.reduceEqDiff];simp)⟩;rw[←j4];simp at h;simp[h]
 simp-implicitDefEqProofs only[go_sem,eI,eB,↓reduceIte,Nat.reduceEqDiff,Nat.reduceAdd,Nat.reduceLeDiff,Nat.reduceMul,Nat.reduceBEq,Nat.reduceBneDiff,iL,hi,lM,iN,cD,and_self,cT,bY,fc,fe,dI,eN,aa,aw,ff];refine D.Le.gH ?_;rw[←j4,bO (by omega),bO (by omega)]
 rfl
def ac9{g:Nat}(hr:il P g=some (26,aee,[.t 4]))(a b:SL Bool):
  AF P g [eS 1 eB a,eS 1 eB b] (.own (eB (tX (fun x y=>x==y) a.2 b.2))):=by
 refine fY hr hm rfl fun hb=>?_;have hl:=vM hb;have Ek:=vM hb.2;unfold gz at hl Ek;simp only[lM]at hl Ek;simp-implicitDefEqProofs only[aee,eS,go_sem,eI,eB,↓reduceIte,Nat.reduceEqDiff,Nat.reduceAdd,Nat.reduceLeDiff,Nat.reduceMul,Nat.reduceBEq,Nat.reduceBneDiff,lM];refine⟨fun h=>D.Le.gH ?_,fun h=>?_⟩
 ·rw[BV (by simp at h;omega)]
 have hlen:a.2.length=b.2.length:=by simp at h;omega
 refine BU (α:=Nat) (fun i=>⟨26,[(0,.im none (.ls a.1 1 (a.2.map eB))),(1,.im none (.ls b.1 1 (b.2.map eB))),(5,.im none (.sc (.int .i64 i)))],[]⟩)
  (fun i=>i≤a.2.length∧tX (fun x y=>x==y) (a.2.drop i) (b.2.drop i)=tX (fun x y=>x==y) a.2 b.2) (fun i=>a.2.length-i) 0
  (gO.env (by simp only[fR,go_sem,↓reduceIte,Nat.reduceEqDiff];simp)) ⟨by simp,by simp⟩ ?_
 rintro i ⟨j1,j4⟩
 by_cases hi:i<a.2.length
 ·have AC:i<b.2.length:=by omega
  have e1:=ie (f:=eB) hi;have e2:=ie (f:=eB) AC;simp-implicitDefEqProofs only[go_sem,eI,eB,↓reduceIte,Nat.reduceEqDiff,Nat.reduceAdd,Nat.reduceLeDiff,Nat.reduceMul,Nat.reduceBEq,Nat.reduceBneDiff,e1,e2,AC,iL,hi,lM,iN,cD,and_self,cT,bY,fc,fe,dI,eN,aa,aw,ff];rw[cL hi,cL AC]at j4;simp only[tX]at j4;refine⟨fun h=>D.Le.gH ?_,fun h=>?_⟩;rw[←j4];simp at h;simp[h];rw[fQ (by omega) (by omega)];refine⟨i+1,⟨by omega,?_⟩,by omega,gO.env (by simp only[fR,go_sem,↓reduceIte,Nat.reduceEqDiff];simp)⟩;rw[←j4];simp at h;simp[h]
 simp-implicitDefEqProofs only[go_sem,eI,eB,↓reduceIte,Nat.reduceEqDiff,Nat.reduceAdd,Nat.reduceLeDiff,Nat.reduceMul,Nat.reduceBEq,Nat.reduceBneDiff,iL,hi,lM,iN,cD,and_self,cT,bY,fc,fe,dI,eN,aa,aw,ff];refine D.Le.gH ?_;rw[←j4,bO (by omega),bO (by omega)]
 rfl
end
def Jv{α:Type}{q:α→α→Bool}:∀{l:List α},(∀x∈l,q x x=true)→tX q l l=true
 | [],_=>rfl
 |x::l,h=>by
  have:=Jv (l:=l) (q:=q) fun y hy=>h y (by simp[hy]);simp[tX,h x (by simp),this]
section
variable {P:Program}(hm:P.follows .mixedOrders = true)
def ajC{α:Type}(f:α→D)(sz:Nat):Enc (eS sz f) 1 false:=⟨by omega,fun _=>rfl,fun _=>rfl,fun _=>rfl⟩
end
def iP:List Nat→Nat→Bool
 | [],_=>false
 |a::l,k=>if a=k then true else iP l k
variable {k:Nat}
def WT:iP [] k=false:=rfl
def Qr{a:Nat}{l:List Nat}:iP (a::l) k=if a=k then true else iP l k:=rfl
attribute [go_sem] WT Qr
def iD(ks:List Nat):List (Nat×AV)→List (Nat×AV)
 | []=>[]
 |(k,v)::r=>if iP ks k=true then iD ks r else(k,v)::iD (k::ks) r
def TF{ks:List Nat}:iD ks []=[]:=rfl
def QL{ks:List Nat}{v:AV}{r:List (Nat×AV)}:iD ks ((k,v)::r)=if iP ks k=true then iD ks r else(k,v)::iD (k::ks) r:=rfl
attribute [go_sem] TF QL
def DX:∀{l:List Nat},iP l k=true↔k∈l
 | []=>by simp[iP]
 |a::l=>by
  simp only[iP]
  split
  ·next h=>simp[h]
  next h=>rw[DX];simp[cU h]
variable {e:List (Nat×AV)}
def D5:∀{ks:List Nat} {r:List (Nat×AV)},(∀t,t∉ks→lk e t=lk r t)→fR e (iD ks r)
 |_,[],_=>trivial
 |ks,(k,v)::r,h=>by
  simp only[iD]
  split
  ·next hk=>
   refine D5 fun t ht=>?_;rw[h t ht];have:k≠t:=by rintro rfl;exact ht (DX.1 hk)
   simp[lk,this]
  next hk=>
  refine⟨by rw[h k (fun hm=>hk (DX.2 hm))];simp[lk],D5 fun t ht=>?_⟩;simp only[ab,cj]at ht;rw[h t ht.2];simp[lk,cU ht.1]
def wr:∀{a b:List (Nat×AV)},fR e a→fR e b→fR e (a++b)
 | [],_,_,h=>h
 |(_,_)::_,_,h1,h2=>⟨h1.1,wr h1.2 h2⟩
def lv{P:Program}{c:RC}{K:Exit→St→Prop}{α:Type}{n:Nat}{env:List (Nat×AV)}{us:List (Nat×U)}(ks:List Nat)(ue:α→List (Nat×AV))(J:α→Prop)(μ:α→Nat)(x0:α)
  (h0:fR env (ue x0)) (hJ:J x0)
  (h:∀x,J x→sN P c ⟨n,ue x++iD ks env,us⟩ (zt (fun s=>∃y,J y∧μ y<μ x∧gO s ⟨n,ue y++iD ks env,us⟩) K)):sN P (.loop c) ⟨n,env,us⟩ K:=
 BU (fun x=>⟨n,ue x++iD ks env,us⟩) J μ x0 (gO.env (wr h0 (D5 fun _ _=>rfl))) hJ h
def gO.Eq{n:Nat}{e':List (Nat×AV)}{us us':List (Nat×U)}(hu:us=us')(h:fR e e'):gO ⟨n,e,us⟩ ⟨n,e',us'⟩:=hu▸gO.env h
variable {i:Nat}
def iw{α:Type}{p:α→Bool}{l:List α}(hi:i<l.length)(h:(l.take i).all p=true)(hx:p l[i]=true):(l.take (i+1)).all p=true:=by
 rw[dr hi,List.all_append,h];simp[hx]
def iW{α:Type}{p:α→Bool}{l:List α}(hi:¬i<l.length)(h:(l.take i).all p=true):l.all p=true:=by
 rwa [b9 (by omega)]at h
def jG{α:Type}{p:α→Bool}{l:List α}(hi:i<l.length)(hx:p l[i]=false):l.all p=false:=
 List.all_eq_false.2 ⟨l[i],aF hi,by simp[hx]⟩
def uq{nn:Option Bool}{sz:Nat}{ds:List D}(h:D.bd (.ls nn sz ds)):ds.length≤9223372036854775807:=by simp only[D.bd,gz]at h;exact h.1
def Wi{α:Type}{q:α→α→Bool}{l m:List α}{x y:α}{r:Bool}(j:(q x y&&tX q (l.drop (i+1)) (m.drop (i+1)))=r)(h:q x y=true):tX q (l.drop (i+1)) (m.drop (i+1))=r:=by
 rw[←j,h,bI]
section
variable {P:Program}(hm:P.follows .mixedOrders = true)
include hm
end
end Go.Ax
namespace Go.Ax
open Go.ChangeShapes Go.WideShapes Go.RowKit
section
variable {P:Program}
def Rd(P:Program)(n:Nat)(t:TypeId){α:Type}(f:α→D)(ok:α→Prop):Prop:=
 ∀(H:Type)(enc:TypeId×Value→H)(w:World)(cs:List Value)(x:DataW H×List MemPlace),
  DataW.trod enc P w 0 (fun _=>true) true n t cs=some x→∃a F,gJ w.heap (f a) F cs∧ok a
variable {t:TypeId}
def abI{α:Type}{f:α→D}{ok:α→Prop}:Rd P 0 t f ok:=by
 intro H enc w cs x h;simp[DataW.trod]at h
variable {n:Nat}
def U7{α β:Type}{f:α→D}{ok:α→Prop}{f':β→D}{ok':β→Prop}(g:α→β)(h1:∀a,f' (g a)=f a)(h2:∀a,ok a→ok' (g a))(h:Rd P n t f ok):Rd P n t f' ok':=by
 intro H enc w cs x hx;obtain⟨a,F,r,o⟩:=h _ enc w cs x hx;exact⟨g a,F,by rw[h1];exact r,h2 a o⟩
def aeG{k:IntKind}(ht:P.underlying t=some (.int k)):Rd P n t (fun m:Int=>.sc (.int k m)) (fun m=>(Lit.int k m).wf=true):=by
 intro H enc w cs x h;obtain⟨m,rfl,_,hw⟩:=DataW.trod_int ht h;exact⟨m,[],by simp[gJ,Value.oneCell'],hw⟩
def qe(a:Addr)(i:Nat):(a.add i).block=a.block:=by
 unfold Addr.add
 split<;>rfl
def Hx(a:Addr)(i:Nat):(a.add i).off=a.off+i:=by
 unfold Addr.add
 split<;>simp_all
variable {w:World}
def Cm{a:Addr}{cs:List Value}(h:w.cells? 0 a n=some cs)(hn:0<n):
  ∃c e fr,w.heap[a.block]?=some (.cells c e fr)∧a.spot=none∧a.off+n≤c.size∧cs=(c.toList.drop a.off).take n:=by
 unfold World.cells? at h;rw[af (aq _)]at h;have hl:cs.length=n:=by simpa using yQ h
 have hg:∀i,i<n→w.cell? (a.add i)=cs[i]?:=by
  intro i hi;obtain⟨b,h1,h2⟩:=qt h i i (by simp[hi]);rw[h1,h2]
 have h0:=hg 0 hn;rw[bb (by omega)]at h0;cases hb:w.heap[a.block]? with
 |none=>simp[World.cell?,qe,hb]at h0
 |some o=>
  cases o with
  |cells c e fr=>
   have hsp:a.spot=none:=by
    cases hs:a.spot with
    |none=>rfl
    |some s=>simp[World.cell?,Addr.add,hb,hs]at h0
   have hc:∀i,i<n→c[a.off+i]?=cs[i]?:=by
    intro i hi;have:=hg i hi;have Eb:(a.add i).spot.isSome=false:=by
     cases Eb:(a.add i).spot.isSome with
     |false=>rfl
     |true=>
      rw[bb (by omega)]at this;simp[World.cell?,qe,hb,Eb]at this
    simpa[World.cell?,qe,Hx,hb,Eb]using this
   have OZ:=hc (n-1) (by omega);rw[bb (by omega)]at OZ;have hle:=(bc.1 OZ).1;refine⟨c,e,fr,rfl,hsp,by omega,?_⟩
   apply eQ
   intro i
   by_cases hi:i<n
   ·rw[←hc i hi,dL hi,cZ,cE]
   rw[ed (by omega),ed (by simp;omega)]
  |_=>simp[World.cell?,qe,hb]at h0
def Fk{h:jv}{α:Type}{f:α→D}{ok:α→Prop}{c:List Value}{sz:Nat}:
  ∀(m o:Nat),(∀i,i<m→∃a F,gJ h (f a) F ((c.drop (o+i*sz)).take sz)∧ok a)→
   ∃(as:List α) (F:List Nat),as.length=m∧gt h (as.map f) F ((c.drop o).take (m*sz))∧∀a∈as,ok a
 |0,o,_=>⟨[],[],rfl,by simp[gt],by simp⟩
 |m+1,o,hr=>by
  obtain⟨a,F,h1,h2⟩:=hr 0 (by omega);obtain⟨as,F',h3,h4,h5⟩:=Fk m (o+sz) fun i hi=>by
   have:=hr (i+1) (by omega);rw[show o+(i+1)*sz=o+sz+i*sz by rw[aT];omega]at this;exact this
  refine⟨a::as,F++F',by simp[h3],?_,by simp;exact⟨h2,h5⟩⟩;simp only[lC,gt];refine⟨F,F',_,_,rfl,?_,by simpa using h1,h4⟩;rw[show(m+1)*sz=sz+m*sz by rw[aT];omega,List.take_add,cx]
def SQ{n:Nat}{e:TypeId}{sz:Nat}{α:Type}{f:α→D}{ok:α→Prop}(ht:P.underlying t=some (.slice e))(hs:P.cellsOf e=sz)(h0:0<sz)(hf:∀a,(f a).size=sz)
  (h:Rd P n e f ok):Rd P (n+1) t (eS sz f) (fun s=>((s.1=some true→s.2=[])∧s.1.isSome=true)∧s.2.length≤gz∧∀a∈s.2,ok a):=by
 intro H enc w cs x hx;rcases DataW.trod_slice ht hx with⟨rfl,rfl⟩|⟨a,len,cap,elems,rest,m,hm,rfl,rfl,hb,hlc,hcm,hlen,pz,hre,_⟩
 ·refine⟨(some true,[]),[],?_,by simp,by simp[gz],by simp⟩;simp only[gJ,eS];exact .inl ⟨none,by simp⟩
 obtain rfl:n=m:=by omega
 obtain⟨In,hre⟩:=hre rfl
 by_cases XX:cap=0
 ·subst XX;obtain rfl:len=0:=by omega
  refine⟨(some false,[]),[],?_,by simp,by simp[gz],by simp⟩;simp only[gJ,eS];exact .inl ⟨some a,by simp⟩
 have NC:∀j,j<cap→∃c,w.cells? 0 (a.add (j*sz)) sz=some c∧∃y,DataW.trod enc P w 0 (fun _=>true) true n e c=some y:=by
  intro j hj;rw[hs]at pz hre
  by_cases hjl:j<len
  ·have:=pz j hjl;rw[bb (by omega),oB]at this;obtain⟨c,h1,h2⟩:=this;exact⟨c,h1,_,h2⟩
  have:=hre (j-len) (by omega);rw[bb (by omega),oB,show len+(j-len)=j by omega]at this;obtain⟨c,h1,h2⟩:=this;exact⟨c,h1,_,h2⟩
 obtain⟨c1,iS,_⟩:=NC (cap-1) (by omega);obtain⟨c,e',fr,R6,_,jP,_⟩:=Cm iS h0;obtain⟨c2,jw,_⟩:=NC 0 (by omega);obtain⟨_,_,_,_,hsp,_,_⟩:=Cm jw h0;simp only[et,show ∀a:Addr,a.add 0=a from fun a=>by simp[Addr.add]]at hsp;simp only[qe,Hx]at R6 jP;have iy:a.off+cap*sz≤c.size:=by
  have:cap*sz=(cap-1)*sz+sz:=by
   conv=>lhs;rw[show cap=cap-1+1 by omega,aT,ej]
  omega
 obtain⟨as,F,q1,q2,q3⟩:=Fk (h:=w.heap) (f:=f) (ok:=ok) (c:=c.toList) (sz:=sz) len a.off fun i hi=>by
  obtain⟨ci,hci,y,hy⟩:=NC i (by omega);obtain⟨c',e'',fr',afP,_,_,sC⟩:=Cm hci h0;simp only[qe,Hx]at afP sC;rw[R6]at afP;cases afP;obtain⟨z,F,r1,r2⟩:=h _ enc w ci y hy;exact⟨z,F,by rw[←sC];exact r1,r2⟩
 refine⟨(some false,as),a.block::F,?_,by simp,by simp[q1];exact cB (cB hlc hcm) (by decide),q3⟩;simp only[gJ,eS];refine .inr ⟨a.block,a.off,cap,c,e',fr,F,?_,rfl,by simp,by simp[q1,hlc],by simp[q1];exact cB (cB hlc hcm) (by decide),R6,iy,?_,by simpa[q1]using q2⟩
 ·rw[lM,q1];congr 3;cases a;simp_all
 intro d hd;obtain⟨z,_,rfl⟩:=aB.1 hd;exact hf z
def Arg(P:Program)(t:TypeId){α:Type}(f:α→D)(ok:α→Prop):Prop:=
 (∀ n, Rd P n t f ok) ∧ (((∀ a, (f a).fX = true) ∧ ∃ fs, P.underlying t = some (.struct fs)) ∨
  ((∀a,(f a).fX=false)∧(match P.underlying t with|some (.struct _)|some (.array _ _)=>false|_=>true)=true))
def abk{h:jv}{d:D}{F:List Nat}{cs:List Value}(hr:gJ h d F cs)(hd:d.fX=false):∃c,cs=[c]∧c.oneCell'=true:=by
 cases d with
 |sc v=>simp only[gJ]at hr;exact⟨v,hr.2.1,hr.2.2⟩
 |ag ds=>simp[D.fX]at hd
 |ls nn sz ds=>
  simp only[gJ]at hr;rcases hr with⟨p,rfl,_⟩|⟨b,off,cap,c,e,fr,F',rfl,_⟩
  exact⟨_,rfl,rfl⟩;exact⟨_,rfl,rfl⟩
 |pt d j=>
  simp only[gJ]at hr;obtain⟨b,off,c,e,fr,F',rfl,_⟩:=hr;exact⟨_,rfl,rfl⟩
 |jk=>simp only[gJ]at hr;obtain⟨_,v,rfl,hv⟩:=hr;exact⟨v,rfl,hv⟩
 |fn f ds=>simp only[gJ]at hr;obtain⟨vs,rfl,_⟩:=hr;exact⟨_,rfl,rfl⟩
 |lc b o d=>simp only[gJ]at hr;rcases hr.1 with⟨_,_,rfl⟩|rfl<;>exact⟨_,rfl,rfl⟩
def Uc{α:Type}{f:α→D}{ok:α→Prop}(ha:Arg P t f ok){H:Type}{enc:TypeId×Value→H}{w:World}{b:Nat}{v:Value}{d:DataW H}{ps:List MemPlace}
  (ho:Value.okWide P w .any b t v) (h:DataW.Trod enc P w 0 (fun _=>true) true t v d ps):∃a F,gJ w.heap (f a) F v.cells.toList∧(f a).fits v∧ok a:=by
 obtain⟨n,hn⟩:=h;obtain⟨a,F,r,o⟩:=ha.1 n _ enc w _ _ hn;refine⟨a,F,r,?_,o⟩;rcases ha.2 with⟨h1,fs,hs⟩|⟨h1,h2⟩
 ·simp only[Value.okWide,hs]at ho;obtain⟨cs,rfl,_⟩:=ho;have h1:=h1 a;cases hd:f a with
  |ag ds=>exact⟨_,rfl⟩
  |_=>simp[hd,D.fX]at h1
 have h1:=h1 a;obtain⟨c,hc,iS⟩:=abk r h1;have hv:v.oneCell'=true:=by
  cases v with
  |agg cs=>
   exfalso;cases hu:P.underlying t with
   |none=>simp[Value.okWide,hu,Cell.okWide,Cell.ok]at ho
   |some u=>cases u<;>simp_all [Value.okWide,Cell.okWide,Cell.ok]
  |_=>simp_all [Value.cells]
 cases hd:f a with
 |ag ds=>simp[hd,D.fX]at h1
 |_=>exact hv
def Uu{t':TypeId}{α β:Type}{f:α→D}{ok:α→Prop}{f':β→D}{ok':β→Prop}(ha:Arg P t f ok)(vo:Arg P t' f' ok'){H:Type}{enc:TypeId×Value→H}{w:World}{b:Nat}{args:Array Value}{ds:List (DataW H)}{ps:List MemPlace}
  (ho:∀(j:Nat) u v,[t,t'][j]?=some u→args[j]?=some v→Value.okWide P w .any b u v) (h:DataW.TrodAll enc P w 0 (fun _=>true) true [t,t'] args.toList ds ps):
  ∃a a',je w.heap (fun _=>True) [f a,f' a'] args.toList∧ok a∧ok' a':=by
 obtain⟨v,v',d,d',p,p',rfl,rfl,rfl,h1,h2⟩:=trodAll_two h;obtain⟨a,F,r,q,o⟩:=Uc ha (ho 0 t v rfl rfl) h1;obtain⟨a',F',r',q',o'⟩:=Uc vo (ho 1 t' v' rfl rfl) h2;exact⟨a,a',by simp only[je];exact⟨v,_,F,rfl,r,q,fun _ _=>trivial,v',_,F',rfl,r',q',fun _ _=>trivial,rfl⟩,o,o'⟩
def wI{H:Type}{enc:TypeId×Value→H}(hl:laidOutB P=true){W W':World}(hb:Below W.heap.size W W'){sp:Nat→Bool}:
  ∀{ts:List TypeId} {vs:List Value} {ds:List (DataW H)} {ps:List MemPlace},(∀t∈ts,P.readableRec t=true∧t<P.types.size)→(∀x∈ps,x.block<W.heap.size)→(∀x∈ps,sp x.block=true)→
   DataW.TrodAll enc P W 0 (fun _=>true) true ts vs ds ps→DataW.TrodAll enc P W' 0 sp true ts vs ds ps
 | [],_,_,_,_,_,_,h=>by
  obtain⟨rfl,rfl,rfl⟩:=trodAll_nil h
  rfl
 |t::ts,_,_,_,ht,iq,hs,h=>by
  obtain⟨v,vs,d,ds,p,q,rfl,rfl,rfl,h1,h2⟩:=trodAll_cons h;exact⟨p,q,WideElems.Trod_stays hl (ht t (by simp)).1 (ht t (by simp)).2 h1 (fun x hx=>hb.same (iq x (by simp[hx]))) (fun x hx=>hs x (by simp[hx])),
   wI hl hb (fun t' h'=>ht t' (by simp[h'])) (fun x hx=>iq x (by simp[hx])) (fun x hx=>hs x (by simp[hx])) h2,rfl⟩
def PU{f:Func}{s:ChangeSpec}{H:Type}{enc:TypeId×Value→H}{t:TypeId}{W W':World}{args:Array Value}{ds gs:List (DataW H)}{before:List MemPlace}
  (hl:laidOutB P=true) (K8:s.vars=[]) (fM:f.resultTypes= #[t]) (ht:P.underlying t=some .bool) (hp:∀t∈f.params.toList,P.readableRec t=true∧t<P.types.size)
  (hs:(s.fn H (ds++gs)).results=[.lit (.bool true)]∧(s.fn H (ds++gs)).args=ds∧(s.fn H (ds++gs)).vars=[])
  (hW:DataW.Whole enc P f.params.toList s.vars false W args.toList ds gs before) (hb:Below W.heap.size W W'):
  s.post enc P f false true false false W args (.bool true) W':=by
 have iq:=hW.lt;obtain⟨p,q,h1,h2,rfl,h3,h4⟩:=id hW;rw[K8]at h2;obtain⟨rfl,rfl⟩:=trodVars_none h2;simp only[aI]at iq;refine⟨ds,[],p++[],[],p,[],hW,?_,?_,?_,World.keptBut_mono (fun x hx=>⟨hx,.inr (.inl (by simpa using hx))⟩) (hb.frame (·∈p++[])),fun h=>by cases h⟩
 ·rw[hs.1,fM];refine trodAll_mk1 ?_;exact⟨1,by simp[Value.cells,DataW.trod,ht]⟩
 rw[hs.2.1];exact wI hl hb hp iq (fun x hx=>by simpa using iq x hx) h1;rw[hs.2.2,K8]
 rfl
def Kj{C:Checked}{os:Os}{f:FuncId}{fn:Func}{s:ChangeSpec}{H:Type}{enc:TypeId×Value→H}{t:TypeId}
  (own:ownKnob C.prog.godebug=none) (started:os.Started) (afQ:C.prog.inits.idxOf? f=none) (hfn:C.prog.funcs[f]?=some fn)
  (hl:laidOutB C.prog=true) (K8:s.vars=[]) (fM:fn.resultTypes= #[t]) (ht:C.prog.underlying t=some .bool) (hp:∀t∈fn.params.toList,C.prog.readableRec t=true∧t<C.prog.types.size)
  (hs:∀ds:List (DataW H),ds.length=fn.params.size→(s.fn H ds).results=[.lit (.bool true)]∧(s.fn H ds).args=ds∧(s.fn H ds).vars=[])
  (witness : ∃ (w : World) (tape : Tape) (i : Input), w.os = os ∧ (w.forCall tape i).Shaped C.prog ∧ i.vars = [] ∧ Input.okWide C.prog (w.forCall tape i) .any w.heap.size f i ∧
   s.pre6 enc C.prog fn [] false (w.forCall tape i).memory i.args∧({}:Assume).holds C.prog (lone (Frame.enter C.prog f i.args .normal) [] (w.forCall tape i)))
  (h : ∀(W : World)(b : Nat)(args : Array Value)(ds : List (DataW H))(ps : List MemPlace), (∀(j : Nat) u v, fn.params.toList[j]? = some u → args[j]? = some v → Value.okWide C.prog W .any b u v) →
   DataW.TrodAll enc C.prog W 0 (fun _=>true) true fn.params.toList args.toList ds ps→∃DS,AF C.prog f DS (.own (eB true))∧je W.heap (fun _=>True) DS args.toList):
  ReturnsInHanded {} C os f .any (s.pre6 enc C.prog fn [] false) (s.post enc C.prog fn false true false false):=by
 refine returnsInHanded_of_change own started afQ hfn witness ?_;intro W base args ds gs before zc hW _ _;obtain⟨p,q,hA,hV,_,_,_⟩:=id hW;rw[K8]at hV;obtain⟨rfl,rfl⟩:=trodVars_none hV;obtain⟨DS,hAF,hR⟩:=h W base args ds p (fun j u v h1 h2=>zc j u v (by simpa using h1) h2) hA;have hlen:ds.length=fn.params.size:=by
  have:∀{ts:List TypeId} {vs:List Value} {ds:List (DataW H)} {ps:List MemPlace},DataW.TrodAll enc C.prog W 0 (fun _=>true) true ts vs ds ps→ds.length=ts.length:=by
   intro ts
   induction ts with
   |nil=>intro vs ds ps h;obtain⟨rfl,rfl,rfl⟩:=trodAll_nil h;rfl
   |cons t ts ih=>
    intro vs ds ps h;obtain⟨v,vs,d,ds,p,q,rfl,rfl,rfl,h1,h2⟩:=trodAll_cons h;simp[ih h2]
  simpa using this hA
 have:=hAF.2 W args.toList (fun _=>True) hR;rw[show args.toList.toArray=args from by simp]at this;refine this.mono ?_;rintro e W' ⟨v,F,G,rfl,hb,hr,_⟩;simp only[jr,gJ,eB]at hr;obtain⟨_,⟨_,hc,_⟩,hf⟩:=hr;have hv:v=.bool true:=by
  cases v<;>simp_all [Value.cells,D.fits,Value.oneCell']
 subst hv;exact⟨_,rfl,PU hl K8 fM ht hp (by simpa using hs ds hlen) hW hb⟩
end
end Go.Ax
attribute [go_sem] decide_true decide_false and_self true_and and_true false_and and_false not_true_eq_false not_false_eq_true false_implies true_implies implies_true ge_iff_le Bool.false_eq_true List.cons_append List.nil_append
attribute [go_sem_proc] Nat.reduceEqDiff Nat.reduceAdd Nat.reduceLeDiff Nat.reduceLT Nat.reduceBEq Nat.reduceBneDiff
attribute [go_sem_proc ↓] reduceIte
namespace Go.Ax
abbrev D.ze:D:=.ag [.sc (.int .i64 0),.sc (.int .i64 0),.ls (some true) 3 []]
abbrev D.zp:D:=.ag [.sc (.int .i64 0),.sc (.int .i64 0),.sc (.int .i64 0),.sc (.int .i64 0),.ls (some true) 3 [],.ls (some true) 6 []]
abbrev X.cf:X:=.c (.sc (.bool false))
abbrev X.ct:X:=.c (.sc (.bool true))
abbrev X.ci(n:Int):X:=.c (.sc (.int .i64 n))
abbrev RO.m(d s:Nat):RO:=⟨none,.mv d (.t s)⟩
abbrev RO.f(d o s:Nat):RO:=⟨none,.fa d o (.t s)⟩
abbrev RO.l(d z s:Nat):RO:=⟨none,.ld d false z (.t s)⟩
abbrev RO.L(d z s:Nat):RO:=⟨none,.ld d true z (.t s)⟩
abbrev RO.q(d s:Nat)(n:Int):RO:=⟨none,.bin d .eql (.t s) (.ci n)⟩
abbrev RO.k(d c a:Nat):RO:=⟨none,.pick d (.t c) (.t a) .cf⟩
abbrev RO.s(z a x:Nat):RO:=⟨none,.st z (.t a) (.t x)⟩
abbrev RO.n(d s:Nat):RO:=⟨none,.nck d (.t s)⟩
abbrev RO.b(d z s:Nat):RO:=⟨none,.box d z (.t s)⟩
abbrev RO.i(d z s:Nat)(n:Int):RO:=⟨none,.ia d z (.t s) (.ci n)⟩
abbrev RO.o(o:oT):RO:=⟨none,o⟩
abbrev RO.w(n:Nat)(o:oT):RO:=⟨some (n,true),o⟩
abbrev RO.u(n:Nat)(o:oT):RO:=⟨some (n,false),o⟩
abbrev RC.r(l:List RO):RC:=.jI false l
abbrev RC.s(l:List RO)(c:RC):RC:=.seq (.jI false l) c
abbrev RO.c(d f:Nat)(l:List X):RO:=⟨none,.call (some d) f l⟩
abbrev RO.v(d:Nat)(x:X):RO:=⟨none,.mv d x⟩
abbrev RO.wm(n d s:Nat):RO:=⟨some (n,true),.mv d (.t s)⟩
attribute [go_sem] D.ze D.zp X.cf X.ct X.ci RO.m RO.f RO.l RO.L RO.q RO.k RO.s RO.n RO.b RO.i RO.o RO.w RO.u RC.r RC.s RO.c RO.v RO.wm
end Go.Ax
