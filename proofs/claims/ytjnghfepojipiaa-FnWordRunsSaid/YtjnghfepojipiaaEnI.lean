/- THE ENGINE, PART 9: a generator of conditions over the register code, and its soundness. No condition. -/
import Derived.Test.YtjnghfepojipiaaEnH
import Derived.ProofKit
set_option linter.unusedSimpArgs false
set_option linter.unusedVariables false
set_option linter.unnecessarySimpa false
set_option linter.unusedSectionVars false
namespace Go.Ax

variable {P : Program} {wv : Wv} {n0 : Nat} {S0 M0 : Nat → Prop} {w0 : World}

def gM:Nat→List AV→List (Nat×AV)
 |_,[]=>[]
 |i,a::as=>(i,a)::gM (i+1) as
def GF(n:Nat)(us:List U)(as:List AV):St:=⟨n,gM 0 as,bX 0 us⟩

theorem uB{h:aE}{us:List (Nat×U)}{g:Gh}:∀{as:List AV} {vs:List Value} (i:Nat),ah h us g as vs→∀t,
  (∀d,lk (gM i as) t=d→d=.any∨∃v,vs[t-i]?=some v∧i≤t∧ab h us g d v)
 | [],_,i,_,t=>by intro d hd;simp[gM,lk]at hd;exact .inl hd.symm
 |a::as,vs,i,hr,t=>by
  simp only[ah]at hr;obtain⟨v,r,rfl,h1,h4⟩:=hr;intro e he;simp only[gM,lk]at he
  split at he
  ·next hi=>
   subst hi;subst he;exact .inr ⟨v,by simp,Nat.le_refl _,h1⟩
  ·next hi=>
   rcases uB (i+1) h4 t e he with h|⟨v',hv,hle,hr⟩
   ·exact .inl h
   ·refine .inr ⟨v',?_,by omega,hr⟩;rw[show t-i=(t-(i+1))+1 by omega];simpa using hv
theorem uL{h:aE}{us:List (Nat×U)}{g:Gh}:∀{as:List AV} {vs:List Value},ah h us g as vs→vs.length=as.length
 | [],vs,hr=>by simp only[ah]at hr;simp[hr]
 |a::as,vs,hr=>by
  simp only[ah]at hr;obtain⟨v,r,rfl,_,h2⟩:=hr;simp[uL h2]

def It(n0:Nat)(us:List U)(g:Gh)(b:Nat):Prop:=
 (b<n0∧b∈fp g (bX 0 us))∨(∃k v,k<us.length∧g.β (3000000000+k)=some v∧b=n0+(16*v+k))∨(∃k,k<us.length∧b=n0+(16*g.cap (3000000000+k)+(8+k)))

theorem sU{w:World}{old:Nat→Prop}{us:List U}{as:List AV}{vs:List Value}{n:Nat}{g:Gh}(hW:CS w.heap old us g)(ha:ah w.heap (bX 0 us) g as vs)(hn:as.length≤n)(h8:us.length≤8):
  dH w.heap.size (fun b=>old b∨b∈fp g (bX 0 us)) (It w.heap.size us g) w (GF n us as) {tmps:=vs.toArray++Array.replicate (n-vs.toArray.size) undef,defers:=[]} w:=by
 have hl:=uL ha;refine⟨fun b hb hm=>?_,rfl,by simp[GF];omega,rfl,rfl,rfl,rfl,Nat.le_refl _,fun _ _ _=>rfl,g,⟨ij,hW.nodup,hW.lt,fun b hb hlt=>.inl ⟨hlt,hb⟩,hW.dead,fun b hb=>⟨(hW.sh b hb).1,fun _=>.inl (hW.sh b hb).2.1,(hW.sh b hb).2.2⟩,hW.each,hW.fz,?_⟩,fun t=>?_⟩
 ·rcases hm with⟨_,h⟩|⟨k,v,_,_,rfl⟩|⟨k,_,rfl⟩
  ·exact .inr h
  ·omega
  ·omega
 ·intro k v hk _;refine⟨fun hm=>?_,fun hm _=>?_⟩
  ·rcases hm with⟨h,_⟩|⟨k',v',hk',h,e⟩|⟨k',hk',e⟩
   ·omega
   ·have:k'=k:=by omega
    subst this;have:v'=v:=by omega
    subst this;exact h
   ·omega
  ·rcases hm with⟨h,_⟩|⟨k',v',hk',h,e⟩|⟨k',hk',e⟩
   ·omega
   ·omega
   ·have:k'=k:=by omega
    subst this;omega
 ·rcases uB 0 ha t _ rfl with h|⟨v,hv,_,hr⟩
  ·simp only[GF];rw[h];simp[ab]
  ·have hlt:t<vs.length:=(List.getElem?_eq_some_iff.1 hv).1;have e:(vs.toArray++Array.replicate (n-vs.toArray.size) undef).getD t undef=v:=by
    rw[Array.getD_eq_getD_getElem?,Array.getElem?_append_left (by simpa using hlt)];simp at hv;simp[hv]
   rw[e];exact hr

def Fw:U→Prop
 |.ar _ _ _ es=>D.bdL es
 |.own d=>d.bd
 |.bx _ _=>True
 |.sb _ _ _=>True
def yk:List U→Prop
 | []=>True
 |u::r=>Fw u∧yk r
def Qi:AV→Prop
 |.im _ d=>d.bd
 |_=>True
def Ab:List AV→Prop
 | []=>True
 |a::r=>Qi a∧Ab r
theorem BE{h:aE}{us:List (Nat×U)}{g:Gh}:∀{as:List AV} {vs:List Value},ah h us g as vs→Ab as
 | [],_,_=>by simp[Ab]
 |a::as,vs,hr=>by
  simp only[ah]at hr;obtain⟨v,r,rfl,h1,h2⟩:=hr;refine⟨?_,BE h2⟩;cases a with
  |im t d=>simp only[ab]at h1;obtain⟨F,q,_⟩:=h1;exact q.bd
  |_=>simp[Qi]
theorem Fa{us:List U}(H:∀u∈us,Fw u):yk us:=by
 induction us with
 |nil=>simp[yk]
 |cons u r ih=>exact⟨H u (by simp),ih fun v hv=>H v (by simp[hv])⟩
theorem CS.bd{h:aE}{old:Nat→Prop}{us:List U}{g:Gh}(hW:CS h old us g):yk us:=by
 refine Fa fun u hu=>?_;obtain⟨i,hi,rfl⟩:=List.getElem_of_mem hu;have hm:(3000000000+(0+i),us[i])∈bX 0 us:=cE.2 ⟨i,us[i],by simp[hi],rfl⟩;have ho:=hW.each _ hm;generalize us[i]=u at ho;cases u with
 |ar ow nn sz es=>
  simp only[cm]at ho;simp only[Fw];rcases ho.2.2 with⟨_,rfl,_⟩|⟨b,c,e,G,cs,rest,_,_,_,_,_,k6,_⟩
  ·simp[D.bdL]
  ·exact k6.bd
 |own d=>
  simp only[cm]at ho;exact ho.2.1.bd
 |bx sz items=>simp[Fw]
 |sb T E s=>simp[Fw]

def AP(st:St)(av:AV)(r:gz)(k:St→Prop):Prop:=
 match r with
 |.own d=>gd st av (ER d k)
 |_=>False
def ie(k:St→Prop):List AV→List gz→St→Prop
 | [],[],st=>k st
 |av::avs,r::rs,st=>AP st av r (ie k avs rs)
 |_,_,_=>False
def AI(u:Option U)(x:U):Prop:=
 match u,x with
 |some (.ar ow nn sz es),.ar ow' nn' sz' es'=>ow=ow'∧nn=none∧nn'=none∧sz=sz'∧es=es'
 |some (.bx sz items),.bx sz' items'=>sz=sz'∧items=items'
 |some (.sb T E s),.sb T' E' s'=>T=T'∧E=E'∧s=s'
 |_,_=>False
def kj(st:St):Nat→List U→Prop
 |_,[]=>True
 |i,x::r=>AI (st.unit (3000000000+i)) x∧kj st (i+1) r
def ou(xs:List RV)(us':List U)(st:St)(r:gz)(avs:List AV):Prop:=
 match r with
 |.tup rs=>xs.length≠1∧ie (fun st=>kj st 0 us') avs rs st
 |r=>xs.length=1∧ie (fun st=>kj st 0 us') avs [r] st
def vM(xs:List RV)(us':List U)(r:gz)(st:St):Prop:=nI st xs (ou xs us' st r)
def BI(xs:List RV)(us':List U)(r:gz)(e:Exit)(st:St):Prop:=
 match e with
 |.normal=>vM xs us' r st
 |.ret=>vM xs us' r st
 |_=>False

def CG(m:Nat):List U→Bool
 | []=>true
 |.bx _ items::r=>eL m items&&CG m r
 |_::r=>CG m r
theorem sX{m:Nat}:∀{us:List U},CG m us=true→∀sz items,U.bx sz items∈us→eL m items=true
 | [],_,_,_,h=>by cases h
 |u::r,h,sz,items,hm=>by
  cases u with
  |bx sz' items'=>
   simp only[CG,bA]at h;rcases List.mem_cons.1 hm with e|hm
   ·cases e;exact h.1
   ·exact sX h.2 sz items hm
  |_=>
   simp only[CG]at h;rcases List.mem_cons.1 hm with e|hm
   ·cases e
   ·exact sX h sz items hm
def AY:List U→List U→Bool
 |_,[]=>true
 |u::r,_::r'=>u.isPin&&AY r r'
 | [],_::_=>false
theorem tM:∀{us us':List U},AY us us'=true→us'.length≤us.length∧∀i (h:i<us'.length),∃u,us[i]?=some u∧u.isPin=true
 |us,[],_=>by simp
 | [],_::_,h=>by cases h
 |u::r,u'::r',h=>by
  simp only[AY,bA]at h;obtain⟨h1,h2⟩:=tM h.2;refine⟨by simp[h1],fun i hi=>?_⟩;cases i with
  |zero=>exact⟨u,rfl,h.1⟩
  |succ i=>
   obtain⟨v,q1,q2⟩:=h2 i (by simpa using hi);exact⟨v,by simpa using q1,q2⟩
mutual
theorem FW{h:aE}{us us2:List (Nat×U)}{g:Gh}{m:Nat}(hA:∀k,3000000000≤k→k<3000000000+m→∀u,(k,u)∈us→(k,u)∈us2):∀{av:AV} {v:Value},av.okW m=true→ab h us g av v→ab h us2 g av v
 |.im none d,v,ho,hr=>by simpa only[ab]using hr
 |.im (some t) d,v,ho,hr=>by simp[AV.okW]at ho
 |.pw k el j,v,ho,hr=>by
  simp only[AV.okW,bA,decide_eq_true_eq]at ho;simp only[ab]at hr⊢;obtain⟨ow,nn,sz,es,b,r1,r2,r3,r4,r5⟩:=hr;exact⟨_,_,_,_,b,hA k ho.1 ho.2 _ r1,r2,r3,r4,r5⟩
 |.pb k j,v,ho,hr=>by
  simp only[AV.okW,bA,decide_eq_true_eq]at ho;simp only[ab]at hr⊢;obtain⟨sz,items,b,r1,r2,r3⟩:=hr;exact⟨_,_,b,hA k ho.1 ho.2 _ r1,r2,r3⟩
 |.cl f vs,v,ho,hr=>by
  simp only[AV.okW]at ho;simp only[ab]at hr⊢;obtain⟨xs,r1,r2⟩:=hr;exact⟨xs,ot hA ho r1,r2⟩
 |.sg vs,v,ho,hr=>by
  simp only[AV.okW]at ho;simp only[ab]at hr⊢;obtain⟨xs,r1,r2⟩:=hr;exact⟨xs,ot hA ho r1,r2⟩
 |.tr _,v,ho,hr=>by simp[AV.okW]at ho
 |.cw _ _ _ _ _,v,ho,hr=>by simp[AV.okW]at ho
 |.sm _ _ _,v,ho,hr=>by simp[AV.okW]at ho
 |.vb _ _,v,ho,hr=>by simp[AV.okW]at ho
 |.tup _,v,ho,hr=>by simp[AV.okW]at ho
 |.any,v,ho,hr=>by simp[AV.okW]at ho
 |.ps _,v,ho,hr=>by simp[AV.okW]at ho
 |.pq _ _ _ _ _ _,v,ho,hr=>by simp[AV.okW]at ho
 |.qs _ _ _ _ _ _,v,ho,hr=>by simp[AV.okW]at ho
 |.ss _ _ _,v,ho,hr=>by simp[AV.okW]at ho
 |.z0 _ _,v,ho,hr=>by simp[AV.okW]at ho
theorem ot{h:aE}{us us2:List (Nat×U)}{g:Gh}{m:Nat}(hA:∀k,3000000000≤k→k<3000000000+m→∀u,(k,u)∈us→(k,u)∈us2):∀{avs:List AV} {vs:List Value},eL m avs=true→ah h us g avs vs→ah h us2 g avs vs
 | [],vs,_,hr=>by simpa[ah]using hr
 |a::as,vs,ho,hr=>by
  simp only[eL,bA]at ho;simp only[ah]at hr⊢;obtain⟨v,r,rfl,h1,h2⟩:=hr;exact⟨v,r,rfl,FW hA ho.1 h1,ot hA ho.2 h2⟩
end

theorem sv{st:St}:∀{us':List U} {n:Nat},kj st n us'→∀x∈bX n us',x∈st.us∧x.2.isPin=true
 | [],_,_,x,hx=>by simp[bX]at hx
 |u::r,n,h,x,hx=>by
  simp only[bX,List.mem_cons]at hx;rcases hx with rfl|hx
  ·have:=h.1;unfold AI at this
   split at this
   ·next ow nn sz es ow' nn' sz' es' hun=>
    obtain⟨rfl,rfl,rfl,rfl,rfl⟩:=this;exact⟨lO hun,rfl⟩
   ·next sz items sz' items' hun=>
    obtain⟨rfl,rfl⟩:=this;exact⟨lO hun,rfl⟩
   ·next T E s T' E' s' hun=>
    obtain⟨rfl,rfl,rfl⟩:=this;exact⟨lO hun,rfl⟩
   ·exact this.elim
  ·exact sv h.2 x hx

theorem uW{h:aE}{st1:St}{tm:Nat→Value}{g0:Gh}{k:St→Prop}(h0:aZ h n0 S0 M0 st1.us g0):∀{avs:List AV} {vs:List Value} {rs:List gz} {st:St} {g:Gh},cI h n0 S0 M0 st1 st tm g0 g→ah h st1.us g0 avs vs→ie k avs rs st→
  ∃F st' g',cI h n0 S0 M0 st1 st' tm g0 g'∧k st'∧da h rs F [] vs∧F.Nodup∧(∀b∈F,¬g.Sh b∧b∈fp g st.us∧b∉fp g' st'.us)∧(∀b,g'.Sh b↔g.Sh b)∧(∀b,b∈fp g' st'.us→b∈fp g st.us)
 | [],vs,rs,st,g,T,hr,hk=>by
  simp only[ah]at hr;subst hr;cases rs with
  |nil=>exact⟨[],st,g,T,hk,by simp[da],List.nodup_nil,by simp,fun _=>Iff.rfl,fun _ h=>h⟩
  |cons=>simp[ie]at hk
 |av::avs,vs,rs,st,g,T,hr,hk=>by
  simp only[ah]at hr;obtain⟨v,vs',rfl,hv,hvs⟩:=hr;cases rs with
  |nil=>simp[ie]at hk
  |cons r rs=>
   simp only[ie]at hk;unfold AP at hk
   split at hk
   ·next d=>
    obtain⟨own,d',st',g',F1,⟨rfl,hle,hk'⟩,T',r1,r2,⟨o1,_⟩,hsh,hfp⟩:=vJ h0 T hv hk;obtain⟨on,o2⟩:=o1 rfl;obtain⟨F2,st2,g2,T2,hk2,p1,p2,p3,p4,p5⟩:=uW h0 T' hvs hk';refine⟨F1++F2,st2,g2,T2,hk2,?_,?_,?_,fun b=>(p4 b).trans (hsh b),fun b hb=>hfp b (p5 b hb)⟩
    ·simp only[da];exact⟨F1,F2,[],[],v,vs',rfl,rfl,rfl,by simp only[co];exact⟨trivial,hle.1 _ _ _ r1,hle.2 _ r2⟩,p1⟩
    ·refine List.nodup_append.2 ⟨on,p2,fun x hx y hy e=>?_⟩;subst e;exact(o2 x hx).2.2.1 (p3 x hy).2.1
    ·intro b hb;rcases List.mem_append.1 hb with hb|hb
     ·obtain⟨_,q1,q2,q3⟩:=o2 b hb;exact⟨fun hs=>q1 ((hsh b).2 hs),q3,fun hf=>q2 (p5 b hf)⟩
     ·obtain⟨q1,q2,q3⟩:=p3 b hb;exact⟨fun hs=>q1 ((hsh b).2 hs),hfp b q2,q3⟩
   ·exact hk.elim

theorem aX{f n:Nat}{rc:RC}{xs:List RV}(h:fc P wv f=some (n,rc,xs))(hm:P.follows .mixedOrders=true){us us':List U}{as:List AV}{r:gz}(hn:decide (as.length≤n)=true)(h8:decide (us.length≤8)=true)(hpu:(AY us us'&&CG us'.length us')=true)
  (hq:yk us→Ab as→jD P rc (GF n us as) (BI xs us' r)):AE P f us as us' r:=by
 have hn:as.length≤n:=by simpa using hn
 have h8:us.length≤8:=by simpa using h8
 rw[bA]at hpu;obtain⟨hl,hpi⟩:=tM hpu.1;unfold fc at h;simp only[oD,oB,oP,oS,ae,Prod.mk.injEq]at h;obtain⟨fn,hf,c,hb,_,hname,rc',hres,xs',hxs,rfl,rfl,rfl⟩:=h;refine⟨⟨fn,hf,by simp[hb],by simpa using hname⟩,h8,fun w vs old g hW ha=>?_⟩;refine calls_of_wp hf hb ?_;have hs:=sU hW ha hn h8;have:=lY hm c rc' (GF fn.ntmps us as) _ _ w hres hs (hq hW.bd (BE ha));refine wp_mono this ?_;rintro e a' w' ⟨st,hstn,hk,hs'⟩;have hxl:xs'.length=fn.results.toList.length:=(n7 hxs);have key:vM xs' us' r st→a'.defers=[]∧∃v,(results fn a'.tmps).run P w'=.ok v w'∧
   (∃v' F g',Ending.returned v=.returned v'∧w'.os=w.os∧w'.tape=w.tape∧w'.output=w.output∧w.heap.size≤w'.heap.size∧
   (∀b,b<w.heap.size→b∉fp g (bX 0 us)→w'.heap[b]?=w.heap[b]?)∧Gr w'.heap w.heap.size old us us' g g' F∧co w'.heap r F [] v'):=by
  intro hk;refine⟨hs'.dfr,?_⟩;obtain⟨g1,hu,hv⟩:=hs'.gh;obtain⟨avs,vs',h1,h2,h3,h4⟩:=rM (P:=P) hu hv hxs hk;refine⟨_,nh h1,?_⟩;have fin:∀{rs:List gz},ie (fun st=>kj st 0 us') avs rs st→∃F g',da w'.heap rs F [] vs'∧Gr w'.heap w.heap.size old us us' g g' F:=by
   intro rs hL;obtain⟨F,st2,g2,T,hE,q1,q2,q3,q4,q5⟩:=uW hu (cI.refl hu hv) h2 hL;have hin:=sv hE;have hu2:=T.us;have inf:∀b,b∈fp g2 (bX 0 us')→b∈fp g2 st2.us:=fun b hb=>by
    obtain⟨x,hx,hbx⟩:=aH.1 hb;exact aH.2 ⟨x,(hin x hx).1,hbx⟩
   have low:∀b,b<w.heap.size→It w.heap.size us g b→b∈fp g (bX 0 us):=by
    intro b hb hp;rcases hp with⟨_,h⟩|⟨_,_,_,_,rfl⟩|⟨_,_,rfl⟩
    ·exact h
    ·omega
    ·omega
   refine⟨F,g2,q1,⟨?_,?_,?_,?_,?_⟩⟩
   ·intro x hx;have ho:=hu2.each x (hin x hx).1;have hp:=(hin x hx).2;obtain⟨i,u,hi,rfl⟩:=cE.1 hx;cases u with
    |ar ow nn sz es=>simpa only[cm]using ho
    |own d=>cases hp
    |sb T E s=>simpa only[cm]using ho
    |bx sz items=>
     have hmem:U.bx sz items∈us':=List.mem_of_getElem? hi;have hok:=sX hpu.2 _ _ hmem;simp only[cm]at ho⊢;obtain⟨p1,b,c,e,xs,rest,p2,p3,p4,p5,p6⟩:=ho;refine⟨p1,b,c,e,xs,rest,p2,p3,p4,ot (fun k hk1 hk2 u hu'=>?_) hok p5,p6⟩;have hlt:k-3000000000<us'.length:=by omega
     have hm2:(3000000000+(0+(k-3000000000)),us'[k-3000000000])∈bX 0 us':=cE.2 ⟨k-3000000000,_,by simp[hlt],rfl⟩;have hk3:3000000000+(0+(k-3000000000))=k:=by omega
     rw[hk3]at hm2;have:=hu2.uniq hu' (hin _ hm2).1;rw[this];exact hm2
   ·intro x hx;obtain⟨i,u,hi,rfl⟩:=cE.1 hx;have hi':=(List.getElem?_eq_some_iff.1 hi).1;have hil:i<us.length:=by omega
    obtain⟨u0,hu0,hp0⟩:=hpi i hi';simp only[Nat.zero_add];obtain⟨hm0,hpin⟩:=hin _ hx;rw[Nat.zero_add]at hm0;obtain⟨b,hb⟩:∃b,g.β (3000000000+i)=some b:=by
     have:=hW.blk _ (cE.2 ⟨i,u0,hu0,rfl⟩) hp0;simp only[Nat.zero_add]at this;cases hb:g.β (3000000000+i)with
     |none=>exact absurd hb this
     |some b=>exact⟨b,rfl⟩
    have p1:=(hu2.pin i b (by omega) ⟨_,hm0,hpin⟩).1 (.inr (.inl ⟨i,b,hil,hb,rfl⟩));have p2:=(hu2.pin i (g.cap (3000000000+i)) (by omega) ⟨_,hm0,hpin⟩).2 (.inr (.inr ⟨i,hil,rfl⟩)) (by rw[p1];simp);exact⟨by rw[p1,hb],p2⟩
   ·refine List.nodup_append.2 ⟨q2,fo ij (fun x hx=>bZ hu2 (hin x hx).1) (fun x hx y hy b hbx hby=>bF hu2.keys hu2.nodup (hin x hx).1 (hin y hy).1 hbx hby),?_⟩;rintro x hx y hy rfl;exact(q3 x hx).2.2 (inf x hy)
   ·intro b hb;have hb1:b∈fp g1 st.us∧¬g1.Sh b:=by
     rcases List.mem_append.1 hb with hb|hb
     ·exact⟨(q3 b hb).2.1,(q3 b hb).1⟩
     ·have:=inf b hb;exact⟨q5 b this,fun hs=>(hu2.sh b ((q4 b).2 hs)).2.2 this⟩
    exact⟨hu.lt b hb1.1,hu.fz b hb1.1,fun hlt=>low b hlt (hu.low b hb1.1 hlt),fun hs=>hb1.2 ((q4 b).1 hs)⟩
   ·intro b hb;obtain⟨p1,p2,_⟩:=hu2.sh b hb;exact⟨p1,p2⟩
  have hfr:∀b,b<w.heap.size→b∉fp g (bX 0 us)→w'.heap[b]?=w.heap[b]?:=by
   intro b hb hn;refine hs'.old b hb fun hp=>hn ?_;rcases hp with⟨_,h⟩|⟨_,_,_,_,rfl⟩|⟨_,_,rfl⟩
   ·exact h
   ·omega
   ·omega
  have single:∀{r:gz},ie (fun st=>kj st 0 us') avs [r] st→xs'.length=1→∃v' F g',Ending.returned (if h:vs'.length=1 then vs'[0]else .tuple vs'.toArray)=.returned v'∧w'.os=w.os∧w'.tape=w.tape∧w'.output=w.output∧w.heap.size≤w'.heap.size∧
   (∀b,b<w.heap.size→b∉fp g (bX 0 us)→w'.heap[b]?=w.heap[b]?)∧Gr w'.heap w.heap.size old us us' g g' F∧co w'.heap r F [] v':=by
   intro r hL hx1;obtain⟨F,g',q1,q2⟩:=fin hL;simp only[da]at q1;obtain⟨F1,F2,G1,G2,v,ws,rfl,hG,rfl,hr,hF2,hG2,hws⟩:=q1;subst hF2;subst hG2;subst hws;simp only[List.append_nil]at hG q2;subst hG;exact⟨v,F1,g',by simp,hs'.os,hs'.tape,hs'.output,hs'.size,hfr,q2,hr⟩
  unfold ou at h3
  split at h3
  ·next rs=>
   obtain⟨F,g',q1,q2⟩:=fin h3.2;refine⟨_,F,g',by rw[dif_neg (by rw[h4,←hxl];exact h3.1)],hs'.os,hs'.tape,hs'.output,hs'.size,hfr,q2,?_⟩;simp only[co];exact⟨_,rfl,by simpa using q1⟩
  ·exact single h3.2 h3.1
 cases e with
 |normal=>exact key hk
 |ret=>exact key hk
 |exit i=>exact hk.elim
 |goto l=>exact hk.elim
 |panic c=>exact hk.elim
 |outgrown=>exact hk.elim

attribute [go_sem] Option.isSome_none Option.isSome_some
@[go_sem] theorem GE{i:Nat}:gM i []=[]:=rfl
@[go_sem] theorem FY{i:Nat}{a:AV}{as:List AV}:gM i (a::as)=(i,a)::gM (i+1) as:=rfl
@[go_sem] theorem Hs{n:Nat}{us:List U}{as:List AV}:GF n us as=⟨n,gM 0 as,bX 0 us⟩:=rfl
@[go_sem] theorem LY{i:Nat}:bX i []=[]:=rfl
@[go_sem] theorem JU{i:Nat}{u:U}{r:List U}:bX i (u::r)=(3000000000+i,u)::bX (i+1) r:=rfl
@[go_sem] theorem FP{xs:List RV}{us':List U}{r:gz}{st:St}:BI xs us' r .normal st=vM xs us' r st:=rfl
@[go_sem] theorem K4{xs:List RV}{us':List U}{r:gz}{st:St}:BI xs us' r .ret st=vM xs us' r st:=rfl
@[go_sem] theorem Iw{xs:List RV}{us':List U}{r:gz}{st:St}{i:Nat}:BI xs us' r (.exit i) st=False:=rfl
@[go_sem] theorem MN{xs:List RV}{us':List U}{r:gz}{st:St}:vM xs us' r st=nI st xs (ou xs us' st r):=rfl
@[go_sem] theorem J4{x:RV}{us':List U}{st:St}{d:D}{avs:List AV}:ou [x] us' st (.own d) avs=ie (fun st=>kj st 0 us') avs [.own d] st:=by simp[ou]
@[go_sem] theorem Hy{us':List U}{st:St}{rs:List gz}{avs:List AV}:ou [] us' st (.tup rs) avs=ie (fun st=>kj st 0 us') avs rs st:=by simp[ou]
@[go_sem] theorem JX{x y:RV}{xs:List RV}{us':List U}{st:St}{rs:List gz}{avs:List AV}:ou (x::y::xs) us' st (.tup rs) avs=ie (fun st=>kj st 0 us') avs rs st:=by simp[ou]
@[go_sem] theorem JS{k:St→Prop}{st:St}:ie k [] [] st=k st:=rfl
@[go_sem] theorem IS{k:St→Prop}{av:AV}{avs:List AV}{r:gz}{rs:List gz}{st:St}:ie k (av::avs) (r::rs) st=AP st av r (ie k avs rs):=rfl
@[go_sem] theorem Kv{st:St}{av:AV}{d:D}{k:St→Prop}:AP st av (.own d) k=gd st av (ER d k):=rfl
@[go_sem] theorem KG{st:St}{i:Nat}:kj st i []=True:=rfl
@[go_sem] theorem IC{st:St}{i:Nat}{x:U}{r:List U}:kj st i (x::r)=(AI (st.unit (3000000000+i)) x∧kj st (i+1) r):=rfl
@[congr] theorem Ro{u u':Option U}{x:U}(h:u=u'):AI u x=AI u' x:=by rw[h]
@[go_sem] theorem QM{ow:Bool}{nn:Option Bool}{sz:Nat}{es:List D}{ow':Bool}{nn':Option Bool}{sz':Nat}{es':List D}:AI (some (.ar ow nn sz es)) (.ar ow' nn' sz' es')=(ow=ow'∧nn=none∧nn'=none∧sz=sz'∧es=es'):=rfl
@[go_sem] theorem RT{sz:Nat}{items:List AV}{sz':Nat}{items':List AV}:AI (some (.bx sz items)) (.bx sz' items')=(sz=sz'∧items=items'):=rfl

@[go_sem] theorem MO:yk []=True:=rfl
@[go_sem] theorem Ki{u:U}{r:List U}:yk (u::r)=(Fw u∧yk r):=rfl
@[go_sem] theorem VA{ow:Bool}{nn:Option Bool}{sz:Nat}{es:List D}:Fw (.ar ow nn sz es)=D.bdL es:=rfl
@[go_sem] theorem Q5{d:D}:Fw (.own d)=d.bd:=rfl
@[go_sem] theorem UV{sz:Nat}{items:List AV}:Fw (.bx sz items)=True:=rfl
@[go_sem] theorem Pb:Ab []=True:=rfl
@[go_sem] theorem J2{a:AV}{r:List AV}:Ab (a::r)=(Qi a∧Ab r):=rfl
@[go_sem] theorem Ws{t:Option Nat}{d:D}:Qi (.im t d)=d.bd:=rfl

end Go.Ax
namespace Go.Ax

inductive MV where
 |va (x:Value)
 |rt
 |pt (i j:Nat)
 |sb (i j:Nat)
 |sg (i j z:Nat)
 |any
 deriving Inhabited

def xo:List (Nat×MV)→Nat→MV
 | [],_=>.any
 |(k,v)::r,t=>if k=t then v else xo r t

structure MS where
 bx:Bool
 ds:List D
 env:List (Nat×MV)

def MS.set(s:MS)(d:Nat)(v:MV):MS:=⟨s.bx,s.ds,(d,v)::s.env⟩
def Nx:MV→MV
 |.sb _ _=>.any
 |.sg _ _ _=>.any
 |.pt i j=>.pt i j
 |v=>v
def To:List (Nat×MV)→List (Nat×MV)
 | []=>[]
 |(k,v)::r=>(k,Nx v)::To r
def CK:List (Nat×MV)→List (Nat×MV)
 | []=>[]
 |(k,.va x)::r=>(k,.va x)::CK r
 |(k,.rt)::r=>(k,.rt)::CK r
 |(k,_)::r=>(k,.any)::CK r
def nN(env:List (Nat×MV)):X→MV
 |.t n=>xo env n
 |.c (.sc x)=>.va x
 |.c _=>.any

def Dw(x:MV)(sl:Bool)(d:Nat)(s:MS)(k:MS→Prop):Prop:=
 match x with
 |.rt=>sl=true∧k (s.set d (.va (.int .i64 s.ds.length)))
 |_=>False
def DU(x y:MV)(op:BinOp)(d:Nat)(s:MS)(k:MS→Prop):Prop:=
 match x,y with
 |.va a,.va b=>xU op a b fun v=>k (s.set d (.va v))
 |_,_=>False
def LN(x i:MV)(sl:Bool)(sz z d:Nat)(s:MS)(k:MS→Prop):Prop:=
 match x,i with
 |.rt,.va (.int _ n)=>(sl=true∧s.bx=true∧z=sz∧0<sz∧0≤n∧n<s.ds.length)∧k (s.set d (.pt n.toNat 0))
 |_,_=>False
def MX(x:MV)(sz off d:Nat)(s:MS)(k:MS→Prop):Prop:=
 match x with
 |.pt i j=>j+off<sz∧k (s.set d (.pt i (j+off)))
 |_=>False
def Du(x:MV)(sl:Bool)(sz z d:Nat)(s:MS)(k:MS→Prop):Prop:=
 match x with
 |.rt=>(sl=false∧s.bx=false∧z=sz∧0<sz∧0<s.ds.length)∧k ⟨true,s.ds,(d,.pt 0 0)::CK s.env⟩
 |_=>False
def GN(x:MV)(agg:Bool)(z d:Nat)(s:MS)(k:MS→Prop):Prop:=
 match x with
 |.pt i j=>((agg=false∧z=1)∧k (s.set d (.sb i j)))∨((agg=true∧j+z≤(D.at s.ds i).size∧(D.at s.ds i).isAg=true)∧k (s.set d (.sg i j z)))
 |_=>False
def MD(x y:MV)(sl:Bool)(sz z:Nat)(s:MS)(k:MS→Prop):Prop:=
 match x,y with
 | .pt i j, .va y => (sl = true ∧ z = 1 ∧ y.oneCell' = true ∧ (D.sub (D.at s.ds i) j 1 false).isSc = true ∧ (j = 0 ∧ 1 = sz ∨ (D.at s.ds i).isAg = true)) ∧
   k ⟨s.bx,s.ds.set i (D.put sz (D.at s.ds i) j 1 (.sc y)),To s.env⟩
 |_,_=>False
def Fu(x y:MV)(P:Program)(sz d f:Nat)(s:MS)(k:MS→Prop):Prop:=
 match x,y with
 | .sb i j, .va (.int .i64 n) => ∃ e' n', AFM P f (D.sub (D.at s.ds i) j 1 false) n e' n' ∧ ((D.sub (D.at s.ds i) j 1 false).isAg = false ∧ (j = 0 ∧ 1 = sz ∨ (D.at s.ds i).isAg = true)) ∧
   k ⟨s.bx,s.ds.set i (D.put sz (D.at s.ds i) j 1 e'),(d,.va (.int .i64 n'))::s.env⟩
 | .sg i j z, .va (.int .i64 n) => ∃ e' n', AFM P f (D.sub (D.at s.ds i) j z true) n e' n' ∧ (D.at s.ds i).isAg = true ∧
   k ⟨s.bx,s.ds.set i (D.put sz (D.at s.ds i) j z e'),(d,.va (.int .i64 n'))::s.env⟩
 |_,_=>False
def mOp(P:Program)(sl:Bool)(sz:Nat)(r:ff)(s:MS)(k:MS→Prop):Prop:=
 match r with
 |.mv d x=>k (s.set d (nN s.env x))
 |.len d x=>Dw (nN s.env x) sl d s k
 |.bin d op x y=>DU (nN s.env x) (nN s.env y) op d s k
 |.ia d z x i=>LN (nN s.env x) (nN s.env i) sl sz z d s k
 |.fa d off x=>MX (nN s.env x) sz off d s k
 |.box d z x=>Du (nN s.env x) sl sz z d s k
 |.ld d agg z x=>GN (nN s.env x) agg z d s k
 |.st z x y=>MD (nN s.env x) (nN s.env y) sl sz z s k
 |.mcl d f x y=>Fu (nN s.env x) (nN s.env y) P sz d f s k
 |_=>False
def lf(P:Program)(sl:Bool)(sz:Nat):List RO→MS→(MS→Prop)→Prop
 | [],s,k=>k s
 |⟨none,r⟩::rest,s,k=>mOp P sl sz r s fun s=>lf P sl sz rest s k
 |⟨some _,_⟩::_,_,_=>False
def Gb(s s':MS):Prop:=s'.bx=s.bx∧s'.ds=s.ds∧∀t,xo s'.env t=.any∨xo s'.env t=xo s.env t
def yt(f:MS→Prop)(K:Exit→MS→Prop)(e:Exit)(s:MS):Prop:=
 match e with
 |.normal=>f s
 |e=>K e s
def AD(id:Nat)(K:Exit→MS→Prop)(e:Exit)(s:MS):Prop:=
 match e with
 |.exit i=>if i=id then K .normal s else K (.exit i) s
 |e=>K e s
def xB(c:MV)(p q:Prop):Prop:=
 match c with
 |.va (.bool t)=>(t=true→p)∧(t=false→q)
 |_=>False
def mR(P:Program)(sl:Bool)(sz:Nat):RC→MS→(Exit→MS→Prop)→Prop
 |.skip,s,K=>K .normal s
 |.reg false ops,s,K=>lf P sl sz ops s (K .normal)
 |.seq a b,s,K=>mR P sl sz a s (yt (fun s=>mR P sl sz b s K) K)
 |.cond x a b,s,K=>xB (nN s.env x) (mR P sl sz a s K) (mR P sl sz b s K)
 |.blk id c,s,K=>mR P sl sz c s (AD id K)
 |.loop c,s,K=>∃I:Nat→MS→Prop,(∃n s',Gb s s'∧I n s')∧∀n s,I n s→mR P sl sz c s (yt (fun s'=>∃n' s'',Gb s' s''∧I n' s''∧n'<n) K)
 |.exit id,s,K=>K (.exit id) s
 |.ret,s,K=>K .ret s
 |_,_,_=>False

structure WA where
 v:Value
 F0:List Nat
 w0:World
 sz:Nat
 sl:Bool
 n:Nat
 len:Nat
structure MG where
 F:List Nat
 cs:List Value
 b:Nat
 off:Nat
 cap:Nat
 c:Array Value
 e:TypeId
variable {P : Program} {X : WA}

variable {s : MS} {a : Act} {w : World} {G : MG} {o : Oper} {k : MS → Prop} {Q' : Exit → Act → World → Prop}

def Mq(r:Nat)(bx:Bool)(ds':List D)(n':Int)(e:Exit)(s:MS):Prop:=
 match e with
 |.normal=>(bx=true→s.bx=true)∧s.ds=ds'∧xo s.env r=.va (.int .i64 n')
 |.ret=>(bx=true→s.bx=true)∧s.ds=ds'∧xo s.env r=.va (.int .i64 n')
 |_=>False

section
variable {sl : Bool} {sz : Nat} {s : MS} {K : Exit → MS → Prop} {bx : Bool} {ds : List D} {env : List (Nat × MV)}
def QY(P:Program)(sl:Bool)(sz:Nat)(c:RC)(K:Exit→MS→Prop)(s:MS):Prop:=mR P sl sz c s K
def C3(P:Program)(sl:Bool)(sz:Nat)(l:List RO)(k:MS→Prop)(s:MS):Prop:=lf P sl sz l s k
@[congr] theorem mR_cg{c:RC}{s s':MS}(h:s=s'):mR P sl sz c s K=mR P sl sz c s' K:=by rw[h]
@[congr] theorem Ut{c:RC}{s s':MS}(h:s=s'):QY P sl sz c K s=QY P sl sz c K s':=by rw[h]
@[congr] theorem Qt{l:List RO}{s s':MS}{k:MS→Prop}(h:s=s'):lf P sl sz l s k=lf P sl sz l s' k:=by rw[h]
@[congr] theorem VQ{l:List RO}{s s':MS}{k:MS→Prop}(h:s=s'):C3 P sl sz l k s=C3 P sl sz l k s':=by rw[h]
@[congr] theorem PX{f:MS→Prop}{e e':Exit}{s s':MS}(h:e=e')(h':s=s'):yt f K e s=yt f K e' s':=by rw[h,h']
@[congr] theorem QQ{i:Nat}{e e':Exit}{s s':MS}(h:e=e')(h':s=s'):AD i K e s=AD i K e' s':=by rw[h,h']
@[congr] theorem MI{c c':MV}{p q:Prop}(h:c=c'):xB c p q=xB c' p q:=by rw[h]
@[congr] theorem Tg{x x':MV}{d:Nat}{k:MS→Prop}(h:x=x'):Dw x sl d s k=Dw x' sl d s k:=by rw[h]
@[congr] theorem Q2{x x' y y':MV}{op:BinOp}{d:Nat}{k:MS→Prop}(h:x=x')(h':y=y'):DU x y op d s k=DU x' y' op d s k:=by rw[h,h']
@[congr] theorem VS{x x' y y':MV}{z d:Nat}{k:MS→Prop}(h:x=x')(h':y=y'):LN x y sl sz z d s k=LN x' y' sl sz z d s k:=by rw[h,h']
@[congr] theorem Wi{x x':MV}{off d:Nat}{k:MS→Prop}(h:x=x'):MX x sz off d s k=MX x' sz off d s k:=by rw[h]
@[congr] theorem Qc{x x':MV}{z d:Nat}{k:MS→Prop}(h:x=x'):Du x sl sz z d s k=Du x' sl sz z d s k:=by rw[h]
@[congr] theorem U1{x x':MV}{agg:Bool}{z d:Nat}{k:MS→Prop}(h:x=x'):GN x agg z d s k=GN x' agg z d s k:=by rw[h]
@[congr] theorem UN{x x' y y':MV}{z:Nat}{k:MS→Prop}(h:x=x')(h':y=y'):MD x y sl sz z s k=MD x' y' sl sz z s k:=by rw[h,h']
@[congr] theorem Q8{x x' y y':MV}{d f:Nat}{k:MS→Prop}(h:x=x')(h':y=y'):Fu x y P sz d f s k=Fu x' y' P sz d f s k:=by rw[h,h']
@[go_sem ↓] theorem Q4:mR P sl sz .skip s K=K .normal s:=rfl
@[go_sem ↓] theorem VL{ops:List RO}:mR P sl sz (.reg false ops) s K=lf P sl sz ops s (K .normal):=rfl
@[go_sem ↓] theorem VV{a b:RC}:mR P sl sz (.seq a b) s K=mR P sl sz a s (yt (QY P sl sz b K) K):=rfl
@[go_sem ↓] theorem Rw{x:Ax.X}{a b:RC}:mR P sl sz (.cond x a b) s K=xB (nN s.env x) (mR P sl sz a s K) (mR P sl sz b s K):=rfl
@[go_sem ↓] theorem TY{i:Nat}{c:RC}:mR P sl sz (.blk i c) s K=mR P sl sz c s (AD i K):=rfl
@[go_sem ↓] theorem Qb{i:Nat}:mR P sl sz (.exit i) s K=K (.exit i) s:=rfl
@[go_sem ↓] theorem Up:mR P sl sz .ret s K=K .ret s:=rfl
@[go_sem ↓] theorem Uu{c:RC}:QY P sl sz c K s=mR P sl sz c s K:=rfl
@[go_sem ↓] theorem UI{l:List RO}{k:MS→Prop}:C3 P sl sz l k s=lf P sl sz l s k:=rfl
@[go_sem ↓] theorem Hh{f:MS→Prop}:yt f K .normal s=f s:=rfl
@[go_sem ↓] theorem Of{f:MS→Prop}:yt f K .ret s=K .ret s:=rfl
@[go_sem ↓] theorem J6{f:MS→Prop}{i:Nat}:yt f K (.exit i) s=K (.exit i) s:=rfl
@[go_sem ↓] theorem GK{i:Nat}:AD i K .normal s=K .normal s:=rfl
@[go_sem ↓] theorem NG{i:Nat}:AD i K .ret s=K .ret s:=rfl
@[go_sem] theorem KX{i j:Nat}:AD i K (.exit j) s=if j=i then K .normal s else K (.exit j) s:=rfl
@[go_sem] theorem RA{t:Bool}{p q:Prop}:xB (.va (.bool t)) p q=((t=true→p)∧(t=false→q)):=rfl
@[go_sem ↓] theorem NO{k:MS→Prop}:lf P sl sz [] s k=k s:=rfl
section
variable {l : List RO} {k : MS → Prop}
@[go_sem ↓] theorem PJ{d:Nat}{x:Ax.X}:lf P sl sz (⟨none,.mv d x⟩::l) s k=C3 P sl sz l k (s.set d (nN s.env x)):=rfl
@[go_sem ↓] theorem O9{d:Nat}{x:Ax.X}:lf P sl sz (⟨none,.len d x⟩::l) s k=Dw (nN s.env x) sl d s (C3 P sl sz l k):=rfl
@[go_sem ↓] theorem LV{d:Nat}{op:BinOp}{x y:Ax.X}:lf P sl sz (⟨none,.bin d op x y⟩::l) s k=DU (nN s.env x) (nN s.env y) op d s (C3 P sl sz l k):=rfl
@[go_sem ↓] theorem Qo{d z:Nat}{x y:Ax.X}:lf P sl sz (⟨none,.ia d z x y⟩::l) s k=LN (nN s.env x) (nN s.env y) sl sz z d s (C3 P sl sz l k):=rfl
@[go_sem ↓] theorem Ti{d off:Nat}{x:Ax.X}:lf P sl sz (⟨none,.fa d off x⟩::l) s k=MX (nN s.env x) sz off d s (C3 P sl sz l k):=rfl
@[go_sem ↓] theorem L7{d z:Nat}{x:Ax.X}:lf P sl sz (⟨none,.box d z x⟩::l) s k=Du (nN s.env x) sl sz z d s (C3 P sl sz l k):=rfl
@[go_sem ↓] theorem SF{d z:Nat}{agg:Bool}{x:Ax.X}:lf P sl sz (⟨none,.ld d agg z x⟩::l) s k=GN (nN s.env x) agg z d s (C3 P sl sz l k):=rfl
@[go_sem ↓] theorem QU{z:Nat}{x y:Ax.X}:lf P sl sz (⟨none,.st z x y⟩::l) s k=MD (nN s.env x) (nN s.env y) sl sz z s (C3 P sl sz l k):=rfl
@[go_sem ↓] theorem Ot{d f:Nat}{x y:Ax.X}:lf P sl sz (⟨none,.mcl d f x y⟩::l) s k=Fu (nN s.env x) (nN s.env y) P sz d f s (C3 P sl sz l k):=rfl
@[go_sem] theorem Qg{d:Nat}:Dw .rt sl d s k=(sl=true∧k (s.set d (.va (.int .i64 s.ds.length)))):=rfl
@[go_sem] theorem RR{a b:Value}{op:BinOp}{d:Nat}:DU (.va a) (.va b) op d s k=xU op a b fun v=>k (s.set d (.va v)):=rfl
@[go_sem] theorem Ue{kd:IntKind}{n:Int}{z d:Nat}:LN .rt (.va (.int kd n)) sl sz z d s k=((sl=true∧s.bx=true∧z=sz∧0<sz∧0≤n∧n<s.ds.length)∧k (s.set d (.pt n.toNat 0))):=rfl
@[go_sem] theorem Um{i j off d:Nat}:MX (.pt i j) sz off d s k=(j+off<sz∧k (s.set d (.pt i (j+off)))):=rfl
@[go_sem] theorem QI{z d:Nat}:Du .rt sl sz z d s k=((sl=false∧s.bx=false∧z=sz∧0<sz∧0<s.ds.length)∧k ⟨true,s.ds,(d,.pt 0 0)::CK s.env⟩):=rfl
@[go_sem] theorem Vp{i j z d:Nat}:GN (.pt i j) false z d s k=(z=1∧k (s.set d (.sb i j))):=by simp[GN]
@[go_sem] theorem R5{i j z d:Nat}:GN (.pt i j) true z d s k=((j+z≤(D.at s.ds i).size∧(D.at s.ds i).isAg=true)∧k (s.set d (.sg i j z))):=by simp[GN]
@[go_sem] theorem Ur{i j z:Nat}{y:Value}:MD (.pt i j) (.va y) sl sz z s k=((sl=true∧z=1∧y.oneCell'=true∧(D.sub (D.at s.ds i) j 1 false).isSc=true∧(j=0∧1=sz∨(D.at s.ds i).isAg=true))∧
   k ⟨s.bx,s.ds.set i (D.put sz (D.at s.ds i) j 1 (.sc y)),To s.env⟩):=rfl
end
@[go_sem] theorem Ko{d:Nat}{v:MV}:(MS.mk bx ds env).set d v=⟨bx,ds,(d,v)::env⟩:=rfl
@[go_sem] theorem Pu{k t:Nat}{v:MV}{r:List (Nat×MV)}:xo ((k,v)::r) t=if k=t then v else xo r t:=rfl
@[go_sem] theorem mev_t{n:Nat}:nN env (.t n)=xo env n:=rfl
@[go_sem] theorem UH{x:Value}:nN env (.c (.sc x))=.va x:=rfl
@[go_sem] theorem GC{r:Nat}{ds':List D}{n':Int}{b0:Bool}:Mq r b0 ds' n' .normal s=((b0=true→s.bx=true)∧s.ds=ds'∧xo s.env r=.va (.int .i64 n')):=rfl
@[go_sem] theorem Ma{r:Nat}{ds':List D}{n':Int}{b0:Bool}:Mq r b0 ds' n' .ret s=((b0=true→s.bx=true)∧s.ds=ds'∧xo s.env r=.va (.int .i64 n')):=rfl
attribute [go_sem] To Nx CK Value.oneCell'

end

end Go.Ax
namespace Go.Ax

variable {P : Program}

theorem bf.refl(st:St):bf st st:=fun _ _ _ _ _ _ h=>h
theorem bf.trans{a b c:St}(h:bf a b)(k:bf b c):bf a c:=fun _ _ _ _ _ _ x=>k _ _ _ _ _ _ (h _ _ _ _ _ _ x)

def an(e:List (Nat×AV)):List (Nat×AV)→Prop
 | []=>True
 |(k,v)::r=>lk e k=v∧an e r

theorem pP{e:List (Nat×AV)}:∀{e':List (Nat×AV)},an e e'→∀t,lk e' t=.any∨lk e' t=lk e t
 | [],_,t=>.inl rfl
 |(k,v)::r,h,t=>by
  simp only[lk]
  split
  ·next hk=>subst hk;exact .inr h.1.symm
  ·exact pP h.2 t

theorem bf.env{n:Nat}{e e':List (Nat×AV)}{us:List (Nat×U)}(h:an e e'):bf ⟨n,e,us⟩ ⟨n,e',us⟩:=by
 intro n0 S0 M0 w0 a w hs;obtain⟨g,hu,hv⟩:=hs.gh;refine⟨hs.ms,hs.dfr,hs.tm,hs.base,hs.os,hs.tape,hs.output,hs.size,hs.old,g,hu,fun t=>?_⟩;rcases pP h t with h|h
 ·simp only;rw[h];simp[ab]
 ·simp only;rw[h];exact hv t

theorem bf.del(st:St)(k:Nat):bf st (st.del k):=by
 intro n0 S0 M0 w0 a w hs;obtain⟨g,hu,hv⟩:=hs.gh;obtain⟨hU,hK⟩:=hu.del k;exact⟨hs.ms,hs.dfr,hs.tm,hs.base,hs.os,hs.tape,hs.output,hs.size,hs.old,_,hU,fun t=>du (fun av v hf hr=>ab.keepR hK hf hr) (hv t)⟩

theorem bf.perm{n:Nat}{e:List (Nat×AV)}{us us':List (Nat×U)}(h:us'.Perm us):bf ⟨n,e,us⟩ ⟨n,e,us'⟩:=by
 intro n0 S0 M0 w0 a w hs;exact hs.eqv rfl (fun _=>rfl) h

theorem A8{c:RC}{st:St}{K:Exit→St→Prop}{α:Type}(F:α→St)(J:α→Prop)(μ:α→Nat)(x0:α)(h0:bf st (F x0))(hJ:J x0)
  (h:∀x,J x→jD P c (F x) (qe (fun s=>∃y,J y∧μ y<μ x∧bf s (F y)) K)):jD P (.loop c) st K:=by
 refine⟨fun n s=>∃x,J x∧μ x=n∧s=F x,⟨_,_,h0,x0,hJ,rfl,rfl⟩,?_⟩;rintro n s ⟨x,hx,rfl,rfl⟩;have:=h x hx;have e:(qe (fun s=>∃y,J y∧μ y<μ x∧bf s (F y)) K)=(qe (fun s'=>∃n' s'',bf s' s''∧(∃x,J x∧μ x=n'∧s''=F x)∧n'<μ x) K):=by
  congr 1
  funext s
  apply propext
  constructor
  ·rintro⟨y,h1,h2,h3⟩;exact⟨_,_,h3,⟨y,h1,rfl,rfl⟩,h2⟩
  ·rintro⟨_,_,h3,⟨y,h1,rfl,rfl⟩,h2⟩;exact⟨y,h1,h2,h3⟩
 rw[e]at this;exact this

theorem D.LeA.refl(d:D):d.LeA d:=⟨fun _ F _ h=>⟨F,h,fun _ hb=>hb⟩,fun _ h=>h⟩
theorem D.LeA.eq{d e:D}(h:d=e):d.LeA e:=h▸D.LeA.refl d

theorem D.LeA.sub{d e:D}{j sz:Nat}(hj:j+sz≤d.size)(hd:d.isAg=true)(h0:0<sz)(he:D.sub d j sz true=e):D.LeA (.pt d j) (.pt e 0):=by
 refine⟨fun h F cs hr=>?_,fun v hv=>hv⟩;simp only[aW]at hr;obtain⟨b,off,c,el,fr,F',rfl,rfl,r1,r2,r3,r4⟩:=hr;obtain⟨F1,F2,F3,c1,c2,c3,g1,g2,g3,g4,g5,g6⟩:=r4.sub (agg:=true) hj (fun _=>hd) (by simp);subst he;have hs:(D.sub d j sz true).size=sz:=by rw[←g5.length,g4]
 refine⟨b::F2,?_,?_⟩
 ·simp only[aW];refine⟨b,off+j,c,el,fr,F2,by simp,rfl,by omega,r2,by omega,?_⟩;rw[hs];have e1:(c.toList.drop (off+j)).take sz=c2:=by
   have h1:((c.toList.drop off).take d.size).drop j=c2++c3:=by rw[g2,←g3];simp
   have h2:(((c.toList.drop off).take d.size).drop j).take sz=c2:=by rw[h1,←g4];simp
   rw[←h2,List.drop_take,List.drop_drop,List.take_take,Nat.min_eq_left (by omega)]
  rw[e1];exact g5
 ·intro x hx;rcases List.mem_cons.1 hx with rfl|hx
  ·simp
  ·rw[g1];simp[hx]
theorem D.LeL.refl:∀(ds:List D),D.LeL ds ds
 | []=>trivial
 |d::ds=>⟨D.LeA.refl d,D.LeL.refl ds⟩

theorem aa{d:Option Nat}{f:Nat}{args:List AV}{un:Nat→Option U}{k:KQ}{ds:List D}{r:gz}(ha:dm un args=some ds)(h:AF P f ds r)
  (hk:k (bW (d.getD 0) (As args ds) r).1 (bW (d.getD 0) (As args ds) r).2):gK P d f args un k:=
 .inl ⟨ds,ds,r,ha,D.LeL.refl ds,h,hk⟩


theorem dC{d:Option Nat}{f:Nat}{args:List AV}{un:Nat→Option U}{k:KQ}{t:Option Nat}{kk:Int}{B C:AV}(ha:args=[.im t (.sc (.int .i64 kk)),B,C])(h:Gz P f)(hB:(AV.aggV un B&&bi un 3 B)=true)(hC:(AV.aggV un C&&bi un 3 C)=true)
  (hk:k (.sg [.im none (.sc (.int .i64 kk)),.im none (.sc (.int .i64 0)),.vb (d.getD 0) 2]) [(d.getD 0,.bx 3 [B,C])]) (hlow:d.getD 0<3000000000:=by decide):gK P d f args un k:=.inr ⟨hlow,t,kk,B,C,ha,h,hB,hC,hk⟩

theorem aB{d:Option Nat}{f:Nat}{args:List AV}{st:St}{kk:St→Prop}(k1 k2:List Nat){us us':List U}{as:List AV}{r:gz}(h1:se (k1++k2)=true)(h2:Gs (k1++k2) st.unit (k1++k2)=some us)(h3:iZ (k1++k2) st.unit args=some as)
  (hA:AE P f us as us' r) (hl:us'.length=k1.length) (h4:bH k1.length (bm (k1++k2) args&&bC (k1++k2) st.unit (k1++k2)) us us') (h5:kq kk (st.updW k1 k2 us') d (bW (d.getD 0) false r).1 (bW (d.getD 0) false r).2):x8 P d f args st kk:=⟨k1,k2,us,as,us',r,h1,h2,h3,hA,hl,h4,h5⟩
theorem aj{x:Int}(h1: -9223372036854775808≤x)(h2:x≤9223372036854775807):IntKind.i64.wrap x=x:=by
 simp[IntKind.wrap,IntKind.bits,IntKind.signed];omega

theorem bP{α:Type}{f:α→D}{l:List α}{i:Nat}(h:i<l.length):D.at (l.map f) i=f l[i]:=by
 simp[D.at,h]

@[go_sem] theorem Nc{k:Nat}:((none:Option Nat)==some k)=false:=rfl
@[go_sem] theorem LI{i k:Nat}:(some i==some k)=(i==k):=rfl
attribute [go_sem] Bool.false_eq_true

@[go_sem] theorem Pm:((some false:Option Bool)==some true)=false:=rfl
@[go_sem] theorem MR:((some true:Option Bool)==some true)=true:=rfl
@[go_sem] theorem LR:((none:Option Bool)==some true)=false:=rfl
attribute [go_sem] Bool.false_and Bool.true_and Bool.and_false Bool.and_true

def Br:List (Nat×AV)→Bool
 | []=>true
 |(_,.im none _)::r=>Br r
 |_=>false
theorem xZ:∀{e:List (Nat×AV)},Br e=true→∀t,lk e t=.any∨∃d,lk e t=.im none d
 | [],_,t=>.inl rfl
 |(k,.im none d)::r,h,t=>by
  simp only[lk]
  split
  ·exact .inr ⟨d,rfl⟩
  ·exact xZ (by simpa[Br]using h) t

theorem bf.clear{n:Nat}{e e':List (Nat×AV)}{us:List (Nat×U)}(h:an e e')(hf:Br e'=true):bf ⟨n,e,us⟩ ⟨n,e',[]⟩:=by
 intro n0 S0 M0 w0 a w hs;obtain⟨g,hu,hv⟩:=hs.gh;refine⟨hs.ms,hs.dfr,hs.tm,hs.base,hs.os,hs.tape,hs.output,hs.size,hs.old,{g with φ:=fun _=>[]},⟨by simp,by simp[fp],by simp[fp],by simp[fp],fun _ _=>rfl,fun b hb=>⟨(hu.sh b hb).1,(hu.sh b hb).2.1,by simp[fp]⟩,by simp,by simp[fp],by intro k v _ h;simp at h⟩,fun t=>?_⟩;simp only;rcases xZ hf t with h1|⟨d,h1⟩
 ·rw[h1];simp[ab]
 ·have h2:lk e t=.im none d:=by
   rcases pP h t with h2|h2
   ·rw[h1]at h2;cases h2
   ·rw[←h2,h1]
  have:=hv t;simp only[h2]at this;rw[h1];simp only[ab]at this⊢;obtain⟨F,r1,r2,r3⟩:=this;refine⟨F,r1,r2,fun b hb=>?_⟩;rcases r3 b hb with h|⟨k,hk,_⟩
  ·exact .inl h
  ·cases hk

theorem Bb:∀{ds:List D},D.bdL ds→∀d∈ds,d.bd
 | [],_,d,h=>by cases h
 |x::ds,hb,d,h=>by
  simp only[D.bdL]at hb;rcases List.mem_cons.1 h with rfl|h
  ·exact hb.1
  ·exact Bb hb.2 d h

end Go.Ax
namespace Go.Ax

abbrev SL(α:Type):=Option Bool×List α
def eI(n:Int):D:=.sc (.int .i64 n)
def eB(b:Bool):D:=.sc (.bool b)
def eS{α:Type}(sz:Nat)(f:α→D)(s:SL α):D:=.ls s.1 sz (s.2.map f)

structure Enc {α:Type} (f:α→D) (sz:Nat) (agg:Bool):Prop where
 pos:0<sz
 size:∀x,(f x).size=sz
 isAg:∀x,(f x).isAg=agg
 sub:∀x,D.sub (f x) 0 sz agg=f x

def uT{α:Type}(q:α→α→Bool):List α→List α→Bool
 | [],[]=>true
 |x::a,y::b=>q x y&&uT q a b
 |_,_=>false
theorem AZ{α:Type}{q:α→α→Bool}:∀{a b:List α},a.length≠b.length→uT q a b=false
 | [],[],h=>(h rfl).elim
 | [],_::_,_=>rfl
 |_::_,[],_=>rfl
 |x::a,y::b,h=>by simp only[uT,AZ (a:=a) (b:=b) (by simpa using h),bJ]

section
variable {P : Program} (hm : P.follows .mixedOrders = true)
include hm

set_option linter.unusedSimpArgs false

end
end Go.Ax
namespace Go.Ax

theorem yg{α:Type}{q:α→α→Bool}:∀{l:List α},(∀x∈l,q x x=true)→uT q l l=true
 | [],_=>rfl
 |x::l,h=>by
  have:=yg (l:=l) (q:=q) fun y hy=>h y (by simp[hy]);simp[uT,h x (by simp),this]

section
variable {P : Program} (hm : P.follows .mixedOrders = true)

end

def cH:List Nat→Nat→Bool
 | [],_=>false
 |a::l,k=>if a=k then true else cH l k
@[go_sem] theorem O6{k:Nat}:cH [] k=false:=rfl
@[go_sem] theorem KP{a k:Nat}{l:List Nat}:cH (a::l) k=if a=k then true else cH l k:=rfl

def keep(ks:List Nat):List (Nat×AV)→List (Nat×AV)
 | []=>[]
 |(k,v)::r=>if cH ks k=true then keep ks r else(k,v)::keep (k::ks) r
@[go_sem] theorem OY{ks:List Nat}:keep ks []=[]:=rfl
@[go_sem] theorem K7{ks:List Nat}{k:Nat}{v:AV}{r:List (Nat×AV)}:keep ks ((k,v)::r)=if cH ks k=true then keep ks r else(k,v)::keep (k::ks) r:=rfl
theorem tT{k:Nat}:∀{l:List Nat},cH l k=true↔k∈l
 | []=>by simp[cH]
 |a::l=>by
  simp only[cH]
  split
  ·next h=>simp[h]
  ·next h=>rw[tT];simp[Ne.symm h]
theorem tD{e:List (Nat×AV)}:∀{ks:List Nat} {r:List (Nat×AV)},(∀t,t∉ks→lk e t=lk r t)→an e (keep ks r)
 |_,[],_=>trivial
 |ks,(k,v)::r,h=>by
  simp only[keep]
  split
  ·next hk=>
   refine tD fun t ht=>?_;rw[h t ht];have:k≠t:=by rintro rfl;exact ht (tT.1 hk)
   simp[lk,this]
  ·next hk=>
   refine⟨by rw[h k (fun hm=>hk (tT.2 hm))];simp[lk],tD fun t ht=>?_⟩;simp only[List.mem_cons,not_or]at ht;rw[h t ht.2];simp[lk,Ne.symm ht.1]
theorem mA{e:List (Nat×AV)}:∀{a b:List (Nat×AV)},an e a→an e b→an e (a++b)
 | [],_,_,h=>h
 |(_,_)::_,_,h1,h2=>⟨h1.1,mA h1.2 h2⟩

theorem eD{P:Program}{c:RC}{K:Exit→St→Prop}{α:Type}{n:Nat}{env:List (Nat×AV)}{us:List (Nat×U)}(ks:List Nat)(upd:α→List (Nat×AV))(J:α→Prop)(μ:α→Nat)(x0:α)
  (h0:an env (upd x0)) (hJ:J x0)
  (h:∀x,J x→jD P c ⟨n,upd x++keep ks env,us⟩ (qe (fun s=>∃y,J y∧μ y<μ x∧bf s ⟨n,upd y++keep ks env,us⟩) K)):jD P (.loop c) ⟨n,env,us⟩ K:=
 A8 (fun x=>⟨n,upd x++keep ks env,us⟩) J μ x0 (bf.env (mA h0 (tD fun _ _=>rfl))) hJ h

theorem bf.env_us{n:Nat}{e e':List (Nat×AV)}{us us':List (Nat×U)}(hu:us=us')(h:an e e'):bf ⟨n,e,us⟩ ⟨n,e',us'⟩:=hu▸bf.env h

theorem bR{α:Type}{p:α→Bool}{l:List α}{i:Nat}(hi:i<l.length)(h:(l.take i).all p=true)(hx:p l[i]=true):(l.take (i+1)).all p=true:=by
 rw[List.take_succ_eq_append_getElem hi,List.all_append,h];simp[hx]
theorem cB{α:Type}{p:α→Bool}{l:List α}{i:Nat}(hi:¬i<l.length)(h:(l.take i).all p=true):l.all p=true:=by
 rwa [List.take_of_length_le (by omega)]at h
theorem dI{α:Type}{p:α→Bool}{l:List α}{i:Nat}(hi:i<l.length)(hx:p l[i]=false):l.all p=false:=
 List.all_eq_false.2 ⟨l[i],List.getElem_mem hi,by simp[hx]⟩
theorem sY{nn:Option Bool}{sz:Nat}{ds:List D}(h:D.bd (.ls nn sz ds)):ds.length≤9223372036854775807:=by simp only[D.bd,aT]at h;exact h.1

end Go.Ax
namespace Go.Ax
set_option linter.unusedSimpArgs false

theorem Df{α:Type}{q:α→α→Bool}{l m:List α}{i:Nat}{x y:α}{r:Bool}(j:(q x y&&uT q (l.drop (i+1)) (m.drop (i+1)))=r)(h:q x y=true):uT q (l.drop (i+1)) (m.drop (i+1))=r:=by
 rw[←j,h,bI]
section
variable {P : Program} (hm : P.follows .mixedOrders = true)
include hm
end
end Go.Ax
namespace Go.Ax
open Go.ChangeShapes Go.WideShapes Go.RowKit

section
variable {P : Program}

def Rd(P:Program)(n:Nat)(t:TypeId){α:Type}(f:α→D)(ok:α→Prop):Prop:=
 ∀(H:Type)(enc:TypeId×Value→H)(w:World)(cs:List Value)(x:DataW H×List MemPlace),
  DataW.trod enc P w 0 (fun _=>true) true n t cs=some x→∃a F,aW w.heap (f a) F cs∧ok a

theorem Fr{t:TypeId}{α:Type}{f:α→D}{ok:α→Prop}:Rd P 0 t f ok:=by
 intro H enc w cs x h;simp[DataW.trod]at h

theorem ET{n:Nat}{t:TypeId}{α β:Type}{f:α→D}{ok:α→Prop}{f':β→D}{ok':β→Prop}(g:α→β)(h1:∀a,f' (g a)=f a)(h2:∀a,ok a→ok' (g a))(h:Rd P n t f ok):Rd P n t f' ok':=by
 intro H enc w cs x hx;obtain⟨a,F,r,o⟩:=h _ enc w cs x hx;exact⟨g a,F,by rw[h1];exact r,h2 a o⟩

theorem Ia{n:Nat}{t:TypeId}{k:IntKind}(ht:P.underlying t=some (.int k)):Rd P n t (fun m:Int=>.sc (.int k m)) (fun m=>(Lit.int k m).wf=true):=by
 intro H enc w cs x h;obtain⟨m,rfl,_,hw⟩:=DataW.trod_int ht h;exact⟨m,[],by simp[aW,Value.oneCell'],hw⟩

theorem gU(a:Addr)(i:Nat):(a.add i).block=a.block:=by
 unfold Addr.add
 split<;>rfl

theorem v9(a:Addr)(i:Nat):(a.add i).off=a.off+i:=by
 unfold Addr.add
 split<;>simp_all

theorem tw{w:World}{a:Addr}{n:Nat}{cs:List Value}(h:w.cells? 0 a n=some cs)(hn:0<n):
  ∃c e fr,w.heap[a.block]?=some (.cells c e fr)∧a.spot=none∧a.off+n≤c.size∧cs=(c.toList.drop a.off).take n:=by
 unfold World.cells? at h;rw[if_pos (Nat.zero_le _)]at h;have hl:cs.length=n:=by simpa using n7 h
 have hg:∀i,i<n→w.cell? (a.add i)=cs[i]?:=by
  intro i hi;obtain⟨b,h1,h2⟩:=io h i i (by simp[hi]);rw[h1,h2]
 have h0:=hg 0 hn;rw[List.getElem?_eq_getElem (by omega)]at h0;cases hb:w.heap[a.block]? with
 |none=>simp[World.cell?,gU,hb]at h0
 |some o=>
  cases o with
  |cells c e fr=>
   have hsp:a.spot=none:=by
    cases hs:a.spot with
    |none=>rfl
    |some s=>simp[World.cell?,Addr.add,hb,hs]at h0
   have hc:∀i,i<n→c[a.off+i]?=cs[i]?:=by
    intro i hi;have:=hg i hi;have hs2:(a.add i).spot.isSome=false:=by
     cases hs2:(a.add i).spot.isSome with
     |false=>rfl
     |true=>
      rw[List.getElem?_eq_getElem (by omega)]at this;simp[World.cell?,gU,hb,hs2]at this
    simpa[World.cell?,gU,v9,hb,hs2]using this
   have hlast:=hc (n-1) (by omega);rw[List.getElem?_eq_getElem (by omega)]at hlast;have hle:=(Array.getElem?_eq_some_iff.1 hlast).1;refine⟨c,e,fr,rfl,hsp,by omega,?_⟩
   apply List.ext_getElem?
   intro i
   by_cases hi:i<n
   ·rw[←hc i hi,List.getElem?_take_of_lt hi,List.getElem?_drop,Array.getElem?_toList]
   ·rw[List.getElem?_eq_none (by omega),List.getElem?_eq_none (by simp;omega)]
  |_=>simp[World.cell?,gU,hb]at h0

theorem vE{h:aE}{α:Type}{f:α→D}{ok:α→Prop}{c:List Value}{sz:Nat}:
  ∀(m o:Nat),(∀i,i<m→∃a F,aW h (f a) F ((c.drop (o+i*sz)).take sz)∧ok a)→
   ∃(as:List α) (F:List Nat),as.length=m∧aK h (as.map f) F ((c.drop o).take (m*sz))∧∀a∈as,ok a
 |0,o,_=>⟨[],[],rfl,by simp[aK],by simp⟩
 |m+1,o,hr=>by
  obtain⟨a,F,h1,h2⟩:=hr 0 (by omega);obtain⟨as,F',h3,h4,h5⟩:=vE m (o+sz) fun i hi=>by
   have:=hr (i+1) (by omega);rw[show o+(i+1)*sz=o+sz+i*sz by rw[Nat.add_mul];omega]at this;exact this
  refine⟨a::as,F++F',by simp[h3],?_,by simp;exact⟨h2,h5⟩⟩;simp only[lC,aK];refine⟨F,F',_,_,rfl,?_,by simpa using h1,h4⟩;rw[show(m+1)*sz=sz+m*sz by rw[Nat.add_mul];omega,List.take_add,List.drop_drop]

theorem D4{n:Nat}{t e:TypeId}{sz:Nat}{α:Type}{f:α→D}{ok:α→Prop}(ht:P.underlying t=some (.slice e))(hs:P.cellsOf e=sz)(h0:0<sz)(hf:∀a,(f a).size=sz)
  (h:Rd P n e f ok):Rd P (n+1) t (eS sz f) (fun s=>((s.1=some true→s.2=[])∧s.1.isSome=true)∧s.2.length≤aT∧∀a∈s.2,ok a):=by
 intro H enc w cs x hx;rcases DataW.trod_slice ht hx with⟨rfl,rfl⟩|⟨a,len,cap,elems,rest,m,hm,rfl,rfl,hb,hlc,hcm,hlen,hel,hre,_⟩
 ·refine⟨(some true,[]),[],?_,by simp,by simp[aT],by simp⟩;simp only[aW,eS];exact .inl ⟨none,by simp⟩
 ·obtain rfl:n=m:=by omega
  obtain⟨hrl,hre⟩:=hre rfl
  by_cases hc0:cap=0
  ·subst hc0;obtain rfl:len=0:=by omega
   refine⟨(some false,[]),[],?_,by simp,by simp[aT],by simp⟩;simp only[aW,eS];exact .inl ⟨some a,by simp⟩
  ·have hany:∀j,j<cap→∃c,w.cells? 0 (a.add (j*sz)) sz=some c∧∃y,DataW.trod enc P w 0 (fun _=>true) true n e c=some y:=by
    intro j hj;rw[hs]at hel hre
    by_cases hjl:j<len
    ·have:=hel j hjl;rw[List.getElem?_eq_getElem (by omega),oB]at this;obtain⟨c,h1,h2⟩:=this;exact⟨c,h1,_,h2⟩
    ·have:=hre (j-len) (by omega);rw[List.getElem?_eq_getElem (by omega),oB,show len+(j-len)=j by omega]at this;obtain⟨c,h1,h2⟩:=this;exact⟨c,h1,_,h2⟩
   obtain⟨c1,hc1,_⟩:=hany (cap-1) (by omega);obtain⟨c,e',fr,hbk,_,hsz,_⟩:=tw hc1 h0;obtain⟨c2,hc2,_⟩:=hany 0 (by omega);obtain⟨_,_,_,_,hsp,_,_⟩:=tw hc2 h0;simp only[Nat.zero_mul,show ∀a:Addr,a.add 0=a from fun a=>by simp[Addr.add]]at hsp;simp only[gU,v9]at hbk hsz;have hall:a.off+cap*sz≤c.size:=by
    have:cap*sz=(cap-1)*sz+sz:=by
     conv=>lhs;rw[show cap=cap-1+1 by omega,Nat.add_mul,Nat.one_mul]
    omega
   obtain⟨as,F,q1,q2,q3⟩:=vE (h:=w.heap) (f:=f) (ok:=ok) (c:=c.toList) (sz:=sz) len a.off fun i hi=>by
    obtain⟨ci,hci,y,hy⟩:=hany i (by omega);obtain⟨c',e'',fr',hbk',_,_,hcs⟩:=tw hci h0;simp only[gU,v9]at hbk' hcs;rw[hbk]at hbk';cases hbk';obtain⟨z,F,r1,r2⟩:=h _ enc w ci y hy;exact⟨z,F,by rw[←hcs];exact r1,r2⟩
   refine⟨(some false,as),a.block::F,?_,by simp,by simp[q1];exact Nat.le_trans (Nat.le_trans hlc hcm) (by decide),q3⟩;simp only[aW,eS];refine .inr ⟨a.block,a.off,cap,c,e',fr,F,?_,rfl,by simp,by simp[q1,hlc],by simp[q1];exact Nat.le_trans (Nat.le_trans hlc hcm) (by decide),hbk,hall,?_,by simpa[q1]using q2⟩
   ·rw[lM,q1];congr 3;cases a;simp_all
   ·intro d hd;obtain⟨z,_,rfl⟩:=List.mem_map.1 hd;exact hf z

def SO(P:Program)(t:TypeId){α:Type}(f:α→D)(ok:α→Prop):Prop:=
 (∀ n, Rd P n t f ok) ∧ (((∀ a, (f a).isAg = true) ∧ ∃ fs, P.underlying t = some (.struct fs)) ∨
  ((∀a,(f a).isAg=false)∧(match P.underlying t with|some (.struct _)|some (.array _ _)=>false|_=>true)=true))

theorem Fe{h:aE}{d:D}{F:List Nat}{cs:List Value}(hr:aW h d F cs)(hd:d.isAg=false):∃c,cs=[c]∧c.oneCell'=true:=by
 cases d with
 |sc v=>simp only[aW]at hr;exact⟨v,hr.2.1,hr.2.2⟩
 |ag ds=>simp[D.isAg]at hd
 |ls nn sz ds=>
  simp only[aW]at hr;rcases hr with⟨p,rfl,_⟩|⟨b,off,cap,c,e,fr,F',rfl,_⟩
  ·exact⟨_,rfl,rfl⟩
  ·exact⟨_,rfl,rfl⟩
 |pt d j=>
  simp only[aW]at hr;obtain⟨b,off,c,e,fr,F',rfl,_⟩:=hr;exact⟨_,rfl,rfl⟩
 |jk=>simp only[aW]at hr;obtain⟨_,v,rfl,hv⟩:=hr;exact⟨v,rfl,hv⟩
 |fn f ds=>simp only[aW]at hr;obtain⟨vs,rfl,_⟩:=hr;exact⟨_,rfl,rfl⟩
 |lc b o d=>simp only[aW]at hr;rcases hr.1 with⟨_,_,rfl⟩|rfl<;>exact⟨_,rfl,rfl⟩

theorem Em{t:TypeId}{α:Type}{f:α→D}{ok:α→Prop}(ha:SO P t f ok){H:Type}{enc:TypeId×Value→H}{w:World}{b:Nat}{v:Value}{d:DataW H}{ps:List MemPlace}
  (ho:Value.okWide P w .any b t v) (h:DataW.Trod enc P w 0 (fun _=>true) true t v d ps):∃a F,aW w.heap (f a) F v.cells.toList∧(f a).fits v∧ok a:=by
 obtain⟨n,hn⟩:=h;obtain⟨a,F,r,o⟩:=ha.1 n _ enc w _ _ hn;refine⟨a,F,r,?_,o⟩;rcases ha.2 with⟨h1,fs,hs⟩|⟨h1,h2⟩
 ·simp only[Value.okWide,hs]at ho;obtain⟨cs,rfl,_⟩:=ho;have h1:=h1 a;cases hd:f a with
  |ag ds=>exact⟨_,rfl⟩
  |_=>simp[hd,D.isAg]at h1
 ·have h1:=h1 a;obtain⟨c,hc,hc1⟩:=Fe r h1;have hv:v.oneCell'=true:=by
   cases v with
   |agg cs=>
    exfalso;cases hu:P.underlying t with
    |none=>simp[Value.okWide,hu,Cell.okWide,Cell.ok]at ho
    |some u=>cases u<;>simp_all [Value.okWide,Cell.okWide,Cell.ok]
   |_=>simp_all [Value.cells]
  cases hd:f a with
  |ag ds=>simp[hd,D.isAg]at h1
  |_=>exact hv

theorem E0{t t':TypeId}{α β:Type}{f:α→D}{ok:α→Prop}{f':β→D}{ok':β→Prop}(ha:SO P t f ok)(ha':SO P t' f' ok'){H:Type}{enc:TypeId×Value→H}{w:World}{b:Nat}{args:Array Value}{ds:List (DataW H)}{ps:List MemPlace}
  (ho:∀(j:Nat) u v,[t,t'][j]?=some u→args[j]?=some v→Value.okWide P w .any b u v) (h:DataW.TrodAll enc P w 0 (fun _=>true) true [t,t'] args.toList ds ps):
  ∃a a',bY w.heap (fun _=>True) [f a,f' a'] args.toList∧ok a∧ok' a':=by
 obtain⟨v,v',d,d',p,p',rfl,rfl,rfl,h1,h2⟩:=trodAll_two h;obtain⟨a,F,r,q,o⟩:=Em ha (ho 0 t v rfl rfl) h1;obtain⟨a',F',r',q',o'⟩:=Em ha' (ho 1 t' v' rfl rfl) h2;exact⟨a,a',by simp only[bY];exact⟨v,_,F,rfl,r,q,fun _ _=>trivial,v',_,F',rfl,r',q',fun _ _=>trivial,rfl⟩,o,o'⟩

theorem my{H:Type}{enc:TypeId×Value→H}(hl:laidOutB P=true){W W':World}(hb:Below W.heap.size W W'){sp:Nat→Bool}:
  ∀{ts:List TypeId} {vs:List Value} {ds:List (DataW H)} {ps:List MemPlace},(∀t∈ts,P.readableRec t=true∧t<P.types.size)→(∀x∈ps,x.block<W.heap.size)→(∀x∈ps,sp x.block=true)→
   DataW.TrodAll enc P W 0 (fun _=>true) true ts vs ds ps→DataW.TrodAll enc P W' 0 sp true ts vs ds ps
 | [],_,_,_,_,_,_,h=>by
  obtain⟨rfl,rfl,rfl⟩:=trodAll_nil h
  rfl
 |t::ts,_,_,_,ht,hlt,hs,h=>by
  obtain⟨v,vs,d,ds,p,q,rfl,rfl,rfl,h1,h2⟩:=trodAll_cons h;exact⟨p,q,WideElems.Trod_stays hl (ht t (by simp)).1 (ht t (by simp)).2 h1 (fun x hx=>hb.same (hlt x (by simp[hx]))) (fun x hx=>hs x (by simp[hx])),
   my hl hb (fun t' h'=>ht t' (by simp[h'])) (fun x hx=>hlt x (by simp[hx])) (fun x hx=>hs x (by simp[hx])) h2,rfl⟩

theorem CV{f:Func}{s:ChangeSpec}{H:Type}{enc:TypeId×Value→H}{t:TypeId}{W W':World}{args:Array Value}{ds gs:List (DataW H)}{before:List MemPlace}
  (hl:laidOutB P=true) (hvars:s.vars=[]) (hres:f.resultTypes= #[t]) (ht:P.underlying t=some .bool) (hp:∀t∈f.params.toList,P.readableRec t=true∧t<P.types.size)
  (hs:(s.fn H (ds++gs)).results=[.lit (.bool true)]∧(s.fn H (ds++gs)).args=ds∧(s.fn H (ds++gs)).vars=[])
  (hW:DataW.Whole enc P f.params.toList s.vars false W args.toList ds gs before) (hb:Below W.heap.size W W'):
  s.post enc P f false true false false W args (.bool true) W':=by
 have hlt:=hW.lt;obtain⟨p,q,h1,h2,rfl,h3,h4⟩:=id hW;rw[hvars]at h2;obtain⟨rfl,rfl⟩:=trodVars_none h2;simp only[List.append_nil]at hlt;refine⟨ds,[],p++[],[],p,[],hW,?_,?_,?_,World.keptBut_mono (fun x hx=>⟨hx,.inr (.inl (by simpa using hx))⟩) (hb.frame (·∈p++[])),fun h=>by cases h⟩
 ·rw[hs.1,hres];refine trodAll_mk1 ?_;exact⟨1,by simp[Value.cells,DataW.trod,ht]⟩
 ·rw[hs.2.1];exact my hl hb hp hlt (fun x hx=>by simpa using hlt x hx) h1
 ·rw[hs.2.2,hvars]
  rfl

theorem yc{C:Checked}{os:Os}{f:FuncId}{fn:Func}{s:ChangeSpec}{H:Type}{enc:TypeId×Value→H}{t:TypeId}
  (own:ownKnob C.prog.godebug=none) (started:os.Started) (noInit:C.prog.inits.idxOf? f=none) (hfn:C.prog.funcs[f]?=some fn)
  (hl:laidOutB C.prog=true) (hvars:s.vars=[]) (hres:fn.resultTypes= #[t]) (ht:C.prog.underlying t=some .bool) (hp:∀t∈fn.params.toList,C.prog.readableRec t=true∧t<C.prog.types.size)
  (hs:∀ds:List (DataW H),ds.length=fn.params.size→(s.fn H ds).results=[.lit (.bool true)]∧(s.fn H ds).args=ds∧(s.fn H ds).vars=[])
  (witness : ∃ (w : World) (tape : Tape) (i : Input), w.os = os ∧ (w.forCall tape i).Shaped C.prog ∧ i.vars = [] ∧ Input.okWide C.prog (w.forCall tape i) .any w.heap.size f i ∧
   s.pre6 enc C.prog fn [] false (w.forCall tape i).memory i.args∧({}:Assume).holds C.prog (lone (Frame.enter C.prog f i.args .normal) [] (w.forCall tape i)))
  (h : ∀(W : World)(b : Nat)(args : Array Value)(ds : List (DataW H))(ps : List MemPlace), (∀(j : Nat) u v, fn.params.toList[j]? = some u → args[j]? = some v → Value.okWide C.prog W .any b u v) →
   DataW.TrodAll enc C.prog W 0 (fun _=>true) true fn.params.toList args.toList ds ps→∃DS,AF C.prog f DS (.own (eB true))∧bY W.heap (fun _=>True) DS args.toList):
  ReturnsInHanded {} C os f .any (s.pre6 enc C.prog fn [] false) (s.post enc C.prog fn false true false false):=by
 refine returnsInHanded_of_change own started noInit hfn witness ?_;intro W base args ds gs before hval hW _ _;obtain⟨p,q,hA,hV,_,_,_⟩:=id hW;rw[hvars]at hV;obtain⟨rfl,rfl⟩:=trodVars_none hV;obtain⟨DS,hAF,hR⟩:=h W base args ds p (fun j u v h1 h2=>hval j u v (by simpa using h1) h2) hA;have hlen:ds.length=fn.params.size:=by
  have:∀{ts:List TypeId} {vs:List Value} {ds:List (DataW H)} {ps:List MemPlace},DataW.TrodAll enc C.prog W 0 (fun _=>true) true ts vs ds ps→ds.length=ts.length:=by
   intro ts
   induction ts with
   |nil=>intro vs ds ps h;obtain⟨rfl,rfl,rfl⟩:=trodAll_nil h;rfl
   |cons t ts ih=>
    intro vs ds ps h;obtain⟨v,vs,d,ds,p,q,rfl,rfl,rfl,h1,h2⟩:=trodAll_cons h;simp[ih h2]
  simpa using this hA
 have:=hAF.2 W args.toList (fun _=>True) hR;rw[show args.toList.toArray=args from by simp]at this;refine this.mono ?_;rintro e W' ⟨v,F,G,rfl,hb,hr,_⟩;simp only[co,aW,eB]at hr;obtain⟨_,⟨_,hc,_⟩,hf⟩:=hr;have hv:v=.bool true:=by
  cases v<;>simp_all [Value.cells,D.fits,Value.oneCell']
 subst hv;exact⟨_,rfl,CV hl hvars hres ht hp (by simpa using hs ds hlen) hW hb⟩

end
end Go.Ax
attribute [go_sem] decide_true decide_false and_self true_and and_true false_and and_false not_true_eq_false not_false_eq_true false_implies true_implies implies_true ge_iff_le Bool.false_eq_true List.cons_append List.nil_append
attribute [go_sem_proc] Nat.reduceEqDiff Nat.reduceAdd Nat.reduceLeDiff Nat.reduceLT Nat.reduceBEq Nat.reduceBneDiff
attribute [go_sem_proc ↓] reduceIte
namespace Go.Ax
abbrev D.ze:D:=.ag [.sc (.int .i64 0),.sc (.int .i64 0),.ls (some true) 3 []]
abbrev D.zp:D:=.ag [.sc (.int .i64 0),.sc (.int .i64 0),.sc (.int .i64 0),.sc (.int .i64 0),.ls (some true) 3 [],.ls (some true) 6 []]
abbrev X.cf:X:=.c (.sc (.bool false))
abbrev X.ct:X:=.c (.sc (.bool true))
abbrev X.ci(n:Int):X:=.c (.sc (.int .i64 n))
abbrev RO.m(d s:Nat):RO:=⟨none,.mv d (.t s)⟩
abbrev RO.f(d o s:Nat):RO:=⟨none,.fa d o (.t s)⟩
abbrev RO.l(d z s:Nat):RO:=⟨none,.ld d false z (.t s)⟩
abbrev RO.L(d z s:Nat):RO:=⟨none,.ld d true z (.t s)⟩
abbrev RO.q(d s:Nat)(n:Int):RO:=⟨none,.bin d .eql (.t s) (.ci n)⟩
abbrev RO.k(d c a:Nat):RO:=⟨none,.pick d (.t c) (.t a) .cf⟩
abbrev RO.s(z a x:Nat):RO:=⟨none,.st z (.t a) (.t x)⟩
abbrev RO.n(d s:Nat):RO:=⟨none,.nck d (.t s)⟩
abbrev RO.b(d z s:Nat):RO:=⟨none,.box d z (.t s)⟩
abbrev RO.i(d z s:Nat)(n:Int):RO:=⟨none,.ia d z (.t s) (.ci n)⟩
abbrev RO.o(o:ff):RO:=⟨none,o⟩
abbrev RO.w(n:Nat)(o:ff):RO:=⟨some (n,true),o⟩
abbrev RO.u(n:Nat)(o:ff):RO:=⟨some (n,false),o⟩
abbrev RC.r(l:List RO):RC:=.reg false l
abbrev RO.c(d f:Nat)(l:List X):RO:=⟨none,.call (some d) f l⟩
abbrev RO.v(d:Nat)(x:X):RO:=⟨none,.mv d x⟩
abbrev RO.wm(n d s:Nat):RO:=⟨some (n,true),.mv d (.t s)⟩
attribute [go_sem] D.ze D.zp X.cf X.ct X.ci RO.m RO.f RO.l RO.L RO.q RO.k RO.s RO.n RO.b RO.i RO.o RO.w RO.u RC.r RO.c RO.v RO.wm
end Go.Ax
