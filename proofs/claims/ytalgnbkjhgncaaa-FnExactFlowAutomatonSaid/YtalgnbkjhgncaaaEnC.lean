/- THE ENGINE, PART 3: a generator of conditions over the register code, and its soundness. No condition. -/
import Derived.Test.YtalgnbkjhgncaaaEnB
set_option linter.all false
namespace Go.Ax
variable {P:Program}{n0:Nat}{S0 M0:Nat→Prop}{w0:World}
variable {st:St}{o:Oper}{a:Act}{w:World}{k:KQ}{Q':Exit→Act→World→Prop}{g:Gh}
variable {d:D}{h:ij}{F:List Nat}
def u5{vc:List Value}(hr:f8 h d F vc):fR h d.cells F vc∧∀x∈d.cells,x.size=1∧x.fK=false:=by
 by_cases hd:d.fK=true
 ·cases d with
  |ag ds=>simp only[f8]at hr;exact⟨hr.2,hr.1⟩
  |_=>simp[D.fK]at hd
 have e:d.cells=[d]:=by cases d<;>simp_all [D.cells,D.fK]
 rw[e,ig];refine⟨⟨F,[],vc,[],by simp,by simp,hr,lS.2 ⟨rfl,rfl⟩⟩,?_⟩;intro x hx;simp only[am]at hx;subst hx;exact⟨by cases x<;>simp_all [D.size,D.fK],by simpa using hd⟩
variable {us:List (Nat×U)}
def AB:∀{vs:List AV} {xs:List Value} {ds:List D},fA h us g vs xs→AI vs=some ds→
  ∃F,fR h ds F (xs.map (·.cells.toList)).flatten∧(∀d∈ds,d.size=1∧d.fK=false)∧∀b∈F,g.ok none b
 | [],xs,ds,hr,hi=>by
  simp only[fA]at hr;simp only[AI,oS]at hi;subst hr hi;exact⟨[],by simp[fR],by simp,by simp⟩
 |av::vs,xs,ds,hr,hi=>by
  simp only[fA]at hr;obtain⟨v,r,rfl,h1,h2⟩:=hr;unfold AI at hi
  split at hi
  ·next heq=>cases heq
  ·next d r' heq=>
   injection heq with e1 e2;subst e1 e2
   split at hi
   ·next ds' kf=>
    injection hi with hi;subst hi;obtain⟨F,i1,i2,i3⟩:=AB h2 kf;simp only[fx]at h1;obtain⟨F1,q1,q2,q3⟩:=h1;obtain⟨c1,c2⟩:=u5 q1;refine⟨F1++F,?_,?_,?_⟩;simpa using fR.append c1 i1
    ·intro x hx;rcases ax.1 hx with hx|hx
     exact c2 x hx;exact i2 x hx
    intro b hb;rcases ax.1 hb with hb|hb
    exact q3 b hb;exact i3 b hb
   cases hi
  cases hi
def xC{vs:List AV}{xs:List Value}(hr:fA h us g vs xs){cs:Array Value}(hc:cs.toList=(xs.map (·.cells.toList)).flatten):fx h us g (I8 vs) (.agg cs):=by
 unfold I8
 split
 ·next ds hi=>
  obtain⟨F,i1,i2,i3⟩:=AB hr hi;simp only[fx,f8];exact⟨F,⟨i2,by simpa[Value.cells,hc]using i1⟩,⟨cs,rfl⟩,i3⟩
 simp only[fx];exact⟨xs,hr,by rw[←hc]⟩
def sB:∀{vs:List AV} {xs:List Value} (j n:Nat),fA h us g vs xs→fA h us g ((vs.drop j).take n) ((xs.drop j).take n)
 | [],xs,j,n,hr=>by simp only[fA]at hr;subst hr;simp[fA]
 |v::vs,xs,0,0,hr=>by simp[fA]
 |v::vs,xs,0,n+1,hr=>by
  simp only[fA]at hr;obtain⟨x,r,rfl,h1,h2⟩:=hr;have:=sB 0 n h2;simp only[az]at this;simp only[az,aG,fA];exact⟨x,_,rfl,h1,this⟩
 |v::vs,xs,j+1,n,hr=>by
  simp only[fA]at hr;obtain⟨x,r,rfl,h1,h2⟩:=hr;simpa using sB j n h2
def mo:∀{vs:List AV} {xs:List Value},fA h us g vs xs→xs.length=vs.length
 | [],xs,hr=>by simp only[fA]at hr;simp[hr]
 |v::vs,xs,hr=>by
  simp only[fA]at hr;obtain⟨x,r,rfl,_,h2⟩:=hr;simp[mo h2]
def Ao:∀{vs:List AV} {xs:List Value} {i:Nat},fA h us g vs xs→i<vs.length→fx h us g (vs.getD i .any) (xs.getD i undef)
 | [],_,_,_,hi=>by simp at hi
 |a::as,vs,i,hr,hi=>by
  simp only[fA]at hr;obtain⟨v,r,rfl,h1,h2⟩:=hr;cases i with
  |zero=>simpa using h1
  |succ i=>simpa using Ao h2 (i:=i) (by simpa using hi)
variable {av:AV}{v:Value}
def qx(hr:fx h us g av v)(ho:av.gY=true):v.oneCell'=true:=by
 cases av with
 |im t d=>
  simp only[AV.gY,bA,bB,ce]at ho;simp only[fx]at hr;obtain⟨F,r1,r2,r3⟩:=hr;cases d<;>simp_all [D.fits,D.fK,Value.oneCell']
 |pw i el j=>
  simp only[fx]at hr;obtain⟨_,_,_,_,_,_,_,_,_,rfl⟩:=hr;simp[Value.oneCell']
 |pb i j=>
  simp only[fx]at hr;obtain⟨_,_,_,_,_,rfl⟩:=hr;simp[Value.oneCell']
 |cl f vs=>
  simp only[fx]at hr;obtain⟨_,_,rfl⟩:=hr;simp[Value.oneCell']
 |sm i off len=>
  simp only[fx]at hr;obtain⟨_,_,_,_,_,_,⟨_,_,rfl⟩|⟨_,_,_,rfl⟩⟩:=hr<;>simp[Value.oneCell']
 |_=>simp[AV.gY]at ho
def lx:∀{vs:List AV} {xs:List Value},fA h us g vs xs→vs.all AV.gY=true→(xs.map (·.cells.toList)).flatten=xs
 | [],xs,hr,_=>by simp only[fA]at hr;simp[hr]
 |v::vs,xs,hr,ho=>by
  simp only[fA]at hr;obtain⟨x,r,rfl,h1,h2⟩:=hr;simp only[cE,bA]at ho;simp[fP (qx h1 ho.1),lx h2 ho.2]
variable {b off:Nat}{e:TypeId}
def rG{w:World}{c:Array Value}{fr:Nat×Nat}(h:w.heap[b]?=some (.cells c e fr)):w.cell? ⟨b,off,none⟩=c[off]?:=by
 simp[World.cell?,h]
def lm(b o j:Nat):(⟨b,o,none⟩:Addr).add j=⟨b,o+j,none⟩:=by unfold Addr.add;split<;>simp_all
variable {agg:Bool}{t:TypeId}
def rx(hg:mL P t=some agg)(w:World):(isAgg t).run P w=.ok agg w:=by
 unfold mL at hg;unfold isAgg;rw[bK]
 split at hg
 ·next h=>rw[aW h];injection hg with hg;subst hg;rfl
 ·next h=>rw[aW h];injection hg with hg;subst hg;rfl
 ·next d h1 h2 h=>
  rw[aW h];injection hg with hg;subst hg;cases d<;>first|rfl|(exact absurd h (by intro h';simp_all))|simp_all
 cases hg
variable {sz:Nat}
def lW(hz:io P t=some sz)(w:World):(sizeOf t).run P w=.ok sz w:=by
 simp only[io,cF]at hz;obtain⟨i,hi,rfl⟩:=hz;simp[sizeOf,typeInfo,hi]
variable {cs:List Value}
def vg(hz:io P t=some sz)(hg:mL P t=some agg){b off:Nat}(hl:cs.length=sz)
  (hc:∀i v,cs[i]?=some v→w.cell? ⟨b,off+i,none⟩=some v) (h1:agg=false→sz=1):
  ∃v,(Instr.loadAt t (.pointer (some ⟨b,off,none⟩))).run P w=.ok v w∧v.cells.toList=(if agg then cs else v.cells.toList)∧(agg=true→v=.agg cs.toArray)∧(agg=false→cs=[v]):=by
 cases agg with
 |true=>
  refine⟨.agg cs.toArray,?_,by simp[Value.cells],fun _=>rfl,by simp⟩;have KM:=run_loadCells_list (P:=P) w ⟨b,off,none⟩ cs (fun j v hv=>by rw[lm];exact hc j v hv);rw[hl]at KM;simp[Instr.loadAt,Instr.sureAddr,loadVar,rx hg,lW hz,KM]
 |false=>
  obtain rfl:=h1 rfl
  match cs,hl with
  | [v],_=>
   have:=hc 0 v rfl;simp only[aC]at this;exact⟨v,by simp[Instr.loadAt,Instr.sureAddr,loadVar,rx hg,this],by simp,by simp,fun _=>rfl⟩
def pu(hd:d.fK=true):d.fits (.agg cs.toArray):=by
 cases d<;>simp_all [D.fits,D.fK]
variable {el j:Nat}
def U7(hu:gr h n0 S0 M0 us g){id gQ ic j':Nat}{nn jc:Option Bool}{usz:Nat}{es ds:List D}(hr:fx h us g (.pq id el j gQ ic j') v)
  (gZ:lu us id=some (.ar true nn usz es)) (hd:D.sub (D.at es el) j 1 false=.ls jc gQ ds) (mD:ic<ds.length) (hj:j'<gQ):fx h us g (.im (some id) (.pt (D.at ds ic) j')) v∧(D.at ds ic).size=gQ:=by
 simp only[fx]at hr;obtain⟨ow,wM,B0,qh,b,c,e,b',off',len',cap',r1,r2,r3,r4,r5,r6,rfl⟩:=hr;have:=hu.uniq r1 (fB gZ);injection this with e1 e2 e3 e4;subst e1 e2 e3 e4;obtain⟨c1,e1,F2,c2,p1,p2,p3,p4,p5,p6,p7⟩:=pg (agg:=false) (sz:=1) hu r1 r2 r4 r3 (by simp) (by simp);rw[r5]at p1;injection p1 with p1;injection p1 with p1 p1';subst p1
 match c2,p3 with
 | [cv],_=>
  have h0:=p2 0 cv rfl;rw[aC,r6]at h0;obtain rfl:=aQ h0;rw[hd]at p4;simp only[f8]at p4;rcases p4 with⟨p,q1,rfl,_⟩|⟨b1,off,cap,c3,el3,fr,F',q1,q2,q3,q4,q5,q6,q7,q8,q9⟩
  simp at mD;simp only[bO,dL,oS,Addr.mk.injEq,bm]at q1;obtain⟨⟨rfl,rfl⟩,rfl,rfl⟩:=q1;obtain⟨F1,F3,F4,d1,d2,d3,g1,g2,g3,g4,g5⟩:=q9.pick mD;have jm:=q8 _ (aZ mD);have l1:d1.length=ic*gQ:=by
   rw[g3.length,D.fG (sz:=gQ) fun d hd=>q8 d (bf hd),bk,bl (db mD)]
  have hmul:ic*gQ+gQ≤ds.length*gQ:=by
   have:=ba gQ (show ic+1≤ds.length by omega);rw[a9]at this;omega
  have HR:ds.length*gQ≤cap'*gQ:=ba gQ q4;rw[D.j7 mD];simp only[fx];refine⟨⟨b'::F3,?_,by simp[D.fits,Value.oneCell'],?_⟩,jm⟩
  ·unfold f8;refine⟨b',off'+ic*gQ,c3,el3,fr,F3,by simp[Value.cells],rfl,by omega,q6,by omega,?_⟩;have:(c3.toList.drop (off'+ic*gQ)).take ((ds[ic]).size)=d2:=by
    have e1:=congrArg (fun l=>(l.drop d1.length).take d2.length) g2;simp only[dd,bV,dq,ch,de]at e1;rw[l1]at e1;have l2:=g4.length;rw[jm]at l2;rw[l2,bl (by omega)]at e1;rw[jm];exact e1
   rw[this];exact g4
  intro y hy;refine .inr ⟨id,rfl,?_⟩;have l9:y∈F2:=by
   rw[q2,g1];rcases aj.1 hy with rfl|hy
   simp;simp[hy]
  simpa using p7 y l9
def NV{t1:Option Nat}{d:D}{j:Nat}{v0:Value}{t:TypeId}{agg:Bool}{sz:Nat}
  (hz:io P t=some sz) (hg:mL P t=some agg) (h1:agg=false→sz=1) (ex:fx w.heap st.us g (.im t1 (.pt d j)) v0)
  (q1:j+sz≤d.size) (q2:agg=true→d.fK=true):∃v,(Instr.loadAt t v0).run P w=.ok v w∧fx w.heap st.us g (.im t1 (D.sub d j sz agg)) v:=by
 simp only[fx,f8]at ex;obtain⟨F,⟨b,off,c,e,fr,F',r1,r2,r3,r4,r5,r6⟩,f1,f2⟩:=ex;rw[fP (by simpa[D.fits]using f1)]at r1;have hv:v0=.pointer (some ⟨b,off+j,none⟩):=by simpa using r1
 obtain⟨F1,F2,F3,c1,c2,c3,g1,g2,g3,g4,g5,g6⟩:=r6.sub q1 q2 h1;have mg:∀i v,c2[i]?=some v→w.cell? ⟨b,off+j+i,none⟩=some v:=by
  intro i v hv;rw[rG r4];have:=getElem?_mid (a:=c1) (c:=c3) hv;rw[←g2,g3]at this;have gI:=(bF.1 this).1;rw[dr (by simp at gI;omega),cJ]at this;rw[←cr,show off+j+i=off+(j+i)by omega];exact this
 obtain⟨v,v1,v2,v3,v4⟩:=vg (P:=P) (w:=w) hz hg g4 mg h1;refine⟨v,by rw[hv];exact v1,?_⟩;simp only[fx];refine⟨F2,?_,?_,fun x hx=>f2 x (by rw[r2,g1];simp[hx])⟩
 ·cases agg with
  |true=>rw[v3 rfl];simpa[Value.cells]using g5
  |false=>
   have:=v4 rfl;have UA:=g5.one v (by rw[this];simp);rw[fP UA];rw[this]at g5;simpa using g5
 cases agg with
 |true=>rw[v3 rfl];exact pu g6
 |false=>exact jV g6 (g5.one v (by rw[v4 rfl];simp))
def BG(KJ:gr w.heap n0 S0 M0 st.us g){av0:AV}{v0:Value}{t:TypeId}{agg:Bool}{sz:Nat}
  (hz:io P t=some sz) (hg:mL P t=some agg) (h1:agg=false→sz=1) (ex:fx w.heap st.us g av0 v0)
  (hq:zX av0 st.unit agg sz k):∃av v,(Instr.loadAt t v0).run P w=.ok v w∧fx w.heap st.us g av v∧k av []:=by
 unfold zX at hq
 split at hq
 ·next t1 d j=>
  obtain⟨⟨q1,q2⟩,hk⟩:=hq;obtain⟨v,r1,r2⟩:=NV (st:=st) hz hg h1 ex q1 q2;exact⟨_,v,r1,r2,hk⟩
 ·next t1 b0 o0 d j=>
  obtain⟨⟨q1,q2⟩,hk⟩:=hq;obtain⟨v,r1,r2⟩:=NV (st:=st) hz hg h1 (qN ex rfl).1 q1 q2;exact⟨_,v,r1,r2,hk⟩
 ·next id el j=>
  simp only[fx]at ex;obtain⟨ow,nn,usz,es,b,r1,r2,r3,r4,hv⟩:=ex;unfold Vw at hq
  split at hq
  ·next ow' jc kv es' gZ=>
   have hm:=fB gZ;have:=KJ.uniq r1 hm;injection this with e1 e2 e3 e4;subst e1;subst e2;subst e3;subst e4;obtain⟨⟨q1,q2⟩,hk⟩:=hq;obtain⟨c,e,F2,c2,p1,p2,p3,p4,p5,p6,p7⟩:=pg KJ r1 r2 r4 q1 q2 h1;have mg:∀i v,c2[i]?=some v→w.cell? ⟨b,el*usz+j+i,none⟩=some v:=by
    intro i v hv;rw[rG p1];exact p2 i v hv
   obtain⟨v,v1,v2,v3,v4⟩:=vg (P:=P) (w:=w) hz hg p3 mg h1;refine⟨_,v,by rw[hv];exact v1,?_,hk⟩;have iF:f8 w.heap (D.sub (D.at es el) j sz agg) F2 v.cells.toList∧(D.sub (D.at es el) j sz agg).fits v:=by
    cases agg with
    |true=>rw[v3 rfl];exact⟨by simpa[Value.cells]using p4,pu p5⟩
    |false=>
     have:=v4 rfl;have UA:=p4.one v (by rw[this];simp);rw[fP UA];rw[this]at p4;exact⟨by simpa using p4,jV p5 UA⟩
   generalize hd:D.sub (D.at es el) j sz agg=d at*;cases ow with
   |false=>
    simp only[Mo,kY,aH,fx]at p7⊢;exact⟨F2,iF.1,iF.2,fun x hx=>.inl (p7 x hx)⟩
   |true=>
    have hsome:fx w.heap st.us g (.im (some id) d) v:=by
     simp only[fx];refine⟨F2,iF.1,iF.2,fun x hx=>.inr ⟨id,rfl,?_⟩⟩;simpa using p7 x hx
    simp only[Mo,aK]
    split
    ·next GG=>
     have:=iB (D.kH GG) iF.1;subst this;simp only[fx];exact⟨[],iF.1,iF.2,by simp⟩
    simp only[fx];refine⟨nn,usz,es,b,c,e,r1,r2,q1,r4,p1,q2,h1,?_,?_⟩
    ·have hlen:v.cells.toList=c2:=by
      cases agg with
      |true=>rw[v3 rfl];simp[Value.cells]
      | false => rw [v4 rfl, fP (iF.1.one v (by
        have:=v4 rfl;have h2:=iF.2;have:d.fK=false:=p5;cases d<;>simp_all [D.fits,D.fK,Value.cells,Value.oneCell']<;>(try (cases v<;>simp_all [Value.cells,Value.oneCell']))))]
     rw[hlen];exact(vD p3 p2).symm
    cases agg with
    |true=>rw[v3 rfl];simp[Value.cells]
    |false=>
     simp only[kY,aH];have h2:=iF.2;have:d.fK=false:=p5;cases d<;>simp_all [D.fits,D.fK]
  exact hq.elim
 ·next id el j gQ ic j'=>
  unfold Vc at hq
  split at hq
  ·next nn usz es gZ=>
   unfold Fj at hq
   split at hq
   ·next jc gv ds hd=>
    obtain⟨⟨rfl,q1,q2,q3,q4⟩,hk⟩:=hq;obtain⟨hp,hs⟩:=U7 KJ ex gZ hd q1 q2;obtain⟨v,r1,r2⟩:=NV (st:=st) hz hg h1 hp (by omega) q4;refine⟨_,v,r1,?_,hk⟩;unfold qz
    split
    ·next hc=>
     cases PY:D.sub (D.at ds ic) j' sz agg with
     |sc x=>
      rw[PY]at r2;simp only[fx,f8]at r2⊢;obtain⟨F,⟨rfl,a1,a2⟩,a3,_⟩:=r2;exact⟨[],⟨rfl,a1,a2⟩,a3,by simp⟩
     |_=>rw[PY]at hc;simp[D.vF]at hc
    exact r2
   exact hq.elim
  exact hq.elim
 ·next id j=>
  unfold Vu at hq
  split at hq
  ·next usz x gZ=>
   have hm:=fB gZ;simp only[fx]at ex;obtain⟨GH,ahx,b,r1,r2,hv⟩:=ex;have:=KJ.uniq r1 hm;injection this with e1 e2;subst e1 e2;have ho:=KJ.each _ hm;simp only[hP]at ho;obtain⟨_,b',c,e,vs,rest,k1,k2,k3,k4,k5,k6⟩:=ho;rw[r2]at k1;obtain rfl:=aQ k1;simp only[fA]at k4;obtain⟨v,r,rfl,hx,rfl⟩:=k4;obtain⟨⟨B3,_⟩,hq⟩:=hq;have w8:=k5 B3 v (by simp);have hc:c.toList=v.cells.toList++rest:=by simpa using k6
   have mg:∀(n:Nat) i y,((v.cells.toList.drop j).take n)[i]?=some y→w.cell? ⟨b,j+i,none⟩=some y:=by
    intro n i y hy;rw[rG k2,←cr,hc];rw[dp]at hy
    split at hy
    ·have hy:v.cells.toList[j+i]?=some y:=by simpa using hy
     rw[da (bF.1 hy).1];exact hy
    cases hy
   unfold k9 at hq
   split at hq
   ·next hcd=>
    obtain⟨rfl,rfl,hcd⟩:=hcd;have gF:(v.cells.toList.drop 0).take sz=v.cells.toList:=by
     rw[az,bZ (by simp[w8])]
    obtain⟨v',v1,v2,v3,v4⟩:=vg (P:=P) (w:=w) hz hg (b:=b) (off:=0) (cs:=(v.cells.toList.drop 0).take sz) (by rw[gF];simpa using w8) (fun i y hy=>mg _ i y hy) h1;rw[gF]at v3 v4;have:v'=v:=by
     cases agg with
     |true=>
      have h3:=v3 rfl;cases x with
      |sg ys=>
       simp only[fx]at hx;obtain⟨xs,_,rfl⟩:=hx;rw[h3];simp[Value.cells]
      |_=>simp[gj]at hcd
     |false=>
      simp only[gj]at hcd;have h4:=v4 rfl;rw[fP (qx hx hcd)]at h4;simpa using h4.symm
    subst this;exact⟨x,v',by rw[hv];exact v1,hx,hq⟩
   unfold K5 at hq
   split at hq
   ·rename_i ys _ _
    obtain⟨⟨p1,p2⟩,hq⟩:=hq;simp only[fx]at hx;obtain⟨xs,uo,rfl⟩:=hx;have il:=lx uo p1;have lY:(Value.agg (xs.map (·.cells.toList)).flatten.toArray).cells.toList=xs:=by rw[il];simp[Value.cells]
    have hl:=mo uo;rw[lY]at mg;obtain⟨v',v1,v2,v3,v4⟩:=vg (P:=P) (w:=w) hz hg (b:=b) (off:=j) (cs:=(xs.drop j).take sz) (by simp;omega) (fun i y hy=>mg _ i y hy) h1;have VK:=sB j sz uo
    split at hq
    ·next ha=>
     have h3:=v3 ha;refine⟨_,v',by rw[hv];exact v1,?_,hq⟩;rw[h3];refine xC VK ?_;have:((ys.drop j).take sz).all AV.gY=true:=by
      rw[aY]at p1⊢;exact fun x hx=>p1 x (cd (bf hx))
     rw[lx VK this]
    next ha=>
    have ha:agg=false:=by simpa using ha
    have h4:=v4 ha;have ou:=h1 ha;subst ou;refine⟨_,v',by rw[hv];exact v1,?_,hq⟩;have:=Ao (i:=j) uo (by omega);have e5:xs.getD j undef=v':=by
     have hj:j<xs.length:=by omega
     rw[bi,bR hj];rw[cy hj,aG,aA]at h4;simpa using h4
    rw[e5]at this;exact this
   exact hq.elim
  exact hq.elim
 exact hq.elim
variable {x:Operand}{u:TypeId}
def afL(h:At n0 S0 M0 w0 st o a w g){agg:Bool}{sz:Nat}{X:Ax.X}(ho:o.op=.load t x)(hx:fY P u x=some X)
  (hz:io P t=some sz) (hg:mL P t=some agg) (h1:agg=false→sz=1)
  (hq:zX (st.ev X) st.unit agg sz k):o.wp P a w (hO n0 S0 M0 w0 st o.dst k) Q':=by
 obtain⟨av,v,h2,h3,h4⟩:=BG (P:=P) h.us hz hg h1 (h.ev_ hx) hq;exact h.pure_ (v:=v) (by simp[execOp,ho,h2]) h3 h4
def mZ{g:Gh}{t:Option Nat}(hr:fx h us g (.im t (.pt d j)) v):
  ∃b off,v=.pointer (some ⟨b,off+j,none⟩)∧∀i,i<d.size→fx h us g (.im t (.pt d i)) (.pointer (some ⟨b,off+i,none⟩)):=by
 simp only[fx,f8]at hr;obtain⟨F,⟨b,off,c,e,fr,F',r1,r2,r3,r4,r5,r6⟩,f1,f2⟩:=hr;rw[fP (by simpa[D.fits]using f1)]at r1;refine⟨b,off,by simpa using r1,fun i hi=>?_⟩;simp only[fx,f8];exact⟨F,⟨b,off,c,e,fr,F',by simp[Value.cells],r2,hi,r4,r5,r6⟩,by simp[D.fits,Value.oneCell'],f2⟩
variable {i:Nat}
def agd(h:At n0 S0 M0 w0 st o a w g){off:Nat}{X:Ax.X}{fs:Array Field}{f:Field}(ho:o.op=.fieldAddr t x i)(hx:fY P u x=some X)
  (ht:P.underlying t=some (.struct fs)) (hf:fs[i]?=some f) (yE:f.offset=off) {z:Nat} (hz:io P f.type=some z) (Ej:z≠0)
  (hq:yY (st.ev X) st.unit off k):o.wp P a w (hO n0 S0 M0 w0 st o.dst k) Q':=by
 have ex:=h.ev_ hx;have gk:∀(b p:Nat),a.eval x=.pointer (some ⟨b,p,none⟩)→(execOp a.eval o).run P w=.ok (.value (.pointer (some ⟨b,p+off,none⟩))) w:=by
  intro b p hv;subst yE;simp[execOp,ho,hv,Instr.fieldAt,aW ht,hf,Instr.sureAddr,fieldPlace,lW hz,Ej,lm]
 unfold yY at hq
 split at hq
 ·next t1 d j e1=>
  rw[e1]at ex;obtain⟨b,p,hv,hr⟩:=mZ ex;exact h.pure_ (gk _ _ hv) (by rw[bW];exact hr _ hq.1) hq.2
 ·next t1 b0 o0 d j e1=>
  rw[e1]at ex;obtain⟨UB,hl⟩:=qN ex rfl;obtain⟨b,p,hv,hr⟩:=mZ UB;rw[hv]at hl;simp at hl;obtain⟨rfl,rfl⟩:=hl;exact h.pure_ (gk _ _ hv) (zZ (by rw[bW];exact hr _ hq.1) rfl) hq.2
 ·next id el j e1=>
  rw[e1]at ex;simp only[fx]at ex;obtain⟨ow,nn,usz,es,b,r1,r2,r3,r4,hv⟩:=ex;unfold OC at hq
  split at hq
  ·next ow' jc kv es' gZ=>
   have:=h.us.uniq r1 (fB gZ);injection this with e1 e2 e3 e4;subst e1;subst e2;subst e3;subst e4;refine h.pure_ (gk _ _ hv) ?_ hq.2;simp only[fx];exact⟨ow,nn,usz,es,b,r1,r2,hq.1,r4,by rw[bW]⟩
  exact hq.elim
 ·next id el j gQ ic j' e1=>
  rw[e1]at ex;simp only[fx]at ex;obtain⟨ow,nn,usz,es,b,c,ty,b',off',len',cap',r1,r2,r3,r4,r5,r6,hv⟩:=ex;refine h.pure_ (gk _ _ hv) ?_ hq.2;simp only[fx];exact⟨ow,nn,usz,es,b,c,ty,b',off',len',cap',r1,r2,r3,r4,r5,r6,by rw[bW]⟩
 ·next id j e1=>
  rw[e1]at ex;simp only[fx]at ex;obtain⟨sz,items,b,r1,r2,hv⟩:=ex;refine h.pure_ (gk _ _ hv) ?_ hq;simp only[fx];exact⟨sz,items,b,r1,r2,rfl⟩
 exact hq.elim
def Bh{g:Gh}{t:Option Nat}(hr:fx h us g (.im t d) v)(hd:d.fK=true):
  ∃cs F,v=.agg cs∧f8 h d F cs.toList∧∀b∈F,g.ok t b:=by
 simp only[fx]at hr;obtain⟨F,h1,h2,h3⟩:=hr;cases d with
 |ag ds=>obtain⟨c,rfl⟩:=h2;exact⟨c,F,rfl,by simpa[Value.cells]using h1,h3⟩
 |_=>simp[D.fK]at hd
def CP{g:Gh}{t:Option Nat}(hr:fx h us g (.im t d) v)(hd:d.fK=true){u:TypeId}{off sz:Nat}{agg:Bool}
  (hz:io P u=some sz) (hg:mL P u=some agg) (h1:agg=false→sz=1) (hj:off+sz≤d.size) (w:World):
  ∃cs v',v=.agg cs∧(part u cs off).run P w=.ok v' w∧fx h us g (.im t (D.sub d off sz agg)) v':=by
 obtain⟨cs,F,rfl,r1,r2⟩:=Bh hr hd;obtain⟨F1,F2,F3,c1,c2,c3,g1,g2,g3,g4,g5,g6⟩:=r1.sub (agg:=agg) hj (fun _=>hd) h1;refine⟨cs,?_⟩;have hF:∀b∈F2,g.ok t b:=fun x hx=>r2 x (by rw[g1];simp[hx]);cases agg with
 |true=>
  refine⟨.agg c2.toArray,rfl,?_,?_⟩
  ·have:cs.extract off (off+sz)=c2.toArray:=by
    apply aS
    rw[Array.toList_extract,g2,←g3,←g4];simp[List.extract_eq_take_drop]
   simp[part,rx hg,lW hz,this]
  simp only[fx];exact⟨F2,by simpa[Value.cells]using g5,pu g6,hF⟩
 |false=>
  obtain rfl:=h1 rfl
  match c2,g4 with
  | [v'],_=>
   have ho:=g5.one v' (by simp);refine⟨v',rfl,?_,?_⟩
   ·have:cs[off]?=some v':=by
     rw[←cr,g2,←g3];simp
    simp[part,rx hg,this]
   simp only[fx];exact⟨F2,by rw[fP ho];simpa using g5,jV g6 ho,hF⟩
def G8{S0 M0:Nat→Prop}{n0:Nat}(hu:gr h n0 S0 M0 us g)(hr:fx h us g (.tr i) v)(gZ:lu us i=some (.own d)):
  fx h us g (.im (some i) d) v:=by
 simp only[fx]at hr;obtain⟨_,rfl⟩:=hr;have ho:=hu.each _ (fB gZ);simp only[hP]at ho;simp only[fx];exact⟨g.φ i,ho.2.1,ho.2.2,fun b hb=>.inr ⟨i,rfl,hb,by rw[ho.1];simp⟩⟩
def ahw(h:At n0 S0 M0 w0 st o a w g){off sz:Nat}{agg:Bool}{X:Ax.X}{fs:Array Field}{f:Field}(ho:o.op=.field t x i)(hx:fY P u x=some X)
  (ht:P.underlying t=some (.struct fs)) (hf:fs[i]?=some f) (yE:f.offset=off) (hz:io P f.type=some sz) (hg:mL P f.type=some agg) (h1:agg=false→sz=1)
  (hq:Jo (st.ev X) st.unit off sz agg k):o.wp P a w (hO n0 S0 M0 w0 st o.dst k) Q':=by
 have ex:=h.ev_ hx;subst yE;have key:∀t d,fx w.heap st.us g (.im t d) (a.eval x)→d.fK=true→f.offset+sz≤d.size→k (.im t (D.sub d f.offset sz agg)) []→o.wp P a w (hO n0 S0 M0 w0 st o.dst k) Q':=by
  intro t d hr hd hj hk;obtain⟨cs,v',hv,hp,wL⟩:=CP (P:=P) hr hd hz hg h1 hj w;exact h.pure_ (by simp[execOp,ho,hv,Instr.field,aW ht,hf,asAgg,hp]) wL hk
 unfold Jo at hq
 split at hq
 ·next t1 d e1=>
  rw[e1]at ex;exact key _ _ ex hq.1.1 hq.1.2 hq.2
 ·next i e1=>
  rw[e1]at ex;unfold R4 at hq
  split at hq
  ·next d gZ=>exact key _ _ (G8 h.us ex gZ) hq.1.1 hq.1.2 hq.2
  exact hq.elim
 exact hq.elim
def Iy(hd:d.fK=false):D.sub d j 1 false=d:=by cases d<;>simp_all [D.sub,D.fK]
def zP{S0 M0:Nat→Prop}{n0:Nat}(hu:gr h n0 S0 M0 us g){id el j sz:Nat}{agg:Bool}{v:Value}{nn:Option Bool}{usz:Nat}{es:List D}
  (hr:fx h us g (.cw id el j sz agg) v) (gZ:lu us id=some (.ar true nn usz es)):fx h us g (.im (some id) (D.sub (D.at es el) j sz agg)) v:=by
 simp only[fx]at hr;obtain⟨jc,gv,es',b,c,e,r1,r2,r3,r4,r5,r6,r7,r8,r9⟩:=hr;have:=hu.uniq r1 (fB gZ);injection this with e1 e2 e3 e4;subst e2;subst e3;subst e4;obtain⟨c',e',F2,c2,p1,p2,p3,p4,p5,p6,p7⟩:=pg (agg:=agg) (j:=j) (sz:=sz) hu r1 r2 r4 r3 r6 r7;rw[r5]at p1;injection p1 with p1;injection p1 with p1 p1';subst p1;have hc:v.cells.toList=c2:=by
  rw[r8];exact vD p3 p2
 simp only[fx];refine⟨F2,by rw[hc];exact p4,?_,fun x hx=>.inr ⟨id,rfl,by simpa using p7 x hx⟩⟩;cases agg with
 |true=>simp only[aK]at r9;rw[r9];exact pu p5
 |false=>exact jV p5 (by simpa using r9)
variable {ds:List D}{len:Nat}
def fR.adw{sz:Nat}(hr:fR h ds F cs)(hs:∀d∈ds,d.size=sz)(hl:off+len≤ds.length):
  ∃F2,fR h ((ds.drop off).take len) F2 ((cs.drop (off*sz)).take (len*sz))∧∀x∈F2,x∈F:=by
 have e:ds=ds.take off++((ds.drop off).take len++(ds.drop off).drop len):=by rw[bw,bw]
 have wL:fR h (ds.take off++((ds.drop off).take len++(ds.drop off).drop len)) F cs:=by rw[←e];exact hr
 obtain⟨F1,F23,c1,ZW,rfl,rfl,s1,KN⟩:=wL.split;obtain⟨F2,F3,c2,c3,rfl,rfl,s2,s3⟩:=KN.split;have l1:c1.length=off*sz:=by
  rw[s1.length,D.fG (sz:=sz) fun d hd=>hs d (bf hd),bk,bl (by omega)]
 have l2:c2.length=len*sz:=by
  rw[s2.length,D.fG (sz:=sz) fun d hd=>hs d (cd (bf hd)),bk,cK,bl (by omega)]
 refine⟨F2,?_,fun x hx=>by simp[hx]⟩;rw[←l1,←l2];simpa using s2
variable {nn:Option Bool}
def f8.part{p:Option Addr}{len' cap':Nat}(hr:f8 h (.ls nn sz ds) F [.slice p len' cap'])(hl:off+len≤len'):
  len'=ds.length∧off≤cap'∧∃F2,f8 h (.ls (if off=0∧len=ds.length then nn else none) sz ((ds.drop off).take len)) F2 [.slice (p.map fun a=>a.add (if off=cap' then 0 else off*sz)) len (cap'-off)]∧∀x∈F2,x∈F:=by
 simp only[f8]at hr;rcases hr with⟨q,q1,rfl,rfl,q3,q4⟩|⟨b,o,cap,c,e,fr,F',q1,rfl,q3,q4,q5,q6,q7,q8,q9⟩
 ·simp only[bO,dL,bm]at q1;obtain⟨rfl,rfl,rfl⟩:=q1;have h1:off=0:=by omega
  have h2:len=0:=by omega
  subst h1 h2;refine⟨rfl,aU _,[],?_,by simp⟩;simp only[f8];refine .inl ⟨_,by simp;rfl,by simp,trivial,?_,?_⟩
  ·cases p<;>simp_all
  cases p<;>simp_all
 simp only[bO,dL,bm]at q1;obtain⟨rfl,rfl,rfl⟩:=q1;obtain⟨F2,s1,s2⟩:=q9.adw q8 hl;have hlen:((ds.drop off).take len).length=len:=by simp;omega
 refine⟨rfl,by omega,?_⟩
 by_cases hc:off=cap'
 ·subst hc;have h2:len=0:=by omega
  subst h2;refine⟨[],?_,by simp⟩;simp only[f8];refine .inl ⟨some ⟨b,o,none⟩,by simp[Addr.add],by simp,trivial,by simp,fun _=>?_⟩
  split;exact q3;simp
 refine⟨b::F2,?_,?_⟩
 ·simp only[f8];have hm:(cap'-off)*sz+off*sz=cap'*sz:=by rw[←a9];congr 1;omega
  refine .inr ⟨b,o+off*sz,cap'-off,c,e,fr,F2,by simp[hlen,Addr.add,hc],rfl,?_,by rw[hlen];omega,by rw[hlen];omega,q6,by omega,fun d hd=>q8 d (cd (bf hd)),?_⟩
  ·split
   exact q3;simp
  rw[hlen];have hle:off*sz+len*sz≤ds.length*sz:=by rw[←a9];exact ba _ hl
  have e2:(((c.toList.drop o).take (ds.length*sz)).drop (off*sz)).take (len*sz)=(c.toList.drop (o+off*sz)).take (len*sz):=by
   rw[dq,ch,de,bl (by omega)]
  rw[←e2];exact s1
 intro x hx;rcases aj.1 hx with rfl|hx
 simp;simp[s2 x hx]
variable {es:List D}{usz:Nat}
def Bu{S0 M0:Nat→Prop}{n0:Nat}(hu:gr h n0 S0 M0 us g){id b:Nat}(hm:(id,U.ar true nn usz es)∈us)(mD:el<es.length)(hj:j+1≤usz)
  (hb:g.β id=some b) {c:Array Value} {e:TypeId} (hc:h[b]?=some (.cells c e (0,0))) {cv:Value} (Pa:c[el*usz+j]?=some cv):
  ∃F,f8 h (D.sub (D.at es el) j 1 false) F [cv]∧∀x∈F,g.ok (some id) x:=by
 obtain⟨c1,e1,F2,c2,p1,p2,p3,p4,p5,p6,p7⟩:=pg (agg:=false) (sz:=1) hu hm mD hb hj (by simp) (by simp);rw[hc]at p1;injection p1 with p1;injection p1 with p1 p1';subst p1
 match c2,p3 with
 | [v],_=>
  have h0:=p2 0 v rfl;rw[aC,Pa]at h0;obtain rfl:=aQ h0;exact⟨F2,p4,fun x hx=>.inr ⟨id,rfl,by simpa using p7 x hx⟩⟩
def VA{S0 M0:Nat→Prop}{n0:Nat}(hu:gr h n0 S0 M0 us g){id gQ:Nat}{nn:Option Bool}{usz:Nat}{es:List D}{d:D}(hr:fx h us g (.qs id el j gQ off len) v)
  (gZ:lu us id=some (.ar true nn usz es)) (hd:xK off len gQ (D.sub (D.at es el) j 1 false)=some d):fx h us g (.im (some id) d) v:=by
 simp only[fx]at hr;obtain⟨ow,wM,B0,qh,b,c,e,p,len',cap',r1,r2,r3,r4,r5,r6,r7,r8,rfl⟩:=hr;have:=hu.uniq r1 (fB gZ);injection this with e1 e2 e3 e4;subst e1 e2 e3 e4;obtain⟨F,q1,q2⟩:=Bu hu r1 r2 r3 r4 r5 r6;unfold xK at hd
 split at hd
 ·next jc sz ds kf=>
  rw[kf]at q1
  split at hd
  ·next hz=>
   subst hz;obtain rfl:=aQ hd;obtain⟨_,_,F2,s1,s2⟩:=q1.part r7;simp only[fx];exact⟨F2,by simpa[Value.cells]using s1,by simp[D.fits,Value.oneCell'],fun x hx=>q2 x (s2 x hx)⟩
  cases hd
 cases hd
def aaQ{S0 M0:Nat→Prop}{n0:Nat}(hu:gr h n0 S0 M0 us g){id:Nat}{ow:Bool}{nn:Option Bool}{usz:Nat}{es:List D}(hr:fx h us g (.ss id off len) v)
  (gZ:lu us id=some (.ar ow nn usz es)):∃F,f8 h (.ls none usz ((es.drop off).take len)) F v.cells.toList:=by
 simp only[fx]at hr;obtain⟨Pb,wM,B0,qh,r1,r2,r0⟩:=hr;have:=hu.uniq r1 (fB gZ);injection this with e1 e2 e3 e4;subst e1 e2 e3 e4;have ho:=hu.each _ r1;simp only[hP]at ho;obtain⟨kw,hs,ho⟩:=ho;rcases r0 with⟨b,o,r3,r4,rfl⟩|⟨_,rfl,rfl⟩
 case inr=>
  refine⟨[],?_⟩;simp only[f8];exact .inl ⟨none,by simp[Value.cells],by simp,trivial,by simp,by simp⟩
 rcases ho with⟨h0,_⟩|⟨b',c,e,G,cs,rest,k1,k2,k3,k4,k5,k6,k7,k8⟩
 rw[r3]at h0;cases h0;rw[r3]at k1;obtain rfl:=aQ k1;obtain⟨F2,s1,s2⟩:=k6.adw hs r2;have hlen:((qh.drop off).take len).length=len:=by simp;omega
 have lc:=k6.length;rw[D.fG hs]at lc
 by_cases hc:off<g.cap id
 ·obtain rfl:=r4 hc;refine⟨b::F2,?_⟩;simp only[f8];have hm:(g.cap id-off)*B0+off*B0=g.cap id*B0:=by rw[←a9];congr 1;omega
  refine .inr ⟨b,off*B0,g.cap id-off,c,e,(0,0),F2,by simp[Value.cells,hlen],rfl,by simp,by rw[hlen];omega,by rw[hlen];omega,k2,by omega,fun d hd=>hs d (cd (bf hd)),?_⟩;rw[hlen,k3];have hle:off*B0+len*B0≤qh.length*B0:=by rw[←a9];exact ba _ r2
  rw[dt (by omega),du (by simp;omega)];exact s1
 have h1:len=0:=by omega
 subst h1;refine⟨[],?_⟩;simp only[f8];exact .inl ⟨some ⟨b,o,none⟩,by simp[Value.cells];omega,by simp,trivial,by simp,by simp⟩
def nv{S0 M0:Nat→Prop}{n0:Nat}(hu:gr h n0 S0 M0 us g)(hr:fx h us g av v){t:Option Nat}{d:D}
  (hd:av.den (lu us)=some (t,d)):fx h us g (.im t d) v:=by
 unfold AV.den at hd
 split at hd
 ·injection hd with hd;injection hd with e1 e2;subst e1;subst e2;exact hr
 ·next i=>
  split at hd
  ·next d' gZ=>injection hd with hd;injection hd with e1 e2;subst e1;subst e2;exact G8 hu hr gZ
  cases hd
 ·next id el j sz agg=>
  split at hd
  ·next nn usz es gZ=>injection hd with hd;injection hd with e1 e2;subst e1;subst e2;exact zP hu hr gZ
  cases hd
 ·next id el j gQ off len=>
  split at hd
  ·next nn usz es gZ=>
   simp only[cF]at hd;obtain⟨d',hd,ZX⟩:=hd;injection ZX with e1 e2;subst e1 e2;exact VA hu hr gZ hd
  cases hd
 cases hd
def jT(ht:P.underlying t=some (.slice e))(hz:io P e=some sz){b off cap:Nat}{kd:IntKind}{n:Int}(h0:0≤n)(hn:n<len)(w:World):
  (Instr.indexAt t (.slice (some ⟨b,off,none⟩) len cap) (.int kd n)).run P w=.ok (.pointer (some ⟨b,off+n.toNat*sz,none⟩)) w:=by
 have h2:0≤n∧n<(len:Int):=⟨h0,hn⟩;simp[Instr.indexAt,asIntOf,aW ht,h0,hn,lW hz,lm]
variable {u1 u2:TypeId}
def agN(h:At n0 S0 M0 w0 st o a w g){e:TypeId}{sz:Nat}{i:Operand}{X I:Ax.X}(ho:o.op=.indexAddr t x i)(hx:fY P u1 x=some X)(hi:fY P u2 i=some I)
  (ht:P.underlying t=some (.slice e)) (hz:io P e=some sz) (hq:D6 (st.ev X) (st.ev I) st.unit sz k):o.wp P a w (hO n0 S0 M0 w0 st o.dst k) Q':=by
 have ex:=h.ev_ hx;have ei:=h.ev_ hi;unfold D6 at hq
 split at hq
 ·next t1 kd n e1=>
  rw[e1]at ei;have vi:=gU ei
  split at hq
  ·next id off len e2=>
   rw[e2]at ex;simp only[fx]at ex;obtain⟨ow,nn,usz,es,r1,r2,r3⟩:=ex;obtain⟨⟨q1,q2⟩,hq⟩:=hq;unfold Gd at hq
   split at hq
   ·next ow' jc kv es' gZ=>
    have:=h.us.uniq r1 (fB gZ);injection this with e1 e2 e3 e4;subst e1;subst e2;subst e3;subst e4;obtain⟨⟨rfl,jD⟩,hk⟩:=hq;rcases r3 with⟨b,r3,r4⟩|⟨_,_,rfl,_⟩
    ·refine h.pure_ (v:=.pointer (some ⟨b,off*sz+n.toNat*sz,none⟩)) ?_ ?_ hk;have:=jT (P:=P) ht hz (b:=b) (off:=off*sz) (len:=len) (cap:=g.cap id-off) (kd:=kd) q1 q2 w;simp[execOp,ho,vi,r4,this];simp only[fx];refine⟨ow,nn,sz,es,b,r1,by omega,jD,r3,by rw[a9];rfl⟩
    omega
   exact hq.elim
  ·next id off len e2=>
   rw[e2]at ex;simp only[fx]at ex;obtain⟨ow,nn,usz,es,r1,r2,r0⟩:=ex;obtain⟨⟨q1,q2⟩,hq⟩:=hq;rcases r0 with⟨b,o,r3,r4,r5⟩|⟨_,rfl,_⟩
   case inr=>omega
   unfold Gd at hq
   split at hq
   ·next ow' jc kv es' gZ=>
    have:=h.us.uniq r1 (fB gZ);injection this with e1 e2 e3 e4;subst e1;subst e2;subst e3;subst e4;obtain⟨⟨rfl,jD⟩,hk⟩:=hq;have B4:es.length≤g.cap id:=by
     have ho:=h.us.each _ r1;simp only[hP]at ho;rcases ho.2.2 with⟨h0,_⟩|⟨_,_,_,_,_,_,_,_,_,_,hc,_⟩
     rw[r3]at h0;cases h0;exact hc
    obtain rfl:=r4 (by omega);refine h.pure_ (v:=.pointer (some ⟨b,off*sz+n.toNat*sz,none⟩)) ?_ ?_ hk;have:=jT (P:=P) ht hz (b:=b) (off:=off*sz) (len:=len) (cap:=g.cap id-off) (kd:=kd) q1 q2 w;simp[execOp,ho,vi,r5,this];simp only[fx];refine⟨ow,nn,sz,es,b,r1,by omega,jD,r3,by rw[a9];rfl⟩
   exact hq.elim
  ·next id el j e2=>
   rw[e2]at ex;unfold Qj at hq
   split at hq
   ·next nn usz es gZ=>
    unfold Vh at hq
    split at hq
    ·next jc gv ds hd=>
     obtain⟨⟨rfl,jD,q1,q2⟩,hk⟩:=hq;have hr:=zP h.us ex gZ;rw[hd]at hr;simp only[fx,f8,D.fits]at hr;obtain⟨F,iF,hf,i9⟩:=hr;rw[fP hf]at iF;rcases iF with⟨_,_,rfl,_⟩|⟨b',off',cap',c',ic,fr,F',p1,p2,p3,p4,p5,p6,p7,p8,p9⟩
     simp at q2;omega;have hv:a.eval x=.slice (some ⟨b',off',none⟩) ds.length cap':=by simpa using p1
     simp only[fx]at ex;obtain⟨KO,j8,EC,b,c,ty,r1,r2,r3,r4,r5,r6,r7,r8,r9⟩:=ex;have:=h.us.uniq r1 (fB gZ);injection this with z1 z2 z3 z4;subst z2 z3 z4;refine h.pure_ (v:=.pointer (some ⟨b',off'+n.toNat*sz,none⟩)) ?_ ?_ hk;have:=jT (P:=P) ht hz (b:=b') (off:=off') (len:=ds.length) (cap:=cap') (kd:=kd) q1 q2 w;simp[execOp,ho,vi,hv,this];simp only[fx];refine⟨true,KO,j8,EC,b,c,ty,b',off',ds.length,cap',r1,r2,r3,r4,r5,?_,by simp⟩;rw[fP hf]at r8;have h1:((c.toList.drop (el*j8+j)).take 1)[0]?=some (a.eval x):=by rw[←r8];simp
     rw[dr (by omega),cJ,aC,cr]at h1;rw[h1,hv]
    exact hq.elim
   exact hq.elim
  unfold K4 at hq
  split at hq
  ·next t2 nn gv ds hd=>
   have hr:=nv h.us ex hd;obtain⟨⟨rfl,jD,q1,q2⟩,hk⟩:=hq;have wL:=hr;simp only[fx,f8,D.fits]at hr;obtain⟨F,iF,hf,i9⟩:=hr;rw[fP hf]at iF;rcases iF with⟨_,_,rfl,_⟩|⟨b,off,cap,c,el,fr,F',p1,p2,p3,p4,p5,p6,p7,p8,p9⟩
   simp at q2;omega;have hv:a.eval x=.slice (some ⟨b,off,none⟩) ds.length cap:=by simpa using p1
   have gI:n.toNat<ds.length:=by omega
   obtain⟨F1,F2,F3,c1,c2,c3,g1,g2,g3,g4,g5⟩:=p9.pick gI;have jm:=p8 _ (aZ gI);have l1:c1.length=n.toNat*sz:=by
    rw[g3.length,D.fG (sz:=sz) fun d hd=>p8 d (bf hd),bk,bl (db gI)]
   have hmul:n.toNat*sz+sz≤ds.length*sz:=by
    have:=ba sz (show n.toNat+1≤ds.length by omega);rw[a9]at this;omega
   have HR:ds.length*sz≤cap*sz:=ba sz p4;refine h.pure_ (v:=.pointer (some ⟨b,off+n.toNat*sz,none⟩)) ?_ ?_ hk;have:=jT (P:=P) ht hz (b:=b) (off:=off) (len:=ds.length) (cap:=cap) (kd:=kd) q1 q2 w;simp[execOp,ho,vi,hv,this];rw[D.j7 gI];simp only[fx];refine⟨b::F2,?_,by simp[D.fits,Value.oneCell'],?_⟩
   ·unfold f8;refine⟨b,off+n.toNat*sz,c,el,fr,F2,by simp[Value.cells],rfl,by omega,p6,by omega,?_⟩;have:(c.toList.drop (off+n.toNat*sz)).take ((ds[n.toNat]).size)=c2:=by
     have e1:=congrArg (fun l=>(l.drop c1.length).take c2.length) g2;simp only[dd,bV,dq,ch,de]at e1;rw[l1]at e1;have l2:=g4.length;rw[jm]at l2;rw[l2,bl (by omega)]at e1;rw[jm];exact e1
    rw[this];exact g4
   intro y hy
   apply i9
   rw[p2,g1];rcases aj.1 hy with rfl|hy
   simp;simp[hy]
  ·next t2 b0 o0 nn gv ds hd=>
   obtain⟨hr,hl⟩:=qN (nv h.us ex hd) rfl;obtain⟨⟨rfl,jD,q1,q2⟩,hk⟩:=hq;have wL:=hr;simp only[fx,f8,D.fits]at hr;obtain⟨F,iF,hf,i9⟩:=hr;rw[fP hf]at iF;rcases iF with⟨_,_,rfl,_⟩|⟨b,off,cap,c,el,fr,F',p1,p2,p3,p4,p5,p6,p7,p8,p9⟩
   simp at q2;omega;have hv:a.eval x=.slice (some ⟨b,off,none⟩) ds.length cap:=by simpa using p1
   rw[hv]at hl;simp at hl;obtain⟨rfl,rfl⟩:=hl;have gI:n.toNat<ds.length:=by omega
   obtain⟨F1,F2,F3,c1,c2,c3,g1,g2,g3,g4,g5⟩:=p9.pick gI;have jm:=p8 _ (aZ gI);have l1:c1.length=n.toNat*sz:=by
    rw[g3.length,D.fG (sz:=sz) fun d hd=>p8 d (bf hd),bk,bl (db gI)]
   have hmul:n.toNat*sz+sz≤ds.length*sz:=by
    have:=ba sz (show n.toNat+1≤ds.length by omega);rw[a9]at this;omega
   have HR:ds.length*sz≤cap*sz:=ba sz p4;refine h.pure_ (v:=.pointer (some ⟨b,off+n.toNat*sz,none⟩)) ?_ ?_ hk;have:=jT (P:=P) ht hz (b:=b) (off:=off) (len:=ds.length) (cap:=cap) (kd:=kd) q1 q2 w;simp[execOp,ho,vi,hv,this];refine zZ ?_ rfl;rw[D.j7 gI];simp only[fx];refine⟨b::F2,?_,by simp[D.fits,Value.oneCell'],?_⟩
   ·unfold f8;refine⟨b,off+n.toNat*sz,c,el,fr,F2,by simp[Value.cells],rfl,by omega,p6,by omega,?_⟩;have:(c.toList.drop (off+n.toNat*sz)).take ((ds[n.toNat]).size)=c2:=by
     have e1:=congrArg (fun l=>(l.drop c1.length).take c2.length) g2;simp only[dd,bV,dq,ch,de]at e1;rw[l1]at e1;have l2:=g4.length;rw[jm]at l2;rw[l2,bl (by omega)]at e1;rw[jm];exact e1
    rw[this];exact g4
   intro y hy
   apply i9
   rw[p2,g1];rcases aj.1 hy with rfl|hy
   simp;simp[hy]
  exact hq.elim
 exact hq.elim
variable {c:Call}
def acf(h:At n0 S0 M0 w0 st o a w g){e:TypeId}{X:Ax.X}(ho:o.op=.call c)(hc:c.callee=.builtin .len)(ha:c.args= #[x])(nA:c.argTypes= #[t])(hx:fY P u1 x=some X)
  (ht:P.underlying t=some (.slice e)) (hq:pO (st.ev X) st.unit k):o.wp P a w (hO n0 S0 M0 w0 st o.dst k) Q':=by
 have ex:=h.ev_ hx;have gk:∀p len cap,a.eval x=.slice p len cap→(execOp a.eval o).run P w=.ok (.value (.int .i64 len)) w:=by
  intro p len cap hv;simp[execOp,ho,resolve,hc,ha,nA,hv,invoke,builtin,Builtin.len_,aW ht,goInt]
 unfold pO at hq
 split at hq
 ·next id off len e2=>
  rw[e2]at ex;simp only[fx]at ex;obtain⟨ow,nn,usz,es,r1,r2,r3⟩:=ex;rcases r3 with⟨b,r3,r4⟩|⟨_,_,rfl,r4⟩
  exact h.pure_ (gk _ _ _ r4) (g8 rfl) hq;exact h.pure_ (gk _ _ _ r4) (g8 rfl) hq
 ·next id off len e2=>
  rw[e2]at ex;simp only[fx]at ex;obtain⟨ow,nn,usz,es,r1,r2,⟨b,o,r3,r4,r5⟩|⟨_,rfl,r5⟩⟩:=ex;exact h.pure_ (gk _ _ _ r5) (g8 rfl) hq;exact h.pure_ (gk _ _ _ r5) (g8 rfl) hq
 ·next nn sz e2=>
  rw[e2]at ex;simp only[fx]at ex;obtain⟨p,r5,_⟩:=ex;exact h.pure_ (gk _ _ _ r5) (g8 rfl) hq
 unfold wJ at hq
 split at hq
 ·next t2 nn gv ds hd=>
  have hr:=nv h.us ex hd;obtain⟨p,len,cap,hv,rfl,_,_⟩:=pF hr;exact h.pure_ (gk _ _ _ hv) (g8 rfl) hq
 ·next t2 b0 o0 nn gv ds hd=>
  obtain⟨hr,_⟩:=qN (nv h.us ex hd) rfl;obtain⟨p,len,cap,hv,rfl,_,_⟩:=pF hr;exact h.pure_ (gk _ _ _ hv) (g8 rfl) hq
 exact hq.elim
def WP(h:At n0 S0 M0 w0 st o a w g){X:Ax.X}(ho:o.op=.call c)(hc:c.callee=.builtin .len)(ha:c.args= #[x])(nA:c.argTypes= #[t])(hx:fY P u1 x=some X)
  (ht:P.underlying t=some .string) (hq:vY (st.ev X) k):o.wp P a w (hO n0 S0 M0 w0 st o.dst k) Q':=by
 have ex:=h.ev_ hx;unfold vY at hq
 split at hq
 ·next t1 s e1=>
  rw[e1]at ex;have hv:=gU ex;exact h.pure_ (v:=.int .i64 s.size) (by simp[execOp,ho,resolve,hc,ha,nA,hv,invoke,builtin,Builtin.len_,aW ht,goInt]) (g8 rfl) hq
 exact hq.elim
def abi(h:At n0 S0 M0 w0 st o a w g){y:Operand}{X Y:Ax.X}{mx:Bool}(ho:o.op=.call c)(hc:c.callee=.builtin (if mx then .max else .min))(ha:c.args= #[x,y])(hx:fY P u1 x=some X)(hy:fY P u2 y=some Y)
  (hq:Vt mx (st.ev X) (st.ev Y) k):o.wp P a w (hO n0 S0 M0 w0 st o.dst k) Q':=by
 have ex:=h.ev_ hx;have ey:=h.ev_ hy;unfold Vt at hq
 split at hq
 ·next t1 a1 m t2 b1 n e1 e2=>
  rw[e1]at ex;rw[e2]at ey;have hv:=gU ex;have hw:=gU ey;cases mx with
  |true=>exact h.pure_ (v:=.int a1 (if n>m then n else m)) (by simp[execOp,ho,resolve,hc,ha,hv,hw,invoke,builtin,Builtin.max_,Builtin.max2]) (g8 rfl) hq
  |false=>exact h.pure_ (v:=.int a1 (if n<m then n else m)) (by simp[execOp,ho,resolve,hc,ha,hv,hw,invoke,builtin,Builtin.min_,Builtin.min2]) (g8 rfl) hq
 exact hq.elim
def agm(h:At n0 S0 M0 w0 st o a w g){i:Operand}{X I:Ax.X}(ho:o.op=.index t x i)(hx:fY P u1 x=some X)(hi:fY P u2 i=some I)
  (ht:P.underlying t=some .string) (hq:U1 (st.ev X) (st.ev I) k):o.wp P a w (hO n0 S0 M0 w0 st o.dst k) Q':=by
 have ex:=h.ev_ hx;have ei:=h.ev_ hi;unfold U1 at hq
 split at hq
 ·next t1 s t2 kd n e1 e2=>
  rw[e1]at ex;rw[e2]at ei;have hv:=gU ex;have hi:=gU ei;obtain⟨⟨q1,q2⟩,hk⟩:=hq;refine h.pure_ (v:=.int .u8 (s.data.getD n.toNat 0).toNat) ?_ (g8 rfl) hk;have gI:n.toNat<s.size:=by omega
  have hs:s[n.toNat]?=some (s.data.getD n.toNat 0):=by
   have:s[n.toNat]?=some s[n.toNat]:=by simp[getElem?_pos,gI]
   rw[this];have zu:n.toNat<s.data.size:=gI;congr 1;simp only[Array.getD,zu,dif_pos]
   rfl
  simp[execOp,ho,hv,hi,Instr.index,asIntOf,aW ht,q1,hs]
 exact hq.elim
def ir{k:Nat}:∀{us:List (Nat×U)},o9 k us=true→k∉us.map (·.1)
 | [],_=>by simp
 |(i,u)::r,h=>by
  simp only[o9,bA,dD]at h;have ih:=ir h.2;simp only[lC,aj,cA];exact⟨fun e=>h.1 e.symm,ih⟩
def nE{g:Gh}{a b:List (Nat×U)}:fp g (a++b)=fp g a++fp g b:=by simp[fp]
variable {h':ij}
def gr.grow{nus:List (Nat×U)}{g g':Gh}(hu:gr h n0 S0 M0 us g)(jm:h.size≤h'.size)(hh:∀b,b<h.size→h'[b]?=h[b]?)
  (hk:((nus++us).map (·.1)).Nodup) (hβ:∀x∈us,g'.β x.1=g.β x.1∧g'.root x.1=g.root x.1∧g'.cap x.1=g.cap x.1) (hφ:∀x∈us,g'.φ x.1=g.φ x.1)
  (hS:∀b,g.Sh b→g'.Sh b) (hS':∀b,g'.Sh b→g.Sh b∨(h.size≤b∧b<h'.size∧b∉fp g' nus)) (hn:(fp g' nus).Nodup) (B5:∀b∈fp g' nus,h.size≤b∧b<h'.size) (hb:n0≤h.size)
  (hd:∀k,k∉(nus++us).map (·.1)→g'.φ k=[]) (ho:∀x∈nus,hP h' (nus++us) g' x.1 x.2) (hz:∀b∈fp g' nus,mO h' b) (wy:∀x∈nus,x.2.jL=true→x.1<3000000000):gr h' n0 S0 M0 (nus++us) g':=by
 have jb:fp g' us=fp g us:=by
  unfold fp;clear hu ho hd hk hβ
  induction us with
  |nil=>rfl
  |cons x us ih=>simp only[cp];rw[hφ x (by simp),ih fun y hy=>hφ y (by simp[hy])]
 have i9:∀t b,b<h.size→g.ok t b→g'.ok t b:=by
  intro t b _ hb;rcases hb with hb|⟨i,hi,h1,h2⟩
  exact .inl (hS b hb);obtain⟨u,hm⟩:=hu.live h1;exact .inr ⟨i,hi,by rw[hφ _ hm];exact h1,by rw[(hβ _ hm).1];exact h2⟩
 refine⟨hk,?_,?_,?_,hd,?_,?_,?_,hu.ww.app wy fun x hx=>⟨(hβ x hx).1,(hβ x hx).2.2⟩⟩
 ·rw[nE,jb,aT];refine⟨hn,hu.nodup,?_⟩;rintro x hx y hy rfl;have:=(B5 x hx).1;have:=hu.lt x hy;omega
 ·intro b rU;rw[nE,jb]at rU;rcases ax.1 rU with h1|h1
  exact(B5 b h1).2;have:=hu.lt b h1;omega
 ·intro b rU gI;rw[nE,jb]at rU;rcases ax.1 rU with h1|h1
  have:=(B5 b h1).1;omega;exact hu.low b h1 gI
 ·intro b rU;rcases hS' b rU with h1|⟨h1,h2,h3⟩
  ·obtain⟨q1,q2,q3⟩:=hu.sh b h1;refine⟨by omega,q2,?_⟩;rw[nE,jb,ax];rintro(h4|h4);have:=(B5 b h4).1;omega;exact q3 h4
  refine⟨h2,fun h4=>by omega,?_⟩;rw[nE,jb,ax];rintro(h4|h4);exact h3 h4;have:=hu.lt b h4;omega
 ·intro x hx;rcases ax.1 hx with h1|h1
  exact ho x h1;exact(hu.each x h1).mono h1 (fun y hy=>ax.2 (.inr hy)) hh hβ (hφ x h1) (fun b _ hb=>hS b hb) i9
 intro b rU;rw[nE,jb]at rU;rcases ax.1 rU with h1|h1
 exact hz b h1;exact(hu.fz b h1).eq (hh b (hu.lt b h1))
def fx.grow{nus:List (Nat×U)}{g g':Gh}(hu:gr h n0 S0 M0 us g)(hh:∀b,b<h.size→h'[b]?=h[b]?)
  (hβ:∀x∈us,g'.β x.1=g.β x.1∧g'.root x.1=g.root x.1∧g'.cap x.1=g.cap x.1) (hφ:∀x∈us,g'.φ x.1=g.φ x.1)
  (hS:∀b,g.Sh b→g'.Sh b) {av:AV} {v:Value} (hr:fx h us g av v):fx h' (nus++us) g' av v:=by
 refine hr.mono (fun y hy=>ax.2 (.inr hy)) hh hβ ?_;intro t b _ hb;rcases hb with hb|⟨i,hi,h1,h2⟩
 exact .inl (hS b hb);obtain⟨u,hm⟩:=hu.live h1;exact .inr ⟨i,hi,by rw[hφ _ hm];exact h1,by rw[(hβ _ hm).1];exact h2⟩
def Gh.add(g:Gh)(d:Nat)(β:Option Nat)(φ:List Nat)(root:Value)(cap:Nat):Gh:=
 {β:=fun i=>if i=d then β else g.β i,φ:=fun i=>if i=d then φ else g.φ i,root:=fun i=>if i=d then root else g.root i,
  cap:=fun i=>if i=d then cap else g.cap i,Sh:=g.Sh}
def lq(h:At n0 S0 M0 w0 st o a w g){c:Array Value}{e:TypeId}{v:Value}{av:AV}{d:Nat}{u:U}(φ:List Nat)(cap:Nat)
  (gk:(execOp a.eval o).run P w=.ok (.value v) {w with heap:=w.heap.push (.cells c e (0,0))})
  (hφ:φ=[w.heap.size])
  (hu:o9 d st.us=true→hP (w.heap.push (.cells c e (0,0))) ((d,u)::st.us) (g.add d (some w.heap.size) φ v cap) d u)
  (hr:o9 d st.us=true→fx (w.heap.push (.cells c e (0,0))) ((d,u)::st.us) (g.add d (some w.heap.size) φ v cap) av v)
  (hk:k av [(d,u)]) (wy:u.jL=true→d<3000000000:=by simp[U.jL]):o.wp P a w (hO n0 S0 M0 w0 st o.dst k) Q':=by
 unfold Oper.wp;rw[gk];refine⟨av,[(d,u)],hk,fun hf=>?_⟩;have kZ:o9 d st.us=true:=by
  rcases hf with hf|hf
  cases hf;simp only[St.fresh,o9,bU]at hf;exact hf
 have yF:=ir kZ;generalize B6:g.add d (some w.heap.size) φ v cap=g' at hu hr;have gw:∀x∈st.us,x.1≠d:=fun x hx e=>yF (aR.2 ⟨x,hx,e⟩);have hβ:∀x∈st.us,g'.β x.1=g.β x.1∧g'.root x.1=g.root x.1∧g'.cap x.1=g.cap x.1:=by
  intro x hx;subst B6;simp[Gh.add,gw x hx]
 have hφ':∀x∈st.us,g'.φ x.1=g.φ x.1:=by
  intro x hx;subst B6;simp[Gh.add,gw x hx]
 have hh:∀b,b<w.heap.size→(w.heap.push (.cells c e (0,0)))[b]?=w.heap[b]?:=by
  intro b hb;rw[dX,al (by omega)]
 have hS:∀b,g.Sh b→g'.Sh b:=by subst B6;exact fun b hb=>hb
 have jb:fp g' [(d,u)]=[w.heap.size]:=by subst B6;simp[fp,Gh.add,hφ]
 have hU:gr (w.heap.push (.cells c e (0,0))) n0 S0 M0 ([(d,u)]++st.us) g':=by
  refine h.us.grow (by simp) hh ?_ hβ hφ' hS ?_ ?_ ?_ (by rw[h.sat.base];exact h.sat.size) ?_ ?_ (by rw[jb];intro b hb;rw[am]at hb;subst hb;exact .inl ⟨c,e,by simp⟩) (by intro x hx hp;rw[am]at hx;subst hx;exact wy hp);simp only[bp,be,lC,aP];exact⟨yF,h.us.keys⟩;intro b hb;subst B6;exact .inl hb;rw[jb];simp;rw[jb];simp;intro i hi;simp only[bp,be,lC,aj,cA]at hi;subst B6;simp only[Gh.add,hi.1,aH];exact h.us.dead i hi.2;intro x hx;simp only[am]at hx;subst hx;exact hu kZ
 have hV:∀t,fx (w.heap.push (.cells c e (0,0))) ([(d,u)]++st.us) g' (lk st.env t) (a.tmps.getD t undef):=fun t=>(h.rep t).grow h.us hh hβ hφ' hS;have hs:=h.sat;have KP:ju n0 S0 M0 w0 (st.iQ [(d,u)]) a {w with heap:=w.heap.push (.cells c e (0,0))}:=by
  refine⟨hs.ms,hs.mS,hs.tm,hs.base,hs.os,hs.tape,hs.output,?_,?_,g',hU,hV⟩;have:=hs.size;simp;omega;intro b hb hm;rw[←hs.iD b hb hm];exact hh b (by have:=hs.size;have:=hs.base;omega)
 exact gW KP (g:=g') hU hV h.dst (hr kZ)
variable {cap:Nat}
def hZ{g:Gh}{d:Nat}{β:Option Nat}{φ:List Nat}{root:Value}:(g.add d β φ root cap).β d=β∧(g.add d β φ root cap).φ d=φ∧(g.add d β φ root cap).root d=root∧
  (g.add d β φ root cap).cap d=cap∧(g.add d β φ root cap).Sh=g.Sh:=by simp[Gh.add]
def jB(h:ij)(x:Obj):(h.push x)[h.size]?=some x:=by simp
def jI{x:Obj}(hb:b<h.size):(h.push x)[b]?=h[b]?:=by rw[dX,al (by omega)]
variable {z:D}
def adu(h:At n0 S0 M0 w0 st o a w g){e:TypeId}{d sz:Nat}(ho:o.op=.alloc e)(hz:iI P e=some z)
  (hq:(0<sz∧z.size=sz∧z.gJ=true)∧k (.pw d 0 0) [(d,.ar true (some false) sz [z])]):o.wp P a w (hO n0 S0 M0 w0 st o.dst k) Q':=by
 obtain⟨⟨q1,q2,q3⟩,hk⟩:=hq;unfold iI at hz
 split at hz
 ·next i hi=>
  split at hz
  ·next zv B7=>
   split at hz
   ·next lY=>
    obtain⟨r1,r2,r3⟩:=mh hz (w.heap.push (.cells zv.cells e (0,0)));have hl:=r1.length;refine lq h (c:=zv.cells) (e:=e) (v:=.pointer (some ⟨w.heap.size,0,none⟩)) [w.heap.size] 1 ?_ rfl ?_ ?_ hk;simp[execOp,ho,Instr.alloc,zeroValue,typeInfo,hi,B7,newVar,newRow]
    ·intro _;simp only[hP,hZ];refine⟨by simp[gp],by simp[q2],.inr ⟨w.heap.size,zv.cells,e,[],zv.cells.toList,[],rfl,jB _ _,by simp,?_,by simp,?_,by simp,by simp⟩⟩
     ·have:zv.cells.toList.length=zv.cells.size:=by simp
      omega
     rw[ig];exact⟨[],[],_,[],by simp,by simp,r1,lS.2 ⟨rfl,rfl⟩⟩
    intro _;simp only[fx];exact⟨_,_,_,_,w.heap.size,bP,by simp,q1,by simp[hZ],by simp⟩
   cases hz
  cases hz
 cases hz
def Ab(zl:List Value)(sz:Nat)(hz:zl.length=sz)(h0:0<sz):∀c,(List.range (c*sz)).map (fun i=>zl.toArray[i % sz]!)=(List.replicate c zl).flatten
 |0=>by simp
 |c+1=>by
  have ih:=Ab zl sz hz h0 c;rw[a9,eu,dY (c*sz) sz,List.range_add,bH,dM,cb,←ih];congr 1
  ·apply eN
   simp[hz];intro i h1 h2;have hi:i<sz:=by simpa using h1
   simp[Nat.mod_eq_of_lt hi,h2]
  rw[df]
  apply dg
  intro i _;simp[Nat.add_mod_left]
def D5{zl:List Value}(hr:f8 h z [] zl):∀m,fR h (List.replicate m z) [] (List.replicate m zl).flatten
 |0=>by simp[fR]
 |m+1=>by
  simp only[dM,fR,cb];exact⟨[],[],_,_,rfl,rfl,hr,D5 hr m⟩
def afY(h:At n0 S0 M0 w0 st o a w g){e u1 u2:TypeId}{i:TypeInfo}{d sz bytes:Nat}{z:D}{l c:Operand}{L C:Ax.X}(ho:o.op=.makeSlice t l c)(ht:P.underlying t=some (.slice e))
  (hi:P.info? e=some i) (jm:i.size=sz) (lF:i.bytes=bytes) (hz:iI P e=some z) (hl:fY P u1 l=some L) (hc:fY P u2 c=some C)
  (hq:VC (st.ev L) (st.ev C) d sz bytes z k):o.wp P a w (hO n0 S0 M0 w0 st o.dst k) Q':=by
 have el:=h.ev_ hl;have ec:=h.ev_ hc;unfold VC at hq
 split at hq
 ·next t1 k1 m t2 k2 q e1 e2=>
  rw[e1]at el;rw[e2]at ec;have vl:=gU el;have vc:=gU ec;obtain⟨⟨p1,p2,p3,p4,p5,p6,p7⟩,hk⟩:=hq;unfold iI at hz;rw[hi]at hz
  dsimp only at hz
  split at hz
  ·next zv B7=>
   split at hz
   ·next lY=>
    have gk:=run_make (P:=P) w t e i zv ht hi B7 k1 k2 m q p1 p2 (by rw[lF];omega) (by omega);obtain⟨r1,r2,r3⟩:=mh hz (w.heap.push (.cells (madeCells zv.cells (q.toNat*i.size)) e (0,0)));have hlen:=r1.length;have B8:zv.cells.toList.length=sz:=by rw[hlen,p6]
    have adx:(madeCells zv.cells (q.toNat*i.size)).toList=(List.replicate q.toNat zv.cells.toList).flatten:=by
     have:=Ab zv.cells.toList sz B8 p5 q.toNat;rw[←this,jm];simp only[madeCells,dZ,Array.toList_range]
     apply dg
     intro y _;have:zv.cells.size=sz:=by rw[lY,jm]
     simp[this]
    have Pc:(madeCells zv.cells (q.toNat*i.size)).size=q.toNat*sz:=by rw[size_madeCells,jm]
    refine lq h (c:=madeCells zv.cells (q.toNat*i.size)) (e:=e) (v:=.slice (some ⟨w.heap.size,0,none⟩) m.toNat q.toNat) [w.heap.size] q.toNat ?_ rfl ?_ ?_ hk
    ·simp only[execOp,ho,vl,vc,bK,gk]
     rfl
    ·intro _;simp only[hP,hZ,cW];refine⟨by simp[gp];omega,?_,.inr ⟨w.heap.size,_,e,[],(List.replicate m.toNat zv.cells.toList).flatten,(List.replicate (q.toNat-m.toNat) zv.cells.toList).flatten,rfl,jB _ _,?_,Pc,by omega,D5 r1 _,by simp,by simp⟩⟩
     ·intro x hx;rw[e9 hx,p6]
     rw[adx,←List.flatten_append,ft];congr 2;omega
    intro _;simp only[fx];refine⟨_,_,_,_,bP,by simp,.inl ⟨w.heap.size,by simp[hZ],by simp[hZ]⟩⟩
   cases hz
  cases hz
 exact hq.elim
variable {lo:Option Operand}
def At.vH(h:At n0 S0 M0 w0 st o a w g){Lo:Option Ax.X}(Pe:∀y,lo=some y→∃Y,Lo=some Y∧fY P u2 y=some Y)(vI:lo=none→Lo=none){d l:Int}{t2:Option Nat}{k2:IntKind}
  (e2:(Lo.map st.ev).getD (.im none (.sc (.int .i64 d)))=.im t2 (.sc (.int k2 l))):lo.map a.eval=none∧l=d∨∃kk,lo.map a.eval=some (.int kk l):=by
 cases lo with
 |none=>
  rw[vI rfl]at e2;simp only[dm,cT,AV.im.injEq,D.sc.injEq,eO]at e2;exact .inl ⟨rfl,e2.2.2.symm⟩
 |some y=>
  obtain⟨Y,rfl,hY⟩:=Pe y rfl;have:=h.ev_ hY;simp only[dC,cS]at e2;rw[e2]at this;exact .inr ⟨k2,by simp[gU this]⟩
def pP{hi:Option Operand}{l hh:Int}{cap:Nat}(GI:lo.map a.eval=none∧l=0∨∃kk,lo.map a.eval=some (.int kk l))(PZ:hi.map a.eval=none∧hh=len∨∃kk,hi.map a.eval=some (.int kk hh))
  (q1:0≤l) (q2:l≤hh) (q3:hh≤len) (B4:len≤cap):(Instr.sliceBounds true len cap (lo.map a.eval) (hi.map a.eval) none).run P w=.ok (l.toNat,hh.toNat,cap) w:=by
 have c1:0≤hh∧hh≤(cap:Int):=⟨by omega,by omega⟩;have c2:0≤l∧l≤((hh.toNat:Nat):Int):=⟨by omega,by omega⟩;rcases GI with⟨b1,rfl⟩|⟨kk,b1⟩<;>rcases PZ with⟨b2,rfl⟩|⟨kk',b2⟩<;>rw[b1,b2]
 simp[Instr.sliceBounds];simp[Instr.sliceBounds,Instr.sliceBound,asIntOf,c1.1,c1.2]
 ·have c3:l≤(len:Int):=by omega
  simp[Instr.sliceBounds,Instr.sliceBound,asIntOf,c2.1,c3]
 have hm:max hh 0=hh:=by omega
 simp[Instr.sliceBounds,Instr.sliceBound,asIntOf,c1.1,c1.2,c2.1,hm,q2]
def abD(h:At n0 S0 M0 w0 st o a w g){u1 u2 u3:TypeId}{sz:Nat}{X:Ax.X}{hi:Option Operand}{Lo Hi:Option Ax.X}(ho:o.op=.slice t x lo hi none)(ht:P.underlying t=some (.slice e))
  (hz:io P e=some sz) (hx:fY P u1 x=some X) (Pe:∀y,lo=some y→∃Y,Lo=some Y∧fY P u2 y=some Y) (vI:lo=none→Lo=none)
  (hhi:∀y,hi=some y→∃Y,Hi=some Y∧fY P u3 y=some Y) (Pf:hi=none→Hi=none)
  (hq:yp (st.ev X) st.ev st.unit sz Lo Hi k):o.wp P a w (hO n0 S0 M0 w0 st o.dst k) Q':=by
 have ex:=h.ev_ hx;unfold yp at hq
 split at hq
 ·next t1 nn gv ds e1=>
  rw[e1]at ex;obtain⟨rfl,hq⟩:=hq;have UB:=ex;simp only[fx,D.fits]at ex;obtain⟨F,r1,r2,r3⟩:=ex;rw[fP r2]at r1;unfold Gq at hq
  split at hq
  ·next t2 k2 l t3 k3 hh e2 e3=>
   obtain⟨⟨q1,q2,q3⟩,hk⟩:=hq;have GI:=h.vH Pe vI e2;have PZ:=h.vH hhi Pf e3;have ZY:∀cap,ds.length≤cap→(Instr.sliceBounds true ds.length cap (lo.map a.eval) (hi.map a.eval) none).run P w=.ok (l.toNat,hh.toNat,cap) w:=fun cap B4=>pP GI PZ q1 q2 q3 B4;have hlen:((ds.take hh.toNat).drop l.toNat).length=hh.toNat-l.toNat:=by simp;omega
   rcases r1 with⟨pp,p1,rfl,rfl,p4⟩|⟨b,off,cap,c,el,fr,F',p1,p2,p3,p4,p5,p6,p7,p8,p9⟩
   ·have hv:a.eval x=.slice pp 0 0:=by simpa using p1
    have l0:l=0:=by simp at q3;omega
    have h0:hh=0:=by simp at q3;omega
    subst l0;subst h0;have:=ZY 0 (by simp);refine h.pure_ (v:=.slice pp 0 0) ?_ ?_ hk;simp[execOp,ho,Instr.sliceAt,aW ht,Instr.slice,hv]at this⊢;simp[this,lW hz];simp only[fx,f8,D.fits];exact⟨[],.inl ⟨pp,by simp[Value.cells],by simp,rfl,p4⟩,rfl,by simp⟩
   have hv:a.eval x=.slice (some ⟨b,off,none⟩) ds.length cap:=by simpa using p1
   have ZZ:=ZY cap p4;have hr:(execOp a.eval o).run P w=.ok (.value (.slice (some (if cap=l.toNat then⟨b,off,none⟩else⟨b,off+l.toNat*sz,none⟩)) (hh.toNat-l.toNat) (cap-l.toNat))) w:=by
    simp only[execOp,ho,Instr.sliceAt,bK,aW ht,Instr.slice,hv,dh,lW hz,eQ]
    split<;>simp_all [lm]
   refine h.pure_ hr ?_ hk;have ng:ds=ds.take l.toNat++((ds.take hh.toNat).drop l.toNat++ds.drop hh.toNat):=by
    rw[←bz];have e1:ds.take l.toNat=(ds.take hh.toNat).take l.toNat:=by rw[de,bl (by omega)]
    rw[e1,bw,bw]
   have p9':fR w.heap (ds.take l.toNat++((ds.take hh.toNat).drop l.toNat++ds.drop hh.toNat)) F' ((c.toList.drop off).take (ds.length*sz)):=by rw[←ng];exact p9
   obtain⟨F1,F23,c1,ZW,g1,g2,s1,KN⟩:=p9'.split;obtain⟨F2,F3,c2,c3,rfl,rfl,s2,s3⟩:=KN.split;have yD:∀x∈(ds.take hh.toNat).drop l.toNat,x.size=sz:=fun x hx=>p8 x (bf (cd hx));have l1:c1.length=l.toNat*sz:=by
    rw[s1.length,D.fG (sz:=sz) fun d hd=>p8 d (bf hd),bk,bl (by omega)]
   have l2:c2.length=(hh.toNat-l.toNat)*sz:=by
    rw[s2.length,D.fG (sz:=sz) yD,hlen]
   simp only[fx,D.fits];refine⟨b::F2,?_,rfl,?_⟩
   ·unfold f8;refine .inr ⟨b,if cap=l.toNat then off else off+l.toNat*sz,cap-l.toNat,c,el,fr,F2,?_,rfl,p3,by omega,?_,p6,?_,yD,?_⟩
    ·rw[hlen]
     split<;>simp[Value.cells]
    rw[hlen];simp[gp]at p5⊢;omega
    ·have hm:(cap-l.toNat)*sz+l.toNat*sz=cap*sz:=by rw[←a9];congr 1;omega
     split
     ·next lh=>rw[lh]at p7⊢;simp;omega
     omega
    rw[hlen];have e1:=congrArg (fun l=>(l.drop c1.length).take c2.length) g2;simp only[dd,bV,dq,ch,de]at e1;have hle:(hh.toNat-l.toNat)*sz+l.toNat*sz≤ds.length*sz:=by rw[←a9];exact ba _ (by omega)
    rw[bl (by omega),l1,l2]at e1
    split
    ·next lh=>
     have:hh.toNat-l.toNat=0:=by omega
     rw[this]at l2⊢;simp only[d7,aA];have:c2=[]:=dv (by omega);rw[←this];exact s2
    rw[e1];exact s2
   intro y hy
   apply r3
   rw[p2,g1];rcases aj.1 hy with rfl|hy
   simp;simp[hy]
  exact hq.elim
 ·next id off len e1=>
  rw[e1]at ex;simp only[fx]at ex;obtain⟨ow,nn,usz,es,r1,r2,r3⟩:=ex;unfold BW at hq
  split at hq
  ·next ow' jc kv es' gZ=>
   have:=h.us.uniq r1 (fB gZ);injection this with z1 z2 z3 z4;subst z1 z2 z3 z4;obtain⟨rfl,hq⟩:=hq;unfold wK at hq
   split at hq
   ·next t2 k2 l t3 k3 hh e2 e3=>
    obtain⟨⟨q1,q2,q3⟩,hk⟩:=hq;have GI:=h.vH Pe vI e2;have PZ:=h.vH hhi Pf e3;have hl0:Lo=none→l=0:=by
     rintro rfl;simp only[dm,cT,AV.im.injEq,D.sc.injEq,eO]at e2;exact e2.2.2.symm
    have fin:∀(av:AV)(v:Value),(execOp a.eval o).run P w=.ok (.value v) w→fx w.heap st.us g av v→k av []→o.wp P a w (hO n0 S0 M0 w0 st o.dst k) Q':=fun av v h1 h2 h3=>h.pure_ h1 h2 h3;have B4:∀b,g.β id=some b→es.length≤g.cap id:=by
     intro b hb;have ho:=h.us.each _ r1;simp only[hP]at ho;rcases ho.2.2 with⟨h0,_⟩|⟨_,_,_,_,_,_,_,_,_,_,hc,_⟩
     rw[hb]at h0;cases h0;exact hc
    rcases r3 with⟨b,r3,r4⟩|⟨r3,rfl,rfl,r4⟩
    ·have hcb:=B4 b r3;have ZZ:=pP (P:=P) (w:=w) (a:=a) GI PZ q1 q2 q3 (cap:=g.cap id-off) (by omega);have hr:(execOp a.eval o).run P w=.ok (.value (.slice (some (if g.cap id-off=l.toNat then⟨b,off*usz,none⟩else⟨b,off*usz+l.toNat*usz,none⟩)) (hh.toNat-l.toNat) (g.cap id-off-l.toNat))) w:=by
      simp only[execOp,ho,Instr.sliceAt,bK,aW ht,Instr.slice,r4,dm,ZZ,dh,lW hz,eQ]
      split<;>simp_all [lm]
     cases wz:Lo with
     |none=>
      rw[wz]at hk;have:=hl0 wz;subst this;refine fin (.sm id off hh.toNat) _ hr ?_ (by simpa using hk);simp only[fx];refine⟨ow,nn,usz,es,r1,by omega,.inl ⟨b,r3,?_⟩⟩;simp
     |some LL=>
      rw[wz]at hk;refine fin (.ss id (off+l.toNat) (hh.toNat-l.toNat)) _ hr ?_ (by simpa using hk);simp only[fx];refine⟨ow,nn,usz,es,r1,by omega,.inl ⟨b,if g.cap id-off=l.toNat then off*usz else off*usz+l.toNat*usz,r3,?_,?_⟩⟩
      ·intro gI;rw[al (by omega),a9]
      rw[show g.cap id-(off+l.toNat)=g.cap id-off-l.toNat by omega]
      split<;>rfl
    have h0:hh=0:=by omega
    have h1:l=0:=by omega
    subst h0 h1;have ZZ:(Instr.sliceBounds true 0 0 (lo.map a.eval) (hi.map a.eval) none).run P w=.ok (0,0,0) w:=pP (P:=P) (w:=w) (a:=a) GI PZ q1 q2 q3 (cap:=0) (by omega);have hr:(execOp a.eval o).run P w=.ok (.value (.slice none 0 0)) w:=by
     simp only[execOp,ho,Instr.sliceAt,bK,aW ht,Instr.slice,r4,dm,ZZ,dh,lW hz,eQ];simp
    cases wz:Lo with
    |none=>
     rw[wz]at hk;refine fin (.sm id 0 0) _ hr ?_ (by simpa using hk);simp only[fx];exact⟨ow,nn,usz,es,r1,by simp,.inr ⟨r3,trivial,trivial,trivial⟩⟩
    |some LL=>
     rw[wz]at hk;refine fin (.ss id 0 0) _ hr ?_ (by simpa using hk);simp only[fx];exact⟨ow,nn,usz,es,r1,by simp,.inr ⟨r3,trivial,trivial⟩⟩
   exact hq.elim
  exact hq.elim
 ·next id el j e1=>
  rw[e1]at ex;unfold DC at hq
  split at hq
  ·next nn usz es gZ=>
   unfold Fm at hq
   split at hq
   ·next jc gQ ds hd=>
    obtain⟨rfl,hq⟩:=hq;unfold wK at hq
    split at hq
    ·next t2 k2 l t3 k3 hh e2 e3=>
     obtain⟨⟨q1,q2,q3⟩,hk⟩:=hq;have GI:=h.vH Pe vI e2;have PZ:=h.vH hhi Pf e3;have B9:=zP h.us ex gZ;rw[hd]at B9;obtain⟨p,len,cap,hv,hlen,KR,_⟩:=pF B9;have B4:len≤cap:=by
      simp only[fx,f8,D.fits]at B9;obtain⟨F,iF,hf,_⟩:=B9;rw[fP hf,hv]at iF;rcases iF with⟨_,y1,rfl,_⟩|⟨_,_,_,_,_,_,_,y1,_,_,y4,_⟩
      simp at hlen;omega;simp only[bO,dL,bm]at y1;omega
     have ZZ:=pP (P:=P) (w:=w) (a:=a) GI PZ q1 q2 q3 (cap:=cap) (by omega);rw[←hlen]at ZZ;have hr:(execOp a.eval o).run P w=.ok (.value (.slice (p.map fun x=>x.add (if l.toNat=cap then 0 else l.toNat*gQ)) (hh.toNat-l.toNat) (cap-l.toNat))) w:=by
      simp only[execOp,ho,Instr.sliceAt,bK,aW ht,Instr.slice,hv,dm,ZZ,dh,lW hz,eQ]
      by_cases hc:cap=l.toNat
      ·simp only[hc,aK];cases p<;>simp[Addr.add]
      have yG:¬l.toNat=cap:=fun e=>hc e.symm;simp only[hc,yG,aH]
     refine h.pure_ hr ?_ hk;have UB:=ex;simp only[fx]at ex;obtain⟨KO,j8,EC,b,c,ty,r1,r2,r3,r4,r5,r6,r7,r8,r9⟩:=ex;simp only[fx];refine⟨true,KO,j8,EC,b,c,ty,p,len,cap,r1,r2,r3,r4,r5,?_,by omega,by omega,rfl⟩;rw[hv]at r8;have h1:((c.toList.drop (el*j8+j)).take 1)[0]?=some (.slice p len cap):=by rw[←r8];simp[Value.cells]
     rw[dr (by omega),cJ,aC,cr]at h1;exact h1
    exact hq.elim
   exact hq.elim
  exact hq.elim
 exact hq.elim
variable {n:Nat}
def gr.Ph{g:Gh}(hu:gr h n0 S0 M0 us g)(hn:n∉us.map (·.1)){u:U}{β:Option Nat}{cap:Nat}{v:Value}(gI:∀b∈F,b<h.size)
  (ii : F.Nodup) (B5 : ∀ b ∈ F, b < n0 → M0 b) (jb : ∀ b ∈ F, b ∉ fp g us) (lw : ∀ b ∈ F, ¬ g.Sh b) (hz : ∀ b ∈ F, mO h b) (vJ : hP h ((n, u) :: us) (g.add n β F v cap) n u) (wy : u.jL = true → qf n0 M0 n β cap := by simp [U.jL]) : gr h n0 S0 M0 ((n, u) :: us) (g.add n β F v cap) ∧
   ∀av x,fx h us g av x→fx h ((n,u)::us) (g.add n β F v cap) av x:=by
 have gw:∀x∈us,x.1≠n:=fun x hx e=>hn (aR.2 ⟨x,hx,e⟩);have yH:fp (g.add n β F v cap) us=fp g us:=by
  unfold fp;have rV:=gw;clear hu hn jb vJ
  induction us with
  |nil=>rfl
  |cons x us ih=>
   simp only[cp];rw[ih (fun y hy=>gw y (by simp[hy])) (fun y hy=>rV y (by simp[hy]))];simp[Gh.add,gw x (by simp)]
 have Z0:(g.add n β F v cap).φ n=F:=by simp[Gh.add]
 have hβ:∀x∈us,(g.add n β F v cap).β x.1=g.β x.1∧(g.add n β F v cap).root x.1=g.root x.1∧(g.add n β F v cap).cap x.1=g.cap x.1:=by
  intro x hx;simp[Gh.add,gw x hx]
 have i9:∀t b,b<h.size→g.ok t b→(g.add n β F v cap).ok t b:=by
  intro t b _ hb;rcases hb with hb|⟨i,hi,h1,h2⟩
  exact .inl hb;obtain⟨u,hm⟩:=hu.live h1;have:i≠n:=gw _ hm;exact .inr ⟨i,hi,by simpa[Gh.add,this]using h1,by simpa[Gh.add,this]using h2⟩
 have hV:∀av x,fx h us g av x→fx h ((n,u)::us) (g.add n β F v cap) av x:=fun av x hr=>
  hr.mono (fun y hy=>bt _ hy) (fun _ _=>rfl) hβ i9
 refine⟨⟨?_,?_,?_,?_,?_,?_,?_,?_,hu.ww.cons hn (fun i hi=>by simp[Gh.add,hi]) (by simpa[Gh.add]using wy)⟩,hV⟩;simp only[lC,aP];exact⟨hn,hu.keys⟩
 ·show(((g.add n β F v cap).φ n)++fp (g.add n β F v cap) us).Nodup
  rw[Z0,yH,aT];exact⟨ii,hu.nodup,fun x hx y hy e=>jb x hx (e▸hy)⟩
 ·intro b hb;have hb:b∈((g.add n β F v cap).φ n)++fp (g.add n β F v cap) us:=hb;rw[Z0,yH]at hb;rcases ax.1 hb with hb|hb
  exact gI b hb;exact hu.lt b hb
 ·intro b hb gI;have hb:b∈((g.add n β F v cap).φ n)++fp (g.add n β F v cap) us:=hb;rw[Z0,yH]at hb;rcases ax.1 hb with hb|hb
  exact B5 b hb gI;exact hu.low b hb gI
 intro i hi;simp only[lC,aj,cA]at hi;simp only[Gh.add,hi.1,aH];exact hu.dead i hi.2
 ·intro b hb;obtain⟨q1,q2,q3⟩:=hu.sh b hb;refine⟨q1,q2,?_⟩
  show b∉((g.add n β F v cap).φ n)++fp (g.add n β F v cap) us
  rw[Z0,yH,ax];rintro(h1|h1);exact lw b h1 hb;exact q3 h1
 ·intro x hx;rcases aj.1 hx with rfl|hx
  exact vJ;refine(hu.each x hx).mono hx (fun y hy=>bt _ hy) (fun _ _=>rfl) hβ (by simp[Gh.add,gw x hx]) (fun b _ hb=>hb) i9
 intro b hb;have hb:b∈((g.add n β F v cap).φ n)++fp (g.add n β F v cap) us:=hb;rw[Z0,yH]at hb;rcases ax.1 hb with hb|hb
 exact hz b hb;exact hu.fz b hb
def gr.Pi{g:Gh}(hu:gr h n0 S0 M0 us g)(hn:n∉us.map (·.1))(hr:f8 h d F v.cells.toList)(hf:d.fits v)
  (ii : F.Nodup) (B5 : ∀ b ∈ F, b < n0 → M0 b) (jb : ∀ b ∈ F, b ∉ fp g us) (lw : ∀ b ∈ F, ¬ g.Sh b) (hz : ∀ b ∈ F, mO h b) : gr h n0 S0 M0 ((n, .own d) :: us) (g.add n none F v 0) ∧
   ∀av x,fx h us g av x→fx h ((n,.own d)::us) (g.add n none F v 0) av x:=
 hu.Ph hn (fun b hb=>hr.lt b hb) ii B5 jb lw hz (by simp only[hP,Gh.add,aK];exact⟨trivial,hr,hf⟩)
def gr.wide{h':ij}{g:Gh}(hu:gr h n0 S0 M0 us g)(jm:h.size≤h'.size)(hh:∀b,b<h.size→h'[b]?=h[b]?)(hb:n0≤h.size)(G:List Nat)
  (hG : ∀ b ∈ G, g.Sh b ∨ (h.size ≤ b ∧ b < h'.size)) : gr h' n0 S0 M0 us { g with Sh := fun b => g.Sh b ∨ b ∈ G } ∧
   ∀av x,fx h us g av x→fx h' us {g with Sh:=fun b=>g.Sh b∨b∈G} av x:=by
 have hU:=hu.grow (h':=h') (nus:=[]) (g':={g with Sh:=fun b=>g.Sh b∨b∈G}) jm hh (by simpa using hu.keys) (fun x _=>⟨rfl,rfl,rfl⟩) (fun x _=>rfl) (fun b hb=>Or.inl hb) ?_ (by simp[fp]) (by simp[fp]) hb
  (fun k hk=>hu.dead k (by simpa using hk)) (by simp) (by simp[fp]) (by simp)
 ·exact⟨hU,fun av x hr=>hr.grow (nus:=[]) (g':={g with Sh:=fun b=>g.Sh b∨b∈G}) hu hh (fun x _=>⟨rfl,rfl,rfl⟩) (fun x _=>rfl) (fun b hb=>Or.inl hb)⟩
 intro b hb;rcases hb with hb|hb
 exact .inl hb;rcases hG b hb with h1|h1
 exact .inl h1;exact .inr ⟨h1.1,h1.2,by simp[fp]⟩
variable {r:tf}
def DK{g:Gh}(hu:gr h n0 S0 M0 us g){n:Nat}{G:List Nat}{v:Value}(hr:jl h r F G v)(Z1:∀rs,r≠.jS rs)(ii:F.Nodup)
  (B5:∀b∈F,b<n0→M0 b) (jb:∀b∈F,b∉fp g us) (lw:∀b∈F,¬g.Sh b) (hz:∀b∈F,mO h b) (gP:Bool) (hG:gP=true→∀b∈G,g.Sh b)
  (hf:∀x∈(gS n gP r).2,o9 x.1 us=true):
  ∃g',gr h n0 S0 M0 ((gS n gP r).2++us) g'∧fx h ((gS n gP r).2++us) g' (gS n gP r).1 v∧(∀av x,fx h us g av x→fx h ((gS n gP r).2++us) g' av x)∧
   (∀b,g'.Sh b↔g.Sh b)∧(∀b,b∈fp g' ((gS n gP r).2++us)→b∈F∨b∈fp g us):=by
 cases r with
 |own d=>
  simp only[jl]at hr;obtain⟨rfl,r1,r2⟩:=hr;simp only[gS]at hf⊢;cases hp:d.flat with
  |true=>
   have:=iB (D.kH hp) r1;subst this;simp only[aK,be];refine⟨g,hu,?_,fun av x hr=>hr,fun b=>bL,fun b hb=>.inr hb⟩;simp only[fx];exact⟨[],r1,r2,by simp⟩
  |false=>
   simp only[hp,kY,aH]at hf⊢;have hn:=ir (hf (n,.own d) (by simp));obtain⟨hU,hV⟩:=hu.Pi hn r1 r2 ii B5 jb lw hz;refine⟨_,hU,?_,hV,fun b=>bL,?_⟩
   ·simp only[bp,be,fx];exact⟨⟨d,by simp⟩,by simp[Gh.add]⟩
   intro b hb;have gw:∀x∈us,x.1≠n:=fun x hx e=>hn (aR.2 ⟨x,hx,e⟩);simp only[bp,be,fL,aj]at hb;obtain⟨x,hx,hb⟩:=hb;rcases hx with rfl|hx
   simp only[Gh.add,aK]at hb;exact .inl hb;simp only[Gh.add,gw x hx,aH]at hb;exact .inr (fL.2 ⟨x,hx,hb⟩)
 |sh d=>
  simp only[jl]at hr;obtain⟨rfl,r1,r2⟩:=hr;simp only[gS,be];refine⟨g,hu,?_,fun av x hr=>hr,fun b=>bL,fun b hb=>.inr hb⟩;cases gP with
  |true=>
   simp only[aK,fx];exact⟨G,r1,r2,fun b hb=>.inl (hG rfl b hb)⟩
  |false=>simp[fx]
 |jS rs=>exact absurd rfl (Z1 rs)
 |arr sz es=>
  simp only[jl]at hr;obtain⟨rfl,r1,r2,b,c,e,F',cs,rest,cap,rfl,rfl,r3,r4,r5,r6,r7⟩:=hr;simp only[gS]at hf⊢;have hn:=ir (hf (n,.ar true (some false) sz es) (by simp));have gI:∀x∈b::F',x<h.size:=by
   intro x hx;rcases aj.1 hx with rfl|hx
   exact(bh.1 r3).1;exact fR.lt r7 x hx
  obtain⟨hU,hV⟩:=hu.Ph (u:=.ar true (some false) sz es) (β:=some b) (cap:=cap) (v:=.slice (some ⟨b,0,none⟩) es.length cap) hn gI ii B5 jb lw hz (by
   simp only[hP,Gh.add,aK];exact⟨r1,r2,.inr ⟨b,c,e,F',cs,rest,rfl,r3,r4,r5,r6,r7,by simp,rfl⟩⟩)
  refine⟨_,hU,?_,hV,fun b=>bL,?_⟩
  ·simp only[bp,be,fx];exact⟨_,_,_,_,bP,by simp,.inl ⟨b,by simp[Gh.add],by simp[Gh.add]⟩⟩
  intro x hb;have gw:∀x∈us,x.1≠n:=fun x hx e=>hn (aR.2 ⟨x,hx,e⟩);simp only[bp,be,fL,aj]at hb;obtain⟨y,hx,hb⟩:=hb;rcases hx with rfl|hx
  simp only[Gh.add,aK]at hb;exact .inl hb;simp only[Gh.add,gw y hx,aH]at hb;exact .inr (fL.2 ⟨y,hx,hb⟩)
 |ZU d=>
  simp only[jl]at hr;obtain⟨h0,b,c,e,cs,rest,cap,rfl,rfl,r3,r4,r5,r6,r7⟩:=hr;simp only[gS]at hf⊢;cases gP with
  |false=>
   simp only[kY,aH,be];exact⟨g,hu,by simp[fx],fun av x hr=>hr,fun b=>bL,fun b hb=>.inr hb⟩
  |true=>
   simp only[aK]at hf⊢;have hn:=ir (hf (n,.ar false (some false) d.size [d]) (by simp));have gI:∀x∈[b],x<h.size:=by
    intro x hx;rw[am.1 hx];exact(bh.1 r3).1
   obtain⟨hU,hV⟩:=hu.Ph (u:=.ar false (some false) d.size [d]) (β:=some b) (cap:=cap) (v:=.pointer (some ⟨b,0,none⟩)) hn gI ii B5 jb lw hz (by
    simp only[hP,Gh.add,aK];refine⟨by simp[gp],by simp,.inr ⟨b,c,e,G,cs,rest,rfl,r3,r4,r5,by simpa using r6,?_,by simp,?_⟩⟩
    ·simp only[fR];exact⟨G,[],cs,[],by simp,by simp,r7,⟨rfl,rfl⟩⟩
    simp only[kY,aH];exact⟨trivial,fun x hx=>hG rfl x hx⟩)
   refine⟨_,hU,?_,hV,fun b=>bL,?_⟩
   ·simp only[bp,be,fx];exact⟨_,_,_,_,b,bP,by simp,h0,by simp[Gh.add],by simp⟩
   intro x hb;have gw:∀x∈us,x.1≠n:=fun x hx e=>hn (aR.2 ⟨x,hx,e⟩);simp only[bp,be,fL,aj]at hb;obtain⟨y,hx,hb⟩:=hb;rcases hx with rfl|hx
   simp only[Gh.add,aK]at hb;exact .inl hb;simp only[Gh.add,gw y hx,aH]at hb;exact .inr (fL.2 ⟨y,hx,hb⟩)
def sY{k:Nat}:∀{a b:List (Nat×U)},o9 k (a++b)=(o9 k a&&o9 k b)
 | [],_=>by simp[o9]
 |(i,u)::r,b=>by simp only[bp,o9,sY,Bool.and_assoc]
def tw{st:St}:∀{a b:List (Nat×U)},st.fresh (a++b)=true→st.fresh a=true∧st.fresh b=true∧∀x∈a,o9 x.1 b=true
 | [],b,h=>by simpa[St.fresh]using h
 |x::r,b,h=>by
  simp only[bp,St.fresh,bA,sY]at h;obtain⟨⟨h1,h2,h3⟩,h4⟩:=h;obtain⟨q1,q2,q3⟩:=tw h4;refine⟨by simp[St.fresh,h1,h2,q1],q2,?_⟩;intro y hy;rcases aj.1 hy with rfl|hy
  exact h3;exact q3 y hy
def uO{st:St}:∀{a:List (Nat×U)},st.fresh a=true→∀x∈a,o9 x.1 st.us=true
 | [],_=>by simp
 |x::r,h=>by
  simp only[St.fresh,bA]at h;intro y hy;rcases aj.1 hy with rfl|hy
  exact h.1.1;exact uO h.2 y hy
def Zb(n:Nat)(gP:Bool)(r:tf):AV×List (Nat×U):=
 match r with
 |.own d=>if d.flat then(.im none d,[])else(.tr n,[(n,.own d)])
 |.sh d=>(if gP then .im none d else .any,[])
 |.arr sz es=>(.sm n 0 es.length,[(n,.ar true (some false) sz es)])
 |.ZU d=>if gP then(.pw n 0 0,[(n,.ar false (some false) d.size [d])])else(.any,[])
 |.jS _=>(.any,[])
def ET{gP:Bool}{rs:List tf}:gS.oa gP n (r::rs)=Zb n gP r::gS.oa gP (n+1000) rs:=rfl
def An{gP:Bool}{st:St}:∀{rs:List tf} {n:Nat} {F G:List Nat} {vs:List Value} {g:Gh},gr h n0 S0 M0 st.us g→jW h rs F G vs→F.Nodup→
  (∀b∈F,b<n0→M0 b)→(∀b∈F,b∉fp g st.us)→(∀b∈F,¬g.Sh b)→(∀b∈F,mO h b)→(gP=true→∀b∈G,g.Sh b)→st.fresh ((gS.oa gP n rs).map (·.2)).flatten=true→
  ∃g',gr h n0 S0 M0 (((gS.oa gP n rs).map (·.2)).flatten++st.us) g'∧fA h (((gS.oa gP n rs).map (·.2)).flatten++st.us) g' ((gS.oa gP n rs).map (·.1)) vs∧
   (∀av x,fx h st.us g av x→fx h (((gS.oa gP n rs).map (·.2)).flatten++st.us) g' av x)∧(∀b,g'.Sh b↔g.Sh b)∧
   (∀b,b∈fp g' (((gS.oa gP n rs).map (·.2)).flatten++st.us)→b∈F∨b∈fp g st.us)
 | [],n,F,G,vs,g,hu,hr,_,_,_,_,_,_,_=>by
  simp only[jW]at hr;simp only[gS.oa,lN,List.flatten_nil,be,fA];exact⟨g,hu,hr.2.2,fun _ _ h=>h,fun _=>bL,fun b hb=>.inr hb⟩
 |r::rs,n,F,G,vs,g,hu,hr,ii,B5,jb,lw,hz,hG,hf=>by
  simp only[jW]at hr;obtain⟨F1,F2,G1,G2,v,ws,rfl,rfl,rfl,r1,r2⟩:=hr;rw[aT]at ii;rw[ET]at hf⊢;simp only[lC,cb]at hf⊢;obtain⟨f1,f2,f3⟩:=tw hf;obtain⟨g1,u1,v1,m1,s1,p1⟩:=An hu r2 ii.2.1 (fun b hb=>B5 b (by simp[hb])) (fun b hb=>jb b (by simp[hb])) (fun b hb=>lw b (by simp[hb])) (fun b hb=>hz b (by simp[hb])) (fun e b hb=>hG e b (by simp[hb])) f2;have hF1:∀b∈F1,b∉fp g1 (((gS.oa gP (n+1000) rs).map (·.2)).flatten++st.us):=by
   intro b hb Pj;rcases p1 b Pj with h1|h1
   exact ii.2.2 b hb b h1 rfl;exact jb b (by simp[hb]) h1
  by_cases ht:∃q,r=.jS q
  ·obtain⟨q,rfl⟩:=ht;simp only[Zb,be];refine⟨g1,u1,?_,m1,s1,fun b hb=>(p1 b hb).imp (fun h=>by simp[h]) id⟩;simp only[fA];exact⟨v,ws,rfl,by simp[fx],v1⟩
  have e:Zb n gP r=gS n gP r:=by cases r<;>first|rfl|exact absurd ⟨_,rfl⟩ ht
  rw[e]at f1 f3⊢;obtain⟨g2,u2,v2,m2,s2,p2⟩:=DK (n:=n) u1 r1 (fun q hq=>ht ⟨q,hq⟩) ii.1 (fun b hb=>B5 b (by simp[hb])) hF1 (fun b hb=>by rw[s1];exact lw b (by simp[hb])) (fun b hb=>hz b (by simp[hb])) gP
   (fun e b hb=>by rw[s1];exact hG e b (by simp[hb])) (fun x hx=>by rw[sY,f3 x hx,uO f1 x hx];rfl)
  rw[bz];refine⟨g2,u2,?_,fun av x h=>m2 _ _ (m1 _ _ h),fun b=>(s2 b).trans (s1 b),?_⟩
  ·simp only[fA];refine⟨v,ws,rfl,v2,?_⟩;have:∀{as:List AV} {xs:List Value},fA h (((gS.oa gP (n+1000) rs).map (·.2)).flatten++st.us) g1 as xs→fA h ((gS n gP r).2++(((gS.oa gP (n+1000) rs).map (·.2)).flatten++st.us)) g2 as xs:=by
    intro as
    induction as with
    |nil=>intro xs h;simpa[fA]using h
    |cons a as ih=>
     intro xs h;simp only[fA]at h⊢;obtain⟨v,r,h1,h2,h3⟩:=h;exact⟨v,r,h1,m2 _ _ h2,ih h3⟩
   exact this v1
  intro b hb;rcases p2 b hb with h1|h1
  exact .inl (by simp[h1]);exact(p1 b h1).imp (fun h=>by simp[h]) id
def xT{st:St}{g:Gh}(hu:gr h n0 S0 M0 st.us g){n:Nat}{G:List Nat}(hr:jl h r F G v)(ii:F.Nodup)
  (B5:∀b∈F,b<n0→M0 b) (jb:∀b∈F,b∉fp g st.us) (lw:∀b∈F,¬g.Sh b) (hz:∀b∈F,mO h b) (gP:Bool) (hG:gP=true→∀b∈G,g.Sh b)
  (hf:(gS n gP r).2=[]∨st.fresh (gS n gP r).2=true):
  ∃g',gr h n0 S0 M0 ((gS n gP r).2++st.us) g'∧fx h ((gS n gP r).2++st.us) g' (gS n gP r).1 v∧(∀av x,fx h st.us g av x→fx h ((gS n gP r).2++st.us) g' av x):=by
 have Ca:st.fresh (gS n gP r).2=true:=by
  rcases hf with h|h
  rw[h];rfl;exact h
 by_cases ht:∃q,r=.jS q
 ·obtain⟨q,rfl⟩:=ht;simp only[jl]at hr;obtain⟨vs,rfl,hr⟩:=hr;simp only[gS]at Ca⊢;obtain⟨g',h1,h2,h3,_,_⟩:=An hu hr ii B5 jb lw hz hG Ca;exact⟨g',h1,by simp only[fx];exact⟨vs,rfl,h2⟩,h3⟩
 obtain⟨g',h1,h2,h3,_,_⟩:=DK hu hr (fun q hq=>ht ⟨q,hq⟩) ii B5 jb lw hz gP hG (fun x hx=>uO Ca x hx);exact⟨g',h1,h2,h3⟩
def lr{g:Gh}(h:g.ok none b):g.Sh b:=by
 rcases h with h|⟨i,hi,_⟩
 exact h;cases hi
def xm:∀{items:List AV} {vs:List Value} {ds:List D},fA h us g items vs→sJ sz items=some ds→
  ∃F,fR h ds F (vs.map (·.cells.toList)).flatten∧(∀d∈ds,d.size=sz)∧ds.length=items.length
 | [],vs,ds,hr,hd=>by
  simp only[fA]at hr;simp only[sJ,oS]at hd;subst hr hd;exact⟨[],by simp[fR],by simp,rfl⟩
 |av::items,vs,ds,hr,hd=>by
  simp only[fA]at hr;obtain⟨v,r,rfl,h1,h2⟩:=hr;unfold sJ at hd
  split at hd
  ·next heq=>cases heq
  ·next d r' heq=>
   injection heq with e1 e2;subst e1 e2
   split at hd
   ·next hs=>
    split at hd
    ·next ds' kf=>
     injection hd with hd;subst hd;obtain⟨F,i1,i2,i3⟩:=xm h2 kf;simp only[fx]at h1;obtain⟨F1,q1,_,_⟩:=h1;refine⟨F1++F,?_,by simp;exact⟨hs,i2⟩,by simp[i3]⟩;simp only[lC,cb,fR];exact⟨F1,F,_,_,rfl,rfl,q1,i1⟩
    cases hd
   cases hd
  cases hd
def jo(hu:gr h n0 S0 M0 us g)(gw:(∀f vs,av≠.cl f vs)∧∀vs,av≠.sg vs)(hr:fx h us g av v)(hd:av.arg (lu us)=some d):
  ∃F,f8 h d F v.cells.toList∧d.fits v∧(av.shared=true→∀b∈F,g.Sh b):=by
 unfold AV.arg at hd
 split at hd
 ·next t e=>
  obtain rfl:=aQ hd;simp only[fx]at hr;obtain⟨F,r1,r2,r3⟩:=hr;refine⟨F,r1,r2,fun hs b hb=>?_⟩;cases t with
  |none=>exact lr (r3 b hb)
  |some i=>
   simp only[AV.shared,bA]at hs;rw[iB hs.2 r1]at hb;cases hb
 ·next i=>
  split at hd
  ·next d' gZ=>
   obtain rfl:=aQ hd;have:=G8 hu hr gZ;simp only[fx]at this;obtain⟨F,r1,r2,r3⟩:=this;exact⟨F,r1,r2,by simp[AV.shared]⟩
  cases hd
 ·next id el j sz agg=>
  split at hd
  ·next nn usz es gZ=>
   obtain rfl:=aQ hd;have:=zP hu hr gZ;simp only[fx]at this;obtain⟨F,r1,r2,r3⟩:=this;exact⟨F,r1,r2,by simp[AV.shared]⟩
  cases hd
 ·next id el j=>
  split at hd
  ·next ow nn usz es gZ=>
   obtain rfl:=aQ hd;simp only[fx]at hr;obtain⟨ow',jc,kv,es',b,r1,r2,r3,r4,rfl⟩:=hr;have:=hu.uniq r1 (fB gZ);injection this with e1 e2 e3 e4;subst e1;subst e2;subst e3;subst e4;have ho:=hu.each _ r1;simp only[hP]at ho;obtain⟨_,hs,ho⟩:=ho;rcases ho with⟨h0,_⟩|⟨b',c,e,G,cs,rest,k1,k2,k3,k4,k5,k6,k7,k8⟩
   rw[r4]at h0;cases h0;rw[r4]at k1;obtain rfl:=aQ k1;obtain⟨F1,F2,F3,c1,c2,c3,g1,g2,p1,p2,p3⟩:=k6.pick r2;have jm:(es'[el]).size=kv:=hs _ (aZ r2);have l1:c1.length=el*kv:=by
    rw[p1.length,D.fG (sz:=kv) fun d hd=>hs d (bf hd),bk,bl (db r2)]
   have l2:=p2.length;rw[D.j7 r2];refine⟨b::F2,?_,by simp[D.fits,Value.oneCell'],by simp[AV.shared]⟩;unfold f8;have hlen:c.toList.length=c.size:=by simp
   refine⟨b,el*kv,c,e,(0,0),F2,by simp[Value.cells],rfl,by omega,k2,?_,?_⟩;rw[k3,g2]at hlen;simp only[lP,l1,l2]at hlen;omega;have:(c.toList.drop (el*kv)).take ((es'[el]).size)=c2:=by
    rw[k3,g2,←l1,←l2];simp
   rw[this];exact p2
  cases hd
 ·next id off len=>
  split at hd
  ·next ow nn usz es gZ=>
   obtain rfl:=aQ hd;simp only[fx]at hr;obtain⟨ow',jc,kv,es',r1,r2,r3⟩:=hr;have:=hu.uniq r1 (fB gZ);injection this with e1 e2 e3 e4;subst e1;subst e2;subst e3;subst e4;have ho:=hu.each _ r1;simp only[hP]at ho;obtain⟨kw,hs,ho⟩:=ho;have hlen:((es'.drop off).take len).length=len:=by simp;omega
   rcases r3 with⟨b,r3,rfl⟩|⟨r3,rfl,rfl,rfl⟩
   ·rcases ho with⟨h0,_⟩|⟨b',c,e,G,cs,rest,k1,k2,k3,k4,k5,k6,k7,k8⟩
    rw[r3]at h0;cases h0;rw[r3]at k1;obtain rfl:=aQ k1;have qp:es'=es'.take off++((es'.drop off).take len++(es'.drop off).drop len):=by rw[bw,bw]
    have k6':fR h (es'.take off++((es'.drop off).take len++(es'.drop off).drop len)) G cs:=by rw[←qp];exact k6
    obtain⟨F1,F23,c1,ZW,g1,g2,s1,KN⟩:=k6'.split;obtain⟨F2,F3,c2,c3,rfl,rfl,s2,s3⟩:=KN.split;have hm:∀d∈(es'.drop off).take len,d.size=kv:=fun d hd=>hs d (cd (bf hd));have l1:c1.length=off*kv:=by
     rw[s1.length,D.fG (sz:=kv) fun d hd=>hs d (bf hd),bk,bl (by omega)]
    have l2:c2.length=len*kv:=by rw[s2.length,D.fG hm,hlen]
    refine⟨b::F2,?_,rfl,by simp[AV.shared]⟩;unfold f8;refine .inr ⟨b,off*kv,g.cap id-off,c,e,(0,0),F2,by simp[Value.cells,hlen],rfl,?_,by rw[hlen];omega,by rw[hlen];omega,k2,?_,hm,?_⟩
    ·split
     exact k7;simp
    rw[k4,←a9];exact ba _ (by omega);rw[hlen,k3,g2,←l1,←l2];simpa using s2
   rcases ho with⟨_,rfl,h3,h4⟩|⟨b',c,e,G,cs,rest,k1,_⟩
   ·refine⟨[],?_,rfl,by simp⟩;unfold f8;refine .inl ⟨none,by simp[Value.cells],by simp,rfl,fun _=>?_,by simp⟩
    split;exact h4;simp
   rw[r3]at k1;cases k1
  cases hd
 ·next id off len=>
  split at hd
  ·next ow nn usz es gZ=>
   obtain rfl:=aQ hd;obtain⟨F,r1⟩:=aaQ hu hr gZ;refine⟨F,r1,?_,by simp[AV.shared]⟩;simp only[fx]at hr;obtain⟨_,_,_,_,_,_,⟨_,_,_,_,rfl⟩|⟨_,_,rfl⟩⟩:=hr<;>rfl
  cases hd
 ·next id len=>
  split at hd
  ·next sz items gZ=>
   split at hd
   ·next hlen=>
    split at hd
    ·next ds kf=>
     obtain rfl:=aQ hd;simp only[fx]at hr;obtain⟨gv,g9,b,r1,r2,r3,rfl⟩:=hr;have:=hu.uniq r1 (fB gZ);injection this with e1 e2;subst e1;subst e2;have ho:=hu.each _ r1;simp only[hP]at ho;obtain⟨kw,b',c,e,vs,rest,k1,k2,k3,k4,k5,k6⟩:=ho;rw[r3]at k1;obtain rfl:=aQ k1;obtain⟨F,p1,p2,p3⟩:=xm k4 kf;have hl:=p1.length;rw[D.fG p2]at hl;refine⟨b::F,?_,rfl,by simp[AV.shared]⟩;unfold f8;have lY:ds.length*gv≤c.size:=by
      have:c.toList.length=c.size:=by simp
      rw[k6,lP]at this;omega
     refine .inr ⟨b,0,len,c,e,(0,0),F,by simp[Value.cells,p3,hlen],rfl,by simp,by omega,by omega,k2,by rw[p3,←hlen]at lY;omega,p2,?_⟩;rw[az,k6,bV hl];exact p1
    cases hd
   cases hd
  cases hd
 ·next id el j gQ off len=>
  split at hd
  ·next nn usz es gZ=>
   have:=VA hu hr gZ hd;simp only[fx]at this;obtain⟨F,r1,r2,r3⟩:=this;exact⟨F,r1,r2,by simp[AV.shared]⟩
  cases hd
 ·next id el j gQ ic j'=>
  split at hd
  ·next nn usz es gZ=>
   unfold abQ at hd
   split at hd
   ·next jc sz ds kf=>
    split at hd
    ·next hz=>
     obtain⟨rfl,h1,h2⟩:=hz;obtain rfl:=aQ hd;obtain⟨this,_⟩:=U7 hu hr gZ kf h1 h2;simp only[fx]at this;obtain⟨F,r1,r2,r3⟩:=this;exact⟨F,r1,r2,by simp[AV.shared]⟩
    cases hd
   cases hd
  cases hd
 ·next f vs=>exact absurd rfl (gw.1 f vs)
 ·next nn sz=>
  obtain rfl:=aQ hd;simp only[fx]at hr;obtain⟨p,rfl,r1,r2⟩:=hr;refine⟨[],?_,by simp[D.fits,Value.oneCell'],by simp⟩;unfold f8;exact .inl ⟨p,by simp[Value.cells],rfl,rfl,r1,r2⟩
 ·next vs=>exact absurd rfl (gw.2 vs)
 cases hd;cases hd;cases hd;cases hd;cases hd
def xb:∀{ds:List D} {F:List Nat} {vs:List Value},lO h ds F vs→fR h ds F (vs.map (·.cells.toList)).flatten
 | [],F,vs,hr=>by
  rw[D3]at hr;obtain⟨rfl,rfl⟩:=hr;simp[fR]
 |d::ds,F,vs,hr=>by
  rw[rH]at hr;obtain⟨F1,F2,v,r,rfl,rfl,h1,_,h2⟩:=hr;rw[ig];exact⟨F1,F2,_,_,rfl,by simp only[lC,cb],h1,xb h2⟩
mutual
def tn(hu:gr h n0 S0 M0 us g):∀{av:AV} {v:Value} {d:D},fx h us g av v→av.arg (lu us)=some d→
  ∃F,f8 h d F v.cells.toList∧d.fits v∧(av.shared=true→∀b∈F,g.Sh b)
 |.cl f vs,v,d,hr,hd=>by
  simp only[AV.arg]at hd
  split at hd
  ·next ds kf=>
   obtain rfl:=aQ hd;simp only[fx]at hr;obtain⟨xs,h1,rfl⟩:=hr;obtain⟨F,q1,q2⟩:=uJ hu h1 kf;refine⟨F,?_,by simp[D.fits,Value.oneCell'],fun hs=>q2 (by simpa[AV.shared]using hs)⟩;simp only[f8];exact⟨xs,by simp[Value.cells],q1⟩
  cases hd
 |.im _ _,_,_,hr,hd=>jo hu (by simp) hr hd
 |.tr _,_,_,hr,hd=>jo hu (by simp) hr hd
 |.pw _ _ _,_,_,hr,hd=>jo hu (by simp) hr hd
 |.cw _ _ _ _ _,_,_,hr,hd=>jo hu (by simp) hr hd
 |.sm _ _ _,_,_,hr,hd=>jo hu (by simp) hr hd
 |.vb _ _,_,_,hr,hd=>jo hu (by simp) hr hd
 |.pb _ _,_,_,hr,hd=>jo hu (by simp) hr hd
 |.ps _,_,_,hr,hd=>jo hu (by simp) hr hd
 |.mv _,_,_,hr,hd=>jo hu (by simp) hr hd
 |.sg vs,v,d,hr,hd=>by
  simp only[AV.arg]at hd
  split at hd
  ·next ds kf=>
   unfold Vl at hd
   split at hd
   ·next gF=>
    obtain rfl:=aQ hd;simp only[fx]at hr;obtain⟨xs,h1,rfl⟩:=hr;obtain⟨F,q1,q2⟩:=uJ hu h1 kf;refine⟨F,?_,by simp[D.fits,Value.cells],fun hs=>by simp[AV.shared]at hs⟩;simp only[f8];rw[aY]at gF;refine⟨fun d hd=>?_,by simpa[Value.cells]using xb q1⟩;have:=gF d hd;simpa using this
   cases hd
  cases hd
 |.jS _,_,_,hr,hd=>jo hu (by simp) hr hd
 |.any,_,_,hr,hd=>jo hu (by simp) hr hd
 |.pq _ _ _ _ _ _,_,_,hr,hd=>jo hu (by simp) hr hd
 |.qs _ _ _ _ _ _,_,_,hr,hd=>jo hu (by simp) hr hd
 |.ss _ _ _,_,_,hr,hd=>jo hu (by simp) hr hd
 |.z0 _ _,_,_,hr,hd=>jo hu (by simp) hr hd
def uJ(hu:gr h n0 S0 M0 us g):∀{avs:List AV} {vs:List Value} {ds:List D},fA h us g avs vs→jp (lu us) avs=some ds→
  ∃F,lO h ds F vs∧(AV.w7 avs=true→∀b∈F,g.Sh b)
 | [],vs,ds,hr,hd=>by
  simp only[jp,oS]at hd;subst hd;simp only[fA]at hr;subst hr;exact⟨[],by simp[lO],by simp⟩
 |av::avs,vs,ds,hr,hd=>by
  simp only[fA]at hr;obtain⟨v,r,rfl,r1,r2⟩:=hr;simp only[jp]at hd
  split at hd
  ·next d ds' h1 h2=>
   obtain rfl:=aQ hd;obtain⟨F1,p1,p2,p3⟩:=tn hu r1 h1;obtain⟨F2,q1,q2⟩:=uJ hu r2 h2;refine⟨F1++F2,rH.2 ⟨F1,F2,v,r,rfl,rfl,p1,p2,q1⟩,fun hs b hb=>?_⟩;simp only[AV.w7,bA]at hs;rcases ax.1 hb with hb|hb
   exact p3 hs.1 b hb;exact q2 hs.2 b hb
  cases hd
end
def tu(hu:gr h n0 S0 M0 us g)(iD:Nat→Prop):∀{avs:List AV} {vs:List Value} {ds es:List D},fA h us g avs vs→jp (lu us) avs=some ds→D.AQ ds es→
  (∀av∈avs,av.shared=false→∀b,b<h.size→iD b)→(∀av∈avs,∀b,g.Sh b→iD b)→gM h iD es vs
 | [],vs,ds,es,hr,hd,hl,_,_=>by
  simp only[jp,oS]at hd;subst hd;cases es with
  |nil=>simpa[fA,gM]using hr
  |cons e es=>simp[D.AQ]at hl
 |av::avs,vs,ds,es,hr,hd,hl,ho,ho'=>by
  simp only[fA]at hr;obtain⟨v,r,rfl,r1,r2⟩:=hr;simp only[jp]at hd
  split at hd
  ·next d ds' h1 h2=>
   obtain rfl:=aQ hd;cases es with
   |nil=>simp[D.AQ]at hl
   |cons e es=>
    simp only[D.AQ]at hl;obtain⟨F,p1,p2,p3⟩:=tn hu r1 h1;simp only[gM];obtain⟨F',q1,q2⟩:=hl.1.1 _ _ _ p1;refine⟨v,r,F',rfl,q1,hl.1.2 _ p2,?_,tu hu iD r2 h2 hl.2 (fun x hx=>ho x (by simp[hx])) (fun x hx=>ho' x (by simp[hx]))⟩;intro b hb;cases hs:av.shared with
    |true=>exact ho' av (by simp) b (p3 hs b (q2 b hb))
    |false=>exact ho av (by simp) hs b (p1.lt b (q2 b hb))
  cases hd
def mu{st:St}{a:Act}{g:Gh}(hv:∀t,fx h us g (lk st.env t) (a.tmps.getD t undef)):∀{xs:List Operand} {ts:List TypeId} {Xs:List X},
  xs.length=ts.length→(xs.zip ts).mapM (fun p=>fY P p.2 p.1)=some Xs→fA h us g (Xs.map st.ev) (xs.map a.eval)
 | [],ts,Xs,_,hx=>by
  simp at hx;subst hx;simp[fA]
 |x::xs,[],Xs,hl,_=>by simp at hl
 |x::xs,t::ts,Xs,hl,hx=>by
  simp only[fb,cB,oD,oB,oP,oS]at hx;obtain⟨X,h1,Xs',h2,rfl⟩:=hx;simp only[lC,fA];exact⟨_,_,rfl,Aq hv h1,mu hv (by simpa using hl) h2⟩
def Az(hu:gr h n0 S0 M0 us g)(iD:Nat→Prop):∀{avs:List AV} {vs:List Value} {ds es:List D},fA h us g avs vs→jp (lu us) avs=some ds→D.AQ ds es→
  (D2 avs ds=false→∀b,b<h.size→iD b)→(∀b,g.Sh b→iD b)→gM h iD es vs
 | [],vs,ds,es,hr,hd,hl,_,_=>by
  simp only[jp,oS]at hd;subst hd;cases es with
  |nil=>simpa[fA,gM]using hr
  |cons e es=>simp[D.AQ]at hl
 |av::avs,vs,ds,es,hr,hd,hl,ho,ho'=>by
  simp only[fA]at hr;obtain⟨v,r,rfl,r1,r2⟩:=hr;simp only[jp]at hd
  split at hd
  ·next d ds' h1 h2=>
   obtain rfl:=aQ hd;cases es with
   |nil=>simp[D.AQ]at hl
   |cons e es=>
    simp only[D.AQ]at hl;obtain⟨F,p1,p2,p3⟩:=tn hu r1 h1;simp only[gM];obtain⟨F',q1,q2⟩:=hl.1.1 _ _ _ p1;refine⟨v,r,F',rfl,q1,hl.1.2 _ p2,?_,Az hu iD r2 h2 hl.2 (fun hs=>ho (by simp[D2,hs])) ho'⟩;intro b hb;have HS:=q2 b hb;cases hs:av.HQ d with
    |true=>
     unfold AV.HQ at hs
     split at hs;have:=iB hs p1;subst this;cases HS;have:=iB hs p1;subst this;cases HS;have:=iB hs p1;subst this;cases HS;exact ho' b (p3 hs b HS)
    |false=>exact ho (by simp[D2,hs]) b (p1.lt b HS)
  cases hd
def EM(h:At n0 S0 M0 w0 st o a w g){f:Nat}{avs:List AV}{vs:List Value}(gk:jf P f→(execOp a.eval o).run P w=.ok (.enter f vs.toArray) w)(hr:fA w.heap st.us g avs vs)
  (hq:U9 P o.dst f avs st.unit k):o.wp P a w (hO n0 S0 M0 w0 st o.dst k) Q':=by
 obtain⟨ds,es,r,hd,hl,⟨lh,hA⟩,hk⟩:=hq
 dsimp only at hk
 unfold Oper.wp;rw[gk lh,cL];have hs:=h.sat;have up:n0≤w.heap.size:=by rw[hs.base];exact hs.size
 let iD:Nat→Prop:=fun b=>if D2 avs ds=true then g.Sh b else b<w.heap.size
 have hold:gM w.heap iD es vs:=by
  refine Az h.us iD hr hd hl (fun hf b hb=>?_) (fun b hb=>?_);simp only[iD,hf,kY,aH];exact hb;simp only[iD]
  split;exact hb;exact(h.us.sh b hb).1
 refine(hA w vs iD hold).mono ?_;rintro e w' ⟨v,F,G,rfl,hB,hR,ii,hF,hG⟩;have hh:∀b,b<w.heap.size→w'.heap[b]?=w.heap[b]?:=fun b hb=>hB.block b hb;refine⟨_,_,hk,fun hf=>?_⟩;have key:∀G':List Nat,(∀b∈G',b∈G)→(∀b∈G',g.Sh b∨(w.heap.size≤b∧b<w'.heap.size))→(D2 avs ds=true→∀b∈G,b∈G')→
   ju n0 S0 M0 w0 ((st.iQ (gS (o.dst.getD 0) (D2 avs ds) r).2).kl o.dst (gS (o.dst.getD 0) (D2 avs ds) r).1) (a.put o.dst v) w':=by
  intro G' hH hG' gF;obtain⟨hU,hV⟩:=h.us.wide hB.size hh up G' hG';obtain⟨g2,s7,w9,yZ⟩:=xT (st:=st) hU (n:=o.dst.getD 0) hR ii (fun b hb gI=>by have:=(hF b hb).1;omega)
   (fun b hb jb => by
    have h1:=(hF b hb).1;have h2:b∈fp g st.us:=jb;have:=h.us.lt b h2;omega)
   (fun b hb lw => by
    have h1:=hF b hb;rcases lw with h2|h2
    have:=(h.us.sh b h2).1;omega;exact h1.2.1 (hH b h2))
   (fun b hb=>(hF b hb).2.2)
   (D2 avs ds) (fun e b hb=>.inr (gF e b hb)) hf
  have KP:ju n0 S0 M0 w0 (st.iQ (gS (o.dst.getD 0) (D2 avs ds) r).2) a w':=by
   refine⟨hs.ms,hs.mS,hs.tm,hs.base,hB.os.trans hs.os,hB.tape.trans hs.tape,hB.output.trans hs.output,bX hs.size hB.size,?_,g2,s7,fun t=>yZ _ _ (hV _ _ (h.rep t))⟩;intro b hb hm;rw[←hs.iD b hb hm];exact hh b (by omega)
  exact gW KP (g:=g2) s7 (fun t=>yZ _ _ (hV _ _ (h.rep t))) h.dst w9
 cases gF:D2 avs ds with
 |true=>
  rw[←gF];refine key G (fun b hb=>hb) (fun b hb=>?_) (fun _ b hb=>hb);rcases hG b hb with h1|h1
  exact .inr h1
  left;simpa[iD,gF]using h1
 |false=>
  rw[←gF];exact key [] (by simp) (by simp) (by rw[gF];simp)
def Qr(hu:gr h n0 S0 M0 us g)(hr:fx h us g av v)(ho:AV.one (lu us) av=true):v.oneCell'=true:=by
 cases av with
 |im t d=>
  simp only[AV.one,bA,bB,ce]at ho;simp only[fx]at hr;obtain⟨F,r1,r2,r3⟩:=hr;cases d<;>simp_all [D.fits,D.fK,Value.oneCell']
 |tr i=>
  simp only[AV.one]at ho
  split at ho
  ·next d gZ=>
   have hm:=fB gZ;simp only[fx]at hr;obtain⟨_,rfl⟩:=hr;have hU:=hu.each _ hm;simp only[hP]at hU;obtain⟨_,_,p3⟩:=hU;simp only[bA,bB,ce]at ho;cases d<;>simp_all [D.fits,D.fK,Value.oneCell']
  cases ho
 |sm i off len=>
  simp only[fx]at hr;obtain⟨_,_,_,_,_,_,q3⟩:=hr;rcases q3 with⟨b,_,rfl⟩|⟨_,_,_,rfl⟩<;>simp[Value.oneCell']
 |vb i len=>
  simp only[fx]at hr;obtain⟨_,_,_,_,_,_,rfl⟩:=hr;simp[Value.oneCell']
 |cw i el j sz agg=>
  simp only[AV.one,bA,ce]at ho;obtain⟨_,rfl⟩:=ho;simp only[fx]at hr;obtain⟨_,_,_,_,_,_,_,_,_,_,_,_,_,_,q9⟩:=hr;simpa using q9
 |pw i el j=>
  simp only[fx]at hr;obtain⟨_,_,_,_,_,_,_,_,_,rfl⟩:=hr;simp[Value.oneCell']
 |pb i j=>
  simp only[fx]at hr;obtain⟨_,_,_,_,_,rfl⟩:=hr;simp[Value.oneCell']
 |cl f vs=>
  simp only[fx]at hr;obtain⟨_,_,rfl⟩:=hr;simp[Value.oneCell']
 |_=>simp[AV.one]at ho
def Aa:∀{avs:List AV} {vs:List Value} {i:Nat},fA h us g avs vs→i<avs.length→fx h us g (avs.getD i .any) (vs.getD i undef)
 | [],_,_,_,hi=>by simp at hi
 |a::as,vs,i,hr,hi=>by
  simp only[fA]at hr;obtain⟨v,r,rfl,h1,h2⟩:=hr;cases i with
  |zero=>simpa using h1
  |succ i=>simpa using Aa h2 (i:=i) (by simpa using hi)
def FW(h:At n0 S0 M0 w0 st o a w g){f:Nat}{avs:List AV}{vs:List Value}(gk:jf P f→(execOp a.eval o).run P w=.ok (.enter f vs.toArray) w)(hr:fA w.heap st.us g avs vs)
  (hq:Vx P f avs st.unit k):o.wp P a w (hO n0 S0 M0 w0 st o.dst k) Q':=by
 obtain⟨T,⟨hT,hA⟩,qq,hk⟩:=hq;have B9:=hr;have hs:=h.sat;have up:n0≤w.heap.size:=by rw[hs.base];exact hs.size
 have gF:∀{avs:List AV} {vs:List Value},fA w.heap st.us g avs vs→avs.all (AV.one st.unit)=true→vs.length=avs.length∧∀c∈vs,c.oneCell'=true:=by
  intro avs
  induction avs with
  |nil=>intro vs hr _;simp only[fA]at hr;simp[hr]
  |cons a as ih=>
   intro vs hr ho;simp only[fA]at hr;obtain⟨v,r,rfl,h1,h2⟩:=hr;simp only[cE,bA]at ho;obtain⟨q1,q2⟩:=ih h2 ho.2;refine⟨by simp[q1],fun c hc=>?_⟩;rcases aj.1 hc with rfl|hc
   exact Qr h.us h1 ho.1;exact q2 c hc
 obtain⟨hl,hc⟩:=gF hr qq;obtain⟨lh,hA⟩:=hA vs hl hc;have oc:∀{vs:List Value},(∀c∈vs,c.oneCell'=true)→gM w.heap (fun _=>False) (vs.map .sc) vs:=by
  intro vs
  induction vs with
  |nil=>intro _;simp[gM]
  |cons v vs ih=>
   intro hc;have hv:=hc v (by simp);simp only[lC,gM];refine⟨v,vs,[],rfl,?_,by simpa[D.fits]using hv,by simp,ih fun c yG=>hc c (by simp[yG])⟩;simp only[f8];exact⟨trivial,by rw[fP hv],hv⟩
 unfold Oper.wp;rw[gk lh,cL];refine(hA w vs _ (oc hc)).mono ?_;rintro e w' ⟨v,F,G,rfl,hB,hR,ii,hF,hG⟩;have hh:∀b,b<w.heap.size→w'.heap[b]?=w.heap[b]?:=fun b hb=>hB.block b hb;refine⟨_,_,hk,fun hf=>?_⟩;obtain⟨hU,hV⟩:=h.us.wide hB.size hh up [] (by simp);have KP:ju n0 S0 M0 w0 st a w':=by
  refine⟨hs.ms,hs.mS,hs.tm,hs.base,hB.os.trans hs.os,hB.tape.trans hs.tape,hB.output.trans hs.output,bX hs.size hB.size,?_,_,hU,fun t=>hV _ _ (h.rep t)⟩;intro b hb hm;rw[←hs.iD b hb hm];exact hh b (by omega)
 refine gW KP hU (fun t=>hV _ _ (h.rep t)) h.dst ?_;simp only[jl]at hR;obtain⟨_,hR,c,rfl⟩:=hR;have key:∀{T:List (Value ⊕ Nat)} {F:List Nat} {l:List Value},T.all (tOk avs.length)=true→fR w'.heap (T.map (tD vs)) F l→l=((T.map (tV vs)).map (·.cells.toList)).flatten∧fA w'.heap st.us {g with Sh:=fun b=>g.Sh b∨b∈([]:List Nat)} (T.map (tA avs)) (T.map (tV vs)):=by
  intro T
  induction T with
  |nil=>intro F l _ hr;simp only[lN,fR]at hr;simp[hr,fA]
  |cons t T ih=>
   intro F l ht hr;simp only[lC,ig]at hr;obtain⟨F1,F2,c1,c2,rfl,rfl,h1,h2⟩:=hr;simp only[cE,bA]at ht;obtain⟨e1,e2⟩:=ih ht.2 h2;cases t with
   |inl c=>
    have kr:c.oneCell'=true:=by simpa[tOk]using ht.1
    simp only[tD,f8]at h1;obtain⟨_,rfl,_⟩:=h1;refine⟨by simp[tV,fP kr,e1],?_⟩;simp only[lC,fA];refine⟨_,_,rfl,?_,e2⟩;simp only[tA,tV,fx,f8];exact⟨[],⟨rfl,by rw[fP kr],kr⟩,by simpa[D.fits]using kr,by simp⟩
   |inr i=>
    have hi:i<avs.length:=by simpa[tOk]using ht.1
    simp only[tD,f8]at h1;obtain⟨_,rfl,kr⟩:=h1;refine⟨by simp only[lC,cb,tV];rw[fP kr,e1],?_⟩;simp only[lC,fA];exact⟨_,_,rfl,hV _ _ (Aa B9 hi),e2⟩
 simp only[f8]at hR;obtain⟨q1,q2⟩:=key hT hR.2;simp only[fx];refine⟨_,q2,?_⟩;rw[←q1];simp[Value.cells]
def tR{α β:Type}{f:α→Option β}:∀{l:List α} {r:List β},l.mapM f=some r→r.length=l.length
 | [],r,h=>by simp at h;subst h;rfl
 |x::l,r,h=>by
  simp only[cB,oD,oB,oP,oS]at h;obtain⟨y,_,ys,h2,rfl⟩:=h;simp[tR h2]
def pD:∀{as bs:List AV} {xs ys:List Value},fA h us g as xs→fA h us g bs ys→fA h us g (as++bs) (xs++ys)
 | [],bs,xs,ys,h1,h2=>by simp only[fA]at h1;subst h1;simpa using h2
 |a::as,bs,xs,ys,h1,h2=>by
  simp only[fA]at h1;obtain⟨v,r,rfl,q1,q2⟩:=h1;simp only[bp,fA];exact⟨v,_,rfl,q1,pD q2 h2⟩
def CB{t:Option Nat}:∀{ds:List D} {F:List Nat} {vs:List Value},lO h ds F vs→(∀b∈F,g.ok t b)→fA h us g (ds.map (.im t)) vs
 | [],_,_,hr,_=>by simp only[lO]at hr;simp[fA,hr.2]
 |d::ds,_,_,hr,hk=>by
  simp only[lO]at hr;obtain⟨F1,F2,v,r,rfl,rfl,h1,h2,h3⟩:=hr;simp only[lC,fA];refine⟨v,r,rfl,?_,CB h3 fun b hb=>hk b (by simp[hb])⟩;simp only[fx];exact⟨F1,h1,h2,fun b hb=>hk b (by simp[hb])⟩
def abr(h:At n0 S0 M0 w0 st o a w g){f:Nat}{cap:Array Operand}{Xs:List Ax.X}(ho:o.op=.makeFunc (.func f) #[] cap)(hx:cap.toList.mapM (fun x=>fY P 0 x)=some Xs)
  (hq:k (.cl f (Xs.map st.ev)) []):o.wp P a w (hO n0 S0 M0 w0 st o.dst k) Q':=by
 refine h.pure_ (v:=.func (.func f) #[] (cap.map a.eval)) (by simp[execOp,ho,Instr.makeFunc]) ?_ hq;simp only[fx];have key:∀{l:List Operand} {Xs:List Ax.X},l.mapM (fun x=>fY P 0 x)=some Xs→fA w.heap st.us g (Xs.map st.ev) (l.map a.eval):=by
  intro l
  induction l with
  |nil=>intro Xs hx;simp at hx;subst hx;simp[fA]
  |cons x l ih=>
   intro Xs hx;simp only[cB,oD,oB,oP,oS]at hx;obtain⟨X,h1,Xs',h2,rfl⟩:=hx;simp only[lC,fA];exact⟨_,_,rfl,h.ev_ h1,ih h2⟩
 exact⟨cap.toList.map a.eval,key hx,by congr 1;apply aS;simp⟩
def acS(h:At n0 S0 M0 w0 st o a w g){u1:TypeId}{X:Ax.X}{hi mx:Operand}(ho:o.op=.slice t x none (some hi) (some mx))(ht:P.underlying t=some (.slice e))(hz:io P e=some sz)
  (hx:fY P u1 x=some X) (h1:Km hi=true) (h2:Km mx=true) (hq:Ds (st.ev X) sz k):o.wp P a w (hO n0 S0 M0 w0 st o.dst k) Q':=by
 have ex:=h.ev_ hx;have c0:∀{y:Operand},Km y=true→a.eval y=.int .i64 0:=by
  intro y hy;unfold Km at hy
  split at hy;simp only[bB]at hy;subst hy;rfl;cases hy
 unfold Ds at hq
 split at hq
 ·next t1 nn q ds e1=>
  rw[e1]at ex;obtain⟨p,len,cap,hv,hlen,KR,VL⟩:=pF ex;refine h.pure_ (v:=.slice p 0 0) ?_ ?_ hq;simp[execOp,ho,Instr.sliceAt,aW ht,Instr.slice,hv,c0 h1,c0 h2,Instr.sliceBounds,Instr.sliceBound,asIntOf,lW hz];simp only[fx];exact⟨p,rfl,fun hp=>(KR hp).2.2,VL⟩
 exact hq.elim
variable {f:AV→Bool}
def iY{k:Nat}:∀{us:List (Nat×U)} {i:Nat} {u:U},(i,u)∈us→i≠k→(i,u.kill f)∈fQ k f us
 |(j,v)::r,i,u,h,gw=>by
  simp only[fQ];rcases aj.1 h with e|h
  ·injection e with e1 e2;subst e1;subst e2;rw[al gw];simp
  split
  exact iY h gw;exact bt _ (iY h gw)
def gf{k:Nat}:∀{us:List (Nat×U)} {x:Nat×U},x∈fQ k f us→x.1≠k∧∃u,(x.1,u)∈us∧x.2=u.kill f
 | [],x,h=>by simp[fQ]at h
 |(j,v)::r,x,h=>by
  simp only[fQ]at h
  split at h;obtain⟨h1,u,h2,h3⟩:=gf h;exact⟨h1,u,bt _ h2,h3⟩
  next gw=>
  rcases aj.1 h with rfl|h
  ·exact⟨gw,v,by simp,rfl⟩
  obtain⟨h1,u,h2,h3⟩:=gf h;exact⟨h1,u,bt _ h2,h3⟩
def gn{k:Nat}:∀{us:List (Nat×U)},(fQ k f us).map (·.1)=(us.map (·.1)).filter (fun i=>decide (i≠k))
 | []=>rfl
 |(j,v)::r=>by
  simp only[fQ]
  split
  ·next h=>simp[h,gn (us:=r)]
  next h=>simp[h,gn (us:=r)]
def U.qZ{u:U}:(u.kill f).jL=u.jL:=by
 cases u with
 |ar ow nn sz es=>cases nn<;>rfl
 |_=>rfl
variable {g':Gh}
def la.kill{g:Gh}{k:Nat}(h:la n0 M0 us g)(hg:∀i,i≠k→g'.β i=g.β i∧g'.cap i=g.cap i):la n0 M0 (fQ k f us) g':=
 h.mono fun i u hm hp=>by
  obtain⟨h1,u,h2,h3⟩:=gf hm;simp only at h1 h3;rw[h3,U.qZ]at hp;exact⟨⟨_,h2,hp⟩,hg i h1⟩
def la.jQ{g:Gh}{k:Nat}{f:AV→Bool}{u':U}(h:la n0 M0 us g)(hg:∀i,g'.β i=g.β i∧g'.cap i=g.cap i)
  (hl:u'.jL=true→qf n0 M0 k (g.β k) (g.cap k)):la n0 M0 ((k,u')::fQ k f us) g':=by
 rintro i v hi ⟨u,hm,hp⟩;rw[(hg _).1,(hg _).2];rcases aj.1 hm with e|hm
 ·injection e with e1 e2;have:=hl (e2▸hp) i v hi e1.symm;rw[←e1]at this;exact this
 obtain⟨h1,u',h2,h3⟩:=gf hm;simp only at h1 h3;rw[h3,U.qZ]at hp;exact h i v hi ⟨_,h2,hp⟩
def la.Ek{g:Gh}{k:Nat}{f:AV→Bool}{u u':U}(h:la n0 M0 us g)(hm:(k,u)∈us)(hg:∀i,g'.β i=g.β i∧g'.cap i=g.cap i)
  (hl:u'.jL=true→u.jL=true):la n0 M0 ((k,u')::fQ k f us) g':=h.jQ hg fun e=>h.at hm (hl e)
def kN:∀{l:List AV},(kS f l).length=l.length
 | []=>rfl
 |v::r=>by simp[kS,kN (l:=r)]
structure Keep (k:Nat) (f:AV→Bool) (h h':ij) (us us':List (Nat×U)) (g g':Gh):Prop where
 mem:∀i u,(i,u)∈us→i≠k→(i,u.kill f)∈us'
 β:∀i,i≠k→g'.β i=g.β i∧g'.root i=g.root i∧g'.cap i=g.cap i
 iV:∀i u b,(i,u)∈us→i≠k→g.β i=some b→h'[b]?=h[b]?
 im:∀t d F cs,t≠some k→f8 h d F cs→(∀b∈F,g.ok t b)→f8 h' d F cs∧∀b∈F,g'.ok t b
variable {us':List (Nat×U)}
mutual
def fx.iq{k:Nat}{g:Gh}(H:Keep k f h h' us us' g g'):∀{av:AV} {v:Value},av.refs k=false→fx h us g av v→fx h' us' g' av v
 |.im t d,v,hf,hr=>by
  simp only[AV.refs,cC]at hf;simp only[fx]at hr⊢;obtain⟨F,h1,h2,h3⟩:=hr;obtain⟨q1,q2⟩:=H.im t d F _ hf h1 h3;exact⟨F,q1,h2,q2⟩
 |.tr i,v,hf,hr=>by
  simp only[AV.refs,cC]at hf;simp only[fx]at hr⊢;obtain⟨⟨d,hd⟩,hv⟩:=hr;exact⟨⟨d,H.mem _ _ hd hf⟩,by rw[(H.β i hf).2.1];exact hv⟩
 |.pw i el j,v,hf,hr=>by
  simp only[AV.refs,cC]at hf;simp only[fx]at hr⊢;obtain⟨ow,nn,sz,es,b,h1,h2,h3,h4,h5⟩:=hr;exact⟨ow,nn,sz,es,b,H.mem _ _ h1 hf,h2,h3,by rw[(H.β i hf).1];exact h4,h5⟩
 |.cw i el j sz agg,v,hf,hr=>by
  simp only[AV.refs,cC]at hf;simp only[fx]at hr⊢;obtain⟨nn,usz,es,b,c,e,h1,h2,h3,h4,h5,h6⟩:=hr;exact⟨nn,usz,es,b,c,e,H.mem _ _ h1 hf,h2,h3,by rw[(H.β i hf).1];exact h4,by rw[H.iV i _ b h1 hf h4];exact h5,h6⟩
 |.sm i off len,v,hf,hr=>by
  simp only[AV.refs,cC]at hf;simp only[fx]at hr⊢;obtain⟨ow,nn,sz,es,h1,h2,h3⟩:=hr;refine⟨ow,nn,sz,es,H.mem _ _ h1 hf,h2,?_⟩;rw[(H.β i hf).1,(H.β i hf).2.2];exact h3
 |.vb i len,v,hf,hr=>by
  simp only[AV.refs,cC]at hf;simp only[fx]at hr⊢;obtain⟨sz,items,b,h1,h2,h3,h4⟩:=hr;exact⟨sz,kS f items,b,H.mem _ _ h1 hf,by rw[kN];exact h2,by rw[(H.β i hf).1];exact h3,h4⟩
 |.sg vs,v,hf,hr=>by
  simp only[AV.refs]at hf;simp only[fx]at hr⊢;obtain⟨xs,h1,h2⟩:=hr;exact⟨xs,fA.iq H hf h1,h2⟩
 |.jS vs,v,hf,hr=>by
  simp only[AV.refs]at hf;simp only[fx]at hr⊢;obtain⟨xs,h1,h2⟩:=hr;exact⟨xs,h1,fA.iq H hf h2⟩
 |.any,_,_,_=>by simp[fx]
 |.cl f vs,v,hf,hr=>by
  simp only[AV.refs]at hf;simp only[fx]at hr⊢;obtain⟨xs,h1,h2⟩:=hr;exact⟨xs,fA.iq H hf h1,h2⟩
 |.pq i el j gQ ic j',v,hf,hr=>by
  simp only[AV.refs,cC]at hf;simp only[fx]at hr⊢;obtain⟨ow,nn,usz,es,b,c,e,b',off',len',cap',h1,h2,h3,h4,h5,h6⟩:=hr;exact⟨ow,nn,usz,es,b,c,e,b',off',len',cap',H.mem _ _ h1 hf,h2,h3,by rw[(H.β i hf).1];exact h4,by rw[H.iV i _ b h1 hf h4];exact h5,h6⟩
 |.qs i el j gQ off len,v,hf,hr=>by
  simp only[AV.refs,cC]at hf;simp only[fx]at hr⊢;obtain⟨ow,nn,usz,es,b,c,e,p,len',cap',h1,h2,h3,h4,h5,h6⟩:=hr;exact⟨ow,nn,usz,es,b,c,e,p,len',cap',H.mem _ _ h1 hf,h2,h3,by rw[(H.β i hf).1];exact h4,by rw[H.iV i _ b h1 hf h4];exact h5,h6⟩
 |.ss i off len,v,hf,hr=>by
  simp only[AV.refs,cC]at hf;simp only[fx]at hr⊢;obtain⟨ow,nn,sz,es,h1,h2,h3⟩:=hr;refine⟨ow,nn,sz,es,H.mem _ _ h1 hf,h2,?_⟩;rw[(H.β i hf).1,(H.β i hf).2.2];exact h3
 |.z0 _ _,v,_,hr=>by simpa[fx]using hr
 |.pb i j,v,hf,hr=>by
  simp only[AV.refs,cC]at hf;simp only[fx]at hr⊢;obtain⟨sz,items,b,h1,h3,h4⟩:=hr;exact⟨sz,kS f items,b,H.mem _ _ h1 hf,by rw[(H.β i hf).1];exact h3,h4⟩
 |.ps i,v,hf,hr=>by
  simp only[AV.refs,cC]at hf;simp only[fx]at hr⊢;obtain⟨T,E,s,b,h1,h3,h4⟩:=hr;exact⟨T,E,s,b,H.mem _ _ h1 hf,by rw[(H.β i hf).1];exact h3,h4⟩
 |.mv i,v,hf,hr=>by
  simp only[AV.refs,cC]at hf;simp only[fx]at hr⊢;obtain⟨es,b,h1,h3,h4⟩:=hr;exact⟨es,b,H.mem _ _ h1 hf,by rw[(H.β i hf).1];exact h3,h4⟩
def fA.iq{k:Nat}{g:Gh}(H:Keep k f h h' us us' g g'):∀{as:List AV} {vs:List Value},AV.kI k as=false→fA h us g as vs→fA h' us' g' as vs
 | [],_,_,hr=>by simpa[fA]using hr
 |a::as,vs,hf,hr=>by
  simp only[AV.kI,cD]at hf;simp only[fA]at hr⊢;obtain⟨v,r,h1,h2,h3⟩:=hr;exact⟨v,r,h1,fx.iq H hf.1 h2,fA.iq H hf.2 h3⟩
end
structure CD (k:Nat) (f:AV→Bool) (h h':ij) (us us':List (Nat×U)) (g g':Gh):Prop extends Keep k f h h' us us' g g' where
 own:∃ow nn sz es ow' jc es',(k,.ar ow nn sz es)∈us∧(∀u,(k,u)∈us→u=.ar ow nn sz es)∧(k,.ar ow' jc sz es')∈us'∧es'.length=es.length
 same:g'.β k=g.β k∧g'.cap k=g.cap k
mutual
def fx.sr{k:Nat}{g:Gh}(H:CD k f h h' us us' g g'):∀{av:AV} {v:Value},av.soft k=false→fx h us g av v→fx h' us' g' av v
 |.im t d,v,hf,hr=>fx.iq H.toKeep (by simpa[AV.refs,AV.soft]using hf) hr
 |.cw i el j sz agg,v,hf,hr=>fx.iq H.toKeep (by simpa[AV.refs,AV.soft]using hf) hr
 |.tr i,v,_,hr=>by
  by_cases e:i=k;subst e;obtain⟨ow,nn,sz,es,_,_,_,h1,h2,_⟩:=H.own;simp only[fx]at hr;obtain⟨⟨d,hd⟩,_⟩:=hr;cases h2 _ hd;exact fx.iq H.toKeep (by simpa[AV.refs]using e) hr
 |.pw i el j,v,_,hr=>by
  by_cases e:i=k
  ·subst e;obtain⟨ow,nn,sz,es,ow',jc,es',h1,h2,h3,h4⟩:=H.own;simp only[fx]at hr⊢;obtain⟨Pb,wM,GH,qh,b,q1,q2,q3,q4,q5⟩:=hr;have:=h2 _ q1;injection this with e1 e2 e3 e4;subst e1;subst e2;subst e3;subst e4;exact⟨ow',jc,_,es',b,h3,by omega,q3,by rw[H.same.1];exact q4,q5⟩
  exact fx.iq H.toKeep (by simpa[AV.refs]using e) hr
 |.sm i off len,v,_,hr=>by
  by_cases e:i=k
  ·subst e;obtain⟨ow,nn,sz,es,ow',jc,es',h1,h2,h3,h4⟩:=H.own;simp only[fx]at hr⊢;obtain⟨Pb,wM,GH,qh,q1,q2,q3⟩:=hr;have:=h2 _ q1;injection this with e1 e2 e3 e4;subst e1;subst e2;subst e3;subst e4;refine⟨ow',jc,_,es',h3,by omega,?_⟩;rw[H.same.1,H.same.2];exact q3
  exact fx.iq H.toKeep (by simpa[AV.refs]using e) hr
 |.vb i len,v,_,hr=>by
  by_cases e:i=k;subst e;obtain⟨ow,nn,sz,es,_,_,_,h1,h2,_⟩:=H.own;simp only[fx]at hr;obtain⟨GH,items,b,q1,_⟩:=hr;cases h2 _ q1;exact fx.iq H.toKeep (by simpa[AV.refs]using e) hr
 |.sg vs,v,hf,hr=>by
  simp only[AV.soft]at hf;simp only[fx]at hr⊢;obtain⟨xs,h1,h2⟩:=hr;exact⟨xs,fA.sr H hf h1,h2⟩
 |.jS vs,v,hf,hr=>by
  simp only[AV.soft]at hf;simp only[fx]at hr⊢;obtain⟨xs,h1,h2⟩:=hr;exact⟨xs,h1,fA.sr H hf h2⟩
 |.any,_,_,_=>by simp[fx]
 |.cl f vs,v,hf,hr=>by
  simp only[AV.soft]at hf;simp only[fx]at hr⊢;obtain⟨xs,h1,h2⟩:=hr;exact⟨xs,fA.sr H hf h1,h2⟩
 |.pq i el j gQ ic j',v,hf,hr=>fx.iq H.toKeep (by simpa[AV.refs,AV.soft]using hf) hr
 |.qs i el j gQ off len,v,hf,hr=>fx.iq H.toKeep (by simpa[AV.refs,AV.soft]using hf) hr
 |.ss i off len,v,_,hr=>by
  by_cases e:i=k
  ·subst e;obtain⟨ow,nn,sz,es,ow',jc,es',h1,h2,h3,h4⟩:=H.own;simp only[fx]at hr⊢;obtain⟨Pb,wM,GH,qh,q1,q2,q3⟩:=hr;have:=h2 _ q1;injection this with e1 e2 e3 e4;subst e1;subst e2;subst e3;subst e4;refine⟨ow',jc,_,es',h3,by omega,?_⟩;rw[H.same.1,H.same.2];exact q3
  exact fx.iq H.toKeep (by simpa[AV.refs]using e) hr
 |.z0 _ _,v,_,hr=>by simpa[fx]using hr
 |.pb i j,v,_,hr=>by
  by_cases e:i=k;subst e;obtain⟨ow,nn,sz,es,_,_,_,h1,h2,_⟩:=H.own;simp only[fx]at hr;obtain⟨GH,items,b,q1,_⟩:=hr;cases h2 _ q1;exact fx.iq H.toKeep (by simpa[AV.refs]using e) hr
 |.ps i,v,_,hr=>by
  by_cases e:i=k;subst e;obtain⟨ow,nn,sz,es,_,_,_,h1,h2,_⟩:=H.own;simp only[fx]at hr;obtain⟨T,E,s,b,q1,_⟩:=hr;cases h2 _ q1;exact fx.iq H.toKeep (by simpa[AV.refs]using e) hr
 |.mv i,v,_,hr=>by
  by_cases e:i=k;subst e;obtain⟨ow,nn,sz,es,_,_,_,h1,h2,_⟩:=H.own;simp only[fx]at hr;obtain⟨UC,b,q1,_⟩:=hr;cases h2 _ q1;exact fx.iq H.toKeep (by simpa[AV.refs]using e) hr
def fA.sr{k:Nat}{g:Gh}(H:CD k f h h' us us' g g'):∀{as:List AV} {vs:List Value},AV.mP k as=false→fA h us g as vs→fA h' us' g' as vs
 | [],_,_,hr=>by simpa[fA]using hr
 |a::as,vs,hf,hr=>by
  simp only[AV.mP,cD]at hf;simp only[fA]at hr⊢;obtain⟨v,r,h1,h2,h3⟩:=hr;exact⟨v,r,h1,fx.sr H hf.1 h2,fA.sr H hf.2 h3⟩
end
def vt{g:Gh}(H:∀av v,f av=false→fx h us g av v→fx h' us' g' av v):∀{as:List AV} {vs:List Value},fA h us g as vs→fA h' us' g' (kS f as) vs
 | [],_,hr=>by simpa[fA,kS]using hr
 |a::as,vs,hr=>by
  simp only[fA,kS]at hr⊢;obtain⟨v,r,h1,h2,h3⟩:=hr;refine⟨v,r,h1,?_,vt H h3⟩;cases hf:f a with
  |true=>simp[fx]
  |false=>simpa using H a v hf h2
def gT{g:Gh}(H:∀av v,f av=false→fx h us g av v→fx h' us' g' av v){env:List (Nat×AV)}{t:Nat}
  (hr:fx h us g (lk env t) v):fx h' us' g' (lk (iy f env) t) v:=by
 have key:∀env,lk (iy f env) t=.any∨(lk (iy f env) t=lk env t∧f (lk env t)=false)∨(lk (iy f env) t=lk env t∧lk env t=.any):=by
  intro env
  induction env with
  |nil=>exact .inl rfl
  |cons x r ih=>
   obtain⟨i,u⟩:=x;simp only[iy,lk]
   split
   ·cases hf:f u with
    |true=>left;simp
    |false=>right;left;simp
   exact ih
 rcases key env with h1|⟨h1,h2⟩|⟨h1,h2⟩
 rw[h1];simp[fx];rw[h1];exact H _ _ h2 hr;rw[h1,h2];simp[fx]
end Go.Ax
