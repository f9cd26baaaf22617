/- THE ENGINE, PART 12: a generator of conditions over the register code, and its soundness. No condition. -/
import Derived.Test.YtalgnbkjhgncaaaEnK
import Derived.ProofKit
set_option linter.all false
namespace Go.Ax
open Go.ChangeShapes Go.WideShapes Go.RowKit
section
variable {P:Program}
def Rd(P:Program)(n:Nat)(t:TypeId){α:Type}(f:α→D)(ok:α→Prop):Prop:=
 ∀(H:Type)(enc:TypeId×Value→H)(w:World)(cs:List Value)(x:DataW H×List MemPlace),
  DataW.trod enc P w 0 (fun _=>true) true n t cs=some x→∃a F,f8 w.heap (f a) F cs∧ok a
variable {t:TypeId}
def rF{α:Type}{f:α→D}{ok:α→Prop}:Rd P 0 t f ok:=by
 intro H enc w cs x h;simp[DataW.trod]at h
variable {n:Nat}
def qL{α β:Type}{f:α→D}{ok:α→Prop}{f':β→D}{PN:β→Prop}(g:α→β)(h1:∀a,f' (g a)=f a)(h2:∀a,ok a→PN (g a))(h:Rd P n t f ok):Rd P n t f' PN:=by
 intro H enc w cs x hx;obtain⟨a,F,r,o⟩:=h _ enc w cs x hx;exact⟨g a,F,by rw[h1];exact r,h2 a o⟩
def Zl{k:IntKind}(ht:P.underlying t=some (.int k)):Rd P n t (fun m:Int=>.sc (.int k m)) (fun m=>(Lit.int k m).wf=true):=by
 intro H enc w cs x h;obtain⟨m,rfl,_,hw⟩:=DataW.trod_int ht h;exact⟨m,[],by simp[f8,Value.oneCell'],hw⟩
def nD(a:Addr)(i:Nat):(a.add i).block=a.block:=by
 unfold Addr.add
 split<;>rfl
def BH(a:Addr)(i:Nat):(a.add i).off=a.off+i:=by
 unfold Addr.add
 split<;>simp_all
variable {w:World}
def xj{a:Addr}{cs:List Value}(h:w.cells? 0 a n=some cs)(hn:0<n):
  ∃c e fr,w.heap[a.block]?=some (.cells c e fr)∧a.spot=none∧a.off+n≤c.size∧cs=(c.toList.drop a.off).take n:=by
 unfold World.cells? at h;rw[an (bu _)]at h;have hl:cs.length=n:=by simpa using tR h
 have hg:∀i,i<n→w.cell? (a.add i)=cs[i]?:=by
  intro i hi;obtain⟨b,h1,h2⟩:=mN h i i (by simp[hi]);rw[h1,h2]
 have h0:=hg 0 hn;rw[bR (by omega)]at h0;cases hb:w.heap[a.block]? with
 |none=>simp[World.cell?,nD,hb]at h0
 |some o=>
  cases o with
  |cells c e fr=>
   have HW:a.spot=none:=by
    cases hs:a.spot with
    |none=>rfl
    |some s=>simp[World.cell?,Addr.add,hb,hs]at h0
   have hc:∀i,i<n→c[a.off+i]?=cs[i]?:=by
    intro i hi;have:=hg i hi;have vG:(a.add i).spot.isSome=false:=by
     cases vG:(a.add i).spot.isSome with
     |false=>rfl
     |true=>
      rw[bR (by omega)]at this;simp[World.cell?,nD,hb,vG]at this
    simpa[World.cell?,nD,BH,hb,vG]using this
   have H2:=hc (n-1) (by omega);rw[bR (by omega)]at H2;have hle:=(bh.1 H2).1;refine⟨c,e,fr,rfl,HW,by omega,?_⟩
   apply et
   intro i
   by_cases hi:i<n
   ·rw[←hc i hi,dr hi,cJ,cr]
   rw[e8 (by omega),e8 (by simp;omega)]
  |_=>simp[World.cell?,nD,hb]at h0
def zH{h:ij}{α:Type}{f:α→D}{ok:α→Prop}{c:List Value}{sz:Nat}:
  ∀(m o:Nat),(∀i,i<m→∃a F,f8 h (f a) F ((c.drop (o+i*sz)).take sz)∧ok a)→
   ∃(as:List α) (F:List Nat),as.length=m∧fR h (as.map f) F ((c.drop o).take (m*sz))∧∀a∈as,ok a
 |0,o,_=>⟨[],[],rfl,by simp[fR],by simp⟩
 |m+1,o,hr=>by
  obtain⟨a,F,h1,h2⟩:=hr 0 (by omega);obtain⟨as,F',h3,h4,h5⟩:=zH m (o+sz) fun i hi=>by
   have:=hr (i+1) (by omega);rw[show o+(i+1)*sz=o+sz+i*sz by rw[a9];omega]at this;exact this
  refine⟨a::as,F++F',by simp[h3],?_,by simp;exact⟨h2,h5⟩⟩;simp only[lC,fR];refine⟨F,F',_,_,rfl,?_,by simpa using h1,h4⟩;rw[show(m+1)*sz=sz+m*sz by rw[a9];omega,List.take_add,ch]
def Dy{n:Nat}{e:TypeId}{sz:Nat}{α:Type}{f:α→D}{ok:α→Prop}(ht:P.underlying t=some (.slice e))(hs:P.cellsOf e=sz)(h0:0<sz)(hf:∀a,(f a).size=sz)
  (h:Rd P n e f ok):Rd P (n+1) t (eS sz f) (fun s=>((s.1=some true→s.2=[])∧s.1.isSome=true)∧s.2.length≤gp∧∀a∈s.2,ok a):=by
 intro H enc w cs x hx;rcases DataW.trod_slice ht hx with⟨rfl,rfl⟩|⟨a,len,cap,elems,rest,m,hm,rfl,rfl,hb,hlc,hcm,hlen,mD,P9,_⟩
 ·refine⟨(some true,[]),[],?_,by simp,by simp[gp],by simp⟩;simp only[f8,eS];exact .inl ⟨none,by simp⟩
 obtain rfl:n=m:=by omega
 obtain⟨hrl,P9⟩:=P9 rfl
 by_cases Eq:cap=0
 ·subst Eq;obtain rfl:len=0:=by omega
  refine⟨(some false,[]),[],?_,by simp,by simp[gp],by simp⟩;simp only[f8,eS];exact .inl ⟨some a,by simp⟩
 have aat:∀j,j<cap→∃c,w.cells? 0 (a.add (j*sz)) sz=some c∧∃y,DataW.trod enc P w 0 (fun _=>true) true n e c=some y:=by
  intro j hj;rw[hs]at mD P9
  by_cases hjl:j<len
  ·have:=mD j hjl;rw[bR (by omega),oB]at this;obtain⟨c,h1,h2⟩:=this;exact⟨c,h1,_,h2⟩
  have:=P9 (j-len) (by omega);rw[bR (by omega),oB,show len+(j-len)=j by omega]at this;obtain⟨c,h1,h2⟩:=this;exact⟨c,h1,_,h2⟩
 obtain⟨c1,kr,_⟩:=aat (cap-1) (by omega);obtain⟨c,e',fr,ED,_,jm,_⟩:=xj kr h0;obtain⟨c2,kx,_⟩:=aat 0 (by omega);obtain⟨_,_,_,_,HW,_,_⟩:=xj kx h0;simp only[d7,show ∀a:Addr,a.add 0=a from fun a=>by simp[Addr.add]]at HW;simp only[nD,BH]at ED jm;have gF:a.off+cap*sz≤c.size:=by
  have:cap*sz=(cap-1)*sz+sz:=by
   conv=>lhs;rw[show cap=cap-1+1 by omega,a9,eu]
  omega
 obtain⟨as,F,q1,q2,q3⟩:=zH (h:=w.heap) (f:=f) (ok:=ok) (c:=c.toList) (sz:=sz) len a.off fun i hi=>by
  obtain⟨ci,hci,y,hy⟩:=aat i (by omega);obtain⟨c',e'',fr',aau,_,_,lY⟩:=xj hci h0;simp only[nD,BH]at aau lY;rw[ED]at aau;cases aau;obtain⟨z,F,r1,r2⟩:=h _ enc w ci y hy;exact⟨z,F,by rw[←lY];exact r1,r2⟩
 refine⟨(some false,as),a.block::F,?_,by simp,by simp[q1];exact bX (bX hlc hcm) (by decide),q3⟩;simp only[f8,eS];refine .inr ⟨a.block,a.off,cap,c,e',fr,F,?_,rfl,by simp,by simp[q1,hlc],by simp[q1];exact bX (bX hlc hcm) (by decide),ED,gF,?_,by simpa[q1]using q2⟩
 ·rw[lM,q1];congr 3;cases a;simp_all
 intro d hd;obtain⟨z,_,rfl⟩:=aR.1 hd;exact hf z
def RdF(P:Program)(n:Nat)(fs:List Field)(off:Nat){α:Type}(f:α→List D)(ok:α→Prop):Prop:=
 ∀(H:Type)(enc:TypeId×Value→H)(w:World)(cs:List Value),cs.length=off+((fs.map fun g=>P.cellsOf g.type).foldr (· +·) 0)→
  (∀g∈fs,∃x:DataW H×List MemPlace,DataW.trod enc P w 0 (fun _=>true) true n g.type ((cs.drop g.offset).take (P.cellsOf g.type))=some x)→
  ∃a F,fR w.heap (f a) F (cs.drop off)∧ok a
variable {g:Field}{off:Nat}
def nR{n:Nat}{fs:List Field}{k:Nat}{α β:Type}{f:α→D}{ok:α→Prop}{f':β→List D}{PN:β→Prop}(ho:g.offset=off)(hk:P.cellsOf g.type=k)
  (h:Rd P n g.type f ok) (h':RdF P n fs (off+k) f' PN):RdF P n (g::fs) off (fun p:α×β=>f p.1::f' p.2) (fun p=>ok p.1∧PN p.2):=by
 intro H enc w cs hl hx;subst ho hk;obtain⟨x,hx0⟩:=hx g (by simp);obtain⟨a,F,r,o⟩:=h _ enc w _ x hx0;obtain⟨b,F',r',o'⟩:=h' _ enc w cs (by simp only[lC,List.foldr_cons]at hl;omega) fun g' B6=>hx g' (by simp[B6]);refine⟨(a,b),F++F',?_,o,o'⟩;simp only[fR];exact⟨F,F',_,_,rfl,by rw[←ch,bw],r,r'⟩
def rr{n:Nat}{α:Type}{f:α→D}{ok:α→Prop}(ho:g.offset=off)
  (h:Rd P n g.type f ok):RdF P n [g] off (fun p:α=>[f p]) ok:=by
 intro H enc w cs hl hx;subst ho;obtain⟨x,hx0⟩:=hx g (by simp);obtain⟨a,F,r,o⟩:=h _ enc w _ x hx0;refine⟨a,F,?_,o⟩;simp only[fR];refine⟨F,[],_,[],by simp,?_,r,rfl,rfl⟩;simp only[lC,lN,List.foldr_cons,List.foldr_nil]at hl;rw[aB,bZ (by simp;omega)]
def YP{n:Nat}{fs:List Field}{k:Nat}{α β:Type}{f:α→List D}{ok:α→Prop}{f':β→List D}{PN:β→Prop}(ho:g.offset=off)(hk:P.cellsOf g.type=k)
  (h:Rd P n g.type (fun a=>.ag (f a)) ok) (h':RdF P n fs (off+k) f' PN):RdF P n (g::fs) off (fun p:α×β=>f p.1++f' p.2) (fun p=>ok p.1∧PN p.2):=by
 intro H enc w cs hl hx;subst ho hk;obtain⟨x,hx0⟩:=hx g (by simp);obtain⟨a,F,r,o⟩:=h _ enc w _ x hx0;obtain⟨b,F',r',o'⟩:=h' _ enc w cs (by simp only[lC,List.foldr_cons]at hl;omega) fun g' B6=>hx g' (by simp[B6]);refine⟨(a,b),F++F',?_,o,o'⟩;simp only[f8]at r;rw[←bw (P.cellsOf g.type) (cs.drop g.offset),ch];exact fR.append r.2 r'
def rJ{n:Nat}{fs:Array Field}{α:Type}{f:α→List D}{ok:α→Prop}(ht:P.underlying t=some (.struct fs))(hc:P.cellsOf t=(fs.toList.map fun g=>P.cellsOf g.type).foldr (· +·) 0)
  (hf:∀a,∀d∈f a,d.size=1∧d.fK=false) (h:RdF P n fs.toList 0 f ok):Rd P (n+1) t (fun a=>.ag (f a)) ok:=by
 intro H enc w cs x hx;obtain⟨xs,m,hm,rfl,hl,hxl,hg⟩:=DataW.trod_struct ht hx;obtain rfl:n=m:=by omega
 obtain⟨a,F,r,o⟩:=h _ enc w cs (by omega) fun g hgm=>by
  obtain⟨i,hi,rfl⟩:=dQ hgm;have hi':i<fs.size:=by simpa using hi
  have:=hg i fs[i] (by simp[hi']);rw[bR (by omega)]at this;exact⟨_,by simpa using this⟩
 refine⟨a,F,?_,o⟩;simp only[f8];exact⟨hf a,by simpa using r⟩
def Arg(P:Program)(t:TypeId){α:Type}(f:α→D)(ok:α→Prop):Prop:=
 (∀ n, Rd P n t f ok) ∧ (((∀ a, (f a).fK = true) ∧ ∃ fs, P.underlying t = some (.struct fs)) ∨
  ((∀a,(f a).fK=false)∧(match P.underlying t with|some (.struct _)|some (.array _ _)=>false|_=>true)=true))
def Sf{h:ij}{d:D}{F:List Nat}{cs:List Value}(hr:f8 h d F cs)(hd:d.fK=false):∃c,cs=[c]∧c.oneCell'=true:=by
 cases d with
 |sc v=>simp only[f8]at hr;exact⟨v,hr.2.1,hr.2.2⟩
 |ag ds=>simp[D.fK]at hd
 |ls nn sz ds=>
  simp only[f8]at hr;rcases hr with⟨p,rfl,_⟩|⟨b,off,cap,c,e,fr,F',rfl,_⟩
  exact⟨_,rfl,rfl⟩;exact⟨_,rfl,rfl⟩
 |pt d j=>
  simp only[f8]at hr;obtain⟨b,off,c,e,fr,F',rfl,_⟩:=hr;exact⟨_,rfl,rfl⟩
 |jk=>simp only[f8]at hr;obtain⟨_,v,rfl,hv⟩:=hr;exact⟨v,rfl,hv⟩
 |fn f ds=>simp only[f8]at hr;obtain⟨vs,rfl,_⟩:=hr;exact⟨_,rfl,rfl⟩
 |lc b o d=>simp only[f8]at hr;rcases hr.1 with⟨_,_,rfl⟩|rfl<;>exact⟨_,rfl,rfl⟩
def Nl{α:Type}{f:α→D}{ok:α→Prop}(ha:Arg P t f ok){H:Type}{enc:TypeId×Value→H}{w:World}{b:Nat}{v:Value}{d:DataW H}{ps:List MemPlace}
  (ho:Value.okWide P w .any b t v) (h:DataW.Trod enc P w 0 (fun _=>true) true t v d ps):∃a F,f8 w.heap (f a) F v.cells.toList∧(f a).fits v∧ok a:=by
 obtain⟨n,hn⟩:=h;obtain⟨a,F,r,o⟩:=ha.1 n _ enc w _ _ hn;refine⟨a,F,r,?_,o⟩;rcases ha.2 with⟨h1,fs,hs⟩|⟨h1,h2⟩
 ·simp only[Value.okWide,hs]at ho;obtain⟨cs,rfl,_⟩:=ho;have h1:=h1 a;cases hd:f a with
  |ag ds=>exact⟨_,rfl⟩
  |_=>simp[hd,D.fK]at h1
 have h1:=h1 a;obtain⟨c,hc,kr⟩:=Sf r h1;have hv:v.oneCell'=true:=by
  cases v with
  |agg cs=>
   exfalso;cases hu:P.underlying t with
   |none=>simp[Value.okWide,hu,Cell.okWide,Cell.ok]at ho
   |some u=>cases u<;>simp_all [Value.okWide,Cell.okWide,Cell.ok]
  |_=>simp_all [Value.cells]
 cases hd:f a with
 |ag ds=>simp[hd,D.fK]at h1
 |_=>exact hv
def OD{t':TypeId}{α β:Type}{f:α→D}{ok:α→Prop}{f':β→D}{PN:β→Prop}(ha:Arg P t f ok)(ri:Arg P t' f' PN){H:Type}{enc:TypeId×Value→H}{w:World}{b:Nat}{args:Array Value}{ds:List (DataW H)}{ps:List MemPlace}
  (ho:∀(j:Nat) u v,[t,t'][j]?=some u→args[j]?=some v→Value.okWide P w .any b u v) (h:DataW.TrodAll enc P w 0 (fun _=>true) true [t,t'] args.toList ds ps):
  ∃a a',gM w.heap (fun _=>True) [f a,f' a'] args.toList∧ok a∧PN a':=by
 obtain⟨v,v',d,d',p,p',rfl,rfl,rfl,h1,h2⟩:=trodAll_two h;obtain⟨a,F,r,q,o⟩:=Nl ha (ho 0 t v rfl rfl) h1;obtain⟨a',F',r',q',o'⟩:=Nl ri (ho 1 t' v' rfl rfl) h2;exact⟨a,a',by simp only[gM];exact⟨v,_,F,rfl,r,q,fun _ _=>trivial,v',_,F',rfl,r',q',fun _ _=>trivial,rfl⟩,o,o'⟩
def so{H:Type}{enc:TypeId×Value→H}(hl:laidOutB P=true){W W':World}(hb:Below W.heap.size W W'){sp:Nat→Bool}:
  ∀{ts:List TypeId} {vs:List Value} {ds:List (DataW H)} {ps:List MemPlace},(∀t∈ts,P.readableRec t=true∧t<P.types.size)→(∀x∈ps,x.block<W.heap.size)→(∀x∈ps,sp x.block=true)→
   DataW.TrodAll enc P W 0 (fun _=>true) true ts vs ds ps→DataW.TrodAll enc P W' 0 sp true ts vs ds ps
 | [],_,_,_,_,_,_,h=>by
  obtain⟨rfl,rfl,rfl⟩:=trodAll_nil h
  rfl
 |t::ts,_,_,_,ht,gI,hs,h=>by
  obtain⟨v,vs,d,ds,p,q,rfl,rfl,rfl,h1,h2⟩:=trodAll_cons h;exact⟨p,q,WideElems.Trod_stays hl (ht t (by simp)).1 (ht t (by simp)).2 h1 (fun x hx=>hb.same (gI x (by simp[hx]))) (fun x hx=>hs x (by simp[hx])),
   so hl hb (fun t' h'=>ht t' (by simp[h'])) (fun x hx=>gI x (by simp[hx])) (fun x hx=>hs x (by simp[hx])) h2,rfl⟩
def JV{f:Func}{s:ChangeSpec}{H:Type}{enc:TypeId×Value→H}{t:TypeId}{W W':World}{args:Array Value}{ds gs:List (DataW H)}{before:List MemPlace}
  (hl:laidOutB P=true) (Ey:s.vars=[]) (fv:f.resultTypes= #[t]) (ht:P.underlying t=some .bool) (hp:∀t∈f.params.toList,P.readableRec t=true∧t<P.types.size)
  (hs:(s.fn H (ds++gs)).results=[.lit (.bool true)]∧(s.fn H (ds++gs)).args=ds∧(s.fn H (ds++gs)).vars=[])
  (hW:DataW.Whole enc P f.params.toList s.vars false W args.toList ds gs before) (hb:Below W.heap.size W W'):
  s.post enc P f false true false false W args (.bool true) W':=by
 have gI:=hW.lt;obtain⟨p,q,h1,h2,rfl,h3,h4⟩:=id hW;rw[Ey]at h2;obtain⟨rfl,rfl⟩:=trodVars_none h2;simp only[aB]at gI;refine⟨ds,[],p++[],[],p,[],hW,?_,?_,?_,World.keptBut_mono (fun x hx=>⟨hx,.inr (.inl (by simpa using hx))⟩) (hb.frame (·∈p++[])),fun h=>by cases h⟩
 ·rw[hs.1,fv];refine trodAll_mk1 ?_;exact⟨1,by simp[Value.cells,DataW.trod,ht]⟩
 rw[hs.2.1];exact so hl hb hp gI (fun x hx=>by simpa using gI x hx) h1;rw[hs.2.2,Ey]
 rfl
def Dz{C:Checked}{os:Os}{f:FuncId}{fn:Func}{s:ChangeSpec}{H:Type}{enc:TypeId×Value→H}{t:TypeId}
  (own:ownKnob C.prog.godebug=none) (started:os.Started) (aav:C.prog.inits.idxOf? f=none) (hfn:C.prog.funcs[f]?=some fn)
  (hl:laidOutB C.prog=true) (Ey:s.vars=[]) (fv:fn.resultTypes= #[t]) (ht:C.prog.underlying t=some .bool) (hp:∀t∈fn.params.toList,C.prog.readableRec t=true∧t<C.prog.types.size)
  (hs:∀ds:List (DataW H),ds.length=fn.params.size→(s.fn H ds).results=[.lit (.bool true)]∧(s.fn H ds).args=ds∧(s.fn H ds).vars=[])
  (witness : ∃ (w : World) (tape : Tape) (i : Input), w.os = os ∧ (w.forCall tape i).Shaped C.prog ∧ i.vars = [] ∧ Input.okWide C.prog (w.forCall tape i) .any w.heap.size f i ∧
   s.pre6 enc C.prog fn [] false (w.forCall tape i).memory i.args∧({}:Assume).holds C.prog (lone (Frame.enter C.prog f i.args .normal) [] (w.forCall tape i)))
  (h : ∀(W : World)(b : Nat)(args : Array Value)(ds : List (DataW H))(ps : List MemPlace), (∀(j : Nat) u v, fn.params.toList[j]? = some u → args[j]? = some v → Value.okWide C.prog W .any b u v) →
   DataW.TrodAll enc C.prog W 0 (fun _=>true) true fn.params.toList args.toList ds ps→∃DS,AF C.prog f DS (.own (eB true))∧gM W.heap (fun _=>True) DS args.toList):
  ReturnsInHanded {} C os f .any (s.pre6 enc C.prog fn [] false) (s.post enc C.prog fn false true false false):=by
 refine returnsInHanded_of_change own started aav hfn witness ?_;intro W base args ds gs before yQ hW _ _;obtain⟨p,q,hA,hV,_,_,_⟩:=id hW;rw[Ey]at hV;obtain⟨rfl,rfl⟩:=trodVars_none hV;obtain⟨DS,hAF,hR⟩:=h W base args ds p (fun j u v h1 h2=>yQ j u v (by simpa using h1) h2) hA;have hlen:ds.length=fn.params.size:=by
  have:∀{ts:List TypeId} {vs:List Value} {ds:List (DataW H)} {ps:List MemPlace},DataW.TrodAll enc C.prog W 0 (fun _=>true) true ts vs ds ps→ds.length=ts.length:=by
   intro ts
   induction ts with
   |nil=>intro vs ds ps h;obtain⟨rfl,rfl,rfl⟩:=trodAll_nil h;rfl
   |cons t ts ih=>
    intro vs ds ps h;obtain⟨v,vs,d,ds,p,q,rfl,rfl,rfl,h1,h2⟩:=trodAll_cons h;simp[ih h2]
  simpa using this hA
 have:=hAF.2 W args.toList (fun _=>True) hR;rw[show args.toList.toArray=args from by simp]at this;refine this.mono ?_;rintro e W' ⟨v,F,G,rfl,hb,hr,_⟩;simp only[jl,f8,eB]at hr;obtain⟨_,⟨_,hc,_⟩,hf⟩:=hr;have hv:v=.bool true:=by
  cases v<;>simp_all [Value.cells,D.fits,Value.oneCell']
 subst hv;exact⟨_,rfl,JV hl Ey fv ht hp (by simpa using hs ds hlen) hW hb⟩
end
end Go.Ax
attribute [go_sem] decide_true decide_false and_self true_and and_true false_and and_false not_true_eq_false not_false_eq_true false_implies true_implies implies_true ge_iff_le Bool.false_eq_true List.cons_append List.nil_append
attribute [go_sem_proc] Nat.reduceEqDiff Nat.reduceAdd Nat.reduceLeDiff Nat.reduceLT Nat.reduceBEq Nat.reduceBneDiff
attribute [go_sem_proc ↓] reduceIte
namespace Go.Ax
abbrev D.ze:D:=.ag [.sc (.int .i64 0),.sc (.int .i64 0),.ls (some true) 3 []]
abbrev D.zp:D:=.ag [.sc (.int .i64 0),.sc (.int .i64 0),.sc (.int .i64 0),.sc (.int .i64 0),.ls (some true) 3 [],.ls (some true) 6 []]
abbrev X.cf:X:=.c (.sc (.bool false))
abbrev X.ct:X:=.c (.sc (.bool true))
abbrev X.ci(n:Int):X:=.c (.sc (.int .i64 n))
abbrev RO.m(d s:Nat):RO:=⟨none,.mv d (.t s)⟩
abbrev RO.f(d o s:Nat):RO:=⟨none,.fa d o (.t s)⟩
abbrev RO.l(d z s:Nat):RO:=⟨none,.ld d false z (.t s)⟩
abbrev RO.L(d z s:Nat):RO:=⟨none,.ld d true z (.t s)⟩
abbrev RO.q(d s:Nat)(n:Int):RO:=⟨none,.bin d .eql (.t s) (.ci n)⟩
abbrev RO.k(d c a:Nat):RO:=⟨none,.pick d (.t c) (.t a) .cf⟩
abbrev RO.s(z a x:Nat):RO:=⟨none,.st z (.t a) (.t x)⟩
abbrev RO.n(d s:Nat):RO:=⟨none,.nck d (.t s)⟩
abbrev RO.b(d z s:Nat):RO:=⟨none,.box d z (.t s)⟩
abbrev RO.i(d z s:Nat)(n:Int):RO:=⟨none,.ia d z (.t s) (.ci n)⟩
abbrev RO.o(o:lz):RO:=⟨none,o⟩
abbrev RO.w(n:Nat)(o:lz):RO:=⟨some (n,true),o⟩
abbrev RO.u(n:Nat)(o:lz):RO:=⟨some (n,false),o⟩
abbrev RC.r(l:List RO):RC:=.gt false l
abbrev RC.s(l:List RO)(c:RC):RC:=.seq (.gt false l) c
abbrev RO.c(d f:Nat)(l:List X):RO:=⟨none,.call (some d) f l⟩
abbrev RO.v(d:Nat)(x:X):RO:=⟨none,.mv d x⟩
abbrev RO.wm(n d s:Nat):RO:=⟨some (n,true),.mv d (.t s)⟩
attribute [go_sem] D.ze D.zp X.cf X.ct X.ci RO.m RO.f RO.l RO.L RO.q RO.k RO.s RO.n RO.b RO.i RO.o RO.w RO.u RC.r RC.s RO.c RO.v RO.wm
end Go.Ax
