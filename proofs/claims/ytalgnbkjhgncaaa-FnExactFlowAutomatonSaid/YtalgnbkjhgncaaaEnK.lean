/- THE ENGINE, PART 11: a generator of conditions over the register code, and its soundness. No condition. -/
import Derived.Test.YtalgnbkjhgncaaaEnJ
set_option linter.all false
namespace Go.Ax
inductive MV where
 |va (x:Value)
 |rt
 |pt (i j:Nat)
 |sb (i j:Nat)
 |sg (i j z:Nat)
 |any
 deriving Inhabited
def qk:List (Nat×MV)→Nat→MV
 | [],_=>.any
 |(k,v)::r,t=>if k=t then v else qk r t
structure MS where
 bx:Bool
 ds:List D
 env:List (Nat×MV)
def MS.set(s:MS)(d:Nat)(v:MV):MS:=⟨s.bx,s.ds,(d,v)::s.env⟩
def JC:MV→MV
 |.sb _ _=>.any
 |.sg _ _ _=>.any
 |.pt i j=>.pt i j
 |v=>v
def kil:List (Nat×MV)→List (Nat×MV)
 | []=>[]
 |(k,v)::r=>(k,JC v)::kil r
def zf:List (Nat×MV)→List (Nat×MV)
 | []=>[]
 |(k,.va x)::r=>(k,.va x)::zf r
 |(k,.rt)::r=>(k,.rt)::zf r
 |(k,_)::r=>(k,.any)::zf r
def qc(env:List (Nat×MV)):X→MV
 |.t n=>qk env n
 |.c (.sc x)=>.va x
 |.c _=>.any
def IP(x:MV)(sl:Bool)(d:Nat)(s:MS)(k:MS→Prop):Prop:=
 match x with
 |.rt=>sl=true∧k (s.set d (.va (.int .i64 s.ds.length)))
 |_=>False
def E3(x y:MV)(op:BinOp)(d:Nat)(s:MS)(k:MS→Prop):Prop:=
 match x,y with
 |.va a,.va b=>zk op a b fun v=>k (s.set d (.va v))
 |_,_=>False
def mIa(x i:MV)(sl:Bool)(sz z d:Nat)(s:MS)(k:MS→Prop):Prop:=
 match x,i with
 |.rt,.va (.int _ n)=>(sl=true∧s.bx=true∧z=sz∧0<sz∧0≤n∧n<s.ds.length)∧k (s.set d (.pt n.toNat 0))
 |_,_=>False
def Xv(x:MV)(sz off d:Nat)(s:MS)(k:MS→Prop):Prop:=
 match x with
 |.pt i j=>j+off<sz∧k (s.set d (.pt i (j+off)))
 |_=>False
def EY(x:MV)(sl:Bool)(sz z d:Nat)(s:MS)(k:MS→Prop):Prop:=
 match x with
 |.rt=>(sl=false∧s.bx=false∧z=sz∧0<sz∧0<s.ds.length)∧k ⟨true,s.ds,(d,.pt 0 0)::zf s.env⟩
 |_=>False
def Qf(x:MV)(agg:Bool)(z d:Nat)(s:MS)(k:MS→Prop):Prop:=
 match x with
 |.pt i j=>((agg=false∧z=1)∧k (s.set d (.sb i j)))∨((agg=true∧j+z≤(D.at s.ds i).size∧(D.at s.ds i).fK=true)∧k (s.set d (.sg i j z)))
 |_=>False
def Zi(x y:MV)(sl:Bool)(sz z:Nat)(s:MS)(k:MS→Prop):Prop:=
 match x,y with
 | .pt i j, .va y => (sl = true ∧ z = 1 ∧ y.oneCell' = true ∧ (D.sub (D.at s.ds i) j 1 false).vF = true ∧ (j = 0 ∧ 1 = sz ∨ (D.at s.ds i).fK = true)) ∧
   k ⟨s.bx,s.ds.set i (D.put sz (D.at s.ds i) j 1 (.sc y)),kil s.env⟩
 |_,_=>False
def EX(x y:MV)(P:Program)(sz d f:Nat)(s:MS)(k:MS→Prop):Prop:=
 match x,y with
 | .sb i j, .va (.int .i64 n) => ∃ e' n', Cr P f (D.sub (D.at s.ds i) j 1 false) n e' n' ∧ ((D.sub (D.at s.ds i) j 1 false).fK = false ∧ (j = 0 ∧ 1 = sz ∨ (D.at s.ds i).fK = true)) ∧
   k ⟨s.bx,s.ds.set i (D.put sz (D.at s.ds i) j 1 e'),(d,.va (.int .i64 n'))::s.env⟩
 | .sg i j z, .va (.int .i64 n) => ∃ e' n', Cr P f (D.sub (D.at s.ds i) j z true) n e' n' ∧ (D.at s.ds i).fK = true ∧
   k ⟨s.bx,s.ds.set i (D.put sz (D.at s.ds i) j z e'),(d,.va (.int .i64 n'))::s.env⟩
 |_,_=>False
def T5(P:Program)(sl:Bool)(sz:Nat)(r:lz)(s:MS)(k:MS→Prop):Prop:=
 match r with
 |.mv d x=>k (s.set d (qc s.env x))
 |.len d x=>IP (qc s.env x) sl d s k
 |.bin d op x y=>E3 (qc s.env x) (qc s.env y) op d s k
 |.ia d z x i=>mIa (qc s.env x) (qc s.env i) sl sz z d s k
 |.fa d off x=>Xv (qc s.env x) sz off d s k
 |.box d z x=>EY (qc s.env x) sl sz z d s k
 |.ld d agg z x=>Qf (qc s.env x) agg z d s k
 |.st z x y=>Zi (qc s.env x) (qc s.env y) sl sz z s k
 |.Eg d f x y=>EX (qc s.env x) (qc s.env y) P sz d f s k
 |_=>False
def pd(P:Program)(sl:Bool)(sz:Nat):List RO→MS→(MS→Prop)→Prop
 | [],s,k=>k s
 |⟨none,r⟩::rest,s,k=>T5 P sl sz r s fun s=>pd P sl sz rest s k
 |⟨some _,_⟩::_,_,_=>False
def pM(s s':MS):Prop:=s'.bx=s.bx∧s'.ds=s.ds∧∀t,qk s'.env t=.any∨qk s'.env t=qk s.env t
def xD(f:MS→Prop)(K:Exit→MS→Prop)(e:Exit)(s:MS):Prop:=
 match e with
 |.normal=>f s
 |e=>K e s
def C9(id:Nat)(K:Exit→MS→Prop)(e:Exit)(s:MS):Prop:=
 match e with
 |.exit i=>if i=id then K .normal s else K (.exit i) s
 |e=>K e s
def AP(c:MV)(p q:Prop):Prop:=
 match c with
 |.va (.bool t)=>(t=true→p)∧(t=false→q)
 |_=>False
def mR(P:Program)(sl:Bool)(sz:Nat):RC→MS→(Exit→MS→Prop)→Prop
 |.skip,s,K=>K .normal s
 |.gt false ops,s,K=>pd P sl sz ops s (K .normal)
 |.seq a b,s,K=>mR P sl sz a s (xD (fun s=>mR P sl sz b s K) K)
 |.cond x a b,s,K=>AP (qc s.env x) (mR P sl sz a s K) (mR P sl sz b s K)
 |.iV id c,s,K=>mR P sl sz c s (C9 id K)
 |.loop c,s,K=>∃I:Nat→MS→Prop,(∃n s',pM s s'∧I n s')∧∀n s,I n s→mR P sl sz c s (xD (fun s'=>∃n' GF,pM s' GF∧I n' GF∧n'<n) K)
 |.exit id,s,K=>K (.exit id) s
 |.ret,s,K=>K .ret s
 |_,_,_=>False
structure Jp where
 v:Value
 F0:List Nat
 w0:World
 sz:Nat
 sl:Bool
 n:Nat
 len:Nat
structure MG where
 F:List Nat
 cs:List Value
 b:Nat
 off:Nat
 cap:Nat
 c:Array Value
 e:TypeId
def jK(X:Jp)(G:MG)(bx:Bool):MV→Value→Prop
 |.va x,y=>y=x
 |.rt,y=>y=X.v
 |.pt i j,y=>bx=true∧y=.pointer (some ⟨G.b,G.off+(i*X.sz+j),none⟩)∧i<X.len∧j<X.sz
 |.sb i j,y=>G.cs[i*X.sz+j]?=some y∧i<X.len∧j<X.sz
 |.sg i j z,y=>(∃c,y=.agg c∧c.toList=(G.cs.drop (i*X.sz+j)).take z)∧i<X.len∧j+z≤X.sz
 |.any,_=>True
structure mY (X:Jp) (s:MS) (a:Act) (w:World) (G:MG):Prop where
 mS:a.defers=[]
 tm:a.tmps.size=X.n
 os:w.os=X.w0.os
 tape:w.tape=X.w0.tape
 output:w.output=X.w0.output
 size:X.w0.heap.size≤w.heap.size
 iD:∀y,y<X.w0.heap.size→y∉X.F0→w.heap[y]?=X.w0.heap[y]?
 f0:∀y∈X.F0,y<X.w0.heap.size
 len:s.ds.length=X.len
 rep:fR w.heap s.ds G.F G.cs
 sz:∀d∈s.ds,d.size=X.sz
 nd:G.F.Nodup
 fin:∀y∈G.F,y∈X.F0∧mO w.heap y
 V4:X.sl=true→s.bx=true→X.v=.slice (some ⟨G.b,G.off,none⟩) X.len G.cap∧G.b∈X.F0∧X.len≤G.cap∧G.off+G.cap*X.sz≤G.c.size
 GT:X.sl=true→∃p cap,X.v=.slice p X.len cap
 vst:X.sl=false→X.v.cells.toList=G.cs
 iV:s.bx=true→w.heap[G.b]?=some (.cells G.c G.e (0,0))∧G.off+G.cs.length≤G.c.size∧(G.c.toList.drop G.off).take G.cs.length=G.cs∧G.b∉G.F
 K6:s.bx=true→X.sl=false→X.w0.heap.size≤G.b
 env:∀t,jK X G s.bx (qk s.env t) (a.tmps.getD t undef)
variable {P:Program}{X:Jp}
def mY.Ew{s:MS}{a:Act}{w:World}{G:MG}(h:mY X s a w G):G.cs.length=X.len*X.sz:=by
 rw[h.rep.length,D.fG h.sz,h.len]
variable {x':Ax.X}{x:Operand}
def jw{s:MS}{a:Act}{w:World}{G:MG}(h:mY X s a w G){t:TypeId}(hx:fY P t x=some x'):jK X G s.bx (qc s.env x') (a.eval x):=by
 cases x' with
 |t n=>
  have hn:x=.tmp n:=by
   unfold fY at hx
   split at hx<;>simp_all
  subst hn;have:=h.env n;simpa[qc,Act.eval]using this
 |c d=>
  cases d with
  |sc y=>
   have:=Aq (st:=⟨0,[],[]⟩) (a:=a) (h:=w.heap) (us:=[]) (g:=⟨fun _=>none,fun _=>[],fun _=>undef,fun _=>0,fun _=>False⟩) (fun t=>by simp[lk,fx]) hx;exact gU this
  |_=>simp[qc,jK]
variable {s:MS}{a:Act}{w:World}{G:MG}{o:Oper}{k:MS→Prop}{Q':Exit→Act→World→Prop}
variable {d t:Nat}{v:Value}
def tp{a:Act}(hd:d<a.tmps.size):(a.put (some d) v).tmps.getD t undef=if d=t then v else a.tmps.getD t undef:=by
 simp only[Act.put];rw[bD,bD]
 by_cases h:d=t;subst h;simp[hd]
 rw[Array.getElem?_setIfInBounds_ne h,al h]
def ace(h:mY X s a w G)(hd:d<X.n){mv:MV}(hr:jK X G s.bx mv v):mY X (s.set d mv) (a.put (some d) v) w G:=by
 have kf:d<a.tmps.size:=by rw[h.tm];exact hd
 refine⟨h.mS,by simp[Act.put,h.tm],h.os,h.tape,h.output,h.size,h.iD,h.f0,h.len,h.rep,h.sz,h.nd,h.fin,h.V4,h.GT,h.vst,h.iV,h.K6,fun t=>?_⟩;rw[tp kf];simp only[MS.set,qk]
 split;exact hr;exact h.env t
def Di(X:Jp)(k:MS→Prop)(a:Act)(w:World):Prop:=∃s G,k s∧mY X s a w G
def oT(h:mY X s a w G)(ho:o.dst=some d)(hd:d<X.n){mv:MV}(gk:(execOp a.eval o).run P w=.ok (.value v) w)(hr:jK X G s.bx mv v)(hk:k (s.set d mv)):o.wp P a w (Di X k) Q':=by
 unfold Oper.wp;rw[gk,Oper.upon_value,ho];exact⟨_,G,hk,ace h hd hr⟩
def mY.cell(h:mY X s a w G){i j:Nat}(hi:i<X.len)(hj:j<X.sz)(hw:j=0∧1=X.sz∨(D.at s.ds i).fK=true){y:Value}(hy:G.cs[i*X.sz+j]?=some y):
  ∃A B C,G.F=A++(B++C)∧f8 w.heap (D.sub (D.at s.ds i) j 1 false) B [y]∧
   ∀(h':ij)(e':D)(F':List Nat)(y':Value),(∀b∈A++C,h'[b]?=w.heap[b]?)→f8 h' e' F' [y']→∃A2 C2,(∀x,x∈A2++C2↔x∈A++C)∧(A2++C2).Nodup∧
    fR h' (s.ds.set i (D.put X.sz (D.at s.ds i) j 1 e')) (A2++(F'++C2)) (G.cs.set (i*X.sz+j) y')∧(∀d∈s.ds.set i (D.put X.sz (D.at s.ds i) j 1 e'),d.size=X.sz):=by
 have EK:i<s.ds.length:=by rw[h.len];exact hi
 have qq:=h.rep.one y (d8 hy);have hjk:f8 w.heap D.jk [] [y]:=by simp[f8,qq]
 have gI:=(bF.1 hy).1;have KX:=(bF.1 hy).2;obtain⟨A,B,C,hF,y1,y2,y3⟩:=kF h.rep hjk h.sz EK (by simp[D.size]) (by omega) hw;have hH:=y3 false (by simp) (fun _=>rfl);have e1:(G.cs.drop (i*X.sz+j)).take 1=[y]:=by
  rw[cy gI,KX];rfl
 have e2:G.cs.take (i*X.sz+j)++([y]++G.cs.drop (i*X.sz+j+1))=G.cs:=by
  rw[←KX];simp
 rw[e1]at hH;rw[e2]at y1;refine⟨A,B,C,hF,hH,fun h' e' F' y' te P9=>?_⟩;have El:∀b∈A++([]++C),h'[b]?=w.heap[b]?:=by simpa using te
 have y1':=y1.frame El;have zA:i<(s.ds.set i (D.put X.sz (D.at s.ds i) j 1 D.jk)).length:=by simpa using EK
 have nl:D.at (s.ds.set i (D.put X.sz (D.at s.ds i) j 1 D.jk)) i=D.put X.sz (D.at s.ds i) j 1 D.jk:=by
  rw[D.j7 zA];simp
 have he1:e'.size=1:=by have:=P9.length;simpa using this.symm
 have ad8:∀l,D.at s.ds i=.ag l→l.length=X.sz:=by
  intro l hl;rw[D.j7 EK]at hl;have h1:=h.sz _ (aZ EK);obtain⟨_,_,_,_,_,_,_,_,_,Pv,_⟩:=h.rep.pick EK;rw[hl]at h1 Pv;simp only[f8]at Pv;simp only[D.size,D.ja Pv.1]at h1;exact h1
 have VV:D.put X.sz (D.put X.sz (D.at s.ds i) j 1 D.jk) j 1 e'=D.put X.sz (D.at s.ds i) j 1 e':=by
  by_cases tg:j=0∧1=X.sz;simp[D.put,tg]
  have hA:=hw.resolve_left tg;cases hD:D.at s.ds i with
  |ag l=>
   have hlen:=ad8 l hD;simp only[D.put,tg,aH,D.cells];have e1:(l.take j++[D.jk]).length=j+1:=by simp;omega
   have e2:(l.take j).length=j:=by simp;omega
   rw[dd e1,bz (l.take j),bV e2]
  |_=>rw[hD]at hA;simp[D.fK]at hA
 have K8:j=0∧1=X.sz∨(D.at (s.ds.set i (D.put X.sz (D.at s.ds i) j 1 D.jk)) i).fK=true:=by
  rw[nl]
  by_cases tg:j=0∧1=X.sz;exact .inl tg
  right
  have hA:=hw.resolve_left tg;cases hD:D.at s.ds i with
  |ag l=>simp[D.put,tg,D.fK]
  |_=>rw[hD]at hA;simp[D.fK]at hA
 obtain⟨A2,B2,C2,hG,x1,x2,x3⟩:=kF y1' P9 y2 zA he1 (by omega) K8;rw[nl,VV,dy]at x1 x2;have hB2:B2=[]:=by
  have:=x3 false (by simp) (fun _=>rfl);rw[nl,e1]at this;have hjj:D.sub (D.put X.sz (D.at s.ds i) j 1 D.jk) j 1 false=D.jk:=by
   by_cases tg:j=0∧1=X.sz;simp[D.put,tg,D.sub]
   have hA:=hw.resolve_left tg;cases hD:D.at s.ds i with
   |ag l=>
    have hlen:=ad8 l hD;have e2:(l.take j).length=j:=by simp;omega
    simp only[D.put,tg,aH,D.sub,kY,D.cells,bi,bz];rw[eo (by omega),e2];simp
   |_=>rw[hD]at hA;simp[D.fK]at hA
  rw[hjj]at this;simp only[f8]at this;exact this.1
 subst hB2;have uq:G.cs.take (i*X.sz+j)++([y']++G.cs.drop (i*X.sz+j+1))=G.cs.set (i*X.sz+j) y':=by
  rw[eR,an gI];simp
 rw[uq]at x1;have yD:∀x,x∈A2++C2↔x∈A++C:=by
  intro x;have e3:A++C=A2++C2:=by simpa using hG
  rw[e3]
 refine⟨A2,C2,yD,?_,x1,x2⟩;have e3:A++C=A2++C2:=by simpa using hG
 rw[←e3];have:=h.nd;rw[hF,aT,aT]at this;exact aT.2 ⟨this.1,this.2.1.2.1,fun x hx y hy e=>this.2.2 x hx y (by simp[hy]) e⟩
def acd:∀{n:Nat} {h:ij} {F:List Nat} {cs:List Value},fR h (List.replicate n D.jk) F cs→F=[]
 |0,_,_,_,hr=>by simp only[List.replicate_zero,fR]at hr;exact hr.1
 |n+1,_,_,_,hr=>by
  simp only[dM,ig]at hr;obtain⟨F1,F2,c1,c2,rfl,rfl,h1,h2⟩:=hr;simp only[f8]at h1;rw[h1.1,acd h2];rfl
variable {z:Nat}
def mY.cells(h:mY X s a w G){i j:Nat}(hi:i<X.len)(hj:j+z≤X.sz)(hA:(D.at s.ds i).fK=true):
  ∃A B C,G.F=A++(B++C)∧f8 w.heap (D.sub (D.at s.ds i) j z true) B ((G.cs.drop (i*X.sz+j)).take z)∧
   ∀(h':ij)(e':D)(F':List Nat),(∀b∈A++C,h'[b]?=w.heap[b]?)→f8 h' e' F' ((G.cs.drop (i*X.sz+j)).take z)→∃A2 C2,(∀x,x∈A2++C2↔x∈A++C)∧(A2++C2).Nodup∧
    fR h' (s.ds.set i (D.put X.sz (D.at s.ds i) j z e')) (A2++(F'++C2)) G.cs∧(∀d∈s.ds.set i (D.put X.sz (D.at s.ds i) j z e'),d.size=X.sz):=by
 have EK:i<s.ds.length:=by rw[h.len];exact hi
 obtain⟨l,hD⟩:∃l,D.at s.ds i=.ag l:=by
  cases hD:D.at s.ds i with
  |ag l=>exact⟨l,rfl⟩
  |_=>rw[hD]at hA;simp[D.fK]at hA
 have hlen:l.length=X.sz:=by
  have hl:=hD;rw[D.j7 EK]at hl;have h1:=h.sz _ (aZ EK);obtain⟨_,_,_,_,_,_,_,_,_,Pv,_⟩:=h.rep.pick EK;rw[hl]at h1 Pv;simp only[f8]at Pv;simp only[D.size,D.ja Pv.1]at h1;exact h1
 have lh:=h.Ew;have hle:i*X.sz+X.sz≤X.len*X.sz:=by
  have:=ba X.sz (show i+1≤X.len by omega);rw[a9]at this;omega
 generalize hv:(G.cs.drop (i*X.sz+j)).take z=vc;have K7:vc.length=z:=by rw[←hv];simp;omega
 have qq:∀v∈vc,v.oneCell'=true:=fun v hm=>h.rep.one v (by rw[←hv]at hm;exact cd (bf hm));obtain⟨hjk,GO⟩:=BO w.heap z true (by simp) vc K7 qq;have hw:j=0∧z=X.sz∨(D.at s.ds i).fK=true:=.inr hA;obtain⟨A,B,C,hF,y1,y2,y3⟩:=kF h.rep hjk h.sz EK GO hj hw;have hH:=y3 true (fun _=>hA) (by simp);rw[hv]at hH;have e2:G.cs.take (i*X.sz+j)++(vc++G.cs.drop (i*X.sz+j+z))=G.cs:=by
  have e1:G.cs.drop (i*X.sz+j+z)=(G.cs.drop (i*X.sz+j)).drop z:=by rw[ch]
  rw[←hv,e1,bw,bw]
 rw[e2]at y1;refine⟨A,B,C,hF,hH,fun h' e' F' te P9=>?_⟩;have El:∀b∈A++([]++C),h'[b]?=w.heap[b]?:=by simpa using te
 have y1':=y1.frame El;have zA:i<(s.ds.set i (D.put X.sz (D.at s.ds i) j z (rZ z true))).length:=by simpa using EK
 have nl:D.at (s.ds.set i (D.put X.sz (D.at s.ds i) j z (rZ z true))) i=D.put X.sz (D.at s.ds i) j z (rZ z true):=by
  rw[D.j7 zA];simp
 have he1:e'.size=z:=by have:=P9.length;omega
 have hj1:(rZ z true).cells=List.replicate z D.jk:=rfl;have e3:(l.take j).length=j:=by simp;omega
 have e4:(l.take j++List.replicate z D.jk).length=j+z:=by simp;omega
 have UU:D.put X.sz (D.at s.ds i) j z (rZ z true)=.ag (l.take j++List.replicate z D.jk++l.drop (j+z)):=by
  rw[hD]
  by_cases tg:j=0∧z=X.sz;obtain⟨rfl,rfl⟩:=tg;simp only[D.put,cO,aK,rZ];rw[bQ (by omega)];simp;simp only[D.put,tg,aH,hj1]
 have VV:D.put X.sz (D.put X.sz (D.at s.ds i) j z (rZ z true)) j z e'=D.put X.sz (D.at s.ds i) j z e':=by
  rw[UU,hD]
  by_cases tg:j=0∧z=X.sz;simp[D.put,tg]
  simp only[D.put,tg,aH];rw[dd e4,bz (l.take j),bV e3]
 have K8:j=0∧z=X.sz∨(D.at (s.ds.set i (D.put X.sz (D.at s.ds i) j z (rZ z true))) i).fK=true:=by
  rw[nl,UU];exact .inr rfl
 obtain⟨A2,B2,C2,hG,x1,x2,x3⟩:=kF y1' P9 y2 zA he1 hj K8;rw[nl,VV,dy]at x1 x2;have hB2:B2=[]:=by
  have:=x3 true (fun _=>by rw[nl,UU];rfl) (by simp);rw[nl,UU]at this;have hjj:D.sub (.ag (l.take j++List.replicate z D.jk++l.drop (j+z))) j z true=.ag (List.replicate z D.jk):=by
   simp only[D.sub,aK];rw[bz,dd e3,bV (by simp)]
  rw[hjj]at this;simp only[f8]at this;exact acd this.2
 subst hB2;rw[e2]at x1;have e5:A++C=A2++C2:=by simpa using hG
 refine⟨A2,C2,fun x=>by rw[e5],?_,x1,x2⟩;rw[←e5];have:=h.nd;rw[hF,aT,aT]at this;exact aT.2 ⟨this.1,this.2.1.2.1,fun x hx y hy e=>this.2.2 x hx y (by simp[hy]) e⟩
def Zz{env:List (Nat×MV)}:qk (kil env) t=JC (qk env t):=by
 induction env with
 |nil=>rfl
 |cons x r ih=>
  obtain⟨k,v⟩:=x;simp only[kil,qk]
  split;rfl;exact ih
def Ub{env:List (Nat×MV)}:qk (zf env) t=qk env t∧((∃x,qk env t=.va x)∨qk env t=.rt)∨qk (zf env) t=.any:=by
 induction env with
 |nil=>right;rfl
 |cons x r ih=>
  obtain⟨k,v⟩:=x
  by_cases h:k=t
  ·cases v<;>simp[zf,qk,h]
  cases v<;>simpa[zf,qk,h]using ih
def ahj(h:mY X s a w G){t u1 u2:TypeId}{z:Nat}{p:Operand}{A Y:Ax.X}(ho:o.op=.store t p x)(hd:o.dst=none)(hp:fY P u1 p=some A)(hx:fY P u2 x=some Y)
  (hz:io P t=some z) (hq:Zi (qc s.env A) (qc s.env Y) X.sl X.sz z s k):o.wp P a w (Di X k) Q':=by
 have ep:=jw h hp;have ex:=jw h hx;unfold Zi at hq
 split at hq
 ·next i j y e1 e2=>
  obtain⟨⟨q1,rfl,q3,q4,q5⟩,hk⟩:=hq;rw[e1]at ep;rw[e2]at ex;simp only[jK]at ep ex;obtain⟨mE,hpv,hi,hj⟩:=ep;obtain⟨b1,b2,b3,b4⟩:=h.iV mE;have lh:=h.Ew;have hle:i*X.sz+X.sz≤X.len*X.sz:=by
   have:=ba X.sz (show i+1≤X.len by omega);rw[a9]at this;omega
  have gI:i*X.sz+j<G.cs.length:=by omega
  obtain⟨A1,B1,C1,hF,hH,zz⟩:=h.cell hi hj q5 (bR gI);have hB1:B1=[]:=by
   cases hD:D.sub (D.at s.ds i) j 1 false with
   |sc x=>rw[hD]at hH;simp only[f8]at hH;exact hH.1
   |_=>rw[hD]at q4;simp[D.vF]at q4
  subst hB1;have gk:=sQ (P:=P) (w:=w) hz (off:=G.off+(i*X.sz+j)) (v:=y) (by rw[fP q3];rfl) b1 (by omega) (by rw[fP q3];simpa using q3);have kJ:∀x,x≠G.b→(w.setRow G.b (G.c.toList.take (G.off+(i*X.sz+j))++y.cells.toList++G.c.toList.drop (G.off+(i*X.sz+j)+1)).toArray).heap[x]?=w.heap[x]?:=fun x hx=>co w G.b x _ hx;obtain⟨A2,C2,hm,ii,x1,x2⟩:=zz (w.setRow G.b (G.c.toList.take (G.off+(i*X.sz+j))++y.cells.toList++G.c.toList.drop (G.off+(i*X.sz+j)+1)).toArray).heap (.sc y) [] y
   (fun b hb=>kJ b (by rintro rfl;exact b4 (by rw[hF];simpa using hb))) (by simp[f8,q3])
  unfold Oper.wp;have j9:(execOp a.eval o).run P w=.ok .skip (w.setRow G.b (G.c.toList.take (G.off+(i*X.sz+j))++y.cells.toList++G.c.toList.drop (G.off+(i*X.sz+j)+1)).toArray):=by
   simp[execOp,ho,hpv,ex,gk]
  rw[j9,dE,hd];have UQ:(G.c.toList.take (G.off+(i*X.sz+j))++y.cells.toList++G.c.toList.drop (G.off+(i*X.sz+j)+1)).toArray.size=G.c.size:=by
   rw[fP q3];simp;omega
  have wO:(G.cs.set (i*X.sz+j) y).length=G.cs.length:=by simp
  have ah1:G.b∈X.F0:=(h.V4 q1 mE).2.1;refine⟨_,⟨A2++C2,G.cs.set (i*X.sz+j) y,G.b,G.off,G.cap,(G.c.toList.take (G.off+(i*X.sz+j))++y.cells.toList++G.c.toList.drop (G.off+(i*X.sz+j)+1)).toArray,G.e⟩,hk,h.mS,h.tm,h.os,h.tape,h.output,by rw[bS];exact h.size,?_,h.f0,by simp[h.len],by simpa using x1,x2,ii,?_,?_,h.GT,by simp[q1],?_,by simp[q1],?_⟩;intro x hx hn;rw[kJ x (by rintro rfl;exact hn ah1)];exact h.iD x hx hn
  ·intro x hx;have HX:x∈G.F:=by rw[hF];simpa using(hm x).1 hx
   obtain⟨z1,z2⟩:=h.fin x HX;exact⟨z1,z2.eq (kJ x (by rintro rfl;exact b4 HX))⟩
  ·intro _ _;obtain⟨z1,z2,z3,z4⟩:=h.V4 q1 mE;exact⟨z1,z2,z3,by simp only;rw[UQ];exact z4⟩
  ·intro _;refine⟨cY w G.b G.c _ G.e _ b1,by simp only;rw[UQ,wO];exact b2,?_,fun hb=>b4 (by rw[hF];simpa using(hm G.b).1 hb)⟩;simp only[wO];have e3:G.c.toList.take (G.off+(i*X.sz+j))++y.cells.toList++G.c.toList.drop (G.off+(i*X.sz+j)+1)=G.c.toList.set (G.off+(i*X.sz+j)) y:=by
    rw[fP q3,eR,an (by simp;omega)];simp
   rw[e3]
   conv=>rhs;rw[←b3]
   apply et
   intro q;simp only[dp,cJ,List.getElem?_set,bk,cK,cX]
   by_cases h1:q<G.cs.length
   ·by_cases h2:q=i*X.sz+j
    ·subst h2;have h3:G.off+(i*X.sz+j)<G.c.size:=by omega
     have h4:i*X.sz+j<min G.cs.length (G.c.size-G.off):=by omega
     simp[h1,h3,h4]
    have h3:¬(G.off+(i*X.sz+j)=G.off+q):=by omega
    have h4:¬(i*X.sz+j=q):=fun e=>h2 e.symm;simp[h1,h3,h4]
   have h4:¬(i*X.sz+j=q):=by omega
   simp[h1,h4]
  intro t;simp only[Zz];have:=h.env t
  show jK X _ s.bx _ (a.tmps.getD t undef)
  cases hm:qk s.env t with
  |sb i j=>simp[JC,jK]
  |sg i j z=>simp[JC,jK]
  |_=>rw[hm]at this;simpa[JC,jK]using this
 exact hq.elim
variable {f:Nat}
def aaJ(h:mY X s a w G){c:Call}{d:Nat}{x' y':Ax.X}(ho:o.op=.call c)(hc:c.callee=.value (.func f))(hl:c.args.size=c.argTypes.size)
  (hx:(c.args.toList.zip c.argTypes.toList).mapM (fun p=>fY P p.2 p.1)=some [x',y']) (hd:o.dst=some d) (hdn:d<X.n) (hq:EX (qc s.env x') (qc s.env y') P X.sz d f s k):o.wp P a w (Di X k) Q':=by
 have wP:∃p q,c.args.toList=[p,q]∧(∃t,fY P t p=some x')∧∃t,fY P t q=some y':=by
  have KM:c.args.toList.length=c.argTypes.toList.length:=by simpa using hl
  revert hx KM
  generalize c.args.toList=l1;generalize c.argTypes.toList=l2;intro hx KM
  match l1,l2,KM with
  | [],[],_=>simp at hx
  | [p],[t],_=>simp[cB,oB]at hx
  | [p,q],[t,u],_=>
   simp only[fb,List.zip_nil_right,cB,List.mapM_nil,oD,oB,oP,oS]at hx;obtain⟨a1,h1,r1,⟨a2,h2,r2,rfl,rfl⟩,h3⟩:=hx;simp only[bO,bm]at h3;obtain⟨rfl,rfl⟩:=h3;exact⟨p,q,rfl,⟨t,h1⟩,u,h2⟩
  |p::q::r::l,t::u::v::m,_=>
   exfalso;simp only[fb,cB,oD,oB,oP,oS]at hx;obtain⟨a1,h1,r1,⟨a2,h2,r2,⟨a3,h3,r3,h4,rfl⟩,rfl⟩,h6⟩:=hx;simp at h6
 obtain⟨p,q,hpq,⟨t1,hp⟩,t2,Er⟩:=wP;have ep:=jw h hp;have eq:=jw h Er;unfold EX at hq
 split at hq
 ·next i j n e1 e2=>
  obtain⟨e',n',⟨lh,hA⟩,⟨q1,q2⟩,hk⟩:=hq;rw[e1]at ep;rw[e2]at eq;simp only[jK]at ep eq;obtain⟨hy,hi,hj⟩:=ep;obtain⟨A,B,C,hF,hH,zz⟩:=h.cell hi hj q2 hy;have qq:=h.rep.one _ (d8 hy);have oc:Array.map a.eval c.args= #[a.eval p,.int .i64 n]:=by apply aS;simp[hpq,eq]
  have enter:(execOp a.eval o).run P w=.ok (.enter f #[a.eval p,.int .i64 n]) w:=by
   obtain⟨fn,h1,h2,h3⟩:=lh;have rX:¬fn.body=none:=by cases hb:fn.body<;>simp_all
   have um : ¬ fn.name = "runtime.NumGoroutine" := by simpa using h3
   rw[←oc];simp[execOp,ho,resolve,hc,Act.eval,Deferred.ofValue,invoke,callFunc,h1,rX,um]
  have Ps:(D.sub (D.at s.ds i) j 1 false).fits (a.eval p):=by
   cases hD:D.sub (D.at s.ds i) j 1 false with
   |ag l=>rw[hD]at q1;cases q1
   |_=>simpa[D.fits]using qq
  have ii:=h.nd;rw[hF,aT,aT]at ii;have l9:∀x∈B,x∈G.F:=fun x hx=>by rw[hF];simp[hx]
  unfold Oper.wp;rw[enter,cL];refine(hA w (a.eval p) B (by rw[fP qq];simpa using hH) Ps ii.2.1.1 (fun x hx=>(h.fin x (l9 x hx)).2)).mono ?_;rintro e3 w' ⟨rfl,o1,o2,o3,o4,o5,F',o6,o7,o8⟩;rw[fP qq]at o6;have Cm:∀x∈A++C,x∉B:=by
   intro x hx hB;rcases ax.1 hx with hx|hx
   exact ii.2.2 x hx x (by simp[hB]) rfl;exact ii.2.1.2.2 x hB x hx rfl
  have Cn:∀x∈A++C,x∈G.F:=fun x hx=>by
   rw[hF];rcases ax.1 hx with hx|hx<;>simp[hx]
  have Cp:∀x∈G.F,x<w.heap.size:=h.rep.lt;obtain⟨A2,C2,hm,td,x1,x2⟩:=zz w'.heap e' F' (a.eval p) (fun b hb=>o5 b (Cp b (Cn b hb)) (Cm b hb)) o6;have lY:G.cs.set (i*X.sz+j) (a.eval p)=G.cs:=by
   obtain⟨gI,hv⟩:=bF.1 hy;rw[←hv];simp
  rw[lY]at x1;rw[hd];have kf:d<a.tmps.size:=by rw[h.tm];exact hdn
  refine⟨_,⟨A2++(F'++C2),G.cs,G.b,G.off,G.cap,G.c,G.e⟩,hk,h.mS,by simp[Act.put,h.tm],o1.trans h.os,o2.trans h.tape,o3.trans h.output,bX h.size o4,?_,h.f0,by simp[h.len],x1,x2,?_,?_,h.V4,h.GT,h.vst,?_,h.K6,?_⟩
  ·intro x hx hn;rw[o5 x (by have:=h.size;omega) (fun hB=>hn (h.fin x (l9 x hB)).1)];exact h.iD x hx hn
  ·rw[aT]at td;refine aT.2 ⟨td.1,aT.2 ⟨o7,td.2.1,?_⟩,?_⟩
   ·rintro x hx y hy rfl;exact Cm x ((hm x).1 (by simp[hy])) (o8 x hx).1
   rintro x hx y hy rfl;rcases ax.1 hy with hy|hy
   exact Cm x ((hm x).1 (by simp[hx])) (o8 x hy).1;exact td.2.2 x hx x hy rfl
  ·intro x hx;have jv:x∈A++C∨x∈F':=by
    simp only[ax]at hx;rcases hx with hx|hx|hx
    exact .inl ((hm x).1 (by simp[hx]));exact .inr hx;exact .inl ((hm x).1 (by simp[hx]))
   rcases jv with hx|hx
   obtain⟨z1,z2⟩:=h.fin x (Cn x hx);exact⟨z1,z2.eq (o5 x (Cp x (Cn x hx)) (Cm x hx))⟩;exact⟨(h.fin x (l9 x (o8 x hx).1)).1,(o8 x hx).2⟩
  ·intro mE;obtain⟨b1,b2,b3,b4⟩:=h.iV mE;refine⟨by simp only;rw[o5 _ (bh.1 b1).1 (fun hB=>b4 (l9 _ hB))];exact b1,b2,b3,fun hb=>?_⟩;have jv:G.b∈A++C∨G.b∈F':=by
    simp only[ax]at hb;rcases hb with hx|hx|hx
    exact .inl ((hm _).1 (by simp[hx]));exact .inr hx;exact .inl ((hm _).1 (by simp[hx]))
   exact jv.elim (fun hx=>b4 (Cn _ hx)) (fun hx=>b4 (l9 _ (o8 _ hx).1))
  intro t;rw[tp kf];simp only[qk]
  split;simp[jK];exact h.env t
 ·next i j z n e1 e2=>
  obtain⟨e',n',⟨lh,hA⟩,q2,hk⟩:=hq;rw[e1]at ep;rw[e2]at eq;simp only[jK]at ep eq;obtain⟨⟨cv,hv,Pa⟩,hi,hj⟩:=ep;obtain⟨A,B,C,hF,hH,zz⟩:=h.cells hi hj q2;have oc:Array.map a.eval c.args= #[a.eval p,.int .i64 n]:=by apply aS;simp[hpq,eq]
  have enter:(execOp a.eval o).run P w=.ok (.enter f #[a.eval p,.int .i64 n]) w:=by
   obtain⟨fn,h1,h2,h3⟩:=lh;have rX:¬fn.body=none:=by cases hb:fn.body<;>simp_all
   have um : ¬ fn.name = "runtime.NumGoroutine" := by simpa using h3
   rw[←oc];simp[execOp,ho,resolve,hc,Act.eval,Deferred.ofValue,invoke,callFunc,h1,rX,um]
  have Ps:(D.sub (D.at s.ds i) j z true).fits (a.eval p):=by
   cases hD:D.at s.ds i with
   |ag l=>exact⟨cv,hv⟩
   |_=>rw[hD]at q2;simp[D.fK]at q2
  have VN:(a.eval p).cells.toList=(G.cs.drop (i*X.sz+j)).take z:=by rw[hv];exact Pa
  have ii:=h.nd;rw[hF,aT,aT]at ii;have l9:∀x∈B,x∈G.F:=fun x hx=>by rw[hF];simp[hx]
  unfold Oper.wp;rw[enter,cL];refine(hA w (a.eval p) B (by rw[VN];exact hH) Ps ii.2.1.1 (fun x hx=>(h.fin x (l9 x hx)).2)).mono ?_;rintro e3 w' ⟨rfl,o1,o2,o3,o4,o5,F',o6,o7,o8⟩;rw[VN]at o6;have Cm:∀x∈A++C,x∉B:=by
   intro x hx hB;rcases ax.1 hx with hx|hx
   exact ii.2.2 x hx x (by simp[hB]) rfl;exact ii.2.1.2.2 x hB x hx rfl
  have Cn:∀x∈A++C,x∈G.F:=fun x hx=>by
   rw[hF];rcases ax.1 hx with hx|hx<;>simp[hx]
  have Cp:∀x∈G.F,x<w.heap.size:=h.rep.lt;obtain⟨A2,C2,hm,td,x1,x2⟩:=zz w'.heap e' F' (fun b hb=>o5 b (Cp b (Cn b hb)) (Cm b hb)) o6;rw[hd];have kf:d<a.tmps.size:=by rw[h.tm];exact hdn
  refine⟨_,⟨A2++(F'++C2),G.cs,G.b,G.off,G.cap,G.c,G.e⟩,hk,h.mS,by simp[Act.put,h.tm],o1.trans h.os,o2.trans h.tape,o3.trans h.output,bX h.size o4,?_,h.f0,by simp[h.len],x1,x2,?_,?_,h.V4,h.GT,h.vst,?_,h.K6,?_⟩
  ·intro x hx hn;rw[o5 x (by have:=h.size;omega) (fun hB=>hn (h.fin x (l9 x hB)).1)];exact h.iD x hx hn
  ·rw[aT]at td;refine aT.2 ⟨td.1,aT.2 ⟨o7,td.2.1,?_⟩,?_⟩
   ·rintro x hx y hy rfl;exact Cm x ((hm x).1 (by simp[hy])) (o8 x hx).1
   rintro x hx y hy rfl;rcases ax.1 hy with hy|hy
   exact Cm x ((hm x).1 (by simp[hx])) (o8 x hy).1;exact td.2.2 x hx x hy rfl
  ·intro x hx;have jv:x∈A++C∨x∈F':=by
    simp only[ax]at hx;rcases hx with hx|hx|hx
    exact .inl ((hm x).1 (by simp[hx]));exact .inr hx;exact .inl ((hm x).1 (by simp[hx]))
   rcases jv with hx|hx
   obtain⟨z1,z2⟩:=h.fin x (Cn x hx);exact⟨z1,z2.eq (o5 x (Cp x (Cn x hx)) (Cm x hx))⟩;exact⟨(h.fin x (l9 x (o8 x hx).1)).1,(o8 x hx).2⟩
  ·intro mE;obtain⟨b1,b2,b3,b4⟩:=h.iV mE;refine⟨by simp only;rw[o5 _ (bh.1 b1).1 (fun hB=>b4 (l9 _ hB))];exact b1,b2,b3,fun hb=>?_⟩;have jv:G.b∈A++C∨G.b∈F':=by
    simp only[ax]at hb;rcases hb with hx|hx|hx
    exact .inl ((hm _).1 (by simp[hx]));exact .inr hx;exact .inl ((hm _).1 (by simp[hx]))
   exact jv.elim (fun hx=>b4 (Cn _ hx)) (fun hx=>b4 (l9 _ (o8 _ hx).1))
  intro t;rw[tp kf];simp only[qk]
  split;simp[jK];exact h.env t
 exact hq.elim
def aaK(h:mY X s a w G){e u1:TypeId}{z:Nat}(ho:o.op=.box e x)(hx:fY P u1 x=some x')(hd:o.dst=some d)(hdn:d<X.n)
  (hq:EY (qc s.env x') X.sl X.sz z d s k):o.wp P a w (Di X k) Q':=by
 have ex:=jw h hx;unfold EY at hq
 split at hq
 ·next e1=>
  rw[e1]at ex;simp only[jK]at ex;obtain⟨⟨q1,q2,q3,q4,q5⟩,hk⟩:=hq;have gk:(execOp a.eval o).run P w=.ok (.value (.pointer (some ⟨w.heap.size,0,none⟩))) {w with heap:=w.heap.push (.cells X.v.cells e (0,0))}:=by
   simp[execOp,ho,ex,Instr.box,newVar,newRow]
  unfold Oper.wp;rw[gk,Oper.upon_value,hd];have kf:d<a.tmps.size:=by rw[h.tm];exact hdn
  have hold:∀y,y<w.heap.size→(w.heap.push (.cells X.v.cells e (0,0)))[y]?=w.heap[y]?:=fun y hy=>by rw[dX,al (by omega)]
  have uB:=h.vst q1;have Cp:∀x∈G.F,x<w.heap.size:=h.rep.lt;have hcsl:X.v.cells.size=G.cs.length:=by rw[←uB];simp
  refine⟨_,⟨G.F,G.cs,w.heap.size,0,G.cap,X.v.cells,e⟩,hk,h.mS,by simp[Act.put,h.tm],h.os,h.tape,h.output,by have:=h.size;simp;omega,?_,h.f0,h.len,h.rep.frame fun y hy=>hold y (Cp y hy),h.sz,h.nd,?_,by simp[q1],h.GT,h.vst,?_,?_,?_⟩;intro y hy hn;simp only;rw[hold y (by have:=h.size;omega)];exact h.iD y hy hn;intro y hy;obtain⟨z1,z2⟩:=h.fin y hy;exact⟨z1,z2.eq (hold y (Cp y hy))⟩
  ·intro _;refine⟨by simp,by simp only;omega,?_,fun hb=>cu _ (Cp _ hb)⟩;simp only[az];rw[bZ (by rw[←uB];exact aU _)];exact uB
  intro _ _;exact h.size;intro t;rw[tp kf];simp only[qk]
  split
  ·simp only[jK];have:=h.len;exact⟨trivial,by simp,by omega,q4⟩
  rcases Ub (env:=s.env) (t:=t)with⟨h1,h2⟩|h1
  ·rw[h1];have:=h.env t;rcases h2 with⟨x,h2⟩|h2<;>rw[h2]at this⊢<;>simpa[jK]using this
  rw[h1];simp[jK]
 exact hq.elim
def agr{n:Nat}{r:lz}(fv:oI P .no n o=some r)(oO:∀d,o.dst=some d→d<X.n)(h:mY X s a w G)(hq:T5 P X.sl X.sz r s k):o.wp P a w (Di X k) Q':=by
 unfold oI at fv
 split at fv
 ·next x ho=>
  simp only[oD,oB,oP,oS,fw]at fv;obtain⟨d,hd,_,_,X',hX,rfl⟩:=fv;exact oT h hd (oO _ hd) (by simp[execOp,ho]) (jw h hX) hq
 ·next x ho=>
  simp only[oD,oB,oP,oS,fw]at fv;obtain⟨d,hd,_,_,X',hX,rfl⟩:=fv;exact oT h hd (oO _ hd) (by simp[execOp,ho]) (jw h hX) hq
 ·next c x y ho=>
  simp only[oD,oB,oP,oS,fw]at fv;obtain⟨d,hd,_,_,C,hC,X,hX,Y,hY,rfl⟩:=fv;exact hq.elim
 ·next e x ho=>
  simp only[oD,oB,oP,oS,fw]at fv;obtain⟨d,hd,_,_,s',hs,X',hX,rfl⟩:=fv;exact aaK h ho hX hd (oO _ hd) hq
 ·next e ho=>
  simp only[oD,oB,fw]at fv;obtain⟨d,hd,_,_,fv⟩:=fv;unfold sa at fv
  split at fv
  ·injection fv with fv;subst fv;exact hq.elim
  simp only[oD,oB,oP,oS]at fv;obtain⟨s,hs,z,hz,rfl⟩:=fv;exact hq.elim
 ·next t x ho=>
  simp only[oD,oB,oP,oS,fw]at fv;obtain⟨d,hd,_,_,s',hs,ag,s8,_,h1,X',hX,rfl⟩:=fv;have ex:=jw h hX;simp only[T5]at hq;unfold Qf at hq
  split at hq
  ·next i j e1=>
   rcases hq with⟨⟨rfl,rfl⟩,hk⟩|⟨⟨rfl,Pl,hz2⟩,hk⟩
   ·skip
    rw[e1]at ex;simp only[jK]at ex;obtain⟨mE,hpv,hi,hj⟩:=ex;obtain⟨b1,b2,b3,b4⟩:=h.iV mE;have lh:=h.Ew;have hle:i*X.sz+X.sz≤X.len*X.sz:=by
     have:=ba X.sz (show i+1≤X.len by omega);rw[a9]at this;omega
    have gI:i*X.sz+j<G.cs.length:=by omega
    have mg:w.cell? ⟨G.b,G.off+(i*X.sz+j),none⟩=some G.cs[i*X.sz+j]:=by
     rw[rG b1];have h2:G.cs[i*X.sz+j]?=some G.cs[i*X.sz+j]:=bR gI
     conv at h2=>lhs;rw[←b3]
     rw[dr gI,cJ]at h2;rw[←cr];exact h2
    obtain⟨v,v1,v2,v3,v4⟩:=vg (P:=P) (w:=w) (b:=G.b) (off:=G.off+(i*X.sz+j)) (cs:=[G.cs[i*X.sz+j]]) hs s8 rfl (fun i' v hv=>by
     cases i' with
     |zero=>simp only[fg,oS]at hv;subst hv;exact mg
     |succ n=>simp at hv) (fun _=>rfl)
    have hv:=v4 rfl;simp only[bO,bm]at hv;refine oT h hd (oO _ hd) (v:=v) (by simp[execOp,ho,hpv,v1]) ?_ hk;simp only[jK];exact⟨by rw[←hv];exact bR gI,hi,hj⟩
   rw[e1]at ex;simp only[jK]at ex;obtain⟨mE,hpv,hi,hj⟩:=ex;obtain⟨b1,b2,b3,b4⟩:=h.iV mE;have lh:=h.Ew;have hle:i*X.sz+X.sz≤X.len*X.sz:=by
    have:=ba X.sz (show i+1≤X.len by omega);rw[a9]at this;omega
   have EK:i<s.ds.length:=by rw[h.len];exact hi
   have hzz:j+s'≤X.sz:=by
    rw[D.j7 EK,h.sz _ (aZ EK)]at Pl;exact Pl
   obtain⟨v,v1,v2,v3,v4⟩:=vg (P:=P) (w:=w) (b:=G.b) (off:=G.off+(i*X.sz+j)) (cs:=(G.cs.drop (i*X.sz+j)).take s') hs s8 (by simp;omega) (fun i' v hv=>by
    rw[dp]at hv
    split at hv
    ·next zu=>
     rw[cJ]at hv;have gI:i*X.sz+j+i'<G.cs.length:=by omega
     rw[show G.off+(i*X.sz+j)+i'=G.off+(i*X.sz+j+i')by omega,rG b1];have h2:=hv
     conv at h2=>lhs;rw[←b3]
     rw[dr gI,cJ]at h2;rw[←cr];exact h2
    cases hv) (fun hf=>by cases hf)
   refine oT h hd (oO _ hd) (v:=v) (by simp[execOp,ho,hpv,v1]) ?_ hk;simp only[jK];exact⟨⟨_,v3 rfl,by simp⟩,hi,hzz⟩
  exact hq.elim
 ·next t p x ho=>
  simp only[oD,oB,oP,oS,fw]at fv;obtain⟨_,hd,s,hs,A,hA,X,hX,rfl⟩:=fv;exact ahj h ho (by simpa using hd) hA hX hs hq
 ·next x ho=>
  simp only[oD,oB,oP,oS,fw]at fv;obtain⟨d,hd,_,_,X,hX,rfl⟩:=fv;exact hq.elim
 ·next op t x y u ho=>
  simp only[oD,oB,oP,fw]at fv;obtain⟨d,hd,_,_,fv⟩:=fv
  split at fv<;>(try simp only[oB,oS]at fv)
  ·obtain⟨X',hX,Y,hY,rfl⟩:=fv;have ex:=jw h hX;have ey:=jw h hY;simp only[T5]at hq;unfold E3 at hq
   split at hq
   ·next p q e1 e2=>
    rw[e1]at ex;rw[e2]at ey;simp only[jK]at ex ey;obtain⟨v,hr,hk,h1⟩:=xr (P:=P) (t:=t) hq w;have hp:p.oneCell'=true∧p≠.nilIface:=by
     unfold zk at hq
     split at hq<;>simp_all [Value.oneCell']
    refine oT h hd (oO _ hd) (v:=v) ?_ (by simp[jK]) hk;simp[execOp,ho,ex,ey,mK hp.1 hp.2,hr]
   exact hq.elim
  ·obtain⟨X',hX,Y,hY,rfl⟩:=fv;have ex:=jw h hX;have ey:=jw h hY;simp only[T5]at hq;unfold E3 at hq
   split at hq
   ·next p q e1 e2=>
    rw[e1]at ex;rw[e2]at ey;simp only[jK]at ex ey;obtain⟨v,hr,hk,h1⟩:=xr (P:=P) (t:=t) hq w;have hp:p.oneCell'=true∧p≠.nilIface:=by
     unfold zk at hq
     split at hq<;>simp_all [Value.oneCell']
    refine oT h hd (oO _ hd) (v:=v) ?_ (by simp[jK]) hk;simp[execOp,ho,ex,ey,mK hp.1 hp.2,hr]
   exact hq.elim
  ·next ht _ _=>obtain⟨X,hX,Y,hY,rfl⟩:=fv;exact hq.elim
  obtain⟨X,hX,Y,hY,rfl⟩:=fv;exact hq.elim;obtain⟨X,hX,Y,hY,rfl⟩:=fv;exact hq.elim;obtain⟨X,hX,Y,hY,rfl⟩:=fv;exact hq.elim
  ·split at fv<;>(try simp only[oB,oS]at fv)
   obtain⟨X,hX,Y,hY,rfl⟩:=fv;exact hq.elim;subst fv;exact hq.elim
  ·split at fv<;>(try simp only[oB,oS]at fv)
   obtain⟨X,hX,Y,hY,rfl⟩:=fv;exact hq.elim;subst fv;exact hq.elim
  subst fv;exact hq.elim
 ·next op t x ho=>
  simp only[oD,oB,oP,oS,fw]at fv;obtain⟨d,hd,_,_,X,hX,rfl⟩:=fv;exact hq.elim
 ·next s t x ho=>
  simp only[oD,oB,oP,fw]at fv;obtain⟨d,hd,_,_,fv⟩:=fv
  split at fv<;>(try simp only[oB,oS]at fv);obtain⟨X,hX,rfl⟩:=fv;exact hq.elim
  ·split at fv<;>simp only[oB,oS]at fv
   obtain⟨X,hX,rfl⟩:=fv;exact hq.elim;subst fv;exact hq.elim
  subst fv;exact hq.elim
 ·next t l c ho=>
  simp only[oD,oB,oP,oS,fw]at fv;obtain⟨d,hd,_,_,e,he,i,hi,z,hz,L,hL,C,hC,rfl⟩:=fv;have ht:P.underlying t=some (.slice e):=by
   unfold pN at he
   split at he
   ·next e' h'=>injection he with he;subst he;exact h'
   cases he
  exact hq.elim
 ·next t x lo hi ho=>
  simp only[oD,oB,oP,fw]at fv;obtain⟨d,hd,_,_,Lo,wz,Hi,Ci,fv⟩:=fv;have l1:∀y,lo=some y→∃Y,Lo=some Y∧fY P 0 y=some Y:=by
   rintro y rfl;simp only[cF]at wz;obtain⟨Y,h1,rfl⟩:=wz;exact⟨Y,rfl,h1⟩
  have l2:lo=none→Lo=none:=by rintro rfl;simpa using wz.symm
  have l3:∀y,hi=some y→∃Y,Hi=some Y∧fY P 0 y=some Y:=by
   rintro y rfl;simp only[cF]at Ci;obtain⟨Y,h1,rfl⟩:=Ci;exact⟨Y,rfl,h1⟩
  have l4:hi=none→Hi=none:=by rintro rfl;simpa using Ci.symm
  split at fv<;>simp only[oB,oS]at fv;obtain⟨s,hs,X,hX,rfl⟩:=fv;exact hq.elim;obtain⟨X,hX,rfl⟩:=fv;exact hq.elim;subst fv;exact hq.elim
 ·next t x lo hi mx ho=>
  simp only[oD,oB,oP,fw]at fv;obtain⟨d,hd,_,_,fv⟩:=fv
  split at fv
  ·next e ht=>
   split at fv;simp only[oB,oS]at fv;obtain⟨s,hs,X,hX,rfl⟩:=fv;exact hq.elim;simp only[oS]at fv;subst fv;exact hq.elim
  simp only[oS]at fv;subst fv;exact hq.elim
 ·next fn first captured ho=>
  simp only[oD,oB,oP,fw]at fv;obtain⟨d,hd,_,_,fv⟩:=fv
  split at fv
  ·next f hf=>
   simp only[oB,oS]at fv;obtain⟨Xs,uC,rfl⟩:=fv;exact hq.elim
  simp only[oS]at fv;subst fv;exact hq.elim
 ·next t x i ho=>
  simp only[oD,oB,oP,fw]at fv;obtain⟨d,hd,_,_,fv⟩:=fv
  split at fv
  ·next fs ht=>
   simp only[oB,oS,fw]at fv;obtain⟨f,hf,z,hz,_,Ej,X',hX,rfl⟩:=fv;have ex:=jw h hX;have gk:∀(b p:Nat)(w':World),a.eval x=.pointer (some ⟨b,p,none⟩)→(execOp a.eval o).run P w'=.ok (.value (.pointer (some ⟨b,p+f.offset,none⟩))) w':=by
    intro b p w' hv;have Ej:z≠0:=by simpa using Ej
    simp[execOp,ho,hv,Instr.fieldAt,aW ht,hf,Instr.sureAddr,fieldPlace,lW hz,Ej,lm]
   simp only[T5]at hq;unfold Xv at hq
   split at hq
   ·next i j e1=>
    rw[e1]at ex;simp only[jK]at ex;refine oT h hd (oO _ hd) (gk _ _ w ex.2.1) ?_ hq.2;simp only[jK];exact⟨ex.1,by congr 3;omega,ex.2.2.1,hq.1⟩
   exact hq.elim
  cases fv
 ·next t x i ho=>
  simp only[oD,oB,oP,fw]at fv;obtain⟨d,hd,_,_,fv⟩:=fv
  split at fv
  ·next fs ht=>
   simp only[oB,oS,fw]at fv;obtain⟨f,hf,s,hs,ag,s8,_,h1,X,hX,rfl⟩:=fv;exact hq.elim
  cases fv
 ·next t x i ho=>
  simp only[oD,oB,oP,fw]at fv;obtain⟨d,hd,_,_,fv⟩:=fv
  split at fv
  ·next e ht=>
   simp only[oB,oS]at fv;obtain⟨s',hs,X',hX,I,hI,rfl⟩:=fv;have ex:=jw h hX;have ei:=jw h hI;simp only[T5]at hq;unfold mIa at hq
   split at hq
   ·next kd n e1 e2=>
    obtain⟨⟨q1,q2,rfl,q3,q4,q5⟩,hk⟩:=hq;rw[e1]at ex;rw[e2]at ei;simp only[jK]at ex ei;obtain⟨z1,_⟩:=h.V4 q1 q2;have hlen:=h.len;have:=jT (P:=P) ht hs (b:=G.b) (off:=G.off) (len:=X.len) (cap:=G.cap) (kd:=kd) (n:=n) q4 (by omega) w;refine oT h hd (oO _ hd) (v:=.pointer (some ⟨G.b,G.off+n.toNat*X.sz,none⟩)) (by simp[execOp,ho,ei,ex,z1,this]) ?_ hk;simp only[jK];exact⟨q2,by simp,by omega,q3⟩
   exact hq.elim
  ·next n' e ht=>
   split at fv
   ·next kz zB=>
    split at fv
    ·next gI=>
     simp only[oB,oS,fw]at fv;obtain⟨s',hs,_,_,X',hX,rfl⟩:=fv;have ex:=jw h hX;have hiv:a.eval i=.int .i64 kz:=by
      unfold sX at zB
      split at zB
      ·split at zB
       ·next h0=>injection zB with zB;subst zB;simp[Act.eval];omega
       cases zB
      cases zB
     have gk:∀(b p:Nat)(w':World),a.eval x=.pointer (some ⟨b,p,none⟩)→(execOp a.eval o).run P w'=.ok (.value (.pointer (some ⟨b,p+kz*s',none⟩))) w':=by
      intro b p w' hv;simp[execOp,ho,hv,hiv,Instr.indexAt,asIntOf,aW ht,Instr.sureAddr,pc hs,lm,gI]
     simp only[T5]at hq;unfold Xv at hq
     split at hq
     ·next i j e1=>
      rw[e1]at ex;simp only[jK]at ex;refine oT h hd (oO _ hd) (gk _ _ w ex.2.1) ?_ hq.2;simp only[jK];exact⟨ex.1,by congr 3;omega,ex.2.2.1,hq.1⟩
     exact hq.elim
    simp only[oS]at fv;subst fv;exact hq.elim
   simp only[oS]at fv;subst fv;exact hq.elim
  simp only[oS]at fv;subst fv;exact hq.elim
 ·next t x i ho=>
  simp only[oD,oB,oP,fw]at fv;obtain⟨d,hd,_,_,fv⟩:=fv
  split at fv
  ·next ht=>
   simp only[oB,oS]at fv;obtain⟨X,hX,I,hI,rfl⟩:=fv;exact hq.elim
  simp only[oS]at fv;subst fv;exact hq.elim
 ·next x i ho=>
  simp only[oD,oB,oP,oS,fw]at fv;obtain⟨d,hd,_,_,X,hX,rfl⟩:=fv;exact hq.elim
 ·next t l ps ho=>
  simp only[oD,oB,oP,oS,fw]at fv;obtain⟨d,hd,_,_,e,he,s,hs,z,hz,L,hL,rfl⟩:=fv;exact hq.elim
 ·next t ps ho=>
  simp only[oD,oB,oP,fw]at fv;obtain⟨d,hd,_,_,fv⟩:=fv
  split at fv
  ·next fs ht=>
   simp only[oB,oS]at fv;obtain⟨_,_,z,hz,L,hL,rfl⟩:=fv;exact hq.elim
  simp only[oB,oS,fw]at fv;obtain⟨s,hs,_,_,z,hz,L,hL,rfl⟩:=fv;exact hq.elim;simp only[oS]at fv;subst fv;exact hq.elim
 ·next t ho=>
  simp only[oD,oB,oP,fw]at fv;obtain⟨d,hd,_,_,fv⟩:=fv
  split at fv;simp only[oS]at fv;subst fv;exact hq.elim;simp only[oS]at fv;subst fv;exact hq.elim
 ·next t x i ok ho=>
  simp only[oD,oB,oP,fw]at fv;obtain⟨d,hd,_,_,fv⟩:=fv
  split at fv
  ·split at fv
   simp only[oB,oS]at fv;obtain⟨X,hX,I,hI,rfl⟩:=fv;exact hq.elim;simp only[oS]at fv;subst fv;exact hq.elim
  simp only[oS]at fv;subst fv;exact hq.elim
 ·next t m k v ho=>
  simp only[oD,oB,oP,fw]at fv;obtain⟨_,hd,fv⟩:=fv
  split at fv
  ·split at fv
   simp only[oB,oS]at fv;obtain⟨M,hM,X,hX,Y,hY,rfl⟩:=fv;exact hq.elim;simp only[oS]at fv;subst fv;exact hq.elim
  simp only[oS]at fv;subst fv;exact hq.elim
 ·next t m k v ho=>
  simp only[oD,oB,oP,fw]at fv;obtain⟨_,hd,fv⟩:=fv
  split at fv
  ·split at fv
   simp only[oB,oS]at fv;obtain⟨M,hM,X,hX,Y,hY,rfl⟩:=fv;exact hq.elim;simp only[oS]at fv;subst fv;exact hq.elim
  simp only[oS]at fv;subst fv;exact hq.elim
 ·next c ho=>
  split at fv
  ·next f hc=>
   simp only[oD,oB,fw]at fv;obtain⟨_,_,_,hl,Xs,uC,fv⟩:=fv
   split at fv
   ·split at fv
    ·next d x y hd=>
     simp only[oP,oS]at fv;subst fv;exact aaJ h ho hc (by simpa using hl) uC hd (oO _ hd) hq
    cases fv
   split at fv
   ·split at fv
    simp only[oP,oS]at fv;subst fv;exact hq.elim;cases fv
   split at fv
   ·split at fv
    simp only[oP,oS]at fv;subst fv;exact hq.elim;cases fv
   split at fv
   ·split at fv
    simp only[oP,oS]at fv;subst fv;exact hq.elim;cases fv
   split at fv;simp only[oP,oS]at fv;subst fv;exact hq.elim;simp only[oP,oS]at fv;subst fv;exact hq.elim
  ·next x _ hc=>
   simp only[oD,oB,oP,oS,fw]at fv;obtain⟨_,_,_,hl,X,hX,Xs,uC,rfl⟩:=fv;exact hq.elim
  ·next hc=>
   simp only[oD,oB,fw]at fv;obtain⟨d,hd,_,_,fv⟩:=fv
   split at fv
   ·next x t ha nA=>
    have ri:c.args= #[x]:=by apply aS;simpa using ha
    have og:c.argTypes= #[t]:=by apply aS;simpa using nA
    split at fv<;>simp only[oB,oP,oS]at fv;obtain⟨X',hX,rfl⟩:=fv;exact hq.elim
    ·obtain⟨X',hX,rfl⟩:=fv;have ex:=jw h hX;simp only[T5]at hq;unfold IP at hq
     split at hq
     ·next e1=>
      rw[e1]at ex;simp only[jK]at ex;obtain⟨p,cap,hv⟩:=h.GT hq.1;have w9:a.eval x=.slice p X.len cap:=by rw[ex,hv]
      rename_i e' _ _ hund _
      refine oT h hd (oO _ hd) (v:=.int .i64 s.ds.length) ?_ (by simp[jK]) hq.2;rw[h.len];simp[execOp,ho,resolve,hc,ri,og,w9,invoke,builtin,Builtin.len_,aW (by assumption),goInt]
     exact hq.elim
    obtain⟨X',hX,rfl⟩:=fv;exact hq.elim;subst fv;exact hq.elim
   cases fv
  ·next hc=>
   simp only[oD,oB,fw]at fv;obtain⟨d,hd,_,_,fv⟩:=fv
   split at fv
   ·next x y t u ha nA=>
    simp only[oB,oP,oS]at fv;obtain⟨X,hX,Y,hY,rfl⟩:=fv;exact hq.elim
   cases fv
  ·next hc=>
   simp only[oD,oB,fw]at fv;obtain⟨d,hd,_,_,fv⟩:=fv
   split at fv
   ·next x y t u ha nA=>
    simp only[oB,oP,oS]at fv;obtain⟨X,hX,Y,hY,rfl⟩:=fv;exact hq.elim
   cases fv
  ·next hc=>
   simp only[oD,oB,fw]at fv;obtain⟨d,hd,_,_,fv⟩:=fv
   split at fv
   ·next s x t u ha nA=>
    have ri:c.args= #[s,x]:=by apply aS;simpa using ha
    have og:c.argTypes= #[t,u]:=by apply aS;simpa using nA
    split at fv<;>simp only[oB,oP,oS,fw]at fv
    ·obtain⟨i,hi,_,A0,z,hz,X,hX,Y,hY,rfl⟩:=fv;have A0:t=u:=by simpa using A0
     subst A0;exact hq.elim
    subst fv;exact hq.elim
   cases fv
  ·next hc=>
   simp only[oD,oB,fw]at fv;obtain⟨_,_,fv⟩:=fv
   split at fv
   ·split at fv<;>simp only[oB,oP,oS,fw]at fv
    obtain⟨s,hs,_,A0,X,hX,Y,hY,rfl⟩:=fv;exact hq.elim;subst fv;exact hq.elim
   cases fv
  simp only[oP,oS]at fv;subst fv;exact hq.elim
 simp only[oP,oS]at fv;subst fv;exact hq.elim
def Gy(X:Jp)(K:Exit→MS→Prop)(e:Exit)(a:Act)(w:World):Prop:=∃s G,K e s∧mY X s a w G
def yj{ops:Array Oper}{K:MS→Prop}:∀(l:List Oper)(R:List RO)(i:Nat)(s:MS)(a:Act)(w:World)(G:MG),(∀j,l[j]?=ops[i+j]?)→l.mapM (iO P .no X.n ops)=some R→mY X s a w G→
  pd P X.sl X.sz R s K→wpOps P ops (Gy X (fun e s=>e=.normal∧K s)) (List.range' i l.length) a w
 | [],R,i,s,a,w,G,_,hR,hs,hq=>by
  simp at hR;subst hR;exact⟨s,G,⟨rfl,hq⟩,hs⟩
 |o::l,R,i,s,a,w,G,hl,hR,hs,hq=>by
  simp only[cB,oD,oB,oP,oS]at hR;obtain⟨r,hr,R',hR',rfl⟩:=hR;have h0:ops[i]?=some o:=by simpa using(hl 0).symm
  have KM:∀j,l[j]?=ops[i+1+j]?:=fun j=>by have:=hl (j+1);simpa[bW,dY 1 j]using this
  simp only[lK,fh,wpOps,h0];unfold iO at hr;simp only[oD,oB,fw]at hr;obtain⟨op,wR,_,h1,_,h2,hr⟩:=hr;have oO:∀d,o.dst=some d→d<X.n:=by
   intro d hd;rw[hd]at h2;simpa using h2
  split at hr
  ·next hg=>
   simp only[oP,oS]at hr;subst hr;simp only[pd]at hq;have hw:Region.wanted o (yielded ops a.tmps)=true:=by simp[Region.wanted,hg]
   simp only[hw,aK];refine .inl (cZ ?_ (agr wR oO hs hq));rintro a' w' ⟨s',G',hk,nB⟩;exact yj l R' (i+1) s' a' w' G' KM hR' nB hk
  simp only[oB,oP,oS]at hr;obtain⟨_,_,_,_,rfl⟩:=hr;simp only[pd]at hq
def DN{s s':MS}{a:Act}{w:World}{G:MG}(he:pM s s')(h:mY X s a w G):mY X s' a w G:=by
 obtain⟨bx,ds,env⟩:=s';obtain⟨e1,e2,e3⟩:=he;simp only at e1 e2 e3;subst e1 e2;refine⟨h.mS,h.tm,h.os,h.tape,h.output,h.size,h.iD,h.f0,h.len,h.rep,h.sz,h.nd,h.fin,h.V4,h.GT,h.vst,h.iV,h.K6,fun t=>?_⟩;simp only;rcases e3 t with h1|h1
 rw[h1];simp[jK];rw[h1];exact h.env t
def Lr:∀(c:Code)(rc:RC)(s:MS)(K:Exit→MS→Prop)(a:Act)(w:World)(G:MG),ma P .no X.n c=some rc→mY X s a w G→mR P X.sl X.sz rc s K→c.wp P (Gy X K) a w:=by
 intro c
 induction c with
 |skip=>
  intro rc s K a w G hr hs hq;simp only[ma,oS]at hr;subst hr;exact wp_skip ⟨s,G,hq,hs⟩
 |region id ops draw=>
  intro rc s K a w G hr hs hq;simp only[ma,oD,oB]at hr;obtain⟨R,hR,hr⟩:=hr
  split at hr
  ·simp only[oP,oS]at hr;subst hr;cases draw with
   |true=>exact hq.elim
   |false=>
    simp only[mR]at hq;refine cG (Q:=Gy X (fun e s=>e=.normal∧K .normal s)) (wp_region ?_) ?_;have:=yj (P:=P) (ops:=ops) (K:=K .normal) ops.toList R 0 s a w G (by simp) hR hs hq;simpa[eW]using this;rintro e a' w' ⟨s',G',⟨rfl,hk⟩,nB⟩;exact⟨s',G',hk,nB⟩
  split at hr
  ·simp only[oP,oS]at hr;subst hr;cases draw with
   |true=>exact hq.elim
   |false=>simp at*
  split at hr
  simp only[oP,oS]at hr;subst hr;exact hq.elim
  split at hr
  simp only[oP,oS]at hr;subst hr;exact hq.elim
  split at hr
  simp only[oP,oS]at hr;subst hr;exact hq.elim
  split at hr
  simp only[oP,oS]at hr;subst hr;exact hq.elim;cases hr
 |seq x y ihx ihy=>
  intro rc s K a w G hr hs hq;simp only[ma,oD,oB,oP,oS]at hr;obtain⟨x',hx,y',hy,rfl⟩:=hr;refine wp_seq (cG (ihx x' s _ a w G hx hs hq) ?_);rintro e a1 w1 ⟨s1,G1,hk,ou⟩;cases e with
  |normal=>exact ihy y' s1 K a1 w1 G1 hy ou hk
  |exit i=>exact⟨s1,G1,hk,ou⟩
  |goto l=>exact⟨s1,G1,hk,ou⟩
  |ret=>exact⟨s1,G1,hk,ou⟩
  |panic c=>exact⟨s1,G1,hk,ou⟩
  |outgrown=>exact⟨s1,G1,hk,ou⟩
 |cond x p q ihp ihq=>
  intro rc s K a w G hr hs hq;simp only[ma,oD,oB,oP,oS]at hr;obtain⟨X',hX,p',hp,q',ov,rfl⟩:=hr;have he:=jw hs hX;simp only[mR]at hq;unfold AP at hq
  split at hq
  ·next t hc=>
   rw[hc]at he;simp only[jK]at he;exact wp_cond_split he (fun e=>ihp p' s K a w G hp hs (hq.1 e)) (fun e=>ihq q' s K a w G ov hs (hq.2 e))
  exact hq.elim
 |block id c ih=>
  intro rc s K a w G hr hs hq;simp only[ma,oD,oB,oP,oS]at hr;obtain⟨c',hc,rfl⟩:=hr;refine wp_block (cG (ih c' s _ a w G hc hs hq) ?_);rintro e a1 w1 ⟨s1,G1,hk,ou⟩;cases e with
  |exit i=>
   simp only[C9]at hk;simp only[Exit.inBlock]
   split
   ·next h=>rw[an h]at hk;exact⟨s1,G1,hk,ou⟩
   next h=>rw[al h]at hk;exact⟨s1,G1,hk,ou⟩
  |normal=>exact⟨s1,G1,hk,ou⟩
  |goto l=>exact⟨s1,G1,hk,ou⟩
  |ret=>exact⟨s1,G1,hk,ou⟩
  |panic c=>exact⟨s1,G1,hk,ou⟩
  |outgrown=>exact⟨s1,G1,hk,ou⟩
 |loop c ih=>
  intro rc s K a w G hr hs hq;simp only[ma,oD,oB,oP,oS]at hr;obtain⟨c',hc,rfl⟩:=hr;obtain⟨I,⟨m0,s0,hE,hI⟩,GS⟩:=hq;refine wp_loop_ghost (fun m a w=>∃s G,I m s∧mY X s a w G) m0 ⟨s0,G,hI,DN hE hs⟩ ?_;rintro m a1 w1 ⟨s1,G1,h1,ou⟩;have:=ih c' s1 _ a1 w1 G1 hc ou (GS m s1 h1);refine cG this ?_;rintro e a2 w2 ⟨s2,G2,hk,vG⟩;cases e with
  |normal=>
   obtain⟨m',s3,h3,h4,h5⟩:=hk;exact⟨m',h5,s3,G2,h4,DN h3 vG⟩
  |exit i=>exact⟨s2,G2,hk,vG⟩
  |goto l=>exact⟨s2,G2,hk,vG⟩
  |ret=>exact⟨s2,G2,hk,vG⟩
  |panic c=>exact⟨s2,G2,hk,vG⟩
  |outgrown=>exact⟨s2,G2,hk,vG⟩
 |exit id=>
  intro rc s K a w G hr hs hq;simp only[ma,oS]at hr;subst hr;exact wp_exit ⟨s,G,hq,hs⟩
 |ret=>
  intro rc s K a w G hr hs hq;simp only[ma,oS]at hr;subst hr;exact wp_ret ⟨s,G,hq,hs⟩
 |_=>
  intro rc s K a w G hr hs hq;simp only[ma,oS]at hr;subst hr;exact hq.elim
def Mj(r:Nat)(bx:Bool)(ds':List D)(n':Int)(e:Exit)(s:MS):Prop:=
 match e with
 |.normal=>(bx=true→s.bx=true)∧s.ds=ds'∧qk s.env r=.va (.int .i64 n')
 |.ret=>(bx=true→s.bx=true)∧s.ds=ds'∧qk s.env r=.va (.int .i64 n')
 |_=>False
variable {n r:Nat}{rc:RC}
def Nx(h:gq P f=some (n,rc,[.t r])){w:World}{v:Value}{k:Int}(hn:2≤n)(HY:X.n=n)(hw:X.w0=w){ds ds':List D}{k':Int}{bx:Bool}
  (hs:∀a:Act,a.defers=[]→a.tmps= #[v,.int .i64 k]++Array.replicate (n-2) undef→∃G,mY X ⟨bx,ds,[(0,.rt),(1,.va (.int .i64 k))]⟩ a w G)
  (hq:mR P X.sl X.sz rc ⟨bx,ds,[(0,.rt),(1,.va (.int .i64 k))]⟩ (Mj r bx ds' k')):
  jf P f∧Calls P f #[v,.int .i64 k] w fun e w'=>e=.returned (.int .i64 k')∧∃s a G,(bx=true→s.bx=true)∧s.ds=ds'∧mY X s a w' G:=by
 unfold gq zS at h;simp only[oD,oB,oP,oS,fw,cM]at h;obtain⟨fn,hf,c,hb,_,rk,rc',fv,xs',uo,rfl,rfl,rfl⟩:=h;refine⟨⟨fn,hf,by simp[hb],by simpa using rk⟩,calls_of_wp hf hb ?_⟩;obtain⟨G,ah2⟩:=hs {tmps:= #[v,.int .i64 k]++Array.replicate (fn.ntmps-(#[v,Value.int .i64 k]).size) undef,defers:=[]} rfl rfl;rw[←HY]at fv;refine cG (Lr (X:=X) c rc' _ _ _ w G fv ah2 hq) ?_;have ad9:fn.results.toList=[.tmp r]:=by
  revert uo
  generalize fn.results.toList=l;intro uo
  match l,uo with
  | [],uo=>simp at uo
  | [x],uo=>
   simp only[cB,List.mapM_nil,oD,oB,oP,oS]at uo;obtain⟨y,hy,_,_,US⟩:=uo;cases x with
   |tmp t=>
    simp only[wl,oS]at hy;subst hy;simp at US;rw[US.1]
   |cell a t=>
    simp only[wl,oD,oB,oP,oS]at hy;obtain⟨_,_,_,_,_,_,rfl⟩:=hy;simp at US
  |x::y::l,uo=>
   have:=tR uo;simp at this
 have key:∀{s:MS} {a':Act} {w':World} {G':MG},(bx=true→s.bx=true)→s.ds=ds'→qk s.env r=.va (.int .i64 k')→mY X s a' w' G'→a'.defers=[]∧∃v,(results fn a'.tmps).run P w'=.ok v w'∧(Ending.returned v=.returned (.int .i64 k')∧∃s a G,(bx=true→s.bx=true)∧s.ds=ds'∧mY X s a w' G):=by
  intro s a' w' G' h0 h1 h2 h3;refine⟨h3.mS,.int .i64 k',?_,rfl,s,a',G',h0,h1,h3⟩;have hv:=h3.env r;rw[h2]at hv;simp only[jK]at hv;have:=xY (P:=P) (fn:=fn) (tmps:=a'.tmps) (w:=w') (vs:=[.int .i64 k']) (by rw[ad9];simp[cB,zT,hv,bK,Result.andThen]);simpa using this
 rintro e a' w' ⟨s,G',hk,nB⟩;cases e with
 |normal=>exact key hk.1 hk.2.1 hk.2.2 nB
 |ret=>exact key hk.1 hk.2.1 hk.2.2 nB
 |exit i=>exact hk.elim
 |goto l=>exact hk.elim
 |panic c=>exact hk.elim
 |outgrown=>exact hk.elim
def yo(h:gq P f=some (n,rc,[.t r]))(hn:2≤n){nn:Option Bool}{sz:Nat}{ds ds':List D}{k k':Int}
  (hl:ds'.length=ds.length) (hq:ds.length≤gp→∀bx,(ds≠[]→bx=true)→mR P true sz rc ⟨bx,ds,[(0,.rt),(1,.va (.int .i64 k))]⟩ (Mj r bx ds' k')):Cr P f (.ls nn sz ds) k (.ls nn sz ds') k':=by
 have aea:∀{X:Jp} {G:MG} {bx:Bool} {a:Act},a.tmps= #[X.v,.int .i64 k]++Array.replicate (n-2) undef→∀t,jK X G bx (qk [(0,.rt),(1,.va (.int .i64 k))] t) (a.tmps.getD t undef):=by
  intro X G bx a ha t;simp only[qk]
  split
  ·next e=>subst e;simp only[jK];rw[bD,ha,eL (by simp)];rfl
  split
  ·next e=>subst e;simp only[jK];rw[bD,ha,eL (by simp)];rfl
  simp[jK]
 have main:∀(w:World)(v:Value)(F:List Nat),f8 w.heap (.ls nn sz ds) F v.cells.toList→(D.ls nn sz ds).fits v→F.Nodup→(∀b∈F,mO w.heap b)→jf P f∧
   Calls P f #[v,.int .i64 k] w fun e w'=>e=.returned (.int .i64 k')∧w'.os=w.os∧w'.tape=w.tape∧w'.output=w.output∧w.heap.size≤w'.heap.size∧
    (∀b,b<w.heap.size→b∉F→w'.heap[b]?=w.heap[b]?)∧∃F',f8 w'.heap (.ls nn sz ds') F' v.cells.toList∧F'.Nodup∧∀b∈F',b∈F∧mO w'.heap b:=by
  intro w v F hr hf ii hz;have uB:=fP (v:=v) (by simpa[D.fits]using hf);have B9:=hr;have yO:=hr.bd;simp only[D.bd]at yO;unfold f8 at hr;rcases hr with⟨p,h1,rfl,rfl,h4,h5⟩|⟨b,off,cap,c,e,fr,F',h1,rfl,h3,h4,h5,h6,h7,h8,h9⟩
  ·rw[uB]at h1;simp only[bO,bm]at h1;have ah3:ds'=[]:=dv (by simpa using hl);subst ah3;obtain⟨c1,c2⟩:=Nx (X:=⟨v,[],w,sz,true,n,0⟩) h (w:=w) (v:=v) (k:=k) (ds:=[]) (ds':=[]) (k':=k') (bx:=false) hn rfl rfl (fun a ha ht=>by
    refine⟨⟨[],[],0,0,0,#[],0⟩,ha,by rw[ht];simp;omega,rfl,rfl,rfl,aU _,fun _ _ _=>rfl,by simp,rfl,by simp[fR],by simp,bC,by simp,by simp,?_,by simp,by simp,by simp,aea ht⟩;exact fun _=>⟨p,0,h1⟩) (hq (by simp) false (by simp))
   refine⟨c1,c2.mono ?_⟩;rintro e w' ⟨rfl,s,a,G,hb,kf,hs⟩;refine⟨rfl,hs.os,hs.tape,hs.output,hs.size,hs.iD,[],?_,bC,by simp⟩;rw[uB];unfold f8;exact .inl ⟨p,by rw[h1],rfl,rfl,h4,h5⟩
  rw[uB]at h1;simp only[bO,bm]at h1;have rf:=aP.1 ii;obtain rfl:=(hz b (by simp)).cells h6;have lY:((c.toList.drop off).take (ds.length*sz)).length=ds.length*sz:=by
   rw[h9.length,D.fG h8]
  have hle:ds.length*sz≤cap*sz:=ba _ h4;obtain⟨c1,c2⟩:=Nx (X:=⟨v,b::F',w,sz,true,n,ds.length⟩) h (w:=w) (v:=v) (k:=k) (ds:=ds) (ds':=ds') (k':=k') (bx:=true) hn rfl rfl (fun a ha ht=>by
   refine⟨⟨F',(c.toList.drop off).take (ds.length*sz),b,off,cap,c,e⟩,ha,by rw[ht];simp;omega,rfl,rfl,rfl,aU _,fun _ _ _=>rfl,fun y hy=>B9.lt y hy,rfl,h9,h8,rf.2,fun y hy=>⟨by simp[hy],hz y (by simp[hy])⟩,?_,?_,by simp,?_,by simp,aea ht⟩
   ·exact fun _ _=>⟨h1,by simp,h4,h7⟩
   ·exact fun _=>⟨_,_,h1⟩
   refine fun _=>⟨h6,by simp only[lY];omega,by simp only[lY],rf.1⟩) (hq h5 true (fun _=>rfl))
  refine⟨c1,c2.mono ?_⟩;rintro e1 w' ⟨rfl,s,a,G,hb,kf,hs⟩;refine⟨rfl,hs.os,hs.tape,hs.output,hs.size,hs.iD,?_⟩;subst kf;have mE:s.bx=true:=hb rfl;obtain⟨y1,y2,y3,y4⟩:=hs.iV mE;obtain⟨z1,z2,z3,z4⟩:=hs.V4 rfl mE;have hlen:=hs.len;simp only at z1 z2 z3 z4 hlen;have lh:=hs.Ew;simp only at lh;refine⟨G.b::G.F,?_,aP.2 ⟨y4,hs.nd⟩,fun x hx=>?_⟩
  ·rw[uB];unfold f8;refine .inr ⟨G.b,G.off,G.cap,G.c,G.e,(0,0),G.F,by rw[z1,hl],rfl,h3,by rw[hl];exact z3,by rw[hl];exact h5,y1,z4,hs.sz,?_⟩;rw[hl,←lh,y3];exact hs.rep
  rcases aj.1 hx with rfl|hx
  exact⟨z2,.inl ⟨_,_,y1⟩⟩;exact hs.fin x hx
 refine⟨?_,fun w v F h1 h2 h3 h4=>(main w v F h1 h2 h3 h4).2⟩;unfold gq zS at h;simp only[oD,oB,oP,oS,fw,cM]at h;obtain⟨fn,hf,c,hb,_,rk,_⟩:=h;exact⟨fn,hf,by simp[hb],by simpa using rk⟩
def MJ(h:gq P f=some (n,rc,[.t r]))(hn:2≤n){d d':D}{k k':Int}(hd:d.fK=true)
  (hq:d.bd→mR P false d.size rc ⟨false,[d],[(0,.rt),(1,.va (.int .i64 k))]⟩ (Mj r false [d'] k')):Cr P f d k d' k':=by
 refine⟨?_,fun w v F hr hf ii hz=>?_⟩
 ·unfold gq zS at h;simp only[oD,oB,oP,oS,fw,cM]at h;obtain⟨fn,hf,c,hb,_,rk,_⟩:=h;exact⟨fn,hf,by simp[hb],by simpa using rk⟩
 have hlen:=hr.length;obtain⟨c1,c2⟩:=Nx (X:=⟨v,F,w,d.size,false,n,1⟩) h (w:=w) (v:=v) (k:=k) (ds:=[d]) (ds':=[d']) (k':=k') (bx:=false) hn rfl rfl (fun a ha ht=>by
  refine⟨⟨F,v.cells.toList,0,0,0,#[],0⟩,ha,by rw[ht];simp;omega,rfl,rfl,rfl,aU _,fun _ _ _=>rfl,fun y hy=>hr.lt y hy,rfl,?_,by simp,ii,fun y hy=>⟨hy,hz y hy⟩,by simp,by simp,by simp,by simp,by simp,fun t=>?_⟩
  ·rw[ig];exact⟨F,[],_,[],by simp,by simp,hr,lS.2 ⟨rfl,rfl⟩⟩
  simp only[qk]
  split
  ·next e=>subst e;simp only[jK];rw[bD,ht,eL (by simp)];rfl
  split
  ·next e=>subst e;simp only[jK];rw[bD,ht,eL (by simp)];rfl
  simp[jK]) (hq hr.bd)
 refine c2.mono ?_;rintro e w' ⟨rfl,s,a,G,_,kf,hs⟩;refine⟨rfl,hs.os,hs.tape,hs.output,hs.size,hs.iD,G.F,?_,hs.nd,hs.fin⟩;have h1:=hs.rep;rw[kf,ig]at h1;obtain⟨F1,F2,c1,c2,e1,e2,h2,h3⟩:=h1;obtain⟨rfl,rfl⟩:=lS.1 h3;have h4:=hs.vst rfl;simp only at h4;rw[h4,e1,e2];simpa using h2
section
variable {sl:Bool}{sz:Nat}{s:MS}{K:Exit→MS→Prop}{bx:Bool}{ds:List D}{env:List (Nat×MV)}
def kmR(P:Program)(sl:Bool)(sz:Nat)(c:RC)(K:Exit→MS→Prop)(s:MS):Prop:=mR P sl sz c s K
def K3(P:Program)(sl:Bool)(sz:Nat)(l:List RO)(k:MS→Prop)(s:MS):Prop:=pd P sl sz l s k
variable {s':MS}{c:RC}
@[congr] def mR_cg{s:MS}(h:s=s'):mR P sl sz c s K=mR P sl sz c s' K:=by rw[h]
@[congr] def agO{s:MS}(h:s=s'):kmR P sl sz c K s=kmR P sl sz c K s':=by rw[h]
variable {l:List RO}{k:MS→Prop}
@[congr] def afA{s:MS}(h:s=s'):pd P sl sz l s k=pd P sl sz l s' k:=by rw[h]
@[congr] def af1{s:MS}(h:s=s'):K3 P sl sz l k s=K3 P sl sz l k s':=by rw[h]
variable {f:MS→Prop}
@[congr] def afu{e e':Exit}{s:MS}(h:e=e')(h':s=s'):xD f K e s=xD f K e' s':=by rw[h,h']
variable {i:Nat}
@[congr] def aeI{e e':Exit}{s:MS}(h:e=e')(h':s=s'):C9 i K e s=C9 i K e' s':=by rw[h,h']
@[congr] def abu{c c':MV}{p q:Prop}(h:c=c'):AP c p q=AP c' p q:=by rw[h]
variable {x x':MV}{d:Nat}
@[congr] def afB(h:x=x'):IP x sl d s k=IP x' sl d s k:=by rw[h]
variable {y y':MV}
@[congr] def ae2{op:BinOp}(h:x=x')(h':y=y'):E3 x y op d s k=E3 x' y' op d s k:=by rw[h,h']
variable {z:Nat}
@[congr] def agl(h:x=x')(h':y=y'):mIa x y sl sz z d s k=mIa x' y' sl sz z d s k:=by rw[h,h']
@[congr] def agK{off:Nat}(h:x=x'):Xv x sz off d s k=Xv x' sz off d s k:=by rw[h]
@[congr] def aeE(h:x=x'):EY x sl sz z d s k=EY x' sl sz z d s k:=by rw[h]
@[congr] def agh{agg:Bool}(h:x=x'):Qf x agg z d s k=Qf x' agg z d s k:=by rw[h]
@[congr] def ahp(h:x=x')(h':y=y'):Zi x y sl sz z s k=Zi x' y' sl sz z s k:=by rw[h,h']
@[congr] def aeC{f:Nat}(h:x=x')(h':y=y'):EX x y P sz d f s k=EX x' y' P sz d f s k:=by rw[h,h']
def Ry:mR P sl sz .skip s K=K .normal s:=rfl
def WM{ops:List RO}:mR P sl sz (.gt false ops) s K=pd P sl sz ops s (K .normal):=rfl
def X0{a b:RC}:mR P sl sz (.seq a b) s K=mR P sl sz a s (xD (kmR P sl sz b K) K):=rfl
def S5{x:Ax.X}{a b:RC}:mR P sl sz (.cond x a b) s K=AP (qc s.env x) (mR P sl sz a s K) (mR P sl sz b s K):=rfl
def Y0:mR P sl sz (.iV i c) s K=mR P sl sz c s (C9 i K):=rfl
def SU:mR P sl sz (.exit i) s K=K (.exit i) s:=rfl
def XY:mR P sl sz .ret s K=K .ret s:=rfl
def Xw:kmR P sl sz c K s=mR P sl sz c s K:=rfl
def XC:K3 P sl sz l k s=pd P sl sz l s k:=rfl
def Da:xD f K .normal s=f s:=rfl
def OY:xD f K .ret s=K .ret s:=rfl
def JT:xD f K (.exit i) s=K (.exit i) s:=rfl
def DE:C9 i K .normal s=K .normal s:=rfl
def MW:C9 i K .ret s=K .ret s:=rfl
def JZ{j:Nat}:C9 i K (.exit j) s=if j=i then K .normal s else K (.exit j) s:=rfl
def Rg{t:Bool}{p q:Prop}:AP (.va (.bool t)) p q=((t=true→p)∧(t=false→q)):=rfl
def OF:pd P sl sz [] s k=k s:=rfl
attribute [go_sem ↓] Ry WM X0 S5 Y0 SU XY Xw XC Da OY JT DE MW OF
attribute [go_sem] JZ Rg
section
variable {l:List RO}{k:MS→Prop}
variable {x:Ax.X}{d:Nat}
def Qd:pd P sl sz (⟨none,.mv d x⟩::l) s k=K3 P sl sz l k (s.set d (qc s.env x)):=rfl
def LM:pd P sl sz (⟨none,.len d x⟩::l) s k=IP (qc s.env x) sl d s (K3 P sl sz l k):=rfl
attribute [go_sem ↓] Qd LM
variable {y:Ax.X}
def M3{op:BinOp}:pd P sl sz (⟨none,.bin d op x y⟩::l) s k=E3 (qc s.env x) (qc s.env y) op d s (K3 P sl sz l k):=rfl
attribute [go_sem ↓] M3
variable {z:Nat}
def Sm:pd P sl sz (⟨none,.ia d z x y⟩::l) s k=mIa (qc s.env x) (qc s.env y) sl sz z d s (K3 P sl sz l k):=rfl
def SQ{off:Nat}:pd P sl sz (⟨none,.fa d off x⟩::l) s k=Xv (qc s.env x) sz off d s (K3 P sl sz l k):=rfl
def MZ:pd P sl sz (⟨none,.box d z x⟩::l) s k=EY (qc s.env x) sl sz z d s (K3 P sl sz l k):=rfl
def QX{agg:Bool}:pd P sl sz (⟨none,.ld d agg z x⟩::l) s k=Qf (qc s.env x) agg z d s (K3 P sl sz l k):=rfl
def Qq:pd P sl sz (⟨none,.st z x y⟩::l) s k=Zi (qc s.env x) (qc s.env y) sl sz z s (K3 P sl sz l k):=rfl
def Og{f:Nat}:pd P sl sz (⟨none,.Eg d f x y⟩::l) s k=EX (qc s.env x) (qc s.env y) P sz d f s (K3 P sl sz l k):=rfl
def Tl:IP .rt sl d s k=(sl=true∧k (s.set d (.va (.int .i64 s.ds.length)))):=rfl
def Uj{a b:Value}{op:BinOp}:E3 (.va a) (.va b) op d s k=zk op a b fun v=>k (s.set d (.va v)):=rfl
def Y9{kd:IntKind}{n:Int}:mIa .rt (.va (.int kd n)) sl sz z d s k=((sl=true∧s.bx=true∧z=sz∧0<sz∧0≤n∧n<s.ds.length)∧k (s.set d (.pt n.toNat 0))):=rfl
attribute [go_sem ↓] Sm SQ MZ QX Qq Og
attribute [go_sem] Tl Uj Y9
variable {i j:Nat}
def ZG{off:Nat}:Xv (.pt i j) sz off d s k=(j+off<sz∧k (s.set d (.pt i (j+off)))):=rfl
def SP:EY .rt sl sz z d s k=((sl=false∧s.bx=false∧z=sz∧0<sz∧0<s.ds.length)∧k ⟨true,s.ds,(d,.pt 0 0)::zf s.env⟩):=rfl
def Yl:Qf (.pt i j) false z d s k=(z=1∧k (s.set d (.sb i j))):=by simp[Qf]
def QM:Qf (.pt i j) true z d s k=((j+z≤(D.at s.ds i).size∧(D.at s.ds i).fK=true)∧k (s.set d (.sg i j z))):=by simp[Qf]
def Zj{y:Value}:Zi (.pt i j) (.va y) sl sz z s k=((sl=true∧z=1∧y.oneCell'=true∧(D.sub (D.at s.ds i) j 1 false).vF=true∧(j=0∧1=sz∨(D.at s.ds i).fK=true))∧
   k ⟨s.bx,s.ds.set i (D.put sz (D.at s.ds i) j 1 (.sc y)),kil s.env⟩):=rfl
attribute [go_sem] ZG SP Yl QM Zj
def nC{d f:Nat}{n n':Int}{e':D}(ha:Cr P f (D.sub (D.at s.ds i) j 1 false) n e' n')(h1:(D.sub (D.at s.ds i) j 1 false).fK=false)(h2:j=0∧1=sz∨(D.at s.ds i).fK=true)
  (hk:k ⟨s.bx,s.ds.set i (D.put sz (D.at s.ds i) j 1 e'),(d,.va (.int .i64 n'))::s.env⟩):EX (.sb i j) (.va (.int .i64 n)) P sz d f s k:=⟨e',n',ha,⟨h1,h2⟩,hk⟩
end
def Kx{d:Nat}{v:MV}:(MS.mk bx ds env).set d v=⟨bx,ds,(d,v)::env⟩:=rfl
def L4{k t:Nat}{v:MV}{r:List (Nat×MV)}:qk ((k,v)::r) t=if k=t then v else qk r t:=rfl
def acE{n:Nat}:qc env (.t n)=qk env n:=rfl
def Xn{x:Value}:qc env (.c (.sc x))=.va x:=rfl
def DO{r:Nat}{ds':List D}{n':Int}{b0:Bool}:Mj r b0 ds' n' .normal s=((b0=true→s.bx=true)∧s.ds=ds'∧qk s.env r=.va (.int .i64 n')):=rfl
def MB{r:Nat}{ds':List D}{n':Int}{b0:Bool}:Mj r b0 ds' n' .ret s=((b0=true→s.bx=true)∧s.ds=ds'∧qk s.env r=.va (.int .i64 n')):=rfl
attribute [go_sem] Kx L4 acE Xn DO MB
attribute [go_sem] kil JC zf Value.oneCell'
def yA{c:RC}{α:Type}(F:α→MS)(J:α→Prop)(μ:α→Nat)(x0:α)(h0:pM s (F x0))(hJ:J x0)
  (h:∀x,J x→mR P sl sz c (F x) (xD (fun s=>∃y,J y∧μ y<μ x∧pM s (F y)) K)):mR P sl sz (.loop c) s K:=by
 refine⟨fun n s=>∃x,J x∧μ x=n∧s=F x,⟨_,_,h0,x0,hJ,rfl,rfl⟩,?_⟩;rintro n s ⟨x,hx,rfl,rfl⟩;have:=h x hx;have e:(xD (fun s=>∃y,J y∧μ y<μ x∧pM s (F y)) K)=(xD (fun s'=>∃n' GF,pM s' GF∧(∃x,J x∧μ x=n'∧GF=F x)∧n'<μ x) K):=by
  congr 1
  funext s
  apply propext
  constructor
  ·rintro⟨y,h1,h2,h3⟩;exact⟨_,_,h3,⟨y,h1,rfl,rfl⟩,h2⟩
  rintro⟨_,_,h3,⟨y,h1,rfl,rfl⟩,h2⟩;exact⟨y,h1,h2,h3⟩
 rw[e]at this;exact this
end
variable {P:Program}
def iC.refl(st:St):iC st st:=fun _ _ _ _ _ _ h=>h
def iC.trans{a b c:St}(h:iC a b)(k:iC b c):iC a c:=fun _ _ _ _ _ _ x=>k _ _ _ _ _ _ (h _ _ _ _ _ _ x)
def f7(e:List (Nat×AV)):List (Nat×AV)→Prop
 | []=>True
 |(k,v)::r=>lk e k=v∧f7 e r
variable {e:List (Nat×AV)}
def vm:∀{e':List (Nat×AV)},f7 e e'→∀t,lk e' t=.any∨lk e' t=lk e t
 | [],_,t=>.inl rfl
 |(k,v)::r,h,t=>by
  simp only[lk]
  split
  ·next hk=>subst hk;exact .inr h.1.symm
  exact vm h.2 t
variable {us:List (Nat×U)}{n:Nat}
def iC.env{e':List (Nat×AV)}(h:f7 e e'):iC ⟨n,e,us⟩ ⟨n,e',us⟩:=by
 intro n0 S0 M0 w0 a w hs;obtain⟨g,hu,hv⟩:=hs.gh;refine⟨hs.ms,hs.mS,hs.tm,hs.base,hs.os,hs.tape,hs.output,hs.size,hs.iD,g,hu,fun t=>?_⟩;rcases vm h t with h|h
 simp only;rw[h];simp[fx];simp only;rw[h];exact hv t
def iC.del(st:St)(k:Nat):iC st (st.del k):=by
 intro n0 S0 M0 w0 a w hs;obtain⟨g,hu,hv⟩:=hs.gh;obtain⟨hU,hK⟩:=hu.del k;exact⟨hs.ms,hs.mS,hs.tm,hs.base,hs.os,hs.tape,hs.output,hs.size,hs.iD,_,hU,fun t=>gT (fun av v hf hr=>fx.iq hK hf hr) (hv t)⟩
def iC.perm{us':List (Nat×U)}(h:us'.Perm us):iC ⟨n,e,us⟩ ⟨n,e,us'⟩:=by
 intro n0 S0 M0 w0 a w hs;exact hs.eqv rfl (fun _=>rfl) h
def oL{c:RC}{st:St}{K:Exit→St→Prop}{α:Type}(F:α→St)(J:α→Prop)(μ:α→Nat)(x0:α)(h0:iC st (F x0))(hJ:J x0)
  (h:∀x,J x→qu P c (F x) (vw (fun s=>∃y,J y∧μ y<μ x∧iC s (F y)) K)):qu P (.loop c) st K:=by
 refine⟨fun n s=>∃x,J x∧μ x=n∧s=F x,⟨_,_,h0,x0,hJ,rfl,rfl⟩,?_⟩;rintro n s ⟨x,hx,rfl,rfl⟩;have:=h x hx;have e:(vw (fun s=>∃y,J y∧μ y<μ x∧iC s (F y)) K)=(vw (fun s'=>∃n' GF,iC s' GF∧(∃x,J x∧μ x=n'∧GF=F x)∧n'<μ x) K):=by
  congr 1
  funext s
  apply propext
  constructor
  ·rintro⟨y,h1,h2,h3⟩;exact⟨_,_,h3,⟨y,h1,rfl,rfl⟩,h2⟩
  rintro⟨_,_,h3,⟨y,h1,rfl,rfl⟩,h2⟩;exact⟨y,h1,h2,h3⟩
 rw[e]at this;exact this
def D.GD.refl(d:D):d.GD d:=⟨fun _ F _ h=>⟨F,h,fun _ hb=>hb⟩,fun _ h=>h⟩
def D.GD.eq{d e:D}(h:d=e):d.GD e:=h▸D.GD.refl d
def D.GD.sub{d e:D}{j sz:Nat}(hj:j+sz≤d.size)(hd:d.fK=true)(h0:0<sz)(he:D.sub d j sz true=e):D.GD (.pt d j) (.pt e 0):=by
 refine⟨fun h F cs hr=>?_,fun v hv=>hv⟩;simp only[f8]at hr;obtain⟨b,off,c,el,fr,F',rfl,rfl,r1,r2,r3,r4⟩:=hr;obtain⟨F1,F2,F3,c1,c2,c3,g1,g2,g3,g4,g5,g6⟩:=r4.sub (agg:=true) hj (fun _=>hd) (by simp);subst he;have hs:(D.sub d j sz true).size=sz:=by rw[←g5.length,g4]
 refine⟨b::F2,?_,?_⟩
 ·simp only[f8];refine⟨b,off+j,c,el,fr,F2,by simp,rfl,by omega,r2,by omega,?_⟩;rw[hs];have e1:(c.toList.drop (off+j)).take sz=c2:=by
   have h1:((c.toList.drop off).take d.size).drop j=c2++c3:=by rw[g2,←g3];simp
   have h2:(((c.toList.drop off).take d.size).drop j).take sz=c2:=by rw[h1,←g4];simp
   rw[←h2,dq,ch,de,bl (by omega)]
  rw[e1];exact g5
 intro x hx;rcases aj.1 hx with rfl|hx
 simp;rw[g1];simp[hx]
def D.AQ.refl:∀(ds:List D),D.AQ ds ds
 | []=>trivial
 |d::ds=>⟨D.GD.refl d,D.AQ.refl ds⟩
variable {ds:List D}
def fy{d:Option Nat}{f:Nat}{args:List AV}{un:Nat→Option U}{k:KQ}{r:tf}(ha:jp un args=some ds)(h:AF P f ds r)
  (hk:k (gS (d.getD 0) (D2 args ds) r).1 (gS (d.getD 0) (D2 args ds) r).2):nU P d f args un k:=
 .inl ⟨ds,ds,r,ha,D.AQ.refl ds,h,hk⟩
def tM{d:Option Nat}{f:Nat}{args:List AV}{un:Nat→Option U}{k:KQ}{es:List D}{r:tf}(ha:jp un args=some ds)(hl:D.AQ ds es)(h:AF P f es r)
  (hk:k (gS (d.getD 0) (D2 args ds) r).1 (gS (d.getD 0) (D2 args ds) r).2):nU P d f args un k:=
 .inl ⟨ds,es,r,ha,hl,h,hk⟩
def fF{x:Int}(h1: -9223372036854775808≤x)(h2:x≤9223372036854775807):IntKind.i64.wrap x=x:=by
 simp[IntKind.wrap,IntKind.bits,IntKind.signed];omega
variable {i:Nat}
def iS{α:Type}{f:α→D}{l:List α}(h:i<l.length):D.at (l.map f) i=f l[i]:=by
 simp[D.at,h]
def O4{k:Nat}:((none:Option Nat)==some k)=false:=rfl
def Oc{k:Nat}:(some i==some k)=(i==k):=rfl
attribute [go_sem] O4 Oc
attribute [go_sem] Bool.false_eq_true
def MD:((some false:Option Bool)==some true)=false:=rfl
def M7:((some true:Option Bool)==some true)=true:=rfl
def OW:((none:Option Bool)==some true)=false:=rfl
attribute [go_sem] MD M7 OW
attribute [go_sem] Bool.false_and Bool.true_and Bool.and_false Bool.and_true
def Hx:List (Nat×AV)→Bool
 | []=>true
 |(_,.im none _)::r=>Hx r
 |_=>false
def Dc:∀{e:List (Nat×AV)},Hx e=true→∀t,lk e t=.any∨∃d,lk e t=.im none d
 | [],_,t=>.inl rfl
 |(k,.im none d)::r,h,t=>by
  simp only[lk]
  split;exact .inr ⟨d,rfl⟩;exact Dc (by simpa[Hx]using h) t
def iC.clear{e':List (Nat×AV)}(h:f7 e e')(hf:Hx e'=true):iC ⟨n,e,us⟩ ⟨n,e',[]⟩:=by
 intro n0 S0 M0 w0 a w hs;obtain⟨g,hu,hv⟩:=hs.gh;refine⟨hs.ms,hs.mS,hs.tm,hs.base,hs.os,hs.tape,hs.output,hs.size,hs.iD,{g with φ:=fun _=>[]},⟨by simp,by simp[fp],by simp[fp],by simp[fp],fun _ _=>rfl,fun b hb=>⟨(hu.sh b hb).1,(hu.sh b hb).2.1,by simp[fp]⟩,by simp,by simp[fp],by intro k v _ h;simp at h⟩,fun t=>?_⟩;simp only;rcases Dc hf t with h1|⟨d,h1⟩
 rw[h1];simp[fx];have h2:lk e t=.im none d:=by
  rcases vm h t with h2|h2
  rw[h1]at h2;cases h2;rw[←h2,h1]
 have:=hv t;simp only[h2]at this;rw[h1];simp only[fx]at this⊢;obtain⟨F,r1,r2,r3⟩:=this;refine⟨F,r1,r2,fun b hb=>?_⟩;rcases r3 b hb with h|⟨k,hk,_⟩
 exact .inl h;cases hk
def Mn:RC:=
 (.seq
  (.gt false [⟨none,.mv 4 (.c (.sc (.int .i64 0)))⟩])
  ((.seq
   (.gt false [⟨none,.mv 5 (.t 1)⟩,
     ⟨none,.mv 6 (.t 0)⟩,
     ⟨none,.len 7 (.t 6)⟩,
     ⟨none,.bin 8 .sub (.t 5) (.t 7)⟩,
     ⟨none,.mv 1 (.t 8)⟩])
   ((.seq
    ((.seq
     (.gt false [⟨none,.mv 9 (.t 1)⟩,
       ⟨none,.bin 10 .lss (.t 9) (.c (.sc (.int .i64 0)))⟩])
     (.cond (.t 10)
      ((.seq
       (.gt false [⟨none,.mv 4 (.c (.sc (.int .i64 (-1))))⟩])
       (.ret)))
      (.skip))))
    ((.seq
     (.gt false [⟨none,.mv 11 (.t 1)⟩,
       ⟨none,.mv 4 (.t 11)⟩])
     (.ret))))))))
def zr(f sz:Nat)(agg:Bool):RC:=
 (.seq
  (.gt false [⟨none,.mv 4 (.c (.sc (.int .i64 0)))⟩])
  ((.seq
   (.gt false [⟨none,.mv 6 (.t 1)⟩,
     ⟨none,.mv 7 (.t 0)⟩,
     ⟨none,.len 8 (.t 7)⟩,
     ⟨none,.bin 9 .sub (.t 6) (.t 8)⟩,
     ⟨none,.mv 1 (.t 9)⟩])
   ((.seq
    ((.seq
     (.gt false [⟨none,.mv 10 (.t 1)⟩,
       ⟨none,.bin 11 .lss (.t 10) (.c (.sc (.int .i64 0)))⟩])
     (.cond (.t 11)
      ((.seq
       (.gt false [⟨none,.mv 4 (.c (.sc (.int .i64 (-1))))⟩])
       (.ret)))
      (.skip))))
    ((.seq
     ((.seq
      (.gt false [⟨none,.mv 5 (.c (.sc (.int .i64 0)))⟩])
      (.iV 0
       (.loop
        ((.seq
         ((.seq
          (.gt false [⟨none,.mv 12 (.t 5)⟩,
            ⟨none,.mv 13 (.t 0)⟩,
            ⟨none,.len 14 (.t 13)⟩,
            ⟨none,.bin 15 .lss (.t 12) (.t 14)⟩])
          (.cond (.t 15)
           (.skip)
           (.exit 0))))
         ((.seq
          (.iV 1
           ((.seq
            (.gt false [⟨none,.mv 18 (.t 0)⟩,
              ⟨none,.mv 19 (.t 5)⟩,
              ⟨none,.ia 20 sz (.t 18) (.t 19)⟩,
              ⟨none,.ld 21 agg sz (.t 20)⟩,
              ⟨none,.mv 22 (.t 1)⟩,
              ⟨none,.call (some 23) f [(.t 21),(.t 22)]⟩,
              ⟨none,.mv 1 (.t 23)⟩])
            ((.seq
             (.gt false [⟨none,.mv 24 (.t 1)⟩,
               ⟨none,.bin 25 .lss (.t 24) (.c (.sc (.int .i64 0)))⟩])
             (.cond (.t 25)
              ((.seq
               (.gt false [⟨none,.mv 4 (.c (.sc (.int .i64 (-1))))⟩])
               (.ret)))
              (.skip)))))))
          (.gt false [⟨none,.mv 16 (.t 5)⟩,
            ⟨none,.bin 17 .add (.t 16) (.c (.sc (.int .i64 1)))⟩,
            ⟨none,.mv 5 (.t 17)⟩])))))))))
     ((.seq
      (.gt false [⟨none,.mv 26 (.t 1)⟩,
        ⟨none,.mv 4 (.t 26)⟩])
      (.ret))))))))))
def Oe(bytes:Nat)(z:D):RC:=
 (.seq
  (.gt false [⟨none,.mv 2 (.c (.ls (some true) 1 []))⟩])
  ((.seq
   (.gt false [⟨none,.mv 5 (.t 0)⟩,
     ⟨none,.len 6 (.t 5)⟩,
     ⟨none,.mk 7 1 bytes z (.t 6) (.t 6)⟩,
     ⟨none,.mv 3 (.t 7)⟩])
   ((.seq
    ((.seq
     (.gt false [⟨none,.mv 4 (.c (.sc (.int .i64 0)))⟩])
     (.iV 0
      (.loop
       ((.seq
        ((.seq
         (.gt false [⟨none,.mv 8 (.t 4)⟩,
           ⟨none,.mv 9 (.t 0)⟩,
           ⟨none,.len 10 (.t 9)⟩,
           ⟨none,.bin 11 .lss (.t 8) (.t 10)⟩])
         (.cond (.t 11)
          (.skip)
          (.exit 0))))
        ((.seq
         (.iV 1
          (.gt false [⟨none,.mv 14 (.t 3)⟩,
            ⟨none,.mv 15 (.t 4)⟩,
            ⟨none,.mv 16 (.t 0)⟩,
            ⟨none,.mv 17 (.t 4)⟩,
            ⟨none,.ia 18 1 (.t 16) (.t 17)⟩,
            ⟨none,.ld 19 false 1 (.t 18)⟩,
            ⟨none,.ia 20 1 (.t 14) (.t 15)⟩,
            ⟨none,.st 1 (.t 20) (.t 19)⟩]))
         (.gt false [⟨none,.mv 12 (.t 4)⟩,
           ⟨none,.bin 13 .add (.t 12) (.c (.sc (.int .i64 1)))⟩,
           ⟨none,.mv 4 (.t 13)⟩])))))))))
    ((.seq
     (.gt false [⟨none,.mv 21 (.t 3)⟩,
       ⟨none,.mv 2 (.t 21)⟩])
     (.ret))))))))
def zj(f sz bytes:Nat)(agg:Bool)(z:D):RC:=
 (.seq
  (.gt false [⟨none,.mv 2 (.c (.ls (some true) sz []))⟩])
  ((.seq
   (.gt false [⟨none,.mv 5 (.t 0)⟩,
     ⟨none,.len 6 (.t 5)⟩,
     ⟨none,.mk 7 sz bytes z (.t 6) (.t 6)⟩,
     ⟨none,.mv 3 (.t 7)⟩])
   ((.seq
    ((.seq
     (.gt false [⟨none,.mv 4 (.c (.sc (.int .i64 0)))⟩])
     (.iV 0
      (.loop
       ((.seq
        ((.seq
         (.gt false [⟨none,.mv 8 (.t 4)⟩,
           ⟨none,.mv 9 (.t 0)⟩,
           ⟨none,.len 10 (.t 9)⟩,
           ⟨none,.bin 11 .lss (.t 8) (.t 10)⟩])
         (.cond (.t 11)
          (.skip)
          (.exit 0))))
        ((.seq
         (.iV 1
          (.gt false [⟨none,.mv 14 (.t 3)⟩,
            ⟨none,.mv 15 (.t 4)⟩,
            ⟨none,.mv 16 (.t 0)⟩,
            ⟨none,.mv 17 (.t 4)⟩,
            ⟨none,.ia 18 sz (.t 16) (.t 17)⟩,
            ⟨none,.ld 19 agg sz (.t 18)⟩,
            ⟨none,.call (some 20) f [(.t 19)]⟩,
            ⟨none,.ia 21 sz (.t 14) (.t 15)⟩,
            ⟨none,.st sz (.t 21) (.t 20)⟩]))
         (.gt false [⟨none,.mv 12 (.t 4)⟩,
           ⟨none,.bin 13 .add (.t 12) (.c (.sc (.int .i64 1)))⟩,
           ⟨none,.mv 4 (.t 13)⟩])))))))))
    ((.seq
     (.gt false [⟨none,.mv 22 (.t 3)⟩,
       ⟨none,.mv 2 (.t 22)⟩])
     (.ret))))))))
def ZC:RC:=
 (.seq
  (.gt false [⟨none,.mv 4 (.c (.sc (.bool false)))⟩])
  ((.seq
   ((.seq
    (.gt false [⟨none,.mv 6 (.t 0)⟩,
      ⟨none,.len 7 (.t 6)⟩,
      ⟨none,.mv 8 (.t 1)⟩,
      ⟨none,.len 9 (.t 8)⟩,
      ⟨none,.bin 10 .neq (.t 7) (.t 9)⟩])
    (.cond (.t 10)
     ((.seq
      (.gt false [⟨none,.mv 4 (.c (.sc (.bool false)))⟩])
      (.ret)))
     (.skip))))
   ((.seq
    ((.seq
     (.gt false [⟨none,.mv 5 (.c (.sc (.int .i64 0)))⟩])
     (.iV 0
      (.loop
       ((.seq
        ((.seq
         (.gt false [⟨none,.mv 11 (.t 5)⟩,
           ⟨none,.mv 12 (.t 0)⟩,
           ⟨none,.len 13 (.t 12)⟩,
           ⟨none,.bin 14 .lss (.t 11) (.t 13)⟩])
         (.cond (.t 14)
          (.skip)
          (.exit 0))))
        ((.seq
         (.iV 1
          ((.seq
           (.gt true [⟨none,.mv 17 (.t 0)⟩,
             ⟨none,.mv 18 (.t 5)⟩,
             ⟨none,.ia 19 1 (.t 17) (.t 18)⟩,
             ⟨none,.ld 20 false 1 (.t 19)⟩,
             ⟨none,.mv 21 (.t 1)⟩,
             ⟨none,.mv 22 (.t 5)⟩,
             ⟨none,.ia 23 1 (.t 21) (.t 22)⟩,
             ⟨none,.ld 24 false 1 (.t 23)⟩,
             ⟨none,.bin 25 .neq (.t 20) (.t 24)⟩])
           (.cond (.t 25)
            ((.seq
             (.gt false [⟨none,.mv 4 (.c (.sc (.bool false)))⟩])
             (.ret)))
            (.skip)))))
         (.gt false [⟨none,.mv 15 (.t 5)⟩,
           ⟨none,.bin 16 .add (.t 15) (.c (.sc (.int .i64 1)))⟩,
           ⟨none,.mv 5 (.t 16)⟩])))))))))
    ((.seq
     (.gt false [⟨none,.mv 4 (.c (.sc (.bool true)))⟩])
     (.ret))))))))
def X8:RC:=
 (.seq
  (.gt false [⟨none,.mv 4 (.c (.sc (.bool false)))⟩])
  ((.seq
   ((.seq
    (.gt false [⟨none,.mv 6 (.t 0)⟩,
      ⟨none,.len 7 (.t 6)⟩,
      ⟨none,.mv 8 (.t 1)⟩,
      ⟨none,.len 9 (.t 8)⟩,
      ⟨none,.bin 10 .neq (.t 7) (.t 9)⟩])
    (.cond (.t 10)
     ((.seq
      (.gt false [⟨none,.mv 4 (.c (.sc (.bool false)))⟩])
      (.ret)))
     (.skip))))
   ((.seq
    ((.seq
     (.gt false [⟨none,.mv 5 (.c (.sc (.int .i64 0)))⟩])
     (.iV 0
      (.loop
       ((.seq
        ((.seq
         (.gt false [⟨none,.mv 11 (.t 5)⟩,
           ⟨none,.mv 12 (.t 0)⟩,
           ⟨none,.len 13 (.t 12)⟩,
           ⟨none,.bin 14 .lss (.t 11) (.t 13)⟩])
         (.cond (.t 14)
          (.skip)
          (.exit 0))))
        ((.seq
         (.iV 1
          ((.seq
           (.gt true [⟨none,.mv 17 (.t 0)⟩,
             ⟨none,.mv 18 (.t 5)⟩,
             ⟨none,.ia 19 1 (.t 17) (.t 18)⟩,
             ⟨none,.ld 20 false 1 (.t 19)⟩,
             ⟨none,.mv 21 (.t 1)⟩,
             ⟨none,.mv 22 (.t 5)⟩,
             ⟨none,.ia 23 1 (.t 21) (.t 22)⟩,
             ⟨none,.ld 24 false 1 (.t 23)⟩,
             ⟨none,.beq 25 true (.t 20) (.t 24)⟩])
           (.cond (.t 25)
            ((.seq
             (.gt false [⟨none,.mv 4 (.c (.sc (.bool false)))⟩])
             (.ret)))
            (.skip)))))
         (.gt false [⟨none,.mv 15 (.t 5)⟩,
           ⟨none,.bin 16 .add (.t 15) (.c (.sc (.int .i64 1)))⟩,
           ⟨none,.mv 5 (.t 16)⟩])))))))))
    ((.seq
     (.gt false [⟨none,.mv 4 (.c (.sc (.bool true)))⟩])
     (.ret))))))))
def zc(f sz:Nat)(agg:Bool):RC:=
 (.seq
  (.gt false [⟨none,.mv 4 (.c (.sc (.bool false)))⟩])
  ((.seq
   ((.seq
    (.gt false [⟨none,.mv 6 (.t 0)⟩,
      ⟨none,.len 7 (.t 6)⟩,
      ⟨none,.mv 8 (.t 1)⟩,
      ⟨none,.len 9 (.t 8)⟩,
      ⟨none,.bin 10 .neq (.t 7) (.t 9)⟩])
    (.cond (.t 10)
     ((.seq
      (.gt false [⟨none,.mv 4 (.c (.sc (.bool false)))⟩])
      (.ret)))
     (.skip))))
   ((.seq
    ((.seq
     (.gt false [⟨none,.mv 5 (.c (.sc (.int .i64 0)))⟩])
     (.iV 0
      (.loop
       ((.seq
        ((.seq
         (.gt false [⟨none,.mv 11 (.t 5)⟩,
           ⟨none,.mv 12 (.t 0)⟩,
           ⟨none,.len 13 (.t 12)⟩,
           ⟨none,.bin 14 .lss (.t 11) (.t 13)⟩])
         (.cond (.t 14)
          (.skip)
          (.exit 0))))
        ((.seq
         (.iV 1
          ((.seq
           (.gt true [⟨none,.mv 17 (.t 0)⟩,
             ⟨none,.mv 18 (.t 5)⟩,
             ⟨none,.ia 19 sz (.t 17) (.t 18)⟩,
             ⟨none,.ld 20 agg sz (.t 19)⟩,
             ⟨none,.mv 21 (.t 1)⟩,
             ⟨none,.mv 22 (.t 5)⟩,
             ⟨none,.ia 23 sz (.t 21) (.t 22)⟩,
             ⟨none,.ld 24 agg sz (.t 23)⟩,
             ⟨none,.call (some 25) f [(.t 20),(.t 24)]⟩,
             ⟨none,.un 26 .not (.t 25)⟩])
           (.cond (.t 26)
            ((.seq
             (.gt false [⟨none,.mv 4 (.c (.sc (.bool false)))⟩])
             (.ret)))
            (.skip)))))
         (.gt false [⟨none,.mv 15 (.t 5)⟩,
           ⟨none,.bin 16 .add (.t 15) (.c (.sc (.int .i64 1)))⟩,
           ⟨none,.mv 5 (.t 16)⟩])))))))))
    ((.seq
     (.gt false [⟨none,.mv 4 (.c (.sc (.bool true)))⟩])
     (.ret))))))))
abbrev SL(α:Type):=Option Bool×List α
def eI(n:Int):D:=.sc (.int .i64 n)
def eB(b:Bool):D:=.sc (.bool b)
def eS{α:Type}(sz:Nat)(f:α→D)(s:SL α):D:=.ls s.1 sz (s.2.map f)
structure FA {α:Type} (f:α→D) (sz:Nat) (agg:Bool):Prop where
 pos:0<sz
 size:∀x,(f x).size=sz
 fK:∀x,(f x).fK=agg
 sub:∀x,D.sub (f x) 0 sz agg=f x
def uA(x:Int):Int:=if x<0 then -1 else x
def jn{nn:Option Bool}{sz:Nat}{r:List D}(h:D.vO (.ls nn sz ds::r)):ds.length≤gp:=by simp only[D.vO,D.bd]at h;exact h.1.1
def vQ{α:Type}(sA:α→Int→Int):List α→Int→Int
 | [],left=>left
 |x::r,left=>if left<0 then left else vQ sA r (sA x left)
def mA{α:Type}{sA:α→Int→Int}:∀{r:List α} {left:Int},left<0→vQ sA r left=left
 | [],_,_=>rfl
 |s::r,left,h=>by simp[vQ,h]
def AD{α:Type}(sA:α→Int→Int)(s:SL α)(left:Int):Int:=vQ sA s.2 (uA (left-s.2.length))
def uz{α:Type}(q:α→α→Bool):List α→List α→Bool
 | [],[]=>true
 |x::a,y::b=>q x y&&uz q a b
 |_,_=>false
def w4{α:Type}{q:α→α→Bool}:∀{a b:List α},a.length≠b.length→uz q a b=false
 | [],[],h=>(h rfl).elim
 | [],_::_,_=>rfl
 |_::_,[],_=>rfl
 |x::a,y::b,h=>by simp only[uz,w4 (a:=a) (b:=b) (by simpa using h),bJ]
def uS{α:Type}(f:α→D)(z:D)(l:List α)(i:Nat):List D:=(l.take i).map f++List.replicate (l.length-i) z
variable {z:D}
def Dv{α:Type}{f:α→D}{l:List α}(h:i≤l.length):(uS f z l i).length=l.length:=by simp[uS];omega
def AK{α:Type}{f:α→D}{l:List α}:uS f z l 0=List.replicate l.length z:=by simp[uS]
def AE{α:Type}{f:α→D}{l:List α}(h:l.length≤i):uS f z l i=l.map f:=by
 simp[uS,bZ h,Nat.sub_eq_zero_of_le h]
def Hf{α:Type}{f:α→D}{l:List α}(h:i<l.length):D.at (uS f z l i) i=z:=by
 simp only[uS,D.at,bi];rw[eo (by simp;omega)];rw[List.getElem?_replicate,an (by simp;omega)]
 rfl
def Dl{α:Type}{f:α→D}{l:List α}(h:i<l.length):(uS f z l i).set i (f l[i])=uS f z l (i+1):=by
 unfold uS;rw[List.set_append_right _ _ (by simp;omega)];have e1:l.length-i=(l.length-(i+1))+1:=by omega
 have e2:i-((l.take i).map f).length=0:=by simp;omega
 rw[e1,e2,dM,ej,eD h,bH,bz]
 rfl
section
variable {P:Program}(hm:P.follows .mixedOrders = true)
include hm
variable {g:Nat}
def Xz{sz:Nat}(hr:gq P g=some (12,Mn,[.t 4]))(nn:Option Bool)(ds:List D)(left:Int)(h1: -1≤left)(h2:left≤1048576):
  AF P g [.ls nn sz ds,eI left] (.own (eI (uA (left-ds.length)))):=by
 refine fH hr hm rfl fun hb=>?_;have hl:=jn hb;unfold gp at hl;simp-implicitDefEqProofs only[Mn,eI,go_sem,↓reduceIte,Nat.reduceEqDiff,Nat.reduceAdd,Nat.reduceLeDiff,Nat.reduceMul,Nat.reduceBEq,Nat.reduceBneDiff];rw[fF (by omega) (by omega)];exact⟨fun h=>D.Le.gm (by simp[uA,h]),fun h=>D.Le.gm (by simp[uA,h])⟩
variable {agg:Bool}{h sz:Nat}
def LP{α:Type}{f:α→D}(e:FA f sz agg)(hr:gq P g=some (27,zr h sz agg,[.t 4]))(sA:α→Int→Int)(s:SL α)
  (hc:∀x∈s.2,∀l:Int,0≤l→l≤1048576→AF P h [f x,eI l] (.own (eI (sA x l)))∧-1≤sA x l∧sA x l≤1048576) (left:Int) (h1: -1≤left) (h2:left≤1048576):
  AF P g [eS sz f s,eI left] (.own (eI (AD sA s left))):=by
 refine fH hr hm rfl fun hb=>?_;have hl:=jn hb;unfold gp at hl;simp only[lM]at hl;have hp:=e.pos;simp-implicitDefEqProofs only[zr,eS,go_sem,eI,↓reduceIte,Nat.reduceEqDiff,Nat.reduceAdd,Nat.reduceLeDiff,Nat.reduceMul,Nat.reduceBEq,Nat.reduceBneDiff,lM];rw[fF (by omega) (by omega)];refine⟨fun h=>D.Le.gm ?_,fun h=>?_⟩
 ·simp only[AD,uA,an h];rw[mA (by omega)]
 refine oL (α:=Nat×Int) (fun x=>⟨27,[(0,.im none (.ls s.1 sz (s.2.map f))),(1,.im none (.sc (.int .i64 x.2))),(5,.im none (.sc (.int .i64 x.1)))],[]⟩)
  (fun x=>x.1≤s.2.length∧0≤x.2∧x.2≤1048576∧vQ sA (s.2.drop x.1) x.2=AD sA s left) (fun x=>s.2.length-x.1) (0,left-s.2.length)
  (iC.env (by simp only[f7,go_sem,↓reduceIte,Nat.reduceEqDiff];simp)) ⟨by simp,by simp;omega,by simp;omega,by simp only[AD,uA,al h,az]⟩ ?_
 rintro⟨i,l⟩ ⟨j1,j2,j3,j4⟩;simp only at j1 j2 j3 j4
 by_cases hi:i<s.2.length
 ·have e1:=iS (f:=f) hi;obtain⟨a1,a2,a3⟩:=hc s.2[i] (aZ _) l j2 j3;simp-implicitDefEqProofs only[go_sem,eI,↓reduceIte,Nat.reduceEqDiff,Nat.reduceAdd,Nat.reduceLeDiff,Nat.reduceMul,Nat.reduceBEq,Nat.reduceBneDiff,e1,e.sub,e.size,e.fK,hp,iL,hi,lM,iN,aV,cO,cj,bm,cQ,cx,cH,aw,aU,cU];refine⟨id,fy ?_ a1 ?_⟩;exact rfl;simp-implicitDefEqProofs only[go_sem,eI,↓reduceIte,Nat.reduceEqDiff,Nat.reduceAdd,Nat.reduceLeDiff,Nat.reduceMul,Nat.reduceBEq,Nat.reduceBneDiff];rw[cy hi]at j4;simp only[vQ,al (show ¬l<0 by omega)]at j4;refine⟨fun h=>D.Le.gm ?_,fun h=>?_⟩;rw[←j4,mA h];congr 1;omega;rw[fF (by omega) (by omega)];refine⟨(i+1,sA s.2[i] l),⟨by simp;omega,by simpa using h,a3,j4⟩,by simp;omega,iC.env (by simp only[f7,go_sem,↓reduceIte,Nat.reduceEqDiff];simp)⟩
 simp-implicitDefEqProofs only[go_sem,eI,↓reduceIte,Nat.reduceEqDiff,Nat.reduceAdd,Nat.reduceLeDiff,Nat.reduceMul,Nat.reduceBEq,Nat.reduceBneDiff,iL,hi,lM,cj,bm,cQ,cV,cx,cH];refine D.Le.gm ?_;rw[←j4,bQ (by omega)]
 rfl
def Ms{α:Type}{f:α→D}(e:FA f sz agg)(hr:gq P g=some (27,zc h sz agg,[.t 4]))(q:α→α→Bool)(a b:SL α)
  (hc:∀x∈a.2,∀y∈b.2,AF P h [f x,f y] (.own (eB (q x y)))):
  AF P g [eS sz f a,eS sz f b] (.own (eB (uz q a.2 b.2))):=by
 refine fH hr hm rfl fun hb=>?_;have hl:=jn hb;have wO:=jn hb.2;unfold gp at hl wO;simp only[lM]at hl wO;have hp:=e.pos;simp-implicitDefEqProofs only[zc,eS,go_sem,eI,eB,↓reduceIte,Nat.reduceEqDiff,Nat.reduceAdd,Nat.reduceLeDiff,Nat.reduceMul,Nat.reduceBEq,Nat.reduceBneDiff,lM];refine⟨fun h=>D.Le.gm ?_,fun h=>?_⟩
 ·rw[w4 (by simp at h;omega)]
 have hlen:a.2.length=b.2.length:=by simp at h;omega
 refine oL (α:=Nat) (fun i=>⟨27,[(0,.im none (.ls a.1 sz (a.2.map f))),(1,.im none (.ls b.1 sz (b.2.map f))),(5,.im none (.sc (.int .i64 i)))],[]⟩)
  (fun i=>i≤a.2.length∧uz q (a.2.drop i) (b.2.drop i)=uz q a.2 b.2) (fun i=>a.2.length-i) 0
  (iC.env (by simp only[f7,go_sem,↓reduceIte,Nat.reduceEqDiff];simp)) ⟨by simp,by simp⟩ ?_
 rintro i ⟨j1,j4⟩
 by_cases hi:i<a.2.length
 ·have Ei:i<b.2.length:=by omega
  have e1:=iS (f:=f) hi;have e2:=iS (f:=f) Ei;have a1:=hc a.2[i] (aZ _) b.2[i] (aZ _);simp-implicitDefEqProofs only[go_sem,eI,eB,↓reduceIte,Nat.reduceEqDiff,Nat.reduceAdd,Nat.reduceLeDiff,Nat.reduceMul,Nat.reduceBEq,Nat.reduceBneDiff,e1,e2,e.sub,e.size,e.fK,hp,Ei,iL,hi,lM,iN,aV,cO,cj,bm,cQ,cV,cx,cH,aw,aU,cU];refine⟨id,id,fy ?_ a1 ?_⟩;exact rfl;simp-implicitDefEqProofs only[go_sem,eI,eB,↓reduceIte,Nat.reduceEqDiff,Nat.reduceAdd,Nat.reduceLeDiff,Nat.reduceMul,Nat.reduceBEq,Nat.reduceBneDiff];rw[cy hi,cy Ei]at j4;simp only[uz]at j4;refine⟨fun h=>D.Le.gm ?_,fun h=>?_⟩;rw[←j4];simp at h;simp[h];rw[fF (by omega) (by omega)];refine⟨i+1,⟨by omega,?_⟩,by omega,iC.env (by simp only[f7,go_sem,↓reduceIte,Nat.reduceEqDiff];simp)⟩;rw[←j4];simp at h;simp[h]
 simp-implicitDefEqProofs only[go_sem,eI,eB,↓reduceIte,Nat.reduceEqDiff,Nat.reduceAdd,Nat.reduceLeDiff,Nat.reduceMul,Nat.reduceBEq,Nat.reduceBneDiff,iL,hi,lM,iN,aV,cO,cj,bm,cQ,cV,cx,cH,aw,aU,cU];refine D.Le.gm ?_;rw[←j4,bQ (by omega),bQ (by omega)]
 rfl
def Zc(hr:gq P g=some (26,ZC,[.t 4]))(a b:SL Int):
  AF P g [eS 1 eI a,eS 1 eI b] (.own (eB (uz (fun x y=>x==y) a.2 b.2))):=by
 refine fH hr hm rfl fun hb=>?_;have hl:=jn hb;have wO:=jn hb.2;unfold gp at hl wO;simp only[lM]at hl wO;simp-implicitDefEqProofs only[ZC,eS,go_sem,eI,eB,↓reduceIte,Nat.reduceEqDiff,Nat.reduceAdd,Nat.reduceLeDiff,Nat.reduceMul,Nat.reduceBEq,Nat.reduceBneDiff,lM];refine⟨fun h=>D.Le.gm ?_,fun h=>?_⟩
 ·rw[w4 (by simp at h;omega)]
 have hlen:a.2.length=b.2.length:=by simp at h;omega
 refine oL (α:=Nat) (fun i=>⟨26,[(0,.im none (.ls a.1 1 (a.2.map eI))),(1,.im none (.ls b.1 1 (b.2.map eI))),(5,.im none (.sc (.int .i64 i)))],[]⟩)
  (fun i=>i≤a.2.length∧uz (fun x y=>x==y) (a.2.drop i) (b.2.drop i)=uz (fun x y=>x==y) a.2 b.2) (fun i=>a.2.length-i) 0
  (iC.env (by simp only[f7,go_sem,↓reduceIte,Nat.reduceEqDiff];simp)) ⟨by simp,by simp⟩ ?_
 rintro i ⟨j1,j4⟩
 by_cases hi:i<a.2.length
 ·have Ei:i<b.2.length:=by omega
  have e1:=iS (f:=eI) hi;have e2:=iS (f:=eI) Ei;simp-implicitDefEqProofs only[go_sem,eI,eB,↓reduceIte,Nat.reduceEqDiff,Nat.reduceAdd,Nat.reduceLeDiff,Nat.reduceMul,Nat.reduceBEq,Nat.reduceBneDiff,e1,e2,Ei,iL,hi,lM,iN,aV,cO,cj,bm,cQ,cV,cx,cH,aw,aU,cU];rw[cy hi,cy Ei]at j4;simp only[uz]at j4;refine⟨fun h=>D.Le.gm ?_,fun h=>?_⟩;rw[←j4];simp at h;simp[h];rw[fF (by omega) (by omega)];refine⟨i+1,⟨by omega,?_⟩,by omega,iC.env (by simp only[f7,go_sem,↓reduceIte,Nat.reduceEqDiff];simp)⟩;rw[←j4];simp at h;simp[h]
 simp-implicitDefEqProofs only[go_sem,eI,eB,↓reduceIte,Nat.reduceEqDiff,Nat.reduceAdd,Nat.reduceLeDiff,Nat.reduceMul,Nat.reduceBEq,Nat.reduceBneDiff,iL,hi,lM,iN,aV,cO,cj,bm,cQ,cV,cx,cH,aw,aU,cU];refine D.Le.gm ?_;rw[←j4,bQ (by omega),bQ (by omega)]
 rfl
def Zr(hr:gq P g=some (26,X8,[.t 4]))(a b:SL Bool):
  AF P g [eS 1 eB a,eS 1 eB b] (.own (eB (uz (fun x y=>x==y) a.2 b.2))):=by
 refine fH hr hm rfl fun hb=>?_;have hl:=jn hb;have wO:=jn hb.2;unfold gp at hl wO;simp only[lM]at hl wO;simp-implicitDefEqProofs only[X8,eS,go_sem,eI,eB,↓reduceIte,Nat.reduceEqDiff,Nat.reduceAdd,Nat.reduceLeDiff,Nat.reduceMul,Nat.reduceBEq,Nat.reduceBneDiff,lM];refine⟨fun h=>D.Le.gm ?_,fun h=>?_⟩
 ·rw[w4 (by simp at h;omega)]
 have hlen:a.2.length=b.2.length:=by simp at h;omega
 refine oL (α:=Nat) (fun i=>⟨26,[(0,.im none (.ls a.1 1 (a.2.map eB))),(1,.im none (.ls b.1 1 (b.2.map eB))),(5,.im none (.sc (.int .i64 i)))],[]⟩)
  (fun i=>i≤a.2.length∧uz (fun x y=>x==y) (a.2.drop i) (b.2.drop i)=uz (fun x y=>x==y) a.2 b.2) (fun i=>a.2.length-i) 0
  (iC.env (by simp only[f7,go_sem,↓reduceIte,Nat.reduceEqDiff];simp)) ⟨by simp,by simp⟩ ?_
 rintro i ⟨j1,j4⟩
 by_cases hi:i<a.2.length
 ·have Ei:i<b.2.length:=by omega
  have e1:=iS (f:=eB) hi;have e2:=iS (f:=eB) Ei;simp-implicitDefEqProofs only[go_sem,eI,eB,↓reduceIte,Nat.reduceEqDiff,Nat.reduceAdd,Nat.reduceLeDiff,Nat.reduceMul,Nat.reduceBEq,Nat.reduceBneDiff,e1,e2,Ei,iL,hi,lM,iN,aV,cO,cj,bm,cQ,cV,cx,cH,aw,aU,cU];rw[cy hi,cy Ei]at j4;simp only[uz]at j4;refine⟨fun h=>D.Le.gm ?_,fun h=>?_⟩;rw[←j4];simp at h;simp[h];rw[fF (by omega) (by omega)];refine⟨i+1,⟨by omega,?_⟩,by omega,iC.env (by simp only[f7,go_sem,↓reduceIte,Nat.reduceEqDiff];simp)⟩;rw[←j4];simp at h;simp[h]
 simp-implicitDefEqProofs only[go_sem,eI,eB,↓reduceIte,Nat.reduceEqDiff,Nat.reduceAdd,Nat.reduceLeDiff,Nat.reduceMul,Nat.reduceBEq,Nat.reduceBneDiff,iL,hi,lM,iN,aV,cO,cj,bm,cQ,cV,cx,cH,aw,aU,cU];refine D.Le.gm ?_;rw[←j4,bQ (by omega),bQ (by omega)]
 rfl
def LV{α β:Type}{f:α→D}{f':β→D}{tA:α→β}{bytes:Nat}{z:D}(e:FA f sz agg)(e':FA f' sz agg)(hz:z.size=sz∧z.gJ=true∧z.fK=agg)(hr:gq P g=some (23,zj h sz bytes agg z,[.t 2]))(s:SL α)
  (lF:bytes*s.2.length≤140737488355328∧s.2.length≤140737488355328) (hc:∀x∈s.2,AF P h [f x] (.own (f' (tA x)))):AF P g [eS sz f s] (.own (eS sz f' (some false,s.2.map tA))):=by
 refine fH hr hm rfl fun hb=>?_;have hl:=jn hb;unfold gp at hl;simp only[lM]at hl;have hp:=e.pos;simp-implicitDefEqProofs only[zj,eS,go_sem,eI,eB,↓reduceIte,Nat.reduceEqDiff,Nat.reduceAdd,Nat.reduceLeDiff,Nat.reduceMul,Nat.reduceBEq,Nat.reduceBneDiff,lM];refine⟨⟨by omega,by omega,by rw[←Int.natCast_mul];exact Int.ofNat_le.2 lF.1,by omega,hp,hz.1,hz.2.1⟩,?_⟩;refine oL (α:=Nat) (fun i=>⟨23,[(0,.im none (.ls s.1 sz (s.2.map f))),(3,.sm 7 0 s.2.length),(4,.im none (.sc (.int .i64 i)))],[(7,.ar true (some false) sz (uS (fun x=>f' (tA x)) z s.2 i))]⟩)
  (fun i=>i≤s.2.length) (fun i=>s.2.length-i) 0
  (by rw[AK];exact iC.env (by simp only[f7,go_sem,↓reduceIte,Nat.reduceEqDiff];simp)) (by simp) ?_
 rintro i j1;have hh:=Dv (f:=fun x=>f' (tA x)) (z:=z) j1
 by_cases hi:i<s.2.length
 ·have e1:=iS (f:=f) hi;have a1:=hc s.2[i] (aZ _);have e2:=Hf (f:=fun x=>f' (tA x)) (z:=z) hi;have e3:=Dl (f:=fun x=>f' (tA x)) (z:=z) hi;simp-implicitDefEqProofs only[go_sem,eI,eB,↓reduceIte,Nat.reduceEqDiff,Nat.reduceAdd,Nat.reduceLeDiff,Nat.reduceMul,Nat.reduceBEq,Nat.reduceBneDiff,e1,e.sub,e.size,e.fK,hp,iL,hi,lM,iN,aV,cO,cj,bm,cQ,cV,cx,cH,aw,aU,cU];refine⟨id,fy ?_ a1 ?_⟩;exact rfl;cases GG:(f' (tA s.2[i])).flat with
  |true=>
   simp-implicitDefEqProofs only[go_sem,eI,eB,↓reduceIte,Nat.reduceEqDiff,Nat.reduceAdd,Nat.reduceLeDiff,Nat.reduceMul,Nat.reduceBEq,Nat.reduceBneDiff,GG,e'.size,hh,e2,e3,hz,iL,hi,lM,iN,aV,cO,cj,bm,cQ,cV,cx,cH,aw,aU,cU];rw[fF (by omega) (by omega)];exact⟨hp,i+1,by omega,by omega,iC.env (by simp only[f7,go_sem,↓reduceIte,Nat.reduceEqDiff];simp)⟩
  |false=>
   simp-implicitDefEqProofs only[go_sem,eI,eB,↓reduceIte,Nat.reduceEqDiff,Nat.reduceAdd,Nat.reduceLeDiff,Nat.reduceMul,Nat.reduceBEq,Nat.reduceBneDiff,GG,e'.size,hh,e2,e3,hz,iL,hi,lM,iN,aV,cO,cj,bm,cQ,cV,cx,cH,aw,aU,cU];rw[fF (by omega) (by omega)];exact⟨hp,i+1,by omega,by omega,iC.env (by simp only[f7,go_sem,↓reduceIte,Nat.reduceEqDiff];simp)⟩
 simp-implicitDefEqProofs only[go_sem,eI,eB,↓reduceIte,Nat.reduceEqDiff,Nat.reduceAdd,Nat.reduceLeDiff,Nat.reduceMul,Nat.reduceBEq,Nat.reduceBneDiff,iL,hi,lM,iN,aV,cO,cj,bm,cQ,cV,cx,cH,aw,aU,cU];rw[AE (by omega),df];exact⟨by simp,D.Le.refl _⟩
def YG{α:Type}{f:α→D}{bytes:Nat}{z:D}(e:FA f 1 false)(kZ:∀x,(f x).flat=true)(hz:z.size=1∧z.gJ=true∧z.fK=false)(hr:gq P g=some (22,Oe bytes z,[.t 2]))(s:SL α)
  (lF:bytes*s.2.length≤140737488355328∧s.2.length≤140737488355328):AF P g [eS 1 f s] (.own (eS 1 f (some false,s.2))):=by
 refine fH hr hm rfl fun hb=>?_;have hl:=jn hb;unfold gp at hl;simp only[lM]at hl;have hp:=e.pos;simp-implicitDefEqProofs only[Oe,eS,go_sem,eI,eB,↓reduceIte,Nat.reduceEqDiff,Nat.reduceAdd,Nat.reduceLeDiff,Nat.reduceMul,Nat.reduceBEq,Nat.reduceBneDiff,lM];refine⟨⟨by omega,by omega,by rw[←Int.natCast_mul];exact Int.ofNat_le.2 lF.1,by omega,hp,hz.1,hz.2.1⟩,?_⟩;refine oL (α:=Nat) (fun i=>⟨22,[(0,.im none (.ls s.1 1 (s.2.map f))),(3,.sm 7 0 s.2.length),(4,.im none (.sc (.int .i64 i)))],[(7,.ar true (some false) 1 (uS (fun x=>f x) z s.2 i))]⟩)
  (fun i=>i≤s.2.length) (fun i=>s.2.length-i) 0
  (by rw[AK];exact iC.env (by simp only[f7,go_sem,↓reduceIte,Nat.reduceEqDiff];simp)) (by simp) ?_
 rintro i j1;have hh:=Dv (f:=fun x=>f x) (z:=z) j1
 by_cases hi:i<s.2.length
 ·have e1:=iS (f:=f) hi;have e2:=Hf (f:=fun x=>f x) (z:=z) hi;have e3:=Dl (f:=fun x=>f x) (z:=z) hi;simp-implicitDefEqProofs only[go_sem,eI,eB,↓reduceIte,Nat.reduceEqDiff,Nat.reduceAdd,Nat.reduceLeDiff,Nat.reduceMul,Nat.reduceBEq,Nat.reduceBneDiff,kZ,e1,e.sub,e.size,e.fK,hp,hh,e2,e3,hz,iL,hi,lM,iN,aV,cO,cj,bm,cQ,cV,cx,cH,aw,aU,cU];rw[fF (by omega) (by omega)];exact⟨i+1,by omega,by omega,iC.env (by simp only[f7,go_sem,↓reduceIte,Nat.reduceEqDiff];simp)⟩
 simp-implicitDefEqProofs only[go_sem,eI,eB,↓reduceIte,Nat.reduceEqDiff,Nat.reduceAdd,Nat.reduceLeDiff,Nat.reduceMul,Nat.reduceBEq,Nat.reduceBneDiff,iL,hi,lM,iN,aV,cO,cj,bm,cQ,cV,cx,cH,aw,aU,cU];rw[AE (by omega)];exact⟨by simp,D.Le.refl _⟩
end
def Lu(x:Int): -1≤uA x:=by unfold uA;split<;>omega
def BF{x b:Int}(h:x≤b)(hb: -1≤b):uA x≤b:=by unfold uA;split<;>omega
def nT{x:Int}(h:0≤uA x):0≤x∧uA x=x:=by
 unfold uA at h⊢
 split at h;omega
 next hx=>rw[al hx];omega
def Lq{α:Type}{sA:α→Int→Int}:∀{r:List α} {l:Int},(∀x∈r,∀l,0≤l→l≤1048576→-1≤sA x l∧sA x l≤l)→-1≤l→l≤1048576→-1≤vQ sA r l∧vQ sA r l≤l
 | [],l,_,h1,h2=>⟨h1,by simp[vQ]⟩
 |x::r,l,h,h1,h2=>by
  simp only[vQ]
  split
  ·exact⟨h1,by omega⟩
  have a:=h x (by simp) l (by omega) h2;have b:=Lq (r:=r) (l:=sA x l) (fun y hy=>h y (by simp[hy])) a.1 (by omega);omega
def HC{α:Type}{sA:α→Int→Int}{fit:α→Prop}:∀{r:List α} {l:Int},(∀x∈r,∀l,0≤l→l≤1048576→-1≤sA x l∧sA x l≤l)→
  (∀x∈r,∀l,l≤1048576→0≤l→0≤sA x l→fit x)→l≤1048576→0≤vQ sA r l→∀x∈r,fit x
 | [],_,_,_,_,_=>by simp
 |y::r,l,h,hf,h1,h2=>by
  simp only[vQ]at h2
  split at h2;omega
  next hl=>
  have a:=h y (by simp) l (by omega) h1;have hy0:0≤sA y l:=by
   by_cases h':sA y l<0;rw[mA h']at h2;exact h2;omega
  intro x hx;rcases aj.1 hx with rfl|hx
  exact hf _ (by simp) l h1 (by omega) hy0;exact HC (fun z hz=>h z (by simp[hz])) (fun z hz=>hf z (by simp[hz])) (by omega) h2 x hx
def NH{α:Type}{sA:α→Int→Int}{s:SL α}{l:Int}(h:∀x∈s.2,∀l,0≤l→l≤1048576→-1≤sA x l∧sA x l≤l)(h1:0≤l)(h2:l≤1048576): -1≤AD sA s l∧AD sA s l≤l:=by
 have c1:=Lu (l-s.2.length);have c2:uA (l-s.2.length)≤l:=BF (by omega) (by omega);have:=Lq h c1 (by omega);unfold AD;omega
def Ho{α:Type}{sA:α→Int→Int}{fit:α→Prop}{s:SL α}{l:Int}(h:∀x∈s.2,∀l,0≤l→l≤1048576→-1≤sA x l∧sA x l≤l)
  (hf:∀x∈s.2,∀l,l≤1048576→0≤l→0≤sA x l→fit x) (h2:l≤1048576) (h0:0≤l) (h3:0≤AD sA s l):s.2.length≤1048576∧∀x∈s.2,fit x:=by
 unfold AD at h3;have c2:uA (l-s.2.length)≤l:=BF (by omega) (by omega);have b:0≤uA (l-s.2.length):=by
  by_cases h':uA (l-s.2.length)<0;rw[mA h']at h3;omega;omega
 have b':=(nT b).1;exact⟨by omega,HC h hf (by omega) h3⟩
def qI{α:Type}{q:α→α→Bool}:∀{l:List α},(∀x∈l,q x x=true)→uz q l l=true
 | [],_=>rfl
 |x::l,h=>by
  have:=qI (l:=l) (q:=q) fun y hy=>h y (by simp[hy]);simp[uz,h x (by simp),this]
structure Gr (P:Program) {α:Type} (f:α→D) (sF tF qF:Nat) where
 s:α→Int→Int
 t:α→α
 q:α→α→Bool
 fit:α→Prop
 oh:∀x l,0≤l→l≤1048576→-1≤s x l∧s x l≤l
 uw:∀x l,l≤1048576→0≤l→0≤s x l→fit x
 om:∀x,q x x=true
 UV:∀x l,0≤l→l≤1048576→AF P sF [f x,eI l] (.own (eI (s x l)))
 UW:∀x,fit x→AF P tF [f x] (.own (f (t x)))
 PM:∀x y,AF P qF [f x,f y] (.own (eB (q x y)))
section
variable {P:Program}(hm:P.follows .mixedOrders = true)
def IN{α:Type}(f:α→D)(sz:Nat):FA (eS sz f) 1 false:=⟨by omega,fun _=>rfl,fun _=>rfl,fun _=>rfl⟩
def afX:FA eI 1 false:=⟨by omega,fun _=>rfl,fun _=>rfl,fun _=>rfl⟩
def afW:FA eB 1 false:=⟨by omega,fun _=>rfl,fun _=>rfl,fun _=>rfl⟩
def noI(n:Int):(eI n).flat=true:=rfl
def noB(n:Bool):(eB n).flat=true:=rfl
def abS{α:Type}{f:α→D}{bytes:Nat}{z:D}{sF tF qF:Nat}(e:FA f 1 false)(kZ:∀x,(f x).flat=true)(hz:z.size=1∧z.gJ=true∧z.fK=false)(lF:bytes≤64)
  (rs:gq P sF=some (12,Mn,[.t 4])) (rt:gq P tF=some (22,Oe bytes z,[.t 2])) (q:List α→List α→Bool) (hq:∀x,q x x=true)
  (aq:∀a b:SL α,AF P qF [eS 1 f a,eS 1 f b] (.own (eB (q a.2 b.2)))):Gr P (eS 1 f) sF tF qF where
 s x l:=uA (l-x.2.length)
 t x:=(some false,x.2)
 q a b:=q a.2 b.2
 fit x:=x.2.length≤1048576
 oh x l h1 h2:=⟨Lu _,BF (by omega) (by omega)⟩
 uw x l h1 h2 h3:=by
  have:=(nT h3).1;omega
 om x:=hq x.2
 UV x l h1 h2:=by
  have:=Xz hm rs (sz:=1) x.1 (x.2.map f) l (by omega) h2;rw[lM]at this;exact this
 UW x h:=YG hm e kZ hz rt x (by
  have:bytes*x.2.length≤64*1048576:=Nat.mul_le_mul lF h;omega)
 PM a b:=aq a b
def SA{α:Type}{f:α→D}{sz bytes:Nat}{agg:Bool}{z:D}{sF tF qF sF' tF' qF':Nat}(k:Gr P f sF tF qF)(e:FA f sz agg)(hz:z.size=sz∧z.gJ=true∧z.fK=agg)(lF:bytes≤1024)
  (rs:gq P sF'=some (27,zr sF sz agg,[.t 4])) (rt:gq P tF'=some (23,zj tF sz bytes agg z,[.t 2])) (rq:gq P qF'=some (27,zc qF sz agg,[.t 4])):Gr P (eS sz f) sF' tF' qF' where
 s:=AD k.s
 t x:=(some false,x.2.map k.t)
 q a b:=uz k.q a.2 b.2
 fit x:=x.2.length≤1048576∧∀y∈x.2,k.fit y
 oh x l h1 h2:=NH (fun y _=>k.oh y) h1 h2
 uw x l h1 h2 h3:=Ho (fun y _=>k.oh y) (fun y _=>k.uw y) h1 h2 h3
 om x:=qI fun y _=>k.om y
 UV x l h1 h2:=LP hm e rs k.s x (fun y _ l' g1 g2=>⟨k.UV y l' g1 g2,(k.oh y l' g1 g2).1,by have:=(k.oh y l' g1 g2).2;omega⟩) l (by omega) h2
 UW x h:=LV hm e e hz rt x (by
  have:bytes*x.2.length≤1024*1048576:=Nat.mul_le_mul lF h.1;have:=h.1;omega) (fun y hy=>k.UW y (h.2 y hy))
 PM a b:=Ms hm e rq k.q a b fun x _ y _=>k.PM x y
end
def kW:List Nat→Nat→Bool
 | [],_=>false
 |a::l,k=>if a=k then true else kW l k
variable {k:Nat}
def Nw:kW [] k=false:=rfl
def Jr{a:Nat}{l:List Nat}:kW (a::l) k=if a=k then true else kW l k:=rfl
attribute [go_sem] Nw Jr
def jQ(ks:List Nat):List (Nat×AV)→List (Nat×AV)
 | []=>[]
 |(k,v)::r=>if kW ks k=true then jQ ks r else(k,v)::jQ (k::ks) r
def L5{ks:List Nat}:jQ ks []=[]:=rfl
def KG{ks:List Nat}{v:AV}{r:List (Nat×AV)}:jQ ks ((k,v)::r)=if kW ks k=true then jQ ks r else(k,v)::jQ (k::ks) r:=rfl
attribute [go_sem] L5 KG
def xQ:∀{l:List Nat},kW l k=true↔k∈l
 | []=>by simp[kW]
 |a::l=>by
  simp only[kW]
  split
  ·next h=>simp[h]
  next h=>rw[xQ];simp[di h]
variable {e:List (Nat×AV)}
def yu:∀{ks:List Nat} {r:List (Nat×AV)},(∀t,t∉ks→lk e t=lk r t)→f7 e (jQ ks r)
 |_,[],_=>trivial
 |ks,(k,v)::r,h=>by
  simp only[jQ]
  split
  ·next hk=>
   refine yu fun t ht=>?_;rw[h t ht];have:k≠t:=by rintro rfl;exact ht (xQ.1 hk)
   simp[lk,this]
  next hk=>
  refine⟨by rw[h k (fun hm=>hk (xQ.2 hm))];simp[lk],yu fun t ht=>?_⟩;simp only[aj,cA]at ht;rw[h t ht.2];simp[lk,di ht.1]
def sk:∀{a b:List (Nat×AV)},f7 e a→f7 e b→f7 e (a++b)
 | [],_,_,h=>h
 |(_,_)::_,_,h1,h2=>⟨h1.1,sk h1.2 h2⟩
def mJ{P:Program}{c:RC}{K:Exit→St→Prop}{α:Type}{n:Nat}{env:List (Nat×AV)}{us:List (Nat×U)}(ks:List Nat)(mc:α→List (Nat×AV))(J:α→Prop)(μ:α→Nat)(x0:α)
  (h0:f7 env (mc x0)) (hJ:J x0)
  (h:∀x,J x→qu P c ⟨n,mc x++jQ ks env,us⟩ (vw (fun s=>∃y,J y∧μ y<μ x∧iC s ⟨n,mc y++jQ ks env,us⟩) K)):qu P (.loop c) ⟨n,env,us⟩ K:=
 oL (fun x=>⟨n,mc x++jQ ks env,us⟩) J μ x0 (iC.env (sk h0 (yu fun _ _=>rfl))) hJ h
def iC.aas{n:Nat}{e':List (Nat×AV)}{us us':List (Nat×U)}(hu:us=us')(h:f7 e e'):iC ⟨n,e,us⟩ ⟨n,e',us'⟩:=hu▸iC.env h
variable {i:Nat}
def ke{α:Type}{p:α→Bool}{l:List α}(hi:i<l.length)(h:(l.take i).all p=true)(hx:p l[i]=true):(l.take (i+1)).all p=true:=by
 rw[eD hi,List.all_append,h];simp[hx]
def lE{α:Type}{p:α→Bool}{l:List α}(hi:¬i<l.length)(h:(l.take i).all p=true):l.all p=true:=by
 rwa [bZ (by omega)]at h
def po{α:Type}{p:α→Bool}{l:List α}(hi:i<l.length)(hx:p l[i]=false):l.all p=false:=
 List.all_eq_false.2 ⟨l[i],aZ hi,by simp[hx]⟩
def adk{nn:Option Bool}{sz:Nat}{ds:List D}(h:D.bd (.ls nn sz ds)):ds.length≤9223372036854775807:=by simp only[D.bd,gp]at h;exact h.1
def nx(x:Int)(k:Int→Int):Int:=if x<0 then -1 else k x
variable {x:Int}
def qP{k:Int→Int}(h:x<0):nx x k= -1:=an h
def mV{k:Int→Int}(h:¬x<0):nx x k=k x:=al h
def CT{l:Int}{k:Int→Int}(hx: -1≤x∧x≤l)(h0:0≤l)(h1:l≤1048576)(hk:∀y,0≤y→y≤l→-1≤k y∧k y≤l): -1≤nx x k∧nx x k≤l:=by
 by_cases h:x<0;rw[qP h];omega;rw[mV h];exact hk x (by omega) hx.2
def De{a y l:Int}(h:y≤l)(h': -1≤a∧a≤y): -1≤a∧a≤l:=⟨h'.1,by omega⟩
def pL{k:Int→Int}(h:0≤nx x k):0≤x∧0≤k x:=by
 by_cases h':x<0;rw[qP h']at h;omega;rw[mV h']at h;omega
section
variable {P:Program}(hm:P.follows .mixedOrders = true)
include hm
end
end Go.Ax
