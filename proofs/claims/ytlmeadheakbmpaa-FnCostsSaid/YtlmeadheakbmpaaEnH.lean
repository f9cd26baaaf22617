/- THE ENGINE, PART 8: a generator of conditions over the register code, and its soundness. No condition. -/
import Derived.Test.YtlmeadheakbmpaaEnG
import Derived.OrdersHeld
import Derived.Deep.LoopGhost
set_option linter.all false
namespace Go.Ax
variable {P:Program}{wv:Wv}{n0:Nat}{S0 M0:Nat→Prop}{w0:World}
variable {ops:Array Oper}{R:List RO}
variable {s:St}
def MJ{cs:List oT}:oZ P cs s→∀c∈cs,tP P c s:=by
 induction cs with
 |nil=>intro _ c hc;cases hc
 |cons c cs ih=>
  intro h x hx;simp only[oZ]at h;obtain⟨h1,h2⟩:=h;rcases ab.1 hx with e|hx
  rw[e];exact h1;exact ih h2 x hx
def lE(ops:Array Oper)(i:Nat):Option Nat:=(ops[i]?).bind (·.dst)
def pH(ops:Array Oper)(val:Nat→Value):List Nat→Act→Act
 | [],a=>a
 |i::L,a=>(pH ops val L a).put (lE ops i) (val i)
def Bw(ops:Array Oper)(e:Nat):List Nat:=(List.range e).reverse.foldl (fun acc i=>if(e::acc).any (fun k=>(gj ops k).contains i)then i::acc else acc) []
variable {a:Act}{v:Value}
def Vm{d:Option Nat}{u:Value}:(a.put d u).put d v=a.put d v:=by
 cases d with
 |none=>rfl
 |some d=>simp[Act.put]
variable {val:Nat→Value}
def JL{d:Option Nat}:∀{L:List Nat} {a:Act},(∀j∈L,∀t,d=some t→lE ops j≠some t)→pH ops val L (a.put d v)=(pH ops val L a).put d v
 | [],_,_=>rfl
 |i::L,a,h=>by
  simp only[pH];rw[JL (fun j hj=>h j (by simp[hj]))];exact Act.put_comm _ v (val i) fun t ht=>h i (by simp) t ht
variable {i:Nat}
def Jn{val:Nat→Value}{v:Value}:∀{L:List Nat} {a:Act},L.Nodup→i∈L→(∀j∈L,j≠i→∀t,lE ops i=some t→lE ops j≠some t)→
  (pH ops val L a).put (lE ops i) v=pH ops val (L.erase i) (a.put (lE ops i) v)
 |j::L,a,hn,hi,h=>by
  rw[aH]at hn
  by_cases e:j=i
  ·subst e;simp only[pH,List.erase_cons_head];rw[Vm,JL];intro k hk t ht;exact h k (by simp[hk]) (fun e=>hn.1 (e▸hk)) t ht
  have hi':i∈L:=by rcases ab.1 hi with h|h;exact absurd h.symm e;exact h
  rw[List.erase_cons_tail (by simpa using e)];simp only[pH];rw[←Jn hn.2 hi' (fun k hk=>h k (by simp[hk]))];exact(Act.put_comm _ v (val j) fun t ht=>h j (by simp) e t ht).symm
def Fo{o:Oper}(hs:∀cs b,o.op≠.select cs b):∀{L:List Nat} {a:Act},(∀j∈L,∀d,lE ops j=some d→d∉o.looksAt ops)→execOp (pH ops val L a).eval o=execOp a.eval o
 | [],_,_=>rfl
 |i::L,a,h=>by
  simp only[pH];rw[execOp_put (ops:=ops) o hs _ _ _ (h i (by simp))];exact Fo hs fun j hj=>h j (by simp[hj])
variable {w:World}
def Gb{Q:Exit→Act→World→Prop}{val:Nat→Value}{j:Nat}{oj:Oper}(H9:Region.noSelect ops=true)(hj:ops[j]?=some oj)(hQ:∀c a w,¬Q (.panic c) a w):∀{L:List Nat} {a:Act} {K:Act→World→Prop},
  (∀l∈L,∃ol,ops[l]?=some ol∧ol.apart ops oj=true∧ol.guard=none)→wpOp P ops Q j K (pH ops val L a) w→wpOp P ops Q j (fun a' w'=>K (pH ops val L a') w') a w
 | [],_,_,_,h=>h
 |i::L,a,K,hL,h=>by
  obtain⟨ol,h1,h2,h3⟩:=hL i (by simp);simp only[pH]at h⊢;have hd:lE ops i=ol.dst:=by simp[lE,h1]
  rw[hd]at h⊢;have:=wpOp_putIf (S:=fun _=>False) (oi:=ol) hj h2 (fun cs b=>dX H9 i ol cs b h1) (fun cs b=>dX H9 j oj cs b hj) (fun c a w hq=>absurd hq (hQ _ _ _)) (.inl ⟨by simp[Region.wanted,h3],fun _ hf=>hf.elim⟩) h;exact dO (fun a' w' hk=>hk.2) (Gb H9 hj hQ (fun l hl=>hL l (by simp[hl])) this)
def Zw{X:List Nat}{e:Nat}(hc:∀i∈X,∀j∈gj ops i,j∈X)(hw:∀j∈gj ops e,j∈X):∀i∈Bw ops e,i∈X:=by
 have key:∀(l acc:List Nat),(∀i∈acc,i∈X)→∀i∈l.foldl (fun acc i=>if(e::acc).any (fun k=>(gj ops k).contains i)then i::acc else acc) acc,i∈X:=by
  intro l
  induction l with
  |nil=>intro acc h;exact h
  |cons x l ih=>
   intro acc h;simp only[de];refine ih _ ?_
   split
   ·next hx=>
    rw[dw]at hx;obtain⟨k,hk,tR⟩:=hx;rw[bH,a7]at tR;intro i hi;rcases ab.1 hi with rfl|hi
    ·rcases ab.1 hk with rfl|hk
     exact hw _ tR;exact hc k (h k hk) _ tR
    exact h i hi
   exact h
 exact key _ [] (by simp)
def ml.ready{X:List Nat}{gi:Array Bool}(h:ml P ops R X gi)(hi:i<ops.size)(hm:i∉X)(hw:∀j∈gj ops i,j∈X):i∈Region.ready .any ops gi:=by
 rw[dG];refine⟨?_,ops[i],by simp[hi],fun x hx hb=>?_⟩
 ·cases hc:gi.getD i true with
  |false=>rfl
  |true=>exact absurd ((h.li i hi).1 hc) hm
 have EA:x.on∈gj ops i:=by
  simp only[gj,cP hi,qo];exact aB.2 ⟨x,aQ.2 ⟨by simpa using hx,hb⟩,rfl⟩
 have nK:=hw _ EA;have:=(h.li x.on (h.lt _ nK)).2 nK;rw[bM]at this⊢;have hs:x.on<gi.size:=by rw[h.size];exact h.lt _ nK
 rw[cP hs]at this⊢;exact this
structure GI (ops:Array Oper) (R:List RO) (L:List Nat):Prop where
 op:∀l∈L,∃ol r,ops[l]?=some ol∧R[l]?=some r∧ol.guard=none∧r.g=none∧r.op.NB=true
 look:∀l∈L,∀ol,ops[l]?=some ol→∀j∈L,j∈gj ops l∨∀d,lE ops j=some d→d∉ol.looksAt ops
 inj:∀i∈L,∀j∈L,j≠i→∀t,lE ops i=some t→lE ops j≠some t
def Ws{r:oT}(h:r.NB=true):∃d,r.dst=some d:=by cases r<;>first|exact⟨_,rfl⟩|cases h
def BF(ops:Array Oper)(R:List RO):Nat→List Nat→List Nat→Pj
 |0,Lc,_=>.br (Lc.map fun i=>(R.getD i default).op) []
 |m+1,Lc,es=>.br (Lc.map fun i=>(R.getD i default).op) ((es.filter fun e=>es.all fun x=>!(gj ops e).contains x).map fun e=>(R.getD e default,BF ops R m (Lc.filter fun l=>!(Bw ops e).contains l) (es.erase e)))
variable {K:Exit→St→Prop}
def Fh{q:Prop}{f:Nat→RO×Pj}:∀{l:List Nat},tL P (l.map f) s K q→∀i∈l,gR P [(f i).1] s (fun _ s'=>sB P (f i).2 s' K)
 | [],_,i,hi=>by cases hi
 |x::l,h,i,hi=>by
  simp only[lC]at h;rw[show f x=((f x).1,(f x).2)from rfl]at h;simp only[tL]at h;rcases ab.1 hi with rfl|hi
  exact h.1;exact Fh h.2 i hi
def LP{n:Nat}{K:Exit→St→Prop}{L:List Nat}(hR:∀(i:Nat) (o:Oper),ops[i]?=some o→∃r,R[i]?=some r∧kl P wv n ops o=some r)
  (pC:∀i,∀j∈gj ops i,j<i) (H9:Region.noSelect ops=true) (hL:GI ops R L):∀(fuel:Nat)(es:List Nat)(Pd Lc X:List Nat)(val:Nat→Value)(gi:Array Bool)(s:St)(a:Act)(w:World),
  ml P ops R X gi→fuel+X.length=ops.size→(∀j,j<ops.size→(j∉X↔j∈es∨j∈Pd))→es.Nodup→(∀e∈es,e<ops.size∧e∉Pd)→Pd.Nodup→(∀i∈Pd,i∈Lc)→(∀i∈Lc,i∈L)→
  (∀l∈Lc,∃e∈es,l∈Bw ops e)→(∀l∈L,∀e∈es,l∈gj ops e∨∀ol oe,ops[l]?=some ol→ops[e]?=some oe→ol.apart ops oe=true)→
  k9 n0 S0 M0 w0 s (pH ops val Pd a) w→s.n=n→sB P (BF ops R es.length Lc es) s K→wpAny P .any ops (fun e a w=>e=.normal∧oG n0 S0 M0 w0 n K e a w) fuel gi a w
 |fuel,[],Pd,Lc,X,val,gi,s,a,w,hc,hf,BQ,_,_,_,X0,_,wq,_,hs,hn,hq=>by
  have hLc:Lc=[]:=dV.2 fun i hi=>by obtain⟨e,he,_⟩:=wq i hi;cases he
  have hPd:Pd=[]:=dV.2 fun i hi=>by have:=X0 i hi;rw[hLc]at this;cases this
  subst hPd;simp only[lZ,BF,sB,tL,eN]at hq;refine wpAny_done ?_ ⟨rfl,s,hn,hq.2,hs⟩ fuel;rw[dV];intro i hi;obtain⟨_,h2,o,ho,_⟩:=hc.next hi;have:=(BQ i (bc.1 ho).1).1 h2;simp at this
 |0,e::es,Pd,Lc,X,val,gi,s,a,w,hc,hf,BQ,_,Cc,_,_,_,_,_,_,_,_=>by
  have he:=(Cc e (by simp)).1;have h1:=nB hc.nd hc.lt (by omega) e he;exact absurd h1 ((BQ e he).2 (.inl (by simp)))
 |fuel+1,e::es,Pd,Lc,X,val,gi,s,a,w,hc,hf,BQ,EZ,Cc,kn,X0,hLL,wq,Lt,hs,hn,hq=>by
  have H7:=(Cc e (by simp)).1;simp only[lK,BF,sB]at hq;refine⟨fun h0=>?_,fun i hi=>?_⟩
  ·exfalso;have iy:∀i,i<ops.size→i∈X:=by
    intro i
    induction i using Nat.strongRecOn with
    |ind i ih=>
     intro hi;refine dg fun g9=>?_;have:=hc.ready hi g9 fun j hj=>ih j (pC i j hj) (by have:=pC i j hj;omega);rw[h0]at this;cases this
   exact(BQ e H7).2 (.inl (by simp)) (iy e H7)
  obtain⟨h1,h2,o,ho,h3⟩:=hc.next hi;have his:=(bc.1 ho).1;obtain⟨r,hr,fM⟩:=hR i o ho;have gv:=fM;unfold kl at gv;simp only[oD,oB,fP]at gv;obtain⟨op,EY,_,zb,_,hdn,gv⟩:=gv;have o7:r.op=op:=by
   split at gv
   ·simp only[oP,oS]at gv;rw[←gv]
   simp only[oB,oP,oS]at gv;obtain⟨_,_,_,_,gv⟩:=gv;rw[←gv]
  have hdo:lE ops i=o.dst:=by simp[lE,ho]
  by_cases hiP:i∈Pd
  ·
   have OY:=hLL i (X0 i hiP);obtain⟨ol,r',e1,e2,hgd,hg,ju⟩:=hL.op i OY;rw[ho]at e1;injection e1 with e1;subst e1;rw[hr]at e2;injection e2 with e2;subst e2;have X1:tP P r.op s:=by
    have:=MJ hq.1 r.op (aB.2 ⟨i,X0 i hiP,by simp[aE,hr]⟩);exact this
   rw[o7]at X1 ju;obtain⟨d,hd⟩:=Ws ju;unfold tP at X1;rw[hd]at X1;simp only at X1;have hod:o.dst=some d:=by rw[←zb];exact hd
   obtain⟨g,hu,hv⟩:=hs.gh;have yZ:∀t,o.dst=some t→t<s.n:=by
    intro t ht;rw[hn];rw[ht]at hdn;simpa using hdn
   obtain⟨av,v,hH,jQ,⟨hav,_⟩⟩:=Be EY ju ⟨hs,hu,hv,yZ⟩ X1;have alJ:∀cs b,o.op≠.select cs b:=fun cs b=>dX H9 i o cs b ho;have hex:execOp (pH ops val Pd a).eval o=execOp a.eval o:=Fo alJ fun j hj t ht=>by
    rcases hL.look i OY o ho j (hLL j (X0 j hj))with h4|h4
    have hjX:=h3 j h4;exact absurd hjX ((BQ j (hc.lt j hjX)).2 (.inr hj));exact h4 t ht
   rw[hex]at hH;have nL:k9 n0 S0 M0 w0 s (pH ops val (Pd.erase i) (a.put o.dst v)) w:=by
    have x:=jY hs hu hv yZ jQ;rw[←hdo,Jn kn hiP (fun j hj g9 t ht=>hL.inj i OY j (hLL j (X0 j hj)) g9 t ht),hdo]at x;rw[hod]at x;rw[hod];refine x.eqv rfl ?_ (List.Perm.refl _);intro t;simp only[St.mu,St.set,lk]
    split
    ·next h=>subst h;exact hav.symm
    rfl
   unfold wpOp;rw[ho];simp only;rw[af (by simp[Region.wanted,hgd])];refine .inl ?_;unfold Oper.wp;rw[hH];refine LP hR pC H9 hL fuel (e::es) (Pd.erase i) Lc (i::X) val _ s _ w h1 (by simp only[lK];omega) ?_ EZ (fun x hx=>⟨(Cc x hx).1,fun hm=>(Cc x hx).2 (List.mem_of_mem_erase hm)⟩) (kn.erase i) (fun j hj=>X0 j (List.mem_of_mem_erase hj)) hLL wq Lt nL hn (by simp only[lK,BF,sB];exact hq);intro j hj;rw[kn.mem_erase_iff];have:=BQ j hj;constructor
   ·intro hx;rcases this.1 (fun h=>hx (bg _ h))with h4|h4
    exact .inl h4;exact .inr ⟨fun e=>hx (by simp[e]),h4⟩
   rintro(h4|⟨h4,h5⟩) hx
   ·rcases ab.1 hx with rfl|hx
    exact(Cc _ h4).2 hiP;exact this.2 (.inl h4) hx
   rcases ab.1 hx with rfl|hx
   exact h4 rfl;exact this.2 (.inr h5) hx
  ·
   have hie:i∈e::es:=((BQ i his).1 h2).elim (fun h=>h) fun h4=>absurd h4 hiP;have oJ:R.getD i default=r:=by simp[aE,hr]
   have OW:=Fh (f:=fun e'=>(R.getD e' default,BF ops R es.length (Lc.filter fun l=>!(Bw ops e').contains l) ((e::es).erase e'))) hq.2 i (aQ.2 ⟨hie,by
    rw[aM];intro x hx;simp only[cp,bH,cK];intro hm;have hxX:=h3 x hm;exact(BQ x (hc.lt x hxX)).2 (.inl hx) hxX⟩)
   simp only[oJ]at OW;have tS:match r.g with|none=>tY P r.op s (fun s'=>sB P (BF ops R es.length (Lc.filter fun l=>!(Bw ops i).contains l) ((e::es).erase i)) s' K)|some (t,b)=>qO (s.get t) b (tY P r.op s (fun s'=>sB P (BF ops R es.length (Lc.filter fun l=>!(Bw ops i).contains l) ((e::es).erase i)) s' K)) (sB P (BF ops R es.length (Lc.filter fun l=>!(Bw ops i).contains l) ((e::es).erase i)) (s.mu r.op.dst (.lf [])) K):=by
    obtain⟨gg,op'⟩:=r;cases gg with
    |none=>exact OW
    |some x=>exact OW
   rw[←hn]at fM;have K4:=uF (Q':=fun e a w=>e=.normal∧oG n0 S0 M0 w0 n K e a w) fM hs tS;have alK:∀l∈Pd,∃ol,ops[l]?=some ol∧ol.apart ops o=true∧ol.guard=none:=by
    intro l hl;obtain⟨ol,rl,e1,_,hgd,_,_⟩:=hL.op l (hLL l (X0 l hl));rcases Lt l (hLL l (X0 l hl)) i hie with h4|h4
    have hx:=h3 l h4;exact absurd hx ((BQ l (hc.lt l hx)).2 (.inr hl));exact⟨ol,e1,h4 ol o e1 ho,hgd⟩
   have step:wpOp P ops (fun e a w=>e=.normal∧oG n0 S0 M0 w0 n K e a w) i (km n0 S0 M0 w0 s.n (fun s'=>sB P (BF ops R es.length (Lc.filter fun l=>!(Bw ops i).contains l) ((e::es).erase i)) s' K)) (pH ops val Pd a) w:=by
    unfold wpOp;rw[ho];simp only
    split
    ·next hw=>exact .inl (K4.1 hw)
    next hw=>exact K4.2 (by simpa using hw)
   refine dO ?_ (Gb H9 ho (fun c a w h=>by simp at h) alK step);rintro a' w' ⟨s',Ey,KV,nL⟩;have afE:((e::es).erase i).Nodup:=EZ.erase i;have hmE:∀j,j∈(e::es).erase i↔j≠i∧j∈e::es:=fun j=>EZ.mem_erase_iff;have hlen:es.length=((e::es).erase i).length:=by rw[List.length_erase_of_mem hie];rfl
   refine LP hR pC H9 hL fuel ((e::es).erase i) Pd _ (i::X) val _ s' a' w' h1 (by simp only[lK];omega) ?_ afE (fun x hx=>Cc x ((hmE x).1 hx).2) kn ?_ (fun j hj=>hLL j (aQ.1 hj).1) ?_ (fun l hl x hx=>Lt l hl x ((hmE x).1 hx).2) nL (Ey.trans hn) (by rw[←hlen];exact KV)
   ·intro j hj;have:=BQ j hj;rw[hmE];constructor
    ·intro hx;rcases this.1 (fun h=>hx (bg _ h))with h4|h4
     ·exact .inl ⟨fun e=>hx (by simp[e]),h4⟩
     exact .inr h4
    rintro h4 hx;rcases ab.1 hx with rfl|hx
    ·rcases h4 with h4|h4
     exact h4.1 rfl;exact hiP h4
    exact this.2 (h4.imp (fun h=>h.2) id) hx
   ·intro j hj;refine aQ.2 ⟨X0 j hj,?_⟩;simp only[cp,bH,cK];intro hm;have hx:=Zw hc.closed h3 j hm;exact(BQ j (hc.lt j hx)).2 (.inr hj) hx
   intro l hl;obtain⟨OT,Ek⟩:=aQ.1 hl;simp only[cp,bH,cK]at Ek;obtain⟨e',he',hle⟩:=wq l OT;exact⟨e',(hmE e').2 ⟨fun h=>Ek (h▸hle),he'⟩,hle⟩
def abp{X:List Nat}(h1:X.Nodup)(h2:∀i∈X,i<ops.size)(h3:∀i∈X,∀j∈gj ops i,j∈X):∃gi,ml P ops R X gi:=
 ⟨Array.ofFn (n:=ops.size) (fun i=>decide (i.1∈X)),h1,h2,h3,by simp,fun j hj=>by simp[bM,hj]⟩
def AO{p:Nat}:∀{L:List Nat} {a:Act},pH ops val (L++[p]) a=pH ops val L (a.put (lE ops p) (val p))
 | [],_=>rfl
 |i::L,a=>by simp only[bf,pH];rw[AO]
def Ea{val':Nat→Value}:∀{L:List Nat} {a:Act},(∀i∈L,val i=val' i)→pH ops val L a=pH ops val' L a
 | [],_,_=>rfl
 |i::L,a,h=>by simp only[pH];rw[Ea fun j hj=>h j (by simp[hj]),h i (by simp)]
variable {L:List Nat}{st:St}
def acp{V:Nat→Rs}{S N:List Nat}(hd:uW P wv ops R st V S N)(hL:GI ops R L):∀(ps X:List Nat)(a:Act)(w:World),X.Nodup→(∀i∈X,i∈N)→(∀i∈X,∀j∈gj ops i,j∈X)→ps.Pairwise (· <·)→
  (∀i∈ps,i∈N∧i∈L∧i∉X)→(∀i∈ps,∀j∈gj ops i,j∈X∨j∈ps)→k9 n0 S0 M0 w0 (f9 st (gW R) V X) a w→∃val,k9 n0 S0 M0 w0 (f9 st (gW R) V (ps.reverse++X)) (pH ops val ps.reverse a) w
 | [],X,a,w,_,_,_,_,_,_,hs=>⟨fun _=>undef,hs⟩
 |p::ps,X,a,w,kn,hXN,rh,NA,Ik,hpw,hs=>by
  obtain⟨hpN,hpL,hpX⟩:=Ik p (by simp);rw[dW]at NA;have iq:∀i∈X,i<ops.size:=fun i hi=>by rw[←hd.len];exact((hd.mem i).1 (hXN i hi)).1
  obtain⟨gi,ah6⟩:=abp (P:=P) (R:=R) kn iq rh;obtain⟨o,r,ho,hr,hgd,hg,ju⟩:=hL.op p hpL;obtain⟨r',Ig,fM⟩:=hd.res p o ho;rw[hr]at Ig;injection Ig with Ig;subst Ig;have hw:∀j∈gj ops p,j∈X:=by
   intro j hj;have h1:=hd.pC p j hj;rcases hpw p (by simp) j hj with h2|h2
   exact h2;rcases ab.1 h2 with h3|h3
   omega;have:=NA.1 j h3;omega
  obtain⟨op,EY,o7,hQ,zb,yZ,⟨g,BO⟩,oJ,Xq⟩:=vN hd ah6 hXN hpN hr fM hw hpX hs;have ko:=hd.step p r hpN hr;unfold kf at ko;rw[hg]at ko;have tS:=Xq ko;rw[o7]at tS ju;obtain⟨av,v,hH,jQ,hav,hu0⟩:=Be EY ju BO tS;have hdR:gW R p=op.dst:=by simp[gW,hr,o7]
  have hdo:lE ops p=o.dst:=by simp[lE,ho]
  have xH:k9 n0 S0 M0 w0 (f9 st (gW R) V (p::X)) (a.put (lE ops p) v) w:=by
   have x:=jY BO.sat BO.us BO.rep BO.dst jQ;have e:f9 st (gW R) V (p::X)=kK (f9 st (gW R) V X) op.dst (V p):=by simp only[f9];rw[hdR]
   rw[e,hdo,zb];unfold kK;rw[←hu0,lp,←hav];exact x
  obtain⟨val,hv⟩:=acp hd hL ps (p::X) (a.put (lE ops p) v) w (aH.2 ⟨hpX,kn⟩) (fun i hi=>(ab.1 hi).elim (fun e=>e▸hpN) (hXN i))
   (fun i hi j hj=>(ab.1 hi).elim (fun e=>bg _ (hw j (e▸hj))) (fun h=>bg _ (rh i h j hj))) NA.2
   (fun i hi=>⟨(Ik i (by simp[hi])).1,(Ik i (by simp[hi])).2.1,fun h=>(ab.1 h).elim (fun e=>by have:=NA.1 i hi;omega) (Ik i (by simp[hi])).2.2⟩)
   (fun i hi j hj=>(hpw i (by simp[hi]) j hj).elim (fun h=>.inl (bg _ h)) (fun h=>(ab.1 h).elim (fun e=>.inl (by simp[e])) .inr)) xH
  refine⟨fun i=>if i=p then v else val i,?_⟩;have hpp:∀i∈ps.reverse,i≠p:=fun i hi=>by have:=NA.1 i (df.1 hi);omega
  simp only[List.reverse_cons,bC,List.singleton_append];rw[AO,af rfl,Ea (val':=val) (fun i hi=>by simp[hpp i hi])];exact hv
def LN{V:Nat→Rs}{K:Exit→St→Prop}{S L:List Nat}{e:Nat}{es:List Nat}(hd:uW P wv ops R st V S (NL S R))(hE:EL S R=e::es)(EZ:∀x∈es,∃y∈e::es,y∈gj ops x)(H9:Region.noSelect ops=true)
  (hL:GI ops R L) (hLN:∀l∈L,l∈NL S R) (hce:∀l∈L,∃x∈e::es,l∈Bw ops x) (Lt:∀l∈L,∀x∈e::es,l∈gj ops x∨∀ol oe,ops[l]?=some ol→ops[x]?=some oe→ol.apart ops oe=true)
  (hup:∀i∈NL S R,i∉L→∀j∈gj ops i,j∉L)
  (Xt:∀i∈NL S R,i∉L→oF ops R i=true∨i∈gj ops e∨∃k∈NL S R,k∉L∧i<k∧oF ops R k=false∧i∈gj ops k)
  (wq:sB P (BF ops R (e::es).length L (e::es)) (f9 st (gW R) V (NL S R).reverse) K):∀(fuel:Nat)(X:List Nat)(gi:Array Bool)(a:Act)(w:World),
  ml P ops R X gi→(∀i∈X,i∈NL S R)→fuel+X.length=ops.size→k9 n0 S0 M0 w0 (f9 st (gW R) V X) a w→wpAny P .any ops (fun e a w=>e=.normal∧oG n0 S0 M0 w0 st.n K e a w) fuel gi a w:=by
 have pz:e<ops.size:=by
  have:e∈EL S R:=by rw[hE];simp
  rw[←hd.len];exact(kV.1 this).1
 have heN:e∉NL S R:=by
  have:e∈EL S R:=by rw[hE];simp
  intro h;have h1:=(kV.1 this).2;have h2:=(ic.1 h).2;rw[h1]at h2;cases h2
 have Cc:∀x∈e::es,x<ops.size∧x∉NL S R:=by
  intro x hx;rw[←hE]at hx;obtain⟨h1,h2⟩:=kV.1 hx;exact⟨by rw[←hd.len];exact h1,fun h=>by have:=(ic.1 h).2;rw[h2]at this;cases this⟩
 have fin:∀(fuel:Nat)(X:List Nat)(gi:Array Bool)(a:Act)(w:World),ml P ops R X gi→(∀i∈X,i∈NL S R)→fuel+X.length=ops.size→k9 n0 S0 M0 w0 (f9 st (gW R) V X) a w→(∀i∈NL S R,i∉L→i∈X)→
   wpAny P .any ops (fun e a w=>e=.normal∧oG n0 S0 M0 w0 st.n K e a w) fuel gi a w:=by
  intro fuel X gi a w h hX hl hs iy;have Ik:((NL S R).filter fun i=>decide (i∉X)).Pairwise (· <·):=List.Pairwise.filter _ (nC S R);have hpm:∀i,i∈((NL S R).filter fun i=>decide (i∉X))↔i∈NL S R∧i∉X:=fun i=>by simp
  generalize hpe:((NL S R).filter fun i=>decide (i∉X))=ps at Ik hpm;obtain⟨val,hv⟩:=acp hd hL ps X a w h.nd hX h.closed Ik (fun i hi=>by
    obtain⟨h1,h2⟩:=(hpm i).1 hi;exact⟨h1,dg fun h3=>h2 (iy i h1 h3),h2⟩)
   (fun i hi j hj => by
    by_cases hx:j∈X;exact .inl hx;exact .inr ((hpm j).2 ⟨hd.nw i ((hpm i).1 hi).1 j hj,hx⟩)) hs
  have yY:=qc Ik;have kn:(ps.reverse++X).Nodup:=by
   rw[aX];refine⟨(dH _).nodup_iff.2 yY,h.nd,fun x hx y hy e=>?_⟩;subst e;exact((hpm x).1 (df.1 hx)).2 hy
  have hp:(ps.reverse++X).Perm (NL S R).reverse:=(dN kn ((dH _).nodup_iff.2 hd.Im)).2 fun i=>by
   rw[an,df,df,hpm];constructor
   ·rintro(h1|h1);exact h1.1;exact hX i h1
   intro h1
   by_cases hx:i∈X;exact .inr hx;exact .inl ⟨h1,hx⟩
  have nL:k9 n0 S0 M0 w0 (f9 st (gW R) V (NL S R).reverse) (pH ops val ps.reverse a) w:=by
   refine hv.eqv (by rw[jl,jl]) ?_ ?_
   ·intro t;have x:=j9 (iz:=st) (V:=V) hd.inj (L:=ps.reverse++X) (t:=t);have y:=j9 (iz:=st) (V:=V) hd.inj (L:=(NL S R).reverse) (t:=t)
    by_cases he:∃j,j∈ps.reverse++X∧gW R j=some t
    ·obtain⟨j,h1,h2⟩:=he;rw[x.1 j h1 h2,y.1 j (hp.mem_iff.1 h1) h2]
    rw[x.2 fun k hk e=>he ⟨k,hk,e⟩,y.2 fun k hk e=>he ⟨k,hp.mem_iff.2 hk,e⟩]
   rw[jf,jf];exact((hp.flatMap_right _).append_right _).symm
  refine LP hd.res hd.pC H9 hL fuel (e::es) ps.reverse L X val gi _ a w h hl ?_ (by rw[←hE];exact(eX fD List.nodup_range)) ?_ ((dH _).nodup_iff.2 yY) ?_ (fun i hi=>hi) hce Lt nL jl wq
  ·intro j hj;have hjR:j<R.length:=by rw[hd.len];exact hj
   rw[←hE,df,hpm];constructor
   ·intro hx;cases hq:S.contains j with
    |true=>exact .inr ⟨ic.2 ⟨hjR,hq⟩,hx⟩
    |false=>exact .inl (kV.2 ⟨hjR,hq⟩)
   rintro(h1|h1) hx;have h2:=(kV.1 h1).2;have h3:=(ic.1 (hX j hx)).2;rw[h2]at h3;cases h3;exact h1.2 hx
  ·intro x hx;exact⟨(Cc x hx).1,fun hm=>(Cc x hx).2 ((hpm x).1 (df.1 hm)).1⟩
  intro i hi;obtain⟨h1,h2⟩:=(hpm i).1 (df.1 hi);exact dg fun h3=>h2 (iy i h1 h3)
 intro fuel
 induction fuel with
 |zero=>
  intro X gi a w h hX hl hs;have:=nB h.nd h.lt (by omega) e pz;exact absurd (hX e this) heN
 |succ fuel ih=>
  intro X gi a w h hX hl hs
  by_cases iy:∀i∈NL S R,i∉L→i∈X;exact fin (fuel+1) X gi a w h hX hl hs iy
  have pD:∀i,i<ops.size→i∉X→(∀j∈gj ops i,j∈X)→i∈Region.ready .any ops gi:=fun i hi hm hw=>h.ready hi hm hw
  by_cases hF:∃f∈NL S R,f∉X∧oF ops R f=true∧∀j∈gj ops f,j∈X
  ·obtain⟨f,K5,Xv,jH,OX⟩:=hF;have hfs:f<ops.size:=by rw[←hd.len];exact(ic.1 K5).1
   have Ls:=pD f hfs Xv OX;obtain⟨h1,h2,o,ho,h3⟩:=h.next Ls;obtain⟨r,hr,fM⟩:=hd.res f o ho;unfold oF at jH;rw[ho,hr]at jH;simp only[bA,eH,aM,bK]at jH;obtain⟨⟨Xw,jH⟩,Lt⟩:=jH;obtain⟨op,EY,o7,hQ,zb,yZ,⟨g,BO⟩,oJ,Xq⟩:=vN hd h hX K5 hr fM OX Xv hs;have ko:=hd.step f r K5 hr;unfold kf at ko;rw[Xw]at ko;have tS:=Xq ko;rw[o7]at tS jH;obtain⟨v,hv⟩:=tC EY jH BO tS;have Xg:o.guard=none:=by
    have gv:=fM;unfold kl at gv;simp only[oD,oB,fP]at gv;obtain⟨_,_,_,_,_,_,gv⟩:=gv
    split at gv
    ·assumption
    simp only[oB,oP,oS]at gv;obtain⟨_,_,_,_,gv⟩:=gv;rw[←gv]at Xw;cases Xw
   have BN:Region.wanted o (yielded ops a.tmps)=true:=by simp[Region.wanted,Xg]
   have tT:k9 n0 S0 M0 w0 (f9 st (gW R) V (f::X)) (a.put o.dst v) w:=by
    have:=tD (Q:=fun _ _ _=>False) hd h hX K5 ho hr fM OX Xv hs;unfold wpOp at this;rw[ho]at this;simp only[BN,ay]at this;rcases this with h4|⟨_,a',w',h4⟩
    unfold Oper.wp at h4;rw[hv w]at h4;exact h4;exact h4.elim
   refine wpAny_first ho (dX H9) (fun c a w hh=>absurd hh.1 (by simp)) fuel gi a w ?_ Ls (.inl ⟨BN,hv⟩) (ih (f::X) _ _ w h1 (fun i hi=>(ab.1 hi).elim (fun e=>e▸K5) (hX i)) (by simp only[lK];omega) tT);intro j oj hj g9 jm oK;have XU:=(bc.1 hj).1;have:=Lt j XU;rw[hj]at this;simp only[ba,aU,g9,dR,bH,a7]at this;rcases this with h4|h4|h4
   exact absurd ((h.li j XU).2 (OX j h4)) (by rw[jm];simp);simp only[gj,hj,qo]at h4;obtain⟨x,hx,hxe⟩:=aB.1 h4;obtain⟨BP,EB⟩:=aQ.1 hx;exact absurd hxe (oK x (by simpa using BP) EB);exact h4
  have Eo:(∀j∈gj ops e,j∈X)→False:=by
   intro hw;have hnf:∀m i,i∈NL S R→i∉L→R.length-i≤m→oF ops R i=false→i∈X:=by
    intro m
    induction m with
    |zero=>intro i hi _ hm _;have:=(ic.1 hi).1;omega
    |succ m ihm=>
     intro i hi OY hm jH;rcases Xt i hi OY with h1|h1|⟨k,hk,hkL,h1,h2,h3⟩
     rw[jH]at h1;cases h1;exact hw i h1;exact h.closed k (ihm k hk hkL (by omega) h2) i h3
   refine iy ?_;intro i
   induction i using Nat.strongRecOn with
   |ind i Xx=>
    intro hi OY;cases jH:oF ops R i with
    |false=>exact hnf _ i hi OY (aw _) jH
    |true=>
     refine dg fun g9=>hF ⟨i,hi,g9,jH,fun j hj=>Xx j (hd.pC i j hj) (hd.nw i hi j hj) (hup i hi OY j hj)⟩
  refine⟨fun h0=>?_,fun i hi=>?_⟩
  ·exfalso;refine iy ?_;intro i
   induction i using Nat.strongRecOn with
   |ind i Xx=>
    intro hi OY;refine dg fun g9=>?_;have:=pD i (by rw[←hd.len];exact(ic.1 hi).1) g9 fun j hj=>Xx j (hd.pC i j hj) (hd.nw i hi j hj) (hup i hi OY j hj);rw[h0]at this;cases this
  obtain⟨h1,h2,o,ho,h3⟩:=h.next hi;have his:=(bc.1 ho).1;have XY:i∈NL S R:=by
   have XZ:i<R.length:=by rw[hd.len];exact his
   refine ic.2 ⟨XZ,?_⟩;cases hq:S.contains i with
   |true=>rfl
   |false=>
    exfalso;have hm:i∈e::es:=by rw[←hE];exact kV.2 ⟨XZ,hq⟩
    rcases ab.1 hm with rfl|hm
    exact Eo h3;obtain⟨y,hy,hyw⟩:=EZ i hm;have H8:y∈EL S R:=by rw[hE];exact hy
    have h4:=(ic.1 (hX _ (h3 _ hyw))).2;rw[(kV.1 H8).2]at h4;cases h4
  obtain⟨r,hr,fM⟩:=hd.res i o ho;refine dO ?_ (tD hd h hX XY ho hr fM h3 h2 hs);intro a' w' nL;exact ih (i::X) _ a' w' h1 (fun j hj=>(ab.1 hj).elim (fun e=>e▸XY) (hX j)) (by simp only[lK];omega) nL
def WW(ops:Array Oper)(R:List RO)(S:List Nat)(e:Nat):List Nat:=
 let A:=Bw ops e
 let B:=(List.range R.length).foldl (fun acc i=>if A.contains i||(oF ops R i&&(gj ops i).all (fun j=>acc.contains j))then i::acc else acc) []
 (NL S R).filter fun i=>!B.contains i
def N9(ops:Array Oper)(R:List RO)(L es:List Nat)(l:Nat)(ol:Oper)(r:RO):Bool:=
 ol.guard.isNone&&r.g.isNone&&r.op.NB&&
  (L.all fun j=>(gj ops l).contains j||(match lE ops j with|some d=>!(ol.looksAt ops).contains d|none=>true))&&
  (L.all fun j=>j==l||(match lE ops l with|some d=>lE ops j !=some d|none=>true))&&
  (es.all fun x=>(gj ops x).contains l||(match ops[x]? with|some ox=>ol.apart ops ox|none=>true))
def NH(ops:Array Oper)(R:List RO)(S L es:List Nat):Bool:=
 L.all fun l=>S.contains l&&decide (l<R.length)&&(match ops[l]?,R[l]? with
  |some ol,some r=>N9 ops R L es l ol r
  |_,_=>false)
def ad8(ops:Array Oper)(R:List RO):List RO:=(NL (G6 ops R) R).map fun i=>R.getD i default
def G4(ops:Array Oper)(R:List RO):Bool:=
 let S:=G6 ops R
 CS (R.filterMap (·.op.dst))&&(R.length==ops.size)&&Region.noSelect ops&&
 match EL S R with
 | []=>false
 |e::es=>
  let L:=WW ops R S e
  (es.all fun x => (e :: es).any fun y => (gj ops x).contains y) && (L.all fun l => (e :: es).any fun x => (Bw ops x).contains l) && NH ops R S L (e :: es) && (List.range R.length).all fun i =>
   (gj ops i).all (· < i) && (!S.contains i || (wZ R i && (gj ops i).all (fun j => S.contains j) && (match R[i]? with | some r => r.lq.all (qp ops R i) | none => true) &&
    (L.contains i||((gj ops i).all (fun j=>!L.contains j)&&(oF ops R i||(gj ops e).contains i||(List.range R.length).any fun k=>decide (i<k)&&S.contains k&& !L.contains k&& !oF ops R k&&(gj ops k).contains i)))))
def afn(ops:Array Oper)(R:List RO):Pj:=
 match EL (G6 ops R) R with
 | []=>.br [] []
 |e::es=>BF ops R (e::es).length (WW ops R (G6 ops R) e) (e::es)
def I4{st:St}{K:Exit→St→Prop}{id:Nat}{a:Act}{w:World}(hm:Mx P)(hd:G4 ops R=true)
  (hR:ops.toList.mapM (kl P wv st.n ops)=some R) (hs:k9 n0 S0 M0 w0 st a w) (hq:gR P (ad8 ops R) st (fun _ s=>sB P (afn ops R) s K)):(Code.region id ops true).wp P (oG n0 S0 M0 w0 st.n K) a w:=by
 refine cQ (Q:=fun e a w=>e=.normal∧oG n0 S0 M0 w0 st.n K e a w) (eL hm ?_) (fun e a w h=>h.2);unfold G4 at hd;unfold ad8 afn at hq;generalize G6 ops R=S at hd hq;simp only[bA,aU]at hd;obtain⟨⟨⟨d1,d2⟩,d3⟩,hd⟩:=hd;cases hE:EL S R with
 |nil=>rw[hE]at hd;cases hd
 |cons e es=>
  rw[hE]at hd hq;simp only at hd hq;generalize WW ops R S e=L at hd hq;simp only[bA,aM,bK,a7]at hd;obtain⟨⟨⟨alL,alM⟩,R3⟩,iy⟩:=hd;have EZ:∀x∈es,∃y∈e::es,y∈gj ops x:=fun x hx=>by
   have:=alL x hx;rw[dw]at this;obtain⟨y,h1,h2⟩:=this;exact⟨y,h1,by simpa using h2⟩
  have hce:∀l∈L,∃x∈e::es,l∈Bw ops x:=fun x hx=>by
   have:=alM x hx;rw[dw]at this;obtain⟨y,h1,h2⟩:=this;exact⟨y,h1,by simpa using h2⟩
  have hNQ:∀r∈(NL S R).map (fun i=>R.getD i default),r.op.xQ=true:=by
   intro r hr;obtain⟨i,hi,rfl⟩:=aB.1 hr;obtain⟨h1,h2⟩:=ic.1 hi;have h3:=(iy i h1).2;rw[h2]at h3;simp only[bT,cY,bA]at h3;have h4:=h3.1.1.1;simpa[wZ,aE,h1]using h4
  obtain⟨rl,s',hx,hK,hl⟩:=nG hNQ hq;obtain⟨g,hu,hv⟩:=hs.gh;have kn:=qc (nC S R);have hV:(NL S R).map (fun i=>rl.getD ((NL S R).idxOf i) (.any,[]))=rl:=by
   apply dD
   simp at hl;simp[hl];intro p h1 h2;have hp:p<(NL S R).length:=by simpa using h1
   simp[aE,fF kn p hp,h2]
  generalize hVd:(fun i=>rl.getD ((NL S R).idxOf i) ((.any,[]):Rs))=V at hV;have hD:∀i∈NL S R,gW R i=(R.getD i default).op.dst:=by
   intro i hi;have iq:=(ic.1 hi).1;simp[gW,aE,iq]
  obtain⟨e1,ju⟩:=adU (D:=gW R) (V:=V) (iz:=st) (L:=[]) hD hx rfl hV;simp only[aI]at e1 ju;have vt:∀{i:Nat} {r:RO},R[i]?=some r→i<R.length:=fun h=>(bj.1 h).1;have Br:∀i,∀j∈gj ops i,j<i:=by
   intro i j hj
   by_cases hi:i<R.length;exact(iy i hi).1 j hj
   have:ops[i]?=none:=by simp;omega
   simp[gj,this]at hj
  have hN:∀i∈NL S R,((wZ R i=true∧(gj ops i).all (fun j=>S.contains j)=true)∧(match R[i]? with|some r=>r.lq.all (qp ops R i)|none=>true)=true)∧
    (L.contains i||((gj ops i).all (fun j=>!L.contains j)&&(oF ops R i||(gj ops e).contains i||(List.range R.length).any fun k=>decide (i<k)&&S.contains k&& !L.contains k&& !oF ops R k&&(gj ops k).contains i)))=true:=by
   intro i hi;obtain⟨h1,h2⟩:=ic.1 hi;have:=(iy i h1).2;rw[h2]at this;simpa only[bT,cY,bA]using this
  have hDE:uW P wv ops R st V S (NL S R):=by
   refine⟨d2,?_,ya (qw d1),Br,fun i=>ic,fun i hi=>(hN i hi).1.1.1,kn,?_,?_,?_,?_⟩;intro i o ho;exact qt hR i o (by simpa using ho)
   ·intro i hi j hj;have h1:=(hN i hi).1.1.2;rw[aM]at h1;have h2:=Br i j hj;have h3:=(ic.1 hi).1;exact ic.2 ⟨by omega,h1 j hj⟩
   intro i r t hi hr ht j hj;have h2:=(hN i hi).1.2;rw[hr]at h2;simp only[aM]at h2;have hs:=h2 t ht;unfold qp at hs;simp only[aM,bK]at hs;simp only[gW,oB]at hj;obtain⟨x,hx,hd⟩:=hj;have:=hs j (vt hx);rw[hx]at this;simpa[hd]using this
   ·intro i r hi hr;obtain⟨p,hp,rfl⟩:=dP.1 hi;have:=ju p hp;rw[CV (nC S R) p hp]at this;rw[aE,hr]at this;exact this
   rw[←e1];exact zG hx hu.keys
  have tF:∀l∈L,l∈NL S R∧∃ol r,ops[l]?=some ol∧R[l]?=some r∧ol.guard=none∧r.g=none∧r.op.NB=true∧(∀j∈L,j∈gj ops l∨∀d,lE ops j=some d→d∉ol.looksAt ops)∧
    (∀j∈L,j≠l→∀t,lE ops l=some t→lE ops j≠some t)∧(∀x∈e::es,l∈gj ops x∨∀ox,ops[x]?=some ox→ol.apart ops ox=true):=by
   intro l hl;unfold NH at R3;rw[aM]at R3;have h:=R3 l hl;simp only[bA,a7]at h;obtain⟨⟨h1,h2⟩,h3⟩:=h;refine⟨ic.2 ⟨h2,h1⟩,?_⟩
   split at h3
   ·next ol r ho hr=>
    unfold N9 at h3;simp only[bA,aM,eH]at h3;obtain⟨⟨⟨⟨⟨h4,h5⟩,h6⟩,h7⟩,h8⟩,h9⟩:=h3;refine⟨ol,r,ho,hr,h4,h5,h6,?_,?_,?_⟩
    ·intro j hj;have:=h7 j hj;rw[ba]at this;rcases this with h|h
     exact .inl (by simpa using h);refine .inr fun d hd=>?_;rw[hd]at h;simpa using h
    ·intro j hj g9 t ht;have:=h8 j hj;rw[ba]at this;rcases this with h|h
     exact absurd (by simpa using h) g9;rw[ht]at h;simpa using h
    intro x hx;have:=h9 x hx;rw[ba]at this;rcases this with h|h
    exact .inl (by simpa using h);refine .inr fun ox hox=>?_;rw[hox]at h;exact h
   cases h3
  have hLO:GI ops R L:=by
   refine⟨fun l hl=>?_,fun l hl ol ho j hj=>?_,fun i hi j hj g9 t ht=>?_⟩;obtain⟨_,ol,r,h1,h2,h3,h4,h5,_⟩:=tF l hl;exact⟨ol,r,h1,h2,h3,h4,h5⟩;obtain⟨_,ol',r,h1,_,_,_,_,h6,_⟩:=tF l hl;rw[ho]at h1;injection h1 with h1;subst h1;exact h6 j hj;obtain⟨_,ol',r,h1,_,_,_,_,_,h7,_⟩:=tF i hi;exact h7 j hj g9 t ht
  have hc:ml P ops R [] (Array.replicate ops.size false):=⟨bp,by simp,by simp,by simp,fun j hj=>by simp[bM,hj]⟩;refine LN hDE hE EZ d3 hLO (fun l hl=>(tF l hl).1) hce ?_ ?_ ?_ (by rw[←e1];exact hK) ops.size [] _ a _ hc (by simp) (by simp) ⟨hs.ms,hs.v8,hs.tm,hs.base,hs.os,hs.tape,hs.output,hs.size,hs.jL,hs.gh⟩
  ·intro l hl x hx;obtain⟨_,ol',r,h1,_,_,_,_,_,_,h8⟩:=tF l hl;refine(h8 x hx).imp (fun h=>h) fun h ol oe ho hoe=>?_;rw[ho]at h1;injection h1 with h1;subst h1;exact h oe hoe
  intro i hi OY j hj;have:=(hN i hi).2;simp only[ba,bH,a7,OY,dR,bA,aM]at this;have:=this.1 j hj;simpa using this;intro i hi OY;have:=(hN i hi).2;simp only[ba,bH,a7,OY,dR,bA]at this;have:=this.2;simp only[dw,bK,bA,a7,cp,cK]at this;rcases this with(h1|h1)|⟨k,hk,⟨⟨⟨h1,h2⟩,h3⟩,h4⟩,h5⟩
  exact .inl h1;exact .inr (.inl h1);exact .inr (.inr ⟨k,ic.2 ⟨hk,by simpa using h2⟩,h3,h1,h4,h5⟩)
def JR{L:List RO}{K:St→Prop}{q:Prop}{f:Nat→Tr}:∀{l:List Nat},Bu P L (l.map fun i=>(i,f i)) st K q→∀i∈l,gR P [L.getD i default] st (fun _ s=>Lg P L (f i) s K)
 | [],_,i,hi=>by cases hi
 |x::l,h,i,hi=>by
  simp only[lC,Bu]at h;rcases ab.1 hi with rfl|hi
  exact h.1;exact JR h.2 i hi
def UE{ops:Array Oper}{R:List RO}{n:Nat}{K:St→Prop}(hlen:R.length=ops.size)(hR:∀(i:Nat) (o:Oper),ops[i]?=some o→∃r,R[i]?=some r∧kl P wv n ops o=some r)
  (pC:∀i,∀j∈gj ops i,j<i):∀(m:Nat)(X:List Nat)(gi:Array Bool)(s:St)(a:Act)(w:World),ml P ops R X gi→m+X.length=ops.size→
  k9 n0 S0 M0 w0 s a w→s.n=n→Lg P R (To (gj ops) R.length m X) s K→wpAny P .any ops (fun e a w=>e=.normal∧oG n0 S0 M0 w0 n (fun _=>K) e a w) m gi a w
 |0,X,gi,s,a,w,hc,hl,hs,hn,hq=>by
  have ah7:=nB hc.nd hc.lt (by omega);refine wpAny_done ?_ ⟨rfl,s,hn,by simpa[To,Lg,Bu]using hq,hs⟩ 0;rw[dV];intro i hi;obtain⟨_,h2,o,ho,_⟩:=hc.next hi;exact h2 (ah7 i (bc.1 ho).1)
 |m+1,X,gi,s,a,w,hc,hl,hs,hn,hq=>by
  refine⟨fun h0=>?_,fun i hi=>?_⟩
  ·exfalso;have iy:=hc.full pC h0;have hp:=(zX hc.nd hc.lt).length_eq;have:(jt ops.size).filter (fun i=>decide (i∈X))=jt ops.size:=List.filter_eq_self.2 fun i hi=>by simpa using iy i (nz.1 hi)
   rw[this,Am]at hp;omega
  obtain⟨h1,h2,o,ho,h3⟩:=hc.next hi;obtain⟨r,hr,fM⟩:=hR i o ho;have XZ:i<R.length:=(bj.1 hr).1;have oJ:R.getD i default=r:=by simp[aE,hr]
  simp only[To,Lg]at hq;have hq:=JR (f:=fun i=>To (gj ops) R.length m (i::X)) hq i (aQ.2 ⟨bK.2 XZ,by
   simp only[bA,cp,aM,bH,a7,cK];exact⟨h2,h3⟩⟩)
  rw[oJ]at hq;have tS:match r.g with|none=>tY P r.op s (jZ P [] (fun _ s=>Lg P R (To (gj ops) R.length m (i::X)) s K))|some (t,b)=>qO (s.get t) b (tY P r.op s (jZ P [] (fun _ s=>Lg P R (To (gj ops) R.length m (i::X)) s K))) (jZ P [] (fun _ s=>Lg P R (To (gj ops) R.length m (i::X)) s K) (s.mu r.op.dst (.lf []))):=by
   obtain⟨g,op⟩:=r;cases g with
   |none=>exact hq
   |some x=>exact hq
  rw[←hn]at fM;have K4:=uF (Q':=fun e a w=>e=.normal∧oG n0 S0 M0 w0 n (fun _=>K) e a w) fM hs tS;have next:∀{a':Act} {w':World},km n0 S0 M0 w0 s.n (jZ P [] (fun _ s=>Lg P R (To (gj ops) R.length m (i::X)) s K)) a' w'→wpAny P .any ops (fun e a w=>e=.normal∧oG n0 S0 M0 w0 n (fun _=>K) e a w) m (gi.setIfInBounds i true) a' w':=by
   rintro a' w' ⟨s',Ey,hf,nL⟩;exact UE hlen hR pC m (i::X) _ s' a' w' h1 (by simp only[lK];omega) nL (Ey.trans hn) hf
  unfold wpOp;rw[ho];simp only
  split
  ·next hw=>exact .inl (dv (fun a' w' h=>next h) (K4.1 hw))
  next hw=>exact next (K4.2 (by simpa using hw))
def HL(ops:Array Oper)(R:List RO):Bool:=decide (R.length≤8)&&(R.length==ops.size)&&(List.range R.length).all fun i=>(gj ops i).all (· <i)
def IY{ops:Array Oper}{R:List RO}{st:St}{K:Exit→St→Prop}{id:Nat}{a:Act}{w:World}(hm:Mx P)(hd:HL ops R=true)
  (hR:ops.toList.mapM (kl P wv st.n ops)=some R) (hs:k9 n0 S0 M0 w0 st a w) (hq:vcA P R (To (gj ops) R.length R.length []) st (K .normal)):(Code.region id ops true).wp P (oG n0 S0 M0 w0 st.n K) a w:=by
 obtain⟨gp,hq,hk⟩:=hq;unfold HL at hd;simp only[bA,aU,aM,bK,a7]at hd;obtain⟨⟨_,d2⟩,d3⟩:=hd;have pC:∀i,∀j∈gj ops i,j<i:=by
  intro i j hj
  by_cases hi:i<R.length;exact d3 i hi j hj
  have:ops[i]?=none:=by simp;omega
  simp[gj,this]at hj
 refine cQ (Q:=fun e a w=>e=.normal∧oG n0 S0 M0 w0 st.n (fun _ s=>gO s gp) e a w) (eL hm ?_) (fun e a w h=>?_)
 ·have hc:ml P ops R [] (Array.replicate ops.size false):=by
   refine⟨bp,by simp,by simp,by simp,fun j hj=>?_⟩;simp[bM,hj]
  have:=UE (P:=P) (wv:=wv) (w0:=w0) (n0:=n0) (S0:=S0) (M0:=M0) (n:=st.n) (K:=fun s=>gO s gp) d2 (fun i o ho=>qt hR i o (by simpa using ho)) pC ops.size [] (Array.replicate ops.size false) st a {w with drawn:=w.drawn+1} hc (by simp) ⟨hs.ms,hs.v8,hs.tm,hs.base,hs.os,hs.tape,hs.output,hs.size,hs.jL,hs.gh⟩ rfl (by rw[←d2];rw[←d2]at*;exact hq);exact this
 obtain⟨rfl,s,h1,h2,h3⟩:=h;have h4:=h2 _ _ _ _ _ _ h3;exact⟨gp,h4.tm.symm.trans (h3.tm.trans h1),hk,h4⟩
variable {k:Nat}
def UT(hs:k9 n0 S0 M0 w0 st a w)(hk:k∉st.us.map (·.1)):k9 n0 S0 M0 w0 ⟨st.n,st.env,(k,.own .jk)::st.us⟩ a w:=by
 obtain⟨g,hu,hv⟩:=hs.gh;obtain⟨h1,h2⟩:=hu.W6 (d:=.jk) (F:=[]) (v:=.bool false) hk (by simp only[gJ];exact⟨trivial,.bool false,rfl,rfl⟩) (by simp only[D.fits];rfl) bp (by simp) (by simp) (by simp) (by simp);exact⟨hs.ms,hs.v8,hs.tm,hs.base,hs.os,hs.tape,hs.output,hs.size,hs.jL,_,h1,fun t=>h2 _ _ (hv t)⟩
def Pk(r:RO):Option (Nat×Nat×Nat×Nat×Nat):=
 match r with
 |⟨none,.app d sz bytes (.t x) (.t y)⟩=>some (d,sz,bytes,x,y)
 |_=>none
variable {d sz x y:Nat}
def RN{r:RO}{bytes:Nat}(h:Pk r=some (d,sz,bytes,x,y)):r=⟨none,.app d sz bytes (.t x) (.t y)⟩:=by
 unfold Pk at h
 split at h
 ·injection h with h;injection h with h1 h;injection h with h2 h;injection h with h3 h;injection h with h4 h5;subst h1 h2 h3 h4 h5;rfl
 cases h
def md(R:List RO)(p:Nat):List Nat:=match R[p]? with|some r=>(match Pk r with|some (_,_,_,x,y)=>[x,y]|none=>[])|none=>[]
def pN(R:List RO)(A X:List Nat)(t:Nat):Bool:=A.any fun p=>X.contains p&&(md R p).contains t
variable {t:Nat}
def jD{R:List RO}{A X:List Nat}:pN R A X t=true↔∃p∈A,p∈X∧t∈md R p:=by
 simp[pN]
def Gq(f:Nat→Bool)(x:Nat×U):Nat×U:=if f x.1=true then(x.1,.own .jk)else x
def dead(f:Nat→Bool)(s:St):St:=⟨s.n,s.env.map fun x=>(x.1,if f x.1=true then .any else x.2),s.us.map (Gq f)⟩
variable {f:Nat→Bool}
def mb:∀{env:List (Nat×AV)},lk (env.map fun x=>(x.1,if f x.1=true then .any else x.2)) t=if f t=true then .any else lk env t
 | []=>by simp[lk]
 |(k,v)::r=>by
  simp only[lC,lk]
  by_cases h:k=t;subst h;simp
  rw[ae h,ae h,mb]
def ZO{x:Nat×U}:(Gq f x).1=x.1:=by unfold Gq;split<;>rfl
variable {us:List (Nat×U)}
def vO:(us.map (Gq f)).map (·.1)=us.map (·.1):=by
 rw[cR];exact cA fun x _=>ZO
def rq{u:U}:(k,u)∈us.map (Gq f)↔∃v,(k,v)∈us∧u=if f k=true then .own .jk else v:=by
 rw[aB];constructor
 ·rintro⟨⟨i,v⟩,h1,h2⟩;unfold Gq at h2;simp only at h2
  split at h2
  ·next hf=>injection h2 with e1 e2;subst e1 e2;exact⟨v,h1,by rw[af hf]⟩
  next hf=>injection h2 with e1 e2;subst e1 e2;exact⟨v,h1,by rw[ae hf]⟩
 rintro⟨v,h1,h2⟩;refine⟨(k,v),h1,?_⟩;unfold Gq;simp only
 split
 ·next hf=>rw[af hf]at h2;rw[h2]
 next hf=>rw[ae hf]at h2;rw[h2]
def Dn:∀{us:List (Nat×U)},(Ie k us).map (·.1)=us.map (·.1)
 | []=>rfl
 |(j,v)::r=>by simp only[Ie,lC,Dn (us:=r)]
structure wg (s s':St):Prop where
 n:s'.n=s.n
 lk:∀t,lk s'.env t=lk s.env t
 us:s'.us.Perm s.us
def ZI{us':List (Nat×U)}(hp:us'.Perm us)(hk:(us.map (·.1)).Nodup)(k:Nat):lu us' k=lu us k:=by
 have mM:(us'.map (·.1)).Nodup:=(hp.map _).nodup_iff.2 hk;cases h:lu us k with
 |some u=>exact jq mM (hp.mem_iff.2 (f7 h))
 |none=>
  cases h':lu us' k with
  |none=>rfl
  |some u=>rw[jq hk (hp.mem_iff.1 (f7 h'))]at h;cases h
variable {s':St}
def wg.ev(h:wg s s'):s'.ev=s.ev:=by
 funext x
 cases x with
 |c d=>rfl
 |t n=>exact h.lk n
def wg.unit(h:wg s s')(hk:(s.us.map (·.1)).Nodup):s'.unit=s.unit:=by
 funext k
 exact ZI h.us hk k
def VQ{us':List (Nat×U)}(hp:us'.Perm us)(h:tO k us=true):tO k us'=true:=zA fun hm=>jy h ((hp.map _).mem_iff.1 hm)
def wg.fresh(h:wg s s'):∀{us:List (Nat×U)},s.fresh us=true→s'.fresh us=true
 | [],_=>rfl
 |x::r,hf=>by
  simp only[St.fresh,bA]at hf⊢;exact⟨⟨VQ h.us hf.1.1,hf.1.2⟩,h.fresh hf.2⟩
def wg.step{r:RO}{v:Rs}(h:wg s s')(hk:(s.us.map (·.1)).Nodup)(hs:kf P r s v):kf P r s' v:=by
 have hQ:∀{op:oT},QD P op s v→QD P op s' v:=fun hq=>⟨by rw[h.ev,h.unit hk];exact hq.1,hq.2.imp id h.fresh⟩;unfold kf at hs⊢
 split at hs;exact hQ hs
 next t b _=>
 have e:s'.get t=s.get t:=h.lk t;rw[e];exact hs.imp (fun⟨tk,c,h1,h2,h3⟩=>⟨tk,c,h1,fun e=>hQ (h2 e),h3⟩) id
def k9.eqS(hs:k9 n0 S0 M0 w0 s a w)(h:wg s s'):k9 n0 S0 M0 w0 s' a w:=hs.eqv h.n h.lk h.us
structure Lv (s:St) (d sz bytes x y:Nat) (nn:Option Bool) (es:List D) (d0:D):Prop where
 gx:s.get x=.tr x
 gy:s.get y=.vb y 1
 ux:s.unit x=some (.own (.ls nn sz es))
 uy:s.unit y=some (.bx sz [.im none d0])
 ne:x≠y
 pos:0<sz
 fl:d0.flat=true
 ds:d0.size=sz
 b1:(es.length+1)*bytes≤140737488355328
 b2:es.length+1≤gz
 fr:s.fresh [(d,.own .jk)]=true
def GC(d sz:Nat)(es:List D)(d0:D):Rs:=(.tr d,[(d,.own (.ls (some false) sz (es++[d0])))])
def rX(P:Program):PO→St→Rs→Prop
 |.q r,s,v=>kf P r s v
 |.a d sz b x y,s,v=>∃nn es d0,Lv s d sz b x y nn es d0∧v=GC d sz es d0
def Oj:PO→St→Rs→St
 |.q r,s,v=>kK s r.op.dst v
 |.a d _ _ x y,s,v=>⟨s.n,(d,v.1)::(y,.any)::(x,.any)::s.env,v.2++Ie x (Ie y s.us)⟩
def UW(P:Program):List PO→List Rs→St→St→Prop
 | [],[],s,s'=>s=s'
 |p::l,r::rl,s,s'=>rX P p s r∧UW P l rl (Oj p s r) s'
 |_,_,_,_=>False
def PO.xQ:PO→Bool
 |.q r=>r.op.xQ
 |.a .. =>true
def Y9{b:Nat}{K:St→Prop}(h:apP (st.get x) (st.get y) (st.unit x) (st.unit y) d sz b x y st K):∃nn es d0,Lv st d sz b x y nn es d0∧K (st.apJ d sz x y (es++[d0])):=by
 unfold apP at h
 split at h
 ·next x' y' e1 e2=>
  obtain⟨⟨rfl,rfl⟩,h⟩:=h;unfold agU at h
  split at h
  ·next nn gV es yR d0 e3 e4=>
   obtain⟨⟨h1,rfl,h2,h3,h4,h5,h6,h7,h8⟩,hK⟩:=h;subst h2;exact⟨nn,es,d0,⟨e1,e2,e3,e4,h1,h3,h4,h5,h6,h7,h8⟩,hK⟩
  exact h.elim
 exact h.elim
def xE{K:St→Prop}:∀{l:List PO} {st:St},(∀p∈l,p.xQ=true)→w8 P l st K→∃rl s',UW P l rl st s'∧K s'∧rl.length=l.length
 | [],st,_,h=>⟨[],st,rfl,h,rfl⟩
 |.q r::l,st,hQ,h=>by
  simp only[w8]at h;obtain⟨rl0,s1,h1,h2,h3⟩:=nG (Rl:=[r]) (fun R hR=>by rw[au]at hR;subst hR;exact hQ (.q R) (by simp)) h
  match rl0,h3 with
  | [v],_=>
   simp only[J7]at h1;obtain⟨h4,rfl⟩:=h1;obtain⟨rl,s',q1,q2,q3⟩:=xE (fun p hp=>hQ p (by simp[hp])) h2;exact⟨v::rl,s',⟨h4,q1⟩,q2,by simp[q3]⟩
 |.a d sz b x y::l,st,hQ,h=>by
  simp only[w8]at h;obtain⟨nn,es,d0,h1,h2⟩:=Y9 h;obtain⟨rl,s',q1,q2,q3⟩:=xE (fun p hp=>hQ p (by simp[hp])) h2;exact⟨GC d sz es d0::rl,s',⟨⟨nn,es,d0,h1,rfl⟩,q1⟩,q2,by simp[q3]⟩
def adz{bytes:Nat}{nn:Option Bool}{es:List D}{d0:D}(h:Lv s d sz bytes x y nn es d0):
  tY P (.app d sz bytes (.t x) (.t y)) s (fun s'=>s'=(((s.del y).del x).kc [(d,.own (.ls (some false) sz (es++[d0])))]).set d (.tr d)):=by
 have hyx:(y==x)=false:=by simp only[cb];exact fun e=>h.ne e.symm
 have hk:∀{f:AV→Bool} {env:List (Nat×AV)} {t:Nat},f (lk env t)=false→lk (jp f env) t=lk env t:=by
  intro f env t hf
  induction env with
  |nil=>rfl
  |cons z env ih=>
   obtain⟨i,v⟩:=z;simp only[jp,lk]at hf⊢
   split
   ·next e=>rw[af e]at hf;rw[hf];rfl
   next e=>rw[ae e]at hf;exact ih hf
 have hgx:(s.del y).get x=.tr x:=by
  have:lk s.env x=.tr x:=h.gx
  show lk (jp (AV.refs y) s.env) x=.tr x
  rw[hk (by rw[this];simp only[AV.refs,cb];exact h.ne),this]
 have hlu:∀{f:AV→Bool} {us:List (Nat×U)} {i j:Nat},i≠j→lu (gu j f us) i=(lu us i).map (U.kill f):=by
  intro f us i j hij
  induction us with
  |nil=>rfl
  |cons z us ih=>
   obtain⟨k,v⟩:=z;simp only[gu,lu]
   by_cases e:k=j
   ·subst e;rw[af rfl,ae (fun e=>hij e.symm),ih]
   rw[ae e];simp only[lu]
   split;rfl;exact ih
 have hux:(s.del y).unit x=some (.own (.ls nn sz es)):=by
  show lu (gu y (AV.refs y) s.us) x=_
  rw[hlu h.ne,show lu s.us x=some (.own (.ls nn sz es))from h.ux]
  rfl
 have Em:((s.del y).del x).fresh [(d,.own .jk)]=true:=by
  have:=h.fr;simp only[St.fresh,tO,bU]at this⊢;refine zA fun hm=>jy this ?_
  show d∈s.us.map (·.1)
  have h1:d∈(gu x (AV.refs x) (gu y (AV.refs y) s.us)).map (·.1):=hm;rw[gI,gI]at h1;exact(aQ.1 (aQ.1 h1).1).1
 have ey:s.ev (.t y)=.vb y 1:=h.gy;have ex:(s.del y).ev (.t x)=.tr x:=hgx
 show abb P (.app d sz bytes (.t x) (.t y)) s _
 simp only[abb,eOp,ey,ra,C0,h.uy];refine⟨⟨by first|trivial|rfl,by first|rfl|trivial⟩,?_⟩;have Lm:=D.mq h.fl;simp only[mp,js,EC,fO,Lm,bI,Kv,bP,h.fl,IN,ex,C6,io,hux,xz,Iw];refine⟨by simp,by simp,⟨trivial,trivial,trivial,by simpa using h.b1,by simpa using h.b2,fun e he=>by rw[au]at he;rw[he];exact h.ds,h.pos,Em⟩,?_⟩
 rfl
def DQ{f:AV→Bool}:∀{env:List (Nat×AV)},lk (jp f env) t=if f (lk env t)=true then .any else lk env t
 | []=>by show AV.any=if f .any=true then .any else .any;split<;>rfl
 |(k,v)::r=>by
  have e0:lk (jp f ((k,v)::r)) t=if k=t then(if f v=true then .any else v)else lk (jp f r) t:=rfl
  rw[e0]
  by_cases h:k=t
  ·have e1:lk ((k,v)::r) t=v:=by simp[lk,h]
   rw[af h,e1]
  have e1:lk ((k,v)::r) t=lk r t:=by simp[lk,h]
  rw[ae h,e1,DQ]
def Wr:∀{env:List (Nat×AV)},lk env t=.any∨(t,lk env t)∈env
 | []=>.inl rfl
 |(k,v)::r=>by
  simp only[lk]
  by_cases h:k=t;subst h;rw[af rfl];exact .inr (by simp)
  rw[ae h];exact(Wr (env:=r)).imp id fun h=>bg _ h
mutual
def JN:∀{av:AV} {k:Nat},k∈av.ids→av.refs k=true
 |.tr i,k,h=>by simp only[AV.ids,au]at h;simp[AV.refs,h]
 |.pw i _ _,k,h=>by simp only[AV.ids,au]at h;simp[AV.refs,h]
 |.cw i _ _ _ _,k,h=>by simp only[AV.ids,au]at h;simp[AV.refs,h]
 |.sm i _ _,k,h=>by simp only[AV.ids,au]at h;simp[AV.refs,h]
 |.vb i _,k,h=>by simp only[AV.ids,au]at h;simp[AV.refs,h]
 |.pb i _,k,h=>by simp only[AV.ids,au]at h;simp[AV.refs,h]
 |.ps i,k,h=>by simp only[AV.ids,au]at h;simp[AV.refs,h]
 |.pq i _ _ _ _ _,k,h=>by simp only[AV.ids,au]at h;simp[AV.refs,h]
 |.qs i _ _ _ _ _,k,h=>by simp only[AV.ids,au]at h;simp[AV.refs,h]
 |.ss i _ _,k,h=>by simp only[AV.ids,au]at h;simp[AV.refs,h]
 |.sg vs,k,h=>by simp only[AV.ids]at h;simp only[AV.refs];exact zW h
 |.cl _ vs,k,h=>by simp only[AV.ids]at h;simp only[AV.refs];exact zW h
 |.im _ _,k,h=>by simp[AV.ids]at h
 |.lf _,k,h=>by simp[AV.ids]at h
 |.any,k,h=>by simp[AV.ids]at h
 |.z0 _ _,k,h=>by simp[AV.ids]at h
def zW:∀{vs:List AV} {k:Nat},k∈AV.oI vs→AV.mr k vs=true
 | [],k,h=>by simp[AV.oI]at h
 |v::vs,k,h=>by
  simp only[AV.oI,an]at h;simp only[AV.mr,ba];exact h.imp JN zW
end
def vJ{b:Nat}:t∈(⟨none,.app d sz b (.t x) (.t y)⟩:RO).lq↔t=x∨t=y:=by simp[RO.lq,oT.xs,Ax.X.slot]
def qn(A:List Nat)(R:List RO)(i:Nat):PO:=
 if A.contains i then(match Pk (R.getD i default)with|some (d,sz,b,x,y)=>.a d sz b x y|none=>.q (R.getD i default))else .q (R.getD i default)
def yu{A:List Nat}{R:List RO}(h:i∉A):qn A R i=.q (R.getD i default):=by
 unfold qn;rw[ae (by simpa using h)]
structure qD (P:Program) (wv:Wv) (ops:Array Oper) (R:List RO) (iz:St) (V:Nat→Rs) (S N A:List Nat):Prop where
 len:R.length=ops.size
 res:∀(i:Nat)(o:Oper),ops[i]?=some o→∃r,R[i]?=some r∧kl P wv iz.n ops o=some r
 inj:∀i j t,gW R i=some t→gW R j=some t→i=j
 pC:∀i,∀j∈gj ops i,j<i
 mem:∀i,i∈N↔i<R.length∧S.contains i=true
 xQ:∀i∈N,i∉A→wZ R i=true
 aN:∀p∈A,p∈N
 Im:N.Nodup
 nw:∀i∈N,∀j∈gj ops i,j∈N
 pa:∀p∈A,∃d sz b x y,R[p]?=some ⟨none,.app d sz b (.t x) (.t y)⟩∧qn A R p=.a d sz b x y∧md R p=[x,y]
 slot:∀(i:Nat)(r:RO)(t:Nat),i∈N→R[i]?=some r→t∈r.lq→∀j,gW R j=some t→(j<i∧j∈gj ops i)∨(i<j∧i∈gj ops j)
 use:∀(i:Nat)(r:RO)(t:Nat),i∈N→R[i]?=some r→t∈r.lq→∀q∈A,t∈md R q→i=q
 prod:∀q∈A,∀t∈md R q,∀j,gW R j=some t→j<q∧j∈gj ops q
 step:∀i∈N,rX P (qn A R i) (dead (pN R A (uc N i)) (f9 iz (gW R) V (uc N i))) (V i)
 keys:((f9 iz (gW R) V N.reverse).us.map (·.1)).Nodup
 cln:∀q∈A,∀k∈md R q,(∀x∈iz.env,x.1≠k→x.2.refs k=false)∧∀i∈N,∀t,gW R i=some t→t≠k→(V i).1.refs k=false
 clu:∀q∈A,∀k∈md R q,∀x∈(f9 iz (gW R) V N.reverse).us,x.2.kill (AV.refs k)=x.2
section
variable {ops:Array Oper}{R:List RO}{st:St}{V:Nat→Rs}{S N A X:List Nat}{gi:Array Bool}{i:Nat}{r:RO}{o:Oper}{a:Act}{w:World}
variable {d sz b x y:Nat}
abbrev kQ(R:List RO)(A:List Nat)(st:St)(V:Nat→Rs)(X:List Nat):St:=dead (pN R A X) (f9 st (gW R) V X)
variable {k:Nat}
def qD.cl(hd:qD P wv ops R st V S N A){q:Nat}(hq:q∈A)(hk:k∈md R q)(hX:∀i∈X,i∈N){t:Nat}(ht:t≠k):(lk (f9 st (gW R) V X).env t).refs k=false:=by
 obtain⟨h1,h2⟩:=hd.cln q hq k hk;have e:=j9 (iz:=st) (V:=V) hd.inj (L:=X) (t:=t)
 by_cases he:∃j,j∈X∧gW R j=some t;obtain⟨j,hj,hjt⟩:=he;rw[e.1 j hj hjt];exact h2 j (hX j hj) t hjt ht
 rw[e.2 fun j hj hjt=>he ⟨j,hj,hjt⟩];rcases Wr (env:=st.env) (t:=t)with h|h
 rw[h];rfl;exact h1 _ h ht
def A6(hd:qD P wv ops R st V S N A)(h:ml P ops R X gi)(hi:i∈N)(hr:R[i]?=some r)
  (hw:∀j∈gj ops i,j∈X) (hn:i∉X) {t:Nat} (ht:t∈r.lq):(kQ R A st V X).get t=(kQ R A st V (uc N i)).get t:=by
 have u1:pN R A X t=false:=by
  cases hu:pN R A X t with
  |false=>rfl
  |true=>
   obtain⟨q,hq,K6,hqt⟩:=jD.1 hu;exact absurd (hd.use i r t hi hr ht q hq hqt▸K6) hn
 have u2:pN R A (uc N i) t=false:=by
  cases hu:pN R A (uc N i) t with
  |false=>rfl
  |true=>
   obtain⟨q,hq,K6,hqt⟩:=jD.1 hu;have e:=hd.use i r t hi hr ht q hq hqt;have:=(nO.1 K6).2;omega
 show lk (List.map _ _) t=lk (List.map _ _) t
 rw[mb,mb,u1,u2];simp only[mI,aA];have a:=j9 (iz:=st) (V:=V) hd.inj (L:=X) (t:=t);have b:=j9 (iz:=st) (V:=V) hd.inj (L:=uc N i) (t:=t)
 by_cases he:∃j,gW R j=some t
 ·obtain⟨j,hj⟩:=he;rcases hd.slot i r t hi hr ht j hj with⟨h1,h2⟩|⟨h1,h2⟩
  ·rw[a.1 j (hw j h2) hj,b.1 j (nO.2 ⟨hd.nw i hi j h2,h1⟩) hj]
  have hx:j∉X:=fun hx=>hn (h.closed j hx i h2);rw[a.2 fun k hk e=>hx (hd.inj k j t e hj▸hk),b.2 fun k hk e=>by
   have:=hd.inj k j t e hj;have:=(nO.1 hk).2;omega]
 rw[a.2 fun k _ e=>he ⟨k,e⟩,b.2 fun k _ e=>he ⟨k,e⟩]
def zy(hd:qD P wv ops R st V S N A){X Y:List Nat}(nX:X.Nodup)(hX:∀i∈X,i∈N)(nY:Y.Nodup)(hY:∀i∈Y,i∈N){k:Nat}{u v:U}
  (h1:(k,u)∈(kQ R A st V X).us) (h2:(k,v)∈(kQ R A st V Y).us) (e:pN R A X k=pN R A Y k):u=v:=by
 obtain⟨u',m1,e1⟩:=rq.1 h1;obtain⟨v',m2,e2⟩:=rq.1 h2;have q1:=jq hd.keys ((ku hd.Im hd.keys nX hX).2 _ m1);have q2:=jq hd.keys ((ku hd.Im hd.keys nY hY).2 _ m2);rw[q1]at q2;injection q2 with q2;subst q2;rw[e1,e2,e]
def UD(hd:qD P wv ops R st V S N A)(nX:X.Nodup)(hX:∀i∈X,i∈N):((kQ R A st V X).us.map (·.1)).Nodup:=by
 show((List.map _ _).map _).Nodup
 rw[vO];exact(ku hd.Im hd.keys nX hX).1
def DA(R:List RO)(A:List Nat)(st:St)(V:Nat→Rs)(X:List Nat):Prop:=∀q∈A,q∈X→∀k∈md R q,k∈(f9 st (gW R) V X).us.map (·.1)
def aaL{N:List Nat}{i:Nat}(h:N.Nodup):(uc N i).Nodup:=(dH _).nodup_iff.2 (h.filter _)
def Fr(hd:qD P wv ops R st V S N A)(h:ml P ops R X gi)(hX:∀i∈X,i∈N)(hi:i∈N)(sI:i∉A)(hr:R[i]?=some r)(fM:kl P wv st.n ops o=some r)
  (hw:∀j∈gj ops i,j∈X) (hn:i∉X) (hs:k9 n0 S0 M0 w0 (kQ R A st V X) a w):
  ∃op,tJ P wv st.n o=some op∧r.op=op∧op.xQ=true∧op.dst=o.dst∧(∀d,o.dst=some d→d<(kQ R A st V X).n)∧(∃g,At n0 S0 M0 w0 (kQ R A st V X) o a w g)∧(∀t∈r.lq,(kQ R A st V X).get t=(kQ R A st V (uc N i)).get t)∧
   (QD P r.op (kQ R A st V (uc N i)) (V i)→ES P r.op (kQ R A st V X).ev (kQ R A st V X).unit (fun v u=>v=(V i).1∧u=(V i).2)):=by
 have SF:(kQ R A st V X).n=st.n:=jl;have oJ:∀t∈r.lq,(kQ R A st V X).get t=(kQ R A st V (uc N i)).get t:=fun t ht=>A6 hd h hi hr hw hn ht;have hbX:∀j∈uc N i,j∈N:=fun j hj=>(nO.1 hj).1;have gv:=fM;unfold kl at gv;simp only[oD,oB,fP]at gv;obtain⟨op,EY,_,h1,_,h2,gv⟩:=gv;have yZ:∀d,o.dst=some d→d<(kQ R A st V X).n:=by
  intro d Sw;rw[SF];rw[Sw]at h2;simpa using h2
 have o7:r.op=op:=by
  split at gv
  ·simp only[oP,oS]at gv;rw[←gv]
  simp only[oB,oP,oS]at gv;obtain⟨_,_,_,_,gv⟩:=gv;rw[←gv]
 have hQ:op.xQ=true:=by
  rw[←o7,←FB hr];exact hd.xQ i hi sI
 obtain⟨g,hu,hv⟩:=hs.gh;refine⟨op,EY,o7,hQ,h1,yZ,⟨g,hs,hu,hv,yZ⟩,oJ,fun hq=>?_⟩;have hev:∀x∈r.op.xs,(kQ R A st V X).ev x=(kQ R A st V (uc N i)).ev x:=by
  intro x hx;cases x with
  |c d=>rfl
  |t n=>exact oJ n (du _ (eK.2 ⟨_,hx,rfl⟩))
 refine zM hq.1 hev ?_;intro x hx k u hk wN;rw[←hev x hx]at hk;cases x with
 |c d=>simp only[St.ev,rL]at hk;split at hk<;>simp[AV.ids]at hk
 |t n=>
  have H9:n∈r.lq:=du _ (eK.2 ⟨_,hx,rfl⟩);obtain⟨u',hm⟩:=yl (hv n) k hk;have oK:∀Y:List Nat,pN R A Y k=false:=fun Y=>by
   cases hu:pN R A Y k with
   |false=>rfl
   |true=>
    obtain⟨q,hq,_,hqk⟩:=jD.1 hu;have hnk:n≠k:=fun e=>sI (hd.use i r n hi hr H9 q hq (e▸hqk)▸hq);have mM:k∈(lk (List.map (fun x=>(x.1,if pN R A X x.1=true then AV.any else x.2)) (f9 st (gW R) V X).env) n).ids:=hk;rw[mb]at mM
    split at mM;simp[AV.ids]at mM;have:=JN mM;rw[hd.cl hq hqk hX hnk]at this;cases this
  have BI:=f7 wN;have:=zy hd h.nd hX (aaL hd.Im) hbX hm BI (by rw[oK,oK]);subst this;exact jq (UD hd h.nd hX) hm
def N3{i:Nat}(h:i∉A):pN R A (i::X)=pN R A X:=by
 funext t
 rw[dx,jD,jD];constructor
 ·rintro⟨q,h1,h2,h3⟩;rcases ab.1 h2 with rfl|h2
  exact absurd h1 h;exact⟨q,h1,h2,h3⟩
 rintro⟨q,h1,h2,h3⟩;exact⟨q,h1,by simp[h2],h3⟩
def NP(OV:((f9 st (gW R) V (i::X)).us.map (·.1)).Nodup)(hpr:∀q∈A,q∈X→∀d,gW R i=some d→d∉md R q)(hI:DA R A st V X)(sI:i∉A):wg (kK (kQ R A st V X) (gW R i) (V i)) (kQ R A st V (i::X)):=by
 have e0:f9 st (gW R) V (i::X)=kK (f9 st (gW R) V X) (gW R i) (V i):=rfl;have hu:(V i).2.map (Gq (pN R A X))=(V i).2:=by
  rw[cA (g:=id),List.map_id];rintro⟨k,u⟩ hm;unfold Gq;rw[ae];rfl;intro hk;obtain⟨q,hq,K6,hqk⟩:=jD.1 hk;have h1:=hI q hq K6 k hqk;have h2:=OV;have e:(f9 st (gW R) V (i::X)).us=(V i).2++(f9 st (gW R) V X).us:=by simp[jf]
  rw[e,bQ,aX]at h2;exact h2.2.2 k (aB.2 ⟨_,hm,rfl⟩) k h1 rfl
 refine⟨?_,fun t=>?_,?_⟩
 ·show(f9 st (gW R) V (i::X)).n=_
  have e:∀(s:St)(d:Option Nat)(v:Rs),(kK s d v).n=s.n:=fun s d v=>by cases d<;>rfl
  rw[e]
  show _=(f9 st (gW R) V X).n
  rw[jl,jl]
 ·show lk (List.map _ _) t=_
  rw[mb,N3 sI,e0];unfold kK;cases K7:gW R i with
  |none=>
   show(if _ then _ else lk (f9 st (gW R) V X).env t)=lk (List.map _ (f9 st (gW R) V X).env) t
   rw[mb]
  |some d=>
   have hf:pN R A X d=false:=by
    cases hu:pN R A X d with
    |false=>rfl
    |true=>
     obtain⟨q,hq,K6,Xy⟩:=jD.1 hu;exact absurd Xy (hpr q hq K6 d K7)
   show(if _ then _ else lk ((d,(V i).1)::(f9 st (gW R) V X).env) t)=lk ((d,(V i).1)::List.map _ (f9 st (gW R) V X).env) t
   simp only[lk]
   by_cases e:d=t;subst e;rw[af rfl,af rfl,hf];rfl
   rw[ae e,ae e,mb]
 show(List.map (Gq (pN R A (i::X))) (f9 st (gW R) V (i::X)).us).Perm _
 have e1:(kK (kQ R A st V X) (gW R i) (V i)).us=(V i).2++(f9 st (gW R) V X).us.map (Gq (pN R A X)):=by unfold kK;cases gW R i<;>rfl
 have e2:(f9 st (gW R) V (i::X)).us=(V i).2++(f9 st (gW R) V X).us:=by simp[jf]
 rw[e1,e2,N3 sI,bQ,hu]
def aez(hd:qD P wv ops R st V S N A)(kn:(i::X).Nodup)(hc:∀j∈X,∀k∈gj ops j,k∈X)(hX:∀j∈i::X,j∈N)(hI:DA R A st V X)(sI:i∉A):wg (kK (kQ R A st V X) (gW R i) (V i)) (kQ R A st V (i::X)):=
 NP (ku hd.Im hd.keys kn hX).1 (fun q hq K6 d K7 Xy=>(aH.1 kn).1 (hc q K6 i (hd.prod q hq d Xy i K7).2)) hI sI
def JC(hI:DA R A st V X)(hq:i∈A→∀k∈md R i,k∈(f9 st (gW R) V X).us.map (·.1)):DA R A st V (i::X):=by
 intro q h1 h2 k hk;have e:(f9 st (gW R) V (i::X)).us=(V i).2++(f9 st (gW R) V X).us:=by simp[jf]
 rw[e,bQ];refine dF _ ?_;rcases ab.1 h2 with rfl|h2
 exact hq h1 k hk;exact hI q h1 h2 k hk
def xv:(f9 st (gW R) V (i::X)).us=(V i).2++(f9 st (gW R) V X).us:=by simp[jf]
variable {v:Rs}{s:St}
def rX.GC(hp:qn A R i=.a d sz b x y)(h:rX P (qn A R i) s v):∃nn es d0,Lv s d sz b x y nn es d0∧v=GC d sz es d0:=by
 rw[hp]at h;exact h
def Bi{us:List (Nat×U)}(h:(us.map (·.1)).Nodup):us.Nodup:=by
 induction us with
 |nil=>exact bp
 |cons x us ih=>
  rw[lC,aH]at h;exact aH.2 ⟨fun hx=>h.1 (aB.2 ⟨x,hx,rfl⟩),ih h.2⟩
def Mv{Q:Exit→Act→World→Prop}(hd:qD P wv ops R st V S N A)(h:ml P ops R X gi)(hX:∀i∈X,i∈N)(hI:DA R A st V X)(hi:i∈N)(sI:i∈A)(ho:ops[i]?=some o)(hr:R[i]?=some r)(fM:kl P wv st.n ops o=some r)
  (hw:∀j∈gj ops i,j∈X) (hn:i∉X) (hs:k9 n0 S0 M0 w0 (kQ R A st V X) a w):
  wpOp P ops Q i (fun a w=>k9 n0 S0 M0 w0 (kQ R A st V (i::X)) a w) a w∧DA R A st V (i::X):=by
 obtain⟨d,sz,b,x,y,hra,Xz,kZ⟩:=hd.pa i sI;rw[hr]at hra;injection hra with hra;subst hra;have hbN:∀j∈uc N i,j∈N:=fun j hj=>(nO.1 hj).1;have hX':∀j∈i::X,j∈N:=fun j hj=>(ab.1 hj).elim (fun e=>e▸hi) (hX j);have za:(i::X).Nodup:=aH.2 ⟨hn,h.nd⟩;have K7:gW R i=some d:=by simp[gW,hr,oT.dst]
 obtain⟨nn,es,d0,hB,hV⟩:=rX.GC Xz (hd.step i hi);have oJ:∀t∈(⟨none,.app d sz b (.t x) (.t y)⟩:RO).lq,(kQ R A st V X).get t=(kQ R A st V (uc N i)).get t:=fun t ht=>A6 hd h hi hr hw hn ht;have gx:(kQ R A st V X).get x=.tr x:=by rw[oJ x (vJ.2 (.inl rfl))];exact hB.gx
 have gy:(kQ R A st V X).get y=.vb y 1:=by rw[oJ y (vJ.2 (.inr rfl))];exact hB.gy
 have oK:∀Y:List Nat,i∉Y→∀t∈md R i,pN R A Y t=false:=fun Y hY t ht=>by
  cases hu:pN R A Y t with
  |false=>rfl
  |true=>
   obtain⟨q,hq,hqY,hqt⟩:=jD.1 hu;have hts:t∈(⟨none,.app d sz b (.t x) (.t y)⟩:RO).lq:=by rw[kZ]at ht;exact vJ.2 (by simpa using ht)
   exact absurd (hd.use i _ t hi hr hts q hq hqt▸hqY) hY
 have hxm:x∈md R i:=by rw[kZ];simp
 have hym:y∈md R i:=by rw[kZ];simp
 have hib:i∉uc N i:=fun hm=>by have:=(nO.1 hm).2;omega
 obtain⟨g,hu,hv⟩:=hs.gh;have kX:=UD hd h.nd hX;have ux:(kQ R A st V X).unit x=some (.own (.ls nn sz es)):=by
  have:=hv x;rw[show lk (kQ R A st V X).env x=.tr x from gx]at this;simp only[fN]at this;obtain⟨⟨d',hm⟩,_⟩:=this;have e:=zy hd h.nd hX (aaL hd.Im) hbN hm (f7 hB.ux) (by rw[oK X hn x hxm,oK _ hib x hxm]);rw[e]at hm;exact jq kX hm
 have uy:(kQ R A st V X).unit y=some (.bx sz [.im none d0]):=by
  have:=hv y;rw[show lk (kQ R A st V X).env y=.vb y 1 from gy]at this;simp only[fN]at this;obtain⟨gV,items,b',hm,_⟩:=this;have e:=zy hd h.nd hX (aaL hd.Im) hbN hm (f7 hB.uy) (by rw[oK X hn y hym,oK _ hib y hym]);rw[e]at hm;exact jq kX hm
 have OV:=ku hd.Im hd.keys za hX';have ah8:=OV.1;rw[xv,hV]at ah8;have hdX:d∉(f9 st (gW R) V X).us.map (·.1):=by
  have h1:(d::(f9 st (gW R) V X).us.map (·.1)).Nodup:=ah8;exact(aH.1 h1).1
 have hdS:d∉(kQ R A st V X).us.map (·.1):=by
  show d∉(List.map _ _).map _
  rw[vO];exact hdX
 have hPA:Lv (kQ R A st V X) d sz b x y nn es d0:=⟨gx,gy,ux,uy,hB.ne,hB.pos,hB.fl,hB.ds,hB.b1,hB.b2,by simp only[St.fresh,tO,bU];exact zA hdS⟩;have hxS:=f7 ux;have hyS:=f7 uy;have hxd:x≠d:=fun e=>hdS (e▸aB.2 ⟨_,hxS,rfl⟩);have hyd:y≠d:=fun e=>hdS (e▸aB.2 ⟨_,hyS,rfl⟩);refine⟨?_,JC hI fun _ k hk=>?_⟩
 ·have SF:(kQ R A st V X).n=st.n:=jl;have key:=uF (R:=⟨none,.app d sz b (.t x) (.t y)⟩) (Q':=Q) (by rw[SF];exact fM) hs (adz hPA);have Xg:o.guard=none:=by
   have gv:=fM;unfold kl at gv;simp only[oD,oB,fP]at gv;obtain⟨_,_,_,_,_,_,gv⟩:=gv
   split at gv
   ·assumption
   simp only[oB,oP,oS]at gv;obtain⟨_,_,_,_,gv⟩:=gv;injection gv with hg;cases hg
  have BN:Region.wanted o (yielded ops a.tmps)=true:=by simp[Region.wanted,Xg]
  unfold wpOp;rw[ho];simp only;rw[BN,af rfl];refine .inl (dv ?_ (key.1 BN));rintro a' w' ⟨Sv,hn'',rfl,alN⟩;have tR:y∉((((kQ R A st V X).del y).del x).kc [(d,.own (.ls (some false) sz (es++[d0])))] |>.set d (.tr d)).us.map (·.1):=by
   intro hm;have v9:y∈d::(gu x (AV.refs x) (gu y (AV.refs y) (kQ R A st V X).us)).map (·.1):=hm;rcases ab.1 v9 with e|v9
   exact hyd e;rw[gI,gI]at v9;have:=(aQ.1 (aQ.1 v9).1).2;simp at this
  have s1:=UT alN tR;have s2:=UT (k:=x) s1 (by
   intro hm;have v9:x∈y::d::(gu x (AV.refs x) (gu y (AV.refs y) (kQ R A st V X).us)).map (·.1):=hm;rcases ab.1 v9 with e|v9
   exact hB.ne e;rcases ab.1 v9 with e|v9
   exact hxd e;rw[gI]at v9;have:=(aQ.1 v9).2;simp at this)
  refine s2.eqS ⟨?_,fun t=>?_,?_⟩
  ·show(f9 st (gW R) V (i::X)).n=(f9 st (gW R) V X).n
   rw[jl,jl]
  ·show lk (List.map _ (f9 st (gW R) V (i::X)).env) t=lk ((d,.tr d)::jp (AV.refs x) (jp (AV.refs y) (kQ R A st V X).env)) t
   have e0:(f9 st (gW R) V (i::X)).env=(d,.tr d)::(f9 st (gW R) V X).env:=by
    simp only[f9,K7,hV,GC,kK,St.mu,St.set,St.kc]
   rw[mb,e0];have pM:∀t,pN R A (i::X) t=(pN R A X t||(md R i).contains t):=fun t=>by
    rw[dx,jD,ba,jD,bH,a7];constructor
    ·rintro⟨q,h1,h2,h3⟩;rcases ab.1 h2 with rfl|h2
     exact .inr h3;exact .inl ⟨q,h1,h2,h3⟩
    rintro(⟨q,h1,h2,h3⟩|h3)
    ·exact⟨q,h1,by simp[h2],h3⟩
    exact⟨i,sI,by simp,h3⟩
   have OZ:lk (jp (AV.refs x) (jp (AV.refs y) (kQ R A st V X).env)) t=if(if(lk (kQ R A st V X).env t).refs y=true then AV.any else lk (kQ R A st V X).env t).refs x=true then .any else(if(lk (kQ R A st V X).env t).refs y=true then AV.any else lk (kQ R A st V X).env t):=by rw[DQ,DQ]
   have c1:∀{e:List (Nat×AV)},lk ((d,AV.tr d)::e) t=if d=t then .tr d else lk e t:=rfl
   rw[c1,c1,OZ]
   by_cases e:d=t
   ·subst e;rw[af rfl,af rfl];rw[ae];intro hu;obtain⟨q,hq,K6,Xy⟩:=jD.1 hu;have hp:=hd.prod q hq d Xy i K7;rcases ab.1 K6 with rfl|K6
    omega;exact hn (h.closed q K6 i hp.2)
   rw[ae e,ae e]
   by_cases ex:t=x
   ·subst ex;rw[show lk (kQ R A st V X).env t=.tr t from gx,pM,kZ];have:(t==y)=false:=by simpa using hB.ne
    simp[AV.refs,this]
   by_cases ey:t=y
   ·subst ey;rw[show lk (kQ R A st V X).env t=.vb t 1 from gy,pM,kZ];simp[AV.refs]
   have hl:lk (kQ R A st V X).env t=if pN R A X t=true then .any else lk (f9 st (gW R) V X).env t:=mb
   have q1:=hd.cl sI hxm hX ex;have q2:=hd.cl sI hym hX ey;have hct:(md R i).contains t=false:=by rw[kZ];simp[ex,ey]
   rw[hl,pM,hct,aL]
   by_cases hu:pN R A X t=true;simp[hu,AV.refs];rw[ae hu,q2];simp[q1]
  have hnt:((kQ R A st V (i::X)).us.map (·.1)).Nodup:=UD hd za hX';have hkk:((gu x (AV.refs x) (gu y (AV.refs y) (kQ R A st V X).us)).map (·.1)).Nodup:=by
   rw[gI,gI];exact(kX.filter _).filter _
  have H9:(((x,U.own .jk)::(y,U.own .jk)::(d,U.own (.ls (some false) sz (es++[d0])))::gu x (AV.refs x) (gu y (AV.refs y) (kQ R A st V X).us)).map (·.1)).Nodup:=by
   simp only[lC,aH,ab,cj];refine⟨⟨hB.ne,hxd,?_⟩,⟨hyd,?_⟩,?_,hkk⟩;rw[gI];intro hm;simpa using(aQ.1 hm).2;rw[gI,gI];intro hm;simpa using(aQ.1 (aQ.1 hm).1).2;rw[gI,gI];intro hm;exact hdS (aQ.1 (aQ.1 hm).1).1
  refine(dN (Bi hnt) (Bi H9)).2 ?_;rintro⟨k,u⟩;have afK:∀{k':Nat} {v:U},(k',v)∈(f9 st (gW R) V X).us→∀z∈md R i,v.kill (AV.refs z)=v:=fun hm z hz=>hd.clu i sI z hz _ ((ku hd.Im hd.keys h.nd hX).2 _ hm);have pM:∀t,pN R A (i::X) t=(pN R A X t||(md R i).contains t):=fun t=>by
   rw[dx,jD,ba,jD,bH,a7];constructor
   ·rintro⟨q,h1,h2,h3⟩;rcases ab.1 h2 with rfl|h2
    exact .inr h3;exact .inl ⟨q,h1,h2,h3⟩
   rintro(⟨q,h1,h2,h3⟩|h3)
   ·exact⟨q,h1,by simp[h2],h3⟩
   exact⟨i,sI,by simp,h3⟩
  have Ia:∀{k':Nat} {v:U},(k',v)∈(kQ R A st V X).us→∀z∈md R i,v.kill (AV.refs z)=v:=fun hm z hz=>by
   obtain⟨v',m1,e1⟩:=rq.1 hm;rw[e1]
   split;rfl;exact afK m1 z hz
  have hdu:pN R A (i::X) d=false:=by
   cases hu:pN R A (i::X) d with
   |false=>rfl
   |true=>
    exfalso;obtain⟨q,hq,K6,Xy⟩:=jD.1 hu;have hp:=hd.prod q hq d Xy i K7;rcases ab.1 K6 with rfl|K6
    omega;exact hn (h.closed q K6 i hp.2)
  show(k,u)∈(f9 st (gW R) V (i::X)).us.map (Gq (pN R A (i::X)))↔_
  rw[rq,xv,hV];simp only[GC,an,ab,cF,cI,cW];constructor
  ·rintro⟨v,(⟨rfl,rfl⟩|hm),Bq⟩;rw[hdu]at Bq;exact .inr (.inr (.inl ⟨rfl,by simpa using Bq⟩))
   by_cases ex:k=x
   ·subst ex;rw[pM,kZ]at Bq;exact .inl ⟨rfl,by simpa using Bq⟩
   by_cases ey:k=y;subst ey;rw[pM,kZ]at Bq;exact .inr (.inl ⟨rfl,by simpa using Bq⟩)
   refine .inr (.inr (.inr ?_));have hct:(md R i).contains k=false:=by rw[kZ];simp[ex,ey]
   rw[pM,hct,aL]at Bq;have BI:(k,u)∈(kQ R A st V X).us:=rq.2 ⟨v,hm,Bq⟩;have h1:=jT (f:=AV.refs y) BI ey;rw[Ia BI y hym]at h1;have h2:=jT (f:=AV.refs x) h1 ex;rw[Ia BI x hxm]at h2;exact h2
  rintro(⟨rfl,rfl⟩|⟨rfl,rfl⟩|⟨rfl,rfl⟩|hm)
  ·obtain⟨v',m1,_⟩:=rq.1 hxS;exact⟨v',.inr m1,by rw[pM,kZ];simp⟩
  ·obtain⟨v',m1,_⟩:=rq.1 hyS;exact⟨v',.inr m1,by rw[pM,kZ];simp⟩
  ·exact⟨_,.inl ⟨rfl,rfl⟩,by rw[hdu];rfl⟩
  obtain⟨hkx,u1,hm1,e1⟩:=gF hm;obtain⟨hky,u2,BI,e2⟩:=gF hm1;simp only at hkx hky hm1 BI e1 e2;rw[Ia BI y hym]at e2;subst e2;rw[Ia BI x hxm]at e1;subst e1;obtain⟨v',m1,e3⟩:=rq.1 BI;have hct:(md R i).contains k=false:=by rw[kZ];simp[hkx,hky]
  exact⟨v',.inr m1,by rw[pM,hct,aL];exact e3⟩
 rw[kZ]at hk;have mM:k=x∨k=y:=by simpa using hk
 have:k∈(kQ R A st V X).us.map (·.1):=by
  rcases mM with rfl|rfl
  exact aB.2 ⟨_,hxS,rfl⟩;exact aB.2 ⟨_,hyS,rfl⟩
 have h2:k∈(List.map (Gq (pN R A X)) (f9 st (gW R) V X).us).map (·.1):=this;rw[vO]at h2;exact h2
def CF{Q:Exit→Act→World→Prop}
  (hd:qD P wv ops R st V S N A) (h:ml P ops R X gi) (hX:∀i∈X,i∈N) (hI:DA R A st V X) (hi:i∈N) (sI:i∉A) (ho:ops[i]?=some o) (hr:R[i]?=some r) (fM:kl P wv st.n ops o=some r)
  (hw:∀j∈gj ops i,j∈X) (hn:i∉X) (hs:k9 n0 S0 M0 w0 (kQ R A st V X) a w):
  wpOp P ops Q i (fun a w=>k9 n0 S0 M0 w0 (kQ R A st V (i::X)) a w) a w:=by
 obtain⟨op,EY,o7,hQ,h1,yZ,⟨g,BO⟩,oJ,Xq⟩:=Fr hd h hX hi sI hr fM hw hn hs;have SF:(kQ R A st V X).n=st.n:=jl;have za:(i::X).Nodup:=aH.2 ⟨hn,h.nd⟩;have hX':∀j∈i::X,j∈N:=fun j hj=>(ab.1 hj).elim (fun e=>e▸hi) (hX j);have OV:=ku hd.Im hd.keys za hX';have tT:=aez hd za h.closed hX' hI sI;have zb:gW R i=r.op.dst:=by simp[gW,hr]
 have Em:(V i).2=[]∨(kQ R A st V X).fresh (V i).2=true:=.inr (yI (by
  have e:(f9 st (gW R) V (i::X)).us=(V i).2++(f9 st (gW R) V X).us:=by simp[jf]
  have h1:=OV.1;rw[e,bQ]at h1;rw[bQ];have h2:(kQ R A st V X).us.map (·.1)=(f9 st (gW R) V X).us.map (·.1):=vO;rw[h2];exact h1))
 rw[zb]at tT;have ko:kf P r (kQ R A st V (uc N i)) (V i):=by
  have h1:=hd.step i hi;rw[yu sI,show R.getD i default=r by simp[aE,hr]]at h1;exact h1
 have run:∀{Q':Exit→Act→World→Prop},QD P r.op (kQ R A st V (uc N i)) (V i)→o.wp P a w (fun a w=>k9 n0 S0 M0 w0 (kQ R A st V (i::X)) a w) Q':=by
  intro Q' hq;have tS:=Xq hq;rw[o7]at tS;have⟨h5,h6⟩:=B0 (Q':=Q') (n:=st.n) EY hQ SF BO tS;refine dv ?_ h5;rintro a' w' ⟨av,us,⟨rfl,rfl⟩,hS⟩;have h7:=hS Em;rw[←h6,←o7]at h7;exact h7.eqS tT
 have hu:=BO.us;have hv:=BO.rep;have gv:=fM;unfold kl at gv;simp only[oD,oB,fP]at gv;obtain⟨op',H6,_,_,_,_,gv⟩:=gv;rw[EY]at H6;injection H6 with H6;subst H6;have skip:V i=(.lf [],[])→k9 n0 S0 M0 w0 (kQ R A st V (i::X)) (a.put o.dst undef) w:=by
  intro hV;refine k9.eqS ?_ tT;rw[hV,o7,h1];unfold kK;rw[lp];exact jY hs hu hv yZ ql
 unfold wpOp;rw[ho];simp only
 split at gv
 ·next hg=>
  simp only[oP,oS]at gv;subst gv;have:Region.wanted o (yielded ops a.tmps)=true:=by simp[Region.wanted,hg]
  rw[this,af rfl];exact .inl (run ko)
 next j b hg=>
 simp only[oB,oP,oS]at gv;obtain⟨p,hp,t,ht,rfl⟩:=gv;rcases ko with⟨tk,c,hc,hy,oK⟩|⟨hc,oK⟩
 ·rw[←oJ t (dF _ (by simp))]at hc;have En:=hv t;have Ef:lk (kQ R A st V X).env t=.im tk (.sc (.bool c)):=hc;rw[Ef]at En;have zc:=kj En;have hyy:=td (ops:=ops) hp ht zc;have BN:Region.wanted o (yielded ops a.tmps)=(some c==some b):=by simp[Region.wanted,hg,hyy]
  rw[BN]
  by_cases e:c=b;rw[af (by simp[e])];exact .inl (run (hy e));rw[ae (by simp[e])];exact skip (oK (by cases c<;>cases b<;>simp_all))
 rw[←oJ t (dF _ (by simp))]at hc;have En:=hv t;have Ef:lk (kQ R A st V X).env t=.lf []:=hc;rw[Ef]at En;have BN:Region.wanted o (yielded ops a.tmps)=false:=by simp[Region.wanted,hg,o8 (ops:=ops) hp ht (v5 En)]
 rw[BN,ae (by simp)];exact skip oK
def Mm{K:Exit→St→Prop}{S:List Nat}{e:Nat}{es:List Nat}{sE:St}(hd:qD P wv ops R st V S (NL S R) A)(hsE:wg (kQ R A st V (NL S R).reverse) sE)(hE:EL S R=e::es)(EZ:pZ ops (e::es)=true)(H9:Region.noSelect ops=true)
  (Xt:∀i∈NL S R,oF ops R i=true∨i∈gj ops e∨∃k∈NL S R,i<k∧(oF ops R k=false∨k∈gj ops e∨∃j∈NL S R,k<j∧oF ops R j=false∧k∈gj ops j)∧i∈gj ops k)
  (wq:gR P ((e::es).map fun i=>R.getD i default) sE K):∀(fuel:Nat)(X:List Nat)(gi:Array Bool)(a:Act)(w:World),
  ml P ops R X gi→(∀i∈X,i∈NL S R)→DA R A st V X→fuel+X.length=ops.size→k9 n0 S0 M0 w0 (kQ R A st V X) a w→wpAny P .any ops (fun e a w=>e=.normal∧oG n0 S0 M0 w0 st.n K e a w) fuel gi a w:=by
 have pz:e<ops.size:=by
  have:e∈EL S R:=by rw[hE];simp
  rw[←hd.len];exact(kV.1 this).1
 have heN:e∉NL S R:=by
  have:e∈EL S R:=by rw[hE];simp
  intro h;have h1:=(kV.1 this).2;have h2:=(ic.1 h).2;rw[h1]at h2;cases h2
 have fin:∀(fuel:Nat)(X:List Nat)(gi:Array Bool)(a:Act)(w:World),ml P ops R X gi→(∀i∈X,i∈NL S R)→DA R A st V X→fuel+X.length=ops.size→k9 n0 S0 M0 w0 (kQ R A st V X) a w→(∀i∈NL S R,i∈X)→
   wpAny P .any ops (fun e a w=>e=.normal∧oG n0 S0 M0 w0 st.n K e a w) fuel gi a w:=by
  intro fuel X gi a w h hX hI hl hs iy;have hp:X.Perm (NL S R).reverse:=(dN h.nd ((dH _).nodup_iff.2 hd.Im)).2 fun i=>by
   rw[df];exact⟨hX i,iy i⟩
  have nL:k9 n0 S0 M0 w0 (kQ R A st V (NL S R).reverse) a w:=by
   have KO:pN R A X=pN R A (NL S R).reverse:=by
    funext t
    rw[dx,jD,jD];constructor
    ·rintro⟨q,h1,h2,h3⟩;exact⟨q,h1,hp.mem_iff.1 h2,h3⟩
    rintro⟨q,h1,h2,h3⟩;exact⟨q,h1,hp.mem_iff.2 h2,h3⟩
   refine hs.eqv (show(f9 st (gW R) V (NL S R).reverse).n=(f9 st (gW R) V X).n by rw[jl,jl]) ?_ ?_
   ·intro t
    show lk (List.map _ _) t=lk (List.map _ _) t
    rw[mb,mb,KO];have x:=j9 (iz:=st) (V:=V) hd.inj (L:=X) (t:=t);have y:=j9 (iz:=st) (V:=V) hd.inj (L:=(NL S R).reverse) (t:=t)
    by_cases he:∃j,j∈X∧gW R j=some t
    ·obtain⟨j,h1,h2⟩:=he;rw[x.1 j h1 h2,y.1 j (hp.mem_iff.1 h1) h2]
    rw[x.2 fun k hk e=>he ⟨k,hk,e⟩,y.2 fun k hk e=>he ⟨k,hp.mem_iff.2 hk,e⟩]
   show(List.map _ _).Perm (List.map _ _)
   rw[KO,jf,jf];exact((hp.flatMap_right _).append_right _).symm.map _
  have ah5:X.length+(e::es).length=ops.size:=by
   have h1:X.length=(NL S R).length:=by rw[hp.length_eq,List.length_reverse]
   have h2:(NL S R).length+(EL S R).length=R.length:=by
    unfold NL EL;have:∀l:List Nat,(l.filter fun i=>S.contains i).length+(l.filter fun i=>!S.contains i).length=l.length:=by
     intro l
     induction l with
     |nil=>rfl
     |cons x l ih=>
      simp only[List.filter_cons,lK]
      by_cases hx:S.contains x=true;simp only[hx,ay,bT,mI,aA,lK];omega
      have qR:S.contains x=false:=by simpa using hx
      simp only[qR,ay,bN,mI,aA,lK];omega
    simpa using this (List.range R.length)
   rw[h1,←hE,h2,hd.len]
  have Xu:fuel=(e::es).length:=by omega
  rw[Xu];refine MW hd.len hd.res hd.pC (e::es) gi _ a w h.size ?_ EZ ?_ (nL.eqS hsE) (by rw[hsE.n];exact jl) wq
  ·intro j hj;rw[h.li j hj];have hjR:j<R.length:=by rw[hd.len];exact hj
   constructor;intro hx hm;rw[←hE]at hm;have h1:=(kV.1 hm).2;have h2:=(ic.1 (hX j hx)).2;rw[h1]at h2;cases h2;intro hm;rw[←hE]at hm;refine iy j (ic.2 ⟨hjR,?_⟩);cases hq:S.contains j with
   |true=>rfl
   |false=>exact absurd (kV.2 ⟨hjR,hq⟩) hm
  intro x hx;rw[←hE]at hx;rw[←hd.len];exact(kV.1 hx).1
 intro fuel
 induction fuel with
 |zero=>
  intro X gi a w h hX hI hl hs;have:=nB h.nd h.lt (by omega) e pz;exact absurd (hX e this) heN
 |succ fuel ih=>
  intro X gi a w h hX hI hl hs
  by_cases iy:∀i∈NL S R,i∈X;exact fin (fuel+1) X gi a w h hX hI hl hs iy
  have pD:∀i,i<ops.size→i∉X→(∀j∈gj ops i,j∈X)→i∈Region.ready .any ops gi:=by
   intro i hi hm hw;rw[dG];refine⟨?_,ops[i],by simp[hi],fun x hx hb=>?_⟩
   ·cases hc:gi.getD i true with
    |false=>rfl
    |true=>exact absurd ((h.li i hi).1 hc) hm
   have EA:x.on∈gj ops i:=by
    simp only[gj,cP hi,qo];exact aB.2 ⟨x,aQ.2 ⟨by simpa using hx,hb⟩,rfl⟩
   have nK:=hw _ EA;have:=(h.li x.on (h.lt _ nK)).2 nK;rw[bM]at this⊢;have hs:x.on<gi.size:=by rw[h.size];exact h.lt _ nK
   rw[cP hs]at this⊢;exact this
  by_cases hF:∃f∈NL S R,f∉X∧oF ops R f=true∧∀j∈gj ops f,j∈X
  ·obtain⟨f,K5,Xv,jH,OX⟩:=hF;have hfs:f<ops.size:=by rw[←hd.len];exact(ic.1 K5).1
   have Ls:=pD f hfs Xv OX;obtain⟨h1,h2,o,ho,h3⟩:=h.next Ls;obtain⟨r,hr,fM⟩:=hd.res f o ho;have hfA:f∉A:=fun hA=>by
    obtain⟨d,sz,b,x,y,hra,_⟩:=hd.pa f hA;unfold oF at jH;rw[ho,hra]at jH;simp[oT.Xp]at jH
   unfold oF at jH;rw[ho,hr]at jH;simp only[bA,eH,aM,bK]at jH;obtain⟨⟨Xw,jH⟩,Lt⟩:=jH;obtain⟨op,EY,o7,hQ,zb,yZ,⟨g,BO⟩,oJ,Xq⟩:=Fr hd h hX K5 hfA hr fM OX Xv hs;have ko:kf P r (kQ R A st V (uc (NL S R) f)) (V f):=by
    have h1:=hd.step f K5;rw[yu hfA,show R.getD f default=r by simp[aE,hr]]at h1;exact h1
   unfold kf at ko;rw[Xw]at ko;have tS:=Xq ko;rw[o7]at tS jH;obtain⟨v,hv⟩:=tC EY jH BO tS;have Xg:o.guard=none:=by
    have gv:=fM;unfold kl at gv;simp only[oD,oB,fP]at gv;obtain⟨_,_,_,_,_,_,gv⟩:=gv
    split at gv
    ·assumption
    simp only[oB,oP,oS]at gv;obtain⟨_,_,_,_,gv⟩:=gv;rw[←gv]at Xw;cases Xw
   have BN:Region.wanted o (yielded ops a.tmps)=true:=by simp[Region.wanted,Xg]
   have tT:k9 n0 S0 M0 w0 (kQ R A st V (f::X)) (a.put o.dst v) w:=by
    have:=CF (Q:=fun _ _ _=>False) hd h hX hI K5 hfA ho hr fM OX Xv hs;unfold wpOp at this;rw[ho]at this;simp only[BN,ay]at this;rcases this with h4|⟨_,a',w',h4⟩
    unfold Oper.wp at h4;rw[hv w]at h4;exact h4;exact h4.elim
   refine wpAny_first ho (dX H9) (fun c a w hh=>absurd hh.1 (by simp)) fuel gi a w ?_ Ls (.inl ⟨BN,hv⟩) (ih (f::X) _ _ w h1 (fun i hi=>(ab.1 hi).elim (fun e=>e▸K5) (hX i)) (JC hI fun hA=>absurd hA hfA) (by simp only[lK];omega) tT);intro j oj hj g9 jm oK;have XU:=(bc.1 hj).1;have:=Lt j XU;rw[hj]at this;simp only[ba,aU,g9,dR,bH,a7]at this;rcases this with h4|h4|h4
   exact absurd ((h.li j XU).2 (OX j h4)) (by rw[jm];simp);simp only[gj,hj,qo]at h4;obtain⟨x,hx,hxe⟩:=aB.1 h4;obtain⟨BP,EB⟩:=aQ.1 hx;exact absurd hxe (oK x (by simpa using BP) EB);exact h4
  have Eo:(∀j∈gj ops e,j∈X)→False:=by
   intro hw;have hnf:∀m i,i∈NL S R→R.length-i≤m→oF ops R i=false→i∈X:=by
    intro m
    induction m with
    |zero=>intro i hi hm _;have:=(ic.1 hi).1;omega
    |succ m ihm=>
     intro i hi hm jH;rcases Xt i hi with h1|h1|⟨k,hk,h1,h2,h3⟩
     rw[jH]at h1;cases h1;exact hw i h1;rcases h2 with h2|h2|⟨j,hj,h4,h5,h6⟩
     exact h.closed k (ihm k hk (by omega) h2) i h3;exact h.closed k (hw k h2) i h3;exact h.closed k (h.closed j (ihm j hj (by omega) h5) k h6) i h3
   refine iy ?_;intro i
   induction i using Nat.strongRecOn with
   |ind i Xx=>
    intro hi;cases jH:oF ops R i with
    |false=>exact hnf _ i hi (aw _) jH
    |true=>
     refine dg fun g9=>hF ⟨i,hi,g9,jH,fun j hj=>Xx j (hd.pC i j hj) (hd.nw i hi j hj)⟩
  refine⟨fun h0=>?_,fun i hi=>?_⟩
  ·exfalso;refine iy ?_;intro i
   induction i using Nat.strongRecOn with
   |ind i Xx=>
    intro hi;refine dg fun g9=>?_;have:=pD i (by rw[←hd.len];exact(ic.1 hi).1) g9 fun j hj=>Xx j (hd.pC i j hj) (hd.nw i hi j hj);rw[h0]at this;cases this
  obtain⟨h1,h2,o,ho,h3⟩:=h.next hi;have his:=(bc.1 ho).1;have XY:i∈NL S R:=by
   have XZ:i<R.length:=by rw[hd.len];exact his
   refine ic.2 ⟨XZ,?_⟩;cases hq:S.contains i with
   |true=>rfl
   |false=>
    exfalso;have hm:i∈e::es:=by rw[←hE];exact kV.2 ⟨XZ,hq⟩
    rcases ab.1 hm with rfl|hm
    exact Eo h3;obtain⟨q,hq1,OW⟩:=dP.1 hm;have hw:=(sL EZ).2 q (by simp;omega);have e1:(e::es)[q+1]'(by simp;omega)=i:=by simpa using OW
    rw[e1]at hw;have H8:(e::es)[q]'(by simp;omega)∈EL S R:=by rw[hE];exact aF _
    have h4:=(ic.1 (hX _ (h3 _ hw))).2;rw[(kV.1 H8).2]at h4;cases h4
  obtain⟨r,hr,fM⟩:=hd.res i o ho
  by_cases sI:i∈A
  ·obtain⟨k1,k2⟩:=Mv hd h hX hI XY sI ho hr fM h3 h2 hs;refine dO ?_ k1;intro a' w' nL;exact ih (i::X) _ a' w' h1 (fun j hj=>(ab.1 hj).elim (fun e=>e▸XY) (hX j)) k2 (by simp only[lK];omega) nL
  refine dO ?_ (CF hd h hX hI XY sI ho hr fM h3 h2 hs);intro a' w' nL;exact ih (i::X) _ a' w' h1 (fun j hj=>(ab.1 hj).elim (fun e=>e▸XY) (hX j)) (JC hI fun hA=>absurd hA sI) (by simp only[lK];omega) nL
variable {s':St}
def wg.symm(h:wg s s'):wg s' s:=⟨h.n.symm,fun t=>(h.lk t).symm,h.us.symm⟩
def wg.trans{Sv:St}(h:wg s s')(h':wg s' Sv):wg s Sv:=⟨h'.n.trans h.n,fun t=>(h'.lk t).trans (h.lk t),h'.us.trans h.us⟩
def wg.app(h:wg s s'){d:Option Nat}:wg (kK s d v) (kK s' d v):=by
 unfold kK;cases d with
 |none=>exact⟨h.n,h.lk,h.us.append_left _⟩
 |some d=>
  refine⟨h.n,fun t=>?_,h.us.append_left _⟩
  show Ax.lk ((d,v.1)::s'.env) t=Ax.lk ((d,v.1)::s.env) t
  simp only[Ax.lk]
  split;rfl;exact h.lk t
def wg.pa{nn:Option Bool}{es:List D}{d0:D}(h:wg s s')(hk:(s.us.map (·.1)).Nodup)(hp:Lv s d sz b x y nn es d0):Lv s' d sz b x y nn es d0:=
 ⟨(h.lk x).trans hp.gx,(h.lk y).trans hp.gy,by rw[h.unit hk];exact hp.ux,by rw[h.unit hk];exact hp.uy,hp.ne,hp.pos,hp.fl,hp.ds,hp.b1,hp.b2,h.fresh hp.fr⟩
def wg.ah9{p:PO}(h:wg s s')(hk:(s.us.map (·.1)).Nodup)(hs:rX P p s v):rX P p s' v:=by
 cases p with
 |q r=>exact h.step hk hs
 |a d sz b x y=>
  obtain⟨nn,es,d0,h1,h2⟩:=hs;exact⟨nn,es,d0,h.pa hk h1,h2⟩
def GH:∀{us:List (Nat×U)},Ie k us=us.map fun z=>(z.1,if z.1=k then .own .jk else z.2)
 | []=>rfl
 |(i,u)::r=>by simp only[Ie,lC,GH (us:=r)]
def CG(sI:i∈A)(t:Nat):pN R A (i::X) t=(pN R A X t||(md R i).contains t):=by
 rw[dx,jD,ba,jD,bH,a7];constructor
 ·rintro⟨q,h1,h2,h3⟩;rcases ab.1 h2 with rfl|h2
  exact .inr h3;exact .inl ⟨q,h1,h2,h3⟩
 rintro(⟨q,h1,h2,h3⟩|h3)
 ·exact⟨q,h1,by simp[h2],h3⟩
 exact⟨i,sI,by simp,h3⟩
def afr{es:List D}{d0:D}(h:wg (kQ R A st V X) s)(sI:i∈A)(K7:gW R i=some d)(hV:V i=GC d sz es d0)(kZ:md R i=[x,y])(hd:pN R A (i::X) d=false):
  wg (kQ R A st V (i::X)) ⟨s.n,(d,.tr d)::(y,.any)::(x,.any)::s.env,(GC d sz es d0).2++Ie x (Ie y s.us)⟩:=by
 have e0:f9 st (gW R) V (i::X)=kK (f9 st (gW R) V X) (some d) (GC d sz es d0):=by simp only[f9];rw[K7,hV]
 refine⟨?_,fun t=>?_,?_⟩
 ·rw[show(kQ R A st V (i::X)).n=(f9 st (gW R) V (i::X)).n from rfl,jl,←jl (iz:=st) (D:=gW R) (V:=V) (L:=X)];exact h.n
 ·have c2:∀(e:List (Nat×AV)),lk ((d,AV.tr d)::(y,.any)::(x,.any)::e) t=if d=t then .tr d else if y=t then .any else if x=t then .any else lk e t:=fun e=>rfl
  rw[c2]
  show _=lk (List.map _ _) t
  rw[mb,e0];have c1:lk (kK (f9 st (gW R) V X) (some d) (GC d sz es d0)).env t=if d=t then .tr d else lk (f9 st (gW R) V X).env t:=rfl
  rw[c1]
  by_cases e:d=t
  ·subst e;rw[af rfl,af rfl,hd]
   rfl
  rw[ae e,ae e,CG sI,kZ]
  by_cases ey:y=t
  ·subst ey;rw[af rfl,af (by simp)]
  by_cases ex:x=t
  ·subst ex;rw[ae ey,af rfl,af (by simp)]
  rw[ae ey,ae ex,h.lk t];have hct:[x,y].contains t=false:=by simp[cU ex,cU ey]
  rw[hct,aL];exact mb
 show((GC d sz es d0).2++Ie x (Ie y s.us)).Perm (List.map (Gq (pN R A (i::X))) (f9 st (gW R) V (i::X)).us)
 have e2:(f9 st (gW R) V (i::X)).us=(GC d sz es d0).2++(f9 st (gW R) V X).us:=by rw[e0];rfl
 rw[e2,bQ];have e3:(GC d sz es d0).2.map (Gq (pN R A (i::X)))=(GC d sz es d0).2:=by
  simp only[GC,lC,lN,Gq,hd]
  rfl
 rw[e3,GH,GH];refine List.Perm.append_left _ ?_;refine((h.us.map _).map _).trans ?_
 show((List.map _ (List.map _ (List.map (Gq (pN R A X)) (f9 st (gW R) V X).us)))).Perm _
 rw[cR,cR];refine List.Perm.of_eq (cA ?_);rintro⟨k,u⟩ _;simp only[Function.comp,Gq,CG sI,kZ]
 by_cases h1:pN R A X k=true;simp[h1]
 by_cases ex:k=x
 subst ex;simp[h1]
 by_cases ey:k=y
 subst ey;simp[h1];simp[h1,ex,ey]
def ab9(hA:∀p∈A,∃d sz b x y,qn A R p=.a d sz b x y∧md R p=[x,y]∧gW R p=some d)(hpr:∀q∈A,∀t∈md R q,∀j,gW R j=some t→j<q):∀{N:List Nat} {rl:List Rs} {s s':St} {L:List Nat},N.Pairwise (· <·)→(∀j∈L,∀i∈N,j<i)→(∀i∈N,i<R.length)→UW P (N.map (qn A R)) rl s s'→wg (kQ R A st V L) s→N.map V=rl→
  (s.us.map (·.1)).Nodup→DA R A st V L→
  wg (kQ R A st V (N.reverse++L)) s'∧(s'.us.map (·.1)).Nodup∧(∀(p:Nat)(hp:p<N.length),rX P (qn A R N[p]) (kQ R A st V ((N.take p).reverse++L)) (V N[p]))∧
   (∀z∈s.env,z∈s'.env)∧∀i∈N,∀t,gW R i=some t→(t,(V i).1)∈s'.env
 | [],rl,s,s',L,_,_,_,h,e,hV,hk,_=>by
  simp only[lN]at hV h;subst hV;simp only[UW]at h;subst h;exact⟨by simpa using e,hk,by simp,fun _ h=>h,by simp⟩
 |i::N,rl,s,s',L,NA,hLN,iq,h,e,hV,hk,hI=>by
  simp only[lC]at hV h;subst hV;simp only[UW]at h;obtain⟨ju,hlx⟩:=h;rw[dW]at NA;have afL:((f9 st (gW R) V L).us.map (·.1)).Perm (s.us.map (·.1)):=by
   have h1:=e.us.map (·.1);rw[show(kQ R A st V L).us.map (·.1)=(f9 st (gW R) V L).us.map (·.1)from vO]at h1;exact h1.symm
  have hnd0:((f9 st (gW R) V L).us.map (·.1)).Nodup:=afL.nodup_iff.2 hk;have alO:∀j∈i::L,∀k∈N,j<k:=fun j hj k OV=>by
   rcases ab.1 hj with rfl|hj
   exact NA.1 k OV;exact hLN j hj k (by simp[OV])
  have KO:∀{d:Nat},gW R i=some d→pN R A L d=false:=fun {d} K7=>by
   cases hu:pN R A L d with
   |false=>rfl
   |true=>
    obtain⟨q,hq,hqL,Xy⟩:=jD.1 hu;have h1:=hpr q hq d Xy i K7;have h2:=hLN q hqL i (by simp);omega
  have alP:rX P (qn A R i) (kQ R A st V L) (V i):=e.symm.ah9 hk ju;have fin:∀{s1:St},Oj (qn A R i) s (V i)=s1→wg (kQ R A st V (i::L)) s1→(s1.us.map (·.1)).Nodup→DA R A st V (i::L)→(∀z∈s.env,z∈s1.env)→(∀t,gW R i=some t→(t,(V i).1)∈s1.env)→
    wg (kQ R A st V ((i::N).reverse++L)) s'∧(s'.us.map (·.1)).Nodup∧(∀(p:Nat)(hp:p<(i::N).length),rX P (qn A R (i::N)[p]) (kQ R A st V (((i::N).take p).reverse++L)) (V (i::N)[p]))∧
     (∀z∈s.env,z∈s'.env)∧∀j∈i::N,∀t,gW R j=some t→(t,(V j).1)∈s'.env:=by
   intro s1 e1 q1 q2 q3 q4 q5;rw[e1]at hlx;obtain⟨r1,r2,r3,r4,r5⟩:=ab9 hA hpr NA.2 alO (fun j hj=>iq j (by simp[hj])) hlx q1 rfl q2 q3;refine⟨by simpa using r1,r2,fun p hp=>?_,fun z hz=>r4 z (q4 z hz),fun j hj t ht=>?_⟩
   ·cases p with
    |zero=>simpa using alP
    |succ p=>simpa using r3 p (by simpa using hp)
   rcases ab.1 hj with rfl|hj
   exact r4 _ (q5 t ht);exact r5 j hj t ht
  by_cases sI:i∈A
  ·obtain⟨d,sz,b,x,y,Xz,kZ,K7⟩:=hA i sI;obtain⟨nn,es,d0,hB,hVi⟩:=rX.GC Xz ju;have Em:=hB.fr;simp only[St.fresh,tO,bU]at Em;have ot:=jy Em;have zf:x∈s.us.map (·.1):=aB.2 ⟨_,f7 hB.ux,rfl⟩;have hys:y∈s.us.map (·.1):=aB.2 ⟨_,f7 hB.uy,rfl⟩;have hdu:pN R A (i::L) d=false:=by
    rw[CG sI,KO K7,kZ];simp only[cY,bH,cK,ab,cF,cI,cj];exact⟨fun e=>ot (e▸zf),fun e=>ot (e▸hys)⟩
   have Ep:=afr e sI K7 hVi kZ hdu;have e1:Oj (qn A R i) s (V i)=⟨s.n,(d,.tr d)::(y,.any)::(x,.any)::s.env,(GC d sz es d0).2++Ie x (Ie y s.us)⟩:=by rw[Xz,hVi];rfl
   refine fin e1 Ep ?_ (JC hI fun _ k hkk=>?_) (fun z hz=>bg _ (bg _ (bg _ hz))) (fun t ht=>?_)
   ·show(List.map _ ((GC d sz es d0).2++Ie x (Ie y s.us))).Nodup
    rw[bQ,Dn,Dn]
    show(d::s.us.map (·.1)).Nodup
    exact aH.2 ⟨ot,hk⟩
   ·rw[kZ]at hkk;refine afL.mem_iff.2 ?_;have:k=x∨k=y:=by simpa using hkk
    rcases this with rfl|rfl<;>assumption
   rw[K7]at ht;injection ht with ht;subst ht;exact ab.2 (.inl (by rw[hVi];rfl))
  have Xz:=yu (R:=R) sI;have hil:i<R.length:=iq i (by simp);have K7:(R.getD i default).op.dst=gW R i:=by simp[gW,aE,hil]
  have Ep:Oj (qn A R i) s (V i)=kK s (gW R i) (V i):=by rw[Xz];show kK s (R.getD i default).op.dst (V i)=_;rw[K7]
  rw[Xz]at ju;have Em:=Oe ju;have Xl:((kK s (gW R i) (V i)).us.map (·.1)).Nodup:=by
   have e1:(kK s (gW R i) (V i)).us=(V i).2++s.us:=by unfold kK;cases gW R i<;>rfl
   rw[e1];exact oc hk Em
  have OV:((f9 st (gW R) V (i::L)).us.map (·.1)).Nodup:=by
   rw[xv,bQ];have e1:(kK s (gW R i) (V i)).us=(V i).2++s.us:=by unfold kK;cases gW R i<;>rfl
   rw[e1,bQ]at Xl;exact(afL.append_left _).nodup_iff.2 Xl
  refine fin Ep ((NP OV (fun q hq hqL d Sw Xy=>by have:=KO Sw;rw[jD.2 ⟨q,hq,hqL,Xy⟩]at this;cases this) hI sI).symm.trans e.app) Xl (JC hI fun h=>absurd h sI) (fun z hz=>?_) (fun t ht=>?_)
  ·unfold kK;cases gW R i with
   |none=>exact hz
   |some d=>exact bg _ hz
  unfold kK;rw[ht];exact bD
end
def aaq(ops:Array Oper)(R:List RO)(i:Nat):Bool:=
 match R[i]? with
 |some r=>(match Pk r with
  |some (_,_,_,x,y)=>(List.range R.length).any (fun j=>gW R j==some x&&(gj ops i).contains j)&&(List.range R.length).any (fun j=>gW R j==some y&&(gj ops i).contains j)
  |none=>false)
 |none=>false
def F5(ops:Array Oper)(R:List RO):List Nat:=(List.range R.length).foldl (fun acc i=>if(wZ R i||aaq ops R i)&&(gj ops i).all (fun j=>acc.contains j)then i::acc else acc) []
def U5(ops:Array Oper)(R:List RO)(S:List Nat):List Nat:=(NL S R).filter (aaq ops R)
def NT(S A:List Nat)(ops:Array Oper)(R:List RO):Bool:=
 !A.isEmpty&&CS (R.filterMap (·.op.dst))&&(R.length==ops.size)&&Region.noSelect ops&&
 match EL S R with
 | []=>false
 | e :: es => pZ ops (e :: es) && (A.all fun q => (md R q).all fun t => (List.range R.length).all fun j => gW R j != some t || (decide (j < q) && (gj ops q).contains j)) &&
   (List.range R.length).all fun i=>
   (gj ops i).all (· < i) && (!S.contains i || ((wZ R i || A.contains i) && (gj ops i).all (fun j => S.contains j) && (match R[i]? with | some r => r.lq.all (qp ops R i) && (r.lq.all fun t => A.all fun q => !(md R q).contains t || i == q) | none => true) &&
    (oF ops R i||(gj ops e).contains i||(List.range R.length).any fun k=>decide (i<k)&&S.contains k&&E4 S ops R e k&&(gj ops k).contains i)))
def GS(ops:Array Oper)(R:List RO):Bool:=NT (F5 ops R) (U5 ops R (F5 ops R)) ops R
def N4(ops:Array Oper)(R:List RO):List PO:=(NL (F5 ops R) R).map (qn (U5 ops R (F5 ops R)) R)
def TQ(ops:Array Oper)(R:List RO):List RO:=(EL (F5 ops R) R).map fun i=>R.getD i default
variable {k:Nat}
def zK{A:List Nat}{R:List RO}{q:Nat}(hq:q∈A)(hk:k∈md R q):∀{N:List Nat},q∈N→k∈AJ (N.map (qn A R))
 |j::N,h=>by
  by_cases e:j=q
  ·subst e;have:∃r d sz b x y,R[j]?=some r∧Pk r=some (d,sz,b,x,y):=by
    unfold md at hk
    split at hk
    ·next r hr=>
     split at hk
     ·next d sz b x y hp=>exact⟨r,_,_,_,x,y,hr,hp⟩
     cases hk
    cases hk
   obtain⟨r,d,sz,b,x,y,hr,hp⟩:=this;have hg:R.getD j default=r:=by simp[aE,hr]
   have h1:qn A R j=.a d sz b x y:=by
    unfold qn;rw[af (by simpa using hq),hg,hp]
   have h2:md R j=[x,y]:=by unfold md;rw[hr];simp only;rw[hp]
   rw[h2]at hk;simp only[lC,h1,AJ];have:k=x∨k=y:=by simpa using hk
   rcases this with rfl|rfl<;>simp
  have h':q∈N:=by rcases ab.1 h with h|h;exact absurd h.symm e;exact h
  have ih:=zK hq hk h';simp only[lC];cases qn A R j with
  |q r=>exact ih
  |a d sz b x y=>exact bg _ (bg _ ih)
variable {C:List Nat}
def AM:∀{env:List (Nat×AV)},zC C env=true→∀z∈env,∀k∈C,z.1≠k→z.2.refs k=false
 |(t,v)::r,h,z,hz,k,hk,g9=>by
  simp only[zC,bA,aM]at h;rcases ab.1 hz with rfl|hz
  ·have:=h.1 k hk;simp only[ba,aU,cp]at this;rcases this with e|e
   exact absurd e.symm g9;exact e
  exact AM h.2 z hz k hk g9
def Bl(hk:k∈C):∀{l:List AV},DI C l=true→pQ (AV.refs k) l=l
 | [],_=>rfl
 |v::r,h=>by
  simp only[DI,bA,aM,cp]at h;simp only[pQ];rw[h.1 k hk,Bl hk h.2]
  rfl
def A8(hk:k∈C):∀{us:List (Nat×U)},uL C us=true→∀z∈us,z.2.kill (AV.refs k)=z.2
 |(i,u)::r,h,z,hz=>by
  rcases ab.1 hz with rfl|hz
  ·cases u with
   |bx sz items=>
    simp only[uL,bA]at h;simp only[U.kill];rw[Bl hk h.1]
   |own d=>rfl
   |ar ow nn sz es=>rfl
   |sb T E s=>rfl
  refine A8 hk ?_ z hz;cases u with
  |bx sz items=>simp only[uL,bA]at h;exact h.2
  |own d=>exact h
  |ar ow nn sz es=>exact h
  |sb T E s=>exact h
def Ku{ops:Array Oper}{R:List RO}{st:St}{K:Exit→St→Prop}{id:Nat}{a:Act}{w:World}(hm:Mx P)(hd:GS ops R=true)
  (hR:ops.toList.mapM (kl P wv st.n ops)=some R) (hs:k9 n0 S0 M0 w0 st a w) (hq:w8 P (N4 ops R) st (kP P (AJ (N4 ops R)) (TQ ops R) K)):(Code.region id ops true).wp P (oG n0 S0 M0 w0 st.n K) a w:=by
 refine cQ (Q:=fun e a w=>e=.normal∧oG n0 S0 M0 w0 st.n K e a w) (eL hm ?_) (fun e a w h=>h.2);unfold GS at hd;unfold N4 TQ at hq;generalize hSd:F5 ops R=S at hd hq;generalize hAd:U5 ops R S=A at hd hq;unfold NT at hd;simp only[bA,aU]at hd;obtain⟨⟨⟨⟨_,d1⟩,d2⟩,d3⟩,hd⟩:=hd;cases hE:EL S R with
 |nil=>rw[hE]at hd;cases hd
 |cons e es=>
  rw[hE]at hd hq;simp only[bA,aM,bK,a7]at hd;obtain⟨⟨EZ,hpr⟩,iy⟩:=hd;have vt:∀{i:Nat} {r:RO},R[i]?=some r→i<R.length:=fun h=>(bj.1 h).1;have hAm:∀p∈A,p∈NL S R∧aaq ops R p=true:=fun p hp=>by rw[←hAd]at hp;exact aQ.1 hp
  have hpa:∀p∈A,∃d sz b x y,R[p]?=some ⟨none,.app d sz b (.t x) (.t y)⟩∧qn A R p=.a d sz b x y∧md R p=[x,y]:=fun p hp=>by
   have h1:=(hAm p hp).2;unfold aaq at h1
   split at h1
   ·next r hr=>
    split at h1
    ·next d sz b x y Xz=>
     have hrr:=RN Xz;subst hrr;refine⟨d,sz,b,x,y,hr,?_,?_⟩
     ·unfold qn;rw[af (by simpa using hp),show R.getD p default=⟨none,.app d sz b (.t x) (.t y)⟩by simp only[aE,hr];rfl,Xz]
     unfold md;rw[hr];simp only;rw[Xz]
    cases h1
   cases h1
  have acA:∀q∈A,∀t∈md R q,∀j,gW R j=some t→j<q∧j∈gj ops q:=fun q hq t ht j hj=>by
   have hjl:j<R.length:=by
    unfold gW at hj;simp only[oB]at hj;obtain⟨r,hr,_⟩:=hj;exact vt hr
   have:=hpr q hq t ht j hjl;rw[hj]at this;simpa using this
  have Br:∀i,∀j∈gj ops i,j<i:=by
   intro i j hj
   by_cases hi:i<R.length;exact(iy i hi).1 j hj
   have:ops[i]?=none:=by simp;omega
   simp[gj,this]at hj
  have hN:∀i∈NL S R,(((wZ R i=true∨A.contains i=true)∧(gj ops i).all (fun j=>S.contains j)=true)∧(match R[i]? with|some r=>r.lq.all (qp ops R i)&&(r.lq.all fun t=>A.all fun q=>!(md R q).contains t||i==q)|none=>true)=true)∧
    (oF ops R i||(gj ops e).contains i||(List.range R.length).any fun k=>decide (i<k)&&S.contains k&&E4 S ops R e k&&(gj ops k).contains i)=true:=by
   intro i hi;obtain⟨h1,h2⟩:=ic.1 hi;have:=(iy i h1).2;rw[h2]at this;simpa only[bT,cY,bA,ba]using this
  have hNQ:∀p∈(NL S R).map (qn A R),p.xQ=true:=by
   intro p hp;obtain⟨i,hi,rfl⟩:=aB.1 hp
   by_cases sI:i∈A;obtain⟨d,sz,b,x,y,_,h2,_⟩:=hpa i sI;rw[h2];rfl
   rw[yu sI];have h3:=(hN i hi).1.1.1;rcases h3 with h3|h3
   ·have hl:=(ic.1 hi).1;simpa[wZ,PO.xQ,aE,hl]using h3
   exact absurd (by simpa using h3) sI
  obtain⟨rl,s',hx,hK,hl⟩:=xE hNQ hq;obtain⟨g,hu,hv⟩:=hs.gh;have kn:=qc (nC S R);have hV:(NL S R).map (fun i=>rl.getD ((NL S R).idxOf i) (.any,[]))=rl:=by
   apply dD
   simp at hl;simp[hl];intro p h1 h2;have hp:p<(NL S R).length:=by simpa using h1
   simp[aE,fF kn p hp,h2]
  generalize hVd:(fun i=>rl.getD ((NL S R).idxOf i) ((.any,[]):Rs))=V at hV;have aia:wg (kQ R A st V []) st:=by
   have hf:pN R A []=fun _=>false:=by funext t;simp[pN]
   refine⟨rfl,fun t=>?_,?_⟩
   ·show _=lk (List.map _ _) t
    rw[mb,hf];rfl
   show st.us.Perm (st.us.map (Gq (pN R A [])))
   rw[hf,show(Gq fun _=>false)=(fun z=>z)from by funext z;rfl,List.map_id']
  obtain⟨r1,r2,r3,r4,r5⟩:=ab9 (fun p hp=>by
    obtain⟨d,sz,b,x,y,q1,q2,q3⟩:=hpa p hp;exact⟨d,sz,b,x,y,q2,q3,by simp[gW,q1,oT.dst]⟩) (fun q hq t ht j hj=>(acA q hq t ht j hj).1) (nC S R) (by simp) (fun i hi=>(ic.1 hi).1) hx aia hV hu.keys (fun q _ h=>by cases h)
  rw[aI]at r1;have pS:((f9 st (gW R) V (NL S R).reverse).us.map (·.1)).Nodup:=by
   have h1:=r1.us.map (·.1);rw[show(kQ R A st V (NL S R).reverse).us.map (·.1)=(f9 st (gW R) V (NL S R).reverse).us.map (·.1)from vO]at h1;exact h1.nodup_iff.1 r2
  have ko:∀i∈NL S R,rX P (qn A R i) (kQ R A st V (uc (NL S R) i)) (V i):=fun i hi=>by
   obtain⟨p,hp,rfl⟩:=dP.1 hi;have:=r3 p hp;rw[aI,CV (nC S R) p hp]at this;exact this
  have hD:qD P wv ops R st V S (NL S R) A:=by
   refine⟨d2,?_,ya (qw d1),Br,fun i=>ic,fun i hi sI=>?_,fun p hp=>(hAm p hp).1,kn,?_,hpa,?_,?_,acA,ko,pS,?_,?_⟩;intro i o ho;exact qt hR i o (by simpa using ho)
   ·rcases(hN i hi).1.1.1 with h3|h3
    exact h3;exact absurd (by simpa using h3) sI
   ·intro i hi j hj;have h1:=(hN i hi).1.1.2;rw[aM]at h1;have h2:=Br i j hj;have h3:=(ic.1 hi).1;exact ic.2 ⟨by omega,h1 j hj⟩
   intro i r t hi hr ht j hj;have h2:=(hN i hi).1.2;rw[hr]at h2;simp only[bA,aM]at h2;have hs:=h2.1 t ht;unfold qp at hs;simp only[aM,bK]at hs;simp only[gW,oB]at hj;obtain⟨x,hx,hd⟩:=hj;have:=hs j (vt hx);rw[hx]at this;simpa[hd]using this;intro i r t hi hr ht q hq hqt;have h2:=(hN i hi).1.2;rw[hr]at h2;simp only[bA,aM]at h2;have hs:=h2.2 t ht q hq;simpa[hqt]using hs
   ·intro q hq k hk;have hku:=zK hq hk (hAm q hq).1;have hce:=AM hK.1.1;exact⟨fun z hz g9=>hce z (r4 z hz) k hku g9,fun i hi t ht g9=>hce (t,(V i).1) (r5 i hi t ht) k hku g9⟩
   rintro q hq k hk ⟨j,u⟩ hju;have hku:=zK hq hk (hAm q hq).1
   by_cases hj:pN R A (NL S R).reverse j=true
   ·obtain⟨q',tS,hqN,hjq⟩:=jD.1 hj;obtain⟨d,sz,b,x,y,q1,q2,q3⟩:=hpa q' tS;obtain⟨nn,es',d0,hB,_⟩:=rX.GC q2 (ko q' (hAm q' tS).1);have full:∀{j':Nat} {v:U},(j',v)∈(kQ R A st V (uc (NL S R) q')).us→j'∈md R q'→(j',v)∈(f9 st (gW R) V (NL S R).reverse).us:=fun {j'} {v} h1 h2=>by
     obtain⟨v',m1,e1⟩:=rq.1 h1;have oK:pN R A (uc (NL S R) q') j'=false:=by
      cases hu:pN R A (uc (NL S R) q') j' with
      |false=>rfl
      |true=>
       obtain⟨q2',h3,h4,h5⟩:=jD.1 hu;have hts:j'∈(⟨none,.app d sz b (.t x) (.t y)⟩:RO).lq:=by rw[q3]at h2;exact vJ.2 (by simpa using h2)
       have h6:=(hN q' (hAm q' tS).1).1.2;rw[q1]at h6;simp only[bA,aM]at h6;have h7:=h6.2 j' hts q2' h3;have h8:q'=q2':=by simpa[h5]using h7
       have h9:=(nO.1 h4).2;omega
     rw[oK]at e1;have e2:v=v':=by simpa using e1
     rw[e2];exact(ku kn pS (aaL kn) (fun j hj=>(nO.1 hj).1)).2 _ m1
    rw[q3]at hjq;have:j=x∨j=y:=by simpa using hjq
    rcases this with rfl|rfl
    have h1:=jq pS (full (f7 hB.ux) (by rw[q3];simp));rw[jq pS hju]at h1;injection h1 with h1;rw[h1];rfl;have h1:=jq pS (full (f7 hB.uy) (by rw[q3];simp));rw[jq pS hju]at h1;injection h1 with h1;rw[h1];rfl
   have h1:(j,u)∈(kQ R A st V (NL S R).reverse).us:=rq.2 ⟨u,hju,by rw[ae hj]⟩;exact A8 hku hK.1.2 _ (r1.us.mem_iff.2 h1)
  have hc:ml P ops R [] (Array.replicate ops.size false):=⟨bp,by simp,by simp,by simp,fun j hj=>by simp[bM,hj]⟩;refine Mm hD r1 hE EZ d3 ?_ hK.2 ops.size [] _ a _ hc (by simp) (fun q _ h=>by cases h) (by simp) ?_
  ·intro i hi;have:=(hN i hi).2;simp only[E4,ba,bH,a7,dw,bK,bA,cp]at this;rcases this with(h1|h1)|⟨k,hk,⟨⟨h1,h2⟩,h3⟩,h4⟩
   exact .inl h1;exact .inr (.inl h1);refine .inr (.inr ⟨k,ic.2 ⟨hk,by simpa using h2⟩,h1,?_,h4⟩);rcases h3 with(h3|h3)|⟨j,hj,⟨⟨q1,q2⟩,q3⟩,q4⟩
   exact .inl h3;exact .inr (.inl h3);exact .inr (.inr ⟨j,ic.2 ⟨hj,by simpa using q2⟩,q1,q3,q4⟩)
  have h0:k9 n0 S0 M0 w0 (kQ R A st V []) a w:=hs.eqS aia.symm;exact⟨h0.ms,h0.v8,h0.tm,h0.base,h0.os,h0.tape,h0.output,h0.size,h0.jL,h0.gh⟩
def sM(P:Program)(wv:Wv)(n:Nat):Code→Option RC
 |.skip=>some .skip
 |.region _ ops draw=>do
  let R←ops.toList.mapM (kl P wv n ops)
  if(!draw||xC ops R)=true then pure (.jI draw R)
  else if HN ops R=true then pure (.jI draw (aeu ops R))
  else if(draw&&HL ops R)=true then pure (.abT R (To (gj ops) R.length R.length []))
  else if(draw&&G4 ops R)=true then pure (.KN (ad8 ops R) (afn ops R))
  else if(draw&&GS ops R)=true then pure (.abU (N4 ops R) (TQ ops R))
  else none
 |.seq a b=>do pure (.seq (←sM P wv n a) (←sM P wv n b))
 |.cond c a b=>do pure (.cond (←gG P 0 c) (←sM P wv n a) (←sM P wv n b))
 |.block id c=>do pure (.gX id (←sM P wv n c))
 |.loop c=>do pure (.loop (←sM P wv n c))
 |.exit id=>some (.exit id)
 |.ret=>some .ret
 |c=>some (.other c)
def vI(hm:Mx P):∀(c:Code)(rc:RC)(st:St)(K:Exit→St→Prop)(a:Act)(w:World),sM P wv st.n c=some rc→k9 n0 S0 M0 w0 st a w→sN P rc st K→
  c.wp P (oG n0 S0 M0 w0 st.n K) a w:=by
 intro c
 induction c with
 |skip=>
  intro rc st K a w hr hs hq;simp only[sM,oS]at hr;subst hr;exact wp_skip ⟨st,rfl,hq,hs⟩
 |region id ops draw=>
  intro rc st K a w hr hs hq;simp only[sM,oD,oB]at hr;obtain⟨R,hR,hr⟩:=hr
  split at hr
  ·next hd=>
   simp only[oP,oS]at hr;subst hr;cases draw with
   |true=>exact ML hm (by simpa using hd) hR hs hq
   |false=>
    refine wp_region ?_;have:=Bc (P:=P) (ops:=ops) (K:=K) ops.toList R 0 st a w (by simp) hR hs hq;simpa[fA]using this
  next hd=>
  split at hr
  ·next hd2=>
   simp only[oP,oS]at hr;subst hr;cases draw with
   |true=>exact Ky hm hd2 hR hs hq
   |false=>simp at hd
  split at hr
  ·next hd4=>
   simp only[oP,oS]at hr;subst hr;simp only[bA]at hd4;obtain⟨rfl,hd4⟩:=hd4;exact IY hm hd4 hR hs hq
  split at hr
  ·next hd5=>
   simp only[oP,oS]at hr;subst hr;simp only[bA]at hd5;obtain⟨rfl,hd5⟩:=hd5;exact I4 hm hd5 hR hs hq
  split at hr
  ·next hd6=>
   simp only[oP,oS]at hr;subst hr;simp only[bA]at hd6;obtain⟨rfl,hd6⟩:=hd6;exact Ku hm hd6 hR hs hq
  cases hr
 |seq x y ihx ihy=>
  intro rc st K a w hr hs hq;simp only[sM,oD,oB,oP,oS]at hr;obtain⟨x',hx,y',hy,rfl⟩:=hr;refine wp_seq (cQ (ihx x' st _ a w hx hs hq) ?_);rintro e a1 w1 ⟨s1,hn,hk,xH⟩;cases e with
  |normal=>
   have:=ihy y' s1 K a1 w1 (by rw[hn];exact hy) xH hk;rw[hn]at this;exact this
  |exit i=>exact⟨s1,hn,hk,xH⟩
  |goto l=>exact⟨s1,hn,hk,xH⟩
  |ret=>exact⟨s1,hn,hk,xH⟩
  |panic c=>exact⟨s1,hn,hk,xH⟩
  |outgrown=>exact⟨s1,hn,hk,xH⟩
 |cond x p q ihp ihq=>
  intro rc st K a w hr hs hq;simp only[sM,oD,oB,oP,oS]at hr;obtain⟨X,hX,p',hp,q',tS,rfl⟩:=hr;obtain⟨g,hu,hv⟩:=hs.gh;have he:=J1 hv hX;simp only[sN]at hq;unfold wu at hq
  split at hq
  ·next tk t hc=>
   rw[hc]at he;have zc:=kj he;refine wp_cond_split zc (fun e=>ihp p' st K a w hp hs (hq.1 e)) (fun e=>ihq q' st K a w tS hs (hq.2 e))
  exact hq.elim
 |block id c ih=>
  intro rc st K a w hr hs hq;simp only[sM,oD,oB,oP,oS]at hr;obtain⟨c',hc,rfl⟩:=hr;refine wp_block (cQ (ih c' st _ a w hc hs hq) ?_);rintro e a1 w1 ⟨s1,hn,hk,xH⟩;cases e with
  |exit i=>
   simp only[Iz]at hk;simp only[Exit.inBlock]
   split
   ·next h=>rw[af h]at hk;exact⟨s1,hn,hk,xH⟩
   next h=>rw[ae h]at hk;exact⟨s1,hn,hk,xH⟩
  |normal=>exact⟨s1,hn,hk,xH⟩
  |goto l=>exact⟨s1,hn,hk,xH⟩
  |ret=>exact⟨s1,hn,hk,xH⟩
  |panic c=>exact⟨s1,hn,hk,xH⟩
  |outgrown=>exact⟨s1,hn,hk,xH⟩
 |loop c ih=>
  intro rc st K a w hr hs hq;simp only[sM,oD,oB,oP,oS]at hr;obtain⟨c',hc,rfl⟩:=hr;obtain⟨I,⟨m0,s,hE,hI⟩,afM⟩:=hq;have tmn:∀{s:St} {a:Act} {w:World} {n:Nat},k9 n0 S0 M0 w0 s a w→a.tmps.size=n→s.n=n:=fun h e=>h.tm.symm.trans e;refine wp_loop_ghost (fun m a w=>∃s,I m s∧s.n=st.n∧k9 n0 S0 M0 w0 s a w) m0 ⟨s,hI,tmn (hE _ _ _ _ _ _ hs) hs.tm,hE _ _ _ _ _ _ hs⟩ ?_;rintro m a1 w1 ⟨s1,h1,Xl,xH⟩;have:=ih c' s1 _ a1 w1 (by rw[Xl];exact hc) xH (afM m s1 h1);rw[Xl]at this;refine cQ this ?_;rintro e a2 w2 ⟨s2,hn,hk,Eb⟩;cases e with
  |normal=>
   obtain⟨m',s3,h3,h4,h5⟩:=hk;exact⟨m',h5,s3,h4,tmn (h3 _ _ _ _ _ _ Eb) (Eb.tm.trans hn),h3 _ _ _ _ _ _ Eb⟩
  |exit i=>exact⟨s2,hn,hk,Eb⟩
  |goto l=>exact⟨s2,hn,hk,Eb⟩
  |ret=>exact⟨s2,hn,hk,Eb⟩
  |panic c=>exact⟨s2,hn,hk,Eb⟩
  |outgrown=>exact⟨s2,hn,hk,Eb⟩
 |exit id=>
  intro rc st K a w hr hs hq;simp only[sM,oS]at hr;subst hr;exact wp_exit ⟨st,rfl,hq,hs⟩
 |ret=>
  intro rc st K a w hr hs hq;simp only[sM,oS]at hr;subst hr;exact wp_ret ⟨st,rfl,hq,hs⟩
 |_=>
  intro rc st K a w hr hs hq;simp only[sM,oS]at hr;subst hr;exact hq.elim
end Go.Ax
