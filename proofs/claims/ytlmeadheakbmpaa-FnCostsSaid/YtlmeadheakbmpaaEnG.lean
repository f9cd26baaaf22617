/- THE ENGINE, PART 7: a generator of conditions over the register code, and its soundness. No condition. -/
import Derived.Test.YtlmeadheakbmpaaEnF
set_option linter.all false
namespace Go.Ax
variable {P:Program}{n0:Nat}{S0 M0:Nat→Prop}{w0:World}
abbrev Rs:=AV×List (Nat×U)
def kK(st:St)(d:Option Nat)(r:Rs):St:=(st.kc r.2).mu d r.1
def QD(P:Program)(op:oT)(st:St)(r:Rs):Prop:=ES P op st.ev st.unit (fun v u=>v=r.1∧u=r.2)∧(r.2=[]∨st.fresh r.2=true)
def kf(P:Program)(R:RO)(st:St)(r:Rs):Prop:=
 match R.g with
 |none=>QD P R.op st r
 |some (t,b)=>(∃tk c,st.get t=.im tk (.sc (.bool c))∧(c=b→QD P R.op st r)∧(c=!b→r=(.lf [],[])))∨(st.get t=.lf []∧r=(.lf [],[]))
def J7(P:Program):List RO→List Rs→St→St→Prop
 | [],[],s,s'=>s=s'
 |R::Rl,r::rl,s,s'=>kf P R s r∧J7 P Rl rl (kK s R.op.dst r) s'
 |_,_,_,_=>False
variable {K:Exit→St→Prop}
def nG:∀{Rl:List RO} {st:St},(∀R∈Rl,R.op.xQ=true)→gR P Rl st K→∃rl s',J7 P Rl rl st s'∧K .normal s'∧rl.length=Rl.length
 | [],st,_,h=>⟨[],st,rfl,h,rfl⟩
 |R::Rl,st,hQ,h=>by
  have hq:=hQ R (by simp);have hQ':∀R∈Rl,R.op.xQ=true:=fun R hR=>hQ R (by simp[hR]);have one:tY P R.op st (jZ P Rl K)→∃r,QD P R.op st r∧gR P Rl (kK st R.op.dst r) K:=by
   intro h;unfold tY at h;rw[hq,af rfl]at h;obtain⟨av,us,hk,hd⟩:=Y4 h;obtain⟨h1,h2⟩:=Gf hk;exact⟨(av,us),⟨hd,h1⟩,h2⟩
  obtain⟨g,op⟩:=R;cases g with
  |none=>
   obtain⟨r,h1,h2⟩:=one h;obtain⟨rl,s',h3,h4,h5⟩:=nG hQ' h2;exact⟨r::rl,s',⟨h1,h3⟩,h4,by simp[h5]⟩
  |some x=>
   obtain⟨t,b⟩:=x;have h:qO (st.get t) b (tY P op st (jZ P Rl K)) (gR P Rl (st.mu op.dst (.lf [])) K):=h;unfold qO at h
   split at h
   ·next tk c hc=>
    by_cases e:c=b
    ·obtain⟨r,h1,h2⟩:=one (h.1 e);obtain⟨rl,s',h3,h4,h5⟩:=nG hQ' h2;exact⟨r::rl,s',⟨.inl ⟨tk,c,hc,fun _=>h1,fun e'=>by subst e;cases c<;>cases e'⟩,h3⟩,h4,by simp[h5]⟩
    have e':c=!b:=by cases c<;>cases b<;>simp_all
    have h2:gR P Rl (kK st op.dst (.lf [],[])) K:=by unfold kK;rw[lp];exact h.2 e'
    obtain⟨rl,s',h3,h4,h5⟩:=nG hQ' h2;exact⟨(.lf [],[])::rl,s',⟨.inl ⟨tk,c,hc,fun h=>absurd h e,fun _=>rfl⟩,h3⟩,h4,by simp[h5]⟩
   ·next hc=>
    have h2:gR P Rl (kK st op.dst (.lf [],[])) K:=by unfold kK;rw[lp];exact h
    obtain⟨rl,s',h3,h4,h5⟩:=nG hQ' h2;exact⟨(.lf [],[])::rl,s',⟨.inr ⟨hc,rfl⟩,h3⟩,h4,by simp[h5]⟩
   exact h.elim
def f9(iz:St)(D:Nat→Option Nat)(V:Nat→Rs):List Nat→St
 | []=>iz
 |i::L=>kK (f9 iz D V L) (D i) (V i)
def jl{iz:St}{D:Nat→Option Nat}{V:Nat→Rs}:∀{L:List Nat},(f9 iz D V L).n=iz.n
 | []=>rfl
 |i::L=>by
  have:=jl (iz:=iz) (D:=D) (V:=V) (L:=L);simp only[f9,kK];cases D i<;>exact this
def jf{iz:St}{D:Nat→Option Nat}{V:Nat→Rs}:∀{L:List Nat},(f9 iz D V L).us=L.flatMap (fun i=>(V i).2)++iz.us
 | []=>rfl
 |i::L=>by
  have:=jf (iz:=iz) (D:=D) (V:=V) (L:=L);simp only[f9,kK,bX,bC];cases D i<;>simp[St.mu,St.set,St.kc,this]
def j9{iz:St}{D:Nat→Option Nat}{V:Nat→Rs}(hD:∀i j t,D i=some t→D j=some t→i=j):∀{L:List Nat} {t:Nat},
  (∀i,i∈L→D i=some t→lk (f9 iz D V L).env t=(V i).1)∧((∀i∈L,D i≠some t)→lk (f9 iz D V L).env t=lk iz.env t)
 | [],t=>⟨by simp,fun _=>rfl⟩
 |j::L,t=>by
  obtain⟨h1,h2⟩:=j9 (iz:=iz) (V:=V) hD (L:=L) (t:=t);have ko:lk (f9 iz D V (j::L)).env t=if D j=some t then(V j).1 else lk (f9 iz D V L).env t:=by
   simp only[f9,kK];cases hj:D j with
   |none=>simp[St.mu,St.kc]
   |some d=>simp[St.mu,St.set,St.kc,lk]
  rw[ko];refine⟨fun i hi hd=>?_,fun oK=>?_⟩
  ·split
   ·next e=>rw[hD i j t hd e]
   next e=>
   rcases ab.1 hi with rfl|hi
   exact absurd hd e;exact h1 i hi hd
  rw[ae (oK j (by simp))];exact h2 fun i hi=>oK i (by simp[hi])
def jt:Nat→List Nat
 |0=>[]
 |n+1=>n::jt n
variable {i n:Nat}
def nz:i∈jt n↔i<n:=by
 induction n with
 |zero=>simp[jt]
 |succ n ih=>simp[jt,ih];omega
def Ul{Rl:List RO}{rl:List Rs}:∀{st s':St} {k:Nat} {iz:St} {D:Nat→Option Nat} {V:Nat→Rs},J7 P Rl rl st s'→st=f9 iz D V (jt k)→
  (∀i,i<Rl.length→D (k+i)=(Rl.getD i default).op.dst)→(∀i,i<Rl.length→V (k+i)=rl.getD i (.any,[]))→
  s'=f9 iz D V (jt (k+Rl.length))∧∀i,i<Rl.length→kf P (Rl.getD i default) (f9 iz D V (jt (k+i))) (V (k+i)):=by
 induction Rl generalizing rl with
 |nil=>
  intro st s' k iz D V h e _ _;cases rl with
  |nil=>simp only[J7]at h;subst h;exact⟨e,by simp⟩
  |cons=>simp[J7]at h
 |cons R Rl ih=>
  intro st s' k iz D V h e hD hV;cases rl with
  |nil=>simp[J7]at h
  |cons r rl=>
   simp only[J7]at h;have d0:=hD 0 (by simp);have v0:=hV 0 (by simp);simp only[ah,aj]at d0 v0;have e2:kK st R.op.dst r=f9 iz D V (jt (k+1)):=by
    simp only[jt,f9];rw[e,d0,v0]
   obtain⟨h1,h2⟩:=ih h.2 e2 (fun i hi=>by have:=hD (i+1) (by simp;omega);simpa[cN,eo 1 i]using this) (fun i hi=>by have:=hV (i+1) (by simp;omega);simpa[cN,eo 1 i]using this);refine⟨by rw[h1];congr 2;simp;omega,?_⟩;intro i hi;cases i with
   |zero=>simp only[ah,aj];rw[v0,←e];exact h.1
   |succ i=>
    have:=h2 i (by simpa using hi);rw[show k+(i+1)=k+1+i by omega];simpa using this
def zA{k:Nat}:∀{us:List (Nat×U)},k∉us.map (·.1)→tO k us=true
 | [],_=>rfl
 |(i,u)::r,h=>by
  simp only[lC,ab,cj]at h;simp only[tO,bA,cy];exact⟨fun e=>h.1 e.symm,zA h.2⟩
def yI{st:St}:∀{us:List (Nat×U)},((us++st.us).map (·.1)).Nodup→st.fresh us=true
 | [],_=>rfl
 |x::r,h=>by
  simp only[bf,lC,aH,bQ,an,cj]at h;simp only[St.fresh,bA];exact⟨⟨zA h.1.2,zA h.1.1⟩,yI (by simpa using h.2)⟩
def oc{st:St}(hk:(st.us.map (·.1)).Nodup):∀{us:List (Nat×U)},(us=[]∨st.fresh us=true)→((us++st.us).map (·.1)).Nodup
 | [],_=>hk
 |x::r,h=>by
  have h:=h.resolve_left (by simp);simp only[St.fresh,bA]at h;simp only[bf,lC,aH,bQ,an,cj];exact⟨⟨jy h.1.2,jy h.1.1⟩,by have:=oc hk (us:=r) (.inr h.2);simpa using this⟩
variable {us:List (Nat×U)}
def jq(hk:(us.map (·.1)).Nodup){k:Nat}{u:U}(hm:(k,u)∈us):lu us k=some u:=by
 induction us with
 |nil=>cases hm
 |cons x us ih=>
  obtain⟨i,v⟩:=x;simp only[lC,aH]at hk;simp only[lu];rcases ab.1 hm with e|hm
  ·injection e with e1 e2;subst e1;subst e2;simp
  have:i≠k:=fun e=>hk.1 (aB.2 ⟨_,hm,e.symm⟩);rw[ae this];exact ih hk.2 hm
mutual
def yl{h:jv}{g:Gh}:∀{av:AV} {v:Value},fN h us g av v→∀i∈av.ids,∃u,(i,u)∈us
 |.tr k,v,hr,i,hi=>by
  simp only[AV.ids,au]at hi;subst hi;simp only[fN]at hr;obtain⟨⟨d,hd⟩,_⟩:=hr;exact⟨_,hd⟩
 |.pw k _ _,v,hr,i,hi=>by
  simp only[AV.ids,au]at hi;subst hi;simp only[fN]at hr;obtain⟨_,_,_,_,_,h1,_⟩:=hr;exact⟨_,h1⟩
 |.cw k _ _ _ _,v,hr,i,hi=>by
  simp only[AV.ids,au]at hi;subst hi;simp only[fN]at hr;obtain⟨_,_,_,_,_,_,h1,_⟩:=hr;exact⟨_,h1⟩
 |.sm k _ _,v,hr,i,hi=>by
  simp only[AV.ids,au]at hi;subst hi;simp only[fN]at hr;obtain⟨_,_,_,_,h1,_⟩:=hr;exact⟨_,h1⟩
 |.pb k _,v,hr,i,hi=>by
  simp only[AV.ids,au]at hi;subst hi;simp only[fN]at hr;obtain⟨_,_,_,h1,_⟩:=hr;exact⟨_,h1⟩
 |.ps k,v,hr,i,hi=>by
  simp only[AV.ids,au]at hi;subst hi;simp only[fN]at hr;obtain⟨_,_,_,_,h1,_⟩:=hr;exact⟨_,h1⟩
 |.vb k _,v,hr,i,hi=>by
  simp only[AV.ids,au]at hi;subst hi;simp only[fN]at hr;obtain⟨_,_,_,h1,_⟩:=hr;exact⟨_,h1⟩
 |.sg vs,v,hr,i,hi=>by
  simp only[AV.ids]at hi;simp only[fN]at hr;obtain⟨xs,h1,_⟩:=hr;exact Ah h1 i hi
 |.im _ _,v,hr,i,hi=>by simp[AV.ids]at hi
 |.lf _,v,hr,i,hi=>by simp[AV.ids]at hi
 |.any,v,hr,i,hi=>by simp[AV.ids]at hi
 |.cl f vs,v,hr,i,hi=>by
  simp only[AV.ids]at hi;simp only[fN]at hr;obtain⟨xs,h1,_⟩:=hr;exact Ah h1 i hi
 |.pq k _ _ _ _ _,v,hr,i,hi=>by
  simp only[AV.ids,au]at hi;subst hi;simp only[fN]at hr;obtain⟨_,_,_,_,_,_,_,_,_,_,_,h1,_⟩:=hr;exact⟨_,h1⟩
 |.qs k _ _ _ _ _,v,hr,i,hi=>by
  simp only[AV.ids,au]at hi;subst hi;simp only[fN]at hr;obtain⟨_,_,_,_,_,_,_,_,_,_,h1,_⟩:=hr;exact⟨_,h1⟩
 |.ss k _ _,v,hr,i,hi=>by
  simp only[AV.ids,au]at hi;subst hi;simp only[fN]at hr;obtain⟨_,_,_,_,h1,_⟩:=hr;exact⟨_,h1⟩
 |.z0 _ _,v,hr,i,hi=>by simp[AV.ids]at hi
def Ah{h:jv}{g:Gh}:∀{avs:List AV} {vs:List Value},fT h us g avs vs→∀i∈AV.oI avs,∃u,(i,u)∈us
 | [],vs,hr,i,hi=>by simp[AV.oI]at hi
 |a::as,vs,hr,i,hi=>by
  simp only[fT]at hr;obtain⟨v,r,rfl,h1,h2⟩:=hr;simp only[AV.oI,an]at hi;rcases hi with hi|hi
  exact yl h1 i hi;exact Ah h2 i hi
end
def k9.eqv{st gp:St}{a:Act}{w:World}(hs:k9 n0 S0 M0 w0 st a w)(hn:gp.n=st.n)(he:∀t,lk gp.env t=lk st.env t)(hp:gp.us.Perm st.us):k9 n0 S0 M0 w0 gp a w:=by
 obtain⟨g,hu,hv⟩:=hs.gh;have j7:(fp g gp.us).Perm (fp g st.us):=hp.flatMap_right _;have hm:∀x∈st.us,x∈gp.us:=fun x hx=>hp.mem_iff.2 hx;refine⟨hs.ms,hs.v8,hs.tm.trans hn.symm,hs.base,hs.os,hs.tape,hs.output,hs.size,hs.jL,g,⟨?_,j7.nodup_iff.2 hu.nodup,fun b hb=>hu.lt b (j7.mem_iff.1 hb),fun b hb=>hu.low b (j7.mem_iff.1 hb),?_,?_,?_,fun b hb=>hu.fz b (j7.mem_iff.1 hb),hu.AB.mono fun i u hm hq=>⟨⟨_,hp.mem_iff.1 hm,hq⟩,rfl,rfl⟩⟩,fun t=>?_⟩;exact(hp.map _).nodup_iff.2 hu.keys
 ·intro k hk;exact hu.dead k fun h=>hk ((hp.map _).mem_iff.2 h)
 ·intro b hb;obtain⟨h1,h2,h3⟩:=hu.sh b hb;exact⟨h1,h2,fun h=>h3 (j7.mem_iff.1 h)⟩
 intro x hx;have qR:=hp.mem_iff.1 hx;exact(hu.each x qR).mono qR hm (fun _ _=>rfl) (fun _ _=>⟨rfl,rfl,rfl⟩) rfl (fun _ _ h=>h) (fun _ _ _ h=>h);rw[he];exact(hv t).mono hm (fun _ _=>rfl) (fun _ _=>⟨rfl,rfl,rfl⟩) (fun _ _ _ h=>h)
variable {P:Program}{wv:Wv}{n0:Nat}{S0 M0:Nat→Prop}{w0:World}
def qw:∀{l:List Nat},CS l=true→l.Nodup
 | [],_=>bp
 |x::l,h=>by
  simp only[CS,bA,cp,bH,cK]at h;exact aH.2 ⟨h.1,qw h.2⟩
def gW(R:List RO)(i:Nat):Option Nat:=R[i]?.bind (·.op.dst)
def vOf(rl:List Rs)(i:Nat):Rs:=rl.getD i (.any,[])
def ya:∀{R:List RO},(R.filterMap (·.op.dst)).Nodup→∀i j t,gW R i=some t→gW R j=some t→i=j
 | [],_,i,j,t,h,_=>by simp[gW]at h
 |r::R,hn,i,j,t,hi,hj=>by
  have mem:∀k,gW R k=some t→t∈R.filterMap (·.op.dst):=by
   intro k hk;simp only[gW,oB]at hk;obtain⟨x,hx,hd⟩:=hk;exact eK.2 ⟨x,eF hx,hd⟩
  have Ey:(R.filterMap (·.op.dst)).Nodup:=by
   simp only[List.filterMap_cons]at hn
   split at hn;exact hn;exact(aH.1 hn).2
  have h0:∀k,r.op.dst=some t→gW R k=some t→False:=by
   intro k h1 h2;simp only[List.filterMap_cons,h1]at hn;exact(aH.1 hn).1 (mem k h2)
  cases i with
  |zero=>
   cases j with
   |zero=>rfl
   |succ j=>exact(h0 j (by simpa[gW]using hi) (by simpa[gW]using hj)).elim
  |succ i=>
   cases j with
   |zero=>exact(h0 i (by simpa[gW]using hj) (by simpa[gW]using hi)).elim
   |succ j=>rw[ya Ey i j t (by simpa[gW]using hi) (by simpa[gW]using hj)]
def qZ:∀{n:Nat},(jt n).Nodup
 |0=>bp
 |n+1=>aH.2 ⟨by rw[nz];omega,qZ⟩
def Am:∀{n:Nat},(jt n).length=n
 |0=>rfl
 |n+1=>by simp[jt,Am]
def zX{X:List Nat}(hn:X.Nodup)(hl:∀i∈X,i<n):X.Perm ((jt n).filter (fun i=>decide (i∈X))):=
 (dN hn (qZ.filter _)).2 fun a => by
  simp only[aQ,nz,a7];exact⟨fun h=>⟨hl a h,h⟩,fun h=>h.2⟩
def nB{X:List Nat}(hn:X.Nodup)(hl:∀i∈X,i<n)(h:X.length=n):∀i,i<n→i∈X:=by
 have:=(zX hn hl).length_eq;have h2:((jt n).filter (fun i=>decide (i∈X))).length=(jt n).length:=by rw[←this,h,Am]
 intro i hi;have:=List.length_filter_eq_length_iff.1 h2 i (nz.2 hi);simpa using this
def yi{α β:Type}{f:α→List β}:∀{l m:List α},l.Sublist m→(l.flatMap f).Sublist (m.flatMap f)
 |_,_,.slnil=>dq _
 |_,_,.cons a h=>by
  simp only[bX];exact(yi h).trans (eu _ _)
 |_,_,.cons_cons a h=>by
  simp only[bX];exact(dq _).append (yi h)
variable {V:Nat→Rs}
def z8{iz:St}{D:Nat→Option Nat}(hf:((f9 iz D V (jt n)).us.map (·.1)).Nodup){X:List Nat}(hn:X.Nodup)(hl:∀i∈X,i<n):
  ((f9 iz D V X).us.map (·.1)).Nodup∧∀x∈(f9 iz D V X).us,x∈(f9 iz D V (jt n)).us:=by
 rw[jf]at hf;simp only[jf];have hp:=zX hn hl;have h1:((X.flatMap fun i=>(V i).2)++iz.us).Perm ((((jt n).filter (fun i=>decide (i∈X))).flatMap fun i=>(V i).2)++iz.us):=(hp.flatMap_right _).append_right _;have h2:((((jt n).filter (fun i=>decide (i∈X))).flatMap fun i=>(V i).2)++iz.us).Sublist (((jt n).flatMap fun i=>(V i).2)++iz.us):=(yi fD).append (dq _);exact⟨(h1.map _).nodup_iff.2 ((h2.map _).nodup hf),fun x hx=>h2.subset (h1.mem_iff.1 hx)⟩
variable {R:List RO}
def AS{iz:St}{D:Nat→Option Nat}(h0:(iz.us.map (·.1)).Nodup):∀n,n≤R.length→(∀i,i<R.length→kf P (R.getD i default) (f9 iz D V (jt i)) (V i))→
  ((f9 iz D V (jt n)).us.map (·.1)).Nodup
 |0,_,_=>h0
 |n+1,hn,h=>by
  have ih:=AS h0 n (by omega) h;have hs:=h n (by omega);have:(V n).2=[]∨(f9 iz D V (jt n)).fresh (V n).2=true:=by
   unfold kf at hs
   split at hs;exact hs.2
   next t b _=>
   rcases hs with⟨tk,c,_,h1,h2⟩|⟨_,h2⟩
   ·by_cases e:c=b
    exact(h1 e).2;exact .inl (by rw[h2 (by cases c<;>cases b<;>simp_all)])
   exact .inl (by rw[h2])
  have:=oc ih this;have e:(f9 iz D V (jt (n+1))).us=(V n).2++(f9 iz D V (jt n)).us:=by simp[jf,jt]
  rw[e];exact this
structure Ow (P:Program) (wv:Wv) (ops:Array Oper) (R:List RO) (iz:St) (V:Nat→Rs):Prop where
 len:R.length=ops.size
 res:∀(i:Nat)(o:Oper),ops[i]?=some o→∃r,R[i]?=some r∧kl P wv iz.n ops o=some r
 inj:∀i j t,gW R i=some t→gW R j=some t→i=j
 pC:∀i,∀j∈gj ops i,j<i
 xQ:∀(i:Nat)(r:RO),R[i]?=some r→r.op.xQ=true
 slot:∀(i:Nat)(r:RO)(t:Nat),R[i]?=some r→t∈r.lq→∀j,gW R j=some t→(j<i∧j∈gj ops i)∨(i<j∧i∈gj ops j)
 step:∀(i:Nat)(r:RO),R[i]?=some r→kf P r (f9 iz (gW R) V (jt i)) (V i)
 keys:((f9 iz (gW R) V (jt R.length)).us.map (·.1)).Nodup
variable {ops:Array Oper}
def Nc(h:xC ops R=true):R.length=ops.size:=by
 unfold xC at h;simp only[bA,aU]at h;exact h.1.2
def qt{α β:Type}{f:α→Option β}:∀{l:List α} {m:List β},l.mapM f=some m→∀(i:Nat)(a:α),l[i]?=some a→∃b,m[i]?=some b∧f a=some b
 | [],m,_,i,a,h=>by simp at h
 |x::l,m,hm,i,a,h=>by
  simp only[da,oD,oB,oP,oS]at hm;obtain⟨b,hb,m',v9,rfl⟩:=hm;cases i with
  |zero=>simp only[List.getElem?_cons_zero,oS]at h;subst h;exact⟨b,by simp,hb⟩
  |succ i=>simpa using qt v9 i a (by simpa using h)
def Tz{st s':St}{rl:List Rs}(hd:xC ops R=true)(hR:ops.toList.mapM (kl P wv st.n ops)=some R)(hk:(st.us.map (·.1)).Nodup)
  (hx:J7 P R rl st s'):Ow P wv ops R st (vOf rl)∧s'=f9 st (gW R) (vOf rl) (jt R.length):=by
 have qR:=Ul (k:=0) (iz:=st) (D:=gW R) (V:=vOf rl) hx rfl (fun i hi=>by
  simp only[gW,aa];rw[aE,bb hi]
  rfl) (fun i hi=>by simp[vOf])
 simp only[aa]at qR;obtain⟨e,ko⟩:=qR;have hlen:=Nc hd;unfold xC at hd;simp only[bA,aU,aM,bK]at hd;obtain⟨⟨h1,_⟩,h2⟩:=hd;have vt:∀{i:Nat} {r:RO},R[i]?=some r→i<R.length:=fun h=>(bj.1 h).1;refine⟨⟨hlen,?_,ya (qw h1),?_,?_,?_,?_,AS hk _ (aw _) ko⟩,e⟩;intro i o ho;exact qt hR i o (by simpa using ho)
 ·intro i j hj
  by_cases hi:i<R.length;have:=(h2 i hi).1 j hj;simpa using this
  have:ops[i]?=none:=by simp;omega
  simp[gj,this]at hj
 intro i r hr;have:=(h2 i (vt hr)).2;rw[hr]at this;simp only[bA]at this;exact this.1;intro i r t hr ht j hj;have:=(h2 i (vt hr)).2;rw[hr]at this;simp only[bA,aM]at this;have hs:=this.2 t ht;unfold qp at hs;simp only[aM,bK]at hs;simp only[gW,oB]at hj;obtain⟨x,hx,hd⟩:=hj;have:=hs j (vt hx);rw[hx]at this;simpa[hd]using this;intro i r hr;have:=ko i (vt hr);rw[aE,hr]at this;exact this
structure ml (P:Program) (ops:Array Oper) (R:List RO) (X:List Nat) (gi:Array Bool):Prop where
 nd:X.Nodup
 lt:∀i∈X,i<ops.size
 closed:∀i∈X,∀j∈gj ops i,j∈X
 size:gi.size=ops.size
 li:∀j,j<ops.size→(gi.getD j true=true↔j∈X)
variable {gi:Array Bool}
def ml.li'{X:List Nat}(h:ml P ops R X gi){j:Nat}(hj:gi.getD j false=true):j∈X:=by
 by_cases iq:j<ops.size
 ·refine(h.li j iq).1 ?_;rw[bM]at hj⊢;rw[←h.size]at iq;rw[cP iq]at hj⊢;exact hj
 rw[bM,Array.getElem?_eq_none (by rw[h.size];omega)]at hj;cases hj
def ml.full{X:List Nat}(h:ml P ops R X gi)(ha:∀i,∀j∈gj ops i,j<i)(hr:Region.ready .any ops gi=[]):∀i,i<ops.size→i∈X:=by
 intro i
 induction i using Nat.strongRecOn with
 |ind i ih=>
  intro hi
  by_cases hm:i∈X;exact hm
  exfalso;have:i∈Region.ready .any ops gi:=by
   rw[dG];refine⟨?_,ops[i],by simp[hi],fun e he hb=>?_⟩
   ·cases hc:gi.getD i true with
    |false=>rfl
    |true=>exact absurd ((h.li i hi).1 hc) hm
   have hw:e.on∈gj ops i:=by
    simp only[gj,cP hi,qo];exact aB.2 ⟨e,aQ.2 ⟨by simpa using he,hb⟩,rfl⟩
   have iq:=ha i _ hw;have nK:=ih _ iq (by omega);have:=(h.li e.on (by omega)).2 nK;rw[bM]at this⊢;have hs:e.on<gi.size:=by rw[h.size];omega
   rw[cP hs]at this⊢;exact this
  rw[hr]at this;cases this
def ml.next{X:List Nat}(h:ml P ops R X gi)(hi:i∈Region.ready .any ops gi):
  ml P ops R (i::X) (gi.setIfInBounds i true)∧i∉X∧∃o,ops[i]?=some o∧∀j∈gj ops i,j∈X:=by
 obtain⟨h1,o,ho,h2⟩:=dG.1 hi;have iq:i<ops.size:=(bc.1 ho).1;have H3:i∉X:=fun hx=>by rw[(h.li i iq).2 hx]at h1;cases h1
 have hw:∀j∈gj ops i,j∈X:=by
  intro j hj;simp only[gj,ho,qo]at hj;obtain⟨e,he,rfl⟩:=aB.1 hj;obtain⟨he1,he2⟩:=aQ.1 he;exact h.li' (h2 e (by simpa using he1) he2)
 refine⟨⟨aH.2 ⟨H3,h.nd⟩,?_,?_,by simpa using h.size,?_⟩,H3,o,ho,hw⟩
 ·intro j hj;rcases ab.1 hj with rfl|hj
  exact iq;exact h.lt j hj
 ·intro j hj k hk;rcases ab.1 hj with rfl|hj
  exact bg _ (hw k hk);exact bg _ (h.closed j hj k hk)
 intro j hj
 by_cases e:i=j
 ·subst e;have hs:i<gi.size:=by rw[h.size];exact iq
  simp[bM,hs]
 rw[getD_set_ne _ e,h.li j hj];simp[cU e]
variable {r:RO}
def Lz{st:St}{V:Nat→Rs}{X:List Nat}{t:Nat}(hd:Ow P wv ops R st V)(h:ml P ops R X gi)(hr:R[i]?=some r)
  (hw:∀j∈gj ops i,j∈X) (hn:i∉X) (ht:t∈r.lq):lk (f9 st (gW R) V X).env t=lk (f9 st (gW R) V (jt i)).env t:=by
 have a:=j9 (iz:=st) (V:=V) hd.inj (L:=X) (t:=t);have b:=j9 (iz:=st) (V:=V) hd.inj (L:=jt i) (t:=t)
 by_cases he:∃j,gW R j=some t
 ·obtain⟨j,hj⟩:=he;rcases hd.slot i r t hr ht j hj with⟨h1,h2⟩|⟨h1,h2⟩
  ·rw[a.1 j (hw j h2) hj,b.1 j (nz.2 h1) hj]
  have hx:j∉X:=fun hx=>hn (h.closed j hx i h2);rw[a.2 fun k hk e=>hx (hd.inj k j t e hj▸hk),b.2 fun k hk e=>by
   have:=hd.inj k j t e hj;have:=nz.1 hk;omega]
 rw[a.2 fun k _ e=>he ⟨k,e⟩,b.2 fun k _ e=>he ⟨k,e⟩]
def Qf{ops:Array Oper}{R:List RO}{st:St}{V:Nat→Rs}{X:List Nat}{gi:Array Bool}{i:Nat}{r:RO}{o:Oper}{a:Act}{w:World}{Q:Exit→Act→World→Prop}
  (hd:Ow P wv ops R st V) (h:ml P ops R X gi) (ho:ops[i]?=some o) (hr:R[i]?=some r) (fM:kl P wv st.n ops o=some r)
  (hw:∀j∈gj ops i,j∈X) (hn:i∉X) (tT:ml P ops R (i::X) (gi.setIfInBounds i true)) (hs:k9 n0 S0 M0 w0 (f9 st (gW R) V X) a w):
  wpOp P ops Q i (fun a w=>k9 n0 S0 M0 w0 (f9 st (gW R) V (i::X)) a w) a w:=by
 have hlen:=hd.len;have SF:(f9 st (gW R) V X).n=st.n:=jl;have oJ:∀t∈r.lq,(f9 st (gW R) V X).get t=(f9 st (gW R) V (jt i)).get t:=fun t ht=>Lz hd h hr hw hn ht;have hkX:=z8 hd.keys h.nd (fun j hj=>by have:=h.lt j hj;omega);have OV:=z8 hd.keys tT.nd (fun j hj=>by have:=tT.lt j hj;omega);have hi:i<R.length:=(bj.1 hr).1;have hkD:=z8 (X:=jt i) hd.keys qZ (fun j hj=>by have:=nz.1 hj;omega);have zb:gW R i=r.op.dst:=by simp[gW,hr]
 have Em:(V i).2=[]∨(f9 st (gW R) V X).fresh (V i).2=true:=.inr (yI (by
  have e:(f9 st (gW R) V (i::X)).us=(V i).2++(f9 st (gW R) V X).us:=by simp[jf]
  rw[←e];exact OV.1))
 have GB:f9 st (gW R) V (i::X)=kK (f9 st (gW R) V X) r.op.dst (V i):=by simp only[f9];rw[zb]
 obtain⟨g,hu,hv⟩:=hs.gh;have ko:=hd.step i r hr;have gv:=fM;unfold kl at gv;simp only[oD,oB,fP]at gv;obtain⟨op,EY,_,h1,_,h2,gv⟩:=gv;have yZ:∀d,o.dst=some d→d<(f9 st (gW R) V X).n:=by
  intro d Sw;rw[SF];rw[Sw]at h2;simpa using h2
 have o7:r.op=op:=by
  split at gv
  ·simp only[oP,oS]at gv;rw[←gv]
  simp only[oB,oP,oS]at gv;obtain⟨_,_,_,_,gv⟩:=gv;rw[←gv]
 have run:∀{Q':Exit→Act→World→Prop},QD P r.op (f9 st (gW R) V (jt i)) (V i)→o.wp P a w (fun a w=>k9 n0 S0 M0 w0 (f9 st (gW R) V (i::X)) a w) Q':=by
  intro Q' hq;have hev:∀x∈r.op.xs,(f9 st (gW R) V X).ev x=(f9 st (gW R) V (jt i)).ev x:=by
   intro x hx;cases x with
   |c d=>rfl
   |t n=>exact oJ n (du _ (eK.2 ⟨_,hx,rfl⟩))
  have tS:ES P r.op (f9 st (gW R) V X).ev (f9 st (gW R) V X).unit (fun v u=>v=(V i).1∧u=(V i).2):=by
   refine zM hq.1 hev ?_;intro x hx k u hk wN;rw[←hev x hx]at hk;cases x with
   |c d=>simp only[St.ev,rL]at hk;split at hk<;>simp[AV.ids]at hk
   |t n=>
    obtain⟨u',hm⟩:=yl (hv n) k hk;have h3:=hkX.2 _ hm;have h4:=hkD.2 _ (f7 wN);have e1:=jq hd.keys h3;have e2:=jq hd.keys h4;rw[e1]at e2;injection e2 with e2;subst e2;exact jq hkX.1 hm
  have hQ:=hd.xQ i r hr;rw[o7]at tS hQ;have⟨h5,h6⟩:=B0 (Q':=Q') (n:=st.n) EY hQ SF ⟨hs,hu,hv,yZ⟩ tS;refine dv ?_ h5;rintro a' w' ⟨av,us,⟨rfl,rfl⟩,hS⟩;rw[GB,o7,h6];exact hS Em
 unfold wpOp;rw[ho];simp only
 split at gv
 ·next hg=>
  simp only[oP,oS]at gv;subst gv;have:Region.wanted o (yielded ops a.tmps)=true:=by simp[Region.wanted,hg]
  rw[this,af rfl];exact .inl (run ko)
 next j b hg=>
 simp only[oB,oP,oS]at gv;obtain⟨p,hp,t,ht,rfl⟩:=gv;rcases ko with⟨tk,c,hc,hy,oK⟩|⟨hc,oK⟩
 ·rw[←oJ t (dF _ (by simp))]at hc;have En:=hv t;have Ef:lk (f9 st (gW R) V X).env t=.im tk (.sc (.bool c)):=hc;rw[Ef]at En;have zc:=kj En;have hyy:=td (ops:=ops) hp ht zc;have BN:Region.wanted o (yielded ops a.tmps)=(some c==some b):=by simp[Region.wanted,hg,hyy]
  rw[BN]
  by_cases e:c=b;rw[af (by simp[e])];exact .inl (run (hy e));rw[ae (by simp[e])];have hV:V i=(.lf [],[]):=oK (by cases c<;>cases b<;>simp_all);rw[GB,hV,h1];unfold kK;rw[lp];exact jY hs hu hv yZ ql
 rw[←oJ t (dF _ (by simp))]at hc;have En:=hv t;have Ef:lk (f9 st (gW R) V X).env t=.lf []:=hc;rw[Ef]at En;have BN:Region.wanted o (yielded ops a.tmps)=false:=by simp[Region.wanted,hg,o8 (ops:=ops) hp ht (v5 En)]
 rw[BN,ae (by simp),GB,oK,h1];unfold kK;rw[lp];exact jY hs hu hv yZ ql
def Pi{st:St}{V:Nat→Rs}{Q:Exit→Act→World→Prop}(hd:Ow P wv ops R st V)
  (wq:∀a w,k9 n0 S0 M0 w0 (f9 st (gW R) V (jt R.length)) a w→Q .normal a w):∀(fuel:Nat)(X:List Nat)(gi:Array Bool)(a:Act)(w:World),ml P ops R X gi→fuel+X.length=ops.size→
  k9 n0 S0 M0 w0 (f9 st (gW R) V X) a w→wpAny P .any ops Q fuel gi a w:=by
 have fin:∀{X:List Nat} {gi:Array Bool} {a:Act} {w:World},ml P ops R X gi→(∀i,i<ops.size→i∈X)→k9 n0 S0 M0 w0 (f9 st (gW R) V X) a w→Q .normal a w:=by
  intro X gi a w h hf hs;have hp:X.Perm (jt R.length):=(dN h.nd qZ).2 fun i=>by
   rw[nz,hd.len];exact⟨h.lt i,hf i⟩
  refine wq a w (hs.eqv (by rw[jl,jl]) ?_ ?_)
  ·intro t;have x:=j9 (iz:=st) (V:=V) hd.inj (L:=X) (t:=t);have y:=j9 (iz:=st) (V:=V) hd.inj (L:=jt R.length) (t:=t)
   by_cases he:∃j,j∈X∧gW R j=some t
   ·obtain⟨j,h1,h2⟩:=he;rw[x.1 j h1 h2,y.1 j (hp.mem_iff.1 h1) h2]
   rw[x.2 fun k hk e=>he ⟨k,hk,e⟩,y.2 fun k hk e=>he ⟨k,hp.mem_iff.2 hk,e⟩]
  rw[jf,jf];exact((hp.flatMap_right _).append_right _).symm
 intro fuel
 induction fuel with
 |zero=>
  intro X gi a w h hl hs;have hf:=nB h.nd h.lt (by omega);refine⟨?_,fin h hf hs⟩;rw[dV];intro i hi;have:=h.next hi;obtain⟨_,h2,o,ho,_⟩:=this;exact h2 (hf i (bc.1 ho).1)
 |succ fuel ih=>
  intro X gi a w h hl hs;refine⟨fun h0=>fin h (h.full hd.pC h0) hs,fun i hi=>?_⟩;obtain⟨h1,h2,o,ho,h3⟩:=h.next hi;obtain⟨r,hr,fM⟩:=hd.res i o ho;refine dO ?_ (Qf (Q:=Q) hd h ho hr fM h3 h2 h1 hs);intro a' w' nL;exact ih (i::X) _ a' w' h1 (by simp only[lK];omega) nL
def ML{st:St}{K:Exit→St→Prop}{id:Nat}{a:Act}{w:World}(hm:Mx P)(hd:xC ops R=true)
  (hR:ops.toList.mapM (kl P wv st.n ops)=some R) (hs:k9 n0 S0 M0 w0 st a w) (hq:gR P R st K):(Code.region id ops true).wp P (oG n0 S0 M0 w0 st.n K) a w:=by
 refine eL hm ?_;have hQ:∀r∈R,r.op.xQ=true:=by
  have hd':=hd;unfold xC at hd';simp only[bA,aU,aM,bK]at hd';intro r hr;obtain⟨i,hi,e⟩:=dP.1 hr;have:=(hd'.2 i hi).2;rw[bb hi,e]at this;simp only[bA]at this;exact this.1
 obtain⟨rl,s',hx,hK,hl⟩:=nG hQ hq;obtain⟨g,hu,hv⟩:=hs.gh;obtain⟨hD,e⟩:=Tz hd hR hu.keys hx;have hc:ml P ops R [] (Array.replicate ops.size false):=⟨bp,by simp,by simp,by simp,fun j hj=>by simp[bM,hj]⟩;have hn:s'.n=st.n:=by rw[e];exact jl
 exact Pi hD (fun a w h=>⟨s',hn,hK,by rw[e];exact h⟩) ops.size [] _ a _ hc (by simp) ⟨hs.ms,hs.v8,hs.tm,hs.base,hs.os,hs.tape,hs.output,hs.size,hs.jL,hs.gh⟩
variable {st:St}{o:Oper}{a:Act}{w:World}{k:KQ}{g:Gh}
def oT.Xp:oT→Bool
 |.mv .. |.fa .. |.ext .. |.nck .. |.mkf .. |.pick .. =>true
 |_=>false
variable {d:Nat}{e:TypeId}
def Wa{r:oT}(h:x6 P d e=some r):r.Xp=false:=by
 unfold x6 at h
 split at h
 ·injection h with h;subst h;rfl
 simp only[oD,oB,oP,oS]at h;obtain⟨s,hs,z,hz,rfl⟩:=h
 rfl
variable {sz:Nat}
def abN{wv:Wv}{z:D}{l:Nat}{ps:List (Nat×X)}:(CC wv d sz z l ps).Xp=false:=by
 unfold CC
 split<;>rfl
def tC{r:oT}(fM:tJ P wv n o=some r)(jH:r.Xp=true)(h:At n0 S0 M0 w0 st o a w g)(hq:ES P r st.ev st.unit k):
  ∃v,∀w',(execOp a.eval o).run P w'=.ok (.value v) w':=by
 unfold tJ at fM
 split at fM
 ·next x ho=>exact⟨a.eval x,fun w'=>by simp[execOp,ho]⟩
 ·next x ho=>exact⟨a.eval x,fun w'=>by simp[execOp,ho]⟩
 ·next c x y ho=>
  simp only[oD,oB,oP,oS,fP]at fM;obtain⟨d,hd,_,_,C,hC,X,hX,Y,hY,rfl⟩:=fM;have e:=h.ev_ hC;simp only[ES]at hq;unfold sw at hq
  split at hq
  ·next t' b hv=>
   rw[hv]at e;have hc:=kj e;cases b
   ·exact⟨a.eval y,fun w'=>by simp[execOp,ho,hc,asBool]⟩
   exact⟨a.eval x,fun w'=>by simp[execOp,ho,hc,asBool]⟩
  exact hq.elim
 ·next e x ho=>
  simp only[oD,oB,oP,oS,fP]at fM;obtain⟨d,hd,_,_,s,hs,X,hX,rfl⟩:=fM;cases jH
 ·next e ho=>
  simp only[oD,oB,oP,fP]at fM;obtain⟨d,hd,_,_,fM⟩:=fM;rw[Wa fM]at jH;cases jH
 ·next t x ho=>
  simp only[oD,oB,oP,oS,fP]at fM;obtain⟨d,hd,_,_,s,hs,ag,Ei,_,h1,X,hX,rfl⟩:=fM;cases jH
 ·next t p x ho=>
  simp only[oD,oB,oP,oS,fP]at fM;obtain⟨_,hd,s,hs,A,hA,X,hX,rfl⟩:=fM;cases wv<;>cases jH
 ·next x ho=>
  simp only[oD,oB,oP,oS,fP]at fM;obtain⟨d,hd,_,_,X,hX,rfl⟩:=fM;have e:=h.ev_ hX;simp only[ES]at hq;unfold uj at hq
  split at hq
  ·next t' d j hv=>
   rw[hv]at e;simp only[fN,gJ,D.fits]at e;obtain⟨F,⟨b,off,c,el,fr,F',h1,_⟩,h2,_⟩:=e;rw[gD h2]at h1;have h3:a.eval x=.pointer (some ⟨b,off+j,none⟩):=by simpa using h1
   exact⟨_,fun w'=>by simp[execOp,ho,h3];rfl⟩
  ·next t' b0 o0 d j hv=>
   rw[hv]at e;simp only[fN,gJ,D.fits]at e;obtain⟨F,⟨_,b,off,c,el,fr,F',h1,_⟩,h2,_⟩:=e;rw[gD h2]at h1;have h3:a.eval x=.pointer (some ⟨b,off+j,none⟩):=by simpa using h1
   exact⟨_,fun w'=>by simp[execOp,ho,h3];rfl⟩
  ·next t' p0 hv=>
   rw[hv]at e;have h3:=kj e;exact⟨_,fun w'=>by simp[execOp,ho,h3];rfl⟩
  ·next id el j hv=>
   rw[hv]at e;simp only[fN]at e;obtain⟨ow,nn,sz,es,b,_,_,_,_,h3⟩:=e;exact⟨_,fun w'=>by simp[execOp,ho,h3];rfl⟩
  ·next id el j iE jj j' hv=>
   rw[hv]at e;simp only[fN]at e;obtain⟨ow,nn,usz,es,b,c,ty,b',off',len',cap',_,_,_,_,_,_,h3⟩:=e;exact⟨_,fun w'=>by simp[execOp,ho,h3];rfl⟩
  ·next id j hv=>
   rw[hv]at e;simp only[fN]at e;obtain⟨_,_,b,_,_,h3⟩:=e;exact⟨_,fun w'=>by simp[execOp,ho,h3];rfl⟩
  exact hq.elim
 ·next op t x y u ho=>
  simp only[oD,oB,oP,fP]at fM;obtain⟨d,hd,_,_,fM⟩:=fM
  split at fM<;>(try simp only[oB,oS]at fM);obtain⟨X,hX,Y,hY,rfl⟩:=fM;cases jH;obtain⟨X,hX,Y,hY,rfl⟩:=fM;cases jH
  ·next ht _ _=>obtain⟨X,hX,Y,hY,rfl⟩:=fM;cases jH
  obtain⟨X,hX,Y,hY,rfl⟩:=fM;cases jH;obtain⟨X,hX,Y,hY,rfl⟩:=fM;cases jH;obtain⟨X,hX,Y,hY,rfl⟩:=fM;cases jH
  ·split at fM<;>(try simp only[oB,oS]at fM)
   obtain⟨X,hX,Y,hY,rfl⟩:=fM;cases jH;subst fM;cases jH
  ·split at fM<;>(try simp only[oB,oS]at fM)
   obtain⟨X,hX,Y,hY,rfl⟩:=fM;cases jH;subst fM;cases jH
  subst fM;cases jH
 ·next op t x ho=>
  simp only[oD,oB,oP,oS,fP]at fM;obtain⟨d,hd,_,_,X,hX,rfl⟩:=fM;cases jH
 ·next s t x ho=>
  simp only[oD,oB,oP,fP]at fM;obtain⟨d,hd,_,_,fM⟩:=fM
  split at fM<;>(try simp only[oB,oS]at fM);obtain⟨X,hX,rfl⟩:=fM;cases jH
  ·split at fM<;>simp only[oB,oS]at fM
   obtain⟨X,hX,rfl⟩:=fM;cases jH;subst fM;cases jH
  subst fM;cases jH
 ·next t l c ho=>
  simp only[oD,oB,oP,oS,fP]at fM;obtain⟨d,hd,_,_,e,he,i,hi,z,hz,L,hL,C,hC,rfl⟩:=fM;have ht:P.underlying t=some (.slice e):=by
   unfold ut at he
   split at he
   ·next e' h'=>injection he with he;subst he;exact h'
   cases he
  cases jH
 ·next t x lo hi ho=>
  simp only[oD,oB,oP,fP]at fM;obtain⟨d,hd,_,_,Lo,Ew,Hi,Ny,fM⟩:=fM;have l1:∀y,lo=some y→∃Y,Lo=some Y∧gG P 0 y=some Y:=by
   rintro y rfl;simp only[cM]at Ew;obtain⟨Y,h1,rfl⟩:=Ew;exact⟨Y,rfl,h1⟩
  have l2:lo=none→Lo=none:=by rintro rfl;simpa using Ew.symm
  have l3:∀y,hi=some y→∃Y,Hi=some Y∧gG P 0 y=some Y:=by
   rintro y rfl;simp only[cM]at Ny;obtain⟨Y,h1,rfl⟩:=Ny;exact⟨Y,rfl,h1⟩
  have l4:hi=none→Hi=none:=by rintro rfl;simpa using Ny.symm
  split at fM<;>simp only[oB,oS]at fM;obtain⟨s,hs,X,hX,rfl⟩:=fM;cases jH;obtain⟨X,hX,rfl⟩:=fM;cases jH;subst fM;cases jH
 ·next t x lo hi mx ho=>
  simp only[oD,oB,oP,fP]at fM;obtain⟨d,hd,_,_,fM⟩:=fM
  split at fM
  ·next e ht=>
   split at fM;simp only[oB,oS]at fM;obtain⟨s,hs,X,hX,rfl⟩:=fM;cases jH;simp only[oS]at fM;subst fM;cases jH
  simp only[oS]at fM;subst fM;cases jH
 ·next fn first captured ho=>
  simp only[oD,oB,oP,fP]at fM;obtain⟨d,hd,_,_,fM⟩:=fM
  split at fM
  ·next f hf=>
   exact⟨_,fun w'=>by simp[execOp,ho,Instr.makeFunc];rfl⟩
  simp only[oS]at fM;subst fM;cases jH
 ·next t x i ho=>
  simp only[oD,oB,oP,fP]at fM;obtain⟨d,hd,_,_,fM⟩:=fM
  split at fM
  ·next fs ht=>
   simp only[oB,oS,fP]at fM;obtain⟨f,hf,z,hz,_,HV,X,hX,rfl⟩:=fM;have ex:=h.ev_ hX;have hH:∀(b p:Nat)(w':World),a.eval x=.pointer (some ⟨b,p,none⟩)→(execOp a.eval o).run P w'=.ok (.value (.pointer (some ⟨b,p+f.offset,none⟩))) w':=by
    intro b p w' hv;have HV:z≠0:=by simpa using HV
    simp[execOp,ho,hv,Instr.fieldAt,bo ht,hf,Instr.sureAddr,fieldPlace,qz hz,HV,te]
   simp only[ES]at hq;unfold Jw at hq
   split at hq
   ·next t1 d' j e1=>
    rw[e1]at ex;obtain⟨b,p,hv,_⟩:=zN ex;exact⟨_,fun w'=>hH _ _ w' hv⟩
   ·next t1 b0 o0 d' j e1=>
    rw[e1]at ex;obtain⟨b,p,hv,_⟩:=zN (A4 ex rfl).1;exact⟨_,fun w'=>hH _ _ w' hv⟩
   ·next id el j e1=>
    rw[e1]at ex;simp only[fN]at ex;obtain⟨ow,nn,usz,es,b,r1,r2,r3,r4,hv⟩:=ex;exact⟨_,fun w'=>hH _ _ w' hv⟩
   ·next id el j iE jj j' e1=>
    rw[e1]at ex;simp only[fN]at ex;obtain⟨ow,nn,usz,es,b,c,ty,b',off',len',cap',r1,r2,r3,r4,r5,r6,hv⟩:=ex;exact⟨_,fun w'=>hH _ _ w' hv⟩
   ·next id j e1=>
    rw[e1]at ex;simp only[fN]at ex;obtain⟨sz,items,b,r1,r2,hv⟩:=ex;exact⟨_,fun w'=>hH _ _ w' hv⟩
   exact hq.elim
  cases fM
 ·next t x i ho=>
  simp only[oD,oB,oP,fP]at fM;obtain⟨d,hd,_,_,fM⟩:=fM
  split at fM
  ·next fs ht=>
   simp only[oB,oS,fP]at fM;obtain⟨f,hf,s,hs,ag,Ei,_,h1,X,hX,rfl⟩:=fM;cases jH
  cases fM
 ·next t x i ho=>
  simp only[oD,oB,oP,fP]at fM;obtain⟨d,hd,_,_,fM⟩:=fM
  split at fM
  ·next e ht=>
   simp only[oB,oS]at fM;obtain⟨s,hs,X,hX,I,hI,rfl⟩:=fM;cases jH
  simp only[oS]at fM;subst fM;cases jH
 ·next t x i ho=>
  simp only[oD,oB,oP,fP]at fM;obtain⟨d,hd,_,_,fM⟩:=fM
  split at fM
  ·next ht=>
   simp only[oB,oS]at fM;obtain⟨X,hX,I,hI,rfl⟩:=fM;cases jH
  simp only[oS]at fM;subst fM;cases jH
 ·next x i ho=>
  simp only[oD,oB,oP,oS,fP]at fM;obtain⟨d,hd,_,_,X,hX,rfl⟩:=fM;have ex:=h.ev_ hX;simp only[ES]at hq;unfold BD at hq
  split at hq
  ·next vs e1=>
   rw[e1]at ex;simp only[fN]at ex;obtain⟨xs,hv,hl⟩:=ex;have hlen:∀(vs:List AV)(xs:List Value),fT w.heap st.us g vs xs→xs.length=vs.length:=by
    intro vs
    induction vs with
    |nil=>intro xs hl;simp only[fT]at hl;simp[hl]
    |cons y vs ih=>intro xs hl;simp only[fT]at hl;obtain⟨v,r,rfl,_,h2⟩:=hl;simp[ih r h2]
   have iq:i<xs.size:=by have:=hlen vs _ hl;simp at this;have:=hq.1;omega
   exact⟨xs[i],fun w'=>by simp[execOp,ho,hv,Instr.extract,iq]⟩
  exact hq.elim
 ·next t l ps ho=>
  simp only[oD,oB,oP,oS,fP]at fM;obtain⟨d,hd,_,_,e,he,s,hs,z,hz,L,hL,rfl⟩:=fM;rw[abN]at jH;cases jH
 ·next t ps ho=>
  simp only[oD,oB,oP,fP]at fM;obtain⟨d,hd,_,_,fM⟩:=fM
  split at fM
  ·next fs ht=>
   simp only[oB,oS]at fM;obtain⟨_,_,z,hz,L,hL,rfl⟩:=fM;cases jH
  simp only[oS]at fM;subst fM;cases jH
 ·next c ho=>
  split at fM
  ·next f hc=>
   simp only[oD,oB,fP]at fM;obtain⟨_,_,_,hl,Xs,H5,fM⟩:=fM
   split at fM
   ·split at fM
    simp only[oP,oS]at fM;subst fM;cases jH;cases fM
   split at fM
   ·split at fM
    simp only[oP,oS]at fM;subst fM;cases jH;cases fM
   split at fM
   ·split at fM
    simp only[oP,oS]at fM;subst fM;cases jH;cases fM
   split at fM
   ·split at fM
    simp only[oP,oS]at fM;subst fM;cases jH;cases fM
   split at fM
   ·simp only[oP,oS]at fM;subst fM;cases wv<;>cases jH
   simp only[oP,oS]at fM;subst fM;cases jH
  ·next x _ hc=>
   simp only[oD,oB,oP,oS,fP]at fM;obtain⟨_,_,_,hl,X,hX,Xs,H5,rfl⟩:=fM;cases wv<;>cases jH
  ·next hc=>
   simp only[oD,oB,fP]at fM;obtain⟨d,hd,_,_,fM⟩:=fM
   split at fM
   ·next x t ha tE=>
    have vo:c.args= #[x]:=by apply aR;simpa using ha
    have vq:c.argTypes= #[t]:=by apply aR;simpa using tE
    split at fM<;>simp only[oB,oP,oS]at fM;obtain⟨X,hX,rfl⟩:=fM;cases jH;obtain⟨X,hX,rfl⟩:=fM;cases jH;subst fM;cases jH
   cases fM
  ·next hc=>
   simp only[oD,oB,fP]at fM;obtain⟨d,hd,_,_,fM⟩:=fM
   split at fM
   ·next x y t u ha tE=>
    have vo:c.args= #[x,y]:=by apply aR;simpa using ha
    simp only[oB,oP,oS]at fM;obtain⟨X,hX,Y,hY,rfl⟩:=fM;cases jH
   cases fM
  ·next hc=>
   simp only[oD,oB,fP]at fM;obtain⟨d,hd,_,_,fM⟩:=fM
   split at fM
   ·next x y t u ha tE=>
    have vo:c.args= #[x,y]:=by apply aR;simpa using ha
    simp only[oB,oP,oS]at fM;obtain⟨X,hX,Y,hY,rfl⟩:=fM;cases jH
   cases fM
  ·next hc=>
   simp only[oD,oB,fP]at fM;obtain⟨d,hd,_,_,fM⟩:=fM
   split at fM
   ·next s x t u ha tE=>
    have vo:c.args= #[s,x]:=by apply aR;simpa using ha
    have vq:c.argTypes= #[t,u]:=by apply aR;simpa using tE
    split at fM<;>simp only[oB,oP,oS,fP]at fM
    ·obtain⟨i,hi,_,Nz,z,hz,X,hX,Y,hY,rfl⟩:=fM;cases wv<;>first|cases jH|(by_cases h3:i.size=3;(rw[yn,af h3]at jH;cases jH);(rw[yn,ae h3]at jH;cases jH))
    subst fM;cases jH
   cases fM
  ·next hc=>
   simp only[oD,oB,fP]at fM;obtain⟨_,_,fM⟩:=fM
   split at fM
   ·split at fM<;>simp only[oB,oP,oS,fP]at fM
    obtain⟨s,hs,_,Nz,X,hX,Y,hY,rfl⟩:=fM;cases jH;subst fM;cases jH
   cases fM
  simp only[oP,oS]at fM;subst fM;cases jH
 simp only[oP,oS]at fM;subst fM;cases jH
def wZ(R:List RO)(i:Nat):Bool:=match R[i]? with|some r=>r.op.xQ|none=>false
def oF(ops:Array Oper)(R:List RO)(i:Nat):Bool:=
 match ops[i]?,R[i]? with
 |some o,some r=>r.g.isNone&&r.op.Xp&&(List.range ops.size).all fun j=>j==i||(gj ops i).contains j||(match ops[j]? with|some oj=>(gj ops j).contains i||o.apart ops oj|none=>true)
 |_,_=>false
def pZ(ops:Array Oper):List Nat→Bool
 |e::e'::r=>(gj ops e').contains e&&decide (e<e')&&pZ ops (e'::r)
 |_=>true
def G6(ops:Array Oper)(R:List RO):List Nat:=(List.range R.length).foldl (fun acc i=>if wZ R i&&(gj ops i).all (fun j=>acc.contains j)then i::acc else acc) []
def NL(S:List Nat)(R:List RO):List Nat:=(List.range R.length).filter fun i=>S.contains i
def EL(S:List Nat)(R:List RO):List Nat:=(List.range R.length).filter fun i=>!S.contains i
def E4(S:List Nat)(ops:Array Oper)(R:List RO)(e k:Nat):Bool:=
 !oF ops R k||(gj ops e).contains k||(List.range R.length).any fun j=>decide (k<j)&&S.contains j&& !oF ops R j&&(gj ops j).contains k
def NY(S:List Nat)(ops:Array Oper)(R:List RO):Bool:=
 CS (R.filterMap (·.op.dst))&&(R.length==ops.size)&&Region.noSelect ops&&
 match EL S R with
 | []=>false
 | e :: es => pZ ops (e :: es) && (List.range R.length).all fun i =>
   (gj ops i).all (· < i) && (!S.contains i || (wZ R i && (gj ops i).all (fun j => S.contains j) && (match R[i]? with | some r => r.lq.all (qp ops R i) | none => true) &&
    (oF ops R i||(gj ops e).contains i||(List.range R.length).any fun k=>decide (i<k)&&S.contains k&&E4 S ops R e k&&(gj ops k).contains i)))
def HN(ops:Array Oper)(R:List RO):Bool:=NY (G6 ops R) ops R
def aeu(ops:Array Oper)(R:List RO):List RO:=((NL (G6 ops R) R).map fun i=>R.getD i default)++((EL (G6 ops R) R).map fun i=>R.getD i default)
def FB(h:R[i]?=some r):wZ R i=r.op.xQ:=by simp[wZ,h]
def uc(N:List Nat)(i:Nat):List Nat:=(N.filter fun j=>decide (j<i)).reverse
variable {N:List Nat}
def nO{j:Nat}:j∈uc N i↔j∈N∧j<i:=by simp[uc]
structure uW (P:Program) (wv:Wv) (ops:Array Oper) (R:List RO) (iz:St) (V:Nat→Rs) (S N:List Nat):Prop where
 len:R.length=ops.size
 res:∀(i:Nat)(o:Oper),ops[i]?=some o→∃r,R[i]?=some r∧kl P wv iz.n ops o=some r
 inj:∀i j t,gW R i=some t→gW R j=some t→i=j
 pC:∀i,∀j∈gj ops i,j<i
 mem:∀i,i∈N↔i<R.length∧S.contains i=true
 xQ:∀i∈N,wZ R i=true
 Im:N.Nodup
 nw:∀i∈N,∀j∈gj ops i,j∈N
 slot:∀(i:Nat)(r:RO)(t:Nat),i∈N→R[i]?=some r→t∈r.lq→∀j,gW R j=some t→(j<i∧j∈gj ops i)∨(i<j∧i∈gj ops j)
 step:∀(i:Nat)(r:RO),i∈N→R[i]?=some r→kf P r (f9 iz (gW R) V (uc N i)) (V i)
 keys:((f9 iz (gW R) V N.reverse).us.map (·.1)).Nodup
def LC{X:List Nat}(hN:N.Nodup)(hn:X.Nodup)(hl:∀i∈X,i∈N):X.Perm (N.reverse.filter (fun i=>decide (i∈X))):=
 (dN hn (((dH N).nodup_iff.2 hN).filter _)).2 fun a => by
  simp only[aQ,df,a7];exact⟨fun h=>⟨hl a h,h⟩,fun h=>h.2⟩
def ku{iz:St}{D:Nat→Option Nat}(hN:N.Nodup)(hf:((f9 iz D V N.reverse).us.map (·.1)).Nodup){X:List Nat}(hn:X.Nodup)(hl:∀i∈X,i∈N):
  ((f9 iz D V X).us.map (·.1)).Nodup∧∀x∈(f9 iz D V X).us,x∈(f9 iz D V N.reverse).us:=by
 rw[jf]at hf;simp only[jf];have hp:=LC hN hn hl;have h1:((X.flatMap fun i=>(V i).2)++iz.us).Perm (((N.reverse.filter (fun i=>decide (i∈X))).flatMap fun i=>(V i).2)++iz.us):=(hp.flatMap_right _).append_right _;have h2:(((N.reverse.filter (fun i=>decide (i∈X))).flatMap fun i=>(V i).2)++iz.us).Sublist ((N.reverse.flatMap fun i=>(V i).2)++iz.us):=(yi fD).append (dq _);exact⟨(h1.map _).nodup_iff.2 ((h2.map _).nodup hf),fun x hx=>h2.subset (h1.mem_iff.1 hx)⟩
def Oe{s:St}{v:Rs}(hs:kf P r s v):v.2=[]∨s.fresh v.2=true:=by
 unfold kf at hs
 split at hs;exact hs.2
 next t b _=>
 rcases hs with⟨tk,c,_,h1,h2⟩|⟨_,h2⟩
 ·by_cases e:c=b
  exact(h1 e).2;exact .inl (by rw[h2 (by cases c<;>cases b<;>simp_all)])
 exact .inl (by rw[h2])
def zG:∀{Rl:List RO} {rl:List Rs} {s s':St},J7 P Rl rl s s'→(s.us.map (·.1)).Nodup→(s'.us.map (·.1)).Nodup
 | [],[],s,s',h,hn=>by simp only[J7]at h;subst h;exact hn
 |R::Rl,r::rl,s,s',h,hn=>by
  simp only[J7]at h;refine zG h.2 ?_;have:=oc hn (Oe h.1);have e:(kK s R.op.dst r).us=r.2++s.us:=by unfold kK;cases R.op.dst<;>rfl
  rw[e];exact this
 | [],_::_,_,_,h,_=>by simp[J7]at h
 |_::_,[],_,_,h,_=>by simp[J7]at h
def adU{D:Nat→Option Nat}{iz:St}{F:Nat→RO}:∀{N:List Nat} {rl:List Rs} {s s':St} {L:List Nat},(∀i∈N,D i=(F i).op.dst)→J7 P (N.map F) rl s s'→s=f9 iz D V L→N.map V=rl→
  s'=f9 iz D V (N.reverse++L)∧∀(p:Nat)(hp:p<N.length),kf P (F N[p]) (f9 iz D V ((N.take p).reverse++L)) (V N[p])
 | [],rl,s,s',L,_,h,e,hV=>by
  simp only[lN]at hV h;subst hV;simp only[J7]at h;subst h;exact⟨by simpa using e,by simp⟩
 |i::N,rl,s,s',L,hD,h,e,hV=>by
  simp only[lC]at hV h;subst hV;simp only[J7]at h;have e1:kK s (F i).op.dst (V i)=f9 iz D V (i::L):=by simp only[f9];rw[←e,hD i (by simp)]
  obtain⟨h1,h2⟩:=adU (fun j hj=>hD j (by simp[hj])) h.2 e1 rfl;refine⟨by simpa using h1,fun p hp=>?_⟩;cases p with
  |zero=>simpa[←e]using h.1
  |succ p=>simpa using h2 p (by simpa using hp)
def CV:∀{N:List Nat},N.Pairwise (· <·)→∀(p:Nat)(hp:p<N.length),(N.take p).reverse=uc N N[p]:=by
 intro N hN p hp;unfold uc;congr 1;have key:∀{N:List Nat},N.Pairwise (· <·)→∀(p:Nat)(hp:p<N.length),N.take p=N.filter (fun j=>decide (j<N[p])):=by
  intro N
  induction N with
  |nil=>intro _ p hp;simp at hp
  |cons x N ih=>
   intro h p hp;rw[dW]at h;cases p with
   |zero=>
    simp only[aO,fE]
    symm
    rw[List.filter_eq_nil_iff];intro y hy;rcases ab.1 hy with rfl|hy
    simp;have:=h.1 y hy;simp;omega
   |succ p=>
    have SA:p<N.length:=by simpa using hp
    simp only[aP,List.getElem_cons_succ];rw[List.filter_cons_of_pos (by have:=h.1 N[p] (aF SA);simpa using this),ih h.2 p SA]
 exact key hN p hp
def nC(S:List Nat)(R:List RO):(NL S R).Pairwise (· <·):=List.Pairwise.filter _ List.pairwise_lt_range
variable {S:List Nat}
def ic:i∈NL S R↔i<R.length∧S.contains i=true:=by simp[NL]
def kV:i∈EL S R↔i<R.length∧S.contains i=false:=by simp[EL]
def qc{l:List Nat}(h:l.Pairwise (· <·)):l.Nodup:=h.imp fun h=>Nat.ne_of_lt h
def qa:∀{A B:List RO} {st:St},gR P (A++B) st K=gR P A st (fun _ s=>gR P B s K)
 | [],_,_=>rfl
 |⟨none,r⟩::A,B,st=>by
  simp only[bf,gR];congr 1
  funext s
  exact qa
 |⟨some (t,b),r⟩::A,B,st=>by
  simp only[bf,gR];rw[qa];congr 1;congr 1
  funext s
  exact qa
def J2{st:St}{V:Nat→Rs}{X:List Nat}{t:Nat}(hd:uW P wv ops R st V S N)(h:ml P ops R X gi)(hX:∀i∈X,i∈N)(hi:i∈N)(hr:R[i]?=some r)
  (hw:∀j∈gj ops i,j∈X) (hn:i∉X) (ht:t∈r.lq):lk (f9 st (gW R) V X).env t=lk (f9 st (gW R) V (uc N i)).env t:=by
 have a:=j9 (iz:=st) (V:=V) hd.inj (L:=X) (t:=t);have b:=j9 (iz:=st) (V:=V) hd.inj (L:=uc N i) (t:=t)
 by_cases he:∃j,gW R j=some t
 ·obtain⟨j,hj⟩:=he;rcases hd.slot i r t hi hr ht j hj with⟨h1,h2⟩|⟨h1,h2⟩
  ·rw[a.1 j (hw j h2) hj,b.1 j (nO.2 ⟨hd.nw i hi j h2,h1⟩) hj]
  have hx:j∉X:=fun hx=>hn (h.closed j hx i h2);rw[a.2 fun k hk e=>hx (hd.inj k j t e hj▸hk),b.2 fun k hk e=>by
   have:=hd.inj k j t e hj;have:=(nO.1 hk).2;omega]
 rw[a.2 fun k _ e=>he ⟨k,e⟩,b.2 fun k _ e=>he ⟨k,e⟩]
def vN{ops:Array Oper}{R:List RO}{st:St}{V:Nat→Rs}{S N X:List Nat}{gi:Array Bool}{i:Nat}{r:RO}{o:Oper}{a:Act}{w:World}
  (hd:uW P wv ops R st V S N) (h:ml P ops R X gi) (hX:∀i∈X,i∈N) (hi:i∈N) (hr:R[i]?=some r) (fM:kl P wv st.n ops o=some r)
  (hw:∀j∈gj ops i,j∈X) (hn:i∉X) (hs:k9 n0 S0 M0 w0 (f9 st (gW R) V X) a w):
  ∃op,tJ P wv st.n o=some op∧r.op=op∧op.xQ=true∧op.dst=o.dst∧(∀d,o.dst=some d→d<(f9 st (gW R) V X).n)∧(∃g,At n0 S0 M0 w0 (f9 st (gW R) V X) o a w g)∧(∀t∈r.lq,(f9 st (gW R) V X).get t=(f9 st (gW R) V (uc N i)).get t)∧
   (QD P r.op (f9 st (gW R) V (uc N i)) (V i)→ES P r.op (f9 st (gW R) V X).ev (f9 st (gW R) V X).unit (fun v u=>v=(V i).1∧u=(V i).2)):=by
 have SF:(f9 st (gW R) V X).n=st.n:=jl;have oJ:∀t∈r.lq,(f9 st (gW R) V X).get t=(f9 st (gW R) V (uc N i)).get t:=fun t ht=>J2 hd h hX hi hr hw hn ht;have hkX:=ku hd.Im hd.keys h.nd hX;have hbn:(uc N i).Nodup:=(dH _).nodup_iff.2 (hd.Im.filter _);have hkD:=ku (X:=uc N i) hd.Im hd.keys hbn (fun j hj=>(nO.1 hj).1);have gv:=fM;unfold kl at gv;simp only[oD,oB,fP]at gv;obtain⟨op,EY,_,h1,_,h2,gv⟩:=gv;have yZ:∀d,o.dst=some d→d<(f9 st (gW R) V X).n:=by
  intro d Sw;rw[SF];rw[Sw]at h2;simpa using h2
 have o7:r.op=op:=by
  split at gv
  ·simp only[oP,oS]at gv;rw[←gv]
  simp only[oB,oP,oS]at gv;obtain⟨_,_,_,_,gv⟩:=gv;rw[←gv]
 have hQ:op.xQ=true:=by
  rw[←o7,←FB hr];exact hd.xQ i hi
 obtain⟨g,hu,hv⟩:=hs.gh;refine⟨op,EY,o7,hQ,h1,yZ,⟨g,hs,hu,hv,yZ⟩,oJ,fun hq=>?_⟩;have hev:∀x∈r.op.xs,(f9 st (gW R) V X).ev x=(f9 st (gW R) V (uc N i)).ev x:=by
  intro x hx;cases x with
  |c d=>rfl
  |t n=>exact oJ n (du _ (eK.2 ⟨_,hx,rfl⟩))
 refine zM hq.1 hev ?_;intro x hx k u hk wN;rw[←hev x hx]at hk;cases x with
 |c d=>simp only[St.ev,rL]at hk;split at hk<;>simp[AV.ids]at hk
 |t n=>
  obtain⟨u',hm⟩:=yl (hv n) k hk;have h3:=hkX.2 _ hm;have h4:=hkD.2 _ (f7 wN);have e1:=jq hd.keys h3;have e2:=jq hd.keys h4;rw[e1]at e2;injection e2 with e2;subst e2;exact jq hkX.1 hm
def tD{ops:Array Oper}{R:List RO}{st:St}{V:Nat→Rs}{S N X:List Nat}{gi:Array Bool}{i:Nat}{r:RO}{o:Oper}{a:Act}{w:World}{Q:Exit→Act→World→Prop}
  (hd:uW P wv ops R st V S N) (h:ml P ops R X gi) (hX:∀i∈X,i∈N) (hi:i∈N) (ho:ops[i]?=some o) (hr:R[i]?=some r) (fM:kl P wv st.n ops o=some r)
  (hw:∀j∈gj ops i,j∈X) (hn:i∉X) (hs:k9 n0 S0 M0 w0 (f9 st (gW R) V X) a w):
  wpOp P ops Q i (fun a w=>k9 n0 S0 M0 w0 (f9 st (gW R) V (i::X)) a w) a w:=by
 obtain⟨op,EY,o7,hQ,h1,yZ,⟨g,BO⟩,oJ,Xq⟩:=vN hd h hX hi hr fM hw hn hs;have SF:(f9 st (gW R) V X).n=st.n:=jl;have OV:=ku hd.Im hd.keys (X:=i::X) (aH.2 ⟨hn,h.nd⟩) (fun j hj=>(ab.1 hj).elim (fun e=>e▸hi) (hX j));have zb:gW R i=r.op.dst:=by simp[gW,hr]
 have Em:(V i).2=[]∨(f9 st (gW R) V X).fresh (V i).2=true:=.inr (yI (by
  have e:(f9 st (gW R) V (i::X)).us=(V i).2++(f9 st (gW R) V X).us:=by simp[jf]
  rw[←e];exact OV.1))
 have GB:f9 st (gW R) V (i::X)=kK (f9 st (gW R) V X) r.op.dst (V i):=by simp only[f9];rw[zb]
 have ko:=hd.step i r hi hr;have run:∀{Q':Exit→Act→World→Prop},QD P r.op (f9 st (gW R) V (uc N i)) (V i)→o.wp P a w (fun a w=>k9 n0 S0 M0 w0 (f9 st (gW R) V (i::X)) a w) Q':=by
  intro Q' hq;have tS:=Xq hq;rw[o7]at tS;have⟨h5,h6⟩:=B0 (Q':=Q') (n:=st.n) EY hQ SF BO tS;refine dv ?_ h5;rintro a' w' ⟨av,us,⟨rfl,rfl⟩,hS⟩;rw[GB,o7,h6];exact hS Em
 have hu:=BO.us;have hv:=BO.rep;have gv:=fM;unfold kl at gv;simp only[oD,oB,fP]at gv;obtain⟨op',H6,_,_,_,_,gv⟩:=gv;rw[EY]at H6;injection H6 with H6;subst H6;have skip:V i=(.lf [],[])→k9 n0 S0 M0 w0 (f9 st (gW R) V (i::X)) (a.put o.dst undef) w:=by
  intro hV;rw[GB,hV,o7,h1];unfold kK;rw[lp];exact jY hs hu hv yZ ql
 unfold wpOp;rw[ho];simp only
 split at gv
 ·next hg=>
  simp only[oP,oS]at gv;subst gv;have:Region.wanted o (yielded ops a.tmps)=true:=by simp[Region.wanted,hg]
  rw[this,af rfl];exact .inl (run ko)
 next j b hg=>
 simp only[oB,oP,oS]at gv;obtain⟨p,hp,t,ht,rfl⟩:=gv;rcases ko with⟨tk,c,hc,hy,oK⟩|⟨hc,oK⟩
 ·rw[←oJ t (dF _ (by simp))]at hc;have En:=hv t;have Ef:lk (f9 st (gW R) V X).env t=.im tk (.sc (.bool c)):=hc;rw[Ef]at En;have zc:=kj En;have hyy:=td (ops:=ops) hp ht zc;have BN:Region.wanted o (yielded ops a.tmps)=(some c==some b):=by simp[Region.wanted,hg,hyy]
  rw[BN]
  by_cases e:c=b;rw[af (by simp[e])];exact .inl (run (hy e));rw[ae (by simp[e])];exact skip (oK (by cases c<;>cases b<;>simp_all))
 rw[←oJ t (dF _ (by simp))]at hc;have En:=hv t;have Ef:lk (f9 st (gW R) V X).env t=.lf []:=hc;rw[Ef]at En;have BN:Region.wanted o (yielded ops a.tmps)=false:=by simp[Region.wanted,hg,o8 (ops:=ops) hp ht (v5 En)]
 rw[BN,ae (by simp)];exact skip oK
def sL:∀{l:List Nat},pZ ops l=true→l.Pairwise (· <·)∧∀(p:Nat)(hp:p+1<l.length),l[p]∈gj ops l[p+1]
 | [],_=>⟨List.Pairwise.nil,by simp⟩
 | [e],_=>⟨by simp,by simp⟩
 |e::e'::r,h=>by
  simp only[pZ,bA,bH,a7]at h;obtain⟨i1,i2⟩:=sL h.2;refine⟨?_,fun p hp=>?_⟩
  ·rw[dW];refine⟨fun x hx=>?_,i1⟩;rcases ab.1 hx with rfl|hx
   exact h.1.2;exact Nat.lt_trans h.1.2 ((dW.1 i1).1 x hx)
  cases p with
  |zero=>exact h.1.1
  |succ p=>exact i2 p (by simpa using hp)
def MW{K:Exit→St→Prop}(hlen:R.length=ops.size)(hR:∀(i:Nat) (o:Oper),ops[i]?=some o→∃r,R[i]?=some r∧kl P wv n ops o=some r)
  (pC:∀i,∀j∈gj ops i,j<i):∀(es:List Nat)(gi:Array Bool)(s:St)(a:Act)(w:World),gi.size=ops.size→(∀j,j<ops.size→(gi.getD j true=true↔j∉es))→pZ ops es=true→(∀e∈es,e<ops.size)→
  k9 n0 S0 M0 w0 s a w→s.n=n→gR P (es.map fun i=>R.getD i default) s K→wpAny P .any ops (fun e a w=>e=.normal∧oG n0 S0 M0 w0 n K e a w) es.length gi a w
 | [],gi,s,a,w,jP,hli,_,_,hs,hn,hq=>by
  refine wpAny_done ?_ ⟨rfl,s,hn,hq,hs⟩ 0;rw[dV];intro i hi;obtain⟨h1,o,ho,_⟩:=dG.1 hi;have:=(hli i (bc.1 ho).1).2 (by simp);rw[this]at h1;cases h1
 |e::es,gi,s,a,w,jP,hli,EZ,iq,hs,hn,hq=>by
  obtain⟨NA,BN⟩:=sL EZ;have ah2:=dW.1 NA;have ah3:∀j,j<ops.size→j∉e::es→gi.getD j false=true:=by
   intro j hj g9;have:=(hli j hj).2 g9;rw[bM]at this⊢;rw[←jP]at hj;rw[cP hj]at this⊢;exact this
  have H7:=iq e (by simp);have Xr:e∈Region.ready .any ops gi:=by
   rw[dG];refine⟨?_,ops[e],by simp[H7],fun x hx hb=>?_⟩
   ·cases hc:gi.getD e true with
    |false=>rfl
    |true=>exact absurd (by simp) ((hli e H7).1 hc)
   have hw:x.on∈gj ops e:=by
    simp only[gj,cP H7,qo];exact aB.2 ⟨x,aQ.2 ⟨by simpa using hx,hb⟩,rfl⟩
   have hl:=pC e _ hw;refine ah3 _ (by omega) fun hm=>?_;rcases ab.1 hm with h1|h1
   omega;have:=ah2.1 _ h1;omega
  have ah4:∀i∈Region.ready .any ops gi,i=e:=by
   intro i hi;obtain⟨h1,o,ho,h2⟩:=dG.1 hi;have hio:=(bc.1 ho).1;have hie:i∈e::es:=by
    refine dg fun g9=>?_;rw[(hli i hio).2 g9]at h1;cases h1
   rcases ab.1 hie with h3|h3
   exact h3;exfalso;obtain⟨q,hq1,OW⟩:=dP.1 h3;have hw:=BN q (by simp;omega);have e1:(e::es)[q+1]'(by simp;omega)=i:=by simpa using OW
   rw[e1]at hw;have H8:(e::es)[q]'(by simp;omega)∈e::es:=aF _;generalize (e::es)[q]'(by simp;omega)=p at hw H8;simp only[gj,ho,qo]at hw;obtain⟨x,hx,rfl⟩:=aB.1 hw;obtain⟨BP,EB⟩:=aQ.1 hx;have h4:=h2 x (by simpa using BP) EB;have Ik:=iq _ H8;have h5:gi.getD x.on true=true:=by
    rw[bM]at h4⊢;rw[←jP]at Ik;rw[cP Ik]at h4⊢;exact h4
   exact(hli _ Ik).1 h5 H8
  refine⟨fun h0=>(by rw[h0]at Xr;cases Xr),fun i hi=>?_⟩;obtain rfl:=ah4 i hi;obtain⟨r,hr,fM⟩:=hR i ops[i] (by simp[H7]);have oJ:R.getD i default=r:=by simp[aE,hr]
  simp only[lC,oJ]at hq;have tS:match r.g with|none=>tY P r.op s (jZ P (es.map fun i=>R.getD i default) K)|some (t,b)=>qO (s.get t) b (tY P r.op s (jZ P (es.map fun i=>R.getD i default) K)) (jZ P (es.map fun i=>R.getD i default) K (s.mu r.op.dst (.lf []))):=by
   obtain⟨g,op⟩:=r;cases g with
   |none=>exact hq
   |some x=>exact hq
  rw[←hn]at fM;have K4:=uF (Q':=fun e a w=>e=.normal∧oG n0 S0 M0 w0 n K e a w) fM hs tS;have next:∀{a':Act} {w':World},km n0 S0 M0 w0 s.n (jZ P (es.map fun i=>R.getD i default) K) a' w'→wpAny P .any ops (fun e a w=>e=.normal∧oG n0 S0 M0 w0 n K e a w) es.length (gi.setIfInBounds i true) a' w':=by
   rintro a' w' ⟨s',Ey,hf,nL⟩;refine MW hlen hR pC es _ s' a' w' (by simpa using jP) ?_ ?_ (fun e he=>iq e (by simp[he])) nL (Ey.trans hn) hf
   ·intro j hj
    by_cases hji:i=j
    ·subst hji;have hs:i<gi.size:=by rw[jP];exact H7
     have H3:i∉es:=fun hm=>dt _ (ah2.1 i hm);simp[bM,hs,H3]
    rw[getD_set_ne _ hji,hli j hj];simp[cU hji]
   cases es with
   |nil=>rfl
   |cons e' r'=>
    simp only[pZ,bA]at EZ;exact EZ.2
  unfold wpOp;rw[show ops[i]?=some ops[i]by simp[H7]];simp only
  split
  ·next hw=>exact .inl (dv (fun a' w' h=>next h) (K4.1 hw))
  next hw=>exact next (K4.2 (by simpa using hw))
def LF{st:St}{V:Nat→Rs}{K:Exit→St→Prop}{e:Nat}{es:List Nat}(hd:uW P wv ops R st V S (NL S R))(hE:EL S R=e::es)(EZ:pZ ops (e::es)=true)(H9:Region.noSelect ops=true)
  (Xt:∀i∈NL S R,oF ops R i=true∨i∈gj ops e∨∃k∈NL S R,i<k∧(oF ops R k=false∨k∈gj ops e∨∃j∈NL S R,k<j∧oF ops R j=false∧k∈gj ops j)∧i∈gj ops k)
  (wq:∀a w,k9 n0 S0 M0 w0 (f9 st (gW R) V (NL S R).reverse) a w→gR P ((e::es).map fun i=>R.getD i default) (f9 st (gW R) V (NL S R).reverse) K):∀(fuel:Nat)(X:List Nat)(gi:Array Bool)(a:Act)(w:World),
  ml P ops R X gi→(∀i∈X,i∈NL S R)→fuel+X.length=ops.size→k9 n0 S0 M0 w0 (f9 st (gW R) V X) a w→wpAny P .any ops (fun e a w=>e=.normal∧oG n0 S0 M0 w0 st.n K e a w) fuel gi a w:=by
 have pz:e<ops.size:=by
  have:e∈EL S R:=by rw[hE];simp
  rw[←hd.len];exact(kV.1 this).1
 have heN:e∉NL S R:=by
  have:e∈EL S R:=by rw[hE];simp
  intro h;have h1:=(kV.1 this).2;have h2:=(ic.1 h).2;rw[h1]at h2;cases h2
 have fin:∀(fuel:Nat)(X:List Nat)(gi:Array Bool)(a:Act)(w:World),ml P ops R X gi→(∀i∈X,i∈NL S R)→fuel+X.length=ops.size→k9 n0 S0 M0 w0 (f9 st (gW R) V X) a w→(∀i∈NL S R,i∈X)→
   wpAny P .any ops (fun e a w=>e=.normal∧oG n0 S0 M0 w0 st.n K e a w) fuel gi a w:=by
  intro fuel X gi a w h hX hl hs iy;have hp:X.Perm (NL S R).reverse:=(dN h.nd ((dH _).nodup_iff.2 hd.Im)).2 fun i=>by
   rw[df];exact⟨hX i,iy i⟩
  have nL:k9 n0 S0 M0 w0 (f9 st (gW R) V (NL S R).reverse) a w:=by
   refine hs.eqv (by rw[jl,jl]) ?_ ?_
   ·intro t;have x:=j9 (iz:=st) (V:=V) hd.inj (L:=X) (t:=t);have y:=j9 (iz:=st) (V:=V) hd.inj (L:=(NL S R).reverse) (t:=t)
    by_cases he:∃j,j∈X∧gW R j=some t
    ·obtain⟨j,h1,h2⟩:=he;rw[x.1 j h1 h2,y.1 j (hp.mem_iff.1 h1) h2]
    rw[x.2 fun k hk e=>he ⟨k,hk,e⟩,y.2 fun k hk e=>he ⟨k,hp.mem_iff.2 hk,e⟩]
   rw[jf,jf];exact((hp.flatMap_right _).append_right _).symm
  have ah5:X.length+(e::es).length=ops.size:=by
   have h1:X.length=(NL S R).length:=by rw[hp.length_eq,List.length_reverse]
   have h2:(NL S R).length+(EL S R).length=R.length:=by
    unfold NL EL;have:∀l:List Nat,(l.filter fun i=>S.contains i).length+(l.filter fun i=>!S.contains i).length=l.length:=by
     intro l
     induction l with
     |nil=>rfl
     |cons x l ih=>
      simp only[List.filter_cons,lK]
      by_cases hx:S.contains x=true;simp only[hx,ay,bT,mI,aA,lK];omega
      have qR:S.contains x=false:=by simpa using hx
      simp only[qR,ay,bN,mI,aA,lK];omega
    simpa using this (List.range R.length)
   rw[h1,←hE,h2,hd.len]
  have Xu:fuel=(e::es).length:=by omega
  rw[Xu];refine MW hd.len hd.res hd.pC (e::es) gi _ a w h.size ?_ EZ ?_ nL jl (wq a w nL)
  ·intro j hj;rw[h.li j hj];have hjR:j<R.length:=by rw[hd.len];exact hj
   constructor;intro hx hm;rw[←hE]at hm;have h1:=(kV.1 hm).2;have h2:=(ic.1 (hX j hx)).2;rw[h1]at h2;cases h2;intro hm;rw[←hE]at hm;refine iy j (ic.2 ⟨hjR,?_⟩);cases hq:S.contains j with
   |true=>rfl
   |false=>exact absurd (kV.2 ⟨hjR,hq⟩) hm
  intro x hx;rw[←hE]at hx;rw[←hd.len];exact(kV.1 hx).1
 intro fuel
 induction fuel with
 |zero=>
  intro X gi a w h hX hl hs;have:=nB h.nd h.lt (by omega) e pz;exact absurd (hX e this) heN
 |succ fuel ih=>
  intro X gi a w h hX hl hs
  by_cases iy:∀i∈NL S R,i∈X;exact fin (fuel+1) X gi a w h hX hl hs iy
  have pD:∀i,i<ops.size→i∉X→(∀j∈gj ops i,j∈X)→i∈Region.ready .any ops gi:=by
   intro i hi hm hw;rw[dG];refine⟨?_,ops[i],by simp[hi],fun x hx hb=>?_⟩
   ·cases hc:gi.getD i true with
    |false=>rfl
    |true=>exact absurd ((h.li i hi).1 hc) hm
   have EA:x.on∈gj ops i:=by
    simp only[gj,cP hi,qo];exact aB.2 ⟨x,aQ.2 ⟨by simpa using hx,hb⟩,rfl⟩
   have nK:=hw _ EA;have:=(h.li x.on (h.lt _ nK)).2 nK;rw[bM]at this⊢;have hs:x.on<gi.size:=by rw[h.size];exact h.lt _ nK
   rw[cP hs]at this⊢;exact this
  by_cases hF:∃f∈NL S R,f∉X∧oF ops R f=true∧∀j∈gj ops f,j∈X
  ·obtain⟨f,K5,Xv,jH,OX⟩:=hF;have hfs:f<ops.size:=by rw[←hd.len];exact(ic.1 K5).1
   have Ls:=pD f hfs Xv OX;obtain⟨h1,h2,o,ho,h3⟩:=h.next Ls;obtain⟨r,hr,fM⟩:=hd.res f o ho;unfold oF at jH;rw[ho,hr]at jH;simp only[bA,eH,aM,bK]at jH;obtain⟨⟨Xw,jH⟩,Lt⟩:=jH;obtain⟨op,EY,o7,hQ,zb,yZ,⟨g,BO⟩,oJ,Xq⟩:=vN hd h hX K5 hr fM OX Xv hs;have ko:=hd.step f r K5 hr;unfold kf at ko;rw[Xw]at ko;have tS:=Xq ko;rw[o7]at tS jH;obtain⟨v,hv⟩:=tC EY jH BO tS;have Xg:o.guard=none:=by
    have gv:=fM;unfold kl at gv;simp only[oD,oB,fP]at gv;obtain⟨_,_,_,_,_,_,gv⟩:=gv
    split at gv
    ·assumption
    simp only[oB,oP,oS]at gv;obtain⟨_,_,_,_,gv⟩:=gv;rw[←gv]at Xw;cases Xw
   have BN:Region.wanted o (yielded ops a.tmps)=true:=by simp[Region.wanted,Xg]
   have tT:k9 n0 S0 M0 w0 (f9 st (gW R) V (f::X)) (a.put o.dst v) w:=by
    have:=tD (Q:=fun _ _ _=>False) hd h hX K5 ho hr fM OX Xv hs;unfold wpOp at this;rw[ho]at this;simp only[BN,ay]at this;rcases this with h4|⟨_,a',w',h4⟩
    unfold Oper.wp at h4;rw[hv w]at h4;exact h4;exact h4.elim
   refine wpAny_first ho (dX H9) (fun c a w hh=>absurd hh.1 (by simp)) fuel gi a w ?_ Ls (.inl ⟨BN,hv⟩) (ih (f::X) _ _ w h1 (fun i hi=>(ab.1 hi).elim (fun e=>e▸K5) (hX i)) (by simp only[lK];omega) tT);intro j oj hj g9 jm oK;have XU:=(bc.1 hj).1;have:=Lt j XU;rw[hj]at this;simp only[ba,aU,g9,dR,bH,a7]at this;rcases this with h4|h4|h4
   exact absurd ((h.li j XU).2 (OX j h4)) (by rw[jm];simp);simp only[gj,hj,qo]at h4;obtain⟨x,hx,hxe⟩:=aB.1 h4;obtain⟨BP,EB⟩:=aQ.1 hx;exact absurd hxe (oK x (by simpa using BP) EB);exact h4
  have Eo:(∀j∈gj ops e,j∈X)→False:=by
   intro hw;have hnf:∀m i,i∈NL S R→R.length-i≤m→oF ops R i=false→i∈X:=by
    intro m
    induction m with
    |zero=>intro i hi hm _;have:=(ic.1 hi).1;omega
    |succ m ihm=>
     intro i hi hm jH;rcases Xt i hi with h1|h1|⟨k,hk,h1,h2,h3⟩
     rw[jH]at h1;cases h1;exact hw i h1;rcases h2 with h2|h2|⟨j,hj,h4,h5,h6⟩
     exact h.closed k (ihm k hk (by omega) h2) i h3;exact h.closed k (hw k h2) i h3;exact h.closed k (h.closed j (ihm j hj (by omega) h5) k h6) i h3
   refine iy ?_;intro i
   induction i using Nat.strongRecOn with
   |ind i Xx=>
    intro hi;cases jH:oF ops R i with
    |false=>exact hnf _ i hi (aw _) jH
    |true=>
     refine dg fun g9=>hF ⟨i,hi,g9,jH,fun j hj=>Xx j (hd.pC i j hj) (hd.nw i hi j hj)⟩
  refine⟨fun h0=>?_,fun i hi=>?_⟩
  ·exfalso;refine iy ?_;intro i
   induction i using Nat.strongRecOn with
   |ind i Xx=>
    intro hi;refine dg fun g9=>?_;have:=pD i (by rw[←hd.len];exact(ic.1 hi).1) g9 fun j hj=>Xx j (hd.pC i j hj) (hd.nw i hi j hj);rw[h0]at this;cases this
  obtain⟨h1,h2,o,ho,h3⟩:=h.next hi;have his:=(bc.1 ho).1;have XY:i∈NL S R:=by
   have XZ:i<R.length:=by rw[hd.len];exact his
   refine ic.2 ⟨XZ,?_⟩;cases hq:S.contains i with
   |true=>rfl
   |false=>
    exfalso;have hm:i∈e::es:=by rw[←hE];exact kV.2 ⟨XZ,hq⟩
    rcases ab.1 hm with rfl|hm
    exact Eo h3;obtain⟨q,hq1,OW⟩:=dP.1 hm;have hw:=(sL EZ).2 q (by simp;omega);have e1:(e::es)[q+1]'(by simp;omega)=i:=by simpa using OW
    rw[e1]at hw;have H8:(e::es)[q]'(by simp;omega)∈EL S R:=by rw[hE];exact aF _
    have h4:=(ic.1 (hX _ (h3 _ hw))).2;rw[(kV.1 H8).2]at h4;cases h4
  obtain⟨r,hr,fM⟩:=hd.res i o ho;refine dO ?_ (tD hd h hX XY ho hr fM h3 h2 hs);intro a' w' nL;exact ih (i::X) _ a' w' h1 (fun j hj=>(ab.1 hj).elim (fun e=>e▸XY) (hX j)) (by simp only[lK];omega) nL
def Ky{st:St}{K:Exit→St→Prop}{id:Nat}{a:Act}{w:World}(hm:Mx P)(hd:HN ops R=true)
  (hR:ops.toList.mapM (kl P wv st.n ops)=some R) (hs:k9 n0 S0 M0 w0 st a w) (hq:gR P (aeu ops R) st K):(Code.region id ops true).wp P (oG n0 S0 M0 w0 st.n K) a w:=by
 refine cQ (Q:=fun e a w=>e=.normal∧oG n0 S0 M0 w0 st.n K e a w) (eL hm ?_) (fun e a w h=>h.2);unfold HN at hd;unfold aeu at hq;generalize G6 ops R=S at hd hq;unfold NY at hd;simp only[bA,aU]at hd;obtain⟨⟨⟨d1,d2⟩,d3⟩,hd⟩:=hd;rw[qa]at hq;cases hE:EL S R with
 |nil=>rw[hE]at hd;cases hd
 |cons e es=>
  rw[hE]at hd hq;simp only[bA,aM,bK,a7]at hd;obtain⟨EZ,iy⟩:=hd;have hNQ:∀r∈(NL S R).map (fun i=>R.getD i default),r.op.xQ=true:=by
   intro r hr;obtain⟨i,hi,rfl⟩:=aB.1 hr;obtain⟨h1,h2⟩:=ic.1 hi;have h3:=(iy i h1).2;rw[h2]at h3;simp only[bT,cY,bA]at h3;have h4:=h3.1.1.1;simpa[wZ,aE,h1]using h4
  obtain⟨rl,s',hx,hK,hl⟩:=nG hNQ hq;obtain⟨g,hu,hv⟩:=hs.gh;have kn:=qc (nC S R);have hV:(NL S R).map (fun i=>rl.getD ((NL S R).idxOf i) (.any,[]))=rl:=by
   apply dD
   simp at hl;simp[hl];intro p h1 h2;have hp:p<(NL S R).length:=by simpa using h1
   simp[aE,fF kn p hp,h2]
  generalize hVd:(fun i=>rl.getD ((NL S R).idxOf i) ((.any,[]):Rs))=V at hV;have hD:∀i∈NL S R,gW R i=(R.getD i default).op.dst:=by
   intro i hi;have iq:=(ic.1 hi).1;simp[gW,aE,iq]
  obtain⟨e1,ju⟩:=adU (D:=gW R) (V:=V) (iz:=st) (L:=[]) hD hx rfl hV;simp only[aI]at e1 ju;have vt:∀{i:Nat} {r:RO},R[i]?=some r→i<R.length:=fun h=>(bj.1 h).1;have Br:∀i,∀j∈gj ops i,j<i:=by
   intro i j hj
   by_cases hi:i<R.length;exact(iy i hi).1 j hj
   have:ops[i]?=none:=by simp;omega
   simp[gj,this]at hj
  have hN:∀i∈NL S R,((wZ R i=true∧(gj ops i).all (fun j=>S.contains j)=true)∧(match R[i]? with|some r=>r.lq.all (qp ops R i)|none=>true)=true)∧
    (oF ops R i||(gj ops e).contains i||(List.range R.length).any fun k=>decide (i<k)&&S.contains k&&E4 S ops R e k&&(gj ops k).contains i)=true:=by
   intro i hi;obtain⟨h1,h2⟩:=ic.1 hi;have:=(iy i h1).2;rw[h2]at this;simpa only[bT,cY,bA]using this
  have hDE:uW P wv ops R st V S (NL S R):=by
   refine⟨d2,?_,ya (qw d1),Br,fun i=>ic,fun i hi=>(hN i hi).1.1.1,kn,?_,?_,?_,?_⟩;intro i o ho;exact qt hR i o (by simpa using ho)
   ·intro i hi j hj;have h1:=(hN i hi).1.1.2;rw[aM]at h1;have h2:=Br i j hj;have h3:=(ic.1 hi).1;exact ic.2 ⟨by omega,h1 j hj⟩
   intro i r t hi hr ht j hj;have h2:=(hN i hi).1.2;rw[hr]at h2;simp only[aM]at h2;have hs:=h2 t ht;unfold qp at hs;simp only[aM,bK]at hs;simp only[gW,oB]at hj;obtain⟨x,hx,hd⟩:=hj;have:=hs j (vt hx);rw[hx]at this;simpa[hd]using this
   ·intro i r hi hr;obtain⟨p,hp,rfl⟩:=dP.1 hi;have:=ju p hp;rw[CV (nC S R) p hp]at this;rw[aE,hr]at this;exact this
   rw[←e1];exact zG hx hu.keys
  have hc:ml P ops R [] (Array.replicate ops.size false):=⟨bp,by simp,by simp,by simp,fun j hj=>by simp[bM,hj]⟩;refine LF hDE hE EZ d3 ?_ (fun a w h=>by rw[←e1];exact hK) ops.size [] _ a _ hc (by simp) (by simp) ⟨hs.ms,hs.v8,hs.tm,hs.base,hs.os,hs.tape,hs.output,hs.size,hs.jL,hs.gh⟩;intro i hi;have:=(hN i hi).2;simp only[E4,ba,bH,a7,dw,bK,bA,cp]at this;rcases this with(h1|h1)|⟨k,hk,⟨⟨h1,h2⟩,h3⟩,h4⟩
  exact .inl h1;exact .inr (.inl h1);refine .inr (.inr ⟨k,ic.2 ⟨hk,by simpa using h2⟩,h1,?_,h4⟩);rcases h3 with(h3|h3)|⟨j,hj,⟨⟨q1,q2⟩,q3⟩,q4⟩
  exact .inl h3;exact .inr (.inl h3);exact .inr (.inr ⟨j,ic.2 ⟨hj,by simpa using q2⟩,q1,q3,q4⟩)
def yh(P:Program)(o:Oper)(a:Act)(w:World)(st:St)(g:Gh)(k:KQ):Prop:=∃av v,(execOp a.eval o).run P w=.ok (.value v) w∧fN w.heap st.us g av v∧k av []
def At.still(h:At n0 S0 M0 w0 st o a w g){av:AV}{v:Value}(hH:(execOp a.eval o).run P w=.ok (.value v) w)(hr:fN w.heap st.us g av v)(hk:k av []):yh P o a w st g k:=⟨av,v,hH,hr,hk⟩
variable {x:Operand}{t:TypeId}
def agr(h:At n0 S0 M0 w0 st o a w g){X:Ax.X}(ho:o.op=.move x∨o.op=.assign x)(hx:gG P t x=some X)(hq:k (st.ev X) []):
  yh P o a w st g k:=by
 refine h.still (v:=a.eval x) ?_ (h.ev_ hx) hq;rcases ho with ho|ho<;>simp[execOp,ho]
def ahx(h:At n0 S0 M0 w0 st o a w g){X:Ax.X}(ho:o.op=.nilCheck x)(hx:gG P t x=some X)(hq:uj (st.ev X) k):
  yh P o a w st g k:=by
 have e:=h.ev_ hx;unfold uj at hq
 split at hq
 ·next t' d j hv=>
  rw[hv]at e;have e':=e;simp only[fN,gJ,D.fits]at e';obtain⟨F,⟨b,off,c,el,fr,F',h1,_⟩,h2,_⟩:=e';rw[gD h2]at h1;have h3:a.eval x=.pointer (some ⟨b,off+j,none⟩):=by simpa using h1
  exact h.still (v:=a.eval x) (by simp[execOp,ho,h3]) e hq
 ·next t' b0 o0 d j hv=>
  rw[hv]at e;have e':=e;simp only[fN,gJ,D.fits]at e';obtain⟨F,⟨_,b,off,c,el,fr,F',h1,_⟩,h2,_⟩:=e';rw[gD h2]at h1;have h3:a.eval x=.pointer (some ⟨b,off+j,none⟩):=by simpa using h1
  exact h.still (v:=a.eval x) (by simp[execOp,ho,h3]) e hq
 ·next t' p0 hv=>
  rw[hv]at e;have h3:=kj e;exact h.still (v:=a.eval x) (by simp[execOp,ho,h3]) e hq
 ·next id el j hv=>
  rw[hv]at e;have e':=e;simp only[fN]at e';obtain⟨ow,nn,sz,es,b,_,_,_,_,h3⟩:=e';exact h.still (v:=a.eval x) (by simp[execOp,ho,h3]) e hq
 ·next id el j iE jj j' hv=>
  rw[hv]at e;have e':=e;simp only[fN]at e';obtain⟨ow,nn,usz,es,b,c,ty,b',off',len',cap',_,_,_,_,_,_,h3⟩:=e';exact h.still (v:=a.eval x) (by simp[execOp,ho,h3]) e hq
 ·next id j hv=>
  rw[hv]at e;have e':=e;simp only[fN]at e';obtain⟨_,_,b,_,_,h3⟩:=e';exact h.still (v:=a.eval x) (by simp[execOp,ho,h3]) e hq
 exact hq.elim
def agM(h:At n0 S0 M0 w0 st o a w g){X:Ax.X}(ho:o.op=.extract x i)(hx:gG P t x=some X)
  (hq:BD (st.ev X) i k):yh P o a w st g k:=by
 have ex:=h.ev_ hx;unfold BD at hq
 split at hq
 ·next vs e1=>
  rw[e1]at ex;simp only[fN]at ex;obtain⟨xs,hv,hl⟩:=ex;obtain⟨hi,hk⟩:=hq;have:∀(vs:List AV)(xs:List Value)(i:Nat),fT w.heap st.us g vs xs→i<vs.length→∃v,xs[i]?=some v∧fN w.heap st.us g (vs.getD i .any) v:=by
   intro vs
   induction vs with
   |nil=>intro xs i _ hi;simp at hi
   |cons y vs ih=>
    intro xs i hl hi;simp only[fT]at hl;obtain⟨v,r,rfl,h1,h2⟩:=hl;cases i with
    |zero=>exact⟨v,rfl,h1⟩
    |succ i=>obtain⟨v',h3,h4⟩:=ih r i h2 (by simpa using hi);exact⟨v',by simpa using h3,by simpa using h4⟩
  obtain⟨v,h1,h2⟩:=this vs xs.toList i hl hi;refine h.still (v:=v) ?_ h2 hk;have xR:xs[i]?=some v:=by simpa using h1
  simp[execOp,ho,hv,Instr.extract,xR]
 exact hq.elim
def aku(h:At n0 S0 M0 w0 st o a w g){u:TypeId}{agg:Bool}{sz:Nat}{X:Ax.X}(ho:o.op=.load t x)(hx:gG P u x=some X)
  (hz:kx P t=some sz) (hg:tQ P t=some agg) (h1:agg=false→sz=1)
  (hq:FM (st.ev X) st.unit agg sz k):yh P o a w st g k:=by
 obtain⟨av,v,h2,h3,h4⟩:=GX (P:=P) h.us hz hg h1 (h.ev_ hx) hq;exact h.still (v:=v) (by simp[execOp,ho,h2]) h3 h4
def akb(h:At n0 S0 M0 w0 st o a w g){u:TypeId}{off:Nat}{X:Ax.X}{fs:Array Field}{f:Field}(ho:o.op=.fieldAddr t x i)(hx:gG P u x=some X)
  (ht:P.underlying t=some (.struct fs)) (hf:fs[i]?=some f) (afs:f.offset=off) {z:Nat} (hz:kx P f.type=some z) (HV:z≠0)
  (hq:Jw (st.ev X) st.unit off k):yh P o a w st g k:=by
 have ex:=h.ev_ hx;have hH:∀(b p:Nat),a.eval x=.pointer (some ⟨b,p,none⟩)→(execOp a.eval o).run P w=.ok (.value (.pointer (some ⟨b,p+off,none⟩))) w:=by
  intro b p hv;subst afs;simp[execOp,ho,hv,Instr.fieldAt,bo ht,hf,Instr.sureAddr,fieldPlace,qz hz,HV,te]
 unfold Jw at hq
 split at hq
 ·next t1 d j e1=>
  rw[e1]at ex;obtain⟨b,p,hv,hr⟩:=zN ex;exact h.still (hH _ _ hv) (by rw[cN];exact hr _ hq.1) hq.2
 ·next t1 b0 o0 d j e1=>
  rw[e1]at ex;obtain⟨ex',hl⟩:=A4 ex rfl;obtain⟨b,p,hv,hr⟩:=zN ex';rw[hv]at hl;simp at hl;obtain⟨rfl,rfl⟩:=hl;exact h.still (hH _ _ hv) (Om (by rw[cN];exact hr _ hq.1) rfl) hq.2
 ·next id el j e1=>
  rw[e1]at ex;simp only[fN]at ex;obtain⟨ow,nn,usz,es,b,r1,r2,r3,r4,hv⟩:=ex;unfold Zk at hq
  split at hq
  ·next ow' jR nf es' jm=>
   have:=h.us.uniq r1 (f7 jm);injection this with e1 e2 e3 e4;subst e1;subst e2;subst e3;subst e4;refine h.still (hH _ _ hv) ?_ hq.2;simp only[fN];exact⟨ow,nn,usz,es,b,r1,r2,hq.1,r4,by rw[cN]⟩
  exact hq.elim
 ·next id el j iE jj j' e1=>
  rw[e1]at ex;simp only[fN]at ex;obtain⟨ow,nn,usz,es,b,c,ty,b',off',len',cap',r1,r2,r3,r4,r5,r6,hv⟩:=ex;refine h.still (hH _ _ hv) ?_ hq.2;simp only[fN];exact⟨ow,nn,usz,es,b,c,ty,b',off',len',cap',r1,r2,r3,r4,r5,r6,by rw[cN]⟩
 ·next id j e1=>
  rw[e1]at ex;simp only[fN]at ex;obtain⟨sz,items,b,r1,r2,hv⟩:=ex;refine h.still (hH _ _ hv) ?_ hq;simp only[fN];exact⟨sz,items,b,r1,r2,rfl⟩
 exact hq.elim
def ajN(h:At n0 S0 M0 w0 st o a w g){e u1 u2:TypeId}{sz:Nat}{i:Operand}{X I:Ax.X}(ho:o.op=.indexAddr t x i)(hx:gG P u1 x=some X)(hi:gG P u2 i=some I)
  (ht:P.underlying t=some (.slice e)) (hz:kx P e=some sz) (hq:Jg (st.ev X) (st.ev I) st.unit sz k):yh P o a w st g k:=by
 have ex:=h.ev_ hx;have ei:=h.ev_ hi;unfold Jg at hq
 split at hq
 ·next t1 kd n e1=>
  rw[e1]at ei;have vi:=kj ei
  split at hq
  ·next id off len e2=>
   rw[e2]at ex;simp only[fN]at ex;obtain⟨ow,nn,usz,es,r1,r2,r3⟩:=ex;obtain⟨⟨q1,q2⟩,hq⟩:=hq;unfold Mb at hq
   split at hq
   ·next ow' jR nf es' jm=>
    have:=h.us.uniq r1 (f7 jm);injection this with e1 e2 e3 e4;subst e1;subst e2;subst e3;subst e4;obtain⟨⟨rfl,lW⟩,hk⟩:=hq;rcases r3 with⟨b,r3,r4⟩|⟨_,_,rfl,_⟩
    ·refine h.still (v:=.pointer (some ⟨b,off*sz+n.toNat*sz,none⟩)) ?_ ?_ hk;have:=lO (P:=P) ht hz (b:=b) (off:=off*sz) (len:=len) (cap:=g.cap id-off) (kd:=kd) q1 q2 w;simp[execOp,ho,vi,r4,this];simp only[fN];refine⟨ow,nn,sz,es,b,r1,by omega,lW,r3,by rw[aT];rfl⟩
    omega
   exact hq.elim
  ·next id off len e2=>
   rw[e2]at ex;simp only[fN]at ex;obtain⟨ow,nn,usz,es,r1,r2,r0⟩:=ex;obtain⟨⟨q1,q2⟩,hq⟩:=hq;rcases r0 with⟨b,o,r3,r4,r5⟩|⟨_,rfl,_⟩
   case inr=>omega
   unfold Mb at hq
   split at hq
   ·next ow' jR nf es' jm=>
    have:=h.us.uniq r1 (f7 jm);injection this with e1 e2 e3 e4;subst e1;subst e2;subst e3;subst e4;obtain⟨⟨rfl,lW⟩,hk⟩:=hq;have KP:es.length≤g.cap id:=by
     have ho:=h.us.each _ r1;simp only[jn]at ho;rcases ho.2.2 with⟨h0,_⟩|⟨_,_,_,_,_,_,_,_,_,_,hc,_⟩
     rw[r3]at h0;cases h0;exact hc
    obtain rfl:=r4 (by omega);refine h.still (v:=.pointer (some ⟨b,off*sz+n.toNat*sz,none⟩)) ?_ ?_ hk;have:=lO (P:=P) ht hz (b:=b) (off:=off*sz) (len:=len) (cap:=g.cap id-off) (kd:=kd) q1 q2 w;simp[execOp,ho,vi,r5,this];simp only[fN];refine⟨ow,nn,sz,es,b,r1,by omega,lW,r3,by rw[aT];rfl⟩
   exact hq.elim
  ·next id el j e2=>
   rw[e2]at ex;unfold iaC at hq
   split at hq
   ·next nn usz es jm=>
    unfold iaI at hq
    split at hq
    ·next jR gV ds hd=>
     obtain⟨⟨rfl,lW,q1,q2⟩,hk⟩:=hq;have hr:=Fl h.us ex jm;rw[hd]at hr;simp only[fN,gJ,D.fits]at hr;obtain⟨F,jQ,hf,kA⟩:=hr;rw[gD hf]at jQ;rcases jQ with⟨_,_,rfl,_⟩|⟨b',off',cap',c',jj,fr,F',p1,p2,p3,p4,p5,p6,p7,p8,p9⟩
     simp at q2;omega;have hv:a.eval x=.slice (some ⟨b',off',none⟩) ds.length cap':=by simpa using p1
     simp only[fN]at ex;obtain⟨Sx,lX,KR,b,c,ty,r1,r2,r3,r4,r5,r6,r7,r8,r9⟩:=ex;have:=h.us.uniq r1 (f7 jm);injection this with z1 z2 z3 z4;subst z2 z3 z4;refine h.still (v:=.pointer (some ⟨b',off'+n.toNat*sz,none⟩)) ?_ ?_ hk;have:=lO (P:=P) ht hz (b:=b') (off:=off') (len:=ds.length) (cap:=cap') (kd:=kd) q1 q2 w;simp[execOp,ho,vi,hv,this];simp only[fN];refine⟨true,Sx,lX,KR,b,c,ty,b',off',ds.length,cap',r1,r2,r3,r4,r5,?_,by simp⟩;rw[gD hf]at r8;have h1:((c.toList.drop (el*lX+j)).take 1)[0]?=some (a.eval x):=by rw[←r8];simp
     rw[dL (by omega),cZ,ah,cE]at h1;rw[h1,hv]
    exact hq.elim
   exact hq.elim
  unfold Sr at hq
  split at hq
  ·next t2 nn gV ds hd=>
   have hr:=pU h.us ex hd;obtain⟨⟨rfl,lW,q1,q2⟩,hk⟩:=hq;have Ig:=hr;simp only[fN,gJ,D.fits]at hr;obtain⟨F,jQ,hf,kA⟩:=hr;rw[gD hf]at jQ;rcases jQ with⟨_,_,rfl,_⟩|⟨b,off,cap,c,el,fr,F',p1,p2,p3,p4,p5,p6,p7,p8,p9⟩
   simp at q2;omega;have hv:a.eval x=.slice (some ⟨b,off,none⟩) ds.length cap:=by simpa using p1
   have iq:n.toNat<ds.length:=by omega
   obtain⟨F1,F2,F3,c1,c2,c3,g1,g2,g3,g4,g5⟩:=p9.pick iq;have jP:=p8 _ (aF iq);have l1:c1.length=n.toNat*sz:=by
    rw[g3.length,D.gk (sz:=sz) fun d hd=>p8 d (aY hd),a8,bh (di iq)]
   have hmul:n.toNat*sz+sz≤ds.length*sz:=by
    have:=aZ sz (show n.toNat+1≤ds.length by omega);rw[aT]at this;omega
   have OM:ds.length*sz≤cap*sz:=aZ sz p4;refine h.still (v:=.pointer (some ⟨b,off+n.toNat*sz,none⟩)) ?_ ?_ hk;have:=lO (P:=P) ht hz (b:=b) (off:=off) (len:=ds.length) (cap:=cap) (kd:=kd) q1 q2 w;simp[execOp,ho,vi,hv,this];rw[D.qL iq];simp only[fN];refine⟨b::F2,?_,by simp[D.fits,Value.oneCell'],?_⟩
   ·unfold gJ;refine⟨b,off+n.toNat*sz,c,el,fr,F2,by simp[Value.cells],rfl,by omega,p6,by omega,?_⟩;have:(c.toList.drop (off+n.toNat*sz)).take ((ds[n.toNat]).size)=c2:=by
     have e1:=congrArg (fun l=>(l.drop c1.length).take c2.length) g2;simp only[dT,bZ,dj,cx,c9]at e1;rw[l1]at e1;have l2:=g4.length;rw[jP]at l2;rw[l2,bh (by omega)]at e1;rw[jP];exact e1
    rw[this];exact g4
   intro y hy
   apply kA
   rw[p2,g1];rcases ab.1 hy with rfl|hy
   simp;simp[hy]
  ·next t2 b0 o0 nn gV ds hd=>
   obtain⟨hr,hl⟩:=A4 (pU h.us ex hd) rfl;obtain⟨⟨rfl,lW,q1,q2⟩,hk⟩:=hq;have Ig:=hr;simp only[fN,gJ,D.fits]at hr;obtain⟨F,jQ,hf,kA⟩:=hr;rw[gD hf]at jQ;rcases jQ with⟨_,_,rfl,_⟩|⟨b,off,cap,c,el,fr,F',p1,p2,p3,p4,p5,p6,p7,p8,p9⟩
   simp at q2;omega;have hv:a.eval x=.slice (some ⟨b,off,none⟩) ds.length cap:=by simpa using p1
   rw[hv]at hl;simp at hl;obtain⟨rfl,rfl⟩:=hl;have iq:n.toNat<ds.length:=by omega
   obtain⟨F1,F2,F3,c1,c2,c3,g1,g2,g3,g4,g5⟩:=p9.pick iq;have jP:=p8 _ (aF iq);have l1:c1.length=n.toNat*sz:=by
    rw[g3.length,D.gk (sz:=sz) fun d hd=>p8 d (aY hd),a8,bh (di iq)]
   have hmul:n.toNat*sz+sz≤ds.length*sz:=by
    have:=aZ sz (show n.toNat+1≤ds.length by omega);rw[aT]at this;omega
   have OM:ds.length*sz≤cap*sz:=aZ sz p4;refine h.still (v:=.pointer (some ⟨b,off+n.toNat*sz,none⟩)) ?_ ?_ hk;have:=lO (P:=P) ht hz (b:=b) (off:=off) (len:=ds.length) (cap:=cap) (kd:=kd) q1 q2 w;simp[execOp,ho,vi,hv,this];refine Om ?_ rfl;rw[D.qL iq];simp only[fN];refine⟨b::F2,?_,by simp[D.fits,Value.oneCell'],?_⟩
   ·unfold gJ;refine⟨b,off+n.toNat*sz,c,el,fr,F2,by simp[Value.cells],rfl,by omega,p6,by omega,?_⟩;have:(c.toList.drop (off+n.toNat*sz)).take ((ds[n.toNat]).size)=c2:=by
     have e1:=congrArg (fun l=>(l.drop c1.length).take c2.length) g2;simp only[dT,bZ,dj,cx,c9]at e1;rw[l1]at e1;have l2:=g4.length;rw[jP]at l2;rw[l2,bh (by omega)]at e1;rw[jP];exact e1
    rw[this];exact g4
   intro y hy
   apply kA
   rw[p2,g1];rcases ab.1 hy with rfl|hy
   simp;simp[hy]
  exact hq.elim
 exact hq.elim
def ahe(h:At n0 S0 M0 w0 st o a w g){u1 e:TypeId}{c:Call}{X:Ax.X}(ho:o.op=.call c)(hc:c.callee=.builtin .len)(ha:c.args= #[x])(tE:c.argTypes= #[t])(hx:gG P u1 x=some X)
  (ht:P.underlying t=some (.slice e)) (hq:tv (st.ev X) st.unit k):yh P o a w st g k:=by
 have ex:=h.ev_ hx;have hH:∀p len cap,a.eval x=.slice p len cap→(execOp a.eval o).run P w=.ok (.value (.int .i64 len)) w:=by
  intro p len cap hv;simp[execOp,ho,resolve,hc,ha,tE,hv,invoke,builtin,Builtin.len_,bo ht,goInt]
 unfold tv at hq
 split at hq
 ·next id off len e2=>
  rw[e2]at ex;simp only[fN]at ex;obtain⟨ow,nn,usz,es,r1,r2,r3⟩:=ex;rcases r3 with⟨b,r3,r4⟩|⟨_,_,rfl,r4⟩
  exact h.still (hH _ _ _ r4) (kt rfl) hq;exact h.still (hH _ _ _ r4) (kt rfl) hq
 ·next id off len e2=>
  rw[e2]at ex;simp only[fN]at ex;obtain⟨ow,nn,usz,es,r1,r2,⟨b,o,r3,r4,r5⟩|⟨_,rfl,r5⟩⟩:=ex;exact h.still (hH _ _ _ r5) (kt rfl) hq;exact h.still (hH _ _ _ r5) (kt rfl) hq
 ·next nn sz e2=>
  rw[e2]at ex;simp only[fN]at ex;obtain⟨p,r5,_⟩:=ex;exact h.still (hH _ _ _ r5) (kt rfl) hq
 unfold Bt at hq
 split at hq
 ·next t2 nn gV ds hd=>
  have hr:=pU h.us ex hd;obtain⟨p,len,cap,hv,rfl,_,_⟩:=uT hr;exact h.still (hH _ _ _ hv) (kt rfl) hq
 ·next t2 b0 o0 nn gV ds hd=>
  obtain⟨hr,_⟩:=A4 (pU h.us ex hd) rfl;obtain⟨p,len,cap,hv,rfl,_,_⟩:=uT hr;exact h.still (hH _ _ _ hv) (kt rfl) hq
 exact hq.elim
def oT.NB:oT→Bool
 |.mv .. |.ld .. |.fa .. |.fl .. |.ia .. |.len .. |.nck .. |.ext .. =>true
 |_=>false
def Wy{r:oT}(h:x6 P d e=some r):r.NB=false:=by
 unfold x6 at h
 split at h
 ·injection h with h;subst h;rfl
 simp only[oD,oB,oP,oS]at h;obtain⟨s,hs,z,hz,rfl⟩:=h
 rfl
def Yp{wv:Wv}{z:D}{l:Nat}{ps:List (Nat×X)}:(CC wv d sz z l ps).NB=false:=by
 unfold CC
 split<;>rfl
def Be{r:oT}(fM:tJ P wv n o=some r)(hQ:r.NB=true)(h:At n0 S0 M0 w0 st o a w g)(hq:ES P r st.ev st.unit k):yh P o a w st g k:=by
 unfold tJ at fM
 split at fM
 ·next x ho=>
  simp only[oD,oB,oP,oS,fP]at fM;obtain⟨d,hd,_,_,X,hX,rfl⟩:=fM;exact agr h (.inl ho) hX hq
 ·next x ho=>
  simp only[oD,oB,oP,oS,fP]at fM;obtain⟨d,hd,_,_,X,hX,rfl⟩:=fM;exact agr h (.inr ho) hX hq
 ·next c x y ho=>
  simp only[oD,oB,oP,oS,fP]at fM;obtain⟨d,hd,_,_,C,hC,X,hX,Y,hY,rfl⟩:=fM;cases hQ
 ·next e x ho=>
  simp only[oD,oB,oP,oS,fP]at fM;obtain⟨d,hd,_,_,s,hs,X,hX,rfl⟩:=fM;cases hQ
 ·next e ho=>
  simp only[oD,oB,oP,fP]at fM;obtain⟨d,hd,_,_,fM⟩:=fM;rw[Wy fM]at hQ;cases hQ
 ·next t x ho=>
  simp only[oD,oB,oP,oS,fP]at fM;obtain⟨d,hd,_,_,s,hs,ag,Ei,_,h1,X,hX,rfl⟩:=fM;exact aku h ho hX hs Ei (fun e=>by subst e;simpa using h1) hq
 ·next t p x ho=>
  simp only[oD,oB,oP,oS,fP]at fM;obtain⟨_,_,s,_,A,_,X,_,rfl⟩:=fM;cases wv<;>cases hQ
 ·next x ho=>
  simp only[oD,oB,oP,oS,fP]at fM;obtain⟨d,hd,_,_,X,hX,rfl⟩:=fM;exact ahx h ho hX hq
 ·next op t x y u ho=>
  simp only[oD,oB,oP,fP]at fM;obtain⟨d,hd,_,_,fM⟩:=fM
  split at fM<;>(try simp only[oB,oS]at fM);obtain⟨X,hX,Y,hY,rfl⟩:=fM;cases hQ;obtain⟨X,hX,Y,hY,rfl⟩:=fM;cases hQ
  ·next ht _ _=>obtain⟨X,hX,Y,hY,rfl⟩:=fM;cases hQ
  obtain⟨X,hX,Y,hY,rfl⟩:=fM;cases hQ;obtain⟨X,hX,Y,hY,rfl⟩:=fM;cases hQ;obtain⟨X,hX,Y,hY,rfl⟩:=fM;cases hQ
  ·next fs ht=>
   split at fM<;>(try simp only[oB,oS]at fM)
   ·next kA=>obtain⟨X,hX,Y,hY,rfl⟩:=fM;cases hQ
   subst fM;cases hQ
  ·next fs ht=>
   split at fM<;>(try simp only[oB,oS]at fM)
   ·next kA=>obtain⟨X,hX,Y,hY,rfl⟩:=fM;cases hQ
   subst fM;cases hQ
  subst fM;cases hQ
 ·next op t x ho=>
  simp only[oD,oB,oP,oS,fP]at fM;obtain⟨d,hd,_,_,X,hX,rfl⟩:=fM;cases hQ
 ·next s t x ho=>
  simp only[oD,oB,oP,fP]at fM;obtain⟨d,hd,_,_,fM⟩:=fM
  split at fM<;>(try simp only[oB,oS]at fM);obtain⟨X,hX,rfl⟩:=fM;cases hQ
  ·split at fM<;>simp only[oB,oS]at fM
   obtain⟨X,hX,rfl⟩:=fM;cases hQ;subst fM;cases hQ
  subst fM;cases hQ
 ·next t l c ho=>
  simp only[oD,oB,oP,oS,fP]at fM;obtain⟨d,hd,_,_,e,he,i,hi,z,hz,L,hL,C,hC,rfl⟩:=fM;have ht:P.underlying t=some (.slice e):=by
   unfold ut at he
   split at he
   ·next e' h'=>injection he with he;subst he;exact h'
   cases he
  cases hQ
 ·next t x lo hi ho=>
  simp only[oD,oB,oP,fP]at fM;obtain⟨d,hd,_,_,Lo,Ew,Hi,Ny,fM⟩:=fM;have l1:∀y,lo=some y→∃Y,Lo=some Y∧gG P 0 y=some Y:=by
   rintro y rfl;simp only[cM]at Ew;obtain⟨Y,h1,rfl⟩:=Ew;exact⟨Y,rfl,h1⟩
  have l2:lo=none→Lo=none:=by rintro rfl;simpa using Ew.symm
  have l3:∀y,hi=some y→∃Y,Hi=some Y∧gG P 0 y=some Y:=by
   rintro y rfl;simp only[cM]at Ny;obtain⟨Y,h1,rfl⟩:=Ny;exact⟨Y,rfl,h1⟩
  have l4:hi=none→Hi=none:=by rintro rfl;simpa using Ny.symm
  split at fM<;>simp only[oB,oS]at fM;obtain⟨s,hs,X,hX,rfl⟩:=fM;cases hQ;obtain⟨X,hX,rfl⟩:=fM;cases hQ;subst fM;cases hQ
 ·next t x lo hi mx ho=>
  simp only[oD,oB,oP,fP]at fM;obtain⟨d,hd,_,_,fM⟩:=fM
  split at fM
  ·next e ht=>
   split at fM
   ·next XX=>
    simp only[oB,oS]at fM;obtain⟨s,hs,X,hX,rfl⟩:=fM;simp only[bA]at XX;cases hi with
    |none=>simp at XX
    |some hi=>cases hQ
   simp only[oS]at fM;subst fM;cases hQ
  simp only[oS]at fM;subst fM;cases hQ
 ·next fn first captured ho=>
  simp only[oD,oB,oP,fP]at fM;obtain⟨d,hd,_,_,fM⟩:=fM
  split at fM
  ·next f hf=>
   simp only[oB,oS]at fM;obtain⟨Xs,H5,rfl⟩:=fM;have KV:first= #[]:=by apply aR;simpa using hf
   subst KV;cases hQ
  simp only[oS]at fM;subst fM;cases hQ
 ·next t x i ho=>
  simp only[oD,oB,oP,fP]at fM;obtain⟨d,hd,_,_,fM⟩:=fM
  split at fM
  ·next fs ht=>
   simp only[oB,oS,fP]at fM;obtain⟨f,hf,z,hz,_,HV,X,hX,rfl⟩:=fM;exact akb h ho hX ht hf rfl hz (by simpa using HV) hq
  cases fM
 ·next t x i ho=>
  simp only[oD,oB,oP,fP]at fM;obtain⟨d,hd,_,_,fM⟩:=fM
  split at fM
  ·next fs ht=>
   simp only[oB,oS,fP]at fM;obtain⟨f,hf,s,hs,ag,Ei,_,h1,X,hX,rfl⟩:=fM;exact hq.elim
  cases fM
 ·next t x i ho=>
  simp only[oD,oB,oP,fP]at fM;obtain⟨d,hd,_,_,fM⟩:=fM
  split at fM
  ·next e ht=>
   simp only[oB,oS]at fM;obtain⟨s,hs,X,hX,I,hI,rfl⟩:=fM;exact ajN h ho hX hI ht hs hq
  simp only[oS]at fM;subst fM;cases hQ
 ·next t x i ho=>
  simp only[oD,oB,oP,fP]at fM;obtain⟨d,hd,_,_,fM⟩:=fM
  split at fM
  ·next ht=>
   simp only[oB,oS]at fM;obtain⟨X,hX,I,hI,rfl⟩:=fM;cases hQ
  simp only[oS]at fM;subst fM;cases hQ
 ·next x i ho=>
  simp only[oD,oB,oP,oS,fP]at fM;obtain⟨d,hd,_,_,X,hX,rfl⟩:=fM;exact agM h ho hX hq
 ·next t l ps ho=>
  simp only[oD,oB,oP,oS,fP]at fM;obtain⟨d,hd,_,_,e,he,s,hs,z,hz,L,hL,rfl⟩:=fM;rw[Yp]at hQ;cases hQ
 ·next t ps ho=>
  simp only[oD,oB,oP,fP]at fM;obtain⟨d,hd,_,_,fM⟩:=fM
  split at fM
  ·next fs ht=>
   simp only[oB,oS]at fM;obtain⟨o6,R9,z,hz,L,hL,rfl⟩:=fM;cases hQ
  simp only[oS]at fM;subst fM;cases hQ
 ·next c ho=>
  split at fM
  ·next f hc=>
   simp only[oD,oB,fP]at fM;obtain⟨_,_,_,hl,Xs,H5,fM⟩:=fM
   split at fM
   ·split at fM
    simp only[oP,oS]at fM;subst fM;cases hQ;cases fM
   split at fM
   ·split at fM
    simp only[oP,oS]at fM;subst fM;cases hQ;cases fM
   split at fM
   ·split at fM
    simp only[oP,oS]at fM;subst fM;cases hQ;cases fM
   split at fM
   ·split at fM
    simp only[oP,oS]at fM;subst fM;cases hQ;cases fM
   split at fM
   ·simp only[oP,oS]at fM;subst fM;cases wv<;>cases hQ
   simp only[oP,oS]at fM;subst fM;cases hQ
  ·next x _ hc=>
   simp only[oD,oB,oP,oS,fP]at fM;obtain⟨_,_,_,hl,X,hX,Xs,H5,rfl⟩:=fM;cases wv<;>cases hQ
  ·next hc=>
   simp only[oD,oB,fP]at fM;obtain⟨d,hd,_,_,fM⟩:=fM
   split at fM
   ·next x t ha tE=>
    have vo:c.args= #[x]:=by apply aR;simpa using ha
    have vq:c.argTypes= #[t]:=by apply aR;simpa using tE
    split at fM<;>simp only[oB,oP,oS]at fM;obtain⟨X,hX,rfl⟩:=fM;cases hQ;obtain⟨X,hX,rfl⟩:=fM;exact ahe h ho hc vo vq hX (by assumption) hq;subst fM;cases hQ
   cases fM
  ·next hc=>
   simp only[oD,oB,fP]at fM;obtain⟨d,hd,_,_,fM⟩:=fM
   split at fM
   ·next x y t u ha tE=>
    have vo:c.args= #[x,y]:=by apply aR;simpa using ha
    simp only[oB,oP,oS]at fM;obtain⟨X,hX,Y,hY,rfl⟩:=fM;cases hQ
   cases fM
  ·next hc=>
   simp only[oD,oB,fP]at fM;obtain⟨d,hd,_,_,fM⟩:=fM
   split at fM
   ·next x y t u ha tE=>
    have vo:c.args= #[x,y]:=by apply aR;simpa using ha
    simp only[oB,oP,oS]at fM;obtain⟨X,hX,Y,hY,rfl⟩:=fM;cases hQ
   cases fM
  ·next hc=>
   simp only[oD,oB,fP]at fM;obtain⟨d,hd,_,_,fM⟩:=fM
   split at fM
   ·split at fM<;>simp only[oB,oP,oS]at fM
    ·obtain⟨i,hi,_,_,z,hz,X,hX,Y,hY,rfl⟩:=fM;cases wv<;>first|cases hQ|(by_cases h3:i.size=3;(rw[yn,af h3]at hQ;cases hQ);(rw[yn,ae h3]at hQ;cases hQ))
    subst fM;cases hQ
   cases fM
  ·next hc=>
   simp only[oD,oB,fP]at fM;obtain⟨_,_,fM⟩:=fM
   split at fM
   ·next x y t u ha tE=>
    have vo:c.args= #[x,y]:=by apply aR;simpa using ha
    have vq:c.argTypes= #[t,u]:=by apply aR;simpa using tE
    split at fM<;>simp only[oB,oP,oS,fP]at fM;obtain⟨s,hs,_,Nz,X,hX,Y,hY,rfl⟩:=fM;cases hQ;subst fM;cases hQ
   cases fM
  simp only[oP,oS]at fM;subst fM;cases hQ
 simp only[oP,oS]at fM;subst fM;cases hQ
end Go.Ax
