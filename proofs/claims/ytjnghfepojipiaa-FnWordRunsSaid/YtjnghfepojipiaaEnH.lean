/- THE ENGINE, PART 8: a generator of conditions over the register code, and its soundness. No condition. -/
import Derived.Test.YtjnghfepojipiaaEnG
import Derived.Deep.LoopGhost
import Derived.KernelRfl
set_option linter.unusedSimpArgs false
set_option linter.unusedVariables false
set_option linter.unnecessarySimpa false
set_option linter.unusedSectionVars false
namespace Go.Ax

variable {P : Program} {wv : Wv} {n0 : Nat} {S0 M0 : Nat → Prop} {w0 : World}

theorem DL{st:St}{a:Act}{w:World}{k:Nat}(hs:dH n0 S0 M0 w0 st a w)(hk:k∉st.us.map (·.1)):dH n0 S0 M0 w0 ⟨st.n,st.env,(k,.own .jk)::st.us⟩ a w:=by
 obtain⟨g,hu,hv⟩:=hs.gh;obtain⟨h1,h2⟩:=hu.addOwn (d:=.jk) (F:=[]) (v:=.bool false) hk (by simp only[aW];exact⟨trivial,.bool false,rfl,rfl⟩) (by simp only[D.fits];rfl) List.nodup_nil (by simp) (by simp) (by simp) (by simp);exact⟨hs.ms,hs.dfr,hs.tm,hs.base,hs.os,hs.tape,hs.output,hs.size,hs.old,_,h1,fun t=>h2 _ _ (hv t)⟩

def BT(r:RO):Option (Nat×Nat×Nat×Nat×Nat):=
 match r with
 |⟨none,.app d sz bytes (.t x) (.t y)⟩=>some (d,sz,bytes,x,y)
 |_=>none
theorem CR{r:RO}{d sz bytes x y:Nat}(h:BT r=some (d,sz,bytes,x,y)):r=⟨none,.app d sz bytes (.t x) (.t y)⟩:=by
 unfold BT at h
 split at h
 ·injection h with h;injection h with h1 h;injection h with h2 h;injection h with h3 h;injection h with h4 h5;subst h1 h2 h3 h4 h5;rfl
 ·cases h
def ej(R:List RO)(p:Nat):List Nat:=match R[p]? with|some r=>(match BT r with|some (_,_,_,x,y)=>[x,y]|none=>[])|none=>[]

def gH(R:List RO)(A X:List Nat)(t:Nat):Bool:=A.any fun p=>X.contains p&&(ej R p).contains t
theorem cD{R:List RO}{A X:List Nat}{t:Nat}:gH R A X t=true↔∃p∈A,p∈X∧t∈ej R p:=by
 simp[gH]
def uw(f:Nat→Bool)(x:Nat×U):Nat×U:=if f x.1=true then(x.1,.own .jk)else x
def dead(f:Nat→Bool)(s:St):St:=⟨s.n,s.env.map fun x=>(x.1,if f x.1=true then .any else x.2),s.us.map (uw f)⟩
theorem eh{f:Nat→Bool}{t:Nat}:∀{env:List (Nat×AV)},lk (env.map fun x=>(x.1,if f x.1=true then .any else x.2)) t=if f t=true then .any else lk env t
 | []=>by simp[lk]
 |(k,v)::r=>by
  simp only[lC,lk]
  by_cases h:k=t
  ·subst h;simp
  ·rw[if_neg h,if_neg h,eh]
theorem FF{f:Nat→Bool}{x:Nat×U}:(uw f x).1=x.1:=by unfold uw;split<;>rfl
theorem me{f:Nat→Bool}{us:List (Nat×U)}:(us.map (uw f)).map (·.1)=us.map (·.1):=by
 rw[List.map_map];exact List.map_congr_left fun x _=>FF
theorem iS{f:Nat→Bool}{us:List (Nat×U)}{k:Nat}{u:U}:(k,u)∈us.map (uw f)↔∃v,(k,v)∈us∧u=if f k=true then .own .jk else v:=by
 rw[List.mem_map];constructor
 ·rintro⟨⟨i,v⟩,h1,h2⟩;unfold uw at h2;simp only at h2
  split at h2
  ·next hf=>injection h2 with e1 e2;subst e1 e2;exact⟨v,h1,by rw[if_pos hf]⟩
  ·next hf=>injection h2 with e1 e2;subst e1 e2;exact⟨v,h1,by rw[if_neg hf]⟩
 ·rintro⟨v,h1,h2⟩;refine⟨(k,v),h1,?_⟩;unfold uw;simp only
  split
  ·next hf=>rw[if_pos hf]at h2;rw[h2]
  ·next hf=>rw[if_neg hf]at h2;rw[h2]
theorem tL{k:Nat}:∀{us:List (Nat×U)},(w7 k us).map (·.1)=us.map (·.1)
 | []=>rfl
 |(j,v)::r=>by simp only[w7,lC,tL (us:=r)]

structure mw (s s':St):Prop where
 n:s'.n=s.n
 lk:∀t,lk s'.env t=lk s.env t
 us:s'.us.Perm s.us
theorem FQ{us us':List (Nat×U)}(hp:us'.Perm us)(hk:(us.map (·.1)).Nodup)(k:Nat):lu us' k=lu us k:=by
 have hk':(us'.map (·.1)).Nodup:=(hp.map _).nodup_iff.2 hk;cases h:lu us k with
 |some u=>exact ck hk' (hp.mem_iff.2 (ay h))
 |none=>
  cases h':lu us' k with
  |none=>rfl
  |some u=>rw[ck hk (hp.mem_iff.1 (ay h'))]at h;cases h
theorem mw.ev{s s':St}(h:mw s s'):s'.ev=s.ev:=by
 funext x
 cases x with
 |c d=>rfl
 |t n=>exact h.lk n
theorem mw.unit{s s':St}(h:mw s s')(hk:(s.us.map (·.1)).Nodup):s'.unit=s.unit:=by
 funext k
 exact FQ h.us hk k
theorem Ee{us us':List (Nat×U)}{k:Nat}(hp:us'.Perm us)(h:jJ k us=true):jJ k us'=true:=qF fun hm=>cj h ((hp.map _).mem_iff.1 hm)
theorem mw.fresh{s s':St}(h:mw s s'):∀{us:List (Nat×U)},s.fresh us=true→s'.fresh us=true
 | [],_=>rfl
 |x::r,hf=>by
  simp only[St.fresh,bA]at hf⊢;exact⟨⟨Ee h.us hf.1.1,hf.1.2⟩,h.fresh hf.2⟩
theorem mw.step{s s':St}{r:RO}{v:Rs}(h:mw s s')(hk:(s.us.map (·.1)).Nodup)(hs:cZ P r s v):cZ P r s' v:=by
 have hQ:∀{op:ff},QD P op s v→QD P op s' v:=fun hq=>⟨by rw[h.ev,h.unit hk];exact hq.1,hq.2.imp id h.fresh⟩;unfold cZ at hs⊢
 split at hs
 ·exact hQ hs
 ·next t b _=>
  have e:s'.get t=s.get t:=h.lk t;rw[e];exact hs.imp (fun⟨tk,c,h1,h2,h3⟩=>⟨tk,c,h1,fun e=>hQ (h2 e),h3⟩) id
theorem dH.eqS{s s':St}{a:Act}{w:World}(hs:dH n0 S0 M0 w0 s a w)(h:mw s s'):dH n0 S0 M0 w0 s' a w:=hs.eqv h.n h.lk h.us

structure AM (s:St) (d sz bytes x y:Nat) (nn:Option Bool) (es:List D) (d0:D):Prop where
 gx:s.get x=.tr x
 gy:s.get y=.vb y 1
 ux:s.unit x=some (.own (.ls nn sz es))
 uy:s.unit y=some (.bx sz [.im none d0])
 ne:x≠y
 pos:0<sz
 fl:d0.flat=true
 ds:d0.size=sz
 b1:(es.length+1)*bytes≤140737488355328
 b2:es.length+1≤aT
 fr:s.fresh [(d,.own .jk)]=true
def paR(d sz:Nat)(es:List D)(d0:D):Rs:=(.tr d,[(d,.own (.ls (some false) sz (es++[d0])))])
def jr(P:Program):PO→St→Rs→Prop
 |.q r,s,v=>cZ P r s v
 |.a d sz b x y,s,v=>∃nn es d0,AM s d sz b x y nn es d0∧v=paR d sz es d0
def AO:PO→St→Rs→St
 |.q r,s,v=>dp s r.op.dst v
 |.a d _ _ x y,s,v=>⟨s.n,(d,v.1)::(y,.any)::(x,.any)::s.env,v.2++w7 x (w7 y s.us)⟩
def EB(P:Program):List PO→List Rs→St→St→Prop
 | [],[],s,s'=>s=s'
 |p::l,r::rl,s,s'=>jr P p s r∧EB P l rl (AO p s r) s'
 |_,_,_,_=>False
def PO.isQ:PO→Bool
 |.q r=>r.op.isQ
 |.a .. =>true
theorem Fv{d sz b x y:Nat}{st:St}{K:St→Prop}(h:HW (st.get x) (st.get y) (st.unit x) (st.unit y) d sz b x y st K):∃nn es d0,AM st d sz b x y nn es d0∧K (st.apJ d sz x y (es++[d0])):=by
 unfold HW at h
 split at h
 ·next x' y' e1 e2=>
  obtain⟨⟨rfl,rfl⟩,h⟩:=h;unfold Po at h
  split at h
  ·next nn sz' es oC d0 e3 e4=>
   obtain⟨⟨h1,rfl,h2,h3,h4,h5,h6,h7,h8⟩,hK⟩:=h;subst h2;exact⟨nn,es,d0,⟨e1,e2,e3,e4,h1,h3,h4,h5,h6,h7,h8⟩,hK⟩
  ·exact h.elim
 ·exact h.elim
theorem nA{K:St→Prop}:∀{l:List PO} {st:St},(∀p∈l,p.isQ=true)→nJ P l st K→∃rl s',EB P l rl st s'∧K s'∧rl.length=l.length
 | [],st,_,h=>⟨[],st,rfl,h,rfl⟩
 |.q r::l,st,hQ,h=>by
  simp only[nJ]at h;obtain⟨rl0,s1,h1,h2,h3⟩:=fC (Rl:=[r]) (fun R hR=>by rw[List.mem_singleton]at hR;subst hR;exact hQ (.q R) (by simp)) h
  match rl0,h3 with
  | [v],_=>
   simp only[xL]at h1;obtain⟨h4,rfl⟩:=h1;obtain⟨rl,s',q1,q2,q3⟩:=nA (fun p hp=>hQ p (by simp[hp])) h2;exact⟨v::rl,s',⟨h4,q1⟩,q2,by simp[q3]⟩
 |.a d sz b x y::l,st,hQ,h=>by
  simp only[nJ]at h;obtain⟨nn,es,d0,h1,h2⟩:=Fv h;obtain⟨rl,s',q1,q2,q3⟩:=nA (fun p hp=>hQ p (by simp[hp])) h2;exact⟨paR d sz es d0::rl,s',⟨⟨nn,es,d0,h1,rfl⟩,q1⟩,q2,by simp[q3]⟩

theorem IA{s:St}{d sz bytes x y:Nat}{nn:Option Bool}{es:List D}{d0:D}(h:AM s d sz bytes x y nn es d0):
  kr P (.app d sz bytes (.t x) (.t y)) s (fun s'=>s'=(((s.del y).del x).addUs [(d,.own (.ls (some false) sz (es++[d0])))]).set d (.tr d)):=by
 have hyx:(y==x)=false:=by simp only[beq_eq_false_iff_ne];exact fun e=>h.ne e.symm
 have hk:∀{f:AV→Bool} {env:List (Nat×AV)} {t:Nat},f (lk env t)=false→lk (ch f env) t=lk env t:=by
  intro f env t hf
  induction env with
  |nil=>rfl
  |cons z env ih=>
   obtain⟨i,v⟩:=z;simp only[ch,lk]at hf⊢
   split
   ·next e=>rw[if_pos e]at hf;rw[hf];rfl
   ·next e=>rw[if_neg e]at hf;exact ih hf
 have hgx:(s.del y).get x=.tr x:=by
  have:lk s.env x=.tr x:=h.gx
  show lk (ch (AV.refs y) s.env) x=.tr x
  rw[hk (by rw[this];simp only[AV.refs,beq_eq_false_iff_ne];exact h.ne),this]
 have hlu:∀{f:AV→Bool} {us:List (Nat×U)} {i j:Nat},i≠j→lu (aL j f us) i=(lu us i).map (U.kill f):=by
  intro f us i j hij
  induction us with
  |nil=>rfl
  |cons z us ih=>
   obtain⟨k,v⟩:=z;simp only[aL,lu]
   by_cases e:k=j
   ·subst e;rw[if_pos rfl,if_neg (fun e=>hij e.symm),ih]
   ·rw[if_neg e];simp only[lu]
    split
    ·rfl
    ·exact ih
 have hux:(s.del y).unit x=some (.own (.ls nn sz es)):=by
  show lu (aL y (AV.refs y) s.us) x=_
  rw[hlu h.ne,show lu s.us x=some (.own (.ls nn sz es))from h.ux]
  rfl
 have hfr:((s.del y).del x).fresh [(d,.own .jk)]=true:=by
  have:=h.fr;simp only[St.fresh,jJ,bU]at this⊢;refine qF fun hm=>cj this ?_
  show d∈s.us.map (·.1)
  have h1:d∈(aL x (AV.refs x) (aL y (AV.refs y) s.us)).map (·.1):=hm;rw[aV,aV]at h1;exact(List.mem_filter.1 (List.mem_filter.1 h1).1).1
 have ey:s.ev (.t y)=.vb y 1:=h.gy;have ex:(s.del y).ev (.t x)=.tr x:=hgx
 show Ff P (.app d sz bytes (.t x) (.t y)) s _
 simp only[Ff,eOp,ey,iE,tc,h.uy];refine⟨⟨by first|trivial|rfl,by first|rfl|trivial⟩,?_⟩;have hnp:=D.flat_noPtr h.fl;simp only[eF,cp,ui,af,hnp,bI,xr,Bool.or_true,h.fl,xi,ex,sI,bo,hux,mP,ym];refine⟨by simp,by simp,⟨trivial,trivial,trivial,by simpa using h.b1,by simpa using h.b2,fun e he=>by rw[List.mem_singleton]at he;rw[he];exact h.ds,h.pos,hfr⟩,?_⟩
 rfl

theorem tV{f:AV→Bool}{t:Nat}:∀{env:List (Nat×AV)},lk (ch f env) t=if f (lk env t)=true then .any else lk env t
 | []=>by show AV.any=if f .any=true then .any else .any;split<;>rfl
 |(k,v)::r=>by
  have e0:lk (ch f ((k,v)::r)) t=if k=t then(if f v=true then .any else v)else lk (ch f r) t:=rfl
  rw[e0]
  by_cases h:k=t
  ·have e1:lk ((k,v)::r) t=v:=by simp[lk,h]
   rw[if_pos h,e1]
  ·have e1:lk ((k,v)::r) t=lk r t:=by simp[lk,h]
   rw[if_neg h,e1,tV]
theorem Dt{t:Nat}:∀{env:List (Nat×AV)},lk env t=.any∨(t,lk env t)∈env
 | []=>.inl rfl
 |(k,v)::r=>by
  simp only[lk]
  by_cases h:k=t
  ·subst h;rw[if_pos rfl];exact .inr (by simp)
  ·rw[if_neg h];exact(Dt (env:=r)).imp id fun h=>List.mem_cons_of_mem _ h
mutual
theorem yd:∀{av:AV} {k:Nat},k∈av.ids→av.refs k=true
 |.tr i,k,h=>by simp only[AV.ids,List.mem_singleton]at h;simp[AV.refs,h]
 |.pw i _ _,k,h=>by simp only[AV.ids,List.mem_singleton]at h;simp[AV.refs,h]
 |.cw i _ _ _ _,k,h=>by simp only[AV.ids,List.mem_singleton]at h;simp[AV.refs,h]
 |.sm i _ _,k,h=>by simp only[AV.ids,List.mem_singleton]at h;simp[AV.refs,h]
 |.vb i _,k,h=>by simp only[AV.ids,List.mem_singleton]at h;simp[AV.refs,h]
 |.pb i _,k,h=>by simp only[AV.ids,List.mem_singleton]at h;simp[AV.refs,h]
 |.ps i,k,h=>by simp only[AV.ids,List.mem_singleton]at h;simp[AV.refs,h]
 |.pq i _ _ _ _ _,k,h=>by simp only[AV.ids,List.mem_singleton]at h;simp[AV.refs,h]
 |.qs i _ _ _ _ _,k,h=>by simp only[AV.ids,List.mem_singleton]at h;simp[AV.refs,h]
 |.ss i _ _,k,h=>by simp only[AV.ids,List.mem_singleton]at h;simp[AV.refs,h]
 |.sg vs,k,h=>by simp only[AV.ids]at h;simp only[AV.refs];exact pK h
 |.cl _ vs,k,h=>by simp only[AV.ids]at h;simp only[AV.refs];exact pK h
 |.im _ _,k,h=>by simp[AV.ids]at h
 |.tup _,k,h=>by simp[AV.ids]at h
 |.any,k,h=>by simp[AV.ids]at h
 |.z0 _ _,k,h=>by simp[AV.ids]at h
theorem pK:∀{vs:List AV} {k:Nat},k∈AV.idsL vs→AV.refsL k vs=true
 | [],k,h=>by simp[AV.idsL]at h
 |v::vs,k,h=>by
  simp only[AV.idsL,List.mem_append]at h;simp only[AV.refsL,Bool.or_eq_true];exact h.imp yd pK
end
theorem lW{d sz b x y t:Nat}:t∈(⟨none,.app d sz b (.t x) (.t y)⟩:RO).slots↔t=x∨t=y:=by simp[RO.slots,ff.xs,Ax.X.slot]
def ig(A:List Nat)(R:List RO)(i:Nat):PO:=
 if A.contains i then(match BT (R.getD i default)with|some (d,sz,b,x,y)=>.a d sz b x y|none=>.q (R.getD i default))else .q (R.getD i default)
theorem oT{A:List Nat}{R:List RO}{i:Nat}(h:i∉A):ig A R i=.q (R.getD i default):=by
 unfold ig;rw[if_neg (by simpa using h)]

structure hH (P:Program) (wv:Wv) (ops:Array Oper) (R:List RO) (bD:St) (V:Nat→Rs) (S N A:List Nat):Prop where
 len:R.length=ops.size
 res:∀(i:Nat)(o:Oper),ops[i]?=some o→∃r,R[i]?=some r∧db P wv bD.n ops o=some r
 inj:∀i j t,be R i=some t→be R j=some t→i=j
 acyc:∀i,∀j∈aF ops i,j<i
 mem:∀i,i∈N↔i<R.length∧S.contains i=true
 isQ:∀i∈N,i∉A→mI R i=true
 aN:∀p∈A,p∈N
 nnd:N.Nodup
 nw:∀i∈N,∀j∈aF ops i,j∈N
 pa:∀p∈A,∃d sz b x y,R[p]?=some ⟨none,.app d sz b (.t x) (.t y)⟩∧ig A R p=.a d sz b x y∧ej R p=[x,y]
 slot:∀(i:Nat)(r:RO)(t:Nat),i∈N→R[i]?=some r→t∈r.slots→∀j,be R j=some t→(j<i∧j∈aF ops i)∨(i<j∧i∈aF ops j)
 use:∀(i:Nat)(r:RO)(t:Nat),i∈N→R[i]?=some r→t∈r.slots→∀q∈A,t∈ej R q→i=q
 prod:∀q∈A,∀t∈ej R q,∀j,be R j=some t→j<q∧j∈aF ops q
 step:∀i∈N,jr P (ig A R i) (dead (gH R A (kv N i)) (aA bD (be R) V (kv N i))) (V i)
 keys:((aA bD (be R) V N.reverse).us.map (·.1)).Nodup
 cln:∀q∈A,∀k∈ej R q,(∀x∈bD.env,x.1≠k→x.2.refs k=false)∧∀i∈N,∀t,be R i=some t→t≠k→(V i).1.refs k=false
 clu:∀q∈A,∀k∈ej R q,∀x∈(aA bD (be R) V N.reverse).us,x.2.kill (AV.refs k)=x.2

section
variable {ops : Array Oper} {R : List RO} {st : St} {V : Nat → Rs} {S N A X : List Nat} {listed : Array Bool} {i : Nat} {r : RO} {o : Oper} {a : Act} {w : World}
variable {d sz b x y : Nat}
abbrev dy(R:List RO)(A:List Nat)(st:St)(V:Nat→Rs)(X:List Nat):St:=dead (gH R A X) (aA st (be R) V X)
theorem hH.cl(hd:hH P wv ops R st V S N A){q k:Nat}(hq:q∈A)(hk:k∈ej R q)(hX:∀i∈X,i∈N){t:Nat}(ht:t≠k):(lk (aA st (be R) V X).env t).refs k=false:=by
 obtain⟨h1,h2⟩:=hd.cln q hq k hk;have e:=cW (bD:=st) (V:=V) hd.inj (L:=X) (t:=t)
 by_cases he:∃j,j∈X∧be R j=some t
 ·obtain⟨j,hj,hjt⟩:=he;rw[e.1 j hj hjt];exact h2 j (hX j hj) t hjt ht
 ·rw[e.2 fun j hj hjt=>he ⟨j,hj,hjt⟩];rcases Dt (env:=st.env) (t:=t)with h|h
  ·rw[h];rfl
  ·exact h1 _ h ht
theorem qY(hd:hH P wv ops R st V S N A)(h:eo P ops R X listed)(hi:i∈N)(hr:R[i]?=some r)
  (hw:∀j∈aF ops i,j∈X) (hn:i∉X) {t:Nat} (ht:t∈r.slots):(dy R A st V X).get t=(dy R A st V (kv N i)).get t:=by
 have u1:gH R A X t=false:=by
  cases hu:gH R A X t with
  |false=>rfl
  |true=>
   obtain⟨q,hq,hqX,hqt⟩:=cD.1 hu;exact absurd (hd.use i r t hi hr ht q hq hqt▸hqX) hn
 have u2:gH R A (kv N i) t=false:=by
  cases hu:gH R A (kv N i) t with
  |false=>rfl
  |true=>
   obtain⟨q,hq,hqX,hqt⟩:=cD.1 hu;have e:=hd.use i r t hi hr ht q hq hqt;have:=(fK.1 hqX).2;omega
 show lk (List.map _ _) t=lk (List.map _ _) t
 rw[eh,eh,u1,u2];simp only[fq,if_false];have a:=cW (bD:=st) (V:=V) hd.inj (L:=X) (t:=t);have b:=cW (bD:=st) (V:=V) hd.inj (L:=kv N i) (t:=t)
 by_cases he:∃j,be R j=some t
 ·obtain⟨j,hj⟩:=he;rcases hd.slot i r t hi hr ht j hj with⟨h1,h2⟩|⟨h1,h2⟩
  ·rw[a.1 j (hw j h2) hj,b.1 j (fK.2 ⟨hd.nw i hi j h2,h1⟩) hj]
  ·have hx:j∉X:=fun hx=>hn (h.closed j hx i h2);rw[a.2 fun k hk e=>hx (hd.inj k j t e hj▸hk),b.2 fun k hk e=>by
    have:=hd.inj k j t e hj;have:=(fK.1 hk).2;omega]
 ·rw[a.2 fun k _ e=>he ⟨k,e⟩,b.2 fun k _ e=>he ⟨k,e⟩]

theorem pi(hd:hH P wv ops R st V S N A){X Y:List Nat}(nX:X.Nodup)(hX:∀i∈X,i∈N)(nY:Y.Nodup)(hY:∀i∈Y,i∈N){k:Nat}{u v:U}
  (h1:(k,u)∈(dy R A st V X).us) (h2:(k,v)∈(dy R A st V Y).us) (e:gH R A X k=gH R A Y k):u=v:=by
 obtain⟨u',m1,e1⟩:=iS.1 h1;obtain⟨v',m2,e2⟩:=iS.1 h2;have q1:=ck hd.keys ((dh hd.nnd hd.keys nX hX).2 _ m1);have q2:=ck hd.keys ((dh hd.nnd hd.keys nY hY).2 _ m2);rw[q1]at q2;injection q2 with q2;subst q2;rw[e1,e2,e]
theorem EG(hd:hH P wv ops R st V S N A)(nX:X.Nodup)(hX:∀i∈X,i∈N):((dy R A st V X).us.map (·.1)).Nodup:=by
 show((List.map _ _).map _).Nodup
 rw[me];exact(dh hd.nnd hd.keys nX hX).1

def so(R:List RO)(A:List Nat)(st:St)(V:Nat→Rs)(X:List Nat):Prop:=∀q∈A,q∈X→∀k∈ej R q,k∈(aA st (be R) V X).us.map (·.1)
theorem Fx{N:List Nat}{i:Nat}(h:N.Nodup):(kv N i).Nodup:=(List.reverse_perm _).nodup_iff.2 (h.filter _)

theorem uC(hd:hH P wv ops R st V S N A)(h:eo P ops R X listed)(hX:∀i∈X,i∈N)(hi:i∈N)(hiA:i∉A)(hr:R[i]?=some r)(hres:db P wv st.n ops o=some r)
  (hw:∀j∈aF ops i,j∈X) (hn:i∉X) (hs:dH n0 S0 M0 w0 (dy R A st V X) a w):
  ∃op,kc P wv st.n o=some op∧r.op=op∧op.isQ=true∧op.dst=o.dst∧(∀d,o.dst=some d→d<(dy R A st V X).n)∧(∃g,At n0 S0 M0 w0 (dy R A st V X) o a w g)∧(∀t∈r.slots,(dy R A st V X).get t=(dy R A st V (kv N i)).get t)∧
   (QD P r.op (dy R A st V (kv N i)) (V i)→uo P r.op (dy R A st V X).ev (dy R A st V X).unit (fun v u=>v=(V i).1∧u=(V i).2)):=by
 have hXn:(dy R A st V X).n=st.n:=ce;have hget:∀t∈r.slots,(dy R A st V X).get t=(dy R A st V (kv N i)).get t:=fun t ht=>qY hd h hi hr hw hn ht;have hbX:∀j∈kv N i,j∈N:=fun j hj=>(fK.1 hj).1;have hres0:=hres;unfold db at hres0;simp only[oD,oB,ae]at hres0;obtain⟨op,hop,_,h1,_,h2,hres0⟩:=hres0;have hdl:∀d,o.dst=some d→d<(dy R A st V X).n:=by
  intro d hdd;rw[hXn];rw[hdd]at h2;simpa using h2
 have hrop:r.op=op:=by
  split at hres0
  ·simp only[oP,oS]at hres0;rw[←hres0]
  ·simp only[oB,oP,oS]at hres0;obtain⟨_,_,_,_,hres0⟩:=hres0;rw[←hres0]
 have hQ:op.isQ=true:=by
  rw[←hrop,←uV hr];exact hd.isQ i hi hiA
 obtain⟨g,hu,hv⟩:=hs.gh;refine⟨op,hop,hrop,hQ,h1,hdl,⟨g,hs,hu,hv,hdl⟩,hget,fun hq=>?_⟩;have hev:∀x∈r.op.xs,(dy R A st V X).ev x=(dy R A st V (kv N i)).ev x:=by
  intro x hx;cases x with
  |c d=>rfl
  |t n=>exact hget n (List.mem_append_left _ (List.mem_filterMap.2 ⟨_,hx,rfl⟩))
 refine qb hq.1 hev ?_;intro x hx k u hk hu';rw[←hev x hx]at hk;cases x with
 |c d=>simp only[St.ev,jc]at hk;split at hk<;>simp[AV.ids]at hk
 |t n=>
  have hns:n∈r.slots:=List.mem_append_left _ (List.mem_filterMap.2 ⟨_,hx,rfl⟩);obtain⟨u',hm⟩:=oM (hv n) k hk;have hno:∀Y:List Nat,gH R A Y k=false:=fun Y=>by
   cases hu:gH R A Y k with
   |false=>rfl
   |true=>
    obtain⟨q,hq,_,hqk⟩:=cD.1 hu;have hnk:n≠k:=fun e=>hiA (hd.use i r n hi hr hns q hq (e▸hqk)▸hq);have hk':k∈(lk (List.map (fun x=>(x.1,if gH R A X x.1=true then AV.any else x.2)) (aA st (be R) V X).env) n).ids:=hk;rw[eh]at hk'
    split at hk'
    ·simp[AV.ids]at hk'
    ·have:=yd hk';rw[hd.cl hq hqk hX hnk]at this;cases this
  have hm2:=ay hu';have:=pi hd h.nd hX (Fx hd.nnd) hbX hm hm2 (by rw[hno,hno]);subst this;exact ck (EG hd h.nd hX) hm
theorem Bz{i:Nat}(h:i∉A):gH R A (i::X)=gH R A X:=by
 funext t
 rw[Bool.eq_iff_iff,cD,cD];constructor
 ·rintro⟨q,h1,h2,h3⟩;rcases List.mem_cons.1 h2 with rfl|h2
  ·exact absurd h1 h
  ·exact⟨q,h1,h2,h3⟩
 ·rintro⟨q,h1,h2,h3⟩;exact⟨q,h1,by simp[h2],h3⟩

theorem Bu(hkN:((aA st (be R) V (i::X)).us.map (·.1)).Nodup)(hpr:∀q∈A,q∈X→∀d,be R i=some d→d∉ej R q)(hI:so R A st V X)(hiA:i∉A):mw (dp (dy R A st V X) (be R i) (V i)) (dy R A st V (i::X)):=by
 have e0:aA st (be R) V (i::X)=dp (aA st (be R) V X) (be R i) (V i):=rfl;have hu:(V i).2.map (uw (gH R A X))=(V i).2:=by
  rw[List.map_congr_left (g:=id),List.map_id];rintro⟨k,u⟩ hm;unfold uw;rw[if_neg]
  ·rfl
  intro hk;obtain⟨q,hq,hqX,hqk⟩:=cD.1 hk;have h1:=hI q hq hqX k hqk;have h2:=hkN;have e:(aA st (be R) V (i::X)).us=(V i).2++(aA st (be R) V X).us:=by simp[cb]
  rw[e,List.map_append,List.nodup_append]at h2;exact h2.2.2 k (List.mem_map.2 ⟨_,hm,rfl⟩) k h1 rfl
 refine⟨?_,fun t=>?_,?_⟩
 ·show(aA st (be R) V (i::X)).n=_
  have e:∀(s:St)(d:Option Nat)(v:Rs),(dp s d v).n=s.n:=fun s d v=>by cases d<;>rfl
  rw[e]
  show _=(aA st (be R) V X).n
  rw[ce,ce]
 ·show lk (List.map _ _) t=_
  rw[eh,Bz hiA,e0];unfold dp;cases hdi:be R i with
  |none=>
   show(if _ then _ else lk (aA st (be R) V X).env t)=lk (List.map _ (aA st (be R) V X).env) t
   rw[eh]
  |some d=>
   have hf:gH R A X d=false:=by
    cases hu:gH R A X d with
    |false=>rfl
    |true=>
     obtain⟨q,hq,hqX,hqd⟩:=cD.1 hu;exact absurd hqd (hpr q hq hqX d hdi)
   show(if _ then _ else lk ((d,(V i).1)::(aA st (be R) V X).env) t)=lk ((d,(V i).1)::List.map _ (aA st (be R) V X).env) t
   simp only[lk]
   by_cases e:d=t
   ·subst e;rw[if_pos rfl,if_pos rfl,hf];rfl
   ·rw[if_neg e,if_neg e,eh]
 ·show(List.map (uw (gH R A (i::X))) (aA st (be R) V (i::X)).us).Perm _
  have e1:(dp (dy R A st V X) (be R i) (V i)).us=(V i).2++(aA st (be R) V X).us.map (uw (gH R A X)):=by unfold dp;cases be R i<;>rfl
  have e2:(aA st (be R) V (i::X)).us=(V i).2++(aA st (be R) V X).us:=by simp[cb]
  rw[e1,e2,Bz hiA,List.map_append,hu]
theorem Iq(hd:hH P wv ops R st V S N A)(hnd:(i::X).Nodup)(hc:∀j∈X,∀k∈aF ops j,k∈X)(hX:∀j∈i::X,j∈N)(hI:so R A st V X)(hiA:i∉A):mw (dp (dy R A st V X) (be R i) (V i)) (dy R A st V (i::X)):=
 Bu (dh hd.nnd hd.keys hnd hX).1 (fun q hq hqX d hdi hqd=>(List.nodup_cons.1 hnd).1 (hc q hqX i (hd.prod q hq d hqd i hdi).2)) hI hiA
theorem yE(hI:so R A st V X)(hq:i∈A→∀k∈ej R i,k∈(aA st (be R) V X).us.map (·.1)):so R A st V (i::X):=by
 intro q h1 h2 k hk;have e:(aA st (be R) V (i::X)).us=(V i).2++(aA st (be R) V X).us:=by simp[cb]
 rw[e,List.map_append];refine List.mem_append_right _ ?_;rcases List.mem_cons.1 h2 with rfl|h2
 ·exact hq h1 k hk
 ·exact hI q h1 h2 k hk

theorem np:(aA st (be R) V (i::X)).us=(V i).2++(aA st (be R) V X).us:=by simp[cb]
theorem jr.paR(hp:ig A R i=.a d sz b x y){s:St}{v:Rs}(h:jr P (ig A R i) s v):∃nn es d0,AM s d sz b x y nn es d0∧v=paR d sz es d0:=by
 rw[hp]at h;exact h
theorem rj{us:List (Nat×U)}(h:(us.map (·.1)).Nodup):us.Nodup:=by
 induction us with
 |nil=>exact List.nodup_nil
 |cons x us ih=>
  rw[lC,List.nodup_cons]at h;exact List.nodup_cons.2 ⟨fun hx=>h.1 (List.mem_map.2 ⟨x,hx,rfl⟩),ih h.2⟩

theorem Az{Q:Exit→Act→World→Prop}(hd:hH P wv ops R st V S N A)(h:eo P ops R X listed)(hX:∀i∈X,i∈N)(hI:so R A st V X)(hi:i∈N)(hiA:i∈A)(ho:ops[i]?=some o)(hr:R[i]?=some r)(hres:db P wv st.n ops o=some r)
  (hw:∀j∈aF ops i,j∈X) (hn:i∉X) (hs:dH n0 S0 M0 w0 (dy R A st V X) a w):
  wpOp P ops Q i (fun a w=>dH n0 S0 M0 w0 (dy R A st V (i::X)) a w) a w∧so R A st V (i::X):=by
 obtain⟨d,sz,b,x,y,hra,hpo,hxy⟩:=hd.pa i hiA;rw[hr]at hra;injection hra with hra;subst hra;have hbN:∀j∈kv N i,j∈N:=fun j hj=>(fK.1 hj).1;have hX':∀j∈i::X,j∈N:=fun j hj=>(List.mem_cons.1 hj).elim (fun e=>e▸hi) (hX j);have hnd':(i::X).Nodup:=List.nodup_cons.2 ⟨hn,h.nd⟩;have hdi:be R i=some d:=by simp[be,hr,ff.dst]
 obtain⟨nn,es,d0,hB,hV⟩:=jr.paR hpo (hd.step i hi);have hget:∀t∈(⟨none,.app d sz b (.t x) (.t y)⟩:RO).slots,(dy R A st V X).get t=(dy R A st V (kv N i)).get t:=fun t ht=>qY hd h hi hr hw hn ht;have gx:(dy R A st V X).get x=.tr x:=by rw[hget x (lW.2 (.inl rfl))];exact hB.gx
 have gy:(dy R A st V X).get y=.vb y 1:=by rw[hget y (lW.2 (.inr rfl))];exact hB.gy
 have hno:∀Y:List Nat,i∉Y→∀t∈ej R i,gH R A Y t=false:=fun Y hY t ht=>by
  cases hu:gH R A Y t with
  |false=>rfl
  |true=>
   obtain⟨q,hq,hqY,hqt⟩:=cD.1 hu;have hts:t∈(⟨none,.app d sz b (.t x) (.t y)⟩:RO).slots:=by rw[hxy]at ht;exact lW.2 (by simpa using ht)
   exact absurd (hd.use i _ t hi hr hts q hq hqt▸hqY) hY
 have hxm:x∈ej R i:=by rw[hxy];simp
 have hym:y∈ej R i:=by rw[hxy];simp
 have hib:i∉kv N i:=fun hm=>by have:=(fK.1 hm).2;omega
 obtain⟨g,hu,hv⟩:=hs.gh;have kX:=EG hd h.nd hX;have ux:(dy R A st V X).unit x=some (.own (.ls nn sz es)):=by
  have:=hv x;rw[show lk (dy R A st V X).env x=.tr x from gx]at this;simp only[ab]at this;obtain⟨⟨d',hm⟩,_⟩:=this;have e:=pi hd h.nd hX (Fx hd.nnd) hbN hm (ay hB.ux) (by rw[hno X hn x hxm,hno _ hib x hxm]);rw[e]at hm;exact ck kX hm
 have uy:(dy R A st V X).unit y=some (.bx sz [.im none d0]):=by
  have:=hv y;rw[show lk (dy R A st V X).env y=.vb y 1 from gy]at this;simp only[ab]at this;obtain⟨sz',items,b',hm,_⟩:=this;have e:=pi hd h.nd hX (Fx hd.nnd) hbN hm (ay hB.uy) (by rw[hno X hn y hym,hno _ hib y hym]);rw[e]at hm;exact ck kX hm
 have hkN:=dh hd.nnd hd.keys hnd' hX';have hkN1:=hkN.1;rw[np,hV]at hkN1;have hdX:d∉(aA st (be R) V X).us.map (·.1):=by
  have h1:(d::(aA st (be R) V X).us.map (·.1)).Nodup:=hkN1;exact(List.nodup_cons.1 h1).1
 have hdS:d∉(dy R A st V X).us.map (·.1):=by
  show d∉(List.map _ _).map _
  rw[me];exact hdX
 have hPA:AM (dy R A st V X) d sz b x y nn es d0:=⟨gx,gy,ux,uy,hB.ne,hB.pos,hB.fl,hB.ds,hB.b1,hB.b2,by simp only[St.fresh,jJ,bU];exact qF hdS⟩;have hxS:=ay ux;have hyS:=ay uy;have hxd:x≠d:=fun e=>hdS (e▸List.mem_map.2 ⟨_,hxS,rfl⟩);have hyd:y≠d:=fun e=>hdS (e▸List.mem_map.2 ⟨_,hyS,rfl⟩);refine⟨?_,yE hI fun _ k hk=>?_⟩
 ·have hXn:(dy R A st V X).n=st.n:=ce;have key:=kW (R:=⟨none,.app d sz b (.t x) (.t y)⟩) (Q':=Q) (by rw[hXn];exact hres) hs (IA hPA);have hgo:o.guard=none:=by
   have hres0:=hres;unfold db at hres0;simp only[oD,oB,ae]at hres0;obtain⟨_,_,_,_,_,_,hres0⟩:=hres0
   split at hres0
   ·assumption
   ·simp only[oB,oP,oS]at hres0;obtain⟨_,_,_,_,hres0⟩:=hres0;injection hres0 with hg;cases hg
  have hwt:Region.wanted o (yielded ops a.tmps)=true:=by simp[Region.wanted,hgo]
  unfold wpOp;rw[ho];simp only;rw[hwt,if_pos rfl];refine .inl (Oper.wp_mono ?_ (key.1 hwt));rintro a' w' ⟨s'',hn'',rfl,hs''⟩;have hk2:y∉((((dy R A st V X).del y).del x).addUs [(d,.own (.ls (some false) sz (es++[d0])))] |>.set d (.tr d)).us.map (·.1):=by
   intro hm;have hm':y∈d::(aL x (AV.refs x) (aL y (AV.refs y) (dy R A st V X).us)).map (·.1):=hm;rcases List.mem_cons.1 hm' with e|hm'
   ·exact hyd e
   ·rw[aV,aV]at hm';have:=(List.mem_filter.1 (List.mem_filter.1 hm').1).2;simp at this
  have s1:=DL hs'' hk2;have s2:=DL (k:=x) s1 (by
   intro hm;have hm':x∈y::d::(aL x (AV.refs x) (aL y (AV.refs y) (dy R A st V X).us)).map (·.1):=hm;rcases List.mem_cons.1 hm' with e|hm'
   ·exact hB.ne e
   rcases List.mem_cons.1 hm' with e|hm'
   ·exact hxd e
   ·rw[aV]at hm';have:=(List.mem_filter.1 hm').2;simp at this)
  refine s2.eqS ⟨?_,fun t=>?_,?_⟩
  ·show(aA st (be R) V (i::X)).n=(aA st (be R) V X).n
   rw[ce,ce]
  ·show lk (List.map _ (aA st (be R) V (i::X)).env) t=lk ((d,.tr d)::ch (AV.refs x) (ch (AV.refs y) (dy R A st V X).env)) t
   have e0:(aA st (be R) V (i::X)).env=(d,.tr d)::(aA st (be R) V X).env:=by
    simp only[aA,hdi,hV,paR,dp,St.setO,St.set,St.addUs]
   rw[eh,e0];have hsplit:∀t,gH R A (i::X) t=(gH R A X t||(ej R i).contains t):=fun t=>by
    rw[Bool.eq_iff_iff,cD,Bool.or_eq_true,cD,List.contains_eq_mem,decide_eq_true_eq];constructor
    ·rintro⟨q,h1,h2,h3⟩;rcases List.mem_cons.1 h2 with rfl|h2
     ·exact .inr h3
     ·exact .inl ⟨q,h1,h2,h3⟩
    ·rintro(⟨q,h1,h2,h3⟩|h3)
     ·exact⟨q,h1,by simp[h2],h3⟩
     ·exact⟨i,hiA,by simp,h3⟩
   have hlast:lk (ch (AV.refs x) (ch (AV.refs y) (dy R A st V X).env)) t=if(if(lk (dy R A st V X).env t).refs y=true then AV.any else lk (dy R A st V X).env t).refs x=true then .any else(if(lk (dy R A st V X).env t).refs y=true then AV.any else lk (dy R A st V X).env t):=by rw[tV,tV]
   have c1:∀{e:List (Nat×AV)},lk ((d,AV.tr d)::e) t=if d=t then .tr d else lk e t:=rfl
   rw[c1,c1,hlast]
   by_cases e:d=t
   ·subst e;rw[if_pos rfl,if_pos rfl];rw[if_neg];intro hu;obtain⟨q,hq,hqX,hqd⟩:=cD.1 hu;have hp:=hd.prod q hq d hqd i hdi;rcases List.mem_cons.1 hqX with rfl|hqX
    ·omega
    ·exact hn (h.closed q hqX i hp.2)
   ·rw[if_neg e,if_neg e]
    by_cases ex:t=x
    ·subst ex;rw[show lk (dy R A st V X).env t=.tr t from gx,hsplit,hxy];have:(t==y)=false:=by simpa using hB.ne
     simp[AV.refs,this]
    ·by_cases ey:t=y
     ·subst ey;rw[show lk (dy R A st V X).env t=.vb t 1 from gy,hsplit,hxy];simp[AV.refs]
     ·have hl:lk (dy R A st V X).env t=if gH R A X t=true then .any else lk (aA st (be R) V X).env t:=eh
      have q1:=hd.cl hiA hxm hX ex;have q2:=hd.cl hiA hym hX ey;have hct:(ej R i).contains t=false:=by rw[hxy];simp[ex,ey]
      rw[hl,hsplit,hct,Bool.or_false]
      by_cases hu:gH R A X t=true
      ·simp[hu,AV.refs]
      ·rw[if_neg hu,q2];simp[q1]
  ·have hnt:((dy R A st V (i::X)).us.map (·.1)).Nodup:=EG hd hnd' hX';have hkk:((aL x (AV.refs x) (aL y (AV.refs y) (dy R A st V X).us)).map (·.1)).Nodup:=by
    rw[aV,aV];exact(kX.filter _).filter _
   have hns:(((x,U.own .jk)::(y,U.own .jk)::(d,U.own (.ls (some false) sz (es++[d0])))::aL x (AV.refs x) (aL y (AV.refs y) (dy R A st V X).us)).map (·.1)).Nodup:=by
    simp only[lC,List.nodup_cons,List.mem_cons,not_or];refine⟨⟨hB.ne,hxd,?_⟩,⟨hyd,?_⟩,?_,hkk⟩
    ·rw[aV];intro hm;simpa using(List.mem_filter.1 hm).2
    ·rw[aV,aV];intro hm;simpa using(List.mem_filter.1 (List.mem_filter.1 hm).1).2
    ·rw[aV,aV];intro hm;exact hdS (List.mem_filter.1 (List.mem_filter.1 hm).1).1
   refine(List.perm_ext_iff_of_nodup (rj hnt) (rj hns)).2 ?_;rintro⟨k,u⟩;have hkillu:∀{k':Nat} {v:U},(k',v)∈(aA st (be R) V X).us→∀z∈ej R i,v.kill (AV.refs z)=v:=fun hm z hz=>hd.clu i hiA z hz _ ((dh hd.nnd hd.keys h.nd hX).2 _ hm);have hsplit:∀t,gH R A (i::X) t=(gH R A X t||(ej R i).contains t):=fun t=>by
    rw[Bool.eq_iff_iff,cD,Bool.or_eq_true,cD,List.contains_eq_mem,decide_eq_true_eq];constructor
    ·rintro⟨q,h1,h2,h3⟩;rcases List.mem_cons.1 h2 with rfl|h2
     ·exact .inr h3
     ·exact .inl ⟨q,h1,h2,h3⟩
    ·rintro(⟨q,h1,h2,h3⟩|h3)
     ·exact⟨q,h1,by simp[h2],h3⟩
     ·exact⟨i,hiA,by simp,h3⟩
   have hkill2:∀{k':Nat} {v:U},(k',v)∈(dy R A st V X).us→∀z∈ej R i,v.kill (AV.refs z)=v:=fun hm z hz=>by
    obtain⟨v',m1,e1⟩:=iS.1 hm;rw[e1]
    split
    ·rfl
    ·exact hkillu m1 z hz
   have hdu:gH R A (i::X) d=false:=by
    cases hu:gH R A (i::X) d with
    |false=>rfl
    |true=>
     exfalso;obtain⟨q,hq,hqX,hqd⟩:=cD.1 hu;have hp:=hd.prod q hq d hqd i hdi;rcases List.mem_cons.1 hqX with rfl|hqX
     ·omega
     ·exact hn (h.closed q hqX i hp.2)
   show(k,u)∈(aA st (be R) V (i::X)).us.map (uw (gH R A (i::X)))↔_
   rw[iS,np,hV];simp only[paR,List.mem_append,List.mem_cons,List.not_mem_nil,or_false,Prod.mk.injEq];constructor
   ·rintro⟨v,(⟨rfl,rfl⟩|hm),hu2⟩
    ·rw[hdu]at hu2;exact .inr (.inr (.inl ⟨rfl,by simpa using hu2⟩))
    ·by_cases ex:k=x
     ·subst ex;rw[hsplit,hxy]at hu2;exact .inl ⟨rfl,by simpa using hu2⟩
     by_cases ey:k=y
     ·subst ey;rw[hsplit,hxy]at hu2;exact .inr (.inl ⟨rfl,by simpa using hu2⟩)
     refine .inr (.inr (.inr ?_));have hct:(ej R i).contains k=false:=by rw[hxy];simp[ex,ey]
     rw[hsplit,hct,Bool.or_false]at hu2;have hm2:(k,u)∈(dy R A st V X).us:=iS.2 ⟨v,hm,hu2⟩;have h1:=cM (f:=AV.refs y) hm2 ey;rw[hkill2 hm2 y hym]at h1;have h2:=cM (f:=AV.refs x) h1 ex;rw[hkill2 hm2 x hxm]at h2;exact h2
   ·rintro(⟨rfl,rfl⟩|⟨rfl,rfl⟩|⟨rfl,rfl⟩|hm)
    ·obtain⟨v',m1,_⟩:=iS.1 hxS;exact⟨v',.inr m1,by rw[hsplit,hxy];simp⟩
    ·obtain⟨v',m1,_⟩:=iS.1 hyS;exact⟨v',.inr m1,by rw[hsplit,hxy];simp⟩
    ·exact⟨_,.inl ⟨rfl,rfl⟩,by rw[hdu];rfl⟩
    ·obtain⟨hkx,u1,hm1,e1⟩:=aQ hm;obtain⟨hky,u2,hm2,e2⟩:=aQ hm1;simp only at hkx hky hm1 hm2 e1 e2;rw[hkill2 hm2 y hym]at e2;subst e2;rw[hkill2 hm2 x hxm]at e1;subst e1;obtain⟨v',m1,e3⟩:=iS.1 hm2;have hct:(ej R i).contains k=false:=by rw[hxy];simp[hkx,hky]
     exact⟨v',.inr m1,by rw[hsplit,hct,Bool.or_false];exact e3⟩
 ·rw[hxy]at hk;have hk':k=x∨k=y:=by simpa using hk
  have:k∈(dy R A st V X).us.map (·.1):=by
   rcases hk' with rfl|rfl
   ·exact List.mem_map.2 ⟨_,hxS,rfl⟩
   ·exact List.mem_map.2 ⟨_,hyS,rfl⟩
  have h2:k∈(List.map (uw (gH R A X)) (aA st (be R) V X).us).map (·.1):=this;rw[me]at h2;exact h2

theorem sB{Q:Exit→Act→World→Prop}
  (hd:hH P wv ops R st V S N A) (h:eo P ops R X listed) (hX:∀i∈X,i∈N) (hI:so R A st V X) (hi:i∈N) (hiA:i∉A) (ho:ops[i]?=some o) (hr:R[i]?=some r) (hres:db P wv st.n ops o=some r)
  (hw:∀j∈aF ops i,j∈X) (hn:i∉X) (hs:dH n0 S0 M0 w0 (dy R A st V X) a w):
  wpOp P ops Q i (fun a w=>dH n0 S0 M0 w0 (dy R A st V (i::X)) a w) a w:=by
 obtain⟨op,hop,hrop,hQ,h1,hdl,⟨g,hat⟩,hget,hqq⟩:=uC hd h hX hi hiA hr hres hw hn hs;have hXn:(dy R A st V X).n=st.n:=ce;have hnd':(i::X).Nodup:=List.nodup_cons.2 ⟨hn,h.nd⟩;have hX':∀j∈i::X,j∈N:=fun j hj=>(List.mem_cons.1 hj).elim (fun e=>e▸hi) (hX j);have hkN:=dh hd.nnd hd.keys hnd' hX';have hnext:=Iq hd hnd' h.closed hX' hI hiA;have hdst:be R i=r.op.dst:=by simp[be,hr]
 have hfr:(V i).2=[]∨(dy R A st V X).fresh (V i).2=true:=.inr (oc (by
  have e:(aA st (be R) V (i::X)).us=(V i).2++(aA st (be R) V X).us:=by simp[cb]
  have h1:=hkN.1;rw[e,List.map_append]at h1;rw[List.map_append];have h2:(dy R A st V X).us.map (·.1)=(aA st (be R) V X).us.map (·.1):=me;rw[h2];exact h1))
 rw[hdst]at hnext;have hstep:cZ P r (dy R A st V (kv N i)) (V i):=by
  have h1:=hd.step i hi;rw[oT hiA,show R.getD i default=r by simp[List.getD_eq_getElem?_getD,hr]]at h1;exact h1
 have run:∀{Q':Exit→Act→World→Prop},QD P r.op (dy R A st V (kv N i)) (V i)→o.wp P a w (fun a w=>dH n0 S0 M0 w0 (dy R A st V (i::X)) a w) Q':=by
  intro Q' hq;have hq':=hqq hq;rw[hrop]at hq';have⟨h5,h6⟩:=rO (Q':=Q') (n:=st.n) hop hQ hXn hat hq';refine Oper.wp_mono ?_ h5;rintro a' w' ⟨av,us,⟨rfl,rfl⟩,hS⟩;have h7:=hS hfr;rw[←h6,←hrop]at h7;exact h7.eqS hnext
 have hu:=hat.us;have hv:=hat.rep;have hres0:=hres;unfold db at hres0;simp only[oD,oB,ae]at hres0;obtain⟨op',hop',_,_,_,_,hres0⟩:=hres0;rw[hop]at hop';injection hop' with hop';subst hop';have skip:V i=(.tup [],[])→dH n0 S0 M0 w0 (dy R A st V (i::X)) (a.put o.dst undef) w:=by
  intro hV;refine dH.eqS ?_ hnext;rw[hV,hrop,h1];unfold dp;rw[dL];exact cY hs hu hv hdl gX
 unfold wpOp;rw[ho];simp only
 split at hres0
 ·next hg=>
  simp only[oP,oS]at hres0;subst hres0;have:Region.wanted o (yielded ops a.tmps)=true:=by simp[Region.wanted,hg]
  rw[this,if_pos rfl];exact .inl (run hstep)
 ·next j b hg=>
  simp only[oB,oP,oS]at hres0;obtain⟨p,hp,t,ht,rfl⟩:=hres0;rcases hstep with⟨tk,c,hc,hy,hno⟩|⟨hc,hno⟩
  ·rw[←hget t (List.mem_append_right _ (by simp))]at hc;have hvt:=hv t;have hc':lk (dy R A st V X).env t=.im tk (.sc (.bool c)):=hc;rw[hc']at hvt;have hval:=c9 hvt;have hyy:=jL (ops:=ops) hp ht hval;have hwt:Region.wanted o (yielded ops a.tmps)=(some c==some b):=by simp[Region.wanted,hg,hyy]
   rw[hwt]
   by_cases e:c=b
   ·rw[if_pos (by simp[e])];exact .inl (run (hy e))
   ·rw[if_neg (by simp[e])];exact skip (hno (by cases c<;>cases b<;>simp_all))
  ·rw[←hget t (List.mem_append_right _ (by simp))]at hc;have hvt:=hv t;have hc':lk (dy R A st V X).env t=.tup []:=hc;rw[hc']at hvt;have hwt:Region.wanted o (yielded ops a.tmps)=false:=by simp[Region.wanted,hg,gl (ops:=ops) hp ht (ma hvt)]
   rw[hwt,if_neg (by simp)];exact skip hno

theorem zL{K:Exit→St→Prop}{S:List Nat}{e:Nat}{es:List Nat}{sE:St}(hd:hH P wv ops R st V S (NL S R) A)(hsE:mw (dy R A st V (NL S R).reverse) sE)(hE:EL S R=e::es)(hch:gO ops (e::es)=true)(hns:Region.noSelect ops=true)
  (hcov:∀i∈NL S R,fW ops R i=true∨i∈aF ops e∨∃k∈NL S R,i<k∧(fW ops R k=false∨k∈aF ops e∨∃j∈NL S R,k<j∧fW ops R j=false∧k∈aF ops j)∧i∈aF ops k)
  (hend:a8 P ((e::es).map fun i=>R.getD i default) sE K):∀(fuel:Nat)(X:List Nat)(listed:Array Bool)(a:Act)(w:World),
  eo P ops R X listed→(∀i∈X,i∈NL S R)→so R A st V X→fuel+X.length=ops.size→dH n0 S0 M0 w0 (dy R A st V X) a w→wpAny P .any ops (fun e a w=>e=.normal∧fX n0 S0 M0 w0 st.n K e a w) fuel listed a w:=by
 have hel:e<ops.size:=by
  have:e∈EL S R:=by rw[hE];simp
  rw[←hd.len];exact(dD.1 this).1
 have heN:e∉NL S R:=by
  have:e∈EL S R:=by rw[hE];simp
  intro h;have h1:=(dD.1 this).2;have h2:=(bj.1 h).2;rw[h1]at h2;cases h2

 have fin:∀(fuel:Nat)(X:List Nat)(listed:Array Bool)(a:Act)(w:World),eo P ops R X listed→(∀i∈X,i∈NL S R)→so R A st V X→fuel+X.length=ops.size→dH n0 S0 M0 w0 (dy R A st V X) a w→(∀i∈NL S R,i∈X)→
   wpAny P .any ops (fun e a w=>e=.normal∧fX n0 S0 M0 w0 st.n K e a w) fuel listed a w:=by
  intro fuel X listed a w h hX hI hl hs hall;have hp:X.Perm (NL S R).reverse:=(List.perm_ext_iff_of_nodup h.nd ((List.reverse_perm _).nodup_iff.2 hd.nnd)).2 fun i=>by
   rw[List.mem_reverse];exact⟨hX i,hall i⟩
  have hs':dH n0 S0 M0 w0 (dy R A st V (NL S R).reverse) a w:=by
   have hus:gH R A X=gH R A (NL S R).reverse:=by
    funext t
    rw[Bool.eq_iff_iff,cD,cD];constructor
    ·rintro⟨q,h1,h2,h3⟩;exact⟨q,h1,hp.mem_iff.1 h2,h3⟩
    ·rintro⟨q,h1,h2,h3⟩;exact⟨q,h1,hp.mem_iff.2 h2,h3⟩
   refine hs.eqv (show(aA st (be R) V (NL S R).reverse).n=(aA st (be R) V X).n by rw[ce,ce]) ?_ ?_
   ·intro t
    show lk (List.map _ _) t=lk (List.map _ _) t
    rw[eh,eh,hus];have x:=cW (bD:=st) (V:=V) hd.inj (L:=X) (t:=t);have y:=cW (bD:=st) (V:=V) hd.inj (L:=(NL S R).reverse) (t:=t)
    by_cases he:∃j,j∈X∧be R j=some t
    ·obtain⟨j,h1,h2⟩:=he;rw[x.1 j h1 h2,y.1 j (hp.mem_iff.1 h1) h2]
    ·rw[x.2 fun k hk e=>he ⟨k,hk,e⟩,y.2 fun k hk e=>he ⟨k,hp.mem_iff.2 hk,e⟩]
   ·show(List.map _ _).Perm (List.map _ _)
    rw[hus,cb,cb];exact((hp.flatMap_right _).append_right _).symm.map _
  have hlen2:X.length+(e::es).length=ops.size:=by
   have h1:X.length=(NL S R).length:=by rw[hp.length_eq,List.length_reverse]
   have h2:(NL S R).length+(EL S R).length=R.length:=by
    unfold NL EL;have:∀l:List Nat,(l.filter fun i=>S.contains i).length+(l.filter fun i=>!S.contains i).length=l.length:=by
     intro l
     induction l with
     |nil=>rfl
     |cons x l ih=>
      simp only[List.filter_cons,lK]
      by_cases hx:S.contains x=true
      ·simp only[hx,if_true,bT,fq,if_false,lK];omega
      ·have hx':S.contains x=false:=by simpa using hx
       simp only[hx',if_true,bN,fq,if_false,lK];omega
    simpa using this (List.range R.length)
   rw[h1,←hE,h2,hd.len]
  have hfuel:fuel=(e::es).length:=by omega
  rw[hfuel];refine Al hd.len hd.res hd.acyc (e::es) listed _ a w h.size ?_ hch ?_ (hs'.eqS hsE) (by rw[hsE.n];exact ce) hend
  ·intro j hj;rw[h.li j hj];have hjR:j<R.length:=by rw[hd.len];exact hj
   constructor
   ·intro hx hm;rw[←hE]at hm;have h1:=(dD.1 hm).2;have h2:=(bj.1 (hX j hx)).2;rw[h1]at h2;cases h2
   ·intro hm;rw[←hE]at hm;refine hall j (bj.2 ⟨hjR,?_⟩);cases hq:S.contains j with
    |true=>rfl
    |false=>exact absurd (dD.2 ⟨hjR,hq⟩) hm
  ·intro x hx;rw[←hE]at hx;rw[←hd.len];exact(dD.1 hx).1
 intro fuel
 induction fuel with
 |zero=>
  intro X listed a w h hX hI hl hs;have:=fw h.nd h.lt (by omega) e hel;exact absurd (hX e this) heN
 |succ fuel ih=>
  intro X listed a w h hX hI hl hs
  by_cases hall:∀i∈NL S R,i∈X
  ·exact fin (fuel+1) X listed a w h hX hI hl hs hall
  have ready_of:∀i,i<ops.size→i∉X→(∀j∈aF ops i,j∈X)→i∈Region.ready .any ops listed:=by
   intro i hi hm hw;rw[mem_ready];refine⟨?_,ops[i],by simp[hi],fun x hx hb=>?_⟩
   ·cases hc:listed.getD i true with
    |false=>rfl
    |true=>exact absurd ((h.li i hi).1 hc) hm
   ·have hw':x.on∈aF ops i:=by
     simp only[aF,Array.getElem?_eq_getElem hi,ik];exact List.mem_map.2 ⟨x,List.mem_filter.2 ⟨by simpa using hx,hb⟩,rfl⟩
    have hin:=hw _ hw';have:=(h.li x.on (h.lt _ hin)).2 hin;rw[Array.getD_eq_getD_getElem?]at this⊢;have hs:x.on<listed.size:=by rw[h.size];exact h.lt _ hin
    rw[Array.getElem?_eq_getElem hs]at this⊢;exact this
  by_cases hF:∃f∈NL S R,f∉X∧fW ops R f=true∧∀j∈aF ops f,j∈X
  ·obtain⟨f,hfN,hfX,hfl,hfw⟩:=hF;have hfs:f<ops.size:=by rw[←hd.len];exact(bj.1 hfN).1
   have hrd:=ready_of f hfs hfX hfw;obtain⟨h1,h2,o,ho,h3⟩:=h.next hrd;obtain⟨r,hr,hres⟩:=hd.res f o ho;have hfA:f∉A:=fun hA=>by
    obtain⟨d,sz,b,x,y,hra,_⟩:=hd.pa f hA;unfold fW at hfl;rw[ho,hra]at hfl;simp[ff.isFl]at hfl
   unfold fW at hfl;rw[ho,hr]at hfl;simp only[bA,Option.isNone_iff_eq_none,List.all_eq_true,List.mem_range]at hfl;obtain⟨⟨hg0,hfl⟩,hap⟩:=hfl;obtain⟨op,hop,hrop,hQ,hdst,hdl,⟨g,hat⟩,hget,hqq⟩:=uC hd h hX hfN hfA hr hres hfw hfX hs;have hstep:cZ P r (dy R A st V (kv (NL S R) f)) (V f):=by
    have h1:=hd.step f hfN;rw[oT hfA,show R.getD f default=r by simp[List.getD_eq_getElem?_getD,hr]]at h1;exact h1
   unfold cZ at hstep;rw[hg0]at hstep;have hq':=hqq hstep;rw[hrop]at hq' hfl;obtain⟨v,hv⟩:=jz hop hfl hat hq';have hgo:o.guard=none:=by
    have hres0:=hres;unfold db at hres0;simp only[oD,oB,ae]at hres0;obtain⟨_,_,_,_,_,_,hres0⟩:=hres0
    split at hres0
    ·assumption
    ·simp only[oB,oP,oS]at hres0;obtain⟨_,_,_,_,hres0⟩:=hres0;rw[←hres0]at hg0;cases hg0
   have hwt:Region.wanted o (yielded ops a.tmps)=true:=by simp[Region.wanted,hgo]
   have hnext:dH n0 S0 M0 w0 (dy R A st V (f::X)) (a.put o.dst v) w:=by
    have:=sB (Q:=fun _ _ _=>False) hd h hX hI hfN hfA ho hr hres hfw hfX hs;unfold wpOp at this;rw[ho]at this;simp only[hwt,if_true]at this;rcases this with h4|⟨_,a',w',h4⟩
    ·unfold Oper.wp at h4;rw[hv w]at h4;exact h4
    ·exact h4.elim
   refine wpAny_first ho (Region.noSelect_spec hns) (fun c a w hh=>absurd hh.1 (by simp)) fuel listed a w ?_ hrd (.inl ⟨hwt,hv⟩) (ih (f::X) _ _ w h1 (fun i hi=>(List.mem_cons.1 hi).elim (fun e=>e▸hfN) (hX i)) (yE hI fun hA=>absurd hA hfA) (by simp only[lK];omega) hnext);intro j oj hj hne hun hno;have hjs:=(Array.getElem?_eq_some_iff.1 hj).1;have:=hap j hjs;rw[hj]at this;simp only[Bool.or_eq_true,beq_iff_eq,hne,false_or,List.contains_eq_mem,decide_eq_true_eq]at this;rcases this with h4|h4|h4
   ·exact absurd ((h.li j hjs).2 (hfw j h4)) (by rw[hun];simp)
   ·simp only[aF,hj,ik]at h4;obtain⟨x,hx,hxe⟩:=List.mem_map.1 h4;obtain⟨hx1,hx2⟩:=List.mem_filter.1 hx;exact absurd hxe (hno x (by simpa using hx1) hx2)
   ·exact h4
  ·have eready:(∀j∈aF ops e,j∈X)→False:=by
    intro hw

    have hnf:∀m i,i∈NL S R→R.length-i≤m→fW ops R i=false→i∈X:=by
     intro m
     induction m with
     |zero=>intro i hi hm _;have:=(bj.1 hi).1;omega
     |succ m ihm=>
      intro i hi hm hfl;rcases hcov i hi with h1|h1|⟨k,hk,h1,h2,h3⟩
      ·rw[hfl]at h1;cases h1
      ·exact hw i h1
      ·rcases h2 with h2|h2|⟨j,hj,h4,h5,h6⟩
       ·exact h.closed k (ihm k hk (by omega) h2) i h3
       ·exact h.closed k (hw k h2) i h3
       ·exact h.closed k (h.closed j (ihm j hj (by omega) h5) k h6) i h3
    refine hall ?_;intro i
    induction i using Nat.strongRecOn with
    |ind i ihi=>
     intro hi;cases hfl:fW ops R i with
     |false=>exact hnf _ i hi (Nat.le_refl _) hfl
     |true=>
      refine Classical.byContradiction fun hne=>hF ⟨i,hi,hne,hfl,fun j hj=>ihi j (hd.acyc i j hj) (hd.nw i hi j hj)⟩
   refine⟨fun h0=>?_,fun i hi=>?_⟩
   ·exfalso;refine hall ?_;intro i
    induction i using Nat.strongRecOn with
    |ind i ihi=>
     intro hi;refine Classical.byContradiction fun hne=>?_;have:=ready_of i (by rw[←hd.len];exact(bj.1 hi).1) hne fun j hj=>ihi j (hd.acyc i j hj) (hd.nw i hi j hj);rw[h0]at this;cases this
   ·obtain⟨h1,h2,o,ho,h3⟩:=h.next hi;have his:=(Array.getElem?_eq_some_iff.1 ho).1;have hiN:i∈NL S R:=by
     have hiR:i<R.length:=by rw[hd.len];exact his
     refine bj.2 ⟨hiR,?_⟩;cases hq:S.contains i with
     |true=>rfl
     |false=>
      exfalso;have hm:i∈e::es:=by rw[←hE];exact dD.2 ⟨hiR,hq⟩
      rcases List.mem_cons.1 hm with rfl|hm
      ·exact eready h3
      ·obtain⟨q,hq1,hq2⟩:=List.mem_iff_getElem.1 hm;have hw:=(j6 hch).2 q (by simp;omega);have e1:(e::es)[q+1]'(by simp;omega)=i:=by simpa using hq2
       rw[e1]at hw;have hpre:(e::es)[q]'(by simp;omega)∈EL S R:=by rw[hE];exact List.getElem_mem _
       have h4:=(bj.1 (hX _ (h3 _ hw))).2;rw[(dD.1 hpre).2]at h4;cases h4
    obtain⟨r,hr,hres⟩:=hd.res i o ho
    by_cases hiA:i∈A
    ·obtain⟨k1,k2⟩:=Az hd h hX hI hiN hiA ho hr hres h3 h2 hs;refine wpOp_mono ?_ k1;intro a' w' hs';exact ih (i::X) _ a' w' h1 (fun j hj=>(List.mem_cons.1 hj).elim (fun e=>e▸hiN) (hX j)) k2 (by simp only[lK];omega) hs'
    ·refine wpOp_mono ?_ (sB hd h hX hI hiN hiA ho hr hres h3 h2 hs);intro a' w' hs';exact ih (i::X) _ a' w' h1 (fun j hj=>(List.mem_cons.1 hj).elim (fun e=>e▸hiN) (hX j)) (yE hI fun hA=>absurd hA hiA) (by simp only[lK];omega) hs'

theorem mw.symm{s s':St}(h:mw s s'):mw s' s:=⟨h.n.symm,fun t=>(h.lk t).symm,h.us.symm⟩
theorem mw.trans{s s' s'':St}(h:mw s s')(h':mw s' s''):mw s s'':=⟨h'.n.trans h.n,fun t=>(h'.lk t).trans (h.lk t),h'.us.trans h.us⟩
theorem mw.app{s s':St}(h:mw s s'){d:Option Nat}{v:Rs}:mw (dp s d v) (dp s' d v):=by
 unfold dp;cases d with
 |none=>exact⟨h.n,h.lk,h.us.append_left _⟩
 |some d=>
  refine⟨h.n,fun t=>?_,h.us.append_left _⟩
  show Ax.lk ((d,v.1)::s'.env) t=Ax.lk ((d,v.1)::s.env) t
  simp only[Ax.lk]
  split
  ·rfl
  ·exact h.lk t
theorem mw.pa{s s':St}{nn:Option Bool}{es:List D}{d0:D}(h:mw s s')(hk:(s.us.map (·.1)).Nodup)(hp:AM s d sz b x y nn es d0):AM s' d sz b x y nn es d0:=
 ⟨(h.lk x).trans hp.gx,(h.lk y).trans hp.gy,by rw[h.unit hk];exact hp.ux,by rw[h.unit hk];exact hp.uy,hp.ne,hp.pos,hp.fl,hp.ds,hp.b1,hp.b2,h.fresh hp.fr⟩
theorem mw.stepP{p:PO}{s s':St}{v:Rs}(h:mw s s')(hk:(s.us.map (·.1)).Nodup)(hs:jr P p s v):jr P p s' v:=by
 cases p with
 |q r=>exact h.step hk hs
 |a d sz b x y=>
  obtain⟨nn,es,d0,h1,h2⟩:=hs;exact⟨nn,es,d0,h.pa hk h1,h2⟩
theorem wX{k:Nat}:∀{us:List (Nat×U)},w7 k us=us.map fun z=>(z.1,if z.1=k then .own .jk else z.2)
 | []=>rfl
 |(i,u)::r=>by simp only[w7,lC,wX (us:=r)]
theorem tZ(hiA:i∈A)(t:Nat):gH R A (i::X) t=(gH R A X t||(ej R i).contains t):=by
 rw[Bool.eq_iff_iff,cD,Bool.or_eq_true,cD,List.contains_eq_mem,decide_eq_true_eq];constructor
 ·rintro⟨q,h1,h2,h3⟩;rcases List.mem_cons.1 h2 with rfl|h2
  ·exact .inr h3
  ·exact .inl ⟨q,h1,h2,h3⟩
 ·rintro(⟨q,h1,h2,h3⟩|h3)
  ·exact⟨q,h1,by simp[h2],h3⟩
  ·exact⟨i,hiA,by simp,h3⟩

theorem HE{s:St}{es:List D}{d0:D}(h:mw (dy R A st V X) s)(hiA:i∈A)(hdi:be R i=some d)(hV:V i=paR d sz es d0)(hxy:ej R i=[x,y])(hd:gH R A (i::X) d=false):
  mw (dy R A st V (i::X)) ⟨s.n,(d,.tr d)::(y,.any)::(x,.any)::s.env,(paR d sz es d0).2++w7 x (w7 y s.us)⟩:=by
 have e0:aA st (be R) V (i::X)=dp (aA st (be R) V X) (some d) (paR d sz es d0):=by simp only[aA];rw[hdi,hV]
 refine⟨?_,fun t=>?_,?_⟩
 ·rw[show(dy R A st V (i::X)).n=(aA st (be R) V (i::X)).n from rfl,ce,←ce (bD:=st) (D:=be R) (V:=V) (L:=X)];exact h.n
 ·have c2:∀(e:List (Nat×AV)),lk ((d,AV.tr d)::(y,.any)::(x,.any)::e) t=if d=t then .tr d else if y=t then .any else if x=t then .any else lk e t:=fun e=>rfl
  rw[c2]
  show _=lk (List.map _ _) t
  rw[eh,e0];have c1:lk (dp (aA st (be R) V X) (some d) (paR d sz es d0)).env t=if d=t then .tr d else lk (aA st (be R) V X).env t:=rfl
  rw[c1]
  by_cases e:d=t
  ·subst e;rw[if_pos rfl,if_pos rfl,hd]
   rfl
  ·rw[if_neg e,if_neg e,tZ hiA,hxy]
   by_cases ey:y=t
   ·subst ey;rw[if_pos rfl,if_pos (by simp)]
   ·by_cases ex:x=t
    ·subst ex;rw[if_neg ey,if_pos rfl,if_pos (by simp)]
    ·rw[if_neg ey,if_neg ex,h.lk t];have hct:[x,y].contains t=false:=by simp[Ne.symm ex,Ne.symm ey]
     rw[hct,Bool.or_false];exact eh
 ·show((paR d sz es d0).2++w7 x (w7 y s.us)).Perm (List.map (uw (gH R A (i::X))) (aA st (be R) V (i::X)).us)
  have e2:(aA st (be R) V (i::X)).us=(paR d sz es d0).2++(aA st (be R) V X).us:=by rw[e0];rfl
  rw[e2,List.map_append];have e3:(paR d sz es d0).2.map (uw (gH R A (i::X)))=(paR d sz es d0).2:=by
   simp only[paR,lC,lN,uw,hd]
   rfl
  rw[e3,wX,wX];refine List.Perm.append_left _ ?_;refine((h.us.map _).map _).trans ?_
  show((List.map _ (List.map _ (List.map (uw (gH R A X)) (aA st (be R) V X).us)))).Perm _
  rw[List.map_map,List.map_map];refine List.Perm.of_eq (List.map_congr_left ?_);rintro⟨k,u⟩ _;simp only[Function.comp,uw,tZ hiA,hxy]
  by_cases h1:gH R A X k=true
  ·simp[h1]
  ·by_cases ex:k=x
   ·subst ex;simp[h1]
   ·by_cases ey:k=y
    ·subst ey;simp[h1]
    ·simp[h1,ex,ey]

theorem Ha(hA:∀p∈A,∃d sz b x y,ig A R p=.a d sz b x y∧ej R p=[x,y]∧be R p=some d)(hpr:∀q∈A,∀t∈ej R q,∀j,be R j=some t→j<q):∀{N:List Nat} {rl:List Rs} {s s':St} {L:List Nat},N.Pairwise (· <·)→(∀j∈L,∀i∈N,j<i)→(∀i∈N,i<R.length)→EB P (N.map (ig A R)) rl s s'→mw (dy R A st V L) s→N.map V=rl→
  (s.us.map (·.1)).Nodup→so R A st V L→
  mw (dy R A st V (N.reverse++L)) s'∧(s'.us.map (·.1)).Nodup∧(∀(p:Nat)(hp:p<N.length),jr P (ig A R N[p]) (dy R A st V ((N.take p).reverse++L)) (V N[p]))∧
   (∀z∈s.env,z∈s'.env)∧∀i∈N,∀t,be R i=some t→(t,(V i).1)∈s'.env
 | [],rl,s,s',L,_,_,_,h,e,hV,hk,_=>by
  simp only[lN]at hV h;subst hV;simp only[EB]at h;subst h;exact⟨by simpa using e,hk,by simp,fun _ h=>h,by simp⟩
 |i::N,rl,s,s',L,hso,hLN,hlt,h,e,hV,hk,hI=>by
  simp only[lC]at hV h;subst hV;simp only[EB]at h;obtain⟨hst,hlx⟩:=h;rw[List.pairwise_cons]at hso;have keyL:((aA st (be R) V L).us.map (·.1)).Perm (s.us.map (·.1)):=by
   have h1:=e.us.map (·.1);rw[show(dy R A st V L).us.map (·.1)=(aA st (be R) V L).us.map (·.1)from me]at h1;exact h1.symm
  have hnd0:((aA st (be R) V L).us.map (·.1)).Nodup:=keyL.nodup_iff.2 hk;have hLN':∀j∈i::L,∀k∈N,j<k:=fun j hj k hkN=>by
   rcases List.mem_cons.1 hj with rfl|hj
   ·exact hso.1 k hkN
   ·exact hLN j hj k (by simp[hkN])
  have hus:∀{d:Nat},be R i=some d→gH R A L d=false:=fun {d} hdi=>by
   cases hu:gH R A L d with
   |false=>rfl
   |true=>
    obtain⟨q,hq,hqL,hqd⟩:=cD.1 hu;have h1:=hpr q hq d hqd i hdi;have h2:=hLN q hqL i (by simp);omega
  have hst':jr P (ig A R i) (dy R A st V L) (V i):=e.symm.stepP hk hst;have fin:∀{s1:St},AO (ig A R i) s (V i)=s1→mw (dy R A st V (i::L)) s1→(s1.us.map (·.1)).Nodup→so R A st V (i::L)→(∀z∈s.env,z∈s1.env)→(∀t,be R i=some t→(t,(V i).1)∈s1.env)→
    mw (dy R A st V ((i::N).reverse++L)) s'∧(s'.us.map (·.1)).Nodup∧(∀(p:Nat)(hp:p<(i::N).length),jr P (ig A R (i::N)[p]) (dy R A st V (((i::N).take p).reverse++L)) (V (i::N)[p]))∧
     (∀z∈s.env,z∈s'.env)∧∀j∈i::N,∀t,be R j=some t→(t,(V j).1)∈s'.env:=by
   intro s1 e1 q1 q2 q3 q4 q5;rw[e1]at hlx;obtain⟨r1,r2,r3,r4,r5⟩:=Ha hA hpr hso.2 hLN' (fun j hj=>hlt j (by simp[hj])) hlx q1 rfl q2 q3;refine⟨by simpa using r1,r2,fun p hp=>?_,fun z hz=>r4 z (q4 z hz),fun j hj t ht=>?_⟩
   ·cases p with
    |zero=>simpa using hst'
    |succ p=>simpa using r3 p (by simpa using hp)
   ·rcases List.mem_cons.1 hj with rfl|hj
    ·exact r4 _ (q5 t ht)
    ·exact r5 j hj t ht
  by_cases hiA:i∈A
  ·obtain⟨d,sz,b,x,y,hpo,hxy,hdi⟩:=hA i hiA;obtain⟨nn,es,d0,hB,hVi⟩:=jr.paR hpo hst;have hfr:=hB.fr;simp only[St.fresh,jJ,bU]at hfr;have hds:=cj hfr;have hxs:x∈s.us.map (·.1):=List.mem_map.2 ⟨_,ay hB.ux,rfl⟩;have hys:y∈s.us.map (·.1):=List.mem_map.2 ⟨_,ay hB.uy,rfl⟩;have hdu:gH R A (i::L) d=false:=by
    rw[tZ hiA,hus hdi,hxy];simp only[Bool.false_or,List.contains_eq_mem,decide_eq_false_iff_not,List.mem_cons,List.not_mem_nil,or_false,not_or];exact⟨fun e=>hds (e▸hxs),fun e=>hds (e▸hys)⟩
   have hnx:=HE e hiA hdi hVi hxy hdu;have e1:AO (ig A R i) s (V i)=⟨s.n,(d,.tr d)::(y,.any)::(x,.any)::s.env,(paR d sz es d0).2++w7 x (w7 y s.us)⟩:=by rw[hpo,hVi];rfl
   refine fin e1 hnx ?_ (yE hI fun _ k hkk=>?_) (fun z hz=>List.mem_cons_of_mem _ (List.mem_cons_of_mem _ (List.mem_cons_of_mem _ hz))) (fun t ht=>?_)
   ·show(List.map _ ((paR d sz es d0).2++w7 x (w7 y s.us))).Nodup
    rw[List.map_append,tL,tL]
    show(d::s.us.map (·.1)).Nodup
    exact List.nodup_cons.2 ⟨hds,hk⟩
   ·rw[hxy]at hkk;refine keyL.mem_iff.2 ?_;have:k=x∨k=y:=by simpa using hkk
    rcases this with rfl|rfl<;>assumption
   ·rw[hdi]at ht;injection ht with ht;subst ht;exact List.mem_cons.2 (.inl (by rw[hVi];rfl))
  ·have hpo:=oT (R:=R) hiA;have hil:i<R.length:=hlt i (by simp);have hdi:(R.getD i default).op.dst=be R i:=by simp[be,List.getD_eq_getElem?_getD,hil]
   have hnx:AO (ig A R i) s (V i)=dp s (be R i) (V i):=by rw[hpo];show dp s (R.getD i default).op.dst (V i)=_;rw[hdi]
   rw[hpo]at hst;have hfr:=A7 hst;have hn1:((dp s (be R i) (V i)).us.map (·.1)).Nodup:=by
    have e1:(dp s (be R i) (V i)).us=(V i).2++s.us:=by unfold dp;cases be R i<;>rfl
    rw[e1];exact fP hk hfr
   have hkN:((aA st (be R) V (i::L)).us.map (·.1)).Nodup:=by
    rw[np,List.map_append];have e1:(dp s (be R i) (V i)).us=(V i).2++s.us:=by unfold dp;cases be R i<;>rfl
    rw[e1,List.map_append]at hn1;exact(keyL.append_left _).nodup_iff.2 hn1
   refine fin hnx ((Bu hkN (fun q hq hqL d hdd hqd=>by have:=hus hdd;rw[cD.2 ⟨q,hq,hqL,hqd⟩]at this;cases this) hI hiA).symm.trans e.app) hn1 (yE hI fun h=>absurd h hiA) (fun z hz=>?_) (fun t ht=>?_)
   ·unfold dp;cases be R i with
    |none=>exact hz
    |some d=>exact List.mem_cons_of_mem _ hz
   ·unfold dp;rw[ht];exact List.mem_cons_self
end

def Gi(ops:Array Oper)(R:List RO)(i:Nat):Bool:=
 match R[i]? with
 |some r=>(match BT r with
  |some (_,_,_,x,y)=>(List.range R.length).any (fun j=>be R j==some x&&(aF ops i).contains j)&&(List.range R.length).any (fun j=>be R j==some y&&(aF ops i).contains j)
  |none=>false)
 |none=>false
def vH(ops:Array Oper)(R:List RO):List Nat:=(List.range R.length).foldl (fun acc i=>if(mI R i||Gi ops R i)&&(aF ops i).all (fun j=>acc.contains j)then i::acc else acc) []
def Dj(ops:Array Oper)(R:List RO)(S:List Nat):List Nat:=(NL S R).filter (Gi ops R)
def Bs(S A:List Nat)(ops:Array Oper)(R:List RO):Bool:=
 !A.isEmpty&&ua (R.filterMap (·.op.dst))&&(R.length==ops.size)&&Region.noSelect ops&&
 match EL S R with
 | []=>false
 | e :: es => gO ops (e :: es) && (A.all fun q => (ej R q).all fun t => (List.range R.length).all fun j => be R j != some t || (decide (j < q) && (aF ops q).contains j)) &&
   (List.range R.length).all fun i=>
   (aF ops i).all (· < i) && (!S.contains i || ((mI R i || A.contains i) && (aF ops i).all (fun j => S.contains j) && (match R[i]? with | some r => r.slots.all (ir ops R i) && (r.slots.all fun t => A.all fun q => !(ej R q).contains t || i == q) | none => true) &&
    (fW ops R i||(aF ops e).contains i||(List.range R.length).any fun k=>decide (i<k)&&S.contains k&&uE S ops R e k&&(aF ops k).contains i)))
def wj(ops:Array Oper)(R:List RO):Bool:=Bs (vH ops R) (Dj ops R (vH ops R)) ops R
def A6(ops:Array Oper)(R:List RO):List PO:=(NL (vH ops R) R).map (ig (Dj ops R (vH ops R)) R)
def DH(ops:Array Oper)(R:List RO):List RO:=(EL (vH ops R) R).map fun i=>R.getD i default

theorem pR{A:List Nat}{R:List RO}{q k:Nat}(hq:q∈A)(hk:k∈ej R q):∀{N:List Nat},q∈N→k∈ra (N.map (ig A R))
 |j::N,h=>by
  by_cases e:j=q
  ·subst e;have:∃r d sz b x y,R[j]?=some r∧BT r=some (d,sz,b,x,y):=by
    unfold ej at hk
    split at hk
    ·next r hr=>
     split at hk
     ·next d sz b x y hp=>exact⟨r,_,_,_,x,y,hr,hp⟩
     ·cases hk
    ·cases hk
   obtain⟨r,d,sz,b,x,y,hr,hp⟩:=this;have hg:R.getD j default=r:=by simp[List.getD_eq_getElem?_getD,hr]
   have h1:ig A R j=.a d sz b x y:=by
    unfold ig;rw[if_pos (by simpa using hq),hg,hp]
   have h2:ej R j=[x,y]:=by unfold ej;rw[hr];simp only;rw[hp]
   rw[h2]at hk;simp only[lC,h1,ra];have:k=x∨k=y:=by simpa using hk
   rcases this with rfl|rfl<;>simp
  ·have h':q∈N:=by rcases List.mem_cons.1 h with h|h;exact absurd h.symm e;exact h
   have ih:=pR hq hk h';simp only[lC];cases ig A R j with
   |q r=>exact ih
   |a d sz b x y=>exact List.mem_cons_of_mem _ (List.mem_cons_of_mem _ ih)
theorem qM{C:List Nat}:∀{env:List (Nat×AV)},pN C env=true→∀z∈env,∀k∈C,z.1≠k→z.2.refs k=false
 |(t,v)::r,h,z,hz,k,hk,hne=>by
  simp only[pN,bA,List.all_eq_true]at h;rcases List.mem_cons.1 hz with rfl|hz
  ·have:=h.1 k hk;simp only[Bool.or_eq_true,beq_iff_eq,Bool.not_eq_true']at this;rcases this with e|e
   ·exact absurd e.symm hne
   ·exact e
  ·exact qM h.2 z hz k hk hne
theorem qL{C:List Nat}{k:Nat}(hk:k∈C):∀{l:List AV},tW C l=true→gI (AV.refs k) l=l
 | [],_=>rfl
 |v::r,h=>by
  simp only[tW,bA,List.all_eq_true,Bool.not_eq_true']at h;simp only[gI];rw[h.1 k hk,qL hk h.2]
  rfl
theorem qT{C:List Nat}{k:Nat}(hk:k∈C):∀{us:List (Nat×U)},kO C us=true→∀z∈us,z.2.kill (AV.refs k)=z.2
 |(i,u)::r,h,z,hz=>by
  rcases List.mem_cons.1 hz with rfl|hz
  ·cases u with
   |bx sz items=>
    simp only[kO,bA]at h;simp only[U.kill];rw[qL hk h.1]
   |own d=>rfl
   |ar ow nn sz es=>rfl
   |sb T E s=>rfl
  ·refine qT hk ?_ z hz;cases u with
   |bx sz items=>simp only[kO,bA]at h;exact h.2
   |own d=>exact h
   |ar ow nn sz es=>exact h
   |sb T E s=>exact h

theorem xj{ops:Array Oper}{R:List RO}{st:St}{K:Exit→St→Prop}{id:Nat}{a:Act}{w:World}(hm:P.follows .mixedOrders=true)(hd:wj ops R=true)
  (hR:ops.toList.mapM (db P wv st.n ops)=some R) (hs:dH n0 S0 M0 w0 st a w) (hq:nJ P (A6 ops R) st (kP P (ra (A6 ops R)) (DH ops R) K)):(Code.region id ops true).wp P (fX n0 S0 M0 w0 st.n K) a w:=by
 refine wp_mono (Q:=fun e a w=>e=.normal∧fX n0 S0 M0 w0 st.n K e a w) (wp_region_any hm ?_) (fun e a w h=>h.2);unfold wj at hd;unfold A6 DH at hq;generalize hSd:vH ops R=S at hd hq;generalize hAd:Dj ops R S=A at hd hq;unfold Bs at hd;simp only[bA,beq_iff_eq]at hd;obtain⟨⟨⟨⟨_,d1⟩,d2⟩,d3⟩,hd⟩:=hd;cases hE:EL S R with
 |nil=>rw[hE]at hd;cases hd
 |cons e es=>
  rw[hE]at hd hq;simp only[bA,List.all_eq_true,List.mem_range,decide_eq_true_eq]at hd;obtain⟨⟨hch,hpr⟩,hall⟩:=hd;have lt_of:∀{i:Nat} {r:RO},R[i]?=some r→i<R.length:=fun h=>(List.getElem?_eq_some_iff.1 h).1;have hAm:∀p∈A,p∈NL S R∧Gi ops R p=true:=fun p hp=>by rw[←hAd]at hp;exact List.mem_filter.1 hp
  have hpa:∀p∈A,∃d sz b x y,R[p]?=some ⟨none,.app d sz b (.t x) (.t y)⟩∧ig A R p=.a d sz b x y∧ej R p=[x,y]:=fun p hp=>by
   have h1:=(hAm p hp).2;unfold Gi at h1
   split at h1
   ·next r hr=>
    split at h1
    ·next d sz b x y hpo=>
     have hrr:=CR hpo;subst hrr;refine⟨d,sz,b,x,y,hr,?_,?_⟩
     ·unfold ig;rw[if_pos (by simpa using hp),show R.getD p default=⟨none,.app d sz b (.t x) (.t y)⟩by simp only[List.getD_eq_getElem?_getD,hr];rfl,hpo]
     ·unfold ej;rw[hr];simp only;rw[hpo]
    ·cases h1
   ·cases h1
  have hprod:∀q∈A,∀t∈ej R q,∀j,be R j=some t→j<q∧j∈aF ops q:=fun q hq t ht j hj=>by
   have hjl:j<R.length:=by
    unfold be at hj;simp only[oB]at hj;obtain⟨r,hr,_⟩:=hj;exact lt_of hr
   have:=hpr q hq t ht j hjl;rw[hj]at this;simpa using this
  have hwall:∀i,∀j∈aF ops i,j<i:=by
   intro i j hj
   by_cases hi:i<R.length
   ·exact(hall i hi).1 j hj
   ·have:ops[i]?=none:=by simp;omega
    simp[aF,this]at hj
  have hN:∀i∈NL S R,(((mI R i=true∨A.contains i=true)∧(aF ops i).all (fun j=>S.contains j)=true)∧(match R[i]? with|some r=>r.slots.all (ir ops R i)&&(r.slots.all fun t=>A.all fun q=>!(ej R q).contains t||i==q)|none=>true)=true)∧
    (fW ops R i||(aF ops e).contains i||(List.range R.length).any fun k=>decide (i<k)&&S.contains k&&uE S ops R e k&&(aF ops k).contains i)=true:=by
   intro i hi;obtain⟨h1,h2⟩:=bj.1 hi;have:=(hall i h1).2;rw[h2]at this;simpa only[bT,Bool.false_or,bA,Bool.or_eq_true]using this
  have hNQ:∀p∈(NL S R).map (ig A R),p.isQ=true:=by
   intro p hp;obtain⟨i,hi,rfl⟩:=List.mem_map.1 hp
   by_cases hiA:i∈A
   ·obtain⟨d,sz,b,x,y,_,h2,_⟩:=hpa i hiA;rw[h2];rfl
   ·rw[oT hiA];have h3:=(hN i hi).1.1.1;rcases h3 with h3|h3
    ·have hl:=(bj.1 hi).1;simpa[mI,PO.isQ,List.getD_eq_getElem?_getD,hl]using h3
    ·exact absurd (by simpa using h3) hiA
  obtain⟨rl,s',hx,hK,hl⟩:=nA hNQ hq;obtain⟨g,hu,hv⟩:=hs.gh;have hnd:=gP (fv S R);have hV:(NL S R).map (fun i=>rl.getD ((NL S R).idxOf i) (.any,[]))=rl:=by
   apply List.ext_getElem
   ·simp at hl;simp[hl]
   ·intro p h1 h2;have hp:p<(NL S R).length:=by simpa using h1
    simp[List.getD_eq_getElem?_getD,List.Nodup.idxOf_getElem hnd p hp,h2]
  generalize hVd:(fun i=>rl.getD ((NL S R).idxOf i) ((.any,[]):Rs))=V at hV;have hst0:mw (dy R A st V []) st:=by
   have hf:gH R A []=fun _=>false:=by funext t;simp[gH]
   refine⟨rfl,fun t=>?_,?_⟩
   ·show _=lk (List.map _ _) t
    rw[eh,hf];rfl
   ·show st.us.Perm (st.us.map (uw (gH R A [])))
    rw[hf,show(uw fun _=>false)=(fun z=>z)from by funext z;rfl,List.map_id']
  obtain⟨r1,r2,r3,r4,r5⟩:=Ha (fun p hp=>by
    obtain⟨d,sz,b,x,y,q1,q2,q3⟩:=hpa p hp;exact⟨d,sz,b,x,y,q2,q3,by simp[be,q1,ff.dst]⟩) (fun q hq t ht j hj=>(hprod q hq t ht j hj).1) (fv S R) (by simp) (fun i hi=>(bj.1 hi).1) hx hst0 hV hu.keys (fun q _ h=>by cases h)
  rw[List.append_nil]at r1;have hkeys:((aA st (be R) V (NL S R).reverse).us.map (·.1)).Nodup:=by
   have h1:=r1.us.map (·.1);rw[show(dy R A st V (NL S R).reverse).us.map (·.1)=(aA st (be R) V (NL S R).reverse).us.map (·.1)from me]at h1;exact h1.nodup_iff.1 r2
  have hstep:∀i∈NL S R,jr P (ig A R i) (dy R A st V (kv (NL S R) i)) (V i):=fun i hi=>by
   obtain⟨p,hp,rfl⟩:=List.mem_iff_getElem.1 hi;have:=r3 p hp;rw[List.append_nil,tj (fv S R) p hp]at this;exact this
  have hD:hH P wv ops R st V S (NL S R) A:=by
   refine⟨d2,?_,oL (ii d1),hwall,fun i=>bj,fun i hi hiA=>?_,fun p hp=>(hAm p hp).1,hnd,?_,hpa,?_,?_,hprod,hstep,hkeys,?_,?_⟩
   ·intro i o ho;exact io hR i o (by simpa using ho)
   ·rcases(hN i hi).1.1.1 with h3|h3
    ·exact h3
    ·exact absurd (by simpa using h3) hiA
   ·intro i hi j hj;have h1:=(hN i hi).1.1.2;rw[List.all_eq_true]at h1;have h2:=hwall i j hj;have h3:=(bj.1 hi).1;exact bj.2 ⟨by omega,h1 j hj⟩
   ·intro i r t hi hr ht j hj;have h2:=(hN i hi).1.2;rw[hr]at h2;simp only[bA,List.all_eq_true]at h2;have hs:=h2.1 t ht;unfold ir at hs;simp only[List.all_eq_true,List.mem_range]at hs;simp only[be,oB]at hj;obtain⟨x,hx,hd⟩:=hj;have:=hs j (lt_of hx);rw[hx]at this;simpa[hd]using this
   ·intro i r t hi hr ht q hq hqt;have h2:=(hN i hi).1.2;rw[hr]at h2;simp only[bA,List.all_eq_true]at h2;have hs:=h2.2 t ht q hq;simpa[hqt]using hs
   ·intro q hq k hk;have hku:=pR hq hk (hAm q hq).1;have hce:=qM hK.1.1;exact⟨fun z hz hne=>hce z (r4 z hz) k hku hne,fun i hi t ht hne=>hce (t,(V i).1) (r5 i hi t ht) k hku hne⟩
   ·rintro q hq k hk ⟨j,u⟩ hju;have hku:=pR hq hk (hAm q hq).1
    by_cases hj:gH R A (NL S R).reverse j=true
    ·obtain⟨q',hq',hqN,hjq⟩:=cD.1 hj;obtain⟨d,sz,b,x,y,q1,q2,q3⟩:=hpa q' hq';obtain⟨nn,es',d0,hB,_⟩:=jr.paR q2 (hstep q' (hAm q' hq').1);have full:∀{j':Nat} {v:U},(j',v)∈(dy R A st V (kv (NL S R) q')).us→j'∈ej R q'→(j',v)∈(aA st (be R) V (NL S R).reverse).us:=fun {j'} {v} h1 h2=>by
      obtain⟨v',m1,e1⟩:=iS.1 h1;have hno:gH R A (kv (NL S R) q') j'=false:=by
       cases hu:gH R A (kv (NL S R) q') j' with
       |false=>rfl
       |true=>
        obtain⟨q2',h3,h4,h5⟩:=cD.1 hu;have hts:j'∈(⟨none,.app d sz b (.t x) (.t y)⟩:RO).slots:=by rw[q3]at h2;exact lW.2 (by simpa using h2)
        have h6:=(hN q' (hAm q' hq').1).1.2;rw[q1]at h6;simp only[bA,List.all_eq_true]at h6;have h7:=h6.2 j' hts q2' h3;have h8:q'=q2':=by simpa[h5]using h7
        have h9:=(fK.1 h4).2;omega
      rw[hno]at e1;have e2:v=v':=by simpa using e1
      rw[e2];exact(dh hnd hkeys (Fx hnd) (fun j hj=>(fK.1 hj).1)).2 _ m1
     rw[q3]at hjq;have:j=x∨j=y:=by simpa using hjq
     rcases this with rfl|rfl
     ·have h1:=ck hkeys (full (ay hB.ux) (by rw[q3];simp));rw[ck hkeys hju]at h1;injection h1 with h1;rw[h1];rfl
     ·have h1:=ck hkeys (full (ay hB.uy) (by rw[q3];simp));rw[ck hkeys hju]at h1;injection h1 with h1;rw[h1];rfl
    ·have h1:(j,u)∈(dy R A st V (NL S R).reverse).us:=iS.2 ⟨u,hju,by rw[if_neg hj]⟩;exact qT hku hK.1.2 _ (r1.us.mem_iff.2 h1)
  have hc:eo P ops R [] (Array.replicate ops.size false):=⟨List.nodup_nil,by simp,by simp,by simp,fun j hj=>by simp[Array.getD_eq_getD_getElem?,hj]⟩;refine zL hD r1 hE hch d3 ?_ hK.2 ops.size [] _ a _ hc (by simp) (fun q _ h=>by cases h) (by simp) ?_
  ·intro i hi;have:=(hN i hi).2;simp only[uE,Bool.or_eq_true,List.contains_eq_mem,decide_eq_true_eq,List.any_eq_true,List.mem_range,bA,Bool.not_eq_true']at this;rcases this with(h1|h1)|⟨k,hk,⟨⟨h1,h2⟩,h3⟩,h4⟩
   ·exact .inl h1
   ·exact .inr (.inl h1)
   ·refine .inr (.inr ⟨k,bj.2 ⟨hk,by simpa using h2⟩,h1,?_,h4⟩);rcases h3 with(h3|h3)|⟨j,hj,⟨⟨q1,q2⟩,q3⟩,q4⟩
    ·exact .inl h3
    ·exact .inr (.inl h3)
    ·exact .inr (.inr ⟨j,bj.2 ⟨hj,by simpa using q2⟩,q1,q3,q4⟩)
  ·have h0:dH n0 S0 M0 w0 (dy R A st V []) a w:=hs.eqS hst0.symm;exact⟨h0.ms,h0.dfr,h0.tm,h0.base,h0.os,h0.tape,h0.output,h0.size,h0.old,h0.gh⟩
end Go.Ax
namespace Go.Ax

variable {P : Program} {wv : Wv} {n0 : Nat} {S0 M0 : Nat → Prop} {w0 : World}

def jO(P:Program)(wv:Wv)(n:Nat):Code→Option RC
 |.skip=>some .skip
 |.region _ ops draw=>do
  let R←ops.toList.mapM (db P wv n ops)
  if(!draw||mN ops R)=true then pure (.reg draw R)
  else if vW ops R=true then pure (.reg draw (IV ops R))
  else if(draw&&vV ops R)=true then pure (.regA R (D8 (aF ops) R.length R.length []))
  else if(draw&&wT ops R)=true then pure (.regT (I5 ops R) (Jr ops R))
  else if(draw&&wj ops R)=true then pure (.regP (A6 ops R) (DH ops R))
  else none
 |.seq a b=>do pure (.seq (←jO P wv n a) (←jO P wv n b))
 |.cond c a b=>do pure (.cond (←aU P 0 c) (←jO P wv n a) (←jO P wv n b))
 |.block id c=>do pure (.blk id (←jO P wv n c))
 |.loop c=>do pure (.loop (←jO P wv n c))
 |.exit id=>some (.exit id)
 |.ret=>some .ret
 |c=>some (.other c)

theorem lY(hm:P.follows .mixedOrders=true):∀(c:Code)(rc:RC)(st:St)(K:Exit→St→Prop)(a:Act)(w:World),jO P wv st.n c=some rc→dH n0 S0 M0 w0 st a w→jD P rc st K→
  c.wp P (fX n0 S0 M0 w0 st.n K) a w:=by
 intro c
 induction c with
 |skip=>
  intro rc st K a w hr hs hq;simp only[jO,oS]at hr;subst hr;exact wp_skip ⟨st,rfl,hq,hs⟩
 |region id ops draw=>
  intro rc st K a w hr hs hq;simp only[jO,oD,oB]at hr;obtain⟨R,hR,hr⟩:=hr
  split at hr
  ·next hd=>
   simp only[oP,oS]at hr;subst hr;cases draw with
   |true=>exact zZ hm (by simpa using hd) hR hs hq
   |false=>
    refine wp_region ?_;have:=qW (P:=P) (ops:=ops) (K:=K) ops.toList R 0 st a w (by simp) hR hs hq;simpa[List.range_eq_range']using this
  ·next hd=>
   split at hr
   ·next hd2=>
    simp only[oP,oS]at hr;subst hr;cases draw with
    |true=>exact yy hm hd2 hR hs hq
    |false=>simp at hd
   ·split at hr
    ·next hd4=>
     simp only[oP,oS]at hr;subst hr;simp only[bA]at hd4;obtain⟨rfl,hd4⟩:=hd4;exact xG hm hd4 hR hs hq
    ·split at hr
     ·next hd5=>
      simp only[oP,oS]at hr;subst hr;simp only[bA]at hd5;obtain⟨rfl,hd5⟩:=hd5;exact yz hm hd5 hR hs hq
     ·split at hr
      ·next hd6=>
       simp only[oP,oS]at hr;subst hr;simp only[bA]at hd6;obtain⟨rfl,hd6⟩:=hd6;exact xj hm hd6 hR hs hq
      ·cases hr
 |seq x y ihx ihy=>
  intro rc st K a w hr hs hq;simp only[jO,oD,oB,oP,oS]at hr;obtain⟨x',hx,y',hy,rfl⟩:=hr;refine wp_seq (wp_mono (ihx x' st _ a w hx hs hq) ?_);rintro e a1 w1 ⟨s1,hn,hk,hs1⟩;cases e with
  |normal=>
   have:=ihy y' s1 K a1 w1 (by rw[hn];exact hy) hs1 hk;rw[hn]at this;exact this
  |exit i=>exact⟨s1,hn,hk,hs1⟩
  |goto l=>exact⟨s1,hn,hk,hs1⟩
  |ret=>exact⟨s1,hn,hk,hs1⟩
  |panic c=>exact⟨s1,hn,hk,hs1⟩
  |outgrown=>exact⟨s1,hn,hk,hs1⟩
 |cond x p q ihp ihq=>
  intro rc st K a w hr hs hq;simp only[jO,oD,oB,oP,oS]at hr;obtain⟨X,hX,p',hp,q',hq',rfl⟩:=hr;obtain⟨g,hu,hv⟩:=hs.gh;have he:=xv hv hX;simp only[jD]at hq;unfold mD at hq
  split at hq
  ·next tk t hc=>
   rw[hc]at he;have hval:=c9 he;refine wp_cond_split hval (fun e=>ihp p' st K a w hp hs (hq.1 e)) (fun e=>ihq q' st K a w hq' hs (hq.2 e))
  ·exact hq.elim
 |block id c ih=>
  intro rc st K a w hr hs hq;simp only[jO,oD,oB,oP,oS]at hr;obtain⟨c',hc,rfl⟩:=hr;refine wp_block (wp_mono (ih c' st _ a w hc hs hq) ?_);rintro e a1 w1 ⟨s1,hn,hk,hs1⟩;cases e with
  |exit i=>
   simp only[xy]at hk;simp only[Exit.inBlock]
   split
   ·next h=>rw[if_pos h]at hk;exact⟨s1,hn,hk,hs1⟩
   ·next h=>rw[if_neg h]at hk;exact⟨s1,hn,hk,hs1⟩
  |normal=>exact⟨s1,hn,hk,hs1⟩
  |goto l=>exact⟨s1,hn,hk,hs1⟩
  |ret=>exact⟨s1,hn,hk,hs1⟩
  |panic c=>exact⟨s1,hn,hk,hs1⟩
  |outgrown=>exact⟨s1,hn,hk,hs1⟩
 |loop c ih=>
  intro rc st K a w hr hs hq;simp only[jO,oD,oB,oP,oS]at hr;obtain⟨c',hc,rfl⟩:=hr;obtain⟨I,⟨m0,s,hE,hI⟩,hround⟩:=hq;have tmn:∀{s:St} {a:Act} {w:World} {n:Nat},dH n0 S0 M0 w0 s a w→a.tmps.size=n→s.n=n:=fun h e=>h.tm.symm.trans e;refine wp_loop_ghost (fun m a w=>∃s,I m s∧s.n=st.n∧dH n0 S0 M0 w0 s a w) m0 ⟨s,hI,tmn (hE _ _ _ _ _ _ hs) hs.tm,hE _ _ _ _ _ _ hs⟩ ?_;rintro m a1 w1 ⟨s1,h1,hn1,hs1⟩;have:=ih c' s1 _ a1 w1 (by rw[hn1];exact hc) hs1 (hround m s1 h1);rw[hn1]at this;refine wp_mono this ?_;rintro e a2 w2 ⟨s2,hn,hk,hs2⟩;cases e with
  |normal=>
   obtain⟨m',s3,h3,h4,h5⟩:=hk;exact⟨m',h5,s3,h4,tmn (h3 _ _ _ _ _ _ hs2) (hs2.tm.trans hn),h3 _ _ _ _ _ _ hs2⟩
  |exit i=>exact⟨s2,hn,hk,hs2⟩
  |goto l=>exact⟨s2,hn,hk,hs2⟩
  |ret=>exact⟨s2,hn,hk,hs2⟩
  |panic c=>exact⟨s2,hn,hk,hs2⟩
  |outgrown=>exact⟨s2,hn,hk,hs2⟩
 |exit id=>
  intro rc st K a w hr hs hq;simp only[jO,oS]at hr;subst hr;exact wp_exit ⟨st,rfl,hq,hs⟩
 |ret=>
  intro rc st K a w hr hs hq;simp only[jO,oS]at hr;subst hr;exact wp_ret ⟨st,rfl,hq,hs⟩
 |_=>
  intro rc st K a w hr hs hq;simp only[jO,oS]at hr;subst hr;exact hq.elim

end Go.Ax
namespace Go.Ax

variable {P : Program} {wv : Wv} {n0 : Nat} {S0 M0 : Nat → Prop} {w0 : World}

def jH:Nat→List D→List (Nat×AV)
 |_,[]=>[]
 |i,d::ds=>(i,.im none d)::jH (i+1) ds
def bD(n:Nat)(ds:List D):St:=⟨n,jH 0 ds,[]⟩

mutual

def D.bd:D→Prop
 |.ag ds=>D.bdL ds
 |.ls _ sz ds=>ds.length≤aT∧(∀d∈ds,d.size=sz)∧D.bdL ds
 |.pt d _=>d.bd
 |.lc _ _ d=>d.bd
 |_=>True
def D.bdL:List D→Prop
 | []=>True
 |d::ds=>d.bd∧D.bdL ds
end

mutual
theorem aW.bd{h:aE}:∀{d F cs},aW h d F cs→d.bd
 |.sc _,_,_,_=>by simp[D.bd]
 |.jk,_,_,_=>by simp[D.bd]
 |.fn _ _,_,_,_=>by simp[D.bd]
 |.ag ds,_,_,hr=>by simp only[aW]at hr;simp only[D.bd];exact aK.bd hr.2
 |.ls _ _ ds,_,_,hr=>by
  simp only[aW]at hr;simp only[D.bd];rcases hr with⟨_,_,rfl,_⟩|⟨b,off,cap,c,e,fr,F',_,_,_,_,h1,_,_,h2,h3⟩
  ·simp[D.bdL]
  ·exact⟨h1,h2,aK.bd h3⟩
 |.pt _ _,_,_,hr=>by
  simp only[aW]at hr;obtain⟨b,off,c,e,fr,F',_,_,_,_,_,h⟩:=hr;simp only[D.bd];exact aW.bd h
 |.lc _ _ _,_,_,hr=>by
  simp only[aW]at hr;simp only[D.bd];exact aW.bd hr.2
theorem aK.bd{h:aE}:∀{ds F cs},aK h ds F cs→D.bdL ds
 | [],_,_,_=>by simp[D.bdL]
 |d::ds,_,_,hr=>by
  simp only[aK]at hr;obtain⟨F1,F2,c1,c2,rfl,rfl,h1,h2⟩:=hr;simp only[D.bdL];exact⟨aW.bd h1,aK.bd h2⟩
end

theorem wI{h:aE}{old:Nat→Prop}:∀{ds:List D} {vs:List Value},bY h old ds vs→D.bdL ds
 | [],_,_=>by simp[D.bdL]
 |d::ds,vs,hr=>by
  simp only[bY]at hr;obtain⟨v,r,F,rfl,h1,_,_,h2⟩:=hr;simp only[D.bdL];exact⟨h1.bd,wI h2⟩

theorem xX{h:aE}{old:Nat→Prop}:∀{ds:List D} {vs:List Value},bY h old ds vs→vs.length=ds.length
 | [],vs,hr=>by simp only[bY]at hr;simp[hr]
 |d::ds,vs,hr=>by
  simp only[bY]at hr;obtain⟨v,r,F,rfl,_,_,_,h2⟩:=hr;simp[xX h2]

theorem ya{h:aE}{old:Nat→Prop}{us:List (Nat×U)}{g:Gh}(hg:∀b,b<h.size→old b→g.Sh b):∀{ds:List D} {vs:List Value} (i:Nat),bY h old ds vs→∀t,
  (∀d,lk (jH i ds) t=d→d=.any∨∃v,vs[t-i]?=some v∧i≤t∧ab h us g d v)
 | [],_,i,_,t=>by intro d hd;simp[jH,lk]at hd;exact .inl hd.symm
 |d::ds,vs,i,hr,t=>by
  simp only[bY]at hr;obtain⟨v,r,F,rfl,h1,h2,h3,h4⟩:=hr;intro e he;simp only[jH,lk]at he
  split at he
  ·next hi=>
   subst hi;subst he;exact .inr ⟨v,by simp,Nat.le_refl _,by simp only[ab];exact⟨F,h1,h2,fun b hb=>.inl (hg b (h1.lt b hb) (h3 b hb))⟩⟩
  ·next hi=>
   rcases ya hg (i+1) h4 t e he with h|⟨v',hv,hle,hr⟩
   ·exact .inl h
   ·refine .inr ⟨v',?_,by omega,hr⟩;rw[show t-i=(t-(i+1))+1 by omega];simpa using hv

theorem BU{w:World}{old:Nat→Prop}{ds:List D}{vs:List Value}{n:Nat}(ha:bY w.heap old ds vs)(hn:ds.length≤n):
  dH w.heap.size old (fun _=>False) w (bD n ds) {tmps:=vs.toArray++Array.replicate (n-vs.toArray.size) undef,defers:=[]} w:=by
 have hl:=xX ha;refine⟨fun _ _ h=>h.elim,rfl,by simp[bD];omega,rfl,rfl,rfl,rfl,Nat.le_refl _,fun _ _ _=>rfl,?_⟩
 let g:Gh:=⟨fun _=>none,fun _=>[],fun _=>undef,fun _=>0,fun b=>b<w.heap.size∧old b⟩
 refine⟨g,⟨by simp[bD],by simp[bD,fp],by simp[bD,fp],by simp[bD,fp],fun _ _=>rfl,fun b hb=>⟨hb.1,fun _=>hb.2,by simp[bD,fp]⟩,by simp[bD],by simp[bD,fp],by intro k v _ h;simp[bD]at h⟩,fun t=>?_⟩;rcases ya (us:=[]) (g:=g) (fun b h1 h2=>⟨h1,h2⟩) 0 ha t _ rfl with h|⟨v,hv,_,hr⟩
 ·simp only[bD];rw[h];simp[ab]
 ·have hlt:t<vs.length:=(List.getElem?_eq_some_iff.1 hv).1;have e:(vs.toArray++Array.replicate (n-vs.toArray.size) undef).getD t undef=v:=by
   rw[Array.getD_eq_getD_getElem?,Array.getElem?_append_left (by simpa using hlt)];simp at hv;simp[hv]
  rw[e];exact hr

inductive RV where
 |t (n:Nat)
 |c (n sz:Nat) (agg:Bool)

def sG(P:Program):ResultVar→Option RV
 |.tmp t=>some (.t t)
 |.cell a t=>do let s←dv P t;let g←ke P t;guard ((g||s==1)=true);pure (.c a s g)

def JN(st:St)(x:RV)(k:AV→Prop):Prop:=
 match x with
 |.t n=>k (st.get n)
 |.c n sz agg=>vF (st.get n) st.unit agg sz (fun av _=>k av)
def nI(st:St):List RV→(List AV→Prop)→Prop
 | [],k=>k []
 |x::xs,k=>JN st x fun av=>nI st xs fun avs=>k (av::avs)

def ER(d:D)(k:St→Prop)(own:Bool)(d':D)(st':St):Prop:=own=true∧d'.Le d∧k st'
def wF(d:D)(k:St→Prop)(_own:Bool)(d':D)(st':St):Prop:=d'.Le d∧k st'

def gd(st:St)(v:AV)(k:KT):Prop:=
 match v with
 |.vb i len=>cp 12 st (.vb i len) k
 |v=>bo st v k
theorem vJ:w4 (n0:=n0) (S0:=S0) (M0:=M0) gd:=by
 intro _ _ _ _ h0 av _ _ _ _ T hr hk;cases av with
 |vb i len=>exact ju 12 h0 T hr hk
 |_=>exact fR h0 T hr hk

def sh1(un:Nat→Option U):AV→Option D
 |.im none d=>some d
 |.im (some _) d=>if d.noPtr=true then some d else none
 |.vb id len=>match un id with|some (.bx sz items)=>if len=items.length then(match nj sz items with|some ds=>some (.ls (some false) sz ds)|none=>none)else none|_=>none
 |_=>none
def AV.isVb:AV→Bool
 |.vb _ _=>true
 |_=>false
def E4(q:Option D)(k:D→Prop):Prop:=match q with|some d=>k d|none=>False
def kw(st:St)(a:AV)(k:D→St→Prop):Prop:=
 match a with
 |.vb i len=>E4 (sh1 st.unit (.vb i len)) fun d=>k d (st.del i)
 |a=>E4 (sh1 st.unit a) fun d=>k d st
def oW(st:St):List AV→(List D→St→Prop)→Prop
 | [],k=>k [] st
 |a::r,k=>kw st a fun d st1=>oW st1 r fun ds st2=>k (d::ds) st2
def xH(d:D)(k:St→Prop)(ds:List D)(st:St):Prop:=E4 (GH ds) fun d'=>d'.Le d∧k st
def om(st:St)(av:AV)(d:D)(k:St→Prop):Prop:=
 match av with
 |.sg vs=>if vs.any AV.isVb=true then oW st vs (xH d k)else bo st (.sg vs) (wF d k)
 |.vb i len=>kw st (.vb i len) fun d' st'=>d'.Le d∧k st'
 |av=>bo st av (wF d k)
def DG(st:St)(av:AV)(r:gz)(k:St→Prop):Prop:=
 match r with
 |.own d=>gd st av (ER d k)
 |.sh d=>om st av d k
 |_=>False
def lI:List AV→List gz→St→Prop
 | [],[],_=>True
 |av::avs,r::rs,st=>DG st av r (lI avs rs)
 |_,_,_=>False
def zw(u:Option U)(sz len:Nat)(es:List D):Prop:=match u with|some (.ar true nn sz' es')=>nn=some false∧sz'=sz∧es'=es∧len=es.length|_=>False
def FU(un:Nat→Option U)(sz:Nat)(es:List D):List AV→Prop
 | [.sm id 0 len]=>zw (un id) sz len es
 |_=>False
def vA(u:Option U)(d:D):Prop:=match u with|some (.ar false _ _ es)=>es=[d]|_=>False
def FM(un:Nat→Option U)(d:D):List AV→Prop
 | [.pw id 0 0]=>vA (un id) d
 |_=>False
def pr(xs:List RV)(st:St)(r:gz)(avs:List AV):Prop:=
 match r with
 |.tup rs=>xs.length≠1∧lI avs rs st
 |.arr sz es=>xs.length=1∧FU st.unit sz es avs
 |.bxs d=>xs.length=1∧FM st.unit d avs
 |r=>xs.length=1∧lI avs [r] st
def Ci(xs:List RV)(r:gz)(st:St):Prop:=nI st xs (pr xs st r)

def wM(xs:List RV)(r:gz)(e:Exit)(st:St):Prop:=
 match e with
 |.normal=>Ci xs r st
 |.ret=>Ci xs r st
 |_=>False

theorem D.Le.refl(d:D):d.Le d:=⟨fun _ _ _ h=>h,fun _ h=>h⟩

theorem Ic{h:aE}{st1 st:St}{tm:Nat→Value}{g0 g:Gh}(T:cI h n0 S0 M0 st1 st tm g0 g){av:AV}(hne:∀i l,av≠.vb i l){v:Value}{d:D}(hr:ab h st1.us g0 av v)(hd:sh1 st.unit av=some d):
  ∃F,aW h d F v.cells.toList∧d.fits v∧∀b∈F,g.Sh b:=by
 unfold sh1 at hd
 split at hd
 ·next d'=>
  obtain rfl:=Option.some.inj hd;simp only[ab]at hr;obtain⟨F,r1,r2,r3⟩:=hr;exact⟨F,r1,r2,fun b hb=>T.sh b (fk (r3 b hb))⟩
 ·next i d'=>
  split at hd
  ·next hp=>
   obtain rfl:=Option.some.inj hd;simp only[ab]at hr;obtain⟨F,r1,r2,r3⟩:=hr;have:=cC hp r1;subst this;exact⟨[],r1,r2,by simp⟩
  ·cases hd
 ·next id len=>exact absurd rfl (hne id len)
 ·cases hd
theorem Jo{h:aE}{st1 st:St}{tm:Nat→Value}{g0 g:Gh}(T:cI h n0 S0 M0 st1 st tm g0 g){id len:Nat}{v:Value}{d:D}(hr:ab h st1.us g0 (.vb id len) v)(hd:sh1 st.unit (.vb id len)=some d):
  ∃F,aW h d F v.cells.toList∧d.fits v∧rY g (g.drop id) st.us (st.del id).us F:=by
 simp only[sh1]at hd
 split at hd
 ·next sz items hun=>
  split at hd
  ·next hlen=>
   split at hd
   ·next ds hds=>
    obtain rfl:=Option.some.inj hd;simp only[ab]at hr;obtain⟨sz',items',b,r1,r2,r3,rfl⟩:=hr;have hm:=ay hun;obtain⟨gb,_,_⟩:=T.gh _ _ hm;have ho:=T.us.each _ hm;simp only[cm]at ho;obtain⟨hmax,b',c,e,vs,rest,k1,k2,k3,k4,k5,k6⟩:=ho;rw[gb,r3]at k1;obtain rfl:=Option.some.inj k1;obtain⟨F,p1,p2,p3,p4⟩:=wE k4 hds;have hl:=p1.length;rw[D.sizeL_const p2]at hl;have hbφ:b∈g.φ id:=by rw[k3];simp
    refine⟨b::F,?_,rfl,fun x hx=>?_⟩
    ·unfold aW;have hcs:ds.length*sz≤c.size:=by
      have:c.toList.length=c.size:=by simp
      rw[k6,lP]at this;omega
     refine .inr ⟨b,0,len,c,e,(0,0),F,by simp[Value.cells,p3,hlen],rfl,by simp,by omega,by omega,k2,by rw[p3,←hlen]at hcs;omega,p2,?_⟩;rw[List.drop_zero,k6,List.take_left' hl];exact p1
    ·rcases List.mem_cons.1 hx with rfl|hx
     ·exact .inr ⟨aH.2 ⟨_,hm,hbφ⟩,jX T.us hm x hbφ⟩
     ·exact .inl (p4 x hx)
   ·cases hd
  ·cases hd
 ·cases hd
theorem vB{h:aE}{st1 st:St}{tm:Nat→Value}{g0 g:Gh}(T:cI h n0 S0 M0 st1 st tm g0 g){av:AV}{v:Value}{k:D→St→Prop}(hr:ab h st1.us g0 av v)(hk:kw st av k):
  ∃d st' g' F,k d st'∧cI h n0 S0 M0 st1 st' tm g0 g'∧aW h d F v.cells.toList∧d.fits v∧rY g g' st.us st'.us F∧(∀b,g'.Sh b↔g.Sh b)∧∀b,b∈fp g' st'.us→b∈fp g st.us:=by
 unfold kw at hk
 split at hk
 ·next i len=>
  unfold E4 at hk
  split at hk
  ·next d hd=>
   obtain⟨F,r1,r2,r3⟩:=Jo T hr hd;exact⟨d,st.del i,g.drop i,F,hk,T.del i,r1,r2,r3,fun _=>Iff.rfl,fun b hb=>(dg (g:=g) (g':=g.drop i) (fun j hj=>by simp[Gh.drop,hj])).subset hb⟩
  ·exact hk.elim
 ·next hne=>
  unfold E4 at hk
  split at hk
  ·next d hd=>
   obtain⟨F,r1,r2,r3⟩:=Ic T (fun i l e=>hne i l e) hr hd;exact⟨d,st,g,F,hk,T,r1,r2,fun b hb=>.inl (r3 b hb),fun _=>Iff.rfl,fun _ hb=>hb⟩
  ·exact hk.elim
theorem yJ{h:aE}{st1:St}{tm:Nat→Value}{g0:Gh}:∀{avs:List AV} {vs:List Value} {st:St} {g:Gh} {k:List D→St→Prop},cI h n0 S0 M0 st1 st tm g0 g→ah h st1.us g0 avs vs→oW st avs k→
  ∃ds st' g' F,k ds st'∧cI h n0 S0 M0 st1 st' tm g0 g'∧aK h ds F (vs.map (·.cells.toList)).flatten∧rY g g' st.us st'.us F∧(∀b,g'.Sh b↔g.Sh b)∧∀b,b∈fp g' st'.us→b∈fp g st.us
 | [],vs,st,g,k,T,hr,hk=>by
  simp only[ah]at hr;subst hr;exact⟨[],st,g,[],hk,T,by simp[aK],by simp[rY],fun _=>Iff.rfl,fun _ hb=>hb⟩
 |av::avs,vs,st,g,k,T,hr,hk=>by
  simp only[ah]at hr;obtain⟨v,r,rfl,h1,h2⟩:=hr;simp only[oW]at hk;obtain⟨d,sta,ga,F1,hk,Ta,r1,_,s1,q1,f1⟩:=vB T h1 hk;obtain⟨ds,stb,gb,F2,hk,Tb,r2,s2,q2,f2⟩:=yJ Ta h2 hk;refine⟨d::ds,stb,gb,F1++F2,hk,Tb,?_,fun b hb=>?_,fun b=>(q2 b).trans (q1 b),fun b hb=>f1 b (f2 b hb)⟩
  ·simp only[lC,List.flatten_cons,cR];exact⟨F1,F2,_,_,rfl,rfl,r1,r2⟩
  ·rcases List.mem_append.1 hb with hb|hb
   ·rcases s1 b hb with h|⟨h,h'⟩
    ·exact .inl h
    ·exact .inr ⟨h,fun h3=>h' (f2 b h3)⟩
   ·rcases s2 b hb with h|⟨h,h'⟩
    ·exact .inl ((q1 b).1 h)
    ·exact .inr ⟨f1 b h,h'⟩
theorem FK{h:aE}{st1 st:St}{tm:Nat→Value}{g0 g:Gh}(T:cI h n0 S0 M0 st1 st tm g0 g){vs:List AV}{v:Value}{d:D}{p:St→Prop}(hr:ab h st1.us g0 (.sg vs) v)(hk:oW st vs (xH d p)):
  ∃st' g' F,p st'∧cI h n0 S0 M0 st1 st' tm g0 g'∧aW h d F v.cells.toList∧d.fits v∧rY g g' st.us st'.us F∧(∀b,g'.Sh b↔g.Sh b)∧∀b,b∈fp g' st'.us→b∈fp g st.us:=by
 simp only[ab]at hr;obtain⟨xs,h1,rfl⟩:=hr;obtain⟨ds,st',g',F,hk,T',r1,s1,q1,f1⟩:=yJ T h1 hk;unfold xH E4 at hk
 split at hk
 ·next d' hd=>
  unfold GH at hd
  split at hd
  ·next hall=>
   obtain rfl:=Option.some.inj hd;have hrep:aW h (.ag ds) F (Value.agg (xs.map (·.cells.toList)).flatten.toArray).cells.toList:=by
    simp only[aW];rw[List.all_eq_true]at hall;refine⟨fun d hd=>?_,by simpa[Value.cells]using r1⟩;have:=hall d hd;simpa using this
   exact⟨st',g',F,hk.2,T',hk.1.1 _ _ _ hrep,hk.1.2 _ (by simp[D.fits,Value.cells]),s1,q1,f1⟩
  ·cases hd
 ·exact hk.elim
theorem oq{h:aE}{st1:St}{tm:Nat→Value}{g0:Gh}(h0:aZ h n0 S0 M0 st1.us g0):∀{avs:List AV} {vs:List Value} {rs:List gz} {st:St} {g:Gh},cI h n0 S0 M0 st1 st tm g0 g→ah h st1.us g0 avs vs→lI avs rs st→
  ∃F G,da h rs F G vs∧F.Nodup∧(∀b∈F,¬g.Sh b∧b∈fp g st.us∧b∉G)∧∀b∈G,g.Sh b∨b∈fp g st.us
 | [],vs,rs,st,g,T,hr,hk=>by
  simp only[ah]at hr;subst hr;cases rs with
  |nil=>exact⟨[],[],by simp[da],List.nodup_nil,by simp,by simp⟩
  |cons=>simp[lI]at hk
 |av::avs,vs,rs,st,g,T,hr,hk=>by
  simp only[ah]at hr;obtain⟨v,vs',rfl,hv,hvs⟩:=hr;cases rs with
  |nil=>simp[lI]at hk
  |cons r rs=>
   simp only[lI]at hk;unfold DG at hk
   split at hk
   ·next d=>
    obtain⟨own,d',st',g',F1,⟨rfl,hle,hk'⟩,T',r1,r2,⟨o1,_⟩,hsh,hfp⟩:=vJ h0 T hv hk;obtain⟨on,o2⟩:=o1 rfl;obtain⟨F2,G2,p1,p2,p3,p4⟩:=oq h0 T' hvs hk';refine⟨F1++F2,G2,?_,?_,?_,?_⟩
    ·simp only[da];exact⟨F1,F2,[],G2,v,vs',rfl,rfl,rfl,by simp only[co];exact⟨trivial,hle.1 _ _ _ r1,hle.2 _ r2⟩,p1⟩
    ·refine List.nodup_append.2 ⟨on,p2,fun x hx y hy e=>?_⟩;subst e;exact(o2 x hx).2.2.1 (p3 x hy).2.1
    ·intro b hb;rcases List.mem_append.1 hb with hb|hb
     ·obtain⟨_,q1,q2,q3⟩:=o2 b hb;refine⟨fun hs=>q1 ((hsh b).2 hs),q3,fun hg=>?_⟩;rcases p4 b hg with h|h
      ·exact q1 h
      ·exact q2 h
     ·obtain⟨q1,q2,q3⟩:=p3 b hb;exact⟨fun hs=>q1 ((hsh b).2 hs),hfp b q2,q3⟩
    ·intro b hb;rcases p4 b hb with h|h
     ·exact .inl ((hsh b).1 h)
     ·exact .inr (hfp b h)
   ·next d=>
    have byX:(∃st' g' F,lI avs rs st'∧cI h n0 S0 M0 st1 st' tm g0 g'∧aW h d F v.cells.toList∧d.fits v∧rY g g' st.us st'.us F∧(∀b,g'.Sh b↔g.Sh b)∧∀b,b∈fp g' st'.us→b∈fp g st.us)→∃F G,da h (.sh d::rs) F G (v::vs')∧F.Nodup∧(∀b∈F,¬g.Sh b∧b∈fp g st.us∧b∉G)∧∀b∈G,g.Sh b∨b∈fp g st.us:=by
     rintro⟨st',g',F1,hk',T',r1,r2,o1,hsh,hfp⟩;obtain⟨F2,G2,p1,p2,p3,p4⟩:=oq h0 T' hvs hk';refine⟨F2,F1++G2,?_,p2,?_,?_⟩
     ·simp only[da];exact⟨[],F2,F1,G2,v,vs',rfl,rfl,rfl,by simp only[co];exact⟨trivial,r1,r2⟩,p1⟩
     ·intro b hb;obtain⟨q1,q2,q3⟩:=p3 b hb;refine⟨fun hs=>q1 ((hsh b).2 hs),hfp b q2,fun hm=>?_⟩;rcases List.mem_append.1 hm with hm|hm
      ·rcases o1 b hm with h|⟨_,h⟩
       ·exact q1 ((hsh b).2 h)
       ·exact h q2
      ·exact q3 hm
     ·intro b hb;rcases List.mem_append.1 hb with hb|hb
      ·rcases o1 b hb with h|⟨h,_⟩
       ·exact .inl h
       ·exact .inr h
      ·rcases p4 b hb with h|h
       ·exact .inl ((hsh b).1 h)
       ·exact .inr (hfp b h)
    have byA:bo st av (wF d (lI avs rs))→∃F G,da h (.sh d::rs) F G (v::vs')∧F.Nodup∧(∀b∈F,¬g.Sh b∧b∈fp g st.us∧b∉G)∧∀b∈G,g.Sh b∨b∈fp g st.us:=by
     intro hk;obtain⟨own,d',st',g',F1,⟨hle,hk'⟩,T',r1,r2,⟨o1,o2⟩,hsh,hfp⟩:=fR h0 T hv hk;obtain⟨F2,G2,p1,p2,p3,p4⟩:=oq h0 T' hvs hk';refine⟨F2,F1++G2,?_,p2,?_,?_⟩
     ·simp only[da];exact⟨[],F2,F1,G2,v,vs',rfl,rfl,rfl,by simp only[co];exact⟨trivial,hle.1 _ _ _ r1,hle.2 _ r2⟩,p1⟩
     ·intro b hb;obtain⟨q1,q2,q3⟩:=p3 b hb;refine⟨fun hs=>q1 ((hsh b).2 hs),hfp b q2,fun hm=>?_⟩;rcases List.mem_append.1 hm with hm|hm
      ·cases own with
       |true=>exact((o1 rfl).2 b hm).2.2.1 q2
       |false=>exact q1 (o2 rfl b hm)
      ·exact q3 hm
     ·intro b hb;rcases List.mem_append.1 hb with hb|hb
      ·cases own with
       |true=>exact .inr ((o1 rfl).2 b hb).2.2.2
       |false=>exact .inl ((hsh b).1 (o2 rfl b hb))
      ·rcases p4 b hb with h|h
       ·exact .inl ((hsh b).1 h)
       ·exact .inr (hfp b h)
    unfold om at hk
    split at hk
    ·split at hk
     ·exact byX (FK T hv hk)
     ·exact byA hk
    ·next i len=>
     obtain⟨d',st',g',F,hk,T',r1,r2,o1,hsh,hfp⟩:=vB T hv hk;exact byX ⟨st',g',F,hk.2,T',hk.1.1 _ _ _ r1,hk.1.2 _ r2,o1,hsh,hfp⟩
    ·exact byA hk
   ·exact hk.elim

def yP(tmps:Array Value):ResultVar→Sem Value
 |.tmp t=>pure (tmps.getD t undef)
 |.cell a t=>do loadVar t (←asAddr (tmps.getD a undef))

theorem B6{t:TypeId}{v r:Value}{w:World}(h:(Instr.loadAt t v).run P w=.ok r w)(hp:∃a,v=.pointer (some a)):((asAddr v>>=fun a=>loadVar t a)).run P w=.ok r w:=by
 obtain⟨a,rfl⟩:=hp;simpa[Instr.loadAt,Instr.sureAddr,asAddr]using h

theorem Fz{us:List (Nat×U)}{h:aE}{g:Gh}{av:AV}{v:Value}{un:Nat→Option U}{agg:Bool}{sz:Nat}{k:KQ}(hr:ab h us g av v)(hq:vF av un agg sz k):∃a,v=.pointer (some a):=by
 unfold vF at hq
 split at hq
 ·simp only[ab,aW]at hr;obtain⟨F,⟨b,off,c,e,fr,F',r1,_⟩,f1,_⟩:=hr;rw[aS (by simpa[D.fits]using f1)]at r1;exact⟨_,by simpa using r1⟩
 ·simp only[ab,aW]at hr;obtain⟨F,⟨_,b,off,c,e,fr,F',r1,_⟩,f1,_⟩:=hr;rw[aS (by simpa[D.fits]using f1)]at r1;exact⟨_,by simpa using r1⟩
 ·simp only[ab]at hr;obtain⟨_,_,_,_,_,_,_,_,_,hv⟩:=hr;exact⟨_,hv⟩
 ·simp only[ab]at hr;obtain⟨_,_,_,_,_,_,_,_,_,_,_,_,_,_,_,_,_,hv⟩:=hr;exact⟨_,hv⟩
 ·simp only[ab]at hr;obtain⟨_,_,_,_,_,hv⟩:=hr;exact⟨_,hv⟩
 ·exact hq.elim

theorem rM{st:St}{w:World}{g:Gh}{tmps:Array Value}(hu:aZ w.heap n0 S0 M0 st.us g)(hv:∀t,ab w.heap st.us g (lk st.env t) (tmps.getD t undef)):∀{l:List ResultVar} {xs:List RV} {k:List AV→Prop},
  l.mapM (sG P)=some xs→nI st xs k→∃avs vs,(l.mapM (yP tmps)).run P w=.ok vs w∧ah w.heap st.us g avs vs∧k avs∧vs.length=l.length
 | [],xs,k,hl,hk=>by
  simp at hl;subst hl;exact⟨[],[],by simp,by simp[ah],hk,rfl⟩
 |x::l,xs,k,hl,hk=>by
  simp only[List.mapM_cons,oD,oB,oP,oS]at hl;obtain⟨x',hx,xs',hxs,rfl⟩:=hl;simp only[nI]at hk;have one:∀{k:AV→Prop},JN st x' k→∃av v,(yP tmps x).run P w=.ok v w∧ab w.heap st.us g av v∧k av:=by
   intro k hk;cases x with
   |tmp t=>
    simp only[sG,oS]at hx;subst hx;exact⟨_,_,by simp[yP],hv t,hk⟩
   |cell a t=>
    simp only[sG,oD,oB,oP,oS,ae]at hx;obtain⟨s,hs,agg,hagg,_,h1,rfl⟩:=hx;simp only[JN]at hk;obtain⟨av,v,h2,h3,h4⟩:=vO (P:=P) (w:=w) hu hs hagg (by intro e;simpa[e]using h1) (hv a) hk;exact⟨av,v,B6 h2 (Fz (hv a) hk),h3,h4⟩
  obtain⟨av,v,h1,h2,h3⟩:=one hk;obtain⟨avs,vs,h4,h5,h6,h7⟩:=rM hu hv hxs h3;refine⟨av::avs,v::vs,?_,?_,h6,by simp[h7]⟩
  ·rw[List.mapM_cons];simp[Sem.run_bind,h1,h4,Result.andThen]
  ·simp only[ah];exact⟨v,vs,rfl,h2,h5⟩

theorem nh{fn:Func}{tmps:Array Value}{w:World}{vs:List Value}(h:(fn.results.toList.mapM (yP tmps)).run P w=.ok vs w):
  (results fn tmps).run P w=.ok (if h:vs.length=1 then vs[0]else .tuple vs.toArray) w:=by
 have e:results fn tmps=(do let vs←fn.results.mapM (yP tmps);pure (if h:vs.size=1 then vs[0]else .tuple vs)):=by
  unfold results;congr 1
 rw[e,Array.mapM_eq_mapM_toList];simp[Sem.run_bind,h,Result.andThen]

theorem lO:∀{us:List (Nat×U)} {k:Nat} {u:U},lu us k=some u→(k,u)∈us
 | [],_,_,h=>by cases h
 |(i,v)::r,k,u,h=>by
  simp only[lu]at h
  split at h
  ·next e=>subst e;cases h;exact List.mem_cons_self
  ·exact List.mem_cons_of_mem _ (lO h)

theorem BF{f : Nat}{fn : Func}{c : Code}{xs : List RV}{ds : List D}{r : gz}(hf : P.funcs[f]? = some fn)(hb : fn.body = some c)(hname : (fn.name == "runtime.NumGoroutine") = false)
  (hxs:fn.results.toList.mapM (sG P)=some xs) (hn:ds.length≤fn.ntmps)
  (hq:D.bdL ds→∀(n0:Nat)(S0 M0:Nat→Prop)(w0:World)(a:Act)(w:World),dH n0 S0 M0 w0 (bD fn.ntmps ds) a w→c.wp P (fun e a' w'=>∃st,wM xs r e st∧dH n0 S0 M0 w0 st a' w') a w):AF P f ds r:=by
 refine⟨⟨fn,hf,by simp[hb],hname⟩,fun w vs old ha=>?_⟩;refine calls_of_wp hf hb ?_;have hs:=BU ha hn;refine wp_mono (hq (wI ha) _ _ _ _ _ _ hs) ?_;rintro e a' w' ⟨st,hk,hs'⟩;have hxl:xs.length=fn.results.toList.length:=(n7 hxs);have key:Ci xs r st→a'.defers=[]∧∃v,(results fn a'.tmps).run P w'=.ok v w'∧
   (∃v' F G,Ending.returned v=.returned v'∧Go.RowKit.Below w.heap.size w w'∧co w'.heap r F G v'∧F.Nodup∧(∀b∈F,w.heap.size≤b∧b∉G∧kp w'.heap b)∧∀b∈G,(w.heap.size≤b∧b<w'.heap.size)∨old b):=by
  intro hk;refine⟨hs'.dfr,?_⟩;obtain⟨g,hu,hv⟩:=hs'.gh;obtain⟨avs,vs',h1,h2,h3,h4⟩:=rM (P:=P) hu hv hxs hk;refine⟨_,nh h1,?_⟩;have hB:Go.RowKit.Below w.heap.size w w':=⟨hs'.os,hs'.tape,hs'.output,hs'.size,fun k hk=>hs'.old k hk (by simp)⟩;have fin:∀{rs:List gz},lI avs rs st→∃F G,da w'.heap rs F G vs'∧F.Nodup∧(∀b∈F,w.heap.size≤b∧b∉G∧kp w'.heap b)∧∀b∈G,(w.heap.size≤b∧b<w'.heap.size)∨old b:=by
   intro rs hL;obtain⟨F,G,q1,q2,q3,q4⟩:=oq hu (cI.refl hu hv) h2 hL;have ge:∀b,b∈fp g st.us→w.heap.size≤b:=fun b hb=>Nat.le_of_not_lt fun hlt=>hu.low b hb hlt;refine⟨F,G,q1,q2,fun b hb=>⟨ge b (q3 b hb).2.1,(q3 b hb).2.2,hu.fz b (q3 b hb).2.1⟩,fun b hb=>?_⟩;rcases q4 b hb with h|h
   ·obtain⟨p1,p2,_⟩:=hu.sh b h
    by_cases hlt:b<w.heap.size
    ·exact .inr (p2 hlt)
    ·exact .inl ⟨by omega,p1⟩
   ·exact .inl ⟨ge b h,hu.lt b h⟩
  have single:∀{r:gz},lI avs [r] st→xs.length=1→∃v' F G,Ending.returned (if h:vs'.length=1 then vs'[0]else .tuple vs'.toArray)=.returned v'∧Go.RowKit.Below w.heap.size w w'∧co w'.heap r F G v'∧F.Nodup∧(∀b∈F,w.heap.size≤b∧b∉G∧kp w'.heap b)∧∀b∈G,(w.heap.size≤b∧b<w'.heap.size)∨old b:=by
   intro r hL hx1;obtain⟨F,G,q1,q2,q3,q4⟩:=fin hL;simp only[da]at q1;obtain⟨F1,F2,G1,G2,v,ws,rfl,rfl,rfl,hr,hF2,hG2,hws⟩:=q1;subst hF2;subst hG2;subst hws;exact⟨v,F1,G1,by simp,hB,hr,by simpa using q2,by simpa using q3,by simpa using q4⟩
  unfold pr at h3
  split at h3
  ·next rs=>
   obtain⟨F,G,q1,q2,q3,q4⟩:=fin h3.2;refine⟨_,F,G,by rw[dif_neg (by rw[h4,←hxl];exact h3.1)],hB,?_,q2,q3,q4⟩;simp only[co];exact⟨_,rfl,by simpa using q1⟩
  ·next sz es=>
   obtain⟨hx1,hV⟩:=h3;unfold FU at hV
   split at hV
   ·next id len=>
    unfold zw at hV
    split at hV
    ·next nn sz' es' hun=>
     obtain⟨rfl,rfl,rfl,rfl⟩:=hV;have hm:=lO hun;simp only[ah]at h2;obtain⟨v,r,rfl,hv2,rfl⟩:=h2;obtain⟨q1,q2,q3⟩:=hu.each _ hm;rcases q3 with⟨_,_,_,hbad⟩|⟨b,c,e,G,cs,rest,p1,p2,p3,p4,p5,p6,p7,p8⟩
     ·exact absurd rfl hbad
     simp only[if_true]at p8;simp only[ab]at hv2;obtain⟨ow,nn,sz2,es2,hm2,hle,hv3⟩:=hv2;have hsame:=hu.uniq hm hm2;cases hsame;have hin:∀x∈b::G,x∈fp g st.us:=fun x hx=>aH.2 ⟨_,hm,by rw[p8];exact hx⟩;rcases hv3 with⟨b',hb',rfl⟩|⟨hbad,_⟩
     ·rw[p1]at hb';cases hb';refine⟨_,b::G,[],by simp;rfl,hB,?_,?_,fun x hx=>⟨Nat.le_of_not_lt fun hlt=>hu.low x (hin x hx) hlt,by simp,hu.fz x (hin x hx)⟩,by simp⟩
      ·simp only[co];exact⟨trivial,q1,q2,b,c,e,G,cs,rest,g.cap id,by simp,rfl,p2,p3,p4,p5,p6⟩
      ·have hq:=hu.nodup;have:(g.φ id).Nodup:=bZ hu hm;rw[p8]at this;exact this
     ·rw[p1]at hbad;cases hbad
    ·exact hV.elim
   ·exact hV.elim
  ·next d _=>
   obtain⟨hx1,hV⟩:=h3;unfold FM at hV
   split at hV
   ·next id=>
    unfold vA at hV
    split at hV
    ·next nn sz' es' hun=>
     subst hV;have hm:=lO hun;simp only[ah]at h2;obtain⟨v,r,rfl,hv2,rfl⟩:=h2;obtain⟨q1,q2,q3⟩:=hu.each _ hm;rcases q3 with⟨_,hbad,_⟩|⟨b,c,e,G,cs,rest,p1,p2,p3,p4,p5,p6,p7,p8⟩
     ·cases hbad
     simp only[fq,if_false]at p8;simp only[ab]at hv2;obtain⟨ow,nn,sz2,es2,b',hm2,hl1,hl2,hb',hv3⟩:=hv2;have hsame:=hu.uniq hm hm2;cases hsame;rw[p1]at hb';cases hb';have hd:d.size=sz':=q2 d (by simp);simp only[aK]at p6;obtain⟨F1,F2,x1,x2,rfl,rfl,p6,rfl,rfl⟩:=p6;have hbin:b∈fp g st.us:=aH.2 ⟨_,hm,by rw[p8.1];simp⟩;refine⟨_,[b],F1,by simp;rfl,hB,?_,by simp,fun x hx=>?_,fun x hx=>?_⟩
     ·simp only[co];exact⟨by omega,b,c,e,x1,rest,g.cap id,by rw[hv3];simp,rfl,p2,by simpa using p3,by rw[hd];exact p4,by simpa using p5,p6⟩
     ·rw[List.mem_singleton.1 hx];exact⟨Nat.le_of_not_lt fun hlt=>hu.low b hbin hlt,fun hx=>(hu.sh b (p8.2 b (by simp[hx]))).2.2 hbin,hu.fz b hbin⟩
     ·obtain⟨z1,z2,_⟩:=hu.sh x (p8.2 x (by simp[hx]))
      by_cases hlt:x<w.heap.size
      ·exact .inr (z2 hlt)
      ·exact .inl ⟨by omega,z1⟩
    ·exact hV.elim
   ·exact hV.elim
  ·exact single h3.2 h3.1
 cases e with
 |normal=>exact key hk
 |ret=>exact key hk
 |exit i=>exact hk.elim
 |goto l=>exact hk.elim
 |panic c=>exact hk.elim
 |outgrown=>exact hk.elim

theorem Ou{f : Nat}{fn : Func}{c : Code}{rc : RC}{xs : List RV}{ds : List D}{r : gz}(hm : P.follows .mixedOrders = true)(hf : P.funcs[f]? = some fn)(hb : fn.body = some c)(hname : (fn.name == "runtime.NumGoroutine") = false)
  (hres:jO P wv fn.ntmps c=some rc) (hxs:fn.results.toList.mapM (sG P)=some xs) (hn:ds.length≤fn.ntmps) (hq:D.bdL ds→jD P rc (bD fn.ntmps ds) (wM xs r)):AF P f ds r:=
 BF hf hb hname hxs hn fun hd n0 S0 M0 w0 a w hs=>wp_mono (lY hm c rc (bD fn.ntmps ds) _ a w hres hs (hq hd)) fun _ _ _ ⟨st,_,hk,hs'⟩=>⟨st,hk,hs'⟩

theorem HU{f : Nat}{fn : Func}{c : Code}{rc : RC}{xs : List RV}{ds : List D}{r : gz}(hm : P.follows .mixedOrders = true)(hf : P.funcs[f]? = some fn)(hb : fn.body = some c)(hname : (fn.name == "runtime.NumGoroutine") = false)
  (hres:jO P wv fn.ntmps c=some rc) (hxs:fn.results.toList.mapM (sG P)=some xs) (hn:ds.length≤fn.ntmps) (hq:D.bdL ds→jD P rc (bD fn.ntmps ds) (fun e st=>∃st',bf st st'∧wM xs r e st')):AF P f ds r:=
 BF hf hb hname hxs hn fun hd n0 S0 M0 w0 a w hs=>wp_mono (lY hm c rc (bD fn.ntmps ds) _ a w hres hs (hq hd)) fun _ _ _ ⟨_,_,⟨st',hE,hk⟩,hs'⟩=>⟨st',hk,hE _ _ _ _ _ _ hs'⟩

end Go.Ax
namespace Go.Ax

def fc(P:Program)(wv:Wv)(f:Nat):Option (Nat×RC×List RV):=do
 let fn←P.funcs[f]?
 let c←fn.body
 guard (!(fn.name == "runtime.NumGoroutine") = true)
 let rc←jO P wv fn.ntmps c
 let xs←fn.results.toList.mapM (sG P)
 pure (fn.ntmps,rc,xs)

def aP(P:Program)(f:Nat):Option (Nat×RC×List RV):=fc P .no f

theorem mV{P:Program}{wv:Wv}{f n:Nat}{rc:RC}{xs:List RV}(h:fc P wv f=some (n,rc,xs))(hm:P.follows .mixedOrders=true){ds:List D}{r:gz}(hn:decide (ds.length≤n)=true)(hq:D.bdL ds→jD P rc (bD n ds) (wM xs r)):AF P f ds r:=by
 unfold fc at h;simp only[oD,oB,oP,oS,ae,Prod.mk.injEq]at h;obtain⟨fn,hf,c,hb,_,hname,rc',hres,xs',hxs,rfl,rfl,rfl⟩:=h;exact Ou hm hf hb (by simpa using hname) hres hxs (by simpa using hn) hq

theorem aw{P:Program}{f n:Nat}{rc:RC}{xs:List RV}(h:aP P f=some (n,rc,xs))(hm:P.follows .mixedOrders=true){ds:List D}{r:gz}(hn:decide (ds.length≤n)=true)(hq:D.bdL ds→jD P rc (bD n ds) (wM xs r)):AF P f ds r:=
 mV h hm hn hq

theorem uc{P:Program}{wv:Wv}{f n:Nat}{rc:RC}{xs:List RV}(h:fc P wv f=some (n,rc,xs))(hm:P.follows .mixedOrders=true){ds:List D}{r:gz}(hn:decide (ds.length≤n)=true)
  (hq:D.bdL ds→jD P rc (bD n ds) (fun e st=>∃st',bf st st'∧wM xs r e st')):AF P f ds r:=by
 unfold fc at h;simp only[oD,oB,oP,oS,ae,Prod.mk.injEq]at h;obtain⟨fn,hf,c,hb,_,hname,rc',hres,xs',hxs,rfl,rfl,rfl⟩:=h;exact HU hm hf hb (by simpa using hname) hres hxs (by simpa using hn) hq

@[go_sem] theorem f8{i:Nat}:jH i []=[]:=rfl
@[go_sem] theorem fG{i:Nat}{d:D}{ds:List D}:jH i (d::ds)=(i,.im none d)::jH (i+1) ds:=rfl
@[go_sem] theorem qy{n:Nat}{ds:List D}:bD n ds=⟨n,jH 0 ds,[]⟩:=rfl
@[go_sem] theorem G0{xs:List RV}{r:gz}{st:St}:wM xs r .normal st=Ci xs r st:=rfl
@[go_sem] theorem MQ{xs:List RV}{r:gz}{st:St}:wM xs r .ret st=Ci xs r st:=rfl
@[go_sem] theorem JM{xs:List RV}{r:gz}{st:St}{i:Nat}:wM xs r (.exit i) st=False:=rfl
@[go_sem] theorem QC{xs:List RV}{r:gz}{st:St}:Ci xs r st=nI st xs (pr xs st r):=rfl
@[go_sem] theorem OI{st:St}{k:List AV→Prop}:nI st [] k=k []:=rfl
@[go_sem] theorem K0{st:St}{x:RV}{xs:List RV}{k:List AV→Prop}:nI st (x::xs) k=JN st x fun av=>nI st xs fun avs=>k (av::avs):=rfl
@[go_sem] theorem rvK_t{st:St}{n:Nat}{k:AV→Prop}:JN st (.t n) k=k (st.get n):=rfl
@[go_sem] theorem rvK_c{st:St}{n sz:Nat}{agg:Bool}{k:AV→Prop}:JN st (.c n sz agg) k=vF (st.get n) st.unit agg sz (fun av _=>k av):=rfl
@[go_sem] theorem LO{x:RV}{st:St}{d:D}{avs:List AV}:pr [x] st (.own d) avs=lI avs [.own d] st:=by simp[pr]
@[go_sem] theorem PZ{x:RV}{st:St}{d:D}{avs:List AV}:pr [x] st (.sh d) avs=lI avs [.sh d] st:=by simp[pr]
@[go_sem] theorem Nz{x:RV}{st:St}{d:D}{avs:List AV}:pr [x] st (.bxs d) avs=FM st.unit d avs:=by simp[pr]
@[go_sem] theorem S8{un:Nat→Option U}{d:D}{id:Nat}:FM un d [.pw id 0 0]=vA (un id) d:=rfl
@[congr] theorem NY{u u':Option U}{d:D}(h:u=u'):vA u d=vA u' d:=by rw[h]
@[go_sem] theorem OM{nn:Option Bool}{sz:Nat}{es:List D}{d:D}:vA (some (.ar false nn sz es)) d=(es=[d]):=rfl
@[go_sem] theorem L8{x:RV}{st:St}{sz:Nat}{es:List D}{avs:List AV}:pr [x] st (.arr sz es) avs=FU st.unit sz es avs:=by simp[pr]
@[go_sem] theorem RM{un:Nat→Option U}{sz:Nat}{es:List D}{id len:Nat}:FU un sz es [.sm id 0 len]=zw (un id) sz len es:=rfl
@[congr] theorem Sa{u u':Option U}{sz len:Nat}{es:List D}(h:u=u'):zw u sz len es=zw u' sz len es:=by rw[h]
@[go_sem] theorem SX{nn:Option Bool}{sz':Nat}{es':List D}{sz len:Nat}{es:List D}:zw (some (.ar true nn sz' es')) sz len es=(nn=some false∧sz'=sz∧es'=es∧len=es.length):=rfl
@[go_sem] theorem MU{x y:RV}{xs:List RV}{st:St}{rs:List gz}{avs:List AV}:pr (x::y::xs) st (.tup rs) avs=lI avs rs st:=by simp[pr]
@[go_sem] theorem O1{st:St}:lI [] [] st=True:=rfl
@[go_sem] theorem K3{av:AV}{avs:List AV}{r:gz}{rs:List gz}{st:St}:lI (av::avs) (r::rs) st=DG st av r (lI avs rs):=rfl
@[go_sem] theorem Ok{st:St}{av:AV}{d:D}{k:St→Prop}:DG st av (.own d) k=gd st av (ER d k):=rfl
@[congr] theorem KO{st st':St}{v v':AV}{k:KT}(h:st=st')(h':v=v'):gd st v k=gd st' v' k:=by rw[h,h']
@[go_sem] theorem Ky{st:St}{i len:Nat}{k:KT}:gd st (.vb i len) k=cp 12 st (.vb i len) k:=rfl
@[go_sem] theorem Kn{st:St}{t:Option Nat}{d:D}{k:KT}:gd st (.im t d) k=bo st (.im t d) k:=rfl
@[go_sem] theorem JQ{st:St}{i:Nat}{k:KT}:gd st (.tr i) k=bo st (.tr i) k:=rfl
@[go_sem] theorem Ku{st:St}{i off len:Nat}{k:KT}:gd st (.sm i off len) k=bo st (.sm i off len) k:=rfl
@[go_sem] theorem Lb{st:St}{i el j sz:Nat}{agg:Bool}{k:KT}:gd st (.cw i el j sz agg) k=bo st (.cw i el j sz agg) k:=rfl
@[go_sem] theorem KI{st:St}{vs:List AV}{k:KT}:gd st (.sg vs) k=bo st (.sg vs) k:=rfl
@[go_sem] theorem QH{st:St}{av:AV}{d:D}{k:St→Prop}:DG st av (.sh d) k=om st av d k:=rfl
@[go_sem] theorem Pp{st:St}{t:Option Nat}{e d:D}{k:St→Prop}:om st (.im t e) d k=bo st (.im t e) (wF d k):=rfl
@[go_sem] theorem Pa{st:St}{i:Nat}{d:D}{k:St→Prop}:om st (.tr i) d k=bo st (.tr i) (wF d k):=rfl
@[go_sem] theorem Md{st:St}{i off len:Nat}{d:D}{k:St→Prop}:om st (.sm i off len) d k=bo st (.sm i off len) (wF d k):=rfl
@[go_sem] theorem O3{st:St}{i el j sz:Nat}{agg:Bool}{d:D}{k:St→Prop}:om st (.cw i el j sz agg) d k=bo st (.cw i el j sz agg) (wF d k):=rfl
@[go_sem] theorem Ly{st:St}{i len:Nat}{d:D}{k:St→Prop}:om st (.vb i len) d k=kw st (.vb i len) fun d' st'=>d'.Le d∧k st':=rfl
@[go_sem] theorem Mk{st:St}{vs:List AV}{d:D}{k:St→Prop}:om st (.sg vs) d k=if vs.any AV.isVb=true then oW st vs (xH d k)else bo st (.sg vs) (wF d k):=rfl
@[go_sem] theorem Kd{st:St}{i len:Nat}{k:D→St→Prop}:kw st (.vb i len) k=E4 (sh1 st.unit (.vb i len)) fun d=>k d (st.del i):=rfl
@[go_sem] theorem K6{st:St}{t:Option Nat}{d:D}{k:D→St→Prop}:kw st (.im t d) k=E4 (sh1 st.unit (.im t d)) fun d=>k d st:=rfl
@[go_sem] theorem Nr{d:D}{k:D→Prop}:E4 (some d) k=k d:=rfl
@[go_sem] theorem Kw{st:St}{k:List D→St→Prop}:oW st [] k=k [] st:=rfl
@[go_sem] theorem I8{st:St}{a:AV}{r:List AV}{k:List D→St→Prop}:oW st (a::r) k=kw st a fun d st1=>oW st1 r fun ds st2=>k (d::ds) st2:=rfl
@[go_sem] theorem Lr{d:D}{k:St→Prop}{ds:List D}{st:St}:xH d k ds st=E4 (GH ds) fun d'=>d'.Le d∧k st:=rfl
attribute [go_sem] sh1 AV.isVb GH
@[go_sem] theorem QB{d:D}{k:St→Prop}{own:Bool}{d':D}{st':St}:ER d k own d' st'=(own=true∧d'.Le d∧k st'):=rfl
@[go_sem] theorem PM{d:D}{k:St→Prop}{own:Bool}{d':D}{st':St}:wF d k own d' st'=(d'.Le d∧k st'):=rfl
@[go_sem] theorem IH{d:D}:D.Le d d=True:=eq_true (D.Le.refl d)

theorem D.Le.sc_eq{a b:Value}(h:a=b):D.Le (.sc a) (.sc b):=h▸D.Le.refl _

end Go.Ax
