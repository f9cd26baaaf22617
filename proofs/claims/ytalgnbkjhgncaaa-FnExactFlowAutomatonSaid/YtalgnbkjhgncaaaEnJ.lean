/- THE ENGINE, PART 10: a generator of conditions over the register code, and its soundness. No condition. -/
import Derived.Test.YtalgnbkjhgncaaaEnI
import Derived.Deep.LoopGhost
import Derived.KernelRfl
set_option linter.all false
namespace Go.Ax
variable {P:Program}{wv:Wv}{n0:Nat}{S0 M0:Nat→Prop}{w0:World}
variable {k:Nat}
def Md{st:St}{a:Act}{w:World}(hs:ju n0 S0 M0 w0 st a w)(hk:k∉st.us.map (·.1)):ju n0 S0 M0 w0 ⟨st.n,st.env,(k,.own .jk)::st.us⟩ a w:=by
 obtain⟨g,hu,hv⟩:=hs.gh;obtain⟨h1,h2⟩:=hu.Pi (d:=.jk) (F:=[]) (v:=.bool false) hk (by simp only[f8];exact⟨trivial,.bool false,rfl,rfl⟩) (by simp only[D.fits];rfl) bC (by simp) (by simp) (by simp) (by simp);exact⟨hs.ms,hs.mS,hs.tm,hs.base,hs.os,hs.tape,hs.output,hs.size,hs.iD,_,h1,fun t=>h2 _ _ (hv t)⟩
def ID(r:RO):Option (Nat×Nat×Nat×Nat×Nat):=
 match r with
 |⟨none,.app d sz bytes (.t x) (.t y)⟩=>some (d,sz,bytes,x,y)
 |_=>none
variable {d sz x y:Nat}
def IY{r:RO}{bytes:Nat}(h:ID r=some (d,sz,bytes,x,y)):r=⟨none,.app d sz bytes (.t x) (.t y)⟩:=by
 unfold ID at h
 split at h
 ·injection h with h;injection h with h1 h;injection h with h2 h;injection h with h3 h;injection h with h4 h5;subst h1 h2 h3 h4 h5;rfl
 cases h
def kt(R:List RO)(p:Nat):List Nat:=match R[p]? with|some r=>(match ID r with|some (_,_,_,x,y)=>[x,y]|none=>[])|none=>[]
def nh(R:List RO)(A X:List Nat)(t:Nat):Bool:=A.any fun p=>X.contains p&&(kt R p).contains t
variable {t:Nat}
def iJ{R:List RO}{A X:List Nat}:nh R A X t=true↔∃p∈A,p∈X∧t∈kt R p:=by
 simp[nh]
def Am(f:Nat→Bool)(x:Nat×U):Nat×U:=if f x.1=true then(x.1,.own .jk)else x
def dead(f:Nat→Bool)(s:St):St:=⟨s.n,s.env.map fun x=>(x.1,if f x.1=true then .any else x.2),s.us.map (Am f)⟩
variable {f:Nat→Bool}
def ko:∀{env:List (Nat×AV)},lk (env.map fun x=>(x.1,if f x.1=true then .any else x.2)) t=if f t=true then .any else lk env t
 | []=>by simp[lk]
 |(k,v)::r=>by
  simp only[lC,lk]
  by_cases h:k=t;subst h;simp
  rw[al h,al h,ko]
def Qc{x:Nat×U}:(Am f x).1=x.1:=by unfold Am;split<;>rfl
variable {us:List (Nat×U)}
def ro:(us.map (Am f)).map (·.1)=us.map (·.1):=by
 rw[df];exact dg fun x _=>Qc
def oX{u:U}:(k,u)∈us.map (Am f)↔∃v,(k,v)∈us∧u=if f k=true then .own .jk else v:=by
 rw[aR];constructor
 ·rintro⟨⟨i,v⟩,h1,h2⟩;unfold Am at h2;simp only at h2
  split at h2
  ·next hf=>injection h2 with e1 e2;subst e1 e2;exact⟨v,h1,by rw[an hf]⟩
  next hf=>injection h2 with e1 e2;subst e1 e2;exact⟨v,h1,by rw[al hf]⟩
 rintro⟨v,h1,h2⟩;refine⟨(k,v),h1,?_⟩;unfold Am;simp only
 split
 ·next hf=>rw[an hf]at h2;rw[h2]
 next hf=>rw[al hf]at h2;rw[h2]
def yd:∀{us:List (Nat×U)},(Cq k us).map (·.1)=us.map (·.1)
 | []=>rfl
 |(j,v)::r=>by simp only[Cq,lC,yd (us:=r)]
structure rS (s s':St):Prop where
 n:s'.n=s.n
 lk:∀t,lk s'.env t=lk s.env t
 us:s'.us.Perm s.us
def QU{us':List (Nat×U)}(hp:us'.Perm us)(hk:(us.map (·.1)).Nodup)(k:Nat):lu us' k=lu us k:=by
 have qr:(us'.map (·.1)).Nodup:=(hp.map _).nodup_iff.2 hk;cases h:lu us k with
 |some u=>exact iA qr (hp.mem_iff.2 (fB h))
 |none=>
  cases h':lu us' k with
  |none=>rfl
  |some u=>rw[iA hk (hp.mem_iff.1 (fB h'))]at h;cases h
variable {s s':St}
def rS.ev(h:rS s s'):s'.ev=s.ev:=by
 funext x
 cases x with
 |c d=>rfl
 |t n=>exact h.lk n
def rS.unit(h:rS s s')(hk:(s.us.map (·.1)).Nodup):s'.unit=s.unit:=by
 funext k
 exact QU h.us hk k
def NA{us':List (Nat×U)}(hp:us'.Perm us)(h:o9 k us=true):o9 k us'=true:=vf fun hm=>ir h ((hp.map _).mem_iff.1 hm)
def rS.fresh(h:rS s s'):∀{us:List (Nat×U)},s.fresh us=true→s'.fresh us=true
 | [],_=>rfl
 |x::r,hf=>by
  simp only[St.fresh,bA]at hf⊢;exact⟨⟨NA h.us hf.1.1,hf.1.2⟩,h.fresh hf.2⟩
def rS.step{r:RO}{v:Rs}(h:rS s s')(hk:(s.us.map (·.1)).Nodup)(hs:ji P r s v):ji P r s' v:=by
 have hQ:∀{op:lz},QD P op s v→QD P op s' v:=fun hq=>⟨by rw[h.ev,h.unit hk];exact hq.1,hq.2.imp id h.fresh⟩;unfold ji at hs⊢
 split at hs;exact hQ hs
 next t b _=>
 have e:s'.get t=s.get t:=h.lk t;rw[e];exact hs.imp (fun⟨tk,c,h1,h2,h3⟩=>⟨tk,c,h1,fun e=>hQ (h2 e),h3⟩) id
def ju.eqS{a:Act}{w:World}(hs:ju n0 S0 M0 w0 s a w)(h:rS s s'):ju n0 S0 M0 w0 s' a w:=hs.eqv h.n h.lk h.us
structure FH (s:St) (d sz bytes x y:Nat) (nn:Option Bool) (es:List D) (d0:D):Prop where
 gx:s.get x=.tr x
 gy:s.get y=.vb y 1
 ux:s.unit x=some (.own (.ls nn sz es))
 uy:s.unit y=some (.bx sz [.im none d0])
 ne:x≠y
 pos:0<sz
 fl:d0.flat=true
 ds:d0.size=sz
 b1:(es.length+1)*bytes≤140737488355328
 b2:es.length+1≤gp
 fr:s.fresh [(d,.own .jk)]=true
def A5(d sz:Nat)(es:List D)(d0:D):Rs:=(.tr d,[(d,.own (.ls (some false) sz (es++[d0])))])
def pv(P:Program):PO→St→Rs→Prop
 |.q r,s,v=>ji P r s v
 |.a d sz b x y,s,v=>∃nn es d0,FH s d sz b x y nn es d0∧v=A5 d sz es d0
def G5:PO→St→Rs→St
 |.q r,s,v=>jA s r.op.dst v
 |.a d _ _ x y,s,v=>⟨s.n,(d,v.1)::(y,.any)::(x,.any)::s.env,v.2++Cq x (Cq y s.us)⟩
def Mv(P:Program):List PO→List Rs→St→St→Prop
 | [],[],s,s'=>s=s'
 |p::l,r::rl,s,s'=>pv P p s r∧Mv P l rl (G5 p s r) s'
 |_,_,_,_=>False
def PO.sq:PO→Bool
 |.q r=>r.op.sq
 |.a .. =>true
def RU{b:Nat}{st:St}{K:St→Prop}(h:YB (st.get x) (st.get y) (st.unit x) (st.unit y) d sz b x y st K):∃nn es d0,FH st d sz b x y nn es d0∧K (st.apJ d sz x y (es++[d0])):=by
 unfold YB at h
 split at h
 ·next x' y' e1 e2=>
  obtain⟨⟨rfl,rfl⟩,h⟩:=h;unfold abE at h
  split at h
  ·next nn gv es w6 d0 e3 e4=>
   obtain⟨⟨h1,rfl,h2,h3,h4,h5,h6,h7,h8⟩,hK⟩:=h;subst h2;exact⟨nn,es,d0,⟨e1,e2,e3,e4,h1,h3,h4,h5,h6,h7,h8⟩,hK⟩
  exact h.elim
 exact h.elim
def sL{K:St→Prop}:∀{l:List PO} {st:St},(∀p∈l,p.sq=true)→sT P l st K→∃rl s',Mv P l rl st s'∧K s'∧rl.length=l.length
 | [],st,_,h=>⟨[],st,rfl,h,rfl⟩
 |.q r::l,st,hQ,h=>by
  simp only[sT]at h;obtain⟨rl0,s1,h1,h2,h3⟩:=ly (Rl:=[r]) (fun R hR=>by rw[am]at hR;subst hR;exact hQ (.q R) (by simp)) h
  match rl0,h3 with
  | [v],_=>
   simp only[CX]at h1;obtain⟨h4,rfl⟩:=h1;obtain⟨rl,s',q1,q2,q3⟩:=sL (fun p hp=>hQ p (by simp[hp])) h2;exact⟨v::rl,s',⟨h4,q1⟩,q2,by simp[q3]⟩
 |.a d sz b x y::l,st,hQ,h=>by
  simp only[sT]at h;obtain⟨nn,es,d0,h1,h2⟩:=RU h;obtain⟨rl,s',q1,q2,q3⟩:=sL (fun p hp=>hQ p (by simp[hp])) h2;exact⟨A5 d sz es d0::rl,s',⟨⟨nn,es,d0,h1,rfl⟩,q1⟩,q2,by simp[q3]⟩
def Zv{bytes:Nat}{nn:Option Bool}{es:List D}{d0:D}(h:FH s d sz bytes x y nn es d0):
  oq P (.app d sz bytes (.t x) (.t y)) s (fun s'=>s'=(((s.del y).del x).iQ [(d,.own (.ls (some false) sz (es++[d0])))]).set d (.tr d)):=by
 have hyx:(y==x)=false:=by simp only[cC];exact fun e=>h.ne e.symm
 have hk:∀{f:AV→Bool} {env:List (Nat×AV)} {t:Nat},f (lk env t)=false→lk (iy f env) t=lk env t:=by
  intro f env t hf
  induction env with
  |nil=>rfl
  |cons z env ih=>
   obtain⟨i,v⟩:=z;simp only[iy,lk]at hf⊢
   split
   ·next e=>rw[an e]at hf;rw[hf];rfl
   next e=>rw[al e]at hf;exact ih hf
 have hgx:(s.del y).get x=.tr x:=by
  have:lk s.env x=.tr x:=h.gx
  show lk (iy (AV.refs y) s.env) x=.tr x
  rw[hk (by rw[this];simp only[AV.refs,cC];exact h.ne),this]
 have hlu:∀{f:AV→Bool} {us:List (Nat×U)} {i j:Nat},i≠j→lu (fQ j f us) i=(lu us i).map (U.kill f):=by
  intro f us i j hij
  induction us with
  |nil=>rfl
  |cons z us ih=>
   obtain⟨k,v⟩:=z;simp only[fQ,lu]
   by_cases e:k=j
   ·subst e;rw[an rfl,al (fun e=>hij e.symm),ih]
   rw[al e];simp only[lu]
   split;rfl;exact ih
 have hux:(s.del y).unit x=some (.own (.ls nn sz es)):=by
  show lu (fQ y (AV.refs y) s.us) x=_
  rw[hlu h.ne,show lu s.us x=some (.own (.ls nn sz es))from h.ux]
  rfl
 have te:((s.del y).del x).fresh [(d,.own .jk)]=true:=by
  have:=h.fr;simp only[St.fresh,o9,bU]at this⊢;refine vf fun hm=>ir this ?_
  show d∈s.us.map (·.1)
  have h1:d∈(fQ x (AV.refs x) (fQ y (AV.refs y) s.us)).map (·.1):=hm;rw[gn,gn]at h1;exact(aX.1 (aX.1 h1).1).1
 have ey:s.ev (.t y)=.vb y 1:=h.gy;have ex:(s.del y).ev (.t x)=.tr x:=hgx
 show Tu P (.app d sz bytes (.t x) (.t y)) s _
 simp only[Tu,eOp,ey,oK,yz,h.uy];refine⟨⟨by first|trivial|rfl,by first|rfl|trivial⟩,?_⟩;have GG:=D.kH h.fl;simp only[kA,it,zh,fC,GG,bI,C5,af,h.fl,DM,ex,yr,gH,hux,sv,D0];refine⟨by simp,by simp,⟨trivial,trivial,trivial,by simpa using h.b1,by simpa using h.b2,fun e he=>by rw[am]at he;rw[he];exact h.ds,h.pos,te⟩,?_⟩
 rfl
def yB{f:AV→Bool}:∀{env:List (Nat×AV)},lk (iy f env) t=if f (lk env t)=true then .any else lk env t
 | []=>by show AV.any=if f .any=true then .any else .any;split<;>rfl
 |(k,v)::r=>by
  have e0:lk (iy f ((k,v)::r)) t=if k=t then(if f v=true then .any else v)else lk (iy f r) t:=rfl
  rw[e0]
  by_cases h:k=t
  ·have e1:lk ((k,v)::r) t=v:=by simp[lk,h]
   rw[an h,e1]
  have e1:lk ((k,v)::r) t=lk r t:=by simp[lk,h]
  rw[al h,e1,yB]
def Ls:∀{env:List (Nat×AV)},lk env t=.any∨(t,lk env t)∈env
 | []=>.inl rfl
 |(k,v)::r=>by
  simp only[lk]
  by_cases h:k=t;subst h;rw[an rfl];exact .inr (by simp)
  rw[al h];exact(Ls (env:=r)).imp id fun h=>bt _ h
mutual
def C3:∀{av:AV} {k:Nat},k∈av.ids→av.refs k=true
 |.tr i,k,h=>by simp only[AV.ids,am]at h;simp[AV.refs,h]
 |.pw i _ _,k,h=>by simp only[AV.ids,am]at h;simp[AV.refs,h]
 |.cw i _ _ _ _,k,h=>by simp only[AV.ids,am]at h;simp[AV.refs,h]
 |.sm i _ _,k,h=>by simp only[AV.ids,am]at h;simp[AV.refs,h]
 |.vb i _,k,h=>by simp only[AV.ids,am]at h;simp[AV.refs,h]
 |.pb i _,k,h=>by simp only[AV.ids,am]at h;simp[AV.refs,h]
 |.ps i,k,h=>by simp only[AV.ids,am]at h;simp[AV.refs,h]
 |.mv i,k,h=>by simp only[AV.ids,am]at h;simp[AV.refs,h]
 |.pq i _ _ _ _ _,k,h=>by simp only[AV.ids,am]at h;simp[AV.refs,h]
 |.qs i _ _ _ _ _,k,h=>by simp only[AV.ids,am]at h;simp[AV.refs,h]
 |.ss i _ _,k,h=>by simp only[AV.ids,am]at h;simp[AV.refs,h]
 |.sg vs,k,h=>by simp only[AV.ids]at h;simp only[AV.refs];exact vo h
 |.cl _ vs,k,h=>by simp only[AV.ids]at h;simp only[AV.refs];exact vo h
 |.im _ _,k,h=>by simp[AV.ids]at h
 |.jS _,k,h=>by simp[AV.ids]at h
 |.any,k,h=>by simp[AV.ids]at h
 |.z0 _ _,k,h=>by simp[AV.ids]at h
def vo:∀{vs:List AV} {k:Nat},k∈AV.md vs→AV.kI k vs=true
 | [],k,h=>by simp[AV.md]at h
 |v::vs,k,h=>by
  simp only[AV.md,ax]at h;simp only[AV.kI,cm];exact h.imp C3 vo
end
def rC{b:Nat}:t∈(⟨none,.app d sz b (.t x) (.t y)⟩:RO).jU↔t=x∨t=y:=by simp[RO.jU,lz.xs,Ax.X.slot]
def n7(A:List Nat)(R:List RO)(i:Nat):PO:=
 if A.contains i then(match ID (R.getD i default)with|some (d,sz,b,x,y)=>.a d sz b x y|none=>.q (R.getD i default))else .q (R.getD i default)
def tS{A:List Nat}{R:List RO}{i:Nat}(h:i∉A):n7 A R i=.q (R.getD i default):=by
 unfold n7;rw[al (by simpa using h)]
structure nQ (P:Program) (wv:Wv) (ops:Array Oper) (R:List RO) (gR:St) (V:Nat→Rs) (S N A:List Nat):Prop where
 len:R.length=ops.size
 res:∀(i:Nat)(o:Oper),ops[i]?=some o→∃r,R[i]?=some r∧iO P wv gR.n ops o=some r
 inj:∀i j t,gz R i=some t→gz R j=some t→i=j
 lj:∀i,∀j∈fM ops i,j<i
 mem:∀i,i∈N↔i<R.length∧S.contains i=true
 sq:∀i∈N,i∉A→s6 R i=true
 aN:∀p∈A,p∈N
 Cy:N.Nodup
 nw:∀i∈N,∀j∈fM ops i,j∈N
 pa:∀p∈A,∃d sz b x y,R[p]?=some ⟨none,.app d sz b (.t x) (.t y)⟩∧n7 A R p=.a d sz b x y∧kt R p=[x,y]
 slot:∀(i:Nat)(r:RO)(t:Nat),i∈N→R[i]?=some r→t∈r.jU→∀j,gz R j=some t→(j<i∧j∈fM ops i)∨(i<j∧i∈fM ops j)
 use:∀(i:Nat)(r:RO)(t:Nat),i∈N→R[i]?=some r→t∈r.jU→∀q∈A,t∈kt R q→i=q
 prod:∀q∈A,∀t∈kt R q,∀j,gz R j=some t→j<q∧j∈fM ops q
 step:∀i∈N,pv P (n7 A R i) (dead (nh R A (qt N i)) (fD gR (gz R) V (qt N i))) (V i)
 keys:((fD gR (gz R) V N.reverse).us.map (·.1)).Nodup
 cln:∀q∈A,∀k∈kt R q,(∀x∈gR.env,x.1≠k→x.2.refs k=false)∧∀i∈N,∀t,gz R i=some t→t≠k→(V i).1.refs k=false
 clu:∀q∈A,∀k∈kt R q,∀x∈(fD gR (gz R) V N.reverse).us,x.2.kill (AV.refs k)=x.2
section
variable {ops:Array Oper}{R:List RO}{st:St}{V:Nat→Rs}{S N A X:List Nat}{fE:Array Bool}{i:Nat}{r:RO}{o:Oper}{a:Act}{w:World}
variable {d sz b x y:Nat}
abbrev jH(R:List RO)(A:List Nat)(st:St)(V:Nat→Rs)(X:List Nat):St:=dead (nh R A X) (fD st (gz R) V X)
variable {k:Nat}
def nQ.cl(hd:nQ P wv ops R st V S N A){q:Nat}(hq:q∈A)(hk:k∈kt R q)(hX:∀i∈X,i∈N){t:Nat}(ht:t≠k):(lk (fD st (gz R) V X).env t).refs k=false:=by
 obtain⟨h1,h2⟩:=hd.cln q hq k hk;have e:=je (gR:=st) (V:=V) hd.inj (L:=X) (t:=t)
 by_cases he:∃j,j∈X∧gz R j=some t;obtain⟨j,hj,hjt⟩:=he;rw[e.1 j hj hjt];exact h2 j (hX j hj) t hjt ht
 rw[e.2 fun j hj hjt=>he ⟨j,hj,hjt⟩];rcases Ls (env:=st.env) (t:=t)with h|h
 rw[h];rfl;exact h1 _ h ht
def vW(hd:nQ P wv ops R st V S N A)(h:kj P ops R X fE)(hi:i∈N)(hr:R[i]?=some r)
  (hw:∀j∈fM ops i,j∈X) (hn:i∉X) {t:Nat} (ht:t∈r.jU):(jH R A st V X).get t=(jH R A st V (qt N i)).get t:=by
 have u1:nh R A X t=false:=by
  cases hu:nh R A X t with
  |false=>rfl
  |true=>
   obtain⟨q,hq,Eu,hqt⟩:=iJ.1 hu;exact absurd (hd.use i r t hi hr ht q hq hqt▸Eu) hn
 have u2:nh R A (qt N i) t=false:=by
  cases hu:nh R A (qt N i) t with
  |false=>rfl
  |true=>
   obtain⟨q,hq,Eu,hqt⟩:=iJ.1 hu;have e:=hd.use i r t hi hr ht q hq hqt;have:=(lR.1 Eu).2;omega
 show lk (List.map _ _) t=lk (List.map _ _) t
 rw[ko,ko,u1,u2];simp only[kY,aH];have a:=je (gR:=st) (V:=V) hd.inj (L:=X) (t:=t);have b:=je (gR:=st) (V:=V) hd.inj (L:=qt N i) (t:=t)
 by_cases he:∃j,gz R j=some t
 ·obtain⟨j,hj⟩:=he;rcases hd.slot i r t hi hr ht j hj with⟨h1,h2⟩|⟨h1,h2⟩
  ·rw[a.1 j (hw j h2) hj,b.1 j (lR.2 ⟨hd.nw i hi j h2,h1⟩) hj]
  have hx:j∉X:=fun hx=>hn (h.closed j hx i h2);rw[a.2 fun k hk e=>hx (hd.inj k j t e hj▸hk),b.2 fun k hk e=>by
   have:=hd.inj k j t e hj;have:=(lR.1 hk).2;omega]
 rw[a.2 fun k _ e=>he ⟨k,e⟩,b.2 fun k _ e=>he ⟨k,e⟩]
def vk(hd:nQ P wv ops R st V S N A){X Y:List Nat}(nX:X.Nodup)(hX:∀i∈X,i∈N)(nY:Y.Nodup)(hY:∀i∈Y,i∈N){k:Nat}{u v:U}
  (h1:(k,u)∈(jH R A st V X).us) (h2:(k,v)∈(jH R A st V Y).us) (e:nh R A X k=nh R A Y k):u=v:=by
 obtain⟨u',m1,e1⟩:=oX.1 h1;obtain⟨v',m2,e2⟩:=oX.1 h2;have q1:=iA hd.keys ((jt hd.Cy hd.keys nX hX).2 _ m1);have q2:=iA hd.keys ((jt hd.Cy hd.keys nY hY).2 _ m2);rw[q1]at q2;injection q2 with q2;subst q2;rw[e1,e2,e]
def Nh(hd:nQ P wv ops R st V S N A)(nX:X.Nodup)(hX:∀i∈X,i∈N):((jH R A st V X).us.map (·.1)).Nodup:=by
 show((List.map _ _).map _).Nodup
 rw[ro];exact(jt hd.Cy hd.keys nX hX).1
def yv(R:List RO)(A:List Nat)(st:St)(V:Nat→Rs)(X:List Nat):Prop:=∀q∈A,q∈X→∀k∈kt R q,k∈(fD st (gz R) V X).us.map (·.1)
def TT{N:List Nat}{i:Nat}(h:N.Nodup):(qt N i).Nodup:=(dI _).nodup_iff.2 (h.filter _)
def AG(hd:nQ P wv ops R st V S N A)(h:kj P ops R X fE)(hX:∀i∈X,i∈N)(hi:i∈N)(pB:i∉A)(hr:R[i]?=some r)(fv:iO P wv st.n ops o=some r)
  (hw:∀j∈fM ops i,j∈X) (hn:i∉X) (hs:ju n0 S0 M0 w0 (jH R A st V X) a w):
  ∃op,oI P wv st.n o=some op∧r.op=op∧op.sq=true∧op.dst=o.dst∧(∀d,o.dst=some d→d<(jH R A st V X).n)∧(∃g,At n0 S0 M0 w0 (jH R A st V X) o a w g)∧(∀t∈r.jU,(jH R A st V X).get t=(jH R A st V (qt N i)).get t)∧
   (QD P r.op (jH R A st V (qt N i)) (V i)→yX P r.op (jH R A st V X).ev (jH R A st V X).unit (fun v u=>v=(V i).1∧u=(V i).2)):=by
 have HY:(jH R A st V X).n=st.n:=iv;have ll:∀t∈r.jU,(jH R A st V X).get t=(jH R A st V (qt N i)).get t:=fun t ht=>vW hd h hi hr hw hn ht;have hbX:∀j∈qt N i,j∈N:=fun j hj=>(lR.1 hj).1;have fZ:=fv;unfold iO at fZ;simp only[oD,oB,fw]at fZ;obtain⟨op,wR,_,h1,_,h2,fZ⟩:=fZ;have oO:∀d,o.dst=some d→d<(jH R A st V X).n:=by
  intro d PY;rw[HY];rw[PY]at h2;simpa using h2
 have my:r.op=op:=by
  split at fZ
  ·simp only[oP,oS]at fZ;rw[←fZ]
  simp only[oB,oP,oS]at fZ;obtain⟨_,_,_,_,fZ⟩:=fZ;rw[←fZ]
 have hQ:op.sq=true:=by
  rw[←my,←zJ hr];exact hd.sq i hi pB
 obtain⟨g,hu,hv⟩:=hs.gh;refine⟨op,wR,my,hQ,h1,oO,⟨g,hs,hu,hv,oO⟩,ll,fun hq=>?_⟩;have wP:∀x∈r.op.xs,(jH R A st V X).ev x=(jH R A st V (qt N i)).ev x:=by
  intro x hx;cases x with
  |c d=>rfl
  |t n=>exact ll n (dz _ (eK.2 ⟨_,hx,rfl⟩))
 refine uG hq.1 wP ?_;intro x hx k u hk rN;rw[←wP x hx]at hk;cases x with
 |c d=>simp only[St.ev,pi]at hk;split at hk<;>simp[AV.ids]at hk
 |t n=>
  have yS:n∈r.jU:=dz _ (eK.2 ⟨_,hx,rfl⟩);obtain⟨u',hm⟩:=tY (hv n) k hk;have kZ:∀Y:List Nat,nh R A Y k=false:=fun Y=>by
   cases hu:nh R A Y k with
   |false=>rfl
   |true=>
    obtain⟨q,hq,_,hqk⟩:=iJ.1 hu;have hnk:n≠k:=fun e=>pB (hd.use i r n hi hr yS q hq (e▸hqk)▸hq);have qr:k∈(lk (List.map (fun x=>(x.1,if nh R A X x.1=true then AV.any else x.2)) (fD st (gz R) V X).env) n).ids:=hk;rw[ko]at qr
    split at qr;simp[AV.ids]at qr;have:=C3 qr;rw[hd.cl hq hqk hX hnk]at this;cases this
  have AT:=fB rN;have:=vk hd h.nd hX (TT hd.Cy) hbX hm AT (by rw[kZ,kZ]);subst this;exact iA (Nh hd h.nd hX) hm
def Hg{i:Nat}(h:i∉A):nh R A (i::X)=nh R A X:=by
 funext t
 rw[eb,iJ,iJ];constructor
 ·rintro⟨q,h1,h2,h3⟩;rcases aj.1 h2 with rfl|h2
  exact absurd h1 h;exact⟨q,h1,h2,h3⟩
 rintro⟨q,h1,h2,h3⟩;exact⟨q,h1,by simp[h2],h3⟩
def HB(HZ:((fD st (gz R) V (i::X)).us.map (·.1)).Nodup)(hpr:∀q∈A,q∈X→∀d,gz R i=some d→d∉kt R q)(hI:yv R A st V X)(pB:i∉A):rS (jA (jH R A st V X) (gz R i) (V i)) (jH R A st V (i::X)):=by
 have e0:fD st (gz R) V (i::X)=jA (fD st (gz R) V X) (gz R i) (V i):=rfl;have hu:(V i).2.map (Am (nh R A X))=(V i).2:=by
  rw[dg (g:=id),List.map_id];rintro⟨k,u⟩ hm;unfold Am;rw[al];rfl;intro hk;obtain⟨q,hq,Eu,hqk⟩:=iJ.1 hk;have h1:=hI q hq Eu k hqk;have h2:=HZ;have e:(fD st (gz R) V (i::X)).us=(V i).2++(fD st (gz R) V X).us:=by simp[iu]
  rw[e,bH,aT]at h2;exact h2.2.2 k (aR.2 ⟨_,hm,rfl⟩) k h1 rfl
 refine⟨?_,fun t=>?_,?_⟩
 ·show(fD st (gz R) V (i::X)).n=_
  have e:∀(s:St)(d:Option Nat)(v:Rs),(jA s d v).n=s.n:=fun s d v=>by cases d<;>rfl
  rw[e]
  show _=(fD st (gz R) V X).n
  rw[iv,iv]
 ·show lk (List.map _ _) t=_
  rw[ko,Hg pB,e0];unfold jA;cases Ev:gz R i with
  |none=>
   show(if _ then _ else lk (fD st (gz R) V X).env t)=lk (List.map _ (fD st (gz R) V X).env) t
   rw[ko]
  |some d=>
   have hf:nh R A X d=false:=by
    cases hu:nh R A X d with
    |false=>rfl
    |true=>
     obtain⟨q,hq,Eu,PK⟩:=iJ.1 hu;exact absurd PK (hpr q hq Eu d Ev)
   show(if _ then _ else lk ((d,(V i).1)::(fD st (gz R) V X).env) t)=lk ((d,(V i).1)::List.map _ (fD st (gz R) V X).env) t
   simp only[lk]
   by_cases e:d=t;subst e;rw[an rfl,an rfl,hf];rfl
   rw[al e,al e,ko]
 show(List.map (Am (nh R A (i::X))) (fD st (gz R) V (i::X)).us).Perm _
 have e1:(jA (jH R A st V X) (gz R i) (V i)).us=(V i).2++(fD st (gz R) V X).us.map (Am (nh R A X)):=by unfold jA;cases gz R i<;>rfl
 have e2:(fD st (gz R) V (i::X)).us=(V i).2++(fD st (gz R) V X).us:=by simp[iu]
 rw[e1,e2,Hg pB,bH,hu]
def XT(hd:nQ P wv ops R st V S N A)(ii:(i::X).Nodup)(hc:∀j∈X,∀k∈fM ops j,k∈X)(hX:∀j∈i::X,j∈N)(hI:yv R A st V X)(pB:i∉A):rS (jA (jH R A st V X) (gz R i) (V i)) (jH R A st V (i::X)):=
 HB (jt hd.Cy hd.keys ii hX).1 (fun q hq Eu d Ev PK=>(aP.1 ii).1 (hc q Eu i (hd.prod q hq d PK i Ev).2)) hI pB
def Do(hI:yv R A st V X)(hq:i∈A→∀k∈kt R i,k∈(fD st (gz R) V X).us.map (·.1)):yv R A st V (i::X):=by
 intro q h1 h2 k hk;have e:(fD st (gz R) V (i::X)).us=(V i).2++(fD st (gz R) V X).us:=by simp[iu]
 rw[e,bH];refine dG _ ?_;rcases aj.1 h2 with rfl|h2
 exact hq h1 k hk;exact hI q h1 h2 k hk
def sN:(fD st (gz R) V (i::X)).us=(V i).2++(fD st (gz R) V X).us:=by simp[iu]
variable {v:Rs}{s:St}
def pv.A5(hp:n7 A R i=.a d sz b x y)(h:pv P (n7 A R i) s v):∃nn es d0,FH s d sz b x y nn es d0∧v=A5 d sz es d0:=by
 rw[hp]at h;exact h
def v7{us:List (Nat×U)}(h:(us.map (·.1)).Nodup):us.Nodup:=by
 induction us with
 |nil=>exact bC
 |cons x us ih=>
  rw[lC,aP]at h;exact aP.2 ⟨fun hx=>h.1 (aR.2 ⟨x,hx,rfl⟩),ih h.2⟩
def EO{Q:Exit→Act→World→Prop}(hd:nQ P wv ops R st V S N A)(h:kj P ops R X fE)(hX:∀i∈X,i∈N)(hI:yv R A st V X)(hi:i∈N)(pB:i∈A)(ho:ops[i]?=some o)(hr:R[i]?=some r)(fv:iO P wv st.n ops o=some r)
  (hw:∀j∈fM ops i,j∈X) (hn:i∉X) (hs:ju n0 S0 M0 w0 (jH R A st V X) a w):
  wpOp P ops Q i (fun a w=>ju n0 S0 M0 w0 (jH R A st V (i::X)) a w) a w∧yv R A st V (i::X):=by
 obtain⟨d,sz,b,x,y,hra,PL,jM⟩:=hd.pa i pB;rw[hr]at hra;injection hra with hra;subst hra;have hbN:∀j∈qt N i,j∈N:=fun j hj=>(lR.1 hj).1;have hX':∀j∈i::X,j∈N:=fun j hj=>(aj.1 hj).elim (fun e=>e▸hi) (hX j);have rf:(i::X).Nodup:=aP.2 ⟨hn,h.nd⟩;have Ev:gz R i=some d:=by simp[gz,hr,lz.dst]
 obtain⟨nn,es,d0,hB,hV⟩:=pv.A5 PL (hd.step i hi);have ll:∀t∈(⟨none,.app d sz b (.t x) (.t y)⟩:RO).jU,(jH R A st V X).get t=(jH R A st V (qt N i)).get t:=fun t ht=>vW hd h hi hr hw hn ht;have gx:(jH R A st V X).get x=.tr x:=by rw[ll x (rC.2 (.inl rfl))];exact hB.gx
 have gy:(jH R A st V X).get y=.vb y 1:=by rw[ll y (rC.2 (.inr rfl))];exact hB.gy
 have kZ:∀Y:List Nat,i∉Y→∀t∈kt R i,nh R A Y t=false:=fun Y hY t ht=>by
  cases hu:nh R A Y t with
  |false=>rfl
  |true=>
   obtain⟨q,hq,hqY,hqt⟩:=iJ.1 hu;have hts:t∈(⟨none,.app d sz b (.t x) (.t y)⟩:RO).jU:=by rw[jM]at ht;exact rC.2 (by simpa using ht)
   exact absurd (hd.use i _ t hi hr hts q hq hqt▸hqY) hY
 have hxm:x∈kt R i:=by rw[jM];simp
 have hym:y∈kt R i:=by rw[jM];simp
 have hib:i∉qt N i:=fun hm=>by have:=(lR.1 hm).2;omega
 obtain⟨g,hu,hv⟩:=hs.gh;have kX:=Nh hd h.nd hX;have ux:(jH R A st V X).unit x=some (.own (.ls nn sz es)):=by
  have:=hv x;rw[show lk (jH R A st V X).env x=.tr x from gx]at this;simp only[fx]at this;obtain⟨⟨d',hm⟩,_⟩:=this;have e:=vk hd h.nd hX (TT hd.Cy) hbN hm (fB hB.ux) (by rw[kZ X hn x hxm,kZ _ hib x hxm]);rw[e]at hm;exact iA kX hm
 have uy:(jH R A st V X).unit y=some (.bx sz [.im none d0]):=by
  have:=hv y;rw[show lk (jH R A st V X).env y=.vb y 1 from gy]at this;simp only[fx]at this;obtain⟨gv,items,b',hm,_⟩:=this;have e:=vk hd h.nd hX (TT hd.Cy) hbN hm (fB hB.uy) (by rw[kZ X hn y hym,kZ _ hib y hym]);rw[e]at hm;exact iA kX hm
 have HZ:=jt hd.Cy hd.keys rf hX';have ad5:=HZ.1;rw[sN,hV]at ad5;have hdX:d∉(fD st (gz R) V X).us.map (·.1):=by
  have h1:(d::(fD st (gz R) V X).us.map (·.1)).Nodup:=ad5;exact(aP.1 h1).1
 have hdS:d∉(jH R A st V X).us.map (·.1):=by
  show d∉(List.map _ _).map _
  rw[ro];exact hdX
 have hPA:FH (jH R A st V X) d sz b x y nn es d0:=⟨gx,gy,ux,uy,hB.ne,hB.pos,hB.fl,hB.ds,hB.b1,hB.b2,by simp only[St.fresh,o9,bU];exact vf hdS⟩;have hxS:=fB ux;have hyS:=fB uy;have hxd:x≠d:=fun e=>hdS (e▸aR.2 ⟨_,hxS,rfl⟩);have hyd:y≠d:=fun e=>hdS (e▸aR.2 ⟨_,hyS,rfl⟩);refine⟨?_,Do hI fun _ k hk=>?_⟩
 ·have HY:(jH R A st V X).n=st.n:=iv;have key:=nM (R:=⟨none,.app d sz b (.t x) (.t y)⟩) (Q':=Q) (by rw[HY];exact fv) hs (Zv hPA);have zz:o.guard=none:=by
   have fZ:=fv;unfold iO at fZ;simp only[oD,oB,fw]at fZ;obtain⟨_,_,_,_,_,_,fZ⟩:=fZ
   split at fZ
   ·assumption
   simp only[oB,oP,oS]at fZ;obtain⟨_,_,_,_,fZ⟩:=fZ;injection fZ with hg;cases hg
  have wS:Region.wanted o (yielded ops a.tmps)=true:=by simp[Region.wanted,zz]
  unfold wpOp;rw[ho];simp only;rw[wS,an rfl];refine .inl (cZ ?_ (key.1 wS));rintro a' w' ⟨GF,hn'',rfl,ahY⟩;have tb:y∉((((jH R A st V X).del y).del x).iQ [(d,.own (.ls (some false) sz (es++[d0])))] |>.set d (.tr d)).us.map (·.1):=by
   intro hm;have su:y∈d::(fQ x (AV.refs x) (fQ y (AV.refs y) (jH R A st V X).us)).map (·.1):=hm;rcases aj.1 su with e|su
   exact hyd e;rw[gn,gn]at su;have:=(aX.1 (aX.1 su).1).2;simp at this
  have s1:=Md ahY tb;have s2:=Md (k:=x) s1 (by
   intro hm;have su:x∈y::d::(fQ x (AV.refs x) (fQ y (AV.refs y) (jH R A st V X).us)).map (·.1):=hm;rcases aj.1 su with e|su
   exact hB.ne e;rcases aj.1 su with e|su
   exact hxd e;rw[gn]at su;have:=(aX.1 su).2;simp at this)
  refine s2.eqS ⟨?_,fun t=>?_,?_⟩
  ·show(fD st (gz R) V (i::X)).n=(fD st (gz R) V X).n
   rw[iv,iv]
  ·show lk (List.map _ (fD st (gz R) V (i::X)).env) t=lk ((d,.tr d)::iy (AV.refs x) (iy (AV.refs y) (jH R A st V X).env)) t
   have e0:(fD st (gz R) V (i::X)).env=(d,.tr d)::(fD st (gz R) V X).env:=by
    simp only[fD,Ev,hV,A5,jA,St.kl,St.set,St.iQ]
   rw[ko,e0];have ng:∀t,nh R A (i::X) t=(nh R A X t||(kt R i).contains t):=fun t=>by
    rw[eb,iJ,cm,iJ,bM,bn];constructor
    ·rintro⟨q,h1,h2,h3⟩;rcases aj.1 h2 with rfl|h2
     exact .inr h3;exact .inl ⟨q,h1,h2,h3⟩
    rintro(⟨q,h1,h2,h3⟩|h3)
    ·exact⟨q,h1,by simp[h2],h3⟩
    exact⟨i,pB,by simp,h3⟩
   have H2:lk (iy (AV.refs x) (iy (AV.refs y) (jH R A st V X).env)) t=if(if(lk (jH R A st V X).env t).refs y=true then AV.any else lk (jH R A st V X).env t).refs x=true then .any else(if(lk (jH R A st V X).env t).refs y=true then AV.any else lk (jH R A st V X).env t):=by rw[yB,yB]
   have c1:∀{e:List (Nat×AV)},lk ((d,AV.tr d)::e) t=if d=t then .tr d else lk e t:=rfl
   rw[c1,c1,H2]
   by_cases e:d=t
   ·subst e;rw[an rfl,an rfl];rw[al];intro hu;obtain⟨q,hq,Eu,PK⟩:=iJ.1 hu;have hp:=hd.prod q hq d PK i Ev;rcases aj.1 Eu with rfl|Eu
    omega;exact hn (h.closed q Eu i hp.2)
   rw[al e,al e]
   by_cases ex:t=x
   ·subst ex;rw[show lk (jH R A st V X).env t=.tr t from gx,ng,jM];have:(t==y)=false:=by simpa using hB.ne
    simp[AV.refs,this]
   by_cases ey:t=y
   ·subst ey;rw[show lk (jH R A st V X).env t=.vb t 1 from gy,ng,jM];simp[AV.refs]
   have hl:lk (jH R A st V X).env t=if nh R A X t=true then .any else lk (fD st (gz R) V X).env t:=ko
   have q1:=hd.cl pB hxm hX ex;have q2:=hd.cl pB hym hX ey;have hct:(kt R i).contains t=false:=by rw[jM];simp[ex,ey]
   rw[hl,ng,hct,ab]
   by_cases hu:nh R A X t=true;simp[hu,AV.refs];rw[al hu,q2];simp[q1]
  have hnt:((jH R A st V (i::X)).us.map (·.1)).Nodup:=Nh hd rf hX';have VR:((fQ x (AV.refs x) (fQ y (AV.refs y) (jH R A st V X).us)).map (·.1)).Nodup:=by
   rw[gn,gn];exact(kX.filter _).filter _
  have yS:(((x,U.own .jk)::(y,U.own .jk)::(d,U.own (.ls (some false) sz (es++[d0])))::fQ x (AV.refs x) (fQ y (AV.refs y) (jH R A st V X).us)).map (·.1)).Nodup:=by
   simp only[lC,aP,aj,cA];refine⟨⟨hB.ne,hxd,?_⟩,⟨hyd,?_⟩,?_,VR⟩;rw[gn];intro hm;simpa using(aX.1 hm).2;rw[gn,gn];intro hm;simpa using(aX.1 (aX.1 hm).1).2;rw[gn,gn];intro hm;exact hdS (aX.1 (aX.1 hm).1).1
  refine(dR (v7 hnt) (v7 yS)).2 ?_;rintro⟨k,u⟩;have aao:∀{k':Nat} {v:U},(k',v)∈(fD st (gz R) V X).us→∀z∈kt R i,v.kill (AV.refs z)=v:=fun hm z hz=>hd.clu i pB z hz _ ((jt hd.Cy hd.keys h.nd hX).2 _ hm);have ng:∀t,nh R A (i::X) t=(nh R A X t||(kt R i).contains t):=fun t=>by
   rw[eb,iJ,cm,iJ,bM,bn];constructor
   ·rintro⟨q,h1,h2,h3⟩;rcases aj.1 h2 with rfl|h2
    exact .inr h3;exact .inl ⟨q,h1,h2,h3⟩
   rintro(⟨q,h1,h2,h3⟩|h3)
   ·exact⟨q,h1,by simp[h2],h3⟩
   exact⟨i,pB,by simp,h3⟩
  have Cl:∀{k':Nat} {v:U},(k',v)∈(jH R A st V X).us→∀z∈kt R i,v.kill (AV.refs z)=v:=fun hm z hz=>by
   obtain⟨v',m1,e1⟩:=oX.1 hm;rw[e1]
   split;rfl;exact aao m1 z hz
  have hdu:nh R A (i::X) d=false:=by
   cases hu:nh R A (i::X) d with
   |false=>rfl
   |true=>
    exfalso;obtain⟨q,hq,Eu,PK⟩:=iJ.1 hu;have hp:=hd.prod q hq d PK i Ev;rcases aj.1 Eu with rfl|Eu
    omega;exact hn (h.closed q Eu i hp.2)
  show(k,u)∈(fD st (gz R) V (i::X)).us.map (Am (nh R A (i::X)))↔_
  rw[oX,sN,hV];simp only[A5,ax,aj,bg,or_false,cM];constructor
  ·rintro⟨v,(⟨rfl,rfl⟩|hm),EJ⟩;rw[hdu]at EJ;exact .inr (.inr (.inl ⟨rfl,by simpa using EJ⟩))
   by_cases ex:k=x
   ·subst ex;rw[ng,jM]at EJ;exact .inl ⟨rfl,by simpa using EJ⟩
   by_cases ey:k=y;subst ey;rw[ng,jM]at EJ;exact .inr (.inl ⟨rfl,by simpa using EJ⟩)
   refine .inr (.inr (.inr ?_));have hct:(kt R i).contains k=false:=by rw[jM];simp[ex,ey]
   rw[ng,hct,ab]at EJ;have AT:(k,u)∈(jH R A st V X).us:=oX.2 ⟨v,hm,EJ⟩;have h1:=iY (f:=AV.refs y) AT ey;rw[Cl AT y hym]at h1;have h2:=iY (f:=AV.refs x) h1 ex;rw[Cl AT x hxm]at h2;exact h2
  rintro(⟨rfl,rfl⟩|⟨rfl,rfl⟩|⟨rfl,rfl⟩|hm)
  ·obtain⟨v',m1,_⟩:=oX.1 hxS;exact⟨v',.inr m1,by rw[ng,jM];simp⟩
  ·obtain⟨v',m1,_⟩:=oX.1 hyS;exact⟨v',.inr m1,by rw[ng,jM];simp⟩
  ·exact⟨_,.inl ⟨rfl,rfl⟩,by rw[hdu];rfl⟩
  obtain⟨hkx,u1,V0,e1⟩:=gf hm;obtain⟨hky,u2,AT,e2⟩:=gf V0;simp only at hkx hky V0 AT e1 e2;rw[Cl AT y hym]at e2;subst e2;rw[Cl AT x hxm]at e1;subst e1;obtain⟨v',m1,e3⟩:=oX.1 AT;have hct:(kt R i).contains k=false:=by rw[jM];simp[hkx,hky]
  exact⟨v',.inr m1,by rw[ng,hct,ab];exact e3⟩
 rw[jM]at hk;have qr:k=x∨k=y:=by simpa using hk
 have:k∈(jH R A st V X).us.map (·.1):=by
  rcases qr with rfl|rfl
  exact aR.2 ⟨_,hxS,rfl⟩;exact aR.2 ⟨_,hyS,rfl⟩
 have h2:k∈(List.map (Am (nh R A X)) (fD st (gz R) V X).us).map (·.1):=this;rw[ro]at h2;exact h2
def xx{Q:Exit→Act→World→Prop}
  (hd:nQ P wv ops R st V S N A) (h:kj P ops R X fE) (hX:∀i∈X,i∈N) (hI:yv R A st V X) (hi:i∈N) (pB:i∉A) (ho:ops[i]?=some o) (hr:R[i]?=some r) (fv:iO P wv st.n ops o=some r)
  (hw:∀j∈fM ops i,j∈X) (hn:i∉X) (hs:ju n0 S0 M0 w0 (jH R A st V X) a w):
  wpOp P ops Q i (fun a w=>ju n0 S0 M0 w0 (jH R A st V (i::X)) a w) a w:=by
 obtain⟨op,wR,my,hQ,h1,oO,⟨g,nl⟩,ll,Er⟩:=AG hd h hX hi pB hr fv hw hn hs;have HY:(jH R A st V X).n=st.n:=iv;have rf:(i::X).Nodup:=aP.2 ⟨hn,h.nd⟩;have hX':∀j∈i::X,j∈N:=fun j hj=>(aj.1 hj).elim (fun e=>e▸hi) (hX j);have HZ:=jt hd.Cy hd.keys rf hX';have nm:=XT hd rf h.closed hX' hI pB;have uv:gz R i=r.op.dst:=by simp[gz,hr]
 have te:(V i).2=[]∨(jH R A st V X).fresh (V i).2=true:=.inr (tW (by
  have e:(fD st (gz R) V (i::X)).us=(V i).2++(fD st (gz R) V X).us:=by simp[iu]
  have h1:=HZ.1;rw[e,bH]at h1;rw[bH];have h2:(jH R A st V X).us.map (·.1)=(fD st (gz R) V X).us.map (·.1):=ro;rw[h2];exact h1))
 rw[uv]at nm;have gD:ji P r (jH R A st V (qt N i)) (V i):=by
  have h1:=hd.step i hi;rw[tS pB,show R.getD i default=r by simp[bi,hr]]at h1;exact h1
 have run:∀{Q':Exit→Act→World→Prop},QD P r.op (jH R A st V (qt N i)) (V i)→o.wp P a w (fun a w=>ju n0 S0 M0 w0 (jH R A st V (i::X)) a w) Q':=by
  intro Q' hq;have ov:=Er hq;rw[my]at ov;have⟨h5,h6⟩:=w5 (Q':=Q') (n:=st.n) wR hQ HY nl ov;refine cZ ?_ h5;rintro a' w' ⟨av,us,⟨rfl,rfl⟩,hS⟩;have h7:=hS te;rw[←h6,←my]at h7;exact h7.eqS nm
 have hu:=nl.us;have hv:=nl.rep;have fZ:=fv;unfold iO at fZ;simp only[oD,oB,fw]at fZ;obtain⟨op',Cj,_,_,_,_,fZ⟩:=fZ;rw[wR]at Cj;injection Cj with Cj;subst Cj;have skip:V i=(.jS [],[])→ju n0 S0 M0 w0 (jH R A st V (i::X)) (a.put o.dst undef) w:=by
  intro hV;refine ju.eqS ?_ nm;rw[hV,my,h1];unfold jA;rw[jC];exact gW hs hu hv oO nH
 unfold wpOp;rw[ho];simp only
 split at fZ
 ·next hg=>
  simp only[oP,oS]at fZ;subst fZ;have:Region.wanted o (yielded ops a.tmps)=true:=by simp[Region.wanted,hg]
  rw[this,an rfl];exact .inl (run gD)
 next j b hg=>
 simp only[oB,oP,oS]at fZ;obtain⟨p,hp,t,ht,rfl⟩:=fZ;rcases gD with⟨tk,c,hc,hy,kZ⟩|⟨hc,kZ⟩
 ·rw[←ll t (dG _ (by simp))]at hc;have yP:=hv t;have yG:lk (jH R A st V X).env t=.im tk (.sc (.bool c)):=hc;rw[yG]at yP;have yQ:=gU yP;have US:=pG (ops:=ops) hp ht yQ;have wS:Region.wanted o (yielded ops a.tmps)=(some c==some b):=by simp[Region.wanted,hg,US]
  rw[wS]
  by_cases e:c=b;rw[an (by simp[e])];exact .inl (run (hy e));rw[al (by simp[e])];exact skip (kZ (by cases c<;>cases b<;>simp_all))
 rw[←ll t (dG _ (by simp))]at hc;have yP:=hv t;have yG:lk (jH R A st V X).env t=.jS []:=hc;rw[yG]at yP;have wS:Region.wanted o (yielded ops a.tmps)=false:=by simp[Region.wanted,hg,mC (ops:=ops) hp ht (rz yP)]
 rw[wS,al (by simp)];exact skip kZ
def FT{K:Exit→St→Prop}{S:List Nat}{e:Nat}{es:List Nat}{sE:St}(hd:nQ P wv ops R st V S (NL S R) A)(hsE:rS (jH R A st V (NL S R).reverse) sE)(hE:EL S R=e::es)(zC:nq ops (e::es)=true)(yS:Region.noSelect ops=true)
  (PG:∀i∈NL S R,lG ops R i=true∨i∈fM ops e∨∃k∈NL S R,i<k∧(lG ops R k=false∨k∈fM ops e∨∃j∈NL S R,k<j∧lG ops R j=false∧k∈fM ops j)∧i∈fM ops k)
  (wT:gl P ((e::es).map fun i=>R.getD i default) sE K):∀(fuel:Nat)(X:List Nat)(fE:Array Bool)(a:Act)(w:World),
  kj P ops R X fE→(∀i∈X,i∈NL S R)→yv R A st V X→fuel+X.length=ops.size→ju n0 S0 M0 w0 (jH R A st V X) a w→wpAny P .any ops (fun e a w=>e=.normal∧kU n0 S0 M0 w0 st.n K e a w) fuel fE a w:=by
 have mD:e<ops.size:=by
  have:e∈EL S R:=by rw[hE];simp
  rw[←hd.len];exact(jN.1 this).1
 have heN:e∉NL S R:=by
  have:e∈EL S R:=by rw[hE];simp
  intro h;have h1:=(jN.1 this).2;have h2:=(gG.1 h).2;rw[h1]at h2;cases h2
 have fin:∀(fuel:Nat)(X:List Nat)(fE:Array Bool)(a:Act)(w:World),kj P ops R X fE→(∀i∈X,i∈NL S R)→yv R A st V X→fuel+X.length=ops.size→ju n0 S0 M0 w0 (jH R A st V X) a w→(∀i∈NL S R,i∈X)→
   wpAny P .any ops (fun e a w=>e=.normal∧kU n0 S0 M0 w0 st.n K e a w) fuel fE a w:=by
  intro fuel X fE a w h hX hI hl hs gF;have hp:X.Perm (NL S R).reverse:=(dR h.nd ((dI _).nodup_iff.2 hd.Cy)).2 fun i=>by
   rw[dj];exact⟨hX i,gF i⟩
  have nB:ju n0 S0 M0 w0 (jH R A st V (NL S R).reverse) a w:=by
   have KJ:nh R A X=nh R A (NL S R).reverse:=by
    funext t
    rw[eb,iJ,iJ];constructor
    ·rintro⟨q,h1,h2,h3⟩;exact⟨q,h1,hp.mem_iff.1 h2,h3⟩
    rintro⟨q,h1,h2,h3⟩;exact⟨q,h1,hp.mem_iff.2 h2,h3⟩
   refine hs.eqv (show(fD st (gz R) V (NL S R).reverse).n=(fD st (gz R) V X).n by rw[iv,iv]) ?_ ?_
   ·intro t
    show lk (List.map _ _) t=lk (List.map _ _) t
    rw[ko,ko,KJ];have x:=je (gR:=st) (V:=V) hd.inj (L:=X) (t:=t);have y:=je (gR:=st) (V:=V) hd.inj (L:=(NL S R).reverse) (t:=t)
    by_cases he:∃j,j∈X∧gz R j=some t
    ·obtain⟨j,h1,h2⟩:=he;rw[x.1 j h1 h2,y.1 j (hp.mem_iff.1 h1) h2]
    rw[x.2 fun k hk e=>he ⟨k,hk,e⟩,y.2 fun k hk e=>he ⟨k,hp.mem_iff.2 hk,e⟩]
   show(List.map _ _).Perm (List.map _ _)
   rw[KJ,iu,iu];exact((hp.flatMap_right _).append_right _).symm.map _
  have ad3:X.length+(e::es).length=ops.size:=by
   have h1:X.length=(NL S R).length:=by rw[hp.length_eq,List.length_reverse]
   have h2:(NL S R).length+(EL S R).length=R.length:=by
    unfold NL EL;have:∀l:List Nat,(l.filter fun i=>S.contains i).length+(l.filter fun i=>!S.contains i).length=l.length:=by
     intro l
     induction l with
     |nil=>rfl
     |cons x l ih=>
      simp only[List.filter_cons,lK]
      by_cases hx:S.contains x=true;simp only[hx,aK,bT,kY,aH,lK];omega
      have EG:S.contains x=false:=by simpa using hx
      simp only[EG,aK,bN,kY,aH,lK];omega
    simpa using this (List.range R.length)
   rw[h1,←hE,h2,hd.len]
  have PH:fuel=(e::es).length:=by omega
  rw[PH];refine FC hd.len hd.res hd.lj (e::es) fE _ a w h.size ?_ zC ?_ (nB.eqS hsE) (by rw[hsE.n];exact iv) wT
  ·intro j hj;rw[h.li j hj];have V1:j<R.length:=by rw[hd.len];exact hj
   constructor;intro hx hm;rw[←hE]at hm;have h1:=(jN.1 hm).2;have h2:=(gG.1 (hX j hx)).2;rw[h1]at h2;cases h2;intro hm;rw[←hE]at hm;refine gF j (gG.2 ⟨V1,?_⟩);cases hq:S.contains j with
   |true=>rfl
   |false=>exact absurd (jN.2 ⟨V1,hq⟩) hm
  intro x hx;rw[←hE]at hx;rw[←hd.len];exact(jN.1 hx).1
 intro fuel
 induction fuel with
 |zero=>
  intro X fE a w h hX hI hl hs;have:=ky h.nd h.lt (by omega) e mD;exact absurd (hX e this) heN
 |succ fuel ih=>
  intro X fE a w h hX hI hl hs
  by_cases gF:∀i∈NL S R,i∈X;exact fin (fuel+1) X fE a w h hX hI hl hs gF
  have mQ:∀i,i<ops.size→i∉X→(∀j∈fM ops i,j∈X)→i∈Region.ready .any ops fE:=by
   intro i hi hm hw;rw[dH];refine⟨?_,ops[i],by simp[hi],fun x hx hb=>?_⟩
   ·cases hc:fE.getD i true with
    |false=>rfl
    |true=>exact absurd ((h.li i hi).1 hc) hm
   have VU:x.on∈fM ops i:=by
    simp only[fM,c9 hi,mT];exact aR.2 ⟨x,aX.2 ⟨by simpa using hx,hb⟩,rfl⟩
   have l9:=hw _ VU;have:=(h.li x.on (h.lt _ l9)).2 l9;rw[bD]at this⊢;have hs:x.on<fE.size:=by rw[h.size];exact h.lt _ l9
   rw[c9 hs]at this⊢;exact this
  by_cases hF:∃f∈NL S R,f∉X∧lG ops R f=true∧∀j∈fM ops f,j∈X
  ·obtain⟨f,Es,K1,il,Et⟩:=hF;have hfs:f<ops.size:=by rw[←hd.len];exact(gG.1 Es).1
   have Cd:=mQ f hfs K1 Et;obtain⟨h1,h2,o,ho,h3⟩:=h.next Cd;obtain⟨r,hr,fv⟩:=hd.res f o ho;have hfA:f∉A:=fun hA=>by
    obtain⟨d,sz,b,x,y,hra,_⟩:=hd.pa f hA;unfold lG at il;rw[ho,hra]at il;simp[lz.GQ]at il
   unfold lG at il;rw[ho,hr]at il;simp only[bA,d9,aY,b9]at il;obtain⟨⟨H0,il⟩,Cx⟩:=il;obtain⟨op,wR,my,hQ,uv,oO,⟨g,nl⟩,ll,Er⟩:=AG hd h hX Es hfA hr fv Et K1 hs;have gD:ji P r (jH R A st V (qt (NL S R) f)) (V f):=by
    have h1:=hd.step f Es;rw[tS hfA,show R.getD f default=r by simp[bi,hr]]at h1;exact h1
   unfold ji at gD;rw[H0]at gD;have ov:=Er gD;rw[my]at ov il;obtain⟨v,hv⟩:=nz wR il nl ov;have zz:o.guard=none:=by
    have fZ:=fv;unfold iO at fZ;simp only[oD,oB,fw]at fZ;obtain⟨_,_,_,_,_,_,fZ⟩:=fZ
    split at fZ
    ·assumption
    simp only[oB,oP,oS]at fZ;obtain⟨_,_,_,_,fZ⟩:=fZ;rw[←fZ]at H0;cases H0
   have wS:Region.wanted o (yielded ops a.tmps)=true:=by simp[Region.wanted,zz]
   have nm:ju n0 S0 M0 w0 (jH R A st V (f::X)) (a.put o.dst v) w:=by
    have:=xx (Q:=fun _ _ _=>False) hd h hX hI Es hfA ho hr fv Et K1 hs;unfold wpOp at this;rw[ho]at this;simp only[wS,aK]at this;rcases this with h4|⟨_,a',w',h4⟩
    unfold Oper.wp at h4;rw[hv w]at h4;exact h4;exact h4.elim
   refine wpAny_first ho (dV yS) (fun c a w hh=>absurd hh.1 (by simp)) fuel fE a w ?_ Cd (.inl ⟨wS,hv⟩) (ih (f::X) _ _ w h1 (fun i hi=>(aj.1 hi).elim (fun e=>e▸Es) (hX i)) (Do hI fun hA=>absurd hA hfA) (by simp only[lK];omega) nm);intro j oj hj gw gZ kZ;have GO:=(bh.1 hj).1;have:=Cx j GO;rw[hj]at this;simp only[cm,bB,gw,dK,bM,bn]at this;rcases this with h4|h4|h4
   exact absurd ((h.li j GO).2 (Et j h4)) (by rw[gZ];simp);simp only[fM,hj,mT]at h4;obtain⟨x,hx,hxe⟩:=aR.1 h4;obtain⟨za,Cw⟩:=aX.1 hx;exact absurd hxe (kZ x (by simpa using za) Cw);exact h4
  have yT:(∀j∈fM ops e,j∈X)→False:=by
   intro hw;have hnf:∀m i,i∈NL S R→R.length-i≤m→lG ops R i=false→i∈X:=by
    intro m
    induction m with
    |zero=>intro i hi hm _;have:=(gG.1 hi).1;omega
    |succ m ihm=>
     intro i hi hm il;rcases PG i hi with h1|h1|⟨k,hk,h1,h2,h3⟩
     rw[il]at h1;cases h1;exact hw i h1;rcases h2 with h2|h2|⟨j,hj,h4,h5,h6⟩
     exact h.closed k (ihm k hk (by omega) h2) i h3;exact h.closed k (hw k h2) i h3;exact h.closed k (h.closed j (ihm j hj (by omega) h5) k h6) i h3
   refine gF ?_;intro i
   induction i using Nat.strongRecOn with
   |ind i PI=>
    intro hi;cases il:lG ops R i with
    |false=>exact hnf _ i hi (aU _) il
    |true=>
     refine cN fun gw=>hF ⟨i,hi,gw,il,fun j hj=>PI j (hd.lj i j hj) (hd.nw i hi j hj)⟩
  refine⟨fun h0=>?_,fun i hi=>?_⟩
  ·exfalso;refine gF ?_;intro i
   induction i using Nat.strongRecOn with
   |ind i PI=>
    intro hi;refine cN fun gw=>?_;have:=mQ i (by rw[←hd.len];exact(gG.1 hi).1) gw fun j hj=>PI j (hd.lj i j hj) (hd.nw i hi j hj);rw[h0]at this;cases this
  obtain⟨h1,h2,o,ho,h3⟩:=h.next hi;have his:=(bh.1 ho).1;have P6:i∈NL S R:=by
   have Ld:i<R.length:=by rw[hd.len];exact his
   refine gG.2 ⟨Ld,?_⟩;cases hq:S.contains i with
   |true=>rfl
   |false=>
    exfalso;have hm:i∈e::es:=by rw[←hE];exact jN.2 ⟨Ld,hq⟩
    rcases aj.1 hm with rfl|hm
    exact yT h3;obtain⟨q,Eo,hq2⟩:=dU.1 hm;have hw:=(pV zC).2 q (by simp;omega);have e1:(e::es)[q+1]'(by simp;omega)=i:=by simpa using hq2
    rw[e1]at hw;have pZ:(e::es)[q]'(by simp;omega)∈EL S R:=by rw[hE];exact aZ _
    have h4:=(gG.1 (hX _ (h3 _ hw))).2;rw[(jN.1 pZ).2]at h4;cases h4
  obtain⟨r,hr,fv⟩:=hd.res i o ho
  by_cases pB:i∈A
  ·obtain⟨k1,k2⟩:=EO hd h hX hI P6 pB ho hr fv h3 h2 hs;refine dT ?_ k1;intro a' w' nB;exact ih (i::X) _ a' w' h1 (fun j hj=>(aj.1 hj).elim (fun e=>e▸P6) (hX j)) k2 (by simp only[lK];omega) nB
  refine dT ?_ (xx hd h hX hI P6 pB ho hr fv h3 h2 hs);intro a' w' nB;exact ih (i::X) _ a' w' h1 (fun j hj=>(aj.1 hj).elim (fun e=>e▸P6) (hX j)) (Do hI fun hA=>absurd hA pB) (by simp only[lK];omega) nB
variable {s':St}
def rS.symm(h:rS s s'):rS s' s:=⟨h.n.symm,fun t=>(h.lk t).symm,h.us.symm⟩
def rS.trans{GF:St}(h:rS s s')(h':rS s' GF):rS s GF:=⟨h'.n.trans h.n,fun t=>(h'.lk t).trans (h.lk t),h'.us.trans h.us⟩
def rS.app(h:rS s s'){d:Option Nat}:rS (jA s d v) (jA s' d v):=by
 unfold jA;cases d with
 |none=>exact⟨h.n,h.lk,h.us.append_left _⟩
 |some d=>
  refine⟨h.n,fun t=>?_,h.us.append_left _⟩
  show Ax.lk ((d,v.1)::s'.env) t=Ax.lk ((d,v.1)::s.env) t
  simp only[Ax.lk]
  split;rfl;exact h.lk t
def rS.pa{nn:Option Bool}{es:List D}{d0:D}(h:rS s s')(hk:(s.us.map (·.1)).Nodup)(hp:FH s d sz b x y nn es d0):FH s' d sz b x y nn es d0:=
 ⟨(h.lk x).trans hp.gx,(h.lk y).trans hp.gy,by rw[h.unit hk];exact hp.ux,by rw[h.unit hk];exact hp.uy,hp.ne,hp.pos,hp.fl,hp.ds,hp.b1,hp.b2,h.fresh hp.fr⟩
def rS.ad6{p:PO}(h:rS s s')(hk:(s.us.map (·.1)).Nodup)(hs:pv P p s v):pv P p s' v:=by
 cases p with
 |q r=>exact h.step hk hs
 |a d sz b x y=>
  obtain⟨nn,es,d0,h1,h2⟩:=hs;exact⟨nn,es,d0,h.pa hk h1,h2⟩
def BQ:∀{us:List (Nat×U)},Cq k us=us.map fun z=>(z.1,if z.1=k then .own .jk else z.2)
 | []=>rfl
 |(i,u)::r=>by simp only[Cq,lC,BQ (us:=r)]
def xv(pB:i∈A)(t:Nat):nh R A (i::X) t=(nh R A X t||(kt R i).contains t):=by
 rw[eb,iJ,cm,iJ,bM,bn];constructor
 ·rintro⟨q,h1,h2,h3⟩;rcases aj.1 h2 with rfl|h2
  exact .inr h3;exact .inl ⟨q,h1,h2,h3⟩
 rintro(⟨q,h1,h2,h3⟩|h3)
 ·exact⟨q,h1,by simp[h2],h3⟩
 exact⟨i,pB,by simp,h3⟩
def XM{es:List D}{d0:D}(h:rS (jH R A st V X) s)(pB:i∈A)(Ev:gz R i=some d)(hV:V i=A5 d sz es d0)(jM:kt R i=[x,y])(hd:nh R A (i::X) d=false):
  rS (jH R A st V (i::X)) ⟨s.n,(d,.tr d)::(y,.any)::(x,.any)::s.env,(A5 d sz es d0).2++Cq x (Cq y s.us)⟩:=by
 have e0:fD st (gz R) V (i::X)=jA (fD st (gz R) V X) (some d) (A5 d sz es d0):=by simp only[fD];rw[Ev,hV]
 refine⟨?_,fun t=>?_,?_⟩
 ·rw[show(jH R A st V (i::X)).n=(fD st (gz R) V (i::X)).n from rfl,iv,←iv (gR:=st) (D:=gz R) (V:=V) (L:=X)];exact h.n
 ·have c2:∀(e:List (Nat×AV)),lk ((d,AV.tr d)::(y,.any)::(x,.any)::e) t=if d=t then .tr d else if y=t then .any else if x=t then .any else lk e t:=fun e=>rfl
  rw[c2]
  show _=lk (List.map _ _) t
  rw[ko,e0];have c1:lk (jA (fD st (gz R) V X) (some d) (A5 d sz es d0)).env t=if d=t then .tr d else lk (fD st (gz R) V X).env t:=rfl
  rw[c1]
  by_cases e:d=t
  ·subst e;rw[an rfl,an rfl,hd]
   rfl
  rw[al e,al e,xv pB,jM]
  by_cases ey:y=t
  ·subst ey;rw[an rfl,an (by simp)]
  by_cases ex:x=t
  ·subst ex;rw[al ey,an rfl,an (by simp)]
  rw[al ey,al ex,h.lk t];have hct:[x,y].contains t=false:=by simp[di ex,di ey]
  rw[hct,ab];exact ko
 show((A5 d sz es d0).2++Cq x (Cq y s.us)).Perm (List.map (Am (nh R A (i::X))) (fD st (gz R) V (i::X)).us)
 have e2:(fD st (gz R) V (i::X)).us=(A5 d sz es d0).2++(fD st (gz R) V X).us:=by rw[e0];rfl
 rw[e2,bH];have e3:(A5 d sz es d0).2.map (Am (nh R A (i::X)))=(A5 d sz es d0).2:=by
  simp only[A5,lC,lN,Am,hd]
  rfl
 rw[e3,BQ,BQ];refine List.Perm.append_left _ ?_;refine((h.us.map _).map _).trans ?_
 show((List.map _ (List.map _ (List.map (Am (nh R A X)) (fD st (gz R) V X).us)))).Perm _
 rw[df,df];refine List.Perm.of_eq (dg ?_);rintro⟨k,u⟩ _;simp only[Function.comp,Am,xv pB,jM]
 by_cases h1:nh R A X k=true;simp[h1]
 by_cases ex:k=x
 subst ex;simp[h1]
 by_cases ey:k=y
 subst ey;simp[h1];simp[h1,ex,ey]
def Vm(hA:∀p∈A,∃d sz b x y,n7 A R p=.a d sz b x y∧kt R p=[x,y]∧gz R p=some d)(hpr:∀q∈A,∀t∈kt R q,∀j,gz R j=some t→j<q):∀{N:List Nat} {rl:List Rs} {s s':St} {L:List Nat},N.Pairwise (· <·)→(∀j∈L,∀i∈N,j<i)→(∀i∈N,i<R.length)→Mv P (N.map (n7 A R)) rl s s'→rS (jH R A st V L) s→N.map V=rl→
  (s.us.map (·.1)).Nodup→yv R A st V L→
  rS (jH R A st V (N.reverse++L)) s'∧(s'.us.map (·.1)).Nodup∧(∀(p:Nat)(hp:p<N.length),pv P (n7 A R N[p]) (jH R A st V ((N.take p).reverse++L)) (V N[p]))∧
   (∀z∈s.env,z∈s'.env)∧∀i∈N,∀t,gz R i=some t→(t,(V i).1)∈s'.env
 | [],rl,s,s',L,_,_,_,h,e,hV,hk,_=>by
  simp only[lN]at hV h;subst hV;simp only[Mv]at h;subst h;exact⟨by simpa using e,hk,by simp,fun _ h=>h,by simp⟩
 |i::N,rl,s,s',L,PE,hLN,gI,h,e,hV,hk,hI=>by
  simp only[lC]at hV h;subst hV;simp only[Mv]at h;obtain⟨rO,hlx⟩:=h;rw[ef]at PE;have aap:((fD st (gz R) V L).us.map (·.1)).Perm (s.us.map (·.1)):=by
   have h1:=e.us.map (·.1);rw[show(jH R A st V L).us.map (·.1)=(fD st (gz R) V L).us.map (·.1)from ro]at h1;exact h1.symm
  have hnd0:((fD st (gz R) V L).us.map (·.1)).Nodup:=aap.nodup_iff.2 hk;have ahZ:∀j∈i::L,∀k∈N,j<k:=fun j hj k HZ=>by
   rcases aj.1 hj with rfl|hj
   exact PE.1 k HZ;exact hLN j hj k (by simp[HZ])
  have KJ:∀{d:Nat},gz R i=some d→nh R A L d=false:=fun {d} Ev=>by
   cases hu:nh R A L d with
   |false=>rfl
   |true=>
    obtain⟨q,hq,hqL,PK⟩:=iJ.1 hu;have h1:=hpr q hq d PK i Ev;have h2:=hLN q hqL i (by simp);omega
  have ah0:pv P (n7 A R i) (jH R A st V L) (V i):=e.symm.ad6 hk rO;have fin:∀{s1:St},G5 (n7 A R i) s (V i)=s1→rS (jH R A st V (i::L)) s1→(s1.us.map (·.1)).Nodup→yv R A st V (i::L)→(∀z∈s.env,z∈s1.env)→(∀t,gz R i=some t→(t,(V i).1)∈s1.env)→
    rS (jH R A st V ((i::N).reverse++L)) s'∧(s'.us.map (·.1)).Nodup∧(∀(p:Nat)(hp:p<(i::N).length),pv P (n7 A R (i::N)[p]) (jH R A st V (((i::N).take p).reverse++L)) (V (i::N)[p]))∧
     (∀z∈s.env,z∈s'.env)∧∀j∈i::N,∀t,gz R j=some t→(t,(V j).1)∈s'.env:=by
   intro s1 e1 q1 q2 q3 q4 q5;rw[e1]at hlx;obtain⟨r1,r2,r3,r4,r5⟩:=Vm hA hpr PE.2 ahZ (fun j hj=>gI j (by simp[hj])) hlx q1 rfl q2 q3;refine⟨by simpa using r1,r2,fun p hp=>?_,fun z hz=>r4 z (q4 z hz),fun j hj t ht=>?_⟩
   ·cases p with
    |zero=>simpa using ah0
    |succ p=>simpa using r3 p (by simpa using hp)
   rcases aj.1 hj with rfl|hj
   exact r4 _ (q5 t ht);exact r5 j hj t ht
  by_cases pB:i∈A
  ·obtain⟨d,sz,b,x,y,PL,jM,Ev⟩:=hA i pB;obtain⟨nn,es,d0,hB,hVi⟩:=pv.A5 PL rO;have te:=hB.fr;simp only[St.fresh,o9,bU]at te;have kf:=ir te;have uo:x∈s.us.map (·.1):=aR.2 ⟨_,fB hB.ux,rfl⟩;have UL:y∈s.us.map (·.1):=aR.2 ⟨_,fB hB.uy,rfl⟩;have hdu:nh R A (i::L) d=false:=by
    rw[xv pB,KJ Ev,jM];simp only[ae,bM,cI,aj,bg,or_false,cA];exact⟨fun e=>kf (e▸uo),fun e=>kf (e▸UL)⟩
   have hnx:=XM e pB Ev hVi jM hdu;have e1:G5 (n7 A R i) s (V i)=⟨s.n,(d,.tr d)::(y,.any)::(x,.any)::s.env,(A5 d sz es d0).2++Cq x (Cq y s.us)⟩:=by rw[PL,hVi];rfl
   refine fin e1 hnx ?_ (Do hI fun _ k VR=>?_) (fun z hz=>bt _ (bt _ (bt _ hz))) (fun t ht=>?_)
   ·show(List.map _ ((A5 d sz es d0).2++Cq x (Cq y s.us))).Nodup
    rw[bH,yd,yd]
    show(d::s.us.map (·.1)).Nodup
    exact aP.2 ⟨kf,hk⟩
   ·rw[jM]at VR;refine aap.mem_iff.2 ?_;have:k=x∨k=y:=by simpa using VR
    rcases this with rfl|rfl<;>assumption
   rw[Ev]at ht;injection ht with ht;subst ht;exact aj.2 (.inl (by rw[hVi];rfl))
  have PL:=tS (R:=R) pB;have EK:i<R.length:=gI i (by simp);have Ev:(R.getD i default).op.dst=gz R i:=by simp[gz,bi,EK]
  have hnx:G5 (n7 A R i) s (V i)=jA s (gz R i) (V i):=by rw[PL];show jA s (R.getD i default).op.dst (V i)=_;rw[Ev]
  rw[PL]at rO;have te:=HO rO;have PA:((jA s (gz R i) (V i)).us.map (·.1)).Nodup:=by
   have e1:(jA s (gz R i) (V i)).us=(V i).2++s.us:=by unfold jA;cases gz R i<;>rfl
   rw[e1];exact lI hk te
  have HZ:((fD st (gz R) V (i::L)).us.map (·.1)).Nodup:=by
   rw[sN,bH];have e1:(jA s (gz R i) (V i)).us=(V i).2++s.us:=by unfold jA;cases gz R i<;>rfl
   rw[e1,bH]at PA;exact(aap.append_left _).nodup_iff.2 PA
  refine fin hnx ((HB HZ (fun q hq hqL d PY PK=>by have:=KJ PY;rw[iJ.2 ⟨q,hq,hqL,PK⟩]at this;cases this) hI pB).symm.trans e.app) PA (Do hI fun h=>absurd h pB) (fun z hz=>?_) (fun t ht=>?_)
  ·unfold jA;cases gz R i with
   |none=>exact hz
   |some d=>exact bt _ hz
  unfold jA;rw[ht];exact bP
end
def QR(ops:Array Oper)(R:List RO)(i:Nat):Bool:=
 match R[i]? with
 |some r=>(match ID r with
  |some (_,_,_,x,y)=>(List.range R.length).any (fun j=>gz R j==some x&&(fM ops i).contains j)&&(List.range R.length).any (fun j=>gz R j==some y&&(fM ops i).contains j)
  |none=>false)
 |none=>false
def AN(ops:Array Oper)(R:List RO):List Nat:=(List.range R.length).foldl (fun acc i=>if(s6 R i||QR ops R i)&&(fM ops i).all (fun j=>acc.contains j)then i::acc else acc) []
def Mi(ops:Array Oper)(R:List RO)(S:List Nat):List Nat:=(NL S R).filter (QR ops R)
def Hb(S A:List Nat)(ops:Array Oper)(R:List RO):Bool:=
 !A.isEmpty&&yy (R.filterMap (·.op.dst))&&(R.length==ops.size)&&Region.noSelect ops&&
 match EL S R with
 | []=>false
 | e :: es => nq ops (e :: es) && (A.all fun q => (kt R q).all fun t => (List.range R.length).all fun j => gz R j != some t || (decide (j < q) && (fM ops q).contains j)) &&
   (List.range R.length).all fun i=>
   (fM ops i).all (· < i) && (!S.contains i || ((s6 R i || A.contains i) && (fM ops i).all (fun j => S.contains j) && (match R[i]? with | some r => r.jU.all (nI ops R i) && (r.jU.all fun t => A.all fun q => !(kt R q).contains t || i == q) | none => true) &&
    (lG ops R i||(fM ops e).contains i||(List.range R.length).any fun k=>decide (i<k)&&S.contains k&&z8 S ops R e k&&(fM ops k).contains i)))
def Bi(ops:Array Oper)(R:List RO):Bool:=Hb (AN ops R) (Mi ops R (AN ops R)) ops R
def HN(ops:Array Oper)(R:List RO):List PO:=(NL (AN ops R) R).map (n7 (Mi ops R (AN ops R)) R)
def MQ(ops:Array Oper)(R:List RO):List RO:=(EL (AN ops R) R).map fun i=>R.getD i default
def vu{A:List Nat}{R:List RO}{q k:Nat}(hq:q∈A)(hk:k∈kt R q):∀{N:List Nat},q∈N→k∈wd (N.map (n7 A R))
 |j::N,h=>by
  by_cases e:j=q
  ·subst e;have:∃r d sz b x y,R[j]?=some r∧ID r=some (d,sz,b,x,y):=by
    unfold kt at hk
    split at hk
    ·next r hr=>
     split at hk
     ·next d sz b x y hp=>exact⟨r,_,_,_,x,y,hr,hp⟩
     cases hk
    cases hk
   obtain⟨r,d,sz,b,x,y,hr,hp⟩:=this;have hg:R.getD j default=r:=by simp[bi,hr]
   have h1:n7 A R j=.a d sz b x y:=by
    unfold n7;rw[an (by simpa using hq),hg,hp]
   have h2:kt R j=[x,y]:=by unfold kt;rw[hr];simp only;rw[hp]
   rw[h2]at hk;simp only[lC,h1,wd];have:k=x∨k=y:=by simpa using hk
   rcases this with rfl|rfl<;>simp
  have h':q∈N:=by rcases aj.1 h with h|h;exact absurd h.symm e;exact h
  have ih:=vu hq hk h';simp only[lC];cases n7 A R j with
  |q r=>exact ih
  |a d sz b x y=>exact bt _ (bt _ ih)
variable {C:List Nat}
def vS:∀{env:List (Nat×AV)},vn C env=true→∀z∈env,∀k∈C,z.1≠k→z.2.refs k=false
 |(t,v)::r,h,z,hz,k,hk,gw=>by
  simp only[vn,bA,aY]at h;rcases aj.1 hz with rfl|hz
  ·have:=h.1 k hk;simp only[cm,bB,ce]at this;rcases this with e|e
   exact absurd e.symm gw;exact e
  exact vS h.2 z hz k hk gw
def vU{k:Nat}(hk:k∈C):∀{l:List AV},x7 C l=true→kS (AV.refs k) l=l
 | [],_=>rfl
 |v::r,h=>by
  simp only[x7,bA,aY,ce]at h;simp only[kS];rw[h.1 k hk,vU hk h.2]
  rfl
def wn{k:Nat}(hk:k∈C):∀{us:List (Nat×U)},qK C us=true→∀z∈us,z.2.kill (AV.refs k)=z.2
 |(i,u)::r,h,z,hz=>by
  rcases aj.1 hz with rfl|hz
  ·cases u with
   |bx sz items=>
    simp only[qK,bA]at h;simp only[U.kill];rw[vU hk h.1]
   |own d=>rfl
   |ar ow nn sz es=>rfl
   |sb T E s=>rfl
   |mp es=>rfl
  refine wn hk ?_ z hz;cases u with
  |bx sz items=>simp only[qK,bA]at h;exact h.2
  |own d=>exact h
  |ar ow nn sz es=>exact h
  |sb T E s=>exact h
  |mp es=>exact h
def Ec{ops:Array Oper}{R:List RO}{st:St}{K:Exit→St→Prop}{id:Nat}{a:Act}{w:World}(hm:Mx P)(hd:Bi ops R=true)
  (hR:ops.toList.mapM (iO P wv st.n ops)=some R) (hs:ju n0 S0 M0 w0 st a w) (hq:sT P (HN ops R) st (kP P (wd (HN ops R)) (MQ ops R) K)):(Code.region id ops true).wp P (kU n0 S0 M0 w0 st.n K) a w:=by
 refine cG (Q:=fun e a w=>e=.normal∧kU n0 S0 M0 w0 st.n K e a w) (ed hm ?_) (fun e a w h=>h.2);unfold Bi at hd;unfold HN MQ at hq;generalize hSd:AN ops R=S at hd hq;generalize hAd:Mi ops R S=A at hd hq;unfold Hb at hd;simp only[bA,bB]at hd;obtain⟨⟨⟨⟨_,d1⟩,d2⟩,d3⟩,hd⟩:=hd;cases hE:EL S R with
 |nil=>rw[hE]at hd;cases hd
 |cons e es=>
  rw[hE]at hd hq;simp only[bA,aY,b9,bn]at hd;obtain⟨⟨zC,hpr⟩,gF⟩:=hd;have rj:∀{i:Nat} {r:RO},R[i]?=some r→i<R.length:=fun h=>(bF.1 h).1;have hAm:∀p∈A,p∈NL S R∧QR ops R p=true:=fun p hp=>by rw[←hAd]at hp;exact aX.1 hp
  have hpa:∀p∈A,∃d sz b x y,R[p]?=some ⟨none,.app d sz b (.t x) (.t y)⟩∧n7 A R p=.a d sz b x y∧kt R p=[x,y]:=fun p hp=>by
   have h1:=(hAm p hp).2;unfold QR at h1
   split at h1
   ·next r hr=>
    split at h1
    ·next d sz b x y PL=>
     have hrr:=IY PL;subst hrr;refine⟨d,sz,b,x,y,hr,?_,?_⟩
     ·unfold n7;rw[an (by simpa using hp),show R.getD p default=⟨none,.app d sz b (.t x) (.t y)⟩by simp only[bi,hr];rfl,PL]
     unfold kt;rw[hr];simp only;rw[PL]
    cases h1
   cases h1
  have V3:∀q∈A,∀t∈kt R q,∀j,gz R j=some t→j<q∧j∈fM ops q:=fun q hq t ht j hj=>by
   have hjl:j<R.length:=by
    unfold gz at hj;simp only[oB]at hj;obtain⟨r,hr,_⟩:=hj;exact rj hr
   have:=hpr q hq t ht j hjl;rw[hj]at this;simpa using this
  have wA:∀i,∀j∈fM ops i,j<i:=by
   intro i j hj
   by_cases hi:i<R.length;exact(gF i hi).1 j hj
   have:ops[i]?=none:=by simp;omega
   simp[fM,this]at hj
  have hN:∀i∈NL S R,(((s6 R i=true∨A.contains i=true)∧(fM ops i).all (fun j=>S.contains j)=true)∧(match R[i]? with|some r=>r.jU.all (nI ops R i)&&(r.jU.all fun t=>A.all fun q=>!(kt R q).contains t||i==q)|none=>true)=true)∧
    (lG ops R i||(fM ops e).contains i||(List.range R.length).any fun k=>decide (i<k)&&S.contains k&&z8 S ops R e k&&(fM ops k).contains i)=true:=by
   intro i hi;obtain⟨h1,h2⟩:=gG.1 hi;have:=(gF i h1).2;rw[h2]at this;simpa only[bT,ae,bA,cm]using this
  have hNQ:∀p∈(NL S R).map (n7 A R),p.sq=true:=by
   intro p hp;obtain⟨i,hi,rfl⟩:=aR.1 hp
   by_cases pB:i∈A;obtain⟨d,sz,b,x,y,_,h2,_⟩:=hpa i pB;rw[h2];rfl
   rw[tS pB];have h3:=(hN i hi).1.1.1;rcases h3 with h3|h3
   ·have hl:=(gG.1 hi).1;simpa[s6,PO.sq,bi,hl]using h3
   exact absurd (by simpa using h3) pB
  obtain⟨rl,s',hx,hK,hl⟩:=sL hNQ hq;obtain⟨g,hu,hv⟩:=hs.gh;have ii:=nr (lD S R);have hV:(NL S R).map (fun i=>rl.getD ((NL S R).idxOf i) (.any,[]))=rl:=by
   apply eN
   simp at hl;simp[hl];intro p h1 h2;have hp:p<(NL S R).length:=by simpa using h1
   simp[bi,fo ii p hp,h2]
  generalize hVd:(fun i=>rl.getD ((NL S R).idxOf i) ((.any,[]):Rs))=V at hV;have ad7:rS (jH R A st V []) st:=by
   have hf:nh R A []=fun _=>false:=by funext t;simp[nh]
   refine⟨rfl,fun t=>?_,?_⟩
   ·show _=lk (List.map _ _) t
    rw[ko,hf];rfl
   show st.us.Perm (st.us.map (Am (nh R A [])))
   rw[hf,show(Am fun _=>false)=(fun z=>z)from by funext z;rfl,List.map_id']
  obtain⟨r1,r2,r3,r4,r5⟩:=Vm (fun p hp=>by
    obtain⟨d,sz,b,x,y,q1,q2,q3⟩:=hpa p hp;exact⟨d,sz,b,x,y,q2,q3,by simp[gz,q1,lz.dst]⟩) (fun q hq t ht j hj=>(V3 q hq t ht j hj).1) (lD S R) (by simp) (fun i hi=>(gG.1 hi).1) hx ad7 hV hu.keys (fun q _ h=>by cases h)
  rw[aB]at r1;have oR:((fD st (gz R) V (NL S R).reverse).us.map (·.1)).Nodup:=by
   have h1:=r1.us.map (·.1);rw[show(jH R A st V (NL S R).reverse).us.map (·.1)=(fD st (gz R) V (NL S R).reverse).us.map (·.1)from ro]at h1;exact h1.nodup_iff.1 r2
  have gD:∀i∈NL S R,pv P (n7 A R i) (jH R A st V (qt (NL S R) i)) (V i):=fun i hi=>by
   obtain⟨p,hp,rfl⟩:=dU.1 hi;have:=r3 p hp;rw[aB,x6 (lD S R) p hp]at this;exact this
  have hD:nQ P wv ops R st V S (NL S R) A:=by
   refine⟨d2,?_,ug (nL d1),wA,fun i=>gG,fun i hi pB=>?_,fun p hp=>(hAm p hp).1,ii,?_,hpa,?_,?_,V3,gD,oR,?_,?_⟩;intro i o ho;exact mN hR i o (by simpa using ho)
   ·rcases(hN i hi).1.1.1 with h3|h3
    exact h3;exact absurd (by simpa using h3) pB
   ·intro i hi j hj;have h1:=(hN i hi).1.1.2;rw[aY]at h1;have h2:=wA i j hj;have h3:=(gG.1 hi).1;exact gG.2 ⟨by omega,h1 j hj⟩
   intro i r t hi hr ht j hj;have h2:=(hN i hi).1.2;rw[hr]at h2;simp only[bA,aY]at h2;have hs:=h2.1 t ht;unfold nI at hs;simp only[aY,b9]at hs;simp only[gz,oB]at hj;obtain⟨x,hx,hd⟩:=hj;have:=hs j (rj hx);rw[hx]at this;simpa[hd]using this;intro i r t hi hr ht q hq hqt;have h2:=(hN i hi).1.2;rw[hr]at h2;simp only[bA,aY]at h2;have hs:=h2.2 t ht q hq;simpa[hqt]using hs
   ·intro q hq k hk;have hku:=vu hq hk (hAm q hq).1;have P8:=vS hK.1.1;exact⟨fun z hz gw=>P8 z (r4 z hz) k hku gw,fun i hi t ht gw=>P8 (t,(V i).1) (r5 i hi t ht) k hku gw⟩
   rintro q hq k hk ⟨j,u⟩ hju;have hku:=vu hq hk (hAm q hq).1
   by_cases hj:nh R A (NL S R).reverse j=true
   ·obtain⟨q',ov,hqN,hjq⟩:=iJ.1 hj;obtain⟨d,sz,b,x,y,q1,q2,q3⟩:=hpa q' ov;obtain⟨nn,es',d0,hB,_⟩:=pv.A5 q2 (gD q' (hAm q' ov).1);have full:∀{j':Nat} {v:U},(j',v)∈(jH R A st V (qt (NL S R) q')).us→j'∈kt R q'→(j',v)∈(fD st (gz R) V (NL S R).reverse).us:=fun {j'} {v} h1 h2=>by
     obtain⟨v',m1,e1⟩:=oX.1 h1;have kZ:nh R A (qt (NL S R) q') j'=false:=by
      cases hu:nh R A (qt (NL S R) q') j' with
      |false=>rfl
      |true=>
       obtain⟨q2',h3,h4,h5⟩:=iJ.1 hu;have hts:j'∈(⟨none,.app d sz b (.t x) (.t y)⟩:RO).jU:=by rw[q3]at h2;exact rC.2 (by simpa using h2)
       have h6:=(hN q' (hAm q' ov).1).1.2;rw[q1]at h6;simp only[bA,aY]at h6;have h7:=h6.2 j' hts q2' h3;have h8:q'=q2':=by simpa[h5]using h7
       have h9:=(lR.1 h4).2;omega
     rw[kZ]at e1;have e2:v=v':=by simpa using e1
     rw[e2];exact(jt ii oR (TT ii) (fun j hj=>(lR.1 hj).1)).2 _ m1
    rw[q3]at hjq;have:j=x∨j=y:=by simpa using hjq
    rcases this with rfl|rfl
    have h1:=iA oR (full (fB hB.ux) (by rw[q3];simp));rw[iA oR hju]at h1;injection h1 with h1;rw[h1];rfl;have h1:=iA oR (full (fB hB.uy) (by rw[q3];simp));rw[iA oR hju]at h1;injection h1 with h1;rw[h1];rfl
   have h1:(j,u)∈(jH R A st V (NL S R).reverse).us:=oX.2 ⟨u,hju,by rw[al hj]⟩;exact wn hku hK.1.2 _ (r1.us.mem_iff.2 h1)
  have hc:kj P ops R [] (Array.replicate ops.size false):=⟨bC,by simp,by simp,by simp,fun j hj=>by simp[bD,hj]⟩;refine FT hD r1 hE zC d3 ?_ hK.2 ops.size [] _ a _ hc (by simp) (fun q _ h=>by cases h) (by simp) ?_
  ·intro i hi;have:=(hN i hi).2;simp only[z8,cm,bM,bn,eh,b9,bA,ce]at this;rcases this with(h1|h1)|⟨k,hk,⟨⟨h1,h2⟩,h3⟩,h4⟩
   exact .inl h1;exact .inr (.inl h1);refine .inr (.inr ⟨k,gG.2 ⟨hk,by simpa using h2⟩,h1,?_,h4⟩);rcases h3 with(h3|h3)|⟨j,hj,⟨⟨q1,q2⟩,q3⟩,q4⟩
   exact .inl h3;exact .inr (.inl h3);exact .inr (.inr ⟨j,gG.2 ⟨hj,by simpa using q2⟩,q1,q3,q4⟩)
  have h0:ju n0 S0 M0 w0 (jH R A st V []) a w:=hs.eqS ad7.symm;exact⟨h0.ms,h0.mS,h0.tm,h0.base,h0.os,h0.tape,h0.output,h0.size,h0.iD,h0.gh⟩
def ma(P:Program)(wv:Wv)(n:Nat):Code→Option RC
 |.skip=>some .skip
 |.region _ ops draw=>do
  let R←ops.toList.mapM (iO P wv n ops)
  if(!draw||sD ops R)=true then pure (.gt draw R)
  else if Br ops R=true then pure (.gt draw (W0 ops R))
  else if(draw&&Bg ops R)=true then pure (.O7 R (Ng (fM ops) R.length R.length []))
  else if(draw&&BB ops R)=true then pure (.ZS (Wy ops R) (W6 ops R))
  else if(draw&&Bf ops R)=true then pure (.O7 R (E2 ops R R.length []))
  else if(draw&&Bi ops R)=true then pure (.ZT (HN ops R) (MQ ops R))
  else none
 |.seq a b=>do pure (.seq (←ma P wv n a) (←ma P wv n b))
 |.cond c a b=>do pure (.cond (←fY P 0 c) (←ma P wv n a) (←ma P wv n b))
 |.block id c=>do pure (.iV id (←ma P wv n c))
 |.loop c=>do pure (.loop (←ma P wv n c))
 |.exit id=>some (.exit id)
 |.ret=>some .ret
 |c=>some (.other c)
def Il(hm:Mx P):∀(c:Code)(rc:RC)(st:St)(K:Exit→St→Prop)(a:Act)(w:World),ma P wv st.n c=some rc→ju n0 S0 M0 w0 st a w→qu P rc st K→
  c.wp P (kU n0 S0 M0 w0 st.n K) a w:=by
 intro c
 induction c with
 |skip=>
  intro rc st K a w hr hs hq;simp only[ma,oS]at hr;subst hr;exact wp_skip ⟨st,rfl,hq,hs⟩
 |region id ops draw=>
  intro rc st K a w hr hs hq;simp only[ma,oD,oB]at hr;obtain⟨R,hR,hr⟩:=hr
  split at hr
  ·next hd=>
   simp only[oP,oS]at hr;subst hr;cases draw with
   |true=>exact Ga hm (by simpa using hd) hR hs hq
   |false=>
    refine wp_region ?_;have:=wt (P:=P) (ops:=ops) (K:=K) ops.toList R 0 st a w (by simp) hR hs hq;simpa[eW]using this
  next hd=>
  split at hr
  ·next hd2=>
   simp only[oP,oS]at hr;subst hr;cases draw with
   |true=>exact DV hm hd2 hR hs hq
   |false=>simp at hd
  split at hr
  ·next hd4=>
   simp only[oP,oS]at hr;subst hr;simp only[bA]at hd4;obtain⟨rfl,hd4⟩:=hd4;exact DQ hm hd4 hR hs hq
  split at hr
  ·next hd5=>
   simp only[oP,oS]at hr;subst hr;simp only[bA]at hd5;obtain⟨rfl,hd5⟩:=hd5;exact DU hm hd5 hR hs hq
  split at hr
  ·next hd7=>
   simp only[oP,oS]at hr;subst hr;simp only[bA]at hd7;obtain⟨rfl,hd7⟩:=hd7;exact CL hm hd7 hR hs hq
  split at hr
  ·next hd6=>
   simp only[oP,oS]at hr;subst hr;simp only[bA]at hd6;obtain⟨rfl,hd6⟩:=hd6;exact Ec hm hd6 hR hs hq
  cases hr
 |seq x y ihx ihy=>
  intro rc st K a w hr hs hq;simp only[ma,oD,oB,oP,oS]at hr;obtain⟨x',hx,y',hy,rfl⟩:=hr;refine wp_seq (cG (ihx x' st _ a w hx hs hq) ?_);rintro e a1 w1 ⟨s1,hn,hk,ou⟩;cases e with
  |normal=>
   have:=ihy y' s1 K a1 w1 (by rw[hn];exact hy) ou hk;rw[hn]at this;exact this
  |exit i=>exact⟨s1,hn,hk,ou⟩
  |goto l=>exact⟨s1,hn,hk,ou⟩
  |ret=>exact⟨s1,hn,hk,ou⟩
  |panic c=>exact⟨s1,hn,hk,ou⟩
  |outgrown=>exact⟨s1,hn,hk,ou⟩
 |cond x p q ihp ihq=>
  intro rc st K a w hr hs hq;simp only[ma,oD,oB,oP,oS]at hr;obtain⟨X,hX,p',hp,q',ov,rfl⟩:=hr;obtain⟨g,hu,hv⟩:=hs.gh;have he:=Aq hv hX;simp only[qu]at hq;unfold si at hq
  split at hq
  ·next tk t hc=>
   rw[hc]at he;have yQ:=gU he;refine wp_cond_split yQ (fun e=>ihp p' st K a w hp hs (hq.1 e)) (fun e=>ihq q' st K a w ov hs (hq.2 e))
  exact hq.elim
 |block id c ih=>
  intro rc st K a w hr hs hq;simp only[ma,oD,oB,oP,oS]at hr;obtain⟨c',hc,rfl⟩:=hr;refine wp_block (cG (ih c' st _ a w hc hs hq) ?_);rintro e a1 w1 ⟨s1,hn,hk,ou⟩;cases e with
  |exit i=>
   simp only[D7]at hk;simp only[Exit.inBlock]
   split
   ·next h=>rw[an h]at hk;exact⟨s1,hn,hk,ou⟩
   next h=>rw[al h]at hk;exact⟨s1,hn,hk,ou⟩
  |normal=>exact⟨s1,hn,hk,ou⟩
  |goto l=>exact⟨s1,hn,hk,ou⟩
  |ret=>exact⟨s1,hn,hk,ou⟩
  |panic c=>exact⟨s1,hn,hk,ou⟩
  |outgrown=>exact⟨s1,hn,hk,ou⟩
 |loop c ih=>
  intro rc st K a w hr hs hq;simp only[ma,oD,oB,oP,oS]at hr;obtain⟨c',hc,rfl⟩:=hr;obtain⟨I,⟨m0,s,hE,hI⟩,GS⟩:=hq;have tmn:∀{s:St} {a:Act} {w:World} {n:Nat},ju n0 S0 M0 w0 s a w→a.tmps.size=n→s.n=n:=fun h e=>h.tm.symm.trans e;refine wp_loop_ghost (fun m a w=>∃s,I m s∧s.n=st.n∧ju n0 S0 M0 w0 s a w) m0 ⟨s,hI,tmn (hE _ _ _ _ _ _ hs) hs.tm,hE _ _ _ _ _ _ hs⟩ ?_;rintro m a1 w1 ⟨s1,h1,PA,ou⟩;have:=ih c' s1 _ a1 w1 (by rw[PA];exact hc) ou (GS m s1 h1);rw[PA]at this;refine cG this ?_;rintro e a2 w2 ⟨s2,hn,hk,vG⟩;cases e with
  |normal=>
   obtain⟨m',s3,h3,h4,h5⟩:=hk;exact⟨m',h5,s3,h4,tmn (h3 _ _ _ _ _ _ vG) (vG.tm.trans hn),h3 _ _ _ _ _ _ vG⟩
  |exit i=>exact⟨s2,hn,hk,vG⟩
  |goto l=>exact⟨s2,hn,hk,vG⟩
  |ret=>exact⟨s2,hn,hk,vG⟩
  |panic c=>exact⟨s2,hn,hk,vG⟩
  |outgrown=>exact⟨s2,hn,hk,vG⟩
 |exit id=>
  intro rc st K a w hr hs hq;simp only[ma,oS]at hr;subst hr;exact wp_exit ⟨st,rfl,hq,hs⟩
 |ret=>
  intro rc st K a w hr hs hq;simp only[ma,oS]at hr;subst hr;exact wp_ret ⟨st,rfl,hq,hs⟩
 |_=>
  intro rc st K a w hr hs hq;simp only[ma,oS]at hr;subst hr;exact hq.elim
def pQ:Nat→List D→List (Nat×AV)
 |_,[]=>[]
 |i,d::ds=>(i,.im none d)::pQ (i+1) ds
def gR(n:Nat)(ds:List D):St:=⟨n,pQ 0 ds,[]⟩
mutual
def D.bd:D→Prop
 |.ag ds=>D.vO ds
 |.ls _ sz ds=>ds.length≤gp∧(∀d∈ds,d.size=sz)∧D.vO ds
 |.pt d _=>d.bd
 |.lc _ _ d=>d.bd
 |_=>True
def D.vO:List D→Prop
 | []=>True
 |d::ds=>d.bd∧D.vO ds
end
variable {h:ij}
mutual
def f8.bd:∀{d F cs},f8 h d F cs→d.bd
 |.sc _,_,_,_=>by simp[D.bd]
 |.jk,_,_,_=>by simp[D.bd]
 |.fn _ _,_,_,_=>by simp[D.bd]
 |.ag ds,_,_,hr=>by simp only[f8]at hr;simp only[D.bd];exact fR.bd hr.2
 |.ls _ _ ds,_,_,hr=>by
  simp only[f8]at hr;simp only[D.bd];rcases hr with⟨_,_,rfl,_⟩|⟨b,off,cap,c,e,fr,F',_,_,_,_,h1,_,_,h2,h3⟩
  simp[D.vO];exact⟨h1,h2,fR.bd h3⟩
 |.pt _ _,_,_,hr=>by
  simp only[f8]at hr;obtain⟨b,off,c,e,fr,F',_,_,_,_,_,h⟩:=hr;simp only[D.bd];exact f8.bd h
 |.lc _ _ _,_,_,hr=>by
  simp only[f8]at hr;simp only[D.bd];exact f8.bd hr.2
def fR.bd:∀{ds F cs},fR h ds F cs→D.vO ds
 | [],_,_,_=>by simp[D.vO]
 |d::ds,_,_,hr=>by
  simp only[fR]at hr;obtain⟨F1,F2,c1,c2,rfl,rfl,h1,h2⟩:=hr;simp only[D.vO];exact⟨f8.bd h1,fR.bd h2⟩
end
variable {iD:Nat→Prop}
def Hj:∀{ds:List D} {vs:List Value},gM h iD ds vs→D.vO ds
 | [],_,_=>by simp[D.vO]
 |d::ds,vs,hr=>by
  simp only[gM]at hr;obtain⟨v,r,F,rfl,h1,_,_,h2⟩:=hr;simp only[D.vO];exact⟨h1.bd,Hj h2⟩
def CR:∀{ds:List D} {vs:List Value},gM h iD ds vs→vs.length=ds.length
 | [],vs,hr=>by simp only[gM]at hr;simp[hr]
 |d::ds,vs,hr=>by
  simp only[gM]at hr;obtain⟨v,r,F,rfl,_,_,_,h2⟩:=hr;simp[CR h2]
variable {g:Gh}
def CC{us:List (Nat×U)}(hg:∀b,b<h.size→iD b→g.Sh b):∀{ds:List D} {vs:List Value} (i:Nat),gM h iD ds vs→∀t,
  (∀d,lk (pQ i ds) t=d→d=.any∨∃v,vs[t-i]?=some v∧i≤t∧fx h us g d v)
 | [],_,i,_,t=>by intro d hd;simp[pQ,lk]at hd;exact .inl hd.symm
 |d::ds,vs,i,hr,t=>by
  simp only[gM]at hr;obtain⟨v,r,F,rfl,h1,h2,h3,h4⟩:=hr;intro e he;simp only[pQ,lk]at he
  split at he
  ·next hi=>
   subst hi;subst he;exact .inr ⟨v,by simp,aU _,by simp only[fx];exact⟨F,h1,h2,fun b hb=>.inl (hg b (h1.lt b hb) (h3 b hb))⟩⟩
  next hi=>
  rcases CC hg (i+1) h4 t e he with h|⟨v',hv,hle,hr⟩
  exact .inl h;refine .inr ⟨v',?_,by omega,hr⟩;rw[show t-i=(t-(i+1))+1 by omega];simpa using hv
variable {ds:List D}{n:Nat}{w:World}
def Ix{vs:List Value}(ha:gM w.heap iD ds vs)(hn:ds.length≤n):
  ju w.heap.size iD (fun _=>False) w (gR n ds) {tmps:=vs.toArray++Array.replicate (n-vs.toArray.size) undef,defers:=[]} w:=by
 have hl:=CR ha;refine⟨fun _ _ h=>h.elim,rfl,by simp[gR];omega,rfl,rfl,rfl,rfl,aU _,fun _ _ _=>rfl,?_⟩
 let g:Gh:=⟨fun _=>none,fun _=>[],fun _=>undef,fun _=>0,fun b=>b<w.heap.size∧iD b⟩
 refine⟨g,⟨by simp[gR],by simp[gR,fp],by simp[gR,fp],by simp[gR,fp],fun _ _=>rfl,fun b hb=>⟨hb.1,fun _=>hb.2,by simp[gR,fp]⟩,by simp[gR],by simp[gR,fp],by intro k v _ h;simp[gR]at h⟩,fun t=>?_⟩;rcases CC (us:=[]) (g:=g) (fun b h1 h2=>⟨h1,h2⟩) 0 ha t _ rfl with h|⟨v,hv,_,hr⟩
 simp only[gR];rw[h];simp[fx];have gI:t<vs.length:=(bF.1 hv).1;have e:(vs.toArray++Array.replicate (n-vs.toArray.size) undef).getD t undef=v:=by
  rw[bD,eL (by simpa using gI)];simp at hv;simp[hv]
 rw[e];exact hr
inductive RV where
 |t (n:Nat)
 |c (n sz:Nat) (agg:Bool)
def wl(P:Program):ResultVar→Option RV
 |.tmp t=>some (.t t)
 |.cell a t=>do let s←io P t;let g←mL P t;guard ((g||s==1)=true);pure (.c a s g)
def rvK(st:St)(x:RV)(k:AV→Prop):Prop:=
 match x with
 |.t n=>k (st.get n)
 |.c n sz agg=>zX (st.get n) st.unit agg sz (fun av _=>k av)
def ti(st:St):List RV→(List AV→Prop)→Prop
 | [],k=>k []
 |x::xs,k=>rvK st x fun av=>ti st xs fun avs=>k (av::avs)
def NW(d:D)(k:St→Prop)(own:Bool)(d':D)(fS:St):Prop:=own=true∧d'.Le d∧k fS
def Bc(d:D)(k:St→Prop)(_own:Bool)(d':D)(fS:St):Prop:=d'.Le d∧k fS
def mj(st:St)(v:AV)(k:KT):Prop:=
 match v with
 |.vb i len=>it 12 st (.vb i len) k
 |v=>gH st v k
def Je:Bp (n0:=n0) (S0:=S0) (M0:=M0) mj:=by
 intro _ _ _ _ h0 av _ _ _ _ T hr hk;cases av with
 |vb i len=>exact nJ 12 h0 T hr hk
 |_=>exact lL h0 T hr hk
def HQ(un:Nat→Option U):AV→Option D
 |.im none d=>some d
 |.im (some _) d=>if d.gJ=true then some d else none
 |.vb id len=>match un id with|some (.bx sz items)=>if len=items.length then(match sJ sz items with|some ds=>some (.ls (some false) sz ds)|none=>none)else none|_=>none
 |_=>none
def AV.aaq:AV→Bool
 |.vb _ _=>true
 |_=>false
def PU(q:Option D)(k:D→Prop):Prop:=match q with|some d=>k d|none=>False
def qC(st:St)(a:AV)(k:D→St→Prop):Prop:=
 match a with
 |.vb i len=>PU (HQ st.unit (.vb i len)) fun d=>k d (st.del i)
 |a=>PU (HQ st.unit a) fun d=>k d st
def tU(st:St):List AV→(List D→St→Prop)→Prop
 | [],k=>k [] st
 |a::r,k=>qC st a fun d nj=>tU nj r fun ds KW=>k (d::ds) KW
def DJ(d:D)(k:St→Prop)(ds:List D)(st:St):Prop:=PU (Vl ds) fun d'=>d'.Le d∧k st
def uj(st:St)(av:AV)(d:D)(k:St→Prop):Prop:=
 match av with
 |.sg vs=>if vs.any AV.aaq=true then tU st vs (DJ d k)else gH st (.sg vs) (Bc d k)
 |.vb i len=>qC st (.vb i len) fun d' fS=>d'.Le d∧k fS
 |av=>gH st av (Bc d k)
def Nm(st:St)(av:AV)(r:tf)(k:St→Prop):Prop:=
 match r with
 |.own d=>mj st av (NW d k)
 |.sh d=>uj st av d k
 |_=>False
def qB:List AV→List tf→St→Prop
 | [],[],_=>True
 |av::avs,r::rs,st=>Nm st av r (qB avs rs)
 |_,_,_=>False
def IW(u:Option U)(sz len:Nat)(es:List D):Prop:=match u with|some (.ar true nn gv es')=>nn=some false∧gv=sz∧es'=es∧len=es.length|_=>False
def Q6(un:Nat→Option U)(sz:Nat)(es:List D):List AV→Prop
 | [.sm id 0 len]=>IW (un id) sz len es
 |_=>False
def Ae(u:Option U)(d:D):Prop:=match u with|some (.ar false _ _ es)=>es=[d]|_=>False
def SD(un:Nat→Option U)(d:D):List AV→Prop
 | [.pw id 0 0]=>Ae (un id) d
 |_=>False
def u4(xs:List RV)(st:St)(r:tf)(avs:List AV):Prop:=
 match r with
 |.jS rs=>xs.length≠1∧qB avs rs st
 |.arr sz es=>xs.length=1∧Q6 st.unit sz es avs
 |.ZU d=>xs.length=1∧SD st.unit d avs
 |r=>xs.length=1∧qB avs [r] st
def JX(xs:List RV)(r:tf)(st:St):Prop:=ti st xs (u4 xs st r)
def FE(xs:List RV)(r:tf)(e:Exit)(st:St):Prop:=
 match e with
 |.normal=>JX xs r st
 |.ret=>JX xs r st
 |_=>False
def D.Le.refl(d:D):d.Le d:=⟨fun _ _ _ h=>h,fun _ h=>h⟩
variable {av:AV}{d:D}{g0:Gh}{tm:Nat→Value}{st nj:St}{v:Value}
def Zx(T:iU h n0 S0 M0 nj st tm g0 g)(gw:∀i l,av≠.vb i l)(hr:fx h nj.us g0 av v)(hd:HQ st.unit av=some d):
  ∃F,f8 h d F v.cells.toList∧d.fits v∧∀b∈F,g.Sh b:=by
 unfold HQ at hd
 split at hd
 ·next d'=>
  obtain rfl:=aQ hd;simp only[fx]at hr;obtain⟨F,r1,r2,r3⟩:=hr;exact⟨F,r1,r2,fun b hb=>T.sh b (lr (r3 b hb))⟩
 ·next i d'=>
  split at hd
  ·next hp=>
   obtain rfl:=aQ hd;simp only[fx]at hr;obtain⟨F,r1,r2,r3⟩:=hr;have:=iB hp r1;subst this;exact⟨[],r1,r2,by simp⟩
  cases hd
 ·next id len=>exact absurd rfl (gw id len)
 cases hd
variable {len:Nat}
def WQ(T:iU h n0 S0 M0 nj st tm g0 g){id:Nat}(hr:fx h nj.us g0 (.vb id len) v)(hd:HQ st.unit (.vb id len)=some d):
  ∃F,f8 h d F v.cells.toList∧d.fits v∧xA g (g.drop id) st.us (st.del id).us F:=by
 simp only[HQ]at hd
 split at hd
 ·next sz items gZ=>
  split at hd
  ·next hlen=>
   split at hd
   ·next ds kf=>
    obtain rfl:=aQ hd;simp only[fx]at hr;obtain⟨gv,g9,b,r1,r2,r3,rfl⟩:=hr;have hm:=fB gZ;obtain⟨gb,_,_⟩:=T.gh _ _ hm;have ho:=T.us.each _ hm;simp only[hP]at ho;obtain⟨kw,b',c,e,vs,rest,k1,k2,k3,k4,k5,k6⟩:=ho;rw[gb,r3]at k1;obtain rfl:=aQ k1;obtain⟨F,p1,p2,p3,p4⟩:=BN k4 kf;have hl:=p1.length;rw[D.fG p2]at hl;have rW:b∈g.φ id:=by rw[k3];simp
    refine⟨b::F,?_,rfl,fun x hx=>?_⟩
    ·unfold f8;have lY:ds.length*sz≤c.size:=by
      have:c.toList.length=c.size:=by simp
      rw[k6,lP]at this;omega
     refine .inr ⟨b,0,len,c,e,(0,0),F,by simp[Value.cells,p3,hlen],rfl,by simp,by omega,by omega,k2,by rw[p3,←hlen]at lY;omega,p2,?_⟩;rw[az,k6,bV hl];exact p1
    rcases aj.1 hx with rfl|hx
    exact .inr ⟨fL.2 ⟨_,hm,rW⟩,np T.us hm x rW⟩;exact .inl (p4 x hx)
   cases hd
  cases hd
 cases hd
def Al{g:Gh}(T:iU h n0 S0 M0 nj st tm g0 g){k:D→St→Prop}(hr:fx h nj.us g0 av v)(hk:qC st av k):
  ∃d fS g' F,k d fS∧iU h n0 S0 M0 nj fS tm g0 g'∧f8 h d F v.cells.toList∧d.fits v∧xA g g' st.us fS.us F∧(∀b,g'.Sh b↔g.Sh b)∧∀b,b∈fp g' fS.us→b∈fp g st.us:=by
 unfold qC at hk
 split at hk
 ·next i len=>
  unfold PU at hk
  split at hk
  ·next d hd=>
   obtain⟨F,r1,r2,r3⟩:=WQ T hr hd;exact⟨d,st.del i,g.drop i,F,hk,T.del i,r1,r2,r3,fun _=>bL,fun b hb=>(iM (g:=g) (g':=g.drop i) (fun j hj=>by simp[Gh.drop,hj])).subset hb⟩
  exact hk.elim
 next gw=>
 unfold PU at hk
 split at hk
 ·next d hd=>
  obtain⟨F,r1,r2,r3⟩:=Zx T (fun i l e=>gw i l e) hr hd;exact⟨d,st,g,F,hk,T,r1,r2,fun b hb=>.inl (r3 b hb),fun _=>bL,fun _ hb=>hb⟩
 exact hk.elim
def CO:∀{avs:List AV} {vs:List Value} {st:St} {g:Gh} {k:List D→St→Prop},iU h n0 S0 M0 nj st tm g0 g→fA h nj.us g0 avs vs→tU st avs k→
  ∃ds fS g' F,k ds fS∧iU h n0 S0 M0 nj fS tm g0 g'∧fR h ds F (vs.map (·.cells.toList)).flatten∧xA g g' st.us fS.us F∧(∀b,g'.Sh b↔g.Sh b)∧∀b,b∈fp g' fS.us→b∈fp g st.us
 | [],vs,st,g,k,T,hr,hk=>by
  simp only[fA]at hr;subst hr;exact⟨[],st,g,[],hk,T,by simp[fR],by simp[xA],fun _=>bL,fun _ hb=>hb⟩
 |av::avs,vs,st,g,k,T,hr,hk=>by
  simp only[fA]at hr;obtain⟨v,r,rfl,h1,h2⟩:=hr;simp only[tU]at hk;obtain⟨d,sta,ga,F1,hk,Ta,r1,_,s1,q1,f1⟩:=Al T h1 hk;obtain⟨ds,stb,gb,F2,hk,Tb,r2,s2,q2,f2⟩:=CO Ta h2 hk;refine⟨d::ds,stb,gb,F1++F2,hk,Tb,?_,fun b hb=>?_,fun b=>(q2 b).trans (q1 b),fun b hb=>f1 b (f2 b hb)⟩;simp only[lC,cb,ig];exact⟨F1,F2,_,_,rfl,rfl,r1,r2⟩;rcases ax.1 hb with hb|hb
  ·rcases s1 b hb with h|⟨h,h'⟩
   exact .inl h;exact .inr ⟨h,fun h3=>h' (f2 b h3)⟩
  rcases s2 b hb with h|⟨h,h'⟩
  exact .inl ((q1 b).1 h);exact .inr ⟨f1 b h,h'⟩
variable {vs:List AV}
def QJ(T:iU h n0 S0 M0 nj st tm g0 g){p:St→Prop}(hr:fx h nj.us g0 (.sg vs) v)(hk:tU st vs (DJ d p)):
  ∃fS g' F,p fS∧iU h n0 S0 M0 nj fS tm g0 g'∧f8 h d F v.cells.toList∧d.fits v∧xA g g' st.us fS.us F∧(∀b,g'.Sh b↔g.Sh b)∧∀b,b∈fp g' fS.us→b∈fp g st.us:=by
 simp only[fx]at hr;obtain⟨xs,h1,rfl⟩:=hr;obtain⟨ds,fS,g',F,hk,T',r1,s1,q1,f1⟩:=CO T h1 hk;unfold DJ PU at hk
 split at hk
 ·next d' hd=>
  unfold Vl at hd
  split at hd
  ·next gF=>
   obtain rfl:=aQ hd;have iF:f8 h (.ag ds) F (Value.agg (xs.map (·.cells.toList)).flatten.toArray).cells.toList:=by
    simp only[f8];rw[aY]at gF;refine⟨fun d hd=>?_,by simpa[Value.cells]using r1⟩;have:=gF d hd;simpa using this
   exact⟨fS,g',F,hk.2,T',hk.1.1 _ _ _ iF,hk.1.2 _ (by simp[D.fits,Value.cells]),s1,q1,f1⟩
  cases hd
 exact hk.elim
def t5(h0:gr h n0 S0 M0 nj.us g0):∀{avs:List AV} {vs:List Value} {rs:List tf} {st:St} {g:Gh},iU h n0 S0 M0 nj st tm g0 g→fA h nj.us g0 avs vs→qB avs rs st→
  ∃F G,jW h rs F G vs∧F.Nodup∧(∀b∈F,¬g.Sh b∧b∈fp g st.us∧b∉G)∧∀b∈G,g.Sh b∨b∈fp g st.us
 | [],vs,rs,st,g,T,hr,hk=>by
  simp only[fA]at hr;subst hr;cases rs with
  |nil=>exact⟨[],[],by simp[jW],bC,by simp,by simp⟩
  |cons=>simp[qB]at hk
 |av::avs,vs,rs,st,g,T,hr,hk=>by
  simp only[fA]at hr;obtain⟨v,Eh,rfl,hv,w8⟩:=hr;cases rs with
  |nil=>simp[qB]at hk
  |cons r rs=>
   simp only[qB]at hk;unfold Nm at hk
   split at hk
   ·next d=>
    obtain⟨own,d',fS,g',F1,⟨rfl,hle,qr⟩,T',r1,r2,⟨o1,_⟩,lw,jb⟩:=Je h0 T hv hk;obtain⟨on,o2⟩:=o1 rfl;obtain⟨F2,G2,p1,p2,p3,p4⟩:=t5 h0 T' w8 qr;refine⟨F1++F2,G2,?_,?_,?_,?_⟩
    ·simp only[jW];exact⟨F1,F2,[],G2,v,Eh,rfl,rfl,rfl,by simp only[jl];exact⟨trivial,hle.1 _ _ _ r1,hle.2 _ r2⟩,p1⟩
    ·refine aT.2 ⟨on,p2,fun x hx y hy e=>?_⟩;subst e;exact(o2 x hx).2.2.1 (p3 x hy).2.1
    ·intro b hb;rcases ax.1 hb with hb|hb
     ·obtain⟨_,q1,q2,q3⟩:=o2 b hb;refine⟨fun hs=>q1 ((lw b).2 hs),q3,fun hg=>?_⟩;rcases p4 b hg with h|h
      exact q1 h;exact q2 h
     obtain⟨q1,q2,q3⟩:=p3 b hb;exact⟨fun hs=>q1 ((lw b).2 hs),jb b q2,q3⟩
    intro b hb;rcases p4 b hb with h|h
    exact .inl ((lw b).1 h);exact .inr (jb b h)
   ·next d=>
    have byX:(∃fS g' F,qB avs rs fS∧iU h n0 S0 M0 nj fS tm g0 g'∧f8 h d F v.cells.toList∧d.fits v∧xA g g' st.us fS.us F∧(∀b,g'.Sh b↔g.Sh b)∧∀b,b∈fp g' fS.us→b∈fp g st.us)→∃F G,jW h (.sh d::rs) F G (v::Eh)∧F.Nodup∧(∀b∈F,¬g.Sh b∧b∈fp g st.us∧b∉G)∧∀b∈G,g.Sh b∨b∈fp g st.us:=by
     rintro⟨fS,g',F1,qr,T',r1,r2,o1,lw,jb⟩;obtain⟨F2,G2,p1,p2,p3,p4⟩:=t5 h0 T' w8 qr;refine⟨F2,F1++G2,?_,p2,?_,?_⟩
     ·simp only[jW];exact⟨[],F2,F1,G2,v,Eh,rfl,rfl,rfl,by simp only[jl];exact⟨trivial,r1,r2⟩,p1⟩
     ·intro b hb;obtain⟨q1,q2,q3⟩:=p3 b hb;refine⟨fun hs=>q1 ((lw b).2 hs),jb b q2,fun hm=>?_⟩;rcases ax.1 hm with hm|hm
      ·rcases o1 b hm with h|⟨_,h⟩
       exact q1 ((lw b).2 h);exact h q2
      exact q3 hm
     intro b hb;rcases ax.1 hb with hb|hb
     ·rcases o1 b hb with h|⟨h,_⟩
      exact .inl h;exact .inr h
     rcases p4 b hb with h|h
     exact .inl ((lw b).1 h);exact .inr (jb b h)
    have byA:gH st av (Bc d (qB avs rs))→∃F G,jW h (.sh d::rs) F G (v::Eh)∧F.Nodup∧(∀b∈F,¬g.Sh b∧b∈fp g st.us∧b∉G)∧∀b∈G,g.Sh b∨b∈fp g st.us:=by
     intro hk;obtain⟨own,d',fS,g',F1,⟨hle,qr⟩,T',r1,r2,⟨o1,o2⟩,lw,jb⟩:=lL h0 T hv hk;obtain⟨F2,G2,p1,p2,p3,p4⟩:=t5 h0 T' w8 qr;refine⟨F2,F1++G2,?_,p2,?_,?_⟩
     ·simp only[jW];exact⟨[],F2,F1,G2,v,Eh,rfl,rfl,rfl,by simp only[jl];exact⟨trivial,hle.1 _ _ _ r1,hle.2 _ r2⟩,p1⟩
     ·intro b hb;obtain⟨q1,q2,q3⟩:=p3 b hb;refine⟨fun hs=>q1 ((lw b).2 hs),jb b q2,fun hm=>?_⟩;rcases ax.1 hm with hm|hm
      ·cases own with
       |true=>exact((o1 rfl).2 b hm).2.2.1 q2
       |false=>exact q1 (o2 rfl b hm)
      exact q3 hm
     intro b hb;rcases ax.1 hb with hb|hb
     ·cases own with
      |true=>exact .inr ((o1 rfl).2 b hb).2.2.2
      |false=>exact .inl ((lw b).1 (o2 rfl b hb))
     rcases p4 b hb with h|h
     exact .inl ((lw b).1 h);exact .inr (jb b h)
    unfold uj at hk
    split at hk
    ·split at hk
     exact byX (QJ T hv hk);exact byA hk
    ·next i len=>
     obtain⟨d',fS,g',F,hk,T',r1,r2,o1,lw,jb⟩:=Al T hv hk;exact byX ⟨fS,g',F,hk.2,T',hk.1.1 _ _ _ r1,hk.1.2 _ r2,o1,lw,jb⟩
    exact byA hk
   exact hk.elim
def zT(tmps:Array Value):ResultVar→Sem Value
 |.tmp t=>pure (tmps.getD t undef)
 |.cell a t=>do loadVar t (←asAddr (tmps.getD a undef))
def IZ{t:TypeId}{r:Value}(h:(Instr.loadAt t v).run P w=.ok r w)(hp:∃a,v=.pointer (some a)):((asAddr v>>=fun a=>loadVar t a)).run P w=.ok r w:=by
 obtain⟨a,rfl⟩:=hp;simpa[Instr.loadAt,Instr.sureAddr,asAddr]using h
variable {agg:Bool}{sz:Nat}{un:Nat→Option U}
def T9{us:List (Nat×U)}{k:KQ}(hr:fx h us g av v)(hq:zX av un agg sz k):∃a,v=.pointer (some a):=by
 unfold zX at hq
 split at hq
 ·simp only[fx,f8]at hr;obtain⟨F,⟨b,off,c,e,fr,F',r1,_⟩,f1,_⟩:=hr;rw[fP (by simpa[D.fits]using f1)]at r1;exact⟨_,by simpa using r1⟩
 ·simp only[fx,f8]at hr;obtain⟨F,⟨_,b,off,c,e,fr,F',r1,_⟩,f1,_⟩:=hr;rw[fP (by simpa[D.fits]using f1)]at r1;exact⟨_,by simpa using r1⟩
 simp only[fx]at hr;obtain⟨_,_,_,_,_,_,_,_,_,hv⟩:=hr;exact⟨_,hv⟩;simp only[fx]at hr;obtain⟨_,_,_,_,_,_,_,_,_,_,_,_,_,_,_,_,_,hv⟩:=hr;exact⟨_,hv⟩;simp only[fx]at hr;obtain⟨_,_,_,_,_,hv⟩:=hr;exact⟨_,hv⟩;exact hq.elim
def Hn{w:World}{tmps:Array Value}(hu:gr w.heap n0 S0 M0 st.us g)(hv:∀t,fx w.heap st.us g (lk st.env t) (tmps.getD t undef)):∀{l:List ResultVar} {xs:List RV} {k:List AV→Prop},
  l.mapM (wl P)=some xs→ti st xs k→∃avs vs,(l.mapM (zT tmps)).run P w=.ok vs w∧fA w.heap st.us g avs vs∧k avs∧vs.length=l.length
 | [],xs,k,hl,hk=>by
  simp at hl;subst hl;exact⟨[],[],by simp,by simp[fA],hk,rfl⟩
 |x::l,xs,k,hl,hk=>by
  simp only[cB,oD,oB,oP,oS]at hl;obtain⟨x',hx,xs',uo,rfl⟩:=hl;simp only[ti]at hk;have one:∀{k:AV→Prop},rvK st x' k→∃av v,(zT tmps x).run P w=.ok v w∧fx w.heap st.us g av v∧k av:=by
   intro k hk;cases x with
   |tmp t=>
    simp only[wl,oS]at hx;subst hx;exact⟨_,_,by simp[zT],hv t,hk⟩
   |cell a t=>
    simp only[wl,oD,oB,oP,oS,fw]at hx;obtain⟨s,hs,agg,O9,_,h1,rfl⟩:=hx;simp only[rvK]at hk;obtain⟨av,v,h2,h3,h4⟩:=BG (P:=P) (w:=w) hu hs O9 (by intro e;simpa[e]using h1) (hv a) hk;exact⟨av,v,IZ h2 (T9 (hv a) hk),h3,h4⟩
  obtain⟨av,v,h1,h2,h3⟩:=one hk;obtain⟨avs,vs,h4,h5,h6,h7⟩:=Hn hu hv uo h3;refine⟨av::avs,v::vs,?_,?_,h6,by simp[h7]⟩;rw[cB];simp[bK,h1,h4,Result.andThen];simp only[fA];exact⟨v,vs,rfl,h2,h5⟩
variable {fn:Func}
def xY{tmps:Array Value}{vs:List Value}(h:(fn.results.toList.mapM (zT tmps)).run P w=.ok vs w):
  (results fn tmps).run P w=.ok (if h:vs.length=1 then vs[0]else .tuple vs.toArray) w:=by
 have e:results fn tmps=(do let vs←fn.results.mapM (zT tmps);pure (if h:vs.size=1 then vs[0]else .tuple vs)):=by
  unfold results;congr 1
 rw[e,Array.mapM_eq_mapM_toList];simp[bK,h,Result.andThen]
def BR:∀{us:List (Nat×U)} {k:Nat} {u:U},lu us k=some u→(k,u)∈us
 | [],_,_,h=>by cases h
 |(i,v)::r,k,u,h=>by
  simp only[lu]at h
  split at h
  ·next e=>subst e;cases h;exact bP
  exact bt _ (BR h)
variable {f:Nat}
def Rk{c:Code}{xs:List RV}{ds:List D}{r:tf}(hf : P.funcs[f]? = some fn)(hb : fn.body = some c)(rk : (fn.name == "runtime.NumGoroutine") = false)
  (uo:fn.results.toList.mapM (wl P)=some xs) (hn:ds.length≤fn.ntmps)
  (hq:D.vO ds→∀(n0:Nat)(S0 M0:Nat→Prop)(w0:World)(a:Act)(w:World),ju n0 S0 M0 w0 (gR fn.ntmps ds) a w→c.wp P (fun e a' w'=>∃st,FE xs r e st∧ju n0 S0 M0 w0 st a' w') a w):AF P f ds r:=by
 refine⟨⟨fn,hf,by simp[hb],rk⟩,fun w vs iD ha=>?_⟩;refine calls_of_wp hf hb ?_;have hs:=Ix ha hn;refine cG (hq (Hj ha) _ _ _ _ _ _ hs) ?_;rintro e a' w' ⟨st,hk,nB⟩;have hxl:xs.length=fn.results.toList.length:=(tR uo);have key:JX xs r st→a'.defers=[]∧∃v,(results fn a'.tmps).run P w'=.ok v w'∧
   (∃v' F G,Ending.returned v=.returned v'∧Go.RowKit.Below w.heap.size w w'∧jl w'.heap r F G v'∧F.Nodup∧(∀b∈F,w.heap.size≤b∧b∉G∧mO w'.heap b)∧∀b∈G,(w.heap.size≤b∧b<w'.heap.size)∨iD b):=by
  intro hk;refine⟨nB.mS,?_⟩;obtain⟨g,hu,hv⟩:=nB.gh;obtain⟨avs,Eh,h1,h2,h3,h4⟩:=Hn (P:=P) hu hv uo hk;refine⟨_,xY h1,?_⟩;have hB:Go.RowKit.Below w.heap.size w w':=⟨nB.os,nB.tape,nB.output,nB.size,fun k hk=>nB.iD k hk (by simp)⟩;have fin:∀{rs:List tf},qB avs rs st→∃F G,jW w'.heap rs F G Eh∧F.Nodup∧(∀b∈F,w.heap.size≤b∧b∉G∧mO w'.heap b)∧∀b∈G,(w.heap.size≤b∧b<w'.heap.size)∨iD b:=by
   intro rs hL;obtain⟨F,G,q1,q2,q3,q4⟩:=t5 hu (iU.refl hu hv) h2 hL;have ge:∀b,b∈fp g st.us→w.heap.size≤b:=fun b hb=>fq fun gI=>hu.low b hb gI;refine⟨F,G,q1,q2,fun b hb=>⟨ge b (q3 b hb).2.1,(q3 b hb).2.2,hu.fz b (q3 b hb).2.1⟩,fun b hb=>?_⟩;rcases q4 b hb with h|h
   ·obtain⟨p1,p2,_⟩:=hu.sh b h
    by_cases gI:b<w.heap.size;exact .inr (p2 gI)
    exact .inl ⟨by omega,p1⟩
   exact .inl ⟨ge b h,hu.lt b h⟩
  have single:∀{r:tf},qB avs [r] st→xs.length=1→∃v' F G,Ending.returned (if h:Eh.length=1 then Eh[0]else .tuple Eh.toArray)=.returned v'∧Go.RowKit.Below w.heap.size w w'∧jl w'.heap r F G v'∧F.Nodup∧(∀b∈F,w.heap.size≤b∧b∉G∧mO w'.heap b)∧∀b∈G,(w.heap.size≤b∧b<w'.heap.size)∨iD b:=by
   intro r hL za;obtain⟨F,G,q1,q2,q3,q4⟩:=fin hL;simp only[jW]at q1;obtain⟨F1,F2,G1,G2,v,ws,rfl,rfl,rfl,hr,hF2,hG2,hws⟩:=q1;subst hF2;subst hG2;subst hws;exact⟨v,F1,G1,by simp,hB,hr,by simpa using q2,by simpa using q3,by simpa using q4⟩
  unfold u4 at h3
  split at h3
  ·next rs=>
   obtain⟨F,G,q1,q2,q3,q4⟩:=fin h3.2;refine⟨_,F,G,by rw[dif_neg (by rw[h4,←hxl];exact h3.1)],hB,?_,q2,q3,q4⟩;simp only[jl];exact⟨_,rfl,by simpa using q1⟩
  ·next sz es=>
   obtain⟨za,hV⟩:=h3;unfold Q6 at hV
   split at hV
   ·next id len=>
    unfold IW at hV
    split at hV
    ·next nn gv es' gZ=>
     obtain⟨rfl,rfl,rfl,rfl⟩:=hV;have hm:=BR gZ;simp only[fA]at h2;obtain⟨v,r,rfl,w9,rfl⟩:=h2;obtain⟨q1,q2,q3⟩:=hu.each _ hm;rcases q3 with⟨_,_,_,K2⟩|⟨b,c,e,G,cs,rest,p1,p2,p3,p4,p5,p6,p7,p8⟩
     exact absurd rfl K2;simp only[aK]at p8;simp only[fx]at w9;obtain⟨ow,nn,Ep,UC,AT,hle,UM⟩:=w9;have yN:=hu.uniq hm AT;cases yN;have l9:∀x∈b::G,x∈fp g st.us:=fun x hx=>fL.2 ⟨_,hm,by rw[p8];exact hx⟩;rcases UM with⟨b',rU,rfl⟩|⟨K2,_⟩
     ·rw[p1]at rU;cases rU;refine⟨_,b::G,[],by simp;rfl,hB,?_,?_,fun x hx=>⟨fq fun gI=>hu.low x (l9 x hx) gI,by simp,hu.fz x (l9 x hx)⟩,by simp⟩
      ·simp only[jl];exact⟨trivial,q1,q2,b,c,e,G,cs,rest,g.cap id,by simp,rfl,p2,p3,p4,p5,p6⟩
      have hq:=hu.nodup;have:(g.φ id).Nodup:=gO hu hm;rw[p8]at this;exact this
     rw[p1]at K2;cases K2
    exact hV.elim
   exact hV.elim
  ·next d _=>
   obtain⟨za,hV⟩:=h3;unfold SD at hV
   split at hV
   ·next id=>
    unfold Ae at hV
    split at hV
    ·next nn gv es' gZ=>
     subst hV;have hm:=BR gZ;simp only[fA]at h2;obtain⟨v,r,rfl,w9,rfl⟩:=h2;obtain⟨q1,q2,q3⟩:=hu.each _ hm;rcases q3 with⟨_,K2,_⟩|⟨b,c,e,G,cs,rest,p1,p2,p3,p4,p5,p6,p7,p8⟩
     cases K2;simp only[kY,aH]at p8;simp only[fx]at w9;obtain⟨ow,nn,Ep,UC,b',AT,zb,wO,rU,UM⟩:=w9;have yN:=hu.uniq hm AT;cases yN;rw[p1]at rU;cases rU;have hd:d.size=gv:=q2 d (by simp);simp only[fR]at p6;obtain⟨F1,F2,x1,x2,rfl,rfl,p6,rfl,rfl⟩:=p6;have aar:b∈fp g st.us:=fL.2 ⟨_,hm,by rw[p8.1];simp⟩;refine⟨_,[b],F1,by simp;rfl,hB,?_,by simp,fun x hx=>?_,fun x hx=>?_⟩
     ·simp only[jl];exact⟨by omega,b,c,e,x1,rest,g.cap id,by rw[UM];simp,rfl,p2,by simpa using p3,by rw[hd];exact p4,by simpa using p5,p6⟩
     ·rw[am.1 hx];exact⟨fq fun gI=>hu.low b aar gI,fun hx=>(hu.sh b (p8.2 b (by simp[hx]))).2.2 aar,hu.fz b aar⟩
     obtain⟨z1,z2,_⟩:=hu.sh x (p8.2 x (by simp[hx]))
     by_cases gI:x<w.heap.size;exact .inr (z2 gI)
     exact .inl ⟨by omega,z1⟩
    exact hV.elim
   exact hV.elim
  exact single h3.2 h3.1
 cases e with
 |normal=>exact key hk
 |ret=>exact key hk
 |exit i=>exact hk.elim
 |goto l=>exact hk.elim
 |panic c=>exact hk.elim
 |outgrown=>exact hk.elim
def adm{c:Code}{rc:RC}{xs:List RV}{ds:List D}{r:tf}(hm : P.follows .mixedOrders = true)(hf : P.funcs[f]? = some fn)(hb : fn.body = some c)(rk : (fn.name == "runtime.NumGoroutine") = false)
  (fv:ma P wv fn.ntmps c=some rc) (uo:fn.results.toList.mapM (wl P)=some xs) (hn:ds.length≤fn.ntmps) (hq:D.vO ds→qu P rc (gR fn.ntmps ds) (FE xs r)):AF P f ds r:=
 Rk hf hb rk uo hn fun hd n0 S0 M0 w0 a w hs=>cG (Il hm c rc (gR fn.ntmps ds) _ a w fv hs (hq hd)) fun _ _ _ ⟨st,_,hk,nB⟩=>⟨st,hk,nB⟩
def zS(P:Program)(wv:Wv)(f:Nat):Option (Nat×RC×List RV):=do
 let fn←P.funcs[f]?
 let c←fn.body
 guard (!(fn.name == "runtime.NumGoroutine") = true)
 let rc←ma P wv fn.ntmps c
 let xs←fn.results.toList.mapM (wl P)
 pure (fn.ntmps,rc,xs)
def gq(P:Program)(f:Nat):Option (Nat×RC×List RV):=zS P .no f
variable {xs:List RV}{rc:RC}{r:tf}
def Gl{P:Program}{wv:Wv}(h:zS P wv f=some (n,rc,xs))(hm:Mx P)(hn:decide (ds.length≤n)=true)(hq:D.vO ds→qu P rc (gR n ds) (FE xs r)):AF P f ds r:=by
 unfold zS at h;simp only[oD,oB,oP,oS,fw,cM]at h;obtain⟨fn,hf,c,hb,_,rk,rc',fv,xs',uo,rfl,rfl,rfl⟩:=h;exact adm hm hf hb (by simpa using rk) fv uo (by simpa using hn) hq
def fH{P:Program}(h:gq P f=some (n,rc,xs))(hm:Mx P)(hn:decide (ds.length≤n)=true)(hq:D.vO ds→qu P rc (gR n ds) (FE xs r)):AF P f ds r:=
 Gl h hm hn hq
variable {i:Nat}
def sU:pQ i []=[]:=rfl
def qT:pQ i (d::ds)=(i,.im none d)::pQ (i+1) ds:=rfl
def Gu:gR n ds=⟨n,pQ 0 ds,[]⟩:=rfl
def DB:FE xs r .normal st=JX xs r st:=rfl
def NS:FE xs r .ret st=JX xs r st:=rfl
def J3:FE xs r (.exit i) st=False:=rfl
def QP:JX xs r st=ti st xs (u4 xs st r):=rfl
def Nj{k:List AV→Prop}:ti st [] k=k []:=rfl
attribute [go_sem] sU qT Gu DB NS J3 QP Nj
variable {x:RV}
def IC{k:List AV→Prop}:ti st (x::xs) k=rvK st x fun av=>ti st xs fun avs=>k (av::avs):=rfl
def acj{k:AV→Prop}:rvK st (.t n) k=k (st.get n):=rfl
def aa5{k:AV→Prop}:rvK st (.c n sz agg) k=zX (st.get n) st.unit agg sz (fun av _=>k av):=rfl
attribute [go_sem] IC acj aa5
variable {avs:List AV}
def OP:u4 [x] st (.own d) avs=qB avs [.own d] st:=by simp[u4]
def QV:u4 [x] st (.sh d) avs=qB avs [.sh d] st:=by simp[u4]
def N8:u4 [x] st (.ZU d) avs=SD st.unit d avs:=by simp[u4]
def Ts{id:Nat}:SD un d [.pw id 0 0]=Ae (un id) d:=rfl
attribute [go_sem] OP QV N8 Ts
variable {u u':Option U}
@[congr] def abC(h:u=u'):Ae u d=Ae u' d:=by rw[h]
variable {es:List D}{nn:Option Bool}
def Ly:Ae (some (.ar false nn sz es)) d=(es=[d]):=rfl
def Oa:u4 [x] st (.arr sz es) avs=Q6 st.unit sz es avs:=by simp[u4]
def TZ{id:Nat}:Q6 un sz es [.sm id 0 len]=IW (un id) sz len es:=rfl
@[congr] def aeW(h:u=u'):IW u sz len es=IW u' sz len es:=by rw[h]
attribute [go_sem] Ly Oa TZ
variable {gv:Nat}
def Q0{es':List D}:IW (some (.ar true nn gv es')) sz len es=(nn=some false∧gv=sz∧es'=es∧len=es.length):=rfl
attribute [go_sem] Q0
variable {rs:List tf}
def Mb{y:RV}:u4 (x::y::xs) st (.jS rs) avs=qB avs rs st:=by simp[u4]
def L1:qB [] [] st=True:=rfl
def Kv:qB (av::avs) (r::rs) st=Nm st av r (qB avs rs):=rfl
attribute [go_sem] Mb L1 Kv
variable {k:St→Prop}
def N0:Nm st av (.own d) k=mj st av (NW d k):=rfl
attribute [go_sem] N0
variable {fS:St}
@[congr] def aaC{v v':AV}{k:KT}(h:st=fS)(h':v=v'):mj st v k=mj fS v' k:=by rw[h,h']
def IT{k:KT}:mj st (.vb i len) k=it 12 st (.vb i len) k:=rfl
attribute [go_sem] IT
variable {t:Option Nat}
def IH{k:KT}:mj st (.im t d) k=gH st (.im t d) k:=rfl
def Kc{k:KT}:mj st (.tr i) k=gH st (.tr i) k:=rfl
def Kr{off:Nat}{k:KT}:mj st (.sm i off len) k=gH st (.sm i off len) k:=rfl
def J8{el j:Nat}{k:KT}:mj st (.cw i el j sz agg) k=gH st (.cw i el j sz agg) k:=rfl
def IJ{k:KT}:mj st (.sg vs) k=gH st (.sg vs) k:=rfl
def Ud:Nm st av (.sh d) k=uj st av d k:=rfl
def Lk{e:D}:uj st (.im t e) d k=gH st (.im t e) (Bc d k):=rfl
def MN:uj st (.tr i) d k=gH st (.tr i) (Bc d k):=rfl
def L0{off:Nat}:uj st (.sm i off len) d k=gH st (.sm i off len) (Bc d k):=rfl
def OR{el j:Nat}:uj st (.cw i el j sz agg) d k=gH st (.cw i el j sz agg) (Bc d k):=rfl
def Ob:uj st (.vb i len) d k=qC st (.vb i len) fun d' fS=>d'.Le d∧k fS:=rfl
def Ou:uj st (.sg vs) d k=if vs.any AV.aaq=true then tU st vs (DJ d k)else gH st (.sg vs) (Bc d k):=rfl
def Js{k:D→St→Prop}:qC st (.vb i len) k=PU (HQ st.unit (.vb i len)) fun d=>k d (st.del i):=rfl
def IA{k:D→St→Prop}:qC st (.im t d) k=PU (HQ st.unit (.im t d)) fun d=>k d st:=rfl
def NM{k:D→Prop}:PU (some d) k=k d:=rfl
def J9{k:List D→St→Prop}:tU st [] k=k [] st:=rfl
attribute [go_sem] IH Kc Kr J8 IJ Ud Lk MN L0 OR Ob Ou Js IA NM J9
variable {a:AV}
def F5{r:List AV}{k:List D→St→Prop}:tU st (a::r) k=qC st a fun d nj=>tU nj r fun ds KW=>k (d::ds) KW:=rfl
def OV:DJ d k ds st=PU (Vl ds) fun d'=>d'.Le d∧k st:=rfl
attribute [go_sem] F5 OV
attribute [go_sem] HQ AV.aaq Vl
def QT{own:Bool}{d':D}:NW d k own d' fS=(own=true∧d'.Le d∧k fS):=rfl
def Ux{own:Bool}{d':D}:Bc d k own d' fS=(d'.Le d∧k fS):=rfl
def EP:D.Le d d=True:=eq_true (D.Le.refl d)
attribute [go_sem] QT Ux EP
def D.Le.gm{a b:Value}(h:a=b):D.Le (.sc a) (.sc b):=h▸D.Le.refl _
def rE:Nat→List AV→List (Nat×AV)
 |_,[]=>[]
 |i,a::as=>(i,a)::rE (i+1) as
def stW(n:Nat)(us:List U)(as:List AV):St:=⟨n,rE 0 as,jh 0 us⟩
def PX:U→Prop
 |.ar _ _ _ es=>D.vO es
 |.own d=>d.bd
 |.bx _ _=>True
 |.sb _ _ _=>True
 |.mp _=>True
def F9:List U→Prop
 | []=>True
 |u::r=>PX u∧F9 r
def bdA:AV→Prop
 |.im _ d=>d.bd
 |_=>True
def Rr:List AV→Prop
 | []=>True
 |a::r=>bdA a∧Rr r
variable {us:List U}
def SE(H:∀u∈us,PX u):F9 us:=by
 induction us with
 |nil=>simp[F9]
 |cons u r ih=>exact⟨H u (by simp),ih fun v hv=>H v (by simp[hv])⟩
def Sk.bd(hW:Sk h iD us g):F9 us:=by
 refine SE fun u hu=>?_;obtain⟨i,hi,rfl⟩:=dQ hu;have hm:(3000000000+(0+i),us[i])∈jh 0 us:=jJ.2 ⟨i,us[i],by simp[hi],rfl⟩;have ho:=hW.each _ hm;generalize us[i]=u at ho;cases u with
 |ar ow nn sz es=>
  simp only[hP]at ho;simp only[PX];rcases ho.2.2 with⟨_,rfl,_⟩|⟨b,c,e,G,cs,rest,_,_,_,_,_,k6,_⟩
  simp[D.vO];exact k6.bd
 |own d=>
  simp only[hP]at ho;exact ho.2.1.bd
 |bx sz items=>simp[PX]
 |sb T E s=>simp[PX]
 |mp es=>simp[PX]
def Nb(st:St)(av:AV)(r:tf)(k:St→Prop):Prop:=
 match r with
 |.own d=>mj st av (NW d k)
 |_=>False
def tT(k:St→Prop):List AV→List tf→St→Prop
 | [],[],st=>k st
 |av::avs,r::rs,st=>Nb st av r (tT k avs rs)
 |_,_,_=>False
def Iu(u:Option U)(x:U):Prop:=
 match u,x with
 |some (.ar ow nn sz es),.ar ow' jc gv es'=>ow=ow'∧nn=none∧jc=none∧sz=gv∧es=es'
 |some (.bx sz items),.bx gv g9=>sz=gv∧items=g9
 |some (.sb T E s),.sb T' E' s'=>T=T'∧E=E'∧s=s'
 |_,_=>False
def tP(st:St):Nat→List U→Prop
 |_,[]=>True
 |i,x::r=>Iu (st.unit (3000000000+i)) x∧tP st (i+1) r
def vZ(xs:List RV)(us':List U)(st:St)(r:tf)(avs:List AV):Prop:=
 match r with
 |.jS rs=>xs.length≠1∧tT (fun st=>tP st 0 us') avs rs st
 |r=>xs.length=1∧tT (fun st=>tP st 0 us') avs [r] st
def DL(xs:List RV)(us':List U)(r:tf)(st:St):Prop:=ti st xs (vZ xs us' st r)
def Mk(xs:List RV)(us':List U)(r:tf)(e:Exit)(st:St):Prop:=
 match e with
 |.normal=>DL xs us' r st
 |.ret=>DL xs us' r st
 |_=>False
attribute [go_sem] Option.isSome_none Option.isSome_some
def DY:rE i []=[]:=rfl
def BX{as:List AV}:rE i (a::as)=(i,a)::rE (i+1) as:=rfl
def YD{as:List AV}:stW n us as=⟨n,rE 0 as,jh 0 us⟩:=rfl
def MI:jh i []=[]:=rfl
def KC{u:U}{r:List U}:jh i (u::r)=(3000000000+i,u)::jh (i+1) r:=rfl
attribute [go_sem] DY BX YD MI KC
variable {us':List U}
def Bv:Mk xs us' r .normal st=DL xs us' r st:=rfl
def Jt:Mk xs us' r .ret st=DL xs us' r st:=rfl
def FZ:Mk xs us' r (.exit i) st=False:=rfl
def LJ:DL xs us' r st=ti st xs (vZ xs us' st r):=rfl
def Jz:vZ [x] us' st (.own d) avs=tT (fun st=>tP st 0 us') avs [.own d] st:=by simp[vZ]
def FB:vZ [] us' st (.jS rs) avs=tT (fun st=>tP st 0 us') avs rs st:=by simp[vZ]
def JH{y:RV}:vZ (x::y::xs) us' st (.jS rs) avs=tT (fun st=>tP st 0 us') avs rs st:=by simp[vZ]
def JY:tT k [] [] st=k st:=rfl
def EQ:tT k (av::avs) (r::rs) st=Nb st av r (tT k avs rs):=rfl
def H5:Nb st av (.own d) k=mj st av (NW d k):=rfl
def JO:tP st i []=True:=rfl
def FN{x:U}{r:List U}:tP st i (x::r)=(Iu (st.unit (3000000000+i)) x∧tP st (i+1) r):=rfl
@[congr] def afo{x:U}(h:u=u'):Iu u x=Iu u' x:=by rw[h]
def So{ow:Bool}{ow':Bool}{jc:Option Bool}{es':List D}:Iu (some (.ar ow nn sz es)) (.ar ow' jc gv es')=(ow=ow'∧nn=none∧jc=none∧sz=gv∧es=es'):=rfl
def Ri{items:List AV}{g9:List AV}:Iu (some (.bx sz items)) (.bx gv g9)=(sz=gv∧items=g9):=rfl
def OI:F9 []=True:=rfl
def Jj{u:U}{r:List U}:F9 (u::r)=(PX u∧F9 r):=rfl
def YW{ow:Bool}:PX (.ar ow nn sz es)=D.vO es:=rfl
def SY:PX (.own d)=d.bd:=rfl
def Xg{items:List AV}:PX (.bx sz items)=True:=rfl
def Ot:Rr []=True:=rfl
def JD{r:List AV}:Rr (a::r)=(bdA a∧Rr r):=rfl
def Zf:bdA (.im t d)=d.bd:=rfl
attribute [go_sem] Bv Jt FZ LJ Jz FB JH JY EQ H5 JO FN So Ri OI Jj YW SY Xg Ot JD Zf
end Go.Ax
